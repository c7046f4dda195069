/-
  PROVED: what Own, End and Tick of busctl and of metronomeref18 compute. Conditions: none.
-/
import Derived.Test.YtjceiokllpmnkaaGreatCc
namespace Go.Ev.M
open Go.Proofs
set_option maxRecDepth 100000
set_option linter.unusedVariables false
set_option linter.unusedSimpArgs false
open Go.Ev.Pl
def ug:vX:=(0,0,(0,0,0,0,0),0,([]:List Int))
def Kf(A:bK)(m:ax)(n:Node):LT (Node×Int) Empty:=.need (A.k (@tt Node) n) (.need (A.k (@tt (ax×Node×Bool)) (m,n,(A.k cy n))) (.need (A.k (@tt (ax×Node×Bool)) (m,n,(A.k cy n))) (.need (A.k (@tt Node) n) (.br (A.c .neq (A.k b_ (m,n,(A.k cy n))).2 0) (.ret ((0,0,(0,0,0,0,0),(0,0,0,0,0,0,0),0,false,0,0,([]:List Int),([]:List cd),0,0),(A.k b_ (m,n,(A.k cy n))).2)) (.need (A.k (@tt (eG×Int)) ((A.k b_ (m,n,(A.k cy n))).1.2.2.1,m.1)) (.br (A.c .eql (A.k qQ ((A.k b_ (m,n,(A.k cy n))).1.2.2.1,m.1)).2 0) (.br (A.c .eql (A.k qQ ((A.k b_ (m,n,(A.k cy n))).1.2.2.1,m.1)).1.2.1 0) (.need (A.k (@tt dQ) (A.k b_ (m,n,(A.k cy n))).1.2.2.2.2.2.2.2) (.ret (((A.k b_ (m,n,(A.k cy n))).1.1,(A.k b_ (m,n,(A.k cy n))).1.2.1,(A.k qQ ((A.k b_ (m,n,(A.k cy n))).1.2.2.1,m.1)).1,(A.k b_ (m,n,(A.k cy n))).1.2.2.2.1,(A.k b_ (m,n,(A.k cy n))).1.2.2.2.2.1,(A.k b_ (m,n,(A.k cy n))).1.2.2.2.2.2.1,(A.k b_ (m,n,(A.k cy n))).1.2.2.2.2.2.2.1,(A.k ED (A.k b_ (m,n,(A.k cy n))).1.2.2.2.2.2.2.2).1),(A.k ED (A.k b_ (m,n,(A.k cy n))).1.2.2.2.2.2.2.2).2))) (.ret (((A.k b_ (m,n,(A.k cy n))).1.1,(A.k b_ (m,n,(A.k cy n))).1.2.1,(A.k qQ ((A.k b_ (m,n,(A.k cy n))).1.2.2.1,m.1)).1,(A.k b_ (m,n,(A.k cy n))).1.2.2.2),(A.k qQ ((A.k b_ (m,n,(A.k cy n))).1.2.2.1,m.1)).2))) (.ret (((A.k b_ (m,n,(A.k cy n))).1.1,(A.k b_ (m,n,(A.k cy n))).1.2.1,(A.k qQ ((A.k b_ (m,n,(A.k cy n))).1.2.2.1,m.1)).1,(A.k b_ (m,n,(A.k cy n))).1.2.2.2),(A.k qQ ((A.k b_ (m,n,(A.k cy n))).1.2.2.1,m.1)).2))))))))
def JO(m:ax)(n:Node):Node×Int:=
 bif decide (fD m n=0) then
  bif sF n then
   bif decide ((lq n.2.2.1 m.1).1.2.1=0) then((n.1,n.2.1,(lq n.2.2.1 m.1).1,n.2.2.2.1,n.2.2.2.2.1,n.2.2.2.2.2.1,n.2.2.2.2.2.2.1,(CJ n.2.2.2.2.2.2.2).1),0)
   else((n.1,n.2.1,(lq n.2.2.1 m.1).1,n.2.2.2),0)
  else(gy,181)
 else(gy,fD m n)
theorem step_ok{m:ax}{n:Node}(h:fD m n=0)(h1:sF n=true):(lq n.2.2.1 m.1).2=0:=by
 have hc:=(kU.1 (iF h).2).2.2.2.2.2.2.2.1
 rw[ub,h1,cond_true,Bool.and_eq_true] at hc
 have hf:=hc.1
 simp only[iR,Bool.and_eq_true,decide_eq_true_eq] at hf
 rw[lq,decide_eq_true hf.1]
 cases decide (n.2.2.1.2.1+1=m.1)<;>cases decide (n.2.2.1.2.2.2.1=0)<;>rfl
theorem Kq{m:ax}{n:Node}(h:fD m n=0):(CJ n.2.2.2.2.2.2.2).2=0:=by
 rw[CJ,rC h];rfl
theorem N6{m:ax}{n:Node}:aK Empty.elim (Kf ai m n) (JO m n):=by
 unfold Kf JO
 refine af.2 ⟨rfl,af.2 ⟨rfl,?_⟩⟩
 repeat' (refine af.2 ⟨rfl,?_⟩)
 rw[show ai.k b_ (m,n,ai.k cy n)=iK m n (sF n) from rfl,iK]
 by_cases h:fD m n=0
 ·rw[decide_eq_true h,cond_true,cond_true]
  cases h1:sF n
  ·exact(ak rfl).2 (.ret _)
  have hs:=step_ok h h1
  have hr:=Kq h
  rw[cond_true,cond_true]
  refine(aj rfl).2 (af.2 ⟨rfl,(ak (Ia hs)).2 (aV (p:=(lq n.2.2.1 m.1).1.2.1=0) bW (fun h2=>af.2 ⟨rfl,aI ?_ (.ret _)⟩) fun h2=>aI ?_ (.ret _))⟩)
  ·rw[decide_eq_true h2];exact congrArg (Prod.mk _) hr
  ·rw[decide_eq_false h2];exact congrArg (Prod.mk _) hs
 ·rw[decide_eq_false h];exact(ak (rh h)).2 (.ret _)
def SL:(ax×Node)→(Node×Int):=fun(m,n)=>JO m n
def Jt:aG:=⟨[cr,dH], [dH,yI],(@tt (ax×Node)),SL⟩
theorem Ms:Sd 17 Jt:=a_ aA dY true 80 [] (fun A (m,n)=>Kf A m n) (fc Tryz.func17 fz) (sc xM (sc AJ (sc R1 (sc Um sz)))) fun(m,n) hp h=>N6
open Go.Ev.Pl
def t23(A:bK)(mId:Int)(mN:Int)(mSet:Int)(mAcc:Int)(mFail:Int)(mStage:Int)(mFirst:Int):LT (kw×Int×Int) Empty:=.need (A.k (@tt ((Int×Int×Int×Int×Int×Int×Int))) (mId,mN,mSet,mAcc,mFail,mStage,mFirst)) (.br (A.c .neq (A.k iH (mId,mN,mSet,mAcc,mFail,mStage,mFirst)) 0) (.ret ((0,0,0,0,0,0,0),0,(A.k iH (mId,mN,mSet,mAcc,mFail,mStage,mFirst)))) (.br (A.c .leq mAcc mFail) (.ret ((mId,mN,mSet,mAcc,mFail,mStage,mFirst),2,0)) (.need (A.c .leq 0 mId) (.ret ((mId,mN,(A.b .or .i64 mSet (A.b .shl .i64 1 mId)),1,0,1,0),1,0)))))
def nG:kw→(kw×Int×Int):=fun(mId,mN,mSet,mAcc,mFail,mStage,mFirst)=>(t23 ai mId mN mSet mAcc mFail mStage mFirst).val (Ty.cq [uQ,yI,yI])
def Xc:aG:=⟨[uQ], [uQ,yI,yI],(@tt kw),nG⟩
theorem S9:Sd 326 Xc:=aO aA dY true 67 [] (fun A (mId,mN,mSet,mAcc,mFail,mStage,mFirst)=>t23 A mId mN mSet mAcc mFail mStage mFirst) (fc Tryz.func326 fz) (sc zl sz) (fun((mId,mN,mSet,mAcc,mFail,mStage,mFirst):kw) hp h=>by
 show(t23 ai mId mN mSet mAcc mFail mStage mFirst).pre=true
 simp only[t23,LT.pre,eE,aC,aB,ar,ay,aL,aS,aM,bg,ek,al,bq,bl,bp,cf,dh,Bool.and_eq_true,Bool.or_eq_true,Bool.and_eq_false_iff,Bool.or_eq_false_iff,Bool.not_eq_true',Bool.not_eq_false',decide_eq_true_eq,decide_eq_false_iff_not,bne_iff_ne,beq_iff_eq,bne_eq_false_iff_eq,beq_eq_false_iff_ne]
 simp only[Ty.dM,Ty.has,mj] at h
 (repeat' (first|intro _|constructor))<;>(try (have hm:=ft.1 (by assumption);unfold gS at hm;omega)))
def t27(A:bK)(mId:Int)(mN:Int)(mSet:Int)(mAcc:Int)(mFail:Int)(mStage:Int)(mFirst:Int):LT (kw×Int×Int) Empty:=.need (A.k (@tt ((Int×Int×Int×Int×Int×Int×Int))) (mId,mN,mSet,mAcc,mFail,mStage,mFirst)) (.br (A.c .eql (A.k iH (mId,mN,mSet,mAcc,mFail,mStage,mFirst)) 0) (.br (A.c .eql mAcc 0) (.br (A.c .eql mFail 0) (.ret ((mId,mN,mSet,mAcc,mFail,mStage,mFirst),3,0)) (.need (A.k (@tt kw) (mId,mN,mSet,mAcc,mFail,mStage,mFirst)) (.ret (A.k nG (mId,mN,mSet,mAcc,mFail,mStage,mFirst))))) (.need (A.k (@tt kw) (mId,mN,mSet,mAcc,mFail,mStage,mFirst)) (.ret (A.k nG (mId,mN,mSet,mAcc,mFail,mStage,mFirst))))) (.need (A.k (@tt kw) (mId,mN,mSet,mAcc,mFail,mStage,mFirst)) (.ret (A.k nG (mId,mN,mSet,mAcc,mFail,mStage,mFirst)))))
def qX:kw→(kw×Int×Int):=fun(mId,mN,mSet,mAcc,mFail,mStage,mFirst)=>(t27 ai mId mN mSet mAcc mFail mStage mFirst).val (Ty.cq [uQ,yI,yI])
def Wd:aG:=⟨[uQ], [uQ,yI,yI],(@tt kw),qX⟩
theorem XB:Sd 327 Wd:=aO aA dY true 43 [] (fun A (mId,mN,mSet,mAcc,mFail,mStage,mFirst)=>t27 A mId mN mSet mAcc mFail mStage mFirst) (fc Tryz.func327 fz) (sc S9 (sc zl sz)) (fun((mId,mN,mSet,mAcc,mFail,mStage,mFirst):kw) hp h=>by
 show(t27 ai mId mN mSet mAcc mFail mStage mFirst).pre=true
 simp only[t27,LT.pre,eE,aC,aB,ar,ay,aL,aS,aM,bg,ek,al,bq,bl,bp,cf,dh,Bool.and_eq_true,Bool.or_eq_true,Bool.and_eq_false_iff,Bool.or_eq_false_iff,Bool.not_eq_true',Bool.not_eq_false',decide_eq_true_eq,decide_eq_false_iff_not,bne_iff_ne,beq_iff_eq,bne_eq_false_iff_eq,beq_eq_false_iff_ne]
 simp only[Ty.dM,Ty.has,mj,zW] at h
 (repeat' (first|intro _|constructor))<;>(try omega))
def Ko(A:bK)(n:Node):LT (kw×Int) Empty:=.br (A.c .eql n.2.1 2) (.br (A.c .lss n.2.2.2.1.2.2.2.1 2) (.ret (n.2.2.2.1,4)) (.br (A.c .leq n.2.2.2.1.2.2.2.1 n.2.2.2.1.2.2.2.2.1) (.ret (n.2.2.2.1,4)) (.br (A.c .eql n.2.1 3) (.need (A.k (@tt kw) n.2.2.2.1) (.br (A.c .neq (A.k qX n.2.2.2.1).2.2 0) (.ret (n.2.2.2.1,4)) (.ret ((A.k qX n.2.2.2.1).1,(A.k qX n.2.2.2.1).2.1)))) (.need (A.k (@tt kw) n.2.2.2.1) (.br (A.c .neq (A.k nG n.2.2.2.1).2.2 0) (.ret (n.2.2.2.1,4)) (.ret ((A.k nG n.2.2.2.1).1,(A.k nG n.2.2.2.1).2.1))))))) (.br (A.c .eql n.2.1 3) (.need (A.k (@tt kw) n.2.2.2.1) (.br (A.c .neq (A.k qX n.2.2.2.1).2.2 0) (.ret (n.2.2.2.1,4)) (.ret ((A.k qX n.2.2.2.1).1,(A.k qX n.2.2.2.1).2.1)))) (.need (A.k (@tt kw) n.2.2.2.1) (.br (A.c .neq (A.k nG n.2.2.2.1).2.2 0) (.ret (n.2.2.2.1,4)) (.ret ((A.k nG n.2.2.2.1).1,(A.k nG n.2.2.2.1).2.1)))))
def r8(n:Node):kw×Int:=bif decide (n.2.1=2)&&(decide (n.2.2.2.1.2.2.2.1<2)||decide (n.2.2.2.1.2.2.2.1≤n.2.2.2.1.2.2.2.2.1)) then(n.2.2.2.1,4) else bif decide (n.2.1=3) then((qX n.2.2.2.1).1,(qX n.2.2.2.1).2.1) else((nG n.2.2.2.1).1,(nG n.2.2.2.1).2.1)
theorem Il{v:kw}(h:tO v=0):(nG v).2.2=0:=by
 obtain⟨a,b,c,d,e,f,g⟩:=v
 simp only[nG,t23,LT.val,al,VL,h]
 cases ai.c .leq d e<;>rfl
theorem PG{n:Node}(h:tO n.2.2.2.1=0):aK Empty.elim (Ko ai n) (r8 n):=by
 unfold Ko r8
 have h23:=Il h
 have h27:(qX n.2.2.2.1).2.2=0:=by
  generalize n.2.2.2.1=v at *
  obtain⟨a,b,c,d,e,f,g⟩:=v
  simp only[qX,t27,LT.val,al,VL,h]
  simp only[Bool.cond_eq_ite]
  repeat' split
  all_goals first|rfl|exact h23
 have e23:ai.c .neq (ai.k nG n.2.2.2.1).2.2 0=false:=uR h23
 have e27:ai.c .neq (ai.k qX n.2.2.2.1).2.2 0=false:=uR h27
 refine aV (p:=n.2.1=2) bW (fun g=>aV (p:=n.2.2.2.1.2.2.2.1<2) rfl (fun g1=>aI ?_ (.ret _)) fun g1=>aV (p:=n.2.2.2.1.2.2.2.1≤n.2.2.2.1.2.2.2.2.1) rfl (fun g2=>aI ?_ (.ret _)) fun g2=>(aj (by rw[bW];exact decide_eq_false (by omega))).2 (af.2 ⟨rfl,(aj e23).2 (aI ?_ (.ret _))⟩)) fun g=>aV (p:=n.2.1=3) bW (fun g3=>af.2 ⟨rfl,(aj e27).2 (aI ?_ (.ret _))⟩) fun g3=>af.2 ⟨rfl,(aj e23).2 (aI ?_ (.ret _))⟩
 ·rw[decide_eq_true g,decide_eq_true g1];rfl
 ·rw[decide_eq_true g,decide_eq_true g2,Bool.or_true];rfl
 ·rw[decide_eq_true g,decide_eq_false g1,decide_eq_false g2,decide_eq_false (show ¬n.2.1=3 by omega)];rfl
 ·rw[decide_eq_false g,decide_eq_true g3];rfl
 ·rw[decide_eq_false g,decide_eq_false g3];rfl
def sJ:Node→(kw×Int):=r8
def Fy:Node→Bool:=fun n=>decide (tO n.2.2.2.1=0)
def Qn:aG:=⟨[dH], [uQ,yI],Fy,sJ⟩
theorem Qy:Sd 294 Qn:=a_ aA dY true 83 [] (fun A n=>Ko A n) (fc Tryz.func294 fz) (sc S9 (sc XB sz)) fun(n:Node) hp h=>PG (of_decide_eq_true hp)
open Go.Ev.Pl
def L3(m:ax)(k n:Int):Int:=ai.n yI (ai.n bE m.2.2.2.2.2.2.2 k:Mode).1 n
def BL(m:ax)(n:Node):Int:=L3 m n.2.2.1.2.2.1 n.1
def Rb(m:ax)(n:Node):Int:=bif decide ((rJ m n.2.2.1 n.2.2.2.2.2.2.2.2.2.2.2).2=0) then(rJ m n.2.2.1 n.2.2.2.2.2.2.2.2.2.2.2).1 else 0
def w7(m:ax)(n:Node):vX:=((d_ m n.2.2.1.2.2.1 n.1).1,Rb m n,n.2.2.1,0,bif decide ((d_ m n.2.2.1.2.2.1 n.1).1=3) then([]:List Int) else(s_ n.2.2.2.2.2.2.2 (BL m n)).1)
def Cb(m:ax)(n:Node):Bool:=decide ((d_ m n.2.2.1.2.2.1 n.1).2=0)&&gh n.2.2.2.2.2.2.2
theorem F6{m:ax}{n:Int}(hm:eO m=true)(h1:0≤n∧n≤m.1-1)(x:Mode)(hx:jQ m x=true):0≤x.1.getD n.toNat 0∧x.1.getD n.toNat 0≤8:=by
 have hl:=kE hx
 have hc:=(gE hm).2.2.1
 simp only[jQ,Bool.and_eq_true] at hx
 have ha:=hx.2
 have l1:m.2.2.2.2.2.2.1.length=x.1.length:=by omega
 have l2:x.2.1.length=x.1.length:=by omega
 rw[tj l1 l2,Bool.and_eq_true] at ha
 have hi:n.toNat<x.1.length:=by omega
 rw[List.getD_eq_getElem?_getD,List.getElem?_eq_getElem hi]
 have:=List.all_eq_true.1 ha.1 _ (List.getElem_mem hi)
 simpa using this
theorem Fv{m:ax}{k n:Int}(hm:eO m=true)(h1:0≤n∧n≤m.1-1)(h2:0≤k∧k<dF m):0≤L3 m k n∧L3 m k n≤8:=F6 hm h1 _ (o7 hm h2.1 h2.2)
theorem CZ{c:dQ}{k:Int}(h:gh c=true)(h1:0≤k∧k≤8):(s_ c k).2=0:=by
 rw[s_,h,cond_true,decide_eq_true h1];rfl
def KA(A:bK)(m:ax)(n:Node):LT (vX×Int) Empty:=.need (A.k (@tt (ax×Int×Int)) (m,n.2.2.1.2.2.1,n.1)) (.br (A.c .neq (A.k gP (m,n.2.2.1.2.2.1,n.1)).2 0) (.ret ((0,0,(0,0,0,0,0),0,([]:List Int)),(A.k gP (m,n.2.2.1.2.2.1,n.1)).2)) (.need (A.k (@tt (ax×eG×Int)) (m,n.2.2.1,n.2.2.2.2.2.2.2.2.2.2.2)) (.br (A.c .eql (A.k xO (m,n.2.2.1,n.2.2.2.2.2.2.2.2.2.2.2)).2 0) (.br (A.c .eql (A.k gP (m,n.2.2.1.2.2.1,n.1)).1 3) (.ret (((A.k gP (m,n.2.2.1.2.2.1,n.1)).1,(A.k xO (m,n.2.2.1,n.2.2.2.2.2.2.2.2.2.2.2)).1,n.2.2.1,0,([]:List Int)),0)) (.need (A.and (A.c .leq 0 n.2.2.1.2.2.1) (A.c .lss n.2.2.1.2.2.1 (A.l m.2.2.2.2.2.2.2))) (.need (A.and (A.c .leq 0 n.1) (A.c .lss n.1 (A.l (A.n bE m.2.2.2.2.2.2.2 n.2.2.1.2.2.1:Mode).1))) (.need (A.k (@tt (dQ×Int)) (n.2.2.2.2.2.2.2,(A.n yI (A.n bE m.2.2.2.2.2.2.2 n.2.2.1.2.2.1:Mode).1 n.1:Int))) (.ret (((A.k gP (m,n.2.2.1.2.2.1,n.1)).1,(A.k xO (m,n.2.2.1,n.2.2.2.2.2.2.2.2.2.2.2)).1,n.2.2.1,0,(A.k vq (n.2.2.2.2.2.2.2,(A.n yI (A.n bE m.2.2.2.2.2.2.2 n.2.2.1.2.2.1:Mode).1 n.1:Int))).1),(A.k vq (n.2.2.2.2.2.2.2,(A.n yI (A.n bE m.2.2.2.2.2.2.2 n.2.2.1.2.2.1:Mode).1 n.1:Int))).2)))))) (.br (A.c .eql (A.k gP (m,n.2.2.1.2.2.1,n.1)).1 3) (.ret (((A.k gP (m,n.2.2.1.2.2.1,n.1)).1,0,n.2.2.1,0,([]:List Int)),0)) (.need (A.and (A.c .leq 0 n.2.2.1.2.2.1) (A.c .lss n.2.2.1.2.2.1 (A.l m.2.2.2.2.2.2.2))) (.need (A.and (A.c .leq 0 n.1) (A.c .lss n.1 (A.l (A.n bE m.2.2.2.2.2.2.2 n.2.2.1.2.2.1:Mode).1))) (.need (A.k (@tt (dQ×Int)) (n.2.2.2.2.2.2.2,(A.n yI (A.n bE m.2.2.2.2.2.2.2 n.2.2.1.2.2.1:Mode).1 n.1:Int))) (.ret (((A.k gP (m,n.2.2.1.2.2.1,n.1)).1,0,n.2.2.1,0,(A.k vq (n.2.2.2.2.2.2.2,(A.n yI (A.n bE m.2.2.2.2.2.2.2 n.2.2.1.2.2.1:Mode).1 n.1:Int))).1),(A.k vq (n.2.2.2.2.2.2.2,(A.n yI (A.n bE m.2.2.2.2.2.2.2 n.2.2.1.2.2.1:Mode).1 n.1:Int))).2)))))))))
theorem Pp{m:ax}{n:Node}(h:Cb m n=true):aK Empty.elim (KA ai m n) (w7 m n,0):=by
 rw[Cb,Bool.and_eq_true,decide_eq_true_eq] at h
 obtain⟨hm,h1,h2⟩:=pQ h.1
 have hx:=kE (o7 hm h2.1 h2.2)
 have hz:=CZ h.2 (Fv hm h1 h2)
 unfold KA w7 Rb
 rw[show ai.k gP (m,n.2.2.1.2.2.1,n.1)=d_ m n.2.2.1.2.2.1 n.1 from rfl,show ai.k xO (m,n.2.2.1,n.2.2.2.2.2.2.2.2.2.2.2)=rJ m n.2.2.1 n.2.2.2.2.2.2.2.2.2.2.2 from rfl,show ai.k vq (n.2.2.2.2.2.2.2,(ai.n yI (ai.n bE m.2.2.2.2.2.2.2 n.2.2.1.2.2.1:Mode).1 n.1:Int))=s_ n.2.2.2.2.2.2.2 (BL m n) from rfl]
 have tl:∀q:Int,aK (R:=vX×Int) Empty.elim (.br (ai.c .eql (d_ m n.2.2.1.2.2.1 n.1).1 3) (.ret (((d_ m n.2.2.1.2.2.1 n.1).1,q,n.2.2.1,0,([]:List Int)),0)) (.need (ai.and (ai.c .leq 0 n.2.2.1.2.2.1) (ai.c .lss n.2.2.1.2.2.1 (ai.l m.2.2.2.2.2.2.2))) (.need (ai.and (ai.c .leq 0 n.1) (ai.c .lss n.1 (ai.l (ai.n bE m.2.2.2.2.2.2.2 n.2.2.1.2.2.1:Mode).1))) (.need true (.ret (((d_ m n.2.2.1.2.2.1 n.1).1,q,n.2.2.1,0,(s_ n.2.2.2.2.2.2.2 (BL m n)).1),(s_ n.2.2.2.2.2.2.2 (BL m n)).2)))))) (((d_ m n.2.2.1.2.2.1 n.1).1,q,n.2.2.1,0,bif decide ((d_ m n.2.2.1.2.2.1 n.1).1=3) then([]:List Int) else(s_ n.2.2.2.2.2.2.2 (BL m n)).1),0):=fun q=>
  aV (p:=(d_ m n.2.2.1.2.2.1 n.1).1=3) bW (fun g=>aI (by rw[decide_eq_true g];rfl) (.ret _)) fun g=>af.2 ⟨mI h2.1 h2.2,af.2 ⟨oq hx.1 h1.1 (by omega),af.2 ⟨rfl,aI (by rw[decide_eq_false g,show(s_ n.2.2.2.2.2.2.2 (BL m n)).2=0 from hz];rfl) (.ret _)⟩⟩⟩
 refine af.2 ⟨rfl,(aj (uR h.1)).2 (af.2 ⟨rfl,aV (p:=(rJ m n.2.2.1 n.2.2.2.2.2.2.2.2.2.2.2).2=0) bW (fun g=>?_) fun g=>?_⟩)⟩
 ·rw[decide_eq_true g];exact tl _
 ·rw[decide_eq_false g];exact tl _
def nh:(ax×Node)→(vX×Int):=fun(m,n)=>(w7 m n,0)
def EK:(ax×Node)→Bool:=fun(m,n)=>Cb m n
def Uf:aG:=⟨[cr,dH], [GB,yI],EK,nh⟩
theorem MH:Sd 296 Uf:=a_ aA dY true 111 [] (fun A (m,n)=>KA A m n) (fc Tryz.func296 fz) (sc IG (sc TR (sc Qw sz))) fun((m,n):ax×Node) hp h=>Pp hp
open Go.Ev.Pl
def T6(n:Node)(v:kw):Node:=(n.1,4,(n.2.2.1.1,n.2.2.1.2.1,n.2.2.1.2.2.1,n.2.2.1.2.2.2.1,v.2.2.1),v,n.2.2.2.2.1,false,n.2.2.2.2.2.2)
def JE(n:Node)(s t:Int)(b:Bool)(st:Int):Node:=(n.1,s,(0,0,0,0,0),(0,0,0,0,0,0,0),t,b,st,n.2.2.2.2.2.2.2)
def K0(m:ax)(n:Node):Node×vX×Bool×Int:=((n.1,n.2.1,vH m n.2.2.1 (w7 m n).2.1,n.2.2.2),w7 m n,true,0)
def Dd(m:ax)(n:Node):Node×vX×Bool×Int:=bif decide ((r8 n).2=2) then(JE n 5 0 false 1,ug,false,0) else bif decide ((r8 n).2=3) then(JE n 1 (Cv m n.1).1 n.2.2.2.2.2.1 2,ug,false,0) else bif decide ((r8 n).2=4) then(JE n 1 (zm m n.1).1 n.2.2.2.2.2.1 n.2.2.2.2.2.2.1,ug,false,0) else K0 m (T6 n (r8 n).1)
def Ww(m:ax)(n:Node):Node×vX×Bool×Int:=bif decide (fD m n=0) then(bif sF n&&decide (n.2.2.1.2.1=n.1) then Dd m n else(gy,ug,false,181)) else(gy,ug,false,fD m n)
theorem AL{m:ax}{n:Node}(h:fD m n=0)(h1:sF n=true):iR m n.2.2.1=true∧tO n.2.2.2.1=0∧n.2.2.2.1.1=n.1∧n.2.2.2.1.2.1=m.1∧n.2.2.1.2.2.2.2=n.2.2.2.1.2.2.1:=by
 have hc:=(kU.1 (iF h).2).2.2.2.2.2.2.2.1
 rw[ub,h1,cond_true] at hc
 simpa only[Bool.and_eq_true,decide_eq_true_eq] using hc
theorem Hw{m:ax}{k n:Int}(hm:eO m=true)(h1:0≤n∧n≤m.1-1)(h2:0≤k∧k<dF m):(d_ m k n).2=0:=by
 rw[d_,iG,hm,cond_true,decide_eq_true h1,decide_eq_true (show 0≤k∧k≤dF m-1 by omega)];rfl
theorem Im{m:ax}{c:eG}(h:iR m c=true):jZ (c,m.1)=0∧(0≤c.2.2.1∧c.2.2.1<dF m)∧c.2.2.2.1≤dF m:=by
 simp only[iR,Bool.and_eq_true,decide_eq_true_eq] at h
 exact⟨h.1,⟨(xe h.1).2.2.2.1.1,h.2.1⟩,h.2.2⟩
theorem JY{m:ax}{n:Node}{v:kw}(h:fD m n=0)(h1:sF n=true):Cb m (T6 n v)=true:=by
 have hz:=kU.1 (iF h).2
 rw[Cb,Bool.and_eq_true]
 exact⟨decide_eq_true (Hw (iF h).1 hz.1 (Im (AL h h1).1).2.1),show gh n.2.2.2.2.2.2.2=true from rC h⟩
theorem LM{m:ax}{i:Int}:ai.k yC (m,i)=(Cv m i).1:=rfl
theorem LW{m:ax}{i:Int}:ai.k Dn (m,i)=(zm m i).1:=rfl
structure zk where
 (a0:Int) (a1:ax) (a2 a3:kw) (a4:Int) (a5:Bool) (a6 a7 a8 a9:Int) (fw:kw) (jK:Int) (a12:Node)
structure Dj where
 (b0:ax) (b1 b2:kw) (b3:Int) (b4:Bool) (b5 b6 b7 b8:Int) (b9:kw) (b10:Int) (b11:Node)
inductive F5 where
 | c0 (p:zk)
 | c1 (p:Dj)
noncomputable def J5:F5→ei
 | .c0 p=>⟨[⟨251,91,(en [(2,.ptr 0 0),(4,.ptr 1 0),(5,.ptr 2 0),(8,.ptr 3 0),(9,vi p.a0)]),[.code (cw Tryz.f251 [1,1,0,0]),.code (cw Tryz.f251 [1,1,0,1]),.code (cw Tryz.f251 [1,1,1])],[],none⟩],[.flat false [vi p.a1.1,vi p.a1.2.1,vi p.a1.2.2.1,vi p.a1.2.2.2.1,vi p.a1.2.2.2.2.1,vi p.a1.2.2.2.2.2.1,.sl .bool p.a1.2.2.2.2.2.2.1,.sl bE p.a1.2.2.2.2.2.2.2],.flat false [vi p.a2.1,vi p.a2.2.1,vi p.a2.2.2.1,vi p.a2.2.2.2.1,vi p.a2.2.2.2.2.1,vi p.a2.2.2.2.2.2.1,vi p.a2.2.2.2.2.2.2,vi p.a3.1,vi p.a3.2.1,vi p.a3.2.2.1,vi p.a3.2.2.2.1,vi p.a3.2.2.2.2.1,vi p.a3.2.2.2.2.2.1,vi p.a3.2.2.2.2.2.2,vi p.a4,vb p.a5,vi p.a6,vi p.a7,.bd true,.bd true,vi p.a8,vi p.a9],.flat false [vi p.fw.1,vi p.fw.2.1,vi p.fw.2.2.1,vi p.fw.2.2.2.1,vi p.fw.2.2.2.2.1,vi p.fw.2.2.2.2.2.1,vi p.fw.2.2.2.2.2.2,vi p.jK,.bd true],.flat false [vi p.a12.1,vi p.a12.2.1,vi p.a12.2.2.1.1,vi p.a12.2.2.1.2.1,vi p.a12.2.2.1.2.2.1,vi p.a12.2.2.1.2.2.2.1,vi p.a12.2.2.1.2.2.2.2,vi p.a12.2.2.2.1.1,vi p.a12.2.2.2.1.2.1,vi p.a12.2.2.2.1.2.2.1,vi p.a12.2.2.2.1.2.2.2.1,vi p.a12.2.2.2.1.2.2.2.2.1,vi p.a12.2.2.2.1.2.2.2.2.2.1,vi p.a12.2.2.2.1.2.2.2.2.2.2,vi p.a12.2.2.2.2.1,vb p.a12.2.2.2.2.2.1,vi p.a12.2.2.2.2.2.2.1,vi p.a12.2.2.2.2.2.2.2.1,.sl yU p.a12.2.2.2.2.2.2.2.2.1,.sl df p.a12.2.2.2.2.2.2.2.2.2.1,vi p.a12.2.2.2.2.2.2.2.2.2.2.1,vi p.a12.2.2.2.2.2.2.2.2.2.2.2],.dead]⟩
 | .c1 p=>⟨[⟨251,91,(en [(2,.ptr 0 0),(4,.ptr 1 0),(5,.ptr 2 0),(8,.ptr 3 0)]),[.code (cw Tryz.f251 [1,1,1,1,1,1,0]),.code (cw Tryz.f251 [1,1,1,1,1,1,1])],[],none⟩],[.flat false [vi p.b0.1,vi p.b0.2.1,vi p.b0.2.2.1,vi p.b0.2.2.2.1,vi p.b0.2.2.2.2.1,vi p.b0.2.2.2.2.2.1,.sl .bool p.b0.2.2.2.2.2.2.1,.sl bE p.b0.2.2.2.2.2.2.2],.flat false [vi p.b1.1,vi p.b1.2.1,vi p.b1.2.2.1,vi p.b1.2.2.2.1,vi p.b1.2.2.2.2.1,vi p.b1.2.2.2.2.2.1,vi p.b1.2.2.2.2.2.2,vi p.b2.1,vi p.b2.2.1,vi p.b2.2.2.1,vi p.b2.2.2.2.1,vi p.b2.2.2.2.2.1,vi p.b2.2.2.2.2.2.1,vi p.b2.2.2.2.2.2.2,vi p.b3,vb p.b4,vi p.b5,vi p.b6,.bd true,.bd true,vi p.b7,vi p.b8],.flat false [vi p.b9.1,vi p.b9.2.1,vi p.b9.2.2.1,vi p.b9.2.2.2.1,vi p.b9.2.2.2.2.1,vi p.b9.2.2.2.2.2.1,vi p.b9.2.2.2.2.2.2,vi p.b10,.bd true],.flat false [vi p.b11.1,vi p.b11.2.1,vi p.b11.2.2.1.1,vi p.b11.2.2.1.2.1,vi p.b11.2.2.1.2.2.1,vi p.b11.2.2.1.2.2.2.1,vi p.b11.2.2.1.2.2.2.2,vi p.b11.2.2.2.1.1,vi p.b11.2.2.2.1.2.1,vi p.b11.2.2.2.1.2.2.1,vi p.b11.2.2.2.1.2.2.2.1,vi p.b11.2.2.2.1.2.2.2.2.1,vi p.b11.2.2.2.1.2.2.2.2.2.1,vi p.b11.2.2.2.1.2.2.2.2.2.2,vi p.b11.2.2.2.2.1,vb p.b11.2.2.2.2.2.1,vi p.b11.2.2.2.2.2.2.1,vi p.b11.2.2.2.2.2.2.2.1,.sl yU p.b11.2.2.2.2.2.2.2.2.1,.sl df p.b11.2.2.2.2.2.2.2.2.2.1,vi p.b11.2.2.2.2.2.2.2.2.2.2.1,vi p.b11.2.2.2.2.2.2.2.2.2.2.2],.dead]⟩
def LK(A:bK)(m:ax)(n:Node):LT (Node×vX×Bool×Int) F5:=.need (A.k (@tt Node) n) (.br (A.k cy n) (.need (A.k (@tt (ax×Node×Bool)) (m,n,(A.c .eql n.2.2.1.2.1 n.1))) (.need (A.k (@tt (ax×Node×Bool)) (m,n,(A.c .eql n.2.2.1.2.1 n.1))) (.eqs (((A.k cy n):Bool)=true) (.need (A.k (@tt Node) n) (.more (.c0 ⟨(A.k b_ (m,n,(A.c .eql n.2.2.1.2.1 n.1))).2,m,(0,0,0,0,0,0,0),(0,0,0,0,0,0,0),0,false,0,0,0,0,(0,0,0,0,0,0,0),0,(A.k b_ (m,n,(A.c .eql n.2.2.1.2.1 n.1))).1⟩)))))) (.need (A.k (@tt (ax×Node×Bool)) (m,n,false)) (.need (A.k (@tt (ax×Node×Bool)) (m,n,false)) (.eqs (((A.k cy n):Bool)=false) (.need (A.k (@tt Node) n) (.more (.c0 ⟨(A.k b_ (m,n,false)).2,m,(0,0,0,0,0,0,0),(0,0,0,0,0,0,0),0,false,0,0,0,0,(0,0,0,0,0,0,0),0,(A.k b_ (m,n,false)).1⟩)))))))
def yv(A:bK):F5→LT (Node×vX×Bool×Int) F5
 | .c0 p=>.br (A.c .neq p.a0 0) (.ret ((0,0,(0,0,0,0,0),(0,0,0,0,0,0,0),0,false,0,0,([]:List Int),([]:List cd),0,0),(0,0,(0,0,0,0,0),0,([]:List Int)),false,p.a0)) (.need (A.k Fy p.a12) (.br (A.c .eql (A.k sJ p.a12).2 2) (.ret ((p.a12.1,5,(0,0,0,0,0),(0,0,0,0,0,0,0),0,false,1,p.a12.2.2.2.2.2.2.2),(0,0,(0,0,0,0,0),0,([]:List Int)),false,0)) (.br (A.c .eql (A.k sJ p.a12).2 3) (.need (A.k (@tt (ax×Int)) (p.a1,p.a12.1)) (.ret ((p.a12.1,1,(0,0,0,0,0),(0,0,0,0,0,0,0),(A.k yC (p.a1,p.a12.1)),p.a12.2.2.2.2.2.1,2,p.a12.2.2.2.2.2.2.2),(0,0,(0,0,0,0,0),0,([]:List Int)),false,0))) (.br (A.c .eql (A.k sJ p.a12).2 4) (.need (A.k (@tt (ax×Int)) (p.a1,p.a12.1)) (.ret ((p.a12.1,1,(0,0,0,0,0),(0,0,0,0,0,0,0),(A.k Dn (p.a1,p.a12.1)),p.a12.2.2.2.2.2),(0,0,(0,0,0,0,0),0,([]:List Int)),false,0))) (.more (.c1 ⟨p.a1,p.a2,p.a3,p.a4,p.a5,p.a6,p.a7,p.a8,p.a9,p.fw,p.jK,(p.a12.1,4,(p.a12.2.2.1.1,p.a12.2.2.1.2.1,p.a12.2.2.1.2.2.1,p.a12.2.2.1.2.2.2.1,(A.k sJ p.a12).1.2.2.1),(A.k sJ p.a12).1,p.a12.2.2.2.2.1,false,p.a12.2.2.2.2.2.2)⟩))))))
 | .c1 p=>.need (A.k EK (p.b0,p.b11)) (.br (A.c .neq (A.k nh (p.b0,p.b11)).2 0) (.ret ((0,0,(0,0,0,0,0),(0,0,0,0,0,0,0),0,false,0,0,([]:List Int),([]:List cd),0,0),(0,0,(0,0,0,0,0),0,([]:List Int)),false,(A.k nh (p.b0,p.b11)).2)) (.need (A.k (@tt (ax×eG×Int)) (p.b0,p.b11.2.2.1,(A.k nh (p.b0,p.b11)).1.2.1)) (.need (A.k (@tt (ax×eG×Int)) (p.b0,p.b11.2.2.1,(A.k nh (p.b0,p.b11)).1.2.1)) (.br (A.c .eql (A.k sM (p.b0,p.b11.2.2.1,(A.k nh (p.b0,p.b11)).1.2.1)).2 0) (.ret ((p.b11.1,p.b11.2.1,(A.k sM (p.b0,p.b11.2.2.1,(A.k nh (p.b0,p.b11)).1.2.1)).1,p.b11.2.2.2),(A.k nh (p.b0,p.b11)).1,true,0)) (.ret (p.b11,(A.k nh (p.b0,p.b11)).1,true,0))))))
theorem Lk{p:Dj}(h:Cb p.b0 p.b11=true):aK (yv ai) (.more (.c1 p)) (K0 p.b0 p.b11):=by
 rw[ap,yv,K0]
 rw[show ai.k nh (p.b0,p.b11)=(w7 p.b0 p.b11,0) from rfl,show ai.k sM (p.b0,p.b11.2.2.1,(w7 p.b0 p.b11,(0:Int)).1.2.1)=xq p.b0 p.b11.2.2.1 (w7 p.b0 p.b11).2.1 from rfl]
 refine af.2 ⟨h,(aj rfl).2 (af.2 ⟨rfl,af.2 ⟨rfl,aV (p:=(xq p.b0 p.b11.2.2.1 (w7 p.b0 p.b11).2.1).2=0) bW (fun g=>aI ?_ (.ret _)) fun g=>aI ?_ (.ret _)⟩⟩)⟩
 ·rw[vH,decide_eq_true g];rfl
 ·rw[vH,decide_eq_false g];rfl
theorem LB{p:zk}{m:ax}{n:Node}(h0:p.a0=0)(h1:p.a1=m)(h12:p.a12=n)(h:fD m n=0)(hi:sF n=true):aK (yv ai) (.more (.c0 p)) (Dd m n):=by
 subst h1 h12
 rw[ap,yv,Dd,h0,LM,LW,show ai.k sJ p.a12=r8 p.a12 from rfl]
 refine(aj rfl).2 (af.2 ⟨decide_eq_true (AL h hi).2.1,aV (p:=(r8 p.a12).2=2) bW (fun g=>aI ?_ (.ret _)) fun g=>aV (p:=(r8 p.a12).2=3) bW (fun g3=>af.2 ⟨rfl,aI ?_ (.ret _)⟩) fun g3=>aV (p:=(r8 p.a12).2=4) bW (fun g4=>af.2 ⟨rfl,aI ?_ (.ret _)⟩) fun g4=>?_⟩)
 ·rw[decide_eq_true g];rfl
 ·rw[decide_eq_false g,decide_eq_true g3];rfl
 ·rw[decide_eq_false g,decide_eq_false g3,decide_eq_true g4];rfl
 ·rw[decide_eq_false g,decide_eq_false g3,decide_eq_false g4]
  exact Lk (JY h hi)
theorem V6{m:ax}{n:Node}:aK (yv ai) (LK ai m n) (Ww m n):=by
 unfold LK Ww
 rw[show ai.k cy n=sF n from rfl]
 refine af.2 ⟨rfl,?_⟩
 have no:∀q:zk,q.a0=(iK m n false).2→aK (yv ai) (.more (.c0 q)) (bif decide (fD m n=0) then(gy,ug,false,181) else(gy,ug,false,fD m n)):=fun q hq=>by
  rw[ap,yv,hq,iK]
  by_cases h:fD m n=0
  ·rw[decide_eq_true h];exact(ak rfl).2 (.ret _)
  ·rw[decide_eq_false h];exact(ak (rh h)).2 (.ret _)
 cases hi:sF n
 ·exact(aj rfl).2 (af.2 ⟨rfl,af.2 ⟨rfl,aJ.2 ⟨rfl,af.2 ⟨rfl,no _ rfl⟩⟩⟩⟩)
 ·refine(ak rfl).2 (af.2 ⟨rfl,af.2 ⟨rfl,aJ.2 ⟨rfl,af.2 ⟨rfl,?_⟩⟩⟩⟩)
  rw[show ∀w,ai.k b_ (m,n,w)=iK m n w from fun _=>rfl,bW,Bool.true_and]
  by_cases hp:n.2.2.1.2.1=n.1
  ·rw[decide_eq_true hp,cond_true]
   by_cases h:fD m n=0
   ·have e:iK m n true=(n,0):=by rw[iK,decide_eq_true h];rfl
    rw[decide_eq_true h,e]
    exact LB rfl rfl rfl h hi
   ·have:=no ⟨(iK m n true).2,m,(0,0,0,0,0,0,0),(0,0,0,0,0,0,0),0,false,0,0,0,0,(0,0,0,0,0,0,0),0,(iK m n true).1⟩ (by rw[iK,iK,decide_eq_false h];rfl)
    rw[decide_eq_false h] at this ⊢
    exact this
  ·rw[decide_eq_false hp];exact no _ rfl
def ON:(ax×Node)→(Node×vX×Bool×Int):=fun(m,n)=>Ww m n
def Jm:aG:=⟨[cr,dH], [dH,GB,.bool,yI],(@tt (ax×Node)),ON⟩
theorem T5:Sd 251 Jm:=aQ aA dY true 39 [] [⟨251,2, [[2,4,5,8,9]]⟩,⟨251,18, [[2,4,5,8]]⟩] (fun A (m,n)=>LK A m n) yv J5 (fc Tryz.func251 (fc Tryz.func53 (fc Tryz.func84 fz))) (sc xM (sc AJ (sc IS (sc Qy (sc P_ (sc MH (sc IX sz))))))) (fun A y=>match y with |.c0 p=>⟨89,by kernel_rfl,by kernel_rfl⟩|.c1 p=>⟨74,by kernel_rfl,by kernel_rfl⟩) fun(m,n) hp h=>V6
open Go.Ev.Pl
end Go.Ev.M
