/-
  PROVED: what Own, End and Tick of busctl and of metronomeref18 compute. Conditions: none.
-/
import Derived.Test.YteldjjjcdpnnbaaGreatCc
namespace Go.Ev.M
open Go.Proofs
set_option maxRecDepth 100000
set_option linter.unusedVariables false
set_option linter.unusedSimpArgs false
open Go.Ev.Pl
def Qb(A:bi)(m:ak)(n:Node):LT (Node×gT×Bool×Int) Empty:=.need (A.k (@tt (ak×Node×Bool)) (m,n,(A.c .eql n.2.1 1))) (.br (A.c .neq (A.k aI (m,n,(A.c .eql n.2.1 1))).2 0) (.ret ((0,0,(0,0,0,0,0),(0,0,0,0,0,0,0),0,false,0,0,([]:List Int),([]:List bW),0,0),(0,0,(0,0,0,0,0),0,([]:List Int)),false,(A.k aI (m,n,(A.c .eql n.2.1 1))).2)) (.br (A.c .gtr (A.b .sub .i64 (A.k aI (m,n,(A.c .eql n.2.1 1))).1.2.2.2.2.1 1) 0) (.ret (((A.k aI (m,n,(A.c .eql n.2.1 1))).1.1,(A.k aI (m,n,(A.c .eql n.2.1 1))).1.2.1,(A.k aI (m,n,(A.c .eql n.2.1 1))).1.2.2.1,(A.k aI (m,n,(A.c .eql n.2.1 1))).1.2.2.2.1,(A.b .sub .i64 (A.k aI (m,n,(A.c .eql n.2.1 1))).1.2.2.2.2.1 1),(A.k aI (m,n,(A.c .eql n.2.1 1))).1.2.2.2.2.2),(0,0,(0,0,0,0,0),0,([]:List Int)),false,0)) (.need (A.and (A.c .leq 0 (A.k aI (m,n,(A.c .eql n.2.1 1))).1.1) (A.c .lss (A.k aI (m,n,(A.c .eql n.2.1 1))).1.1 (A.l m.2.2.2.2.2.2.1))) (.br (A.not (A.n .bool m.2.2.2.2.2.2.1 (A.k aI (m,n,(A.c .eql n.2.1 1))).1.1:Bool)) (.need (A.k (@tt (ak×Int)) (m,(A.k aI (m,n,(A.c .eql n.2.1 1))).1.1)) (.ret (((A.k aI (m,n,(A.c .eql n.2.1 1))).1.1,(A.k aI (m,n,(A.c .eql n.2.1 1))).1.2.1,(A.k aI (m,n,(A.c .eql n.2.1 1))).1.2.2.1,(A.k aI (m,n,(A.c .eql n.2.1 1))).1.2.2.2.1,(A.k qm (m,(A.k aI (m,n,(A.c .eql n.2.1 1))).1.1)),(A.k aI (m,n,(A.c .eql n.2.1 1))).1.2.2.2.2.2),(0,0,(0,0,0,0,0),0,([]:List Int)),false,0))) (.need (A.c .leq 0 (A.k aI (m,n,(A.c .eql n.2.1 1))).1.1) (.ret (((A.k aI (m,n,(A.c .eql n.2.1 1))).1.1,2,(0,(A.k aI (m,n,(A.c .eql n.2.1 1))).1.1,0,0,(A.b .shl .i64 1 (A.k aI (m,n,(A.c .eql n.2.1 1))).1.1)),((A.k aI (m,n,(A.c .eql n.2.1 1))).1.1,m.1,(A.b .shl .i64 1 (A.k aI (m,n,(A.c .eql n.2.1 1))).1.1),1,0,0,0),0,(A.k aI (m,n,(A.c .eql n.2.1 1))).1.2.2.2.2.2),(1,0,(0,0,0,0,0),(A.k aI (m,n,(A.c .eql n.2.1 1))).1.1,([]:List Int)),true,0)))))))
def ng:gT:=(0,0,(0,0,0,0,0),0,([]:List Int))
def rI(m:ak)(n:Node):Node×gT×Bool×Int:=
 bif decide (aS m n=0) then
  bif decide (n.2.1=1) then
   bif decide (0<n.2.2.2.2.1-1) then((n.1,n.2.1,n.2.2.1,n.2.2.2.1,n.2.2.2.2.1-1,n.2.2.2.2.2),ng,false,0)
   else bif (aj.n .bool m.2.2.2.2.2.2.1 n.1:Bool) then((n.1,2,(0,n.1,0,0,aj.b .shl .i64 1 n.1),(n.1,m.1,aj.b .shl .i64 1 n.1,1,0,0,0),0,n.2.2.2.2.2),(1,0,(0,0,0,0,0),n.1,([]:List Int)),true,0)
   else((n.1,n.2.1,n.2.2.1,n.2.2.2.1,(jZ m n.1).1,n.2.2.2.2.2),ng,false,0)
  else(dM,ng,false,181)
 else(dM,ng,false,aS m n)
theorem NN{m:ak}{n:Int}:(jZ m n).1≤9223372036854775807:=by
 unfold jZ
 cases decide (gw m n=0)
 ·exact(by decide:(0:Int)≤9223372036854775807)
 ·rw[cond_true,bw,IntKind.wrap_i64];omega
theorem E9{m:ak}{n:Node}(h:aS m n=0)(h1:n.2.1=1):1≤n.2.2.2.2.1∧aj.b .sub .i64 n.2.2.2.2.1 1=n.2.2.2.2.1-1:=by
 have hc:=(bF.1 (aP h).2).2.2.2.2.2.2.2.2.1
 rw[nj,decide_eq_true h1,cond_true,decide_eq_true_eq] at hc
 have:=@NN m n.1
 exact⟨hc.1,by rw[aZ,fI (by omega) (by omega)]⟩
theorem ZR{m:ak}{n:Node}:aA Empty.elim (Qb aj m n) (rI m n):=by
 unfold Qb rI
 refine af.2 ⟨rfl,?_⟩
 rw[show aj.k aI (m,n,aj.c .eql n.2.1 1)=gu m n (aj.c .eql n.2.1 1) from rfl,aH,gu]
 by_cases h:aS m n=0
 ·rw[decide_eq_true h,cond_true,cond_true]
  by_cases h1:n.2.1=1
  ·obtain⟨ht,es⟩:=E9 h h1
   have hi:=(bF.1 (aP h).2).1
   have hl:=cy (aP h).1
   rw[decide_eq_true h1,cond_true,cond_true,es]
   refine(ah rfl).2 (ax (p:=0<n.2.2.2.2.1-1) rfl (fun h2=>?_) fun h2=>af.2 ⟨jr hl.2.2.1 hi.1 (show n.1<m.1 by omega),?_⟩)
   ·exact ay (by rw[decide_eq_true h2];rfl) (.ret _)
   rw[decide_eq_false h2,cond_false]
   show aA Empty.elim (.br (aj.not (aj.n .bool m.2.2.2.2.2.2.1 n.1:Bool)) _ _) _
   cases (aj.n .bool m.2.2.2.2.2.2.1 n.1:Bool)
   ·exact(ai rfl).2 (af.2 ⟨rfl,.ret _⟩)
   ·refine(ah rfl).2 (af.2 ⟨decide_eq_true (show 0≤n.1 from hi.1),?_⟩)
    exact .ret _
  ·rw[decide_eq_false h1]
   exact(ai rfl).2 (.ret _)
 ·rw[decide_eq_false h];exact(ai (fT h)).2 (.ret _)
def Cv:(ak×Node)→(Node×gT×Bool×Int):=fun(m,n)=>rI m n
def XX:aD:=⟨[bd,aQ], [aQ,uy,.bool,yI],(@tt (ak×Node)),Cv⟩
theorem T8:Sd 48 XX:=aK au cK true 130 [] (fun A (m,n)=>Qb A m n) (fc Tryz.func48 (fc Tryz.func75 fz)) (sc tL (sc Dc sz)) fun(m,n) hp h=>ZR
def Rw(A:bi)(m:ak)(n:Node):LT (Node×Int) Empty:=.need (A.k (@tt Node) n) (.need (A.k (@tt (ak×Node×Bool)) (m,n,(A.k cv n))) (.need (A.k (@tt (ak×Node×Bool)) (m,n,(A.k cv n))) (.need (A.k (@tt Node) n) (.br (A.c .neq (A.k aI (m,n,(A.k cv n))).2 0) (.ret ((0,0,(0,0,0,0,0),(0,0,0,0,0,0,0),0,false,0,0,([]:List Int),([]:List bW),0,0),(A.k aI (m,n,(A.k cv n))).2)) (.need (A.k (@tt (dq×Int)) ((A.k aI (m,n,(A.k cv n))).1.2.2.1,m.1)) (.br (A.c .eql (A.k jF ((A.k aI (m,n,(A.k cv n))).1.2.2.1,m.1)).2 0) (.br (A.c .eql (A.k jF ((A.k aI (m,n,(A.k cv n))).1.2.2.1,m.1)).1.2.1 0) (.need (A.k (@tt cf) (A.k aI (m,n,(A.k cv n))).1.2.2.2.2.2.2.2) (.ret (((A.k aI (m,n,(A.k cv n))).1.1,(A.k aI (m,n,(A.k cv n))).1.2.1,(A.k jF ((A.k aI (m,n,(A.k cv n))).1.2.2.1,m.1)).1,(A.k aI (m,n,(A.k cv n))).1.2.2.2.1,(A.k aI (m,n,(A.k cv n))).1.2.2.2.2.1,(A.k aI (m,n,(A.k cv n))).1.2.2.2.2.2.1,(A.k aI (m,n,(A.k cv n))).1.2.2.2.2.2.2.1,(A.k Cw (A.k aI (m,n,(A.k cv n))).1.2.2.2.2.2.2.2).1),(A.k Cw (A.k aI (m,n,(A.k cv n))).1.2.2.2.2.2.2.2).2))) (.ret (((A.k aI (m,n,(A.k cv n))).1.1,(A.k aI (m,n,(A.k cv n))).1.2.1,(A.k jF ((A.k aI (m,n,(A.k cv n))).1.2.2.1,m.1)).1,(A.k aI (m,n,(A.k cv n))).1.2.2.2),(A.k jF ((A.k aI (m,n,(A.k cv n))).1.2.2.1,m.1)).2))) (.ret (((A.k aI (m,n,(A.k cv n))).1.1,(A.k aI (m,n,(A.k cv n))).1.2.1,(A.k jF ((A.k aI (m,n,(A.k cv n))).1.2.2.1,m.1)).1,(A.k aI (m,n,(A.k cv n))).1.2.2.2),(A.k jF ((A.k aI (m,n,(A.k cv n))).1.2.2.1,m.1)).2))))))))
def pP(m:ak)(n:Node):Node×Int:=
 bif decide (aS m n=0) then
  bif gb n then
   bif decide ((gQ n.2.2.1 m.1).1.2.1=0) then((n.1,n.2.1,(gQ n.2.2.1 m.1).1,n.2.2.2.1,n.2.2.2.2.1,n.2.2.2.2.2.1,n.2.2.2.2.2.2.1,(yG n.2.2.2.2.2.2.2).1),0)
   else((n.1,n.2.1,(gQ n.2.2.1 m.1).1,n.2.2.2),0)
  else(dM,181)
 else(dM,aS m n)
theorem step_ok{m:ak}{n:Node}(h:aS m n=0)(h1:gb n=true):(gQ n.2.2.1 m.1).2=0:=by
 have hc:=(bF.1 (aP h).2).2.2.2.2.2.2.2.1
 rw[mX,h1,cond_true,Bool.and_eq_true] at hc
 have hf:=hc.1
 simp only[dp,Bool.and_eq_true,decide_eq_true_eq] at hf
 rw[gQ,decide_eq_true hf.1]
 cases decide (n.2.2.1.2.1+1=m.1)<;>cases decide (n.2.2.1.2.2.2.1=0)<;>rfl
theorem IN{m:ak}{n:Node}(h:aS m n=0):(yG n.2.2.2.2.2.2.2).2=0:=by
 rw[yG,j5 h];rfl
theorem UQ{m:ak}{n:Node}:aA Empty.elim (Rw aj m n) (pP m n):=by
 unfold Rw pP
 refine af.2 ⟨rfl,af.2 ⟨rfl,?_⟩⟩
 repeat' (refine af.2 ⟨rfl,?_⟩)
 rw[show aj.k aI (m,n,aj.k cv n)=gu m n (gb n) from rfl,gu]
 by_cases h:aS m n=0
 ·rw[decide_eq_true h,cond_true,cond_true]
  cases h1:gb n
  ·exact(ai rfl).2 (.ret _)
  have hs:=step_ok h h1
  have hr:=IN h
  rw[cond_true,cond_true]
  refine(ah rfl).2 (af.2 ⟨rfl,(ai (ug hs)).2 (ax (p:=(gQ n.2.2.1 m.1).1.2.1=0) aH (fun h2=>af.2 ⟨rfl,ay ?_ (.ret _)⟩) fun h2=>ay ?_ (.ret _))⟩)
  ·rw[decide_eq_true h2];exact congrArg (Prod.mk _) hr
  ·rw[decide_eq_false h2];exact congrArg (Prod.mk _) hs
 ·rw[decide_eq_false h];exact(ai (fT h)).2 (.ret _)
def ES:(ak×Node)→(Node×Int):=fun(m,n)=>pP m n
def Y5:aD:=⟨[bd,aQ], [aQ,yI],(@tt (ak×Node)),ES⟩
theorem WX:Sd 46 Y5:=aK au cK true 80 [] (fun A (m,n)=>Rw A m n) (fc Tryz.func46 fz) (sc zK (sc tL (sc O3 (sc O9 sz)))) fun(m,n) hp h=>UQ
open Go.Ev.Pl
def t23(A:bi)(mId:Int)(mN:Int)(mSet:Int)(mAcc:Int)(mFail:Int)(mStage:Int)(mFirst:Int):LT (gh×Int×Int) Empty:=.need (A.k (@tt ((Int×Int×Int×Int×Int×Int×Int))) (mId,mN,mSet,mAcc,mFail,mStage,mFirst)) (.br (A.c .neq (A.k iB (mId,mN,mSet,mAcc,mFail,mStage,mFirst)) 0) (.ret ((0,0,0,0,0,0,0),0,(A.k iB (mId,mN,mSet,mAcc,mFail,mStage,mFirst)))) (.br (A.c .leq mAcc mFail) (.ret ((mId,mN,mSet,mAcc,mFail,mStage,mFirst),2,0)) (.need (A.c .leq 0 mId) (.ret ((mId,mN,(A.b .or .i64 mSet (A.b .shl .i64 1 mId)),1,0,1,0),1,0)))))
def fw:gh→(gh×Int×Int):=fun(mId,mN,mSet,mAcc,mFail,mStage,mFirst)=>(t23 aj mId mN mSet mAcc mFail mStage mFirst).val (Ty.bZ [mY,yI,yI])
def aaV:aD:=⟨[mY], [mY,yI,yI],(@tt gh),fw⟩
theorem QN:Sd 177 aaV:=aM au cK true 67 [] (fun A (mId,mN,mSet,mAcc,mFail,mStage,mFirst)=>t23 A mId mN mSet mAcc mFail mStage mFirst) (fc Tryz.func177 fz) (sc Db sz) (fun((mId,mN,mSet,mAcc,mFail,mStage,mFirst):gh) hp h=>by
 show(t23 aj mId mN mSet mAcc mFail mStage mFirst).pre=true
 simp only[t23,LT.pre,fB,aF,aJ,ar,aB,aG,aN,aR,bD,fx,ap,bw,aZ,bu,cH,cN,Bool.and_eq_true,Bool.or_eq_true,Bool.and_eq_false_iff,Bool.or_eq_false_iff,Bool.not_eq_true',Bool.not_eq_false',decide_eq_true_eq,decide_eq_false_iff_not,bne_iff_ne,beq_iff_eq,bne_eq_false_iff_eq,beq_eq_false_iff_ne]
 simp only[Ty.dK,Ty.has,n_] at h
 (repeat' (first|intro _|constructor))<;>(try (have hm:=dJ.1 (by assumption);unfold gP at hm;omega)))
def t27(A:bi)(mId:Int)(mN:Int)(mSet:Int)(mAcc:Int)(mFail:Int)(mStage:Int)(mFirst:Int):LT (gh×Int×Int) Empty:=.need (A.k (@tt ((Int×Int×Int×Int×Int×Int×Int))) (mId,mN,mSet,mAcc,mFail,mStage,mFirst)) (.br (A.c .eql (A.k iB (mId,mN,mSet,mAcc,mFail,mStage,mFirst)) 0) (.br (A.c .eql mAcc 0) (.br (A.c .eql mFail 0) (.ret ((mId,mN,mSet,mAcc,mFail,mStage,mFirst),3,0)) (.need (A.k (@tt gh) (mId,mN,mSet,mAcc,mFail,mStage,mFirst)) (.ret (A.k fw (mId,mN,mSet,mAcc,mFail,mStage,mFirst))))) (.need (A.k (@tt gh) (mId,mN,mSet,mAcc,mFail,mStage,mFirst)) (.ret (A.k fw (mId,mN,mSet,mAcc,mFail,mStage,mFirst))))) (.need (A.k (@tt gh) (mId,mN,mSet,mAcc,mFail,mStage,mFirst)) (.ret (A.k fw (mId,mN,mSet,mAcc,mFail,mStage,mFirst)))))
def ib:gh→(gh×Int×Int):=fun(mId,mN,mSet,mAcc,mFail,mStage,mFirst)=>(t27 aj mId mN mSet mAcc mFail mStage mFirst).val (Ty.bZ [mY,yI,yI])
def abj:aD:=⟨[mY], [mY,yI,yI],(@tt gh),ib⟩
theorem Vx:Sd 178 abj:=aM au cK true 43 [] (fun A (mId,mN,mSet,mAcc,mFail,mStage,mFirst)=>t27 A mId mN mSet mAcc mFail mStage mFirst) (fc Tryz.func178 fz) (sc QN (sc Db sz)) (fun((mId,mN,mSet,mAcc,mFail,mStage,mFirst):gh) hp h=>by
 show(t27 aj mId mN mSet mAcc mFail mStage mFirst).pre=true
 simp only[t27,LT.pre,fB,aF,aJ,ar,aB,aG,aN,aR,bD,fx,ap,bw,aZ,bu,cH,cN,Bool.and_eq_true,Bool.or_eq_true,Bool.and_eq_false_iff,Bool.or_eq_false_iff,Bool.not_eq_true',Bool.not_eq_false',decide_eq_true_eq,decide_eq_false_iff_not,bne_iff_ne,beq_iff_eq,bne_eq_false_iff_eq,beq_eq_false_iff_ne]
 simp only[Ty.dK,Ty.has,n_,Cr] at h
 (repeat' (first|intro _|constructor))<;>(try omega))
def TE(A:bi)(n:Node):LT (gh×Int) Empty:=.br (A.c .eql n.2.1 2) (.br (A.c .lss n.2.2.2.1.2.2.2.1 2) (.ret (n.2.2.2.1,4)) (.br (A.c .leq n.2.2.2.1.2.2.2.1 n.2.2.2.1.2.2.2.2.1) (.ret (n.2.2.2.1,4)) (.br (A.c .eql n.2.1 3) (.need (A.k (@tt gh) n.2.2.2.1) (.br (A.c .neq (A.k ib n.2.2.2.1).2.2 0) (.ret (n.2.2.2.1,4)) (.ret ((A.k ib n.2.2.2.1).1,(A.k ib n.2.2.2.1).2.1)))) (.need (A.k (@tt gh) n.2.2.2.1) (.br (A.c .neq (A.k fw n.2.2.2.1).2.2 0) (.ret (n.2.2.2.1,4)) (.ret ((A.k fw n.2.2.2.1).1,(A.k fw n.2.2.2.1).2.1))))))) (.br (A.c .eql n.2.1 3) (.need (A.k (@tt gh) n.2.2.2.1) (.br (A.c .neq (A.k ib n.2.2.2.1).2.2 0) (.ret (n.2.2.2.1,4)) (.ret ((A.k ib n.2.2.2.1).1,(A.k ib n.2.2.2.1).2.1)))) (.need (A.k (@tt gh) n.2.2.2.1) (.br (A.c .neq (A.k fw n.2.2.2.1).2.2 0) (.ret (n.2.2.2.1,4)) (.ret ((A.k fw n.2.2.2.1).1,(A.k fw n.2.2.2.1).2.1)))))
def dd(n:Node):gh×Int:=bif decide (n.2.1=2)&&(decide (n.2.2.2.1.2.2.2.1<2)||decide (n.2.2.2.1.2.2.2.1≤n.2.2.2.1.2.2.2.2.1)) then(n.2.2.2.1,4) else bif decide (n.2.1=3) then((ib n.2.2.2.1).1,(ib n.2.2.2.1).2.1) else((fw n.2.2.2.1).1,(fw n.2.2.2.1).2.1)
theorem uL{v:gh}(h:gS v=0):(fw v).2.2=0:=by
 obtain⟨a,b,c,d,e,f,g⟩:=v
 simp only[fw,t23,LT.val,ap,Ni,h]
 cases aj.c .leq d e<;>rfl
theorem YR{n:Node}(h:gS n.2.2.2.1=0):aA Empty.elim (TE aj n) (dd n):=by
 unfold TE dd
 have h23:=uL h
 have h27:(ib n.2.2.2.1).2.2=0:=by
  generalize n.2.2.2.1=v at *
  obtain⟨a,b,c,d,e,f,g⟩:=v
  simp only[ib,t27,LT.val,ap,Ni,h]
  simp only[Bool.cond_eq_ite]
  repeat' split
  all_goals first|rfl|exact h23
 have e23:aj.c .neq (aj.k fw n.2.2.2.1).2.2 0=false:=kH h23
 have e27:aj.c .neq (aj.k ib n.2.2.2.1).2.2 0=false:=kH h27
 refine ax (p:=n.2.1=2) aH (fun g=>ax (p:=n.2.2.2.1.2.2.2.1<2) rfl (fun g1=>ay ?_ (.ret _)) fun g1=>ax (p:=n.2.2.2.1.2.2.2.1≤n.2.2.2.1.2.2.2.2.1) rfl (fun g2=>ay ?_ (.ret _)) fun g2=>(ah (by rw[aH];exact decide_eq_false (by omega))).2 (af.2 ⟨rfl,(ah e23).2 (ay ?_ (.ret _))⟩)) fun g=>ax (p:=n.2.1=3) aH (fun g3=>af.2 ⟨rfl,(ah e27).2 (ay ?_ (.ret _))⟩) fun g3=>af.2 ⟨rfl,(ah e23).2 (ay ?_ (.ret _))⟩
 ·rw[decide_eq_true g,decide_eq_true g1];rfl
 ·rw[decide_eq_true g,decide_eq_true g2,Bool.or_true];rfl
 ·rw[decide_eq_true g,decide_eq_false g1,decide_eq_false g2,decide_eq_false (show ¬n.2.1=3 by omega)];rfl
 ·rw[decide_eq_false g,decide_eq_true g3];rfl
 ·rw[decide_eq_false g,decide_eq_false g3];rfl
def vp:Node→(gh×Int):=dd
def Ik:Node→Bool:=fun n=>decide (gS n.2.2.2.1=0)
def WH:aD:=⟨[aQ], [mY,yI],Ik,vp⟩
theorem Wq:Sd 110 WH:=aK au cK true 83 [] (fun A n=>TE A n) (fc Tryz.func110 fz) (sc QN (sc Vx sz)) fun(n:Node) hp h=>YR (of_decide_eq_true hp)
open Go.Ev.Pl
def BN(m:ak)(k n:Int):Int:=aj.n yI (aj.n aX m.2.2.2.2.2.2.2 k:Mode).1 n
def GJ(m:ak)(n:Node):Int:=BN m n.2.2.1.2.2.1 n.1
def J9(m:ak)(n:Node):Int:=bif decide ((kN m n.2.2.1 n.2.2.2.2.2.2.2.2.2.2.2).2=0) then(kN m n.2.2.1 n.2.2.2.2.2.2.2.2.2.2.2).1 else 0
def gn(m:ak)(n:Node):gT:=((bo m n.2.2.1.2.2.1 n.1).1,J9 m n,n.2.2.1,0,bif decide ((bo m n.2.2.1.2.2.1 n.1).1=3) then([]:List Int) else(nc n.2.2.2.2.2.2.2 (GJ m n)).1)
def G5(m:ak)(n:Node):Bool:=decide ((bo m n.2.2.1.2.2.1 n.1).2=0)&&dE n.2.2.2.2.2.2.2
theorem Mp{m:ak}{n:Int}(hm:dy m=true)(h1:0≤n∧n≤m.1-1)(x:Mode)(hx:kT m x=true):0≤x.1.getD n.toNat 0∧x.1.getD n.toNat 0≤8:=by
 have hl:=iw hx
 have hc:=(cy hm).2.2.1
 simp only[kT,Bool.and_eq_true] at hx
 have ha:=hx.2
 have l1:m.2.2.2.2.2.2.1.length=x.1.length:=by omega
 have l2:x.2.1.length=x.1.length:=by omega
 rw[wT l1 l2,Bool.and_eq_true] at ha
 have hi:n.toNat<x.1.length:=by omega
 rw[List.getD_eq_getElem?_getD,List.getElem?_eq_getElem hi]
 have:=List.all_eq_true.1 ha.1 _ (List.getElem_mem hi)
 simpa using this
theorem Bl{m:ak}{k n:Int}(hm:dy m=true)(h1:0≤n∧n≤m.1-1)(h2:0≤k∧k<cO m):0≤BN m k n∧BN m k n≤8:=Mp hm h1 _ (k_ hm h2.1 h2.2)
theorem I4{c:cf}{k:Int}(h:dE c=true)(h1:0≤k∧k≤8):(nc c k).2=0:=by
 rw[nc,h,cond_true,decide_eq_true h1];rfl
def QA(A:bi)(m:ak)(n:Node):LT (gT×Int) Empty:=.need (A.k (@tt (ak×Int×Int)) (m,n.2.2.1.2.2.1,n.1)) (.br (A.c .neq (A.k dB (m,n.2.2.1.2.2.1,n.1)).2 0) (.ret ((0,0,(0,0,0,0,0),0,([]:List Int)),(A.k dB (m,n.2.2.1.2.2.1,n.1)).2)) (.need (A.k (@tt (ak×dq×Int)) (m,n.2.2.1,n.2.2.2.2.2.2.2.2.2.2.2)) (.br (A.c .eql (A.k qs (m,n.2.2.1,n.2.2.2.2.2.2.2.2.2.2.2)).2 0) (.br (A.c .eql (A.k dB (m,n.2.2.1.2.2.1,n.1)).1 3) (.ret (((A.k dB (m,n.2.2.1.2.2.1,n.1)).1,(A.k qs (m,n.2.2.1,n.2.2.2.2.2.2.2.2.2.2.2)).1,n.2.2.1,0,([]:List Int)),0)) (.need (A.and (A.c .leq 0 n.2.2.1.2.2.1) (A.c .lss n.2.2.1.2.2.1 (A.l m.2.2.2.2.2.2.2))) (.need (A.and (A.c .leq 0 n.1) (A.c .lss n.1 (A.l (A.n aX m.2.2.2.2.2.2.2 n.2.2.1.2.2.1:Mode).1))) (.need (A.k (@tt (cf×Int)) (n.2.2.2.2.2.2.2,(A.n yI (A.n aX m.2.2.2.2.2.2.2 n.2.2.1.2.2.1:Mode).1 n.1:Int))) (.ret (((A.k dB (m,n.2.2.1.2.2.1,n.1)).1,(A.k qs (m,n.2.2.1,n.2.2.2.2.2.2.2.2.2.2.2)).1,n.2.2.1,0,(A.k rF (n.2.2.2.2.2.2.2,(A.n yI (A.n aX m.2.2.2.2.2.2.2 n.2.2.1.2.2.1:Mode).1 n.1:Int))).1),(A.k rF (n.2.2.2.2.2.2.2,(A.n yI (A.n aX m.2.2.2.2.2.2.2 n.2.2.1.2.2.1:Mode).1 n.1:Int))).2)))))) (.br (A.c .eql (A.k dB (m,n.2.2.1.2.2.1,n.1)).1 3) (.ret (((A.k dB (m,n.2.2.1.2.2.1,n.1)).1,0,n.2.2.1,0,([]:List Int)),0)) (.need (A.and (A.c .leq 0 n.2.2.1.2.2.1) (A.c .lss n.2.2.1.2.2.1 (A.l m.2.2.2.2.2.2.2))) (.need (A.and (A.c .leq 0 n.1) (A.c .lss n.1 (A.l (A.n aX m.2.2.2.2.2.2.2 n.2.2.1.2.2.1:Mode).1))) (.need (A.k (@tt (cf×Int)) (n.2.2.2.2.2.2.2,(A.n yI (A.n aX m.2.2.2.2.2.2.2 n.2.2.1.2.2.1:Mode).1 n.1:Int))) (.ret (((A.k dB (m,n.2.2.1.2.2.1,n.1)).1,0,n.2.2.1,0,(A.k rF (n.2.2.2.2.2.2.2,(A.n yI (A.n aX m.2.2.2.2.2.2.2 n.2.2.1.2.2.1:Mode).1 n.1:Int))).1),(A.k rF (n.2.2.2.2.2.2.2,(A.n yI (A.n aX m.2.2.2.2.2.2.2 n.2.2.1.2.2.1:Mode).1 n.1:Int))).2)))))))))
theorem Zf{m:ak}{n:Node}(h:G5 m n=true):aA Empty.elim (QA aj m n) (gn m n,0):=by
 rw[G5,Bool.and_eq_true,decide_eq_true_eq] at h
 obtain⟨hm,h1,h2⟩:=ki h.1
 have hx:=iw (k_ hm h2.1 h2.2)
 have hz:=I4 h.2 (Bl hm h1 h2)
 unfold QA gn J9
 rw[show aj.k dB (m,n.2.2.1.2.2.1,n.1)=bo m n.2.2.1.2.2.1 n.1 from rfl,show aj.k qs (m,n.2.2.1,n.2.2.2.2.2.2.2.2.2.2.2)=kN m n.2.2.1 n.2.2.2.2.2.2.2.2.2.2.2 from rfl,show aj.k rF (n.2.2.2.2.2.2.2,(aj.n yI (aj.n aX m.2.2.2.2.2.2.2 n.2.2.1.2.2.1:Mode).1 n.1:Int))=nc n.2.2.2.2.2.2.2 (GJ m n) from rfl]
 have tl:∀q:Int,aA (R:=gT×Int) Empty.elim (.br (aj.c .eql (bo m n.2.2.1.2.2.1 n.1).1 3) (.ret (((bo m n.2.2.1.2.2.1 n.1).1,q,n.2.2.1,0,([]:List Int)),0)) (.need (aj.and (aj.c .leq 0 n.2.2.1.2.2.1) (aj.c .lss n.2.2.1.2.2.1 (aj.l m.2.2.2.2.2.2.2))) (.need (aj.and (aj.c .leq 0 n.1) (aj.c .lss n.1 (aj.l (aj.n aX m.2.2.2.2.2.2.2 n.2.2.1.2.2.1:Mode).1))) (.need true (.ret (((bo m n.2.2.1.2.2.1 n.1).1,q,n.2.2.1,0,(nc n.2.2.2.2.2.2.2 (GJ m n)).1),(nc n.2.2.2.2.2.2.2 (GJ m n)).2)))))) (((bo m n.2.2.1.2.2.1 n.1).1,q,n.2.2.1,0,bif decide ((bo m n.2.2.1.2.2.1 n.1).1=3) then([]:List Int) else(nc n.2.2.2.2.2.2.2 (GJ m n)).1),0):=fun q=>
  ax (p:=(bo m n.2.2.1.2.2.1 n.1).1=3) aH (fun g=>ay (by rw[decide_eq_true g];rfl) (.ret _)) fun g=>af.2 ⟨jk h2.1 h2.2,af.2 ⟨jr hx.1 h1.1 (by omega),af.2 ⟨rfl,ay (by rw[decide_eq_false g,show(nc n.2.2.2.2.2.2.2 (GJ m n)).2=0 from hz];rfl) (.ret _)⟩⟩⟩
 refine af.2 ⟨rfl,(ah (kH h.1)).2 (af.2 ⟨rfl,ax (p:=(kN m n.2.2.1 n.2.2.2.2.2.2.2.2.2.2.2).2=0) aH (fun g=>?_) fun g=>?_⟩)⟩
 ·rw[decide_eq_true g];exact tl _
 ·rw[decide_eq_false g];exact tl _
def pz:(ak×Node)→(gT×Int):=fun(m,n)=>(gn m n,0)
def Le:(ak×Node)→Bool:=fun(m,n)=>G5 m n
def Vn:aD:=⟨[bd,aQ], [uy,yI],Le,pz⟩
theorem XO:Sd 112 Vn:=aK au cK true 111 [] (fun A (m,n)=>QA A m n) (fc Tryz.func112 fz) (sc BW (sc OQ (sc OO sz))) fun((m,n):ak×Node) hp h=>Zf hp
open Go.Ev.Pl
def iJ(n:Node)(v:gh):Node:=(n.1,4,(n.2.2.1.1,n.2.2.1.2.1,n.2.2.1.2.2.1,n.2.2.1.2.2.2.1,v.2.2.1),v,n.2.2.2.2.1,false,n.2.2.2.2.2.2)
def P2(n:Node)(s t:Int)(b:Bool)(st:Int):Node:=(n.1,s,(0,0,0,0,0),(0,0,0,0,0,0,0),t,b,st,n.2.2.2.2.2.2.2)
def yN(m:ak)(n:Node):Node×gT×Bool×Int:=((n.1,n.2.1,eY m n.2.2.1 (gn m n).2.1,n.2.2.2),gn m n,true,0)
def mR(m:ak)(n:Node):Node×gT×Bool×Int:=bif decide ((dd n).2=2) then(P2 n 5 0 false 1,ng,false,0) else bif decide ((dd n).2=3) then(P2 n 1 (jZ m n.1).1 n.2.2.2.2.2.1 2,ng,false,0) else bif decide ((dd n).2=4) then(P2 n 1 (yq m n.1).1 n.2.2.2.2.2.1 n.2.2.2.2.2.2.1,ng,false,0) else yN m (iJ n (dd n).1)
def oS(m:ak)(n:Node):Node×gT×Bool×Int:=bif decide (aS m n=0) then(bif gb n&&decide (n.2.2.1.2.1=n.1) then mR m n else(dM,ng,false,181)) else(dM,ng,false,aS m n)
theorem dN{m:ak}{n:Node}(h:aS m n=0)(h1:gb n=true):dp m n.2.2.1=true∧gS n.2.2.2.1=0∧n.2.2.2.1.1=n.1∧n.2.2.2.1.2.1=m.1∧n.2.2.1.2.2.2.2=n.2.2.2.1.2.2.1:=by
 have hc:=(bF.1 (aP h).2).2.2.2.2.2.2.2.1
 rw[mX,h1,cond_true] at hc
 simpa only[Bool.and_eq_true,decide_eq_true_eq] using hc
theorem BS{m:ak}{k n:Int}(hm:dy m=true)(h1:0≤n∧n≤m.1-1)(h2:0≤k∧k<cO m):(bo m k n).2=0:=by
 rw[bo,gw,hm,cond_true,decide_eq_true h1,decide_eq_true (show 0≤k∧k≤cO m-1 by omega)];rfl
theorem gM{m:ak}{c:dq}(h:dp m c=true):gm (c,m.1)=0∧(0≤c.2.2.1∧c.2.2.1<cO m)∧c.2.2.2.1≤cO m:=by
 simp only[dp,Bool.and_eq_true,decide_eq_true_eq] at h
 exact⟨h.1,⟨(iZ h.1).2.2.2.1.1,h.2.1⟩,h.2.2⟩
theorem Qa{m:ak}{n:Node}{v:gh}(h:aS m n=0)(h1:gb n=true):G5 m (iJ n v)=true:=by
 have hz:=bF.1 (aP h).2
 rw[G5,Bool.and_eq_true]
 exact⟨decide_eq_true (BS (aP h).1 hz.1 (gM (dN h h1).1).2.1),show dE n.2.2.2.2.2.2.2=true from j5 h⟩
theorem QD{m:ak}{i:Int}:aj.k qm (m,i)=(jZ m i).1:=rfl
theorem Sv{m:ak}{i:Int}:aj.k JS (m,i)=(yq m i).1:=rfl
structure Ef where
 (a0:Int) (a1:ak) (a2 a3:gh) (a4:Int) (a5:Bool) (a6 a7 a8 a9:Int) (bH:gh) (dP:Int) (a12:Node)
structure Ig where
 (b0:ak) (b1 b2:gh) (b3:Int) (b4:Bool) (b5 b6 b7 b8:Int) (b9:gh) (b10:Int) (b11:Node)
inductive MF where
 | c0 (p:Ef)
 | c1 (p:Ig)
noncomputable def PU:MF→gB
 | .c0 p=>⟨[⟨43,91,(en [(2,.ptr 0 0),(4,.ptr 1 0),(5,.ptr 2 0),(8,.ptr 3 0),(9,vi p.a0)]),[.code (cw Tryz.f43 [1,1,0,0]),.code (cw Tryz.f43 [1,1,0,1]),.code (cw Tryz.f43 [1,1,1])],[],none⟩],[.flat false [vi p.a1.1,vi p.a1.2.1,vi p.a1.2.2.1,vi p.a1.2.2.2.1,vi p.a1.2.2.2.2.1,vi p.a1.2.2.2.2.2.1,.sl .bool p.a1.2.2.2.2.2.2.1,.sl aX p.a1.2.2.2.2.2.2.2],.flat false [vi p.a2.1,vi p.a2.2.1,vi p.a2.2.2.1,vi p.a2.2.2.2.1,vi p.a2.2.2.2.2.1,vi p.a2.2.2.2.2.2.1,vi p.a2.2.2.2.2.2.2,vi p.a3.1,vi p.a3.2.1,vi p.a3.2.2.1,vi p.a3.2.2.2.1,vi p.a3.2.2.2.2.1,vi p.a3.2.2.2.2.2.1,vi p.a3.2.2.2.2.2.2,vi p.a4,vb p.a5,vi p.a6,vi p.a7,.bK true,.bK true,vi p.a8,vi p.a9],.flat false [vi p.bH.1,vi p.bH.2.1,vi p.bH.2.2.1,vi p.bH.2.2.2.1,vi p.bH.2.2.2.2.1,vi p.bH.2.2.2.2.2.1,vi p.bH.2.2.2.2.2.2,vi p.dP,.bK true],.flat false [vi p.a12.1,vi p.a12.2.1,vi p.a12.2.2.1.1,vi p.a12.2.2.1.2.1,vi p.a12.2.2.1.2.2.1,vi p.a12.2.2.1.2.2.2.1,vi p.a12.2.2.1.2.2.2.2,vi p.a12.2.2.2.1.1,vi p.a12.2.2.2.1.2.1,vi p.a12.2.2.2.1.2.2.1,vi p.a12.2.2.2.1.2.2.2.1,vi p.a12.2.2.2.1.2.2.2.2.1,vi p.a12.2.2.2.1.2.2.2.2.2.1,vi p.a12.2.2.2.1.2.2.2.2.2.2,vi p.a12.2.2.2.2.1,vb p.a12.2.2.2.2.2.1,vi p.a12.2.2.2.2.2.2.1,vi p.a12.2.2.2.2.2.2.2.1,.sl yU p.a12.2.2.2.2.2.2.2.2.1,.sl df p.a12.2.2.2.2.2.2.2.2.2.1,vi p.a12.2.2.2.2.2.2.2.2.2.2.1,vi p.a12.2.2.2.2.2.2.2.2.2.2.2],.dead]⟩
 | .c1 p=>⟨[⟨43,91,(en [(2,.ptr 0 0),(4,.ptr 1 0),(5,.ptr 2 0),(8,.ptr 3 0)]),[.code (cw Tryz.f43 [1,1,1,1,1,1,0]),.code (cw Tryz.f43 [1,1,1,1,1,1,1])],[],none⟩],[.flat false [vi p.b0.1,vi p.b0.2.1,vi p.b0.2.2.1,vi p.b0.2.2.2.1,vi p.b0.2.2.2.2.1,vi p.b0.2.2.2.2.2.1,.sl .bool p.b0.2.2.2.2.2.2.1,.sl aX p.b0.2.2.2.2.2.2.2],.flat false [vi p.b1.1,vi p.b1.2.1,vi p.b1.2.2.1,vi p.b1.2.2.2.1,vi p.b1.2.2.2.2.1,vi p.b1.2.2.2.2.2.1,vi p.b1.2.2.2.2.2.2,vi p.b2.1,vi p.b2.2.1,vi p.b2.2.2.1,vi p.b2.2.2.2.1,vi p.b2.2.2.2.2.1,vi p.b2.2.2.2.2.2.1,vi p.b2.2.2.2.2.2.2,vi p.b3,vb p.b4,vi p.b5,vi p.b6,.bK true,.bK true,vi p.b7,vi p.b8],.flat false [vi p.b9.1,vi p.b9.2.1,vi p.b9.2.2.1,vi p.b9.2.2.2.1,vi p.b9.2.2.2.2.1,vi p.b9.2.2.2.2.2.1,vi p.b9.2.2.2.2.2.2,vi p.b10,.bK true],.flat false [vi p.b11.1,vi p.b11.2.1,vi p.b11.2.2.1.1,vi p.b11.2.2.1.2.1,vi p.b11.2.2.1.2.2.1,vi p.b11.2.2.1.2.2.2.1,vi p.b11.2.2.1.2.2.2.2,vi p.b11.2.2.2.1.1,vi p.b11.2.2.2.1.2.1,vi p.b11.2.2.2.1.2.2.1,vi p.b11.2.2.2.1.2.2.2.1,vi p.b11.2.2.2.1.2.2.2.2.1,vi p.b11.2.2.2.1.2.2.2.2.2.1,vi p.b11.2.2.2.1.2.2.2.2.2.2,vi p.b11.2.2.2.2.1,vb p.b11.2.2.2.2.2.1,vi p.b11.2.2.2.2.2.2.1,vi p.b11.2.2.2.2.2.2.2.1,.sl yU p.b11.2.2.2.2.2.2.2.2.1,.sl df p.b11.2.2.2.2.2.2.2.2.2.1,vi p.b11.2.2.2.2.2.2.2.2.2.2.1,vi p.b11.2.2.2.2.2.2.2.2.2.2.2],.dead]⟩
def QK(A:bi)(m:ak)(n:Node):LT (Node×gT×Bool×Int) MF:=.need (A.k (@tt Node) n) (.br (A.k cv n) (.need (A.k (@tt (ak×Node×Bool)) (m,n,(A.c .eql n.2.2.1.2.1 n.1))) (.need (A.k (@tt (ak×Node×Bool)) (m,n,(A.c .eql n.2.2.1.2.1 n.1))) (.eqs (((A.k cv n):Bool)=true) (.need (A.k (@tt Node) n) (.more (.c0 ⟨(A.k aI (m,n,(A.c .eql n.2.2.1.2.1 n.1))).2,m,(0,0,0,0,0,0,0),(0,0,0,0,0,0,0),0,false,0,0,0,0,(0,0,0,0,0,0,0),0,(A.k aI (m,n,(A.c .eql n.2.2.1.2.1 n.1))).1⟩)))))) (.need (A.k (@tt (ak×Node×Bool)) (m,n,false)) (.need (A.k (@tt (ak×Node×Bool)) (m,n,false)) (.eqs (((A.k cv n):Bool)=false) (.need (A.k (@tt Node) n) (.more (.c0 ⟨(A.k aI (m,n,false)).2,m,(0,0,0,0,0,0,0),(0,0,0,0,0,0,0),0,false,0,0,0,0,(0,0,0,0,0,0,0),0,(A.k aI (m,n,false)).1⟩)))))))
def Da(A:bi):MF→LT (Node×gT×Bool×Int) MF
 | .c0 p=>.br (A.c .neq p.a0 0) (.ret ((0,0,(0,0,0,0,0),(0,0,0,0,0,0,0),0,false,0,0,([]:List Int),([]:List bW),0,0),(0,0,(0,0,0,0,0),0,([]:List Int)),false,p.a0)) (.need (A.k Ik p.a12) (.br (A.c .eql (A.k vp p.a12).2 2) (.ret ((p.a12.1,5,(0,0,0,0,0),(0,0,0,0,0,0,0),0,false,1,p.a12.2.2.2.2.2.2.2),(0,0,(0,0,0,0,0),0,([]:List Int)),false,0)) (.br (A.c .eql (A.k vp p.a12).2 3) (.need (A.k (@tt (ak×Int)) (p.a1,p.a12.1)) (.ret ((p.a12.1,1,(0,0,0,0,0),(0,0,0,0,0,0,0),(A.k qm (p.a1,p.a12.1)),p.a12.2.2.2.2.2.1,2,p.a12.2.2.2.2.2.2.2),(0,0,(0,0,0,0,0),0,([]:List Int)),false,0))) (.br (A.c .eql (A.k vp p.a12).2 4) (.need (A.k (@tt (ak×Int)) (p.a1,p.a12.1)) (.ret ((p.a12.1,1,(0,0,0,0,0),(0,0,0,0,0,0,0),(A.k JS (p.a1,p.a12.1)),p.a12.2.2.2.2.2),(0,0,(0,0,0,0,0),0,([]:List Int)),false,0))) (.more (.c1 ⟨p.a1,p.a2,p.a3,p.a4,p.a5,p.a6,p.a7,p.a8,p.a9,p.bH,p.dP,(p.a12.1,4,(p.a12.2.2.1.1,p.a12.2.2.1.2.1,p.a12.2.2.1.2.2.1,p.a12.2.2.1.2.2.2.1,(A.k vp p.a12).1.2.2.1),(A.k vp p.a12).1,p.a12.2.2.2.2.1,false,p.a12.2.2.2.2.2.2)⟩))))))
 | .c1 p=>.need (A.k Le (p.b0,p.b11)) (.br (A.c .neq (A.k pz (p.b0,p.b11)).2 0) (.ret ((0,0,(0,0,0,0,0),(0,0,0,0,0,0,0),0,false,0,0,([]:List Int),([]:List bW),0,0),(0,0,(0,0,0,0,0),0,([]:List Int)),false,(A.k pz (p.b0,p.b11)).2)) (.need (A.k (@tt (ak×dq×Int)) (p.b0,p.b11.2.2.1,(A.k pz (p.b0,p.b11)).1.2.1)) (.need (A.k (@tt (ak×dq×Int)) (p.b0,p.b11.2.2.1,(A.k pz (p.b0,p.b11)).1.2.1)) (.br (A.c .eql (A.k gi (p.b0,p.b11.2.2.1,(A.k pz (p.b0,p.b11)).1.2.1)).2 0) (.ret ((p.b11.1,p.b11.2.1,(A.k gi (p.b0,p.b11.2.2.1,(A.k pz (p.b0,p.b11)).1.2.1)).1,p.b11.2.2.2),(A.k pz (p.b0,p.b11)).1,true,0)) (.ret (p.b11,(A.k pz (p.b0,p.b11)).1,true,0))))))
theorem QR{p:Ig}(h:G5 p.b0 p.b11=true):aA (Da aj) (.more (.c1 p)) (yN p.b0 p.b11):=by
 rw[al,Da,yN]
 rw[show aj.k pz (p.b0,p.b11)=(gn p.b0 p.b11,0) from rfl,show aj.k gi (p.b0,p.b11.2.2.1,(gn p.b0 p.b11,(0:Int)).1.2.1)=l5 p.b0 p.b11.2.2.1 (gn p.b0 p.b11).2.1 from rfl]
 refine af.2 ⟨h,(ah rfl).2 (af.2 ⟨rfl,af.2 ⟨rfl,ax (p:=(l5 p.b0 p.b11.2.2.1 (gn p.b0 p.b11).2.1).2=0) aH (fun g=>ay ?_ (.ret _)) fun g=>ay ?_ (.ret _)⟩⟩)⟩
 ·rw[eY,decide_eq_true g];rfl
 ·rw[eY,decide_eq_false g];rfl
theorem Sx{p:Ef}{m:ak}{n:Node}(h0:p.a0=0)(h1:p.a1=m)(h12:p.a12=n)(h:aS m n=0)(hi:gb n=true):aA (Da aj) (.more (.c0 p)) (mR m n):=by
 subst h1 h12
 rw[al,Da,mR,h0,QD,Sv,show aj.k vp p.a12=dd p.a12 from rfl]
 refine(ah rfl).2 (af.2 ⟨decide_eq_true (dN h hi).2.1,ax (p:=(dd p.a12).2=2) aH (fun g=>ay ?_ (.ret _)) fun g=>ax (p:=(dd p.a12).2=3) aH (fun g3=>af.2 ⟨rfl,ay ?_ (.ret _)⟩) fun g3=>ax (p:=(dd p.a12).2=4) aH (fun g4=>af.2 ⟨rfl,ay ?_ (.ret _)⟩) fun g4=>?_⟩)
 ·rw[decide_eq_true g];rfl
 ·rw[decide_eq_false g,decide_eq_true g3];rfl
 ·rw[decide_eq_false g,decide_eq_false g3,decide_eq_true g4];rfl
 ·rw[decide_eq_false g,decide_eq_false g3,decide_eq_false g4]
  exact QR (Qa h hi)
theorem aaF{m:ak}{n:Node}:aA (Da aj) (QK aj m n) (oS m n):=by
 unfold QK oS
 rw[show aj.k cv n=gb n from rfl]
 refine af.2 ⟨rfl,?_⟩
 have no:∀q:Ef,q.a0=(gu m n false).2→aA (Da aj) (.more (.c0 q)) (bif decide (aS m n=0) then(dM,ng,false,181) else(dM,ng,false,aS m n)):=fun q hq=>by
  rw[al,Da,hq,gu]
  by_cases h:aS m n=0
  ·rw[decide_eq_true h];exact(ai rfl).2 (.ret _)
  ·rw[decide_eq_false h];exact(ai (fT h)).2 (.ret _)
 cases hi:gb n
 ·exact(ah rfl).2 (af.2 ⟨rfl,af.2 ⟨rfl,fe.2 ⟨rfl,af.2 ⟨rfl,no _ rfl⟩⟩⟩⟩)
 ·refine(ai rfl).2 (af.2 ⟨rfl,af.2 ⟨rfl,fe.2 ⟨rfl,af.2 ⟨rfl,?_⟩⟩⟩⟩)
  rw[show ∀w,aj.k aI (m,n,w)=gu m n w from fun _=>rfl,aH,Bool.true_and]
  by_cases hp:n.2.2.1.2.1=n.1
  ·rw[decide_eq_true hp,cond_true]
   by_cases h:aS m n=0
   ·have e:gu m n true=(n,0):=by rw[gu,decide_eq_true h];rfl
    rw[decide_eq_true h,e]
    exact Sx rfl rfl rfl h hi
   ·have:=no ⟨(gu m n true).2,m,(0,0,0,0,0,0,0),(0,0,0,0,0,0,0),0,false,0,0,0,0,(0,0,0,0,0,0,0),0,(gu m n true).1⟩ (by rw[gu,gu,decide_eq_false h];rfl)
    rw[decide_eq_false h] at this ⊢
    exact this
  ·rw[decide_eq_false hp];exact no _ rfl
def b_:(ak×Node)→(Node×gT×Bool×Int):=fun(m,n)=>oS m n
def TW:aD:=⟨[bd,aQ], [aQ,uy,.bool,yI],(@tt (ak×Node)),b_⟩
theorem Oz:Sd 43 TW:=aL au cK true 39 [] [⟨43,2, [[2,4,5,8,9]]⟩,⟨43,18, [[2,4,5,8]]⟩] (fun A (m,n)=>QK A m n) Da PU (fc Tryz.func43 (fc Tryz.func77 (fc Tryz.func102 fz))) (sc zK (sc tL (sc Dc (sc Wq (sc Uc (sc XO (sc zA sz))))))) (fun A y=>match y with |.c0 p=>⟨89,by kernel_rfl,by kernel_rfl⟩|.c1 p=>⟨74,by kernel_rfl,by kernel_rfl⟩) fun(m,n) hp h=>aaF
open Go.Ev.Pl
theorem LB{x:List UInt8}:aj.z .eql x x=true:=by show(x==x)=true;simp
theorem je{x:Int}:aj.c .eql x x=true:=by rw[aH];simp
theorem Ho{x:Int}:aj.c .neq x x=false:=by rw[aT];simp
def Pq(A:bi)(a:gT)(b:gT):LT Bool Empty:=.need (A.k (@tt ((Int×Int×(Int×Int×Int×Int×Int)×Int×List Int)×(Int×Int×(Int×Int×Int×Int×Int)×Int×List Int))) (a,b)) (.ret (A.k QW (a,b)))
theorem Pv{a b:gT}(h:a=b):aA Empty.elim (Pq aj a b) true:=by
 subst h
 unfold Pq
 refine af.2 ⟨rfl,ay ?_ (.ret _)⟩
 obtain⟨k,r,⟨t,p,m,n,s⟩,f,d⟩:=a
 simp only[ap,QW,t44,LT.val,je,LB,cond_true]
 rfl
def Pj:(gT×gT)→Bool:=fun _=>true
def Jv:(gT×gT)→Bool:=fun(a,b)=>decide (a=b)
def YD:aD:=⟨[uy,uy], [.bool],Jv,Pj⟩
theorem Y7:Sd 45 YD:=aK au cK true 19 [] (fun A (a,b)=>Pq A a b) (fc Tryz.func45 fz) (sc abL sz) fun((a,b):gT×gT) hp h=>Pv (of_decide_eq_true hp)
end Go.Ev.M
