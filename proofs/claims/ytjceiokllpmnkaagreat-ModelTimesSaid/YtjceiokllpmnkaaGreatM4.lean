/-
  PROVED: what functions of the program compute, part 4. Conditions: none.
-/
import Derived.Test.YtjceiokllpmnkaaGreatM3
set_option linter.unusedVariables false
set_option linter.unusedSimpArgs false
namespace Go.Ev.M
open Go.Proofs
set_option maxRecDepth 100000
open Go.Ev.Pl
noncomputable section
structure Z2 where
 (a1:List gn) (a2:Int)
inductive UL where
 | c0 (p:Z2)
noncomputable def aaw:UL→eD
 | .c0 p=>⟨[⟨18,42,(en [(2,vi 0),(3,.sl dN p.a1),(4,vi p.a2)]),[.code (cw Tryz.f18 [1,1,1,0]),.code .ret],[],none⟩],[.dead]⟩
abbrev wY(A:aI):=(A.p (A.p (A.p [true] [true]) [true]) [true])
abbrev FQ(A:aI):=([((A.p (A.p (A.p ([2]:List Int) ([2]:List Int)) ([2]:List Int)) ([2]:List Int)),(wY A), [true])]:List Mode)
abbrev WW(A:aI):=(A.k mM ((4,(A.b .add .i64 76 (A.k Dc (4,0,38,16,0,1,(wY A),(FQ A)))),38,16,0,1,(wY A),(FQ A)),0,([]:List Bool),([]:List Int),([]:List Int),([]:List Int),([]:List Int),([]:List bl),([]:List aM)))
abbrev WC(A:aI):=(A.c .leq (A.l (A.p (A.p [true] [true]) [true])) 140737488355328)
def abY(A:aI):LT Bool UL:=.need (A.c .leq (A.l ([true]:List Bool)) 140737488355328) (.need (A.c .leq (A.l ([2]:List Int)) 17592186044416) (.need (A.c .leq (A.l ([true]:List Bool)) 140737488355328) (.need (A.c .leq (A.l (A.p [true] [true])) 140737488355328) (.need (A.c .leq (A.l (A.p ([2]:List Int) ([2]:List Int))) 17592186044416) (.need (A.c .leq (A.l (A.p [true] [true])) 140737488355328) (.need (WC A) (.need (A.c .leq (A.l (A.p (A.p ([2]:List Int) ([2]:List Int)) ([2]:List Int))) 17592186044416) (.need (WC A) (.need (A.c .leq (A.l (wY A)) 140737488355328) (.need (A.c .leq (A.l (A.p (A.p (A.p ([2]:List Int) ([2]:List Int)) ([2]:List Int)) ([2]:List Int))) 17592186044416) (.need (A.c .leq (A.l (wY A)) 140737488355328) (.need (A.k (@tt al) (4,0,38,16,0,1,(wY A),(FQ A))) (.need (A.k pJ ((4,(A.b .add .i64 76 (A.k Dc (4,0,38,16,0,1,(wY A),(FQ A)))),38,16,0,1,(wY A),(FQ A)),0,([]:List Bool),([]:List Int),([]:List Int),([]:List Int),([]:List Int),([]:List bl),([]:List aM))) (.more (.c0 ⟨(WW A).1,(WW A).2⟩)))))))))))))))
def afp(A:aI):UL→LT Bool UL
 | .c0 p=>.br (A.c .eql 0 0) (.br (A.c .eql p.a2 0) (.br (A.c .eql (A.l p.a1) 4) (.need (A.and (A.c .leq 0 3) (A.c .lss 3 (A.l p.a1))) (.br (A.c .eql (A.n dN p.a1 3:gn).1 1) (.need (A.and (A.c .leq 0 3) (A.c .lss 3 (A.l p.a1))) (.ret (A.and (A.c .eql (A.n dN p.a1 3:gn).2.2.2.1.1 1) (A.and (A.c .eql (A.n dN p.a1 3:gn).2.2.2.1.2.1 0) (A.and (A.c .eql (A.n dN p.a1 3:gn).2.2.2.1.2.2.1 0) (A.and (A.c .eql (A.n dN p.a1 3:gn).2.2.2.1.2.2.2.1 0) (A.and (A.c .eql (A.n dN p.a1 3:gn).2.2.2.1.2.2.2.2 15) true))))))) (.ret false))) (.ret false)) (.ret false)) (.ret false)
def F7{R Y:Type}(s:Y→LT R Y):Nat→LT R Y→Option R
 | 0,_=>none
 | n+1,t=>match t with
   | .ret r=>some r
   | .more y=>F7 s n (s y)
   | .br b t e=>bif b then F7 s n t else F7 s n e
   | .need b t=>bif b then F7 s n t else none
   | _=>none
theorem qV{R Y:Type}{s:Y→LT R Y}:∀{n:Nat} {t:LT R Y} {r:R},F7 s n t=some r→au s t r
 | 0,_,_,h=>by cases h
 | n+1,t,r,h=>by
   cases t with
   | ret q=>cases h;exact .ret _
   | more y=>exact .more (qV (n:=n) h)
   | br b t e=>
     cases b
     ·exact(ai rfl).2 (qV (n:=n) h)
     ·exact(aj rfl).2 (qV (n:=n) h)
   | need b t=>
     cases b
     ·cases h
     ·exact af.2 ⟨rfl,qV (n:=n) h⟩
   | eqs _ _=>cases h
   | and _ _=>cases h
   | bad _ _=>cases h
set_option maxHeartbeats 4000000 in
theorem Q9:au (afp ah) (abY ah) true:=qV (n:=40) (by kernel_rfl)
def KM:Unit→Bool:=fun _=>true
def ahl:ax:=⟨[], [.bool],(@tt Unit),KM⟩
theorem aef:Sd 18 ahl:=aP ap bR true 313 [] [⟨18,3, [[2,3,4]]⟩] (fun A _=>abY A) afp aaw (fc Tryz.func18 (fc Tryz.func37 fz)) (sc W_ (sc Ww sz)) (fun A y=>match y with |.c0 p=>⟨35,by kernel_rfl,by kernel_rfl⟩) fun _ hp h=>Q9
abbrev KO(A:aI)(kind:Int):LT (Bool×Bool×Bool×Bool×Bool) Empty:=(.br (A.c .eql kind 5) (.ret (false,true,true,false,false)) (.br (A.c .eql kind 7) (.br (A.c .eql kind 7) (.ret (true,false,false,true,false)) (.br (A.c .eql kind 9) (.ret (true,false,true,true,true)) (.br (A.c .eql kind 10) (.ret (true,false,true,true,false)) (.ret (false,true,false,false,false))))) (.br (A.c .eql kind 8) (.ret (true,false,false,true,false)) (.br (A.c .eql kind 9) (.ret (true,false,true,true,true)) (.br (A.c .eql kind 10) (.ret (true,false,true,true,false)) (.ret (false,true,false,false,false)))))))
abbrev JS(A:aI)(kind:Int):LT (Bool×Bool×Bool×Bool×Bool) Empty:=(.br (A.c .eql kind 3) (.br (A.c .eql kind 3) (.ret (true,false,false,false,false)) (KO A kind)) (.br (A.c .eql kind 4) (.br (A.c .eql kind 4) (.ret (true,false,false,false,false)) (KO A kind)) (.br (A.c .eql kind 11) (.ret (true,false,false,false,false)) (KO A kind))))
abbrev Kc:LT (Bool×Bool×Bool×Bool×Bool) Empty:=(.ret (true,false,true,false,false))
def TE(A:aI)(kind:Int):LT (Bool×Bool×Bool×Bool×Bool) Empty:=.br (A.c .eql kind 1) (.br (A.c .eql kind 1) (Kc) (JS A kind)) (.br (A.c .eql kind 2) (.br (A.c .eql kind 2) (Kc) (JS A kind)) (.br (A.c .eql kind 6) (Kc) (JS A kind)))
def jc:Int→(Bool×Bool×Bool×Bool×Bool):=fun kind=>(TE ah kind).val (Ty.bi [.bool,.bool,.bool,.bool,.bool])
def agJ:ax:=⟨[yI], [.bool,.bool,.bool,.bool,.bool],(@tt Int),jc⟩
theorem af9:Sd 121 agJ:=aH ap bR true 93 [] (fun A kind=>TE A kind) (fc Tryz.func121 fz) sz (fun(kind:Int) hp h=>by
 show(TE ah kind).pre=true
 simp only[TE,Kc,JS,KO,LT.pre,Bool.cond_self])
def Uv(A:aI)(v:Int)(has:Bool)(least:Int)(most:Int):LT Bool Empty:=.br (A.not has) (.ret (A.c .eql v 0)) (.br (A.c .geq v least) (.ret (A.c .leq v most)) (.ret false))
def kj:(Int×Bool×Int×Int)→Bool:=fun(v,has,least,most)=>(Uv ah v has least most).val (Ty.bi [.bool])
def agI:ax:=⟨[yI,.bool,yI,yI], [.bool],(@tt (Int×Bool×Int×Int)),kj⟩
theorem acM:Sd 123 agI:=aH ap bR true 30 [] (fun A (v,has,least,most)=>Uv A v has least most) (fc Tryz.func123 fz) sz (fun((v,has,least,most):Int×Bool×Int×Int) hp h=>by
 show(Uv ah v has least most).pre=true
 simp only[Uv,LT.pre,Bool.cond_self])
def TJ(A:aI)(m:al)(kind:Int):LT (Int×Int) Empty:=.br (A.c .eql kind 7) (.ret (0,200)) (.br (A.c .eql kind 8) (.ret ((A.u .neg .i64 m.2.2.1),m.2.2.1)) (.br (A.c .eql kind 9) (.ret (0,(A.b .sub .i64 m.2.1 1))) (.ret (0,(A.b .sub .i64 m.1 1)))))
def FO:(al×Int)→(Int×Int):=fun(m,kind)=>(TJ ah m kind).val (Ty.bi [yI,yI])
def aeH:ax:=⟨[aR,yI], [yI,yI],(@tt (al×Int)),FO⟩
theorem afE:Sd 122 aeH:=aH ap bR true 46 [] (fun A (m,kind)=>TJ A m kind) (fc Tryz.func122 fz) sz (fun((m,kind):al×Int) hp h=>by
 show(TJ ah m kind).pre=true
 simp only[TJ,LT.pre,Bool.cond_self])
structure NB where
 (a5 a6:aM)
inductive Tz where
 | c0 (p:NB) (a4:Int)
noncomputable def ZB:Tz→eD
 | .c0 p a4=>⟨[⟨124,68,(en [(5,.nD 0 1 false 0 7),(6,.nD 1 1 false 0 7),(7,vi a4)]),[.inLoop (cw Tryz.f124 [1,1,1,0,1,0,0]),.inBlock 0,.code (cw Tryz.f124 [1,1,1,1])],[],none⟩],[.flat false (dc aQ p.a5),.flat false (dc aQ p.a6),.dead]⟩
def ag_(A:aI)(a:aM)(b:aM):LT Bool Tz:=.more (.c0 ⟨(a.2.2.2.1,a.2.2.2.2.1,a.1,a.2.1,a.2.2.1,a.2.2.2.2.2),(b.2.2.2.1,b.2.2.2.2.1,b.1,b.2.1,b.2.2.1,b.2.2.2.2.2)⟩ 0)
def Vs(A:aI):Tz→LT Bool Tz
 | .c0 p a4=>.br (A.c .lss a4 7) (.br (A.c .lss a4 7) (.need (A.and (A.c .leq 0 a4) (A.c .lss a4 7)) (.need (A.and (A.c .leq 0 a4) (A.c .lss a4 7)) (.br (A.c .neq (A.n yI [p.a5.1,p.a5.2.1,p.a5.2.2.1,p.a5.2.2.2.1,p.a5.2.2.2.2.1,p.a5.2.2.2.2.2.1,p.a5.2.2.2.2.2.2] (A.b .add .i64 0 a4):Int) (A.n yI [p.a6.1,p.a6.2.1,p.a6.2.2.1,p.a6.2.2.2.1,p.a6.2.2.2.2.1,p.a6.2.2.2.2.2.1,p.a6.2.2.2.2.2.2] (A.b .add .i64 0 a4):Int)) (.need (A.and (A.c .leq 0 a4) (A.c .lss a4 7)) (.need (A.and (A.c .leq 0 a4) (A.c .lss a4 7)) (.ret (A.c .lss (A.n yI [p.a5.1,p.a5.2.1,p.a5.2.2.1,p.a5.2.2.2.1,p.a5.2.2.2.2.1,p.a5.2.2.2.2.2.1,p.a5.2.2.2.2.2.2] (A.b .add .i64 0 a4):Int) (A.n yI [p.a6.1,p.a6.2.1,p.a6.2.2.1,p.a6.2.2.2.1,p.a6.2.2.2.2.1,p.a6.2.2.2.2.2.1,p.a6.2.2.2.2.2.2] (A.b .add .i64 0 a4):Int))))) (.more (.c0 p (A.b .add .i64 a4 1)))))) (.ret false)) (.ret false)
theorem My{p:NB}:∀(j i:Nat),7-i=j→i≤7→au (Vs ah) (.more (.c0 p (i:Int))) (lexB ([p.a5.1,p.a5.2.1,p.a5.2.2.1,p.a5.2.2.2.1,p.a5.2.2.2.2.1,p.a5.2.2.2.2.2.1,p.a5.2.2.2.2.2.2].drop i) ([p.a6.1,p.a6.2.1,p.a6.2.2.1,p.a6.2.2.2.1,p.a6.2.2.2.2.1,p.a6.2.2.2.2.2.1,p.a6.2.2.2.2.2.2].drop i)):=by
 intro j
 generalize hA:[p.a5.1,p.a5.2.1,p.a5.2.2.1,p.a5.2.2.2.1,p.a5.2.2.2.2.1,p.a5.2.2.2.2.2.1,p.a5.2.2.2.2.2.2]=L
 generalize hB:[p.a6.1,p.a6.2.1,p.a6.2.2.1,p.a6.2.2.2.1,p.a6.2.2.2.2.1,p.a6.2.2.2.2.2.1,p.a6.2.2.2.2.2.2]=M
 have lL:L.length=7:=by rw[←hA];rfl
 have lM:M.length=7:=by rw[←hB];rfl
 induction j with
 | zero=>
   intro i hj hi
   have:i=7:=by omega
   subst this
   rw[List.drop_eq_nil_of_le (by omega)]
   exact ak.2 ((ai rfl).2 (.ret _))
 | succ j ih=>
   intro i hj hi
   have hi':i<7:=by omega
   have nx:=ih (i+1) (by omega) (by omega)
   have lt7:ah.c .lss (i:Int) 7=true:=by rw[ar];exact aK (by omega)
   have ix7:ah.and (ah.c .leq 0 (i:Int)) (ah.c .lss (i:Int) 7)=true:=by rw[aJ,lt7,ao,aK (show(0:Int)≤(i:Int) by omega)];rfl
   have e0:ah.b .add .i64 0 (i:Int)=(i:Int):=by rw[ck,iZ (by omega) (by omega)];omega
   have n1:(ah.n yI [p.a5.1,p.a5.2.1,p.a5.2.2.1,p.a5.2.2.2.1,p.a5.2.2.2.2.1,p.a5.2.2.2.2.2.1,p.a5.2.2.2.2.2.2] (ah.b .add .i64 0 (i:Int)):Int)=L[i]'(by omega):=by
    rw[e0];show([p.a5.1,p.a5.2.1,p.a5.2.2.1,p.a5.2.2.2.1,p.a5.2.2.2.2.1,p.a5.2.2.2.2.2.1,p.a5.2.2.2.2.2.2]:List Int).getD (i:Int).toNat _=_;rw[hA];exact getD_in _ _
   have n2:(ah.n yI [p.a6.1,p.a6.2.1,p.a6.2.2.1,p.a6.2.2.2.1,p.a6.2.2.2.2.1,p.a6.2.2.2.2.2.1,p.a6.2.2.2.2.2.2] (ah.b .add .i64 0 (i:Int)):Int)=M[i]'(by omega):=by
    rw[e0];show([p.a6.1,p.a6.2.1,p.a6.2.2.1,p.a6.2.2.2.1,p.a6.2.2.2.2.1,p.a6.2.2.2.2.2.1,p.a6.2.2.2.2.2.2]:List Int).getD (i:Int).toNat _=_;rw[hB];exact getD_in _ _
   rw[ak,Vs]
   refine(aj lt7).2 ((aj lt7).2 (af.2 ⟨ix7,af.2 ⟨ix7,?_⟩⟩))
   rw[n1,n2,pV (show i<L.length by omega),pV (show i<M.length by omega),lexB,bU (i:=i) (by omega)]
   refine aB (p:=¬L[i]=M[i]) aU (fun h=>af.2 ⟨ix7,af.2 ⟨ix7,?_⟩⟩) fun h=>?_
   ·rw[aX h,Bool.false_and,Bool.or_false];exact .ret _
   ·have h:=Decidable.not_not.1 h
    rw[h,aX (Int.lt_irrefl _),Bool.false_or,aK rfl,Bool.true_and]
    exact nx
theorem Uc{a b:aM}:au (Vs ah) (ag_ ah a b) (dP a b):=
 My (p:=⟨(a.2.2.2.1,a.2.2.2.2.1,a.1,a.2.1,a.2.2.1,a.2.2.2.2.2),(b.2.2.2.1,b.2.2.2.2.1,b.1,b.2.1,b.2.2.1,b.2.2.2.2.2)⟩) 7 0 rfl (by omega)
def KL:(aM×aM)→Bool:=fun(a,b)=>dP a b
def ad3:ax:=⟨[aQ,aQ], [.bool],(@tt (aM×aM)),KL⟩
theorem adB:Sd 124 ad3:=aP ap bR true 57 [⟨124,4, [[5,6,7]]⟩] [] (fun A (a,b)=>ag_ A a b) Vs ZB (fc Tryz.func124 fz) sz (fun A y=>match y with |.c0 p a4=>⟨50,by kernel_rfl,by kernel_rfl⟩) fun(a,b) hp h=>Uc
def Ve(A:aI)(m:al)(f:aM):LT Int Empty:=.need (A.k (@tt al) m) (.br (A.c .neq (A.k xA m) 0) (.ret (A.k xA m)) (.br (A.c .lss f.1 1) (.ret 150) (.br (A.c .gtr f.1 12) (.ret 150) (.br (A.c .lss f.2.2.2.1 0) (.ret 150) (.br (A.c .geq f.2.2.2.1 16) (.ret 150) (.need (A.k (@tt Int) f.1) (.need (A.k (@tt (al×Int)) (m,f.1)) (.need (A.k (@tt (Int×Bool×Int×Int)) (f.2.1,(A.k jc f.1).1,0,(A.b .sub .i64 m.1 1))) (.br (A.not (A.k kj (f.2.1,(A.k jc f.1).1,0,(A.b .sub .i64 m.1 1)))) (.ret 150) (.need (A.k (@tt (Int×Bool×Int×Int)) (f.2.2.1,(A.k jc f.1).2.1,0,1)) (.br (A.not (A.k kj (f.2.2.1,(A.k jc f.1).2.1,0,1))) (.ret 150) (.need (A.k (@tt (Int×Bool×Int×Int)) (f.2.2.2.2.1,(A.k jc f.1).2.2.1,0,(A.b .sub .i64 m.1 1))) (.br (A.not (A.k kj (f.2.2.2.2.1,(A.k jc f.1).2.2.1,0,(A.b .sub .i64 m.1 1)))) (.ret 150) (.need (A.k (@tt (Int×Bool×Int×Int)) (f.2.2.2.2.2.1,(A.k jc f.1).2.2.2.1,(A.k FO (m,f.1)))) (.br (A.not (A.k kj (f.2.2.2.2.2.1,(A.k jc f.1).2.2.2.1,(A.k FO (m,f.1))))) (.ret 150) (.need (A.k (@tt (Int×Bool×Int×Int)) (f.2.2.2.2.2.2,(A.k jc f.1).2.2.2.2,1,m.2.1)) (.br (A.not (A.k kj (f.2.2.2.2.2.2,(A.k jc f.1).2.2.2.2,1,m.2.1))) (.ret 150) (.br (A.c .eql f.1 10) (.br (A.c .eql f.2.2.2.2.1 f.2.1) (.ret 150) (.ret 0)) (.ret 0)))))))))))))))))))
def sN:(al×aM)→Int:=fun(m,f)=>(Ve ah m f).val (Ty.bi [yI])
def aeS:ax:=⟨[aR,aQ], [yI],(@tt (al×aM)),sN⟩
theorem agm:Sd 60 aeS:=aH ap bR true 148 [] (fun A (m,f)=>Ve A m f) (fc Tryz.func60 fz) (sc agO (sc af9 (sc afE (sc acM sz)))) (fun((m,f):al×aM) hp h=>by
 show(Ve ah m f).pre=true
 simp only[Ve,LT.pre,aA,dU,jd,Bool.true_and,implies_true,and_self])
structure Yh where
 (a0:List aM) (a3:aM)
structure Ob where
 (b0:List aM) (b3:aM)
inductive VO where
 | c0 (p:Yh)
 | c1 (p:Ob) (b1:Bool) (b2:Int) (b4:List aM)
noncomputable def Yr:VO→eD
 | .c0 p=>⟨[⟨61,48,(en [(0,.sl aQ p.a0),(3,.ptr 0 0),(5,.dp true),(6,vb false),(7,vi 0)]),[.inLoop (cw Tryz.f61 [1,1,1,0,1,0,0]),.inBlock 0,.code (cw Tryz.f61 [1,1,1,1])],[],none⟩],[.flat false (dc aQ p.a3),.dead]⟩
 | .c1 p b1 b2 b4=>⟨[⟨61,48,(en [(0,.sl aQ p.b0),(3,.ptr 0 0),(5,.own 1),(6,vb b1),(7,vi b2)]),[.inLoop (cw Tryz.f61 [1,1,1,0,1,0,0]),.inBlock 0,.code (cw Tryz.f61 [1,1,1,1])],[],none⟩],[.flat false (dc aQ p.b3),.arr false aQ b4,.dead]⟩
def XJ(A:aI)(l:List aM)(f:aM):LT (List aM) VO:=.more (.c0 ⟨l,f⟩)
def DW(A:aI):VO→LT (List aM) VO
 | .c0 p=>.br (A.c .lss 0 (A.l p.a0)) (.need (A.and (A.c .leq 0 0) (A.c .lss 0 (A.l p.a0))) (.br (A.and (A.c .eql (A.n aQ p.a0 0:aM).1 p.a3.1) (A.and (A.c .eql (A.n aQ p.a0 0:aM).2.1 p.a3.2.1) (A.and (A.c .eql (A.n aQ p.a0 0:aM).2.2.1 p.a3.2.2.1) (A.and (A.c .eql (A.n aQ p.a0 0:aM).2.2.2.1 p.a3.2.2.2.1) (A.and (A.c .eql (A.n aQ p.a0 0:aM).2.2.2.2.1 p.a3.2.2.2.2.1) (A.and (A.c .eql (A.n aQ p.a0 0:aM).2.2.2.2.2.1 p.a3.2.2.2.2.2.1) (A.and (A.c .eql (A.n aQ p.a0 0:aM).2.2.2.2.2.2 p.a3.2.2.2.2.2.2) true))))))) (.need (A.and (A.c .leq 0 0) (A.c .lss 0 (A.l p.a0))) (.need (A.c .leq (A.l (([(A.n aQ p.a0 0:aM)]:List aM):List aM)) 2513169434916) (.more (.c1 ⟨p.a0,p.a3⟩ true (A.b .add .i64 0 1) ([(A.n aQ p.a0 0:aM)]:List aM))))) (.br (A.not false) (.need (A.and (A.c .leq 0 0) (A.c .lss 0 (A.l p.a0))) (.need (A.k (@tt (aM×aM)) (p.a3,(A.n aQ p.a0 0:aM))) (.br (A.k KL (p.a3,(A.n aQ p.a0 0:aM))) (.need (A.c .leq (A.l (([p.a3]:List aM):List aM)) 2513169434916) (.need (A.and (A.c .leq 0 0) (A.c .lss 0 (A.l p.a0))) (.need (A.c .leq (A.l (A.p ([p.a3]:List aM) ([(A.n aQ p.a0 0:aM)]:List aM))) 2513169434916) (.more (.c1 ⟨p.a0,p.a3⟩ true (A.b .add .i64 0 1) (A.p ([p.a3]:List aM) ([(A.n aQ p.a0 0:aM)]:List aM))))))) (.need (A.and (A.c .leq 0 0) (A.c .lss 0 (A.l p.a0))) (.need (A.c .leq (A.l (([(A.n aQ p.a0 0:aM)]:List aM):List aM)) 2513169434916) (.more (.c1 ⟨p.a0,p.a3⟩ false (A.b .add .i64 0 1) ([(A.n aQ p.a0 0:aM)]:List aM)))))))) (.need (A.and (A.c .leq 0 0) (A.c .lss 0 (A.l p.a0))) (.need (A.c .leq (A.l (([(A.n aQ p.a0 0:aM)]:List aM):List aM)) 2513169434916) (.more (.c1 ⟨p.a0,p.a3⟩ false (A.b .add .i64 0 1) ([(A.n aQ p.a0 0:aM)]:List aM)))))))) (.br (A.not false) (.need (A.c .leq (A.l (([p.a3]:List aM):List aM)) 2513169434916) (.ret ([p.a3]:List aM))) (.ret ([]:List aM)))
 | .c1 p b1 b2 b4=>.br (A.c .lss b2 (A.l p.b0)) (.need (A.and (A.c .leq 0 b2) (A.c .lss b2 (A.l p.b0))) (.br (A.and (A.c .eql (A.n aQ p.b0 b2:aM).1 p.b3.1) (A.and (A.c .eql (A.n aQ p.b0 b2:aM).2.1 p.b3.2.1) (A.and (A.c .eql (A.n aQ p.b0 b2:aM).2.2.1 p.b3.2.2.1) (A.and (A.c .eql (A.n aQ p.b0 b2:aM).2.2.2.1 p.b3.2.2.2.1) (A.and (A.c .eql (A.n aQ p.b0 b2:aM).2.2.2.2.1 p.b3.2.2.2.2.1) (A.and (A.c .eql (A.n aQ p.b0 b2:aM).2.2.2.2.2.1 p.b3.2.2.2.2.2.1) (A.and (A.c .eql (A.n aQ p.b0 b2:aM).2.2.2.2.2.2 p.b3.2.2.2.2.2.2) true))))))) (.need (A.and (A.c .leq 0 b2) (A.c .lss b2 (A.l p.b0))) (.need (A.c .leq (A.l (A.p b4 ([(A.n aQ p.b0 b2:aM)]:List aM))) 2513169434916) (.more (.c1 p true (A.b .add .i64 b2 1) (A.p b4 ([(A.n aQ p.b0 b2:aM)]:List aM)))))) (.br (A.not b1) (.need (A.and (A.c .leq 0 b2) (A.c .lss b2 (A.l p.b0))) (.need (A.k (@tt (aM×aM)) (p.b3,(A.n aQ p.b0 b2:aM))) (.br (A.k KL (p.b3,(A.n aQ p.b0 b2:aM))) (.need (A.c .leq (A.l (A.p b4 ([p.b3]:List aM))) 2513169434916) (.need (A.and (A.c .leq 0 b2) (A.c .lss b2 (A.l p.b0))) (.need (A.c .leq (A.l (A.p (A.p b4 ([p.b3]:List aM)) ([(A.n aQ p.b0 b2:aM)]:List aM))) 2513169434916) (.more (.c1 p true (A.b .add .i64 b2 1) (A.p (A.p b4 ([p.b3]:List aM)) ([(A.n aQ p.b0 b2:aM)]:List aM))))))) (.need (A.and (A.c .leq 0 b2) (A.c .lss b2 (A.l p.b0))) (.need (A.c .leq (A.l (A.p b4 ([(A.n aQ p.b0 b2:aM)]:List aM))) 2513169434916) (.more (.c1 p b1 (A.b .add .i64 b2 1) (A.p b4 ([(A.n aQ p.b0 b2:aM)]:List aM))))))))) (.need (A.and (A.c .leq 0 b2) (A.c .lss b2 (A.l p.b0))) (.need (A.c .leq (A.l (A.p b4 ([(A.n aQ p.b0 b2:aM)]:List aM))) 2513169434916) (.more (.c1 p b1 (A.b .add .i64 b2 1) (A.p b4 ([(A.n aQ p.b0 b2:aM)]:List aM))))))))) (.br (A.not b1) (.need (A.c .leq (A.l (A.p b4 ([p.b3]:List aM))) 2513169434916) (.ret (A.p b4 ([p.b3]:List aM)))) (.ret b4))
def kr(f:aM):Bool→List aM→List aM
 | dn, []=>bif dn then[] else[f]
 | dn,b::l=>bif decide (b=f) then b::kr f true l else bif dn then b::kr f true l else bif dP f b then f::b::kr f true l else b::kr f false l
theorem my{l:List aM}(h:l.length≤1000002):ah.c .leq (ah.l l) 2513169434916=true:=by rw[ao,bF];exact aK (by omega)
theorem lf{α:Type}{a:List α}{x:α}:(ah.p a [x]).length=a.length+1:=by rw[f_,gm];rfl
theorem Qs{p:Ob}{l:List aM}{f:aM}(h0:p.b0=l)(h3:p.b3=f)(hl:l.length≤1000000):∀(j i:Nat) (dn:Bool) (acc:List aM),l.length-i=j→i≤l.length→acc.length≤i+1→(dn=false→acc.length≤i)→
  au (DW ah) (.more (.c1 p dn (i:Int) acc)) (acc++kr f dn (l.drop i)):=by
 intro j
 induction j with
 | zero=>
   intro i dn acc hj hi ha hd
   rw[List.drop_eq_nil_of_le (by omega),kr,ak,DW,h0,h3]
   refine(ai (by rw[bF,aC];exact aX (by omega))).2 ?_
   cases dn
   ·exact(aj rfl).2 (af.2 ⟨my (show(ah.p acc [f]).length≤_ by rw[lf];omega),.ret _⟩)
   ·rw[show acc++(bif true then([]:List aM) else[f])=acc from List.append_nil _];exact(ai rfl).2 (.ret _)
 | succ j ih=>
   intro i dn acc hj hi ha hd
   have hi':i<l.length:=by omega
   rw[ak,DW,h0,h3]
   refine(aj (by rw[bF,aC];exact aK (by omega))).2 (af.2 ⟨aO hi',?_⟩)
   rw[show(ah.n aQ l (i:Int):aM)=l[i] from getD_in hi' _,pV hi',kr,bU (i:=i) (by omega)]
   have ix:=aO hi'
   have l1:ah.c .leq (ah.l (ah.p acc ([l[i]]:List aM))) 2513169434916=true:=my (by rw[lf];omega)
   have go:∀d:Bool,(d=false→dn=false)→au (DW ah) (.more (.c1 p d ((i+1:Nat):Int) (ah.p acc ([l[i]]:List aM)))) (acc++l[i]::kr f d (l.drop (i+1))):=fun d hd'=>by
    have:=ih (i+1) d (ah.p acc [l[i]]) (by omega) (by omega) (by rw[lf];omega) fun h=>by rw[lf];have:=hd (hd' h);omega
    rw[f_,List.append_assoc] at this
    exact this
   refine aB (p:=l[i]=f) EK (fun h=>?_) fun h=>?_
   ·rw[aK h]
    exact af.2 ⟨ix,af.2 ⟨l1,go true fun h=>by cases h⟩⟩
   ·rw[aX h]
    cases dn
    ·refine(aj rfl).2 (af.2 ⟨ix,af.2 ⟨rfl,?_⟩⟩)
     rw[show ah.k KL (f,l[i])=dP f l[i] from rfl]
     have hd:=hd rfl
     cases dP f l[i]
     ·exact(ai rfl).2 (af.2 ⟨ix,af.2 ⟨l1,go false fun _=>rfl⟩⟩)
     ·have:=ih (i+1) true (ah.p (ah.p acc [f]) [l[i]]) (by omega) (by omega) (by rw[lf,lf];omega) fun h=>by cases h
      have this:au (DW ah) (.more (.c1 p true ((i+1:Nat):Int) (ah.p (ah.p acc [f]) [l[i]]))) (acc++f::l[i]::kr f true (l.drop (i+1))):=ay (by rw[f_,f_];simp) this
      exact(aj rfl).2 (af.2 ⟨my (show(ah.p acc [f]).length≤_ by rw[lf];omega),af.2 ⟨ix,af.2 ⟨my (show(ah.p (ah.p acc [f]) [l[i]]).length≤_ by rw[lf,lf];omega),this⟩⟩⟩)
    ·exact(ai rfl).2 (af.2 ⟨ix,af.2 ⟨l1,go true fun h=>by cases h⟩⟩)
theorem Zn{l:List aM}{f:aM}(hl:l.length≤1000000):au (DW ah) (XJ ah l f) (kr f false l):=by
 unfold XJ
 rw[ak,DW]
 cases l with
 | nil=>exact(ai rfl).2 ((aj rfl).2 (af.2 ⟨my (Nat.le_add_left 1 _),.ret _⟩))
 | cons b l=>
   have ix:ah.and (ah.c .leq 0 0) (ah.c .lss 0 (ah.l (b::l)))=true:=aO (i:=0) (Nat.zero_lt_succ _)
   have go:∀(d:Bool) (acc:List aM),acc.length≤2→(d=false→acc.length≤1)→au (DW ah) (.more (.c1 ⟨b::l,f⟩ d (ah.b .add .i64 0 1) acc)) (acc++kr f d l):=fun d acc h1 h2=>
    Qs (p:=⟨b::l,f⟩) (l:=b::l) rfl rfl hl l.length 1 d acc (by rw[List.length_cons];omega) (by rw[List.length_cons];omega) h1 h2
   refine(aj (by rw[bF,List.length_cons,ar];exact aK (by omega))).2 (af.2 ⟨ix,?_⟩)
   rw[kr]
   refine aB (p:=b=f) (EK (a:=b) (b:=f)) (fun h=>?_) fun h=>?_
   ·rw[aK h]
    exact af.2 ⟨ix,af.2 ⟨my (Nat.le_add_left 1 _),go true [b] (show 1≤2 by decide) fun h=>by cases h⟩⟩
   ·rw[aX h]
    refine(aj rfl).2 (af.2 ⟨ix,af.2 ⟨rfl,?_⟩⟩)
    show au _ (.br (dP f b) _ _) _
    cases dP f b
    ·exact(ai rfl).2 (af.2 ⟨ix,af.2 ⟨my (Nat.le_add_left 1 _),go false [b] (show 1≤2 by decide) fun _=>Nat.le_refl 1⟩⟩)
    ·exact(aj rfl).2 (af.2 ⟨my (Nat.le_add_left 1 _),af.2 ⟨ix,af.2 ⟨my (Nat.le_add_left 2 _),go true [f,b] (Nat.le_refl 2) fun h=>by cases h⟩⟩⟩)
def Oq:(List aM×aM)→(List aM):=fun(l,f)=>kr f false l
def EG:(List aM×aM)→Bool:=fun(l,_)=>decide (l.length≤1000000)
def adV:ax:=⟨[(.slice aQ),aQ], [(.slice aQ)],EG,Oq⟩
theorem af1:Sd 61 adV:=aP ap bR true 26 [⟨61,4, [[0,3,5,6,7]]⟩] [] (fun A (l,f)=>XJ A l f) DW Yr (fc Tryz.func61 fz) (sc adB sz) (fun A y=>match y with |.c0 p=>⟨72,by kernel_rfl,by kernel_rfl⟩|.c1 p b1 b2 b4=>⟨72,by kernel_rfl,by kernel_rfl⟩) fun((l,f):List aM×aM) hp h=>Zn (of_decide_eq_true hp)
structure OA where
 (a0:List aM) (a2:al)
structure Rs where
 (b0:List aM) (b3:al)
inductive Tv where
 | c0 (p:OA) (a1:Int)
 | c1 (p:Rs) (b1:List aM) (b2:Int)
noncomputable def aa3:Tv→eD
 | .c0 p a1=>⟨[⟨23,27,(en [(1,.sl aQ p.a0),(2,.ptr 0 0),(5,.dp true),(6,vi a1)]),[.inLoop (cw Tryz.f23 [1,1,0,1,0,0]),.inBlock 0,.code (cw Tryz.f23 [1,1,1])],[],none⟩],[.flat false (dc aR p.a2),.dead]⟩
 | .c1 p b1 b2=>⟨[⟨23,27,(en [(1,.sl aQ p.b0),(2,.ptr 0 0),(5,.sl aQ b1),(6,vi b2)]),[.inLoop (cw Tryz.f23 [1,1,0,1,0,0]),.inBlock 0,.code (cw Tryz.f23 [1,1,1])],[],none⟩],[.flat false (dc aR p.b3),.dead]⟩
def acY(A:aI)(m:al)(l:List aM):LT (List aM) Tv:=.more (.c0 ⟨l,m⟩ 0)
def Gv(A:aI):Tv→LT (List aM) Tv
 | .c0 p a1=>.br (A.c .lss a1 (A.l p.a0)) (.need (A.and (A.c .leq 0 a1) (A.c .lss a1 (A.l p.a0))) (.need (A.k (@tt (al×aM)) (p.a2,(A.n aQ p.a0 a1:aM))) (.br (A.c .eql (A.k sN (p.a2,(A.n aQ p.a0 a1:aM))) 0) (.need (A.and (A.c .leq 0 a1) (A.c .lss a1 (A.l p.a0))) (.need (A.k EG (([]:List aM),(A.n aQ p.a0 a1:aM))) (.more (.c1 ⟨p.a0,p.a2⟩ (A.k Oq (([]:List aM),(A.n aQ p.a0 a1:aM))) (A.b .add .i64 a1 1))))) (.more (.c0 p (A.b .add .i64 a1 1)))))) (.ret ([]:List aM))
 | .c1 p b1 b2=>.br (A.c .lss b2 (A.l p.b0)) (.need (A.and (A.c .leq 0 b2) (A.c .lss b2 (A.l p.b0))) (.need (A.k (@tt (al×aM)) (p.b3,(A.n aQ p.b0 b2:aM))) (.br (A.c .eql (A.k sN (p.b3,(A.n aQ p.b0 b2:aM))) 0) (.need (A.and (A.c .leq 0 b2) (A.c .lss b2 (A.l p.b0))) (.need (A.k EG (b1,(A.n aQ p.b0 b2:aM))) (.more (.c1 p (A.k Oq (b1,(A.n aQ p.b0 b2:aM))) (A.b .add .i64 b2 1))))) (.more (.c1 p b1 (A.b .add .i64 b2 1)))))) (.ret b1)
def wm(m:al):List aM→List aM→List aM
 | [],acc=>acc
 | f::l,acc=>wm m l (bif decide (sN (m,f)=0) then kr f false acc else acc)
theorem uj:∀(l:List aM) (f:aM) (d:Bool),(kr f d l).length≤l.length+1
 | [],f,d=>by cases d<;>simp[kr]
 | b::l,f,d=>by
   have h1:=uj l f true
   have h2:=uj l f false
   have h3:∀l:List aM,kr f true l=l:=fun l=>by
    induction l with
    | nil=>rfl
    | cons b l ih=>rw[kr,ih];cases decide (b=f)<;>rfl
   rw[kr,h3]
   cases decide (b=f)<;>cases d<;>cases dP f b<;>simp<;>omega
theorem Kp{l:List aM}{f:aM}(h:l.length≤1000000):ah.k EG (l,f)=true:=aK h
theorem aal{p:Rs}{m:al}{l:List aM}(h0:p.b0=l)(h3:p.b3=m)(hl:l.length≤1000000):∀(j i:Nat) (acc:List aM),l.length-i=j→i≤l.length→acc.length≤i→au (Gv ah) (.more (.c1 p acc (i:Int))) (wm m (l.drop i) acc):=by
 intro j
 induction j with
 | zero=>
   intro i acc hj hi ha
   rw[List.drop_eq_nil_of_le (by omega),ak,Gv,h0]
   exact(ai (by rw[bF,aC];exact aX (by omega))).2 (.ret _)
 | succ j ih=>
   intro i acc hj hi ha
   have hi':i<l.length:=by omega
   have ix:=aO hi'
   rw[ak,Gv,h0,h3]
   refine(aj (by rw[bF,aC];exact aK (by omega))).2 (af.2 ⟨ix,af.2 ⟨rfl,?_⟩⟩)
   rw[show(ah.n aQ l (i:Int):aM)=l[i] from getD_in hi' _,pV hi',wm,bU (i:=i) (by omega)]
   refine aB (p:=sN (m,l[i])=0) aN (fun h=>af.2 ⟨ix,af.2 ⟨Kp (by omega),?_⟩⟩) fun h=>?_
   ·rw[aK h]
    exact ih (i+1) (kr l[i] false acc) (by omega) (by omega) (by have:=uj acc l[i] false;omega)
   ·rw[aX h];exact ih (i+1) acc (by omega) (by omega) (by omega)
theorem Up{p:OA}{m:al}{l:List aM}(h0:p.a0=l)(h3:p.a2=m)(hl:l.length≤1000000):∀(j i:Nat),l.length-i=j→i≤l.length→au (Gv ah) (.more (.c0 p (i:Int))) (wm m (l.drop i) []):=by
 intro j
 induction j with
 | zero=>
   intro i hj hi
   rw[List.drop_eq_nil_of_le (by omega),ak,Gv,h0]
   exact(ai (by rw[bF,aC];exact aX (by omega))).2 (.ret _)
 | succ j ih=>
   intro i hj hi
   have hi':i<l.length:=by omega
   have ix:=aO hi'
   rw[ak,Gv,h0,h3]
   refine(aj (by rw[bF,aC];exact aK (by omega))).2 (af.2 ⟨ix,af.2 ⟨rfl,?_⟩⟩)
   rw[show(ah.n aQ l (i:Int):aM)=l[i] from getD_in hi' _,pV hi',wm,bU (i:=i) (by omega)]
   refine aB (p:=sN (m,l[i])=0) aN (fun h=>af.2 ⟨ix,af.2 ⟨Kp (Nat.zero_le _),?_⟩⟩) fun h=>?_
   ·rw[aK h]
    exact aal (p:=⟨l,m⟩) rfl rfl hl _ (i+1) (kr l[i] false []) rfl (show i+1≤l.length by omega) (by have:=uj [] l[i] false;simp at this;omega)
   ·rw[aX h];exact ih (i+1) (by omega) (by omega)
theorem XS{m:al}{l:List aM}(hl:l.length≤1000000):au (Gv ah) (acY ah m l) (wm m l []):=
 Up (p:=⟨l,m⟩) rfl rfl hl _ 0 rfl (Nat.zero_le _)
def R9:(al×List aM)→(List aM):=fun(m,l)=>wm m l []
def Ot:(al×List aM)→Bool:=fun(_,l)=>decide (l.length≤1000000)
def adL:ax:=⟨[aR,(.slice aQ)], [(.slice aQ)],Ot,R9⟩
theorem aea:Sd 23 adL:=aP ap bR true 22 [⟨23,3, [[1,2,5,6]]⟩] [] (fun A (m,l)=>acY A m l) Gv aa3 (fc Tryz.func23 fz) (sc agm (sc af1 sz)) (fun A y=>match y with |.c0 p a1=>⟨44,by kernel_rfl,by kernel_rfl⟩|.c1 p b1 b2=>⟨44,by kernel_rfl,by kernel_rfl⟩) fun((m,l):al×List aM) hp h=>XS (of_decide_eq_true hp)
structure Om where
 (a0 a1:List gn)
inductive VP where
 | c0 (p:Om) (a2:Int)
noncomputable def Yb:VP→eD
 | .c0 p a2=>⟨[⟨22,42,(en [(0,.sl dN p.a0),(1,.sl dN p.a1),(5,vi a2)]),[.inLoop (cw Tryz.f22 [1,1,0,1,0,0]),.inBlock 0,.code (cw Tryz.f22 [1,1,1])],[],none⟩],[.dead]⟩
def acb(A:aI)(a:List gn)(b:List gn):LT Bool VP:=.br (A.c .neq (A.l a) (A.l b)) (.ret false) (.more (.c0 ⟨a,b⟩ 0))
def PU(A:aI):VP→LT Bool VP
 | .c0 p a2=>.br (A.c .lss a2 (A.l p.a0)) (.need (A.and (A.c .leq 0 a2) (A.c .lss a2 (A.l p.a0))) (.need (A.and (A.c .leq 0 a2) (A.c .lss a2 (A.l p.a1))) (.br (A.c .neq (A.n dN p.a0 a2:gn).1 (A.n dN p.a1 a2:gn).1) (.ret false) (.need (A.and (A.c .leq 0 a2) (A.c .lss a2 (A.l p.a0))) (.need (A.and (A.c .leq 0 a2) (A.c .lss a2 (A.l p.a1))) (.need (A.k IN ((A.n dN p.a0 a2:gn).2,(A.n dN p.a1 a2:gn).2)) (.br (A.not (A.k Wq ((A.n dN p.a0 a2:gn).2,(A.n dN p.a1 a2:gn).2))) (.ret false) (.more (.c0 p (A.b .add .i64 a2 1)))))))))) (.ret true)
theorem Vr{n:Node}:ah.k IN (n,n)=true:=aK rfl
theorem Tn{p:Om}{l:List gn}(h0:p.a0=l)(h1:p.a1=l)(hl:l.length≤1000000):∀(j i:Nat),l.length-i=j→i≤l.length→au (PU ah) (.more (.c0 p (i:Int))) true:=by
 intro j
 induction j with
 | zero=>
   intro i hj hi
   rw[ak,PU,h0]
   exact(ai (by rw[bF,aC];exact aX (by omega))).2 (.ret _)
 | succ j ih=>
   intro i hj hi
   have ix:=aO (l:=l) (i:=i) (by omega)
   rw[ak,PU,h0,h1]
   refine(aj (by rw[bF,aC];exact aK (by omega))).2 (af.2 ⟨ix,af.2 ⟨ix,(ai C5).2 (af.2 ⟨ix,af.2 ⟨ix,af.2 ⟨Vr,(ai rfl).2 ?_⟩⟩⟩)⟩⟩)
   rw[bU (i:=i) (by omega)]
   exact ih (i+1) (by omega) (by omega)
theorem Vk{a b:List gn}(h:a=b∧a.length≤1000000):au (PU ah) (acb ah a b) true:=by
 obtain⟨rfl,h⟩:=h
 exact(ai C5).2 (Tn (p:=⟨a,a⟩) rfl rfl h _ 0 rfl (Nat.zero_le _))
def KN:(List gn×List gn)→Bool:=fun _=>true
def EQ:(List gn×List gn)→Bool:=fun(a,b)=>decide (a=b∧a.length≤1000000)
def ahi:ax:=⟨[(.slice dN),(.slice dN)], [.bool],EQ,KN⟩
theorem ab6:Sd 22 ahi:=aP ap bR true 28 [⟨22,4, [[0,1,5]]⟩] [] (fun A (a,b)=>acb A a b) PU Yb (fc Tryz.func22 fz) (sc adX sz) (fun A y=>match y with |.c0 p a2=>⟨54,by kernel_rfl,by kernel_rfl⟩) fun((a,b):List gn×List gn) hp h=>Vk (of_decide_eq_true hp)
def Ng(l:List aM):Prop:=l.Pairwise fun a b=>dP a b=true
theorem FN{a b:aM}(h:dP b a=false)(hn:¬b=a):dP a b=true:=by
 cases g:dP a b
 ·exact absurd (Cv b a h g) hn
 ·rfl
theorem Fz{a b:aM}(h:dP a b=true):¬b=a:=fun e=>by
 rw[e,show dP a a=false from yw _] at h;cases h
theorem Bl{a b:aM}(h:dP a b=true):dP b a=false:=by
 cases g:dP b a
 ·rfl
 ·have:=lex_trans _ _ _ h g;rw[yw] at this;cases this
theorem yS:∀(l:List aM) (a:aM),(a::l).Pairwise (fun a b=>dP b a=false)→Ng (a::nf a l)
 | [],a,_=>List.pairwise_singleton ..
 | b::l,a,h=>by
   have hb:=List.pairwise_cons.1 h
   show Ng (a::if b=a then nf a l else b::nf b l)
   by_cases e:b=a
   ·rw[if_pos e];rw[e] at hb;exact yS l a hb.2
   ·rw[if_neg e]
    have ih:=yS l b hb.2
    have hab:dP a b=true:=FN (hb.1 b (List.mem_cons_self ..)) e
    refine List.pairwise_cons.2 ⟨fun x hx=>?_,ih⟩
    rcases List.mem_cons.1 hx with rfl|hx
    ·exact hab
    ·exact lex_trans _ _ _ hab ((List.pairwise_cons.1 ih).1 x hx)
theorem LV{l:List aM}(h:l.Pairwise fun a b=>dP b a=false):Ng (kL l):=by
 cases l with
 | nil=>exact .nil
 | cons a l=>exact yS l a h
theorem A1:∀(l:List aM) (a x:aM),x∈a::nf a l↔x∈a::l
 | [],_,_=>Iff.rfl
 | b::l,a,x=>by
   show x∈a::(if b=a then nf a l else b::nf b l)↔_
   by_cases e:b=a
   ·rw[if_pos e,A1 l a x,e];simp
   ·rw[if_neg e]
    have ih:=A1 l b x
    rw[List.mem_cons (a:=x) (b:=a),ih,←List.mem_cons]
theorem LG{l:List aM}{x:aM}:x∈kL l↔x∈l:=by
 cases l with
 | nil=>exact Iff.rfl
 | cons a l=>exact A1 l a x
theorem O9(l:List aM):(l.mergeSort fun a b=>!(dP b a)).Pairwise fun a b=>dP b a=false:=by
 have h:=List.pairwise_mergeSort (le:=fun a b=>!(dP b a)) (fun a b c h1 h2=>?_) (fun a b=>?_) l
 ·exact h.imp fun h=>by simpa using h
 ·simp only[Bool.not_eq_true'] at h1 h2 ⊢
  exact Dw.ntrans c b a h2 h1
 ·cases h:dP b a
  ·rfl
  ·rw[Bl h];rfl
theorem Ak{m:al}{l:List aM}:Ng (gZ m l):=by
 unfold gZ
 cases decide (fX m=0)
 ·exact .nil
 ·exact LV (O9 _)
theorem An{m:al}{l:List aM}(h:fX m=0){x:aM}:x∈gZ m l↔x∈l∧gl (m,x)=true:=by
 unfold gZ
 rw[aK h,cond_true,LG,List.mem_mergeSort,List.mem_filter]
theorem zU:∀{l k:List aM},Ng l→Ng k→(∀x,x∈l↔x∈k)→l=k
 | [], [],_,_,_=>rfl
 | [],b::k,_,_,h=>absurd ((h b).2 (List.mem_cons_self ..)) List.not_mem_nil
 | a::l, [],_,_,h=>absurd ((h a).1 (List.mem_cons_self ..)) List.not_mem_nil
 | a::l,b::k,h1,h2,h=>by
   have p1:=List.pairwise_cons.1 h1
   have p2:=List.pairwise_cons.1 h2
   have e:a=b:=by
    rcases List.mem_cons.1 ((h a).1 (List.mem_cons_self ..)) with e|g1
    ·exact e
    rcases List.mem_cons.1 ((h b).2 (List.mem_cons_self ..)) with e|g2
    ·exact e.symm
    have q1:=p2.1 a g1
    have q2:=p1.1 b g2
    rw[Bl q2] at q1;cases q1
   subst e
   refine congrArg (a :: ·) (zU p1.2 p2.2 fun x=>⟨fun hx=>?_,fun hx=>?_⟩)
   ·rcases List.mem_cons.1 ((h x).1 (List.mem_cons_of_mem _ hx)) with e|g
    ·exact absurd e (Fz (p1.1 x hx))
    ·exact g
   ·rcases List.mem_cons.1 ((h x).2 (List.mem_cons_of_mem _ hx)) with e|g
    ·exact absurd e (Fz (p2.1 x hx))
    ·exact g
theorem UH{m:al}{l:List aM}(h:fX m=0)(hs:Ng l)(hm:∀f∈l,gl (m,f)=true):gZ m l=l:=
 zU Ak hs fun x=>(An h).trans ⟨fun g=>g.1,fun g=>⟨g,hm x g⟩⟩
def nh(l:List aM):List aM:=l.filter fun f=>decide (f.1≤6)
theorem Q_{m:al}{l:List aM}(h:fX m=0)(k:Nat):gZ m (nh ((gZ m l).take k))=nh ((gZ m l).take k):=by
 refine UH h (Ak.sublist (List.filter_sublist.trans (List.take_sublist ..))) fun f hf=>?_
 exact((An h).1 (List.mem_of_mem_take (List.mem_filter.1 hf).1)).2
theorem NV{l:List aM}{k:Nat}:(nh (l.take k)).take k=nh (l.take k):=
 List.take_of_length_le (Nat.le_trans (List.length_filter_le ..) (List.length_take_le ..))
theorem any_filter{α:Type}{p q:α→Bool}(h:∀a,p a=true→q a=true):∀l:List α,(l.filter q).any p=l.any p
 | []=>rfl
 | a::l=>by
   rw[List.any_cons]
   cases hq:q a
   ·have hp:p a=false:=by
     cases hp:p a
     ·rfl
     ·rw[h a hp] at hq;cases hq
    rw[List.filter_cons_of_neg (by rw[hq];decide),any_filter h l,hp,Bool.false_or]
   ·rw[List.filter_cons_of_pos hq,List.any_cons,any_filter h l]
theorem Pj{l:List aM}{k n:Int}{c:cy}(hk:k≤6):fN (nh l) k n c=fN l k n c:=
 any_filter (fun f h=>by
  unfold vd at h
  rw[cd,cd,cd] at h
  have:=of_decide_eq_true h.2.2.1
  exact aK (by omega)) l
theorem Pg{l:List aM}{ch:Int}{c:cy}:Db (nh l) ch c=Db l ch c:=
 any_filter (fun f h=>by
  unfold uM at h
  rw[cd,cd,cd] at h
  have:=of_decide_eq_true h.2.2.1
  exact aK (by omega)) l
theorem ZP{a b v:Int}:ij ((a,b),v)=decide (a≤v∧v≤b):=by
 show(bif ah.c .geq v a then ah.c .leq v b else false)=_
 rw[bZ,ao]
 by_cases h:a≤v<;>by_cases g:v≤b<;>simp[h,g]
theorem ae7{v a b:Int}{h:Bool}:kj (v,h,a,b)=bif h then decide (a≤v∧v≤b) else decide (v=0):=by
 show(bif ah.not h then ah.c .eql v 0 else bif ah.c .geq v a then ah.c .leq v b else false)=_
 cases h
 ·exact aN
 ·exact ZP
theorem dz{v:Int}:decide (0≤v∧v≤0)=decide (v=0):=by
 by_cases h:v=0
 ·rw[aK h];exact aK (by omega)
 ·rw[aX h];exact aX (by omega)
theorem fT{a b v:Int}:ij ((a,b),v)=kj (v,true,a,b):=by rw[ZP,ae7];rfl
theorem fF{a b v:Int}:ij ((0,0),v)=kj (v,false,a,b):=by rw[ZP,ae7,dz];rfl
theorem ZK{m:al}{k:Int}(h:1≤k∧k≤12):(e_ (m,k)).2=true∧
  (∀v,ah.k ij ((ah.n (.struct [yI,yI]) (e_ (m,k)).1 0:Int×Int),v)=kj (v,(jc k).1,0,ah.b .sub .i64 m.1 1))∧
  (∀v,ah.k ij ((ah.n (.struct [yI,yI]) (e_ (m,k)).1 1:Int×Int),v)=kj (v,(jc k).2.1,0,1))∧
  (∀v,ah.k ij ((ah.n (.struct [yI,yI]) (e_ (m,k)).1 2:Int×Int),v)=kj (v,(jc k).2.2.1,0,ah.b .sub .i64 m.1 1))∧
  (∀v,ah.k ij ((ah.n (.struct [yI,yI]) (e_ (m,k)).1 3:Int×Int),v)=kj (v,(jc k).2.2.2.1,FO (m,k)))∧
  (∀v,ah.k ij ((ah.n (.struct [yI,yI]) (e_ (m,k)).1 4:Int×Int),v)=kj (v,(jc k).2.2.2.2,1,m.2.1)):=by
 have:k=1∨k=2∨k=3∨k=4∨k=5∨k=6∨k=7∨k=8∨k=9∨k=10∨k=11∨k=12:=by omega
 rcases this with rfl|rfl|rfl|rfl|rfl|rfl|rfl|rfl|rfl|rfl|rfl|rfl <;>
  exact⟨rfl,fun v=>by first|exact fT|exact fF,fun v=>by first|exact fT|exact fF,fun v=>by first|exact fT|exact fF,fun v=>by first|exact fT|exact fF,fun v=>by first|exact fT|exact fF⟩
theorem Ux{m:al}{k:Int}(h:¬(1≤k∧k≤12)):(e_ (m,k)).2=false:=by
 have e:∀j:Int,(1≤j∧j≤12)→ah.c .eql k j=false:=fun j hj=>by rw[aN];exact aX fun q=>h (by omega)
 show(LT.val _ (L5 ah m k)).2=false
 simp only[L5,GJ,GR,Gm,LT.val,e 1 (by decide),e 2 (by decide),e 3 (by decide),e 4 (by decide),e 5 (by decide),e 6 (by decide),e 7 (by decide),e 8 (by decide),e 9 (by decide),e 10 (by decide),e 11 (by decide),e 12 (by decide),cond_false]
theorem UA:∀w0 w1 w2 w3 w4 r0 r1 c e:Bool,((bif r0 then(150:Int) else bif r1 then 150 else bif !w0 then 150 else bif !w1 then 150 else bif !w2 then 150 else bif !w3 then 150 else bif !w4 then 150 else bif c then(bif e then 150 else 0) else 0)=0)↔
  (bif r0 then false else bif r1 then false else bif c then(bif e then false else bif !w0 then false else bif !w1 then false else bif !w2 then false else bif !w3 then false else bif !w4 then false else true) else bif !w0 then false else bif !w1 then false else bif !w2 then false else bif !w3 then false else bif !w4 then false else true)=true:=by decide
theorem Nv{m:al}{f:aM}(hm:xA m=0):sN (m,f)=0↔gl (m,f)=true:=by
 have hd:sN (m,f)=bif ah.c .neq (xA m) 0 then xA m else bif ah.c .lss f.1 1 then 150 else bif ah.c .gtr f.1 12 then 150 else bif ah.c .lss f.2.2.2.1 0 then 150 else bif ah.c .geq f.2.2.2.1 16 then 150 else
   bif !kj (f.2.1,(jc f.1).1,0,ah.b .sub .i64 m.1 1) then 150 else bif !kj (f.2.2.1,(jc f.1).2.1,0,1) then 150 else bif !kj (f.2.2.2.2.1,(jc f.1).2.2.1,0,ah.b .sub .i64 m.1 1) then 150 else
   bif !kj (f.2.2.2.2.2.1,(jc f.1).2.2.2.1,FO (m,f.1)) then 150 else bif !kj (f.2.2.2.2.2.2,(jc f.1).2.2.2.2,1,m.2.1) then 150 else bif ah.c .eql f.1 10 then(bif ah.c .eql f.2.2.2.2.1 f.2.1 then 150 else 0) else 0:=rfl
 by_cases hk:1≤f.1∧f.1≤12
 ·obtain⟨e,e0,e1,e2,e3,e4⟩:=ZK (m:=m) hk
  have hp:gl (m,f)=bif !(e_ (m,f.1)).2 then false else bif ah.c .lss f.2.2.2.1 0 then false else bif ah.c .geq f.2.2.2.1 16 then false else
    bif ah.c .eql f.1 10 then(bif ah.c .eql f.2.2.2.2.1 f.2.1 then false else bif !ah.k ij ((ah.n (.struct [yI,yI]) (e_ (m,f.1)).1 0:Int×Int),f.2.1) then false else bif !ah.k ij ((ah.n (.struct [yI,yI]) (e_ (m,f.1)).1 1:Int×Int),f.2.2.1) then false else bif !ah.k ij ((ah.n (.struct [yI,yI]) (e_ (m,f.1)).1 2:Int×Int),f.2.2.2.2.1) then false else bif !ah.k ij ((ah.n (.struct [yI,yI]) (e_ (m,f.1)).1 3:Int×Int),f.2.2.2.2.2.1) then false else bif !ah.k ij ((ah.n (.struct [yI,yI]) (e_ (m,f.1)).1 4:Int×Int),f.2.2.2.2.2.2) then false else true)
    else bif !ah.k ij ((ah.n (.struct [yI,yI]) (e_ (m,f.1)).1 0:Int×Int),f.2.1) then false else bif !ah.k ij ((ah.n (.struct [yI,yI]) (e_ (m,f.1)).1 1:Int×Int),f.2.2.1) then false else bif !ah.k ij ((ah.n (.struct [yI,yI]) (e_ (m,f.1)).1 2:Int×Int),f.2.2.2.2.1) then false else bif !ah.k ij ((ah.n (.struct [yI,yI]) (e_ (m,f.1)).1 3:Int×Int),f.2.2.2.2.2.1) then false else bif !ah.k ij ((ah.n (.struct [yI,yI]) (e_ (m,f.1)).1 4:Int×Int),f.2.2.2.2.2.2) then false else true:=rfl
  rw[hd,hp,e,e0,e1,e2,e3,e4,hm,show ah.c .lss f.1 1=false from aX (by omega),show ah.c .gtr f.1 12=false from aX (by omega)]
  exact UA ..
 ·have hp:gl (m,f)=false:=by
   show(LT.val _ (Mz ah m f))=false
   have e:ah.not (ah.k e_ (m,f.1)).2=true:=by rw[show(ah.k e_ (m,f.1)).2=false from Ux hk];rfl
   simp only[Mz,Jt,LT.val,e,cond_true]
  have hn:¬sN (m,f)=0:=by
   rw[hd,hm,show ah.c .neq (0:Int) 0=false from rfl,cond_false]
   by_cases h1:f.1<1
   ·rw[show ah.c .lss f.1 1=true from aK h1];exact fun h=>absurd (show(150:Int)=0 from h) (by decide)
   ·rw[show ah.c .lss f.1 1=false from aX h1,show ah.c .gtr f.1 12=true from aK (by omega)];exact fun h=>absurd (show(150:Int)=0 from h) (by decide)
  rw[hp]
  exact⟨fun h=>absurd h hn,fun h=>by cases h⟩
theorem Dj:∀(l:List aM) (f:aM),kr f true l=l
 | [],_=>rfl
 | b::l,f=>by rw[kr,Dj l];cases decide (b=f)<;>rfl
theorem FW:∀(l:List aM) (f:aM),Ng l→Ng (kr f false l)∧∀x,x∈kr f false l↔x=f∨x∈l
 | [],f,_=>⟨List.pairwise_singleton ..,fun x=>by simp[kr]⟩
 | b::l,f,h=>by
   have hb:=List.pairwise_cons.1 h
   rw[kr,Dj]
   by_cases e:b=f
   ·rw[aK e]
    exact⟨h,fun x=>⟨fun k=>.inr k,fun k=>k.elim (fun k=>by rw[k,←e];exact List.mem_cons_self ..) id⟩⟩
   ·rw[aX e,cond_false,cond_false]
    cases g:dP f b
    ·obtain⟨i1,i2⟩:=FW l f hb.2
     rw[cond_false]
     refine⟨List.pairwise_cons.2 ⟨fun x hx=>?_,i1⟩,fun x=>?_⟩
     ·rcases (i2 x).1 hx with rfl|hx
      ·exact FN g fun k=>e k.symm
      ·exact hb.1 x hx
     ·rw[List.mem_cons,i2 x,List.mem_cons]
      exact⟨fun k=>k.elim (fun k=>.inr (.inl k)) fun k=>k.elim .inl fun k=>.inr (.inr k),fun k=>k.elim (fun k=>.inr (.inl k)) fun k=>k.elim .inl fun k=>.inr (.inr k)⟩
    ·rw[cond_true]
     refine⟨List.pairwise_cons.2 ⟨fun x hx=>?_,h⟩,fun x=>List.mem_cons⟩
     rcases List.mem_cons.1 hx with rfl|hx
     ·exact g
     ·exact lex_trans _ _ _ g (hb.1 x hx)
theorem wI{m:al}(hm:xA m=0):∀(l acc:List aM),Ng acc→Ng (wm m l acc)∧∀x,x∈wm m l acc↔x∈acc∨(x∈l∧gl (m,x)=true)
 | [],acc,h=>⟨h,fun x=>⟨.inl,fun k=>k.elim id fun k=>absurd k.1 List.not_mem_nil⟩⟩
 | f::l,acc,h=>by
   rw[wm]
   by_cases e:sN (m,f)=0
   ·have hf:=(Nv hm).1 e
    obtain⟨i1,i2⟩:=FW acc f h
    obtain⟨j1,j2⟩:=wI hm l (kr f false acc) i1
    rw[aK e]
    refine⟨j1,fun x=>(j2 x).trans ?_⟩
    rw[i2 x,List.mem_cons]
    exact⟨fun k=>k.elim (fun k=>k.elim (fun k=>.inr ⟨.inl k,k▸hf⟩) .inl) fun k=>.inr ⟨.inr k.1,k.2⟩,fun k=>k.elim (fun k=>.inl (.inr k)) fun k=>k.1.elim (fun q=>.inl (.inl q)) fun q=>.inr ⟨q,k.2⟩⟩
   ·obtain⟨j1,j2⟩:=wI hm l acc h
    rw[aX e]
    refine⟨j1,fun x=>(j2 x).trans ?_⟩
    rw[List.mem_cons]
    exact⟨fun k=>k.elim .inl fun k=>.inr ⟨.inr k.1,k.2⟩,fun k=>k.elim .inl fun k=>k.1.elim (fun q=>absurd ((Nv hm).2 (q▸k.2)) e) fun q=>.inr ⟨q,k.2⟩⟩
theorem VM{m:al}{l:List aM}(h:fX m=0):wm m l []=gZ m l:=by
 have hm:xA m=0:=h
 obtain⟨h1,h2⟩:=wI hm l [] .nil
 exact zU h1 Ak fun x=>(h2 x).trans ((An h).trans ⟨.inr,fun k=>k.elim (fun k=>absurd k List.not_mem_nil) id⟩).symm
def F4{R S Y:Type}(f:R→S):LT R Y→LT S Y
 | .ret r=>.ret (f r)
 | .more y=>.more y
 | .br b t e=>.br b (F4 f t) (F4 f e)
 | .need b t=>.need b (F4 f t)
 | .eqs p t=>.eqs p (F4 f t)
 | .and a b=>.and (F4 f a) (F4 f b)
 | .bad n s=>.bad n s
def mo{R Y:Type}:LT R Y→Bool
 | .ret _=>true
 | .br _ t e=>mo t&&mo e
 | .need _ t=>mo t
 | .eqs _ t=>mo t
 | _=>false
theorem rc{R S Y:Type}(f:R→S){d:R}{c:S}:∀{t:LT R Y},mo t=true→(F4 f t).val c=f (t.val d)
 | .ret _,_=>rfl
 | .br b t e,h=>by
   have k:mo t=true∧mo e=true:=(cd _ _).mp h
   cases b
   ·exact rc f (t:=e) k.2
   ·exact rc f (t:=t) k.1
 | .need _ t,h=>rc f (t:=t) h
 | .eqs _ t,h=>rc f (t:=t) h
def sj{R Y:Type}:LT R Y→LT R Y
 | .br b t e=>.br b (sj t) (sj e)
 | .need _ t=>sj t
 | .eqs _ t=>sj t
 | t=>t
theorem mK{R Y:Type}{d:R}:∀{t:LT R Y},mo t=true→(sj t).val d=t.val d
 | .ret _,_=>rfl
 | .br b t e,h=>by
   have k:mo t=true∧mo e=true:=(cd _ _).mp h
   cases b
   ·exact mK (t:=e) k.2
   ·exact mK (t:=t) k.1
 | .need _ t,h=>mK (t:=t) h
 | .eqs _ t,h=>mK (t:=t) h
theorem qO{R S Y:Type}(f:R→S){d:R}{c:S}{s:LT S Y}{t:LT R Y}(hs:mo s=true)(ht:mo t=true)(h:sj s=F4 f (sj t))(hb:mo (sj t)=true):s.val c=f (t.val d):=by
 rw[←mK hs,h,rc f (d:=d) hb,mK ht]
def sM{R Y:Type}(p:R→Prop):LT R Y→Prop
 | .ret r=>p r
 | .br _ t e=>sM p t∧sM p e
 | .need _ t=>sM p t
 | .eqs _ t=>sM p t
 | _=>False
theorem iL{R Y:Type}{p:R→Prop}{d:R}:∀{t:LT R Y},sM p t→p (t.val d)
 | .ret _,h=>h
 | .br b t e,h=>by
   cases b
   ·exact iL (t:=e) h.2
   ·exact iL (t:=t) h.1
 | .need _ t,h=>iL (t:=t) h
 | .eqs _ t,h=>iL (t:=t) h
def fy(c:fj)(x:bf):bf:=(x.1,x.2.1,c,x.2.2.2)
def rX(c:fj)(s:bf×cH):bf×cH:=(fy c s.1,s.2)
structure SH(c d:fj):Prop where
 cK:d.1=c.1
 ops:d.2.2.2.2.2.2.1=c.2.2.2.2.2.2.1
 goes:∀k n q,k≤6→fN d.2.2.2.2.2.2.2 k n q=fN c.2.2.2.2.2.2.2 k n q
 lost:∀ch q,Db d.2.2.2.2.2.2.2 ch q=Db c.2.2.2.2.2.2.2 ch q
def rpA(c:fj)(r:bf×mr×Bool):bf×mr×Bool:=(fy c r.1,r.2)
def Gc(c:fj)(r:(bf×cH)×Unit):(bf×cH)×Unit:=(rX c r.1,r.2)
theorem Zc{x:bf}{i:Int}{d:fj}:bX (fy d x,i)=rpA d (bX (x,i)):=by
 show LT.val _ (wo ah (fy d x) i)=rpA d (LT.val _ (wo ah x i))
 exact qO (rpA d) (s:=wo ah (fy d x) i) (t:=wo ah x i) rfl rfl rfl rfl
theorem Qy{x:bf}{i:Int}:(bX (x,i)).1.2.2.1=x.2.2.1:=
 iL (p:=fun r:bf×mr×Bool=>r.1.2.2.1=x.2.2.1) (t:=wo ah x i) (by simp only[wo,CU,Bb,y5,sM];repeat' first|exact rfl|constructor)
theorem aaR{x:bf}{w:cH}{i:Int}{d:fj}:iR ((fy d x,w),i)=Gc d (iR ((x,w),i)):=by
 show LT.val _ (wv ah (fy d x) w i)=Gc d (LT.val _ (wv ah x w i))
 exact qO (Gc d) (s:=wv ah (fy d x) w i) (t:=wv ah x w i) rfl rfl rfl rfl
theorem ZL{x:bf}{w:cH}{i:Int}:(iR ((x,w),i)).1.1.2.2.1=x.2.2.1:=
 iL (p:=fun r:(bf×cH)×Unit=>r.1.1.2.2.1=x.2.2.1) (t:=wv ah x w i) (by simp only[wv,zy,oU,sw,sM];repeat' first|exact rfl|constructor)
section
variable {x:bf} {w:cH} {i:Int} {d:fj}
theorem Qv{c d:fj}(h:SH c d){k n:Int}{q:aF.T}(hk:k≤6):ah.k eG (((),d.2.2.2.2.2.2.2,()),k,n,q.2.2.1)=ah.k eG (((),c.2.2.2.2.2.2.2,()),k,n,q.2.2.1):=h.goes k n q.2.2.1 hk
theorem afg{c d:fj}(h:SH c d){ch:Int}{q:aF.T}:ah.k Cw (((),d.2.2.2.2.2.2.2,()),ch,q.2.2.1)=ah.k Cw (((),c.2.2.2.2.2.2.2,()),ch,q.2.2.1):=h.lost ch q.2.2.1
theorem Xo(h:SH x.2.2.1 d):xO ((fy d x,w),i)=Gc d (xO ((x,w),i)):=by
 show LT.val _ (vt ah (fy d x) w i)=Gc d (LT.val _ (vt ah x w i))
 have e:∀j,ah.k bX (fy d x,j)=rpA d (bX (x,j)):=fun j=>Zc
 have e2:∀j,(rpA d (bX (x,j))).1.2.2.1.2.2.2.2.2.2.2=d.2.2.2.2.2.2.2:=fun _=>rfl
 have e3:∀j,(ah.k bX (x,j)).1.2.2.1.2.2.2.2.2.2.2=x.2.2.1.2.2.2.2.2.2.2:=fun j=>by rw[show ah.k bX (x,j)=bX (x,j) from rfl,Qy]
 have e4:∀j,(rpA d (bX (x,j))).2=(ah.k bX (x,j)).2:=fun _=>rfl
 refine qO (Gc d) (s:=vt ah (fy d x) w i) (t:=vt ah x w i) rfl rfl ?_ rfl
 simp only[vt,y8,Br,w8,xq,sj,e,e2,e3,e4,Qv h (show(3:Int)≤6 by decide),Qv h (show(4:Int)≤6 by decide),afg h]
 rfl
theorem Yp:(xO ((x,w),i)).1.1.2.2.1=x.2.2.1:=
 iL (p:=fun r:(bf×cH)×Unit=>r.1.1.2.2.1=x.2.2.1) (t:=vt ah x w i) (by simp only[vt,y8,Br,w8,xq,sM];repeat' first|exact rfl|exact Qy|constructor)
theorem XU(h:SH x.2.2.1 d):uV ((fy d x,w),i)=Gc d (uV ((x,w),i)):=by
 show LT.val _ (vg ah (fy d x) w i)=Gc d (LT.val _ (vg ah x w i))
 have e:∀v j,ah.k iR ((fy d x,v),j)=Gc d (iR ((x,v),j)):=fun v j=>aaR
 have e2:(fy d x).2.2.1.2.2.2.2.2.2.2=d.2.2.2.2.2.2.2:=rfl
 refine qO (Gc d) (s:=vg ah (fy d x) w i) (t:=vg ah x w i) rfl rfl ?_ rfl
 simp only[vg,zX,xt,mQ,su,jh,sj,e,e2,Qv h (show(6:Int)≤6 by decide)]
 rfl
theorem abE:(uV ((x,w),i)).1.1.2.2.1=x.2.2.1:=
 iL (p:=fun r:(bf×cH)×Unit=>r.1.1.2.2.1=x.2.2.1) (t:=vg ah x w i) (by simp only[vg,zX,xt,mQ,su,jh,sM];repeat' first|exact rfl|exact ZL|constructor)
theorem Xy:xL ((fy d x,w),i)=Gc d (xL ((x,w),i)):=by
 show LT.val _ (vQ ah (fy d x) w i)=Gc d (LT.val _ (vQ ah x w i))
 exact qO (Gc d) (s:=vQ ah (fy d x) w i) (t:=vQ ah x w i) rfl rfl rfl rfl
theorem Yq:(xL ((x,w),i)).1.1.2.2.1=x.2.2.1:=
 iL (p:=fun r:(bf×cH)×Unit=>r.1.1.2.2.1=x.2.2.1) (t:=vQ ah x w i) (by simp only[vQ,Dy,A6,CX,pT,sM];repeat' first|exact rfl|constructor)
theorem aaO(h:SH x.2.2.1 d):CG ((fy d x,w),i)=Gc d (CG ((x,w),i)):=by
 show(kV (fy d x) w i,())=Gc d (kV x w i,())
 refine congrArg (fun z=>(z,())) ?_
 show kV (fy d x) w i=rX d (kV x w i)
 have h1:fN (pj (fy d x)) 1 i (yC x i).2.2.1=fN (pj x) 1 i (yC x i).2.2.1:=h.goes 1 i _ (by decide)
 have h2:(fy d x).2.2.1.2.2.2.2.2.2.1=x.2.2.1.2.2.2.2.2.2.1:=h.ops
 unfold kV
 rw[show yC (fy d x) i=yC x i from rfl,h1,h2]
 cases jZ (yC x i)
 ·rfl
 cases fN (pj x) 1 i (yC x i).2.2.1<;>rfl
theorem aaX:(CG ((x,w),i)).1.1.2.2.1=x.2.2.1:=by
 show(kV x w i).1.2.2.1=_
 unfold kV
 cases jZ (yC x i)
 ·rfl
 cases fN (pj x) 1 i (yC x i).2.2.1<;>rfl
theorem Zl(h:SH x.2.2.1 d):yN ((fy d x,w),())=Gc d (yN ((x,w),())):=by
 show(lV (fy d x) w,())=Gc d (lV x w,())
 refine congrArg (fun z=>(z,())) ?_
 show lV (fy d x) w=rX d (lV x w)
 have h1:∀q,r8 x.2.1 (pj (fy d x)) q=r8 x.2.1 (pj x) q:=fun q=>by
  funext j s
  unfold r8
  rw[show fN (pj (fy d x)) 2 j q=fN (pj x) 2 j q from h.goes 2 j q (by decide),show fN (pj (fy d x)) 1 j q=fN (pj x) 1 j q from h.goes 1 j q (by decide)]
 unfold lV
 rw[show(fy d x).2.2.2.1=x.2.2.2.1 from rfl,show(fy d x).2.1=x.2.1 from rfl]
 cases Fs x.2.2.2.1 w.1 x.2.2.2.1.length 0
 ·rfl
 ·simp only[h1];rfl
theorem ZC:(yN ((x,w),())).1.1.2.2.1=x.2.2.1:=by
 show(lV x w).1.2.2.1=_
 unfold lV
 cases Fs x.2.2.2.1 w.1 x.2.2.2.1.length 0<;>rfl
end
theorem uQ{c d:fj}{g:Int→bf×cH→bf×cH}(hg:∀i s,s.1.2.2.1=c→g i (rX d s)=rX d (g i s)∧(g i s).1.2.2.1=c) :
  ∀(n i:Nat) (s:bf×cH),s.1.2.2.1=c→nC g n i (rX d s)=rX d (nC g n i s)∧(nC g n i s).1.2.2.1=c
 | 0,_,_,h=>⟨rfl,h⟩
 | n+1,i,s,h=>by
   obtain⟨a,b⟩:=hg (i:Int) s h
   rw[nC,nC,a]
   exact uQ hg n (i+1) _ b
theorem Mb{x:bf}{d:fj}(h:SH x.2.2.1 d):nt (fy d x)=fy d (nt x)∧(nt x).2.2.1=x.2.2.1:=by
 have hA:=uQ (c:=x.2.2.1) (d:=d) (g:=gA) (fun i s hs=>⟨congrArg Prod.fst (aaO (x:=s.1) (w:=nN s.2) (i:=i) (by rw[hs];exact h)),(aaX (x:=s.1)).trans hs⟩)
 have hB:=uQ (c:=x.2.2.1) (d:=d) (g:=gB) (fun i s hs=>⟨congrArg Prod.fst (Xo (x:=s.1) (w:=nN s.2) (i:=i) (by rw[hs];exact h)),(Yp (x:=s.1)).trans hs⟩)
 have hC:=uQ (c:=x.2.2.1) (d:=d) (g:=gC) (fun i s hs=>⟨congrArg Prod.fst (XU (x:=s.1) (w:=nN s.2) (i:=i) (by rw[hs];exact h)),(abE (x:=s.1)).trans hs⟩)
 have hE:=uQ (c:=x.2.2.1) (d:=d) (g:=gE) (fun i s hs=>⟨congrArg Prod.fst (Xy (x:=s.1) (w:=nN s.2) (i:=i)),(Yq (x:=s.1)).trans hs⟩)
 have hD:∀s:bf×cH,s.1.2.2.1=x.2.2.1→gD (rX d s)=rX d (gD s)∧(gD s).1.2.2.1=x.2.2.1:=fun s hs=>⟨congrArg Prod.fst (Zl (x:=s.1) (w:=nN s.2) (by rw[hs];exact h)),(ZC (x:=s.1)).trans hs⟩
 have kD:∀s:bf×cH,s.1.2.2.1=x.2.2.1→rD (rX d s)=fy d (rD s)∧(rD s).2.2.1=x.2.2.1:=fun s hs=>by
  obtain⟨a,b⟩:=hD s hs
  obtain⟨a2,b2⟩:=hE (kx (gD s)) 0 (gD s) b
  unfold rD
  rw[a,show kx (rX d (gD s))=kx (gD s) from rfl,a2]
  exact⟨rfl,b2⟩
 have kC:∀s:bf×cH,s.1.2.2.1=x.2.2.1→rC (rX d s)=fy d (rC s)∧(rC s).2.2.1=x.2.2.1:=fun s hs=>by
  obtain⟨a2,b2⟩:=hC (kx s) 0 s hs
  unfold rC
  rw[show kx (rX d s)=kx s from rfl,a2]
  exact kD _ b2
 have kB:∀s:bf×cH,s.1.2.2.1=x.2.2.1→rB (rX d s)=fy d (rB s)∧(rB s).2.2.1=x.2.2.1:=fun s hs=>by
  obtain⟨a2,b2⟩:=hB (kx s) 0 s hs
  unfold rB
  rw[show kx (rX d s)=kx s from rfl,a2]
  exact kC _ b2
 obtain⟨a,b⟩:=hA x.2.2.2.1.length 0 (x,im x) rfl
 have e:nt (fy d x)=rB (nC gA x.2.2.2.1.length 0 (rX d (x,im x))):=rfl
 rw[e,a]
 exact kB _ b
structure Qn where
 (a0:List gn) (a1:Int) (a2:List aM) (a3:Int) (a5:al) (a6:Int) (a7:List Bool) (a8 a9 cB da:List Int) (a12:List bl)
structure R2 where
 (b0:List gn) (b1:Int) (b2:List aM) (b3:Int) (b5:al) (b6:Int) (b7:List Bool) (b8 b9 b10 b11:List Int) (b12:List bl)
inductive Qj where
 | c0 (p:Qn) (a4:Int)
 | c1 (p:R2) (b4:Int) (b13:List aM)
noncomputable def ZJ:Qj→eD
 | .c0 p a4=>⟨[⟨5,86,(en [(3,.ptr 0 0),(7,.sl dN p.a0),(8,vi p.a1),(9,.ptr 1 0),(56,.sl aQ p.a2),(57,vi p.a3),(58,vi a4)]),[.inLoop (cw Tryz.f5 [1,1,1,1,1,1,1,0,1,0,0]),.inBlock 0,.code (cw Tryz.f5 [1,1,1,1,1,1,1,1])],[],none⟩],[.flat false (dc aR p.a5),.flat false [vi p.a6,.sl .bool p.a7,.sl yI p.a8,.sl yI p.a9,.sl yI p.cB,.sl yI p.da,.sl bA p.a12,.dp true],.dead]⟩
 | .c1 p b4 b13=>⟨[⟨5,86,(en [(3,.ptr 0 0),(7,.sl dN p.b0),(8,vi p.b1),(9,.ptr 1 0),(56,.sl aQ p.b2),(57,vi p.b3),(58,vi b4)]),[.inLoop (cw Tryz.f5 [1,1,1,1,1,1,1,0,1,0,0]),.inBlock 0,.code (cw Tryz.f5 [1,1,1,1,1,1,1,1])],[],none⟩],[.flat false (dc aR p.b5),.flat false [vi p.b6,.sl .bool p.b7,.sl yI p.b8,.sl yI p.b9,.sl yI p.b10,.sl yI p.b11,.sl bA p.b12,.own 2],.arr false aQ b13,.dead]⟩
abbrev wZ(A:aI)(m:al)(s:fj):=(A.k R9 (m,s.2.2.2.2.2.2.2))
abbrev J3(A:aI):LT Bool Qj:=(.need (A.k (@tt Unit) ()) (.ret (A.k KM ())))
def Zr(A:aI)(m:al)(s:fj)(other:fj):LT Bool Qj:=.need (A.k (@tt Unit) ()) (.br (A.not (A.k KM ())) (J3 A) (.need (A.k (@tt fj) s) (.br (A.not (A.k qK s)) (J3 A) (.need (A.k (@tt fj) other) (.br (A.not (A.k qK other)) (J3 A) (.need (A.k pJ (m,s)) (.need (A.k Ot (m,s.2.2.2.2.2.2.2)) (.need (A.and (A.c .leq 0 0) (A.and (A.c .leq 0 (A.mn (A.l (wZ A m s)) 256)) (A.c .leq (A.mn (A.l (wZ A m s)) 256) (A.l (wZ A m s))))) (.more (.c0 ⟨(A.k mM (m,s)).1,(A.k mM (m,s)).2,(A.s (wZ A m s) 0 (A.mn (A.l (wZ A m s)) 256)),(A.l (A.s (wZ A m s) 0 (A.mn (A.l (wZ A m s)) 256))),m,s.1,s.2.1,other.2.2.1,other.2.2.2.1,other.2.2.2.2.1,other.2.2.2.2.2.1,s.2.2.2.2.2.2.1⟩ 0))))))))))
def D7(A:aI):Qj→LT Bool Qj
 | .c0 p a4=>.br (A.c .lss a4 p.a3) (.need (A.and (A.c .leq 0 a4) (A.c .lss a4 (A.l p.a2))) (.br (A.c .leq (A.n aQ p.a2 a4:aM).1 6) (.need (A.c .leq (A.l (([(A.n aQ p.a2 a4:aM)]:List aM):List aM)) 2513169434916) (.more (.c1 ⟨p.a0,p.a1,p.a2,p.a3,p.a5,p.a6,p.a7,p.a8,p.a9,p.cB,p.da,p.a12⟩ (A.b .add .i64 a4 1) ([(A.n aQ p.a2 a4:aM)]:List aM)))) (.more (.c0 p (A.b .add .i64 a4 1))))) (.need (A.k pJ (p.a5,p.a6,p.a7,p.a8,p.a9,p.cB,p.da,p.a12,([]:List aM))) (.br (A.c .eql p.a1 (A.k mM (p.a5,p.a6,p.a7,p.a8,p.a9,p.cB,p.da,p.a12,([]:List aM))).2) (.need (A.k EQ (p.a0,(A.k mM (p.a5,p.a6,p.a7,p.a8,p.a9,p.cB,p.da,p.a12,([]:List aM))).1)) (.ret (A.k KN (p.a0,(A.k mM (p.a5,p.a6,p.a7,p.a8,p.a9,p.cB,p.da,p.a12,([]:List aM))).1)))) (.ret false)))
 | .c1 p b4 b13=>.br (A.c .lss b4 p.b3) (.need (A.and (A.c .leq 0 b4) (A.c .lss b4 (A.l p.b2))) (.br (A.c .leq (A.n aQ p.b2 b4:aM).1 6) (.need (A.c .leq (A.l (A.p b13 ([(A.n aQ p.b2 b4:aM)]:List aM))) 2513169434916) (.more (.c1 p (A.b .add .i64 b4 1) (A.p b13 ([(A.n aQ p.b2 b4:aM)]:List aM))))) (.more (.c1 p (A.b .add .i64 b4 1) b13)))) (.need (A.k pJ (p.b5,p.b6,p.b7,p.b8,p.b9,p.b10,p.b11,p.b12,b13)) (.br (A.c .eql p.b1 (A.k mM (p.b5,p.b6,p.b7,p.b8,p.b9,p.b10,p.b11,p.b12,b13)).2) (.need (A.k EQ (p.b0,(A.k mM (p.b5,p.b6,p.b7,p.b8,p.b9,p.b10,p.b11,p.b12,b13)).1)) (.ret (A.k KN (p.b0,(A.k mM (p.b5,p.b6,p.b7,p.b8,p.b9,p.b10,p.b11,p.b12,b13)).1)))) (.ret false)))
theorem SH.rep{c d:fj}{x:bf}(h:SH c d)(hx:x.2.2.1=c):∀k:Nat,QV k (fy d x)=fy d (QV k x):=by
 intro k
 induction k generalizing x with
 | zero=>rfl
 | succ k ih=>
   obtain⟨a,b⟩:=Mb (x:=x) (d:=d) (by rw[hx];exact h)
   rw[QV,QV,a]
   exact ih (b.trans hx)
theorem Kb{m:al}{s:fj}(h0:(iv m).2=0):m_ m s=bif (oB m (bp m s)).1 then((QV (ox (oB m (bp m s)).2.1) (oB m (bp m s)).2.1).2.2.2.2.2.2,0) else([],(oB m (bp m s)).2.2):=by
 have e1:fD m s=(bp m s,0):=by unfold fD;rw[aK h0];rfl
 have e:nG m s=oB m (bp m s):=by unfold nG;rw[e1];rfl
 unfold m_
 rw[e]
theorem L3{m:al}{s t:fj}(h1:t.1=s.1)(h2:t.2.1=s.2.1)(h7:t.2.2.2.2.2.2.1=s.2.2.2.2.2.2.1)(h8:fX m=0→t.2.2.2.2.2.2.2=nh ((gZ m s.2.2.2.2.2.2.2).take 256)):m_ m t=m_ m s:=by
 by_cases h0:(iv m).2=0
 ·have hm:=yh h0
  have eu:(bp m t).2.1=(bp m s).2.1:=by show LP t.2.1 _=LP s.2.1 _;rw[h2]
  have er:(bp m t).1=(bp m s).1:=by show ah.mn (ah.mx t.1 1) 16=ah.mn (ah.mx s.1 1) 16;rw[h1]
  have ef:(bp m t).2.2.2.2.2.2.2=nh (bp m s).2.2.2.2.2.2.2:=by
   show(gZ m t.2.2.2.2.2.2.2).take 256=nh ((gZ m s.2.2.2.2.2.2.2).take 256)
   rw[h8 hm,Q_ hm,NV]
  have sim:SH (bp m s) (bp m t):=by
   refine⟨er,?_,fun k n q hk=>?_,fun ch q=>?_⟩
   ·show Ge (IT m t.2.2.2.2.2.2.1)=Ge (IT m s.2.2.2.2.2.2.1);rw[h7]
   ·rw[ef];exact Pj hk
   ·rw[ef];exact Pg
  have q:oB m (bp m t)=((oB m (bp m s)).1,bif (oB m (bp m s)).1 then fy (bp m t) (oB m (bp m s)).2.1 else(oB m (bp m s)).2.1,(oB m (bp m s)).2.2):=by
   unfold oB
   rw[eu]
   cases decide ((qd m (xZ (bp m s).2.1 0 0) (bp m s).2.1 0 []).2=0)<;>rfl
  have sc:(oB m (bp m s)).1=true→(oB m (bp m s)).2.1.2.2.1=bp m s:=by
   unfold oB
   cases decide ((qd m (xZ (bp m s).2.1 0 0) (bp m s).2.1 0 []).2=0)
   ·intro h;cases h
   ·intro _;rfl
  rw[Kb h0,Kb h0,q]
  cases hb:(oB m (bp m s)).1
  ·rfl
  ·have sc:=sc hb
   rw[hb] at q
   generalize (oB m (bp m s)).2.1=x at sc q ⊢
   show((QV (ox (fy (bp m t) x)) (fy (bp m t) x)).2.2.2.2.2.2,(0:Int))=((QV (ox x) x).2.2.2.2.2.2,0)
   have ec:ox (fy (bp m t) x)=ox x:=by
    show((bp m t).1*x.2.1.1).toNat=(x.2.2.1.1*x.2.1.1).toNat
    rw[er,sc]
   rw[ec,sim.rep sc]
   rfl
 ·have e1:∀s,fD m s=(WX,(iv m).2):=fun s=>by unfold fD;rw[aX h0];rfl
  unfold m_ nG
  rw[e1,e1]
theorem Mid.it:∀(j k:Nat) (x:bf),Mid x k→k+j≤1000→Mid (QV j x) (k+j)
 | 0,_,_,h,_=>h
 | j+1,k,x,h,hk=>by
   have:=Mid.it j (k+1) (nt x) (mid_step h (by omega)) (by omega)
   rw[show k+(j+1)=k+1+j by omega]
   exact this
theorem SL{m:al}{s:fj}:(m_ m s).1.length≤1000000:=by
 unfold m_
 cases h:(nG m s).1
 ·exact Nat.zero_le _
 ·obtain⟨_,_,hm⟩:=Kx h
  have hc:=hm.cnt.2
  have:=(hm.it (ox (nG m s).2.1) 0 _ (by omega)).r7
  exact Nat.le_trans this (by omega)
theorem G3{f:aM}{l:List aM}:nh (f::l)=bif ah.c .leq f.1 6 then f::nh l else nh l:=by
 show List.filter _ _=_
 rw[List.filter_cons,ao]
 cases decide (f.1≤6)<;>rfl
theorem Q5{l:List aM}(h:l.length≤1000001):ah.c .leq (ah.l l) 2513169434916=true:=by rw[ao,bF];exact aK (by omega)
theorem Qx{m:al}{s t:fj}{a:List gn}{e:Int}(ha:(a,e)=m_ m s)(hp:ah.k pJ (m,t)=true)(ht:m_ m t=m_ m s) :
  au (D7 ah) (.need (ah.k pJ (m,t)) (.br (ah.c .eql e (ah.k mM (m,t)).2) (.need (ah.k EQ (a,(ah.k mM (m,t)).1)) (.ret (ah.k KN (a,(ah.k mM (m,t)).1)))) (.ret false))) true:=by
 have h:ah.k mM (m,t)=m_ m s:=ht
 rw[h,←ha]
 have hl:a.length≤1000000:=by have:=SL (m:=m) (s:=s);rw[←ha] at this;exact this
 exact af.2 ⟨hp,(aj (by rw[aN];exact aK rfl)).2 (af.2 ⟨aK ⟨rfl,hl⟩,.ret _⟩)⟩
theorem SJ{p:R2}{m:al}{s:fj}{l:List aM}(h0:(p.b0,p.b1)=m_ m s)(h2:p.b2=l)(h3:p.b3=(l.length:Int))(h5:p.b5=m)(hl:l.length≤256)
  (hp:∀F:List aM,F.length≤256→ah.k pJ (m,(p.b6,p.b7,p.b8,p.b9,p.b10,p.b11,p.b12,F))=true) (ht:m_ m (p.b6,p.b7,p.b8,p.b9,p.b10,p.b11,p.b12,nh l)=m_ m s) :
  ∀(j i:Nat) (acc:List aM),l.length-i=j→i≤l.length→acc++nh (l.drop i)=nh l→au (D7 ah) (.more (.c1 p (i:Int) acc)) true:=by
 intro j
 have ll:(nh l).length≤l.length:=List.length_filter_le ..
 induction j with
 | zero=>
   intro i acc hj hi ha
   rw[List.drop_eq_nil_of_le (by omega),show nh []=[] from rfl,List.append_nil] at ha
   rw[ak,D7,h3,h5]
   refine(ai (by rw[aC];exact aX (by omega))).2 ?_
   rw[ha]
   exact Qx h0 (hp _ (by omega)) ht
 | succ j ih=>
   intro i acc hj hi ha
   have hi':i<l.length:=by omega
   rw[ak,D7,h2,h3]
   refine(aj (by rw[aC];exact aK (by omega))).2 (af.2 ⟨aO hi',?_⟩)
   rw[show(ah.n aQ l (i:Int):aM)=l[i] from getD_in hi' _,bU (i:=i) (by omega)]
   rw[pV hi',G3] at ha
   have la:acc.length≤256:=by have:=congrArg List.length ha;rw[gm] at this;omega
   cases hc:ah.c .leq l[i].1 6
   ·rw[hc] at ha
    exact(ai rfl).2 (ih (i+1) acc (by omega) (by omega) ha)
   ·rw[hc] at ha
    refine(aj rfl).2 (af.2 ⟨Q5 (show(ah.p acc [l[i]]).length≤_ by rw[lf];omega),ih (i+1) _ (by omega) (by omega) ?_⟩)
    rw[f_,List.append_assoc]
    exact ha
theorem Oc{p:Qn}{m:al}{s:fj}{l:List aM}(h0:(p.a0,p.a1)=m_ m s)(h2:p.a2=l)(h3:p.a3=(l.length:Int))(h5:p.a5=m)(hl:l.length≤256)
  (hp:∀F:List aM,F.length≤256→ah.k pJ (m,(p.a6,p.a7,p.a8,p.a9,p.cB,p.da,p.a12,F))=true) (ht:m_ m (p.a6,p.a7,p.a8,p.a9,p.cB,p.da,p.a12,nh l)=m_ m s) :
  ∀(j i:Nat),l.length-i=j→i≤l.length→nh (l.drop i)=nh l→au (D7 ah) (.more (.c0 p (i:Int))) true:=by
 intro j
 induction j with
 | zero=>
   intro i hj hi ha
   rw[List.drop_eq_nil_of_le (by omega),show nh []=[] from rfl] at ha
   rw[ak,D7,h3,h5]
   refine(ai (by rw[aC];exact aX (by omega))).2 ?_
   rw[←ha] at ht
   exact Qx h0 (hp _ (Nat.zero_le _)) ht
 | succ j ih=>
   intro i hj hi ha
   have hi':i<l.length:=by omega
   rw[ak,D7,h2,h3]
   refine(aj (by rw[aC];exact aK (by omega))).2 (af.2 ⟨aO hi',?_⟩)
   rw[show(ah.n aQ l (i:Int):aM)=l[i] from getD_in hi' _,bU (i:=i) (by omega)]
   rw[pV hi',G3] at ha
   cases hc:ah.c .leq l[i].1 6
   ·rw[hc] at ha
    exact(ai rfl).2 (ih (i+1) (by omega) (by omega) ha)
   ·rw[hc] at ha
    refine(aj rfl).2 (af.2 ⟨rfl,?_⟩)
    exact SJ (p:=⟨p.a0,p.a1,l,(l.length:Int),p.a5,p.a6,p.a7,p.a8,p.a9,p.cB,p.da,p.a12⟩) h0 rfl rfl h5 hl hp ht _ (i+1) [l[i]] rfl (show i+1≤l.length by omega) ha
theorem abP{m:al}{s o:fj}:au (D7 ah) (Zr ah m s o) true:=by
 unfold Zr J3 wZ
 refine af.2 ⟨rfl,(ai (by rw[show ah.k KM ()=true from rfl];rfl)).2 (af.2 ⟨rfl,?_⟩)⟩
 cases hf:qK s
 ·exact(aj (by show(!qK s)=true;rw[hf];rfl)).2 (af.2 ⟨rfl,.ret _⟩)
 refine(ai (by show(!qK s)=false;rw[hf];rfl)).2 (af.2 ⟨rfl,?_⟩)
 cases ho:qK o
 ·exact(aj (by show(!qK o)=true;rw[ho];rfl)).2 (af.2 ⟨rfl,.ret _⟩)
 obtain⟨f1,f2,f3⟩:=H5 hf
 obtain⟨g1,g2,g3⟩:=H5 ho
 refine(ai (by show(!qK o)=false;rw[ho];rfl)).2 (af.2 ⟨VZ hf,af.2 ⟨aK (by omega),?_⟩⟩)
 rw[show ah.k R9 (m,s.2.2.2.2.2.2.2)=wm m s.2.2.2.2.2.2.2 [] from rfl,show ah.k mM (m,s)=m_ m s from rfl]
 generalize hC:wm m s.2.2.2.2.2.2.2 []=C
 have eC:ah.s C 0 (ah.mn (ah.l C) 256)=C.take 256:=by
  rw[bF,show ah.mn (C.length:Int) 256=((min C.length 256:Nat):Int) from nj (i:=C.length) (j:=256),fP,gS]
  show List.drop 0 _=_
  rw[List.drop_zero,Nat.min_comm,←List.take_eq_take_min]
 refine af.2 ⟨?_,?_⟩
 ·rw[bF,show ah.mn (C.length:Int) 256=((min C.length 256:Nat):Int) from nj (i:=C.length) (j:=256),aJ,aJ,ao,ao,ao];simp;omega
 rw[eC]
 have l256:(C.take 256).length≤256:=by rw[List.length_take];omega
 refine Oc (p:=⟨(m_ m s).1,(m_ m s).2,C.take 256,ah.l (C.take 256),m,s.1,s.2.1,o.2.2.1,o.2.2.2.1,o.2.2.2.2.1,o.2.2.2.2.2.1,s.2.2.2.2.2.2.1⟩) (m:=m) (s:=s) (l:=C.take 256) rfl rfl rfl rfl l256 (fun F hF=>aK ⟨?_,?_,?_⟩) (L3 rfl rfl rfl fun h=>?_) _ 0 rfl (Nat.zero_le _) rfl
 ·show F.length≤_;omega
 ·show s.2.2.2.2.2.2.1.length≤_;omega
 ·show o.2.2.2.2.2.1.length≤_;omega
 ·show nh (C.take 256)=nh _
  rw[←hC,VM h]
def W4:(al×fj×fj)→Bool:=fun _=>true
def acR:ax:=⟨[aR,gW,gW], [.bool],(@tt (al×fj×fj)),W4⟩
theorem ago:Sd 5 acR:=aP ap bR true 93 [⟨5,9, [[3,7,8,9,56,57,58]]⟩] [] (fun A (m,s,other)=>Zr A m s other) D7 ZJ (fc Tryz.func5 fz) (sc aef (sc adi (sc Ww (sc ab6 (sc aea sz))))) (fun A y=>match y with |.c0 p a4=>⟨43,by kernel_rfl,by kernel_rfl⟩|.c1 p b4 b13=>⟨43,by kernel_rfl,by kernel_rfl⟩) fun(m,s,other) hp h=>abP
theorem Yo(x:al×fj×fj)(h:Ty.cN [aR,gW,gW] x):W4 x=true:=rfl
end
end Go.Ev.M
