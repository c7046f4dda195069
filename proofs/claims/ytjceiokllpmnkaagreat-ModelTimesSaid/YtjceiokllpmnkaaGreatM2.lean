/-
  PROVED: what functions of the program compute, part 2. Conditions: none.
-/
import Derived.Test.YtjceiokllpmnkaaGreatM1
set_option linter.unusedVariables false
set_option linter.unusedSimpArgs false
namespace Go.Ev.M
open Go.Proofs
set_option maxRecDepth 100000
open Go.Ev.Pl
noncomputable section
abbrev SG(b:Bool):Prop:=b=b
section
variable {R Y:Type} {step:Y→LT R Y} {t:LT R Y} {r:R}
end
theorem zZ{b:Bool}{α:Type}{x y:α}(h:b=false):y=bif b then x else y:=by rw[h];rfl
theorem AX{p:Prop}[Decidable p]{b:Bool}(h:¬p):(decide p&&b)=false:=by rw[aX h];rfl
theorem gH{p:Prop}[Decidable p]{b:Bool}(h:p):(decide p&&b)=b:=by rw[aK h];rfl
theorem JB{α:Type}{l:List α}{i:Nat}:ah.c .lss (i:Int) (ah.l l)=decide (i<l.length):=aC
def Tm(A:aI)(n:Int)(least:Int)(most:Int):LT Bool Empty:=.br (A.c .geq n least) (.ret (A.c .leq n most)) (.ret false)
def oP:(Int×Int×Int)→Bool:=fun(n,least,most)=>(Tm ah n least most).val (Ty.bi [.bool])
def aeM:ax:=⟨[yI,yI,yI], [.bool],(@tt (Int×Int×Int)),oP⟩
theorem GB:Sd 96 aeM:=aH ap bR true 22 [] (fun A (n,least,most)=>Tm A n least most) (fc Tryz.func96 fz) sz (fun((n,least,most):Int×Int×Int) hp h=>by
 show(Tm ah n least most).pre=true
 simp[Tm,LT.pre,aA,dU])
structure Xs where
 (a0:List dq) (a1:Int) (a3:Bool)
inductive SY where
 | c0 (p:Xs) (a2:Int)
noncomputable def YK:SY→eD
 | .c0 p a2=>⟨[⟨173,19,(en [(0,.sl ei p.a0),(1,.fn 95 [] []),(7,vi p.a1),(8,vi a2)]),[.inLoop (cw Tryz.f173 [1,0,1,0,0]),.inBlock 0,.code (cw Tryz.f173 [1,1])],[],none⟩,⟨97,9,.leaf,[.ops (ow Tryz.f97 [1,0]) ((ow Tryz.f97 [1,0]).toList.drop 2),.code .ret],[],none⟩,⟨44,43,(en [(37,vb p.a3)]),[.ops (ow Tryz.f44 [1,1,0,0]) ((ow Tryz.f44 [1,1,0,0]).toList.drop 37),.code (cw Tryz.f44 [1,1,0,1]),.code (cw Tryz.f44 [1,1,1])],[],none⟩],[.dead]⟩
def aby(A:aI)(c:cr):LT Int SY:=.need (A.k (@tt (Int×Int×Int)) ((A.l c.2.2.1),4,8)) (.br (A.not (A.k oP ((A.l c.2.2.1),4,8))) (.ret 120) (.need (A.k (@tt (Int×Int×Int)) (c.1,0,(A.b .sub .i64 (A.l c.2.2.1) 1))) (.br (A.not (A.k oP (c.1,0,(A.b .sub .i64 (A.l c.2.2.1) 1)))) (.ret 120) (.br (A.c .gtr (A.l c.2.1) 8) (.ret 120) (.need (A.k (@tt (Int×Int×Int)) (c.2.2.2.1,0,4)) (.br (A.not (A.k oP (c.2.2.2.1,0,4))) (.ret 120) (.need (A.k (@tt (Int×Int×Int)) (c.2.2.2.2,(-1),3)) (.br (A.not (A.k oP (c.2.2.2.2,(-1),3))) (.ret 120) (.more (.c0 ⟨c.2.2.1,(A.l c.2.2.1),false⟩ 0))))))))))
def Nc(A:aI):SY→LT Int SY
 | .c0 p a2=>.br (A.c .lss a2 p.a1) (.need (A.and (A.c .leq 0 a2) (A.c .lss a2 (A.l p.a0))) (.br (A.c .gtr (A.l (A.n ei p.a0 a2:dq).1) 8) (.br p.a3 (.ret 120) (.br (A.c .geq a2 0) (.ret 120) (.ret 0))) (.need (A.k (@tt (Int×Int×Int)) ((A.n ei p.a0 a2:dq).2,0,255)) (.br (A.not (A.k oP ((A.n ei p.a0 a2:dq).2,0,255))) (.br p.a3 (.ret 120) (.br (A.c .geq a2 0) (.ret 120) (.ret 0))) (.more (.c0 p (A.b .add .i64 a2 1))))))) (.br p.a3 (.ret 120) (.ret 0))
theorem Di:oP=fO:=rfl
def FM(m:dq):Bool:=decide (¬8<(m.1.length:Int))&&decide (0≤m.2∧m.2≤255)
def dK(c:cr):Bool:=decide (4≤(c.2.2.1.length:Int)∧(c.2.2.1.length:Int)≤8)&&(decide (0≤c.1∧c.1≤(c.2.2.1.length:Int)-1)&&(decide (¬8<(c.2.1.length:Int))&&(decide (0≤c.2.2.2.1∧c.2.2.2.1≤4)&&(decide (-1≤c.2.2.2.2∧c.2.2.2.2≤3)&&c.2.2.1.all FM))))
def sV(c:cr):Int:=bif dK c then 0 else 120
theorem C9{c:cr}:sV c=0↔dK c=true:=by unfold sV;cases dK c<;>decide
theorem ah5{l:List dq}(hl:l.length≤140737488355328):∀(j i:Nat),l.length-i=j→i≤l.length→au (Nc ah) (.more (.c0 ⟨l,(l.length:Int),false⟩ (i:Int))) (bif (l.drop i).all FM then 0 else 120):=by
 intro j
 induction j with
 | zero=>
   intro i hj hi
   have:i=l.length:=by omega
   subst this
   rw[ak,Nc]
   refine(ai (by rw[aC];simp)).2 ((ai rfl).2 ?_)
   rw[List.drop_length]
   exact .ret _
 | succ j ih=>
   intro i hj hi
   have hi':i<l.length:=by omega
   rw[ak,Nc]
   refine(aj (by rw[aC];simp;omega)).2 (af.2 ⟨aO hi',?_⟩)
   rw[show(ah.n ei l (i:Int):dq)=l[i] from getD_in hi' _,pV hi',List.all_cons,FM,Di]
   refine aB (p:=8<(l[i].1.length:Int)) rfl (fun h=>?_) fun h1=>af.2 ⟨rfl,dW (fun h=>?_) fun h2=>?_⟩
   ·rw[aX (show ¬¬8<(l[i].1.length:Int) by omega)]
    exact(ai rfl).2 ((aj (by rw[bZ];simp)).2 (.ret _))
   ·rw[aX h,Bool.and_false]
    exact(ai rfl).2 ((aj (by rw[bZ];simp)).2 (.ret _))
   ·rw[aK h1,aK h2,bU (i:=i) (by omega)]
    exact ih (i+1) (by omega) (by omega)
theorem TP{c:cr}(h:Ty.has lb c):c.2.1.length≤140737488355328∧c.2.2.1.length≤140737488355328∧∀x∈c.2.2.1,x.1.length≤140737488355328:=by
 obtain⟨_,h1,h2,_⟩:=h
 exact⟨h1.1,h2.1,fun x hx=>(h2.2 x hx).1.1⟩
theorem ah9{c:cr}(h:Ty.has lb c):au (Nc ah) (aby ah c) (sV c):=by
 have hc:=(TP h).2.1
 unfold aby sV
 rw[Di]
 simp only[bF]
 have hs:ah.b .sub .i64 (c.2.2.1.length:Int) 1=(c.2.2.1.length:Int)-1:=by rw[cu,iZ (by omega) (by omega)]
 rw[hs]
 refine af.2 ⟨rfl,dW (fun h=>?_) fun h1=>af.2 ⟨rfl,dW (fun h=>?_) fun h2=>aB (p:=8<(c.2.1.length:Int)) rfl (fun h=>?_) fun h3=>af.2 ⟨rfl,dW (fun h=>?_) fun h4=>af.2 ⟨rfl,dW (fun h=>?_) fun h5=>?_⟩⟩⟩⟩
 ·exact ay (zZ (by rw[dK,AX h])) (.ret _)
 ·exact ay (zZ (by rw[dK,gH h1,AX h])) (.ret _)
 ·exact ay (zZ (by rw[dK,gH h1,gH h2,AX (fun k=>k h)])) (.ret _)
 ·exact ay (zZ (by rw[dK,gH h1,gH h2,gH h3,AX h])) (.ret _)
 ·exact ay (zZ (by rw[dK,gH h1,gH h2,gH h3,gH h4,AX h])) (.ret _)
 ·rw[dK,gH h1,gH h2,gH h3,gH h4,gH h5]
  exact ah5 hc c.2.2.1.length 0 rfl (by omega)
def lI:cr→Int:=sV
def aeh:ax:=⟨[lb], [yI],(@tt cr),lI⟩
theorem Dn:Sd 44 aeh:=aP ap bR true 78 [⟨173,2, [[0,1,7,8], [], [37]]⟩] [] (fun A c=>aby A c) Nc YK (fc Tryz.func44 (fc Tryz.func95 (fc Tryz.func97 (fc Tryz.func173 fz)))) (sc GB sz) (fun A y=>match y with |.c0 p a2=>⟨68,by kernel_rfl,by kernel_rfl⟩) fun c hp h=>ah9 h
structure abz where
 (a0:Int) (a2:cr) (a3 a4 a5:Int)
inductive RI where
 | c0 (p:abz) (a1:Int) (a6:List dq)
noncomputable def XT:RI→eD
 | .c0 p a1 a6=>⟨[⟨112,44,(en [(1,.ptr 0 0),(2,.ptr 1 0),(5,.own 2),(22,vi p.a0),(23,vi a1)]),[.inLoop (cw Tryz.f112 [1,1,1,1,0,1,0,0]),.inBlock 0,.code (cw Tryz.f112 [1,1,1,1,1])],[],none⟩],[.flat false (dc lb p.a2),.flat false [vi p.a3,.dp true,.dp true,vi p.a4,vi p.a5],.arr false ei a6,.dead]⟩
abbrev Ri(A:aI)(c:cr):=(A.spl (A.r (A.l c.2.2.1) (Ty.dZ ei:dq)) 0 (A.s c.2.2.1 0 (A.mn (A.l c.2.2.1) (A.l (A.r (A.l c.2.2.1) (Ty.dZ ei:dq))))))
def aa4(A:aI)(c:cr):LT (cr×Int) RI:=.need (A.k (@tt cr) c) (.br (A.c .neq (A.k lI c) 0) (.ret ((0,([]:List Int),([]:List dq),0,0),(A.k lI c))) (.need (A.and (A.c .eql (A.l c.2.2.1) (A.l c.2.2.1)) (A.and (A.c .leq 0 (A.l c.2.2.1)) (A.c .leq (A.l c.2.2.1) 4398046511104))) (.more (.c0 ⟨(A.l (Ri A c)),c,0,0,0⟩ 0 (Ri A c)))))
def R1(A:aI):RI→LT (cr×Int) RI
 | .c0 p a1 a6=>.br (A.c .lss a1 p.a0) (.need (A.and (A.c .leq 0 a1) (A.c .lss a1 (A.l a6))) (.need (A.k (@tt (List Int)) (A.n ei a6 a1:dq).1) (.need (A.and (A.c .leq 0 a1) (A.c .lss a1 (A.l a6))) (.more (.c0 p (A.b .add .i64 a1 1) (A.set a6 a1 ((A.k jG (A.n ei a6 a1:dq).1),(A.n ei a6 a1:dq).2))))))) (.need (A.k (@tt (List Int)) p.a2.2.1) (.ret ((p.a2.1,(A.k jG p.a2.2.1),a6,p.a2.2.2.2),0)))
def xY:cr:=(0,([]:List Int),([]:List dq),0,0)
def EN(c:cr):cr×Int:=bif dK c then(c,0) else(xY,120)
theorem aiB{c:cr}{L z1 z2 z3:Int}{l:List dq}(hl:l.length≤140737488355328)(hL:L=(l.length:Int)):∀(j i:Nat),l.length-i=j→i≤l.length→au (R1 ah) (.more (.c0 ⟨L,c,z1,z2,z3⟩ (i:Int) l)) ((c.1,c.2.1,l,c.2.2.2),0):=by
 subst hL
 intro j
 induction j with
 | zero=>
   intro i hj hi
   have:i=l.length:=by omega
   subst this
   rw[ak,R1]
   exact(ai (by rw[aC];simp)).2 (af.2 ⟨rfl,.ret _⟩)
 | succ j ih=>
   intro i hj hi
   have hi':i<l.length:=by omega
   rw[ak,R1]
   refine(aj (by rw[aC];simp;omega)).2 (af.2 ⟨aO hi',af.2 ⟨rfl,af.2 ⟨aO hi',?_⟩⟩⟩)
   have e:(ah.n ei l (i:Int):dq)=l[i]:=getD_in hi' _
   have e2:ah.set l (i:Int) ((ah.k jG (ah.n ei l (i:Int):dq).1),(ah.n ei l (i:Int):dq).2)=l:=by
    rw[e]
    show l.set (i:Int).toNat l[i]=l
    rw[gS];exact List.set_getElem_self _
   rw[e2,bU (i:=i) (by omega)]
   exact ih (i+1) (by omega) (by omega)
theorem Fg{α:Type}{l:List α}{d:α}:ah.spl (ah.r (ah.l l) d) 0 (ah.s l 0 (ah.mn (ah.l l) (ah.l (ah.r (ah.l l) d))))=l:=by
 simp[jr,nV,fP,ov,bF]
theorem ad8{c:cr}:au (R1 ah) (aa4 ah c) (EN c):=by
 unfold aa4 Ri EN
 refine af.2 ⟨rfl,?_⟩
 rw[show ah.k lI c=sV c from rfl,sV]
 cases hc:dK c
 ·exact(aj rfl).2 (.ret _)
 ·refine(ai rfl).2 ?_
  simp only[dK,cd,jV] at hc
  have h1:ah.and (ah.c .eql (ah.l c.2.2.1) (ah.l c.2.2.1)) (ah.and (ah.c .leq 0 (ah.l c.2.2.1)) (ah.c .leq (ah.l c.2.2.1) 4398046511104))=true:=by
   rw[bF,aD,ao,ao,aJ,aJ];simp;omega
  refine af.2 ⟨h1,?_⟩
  exact gI (congrArg (fun z:List dq=>LT.more (RI.c0 ⟨ah.l z,c,0,0,0⟩ 0 z)) Fg) (aiB (by omega) rfl c.2.2.1.length 0 rfl (by omega))
def ji:cr→(cr×Int):=EN
def ab8:ax:=⟨[lb], [lb,yI],(@tt cr),ji⟩
theorem Rm:Sd 112 ab8:=aP ap bR true 50 [⟨112,7, [[1,2,5,22,23]]⟩] [] (fun A c=>aa4 A c) R1 XT (fc Tryz.func112 fz) (sc Cz (sc Dn sz)) (fun A y=>match y with |.c0 p a1 a6=>⟨38,by kernel_rfl,by kernel_rfl⟩) fun c hp h=>ad8
theorem aN{a b:Int}:ah.c .eql a b=decide (a=b):=by rw[aD,Bool.eq_iff_iff];simp
structure Z_ where
 (a0 a2:Int) (a3:List Int) (a4:cr) (a5 a6 a7:Int) (a9:cr) (cB da a12:Int)
inductive QX where
 | c0 (p:Z_) (a1:Int) (a8:List dq)
noncomputable def XB:QX→eD
 | .c0 p a1 a8=>⟨[⟨112,44,(en [(1,.ptr 0 0),(2,.ptr 1 0),(5,.own 2),(22,vi p.a0),(23,vi a1)]),[.inLoop (cw Tryz.f112 [1,1,1,1,0,1,0,0]),.inBlock 0,.code (cw Tryz.f112 [1,1,1,1,1])],[],none⟩,⟨110,42,(en [(1,vi p.a2),(2,.sl yU p.a3),(3,.ptr 3 0),(6,.ptr 4 0)]),[.ops (ow Tryz.f110 [1,0]) ((ow Tryz.f110 [1,0]).toList.drop 1),.code (cw Tryz.f110 [1,1])],[],none⟩],[.flat false (dc lb p.a4),.flat false [vi p.a5,.dp true,.dp true,vi p.a6,vi p.a7],.arr false ei a8,.flat false (dc lb p.a9),.flat false [vi p.cB,.dp true,.dp true,vi p.da,vi p.a12],.dead]⟩
abbrev PD(A:aI)(c:cr):=(A.spl (A.r (A.l c.2.2.1) (Ty.dZ ei:dq)) 0 (A.s c.2.2.1 0 (A.mn (A.l c.2.2.1) (A.l (A.r (A.l c.2.2.1) (Ty.dZ ei:dq))))))
def XK(A:aI)(c:cr)(slot:Int)(data:List Int):LT (cr×Int) QX:=.need (A.k (@tt cr) c) (.br (A.c .neq (A.k lI c) 0) (.br (A.c .neq (A.k lI c) 0) (.ret ((0,([]:List Int),([]:List dq),0,0),(A.k lI c))) (.need (A.k (@tt (Int×Int×Int)) (slot,0,(A.b .sub .i64 (A.l c.2.2.1) 1))) (.br (A.not (A.k oP (slot,0,(A.b .sub .i64 (A.l c.2.2.1) 1)))) (.ret ((0,([]:List Int),([]:List dq),0,0),2)) (.br (A.c .gtr (A.l data) 8) (.ret ((0,([]:List Int),([]:List dq),0,0),3)) (.need (A.k (@tt (List Int)) data) (.bad 37 "cni.go:107")))))) (.need (A.and (A.c .eql (A.l c.2.2.1) (A.l c.2.2.1)) (A.and (A.c .leq 0 (A.l c.2.2.1)) (A.c .leq (A.l c.2.2.1) 4398046511104))) (.more (.c0 ⟨(A.l (PD A c)),slot,data,c,0,0,0,c,0,0,0⟩ 0 (PD A c)))))
def Lj(A:aI):QX→LT (cr×Int) QX
 | .c0 p a1 a8=>.br (A.c .lss a1 p.a0) (.need (A.and (A.c .leq 0 a1) (A.c .lss a1 (A.l a8))) (.need (A.k (@tt (List Int)) (A.n ei a8 a1:dq).1) (.need (A.and (A.c .leq 0 a1) (A.c .lss a1 (A.l a8))) (.more (.c0 p (A.b .add .i64 a1 1) (A.set a8 a1 ((A.k jG (A.n ei a8 a1:dq).1),(A.n ei a8 a1:dq).2))))))) (.need (A.k (@tt (List Int)) p.a4.2.1) (.need (A.k (@tt (Int×Int×Int)) (p.a2,0,(A.b .sub .i64 (A.l p.a9.2.2.1) 1))) (.br (A.not (A.k oP (p.a2,0,(A.b .sub .i64 (A.l p.a9.2.2.1) 1)))) (.ret ((0,([]:List Int),([]:List dq),0,0),2)) (.br (A.c .gtr (A.l p.a3) 8) (.ret ((0,([]:List Int),([]:List dq),0,0),3)) (.need (A.k (@tt (List Int)) p.a3) (.need (A.and (A.c .leq 0 p.a2) (A.c .lss p.a2 (A.l a8))) (.ret ((p.a4.1,(A.k jG p.a4.2.1),(A.set a8 p.a2 ((A.k jG p.a3),0)),p.a4.2.2.2),0))))))))
def mW(c:cr)(slot:Int)(data:List Int):cr×Int:=
 bif dK c then(bif decide (0≤slot∧slot≤(c.2.2.1.length:Int)-1) then(bif decide (8<(data.length:Int)) then(xY,3) else((c.1,c.2.1,c.2.2.1.set slot.toNat (data,0),c.2.2.2),0)) else(xY,2)) else(xY,120)
def ahR:cr×Int×List Int→cr×Int:=fun(c,slot,data)=>mW c slot data
theorem EO{c:cr}(h:dK c=true):4≤c.2.2.1.length∧c.2.2.1.length≤8∧c.2.1.length≤8∧∀x∈c.2.2.1,x.1.length≤8∧0≤x.2∧x.2≤255:=by
 simp only[dK,cd,jV,List.all_eq_true,FM] at h
 exact⟨by omega,by omega,by omega,fun x hx=>by have:=h.2.2.2.2.2 x hx;exact⟨by omega,this.2⟩⟩
theorem Ft{c:cr}(h:dK c=true):ah.and (ah.c .eql (ah.l c.2.2.1) (ah.l c.2.2.1)) (ah.and (ah.c .leq 0 (ah.l c.2.2.1)) (ah.c .leq (ah.l c.2.2.1) 4398046511104))=true:=by
 have:=EO h
 rw[bF,aD,ao,ao,aJ,aJ];simp;omega
theorem FZ{l:List dq}{i:Nat}(hi:i<l.length):ah.set l (i:Int) ((ah.k jG (ah.n ei l (i:Int):dq).1),(ah.n ei l (i:Int):dq).2)=l:=by
 rw[show(ah.n ei l (i:Int):dq)=l[i] from getD_in hi _]
 show l.set (i:Int).toNat l[i]=l
 rw[gS];exact List.set_getElem_self _
theorem aiA{c:cr}{L slot z1 z2 z3 z4 z5 z6:Int}{data:List Int}{R:cr×Int}(hl:c.2.2.1.length≤8)(hL:L=(c.2.2.1.length:Int))(hR:au (Lj ah) (.more (.c0 ⟨L,slot,data,c,z1,z2,z3,c,z4,z5,z6⟩ (c.2.2.1.length:Int) c.2.2.1)) R) :
  ∀(j i:Nat),c.2.2.1.length-i=j→i≤c.2.2.1.length→au (Lj ah) (.more (.c0 ⟨L,slot,data,c,z1,z2,z3,c,z4,z5,z6⟩ (i:Int) c.2.2.1)) R:=by
 subst hL
 intro j
 induction j with
 | zero=>
   intro i hj hi
   have:i=c.2.2.1.length:=by omega
   subst this
   exact hR
 | succ j ih=>
   intro i hj hi
   have hi':i<c.2.2.1.length:=by omega
   rw[ak,Lj]
   refine(aj (by rw[aC];simp;omega)).2 (af.2 ⟨aO hi',af.2 ⟨rfl,af.2 ⟨aO hi',?_⟩⟩⟩)
   rw[FZ hi',bU (i:=i) (by omega)]
   exact ih (i+1) (by omega) (by omega)
theorem aiH{c:cr}{slot:Int}{data:List Int}:au (Lj ah) (XK ah c slot data) (mW c slot data):=by
 unfold XK PD mW
 refine af.2 ⟨rfl,?_⟩
 rw[show ah.k lI c=sV c from rfl,sV]
 cases hc:dK c
 ·exact(aj rfl).2 ((aj rfl).2 (.ret _))
 ·obtain⟨h1,h2,_,_⟩:=EO hc
  refine(ai rfl).2 (af.2 ⟨Ft hc,gI (congrArg (fun z:List dq=>LT.more (QX.c0 ⟨ah.l z,slot,data,c,0,0,0,c,0,0,0⟩ 0 z)) Fg) (aiA h2 rfl ?_ c.2.2.1.length 0 rfl (by omega))⟩)
  rw[ak,Lj]
  have hs:ah.b .sub .i64 (c.2.2.1.length:Int) 1=(c.2.2.1.length:Int)-1:=by rw[cu,iZ (by omega) (by omega)]
  refine(ai (by rw[aC];simp)).2 (af.2 ⟨rfl,af.2 ⟨rfl,?_⟩⟩)
  rw[Di]
  simp only[bF,hs]
  refine dW (fun h=>?_) fun h3=>aB (p:=8<(data.length:Int)) rfl (fun h=>?_) fun h4=>af.2 ⟨rfl,af.2 ⟨?_,?_⟩⟩
  ·rw[aX h];exact .ret _
  ·rw[aK h3,aK h];exact .ret _
  ·rw[ao,ar,aJ];simp;omega
  ·rw[aK h3,aX h4];exact .ret _
def w9:(cr×Int×List Int)→(cr×Int):=ahR
def acr:ax:=⟨[lb,yI,yB], [lb,yI],(@tt (cr×Int×List Int)),w9⟩
theorem WG:Sd 110 acr:=aP ap bR true 89 [⟨112,7, [[1,2,5,22,23], [1,2,3,6]]⟩] [] (fun A (c,slot,data)=>XK A c slot data) Lj XB (fc Tryz.func110 (fc Tryz.func112 fz)) (sc Cz (sc Dn (sc GB sz))) (fun A y=>match y with |.c0 p a1 a8=>⟨86,by kernel_rfl,by kernel_rfl⟩) fun(c,slot,data) hp h=>aiH
structure YM where
 (a0 a1 a2 a3 a4 a5 a6 a7:Int)
structure abC where
 (b0:Int) (b2:cr) (b3 b4 b5 b7 b8 b9:Int)
structure Y4 where
 (c0 c2 c3 c4 c5:Int) (c6:List Int) (c7 c8:Int)
inductive R0 where
 | c0 (p:YM)
 | c1 (p:abC) (b1:Int) (b6:List dq)
 | c2 (p:Y4) (c1:Int) (c9:List dq)
noncomputable def X0:R0→eD
 | .c0 p=>⟨[⟨57,42,(en [(2,.ptr 0 0),(4,.ptr 1 0),(18,vi p.a0),(19,vi p.a1)]),[.inLoop (cw Tryz.f57 [1,1,1,0,1,0,0]),.inBlock 0,.code (cw Tryz.f57 [1,1,1,1])],[],none⟩],[.flat false [vi p.a2,.dp true,.dp true,vi p.a3,vi p.a4],.flat false [vi p.a5,.dp true,.dp true,vi p.a6,vi p.a7],.dead]⟩
 | .c1 p b1 b6=>⟨[⟨112,44,(en [(1,.ptr 0 0),(2,.ptr 1 0),(5,.own 2),(22,vi p.b0),(23,vi b1)]),[.inLoop (cw Tryz.f112 [1,1,1,1,0,1,0,0]),.inBlock 0,.code (cw Tryz.f112 [1,1,1,1,1])],[],none⟩,⟨57,42,(en [(2,.ptr 3 0)]),[.ops (ow Tryz.f57 [1,0]) ((ow Tryz.f57 [1,0]).toList.drop 1),.code (cw Tryz.f57 [1,1])],[],none⟩],[.flat false (dc lb p.b2),.flat false [vi p.b3,.dp true,.dp true,vi p.b4,vi p.b5],.arr false ei b6,.flat false [vi p.b7,.dp true,.dp true,vi p.b8,vi p.b9],.dead]⟩
 | .c2 p c1 c9=>⟨[⟨57,42,(en [(2,.ptr 0 0),(4,.ptr 1 0),(18,vi p.c0),(19,vi c1)]),[.inLoop (cw Tryz.f57 [1,1,1,0,1,0,0]),.inBlock 0,.code (cw Tryz.f57 [1,1,1,1])],[],none⟩],[.flat false [vi p.c2,.dp true,.dp true,vi p.c3,vi p.c4],.flat false [vi p.c5,.sl yU p.c6,.own 2,vi p.c7,vi p.c8],.arr false ei c9,.dead]⟩
abbrev OQ(A:aI)(c:cr):=(A.spl (A.r (A.l c.2.2.1) (Ty.dZ ei:dq)) 0 (A.s c.2.2.1 0 (A.mn (A.l c.2.2.1) (A.l (A.r (A.l c.2.2.1) (Ty.dZ ei:dq))))))
def abK(A:aI)(c:cr):LT (cr×Int) R0:=.need (A.k (@tt cr) c) (.br (A.c .neq (A.k lI c) 0) (.br (A.c .neq (A.k lI c) 0) (.ret ((0,([]:List Int),([]:List dq),0,0),(A.k lI c))) (.more (.c0 ⟨0,0,0,0,0,0,0,0⟩))) (.need (A.and (A.c .eql (A.l c.2.2.1) (A.l c.2.2.1)) (A.and (A.c .leq 0 (A.l c.2.2.1)) (A.c .leq (A.l c.2.2.1) 4398046511104))) (.more (.c1 ⟨(A.l (OQ A c)),c,0,0,0,0,0,0⟩ 0 (OQ A c)))))
def DL(A:aI):R0→LT (cr×Int) R0
 | .c0 p=>.br (A.c .lss p.a1 p.a0) (.bad 37 "cni.go:118") (.ret ((p.a5,([]:List Int),([]:List dq),(A.mx (A.b .sub .i64 p.a6 1) 0),p.a7),0))
 | .c1 p b1 b6=>.br (A.c .lss b1 p.b0) (.need (A.and (A.c .leq 0 b1) (A.c .lss b1 (A.l b6))) (.need (A.k (@tt (List Int)) (A.n ei b6 b1:dq).1) (.need (A.and (A.c .leq 0 b1) (A.c .lss b1 (A.l b6))) (.more (.c1 p (A.b .add .i64 b1 1) (A.set b6 b1 ((A.k jG (A.n ei b6 b1:dq).1),(A.n ei b6 b1:dq).2))))))) (.need (A.k (@tt (List Int)) p.b2.2.1) (.more (.c2 ⟨(A.l b6),p.b7,p.b8,p.b9,p.b2.1,(A.k jG p.b2.2.1),p.b2.2.2.2.1,p.b2.2.2.2.2⟩ 0 b6)))
 | .c2 p c1 c9=>.br (A.c .lss c1 p.c0) (.need (A.and (A.c .leq 0 c1) (A.c .lss c1 (A.l c9))) (.need (A.and (A.c .leq 0 c1) (A.c .lss c1 (A.l c9))) (.more (.c2 p (A.b .add .i64 c1 1) (A.set c9 c1 ((A.n ei c9 c1:dq).1,(A.mn (A.b .add .i64 (A.n ei c9 c1:dq).2 1) 255))))))) (.ret ((p.c5,p.c6,c9,(A.mx (A.b .sub .i64 p.c7 1) 0),p.c8),0))
def Eg(m:dq):dq:=(m.1,ah.mn (ah.b .add .i64 m.2 1) 255)
def BY(c:cr):cr×Int:=bif dK c then((c.1,c.2.1,c.2.2.1.map Eg,ah.mx (ah.b .sub .i64 c.2.2.2.1 1) 0,c.2.2.2.2),0) else(xY,120)
theorem ZX{f:dq→dq}{l:List dq}{i:Nat}(hi:i<l.length):(ah.n ei ((l.take i).map f++l.drop i) (i:Int):dq)=l[i]∧ah.set ((l.take i).map f++l.drop i) (i:Int) (f l[i])=(l.take (i+1)).map f++l.drop (i+1):=by
 have hlen:i<((l.take i).map f++l.drop i).length:=by simp;omega
 have h1:((l.take i).map f).length=i:=by simp;omega
 constructor
 ·refine(getD_in hlen _).trans ?_
  rw[List.getElem_append_right (by rw[h1];exact Nat.le_refl _)]
  rw[List.getElem_drop]
  congr 1
  omega
 ·show List.set _ (i:Int).toNat _=_
  rw[gS,List.set_append_right _ _ (by rw[h1];exact Nat.le_refl _),h1,Nat.sub_self,pV hi,List.set_cons_zero,List.take_succ_eq_append_getElem hi,List.map_append,List.append_assoc]
  rfl
theorem Uo{f:dq→dq}{l:List dq}{i:Nat}(hi:i≤l.length):((l.take i).map f++l.drop i).length=l.length:=by simp;omega
theorem aiN{c:cr}{L z1 z2 z3 z4 z5 z6:Int}{R:cr×Int}(hl:c.2.2.1.length≤8)(hL:L=(c.2.2.1.length:Int))(hR:au (DL ah) (.more (.c1 ⟨L,c,z1,z2,z3,z4,z5,z6⟩ (c.2.2.1.length:Int) c.2.2.1)) R) :
  ∀(j i:Nat),c.2.2.1.length-i=j→i≤c.2.2.1.length→au (DL ah) (.more (.c1 ⟨L,c,z1,z2,z3,z4,z5,z6⟩ (i:Int) c.2.2.1)) R:=by
 subst hL
 intro j
 induction j with
 | zero=>
   intro i hj hi
   have:i=c.2.2.1.length:=by omega
   subst this
   exact hR
 | succ j ih=>
   intro i hj hi
   have hi':i<c.2.2.1.length:=by omega
   rw[ak,DL]
   refine(aj (by rw[aC];simp;omega)).2 (af.2 ⟨aO hi',af.2 ⟨rfl,af.2 ⟨aO hi',?_⟩⟩⟩)
   rw[FZ hi',bU (i:=i) (by omega)]
   exact ih (i+1) (by omega) (by omega)
theorem ahQ{l:List dq}{L z1 z2 z3 id life want:Int}{out:List Int}(hl:l.length≤8)(hL:L=(l.length:Int)):∀(j i:Nat),l.length-i=j→i≤l.length→
  au (DL ah) (.more (.c2 ⟨L,z1,z2,z3,id,out,life,want⟩ (i:Int) ((l.take i).map Eg++l.drop i))) ((id,out,l.map Eg,ah.mx (ah.b .sub .i64 life 1) 0,want),0):=by
 subst hL
 intro j
 induction j with
 | zero=>
   intro i hj hi
   have:i=l.length:=by omega
   subst this
   rw[ak,DL,List.take_length,List.drop_length,List.append_nil]
   exact(ai (by rw[aC];simp)).2 (.ret _)
 | succ j ih=>
   intro i hj hi
   have hi':i<l.length:=by omega
   have hx:i<((l.take i).map Eg++l.drop i).length:=by rw[Uo hi];exact hi'
   obtain⟨a1,a2⟩:=ZX (f:=Eg) hi'
   rw[ak,DL]
   refine(aj (by rw[aC];simp;omega)).2 (af.2 ⟨aO hx,af.2 ⟨aO hx,?_⟩⟩)
   rw[a1,bU (i:=i) (by omega)]
   rw[show(l[i].1,ah.mn (ah.b .add .i64 l[i].2 1) 255)=Eg l[i] from rfl,a2]
   exact ih (i+1) (by omega) (by omega)
theorem ajd{c:cr}:au (DL ah) (abK ah c) (BY c):=by
 unfold abK OQ BY
 refine af.2 ⟨rfl,?_⟩
 rw[show ah.k lI c=sV c from rfl,sV]
 cases hc:dK c
 ·exact(aj rfl).2 ((aj rfl).2 (.ret _))
 ·obtain⟨h1,h2,_,_⟩:=EO hc
  refine(ai rfl).2 (af.2 ⟨Ft hc,gI (congrArg (fun z:List dq=>LT.more (R0.c1 ⟨ah.l z,c,0,0,0,0,0,0⟩ 0 z)) Fg) (aiN h2 rfl ?_ c.2.2.1.length 0 rfl (by omega))⟩)
  rw[ak,DL]
  exact(ai (by rw[aC];simp)).2 (af.2 ⟨rfl,ahQ (l:=c.2.2.1) (out:=c.2.1) h2 rfl c.2.2.1.length 0 rfl (by omega)⟩)
def Pd:cr→(cr×Int):=BY
def ac0:ax:=⟨[lb], [lb,yI],(@tt cr),Pd⟩
theorem acZ:Sd 57 ac0:=aP ap bR true 68 [⟨57,5, [[2,4,18,19]]⟩,⟨112,7, [[1,2,5,22,23], [2]]⟩] [] (fun A c=>abK A c) DL X0 (fc Tryz.func57 (fc Tryz.func112 fz)) (sc Cz (sc Dn sz)) (fun A y=>match y with |.c0 p=>⟨28,by kernel_rfl,by kernel_rfl⟩|.c1 p b1 b6=>⟨56,by kernel_rfl,by kernel_rfl⟩|.c2 p c1 c9=>⟨41,by kernel_rfl,by kernel_rfl⟩) fun c hp h=>ajd
inductive U9 where
 | c0 (a0:Int) (a1:List dq)
noncomputable def Yl:U9→eD
 | .c0 a0 a1=>⟨[⟨162,48,(en [(7,.own 0),(8,vi a0)]),[.inLoop (cw Tryz.f162 [1,1,1,1,1,1,0,0,0]),.inBlock 0,.code (cw Tryz.f162 [1,1,1,1,1,1,1])],[],none⟩],[.arr false ei a1,.dead]⟩
abbrev zO(A:aI)(x2:List dq)(count:Int):=(A.v .i64 (A.b .mul .u64 (A.v .u64 (A.l x2)) (A.v .u64 count)))
abbrev Xd(A:aI)(x2:List dq)(count:Int):=(A.b .add .u64 (A.b .mul .u64 (A.b .shr .u64 (A.v .u64 (A.l x2)) 32) (A.b .and .u64 (A.v .u64 count) 4294967295)) (A.b .shr .u64 (A.b .mul .u64 (A.b .and .u64 (A.v .u64 (A.l x2)) 4294967295) (A.b .and .u64 (A.v .u64 count) 4294967295)) 32))
def afH(A:aI)(x2:List dq)(count:Int):LT (List dq) U9:=.br (A.c .lss count 0) (.bad 117 "slices.go:516") (.br (A.c .gtr (A.b .add .u64 (A.b .add .u64 (A.b .mul .u64 (A.b .shr .u64 (A.v .u64 (A.l x2)) 32) (A.b .shr .u64 (A.v .u64 count) 32)) (A.b .shr .u64 (Xd A x2 count) 32)) (A.b .shr .u64 (A.b .add .u64 (A.b .and .u64 (Xd A x2 count) 4294967295) (A.b .mul .u64 (A.b .and .u64 (A.v .u64 (A.l x2)) 4294967295) (A.b .shr .u64 (A.v .u64 count) 32))) 32)) 0) (.bad 117 "slices.go:522") (.br (A.c .gtr (A.b .mul .u64 (A.v .u64 (A.l x2)) (A.v .u64 count)) 9223372036854775807) (.bad 117 "slices.go:522") (.need (A.and (A.c .eql (zO A x2 count) (zO A x2 count)) (A.and (A.c .leq 0 (zO A x2 count)) (A.c .leq (zO A x2 count) 4398046511104))) (.more (.c0 (A.mn (A.l x2) (A.l (A.r (zO A x2 count) (Ty.dZ ei:dq)))) (A.spl (A.r (zO A x2 count) (Ty.dZ ei:dq)) 0 (A.s x2 0 (A.mn (A.l x2) (A.l (A.r (zO A x2 count) (Ty.dZ ei:dq)))))))))))
def afl(A:aI):U9→LT (List dq) U9
 | .c0 a0 a1=>.br (A.c .lss a0 (A.l a1)) (.need (A.and (A.c .leq 0 a0) (A.and (A.c .leq a0 (A.l a1)) (A.c .leq (A.l a1) (A.l a1)))) (.need (A.and (A.c .leq 0 0) (A.and (A.c .leq 0 a0) (A.c .leq a0 (A.l a1)))) (.more (.c0 (A.b .add .i64 a0 (A.mn (A.l (A.s a1 0 (A.b .add .i64 0 (A.b .sub .i64 a0 0)))) (A.b .sub .i64 (A.l a1) a0))) (A.spl a1 a0 (A.s (A.s a1 0 (A.b .add .i64 0 (A.b .sub .i64 a0 0))) 0 (A.mn (A.l (A.s a1 0 (A.b .add .i64 0 (A.b .sub .i64 a0 0)))) (A.b .sub .i64 (A.l a1) a0)))))))) (.ret a1)
def vL:dq:=(([]:List Int),255)
theorem aiG{l:List dq}{n:Int}(h:(decide (l=[(([]:List Int),255)])&&decide (4≤n)&&decide (n≤8))=true):au (afl ah) (afH ah l n) (List.replicate n.toNat vL):=by
 simp only[cd,jV] at h
 obtain⟨⟨rfl,h1⟩,h2⟩:=h
 have hn:n=4∨n=5∨n=6∨n=7∨n=8:=by omega
 rcases hn with rfl|rfl|rfl|rfl|rfl <;>
  (refine(ai (by kernel_rfl)).2 ((ai (by kernel_rfl)).2 ((ai (by kernel_rfl)).2 (af.2 ⟨by kernel_rfl,?_⟩)))
   refine ak.2 ((aj (by kernel_rfl)).2 (af.2 ⟨by kernel_rfl,af.2 ⟨by kernel_rfl,(ak.2 ?_)⟩⟩))
   refine(aj (by kernel_rfl)).2 (af.2 ⟨by kernel_rfl,af.2 ⟨by kernel_rfl,(ak.2 ?_)⟩⟩))
 ·exact(ai (by kernel_rfl)).2 (ay (by kernel_rfl) (.ret _))
 all_goals exact(aj (by kernel_rfl)).2 (af.2 ⟨by kernel_rfl,af.2 ⟨by kernel_rfl,(ak.2 ((ai (by kernel_rfl)).2 (ay (by kernel_rfl) (.ret _))))⟩⟩)
def Xg:(List dq×Int)→(List dq):=fun(_,n)=>List.replicate n.toNat (([]:List Int),255)
def Ij:(List dq×Int)→Bool:=fun(l,n)=>decide (l=[(([]:List Int),255)])&&decide (4≤n)&&decide (n≤8)
def ag9:ax:=⟨[(.slice ei),yI], [(.slice ei)],Ij,Xg⟩
theorem ae_:Sd 162 ag9:=aP ap bR true 175 [⟨162,8, [[7,8]]⟩] [] (fun A (x2,count)=>afH A x2 count) afl Yl (fc Tryz.func162 (fc Tryz.func198 (fc Tryz.func259 fz))) sz (fun A y=>match y with |.c0 a0 a1=>⟨30,by kernel_rfl,by kernel_rfl⟩) fun((x2,count):List dq×Int) hp h=>aiG hp
def YG(A:aI)(id:Int)(n:Int):LT (cr×Int) Empty:=.need (A.k (@tt (Int×Int×Int)) (n,4,8)) (.br (A.not (A.k oP (n,4,8))) (.ret ((0,([]:List Int),([]:List dq),0,0),120)) (.need (A.k (@tt (Int×Int×Int)) (id,0,(A.b .sub .i64 n 1))) (.br (A.not (A.k oP (id,0,(A.b .sub .i64 n 1)))) (.ret ((0,([]:List Int),([]:List dq),0,0),120)) (.need (A.k Ij (([(([]:List Int),255)]:List dq),n)) (.ret ((id,([]:List Int),(A.k Xg (([(([]:List Int),255)]:List dq),n)),4,(-1)),0))))))
def Oy(id n:Int):cr×Int:=bif decide (4≤n∧n≤8) then(bif decide (0≤id∧id≤n-1) then((id,([]:List Int),List.replicate n.toNat vL,4,(-1)),0) else(xY,120)) else(xY,120)
def ajc:Int×Int→cr×Int:=fun(id,n)=>Oy id n
theorem Qt{id n:Int}:au Empty.elim (YG ah id n) (Oy id n):=by
 unfold YG Oy
 rw[Di]
 refine af.2 ⟨rfl,dW (fun h=>?_) fun h1=>af.2 ⟨rfl,?_⟩⟩
 ·exact ay (by rw[aX h];rfl) (.ret _)
 ·have e:ah.b .sub .i64 n 1=n-1:=by rw[cu,iZ (by omega) (by omega)]
  rw[e]
  refine dW (fun h=>?_) fun h2=>af.2 ⟨?_,?_⟩
  ·exact ay (by rw[aK h1,aX h];rfl) (.ret _)
  ·rw[aA,Ij,aK h1.1,aK h1.2];rfl
  ·exact ay (by rw[aK h1,aK h2];rfl) (.ret _)
def KD:(Int×Int)→(cr×Int):=ajc
def aeW:ax:=⟨[yI,yI], [lb,yI],(@tt (Int×Int)),KD⟩
theorem acQ:Sd 83 aeW:=aZ ap bR true 38 [] (fun A (id,n)=>YG A id n) (fc Tryz.func83 fz) (sc GB (sc ae_ sz)) fun(id,n) hp h=>Qt
def U4(A:aI)(c:cr):LT Bool Empty:=.need (A.k (@tt cr) c) (.br (A.c .eql (A.k lI c) 0) (.ret (A.c .gtr c.2.2.2.1 0)) (.ret false))
def PW:cr→Bool:=fun c=>(U4 ah c).val (Ty.bi [.bool])
def agE:ax:=⟨[lb], [.bool],(@tt cr),PW⟩
theorem acn:Sd 346 agE:=aH ap bR true 23 [] (fun A c=>U4 A c) (fc Tryz.func346 fz) (sc Dn sz) (fun(c:cr) hp h=>by
 show(U4 ah c).pre=true
 simp[U4,LT.pre,aA,dU])
def YC(A:aI)(c:cr)(long:Int):LT (List Int×Int) Empty:=.need (A.k (@tt cr) c) (.br (A.c .neq (A.k lI c) 0) (.ret (([]:List Int),(A.k lI c))) (.need (A.k (@tt (Int×Int×Int)) (long,0,8)) (.br (A.not (A.k oP (long,0,8))) (.ret (([]:List Int),2)) (.need (A.and (A.c .eql long long) (A.and (A.c .leq 0 long) (A.c .leq long 140737488355328))) (.need (A.k (@tt cr) c) (.br (A.k PW c) (.ret ((A.spl (A.r long (0:Int)) 0 (A.s c.2.1 0 (A.mn (A.l c.2.1) (A.l (A.r long (0:Int)))))),0)) (.ret ((A.r long (0:Int)),0))))))))
def A8(c:cr)(k:Int):List Int×Int:=bif dK c then(bif decide (0≤k∧k≤8) then((bif decide (0<c.2.2.2.1) then c.2.1.take k.toNat++List.replicate (k.toNat-c.2.1.length) 0 else List.replicate k.toNat 0),0) else([],2)) else([],120)
def ajg:cr×Int→List Int×Int:=fun(c,k)=>A8 c k
theorem UO{k:Int}(h:0≤k∧k≤8):ah.and (ah.c .eql k k) (ah.and (ah.c .leq 0 k) (ah.c .leq k 140737488355328))=true:=by
 rw[aD,ao,ao,aJ,aJ];simp;omega
theorem aiF{c:cr}{k:Int}:au Empty.elim (YC ah c k) (A8 c k):=by
 unfold YC A8
 rw[Di]
 refine af.2 ⟨rfl,?_⟩
 rw[show ah.k lI c=sV c from rfl,show ah.k PW c=(bif sV c==0 then decide (0<c.2.2.2.1) else false) from rfl,sV]
 cases hc:dK c
 ·exact(aj rfl).2 (.ret _)
 ·refine(ai rfl).2 (af.2 ⟨rfl,dW (fun h=>?_) fun h=>af.2 ⟨UO h,af.2 ⟨rfl,aB (p:=0<c.2.2.2.1) rfl (fun h2=>?_) fun h2=>?_⟩⟩⟩)
  ·exact ay (by rw[aX h];rfl) (.ret _)
  ·refine ay ?_ (.ret _)
   rw[aK h,aK h2]
   obtain⟨n,rfl⟩:∃n:Nat,k=n:=⟨k.toNat,by omega⟩
   simp only[cond_true,jr,nV,fP,ov,bF,pQ,gS,Int.toNat_zero,List.take_zero,List.nil_append,List.drop_zero]
   refine Prod.ext ?_ rfl
   simp only[List.length_take,List.drop_replicate,Nat.zero_add]
   by_cases hl:(n:Int)<c.2.1.length
   ·rw[if_pos hl,gS]
    rw[show n-min n c.2.1.length=n-c.2.1.length by omega]
   ·rw[if_neg hl,gS,List.take_of_length_le (Nat.le_refl _),List.take_of_length_le (by omega),Nat.min_self]
  ·exact ay (by rw[aK h,aX h2];rfl) (.ret _)
def NR:(cr×Int)→(List Int×Int):=ajg
def ael:ax:=⟨[lb,yI], [yB,yI],(@tt (cr×Int)),NR⟩
theorem aff:Sd 329 ael:=aZ ap bR true 60 [] (fun A (c,long)=>YC A c long) (fc Tryz.func329 fz) (sc Dn (sc GB (sc acn sz))) fun(c,long) hp h=>aiF
def Xq(A:aI)(c:cr)(data:List Int):LT (cr×Int) Empty:=.need (A.k (@tt cr) c) (.br (A.c .neq (A.k ji c).2 0) (.ret ((0,([]:List Int),([]:List dq),0,0),(A.k ji c).2)) (.br (A.c .gtr (A.l data) 8) (.ret ((0,([]:List Int),([]:List dq),0,0),3)) (.need (A.k (@tt (List Int)) data) (.ret (((A.k ji c).1.1,(A.k jG data),(A.k ji c).1.2.2),0)))))
def MK(c:cr)(d:List Int):cr×Int:=bif dK c then(bif decide (8<(d.length:Int)) then(xY,3) else((c.1,d,c.2.2),0)) else(xY,120)
def wrS:cr×List Int→cr×Int:=fun(c,d)=>MK c d
theorem wr1{c:cr}{d:List Int}:au Empty.elim (Xq ah c d) (MK c d):=by
 unfold Xq MK
 refine af.2 ⟨rfl,?_⟩
 rw[show ah.k ji c=EN c from rfl,EN]
 cases dK c
 ·exact(aj rfl).2 (.ret _)
 ·refine(ai rfl).2 (aB (p:=8<(d.length:Int)) rfl (fun h=>?_) fun h=>af.2 ⟨rfl,?_⟩)
  ·exact ay (by rw[aK h];rfl) (.ret _)
  ·exact ay (by rw[aX h];rfl) (.ret _)
def yK:(cr×List Int)→(cr×Int):=wrS
def afc:ax:=⟨[lb,yB], [lb,yI],(@tt (cr×List Int)),yK⟩
theorem Wm:Sd 101 afc:=aZ ap bR true 55 [] (fun A (c,data)=>Xq A c data) (fc Tryz.func101 fz) (sc Cz (sc Rm sz)) fun(c,data) hp h=>wr1
def XV(A:aI)(c:cr):LT (cr×Int) Empty:=.need (A.k (@tt cr) c) (.br (A.c .eql (A.k ji c).2 0) (.ret (((A.k ji c).1.1,(A.k ji c).1.2.1,(A.k ji c).1.2.2.1,4,(A.k ji c).1.2.2.2.2),(A.k ji c).2)) (.ret (A.k ji c)))
def SE:cr→cr×Int:=fun c=>bif dK c then((c.1,c.2.1,c.2.2.1,4,c.2.2.2.2),0) else(xY,120)
theorem bt1{c:cr}:au Empty.elim (XV ah c) (SE c):=by
 unfold XV SE
 refine af.2 ⟨rfl,?_⟩
 rw[show ah.k ji c=EN c from rfl,EN]
 cases dK c
 ·exact(ai rfl).2 (.ret _)
 ·exact(aj rfl).2 (.ret _)
def Kf:cr→(cr×Int):=SE
def afa:ax:=⟨[lb], [lb,yI],(@tt cr),Kf⟩
theorem aex:Sd 249 afa:=aZ ap bR true 41 [] (fun A c=>XV A c) (fc Tryz.func249 fz) (sc Rm sz) fun c hp h=>bt1
def Zj(A:aI)(c:cr)(mode:Int):LT (cr×Int) Empty:=.need (A.k (@tt cr) c) (.br (A.c .neq (A.k ji c).2 0) (.ret ((0,([]:List Int),([]:List dq),0,0),(A.k ji c).2)) (.need (A.k (@tt (Int×Int×Int)) (mode,(-1),3)) (.br (A.not (A.k oP (mode,(-1),3))) (.ret ((0,([]:List Int),([]:List dq),0,0),2)) (.ret (((A.k ji c).1.1,(A.k ji c).1.2.1,(A.k ji c).1.2.2.1,(A.k ji c).1.2.2.2.1,mode),0)))))
def BA(c:cr)(m:Int):cr×Int:=bif dK c then(bif decide (-1≤m∧m≤3) then((c.1,c.2.1,c.2.2.1,c.2.2.2.1,m),0) else(xY,2)) else(xY,120)
def ajp:cr×Int→cr×Int:=fun(c,m)=>BA c m
theorem ah3{c:cr}{m:Int}:au Empty.elim (Zj ah c m) (BA c m):=by
 unfold Zj BA
 rw[Di]
 refine af.2 ⟨rfl,?_⟩
 rw[show ah.k ji c=EN c from rfl,EN]
 cases dK c
 ·exact(aj rfl).2 (.ret _)
 ·refine(ai rfl).2 (af.2 ⟨rfl,dW (fun h=>?_) fun h=>?_⟩)
  ·exact ay (by rw[aX h];rfl) (.ret _)
  ·exact ay (by rw[aK h];rfl) (.ret _)
def KZ:(cr×Int)→(cr×Int):=ajp
def agp:ax:=⟨[lb,yI], [lb,yI],(@tt (cr×Int)),KZ⟩
theorem afm:Sd 250 agp:=aZ ap bR true 54 [] (fun A (c,mode)=>Zj A c mode) (fc Tryz.func250 fz) (sc GB (sc Rm sz)) fun(c,mode) hp h=>ah3
abbrev dw(m:al):Int:=(m.2.2.2.2.2.2.2.length:Int)
theorem qM{c:cy}{k:Int}(h:kJ (c,k)=0):(4≤k∧k≤8)∧(0≤c.1∧c.1≤255)∧(0≤c.2.1∧c.2.1≤k-1)∧(0≤c.2.2.1∧c.2.2.1≤3)∧(0≤c.2.2.2.1∧c.2.2.2.1≤4)∧(0≤c.2.2.2.2∧c.2.2.2.2≤2^k.toNat-1):=by
 obtain⟨t,p,m,n,s⟩:=c
 rw[kJ] at h
 cases h1:decide (k<4)||decide (8<k)
 ·rw[h1,cond_false] at h
  rw[Bool.or_eq_false_iff,decide_eq_false_iff_not,decide_eq_false_iff_not] at h1
  cases h2:((decide (0≤t)&&decide (t≤255))&&((decide (0≤p)&&decide (p≤k-1))&&((decide (0≤m)&&decide (m≤3))&&((decide (0≤n)&&decide (n≤4))&&(decide (0≤s)&&decide (s≤2^k.toNat-1))))))
  ·rw[h2,cond_false] at h;exact absurd h (by decide)
  ·simp only[cd,jV] at h2
   exact⟨by omega,h2.1,h2.2.1,h2.2.2.1,h2.2.2.2.1,h2.2.2.2.2⟩
 ·rw[h1,cond_true] at h;exact absurd h (by decide)
def dY(m:al)(c:cy):Bool:=decide (kJ (c,m.1)=0)&&(decide (c.2.2.1<dw m)&&decide (c.2.2.2.1≤dw m))
def iU(m:al)(c:cy):Int:=bif du m then(bif dY m c then 0 else 40) else 70
theorem rN{m:al}{c:cy}(h:iU m c=0):du m=true∧kJ (c,m.1)=0∧(0≤c.2.2.1∧c.2.2.1<dw m)∧c.2.2.2.1≤dw m:=by
 unfold iU at h
 cases hm:du m
 ·rw[hm,cond_false] at h;exact absurd h (by decide)
 ·cases hf:dY m c
  ·rw[hm,hf,cond_true,cond_false] at h;exact absurd h (by decide)
  ·simp only[dY,cd,jV] at hf
   exact⟨rfl,hf.1,⟨(qM hf.1).2.2.2.1.1,hf.2.1⟩,hf.2.2⟩
theorem Ql{m:al}{c:cy}(h:du m=true)(h2:dY m c=true):iU m c=0:=by rw[iU,h,h2];rfl
theorem cY{m:al}(h:du m=true):(4≤m.1∧m.1≤8)∧(1≤dw m∧dw m≤4)∧(m.2.2.2.2.2.2.1.length:Int)=m.1∧m.2.2.2.2.2.2.2.all (jO m)=true:=by
 obtain⟨n,s,g,w,d,de,aW,modes⟩:=m
 have:=aax h
 exact⟨this.1,this.2.1,this.2.2.1,this.2.2.2.1⟩
theorem vC{m:al}(h:du m=true){i:Int}(h0:0≤i)(h1:i<dw m):jO m (ah.n bW m.2.2.2.2.2.2.2 i:Mode)=true:=by
 obtain⟨k,rfl⟩:∃k:Nat,i=k:=⟨i.toNat,by omega⟩
 have hk:k<m.2.2.2.2.2.2.2.length:=by unfold dw at h1;omega
 rw[show(ah.n bW m.2.2.2.2.2.2.2 (k:Int):Mode)=m.2.2.2.2.2.2.2[k] from getD_in hk _]
 exact List.all_eq_true.1 (cY h).2.2.2 _ (List.getElem_mem hk)
theorem oO{m:al}{x:Mode}(h:jO m x=true):(x.1.length:Int)=m.1∧(x.2.1.length:Int)=m.1∧(x.2.2.length:Int)=dw m:=by
 simp only[jO,cd,beq_iff_eq] at h
 exact⟨h.1.1.1,h.1.1.2,by rw[h.1.2]⟩
theorem rP{α:Type}{l:List α}{i:Int}(h0:0≤i)(h1:i<(l.length:Int)):ah.and (ah.c .leq 0 i) (ah.c .lss i (ah.l l))=true:=by
 rw[bF,ao,ar,aJ];simp;omega
theorem BU{x:Int}(h:x=0):ah.c .neq x 0=false:=by rw[h];rfl
theorem qy{x:Int}(h:¬x=0):ah.c .neq x 0=true:=by rw[aT];simpa using h
theorem ahC{x:Int}(h:¬x=0):ah.c .eql x 0=false:=by rw[aD];simpa using h
theorem On{x:Int}(h:x=0):ah.c .eql x 0=true:=by rw[h];rfl
def acG(A:aI)(m:al)(c:cy):LT Bool Empty:=.need (A.k (@tt ((Int×Int×Int×Int×Int)×Int)) (c,m.1)) (.br (A.c .eql (A.k adp (c,m.1)) 0) (.br (A.c .lss c.2.2.1 (A.l m.2.2.2.2.2.2.2)) (.ret (A.c .leq c.2.2.2.1 (A.l m.2.2.2.2.2.2.2))) (.ret false)) (.ret false))
theorem adx{m:al}{c:cy}:au Empty.elim (acG ah m c) (dY m c):=by
 unfold acG
 refine af.2 ⟨rfl,?_⟩
 rw[show ah.k adp (c,m.1)=kJ (c,m.1) from rfl]
 by_cases h:kJ (c,m.1)=0
 ·rw[dY,aK h]
  refine(aj (On h)).2 (aB (p:=c.2.2.1<dw m) rfl (fun h2=>?_) fun h2=>?_)
  ·exact ay (by rw[aK h2];rfl) (.ret _)
  ·exact ay (by rw[aX h2];rfl) (.ret _)
 ·rw[dY,aX h]
  exact(ai (ahC h)).2 (.ret _)
def aeO(A:aI)(m:al)(c:cy):LT Bool Empty:=.need (A.k (@tt ((Int×Int×Int×Int×Int)×Int)) (c,m.1)) (.br (A.c .eql (A.k pF (c,m.1)) 0) (.br (A.c .lss c.2.2.1 (A.l m.2.2.2.2.2.2.2)) (.ret (A.c .leq c.2.2.2.1 (A.l m.2.2.2.2.2.2.2))) (.ret false)) (.ret false))
theorem aad{m:al}{c:cy}:au Empty.elim (aeO ah m c) (dY m c):=adx
def J4:(al×cy)→Bool:=fun(m,c)=>dY m c
def af3:ax:=⟨[aR,kK], [.bool],(@tt (al×cy)),J4⟩
theorem WJ:Sd 45 af3:=aZ ap bR true 37 [] (fun A (m,c)=>aeO A m c) (fc Tryz.func45 fz) (sc E7 sz) fun(m,c) hp h=>aad
def aae(A:aI)(m:al)(n:Int):LT Bool Empty:=.br (A.c .geq n 0) (.ret (A.c .lss n (A.l m.2.2.2.2.2.2.2))) (.ret false)
def isF(m:al)(n:Int):Bool:=decide (0≤n∧n<dw m)
theorem is1{m:al}{n:Int}:au Empty.elim (aae ah m n) (isF m n):=by
 unfold aae isF
 refine aB (p:=0≤n) rfl (fun h=>?_) fun h=>?_
 ·exact ay (by rw[Bool.eq_iff_iff,bF,ar];simp;omega) (.ret _)
 ·exact ay (aX (by omega)).symm (.ret _)
def Ad:(al×Int)→Bool:=fun(m,c)=>isF m c
def acF:ax:=⟨[aR,yI], [.bool],(@tt (al×Int)),Ad⟩
theorem RD:Sd 244 acF:=aZ ap bR true 24 [] (fun A (m,n)=>aae A m n) (fc Tryz.func244 fz) sz fun(m,n) hp h=>is1
def ZR(A:aI)(m:al)(c:cy):LT Int Empty:=.need (A.k (@tt al) m) (.br (A.c .neq (A.k fX m) 0) (.ret (A.k fX m)) (.need (A.k (@tt ((Int×Int×Int×Int×Int)×Int)) (c,m.1)) (.br (A.c .neq (A.k pF (c,m.1)) 0) (.ret 40) (.need (A.k (@tt (al×Int)) (m,c.2.2.1)) (.br (A.not (A.k Ad (m,c.2.2.1))) (.ret 40) (.br (A.c .gtr c.2.2.2.1 (A.l m.2.2.2.2.2.2.2)) (.ret 40) (.ret 0)))))))
theorem ac2{m:al}{c:cy}:au Empty.elim (ZR ah m c) (iU m c):=by
 unfold ZR iU
 refine af.2 ⟨rfl,?_⟩
 rw[show ah.k fX m=lC m from rfl,lC]
 cases hm:du m
 ·exact(aj rfl).2 (.ret _)
 refine(ai rfl).2 (af.2 ⟨rfl,?_⟩)
 rw[show ah.k pF (c,m.1)=kJ (c,m.1) from rfl]
 by_cases h:kJ (c,m.1)=0
 ·have h0:=(qM h).2.2.2.1.1
  rw[dY,aK h]
  refine(ai (BU h)).2 (af.2 ⟨rfl,?_⟩)
  rw[show ah.k Ad (m,c.2.2.1)=decide (0≤c.2.2.1∧c.2.2.1<dw m) from rfl]
  by_cases h2:c.2.2.1<dw m
  ·rw[aK (show 0≤c.2.2.1∧c.2.2.1<dw m from⟨h0,h2⟩),aK h2]
   refine(ai rfl).2 (aB (p:=dw m<c.2.2.2.1) rfl (fun h3=>?_) fun h3=>?_)
   ·exact ay (by rw[aX (by omega)];rfl) (.ret _)
   ·exact ay (by rw[aK (by omega)];rfl) (.ret _)
  ·rw[aX (show ¬(0≤c.2.2.1∧c.2.2.1<dw m) from fun h=>h2 h.2),aX h2]
   exact(aj rfl).2 (.ret _)
 ·rw[dY,aX h]
  exact(aj (qy h)).2 (.ret _)
def uY:(al×cy)→Int:=fun(m,c)=>iU m c
def adP:ax:=⟨[aR,kK], [yI],(@tt (al×cy)),uY⟩
theorem Qw:Sd 185 adP:=aZ ap bR true 56 [] (fun A (m,c)=>ZR A m c) (fc Tryz.func185 fz) (sc E7 (sc CF (sc RD sz))) fun(m,c) hp h=>ac2
def YE(A:aI)(m:al)(c:cy)(mode:Int):LT Bool Empty:=.need (A.k (@tt (al×Int)) (m,mode)) (.br (A.k Ad (m,mode)) (.br (A.c .neq mode c.2.2.1) (.br (A.c .eql c.2.2.2.1 0) (.need (A.and (A.c .leq 0 c.2.2.1) (A.c .lss c.2.2.1 (A.l m.2.2.2.2.2.2.2))) (.need (A.and (A.c .leq 0 mode) (A.c .lss mode (A.l (A.n bW m.2.2.2.2.2.2.2 c.2.2.1:Mode).2.2))) (.ret (A.n .bool (A.n bW m.2.2.2.2.2.2.2 c.2.2.1:Mode).2.2 mode:Bool)))) (.ret false)) (.ret false)) (.ret false))
def qf(m:al)(c:cy)(k:Int):Bool:=decide (0≤k∧k<dw m)&&(decide (¬k=c.2.2.1)&&(decide (c.2.2.2.1=0)&&(ah.n .bool (ah.n bW m.2.2.2.2.2.2.2 c.2.2.1:Mode).2.2 k:Bool)))
theorem aU{a b:Int}:ah.c .neq a b=decide (¬a=b):=by rw[aT,Bool.eq_iff_iff];simp
theorem M8{R Y:Type}{step:Y→LT R Y}{m:al}{c:cy}{k:Int}{e:LT R Y}{r:R}{f:Bool→R}(h:iU m c=0)(hk:0≤k∧k<dw m)(hr:f (qf m c k)=r)(hf:f false=r→au step e r) :
  au step (.br (ah.c .neq k c.2.2.1) (.br (ah.c .eql c.2.2.2.1 0) (.need (ah.and (ah.c .leq 0 c.2.2.1) (ah.c .lss c.2.2.1 (ah.l m.2.2.2.2.2.2.2))) (.need (ah.and (ah.c .leq 0 k) (ah.c .lss k (ah.l (ah.n bW m.2.2.2.2.2.2.2 c.2.2.1:Mode).2.2))) (.ret (f (ah.n .bool (ah.n bW m.2.2.2.2.2.2.2 c.2.2.1:Mode).2.2 k:Bool))))) e) e) r:=by
 obtain⟨hm,_,hc,_⟩:=rN h
 rw[qf,aK hk,Bool.true_and] at hr
 refine aB (p:=¬k=c.2.2.1) aU (fun h1=>aB (p:=c.2.2.2.1=0) aN (fun h2=>af.2 ⟨rP hc.1 hc.2,af.2 ⟨rP hk.1 ?_,?_⟩⟩) fun h2=>hf ?_) fun h1=>hf ?_
 ·exact(oO (vC hm hc.1 hc.2)).2.2▸hk.2
 ·exact ay (by rw[←hr,aK h1,aK h2];rfl) (.ret _)
 ·rw[←hr,aX h2];cases decide (¬k=c.2.2.1)<;>rfl
 ·rw[←hr,aX h1];rfl
theorem ab5{m:al}{c:cy}{k:Int}(h:iU m c=0):au Empty.elim (YE ah m c k) (qf m c k):=by
 unfold YE
 refine af.2 ⟨rfl,?_⟩
 rw[show ah.k Ad (m,k)=decide (0≤k∧k<dw m) from rfl]
 by_cases hk:0≤k∧k<dw m
 ·exact(aj (aK hk)).2 (M8 (f:=id) h hk rfl fun e=>ay e (.ret _))
 ·exact(ai (aX hk)).2 (ay (by rw[qf,aX hk];rfl) (.ret _))
def Ou:(al×cy×Int)→Bool:=fun(m,c,k)=>qf m c k
def Nx:(al×cy×Int)→Bool:=fun(m,c,_)=>decide (iU m c=0)
def aeL:ax:=⟨[aR,kK,yI], [.bool],Nx,Ou⟩
theorem ab9:Sd 290 aeL:=aZ ap bR true 42 [] (fun A (m,c,mode)=>YE A m c mode) (fc Tryz.func290 fz) (sc RD sz) fun((m,c,mode):al×cy×Int) hp h=>ab5 (of_decide_eq_true hp)
structure QH where
 (a0:Int) (a2:al) (a3:cy) (a4:Int) (a5:al) (a6:cy) (a7:al) (a8:cy) (a9:Int) (cB:al) (da:Int) (a12:cy)
inductive UB where
 | c0 (p:QH) (a1:Int)
noncomputable def Zo:UB→eD
 | .c0 p a1=>⟨[⟨289,26,(en [(0,.yield 0),(1,.ptr 1 0),(2,.ptr 2 0),(11,vi p.a0),(12,vi a1)]),[.inLoop (cw Tryz.f289 [1,1,0,0]),.inBlock 0],[],none⟩,⟨186,16,(en [(6,.ptr 3 0)]),[.kw 0,.inBlock 0,.code (cw Tryz.f186 [1,1])],[4],none⟩],[.loop ⟨186,16,(en [(0,.agg (dc aR p.a2)),(1,.agg (dc kK p.a3)),(2,vi p.a4),(3,.ptr 5 0),(4,.ptr 7 0),(5,.ptr 6 0),(6,.ptr 3 0),(8,.agg (dc aR p.a5)),(9,.agg (dc kK p.a6)),(10,.fn 289 [] [.ptr 1 0,.ptr 2 0])]),[11],(cw Tryz.f186 [1,0,1,0,0]),(cw Tryz.f186 [1,0,1,0,1]),0,none⟩,.flat false (dc aR p.a7),.flat false (dc kK p.a8),.flat false [vi p.a9],.BZ,.flat false (dc aR p.cB),.flat false [vi p.da],.flat false (dc kK p.a12),.dead]⟩
def Y8(A:aI)(m:al)(c:cy)(mode:Int):LT Int UB:=.need (A.k (@tt (al×cy)) (m,c)) (.br (A.c .neq (A.k uY (m,c)) 0) (.ret (-1)) (.more (.c0 ⟨(A.l m.2.2.2.2.2.2.2),m,c,mode,m,c,m,c,0,m,mode,c⟩ 0)))
def Rh(A:aI):UB→LT Int UB
 | .c0 p a1=>.br (A.c .lss a1 p.a0) (.need (A.k Nx (p.a7,p.a8,a1)) (.br (A.k Ou (p.a7,p.a8,a1)) (.br (A.c .eql a1 p.da) (.ret a1) (.more (.c0 p (A.b .add .i64 a1 1)))) (.more (.c0 p (A.b .add .i64 a1 1))))) (.ret (-1))
def I_(m:al)(c:cy)(k:Int):Int:=bif decide (iU m c=0)&&qf m c k then k else -1
theorem R6{p:QH}{m:al}{c:cy}{k:Int}(h0:p.a0=dw m)(h7:p.a7=m)(h8:p.a8=c)(h11:p.da=k)(h:iU m c=0):∀(j i:Nat),m.2.2.2.2.2.2.2.length-i=j→i≤m.2.2.2.2.2.2.2.length→au (Rh ah) (.more (.c0 p (i:Int))) (bif decide ((i:Int)≤k)&&qf m c k then k else -1):=by
 have hl:=(cY (rN h).1).2.1
 unfold dw at hl h0
 intro j
 induction j with
 | zero=>
   intro i hj hi
   rw[ak,Rh,h0]
   refine(ai (by rw[ar];exact aX (by omega))).2 (ay ?_ (.ret _))
   by_cases hk:(i:Int)≤k
   ·rw[qf,aX (show ¬(0≤k∧k<dw m) by unfold dw;omega),Bool.false_and,Bool.and_false];rfl
   ·rw[aX hk];rfl
 | succ j ih=>
   intro i hj hi
   rw[ak,Rh,h0,h7,h8,h11]
   refine(aj (by rw[ar];exact aK (by omega))).2 (af.2 ⟨by rw[aA];exact aK h,?_⟩)
   rw[show ah.k Ou (m,c,(i:Int))=qf m c i from rfl,bU (i:=i) (by omega)]
   have hn:=ih (i+1) (by omega) (by omega)
   cases hm:qf m c i
   ·refine(ai rfl).2 (ay ?_ hn)
    by_cases hk:(i:Int)=k
    ·rw[←hk,hm,Bool.and_false,Bool.and_false]
    ·rw[show decide (((i+1:Nat):Int)≤k)=decide ((i:Int)≤k) by rw[Bool.eq_iff_iff];simp;omega]
   ·refine(aj rfl).2 (aB (p:=(i:Int)=k) aN (fun hk=>?_) fun hk=>?_)
    ·exact ay (by rw[←hk,hm,aK (Int.le_refl _)];rfl) (.ret _)
    ·exact ay (by rw[show decide (((i+1:Nat):Int)≤k)=decide ((i:Int)≤k) by rw[Bool.eq_iff_iff];simp;omega]) hn
theorem ahP{m:al}{c:cy}{k:Int}:au (Rh ah) (Y8 ah m c k) (I_ m c k):=by
 unfold Y8 I_
 refine af.2 ⟨rfl,?_⟩
 rw[show ah.k uY (m,c)=iU m c from rfl]
 by_cases h:iU m c=0
 ·rw[aK h]
  refine(ai (BU h)).2 (ay ?_ (R6 (p:=⟨dw m,m,c,k,m,c,m,c,0,m,k,c⟩) (k:=k) rfl rfl rfl rfl h m.2.2.2.2.2.2.2.length 0 rfl (by omega)))
  by_cases hk:0≤k
  ·rw[show decide (((0:Nat):Int)≤k)=true from aK hk]
  ·rw[qf,aX (show ¬(0≤k∧k<dw m) by omega),Bool.false_and,Bool.and_false,Bool.and_false]
 ·rw[aX h]
  exact(aj (qy h)).2 (.ret _)
def F3:(al×cy×Int)→Int:=fun(m,c,k)=>I_ m c k
def afL:ax:=⟨[aR,kK,yI], [yI],(@tt (al×cy×Int)),F3⟩
theorem WH:Sd 186 afL:=aP ap bR true 53 [⟨289,2, [[0,1,2,11,12], [6]]⟩] [] (fun A (m,c,mode)=>Y8 A m c mode) Rh Zo (fc Tryz.func186 (fc Tryz.func245 (fc Tryz.func289 fz))) (sc Qw (sc ab9 sz)) (fun A y=>match y with |.c0 p a1=>⟨55,by kernel_rfl,by kernel_rfl⟩) fun(m,c,mode) hp h=>ahP
abbrev Nr(A:aI)(m:al)(c:cy)(want:Int):LT (Int×Int) Empty:=(.br (A.c .lss want 0) (.ret (0,0)) (.need (A.k (@tt (al×cy×Int)) (m,c,want)) (.ret ((A.b .add .i64 (A.k F3 (m,c,want)) 1),0))))
def aao(A:aI)(m:al)(c:cy)(want:Int):LT (Int×Int) Empty:=.need (A.k (@tt (al×cy)) (m,c)) (.br (A.c .neq (A.k uY (m,c)) 0) (.ret (0,(A.k uY (m,c)))) (.br (A.c .neq want (-1)) (.need (A.k (@tt (al×Int)) (m,want)) (.br (A.not (A.k Ad (m,want))) (.ret (0,100)) (Nr A m c want))) (Nr A m c want)))
def Az(m:al)(c:cy)(w:Int):Int×Int:=bif decide (iU m c=0) then(bif decide (-1≤w∧w<dw m) then(bif qf m c w then(w+1,0) else(0,0)) else(0,100)) else(0,iU m c)
theorem XH{m:al}{c:cy}{w:Int}(h:¬(0≤w∧w<dw m)):qf m c w=false:=by rw[qf,aX h];rfl
theorem afK{m:al}{c:cy}{w:Int}:au Empty.elim (aao ah m c w) (Az m c w):=by
 unfold aao Nr Az
 refine af.2 ⟨rfl,?_⟩
 rw[show ah.k uY (m,c)=iU m c from rfl,show ah.k Ad (m,w)=decide (0≤w∧w<dw m) from rfl,show ah.k F3 (m,c,w)=I_ m c w from rfl]
 by_cases h:iU m c=0
 ·have hl:=(cY (rN h).1).2.1
  rw[aK h]
  refine(ai (BU h)).2 (aB (p:=¬w = -1) aU (fun h1=>af.2 ⟨rfl,?_⟩) fun h1=>?_)
  ·by_cases h2:0≤w∧w<dw m
   ·rw[aK h2,aK (show -1≤w∧w<dw m by omega)]
    refine(ai rfl).2 ((ai (by rw[ar];exact aX (by omega))).2 (af.2 ⟨rfl,ay ?_ (.ret _)⟩))
    rw[I_,aK h]
    cases qf m c w
    ·rfl
    ·rw[Bool.true_and,cond_true,cond_true,cond_true,cond_true,ck,iZ (by omega) (by omega)]
   ·rw[aX h2,aX (show ¬(-1≤w∧w<dw m) by omega)]
    exact(aj rfl).2 (.ret _)
  ·have h2:w = -1:=by omega
   subst h2
   rw[XH (by omega),aK (show(-1:Int)≤ -1∧ -1<dw m by omega)]
   exact(aj rfl).2 (.ret _)
 ·rw[aX h]
  exact(aj (qy h)).2 (.ret _)
def Gz:(al×cy×Int)→(Int×Int):=fun(m,c,k)=>Az m c k
def ahy:ax:=⟨[aR,kK,yI], [yI,yI],(@tt (al×cy×Int)),Gz⟩
theorem aeB:Sd 328 ahy:=aZ ap bR true 60 [] (fun A (m,c,want)=>aao A m c want) (fc Tryz.func328 fz) (sc Qw (sc WH (sc RD sz))) fun(m,c,want) hp h=>afK
def Zy(A:aI)(m:al)(c:cy)(req:Int):LT (cy×Int) Empty:=.need (A.k (@tt (al×cy)) (m,c)) (.br (A.c .neq (A.k uY (m,c)) 0) (.ret ((0,0,0,0,0),(A.k uY (m,c)))) (.br (A.c .lss req 0) (.ret ((0,0,0,0,0),100)) (.br (A.c .gtr req (A.l m.2.2.2.2.2.2.2)) (.ret ((0,0,0,0,0),100)) (.br (A.c .gtr req 0) (.need (A.k (@tt (al×cy×Int)) (m,c,(A.b .sub .i64 req 1))) (.br (A.c .geq (A.k F3 (m,c,(A.b .sub .i64 req 1))) 0) (.ret ((c.1,c.2.1,c.2.2.1,req,c.2.2.2.2),0)) (.ret (c,0)))) (.ret (c,0))))))
def xS(m:al)(c:cy)(r:Int):cy×Int:=bif decide (iU m c=0) then(bif decide (0≤r∧r≤dw m) then(bif decide (0<r)&&qf m c (r-1) then((c.1,c.2.1,c.2.2.1,r,c.2.2.2.2),0) else(c,0)) else((0,0,0,0,0),100)) else((0,0,0,0,0),iU m c)
theorem ajq{m:al}{c:cy}{r:Int}:au Empty.elim (Zy ah m c r) (xS m c r):=by
 unfold Zy xS
 refine af.2 ⟨rfl,?_⟩
 rw[show ah.k uY (m,c)=iU m c from rfl,show ah.k F3 (m,c,(ah.b .sub .i64 r 1))=I_ m c (ah.b .sub .i64 r 1) from rfl]
 by_cases h:iU m c=0
 ·have hl:=(cY (rN h).1).2.1
  rw[aK h]
  refine(ai (BU h)).2 (aB (p:=r<0) rfl (fun h1=>?_) fun h1=>aB (p:=dw m<r) rfl (fun h2=>?_) fun h2=>?_)
  ·exact ay (by rw[aX (by omega)];rfl) (.ret _)
  ·exact ay (by rw[aX (by omega)];rfl) (.ret _)
  ·rw[aK (show 0≤r∧r≤dw m by omega),cu,iZ (by omega) (by omega)]
   refine aB (p:=0<r) rfl (fun h3=>af.2 ⟨rfl,?_⟩) fun h3=>?_
   ·rw[aK h3,I_,aK h,Bool.true_and]
    cases hm:qf m c (r-1)
    ·exact(ai rfl).2 (.ret _)
    ·exact(aj (by rw[cond_true,bZ];exact aK (by omega))).2 (.ret _)
   ·exact ay (by rw[aX h3];rfl) (.ret _)
 ·rw[aX h]
  exact(aj (qy h)).2 (.ret _)
def qF:(al×cy×Int)→(cy×Int):=fun(m,c,k)=>xS m c k
def adO:ax:=⟨[aR,kK,yI], [kK,yI],(@tt (al×cy×Int)),qF⟩
theorem QL:Sd 111 adO:=aZ ap bR true 69 [] (fun A (m,c,req)=>Zy A m c req) (fc Tryz.func111 fz) (sc Qw (sc WH sz)) fun(m,c,req) hp h=>ajq
def aaM(A:aI)(m:al)(node:Int):LT Int Empty:=.need (A.k (@tt al) m) (.br (A.c .neq (A.k fX m) 0) (.ret (A.k fX m)) (.need (A.k (@tt (Int×Int×Int)) (node,0,(A.b .sub .i64 m.1 1))) (.br (A.not (A.k fO (node,0,(A.b .sub .i64 m.1 1)))) (.ret 2) (.ret 0))))
theorem rz{α:Type}{l:List α}{i n:Int}(e:(l.length:Int)=n)(h0:0≤i)(h1:i<n):ah.and (ah.c .leq 0 i) (ah.c .lss i (ah.l l))=true:=rP h0 (e▸h1)
def jJ(m:al)(n:Int):Int:=bif du m then(bif decide (0≤n∧n≤m.1-1) then 0 else 2) else 70
theorem Dd{m:al}{n:Int}(h:jJ m n=0):du m=true∧0≤n∧n≤m.1-1:=by
 unfold jJ at h
 cases hm:du m
 ·rw[hm,cond_false] at h;exact absurd h (by decide)
 ·by_cases hn:0≤n∧n≤m.1-1
  ·exact⟨rfl,hn⟩
  ·rw[hm,aX hn,cond_true,cond_false] at h;exact absurd h (by decide)
theorem abv{m:al}{n:Int}:au Empty.elim (aaM ah m n) (jJ m n):=by
 unfold aaM jJ
 refine af.2 ⟨rfl,?_⟩
 rw[show ah.k fX m=lC m from rfl,lC]
 cases hm:du m
 ·exact(aj rfl).2 (.ret _)
 have hl:=(cY hm).1
 rw[cu,iZ (by omega) (by omega)]
 refine(ai rfl).2 (af.2 ⟨rfl,dW (fun h=>?_) fun h=>?_⟩)
 ·exact ay (by rw[aX h];rfl) (.ret _)
 ·exact ay (by rw[aK h];rfl) (.ret _)
def Dl:(al×Int)→Int:=fun(m,n)=>jJ m n
def agY:ax:=⟨[aR,yI], [yI],(@tt (al×Int)),Dl⟩
theorem W3:Sd 181 agY:=aZ ap bR true 41 [] (fun A (m,node)=>aaM A m node) (fc Tryz.func181 fz) (sc CF (sc G1 sz)) fun(m,node) hp h=>abv
def Z5(A:aI)(m:al)(node:Int):LT (Int×Int) Empty:=.need (A.k (@tt (al×Int)) (m,node)) (.br (A.c .neq (A.k Dl (m,node)) 0) (.ret (0,(A.k Dl (m,node)))) (.ret ((A.b .mul .i64 2 (A.b .add .i64 node 1)),0)))
def Cm(m:al)(n:Int):Int×Int:=bif decide (jJ m n=0) then((ah.b .mul .i64 2 (ah.b .add .i64 n 1)),0) else(0,jJ m n)
theorem ag4{m:al}{n:Int}:au Empty.elim (Z5 ah m n) (Cm m n):=by
 unfold Z5 Cm
 refine af.2 ⟨rfl,aB (p:=¬jJ m n=0) aU (fun h=>?_) fun h=>?_⟩
 ·exact ay (by rw[aX h];rfl) (.ret _)
 ·exact ay (by rw[aK (by omega)];rfl) (.ret _)
def DC:(al×Int)→(Int×Int):=fun(m,n)=>Cm m n
def ag1:ax:=⟨[aR,yI], [yI,yI],(@tt (al×Int)),DC⟩
theorem Wt:Sd 175 ag1:=aZ ap bR true 35 [] (fun A (m,node)=>Z5 A m node) (fc Tryz.func175 fz) (sc W3 sz) fun(m,node) hp h=>ag4
def o8(m:al)(n:Int):Int×Int:=bif decide (jJ m n=0) then((ah.b .add .i64 (ah.b .mul .i64 4 m.1) (ah.b .mul .i64 2 (ah.b .add .i64 n 1))),0) else(0,jJ m n)
def Xv(A:aI)(m:al)(node:Int):LT (Int×Int) Empty:=.need (A.k (@tt (al×Int)) (m,node)) (.br (A.c .neq (A.k DC (m,node)).2 0) (.ret (0,(A.k DC (m,node)).2)) (.ret ((A.b .add .i64 (A.b .mul .i64 4 m.1) (A.k DC (m,node)).1),0)))
theorem aht{m:al}{n:Int}:au Empty.elim (Xv ah m n) (o8 m n):=by
 unfold Xv o8
 refine af.2 ⟨rfl,?_⟩
 rw[show ah.k DC (m,n)=Cm m n from rfl,Cm]
 by_cases h:jJ m n=0
 ·rw[aK h];exact(ai rfl).2 (.ret _)
 ·rw[aX h];exact(aj (qy h)).2 (.ret _)
def WB:(al×Int)→(Int×Int):=fun(m,n)=>o8 m n
def ae9:ax:=⟨[aR,yI], [yI,yI],(@tt (al×Int)),WB⟩
theorem af6:Sd 100 ae9:=aZ ap bR true 41 [] (fun A (m,node)=>Xv A m node) (fc Tryz.func100 fz) (sc Wt sz) fun(m,node) hp h=>aht
abbrev Bj(A:aI)(m:al)(mode:Int):=(A.n bW m.2.2.2.2.2.2.2 mode:Mode)
def aaC(A:aI)(m:al)(mode:Int)(node:Int):LT (Int×Int) Empty:=.need (A.k (@tt (al×Int)) (m,node)) (.br (A.c .neq (A.k Dl (m,node)) 0) (.ret (0,(A.k Dl (m,node)))) (.need (A.k (@tt (Int×Int×Int)) (mode,0,(A.b .sub .i64 (A.l m.2.2.2.2.2.2.2) 1))) (.br (A.not (A.k fO (mode,0,(A.b .sub .i64 (A.l m.2.2.2.2.2.2.2) 1)))) (.ret (0,2)) (.need (A.and (A.c .leq 0 mode) (A.c .lss mode (A.l m.2.2.2.2.2.2.2))) (.need (A.and (A.c .leq 0 node) (A.c .lss node (A.l (Bj A m mode).2.1))) (.need (A.and (A.c .leq 0 node) (A.c .lss node (A.l (Bj A m mode).1))) (.need (A.k (@tt (Bool×Int)) ((A.n .bool (Bj A m mode).2.1 node:Bool),(A.n yI (Bj A m mode).1 node:Int))) (.ret ((A.k mm ((A.n .bool (Bj A m mode).2.1 node:Bool),(A.n yI (Bj A m mode).1 node:Int))),0)))))))))
def fV(m:al)(k n:Int):Int×Int:=bif decide (jJ m n=0) then(bif decide (0≤k∧k≤dw m-1) then(mm ((ah.n .bool (ah.n bW m.2.2.2.2.2.2.2 k:Mode).2.1 n:Bool),(ah.n (.int .i64) (ah.n bW m.2.2.2.2.2.2.2 k:Mode).1 n:Int)),0) else(0,2)) else(0,jJ m n)
theorem X6{m:al}{k n:Int}:au Empty.elim (aaC ah m k n) (fV m k n):=by
 unfold aaC Bj fV
 refine af.2 ⟨rfl,?_⟩
 rw[show ah.k Dl (m,n)=jJ m n from rfl]
 by_cases h:jJ m n=0
 ·obtain⟨hm,h1,h2⟩:=Dd h
  have hl:=(cY hm).2.1
  rw[aK h]
  have e:ah.b .sub .i64 (dw m) 1=dw m-1:=by rw[cu,iZ (by omega) (by omega)]
  rw[show ah.b .sub .i64 (ah.l m.2.2.2.2.2.2.2) 1=dw m-1 from e]
  refine(ai (BU h)).2 (af.2 ⟨rfl,dW (fun h3=>?_) fun h3=>?_⟩)
  ·exact ay (by rw[aX h3];rfl) (.ret _)
  ·have hx:=oO (vC hm h3.1 (show k<dw m by omega))
   refine af.2 ⟨rP h3.1 (show k<dw m by omega),af.2 ⟨rz hx.2.1 h1 (by omega),af.2 ⟨rz hx.1 h1 (by omega),af.2 ⟨rfl,?_⟩⟩⟩⟩
   exact ay (by rw[aK h3];rfl) (.ret _)
 ·rw[aX h];exact(aj (qy h)).2 (.ret _)
def sT:(al×Int×Int)→(Int×Int):=fun(m,c,k)=>fV m c k
def af_:ax:=⟨[aR,yI,yI], [yI,yI],(@tt (al×Int×Int)),sT⟩
theorem WA:Sd 106 af_:=aZ ap bR true 66 [] (fun A (m,mode,node)=>aaC A m mode node) (fc Tryz.func106 fz) (sc G1 (sc V_ (sc W3 sz))) fun(m,mode,node) hp h=>X6
def XE(A:aI)(c:cy)(n:Int):LT (cy×Int) Empty:=.need (A.k (@tt ((Int×Int×Int×Int×Int)×Int)) (c,n)) (.br (A.c .neq (A.k pF (c,n)) 0) (.ret ((0,0,0,0,0),(A.k pF (c,n)))) (.br (A.c .eql (A.b .add .i64 c.2.1 1) n) (.br (A.c .neq c.2.2.2.1 0) (.ret (((A.b .and .i64 (A.b .add .i64 c.1 1) 255),0,(A.b .sub .i64 c.2.2.2.1 1),0,c.2.2.2.2),0)) (.ret (((A.b .and .i64 (A.b .add .i64 c.1 1) 255),0,c.2.2),0))) (.ret ((c.1,(A.b .add .i64 c.2.1 1),c.2.2),0))))
theorem Zs:∀k:Fin 256,ah.b .and .i64 ((k.val:Int)+1) 255=((k.val:Int)+1).tmod 256:=by decide +kernel
def kF(c:cy)(n:Int):cy×Int:=bif decide (kJ (c,n)=0) then(bif decide (c.2.1+1=n) then(bif decide (c.2.2.2.1=0) then(((c.1+1).tmod 256,0,c.2.2),0) else(((c.1+1).tmod 256,0,c.2.2.2.1-1,0,c.2.2.2.2),0)) else((c.1,c.2.1+1,c.2.2),0)) else((0,0,0,0,0),kJ (c,n))
theorem abj{c:cy}{n:Int}:au Empty.elim (XE ah c n) (kF c n):=by
 unfold XE kF
 refine af.2 ⟨rfl,?_⟩
 rw[show ah.k pF (c,n)=kJ (c,n) from rfl]
 by_cases h:kJ (c,n)=0
 ·obtain⟨h1,h2,h3,h4,h5,h6⟩:=qM h
  have e1:ah.b .add .i64 c.1 1=c.1+1:=by rw[ck,iZ (by omega) (by omega)]
  have e2:ah.b .add .i64 c.2.1 1=c.2.1+1:=by rw[ck,iZ (by omega) (by omega)]
  have e3:ah.b .sub .i64 c.2.2.2.1 1=c.2.2.2.1-1:=by rw[cu,iZ (by omega) (by omega)]
  have e4:ah.b .and .i64 (c.1+1) 255=(c.1+1).tmod 256:=by
   have:=Zs ⟨c.1.toNat,by omega⟩
   rwa [show((c.1.toNat:Nat):Int)=c.1 from Int.toNat_of_nonneg h2.1] at this
  rw[aK h,e1,e2,e3,e4]
  refine(ai (BU h)).2 (aB (p:=c.2.1+1=n) aN (fun h=>aB (p:=¬c.2.2.2.1=0) aU (fun g=>?_) fun g=>?_) fun h=>?_)
  ·exact ay (by rw[aK h,aX g];rfl) (.ret _)
  ·exact ay (by rw[aK h,aK (by omega)];rfl) (.ret _)
  ·exact ay (by rw[aX h];rfl) (.ret _)
 ·rw[aX h];exact(aj (qy h)).2 (.ret _)
def WV:(cy×Int)→(cy×Int):=fun(m,c)=>kF m c
def aes:ax:=⟨[kK,yI], [kK,yI],(@tt (cy×Int)),WV⟩
theorem agC:Sd 56 aes:=aZ ap bR true 80 [] (fun A (c,n)=>XE A c n) (fc Tryz.func56 fz) (sc E7 sz) fun(c,n) hp h=>abj
def ZN(A:aI)(node:Int):LT Int Empty:=.br (A.c .lss node 0) (.ret 0) (.br (A.c .geq node 8) (.ret 0) (.need (A.c .leq 0 node) (.ret (A.b .shl .i64 1 node))))
def MU(n:Int):Int:=bif decide (0≤n∧n≤7) then ah.b .shl .i64 1 n else 0
theorem ahK{n:Int}:au Empty.elim (ZN ah n) (MU n):=by
 unfold ZN MU
 refine aB (p:=n<0) rfl (fun h=>?_) fun h1=>aB (p:=8≤n) rfl (fun h=>?_) fun h2=>af.2 ⟨aK (by omega),?_⟩
 ·exact ay (by rw[aX (by omega)];rfl) (.ret _)
 ·exact ay (by rw[aX (by omega)];rfl) (.ret _)
 ·exact ay (by rw[aK (by omega)];rfl) (.ret _)
def QE:Int→Int:=MU
def aeD:ax:=⟨[yI], [yI],(@tt Int),QE⟩
theorem abX:Sd 228 aeD:=aZ ap bR true 28 [] (fun A node=>ZN A node) (fc Tryz.func228 fz) sz fun node hp h=>ahK
def XD(A:aI)(c:cy)(node:Int):LT Bool Empty:=.need (A.k (@tt Int) node) (.ret (A.c .neq (A.b .and .i64 c.2.2.2.2 (A.k QE node)) 0))
theorem ahZ{x:Int}:ah.b .and .i64 x 0=0:=by
 show IntKind.i64.wrap (((BitVec.ofInt 64 x &&& BitVec.ofInt 64 0).toNat:Nat):Int)=0
 rw[show BitVec.ofInt 64 0=0#64 from rfl,BitVec.and_zero];rfl
def Mv(c:cy)(n:Int):Bool:=bif decide (0≤n∧n≤7) then ah.c .neq (ah.b .and .i64 c.2.2.2.2 (ah.b .shl .i64 1 n)) 0 else false
theorem ae3{c:cy}{n:Int}:au Empty.elim (XD ah c n) (Mv c n):=by
 unfold XD Mv
 refine af.2 ⟨rfl,ay ?_ (.ret _)⟩
 rw[show ah.k QE n=MU n from rfl,MU]
 cases decide (0≤n∧n≤7)
 ·rw[cond_false,cond_false,ahZ];rfl
 ·rfl
def Ry:(cy×Int)→Bool:=fun(m,c)=>Mv m c
def acV:ax:=⟨[kK,yI], [.bool],(@tt (cy×Int)),Ry⟩
theorem adu:Sd 164 acV:=aZ ap bR true 21 [] (fun A (c,node)=>XD A c node) (fc Tryz.func164 fz) (sc abX sz) fun(c,node) hp h=>ae3
def Ut(A:aI)(m:al)(id:Int):LT Int Empty:=.need (A.k (@tt (al×Int)) (m,id)) (.ret (A.k WB (m,id)).1)
def vp:(al×Int)→Int:=fun(m,id)=>(Ut ah m id).val (Ty.bi [yI])
def ab1:ax:=⟨[aR,yI], [yI],(@tt (al×Int)),vp⟩
theorem GK:Sd 47 ab1:=aH ap bR true 27 [] (fun A (m,id)=>Ut A m id) (fc Tryz.func47 fz) (sc af6 sz) (fun((m,id):al×Int) hp h=>by
 show(Ut ah m id).pre=true
 simp[Ut,LT.pre,aA,dU])
def TR(A:aI)(m:al)(id:Int):LT Int Empty:=.need (A.k (@tt (al×Int)) (m,id)) (.ret (A.k DC (m,id)).1)
def MO:(al×Int)→Int:=fun(m,id)=>(TR ah m id).val (Ty.bi [yI])
def aho:ax:=⟨[aR,yI], [yI],(@tt (al×Int)),MO⟩
theorem afB:Sd 295 aho:=aH ap bR true 27 [] (fun A (m,id)=>TR A m id) (fc Tryz.func295 fz) (sc Wt sz) (fun((m,id):al×Int) hp h=>by
 show(TR ah m id).pre=true
 simp[TR,LT.pre,aA,dU])
def TC(A:aI)(n:Int)(least:Int)(most:Int):LT Bool Empty:=.br (A.c .geq n least) (.ret (A.c .leq n most)) (.ret false)
def uL:(Int×Int×Int)→Bool:=fun(n,least,most)=>(TC ah n least most).val (Ty.bi [.bool])
def afS:ax:=⟨[yI,yI,yI], [.bool],(@tt (Int×Int×Int)),uL⟩
theorem KF:Sd 43 afS:=aH ap bR true 22 [] (fun A (n,least,most)=>TC A n least most) (fc Tryz.func43 fz) sz (fun((n,least,most):Int×Int×Int) hp h=>by
 show(TC ah n least most).pre=true
 simp[TC,LT.pre,aA,dU])
def abu(A:aI)(n:Node):LT Bool Empty:=.need (A.k (@tt (Int×Int×Int)) (n.2.1,2,4)) (.ret (A.k uL (n.2.1,2,4)))
theorem He:uL=fO:=rfl
def jZ(n:Node):Bool:=decide (2≤n.2.1∧n.2.1≤4)
theorem aij{n:Node}:au Empty.elim (abu ah n) (jZ n):=by
 unfold abu jZ
 exact af.2 ⟨rfl,ay (by rw[He,aA,mH,Bool.eq_iff_iff];simp) (.ret _)⟩
def fB:Node→Bool:=jZ
def ahb:ax:=⟨[aF], [.bool],(@tt Node),fB⟩
theorem sL:Sd 13 ahb:=aZ ap bR true 18 [] (fun A n=>abu A n) (fc Tryz.func13 fz) (sc KF sz) fun n hp h=>aij
def KJ(c:cy):Bool:=ah.and (ah.c .eql c.1 0) (ah.and (ah.c .eql c.2.1 0) (ah.and (ah.c .eql c.2.2.1 0) (ah.and (ah.c .eql c.2.2.2.1 0) (ah.and (ah.c .eql c.2.2.2.2 0) true))))
def zeroV(v:mj):Bool:=ah.and (ah.c .eql v.1 0) (ah.and (ah.c .eql v.2.1 0) (ah.and (ah.c .eql v.2.2.1 0) (ah.and (ah.c .eql v.2.2.2.1 0) (ah.and (ah.c .eql v.2.2.2.2.1 0) (ah.and (ah.c .eql v.2.2.2.2.2.1 0) (ah.and (ah.c .eql v.2.2.2.2.2.2 0) true))))))
def tg(m:al)(n:Node):Bool:=bif jZ n then(dY m n.2.2.1&&(decide (oI n.2.2.2.1=0)&&(decide (n.2.2.2.1.1=n.1)&&(decide (n.2.2.2.1.2.1=m.1)&&decide (n.2.2.1.2.2.2.2=n.2.2.2.1.2.2.1))))) else(KJ n.2.2.1&&zeroV n.2.2.2.1)
def wu(m:al)(n:Node):Bool:=bif decide (n.2.1=1) then decide (1≤n.2.2.2.2.1∧n.2.2.2.2.1≤(o8 m n.1).1) else decide (n.2.2.2.2.1=0)
def ES(m:al)(n:Node):Bool:=bif decide (n.2.1=2) then(ah.n .bool m.2.2.2.2.2.2.1 n.1:Bool) else true
def xX(n:Node):Bool:=bif n.2.2.2.2.2.1 then decide (n.2.1=1∨n.2.1=2) else true
def Hy(m:al)(n:Node):Bool:=decide (0≤n.1∧n.1≤m.1-1)&&(decide (0≤n.2.1∧n.2.1≤5)&&(decide (0≤n.2.2.2.2.2.2.1∧n.2.2.2.2.2.2.1≤2)&&(dK n.2.2.2.2.2.2.2&&(decide (n.2.2.2.2.2.2.2.1=n.1)&&(decide ((n.2.2.2.2.2.2.2.2.2.1.length:Int)=m.1)&&(ES m n&&(tg m n&&(wu m n&&xX n))))))))
def bo(m:al)(n:Node):Int:=bif du m then(bif Hy m n then 0 else 180) else 70
theorem bT{m:al}{n:Node}:Hy m n=true↔(0≤n.1∧n.1≤m.1-1)∧(0≤n.2.1∧n.2.1≤5)∧(0≤n.2.2.2.2.2.2.1∧n.2.2.2.2.2.2.1≤2)∧dK n.2.2.2.2.2.2.2=true∧n.2.2.2.2.2.2.2.1=n.1∧(n.2.2.2.2.2.2.2.2.2.1.length:Int)=m.1∧ES m n=true∧tg m n=true∧wu m n=true∧xX n=true:=by
 unfold Hy;simp only[cd,jV]
theorem a_{m:al}{n:Node}(h:bo m n=0):du m=true∧Hy m n=true:=by
 unfold bo at h
 cases hm:du m
 ·rw[hm,cond_false] at h;exact absurd h (by decide)
 ·cases hn:Hy m n
  ·rw[hm,hn,cond_true,cond_false] at h;exact absurd h (by decide)
  ·exact⟨rfl,rfl⟩
section
variable {R Y:Type} {step:Y→LT R Y} {e:LT R Y} {x y:R} {G:Bool}
theorem pu{p:Prop}[Decidable p]{b:Bool}(hb:b=decide p)(h:G=true→¬p)(he:¬p→au step e (bif G then x else y)):au step (.br b (.ret y) e) (bif G then x else y):=by
 refine aB hb (fun hp=>?_) he
 cases G
 ·exact .ret _
 ·exact absurd hp (h rfl)
theorem yE{b:Bool}(h:G=true→b=true)(he:b=true→au step e (bif G then x else y)):au step (.br (ah.not b) (.ret y) e) (bif G then x else y):=by
 cases b
 ·cases G
  ·exact(aj rfl).2 (.ret _)
  ·exact absurd (h rfl) (by decide)
 ·exact(ai rfl).2 (he rfl)
theorem yv{u a b:Int}(h:G=true→a≤u∧u≤b)(he:a≤u∧u≤b→au step e (bif G then x else y)):au step (.br (ah.not (ah.k fO (u,a,b))) (.ret y) e) (bif G then x else y):=by
 refine dW (fun hp=>?_) he
 cases G
 ·exact .ret _
 ·exact absurd (h rfl) hp
theorem Fb(h:G=true):au step (.ret x) (bif G then x else y):=ay (by rw[h];rfl) (.ret _)
end
theorem aet{Y:Type}{step:Y→LT Int Y}{n:Node}{G:Bool}(h1:G=true→xX n=true)(h2:xX n=true→G=true):au step (.br n.2.2.2.2.2.1 (.br (ah.c .neq n.2.1 1) (.br (ah.c .neq n.2.1 2) (.ret 180) (.ret 0)) (.ret 0)) (.ret 0)) (bif G then 0 else 180):=by
 unfold xX at h1 h2
 cases hb:n.2.2.2.2.2.1
 ·rw[hb] at h1 h2
  exact(ai rfl).2 (Fb (h2 rfl))
 ·rw[hb] at h1 h2
  simp only[cond_true,jV] at h1 h2
  refine(aj rfl).2 (aB (p:=¬n.2.1=1) aU (fun h=>pu (p:=¬n.2.1=2) aU (fun g=>?_) fun g=>?_) fun h=>?_)
  ·have:=h1 g;omega
  ·exact Fb (h2 (by omega))
  ·exact Fb (h2 (by omega))
theorem Xb{R Y:Type}{step:Y→LT R Y}{m:al}{n:Node}{G:Bool}{e:LT R Y}{x y:R}(hm:du m=true)(hi:0≤n.1∧n.1≤m.1-1)(h1:G=true→ES m n=true)(h2:ES m n=true→au step e (bif G then x else y)) :
  au step (.br (ah.c .eql n.2.1 2) (.need (ah.and (ah.c .leq 0 n.1) (ah.c .lss n.1 (ah.l m.2.2.2.2.2.2.1))) (.br (ah.not (ah.n .bool m.2.2.2.2.2.2.1 n.1:Bool)) (.ret y) e)) e) (bif G then x else y):=by
 unfold ES at h1 h2
 refine aB (p:=n.2.1=2) aN (fun h=>af.2 ⟨rz (cY hm).2.2.1 hi.1 (by omega),?_⟩) fun h=>?_
 ·rw[aK h] at h1 h2
  exact yE h1 h2
 ·rw[aX h] at h2
  exact h2 rfl
structure Po where
 (a0:al) (a1:Node)
structure ZM where
 (b0:al) (b1:Node)
structure aaE where
 (c0:Node)
inductive VC where
 | c0 (p:Po)
 | c1 (p:ZM)
 | c2 (p:aaE)
noncomputable def X8:VC→eD
 | .c0 p=>⟨[⟨12,160,(en [(2,.ptr 0 0),(3,.ptr 1 0)]),[.code (cw Tryz.f12 [1,1,1,0,0,0,0,0,0,0,0,0,1,0,0]),.code (cw Tryz.f12 [1,1,1,0,0,0,0,0,0,0,0,0,1,0,1]),.code (cw Tryz.f12 [1,1,1,0,0,0,0,0,0,0,0,0,1,1]),.code (.exit 3),.inBlock 4,.inBlock 5,.inBlock 6,.inBlock 7,.inBlock 8,.code (cw Tryz.f12 [1,1,1,0,0,1]),.inBlock 3,.code (cw Tryz.f12 [1,1,1,1])],[],none⟩],[.flat false (dc aR p.a0),.flat false (dc aF p.a1),.dead]⟩
 | .c1 p=>⟨[⟨12,160,(en [(2,.ptr 0 0),(3,.ptr 1 0)]),[.code (cw Tryz.f12 [1,1,1,0,0,0,0,0,0,0,0,0,1,1,1,0,0]),.code (cw Tryz.f12 [1,1,1,0,0,0,0,0,0,0,0,0,1,1,1,0,1]),.code (cw Tryz.f12 [1,1,1,0,0,0,0,0,0,0,0,0,1,1,1,1]),.code (.exit 3),.inBlock 4,.inBlock 5,.inBlock 6,.inBlock 7,.inBlock 8,.code (cw Tryz.f12 [1,1,1,0,0,1]),.inBlock 3,.code (cw Tryz.f12 [1,1,1,1])],[],none⟩],[.flat false (dc aR p.b0),.flat false (dc aF p.b1),.dead]⟩
 | .c2 p=>⟨[⟨12,160,(en [(3,.ptr 0 0)]),[.code (cw Tryz.f12 [1,1,1,0,0,0,0,0,0,0,0,0,1,1,1,1,0]),.code (cw Tryz.f12 [1,1,1,0,0,0,0,0,0,0,0,0,1,1,1,1,1]),.code (.exit 3),.inBlock 4,.inBlock 5,.inBlock 6,.inBlock 7,.inBlock 8,.code (cw Tryz.f12 [1,1,1,0,0,1]),.inBlock 3,.code (cw Tryz.f12 [1,1,1,1])],[],none⟩],[.flat false (dc aF p.c0),.dead]⟩
def YX(A:aI)(m:al)(n:Node):LT Int VC:=.need (A.k (@tt al) m) (.br (A.c .neq (A.k fX m) 0) (.ret (A.k fX m)) (.need (A.k (@tt (Int×Int×Int)) (n.1,0,(A.b .sub .i64 m.1 1))) (.br (A.not (A.k uL (n.1,0,(A.b .sub .i64 m.1 1)))) (.ret 180) (.need (A.k (@tt (Int×Int×Int)) (n.2.1,0,5)) (.br (A.not (A.k uL (n.2.1,0,5))) (.ret 180) (.need (A.k (@tt (Int×Int×Int)) (n.2.2.2.2.2.2.1,0,2)) (.br (A.not (A.k uL (n.2.2.2.2.2.2.1,0,2))) (.ret 180) (.need (A.k (@tt cr) n.2.2.2.2.2.2.2) (.br (A.c .neq (A.k lI n.2.2.2.2.2.2.2) 0) (.ret 180) (.br (A.c .neq n.2.2.2.2.2.2.2.1 n.1) (.ret 180) (.br (A.c .neq (A.l n.2.2.2.2.2.2.2.2.2.1) m.1) (.ret 180) (.need (A.k (@tt Node) n) (.br (A.k fB n) (.need (A.k (@tt (al×cy)) (m,n.2.2.1)) (.br (A.not (A.k J4 (m,n.2.2.1))) (.ret 180) (.need (A.k (@tt ((Int×Int×Int×Int×Int×Int×Int))) n.2.2.2.1) (.br (A.c .neq (A.k lW n.2.2.2.1) 0) (.ret 180) (.br (A.c .neq n.2.2.2.1.1 n.1) (.ret 180) (.br (A.c .neq n.2.2.2.1.2.1 m.1) (.ret 180) (.br (A.c .neq n.2.2.1.2.2.2.2 n.2.2.2.1.2.2.1) (.ret 180) (.more (.c0 ⟨m,n⟩))))))))) (.more (.c0 ⟨m,n⟩)))))))))))))))
def Fe(A:aI):VC→LT Int VC
 | .c0 p=>.need (A.k (@tt Node) p.a1) (.br (A.not (A.k fB p.a1)) (.br (A.not (A.and (A.c .eql p.a1.2.2.1.1 0) (A.and (A.c .eql p.a1.2.2.1.2.1 0) (A.and (A.c .eql p.a1.2.2.1.2.2.1 0) (A.and (A.c .eql p.a1.2.2.1.2.2.2.1 0) (A.and (A.c .eql p.a1.2.2.1.2.2.2.2 0) true)))))) (.ret 180) (.br (A.not (A.and (A.c .eql p.a1.2.2.2.1.1 0) (A.and (A.c .eql p.a1.2.2.2.1.2.1 0) (A.and (A.c .eql p.a1.2.2.2.1.2.2.1 0) (A.and (A.c .eql p.a1.2.2.2.1.2.2.2.1 0) (A.and (A.c .eql p.a1.2.2.2.1.2.2.2.2.1 0) (A.and (A.c .eql p.a1.2.2.2.1.2.2.2.2.2.1 0) (A.and (A.c .eql p.a1.2.2.2.1.2.2.2.2.2.2 0) true)))))))) (.ret 180) (.br (A.c .eql p.a1.2.1 2) (.need (A.and (A.c .leq 0 p.a1.1) (A.c .lss p.a1.1 (A.l p.a0.2.2.2.2.2.2.1))) (.br (A.not (A.n .bool p.a0.2.2.2.2.2.2.1 p.a1.1:Bool)) (.ret 180) (.more (.c1 ⟨p.a0,p.a1⟩)))) (.more (.c1 ⟨p.a0,p.a1⟩))))) (.br (A.c .eql p.a1.2.1 2) (.need (A.and (A.c .leq 0 p.a1.1) (A.c .lss p.a1.1 (A.l p.a0.2.2.2.2.2.2.1))) (.br (A.not (A.n .bool p.a0.2.2.2.2.2.2.1 p.a1.1:Bool)) (.ret 180) (.more (.c1 ⟨p.a0,p.a1⟩)))) (.more (.c1 ⟨p.a0,p.a1⟩))))
 | .c1 p=>.br (A.c .eql p.b1.2.1 1) (.need (A.k (@tt (al×Int)) (p.b0,p.b1.1)) (.need (A.k (@tt (Int×Int×Int)) (p.b1.2.2.2.2.1,1,(A.k vp (p.b0,p.b1.1)))) (.br (A.not (A.k uL (p.b1.2.2.2.2.1,1,(A.k vp (p.b0,p.b1.1))))) (.ret 180) (.br (A.c .neq p.b1.2.1 1) (.br (A.c .neq p.b1.2.2.2.2.1 0) (.ret 180) (.more (.c2 ⟨p.b1⟩))) (.more (.c2 ⟨p.b1⟩)))))) (.br (A.c .neq p.b1.2.1 1) (.br (A.c .neq p.b1.2.2.2.2.1 0) (.ret 180) (.more (.c2 ⟨p.b1⟩))) (.more (.c2 ⟨p.b1⟩)))
 | .c2 p=>.br p.c0.2.2.2.2.2.1 (.br (A.c .neq p.c0.2.1 1) (.br (A.c .neq p.c0.2.1 2) (.ret 180) (.ret 0)) (.ret 0)) (.ret 0)
theorem JD{m:al}{n:Node}{G:Bool}(h0:G=true→wu m n=true∧xX n=true)(h2:wu m n=true→xX n=true→G=true):au (Fe ah) (.more (.c1 ⟨m,n⟩)) (bif G then 0 else 180):=by
 have hb:wu m n=true→au (Fe ah) (.more (.c2 ⟨n⟩)) (bif G then 0 else 180):=fun ht=>by
  rw[ak,Fe]
  exact aet (fun g=>(h0 g).2) (h2 ht)
 rw[ak,Fe]
 have ht:=fun g=>(h0 g).1
 unfold wu at ht hb
 rw[He]
 refine aB (p:=n.2.1=1) aN (fun h=>?_) fun h=>?_
 ·rw[aK h,cond_true] at ht hb
  refine af.2 ⟨rfl,af.2 ⟨rfl,yv (fun g=>of_decide_eq_true (ht g)) fun h1=>?_⟩⟩
  exact aB (p:=¬n.2.1=1) aU (fun k=>absurd h k) fun _=>hb (aK h1)
 ·rw[aX h,cond_false] at ht hb
  exact aB (p:=¬n.2.1=1) aU (fun _=>pu (p:=¬n.2.2.2.2.1=0) aU (fun g=>not_not_intro (of_decide_eq_true (ht g))) fun h1=>hb (aK (Decidable.not_not.1 h1))) fun k=>absurd h k
theorem UU{m:al}{n:Node}{G:Bool}(hm:du m=true)(hi:0≤n.1∧n.1≤m.1-1)(h1:jZ n=true→tg m n=true)(h0:G=true→ES m n=true∧tg m n=true∧wu m n=true∧xX n=true)(h2:ES m n=true→tg m n=true→wu m n=true→xX n=true→G=true):au (Fe ah) (.more (.c0 ⟨m,n⟩)) (bif G then 0 else 180):=by
 rw[ak,Fe]
 refine af.2 ⟨rfl,?_⟩
 rw[show ah.k fB (⟨m,n⟩:Po).a1=jZ n from rfl]
 have hc:=fun g=>(h0 g).2.1
 unfold tg at hc h1 h2
 cases hn:jZ n
 ·rw[hn,cond_false] at hc h2
  refine(aj rfl).2 (yE (b:=KJ n.2.2.1) (fun g=>?_) fun z1=>yE (b:=zeroV n.2.2.2.1) (fun g=>?_) fun z2=>?_)
  ·exact(cd _ _▸hc g).1
  ·exact(cd _ _▸hc g).2
  ·exact Xb hm hi (fun g=>(h0 g).1) fun k=>JD (fun g=>(h0 g).2.2) fun a b=>h2 k (by rw[z1,z2];rfl) a b
 ·rw[hn,cond_true] at hc h1 h2
  exact(ai rfl).2 (Xb hm hi (fun g=>(h0 g).1) fun k=>JD (fun g=>(h0 g).2.2) fun a b=>h2 k (h1 rfl) a b)
theorem aas{m:al}{n:Node}:au (Fe ah) (YX ah m n) (bo m n):=by
 unfold YX bo
 refine af.2 ⟨rfl,?_⟩
 rw[show ah.k fX m=lC m from rfl,lC]
 cases hm:du m
 ·exact(aj rfl).2 (.ret _)
 have hG:=@bT m n
 have hl:=(cY hm).1
 rw[cond_true,He,cu,iZ (by omega) (by omega)]
 generalize Hy m n=G at hG ⊢
 refine(ai rfl).2 (af.2 ⟨rfl,yv (fun g=>(hG.1 g).1) fun h1=>af.2 ⟨rfl,yv (fun g=>(hG.1 g).2.1) fun h2=>af.2 ⟨rfl,yv (fun g=>(hG.1 g).2.2.1) fun h3=>af.2 ⟨rfl,?_⟩⟩⟩⟩)
 refine pu (p:=¬sV n.2.2.2.2.2.2.2=0) aU (fun g=>not_not_intro (C9.2 (hG.1 g).2.2.2.1)) fun h7=>?_
 refine pu (p:=¬n.2.2.2.2.2.2.2.1=n.1) aU (fun g=>by have:=hG.1 g;omega) fun h8=>?_
 refine pu (p:=¬(n.2.2.2.2.2.2.2.2.2.1.length:Int)=m.1) aU (fun g=>by have:=hG.1 g;omega) fun h9=>af.2 ⟨rfl,?_⟩
 have fin:(jZ n=true→tg m n=true)→au (Fe ah) (.more (.c0 ⟨m,n⟩)) (bif G then 0 else 180):=fun h=>UU hm h1 h (fun g=>(hG.1 g).2.2.2.2.2.2) fun a b c d=>hG.2 ⟨h1,h2,h3,C9.1 (Decidable.not_not.1 h7),by omega,by omega,a,b,c,d⟩
 rw[show ah.k fB n=jZ n from rfl]
 have hc:=fun g=>(hG.1 g).2.2.2.2.2.2.2.1
 unfold tg at hc fin
 cases hn:jZ n
 ·exact(ai rfl).2 (fin fun k=>absurd (hn.symm.trans k) (by decide))
 ·rw[hn,cond_true] at hc
  simp only[hn,cond_true,cd,jV] at hc fin
  refine(aj rfl).2 (af.2 ⟨rfl,yE (b:=dY m n.2.2.1) (fun g=>(hc g).1) fun k1=>af.2 ⟨rfl,?_⟩⟩)
  rw[aA,chk]
  refine pu (p:=¬oI n.2.2.2.1=0) aU (fun g=>not_not_intro (hc g).2.1) fun k2=>?_
  refine pu (p:=¬n.2.2.2.1.1=n.1) aU (fun g=>not_not_intro (hc g).2.2.1) fun k3=>?_
  refine pu (p:=¬n.2.2.2.1.2.1=m.1) aU (fun g=>not_not_intro (hc g).2.2.2.1) fun k4=>?_
  refine pu (p:=¬n.2.2.1.2.2.2.2=n.2.2.2.1.2.2.1) aU (fun g=>not_not_intro (hc g).2.2.2.2) fun k5=>?_
  exact fin fun _=>⟨k1,Decidable.not_not.1 k2,Decidable.not_not.1 k3,Decidable.not_not.1 k4,Decidable.not_not.1 k5⟩
def Jq:(al×Node)→Int:=fun(m,n)=>bo m n
def agG:ax:=⟨[aR,aF], [yI],(@tt (al×Node)),Jq⟩
theorem ag6:Sd 12 agG:=aP ap bR true 151 [] [⟨12,8, [[2,3]]⟩,⟨12,10, [[2,3]]⟩,⟨12,11, [[3]]⟩] (fun A (m,n)=>YX A m n) Fe X8 (fc Tryz.func12 fz) (sc H8 (sc CF (sc sL (sc GK (sc KF (sc Dn (sc WJ sz))))))) (fun A y=>match y with |.c0 p=>⟨51,by kernel_rfl,by kernel_rfl⟩|.c1 p=>⟨39,by kernel_rfl,by kernel_rfl⟩|.c2 p=>⟨27,by kernel_rfl,by kernel_rfl⟩) fun(m,n) hp h=>aas
def aaW(A:aI)(m:al)(id:Int):LT (Node×Int) Empty:=.need (A.k (@tt al) m) (.br (A.c .neq (A.k fX m) 0) (.ret ((0,0,(0,0,0,0,0),(0,0,0,0,0,0,0),0,false,0,0,([]:List Int),([]:List dq),0,0),(A.k fX m))) (.need (A.k (@tt (Int×Int)) (id,m.1)) (.br (A.c .neq (A.k KD (id,m.1)).2 0) (.ret ((0,0,(0,0,0,0,0),(0,0,0,0,0,0,0),0,false,0,0,([]:List Int),([]:List dq),0,0),2)) (.ret ((id,0,(0,0,0,0,0),(0,0,0,0,0,0,0),0,false,0,(A.k KD (id,m.1)).1),0)))))
def fu:Node:=(0,0,(0,0,0,0,0),(0,0,0,0,0,0,0),0,false,0,0,([]:List Int),([]:List dq),0,0)
def jK(m:al)(id:Int):Node×Int:=bif du m then(bif decide (0≤id∧id≤m.1-1) then((id,0,(0,0,0,0,0),(0,0,0,0,0,0,0),0,false,0,id,([]:List Int),List.replicate m.1.toNat vL,4,(-1)),0) else(fu,2)) else(fu,70)
theorem YA{m:al}{id:Int}:au Empty.elim (aaW ah m id) (jK m id):=by
 unfold aaW jK
 refine af.2 ⟨rfl,?_⟩
 rw[show ah.k fX m=lC m from rfl,lC]
 cases hm:du m
 ·exact(aj rfl).2 (.ret _)
 refine(ai rfl).2 (af.2 ⟨rfl,?_⟩)
 rw[show ah.k KD (id,m.1)=Oy id m.1 from rfl,Oy,aK (cY hm).1,cond_true,cond_true]
 cases decide (0≤id∧id≤m.1-1)
 ·exact(aj rfl).2 (.ret _)
 ·exact(ai rfl).2 (.ret _)
def cX:(al×Int)→(Node×Int):=fun(m,n)=>jK m n
def acw:ax:=⟨[aR,yI], [aF,yI],(@tt (al×Int)),cX⟩
theorem Wd:Sd 38 acw:=aZ ap bR true 55 [] (fun A (m,id)=>aaW A m id) (fc Tryz.func38 fz) (sc CF (sc acQ sz)) fun(m,id) hp h=>YA
def aau(A:aI)(m:al)(n:Node)(when:Bool):LT (Node×Int) Empty:=.need (A.k (@tt (al×Node)) (m,n)) (.br (A.c .neq (A.k Jq (m,n)) 0) (.ret ((0,0,(0,0,0,0,0),(0,0,0,0,0,0,0),0,false,0,0,([]:List Int),([]:List dq),0,0),(A.k Jq (m,n)))) (.br (A.not when) (.ret ((0,0,(0,0,0,0,0),(0,0,0,0,0,0,0),0,false,0,0,([]:List Int),([]:List dq),0,0),181)) (.need (A.k (@tt (cr×List Int)) (n.2.2.2.2.2.2.2,n.2.2.2.2.2.2.2.2.1)) (.ret ((n.1,n.2.1,n.2.2.1,n.2.2.2.1,n.2.2.2.2.1,n.2.2.2.2.2.1,n.2.2.2.2.2.2.1,(A.k yK (n.2.2.2.2.2.2.2,n.2.2.2.2.2.2.2.2.1)).1),(A.k yK (n.2.2.2.2.2.2.2,n.2.2.2.2.2.2.2.2.1)).2)))))
def iD(m:al)(n:Node)(w:Bool):Node×Int:=bif decide (bo m n=0) then(bif w then(n,0) else(fu,181)) else(fu,bo m n)
theorem rq{m:al}{n:Node}(h:bo m n=0):dK n.2.2.2.2.2.2.2=true:=(bT.1 (a_ h).2).2.2.2.1
theorem V4{c:cr}(h:dK c=true):¬8<(c.2.1.length:Int):=by
 simp only[dK,cd,jV] at h
 exact h.2.2.1
theorem adv{m:al}{n:Node}{w:Bool}:au Empty.elim (aau ah m n w) (iD m n w):=by
 unfold aau iD
 refine af.2 ⟨rfl,?_⟩
 rw[show ah.k Jq (m,n)=bo m n from rfl]
 by_cases h:bo m n=0
 ·rw[aK h]
  refine(ai (BU h)).2 ?_
  cases w
  ·exact(aj rfl).2 (.ret _)
  ·refine(ai rfl).2 (af.2 ⟨rfl,?_⟩)
   rw[show ah.k yK (n.2.2.2.2.2.2.2,n.2.2.2.2.2.2.2.2.1)=MK n.2.2.2.2.2.2.2 n.2.2.2.2.2.2.2.2.1 from rfl,MK,rq h,aX (V4 (rq h))]
   exact .ret _
 ·rw[aX h];exact(aj (qy h)).2 (.ret _)
def gK:(al×Node×Bool)→(Node×Int):=fun(m,c,k)=>iD m c k
def afj:ax:=⟨[aR,aF,.bool], [aF,yI],(@tt (al×Node×Bool)),gK⟩
theorem xx:Sd 48 afj:=aZ ap bR true 64 [] (fun A (m,n,when)=>aau A m n when) (fc Tryz.func48 fz) (sc ag6 (sc Wm sz)) fun(m,n,when) hp h=>adv
abbrev vF(A:aI)(m:al)(n:Node):=(A.k gK (m,n,(A.c .eql n.2.1 0)))
abbrev uv(A:aI)(m:al)(n:Node):=(A.k gK (m,n,true))
def YR(A:aI)(m:al)(n:Node)(on:Bool):LT (Node×Int) Empty:=.br (A.not on) (.need (A.k (@tt (al×Node×Bool)) (m,n,true)) (.br (A.c .neq (uv A m n).2 0) (.ret ((0,0,(0,0,0,0,0),(0,0,0,0,0,0,0),0,false,0,0,([]:List Int),([]:List dq),0,0),(uv A m n).2)) (.br (A.not on) (.need (A.k (@tt (al×Int)) (m,(uv A m n).1.1)) (.ret (A.k cX (m,(uv A m n).1.1)))) (.need (A.k (@tt (al×Int)) (m,(uv A m n).1.1)) (.ret (((uv A m n).1.1,1,(0,0,0,0,0),(0,0,0,0,0,0,0),(A.k vp (m,(uv A m n).1.1)),(uv A m n).1.2.2.2.2.2),0)))))) (.need (A.k (@tt (al×Node×Bool)) (m,n,(A.c .eql n.2.1 0))) (.br (A.c .neq (vF A m n).2 0) (.ret ((0,0,(0,0,0,0,0),(0,0,0,0,0,0,0),0,false,0,0,([]:List Int),([]:List dq),0,0),(vF A m n).2)) (.br (A.not on) (.need (A.k (@tt (al×Int)) (m,(vF A m n).1.1)) (.ret (A.k cX (m,(vF A m n).1.1)))) (.need (A.k (@tt (al×Int)) (m,(vF A m n).1.1)) (.ret (((vF A m n).1.1,1,(0,0,0,0,0),(0,0,0,0,0,0,0),(A.k vp (m,(vF A m n).1.1)),(vF A m n).1.2.2.2.2.2),0))))))
theorem Oo{c:cy}(h:KJ c=true):c=(0,0,0,0,0):=by
 obtain⟨a,b,d,e,f⟩:=c
 simp[KJ,aJ,aD] at h
 obtain⟨rfl,rfl,rfl,rfl,rfl⟩:=h
 rfl
theorem Rn{c:mj}(h:zeroV c=true):c=(0,0,0,0,0,0,0):=by
 obtain⟨a,b,d,e,f,g,i⟩:=c
 simp[zeroV,aJ,aD] at h
 obtain⟨rfl,rfl,rfl,rfl,rfl,rfl,rfl⟩:=h
 rfl
theorem KE{m:al}{n:Node}(h:bo m n=0)(h2:¬(2≤n.2.1∧n.2.1≤4)):n.2.2.1=(0,0,0,0,0)∧n.2.2.2.1=(0,0,0,0,0,0,0):=by
 have hc:=(bT.1 (a_ h).2).2.2.2.2.2.2.2.1
 rw[tg,jZ,aX h2,cond_false,cd] at hc
 exact⟨Oo hc.1,Rn hc.2⟩
theorem Kj{m:al}{n:Node}(h:bo m n=0)(h2:¬n.2.1=1):n.2.2.2.2.1=0:=by
 have hc:=(bT.1 (a_ h).2).2.2.2.2.2.2.2.2.1
 rw[wu,aX h2] at hc
 exact of_decide_eq_true hc
def mF(m:al)(n:Node)(on:Bool):Node×Int:=bif decide (bo m n=0) then(bif on then(bif decide (n.2.1=0) then((n.1,1,(0,0,0,0,0),(0,0,0,0,0,0,0),(o8 m n.1).1,n.2.2.2.2.2),0) else(fu,181)) else jK m n.1) else(fu,bo m n)
theorem acU{m:al}{n:Node}{on:Bool}:au Empty.elim (YR ah m n on) (mF m n on):=by
 unfold YR uv vF mF
 rw[show ah.k gK (m,n,true)=iD m n true from rfl,show ah.k gK (m,n,ah.c .eql n.2.1 0)=iD m n (ah.c .eql n.2.1 0) from rfl,aN,iD,iD]
 by_cases h:bo m n=0
 ·rw[aK h]
  cases on
  ·exact(aj rfl).2 (af.2 ⟨rfl,(ai rfl).2 ((aj rfl).2 (af.2 ⟨rfl,.ret _⟩))⟩)
  ·refine(ai rfl).2 (af.2 ⟨rfl,?_⟩)
   cases decide (n.2.1=0)
   ·exact(aj rfl).2 (.ret _)
   ·exact(ai rfl).2 ((ai rfl).2 (af.2 ⟨rfl,.ret _⟩))
 ·rw[aX h]
  cases on
  ·exact(aj rfl).2 (af.2 ⟨rfl,(aj (qy h)).2 (.ret _)⟩)
  ·exact(ai rfl).2 (af.2 ⟨rfl,(aj (qy h)).2 (.ret _)⟩)
def mZ:(al×Node×Bool)→(Node×Int):=fun(m,c,k)=>mF m c k
def acH:ax:=⟨[aR,aF,.bool], [aF,yI],(@tt (al×Node×Bool)),mZ⟩
theorem W6:Sd 39 acH:=aZ ap bR true 90 [] (fun A (m,n,on)=>YR A m n on) (fc Tryz.func39 (fc Tryz.func84 fz)) (sc Wd (sc xx (sc GK sz))) fun(m,n,on) hp h=>acU
abbrev xd(A:aI)(m:al)(n:Node):=(A.k gK (m,n,(A.c .eql n.2.1 0)))
abbrev Nq:LT (Node×Int) Empty:=(.ret ((0,0,(0,0,0,0,0),(0,0,0,0,0,0,0),0,false,0,0,([]:List Int),([]:List dq),0,0),2))
def XZ(A:aI)(m:al)(n:Node)(set1:Int):LT (Node×Int) Empty:=.need (A.k (@tt (al×Node×Bool)) (m,n,(A.c .eql n.2.1 0))) (.br (A.c .neq (xd A m n).2 0) (.ret ((0,0,(0,0,0,0,0),(0,0,0,0,0,0,0),0,false,0,0,([]:List Int),([]:List dq),0,0),(xd A m n).2)) (.need (A.c .leq 0 m.1) (.need (A.k (@tt (Int×Int×Int)) (set1,0,(A.b .sub .i64 (A.b .shl .i64 1 m.1) 1))) (.br (A.not (A.k uL (set1,0,(A.b .sub .i64 (A.b .shl .i64 1 m.1) 1)))) (Nq) (.need (A.c .leq 0 (xd A m n).1.1) (.br (A.c .eql (A.b .and .i64 (A.b .shr .i64 set1 (xd A m n).1.1) 1) 0) (Nq) (.ret (((xd A m n).1.1,4,(0,0,0,0,set1),((xd A m n).1.1,m.1,set1,1,0,0,0),0,(xd A m n).1.2.2.2.2.2),0))))))))
theorem LK{k:Int}(h:4≤k∧k≤8):16≤ah.b .shl .i64 1 k∧ah.b .shl .i64 1 k≤256:=by
 have:k=4∨k=5∨k=6∨k=7∨k=8:=by omega
 rcases this with rfl|rfl|rfl|rfl|rfl<;>decide
def MH(m:al)(n:Node)(s:Int):Node×Int:=bif decide (bo m n=0) then(bif decide (n.2.1=0) then(bif decide (0≤s∧s≤ah.b .shl .i64 1 m.1-1) then(bif lu s n.1 then((n.1,4,(0,0,0,0,s),(n.1,m.1,s,1,0,0,0),0,n.2.2.2.2.2),0) else(fu,2)) else(fu,2)) else(fu,181)) else(fu,bo m n)
theorem aid{m:al}{n:Node}{s:Int}:au Empty.elim (XZ ah m n s) (MH m n s):=by
 unfold XZ Nq xd MH
 refine af.2 ⟨rfl,?_⟩
 rw[show ah.k gK (m,n,ah.c .eql n.2.1 0)=iD m n (ah.c .eql n.2.1 0) from rfl,aN,iD,He]
 by_cases h:bo m n=0
 ·rw[aK h]
  cases decide (n.2.1=0)
  ·exact(aj rfl).2 (.ret _)
  have hk:=(cY (a_ h).1).1
  have hs:=LK hk
  have hi:=(bT.1 (a_ h).2).1
  refine(ai rfl).2 (af.2 ⟨aK (by omega),af.2 ⟨rfl,?_⟩⟩)
  rw[cu,iZ (by omega) (by omega)]
  refine dW (fun h3=>?_) fun h3=>af.2 ⟨aK (show 0≤n.1 from hi.1),?_⟩
  ·exact ay (by rw[aX h3];rfl) (.ret _)
  ·rw[aK h3]
   have hb:=WK (c:=s) (a:=n.1) h3.1 (by omega) hi.1 (by omega)
   refine aB (p:=ah.b .and .i64 (ah.b .shr .i64 s n.1) 1=0) aN (fun g=>?_) fun g=>?_
   ·exact ay (by rw[hb.1 g];rfl) (.ret _)
   ·exact ay (by rw[show lu s n.1=true from by cases hx:lu s n.1;exact absurd (hb.2 hx) g;rfl];rfl) (.ret _)
 ·rw[aX h];exact(aj (qy h)).2 (.ret _)
def oR:(al×Node×Int)→(Node×Int):=fun(m,c,k)=>MH m c k
def agK:ax:=⟨[aR,aF,yI], [aF,yI],(@tt (al×Node×Int)),oR⟩
theorem adh:Sd 66 agK:=aZ ap bR true 110 [] (fun A (m,n,set1)=>XZ A m n set1) (fc Tryz.func66 (fc Tryz.func139 fz)) (sc xx (sc KF sz)) fun(m,n,set1) hp h=>aid
abbrev dh(A:aI)(m:al)(n:Node):=(A.k gK (m,n,true))
abbrev RE(A:aI)(m:al)(n:Node):LT (Node×Int) Empty:=(.ret ((0,0,(0,0,0,0,0),(0,0,0,0,0,0,0),0,false,0,0,([]:List Int),([]:List dq),0,0),(dh A m n).2))
def Xn(A:aI)(m:al)(n:Node)(o:bl):LT (Node×Int) Empty:=.need (A.k (@tt (al×Node×Bool)) (m,n,true)) (.br (A.c .neq (dh A m n).2 0) (RE A m n) (.need (A.k (@tt (Int×Int×Int)) (o.2.2.2.1,1,3)) (.br (A.not (A.k uL (o.2.2.2.1,1,3))) (.ret ((0,0,(0,0,0,0,0),(0,0,0,0,0,0,0),0,false,0,0,([]:List Int),([]:List dq),0,0),2)) (.need (A.k (@tt Node) (dh A m n).1) (.br (A.not (A.k fB (dh A m n).1)) (.ret ((dh A m n).1,0)) (.br (A.c .eql o.2.2.2.1 1) (.need (A.k (@tt (cr×List Int)) ((dh A m n).1.2.2.2.2.2.2.2,o.2.2.2.2.2)) (.br (A.c .neq (A.k yK ((dh A m n).1.2.2.2.2.2.2.2,o.2.2.2.2.2)).2 0) (.ret ((0,0,(0,0,0,0,0),(0,0,0,0,0,0,0),0,false,0,0,([]:List Int),([]:List dq),0,0),(A.k yK ((dh A m n).1.2.2.2.2.2.2.2,o.2.2.2.2.2)).2)) (.ret (((dh A m n).1.1,(dh A m n).1.2.1,(dh A m n).1.2.2.1,(dh A m n).1.2.2.2.1,(dh A m n).1.2.2.2.2.1,(dh A m n).1.2.2.2.2.2.1,(dh A m n).1.2.2.2.2.2.2.1,(A.k yK ((dh A m n).1.2.2.2.2.2.2.2,o.2.2.2.2.2)).1),0)))) (.br (A.c .eql o.2.2.2.1 2) (.need (A.k (@tt cr) (dh A m n).1.2.2.2.2.2.2.2) (.br (A.c .neq (A.k Kf (dh A m n).1.2.2.2.2.2.2.2).2 0) (.ret ((0,0,(0,0,0,0,0),(0,0,0,0,0,0,0),0,false,0,0,([]:List Int),([]:List dq),0,0),(A.k Kf (dh A m n).1.2.2.2.2.2.2.2).2)) (.ret (((dh A m n).1.1,(dh A m n).1.2.1,(dh A m n).1.2.2.1,(dh A m n).1.2.2.2.1,(dh A m n).1.2.2.2.2.1,(dh A m n).1.2.2.2.2.2.1,(dh A m n).1.2.2.2.2.2.2.1,(A.k Kf (dh A m n).1.2.2.2.2.2.2.2).1),0)))) (.br (A.c .eql o.2.2.2.1 3) (.need (A.k (@tt (cr×Int)) ((dh A m n).1.2.2.2.2.2.2.2,o.2.2.2.2.1)) (.br (A.c .neq (A.k KZ ((dh A m n).1.2.2.2.2.2.2.2,o.2.2.2.2.1)).2 0) (.ret ((0,0,(0,0,0,0,0),(0,0,0,0,0,0,0),0,false,0,0,([]:List Int),([]:List dq),0,0),(A.k KZ ((dh A m n).1.2.2.2.2.2.2.2,o.2.2.2.2.1)).2)) (.ret (((dh A m n).1.1,(dh A m n).1.2.1,(dh A m n).1.2.2.1,(dh A m n).1.2.2.2.1,(dh A m n).1.2.2.2.2.1,(dh A m n).1.2.2.2.2.2.1,(dh A m n).1.2.2.2.2.2.2.1,(A.k KZ ((dh A m n).1.2.2.2.2.2.2.2,o.2.2.2.2.1)).1),0)))) (.br (A.c .neq (dh A m n).2 0) (RE A m n) (.ret ((dh A m n).1,0)))))))))))
def zP(n:Node)(r:cr×Int):Node×Int:=bif decide (r.2=0) then((n.1,n.2.1,n.2.2.1,n.2.2.2.1,n.2.2.2.2.1,n.2.2.2.2.2.1,n.2.2.2.2.2.2.1,r.1),0) else(fu,r.2)
def tO(m:al)(n:Node)(o:bl):Node×Int:=bif decide (bo m n=0) then(bif decide (1≤o.2.2.2.1∧o.2.2.2.1≤3) then(bif jZ n then(bif decide (o.2.2.2.1=1) then zP n (MK n.2.2.2.2.2.2.2 o.2.2.2.2.2) else bif decide (o.2.2.2.1=2) then zP n (SE n.2.2.2.2.2.2.2) else zP n (BA n.2.2.2.2.2.2.2 o.2.2.2.2.1)) else(n,0)) else(fu,2)) else(fu,bo m n)
theorem Pb{Y:Type}{step:Y→LT (Node×Int) Y}{n:Node}{r:cr×Int}{x:Int}(hx:r.2=0→x=0):au step (.br (ah.c .neq r.2 0) (.ret (fu,r.2)) (.ret ((n.1,n.2.1,n.2.2.1,n.2.2.2.1,n.2.2.2.2.1,n.2.2.2.2.2.1,n.2.2.2.2.2.2.1,r.1),x))) (zP n r):=by
 unfold zP
 refine aB (p:=¬r.2=0) aU (fun h=>?_) fun h=>?_
 ·exact ay (by rw[aX h];rfl) (.ret _)
 ·have h:=Decidable.not_not.1 h
  exact ay (by rw[aK h,hx h];rfl) (.ret _)
theorem agf{m:al}{n:Node}{o:bl}:au Empty.elim (Xn ah m n o) (tO m n o):=by
 unfold Xn RE dh tO
 refine af.2 ⟨rfl,?_⟩
 rw[show ah.k gK (m,n,true)=iD m n true from rfl,iD,He]
 by_cases h:bo m n=0
 ·rw[aK h,cond_true,cond_true,cond_true]
  refine(ai rfl).2 (af.2 ⟨rfl,dW (fun h3=>?_) fun h3=>af.2 ⟨rfl,?_⟩⟩)
  ·exact ay (by rw[aX h3];rfl) (.ret _)
  rw[aK h3,cond_true]
  rw[show ah.k fB ((n,0):Node×Int).1=jZ n from rfl]
  cases jZ n
  ·exact(aj rfl).2 (.ret _)
  refine(ai rfl).2 (aB (p:=o.2.2.2.1=1) aN (fun k=>af.2 ⟨rfl,?_⟩) fun k=>aB (p:=o.2.2.2.1=2) aN (fun k2=>af.2 ⟨rfl,?_⟩) fun k2=>(aj (by rw[aN];exact aK (by omega))).2 (af.2 ⟨rfl,?_⟩))
  ·rw[aK k];exact Pb (r:=MK n.2.2.2.2.2.2.2 o.2.2.2.2.2) (fun h=>rfl)
  ·rw[aX k,aK k2];exact Pb (r:=SE n.2.2.2.2.2.2.2) (fun h=>rfl)
  ·rw[aX k,aX k2];exact Pb (r:=BA n.2.2.2.2.2.2.2 o.2.2.2.2.1) (fun h=>rfl)
 ·rw[aX h];exact(aj (qy h)).2 (.ret _)
def J2:(al×Node×bl)→(Node×Int):=fun(m,c,k)=>tO m c k
def afk:ax:=⟨[aR,aF,bA], [aF,yI],(@tt (al×Node×bl)),J2⟩
theorem aee:Sd 189 afk:=aZ ap bR true 107 [] (fun A (m,n,o)=>Xn A m n o) (fc Tryz.func189 fz) (sc sL (sc xx (sc KF (sc Wm (sc aex (sc afm sz)))))) fun(m,n,o) hp h=>agf
structure Nn where
 (a0:Int) (a1:List Seen) (a2:Int) (a4:mj) (a5:Int)
inductive UK where
 | c0 (p:Nn) (a3:Int)
noncomputable def Yg:UK→eD
 | .c0 p a3=>⟨[⟨85,45,(en [(0,vi p.a0),(4,.ptr 0 0),(11,.sl aG p.a1),(12,vi p.a2),(13,vi a3)]),[.inLoop (cw Tryz.f85 [1,0,1,0,0]),.inBlock 0,.code (cw Tryz.f85 [1,1])],[],none⟩],[.flat false (dc kX p.a4 ++ [vi p.a5,.dp true]),.dead]⟩
def agV(A:aI)(n:Int)(seen:List Seen):LT (mr×Int×Bool) UK:=.more (.c0 ⟨n,seen,(A.l seen),(0,0,0,0,0,0,0),0⟩ 0)
def Mi(A:aI):UK→LT (mr×Int×Bool) UK
 | .c0 p a3=>.br (A.c .lss a3 p.a2) (.need (A.and (A.c .leq 0 a3) (A.c .lss a3 (A.l p.a1))) (.br (A.c .neq (A.n aG p.a1 a3:Seen).1 2) (.more (.c0 p (A.b .add .i64 a3 1))) (.need (A.k (@tt ((Int×List Int))) (A.n aG p.a1 a3:Seen).2.2) (.br (A.k EX (A.n aG p.a1 a3:Seen).2.2).2 (.need (A.k (@tt ((Int×Int×Int×Int×Int)×Int)) ((A.k EX (A.n aG p.a1 a3:Seen).2.2).1.2.2.1,p.a0)) (.br (A.c .eql (A.k pF ((A.k EX (A.n aG p.a1 a3:Seen).2.2).1.2.2.1,p.a0)) 0) (.br (A.c .lss (A.k EX (A.n aG p.a1 a3:Seen).2.2).1.2.2.2.1 p.a0) (.ret ((A.k EX (A.n aG p.a1 a3:Seen).2.2).1,(A.n aG p.a1 a3:Seen).2.1,true)) (.more (.c0 p (A.b .add .i64 a3 1)))) (.more (.c0 p (A.b .add .i64 a3 1))))) (.more (.c0 p (A.b .add .i64 a3 1))))))) (.ret ((0,0,(0,0,0,0,0),0,([]:List Int)),0,false))
def BH(n:Int)(s:Seen):Bool:=decide (s.1=2)&&(decide ((nR s.2.2).2=true)&&(decide (kJ ((nR s.2.2).1.2.2.1,n)=0)&&decide ((nR s.2.2).1.2.2.2.1<n)))
def fK(n:Int):List Seen→mr×Int×Bool
 | []=>((0,0,(0,0,0,0,0),0,([]:List Int)),0,false)
 | s::l=>bif BH n s then((nR s.2.2).1,s.2.1,true) else fK n l
theorem Ss{n:Int}{l:List Seen}(h:(fK n l).2.2=true):kJ ((fK n l).1.2.2.1,n)=0∧(fK n l).1.2.2.2.1<n∧rU (fK n l).1=true:=by
 induction l with
 | nil=>exact absurd h (by simp[fK])
 | cons s l ih=>
   rw[fK] at h ⊢
   cases hx:BH n s
   ·rw[hx] at h;exact ih h
   ·simp only[BH,cd,jV] at hx
    exact⟨hx.2.2.1,hx.2.2.2,Tf hx.2.1⟩
theorem ab0{b:Bool}:b=decide (b=true):=by cases b<;>rfl
theorem Lb{p:Nn}{n:Int}{seen:List Seen}(h0:p.a0=n)(h1:p.a1=seen)(h2:p.a2=(seen.length:Int))(hl:seen.length≤140737488355328):∀(j i:Nat),seen.length-i=j→i≤seen.length→au (Mi ah) (.more (.c0 p (i:Int))) (fK n (seen.drop i)):=by
 intro j
 induction j with
 | zero=>
   intro i hj hi
   have:i=seen.length:=by omega
   subst this
   rw[ak,Mi,h2,List.drop_length]
   exact(ai (by rw[ar];simp)).2 (.ret _)
 | succ j ih=>
   intro i hj hi
   have hi':i<seen.length:=by omega
   have nx:=ih (i+1) (by omega) (by omega)
   rw[ak,Mi,h0,h1,h2]
   refine(aj (by rw[ar];exact aK (by omega))).2 (af.2 ⟨aO hi',?_⟩)
   rw[show(ah.n aG seen (i:Int):Seen)=seen[i] from getD_in hi' _,pV hi',fK,bU (i:=i) (by omega)]
   generalize seen[i]=s
   generalize fK n (seen.drop (i+1))=r at nx ⊢
   have hx:BH n s=false→au (Mi ah) (.more (.c0 p ((i+1:Nat):Int))) (bif BH n s then((nR s.2.2).1,s.2.1,true) else r):=fun h=>ay (by rw[h];rfl) nx
   rw[show ah.k EX s.2.2=nR s.2.2 from UN]
   refine aB (p:=¬s.1=2) aU (fun h=>hx (by rw[BH,aX h];rfl)) fun g1=>af.2 ⟨rfl,?_⟩
   refine aB (p:=(nR s.2.2).2=true) ab0 (fun g2=>af.2 ⟨rfl,?_⟩) fun h=>hx (by rw[BH,aX h,Bool.false_and,Bool.and_false])
   refine aB (p:=kJ ((nR s.2.2).1.2.2.1,n)=0) aN (fun g3=>?_) fun h=>hx (by rw[BH,aX h,Bool.false_and,Bool.and_false,Bool.and_false])
   refine aB (p:=(nR s.2.2).1.2.2.2.1<n) rfl (fun g4=>?_) fun h=>hx (by rw[BH,aX h,Bool.and_false,Bool.and_false,Bool.and_false])
   exact ay (by rw[BH,aK (Decidable.not_not.1 g1),aK g2,aK g3,aK g4];rfl) (.ret _)
theorem afx{n:Int}{seen:List Seen}(hl:seen.length≤140737488355328):au (Mi ah) (agV ah n seen) (fK n seen):=
 Lb (p:=⟨n,seen,(seen.length:Int),(0,0,0,0,0,0,0),0⟩) rfl rfl rfl hl seen.length 0 rfl (by omega)
def A5:(Int×List Seen)→(mr×Int×Bool):=fun(m,n)=>fK m n
def ahg:ax:=⟨[yI,(.slice aG)], [yb,yI,.bool],(@tt (Int×List Seen)),A5⟩
theorem ahh:Sd 85 ahg:=aP ap bR true 21 [⟨85,2, [[0,4,11,12,13]]⟩] [] (fun A (n,seen)=>agV A n seen) Mi Yg (fc Tryz.func85 fz) (sc aiY (sc E7 sz)) (fun A y=>match y with |.c0 p a3=>⟨70,by kernel_rfl,by kernel_rfl⟩) fun(n,seen) hp h=>afx h.2.1
abbrev RO(A:aI)(m:al)(c:cy)(f:mr):LT Bool Empty:=(.br (A.c .eql (A.k sT (m,c.2.2.1,c.2.1)).2 0) (.br (A.c .eql f.1 (A.k sT (m,c.2.2.1,c.2.1)).1) (.ret (A.c .eql (A.l f.2.2.2.2) 0)) (.ret false)) (.ret false))
def aaQ(A:aI)(m:al)(c:cy)(f:mr):LT Bool Empty:=.need (A.k (@tt (al×Int×Int)) (m,c.2.2.1,c.2.1)) (.br (A.c .eql (A.k sT (m,c.2.2.1,c.2.1)).2 0) (.br (A.c .neq (A.k sT (m,c.2.2.1,c.2.1)).1 3) (.need (A.and (A.c .leq 0 c.2.2.1) (A.c .lss c.2.2.1 (A.l m.2.2.2.2.2.2.2))) (.need (A.and (A.c .leq 0 c.2.1) (A.c .lss c.2.1 (A.l (A.n bW m.2.2.2.2.2.2.2 c.2.2.1:Mode).1))) (.br (A.c .eql (A.k sT (m,c.2.2.1,c.2.1)).2 0) (.br (A.c .eql f.1 (A.k sT (m,c.2.2.1,c.2.1)).1) (.ret (A.c .eql (A.l f.2.2.2.2) (A.n yI (A.n bW m.2.2.2.2.2.2.2 c.2.2.1:Mode).1 c.2.1:Int))) (.ret false)) (.ret false)))) (RO A m c f)) (RO A m c f))
def tZ(m:al)(c:cy)(f:mr):Bool:=decide ((fV m c.2.2.1 c.2.1).2=0)&&(decide (f.1=(fV m c.2.2.1 c.2.1).1)&&decide ((f.2.2.2.2.length:Int)=bif decide ((fV m c.2.2.1 c.2.1).1=3) then(0:Int) else(ah.n (.int .i64) (ah.n bW m.2.2.2.2.2.2.2 c.2.2.1:Mode).1 c.2.1:Int)))
theorem rA{m:al}{k n:Int}(h:(fV m k n).2=0):du m=true∧(0≤n∧n≤m.1-1)∧(0≤k∧k<dw m):=by
 unfold fV at h
 by_cases h1:jJ m n=0
 ·obtain⟨a,b⟩:=Dd h1
  by_cases h2:0≤k∧k≤dw m-1
  ·exact⟨a,b,by omega⟩
  ·rw[aK h1,aX h2,cond_true,cond_false] at h;exact absurd h (by decide)
 ·rw[aX h1,cond_false] at h;exact absurd h h1
theorem af2{m:al}{c:cy}{f:mr}:au Empty.elim (aaQ ah m c f) (tZ m c f):=by
 unfold aaQ RO
 refine af.2 ⟨rfl,?_⟩
 rw[show ah.k sT (m,c.2.2.1,c.2.1)=fV m c.2.2.1 c.2.1 from rfl]
 by_cases h:(fV m c.2.2.1 c.2.1).2=0
 ·obtain⟨hm,hn,hk⟩:=rA h
  have hx:=(oO (vC hm hk.1 hk.2)).1
  have e:ah.c .eql (fV m c.2.2.1 c.2.1).2 0=true:=On h
  rw[e,tZ,aK h,Bool.true_and]
  refine(aj rfl).2 (aB (p:=¬(fV m c.2.2.1 c.2.1).1=3) aU (fun g=>af.2 ⟨rP hk.1 hk.2,af.2 ⟨rz hx hn.1 (by omega),(aj rfl).2 ?_⟩⟩) fun g=>(aj rfl).2 ?_)
  ·rw[aX g]
   refine aB (p:=f.1=(fV m c.2.2.1 c.2.1).1) aN (fun k=>?_) fun k=>?_
   ·exact ay (by rw[aK k,bF];exact aN) (.ret _)
   ·exact ay (by rw[aX k];rfl) (.ret _)
  ·rw[aK (Decidable.not_not.1 g)]
   refine aB (p:=f.1=(fV m c.2.2.1 c.2.1).1) aN (fun k=>?_) fun k=>?_
   ·exact ay (by rw[aK k,bF];exact aN) (.ret _)
   ·exact ay (by rw[aX k];rfl) (.ret _)
 ·have e:ah.c .eql (fV m c.2.2.1 c.2.1).2 0=false:=ahC h
  rw[e,tZ,aX h]
  exact(ai rfl).2 ((ai rfl).2 (.ret _))
def K4:(al×cy×mr)→Bool:=fun(m,c,k)=>tZ m c k
def ad7:ax:=⟨[aR,kK,yb], [.bool],(@tt (al×cy×mr)),K4⟩
theorem Wj:Sd 50 ad7:=aZ ap bR true 75 [] (fun A (m,c,f)=>aaQ A m c f) (fc Tryz.func50 fz) (sc WA sz) fun(m,c,f) hp h=>af2
def Yu(A:aI)(m:al)(n:Node)(f:mr):LT Bool Empty:=.need (A.k (@tt (al×cy)) (m,f.2.2.1)) (.br (A.k J4 (m,f.2.2.1)) (.br (A.c .neq f.2.2.1.2.1 n.1) (.need (A.k (@tt (cy×Int)) (f.2.2.1,f.2.2.1.2.1)) (.br (A.k Ry (f.2.2.1,f.2.2.1.2.1)) (.need (A.k (@tt (al×cy×mr)) (m,f.2.2.1,f)) (.ret (A.k K4 (m,f.2.2.1,f)))) (.ret false))) (.ret false)) (.ret false))
def LA(m:al)(n:Node)(f:mr):Bool:=dY m f.2.2.1&&(decide (¬f.2.2.1.2.1=n.1)&&(Mv f.2.2.1 f.2.2.1.2.1&&tZ m f.2.2.1 f))
theorem aiQ{m:al}{n:Node}{f:mr}:au Empty.elim (Yu ah m n f) (LA m n f):=by
 unfold Yu LA
 refine af.2 ⟨rfl,?_⟩
 rw[show ah.k J4 (m,f.2.2.1)=dY m f.2.2.1 from rfl]
 cases dY m f.2.2.1
 ·exact(ai rfl).2 (.ret _)
 refine(aj rfl).2 (aB (p:=¬f.2.2.1.2.1=n.1) aU (fun h=>af.2 ⟨rfl,?_⟩) fun h=>ay (by rw[aX h];rfl) (.ret _))
 rw[aK h,show ah.k Ry (f.2.2.1,f.2.2.1.2.1)=Mv f.2.2.1 f.2.2.1.2.1 from rfl]
 cases Mv f.2.2.1 f.2.2.1.2.1
 ·exact(ai rfl).2 (.ret _)
 ·exact(aj rfl).2 (af.2 ⟨rfl,.ret _⟩)
def KX:(al×Node×mr)→Bool:=fun(m,c,k)=>LA m c k
def ab2:ax:=⟨[aR,aF,yb], [.bool],(@tt (al×Node×mr)),KX⟩
theorem acv:Sd 87 ab2:=aZ ap bR true 44 [] (fun A (m,n,f)=>Yu A m n f) (fc Tryz.func87 fz) (sc WJ (sc Wj (sc adu sz))) fun(m,n,f) hp h=>aiQ
def lD(m:al)(c:cy)(r:Int):cy:=bif decide ((xS m c r).2=0) then(xS m c r).1 else c
def sS(m:al)(n:Node)(c:cy)(f:mr):Node:=(n.1,3,lD m c f.2.1,(n.1,m.1,c.2.2.2.2,1,0,0,0),0,false,0,bif decide (f.1=4) then(mW n.2.2.2.2.2.2.2 c.2.1 f.2.2.2.2).1 else n.2.2.2.2.2.2.2)
def wJ(m:al)(n:Node)(seen:List Seen)(once:Bool):Node×Int×Bool×Int:=
 bif decide (bo m n=0) then
  bif decide (n.2.1=1) then
   bif decide ((seen.length:Int)=2) then
    bif (fK m.1 seen).2.2 then
     bif decide ((fK m.1 seen).1.1=1) then
      bif decide ((fK m.1 seen).1.2.2.2.1=n.1) then(n,0,false,0)
      else bif once && !n.2.2.2.2.2.1 then((n.1,n.2.1,n.2.2.1,n.2.2.2.1,(o8 m n.1).1,true,n.2.2.2.2.2.2),(fK m.1 seen).2.1,false,0)
      else(sS m n (0,(fK m.1 seen).1.2.2.2.1,0,0,ah.b .shl .i64 1 (fK m.1 seen).1.2.2.2.1) (fK m.1 seen).1,(fK m.1 seen).2.1,true,0)
     else bif LA m n (fK m.1 seen).1 then(sS m n (fK m.1 seen).1.2.2.1 (fK m.1 seen).1,(fK m.1 seen).2.1,true,0)
     else(n,0,false,0)
    else(n,0,false,0)
   else(fu,0,false,2)
  else(fu,0,false,181)
 else(fu,0,false,bo m n)
structure P7 where
 (a0:Int) (a1:al) (a2 a3:mj) (a4:Int) (a5:Bool) (a6 a7 a8 a9:Int) (cB:Node) (da:mr)
structure PN where
 (b0:al) (b1:mr) (b2:cy) (b3:Int) (b4:Node) (b5 b6:mj) (b7:Int) (b8:Bool) (b9 b10 b11 b12:Int)
structure O6 where
 (c0:al) (c1:mr) (c2:cy) (c3:Int) (c4:Node) (c5 c6:mj) (c7:Int) (c8:Bool) (c9 c10 c11 c12:Int)
structure O8 where
 (d0:al) (d1 d2:Int) (d3:Node) (d4 d5:mj) (d6:Int) (d7:Bool) (d8 d9 lN l9:Int)
structure Pz where
 (e0:al) (e1 e2:Int) (e3:Node) (e4 e5:mj) (e6:Int) (e7:Bool) (e8 e9 e10 e11:Int)
inductive Sm where
 | c0 (p:P7)
 | c1 (p:PN)
 | c2 (p:O6)
 | c3 (p:O8)
 | c4 (p:Pz)
noncomputable def Z1:Sm→eD
 | .c0 p=>⟨[⟨40,101,(en [(3,.ptr 0 0),(6,.ptr 1 0),(10,.ptr 2 0),(12,.ptr 3 0),(13,vi p.a0)]),[.code (cw Tryz.f40 [1,1,1,1,0,0,1,1,0]),.code (cw Tryz.f40 [1,1,1,1,0,0,1,1,1]),.inBlock 1,.code (cw Tryz.f40 [1,1,1,1,1])],[],none⟩],[.flat false (dc aR p.a1),.flat false (dc kX p.a2++dc kX p.a3 ++ [vi p.a4,vb p.a5,vi p.a6,vi p.a7,.dp true,.dp true,vi p.a8,vi p.a9]),.flat false (dc aF p.cB),.flat false (dc yb p.da),.dead]⟩
 | .c1 p=>⟨[⟨86,29,(en [(0,.agg (dc aR p.b0)),(1,.ptr 0 0),(2,.agg (dc yb p.b1)),(3,.agg (dc kK p.b2))]),[.code (cw Tryz.f86 [0]),.code (cw Tryz.f86 [1])],[],none⟩,⟨40,101,(en [(6,.ptr 1 0),(10,.ptr 0 0),(13,vi p.b3)]),[.qh (ow Tryz.f40 [1,1,1,1,0,0,1,1,1,1,1,0]) [0,0,0,4,0,16,48,124,255] 8 [] [],.inBlock 1,.code (cw Tryz.f40 [1,1,1,1,1])],[],none⟩],[.flat false (dc aF p.b4),.flat false (dc kX p.b5++dc kX p.b6 ++ [vi p.b7,vb p.b8,vi p.b9,vi p.b10,.dp true,.dp true,vi p.b11,vi p.b12]),.dead]⟩
 | .c2 p=>⟨[⟨86,29,(en [(0,.agg (dc aR p.c0)),(1,.ptr 0 0),(2,.agg (dc yb p.c1)),(3,.agg (dc kK p.c2))]),[.code (cw Tryz.f86 [0]),.code (cw Tryz.f86 [1])],[],none⟩,⟨40,101,(en [(6,.ptr 1 0),(10,.ptr 0 0),(13,vi p.c3)]),[.ops (ow Tryz.f40 [1,1,1,1,0,0,1,1,1,1,1,1,1,0]) ((ow Tryz.f40 [1,1,1,1,0,0,1,1,1,1,1,1,1,0]).toList.drop 4),.inBlock 1,.code (cw Tryz.f40 [1,1,1,1,1])],[],none⟩],[.flat false (dc aF p.c4),.flat false (dc kX p.c5++dc kX p.c6 ++ [vi p.c7,vb p.c8,vi p.c9,vi p.c10,.dp true,.dp true,vi p.c11,vi p.c12]),.dead]⟩
 | .c3 p=>⟨[⟨53,24,(en [(0,.agg (dc aR p.d0)),(1,.ptr 0 0),(2,vi p.d1)]),[.code (cw Tryz.f53 [0]),.code (cw Tryz.f53 [1])],[],none⟩,⟨86,29,.leaf,[.ops (ow Tryz.f86 [1,1,1,1]) ((ow Tryz.f86 [1,1,1,1]).toList.drop 4)],[],none⟩,⟨40,101,(en [(6,.ptr 1 0),(10,.ptr 0 0),(13,vi p.d2)]),[.qh (ow Tryz.f40 [1,1,1,1,0,0,1,1,1,1,1,0]) [0,0,0,4,0,16,48,124,255] 8 [] [],.inBlock 1,.code (cw Tryz.f40 [1,1,1,1,1])],[],none⟩],[.flat false (dc aF p.d3),.flat false (dc kX p.d4++dc kX p.d5 ++ [vi p.d6,vb p.d7,vi p.d8,vi p.d9,.dp true,.dp true,vi p.lN,vi p.l9]),.dead]⟩
 | .c4 p=>⟨[⟨53,24,(en [(0,.agg (dc aR p.e0)),(1,.ptr 0 0),(2,vi p.e1)]),[.code (cw Tryz.f53 [0]),.code (cw Tryz.f53 [1])],[],none⟩,⟨86,29,.leaf,[.ops (ow Tryz.f86 [1,1,1,1]) ((ow Tryz.f86 [1,1,1,1]).toList.drop 4)],[],none⟩,⟨40,101,(en [(6,.ptr 1 0),(10,.ptr 0 0),(13,vi p.e2)]),[.ops (ow Tryz.f40 [1,1,1,1,0,0,1,1,1,1,1,1,1,0]) ((ow Tryz.f40 [1,1,1,1,0,0,1,1,1,1,1,1,1,0]).toList.drop 4),.inBlock 1,.code (cw Tryz.f40 [1,1,1,1,1])],[],none⟩],[.flat false (dc aF p.e3),.flat false (dc kX p.e4++dc kX p.e5 ++ [vi p.e6,vb p.e7,vi p.e8,vi p.e9,.dp true,.dp true,vi p.e10,vi p.e11]),.dead]⟩
abbrev zK(A:aI)(m:al)(n:Node):=(A.k gK (m,n,(A.c .eql n.2.1 1)))
abbrev N9(A:aI)(m:al)(n:Node)(seen:List Seen):LT (Node×Int×Bool×Int) Sm:=(.more (.c0 ⟨(A.k A5 (m.1,seen)).2.1,m,(0,0,0,0,0,0,0),(0,0,0,0,0,0,0),0,false,0,0,0,0,(zK A m n).1,(A.k A5 (m.1,seen)).1⟩))
def abA(A:aI)(m:al)(n:Node)(seen:List Seen):LT (Node×Int×Bool×Int) Sm:=.need (A.k (@tt (al×Node×Bool)) (m,n,(A.c .eql n.2.1 1))) (.br (A.c .neq (zK A m n).2 0) (.ret ((0,0,(0,0,0,0,0),(0,0,0,0,0,0,0),0,false,0,0,([]:List Int),([]:List dq),0,0),0,false,(zK A m n).2)) (.br (A.c .neq (A.l seen) 2) (.ret ((0,0,(0,0,0,0,0),(0,0,0,0,0,0,0),0,false,0,0,([]:List Int),([]:List dq),0,0),0,false,2)) (.need (A.k (@tt (Int×List Seen)) (m.1,seen)) (.br (A.not (A.k A5 (m.1,seen)).2.2) (.ret ((zK A m n).1,0,false,0)) (.br (A.c .eql (A.k A5 (m.1,seen)).1.1 1) (.br (A.c .eql (A.k A5 (m.1,seen)).1.2.2.2.1 (zK A m n).1.1) (.ret ((zK A m n).1,0,false,0)) (N9 A m n seen)) (N9 A m n seen))))))
def yg(A:aI):Sm→LT (Node×Int×Bool×Int) Sm
 | .c0 p=>.br (A.c .eql p.da.1 1) (.br (A.not p.cB.2.2.2.2.2.1) (.need (A.k (@tt (al×Int)) (p.a1,p.cB.1)) (.ret ((p.cB.1,p.cB.2.1,p.cB.2.2.1,p.cB.2.2.2.1,(A.k vp (p.a1,p.cB.1)),true,p.cB.2.2.2.2.2.2),p.a0,false,0))) (.br (A.c .eql p.da.1 1) (.need (A.c .leq 0 p.da.2.2.2.1) (.more (.c1 ⟨p.a1,p.da,(0,p.da.2.2.2.1,0,0,(A.b .shl .i64 1 p.da.2.2.2.1)),p.a0,p.cB,p.a2,p.a3,p.a4,p.a5,p.a6,p.a7,p.a8,p.a9⟩))) (.need (A.k (@tt (al×Node×mr)) (p.a1,p.cB,p.da)) (.br (A.k KX (p.a1,p.cB,p.da)) (.more (.c2 ⟨p.a1,p.da,p.da.2.2.1,p.a0,p.cB,p.a2,p.a3,p.a4,p.a5,p.a6,p.a7,p.a8,p.a9⟩)) (.ret (p.cB,0,false,0)))))) (.br (A.c .eql p.da.1 1) (.need (A.c .leq 0 p.da.2.2.2.1) (.more (.c1 ⟨p.a1,p.da,(0,p.da.2.2.2.1,0,0,(A.b .shl .i64 1 p.da.2.2.2.1)),p.a0,p.cB,p.a2,p.a3,p.a4,p.a5,p.a6,p.a7,p.a8,p.a9⟩))) (.need (A.k (@tt (al×Node×mr)) (p.a1,p.cB,p.da)) (.br (A.k KX (p.a1,p.cB,p.da)) (.more (.c2 ⟨p.a1,p.da,p.da.2.2.1,p.a0,p.cB,p.a2,p.a3,p.a4,p.a5,p.a6,p.a7,p.a8,p.a9⟩)) (.ret (p.cB,0,false,0)))))
 | .c1 p=>.br (A.c .eql p.b1.1 4) (.need (A.k (@tt (cr×Int×List Int)) (p.b4.2.2.2.2.2.2.2,p.b2.2.1,p.b1.2.2.2.2)) (.need (A.k (@tt (cr×Int×List Int)) (p.b4.2.2.2.2.2.2.2,p.b2.2.1,p.b1.2.2.2.2)) (.br (A.c .eql (A.k w9 (p.b4.2.2.2.2.2.2.2,p.b2.2.1,p.b1.2.2.2.2)).2 0) (.more (.c3 ⟨p.b0,p.b1.2.1,p.b3,(p.b4.1,3,p.b2,(p.b4.1,p.b0.1,p.b2.2.2.2.2,1,0,0,0),0,false,0,(A.k w9 (p.b4.2.2.2.2.2.2.2,p.b2.2.1,p.b1.2.2.2.2)).1),p.b5,p.b6,p.b7,p.b8,p.b9,p.b10,p.b11,p.b12⟩)) (.more (.c3 ⟨p.b0,p.b1.2.1,p.b3,(p.b4.1,3,p.b2,(p.b4.1,p.b0.1,p.b2.2.2.2.2,1,0,0,0),0,false,0,p.b4.2.2.2.2.2.2.2),p.b5,p.b6,p.b7,p.b8,p.b9,p.b10,p.b11,p.b12⟩))))) (.more (.c3 ⟨p.b0,p.b1.2.1,p.b3,(p.b4.1,3,p.b2,(p.b4.1,p.b0.1,p.b2.2.2.2.2,1,0,0,0),0,false,0,p.b4.2.2.2.2.2.2.2),p.b5,p.b6,p.b7,p.b8,p.b9,p.b10,p.b11,p.b12⟩))
 | .c2 p=>.br (A.c .eql p.c1.1 4) (.need (A.k (@tt (cr×Int×List Int)) (p.c4.2.2.2.2.2.2.2,p.c2.2.1,p.c1.2.2.2.2)) (.need (A.k (@tt (cr×Int×List Int)) (p.c4.2.2.2.2.2.2.2,p.c2.2.1,p.c1.2.2.2.2)) (.br (A.c .eql (A.k w9 (p.c4.2.2.2.2.2.2.2,p.c2.2.1,p.c1.2.2.2.2)).2 0) (.more (.c4 ⟨p.c0,p.c1.2.1,p.c3,(p.c4.1,3,p.c2,(p.c4.1,p.c0.1,p.c2.2.2.2.2,1,0,0,0),0,false,0,(A.k w9 (p.c4.2.2.2.2.2.2.2,p.c2.2.1,p.c1.2.2.2.2)).1),p.c5,p.c6,p.c7,p.c8,p.c9,p.c10,p.c11,p.c12⟩)) (.more (.c4 ⟨p.c0,p.c1.2.1,p.c3,(p.c4.1,3,p.c2,(p.c4.1,p.c0.1,p.c2.2.2.2.2,1,0,0,0),0,false,0,p.c4.2.2.2.2.2.2.2),p.c5,p.c6,p.c7,p.c8,p.c9,p.c10,p.c11,p.c12⟩))))) (.more (.c4 ⟨p.c0,p.c1.2.1,p.c3,(p.c4.1,3,p.c2,(p.c4.1,p.c0.1,p.c2.2.2.2.2,1,0,0,0),0,false,0,p.c4.2.2.2.2.2.2.2),p.c5,p.c6,p.c7,p.c8,p.c9,p.c10,p.c11,p.c12⟩))
 | .c3 p=>.need (A.k (@tt (al×cy×Int)) (p.d0,p.d3.2.2.1,p.d1)) (.need (A.k (@tt (al×cy×Int)) (p.d0,p.d3.2.2.1,p.d1)) (.br (A.c .eql (A.k qF (p.d0,p.d3.2.2.1,p.d1)).2 0) (.ret ((p.d3.1,p.d3.2.1,(A.k qF (p.d0,p.d3.2.2.1,p.d1)).1,p.d3.2.2.2),p.d2,true,0)) (.ret (p.d3,p.d2,true,0))))
 | .c4 p=>.need (A.k (@tt (al×cy×Int)) (p.e0,p.e3.2.2.1,p.e1)) (.need (A.k (@tt (al×cy×Int)) (p.e0,p.e3.2.2.1,p.e1)) (.br (A.c .eql (A.k qF (p.e0,p.e3.2.2.1,p.e1)).2 0) (.ret ((p.e3.1,p.e3.2.1,(A.k qF (p.e0,p.e3.2.2.1,p.e1)).1,p.e3.2.2.2),p.e2,true,0)) (.ret (p.e3,p.e2,true,0))))
theorem Qp{m:al}{n:Node}{f:mr}(hn:bo m n=0)(hf:rU f=true)(hj:LA m n f=true):(mW n.2.2.2.2.2.2.2 f.2.2.1.2.1 f.2.2.2.2).2=0:=by
 have hd:=bT.1 (a_ hn).2
 simp only[LA,cd,tZ,jV] at hj
 have hk:=rA hj.2.2.2.1
 simp only[rU,cd,jV] at hf
 have h8:=hf.1.2
 have e6:=hd.2.2.2.2.2.1
 rw[mW,hd.2.2.2.1,aK (show 0≤f.2.2.1.2.1∧f.2.2.1.2.1≤(n.2.2.2.2.2.2.2.2.2.1.length:Int)-1 by rw[e6];exact hk.2.1),aX (show ¬8<(f.2.2.2.2.length:Int) by omega)]
 rfl
theorem ZH{p:O8}:au (yg ah) (.more (.c3 p)) ((p.d3.1,p.d3.2.1,lD p.d0 p.d3.2.2.1 p.d1,p.d3.2.2.2),p.d2,true,0):=by
 rw[ak,yg]
 refine af.2 ⟨rfl,?_⟩
 repeat' (refine af.2 ⟨rfl,?_⟩)
 refine aB (p:=(xS p.d0 p.d3.2.2.1 p.d1).2=0) aN (fun h=>?_) fun h=>?_
 ·exact ay (by rw[lD,aK h];rfl) (.ret _)
 ·exact ay (by rw[lD,aX h];rfl) (.ret _)
theorem MQ{p:Pz}:au (yg ah) (.more (.c4 p)) ((p.e3.1,p.e3.2.1,lD p.e0 p.e3.2.2.1 p.e1,p.e3.2.2.2),p.e2,true,0):=by
 rw[ak,yg]
 refine af.2 ⟨rfl,?_⟩
 repeat' (refine af.2 ⟨rfl,?_⟩)
 refine aB (p:=(xS p.e0 p.e3.2.2.1 p.e1).2=0) aN (fun h=>?_) fun h=>?_
 ·exact ay (by rw[lD,aK h];rfl) (.ret _)
 ·exact ay (by rw[lD,aX h];rfl) (.ret _)
theorem Yn{p:PN}(h:p.b1.1=1):au (yg ah) (.more (.c1 p)) (sS p.b0 p.b4 p.b2 p.b1,p.b3,true,0):=by
 rw[ak,yg]
 refine(ai (by rw[aN];exact aX (by omega))).2 (ay ?_ ZH)
 rw[sS,aX (show ¬p.b1.1=4 by omega)]
 rfl
theorem abF{p:O6}(h:p.c1.1=4→(mW p.c4.2.2.2.2.2.2.2 p.c2.2.1 p.c1.2.2.2.2).2=0):au (yg ah) (.more (.c2 p)) (sS p.c0 p.c4 p.c2 p.c1,p.c3,true,0):=by
 rw[ak,yg]
 refine aB (p:=p.c1.1=4) aN (fun g=>af.2 ⟨rfl,?_⟩) fun g=>ay (by rw[sS,aX g];rfl) MQ
 repeat' (refine af.2 ⟨rfl,?_⟩)
 exact(aj (On (h g))).2 (ay (by rw[sS,aK g];rfl) MQ)
theorem abD{p:P7}{m:al}{n:Node}{f:mr}{t:Int}(h0:p.a0=t)(h1:p.a1=m)(h2:p.cB=n)(hf:p.da=f)(hl:0≤f.2.2.2.1)(hd:LA m n f=true→(mW n.2.2.2.2.2.2.2 f.2.2.1.2.1 f.2.2.2.2).2=0):au (yg ah) (.more (.c0 p)) (bif decide (f.1=1) then(bif !n.2.2.2.2.2.1 then((n.1,n.2.1,n.2.2.1,n.2.2.2.1,(o8 m n.1).1,true,n.2.2.2.2.2.2),t,false,0) else(sS m n (0,f.2.2.2.1,0,0,ah.b .shl .i64 1 f.2.2.2.1) f,t,true,0)) else bif LA m n f then(sS m n f.2.2.1 f,t,true,0) else(n,0,false,0)):=by
 rw[ak,yg,h0,h1,h2,hf]
 refine aB (p:=f.1=1) aN (fun h=>?_) fun h=>?_
 ·rw[aK h,cond_true]
  cases hb:n.2.2.2.2.2.1
  ·exact(aj rfl).2 (af.2 ⟨rfl,.ret _⟩)
  ·exact(ai rfl).2 ((aj (by rw[aN];exact aK h)).2 (af.2 ⟨aK hl,Yn h⟩))
 ·rw[aX h,cond_false]
  refine(ai (by rw[aN];exact aX h)).2 (af.2 ⟨rfl,?_⟩)
  rw[show ah.k KX (m,n,f)=LA m n f from rfl]
  cases hj:LA m n f
  ·exact(ai rfl).2 (.ret _)
  ·exact(aj rfl).2 (abF fun _=>hd hj)
theorem ag7{m:al}{n:Node}{seen:List Seen}:au (yg ah) (abA ah m n seen) (wJ m n seen true):=by
 unfold abA N9 zK wJ
 refine af.2 ⟨rfl,?_⟩
 rw[show ah.k gK (m,n,ah.c .eql n.2.1 1)=iD m n (ah.c .eql n.2.1 1) from rfl,aN,iD]
 by_cases h:bo m n=0
 ·rw[aK h,cond_true,cond_true]
  cases decide (n.2.1=1)
  ·exact(aj rfl).2 (.ret _)
  rw[cond_true,cond_true]
  refine(ai rfl).2 (aB (p:=¬(seen.length:Int)=2) aU (fun h2=>ay (by rw[aX h2];rfl) (.ret _)) fun h2=>af.2 ⟨rfl,?_⟩)
  rw[aK (Decidable.not_not.1 h2),cond_true,show ah.k A5 (m.1,seen)=fK m.1 seen from rfl]
  cases he:(fK m.1 seen).2.2
  ·exact(aj rfl).2 (.ret _)
  obtain⟨e1,e2,e3⟩:=Ss he
  have hl:=Sz e3
  have nx:=fun {a b c d e g i j}=>abD (p:=⟨(fK m.1 seen).2.1,m,a,b,c,d,e,g,i,j,n,(fK m.1 seen).1⟩) (m:=m) (n:=n) (f:=(fK m.1 seen).1) (t:=(fK m.1 seen).2.1) rfl rfl rfl rfl hl.1 (Qp h e3)
  generalize fK m.1 seen=x at *
  refine(ai rfl).2 (aB (p:=x.1.1=1) aN (fun h3=>aB (p:=x.1.2.2.2.1=n.1) aN (fun h4=>?_) fun h4=>?_) fun h3=>?_)
  ·exact ay (by rw[aK h3,aK h4];rfl) (.ret _)
  ·rw[aK h3] at nx
   rw[aK h3,aX h4,cond_true,cond_true,cond_false,Bool.true_and]
   exact nx
  ·rw[aX h3] at nx
   rw[aX h3,cond_true,cond_false]
   exact nx
 ·rw[aX h];exact(aj (qy h)).2 (.ret _)
def WM:(al×Node×List Seen)→(Node×Int×Bool×Int):=fun(m,n,s)=>wJ m n s true
def aew:ax:=⟨[aR,aF,(.slice aG)], [aF,yI,.bool,yI],(@tt (al×Node×List Seen)),WM⟩
theorem ag8:Sd 40 aew:=aP ap bR true 93 [] [⟨40,10, [[3,6,10,12,13]]⟩,⟨53,0, [[0,1,2], [], [6,10,13]]⟩,⟨86,0, [[0,1,2,3], [6,10,13]]⟩] (fun A (m,n,seen)=>abA A m n seen) yg Z1 (fc Tryz.func40 (fc Tryz.func52 (fc Tryz.func53 (fc Tryz.func86 (fc Tryz.func139 fz))))) (sc xx (sc ahh (sc GK (sc acv (sc WG (sc QL sz)))))) (fun A y=>match y with |.c0 p=>⟨42,by kernel_rfl,by kernel_rfl⟩|.c1 p=>⟨125,by kernel_rfl,by kernel_rfl⟩|.c2 p=>⟨125,by kernel_rfl,by kernel_rfl⟩|.c3 p=>⟨51,by kernel_rfl,by kernel_rfl⟩|.c4 p=>⟨51,by kernel_rfl,by kernel_rfl⟩) fun(m,n,seen) hp h=>ag7
theorem Dm{x:List UInt8}:ah.z .neq x x=false:=by show(!(x==x))=false;simp
theorem RS{x:Int}:ah.c .neq x x=false:=by rw[aU];simp
instance:DecidableEq dq:=inferInstanceAs (DecidableEq (List Int×Int))
instance:DecidableEq cy:=inferInstanceAs (DecidableEq (Int×Int×Int×Int×Int))
instance:DecidableEq mj:=inferInstanceAs (DecidableEq (Int×Int×Int×Int×Int×Int×Int))
instance:DecidableEq cr:=inferInstanceAs (DecidableEq (Int×List Int×List dq×Int×Int))
def agn:DecidableEq (Int×Bool×Int×cr):=inferInstance
def acE:DecidableEq (cy×mj×Int×Bool×Int×cr):=have:=agn;inferInstance
instance:DecidableEq Node:=have:=acE;inferInstanceAs (DecidableEq (Int×Int×(cy×mj×Int×Bool×Int×cr)))
structure Xp where
 (a1 a2:cr)
inductive VX where
 | c0 (p:Xp) (a0:Int)
noncomputable def XI:VX→eD
 | .c0 p a0=>⟨[⟨120,80,(en [(2,.ptr 0 0),(3,.ptr 1 0),(5,vi a0)]),[.inLoop (cw Tryz.f120 [1,1,0,1,0,0]),.inBlock 0,.code (cw Tryz.f120 [1,1,1])],[],none⟩],[.flat false (dc lb p.a1),.flat false (dc lb p.a2),.dead]⟩
def YV(A:aI)(a:cr)(b:cr):LT Bool VX:=.br (A.c .neq a.1 b.1) (.ret false) (.br (A.z .neq (A.bytes a.2.1) (A.bytes b.2.1)) (.ret false) (.br (A.c .neq a.2.2.2.1 b.2.2.2.1) (.ret false) (.br (A.c .neq a.2.2.2.2 b.2.2.2.2) (.ret false) (.br (A.c .neq (A.l a.2.2.1) (A.l b.2.2.1)) (.ret false) (.more (.c0 ⟨a,b⟩ 0))))))
def Ro(A:aI):VX→LT Bool VX
 | .c0 p a0=>.br (A.c .lss a0 (A.l p.a1.2.2.1)) (.need (A.and (A.c .leq 0 a0) (A.c .lss a0 (A.l p.a1.2.2.1))) (.need (A.and (A.c .leq 0 a0) (A.c .lss a0 (A.l p.a2.2.2.1))) (.br (A.z .neq (A.bytes (A.n ei p.a1.2.2.1 a0:dq).1) (A.bytes (A.n ei p.a2.2.2.1 a0:dq).1)) (.ret false) (.need (A.and (A.c .leq 0 a0) (A.c .lss a0 (A.l p.a1.2.2.1))) (.need (A.and (A.c .leq 0 a0) (A.c .lss a0 (A.l p.a2.2.2.1))) (.br (A.c .neq (A.n ei p.a1.2.2.1 a0:dq).2 (A.n ei p.a2.2.2.1 a0:dq).2) (.ret false) (.more (.c0 p (A.b .add .i64 a0 1))))))))) (.ret true)
theorem K_{c:cr}(hl:c.2.2.1.length≤140737488355328):∀(j i:Nat),c.2.2.1.length-i=j→i≤c.2.2.1.length→au (Ro ah) (.more (.c0 ⟨c,c⟩ (i:Int))) true:=by
 intro j
 induction j with
 | zero=>
   intro i hj hi
   rw[ak,Ro]
   exact(ai (by rw[JB];exact aX (show ¬i<c.2.2.1.length by omega))).2 (.ret _)
 | succ j ih=>
   intro i hj hi
   have hi':i<c.2.2.1.length:=by omega
   rw[ak,Ro]
   refine(aj (by rw[JB];exact aK hi')).2 (af.2 ⟨aO hi',af.2 ⟨aO hi',(ai Dm).2 (af.2 ⟨aO hi',af.2 ⟨aO hi',(ai RS).2 ?_⟩⟩)⟩⟩)
   rw[bU (i:=i) (by omega)]
   exact ih (i+1) (by omega) (by omega)
theorem aav{a b:cr}(hl:a.2.2.1.length≤140737488355328)(h:a=b):au (Ro ah) (YV ah a b) true:=by
 subst h
 unfold YV
 refine(ai (by rw[aU];simp)).2 ((ai Dm).2 ((ai (by rw[aU];simp)).2 ((ai (by rw[aU];simp)).2 ((ai (by rw[aU];simp)).2 (K_ hl _ 0 rfl (by omega))))))
def WT:(cr×cr)→Bool:=fun _=>true
def Pt:(cr×cr)→Bool:=fun(a,b)=>decide (a=b)
def adG:ax:=⟨[lb,lb], [.bool],Pt,WT⟩
theorem aeA:Sd 120 adG:=aP ap bR true 62 [⟨120,4, [[2,3,5]]⟩] [] (fun A (a,b)=>YV A a b) Ro XI (fc Tryz.func120 fz) sz (fun A y=>match y with |.c0 p a0=>⟨60,by kernel_rfl,by kernel_rfl⟩) fun((a,b):cr×cr) hp h=>aav h.1.2.2.1.1 (of_decide_eq_true hp)
def abp(A:aI)(a:Node)(b:Node):LT Bool Empty:=.br (A.c .eql a.1 b.1) (.br (A.c .eql a.2.1 b.2.1) (.br (A.and (A.c .eql a.2.2.1.1 b.2.2.1.1) (A.and (A.c .eql a.2.2.1.2.1 b.2.2.1.2.1) (A.and (A.c .eql a.2.2.1.2.2.1 b.2.2.1.2.2.1) (A.and (A.c .eql a.2.2.1.2.2.2.1 b.2.2.1.2.2.2.1) (A.and (A.c .eql a.2.2.1.2.2.2.2 b.2.2.1.2.2.2.2) true))))) (.br (A.and (A.c .eql a.2.2.2.1.1 b.2.2.2.1.1) (A.and (A.c .eql a.2.2.2.1.2.1 b.2.2.2.1.2.1) (A.and (A.c .eql a.2.2.2.1.2.2.1 b.2.2.2.1.2.2.1) (A.and (A.c .eql a.2.2.2.1.2.2.2.1 b.2.2.2.1.2.2.2.1) (A.and (A.c .eql a.2.2.2.1.2.2.2.2.1 b.2.2.2.1.2.2.2.2.1) (A.and (A.c .eql a.2.2.2.1.2.2.2.2.2.1 b.2.2.2.1.2.2.2.2.2.1) (A.and (A.c .eql a.2.2.2.1.2.2.2.2.2.2 b.2.2.2.1.2.2.2.2.2.2) true))))))) (.br (A.c .eql a.2.2.2.2.1 b.2.2.2.2.1) (.br (A.q a.2.2.2.2.2.1 b.2.2.2.2.2.1) (.br (A.c .eql a.2.2.2.2.2.2.1 b.2.2.2.2.2.2.1) (.need (A.k Pt (a.2.2.2.2.2.2.2,b.2.2.2.2.2.2.2)) (.ret (A.k WT (a.2.2.2.2.2.2.2,b.2.2.2.2.2.2.2)))) (.ret false)) (.ret false)) (.ret false)) (.ret false)) (.ret false)) (.ret false)) (.ret false)
theorem X1{a b:Node}(h:a=b):au Empty.elim (abp ah a b) true:=by
 subst h
 unfold abp
 have e:∀x:Int,ah.c .eql x x=true:=fun x=>by rw[aN];simp
 refine(aj (e _)).2 ((aj (e _)).2 ((aj (by rw[e,e,e,e,e];rfl)).2 ((aj (by rw[e,e,e,e,e,e,e];rfl)).2 ((aj (e _)).2 ((aj (by rw[vA];simp)).2 ((aj (e _)).2 (af.2 ⟨aK rfl,.ret _⟩)))))))
def Wq:(Node×Node)→Bool:=fun _=>true
def IN:(Node×Node)→Bool:=fun(a,b)=>decide (a=b)
def acC:ax:=⟨[aF,aF], [.bool],IN,Wq⟩
theorem adX:Sd 59 acC:=aZ ap bR true 70 [] (fun A (a,b)=>abp A a b) (fc Tryz.func59 fz) (sc aeA sz) fun((a,b):Node×Node) hp h=>X1 (of_decide_eq_true hp)
abbrev fU(A:aI)(m:al)(n:Node):=(A.k gK (m,n,(A.c .eql n.2.1 1)))
def Xr(A:aI)(m:al)(n:Node):LT (Node×mr×Bool×Int) Empty:=.need (A.k (@tt (al×Node×Bool)) (m,n,(A.c .eql n.2.1 1))) (.br (A.c .neq (fU A m n).2 0) (.ret ((0,0,(0,0,0,0,0),(0,0,0,0,0,0,0),0,false,0,0,([]:List Int),([]:List dq),0,0),(0,0,(0,0,0,0,0),0,([]:List Int)),false,(fU A m n).2)) (.br (A.c .gtr (A.b .sub .i64 (fU A m n).1.2.2.2.2.1 1) 0) (.ret (((fU A m n).1.1,(fU A m n).1.2.1,(fU A m n).1.2.2.1,(fU A m n).1.2.2.2.1,(A.b .sub .i64 (fU A m n).1.2.2.2.2.1 1),(fU A m n).1.2.2.2.2.2),(0,0,(0,0,0,0,0),0,([]:List Int)),false,0)) (.need (A.and (A.c .leq 0 (fU A m n).1.1) (A.c .lss (fU A m n).1.1 (A.l m.2.2.2.2.2.2.1))) (.br (A.not (A.n .bool m.2.2.2.2.2.2.1 (fU A m n).1.1:Bool)) (.need (A.k (@tt (al×Int)) (m,(fU A m n).1.1)) (.ret (((fU A m n).1.1,(fU A m n).1.2.1,(fU A m n).1.2.2.1,(fU A m n).1.2.2.2.1,(A.k vp (m,(fU A m n).1.1)),(fU A m n).1.2.2.2.2.2),(0,0,(0,0,0,0,0),0,([]:List Int)),false,0))) (.need (A.c .leq 0 (fU A m n).1.1) (.ret (((fU A m n).1.1,2,(0,(fU A m n).1.1,0,0,(A.b .shl .i64 1 (fU A m n).1.1)),((fU A m n).1.1,m.1,(A.b .shl .i64 1 (fU A m n).1.1),1,0,0,0),0,(fU A m n).1.2.2.2.2.2),(1,0,(0,0,0,0,0),(fU A m n).1.1,([]:List Int)),true,0)))))))
def uA:mr:=(0,0,(0,0,0,0,0),0,([]:List Int))
def Av(m:al)(n:Node):Node×mr×Bool×Int:=
 bif decide (bo m n=0) then
  bif decide (n.2.1=1) then
   bif decide (0<n.2.2.2.2.1-1) then((n.1,n.2.1,n.2.2.1,n.2.2.2.1,n.2.2.2.2.1-1,n.2.2.2.2.2),uA,false,0)
   else bif (ah.n .bool m.2.2.2.2.2.2.1 n.1:Bool) then((n.1,2,(0,n.1,0,0,ah.b .shl .i64 1 n.1),(n.1,m.1,ah.b .shl .i64 1 n.1,1,0,0,0),0,n.2.2.2.2.2),(1,0,(0,0,0,0,0),n.1,([]:List Int)),true,0)
   else((n.1,n.2.1,n.2.2.1,n.2.2.2.1,(o8 m n.1).1,n.2.2.2.2.2),uA,false,0)
  else(fu,uA,false,181)
 else(fu,uA,false,bo m n)
theorem TQ{m:al}{n:Int}:(o8 m n).1≤9223372036854775807:=by
 unfold o8
 cases decide (jJ m n=0)
 ·exact(by decide:(0:Int)≤9223372036854775807)
 ·rw[cond_true,ck,IntKind.wrap_i64];omega
theorem Vm{m:al}{n:Node}(h:bo m n=0)(h1:n.2.1=1):1≤n.2.2.2.2.1∧ah.b .sub .i64 n.2.2.2.2.1 1=n.2.2.2.2.1-1:=by
 have hc:=(bT.1 (a_ h).2).2.2.2.2.2.2.2.2.1
 rw[wu,aK h1,cond_true,jV] at hc
 have:=@TQ m n.1
 exact⟨hc.1,by rw[cu,iZ (by omega) (by omega)]⟩
theorem age{m:al}{n:Node}:au Empty.elim (Xr ah m n) (Av m n):=by
 unfold Xr fU Av
 refine af.2 ⟨rfl,?_⟩
 rw[show ah.k gK (m,n,ah.c .eql n.2.1 1)=iD m n (ah.c .eql n.2.1 1) from rfl,aN,iD]
 by_cases h:bo m n=0
 ·rw[aK h,cond_true,cond_true]
  by_cases h1:n.2.1=1
  ·obtain⟨ht,es⟩:=Vm h h1
   have hi:=(bT.1 (a_ h).2).1
   have hl:=cY (a_ h).1
   rw[aK h1,cond_true,cond_true,es]
   refine(ai rfl).2 (aB (p:=0<n.2.2.2.2.1-1) rfl (fun h2=>?_) fun h2=>af.2 ⟨rz hl.2.2.1 hi.1 (show n.1<m.1 by omega),?_⟩)
   ·exact ay (by rw[aK h2];rfl) (.ret _)
   rw[aX h2,cond_false]
   show au Empty.elim (.br (ah.not (ah.n .bool m.2.2.2.2.2.2.1 n.1:Bool)) _ _) _
   cases (ah.n .bool m.2.2.2.2.2.2.1 n.1:Bool)
   ·exact(aj rfl).2 (af.2 ⟨rfl,.ret _⟩)
   ·refine(ai rfl).2 (af.2 ⟨aK (show 0≤n.1 from hi.1),?_⟩)
    exact .ret _
  ·rw[aX h1]
   exact(aj rfl).2 (.ret _)
 ·rw[aX h];exact(aj (qy h)).2 (.ret _)
def Gp:(al×Node)→(Node×mr×Bool×Int):=fun(m,n)=>Av m n
def aeY:ax:=⟨[aR,aF], [aF,yb,.bool,yI],(@tt (al×Node)),Gp⟩
theorem adZ:Sd 256 aeY:=aZ ap bR true 130 [] (fun A (m,n)=>Xr A m n) (fc Tryz.func256 (fc Tryz.func139 fz)) (sc xx (sc GK sz)) fun(m,n) hp h=>age
abbrev lw(A:aI)(m:al)(n:Node):=(A.k gK (m,n,(A.k fB n)))
abbrev C4(A:aI)(m:al)(n:Node):=(A.k WV ((lw A m n).1.2.2.1,m.1))
abbrev Qk(A:aI)(m:al)(n:Node):LT (Node×Int) Empty:=(.ret (((lw A m n).1.1,(lw A m n).1.2.1,(C4 A m n).1,(lw A m n).1.2.2.2),(C4 A m n).2))
def YH(A:aI)(m:al)(n:Node):LT (Node×Int) Empty:=.need (A.k (@tt Node) n) (.need (A.k (@tt (al×Node×Bool)) (m,n,(A.k fB n))) (.need (A.k (@tt (al×Node×Bool)) (m,n,(A.k fB n))) (.need (A.k (@tt Node) n) (.br (A.c .neq (lw A m n).2 0) (.ret ((0,0,(0,0,0,0,0),(0,0,0,0,0,0,0),0,false,0,0,([]:List Int),([]:List dq),0,0),(lw A m n).2)) (.need (A.k (@tt (cy×Int)) ((lw A m n).1.2.2.1,m.1)) (.br (A.c .eql (C4 A m n).2 0) (.br (A.c .eql (C4 A m n).1.2.1 0) (.need (A.k (@tt cr) (lw A m n).1.2.2.2.2.2.2.2) (.ret (((lw A m n).1.1,(lw A m n).1.2.1,(C4 A m n).1,(lw A m n).1.2.2.2.1,(lw A m n).1.2.2.2.2.1,(lw A m n).1.2.2.2.2.2.1,(lw A m n).1.2.2.2.2.2.2.1,(A.k Pd (lw A m n).1.2.2.2.2.2.2.2).1),(A.k Pd (lw A m n).1.2.2.2.2.2.2.2).2))) (Qk A m n)) (Qk A m n)))))))
def B4(m:al)(n:Node):Node×Int:=
 bif decide (bo m n=0) then
  bif jZ n then
   bif decide ((kF n.2.2.1 m.1).1.2.1=0) then((n.1,n.2.1,(kF n.2.2.1 m.1).1,n.2.2.2.1,n.2.2.2.2.1,n.2.2.2.2.2.1,n.2.2.2.2.2.2.1,(BY n.2.2.2.2.2.2.2).1),0)
   else((n.1,n.2.1,(kF n.2.2.1 m.1).1,n.2.2.2),0)
  else(fu,181)
 else(fu,bo m n)
theorem step_ok{m:al}{n:Node}(h:bo m n=0)(h1:jZ n=true):(kF n.2.2.1 m.1).2=0:=by
 have hc:=(bT.1 (a_ h).2).2.2.2.2.2.2.2.1
 rw[tg,h1,cond_true,cd] at hc
 have hf:=hc.1
 simp only[dY,cd,jV] at hf
 rw[kF,aK hf.1]
 cases decide (n.2.2.1.2.1+1=m.1)<;>cases decide (n.2.2.1.2.2.2.1=0)<;>rfl
theorem ZZ{m:al}{n:Node}(h:bo m n=0):(BY n.2.2.2.2.2.2.2).2=0:=by
 rw[BY,rq h];rfl
theorem agD{m:al}{n:Node}:au Empty.elim (YH ah m n) (B4 m n):=by
 unfold YH Qk C4 lw B4
 refine af.2 ⟨rfl,af.2 ⟨rfl,?_⟩⟩
 repeat' (refine af.2 ⟨rfl,?_⟩)
 rw[show ah.k gK (m,n,ah.k fB n)=iD m n (jZ n) from rfl,iD]
 by_cases h:bo m n=0
 ·rw[aK h,cond_true,cond_true]
  cases h1:jZ n
  ·exact(aj rfl).2 (.ret _)
  have hs:=step_ok h h1
  have hr:=ZZ h
  rw[cond_true,cond_true]
  refine(ai rfl).2 (af.2 ⟨rfl,(aj (On hs)).2 (aB (p:=(kF n.2.2.1 m.1).1.2.1=0) aN (fun h2=>af.2 ⟨rfl,ay ?_ (.ret _)⟩) fun h2=>ay ?_ (.ret _))⟩)
  ·rw[aK h2];exact congrArg (Prod.mk _) hr
  ·rw[aX h2];exact congrArg (Prod.mk _) hs
 ·rw[aX h];exact(aj (qy h)).2 (.ret _)
def WY:(al×Node)→(Node×Int):=fun(m,n)=>B4 m n
def acx:ax:=⟨[aR,aF], [aF,yI],(@tt (al×Node)),WY⟩
theorem afW:Sd 17 acx:=aZ ap bR true 80 [] (fun A (m,n)=>YH A m n) (fc Tryz.func17 fz) (sc sL (sc xx (sc agC (sc acZ sz)))) fun(m,n) hp h=>agD
def t23(A:aI)(mId:Int)(mN:Int)(mSet:Int)(mAcc:Int)(mFail:Int)(mStage:Int)(mFirst:Int):LT (mj×Int×Int) Empty:=.need (A.k (@tt ((Int×Int×Int×Int×Int×Int×Int))) (mId,mN,mSet,mAcc,mFail,mStage,mFirst)) (.br (A.c .neq (A.k lW (mId,mN,mSet,mAcc,mFail,mStage,mFirst)) 0) (.ret ((0,0,0,0,0,0,0),0,(A.k lW (mId,mN,mSet,mAcc,mFail,mStage,mFirst)))) (.br (A.c .leq mAcc mFail) (.ret ((mId,mN,mSet,mAcc,mFail,mStage,mFirst),2,0)) (.need (A.c .leq 0 mId) (.ret ((mId,mN,(A.b .or .i64 mSet (A.b .shl .i64 1 mId)),1,0,1,0),1,0)))))
def qU:mj→(mj×Int×Int):=fun(mId,mN,mSet,mAcc,mFail,mStage,mFirst)=>(t23 ah mId mN mSet mAcc mFail mStage mFirst).val (Ty.bi [kX,yI,yI])
def ahW:ax:=⟨[kX], [kX,yI,yI],(@tt mj),qU⟩
theorem agA:Sd 326 ahW:=aH ap bR true 67 [] (fun A (mId,mN,mSet,mAcc,mFail,mStage,mFirst)=>t23 A mId mN mSet mAcc mFail mStage mFirst) (fc Tryz.func326 fz) (sc H8 sz) (fun((mId,mN,mSet,mAcc,mFail,mStage,mFirst):mj) hp h=>by
 show(t23 ah mId mN mSet mAcc mFail mStage mFirst).pre=true
 simp only[t23,LT.pre,Gk,bne_iff_ne,beq_iff_eq,bne_eq_false_iff_eq,beq_eq_false_iff_ne]
 simp only[Ty.cN,Ty.has,ml] at h
 (repeat' (first|intro _|constructor))<;>(try (have hm:=dJ.1 (by assumption);unfold iY at hm;omega)))
def t27(A:aI)(mId:Int)(mN:Int)(mSet:Int)(mAcc:Int)(mFail:Int)(mStage:Int)(mFirst:Int):LT (mj×Int×Int) Empty:=.need (A.k (@tt ((Int×Int×Int×Int×Int×Int×Int))) (mId,mN,mSet,mAcc,mFail,mStage,mFirst)) (.br (A.c .eql (A.k lW (mId,mN,mSet,mAcc,mFail,mStage,mFirst)) 0) (.br (A.c .eql mAcc 0) (.br (A.c .eql mFail 0) (.ret ((mId,mN,mSet,mAcc,mFail,mStage,mFirst),3,0)) (.need (A.k (@tt mj) (mId,mN,mSet,mAcc,mFail,mStage,mFirst)) (.ret (A.k qU (mId,mN,mSet,mAcc,mFail,mStage,mFirst))))) (.need (A.k (@tt mj) (mId,mN,mSet,mAcc,mFail,mStage,mFirst)) (.ret (A.k qU (mId,mN,mSet,mAcc,mFail,mStage,mFirst))))) (.need (A.k (@tt mj) (mId,mN,mSet,mAcc,mFail,mStage,mFirst)) (.ret (A.k qU (mId,mN,mSet,mAcc,mFail,mStage,mFirst)))))
def wz:mj→(mj×Int×Int):=fun(mId,mN,mSet,mAcc,mFail,mStage,mFirst)=>(t27 ah mId mN mSet mAcc mFail mStage mFirst).val (Ty.bi [kX,yI,yI])
def aiU:ax:=⟨[kX], [kX,yI,yI],(@tt mj),wz⟩
theorem ahT:Sd 327 aiU:=aH ap bR true 43 [] (fun A (mId,mN,mSet,mAcc,mFail,mStage,mFirst)=>t27 A mId mN mSet mAcc mFail mStage mFirst) (fc Tryz.func327 fz) (sc agA (sc H8 sz)) (fun((mId,mN,mSet,mAcc,mFail,mStage,mFirst):mj) hp h=>by
 show(t27 ah mId mN mSet mAcc mFail mStage mFirst).pre=true
 simp only[t27,LT.pre,Gk,bne_iff_ne,beq_iff_eq,bne_eq_false_iff_eq,beq_eq_false_iff_ne]
 simp only[Ty.cN,Ty.has,ml,x_] at h
 (repeat' (first|intro _|constructor))<;>(try omega))
abbrev OI(A:aI)(n:Node):LT (mj×Int) Empty:=(.br (A.c .eql n.2.1 3) (.need (A.k (@tt mj) n.2.2.2.1) (.br (A.c .neq (A.k wz n.2.2.2.1).2.2 0) (.ret (n.2.2.2.1,4)) (.ret ((A.k wz n.2.2.2.1).1,(A.k wz n.2.2.2.1).2.1)))) (.need (A.k (@tt mj) n.2.2.2.1) (.br (A.c .neq (A.k qU n.2.2.2.1).2.2 0) (.ret (n.2.2.2.1,4)) (.ret ((A.k qU n.2.2.2.1).1,(A.k qU n.2.2.2.1).2.1)))))
def YT(A:aI)(n:Node):LT (mj×Int) Empty:=.br (A.c .eql n.2.1 2) (.br (A.c .lss n.2.2.2.1.2.2.2.1 2) (.ret (n.2.2.2.1,4)) (.br (A.c .leq n.2.2.2.1.2.2.2.1 n.2.2.2.1.2.2.2.2.1) (.ret (n.2.2.2.1,4)) (OI A n))) (OI A n)
def nJ(n:Node):mj×Int:=bif decide (n.2.1=2)&&(decide (n.2.2.2.1.2.2.2.1<2)||decide (n.2.2.2.1.2.2.2.1≤n.2.2.2.1.2.2.2.2.1)) then(n.2.2.2.1,4) else bif decide (n.2.1=3) then((wz n.2.2.2.1).1,(wz n.2.2.2.1).2.1) else((qU n.2.2.2.1).1,(qU n.2.2.2.1).2.1)
theorem SP{v:mj}(h:oI v=0):(qU v).2.2=0:=by
 obtain⟨a,b,c,d,e,f,g⟩:=v
 simp only[qU,t23,LT.val,aA,chk,h]
 cases ah.c .leq d e<;>rfl
theorem adl{n:Node}(h:oI n.2.2.2.1=0):au Empty.elim (YT ah n) (nJ n):=by
 unfold YT OI nJ
 have h23:=SP h
 have h27:(wz n.2.2.2.1).2.2=0:=by
  generalize n.2.2.2.1=v at *
  obtain⟨a,b,c,d,e,f,g⟩:=v
  simp only[wz,t27,LT.val,aA,chk,h]
  simp only[Bool.cond_eq_ite]
  repeat' split
  all_goals first|rfl|exact h23
 have e23:ah.c .neq (ah.k qU n.2.2.2.1).2.2 0=false:=BU h23
 have e27:ah.c .neq (ah.k wz n.2.2.2.1).2.2 0=false:=BU h27
 refine aB (p:=n.2.1=2) aN (fun g=>aB (p:=n.2.2.2.1.2.2.2.1<2) rfl (fun g1=>ay ?_ (.ret _)) fun g1=>aB (p:=n.2.2.2.1.2.2.2.1≤n.2.2.2.1.2.2.2.2.1) rfl (fun g2=>ay ?_ (.ret _)) fun g2=>(ai (by rw[aN];exact aX (by omega))).2 (af.2 ⟨rfl,(ai e23).2 (ay ?_ (.ret _))⟩)) fun g=>aB (p:=n.2.1=3) aN (fun g3=>af.2 ⟨rfl,(ai e27).2 (ay ?_ (.ret _))⟩) fun g3=>af.2 ⟨rfl,(ai e23).2 (ay ?_ (.ret _))⟩
 ·rw[aK g,aK g1];rfl
 ·rw[aK g,aK g2,Bool.or_true];rfl
 ·rw[aK g,aX g1,aX g2,aX (show ¬n.2.1=3 by omega)];rfl
 ·rw[aX g,aK g3];rfl
 ·rw[aX g,aX g3];rfl
def Ay:Node→(mj×Int):=nJ
def NO:Node→Bool:=fun n=>decide (oI n.2.2.2.1=0)
def ae1:ax:=⟨[aF], [kX,yI],NO,Ay⟩
theorem aeb:Sd 294 ae1:=aZ ap bR true 83 [] (fun A n=>YT A n) (fc Tryz.func294 fz) (sc agA (sc ahT sz)) fun(n:Node) hp h=>adl (of_decide_eq_true hp)
def aaz(m:al)(k n:Int):Int:=ah.n yI (ah.n bW m.2.2.2.2.2.2.2 k:Mode).1 n
def Lc(m:al)(n:Node):Int:=aaz m n.2.2.1.2.2.1 n.1
def afQ(m:al)(n:Node):Int:=bif decide ((Az m n.2.2.1 n.2.2.2.2.2.2.2.2.2.2.2).2=0) then(Az m n.2.2.1 n.2.2.2.2.2.2.2.2.2.2.2).1 else 0
def Cr(m:al)(n:Node):mr:=((fV m n.2.2.1.2.2.1 n.1).1,afQ m n,n.2.2.1,0,bif decide ((fV m n.2.2.1.2.2.1 n.1).1=3) then([]:List Int) else(A8 n.2.2.2.2.2.2.2 (Lc m n)).1)
def K9(m:al)(n:Node):Bool:=decide ((fV m n.2.2.1.2.2.1 n.1).2=0)&&dK n.2.2.2.2.2.2.2
theorem TX{m:al}{n:Int}(hm:du m=true)(h1:0≤n∧n≤m.1-1)(x:Mode)(hx:jO m x=true):0≤x.1.getD n.toNat 0∧x.1.getD n.toNat 0≤8:=by
 have hl:=oO hx
 have hc:=(cY hm).2.2.1
 simp only[jO,cd] at hx
 have ha:=hx.2
 have l1:m.2.2.2.2.2.2.1.length=x.1.length:=by omega
 have l2:x.2.1.length=x.1.length:=by omega
 rw[tG l1 l2,cd] at ha
 have hi:n.toNat<x.1.length:=by omega
 rw[nE,uX hi]
 have:=List.all_eq_true.1 ha.1 _ (List.getElem_mem hi)
 simpa using this
theorem OO{m:al}{k n:Int}(hm:du m=true)(h1:0≤n∧n≤m.1-1)(h2:0≤k∧k<dw m):0≤aaz m k n∧aaz m k n≤8:=TX hm h1 _ (vC hm h2.1 h2.2)
theorem Q8{c:cr}{k:Int}(h:dK c=true)(h1:0≤k∧k≤8):(A8 c k).2=0:=by
 rw[A8,h,cond_true,aK h1];rfl
abbrev KV(A:aI)(m:al)(n:Node):=(A.n yI (A.n bW m.2.2.2.2.2.2.2 n.2.2.1.2.2.1:Mode).1 n.1:Int)
abbrev uH(A:aI)(m:al)(n:Node):=(A.k sT (m,n.2.2.1.2.2.1,n.1))
abbrev GU(A:aI)(m:al)(n:Node):=(A.k NR (n.2.2.2.2.2.2.2,(KV A m n)))
abbrev RV(A:aI)(m:al)(n:Node):=(A.and (A.c .leq 0 n.1) (A.c .lss n.1 (A.l (A.n bW m.2.2.2.2.2.2.2 n.2.2.1.2.2.1:Mode).1)))
def abS(A:aI)(m:al)(n:Node):LT (mr×Int) Empty:=.need (A.k (@tt (al×Int×Int)) (m,n.2.2.1.2.2.1,n.1)) (.br (A.c .neq (uH A m n).2 0) (.ret ((0,0,(0,0,0,0,0),0,([]:List Int)),(uH A m n).2)) (.need (A.k (@tt (al×cy×Int)) (m,n.2.2.1,n.2.2.2.2.2.2.2.2.2.2.2)) (.br (A.c .eql (A.k Gz (m,n.2.2.1,n.2.2.2.2.2.2.2.2.2.2.2)).2 0) (.br (A.c .eql (uH A m n).1 3) (.ret (((uH A m n).1,(A.k Gz (m,n.2.2.1,n.2.2.2.2.2.2.2.2.2.2.2)).1,n.2.2.1,0,([]:List Int)),0)) (.need (A.and (A.c .leq 0 n.2.2.1.2.2.1) (A.c .lss n.2.2.1.2.2.1 (A.l m.2.2.2.2.2.2.2))) (.need (RV A m n) (.need (A.k (@tt (cr×Int)) (n.2.2.2.2.2.2.2,(KV A m n))) (.ret (((uH A m n).1,(A.k Gz (m,n.2.2.1,n.2.2.2.2.2.2.2.2.2.2.2)).1,n.2.2.1,0,(GU A m n).1),(GU A m n).2)))))) (.br (A.c .eql (uH A m n).1 3) (.ret (((uH A m n).1,0,n.2.2.1,0,([]:List Int)),0)) (.need (A.and (A.c .leq 0 n.2.2.1.2.2.1) (A.c .lss n.2.2.1.2.2.1 (A.l m.2.2.2.2.2.2.2))) (.need (RV A m n) (.need (A.k (@tt (cr×Int)) (n.2.2.2.2.2.2.2,(KV A m n))) (.ret (((uH A m n).1,0,n.2.2.1,0,(GU A m n).1),(GU A m n).2)))))))))
theorem ahn{m:al}{n:Node}(h:K9 m n=true):au Empty.elim (abS ah m n) (Cr m n,0):=by
 rw[K9,cd,jV] at h
 obtain⟨hm,h1,h2⟩:=rA h.1
 have hx:=oO (vC hm h2.1 h2.2)
 have hz:=Q8 h.2 (OO hm h1 h2)
 unfold abS RV GU uH KV Cr afQ
 rw[show ah.k sT (m,n.2.2.1.2.2.1,n.1)=fV m n.2.2.1.2.2.1 n.1 from rfl,show ah.k Gz (m,n.2.2.1,n.2.2.2.2.2.2.2.2.2.2.2)=Az m n.2.2.1 n.2.2.2.2.2.2.2.2.2.2.2 from rfl,show ah.k NR (n.2.2.2.2.2.2.2,(ah.n yI (ah.n bW m.2.2.2.2.2.2.2 n.2.2.1.2.2.1:Mode).1 n.1:Int))=A8 n.2.2.2.2.2.2.2 (Lc m n) from rfl]
 have tl:∀q:Int,au (R:=mr×Int) Empty.elim (.br (ah.c .eql (fV m n.2.2.1.2.2.1 n.1).1 3) (.ret (((fV m n.2.2.1.2.2.1 n.1).1,q,n.2.2.1,0,([]:List Int)),0)) (.need (ah.and (ah.c .leq 0 n.2.2.1.2.2.1) (ah.c .lss n.2.2.1.2.2.1 (ah.l m.2.2.2.2.2.2.2))) (.need (ah.and (ah.c .leq 0 n.1) (ah.c .lss n.1 (ah.l (ah.n bW m.2.2.2.2.2.2.2 n.2.2.1.2.2.1:Mode).1))) (.need true (.ret (((fV m n.2.2.1.2.2.1 n.1).1,q,n.2.2.1,0,(A8 n.2.2.2.2.2.2.2 (Lc m n)).1),(A8 n.2.2.2.2.2.2.2 (Lc m n)).2)))))) (((fV m n.2.2.1.2.2.1 n.1).1,q,n.2.2.1,0,bif decide ((fV m n.2.2.1.2.2.1 n.1).1=3) then([]:List Int) else(A8 n.2.2.2.2.2.2.2 (Lc m n)).1),0):=fun q=>
  aB (p:=(fV m n.2.2.1.2.2.1 n.1).1=3) aN (fun g=>ay (by rw[aK g];rfl) (.ret _)) fun g=>af.2 ⟨rP h2.1 h2.2,af.2 ⟨rz hx.1 h1.1 (by omega),af.2 ⟨rfl,ay (by rw[aX g,show(A8 n.2.2.2.2.2.2.2 (Lc m n)).2=0 from hz];rfl) (.ret _)⟩⟩⟩
 refine af.2 ⟨rfl,(ai (BU h.1)).2 (af.2 ⟨rfl,aB (p:=(Az m n.2.2.1 n.2.2.2.2.2.2.2.2.2.2.2).2=0) aN (fun g=>?_) fun g=>?_⟩)⟩
 ·rw[aK g];exact tl _
 ·rw[aX g];exact tl _
def sC:(al×Node)→(mr×Int):=fun(m,n)=>(Cr m n,0)
def MW:(al×Node)→Bool:=fun(m,n)=>K9 m n
def ade:ax:=⟨[aR,aF], [yb,yI],MW,sC⟩
theorem ac5:Sd 296 ade:=aZ ap bR true 111 [] (fun A (m,n)=>abS A m n) (fc Tryz.func296 fz) (sc WA (sc aeB (sc aff sz))) fun((m,n):al×Node) hp h=>ahn hp
def YW(n:Node)(v:mj):Node:=(n.1,4,(n.2.2.1.1,n.2.2.1.2.1,n.2.2.1.2.2.1,n.2.2.1.2.2.2.1,v.2.2.1),v,n.2.2.2.2.1,false,n.2.2.2.2.2.2)
def Ym(n:Node)(s t:Int)(b:Bool)(st:Int):Node:=(n.1,s,(0,0,0,0,0),(0,0,0,0,0,0,0),t,b,st,n.2.2.2.2.2.2.2)
def UP(m:al)(n:Node):Node×mr×Bool×Int:=((n.1,n.2.1,lD m n.2.2.1 (Cr m n).2.1,n.2.2.2),Cr m n,true,0)
def CV(m:al)(n:Node):Node×mr×Bool×Int:=bif decide ((nJ n).2=2) then(Ym n 5 0 false 1,uA,false,0) else bif decide ((nJ n).2=3) then(Ym n 1 (o8 m n.1).1 n.2.2.2.2.2.1 2,uA,false,0) else bif decide ((nJ n).2=4) then(Ym n 1 (Cm m n.1).1 n.2.2.2.2.2.1 n.2.2.2.2.2.2.1,uA,false,0) else UP m (YW n (nJ n).1)
def ML(m:al)(n:Node):Node×mr×Bool×Int:=bif decide (bo m n=0) then(bif jZ n&&decide (n.2.2.1.2.1=n.1) then CV m n else(fu,uA,false,181)) else(fu,uA,false,bo m n)
theorem kh{m:al}{n:Node}(h:bo m n=0)(h1:jZ n=true):dY m n.2.2.1=true∧oI n.2.2.2.1=0∧n.2.2.2.1.1=n.1∧n.2.2.2.1.2.1=m.1∧n.2.2.1.2.2.2.2=n.2.2.2.1.2.2.1:=by
 have hc:=(bT.1 (a_ h).2).2.2.2.2.2.2.2.1
 rw[tg,h1,cond_true] at hc
 simpa only[cd,jV] using hc
theorem SS{m:al}{k n:Int}(hm:du m=true)(h1:0≤n∧n≤m.1-1)(h2:0≤k∧k<dw m):(fV m k n).2=0:=by
 rw[fV,jJ,hm,cond_true,aK h1,aK (show 0≤k∧k≤dw m-1 by omega)];rfl
theorem uC{m:al}{c:cy}(h:dY m c=true):kJ (c,m.1)=0∧(0≤c.2.2.1∧c.2.2.1<dw m)∧c.2.2.2.1≤dw m:=by
 simp only[dY,cd,jV] at h
 exact⟨h.1,⟨(qM h.1).2.2.2.1.1,h.2.1⟩,h.2.2⟩
theorem Z4{m:al}{n:Node}{v:mj}(h:bo m n=0)(h1:jZ n=true):K9 m (YW n v)=true:=by
 have hz:=bT.1 (a_ h).2
 rw[K9,cd]
 exact⟨aK (SS (a_ h).1 hz.1 (uC (kh h h1).1).2.1),show dK n.2.2.2.2.2.2.2=true from rq h⟩
theorem aa8{m:al}{i:Int}:ah.k vp (m,i)=(o8 m i).1:=rfl
theorem abB{m:al}{i:Int}:ah.k MO (m,i)=(Cm m i).1:=rfl
structure Im where
 (a0:Int) (a1:al) (a2 a3:mj) (a4:Int) (a5:Bool) (a6 a7 a8 a9:Int) (cB:mj) (da:Int) (a12:Node)
structure NM where
 (b0:al) (b1 b2:mj) (b3:Int) (b4:Bool) (b5 b6 b7 b8:Int) (b9:mj) (b10:Int) (b11:Node)
inductive U3 where
 | c0 (p:Im)
 | c1 (p:NM)
noncomputable def YF:U3→eD
 | .c0 p=>⟨[⟨251,91,(en [(2,.ptr 0 0),(4,.ptr 1 0),(5,.ptr 2 0),(8,.ptr 3 0),(9,vi p.a0)]),[.code (cw Tryz.f251 [1,1,0,0]),.code (cw Tryz.f251 [1,1,0,1]),.code (cw Tryz.f251 [1,1,1])],[],none⟩],[.flat false (dc aR p.a1),.flat false (dc kX p.a2++dc kX p.a3 ++ [vi p.a4,vb p.a5,vi p.a6,vi p.a7,.dp true,.dp true,vi p.a8,vi p.a9]),.flat false (dc kX p.cB ++ [vi p.da,.dp true]),.flat false (dc aF p.a12),.dead]⟩
 | .c1 p=>⟨[⟨251,91,(en [(2,.ptr 0 0),(4,.ptr 1 0),(5,.ptr 2 0),(8,.ptr 3 0)]),[.code (cw Tryz.f251 [1,1,1,1,1,1,0]),.code (cw Tryz.f251 [1,1,1,1,1,1,1])],[],none⟩],[.flat false (dc aR p.b0),.flat false (dc kX p.b1++dc kX p.b2 ++ [vi p.b3,vb p.b4,vi p.b5,vi p.b6,.dp true,.dp true,vi p.b7,vi p.b8]),.flat false (dc kX p.b9 ++ [vi p.b10,.dp true]),.flat false (dc aF p.b11),.dead]⟩
def abd(A:aI)(m:al)(n:Node):LT (Node×mr×Bool×Int) U3:=.need (A.k (@tt Node) n) (.br (A.k fB n) (.need (A.k (@tt (al×Node×Bool)) (m,n,(A.c .eql n.2.2.1.2.1 n.1))) (.need (A.k (@tt (al×Node×Bool)) (m,n,(A.c .eql n.2.2.1.2.1 n.1))) (.eqs (((A.k fB n):Bool)=true) (.need (A.k (@tt Node) n) (.more (.c0 ⟨(A.k gK (m,n,(A.c .eql n.2.2.1.2.1 n.1))).2,m,(0,0,0,0,0,0,0),(0,0,0,0,0,0,0),0,false,0,0,0,0,(0,0,0,0,0,0,0),0,(A.k gK (m,n,(A.c .eql n.2.2.1.2.1 n.1))).1⟩)))))) (.need (A.k (@tt (al×Node×Bool)) (m,n,false)) (.need (A.k (@tt (al×Node×Bool)) (m,n,false)) (.eqs (((A.k fB n):Bool)=false) (.need (A.k (@tt Node) n) (.more (.c0 ⟨(A.k gK (m,n,false)).2,m,(0,0,0,0,0,0,0),(0,0,0,0,0,0,0),0,false,0,0,0,0,(0,0,0,0,0,0,0),0,(A.k gK (m,n,false)).1⟩)))))))
def Fv(A:aI):U3→LT (Node×mr×Bool×Int) U3
 | .c0 p=>.br (A.c .neq p.a0 0) (.ret ((0,0,(0,0,0,0,0),(0,0,0,0,0,0,0),0,false,0,0,([]:List Int),([]:List dq),0,0),(0,0,(0,0,0,0,0),0,([]:List Int)),false,p.a0)) (.need (A.k NO p.a12) (.br (A.c .eql (A.k Ay p.a12).2 2) (.ret ((p.a12.1,5,(0,0,0,0,0),(0,0,0,0,0,0,0),0,false,1,p.a12.2.2.2.2.2.2.2),(0,0,(0,0,0,0,0),0,([]:List Int)),false,0)) (.br (A.c .eql (A.k Ay p.a12).2 3) (.need (A.k (@tt (al×Int)) (p.a1,p.a12.1)) (.ret ((p.a12.1,1,(0,0,0,0,0),(0,0,0,0,0,0,0),(A.k vp (p.a1,p.a12.1)),p.a12.2.2.2.2.2.1,2,p.a12.2.2.2.2.2.2.2),(0,0,(0,0,0,0,0),0,([]:List Int)),false,0))) (.br (A.c .eql (A.k Ay p.a12).2 4) (.need (A.k (@tt (al×Int)) (p.a1,p.a12.1)) (.ret ((p.a12.1,1,(0,0,0,0,0),(0,0,0,0,0,0,0),(A.k MO (p.a1,p.a12.1)),p.a12.2.2.2.2.2),(0,0,(0,0,0,0,0),0,([]:List Int)),false,0))) (.more (.c1 ⟨p.a1,p.a2,p.a3,p.a4,p.a5,p.a6,p.a7,p.a8,p.a9,p.cB,p.da,(p.a12.1,4,(p.a12.2.2.1.1,p.a12.2.2.1.2.1,p.a12.2.2.1.2.2.1,p.a12.2.2.1.2.2.2.1,(A.k Ay p.a12).1.2.2.1),(A.k Ay p.a12).1,p.a12.2.2.2.2.1,false,p.a12.2.2.2.2.2.2)⟩))))))
 | .c1 p=>.need (A.k MW (p.b0,p.b11)) (.br (A.c .neq (A.k sC (p.b0,p.b11)).2 0) (.ret ((0,0,(0,0,0,0,0),(0,0,0,0,0,0,0),0,false,0,0,([]:List Int),([]:List dq),0,0),(0,0,(0,0,0,0,0),0,([]:List Int)),false,(A.k sC (p.b0,p.b11)).2)) (.need (A.k (@tt (al×cy×Int)) (p.b0,p.b11.2.2.1,(A.k sC (p.b0,p.b11)).1.2.1)) (.need (A.k (@tt (al×cy×Int)) (p.b0,p.b11.2.2.1,(A.k sC (p.b0,p.b11)).1.2.1)) (.br (A.c .eql (A.k qF (p.b0,p.b11.2.2.1,(A.k sC (p.b0,p.b11)).1.2.1)).2 0) (.ret ((p.b11.1,p.b11.2.1,(A.k qF (p.b0,p.b11.2.2.1,(A.k sC (p.b0,p.b11)).1.2.1)).1,p.b11.2.2.2),(A.k sC (p.b0,p.b11)).1,true,0)) (.ret (p.b11,(A.k sC (p.b0,p.b11)).1,true,0))))))
theorem aah{p:NM}(h:K9 p.b0 p.b11=true):au (Fv ah) (.more (.c1 p)) (UP p.b0 p.b11):=by
 rw[ak,Fv,UP]
 rw[show ah.k sC (p.b0,p.b11)=(Cr p.b0 p.b11,0) from rfl,show ah.k qF (p.b0,p.b11.2.2.1,(Cr p.b0 p.b11,(0:Int)).1.2.1)=xS p.b0 p.b11.2.2.1 (Cr p.b0 p.b11).2.1 from rfl]
 refine af.2 ⟨h,(ai rfl).2 (af.2 ⟨rfl,af.2 ⟨rfl,aB (p:=(xS p.b0 p.b11.2.2.1 (Cr p.b0 p.b11).2.1).2=0) aN (fun g=>ay ?_ (.ret _)) fun g=>ay ?_ (.ret _)⟩⟩)⟩
 ·rw[lD,aK g];rfl
 ·rw[lD,aX g];rfl
theorem XF{p:Im}{m:al}{n:Node}(h0:p.a0=0)(h1:p.a1=m)(h12:p.a12=n)(h:bo m n=0)(hi:jZ n=true):au (Fv ah) (.more (.c0 p)) (CV m n):=by
 subst h1 h12
 rw[ak,Fv,CV,h0,aa8,abB,show ah.k Ay p.a12=nJ p.a12 from rfl]
 refine(ai rfl).2 (af.2 ⟨aK (kh h hi).2.1,aB (p:=(nJ p.a12).2=2) aN (fun g=>ay ?_ (.ret _)) fun g=>aB (p:=(nJ p.a12).2=3) aN (fun g3=>af.2 ⟨rfl,ay ?_ (.ret _)⟩) fun g3=>aB (p:=(nJ p.a12).2=4) aN (fun g4=>af.2 ⟨rfl,ay ?_ (.ret _)⟩) fun g4=>?_⟩)
 ·rw[aK g];rfl
 ·rw[aX g,aK g3];rfl
 ·rw[aX g,aX g3,aK g4];rfl
 ·rw[aX g,aX g3,aX g4]
  exact aah (Z4 h hi)
theorem ajo{m:al}{n:Node}:au (Fv ah) (abd ah m n) (ML m n):=by
 unfold abd ML
 rw[show ah.k fB n=jZ n from rfl]
 refine af.2 ⟨rfl,?_⟩
 have no:∀q:Im,q.a0=(iD m n false).2→au (Fv ah) (.more (.c0 q)) (bif decide (bo m n=0) then(fu,uA,false,181) else(fu,uA,false,bo m n)):=fun q hq=>by
  rw[ak,Fv,hq,iD]
  by_cases h:bo m n=0
  ·rw[aK h];exact(aj rfl).2 (.ret _)
  ·rw[aX h];exact(aj (qy h)).2 (.ret _)
 cases hi:jZ n
 ·exact(ai rfl).2 (af.2 ⟨rfl,af.2 ⟨rfl,tX.2 ⟨rfl,af.2 ⟨rfl,no _ rfl⟩⟩⟩⟩)
 ·refine(aj rfl).2 (af.2 ⟨rfl,af.2 ⟨rfl,tX.2 ⟨rfl,af.2 ⟨rfl,?_⟩⟩⟩⟩)
  rw[show ∀w,ah.k gK (m,n,w)=iD m n w from fun _=>rfl,aN,Bool.true_and]
  by_cases hp:n.2.2.1.2.1=n.1
  ·rw[aK hp,cond_true]
   by_cases h:bo m n=0
   ·have e:iD m n true=(n,0):=by rw[iD,aK h];rfl
    rw[aK h,e]
    exact XF rfl rfl rfl h hi
   ·have:=no ⟨(iD m n true).2,m,(0,0,0,0,0,0,0),(0,0,0,0,0,0,0),0,false,0,0,0,0,(0,0,0,0,0,0,0),0,(iD m n true).1⟩ (by rw[iD,iD,aX h];rfl)
    rw[aX h] at this ⊢
    exact this
  ·rw[aX hp];exact no _ rfl
def Wo:(al×Node)→(Node×mr×Bool×Int):=fun(m,n)=>ML m n
def ac4:ax:=⟨[aR,aF], [aF,yb,.bool,yI],(@tt (al×Node)),Wo⟩
theorem ad_:Sd 251 ac4:=aP ap bR true 39 [] [⟨251,2, [[2,4,5,8,9]]⟩,⟨251,18, [[2,4,5,8]]⟩] (fun A (m,n)=>abd A m n) Fv YF (fc Tryz.func251 (fc Tryz.func53 (fc Tryz.func84 fz))) (sc sL (sc xx (sc GK (sc aeb (sc afB (sc ac5 (sc QL sz))))))) (fun A y=>match y with |.c0 p=>⟨89,by kernel_rfl,by kernel_rfl⟩|.c1 p=>⟨74,by kernel_rfl,by kernel_rfl⟩) fun(m,n) hp h=>ajo
theorem C5{x:Int}:ah.c .neq x x=false:=by rw[aU];simp
theorem PV{a b c d e f g:Int}(h:iY a b c d e f g)(h1:e<d):qU (a,b,c,d,e,f,g)=((a,b,jU c a,1,0,1,0),1,0):=by
 simp[qU,t23,LT.val,aA,aT,ao,dJ.2 h,jU,show ¬d≤e from by omega]
theorem Qa{a b c d e f g:Int}(h:iY a b c d e f g)(h1:d≤e):qU (a,b,c,d,e,f,g)=((a,b,c,d,e,f,g),2,0):=by
 simp[qU,t23,LT.val,aA,aT,ao,dJ.2 h,h1]
theorem inc_le{d:Int}(h0:0≤d)(h1:d≤1048576):0≤inc d∧inc d≤1048576:=by
 unfold inc;split<;>omega
theorem R_{a b c d e f g c' d' e':Int}(h:iY a b c d e f g)(h1:0≤c'∧c'<((2^b.toNat:Nat):Int))(h2:0≤d'∧d'≤1048576)(h3:0≤e'∧e'≤1048576):iY a b c' d' e' 0 0:=by
 unfold iY at h ⊢
 exact⟨h.1,h.2.1,h.2.2.1,h.2.2.2.1,by omega,by omega,h1.1,h1.2,h2.1,h2.2,h3.1,h3.2,by omega,by omega,fun h=>absurd rfl h,fun h=>by omega⟩
theorem Ph{a b c d e f g s k:Int}(h:iY a b c d e f g)(h0:0≤s)(h1:s<b)(h2:s≠a)(hk:k=0∨k=1)(he:(oC ((a,b,c,d,e,f,g),s,k)).2=0) :
  ∃c' d' e' f' g',(oC ((a,b,c,d,e,f,g),s,k)).1=(a,b,c',d',e',f',g')∧iY a b c' d' e' f' g'∧lu c' s=true:=by
 have hm:=h
 unfold iY at hm
 have hp:=tc (n:=b.toNat) (by omega)
 have id:=inc_le (d:=d) (by omega) (by omega)
 have ie:=inc_le (d:=e) (by omega) (by omega)
 have I:=fun {c s:Int} (h:0≤c∧c<((2^b.toNat:Nat):Int)) (h':0≤s∧s<b)=>OW (c:=c) (s:=s) (n:=b) h.1 (by omega) h.2 h'.1 h'.2
 have D:=fun {c s:Int} (h:0≤c∧c<((2^b.toNat:Nat):Int)) (h':0≤s∧s<b)=>N4 (c:=c) (s:=s) (n:=b) h.1 (by omega) h.2 h'.1 (by omega)
 have BI:=fun {c s:Int} (h:0≤c∧c<((2^b.toNat:Nat):Int)) (h':0≤s∧s<b) {i:Int} (hi:0≤i)=>JW (c:=c) (s:=s) (i:=i) h.1 (by omega) h'.1 (by omega) hi
 have BD:=fun {c s:Int} (h:0≤c∧c<((2^b.toNat:Nat):Int)) (h':0≤s∧s<b) {i:Int} (hi:0≤i)=>EZ (c:=c) (s:=s) (i:=i) h.1 (by omega) h'.1 (by omega) hi
 have hc:0≤c∧c<((2^b.toNat:Nat):Int):=⟨by omega,by omega⟩
 have ha:0≤a∧a<b:=⟨by omega,by omega⟩
 have hs:0≤s∧s<b:=⟨h0,h1⟩
 have hg:0≤g∧g<b:=⟨by omega,by omega⟩
 have hf:f=0∨f=1∨f=2:=by omega
 have sa:(a==s)=false:=by simp;omega
 rcases hf with rfl|rfl|rfl<;>rcases hk with rfl|rfl
 ·rw[Qo h h0 h1 h2]
  exact⟨_,_,_,_,_,rfl,R_ h (I hc hs) id (by omega),by rw[BI hc hs h0];simp⟩
 ·exfalso
  revert he
  simp[oC,t25,Bi,LT.val,aA,aT,aD,eY,fh.2 ⟨h,h0,h1,h2⟩,od h h0 h1 h2,IQ]
 ·rw[Qe h h0 h1 h2]
  exact⟨_,_,_,_,_,rfl,R_ h (I (I hc hs) ha) id (by omega),by rw[BI (I hc hs) ha h0,BI hc hs h0];simp⟩
 ·rw[Kz h h0 h1 h2]
  refine⟨_,_,_,_,_,rfl,?_,by rw[BI hc hs h0];simp⟩
  have:=I hc hs
  unfold iY
  exact⟨by omega,by omega,by omega,by omega,by omega,by omega,by omega,by omega,by omega,by omega,by omega,by omega,by omega,by omega,fun _=>by
   rw[BI hc hs ha.1,hm.2.2.2.2.2.2.2.2.2.2.2.2.2.2.1 (by decide)];rfl,fun _=>h2⟩
 ·by_cases hsg:s=g
  ·subst hsg
   rw[JV h h0 h1 h2]
   exact⟨_,_,_,_,_,rfl,R_ h (I (I hc hs) ha) id (by omega),by rw[BI (I hc hs) ha h0,BI hc hs h0];simp⟩
  ·rw[JZ h h0 h1 h2 hsg]
   exact⟨_,_,_,_,_,rfl,R_ h (D (I (I hc hs) ha) hg) id ie,by
    have sg:(g != s)=true:=by simp;omega
    rw[BD (I (I hc hs) ha) hg h0,BI (I hc hs) ha h0,BI hc hs h0,sg];simp⟩
 ·by_cases hsg:s=g
  ·subst hsg
   exfalso
   revert he
   simp[oC,t25,Bi,LT.val,aA,aT,aD,eY,fh.2 ⟨h,h0,h1,h2⟩,od h h0 h1 h2,Fi]
  ·rw[J7 h h0 h1 h2 hsg]
   exact⟨_,_,_,_,_,rfl,R_ h (D (I (I hc hs) hg) ha) id ie,by
    have sg:(a != s)=true:=by simp;omega
    rw[BD (I (I hc hs) hg) ha h0,BI (I hc hs) hg h0,BI hc hs h0,sg];simp⟩
theorem O7{a b c d e f g s:Int}(h:iY a b c d e f g)(h0:0≤s)(h1:s<b)(h2:s≠a) :
  ∃c' f' g',om ((a,b,c,d,e,f,g),s)=((a,b,c',d,e,f',g'),0)∧iY a b c' d e f' g':=by
 have hm:=h
 unfold iY at hm
 have hp:=tc (n:=b.toNat) (by omega)
 have hd:=N4 (c:=c) (s:=s) (n:=b) (by omega) (by omega) (by omega) h0 (by omega)
 have hb:f≠0→lu (qb c s) a=true:=fun hf=>by
  rw[EZ (by omega) (by omega) h0 (by omega) (by omega),hm.2.2.2.2.2.2.2.2.2.2.2.2.2.2.1 hf]
  simpa using h2
 by_cases hf:f=2
 ·subst hf
  by_cases hsg:g=s
  ·subst hsg
   refine⟨_,_,_,M2 h h2,?_⟩
   unfold iY
   exact⟨by omega,by omega,by omega,by omega,by omega,by omega,by omega,by omega,by omega,by omega,by omega,by omega,by omega,by omega,fun _=>hb (by decide),fun h=>by omega⟩
  ·refine⟨_,_,_,Rj h h0 h1 h2 hsg,?_⟩
   unfold iY
   exact⟨by omega,by omega,by omega,by omega,by omega,by omega,by omega,by omega,by omega,by omega,by omega,by omega,by omega,by omega,fun _=>hb (by decide),hm.2.2.2.2.2.2.2.2.2.2.2.2.2.2.2⟩
 ·refine⟨_,_,_,Oe h h0 h1 h2 hf,?_⟩
  unfold iY
  exact⟨by omega,by omega,by omega,by omega,by omega,by omega,by omega,by omega,by omega,by omega,by omega,by omega,by omega,by omega,hb,fun h=>absurd h hf⟩
theorem af4{a b c d e f g e':Int}(h:iY a b c d e f g)(h1:0≤e'∧e'≤1048576):iY a b c d e' f g:=by
 unfold iY at h ⊢
 exact⟨h.1,h.2.1,h.2.2.1,h.2.2.2.1,h.2.2.2.2.1,h.2.2.2.2.2.1,h.2.2.2.2.2.2.1,h.2.2.2.2.2.2.2.1,h.2.2.2.2.2.2.2.2.1,h.2.2.2.2.2.2.2.2.2.1,h1.1,h1.2,h.2.2.2.2.2.2.2.2.2.2.2.2⟩
theorem KG{a b c d e f g:Int}(h:iY a b c d e f g):∃c' d' e' f' g' v,qU (a,b,c,d,e,f,g)=((a,b,c',d',e',f',g'),v,0)∧iY a b c' d' e' f' g'∧(v==1)=decide (e<d)∧(v=1→lu c' a=true):=by
 have hm:=h
 unfold iY at hm
 have hp:=tc (n:=b.toNat) (by omega)
 have hi:=OW (c:=c) (s:=a) (n:=b) (by omega) (by omega) (by omega) (by omega) (by omega)
 have hb:lu (jU c a) a=true:=by rw[JW (by omega) (by omega) (by omega) (by omega) (by omega)];simp
 by_cases hde:e<d
 ·refine⟨_,_,_,_,_,_,PV h hde,?_,by simp[hde],fun _=>hb⟩
  unfold iY
  exact⟨by omega,by omega,by omega,by omega,by omega,by omega,by omega,by omega,by omega,by omega,by omega,by omega,by omega,by omega,fun _=>hb,fun h=>by omega⟩
 ·exact⟨_,_,_,_,_,_,Qa h (by omega),h,by simp[hde],fun h=>by omega⟩
theorem M9{a b c d e f g:Int}(h:iY a b c d e f g):∃c' d' e' f' g' v,wz (a,b,c,d,e,f,g)=((a,b,c',d',e',f',g'),v,0)∧iY a b c' d' e' f' g'∧(v==1)=decide (e<d):=by
 obtain⟨c',d',e',f',g',v,h1,h2,h3,_⟩:=KG h
 by_cases hde:d=0∧e=0
 ·refine⟨c,d,e,f,g,3,?_,h,?_⟩
  ·obtain⟨rfl,rfl⟩:=hde
   simp[wz,t27,LT.val,aA,aD,dJ.2 h]
  ·obtain⟨rfl,rfl⟩:=hde;decide
 ·refine⟨c',d',e',f',g',v,?_,h2,h3⟩
  rw[←h1]
  by_cases h0:d=0
  ·have he:(e==0)=false:=by simp;omega
   simp[wz,t27,LT.val,aA,aD,dJ.2 h,h0,he]
  ·have hd:(d==0)=false:=by simpa using h0
   simp[wz,t27,LT.val,aA,aD,dJ.2 h,hd]
theorem Gy{c:Int×Int×Int×Int×Int}{w:Int}{o:Int×Int×Int×(Int×Int×(Int×Int×Int×Int×Int)×Int×List Int)×Int}:∀{l:List (Int×Int×(Int×List Int))} {k:Nat},ni c w k l=some o→o.1=3∧∃s∈l,s.1=2:=by
 intro l
 induction l with
 | nil=>intro k h;cases h
 | cons s l ih=>
   intro k h
   rw[ni] at h
   cases hb:(s.1==2&&(xD (s.2.2,c)).2)
   ·rw[hb,cond_false] at h
    obtain⟨h1,x,hx,h2⟩:=ih h
    exact⟨h1,x,List.mem_cons_of_mem _ hx,h2⟩
   ·rw[hb,cond_true] at h
    cases h
    rw[cd,beq_iff_eq] at hb
    exact⟨rfl,s,List.mem_cons_self ..,hb.1⟩
theorem DV{t p m n:Int}{seen:List (Int×Int×(Int×List Int))}{o:Int×Int×Int×(Int×Int×(Int×Int×Int×Int×Int)×Int×List Int)×Int}:∀{l:List Int} {i:Nat},nT t p m n seen i l=some o→o.1=3∧∃s∈seen,s.1=2:=by
 intro l
 induction l with
 | nil=>intro i h;cases h
 | cons v l ih=>
   intro i h
   rw[nT] at h
   cases hs:ni (t,p,m,n,v) (i:Int) 0 seen with
   | none=>rw[hs] at h;exact ih h
   | some o'=>rw[hs] at h;cases h;exact Gy hs
theorem EJ{c:Int×Int×Int×Int×Int}{w:Int}{o:Int×Int×Int×(Int×Int×(Int×Int×Int×Int×Int)×Int×List Int)×Int}:∀{l:List (Int×Int×(Int×List Int))} {k:Nat},ni c w k l=some o→o.2.1=w:=by
 intro l
 induction l with
 | nil=>intro k h;cases h
 | cons s l ih=>
   intro k h
   rw[ni] at h
   cases hb:(s.1==2&&(xD (s.2.2,c)).2)
   ·rw[hb,cond_false] at h;exact ih h
   ·rw[hb,cond_true] at h;cases h;rfl
theorem BR{t p m n:Int}{seen:List (Int×Int×(Int×List Int))}{o:Int×Int×Int×(Int×Int×(Int×Int×Int×Int×Int)×Int×List Int)×Int}:∀{l:List Int} {i:Nat},nT t p m n seen i l=some o→∃k,k<l.length∧o.2.1=((i+k:Nat):Int):=by
 intro l
 induction l with
 | nil=>intro i h;cases h
 | cons v l ih=>
   intro i h
   rw[nT] at h
   cases hs:ni (t,p,m,n,v) (i:Int) 0 seen with
   | none=>
     rw[hs] at h
     obtain⟨k,h1,h2⟩:=ih h
     exact⟨k+1,by rw[List.length_cons];omega,by rw[h2];congr 1;omega⟩
   | some o'=>
     rw[hs] at h
     cases h
     exact⟨0,by rw[List.length_cons];omega,by rw[EJ hs];rfl⟩
theorem tK{t p m n s sender:Int}{v:Int×Int×Int×Int×Int×Int×Int}{seen:List (Int×Int×(Int×List Int))}(h:(kH ((t,p,m,n,s),v,sender,seen)).2=0) :
  lW v=0∧0≤sender∧sender<v.2.1∧sender≠v.1∧((∃k,k<(vws (v,sender)).length∧(kH ((t,p,m,n,s),v,sender,seen)).1.1=3∧(kH ((t,p,m,n,s),v,sender,seen)).1.2.1=(k:Int))∨(kH ((t,p,m,n,s),v,sender,seen)).1.1=1∨(kH ((t,p,m,n,s),v,sender,seen)).1.1=2):=by
 rw[kH] at h ⊢
 cases h1:(lW v != 0||kJ ((t,p,m,n,s),v.2.1) != 0)
 ·rw[h1] at h
  rw[cond_false] at h ⊢
  cases h2:(decide (sender<0)||decide (v.2.1≤sender)||sender==v.1||seen.length != 2)
  ·rw[cond_false]
   simp only[Bool.or_eq_false_iff,bne_eq_false_iff_eq,decide_eq_false_iff_not,beq_eq_false_iff_ne] at h1 h2
   refine⟨h1.1,by omega,by omega,h2.1.2,?_⟩
   rw[AF]
   cases h3:nT t p m n seen 0 (vws (v,sender)) with
   | some o=>
     obtain⟨k,h4,h5⟩:=BR h3
     exact .inl ⟨k,h4,(DV h3).1,by rw[Nat.zero_add] at h5;exact h5⟩
   | none=>
     right
     show(pq seen).1=1∨(pq seen).1=2
     rw[pq]
     cases seen.any fun s=>s.1 != 0
     ·exact .inl rfl
     ·exact .inr rfl
  ·rw[h2] at h;cases h
 ·rw[h1] at h;cases h
theorem vc{a b c d e f g s:Int}(h:iY a b c d e f g)(h0:0≤s)(h1:s<b)(h2:s≠a) :
  ∃c' f' g',om ((a,b,c,d,e,f,g),s)=((a,b,c',d,e,f',g'),0)∧iY a b c' d e f' g'∧lu c' s=false:=by
 obtain⟨c',f',g',e1,e2⟩:=O7 h h0 h1 h2
 refine⟨c',f',g',e1,e2,?_⟩
 have hc:=aek h
 have hm:=h
 unfold iY at hm
 have:c'=qb c s:=by
  by_cases hf:f=2
  ·subst hf
   by_cases hsg:g=s
   ·subst hsg
    rw[M2 h h2] at e1
    simp only[Prod.mk.injEq] at e1
    exact e1.1.2.2.1.symm
   ·rw[Rj h h0 h1 h2 hsg] at e1
    simp only[Prod.mk.injEq] at e1
    exact e1.1.2.2.1.symm
  ·rw[Oe h h0 h1 h2 hf] at e1
   simp only[Prod.mk.injEq] at e1
   exact e1.1.2.2.1.symm
 rw[this,EZ (by omega) hc h0 (by omega) h0,bne_self_eq_false,Bool.and_false]
theorem Rk{a b c d e f g s:Int}{k:Nat}(h:iY a b c d e f g)(h0:0≤s)(h1:s<b)(h2:s≠a)(hk:k<(vws ((a,b,c,d,e,f,g),s)).length):(oC ((a,b,c,d,e,f,g),s,(k:Int))).2=0∧((k:Int)=0∨(k:Int)=1):=by
 have hm:=h
 unfold iY at hm
 have hf:f=0∨f=1∨f=2:=by omega
 rw[vws] at hk
 rcases hf with rfl|rfl|rfl
 ·rw[IQ] at hk
  have:k=0:=by
   have:k<1:=hk
   omega
  subst this
  exact⟨by rw[show((0:Nat):Int)=0 from rfl,Qo h h0 h1 h2],.inl rfl⟩
 ·rw[Ie] at hk
  have:k<2:=hk
  have:k=0∨k=1:=by omega
  rcases this with rfl|rfl
  ·exact⟨by rw[show((0:Nat):Int)=0 from rfl,Qe h h0 h1 h2],.inl rfl⟩
  ·exact⟨by rw[show((1:Nat):Int)=1 from rfl,Kz h h0 h1 h2],.inr rfl⟩
 ·by_cases hsg:s=g
  ·subst hsg
   rw[Fi] at hk
   have:k=0:=by
    have:k<1:=hk
    omega
   subst this
   exact⟨by rw[show((0:Nat):Int)=0 from rfl,JV h h0 h1 h2],.inl rfl⟩
  ·rw[D4 hsg] at hk
   have:k<2:=hk
   have:k=0∨k=1:=by omega
   rcases this with rfl|rfl
   ·exact⟨by rw[show((0:Nat):Int)=0 from rfl,JZ h h0 h1 h2 hsg],.inl rfl⟩
   ·exact⟨by rw[show((1:Nat):Int)=1 from rfl,J7 h h0 h1 h2 hsg],.inr rfl⟩
theorem SO{v:Int×Int×Int×Int×Int×Int×Int}{s:Int}{o:Int×Int×Int×(Int×Int×(Int×Int×Int×Int×Int)×Int×List Int)×Int}(h:o.1=1):jw (v,s,o)=om (v,s):=by
 obtain⟨a,b,c,d,e,f,g⟩:=v
 obtain⟨k,w,ch,⟨fk,fr,⟨t,p,m,n,x⟩,ff,fd⟩,at'⟩:=o
 have h:k=1:=h
 subst h
 rfl
theorem En{v:Int×Int×Int×Int×Int×Int×Int}{s:Int}{o:Int×Int×Int×(Int×Int×(Int×Int×Int×Int×Int)×Int×List Int)×Int}(h:o.1=2):jw (v,s,o)=O0 (v,s):=by
 obtain⟨a,b,c,d,e,f,g⟩:=v
 obtain⟨k,w,ch,⟨fk,fr,⟨t,p,m,n,x⟩,ff,fd⟩,at'⟩:=o
 have h:k=2:=h
 subst h
 rfl
theorem VL{v:Int×Int×Int×Int×Int×Int×Int}{s:Int}{o:Int×Int×Int×(Int×Int×(Int×Int×Int×Int×Int)×Int×List Int)×Int}(h:o.1=3):jw (v,s,o)=oC (v,s,o.2.1):=by
 obtain⟨a,b,c,d,e,f,g⟩:=v
 obtain⟨k,w,ch,⟨fk,fr,⟨t,p,m,n,x⟩,ff,fd⟩,at'⟩:=o
 have h:k=3:=h
 subst h
 rfl
theorem CH{t p m n x s a b c d e f g:Int}{seen:List (Int×Int×(Int×List Int))}(h:(kH ((t,p,m,n,x),(a,b,c,d,e,f,g),s,seen)).2=0) :
  ∃c' d' e' f' g',jw ((a,b,c,d,e,f,g),s,(kH ((t,p,m,n,x),(a,b,c,d,e,f,g),s,seen)).1)=((a,b,c',d',e',f',g'),0)∧iY a b c' d' e' f' g'∧lu c' s=((kH ((t,p,m,n,x),(a,b,c,d,e,f,g),s,seen)).1.1==3)∧0≤s∧s<b:=by
 obtain⟨h1,h2,h3,h4,h5⟩:=tK h
 have hok:=dJ.1 h1
 have h3:s<b:=h3
 have h4:s≠a:=h4
 rcases h5 with ⟨k,hk,h6,h7⟩|h6|h6
 ·obtain⟨he,hk2⟩:=Rk hok h2 h3 h4 hk
  obtain⟨c',d',e',f',g',e1,e2,e3⟩:=Ph hok h2 h3 h4 hk2 he
  refine⟨c',d',e',f',g',?_,e2,by rw[e3,h6];rfl,h2,h3⟩
  rw[VL h6,h7]
  exact Prod.ext e1 he
 ·obtain⟨c',f',g',e1,e2,e3⟩:=vc hok h2 h3 h4
  exact⟨c',d,e,f',g',by rw[SO h6];exact e1,e2,by rw[e3,h6];rfl,h2,h3⟩
 ·obtain⟨c',f',g',e1,e2,e3⟩:=vc hok h2 h3 h4
  have hm:=hok
  unfold iY at hm
  refine⟨c',d,inc e,f',g',?_,af4 e2 (inc_le (by omega) (by omega)),by rw[e3,h6];rfl,h2,h3⟩
  rw[En h6]
  exact Jk e1 (show 0≤e by omega) (show e≤1048576 by omega)
def t24(A:aI)(mId:Int)(mN:Int)(mSet:Int)(mAcc:Int)(mFail:Int)(mStage:Int)(mFirst:Int):LT Bool Empty:=.need (A.k (@tt ((Int×Int×Int×Int×Int×Int×Int))) (mId,mN,mSet,mAcc,mFail,mStage,mFirst)) (.br (A.c .eql (A.k lW (mId,mN,mSet,mAcc,mFail,mStage,mFirst)) 0) (.need (A.c .leq 0 mId) (.ret (A.c .eql (A.b .and .i64 (A.b .shr .i64 mSet mId) 1) 1))) (.ret false))
def Jm:mj→Bool:=fun(mId,mN,mSet,mAcc,mFail,mStage,mFirst)=>(t24 ah mId mN mSet mAcc mFail mStage mFirst).val (Ty.bi [.bool])
def ajm:ax:=⟨[kX], [.bool],(@tt mj),Jm⟩
theorem aif:Sd 54 ajm:=aH ap bR true 27 [] (fun A (mId,mN,mSet,mAcc,mFail,mStage,mFirst)=>t24 A mId mN mSet mAcc mFail mStage mFirst) (fc Tryz.func54 fz) (sc H8 sz) (fun((mId,mN,mSet,mAcc,mFail,mStage,mFirst):mj) hp h=>by
 show(t24 ah mId mN mSet mAcc mFail mStage mFirst).pre=true
 simp only[t24,LT.pre,Gk,bne_iff_ne,beq_iff_eq,bne_eq_false_iff_eq,beq_eq_false_iff_ne]
 simp only[Ty.cN,Ty.has,ml] at h
 (repeat' (first|intro _|constructor))<;>(try (have hm:=dJ.1 (by assumption);unfold iY at hm;omega)))
def DX:lQ:=(2,0,0,uA,0)
def LB:lQ:=(0,0,0,uA,0)
def EM(n:Node)(seen:List Seen):lQ×Int:=kH (n.2.2.1,n.2.2.2.1,n.2.2.1.2.1,seen)
def BL(m:al)(n:Node)(o:lQ):lQ:=bif decide (o.1=3) && !(tZ m n.2.2.1 o.2.2.2.1) then DX else o
def G4(n:Node)(v:mj):Node:=(n.1,n.2.1,(n.2.2.1.1,n.2.2.1.2.1,n.2.2.1.2.2.1,n.2.2.1.2.2.2.1,v.2.2.1),v,n.2.2.2.2)
def K7(n:Node)(o:lQ):mj:=(jw (n.2.2.2.1,n.2.2.1.2.1,o)).1
def FB(m:al)(n:Node)(f:mr):Node:=(n.1,n.2.1,lD m n.2.2.1 f.2.1,n.2.2.2.1,n.2.2.2.2.1,n.2.2.2.2.2.1,n.2.2.2.2.2.2.1,bif decide (f.1=3) then n.2.2.2.2.2.2.2 else(mW n.2.2.2.2.2.2.2 n.2.2.1.2.1 f.2.2.2.2).1)
def AA(n:Node):Node:=bif decide (n.2.1=4) && !(Jm n.2.2.2.1) then(n.1,3,n.2.2) else n
def L_(m:al)(n:Node)(o:lQ):Node:=AA (bif decide (o.1=3) then FB m (G4 n (K7 n o)) o.2.2.2.1 else G4 n (K7 n o))
def As(m:al)(n:Node)(seen:List Seen):Node×lQ×Int:=bif decide (bo m n=0) then(bif jZ n&&decide (¬n.2.2.1.2.1=n.1) then(bif decide ((EM n seen).2=0) then(L_ m n (BL m n (EM n seen).1),BL m n (EM n seen).1,0) else(fu,LB,(EM n seen).2)) else(fu,LB,181)) else(fu,LB,bo m n)
theorem Yf{c:cy}{v:mj}{s:Int}{seen:List Seen}(h:(kH (c,v,s,seen)).2=0):(jw (v,s,(kH (c,v,s,seen)).1)).2=0∧(jw (v,s,DX)).2=0:=by
 obtain⟨t,p,m,n,x⟩:=c
 obtain⟨a,b,c,d,e,f,g⟩:=v
 refine⟨?_,?_⟩
 ·obtain⟨c',d',e',f',g',e1,_⟩:=CH h;rw[e1]
 ·obtain⟨h1,h2,h3,h4,_⟩:=tK h
  have hok:=dJ.1 h1
  have h3:s<b:=h3
  have h4:s≠a:=h4
  obtain⟨c',f',g',e1,_⟩:=vc hok h2 h3 h4
  have hm:=hok
  unfold iY at hm
  rw[En rfl,Jk e1 (show 0≤e by omega) (show e≤1048576 by omega)]
theorem KB{m:al}{n:Node}{f:mr}(hn:bo m n=0)(h:tZ m n.2.2.1 f=true):(mW n.2.2.2.2.2.2.2 n.2.2.1.2.1 f.2.2.2.2).2=0:=by
 have hd:=bT.1 (a_ hn).2
 simp only[tZ,cd,jV] at h
 have hk:=rA h.1
 have hx:=OO hk.1 hk.2.1 hk.2.2
 have h8:(f.2.2.2.2.length:Int)≤8:=by
  rw[h.2.2]
  by_cases g:(fV m n.2.2.1.2.2.1 n.2.2.1.2.1).1=3
  ·rw[aK g];exact(by omega:(0:Int)≤8)
  ·rw[aX g];exact hx.2
 have e6:=hd.2.2.2.2.2.1
 rw[mW,hd.2.2.2.1,aK (show 0≤n.2.2.1.2.1∧n.2.2.1.2.1≤(n.2.2.2.2.2.2.2.2.2.1.length:Int)-1 by rw[e6];exact hk.2.1),aX (show ¬8<(f.2.2.2.2.length:Int) by omega)]
 rfl
theorem JJ{m:al}{n:Node}{o:lQ}(h:o.1=3)(h2:tZ m n.2.2.1 o.2.2.2.1=false):BL m n o=DX:=by rw[BL,aK h,h2];rfl
theorem FT{m:al}{n:Node}{o:lQ}(h2:tZ m n.2.2.1 o.2.2.2.1=true):BL m n o=o:=by rw[BL,h2,Bool.not_true,Bool.and_false];rfl
theorem RH{m:al}{n:Node}{o:lQ}(h:¬o.1=3):BL m n o=o:=by rw[BL,aX h];rfl
theorem Wb{Y:Type}{step:Y→LT (Node×lQ×Int) Y}{n:Node}{o:lQ}{b:Bool}(hb:b=Jm n.2.2.2.1):au step (.br (ah.c .eql n.2.1 4) (.need true (.br (ah.not b) (.ret ((n.1,3,n.2.2),o,0)) (.ret (n,o,0)))) (.ret (n,o,0))) (AA n,o,0):=by
 rw[AA]
 refine aB (p:=n.2.1=4) aN (fun h=>af.2 ⟨rfl,?_⟩) fun h=>ay (by rw[aX h];rfl) (.ret _)
 rw[aK h,Bool.true_and,←hb]
 cases b
 ·exact(aj rfl).2 (.ret _)
 ·exact(ai rfl).2 (.ret _)
def on4(x:Node):Node:=(x.1,4,x.2.2.1,x.2.2.2.1,x.2.2.2.2.1,false,x.2.2.2.2.2.2)
structure QI where
 (a0:List Seen) (a1:Int) (a2:al) (a17:Node)
structure Ol where
 (b0:Int) (b1:al) (bI:Node) (gT:lQ)
structure QP where
 (c14:Node)
structure Nh where
 (d0:al) (iw:Node) (jy:lQ)
structure Py where
 (e14:Node) (e15:lQ)
structure QJ where
 (f0:al) (f15:Node) (f16:lQ)
inductive Vf where
 | c0 (p:QI)
 | c1 (p:Ol)
 | c2 (p:QP)
 | c3 (p:Nh)
 | c4 (p:Py)
 | c5 (p:QJ)
noncomputable def aac:Vf→eD
 | .c0 p=>⟨[⟨14,111,(en [(2,.sl aG p.a0),(3,.ptr 0 0),(6,.ptr 1 0),(7,.ptr 2 0),(9,.ptr 3 0),(10,vi p.a1)]),[.code (cw Tryz.f14 [1,1,0,0]),.code (cw Tryz.f14 [1,1,0,1]),.code (cw Tryz.f14 [1,1,1])],[],none⟩],[.flat false (dc aR p.a2),.flat false [vi 0,vi 0,vi 0,vi 0,vi 0,vi 0,vi 0,vi 0,vi 0,vi 0,vi 0,vi 0,vi 0,vi 0,vi 0,vb false,vi 0,vi 0,.dp true,.dp true,vi 0,vi 0],.flat false [vi 0,vi 0,vi 0,vi 0,vi 0,vi 0,vi 0,vi 0,vi 0,vi 0,vi 0,.dp true,vi 0],.flat false (dc aF p.a17),.dead]⟩
 | .c1 p=>⟨[⟨14,111,(en [(3,.ptr 0 0),(6,.ptr 1 0),(7,.ptr 2 0),(9,.ptr 3 0),(10,vi p.b0),(11,.ptr 4 0)]),[.code (cw Tryz.f14 [1,1,1,1,0,0]),.code (cw Tryz.f14 [1,1,1,1,0,1]),.code (cw Tryz.f14 [1,1,1,1,1])],[],none⟩],[.flat false (dc aR p.b1),.flat false [vi 0,vi 0,vi 0,vi 0,vi 0,vi 0,vi 0,vi 0,vi 0,vi 0,vi 0,vi 0,vi 0,vi 0,vi 0,vb false,vi 0,vi 0,.dp true,.dp true,vi 0,vi 0],.flat false [vi 0,vi 0,vi 0,vi 0,vi 0,vi 0,vi 0,vi 0,vi 0,vi 0,vi 0,.dp true,vi 0],.flat false (dc aF p.bI),.flat false (dc Gb p.gT),.dead]⟩
 | .c2 p=>⟨[⟨14,111,(en [(6,.ptr 0 0),(7,.ptr 1 0),(9,.ptr 2 0),(11,.ptr 3 0)]),[.code (cw Tryz.f14 [1,1,1,1,1,1,1,1,1,0,0]),.code (cw Tryz.f14 [1,1,1,1,1,1,1,1,1,0,1]),.code (cw Tryz.f14 [1,1,1,1,1,1,1,1,1,1])],[],none⟩],[.flat false [vi 0,vi 0,vi 0,vi 0,vi 0,vi 0,vi 0,vi 0,vi 0,vi 0,vi 0,vi 0,vi 0,vi 0,vi 0,vb false,vi 0,vi 0,.dp true,.dp true,vi 0,vi 0],.flat false [vi 0,vi 0,vi 0,vi 0,vi 0,vi 0,vi 0,vi 0,vi 0,vi 0,vi 0,.dp true,vi 0],.flat false (dc aF p.c14),.flat false [vi 2,vi 0,vi 0,vi 0,vi 0,vi 0,vi 0,vi 0,vi 0,vi 0,vi 0,.dp true,vi 0],.dead]⟩
 | .c3 p=>⟨[⟨14,111,(en [(3,.ptr 0 0),(6,.ptr 1 0),(7,.ptr 2 0),(9,.ptr 3 0),(11,.ptr 4 0)]),[.code (cw Tryz.f14 [1,1,1,1,1,1,1,1,0,1,0,0,0]),.code (cw Tryz.f14 [1,1,1,1,1,1,1,1,0,1,0,0,1]),.code (cw Tryz.f14 [1,1,1,1,1,1,1,1,0,1,0,1]),.code (cw Tryz.f14 [1,1,1,1,1,1,1,1,1])],[],none⟩],[.flat false (dc aR p.d0),.flat false [vi 0,vi 0,vi 0,vi 0,vi 0,vi 0,vi 0,vi 0,vi 0,vi 0,vi 0,vi 0,vi 0,vi 0,vi 0,vb false,vi 0,vi 0,.dp true,.dp true,vi 0,vi 0],.flat false [vi 0,vi 0,vi 0,vi 0,vi 0,vi 0,vi 0,vi 0,vi 0,vi 0,vi 0,.dp true,vi 0],.flat false (dc aF p.iw),.flat false (dc Gb p.jy),.dead]⟩
 | .c4 p=>⟨[⟨14,111,(en [(6,.ptr 0 0),(7,.ptr 1 0),(9,.ptr 2 0),(11,.ptr 3 0)]),[.code (cw Tryz.f14 [1,1,1,1,1,1,1,1,1,0,0]),.code (cw Tryz.f14 [1,1,1,1,1,1,1,1,1,0,1]),.code (cw Tryz.f14 [1,1,1,1,1,1,1,1,1,1])],[],none⟩],[.flat false [vi 0,vi 0,vi 0,vi 0,vi 0,vi 0,vi 0,vi 0,vi 0,vi 0,vi 0,vi 0,vi 0,vi 0,vi 0,vb false,vi 0,vi 0,.dp true,.dp true,vi 0,vi 0],.flat false [vi 0,vi 0,vi 0,vi 0,vi 0,vi 0,vi 0,vi 0,vi 0,vi 0,vi 0,.dp true,vi 0],.flat false (dc aF p.e14),.flat false (dc Gb p.e15),.dead]⟩
 | .c5 p=>⟨[⟨14,111,(en [(3,.ptr 0 0),(6,.ptr 1 0),(7,.ptr 2 0),(9,.ptr 3 0),(11,.ptr 4 0)]),[.code (cw Tryz.f14 [1,1,1,1,1,1,1,1,0,1,0,1]),.code (cw Tryz.f14 [1,1,1,1,1,1,1,1,1])],[],none⟩],[.flat false (dc aR p.f0),.flat false [vi 0,vi 0,vi 0,vi 0,vi 0,vi 0,vi 0,vi 0,vi 0,vi 0,vi 0,vi 0,vi 0,vi 0,vi 0,vb false,vi 0,vi 0,.dp true,.dp true,vi 0,vi 0],.flat false [vi 0,vi 0,vi 0,vi 0,vi 0,vi 0,vi 0,vi 0,vi 0,vi 0,vi 0,.dp true,vi 0],.flat false (dc aF p.f15),.flat false (dc Gb p.f16),.dead]⟩
def Xu(A:aI)(m:al)(n:Node)(seen:List Seen):LT (Node×lQ×Int) Vf:=.need (A.k (@tt Node) n) (.br (A.k fB n) (.need (A.k (@tt (al×Node×Bool)) (m,n,(A.c .neq n.2.2.1.2.1 n.1))) (.need (A.k (@tt (al×Node×Bool)) (m,n,(A.c .neq n.2.2.1.2.1 n.1))) (.eqs (((A.k fB n):Bool)=true) (.need (A.k (@tt Node) n) (.more (.c0 ⟨seen,(A.k gK (m,n,(A.c .neq n.2.2.1.2.1 n.1))).2,m,(A.k gK (m,n,(A.c .neq n.2.2.1.2.1 n.1))).1⟩)))))) (.need (A.k (@tt (al×Node×Bool)) (m,n,false)) (.need (A.k (@tt (al×Node×Bool)) (m,n,false)) (.eqs (((A.k fB n):Bool)=false) (.need (A.k (@tt Node) n) (.more (.c0 ⟨seen,(A.k gK (m,n,false)).2,m,(A.k gK (m,n,false)).1⟩)))))))
def tf(A:aI):Vf→LT (Node×lQ×Int) Vf
 | .c0 p=>.br (A.c .neq p.a1 0) (.ret ((0,0,(0,0,0,0,0),(0,0,0,0,0,0,0),0,false,0,0,([]:List Int),([]:List dq),0,0),(0,0,0,(0,0,(0,0,0,0,0),0,([]:List Int)),0),p.a1)) (.need (A.k (@tt ((Int×Int×Int×Int×Int)×(Int×Int×Int×Int×Int×Int×Int)×Int×List (Int×Int×(Int×List Int)))) (p.a17.2.2.1,p.a17.2.2.2.1,p.a17.2.2.1.2.1,p.a0)) (.more (.c1 ⟨(A.k ZQ (p.a17.2.2.1,p.a17.2.2.2.1,p.a17.2.2.1.2.1,p.a0)).2,p.a2,p.a17,(A.k ZQ (p.a17.2.2.1,p.a17.2.2.2.1,p.a17.2.2.1.2.1,p.a0)).1⟩)))
 | .c1 p=>.br (A.c .neq p.b0 0) (.ret ((0,0,(0,0,0,0,0),(0,0,0,0,0,0,0),0,false,0,0,([]:List Int),([]:List dq),0,0),(0,0,0,(0,0,(0,0,0,0,0),0,([]:List Int)),0),p.b0)) (.br (A.c .eql p.gT.1 3) (.need (A.k (@tt (al×cy×mr)) (p.b1,p.bI.2.2.1,p.gT.2.2.2.1)) (.br (A.not (A.k K4 (p.b1,p.bI.2.2.1,p.gT.2.2.2.1))) (.need (A.k (@tt ((Int×Int×Int×Int×Int×Int×Int)×Int×(Int×Int×Int×(Int×Int×(Int×Int×Int×Int×Int)×Int×List Int)×Int))) (p.bI.2.2.2.1,p.bI.2.2.1.2.1,2,0,0,(0,0,(0,0,0,0,0),0,([]:List Int)),0)) (.br (A.c .neq (A.k jw (p.bI.2.2.2.1,p.bI.2.2.1.2.1,2,0,0,(0,0,(0,0,0,0,0),0,([]:List Int)),0)).2 0) (.ret ((0,0,(0,0,0,0,0),(0,0,0,0,0,0,0),0,false,0,0,([]:List Int),([]:List dq),0,0),(0,0,0,(0,0,(0,0,0,0,0),0,([]:List Int)),0),(A.k jw (p.bI.2.2.2.1,p.bI.2.2.1.2.1,2,0,0,(0,0,(0,0,0,0,0),0,([]:List Int)),0)).2)) (.more (.c2 ⟨(p.bI.1,p.bI.2.1,(p.bI.2.2.1.1,p.bI.2.2.1.2.1,p.bI.2.2.1.2.2.1,p.bI.2.2.1.2.2.2.1,(A.k jw (p.bI.2.2.2.1,p.bI.2.2.1.2.1,2,0,0,(0,0,(0,0,0,0,0),0,([]:List Int)),0)).1.2.2.1),(A.k jw (p.bI.2.2.2.1,p.bI.2.2.1.2.1,2,0,0,(0,0,(0,0,0,0,0),0,([]:List Int)),0)).1,p.bI.2.2.2.2)⟩)))) (.need (A.k (@tt ((Int×Int×Int×Int×Int×Int×Int)×Int×(Int×Int×Int×(Int×Int×(Int×Int×Int×Int×Int)×Int×List Int)×Int))) (p.bI.2.2.2.1,p.bI.2.2.1.2.1,p.gT)) (.br (A.c .neq (A.k jw (p.bI.2.2.2.1,p.bI.2.2.1.2.1,p.gT)).2 0) (.ret ((0,0,(0,0,0,0,0),(0,0,0,0,0,0,0),0,false,0,0,([]:List Int),([]:List dq),0,0),(0,0,0,(0,0,(0,0,0,0,0),0,([]:List Int)),0),(A.k jw (p.bI.2.2.2.1,p.bI.2.2.1.2.1,p.gT)).2)) (.br (A.c .eql p.gT.1 3) (.more (.c3 ⟨p.b1,(p.bI.1,p.bI.2.1,(p.bI.2.2.1.1,p.bI.2.2.1.2.1,p.bI.2.2.1.2.2.1,p.bI.2.2.1.2.2.2.1,(A.k jw (p.bI.2.2.2.1,p.bI.2.2.1.2.1,p.gT)).1.2.2.1),(A.k jw (p.bI.2.2.2.1,p.bI.2.2.1.2.1,p.gT)).1,p.bI.2.2.2.2),p.gT⟩)) (.more (.c4 ⟨(p.bI.1,p.bI.2.1,(p.bI.2.2.1.1,p.bI.2.2.1.2.1,p.bI.2.2.1.2.2.1,p.bI.2.2.1.2.2.2.1,(A.k jw (p.bI.2.2.2.1,p.bI.2.2.1.2.1,p.gT)).1.2.2.1),(A.k jw (p.bI.2.2.2.1,p.bI.2.2.1.2.1,p.gT)).1,p.bI.2.2.2.2),p.gT⟩))))))) (.need (A.k (@tt ((Int×Int×Int×Int×Int×Int×Int)×Int×(Int×Int×Int×(Int×Int×(Int×Int×Int×Int×Int)×Int×List Int)×Int))) (p.bI.2.2.2.1,p.bI.2.2.1.2.1,p.gT)) (.br (A.c .neq (A.k jw (p.bI.2.2.2.1,p.bI.2.2.1.2.1,p.gT)).2 0) (.ret ((0,0,(0,0,0,0,0),(0,0,0,0,0,0,0),0,false,0,0,([]:List Int),([]:List dq),0,0),(0,0,0,(0,0,(0,0,0,0,0),0,([]:List Int)),0),(A.k jw (p.bI.2.2.2.1,p.bI.2.2.1.2.1,p.gT)).2)) (.br (A.c .eql p.gT.1 3) (.more (.c3 ⟨p.b1,(p.bI.1,p.bI.2.1,(p.bI.2.2.1.1,p.bI.2.2.1.2.1,p.bI.2.2.1.2.2.1,p.bI.2.2.1.2.2.2.1,(A.k jw (p.bI.2.2.2.1,p.bI.2.2.1.2.1,p.gT)).1.2.2.1),(A.k jw (p.bI.2.2.2.1,p.bI.2.2.1.2.1,p.gT)).1,p.bI.2.2.2.2),p.gT⟩)) (.more (.c4 ⟨(p.bI.1,p.bI.2.1,(p.bI.2.2.1.1,p.bI.2.2.1.2.1,p.bI.2.2.1.2.2.1,p.bI.2.2.1.2.2.2.1,(A.k jw (p.bI.2.2.2.1,p.bI.2.2.1.2.1,p.gT)).1.2.2.1),(A.k jw (p.bI.2.2.2.1,p.bI.2.2.1.2.1,p.gT)).1,p.bI.2.2.2.2),p.gT⟩))))))
 | .c2 p=>.br (A.c .eql p.c14.2.1 4) (.need (A.k (@tt mj) p.c14.2.2.2.1) (.br (A.not (A.k Jm p.c14.2.2.2.1)) (.ret ((p.c14.1,3,p.c14.2.2),(2,0,0,(0,0,(0,0,0,0,0),0,([]:List Int)),0),0)) (.ret (p.c14,(2,0,0,(0,0,(0,0,0,0,0),0,([]:List Int)),0),0)))) (.ret (p.c14,(2,0,0,(0,0,(0,0,0,0,0),0,([]:List Int)),0),0))
 | .c3 p=>.br (A.c .neq p.jy.2.2.2.1.1 3) (.need (A.k (@tt (cr×Int×List Int)) (p.iw.2.2.2.2.2.2.2,p.iw.2.2.1.2.1,p.jy.2.2.2.1.2.2.2.2)) (.need (A.k (@tt (cr×Int×List Int)) (p.iw.2.2.2.2.2.2.2,p.iw.2.2.1.2.1,p.jy.2.2.2.1.2.2.2.2)) (.br (A.c .eql (A.k w9 (p.iw.2.2.2.2.2.2.2,p.iw.2.2.1.2.1,p.jy.2.2.2.1.2.2.2.2)).2 0) (.more (.c5 ⟨p.d0,(p.iw.1,p.iw.2.1,p.iw.2.2.1,p.iw.2.2.2.1,p.iw.2.2.2.2.1,p.iw.2.2.2.2.2.1,p.iw.2.2.2.2.2.2.1,(A.k w9 (p.iw.2.2.2.2.2.2.2,p.iw.2.2.1.2.1,p.jy.2.2.2.1.2.2.2.2)).1),p.jy⟩)) (.more (.c5 ⟨p.d0,p.iw,p.jy⟩))))) (.more (.c5 ⟨p.d0,p.iw,p.jy⟩))
 | .c4 p=>.br (A.c .eql p.e14.2.1 4) (.need (A.k (@tt mj) p.e14.2.2.2.1) (.br (A.not (A.k Jm p.e14.2.2.2.1)) (.ret ((p.e14.1,3,p.e14.2.2),p.e15,0)) (.ret (p.e14,p.e15,0)))) (.ret (p.e14,p.e15,0))
 | .c5 p=>.need (A.k (@tt (al×cy×Int)) (p.f0,p.f15.2.2.1,p.f16.2.2.2.1.2.1)) (.need (A.k (@tt (al×cy×Int)) (p.f0,p.f15.2.2.1,p.f16.2.2.2.1.2.1)) (.br (A.c .eql (A.k qF (p.f0,p.f15.2.2.1,p.f16.2.2.2.1.2.1)).2 0) (.more (.c4 ⟨(p.f15.1,p.f15.2.1,(A.k qF (p.f0,p.f15.2.2.1,p.f16.2.2.2.1.2.1)).1,p.f15.2.2.2),p.f16⟩)) (.more (.c4 ⟨p.f15,p.f16⟩))))
theorem Jh{p:Py}:au (tf ah) (.more (.c4 p)) (AA p.e14,p.e15,0):=by
 rw[ak,tf];exact Wb rfl
theorem aay{p:QP}:au (tf ah) (.more (.c2 p)) (AA p.c14,DX,0):=by
 rw[ak,tf];exact Wb rfl
theorem QD{p:QJ}:au (tf ah) (.more (.c5 p)) (AA (p.f15.1,p.f15.2.1,lD p.f0 p.f15.2.2.1 p.f16.2.2.2.1.2.1,p.f15.2.2.2),p.f16,0):=by
 rw[ak,tf,lD]
 refine af.2 ⟨rfl,af.2 ⟨rfl,?_⟩⟩
 rw[show ∀x,ah.k qF x=xS x.1 x.2.1 x.2.2 from fun _=>rfl]
 refine aB (p:=(xS p.f0 p.f15.2.2.1 p.f16.2.2.2.1.2.1).2=0) aN (fun g=>?_) fun g=>?_
 ·rw[aK g];exact Jh
 ·rw[aX g];exact Jh
theorem aap{p:Nh}(h:(mW p.iw.2.2.2.2.2.2.2 p.iw.2.2.1.2.1 p.jy.2.2.2.1.2.2.2.2).2=0):au (tf ah) (.more (.c3 p)) (AA (FB p.d0 p.iw p.jy.2.2.2.1),p.jy,0):=by
 rw[ak,tf,FB]
 refine aB (p:=¬p.jy.2.2.2.1.1=3) aU (fun g=>af.2 ⟨rfl,af.2 ⟨rfl,?_⟩⟩) fun g=>?_
 ·rw[aX g,show ∀x,ah.k w9 x=mW x.1 x.2.1 x.2.2 from fun _=>rfl]
  exact(aj (On h)).2 QD
 ·rw[aK (Decidable.not_not.1 g)];exact QD
theorem abi{p:Ol}{m:al}{n:Node}{S:lQ×Int}(h0:p.b0=S.2)(h1:p.b1=m)(h2:p.bI=n)(h3:p.gT=S.1)(hn:bo m n=0)(ha:S.2=0→(jw (n.2.2.2.1,n.2.2.1.2.1,S.1)).2=0∧(jw (n.2.2.2.1,n.2.2.1.2.1,DX)).2=0):au (tf ah) (.more (.c1 p)) (bif decide (S.2=0) then(L_ m n (BL m n S.1),BL m n S.1,0) else(fu,LB,S.2)):=by
 subst h1 h2
 rw[ak,tf,h0,h3]
 refine aB (p:=¬S.2=0) aU (fun g=>ay (by rw[aX g];rfl) (.ret _)) fun g=>?_
 have g:=Decidable.not_not.1 g
 obtain⟨a1,a2⟩:=ha g
 rw[aK g,cond_true]
 rw[show ah.k K4 (p.b1,p.bI.2.2.1,S.1.2.2.2.1)=tZ p.b1 p.bI.2.2.1 S.1.2.2.2.1 from rfl]
 have e1:ah.c .neq (ah.k jw (p.bI.2.2.2.1,p.bI.2.2.1.2.1,S.1)).2 0=false:=by rw[aA,a1];rfl
 have e2:ah.c .neq (ah.k jw (p.bI.2.2.2.1,p.bI.2.2.1.2.1,2,0,0,(0,0,(0,0,0,0,0),0,([]:List Int)),0)).2 0=false:=by rw[aA];unfold DX uA at a2;rw[a2];rfl
 refine aB (p:=S.1.1=3) aN (fun k=>af.2 ⟨rfl,?_⟩) fun k=>af.2 ⟨rfl,(ai e1).2 ((ai (by rw[aN];exact aX k)).2 ?_)⟩
 ·cases hl:tZ p.b1 p.bI.2.2.1 S.1.2.2.2.1
  ·refine(aj rfl).2 (af.2 ⟨rfl,(ai e2).2 ?_⟩)
   rw[JJ k hl];exact aay (p:=⟨G4 p.bI (K7 p.bI DX)⟩)
  ·refine(ai rfl).2 (af.2 ⟨rfl,(ai e1).2 ((aj (by rw[aN];exact aK k)).2 ?_)⟩)
   rw[FT hl,L_,aK k]
   have hv:=KB hn hl
   exact aap (p:=⟨p.b1,G4 p.bI (K7 p.bI S.1),S.1⟩) hv
 ·rw[RH k,L_,aX k];exact Jh (p:=⟨G4 p.bI (K7 p.bI S.1),S.1⟩)
theorem ahF{m:al}{n:Node}{seen:List Seen}:au (tf ah) (Xu ah m n seen) (As m n seen):=by
 unfold Xu As
 rw[show ah.k fB n=jZ n from rfl]
 refine af.2 ⟨rfl,?_⟩
 have no:∀q:QI,q.a1=(iD m n false).2→au (tf ah) (.more (.c0 q)) (bif decide (bo m n=0) then(fu,LB,181) else(fu,LB,bo m n)):=fun q hq=>by
  rw[ak,tf,hq,iD]
  by_cases h:bo m n=0
  ·rw[aK h];exact(aj rfl).2 (.ret _)
  ·rw[aX h];exact(aj (qy h)).2 (.ret _)
 cases hi:jZ n
 ·exact(ai rfl).2 (af.2 ⟨rfl,af.2 ⟨rfl,tX.2 ⟨rfl,af.2 ⟨rfl,no _ rfl⟩⟩⟩⟩)
 ·refine(aj rfl).2 (af.2 ⟨rfl,af.2 ⟨rfl,tX.2 ⟨rfl,af.2 ⟨rfl,?_⟩⟩⟩⟩)
  rw[show ∀w,ah.k gK (m,n,w)=iD m n w from fun _=>rfl,aU,Bool.true_and]
  by_cases hp:n.2.2.1.2.1=n.1
  ·rw[aX (show ¬¬n.2.2.1.2.1=n.1 from fun k=>k hp)];exact no _ rfl
  ·rw[aK hp,cond_true]
   by_cases h:bo m n=0
   ·have e:iD m n true=(n,0):=by rw[iD,aK h];rfl
    rw[aK h,e,cond_true,ak,tf]
    exact(ai rfl).2 (af.2 ⟨rfl,abi (S:=EM n seen) rfl rfl rfl rfl h fun g=>Yf (c:=n.2.2.1) (v:=n.2.2.2.1) (s:=n.2.2.1.2.1) (seen:=seen) g⟩)
   ·have:=no ⟨seen,(iD m n true).2,m,(iD m n true).1⟩ (by rw[iD,iD,aX h];rfl)
    rw[aX h] at this ⊢
    exact this
def GZ:(al×Node×List Seen)→(Node×lQ×Int):=fun(m,c,k)=>As m c k
def afu:ax:=⟨[aR,aF,(.slice aG)], [aF,Gb,yI],(@tt (al×Node×List Seen)),GZ⟩
theorem aeu:Sd 14 afu:=aP ap bR true 38 [] [⟨14,2, [[2,3,6,7,9,10]]⟩,⟨14,5, [[3,6,7,9,10,11]]⟩,⟨14,14, [[3,6,7,9,11]]⟩,⟨14,16, [[3,6,7,9,11]]⟩,⟨14,17, [[6,7,9,11]]⟩] (fun A (m,n,seen)=>Xu A m n seen) tf aac (fc Tryz.func14 (fc Tryz.func52 (fc Tryz.func53 fz))) (sc aif (sc ai1 (sc aiw (sc sL (sc xx (sc Wj (sc WG (sc QL sz)))))))) (fun A y=>match y with |.c0 p=>⟨31,by kernel_rfl,by kernel_rfl⟩|.c1 p=>⟨76,by kernel_rfl,by kernel_rfl⟩|.c2 p=>⟨29,by kernel_rfl,by kernel_rfl⟩|.c3 p=>⟨56,by kernel_rfl,by kernel_rfl⟩|.c4 p=>⟨29,by kernel_rfl,by kernel_rfl⟩|.c5 p=>⟨48,by kernel_rfl,by kernel_rfl⟩) fun(m,n,seen) hp h=>ahF
theorem rh{c:cy}{k:Int}(hk:4≤k∧k≤8)(h1:0≤c.1∧c.1≤255)(h2:0≤c.2.1∧c.2.1≤k-1)(h3:0≤c.2.2.1∧c.2.2.1≤3)(h4:0≤c.2.2.2.1∧c.2.2.2.1≤4)(h5:0≤c.2.2.2.2∧c.2.2.2.2≤2^k.toNat-1):kJ (c,k)=0:=by
 obtain⟨t,p,m,n,s⟩:=c
 rw[kJ,aX (show ¬k<4 by omega),aX (show ¬8<k by omega),aK h1.1,aK h1.2,aK h2.1,aK h2.2,aK h3.1,aK h3.2,aK h4.1,aK h4.2,aK h5.1,aK h5.2]
 rfl
theorem nL{m:al}{c:cy}(h:kJ (c,m.1)=0)(h1:c.2.2.1<dw m)(h2:c.2.2.2.1≤dw m):dY m c=true:=by
 rw[dY,aK h,aK h1,aK h2];rfl
theorem Bm{m:al}{x:Node}(hm:du m=true)(h:Hy m x=true):bo m x=0:=by rw[bo,hm,h];rfl
theorem Au{m:al}{x:Node}(hm:du m=true)(h1:0≤x.1∧x.1≤m.1-1)(h2:2≤x.2.1∧x.2.1≤4)(h3:0≤x.2.2.2.2.2.2.1∧x.2.2.2.2.2.2.1≤2)(h4:dK x.2.2.2.2.2.2.2=true)(h5:x.2.2.2.2.2.2.2.1=x.1)(h6:(x.2.2.2.2.2.2.2.2.2.1.length:Int)=m.1)
  (h7:x.2.1=2→(ah.n .bool m.2.2.2.2.2.2.1 x.1:Bool)=true) (h8:dY m x.2.2.1=true) (h9:oI x.2.2.2.1=0) (ha:x.2.2.2.1.1=x.1) (hb:x.2.2.2.1.2.1=m.1) (hc:x.2.2.1.2.2.2.2=x.2.2.2.1.2.2.1) (hd:x.2.2.2.2.1=0) (he:x.2.2.2.2.2.1=true→x.2.1=2):bo m x=0:=by
 refine Bm hm (bT.2 ⟨h1,by omega,h3,h4,h5,h6,?_,?_,?_,?_⟩)
 ·rw[ES]
  by_cases k:x.2.1=2
  ·rw[aK k];exact h7 k
  ·rw[aX k];rfl
 ·rw[tg,jZ,aK h2,cond_true,h8,aK h9,aK ha,aK hb,aK hc];rfl
 ·rw[wu,aX (show ¬x.2.1=1 by omega)];exact aK hd
 ·rw[xX]
  cases k:x.2.2.2.2.2.1
  ·rfl
  ·exact aK (.inr (he k))
theorem nS{m:al}{x:Node}(hm:du m=true)(h1:0≤x.1∧x.1≤m.1-1)(h2:x.2.1=0∨x.2.1=1∨x.2.1=5)(h3:0≤x.2.2.2.2.2.2.1∧x.2.2.2.2.2.2.1≤2)(h4:dK x.2.2.2.2.2.2.2=true)(h5:x.2.2.2.2.2.2.2.1=x.1)(h6:(x.2.2.2.2.2.2.2.2.2.1.length:Int)=m.1)
  (h8:x.2.2.1=(0,0,0,0,0)) (h9:x.2.2.2.1=(0,0,0,0,0,0,0)) (hd:x.2.1=1→1≤x.2.2.2.2.1∧x.2.2.2.2.1≤(o8 m x.1).1) (hd0:¬x.2.1=1→x.2.2.2.2.1=0) (he:x.2.2.2.2.2.1=true→x.2.1=1):bo m x=0:=by
 refine Bm hm (bT.2 ⟨h1,by omega,h3,h4,h5,h6,?_,?_,?_,?_⟩)
 ·rw[ES,aX (show ¬x.2.1=2 by omega)];rfl
 ·rw[tg,jZ,aX (show ¬(2≤x.2.1∧x.2.1≤4) by omega),cond_false,h8,h9];rfl
 ·rw[wu]
  by_cases k:x.2.1=1
  ·rw[aK k];exact aK (hd k)
  ·rw[aX k];exact aK (hd0 k)
 ·rw[xX]
  cases k:x.2.2.2.2.2.1
  ·rfl
  ·exact aK (.inl (he k))
theorem Jr{m:al}{n:Node}(h:bo m n=0)(hb:n.2.2.2.2.2.1=true):n.2.1=1∨n.2.1=2:=by
 have hc:=(bT.1 (a_ h).2).2.2.2.2.2.2.2.2.2
 rw[xX,hb] at hc
 exact of_decide_eq_true hc
theorem UF{k:Int}(h:4≤k∧k≤8):ah.b .shl .i64 1 k=2^k.toNat:=by
 have:k=4∨k=5∨k=6∨k=7∨k=8:=by omega
 rcases this with rfl|rfl|rfl|rfl|rfl<;>decide
theorem IP{a b c:Int}(hb:4≤b∧b≤8)(ha:0≤a∧a≤b-1)(hc:0≤c∧c≤2^b.toNat-1):oI (a,b,c,1,0,0,0)=0:=by
 refine iF.2 ?_
 unfold iY
 have:((2^b.toNat:Nat):Int)=2^b.toNat:=by norm_cast
 exact⟨hb.1,hb.2,ha.1,by omega,by omega,by omega,hc.1,by omega,by omega,by omega,by omega,by omega,by omega,by omega,fun h=>absurd rfl h,fun h=>by omega⟩
theorem yl{m:al}{n:Int}(hm:du m=true)(h:0≤n∧n≤m.1-1):1≤(o8 m n).1:=by
 have hk:=(cY hm).1
 rw[o8,jJ,hm,cond_true,aK h]
 simp only[cond_true,decide_true,ck]
 rw[ib,ib]
 rw[iZ (a:=4*m.1) (by omega) (by omega),iZ (a:=n+1) (by omega) (by omega),iZ (a:=2*(n+1)) (by omega) (by omega),iZ (by omega) (by omega)]
 omega
theorem XM{m:al}{n:Int}(hm:du m=true)(h:0≤n∧n≤m.1-1):1≤(Cm m n).1∧(Cm m n).1≤(o8 m n).1:=by
 have hk:=(cY hm).1
 rw[o8,Cm,jJ,hm,cond_true,aK h]
 simp only[cond_true,decide_true,ck]
 rw[ib,ib]
 rw[iZ (a:=4*m.1) (by omega) (by omega),iZ (a:=n+1) (by omega) (by omega),iZ (a:=2*(n+1)) (by omega) (by omega),iZ (a:=4*m.1+2*(n+1)) (by omega) (by omega)]
 omega
theorem ET{m:al}{c:cy}{r:Int}(hm:du m=true)(h:dY m c=true):dY m (lD m c r)=true∧(lD m c r).2.1=c.2.1∧(lD m c r).2.2.2.2=c.2.2.2.2:=by
 rw[lD,xS,aK (Ql hm h),cond_true]
 by_cases h1:0≤r∧r≤dw m
 ·rw[aK h1,cond_true]
  by_cases h2:0<r
  ·cases h3:qf m c (r-1)
   ·rw[Bool.and_false];exact⟨h,rfl,rfl⟩
   ·rw[aK h2,Bool.and_self,cond_true]
    have hf:=uC h
    have hc:=qM hf.1
    have hl:=(cY hm).2.1
    refine⟨nL (rh hc.1 hc.2.1 hc.2.2.1 hc.2.2.2.1 (show 0≤r∧r≤4 by omega) hc.2.2.2.2.2) hf.2.1.2 h1.2,rfl,rfl⟩
  ·rw[aX h2,Bool.false_and];exact⟨h,rfl,rfl⟩
 ·rw[aX h1];exact⟨h,rfl,rfl⟩
theorem Y7{m:al}{n:Node}{s:Int}(h:bo m n=0)(he:(MH m n s).2=0):bo m (MH m n s).1=0:=by
 have hz:=bT.1 (a_ h).2
 have hm:=(a_ h).1
 have hk:=(cY hm)
 rw[MH,aK h,cond_true] at he ⊢
 by_cases h1:n.2.1=0
 ·rw[aK h1,cond_true] at he ⊢
  by_cases h2:0≤s∧s≤ah.b .shl .i64 1 m.1-1
  ·rw[aK h2,cond_true] at he ⊢
   cases h3:lu s n.1
   ·rw[h3] at he;exact absurd (show(2:Int)=0 from he) (by decide)
   ·rw[UF hk.1] at h2
    exact Au hm hz.1 (show(2:Int)≤4∧(4:Int)≤4 by omega) hz.2.2.1 hz.2.2.2.1 hz.2.2.2.2.1 hz.2.2.2.2.2.1 (fun k=>absurd k (show ¬(4:Int)=2 by omega)) (nL (rh (c:=(0,0,0,0,s)) hk.1 (show(0:Int)≤0∧(0:Int)≤255 by omega) (show(0:Int)≤0∧(0:Int)≤m.1-1 by omega) (show(0:Int)≤0∧(0:Int)≤3 by omega) (show(0:Int)≤0∧(0:Int)≤4 by omega) h2) (show(0:Int)<dw m by omega) (show(0:Int)≤dw m by omega)) (IP hk.1 hz.1 h2) rfl rfl rfl rfl (fun k=>by have:=Jr h k;omega)
  ·rw[aX h2] at he;exact absurd (show(2:Int)=0 from he) (by decide)
 ·rw[aX h1] at he;exact absurd (show(181:Int)=0 from he) (by decide)
theorem D8{m:al}{id:Int}(he:(jK m id).2=0):bo m (jK m id).1=0:=by
 rw[jK] at he ⊢
 cases hm:du m
 ·rw[hm] at he;exact absurd (show(70:Int)=0 from he) (by decide)
 ·rw[hm,cond_true] at he
  have hk:=cY hm
  by_cases h1:0≤id∧id≤m.1-1
  ·rw[aK h1,cond_true,cond_true]
   have hl:((List.replicate m.1.toNat vL).length:Int)=m.1:=by rw[pQ];omega
   refine nS hm h1 (.inl rfl) (show(0:Int)≤0∧(0:Int)≤2 by omega) ?_ rfl hl rfl rfl (fun k=>absurd k (show ¬(0:Int)=1 by omega)) (fun _=>rfl) (fun k=>by cases k)
   show dK (id,([]:List Int),List.replicate m.1.toNat vL,4,(-1))=true
   have ha:(List.replicate m.1.toNat vL).all FM=true:=by rw[List.all_eq_true];intro x hx;rw[List.eq_of_mem_replicate hx];decide
   simp only[dK,hl,ha]
   simp
   omega
  ·rw[aX h1] at he;exact absurd (show(2:Int)=0 from he) (by decide)
theorem JE{m:al}{n:Node}{on:Bool}(h:bo m n=0)(he:(mF m n on).2=0):bo m (mF m n on).1=0:=by
 have hz:=bT.1 (a_ h).2
 have hm:=(a_ h).1
 rw[mF,aK h,cond_true] at he ⊢
 cases on
 ·exact D8 he
 ·rw[cond_true] at he ⊢
  by_cases h1:n.2.1=0
  ·rw[aK h1,cond_true]
   exact nS hm hz.1 (.inr (.inl rfl)) hz.2.2.1 hz.2.2.2.1 hz.2.2.2.2.1 hz.2.2.2.2.2.1 rfl rfl (fun _=>⟨yl hm hz.1,Int.le_refl _⟩) (fun k=>absurd rfl k) (fun k=>rfl)
  ·rw[aX h1] at he;exact absurd (show(181:Int)=0 from he) (by decide)
theorem R4{m:al}{n:Node}{c:cr}(h:bo m n=0)(h1:dK c=true)(h2:c.1=n.2.2.2.2.2.2.2.1)(h3:c.2.2.1.length=n.2.2.2.2.2.2.2.2.2.1.length):bo m (n.1,n.2.1,n.2.2.1,n.2.2.2.1,n.2.2.2.2.1,n.2.2.2.2.2.1,n.2.2.2.2.2.2.1,c)=0:=by
 have hz:=bT.1 (a_ h).2
 exact Bm (a_ h).1 (bT.2 ⟨hz.1,hz.2.1,hz.2.2.1,h1,h2.trans hz.2.2.2.2.1,(congrArg Int.ofNat h3).trans hz.2.2.2.2.2.1,hz.2.2.2.2.2.2⟩)
theorem aaY{c:cr}{d:List Int}(he:(MK c d).2=0):dK (MK c d).1=true∧(MK c d).1.1=c.1∧(MK c d).1.2.2.1.length=c.2.2.1.length:=by
 rw[MK] at he ⊢
 cases h:dK c
 ·rw[h] at he;exact absurd (show(120:Int)=0 from he) (by decide)
 ·rw[h,cond_true] at he
  rw[cond_true]
  by_cases h1:8<(d.length:Int)
  ·rw[aK h1] at he;exact absurd (show(3:Int)=0 from he) (by decide)
  ·rw[aX h1,cond_false]
   simp only[dK,cd,jV] at h ⊢
   exact⟨⟨h.1,h.2.1,h1,h.2.2.2⟩,trivial,trivial⟩
theorem Xi{c:cr}(he:(SE c).2=0):dK (SE c).1=true∧(SE c).1.1=c.1∧(SE c).1.2.2.1.length=c.2.2.1.length:=by
 rw[SE] at he ⊢
 cases h:dK c
 ·rw[h] at he;exact absurd (show(120:Int)=0 from he) (by decide)
 ·rw[cond_true]
  simp only[dK,cd,jV] at h ⊢
  exact⟨⟨h.1,h.2.1,h.2.2.1,by omega,h.2.2.2.2⟩,trivial,trivial⟩
theorem Pp{c:cr}{w:Int}(he:(BA c w).2=0):dK (BA c w).1=true∧(BA c w).1.1=c.1∧(BA c w).1.2.2.1.length=c.2.2.1.length:=by
 rw[BA] at he ⊢
 cases h:dK c
 ·rw[h] at he;exact absurd (show(120:Int)=0 from he) (by decide)
 ·rw[h,cond_true] at he
  rw[cond_true]
  by_cases h1:-1≤w∧w≤3
  ·rw[aK h1,cond_true]
   simp only[dK,cd,jV] at h ⊢
   exact⟨⟨h.1,h.2.1,h.2.2.1,h.2.2.2.1,h1,h.2.2.2.2.2⟩,trivial,trivial⟩
  ·rw[aX h1] at he;exact absurd (show(2:Int)=0 from he) (by decide)
theorem Uz{c:cr}(h:dK c=true):dK (BY c).1=true∧(BY c).1.1=c.1∧(BY c).1.2.2.1.length=c.2.2.1.length:=by
 rw[BY,h,cond_true]
 have hl:(c.2.2.1.map Eg).length=c.2.2.1.length:=List.length_map ..
 simp only[dK,cd,jV] at h ⊢
 refine⟨⟨by rw[hl];exact h.1,by rw[hl];exact h.2.1,h.2.2.1,?_,h.2.2.2.2.1,?_⟩,trivial,hl⟩
 ·have hp:=h.2.2.2.1
  rw[cu,iZ (by omega) (by omega),IU]
  split<;>omega
 ·rw[List.all_eq_true]
  intro x hx
  obtain⟨y,hy,rfl⟩:=List.mem_map.1 hx
  have hm:=List.all_eq_true.1 h.2.2.2.2.2 y hy
  simp only[FM,cd,jV] at hm
  have hm2:0≤(Eg y).2∧(Eg y).2≤255:=by
   show 0≤ah.mn (ah.b .add .i64 y.2 1) 255∧ah.mn (ah.b .add .i64 y.2 1) 255≤255
   rw[ck,iZ (by omega) (by omega),ov];split<;>omega
  rw[FM,cd];exact⟨aK hm.1,aK hm2⟩
theorem Kh{c:cr}{s:Int}{d:List Int}(he:(mW c s d).2=0):dK (mW c s d).1=true∧(mW c s d).1.1=c.1∧(mW c s d).1.2.2.1.length=c.2.2.1.length:=by
 rw[mW] at he ⊢
 cases h:dK c
 ·rw[h] at he;exact absurd (show(120:Int)=0 from he) (by decide)
 rw[h,cond_true] at he
 rw[cond_true]
 by_cases h1:0≤s∧s≤(c.2.2.1.length:Int)-1
 ·rw[aK h1,cond_true] at he ⊢
  by_cases h2:8<(d.length:Int)
  ·rw[aK h2] at he;exact absurd (show(3:Int)=0 from he) (by decide)
  rw[aX h2,cond_false]
  have hl:(c.2.2.1.set s.toNat (d,0)).length=c.2.2.1.length:=List.length_set ..
  simp only[dK,cd,jV] at h ⊢
  refine⟨⟨by rw[hl];exact h.1,by rw[hl];exact h.2.1,h.2.2.1,h.2.2.2.1,h.2.2.2.2.1,?_⟩,trivial,hl⟩
  rw[List.all_eq_true]
  intro x hx
  rcases List.mem_or_eq_of_mem_set hx with hx|rfl
  ·exact List.all_eq_true.1 h.2.2.2.2.2 x hx
  ·simp only[FM,cd,jV];exact⟨h2,by omega⟩
 ·rw[aX h1] at he;exact absurd (show(2:Int)=0 from he) (by decide)
theorem zR{m:al}{n:Node}{r:cr×Int}(h:bo m n=0)(hr:r.2=0→dK r.1=true∧r.1.1=n.2.2.2.2.2.2.2.1∧r.1.2.2.1.length=n.2.2.2.2.2.2.2.2.2.1.length)(he:(zP n r).2=0):bo m (zP n r).1=0:=by
 rw[zP] at he ⊢
 by_cases k:r.2=0
 ·rw[aK k,cond_true]
  obtain⟨a,b,c⟩:=hr k
  exact R4 h a b c
 ·rw[aX k] at he;exact absurd he k
theorem Vy{m:al}{n:Node}{o:bl}(h:bo m n=0)(he:(tO m n o).2=0):bo m (tO m n o).1=0:=by
 rw[tO,aK h,cond_true] at he ⊢
 by_cases h1:1≤o.2.2.2.1∧o.2.2.2.1≤3
 ·rw[aK h1,cond_true] at he ⊢
  cases hi:jZ n
  ·exact h
  rw[hi,cond_true] at he
  rw[cond_true]
  by_cases k:o.2.2.2.1=1
  ·rw[aK k,cond_true] at he ⊢;exact zR h aaY he
  rw[aX k,cond_false] at he ⊢
  by_cases k2:o.2.2.2.1=2
  ·rw[aK k2,cond_true] at he ⊢;exact zR h Xi he
  rw[aX k2,cond_false] at he ⊢
  exact zR h Pp he
 ·rw[aX h1] at he;exact absurd (show(2:Int)=0 from he) (by decide)
theorem QT{m:al}{n:Node}{c:cy}(h:bo m n=0)(hi:jZ n=true)(h1:dY m c=true)(h2:c.2.2.2.2=n.2.2.1.2.2.2.2):bo m (n.1,n.2.1,c,n.2.2.2)=0:=by
 have hz:=bT.1 (a_ h).2
 have hc:=kh h hi
 refine Bm (a_ h).1 (bT.2 ⟨hz.1,hz.2.1,hz.2.2.1,hz.2.2.2.1,hz.2.2.2.2.1,hz.2.2.2.2.2.1,hz.2.2.2.2.2.2.1,?_,hz.2.2.2.2.2.2.2.2⟩)
 rw[tg,show jZ (n.1,n.2.1,c,n.2.2.2)=true from hi,cond_true]
 show(dY m c&&(decide (oI n.2.2.2.1=0)&&(decide (n.2.2.2.1.1=n.1)&&(decide (n.2.2.2.1.2.1=m.1)&&decide (c.2.2.2.2=n.2.2.2.1.2.2.1)))))=true
 rw[h1,aK hc.2.1,aK hc.2.2.1,aK hc.2.2.2.1,aK (h2.trans hc.2.2.2.2)];rfl
theorem Rb{m:al}{c:cy}(hm:du m=true)(h:dY m c=true):dY m (kF c m.1).1=true∧(kF c m.1).1.2.2.2.2=c.2.2.2.2:=by
 have hf:=uC h
 have hc:=qM hf.1
 have hl:=(cY hm).2.1
 rw[kF,aK hf.1,cond_true]
 have ht:0≤(c.1+1).tmod 256∧(c.1+1).tmod 256≤255:=by
  have:=hc.2.1
  rw[Int.tmod_eq_emod_of_nonneg (by omega)];omega
 by_cases g:c.2.1+1=m.1
 ·rw[aK g,cond_true]
  by_cases g2:c.2.2.2.1=0
  ·rw[aK g2,cond_true]
   exact⟨nL (rh (c:=((c.1+1).tmod 256,0,c.2.2)) hc.1 ht (show(0:Int)≤0∧(0:Int)≤m.1-1 by omega) hc.2.2.2.1 hc.2.2.2.2.1 hc.2.2.2.2.2) hf.2.1.2 hf.2.2,rfl⟩
  ·rw[aX g2,cond_false]
   exact⟨nL (rh (c:=((c.1+1).tmod 256,0,c.2.2.2.1-1,0,c.2.2.2.2)) hc.1 ht (show(0:Int)≤0∧(0:Int)≤m.1-1 by omega) (show 0≤c.2.2.2.1-1∧c.2.2.2.1-1≤3 by omega) (show(0:Int)≤0∧(0:Int)≤4 by omega) hc.2.2.2.2.2) (show c.2.2.2.1-1<dw m by omega) (show(0:Int)≤dw m by omega),rfl⟩
 ·rw[aX g,cond_false]
  exact⟨nL (rh (c:=(c.1,c.2.1+1,c.2.2)) hc.1 hc.2.1 (show 0≤c.2.1+1∧c.2.1+1≤m.1-1 by omega) hc.2.2.2.1 hc.2.2.2.2.1 hc.2.2.2.2.2) hf.2.1.2 hf.2.2,rfl⟩
theorem Fa{m:al}{n:Node}(h:bo m n=0)(he:(B4 m n).2=0):bo m (B4 m n).1=0:=by
 rw[B4,aK h,cond_true] at he ⊢
 cases hi:jZ n
 ·rw[hi] at he;exact absurd (show(181:Int)=0 from he) (by decide)
 rw[cond_true]
 obtain⟨a,b⟩:=Rb (a_ h).1 (kh h hi).1
 have h1:=QT (c:=(kF n.2.2.1 m.1).1) h hi a b
 cases decide ((kF n.2.2.1 m.1).1.2.1=0)
 ·exact h1
 ·obtain⟨c,d,e⟩:=Uz (rq h)
  exact R4 h1 c d e
theorem Ni{k n:Int}(hk:4≤k∧k≤8)(h:0≤n∧n≤k-1):0≤ah.b .shl .i64 1 n∧ah.b .shl .i64 1 n≤2^k.toNat-1:=by
 have h1:k=4∨k=5∨k=6∨k=7∨k=8:=by omega
 have h2:n=0∨n=1∨n=2∨n=3∨n=4∨n=5∨n=6∨n=7:=by omega
 rcases h1 with rfl|rfl|rfl|rfl|rfl<;>rcases h2 with rfl|rfl|rfl|rfl|rfl|rfl|rfl|rfl<;>first|decide|omega
theorem TF{m:al}{n:Node}(h:bo m n=0)(he:(Av m n).2.2.2=0):bo m (Av m n).1=0:=by
 have hz:=bT.1 (a_ h).2
 have hm:=(a_ h).1
 have hk:=cY hm
 rw[Av,aK h,cond_true] at he ⊢
 by_cases h1:n.2.1=1
 ·obtain⟨ho,hv⟩:=KE h (by omega)
  have ht:1≤n.2.2.2.2.1∧n.2.2.2.2.1≤(o8 m n.1).1:=by
   have hc:=hz.2.2.2.2.2.2.2.2.1
   rw[wu,aK h1,cond_true,jV] at hc
   exact hc
  rw[aK h1,cond_true]
  by_cases h2:0<n.2.2.2.2.1-1
  ·rw[aK h2,cond_true]
   exact nS hm hz.1 (.inr (.inl h1)) hz.2.2.1 hz.2.2.2.1 hz.2.2.2.2.1 hz.2.2.2.2.2.1 ho hv (fun _=>show 1≤n.2.2.2.2.1-1∧n.2.2.2.2.1-1≤(o8 m n.1).1 by omega) (fun k=>absurd h1 k) (fun _=>h1)
  ·rw[aX h2,cond_false]
   cases hc:(ah.n .bool m.2.2.2.2.2.2.1 n.1:Bool)
   ·rw[cond_false]
    exact nS hm hz.1 (.inr (.inl h1)) hz.2.2.1 hz.2.2.2.1 hz.2.2.2.2.1 hz.2.2.2.2.2.1 ho hv (fun _=>⟨yl hm hz.1,Int.le_refl _⟩) (fun k=>absurd h1 k) (fun _=>h1)
   ·rw[cond_true]
    have hs:=Ni hk.1 hz.1
    exact Au hm hz.1 (show(2:Int)≤2∧(2:Int)≤4 by omega) hz.2.2.1 hz.2.2.2.1 hz.2.2.2.2.1 hz.2.2.2.2.2.1 (fun _=>hc) (nL (rh (c:=(0,n.1,0,0,ah.b .shl .i64 1 n.1)) hk.1 (show(0:Int)≤0∧(0:Int)≤255 by omega) hz.1 (show(0:Int)≤0∧(0:Int)≤3 by omega) (show(0:Int)≤0∧(0:Int)≤4 by omega) hs) (show(0:Int)<dw m by omega) (show(0:Int)≤dw m by omega)) (IP hk.1 hz.1 hs) rfl rfl rfl rfl (fun _=>rfl)
 ·rw[aX h1] at he;exact absurd (show(181:Int)=0 from he) (by decide)
theorem Dt{m:al}{n:Node}{c:cy}{f:mr}(h:bo m n=0)(hf:dY m c=true)(hd:f.1=4→(mW n.2.2.2.2.2.2.2 c.2.1 f.2.2.2.2).2=0):bo m (sS m n c f)=0:=by
 have hz:=bT.1 (a_ h).2
 have hm:=(a_ h).1
 obtain⟨t1,t2,t3⟩:=ET (r:=f.2.1) hm hf
 have hs:=(qM (uC hf).1).2.2.2.2.2
 have hH:dK (bif decide (f.1=4) then(mW n.2.2.2.2.2.2.2 c.2.1 f.2.2.2.2).1 else n.2.2.2.2.2.2.2)=true∧(bif decide (f.1=4) then(mW n.2.2.2.2.2.2.2 c.2.1 f.2.2.2.2).1 else n.2.2.2.2.2.2.2).1=n.2.2.2.2.2.2.2.1∧(bif decide (f.1=4) then(mW n.2.2.2.2.2.2.2 c.2.1 f.2.2.2.2).1 else n.2.2.2.2.2.2.2).2.2.1.length=n.2.2.2.2.2.2.2.2.2.1.length:=by
  by_cases k:f.1=4
  ·rw[aK k];exact Kh (hd k)
  ·rw[aX k];exact⟨rq h,rfl,rfl⟩
 exact Au hm hz.1 (show(2:Int)≤3∧(3:Int)≤4 by omega) (show(0:Int)≤0∧(0:Int)≤2 by omega) hH.1 (hH.2.1.trans hz.2.2.2.2.1) ((congrArg Int.ofNat hH.2.2).trans hz.2.2.2.2.2.1) (fun k=>absurd k (show ¬(3:Int)=2 by omega)) t1 (IP (cY hm).1 hz.1 hs) rfl rfl t3 rfl (fun k=>by cases k)
theorem J9{m:al}{n:Node}{s:List Seen}{o:Bool}(h:bo m n=0)(he:(wJ m n s o).2.2.2=0):bo m (wJ m n s o).1=0:=by
 have hz:=bT.1 (a_ h).2
 have hm:=(a_ h).1
 have hk:=cY hm
 rw[wJ,aK h,cond_true] at he ⊢
 by_cases h1:n.2.1=1
 ·rw[aK h1,cond_true] at he ⊢
  by_cases h2:(s.length:Int)=2
  ·rw[aK h2,cond_true]
   cases hx:(fK m.1 s).2.2
   ·exact h
   obtain⟨e1,e2,e3⟩:=Ss hx
   have hl:=Sz e3
   rw[cond_true]
   by_cases h3:(fK m.1 s).1.1=1
   ·rw[aK h3,cond_true]
    by_cases h4:(fK m.1 s).1.2.2.2.1=n.1
    ·rw[aK h4];exact h
    ·rw[aX h4,cond_false]
     cases o && !n.2.2.2.2.2.1
     ·rw[cond_false]
      exact Dt h (nL (rh (c:=(0,(fK m.1 s).1.2.2.2.1,0,0,ah.b .shl .i64 1 (fK m.1 s).1.2.2.2.1)) hk.1 (show(0:Int)≤0∧(0:Int)≤255 by omega) (show 0≤(fK m.1 s).1.2.2.2.1∧(fK m.1 s).1.2.2.2.1≤m.1-1 by omega) (show(0:Int)≤0∧(0:Int)≤3 by omega) (show(0:Int)≤0∧(0:Int)≤4 by omega) (Ni hk.1 (by omega))) (show(0:Int)<dw m by omega) (show(0:Int)≤dw m by omega)) (fun k=>by omega)
     ·rw[cond_true]
      obtain⟨ho,hv⟩:=KE h (by omega)
      exact nS hm hz.1 (.inr (.inl h1)) hz.2.2.1 hz.2.2.2.1 hz.2.2.2.2.1 hz.2.2.2.2.2.1 ho hv (fun _=>⟨yl hm hz.1,Int.le_refl _⟩) (fun k=>absurd h1 k) (fun _=>h1)
   ·rw[aX h3,cond_false]
    cases hj:LA m n (fK m.1 s).1
    ·exact h
    ·rw[cond_true]
     have hd:=Qp h e3 hj
     have hf:dY m (fK m.1 s).1.2.2.1=true:=by rw[LA,cd] at hj;exact hj.1
     exact Dt h hf fun _=>hd
  ·rw[aX h2] at he;exact absurd (show(2:Int)=0 from he) (by decide)
 ·rw[aX h1] at he;exact absurd (show(181:Int)=0 from he) (by decide)
theorem M3{m:al}{c:cy}{s:Int}(h:dY m c=true)(hs:0≤s∧s≤2^m.1.toNat-1):dY m (c.1,c.2.1,c.2.2.1,c.2.2.2.1,s)=true:=by
 have hf:=uC h
 have hc:=qM hf.1
 exact nL (rh (c:=(c.1,c.2.1,c.2.2.1,c.2.2.2.1,s)) hc.1 hc.2.1 hc.2.2.1 hc.2.2.2.1 hc.2.2.2.2.1 hs) hf.2.1.2 hf.2.2
theorem P0{v:mj}(h:oI v=0):0≤v.2.2.1∧v.2.2.1≤2^v.2.1.toNat-1:=by
 obtain⟨a,b,c,d,e,f,g⟩:=v
 have hm:=iF.1 h
 unfold iY at hm
 have:((2^b.toNat:Nat):Int)=2^b.toNat:=by norm_cast
 exact⟨hm.2.2.2.2.2.2.1,show c≤2^b.toNat-1 by omega⟩
theorem F6{m:al}{n:Node}{v:mj}(h:bo m n=0)(hi:jZ n=true)(hv:oI v=0)(h1:v.1=n.1)(h2:v.2.1=m.1):bo m (G4 n v)=0:=by
 have hz:=bT.1 (a_ h).2
 have hc:=kh h hi
 have hs:=P0 hv
 rw[h2] at hs
 refine Bm (a_ h).1 (bT.2 ⟨hz.1,hz.2.1,hz.2.2.1,hz.2.2.2.1,hz.2.2.2.2.1,hz.2.2.2.2.2.1,hz.2.2.2.2.2.2.1,?_,hz.2.2.2.2.2.2.2.2⟩)
 rw[tg,show jZ (G4 n v)=true from hi,cond_true]
 show(dY m (n.2.2.1.1,n.2.2.1.2.1,n.2.2.1.2.2.1,n.2.2.1.2.2.2.1,v.2.2.1)&&(decide (oI v=0)&&(decide (v.1=n.1)&&(decide (v.2.1=m.1)&&decide (v.2.2.1=v.2.2.1)))))=true
 rw[M3 hc.1 hs,aK hv,aK h1,aK h2,aK rfl];rfl
theorem OS{n:Node}(hi:jZ n=true):2≤n.2.1∧n.2.1≤4:=of_decide_eq_true hi
theorem Vo{m:al}{x:Node}(h:bo m x=0)(hi:jZ x=true):bo m (on4 x)=0:=by
 have hz:=bT.1 (a_ h).2
 have hc:=kh h hi
 have hs:=OS hi
 have ht:=Kj h (show ¬x.2.1=1 by omega)
 exact Au (a_ h).1 hz.1 (show(2:Int)≤4∧(4:Int)≤4 by omega) hz.2.2.1 hz.2.2.2.1 hz.2.2.2.2.1 hz.2.2.2.2.2.1 (fun k=>absurd k (show ¬(4:Int)=2 by omega)) hc.1 hc.2.1 hc.2.2.1 hc.2.2.2.1 hc.2.2.2.2 ht (fun k=>by cases k)
theorem VW{n:Node}(h:oI n.2.2.2.1=0):oI (nJ n).1=0∧(nJ n).1.1=n.2.2.2.1.1∧(nJ n).1.2.1=n.2.2.2.1.2.1:=by
 rw[nJ]
 cases decide (n.2.1=2)&&(decide (n.2.2.2.1.2.2.2.1<2)||decide (n.2.2.2.1.2.2.2.1≤n.2.2.2.1.2.2.2.2.1))
 ·rw[cond_false]
  generalize n.2.2.2.1=V at h ⊢
  obtain⟨a,b,c,d,e,f,g⟩:=V
  cases decide (n.2.1=3)
  ·obtain⟨c',d',e',f',g',w,e1,e2,_⟩:=KG (iF.1 h)
   rw[cond_false,e1];exact⟨iF.2 e2,rfl,rfl⟩
  ·obtain⟨c',d',e',f',g',w,e1,e2,_⟩:=M9 (iF.1 h)
   rw[cond_true,e1];exact⟨iF.2 e2,rfl,rfl⟩
 ·exact⟨h,rfl,rfl⟩
theorem Vj{m:al}{x:Node}(h:bo m x=0)(hi:jZ x=true):bo m (UP m x).1=0:=by
 obtain⟨t1,t2,t3⟩:=ET (r:=(Cr m x).2.1) (a_ h).1 (kh h hi).1
 exact QT h hi t1 t3
theorem SU{m:al}{n:Node}(h:bo m n=0)(hi:jZ n=true):bo m (YW n (nJ n).1)=0:=by
 have hc:=kh h hi
 obtain⟨v1,v2,v3⟩:=VW hc.2.1
 exact Vo (F6 h hi v1 (v2.trans hc.2.2.1) (v3.trans hc.2.2.2.1)) hi
theorem Zv{m:al}{n:Node}(h:bo m n=0)(he:(ML m n).2.2.2=0):bo m (ML m n).1=0:=by
 have hz:=bT.1 (a_ h).2
 have hm:=(a_ h).1
 rw[ML,aK h,cond_true] at he ⊢
 cases hi:jZ n&&decide (n.2.2.1.2.1=n.1)
 ·rw[hi] at he;exact absurd (show(181:Int)=0 from he) (by decide)
 rw[cd] at hi
 rw[cond_true,CV]
 cases decide ((nJ n).2=2)
 ·rw[cond_false]
  cases decide ((nJ n).2=3)
  ·rw[cond_false]
   cases decide ((nJ n).2=4)
   ·rw[cond_false]
    exact Vj (SU h hi.1) rfl
   ·rw[cond_true]
    have hr:=XM hm hz.1
    exact nS hm hz.1 (.inr (.inl rfl)) hz.2.2.1 hz.2.2.2.1 hz.2.2.2.2.1 hz.2.2.2.2.2.1 rfl rfl (fun _=>hr) (fun k=>absurd rfl k) (fun _=>rfl)
  ·rw[cond_true]
   exact nS hm hz.1 (.inr (.inl rfl)) (show(0:Int)≤2∧(2:Int)≤2 by omega) hz.2.2.2.1 hz.2.2.2.2.1 hz.2.2.2.2.2.1 rfl rfl (fun _=>⟨yl hm hz.1,Int.le_refl _⟩) (fun k=>absurd rfl k) (fun _=>rfl)
 ·rw[cond_true]
  exact nS hm hz.1 (.inr (.inr rfl)) (show(0:Int)≤1∧(1:Int)≤2 by omega) hz.2.2.2.1 hz.2.2.2.2.1 hz.2.2.2.2.2.1 rfl rfl (fun k=>absurd k (show ¬(5:Int)=1 by omega)) (fun _=>rfl) (fun k=>by cases k)
theorem PZ{c:cy}{v:mj}{s:Int}{seen:List Seen}{o:lQ}(h:(kH (c,v,s,seen)).2=0)(ho:o=(kH (c,v,s,seen)).1∨o=DX):oI (jw (v,s,o)).1=0∧(jw (v,s,o)).1.1=v.1∧(jw (v,s,o)).1.2.1=v.2.1:=by
 obtain⟨t,p,m,n,x⟩:=c
 obtain⟨a,b,c,d,e,f,g⟩:=v
 rcases ho with rfl|rfl
 ·obtain⟨c',d',e',f',g',e1,e2,_⟩:=CH h
  rw[e1];exact⟨iF.2 e2,rfl,rfl⟩
 ·obtain⟨h1,h2,h3,h4,_⟩:=tK h
  have hok:=dJ.1 h1
  have h3:s<b:=h3
  have h4:s≠a:=h4
  obtain⟨c',f',g',e1,e2,_⟩:=vc hok h2 h3 h4
  have hm:=hok
  unfold iY at hm
  rw[En rfl,Jk e1 (show 0≤e by omega) (show e≤1048576 by omega)]
  exact⟨iF.2 (af4 e2 (inc_le (d:=e) (show 0≤e by omega) (show e≤1048576 by omega))),rfl,rfl⟩
theorem T7{m:al}{x:Node}(h:bo m x=0):bo m (AA x)=0:=by
 rw[AA]
 by_cases k:x.2.1=4
 ·cases Jm x.2.2.2.1
  ·rw[aK k,Bool.not_false,Bool.and_self,cond_true]
   have hz:=bT.1 (a_ h).2
   have hi:jZ x=true:=aK (by omega)
   have hc:=kh h hi
   have ht:=Kj h (show ¬x.2.1=1 by omega)
   exact Au (a_ h).1 hz.1 (show(2:Int)≤3∧(3:Int)≤4 by omega) hz.2.2.1 hz.2.2.2.1 hz.2.2.2.2.1 hz.2.2.2.2.2.1 (fun k=>absurd k (show ¬(3:Int)=2 by omega)) hc.1 hc.2.1 hc.2.2.1 hc.2.2.2.1 hc.2.2.2.2 ht (fun j=>by have:=Jr h j;omega)
  ·rw[Bool.not_true,Bool.and_false];exact h
 ·rw[aX k];exact h
theorem OR{m:al}{x:Node}{f:mr}(h:bo m x=0)(hi:jZ x=true)(hd:(mW x.2.2.2.2.2.2.2 x.2.2.1.2.1 f.2.2.2.2).2=0):bo m (FB m x f)=0:=by
 obtain⟨t1,t2,t3⟩:=ET (r:=f.2.1) (a_ h).1 (kh h hi).1
 have h1:=QT h hi t1 t3
 rw[FB]
 by_cases k:f.1=3
 ·rw[aK k];exact h1
 ·rw[aX k]
  obtain⟨a,b,c⟩:=Kh hd
  exact R4 h1 a b c
theorem SI{m:al}{n:Node}{s:List Seen}(h:bo m n=0)(he:(As m n s).2.2=0):bo m (As m n s).1=0:=by
 rw[As,aK h,cond_true] at he ⊢
 cases hi:jZ n&&decide (¬n.2.2.1.2.1=n.1)
 ·rw[hi] at he;exact absurd (show(181:Int)=0 from he) (by decide)
 rw[hi,cond_true] at he
 rw[cd] at hi
 rw[cond_true]
 have hv:=fun(o:lQ) (g:(EM n s).2=0)=>PZ (c:=n.2.2.1) (v:=n.2.2.2.1) (s:=n.2.2.1.2.1) (seen:=s) (o:=o) g
 have hs:kH (n.2.2.1,n.2.2.2.1,n.2.2.1.2.1,s)=EM n s:=rfl
 rw[hs] at hv
 generalize EM n s=S at hv he ⊢
 by_cases g:S.2=0
 ·rw[aK g,cond_true]
  have hc:=kh h hi.1
  have vw:∀o:lQ,o=S.1∨o=DX→bo m (G4 n (K7 n o))=0:=fun o ho=>by
   obtain⟨a,b,c⟩:=hv o g ho
   exact F6 h hi.1 a (b.trans hc.2.2.1) (c.trans hc.2.2.2.1)
  refine T7 ?_
  by_cases k:S.1.1=3
  ·cases hl:tZ m n.2.2.1 S.1.2.2.2.1
   ·rw[JJ k hl];exact vw _ (.inr rfl)
   ·rw[FT hl,aK k]
    have hd:=KB h hl
    exact OR (vw _ (.inl rfl)) hi.1 hd
  ·rw[RH k,aX k];exact vw _ (.inl rfl)
 ·rw[aX g] at he;exact absurd he g
end
end Go.Ev.M
