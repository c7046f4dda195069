/-
  PROVED: what functions of the packages cni and metronomeref12 compute. Conditions: none.
-/
import Derived.Test.YteldjjjcdpnnbaaGreatHb
namespace Go.Ev.M
open Go.Proofs
set_option maxRecDepth 100000
set_option linter.unusedVariables false
set_option linter.unusedSimpArgs false
open Go.Ev.Pl
abbrev Zl:Ty:=(.struct [yI,yI])
abbrev Span:Type:=Int×Int
abbrev LW(b:Bool):Prop:=b=b
section
variable {R Y:Type} {step:Y→LT R Y} {t:LT R Y} {r:R}
end
theorem vu{b:Bool}{α:Type}{x y:α}(h:b=false):y=bif b then x else y:=by rw[h];rfl
theorem xr{p:Prop}[Decidable p]{b:Bool}(h:¬p):(decide p&&b)=false:=by rw[decide_eq_false h];rfl
theorem fN{p:Prop}[Decidable p]{b:Bool}(h:p):(decide p&&b)=b:=by rw[decide_eq_true h];rfl
def Nz(A:bi)(n:Int)(least:Int)(most:Int):LT Bool Empty:=.br (A.c .geq n least) (.ret (A.c .leq n most)) (.ret false)
def lT:(Int×Int×Int)→Bool:=fun(n,least,most)=>(Nz aj n least most).val (Ty.bZ [.bool])
def X_:aD:=⟨[yI,yI,yI], [.bool],(@tt (Int×Int×Int)),lT⟩
theorem Dm:Sd 145 X_:=aM au cK true 22 [] (fun A (n,least,most)=>Nz A n least most) (fc Tryz.func145 fz) sz (fun((n,least,most):Int×Int×Int) hp h=>by
 show(Nz aj n least most).pre=true
 simp[Nz,LT.pre,ap,cN])
structure SK where
 (a0:List bW) (a1:Int) (a3:Bool)
inductive Nu where
 | c0 (p:SK) (a2:Int)
noncomputable def Tm:Nu→gB
 | .c0 p a2=>⟨[⟨201,19,(en [(0,.sl df p.a0),(1,.fn 149 [] []),(7,vi p.a1),(8,vi a2)]),[.inLoop (cw Tryz.f201 [1,0,1,0,0]),.inBlock 0,.code (cw Tryz.f201 [1,1])],[],none⟩,⟨150,9,.leaf,[.ops (ow Tryz.f150 [1,0]) ((ow Tryz.f150 [1,0]).toList.drop 2),.code .ret],[],none⟩,⟨67,43,(en [(37,vb p.a3)]),[.ops (ow Tryz.f67 [1,1,0,0]) ((ow Tryz.f67 [1,1,0,0]).toList.drop 37),.code (cw Tryz.f67 [1,1,0,1]),.code (cw Tryz.f67 [1,1,1])],[],none⟩],[.dead]⟩
def Rt(A:bi)(c:cf):LT Int Nu:=.need (A.k (@tt (Int×Int×Int)) ((A.l c.2.2.1),4,8)) (.br (A.not (A.k lT ((A.l c.2.2.1),4,8))) (.ret 120) (.need (A.k (@tt (Int×Int×Int)) (c.1,0,(A.b .sub .i64 (A.l c.2.2.1) 1))) (.br (A.not (A.k lT (c.1,0,(A.b .sub .i64 (A.l c.2.2.1) 1)))) (.ret 120) (.br (A.c .gtr (A.l c.2.1) 8) (.ret 120) (.need (A.k (@tt (Int×Int×Int)) (c.2.2.2.1,0,4)) (.br (A.not (A.k lT (c.2.2.2.1,0,4))) (.ret 120) (.need (A.k (@tt (Int×Int×Int)) (c.2.2.2.2,(-1),3)) (.br (A.not (A.k lT (c.2.2.2.2,(-1),3))) (.ret 120) (.more (.c0 ⟨c.2.2.1,(A.l c.2.2.1),false⟩ 0))))))))))
def Ie(A:bi):Nu→LT Int Nu
 | .c0 p a2=>.br (A.c .lss a2 p.a1) (.need (A.and (A.c .leq 0 a2) (A.c .lss a2 (A.l p.a0))) (.br (A.c .gtr (A.l (A.n df p.a0 a2:bW).1) 8) (.br p.a3 (.ret 120) (.br (A.c .geq a2 0) (.ret 120) (.ret 0))) (.need (A.k (@tt (Int×Int×Int)) ((A.n df p.a0 a2:bW).2,0,255)) (.br (A.not (A.k lT ((A.n df p.a0 a2:bW).2,0,255))) (.br p.a3 (.ret 120) (.br (A.c .geq a2 0) (.ret 120) (.ret 0))) (.more (.c0 p (A.b .add .i64 a2 1))))))) (.br p.a3 (.ret 120) (.ret 0))
theorem zQ:lT=dS:=rfl
def Dl(m:bW):Bool:=decide (¬8<(m.1.length:Int))&&decide (0≤m.2∧m.2≤255)
def dE(c:cf):Bool:=decide (4≤(c.2.2.1.length:Int)∧(c.2.2.1.length:Int)≤8)&&(decide (0≤c.1∧c.1≤(c.2.2.1.length:Int)-1)&&(decide (¬8<(c.2.1.length:Int))&&(decide (0≤c.2.2.2.1∧c.2.2.2.1≤4)&&(decide (-1≤c.2.2.2.2∧c.2.2.2.2≤3)&&c.2.2.1.all Dl))))
def oW(c:cf):Int:=bif dE c then 0 else 120
theorem oJ{c:cf}:oW c=0↔dE c=true:=by unfold oW;cases dE c<;>decide
theorem acb{l:List bW}(hl:l.length≤140737488355328):∀(j i:Nat),l.length-i=j→i≤l.length→aA (Ie aj) (.more (.c0 ⟨l,(l.length:Int),false⟩ (i:Int))) (bif (l.drop i).all Dl then 0 else 120):=by
 intro j
 induction j with
 | zero=>
   intro i hj hi
   have:i=l.length:=by omega
   subst this
   rw[al,Ie]
   refine(ah (by rw[aO];simp)).2 ((ah rfl).2 ?_)
   rw[List.drop_length]
   exact .ret _
 | succ j ih=>
   intro i hj hi
   have hi':i<l.length:=by omega
   rw[al,Ie]
   refine(ai (by rw[aO];simp;omega)).2 (af.2 ⟨bT hi',?_⟩)
   rw[show(aj.n df l (i:Int):bW)=l[i] from getD_in hi' _,List.drop_eq_getElem_cons hi',List.all_cons,Dl,zQ]
   refine ax (p:=8<(l[i].1.length:Int)) rfl (fun h=>?_) fun h1=>af.2 ⟨rfl,dT (fun h=>?_) fun h2=>?_⟩
   ·rw[decide_eq_false (show ¬¬8<(l[i].1.length:Int) by omega)]
    exact(ah rfl).2 ((ai (by rw[aN];simp)).2 (.ret _))
   ·rw[decide_eq_false h,Bool.and_false]
    exact(ah rfl).2 ((ai (by rw[aN];simp)).2 (.ret _))
   ·rw[decide_eq_true h1,decide_eq_true h2,eu (i:=i) (by omega)]
    exact ih (i+1) (by omega) (by omega)
theorem NR{c:cf}(h:Ty.has my c):c.2.1.length≤140737488355328∧c.2.2.1.length≤140737488355328∧∀x∈c.2.2.1,x.1.length≤140737488355328:=by
 obtain⟨_,h1,h2,_⟩:=h
 exact⟨h1.1,h2.1,fun x hx=>(h2.2 x hx).1.1⟩
theorem abZ{c:cf}(h:Ty.has my c):aA (Ie aj) (Rt aj c) (oW c):=by
 have hc:=(NR h).2.1
 unfold Rt oW
 rw[zQ]
 simp only[ko]
 have hs:aj.b .sub .i64 (c.2.2.1.length:Int) 1=(c.2.2.1.length:Int)-1:=by rw[aZ,fI (by omega) (by omega)]
 rw[hs]
 refine af.2 ⟨rfl,dT (fun h=>?_) fun h1=>af.2 ⟨rfl,dT (fun h=>?_) fun h2=>ax (p:=8<(c.2.1.length:Int)) rfl (fun h=>?_) fun h3=>af.2 ⟨rfl,dT (fun h=>?_) fun h4=>af.2 ⟨rfl,dT (fun h=>?_) fun h5=>?_⟩⟩⟩⟩
 ·exact ay (vu (by rw[dE,xr h])) (.ret _)
 ·exact ay (vu (by rw[dE,fN h1,xr h])) (.ret _)
 ·exact ay (vu (by rw[dE,fN h1,fN h2,xr (fun k=>k h)])) (.ret _)
 ·exact ay (vu (by rw[dE,fN h1,fN h2,fN h3,xr h])) (.ret _)
 ·exact ay (vu (by rw[dE,fN h1,fN h2,fN h3,fN h4,xr h])) (.ret _)
 ·rw[dE,fN h1,fN h2,fN h3,fN h4,fN h5]
  exact acb hc c.2.2.1.length 0 rfl (by omega)
def iW:cf→Int:=oW
def Z_:aD:=⟨[my], [yI],(@tt cf),iW⟩
theorem w6:Sd 67 Z_:=aL au cK true 78 [⟨201,2, [[0,1,7,8], [], [37]]⟩] [] (fun A c=>Rt A c) Ie Tm (fc Tryz.func67 (fc Tryz.func149 (fc Tryz.func150 (fc Tryz.func201 fz)))) (sc Dm sz) (fun A y=>match y with |.c0 p a2=>⟨68,by kernel_rfl,by kernel_rfl⟩) fun c hp h=>abZ h
open Go.Ev.Pl
structure QF where
 (a0:Int) (a2:cf) (a3 a4 a5:Int)
inductive KY where
 | c0 (p:QF) (a1:Int) (a6:List bW)
noncomputable def R8:KY→gB
 | .c0 p a1 a6=>⟨[⟨156,44,(en [(1,.ptr 0 0),(2,.ptr 1 0),(5,.own 2),(22,vi p.a0),(23,vi a1)]),[.inLoop (cw Tryz.f156 [1,1,1,1,0,1,0,0]),.inBlock 0,.code (cw Tryz.f156 [1,1,1,1,1])],[],none⟩],[.flat false [vi p.a2.1,.sl yU p.a2.2.1,.sl df p.a2.2.2.1,vi p.a2.2.2.2.1,vi p.a2.2.2.2.2],.flat false [vi p.a3,.bK true,.bK true,vi p.a4,vi p.a5],.arr false df a6,.dead]⟩
def QO(A:bi)(c:cf):LT (cf×Int) KY:=.need (A.k (@tt cf) c) (.br (A.c .neq (A.k iW c) 0) (.ret ((0,([]:List Int),([]:List bW),0,0),(A.k iW c))) (.need (A.and (A.c .eql (A.l c.2.2.1) (A.l c.2.2.1)) (A.and (A.c .leq 0 (A.l c.2.2.1)) (A.c .leq (A.l c.2.2.1) 4398046511104))) (.more (.c0 ⟨(A.l (A.spl (A.r (A.l c.2.2.1) (Ty.iA df:bW)) 0 (A.s c.2.2.1 0 (A.mn (A.l c.2.2.1) (A.l (A.r (A.l c.2.2.1) (Ty.iA df:bW))))))),c,0,0,0⟩ 0 (A.spl (A.r (A.l c.2.2.1) (Ty.iA df:bW)) 0 (A.s c.2.2.1 0 (A.mn (A.l c.2.2.1) (A.l (A.r (A.l c.2.2.1) (Ty.iA df:bW))))))))))
def Hy(A:bi):KY→LT (cf×Int) KY
 | .c0 p a1 a6=>.br (A.c .lss a1 p.a0) (.need (A.and (A.c .leq 0 a1) (A.c .lss a1 (A.l a6))) (.need (A.k (@tt (List Int)) (A.n df a6 a1:bW).1) (.need (A.and (A.c .leq 0 a1) (A.c .lss a1 (A.l a6))) (.more (.c0 p (A.b .add .i64 a1 1) (A.set a6 a1 ((A.k nh (A.n df a6 a1:bW).1),(A.n df a6 a1:bW).2))))))) (.need (A.k (@tt (List Int)) p.a2.2.1) (.ret ((p.a2.1,(A.k nh p.a2.2.1),a6,p.a2.2.2.2),0)))
def uk:cf:=(0,([]:List Int),([]:List bW),0,0)
def Bb(c:cf):cf×Int:=bif dE c then(c,0) else(uk,120)
theorem acS{c:cf}{L z1 z2 z3:Int}{l:List bW}(hl:l.length≤140737488355328)(hL:L=(l.length:Int)):∀(j i:Nat),l.length-i=j→i≤l.length→aA (Hy aj) (.more (.c0 ⟨L,c,z1,z2,z3⟩ (i:Int) l)) ((c.1,c.2.1,l,c.2.2.2),0):=by
 subst hL
 intro j
 induction j with
 | zero=>
   intro i hj hi
   have:i=l.length:=by omega
   subst this
   rw[al,Hy]
   exact(ah (by rw[aO];simp)).2 (af.2 ⟨rfl,.ret _⟩)
 | succ j ih=>
   intro i hj hi
   have hi':i<l.length:=by omega
   rw[al,Hy]
   refine(ai (by rw[aO];simp;omega)).2 (af.2 ⟨bT hi',af.2 ⟨rfl,af.2 ⟨bT hi',?_⟩⟩⟩)
   have e:(aj.n df l (i:Int):bW)=l[i]:=getD_in hi' _
   have e2:aj.set l (i:Int) ((aj.k nh (aj.n df l (i:Int):bW).1),(aj.n df l (i:Int):bW).2)=l:=by
    rw[e]
    show l.set (i:Int).toNat l[i]=l
    rw[Int.toNat_natCast];exact List.set_getElem_self _
   rw[e2,eu (i:=i) (by omega)]
   exact ih (i+1) (by omega) (by omega)
theorem BJ{α:Type}{l:List α}{d:α}:aj.spl (aj.r (aj.l l) d) 0 (aj.s l 0 (aj.mn (aj.l l) (aj.l (aj.r (aj.l l) d))))=l:=by
 simp[oH,lY,lV,pT,ko]
theorem ZB{c:cf}:aA (Hy aj) (QO aj c) (Bb c):=by
 unfold QO Bb
 refine af.2 ⟨rfl,?_⟩
 rw[show aj.k iW c=oW c from rfl,oW]
 cases hc:dE c
 ·exact(ai rfl).2 (.ret _)
 ·refine(ah rfl).2 ?_
  simp only[dE,Bool.and_eq_true,decide_eq_true_eq] at hc
  have h1:aj.and (aj.c .eql (aj.l c.2.2.1) (aj.l c.2.2.1)) (aj.and (aj.c .leq 0 (aj.l c.2.2.1)) (aj.c .leq (aj.l c.2.2.1) 4398046511104))=true:=by
   rw[ko,aF,aB,aB,aR,aR];simp;omega
  refine af.2 ⟨h1,?_⟩
  exact bl (congrArg (fun z:List bW=>LT.more (KY.c0 ⟨aj.l z,c,0,0,0⟩ 0 z)) BJ) (acS (by omega) rfl c.2.2.1.length 0 rfl (by omega))
def ig:cf→(cf×Int):=Bb
def WZ:aD:=⟨[my], [my,yI],(@tt cf),ig⟩
theorem Lp:Sd 156 WZ:=aL au cK true 50 [⟨156,7, [[1,2,5,22,23]]⟩] [] (fun A c=>QO A c) Hy R8 (fc Tryz.func156 fz) (sc EU (sc w6 sz)) (fun A y=>match y with |.c0 p a1 a6=>⟨38,by kernel_rfl,by kernel_rfl⟩) fun c hp h=>ZB
theorem aH{a b:Int}:aj.c .eql a b=decide (a=b):=by rw[aF,Bool.eq_iff_iff];simp
open Go.Ev.Pl
open Go.Ev.Pl
structure Ru where
 (a0 a2:Int) (a3:List Int) (a4:cf) (a5 a6 a7:Int) (a9:cf) (bH dP a12:Int)
inductive JH where
 | c0 (p:Ru) (a1:Int) (a8:List bW)
noncomputable def Q8:JH→gB
 | .c0 p a1 a8=>⟨[⟨156,44,(en [(1,.ptr 0 0),(2,.ptr 1 0),(5,.own 2),(22,vi p.a0),(23,vi a1)]),[.inLoop (cw Tryz.f156 [1,1,1,1,0,1,0,0]),.inBlock 0,.code (cw Tryz.f156 [1,1,1,1,1])],[],none⟩,⟨166,42,(en [(1,vi p.a2),(2,.sl yU p.a3),(3,.ptr 3 0),(6,.ptr 4 0)]),[.ops (ow Tryz.f166 [1,0]) ((ow Tryz.f166 [1,0]).toList.drop 1),.code (cw Tryz.f166 [1,1])],[],none⟩],[.flat false [vi p.a4.1,.sl yU p.a4.2.1,.sl df p.a4.2.2.1,vi p.a4.2.2.2.1,vi p.a4.2.2.2.2],.flat false [vi p.a5,.bK true,.bK true,vi p.a6,vi p.a7],.arr false df a8,.flat false [vi p.a9.1,.sl yU p.a9.2.1,.sl df p.a9.2.2.1,vi p.a9.2.2.2.1,vi p.a9.2.2.2.2],.flat false [vi p.bH,.bK true,.bK true,vi p.dP,vi p.a12],.dead]⟩
def Rs(A:bi)(c:cf)(slot:Int)(data:List Int):LT (cf×Int) JH:=.need (A.k (@tt cf) c) (.br (A.c .neq (A.k iW c) 0) (.br (A.c .neq (A.k iW c) 0) (.ret ((0,([]:List Int),([]:List bW),0,0),(A.k iW c))) (.need (A.k (@tt (Int×Int×Int)) (slot,0,(A.b .sub .i64 (A.l c.2.2.1) 1))) (.br (A.not (A.k lT (slot,0,(A.b .sub .i64 (A.l c.2.2.1) 1)))) (.ret ((0,([]:List Int),([]:List bW),0,0),2)) (.br (A.c .gtr (A.l data) 8) (.ret ((0,([]:List Int),([]:List bW),0,0),3)) (.need (A.k (@tt (List Int)) data) (.bad 37 "cni.go:107")))))) (.need (A.and (A.c .eql (A.l c.2.2.1) (A.l c.2.2.1)) (A.and (A.c .leq 0 (A.l c.2.2.1)) (A.c .leq (A.l c.2.2.1) 4398046511104))) (.more (.c0 ⟨(A.l (A.spl (A.r (A.l c.2.2.1) (Ty.iA df:bW)) 0 (A.s c.2.2.1 0 (A.mn (A.l c.2.2.1) (A.l (A.r (A.l c.2.2.1) (Ty.iA df:bW))))))),slot,data,c,0,0,0,c,0,0,0⟩ 0 (A.spl (A.r (A.l c.2.2.1) (Ty.iA df:bW)) 0 (A.s c.2.2.1 0 (A.mn (A.l c.2.2.1) (A.l (A.r (A.l c.2.2.1) (Ty.iA df:bW))))))))))
def G7(A:bi):JH→LT (cf×Int) JH
 | .c0 p a1 a8=>.br (A.c .lss a1 p.a0) (.need (A.and (A.c .leq 0 a1) (A.c .lss a1 (A.l a8))) (.need (A.k (@tt (List Int)) (A.n df a8 a1:bW).1) (.need (A.and (A.c .leq 0 a1) (A.c .lss a1 (A.l a8))) (.more (.c0 p (A.b .add .i64 a1 1) (A.set a8 a1 ((A.k nh (A.n df a8 a1:bW).1),(A.n df a8 a1:bW).2))))))) (.need (A.k (@tt (List Int)) p.a4.2.1) (.need (A.k (@tt (Int×Int×Int)) (p.a2,0,(A.b .sub .i64 (A.l p.a9.2.2.1) 1))) (.br (A.not (A.k lT (p.a2,0,(A.b .sub .i64 (A.l p.a9.2.2.1) 1)))) (.ret ((0,([]:List Int),([]:List bW),0,0),2)) (.br (A.c .gtr (A.l p.a3) 8) (.ret ((0,([]:List Int),([]:List bW),0,0),3)) (.need (A.k (@tt (List Int)) p.a3) (.need (A.and (A.c .leq 0 p.a2) (A.c .lss p.a2 (A.l a8))) (.ret ((p.a4.1,(A.k nh p.a4.2.1),(A.set a8 p.a2 ((A.k nh p.a3),0)),p.a4.2.2.2),0))))))))
def jh(c:cf)(slot:Int)(data:List Int):cf×Int:=
 bif dE c then(bif decide (0≤slot∧slot≤(c.2.2.1.length:Int)-1) then(bif decide (8<(data.length:Int)) then(uk,3) else((c.1,c.2.1,c.2.2.1.set slot.toNat (data,0),c.2.2.2),0)) else(uk,2)) else(uk,120)
def ab8:cf×Int×List Int→cf×Int:=fun(c,slot,data)=>jh c slot data
theorem Ay{c:cf}(h:dE c=true):4≤c.2.2.1.length∧c.2.2.1.length≤8∧c.2.1.length≤8∧∀x∈c.2.2.1,x.1.length≤8∧0≤x.2∧x.2≤255:=by
 simp only[dE,Bool.and_eq_true,decide_eq_true_eq,List.all_eq_true,Dl] at h
 exact⟨by omega,by omega,by omega,fun x hx=>by have:=h.2.2.2.2.2 x hx;exact⟨by omega,this.2⟩⟩
theorem BY{c:cf}(h:dE c=true):aj.and (aj.c .eql (aj.l c.2.2.1) (aj.l c.2.2.1)) (aj.and (aj.c .leq 0 (aj.l c.2.2.1)) (aj.c .leq (aj.l c.2.2.1) 4398046511104))=true:=by
 have:=Ay h
 rw[ko,aF,aB,aB,aR,aR];simp;omega
theorem Dn{l:List bW}{i:Nat}(hi:i<l.length):aj.set l (i:Int) ((aj.k nh (aj.n df l (i:Int):bW).1),(aj.n df l (i:Int):bW).2)=l:=by
 rw[show(aj.n df l (i:Int):bW)=l[i] from getD_in hi _]
 show l.set (i:Int).toNat l[i]=l
 rw[Int.toNat_natCast];exact List.set_getElem_self _
theorem aaK{c:cf}{L slot z1 z2 z3 z4 z5 z6:Int}{data:List Int}{R:cf×Int}(hl:c.2.2.1.length≤8)(hL:L=(c.2.2.1.length:Int))(hR:aA (G7 aj) (.more (.c0 ⟨L,slot,data,c,z1,z2,z3,c,z4,z5,z6⟩ (c.2.2.1.length:Int) c.2.2.1)) R) :
  ∀(j i:Nat),c.2.2.1.length-i=j→i≤c.2.2.1.length→aA (G7 aj) (.more (.c0 ⟨L,slot,data,c,z1,z2,z3,c,z4,z5,z6⟩ (i:Int) c.2.2.1)) R:=by
 subst hL
 intro j
 induction j with
 | zero=>
   intro i hj hi
   have:i=c.2.2.1.length:=by omega
   subst this
   exact hR
 | succ j ih=>
   intro i hj hi
   have hi':i<c.2.2.1.length:=by omega
   rw[al,G7]
   refine(ai (by rw[aO];simp;omega)).2 (af.2 ⟨bT hi',af.2 ⟨rfl,af.2 ⟨bT hi',?_⟩⟩⟩)
   rw[Dn hi',eu (i:=i) (by omega)]
   exact ih (i+1) (by omega) (by omega)
theorem ab1{c:cf}{slot:Int}{data:List Int}:aA (G7 aj) (Rs aj c slot data) (jh c slot data):=by
 unfold Rs jh
 refine af.2 ⟨rfl,?_⟩
 rw[show aj.k iW c=oW c from rfl,oW]
 cases hc:dE c
 ·exact(ai rfl).2 ((ai rfl).2 (.ret _))
 ·obtain⟨h1,h2,_,_⟩:=Ay hc
  refine(ah rfl).2 (af.2 ⟨BY hc,bl (congrArg (fun z:List bW=>LT.more (JH.c0 ⟨aj.l z,slot,data,c,0,0,0,c,0,0,0⟩ 0 z)) BJ) (aaK h2 rfl ?_ c.2.2.1.length 0 rfl (by omega))⟩)
  rw[al,G7]
  have hs:aj.b .sub .i64 (c.2.2.1.length:Int) 1=(c.2.2.1.length:Int)-1:=by rw[aZ,fI (by omega) (by omega)]
  refine(ah (by rw[aO];simp)).2 (af.2 ⟨rfl,af.2 ⟨rfl,?_⟩⟩)
  rw[zQ]
  simp only[ko,hs]
  refine dT (fun h=>?_) fun h3=>ax (p:=8<(data.length:Int)) rfl (fun h=>?_) fun h4=>af.2 ⟨rfl,af.2 ⟨?_,?_⟩⟩
  ·rw[decide_eq_false h];exact .ret _
  ·rw[decide_eq_true h3,decide_eq_true h];exact .ret _
  ·rw[aB,ar,aR];simp;omega
  ·rw[decide_eq_true h3,decide_eq_false h4];exact .ret _
def k6:(cf×Int×List Int)→(cf×Int):=ab8
def U9:aD:=⟨[my,yI,yB], [my,yI],(@tt (cf×Int×List Int)),k6⟩
theorem Fb:Sd 166 U9:=aL au cK true 89 [⟨156,7, [[1,2,5,22,23], [1,2,3,6]]⟩] [] (fun A (c,slot,data)=>Rs A c slot data) G7 Q8 (fc Tryz.func166 (fc Tryz.func156 fz)) (sc EU (sc w6 (sc Dm sz))) (fun A y=>match y with |.c0 p a1 a8=>⟨86,by kernel_rfl,by kernel_rfl⟩) fun(c,slot,data) hp h=>ab1
structure Qu where
 (a0 a1 a2 a3 a4 a5 a6 a7:Int)
structure RF where
 (b0:Int) (b2:cf) (b3 b4 b5 b7 b8 b9:Int)
structure Rx where
 (c0 c2 c3 c4 c5:Int) (c6:List Int) (c7 c8:Int)
inductive Kh where
 | c0 (p:Qu)
 | c1 (p:RF) (b1:Int) (b6:List bW)
 | c2 (p:Rx) (c1:Int) (c9:List bW)
noncomputable def Qq:Kh→gB
 | .c0 p=>⟨[⟨119,42,(en [(2,.ptr 0 0),(4,.ptr 1 0),(18,vi p.a0),(19,vi p.a1)]),[.inLoop (cw Tryz.f119 [1,1,1,0,1,0,0]),.inBlock 0,.code (cw Tryz.f119 [1,1,1,1])],[],none⟩],[.flat false [vi p.a2,.bK true,.bK true,vi p.a3,vi p.a4],.flat false [vi p.a5,.bK true,.bK true,vi p.a6,vi p.a7],.dead]⟩
 | .c1 p b1 b6=>⟨[⟨156,44,(en [(1,.ptr 0 0),(2,.ptr 1 0),(5,.own 2),(22,vi p.b0),(23,vi b1)]),[.inLoop (cw Tryz.f156 [1,1,1,1,0,1,0,0]),.inBlock 0,.code (cw Tryz.f156 [1,1,1,1,1])],[],none⟩,⟨119,42,(en [(2,.ptr 3 0)]),[.ops (ow Tryz.f119 [1,0]) ((ow Tryz.f119 [1,0]).toList.drop 1),.code (cw Tryz.f119 [1,1])],[],none⟩],[.flat false [vi p.b2.1,.sl yU p.b2.2.1,.sl df p.b2.2.2.1,vi p.b2.2.2.2.1,vi p.b2.2.2.2.2],.flat false [vi p.b3,.bK true,.bK true,vi p.b4,vi p.b5],.arr false df b6,.flat false [vi p.b7,.bK true,.bK true,vi p.b8,vi p.b9],.dead]⟩
 | .c2 p c1 c9=>⟨[⟨119,42,(en [(2,.ptr 0 0),(4,.ptr 1 0),(18,vi p.c0),(19,vi c1)]),[.inLoop (cw Tryz.f119 [1,1,1,0,1,0,0]),.inBlock 0,.code (cw Tryz.f119 [1,1,1,1])],[],none⟩],[.flat false [vi p.c2,.bK true,.bK true,vi p.c3,vi p.c4],.flat false [vi p.c5,.sl yU p.c6,.own 2,vi p.c7,vi p.c8],.arr false df c9,.dead]⟩
def QE(A:bi)(c:cf):LT (cf×Int) Kh:=.need (A.k (@tt cf) c) (.br (A.c .neq (A.k iW c) 0) (.br (A.c .neq (A.k iW c) 0) (.ret ((0,([]:List Int),([]:List bW),0,0),(A.k iW c))) (.more (.c0 ⟨0,0,0,0,0,0,0,0⟩))) (.need (A.and (A.c .eql (A.l c.2.2.1) (A.l c.2.2.1)) (A.and (A.c .leq 0 (A.l c.2.2.1)) (A.c .leq (A.l c.2.2.1) 4398046511104))) (.more (.c1 ⟨(A.l (A.spl (A.r (A.l c.2.2.1) (Ty.iA df:bW)) 0 (A.s c.2.2.1 0 (A.mn (A.l c.2.2.1) (A.l (A.r (A.l c.2.2.1) (Ty.iA df:bW))))))),c,0,0,0,0,0,0⟩ 0 (A.spl (A.r (A.l c.2.2.1) (Ty.iA df:bW)) 0 (A.s c.2.2.1 0 (A.mn (A.l c.2.2.1) (A.l (A.r (A.l c.2.2.1) (Ty.iA df:bW))))))))))
def BP(A:bi):Kh→LT (cf×Int) Kh
 | .c0 p=>.br (A.c .lss p.a1 p.a0) (.bad 37 "cni.go:118") (.ret ((p.a5,([]:List Int),([]:List bW),(A.mx (A.b .sub .i64 p.a6 1) 0),p.a7),0))
 | .c1 p b1 b6=>.br (A.c .lss b1 p.b0) (.need (A.and (A.c .leq 0 b1) (A.c .lss b1 (A.l b6))) (.need (A.k (@tt (List Int)) (A.n df b6 b1:bW).1) (.need (A.and (A.c .leq 0 b1) (A.c .lss b1 (A.l b6))) (.more (.c1 p (A.b .add .i64 b1 1) (A.set b6 b1 ((A.k nh (A.n df b6 b1:bW).1),(A.n df b6 b1:bW).2))))))) (.need (A.k (@tt (List Int)) p.b2.2.1) (.more (.c2 ⟨(A.l b6),p.b7,p.b8,p.b9,p.b2.1,(A.k nh p.b2.2.1),p.b2.2.2.2.1,p.b2.2.2.2.2⟩ 0 b6)))
 | .c2 p c1 c9=>.br (A.c .lss c1 p.c0) (.need (A.and (A.c .leq 0 c1) (A.c .lss c1 (A.l c9))) (.need (A.and (A.c .leq 0 c1) (A.c .lss c1 (A.l c9))) (.more (.c2 p (A.b .add .i64 c1 1) (A.set c9 c1 ((A.n df c9 c1:bW).1,(A.mn (A.b .add .i64 (A.n df c9 c1:bW).2 1) 255))))))) (.ret ((p.c5,p.c6,c9,(A.mx (A.b .sub .i64 p.c7 1) 0),p.c8),0))
def Bf(m:bW):bW:=(m.1,aj.mn (aj.b .add .i64 m.2 1) 255)
def yG(c:cf):cf×Int:=bif dE c then((c.1,c.2.1,c.2.2.1.map Bf,aj.mx (aj.b .sub .i64 c.2.2.2.1 1) 0,c.2.2.2.2),0) else(uk,120)
theorem PS{f:bW→bW}{l:List bW}{i:Nat}(hi:i<l.length):(aj.n df ((l.take i).map f++l.drop i) (i:Int):bW)=l[i]∧aj.set ((l.take i).map f++l.drop i) (i:Int) (f l[i])=(l.take (i+1)).map f++l.drop (i+1):=by
 have hlen:i<((l.take i).map f++l.drop i).length:=by simp;omega
 have h1:((l.take i).map f).length=i:=by simp;omega
 constructor
 ·refine(getD_in hlen _).trans ?_
  rw[List.getElem_append_right (by rw[h1];exact Nat.le_refl _)]
  rw[List.getElem_drop]
  congr 1
  omega
 ·show List.set _ (i:Int).toNat _=_
  rw[Int.toNat_natCast,List.set_append_right _ _ (by rw[h1];exact Nat.le_refl _),h1,Nat.sub_self,List.drop_eq_getElem_cons hi,List.set_cons_zero,List.take_succ_eq_append_getElem hi,List.map_append,List.append_assoc]
  rfl
theorem Nh{f:bW→bW}{l:List bW}{i:Nat}(hi:i≤l.length):((l.take i).map f++l.drop i).length=l.length:=by simp;omega
theorem acU{c:cf}{L z1 z2 z3 z4 z5 z6:Int}{R:cf×Int}(hl:c.2.2.1.length≤8)(hL:L=(c.2.2.1.length:Int))(hR:aA (BP aj) (.more (.c1 ⟨L,c,z1,z2,z3,z4,z5,z6⟩ (c.2.2.1.length:Int) c.2.2.1)) R) :
  ∀(j i:Nat),c.2.2.1.length-i=j→i≤c.2.2.1.length→aA (BP aj) (.more (.c1 ⟨L,c,z1,z2,z3,z4,z5,z6⟩ (i:Int) c.2.2.1)) R:=by
 subst hL
 intro j
 induction j with
 | zero=>
   intro i hj hi
   have:i=c.2.2.1.length:=by omega
   subst this
   exact hR
 | succ j ih=>
   intro i hj hi
   have hi':i<c.2.2.1.length:=by omega
   rw[al,BP]
   refine(ai (by rw[aO];simp;omega)).2 (af.2 ⟨bT hi',af.2 ⟨rfl,af.2 ⟨bT hi',?_⟩⟩⟩)
   rw[Dn hi',eu (i:=i) (by omega)]
   exact ih (i+1) (by omega) (by omega)
theorem abm{l:List bW}{L z1 z2 z3 id life want:Int}{out:List Int}(hl:l.length≤8)(hL:L=(l.length:Int)):∀(j i:Nat),l.length-i=j→i≤l.length→
  aA (BP aj) (.more (.c2 ⟨L,z1,z2,z3,id,out,life,want⟩ (i:Int) ((l.take i).map Bf++l.drop i))) ((id,out,l.map Bf,aj.mx (aj.b .sub .i64 life 1) 0,want),0):=by
 subst hL
 intro j
 induction j with
 | zero=>
   intro i hj hi
   have:i=l.length:=by omega
   subst this
   rw[al,BP,List.take_length,List.drop_length,List.append_nil]
   exact(ah (by rw[aO];simp)).2 (.ret _)
 | succ j ih=>
   intro i hj hi
   have hi':i<l.length:=by omega
   have hx:i<((l.take i).map Bf++l.drop i).length:=by rw[Nh hi];exact hi'
   obtain⟨a1,a2⟩:=PS (f:=Bf) hi'
   rw[al,BP]
   refine(ai (by rw[aO];simp;omega)).2 (af.2 ⟨bT hx,af.2 ⟨bT hx,?_⟩⟩)
   rw[a1,eu (i:=i) (by omega)]
   rw[show(l[i].1,aj.mn (aj.b .add .i64 l[i].2 1) 255)=Bf l[i] from rfl,a2]
   exact ih (i+1) (by omega) (by omega)
theorem aba{c:cf}:aA (BP aj) (QE aj c) (yG c):=by
 unfold QE yG
 refine af.2 ⟨rfl,?_⟩
 rw[show aj.k iW c=oW c from rfl,oW]
 cases hc:dE c
 ·exact(ai rfl).2 ((ai rfl).2 (.ret _))
 ·obtain⟨h1,h2,_,_⟩:=Ay hc
  refine(ah rfl).2 (af.2 ⟨BY hc,bl (congrArg (fun z:List bW=>LT.more (Kh.c1 ⟨aj.l z,c,0,0,0,0,0,0⟩ 0 z)) BJ) (acU h2 rfl ?_ c.2.2.1.length 0 rfl (by omega))⟩)
  rw[al,BP]
  exact(ah (by rw[aO];simp)).2 (af.2 ⟨rfl,abm (l:=c.2.2.1) (out:=c.2.1) h2 rfl c.2.2.1.length 0 rfl (by omega)⟩)
def Cw:cf→(cf×Int):=yG
def Uf:aD:=⟨[my], [my,yI],(@tt cf),Cw⟩
theorem O9:Sd 119 Uf:=aL au cK true 68 [⟨119,5, [[2,4,18,19]]⟩,⟨156,7, [[1,2,5,22,23], [2]]⟩] [] (fun A c=>QE A c) BP Qq (fc Tryz.func119 (fc Tryz.func156 fz)) (sc EU (sc w6 sz)) (fun A y=>match y with |.c0 p=>⟨28,by kernel_rfl,by kernel_rfl⟩|.c1 p b1 b6=>⟨56,by kernel_rfl,by kernel_rfl⟩|.c2 p c1 c9=>⟨41,by kernel_rfl,by kernel_rfl⟩) fun c hp h=>aba
open Go.Ev.Pl
open Go.Ev.Pl
inductive M3 where
 | c0 (a0:Int) (a1:List bW)
noncomputable def Qz:M3→gB
 | .c0 a0 a1=>⟨[⟨146,48,(en [(7,.own 0),(8,vi a0)]),[.inLoop (cw Tryz.f146 [1,1,1,1,1,1,0,0,0]),.inBlock 0,.code (cw Tryz.f146 [1,1,1,1,1,1,1])],[],none⟩],[.arr false df a1,.dead]⟩
def VX(A:bi)(x2:List bW)(count:Int):LT (List bW) M3:=.br (A.c .lss count 0) (.bad 117 "slices.go:516") (.br (A.c .gtr (A.b .add .u64 (A.b .add .u64 (A.b .mul .u64 (A.b .shr .u64 (A.v .u64 (A.l x2)) 32) (A.b .shr .u64 (A.v .u64 count) 32)) (A.b .shr .u64 (A.b .add .u64 (A.b .mul .u64 (A.b .shr .u64 (A.v .u64 (A.l x2)) 32) (A.b .and .u64 (A.v .u64 count) 4294967295)) (A.b .shr .u64 (A.b .mul .u64 (A.b .and .u64 (A.v .u64 (A.l x2)) 4294967295) (A.b .and .u64 (A.v .u64 count) 4294967295)) 32)) 32)) (A.b .shr .u64 (A.b .add .u64 (A.b .and .u64 (A.b .add .u64 (A.b .mul .u64 (A.b .shr .u64 (A.v .u64 (A.l x2)) 32) (A.b .and .u64 (A.v .u64 count) 4294967295)) (A.b .shr .u64 (A.b .mul .u64 (A.b .and .u64 (A.v .u64 (A.l x2)) 4294967295) (A.b .and .u64 (A.v .u64 count) 4294967295)) 32)) 4294967295) (A.b .mul .u64 (A.b .and .u64 (A.v .u64 (A.l x2)) 4294967295) (A.b .shr .u64 (A.v .u64 count) 32))) 32)) 0) (.bad 117 "slices.go:522") (.br (A.c .gtr (A.b .mul .u64 (A.v .u64 (A.l x2)) (A.v .u64 count)) 9223372036854775807) (.bad 117 "slices.go:522") (.need (A.and (A.c .eql (A.v .i64 (A.b .mul .u64 (A.v .u64 (A.l x2)) (A.v .u64 count))) (A.v .i64 (A.b .mul .u64 (A.v .u64 (A.l x2)) (A.v .u64 count)))) (A.and (A.c .leq 0 (A.v .i64 (A.b .mul .u64 (A.v .u64 (A.l x2)) (A.v .u64 count)))) (A.c .leq (A.v .i64 (A.b .mul .u64 (A.v .u64 (A.l x2)) (A.v .u64 count))) 4398046511104))) (.more (.c0 (A.mn (A.l x2) (A.l (A.r (A.v .i64 (A.b .mul .u64 (A.v .u64 (A.l x2)) (A.v .u64 count))) (Ty.iA df:bW)))) (A.spl (A.r (A.v .i64 (A.b .mul .u64 (A.v .u64 (A.l x2)) (A.v .u64 count))) (Ty.iA df:bW)) 0 (A.s x2 0 (A.mn (A.l x2) (A.l (A.r (A.v .i64 (A.b .mul .u64 (A.v .u64 (A.l x2)) (A.v .u64 count))) (Ty.iA df:bW)))))))))))
def U4(A:bi):M3→LT (List bW) M3
 | .c0 a0 a1=>.br (A.c .lss a0 (A.l a1)) (.need (A.and (A.c .leq 0 a0) (A.and (A.c .leq a0 (A.l a1)) (A.c .leq (A.l a1) (A.l a1)))) (.need (A.and (A.c .leq 0 0) (A.and (A.c .leq 0 a0) (A.c .leq a0 (A.l a1)))) (.more (.c0 (A.b .add .i64 a0 (A.mn (A.l (A.s a1 0 (A.b .add .i64 0 (A.b .sub .i64 a0 0)))) (A.b .sub .i64 (A.l a1) a0))) (A.spl a1 a0 (A.s (A.s a1 0 (A.b .add .i64 0 (A.b .sub .i64 a0 0))) 0 (A.mn (A.l (A.s a1 0 (A.b .add .i64 0 (A.b .sub .i64 a0 0)))) (A.b .sub .i64 (A.l a1) a0)))))))) (.ret a1)
def rJ:bW:=(([]:List Int),255)
theorem ab4{l:List bW}{n:Int}(h:(decide (l=[(([]:List Int),255)])&&decide (4≤n)&&decide (n≤8))=true):aA (U4 aj) (VX aj l n) (List.replicate n.toNat rJ):=by
 simp only[Bool.and_eq_true,decide_eq_true_eq] at h
 obtain⟨⟨rfl,h1⟩,h2⟩:=h
 have hn:n=4∨n=5∨n=6∨n=7∨n=8:=by omega
 rcases hn with rfl|rfl|rfl|rfl|rfl <;>
  (refine(ah (by kernel_rfl)).2 ((ah (by kernel_rfl)).2 ((ah (by kernel_rfl)).2 (af.2 ⟨by kernel_rfl,?_⟩)))
   refine al.2 ((ai (by kernel_rfl)).2 (af.2 ⟨by kernel_rfl,af.2 ⟨by kernel_rfl,(al.2 ?_)⟩⟩))
   refine(ai (by kernel_rfl)).2 (af.2 ⟨by kernel_rfl,af.2 ⟨by kernel_rfl,(al.2 ?_)⟩⟩))
 ·exact(ah (by kernel_rfl)).2 (ay (by kernel_rfl) (.ret _))
 all_goals exact(ai (by kernel_rfl)).2 (af.2 ⟨by kernel_rfl,af.2 ⟨by kernel_rfl,(al.2 ((ah (by kernel_rfl)).2 (ay (by kernel_rfl) (.ret _))))⟩⟩)
def O5:(List bW×Int)→(List bW):=fun(_,n)=>List.replicate n.toNat (([]:List Int),255)
def DD:(List bW×Int)→Bool:=fun(l,n)=>decide (l=[(([]:List Int),255)])&&decide (4≤n)&&decide (n≤8)
def Wc:aD:=⟨[(.slice df),yI], [(.slice df)],DD,O5⟩
theorem aan:Sd 146 Wc:=aL au cK true 175 [⟨146,8, [[7,8]]⟩] [] (fun A (x2,count)=>VX A x2 count) U4 Qz (fc Tryz.func146 (fc Tryz.func200 (fc Tryz.func229 fz))) sz (fun A y=>match y with |.c0 a0 a1=>⟨30,by kernel_rfl,by kernel_rfl⟩) fun((x2,count):List bW×Int) hp h=>ab4 hp
def Q9(A:bi)(id:Int)(n:Int):LT (cf×Int) Empty:=.need (A.k (@tt (Int×Int×Int)) (n,4,8)) (.br (A.not (A.k lT (n,4,8))) (.ret ((0,([]:List Int),([]:List bW),0,0),120)) (.need (A.k (@tt (Int×Int×Int)) (id,0,(A.b .sub .i64 n 1))) (.br (A.not (A.k lT (id,0,(A.b .sub .i64 n 1)))) (.ret ((0,([]:List Int),([]:List bW),0,0),120)) (.need (A.k DD ([(([]:List Int),255)],n)) (.ret ((id,([]:List Int),(A.k O5 ([(([]:List Int),255)],n)),4,(-1)),0))))))
def DK(id n:Int):cf×Int:=bif decide (4≤n∧n≤8) then(bif decide (0≤id∧id≤n-1) then((id,([]:List Int),List.replicate n.toNat rJ,4,(-1)),0) else(uk,120)) else(uk,120)
def abM:Int×Int→cf×Int:=fun(id,n)=>DK id n
theorem Kf{id n:Int}:aA Empty.elim (Q9 aj id n) (DK id n):=by
 unfold Q9 DK
 rw[zQ]
 refine af.2 ⟨rfl,dT (fun h=>?_) fun h1=>af.2 ⟨rfl,?_⟩⟩
 ·exact ay (by rw[decide_eq_false h];rfl) (.ret _)
 ·have e:aj.b .sub .i64 n 1=n-1:=by rw[aZ,fI (by omega) (by omega)]
  rw[e]
  refine dT (fun h=>?_) fun h2=>af.2 ⟨?_,?_⟩
  ·exact ay (by rw[decide_eq_true h1,decide_eq_false h];rfl) (.ret _)
  ·rw[ap,DD,decide_eq_true h1.1,decide_eq_true h1.2];rfl
  ·exact ay (by rw[decide_eq_true h1,decide_eq_true h2];rfl) (.ret _)
def xD:(Int×Int)→(cf×Int):=abM
def ZK:aD:=⟨[yI,yI], [my,yI],(@tt (Int×Int)),xD⟩
theorem Pg:Sd 63 ZK:=aK au cK true 38 [] (fun A (id,n)=>Q9 A id n) (fc Tryz.func63 fz) (sc Dm (sc aan sz)) fun(id,n) hp h=>Kf
def N9(A:bi)(c:cf):LT Bool Empty:=.need (A.k (@tt cf) c) (.br (A.c .eql (A.k iW c) 0) (.ret (A.c .gtr c.2.2.2.1 0)) (.ret false))
def Kj:cf→Bool:=fun c=>(N9 aj c).val (Ty.bZ [.bool])
def TT:aD:=⟨[my], [.bool],(@tt cf),Kj⟩
theorem VM:Sd 219 TT:=aM au cK true 23 [] (fun A c=>N9 A c) (fc Tryz.func219 fz) (sc w6 sz) (fun(c:cf) hp h=>by
 show(N9 aj c).pre=true
 simp[N9,LT.pre,ap,cN])
def Qc(A:bi)(c:cf)(long:Int):LT (List Int×Int) Empty:=.need (A.k (@tt cf) c) (.br (A.c .neq (A.k iW c) 0) (.ret (([]:List Int),(A.k iW c))) (.need (A.k (@tt (Int×Int×Int)) (long,0,8)) (.br (A.not (A.k lT (long,0,8))) (.ret (([]:List Int),2)) (.need (A.and (A.c .eql long long) (A.and (A.c .leq 0 long) (A.c .leq long 140737488355328))) (.need (A.k (@tt cf) c) (.br (A.k Kj c) (.ret ((A.spl (A.r long (0:Int)) 0 (A.s c.2.1 0 (A.mn (A.l c.2.1) (A.l (A.r long (0:Int)))))),0)) (.ret ((A.r long (0:Int)),0))))))))
def nc(c:cf)(k:Int):List Int×Int:=bif dE c then(bif decide (0≤k∧k≤8) then((bif decide (0<c.2.2.2.1) then c.2.1.take k.toNat++List.replicate (k.toNat-c.2.1.length) 0 else List.replicate k.toNat 0),0) else([],2)) else([],120)
def adi:cf×Int→List Int×Int:=fun(c,k)=>nc c k
theorem MN{k:Int}(h:0≤k∧k≤8):aj.and (aj.c .eql k k) (aj.and (aj.c .leq 0 k) (aj.c .leq k 140737488355328))=true:=by
 rw[aF,aB,aB,aR,aR];simp;omega
theorem ab2{c:cf}{k:Int}:aA Empty.elim (Qc aj c k) (nc c k):=by
 unfold Qc nc
 rw[zQ]
 refine af.2 ⟨rfl,?_⟩
 rw[show aj.k iW c=oW c from rfl,show aj.k Kj c=(bif oW c==0 then decide (0<c.2.2.2.1) else false) from rfl,oW]
 cases hc:dE c
 ·exact(ai rfl).2 (.ret _)
 ·refine(ah rfl).2 (af.2 ⟨rfl,dT (fun h=>?_) fun h=>af.2 ⟨MN h,af.2 ⟨rfl,ax (p:=0<c.2.2.2.1) rfl (fun h2=>?_) fun h2=>?_⟩⟩⟩)
  ·exact ay (by rw[decide_eq_false h];rfl) (.ret _)
  ·refine ay ?_ (.ret _)
   rw[decide_eq_true h,decide_eq_true h2]
   obtain⟨n,rfl⟩:∃n:Nat,k=n:=⟨k.toNat,by omega⟩
   simp only[cond_true,oH,lY,lV,pT,ko,List.length_replicate,Int.toNat_natCast,Int.toNat_zero,List.take_zero,List.nil_append,List.drop_zero]
   refine Prod.ext ?_ rfl
   simp only[List.length_take,List.drop_replicate,Nat.zero_add]
   by_cases hl:(n:Int)<c.2.1.length
   ·rw[if_pos hl,Int.toNat_natCast]
    rw[show n-min n c.2.1.length=n-c.2.1.length by omega]
   ·rw[if_neg hl,Int.toNat_natCast,List.take_of_length_le (Nat.le_refl _),List.take_of_length_le (by omega),Nat.min_self]
  ·exact ay (by rw[decide_eq_true h,decide_eq_false h2];rfl) (.ret _)
def rF:(cf×Int)→(List Int×Int):=adi
def Z9:aD:=⟨[my,yI], [yB,yI],(@tt (cf×Int)),rF⟩
theorem OO:Sd 180 Z9:=aK au cK true 60 [] (fun A (c,long)=>Qc A c long) (fc Tryz.func180 fz) (sc w6 (sc Dm (sc VM sz))) fun(c,long) hp h=>ab2
open Go.Ev.Pl
def RY(A:bi)(c:cf)(data:List Int):LT (cf×Int) Empty:=.need (A.k (@tt cf) c) (.br (A.c .neq (A.k ig c).2 0) (.ret ((0,([]:List Int),([]:List bW),0,0),(A.k ig c).2)) (.br (A.c .gtr (A.l data) 8) (.ret ((0,([]:List Int),([]:List bW),0,0),3)) (.need (A.k (@tt (List Int)) data) (.ret (((A.k ig c).1.1,(A.k nh data),(A.k ig c).1.2.2),0)))))
def vI(c:cf)(d:List Int):cf×Int:=bif dE c then(bif decide (8<(d.length:Int)) then(uk,3) else((c.1,d,c.2.2),0)) else(uk,120)
def wrS:cf×List Int→cf×Int:=fun(c,d)=>vI c d
theorem wr1{c:cf}{d:List Int}:aA Empty.elim (RY aj c d) (vI c d):=by
 unfold RY vI
 refine af.2 ⟨rfl,?_⟩
 rw[show aj.k ig c=Bb c from rfl,Bb]
 cases dE c
 ·exact(ai rfl).2 (.ret _)
 ·refine(ah rfl).2 (ax (p:=8<(d.length:Int)) rfl (fun h=>?_) fun h=>af.2 ⟨rfl,?_⟩)
  ·exact ay (by rw[decide_eq_true h];rfl) (.ret _)
  ·exact ay (by rw[decide_eq_false h];rfl) (.ret _)
def bf:(cf×List Int)→(cf×Int):=wrS
def VJ:aD:=⟨[my,yB], [my,yI],(@tt (cf×List Int)),bf⟩
theorem o3:Sd 79 VJ:=aK au cK true 55 [] (fun A (c,data)=>RY A c data) (fc Tryz.func79 fz) (sc EU (sc Lp sz)) fun(c,data) hp h=>wr1
def PG(A:bi)(c:cf):LT (cf×Int) Empty:=.need (A.k (@tt cf) c) (.br (A.c .eql (A.k ig c).2 0) (.ret (((A.k ig c).1.1,(A.k ig c).1.2.1,(A.k ig c).1.2.2.1,4,(A.k ig c).1.2.2.2.2),(A.k ig c).2)) (.ret (A.k ig c)))
def H7:cf→cf×Int:=fun c=>bif dE c then((c.1,c.2.1,c.2.2.1,4,c.2.2.2.2),0) else(uk,120)
theorem bt1{c:cf}:aA Empty.elim (PG aj c) (H7 c):=by
 unfold PG H7
 refine af.2 ⟨rfl,?_⟩
 rw[show aj.k ig c=Bb c from rfl,Bb]
 cases dE c
 ·exact(ah rfl).2 (.ret _)
 ·exact(ai rfl).2 (.ret _)
def xv:cf→(cf×Int):=H7
def U8:aD:=⟨[my], [my,yI],(@tt cf),xv⟩
theorem Ob:Sd 80 U8:=aK au cK true 41 [] (fun A c=>PG A c) (fc Tryz.func80 fz) (sc Lp sz) fun c hp h=>bt1
def P9(A:bi)(c:cf)(mode:Int):LT (cf×Int) Empty:=.need (A.k (@tt cf) c) (.br (A.c .neq (A.k ig c).2 0) (.ret ((0,([]:List Int),([]:List bW),0,0),(A.k ig c).2)) (.need (A.k (@tt (Int×Int×Int)) (mode,(-1),3)) (.br (A.not (A.k lT (mode,(-1),3))) (.ret ((0,([]:List Int),([]:List bW),0,0),2)) (.ret (((A.k ig c).1.1,(A.k ig c).1.2.1,(A.k ig c).1.2.2.1,(A.k ig c).1.2.2.2.1,mode),0)))))
def vF(c:cf)(m:Int):cf×Int:=bif dE c then(bif decide (-1≤m∧m≤3) then((c.1,c.2.1,c.2.2.1,c.2.2.2.1,m),0) else(uk,2)) else(uk,120)
def aaT:cf×Int→cf×Int:=fun(c,m)=>vF c m
theorem abB{c:cf}{m:Int}:aA Empty.elim (P9 aj c m) (vF c m):=by
 unfold P9 vF
 rw[zQ]
 refine af.2 ⟨rfl,?_⟩
 rw[show aj.k ig c=Bb c from rfl,Bb]
 cases dE c
 ·exact(ai rfl).2 (.ret _)
 ·refine(ah rfl).2 (af.2 ⟨rfl,dT (fun h=>?_) fun h=>?_⟩)
  ·exact ay (by rw[decide_eq_false h];rfl) (.ret _)
  ·exact ay (by rw[decide_eq_true h];rfl) (.ret _)
def w7:(cf×Int)→(cf×Int):=aaT
def Yq:aD:=⟨[my,yI], [my,yI],(@tt (cf×Int)),w7⟩
theorem Ot:Sd 81 Yq:=aK au cK true 54 [] (fun A (c,mode)=>P9 A c mode) (fc Tryz.func81 fz) (sc Dm (sc Lp sz)) fun(c,mode) hp h=>abB
end Go.Ev.M
