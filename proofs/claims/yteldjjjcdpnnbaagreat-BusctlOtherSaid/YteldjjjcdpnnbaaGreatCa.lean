/-
  PROVED: what functions of the packages cni and metronomeref12 compute. Conditions: none.
-/
import Derived.Test.YteldjjjcdpnnbaaGreatHb
namespace Go.Ev.M
open Go.Proofs
set_option maxRecDepth 100000
set_option linter.unusedVariables false
set_option linter.unusedSimpArgs false
open Go.Ev.Pl
abbrev Jm(b:Bool):Prop:=b=b
section
variable {R Y:Type} {step:Y→LT R Y} {t:LT R Y} {r:R}
end
theorem gQ{b:Bool}{α:Type}{x y:α}(h:b=false):y=bif b then x else y:=by rw[h];rfl
theorem gy{p:Prop}[Decidable p]{b:Bool}(h:¬p):(decide p&&b)=false:=by rw[decide_eq_false h];rfl
theorem bl{p:Prop}[Decidable p]{b:Bool}(h:p):(decide p&&b)=b:=by rw[decide_eq_true h];rfl
theorem eQ{α:Type}{l:List α}{i:Nat}:aj.c .lss (i:Int) (aj.l l)=decide (i<l.length):=aL
def JF(A:a_)(n:Int)(least:Int)(most:Int):LT Bool Empty:=.br (A.c .geq n least) (.ret (A.c .leq n most)) (.ret false)
def mg:(Int×Int×Int)→Bool:=fun(n,least,most)=>(JF aj n least most).val (Ty.bF [.bool])
def Xl:aC:=⟨[yI,yI,yI], [.bool],(@tt (Int×Int×Int)),mg⟩
theorem IS:Sd 145 Xl:=aH ap cm true 22 [] (fun A (n,least,most)=>JF A n least most) (fc Tryz.func145 fz) sz (fun((n,least,most):Int×Int×Int) hp h=>by
 show(JF aj n least most).pre=true
 simp[JF,LT.pre,ak,bK])
structure N9 where
 (a0:List bG) (a1:Int) (a3:Bool)
inductive KS where
 | c0 (p:N9) (a2:Int)
noncomputable def Nb:KS→fJ
 | .c0 p a2=>⟨[⟨201,19,(en [(0,.sl aS p.a0),(1,.fn 149 [] []),(7,vi p.a1),(8,vi a2)]),[.inLoop (cw Tryz.f201 [1,0,1,0,0]),.inBlock 0,.code (cw Tryz.f201 [1,1])],[],none⟩,⟨150,9,.leaf,[.ops (ow Tryz.f150 [1,0]) ((ow Tryz.f150 [1,0]).toList.drop 2),.code .ret],[],none⟩,⟨67,43,(en [(37,vb p.a3)]),[.ops (ow Tryz.f67 [1,1,0,0]) ((ow Tryz.f67 [1,1,0,0]).toList.drop 37),.code (cw Tryz.f67 [1,1,0,1]),.code (cw Tryz.f67 [1,1,1])],[],none⟩],[.dead]⟩
def MR(A:a_)(c:dw):LT Int KS:=.need (A.k (@tt (Int×Int×Int)) ((A.l c.2.2.1),4,8)) (.br (A.not (A.k mg ((A.l c.2.2.1),4,8))) (.ret 120) (.need (A.k (@tt (Int×Int×Int)) (c.1,0,(A.b .sub .i64 (A.l c.2.2.1) 1))) (.br (A.not (A.k mg (c.1,0,(A.b .sub .i64 (A.l c.2.2.1) 1)))) (.ret 120) (.br (A.c .gtr (A.l c.2.1) 8) (.ret 120) (.need (A.k (@tt (Int×Int×Int)) (c.2.2.2.1,0,4)) (.br (A.not (A.k mg (c.2.2.2.1,0,4))) (.ret 120) (.need (A.k (@tt (Int×Int×Int)) (c.2.2.2.2,(-1),3)) (.br (A.not (A.k mg (c.2.2.2.2,(-1),3))) (.ret 120) (.more (.c0 ⟨c.2.2.1,(A.l c.2.2.1),false⟩ 0))))))))))
def Gg(A:a_):KS→LT Int KS
 | .c0 p a2=>.br (A.c .lss a2 p.a1) (.need (A.and (A.c .leq 0 a2) (A.c .lss a2 (A.l p.a0))) (.br (A.c .gtr (A.l (A.n aS p.a0 a2:bG).1) 8) (.br p.a3 (.ret 120) (.br (A.c .geq a2 0) (.ret 120) (.ret 0))) (.need (A.k (@tt (Int×Int×Int)) ((A.n aS p.a0 a2:bG).2,0,255)) (.br (A.not (A.k mg ((A.n aS p.a0 a2:bG).2,0,255))) (.br p.a3 (.ret 120) (.br (A.c .geq a2 0) (.ret 120) (.ret 0))) (.more (.c0 p (A.b .add .i64 a2 1))))))) (.br p.a3 (.ret 120) (.ret 0))
theorem Co:mg=dN:=rfl
def A9(m:bG):Bool:=decide (¬8<(m.1.length:Int))&&decide (0≤m.2∧m.2≤255)
def fv(c:dw):Bool:=decide (4≤(c.2.2.1.length:Int)∧(c.2.2.1.length:Int)≤8)&&(decide (0≤c.1∧c.1≤(c.2.2.1.length:Int)-1)&&(decide (¬8<(c.2.1.length:Int))&&(decide (0≤c.2.2.2.1∧c.2.2.2.1≤4)&&(decide (-1≤c.2.2.2.2∧c.2.2.2.2≤3)&&c.2.2.1.all A9))))
def nY(c:dw):Int:=bif fv c then 0 else 120
theorem nP{c:dw}:nY c=0↔fv c=true:=by unfold nY;cases fv c<;>decide
theorem aaS{l:List bG}(hl:l.length≤140737488355328):∀(j i:Nat),l.length-i=j→i≤l.length→aF (Gg aj) (.more (.c0 ⟨l,(l.length:Int),false⟩ (i:Int))) (bif (l.drop i).all A9 then 0 else 120):=by
 intro j
 induction j with
 | zero=>
   intro i hj hi
   have:i=l.length:=by omega
   subst this
   rw[al,Gg]
   refine(ah (by rw[aL];simp)).2 ((ah rfl).2 ?_)
   rw[List.drop_length]
   exact .ret _
 | succ j ih=>
   intro i hj hi
   have hi':i<l.length:=by omega
   rw[al,Gg]
   refine(ai (by rw[aL];simp;omega)).2 (af.2 ⟨aO hi',?_⟩)
   rw[show(aj.n aS l (i:Int):bG)=l[i] from getD_in hi' _,List.drop_eq_getElem_cons hi',List.all_cons,A9,Co]
   refine aB (p:=8<(l[i].1.length:Int)) rfl (fun h=>?_) fun h1=>af.2 ⟨rfl,eT (fun h=>?_) fun h2=>?_⟩
   ·rw[decide_eq_false (show ¬¬8<(l[i].1.length:Int) by omega)]
    exact(ah rfl).2 ((ai (by rw[aJ];simp)).2 (.ret _))
   ·rw[decide_eq_false h,Bool.and_false]
    exact(ah rfl).2 ((ai (by rw[aJ];simp)).2 (.ret _))
   ·rw[decide_eq_true h1,decide_eq_true h2,cn (i:=i) (by omega)]
    exact ih (i+1) (by omega) (by omega)
theorem Cf{c:dw}(h:Ty.has lw c):c.2.1.length≤140737488355328∧c.2.2.1.length≤140737488355328∧∀x∈c.2.2.1,x.1.length≤140737488355328:=by
 obtain⟨_,h1,h2,_⟩:=h
 exact⟨h1.1,h2.1,fun x hx=>(h2.2 x hx).1.1⟩
theorem Y3{c:dw}(h:Ty.has lw c):aF (Gg aj) (MR aj c) (nY c):=by
 have hc:=(Cf h).2.1
 unfold MR nY
 rw[Co]
 simp only[fL]
 have hs:aj.b .sub .i64 (c.2.2.1.length:Int) 1=(c.2.2.1.length:Int)-1:=by rw[aW,gg (by omega) (by omega)]
 rw[hs]
 refine af.2 ⟨rfl,eT (fun h=>?_) fun h1=>af.2 ⟨rfl,eT (fun h=>?_) fun h2=>aB (p:=8<(c.2.1.length:Int)) rfl (fun h=>?_) fun h3=>af.2 ⟨rfl,eT (fun h=>?_) fun h4=>af.2 ⟨rfl,eT (fun h=>?_) fun h5=>?_⟩⟩⟩⟩
 ·exact ax (gQ (by rw[fv,gy h])) (.ret _)
 ·exact ax (gQ (by rw[fv,bl h1,gy h])) (.ret _)
 ·exact ax (gQ (by rw[fv,bl h1,bl h2,gy (fun k=>k h)])) (.ret _)
 ·exact ax (gQ (by rw[fv,bl h1,bl h2,bl h3,gy h])) (.ret _)
 ·exact ax (gQ (by rw[fv,bl h1,bl h2,bl h3,bl h4,gy h])) (.ret _)
 ·rw[fv,bl h1,bl h2,bl h3,bl h4,bl h5]
  exact aaS hc c.2.2.1.length 0 rfl (by omega)
def pK:dw→Int:=nY
def Tj:aC:=⟨[lw], [yI],(@tt dw),pK⟩
theorem FL:Sd 67 Tj:=aK ap cm true 78 [⟨201,2, [[0,1,7,8], [], [37]]⟩] [] (fun A c=>MR A c) Gg Nb (fc Tryz.func67 (fc Tryz.func149 (fc Tryz.func150 (fc Tryz.func201 fz)))) (sc IS sz) (fun A y=>match y with |.c0 p a2=>⟨68,by kernel_rfl,by kernel_rfl⟩) fun c hp h=>Y3 h
structure OX where
 (a1:dw)
inductive J3 where
 | c0 (p:OX) (a0:Int)
noncomputable def M4:J3→fJ
 | .c0 p a0=>⟨[⟨71,84,(en [(1,.ptr 0 0),(4,vi a0)]),[.inLoop (cw Tryz.f71 [1,1,1,0,1,0,0]),.inBlock 0,.code (cw Tryz.f71 [1,1,1,1])],[],none⟩],[.flat false [vi p.a1.1,.sl yU p.a1.2.1,.sl aS p.a1.2.2.1,vi p.a1.2.2.2.1,vi p.a1.2.2.2.2],.dead]⟩
def N_(A:a_)(c:dw):LT Int J3:=.br (A.c .lss (A.l c.2.2.1) 4) (.ret 120) (.br (A.c .gtr (A.l c.2.2.1) 8) (.ret 120) (.br (A.c .lss c.1 0) (.ret 120) (.br (A.c .geq c.1 (A.l c.2.2.1)) (.ret 120) (.br (A.c .gtr (A.l c.2.1) 8) (.ret 120) (.br (A.c .lss c.2.2.2.1 0) (.ret 120) (.br (A.c .gtr c.2.2.2.1 4) (.ret 120) (.br (A.c .lss c.2.2.2.2 (-1)) (.ret 120) (.br (A.c .geq c.2.2.2.2 4) (.ret 120) (.more (.c0 ⟨c⟩ 0))))))))))
def EX(A:a_):J3→LT Int J3
 | .c0 p a0=>.br (A.c .lss a0 (A.l p.a1.2.2.1)) (.need (A.and (A.c .leq 0 a0) (A.c .lss a0 (A.l p.a1.2.2.1))) (.br (A.c .gtr (A.l (A.n aS p.a1.2.2.1 a0:bG).1) 8) (.ret 120) (.need (A.and (A.c .leq 0 a0) (A.c .lss a0 (A.l p.a1.2.2.1))) (.br (A.c .lss (A.n aS p.a1.2.2.1 a0:bG).2 0) (.ret 120) (.need (A.and (A.c .leq 0 a0) (A.c .lss a0 (A.l p.a1.2.2.1))) (.br (A.c .gtr (A.n aS p.a1.2.2.1 a0:bG).2 255) (.ret 120) (.more (.c0 p (A.b .add .i64 a0 1))))))))) (.ret 0)
theorem WU{c:dw}(hl:c.2.2.1.length≤140737488355328):∀(j i:Nat),c.2.2.1.length-i=j→i≤c.2.2.1.length→aF (EX aj) (.more (.c0 ⟨c⟩ (i:Int))) (bif (c.2.2.1.drop i).all A9 then 0 else 120):=by
 intro j
 induction j with
 | zero=>
   intro i hj hi
   have:i=c.2.2.1.length:=by omega
   subst this
   rw[al,EX]
   refine(ah (by rw[eQ];simp)).2 ?_
   rw[List.drop_length]
   exact .ret _
 | succ j ih=>
   intro i hj hi
   have hi':i<c.2.2.1.length:=by omega
   rw[al,EX]
   refine(ai (by rw[eQ];simp;omega)).2 (af.2 ⟨aO hi',?_⟩)
   rw[show(aj.n aS c.2.2.1 (i:Int):bG)=c.2.2.1[i] from getD_in hi' _,List.drop_eq_getElem_cons hi',List.all_cons,A9]
   refine aB (p:=8<(c.2.2.1[i].1.length:Int)) rfl (fun h=>?_) fun h1=>af.2 ⟨aO hi',aB (p:=c.2.2.1[i].2<0) rfl (fun h=>?_) fun h2=>af.2 ⟨aO hi',aB (p:=255<c.2.2.1[i].2) rfl (fun h=>?_) fun h3=>?_⟩⟩
   ·rw[gy (fun k=>k h)];exact .ret _
   ·rw[bl h1,decide_eq_false (by omega)];exact .ret _
   ·rw[bl h1,decide_eq_false (by omega)];exact .ret _
   ·rw[bl h1,decide_eq_true (by omega),cn (i:=i) (by omega)]
    exact ih (i+1) (by omega) (by omega)
theorem WX{c:dw}(h:Ty.has lw c):aF (EX aj) (N_ aj c) (nY c):=by
 have hc:=(Cf h).2.1
 unfold N_ nY
 simp only[fL]
 refine aB (p:=(c.2.2.1.length:Int)<4) rfl (fun h=>?_) fun h1=>aB (p:=8<(c.2.2.1.length:Int)) rfl (fun h=>?_) fun h2=>aB (p:=c.1<0) rfl (fun h=>?_) fun h3=>aB (p:=(c.2.2.1.length:Int)≤c.1) rfl (fun h=>?_) fun h4=>aB (p:=8<(c.2.1.length:Int)) rfl (fun h=>?_) fun h5=>aB (p:=c.2.2.2.1<0) rfl (fun h=>?_) fun h6=>aB (p:=4<c.2.2.2.1) rfl (fun h=>?_) fun h7=>aB (p:=c.2.2.2.2 < -1) rfl (fun h=>?_) fun h8=>aB (p:=4≤c.2.2.2.2) rfl (fun h=>?_) fun h9=>?_
 ·exact ax (gQ (by rw[fv,gy (by omega)])) (.ret _)
 ·exact ax (gQ (by rw[fv,gy (by omega)])) (.ret _)
 ·exact ax (gQ (by rw[fv,bl (by omega),gy (by omega)])) (.ret _)
 ·exact ax (gQ (by rw[fv,bl (by omega),gy (by omega)])) (.ret _)
 ·exact ax (gQ (by rw[fv,bl (by omega),bl (by omega),gy (by omega)])) (.ret _)
 ·exact ax (gQ (by rw[fv,bl (by omega),bl (by omega),bl (by omega),gy (by omega)])) (.ret _)
 ·exact ax (gQ (by rw[fv,bl (by omega),bl (by omega),bl (by omega),gy (by omega)])) (.ret _)
 ·exact ax (gQ (by rw[fv,bl (by omega),bl (by omega),bl (by omega),bl (by omega),gy (by omega)])) (.ret _)
 ·exact ax (gQ (by rw[fv,bl (by omega),bl (by omega),bl (by omega),bl (by omega),gy (by omega)])) (.ret _)
 ·rw[fv,bl (by omega),bl (by omega),bl (by omega),bl (by omega),bl (by omega)]
  exact WU hc c.2.2.1.length 0 rfl (by omega)
def Ar:dw→Int:=nY
def V9:aC:=⟨[lw], [yI],(@tt dw),Ar⟩
theorem LU:Sd 71 V9:=aK ap cm true 74 [⟨71,5, [[1,4]]⟩] [] (fun A c=>N_ A c) EX M4 (fc Tryz.func71 fz) sz (fun A y=>match y with |.c0 p a0=>⟨56,by kernel_rfl,by kernel_rfl⟩) fun c hp h=>WX h
open Go.Ev.Pl
structure Pm where
 (a0:Int) (a2:dw) (a3 a4 a5:Int)
inductive Hw where
 | c0 (p:Pm) (a1:Int) (a6:List bG)
noncomputable def O9:Hw→fJ
 | .c0 p a1 a6=>⟨[⟨156,44,(en [(1,.ptr 0 0),(2,.ptr 1 0),(5,.own 2),(22,vi p.a0),(23,vi a1)]),[.inLoop (cw Tryz.f156 [1,1,1,1,0,1,0,0]),.inBlock 0,.code (cw Tryz.f156 [1,1,1,1,1])],[],none⟩],[.flat false [vi p.a2.1,.sl yU p.a2.2.1,.sl aS p.a2.2.2.1,vi p.a2.2.2.2.1,vi p.a2.2.2.2.2],.flat false [vi p.a3,.bZ true,.bZ true,vi p.a4,vi p.a5],.arr false aS a6,.dead]⟩
def Np(A:a_)(c:dw):LT (dw×Int) Hw:=.need (A.k (@tt dw) c) (.br (A.c .neq (A.k pK c) 0) (.ret ((0,([]:List Int),([]:List bG),0,0),(A.k pK c))) (.need (A.and (A.c .eql (A.l c.2.2.1) (A.l c.2.2.1)) (A.and (A.c .leq 0 (A.l c.2.2.1)) (A.c .leq (A.l c.2.2.1) 4398046511104))) (.more (.c0 ⟨(A.l (A.spl (A.r (A.l c.2.2.1) (Ty.iH aS:bG)) 0 (A.s c.2.2.1 0 (A.mn (A.l c.2.2.1) (A.l (A.r (A.l c.2.2.1) (Ty.iH aS:bG))))))),c,0,0,0⟩ 0 (A.spl (A.r (A.l c.2.2.1) (Ty.iH aS:bG)) 0 (A.s c.2.2.1 0 (A.mn (A.l c.2.2.1) (A.l (A.r (A.l c.2.2.1) (Ty.iH aS:bG))))))))))
def GM(A:a_):Hw→LT (dw×Int) Hw
 | .c0 p a1 a6=>.br (A.c .lss a1 p.a0) (.need (A.and (A.c .leq 0 a1) (A.c .lss a1 (A.l a6))) (.need (A.k (@tt (List Int)) (A.n aS a6 a1:bG).1) (.need (A.and (A.c .leq 0 a1) (A.c .lss a1 (A.l a6))) (.more (.c0 p (A.b .add .i64 a1 1) (A.set a6 a1 ((A.k qh (A.n aS a6 a1:bG).1),(A.n aS a6 a1:bG).2))))))) (.need (A.k (@tt (List Int)) p.a2.2.1) (.ret ((p.a2.1,(A.k qh p.a2.2.1),a6,p.a2.2.2.2),0)))
def yW:dw:=(0,([]:List Int),([]:List bG),0,0)
def Ii(c:dw):dw×Int:=bif fv c then(c,0) else(yW,120)
theorem Y8{c:dw}{L z1 z2 z3:Int}{l:List bG}(hl:l.length≤140737488355328)(hL:L=(l.length:Int)):∀(j i:Nat),l.length-i=j→i≤l.length→aF (GM aj) (.more (.c0 ⟨L,c,z1,z2,z3⟩ (i:Int) l)) ((c.1,c.2.1,l,c.2.2.2),0):=by
 subst hL
 intro j
 induction j with
 | zero=>
   intro i hj hi
   have:i=l.length:=by omega
   subst this
   rw[al,GM]
   exact(ah (by rw[aL];simp)).2 (af.2 ⟨rfl,.ret _⟩)
 | succ j ih=>
   intro i hj hi
   have hi':i<l.length:=by omega
   rw[al,GM]
   refine(ai (by rw[aL];simp;omega)).2 (af.2 ⟨aO hi',af.2 ⟨rfl,af.2 ⟨aO hi',?_⟩⟩⟩)
   have e:(aj.n aS l (i:Int):bG)=l[i]:=getD_in hi' _
   have e2:aj.set l (i:Int) ((aj.k qh (aj.n aS l (i:Int):bG).1),(aj.n aS l (i:Int):bG).2)=l:=by
    rw[e]
    show l.set (i:Int).toNat l[i]=l
    rw[Int.toNat_natCast];exact List.set_getElem_self _
   rw[e2,cn (i:=i) (by omega)]
   exact ih (i+1) (by omega) (by omega)
theorem Ci{α:Type}{l:List α}{d:α}:aj.spl (aj.r (aj.l l) d) 0 (aj.s l 0 (aj.mn (aj.l l) (aj.l (aj.r (aj.l l) d))))=l:=by
 simp[pV,nO,mX,uo,fL]
theorem Wb{c:dw}:aF (GM aj) (Np aj c) (Ii c):=by
 unfold Np Ii
 refine af.2 ⟨rfl,?_⟩
 rw[show aj.k pK c=nY c from rfl,nY]
 cases hc:fv c
 ·exact(ai rfl).2 (.ret _)
 ·refine(ah rfl).2 ?_
  simp only[fv,Bool.and_eq_true,decide_eq_true_eq] at hc
  have h1:aj.and (aj.c .eql (aj.l c.2.2.1) (aj.l c.2.2.1)) (aj.and (aj.c .leq 0 (aj.l c.2.2.1)) (aj.c .leq (aj.l c.2.2.1) 4398046511104))=true:=by
   rw[fL,aA,ar,ar,aN,aN];simp;omega
  refine af.2 ⟨h1,?_⟩
  exact aX (congrArg (fun z:List bG=>LT.more (Hw.c0 ⟨aj.l z,c,0,0,0⟩ 0 z)) Ci) (Y8 (by omega) rfl c.2.2.1.length 0 rfl (by omega))
def xh:dw→(dw×Int):=Ii
def Qs:aC:=⟨[lw], [lw,yI],(@tt dw),xh⟩
theorem U4:Sd 156 Qs:=aK ap cm true 50 [⟨156,7, [[1,2,5,22,23]]⟩] [] (fun A c=>Np A c) GM O9 (fc Tryz.func156 fz) (sc Ha (sc FL sz)) (fun A y=>match y with |.c0 p a1 a6=>⟨38,by kernel_rfl,by kernel_rfl⟩) fun c hp h=>Wb
theorem aZ{a b:Int}:aj.c .eql a b=decide (a=b):=by rw[aA,Bool.eq_iff_iff];simp
theorem yq{l:List bG}{x:bG}(h:l.length≤4398046511103):aj.c .leq (aj.l (aj.p l [x])) 4398046511104=true:=by
 rw[fL,ar,nS,List.length_append];exact decide_eq_true (by simp;omega)
theorem iV{l:List Int}(h:l.length≤140737488355328):aj.c .leq (aj.l l) 140737488355328=true:=by
 rw[fL,ar];exact decide_eq_true (by omega)
theorem j5{m:bG}(h:(m.1.length:Int)=0):(([]:List Int),m.2)=m:=Prod.ext (List.eq_nil_of_length_eq_zero (by omega)).symm rfl
open Go.Ev.Pl
def zj(c:dw):Bool:=decide (c.2.1.length≤140737488355328)&&(decide (c.2.2.1.length≤4398046511103)&&c.2.2.1.all fun m=>decide (m.1.length≤140737488355328))
theorem xd{c:dw}:zj c=true↔c.2.1.length≤140737488355328∧c.2.2.1.length≤4398046511103∧∀x∈c.2.2.1,x.1.length≤140737488355328:=by
 simp[zj,List.all_eq_true]
theorem K2{c:dw}(h:fv c=true):zj c=true:=by
 simp only[fv,Bool.and_eq_true,decide_eq_true_eq,List.all_eq_true,A9] at h
 exact xd.2 ⟨by omega,by omega,fun x hx=>by have:=(h.2.2.2.2.2 x hx).1;omega⟩
structure Ji where
 (a0:List bG) (a1 a2 a3 a4 a5 a6 a7:Int)
structure IU where
 (b0:List bG) (b1 b2 b3 b4 b5 b6 b7:Int) (b8:List Int)
structure GH where
 (c0:List bG) (c2 c3 c4 c5 c6 c7:Int)
structure IZ where
 (d0:List bG) (d2 d3 d4 d5 d6 d7:Int) (d8:List Int)
inductive Lq where
 | c0 (p:Ji)
 | c1 (p:IU)
 | c2 (p:GH) (c1:Int) (c8:List bG)
 | c3 (p:IZ) (d1:Int) (d9:List bG)
noncomputable def ML:Lq→fJ
 | .c0 p=>⟨[⟨16,36,(en [(1,.ptr 0 0),(2,.ptr 1 0),(3,.sl aS p.a0),(4,vi p.a1)]),[.inLoop (cw Tryz.f16 [1,1,1,1,0,1,0,0]),.inBlock 0,.code (cw Tryz.f16 [1,1,1,1,1])],[],none⟩],[.flat false [vi p.a2,.bZ true,.bZ true,vi p.a3,vi p.a4],.flat false [vi p.a5,.bZ true,.bZ true,vi p.a6,vi p.a7],.dead]⟩
 | .c1 p=>⟨[⟨16,36,(en [(1,.ptr 0 0),(2,.ptr 1 0),(3,.sl aS p.b0),(4,vi p.b1)]),[.inLoop (cw Tryz.f16 [1,1,1,1,0,1,0,0]),.inBlock 0,.code (cw Tryz.f16 [1,1,1,1,1])],[],none⟩],[.flat false [vi p.b2,.own 2,.bZ true,vi p.b3,vi p.b4],.flat false [vi p.b5,.bZ true,.bZ true,vi p.b6,vi p.b7],.arr false yU p.b8,.dead]⟩
 | .c2 p c1 c8=>⟨[⟨16,36,(en [(1,.ptr 0 0),(2,.ptr 1 0),(3,.sl aS p.c0),(4,vi c1)]),[.inLoop (cw Tryz.f16 [1,1,1,1,0,1,0,0]),.inBlock 0,.code (cw Tryz.f16 [1,1,1,1,1])],[],none⟩],[.flat false [vi p.c2,.bZ true,.own 2,vi p.c3,vi p.c4],.flat false [vi p.c5,.bZ true,.bZ true,vi p.c6,vi p.c7],.arr false aS c8,.dead]⟩
 | .c3 p d1 d9=>⟨[⟨16,36,(en [(1,.ptr 0 0),(2,.ptr 1 0),(3,.sl aS p.d0),(4,vi d1)]),[.inLoop (cw Tryz.f16 [1,1,1,1,0,1,0,0]),.inBlock 0,.code (cw Tryz.f16 [1,1,1,1,1])],[],none⟩],[.flat false [vi p.d2,.own 2,.own 3,vi p.d3,vi p.d4],.flat false [vi p.d5,.bZ true,.bZ true,vi p.d6,vi p.d7],.arr false yU p.d8,.arr false aS d9,.dead]⟩
def KV(A:a_)(c:dw):LT dw Lq:=.br (A.c .eql (A.l c.2.1) 0) (.more (.c0 ⟨c.2.2.1,0,c.1,c.2.2.2.1,c.2.2.2.2,0,0,0⟩)) (.need (A.c .leq (A.l c.2.1) 140737488355328) (.more (.c1 ⟨c.2.2.1,0,c.1,c.2.2.2.1,c.2.2.2.2,0,0,0,c.2.1⟩)))
def oU(A:a_):Lq→LT dw Lq
 | .c0 p=>.br (A.c .lss p.a1 (A.l p.a0)) (.need (A.and (A.c .leq 0 p.a1) (A.c .lss p.a1 (A.l p.a0))) (.need (A.and (A.c .leq 0 p.a1) (A.c .lss p.a1 (A.l p.a0))) (.br (A.c .eql (A.l (A.n aS p.a0 p.a1:bG).1) 0) (.need (A.and (A.c .leq 0 p.a1) (A.c .lss p.a1 (A.l p.a0))) (.need (A.c .leq (A.l ([(([]:List Int),(A.n aS p.a0 p.a1:bG).2)]:List bG)) 4398046511104) (.more (.c2 ⟨p.a0,p.a2,p.a3,p.a4,p.a5,p.a6,p.a7⟩ (A.b .add .i64 p.a1 1) [(([]:List Int),(A.n aS p.a0 p.a1:bG).2)])))) (.need (A.c .leq (A.l (A.n aS p.a0 p.a1:bG).1) 140737488355328) (.need (A.and (A.c .leq 0 p.a1) (A.c .lss p.a1 (A.l p.a0))) (.need (A.c .leq (A.l ([(A.n aS p.a0 p.a1:bG)]:List bG)) 4398046511104) (.more (.c2 ⟨p.a0,p.a2,p.a3,p.a4,p.a5,p.a6,p.a7⟩ (A.b .add .i64 p.a1 1) [(A.n aS p.a0 p.a1:bG)])))))))) (.ret (p.a2,([]:List Int),([]:List bG),p.a3,p.a4))
 | .c1 p=>.br (A.c .lss p.b1 (A.l p.b0)) (.need (A.and (A.c .leq 0 p.b1) (A.c .lss p.b1 (A.l p.b0))) (.need (A.and (A.c .leq 0 p.b1) (A.c .lss p.b1 (A.l p.b0))) (.br (A.c .eql (A.l (A.n aS p.b0 p.b1:bG).1) 0) (.need (A.and (A.c .leq 0 p.b1) (A.c .lss p.b1 (A.l p.b0))) (.need (A.c .leq (A.l ([(([]:List Int),(A.n aS p.b0 p.b1:bG).2)]:List bG)) 4398046511104) (.more (.c3 ⟨p.b0,p.b2,p.b3,p.b4,p.b5,p.b6,p.b7,p.b8⟩ (A.b .add .i64 p.b1 1) [(([]:List Int),(A.n aS p.b0 p.b1:bG).2)])))) (.need (A.c .leq (A.l (A.n aS p.b0 p.b1:bG).1) 140737488355328) (.need (A.and (A.c .leq 0 p.b1) (A.c .lss p.b1 (A.l p.b0))) (.need (A.c .leq (A.l ([(A.n aS p.b0 p.b1:bG)]:List bG)) 4398046511104) (.more (.c3 ⟨p.b0,p.b2,p.b3,p.b4,p.b5,p.b6,p.b7,p.b8⟩ (A.b .add .i64 p.b1 1) [(A.n aS p.b0 p.b1:bG)])))))))) (.ret (p.b2,p.b8,([]:List bG),p.b3,p.b4))
 | .c2 p c1 c8=>.br (A.c .lss c1 (A.l p.c0)) (.need (A.and (A.c .leq 0 c1) (A.c .lss c1 (A.l p.c0))) (.need (A.and (A.c .leq 0 c1) (A.c .lss c1 (A.l p.c0))) (.br (A.c .eql (A.l (A.n aS p.c0 c1:bG).1) 0) (.need (A.and (A.c .leq 0 c1) (A.c .lss c1 (A.l p.c0))) (.need (A.c .leq (A.l (A.p c8 [(([]:List Int),(A.n aS p.c0 c1:bG).2)])) 4398046511104) (.more (.c2 p (A.b .add .i64 c1 1) (A.p c8 [(([]:List Int),(A.n aS p.c0 c1:bG).2)]))))) (.need (A.c .leq (A.l (A.n aS p.c0 c1:bG).1) 140737488355328) (.need (A.and (A.c .leq 0 c1) (A.c .lss c1 (A.l p.c0))) (.need (A.c .leq (A.l (A.p c8 [(A.n aS p.c0 c1:bG)])) 4398046511104) (.more (.c2 p (A.b .add .i64 c1 1) (A.p c8 [(A.n aS p.c0 c1:bG)]))))))))) (.ret (p.c2,([]:List Int),c8,p.c3,p.c4))
 | .c3 p d1 d9=>.br (A.c .lss d1 (A.l p.d0)) (.need (A.and (A.c .leq 0 d1) (A.c .lss d1 (A.l p.d0))) (.need (A.and (A.c .leq 0 d1) (A.c .lss d1 (A.l p.d0))) (.br (A.c .eql (A.l (A.n aS p.d0 d1:bG).1) 0) (.need (A.and (A.c .leq 0 d1) (A.c .lss d1 (A.l p.d0))) (.need (A.c .leq (A.l (A.p d9 [(([]:List Int),(A.n aS p.d0 d1:bG).2)])) 4398046511104) (.more (.c3 p (A.b .add .i64 d1 1) (A.p d9 [(([]:List Int),(A.n aS p.d0 d1:bG).2)]))))) (.need (A.c .leq (A.l (A.n aS p.d0 d1:bG).1) 140737488355328) (.need (A.and (A.c .leq 0 d1) (A.c .lss d1 (A.l p.d0))) (.need (A.c .leq (A.l (A.p d9 [(A.n aS p.d0 d1:bG)])) 4398046511104) (.more (.c3 p (A.b .add .i64 d1 1) (A.p d9 [(A.n aS p.d0 d1:bG)]))))))))) (.ret (p.d2,p.d8,d9,p.d3,p.d4))
theorem Ll{l:List bG}{R:dw}{p:GH}(hp:p.c0=l)(hl:l.length≤4398046511103)(hd:∀x∈l,x.1.length≤140737488355328)(hR:aF (oU aj) (.more (.c2 p (l.length:Int) l)) R):∀(j i:Nat),l.length-i=j→i≤l.length→aF (oU aj) (.more (.c2 p (i:Int) (l.take i))) R:=by
 intro j
 induction j with
 | zero=>
   intro i hj hi
   have:i=l.length:=by omega
   subst this
   rw[List.take_length];exact hR
 | succ j ih=>
   intro i hj hi
   have hi':i<l.length:=by omega
   have hm:=ih (i+1) (by omega) (by omega)
   rw[List.take_succ_eq_append_getElem hi'] at hm
   have hx:=hd _ (List.getElem_mem hi')
   have e:(aj.n aS l (i:Int):bG)=l[i]:=getD_in hi' _
   have hsz:∀x:bG,aj.c .leq (aj.l (aj.p (l.take i) [x])) 4398046511104=true:=fun x=>yq (by rw[List.length_take];omega)
   rw[al,oU]
   simp only[hp,e]
   refine(ai (by rw[eQ];simp;omega)).2 (af.2 ⟨aO hi',af.2 ⟨aO hi',aB (p:=(l[i].1.length:Int)=0) aZ (fun h=>?_) fun h=>af.2 ⟨iV hx,?_⟩⟩⟩)
   ·repeat (refine af.2 ⟨aO hi',?_⟩)
    refine af.2 ⟨hsz _,?_⟩
    rw[j5 h,cn (i:=i) (by omega)];exact hm
   ·repeat (refine af.2 ⟨aO hi',?_⟩)
    refine af.2 ⟨hsz _,?_⟩
    rw[cn (i:=i) (by omega)];exact hm
theorem JI{l:List bG}{R:dw}{p:Ji}(h0:p.a0=l)(h1:p.a1=0)(hne:0<l.length)(hl:l.length≤4398046511103)(hd:∀x∈l,x.1.length≤140737488355328)(hR:aF (oU aj) (.more (.c2 ⟨p.a0,p.a2,p.a3,p.a4,p.a5,p.a6,p.a7⟩ (l.length:Int) l)) R):aF (oU aj) (.more (.c0 p)) R:=by
 have hm:=Ll (p:=⟨p.a0,p.a2,p.a3,p.a4,p.a5,p.a6,p.a7⟩) h0 hl hd hR (l.length-1) 1 rfl (by omega)
 rw[List.take_succ_eq_append_getElem hne,List.take_zero,List.nil_append] at hm
 have hx:=hd _ (List.getElem_mem hne)
 have e:(aj.n aS l 0:bG)=l[0]:=getD_in (i:=0) hne _
 have hix:aj.and (aj.c .leq 0 0) (aj.c .lss 0 (aj.l l))=true:=aO (i:=0) hne
 have hlt:aj.c .lss 0 (aj.l l)=true:=by have:=eQ (l:=l) (i:=0);rw[decide_eq_true hne] at this;exact this
 have hsz:∀x:bG,aj.c .leq (aj.l [x]) 4398046511104=true:=fun x=>rfl
 rw[al,oU]
 simp only[h0,h1,e]
 simp only[h0] at hm
 refine(ai hlt).2 (af.2 ⟨hix,af.2 ⟨hix,aB (p:=(l[0].1.length:Int)=0) aZ (fun h=>?_) fun h=>af.2 ⟨iV hx,?_⟩⟩⟩)
 ·repeat (refine af.2 ⟨hix,?_⟩)
  refine af.2 ⟨hsz _,?_⟩
  rw[j5 h];exact hm
 ·repeat (refine af.2 ⟨hix,?_⟩)
  exact af.2 ⟨hsz _,hm⟩
theorem JY{l:List bG}{R:dw}{p:IZ}(hp:p.d0=l)(hl:l.length≤4398046511103)(hd:∀x∈l,x.1.length≤140737488355328)(hR:aF (oU aj) (.more (.c3 p (l.length:Int) l)) R):∀(j i:Nat),l.length-i=j→i≤l.length→aF (oU aj) (.more (.c3 p (i:Int) (l.take i))) R:=by
 intro j
 induction j with
 | zero=>
   intro i hj hi
   have:i=l.length:=by omega
   subst this
   rw[List.take_length];exact hR
 | succ j ih=>
   intro i hj hi
   have hi':i<l.length:=by omega
   have hm:=ih (i+1) (by omega) (by omega)
   rw[List.take_succ_eq_append_getElem hi'] at hm
   have hx:=hd _ (List.getElem_mem hi')
   have e:(aj.n aS l (i:Int):bG)=l[i]:=getD_in hi' _
   have hsz:∀x:bG,aj.c .leq (aj.l (aj.p (l.take i) [x])) 4398046511104=true:=fun x=>yq (by rw[List.length_take];omega)
   rw[al,oU]
   simp only[hp,e]
   refine(ai (by rw[eQ];simp;omega)).2 (af.2 ⟨aO hi',af.2 ⟨aO hi',aB (p:=(l[i].1.length:Int)=0) aZ (fun h=>?_) fun h=>af.2 ⟨iV hx,?_⟩⟩⟩)
   ·repeat (refine af.2 ⟨aO hi',?_⟩)
    refine af.2 ⟨hsz _,?_⟩
    rw[j5 h,cn (i:=i) (by omega)];exact hm
   ·repeat (refine af.2 ⟨aO hi',?_⟩)
    refine af.2 ⟨hsz _,?_⟩
    rw[cn (i:=i) (by omega)];exact hm
theorem Ky{l:List bG}{R:dw}{p:IU}(h0:p.b0=l)(h1:p.b1=0)(hne:0<l.length)(hl:l.length≤4398046511103)(hd:∀x∈l,x.1.length≤140737488355328)(hR:aF (oU aj) (.more (.c3 ⟨p.b0,p.b2,p.b3,p.b4,p.b5,p.b6,p.b7,p.b8⟩ (l.length:Int) l)) R):aF (oU aj) (.more (.c1 p)) R:=by
 have hm:=JY (p:=⟨p.b0,p.b2,p.b3,p.b4,p.b5,p.b6,p.b7,p.b8⟩) h0 hl hd hR (l.length-1) 1 rfl (by omega)
 rw[List.take_succ_eq_append_getElem hne,List.take_zero,List.nil_append] at hm
 have hx:=hd _ (List.getElem_mem hne)
 have e:(aj.n aS l 0:bG)=l[0]:=getD_in (i:=0) hne _
 have hix:aj.and (aj.c .leq 0 0) (aj.c .lss 0 (aj.l l))=true:=aO (i:=0) hne
 have hlt:aj.c .lss 0 (aj.l l)=true:=by have:=eQ (l:=l) (i:=0);rw[decide_eq_true hne] at this;exact this
 have hsz:∀x:bG,aj.c .leq (aj.l [x]) 4398046511104=true:=fun x=>rfl
 rw[al,oU]
 simp only[h0,h1,e]
 simp only[h0] at hm
 refine(ai hlt).2 (af.2 ⟨hix,af.2 ⟨hix,aB (p:=(l[0].1.length:Int)=0) aZ (fun h=>?_) fun h=>af.2 ⟨iV hx,?_⟩⟩⟩)
 ·repeat (refine af.2 ⟨hix,?_⟩)
  refine af.2 ⟨hsz _,?_⟩
  rw[j5 h];exact hm
 ·repeat (refine af.2 ⟨hix,?_⟩)
  exact af.2 ⟨hsz _,hm⟩
theorem Pg{c:dw}(hp:zj c=true):aF (oU aj) (KV aj c) c:=by
 obtain⟨h1,h2,h3⟩:=xd.1 hp
 obtain⟨id,out,l,life,want⟩:=c
 unfold KV
 refine aB (p:=(out.length:Int)=0) aZ (fun h=>?_) fun h=>af.2 ⟨iV h1,?_⟩
 ·have ho:out=[]:=List.eq_nil_of_length_eq_zero (by omega)
  subst ho
  cases l with
  | nil=>exact al.2 ((ah rfl).2 (.ret _))
  | cons x l=>exact JI rfl rfl (Nat.succ_pos _) h2 h3 (al.2 ((ah (by rw[eQ];simp)).2 (.ret _)))
 ·cases l with
  | nil=>exact al.2 ((ah rfl).2 (.ret _))
  | cons x l=>exact Ky rfl rfl (Nat.succ_pos _) h2 h3 (al.2 ((ah (by rw[eQ];simp)).2 (.ret _)))
def Ir:dw→dw:=fun c=>c
def BB:dw→Bool:=fun c=>zj c
def Sc:aC:=⟨[lw], [lw],BB,Ir⟩
theorem UR:Sd 16 Sc:=aK ap cm true 37 [⟨16,5, [[1,2,3,4]]⟩] [] (fun A c=>KV A c) oU ML (fc Tryz.func16 fz) sz (fun A y=>match y with |.c0 p=>⟨44,by kernel_rfl,by kernel_rfl⟩|.c1 p=>⟨44,by kernel_rfl,by kernel_rfl⟩|.c2 p c1 c8=>⟨44,by kernel_rfl,by kernel_rfl⟩|.c3 p d1 d9=>⟨44,by kernel_rfl,by kernel_rfl⟩) fun(c:dw) hp h=>by
 show aF (oU aj) (KV aj c) (Ir c)
 exact Pg (by simpa [BB] using hp)
open Go.Ev.Pl
structure Oj where
 (a0 a2:Int) (a3:List Int) (a4:dw) (a5 a6 a7:Int) (a9:dw) (cd dS a12:Int)
inductive Ex where
 | c0 (p:Oj) (a1:Int) (a8:List bG)
noncomputable def Py:Ex→fJ
 | .c0 p a1 a8=>⟨[⟨156,44,(en [(1,.ptr 0 0),(2,.ptr 1 0),(5,.own 2),(22,vi p.a0),(23,vi a1)]),[.inLoop (cw Tryz.f156 [1,1,1,1,0,1,0,0]),.inBlock 0,.code (cw Tryz.f156 [1,1,1,1,1])],[],none⟩,⟨166,42,(en [(1,vi p.a2),(2,.sl yU p.a3),(3,.ptr 3 0),(6,.ptr 4 0)]),[.ops (ow Tryz.f166 [1,0]) ((ow Tryz.f166 [1,0]).toList.drop 1),.code (cw Tryz.f166 [1,1])],[],none⟩],[.flat false [vi p.a4.1,.sl yU p.a4.2.1,.sl aS p.a4.2.2.1,vi p.a4.2.2.2.1,vi p.a4.2.2.2.2],.flat false [vi p.a5,.bZ true,.bZ true,vi p.a6,vi p.a7],.arr false aS a8,.flat false [vi p.a9.1,.sl yU p.a9.2.1,.sl aS p.a9.2.2.1,vi p.a9.2.2.2.1,vi p.a9.2.2.2.2],.flat false [vi p.cd,.bZ true,.bZ true,vi p.dS,vi p.a12],.dead]⟩
def PY(A:a_)(c:dw)(slot:Int)(data:List Int):LT (dw×Int) Ex:=.need (A.k (@tt dw) c) (.br (A.c .neq (A.k pK c) 0) (.br (A.c .neq (A.k pK c) 0) (.ret ((0,([]:List Int),([]:List bG),0,0),(A.k pK c))) (.need (A.k (@tt (Int×Int×Int)) (slot,0,(A.b .sub .i64 (A.l c.2.2.1) 1))) (.br (A.not (A.k mg (slot,0,(A.b .sub .i64 (A.l c.2.2.1) 1)))) (.ret ((0,([]:List Int),([]:List bG),0,0),2)) (.br (A.c .gtr (A.l data) 8) (.ret ((0,([]:List Int),([]:List bG),0,0),3)) (.need (A.k (@tt (List Int)) data) (.bad 37 "cni.go:107")))))) (.need (A.and (A.c .eql (A.l c.2.2.1) (A.l c.2.2.1)) (A.and (A.c .leq 0 (A.l c.2.2.1)) (A.c .leq (A.l c.2.2.1) 4398046511104))) (.more (.c0 ⟨(A.l (A.spl (A.r (A.l c.2.2.1) (Ty.iH aS:bG)) 0 (A.s c.2.2.1 0 (A.mn (A.l c.2.2.1) (A.l (A.r (A.l c.2.2.1) (Ty.iH aS:bG))))))),slot,data,c,0,0,0,c,0,0,0⟩ 0 (A.spl (A.r (A.l c.2.2.1) (Ty.iH aS:bG)) 0 (A.s c.2.2.1 0 (A.mn (A.l c.2.2.1) (A.l (A.r (A.l c.2.2.1) (Ty.iH aS:bG))))))))))
def C8(A:a_):Ex→LT (dw×Int) Ex
 | .c0 p a1 a8=>.br (A.c .lss a1 p.a0) (.need (A.and (A.c .leq 0 a1) (A.c .lss a1 (A.l a8))) (.need (A.k (@tt (List Int)) (A.n aS a8 a1:bG).1) (.need (A.and (A.c .leq 0 a1) (A.c .lss a1 (A.l a8))) (.more (.c0 p (A.b .add .i64 a1 1) (A.set a8 a1 ((A.k qh (A.n aS a8 a1:bG).1),(A.n aS a8 a1:bG).2))))))) (.need (A.k (@tt (List Int)) p.a4.2.1) (.need (A.k (@tt (Int×Int×Int)) (p.a2,0,(A.b .sub .i64 (A.l p.a9.2.2.1) 1))) (.br (A.not (A.k mg (p.a2,0,(A.b .sub .i64 (A.l p.a9.2.2.1) 1)))) (.ret ((0,([]:List Int),([]:List bG),0,0),2)) (.br (A.c .gtr (A.l p.a3) 8) (.ret ((0,([]:List Int),([]:List bG),0,0),3)) (.need (A.k (@tt (List Int)) p.a3) (.need (A.and (A.c .leq 0 p.a2) (A.c .lss p.a2 (A.l a8))) (.ret ((p.a4.1,(A.k qh p.a4.2.1),(A.set a8 p.a2 ((A.k qh p.a3),0)),p.a4.2.2.2),0))))))))
def oC(c:dw)(slot:Int)(data:List Int):dw×Int:=
 bif fv c then(bif decide (0≤slot∧slot≤(c.2.2.1.length:Int)-1) then(bif decide (8<(data.length:Int)) then(yW,3) else((c.1,c.2.1,c.2.2.1.set slot.toNat (data,0),c.2.2.2),0)) else(yW,2)) else(yW,120)
def TU:dw×Int×List Int→dw×Int:=fun(c,slot,data)=>oC c slot data
theorem xZ{c:dw}(h:fv c=true):4≤c.2.2.1.length∧c.2.2.1.length≤8∧c.2.1.length≤8∧∀x∈c.2.2.1,x.1.length≤8∧0≤x.2∧x.2≤255:=by
 simp only[fv,Bool.and_eq_true,decide_eq_true_eq,List.all_eq_true,A9] at h
 exact⟨by omega,by omega,by omega,fun x hx=>by have:=h.2.2.2.2.2 x hx;exact⟨by omega,this.2⟩⟩
theorem IA{c:dw}(h:fv c=true):aj.and (aj.c .eql (aj.l c.2.2.1) (aj.l c.2.2.1)) (aj.and (aj.c .leq 0 (aj.l c.2.2.1)) (aj.c .leq (aj.l c.2.2.1) 4398046511104))=true:=by
 have:=xZ h
 rw[fL,aA,ar,ar,aN,aN];simp;omega
theorem Gu{l:List bG}{i:Nat}(hi:i<l.length):aj.set l (i:Int) ((aj.k qh (aj.n aS l (i:Int):bG).1),(aj.n aS l (i:Int):bG).2)=l:=by
 rw[show(aj.n aS l (i:Int):bG)=l[i] from getD_in hi _]
 show l.set (i:Int).toNat l[i]=l
 rw[Int.toNat_natCast];exact List.set_getElem_self _
theorem Yh{c:dw}{L slot z1 z2 z3 z4 z5 z6:Int}{data:List Int}{R:dw×Int}(hl:c.2.2.1.length≤8)(hL:L=(c.2.2.1.length:Int))(hR:aF (C8 aj) (.more (.c0 ⟨L,slot,data,c,z1,z2,z3,c,z4,z5,z6⟩ (c.2.2.1.length:Int) c.2.2.1)) R) :
  ∀(j i:Nat),c.2.2.1.length-i=j→i≤c.2.2.1.length→aF (C8 aj) (.more (.c0 ⟨L,slot,data,c,z1,z2,z3,c,z4,z5,z6⟩ (i:Int) c.2.2.1)) R:=by
 subst hL
 intro j
 induction j with
 | zero=>
   intro i hj hi
   have:i=c.2.2.1.length:=by omega
   subst this
   exact hR
 | succ j ih=>
   intro i hj hi
   have hi':i<c.2.2.1.length:=by omega
   rw[al,C8]
   refine(ai (by rw[aL];simp;omega)).2 (af.2 ⟨aO hi',af.2 ⟨rfl,af.2 ⟨aO hi',?_⟩⟩⟩)
   rw[Gu hi',cn (i:=i) (by omega)]
   exact ih (i+1) (by omega) (by omega)
theorem aaU{c:dw}{slot:Int}{data:List Int}:aF (C8 aj) (PY aj c slot data) (oC c slot data):=by
 unfold PY oC
 refine af.2 ⟨rfl,?_⟩
 rw[show aj.k pK c=nY c from rfl,nY]
 cases hc:fv c
 ·exact(ai rfl).2 ((ai rfl).2 (.ret _))
 ·obtain⟨h1,h2,_,_⟩:=xZ hc
  refine(ah rfl).2 (af.2 ⟨IA hc,aX (congrArg (fun z:List bG=>LT.more (Ex.c0 ⟨aj.l z,slot,data,c,0,0,0,c,0,0,0⟩ 0 z)) Ci) (Yh h2 rfl ?_ c.2.2.1.length 0 rfl (by omega))⟩)
  rw[al,C8]
  have hs:aj.b .sub .i64 (c.2.2.1.length:Int) 1=(c.2.2.1.length:Int)-1:=by rw[aW,gg (by omega) (by omega)]
  refine(ah (by rw[aL];simp)).2 (af.2 ⟨rfl,af.2 ⟨rfl,?_⟩⟩)
  rw[Co]
  simp only[fL,hs]
  refine eT (fun h=>?_) fun h3=>aB (p:=8<(data.length:Int)) rfl (fun h=>?_) fun h4=>af.2 ⟨rfl,af.2 ⟨?_,?_⟩⟩
  ·rw[decide_eq_false h];exact .ret _
  ·rw[decide_eq_true h3,decide_eq_true h];exact .ret _
  ·rw[ar,ao,aN];simp;omega
  ·rw[decide_eq_true h3,decide_eq_false h4];exact .ret _
def sr:(dw×Int×List Int)→(dw×Int):=TU
def Vk:aC:=⟨[lw,yI,yB], [lw,yI],(@tt (dw×Int×List Int)),sr⟩
theorem LK:Sd 166 Vk:=aK ap cm true 89 [⟨156,7, [[1,2,5,22,23], [1,2,3,6]]⟩] [] (fun A (c,slot,data)=>PY A c slot data) C8 Py (fc Tryz.func166 (fc Tryz.func156 fz)) (sc Ha (sc FL (sc IS sz))) (fun A y=>match y with |.c0 p a1 a8=>⟨86,by kernel_rfl,by kernel_rfl⟩) fun(c,slot,data) hp h=>aaU
open Go.Ev.Pl
structure Fw where
 (a0:List bG) (a1 a2:Int) (a3:List Int) (a4 a5 a6 a7 a8 a9:Int) (cd:dw) (dS a12 jR:Int)
structure H6 where
 (b0:List bG) (b1 b2:Int) (b3:List Int) (b4 b5 b6 b7 b8 b9:Int) (b10:dw) (b11 b12 b13:Int) (o9:List Int)
structure HV where
 (c0:List bG) (c2:Int) (c3:List Int) (c4 c5 c6 c7 c8 c9:Int) (c10:dw) (c11 c12 c13:Int)
structure Ey where
 (d0:List bG) (d2:Int) (d3:List Int) (d4 d5 d6 d7 d8 d9:Int) (kT:dw) (l8 Yq ZY:Int) (SL:List Int)
inductive G8 where
 | c0 (p:Fw)
 | c1 (p:H6)
 | c2 (p:HV) (c1:Int) (c14:List bG)
 | c3 (p:Ey) (d1:Int) (kC:List bG)
noncomputable def Nl:G8→fJ
 | .c0 p=>⟨[⟨16,36,(en [(1,.ptr 0 0),(2,.ptr 1 0),(3,.sl aS p.a0),(4,vi p.a1)]),[.inLoop (cw Tryz.f16 [1,1,1,1,0,1,0,0]),.inBlock 0,.code (cw Tryz.f16 [1,1,1,1,1])],[],none⟩,⟨175,39,(en [(1,vi p.a2),(2,.sl yU p.a3),(3,.ptr 2 0),(6,.ptr 3 0)]),[.ops (ow Tryz.f175 [1,1,1,1,0]) ((ow Tryz.f175 [1,1,1,1,0]).toList.drop 1),.code (cw Tryz.f175 [1,1,1,1,1])],[],none⟩],[.flat false [vi p.a4,.bZ true,.bZ true,vi p.a5,vi p.a6],.flat false [vi p.a7,.bZ true,.bZ true,vi p.a8,vi p.a9],.flat false [vi p.cd.1,.sl yU p.cd.2.1,.sl aS p.cd.2.2.1,vi p.cd.2.2.2.1,vi p.cd.2.2.2.2],.flat false [vi p.dS,.bZ true,.bZ true,vi p.a12,vi p.jR],.dead]⟩
 | .c1 p=>⟨[⟨16,36,(en [(1,.ptr 0 0),(2,.ptr 1 0),(3,.sl aS p.b0),(4,vi p.b1)]),[.inLoop (cw Tryz.f16 [1,1,1,1,0,1,0,0]),.inBlock 0,.code (cw Tryz.f16 [1,1,1,1,1])],[],none⟩,⟨175,39,(en [(1,vi p.b2),(2,.sl yU p.b3),(3,.ptr 2 0),(6,.ptr 3 0)]),[.ops (ow Tryz.f175 [1,1,1,1,0]) ((ow Tryz.f175 [1,1,1,1,0]).toList.drop 1),.code (cw Tryz.f175 [1,1,1,1,1])],[],none⟩],[.flat false [vi p.b4,.own 4,.bZ true,vi p.b5,vi p.b6],.flat false [vi p.b7,.bZ true,.bZ true,vi p.b8,vi p.b9],.flat false [vi p.b10.1,.sl yU p.b10.2.1,.sl aS p.b10.2.2.1,vi p.b10.2.2.2.1,vi p.b10.2.2.2.2],.flat false [vi p.b11,.bZ true,.bZ true,vi p.b12,vi p.b13],.arr false yU p.o9,.dead]⟩
 | .c2 p c1 c14=>⟨[⟨16,36,(en [(1,.ptr 0 0),(2,.ptr 1 0),(3,.sl aS p.c0),(4,vi c1)]),[.inLoop (cw Tryz.f16 [1,1,1,1,0,1,0,0]),.inBlock 0,.code (cw Tryz.f16 [1,1,1,1,1])],[],none⟩,⟨175,39,(en [(1,vi p.c2),(2,.sl yU p.c3),(3,.ptr 2 0),(6,.ptr 3 0)]),[.ops (ow Tryz.f175 [1,1,1,1,0]) ((ow Tryz.f175 [1,1,1,1,0]).toList.drop 1),.code (cw Tryz.f175 [1,1,1,1,1])],[],none⟩],[.flat false [vi p.c4,.bZ true,.own 4,vi p.c5,vi p.c6],.flat false [vi p.c7,.bZ true,.bZ true,vi p.c8,vi p.c9],.flat false [vi p.c10.1,.sl yU p.c10.2.1,.sl aS p.c10.2.2.1,vi p.c10.2.2.2.1,vi p.c10.2.2.2.2],.flat false [vi p.c11,.bZ true,.bZ true,vi p.c12,vi p.c13],.arr false aS c14,.dead]⟩
 | .c3 p d1 kC=>⟨[⟨16,36,(en [(1,.ptr 0 0),(2,.ptr 1 0),(3,.sl aS p.d0),(4,vi d1)]),[.inLoop (cw Tryz.f16 [1,1,1,1,0,1,0,0]),.inBlock 0,.code (cw Tryz.f16 [1,1,1,1,1])],[],none⟩,⟨175,39,(en [(1,vi p.d2),(2,.sl yU p.d3),(3,.ptr 2 0),(6,.ptr 3 0)]),[.ops (ow Tryz.f175 [1,1,1,1,0]) ((ow Tryz.f175 [1,1,1,1,0]).toList.drop 1),.code (cw Tryz.f175 [1,1,1,1,1])],[],none⟩],[.flat false [vi p.d4,.own 4,.own 5,vi p.d5,vi p.d6],.flat false [vi p.d7,.bZ true,.bZ true,vi p.d8,vi p.d9],.flat false [vi p.kT.1,.sl yU p.kT.2.1,.sl aS p.kT.2.2.1,vi p.kT.2.2.2.1,vi p.kT.2.2.2.2],.flat false [vi p.l8,.bZ true,.bZ true,vi p.Yq,vi p.ZY],.arr false yU p.SL,.arr false aS kC,.dead]⟩
def M3(A:a_)(c:dw)(slot:Int)(data:List Int):LT (dw×Int) G8:=.need (A.k (@tt dw) c) (.br (A.c .neq (A.k Ar c) 0) (.ret ((0,([]:List Int),([]:List bG),0,0),(A.k Ar c))) (.br (A.c .lss slot 0) (.ret ((0,([]:List Int),([]:List bG),0,0),2)) (.br (A.c .geq slot (A.l c.2.2.1)) (.ret ((0,([]:List Int),([]:List bG),0,0),2)) (.br (A.c .gtr (A.l data) 8) (.ret ((0,([]:List Int),([]:List bG),0,0),3)) (.br (A.c .eql (A.l c.2.1) 0) (.more (.c0 ⟨c.2.2.1,0,slot,data,c.1,c.2.2.2.1,c.2.2.2.2,0,0,0,c,0,0,0⟩)) (.need (A.c .leq (A.l c.2.1) 140737488355328) (.more (.c1 ⟨c.2.2.1,0,slot,data,c.1,c.2.2.2.1,c.2.2.2.2,0,0,0,c,0,0,0,c.2.1⟩))))))))
def mF(A:a_):G8→LT (dw×Int) G8
 | .c0 p=>.br (A.c .lss p.a1 (A.l p.a0)) (.need (A.and (A.c .leq 0 p.a1) (A.c .lss p.a1 (A.l p.a0))) (.need (A.and (A.c .leq 0 p.a1) (A.c .lss p.a1 (A.l p.a0))) (.br (A.c .eql (A.l (A.n aS p.a0 p.a1:bG).1) 0) (.need (A.and (A.c .leq 0 p.a1) (A.c .lss p.a1 (A.l p.a0))) (.need (A.c .leq (A.l ([(([]:List Int),(A.n aS p.a0 p.a1:bG).2)]:List bG)) 4398046511104) (.more (.c2 ⟨p.a0,p.a2,p.a3,p.a4,p.a5,p.a6,p.a7,p.a8,p.a9,p.cd,p.dS,p.a12,p.jR⟩ (A.b .add .i64 p.a1 1) [(([]:List Int),(A.n aS p.a0 p.a1:bG).2)])))) (.need (A.c .leq (A.l (A.n aS p.a0 p.a1:bG).1) 140737488355328) (.need (A.and (A.c .leq 0 p.a1) (A.c .lss p.a1 (A.l p.a0))) (.need (A.c .leq (A.l ([(A.n aS p.a0 p.a1:bG)]:List bG)) 4398046511104) (.more (.c2 ⟨p.a0,p.a2,p.a3,p.a4,p.a5,p.a6,p.a7,p.a8,p.a9,p.cd,p.dS,p.a12,p.jR⟩ (A.b .add .i64 p.a1 1) [(A.n aS p.a0 p.a1:bG)])))))))) (.br (A.c .eql (A.l p.a3) 0) (.bad 37 "ref.go:106") (.need (A.c .leq (A.l p.a3) 140737488355328) (.bad 37 "ref.go:106")))
 | .c1 p=>.br (A.c .lss p.b1 (A.l p.b0)) (.need (A.and (A.c .leq 0 p.b1) (A.c .lss p.b1 (A.l p.b0))) (.need (A.and (A.c .leq 0 p.b1) (A.c .lss p.b1 (A.l p.b0))) (.br (A.c .eql (A.l (A.n aS p.b0 p.b1:bG).1) 0) (.need (A.and (A.c .leq 0 p.b1) (A.c .lss p.b1 (A.l p.b0))) (.need (A.c .leq (A.l ([(([]:List Int),(A.n aS p.b0 p.b1:bG).2)]:List bG)) 4398046511104) (.more (.c3 ⟨p.b0,p.b2,p.b3,p.b4,p.b5,p.b6,p.b7,p.b8,p.b9,p.b10,p.b11,p.b12,p.b13,p.o9⟩ (A.b .add .i64 p.b1 1) [(([]:List Int),(A.n aS p.b0 p.b1:bG).2)])))) (.need (A.c .leq (A.l (A.n aS p.b0 p.b1:bG).1) 140737488355328) (.need (A.and (A.c .leq 0 p.b1) (A.c .lss p.b1 (A.l p.b0))) (.need (A.c .leq (A.l ([(A.n aS p.b0 p.b1:bG)]:List bG)) 4398046511104) (.more (.c3 ⟨p.b0,p.b2,p.b3,p.b4,p.b5,p.b6,p.b7,p.b8,p.b9,p.b10,p.b11,p.b12,p.b13,p.o9⟩ (A.b .add .i64 p.b1 1) [(A.n aS p.b0 p.b1:bG)])))))))) (.br (A.c .eql (A.l p.b3) 0) (.bad 37 "ref.go:106") (.need (A.c .leq (A.l p.b3) 140737488355328) (.bad 37 "ref.go:106")))
 | .c2 p c1 c14=>.br (A.c .lss c1 (A.l p.c0)) (.need (A.and (A.c .leq 0 c1) (A.c .lss c1 (A.l p.c0))) (.need (A.and (A.c .leq 0 c1) (A.c .lss c1 (A.l p.c0))) (.br (A.c .eql (A.l (A.n aS p.c0 c1:bG).1) 0) (.need (A.and (A.c .leq 0 c1) (A.c .lss c1 (A.l p.c0))) (.need (A.c .leq (A.l (A.p c14 [(([]:List Int),(A.n aS p.c0 c1:bG).2)])) 4398046511104) (.more (.c2 p (A.b .add .i64 c1 1) (A.p c14 [(([]:List Int),(A.n aS p.c0 c1:bG).2)]))))) (.need (A.c .leq (A.l (A.n aS p.c0 c1:bG).1) 140737488355328) (.need (A.and (A.c .leq 0 c1) (A.c .lss c1 (A.l p.c0))) (.need (A.c .leq (A.l (A.p c14 [(A.n aS p.c0 c1:bG)])) 4398046511104) (.more (.c2 p (A.b .add .i64 c1 1) (A.p c14 [(A.n aS p.c0 c1:bG)]))))))))) (.br (A.c .eql (A.l p.c3) 0) (.need (A.and (A.c .leq 0 p.c2) (A.c .lss p.c2 (A.l c14))) (.ret ((p.c4,([]:List Int),(A.set c14 p.c2 (([]:List Int),0)),p.c5,p.c6),0))) (.need (A.c .leq (A.l p.c3) 140737488355328) (.need (A.and (A.c .leq 0 p.c2) (A.c .lss p.c2 (A.l c14))) (.ret ((p.c4,([]:List Int),(A.set c14 p.c2 (p.c3,0)),p.c5,p.c6),0)))))
 | .c3 p d1 kC=>.br (A.c .lss d1 (A.l p.d0)) (.need (A.and (A.c .leq 0 d1) (A.c .lss d1 (A.l p.d0))) (.need (A.and (A.c .leq 0 d1) (A.c .lss d1 (A.l p.d0))) (.br (A.c .eql (A.l (A.n aS p.d0 d1:bG).1) 0) (.need (A.and (A.c .leq 0 d1) (A.c .lss d1 (A.l p.d0))) (.need (A.c .leq (A.l (A.p kC [(([]:List Int),(A.n aS p.d0 d1:bG).2)])) 4398046511104) (.more (.c3 p (A.b .add .i64 d1 1) (A.p kC [(([]:List Int),(A.n aS p.d0 d1:bG).2)]))))) (.need (A.c .leq (A.l (A.n aS p.d0 d1:bG).1) 140737488355328) (.need (A.and (A.c .leq 0 d1) (A.c .lss d1 (A.l p.d0))) (.need (A.c .leq (A.l (A.p kC [(A.n aS p.d0 d1:bG)])) 4398046511104) (.more (.c3 p (A.b .add .i64 d1 1) (A.p kC [(A.n aS p.d0 d1:bG)]))))))))) (.br (A.c .eql (A.l p.d3) 0) (.need (A.and (A.c .leq 0 p.d2) (A.c .lss p.d2 (A.l kC))) (.ret ((p.d4,p.SL,(A.set kC p.d2 (([]:List Int),0)),p.d5,p.d6),0))) (.need (A.c .leq (A.l p.d3) 140737488355328) (.need (A.and (A.c .leq 0 p.d2) (A.c .lss p.d2 (A.l kC))) (.ret ((p.d4,p.SL,(A.set kC p.d2 (p.d3,0)),p.d5,p.d6),0)))))
theorem KX{l:List bG}{R:(dw×Int)}{p:HV}(hp:p.c0=l)(hl:l.length≤4398046511103)(hd:∀x∈l,x.1.length≤140737488355328)(hR:aF (mF aj) (.more (.c2 p (l.length:Int) l)) R):∀(j i:Nat),l.length-i=j→i≤l.length→aF (mF aj) (.more (.c2 p (i:Int) (l.take i))) R:=by
 intro j
 induction j with
 | zero=>
   intro i hj hi
   have:i=l.length:=by omega
   subst this
   rw[List.take_length];exact hR
 | succ j ih=>
   intro i hj hi
   have hi':i<l.length:=by omega
   have hm:=ih (i+1) (by omega) (by omega)
   rw[List.take_succ_eq_append_getElem hi'] at hm
   have hx:=hd _ (List.getElem_mem hi')
   have e:(aj.n aS l (i:Int):bG)=l[i]:=getD_in hi' _
   have hsz:∀x:bG,aj.c .leq (aj.l (aj.p (l.take i) [x])) 4398046511104=true:=fun x=>yq (by rw[List.length_take];omega)
   rw[al,mF]
   simp only[hp,e]
   refine(ai (by rw[eQ];simp;omega)).2 (af.2 ⟨aO hi',af.2 ⟨aO hi',aB (p:=(l[i].1.length:Int)=0) aZ (fun h=>?_) fun h=>af.2 ⟨iV hx,?_⟩⟩⟩)
   ·repeat (refine af.2 ⟨aO hi',?_⟩)
    refine af.2 ⟨hsz _,?_⟩
    rw[j5 h,cn (i:=i) (by omega)];exact hm
   ·repeat (refine af.2 ⟨aO hi',?_⟩)
    refine af.2 ⟨hsz _,?_⟩
    rw[cn (i:=i) (by omega)];exact hm
theorem Kg{l:List bG}{R:(dw×Int)}{p:Fw}(h0:p.a0=l)(h1:p.a1=0)(hne:0<l.length)(hl:l.length≤4398046511103)(hd:∀x∈l,x.1.length≤140737488355328)(hR:aF (mF aj) (.more (.c2 ⟨p.a0,p.a2,p.a3,p.a4,p.a5,p.a6,p.a7,p.a8,p.a9,p.cd,p.dS,p.a12,p.jR⟩ (l.length:Int) l)) R):aF (mF aj) (.more (.c0 p)) R:=by
 have hm:=KX (p:=⟨p.a0,p.a2,p.a3,p.a4,p.a5,p.a6,p.a7,p.a8,p.a9,p.cd,p.dS,p.a12,p.jR⟩) h0 hl hd hR (l.length-1) 1 rfl (by omega)
 rw[List.take_succ_eq_append_getElem hne,List.take_zero,List.nil_append] at hm
 have hx:=hd _ (List.getElem_mem hne)
 have e:(aj.n aS l 0:bG)=l[0]:=getD_in (i:=0) hne _
 have hix:aj.and (aj.c .leq 0 0) (aj.c .lss 0 (aj.l l))=true:=aO (i:=0) hne
 have hlt:aj.c .lss 0 (aj.l l)=true:=by have:=eQ (l:=l) (i:=0);rw[decide_eq_true hne] at this;exact this
 have hsz:∀x:bG,aj.c .leq (aj.l [x]) 4398046511104=true:=fun x=>rfl
 rw[al,mF]
 simp only[h0,h1,e]
 simp only[h0] at hm
 refine(ai hlt).2 (af.2 ⟨hix,af.2 ⟨hix,aB (p:=(l[0].1.length:Int)=0) aZ (fun h=>?_) fun h=>af.2 ⟨iV hx,?_⟩⟩⟩)
 ·repeat (refine af.2 ⟨hix,?_⟩)
  refine af.2 ⟨hsz _,?_⟩
  rw[j5 h];exact hm
 ·repeat (refine af.2 ⟨hix,?_⟩)
  exact af.2 ⟨hsz _,hm⟩
theorem JB{l:List bG}{R:(dw×Int)}{p:Ey}(hp:p.d0=l)(hl:l.length≤4398046511103)(hd:∀x∈l,x.1.length≤140737488355328)(hR:aF (mF aj) (.more (.c3 p (l.length:Int) l)) R):∀(j i:Nat),l.length-i=j→i≤l.length→aF (mF aj) (.more (.c3 p (i:Int) (l.take i))) R:=by
 intro j
 induction j with
 | zero=>
   intro i hj hi
   have:i=l.length:=by omega
   subst this
   rw[List.take_length];exact hR
 | succ j ih=>
   intro i hj hi
   have hi':i<l.length:=by omega
   have hm:=ih (i+1) (by omega) (by omega)
   rw[List.take_succ_eq_append_getElem hi'] at hm
   have hx:=hd _ (List.getElem_mem hi')
   have e:(aj.n aS l (i:Int):bG)=l[i]:=getD_in hi' _
   have hsz:∀x:bG,aj.c .leq (aj.l (aj.p (l.take i) [x])) 4398046511104=true:=fun x=>yq (by rw[List.length_take];omega)
   rw[al,mF]
   simp only[hp,e]
   refine(ai (by rw[eQ];simp;omega)).2 (af.2 ⟨aO hi',af.2 ⟨aO hi',aB (p:=(l[i].1.length:Int)=0) aZ (fun h=>?_) fun h=>af.2 ⟨iV hx,?_⟩⟩⟩)
   ·repeat (refine af.2 ⟨aO hi',?_⟩)
    refine af.2 ⟨hsz _,?_⟩
    rw[j5 h,cn (i:=i) (by omega)];exact hm
   ·repeat (refine af.2 ⟨aO hi',?_⟩)
    refine af.2 ⟨hsz _,?_⟩
    rw[cn (i:=i) (by omega)];exact hm
theorem Jz{l:List bG}{R:(dw×Int)}{p:H6}(h0:p.b0=l)(h1:p.b1=0)(hne:0<l.length)(hl:l.length≤4398046511103)(hd:∀x∈l,x.1.length≤140737488355328)(hR:aF (mF aj) (.more (.c3 ⟨p.b0,p.b2,p.b3,p.b4,p.b5,p.b6,p.b7,p.b8,p.b9,p.b10,p.b11,p.b12,p.b13,p.o9⟩ (l.length:Int) l)) R):aF (mF aj) (.more (.c1 p)) R:=by
 have hm:=JB (p:=⟨p.b0,p.b2,p.b3,p.b4,p.b5,p.b6,p.b7,p.b8,p.b9,p.b10,p.b11,p.b12,p.b13,p.o9⟩) h0 hl hd hR (l.length-1) 1 rfl (by omega)
 rw[List.take_succ_eq_append_getElem hne,List.take_zero,List.nil_append] at hm
 have hx:=hd _ (List.getElem_mem hne)
 have e:(aj.n aS l 0:bG)=l[0]:=getD_in (i:=0) hne _
 have hix:aj.and (aj.c .leq 0 0) (aj.c .lss 0 (aj.l l))=true:=aO (i:=0) hne
 have hlt:aj.c .lss 0 (aj.l l)=true:=by have:=eQ (l:=l) (i:=0);rw[decide_eq_true hne] at this;exact this
 have hsz:∀x:bG,aj.c .leq (aj.l [x]) 4398046511104=true:=fun x=>rfl
 rw[al,mF]
 simp only[h0,h1,e]
 simp only[h0] at hm
 refine(ai hlt).2 (af.2 ⟨hix,af.2 ⟨hix,aB (p:=(l[0].1.length:Int)=0) aZ (fun h=>?_) fun h=>af.2 ⟨iV hx,?_⟩⟩⟩)
 ·repeat (refine af.2 ⟨hix,?_⟩)
  refine af.2 ⟨hsz _,?_⟩
  rw[j5 h];exact hm
 ·repeat (refine af.2 ⟨hix,?_⟩)
  exact af.2 ⟨hsz _,hm⟩
theorem XD{c:dw}{slot:Int}{data:List Int}:aF (mF aj) (M3 aj c slot data) (oC c slot data):=by
 unfold M3 oC
 refine af.2 ⟨rfl,?_⟩
 rw[show aj.k Ar c=nY c from rfl,nY]
 cases hc:fv c
 ·exact(ai rfl).2 (.ret _)
 obtain⟨h1,h2,h3,h4⟩:=xZ hc
 obtain⟨id,out,l,life,want⟩:=c
 simp only[fL]
 refine(ah rfl).2 (aB (p:=slot<0) rfl (fun h=>?_) fun k1=>aB (p:=(l.length:Int)≤slot) rfl (fun h=>?_) fun k2=>aB (p:=8<(data.length:Int)) rfl (fun h=>?_) fun k3=>?_)
 ·rw[decide_eq_false (by omega)];exact .ret _
 ·rw[decide_eq_false (by omega)];exact .ret _
 ·rw[decide_eq_true (by omega),decide_eq_true h];exact .ret _
 rw[decide_eq_true (by omega),decide_eq_false k3]
 have h1:4≤l.length:=h1
 have h2:l.length≤8:=h2
 have h3:out.length≤8:=h3
 have q1:0<l.length:=by omega
 have q2:l.length≤4398046511103:=by omega
 have q3:out.length≤140737488355328:=by omega
 have hd:∀x∈l,x.1.length≤140737488355328:=fun x hx=>by have:=(h4 x hx).1;omega
 have q4:data.length≤140737488355328:=by omega
 have hix:aj.and (aj.c .leq 0 slot) (aj.c .lss slot (aj.l l))=true:=by rw[fL,ar,ao,aN];simp;omega
 have hend:∀t u:LT (dw×Int) G8,(data=[]→aF (mF aj) t ((id,out,l.set slot.toNat (data,0),life,want),0))→(aF (mF aj) u ((id,out,l.set slot.toNat (data,0),life,want),0))→aF (mF aj) (.br (aj.c .eql (aj.l data) 0) t u) ((id,out,l.set slot.toNat (data,0),life,want),0):=fun t u ht hu=>
  aB (p:=(data.length:Int)=0) aZ (fun h=>ht (List.eq_nil_of_length_eq_zero (by omega))) fun _=>hu
 refine aB (p:=(out.length:Int)=0) aZ (fun h=>?_) fun h=>af.2 ⟨iV q3,?_⟩
 ·have ho:out=[]:=List.eq_nil_of_length_eq_zero (by omega)
  subst ho
  refine Kg rfl rfl q1 q2 hd (al.2 ((ah (by rw[eQ];simp)).2 (hend _ _ (fun e=>?_) (af.2 ⟨iV q4,?_⟩))))
  ·subst e
   repeat (refine af.2 ⟨hix,?_⟩)
   exact .ret _
  ·repeat (refine af.2 ⟨hix,?_⟩)
   exact .ret _
 ·refine Jz rfl rfl q1 q2 hd (al.2 ((ah (by rw[eQ];simp)).2 (hend _ _ (fun e=>?_) (af.2 ⟨iV q4,?_⟩))))
  ·subst e
   repeat (refine af.2 ⟨hix,?_⟩)
   exact .ret _
  ·repeat (refine af.2 ⟨hix,?_⟩)
   exact .ret _
def Mm:(dw×Int×List Int)→(dw×Int):=TU
def Xd:aC:=⟨[lw,yI,yB], [lw,yI],(@tt (dw×Int×List Int)),Mm⟩
theorem Xr:Sd 175 Xd:=aK ap cm true 85 [⟨16,5, [[1,2,3,4], [1,2,3,6]]⟩] [] (fun A (c,slot,data)=>M3 A c slot data) mF Nl (fc Tryz.func175 (fc Tryz.func16 fz)) (sc LU sz) (fun A y=>match y with |.c0 p=>⟨44,by kernel_rfl,by kernel_rfl⟩|.c1 p=>⟨44,by kernel_rfl,by kernel_rfl⟩|.c2 p c1 c14=>⟨44,by kernel_rfl,by kernel_rfl⟩|.c3 p d1 kC=>⟨44,by kernel_rfl,by kernel_rfl⟩) fun(c,slot,data) hp h=>XD
open Go.Ev.Pl
inductive KR where
 | c0 (a0:Int) (a1:List bG)
noncomputable def N6:KR→fJ
 | .c0 a0 a1=>⟨[⟨146,48,(en [(7,.own 0),(8,vi a0)]),[.inLoop (cw Tryz.f146 [1,1,1,1,1,1,0,0,0]),.inBlock 0,.code (cw Tryz.f146 [1,1,1,1,1,1,1])],[],none⟩],[.arr false aS a1,.dead]⟩
def T5(A:a_)(x2:List bG)(count:Int):LT (List bG) KR:=.br (A.c .lss count 0) (.bad 117 "slices.go:516") (.br (A.c .gtr (A.b .add .u64 (A.b .add .u64 (A.b .mul .u64 (A.b .shr .u64 (A.v .u64 (A.l x2)) 32) (A.b .shr .u64 (A.v .u64 count) 32)) (A.b .shr .u64 (A.b .add .u64 (A.b .mul .u64 (A.b .shr .u64 (A.v .u64 (A.l x2)) 32) (A.b .and .u64 (A.v .u64 count) 4294967295)) (A.b .shr .u64 (A.b .mul .u64 (A.b .and .u64 (A.v .u64 (A.l x2)) 4294967295) (A.b .and .u64 (A.v .u64 count) 4294967295)) 32)) 32)) (A.b .shr .u64 (A.b .add .u64 (A.b .and .u64 (A.b .add .u64 (A.b .mul .u64 (A.b .shr .u64 (A.v .u64 (A.l x2)) 32) (A.b .and .u64 (A.v .u64 count) 4294967295)) (A.b .shr .u64 (A.b .mul .u64 (A.b .and .u64 (A.v .u64 (A.l x2)) 4294967295) (A.b .and .u64 (A.v .u64 count) 4294967295)) 32)) 4294967295) (A.b .mul .u64 (A.b .and .u64 (A.v .u64 (A.l x2)) 4294967295) (A.b .shr .u64 (A.v .u64 count) 32))) 32)) 0) (.bad 117 "slices.go:522") (.br (A.c .gtr (A.b .mul .u64 (A.v .u64 (A.l x2)) (A.v .u64 count)) 9223372036854775807) (.bad 117 "slices.go:522") (.need (A.and (A.c .eql (A.v .i64 (A.b .mul .u64 (A.v .u64 (A.l x2)) (A.v .u64 count))) (A.v .i64 (A.b .mul .u64 (A.v .u64 (A.l x2)) (A.v .u64 count)))) (A.and (A.c .leq 0 (A.v .i64 (A.b .mul .u64 (A.v .u64 (A.l x2)) (A.v .u64 count)))) (A.c .leq (A.v .i64 (A.b .mul .u64 (A.v .u64 (A.l x2)) (A.v .u64 count))) 4398046511104))) (.more (.c0 (A.mn (A.l x2) (A.l (A.r (A.v .i64 (A.b .mul .u64 (A.v .u64 (A.l x2)) (A.v .u64 count))) (Ty.iH aS:bG)))) (A.spl (A.r (A.v .i64 (A.b .mul .u64 (A.v .u64 (A.l x2)) (A.v .u64 count))) (Ty.iH aS:bG)) 0 (A.s x2 0 (A.mn (A.l x2) (A.l (A.r (A.v .i64 (A.b .mul .u64 (A.v .u64 (A.l x2)) (A.v .u64 count))) (Ty.iH aS:bG)))))))))))
def Xt(A:a_):KR→LT (List bG) KR
 | .c0 a0 a1=>.br (A.c .lss a0 (A.l a1)) (.need (A.and (A.c .leq 0 a0) (A.and (A.c .leq a0 (A.l a1)) (A.c .leq (A.l a1) (A.l a1)))) (.need (A.and (A.c .leq 0 0) (A.and (A.c .leq 0 a0) (A.c .leq a0 (A.l a1)))) (.more (.c0 (A.b .add .i64 a0 (A.mn (A.l (A.s a1 0 (A.b .add .i64 0 (A.b .sub .i64 a0 0)))) (A.b .sub .i64 (A.l a1) a0))) (A.spl a1 a0 (A.s (A.s a1 0 (A.b .add .i64 0 (A.b .sub .i64 a0 0))) 0 (A.mn (A.l (A.s a1 0 (A.b .add .i64 0 (A.b .sub .i64 a0 0)))) (A.b .sub .i64 (A.l a1) a0)))))))) (.ret a1)
def AR:bG:=(([]:List Int),255)
theorem ZO{l:List bG}{n:Int}(h:(decide (l=[(([]:List Int),255)])&&decide (4≤n)&&decide (n≤8))=true):aF (Xt aj) (T5 aj l n) (List.replicate n.toNat AR):=by
 simp only[Bool.and_eq_true,decide_eq_true_eq] at h
 obtain⟨⟨rfl,h1⟩,h2⟩:=h
 have hn:n=4∨n=5∨n=6∨n=7∨n=8:=by omega
 rcases hn with rfl|rfl|rfl|rfl|rfl <;>
  (refine(ah (by kernel_rfl)).2 ((ah (by kernel_rfl)).2 ((ah (by kernel_rfl)).2 (af.2 ⟨by kernel_rfl,?_⟩)))
   refine al.2 ((ai (by kernel_rfl)).2 (af.2 ⟨by kernel_rfl,af.2 ⟨by kernel_rfl,(al.2 ?_)⟩⟩))
   refine(ai (by kernel_rfl)).2 (af.2 ⟨by kernel_rfl,af.2 ⟨by kernel_rfl,(al.2 ?_)⟩⟩))
 ·exact(ah (by kernel_rfl)).2 (ax (by kernel_rfl) (.ret _))
 all_goals exact(ai (by kernel_rfl)).2 (af.2 ⟨by kernel_rfl,af.2 ⟨by kernel_rfl,(al.2 ((ah (by kernel_rfl)).2 (ax (by kernel_rfl) (.ret _))))⟩⟩)
def Ls:(List bG×Int)→(List bG):=fun(_,n)=>List.replicate n.toNat (([]:List Int),255)
def Bo:(List bG×Int)→Bool:=fun(l,n)=>decide (l=[(([]:List Int),255)])&&decide (4≤n)&&decide (n≤8)
def SH:aC:=⟨[(.slice aS),yI], [(.slice aS)],Bo,Ls⟩
theorem Wo:Sd 146 SH:=aK ap cm true 175 [⟨146,8, [[7,8]]⟩] [] (fun A (x2,count)=>T5 A x2 count) Xt N6 (fc Tryz.func146 (fc Tryz.func200 (fc Tryz.func229 fz))) sz (fun A y=>match y with |.c0 a0 a1=>⟨30,by kernel_rfl,by kernel_rfl⟩) fun((x2,count):List bG×Int) hp h=>ZO hp
def NF(A:a_)(id:Int)(n:Int):LT (dw×Int) Empty:=.need (A.k (@tt (Int×Int×Int)) (n,4,8)) (.br (A.not (A.k mg (n,4,8))) (.ret ((0,([]:List Int),([]:List bG),0,0),120)) (.need (A.k (@tt (Int×Int×Int)) (id,0,(A.b .sub .i64 n 1))) (.br (A.not (A.k mg (id,0,(A.b .sub .i64 n 1)))) (.ret ((0,([]:List Int),([]:List bG),0,0),120)) (.need (A.k Bo ([(([]:List Int),255)],n)) (.ret ((id,([]:List Int),(A.k Ls ([(([]:List Int),255)],n)),4,(-1)),0))))))
def EE(id n:Int):dw×Int:=bif decide (4≤n∧n≤8) then(bif decide (0≤id∧id≤n-1) then((id,([]:List Int),List.replicate n.toNat AR,4,(-1)),0) else(yW,120)) else(yW,120)
def Zn:Int×Int→dw×Int:=fun(id,n)=>EE id n
theorem IJ{id n:Int}:aF Empty.elim (NF aj id n) (EE id n):=by
 unfold NF EE
 rw[Co]
 refine af.2 ⟨rfl,eT (fun h=>?_) fun h1=>af.2 ⟨rfl,?_⟩⟩
 ·exact ax (by rw[decide_eq_false h];rfl) (.ret _)
 ·have e:aj.b .sub .i64 n 1=n-1:=by rw[aW,gg (by omega) (by omega)]
  rw[e]
  refine eT (fun h=>?_) fun h2=>af.2 ⟨?_,?_⟩
  ·exact ax (by rw[decide_eq_true h1,decide_eq_false h];rfl) (.ret _)
  ·rw[ak,Bo,decide_eq_true h1.1,decide_eq_true h1.2];rfl
  ·exact ax (by rw[decide_eq_true h1,decide_eq_true h2];rfl) (.ret _)
def CF:(Int×Int)→(dw×Int):=Zn
def Qk:aC:=⟨[yI,yI], [lw,yI],(@tt (Int×Int)),CF⟩
theorem T8:Sd 63 Qk:=aM ap cm true 38 [] (fun A (id,n)=>NF A id n) (fc Tryz.func63 fz) (sc IS (sc Wo sz)) fun(id,n) hp h=>IJ
open Go.Ev.Pl
def MV(A:a_)(c:dw)(data:List Int):LT (dw×Int) Empty:=.need (A.k (@tt dw) c) (.br (A.c .neq (A.k xh c).2 0) (.ret ((0,([]:List Int),([]:List bG),0,0),(A.k xh c).2)) (.br (A.c .gtr (A.l data) 8) (.ret ((0,([]:List Int),([]:List bG),0,0),3)) (.need (A.k (@tt (List Int)) data) (.ret (((A.k xh c).1.1,(A.k qh data),(A.k xh c).1.2.2),0)))))
def QB(c:dw)(d:List Int):dw×Int:=bif fv c then(bif decide (8<(d.length:Int)) then(yW,3) else((c.1,d,c.2.2),0)) else(yW,120)
def wrS:dw×List Int→dw×Int:=fun(c,d)=>QB c d
theorem wr1{c:dw}{d:List Int}:aF Empty.elim (MV aj c d) (QB c d):=by
 unfold MV QB
 refine af.2 ⟨rfl,?_⟩
 rw[show aj.k xh c=Ii c from rfl,Ii]
 cases fv c
 ·exact(ai rfl).2 (.ret _)
 ·refine(ah rfl).2 (aB (p:=8<(d.length:Int)) rfl (fun h=>?_) fun h=>af.2 ⟨rfl,?_⟩)
  ·exact ax (by rw[decide_eq_true h];rfl) (.ret _)
  ·exact ax (by rw[decide_eq_false h];rfl) (.ret _)
def B4:(dw×List Int)→(dw×Int):=wrS
def WC:aC:=⟨[lw,yB], [lw,yI],(@tt (dw×List Int)),B4⟩
theorem W6:Sd 79 WC:=aM ap cm true 55 [] (fun A (c,data)=>MV A c data) (fc Tryz.func79 fz) (sc Ha (sc U4 sz)) fun(c,data) hp h=>wr1
end Go.Ev.M
