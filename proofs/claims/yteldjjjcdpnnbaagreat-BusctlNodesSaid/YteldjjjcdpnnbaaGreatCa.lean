/-
  PROVED: what functions of the packages cni and metronomeref12 compute. Conditions: none.
-/
import Derived.Test.YteldjjjcdpnnbaaGreatHb
namespace Go.Ev.M
open Go.Proofs
set_option maxRecDepth 100000
set_option linter.unusedVariables false
set_option linter.unusedSimpArgs false
open Go.Ev.Pl
abbrev FH(b:Bool):Prop:=b=b
section
variable {R Y:Type} {step:Y→LT R Y} {t:LT R Y} {r:R}
end
theorem gi{b:Bool}{α:Type}{x y:α}(h:b=false):y=bif b then x else y:=by rw[h];rfl
theorem fN{p:Prop}[Decidable p]{b:Bool}(h:¬p):(decide p&&b)=false:=by rw[decide_eq_false h];rfl
theorem aS{p:Prop}[Decidable p]{b:Bool}(h:p):(decide p&&b)=b:=by rw[decide_eq_true h];rfl
theorem gU{α:Type}{l:List α}{i:Nat}:ai.c .lss (i:Int) (ai.l l)=decide (i<l.length):=aI
def Gj(A:bg)(n:Int)(least:Int)(most:Int):LT Bool Empty:=.br (A.c .geq n least) (.ret (A.c .leq n most)) (.ret false)
def kr:(Int×Int×Int)→Bool:=fun(n,least,most)=>(Gj ai n least most).val (Ty.da [.bool])
def RO:aB:=⟨[yI,yI,yI], [.bool],(@tt (Int×Int×Int)),kr⟩
theorem Ax:Sd 145 RO:=aJ ar cO true 22 [] (fun A (n,least,most)=>Gj A n least most) (fc Tryz.func145 fz) sz (fun((n,least,most):Int×Int×Int) hp h=>by
 show(Gj ai n least most).pre=true
 simp[Gj,LT.pre,ap,dI])
structure LY where
 (a0:List bu) (a1:Int) (a3:Bool)
inductive HV where
 | c0 (p:LY) (a2:Int)
noncomputable def Le:HV→fE
 | .c0 p a2=>⟨[⟨201,19,(en [(0,.sl bl p.a0),(1,.fn 149 [] []),(7,vi p.a1),(8,vi a2)]),[.inLoop (cw Tryz.f201 [1,0,1,0,0]),.inBlock 0,.code (cw Tryz.f201 [1,1])],[],none⟩,⟨150,9,.leaf,[.ops (ow Tryz.f150 [1,0]) ((ow Tryz.f150 [1,0]).toList.drop 2),.code .ret],[],none⟩,⟨67,43,(en [(37,vb p.a3)]),[.ops (ow Tryz.f67 [1,1,0,0]) ((ow Tryz.f67 [1,1,0,0]).toList.drop 37),.code (cw Tryz.f67 [1,1,0,1]),.code (cw Tryz.f67 [1,1,1])],[],none⟩],[.dead]⟩
def JN(A:bg)(c:bP):LT Int HV:=.need (A.k (@tt (Int×Int×Int)) ((A.l c.2.2.1),4,8)) (.br (A.not (A.k kr ((A.l c.2.2.1),4,8))) (.ret 120) (.need (A.k (@tt (Int×Int×Int)) (c.1,0,(A.b .sub .i64 (A.l c.2.2.1) 1))) (.br (A.not (A.k kr (c.1,0,(A.b .sub .i64 (A.l c.2.2.1) 1)))) (.ret 120) (.br (A.c .gtr (A.l c.2.1) 8) (.ret 120) (.need (A.k (@tt (Int×Int×Int)) (c.2.2.2.1,0,4)) (.br (A.not (A.k kr (c.2.2.2.1,0,4))) (.ret 120) (.need (A.k (@tt (Int×Int×Int)) (c.2.2.2.2,(-1),3)) (.br (A.not (A.k kr (c.2.2.2.2,(-1),3))) (.ret 120) (.more (.c0 ⟨c.2.2.1,(A.l c.2.2.1),false⟩ 0))))))))))
def D4(A:bg):HV→LT Int HV
 | .c0 p a2=>.br (A.c .lss a2 p.a1) (.need (A.and (A.c .leq 0 a2) (A.c .lss a2 (A.l p.a0))) (.br (A.c .gtr (A.l (A.n bl p.a0 a2:bu).1) 8) (.br p.a3 (.ret 120) (.br (A.c .geq a2 0) (.ret 120) (.ret 0))) (.need (A.k (@tt (Int×Int×Int)) ((A.n bl p.a0 a2:bu).2,0,255)) (.br (A.not (A.k kr ((A.n bl p.a0 a2:bu).2,0,255))) (.br p.a3 (.ret 120) (.br (A.c .geq a2 0) (.ret 120) (.ret 0))) (.more (.c0 p (A.b .add .i64 a2 1))))))) (.br p.a3 (.ret 120) (.ret 0))
theorem yg:kr=dh:=rfl
def yZ(m:bu):Bool:=decide (¬8<(m.1.length:Int))&&decide (0≤m.2∧m.2≤255)
def dK(c:bP):Bool:=decide (4≤(c.2.2.1.length:Int)∧(c.2.2.1.length:Int)≤8)&&(decide (0≤c.1∧c.1≤(c.2.2.1.length:Int)-1)&&(decide (¬8<(c.2.1.length:Int))&&(decide (0≤c.2.2.2.1∧c.2.2.2.1≤4)&&(decide (-1≤c.2.2.2.2∧c.2.2.2.2≤3)&&c.2.2.1.all yZ))))
def jK(c:bP):Int:=bif dK c then 0 else 120
theorem lN{c:bP}:jK c=0↔dK c=true:=by unfold jK;cases dK c<;>decide
theorem Tw{l:List bu}(hl:l.length≤140737488355328):∀(j i:Nat),l.length-i=j→i≤l.length→aC (D4 ai) (.more (.c0 ⟨l,(l.length:Int),false⟩ (i:Int))) (bif (l.drop i).all yZ then 0 else 120):=by
 intro j
 induction j with
 | zero=>
   intro i hj hi
   have:i=l.length:=by omega
   subst this
   rw[ak,D4]
   refine(ah (by rw[aI];simp)).2 ((ah rfl).2 ?_)
   rw[List.drop_length]
   exact .ret _
 | succ j ih=>
   intro i hj hi
   have hi':i<l.length:=by omega
   rw[ak,D4]
   refine(aj (by rw[aI];simp;omega)).2 (af.2 ⟨aL hi',?_⟩)
   rw[show(ai.n bl l (i:Int):bu)=l[i] from getD_in hi' _,List.drop_eq_getElem_cons hi',List.all_cons,yZ,yg]
   refine ax (p:=8<(l[i].1.length:Int)) rfl (fun h=>?_) fun h1=>af.2 ⟨rfl,dB (fun h=>?_) fun h2=>?_⟩
   ·rw[decide_eq_false (show ¬¬8<(l[i].1.length:Int) by omega)]
    exact(ah rfl).2 ((aj (by rw[aK];simp)).2 (.ret _))
   ·rw[decide_eq_false h,Bool.and_false]
    exact(ah rfl).2 ((aj (by rw[aK];simp)).2 (.ret _))
   ·rw[decide_eq_true h1,decide_eq_true h2,cK (i:=i) (by omega)]
    exact ih (i+1) (by omega) (by omega)
theorem wR{c:bP}(h:Ty.has gv c):c.2.1.length≤140737488355328∧c.2.2.1.length≤140737488355328∧∀x∈c.2.2.1,x.1.length≤140737488355328:=by
 obtain⟨_,h1,h2,_⟩:=h
 exact⟨h1.1,h2.1,fun x hx=>(h2.2 x hx).1.1⟩
theorem Vn{c:bP}(h:Ty.has gv c):aC (D4 ai) (JN ai c) (jK c):=by
 have hc:=(wR h).2.1
 unfold JN jK
 rw[yg]
 simp only[fy]
 have hs:ai.b .sub .i64 (c.2.2.1.length:Int) 1=(c.2.2.1.length:Int)-1:=by rw[bH,gh (by omega) (by omega)]
 rw[hs]
 refine af.2 ⟨rfl,dB (fun h=>?_) fun h1=>af.2 ⟨rfl,dB (fun h=>?_) fun h2=>ax (p:=8<(c.2.1.length:Int)) rfl (fun h=>?_) fun h3=>af.2 ⟨rfl,dB (fun h=>?_) fun h4=>af.2 ⟨rfl,dB (fun h=>?_) fun h5=>?_⟩⟩⟩⟩
 ·exact ao (gi (by rw[dK,fN h])) (.ret _)
 ·exact ao (gi (by rw[dK,aS h1,fN h])) (.ret _)
 ·exact ao (gi (by rw[dK,aS h1,aS h2,fN (fun k=>k h)])) (.ret _)
 ·exact ao (gi (by rw[dK,aS h1,aS h2,aS h3,fN h])) (.ret _)
 ·exact ao (gi (by rw[dK,aS h1,aS h2,aS h3,aS h4,fN h])) (.ret _)
 ·rw[dK,aS h1,aS h2,aS h3,aS h4,aS h5]
  exact Tw hc c.2.2.1.length 0 rfl (by omega)
def oE:bP→Int:=jK
def R9:aB:=⟨[gv], [yI],(@tt bP),oE⟩
theorem Cj:Sd 67 R9:=aH ar cO true 78 [⟨201,2, [[0,1,7,8], [], [37]]⟩] [] (fun A c=>JN A c) D4 Le (fc Tryz.func67 (fc Tryz.func149 (fc Tryz.func150 (fc Tryz.func201 fz)))) (sc Ax sz) (fun A y=>match y with |.c0 p a2=>⟨68,by kernel_rfl,by kernel_rfl⟩) fun c hp h=>Vn h
structure Ka where
 (a1:bP)
inductive GZ where
 | c0 (p:Ka) (a0:Int)
noncomputable def LA:GZ→fE
 | .c0 p a0=>⟨[⟨71,84,(en [(1,.ptr 0 0),(4,vi a0)]),[.inLoop (cw Tryz.f71 [1,1,1,0,1,0,0]),.inBlock 0,.code (cw Tryz.f71 [1,1,1,1])],[],none⟩],[.flat false [vi p.a1.1,.sl yU p.a1.2.1,.sl bl p.a1.2.2.1,vi p.a1.2.2.2.1,vi p.a1.2.2.2.2],.dead]⟩
def KC(A:bg)(c:bP):LT Int GZ:=.br (A.c .lss (A.l c.2.2.1) 4) (.ret 120) (.br (A.c .gtr (A.l c.2.2.1) 8) (.ret 120) (.br (A.c .lss c.1 0) (.ret 120) (.br (A.c .geq c.1 (A.l c.2.2.1)) (.ret 120) (.br (A.c .gtr (A.l c.2.1) 8) (.ret 120) (.br (A.c .lss c.2.2.2.1 0) (.ret 120) (.br (A.c .gtr c.2.2.2.1 4) (.ret 120) (.br (A.c .lss c.2.2.2.2 (-1)) (.ret 120) (.br (A.c .geq c.2.2.2.2 4) (.ret 120) (.more (.c0 ⟨c⟩ 0))))))))))
def EB(A:bg):GZ→LT Int GZ
 | .c0 p a0=>.br (A.c .lss a0 (A.l p.a1.2.2.1)) (.need (A.and (A.c .leq 0 a0) (A.c .lss a0 (A.l p.a1.2.2.1))) (.br (A.c .gtr (A.l (A.n bl p.a1.2.2.1 a0:bu).1) 8) (.ret 120) (.need (A.and (A.c .leq 0 a0) (A.c .lss a0 (A.l p.a1.2.2.1))) (.br (A.c .lss (A.n bl p.a1.2.2.1 a0:bu).2 0) (.ret 120) (.need (A.and (A.c .leq 0 a0) (A.c .lss a0 (A.l p.a1.2.2.1))) (.br (A.c .gtr (A.n bl p.a1.2.2.1 a0:bu).2 255) (.ret 120) (.more (.c0 p (A.b .add .i64 a0 1))))))))) (.ret 0)
theorem Mx{c:bP}(hl:c.2.2.1.length≤140737488355328):∀(j i:Nat),c.2.2.1.length-i=j→i≤c.2.2.1.length→aC (EB ai) (.more (.c0 ⟨c⟩ (i:Int))) (bif (c.2.2.1.drop i).all yZ then 0 else 120):=by
 intro j
 induction j with
 | zero=>
   intro i hj hi
   have:i=c.2.2.1.length:=by omega
   subst this
   rw[ak,EB]
   refine(ah (by rw[gU];simp)).2 ?_
   rw[List.drop_length]
   exact .ret _
 | succ j ih=>
   intro i hj hi
   have hi':i<c.2.2.1.length:=by omega
   rw[ak,EB]
   refine(aj (by rw[gU];simp;omega)).2 (af.2 ⟨aL hi',?_⟩)
   rw[show(ai.n bl c.2.2.1 (i:Int):bu)=c.2.2.1[i] from getD_in hi' _,List.drop_eq_getElem_cons hi',List.all_cons,yZ]
   refine ax (p:=8<(c.2.2.1[i].1.length:Int)) rfl (fun h=>?_) fun h1=>af.2 ⟨aL hi',ax (p:=c.2.2.1[i].2<0) rfl (fun h=>?_) fun h2=>af.2 ⟨aL hi',ax (p:=255<c.2.2.1[i].2) rfl (fun h=>?_) fun h3=>?_⟩⟩
   ·rw[fN (fun k=>k h)];exact .ret _
   ·rw[aS h1,decide_eq_false (by omega)];exact .ret _
   ·rw[aS h1,decide_eq_false (by omega)];exact .ret _
   ·rw[aS h1,decide_eq_true (by omega),cK (i:=i) (by omega)]
    exact ih (i+1) (by omega) (by omega)
theorem Oi{c:bP}(h:Ty.has gv c):aC (EB ai) (KC ai c) (jK c):=by
 have hc:=(wR h).2.1
 unfold KC jK
 simp only[fy]
 refine ax (p:=(c.2.2.1.length:Int)<4) rfl (fun h=>?_) fun h1=>ax (p:=8<(c.2.2.1.length:Int)) rfl (fun h=>?_) fun h2=>ax (p:=c.1<0) rfl (fun h=>?_) fun h3=>ax (p:=(c.2.2.1.length:Int)≤c.1) rfl (fun h=>?_) fun h4=>ax (p:=8<(c.2.1.length:Int)) rfl (fun h=>?_) fun h5=>ax (p:=c.2.2.2.1<0) rfl (fun h=>?_) fun h6=>ax (p:=4<c.2.2.2.1) rfl (fun h=>?_) fun h7=>ax (p:=c.2.2.2.2 < -1) rfl (fun h=>?_) fun h8=>ax (p:=4≤c.2.2.2.2) rfl (fun h=>?_) fun h9=>?_
 ·exact ao (gi (by rw[dK,fN (by omega)])) (.ret _)
 ·exact ao (gi (by rw[dK,fN (by omega)])) (.ret _)
 ·exact ao (gi (by rw[dK,aS (by omega),fN (by omega)])) (.ret _)
 ·exact ao (gi (by rw[dK,aS (by omega),fN (by omega)])) (.ret _)
 ·exact ao (gi (by rw[dK,aS (by omega),aS (by omega),fN (by omega)])) (.ret _)
 ·exact ao (gi (by rw[dK,aS (by omega),aS (by omega),aS (by omega),fN (by omega)])) (.ret _)
 ·exact ao (gi (by rw[dK,aS (by omega),aS (by omega),aS (by omega),fN (by omega)])) (.ret _)
 ·exact ao (gi (by rw[dK,aS (by omega),aS (by omega),aS (by omega),aS (by omega),fN (by omega)])) (.ret _)
 ·exact ao (gi (by rw[dK,aS (by omega),aS (by omega),aS (by omega),aS (by omega),fN (by omega)])) (.ret _)
 ·rw[dK,aS (by omega),aS (by omega),aS (by omega),aS (by omega),aS (by omega)]
  exact Mx hc c.2.2.1.length 0 rfl (by omega)
def kP:bP→Int:=jK
def O3:aB:=⟨[gv], [yI],(@tt bP),kP⟩
theorem z_:Sd 71 O3:=aH ar cO true 74 [⟨71,5, [[1,4]]⟩] [] (fun A c=>KC A c) EB LA (fc Tryz.func71 fz) sz (fun A y=>match y with |.c0 p a0=>⟨56,by kernel_rfl,by kernel_rfl⟩) fun c hp h=>Oi h
open Go.Ev.Pl
structure Ki where
 (a0:Int) (a2:bP) (a3 a4 a5:Int)
inductive C4 where
 | c0 (p:Ki) (a1:Int) (a6:List bu)
noncomputable def KG:C4→fE
 | .c0 p a1 a6=>⟨[⟨156,44,(en [(1,.ptr 0 0),(2,.ptr 1 0),(5,.own 2),(22,vi p.a0),(23,vi a1)]),[.inLoop (cw Tryz.f156 [1,1,1,1,0,1,0,0]),.inBlock 0,.code (cw Tryz.f156 [1,1,1,1,1])],[],none⟩],[.flat false [vi p.a2.1,.sl yU p.a2.2.1,.sl bl p.a2.2.2.1,vi p.a2.2.2.2.1,vi p.a2.2.2.2.2],.flat false [vi p.a3,.dz true,.dz true,vi p.a4,vi p.a5],.arr false bl a6,.dead]⟩
def Ju(A:bg)(c:bP):LT (bP×Int) C4:=.need (A.k (@tt bP) c) (.br (A.c .neq (A.k oE c) 0) (.ret ((0,([]:List Int),([]:List bu),0,0),(A.k oE c))) (.need (A.and (A.c .eql (A.l c.2.2.1) (A.l c.2.2.1)) (A.and (A.c .leq 0 (A.l c.2.2.1)) (A.c .leq (A.l c.2.2.1) 4398046511104))) (.more (.c0 ⟨(A.l (A.spl (A.r (A.l c.2.2.1) (Ty.iE bl:bu)) 0 (A.s c.2.2.1 0 (A.mn (A.l c.2.2.1) (A.l (A.r (A.l c.2.2.1) (Ty.iE bl:bu))))))),c,0,0,0⟩ 0 (A.spl (A.r (A.l c.2.2.1) (Ty.iE bl:bu)) 0 (A.s c.2.2.1 0 (A.mn (A.l c.2.2.1) (A.l (A.r (A.l c.2.2.1) (Ty.iE bl:bu))))))))))
def EX(A:bg):C4→LT (bP×Int) C4
 | .c0 p a1 a6=>.br (A.c .lss a1 p.a0) (.need (A.and (A.c .leq 0 a1) (A.c .lss a1 (A.l a6))) (.need (A.k (@tt (List Int)) (A.n bl a6 a1:bu).1) (.need (A.and (A.c .leq 0 a1) (A.c .lss a1 (A.l a6))) (.more (.c0 p (A.b .add .i64 a1 1) (A.set a6 a1 ((A.k nk (A.n bl a6 a1:bu).1),(A.n bl a6 a1:bu).2))))))) (.need (A.k (@tt (List Int)) p.a2.2.1) (.ret ((p.a2.1,(A.k nk p.a2.2.1),a6,p.a2.2.2.2),0)))
def tN:bP:=(0,([]:List Int),([]:List bu),0,0)
def wG(c:bP):bP×Int:=bif dK c then(c,0) else(tN,120)
theorem Tm{c:bP}{L z1 z2 z3:Int}{l:List bu}(hl:l.length≤140737488355328)(hL:L=(l.length:Int)):∀(j i:Nat),l.length-i=j→i≤l.length→aC (EX ai) (.more (.c0 ⟨L,c,z1,z2,z3⟩ (i:Int) l)) ((c.1,c.2.1,l,c.2.2.2),0):=by
 subst hL
 intro j
 induction j with
 | zero=>
   intro i hj hi
   have:i=l.length:=by omega
   subst this
   rw[ak,EX]
   exact(ah (by rw[aI];simp)).2 (af.2 ⟨rfl,.ret _⟩)
 | succ j ih=>
   intro i hj hi
   have hi':i<l.length:=by omega
   rw[ak,EX]
   refine(aj (by rw[aI];simp;omega)).2 (af.2 ⟨aL hi',af.2 ⟨rfl,af.2 ⟨aL hi',?_⟩⟩⟩)
   have e:(ai.n bl l (i:Int):bu)=l[i]:=getD_in hi' _
   have e2:ai.set l (i:Int) ((ai.k nk (ai.n bl l (i:Int):bu).1),(ai.n bl l (i:Int):bu).2)=l:=by
    rw[e]
    show l.set (i:Int).toNat l[i]=l
    rw[Int.toNat_natCast];exact List.set_getElem_self _
   rw[e2,cK (i:=i) (by omega)]
   exact ih (i+1) (by omega) (by omega)
theorem Ad{α:Type}{l:List α}{d:α}:ai.spl (ai.r (ai.l l) d) 0 (ai.s l 0 (ai.mn (ai.l l) (ai.l (ai.r (ai.l l) d))))=l:=by
 simp[oA,l9,kR,y5,fy]
theorem Sx{c:bP}:aC (EX ai) (Ju ai c) (wG c):=by
 unfold Ju wG
 refine af.2 ⟨rfl,?_⟩
 rw[show ai.k oE c=jK c from rfl,jK]
 cases hc:dK c
 ·exact(aj rfl).2 (.ret _)
 ·refine(ah rfl).2 ?_
  simp only[dK,Bool.and_eq_true,decide_eq_true_eq] at hc
  have h1:ai.and (ai.c .eql (ai.l c.2.2.1) (ai.l c.2.2.1)) (ai.and (ai.c .leq 0 (ai.l c.2.2.1)) (ai.c .leq (ai.l c.2.2.1) 4398046511104))=true:=by
   rw[fy,aR,aF,aF,aQ,aQ];simp;omega
  refine af.2 ⟨h1,?_⟩
  exact aZ (congrArg (fun z:List bu=>LT.more (C4.c0 ⟨ai.l z,c,0,0,0⟩ 0 z)) Ad) (Tm (by omega) rfl c.2.2.1.length 0 rfl (by omega))
def fJ:bP→(bP×Int):=wG
def Ou:aB:=⟨[gv], [gv,yI],(@tt bP),fJ⟩
theorem Ff:Sd 156 Ou:=aH ar cO true 50 [⟨156,7, [[1,2,5,22,23]]⟩] [] (fun A c=>Ju A c) EX KG (fc Tryz.func156 fz) (sc E3 (sc Cj sz)) (fun A y=>match y with |.c0 p a1 a6=>⟨38,by kernel_rfl,by kernel_rfl⟩) fun c hp h=>Sx
theorem aT{a b:Int}:ai.c .eql a b=decide (a=b):=by rw[aR,Bool.eq_iff_iff];simp
theorem Fx{l:List bu}{x:bu}(h:l.length≤4398046511103):ai.c .leq (ai.l (ai.p l [x])) 4398046511104=true:=by
 rw[fy,aF,j5,List.length_append];exact decide_eq_true (by simp;omega)
theorem pn{l:List Int}(h:l.length≤140737488355328):ai.c .leq (ai.l l) 140737488355328=true:=by
 rw[fy,aF];exact decide_eq_true (by omega)
theorem rG{m:bu}(h:(m.1.length:Int)=0):(([]:List Int),m.2)=m:=Prod.ext (List.eq_nil_of_length_eq_zero (by omega)).symm rfl
open Go.Ev.Pl
def vg(c:bP):Bool:=decide (c.2.1.length≤140737488355328)&&(decide (c.2.2.1.length≤4398046511103)&&c.2.2.1.all fun m=>decide (m.1.length≤140737488355328))
theorem o6{c:bP}:vg c=true↔c.2.1.length≤140737488355328∧c.2.2.1.length≤4398046511103∧∀x∈c.2.2.1,x.1.length≤140737488355328:=by
 simp[vg,List.all_eq_true]
theorem rF{c:bP}(h:dK c=true):vg c=true:=by
 simp only[dK,Bool.and_eq_true,decide_eq_true_eq,List.all_eq_true,yZ] at h
 exact o6.2 ⟨by omega,by omega,fun x hx=>by have:=(h.2.2.2.2.2 x hx).1;omega⟩
structure E0 where
 (a0:List bu) (a1 a2 a3 a4 a5 a6 a7:Int)
structure Ch where
 (b0:List bu) (b1 b2 b3 b4 b5 b6 b7:Int) (b8:List Int)
structure Ft where
 (c0:List bu) (c2 c3 c4 c5 c6 c7:Int)
structure Ew where
 (d0:List bu) (d2 d3 d4 d5 d6 d7:Int) (d8:List Int)
inductive FX where
 | c0 (p:E0)
 | c1 (p:Ch)
 | c2 (p:Ft) (c1:Int) (c8:List bu)
 | c3 (p:Ew) (d1:Int) (d9:List bu)
noncomputable def Jc:FX→fE
 | .c0 p=>⟨[⟨16,36,(en [(1,.ptr 0 0),(2,.ptr 1 0),(3,.sl bl p.a0),(4,vi p.a1)]),[.inLoop (cw Tryz.f16 [1,1,1,1,0,1,0,0]),.inBlock 0,.code (cw Tryz.f16 [1,1,1,1,1])],[],none⟩],[.flat false [vi p.a2,.dz true,.dz true,vi p.a3,vi p.a4],.flat false [vi p.a5,.dz true,.dz true,vi p.a6,vi p.a7],.dead]⟩
 | .c1 p=>⟨[⟨16,36,(en [(1,.ptr 0 0),(2,.ptr 1 0),(3,.sl bl p.b0),(4,vi p.b1)]),[.inLoop (cw Tryz.f16 [1,1,1,1,0,1,0,0]),.inBlock 0,.code (cw Tryz.f16 [1,1,1,1,1])],[],none⟩],[.flat false [vi p.b2,.own 2,.dz true,vi p.b3,vi p.b4],.flat false [vi p.b5,.dz true,.dz true,vi p.b6,vi p.b7],.arr false yU p.b8,.dead]⟩
 | .c2 p c1 c8=>⟨[⟨16,36,(en [(1,.ptr 0 0),(2,.ptr 1 0),(3,.sl bl p.c0),(4,vi c1)]),[.inLoop (cw Tryz.f16 [1,1,1,1,0,1,0,0]),.inBlock 0,.code (cw Tryz.f16 [1,1,1,1,1])],[],none⟩],[.flat false [vi p.c2,.dz true,.own 2,vi p.c3,vi p.c4],.flat false [vi p.c5,.dz true,.dz true,vi p.c6,vi p.c7],.arr false bl c8,.dead]⟩
 | .c3 p d1 d9=>⟨[⟨16,36,(en [(1,.ptr 0 0),(2,.ptr 1 0),(3,.sl bl p.d0),(4,vi d1)]),[.inLoop (cw Tryz.f16 [1,1,1,1,0,1,0,0]),.inBlock 0,.code (cw Tryz.f16 [1,1,1,1,1])],[],none⟩],[.flat false [vi p.d2,.own 2,.own 3,vi p.d3,vi p.d4],.flat false [vi p.d5,.dz true,.dz true,vi p.d6,vi p.d7],.arr false yU p.d8,.arr false bl d9,.dead]⟩
def F1(A:bg)(c:bP):LT bP FX:=.br (A.c .eql (A.l c.2.1) 0) (.more (.c0 ⟨c.2.2.1,0,c.1,c.2.2.2.1,c.2.2.2.2,0,0,0⟩)) (.need (A.c .leq (A.l c.2.1) 140737488355328) (.more (.c1 ⟨c.2.2.1,0,c.1,c.2.2.2.1,c.2.2.2.2,0,0,0,c.2.1⟩)))
def mY(A:bg):FX→LT bP FX
 | .c0 p=>.br (A.c .lss p.a1 (A.l p.a0)) (.need (A.and (A.c .leq 0 p.a1) (A.c .lss p.a1 (A.l p.a0))) (.need (A.and (A.c .leq 0 p.a1) (A.c .lss p.a1 (A.l p.a0))) (.br (A.c .eql (A.l (A.n bl p.a0 p.a1:bu).1) 0) (.need (A.and (A.c .leq 0 p.a1) (A.c .lss p.a1 (A.l p.a0))) (.need (A.c .leq (A.l ([(([]:List Int),(A.n bl p.a0 p.a1:bu).2)]:List bu)) 4398046511104) (.more (.c2 ⟨p.a0,p.a2,p.a3,p.a4,p.a5,p.a6,p.a7⟩ (A.b .add .i64 p.a1 1) [(([]:List Int),(A.n bl p.a0 p.a1:bu).2)])))) (.need (A.c .leq (A.l (A.n bl p.a0 p.a1:bu).1) 140737488355328) (.need (A.and (A.c .leq 0 p.a1) (A.c .lss p.a1 (A.l p.a0))) (.need (A.c .leq (A.l ([(A.n bl p.a0 p.a1:bu)]:List bu)) 4398046511104) (.more (.c2 ⟨p.a0,p.a2,p.a3,p.a4,p.a5,p.a6,p.a7⟩ (A.b .add .i64 p.a1 1) [(A.n bl p.a0 p.a1:bu)])))))))) (.ret (p.a2,([]:List Int),([]:List bu),p.a3,p.a4))
 | .c1 p=>.br (A.c .lss p.b1 (A.l p.b0)) (.need (A.and (A.c .leq 0 p.b1) (A.c .lss p.b1 (A.l p.b0))) (.need (A.and (A.c .leq 0 p.b1) (A.c .lss p.b1 (A.l p.b0))) (.br (A.c .eql (A.l (A.n bl p.b0 p.b1:bu).1) 0) (.need (A.and (A.c .leq 0 p.b1) (A.c .lss p.b1 (A.l p.b0))) (.need (A.c .leq (A.l ([(([]:List Int),(A.n bl p.b0 p.b1:bu).2)]:List bu)) 4398046511104) (.more (.c3 ⟨p.b0,p.b2,p.b3,p.b4,p.b5,p.b6,p.b7,p.b8⟩ (A.b .add .i64 p.b1 1) [(([]:List Int),(A.n bl p.b0 p.b1:bu).2)])))) (.need (A.c .leq (A.l (A.n bl p.b0 p.b1:bu).1) 140737488355328) (.need (A.and (A.c .leq 0 p.b1) (A.c .lss p.b1 (A.l p.b0))) (.need (A.c .leq (A.l ([(A.n bl p.b0 p.b1:bu)]:List bu)) 4398046511104) (.more (.c3 ⟨p.b0,p.b2,p.b3,p.b4,p.b5,p.b6,p.b7,p.b8⟩ (A.b .add .i64 p.b1 1) [(A.n bl p.b0 p.b1:bu)])))))))) (.ret (p.b2,p.b8,([]:List bu),p.b3,p.b4))
 | .c2 p c1 c8=>.br (A.c .lss c1 (A.l p.c0)) (.need (A.and (A.c .leq 0 c1) (A.c .lss c1 (A.l p.c0))) (.need (A.and (A.c .leq 0 c1) (A.c .lss c1 (A.l p.c0))) (.br (A.c .eql (A.l (A.n bl p.c0 c1:bu).1) 0) (.need (A.and (A.c .leq 0 c1) (A.c .lss c1 (A.l p.c0))) (.need (A.c .leq (A.l (A.p c8 [(([]:List Int),(A.n bl p.c0 c1:bu).2)])) 4398046511104) (.more (.c2 p (A.b .add .i64 c1 1) (A.p c8 [(([]:List Int),(A.n bl p.c0 c1:bu).2)]))))) (.need (A.c .leq (A.l (A.n bl p.c0 c1:bu).1) 140737488355328) (.need (A.and (A.c .leq 0 c1) (A.c .lss c1 (A.l p.c0))) (.need (A.c .leq (A.l (A.p c8 [(A.n bl p.c0 c1:bu)])) 4398046511104) (.more (.c2 p (A.b .add .i64 c1 1) (A.p c8 [(A.n bl p.c0 c1:bu)]))))))))) (.ret (p.c2,([]:List Int),c8,p.c3,p.c4))
 | .c3 p d1 d9=>.br (A.c .lss d1 (A.l p.d0)) (.need (A.and (A.c .leq 0 d1) (A.c .lss d1 (A.l p.d0))) (.need (A.and (A.c .leq 0 d1) (A.c .lss d1 (A.l p.d0))) (.br (A.c .eql (A.l (A.n bl p.d0 d1:bu).1) 0) (.need (A.and (A.c .leq 0 d1) (A.c .lss d1 (A.l p.d0))) (.need (A.c .leq (A.l (A.p d9 [(([]:List Int),(A.n bl p.d0 d1:bu).2)])) 4398046511104) (.more (.c3 p (A.b .add .i64 d1 1) (A.p d9 [(([]:List Int),(A.n bl p.d0 d1:bu).2)]))))) (.need (A.c .leq (A.l (A.n bl p.d0 d1:bu).1) 140737488355328) (.need (A.and (A.c .leq 0 d1) (A.c .lss d1 (A.l p.d0))) (.need (A.c .leq (A.l (A.p d9 [(A.n bl p.d0 d1:bu)])) 4398046511104) (.more (.c3 p (A.b .add .i64 d1 1) (A.p d9 [(A.n bl p.d0 d1:bu)]))))))))) (.ret (p.d2,p.d8,d9,p.d3,p.d4))
theorem Gt{l:List bu}{R:bP}{p:Ft}(hp:p.c0=l)(hl:l.length≤4398046511103)(hd:∀x∈l,x.1.length≤140737488355328)(hR:aC (mY ai) (.more (.c2 p (l.length:Int) l)) R):∀(j i:Nat),l.length-i=j→i≤l.length→aC (mY ai) (.more (.c2 p (i:Int) (l.take i))) R:=by
 intro j
 induction j with
 | zero=>
   intro i hj hi
   have:i=l.length:=by omega
   subst this
   rw[List.take_length];exact hR
 | succ j ih=>
   intro i hj hi
   have hi':i<l.length:=by omega
   have hm:=ih (i+1) (by omega) (by omega)
   rw[List.take_succ_eq_append_getElem hi'] at hm
   have hx:=hd _ (List.getElem_mem hi')
   have e:(ai.n bl l (i:Int):bu)=l[i]:=getD_in hi' _
   have hsz:∀x:bu,ai.c .leq (ai.l (ai.p (l.take i) [x])) 4398046511104=true:=fun x=>Fx (by rw[List.length_take];omega)
   rw[ak,mY]
   simp only[hp,e]
   refine(aj (by rw[gU];simp;omega)).2 (af.2 ⟨aL hi',af.2 ⟨aL hi',ax (p:=(l[i].1.length:Int)=0) aT (fun h=>?_) fun h=>af.2 ⟨pn hx,?_⟩⟩⟩)
   ·repeat (refine af.2 ⟨aL hi',?_⟩)
    refine af.2 ⟨hsz _,?_⟩
    rw[rG h,cK (i:=i) (by omega)];exact hm
   ·repeat (refine af.2 ⟨aL hi',?_⟩)
    refine af.2 ⟨hsz _,?_⟩
    rw[cK (i:=i) (by omega)];exact hm
theorem GI{l:List bu}{R:bP}{p:E0}(h0:p.a0=l)(h1:p.a1=0)(hne:0<l.length)(hl:l.length≤4398046511103)(hd:∀x∈l,x.1.length≤140737488355328)(hR:aC (mY ai) (.more (.c2 ⟨p.a0,p.a2,p.a3,p.a4,p.a5,p.a6,p.a7⟩ (l.length:Int) l)) R):aC (mY ai) (.more (.c0 p)) R:=by
 have hm:=Gt (p:=⟨p.a0,p.a2,p.a3,p.a4,p.a5,p.a6,p.a7⟩) h0 hl hd hR (l.length-1) 1 rfl (by omega)
 rw[List.take_succ_eq_append_getElem hne,List.take_zero,List.nil_append] at hm
 have hx:=hd _ (List.getElem_mem hne)
 have e:(ai.n bl l 0:bu)=l[0]:=getD_in (i:=0) hne _
 have hix:ai.and (ai.c .leq 0 0) (ai.c .lss 0 (ai.l l))=true:=aL (i:=0) hne
 have hlt:ai.c .lss 0 (ai.l l)=true:=by have:=gU (l:=l) (i:=0);rw[decide_eq_true hne] at this;exact this
 have hsz:∀x:bu,ai.c .leq (ai.l [x]) 4398046511104=true:=fun x=>rfl
 rw[ak,mY]
 simp only[h0,h1,e]
 simp only[h0] at hm
 refine(aj hlt).2 (af.2 ⟨hix,af.2 ⟨hix,ax (p:=(l[0].1.length:Int)=0) aT (fun h=>?_) fun h=>af.2 ⟨pn hx,?_⟩⟩⟩)
 ·repeat (refine af.2 ⟨hix,?_⟩)
  refine af.2 ⟨hsz _,?_⟩
  rw[rG h];exact hm
 ·repeat (refine af.2 ⟨hix,?_⟩)
  exact af.2 ⟨hsz _,hm⟩
theorem Gk{l:List bu}{R:bP}{p:Ew}(hp:p.d0=l)(hl:l.length≤4398046511103)(hd:∀x∈l,x.1.length≤140737488355328)(hR:aC (mY ai) (.more (.c3 p (l.length:Int) l)) R):∀(j i:Nat),l.length-i=j→i≤l.length→aC (mY ai) (.more (.c3 p (i:Int) (l.take i))) R:=by
 intro j
 induction j with
 | zero=>
   intro i hj hi
   have:i=l.length:=by omega
   subst this
   rw[List.take_length];exact hR
 | succ j ih=>
   intro i hj hi
   have hi':i<l.length:=by omega
   have hm:=ih (i+1) (by omega) (by omega)
   rw[List.take_succ_eq_append_getElem hi'] at hm
   have hx:=hd _ (List.getElem_mem hi')
   have e:(ai.n bl l (i:Int):bu)=l[i]:=getD_in hi' _
   have hsz:∀x:bu,ai.c .leq (ai.l (ai.p (l.take i) [x])) 4398046511104=true:=fun x=>Fx (by rw[List.length_take];omega)
   rw[ak,mY]
   simp only[hp,e]
   refine(aj (by rw[gU];simp;omega)).2 (af.2 ⟨aL hi',af.2 ⟨aL hi',ax (p:=(l[i].1.length:Int)=0) aT (fun h=>?_) fun h=>af.2 ⟨pn hx,?_⟩⟩⟩)
   ·repeat (refine af.2 ⟨aL hi',?_⟩)
    refine af.2 ⟨hsz _,?_⟩
    rw[rG h,cK (i:=i) (by omega)];exact hm
   ·repeat (refine af.2 ⟨aL hi',?_⟩)
    refine af.2 ⟨hsz _,?_⟩
    rw[cK (i:=i) (by omega)];exact hm
theorem G2{l:List bu}{R:bP}{p:Ch}(h0:p.b0=l)(h1:p.b1=0)(hne:0<l.length)(hl:l.length≤4398046511103)(hd:∀x∈l,x.1.length≤140737488355328)(hR:aC (mY ai) (.more (.c3 ⟨p.b0,p.b2,p.b3,p.b4,p.b5,p.b6,p.b7,p.b8⟩ (l.length:Int) l)) R):aC (mY ai) (.more (.c1 p)) R:=by
 have hm:=Gk (p:=⟨p.b0,p.b2,p.b3,p.b4,p.b5,p.b6,p.b7,p.b8⟩) h0 hl hd hR (l.length-1) 1 rfl (by omega)
 rw[List.take_succ_eq_append_getElem hne,List.take_zero,List.nil_append] at hm
 have hx:=hd _ (List.getElem_mem hne)
 have e:(ai.n bl l 0:bu)=l[0]:=getD_in (i:=0) hne _
 have hix:ai.and (ai.c .leq 0 0) (ai.c .lss 0 (ai.l l))=true:=aL (i:=0) hne
 have hlt:ai.c .lss 0 (ai.l l)=true:=by have:=gU (l:=l) (i:=0);rw[decide_eq_true hne] at this;exact this
 have hsz:∀x:bu,ai.c .leq (ai.l [x]) 4398046511104=true:=fun x=>rfl
 rw[ak,mY]
 simp only[h0,h1,e]
 simp only[h0] at hm
 refine(aj hlt).2 (af.2 ⟨hix,af.2 ⟨hix,ax (p:=(l[0].1.length:Int)=0) aT (fun h=>?_) fun h=>af.2 ⟨pn hx,?_⟩⟩⟩)
 ·repeat (refine af.2 ⟨hix,?_⟩)
  refine af.2 ⟨hsz _,?_⟩
  rw[rG h];exact hm
 ·repeat (refine af.2 ⟨hix,?_⟩)
  exact af.2 ⟨hsz _,hm⟩
theorem KJ{c:bP}(hp:vg c=true):aC (mY ai) (F1 ai c) c:=by
 obtain⟨h1,h2,h3⟩:=o6.1 hp
 obtain⟨id,out,l,life,want⟩:=c
 unfold F1
 refine ax (p:=(out.length:Int)=0) aT (fun h=>?_) fun h=>af.2 ⟨pn h1,?_⟩
 ·have ho:out=[]:=List.eq_nil_of_length_eq_zero (by omega)
  subst ho
  cases l with
  | nil=>exact ak.2 ((ah rfl).2 (.ret _))
  | cons x l=>exact GI rfl rfl (Nat.succ_pos _) h2 h3 (ak.2 ((ah (by rw[gU];simp)).2 (.ret _)))
 ·cases l with
  | nil=>exact ak.2 ((ah rfl).2 (.ret _))
  | cons x l=>exact G2 rfl rfl (Nat.succ_pos _) h2 h3 (ak.2 ((ah (by rw[gU];simp)).2 (.ret _)))
def gy:bP→bP:=fun c=>c
def lb:bP→Bool:=fun c=>vg c
def P0:aB:=⟨[gv], [gv],lb,gy⟩
theorem xI:Sd 16 P0:=aH ar cO true 37 [⟨16,5, [[1,2,3,4]]⟩] [] (fun A c=>F1 A c) mY Jc (fc Tryz.func16 fz) sz (fun A y=>match y with |.c0 p=>⟨44,by kernel_rfl,by kernel_rfl⟩|.c1 p=>⟨44,by kernel_rfl,by kernel_rfl⟩|.c2 p c1 c8=>⟨44,by kernel_rfl,by kernel_rfl⟩|.c3 p d1 d9=>⟨44,by kernel_rfl,by kernel_rfl⟩) fun(c:bP) hp h=>by
 show aC (mY ai) (F1 ai c) (gy c)
 exact KJ (by simpa [lb] using hp)
open Go.Ev.Pl
structure LF where
 (a0 a2:Int) (a3:List Int) (a4:bP) (a5 a6 a7:Int) (a9:bP) (cf dR a12:Int)
inductive DC where
 | c0 (p:LF) (a1:Int) (a8:List bu)
noncomputable def I8:DC→fE
 | .c0 p a1 a8=>⟨[⟨156,44,(en [(1,.ptr 0 0),(2,.ptr 1 0),(5,.own 2),(22,vi p.a0),(23,vi a1)]),[.inLoop (cw Tryz.f156 [1,1,1,1,0,1,0,0]),.inBlock 0,.code (cw Tryz.f156 [1,1,1,1,1])],[],none⟩,⟨166,42,(en [(1,vi p.a2),(2,.sl yU p.a3),(3,.ptr 3 0),(6,.ptr 4 0)]),[.ops (ow Tryz.f166 [1,0]) ((ow Tryz.f166 [1,0]).toList.drop 1),.code (cw Tryz.f166 [1,1])],[],none⟩],[.flat false [vi p.a4.1,.sl yU p.a4.2.1,.sl bl p.a4.2.2.1,vi p.a4.2.2.2.1,vi p.a4.2.2.2.2],.flat false [vi p.a5,.dz true,.dz true,vi p.a6,vi p.a7],.arr false bl a8,.flat false [vi p.a9.1,.sl yU p.a9.2.1,.sl bl p.a9.2.2.1,vi p.a9.2.2.2.1,vi p.a9.2.2.2.2],.flat false [vi p.cf,.dz true,.dz true,vi p.dR,vi p.a12],.dead]⟩
def Kq(A:bg)(c:bP)(slot:Int)(data:List Int):LT (bP×Int) DC:=.need (A.k (@tt bP) c) (.br (A.c .neq (A.k oE c) 0) (.br (A.c .neq (A.k oE c) 0) (.ret ((0,([]:List Int),([]:List bu),0,0),(A.k oE c))) (.need (A.k (@tt (Int×Int×Int)) (slot,0,(A.b .sub .i64 (A.l c.2.2.1) 1))) (.br (A.not (A.k kr (slot,0,(A.b .sub .i64 (A.l c.2.2.1) 1)))) (.ret ((0,([]:List Int),([]:List bu),0,0),2)) (.br (A.c .gtr (A.l data) 8) (.ret ((0,([]:List Int),([]:List bu),0,0),3)) (.need (A.k (@tt (List Int)) data) (.bad 37 "cni.go:107")))))) (.need (A.and (A.c .eql (A.l c.2.2.1) (A.l c.2.2.1)) (A.and (A.c .leq 0 (A.l c.2.2.1)) (A.c .leq (A.l c.2.2.1) 4398046511104))) (.more (.c0 ⟨(A.l (A.spl (A.r (A.l c.2.2.1) (Ty.iE bl:bu)) 0 (A.s c.2.2.1 0 (A.mn (A.l c.2.2.1) (A.l (A.r (A.l c.2.2.1) (Ty.iE bl:bu))))))),slot,data,c,0,0,0,c,0,0,0⟩ 0 (A.spl (A.r (A.l c.2.2.1) (Ty.iE bl:bu)) 0 (A.s c.2.2.1 0 (A.mn (A.l c.2.2.1) (A.l (A.r (A.l c.2.2.1) (Ty.iE bl:bu))))))))))
def A9(A:bg):DC→LT (bP×Int) DC
 | .c0 p a1 a8=>.br (A.c .lss a1 p.a0) (.need (A.and (A.c .leq 0 a1) (A.c .lss a1 (A.l a8))) (.need (A.k (@tt (List Int)) (A.n bl a8 a1:bu).1) (.need (A.and (A.c .leq 0 a1) (A.c .lss a1 (A.l a8))) (.more (.c0 p (A.b .add .i64 a1 1) (A.set a8 a1 ((A.k nk (A.n bl a8 a1:bu).1),(A.n bl a8 a1:bu).2))))))) (.need (A.k (@tt (List Int)) p.a4.2.1) (.need (A.k (@tt (Int×Int×Int)) (p.a2,0,(A.b .sub .i64 (A.l p.a9.2.2.1) 1))) (.br (A.not (A.k kr (p.a2,0,(A.b .sub .i64 (A.l p.a9.2.2.1) 1)))) (.ret ((0,([]:List Int),([]:List bu),0,0),2)) (.br (A.c .gtr (A.l p.a3) 8) (.ret ((0,([]:List Int),([]:List bu),0,0),3)) (.need (A.k (@tt (List Int)) p.a3) (.need (A.and (A.c .leq 0 p.a2) (A.c .lss p.a2 (A.l a8))) (.ret ((p.a4.1,(A.k nk p.a4.2.1),(A.set a8 p.a2 ((A.k nk p.a3),0)),p.a4.2.2.2),0))))))))
def xL(c:bP)(slot:Int)(data:List Int):bP×Int:=
 bif dK c then(bif decide (0≤slot∧slot≤(c.2.2.1.length:Int)-1) then(bif decide (8<(data.length:Int)) then(tN,3) else((c.1,c.2.1,c.2.2.1.set slot.toNat (data,0),c.2.2.2),0)) else(tN,2)) else(tN,120)
def UC:bP×Int×List Int→bP×Int:=fun(c,slot,data)=>xL c slot data
theorem Ae{c:bP}(h:dK c=true):4≤c.2.2.1.length∧c.2.2.1.length≤8∧c.2.1.length≤8∧∀x∈c.2.2.1,x.1.length≤8∧0≤x.2∧x.2≤255:=by
 simp only[dK,Bool.and_eq_true,decide_eq_true_eq,List.all_eq_true,yZ] at h
 exact⟨by omega,by omega,by omega,fun x hx=>by have:=h.2.2.2.2.2 x hx;exact⟨by omega,this.2⟩⟩
theorem B_{c:bP}(h:dK c=true):ai.and (ai.c .eql (ai.l c.2.2.1) (ai.l c.2.2.1)) (ai.and (ai.c .leq 0 (ai.l c.2.2.1)) (ai.c .leq (ai.l c.2.2.1) 4398046511104))=true:=by
 have:=Ae h
 rw[fy,aR,aF,aF,aQ,aQ];simp;omega
theorem CY{l:List bu}{i:Nat}(hi:i<l.length):ai.set l (i:Int) ((ai.k nk (ai.n bl l (i:Int):bu).1),(ai.n bl l (i:Int):bu).2)=l:=by
 rw[show(ai.n bl l (i:Int):bu)=l[i] from getD_in hi _]
 show l.set (i:Int).toNat l[i]=l
 rw[Int.toNat_natCast];exact List.set_getElem_self _
theorem VQ{c:bP}{L slot z1 z2 z3 z4 z5 z6:Int}{data:List Int}{R:bP×Int}(hl:c.2.2.1.length≤8)(hL:L=(c.2.2.1.length:Int))(hR:aC (A9 ai) (.more (.c0 ⟨L,slot,data,c,z1,z2,z3,c,z4,z5,z6⟩ (c.2.2.1.length:Int) c.2.2.1)) R) :
  ∀(j i:Nat),c.2.2.1.length-i=j→i≤c.2.2.1.length→aC (A9 ai) (.more (.c0 ⟨L,slot,data,c,z1,z2,z3,c,z4,z5,z6⟩ (i:Int) c.2.2.1)) R:=by
 subst hL
 intro j
 induction j with
 | zero=>
   intro i hj hi
   have:i=c.2.2.1.length:=by omega
   subst this
   exact hR
 | succ j ih=>
   intro i hj hi
   have hi':i<c.2.2.1.length:=by omega
   rw[ak,A9]
   refine(aj (by rw[aI];simp;omega)).2 (af.2 ⟨aL hi',af.2 ⟨rfl,af.2 ⟨aL hi',?_⟩⟩⟩)
   rw[CY hi',cK (i:=i) (by omega)]
   exact ih (i+1) (by omega) (by omega)
theorem Vt{c:bP}{slot:Int}{data:List Int}:aC (A9 ai) (Kq ai c slot data) (xL c slot data):=by
 unfold Kq xL
 refine af.2 ⟨rfl,?_⟩
 rw[show ai.k oE c=jK c from rfl,jK]
 cases hc:dK c
 ·exact(aj rfl).2 ((aj rfl).2 (.ret _))
 ·obtain⟨h1,h2,_,_⟩:=Ae hc
  refine(ah rfl).2 (af.2 ⟨B_ hc,aZ (congrArg (fun z:List bu=>LT.more (DC.c0 ⟨ai.l z,slot,data,c,0,0,0,c,0,0,0⟩ 0 z)) Ad) (VQ h2 rfl ?_ c.2.2.1.length 0 rfl (by omega))⟩)
  rw[ak,A9]
  have hs:ai.b .sub .i64 (c.2.2.1.length:Int) 1=(c.2.2.1.length:Int)-1:=by rw[bH,gh (by omega) (by omega)]
  refine(ah (by rw[aI];simp)).2 (af.2 ⟨rfl,af.2 ⟨rfl,?_⟩⟩)
  rw[yg]
  simp only[fy,hs]
  refine dB (fun h=>?_) fun h3=>ax (p:=8<(data.length:Int)) rfl (fun h=>?_) fun h4=>af.2 ⟨rfl,af.2 ⟨?_,?_⟩⟩
  ·rw[decide_eq_false h];exact .ret _
  ·rw[decide_eq_true h3,decide_eq_true h];exact .ret _
  ·rw[aF,al,aQ];simp;omega
  ·rw[decide_eq_true h3,decide_eq_false h4];exact .ret _
def yw:(bP×Int×List Int)→(bP×Int):=UC
def Qc:aB:=⟨[gv,yI,yB], [gv,yI],(@tt (bP×Int×List Int)),yw⟩
theorem NI:Sd 166 Qc:=aH ar cO true 89 [⟨156,7, [[1,2,5,22,23], [1,2,3,6]]⟩] [] (fun A (c,slot,data)=>Kq A c slot data) A9 I8 (fc Tryz.func166 (fc Tryz.func156 fz)) (sc E3 (sc Cj (sc Ax sz))) (fun A y=>match y with |.c0 p a1 a8=>⟨86,by kernel_rfl,by kernel_rfl⟩) fun(c,slot,data) hp h=>Vt
open Go.Ev.Pl
open Go.Ev.Pl
inductive FO where
 | c0 (a0:Int) (a1:List bu)
noncomputable def Ji:FO→fE
 | .c0 a0 a1=>⟨[⟨146,48,(en [(7,.own 0),(8,vi a0)]),[.inLoop (cw Tryz.f146 [1,1,1,1,1,1,0,0,0]),.inBlock 0,.code (cw Tryz.f146 [1,1,1,1,1,1,1])],[],none⟩],[.arr false bl a1,.dead]⟩
def N5(A:bg)(x2:List bu)(count:Int):LT (List bu) FO:=.br (A.c .lss count 0) (.bad 117 "slices.go:516") (.br (A.c .gtr (A.b .add .u64 (A.b .add .u64 (A.b .mul .u64 (A.b .shr .u64 (A.v .u64 (A.l x2)) 32) (A.b .shr .u64 (A.v .u64 count) 32)) (A.b .shr .u64 (A.b .add .u64 (A.b .mul .u64 (A.b .shr .u64 (A.v .u64 (A.l x2)) 32) (A.b .and .u64 (A.v .u64 count) 4294967295)) (A.b .shr .u64 (A.b .mul .u64 (A.b .and .u64 (A.v .u64 (A.l x2)) 4294967295) (A.b .and .u64 (A.v .u64 count) 4294967295)) 32)) 32)) (A.b .shr .u64 (A.b .add .u64 (A.b .and .u64 (A.b .add .u64 (A.b .mul .u64 (A.b .shr .u64 (A.v .u64 (A.l x2)) 32) (A.b .and .u64 (A.v .u64 count) 4294967295)) (A.b .shr .u64 (A.b .mul .u64 (A.b .and .u64 (A.v .u64 (A.l x2)) 4294967295) (A.b .and .u64 (A.v .u64 count) 4294967295)) 32)) 4294967295) (A.b .mul .u64 (A.b .and .u64 (A.v .u64 (A.l x2)) 4294967295) (A.b .shr .u64 (A.v .u64 count) 32))) 32)) 0) (.bad 117 "slices.go:522") (.br (A.c .gtr (A.b .mul .u64 (A.v .u64 (A.l x2)) (A.v .u64 count)) 9223372036854775807) (.bad 117 "slices.go:522") (.need (A.and (A.c .eql (A.v .i64 (A.b .mul .u64 (A.v .u64 (A.l x2)) (A.v .u64 count))) (A.v .i64 (A.b .mul .u64 (A.v .u64 (A.l x2)) (A.v .u64 count)))) (A.and (A.c .leq 0 (A.v .i64 (A.b .mul .u64 (A.v .u64 (A.l x2)) (A.v .u64 count)))) (A.c .leq (A.v .i64 (A.b .mul .u64 (A.v .u64 (A.l x2)) (A.v .u64 count))) 4398046511104))) (.more (.c0 (A.mn (A.l x2) (A.l (A.r (A.v .i64 (A.b .mul .u64 (A.v .u64 (A.l x2)) (A.v .u64 count))) (Ty.iE bl:bu)))) (A.spl (A.r (A.v .i64 (A.b .mul .u64 (A.v .u64 (A.l x2)) (A.v .u64 count))) (Ty.iE bl:bu)) 0 (A.s x2 0 (A.mn (A.l x2) (A.l (A.r (A.v .i64 (A.b .mul .u64 (A.v .u64 (A.l x2)) (A.v .u64 count))) (Ty.iE bl:bu)))))))))))
def SZ(A:bg):FO→LT (List bu) FO
 | .c0 a0 a1=>.br (A.c .lss a0 (A.l a1)) (.need (A.and (A.c .leq 0 a0) (A.and (A.c .leq a0 (A.l a1)) (A.c .leq (A.l a1) (A.l a1)))) (.need (A.and (A.c .leq 0 0) (A.and (A.c .leq 0 a0) (A.c .leq a0 (A.l a1)))) (.more (.c0 (A.b .add .i64 a0 (A.mn (A.l (A.s a1 0 (A.b .add .i64 0 (A.b .sub .i64 a0 0)))) (A.b .sub .i64 (A.l a1) a0))) (A.spl a1 a0 (A.s (A.s a1 0 (A.b .add .i64 0 (A.b .sub .i64 a0 0))) 0 (A.mn (A.l (A.s a1 0 (A.b .add .i64 0 (A.b .sub .i64 a0 0)))) (A.b .sub .i64 (A.l a1) a0)))))))) (.ret a1)
def jW:bu:=(([]:List Int),255)
theorem TF{l:List bu}{n:Int}(h:(decide (l=[(([]:List Int),255)])&&decide (4≤n)&&decide (n≤8))=true):aC (SZ ai) (N5 ai l n) (List.replicate n.toNat jW):=by
 simp only[Bool.and_eq_true,decide_eq_true_eq] at h
 obtain⟨⟨rfl,h1⟩,h2⟩:=h
 have hn:n=4∨n=5∨n=6∨n=7∨n=8:=by omega
 rcases hn with rfl|rfl|rfl|rfl|rfl <;>
  (refine(ah (by kernel_rfl)).2 ((ah (by kernel_rfl)).2 ((ah (by kernel_rfl)).2 (af.2 ⟨by kernel_rfl,?_⟩)))
   refine ak.2 ((aj (by kernel_rfl)).2 (af.2 ⟨by kernel_rfl,af.2 ⟨by kernel_rfl,(ak.2 ?_)⟩⟩))
   refine(aj (by kernel_rfl)).2 (af.2 ⟨by kernel_rfl,af.2 ⟨by kernel_rfl,(ak.2 ?_)⟩⟩))
 ·exact(ah (by kernel_rfl)).2 (ao (by kernel_rfl) (.ret _))
 all_goals exact(aj (by kernel_rfl)).2 (af.2 ⟨by kernel_rfl,af.2 ⟨by kernel_rfl,(ak.2 ((ah (by kernel_rfl)).2 (ao (by kernel_rfl) (.ret _))))⟩⟩)
def Ii:(List bu×Int)→(List bu):=fun(_,n)=>List.replicate n.toNat (([]:List Int),255)
def yL:(List bu×Int)→Bool:=fun(l,n)=>decide (l=[(([]:List Int),255)])&&decide (4≤n)&&decide (n≤8)
def Rh:aB:=⟨[(.slice bl),yI], [(.slice bl)],yL,Ii⟩
theorem Qg:Sd 146 Rh:=aH ar cO true 175 [⟨146,8, [[7,8]]⟩] [] (fun A (x2,count)=>N5 A x2 count) SZ Ji (fc Tryz.func146 (fc Tryz.func200 (fc Tryz.func229 fz))) sz (fun A y=>match y with |.c0 a0 a1=>⟨30,by kernel_rfl,by kernel_rfl⟩) fun((x2,count):List bu×Int) hp h=>TF hp
def KV(A:bg)(id:Int)(n:Int):LT (bP×Int) Empty:=.need (A.k (@tt (Int×Int×Int)) (n,4,8)) (.br (A.not (A.k kr (n,4,8))) (.ret ((0,([]:List Int),([]:List bu),0,0),120)) (.need (A.k (@tt (Int×Int×Int)) (id,0,(A.b .sub .i64 n 1))) (.br (A.not (A.k kr (id,0,(A.b .sub .i64 n 1)))) (.ret ((0,([]:List Int),([]:List bu),0,0),120)) (.need (A.k yL ([(([]:List Int),255)],n)) (.ret ((id,([]:List Int),(A.k Ii ([(([]:List Int),255)],n)),4,(-1)),0))))))
def wC(id n:Int):bP×Int:=bif decide (4≤n∧n≤8) then(bif decide (0≤id∧id≤n-1) then((id,([]:List Int),List.replicate n.toNat jW,4,(-1)),0) else(tN,120)) else(tN,120)
def OT:Int×Int→bP×Int:=fun(id,n)=>wC id n
theorem Eb{id n:Int}:aC Empty.elim (KV ai id n) (wC id n):=by
 unfold KV wC
 rw[yg]
 refine af.2 ⟨rfl,dB (fun h=>?_) fun h1=>af.2 ⟨rfl,?_⟩⟩
 ·exact ao (by rw[decide_eq_false h];rfl) (.ret _)
 ·have e:ai.b .sub .i64 n 1=n-1:=by rw[bH,gh (by omega) (by omega)]
  rw[e]
  refine dB (fun h=>?_) fun h2=>af.2 ⟨?_,?_⟩
  ·exact ao (by rw[decide_eq_true h1,decide_eq_false h];rfl) (.ret _)
  ·rw[ap,yL,decide_eq_true h1.1,decide_eq_true h1.2];rfl
  ·exact ao (by rw[decide_eq_true h1,decide_eq_true h2];rfl) (.ret _)
def zD:(Int×Int)→(bP×Int):=OT
def SD:aB:=⟨[yI,yI], [gv,yI],(@tt (Int×Int)),zD⟩
theorem Mf:Sd 63 SD:=aG ar cO true 38 [] (fun A (id,n)=>KV A id n) (fc Tryz.func63 fz) (sc Ax (sc Qg sz)) fun(id,n) hp h=>Eb
structure Li where
 (a0 a1 a2 a3 a4 a5 a6 a7:Int)
structure En where
 (b0 b2 b3 b4 b5 b6 b7:Int)
inductive F9 where
 | c0 (p:Li)
 | c1 (p:En) (b1:Int) (b8:List bu)
noncomputable def I6:F9→fE
 | .c0 p=>⟨[⟨65,38,(en [(1,vi p.a0),(4,.ptr 0 0),(6,.ptr 1 0),(7,vi p.a1)]),[.inLoop (cw Tryz.f65 [1,1,1,0,1,0,0]),.inBlock 0,.code (cw Tryz.f65 [1,1,1,1])],[],none⟩],[.flat false [vi p.a2,.dz true,.dz true,vi p.a3,vi p.a4],.flat false [vi p.a5,.dz true,.dz true,vi p.a6,vi p.a7],.dead]⟩
 | .c1 p b1 b8=>⟨[⟨65,38,(en [(1,vi p.b0),(4,.ptr 0 0),(6,.ptr 1 0),(7,vi b1)]),[.inLoop (cw Tryz.f65 [1,1,1,0,1,0,0]),.inBlock 0,.code (cw Tryz.f65 [1,1,1,1])],[],none⟩],[.flat false [vi p.b2,.dz true,.dz true,vi p.b3,vi p.b4],.flat false [vi p.b5,.dz true,.own 2,vi p.b6,vi p.b7],.arr false bl b8,.dead]⟩
def Kv(A:bg)(id:Int)(n:Int):LT (bP×Int) F9:=.br (A.c .lss n 4) (.ret ((0,([]:List Int),([]:List bu),0,0),120)) (.br (A.c .gtr n 8) (.ret ((0,([]:List Int),([]:List bu),0,0),120)) (.br (A.c .lss id 0) (.ret ((0,([]:List Int),([]:List bu),0,0),120)) (.br (A.c .geq id n) (.ret ((0,([]:List Int),([]:List bu),0,0),120)) (.more (.c0 ⟨n,0,0,0,0,id,4,(-1)⟩)))))
def yC(A:bg):F9→LT (bP×Int) F9
 | .c0 p=>.br (A.c .lss p.a1 p.a0) (.need (A.c .leq (A.l ([(([]:List Int),255)]:List bu)) 4398046511104) (.more (.c1 ⟨p.a0,p.a2,p.a3,p.a4,p.a5,p.a6,p.a7⟩ (A.b .add .i64 p.a1 1) [(([]:List Int),255)]))) (.ret ((p.a5,([]:List Int),([]:List bu),p.a6,p.a7),0))
 | .c1 p b1 b8=>.br (A.c .lss b1 p.b0) (.need (A.c .leq (A.l (A.p b8 [(([]:List Int),255)])) 4398046511104) (.more (.c1 p (A.b .add .i64 b1 1) (A.p b8 [(([]:List Int),255)])))) (.ret ((p.b5,([]:List Int),b8,p.b6,p.b7),0))
theorem Ge{k n:Nat}(hn:n≤8){q:En}(hq:q.b0=(n:Int)):∀(j i:Nat),n-i=j→1≤i→i≤n→aC (yC ai) (.more (.c1 q (i:Int) (List.replicate i jW))) ((q.b5,([]:List Int),List.replicate n jW,q.b6,q.b7),0):=by
 intro j
 induction j with
 | zero=>
   intro i hj h1 hi
   have:i=n:=by omega
   subst this
   rw[ak,yC]
   exact(ah (by rw[hq,al];simp)).2 (.ret _)
 | succ j ih=>
   intro i hj h1 hi
   rw[ak,yC]
   have e:ai.p (List.replicate i jW) [(([]:List Int),255)]=List.replicate (i+1) jW:=by
    rw[j5,List.replicate_succ'];rfl
   rw[e]
   refine(aj (by rw[hq,al];simp;omega)).2 (af.2 ⟨?_,?_⟩)
   ·rw[fy,aF,List.length_replicate];exact decide_eq_true (by omega)
   ·rw[cK (i:=i) (by omega)]
    exact ih (i+1) (by omega) (by omega) (by omega)
theorem M1{id n:Int}:aC (yC ai) (Kv ai id n) (wC id n):=by
 unfold Kv wC
 refine ax (p:=n<4) rfl (fun h=>?_) fun h1=>ax (p:=8<n) rfl (fun h=>?_) fun h2=>ax (p:=id<0) rfl (fun h=>?_) fun h3=>ax (p:=n≤id) rfl (fun h=>?_) fun h4=>?_
 ·exact ao (by rw[decide_eq_false (by omega)];rfl) (.ret _)
 ·exact ao (by rw[decide_eq_false (by omega)];rfl) (.ret _)
 ·exact ao (by rw[decide_eq_true (show 4≤n∧n≤8 by omega),decide_eq_false (show ¬(0≤id∧id≤n-1) by omega)];rfl) (.ret _)
 ·exact ao (by rw[decide_eq_true (show 4≤n∧n≤8 by omega),decide_eq_false (show ¬(0≤id∧id≤n-1) by omega)];rfl) (.ret _)
 ·rw[decide_eq_true (show 4≤n∧n≤8 by omega),decide_eq_true (show 0≤id∧id≤n-1 by omega)]
  obtain⟨k,rfl⟩:∃k:Nat,n=k:=⟨n.toNat,by omega⟩
  rw[ak,yC]
  refine(aj (by rw[al];exact decide_eq_true (by show(0:Int)<k;omega))).2 (af.2 ⟨rfl,?_⟩)
  have e:ai.b .add .i64 0 1=((1:Nat):Int):=rfl
  show aC (yC ai) (.more (.c1 ⟨(k:Int),0,0,0,id,4,(-1)⟩ (ai.b .add .i64 0 1) (List.replicate 1 jW))) ((id,([]:List Int),List.replicate k jW,4,(-1)),0)
  rw[e]
  exact Ge (k:=k) (q:=⟨(k:Int),0,0,0,id,4,(-1)⟩) (by omega) rfl (k-1) 1 (by omega) (by omega) (by omega)
def Dx:(Int×Int)→(bP×Int):=OT
def OD:aB:=⟨[yI,yI], [gv,yI],(@tt (Int×Int)),Dx⟩
theorem RE:Sd 65 OD:=aH ar cO true 46 [⟨65,5, [[1,4,6,7]]⟩] [] (fun A (id,n)=>Kv A id n) yC I6 (fc Tryz.func65 fz) sz (fun A y=>match y with |.c0 p=>⟨32,by kernel_rfl,by kernel_rfl⟩|.c1 p b1 b8=>⟨32,by kernel_rfl,by kernel_rfl⟩) fun(id,n) hp h=>M1
open Go.Ev.Pl
def LQ(A:bg)(c:bP)(data:List Int):LT (bP×Int) Empty:=.need (A.k (@tt bP) c) (.br (A.c .neq (A.k fJ c).2 0) (.ret ((0,([]:List Int),([]:List bu),0,0),(A.k fJ c).2)) (.br (A.c .gtr (A.l data) 8) (.ret ((0,([]:List Int),([]:List bu),0,0),3)) (.need (A.k (@tt (List Int)) data) (.ret (((A.k fJ c).1.1,(A.k nk data),(A.k fJ c).1.2.2),0)))))
def FJ(c:bP)(d:List Int):bP×Int:=bif dK c then(bif decide (8<(d.length:Int)) then(tN,3) else((c.1,d,c.2.2),0)) else(tN,120)
def VS:bP×List Int→bP×Int:=fun(c,d)=>FJ c d
theorem Wc{c:bP}{d:List Int}:aC Empty.elim (LQ ai c d) (FJ c d):=by
 unfold LQ FJ
 refine af.2 ⟨rfl,?_⟩
 rw[show ai.k fJ c=wG c from rfl,wG]
 cases dK c
 ·exact(aj rfl).2 (.ret _)
 ·refine(ah rfl).2 (ax (p:=8<(d.length:Int)) rfl (fun h=>?_) fun h=>af.2 ⟨rfl,?_⟩)
  ·exact ao (by rw[decide_eq_true h];rfl) (.ret _)
  ·exact ao (by rw[decide_eq_false h];rfl) (.ret _)
def tp:(bP×List Int)→(bP×Int):=VS
def NV:aB:=⟨[gv,yB], [gv,yI],(@tt (bP×List Int)),tp⟩
theorem Ie:Sd 79 NV:=aG ar cO true 55 [] (fun A (c,data)=>LQ A c data) (fc Tryz.func79 fz) (sc E3 (sc Ff sz)) fun(c,data) hp h=>Wc
def JL(A:bg)(c:bP):LT (bP×Int) Empty:=.need (A.k (@tt bP) c) (.br (A.c .eql (A.k fJ c).2 0) (.ret (((A.k fJ c).1.1,(A.k fJ c).1.2.1,(A.k fJ c).1.2.2.1,4,(A.k fJ c).1.2.2.2.2),(A.k fJ c).2)) (.ret (A.k fJ c)))
def GM:bP→bP×Int:=fun c=>bif dK c then((c.1,c.2.1,c.2.2.1,4,c.2.2.2.2),0) else(tN,120)
theorem V_{c:bP}:aC Empty.elim (JL ai c) (GM c):=by
 unfold JL GM
 refine af.2 ⟨rfl,?_⟩
 rw[show ai.k fJ c=wG c from rfl,wG]
 cases dK c
 ·exact(ah rfl).2 (.ret _)
 ·exact(aj rfl).2 (.ret _)
def Ah:bP→(bP×Int):=GM
def N7:aB:=⟨[gv], [gv,yI],(@tt bP),Ah⟩
theorem Qk:Sd 80 N7:=aG ar cO true 41 [] (fun A c=>JL A c) (fc Tryz.func80 fz) (sc Ff sz) fun c hp h=>V_
def KR(A:bg)(c:bP)(mode:Int):LT (bP×Int) Empty:=.need (A.k (@tt bP) c) (.br (A.c .neq (A.k fJ c).2 0) (.ret ((0,([]:List Int),([]:List bu),0,0),(A.k fJ c).2)) (.need (A.k (@tt (Int×Int×Int)) (mode,(-1),3)) (.br (A.not (A.k kr (mode,(-1),3))) (.ret ((0,([]:List Int),([]:List bu),0,0),2)) (.ret (((A.k fJ c).1.1,(A.k fJ c).1.2.1,(A.k fJ c).1.2.2.1,(A.k fJ c).1.2.2.2.1,mode),0)))))
def xA(c:bP)(m:Int):bP×Int:=bif dK c then(bif decide (-1≤m∧m≤3) then((c.1,c.2.1,c.2.2.1,c.2.2.2.1,m),0) else(tN,2)) else(tN,120)
def Py:bP×Int→bP×Int:=fun(c,m)=>xA c m
theorem Up{c:bP}{m:Int}:aC Empty.elim (KR ai c m) (xA c m):=by
 unfold KR xA
 rw[yg]
 refine af.2 ⟨rfl,?_⟩
 rw[show ai.k fJ c=wG c from rfl,wG]
 cases dK c
 ·exact(aj rfl).2 (.ret _)
 ·refine(ah rfl).2 (af.2 ⟨rfl,dB (fun h=>?_) fun h=>?_⟩)
  ·exact ao (by rw[decide_eq_false h];rfl) (.ret _)
  ·exact ao (by rw[decide_eq_true h];rfl) (.ret _)
def zJ:(bP×Int)→(bP×Int):=Py
def NU:aB:=⟨[gv,yI], [gv,yI],(@tt (bP×Int)),zJ⟩
theorem R3:Sd 81 NU:=aG ar cO true 54 [] (fun A (c,mode)=>KR A c mode) (fc Tryz.func81 fz) (sc Ax (sc Ff sz)) fun(c,mode) hp h=>Up
def K_(A:bg)(c:bP)(data:List Int):LT (bP×Int) Empty:=.need (A.k (@tt bP) c) (.br (A.c .neq (A.k kP c) 0) (.ret ((0,([]:List Int),([]:List bu),0,0),(A.k kP c))) (.br (A.c .gtr (A.l data) 8) (.ret ((0,([]:List Int),([]:List bu),0,0),3)) (.need (A.k lb c) (.br (A.c .eql (A.l data) 0) (.ret (((A.k gy c).1,([]:List Int),(A.k gy c).2.2),0)) (.need (A.c .leq (A.l data) 140737488355328) (.ret (((A.k gy c).1,data,(A.k gy c).2.2),0)))))))
theorem Vw{c:bP}{d:List Int}:aC Empty.elim (K_ ai c d) (FJ c d):=by
 unfold K_ FJ
 refine af.2 ⟨rfl,?_⟩
 rw[show ai.k kP c=jK c from rfl,jK]
 cases hc:dK c
 ·exact(aj rfl).2 (.ret _)
 ·refine(ah rfl).2 (ax (p:=8<(d.length:Int)) rfl (fun h=>?_) fun h=>af.2 ⟨rF hc,ax (p:=(d.length:Int)=0) aT (fun h2=>?_) fun h2=>af.2 ⟨pn (by omega),?_⟩⟩)
  ·exact ao (by rw[decide_eq_true h];rfl) (.ret _)
  ·have:d=[]:=List.eq_nil_of_length_eq_zero (by omega)
   subst this
   exact ao (by rw[decide_eq_false h];rfl) (.ret _)
  ·exact ao (by rw[decide_eq_false h];rfl) (.ret _)
def Ay:(bP×List Int)→(bP×Int):=VS
def M3:aB:=⟨[gv,yB], [gv,yI],(@tt (bP×List Int)),Ay⟩
theorem PQ:Sd 82 M3:=aG ar cO true 54 [] (fun A (c,data)=>K_ A c data) (fc Tryz.func82 fz) (sc xI (sc z_ sz)) fun(c,data) hp h=>Vw
def KF(A:bg)(c:bP):LT (bP×Int) Empty:=.need (A.k (@tt bP) c) (.br (A.c .neq (A.k kP c) 0) (.ret ((0,([]:List Int),([]:List bu),0,0),(A.k kP c))) (.need (A.k lb c) (.ret (((A.k gy c).1,(A.k gy c).2.1,(A.k gy c).2.2.1,4,(A.k gy c).2.2.2.2),0))))
theorem TH{c:bP}:aC Empty.elim (KF ai c) (GM c):=by
 unfold KF GM
 refine af.2 ⟨rfl,?_⟩
 rw[show ai.k kP c=jK c from rfl,jK]
 cases hc:dK c
 ·exact(aj rfl).2 (.ret _)
 ·exact(ah rfl).2 (af.2 ⟨rF hc,.ret _⟩)
def zV:bP→(bP×Int):=GM
def MC:aB:=⟨[gv], [gv,yI],(@tt bP),zV⟩
theorem MU:Sd 83 MC:=aG ar cO true 43 [] (fun A c=>KF A c) (fc Tryz.func83 fz) (sc xI (sc z_ sz)) fun c hp h=>TH
def I4(A:bg)(c:bP)(mode:Int):LT (bP×Int) Empty:=.need (A.k (@tt bP) c) (.br (A.c .neq (A.k kP c) 0) (.ret ((0,([]:List Int),([]:List bu),0,0),(A.k kP c))) (.br (A.c .lss mode (-1)) (.ret ((0,([]:List Int),([]:List bu),0,0),2)) (.br (A.c .geq mode 4) (.ret ((0,([]:List Int),([]:List bu),0,0),2)) (.need (A.k lb c) (.ret (((A.k gy c).1,(A.k gy c).2.1,(A.k gy c).2.2.1,(A.k gy c).2.2.2.1,mode),0))))))
theorem OH{c:bP}{m:Int}:aC Empty.elim (I4 ai c m) (xA c m):=by
 unfold I4 xA
 refine af.2 ⟨rfl,?_⟩
 rw[show ai.k kP c=jK c from rfl,jK]
 cases hc:dK c
 ·exact(aj rfl).2 (.ret _)
 ·refine(ah rfl).2 (ax (p:=m < -1) rfl (fun h=>?_) fun h1=>ax (p:=4≤m) rfl (fun h=>?_) fun h2=>af.2 ⟨rF hc,?_⟩)
  ·exact ao (by rw[decide_eq_false (by omega)];rfl) (.ret _)
  ·exact ao (by rw[decide_eq_false (by omega)];rfl) (.ret _)
  ·exact ao (by rw[decide_eq_true (show -1≤m∧m≤3 by omega)];rfl) (.ret _)
def zP:(bP×Int)→(bP×Int):=Py
def Rq:aB:=⟨[gv,yI], [gv,yI],(@tt (bP×Int)),zP⟩
theorem SQ:Sd 84 Rq:=aG ar cO true 56 [] (fun A (c,mode)=>I4 A c mode) (fc Tryz.func84 fz) (sc xI (sc z_ sz)) fun(c,mode) hp h=>OH
end Go.Ev.M
