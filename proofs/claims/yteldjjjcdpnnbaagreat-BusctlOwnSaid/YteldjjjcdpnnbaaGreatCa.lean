/-
  PROVED: what functions of the packages cni and metronomeref12 compute. Conditions: none.
-/
import Derived.Test.YteldjjjcdpnnbaaGreatHb
namespace Go.Ev.M
open Go.Proofs
set_option maxRecDepth 100000
set_option linter.unusedVariables false
set_option linter.unusedSimpArgs false
open Go.Ev.Pl
abbrev Gx(b:Bool):Prop:=b=b
section
variable {R Y:Type} {step:Y→LT R Y} {t:LT R Y} {r:R}
end
theorem gy{b:Bool}{α:Type}{x y:α}(h:b=false):y=bif b then x else y:=by rw[h];rfl
theorem fZ{p:Prop}[Decidable p]{b:Bool}(h:¬p):(decide p&&b)=false:=by rw[decide_eq_false h];rfl
theorem a_{p:Prop}[Decidable p]{b:Bool}(h:p):(decide p&&b)=b:=by rw[decide_eq_true h];rfl
theorem cH{α:Type}{l:List α}{i:Nat}:ai.c .lss (i:Int) (ai.l l)=decide (i<l.length):=aJ
def I6(A:aZ)(n:Int)(least:Int)(most:Int):LT Bool Empty:=.br (A.c .geq n least) (.ret (A.c .leq n most)) (.ret false)
def kN:(Int×Int×Int)→Bool:=fun(n,least,most)=>(I6 ai n least most).val (Ty.cn [.bool])
def T3:aA:=⟨[yI,yI,yI], [.bool],(@tt (Int×Int×Int)),kN⟩
theorem AP:Sd 145 T3:=aL ax cm true 22 [] (fun A (n,least,most)=>I6 A n least most) (fc Tryz.func145 fz) sz (fun((n,least,most):Int×Int×Int) hp h=>by
 show(I6 ai n least most).pre=true
 simp[I6,LT.pre,ap,dc])
structure Kh where
 (a0:List aW) (a1:Int) (a3:Bool)
inductive Ih where
 | c0 (p:Kh) (a2:Int)
noncomputable def K1:Ih→fJ
 | .c0 p a2=>⟨[⟨201,19,(en [(0,.sl aM p.a0),(1,.fn 149 [] []),(7,vi p.a1),(8,vi a2)]),[.inLoop (cw Tryz.f201 [1,0,1,0,0]),.inBlock 0,.code (cw Tryz.f201 [1,1])],[],none⟩,⟨150,9,.leaf,[.ops (ow Tryz.f150 [1,0]) ((ow Tryz.f150 [1,0]).toList.drop 2),.code .ret],[],none⟩,⟨67,43,(en [(37,vb p.a3)]),[.ops (ow Tryz.f67 [1,1,0,0]) ((ow Tryz.f67 [1,1,0,0]).toList.drop 37),.code (cw Tryz.f67 [1,1,0,1]),.code (cw Tryz.f67 [1,1,1])],[],none⟩],[.dead]⟩
def KG(A:aZ)(c:bR):LT Int Ih:=.need (A.k (@tt (Int×Int×Int)) ((A.l c.2.2.1),4,8)) (.br (A.not (A.k kN ((A.l c.2.2.1),4,8))) (.ret 120) (.need (A.k (@tt (Int×Int×Int)) (c.1,0,(A.b .sub .i64 (A.l c.2.2.1) 1))) (.br (A.not (A.k kN (c.1,0,(A.b .sub .i64 (A.l c.2.2.1) 1)))) (.ret 120) (.br (A.c .gtr (A.l c.2.1) 8) (.ret 120) (.need (A.k (@tt (Int×Int×Int)) (c.2.2.2.1,0,4)) (.br (A.not (A.k kN (c.2.2.2.1,0,4))) (.ret 120) (.need (A.k (@tt (Int×Int×Int)) (c.2.2.2.2,(-1),3)) (.br (A.not (A.k kN (c.2.2.2.2,(-1),3))) (.ret 120) (.more (.c0 ⟨c.2.2.1,(A.l c.2.2.1),false⟩ 0))))))))))
def Gn(A:aZ):Ih→LT Int Ih
 | .c0 p a2=>.br (A.c .lss a2 p.a1) (.need (A.and (A.c .leq 0 a2) (A.c .lss a2 (A.l p.a0))) (.br (A.c .gtr (A.l (A.n aM p.a0 a2:aW).1) 8) (.br p.a3 (.ret 120) (.br (A.c .geq a2 0) (.ret 120) (.ret 0))) (.need (A.k (@tt (Int×Int×Int)) ((A.n aM p.a0 a2:aW).2,0,255)) (.br (A.not (A.k kN ((A.n aM p.a0 a2:aW).2,0,255))) (.br p.a3 (.ret 120) (.br (A.c .geq a2 0) (.ret 120) (.ret 0))) (.more (.c0 p (A.b .add .i64 a2 1))))))) (.br p.a3 (.ret 120) (.ret 0))
theorem zj:kN=dD:=rfl
def zO(m:aW):Bool:=decide (¬8<(m.1.length:Int))&&decide (0≤m.2∧m.2≤255)
def dO(c:bR):Bool:=decide (4≤(c.2.2.1.length:Int)∧(c.2.2.1.length:Int)≤8)&&(decide (0≤c.1∧c.1≤(c.2.2.1.length:Int)-1)&&(decide (¬8<(c.2.1.length:Int))&&(decide (0≤c.2.2.2.1∧c.2.2.2.1≤4)&&(decide (-1≤c.2.2.2.2∧c.2.2.2.2≤3)&&c.2.2.1.all zO))))
def jk(c:bR):Int:=bif dO c then 0 else 120
theorem mm{c:bR}:jk c=0↔dO c=true:=by unfold jk;cases dO c<;>decide
theorem V4{l:List aW}(hl:l.length≤140737488355328):∀(j i:Nat),l.length-i=j→i≤l.length→aB (Gn ai) (.more (.c0 ⟨l,(l.length:Int),false⟩ (i:Int))) (bif (l.drop i).all zO then 0 else 120):=by
 intro j
 induction j with
 | zero=>
  intro i hj hi
  have:i=l.length:=by omega
  subst this
  rw[ak,Gn]
  refine(ah (by rw[aJ];simp)).2 ((ah rfl).2 ?_)
  rw[List.drop_length]
  exact .ret _
 | succ j ih=>
  intro i hj hi
  have hi':i<l.length:=by omega
  rw[ak,Gn]
  refine(aj (by rw[aJ];simp;omega)).2 (af.2 ⟨aK hi',?_⟩)
  rw[show(ai.n aM l (i:Int):aW)=l[i] from getD_in hi' _,List.drop_eq_getElem_cons hi',List.all_cons,zO,zj]
  refine au (p:=8<(l[i].1.length:Int)) rfl (fun h=>?_) fun h1=>af.2 ⟨rfl,dT (fun h=>?_) fun h2=>?_⟩
  ·rw[decide_eq_false (show ¬¬8<(l[i].1.length:Int) by omega)]
   exact(ah rfl).2 ((aj (by rw[aN];simp)).2 (.ret _))
  ·rw[decide_eq_false h,Bool.and_false]
   exact(ah rfl).2 ((aj (by rw[aN];simp)).2 (.ret _))
  ·rw[decide_eq_true h1,decide_eq_true h2,cy (i:=i) (by omega)]
   exact ih (i+1) (by omega) (by omega)
theorem AS{c:bR}(h:Ty.has iT c):c.2.1.length≤140737488355328∧c.2.2.1.length≤140737488355328∧∀x∈c.2.2.1,x.1.length≤140737488355328:=by
 obtain⟨_,h1,h2,_⟩:=h
 exact⟨h1.1,h2.1,fun x hx=>(h2.2 x hx).1.1⟩
theorem X0{c:bR}(h:Ty.has iT c):aB (Gn ai) (KG ai c) (jk c):=by
 have hc:=(AS h).2.1
 unfold KG jk
 rw[zj]
 simp only[fO]
 have hs:ai.b .sub .i64 (c.2.2.1.length:Int) 1=(c.2.2.1.length:Int)-1:=by rw[bl,fQ (by omega) (by omega)]
 rw[hs]
 refine af.2 ⟨rfl,dT (fun h=>?_) fun h1=>af.2 ⟨rfl,dT (fun h=>?_) fun h2=>au (p:=8<(c.2.1.length:Int)) rfl (fun h=>?_) fun h3=>af.2 ⟨rfl,dT (fun h=>?_) fun h4=>af.2 ⟨rfl,dT (fun h=>?_) fun h5=>?_⟩⟩⟩⟩
 ·exact al (gy (by rw[dO,fZ h])) (.ret _)
 ·exact al (gy (by rw[dO,a_ h1,fZ h])) (.ret _)
 ·exact al (gy (by rw[dO,a_ h1,a_ h2,fZ (fun k=>k h)])) (.ret _)
 ·exact al (gy (by rw[dO,a_ h1,a_ h2,a_ h3,fZ h])) (.ret _)
 ·exact al (gy (by rw[dO,a_ h1,a_ h2,a_ h3,a_ h4,fZ h])) (.ret _)
 ·rw[dO,a_ h1,a_ h2,a_ h3,a_ h4,a_ h5]
  exact V4 hc c.2.2.1.length 0 rfl (by omega)
def ij:bR→Int:=jk
def Uf:aA:=⟨[iT], [yI],(@tt bR),ij⟩
theorem vE:Sd 67 Uf:=aH ax cm true 78 [⟨201,2, [[0,1,7,8], [], [37]]⟩] [] (fun A c=>KG A c) Gn K1 (fc Tryz.func67 (fc Tryz.func149 (fc Tryz.func150 (fc Tryz.func201 fz)))) (sc AP sz) (fun A y=>match y with |.c0 p a2=>⟨68,by kernel_rfl,by kernel_rfl⟩) fun c hp h=>X0 h
structure ML where
 (a1:bR)
inductive Hz where
 | c0 (p:ML) (a0:Int)
noncomputable def LG:Hz→fJ
 | .c0 p a0=>⟨[⟨71,84,(en [(1,.ptr 0 0),(4,vi a0)]),[.inLoop (cw Tryz.f71 [1,1,1,0,1,0,0]),.inBlock 0,.code (cw Tryz.f71 [1,1,1,1])],[],none⟩],[.flat false [vi p.a1.1,.sl yU p.a1.2.1,.sl aM p.a1.2.2.1,vi p.a1.2.2.2.1,vi p.a1.2.2.2.2],.dead]⟩
def Kz(A:aZ)(c:bR):LT Int Hz:=.br (A.c .lss (A.l c.2.2.1) 4) (.ret 120) (.br (A.c .gtr (A.l c.2.2.1) 8) (.ret 120) (.br (A.c .lss c.1 0) (.ret 120) (.br (A.c .geq c.1 (A.l c.2.2.1)) (.ret 120) (.br (A.c .gtr (A.l c.2.1) 8) (.ret 120) (.br (A.c .lss c.2.2.2.1 0) (.ret 120) (.br (A.c .gtr c.2.2.2.1 4) (.ret 120) (.br (A.c .lss c.2.2.2.2 (-1)) (.ret 120) (.br (A.c .geq c.2.2.2.2 4) (.ret 120) (.more (.c0 ⟨c⟩ 0))))))))))
def D_(A:aZ):Hz→LT Int Hz
 | .c0 p a0=>.br (A.c .lss a0 (A.l p.a1.2.2.1)) (.need (A.and (A.c .leq 0 a0) (A.c .lss a0 (A.l p.a1.2.2.1))) (.br (A.c .gtr (A.l (A.n aM p.a1.2.2.1 a0:aW).1) 8) (.ret 120) (.need (A.and (A.c .leq 0 a0) (A.c .lss a0 (A.l p.a1.2.2.1))) (.br (A.c .lss (A.n aM p.a1.2.2.1 a0:aW).2 0) (.ret 120) (.need (A.and (A.c .leq 0 a0) (A.c .lss a0 (A.l p.a1.2.2.1))) (.br (A.c .gtr (A.n aM p.a1.2.2.1 a0:aW).2 255) (.ret 120) (.more (.c0 p (A.b .add .i64 a0 1))))))))) (.ret 0)
theorem Vi{c:bR}(hl:c.2.2.1.length≤140737488355328):∀(j i:Nat),c.2.2.1.length-i=j→i≤c.2.2.1.length→aB (D_ ai) (.more (.c0 ⟨c⟩ (i:Int))) (bif (c.2.2.1.drop i).all zO then 0 else 120):=by
 intro j
 induction j with
 | zero=>
  intro i hj hi
  have:i=c.2.2.1.length:=by omega
  subst this
  rw[ak,D_]
  refine(ah (by rw[cH];simp)).2 ?_
  rw[List.drop_length]
  exact .ret _
 | succ j ih=>
  intro i hj hi
  have hi':i<c.2.2.1.length:=by omega
  rw[ak,D_]
  refine(aj (by rw[cH];simp;omega)).2 (af.2 ⟨aK hi',?_⟩)
  rw[show(ai.n aM c.2.2.1 (i:Int):aW)=c.2.2.1[i] from getD_in hi' _,List.drop_eq_getElem_cons hi',List.all_cons,zO]
  refine au (p:=8<(c.2.2.1[i].1.length:Int)) rfl (fun h=>?_) fun h1=>af.2 ⟨aK hi',au (p:=c.2.2.1[i].2<0) rfl (fun h=>?_) fun h2=>af.2 ⟨aK hi',au (p:=255<c.2.2.1[i].2) rfl (fun h=>?_) fun h3=>?_⟩⟩
  ·rw[fZ (fun k=>k h)];exact .ret _
  ·rw[a_ h1,decide_eq_false (by omega)];exact .ret _
  ·rw[a_ h1,decide_eq_false (by omega)];exact .ret _
  ·rw[a_ h1,decide_eq_true (by omega),cy (i:=i) (by omega)]
   exact ih (i+1) (by omega) (by omega)
theorem Oy{c:bR}(h:Ty.has iT c):aB (D_ ai) (Kz ai c) (jk c):=by
 have hc:=(AS h).2.1
 unfold Kz jk
 simp only[fO]
 refine au (p:=(c.2.2.1.length:Int)<4) rfl (fun h=>?_) fun h1=>au (p:=8<(c.2.2.1.length:Int)) rfl (fun h=>?_) fun h2=>au (p:=c.1<0) rfl (fun h=>?_) fun h3=>au (p:=(c.2.2.1.length:Int)≤c.1) rfl (fun h=>?_) fun h4=>au (p:=8<(c.2.1.length:Int)) rfl (fun h=>?_) fun h5=>au (p:=c.2.2.2.1<0) rfl (fun h=>?_) fun h6=>au (p:=4<c.2.2.2.1) rfl (fun h=>?_) fun h7=>au (p:=c.2.2.2.2 < -1) rfl (fun h=>?_) fun h8=>au (p:=4≤c.2.2.2.2) rfl (fun h=>?_) fun h9=>?_
 ·exact al (gy (by rw[dO,fZ (by omega)])) (.ret _)
 ·exact al (gy (by rw[dO,fZ (by omega)])) (.ret _)
 ·exact al (gy (by rw[dO,a_ (by omega),fZ (by omega)])) (.ret _)
 ·exact al (gy (by rw[dO,a_ (by omega),fZ (by omega)])) (.ret _)
 ·exact al (gy (by rw[dO,a_ (by omega),a_ (by omega),fZ (by omega)])) (.ret _)
 ·exact al (gy (by rw[dO,a_ (by omega),a_ (by omega),a_ (by omega),fZ (by omega)])) (.ret _)
 ·exact al (gy (by rw[dO,a_ (by omega),a_ (by omega),a_ (by omega),fZ (by omega)])) (.ret _)
 ·exact al (gy (by rw[dO,a_ (by omega),a_ (by omega),a_ (by omega),a_ (by omega),fZ (by omega)])) (.ret _)
 ·exact al (gy (by rw[dO,a_ (by omega),a_ (by omega),a_ (by omega),a_ (by omega),fZ (by omega)])) (.ret _)
 ·rw[dO,a_ (by omega),a_ (by omega),a_ (by omega),a_ (by omega),a_ (by omega)]
  exact Vi hc c.2.2.1.length 0 rfl (by omega)
def qU:bR→Int:=jk
def ON:aA:=⟨[iT], [yI],(@tt bR),qU⟩
theorem D8:Sd 71 ON:=aH ax cm true 74 [⟨71,5, [[1,4]]⟩] [] (fun A c=>Kz A c) D_ LG (fc Tryz.func71 fz) sz (fun A y=>match y with |.c0 p a0=>⟨56,by kernel_rfl,by kernel_rfl⟩) fun c hp h=>Oy h
open Go.Ev.Pl
structure MC where
 (a0:Int) (a2:bR) (a3 a4 a5:Int)
inductive FZ where
 | c0 (p:MC) (a1:Int) (a6:List aW)
noncomputable def Nb:FZ→fJ
 | .c0 p a1 a6=>⟨[⟨156,44,(en [(1,.ptr 0 0),(2,.ptr 1 0),(5,.own 2),(22,vi p.a0),(23,vi a1)]),[.inLoop (cw Tryz.f156 [1,1,1,1,0,1,0,0]),.inBlock 0,.code (cw Tryz.f156 [1,1,1,1,1])],[],none⟩],[.flat false [vi p.a2.1,.sl yU p.a2.2.1,.sl aM p.a2.2.2.1,vi p.a2.2.2.2.1,vi p.a2.2.2.2.2],.flat false [vi p.a3,.bZ true,.bZ true,vi p.a4,vi p.a5],.arr false aM a6,.dead]⟩
def M_(A:aZ)(c:bR):LT (bR×Int) FZ:=.need (A.k (@tt bR) c) (.br (A.c .neq (A.k ij c) 0) (.ret ((0,([]:List Int),([]:List aW),0,0),(A.k ij c))) (.need (A.and (A.c .eql (A.l c.2.2.1) (A.l c.2.2.1)) (A.and (A.c .leq 0 (A.l c.2.2.1)) (A.c .leq (A.l c.2.2.1) 4264772374403))) (.more (.c0 ⟨(A.l (A.spl (A.r (A.l c.2.2.1) (Ty.gH aM:aW)) 0 (A.s c.2.2.1 0 (A.mn (A.l c.2.2.1) (A.l (A.r (A.l c.2.2.1) (Ty.gH aM:aW))))))),c,0,0,0⟩ 0 (A.spl (A.r (A.l c.2.2.1) (Ty.gH aM:aW)) 0 (A.s c.2.2.1 0 (A.mn (A.l c.2.2.1) (A.l (A.r (A.l c.2.2.1) (Ty.gH aM:aW))))))))))
def Dh(A:aZ):FZ→LT (bR×Int) FZ
 | .c0 p a1 a6=>.br (A.c .lss a1 p.a0) (.need (A.and (A.c .leq 0 a1) (A.c .lss a1 (A.l a6))) (.need (A.k (@tt (List Int)) (A.n aM a6 a1:aW).1) (.need (A.and (A.c .leq 0 a1) (A.c .lss a1 (A.l a6))) (.more (.c0 p (A.b .add .i64 a1 1) (A.set a6 a1 ((A.k lN (A.n aM a6 a1:aW).1),(A.n aM a6 a1:aW).2))))))) (.need (A.k (@tt (List Int)) p.a2.2.1) (.ret ((p.a2.1,(A.k lN p.a2.2.1),a6,p.a2.2.2.2),0)))
def wB:bR:=(0,([]:List Int),([]:List aW),0,0)
def Fu(c:bR):bR×Int:=bif dO c then(c,0) else(wB,120)
theorem WJ{c:bR}{L z1 z2 z3:Int}{l:List aW}(hl:l.length≤140737488355328)(hL:L=(l.length:Int)):∀(j i:Nat),l.length-i=j→i≤l.length→aB (Dh ai) (.more (.c0 ⟨L,c,z1,z2,z3⟩ (i:Int) l)) ((c.1,c.2.1,l,c.2.2.2),0):=by
 subst hL
 intro j
 induction j with
 | zero=>
  intro i hj hi
  have:i=l.length:=by omega
  subst this
  rw[ak,Dh]
  exact(ah (by rw[aJ];simp)).2 (af.2 ⟨rfl,.ret _⟩)
 | succ j ih=>
  intro i hj hi
  have hi':i<l.length:=by omega
  rw[ak,Dh]
  refine(aj (by rw[aJ];simp;omega)).2 (af.2 ⟨aK hi',af.2 ⟨rfl,af.2 ⟨aK hi',?_⟩⟩⟩)
  have e:(ai.n aM l (i:Int):aW)=l[i]:=getD_in hi' _
  have e2:ai.set l (i:Int) ((ai.k lN (ai.n aM l (i:Int):aW).1),(ai.n aM l (i:Int):aW).2)=l:=by
   rw[e]
   show l.set (i:Int).toNat l[i]=l
   rw[Int.toNat_natCast];exact List.set_getElem_self _
  rw[e2,cy (i:=i) (by omega)]
  exact ih (i+1) (by omega) (by omega)
theorem wS{α:Type}{l:List α}{d:α}:ai.spl (ai.r (ai.l l) d) 0 (ai.s l 0 (ai.mn (ai.l l) (ai.l (ai.r (ai.l l) d))))=l:=by
 simp[mz,kq,j5,wF,fO]
theorem SG{c:bR}:aB (Dh ai) (M_ ai c) (Fu c):=by
 unfold M_ Fu
 refine af.2 ⟨rfl,?_⟩
 rw[show ai.k ij c=jk c from rfl,jk]
 cases hc:dO c
 ·exact(aj rfl).2 (.ret _)
 ·refine(ah rfl).2 ?_
  simp only[dO,Bool.and_eq_true,decide_eq_true_eq] at hc
  have h1:ai.and (ai.c .eql (ai.l c.2.2.1) (ai.l c.2.2.1)) (ai.and (ai.c .leq 0 (ai.l c.2.2.1)) (ai.c .leq (ai.l c.2.2.1) 4264772374403))=true:=by
   rw[fO,aS,aF,aF,aU,aU];simp;omega
  refine af.2 ⟨h1,?_⟩
  exact bi (congrArg (fun z:List aW=>LT.more (FZ.c0 ⟨ai.l z,c,0,0,0⟩ 0 z)) wS) (WJ (by omega) rfl c.2.2.1.length 0 rfl (by omega))
def vX:bR→(bR×Int):=Fu
def VL:aA:=⟨[iT], [iT,yI],(@tt bR),vX⟩
theorem QN:Sd 156 VL:=aH ax cm true 50 [⟨156,7, [[1,2,5,22,23]]⟩] [] (fun A c=>M_ A c) Dh Nb (fc Tryz.func156 fz) (sc Bw (sc vE sz)) (fun A y=>match y with |.c0 p a1 a6=>⟨38,by kernel_rfl,by kernel_rfl⟩) fun c hp h=>SG
theorem aO{a b:Int}:ai.c .eql a b=decide (a=b):=by rw[aS,Bool.eq_iff_iff];simp
theorem wO{l:List aW}{x:aW}(h:l.length≤4264772374402):ai.c .leq (ai.l (ai.p l [x])) 4264772374403=true:=by
 rw[fO,aF,mK,List.length_append];exact decide_eq_true (by simp;omega)
theorem jL{l:List Int}(h:l.length≤70368744177664):ai.c .leq (ai.l l) 70368744177664=true:=by
 rw[fO,aF];exact decide_eq_true (by omega)
theorem jE{m:aW}(h:(m.1.length:Int)=0):(([]:List Int),m.2)=m:=Prod.ext (List.eq_nil_of_length_eq_zero (by omega)).symm rfl
open Go.Ev.Pl
def y_(c:bR):Bool:=decide (c.2.1.length≤70368744177664)&&(decide (c.2.2.1.length≤4264772374402)&&c.2.2.1.all fun m=>decide (m.1.length≤70368744177664))
theorem vL{c:bR}:y_ c=true↔c.2.1.length≤70368744177664∧c.2.2.1.length≤4264772374402∧∀x∈c.2.2.1,x.1.length≤70368744177664:=by
 simp[y_,List.all_eq_true]
theorem GL{c:bR}(h:dO c=true):y_ c=true:=by
 simp only[dO,Bool.and_eq_true,decide_eq_true_eq,List.all_eq_true,zO] at h
 exact vL.2 ⟨by omega,by omega,fun x hx=>by have:=(h.2.2.2.2.2 x hx).1;omega⟩
structure C7 where
 (a0:List aW) (a1 a2 a3 a4 a5 a6 a7:Int)
structure Fy where
 (b0:List aW) (b1 b2 b3 b4 b5 b6 b7:Int) (b8:List Int)
structure Df where
 (c0:List aW) (c2 c3 c4 c5 c6 c7:Int)
structure Dw where
 (d0:List aW) (d2 d3 d4 d5 d6 d7:Int) (d8:List Int)
inductive Iu where
 | c0 (p:C7)
 | c1 (p:Fy)
 | c2 (p:Df) (c1:Int) (c8:List aW)
 | c3 (p:Dw) (d1:Int) (d9:List aW)
noncomputable def Kt:Iu→fJ
 | .c0 p=>⟨[⟨16,36,(en [(1,.ptr 0 0),(2,.ptr 1 0),(3,.sl aM p.a0),(4,vi p.a1)]),[.inLoop (cw Tryz.f16 [1,1,1,1,0,1,0,0]),.inBlock 0,.code (cw Tryz.f16 [1,1,1,1,1])],[],none⟩],[.flat false [vi p.a2,.bZ true,.bZ true,vi p.a3,vi p.a4],.flat false [vi p.a5,.bZ true,.bZ true,vi p.a6,vi p.a7],.dead]⟩
 | .c1 p=>⟨[⟨16,36,(en [(1,.ptr 0 0),(2,.ptr 1 0),(3,.sl aM p.b0),(4,vi p.b1)]),[.inLoop (cw Tryz.f16 [1,1,1,1,0,1,0,0]),.inBlock 0,.code (cw Tryz.f16 [1,1,1,1,1])],[],none⟩],[.flat false [vi p.b2,.own 2,.bZ true,vi p.b3,vi p.b4],.flat false [vi p.b5,.bZ true,.bZ true,vi p.b6,vi p.b7],.arr false yU p.b8,.dead]⟩
 | .c2 p c1 c8=>⟨[⟨16,36,(en [(1,.ptr 0 0),(2,.ptr 1 0),(3,.sl aM p.c0),(4,vi c1)]),[.inLoop (cw Tryz.f16 [1,1,1,1,0,1,0,0]),.inBlock 0,.code (cw Tryz.f16 [1,1,1,1,1])],[],none⟩],[.flat false [vi p.c2,.bZ true,.own 2,vi p.c3,vi p.c4],.flat false [vi p.c5,.bZ true,.bZ true,vi p.c6,vi p.c7],.arr false aM c8,.dead]⟩
 | .c3 p d1 d9=>⟨[⟨16,36,(en [(1,.ptr 0 0),(2,.ptr 1 0),(3,.sl aM p.d0),(4,vi d1)]),[.inLoop (cw Tryz.f16 [1,1,1,1,0,1,0,0]),.inBlock 0,.code (cw Tryz.f16 [1,1,1,1,1])],[],none⟩],[.flat false [vi p.d2,.own 2,.own 3,vi p.d3,vi p.d4],.flat false [vi p.d5,.bZ true,.bZ true,vi p.d6,vi p.d7],.arr false yU p.d8,.arr false aM d9,.dead]⟩
def G5(A:aZ)(c:bR):LT bR Iu:=.br (A.c .eql (A.l c.2.1) 0) (.more (.c0 ⟨c.2.2.1,0,c.1,c.2.2.2.1,c.2.2.2.2,0,0,0⟩)) (.need (A.c .leq (A.l c.2.1) 70368744177664) (.more (.c1 ⟨c.2.2.1,0,c.1,c.2.2.2.1,c.2.2.2.2,0,0,0,c.2.1⟩)))
def nL(A:aZ):Iu→LT bR Iu
 | .c0 p=>.br (A.c .lss p.a1 (A.l p.a0)) (.need (A.and (A.c .leq 0 p.a1) (A.c .lss p.a1 (A.l p.a0))) (.need (A.and (A.c .leq 0 p.a1) (A.c .lss p.a1 (A.l p.a0))) (.br (A.c .eql (A.l (A.n aM p.a0 p.a1:aW).1) 0) (.need (A.and (A.c .leq 0 p.a1) (A.c .lss p.a1 (A.l p.a0))) (.need (A.c .leq (A.l ([(([]:List Int),(A.n aM p.a0 p.a1:aW).2)]:List aW)) 4264772374403) (.more (.c2 ⟨p.a0,p.a2,p.a3,p.a4,p.a5,p.a6,p.a7⟩ (A.b .add .i64 p.a1 1) [(([]:List Int),(A.n aM p.a0 p.a1:aW).2)])))) (.need (A.c .leq (A.l (A.n aM p.a0 p.a1:aW).1) 70368744177664) (.need (A.and (A.c .leq 0 p.a1) (A.c .lss p.a1 (A.l p.a0))) (.need (A.c .leq (A.l ([(A.n aM p.a0 p.a1:aW)]:List aW)) 4264772374403) (.more (.c2 ⟨p.a0,p.a2,p.a3,p.a4,p.a5,p.a6,p.a7⟩ (A.b .add .i64 p.a1 1) [(A.n aM p.a0 p.a1:aW)])))))))) (.ret (p.a2,([]:List Int),([]:List aW),p.a3,p.a4))
 | .c1 p=>.br (A.c .lss p.b1 (A.l p.b0)) (.need (A.and (A.c .leq 0 p.b1) (A.c .lss p.b1 (A.l p.b0))) (.need (A.and (A.c .leq 0 p.b1) (A.c .lss p.b1 (A.l p.b0))) (.br (A.c .eql (A.l (A.n aM p.b0 p.b1:aW).1) 0) (.need (A.and (A.c .leq 0 p.b1) (A.c .lss p.b1 (A.l p.b0))) (.need (A.c .leq (A.l ([(([]:List Int),(A.n aM p.b0 p.b1:aW).2)]:List aW)) 4264772374403) (.more (.c3 ⟨p.b0,p.b2,p.b3,p.b4,p.b5,p.b6,p.b7,p.b8⟩ (A.b .add .i64 p.b1 1) [(([]:List Int),(A.n aM p.b0 p.b1:aW).2)])))) (.need (A.c .leq (A.l (A.n aM p.b0 p.b1:aW).1) 70368744177664) (.need (A.and (A.c .leq 0 p.b1) (A.c .lss p.b1 (A.l p.b0))) (.need (A.c .leq (A.l ([(A.n aM p.b0 p.b1:aW)]:List aW)) 4264772374403) (.more (.c3 ⟨p.b0,p.b2,p.b3,p.b4,p.b5,p.b6,p.b7,p.b8⟩ (A.b .add .i64 p.b1 1) [(A.n aM p.b0 p.b1:aW)])))))))) (.ret (p.b2,p.b8,([]:List aW),p.b3,p.b4))
 | .c2 p c1 c8=>.br (A.c .lss c1 (A.l p.c0)) (.need (A.and (A.c .leq 0 c1) (A.c .lss c1 (A.l p.c0))) (.need (A.and (A.c .leq 0 c1) (A.c .lss c1 (A.l p.c0))) (.br (A.c .eql (A.l (A.n aM p.c0 c1:aW).1) 0) (.need (A.and (A.c .leq 0 c1) (A.c .lss c1 (A.l p.c0))) (.need (A.c .leq (A.l (A.p c8 [(([]:List Int),(A.n aM p.c0 c1:aW).2)])) 4264772374403) (.more (.c2 p (A.b .add .i64 c1 1) (A.p c8 [(([]:List Int),(A.n aM p.c0 c1:aW).2)]))))) (.need (A.c .leq (A.l (A.n aM p.c0 c1:aW).1) 70368744177664) (.need (A.and (A.c .leq 0 c1) (A.c .lss c1 (A.l p.c0))) (.need (A.c .leq (A.l (A.p c8 [(A.n aM p.c0 c1:aW)])) 4264772374403) (.more (.c2 p (A.b .add .i64 c1 1) (A.p c8 [(A.n aM p.c0 c1:aW)]))))))))) (.ret (p.c2,([]:List Int),c8,p.c3,p.c4))
 | .c3 p d1 d9=>.br (A.c .lss d1 (A.l p.d0)) (.need (A.and (A.c .leq 0 d1) (A.c .lss d1 (A.l p.d0))) (.need (A.and (A.c .leq 0 d1) (A.c .lss d1 (A.l p.d0))) (.br (A.c .eql (A.l (A.n aM p.d0 d1:aW).1) 0) (.need (A.and (A.c .leq 0 d1) (A.c .lss d1 (A.l p.d0))) (.need (A.c .leq (A.l (A.p d9 [(([]:List Int),(A.n aM p.d0 d1:aW).2)])) 4264772374403) (.more (.c3 p (A.b .add .i64 d1 1) (A.p d9 [(([]:List Int),(A.n aM p.d0 d1:aW).2)]))))) (.need (A.c .leq (A.l (A.n aM p.d0 d1:aW).1) 70368744177664) (.need (A.and (A.c .leq 0 d1) (A.c .lss d1 (A.l p.d0))) (.need (A.c .leq (A.l (A.p d9 [(A.n aM p.d0 d1:aW)])) 4264772374403) (.more (.c3 p (A.b .add .i64 d1 1) (A.p d9 [(A.n aM p.d0 d1:aW)]))))))))) (.ret (p.d2,p.d8,d9,p.d3,p.d4))
theorem He{l:List aW}{R:bR}{p:Df}(hp:p.c0=l)(hl:l.length≤4264772374402)(hd:∀x∈l,x.1.length≤70368744177664)(hR:aB (nL ai) (.more (.c2 p (l.length:Int) l)) R):∀(j i:Nat),l.length-i=j→i≤l.length→aB (nL ai) (.more (.c2 p (i:Int) (l.take i))) R:=by
 intro j
 induction j with
 | zero=>
  intro i hj hi
  have:i=l.length:=by omega
  subst this
  rw[List.take_length];exact hR
 | succ j ih=>
  intro i hj hi
  have hi':i<l.length:=by omega
  have hm:=ih (i+1) (by omega) (by omega)
  rw[List.take_succ_eq_append_getElem hi'] at hm
  have hx:=hd _ (List.getElem_mem hi')
  have e:(ai.n aM l (i:Int):aW)=l[i]:=getD_in hi' _
  have hsz:∀x:aW,ai.c .leq (ai.l (ai.p (l.take i) [x])) 4264772374403=true:=fun x=>wO (by rw[List.length_take];omega)
  rw[ak,nL]
  simp only[hp,e]
  refine(aj (by rw[cH];simp;omega)).2 (af.2 ⟨aK hi',af.2 ⟨aK hi',au (p:=(l[i].1.length:Int)=0) aO (fun h=>?_) fun h=>af.2 ⟨jL hx,?_⟩⟩⟩)
  ·repeat (refine af.2 ⟨aK hi',?_⟩)
   refine af.2 ⟨hsz _,?_⟩
   rw[jE h,cy (i:=i) (by omega)];exact hm
  ·repeat (refine af.2 ⟨aK hi',?_⟩)
   refine af.2 ⟨hsz _,?_⟩
   rw[cy (i:=i) (by omega)];exact hm
theorem Iy{l:List aW}{R:bR}{p:C7}(h0:p.a0=l)(h1:p.a1=0)(hne:0<l.length)(hl:l.length≤4264772374402)(hd:∀x∈l,x.1.length≤70368744177664)(hR:aB (nL ai) (.more (.c2 ⟨p.a0,p.a2,p.a3,p.a4,p.a5,p.a6,p.a7⟩ (l.length:Int) l)) R):aB (nL ai) (.more (.c0 p)) R:=by
 have hm:=He (p:=⟨p.a0,p.a2,p.a3,p.a4,p.a5,p.a6,p.a7⟩) h0 hl hd hR (l.length-1) 1 rfl (by omega)
 rw[List.take_succ_eq_append_getElem hne,List.take_zero,List.nil_append] at hm
 have hx:=hd _ (List.getElem_mem hne)
 have e:(ai.n aM l 0:aW)=l[0]:=getD_in (i:=0) hne _
 have hix:ai.and (ai.c .leq 0 0) (ai.c .lss 0 (ai.l l))=true:=aK (i:=0) hne
 have hlt:ai.c .lss 0 (ai.l l)=true:=by have:=cH (l:=l) (i:=0);rw[decide_eq_true hne] at this;exact this
 have hsz:∀x:aW,ai.c .leq (ai.l [x]) 4264772374403=true:=fun x=>rfl
 rw[ak,nL]
 simp only[h0,h1,e]
 simp only[h0] at hm
 refine(aj hlt).2 (af.2 ⟨hix,af.2 ⟨hix,au (p:=(l[0].1.length:Int)=0) aO (fun h=>?_) fun h=>af.2 ⟨jL hx,?_⟩⟩⟩)
 ·repeat (refine af.2 ⟨hix,?_⟩)
  refine af.2 ⟨hsz _,?_⟩
  rw[jE h];exact hm
 ·repeat (refine af.2 ⟨hix,?_⟩)
  exact af.2 ⟨hsz _,hm⟩
theorem GM{l:List aW}{R:bR}{p:Dw}(hp:p.d0=l)(hl:l.length≤4264772374402)(hd:∀x∈l,x.1.length≤70368744177664)(hR:aB (nL ai) (.more (.c3 p (l.length:Int) l)) R):∀(j i:Nat),l.length-i=j→i≤l.length→aB (nL ai) (.more (.c3 p (i:Int) (l.take i))) R:=by
 intro j
 induction j with
 | zero=>
  intro i hj hi
  have:i=l.length:=by omega
  subst this
  rw[List.take_length];exact hR
 | succ j ih=>
  intro i hj hi
  have hi':i<l.length:=by omega
  have hm:=ih (i+1) (by omega) (by omega)
  rw[List.take_succ_eq_append_getElem hi'] at hm
  have hx:=hd _ (List.getElem_mem hi')
  have e:(ai.n aM l (i:Int):aW)=l[i]:=getD_in hi' _
  have hsz:∀x:aW,ai.c .leq (ai.l (ai.p (l.take i) [x])) 4264772374403=true:=fun x=>wO (by rw[List.length_take];omega)
  rw[ak,nL]
  simp only[hp,e]
  refine(aj (by rw[cH];simp;omega)).2 (af.2 ⟨aK hi',af.2 ⟨aK hi',au (p:=(l[i].1.length:Int)=0) aO (fun h=>?_) fun h=>af.2 ⟨jL hx,?_⟩⟩⟩)
  ·repeat (refine af.2 ⟨aK hi',?_⟩)
   refine af.2 ⟨hsz _,?_⟩
   rw[jE h,cy (i:=i) (by omega)];exact hm
  ·repeat (refine af.2 ⟨aK hi',?_⟩)
   refine af.2 ⟨hsz _,?_⟩
   rw[cy (i:=i) (by omega)];exact hm
theorem Ib{l:List aW}{R:bR}{p:Fy}(h0:p.b0=l)(h1:p.b1=0)(hne:0<l.length)(hl:l.length≤4264772374402)(hd:∀x∈l,x.1.length≤70368744177664)(hR:aB (nL ai) (.more (.c3 ⟨p.b0,p.b2,p.b3,p.b4,p.b5,p.b6,p.b7,p.b8⟩ (l.length:Int) l)) R):aB (nL ai) (.more (.c1 p)) R:=by
 have hm:=GM (p:=⟨p.b0,p.b2,p.b3,p.b4,p.b5,p.b6,p.b7,p.b8⟩) h0 hl hd hR (l.length-1) 1 rfl (by omega)
 rw[List.take_succ_eq_append_getElem hne,List.take_zero,List.nil_append] at hm
 have hx:=hd _ (List.getElem_mem hne)
 have e:(ai.n aM l 0:aW)=l[0]:=getD_in (i:=0) hne _
 have hix:ai.and (ai.c .leq 0 0) (ai.c .lss 0 (ai.l l))=true:=aK (i:=0) hne
 have hlt:ai.c .lss 0 (ai.l l)=true:=by have:=cH (l:=l) (i:=0);rw[decide_eq_true hne] at this;exact this
 have hsz:∀x:aW,ai.c .leq (ai.l [x]) 4264772374403=true:=fun x=>rfl
 rw[ak,nL]
 simp only[h0,h1,e]
 simp only[h0] at hm
 refine(aj hlt).2 (af.2 ⟨hix,af.2 ⟨hix,au (p:=(l[0].1.length:Int)=0) aO (fun h=>?_) fun h=>af.2 ⟨jL hx,?_⟩⟩⟩)
 ·repeat (refine af.2 ⟨hix,?_⟩)
  refine af.2 ⟨hsz _,?_⟩
  rw[jE h];exact hm
 ·repeat (refine af.2 ⟨hix,?_⟩)
  exact af.2 ⟨hsz _,hm⟩
theorem MO{c:bR}(hp:y_ c=true):aB (nL ai) (G5 ai c) c:=by
 obtain⟨h1,h2,h3⟩:=vL.1 hp
 obtain⟨id,out,l,life,want⟩:=c
 unfold G5
 refine au (p:=(out.length:Int)=0) aO (fun h=>?_) fun h=>af.2 ⟨jL h1,?_⟩
 ·have ho:out=[]:=List.eq_nil_of_length_eq_zero (by omega)
  subst ho
  cases l with
  | nil=>exact ak.2 ((ah rfl).2 (.ret _))
  | cons x l=>exact Iy rfl rfl (Nat.succ_pos _) h2 h3 (ak.2 ((ah (by rw[cH];simp)).2 (.ret _)))
 ·cases l with
  | nil=>exact ak.2 ((ah rfl).2 (.ret _))
  | cons x l=>exact Ib rfl rfl (Nat.succ_pos _) h2 h3 (ak.2 ((ah (by rw[cH];simp)).2 (.ret _)))
def Eu:bR→bR:=fun c=>c
def zx:bR→Bool:=fun c=>y_ c
def UG:aA:=⟨[iT], [iT],zx,Eu⟩
theorem Ui:Sd 16 UG:=aH ax cm true 37 [⟨16,5, [[1,2,3,4]]⟩] [] (fun A c=>G5 A c) nL Kt (fc Tryz.func16 fz) sz (fun A y=>match y with |.c0 p=>⟨44,by kernel_rfl,by kernel_rfl⟩|.c1 p=>⟨44,by kernel_rfl,by kernel_rfl⟩|.c2 p c1 c8=>⟨44,by kernel_rfl,by kernel_rfl⟩|.c3 p d1 d9=>⟨44,by kernel_rfl,by kernel_rfl⟩) fun(c:bR) hp h=>by
 show aB (nL ai) (G5 ai c) (Eu c)
 exact MO (by simpa [zx] using hp)
open Go.Ev.Pl
structure L5 where
 (a0 a2:Int) (a3:List Int) (a4:bR) (a5 a6 a7:Int) (a9:bR) (bW dM a12:Int)
inductive FP where
 | c0 (p:L5) (a1:Int) (a8:List aW)
noncomputable def Kn:FP→fJ
 | .c0 p a1 a8=>⟨[⟨156,44,(en [(1,.ptr 0 0),(2,.ptr 1 0),(5,.own 2),(22,vi p.a0),(23,vi a1)]),[.inLoop (cw Tryz.f156 [1,1,1,1,0,1,0,0]),.inBlock 0,.code (cw Tryz.f156 [1,1,1,1,1])],[],none⟩,⟨166,42,(en [(1,vi p.a2),(2,.sl yU p.a3),(3,.ptr 3 0),(6,.ptr 4 0)]),[.ops (ow Tryz.f166 [1,0]) ((ow Tryz.f166 [1,0]).toList.drop 1),.code (cw Tryz.f166 [1,1])],[],none⟩],[.flat false [vi p.a4.1,.sl yU p.a4.2.1,.sl aM p.a4.2.2.1,vi p.a4.2.2.2.1,vi p.a4.2.2.2.2],.flat false [vi p.a5,.bZ true,.bZ true,vi p.a6,vi p.a7],.arr false aM a8,.flat false [vi p.a9.1,.sl yU p.a9.2.1,.sl aM p.a9.2.2.1,vi p.a9.2.2.2.1,vi p.a9.2.2.2.2],.flat false [vi p.bW,.bZ true,.bZ true,vi p.dM,vi p.a12],.dead]⟩
def MQ(A:aZ)(c:bR)(slot:Int)(data:List Int):LT (bR×Int) FP:=.need (A.k (@tt bR) c) (.br (A.c .neq (A.k ij c) 0) (.br (A.c .neq (A.k ij c) 0) (.ret ((0,([]:List Int),([]:List aW),0,0),(A.k ij c))) (.need (A.k (@tt (Int×Int×Int)) (slot,0,(A.b .sub .i64 (A.l c.2.2.1) 1))) (.br (A.not (A.k kN (slot,0,(A.b .sub .i64 (A.l c.2.2.1) 1)))) (.ret ((0,([]:List Int),([]:List aW),0,0),2)) (.br (A.c .gtr (A.l data) 8) (.ret ((0,([]:List Int),([]:List aW),0,0),3)) (.need (A.k (@tt (List Int)) data) (.bad 37 "cni.go:107")))))) (.need (A.and (A.c .eql (A.l c.2.2.1) (A.l c.2.2.1)) (A.and (A.c .leq 0 (A.l c.2.2.1)) (A.c .leq (A.l c.2.2.1) 4264772374403))) (.more (.c0 ⟨(A.l (A.spl (A.r (A.l c.2.2.1) (Ty.gH aM:aW)) 0 (A.s c.2.2.1 0 (A.mn (A.l c.2.2.1) (A.l (A.r (A.l c.2.2.1) (Ty.gH aM:aW))))))),slot,data,c,0,0,0,c,0,0,0⟩ 0 (A.spl (A.r (A.l c.2.2.1) (Ty.gH aM:aW)) 0 (A.s c.2.2.1 0 (A.mn (A.l c.2.2.1) (A.l (A.r (A.l c.2.2.1) (Ty.gH aM:aW))))))))))
def CJ(A:aZ):FP→LT (bR×Int) FP
 | .c0 p a1 a8=>.br (A.c .lss a1 p.a0) (.need (A.and (A.c .leq 0 a1) (A.c .lss a1 (A.l a8))) (.need (A.k (@tt (List Int)) (A.n aM a8 a1:aW).1) (.need (A.and (A.c .leq 0 a1) (A.c .lss a1 (A.l a8))) (.more (.c0 p (A.b .add .i64 a1 1) (A.set a8 a1 ((A.k lN (A.n aM a8 a1:aW).1),(A.n aM a8 a1:aW).2))))))) (.need (A.k (@tt (List Int)) p.a4.2.1) (.need (A.k (@tt (Int×Int×Int)) (p.a2,0,(A.b .sub .i64 (A.l p.a9.2.2.1) 1))) (.br (A.not (A.k kN (p.a2,0,(A.b .sub .i64 (A.l p.a9.2.2.1) 1)))) (.ret ((0,([]:List Int),([]:List aW),0,0),2)) (.br (A.c .gtr (A.l p.a3) 8) (.ret ((0,([]:List Int),([]:List aW),0,0),3)) (.need (A.k (@tt (List Int)) p.a3) (.need (A.and (A.c .leq 0 p.a2) (A.c .lss p.a2 (A.l a8))) (.ret ((p.a4.1,(A.k lN p.a4.2.1),(A.set a8 p.a2 ((A.k lN p.a3),0)),p.a4.2.2.2),0))))))))
def yP(c:bR)(slot:Int)(data:List Int):bR×Int:=
 bif dO c then(bif decide (0≤slot∧slot≤(c.2.2.1.length:Int)-1) then(bif decide (8<(data.length:Int)) then(wB,3) else((c.1,c.2.1,c.2.2.1.set slot.toNat (data,0),c.2.2.2),0)) else(wB,2)) else(wB,120)
def W5:bR×Int×List Int→bR×Int:=fun(c,slot,data)=>yP c slot data
theorem rD{c:bR}(h:dO c=true):4≤c.2.2.1.length∧c.2.2.1.length≤8∧c.2.1.length≤8∧∀x∈c.2.2.1,x.1.length≤8∧0≤x.2∧x.2≤255:=by
 simp only[dO,Bool.and_eq_true,decide_eq_true_eq,List.all_eq_true,zO] at h
 exact⟨by omega,by omega,by omega,fun x hx=>by have:=h.2.2.2.2.2 x hx;exact⟨by omega,this.2⟩⟩
theorem yZ{c:bR}(h:dO c=true):ai.and (ai.c .eql (ai.l c.2.2.1) (ai.l c.2.2.1)) (ai.and (ai.c .leq 0 (ai.l c.2.2.1)) (ai.c .leq (ai.l c.2.2.1) 4264772374403))=true:=by
 have:=rD h
 rw[fO,aS,aF,aF,aU,aU];simp;omega
theorem yz{l:List aW}{i:Nat}(hi:i<l.length):ai.set l (i:Int) ((ai.k lN (ai.n aM l (i:Int):aW).1),(ai.n aM l (i:Int):aW).2)=l:=by
 rw[show(ai.n aM l (i:Int):aW)=l[i] from getD_in hi _]
 show l.set (i:Int).toNat l[i]=l
 rw[Int.toNat_natCast];exact List.set_getElem_self _
theorem XP{c:bR}{L slot z1 z2 z3 z4 z5 z6:Int}{data:List Int}{R:bR×Int}(hl:c.2.2.1.length≤8)(hL:L=(c.2.2.1.length:Int))(hR:aB (CJ ai) (.more (.c0 ⟨L,slot,data,c,z1,z2,z3,c,z4,z5,z6⟩ (c.2.2.1.length:Int) c.2.2.1)) R) :
  ∀(j i:Nat),c.2.2.1.length-i=j→i≤c.2.2.1.length→aB (CJ ai) (.more (.c0 ⟨L,slot,data,c,z1,z2,z3,c,z4,z5,z6⟩ (i:Int) c.2.2.1)) R:=by
 subst hL
 intro j
 induction j with
 | zero=>
  intro i hj hi
  have:i=c.2.2.1.length:=by omega
  subst this
  exact hR
 | succ j ih=>
  intro i hj hi
  have hi':i<c.2.2.1.length:=by omega
  rw[ak,CJ]
  refine(aj (by rw[aJ];simp;omega)).2 (af.2 ⟨aK hi',af.2 ⟨rfl,af.2 ⟨aK hi',?_⟩⟩⟩)
  rw[yz hi',cy (i:=i) (by omega)]
  exact ih (i+1) (by omega) (by omega)
theorem Wn{c:bR}{slot:Int}{data:List Int}:aB (CJ ai) (MQ ai c slot data) (yP c slot data):=by
 unfold MQ yP
 refine af.2 ⟨rfl,?_⟩
 rw[show ai.k ij c=jk c from rfl,jk]
 cases hc:dO c
 ·exact(aj rfl).2 ((aj rfl).2 (.ret _))
 ·obtain⟨h1,h2,_,_⟩:=rD hc
  refine(ah rfl).2 (af.2 ⟨yZ hc,bi (congrArg (fun z:List aW=>LT.more (FP.c0 ⟨ai.l z,slot,data,c,0,0,0,c,0,0,0⟩ 0 z)) wS) (XP h2 rfl ?_ c.2.2.1.length 0 rfl (by omega))⟩)
  rw[ak,CJ]
  have hs:ai.b .sub .i64 (c.2.2.1.length:Int) 1=(c.2.2.1.length:Int)-1:=by rw[bl,fQ (by omega) (by omega)]
  refine(ah (by rw[aJ];simp)).2 (af.2 ⟨rfl,af.2 ⟨rfl,?_⟩⟩)
  rw[zj]
  simp only[fO,hs]
  refine dT (fun h=>?_) fun h3=>au (p:=8<(data.length:Int)) rfl (fun h=>?_) fun h4=>af.2 ⟨rfl,af.2 ⟨?_,?_⟩⟩
  ·rw[decide_eq_false h];exact .ret _
  ·rw[decide_eq_true h3,decide_eq_true h];exact .ret _
  ·rw[aF,ar,aU];simp;omega
  ·rw[decide_eq_true h3,decide_eq_false h4];exact .ret _
def xM:(bR×Int×List Int)→(bR×Int):=W5
def RA:aA:=⟨[iT,yI,yB], [iT,yI],(@tt (bR×Int×List Int)),xM⟩
theorem Sq:Sd 166 RA:=aH ax cm true 89 [⟨156,7, [[1,2,5,22,23], [1,2,3,6]]⟩] [] (fun A (c,slot,data)=>MQ A c slot data) CJ Kn (fc Tryz.func166 (fc Tryz.func156 fz)) (sc Bw (sc vE (sc AP sz))) (fun A y=>match y with |.c0 p a1 a8=>⟨86,by kernel_rfl,by kernel_rfl⟩) fun(c,slot,data) hp h=>Wn
structure LY where
 (a0 a1 a2 a3 a4 a5 a6 a7:Int)
structure Lx where
 (b0:Int) (b2:bR) (b3 b4 b5 b7 b8 b9:Int)
structure MX where
 (c0 c2 c3 c4 c5:Int) (c6:List Int) (c7 c8:Int)
inductive Fi where
 | c0 (p:LY)
 | c1 (p:Lx) (b1:Int) (b6:List aW)
 | c2 (p:MX) (c1:Int) (c9:List aW)
noncomputable def Nu:Fi→fJ
 | .c0 p=>⟨[⟨119,42,(en [(2,.ptr 0 0),(4,.ptr 1 0),(18,vi p.a0),(19,vi p.a1)]),[.inLoop (cw Tryz.f119 [1,1,1,0,1,0,0]),.inBlock 0,.code (cw Tryz.f119 [1,1,1,1])],[],none⟩],[.flat false [vi p.a2,.bZ true,.bZ true,vi p.a3,vi p.a4],.flat false [vi p.a5,.bZ true,.bZ true,vi p.a6,vi p.a7],.dead]⟩
 | .c1 p b1 b6=>⟨[⟨156,44,(en [(1,.ptr 0 0),(2,.ptr 1 0),(5,.own 2),(22,vi p.b0),(23,vi b1)]),[.inLoop (cw Tryz.f156 [1,1,1,1,0,1,0,0]),.inBlock 0,.code (cw Tryz.f156 [1,1,1,1,1])],[],none⟩,⟨119,42,(en [(2,.ptr 3 0)]),[.ops (ow Tryz.f119 [1,0]) ((ow Tryz.f119 [1,0]).toList.drop 1),.code (cw Tryz.f119 [1,1])],[],none⟩],[.flat false [vi p.b2.1,.sl yU p.b2.2.1,.sl aM p.b2.2.2.1,vi p.b2.2.2.2.1,vi p.b2.2.2.2.2],.flat false [vi p.b3,.bZ true,.bZ true,vi p.b4,vi p.b5],.arr false aM b6,.flat false [vi p.b7,.bZ true,.bZ true,vi p.b8,vi p.b9],.dead]⟩
 | .c2 p c1 c9=>⟨[⟨119,42,(en [(2,.ptr 0 0),(4,.ptr 1 0),(18,vi p.c0),(19,vi c1)]),[.inLoop (cw Tryz.f119 [1,1,1,0,1,0,0]),.inBlock 0,.code (cw Tryz.f119 [1,1,1,1])],[],none⟩],[.flat false [vi p.c2,.bZ true,.bZ true,vi p.c3,vi p.c4],.flat false [vi p.c5,.sl yU p.c6,.own 2,vi p.c7,vi p.c8],.arr false aM c9,.dead]⟩
def Lt(A:aZ)(c:bR):LT (bR×Int) Fi:=.need (A.k (@tt bR) c) (.br (A.c .neq (A.k ij c) 0) (.br (A.c .neq (A.k ij c) 0) (.ret ((0,([]:List Int),([]:List aW),0,0),(A.k ij c))) (.more (.c0 ⟨0,0,0,0,0,0,0,0⟩))) (.need (A.and (A.c .eql (A.l c.2.2.1) (A.l c.2.2.1)) (A.and (A.c .leq 0 (A.l c.2.2.1)) (A.c .leq (A.l c.2.2.1) 4264772374403))) (.more (.c1 ⟨(A.l (A.spl (A.r (A.l c.2.2.1) (Ty.gH aM:aW)) 0 (A.s c.2.2.1 0 (A.mn (A.l c.2.2.1) (A.l (A.r (A.l c.2.2.1) (Ty.gH aM:aW))))))),c,0,0,0,0,0,0⟩ 0 (A.spl (A.r (A.l c.2.2.1) (Ty.gH aM:aW)) 0 (A.s c.2.2.1 0 (A.mn (A.l c.2.2.1) (A.l (A.r (A.l c.2.2.1) (Ty.gH aM:aW))))))))))
def wD(A:aZ):Fi→LT (bR×Int) Fi
 | .c0 p=>.br (A.c .lss p.a1 p.a0) (.bad 37 "cni.go:118") (.ret ((p.a5,([]:List Int),([]:List aW),(A.mx (A.b .sub .i64 p.a6 1) 0),p.a7),0))
 | .c1 p b1 b6=>.br (A.c .lss b1 p.b0) (.need (A.and (A.c .leq 0 b1) (A.c .lss b1 (A.l b6))) (.need (A.k (@tt (List Int)) (A.n aM b6 b1:aW).1) (.need (A.and (A.c .leq 0 b1) (A.c .lss b1 (A.l b6))) (.more (.c1 p (A.b .add .i64 b1 1) (A.set b6 b1 ((A.k lN (A.n aM b6 b1:aW).1),(A.n aM b6 b1:aW).2))))))) (.need (A.k (@tt (List Int)) p.b2.2.1) (.more (.c2 ⟨(A.l b6),p.b7,p.b8,p.b9,p.b2.1,(A.k lN p.b2.2.1),p.b2.2.2.2.1,p.b2.2.2.2.2⟩ 0 b6)))
 | .c2 p c1 c9=>.br (A.c .lss c1 p.c0) (.need (A.and (A.c .leq 0 c1) (A.c .lss c1 (A.l c9))) (.need (A.and (A.c .leq 0 c1) (A.c .lss c1 (A.l c9))) (.more (.c2 p (A.b .add .i64 c1 1) (A.set c9 c1 ((A.n aM c9 c1:aW).1,(A.mn (A.b .add .i64 (A.n aM c9 c1:aW).2 1) 255))))))) (.ret ((p.c5,p.c6,c9,(A.mx (A.b .sub .i64 p.c7 1) 0),p.c8),0))
def mY(m:aW):aW:=(m.1,ai.mn (ai.b .add .i64 m.2 1) 255)
def v_(c:bR):bR×Int:=bif dO c then((c.1,c.2.1,c.2.2.1.map mY,ai.mx (ai.b .sub .i64 c.2.2.2.1 1) 0,c.2.2.2.2),0) else(wB,120)
theorem zJ{f:aW→aW}{l:List aW}{i:Nat}(hi:i<l.length):(ai.n aM ((l.take i).map f++l.drop i) (i:Int):aW)=l[i]∧ai.set ((l.take i).map f++l.drop i) (i:Int) (f l[i])=(l.take (i+1)).map f++l.drop (i+1):=by
 have hlen:i<((l.take i).map f++l.drop i).length:=by simp;omega
 have h1:((l.take i).map f).length=i:=by simp;omega
 constructor
 ·refine(getD_in hlen _).trans ?_
  rw[List.getElem_append_right (by rw[h1];exact Nat.le_refl _)]
  rw[List.getElem_drop]
  congr 1
  omega
 ·show List.set _ (i:Int).toNat _=_
  rw[Int.toNat_natCast,List.set_append_right _ _ (by rw[h1];exact Nat.le_refl _),h1,Nat.sub_self,List.drop_eq_getElem_cons hi,List.set_cons_zero,List.take_succ_eq_append_getElem hi,List.map_append,List.append_assoc]
  rfl
theorem oR{f:aW→aW}{l:List aW}{i:Nat}(hi:i≤l.length):((l.take i).map f++l.drop i).length=l.length:=by simp;omega
theorem Xo{c:bR}{L z1 z2 z3 z4 z5 z6:Int}{R:bR×Int}(hl:c.2.2.1.length≤8)(hL:L=(c.2.2.1.length:Int))(hR:aB (wD ai) (.more (.c1 ⟨L,c,z1,z2,z3,z4,z5,z6⟩ (c.2.2.1.length:Int) c.2.2.1)) R) :
  ∀(j i:Nat),c.2.2.1.length-i=j→i≤c.2.2.1.length→aB (wD ai) (.more (.c1 ⟨L,c,z1,z2,z3,z4,z5,z6⟩ (i:Int) c.2.2.1)) R:=by
 subst hL
 intro j
 induction j with
 | zero=>
  intro i hj hi
  have:i=c.2.2.1.length:=by omega
  subst this
  exact hR
 | succ j ih=>
  intro i hj hi
  have hi':i<c.2.2.1.length:=by omega
  rw[ak,wD]
  refine(aj (by rw[aJ];simp;omega)).2 (af.2 ⟨aK hi',af.2 ⟨rfl,af.2 ⟨aK hi',?_⟩⟩⟩)
  rw[yz hi',cy (i:=i) (by omega)]
  exact ih (i+1) (by omega) (by omega)
theorem Wk{l:List aW}{L z1 z2 z3 id life want:Int}{out:List Int}(hl:l.length≤8)(hL:L=(l.length:Int)):∀(j i:Nat),l.length-i=j→i≤l.length→
  aB (wD ai) (.more (.c2 ⟨L,z1,z2,z3,id,out,life,want⟩ (i:Int) ((l.take i).map mY++l.drop i))) ((id,out,l.map mY,ai.mx (ai.b .sub .i64 life 1) 0,want),0):=by
 subst hL
 intro j
 induction j with
 | zero=>
  intro i hj hi
  have:i=l.length:=by omega
  subst this
  rw[ak,wD,List.take_length,List.drop_length,List.append_nil]
  exact(ah (by rw[aJ];simp)).2 (.ret _)
 | succ j ih=>
  intro i hj hi
  have hi':i<l.length:=by omega
  have hx:i<((l.take i).map mY++l.drop i).length:=by rw[oR hi];exact hi'
  obtain⟨a1,a2⟩:=zJ (f:=mY) hi'
  rw[ak,wD]
  refine(aj (by rw[aJ];simp;omega)).2 (af.2 ⟨aK hx,af.2 ⟨aK hx,?_⟩⟩)
  rw[a1,cy (i:=i) (by omega)]
  rw[show(l[i].1,ai.mn (ai.b .add .i64 l[i].2 1) 255)=mY l[i] from rfl,a2]
  exact ih (i+1) (by omega) (by omega)
theorem XI{c:bR}:aB (wD ai) (Lt ai c) (v_ c):=by
 unfold Lt v_
 refine af.2 ⟨rfl,?_⟩
 rw[show ai.k ij c=jk c from rfl,jk]
 cases hc:dO c
 ·exact(aj rfl).2 ((aj rfl).2 (.ret _))
 ·obtain⟨h1,h2,_,_⟩:=rD hc
  refine(ah rfl).2 (af.2 ⟨yZ hc,bi (congrArg (fun z:List aW=>LT.more (Fi.c1 ⟨ai.l z,c,0,0,0,0,0,0⟩ 0 z)) wS) (Xo h2 rfl ?_ c.2.2.1.length 0 rfl (by omega))⟩)
  rw[ak,wD]
  exact(ah (by rw[aJ];simp)).2 (af.2 ⟨rfl,Wk (l:=c.2.2.1) (out:=c.2.1) h2 rfl c.2.2.1.length 0 rfl (by omega)⟩)
def Gk:bR→(bR×Int):=v_
def PQ:aA:=⟨[iT], [iT,yI],(@tt bR),Gk⟩
theorem U0:Sd 119 PQ:=aH ax cm true 68 [⟨119,5, [[2,4,18,19]]⟩,⟨156,7, [[1,2,5,22,23], [2]]⟩] [] (fun A c=>Lt A c) wD Nu (fc Tryz.func119 (fc Tryz.func156 fz)) (sc Bw (sc vE sz)) (fun A y=>match y with |.c0 p=>⟨28,by kernel_rfl,by kernel_rfl⟩|.c1 p b1 b6=>⟨56,by kernel_rfl,by kernel_rfl⟩|.c2 p c1 c9=>⟨41,by kernel_rfl,by kernel_rfl⟩) fun c hp h=>XI
open Go.Ev.Pl
structure D5 where
 (a0:List aW) (a1 a2 a3 a4 a5 a6 a7:Int) (a8:bR) (a9 bW dM:Int)
structure Dp where
 (b0:List aW) (b1 b2 b3 b4 b5 b6 b7:Int) (b8:bR) (b9 b10 b11:Int) (b12:List Int)
structure Fc where
 (c0:List aW) (c2 c3 c4 c5 c6 c7:Int) (c8:bR) (c9 c10 c11:Int)
structure NM where
 (d0 d1 d2 d3 d4 d5 d6:Int)
structure E2 where
 (e0:List aW) (e2 e3 e4 e5 e6 e7:Int) (e8:bR) (e9 e10 e11:Int) (e12:List Int)
structure J4 where
 (f0 f1 f2 f3 f4 f5 f6:Int) (f7:List Int)
structure Gj where
 (g1 g2 g3 g4 g5 g6:Int)
structure Dv where
 (h1 h2 h3 h4 h5 h6:Int) (h7:List Int)
inductive Ik where
 | c0 (p:D5)
 | c1 (p:Dp)
 | c2 (p:Fc) (c1:Int) (c12:List aW)
 | c3 (p:NM)
 | c4 (p:E2) (e1:Int) (e13:List aW)
 | c5 (p:J4)
 | c6 (p:Gj) (g0:Int) (g7:List aW)
 | c7 (p:Dv) (h0:Int) (h8:List aW)
noncomputable def Ka:Ik→fJ
 | .c0 p=>⟨[⟨16,36,(en [(1,.ptr 0 0),(2,.ptr 1 0),(3,.sl aM p.a0),(4,vi p.a1)]),[.inLoop (cw Tryz.f16 [1,1,1,1,0,1,0,0]),.inBlock 0,.code (cw Tryz.f16 [1,1,1,1,1])],[],none⟩,⟨121,40,(en [(1,.ptr 2 0),(2,.ptr 3 0)]),[.ops (ow Tryz.f121 [1,1,0]) ((ow Tryz.f121 [1,1,0]).toList.drop 1),.code (cw Tryz.f121 [1,1,1])],[],none⟩],[.flat false [vi p.a2,.bZ true,.bZ true,vi p.a3,vi p.a4],.flat false [vi p.a5,.bZ true,.bZ true,vi p.a6,vi p.a7],.flat false [vi p.a8.1,.sl yU p.a8.2.1,.sl aM p.a8.2.2.1,vi p.a8.2.2.2.1,vi p.a8.2.2.2.2],.flat false [vi p.a9,.bZ true,.bZ true,vi p.bW,vi p.dM],.dead]⟩
 | .c1 p=>⟨[⟨16,36,(en [(1,.ptr 0 0),(2,.ptr 1 0),(3,.sl aM p.b0),(4,vi p.b1)]),[.inLoop (cw Tryz.f16 [1,1,1,1,0,1,0,0]),.inBlock 0,.code (cw Tryz.f16 [1,1,1,1,1])],[],none⟩,⟨121,40,(en [(1,.ptr 2 0),(2,.ptr 3 0)]),[.ops (ow Tryz.f121 [1,1,0]) ((ow Tryz.f121 [1,1,0]).toList.drop 1),.code (cw Tryz.f121 [1,1,1])],[],none⟩],[.flat false [vi p.b2,.own 4,.bZ true,vi p.b3,vi p.b4],.flat false [vi p.b5,.bZ true,.bZ true,vi p.b6,vi p.b7],.flat false [vi p.b8.1,.sl yU p.b8.2.1,.sl aM p.b8.2.2.1,vi p.b8.2.2.2.1,vi p.b8.2.2.2.2],.flat false [vi p.b9,.bZ true,.bZ true,vi p.b10,vi p.b11],.arr false yU p.b12,.dead]⟩
 | .c2 p c1 c12=>⟨[⟨16,36,(en [(1,.ptr 0 0),(2,.ptr 1 0),(3,.sl aM p.c0),(4,vi c1)]),[.inLoop (cw Tryz.f16 [1,1,1,1,0,1,0,0]),.inBlock 0,.code (cw Tryz.f16 [1,1,1,1,1])],[],none⟩,⟨121,40,(en [(1,.ptr 2 0),(2,.ptr 3 0)]),[.ops (ow Tryz.f121 [1,1,0]) ((ow Tryz.f121 [1,1,0]).toList.drop 1),.code (cw Tryz.f121 [1,1,1])],[],none⟩],[.flat false [vi p.c2,.bZ true,.own 4,vi p.c3,vi p.c4],.flat false [vi p.c5,.bZ true,.bZ true,vi p.c6,vi p.c7],.flat false [vi p.c8.1,.sl yU p.c8.2.1,.sl aM p.c8.2.2.1,vi p.c8.2.2.2.1,vi p.c8.2.2.2.2],.flat false [vi p.c9,.bZ true,.bZ true,vi p.c10,vi p.c11],.arr false aM c12,.dead]⟩
 | .c3 p=>⟨[⟨121,40,(en [(1,.ptr 0 0),(2,.ptr 1 0),(5,vi p.d0)]),[.inLoop (cw Tryz.f121 [1,1,1,0,1,0,0]),.inBlock 0,.code (cw Tryz.f121 [1,1,1,1])],[],none⟩],[.flat false [vi p.d1,.bZ true,.bZ true,vi p.d2,vi p.d3],.flat false [vi p.d4,.bZ true,.bZ true,vi p.d5,vi p.d6],.dead]⟩
 | .c4 p e1 e13=>⟨[⟨16,36,(en [(1,.ptr 0 0),(2,.ptr 1 0),(3,.sl aM p.e0),(4,vi e1)]),[.inLoop (cw Tryz.f16 [1,1,1,1,0,1,0,0]),.inBlock 0,.code (cw Tryz.f16 [1,1,1,1,1])],[],none⟩,⟨121,40,(en [(1,.ptr 2 0),(2,.ptr 3 0)]),[.ops (ow Tryz.f121 [1,1,0]) ((ow Tryz.f121 [1,1,0]).toList.drop 1),.code (cw Tryz.f121 [1,1,1])],[],none⟩],[.flat false [vi p.e2,.own 4,.own 5,vi p.e3,vi p.e4],.flat false [vi p.e5,.bZ true,.bZ true,vi p.e6,vi p.e7],.flat false [vi p.e8.1,.sl yU p.e8.2.1,.sl aM p.e8.2.2.1,vi p.e8.2.2.2.1,vi p.e8.2.2.2.2],.flat false [vi p.e9,.bZ true,.bZ true,vi p.e10,vi p.e11],.arr false yU p.e12,.arr false aM e13,.dead]⟩
 | .c5 p=>⟨[⟨121,40,(en [(1,.ptr 0 0),(2,.ptr 1 0),(5,vi p.f0)]),[.inLoop (cw Tryz.f121 [1,1,1,0,1,0,0]),.inBlock 0,.code (cw Tryz.f121 [1,1,1,1])],[],none⟩],[.flat false [vi p.f1,.own 2,.bZ true,vi p.f2,vi p.f3],.flat false [vi p.f4,.bZ true,.bZ true,vi p.f5,vi p.f6],.arr false yU p.f7,.dead]⟩
 | .c6 p g0 g7=>⟨[⟨121,40,(en [(1,.ptr 0 0),(2,.ptr 1 0),(5,vi g0)]),[.inLoop (cw Tryz.f121 [1,1,1,0,1,0,0]),.inBlock 0,.code (cw Tryz.f121 [1,1,1,1])],[],none⟩],[.flat false [vi p.g1,.bZ true,.own 2,vi p.g2,vi p.g3],.flat false [vi p.g4,.bZ true,.bZ true,vi p.g5,vi p.g6],.arr false aM g7,.dead]⟩
 | .c7 p h0 h8=>⟨[⟨121,40,(en [(1,.ptr 0 0),(2,.ptr 1 0),(5,vi h0)]),[.inLoop (cw Tryz.f121 [1,1,1,0,1,0,0]),.inBlock 0,.code (cw Tryz.f121 [1,1,1,1])],[],none⟩],[.flat false [vi p.h1,.own 2,.own 3,vi p.h2,vi p.h3],.flat false [vi p.h4,.bZ true,.bZ true,vi p.h5,vi p.h6],.arr false yU p.h7,.arr false aM h8,.dead]⟩
def KB(A:aZ)(c:bR):LT (bR×Int) Ik:=.need (A.k (@tt bR) c) (.br (A.c .neq (A.k qU c) 0) (.ret ((0,([]:List Int),([]:List aW),0,0),(A.k qU c))) (.br (A.c .eql (A.l c.2.1) 0) (.more (.c0 ⟨c.2.2.1,0,c.1,c.2.2.2.1,c.2.2.2.2,0,0,0,c,0,0,0⟩)) (.need (A.c .leq (A.l c.2.1) 70368744177664) (.more (.c1 ⟨c.2.2.1,0,c.1,c.2.2.2.1,c.2.2.2.2,0,0,0,c,0,0,0,c.2.1⟩)))))
def jX(A:aZ):Ik→LT (bR×Int) Ik
 | .c0 p=>.br (A.c .lss p.a1 (A.l p.a0)) (.need (A.and (A.c .leq 0 p.a1) (A.c .lss p.a1 (A.l p.a0))) (.need (A.and (A.c .leq 0 p.a1) (A.c .lss p.a1 (A.l p.a0))) (.br (A.c .eql (A.l (A.n aM p.a0 p.a1:aW).1) 0) (.need (A.and (A.c .leq 0 p.a1) (A.c .lss p.a1 (A.l p.a0))) (.need (A.c .leq (A.l ([(([]:List Int),(A.n aM p.a0 p.a1:aW).2)]:List aW)) 4264772374403) (.more (.c2 ⟨p.a0,p.a2,p.a3,p.a4,p.a5,p.a6,p.a7,p.a8,p.a9,p.bW,p.dM⟩ (A.b .add .i64 p.a1 1) [(([]:List Int),(A.n aM p.a0 p.a1:aW).2)])))) (.need (A.c .leq (A.l (A.n aM p.a0 p.a1:aW).1) 70368744177664) (.need (A.and (A.c .leq 0 p.a1) (A.c .lss p.a1 (A.l p.a0))) (.need (A.c .leq (A.l ([(A.n aM p.a0 p.a1:aW)]:List aW)) 4264772374403) (.more (.c2 ⟨p.a0,p.a2,p.a3,p.a4,p.a5,p.a6,p.a7,p.a8,p.a9,p.bW,p.dM⟩ (A.b .add .i64 p.a1 1) [(A.n aM p.a0 p.a1:aW)])))))))) (.more (.c3 ⟨0,p.a2,p.a3,p.a4,p.a9,p.bW,p.dM⟩))
 | .c1 p=>.br (A.c .lss p.b1 (A.l p.b0)) (.need (A.and (A.c .leq 0 p.b1) (A.c .lss p.b1 (A.l p.b0))) (.need (A.and (A.c .leq 0 p.b1) (A.c .lss p.b1 (A.l p.b0))) (.br (A.c .eql (A.l (A.n aM p.b0 p.b1:aW).1) 0) (.need (A.and (A.c .leq 0 p.b1) (A.c .lss p.b1 (A.l p.b0))) (.need (A.c .leq (A.l ([(([]:List Int),(A.n aM p.b0 p.b1:aW).2)]:List aW)) 4264772374403) (.more (.c4 ⟨p.b0,p.b2,p.b3,p.b4,p.b5,p.b6,p.b7,p.b8,p.b9,p.b10,p.b11,p.b12⟩ (A.b .add .i64 p.b1 1) [(([]:List Int),(A.n aM p.b0 p.b1:aW).2)])))) (.need (A.c .leq (A.l (A.n aM p.b0 p.b1:aW).1) 70368744177664) (.need (A.and (A.c .leq 0 p.b1) (A.c .lss p.b1 (A.l p.b0))) (.need (A.c .leq (A.l ([(A.n aM p.b0 p.b1:aW)]:List aW)) 4264772374403) (.more (.c4 ⟨p.b0,p.b2,p.b3,p.b4,p.b5,p.b6,p.b7,p.b8,p.b9,p.b10,p.b11,p.b12⟩ (A.b .add .i64 p.b1 1) [(A.n aM p.b0 p.b1:aW)])))))))) (.more (.c5 ⟨0,p.b2,p.b3,p.b4,p.b9,p.b10,p.b11,p.b12⟩))
 | .c2 p c1 c12=>.br (A.c .lss c1 (A.l p.c0)) (.need (A.and (A.c .leq 0 c1) (A.c .lss c1 (A.l p.c0))) (.need (A.and (A.c .leq 0 c1) (A.c .lss c1 (A.l p.c0))) (.br (A.c .eql (A.l (A.n aM p.c0 c1:aW).1) 0) (.need (A.and (A.c .leq 0 c1) (A.c .lss c1 (A.l p.c0))) (.need (A.c .leq (A.l (A.p c12 [(([]:List Int),(A.n aM p.c0 c1:aW).2)])) 4264772374403) (.more (.c2 p (A.b .add .i64 c1 1) (A.p c12 [(([]:List Int),(A.n aM p.c0 c1:aW).2)]))))) (.need (A.c .leq (A.l (A.n aM p.c0 c1:aW).1) 70368744177664) (.need (A.and (A.c .leq 0 c1) (A.c .lss c1 (A.l p.c0))) (.need (A.c .leq (A.l (A.p c12 [(A.n aM p.c0 c1:aW)])) 4264772374403) (.more (.c2 p (A.b .add .i64 c1 1) (A.p c12 [(A.n aM p.c0 c1:aW)]))))))))) (.more (.c6 ⟨p.c2,p.c3,p.c4,p.c9,p.c10,p.c11⟩ 0 c12))
 | .c3 p=>.br (A.c .lss p.d0 0) (.bad 37 "ref.go:117") (.ret ((p.d1,([]:List Int),([]:List aW),(A.mx (A.b .sub .i64 p.d2 1) 0),p.d3),0))
 | .c4 p e1 e13=>.br (A.c .lss e1 (A.l p.e0)) (.need (A.and (A.c .leq 0 e1) (A.c .lss e1 (A.l p.e0))) (.need (A.and (A.c .leq 0 e1) (A.c .lss e1 (A.l p.e0))) (.br (A.c .eql (A.l (A.n aM p.e0 e1:aW).1) 0) (.need (A.and (A.c .leq 0 e1) (A.c .lss e1 (A.l p.e0))) (.need (A.c .leq (A.l (A.p e13 [(([]:List Int),(A.n aM p.e0 e1:aW).2)])) 4264772374403) (.more (.c4 p (A.b .add .i64 e1 1) (A.p e13 [(([]:List Int),(A.n aM p.e0 e1:aW).2)]))))) (.need (A.c .leq (A.l (A.n aM p.e0 e1:aW).1) 70368744177664) (.need (A.and (A.c .leq 0 e1) (A.c .lss e1 (A.l p.e0))) (.need (A.c .leq (A.l (A.p e13 [(A.n aM p.e0 e1:aW)])) 4264772374403) (.more (.c4 p (A.b .add .i64 e1 1) (A.p e13 [(A.n aM p.e0 e1:aW)]))))))))) (.more (.c7 ⟨p.e2,p.e3,p.e4,p.e9,p.e10,p.e11,p.e12⟩ 0 e13))
 | .c5 p=>.br (A.c .lss p.f0 0) (.bad 37 "ref.go:117") (.ret ((p.f1,p.f7,([]:List aW),(A.mx (A.b .sub .i64 p.f2 1) 0),p.f3),0))
 | .c6 p g0 g7=>.br (A.c .lss g0 (A.l g7)) (.need (A.and (A.c .leq 0 g0) (A.c .lss g0 (A.l g7))) (.need (A.and (A.c .leq 0 g0) (A.c .lss g0 (A.l g7))) (.more (.c6 p (A.b .add .i64 g0 1) (A.set g7 g0 ((A.n aM g7 g0:aW).1,(A.mn (A.b .add .i64 (A.n aM g7 g0:aW).2 1) 255))))))) (.ret ((p.g1,([]:List Int),g7,(A.mx (A.b .sub .i64 p.g2 1) 0),p.g3),0))
 | .c7 p h0 h8=>.br (A.c .lss h0 (A.l h8)) (.need (A.and (A.c .leq 0 h0) (A.c .lss h0 (A.l h8))) (.need (A.and (A.c .leq 0 h0) (A.c .lss h0 (A.l h8))) (.more (.c7 p (A.b .add .i64 h0 1) (A.set h8 h0 ((A.n aM h8 h0:aW).1,(A.mn (A.b .add .i64 (A.n aM h8 h0:aW).2 1) 255))))))) (.ret ((p.h1,p.h7,h8,(A.mx (A.b .sub .i64 p.h2 1) 0),p.h3),0))
theorem Ho{l:List aW}{R:(bR×Int)}{p:Fc}(hp:p.c0=l)(hl:l.length≤4264772374402)(hd:∀x∈l,x.1.length≤70368744177664)(hR:aB (jX ai) (.more (.c2 p (l.length:Int) l)) R):∀(j i:Nat),l.length-i=j→i≤l.length→aB (jX ai) (.more (.c2 p (i:Int) (l.take i))) R:=by
 intro j
 induction j with
 | zero=>
  intro i hj hi
  have:i=l.length:=by omega
  subst this
  rw[List.take_length];exact hR
 | succ j ih=>
  intro i hj hi
  have hi':i<l.length:=by omega
  have hm:=ih (i+1) (by omega) (by omega)
  rw[List.take_succ_eq_append_getElem hi'] at hm
  have hx:=hd _ (List.getElem_mem hi')
  have e:(ai.n aM l (i:Int):aW)=l[i]:=getD_in hi' _
  have hsz:∀x:aW,ai.c .leq (ai.l (ai.p (l.take i) [x])) 4264772374403=true:=fun x=>wO (by rw[List.length_take];omega)
  rw[ak,jX]
  simp only[hp,e]
  refine(aj (by rw[cH];simp;omega)).2 (af.2 ⟨aK hi',af.2 ⟨aK hi',au (p:=(l[i].1.length:Int)=0) aO (fun h=>?_) fun h=>af.2 ⟨jL hx,?_⟩⟩⟩)
  ·repeat (refine af.2 ⟨aK hi',?_⟩)
   refine af.2 ⟨hsz _,?_⟩
   rw[jE h,cy (i:=i) (by omega)];exact hm
  ·repeat (refine af.2 ⟨aK hi',?_⟩)
   refine af.2 ⟨hsz _,?_⟩
   rw[cy (i:=i) (by omega)];exact hm
theorem GZ{l:List aW}{R:(bR×Int)}{p:D5}(h0:p.a0=l)(h1:p.a1=0)(hne:0<l.length)(hl:l.length≤4264772374402)(hd:∀x∈l,x.1.length≤70368744177664)(hR:aB (jX ai) (.more (.c2 ⟨p.a0,p.a2,p.a3,p.a4,p.a5,p.a6,p.a7,p.a8,p.a9,p.bW,p.dM⟩ (l.length:Int) l)) R):aB (jX ai) (.more (.c0 p)) R:=by
 have hm:=Ho (p:=⟨p.a0,p.a2,p.a3,p.a4,p.a5,p.a6,p.a7,p.a8,p.a9,p.bW,p.dM⟩) h0 hl hd hR (l.length-1) 1 rfl (by omega)
 rw[List.take_succ_eq_append_getElem hne,List.take_zero,List.nil_append] at hm
 have hx:=hd _ (List.getElem_mem hne)
 have e:(ai.n aM l 0:aW)=l[0]:=getD_in (i:=0) hne _
 have hix:ai.and (ai.c .leq 0 0) (ai.c .lss 0 (ai.l l))=true:=aK (i:=0) hne
 have hlt:ai.c .lss 0 (ai.l l)=true:=by have:=cH (l:=l) (i:=0);rw[decide_eq_true hne] at this;exact this
 have hsz:∀x:aW,ai.c .leq (ai.l [x]) 4264772374403=true:=fun x=>rfl
 rw[ak,jX]
 simp only[h0,h1,e]
 simp only[h0] at hm
 refine(aj hlt).2 (af.2 ⟨hix,af.2 ⟨hix,au (p:=(l[0].1.length:Int)=0) aO (fun h=>?_) fun h=>af.2 ⟨jL hx,?_⟩⟩⟩)
 ·repeat (refine af.2 ⟨hix,?_⟩)
  refine af.2 ⟨hsz _,?_⟩
  rw[jE h];exact hm
 ·repeat (refine af.2 ⟨hix,?_⟩)
  exact af.2 ⟨hsz _,hm⟩
theorem GU{l:List aW}{R:(bR×Int)}{p:E2}(hp:p.e0=l)(hl:l.length≤4264772374402)(hd:∀x∈l,x.1.length≤70368744177664)(hR:aB (jX ai) (.more (.c4 p (l.length:Int) l)) R):∀(j i:Nat),l.length-i=j→i≤l.length→aB (jX ai) (.more (.c4 p (i:Int) (l.take i))) R:=by
 intro j
 induction j with
 | zero=>
  intro i hj hi
  have:i=l.length:=by omega
  subst this
  rw[List.take_length];exact hR
 | succ j ih=>
  intro i hj hi
  have hi':i<l.length:=by omega
  have hm:=ih (i+1) (by omega) (by omega)
  rw[List.take_succ_eq_append_getElem hi'] at hm
  have hx:=hd _ (List.getElem_mem hi')
  have e:(ai.n aM l (i:Int):aW)=l[i]:=getD_in hi' _
  have hsz:∀x:aW,ai.c .leq (ai.l (ai.p (l.take i) [x])) 4264772374403=true:=fun x=>wO (by rw[List.length_take];omega)
  rw[ak,jX]
  simp only[hp,e]
  refine(aj (by rw[cH];simp;omega)).2 (af.2 ⟨aK hi',af.2 ⟨aK hi',au (p:=(l[i].1.length:Int)=0) aO (fun h=>?_) fun h=>af.2 ⟨jL hx,?_⟩⟩⟩)
  ·repeat (refine af.2 ⟨aK hi',?_⟩)
   refine af.2 ⟨hsz _,?_⟩
   rw[jE h,cy (i:=i) (by omega)];exact hm
  ·repeat (refine af.2 ⟨aK hi',?_⟩)
   refine af.2 ⟨hsz _,?_⟩
   rw[cy (i:=i) (by omega)];exact hm
theorem IT{l:List aW}{R:(bR×Int)}{p:Dp}(h0:p.b0=l)(h1:p.b1=0)(hne:0<l.length)(hl:l.length≤4264772374402)(hd:∀x∈l,x.1.length≤70368744177664)(hR:aB (jX ai) (.more (.c4 ⟨p.b0,p.b2,p.b3,p.b4,p.b5,p.b6,p.b7,p.b8,p.b9,p.b10,p.b11,p.b12⟩ (l.length:Int) l)) R):aB (jX ai) (.more (.c1 p)) R:=by
 have hm:=GU (p:=⟨p.b0,p.b2,p.b3,p.b4,p.b5,p.b6,p.b7,p.b8,p.b9,p.b10,p.b11,p.b12⟩) h0 hl hd hR (l.length-1) 1 rfl (by omega)
 rw[List.take_succ_eq_append_getElem hne,List.take_zero,List.nil_append] at hm
 have hx:=hd _ (List.getElem_mem hne)
 have e:(ai.n aM l 0:aW)=l[0]:=getD_in (i:=0) hne _
 have hix:ai.and (ai.c .leq 0 0) (ai.c .lss 0 (ai.l l))=true:=aK (i:=0) hne
 have hlt:ai.c .lss 0 (ai.l l)=true:=by have:=cH (l:=l) (i:=0);rw[decide_eq_true hne] at this;exact this
 have hsz:∀x:aW,ai.c .leq (ai.l [x]) 4264772374403=true:=fun x=>rfl
 rw[ak,jX]
 simp only[h0,h1,e]
 simp only[h0] at hm
 refine(aj hlt).2 (af.2 ⟨hix,af.2 ⟨hix,au (p:=(l[0].1.length:Int)=0) aO (fun h=>?_) fun h=>af.2 ⟨jL hx,?_⟩⟩⟩)
 ·repeat (refine af.2 ⟨hix,?_⟩)
  refine af.2 ⟨hsz _,?_⟩
  rw[jE h];exact hm
 ·repeat (refine af.2 ⟨hix,?_⟩)
  exact af.2 ⟨hsz _,hm⟩
theorem RB{p:Gj}{l:List aW}(hl:l.length≤8):∀(j i:Nat),l.length-i=j→i≤l.length→
  aB (jX ai) (.more (.c6 p (i:Int) ((l.take i).map mY++l.drop i))) ((p.g1,([]:List Int),l.map mY,ai.mx (ai.b .sub .i64 p.g2 1) 0,p.g3),0):=by
 intro j
 induction j with
 | zero=>
  intro i hj hi
  have:i=l.length:=by omega
  subst this
  rw[ak,jX,List.take_length,List.drop_length,List.append_nil]
  exact(ah (by rw[cH];simp)).2 (.ret _)
 | succ j ih=>
  intro i hj hi
  have hi':i<l.length:=by omega
  have hx:i<((l.take i).map mY++l.drop i).length:=by rw[oR hi];exact hi'
  obtain⟨a1,a2⟩:=zJ (f:=mY) hi'
  rw[ak,jX]
  refine(aj (by rw[cH,oR hi];simp;omega)).2 ?_
  repeat (refine af.2 ⟨aK hx,?_⟩)
  rw[a1,cy (i:=i) (by omega)]
  rw[show(l[i].1,ai.mn (ai.b .add .i64 l[i].2 1) 255)=mY l[i] from rfl,a2]
  exact ih (i+1) (by omega) (by omega)
theorem TP{p:Dv}{l:List aW}(hl:l.length≤8):∀(j i:Nat),l.length-i=j→i≤l.length→
  aB (jX ai) (.more (.c7 p (i:Int) ((l.take i).map mY++l.drop i))) ((p.h1,p.h7,l.map mY,ai.mx (ai.b .sub .i64 p.h2 1) 0,p.h3),0):=by
 intro j
 induction j with
 | zero=>
  intro i hj hi
  have:i=l.length:=by omega
  subst this
  rw[ak,jX,List.take_length,List.drop_length,List.append_nil]
  exact(ah (by rw[cH];simp)).2 (.ret _)
 | succ j ih=>
  intro i hj hi
  have hi':i<l.length:=by omega
  have hx:i<((l.take i).map mY++l.drop i).length:=by rw[oR hi];exact hi'
  obtain⟨a1,a2⟩:=zJ (f:=mY) hi'
  rw[ak,jX]
  refine(aj (by rw[cH,oR hi];simp;omega)).2 ?_
  repeat (refine af.2 ⟨aK hx,?_⟩)
  rw[a1,cy (i:=i) (by omega)]
  rw[show(l[i].1,ai.mn (ai.b .add .i64 l[i].2 1) 255)=mY l[i] from rfl,a2]
  exact ih (i+1) (by omega) (by omega)
theorem WT{c:bR}:aB (jX ai) (KB ai c) (v_ c):=by
 unfold KB v_
 refine af.2 ⟨rfl,?_⟩
 rw[show ai.k qU c=jk c from rfl,jk]
 cases hc:dO c
 ·exact(aj rfl).2 (.ret _)
 obtain⟨h1,h2,h3,h4⟩:=rD hc
 obtain⟨id,out,l,life,want⟩:=c
 have h1:4≤l.length:=h1
 have h2:l.length≤8:=h2
 have h3:out.length≤8:=h3
 have q1:0<l.length:=by omega
 have q2:l.length≤4264772374402:=by omega
 have q3:out.length≤70368744177664:=by omega
 have hd:∀x∈l,x.1.length≤70368744177664:=fun x hx=>by have:=(h4 x hx).1;omega
 refine(ah rfl).2 (au (p:=(out.length:Int)=0) aO (fun h=>?_) fun h=>af.2 ⟨jL q3,?_⟩)
 ·have ho:out=[]:=List.eq_nil_of_length_eq_zero (by omega)
  subst ho
  exact GZ rfl rfl q1 q2 hd (ak.2 ((ah (by rw[cH];simp)).2 (RB (l:=l) h2 l.length 0 rfl (by omega))))
 ·exact IT rfl rfl q1 q2 hd (ak.2 ((ah (by rw[cH];simp)).2 (TP (l:=l) h2 l.length 0 rfl (by omega))))
def JP:bR→(bR×Int):=v_
def TG:aA:=⟨[iT], [iT,yI],(@tt bR),JP⟩
theorem P0:Sd 121 TG:=aH ax cm true 61 [⟨16,5, [[1,2,3,4], [1,2]]⟩,⟨121,6, [[1,2,5]]⟩] [] (fun A c=>KB A c) jX Ka (fc Tryz.func121 (fc Tryz.func16 fz)) (sc D8 sz) (fun A y=>match y with |.c0 p=>⟨44,by kernel_rfl,by kernel_rfl⟩|.c1 p=>⟨44,by kernel_rfl,by kernel_rfl⟩|.c2 p c1 c12=>⟨44,by kernel_rfl,by kernel_rfl⟩|.c3 p=>⟨32,by kernel_rfl,by kernel_rfl⟩|.c4 p e1 e13=>⟨44,by kernel_rfl,by kernel_rfl⟩|.c5 p=>⟨32,by kernel_rfl,by kernel_rfl⟩|.c6 p g0 g7=>⟨41,by kernel_rfl,by kernel_rfl⟩|.c7 p h0 h8=>⟨41,by kernel_rfl,by kernel_rfl⟩) fun c hp h=>WT
open Go.Ev.Pl
inductive Ig where
 | c0 (a0:Int) (a1:List aW)
noncomputable def Lm:Ig→fJ
 | .c0 a0 a1=>⟨[⟨146,48,(en [(7,.own 0),(8,vi a0)]),[.inLoop (cw Tryz.f146 [1,1,1,1,1,1,0,0,0]),.inBlock 0,.code (cw Tryz.f146 [1,1,1,1,1,1,1])],[],none⟩],[.arr false aM a1,.dead]⟩
def S8(A:aZ)(x2:List aW)(count:Int):LT (List aW) Ig:=.br (A.c .lss count 0) (.bad 117 "slices.go:516") (.br (A.c .gtr (A.b .add .u64 (A.b .add .u64 (A.b .mul .u64 (A.b .shr .u64 (A.v .u64 (A.l x2)) 32) (A.b .shr .u64 (A.v .u64 count) 32)) (A.b .shr .u64 (A.b .add .u64 (A.b .mul .u64 (A.b .shr .u64 (A.v .u64 (A.l x2)) 32) (A.b .and .u64 (A.v .u64 count) 4294967295)) (A.b .shr .u64 (A.b .mul .u64 (A.b .and .u64 (A.v .u64 (A.l x2)) 4294967295) (A.b .and .u64 (A.v .u64 count) 4294967295)) 32)) 32)) (A.b .shr .u64 (A.b .add .u64 (A.b .and .u64 (A.b .add .u64 (A.b .mul .u64 (A.b .shr .u64 (A.v .u64 (A.l x2)) 32) (A.b .and .u64 (A.v .u64 count) 4294967295)) (A.b .shr .u64 (A.b .mul .u64 (A.b .and .u64 (A.v .u64 (A.l x2)) 4294967295) (A.b .and .u64 (A.v .u64 count) 4294967295)) 32)) 4294967295) (A.b .mul .u64 (A.b .and .u64 (A.v .u64 (A.l x2)) 4294967295) (A.b .shr .u64 (A.v .u64 count) 32))) 32)) 0) (.bad 117 "slices.go:522") (.br (A.c .gtr (A.b .mul .u64 (A.v .u64 (A.l x2)) (A.v .u64 count)) 9223372036854775807) (.bad 117 "slices.go:522") (.need (A.and (A.c .eql (A.v .i64 (A.b .mul .u64 (A.v .u64 (A.l x2)) (A.v .u64 count))) (A.v .i64 (A.b .mul .u64 (A.v .u64 (A.l x2)) (A.v .u64 count)))) (A.and (A.c .leq 0 (A.v .i64 (A.b .mul .u64 (A.v .u64 (A.l x2)) (A.v .u64 count)))) (A.c .leq (A.v .i64 (A.b .mul .u64 (A.v .u64 (A.l x2)) (A.v .u64 count))) 4264772374403))) (.more (.c0 (A.mn (A.l x2) (A.l (A.r (A.v .i64 (A.b .mul .u64 (A.v .u64 (A.l x2)) (A.v .u64 count))) (Ty.gH aM:aW)))) (A.spl (A.r (A.v .i64 (A.b .mul .u64 (A.v .u64 (A.l x2)) (A.v .u64 count))) (Ty.gH aM:aW)) 0 (A.s x2 0 (A.mn (A.l x2) (A.l (A.r (A.v .i64 (A.b .mul .u64 (A.v .u64 (A.l x2)) (A.v .u64 count))) (Ty.gH aM:aW)))))))))))
def Qx(A:aZ):Ig→LT (List aW) Ig
 | .c0 a0 a1=>.br (A.c .lss a0 (A.l a1)) (.need (A.and (A.c .leq 0 a0) (A.and (A.c .leq a0 (A.l a1)) (A.c .leq (A.l a1) (A.l a1)))) (.need (A.and (A.c .leq 0 0) (A.and (A.c .leq 0 a0) (A.c .leq a0 (A.l a1)))) (.more (.c0 (A.b .add .i64 a0 (A.mn (A.l (A.s a1 0 (A.b .add .i64 0 (A.b .sub .i64 a0 0)))) (A.b .sub .i64 (A.l a1) a0))) (A.spl a1 a0 (A.s (A.s a1 0 (A.b .add .i64 0 (A.b .sub .i64 a0 0))) 0 (A.mn (A.l (A.s a1 0 (A.b .add .i64 0 (A.b .sub .i64 a0 0)))) (A.b .sub .i64 (A.l a1) a0)))))))) (.ret a1)
def zG:aW:=(([]:List Int),255)
theorem Yi{l:List aW}{n:Int}(h:(decide (l=[(([]:List Int),255)])&&decide (4≤n)&&decide (n≤8))=true):aB (Qx ai) (S8 ai l n) (List.replicate n.toNat zG):=by
 simp only[Bool.and_eq_true,decide_eq_true_eq] at h
 obtain⟨⟨rfl,h1⟩,h2⟩:=h
 have hn:n=4∨n=5∨n=6∨n=7∨n=8:=by omega
 rcases hn with rfl|rfl|rfl|rfl|rfl <;>
  (refine(ah (by kernel_rfl)).2 ((ah (by kernel_rfl)).2 ((ah (by kernel_rfl)).2 (af.2 ⟨by kernel_rfl,?_⟩)))
   refine ak.2 ((aj (by kernel_rfl)).2 (af.2 ⟨by kernel_rfl,af.2 ⟨by kernel_rfl,(ak.2 ?_)⟩⟩))
   refine(aj (by kernel_rfl)).2 (af.2 ⟨by kernel_rfl,af.2 ⟨by kernel_rfl,(ak.2 ?_)⟩⟩))
 ·exact(ah (by kernel_rfl)).2 (al (by kernel_rfl) (.ret _))
 all_goals exact(aj (by kernel_rfl)).2 (af.2 ⟨by kernel_rfl,af.2 ⟨by kernel_rfl,(ak.2 ((ah (by kernel_rfl)).2 (al (by kernel_rfl) (.ret _))))⟩⟩)
def Jf:(List aW×Int)→(List aW):=fun(_,n)=>List.replicate n.toNat (([]:List Int),255)
def An:(List aW×Int)→Bool:=fun(l,n)=>decide (l=[(([]:List Int),255)])&&decide (4≤n)&&decide (n≤8)
def OA:aA:=⟨[(.slice aM),yI], [(.slice aM)],An,Jf⟩
theorem OH:Sd 146 OA:=aH ax cm true 175 [⟨146,8, [[7,8]]⟩] [] (fun A (x2,count)=>S8 A x2 count) Qx Lm (fc Tryz.func146 (fc Tryz.func200 (fc Tryz.func229 fz))) sz (fun A y=>match y with |.c0 a0 a1=>⟨30,by kernel_rfl,by kernel_rfl⟩) fun((x2,count):List aW×Int) hp h=>Yi hp
def NC(A:aZ)(id:Int)(n:Int):LT (bR×Int) Empty:=.need (A.k (@tt (Int×Int×Int)) (n,4,8)) (.br (A.not (A.k kN (n,4,8))) (.ret ((0,([]:List Int),([]:List aW),0,0),120)) (.need (A.k (@tt (Int×Int×Int)) (id,0,(A.b .sub .i64 n 1))) (.br (A.not (A.k kN (id,0,(A.b .sub .i64 n 1)))) (.ret ((0,([]:List Int),([]:List aW),0,0),120)) (.need (A.k An ([(([]:List Int),255)],n)) (.ret ((id,([]:List Int),(A.k Jf ([(([]:List Int),255)],n)),4,(-1)),0))))))
def EP(id n:Int):bR×Int:=bif decide (4≤n∧n≤8) then(bif decide (0≤id∧id≤n-1) then((id,([]:List Int),List.replicate n.toNat zG,4,(-1)),0) else(wB,120)) else(wB,120)
def Xf:Int×Int→bR×Int:=fun(id,n)=>EP id n
theorem D1{id n:Int}:aB Empty.elim (NC ai id n) (EP id n):=by
 unfold NC EP
 rw[zj]
 refine af.2 ⟨rfl,dT (fun h=>?_) fun h1=>af.2 ⟨rfl,?_⟩⟩
 ·exact al (by rw[decide_eq_false h];rfl) (.ret _)
 ·have e:ai.b .sub .i64 n 1=n-1:=by rw[bl,fQ (by omega) (by omega)]
  rw[e]
  refine dT (fun h=>?_) fun h2=>af.2 ⟨?_,?_⟩
  ·exact al (by rw[decide_eq_true h1,decide_eq_false h];rfl) (.ret _)
  ·rw[ap,An,decide_eq_true h1.1,decide_eq_true h1.2];rfl
  ·exact al (by rw[decide_eq_true h1,decide_eq_true h2];rfl) (.ret _)
def Bm:(Int×Int)→(bR×Int):=Xf
def U7:aA:=⟨[yI,yI], [iT,yI],(@tt (Int×Int)),Bm⟩
theorem QX:Sd 63 U7:=aD ax cm true 38 [] (fun A (id,n)=>NC A id n) (fc Tryz.func63 fz) (sc AP (sc OH sz)) fun(id,n) hp h=>D1
def IJ(A:aZ)(c:bR):LT Bool Empty:=.need (A.k (@tt bR) c) (.br (A.c .eql (A.k ij c) 0) (.ret (A.c .gtr c.2.2.2.1 0)) (.ret false))
def Fv:bR→Bool:=fun c=>(IJ ai c).val (Ty.cn [.bool])
def O0:aA:=⟨[iT], [.bool],(@tt bR),Fv⟩
theorem Tt:Sd 219 O0:=aL ax cm true 23 [] (fun A c=>IJ A c) (fc Tryz.func219 fz) (sc vE sz) (fun(c:bR) hp h=>by
 show(IJ ai c).pre=true
 simp[IJ,LT.pre,ap,dc])
def Na(A:aZ)(c:bR)(long:Int):LT (List Int×Int) Empty:=.need (A.k (@tt bR) c) (.br (A.c .neq (A.k ij c) 0) (.ret (([]:List Int),(A.k ij c))) (.need (A.k (@tt (Int×Int×Int)) (long,0,8)) (.br (A.not (A.k kN (long,0,8))) (.ret (([]:List Int),2)) (.need (A.and (A.c .eql long long) (A.and (A.c .leq 0 long) (A.c .leq long 70368744177664))) (.need (A.k (@tt bR) c) (.br (A.k Fv c) (.ret ((A.spl (A.r long (0:Int)) 0 (A.s c.2.1 0 (A.mn (A.l c.2.1) (A.l (A.r long (0:Int)))))),0)) (.ret ((A.r long (0:Int)),0))))))))
def mX(c:bR)(k:Int):List Int×Int:=bif dO c then(bif decide (0≤k∧k≤8) then((bif decide (0<c.2.2.2.1) then c.2.1.take k.toNat++List.replicate (k.toNat-c.2.1.length) 0 else List.replicate k.toNat 0),0) else([],2)) else([],120)
def Rb:bR×Int→List Int×Int:=fun(c,k)=>mX c k
theorem Bt{k:Int}(h:0≤k∧k≤8):ai.and (ai.c .eql k k) (ai.and (ai.c .leq 0 k) (ai.c .leq k 70368744177664))=true:=by
 rw[aS,aF,aF,aU,aU];simp;omega
theorem Wz{c:bR}{k:Int}:aB Empty.elim (Na ai c k) (mX c k):=by
 unfold Na mX
 rw[zj]
 refine af.2 ⟨rfl,?_⟩
 rw[show ai.k ij c=jk c from rfl,show ai.k Fv c=(bif jk c==0 then decide (0<c.2.2.2.1) else false) from rfl,jk]
 cases hc:dO c
 ·exact(aj rfl).2 (.ret _)
 ·refine(ah rfl).2 (af.2 ⟨rfl,dT (fun h=>?_) fun h=>af.2 ⟨Bt h,af.2 ⟨rfl,au (p:=0<c.2.2.2.1) rfl (fun h2=>?_) fun h2=>?_⟩⟩⟩)
  ·exact al (by rw[decide_eq_false h];rfl) (.ret _)
  ·refine al ?_ (.ret _)
   rw[decide_eq_true h,decide_eq_true h2]
   obtain⟨n,rfl⟩:∃n:Nat,k=n:=⟨k.toNat,by omega⟩
   simp only[cond_true,mz,kq,j5,wF,fO,List.length_replicate,Int.toNat_natCast,Int.toNat_zero,List.take_zero,List.nil_append,List.drop_zero]
   refine Prod.ext ?_ rfl
   simp only[List.length_take,List.drop_replicate,Nat.zero_add]
   by_cases hl:(n:Int)<c.2.1.length
   ·rw[if_pos hl,Int.toNat_natCast]
    rw[show n-min n c.2.1.length=n-c.2.1.length by omega]
   ·rw[if_neg hl,Int.toNat_natCast,List.take_of_length_le (Nat.le_refl _),List.take_of_length_le (by omega),Nat.min_self]
  ·exact al (by rw[decide_eq_true h,decide_eq_false h2];rfl) (.ret _)
def vW:(bR×Int)→(List Int×Int):=Rb
def Ps:aA:=⟨[iT,yI], [yB,yI],(@tt (bR×Int)),vW⟩
theorem RX:Sd 180 Ps:=aD ax cm true 60 [] (fun A (c,long)=>Na A c long) (fc Tryz.func180 fz) (sc vE (sc AP (sc Tt sz))) fun(c,long) hp h=>Wz
structure Mc where
 (a1:bR)
inductive IB where
 | c0 (p:Mc) (a0:Int) (a2:List Int)
noncomputable def Nx:IB→fJ
 | .c0 p a0 a2=>⟨[⟨184,49,(en [(2,.ptr 0 0),(7,.own 1),(8,vi a0)]),[.inLoop (cw Tryz.f184 [1,1,1,1,0,1,0,0]),.inBlock 0,.code (cw Tryz.f184 [1,1,1,1,1])],[],none⟩],[.flat false [vi p.a1.1,.sl yU p.a1.2.1,.sl aM p.a1.2.2.1,vi p.a1.2.2.2.1,vi p.a1.2.2.2.2],.arr false yU a2,.dead]⟩
def Kw(A:aZ)(c:bR)(long:Int):LT (List Int×Int) IB:=.need (A.k (@tt bR) c) (.br (A.c .neq (A.k qU c) 0) (.ret (([]:List Int),(A.k qU c))) (.br (A.c .lss long 0) (.ret (([]:List Int),2)) (.br (A.c .gtr long 8) (.ret (([]:List Int),2)) (.need (A.and (A.c .eql long long) (A.and (A.c .leq 0 long) (A.c .leq long 70368744177664))) (.more (.c0 ⟨c⟩ 0 (A.r long (0:Int))))))))
def BA(A:aZ):IB→LT (List Int×Int) IB
 | .c0 p a0 a2=>.br (A.c .lss a0 (A.l a2)) (.br (A.c .lss a0 (A.l p.a1.2.1)) (.br (A.c .gtr p.a1.2.2.2.1 0) (.need (A.and (A.c .leq 0 a0) (A.c .lss a0 (A.l p.a1.2.1))) (.need (A.and (A.c .leq 0 a0) (A.c .lss a0 (A.l a2))) (.more (.c0 p (A.b .add .i64 a0 1) (A.set a2 a0 (A.n yU p.a1.2.1 a0:Int)))))) (.ret (a2,0))) (.ret (a2,0))) (.ret (a2,0))
theorem Dm{c:bR}(hl:c.2.1.length≤140737488355328)(hp:0<c.2.2.2.1){k:Nat}(hk:k≤8):∀(j i:Nat),k-i=j→i≤k→i≤c.2.1.length→aB (BA ai) (.more (.c0 ⟨c⟩ (i:Int) (c.2.1.take i++List.replicate (k-i) 0))) (c.2.1.take k++List.replicate (k-c.2.1.length) 0,0):=by
 intro j
 induction j with
 | zero=>
  intro i hj hi hc
  have:i=k:=by omega
  subst this
  rw[ak,BA]
  refine(ah (by rw[cH];simp;omega)).2 (al ?_ (.ret _))
  rw[Nat.sub_self,show i-c.2.1.length=0 by omega]
 | succ j ih=>
  intro i hj hi hc
  rw[ak,BA]
  have hlen:(c.2.1.take i++List.replicate (k-i) (0:Int)).length=k:=by simp;omega
  refine(aj (by rw[cH,hlen];exact decide_eq_true (by omega))).2 (au (p:=i<c.2.1.length) (by rw[cH]) (fun h=>?_) fun h=>?_)
  ·refine(aj (decide_eq_true hp)).2 (af.2 ⟨aK h,af.2 ⟨aK (by rw[hlen];omega),?_⟩⟩)
   have e:ai.set (c.2.1.take i++List.replicate (k-i) (0:Int)) (i:Int) (ai.n (.int .u8) c.2.1 (i:Int):Int)=c.2.1.take (i+1)++List.replicate (k-(i+1)) 0:=by
    rw[show(ai.n (.int .u8) c.2.1 (i:Int):Int)=c.2.1[i] from getD_in h _,GF,Int.toNat_natCast,List.set_append_right _ _ (by rw[List.length_take];omega),List.length_take,Nat.min_eq_left hc,Nat.sub_self,show k-i=(k-(i+1))+1 by omega,List.replicate_succ,List.set_cons_zero,List.take_succ_eq_append_getElem h,List.append_assoc]
    rfl
   rw[e,cy (i:=i) (by omega)]
   exact ih (i+1) (by omega) (by omega) (by omega)
  ·refine al ?_ (.ret _)
   have:i=c.2.1.length:=by omega
   subst this
   rw[List.take_of_length_le (Nat.le_refl _),List.take_of_length_le (by omega)]
theorem Vq{c:bR}{k:Int}(h0:c.2.1.length≤140737488355328):aB (BA ai) (Kw ai c k) (mX c k):=by
 unfold Kw mX
 refine af.2 ⟨rfl,?_⟩
 rw[show ai.k qU c=jk c from rfl,jk]
 cases hc:dO c
 ·exact(aj rfl).2 (.ret _)
 ·refine(ah rfl).2 (au (p:=k<0) rfl (fun h=>?_) fun h1=>au (p:=8<k) rfl (fun h=>?_) fun h2=>?_)
  ·exact al (by rw[decide_eq_false (by omega)];rfl) (.ret _)
  ·exact al (by rw[decide_eq_false (by omega)];rfl) (.ret _)
  ·have hk:0≤k∧k≤8:=by omega
   refine af.2 ⟨Bt hk,?_⟩
   rw[decide_eq_true hk]
   obtain⟨n,rfl⟩:∃n:Nat,k=n:=⟨k.toNat,by omega⟩
   by_cases hp:0<c.2.2.2.1
   ·rw[decide_eq_true hp]
    exact Dm h0 hp (k:=n) (by omega) n 0 (by omega) (by omega) (by omega)
   ·rw[decide_eq_false hp,ak,BA]
    have hL:(ai.r (n:Int) (0:Int))=List.replicate n 0:=rfl
    rw[hL]
    refine au (p:=0<n) (by rw[show(0:Int)=((0:Nat):Int) from rfl,cH,List.length_replicate]) (fun h=>au (p:=0<c.2.1.length) (by rw[show(0:Int)=((0:Nat):Int) from rfl,cH]) (fun _=>(ah (decide_eq_false hp)).2 (.ret _)) fun _=>.ret _) fun _=>.ret _
def As:(bR×Int)→(List Int×Int):=Rb
def SN:aA:=⟨[iT,yI], [yB,yI],(@tt (bR×Int)),As⟩
theorem Si:Sd 184 SN:=aH ax cm true 51 [⟨184,8, [[2,7,8]]⟩] [] (fun A (c,long)=>Kw A c long) BA Nx (fc Tryz.func184 fz) (sc D8 sz) (fun A y=>match y with |.c0 p a0 a2=>⟨47,by kernel_rfl,by kernel_rfl⟩) fun(c,long) hp h=>Vq h.1.2.1.1
open Go.Ev.Pl
def Kc(A:aZ)(c:bR)(data:List Int):LT (bR×Int) Empty:=.need (A.k (@tt bR) c) (.br (A.c .neq (A.k vX c).2 0) (.ret ((0,([]:List Int),([]:List aW),0,0),(A.k vX c).2)) (.br (A.c .gtr (A.l data) 8) (.ret ((0,([]:List Int),([]:List aW),0,0),3)) (.need (A.k (@tt (List Int)) data) (.ret (((A.k vX c).1.1,(A.k lN data),(A.k vX c).1.2.2),0)))))
def RZ(c:bR)(d:List Int):bR×Int:=bif dO c then(bif decide (8<(d.length:Int)) then(wB,3) else((c.1,d,c.2.2),0)) else(wB,120)
def YS:bR×List Int→bR×Int:=fun(c,d)=>RZ c d
theorem YB{c:bR}{d:List Int}:aB Empty.elim (Kc ai c d) (RZ c d):=by
 unfold Kc RZ
 refine af.2 ⟨rfl,?_⟩
 rw[show ai.k vX c=Fu c from rfl,Fu]
 cases dO c
 ·exact(aj rfl).2 (.ret _)
 ·refine(ah rfl).2 (au (p:=8<(d.length:Int)) rfl (fun h=>?_) fun h=>af.2 ⟨rfl,?_⟩)
  ·exact al (by rw[decide_eq_true h];rfl) (.ret _)
  ·exact al (by rw[decide_eq_false h];rfl) (.ret _)
def AX:(bR×List Int)→(bR×Int):=YS
def Vu:aA:=⟨[iT,yB], [iT,yI],(@tt (bR×List Int)),AX⟩
theorem S_:Sd 79 Vu:=aD ax cm true 55 [] (fun A (c,data)=>Kc A c data) (fc Tryz.func79 fz) (sc Bw (sc QN sz)) fun(c,data) hp h=>YB
end Go.Ev.M
