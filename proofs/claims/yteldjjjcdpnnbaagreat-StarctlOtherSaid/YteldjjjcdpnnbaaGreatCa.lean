/-
  PROVED: what functions of the packages cni and metronomeref12 compute. Conditions: none.
-/
import Derived.Test.YteldjjjcdpnnbaaGreatHb
namespace Go.Ev.M
open Go.Proofs
set_option maxRecDepth 100000
set_option linter.unusedVariables false
set_option linter.unusedSimpArgs false
open Go.Ev.Pl
abbrev acv:Ty:=(.struct [yI,yI])
abbrev Span:Type:=Int×Int
abbrev OD(b:Bool):Prop:=b=b
section
variable {R Y:Type} {step:Y→LT R Y} {t:LT R Y} {r:R}
end
theorem iX{b:Bool}{α:Type}{x y:α}(h:b=false):y=bif b then x else y:=by rw[h];rfl
theorem iA{p:Prop}[Decidable p]{b:Bool}(h:¬p):(decide p&&b)=false:=by rw[decide_eq_false h];rfl
theorem bF{p:Prop}[Decidable p]{b:Bool}(h:p):(decide p&&b)=b:=by rw[decide_eq_true h];rfl
theorem cu{α:Type}{l:List α}{i:Nat}:aj.c .lss (i:Int) (aj.l l)=decide (i<l.length):=aO
def OY(A:a_)(n:Int)(least:Int)(most:Int):LT Bool Empty:=.br (A.c .geq n least) (.ret (A.c .leq n most)) (.ret false)
def mJ:(Int×Int×Int)→Bool:=fun(n,least,most)=>(OY aj n least most).val (Ty.bE [.bool])
def abE:aB:=⟨[yI,yI,yI], [.bool],(@tt (Int×Int×Int)),mJ⟩
theorem Et:Sd 145 abE:=aJ ax bK true 22 [] (fun A (n,least,most)=>OY A n least most) (fc Tryz.func145 fz) sz (fun((n,least,most):Int×Int×Int) hp h=>by
 show(OY aj n least most).pre=true
 simp[OY,LT.pre,al,bH])
structure U6 where
 (a0:List aU) (a1:Int) (a3:Bool)
inductive O0 where
 | c0 (p:U6) (a2:Int)
noncomputable def TS:O0→fL
 | .c0 p a2=>⟨[⟨201,19,(en [(0,.sl aR p.a0),(1,.fn 149 [] []),(7,vi p.a1),(8,vi a2)]),[.inLoop (cw Tryz.f201 [1,0,1,0,0]),.inBlock 0,.code (cw Tryz.f201 [1,1])],[],none⟩,⟨150,9,.leaf,[.ops (ow Tryz.f150 [1,0]) ((ow Tryz.f150 [1,0]).toList.drop 2),.code .ret],[],none⟩,⟨67,43,(en [(37,vb p.a3)]),[.ops (ow Tryz.f67 [1,1,0,0]) ((ow Tryz.f67 [1,1,0,0]).toList.drop 37),.code (cw Tryz.f67 [1,1,0,1]),.code (cw Tryz.f67 [1,1,1])],[],none⟩],[.dead]⟩
def Te(A:a_)(c:bu):LT Int O0:=.need (A.k (@tt (Int×Int×Int)) ((A.l c.2.2.1),4,8)) (.br (A.not (A.k mJ ((A.l c.2.2.1),4,8))) (.ret 120) (.need (A.k (@tt (Int×Int×Int)) (c.1,0,(A.b .sub .i64 (A.l c.2.2.1) 1))) (.br (A.not (A.k mJ (c.1,0,(A.b .sub .i64 (A.l c.2.2.1) 1)))) (.ret 120) (.br (A.c .gtr (A.l c.2.1) 8) (.ret 120) (.need (A.k (@tt (Int×Int×Int)) (c.2.2.2.1,0,4)) (.br (A.not (A.k mJ (c.2.2.2.1,0,4))) (.ret 120) (.need (A.k (@tt (Int×Int×Int)) (c.2.2.2.2,(-1),3)) (.br (A.not (A.k mJ (c.2.2.2.2,(-1),3))) (.ret 120) (.more (.c0 ⟨c.2.2.1,(A.l c.2.2.1),false⟩ 0))))))))))
def Ll(A:a_):O0→LT Int O0
 | .c0 p a2=>.br (A.c .lss a2 p.a1) (.need (A.and (A.c .leq 0 a2) (A.c .lss a2 (A.l p.a0))) (.br (A.c .gtr (A.l (A.n aR p.a0 a2:aU).1) 8) (.br p.a3 (.ret 120) (.br (A.c .geq a2 0) (.ret 120) (.ret 0))) (.need (A.k (@tt (Int×Int×Int)) ((A.n aR p.a0 a2:aU).2,0,255)) (.br (A.not (A.k mJ ((A.n aR p.a0 a2:aU).2,0,255))) (.br p.a3 (.ret 120) (.br (A.c .geq a2 0) (.ret 120) (.ret 0))) (.more (.c0 p (A.b .add .i64 a2 1))))))) (.br p.a3 (.ret 120) (.ret 0))
theorem BH:mJ=eu:=rfl
def Fz(m:aU):Bool:=decide (¬8<(m.1.length:Int))&&decide (0≤m.2∧m.2≤255)
def dU(c:bu):Bool:=decide (4≤(c.2.2.1.length:Int)∧(c.2.2.1.length:Int)≤8)&&(decide (0≤c.1∧c.1≤(c.2.2.1.length:Int)-1)&&(decide (¬8<(c.2.1.length:Int))&&(decide (0≤c.2.2.2.1∧c.2.2.2.1≤4)&&(decide (-1≤c.2.2.2.2∧c.2.2.2.2≤3)&&c.2.2.1.all Fz))))
def ig(c:bu):Int:=bif dU c then 0 else 120
theorem kP{c:bu}:ig c=0↔dU c=true:=by unfold ig;cases dU c<;>decide
theorem ahH{l:List aU}(hl:l.length≤140737488355328):∀(j i:Nat),l.length-i=j→i≤l.length→aA (Ll aj) (.more (.c0 ⟨l,(l.length:Int),false⟩ (i:Int))) (bif (l.drop i).all Fz then 0 else 120):=by
 intro j
 induction j with
 | zero=>
   intro i hj hi
   have:i=l.length:=by omega
   subst this
   rw[ak,Ll]
   refine(ah (by rw[aO];simp)).2 ((ah rfl).2 ?_)
   rw[List.drop_length]
   exact .ret _
 | succ j ih=>
   intro i hj hi
   have hi':i<l.length:=by omega
   rw[ak,Ll]
   refine(ai (by rw[aO];simp;omega)).2 (af.2 ⟨aP hi',?_⟩)
   rw[show(aj.n aR l (i:Int):aU)=l[i] from getD_in hi' _,List.drop_eq_getElem_cons hi',List.all_cons,Fz,BH]
   refine ap (p:=8<(l[i].1.length:Int)) rfl (fun h=>?_) fun h1=>af.2 ⟨rfl,eX (fun h=>?_) fun h2=>?_⟩
   ·rw[decide_eq_false (show ¬¬8<(l[i].1.length:Int) by omega)]
    exact(ah rfl).2 ((ai (by rw[aM];simp)).2 (.ret _))
   ·rw[decide_eq_false h,Bool.and_false]
    exact(ah rfl).2 ((ai (by rw[aM];simp)).2 (.ret _))
   ·rw[decide_eq_true h1,decide_eq_true h2,cf (i:=i) (by omega)]
    exact ih (i+1) (by omega) (by omega)
theorem Cn{c:bu}(h:Ty.has gy c):c.2.1.length≤140737488355328∧c.2.2.1.length≤140737488355328∧∀x∈c.2.2.1,x.1.length≤140737488355328:=by
 obtain⟨_,h1,h2,_⟩:=h
 exact⟨h1.1,h2.1,fun x hx=>(h2.2 x hx).1.1⟩
theorem ahY{c:bu}(h:Ty.has gy c):aA (Ll aj) (Te aj c) (ig c):=by
 have hc:=(Cn h).2.1
 unfold Te ig
 rw[BH]
 simp only[fN]
 have hs:aj.b .sub .i64 (c.2.2.1.length:Int) 1=(c.2.2.1.length:Int)-1:=by rw[aX,fV (by omega) (by omega)]
 rw[hs]
 refine af.2 ⟨rfl,eX (fun h=>?_) fun h1=>af.2 ⟨rfl,eX (fun h=>?_) fun h2=>ap (p:=8<(c.2.1.length:Int)) rfl (fun h=>?_) fun h3=>af.2 ⟨rfl,eX (fun h=>?_) fun h4=>af.2 ⟨rfl,eX (fun h=>?_) fun h5=>?_⟩⟩⟩⟩
 ·exact au (iX (by rw[dU,iA h])) (.ret _)
 ·exact au (iX (by rw[dU,bF h1,iA h])) (.ret _)
 ·exact au (iX (by rw[dU,bF h1,bF h2,iA (fun k=>k h)])) (.ret _)
 ·exact au (iX (by rw[dU,bF h1,bF h2,bF h3,iA h])) (.ret _)
 ·exact au (iX (by rw[dU,bF h1,bF h2,bF h3,bF h4,iA h])) (.ret _)
 ·rw[dU,bF h1,bF h2,bF h3,bF h4,bF h5]
  exact ahH hc c.2.2.1.length 0 rfl (by omega)
def jh:bu→Int:=ig
def aec:aB:=⟨[gy], [yI],(@tt bu),jh⟩
theorem yC:Sd 67 aec:=aL ax bK true 78 [⟨201,2, [[0,1,7,8], [], [37]]⟩] [] (fun A c=>Te A c) Ll TS (fc Tryz.func67 (fc Tryz.func149 (fc Tryz.func150 (fc Tryz.func201 fz)))) (sc Et sz) (fun A y=>match y with |.c0 p a2=>⟨68,by kernel_rfl,by kernel_rfl⟩) fun c hp h=>ahY h
structure Xj where
 (a1:bu)
inductive Qt where
 | c0 (p:Xj) (a0:Int)
noncomputable def TO:Qt→fL
 | .c0 p a0=>⟨[⟨71,84,(en [(1,.ptr 0 0),(4,vi a0)]),[.inLoop (cw Tryz.f71 [1,1,1,0,1,0,0]),.inBlock 0,.code (cw Tryz.f71 [1,1,1,1])],[],none⟩],[.flat false [vi p.a1.1,.sl yU p.a1.2.1,.sl aR p.a1.2.2.1,vi p.a1.2.2.2.1,vi p.a1.2.2.2.2],.dead]⟩
def VU(A:a_)(c:bu):LT Int Qt:=.br (A.c .lss (A.l c.2.2.1) 4) (.ret 120) (.br (A.c .gtr (A.l c.2.2.1) 8) (.ret 120) (.br (A.c .lss c.1 0) (.ret 120) (.br (A.c .geq c.1 (A.l c.2.2.1)) (.ret 120) (.br (A.c .gtr (A.l c.2.1) 8) (.ret 120) (.br (A.c .lss c.2.2.2.1 0) (.ret 120) (.br (A.c .gtr c.2.2.2.1 4) (.ret 120) (.br (A.c .lss c.2.2.2.2 (-1)) (.ret 120) (.br (A.c .geq c.2.2.2.2 4) (.ret 120) (.more (.c0 ⟨c⟩ 0))))))))))
def KR(A:a_):Qt→LT Int Qt
 | .c0 p a0=>.br (A.c .lss a0 (A.l p.a1.2.2.1)) (.need (A.and (A.c .leq 0 a0) (A.c .lss a0 (A.l p.a1.2.2.1))) (.br (A.c .gtr (A.l (A.n aR p.a1.2.2.1 a0:aU).1) 8) (.ret 120) (.need (A.and (A.c .leq 0 a0) (A.c .lss a0 (A.l p.a1.2.2.1))) (.br (A.c .lss (A.n aR p.a1.2.2.1 a0:aU).2 0) (.ret 120) (.need (A.and (A.c .leq 0 a0) (A.c .lss a0 (A.l p.a1.2.2.1))) (.br (A.c .gtr (A.n aR p.a1.2.2.1 a0:aU).2 255) (.ret 120) (.more (.c0 p (A.b .add .i64 a0 1))))))))) (.ret 0)
theorem aaH{c:bu}(hl:c.2.2.1.length≤140737488355328):∀(j i:Nat),c.2.2.1.length-i=j→i≤c.2.2.1.length→aA (KR aj) (.more (.c0 ⟨c⟩ (i:Int))) (bif (c.2.2.1.drop i).all Fz then 0 else 120):=by
 intro j
 induction j with
 | zero=>
   intro i hj hi
   have:i=c.2.2.1.length:=by omega
   subst this
   rw[ak,KR]
   refine(ah (by rw[cu];simp)).2 ?_
   rw[List.drop_length]
   exact .ret _
 | succ j ih=>
   intro i hj hi
   have hi':i<c.2.2.1.length:=by omega
   rw[ak,KR]
   refine(ai (by rw[cu];simp;omega)).2 (af.2 ⟨aP hi',?_⟩)
   rw[show(aj.n aR c.2.2.1 (i:Int):aU)=c.2.2.1[i] from getD_in hi' _,List.drop_eq_getElem_cons hi',List.all_cons,Fz]
   refine ap (p:=8<(c.2.2.1[i].1.length:Int)) rfl (fun h=>?_) fun h1=>af.2 ⟨aP hi',ap (p:=c.2.2.1[i].2<0) rfl (fun h=>?_) fun h2=>af.2 ⟨aP hi',ap (p:=255<c.2.2.1[i].2) rfl (fun h=>?_) fun h3=>?_⟩⟩
   ·rw[iA (fun k=>k h)];exact .ret _
   ·rw[bF h1,decide_eq_false (by omega)];exact .ret _
   ·rw[bF h1,decide_eq_false (by omega)];exact .ret _
   ·rw[bF h1,decide_eq_true (by omega),cf (i:=i) (by omega)]
    exact ih (i+1) (by omega) (by omega)
theorem Yv{c:bu}(h:Ty.has gy c):aA (KR aj) (VU aj c) (ig c):=by
 have hc:=(Cn h).2.1
 unfold VU ig
 simp only[fN]
 refine ap (p:=(c.2.2.1.length:Int)<4) rfl (fun h=>?_) fun h1=>ap (p:=8<(c.2.2.1.length:Int)) rfl (fun h=>?_) fun h2=>ap (p:=c.1<0) rfl (fun h=>?_) fun h3=>ap (p:=(c.2.2.1.length:Int)≤c.1) rfl (fun h=>?_) fun h4=>ap (p:=8<(c.2.1.length:Int)) rfl (fun h=>?_) fun h5=>ap (p:=c.2.2.2.1<0) rfl (fun h=>?_) fun h6=>ap (p:=4<c.2.2.2.1) rfl (fun h=>?_) fun h7=>ap (p:=c.2.2.2.2 < -1) rfl (fun h=>?_) fun h8=>ap (p:=4≤c.2.2.2.2) rfl (fun h=>?_) fun h9=>?_
 ·exact au (iX (by rw[dU,iA (by omega)])) (.ret _)
 ·exact au (iX (by rw[dU,iA (by omega)])) (.ret _)
 ·exact au (iX (by rw[dU,bF (by omega),iA (by omega)])) (.ret _)
 ·exact au (iX (by rw[dU,bF (by omega),iA (by omega)])) (.ret _)
 ·exact au (iX (by rw[dU,bF (by omega),bF (by omega),iA (by omega)])) (.ret _)
 ·exact au (iX (by rw[dU,bF (by omega),bF (by omega),bF (by omega),iA (by omega)])) (.ret _)
 ·exact au (iX (by rw[dU,bF (by omega),bF (by omega),bF (by omega),iA (by omega)])) (.ret _)
 ·exact au (iX (by rw[dU,bF (by omega),bF (by omega),bF (by omega),bF (by omega),iA (by omega)])) (.ret _)
 ·exact au (iX (by rw[dU,bF (by omega),bF (by omega),bF (by omega),bF (by omega),iA (by omega)])) (.ret _)
 ·rw[dU,bF (by omega),bF (by omega),bF (by omega),bF (by omega),bF (by omega)]
  exact aaH hc c.2.2.1.length 0 rfl (by omega)
def iF:bu→Int:=ig
def aer:aB:=⟨[gy], [yI],(@tt bu),iF⟩
theorem zt:Sd 71 aer:=aL ax bK true 74 [⟨71,5, [[1,4]]⟩] [] (fun A c=>VU A c) KR TO (fc Tryz.func71 fz) sz (fun A y=>match y with |.c0 p a0=>⟨56,by kernel_rfl,by kernel_rfl⟩) fun c hp h=>Yv h
open Go.Ev.Pl
structure T7 where
 (a0:Int) (a2:bu) (a3 a4 a5:Int)
inductive N9 where
 | c0 (p:T7) (a1:Int) (a6:List aU)
noncomputable def Vn:N9→fL
 | .c0 p a1 a6=>⟨[⟨156,44,(en [(1,.ptr 0 0),(2,.ptr 1 0),(5,.own 2),(22,vi p.a0),(23,vi a1)]),[.inLoop (cw Tryz.f156 [1,1,1,1,0,1,0,0]),.inBlock 0,.code (cw Tryz.f156 [1,1,1,1,1])],[],none⟩],[.flat false [vi p.a2.1,.sl yU p.a2.2.1,.sl aR p.a2.2.2.1,vi p.a2.2.2.2.1,vi p.a2.2.2.2.2],.flat false [vi p.a3,.bi true,.bi true,vi p.a4,vi p.a5],.arr false aR a6,.dead]⟩
def Uq(A:a_)(c:bu):LT (bu×Int) N9:=.need (A.k (@tt bu) c) (.br (A.c .neq (A.k jh c) 0) (.ret ((0,([]:List Int),([]:List aU),0,0),(A.k jh c))) (.need (A.and (A.c .eql (A.l c.2.2.1) (A.l c.2.2.1)) (A.and (A.c .leq 0 (A.l c.2.2.1)) (A.c .leq (A.l c.2.2.1) 4398046511104))) (.more (.c0 ⟨(A.l (A.spl (A.r (A.l c.2.2.1) (Ty.iL aR:aU)) 0 (A.s c.2.2.1 0 (A.mn (A.l c.2.2.1) (A.l (A.r (A.l c.2.2.1) (Ty.iL aR:aU))))))),c,0,0,0⟩ 0 (A.spl (A.r (A.l c.2.2.1) (Ty.iL aR:aU)) 0 (A.s c.2.2.1 0 (A.mn (A.l c.2.2.1) (A.l (A.r (A.l c.2.2.1) (Ty.iL aR:aU))))))))))
def MR(A:a_):N9→LT (bu×Int) N9
 | .c0 p a1 a6=>.br (A.c .lss a1 p.a0) (.need (A.and (A.c .leq 0 a1) (A.c .lss a1 (A.l a6))) (.need (A.k (@tt (List Int)) (A.n aR a6 a1:aU).1) (.need (A.and (A.c .leq 0 a1) (A.c .lss a1 (A.l a6))) (.more (.c0 p (A.b .add .i64 a1 1) (A.set a6 a1 ((A.k oC (A.n aR a6 a1:aU).1),(A.n aR a6 a1:aU).2))))))) (.need (A.k (@tt (List Int)) p.a2.2.1) (.ret ((p.a2.1,(A.k oC p.a2.2.1),a6,p.a2.2.2.2),0)))
def wA:bu:=(0,([]:List Int),([]:List aU),0,0)
def Cc(c:bu):bu×Int:=bif dU c then(c,0) else(wA,120)
theorem agm{c:bu}{L z1 z2 z3:Int}{l:List aU}(hl:l.length≤140737488355328)(hL:L=(l.length:Int)):∀(j i:Nat),l.length-i=j→i≤l.length→aA (MR aj) (.more (.c0 ⟨L,c,z1,z2,z3⟩ (i:Int) l)) ((c.1,c.2.1,l,c.2.2.2),0):=by
 subst hL
 intro j
 induction j with
 | zero=>
   intro i hj hi
   have:i=l.length:=by omega
   subst this
   rw[ak,MR]
   exact(ah (by rw[aO];simp)).2 (af.2 ⟨rfl,.ret _⟩)
 | succ j ih=>
   intro i hj hi
   have hi':i<l.length:=by omega
   rw[ak,MR]
   refine(ai (by rw[aO];simp;omega)).2 (af.2 ⟨aP hi',af.2 ⟨rfl,af.2 ⟨aP hi',?_⟩⟩⟩)
   have e:(aj.n aR l (i:Int):aU)=l[i]:=getD_in hi' _
   have e2:aj.set l (i:Int) ((aj.k oC (aj.n aR l (i:Int):aU).1),(aj.n aR l (i:Int):aU).2)=l:=by
    rw[e]
    show l.set (i:Int).toNat l[i]=l
    rw[Int.toNat_natCast];exact List.set_getElem_self _
   rw[e2,cf (i:=i) (by omega)]
   exact ih (i+1) (by omega) (by omega)
theorem Da{α:Type}{l:List α}{d:α}:aj.spl (aj.r (aj.l l) d) 0 (aj.s l 0 (aj.mn (aj.l l) (aj.l (aj.r (aj.l l) d))))=l:=by
 simp[pz,mY,mI,uO,fN]
theorem Ze{c:bu}:aA (MR aj) (Uq aj c) (Cc c):=by
 unfold Uq Cc
 refine af.2 ⟨rfl,?_⟩
 rw[show aj.k jh c=ig c from rfl,ig]
 cases hc:dU c
 ·exact(ai rfl).2 (.ret _)
 ·refine(ah rfl).2 ?_
  simp only[dU,Bool.and_eq_true,decide_eq_true_eq] at hc
  have h1:aj.and (aj.c .eql (aj.l c.2.2.1) (aj.l c.2.2.1)) (aj.and (aj.c .leq 0 (aj.l c.2.2.1)) (aj.c .leq (aj.l c.2.2.1) 4398046511104))=true:=by
   rw[fN,aC,ay,ay,aQ,aQ];simp;omega
  refine af.2 ⟨h1,?_⟩
  exact bo (congrArg (fun z:List aU=>LT.more (N9.c0 ⟨aj.l z,c,0,0,0⟩ 0 z)) Da) (agm (by omega) rfl c.2.2.1.length 0 rfl (by omega))
def iq:bu→(bu×Int):=Cc
def Y6:aB:=⟨[gy], [gy,yI],(@tt bu),iq⟩
theorem LJ:Sd 156 Y6:=aL ax bK true 50 [⟨156,7, [[1,2,5,22,23]]⟩] [] (fun A c=>Uq A c) MR Vn (fc Tryz.func156 fz) (sc Gq (sc yC sz)) (fun A y=>match y with |.c0 p a1 a6=>⟨38,by kernel_rfl,by kernel_rfl⟩) fun c hp h=>Ze
theorem aI{a b:Int}:aj.c .eql a b=decide (a=b):=by rw[aC,Bool.eq_iff_iff];simp
theorem uP{l:List aU}{x:aU}(h:l.length≤4398046511103):aj.c .leq (aj.l (aj.p l [x])) 4398046511104=true:=by
 rw[fN,ay,nF,List.length_append];exact decide_eq_true (by simp;omega)
theorem gw{l:List Int}(h:l.length≤140737488355328):aj.c .leq (aj.l l) 140737488355328=true:=by
 rw[fN,ay];exact decide_eq_true (by omega)
theorem iv{m:aU}(h:(m.1.length:Int)=0):(([]:List Int),m.2)=m:=Prod.ext (List.eq_nil_of_length_eq_zero (by omega)).symm rfl
open Go.Ev.Pl
def AZ(c:bu):Bool:=decide (c.2.1.length≤140737488355328)&&(decide (c.2.2.1.length≤4398046511103)&&c.2.2.1.all fun m=>decide (m.1.length≤140737488355328))
theorem ta{c:bu}:AZ c=true↔c.2.1.length≤140737488355328∧c.2.2.1.length≤4398046511103∧∀x∈c.2.2.1,x.1.length≤140737488355328:=by
 simp[AZ,List.all_eq_true]
theorem xa{c:bu}(h:dU c=true):AZ c=true:=by
 simp only[dU,Bool.and_eq_true,decide_eq_true_eq,List.all_eq_true,Fz] at h
 exact ta.2 ⟨by omega,by omega,fun x hx=>by have:=(h.2.2.2.2.2 x hx).1;omega⟩
structure Mi where
 (a0:List aU) (a1 a2 a3 a4 a5 a6 a7:Int)
structure Ln where
 (b0:List aU) (b1 b2 b3 b4 b5 b6 b7:Int) (b8:List Int)
structure NG where
 (c0:List aU) (c2 c3 c4 c5 c6 c7:Int)
structure Ov where
 (d0:List aU) (d2 d3 d4 d5 d6 d7:Int) (d8:List Int)
inductive Qz where
 | c0 (p:Mi)
 | c1 (p:Ln)
 | c2 (p:NG) (c1:Int) (c8:List aU)
 | c3 (p:Ov) (d1:Int) (d9:List aU)
noncomputable def VN:Qz→fL
 | .c0 p=>⟨[⟨16,36,(en [(1,.ptr 0 0),(2,.ptr 1 0),(3,.sl aR p.a0),(4,vi p.a1)]),[.inLoop (cw Tryz.f16 [1,1,1,1,0,1,0,0]),.inBlock 0,.code (cw Tryz.f16 [1,1,1,1,1])],[],none⟩],[.flat false [vi p.a2,.bi true,.bi true,vi p.a3,vi p.a4],.flat false [vi p.a5,.bi true,.bi true,vi p.a6,vi p.a7],.dead]⟩
 | .c1 p=>⟨[⟨16,36,(en [(1,.ptr 0 0),(2,.ptr 1 0),(3,.sl aR p.b0),(4,vi p.b1)]),[.inLoop (cw Tryz.f16 [1,1,1,1,0,1,0,0]),.inBlock 0,.code (cw Tryz.f16 [1,1,1,1,1])],[],none⟩],[.flat false [vi p.b2,.own 2,.bi true,vi p.b3,vi p.b4],.flat false [vi p.b5,.bi true,.bi true,vi p.b6,vi p.b7],.arr false yU p.b8,.dead]⟩
 | .c2 p c1 c8=>⟨[⟨16,36,(en [(1,.ptr 0 0),(2,.ptr 1 0),(3,.sl aR p.c0),(4,vi c1)]),[.inLoop (cw Tryz.f16 [1,1,1,1,0,1,0,0]),.inBlock 0,.code (cw Tryz.f16 [1,1,1,1,1])],[],none⟩],[.flat false [vi p.c2,.bi true,.own 2,vi p.c3,vi p.c4],.flat false [vi p.c5,.bi true,.bi true,vi p.c6,vi p.c7],.arr false aR c8,.dead]⟩
 | .c3 p d1 d9=>⟨[⟨16,36,(en [(1,.ptr 0 0),(2,.ptr 1 0),(3,.sl aR p.d0),(4,vi d1)]),[.inLoop (cw Tryz.f16 [1,1,1,1,0,1,0,0]),.inBlock 0,.code (cw Tryz.f16 [1,1,1,1,1])],[],none⟩],[.flat false [vi p.d2,.own 2,.own 3,vi p.d3,vi p.d4],.flat false [vi p.d5,.bi true,.bi true,vi p.d6,vi p.d7],.arr false yU p.d8,.arr false aR d9,.dead]⟩
def Q7(A:a_)(c:bu):LT bu Qz:=.br (A.c .eql (A.l c.2.1) 0) (.more (.c0 ⟨c.2.2.1,0,c.1,c.2.2.2.1,c.2.2.2.2,0,0,0⟩)) (.need (A.c .leq (A.l c.2.1) 140737488355328) (.more (.c1 ⟨c.2.2.1,0,c.1,c.2.2.2.1,c.2.2.2.2,0,0,0,c.2.1⟩)))
def qS(A:a_):Qz→LT bu Qz
 | .c0 p=>.br (A.c .lss p.a1 (A.l p.a0)) (.need (A.and (A.c .leq 0 p.a1) (A.c .lss p.a1 (A.l p.a0))) (.need (A.and (A.c .leq 0 p.a1) (A.c .lss p.a1 (A.l p.a0))) (.br (A.c .eql (A.l (A.n aR p.a0 p.a1:aU).1) 0) (.need (A.and (A.c .leq 0 p.a1) (A.c .lss p.a1 (A.l p.a0))) (.need (A.c .leq (A.l ([(([]:List Int),(A.n aR p.a0 p.a1:aU).2)]:List aU)) 4398046511104) (.more (.c2 ⟨p.a0,p.a2,p.a3,p.a4,p.a5,p.a6,p.a7⟩ (A.b .add .i64 p.a1 1) [(([]:List Int),(A.n aR p.a0 p.a1:aU).2)])))) (.need (A.c .leq (A.l (A.n aR p.a0 p.a1:aU).1) 140737488355328) (.need (A.and (A.c .leq 0 p.a1) (A.c .lss p.a1 (A.l p.a0))) (.need (A.c .leq (A.l ([(A.n aR p.a0 p.a1:aU)]:List aU)) 4398046511104) (.more (.c2 ⟨p.a0,p.a2,p.a3,p.a4,p.a5,p.a6,p.a7⟩ (A.b .add .i64 p.a1 1) [(A.n aR p.a0 p.a1:aU)])))))))) (.ret (p.a2,([]:List Int),([]:List aU),p.a3,p.a4))
 | .c1 p=>.br (A.c .lss p.b1 (A.l p.b0)) (.need (A.and (A.c .leq 0 p.b1) (A.c .lss p.b1 (A.l p.b0))) (.need (A.and (A.c .leq 0 p.b1) (A.c .lss p.b1 (A.l p.b0))) (.br (A.c .eql (A.l (A.n aR p.b0 p.b1:aU).1) 0) (.need (A.and (A.c .leq 0 p.b1) (A.c .lss p.b1 (A.l p.b0))) (.need (A.c .leq (A.l ([(([]:List Int),(A.n aR p.b0 p.b1:aU).2)]:List aU)) 4398046511104) (.more (.c3 ⟨p.b0,p.b2,p.b3,p.b4,p.b5,p.b6,p.b7,p.b8⟩ (A.b .add .i64 p.b1 1) [(([]:List Int),(A.n aR p.b0 p.b1:aU).2)])))) (.need (A.c .leq (A.l (A.n aR p.b0 p.b1:aU).1) 140737488355328) (.need (A.and (A.c .leq 0 p.b1) (A.c .lss p.b1 (A.l p.b0))) (.need (A.c .leq (A.l ([(A.n aR p.b0 p.b1:aU)]:List aU)) 4398046511104) (.more (.c3 ⟨p.b0,p.b2,p.b3,p.b4,p.b5,p.b6,p.b7,p.b8⟩ (A.b .add .i64 p.b1 1) [(A.n aR p.b0 p.b1:aU)])))))))) (.ret (p.b2,p.b8,([]:List aU),p.b3,p.b4))
 | .c2 p c1 c8=>.br (A.c .lss c1 (A.l p.c0)) (.need (A.and (A.c .leq 0 c1) (A.c .lss c1 (A.l p.c0))) (.need (A.and (A.c .leq 0 c1) (A.c .lss c1 (A.l p.c0))) (.br (A.c .eql (A.l (A.n aR p.c0 c1:aU).1) 0) (.need (A.and (A.c .leq 0 c1) (A.c .lss c1 (A.l p.c0))) (.need (A.c .leq (A.l (A.p c8 [(([]:List Int),(A.n aR p.c0 c1:aU).2)])) 4398046511104) (.more (.c2 p (A.b .add .i64 c1 1) (A.p c8 [(([]:List Int),(A.n aR p.c0 c1:aU).2)]))))) (.need (A.c .leq (A.l (A.n aR p.c0 c1:aU).1) 140737488355328) (.need (A.and (A.c .leq 0 c1) (A.c .lss c1 (A.l p.c0))) (.need (A.c .leq (A.l (A.p c8 [(A.n aR p.c0 c1:aU)])) 4398046511104) (.more (.c2 p (A.b .add .i64 c1 1) (A.p c8 [(A.n aR p.c0 c1:aU)]))))))))) (.ret (p.c2,([]:List Int),c8,p.c3,p.c4))
 | .c3 p d1 d9=>.br (A.c .lss d1 (A.l p.d0)) (.need (A.and (A.c .leq 0 d1) (A.c .lss d1 (A.l p.d0))) (.need (A.and (A.c .leq 0 d1) (A.c .lss d1 (A.l p.d0))) (.br (A.c .eql (A.l (A.n aR p.d0 d1:aU).1) 0) (.need (A.and (A.c .leq 0 d1) (A.c .lss d1 (A.l p.d0))) (.need (A.c .leq (A.l (A.p d9 [(([]:List Int),(A.n aR p.d0 d1:aU).2)])) 4398046511104) (.more (.c3 p (A.b .add .i64 d1 1) (A.p d9 [(([]:List Int),(A.n aR p.d0 d1:aU).2)]))))) (.need (A.c .leq (A.l (A.n aR p.d0 d1:aU).1) 140737488355328) (.need (A.and (A.c .leq 0 d1) (A.c .lss d1 (A.l p.d0))) (.need (A.c .leq (A.l (A.p d9 [(A.n aR p.d0 d1:aU)])) 4398046511104) (.more (.c3 p (A.b .add .i64 d1 1) (A.p d9 [(A.n aR p.d0 d1:aU)]))))))))) (.ret (p.d2,p.d8,d9,p.d3,p.d4))
theorem Qa{l:List aU}{R:bu}{p:NG}(hp:p.c0=l)(hl:l.length≤4398046511103)(hd:∀x∈l,x.1.length≤140737488355328)(hR:aA (qS aj) (.more (.c2 p (l.length:Int) l)) R):∀(j i:Nat),l.length-i=j→i≤l.length→aA (qS aj) (.more (.c2 p (i:Int) (l.take i))) R:=by
 intro j
 induction j with
 | zero=>
   intro i hj hi
   have:i=l.length:=by omega
   subst this
   rw[List.take_length];exact hR
 | succ j ih=>
   intro i hj hi
   have hi':i<l.length:=by omega
   have hm:=ih (i+1) (by omega) (by omega)
   rw[List.take_succ_eq_append_getElem hi'] at hm
   have hx:=hd _ (List.getElem_mem hi')
   have e:(aj.n aR l (i:Int):aU)=l[i]:=getD_in hi' _
   have hsz:∀x:aU,aj.c .leq (aj.l (aj.p (l.take i) [x])) 4398046511104=true:=fun x=>uP (by rw[List.length_take];omega)
   rw[ak,qS]
   simp only[hp,e]
   refine(ai (by rw[cu];simp;omega)).2 (af.2 ⟨aP hi',af.2 ⟨aP hi',ap (p:=(l[i].1.length:Int)=0) aI (fun h=>?_) fun h=>af.2 ⟨gw hx,?_⟩⟩⟩)
   ·repeat (refine af.2 ⟨aP hi',?_⟩)
    refine af.2 ⟨hsz _,?_⟩
    rw[iv h,cf (i:=i) (by omega)];exact hm
   ·repeat (refine af.2 ⟨aP hi',?_⟩)
    refine af.2 ⟨hsz _,?_⟩
    rw[cf (i:=i) (by omega)];exact hm
theorem Re{l:List aU}{R:bu}{p:Mi}(h0:p.a0=l)(h1:p.a1=0)(hne:0<l.length)(hl:l.length≤4398046511103)(hd:∀x∈l,x.1.length≤140737488355328)(hR:aA (qS aj) (.more (.c2 ⟨p.a0,p.a2,p.a3,p.a4,p.a5,p.a6,p.a7⟩ (l.length:Int) l)) R):aA (qS aj) (.more (.c0 p)) R:=by
 have hm:=Qa (p:=⟨p.a0,p.a2,p.a3,p.a4,p.a5,p.a6,p.a7⟩) h0 hl hd hR (l.length-1) 1 rfl (by omega)
 rw[List.take_succ_eq_append_getElem hne,List.take_zero,List.nil_append] at hm
 have hx:=hd _ (List.getElem_mem hne)
 have e:(aj.n aR l 0:aU)=l[0]:=getD_in (i:=0) hne _
 have hix:aj.and (aj.c .leq 0 0) (aj.c .lss 0 (aj.l l))=true:=aP (i:=0) hne
 have hlt:aj.c .lss 0 (aj.l l)=true:=by have:=cu (l:=l) (i:=0);rw[decide_eq_true hne] at this;exact this
 have hsz:∀x:aU,aj.c .leq (aj.l [x]) 4398046511104=true:=fun x=>rfl
 rw[ak,qS]
 simp only[h0,h1,e]
 simp only[h0] at hm
 refine(ai hlt).2 (af.2 ⟨hix,af.2 ⟨hix,ap (p:=(l[0].1.length:Int)=0) aI (fun h=>?_) fun h=>af.2 ⟨gw hx,?_⟩⟩⟩)
 ·repeat (refine af.2 ⟨hix,?_⟩)
  refine af.2 ⟨hsz _,?_⟩
  rw[iv h];exact hm
 ·repeat (refine af.2 ⟨hix,?_⟩)
  exact af.2 ⟨hsz _,hm⟩
theorem Qm{l:List aU}{R:bu}{p:Ov}(hp:p.d0=l)(hl:l.length≤4398046511103)(hd:∀x∈l,x.1.length≤140737488355328)(hR:aA (qS aj) (.more (.c3 p (l.length:Int) l)) R):∀(j i:Nat),l.length-i=j→i≤l.length→aA (qS aj) (.more (.c3 p (i:Int) (l.take i))) R:=by
 intro j
 induction j with
 | zero=>
   intro i hj hi
   have:i=l.length:=by omega
   subst this
   rw[List.take_length];exact hR
 | succ j ih=>
   intro i hj hi
   have hi':i<l.length:=by omega
   have hm:=ih (i+1) (by omega) (by omega)
   rw[List.take_succ_eq_append_getElem hi'] at hm
   have hx:=hd _ (List.getElem_mem hi')
   have e:(aj.n aR l (i:Int):aU)=l[i]:=getD_in hi' _
   have hsz:∀x:aU,aj.c .leq (aj.l (aj.p (l.take i) [x])) 4398046511104=true:=fun x=>uP (by rw[List.length_take];omega)
   rw[ak,qS]
   simp only[hp,e]
   refine(ai (by rw[cu];simp;omega)).2 (af.2 ⟨aP hi',af.2 ⟨aP hi',ap (p:=(l[i].1.length:Int)=0) aI (fun h=>?_) fun h=>af.2 ⟨gw hx,?_⟩⟩⟩)
   ·repeat (refine af.2 ⟨aP hi',?_⟩)
    refine af.2 ⟨hsz _,?_⟩
    rw[iv h,cf (i:=i) (by omega)];exact hm
   ·repeat (refine af.2 ⟨aP hi',?_⟩)
    refine af.2 ⟨hsz _,?_⟩
    rw[cf (i:=i) (by omega)];exact hm
theorem P6{l:List aU}{R:bu}{p:Ln}(h0:p.b0=l)(h1:p.b1=0)(hne:0<l.length)(hl:l.length≤4398046511103)(hd:∀x∈l,x.1.length≤140737488355328)(hR:aA (qS aj) (.more (.c3 ⟨p.b0,p.b2,p.b3,p.b4,p.b5,p.b6,p.b7,p.b8⟩ (l.length:Int) l)) R):aA (qS aj) (.more (.c1 p)) R:=by
 have hm:=Qm (p:=⟨p.b0,p.b2,p.b3,p.b4,p.b5,p.b6,p.b7,p.b8⟩) h0 hl hd hR (l.length-1) 1 rfl (by omega)
 rw[List.take_succ_eq_append_getElem hne,List.take_zero,List.nil_append] at hm
 have hx:=hd _ (List.getElem_mem hne)
 have e:(aj.n aR l 0:aU)=l[0]:=getD_in (i:=0) hne _
 have hix:aj.and (aj.c .leq 0 0) (aj.c .lss 0 (aj.l l))=true:=aP (i:=0) hne
 have hlt:aj.c .lss 0 (aj.l l)=true:=by have:=cu (l:=l) (i:=0);rw[decide_eq_true hne] at this;exact this
 have hsz:∀x:aU,aj.c .leq (aj.l [x]) 4398046511104=true:=fun x=>rfl
 rw[ak,qS]
 simp only[h0,h1,e]
 simp only[h0] at hm
 refine(ai hlt).2 (af.2 ⟨hix,af.2 ⟨hix,ap (p:=(l[0].1.length:Int)=0) aI (fun h=>?_) fun h=>af.2 ⟨gw hx,?_⟩⟩⟩)
 ·repeat (refine af.2 ⟨hix,?_⟩)
  refine af.2 ⟨hsz _,?_⟩
  rw[iv h];exact hm
 ·repeat (refine af.2 ⟨hix,?_⟩)
  exact af.2 ⟨hsz _,hm⟩
theorem Xk{c:bu}(hp:AZ c=true):aA (qS aj) (Q7 aj c) c:=by
 obtain⟨h1,h2,h3⟩:=ta.1 hp
 obtain⟨id,out,l,life,want⟩:=c
 unfold Q7
 refine ap (p:=(out.length:Int)=0) aI (fun h=>?_) fun h=>af.2 ⟨gw h1,?_⟩
 ·have ho:out=[]:=List.eq_nil_of_length_eq_zero (by omega)
  subst ho
  cases l with
  | nil=>exact ak.2 ((ah rfl).2 (.ret _))
  | cons x l=>exact Re rfl rfl (Nat.succ_pos _) h2 h3 (ak.2 ((ah (by rw[cu];simp)).2 (.ret _)))
 ·cases l with
  | nil=>exact ak.2 ((ah rfl).2 (.ret _))
  | cons x l=>exact P6 rfl rfl (Nat.succ_pos _) h2 h3 (ak.2 ((ah (by rw[cu];simp)).2 (.ret _)))
def ji:bu→bu:=fun c=>c
def oR:bu→Bool:=fun c=>AZ c
def aa3:aB:=⟨[gy], [gy],oR,ji⟩
theorem Eo:Sd 16 aa3:=aL ax bK true 37 [⟨16,5, [[1,2,3,4]]⟩] [] (fun A c=>Q7 A c) qS VN (fc Tryz.func16 fz) sz (fun A y=>match y with |.c0 p=>⟨44,by kernel_rfl,by kernel_rfl⟩|.c1 p=>⟨44,by kernel_rfl,by kernel_rfl⟩|.c2 p c1 c8=>⟨44,by kernel_rfl,by kernel_rfl⟩|.c3 p d1 d9=>⟨44,by kernel_rfl,by kernel_rfl⟩) fun(c:bu) hp h=>by
 show aA (qS aj) (Q7 aj c) (ji c)
 exact Xk (by simpa [oR] using hp)
open Go.Ev.Pl
structure T4 where
 (a0 a2:Int) (a3:List Int) (a4:bu) (a5 a6 a7:Int) (a9:bu) (bV dT a12:Int)
inductive Md where
 | c0 (p:T4) (a1:Int) (a8:List aU)
noncomputable def UC:Md→fL
 | .c0 p a1 a8=>⟨[⟨156,44,(en [(1,.ptr 0 0),(2,.ptr 1 0),(5,.own 2),(22,vi p.a0),(23,vi a1)]),[.inLoop (cw Tryz.f156 [1,1,1,1,0,1,0,0]),.inBlock 0,.code (cw Tryz.f156 [1,1,1,1,1])],[],none⟩,⟨166,42,(en [(1,vi p.a2),(2,.sl yU p.a3),(3,.ptr 3 0),(6,.ptr 4 0)]),[.ops (ow Tryz.f166 [1,0]) ((ow Tryz.f166 [1,0]).toList.drop 1),.code (cw Tryz.f166 [1,1])],[],none⟩],[.flat false [vi p.a4.1,.sl yU p.a4.2.1,.sl aR p.a4.2.2.1,vi p.a4.2.2.2.1,vi p.a4.2.2.2.2],.flat false [vi p.a5,.bi true,.bi true,vi p.a6,vi p.a7],.arr false aR a8,.flat false [vi p.a9.1,.sl yU p.a9.2.1,.sl aR p.a9.2.2.1,vi p.a9.2.2.2.1,vi p.a9.2.2.2.2],.flat false [vi p.bV,.bi true,.bi true,vi p.dT,vi p.a12],.dead]⟩
def Uc(A:a_)(c:bu)(slot:Int)(data:List Int):LT (bu×Int) Md:=.need (A.k (@tt bu) c) (.br (A.c .neq (A.k jh c) 0) (.br (A.c .neq (A.k jh c) 0) (.ret ((0,([]:List Int),([]:List aU),0,0),(A.k jh c))) (.need (A.k (@tt (Int×Int×Int)) (slot,0,(A.b .sub .i64 (A.l c.2.2.1) 1))) (.br (A.not (A.k mJ (slot,0,(A.b .sub .i64 (A.l c.2.2.1) 1)))) (.ret ((0,([]:List Int),([]:List aU),0,0),2)) (.br (A.c .gtr (A.l data) 8) (.ret ((0,([]:List Int),([]:List aU),0,0),3)) (.need (A.k (@tt (List Int)) data) (.bad 37 "cni.go:107")))))) (.need (A.and (A.c .eql (A.l c.2.2.1) (A.l c.2.2.1)) (A.and (A.c .leq 0 (A.l c.2.2.1)) (A.c .leq (A.l c.2.2.1) 4398046511104))) (.more (.c0 ⟨(A.l (A.spl (A.r (A.l c.2.2.1) (Ty.iL aR:aU)) 0 (A.s c.2.2.1 0 (A.mn (A.l c.2.2.1) (A.l (A.r (A.l c.2.2.1) (Ty.iL aR:aU))))))),slot,data,c,0,0,0,c,0,0,0⟩ 0 (A.spl (A.r (A.l c.2.2.1) (Ty.iL aR:aU)) 0 (A.s c.2.2.1 0 (A.mn (A.l c.2.2.1) (A.l (A.r (A.l c.2.2.1) (Ty.iL aR:aU))))))))))
def Jv(A:a_):Md→LT (bu×Int) Md
 | .c0 p a1 a8=>.br (A.c .lss a1 p.a0) (.need (A.and (A.c .leq 0 a1) (A.c .lss a1 (A.l a8))) (.need (A.k (@tt (List Int)) (A.n aR a8 a1:aU).1) (.need (A.and (A.c .leq 0 a1) (A.c .lss a1 (A.l a8))) (.more (.c0 p (A.b .add .i64 a1 1) (A.set a8 a1 ((A.k oC (A.n aR a8 a1:aU).1),(A.n aR a8 a1:aU).2))))))) (.need (A.k (@tt (List Int)) p.a4.2.1) (.need (A.k (@tt (Int×Int×Int)) (p.a2,0,(A.b .sub .i64 (A.l p.a9.2.2.1) 1))) (.br (A.not (A.k mJ (p.a2,0,(A.b .sub .i64 (A.l p.a9.2.2.1) 1)))) (.ret ((0,([]:List Int),([]:List aU),0,0),2)) (.br (A.c .gtr (A.l p.a3) 8) (.ret ((0,([]:List Int),([]:List aU),0,0),3)) (.need (A.k (@tt (List Int)) p.a3) (.need (A.and (A.c .leq 0 p.a2) (A.c .lss p.a2 (A.l a8))) (.ret ((p.a4.1,(A.k oC p.a4.2.1),(A.set a8 p.a2 ((A.k oC p.a3),0)),p.a4.2.2.2),0))))))))
def nu(c:bu)(slot:Int)(data:List Int):bu×Int:=
 bif dU c then(bif decide (0≤slot∧slot≤(c.2.2.1.length:Int)-1) then(bif decide (8<(data.length:Int)) then(wA,3) else((c.1,c.2.1,c.2.2.1.set slot.toNat (data,0),c.2.2.2),0)) else(wA,2)) else(wA,120)
def adU:bu×Int×List Int→bu×Int:=fun(c,slot,data)=>nu c slot data
theorem qV{c:bu}(h:dU c=true):4≤c.2.2.1.length∧c.2.2.1.length≤8∧c.2.1.length≤8∧∀x∈c.2.2.1,x.1.length≤8∧0≤x.2∧x.2≤255:=by
 simp only[dU,Bool.and_eq_true,decide_eq_true_eq,List.all_eq_true,Fz] at h
 exact⟨by omega,by omega,by omega,fun x hx=>by have:=h.2.2.2.2.2 x hx;exact⟨by omega,this.2⟩⟩
theorem DU{c:bu}(h:dU c=true):aj.and (aj.c .eql (aj.l c.2.2.1) (aj.l c.2.2.1)) (aj.and (aj.c .leq 0 (aj.l c.2.2.1)) (aj.c .leq (aj.l c.2.2.1) 4398046511104))=true:=by
 have:=qV h
 rw[fN,aC,ay,ay,aQ,aQ];simp;omega
theorem EG{l:List aU}{i:Nat}(hi:i<l.length):aj.set l (i:Int) ((aj.k oC (aj.n aR l (i:Int):aU).1),(aj.n aR l (i:Int):aU).2)=l:=by
 rw[show(aj.n aR l (i:Int):aU)=l[i] from getD_in hi _]
 show l.set (i:Int).toNat l[i]=l
 rw[Int.toNat_natCast];exact List.set_getElem_self _
theorem ai7{c:bu}{L slot z1 z2 z3 z4 z5 z6:Int}{data:List Int}{R:bu×Int}(hl:c.2.2.1.length≤8)(hL:L=(c.2.2.1.length:Int))(hR:aA (Jv aj) (.more (.c0 ⟨L,slot,data,c,z1,z2,z3,c,z4,z5,z6⟩ (c.2.2.1.length:Int) c.2.2.1)) R) :
  ∀(j i:Nat),c.2.2.1.length-i=j→i≤c.2.2.1.length→aA (Jv aj) (.more (.c0 ⟨L,slot,data,c,z1,z2,z3,c,z4,z5,z6⟩ (i:Int) c.2.2.1)) R:=by
 subst hL
 intro j
 induction j with
 | zero=>
   intro i hj hi
   have:i=c.2.2.1.length:=by omega
   subst this
   exact hR
 | succ j ih=>
   intro i hj hi
   have hi':i<c.2.2.1.length:=by omega
   rw[ak,Jv]
   refine(ai (by rw[aO];simp;omega)).2 (af.2 ⟨aP hi',af.2 ⟨rfl,af.2 ⟨aP hi',?_⟩⟩⟩)
   rw[EG hi',cf (i:=i) (by omega)]
   exact ih (i+1) (by omega) (by omega)
theorem agh{c:bu}{slot:Int}{data:List Int}:aA (Jv aj) (Uc aj c slot data) (nu c slot data):=by
 unfold Uc nu
 refine af.2 ⟨rfl,?_⟩
 rw[show aj.k jh c=ig c from rfl,ig]
 cases hc:dU c
 ·exact(ai rfl).2 ((ai rfl).2 (.ret _))
 ·obtain⟨h1,h2,_,_⟩:=qV hc
  refine(ah rfl).2 (af.2 ⟨DU hc,bo (congrArg (fun z:List aU=>LT.more (Md.c0 ⟨aj.l z,slot,data,c,0,0,0,c,0,0,0⟩ 0 z)) Da) (ai7 h2 rfl ?_ c.2.2.1.length 0 rfl (by omega))⟩)
  rw[ak,Jv]
  have hs:aj.b .sub .i64 (c.2.2.1.length:Int) 1=(c.2.2.1.length:Int)-1:=by rw[aX,fV (by omega) (by omega)]
  refine(ah (by rw[aO];simp)).2 (af.2 ⟨rfl,af.2 ⟨rfl,?_⟩⟩)
  rw[BH]
  simp only[fN,hs]
  refine eX (fun h=>?_) fun h3=>ap (p:=8<(data.length:Int)) rfl (fun h=>?_) fun h4=>af.2 ⟨rfl,af.2 ⟨?_,?_⟩⟩
  ·rw[decide_eq_false h];exact .ret _
  ·rw[decide_eq_true h3,decide_eq_true h];exact .ret _
  ·rw[ay,ar,aQ];simp;omega
  ·rw[decide_eq_true h3,decide_eq_false h4];exact .ret _
def lK:(bu×Int×List Int)→(bu×Int):=adU
def aal:aB:=⟨[gy,yI,yB], [gy,yI],(@tt (bu×Int×List Int)),lK⟩
theorem G3:Sd 166 aal:=aL ax bK true 89 [⟨156,7, [[1,2,5,22,23], [1,2,3,6]]⟩] [] (fun A (c,slot,data)=>Uc A c slot data) Jv UC (fc Tryz.func166 (fc Tryz.func156 fz)) (sc Gq (sc yC (sc Et sz))) (fun A y=>match y with |.c0 p a1 a8=>⟨86,by kernel_rfl,by kernel_rfl⟩) fun(c,slot,data) hp h=>agh
structure W0 where
 (a0 a1 a2 a3 a4 a5 a6 a7:Int)
structure VT where
 (b0:Int) (b2:bu) (b3 b4 b5 b7 b8 b9:Int)
structure Wa where
 (c0 c2 c3 c4 c5:Int) (c6:List Int) (c7 c8:Int)
inductive MF where
 | c0 (p:W0)
 | c1 (p:VT) (b1:Int) (b6:List aU)
 | c2 (p:Wa) (c1:Int) (c9:List aU)
noncomputable def S9:MF→fL
 | .c0 p=>⟨[⟨119,42,(en [(2,.ptr 0 0),(4,.ptr 1 0),(18,vi p.a0),(19,vi p.a1)]),[.inLoop (cw Tryz.f119 [1,1,1,0,1,0,0]),.inBlock 0,.code (cw Tryz.f119 [1,1,1,1])],[],none⟩],[.flat false [vi p.a2,.bi true,.bi true,vi p.a3,vi p.a4],.flat false [vi p.a5,.bi true,.bi true,vi p.a6,vi p.a7],.dead]⟩
 | .c1 p b1 b6=>⟨[⟨156,44,(en [(1,.ptr 0 0),(2,.ptr 1 0),(5,.own 2),(22,vi p.b0),(23,vi b1)]),[.inLoop (cw Tryz.f156 [1,1,1,1,0,1,0,0]),.inBlock 0,.code (cw Tryz.f156 [1,1,1,1,1])],[],none⟩,⟨119,42,(en [(2,.ptr 3 0)]),[.ops (ow Tryz.f119 [1,0]) ((ow Tryz.f119 [1,0]).toList.drop 1),.code (cw Tryz.f119 [1,1])],[],none⟩],[.flat false [vi p.b2.1,.sl yU p.b2.2.1,.sl aR p.b2.2.2.1,vi p.b2.2.2.2.1,vi p.b2.2.2.2.2],.flat false [vi p.b3,.bi true,.bi true,vi p.b4,vi p.b5],.arr false aR b6,.flat false [vi p.b7,.bi true,.bi true,vi p.b8,vi p.b9],.dead]⟩
 | .c2 p c1 c9=>⟨[⟨119,42,(en [(2,.ptr 0 0),(4,.ptr 1 0),(18,vi p.c0),(19,vi c1)]),[.inLoop (cw Tryz.f119 [1,1,1,0,1,0,0]),.inBlock 0,.code (cw Tryz.f119 [1,1,1,1])],[],none⟩],[.flat false [vi p.c2,.bi true,.bi true,vi p.c3,vi p.c4],.flat false [vi p.c5,.sl yU p.c6,.own 2,vi p.c7,vi p.c8],.arr false aR c9,.dead]⟩
def Uu(A:a_)(c:bu):LT (bu×Int) MF:=.need (A.k (@tt bu) c) (.br (A.c .neq (A.k jh c) 0) (.br (A.c .neq (A.k jh c) 0) (.ret ((0,([]:List Int),([]:List aU),0,0),(A.k jh c))) (.more (.c0 ⟨0,0,0,0,0,0,0,0⟩))) (.need (A.and (A.c .eql (A.l c.2.2.1) (A.l c.2.2.1)) (A.and (A.c .leq 0 (A.l c.2.2.1)) (A.c .leq (A.l c.2.2.1) 4398046511104))) (.more (.c1 ⟨(A.l (A.spl (A.r (A.l c.2.2.1) (Ty.iL aR:aU)) 0 (A.s c.2.2.1 0 (A.mn (A.l c.2.2.1) (A.l (A.r (A.l c.2.2.1) (Ty.iL aR:aU))))))),c,0,0,0,0,0,0⟩ 0 (A.spl (A.r (A.l c.2.2.1) (Ty.iL aR:aU)) 0 (A.s c.2.2.1 0 (A.mn (A.l c.2.2.1) (A.l (A.r (A.l c.2.2.1) (Ty.iL aR:aU))))))))))
def Dn(A:a_):MF→LT (bu×Int) MF
 | .c0 p=>.br (A.c .lss p.a1 p.a0) (.bad 37 "cni.go:118") (.ret ((p.a5,([]:List Int),([]:List aU),(A.mx (A.b .sub .i64 p.a6 1) 0),p.a7),0))
 | .c1 p b1 b6=>.br (A.c .lss b1 p.b0) (.need (A.and (A.c .leq 0 b1) (A.c .lss b1 (A.l b6))) (.need (A.k (@tt (List Int)) (A.n aR b6 b1:aU).1) (.need (A.and (A.c .leq 0 b1) (A.c .lss b1 (A.l b6))) (.more (.c1 p (A.b .add .i64 b1 1) (A.set b6 b1 ((A.k oC (A.n aR b6 b1:aU).1),(A.n aR b6 b1:aU).2))))))) (.need (A.k (@tt (List Int)) p.b2.2.1) (.more (.c2 ⟨(A.l b6),p.b7,p.b8,p.b9,p.b2.1,(A.k oC p.b2.2.1),p.b2.2.2.2.1,p.b2.2.2.2.2⟩ 0 b6)))
 | .c2 p c1 c9=>.br (A.c .lss c1 p.c0) (.need (A.and (A.c .leq 0 c1) (A.c .lss c1 (A.l c9))) (.need (A.and (A.c .leq 0 c1) (A.c .lss c1 (A.l c9))) (.more (.c2 p (A.b .add .i64 c1 1) (A.set c9 c1 ((A.n aR c9 c1:aU).1,(A.mn (A.b .add .i64 (A.n aR c9 c1:aU).2 1) 255))))))) (.ret ((p.c5,p.c6,c9,(A.mx (A.b .sub .i64 p.c7 1) 0),p.c8),0))
def p8(m:aU):aU:=(m.1,aj.mn (aj.b .add .i64 m.2 1) 255)
def Df(c:bu):bu×Int:=bif dU c then((c.1,c.2.1,c.2.2.1.map p8,aj.mx (aj.b .sub .i64 c.2.2.2.1 1) 0,c.2.2.2.2),0) else(wA,120)
theorem Fy{f:aU→aU}{l:List aU}{i:Nat}(hi:i<l.length):(aj.n aR ((l.take i).map f++l.drop i) (i:Int):aU)=l[i]∧aj.set ((l.take i).map f++l.drop i) (i:Int) (f l[i])=(l.take (i+1)).map f++l.drop (i+1):=by
 have hlen:i<((l.take i).map f++l.drop i).length:=by simp;omega
 have h1:((l.take i).map f).length=i:=by simp;omega
 constructor
 ·refine(getD_in hlen _).trans ?_
  rw[List.getElem_append_right (by rw[h1];exact Nat.le_refl _)]
  rw[List.getElem_drop]
  congr 1
  omega
 ·show List.set _ (i:Int).toNat _=_
  rw[Int.toNat_natCast,List.set_append_right _ _ (by rw[h1];exact Nat.le_refl _),h1,Nat.sub_self,List.drop_eq_getElem_cons hi,List.set_cons_zero,List.take_succ_eq_append_getElem hi,List.map_append,List.append_assoc]
  rfl
theorem su{f:aU→aU}{l:List aU}{i:Nat}(hi:i≤l.length):((l.take i).map f++l.drop i).length=l.length:=by simp;omega
theorem ahK{c:bu}{L z1 z2 z3 z4 z5 z6:Int}{R:bu×Int}(hl:c.2.2.1.length≤8)(hL:L=(c.2.2.1.length:Int))(hR:aA (Dn aj) (.more (.c1 ⟨L,c,z1,z2,z3,z4,z5,z6⟩ (c.2.2.1.length:Int) c.2.2.1)) R) :
  ∀(j i:Nat),c.2.2.1.length-i=j→i≤c.2.2.1.length→aA (Dn aj) (.more (.c1 ⟨L,c,z1,z2,z3,z4,z5,z6⟩ (i:Int) c.2.2.1)) R:=by
 subst hL
 intro j
 induction j with
 | zero=>
   intro i hj hi
   have:i=c.2.2.1.length:=by omega
   subst this
   exact hR
 | succ j ih=>
   intro i hj hi
   have hi':i<c.2.2.1.length:=by omega
   rw[ak,Dn]
   refine(ai (by rw[aO];simp;omega)).2 (af.2 ⟨aP hi',af.2 ⟨rfl,af.2 ⟨aP hi',?_⟩⟩⟩)
   rw[EG hi',cf (i:=i) (by omega)]
   exact ih (i+1) (by omega) (by omega)
theorem aiI{l:List aU}{L z1 z2 z3 id life want:Int}{out:List Int}(hl:l.length≤8)(hL:L=(l.length:Int)):∀(j i:Nat),l.length-i=j→i≤l.length→
  aA (Dn aj) (.more (.c2 ⟨L,z1,z2,z3,id,out,life,want⟩ (i:Int) ((l.take i).map p8++l.drop i))) ((id,out,l.map p8,aj.mx (aj.b .sub .i64 life 1) 0,want),0):=by
 subst hL
 intro j
 induction j with
 | zero=>
   intro i hj hi
   have:i=l.length:=by omega
   subst this
   rw[ak,Dn,List.take_length,List.drop_length,List.append_nil]
   exact(ah (by rw[aO];simp)).2 (.ret _)
 | succ j ih=>
   intro i hj hi
   have hi':i<l.length:=by omega
   have hx:i<((l.take i).map p8++l.drop i).length:=by rw[su hi];exact hi'
   obtain⟨a1,a2⟩:=Fy (f:=p8) hi'
   rw[ak,Dn]
   refine(ai (by rw[aO];simp;omega)).2 (af.2 ⟨aP hx,af.2 ⟨aP hx,?_⟩⟩)
   rw[a1,cf (i:=i) (by omega)]
   rw[show(l[i].1,aj.mn (aj.b .add .i64 l[i].2 1) 255)=p8 l[i] from rfl,a2]
   exact ih (i+1) (by omega) (by omega)
theorem agV{c:bu}:aA (Dn aj) (Uu aj c) (Df c):=by
 unfold Uu Df
 refine af.2 ⟨rfl,?_⟩
 rw[show aj.k jh c=ig c from rfl,ig]
 cases hc:dU c
 ·exact(ai rfl).2 ((ai rfl).2 (.ret _))
 ·obtain⟨h1,h2,_,_⟩:=qV hc
  refine(ah rfl).2 (af.2 ⟨DU hc,bo (congrArg (fun z:List aU=>LT.more (MF.c1 ⟨aj.l z,c,0,0,0,0,0,0⟩ 0 z)) Da) (ahK h2 rfl ?_ c.2.2.1.length 0 rfl (by omega))⟩)
  rw[ak,Dn]
  exact(ah (by rw[aO];simp)).2 (af.2 ⟨rfl,aiI (l:=c.2.2.1) (out:=c.2.1) h2 rfl c.2.2.1.length 0 rfl (by omega)⟩)
def M4:bu→(bu×Int):=Df
def XM:aB:=⟨[gy], [gy,yI],(@tt bu),M4⟩
theorem ael:Sd 119 XM:=aL ax bK true 68 [⟨119,5, [[2,4,18,19]]⟩,⟨156,7, [[1,2,5,22,23], [2]]⟩] [] (fun A c=>Uu A c) Dn S9 (fc Tryz.func119 (fc Tryz.func156 fz)) (sc Gq (sc yC sz)) (fun A y=>match y with |.c0 p=>⟨28,by kernel_rfl,by kernel_rfl⟩|.c1 p b1 b6=>⟨56,by kernel_rfl,by kernel_rfl⟩|.c2 p c1 c9=>⟨41,by kernel_rfl,by kernel_rfl⟩) fun c hp h=>agV
open Go.Ev.Pl
structure KC where
 (a0:List aU) (a1 a2:Int) (a3:List Int) (a4 a5 a6 a7 a8 a9:Int) (bV:bu) (dT a12 lk:Int)
structure Nh where
 (b0:List aU) (b1 b2:Int) (b3:List Int) (b4 b5 b6 b7 b8 b9:Int) (b10:bu) (b11 b12 b13:Int) (sn:List Int)
structure Lm where
 (c0:List aU) (c2:Int) (c3:List Int) (c4 c5 c6 c7 c8 c9:Int) (c10:bu) (c11 c12 c13:Int)
structure Kn where
 (d0:List aU) (d2:Int) (d3:List Int) (d4 d5 d6 d7 d8 d9:Int) (fD:bu) (gX Gl d13:Int) (d14:List Int)
inductive Lc where
 | c0 (p:KC)
 | c1 (p:Nh)
 | c2 (p:Lm) (c1:Int) (c14:List aU)
 | c3 (p:Kn) (d1:Int) (mA:List aU)
noncomputable def WZ:Lc→fL
 | .c0 p=>⟨[⟨16,36,(en [(1,.ptr 0 0),(2,.ptr 1 0),(3,.sl aR p.a0),(4,vi p.a1)]),[.inLoop (cw Tryz.f16 [1,1,1,1,0,1,0,0]),.inBlock 0,.code (cw Tryz.f16 [1,1,1,1,1])],[],none⟩,⟨175,39,(en [(1,vi p.a2),(2,.sl yU p.a3),(3,.ptr 2 0),(6,.ptr 3 0)]),[.ops (ow Tryz.f175 [1,1,1,1,0]) ((ow Tryz.f175 [1,1,1,1,0]).toList.drop 1),.code (cw Tryz.f175 [1,1,1,1,1])],[],none⟩],[.flat false [vi p.a4,.bi true,.bi true,vi p.a5,vi p.a6],.flat false [vi p.a7,.bi true,.bi true,vi p.a8,vi p.a9],.flat false [vi p.bV.1,.sl yU p.bV.2.1,.sl aR p.bV.2.2.1,vi p.bV.2.2.2.1,vi p.bV.2.2.2.2],.flat false [vi p.dT,.bi true,.bi true,vi p.a12,vi p.lk],.dead]⟩
 | .c1 p=>⟨[⟨16,36,(en [(1,.ptr 0 0),(2,.ptr 1 0),(3,.sl aR p.b0),(4,vi p.b1)]),[.inLoop (cw Tryz.f16 [1,1,1,1,0,1,0,0]),.inBlock 0,.code (cw Tryz.f16 [1,1,1,1,1])],[],none⟩,⟨175,39,(en [(1,vi p.b2),(2,.sl yU p.b3),(3,.ptr 2 0),(6,.ptr 3 0)]),[.ops (ow Tryz.f175 [1,1,1,1,0]) ((ow Tryz.f175 [1,1,1,1,0]).toList.drop 1),.code (cw Tryz.f175 [1,1,1,1,1])],[],none⟩],[.flat false [vi p.b4,.own 4,.bi true,vi p.b5,vi p.b6],.flat false [vi p.b7,.bi true,.bi true,vi p.b8,vi p.b9],.flat false [vi p.b10.1,.sl yU p.b10.2.1,.sl aR p.b10.2.2.1,vi p.b10.2.2.2.1,vi p.b10.2.2.2.2],.flat false [vi p.b11,.bi true,.bi true,vi p.b12,vi p.b13],.arr false yU p.sn,.dead]⟩
 | .c2 p c1 c14=>⟨[⟨16,36,(en [(1,.ptr 0 0),(2,.ptr 1 0),(3,.sl aR p.c0),(4,vi c1)]),[.inLoop (cw Tryz.f16 [1,1,1,1,0,1,0,0]),.inBlock 0,.code (cw Tryz.f16 [1,1,1,1,1])],[],none⟩,⟨175,39,(en [(1,vi p.c2),(2,.sl yU p.c3),(3,.ptr 2 0),(6,.ptr 3 0)]),[.ops (ow Tryz.f175 [1,1,1,1,0]) ((ow Tryz.f175 [1,1,1,1,0]).toList.drop 1),.code (cw Tryz.f175 [1,1,1,1,1])],[],none⟩],[.flat false [vi p.c4,.bi true,.own 4,vi p.c5,vi p.c6],.flat false [vi p.c7,.bi true,.bi true,vi p.c8,vi p.c9],.flat false [vi p.c10.1,.sl yU p.c10.2.1,.sl aR p.c10.2.2.1,vi p.c10.2.2.2.1,vi p.c10.2.2.2.2],.flat false [vi p.c11,.bi true,.bi true,vi p.c12,vi p.c13],.arr false aR c14,.dead]⟩
 | .c3 p d1 mA=>⟨[⟨16,36,(en [(1,.ptr 0 0),(2,.ptr 1 0),(3,.sl aR p.d0),(4,vi d1)]),[.inLoop (cw Tryz.f16 [1,1,1,1,0,1,0,0]),.inBlock 0,.code (cw Tryz.f16 [1,1,1,1,1])],[],none⟩,⟨175,39,(en [(1,vi p.d2),(2,.sl yU p.d3),(3,.ptr 2 0),(6,.ptr 3 0)]),[.ops (ow Tryz.f175 [1,1,1,1,0]) ((ow Tryz.f175 [1,1,1,1,0]).toList.drop 1),.code (cw Tryz.f175 [1,1,1,1,1])],[],none⟩],[.flat false [vi p.d4,.own 4,.own 5,vi p.d5,vi p.d6],.flat false [vi p.d7,.bi true,.bi true,vi p.d8,vi p.d9],.flat false [vi p.fD.1,.sl yU p.fD.2.1,.sl aR p.fD.2.2.1,vi p.fD.2.2.2.1,vi p.fD.2.2.2.2],.flat false [vi p.gX,.bi true,.bi true,vi p.Gl,vi p.d13],.arr false yU p.d14,.arr false aR mA,.dead]⟩
def U_(A:a_)(c:bu)(slot:Int)(data:List Int):LT (bu×Int) Lc:=.need (A.k (@tt bu) c) (.br (A.c .neq (A.k iF c) 0) (.ret ((0,([]:List Int),([]:List aU),0,0),(A.k iF c))) (.br (A.c .lss slot 0) (.ret ((0,([]:List Int),([]:List aU),0,0),2)) (.br (A.c .geq slot (A.l c.2.2.1)) (.ret ((0,([]:List Int),([]:List aU),0,0),2)) (.br (A.c .gtr (A.l data) 8) (.ret ((0,([]:List Int),([]:List aU),0,0),3)) (.br (A.c .eql (A.l c.2.1) 0) (.more (.c0 ⟨c.2.2.1,0,slot,data,c.1,c.2.2.2.1,c.2.2.2.2,0,0,0,c,0,0,0⟩)) (.need (A.c .leq (A.l c.2.1) 140737488355328) (.more (.c1 ⟨c.2.2.1,0,slot,data,c.1,c.2.2.2.1,c.2.2.2.2,0,0,0,c,0,0,0,c.2.1⟩))))))))
def oo(A:a_):Lc→LT (bu×Int) Lc
 | .c0 p=>.br (A.c .lss p.a1 (A.l p.a0)) (.need (A.and (A.c .leq 0 p.a1) (A.c .lss p.a1 (A.l p.a0))) (.need (A.and (A.c .leq 0 p.a1) (A.c .lss p.a1 (A.l p.a0))) (.br (A.c .eql (A.l (A.n aR p.a0 p.a1:aU).1) 0) (.need (A.and (A.c .leq 0 p.a1) (A.c .lss p.a1 (A.l p.a0))) (.need (A.c .leq (A.l ([(([]:List Int),(A.n aR p.a0 p.a1:aU).2)]:List aU)) 4398046511104) (.more (.c2 ⟨p.a0,p.a2,p.a3,p.a4,p.a5,p.a6,p.a7,p.a8,p.a9,p.bV,p.dT,p.a12,p.lk⟩ (A.b .add .i64 p.a1 1) [(([]:List Int),(A.n aR p.a0 p.a1:aU).2)])))) (.need (A.c .leq (A.l (A.n aR p.a0 p.a1:aU).1) 140737488355328) (.need (A.and (A.c .leq 0 p.a1) (A.c .lss p.a1 (A.l p.a0))) (.need (A.c .leq (A.l ([(A.n aR p.a0 p.a1:aU)]:List aU)) 4398046511104) (.more (.c2 ⟨p.a0,p.a2,p.a3,p.a4,p.a5,p.a6,p.a7,p.a8,p.a9,p.bV,p.dT,p.a12,p.lk⟩ (A.b .add .i64 p.a1 1) [(A.n aR p.a0 p.a1:aU)])))))))) (.br (A.c .eql (A.l p.a3) 0) (.bad 37 "ref.go:106") (.need (A.c .leq (A.l p.a3) 140737488355328) (.bad 37 "ref.go:106")))
 | .c1 p=>.br (A.c .lss p.b1 (A.l p.b0)) (.need (A.and (A.c .leq 0 p.b1) (A.c .lss p.b1 (A.l p.b0))) (.need (A.and (A.c .leq 0 p.b1) (A.c .lss p.b1 (A.l p.b0))) (.br (A.c .eql (A.l (A.n aR p.b0 p.b1:aU).1) 0) (.need (A.and (A.c .leq 0 p.b1) (A.c .lss p.b1 (A.l p.b0))) (.need (A.c .leq (A.l ([(([]:List Int),(A.n aR p.b0 p.b1:aU).2)]:List aU)) 4398046511104) (.more (.c3 ⟨p.b0,p.b2,p.b3,p.b4,p.b5,p.b6,p.b7,p.b8,p.b9,p.b10,p.b11,p.b12,p.b13,p.sn⟩ (A.b .add .i64 p.b1 1) [(([]:List Int),(A.n aR p.b0 p.b1:aU).2)])))) (.need (A.c .leq (A.l (A.n aR p.b0 p.b1:aU).1) 140737488355328) (.need (A.and (A.c .leq 0 p.b1) (A.c .lss p.b1 (A.l p.b0))) (.need (A.c .leq (A.l ([(A.n aR p.b0 p.b1:aU)]:List aU)) 4398046511104) (.more (.c3 ⟨p.b0,p.b2,p.b3,p.b4,p.b5,p.b6,p.b7,p.b8,p.b9,p.b10,p.b11,p.b12,p.b13,p.sn⟩ (A.b .add .i64 p.b1 1) [(A.n aR p.b0 p.b1:aU)])))))))) (.br (A.c .eql (A.l p.b3) 0) (.bad 37 "ref.go:106") (.need (A.c .leq (A.l p.b3) 140737488355328) (.bad 37 "ref.go:106")))
 | .c2 p c1 c14=>.br (A.c .lss c1 (A.l p.c0)) (.need (A.and (A.c .leq 0 c1) (A.c .lss c1 (A.l p.c0))) (.need (A.and (A.c .leq 0 c1) (A.c .lss c1 (A.l p.c0))) (.br (A.c .eql (A.l (A.n aR p.c0 c1:aU).1) 0) (.need (A.and (A.c .leq 0 c1) (A.c .lss c1 (A.l p.c0))) (.need (A.c .leq (A.l (A.p c14 [(([]:List Int),(A.n aR p.c0 c1:aU).2)])) 4398046511104) (.more (.c2 p (A.b .add .i64 c1 1) (A.p c14 [(([]:List Int),(A.n aR p.c0 c1:aU).2)]))))) (.need (A.c .leq (A.l (A.n aR p.c0 c1:aU).1) 140737488355328) (.need (A.and (A.c .leq 0 c1) (A.c .lss c1 (A.l p.c0))) (.need (A.c .leq (A.l (A.p c14 [(A.n aR p.c0 c1:aU)])) 4398046511104) (.more (.c2 p (A.b .add .i64 c1 1) (A.p c14 [(A.n aR p.c0 c1:aU)]))))))))) (.br (A.c .eql (A.l p.c3) 0) (.need (A.and (A.c .leq 0 p.c2) (A.c .lss p.c2 (A.l c14))) (.ret ((p.c4,([]:List Int),(A.set c14 p.c2 (([]:List Int),0)),p.c5,p.c6),0))) (.need (A.c .leq (A.l p.c3) 140737488355328) (.need (A.and (A.c .leq 0 p.c2) (A.c .lss p.c2 (A.l c14))) (.ret ((p.c4,([]:List Int),(A.set c14 p.c2 (p.c3,0)),p.c5,p.c6),0)))))
 | .c3 p d1 mA=>.br (A.c .lss d1 (A.l p.d0)) (.need (A.and (A.c .leq 0 d1) (A.c .lss d1 (A.l p.d0))) (.need (A.and (A.c .leq 0 d1) (A.c .lss d1 (A.l p.d0))) (.br (A.c .eql (A.l (A.n aR p.d0 d1:aU).1) 0) (.need (A.and (A.c .leq 0 d1) (A.c .lss d1 (A.l p.d0))) (.need (A.c .leq (A.l (A.p mA [(([]:List Int),(A.n aR p.d0 d1:aU).2)])) 4398046511104) (.more (.c3 p (A.b .add .i64 d1 1) (A.p mA [(([]:List Int),(A.n aR p.d0 d1:aU).2)]))))) (.need (A.c .leq (A.l (A.n aR p.d0 d1:aU).1) 140737488355328) (.need (A.and (A.c .leq 0 d1) (A.c .lss d1 (A.l p.d0))) (.need (A.c .leq (A.l (A.p mA [(A.n aR p.d0 d1:aU)])) 4398046511104) (.more (.c3 p (A.b .add .i64 d1 1) (A.p mA [(A.n aR p.d0 d1:aU)]))))))))) (.br (A.c .eql (A.l p.d3) 0) (.need (A.and (A.c .leq 0 p.d2) (A.c .lss p.d2 (A.l mA))) (.ret ((p.d4,p.d14,(A.set mA p.d2 (([]:List Int),0)),p.d5,p.d6),0))) (.need (A.c .leq (A.l p.d3) 140737488355328) (.need (A.and (A.c .leq 0 p.d2) (A.c .lss p.d2 (A.l mA))) (.ret ((p.d4,p.d14,(A.set mA p.d2 (p.d3,0)),p.d5,p.d6),0)))))
theorem P2{l:List aU}{R:(bu×Int)}{p:Lm}(hp:p.c0=l)(hl:l.length≤4398046511103)(hd:∀x∈l,x.1.length≤140737488355328)(hR:aA (oo aj) (.more (.c2 p (l.length:Int) l)) R):∀(j i:Nat),l.length-i=j→i≤l.length→aA (oo aj) (.more (.c2 p (i:Int) (l.take i))) R:=by
 intro j
 induction j with
 | zero=>
   intro i hj hi
   have:i=l.length:=by omega
   subst this
   rw[List.take_length];exact hR
 | succ j ih=>
   intro i hj hi
   have hi':i<l.length:=by omega
   have hm:=ih (i+1) (by omega) (by omega)
   rw[List.take_succ_eq_append_getElem hi'] at hm
   have hx:=hd _ (List.getElem_mem hi')
   have e:(aj.n aR l (i:Int):aU)=l[i]:=getD_in hi' _
   have hsz:∀x:aU,aj.c .leq (aj.l (aj.p (l.take i) [x])) 4398046511104=true:=fun x=>uP (by rw[List.length_take];omega)
   rw[ak,oo]
   simp only[hp,e]
   refine(ai (by rw[cu];simp;omega)).2 (af.2 ⟨aP hi',af.2 ⟨aP hi',ap (p:=(l[i].1.length:Int)=0) aI (fun h=>?_) fun h=>af.2 ⟨gw hx,?_⟩⟩⟩)
   ·repeat (refine af.2 ⟨aP hi',?_⟩)
    refine af.2 ⟨hsz _,?_⟩
    rw[iv h,cf (i:=i) (by omega)];exact hm
   ·repeat (refine af.2 ⟨aP hi',?_⟩)
    refine af.2 ⟨hsz _,?_⟩
    rw[cf (i:=i) (by omega)];exact hm
theorem QW{l:List aU}{R:(bu×Int)}{p:KC}(h0:p.a0=l)(h1:p.a1=0)(hne:0<l.length)(hl:l.length≤4398046511103)(hd:∀x∈l,x.1.length≤140737488355328)(hR:aA (oo aj) (.more (.c2 ⟨p.a0,p.a2,p.a3,p.a4,p.a5,p.a6,p.a7,p.a8,p.a9,p.bV,p.dT,p.a12,p.lk⟩ (l.length:Int) l)) R):aA (oo aj) (.more (.c0 p)) R:=by
 have hm:=P2 (p:=⟨p.a0,p.a2,p.a3,p.a4,p.a5,p.a6,p.a7,p.a8,p.a9,p.bV,p.dT,p.a12,p.lk⟩) h0 hl hd hR (l.length-1) 1 rfl (by omega)
 rw[List.take_succ_eq_append_getElem hne,List.take_zero,List.nil_append] at hm
 have hx:=hd _ (List.getElem_mem hne)
 have e:(aj.n aR l 0:aU)=l[0]:=getD_in (i:=0) hne _
 have hix:aj.and (aj.c .leq 0 0) (aj.c .lss 0 (aj.l l))=true:=aP (i:=0) hne
 have hlt:aj.c .lss 0 (aj.l l)=true:=by have:=cu (l:=l) (i:=0);rw[decide_eq_true hne] at this;exact this
 have hsz:∀x:aU,aj.c .leq (aj.l [x]) 4398046511104=true:=fun x=>rfl
 rw[ak,oo]
 simp only[h0,h1,e]
 simp only[h0] at hm
 refine(ai hlt).2 (af.2 ⟨hix,af.2 ⟨hix,ap (p:=(l[0].1.length:Int)=0) aI (fun h=>?_) fun h=>af.2 ⟨gw hx,?_⟩⟩⟩)
 ·repeat (refine af.2 ⟨hix,?_⟩)
  refine af.2 ⟨hsz _,?_⟩
  rw[iv h];exact hm
 ·repeat (refine af.2 ⟨hix,?_⟩)
  exact af.2 ⟨hsz _,hm⟩
theorem OI{l:List aU}{R:(bu×Int)}{p:Kn}(hp:p.d0=l)(hl:l.length≤4398046511103)(hd:∀x∈l,x.1.length≤140737488355328)(hR:aA (oo aj) (.more (.c3 p (l.length:Int) l)) R):∀(j i:Nat),l.length-i=j→i≤l.length→aA (oo aj) (.more (.c3 p (i:Int) (l.take i))) R:=by
 intro j
 induction j with
 | zero=>
   intro i hj hi
   have:i=l.length:=by omega
   subst this
   rw[List.take_length];exact hR
 | succ j ih=>
   intro i hj hi
   have hi':i<l.length:=by omega
   have hm:=ih (i+1) (by omega) (by omega)
   rw[List.take_succ_eq_append_getElem hi'] at hm
   have hx:=hd _ (List.getElem_mem hi')
   have e:(aj.n aR l (i:Int):aU)=l[i]:=getD_in hi' _
   have hsz:∀x:aU,aj.c .leq (aj.l (aj.p (l.take i) [x])) 4398046511104=true:=fun x=>uP (by rw[List.length_take];omega)
   rw[ak,oo]
   simp only[hp,e]
   refine(ai (by rw[cu];simp;omega)).2 (af.2 ⟨aP hi',af.2 ⟨aP hi',ap (p:=(l[i].1.length:Int)=0) aI (fun h=>?_) fun h=>af.2 ⟨gw hx,?_⟩⟩⟩)
   ·repeat (refine af.2 ⟨aP hi',?_⟩)
    refine af.2 ⟨hsz _,?_⟩
    rw[iv h,cf (i:=i) (by omega)];exact hm
   ·repeat (refine af.2 ⟨aP hi',?_⟩)
    refine af.2 ⟨hsz _,?_⟩
    rw[cf (i:=i) (by omega)];exact hm
theorem Qd{l:List aU}{R:(bu×Int)}{p:Nh}(h0:p.b0=l)(h1:p.b1=0)(hne:0<l.length)(hl:l.length≤4398046511103)(hd:∀x∈l,x.1.length≤140737488355328)(hR:aA (oo aj) (.more (.c3 ⟨p.b0,p.b2,p.b3,p.b4,p.b5,p.b6,p.b7,p.b8,p.b9,p.b10,p.b11,p.b12,p.b13,p.sn⟩ (l.length:Int) l)) R):aA (oo aj) (.more (.c1 p)) R:=by
 have hm:=OI (p:=⟨p.b0,p.b2,p.b3,p.b4,p.b5,p.b6,p.b7,p.b8,p.b9,p.b10,p.b11,p.b12,p.b13,p.sn⟩) h0 hl hd hR (l.length-1) 1 rfl (by omega)
 rw[List.take_succ_eq_append_getElem hne,List.take_zero,List.nil_append] at hm
 have hx:=hd _ (List.getElem_mem hne)
 have e:(aj.n aR l 0:aU)=l[0]:=getD_in (i:=0) hne _
 have hix:aj.and (aj.c .leq 0 0) (aj.c .lss 0 (aj.l l))=true:=aP (i:=0) hne
 have hlt:aj.c .lss 0 (aj.l l)=true:=by have:=cu (l:=l) (i:=0);rw[decide_eq_true hne] at this;exact this
 have hsz:∀x:aU,aj.c .leq (aj.l [x]) 4398046511104=true:=fun x=>rfl
 rw[ak,oo]
 simp only[h0,h1,e]
 simp only[h0] at hm
 refine(ai hlt).2 (af.2 ⟨hix,af.2 ⟨hix,ap (p:=(l[0].1.length:Int)=0) aI (fun h=>?_) fun h=>af.2 ⟨gw hx,?_⟩⟩⟩)
 ·repeat (refine af.2 ⟨hix,?_⟩)
  refine af.2 ⟨hsz _,?_⟩
  rw[iv h];exact hm
 ·repeat (refine af.2 ⟨hix,?_⟩)
  exact af.2 ⟨hsz _,hm⟩
theorem Yf{c:bu}{slot:Int}{data:List Int}:aA (oo aj) (U_ aj c slot data) (nu c slot data):=by
 unfold U_ nu
 refine af.2 ⟨rfl,?_⟩
 rw[show aj.k iF c=ig c from rfl,ig]
 cases hc:dU c
 ·exact(ai rfl).2 (.ret _)
 obtain⟨h1,h2,h3,h4⟩:=qV hc
 obtain⟨id,out,l,life,want⟩:=c
 simp only[fN]
 refine(ah rfl).2 (ap (p:=slot<0) rfl (fun h=>?_) fun k1=>ap (p:=(l.length:Int)≤slot) rfl (fun h=>?_) fun k2=>ap (p:=8<(data.length:Int)) rfl (fun h=>?_) fun k3=>?_)
 ·rw[decide_eq_false (by omega)];exact .ret _
 ·rw[decide_eq_false (by omega)];exact .ret _
 ·rw[decide_eq_true (by omega),decide_eq_true h];exact .ret _
 rw[decide_eq_true (by omega),decide_eq_false k3]
 have h1:4≤l.length:=h1
 have h2:l.length≤8:=h2
 have h3:out.length≤8:=h3
 have q1:0<l.length:=by omega
 have q2:l.length≤4398046511103:=by omega
 have q3:out.length≤140737488355328:=by omega
 have hd:∀x∈l,x.1.length≤140737488355328:=fun x hx=>by have:=(h4 x hx).1;omega
 have q4:data.length≤140737488355328:=by omega
 have hix:aj.and (aj.c .leq 0 slot) (aj.c .lss slot (aj.l l))=true:=by rw[fN,ay,ar,aQ];simp;omega
 have hend:∀t u:LT (bu×Int) Lc,(data=[]→aA (oo aj) t ((id,out,l.set slot.toNat (data,0),life,want),0))→(aA (oo aj) u ((id,out,l.set slot.toNat (data,0),life,want),0))→aA (oo aj) (.br (aj.c .eql (aj.l data) 0) t u) ((id,out,l.set slot.toNat (data,0),life,want),0):=fun t u ht hu=>
  ap (p:=(data.length:Int)=0) aI (fun h=>ht (List.eq_nil_of_length_eq_zero (by omega))) fun _=>hu
 refine ap (p:=(out.length:Int)=0) aI (fun h=>?_) fun h=>af.2 ⟨gw q3,?_⟩
 ·have ho:out=[]:=List.eq_nil_of_length_eq_zero (by omega)
  subst ho
  refine QW rfl rfl q1 q2 hd (ak.2 ((ah (by rw[cu];simp)).2 (hend _ _ (fun e=>?_) (af.2 ⟨gw q4,?_⟩))))
  ·subst e
   repeat (refine af.2 ⟨hix,?_⟩)
   exact .ret _
  ·repeat (refine af.2 ⟨hix,?_⟩)
   exact .ret _
 ·refine Qd rfl rfl q1 q2 hd (ak.2 ((ah (by rw[cu];simp)).2 (hend _ _ (fun e=>?_) (af.2 ⟨gw q4,?_⟩))))
  ·subst e
   repeat (refine af.2 ⟨hix,?_⟩)
   exact .ret _
  ·repeat (refine af.2 ⟨hix,?_⟩)
   exact .ret _
def RN:(bu×Int×List Int)→(bu×Int):=adU
def afu:aB:=⟨[gy,yI,yB], [gy,yI],(@tt (bu×Int×List Int)),RN⟩
theorem abU:Sd 175 afu:=aL ax bK true 85 [⟨16,5, [[1,2,3,4], [1,2,3,6]]⟩] [] (fun A (c,slot,data)=>U_ A c slot data) oo WZ (fc Tryz.func175 (fc Tryz.func16 fz)) (sc zt sz) (fun A y=>match y with |.c0 p=>⟨44,by kernel_rfl,by kernel_rfl⟩|.c1 p=>⟨44,by kernel_rfl,by kernel_rfl⟩|.c2 p c1 c14=>⟨44,by kernel_rfl,by kernel_rfl⟩|.c3 p d1 mA=>⟨44,by kernel_rfl,by kernel_rfl⟩) fun(c,slot,data) hp h=>Yf
structure Mb where
 (a0:List aU) (a1 a2 a3 a4 a5 a6 a7:Int) (a8:bu) (a9 bV dT:Int)
structure Nc where
 (b0:List aU) (b1 b2 b3 b4 b5 b6 b7:Int) (b8:bu) (b9 b10 b11:Int) (b12:List Int)
structure JR where
 (c0:List aU) (c2 c3 c4 c5 c6 c7:Int) (c8:bu) (c9 c10 c11:Int)
structure WN where
 (d0 d1 d2 d3 d4 d5 d6:Int)
structure Nm where
 (e0:List aU) (e2 e3 e4 e5 e6 e7:Int) (e8:bu) (e9 e10 e11:Int) (e12:List Int)
structure Tc where
 (f0 f1 f2 f3 f4 f5 f6:Int) (f7:List Int)
structure Ny where
 (g1 g2 g3 g4 g5 g6:Int)
structure Lf where
 (h1 h2 h3 h4 h5 h6:Int) (h7:List Int)
inductive PR where
 | c0 (p:Mb)
 | c1 (p:Nc)
 | c2 (p:JR) (c1:Int) (c12:List aU)
 | c3 (p:WN)
 | c4 (p:Nm) (e1:Int) (e13:List aU)
 | c5 (p:Tc)
 | c6 (p:Ny) (g0:Int) (g7:List aU)
 | c7 (p:Lf) (h0:Int) (h8:List aU)
noncomputable def SO:PR→fL
 | .c0 p=>⟨[⟨16,36,(en [(1,.ptr 0 0),(2,.ptr 1 0),(3,.sl aR p.a0),(4,vi p.a1)]),[.inLoop (cw Tryz.f16 [1,1,1,1,0,1,0,0]),.inBlock 0,.code (cw Tryz.f16 [1,1,1,1,1])],[],none⟩,⟨121,40,(en [(1,.ptr 2 0),(2,.ptr 3 0)]),[.ops (ow Tryz.f121 [1,1,0]) ((ow Tryz.f121 [1,1,0]).toList.drop 1),.code (cw Tryz.f121 [1,1,1])],[],none⟩],[.flat false [vi p.a2,.bi true,.bi true,vi p.a3,vi p.a4],.flat false [vi p.a5,.bi true,.bi true,vi p.a6,vi p.a7],.flat false [vi p.a8.1,.sl yU p.a8.2.1,.sl aR p.a8.2.2.1,vi p.a8.2.2.2.1,vi p.a8.2.2.2.2],.flat false [vi p.a9,.bi true,.bi true,vi p.bV,vi p.dT],.dead]⟩
 | .c1 p=>⟨[⟨16,36,(en [(1,.ptr 0 0),(2,.ptr 1 0),(3,.sl aR p.b0),(4,vi p.b1)]),[.inLoop (cw Tryz.f16 [1,1,1,1,0,1,0,0]),.inBlock 0,.code (cw Tryz.f16 [1,1,1,1,1])],[],none⟩,⟨121,40,(en [(1,.ptr 2 0),(2,.ptr 3 0)]),[.ops (ow Tryz.f121 [1,1,0]) ((ow Tryz.f121 [1,1,0]).toList.drop 1),.code (cw Tryz.f121 [1,1,1])],[],none⟩],[.flat false [vi p.b2,.own 4,.bi true,vi p.b3,vi p.b4],.flat false [vi p.b5,.bi true,.bi true,vi p.b6,vi p.b7],.flat false [vi p.b8.1,.sl yU p.b8.2.1,.sl aR p.b8.2.2.1,vi p.b8.2.2.2.1,vi p.b8.2.2.2.2],.flat false [vi p.b9,.bi true,.bi true,vi p.b10,vi p.b11],.arr false yU p.b12,.dead]⟩
 | .c2 p c1 c12=>⟨[⟨16,36,(en [(1,.ptr 0 0),(2,.ptr 1 0),(3,.sl aR p.c0),(4,vi c1)]),[.inLoop (cw Tryz.f16 [1,1,1,1,0,1,0,0]),.inBlock 0,.code (cw Tryz.f16 [1,1,1,1,1])],[],none⟩,⟨121,40,(en [(1,.ptr 2 0),(2,.ptr 3 0)]),[.ops (ow Tryz.f121 [1,1,0]) ((ow Tryz.f121 [1,1,0]).toList.drop 1),.code (cw Tryz.f121 [1,1,1])],[],none⟩],[.flat false [vi p.c2,.bi true,.own 4,vi p.c3,vi p.c4],.flat false [vi p.c5,.bi true,.bi true,vi p.c6,vi p.c7],.flat false [vi p.c8.1,.sl yU p.c8.2.1,.sl aR p.c8.2.2.1,vi p.c8.2.2.2.1,vi p.c8.2.2.2.2],.flat false [vi p.c9,.bi true,.bi true,vi p.c10,vi p.c11],.arr false aR c12,.dead]⟩
 | .c3 p=>⟨[⟨121,40,(en [(1,.ptr 0 0),(2,.ptr 1 0),(5,vi p.d0)]),[.inLoop (cw Tryz.f121 [1,1,1,0,1,0,0]),.inBlock 0,.code (cw Tryz.f121 [1,1,1,1])],[],none⟩],[.flat false [vi p.d1,.bi true,.bi true,vi p.d2,vi p.d3],.flat false [vi p.d4,.bi true,.bi true,vi p.d5,vi p.d6],.dead]⟩
 | .c4 p e1 e13=>⟨[⟨16,36,(en [(1,.ptr 0 0),(2,.ptr 1 0),(3,.sl aR p.e0),(4,vi e1)]),[.inLoop (cw Tryz.f16 [1,1,1,1,0,1,0,0]),.inBlock 0,.code (cw Tryz.f16 [1,1,1,1,1])],[],none⟩,⟨121,40,(en [(1,.ptr 2 0),(2,.ptr 3 0)]),[.ops (ow Tryz.f121 [1,1,0]) ((ow Tryz.f121 [1,1,0]).toList.drop 1),.code (cw Tryz.f121 [1,1,1])],[],none⟩],[.flat false [vi p.e2,.own 4,.own 5,vi p.e3,vi p.e4],.flat false [vi p.e5,.bi true,.bi true,vi p.e6,vi p.e7],.flat false [vi p.e8.1,.sl yU p.e8.2.1,.sl aR p.e8.2.2.1,vi p.e8.2.2.2.1,vi p.e8.2.2.2.2],.flat false [vi p.e9,.bi true,.bi true,vi p.e10,vi p.e11],.arr false yU p.e12,.arr false aR e13,.dead]⟩
 | .c5 p=>⟨[⟨121,40,(en [(1,.ptr 0 0),(2,.ptr 1 0),(5,vi p.f0)]),[.inLoop (cw Tryz.f121 [1,1,1,0,1,0,0]),.inBlock 0,.code (cw Tryz.f121 [1,1,1,1])],[],none⟩],[.flat false [vi p.f1,.own 2,.bi true,vi p.f2,vi p.f3],.flat false [vi p.f4,.bi true,.bi true,vi p.f5,vi p.f6],.arr false yU p.f7,.dead]⟩
 | .c6 p g0 g7=>⟨[⟨121,40,(en [(1,.ptr 0 0),(2,.ptr 1 0),(5,vi g0)]),[.inLoop (cw Tryz.f121 [1,1,1,0,1,0,0]),.inBlock 0,.code (cw Tryz.f121 [1,1,1,1])],[],none⟩],[.flat false [vi p.g1,.bi true,.own 2,vi p.g2,vi p.g3],.flat false [vi p.g4,.bi true,.bi true,vi p.g5,vi p.g6],.arr false aR g7,.dead]⟩
 | .c7 p h0 h8=>⟨[⟨121,40,(en [(1,.ptr 0 0),(2,.ptr 1 0),(5,vi h0)]),[.inLoop (cw Tryz.f121 [1,1,1,0,1,0,0]),.inBlock 0,.code (cw Tryz.f121 [1,1,1,1])],[],none⟩],[.flat false [vi p.h1,.own 2,.own 3,vi p.h2,vi p.h3],.flat false [vi p.h4,.bi true,.bi true,vi p.h5,vi p.h6],.arr false yU p.h7,.arr false aR h8,.dead]⟩
def V1(A:a_)(c:bu):LT (bu×Int) PR:=.need (A.k (@tt bu) c) (.br (A.c .neq (A.k iF c) 0) (.ret ((0,([]:List Int),([]:List aU),0,0),(A.k iF c))) (.br (A.c .eql (A.l c.2.1) 0) (.more (.c0 ⟨c.2.2.1,0,c.1,c.2.2.2.1,c.2.2.2.2,0,0,0,c,0,0,0⟩)) (.need (A.c .leq (A.l c.2.1) 140737488355328) (.more (.c1 ⟨c.2.2.1,0,c.1,c.2.2.2.1,c.2.2.2.2,0,0,0,c,0,0,0,c.2.1⟩)))))
def mH(A:a_):PR→LT (bu×Int) PR
 | .c0 p=>.br (A.c .lss p.a1 (A.l p.a0)) (.need (A.and (A.c .leq 0 p.a1) (A.c .lss p.a1 (A.l p.a0))) (.need (A.and (A.c .leq 0 p.a1) (A.c .lss p.a1 (A.l p.a0))) (.br (A.c .eql (A.l (A.n aR p.a0 p.a1:aU).1) 0) (.need (A.and (A.c .leq 0 p.a1) (A.c .lss p.a1 (A.l p.a0))) (.need (A.c .leq (A.l ([(([]:List Int),(A.n aR p.a0 p.a1:aU).2)]:List aU)) 4398046511104) (.more (.c2 ⟨p.a0,p.a2,p.a3,p.a4,p.a5,p.a6,p.a7,p.a8,p.a9,p.bV,p.dT⟩ (A.b .add .i64 p.a1 1) [(([]:List Int),(A.n aR p.a0 p.a1:aU).2)])))) (.need (A.c .leq (A.l (A.n aR p.a0 p.a1:aU).1) 140737488355328) (.need (A.and (A.c .leq 0 p.a1) (A.c .lss p.a1 (A.l p.a0))) (.need (A.c .leq (A.l ([(A.n aR p.a0 p.a1:aU)]:List aU)) 4398046511104) (.more (.c2 ⟨p.a0,p.a2,p.a3,p.a4,p.a5,p.a6,p.a7,p.a8,p.a9,p.bV,p.dT⟩ (A.b .add .i64 p.a1 1) [(A.n aR p.a0 p.a1:aU)])))))))) (.more (.c3 ⟨0,p.a2,p.a3,p.a4,p.a9,p.bV,p.dT⟩))
 | .c1 p=>.br (A.c .lss p.b1 (A.l p.b0)) (.need (A.and (A.c .leq 0 p.b1) (A.c .lss p.b1 (A.l p.b0))) (.need (A.and (A.c .leq 0 p.b1) (A.c .lss p.b1 (A.l p.b0))) (.br (A.c .eql (A.l (A.n aR p.b0 p.b1:aU).1) 0) (.need (A.and (A.c .leq 0 p.b1) (A.c .lss p.b1 (A.l p.b0))) (.need (A.c .leq (A.l ([(([]:List Int),(A.n aR p.b0 p.b1:aU).2)]:List aU)) 4398046511104) (.more (.c4 ⟨p.b0,p.b2,p.b3,p.b4,p.b5,p.b6,p.b7,p.b8,p.b9,p.b10,p.b11,p.b12⟩ (A.b .add .i64 p.b1 1) [(([]:List Int),(A.n aR p.b0 p.b1:aU).2)])))) (.need (A.c .leq (A.l (A.n aR p.b0 p.b1:aU).1) 140737488355328) (.need (A.and (A.c .leq 0 p.b1) (A.c .lss p.b1 (A.l p.b0))) (.need (A.c .leq (A.l ([(A.n aR p.b0 p.b1:aU)]:List aU)) 4398046511104) (.more (.c4 ⟨p.b0,p.b2,p.b3,p.b4,p.b5,p.b6,p.b7,p.b8,p.b9,p.b10,p.b11,p.b12⟩ (A.b .add .i64 p.b1 1) [(A.n aR p.b0 p.b1:aU)])))))))) (.more (.c5 ⟨0,p.b2,p.b3,p.b4,p.b9,p.b10,p.b11,p.b12⟩))
 | .c2 p c1 c12=>.br (A.c .lss c1 (A.l p.c0)) (.need (A.and (A.c .leq 0 c1) (A.c .lss c1 (A.l p.c0))) (.need (A.and (A.c .leq 0 c1) (A.c .lss c1 (A.l p.c0))) (.br (A.c .eql (A.l (A.n aR p.c0 c1:aU).1) 0) (.need (A.and (A.c .leq 0 c1) (A.c .lss c1 (A.l p.c0))) (.need (A.c .leq (A.l (A.p c12 [(([]:List Int),(A.n aR p.c0 c1:aU).2)])) 4398046511104) (.more (.c2 p (A.b .add .i64 c1 1) (A.p c12 [(([]:List Int),(A.n aR p.c0 c1:aU).2)]))))) (.need (A.c .leq (A.l (A.n aR p.c0 c1:aU).1) 140737488355328) (.need (A.and (A.c .leq 0 c1) (A.c .lss c1 (A.l p.c0))) (.need (A.c .leq (A.l (A.p c12 [(A.n aR p.c0 c1:aU)])) 4398046511104) (.more (.c2 p (A.b .add .i64 c1 1) (A.p c12 [(A.n aR p.c0 c1:aU)]))))))))) (.more (.c6 ⟨p.c2,p.c3,p.c4,p.c9,p.c10,p.c11⟩ 0 c12))
 | .c3 p=>.br (A.c .lss p.d0 0) (.bad 37 "ref.go:117") (.ret ((p.d1,([]:List Int),([]:List aU),(A.mx (A.b .sub .i64 p.d2 1) 0),p.d3),0))
 | .c4 p e1 e13=>.br (A.c .lss e1 (A.l p.e0)) (.need (A.and (A.c .leq 0 e1) (A.c .lss e1 (A.l p.e0))) (.need (A.and (A.c .leq 0 e1) (A.c .lss e1 (A.l p.e0))) (.br (A.c .eql (A.l (A.n aR p.e0 e1:aU).1) 0) (.need (A.and (A.c .leq 0 e1) (A.c .lss e1 (A.l p.e0))) (.need (A.c .leq (A.l (A.p e13 [(([]:List Int),(A.n aR p.e0 e1:aU).2)])) 4398046511104) (.more (.c4 p (A.b .add .i64 e1 1) (A.p e13 [(([]:List Int),(A.n aR p.e0 e1:aU).2)]))))) (.need (A.c .leq (A.l (A.n aR p.e0 e1:aU).1) 140737488355328) (.need (A.and (A.c .leq 0 e1) (A.c .lss e1 (A.l p.e0))) (.need (A.c .leq (A.l (A.p e13 [(A.n aR p.e0 e1:aU)])) 4398046511104) (.more (.c4 p (A.b .add .i64 e1 1) (A.p e13 [(A.n aR p.e0 e1:aU)]))))))))) (.more (.c7 ⟨p.e2,p.e3,p.e4,p.e9,p.e10,p.e11,p.e12⟩ 0 e13))
 | .c5 p=>.br (A.c .lss p.f0 0) (.bad 37 "ref.go:117") (.ret ((p.f1,p.f7,([]:List aU),(A.mx (A.b .sub .i64 p.f2 1) 0),p.f3),0))
 | .c6 p g0 g7=>.br (A.c .lss g0 (A.l g7)) (.need (A.and (A.c .leq 0 g0) (A.c .lss g0 (A.l g7))) (.need (A.and (A.c .leq 0 g0) (A.c .lss g0 (A.l g7))) (.more (.c6 p (A.b .add .i64 g0 1) (A.set g7 g0 ((A.n aR g7 g0:aU).1,(A.mn (A.b .add .i64 (A.n aR g7 g0:aU).2 1) 255))))))) (.ret ((p.g1,([]:List Int),g7,(A.mx (A.b .sub .i64 p.g2 1) 0),p.g3),0))
 | .c7 p h0 h8=>.br (A.c .lss h0 (A.l h8)) (.need (A.and (A.c .leq 0 h0) (A.c .lss h0 (A.l h8))) (.need (A.and (A.c .leq 0 h0) (A.c .lss h0 (A.l h8))) (.more (.c7 p (A.b .add .i64 h0 1) (A.set h8 h0 ((A.n aR h8 h0:aU).1,(A.mn (A.b .add .i64 (A.n aR h8 h0:aU).2 1) 255))))))) (.ret ((p.h1,p.h7,h8,(A.mx (A.b .sub .i64 p.h2 1) 0),p.h3),0))
theorem O4{l:List aU}{R:(bu×Int)}{p:JR}(hp:p.c0=l)(hl:l.length≤4398046511103)(hd:∀x∈l,x.1.length≤140737488355328)(hR:aA (mH aj) (.more (.c2 p (l.length:Int) l)) R):∀(j i:Nat),l.length-i=j→i≤l.length→aA (mH aj) (.more (.c2 p (i:Int) (l.take i))) R:=by
 intro j
 induction j with
 | zero=>
   intro i hj hi
   have:i=l.length:=by omega
   subst this
   rw[List.take_length];exact hR
 | succ j ih=>
   intro i hj hi
   have hi':i<l.length:=by omega
   have hm:=ih (i+1) (by omega) (by omega)
   rw[List.take_succ_eq_append_getElem hi'] at hm
   have hx:=hd _ (List.getElem_mem hi')
   have e:(aj.n aR l (i:Int):aU)=l[i]:=getD_in hi' _
   have hsz:∀x:aU,aj.c .leq (aj.l (aj.p (l.take i) [x])) 4398046511104=true:=fun x=>uP (by rw[List.length_take];omega)
   rw[ak,mH]
   simp only[hp,e]
   refine(ai (by rw[cu];simp;omega)).2 (af.2 ⟨aP hi',af.2 ⟨aP hi',ap (p:=(l[i].1.length:Int)=0) aI (fun h=>?_) fun h=>af.2 ⟨gw hx,?_⟩⟩⟩)
   ·repeat (refine af.2 ⟨aP hi',?_⟩)
    refine af.2 ⟨hsz _,?_⟩
    rw[iv h,cf (i:=i) (by omega)];exact hm
   ·repeat (refine af.2 ⟨aP hi',?_⟩)
    refine af.2 ⟨hsz _,?_⟩
    rw[cf (i:=i) (by omega)];exact hm
theorem Rc{l:List aU}{R:(bu×Int)}{p:Mb}(h0:p.a0=l)(h1:p.a1=0)(hne:0<l.length)(hl:l.length≤4398046511103)(hd:∀x∈l,x.1.length≤140737488355328)(hR:aA (mH aj) (.more (.c2 ⟨p.a0,p.a2,p.a3,p.a4,p.a5,p.a6,p.a7,p.a8,p.a9,p.bV,p.dT⟩ (l.length:Int) l)) R):aA (mH aj) (.more (.c0 p)) R:=by
 have hm:=O4 (p:=⟨p.a0,p.a2,p.a3,p.a4,p.a5,p.a6,p.a7,p.a8,p.a9,p.bV,p.dT⟩) h0 hl hd hR (l.length-1) 1 rfl (by omega)
 rw[List.take_succ_eq_append_getElem hne,List.take_zero,List.nil_append] at hm
 have hx:=hd _ (List.getElem_mem hne)
 have e:(aj.n aR l 0:aU)=l[0]:=getD_in (i:=0) hne _
 have hix:aj.and (aj.c .leq 0 0) (aj.c .lss 0 (aj.l l))=true:=aP (i:=0) hne
 have hlt:aj.c .lss 0 (aj.l l)=true:=by have:=cu (l:=l) (i:=0);rw[decide_eq_true hne] at this;exact this
 have hsz:∀x:aU,aj.c .leq (aj.l [x]) 4398046511104=true:=fun x=>rfl
 rw[ak,mH]
 simp only[h0,h1,e]
 simp only[h0] at hm
 refine(ai hlt).2 (af.2 ⟨hix,af.2 ⟨hix,ap (p:=(l[0].1.length:Int)=0) aI (fun h=>?_) fun h=>af.2 ⟨gw hx,?_⟩⟩⟩)
 ·repeat (refine af.2 ⟨hix,?_⟩)
  refine af.2 ⟨hsz _,?_⟩
  rw[iv h];exact hm
 ·repeat (refine af.2 ⟨hix,?_⟩)
  exact af.2 ⟨hsz _,hm⟩
theorem PW{l:List aU}{R:(bu×Int)}{p:Nm}(hp:p.e0=l)(hl:l.length≤4398046511103)(hd:∀x∈l,x.1.length≤140737488355328)(hR:aA (mH aj) (.more (.c4 p (l.length:Int) l)) R):∀(j i:Nat),l.length-i=j→i≤l.length→aA (mH aj) (.more (.c4 p (i:Int) (l.take i))) R:=by
 intro j
 induction j with
 | zero=>
   intro i hj hi
   have:i=l.length:=by omega
   subst this
   rw[List.take_length];exact hR
 | succ j ih=>
   intro i hj hi
   have hi':i<l.length:=by omega
   have hm:=ih (i+1) (by omega) (by omega)
   rw[List.take_succ_eq_append_getElem hi'] at hm
   have hx:=hd _ (List.getElem_mem hi')
   have e:(aj.n aR l (i:Int):aU)=l[i]:=getD_in hi' _
   have hsz:∀x:aU,aj.c .leq (aj.l (aj.p (l.take i) [x])) 4398046511104=true:=fun x=>uP (by rw[List.length_take];omega)
   rw[ak,mH]
   simp only[hp,e]
   refine(ai (by rw[cu];simp;omega)).2 (af.2 ⟨aP hi',af.2 ⟨aP hi',ap (p:=(l[i].1.length:Int)=0) aI (fun h=>?_) fun h=>af.2 ⟨gw hx,?_⟩⟩⟩)
   ·repeat (refine af.2 ⟨aP hi',?_⟩)
    refine af.2 ⟨hsz _,?_⟩
    rw[iv h,cf (i:=i) (by omega)];exact hm
   ·repeat (refine af.2 ⟨aP hi',?_⟩)
    refine af.2 ⟨hsz _,?_⟩
    rw[cf (i:=i) (by omega)];exact hm
theorem QC{l:List aU}{R:(bu×Int)}{p:Nc}(h0:p.b0=l)(h1:p.b1=0)(hne:0<l.length)(hl:l.length≤4398046511103)(hd:∀x∈l,x.1.length≤140737488355328)(hR:aA (mH aj) (.more (.c4 ⟨p.b0,p.b2,p.b3,p.b4,p.b5,p.b6,p.b7,p.b8,p.b9,p.b10,p.b11,p.b12⟩ (l.length:Int) l)) R):aA (mH aj) (.more (.c1 p)) R:=by
 have hm:=PW (p:=⟨p.b0,p.b2,p.b3,p.b4,p.b5,p.b6,p.b7,p.b8,p.b9,p.b10,p.b11,p.b12⟩) h0 hl hd hR (l.length-1) 1 rfl (by omega)
 rw[List.take_succ_eq_append_getElem hne,List.take_zero,List.nil_append] at hm
 have hx:=hd _ (List.getElem_mem hne)
 have e:(aj.n aR l 0:aU)=l[0]:=getD_in (i:=0) hne _
 have hix:aj.and (aj.c .leq 0 0) (aj.c .lss 0 (aj.l l))=true:=aP (i:=0) hne
 have hlt:aj.c .lss 0 (aj.l l)=true:=by have:=cu (l:=l) (i:=0);rw[decide_eq_true hne] at this;exact this
 have hsz:∀x:aU,aj.c .leq (aj.l [x]) 4398046511104=true:=fun x=>rfl
 rw[ak,mH]
 simp only[h0,h1,e]
 simp only[h0] at hm
 refine(ai hlt).2 (af.2 ⟨hix,af.2 ⟨hix,ap (p:=(l[0].1.length:Int)=0) aI (fun h=>?_) fun h=>af.2 ⟨gw hx,?_⟩⟩⟩)
 ·repeat (refine af.2 ⟨hix,?_⟩)
  refine af.2 ⟨hsz _,?_⟩
  rw[iv h];exact hm
 ·repeat (refine af.2 ⟨hix,?_⟩)
  exact af.2 ⟨hsz _,hm⟩
theorem aab{p:Ny}{l:List aU}(hl:l.length≤8):∀(j i:Nat),l.length-i=j→i≤l.length→
  aA (mH aj) (.more (.c6 p (i:Int) ((l.take i).map p8++l.drop i))) ((p.g1,([]:List Int),l.map p8,aj.mx (aj.b .sub .i64 p.g2 1) 0,p.g3),0):=by
 intro j
 induction j with
 | zero=>
   intro i hj hi
   have:i=l.length:=by omega
   subst this
   rw[ak,mH,List.take_length,List.drop_length,List.append_nil]
   exact(ah (by rw[cu];simp)).2 (.ret _)
 | succ j ih=>
   intro i hj hi
   have hi':i<l.length:=by omega
   have hx:i<((l.take i).map p8++l.drop i).length:=by rw[su hi];exact hi'
   obtain⟨a1,a2⟩:=Fy (f:=p8) hi'
   rw[ak,mH]
   refine(ai (by rw[cu,su hi];simp;omega)).2 ?_
   repeat (refine af.2 ⟨aP hx,?_⟩)
   rw[a1,cf (i:=i) (by omega)]
   rw[show(l[i].1,aj.mn (aj.b .add .i64 l[i].2 1) 255)=p8 l[i] from rfl,a2]
   exact ih (i+1) (by omega) (by omega)
theorem aem{p:Lf}{l:List aU}(hl:l.length≤8):∀(j i:Nat),l.length-i=j→i≤l.length→
  aA (mH aj) (.more (.c7 p (i:Int) ((l.take i).map p8++l.drop i))) ((p.h1,p.h7,l.map p8,aj.mx (aj.b .sub .i64 p.h2 1) 0,p.h3),0):=by
 intro j
 induction j with
 | zero=>
   intro i hj hi
   have:i=l.length:=by omega
   subst this
   rw[ak,mH,List.take_length,List.drop_length,List.append_nil]
   exact(ah (by rw[cu];simp)).2 (.ret _)
 | succ j ih=>
   intro i hj hi
   have hi':i<l.length:=by omega
   have hx:i<((l.take i).map p8++l.drop i).length:=by rw[su hi];exact hi'
   obtain⟨a1,a2⟩:=Fy (f:=p8) hi'
   rw[ak,mH]
   refine(ai (by rw[cu,su hi];simp;omega)).2 ?_
   repeat (refine af.2 ⟨aP hx,?_⟩)
   rw[a1,cf (i:=i) (by omega)]
   rw[show(l[i].1,aj.mn (aj.b .add .i64 l[i].2 1) 255)=p8 l[i] from rfl,a2]
   exact ih (i+1) (by omega) (by omega)
theorem agk{c:bu}:aA (mH aj) (V1 aj c) (Df c):=by
 unfold V1 Df
 refine af.2 ⟨rfl,?_⟩
 rw[show aj.k iF c=ig c from rfl,ig]
 cases hc:dU c
 ·exact(ai rfl).2 (.ret _)
 obtain⟨h1,h2,h3,h4⟩:=qV hc
 obtain⟨id,out,l,life,want⟩:=c
 have h1:4≤l.length:=h1
 have h2:l.length≤8:=h2
 have h3:out.length≤8:=h3
 have q1:0<l.length:=by omega
 have q2:l.length≤4398046511103:=by omega
 have q3:out.length≤140737488355328:=by omega
 have hd:∀x∈l,x.1.length≤140737488355328:=fun x hx=>by have:=(h4 x hx).1;omega
 refine(ah rfl).2 (ap (p:=(out.length:Int)=0) aI (fun h=>?_) fun h=>af.2 ⟨gw q3,?_⟩)
 ·have ho:out=[]:=List.eq_nil_of_length_eq_zero (by omega)
  subst ho
  exact Rc rfl rfl q1 q2 hd (ak.2 ((ah (by rw[cu];simp)).2 (aab (l:=l) h2 l.length 0 rfl (by omega))))
 ·exact QC rfl rfl q1 q2 hd (ak.2 ((ah (by rw[cu];simp)).2 (aem (l:=l) h2 l.length 0 rfl (by omega))))
def R9:bu→(bu×Int):=Df
def aep:aB:=⟨[gy], [gy,yI],(@tt bu),R9⟩
theorem ac3:Sd 121 aep:=aL ax bK true 61 [⟨16,5, [[1,2,3,4], [1,2]]⟩,⟨121,6, [[1,2,5]]⟩] [] (fun A c=>V1 A c) mH SO (fc Tryz.func121 (fc Tryz.func16 fz)) (sc zt sz) (fun A y=>match y with |.c0 p=>⟨44,by kernel_rfl,by kernel_rfl⟩|.c1 p=>⟨44,by kernel_rfl,by kernel_rfl⟩|.c2 p c1 c12=>⟨44,by kernel_rfl,by kernel_rfl⟩|.c3 p=>⟨32,by kernel_rfl,by kernel_rfl⟩|.c4 p e1 e13=>⟨44,by kernel_rfl,by kernel_rfl⟩|.c5 p=>⟨32,by kernel_rfl,by kernel_rfl⟩|.c6 p g0 g7=>⟨41,by kernel_rfl,by kernel_rfl⟩|.c7 p h0 h8=>⟨41,by kernel_rfl,by kernel_rfl⟩) fun c hp h=>agk
open Go.Ev.Pl
inductive Ph where
 | c0 (a0:Int) (a1:List aU)
noncomputable def WM:Ph→fL
 | .c0 a0 a1=>⟨[⟨146,48,(en [(7,.own 0),(8,vi a0)]),[.inLoop (cw Tryz.f146 [1,1,1,1,1,1,0,0,0]),.inBlock 0,.code (cw Tryz.f146 [1,1,1,1,1,1,1])],[],none⟩],[.arr false aR a1,.dead]⟩
def adr(A:a_)(x2:List aU)(count:Int):LT (List aU) Ph:=.br (A.c .lss count 0) (.bad 117 "slices.go:516") (.br (A.c .gtr (A.b .add .u64 (A.b .add .u64 (A.b .mul .u64 (A.b .shr .u64 (A.v .u64 (A.l x2)) 32) (A.b .shr .u64 (A.v .u64 count) 32)) (A.b .shr .u64 (A.b .add .u64 (A.b .mul .u64 (A.b .shr .u64 (A.v .u64 (A.l x2)) 32) (A.b .and .u64 (A.v .u64 count) 4294967295)) (A.b .shr .u64 (A.b .mul .u64 (A.b .and .u64 (A.v .u64 (A.l x2)) 4294967295) (A.b .and .u64 (A.v .u64 count) 4294967295)) 32)) 32)) (A.b .shr .u64 (A.b .add .u64 (A.b .and .u64 (A.b .add .u64 (A.b .mul .u64 (A.b .shr .u64 (A.v .u64 (A.l x2)) 32) (A.b .and .u64 (A.v .u64 count) 4294967295)) (A.b .shr .u64 (A.b .mul .u64 (A.b .and .u64 (A.v .u64 (A.l x2)) 4294967295) (A.b .and .u64 (A.v .u64 count) 4294967295)) 32)) 4294967295) (A.b .mul .u64 (A.b .and .u64 (A.v .u64 (A.l x2)) 4294967295) (A.b .shr .u64 (A.v .u64 count) 32))) 32)) 0) (.bad 117 "slices.go:522") (.br (A.c .gtr (A.b .mul .u64 (A.v .u64 (A.l x2)) (A.v .u64 count)) 9223372036854775807) (.bad 117 "slices.go:522") (.need (A.and (A.c .eql (A.v .i64 (A.b .mul .u64 (A.v .u64 (A.l x2)) (A.v .u64 count))) (A.v .i64 (A.b .mul .u64 (A.v .u64 (A.l x2)) (A.v .u64 count)))) (A.and (A.c .leq 0 (A.v .i64 (A.b .mul .u64 (A.v .u64 (A.l x2)) (A.v .u64 count)))) (A.c .leq (A.v .i64 (A.b .mul .u64 (A.v .u64 (A.l x2)) (A.v .u64 count))) 4398046511104))) (.more (.c0 (A.mn (A.l x2) (A.l (A.r (A.v .i64 (A.b .mul .u64 (A.v .u64 (A.l x2)) (A.v .u64 count))) (Ty.iL aR:aU)))) (A.spl (A.r (A.v .i64 (A.b .mul .u64 (A.v .u64 (A.l x2)) (A.v .u64 count))) (Ty.iL aR:aU)) 0 (A.s x2 0 (A.mn (A.l x2) (A.l (A.r (A.v .i64 (A.b .mul .u64 (A.v .u64 (A.l x2)) (A.v .u64 count))) (Ty.iL aR:aU)))))))))))
def Yk(A:a_):Ph→LT (List aU) Ph
 | .c0 a0 a1=>.br (A.c .lss a0 (A.l a1)) (.need (A.and (A.c .leq 0 a0) (A.and (A.c .leq a0 (A.l a1)) (A.c .leq (A.l a1) (A.l a1)))) (.need (A.and (A.c .leq 0 0) (A.and (A.c .leq 0 a0) (A.c .leq a0 (A.l a1)))) (.more (.c0 (A.b .add .i64 a0 (A.mn (A.l (A.s a1 0 (A.b .add .i64 0 (A.b .sub .i64 a0 0)))) (A.b .sub .i64 (A.l a1) a0))) (A.spl a1 a0 (A.s (A.s a1 0 (A.b .add .i64 0 (A.b .sub .i64 a0 0))) 0 (A.mn (A.l (A.s a1 0 (A.b .add .i64 0 (A.b .sub .i64 a0 0)))) (A.b .sub .i64 (A.l a1) a0)))))))) (.ret a1)
def np:aU:=(([]:List Int),255)
theorem aiZ{l:List aU}{n:Int}(h:(decide (l=[(([]:List Int),255)])&&decide (4≤n)&&decide (n≤8))=true):aA (Yk aj) (adr aj l n) (List.replicate n.toNat np):=by
 simp only[Bool.and_eq_true,decide_eq_true_eq] at h
 obtain⟨⟨rfl,h1⟩,h2⟩:=h
 have hn:n=4∨n=5∨n=6∨n=7∨n=8:=by omega
 rcases hn with rfl|rfl|rfl|rfl|rfl <;>
  (refine(ah (by kernel_rfl)).2 ((ah (by kernel_rfl)).2 ((ah (by kernel_rfl)).2 (af.2 ⟨by kernel_rfl,?_⟩)))
   refine ak.2 ((ai (by kernel_rfl)).2 (af.2 ⟨by kernel_rfl,af.2 ⟨by kernel_rfl,(ak.2 ?_)⟩⟩))
   refine(ai (by kernel_rfl)).2 (af.2 ⟨by kernel_rfl,af.2 ⟨by kernel_rfl,(ak.2 ?_)⟩⟩))
 ·exact(ah (by kernel_rfl)).2 (au (by kernel_rfl) (.ret _))
 all_goals exact(ai (by kernel_rfl)).2 (af.2 ⟨by kernel_rfl,af.2 ⟨by kernel_rfl,(ak.2 ((ah (by kernel_rfl)).2 (au (by kernel_rfl) (.ret _))))⟩⟩)
def RX:(List aU×Int)→(List aU):=fun(_,n)=>List.replicate n.toNat (([]:List Int),255)
def Fb:(List aU×Int)→Bool:=fun(l,n)=>decide (l=[(([]:List Int),255)])&&decide (4≤n)&&decide (n≤8)
def adL:aB:=⟨[(.slice aR),yI], [(.slice aR)],Fb,RX⟩
theorem ae8:Sd 146 adL:=aL ax bK true 175 [⟨146,8, [[7,8]]⟩] [] (fun A (x2,count)=>adr A x2 count) Yk WM (fc Tryz.func146 (fc Tryz.func200 (fc Tryz.func229 fz))) sz (fun A y=>match y with |.c0 a0 a1=>⟨30,by kernel_rfl,by kernel_rfl⟩) fun((x2,count):List aU×Int) hp h=>aiZ hp
def TF(A:a_)(id:Int)(n:Int):LT (bu×Int) Empty:=.need (A.k (@tt (Int×Int×Int)) (n,4,8)) (.br (A.not (A.k mJ (n,4,8))) (.ret ((0,([]:List Int),([]:List aU),0,0),120)) (.need (A.k (@tt (Int×Int×Int)) (id,0,(A.b .sub .i64 n 1))) (.br (A.not (A.k mJ (id,0,(A.b .sub .i64 n 1)))) (.ret ((0,([]:List Int),([]:List aU),0,0),120)) (.need (A.k Fb ([(([]:List Int),255)],n)) (.ret ((id,([]:List Int),(A.k RX ([(([]:List Int),255)],n)),4,(-1)),0))))))
def Db(id n:Int):bu×Int:=bif decide (4≤n∧n≤8) then(bif decide (0≤id∧id≤n-1) then((id,([]:List Int),List.replicate n.toNat np,4,(-1)),0) else(wA,120)) else(wA,120)
def abg:Int×Int→bu×Int:=fun(id,n)=>Db id n
theorem Mu{id n:Int}:aA Empty.elim (TF aj id n) (Db id n):=by
 unfold TF Db
 rw[BH]
 refine af.2 ⟨rfl,eX (fun h=>?_) fun h1=>af.2 ⟨rfl,?_⟩⟩
 ·exact au (by rw[decide_eq_false h];rfl) (.ret _)
 ·have e:aj.b .sub .i64 n 1=n-1:=by rw[aX,fV (by omega) (by omega)]
  rw[e]
  refine eX (fun h=>?_) fun h2=>af.2 ⟨?_,?_⟩
  ·exact au (by rw[decide_eq_true h1,decide_eq_false h];rfl) (.ret _)
  ·rw[al,Fb,decide_eq_true h1.1,decide_eq_true h1.2];rfl
  ·exact au (by rw[decide_eq_true h1,decide_eq_true h2];rfl) (.ret _)
def Gx:(Int×Int)→(bu×Int):=abg
def ZO:aB:=⟨[yI,yI], [gy,yI],(@tt (Int×Int)),Gx⟩
theorem adQ:Sd 63 ZO:=aF ax bK true 38 [] (fun A (id,n)=>TF A id n) (fc Tryz.func63 fz) (sc Et (sc ae8 sz)) fun(id,n) hp h=>Mu
structure WI where
 (a0 a1 a2 a3 a4 a5 a6 a7:Int)
structure ML where
 (b0 b2 b3 b4 b5 b6 b7:Int)
inductive PG where
 | c0 (p:WI)
 | c1 (p:ML) (b1:Int) (b8:List aU)
noncomputable def Ut:PG→fL
 | .c0 p=>⟨[⟨65,38,(en [(1,vi p.a0),(4,.ptr 0 0),(6,.ptr 1 0),(7,vi p.a1)]),[.inLoop (cw Tryz.f65 [1,1,1,0,1,0,0]),.inBlock 0,.code (cw Tryz.f65 [1,1,1,1])],[],none⟩],[.flat false [vi p.a2,.bi true,.bi true,vi p.a3,vi p.a4],.flat false [vi p.a5,.bi true,.bi true,vi p.a6,vi p.a7],.dead]⟩
 | .c1 p b1 b8=>⟨[⟨65,38,(en [(1,vi p.b0),(4,.ptr 0 0),(6,.ptr 1 0),(7,vi b1)]),[.inLoop (cw Tryz.f65 [1,1,1,0,1,0,0]),.inBlock 0,.code (cw Tryz.f65 [1,1,1,1])],[],none⟩],[.flat false [vi p.b2,.bi true,.bi true,vi p.b3,vi p.b4],.flat false [vi p.b5,.bi true,.own 2,vi p.b6,vi p.b7],.arr false aR b8,.dead]⟩
def WO(A:a_)(id:Int)(n:Int):LT (bu×Int) PG:=.br (A.c .lss n 4) (.ret ((0,([]:List Int),([]:List aU),0,0),120)) (.br (A.c .gtr n 8) (.ret ((0,([]:List Int),([]:List aU),0,0),120)) (.br (A.c .lss id 0) (.ret ((0,([]:List Int),([]:List aU),0,0),120)) (.br (A.c .geq id n) (.ret ((0,([]:List Int),([]:List aU),0,0),120)) (.more (.c0 ⟨n,0,0,0,0,id,4,(-1)⟩)))))
def Ge(A:a_):PG→LT (bu×Int) PG
 | .c0 p=>.br (A.c .lss p.a1 p.a0) (.need (A.c .leq (A.l ([(([]:List Int),255)]:List aU)) 4398046511104) (.more (.c1 ⟨p.a0,p.a2,p.a3,p.a4,p.a5,p.a6,p.a7⟩ (A.b .add .i64 p.a1 1) [(([]:List Int),255)]))) (.ret ((p.a5,([]:List Int),([]:List aU),p.a6,p.a7),0))
 | .c1 p b1 b8=>.br (A.c .lss b1 p.b0) (.need (A.c .leq (A.l (A.p b8 [(([]:List Int),255)])) 4398046511104) (.more (.c1 p (A.b .add .i64 b1 1) (A.p b8 [(([]:List Int),255)])))) (.ret ((p.b5,([]:List Int),b8,p.b6,p.b7),0))
theorem PK{k n:Nat}(hn:n≤8){q:ML}(hq:q.b0=(n:Int)):∀(j i:Nat),n-i=j→1≤i→i≤n→aA (Ge aj) (.more (.c1 q (i:Int) (List.replicate i np))) ((q.b5,([]:List Int),List.replicate n np,q.b6,q.b7),0):=by
 intro j
 induction j with
 | zero=>
   intro i hj h1 hi
   have:i=n:=by omega
   subst this
   rw[ak,Ge]
   exact(ah (by rw[hq,ar];simp)).2 (.ret _)
 | succ j ih=>
   intro i hj h1 hi
   rw[ak,Ge]
   have e:aj.p (List.replicate i np) [(([]:List Int),255)]=List.replicate (i+1) np:=by
    rw[nF,List.replicate_succ'];rfl
   rw[e]
   refine(ai (by rw[hq,ar];simp;omega)).2 (af.2 ⟨?_,?_⟩)
   ·rw[fN,ay,List.length_replicate];exact decide_eq_true (by omega)
   ·rw[cf (i:=i) (by omega)]
    exact ih (i+1) (by omega) (by omega) (by omega)
theorem Z2{id n:Int}:aA (Ge aj) (WO aj id n) (Db id n):=by
 unfold WO Db
 refine ap (p:=n<4) rfl (fun h=>?_) fun h1=>ap (p:=8<n) rfl (fun h=>?_) fun h2=>ap (p:=id<0) rfl (fun h=>?_) fun h3=>ap (p:=n≤id) rfl (fun h=>?_) fun h4=>?_
 ·exact au (by rw[decide_eq_false (by omega)];rfl) (.ret _)
 ·exact au (by rw[decide_eq_false (by omega)];rfl) (.ret _)
 ·exact au (by rw[decide_eq_true (show 4≤n∧n≤8 by omega),decide_eq_false (show ¬(0≤id∧id≤n-1) by omega)];rfl) (.ret _)
 ·exact au (by rw[decide_eq_true (show 4≤n∧n≤8 by omega),decide_eq_false (show ¬(0≤id∧id≤n-1) by omega)];rfl) (.ret _)
 ·rw[decide_eq_true (show 4≤n∧n≤8 by omega),decide_eq_true (show 0≤id∧id≤n-1 by omega)]
  obtain⟨k,rfl⟩:∃k:Nat,n=k:=⟨n.toNat,by omega⟩
  rw[ak,Ge]
  refine(ai (by rw[ar];exact decide_eq_true (by show(0:Int)<k;omega))).2 (af.2 ⟨rfl,?_⟩)
  have e:aj.b .add .i64 0 1=((1:Nat):Int):=rfl
  show aA (Ge aj) (.more (.c1 ⟨(k:Int),0,0,0,id,4,(-1)⟩ (aj.b .add .i64 0 1) (List.replicate 1 np))) ((id,([]:List Int),List.replicate k np,4,(-1)),0)
  rw[e]
  exact PK (k:=k) (q:=⟨(k:Int),0,0,0,id,4,(-1)⟩) (by omega) rfl (k-1) 1 (by omega) (by omega) (by omega)
def JS:(Int×Int)→(bu×Int):=abg
def abB:aB:=⟨[yI,yI], [gy,yI],(@tt (Int×Int)),JS⟩
theorem acQ:Sd 65 abB:=aL ax bK true 46 [⟨65,5, [[1,4,6,7]]⟩] [] (fun A (id,n)=>WO A id n) Ge Ut (fc Tryz.func65 fz) sz (fun A y=>match y with |.c0 p=>⟨32,by kernel_rfl,by kernel_rfl⟩|.c1 p b1 b8=>⟨32,by kernel_rfl,by kernel_rfl⟩) fun(id,n) hp h=>Z2
def PO(A:a_)(c:bu):LT Bool Empty:=.need (A.k (@tt bu) c) (.br (A.c .eql (A.k jh c) 0) (.ret (A.c .gtr c.2.2.2.1 0)) (.ret false))
def KZ:bu→Bool:=fun c=>(PO aj c).val (Ty.bE [.bool])
def afQ:aB:=⟨[gy], [.bool],(@tt bu),KZ⟩
theorem afY:Sd 219 afQ:=aJ ax bK true 23 [] (fun A c=>PO A c) (fc Tryz.func219 fz) (sc yC sz) (fun(c:bu) hp h=>by
 show(PO aj c).pre=true
 simp[PO,LT.pre,al,bH])
def TT(A:a_)(c:bu)(long:Int):LT (List Int×Int) Empty:=.need (A.k (@tt bu) c) (.br (A.c .neq (A.k jh c) 0) (.ret (([]:List Int),(A.k jh c))) (.need (A.k (@tt (Int×Int×Int)) (long,0,8)) (.br (A.not (A.k mJ (long,0,8))) (.ret (([]:List Int),2)) (.need (A.and (A.c .eql long long) (A.and (A.c .leq 0 long) (A.c .leq long 140737488355328))) (.need (A.k (@tt bu) c) (.br (A.k KZ c) (.ret ((A.spl (A.r long (0:Int)) 0 (A.s c.2.1 0 (A.mn (A.l c.2.1) (A.l (A.r long (0:Int)))))),0)) (.ret ((A.r long (0:Int)),0))))))))
def nv(c:bu)(k:Int):List Int×Int:=bif dU c then(bif decide (0≤k∧k≤8) then((bif decide (0<c.2.2.2.1) then c.2.1.take k.toNat++List.replicate (k.toNat-c.2.1.length) 0 else List.replicate k.toNat 0),0) else([],2)) else([],120)
def Z5:bu×Int→List Int×Int:=fun(c,k)=>nv c k
theorem Gt{k:Int}(h:0≤k∧k≤8):aj.and (aj.c .eql k k) (aj.and (aj.c .leq 0 k) (aj.c .leq k 140737488355328))=true:=by
 rw[aC,ay,ay,aQ,aQ];simp;omega
theorem ahb{c:bu}{k:Int}:aA Empty.elim (TT aj c k) (nv c k):=by
 unfold TT nv
 rw[BH]
 refine af.2 ⟨rfl,?_⟩
 rw[show aj.k jh c=ig c from rfl,show aj.k KZ c=(bif ig c==0 then decide (0<c.2.2.2.1) else false) from rfl,ig]
 cases hc:dU c
 ·exact(ai rfl).2 (.ret _)
 ·refine(ah rfl).2 (af.2 ⟨rfl,eX (fun h=>?_) fun h=>af.2 ⟨Gt h,af.2 ⟨rfl,ap (p:=0<c.2.2.2.1) rfl (fun h2=>?_) fun h2=>?_⟩⟩⟩)
  ·exact au (by rw[decide_eq_false h];rfl) (.ret _)
  ·refine au ?_ (.ret _)
   rw[decide_eq_true h,decide_eq_true h2]
   obtain⟨n,rfl⟩:∃n:Nat,k=n:=⟨k.toNat,by omega⟩
   simp only[cond_true,pz,mY,mI,uO,fN,List.length_replicate,Int.toNat_natCast,Int.toNat_zero,List.take_zero,List.nil_append,List.drop_zero]
   refine Prod.ext ?_ rfl
   simp only[List.length_take,List.drop_replicate,Nat.zero_add]
   by_cases hl:(n:Int)<c.2.1.length
   ·rw[if_pos hl,Int.toNat_natCast]
    rw[show n-min n c.2.1.length=n-c.2.1.length by omega]
   ·rw[if_neg hl,Int.toNat_natCast,List.take_of_length_le (Nat.le_refl _),List.take_of_length_le (by omega),Nat.min_self]
  ·exact au (by rw[decide_eq_true h,decide_eq_false h2];rfl) (.ret _)
def q9:(bu×Int)→(List Int×Int):=Z5
def aeI:aB:=⟨[gy,yI], [yB,yI],(@tt (bu×Int)),q9⟩
theorem Sm:Sd 180 aeI:=aF ax bK true 60 [] (fun A (c,long)=>TT A c long) (fc Tryz.func180 fz) (sc yC (sc Et (sc afY sz))) fun(c,long) hp h=>ahb
structure VM where
 (a1:bu)
inductive PQ where
 | c0 (p:VM) (a0:Int) (a2:List Int)
noncomputable def UK:PQ→fL
 | .c0 p a0 a2=>⟨[⟨184,49,(en [(2,.ptr 0 0),(7,.own 1),(8,vi a0)]),[.inLoop (cw Tryz.f184 [1,1,1,1,0,1,0,0]),.inBlock 0,.code (cw Tryz.f184 [1,1,1,1,1])],[],none⟩],[.flat false [vi p.a1.1,.sl yU p.a1.2.1,.sl aR p.a1.2.2.1,vi p.a1.2.2.2.1,vi p.a1.2.2.2.2],.arr false yU a2,.dead]⟩
def Vd(A:a_)(c:bu)(long:Int):LT (List Int×Int) PQ:=.need (A.k (@tt bu) c) (.br (A.c .neq (A.k iF c) 0) (.ret (([]:List Int),(A.k iF c))) (.br (A.c .lss long 0) (.ret (([]:List Int),2)) (.br (A.c .gtr long 8) (.ret (([]:List Int),2)) (.need (A.and (A.c .eql long long) (A.and (A.c .leq 0 long) (A.c .leq long 140737488355328))) (.more (.c0 ⟨c⟩ 0 (A.r long (0:Int))))))))
def JB(A:a_):PQ→LT (List Int×Int) PQ
 | .c0 p a0 a2=>.br (A.c .lss a0 (A.l a2)) (.br (A.c .lss a0 (A.l p.a1.2.1)) (.br (A.c .gtr p.a1.2.2.2.1 0) (.need (A.and (A.c .leq 0 a0) (A.c .lss a0 (A.l p.a1.2.1))) (.need (A.and (A.c .leq 0 a0) (A.c .lss a0 (A.l a2))) (.more (.c0 p (A.b .add .i64 a0 1) (A.set a2 a0 (A.n yU p.a1.2.1 a0:Int)))))) (.ret (a2,0))) (.ret (a2,0))) (.ret (a2,0))
theorem LV{c:bu}(hl:c.2.1.length≤140737488355328)(hp:0<c.2.2.2.1){k:Nat}(hk:k≤8):∀(j i:Nat),k-i=j→i≤k→i≤c.2.1.length→aA (JB aj) (.more (.c0 ⟨c⟩ (i:Int) (c.2.1.take i++List.replicate (k-i) 0))) (c.2.1.take k++List.replicate (k-c.2.1.length) 0,0):=by
 intro j
 induction j with
 | zero=>
   intro i hj hi hc
   have:i=k:=by omega
   subst this
   rw[ak,JB]
   refine(ah (by rw[cu];simp;omega)).2 (au ?_ (.ret _))
   rw[Nat.sub_self,show i-c.2.1.length=0 by omega]
 | succ j ih=>
   intro i hj hi hc
   rw[ak,JB]
   have hlen:(c.2.1.take i++List.replicate (k-i) (0:Int)).length=k:=by simp;omega
   refine(ai (by rw[cu,hlen];exact decide_eq_true (by omega))).2 (ap (p:=i<c.2.1.length) (by rw[cu]) (fun h=>?_) fun h=>?_)
   ·refine(ai (decide_eq_true hp)).2 (af.2 ⟨aP h,af.2 ⟨aP (by rw[hlen];omega),?_⟩⟩)
    have e:aj.set (c.2.1.take i++List.replicate (k-i) (0:Int)) (i:Int) (aj.n (.int .u8) c.2.1 (i:Int):Int)=c.2.1.take (i+1)++List.replicate (k-(i+1)) 0:=by
     rw[show(aj.n (.int .u8) c.2.1 (i:Int):Int)=c.2.1[i] from getD_in h _,Pw,Int.toNat_natCast,List.set_append_right _ _ (by rw[List.length_take];omega),List.length_take,Nat.min_eq_left hc,Nat.sub_self,show k-i=(k-(i+1))+1 by omega,List.replicate_succ,List.set_cons_zero,List.take_succ_eq_append_getElem h,List.append_assoc]
     rfl
    rw[e,cf (i:=i) (by omega)]
    exact ih (i+1) (by omega) (by omega) (by omega)
   ·refine au ?_ (.ret _)
    have:i=c.2.1.length:=by omega
    subst this
    rw[List.take_of_length_le (Nat.le_refl _),List.take_of_length_le (by omega)]
theorem acP{c:bu}{k:Int}(h0:c.2.1.length≤140737488355328):aA (JB aj) (Vd aj c k) (nv c k):=by
 unfold Vd nv
 refine af.2 ⟨rfl,?_⟩
 rw[show aj.k iF c=ig c from rfl,ig]
 cases hc:dU c
 ·exact(ai rfl).2 (.ret _)
 ·refine(ah rfl).2 (ap (p:=k<0) rfl (fun h=>?_) fun h1=>ap (p:=8<k) rfl (fun h=>?_) fun h2=>?_)
  ·exact au (by rw[decide_eq_false (by omega)];rfl) (.ret _)
  ·exact au (by rw[decide_eq_false (by omega)];rfl) (.ret _)
  ·have hk:0≤k∧k≤8:=by omega
   refine af.2 ⟨Gt hk,?_⟩
   rw[decide_eq_true hk]
   obtain⟨n,rfl⟩:∃n:Nat,k=n:=⟨k.toNat,by omega⟩
   by_cases hp:0<c.2.2.2.1
   ·rw[decide_eq_true hp]
    exact LV h0 hp (k:=n) (by omega) n 0 (by omega) (by omega) (by omega)
   ·rw[decide_eq_false hp,ak,JB]
    have hL:(aj.r (n:Int) (0:Int))=List.replicate n 0:=rfl
    rw[hL]
    refine ap (p:=0<n) (by rw[show(0:Int)=((0:Nat):Int) from rfl,cu,List.length_replicate]) (fun h=>ap (p:=0<c.2.1.length) (by rw[show(0:Int)=((0:Nat):Int) from rfl,cu]) (fun _=>(ah (decide_eq_false hp)).2 (.ret _)) fun _=>.ret _) fun _=>.ret _
def H6:(bu×Int)→(List Int×Int):=Z5
def adu:aB:=⟨[gy,yI], [yB,yI],(@tt (bu×Int)),H6⟩
theorem X5:Sd 184 adu:=aL ax bK true 51 [⟨184,8, [[2,7,8]]⟩] [] (fun A (c,long)=>Vd A c long) JB UK (fc Tryz.func184 fz) (sc zt sz) (fun A y=>match y with |.c0 p a0 a2=>⟨47,by kernel_rfl,by kernel_rfl⟩) fun(c,long) hp h=>acP h.1.2.1.1
open Go.Ev.Pl
def Tm(A:a_)(c:bu)(data:List Int):LT (bu×Int) Empty:=.need (A.k (@tt bu) c) (.br (A.c .neq (A.k iq c).2 0) (.ret ((0,([]:List Int),([]:List aU),0,0),(A.k iq c).2)) (.br (A.c .gtr (A.l data) 8) (.ret ((0,([]:List Int),([]:List aU),0,0),3)) (.need (A.k (@tt (List Int)) data) (.ret (((A.k iq c).1.1,(A.k oC data),(A.k iq c).1.2.2),0)))))
def BX(c:bu)(d:List Int):bu×Int:=bif dU c then(bif decide (8<(d.length:Int)) then(wA,3) else((c.1,d,c.2.2),0)) else(wA,120)
def wrS:bu×List Int→bu×Int:=fun(c,d)=>BX c d
theorem wr1{c:bu}{d:List Int}:aA Empty.elim (Tm aj c d) (BX c d):=by
 unfold Tm BX
 refine af.2 ⟨rfl,?_⟩
 rw[show aj.k iq c=Cc c from rfl,Cc]
 cases dU c
 ·exact(ai rfl).2 (.ret _)
 ·refine(ah rfl).2 (ap (p:=8<(d.length:Int)) rfl (fun h=>?_) fun h=>af.2 ⟨rfl,?_⟩)
  ·exact au (by rw[decide_eq_true h];rfl) (.ret _)
  ·exact au (by rw[decide_eq_false h];rfl) (.ret _)
def bA:(bu×List Int)→(bu×Int):=wrS
def af3:aB:=⟨[gy,yB], [gy,yI],(@tt (bu×List Int)),bA⟩
theorem sC:Sd 79 af3:=aF ax bK true 55 [] (fun A (c,data)=>Tm A c data) (fc Tryz.func79 fz) (sc Gq (sc LJ sz)) fun(c,data) hp h=>wr1
def SJ(A:a_)(c:bu):LT (bu×Int) Empty:=.need (A.k (@tt bu) c) (.br (A.c .eql (A.k iq c).2 0) (.ret (((A.k iq c).1.1,(A.k iq c).1.2.1,(A.k iq c).1.2.2.1,4,(A.k iq c).1.2.2.2.2),(A.k iq c).2)) (.ret (A.k iq c)))
def Qk:bu→bu×Int:=fun c=>bif dU c then((c.1,c.2.1,c.2.2.1,4,c.2.2.2.2),0) else(wA,120)
theorem bt1{c:bu}:aA Empty.elim (SJ aj c) (Qk c):=by
 unfold SJ Qk
 refine af.2 ⟨rfl,?_⟩
 rw[show aj.k iq c=Cc c from rfl,Cc]
 cases dU c
 ·exact(ah rfl).2 (.ret _)
 ·exact(ai rfl).2 (.ret _)
def GI:bu→(bu×Int):=Qk
def ZQ:aB:=⟨[gy], [gy,yI],(@tt bu),GI⟩
theorem Zb:Sd 80 ZQ:=aF ax bK true 41 [] (fun A c=>SJ A c) (fc Tryz.func80 fz) (sc LJ sz) fun c hp h=>bt1
def Xm(A:a_)(c:bu)(mode:Int):LT (bu×Int) Empty:=.need (A.k (@tt bu) c) (.br (A.c .neq (A.k iq c).2 0) (.ret ((0,([]:List Int),([]:List aU),0,0),(A.k iq c).2)) (.need (A.k (@tt (Int×Int×Int)) (mode,(-1),3)) (.br (A.not (A.k mJ (mode,(-1),3))) (.ret ((0,([]:List Int),([]:List aU),0,0),2)) (.ret (((A.k iq c).1.1,(A.k iq c).1.2.1,(A.k iq c).1.2.2.1,(A.k iq c).1.2.2.2.1,mode),0)))))
def Dw(c:bu)(m:Int):bu×Int:=bif dU c then(bif decide (-1≤m∧m≤3) then((c.1,c.2.1,c.2.2.1,c.2.2.2.1,m),0) else(wA,2)) else(wA,120)
def aaA:bu×Int→bu×Int:=fun(c,m)=>Dw c m
theorem agl{c:bu}{m:Int}:aA Empty.elim (Xm aj c m) (Dw c m):=by
 unfold Xm Dw
 rw[BH]
 refine af.2 ⟨rfl,?_⟩
 rw[show aj.k iq c=Cc c from rfl,Cc]
 cases dU c
 ·exact(ai rfl).2 (.ret _)
 ·refine(ah rfl).2 (af.2 ⟨rfl,eX (fun h=>?_) fun h=>?_⟩)
  ·exact au (by rw[decide_eq_false h];rfl) (.ret _)
  ·exact au (by rw[decide_eq_true h];rfl) (.ret _)
def Gp:(bu×Int)→(bu×Int):=aaA
def Y1:aB:=⟨[gy,yI], [gy,yI],(@tt (bu×Int)),Gp⟩
theorem Yx:Sd 81 Y1:=aF ax bK true 54 [] (fun A (c,mode)=>Xm A c mode) (fc Tryz.func81 fz) (sc Et (sc LJ sz)) fun(c,mode) hp h=>agl
def Xe(A:a_)(c:bu)(data:List Int):LT (bu×Int) Empty:=.need (A.k (@tt bu) c) (.br (A.c .neq (A.k iF c) 0) (.ret ((0,([]:List Int),([]:List aU),0,0),(A.k iF c))) (.br (A.c .gtr (A.l data) 8) (.ret ((0,([]:List Int),([]:List aU),0,0),3)) (.need (A.k oR c) (.br (A.c .eql (A.l data) 0) (.ret (((A.k ji c).1,([]:List Int),(A.k ji c).2.2),0)) (.need (A.c .leq (A.l data) 140737488355328) (.ret (((A.k ji c).1,data,(A.k ji c).2.2),0)))))))
theorem agQ{c:bu}{d:List Int}:aA Empty.elim (Xe aj c d) (BX c d):=by
 unfold Xe BX
 refine af.2 ⟨rfl,?_⟩
 rw[show aj.k iF c=ig c from rfl,ig]
 cases hc:dU c
 ·exact(ai rfl).2 (.ret _)
 ·refine(ah rfl).2 (ap (p:=8<(d.length:Int)) rfl (fun h=>?_) fun h=>af.2 ⟨xa hc,ap (p:=(d.length:Int)=0) aI (fun h2=>?_) fun h2=>af.2 ⟨gw (by omega),?_⟩⟩)
  ·exact au (by rw[decide_eq_true h];rfl) (.ret _)
  ·have:d=[]:=List.eq_nil_of_length_eq_zero (by omega)
   subst this
   exact au (by rw[decide_eq_false h];rfl) (.ret _)
  ·exact au (by rw[decide_eq_false h];rfl) (.ret _)
def Gr:(bu×List Int)→(bu×Int):=wrS
def Yr:aB:=⟨[gy,yB], [gy,yI],(@tt (bu×List Int)),Gr⟩
theorem Yz:Sd 82 Yr:=aF ax bK true 54 [] (fun A (c,data)=>Xe A c data) (fc Tryz.func82 fz) (sc Eo (sc zt sz)) fun(c,data) hp h=>agQ
def UE(A:a_)(c:bu):LT (bu×Int) Empty:=.need (A.k (@tt bu) c) (.br (A.c .neq (A.k iF c) 0) (.ret ((0,([]:List Int),([]:List aU),0,0),(A.k iF c))) (.need (A.k oR c) (.ret (((A.k ji c).1,(A.k ji c).2.1,(A.k ji c).2.2.1,4,(A.k ji c).2.2.2.2),0))))
theorem aiX{c:bu}:aA Empty.elim (UE aj c) (Qk c):=by
 unfold UE Qk
 refine af.2 ⟨rfl,?_⟩
 rw[show aj.k iF c=ig c from rfl,ig]
 cases hc:dU c
 ·exact(ai rfl).2 (.ret _)
 ·exact(ah rfl).2 (af.2 ⟨xa hc,.ret _⟩)
def H7:bu→(bu×Int):=Qk
def aeD:aB:=⟨[gy], [gy,yI],(@tt bu),H7⟩
theorem YZ:Sd 83 aeD:=aF ax bK true 43 [] (fun A c=>UE A c) (fc Tryz.func83 fz) (sc Eo (sc zt sz)) fun c hp h=>aiX
def Tk(A:a_)(c:bu)(mode:Int):LT (bu×Int) Empty:=.need (A.k (@tt bu) c) (.br (A.c .neq (A.k iF c) 0) (.ret ((0,([]:List Int),([]:List aU),0,0),(A.k iF c))) (.br (A.c .lss mode (-1)) (.ret ((0,([]:List Int),([]:List aU),0,0),2)) (.br (A.c .geq mode 4) (.ret ((0,([]:List Int),([]:List aU),0,0),2)) (.need (A.k oR c) (.ret (((A.k ji c).1,(A.k ji c).2.1,(A.k ji c).2.2.1,(A.k ji c).2.2.2.1,mode),0))))))
theorem adK{c:bu}{m:Int}:aA Empty.elim (Tk aj c m) (Dw c m):=by
 unfold Tk Dw
 refine af.2 ⟨rfl,?_⟩
 rw[show aj.k iF c=ig c from rfl,ig]
 cases hc:dU c
 ·exact(ai rfl).2 (.ret _)
 ·refine(ah rfl).2 (ap (p:=m < -1) rfl (fun h=>?_) fun h1=>ap (p:=4≤m) rfl (fun h=>?_) fun h2=>af.2 ⟨xa hc,?_⟩)
  ·exact au (by rw[decide_eq_false (by omega)];rfl) (.ret _)
  ·exact au (by rw[decide_eq_false (by omega)];rfl) (.ret _)
  ·exact au (by rw[decide_eq_true (show -1≤m∧m≤3 by omega)];rfl) (.ret _)
def GN:(bu×Int)→(bu×Int):=aaA
def Z4:aB:=⟨[gy,yI], [gy,yI],(@tt (bu×Int)),GN⟩
theorem aax:Sd 84 Z4:=aF ax bK true 56 [] (fun A (c,mode)=>Tk A c mode) (fc Tryz.func84 fz) (sc Eo (sc zt sz)) fun(c,mode) hp h=>adK
end Go.Ev.M
