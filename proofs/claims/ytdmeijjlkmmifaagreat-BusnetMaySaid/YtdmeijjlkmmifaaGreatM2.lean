/-
  PROVED: what functions of the program compute, part 2. Conditions: none.
-/
import Derived.Test.YtdmeijjlkmmifaaGreatM1
import Derived.Shelf.SlicesE.Clone
import Derived.Shelf.SlSortCmp.NoneTotal
set_option linter.unusedVariables false
set_option linter.unusedSimpArgs false
namespace Go.Ev.M
open Go.Proofs Go.Proofs.Tryz
set_option maxRecDepth 100000
open Go.Ev.Pl
noncomputable section
abbrev eqB(b:Bool):Prop:=b=b
section
variable {R Y:Type} {step:Y->LT R Y} {t:LT R Y} {r:R}
end
variable{α:Type}
theorem pM{b:Bool}{x y:α}(h:b=false):y=bif b then x else y:=by simp_all
variable{p:Prop}
theorem oK[Decidable p]{b:Bool}(h:¬p):(decide p&&b)=false:=by simp_all
theorem dJ[Decidable p]{b:Bool}(h:p):(decide p&&b)=b:=by simp_all
theorem Td{l:List α}{i:Nat}:af.bG (i:Int) (af.l l)=decide (i<l.length):=bf
def auu(A:aU)(n:Int)(c:Int)(f:Int):LT Bool Empty:=.br (A.nM n c) (.ret (A.bU n f)) (.ret false)
def u9:(Int×Int×Int)->Bool:=λ(n,c,f)=>(auu af n c f).val (Ty.aS [.bool])
def as7:aK:=.all [yI,yI,yI] [.bool] u9
theorem ON:Sd 180 as7:=fa (aR ap dE sl 22 [] (λA (n,c,f)=>auu A n c f) (kz (fc func180 fz) sz))
structure ahR where
 (a0:List ik) (a1:Int) (a3:Bool)
inductive ac5 where
 | c0 (p:ahR) (a2:Int)
noncomputable def aiX:ac5->iB
 | .c0 p a2=>⟨[⟨283,19,(en [(0,.sl j6 p.a0),(1,.fn 232 [] []),(7,vi p.a1),(8,vi a2)]),sk f283 [1,0,1,0,0],[],none⟩,⟨233,9,.leaf,[.ops (ow f233 [1,0]) ((ow f233 [1,0]).toList.drop 2),.code .ret],[],none⟩,⟨182,43,(en [(37,vb p.a3)]),(.ops (ow f182 [1,1,0,0]) ((ow f182 [1,1,0,0]).toList.drop 37)::sk f182 [1,1,0,0]),[],none⟩],[.a_]⟩
def amA(A:aU)(c:iO):LT Int ac5:=.br (A.not (A.k u9 ((A.l c.2.2.1),4,8))) (.ret 120) (.br (A.not (A.k u9 (c.1,0,(A.b .sub .i64 (A.l c.2.2.1) 1)))) (.ret 120) (.br (A.ji (A.l c.2.1) 8) (.ret 120) (.br (A.not (A.k u9 (c.2.2.2.1,0,4))) (.ret 120) (.br (A.not (A.k u9 (c.2.2.2.2,(-1),3))) (.ret 120) (.ao (.c0 ⟨c.2.2.1,(A.l c.2.2.1),false⟩ 0))))))
def aaz(A:aU):ac5->LT Int ac5
 | .c0 p a2=>.br (A.bG a2 p.a1) (.ar (A.and (A.bU 0 a2) (A.bG a2 (A.l p.a0))) (.br (A.ji (A.l (A.n j6 p.a0 a2:ik).1) 8) (.br p.a3 (.ret 120) (.br (A.nM a2 0) (.ret 120) (.ret 0))) (.br (A.not (A.k u9 ((A.n j6 p.a0 a2:ik).2,0,255))) (.br p.a3 (.ret 120) (.br (A.nM a2 0) (.ret 120) (.ret 0))) (.ao (.c0 p (A.b .add .i64 a2 1)))))) (.br p.a3 (.ret 120) (.ret 0))
theorem avm:u9=kI:=rfl
def I5(m:ik):Bool:=decide (¬8<(m.1.length:Int))&&decide (0<=m.2/\m.2<=255)
def gv(c:iO):Bool:=decide (4<=(c.2.2.1.length:Int)/\(c.2.2.1.length:Int)<=8)&&(decide (0<=c.1/\c.1<=(c.2.2.1.length:Int)-1)&&(decide (¬8<(c.2.1.length:Int))&&(decide (0<=c.2.2.2.1/\c.2.2.2.1<=4)&&(decide (-1<=c.2.2.2.2/\c.2.2.2.2<=3)&&c.2.2.1.all I5))))
def vA(c:iO):Int:=bif gv c then 0 else 120
theorem ym{c:iO}:vA c=0↔gv c=true:=by unfold vA;grind
variable{l:List ik}
theorem avZ(o:l.length<=140737488355328):∀(j i:Nat),l.length-i=j->i<=l.length->aY (aaz af) (.ao (.c0 ⟨l,(l.length:Int),false⟩ (i:Int))) (bif (l.drop i).all I5 then 0 else 120):=by
 intro j
 induction j with
 | zero=>
   intro i n m;have:i=l.length:=by omega
   subst this;rw[aA,aaz];refine(ai (by rw[bf];simp)).2 ((ai rfl).2 ?_);rw[cv];exact .ret _
 | succ j ih=>
   intro i n m;have c:i<l.length:=by omega
   rw[aA,aaz];refine(ak (by rw[bf];simp_all)).2 (au.2 ⟨df c,?_⟩);rw[show(af.n j6 l (i:Int):ik)=l[i] from fM c _,Cg c,iE,I5,avm];refine aV (p:=8<(l[i].1.length:Int)) rfl (λh=>?_) λf=>jd (λh=>?_) λg=>?_
   ·rw[gj (show ¬¬8<(l[i].1.length:Int) by omega)]
    exact(ai rfl).2 ((ak (by rfl)).2 (.ret _))
   ·rw[gj h,dD]
    exact(ai rfl).2 ((ak (by rfl)).2 (.ret _))
   ·rw[dn f,dn g,h_ (i:=i) (by omega)]
    grind
theorem SV{c:iO}(h:Ty.has rB c):c.2.1.length<=140737488355328/\c.2.2.1.length<=140737488355328/\∀x∈c.2.2.1,x.1.length<=140737488355328:=by
 obtain⟨_,g,f,_⟩:=h;exact⟨g.1,f.1,λx i=>(f.2 x i).1.1⟩
theorem avG{c:iO}(h:Ty.has rB c):aY (aaz af) (amA af c) (vA c):=by
 have m:=(SV h).2.1;unfold amA vA;simp only[dV];have n:af.b .sub .i64 (c.2.2.1.length:Int) 1=(c.2.2.1.length:Int)-1:=by rw[fO,lg (by omega) (by omega)]
 rw[n];refine jd (λh=>?_) λf=>jd (λh=>?_) λg=>aV (p:=8<(c.2.1.length:Int)) rfl (λh=>?_) λi=>jd (λh=>?_) λj=>jd (λh=>?_) λl=>?_
 ·exact aO (pM (by rw[gv,oK h])) (.ret _)
 ·exact aO (pM (by rw[gv,dJ f,oK h])) (.ret _)
 ·exact aO (pM (by rw[gv,dJ f,dJ g,oK (λk=>k h)])) (.ret _)
 ·exact aO (pM (by rw[gv,dJ f,dJ g,dJ i,oK h])) (.ret _)
 ·exact aO (pM (by rw[gv,dJ f,dJ g,dJ i,dJ j,oK h])) (.ret _)
 ·rw[gv,dJ f,dJ g,dJ i,dJ j,dJ l]
  exact avZ m c.2.2.1.length 0 rfl (by omega)
def q_:iO->Int:=vA
def asL:aK:=.all [rB] [yI] q_
theorem Kh:Sd 182 asL:=fa (bp ap dE sl 78 [⟨283,2, [[0,1,7,8], [], [37]]⟩] [] (λA c=>amA A c) aaz aiX (kz (fc func182 (fc func232 (fc func233 (fc func283 fz)))) (sc ON sz)) (λA y=>match y with |.c0 p a2=>⟨68,sl,by kernel_rfl⟩) λc f h=>avG h)
structure ahS where
 (a1:iO)
inductive ac6 where
 | c0 (p:ahS) (a0:Int)
noncomputable def aiY:ac6->iB
 | .c0 p a0=>⟨[⟨47,84,(en [(1,.ptr 0 0),(4,vi a0)]),sk f47 [1,1,1,0,1,0,0],[],none⟩],[.ay false (dc rB p.a1),.a_]⟩
def amB(A:aU)(c:iO):LT Int ac6:=.br (A.bG (A.l c.2.2.1) 4) (.ret 120) (.br (A.ji (A.l c.2.2.1) 8) (.ret 120) (.br (A.bG c.1 0) (.ret 120) (.br (A.nM c.1 (A.l c.2.2.1)) (.ret 120) (.br (A.ji (A.l c.2.1) 8) (.ret 120) (.br (A.bG c.2.2.2.1 0) (.ret 120) (.br (A.ji c.2.2.2.1 4) (.ret 120) (.br (A.bG c.2.2.2.2 (-1)) (.ret 120) (.br (A.nM c.2.2.2.2 4) (.ret 120) (.ao (.c0 ⟨c⟩ 0))))))))))
def aaA(A:aU):ac6->LT Int ac6
 | .c0 p a0=>.br (A.bG a0 (A.l p.a1.2.2.1)) (.ar (A.and (A.bU 0 a0) (A.bG a0 (A.l p.a1.2.2.1))) (.br (A.ji (A.l (A.n j6 p.a1.2.2.1 a0:ik).1) 8) (.ret 120) (.ar (A.and (A.bU 0 a0) (A.bG a0 (A.l p.a1.2.2.1))) (.br (A.bG (A.n j6 p.a1.2.2.1 a0:ik).2 0) (.ret 120) (.ar (A.and (A.bU 0 a0) (A.bG a0 (A.l p.a1.2.2.1))) (.br (A.ji (A.n j6 p.a1.2.2.1 a0:ik).2 255) (.ret 120) (.ao (.c0 p (A.b .add .i64 a0 1))))))))) (.ret 0)
theorem an7{c:iO}(q:c.2.2.1.length<=140737488355328):∀(j i:Nat),c.2.2.1.length-i=j->i<=c.2.2.1.length->aY (aaA af) (.ao (.c0 ⟨c⟩ (i:Int))) (bif (c.2.2.1.drop i).all I5 then 0 else 120):=by
 intro j
 induction j with
 | zero=>
   intro i m l;have:i=c.2.2.1.length:=by omega
   subst this;rw[aA,aaA];refine(ai (by rw[Td];simp)).2 ?_;rw[cv];exact .ret _
 | succ j ih=>
   intro i m l;have f:i<c.2.2.1.length:=by omega
   rw[aA,aaA];refine(ak (by rw[Td];simp_all)).2 (au.2 ⟨df f,?_⟩);rw[show(af.n j6 c.2.2.1 (i:Int):ik)=c.2.2.1[i] from fM f _,Cg f,iE,I5];refine aV (p:=8<(c.2.2.1[i].1.length:Int)) rfl (λh=>?_) λg=>au.2 ⟨df f,aV (p:=c.2.2.1[i].2<0) rfl (λh=>?_) λn=>au.2 ⟨df f,aV (p:=255<c.2.2.1[i].2) rfl (λh=>?_) λo=>?_⟩⟩
   ·rw[oK (λk=>k h)];exact .ret _
   ·rw[dJ g,gj (by omega)];exact .ret _
   ·rw[dJ g,gj (by omega)];exact .ret _
   ·rw[dJ g,dn (by omega),h_ (i:=i) (by omega)]
    grind
theorem an0{c:iO}(h:Ty.has rB c):aY (aaA af) (amB af c) (vA c):=by
 have f:=(SV h).2.1;unfold amB vA;refine aV (p:=(c.2.2.1.length:Int)<4) rfl (λh=>?_) λg=>aV (p:=8<(c.2.2.1.length:Int)) rfl (λh=>?_) λi=>aV (p:=c.1<0) rfl (λh=>?_) λj=>aV (p:=(c.2.2.1.length:Int)<=c.1) rfl (λh=>?_) λl=>aV (p:=8<(c.2.1.length:Int)) rfl (λh=>?_) λm=>aV (p:=c.2.2.2.1<0) rfl (λh=>?_) λn=>aV (p:=4<c.2.2.2.1) rfl (λh=>?_) λo=>aV (p:=c.2.2.2.2 < -1) rfl (λh=>?_) λq=>aV (p:=4<=c.2.2.2.2) rfl (λh=>?_) λu=>?_
 ·exact aO (pM (by rw[gv,oK (by omega)])) (.ret _)
 ·exact aO (pM (by rw[gv,oK (by omega)])) (.ret _)
 ·exact aO (pM (by rw[gv,dJ (by omega),oK (by omega)])) (.ret _)
 ·exact aO (pM (by rw[gv,dJ (by omega),oK (by omega)])) (.ret _)
 ·exact aO (pM (by rw[gv,dJ (by omega),dJ (by omega),oK (by omega)])) (.ret _)
 ·exact aO (pM (by rw[gv,dJ (by omega),dJ (by omega),dJ (by omega),oK (by omega)])) (.ret _)
 ·exact aO (pM (by rw[gv,dJ (by omega),dJ (by omega),dJ (by omega),oK (by omega)])) (.ret _)
 ·exact aO (pM (by rw[gv,dJ (by omega),dJ (by omega),dJ (by omega),dJ (by omega),oK (by omega)])) (.ret _)
 ·exact aO (pM (by rw[gv,dJ (by omega),dJ (by omega),dJ (by omega),dJ (by omega),oK (by omega)])) (.ret _)
 ·rw[gv,dJ (by omega),dJ (by omega),dJ (by omega),dJ (by omega),dJ (by omega)]
  exact an7 f c.2.2.1.length 0 rfl (by omega)
def agn:iO->Int:=vA
def asN:aK:=.all [rB] [yI] agn
theorem aqQ:Sd 47 asN:=fa (bp ap dE sl 74 [⟨47,5, [[1,4]]⟩] [] (λA c=>amB A c) aaA aiY (kz (fc func47 fz) sz) (λA y=>match y with |.c0 p f=>⟨56,sl,by kernel_rfl⟩) λc g h=>an0 h)
structure ah0 where
 (a0:Int) (a2:iO) (a3 a4 a5:Int)
inductive W8 where
 | c0 (p:ah0) (a1:Int) (a6:List ik)
noncomputable def ai4:W8->iB
 | .c0 p a1 c=>⟨[⟨185,44,(en [(1,.ptr 0 0),(2,.ptr 1 0),(5,.own 2),(22,vi p.a0),(23,vi a1)]),sk f185 [1,1,1,1,0,1,0,0],[],none⟩],[.ay false (dc rB p.a2),.ay false [vi p.a3,.gb true,.gb true,vi p.a4,vi p.a5],.arr false j6 c,.a_]⟩
abbrev abG(A:aU)(c:iO):=(A.spl (A.r (A.l c.2.2.1) (Ty.gw j6:ik)) 0 (A.s c.2.2.1 0 (A.mn (A.l c.2.2.1) (A.l (A.r (A.l c.2.2.1) (Ty.gw j6:ik))))))
def amS(A:aU)(c:iO):LT (iO×Int) W8:=.br (A.cu (A.k q_ c) 0) (.ret ((0,([]:List Int),([]:List ik),0,0),(A.k q_ c))) (.ar (A.and (A.bK (A.l c.2.2.1) (A.l c.2.2.1)) (A.and (A.bU 0 (A.l c.2.2.1)) (A.bU (A.l c.2.2.1) 4398046511104))) (.ao (.c0 ⟨(A.l (abG A c)),c,0,0,0⟩ 0 (abG A c))))
def aaC(A:aU):W8->LT (iO×Int) W8
 | .c0 p a1 c=>.br (A.bG a1 p.a0) (.ar (A.and (A.bU 0 a1) (A.bG a1 (A.l c))) (.ar (A.and (A.bU 0 a1) (A.bG a1 (A.l c))) (.ao (.c0 p (A.b .add .i64 a1 1) (A.set c a1 ((A.k lq (A.n j6 c a1:ik).1),(A.n j6 c a1:ik).2)))))) (.ret ((p.a2.1,(A.k lq p.a2.2.1),c,p.a2.2.2.2),0))
def EE:iO:=(0,([]:List Int),([]:List ik),0,0)
def LB(c:iO):iO×Int:=bif gv c then(c,0) else(EE,120)
theorem av2{c:iO}{L o p q:Int}(u:l.length<=140737488355328)(h:L=(l.length:Int)):∀(j i:Nat),l.length-i=j->i<=l.length->aY (aaC af) (.ao (.c0 ⟨L,c,o,p,q⟩ (i:Int) l)) ((c.1,c.2.1,l,c.2.2.2),0):=by
 subst h;intro j
 induction j with
 | zero=>
   intro i n m;have:i=l.length:=by omega
   subst this;rw[aA,aaC];exact(ai (by rw[bf];simp)).2 (.ret _)
 | succ j ih=>
   intro i n m;have f:i<l.length:=by omega
   rw[aA,aaC];refine(ak (by rw[bf];simp_all)).2 (au.2 ⟨df f,au.2 ⟨df f,?_⟩⟩);have e:(af.n j6 l (i:Int):ik)=l[i]:=fM f _;have g:af.set l (i:Int) ((af.k lq (af.n j6 l (i:Int):ik).1),(af.n j6 l (i:Int):ik).2)=l:=by
    rw[e];show l.set (i:Int).toNat l[i]=l
    simp_all
   rw[g,h_ (i:=i) (by omega)]
   grind
theorem Mt{l:List α}{d:α}:af.spl (af.r (af.l l) d) 0 (af.s l 0 (af.mn (af.l l) (af.l (af.r (af.l l) d))))=l:=by
 simp[mW,yJ,iY,nW,dV]
theorem apK{c:iO}:aY (aaC af) (amS af c) (LB c):=by
 unfold amS abG LB;rw[show af.k q_ c=vA c from rfl,vA];cases hc:gv c
 ·exact(ak rfl).2 (.ret _)
 ·refine(ai rfl).2 ?_
  simp[gv,fv,rR] at hc;have f:af.and (af.bK (af.l c.2.2.1) (af.l c.2.2.1)) (af.and (af.bU 0 (af.l c.2.2.1)) (af.bU (af.l c.2.2.1) 4398046511104))=true:=by
   rw[dV,bd,aB,aB,bl,bl];grind
  refine au.2 ⟨f,?_⟩;exact lV (congrArg (λz:List ik=>LT.ao (W8.c0 ⟨af.l z,c,0,0,0⟩ 0 z)) Mt) (av2 (by omega) rfl c.2.2.1.length 0 rfl (by omega))
def og:iO->(iO×Int):=LB
def as9:aK:=.all [rB] [rB,yI] og
theorem aa8:Sd 185 as9:=fa (bp ap dE sl 50 [⟨185,7, [[1,2,5,22,23]]⟩] [] (λA c=>amS A c) aaC ai4 (kz (fc func185 fz) (sc zz (sc Kh sz))) (λA y=>match y with |.c0 p a1 f=>⟨38,sl,by kernel_rfl⟩) λc g h=>apK)
variable{a b:Int}
theorem dq:af.bK a b=decide (a=b):=by rfl
structure ahZ where
 (a0 a2:Int) (a3:List Int) (a4:iO) (a5 a6 a7:Int) (a9:iO) (iN kV a12:Int)
inductive W7 where
 | c0 (p:ahZ) (a1:Int) (a8:List ik)
noncomputable def ai2:W7->iB
 | .c0 p a1 a8=>⟨[⟨185,44,(en [(1,.ptr 0 0),(2,.ptr 1 0),(5,.own 2),(22,vi p.a0),(23,vi a1)]),sk f185 [1,1,1,1,0,1,0,0],[],none⟩,⟨240,42,(en [(1,vi p.a2),(2,.sl yU p.a3),(3,.ptr 3 0),(6,.ptr 4 0)]),(.ops (ow f240 [1,0]) ((ow f240 [1,0]).toList.drop 1)::sk f240 [1,0]),[],none⟩],[.ay false (dc rB p.a4),.ay false [vi p.a5,.gb true,.gb true,vi p.a6,vi p.a7],.arr false j6 a8,.ay false (dc rB p.a9),.ay false [vi p.iN,.gb true,.gb true,vi p.kV,vi p.a12],.a_]⟩
abbrev abF(A:aU)(c:iO):=(A.spl (A.r (A.l c.2.2.1) (Ty.gw j6:ik)) 0 (A.s c.2.2.1 0 (A.mn (A.l c.2.2.1) (A.l (A.r (A.l c.2.2.1) (Ty.gw j6:ik))))))
def amQ(A:aU)(c:iO)(g:Int)(f:List Int):LT (iO×Int) W7:=.br (A.cu (A.k q_ c) 0) (.br (A.cu (A.k q_ c) 0) (.ret ((0,([]:List Int),([]:List ik),0,0),(A.k q_ c))) (.br (A.not (A.k u9 (g,0,(A.b .sub .i64 (A.l c.2.2.1) 1)))) (.ret ((0,([]:List Int),([]:List ik),0,0),2)) (.br (A.ji (A.l f) 8) (.ret ((0,([]:List Int),([]:List ik),0,0),3)) (.bZ 37 "cni.go:107")))) (.ar (A.and (A.bK (A.l c.2.2.1) (A.l c.2.2.1)) (A.and (A.bU 0 (A.l c.2.2.1)) (A.bU (A.l c.2.2.1) 4398046511104))) (.ao (.c0 ⟨(A.l (abF A c)),g,f,c,0,0,0,c,0,0,0⟩ 0 (abF A c))))
def Vq(A:aU):W7->LT (iO×Int) W7
 | .c0 p a1 a8=>.br (A.bG a1 p.a0) (.ar (A.and (A.bU 0 a1) (A.bG a1 (A.l a8))) (.ar (A.and (A.bU 0 a1) (A.bG a1 (A.l a8))) (.ao (.c0 p (A.b .add .i64 a1 1) (A.set a8 a1 ((A.k lq (A.n j6 a8 a1:ik).1),(A.n j6 a8 a1:ik).2)))))) (.br (A.not (A.k u9 (p.a2,0,(A.b .sub .i64 (A.l p.a9.2.2.1) 1)))) (.ret ((0,([]:List Int),([]:List ik),0,0),2)) (.br (A.ji (A.l p.a3) 8) (.ret ((0,([]:List Int),([]:List ik),0,0),3)) (.ar (A.and (A.bU 0 p.a2) (A.bG p.a2 (A.l a8))) (.ret ((p.a4.1,(A.k lq p.a4.2.1),(A.set a8 p.a2 ((A.k lq p.a3),0)),p.a4.2.2.2),0)))))
def sM(c:iO)(f:Int)(g:List Int):iO×Int:=
 bif gv c then(bif decide (0<=f/\f<=(c.2.2.1.length:Int)-1) then(bif decide (8<(g.length:Int)) then(EE,3) else((c.1,c.2.1,c.2.2.1.set f.toNat (g,0),c.2.2.2),0)) else(EE,2)) else(EE,120)
def avK:iO×Int×List Int->iO×Int:=λ(c,g,f)=>sM c g f
theorem KP{c:iO}(h:gv c=true):4<=c.2.2.1.length/\c.2.2.1.length<=8/\c.2.1.length<=8/\∀x∈c.2.2.1,x.1.length<=8/\0<=x.2/\x.2<=255:=by
 simp[gv,fv,bH,I5] at h
 grind
theorem Oe{c:iO}(h:gv c=true):af.and (af.bK (af.l c.2.2.1) (af.l c.2.2.1)) (af.and (af.bU 0 (af.l c.2.2.1)) (af.bU (af.l c.2.2.1) 4398046511104))=true:=by
 have:=KP h;rw[dV,bd,aB,aB,bl,bl];grind
theorem OE{i:Nat}(c:i<l.length):af.set l (i:Int) ((af.k lq (af.n j6 l (i:Int):ik).1),(af.n j6 l (i:Int):ik).2)=l:=by
 rw[show(af.n j6 l (i:Int):ik)=l[i] from fM c _];show l.set (i:Int).toNat l[i]=l
 simp_all
variable{g:Int}
theorem avI{c:iO}{L l m n o p q:Int}{f:List Int}{R:iO×Int}(B:c.2.2.1.length<=8)(u:L=(c.2.2.1.length:Int))(v:aY (Vq af) (.ao (.c0 ⟨L,g,f,c,l,m,n,c,o,p,q⟩ (c.2.2.1.length:Int) c.2.2.1)) R):
  ∀(j i:Nat),c.2.2.1.length-i=j->i<=c.2.2.1.length->aY (Vq af) (.ao (.c0 ⟨L,g,f,c,l,m,n,c,o,p,q⟩ (i:Int) c.2.2.1)) R:=by
 subst u;intro j
 induction j with
 | zero=>
   grind
 | succ j ih=>
   intro i A z;have h:i<c.2.2.1.length:=by omega
   rw[aA,Vq];refine(ak (by rw[bf];simp_all)).2 (au.2 ⟨df h,au.2 ⟨df h,?_⟩⟩);rw[OE h,h_ (i:=i) (by omega)]
   grind
theorem avJ{c:iO}{f:List Int}:aY (Vq af) (amQ af c g f) (sM c g f):=by
 unfold amQ abF sM;rw[show af.k q_ c=vA c from rfl,vA];cases hc:gv c
 ·exact(ak rfl).2 ((ak rfl).2 (.ret _))
 ·obtain⟨n,j,_,_⟩:=KP hc
  refine(ai rfl).2 (au.2 ⟨Oe hc,lV (congrArg (λz:List ik=>LT.ao (W7.c0 ⟨af.l z,g,f,c,0,0,0,c,0,0,0⟩ 0 z)) Mt) (avI j rfl ?_ c.2.2.1.length 0 rfl (by omega))⟩);rw[aA,Vq];have m:af.b .sub .i64 (c.2.2.1.length:Int) 1=(c.2.2.1.length:Int)-1:=by rw[fO,lg (by omega) (by omega)]
  refine(ai (by rw[bf];simp)).2 (?_);simp only[dV,m];refine jd (λh=>?_) λi=>aV (p:=8<(f.length:Int)) rfl (λh=>?_) λl=>au.2 ⟨?_,?_⟩
  ·rw[gj h];exact .ret _
  ·rw[dn i,dn h];exact .ret _
  ·rw[aB,aN,bl];grind
  ·rw[dn i,gj l];exact .ret _
def DT:(iO×Int×List Int)->(iO×Int):=avK
def as5:aK:=.all [rB,yI,yB] [rB,yI] DT
theorem ahc:Sd 240 as5:=fa (bp ap dE sl 89 [⟨185,7, [[1,2,5,22,23], [1,2,3,6]]⟩] [] (λA (c,g,f)=>amQ A c g f) Vq ai2 (kz (fc func240 (fc func185 fz)) (sc zz (sc Kh (sc ON sz)))) (λA y=>match y with |.c0 p a1 i=>⟨86,sl,by kernel_rfl⟩) λ(c,g,f) j h=>avJ)
structure ahT where
 (a0 a1 a2 a3 a4 a5 a6 a7:Int)
structure ahU where
 (b0:Int) (b2:iO) (b3 b4 b5 b7 b8 b9:Int)
structure ahV where
 (c0 c2 c3 c4 c5:Int) (c6:List Int) (c7 c8:Int)
inductive W6 where
 | c0 (p:ahT)
 | c1 (p:ahU) (b1:Int) (b6:List ik)
 | c2 (p:ahV) (c1:Int) (c9:List ik)
noncomputable def aiZ:W6->iB
 | .c0 p=>⟨[⟨151,42,(en [(2,.ptr 0 0),(4,.ptr 1 0),(18,vi p.a0),(19,vi p.a1)]),sk f151 [1,1,1,0,1,0,0],[],none⟩],[.ay false [vi p.a2,.gb true,.gb true,vi p.a3,vi p.a4],.ay false [vi p.a5,.gb true,.gb true,vi p.a6,vi p.a7],.a_]⟩
 | .c1 p b1 c=>⟨[⟨185,44,(en [(1,.ptr 0 0),(2,.ptr 1 0),(5,.own 2),(22,vi p.b0),(23,vi b1)]),sk f185 [1,1,1,1,0,1,0,0],[],none⟩,⟨151,42,(en [(2,.ptr 3 0)]),(.ops (ow f151 [1,0]) ((ow f151 [1,0]).toList.drop 1)::sk f151 [1,0]),[],none⟩],[.ay false (dc rB p.b2),.ay false [vi p.b3,.gb true,.gb true,vi p.b4,vi p.b5],.arr false j6 c,.ay false [vi p.b7,.gb true,.gb true,vi p.b8,vi p.b9],.a_]⟩
 | .c2 p c1 c9=>⟨[⟨151,42,(en [(2,.ptr 0 0),(4,.ptr 1 0),(18,vi p.c0),(19,vi c1)]),sk f151 [1,1,1,0,1,0,0],[],none⟩],[.ay false [vi p.c2,.gb true,.gb true,vi p.c3,vi p.c4],.ay false [vi p.c5,.sl yU p.c6,.own 2,vi p.c7,vi p.c8],.arr false j6 c9,.a_]⟩
abbrev abE(A:aU)(c:iO):=(A.spl (A.r (A.l c.2.2.1) (Ty.gw j6:ik)) 0 (A.s c.2.2.1 0 (A.mn (A.l c.2.2.1) (A.l (A.r (A.l c.2.2.1) (Ty.gw j6:ik))))))
def amM(A:aU)(c:iO):LT (iO×Int) W6:=.br (A.cu (A.k q_ c) 0) (.br (A.cu (A.k q_ c) 0) (.ret ((0,([]:List Int),([]:List ik),0,0),(A.k q_ c))) (.ao (.c0 ⟨0,0,0,0,0,0,0,0⟩))) (.ar (A.and (A.bK (A.l c.2.2.1) (A.l c.2.2.1)) (A.and (A.bU 0 (A.l c.2.2.1)) (A.bU (A.l c.2.2.1) 4398046511104))) (.ao (.c1 ⟨(A.l (abE A c)),c,0,0,0,0,0,0⟩ 0 (abE A c))))
def Mg(A:aU):W6->LT (iO×Int) W6
 | .c0 p=>.br (A.bG p.a1 p.a0) (.bZ 37 "cni.go:118") (.ret ((p.a5,([]:List Int),([]:List ik),(A.mx (A.b .sub .i64 p.a6 1) 0),p.a7),0))
 | .c1 p b1 c=>.br (A.bG b1 p.b0) (.ar (A.and (A.bU 0 b1) (A.bG b1 (A.l c))) (.ar (A.and (A.bU 0 b1) (A.bG b1 (A.l c))) (.ao (.c1 p (A.b .add .i64 b1 1) (A.set c b1 ((A.k lq (A.n j6 c b1:ik).1),(A.n j6 c b1:ik).2)))))) (.ao (.c2 ⟨(A.l c),p.b7,p.b8,p.b9,p.b2.1,(A.k lq p.b2.2.1),p.b2.2.2.2.1,p.b2.2.2.2.2⟩ 0 c))
 | .c2 p c1 c9=>.br (A.bG c1 p.c0) (.ar (A.and (A.bU 0 c1) (A.bG c1 (A.l c9))) (.ar (A.and (A.bU 0 c1) (A.bG c1 (A.l c9))) (.ao (.c2 p (A.b .add .i64 c1 1) (A.set c9 c1 ((A.n j6 c9 c1:ik).1,(A.mn (A.b .add .i64 (A.n j6 c9 c1:ik).2 1) 255))))))) (.ret ((p.c5,p.c6,c9,(A.mx (A.b .sub .i64 p.c7 1) 0),p.c8),0))
def KA(m:ik):ik:=(m.1,af.mn (af.b .add .i64 m.2 1) 255)
def I9(c:iO):iO×Int:=bif gv c then((c.1,c.2.1,c.2.2.1.map KA,af.mx (af.b .sub .i64 c.2.2.2.1 1) 0,c.2.2.2.2),0) else(EE,120)
theorem aiu{f:ik->ik}{i:Nat}(h:i<l.length):(af.n j6 ((l.take i).map f++l.drop i) (i:Int):ik)=l[i]/\af.set ((l.take i).map f++l.drop i) (i:Int) (f l[i])=(l.take (i+1)).map f++l.drop (i+1):=by
 have c:i<((l.take i).map f++l.drop i).length:=by grind
 have g:((l.take i).map f).length=i:=by grind
 constructor
 ·refine(fM c _).trans ?_
  simp_all
 ·show List.set _ (i:Int).toNat _=_
  rw[rz,List.set_append_right _ _ (by rw[g];exact aj _),g,kD,Cg h,mH,bi h,fG,b_];rfl
theorem av_{c:iO}{L h l m n o:Int}{R:iO×Int}(z:c.2.2.1.length<=8)(p:L=(c.2.2.1.length:Int))(q:aY (Mg af) (.ao (.c1 ⟨L,c,g,h,l,m,n,o⟩ (c.2.2.1.length:Int) c.2.2.1)) R):
  ∀(j i:Nat),c.2.2.1.length-i=j->i<=c.2.2.1.length->aY (Mg af) (.ao (.c1 ⟨L,c,g,h,l,m,n,o⟩ (i:Int) c.2.2.1)) R:=by
 subst p;intro j
 induction j with
 | zero=>
   grind
 | succ j ih=>
   intro i v u;have f:i<c.2.2.1.length:=by omega
   rw[aA,Mg];refine(ak (by rw[bf];simp_all)).2 (au.2 ⟨df f,au.2 ⟨df f,?_⟩⟩);rw[OE f,h_ (i:=i) (by omega)]
   grind
theorem awb{L q u v id c:Int}{out:List Int}(z:l.length<=8)(n:L=(l.length:Int)):∀(j i:Nat),l.length-i=j->i<=l.length->
  aY (Mg af) (.ao (.c2 ⟨L,q,u,v,id,out,c,g⟩ (i:Int) ((l.take i).map KA++l.drop i))) ((id,out,l.map KA,af.mx (af.b .sub .i64 c 1) 0,g),0):=by
 subst n;intro j
 induction j with
 | zero=>
   intro i p o;have:i=l.length:=by omega
   subst this;rw[aA,Mg,dW,cv,aL];exact(ai (by rw[bf];simp)).2 (.ret _)
 | succ j ih=>
   intro i p o;have h:i<l.length:=by omega
   have m:i<((l.take i).map KA++l.drop i).length:=by simp_all
   obtain⟨a1,a2⟩:=aiu (f:=KA) h;rw[aA,Mg];refine(ak (by rw[bf];simp_all)).2 (au.2 ⟨df m,au.2 ⟨df m,?_⟩⟩);rw[a1,h_ (i:=i) (by omega)];rw[show(l[i].1,af.mn (af.b .add .i64 l[i].2 1) 255)=KA l[i] from rfl,a2]
   grind
theorem awc{c:iO}:aY (Mg af) (amM af c) (I9 c):=by
 unfold amM abE I9;rw[show af.k q_ c=vA c from rfl,vA];cases hc:gv c
 ·exact(ak rfl).2 ((ak rfl).2 (.ret _))
 ·obtain⟨g,f,_,_⟩:=KP hc
  refine(ai rfl).2 (au.2 ⟨Oe hc,lV (congrArg (λz:List ik=>LT.ao (W6.c1 ⟨af.l z,c,0,0,0,0,0,0⟩ 0 z)) Mt) (av_ f rfl ?_ c.2.2.1.length 0 rfl (by omega))⟩);rw[aA,Mg];exact(ai (by rw[bf];simp)).2 (awb (l:=c.2.2.1) (out:=c.2.1) f rfl c.2.2.1.length 0 rfl (by omega))
def Yp:iO->(iO×Int):=I9
def asZ:aK:=.all [rB] [rB,yI] Yp
theorem aq0:Sd 151 asZ:=fa (bp ap dE sl 68 [⟨151,5, [[2,4,18,19]]⟩,⟨185,7, [[1,2,5,22,23], [2]]⟩] [] (λA c=>amM A c) Mg aiZ (kz (fc func151 (fc func185 fz)) (sc zz (sc Kh sz))) (λA y=>match y with |.c0 p=>⟨28,sl,by kernel_rfl⟩|.c1 p b1 f=>⟨56,sl,by kernel_rfl⟩|.c2 p c1 c9=>⟨41,sl,by kernel_rfl⟩) λc g h=>awc)
inductive ac9 where
 | c0 (a0:Int) (a1:List ik)
noncomputable def ai3:ac9->iB
 | .c0 a0 a1=>⟨[⟨181,48,(en [(7,.own 0),(8,vi a0)]),sk f181 [1,1,1,1,1,1,0,0,0],[],none⟩],[.arr false j6 a1,.a_]⟩
abbrev Hf(A:aU)(f:List ik)(c:Int):=(A.v .i64 (A.b .mul .u64 (A.v .u64 (A.l f)) (A.v .u64 c)))
abbrev aht(A:aU)(f:List ik)(c:Int):=(A.b .add .u64 (A.b .mul .u64 (A.b .shr .u64 (A.v .u64 (A.l f)) 32) (A.b .and .u64 (A.v .u64 c) 4294967295)) (A.b .shr .u64 (A.b .mul .u64 (A.b .and .u64 (A.v .u64 (A.l f)) 4294967295) (A.b .and .u64 (A.v .u64 c) 4294967295)) 32))
def auv(A:aU)(f:List ik)(c:Int):LT (List ik) ac9:=.br (A.bG c 0) (.bZ 117 "slices.go:516") (.br (A.ji (A.b .add .u64 (A.b .add .u64 (A.b .mul .u64 (A.b .shr .u64 (A.v .u64 (A.l f)) 32) (A.b .shr .u64 (A.v .u64 c) 32)) (A.b .shr .u64 (aht A f c) 32)) (A.b .shr .u64 (A.b .add .u64 (A.b .and .u64 (aht A f c) 4294967295) (A.b .mul .u64 (A.b .and .u64 (A.v .u64 (A.l f)) 4294967295) (A.b .shr .u64 (A.v .u64 c) 32))) 32)) 0) (.bZ 117 "slices.go:522") (.br (A.ji (A.b .mul .u64 (A.v .u64 (A.l f)) (A.v .u64 c)) 9223372036854775807) (.bZ 117 "slices.go:522") (.ar (A.and (A.bK (Hf A f c) (Hf A f c)) (A.and (A.bU 0 (Hf A f c)) (A.bU (Hf A f c) 4398046511104))) (.ao (.c0 (A.mn (A.l f) (A.l (A.r (Hf A f c) (Ty.gw j6:ik)))) (A.spl (A.r (Hf A f c) (Ty.gw j6:ik)) 0 (A.s f 0 (A.mn (A.l f) (A.l (A.r (Hf A f c) (Ty.gw j6:ik)))))))))))
def aqa(A:aU):ac9->LT (List ik) ac9
 | .c0 a0 a1=>.br (A.bG a0 (A.l a1)) (.ar (A.and (A.bU 0 a0) (A.and (A.bU a0 (A.l a1)) (A.bU (A.l a1) (A.l a1)))) (.ar (A.and (A.bU 0 0) (A.and (A.bU 0 a0) (A.bU a0 (A.l a1)))) (.ao (.c0 (A.b .add .i64 a0 (A.mn (A.l (A.s a1 0 (A.b .add .i64 0 (A.b .sub .i64 a0 0)))) (A.b .sub .i64 (A.l a1) a0))) (A.spl a1 a0 (A.s (A.s a1 0 (A.b .add .i64 0 (A.b .sub .i64 a0 0))) 0 (A.mn (A.l (A.s a1 0 (A.b .add .i64 0 (A.b .sub .i64 a0 0)))) (A.b .sub .i64 (A.l a1) a0)))))))) (.ret a1)
def Gs:ik:=(([]:List Int),255)
theorem av8{n:Int}(h:(decide (l=[(([]:List Int),255)])&&decide (4<=n)&&decide (n<=8))=true):aY (aqa af) (auv af l n) (List.replicate n.toNat Gs):=by
 simp at h;obtain⟨⟨rfl,f⟩,g⟩:=h;have c:n=4\/n=5\/n=6\/n=7\/n=8:=by omega
 rcases c with rfl|rfl|rfl|rfl|rfl <;>
  (refine(ai (by rfl)).2 ((ai (by rfl)).2 ((ai (by rfl)).2 (au.2 ⟨by rfl,?_⟩)))
   refine aA.2 ((ak (by rfl)).2 (au.2 ⟨by rfl,au.2 ⟨by rfl,(aA.2 ?_)⟩⟩));refine(ak (by rfl)).2 (au.2 ⟨by rfl,au.2 ⟨by rfl,(aA.2 ?_)⟩⟩))
 ·exact(ai (by rfl)).2 (aO (by rfl) (.ret _))
 all_goals exact(ak (by rfl)).2 (au.2 ⟨by rfl,au.2 ⟨by rfl,(aA.2 ((ai (by rfl)).2 (aO (by rfl) (.ret _))))⟩⟩)
def ags:(List ik×Int)->(List ik):=λ(_,n)=>List.replicate n.toNat (([]:List Int),255)
def Qu:(List ik×Int)->Bool:=λ(l,n)=>decide (l=[(([]:List Int),255)])&&decide (4<=n)&&decide (n<=8)
def as8:aK:=⟨[(.slice j6),yI], [(.slice j6)],Qu,ags,false⟩
theorem aq4:Sd 181 as8:=bp ap dE sl 175 [⟨181,8, [[7,8]]⟩] [] (λA (f,c)=>auv A f c) aqa ai3 (kz (fc func181 (fc func172 (fc func225 fz))) sz) (λA y=>match y with |.c0 i a1=>⟨30,sl,by kernel_rfl⟩) λ((f,c):List ik×Int) g h=>av8 g
def amz(A:aU)(id:Int)(n:Int):LT (iO×Int) Empty:=.br (A.not (A.k u9 (n,4,8))) (.ret ((0,([]:List Int),([]:List ik),0,0),120)) (.br (A.not (A.k u9 (id,0,(A.b .sub .i64 n 1)))) (.ret ((0,([]:List Int),([]:List ik),0,0),120)) (.ar (A.k Qu (([(([]:List Int),255)]:List ik),n)) (.ret ((id,([]:List Int),(A.k ags (([(([]:List Int),255)]:List ik),n)),4,(-1)),0))))
def ZK(id n:Int):iO×Int:=bif decide (4<=n/\n<=8) then(bif decide (0<=id/\id<=n-1) then((id,([]:List Int),List.replicate n.toNat Gs,4,(-1)),0) else(EE,120)) else(EE,120)
def av0:Int×Int->iO×Int:=λ(id,n)=>ZK id n
theorem ZJ{id n:Int}:aY Empty.elim (amz af id n) (ZK id n):=by
 unfold amz ZK;refine jd (λh=>?_) λc=>?_
 ·exact aO (by rw[gj h];rfl) (.ret _)
 ·have e:af.b .sub .i64 n 1=n-1:=by rw[fO,lg (by omega) (by omega)]
  rw[e];refine jd (λh=>?_) λf=>au.2 ⟨?_,?_⟩
  ·exact aO (by rw[dn c,gj h];rfl) (.ret _)
  ·rw[bo,Qu,dn c.1,dn c.2];rfl
  ·exact aO (by rw[dn c,dn f];rfl) (.ret _)
def Sp:(Int×Int)->(iO×Int):=av0
def asJ:aK:=.all [yI,yI] [rB,yI] Sp
theorem aqP:Sd 124 asJ:=fa (bM ap dE sl 38 [] (λA (id,n)=>amz A id n) (kz (fc func124 fz) (sc ON (sc aq4 sz))) λ(id,n) c h=>ZJ)
def auy(A:aU)(c:iO):LT Bool Empty:=.br (A.bK (A.k q_ c) 0) (.ret (A.ji c.2.2.2.1 0)) (.ret false)
def Yt:iO->Bool:=λc=>(auy af c).val (Ty.aS [.bool])
def ati:aK:=.all [rB] [.bool] Yt
theorem aq9:Sd 313 ati:=fa (aR ap dE sl 23 [] (λA c=>auy A c) (kz (fc func313 fz) (sc Kh sz)))
def amV(A:aU)(c:iO)(f:Int):LT (List Int×Int) Empty:=.br (A.cu (A.k q_ c) 0) (.ret (([]:List Int),(A.k q_ c))) (.br (A.not (A.k u9 (f,0,8))) (.ret (([]:List Int),2)) (.ar (A.and (A.bK f f) (A.and (A.bU 0 f) (A.bU f 140737488355328))) (.br (A.k Yt c) (.ret ((A.spl (A.r f (0:Int)) 0 (A.s c.2.1 0 (A.mn (A.l c.2.1) (A.l (A.r f (0:Int)))))),0)) (.ret ((A.r f (0:Int)),0)))))
def GY(c:iO)(k:Int):List Int×Int:=bif gv c then(bif decide (0<=k/\k<=8) then((bif decide (0<c.2.2.2.1) then c.2.1.take k.toNat++List.replicate (k.toNat-c.2.1.length) 0 else List.replicate k.toNat 0),0) else([],2)) else([],120)
def awg:iO×Int->List Int×Int:=λ(c,k)=>GY c k
theorem afq{k:Int}(h:0<=k/\k<=8):af.and (af.bK k k) (af.and (af.bU 0 k) (af.bU k 140737488355328))=true:=by
 rw[bd,aB,aB,bl,bl];grind
theorem awf{c:iO}{k:Int}:aY Empty.elim (amV af c k) (GY c k):=by
 unfold amV GY;rw[show af.k q_ c=vA c from rfl,show af.k Yt c=(bif vA c==0 then decide (0<c.2.2.2.1) else false) from rfl,vA];cases hc:gv c
 ·exact(ak rfl).2 (.ret _)
 ·refine(ai rfl).2 (jd (λh=>?_) λh=>au.2 ⟨afq h,aV (p:=0<c.2.2.2.1) rfl (λf=>?_) λf=>?_⟩)
  ·exact aO (by grind) (.ret _)
  ·refine aO ?_ (.ret _)
   simp[mW,yJ,iY,nW,dV,Int.toNat_zero,mT,jU,mR]
   grind
  ·exact aO (by rw[dn h,gj f];rfl) (.ret _)
def Yr:(iO×Int)->(List Int×Int):=awg
def atb:aK:=.all [rB,yI] [yB,yI] Yr
theorem aq6:Sd 271 atb:=fa (bM ap dE sl 60 [] (λA (c,f)=>amV A c f) (kz (fc func271 fz) (sc Kh (sc ON (sc aq9 sz)))) λ(c,f) g h=>awf)
def amE(A:aU)(c:iO)(f:List Int):LT (iO×Int) Empty:=.br (A.cu (A.k og c).2 0) (.ret ((0,([]:List Int),([]:List ik),0,0),(A.k og c).2)) (.br (A.ji (A.l f) 8) (.ret ((0,([]:List Int),([]:List ik),0,0),3)) (.ret (((A.k og c).1.1,(A.k lq f),(A.k og c).1.2.2),0)))
def V2(c:iO)(d:List Int):iO×Int:=bif gv c then(bif decide (8<(d.length:Int)) then(EE,3) else((c.1,d,c.2.2),0)) else(EE,120)
def wrS:iO×List Int->iO×Int:=λ(c,d)=>V2 c d
theorem wr1{c:iO}{d:List Int}:aY Empty.elim (amE af c d) (V2 c d):=by
 unfold amE V2;rw[show af.k og c=LB c from rfl,LB];cases gv c
 ·exact(ak rfl).2 (.ret _)
 ·refine(ai rfl).2 (aV (p:=8<(d.length:Int)) rfl (λh=>?_) λh=>?_)
  ·exact aO (by rw[dn h];rfl) (.ret _)
  ·exact aO (by rw[gj h];rfl) (.ret _)
def FO:(iO×List Int)->(iO×Int):=wrS
def asQ:aK:=.all [rB,yB] [rB,yI] FO
theorem ag9:Sd 126 asQ:=fa (bM ap dE sl 55 [] (λA (c,f)=>amE A c f) (kz (fc func126 fz) (sc zz (sc aa8 sz))) λ(c,f) g h=>wr1)
def amF(A:aU)(c:iO):LT (iO×Int) Empty:=.br (A.bK (A.k og c).2 0) (.ret (((A.k og c).1.1,(A.k og c).1.2.1,(A.k og c).1.2.2.1,4,(A.k og c).1.2.2.2.2),(A.k og c).2)) (.ret (A.k og c))
def btS:iO->iO×Int:=λc=>bif gv c then((c.1,c.2.1,c.2.2.1,4,c.2.2.2.2),0) else(EE,120)
theorem bt1{c:iO}:aY Empty.elim (amF af c) (btS c):=by
 unfold amF btS;rw[show af.k og c=LB c from rfl,LB];cases gv c
 ·exact(ai rfl).2 (.ret _)
 ·exact(ak rfl).2 (.ret _)
def Sr:iO->(iO×Int):=btS
def asR:aK:=.all [rB] [rB,yI] Sr
theorem aqT:Sd 167 asR:=fa (bM ap dE sl 41 [] (λA c=>amF A c) (kz (fc func167 fz) (sc aa8 sz)) λc f h=>bt1)
def amG(A:aU)(c:iO)(f:Int):LT (iO×Int) Empty:=.br (A.cu (A.k og c).2 0) (.ret ((0,([]:List Int),([]:List ik),0,0),(A.k og c).2)) (.br (A.not (A.k u9 (f,(-1),3))) (.ret ((0,([]:List Int),([]:List ik),0,0),2)) (.ret (((A.k og c).1.1,(A.k og c).1.2.1,(A.k og c).1.2.2.1,(A.k og c).1.2.2.2.1,f),0)))
def Il(c:iO)(m:Int):iO×Int:=bif gv c then(bif decide (-1<=m/\m<=3) then((c.1,c.2.1,c.2.2.1,c.2.2.2.1,m),0) else(EE,2)) else(EE,120)
def avz:iO×Int->iO×Int:=λ(c,m)=>Il c m
theorem avy{c:iO}{m:Int}:aY Empty.elim (amG af c m) (Il c m):=by
 unfold amG Il;rw[show af.k og c=LB c from rfl,LB];cases gv c
 ·exact(ak rfl).2 (.ret _)
 ·refine(ai rfl).2 (jd (λh=>?_) λh=>?_)
  ·exact aO (by rw[gj h];rfl) (.ret _)
  ·exact aO (by simp_all) (.ret _)
def Ss:(iO×Int)->(iO×Int):=avz
def asS:aK:=.all [rB,yI] [rB,yI] Ss
theorem aqU:Sd 168 asS:=fa (bM ap dE sl 54 [] (λA (c,f)=>amG A c f) (kz (fc func168 fz) (sc ON (sc aa8 sz))) λ(c,f) g h=>avy)
abbrev iD(m:ax):Int:=(m.2.2.2.2.2.2.2.length:Int)
variable{c:fq}
theorem w6{k:Int}(h:qZ (c,k)=0):(4<=k/\k<=8)/\(0<=c.1/\c.1<=255)/\(0<=c.2.1/\c.2.1<=k-1)/\(0<=c.2.2.1/\c.2.2.1<=3)/\(0<=c.2.2.2.1/\c.2.2.2.1<=4)/\(0<=c.2.2.2.2/\c.2.2.2.2<=2^k.toNat-1):=by
 rw[qZ] at h;cases h1:decide (k<4)||decide (8<k)
 all_goals grind
def iG(m:ax)(c:fq):Bool:=decide (qZ (c,m.1)=0)&&(decide (c.2.2.1<iD m)&&decide (c.2.2.2.1<=iD m))
def nK(m:ax)(c:fq):Int:=bif dC m then(bif iG m c then 0 else 40) else 70
variable{m:ax}
theorem yk(h:nK m c=0):dC m=true/\qZ (c,m.1)=0/\(0<=c.2.2.1/\c.2.2.1<iD m)/\c.2.2.2.1<=iD m:=by
 unfold nK at h;cases hm:dC m
 ·simp_all
 ·cases hf:iG m c
  ·simp_all
  ·simp[iG,fv,rR] at hf
   exact⟨rfl,hf.1,⟨(w6 hf.1).2.2.2.1.1,hf.2.1⟩,hf.2.2⟩
theorem Xe(h:dC m=true)(f:iG m c=true):nK m c=0:=by rw[nK,h,f];rfl
theorem iJ(h:dC m=true):(4<=m.1/\m.1<=8)/\(1<=iD m/\iD m<=4)/\(m.2.2.2.2.2.2.1.length:Int)=m.1/\m.2.2.2.2.2.2.2.all (o_ m)=true:=by
 have:=Zx h
 simp_all
variable{i:Int}
theorem Bu(h:dC m=true)(f:0<=i)(g:i<iD m):o_ m (af.n fC m.2.2.2.2.2.2.2 i:Mode)=true:=by
 obtain⟨k,rfl⟩:∃k:Nat,i=k:=⟨i.toNat,by omega⟩;have c:k<m.2.2.2.2.2.2.2.length:=by simp_all
 rw[show(af.n fC m.2.2.2.2.2.2.2 (k:Int):Mode)=m.2.2.2.2.2.2.2[k] from fM c _];exact bH.1 (iJ h).2.2.2 _ (cN c)
theorem vh{x:Mode}(h:o_ m x=true):(x.1.length:Int)=m.1/\(x.2.1.length:Int)=m.1/\(x.2.2.length:Int)=iD m:=by
 simp only[o_] at h
 simp_all
theorem yy{l:List α}(c:0<=i)(f:i<(l.length:Int)):af.and (af.bU 0 i) (af.bG i (af.l l))=true:=by
 rw[dV,aB,aN,bl];simp_all
variable{x:Int}
theorem IJ(h:x=0):af.cu x 0=false:=by rw[h];rfl
theorem w_(h:¬x=0):af.cu x 0=true:=by rw[cq];simp_all
theorem anQ(h:¬x=0):af.bK x 0=false:=by rw[bd];simp_all
theorem Xp(h:x=0):af.bK x 0=true:=by rw[h];rfl
def amy(A:aU)(m:ax)(c:fq):LT Bool Empty:=.br (A.bK (A.k an_ (c,m.1)) 0) (.br (A.bG c.2.2.1 (A.l m.2.2.2.2.2.2.2)) (.ret (A.bU c.2.2.2.1 (A.l m.2.2.2.2.2.2.2))) (.ret false)) (.ret false)
theorem agj:aY Empty.elim (amy af m c) (iG m c):=by
 unfold amy;by_cases h:qZ (c,m.1)=0
 ·rw[iG,dn h]
  refine(ak (Xp h)).2 (aV (p:=c.2.2.1<iD m) rfl (λf=>?_) λf=>?_)
  ·exact aO (by rw[dn f];rfl) (.ret _)
  ·exact aO (by grind) (.ret _)
 ·rw[iG,gj h]
  exact(ai (anQ h)).2 (.ret _)
def Ym:(ax×fq)->Bool:=λ(m,c)=>iG m c
def asI:aK:=.all [bJ,ia] [.bool] Ym
theorem aqN:Sd 84 asI:=fa (bM ap dE sl 37 [] (λA (m,c)=>amy A m c) (kz (fc func84 fz) (sc awm sz)) λ(m,c) f h=>agj)
def aur(A:aU)(m:ax)(c:fq):LT Bool Empty:=.br (A.bK (A.k xw (c,m.1)) 0) (.br (A.bG c.2.2.1 (A.l m.2.2.2.2.2.2.2)) (.ret (A.bU c.2.2.2.1 (A.l m.2.2.2.2.2.2.2))) (.ret false)) (.ret false)
theorem ak8:aY Empty.elim (aur af m c) (iG m c):=agj
def Sq:(ax×fq)->Bool:=λ(m,c)=>iG m c
def asM:aK:=.all [bJ,ia] [.bool] Sq
theorem ag8:Sd 183 asM:=fa (bM ap dE sl 37 [] (λA (m,c)=>aur A m c) (kz (fc func183 fz) (sc Mq sz)) λ(m,c) f h=>ak8)
def am0(A:aU)(m:ax)(n:Int):LT Bool Empty:=.br (A.nM n 0) (.ret (A.bG n (A.l m.2.2.2.2.2.2.2))) (.ret false)
def isF(m:ax)(n:Int):Bool:=decide (0<=n/\n<iD m)
theorem is1{n:Int}:aY Empty.elim (am0 af m n) (isF m n):=by
 unfold am0 isF;refine aV (p:=0<=n) rfl (λh=>?_) λh=>?_
 ·exact aO (by rw[fE,dV,aN];simp_all) (.ret _)
 ·exact aO (gj (by omega)).symm (.ret _)
def JL:(ax×Int)->Bool:=λ(m,c)=>isF m c
def ath:aK:=.all [bJ,yI] [.bool] JL
theorem aa_:Sd 312 ath:=fa (bM ap dE sl 24 [] (λA (m,n)=>am0 A m n) (kz (fc func312 fz) sz) λ(m,n) c h=>is1)
def amY(A:aU)(m:ax)(c:fq):LT Int Empty:=.br (A.cu (A.k j_ m) 0) (.ret (A.k j_ m)) (.br (A.cu (A.k xw (c,m.1)) 0) (.ret 40) (.br (A.not (A.k JL (m,c.2.2.1))) (.ret 40) (.br (A.ji c.2.2.2.1 (A.l m.2.2.2.2.2.2.2)) (.ret 40) (.ret 0))))
theorem anJ:aY Empty.elim (amY af m c) (nK m c):=by
 unfold amY nK;rw[show af.k j_ m=lM m from rfl,lM];cases hm:dC m
 ·exact(ak rfl).2 (.ret _)
 refine(ai rfl).2 (?_);by_cases h:qZ (c,m.1)=0
 ·have g:=(w6 h).2.2.2.1.1
  rw[iG,dn h];refine(ai (IJ h)).2 (?_);rw[show af.k JL (m,c.2.2.1)=decide (0<=c.2.2.1/\c.2.2.1<iD m) from rfl];by_cases f:c.2.2.1<iD m
  ·rw[dn (show 0<=c.2.2.1/\c.2.2.1<iD m from⟨g,f⟩),dn f]
   refine(ai rfl).2 (aV (p:=iD m<c.2.2.2.1) rfl (λi=>?_) λi=>?_)
   ·exact aO (by grind) (.ret _)
   ·exact aO (by simp_all) (.ret _)
  ·rw[gj (show ¬(0<=c.2.2.1/\c.2.2.1<iD m) from λh=>f h.2),gj f]
   exact(ak rfl).2 (.ret _)
 ·rw[iG,gj h]
  exact(ak (w_ h)).2 (.ret _)
def A_:(ax×fq)->Int:=λ(m,c)=>nK m c
def ate:aK:=.all [bJ,ia] [yI] A_
theorem aa9:Sd 292 ate:=fa (bM ap dE sl 56 [] (λA (m,c)=>amY A m c) (kz (fc func292 fz) (sc Mq (sc Ed (sc aa_ sz)))) λ(m,c) f h=>anJ)
def am1(A:aU)(m:ax)(c:fq)(f:Int):LT Bool Empty:=.br (A.k JL (m,f)) (.br (A.cu f c.2.2.1) (.br (A.bK c.2.2.2.1 0) (.ar (A.and (A.bU 0 c.2.2.1) (A.bG c.2.2.1 (A.l m.2.2.2.2.2.2.2))) (.ar (A.and (A.bU 0 f) (A.bG f (A.l (A.n fC m.2.2.2.2.2.2.2 c.2.2.1:Mode).2.2))) (.ret (A.n .bool (A.n fC m.2.2.2.2.2.2.2 c.2.2.1:Mode).2.2 f:Bool)))) (.ret false)) (.ret false)) (.ret false)
def y7(m:ax)(c:fq)(k:Int):Bool:=decide (0<=k/\k<iD m)&&(decide (¬k=c.2.2.1)&&(decide (c.2.2.2.1=0)&&(af.n .bool (af.n fC m.2.2.2.2.2.2.2 c.2.2.1:Mode).2.2 k:Bool)))
theorem dA:af.cu a b=decide (¬a=b):=by rw[cq,fE];simp
variable{Y:Type}
theorem Zw{R:Type}{step:Y->LT R Y}{k:Int}{e:LT R Y}{r:R}{f:Bool->R}(h:nK m c=0)(i:0<=k/\k<iD m)(q:f (y7 m c k)=r)(j:f false=r->aY step e r):
  aY step (.br (af.cu k c.2.2.1) (.br (af.bK c.2.2.2.1 0) (.ar (af.and (af.bU 0 c.2.2.1) (af.bG c.2.2.1 (af.l m.2.2.2.2.2.2.2))) (.ar (af.and (af.bU 0 k) (af.bG k (af.l (af.n fC m.2.2.2.2.2.2.2 c.2.2.1:Mode).2.2))) (.ret (f (af.n .bool (af.n fC m.2.2.2.2.2.2.2 c.2.2.1:Mode).2.2 k:Bool))))) e) e) r:=by
 obtain⟨o,_,g,_⟩:=yk h;rw[y7,dn i,cY] at q;refine aV (p:=¬k=c.2.2.1) dA (λl=>aV (p:=c.2.2.2.1=0) dq (λn=>au.2 ⟨yy g.1 g.2,au.2 ⟨yy i.1 ?_,?_⟩⟩) λn=>j ?_) λl=>j ?_
 ·exact(vh (Bu o g.1 g.2)).2.2▸i.2
 ·exact aO (by grind) (.ret _)
 all_goals grind
theorem apS{k:Int}(h:nK m c=0):aY Empty.elim (am1 af m c k) (y7 m c k):=by
 unfold am1;by_cases g:0<=k/\k<iD m
 ·exact(ak (dn g)).2 (Zw (f:=id) h g rfl λe=>aO e (.ret _))
 ·exact(ai (gj g)).2 (aO (by rw[y7,gj g];rfl) (.ret _))
def Yu:(ax×fq×Int)->Bool:=λ(m,c,k)=>y7 m c k
def aab:(ax×fq×Int)->Bool:=λ(m,c,_)=>decide (nK m c=0)
def atl:aK:=⟨[bJ,ia,yI], [.bool],aab,Yu,false⟩
theorem ara:Sd 335 atl:=bM ap dE sl 42 [] (λA (m,c,f)=>am1 A m c f) (kz (fc func335 fz) (sc aa_ sz)) λ((m,c,f):ax×fq×Int) g h=>apS (of_decide_eq_true g)
structure Wx where
 (a0:Int) (a2:ax) (a3:fq) (a4:Int) (a5:ax) (a6:fq) (a7:ax) (a8:fq) (a9:Int) (iN:ax) (kV:Int) (a12:fq)
inductive ac_ where
 | c0 (p:Wx) (a1:Int)
noncomputable def ai5:ac_->iB
 | .c0 p a1=>⟨[⟨334,26,(en [(0,.yield 0),(1,.ptr 1 0),(2,.ptr 2 0),(11,vi p.a0),(12,vi a1)]),sk f334 [1,1,0,0],[],none⟩,⟨293,16,(en [(6,.ptr 3 0)]),[.oP 0,.inBlock 0,.code (cw f293 [1,1])],[4],none⟩],[.loop ⟨293,16,(en [(0,.agg (dc bJ p.a2)),(1,.agg (dc ia p.a3)),(2,vi p.a4),(3,.ptr 5 0),(4,.ptr 7 0),(5,.ptr 6 0),(6,.ptr 3 0),(8,.agg (dc bJ p.a5)),(9,.agg (dc ia p.a6)),(10,.fn 334 [] [.ptr 1 0,.ptr 2 0])]),[11],(cw f293 [1,0,1,0,0]),(cw f293 [1,0,1,0,1]),0,none⟩,.ay false (dc bJ p.a7),.ay false (dc ia p.a8),.ay false [vi p.a9],.Ie,.ay false (dc bJ p.iN),.ay false [vi p.kV],.ay false (dc ia p.a12),.a_]⟩
def amZ(A:aU)(m:ax)(c:fq)(f:Int):LT Int ac_:=.br (A.cu (A.k A_ (m,c)) 0) (.ret (-1)) (.ao (.c0 ⟨(A.l m.2.2.2.2.2.2.2),m,c,f,m,c,m,c,0,m,f,c⟩ 0))
def aaD(A:aU):ac_->LT Int ac_
 | .c0 p a1=>.br (A.bG a1 p.a0) (.ar (A.k aab (p.a7,p.a8,a1)) (.br (A.k Yu (p.a7,p.a8,a1)) (.br (A.bK a1 p.kV) (.ret a1) (.ao (.c0 p (A.b .add .i64 a1 1)))) (.ao (.c0 p (A.b .add .i64 a1 1))))) (.ret (-1))
def Rj(m:ax)(c:fq)(k:Int):Int:=bif decide (nK m c=0)&&y7 m c k then k else -1
theorem acn{p:Wx}{k:Int}(f:p.a0=iD m)(o:p.a7=m)(q:p.a8=c)(g:p.kV=k)(h:nK m c=0):∀(j i:Nat),m.2.2.2.2.2.2.2.length-i=j->i<=m.2.2.2.2.2.2.2.length->aY (aaD af) (.ao (.c0 p (i:Int))) (bif decide ((i:Int)<=k)&&y7 m c k then k else -1):=by
 have z:=(iJ (yk h).1).2.1;unfold iD at z f;intro j
 induction j with
 | zero=>
   intro i v u;rw[aA,aaD,f];refine(ai (by rw[aN];grind)).2 (aO ?_ (.ret _));by_cases l:(i:Int)<=k
   ·rw[y7,gj (show ¬(0<=k/\k<iD m) by unfold iD;omega),gk,dD];rfl
   grind
 | succ j ih=>
   intro i v u;rw[aA,aaD,f,o,q,g];refine(ak (by rw[aN];grind)).2 (au.2 ⟨by rw[bo];exact dn h,?_⟩);rw[show af.k Yu (m,c,(i:Int))=y7 m c i from rfl,h_ (i:=i) (by omega)];have n:=ih (i+1) (by omega) (by omega);cases hm:y7 m c i
   ·refine(ai rfl).2 (aO ?_ n)
    grind
   ·refine(ak rfl).2 (aV (p:=(i:Int)=k) dq (λl=>?_) λl=>?_)
    ·exact aO (by rw[<-l,hm,dn (al _)];rfl) (.ret _)
    ·exact aO (by rw[show decide (((i+1:Nat):Int)<=k)=decide ((i:Int)<=k) by rw[fE];simp;omega]) n
theorem axu{k:Int}:aY (aaD af) (amZ af m c k) (Rj m c k):=by
 unfold amZ Rj;rw[show af.k A_ (m,c)=nK m c from rfl];by_cases h:nK m c=0
 ·rw[dn h]
  refine(ai (IJ h)).2 (aO ?_ (acn (p:=⟨iD m,m,c,k,m,c,m,c,0,m,k,c⟩) (k:=k) rfl rfl rfl rfl h m.2.2.2.2.2.2.2.length 0 rfl (by omega)));by_cases f:0<=k
  ·simp_all
  ·rw[y7,gj (show ¬(0<=k/\k<iD m) by omega),gk,dD,dD]
 ·rw[gj h]
  exact(ak (w_ h)).2 (.ret _)
def JK:(ax×fq×Int)->Int:=λ(m,c,k)=>Rj m c k
def atf:aK:=.all [bJ,ia,yI] [yI] JK
theorem ahf:Sd 293 atf:=fa (bp ap dE sl 53 [⟨334,2, [[0,1,2,11,12], [6]]⟩] [] (λA (m,c,f)=>amZ A m c f) aaD ai5 (kz (fc func293 (fc func324 (fc func334 fz))) (sc aa9 (sc ara sz))) (λA y=>match y with |.c0 p a1=>⟨55,sl,by kernel_rfl⟩) λ(m,c,f) g h=>axu)
def amU(A:aU)(m:ax)(c:fq)(f:Int):LT (Int×Int) Empty:=.br (A.cu (A.k A_ (m,c)) 0) (.ret (0,(A.k A_ (m,c)))) (.br (A.cu f (-1)) (.br (A.not (A.k JL (m,f))) (.ret (0,100)) (.br (A.bG f 0) (.ret (0,0)) (.ret ((A.b .add .i64 (A.k JK (m,c,f)) 1),0)))) (.br (A.bG f 0) (.ret (0,0)) (.ret ((A.b .add .i64 (A.k JK (m,c,f)) 1),0))))
def Fb(m:ax)(c:fq)(w:Int):Int×Int:=bif decide (nK m c=0) then(bif decide (-1<=w/\w<iD m) then(bif y7 m c w then(w+1,0) else(0,0)) else(0,100)) else(0,nK m c)
theorem anI{w:Int}:aY Empty.elim (amU af m c w) (Fb m c w):=by
 unfold amU Fb;rw[show af.k A_ (m,c)=nK m c from rfl,show af.k JL (m,w)=decide (0<=w/\w<iD m) from rfl,show af.k JK (m,c,w)=Rj m c w from rfl];by_cases h:nK m c=0
 ·have i:=(iJ (yk h).1).2.1
  rw[dn h];refine(ai (IJ h)).2 (aV (p:=¬w = -1) dA (λg=>?_) λg=>?_)
  ·by_cases f:0<=w/\w<iD m
   ·rw[dn f,dn (show -1<=w/\w<iD m by omega)]
    refine(ai rfl).2 ((ai (by rw[aN];simp_all)).2 (aO ?_ (.ret _)));rw[Rj,dn h];cases y7 m c w
    ·rfl
    ·rw[cY,cond_true,cond_true,cond_true,cond_true,gp,lg (by omega) (by omega)]
   ·rw[gj f,gj (show ¬(-1<=w/\w<iD m) by omega)]
    exact(ak rfl).2 (.ret _)
  ·have f:w = -1:=by omega
   subst f;exact(ak rfl).2 (.ret _)
 ·rw[gj h]
  exact(ak (w_ h)).2 (.ret _)
def NF:(ax×fq×Int)->(Int×Int):=λ(m,c,k)=>Fb m c k
def ata:aK:=.all [bJ,ia,yI] [yI,yI] NF
theorem aq5:Sd 270 ata:=fa (bM ap dE sl 60 [] (λA (m,c,f)=>amU A m c f) (kz (fc func270 fz) (sc aa9 (sc ahf (sc aa_ sz)))) λ(m,c,f) g h=>anI)
def amR(A:aU)(m:ax)(c:fq)(f:Int):LT (fq×Int) Empty:=.br (A.cu (A.k A_ (m,c)) 0) (.ret ((0,0,0,0,0),(A.k A_ (m,c)))) (.br (A.bG f 0) (.ret ((0,0,0,0,0),100)) (.br (A.ji f (A.l m.2.2.2.2.2.2.2)) (.ret ((0,0,0,0,0),100)) (.br (A.ji f 0) (.br (A.nM (A.k JK (m,c,(A.b .sub .i64 f 1))) 0) (.ret ((c.1,c.2.1,c.2.2.1,f,c.2.2.2.2),0)) (.ret (c,0))) (.ret (c,0)))))
def EB(m:ax)(c:fq)(r:Int):fq×Int:=bif decide (nK m c=0) then(bif decide (0<=r/\r<=iD m) then(bif decide (0<r)&&y7 m c (r-1) then((c.1,c.2.1,c.2.2.1,r,c.2.2.2.2),0) else(c,0)) else((0,0,0,0,0),100)) else((0,0,0,0,0),nK m c)
theorem aw1{r:Int}:aY Empty.elim (amR af m c r) (EB m c r):=by
 unfold amR EB;rw[show af.k A_ (m,c)=nK m c from rfl,show af.k JK (m,c,(af.b .sub .i64 r 1))=Rj m c (af.b .sub .i64 r 1) from rfl];by_cases h:nK m c=0
 ·have j:=(iJ (yk h).1).2.1
  refine(ai (IJ h)).2 (aV (p:=r<0) rfl (λg=>?_) λg=>aV (p:=iD m<r) rfl (λi=>?_) λi=>?_)
  ·exact aO (by grind) (.ret _)
  ·exact aO (by grind) (.ret _)
  ·rw[dn (show 0<=r/\r<=iD m by omega),fO,lg (by omega) (by omega)]
   refine aV (p:=0<r) rfl (λf=>?_) λf=>?_
   ·rw[dn f,Rj,dn h,cY]
    cases hm:y7 m c (r-1)
    ·exact(ai rfl).2 (.ret _)
    ·exact(ak (by rw[cond_true,gq];grind)).2 (.ret _)
   ·exact aO (by grind) (.ret _)
 ·rw[gj h]
  exact(ak (w_ h)).2 (.ret _)
def A9:(ax×fq×Int)->(fq×Int):=λ(m,c,k)=>EB m c k
def as6:aK:=.all [bJ,ia,yI] [ia,yI] A9
theorem aa7:Sd 241 as6:=fa (bM ap dE sl 69 [] (λA (m,c,f)=>amR A m c f) (kz (fc func241 fz) (sc aa9 (sc ahf sz))) λ(m,c,f) g h=>aw1)
def amW(A:aU)(m:ax)(node:Int):LT Int Empty:=.br (A.cu (A.k j_ m) 0) (.ret (A.k j_ m)) (.br (A.not (A.k kI (node,0,(A.b .sub .i64 m.1 1)))) (.ret 2) (.ret 0))
theorem yx{l:List α}{n:Int}(e:(l.length:Int)=n)(c:0<=i)(f:i<n):af.and (af.bU 0 i) (af.bG i (af.l l))=true:=yy c (e▸f)
def mZ(m:ax)(n:Int):Int:=bif dC m then(bif decide (0<=n/\n<=m.1-1) then 0 else 2) else 70
theorem J6{n:Int}(h:mZ m n=0):dC m=true/\0<=n/\n<=m.1-1:=by
 unfold mZ at h
 grind
theorem ala{n:Int}:aY Empty.elim (amW af m n) (mZ m n):=by
 unfold amW mZ;rw[show af.k j_ m=lM m from rfl,lM];cases hm:dC m
 ·exact(ak rfl).2 (.ret _)
 have c:=(iJ hm).1;rw[fO,lg (by omega) (by omega)];refine(ai rfl).2 (jd (λh=>?_) λh=>?_)
 ·exact aO (by grind) (.ret _)
 ·exact aO (by simp_all) (.ret _)
def NG:(ax×Int)->Int:=λ(m,n)=>mZ m n
def atc:aK:=.all [bJ,yI] [yI] NG
theorem ahe:Sd 291 atc:=fa (bM ap dE sl 41 [] (λA (m,node)=>amW A m node) (kz (fc func291 fz) (sc Ed (sc OJ sz))) λ(m,node) c h=>ala)
def amP(A:aU)(m:ax)(n:Int):LT Int Empty:=.br (A.cu (A.k zk m) 0) (.ret (A.k zk m)) (.br (A.bG n 0) (.ret 2) (.br (A.nM n m.1) (.ret 2) (.ret 0)))
theorem ajR{n:Int}:aY Empty.elim (amP af m n) (mZ m n):=by
 unfold amP mZ;rw[show af.k zk m=lM m from rfl,lM];cases hm:dC m
 ·exact(ak rfl).2 (.ret _)
 refine(ai rfl).2 (aV (p:=n<0) rfl (λh=>?_) λc=>aV (p:=m.1<=n) rfl (λh=>?_) λf=>?_)
 ·exact aO (by grind) (.ret _)
 ·exact aO (by grind) (.ret _)
 ·exact aO (by grind) (.ret _)
def Yq:(ax×Int)->Int:=λ(m,n)=>mZ m n
def as4:aK:=.all [bJ,yI] [yI] Yq
theorem aq3:Sd 89 as4:=fa (bM ap dE sl 43 [] (λA (m,n)=>amP A m n) (kz (fc func89 fz) (sc aa6 sz)) λ(m,n) c h=>ajR)
def amN(A:aU)(m:ax)(node:Int):LT (Int×Int) Empty:=.br (A.cu (A.k NG (m,node)) 0) (.ret (0,(A.k NG (m,node)))) (.ret ((A.b .mul .i64 2 (A.b .add .i64 node 1)),0))
def I_(m:ax)(n:Int):Int×Int:=bif decide (mZ m n=0) then((af.b .mul .i64 2 (af.b .add .i64 n 1)),0) else(0,mZ m n)
theorem ap0{n:Int}:aY Empty.elim (amN af m n) (I_ m n):=by
 unfold amN I_;refine aV (p:=¬mZ m n=0) dA (λh=>?_) λh=>?_
 ·exact aO (by rw[gj h];rfl) (.ret _)
 ·exact aO (by simp_all) (.ret _)
def JJ:(ax×Int)->(Int×Int):=λ(m,n)=>I_ m n
def as0:aK:=.all [bJ,yI] [yI,yI] JJ
theorem aha:Sd 239 as0:=fa (bM ap dE sl 35 [] (λA (m,node)=>amN A m node) (kz (fc func239 fz) (sc ahe sz)) λ(m,node) c h=>ap0)
def amx(A:aU)(m:ax)(n:Int):LT (Int×Int) Empty:=.br (A.cu (A.k Yq (m,n)) 0) (.ret (0,(A.k Yq (m,n)))) (.ret ((A.b .add .i64 (A.b .mul .i64 4 m.1) (A.b .mul .i64 2 (A.b .add .i64 n 1))),0))
def ta(m:ax)(n:Int):Int×Int:=bif decide (mZ m n=0) then((af.b .add .i64 (af.b .mul .i64 4 m.1) (af.b .mul .i64 2 (af.b .add .i64 n 1))),0) else(0,mZ m n)
theorem an3{n:Int}:aY Empty.elim (amx af m n) (ta m n):=by
 unfold amx ta;refine aV (p:=¬mZ m n=0) dA (λh=>?_) λh=>?_
 ·exact aO (by rw[gj h];rfl) (.ret _)
 ·exact aO (by simp_all) (.ret _)
def Yl:(ax×Int)->(Int×Int):=λ(m,n)=>ta m n
def asH:aK:=.all [bJ,yI] [yI,yI] Yl
theorem aqM:Sd 56 asH:=fa (bM ap dE sl 39 [] (λA (m,n)=>amx A m n) (kz (fc func56 fz) (sc aq3 sz)) λ(m,n) c h=>an3)
def amH(A:aU)(m:ax)(node:Int):LT (Int×Int) Empty:=.br (A.cu (A.k JJ (m,node)).2 0) (.ret (0,(A.k JJ (m,node)).2)) (.ret ((A.b .add .i64 (A.b .mul .i64 4 m.1) (A.k JJ (m,node)).1),0))
theorem apQ{n:Int}:aY Empty.elim (amH af m n) (ta m n):=by
 unfold amH ta;rw[show af.k JJ (m,n)=I_ m n from rfl,I_];by_cases h:mZ m n=0
 ·rw[dn h];exact(ai rfl).2 (.ret _)
 ·rw[gj h];exact(ak (w_ h)).2 (.ret _)
def agq:(ax×Int)->(Int×Int):=λ(m,n)=>ta m n
def asT:aK:=.all [bJ,yI] [yI,yI] agq
theorem aqV:Sd 191 asT:=fa (bM ap dE sl 41 [] (λA (m,node)=>amH A m node) (kz (fc func191 fz) (sc aha sz)) λ(m,node) c h=>apQ)
def amT(A:aU)(m:ax)(c:Int)(node:Int):LT (Int×Int) Empty:=.br (A.cu (A.k NG (m,node)) 0) (.ret (0,(A.k NG (m,node)))) (.br (A.not (A.k kI (c,0,(A.b .sub .i64 (A.l m.2.2.2.2.2.2.2) 1)))) (.ret (0,2)) (.ar (A.and (A.bU 0 c) (A.bG c (A.l m.2.2.2.2.2.2.2))) (.ar (A.and (A.bU 0 node) (A.bG node (A.l (A.n fC m.2.2.2.2.2.2.2 c:Mode).2.1))) (.ar (A.and (A.bU 0 node) (A.bG node (A.l (A.n fC m.2.2.2.2.2.2.2 c:Mode).1))) (.ret ((A.k sQ ((A.n .bool (A.n fC m.2.2.2.2.2.2.2 c:Mode).2.1 node:Bool),(A.n yI (A.n fC m.2.2.2.2.2.2.2 c:Mode).1 node:Int))),0))))))
def kW(m:ax)(k n:Int):Int×Int:=bif decide (mZ m n=0) then(bif decide (0<=k/\k<=iD m-1) then(sQ ((af.n .bool (af.n fC m.2.2.2.2.2.2.2 k:Mode).2.1 n:Bool),(af.n (.int .i64) (af.n fC m.2.2.2.2.2.2.2 k:Mode).1 n:Int)),0) else(0,2)) else(0,mZ m n)
theorem ak9{k n:Int}:aY Empty.elim (amT af m k n) (kW m k n):=by
 unfold amT kW;by_cases h:mZ m n=0
 ·obtain⟨g,f,j⟩:=J6 h
  have l:=(iJ g).2.1;rw[dn h];have e:af.b .sub .i64 (iD m) 1=iD m-1:=by rw[fO,lg (by omega) (by omega)]
  rw[show af.b .sub .i64 (af.l m.2.2.2.2.2.2.2) 1=iD m-1 from e];refine(ai (IJ h)).2 (jd (λc=>?_) λc=>?_)
  ·exact aO (by grind) (.ret _)
  ·have i:=vh (Bu g c.1 (show k<iD m by omega))
   refine au.2 ⟨yy c.1 (show k<iD m by omega),au.2 ⟨yx i.2.1 f (by omega),au.2 ⟨yx i.1 f (by omega),?_⟩⟩⟩;exact aO (by rw[dn c];rfl) (.ret _)
 ·rw[gj h];exact(ak (w_ h)).2 (.ret _)
def zl:(ax×Int×Int)->(Int×Int):=λ(m,c,k)=>kW m c k
def as_:aK:=.all [bJ,yI,yI] [yI,yI] zl
theorem ahd:Sd 242 as_:=fa (bM ap dE sl 66 [] (λA (m,c,node)=>amT A m c node) (kz (fc func242 fz) (sc OJ (sc ag5 (sc ahe sz)))) λ(m,c,node) f h=>ak9)
def amL(A:aU)(c:fq)(n:Int):LT (fq×Int) Empty:=.br (A.cu (A.k xw (c,n)) 0) (.ret ((0,0,0,0,0),(A.k xw (c,n)))) (.br (A.bK (A.b .add .i64 c.2.1 1) n) (.br (A.cu c.2.2.2.1 0) (.ret (((A.b .and .i64 (A.b .add .i64 c.1 1) 255),0,(A.b .sub .i64 c.2.2.2.1 1),0,c.2.2.2.2),0)) (.ret (((A.b .and .i64 (A.b .add .i64 c.1 1) 255),0,c.2.2),0))) (.ret ((c.1,(A.b .add .i64 c.2.1 1),c.2.2),0)))
theorem aiw:∀k:Fin 256,af.b .and .i64 ((k.val:Int)+1) 255=((k.val:Int)+1).tmod 256:=by decide +kernel
def qc(c:fq)(n:Int):fq×Int:=bif decide (qZ (c,n)=0) then(bif decide (c.2.1+1=n) then(bif decide (c.2.2.2.1=0) then(((c.1+1).tmod 256,0,c.2.2),0) else(((c.1+1).tmod 256,0,c.2.2.2.1-1,0,c.2.2.2.2),0)) else((c.1,c.2.1+1,c.2.2),0)) else((0,0,0,0,0),qZ (c,n))
theorem ale{n:Int}:aY Empty.elim (amL af c n) (qc c n):=by
 unfold amL qc;by_cases h:qZ (c,n)=0
 ·obtain⟨m,o,q,u,v,z⟩:=w6 h
  have f:af.b .add .i64 c.1 1=c.1+1:=by rw[gp,lg (by omega) (by omega)]
  have i:af.b .add .i64 c.2.1 1=c.2.1+1:=by rw[gp,lg (by omega) (by omega)]
  have j:af.b .sub .i64 c.2.2.2.1 1=c.2.2.2.1-1:=by rw[fO,lg (by omega) (by omega)]
  have l:af.b .and .i64 (c.1+1) 255=(c.1+1).tmod 256:=by
   have:=aiw ⟨c.1.toNat,by omega⟩
   grind
  rw[dn h,f,i,j,l];refine(ai (IJ h)).2 (aV (p:=c.2.1+1=n) dq (λh=>aV (p:=¬c.2.2.2.1=0) dA (λg=>?_) λg=>?_) λh=>?_)
  ·exact aO (by simp_all) (.ret _)
  ·exact aO (by simp_all) (.ret _)
  ·exact aO (by simp_all) (.ret _)
 ·rw[gj h];exact(ak (w_ h)).2 (.ret _)
def agr:(fq×Int)->(fq×Int):=λ(m,c)=>qc m c
def asY:aK:=.all [ia,yI] [ia,yI] agr
theorem aqZ:Sd 150 asY:=fa (bM ap dE sl 80 [] (λA (c,n)=>amL A c n) (kz (fc func150 fz) (sc Mq sz)) λ(c,n) f h=>ale)
def amX(A:aU)(node:Int):LT Int Empty:=.br (A.bG node 0) (.ret 0) (.br (A.nM node 8) (.ret 0) (.ar (A.bU 0 node) (.ret (A.b .shl .i64 1 node))))
def Xi(n:Int):Int:=bif decide (0<=n/\n<=7) then af.b .shl .i64 1 n else 0
theorem avA{n:Int}:aY Empty.elim (amX af n) (Xi n):=by
 unfold amX Xi;refine aV (p:=n<0) rfl (λh=>?_) λc=>aV (p:=8<=n) rfl (λh=>?_) λf=>au.2 ⟨dn (by omega),?_⟩
 ·exact aO (by grind) (.ret _)
 ·exact aO (by grind) (.ret _)
 ·exact aO (by grind) (.ret _)
def Ys:Int->Int:=Xi
def atd:aK:=.all [yI] [yI] Ys
theorem aq7:Sd 197 atd:=fa (bM ap dE sl 28 [] (λA node=>amX A node) (kz (fc func197 fz) sz) λnode c h=>avA)
def amO(A:aU)(c:fq)(node:Int):LT Bool Empty:=.ret (A.cu (A.b .and .i64 c.2.2.2.2 (A.k Ys node)) 0)
theorem avx:af.b .and .i64 x 0=0:=by
 show IntKind.i64.wrap (((BitVec.ofInt 64 x &&& BitVec.ofInt 64 0).toNat:Nat):Int)=0;rw[show BitVec.ofInt 64 0=0#64 from rfl,BitVec.and_zero];rfl
def UP(c:fq)(n:Int):Bool:=bif decide (0<=n/\n<=7) then af.cu (af.b .and .i64 c.2.2.2.2 (af.b .shl .i64 1 n)) 0 else false
theorem apN{n:Int}:aY Empty.elim (amO af c n) (UP c n):=by
 unfold amO UP;refine aO ?_ (.ret _);rw[show af.k Ys n=Xi n from rfl,Xi];cases decide (0<=n/\n<=7)
 ·rw[cond_false,cond_false,avx];rfl
 ·rfl
def Sy:(fq×Int)->Bool:=λ(m,c)=>UP m c
def as3:aK:=.all [ia,yI] [.bool] Sy
theorem ahb:Sd 145 as3:=fa (bM ap dE sl 21 [] (λA (c,node)=>amO A c node) (kz (fc func145 fz) (sc aq7 sz)) λ(c,node) f h=>apN)
def aup(A:aU)(m:ax)(id:Int):LT Int Empty:=.ret (A.k agq (m,id)).1
def DR:(ax×Int)->Int:=λ(m,id)=>(aup af m id).val (Ty.aS [yI])
def asF:aK:=.all [bJ,yI] [yI] DR
theorem OM:Sd 140 asF:=fa (aR ap dE sl 27 [] (λA (m,id)=>aup A m id) (kz (fc func140 fz) (sc aqV sz)))
def aus(A:aU)(m:ax)(id:Int):LT Int Empty:=.ret (A.k JJ (m,id)).1
def Yo:(ax×Int)->Int:=λ(m,id)=>(aus af m id).val (Ty.aS [yI])
def asW:aK:=.all [bJ,yI] [yI] Yo
theorem aqX:Sd 222 asW:=fa (aR ap dE sl 27 [] (λA (m,id)=>aus A m id) (kz (fc func222 fz) (sc aha sz)))
def auq(A:aU)(n:Int)(c:Int)(f:Int):LT Bool Empty:=.br (A.nM n c) (.ret (A.bU n f)) (.ret false)
def A8:(Int×Int×Int)->Bool:=λ(n,c,f)=>(auq af n c f).val (Ty.aS [.bool])
def asK:aK:=.all [yI,yI,yI] [.bool] A8
theorem T3:Sd 79 asK:=fa (aR ap dE sl 22 [] (λA (n,c,f)=>auq A n c f) (kz (fc func79 fz) sz))
def amk(A:aU)(n:Node):LT Bool Empty:=.ret (A.k A8 (n.2.1,2,4))
theorem SZ:A8=kI:=rfl
def kh(n:Node):Bool:=decide (2<=n.2.1/\n.2.1<=4)
variable{n:Node}
theorem av3:aY Empty.elim (amk af n) (kh n):=by
 unfold amk kh;exact aO (by rw[SZ,bo,sF,fE];simp) (.ret _)
def lY:Node->Bool:=kh
def ast:aK:=.all [eT] [.bool] lY
theorem BS:Sd 96 ast:=fa (bM ap dE sl 18 [] (λA n=>amk A n) (kz (fc func96 fz) (sc T3 sz)) λn c h=>av3)
def aml(A:aU)(n:Node):LT Bool Empty:=.br (A.nM n.2.1 2) (.ret (A.bU n.2.1 4)) (.ret false)
theorem avH:aY Empty.elim (aml af n) (kh n):=by
 unfold aml kh;refine aV (p:=2<=n.2.1) rfl (λh=>?_) λh=>?_
 ·exact aO (by rw[aB,fE];simp_all) (.ret _)
 ·exact aO (gj (by omega)).symm (.ret _)
def Yi:Node->Bool:=kh
def asu:aK:=.all [eT] [.bool] Yi
theorem aqC:Sd 83 asu:=fa (bM ap dE sl 23 [] (λA n=>aml A n) (kz (fc func83 fz) sz) λn c h=>avH)
def amC(A:aU)(m:ax)(n:Node):LT Bool Empty:=.br (A.not (A.k Yi n)) (.br (A.and (A.bK n.2.2.1.1 0) (A.and (A.bK n.2.2.1.2.1 0) (A.and (A.bK n.2.2.1.2.2.1 0) (A.and (A.bK n.2.2.1.2.2.2.1 0) (A.and (A.bK n.2.2.1.2.2.2.2 0) true))))) (.ret (A.and (A.bK n.2.2.2.1.1 0) (A.and (A.bK n.2.2.2.1.2.1 0) (A.and (A.bK n.2.2.2.1.2.2.1 0) (A.and (A.bK n.2.2.2.1.2.2.2.1 0) (A.and (A.bK n.2.2.2.1.2.2.2.2.1 0) (A.and (A.bK n.2.2.2.1.2.2.2.2.2.1 0) (A.and (A.bK n.2.2.2.1.2.2.2.2.2.2 0) true)))))))) (.ret false)) (.br (A.k Ym (m,n.2.2.1)) (.br (A.bK (A.k tG n.2.2.2.1) 0) (.br (A.bK n.2.2.2.1.1 n.1) (.br (A.bK n.2.2.2.1.2.1 m.1) (.ret (A.bK n.2.2.1.2.2.2.2 n.2.2.2.1.2.2.1)) (.ret false)) (.ret false)) (.ret false)) (.ret false))
def O3(c:fq):Bool:=af.and (af.bK c.1 0) (af.and (af.bK c.2.1 0) (af.and (af.bK c.2.2.1 0) (af.and (af.bK c.2.2.2.1 0) (af.and (af.bK c.2.2.2.2 0) true))))
def zeroV(v:vq):Bool:=af.and (af.bK v.1 0) (af.and (af.bK v.2.1 0) (af.and (af.bK v.2.2.1 0) (af.and (af.bK v.2.2.2.1 0) (af.and (af.bK v.2.2.2.2.1 0) (af.and (af.bK v.2.2.2.2.2.1 0) (af.and (af.bK v.2.2.2.2.2.2 0) true))))))
def vy(m:ax)(n:Node):Bool:=bif kh n then(iG m n.2.2.1&&(decide (tG n.2.2.2.1=0)&&(decide (n.2.2.2.1.1=n.1)&&(decide (n.2.2.2.1.2.1=m.1)&&decide (n.2.2.1.2.2.2.2=n.2.2.2.1.2.2.1))))) else(O3 n.2.2.1&&zeroV n.2.2.2.1)
theorem avE:aY Empty.elim (amC af m n) (vy m n):=by
 unfold amC vy;rw[show af.k Yi n=kh n from rfl];cases kh n
 ·refine(ak rfl).2 ?_
  cases hz:O3 n.2.2.1
  ·exact(ai hz).2 (.ret _)
  ·exact(ak hz).2 (.ret _)
 ·refine(ai rfl).2 (?_)
  rw[show af.k Ym (m,n.2.2.1)=iG m n.2.2.1 from rfl,cond_true];cases iG m n.2.2.1
  ·exact(ai rfl).2 (.ret _)
  ·refine(ak rfl).2 (aV (p:=tG n.2.2.2.1=0) dq (λc=>aV (p:=n.2.2.2.1.1=n.1) dq (λf=>aV (p:=n.2.2.2.1.2.1=m.1) dq (λg=>?_) λh=>?_) λh=>?_) λh=>?_)
   ·exact aO (by rw[dn c,dn f,dn g,dq];rfl) (.ret _)
   ·exact aO (by simp_all) (.ret _)
   ·exact aO (by simp_all) (.ret _)
   ·exact aO (by simp_all) (.ret _)
def ago:(ax×Node)->Bool:=λ(m,n)=>vy m n
def asO:aK:=.all [bJ,eT] [.bool] ago
theorem aqR:Sd 48 asO:=fa (bM ap dE sl 60 [] (λA (m,n)=>amC A m n) (kz (fc func48 fz) (sc awk (sc aqC (sc aqN sz)))) λ(m,n) c h=>avE)
def amD(A:aU)(m:ax)(n:Node):LT Bool Empty:=.br (A.cu n.2.1 1) (.ret (A.bK n.2.2.2.2.1 0)) (.br (A.nM n.2.2.2.2.1 1) (.ret (A.bU n.2.2.2.2.1 (A.k Yl (m,n.1)).1)) (.ret false))
def xW(m:ax)(n:Node):Bool:=bif decide (n.2.1=1) then decide (1<=n.2.2.2.2.1/\n.2.2.2.2.1<=(ta m n.1).1) else decide (n.2.2.2.2.1=0)
theorem axt:aY Empty.elim (amD af m n) (xW m n):=by
 unfold amD xW;refine aV (p:=¬n.2.1=1) dA (λh=>?_) λh=>?_
 ·exact aO (by rw[gj h,dq];rfl) (.ret _)
 ·rw[dn (show n.2.1=1 by omega),show af.k Yl (m,n.1)=ta m n.1 from rfl,cond_true]
  refine aV (p:=1<=n.2.2.2.2.1) rfl (λc=>?_) λc=>?_
  ·exact aO (by rw[aB,fE];simp_all) (.ret _)
  ·exact aO (gj (by omega)).symm (.ret _)
def agp:(ax×Node)->Bool:=λ(m,n)=>xW m n
def asP:aK:=.all [bJ,eT] [.bool] agp
theorem aqS:Sd 49 asP:=fa (bM ap dE sl 46 [] (λA (m,n)=>amD A m n) (kz (fc func49 fz) (sc aqM sz)) λ(m,n) c h=>axt)
abbrev abx(A:aU)(m:ax)(n:Node):LT Int Empty:=(.br (A.not (A.k ago (m,n))) (.ret 180) (.br (A.not (A.k agp (m,n))) (.ret 180) (.br n.2.2.2.2.2.1 (.br (A.cu n.2.1 1) (.br (A.cu n.2.1 2) (.ret 180) (.ret 0)) (.ret 0)) (.ret 0))))
def amj(A:aU)(m:ax)(n:Node):LT Int Empty:=.br (A.cu (A.k zk m) 0) (.ret (A.k zk m)) (.br (A.bG n.1 0) (.ret 180) (.br (A.nM n.1 m.1) (.ret 180) (.br (A.bG n.2.1 0) (.ret 180) (.br (A.ji n.2.1 5) (.ret 180) (.br (A.bG n.2.2.2.2.2.2.1 0) (.ret 180) (.br (A.ji n.2.2.2.2.2.2.1 2) (.ret 180) (.br (A.cu (A.k agn n.2.2.2.2.2.2.2) 0) (.ret 180) (.br (A.cu n.2.2.2.2.2.2.2.1 n.1) (.ret 180) (.br (A.cu (A.l n.2.2.2.2.2.2.2.2.2.1) m.1) (.ret 180) (.br (A.bK n.2.1 2) (.ar (A.and (A.bU 0 n.1) (A.bG n.1 (A.l m.2.2.2.2.2.2.1))) (.br (A.not (A.n .bool m.2.2.2.2.2.2.1 n.1:Bool)) (.ret 180) (abx A m n))) (abx A m n)))))))))))
def KQ(m:ax)(n:Node):Bool:=bif decide (n.2.1=2) then(af.n .bool m.2.2.2.2.2.2.1 n.1:Bool) else true
def Eo(n:Node):Bool:=bif n.2.2.2.2.2.1 then decide (n.2.1=1\/n.2.1=2) else true
def Qf(m:ax)(n:Node):Bool:=decide (0<=n.1/\n.1<=m.1-1)&&(decide (0<=n.2.1/\n.2.1<=5)&&(decide (0<=n.2.2.2.2.2.2.1/\n.2.2.2.2.2.2.1<=2)&&(gv n.2.2.2.2.2.2.2&&(decide (n.2.2.2.2.2.2.2.1=n.1)&&(decide ((n.2.2.2.2.2.2.2.2.2.1.length:Int)=m.1)&&(KQ m n&&(vy m n&&(xW m n&&Eo n))))))))
def cZ(m:ax)(n:Node):Int:=bif dC m then(bif Qf m n then 0 else 180) else 70
theorem fD{m:ax}{n:Node}:Qf m n=true↔(0<=n.1/\n.1<=m.1-1)/\(0<=n.2.1/\n.2.1<=5)/\(0<=n.2.2.2.2.2.2.1/\n.2.2.2.2.2.2.1<=2)/\gv n.2.2.2.2.2.2.2=true/\n.2.2.2.2.2.2.2.1=n.1/\(n.2.2.2.2.2.2.2.2.2.1.length:Int)=m.1/\KQ m n=true/\vy m n=true/\xW m n=true/\Eo n=true:=by
 unfold Qf;simp_all
theorem dh(h:cZ m n=0):dC m=true/\Qf m n=true:=by
 unfold cZ at h
 grind
section
variable {R Y:Type} {step:Y->LT R Y} {e:LT R Y} {x y:R} {G:Bool}
theorem mI[Decidable p]{b:Bool}(c:b=decide p)(h:G=true->¬p)(f:¬p->aY step e (bif G then x else y)):aY step (.br b (.ret y) e) (bif G then x else y):=by
 refine aV c (λg=>?_) f;cases G
 ·exact .ret _
 simp_all
theorem yH{b:Bool}(h:G=true->b=true)(c:b=true->aY step e (bif G then x else y)):aY step (.br (af.not b) (.ret y) e) (bif G then x else y):=by
 cases b
 ·cases G
  ·exact(ak rfl).2 (.ret _)
  simp_all
 ·exact(ai rfl).2 (c rfl)
theorem ER{u:Int}(h:G=true->a<=u/\u<=b)(c:a<=u/\u<=b->aY step e (bif G then x else y)):aY step (.br (af.not (af.k kI (u,a,b))) (.ret y) e) (bif G then x else y):=by
 refine jd (λf=>?_) c;cases G
 ·exact .ret _
 simp_all
theorem Ma(h:G=true):aY step (.ret x) (bif G then x else y):=aO (by rw[h];rfl) (.ret _)
end
variable{G:Bool}
theorem agh{step:Y->LT Int Y}(f:G=true->Eo n=true)(c:Eo n=true->G=true):aY step (.br n.2.2.2.2.2.1 (.br (af.cu n.2.1 1) (.br (af.cu n.2.1 2) (.ret 180) (.ret 0)) (.ret 0)) (.ret 0)) (bif G then 0 else 180):=by
 unfold Eo at f c;cases hb:n.2.2.2.2.2.1
 ·rw[hb] at f c
  exact(ai rfl).2 (Ma (c rfl))
 ·rw[hb] at f c
  simp at f c;refine(ak rfl).2 (aV (p:=¬n.2.1=1) dA (λh=>mI (p:=¬n.2.1=2) dA (λg=>?_) λg=>?_) λh=>?_)
  ·simp_all
  ·exact Ma (c (by omega))
  ·exact Ma (c (by omega))
theorem Xy{R:Type}{step:Y->LT R Y}{e:LT R Y}{x y:R}(i:dC m=true)(g:0<=n.1/\n.1<=m.1-1)(f:G=true->KQ m n=true)(c:KQ m n=true->aY step e (bif G then x else y)):
  aY step (.br (af.bK n.2.1 2) (.ar (af.and (af.bU 0 n.1) (af.bG n.1 (af.l m.2.2.2.2.2.2.1))) (.br (af.not (af.n .bool m.2.2.2.2.2.2.1 n.1:Bool)) (.ret y) e)) e) (bif G then x else y):=by
 unfold KQ at f c;refine aV (p:=n.2.1=2) dq (λh=>au.2 ⟨yx (iJ i).2.2.1 g.1 (by omega),?_⟩) λh=>?_
 ·rw[dn h] at f c
  exact yH f c
 ·rw[gj h] at c
  grind
theorem ajN:aY Empty.elim (amj af m n) (cZ m n):=by
 unfold amj abx cZ;rw[show af.k zk m=lM m from rfl,lM];cases hm:dC m
 ·exact(ak rfl).2 (.ret _)
 have c:=@fD m n;generalize Qf m n=G at c ⊢;refine(ai rfl).2 (mI (p:=n.1<0) rfl (λg=>by simp_all) λo=>mI (p:=m.1<=n.1) rfl (λg=>by grind) λq=>?_);refine mI (p:=n.2.1<0) rfl (λg=>by simp_all) λu=>mI (p:=5<n.2.1) rfl (λg=>by simp_all) λv=>?_;refine mI (p:=n.2.2.2.2.2.2.1<0) rfl (λg=>by simp_all) λz=>mI (p:=2<n.2.2.2.2.2.2.1) rfl (λg=>by simp_all) λA=>?_;refine mI (p:=¬vA n.2.2.2.2.2.2.2=0) dA (λg=>not_not_intro (ym.2 (c.1 g).2.2.2.1)) λf=>?_;refine mI (p:=¬n.2.2.2.2.2.2.2.1=n.1) dA (λg=>by simp_all) λB=>?_;refine mI (p:=¬(n.2.2.2.2.2.2.2.2.2.1.length:Int)=m.1) dA (λg=>by simp_all) λC=>?_;refine Xy hm (by omega) (λg=>(c.1 g).2.2.2.2.2.2.1) λi=>yH (b:=vy m n) (λg=>(c.1 g).2.2.2.2.2.2.2.1) λj=>yH (b:=xW m n) (λg=>(c.1 g).2.2.2.2.2.2.2.2.1) λl=>?_;exact agh (λg=>(c.1 g).2.2.2.2.2.2.2.2.2) λh=>c.2 ⟨by omega,by omega,by omega,ym.1 (dx.1 f),by omega,by omega,i,j,l,h⟩
def Si:(ax×Node)->Int:=λ(m,n)=>cZ m n
def ass:aK:=.all [bJ,eT] [yI] Si
theorem aqB:Sd 20 ass:=fa (bM ap dE sl 137 [] (λA (m,n)=>amj A m n) (kz (fc func20 fz) (sc aa6 (sc aqQ (sc aqR (sc aqS sz))))) λ(m,n) c h=>ajN)
structure Wm where
 (a0:ax) (a1:Node)
structure ahO where
 (b0:ax) (b1:Node)
structure ahP where
 (c0:Node)
inductive ac0 where
 | c0 (p:Wm)
 | c1 (p:ahO)
 | c2 (p:ahP)
noncomputable def aiS:ac0->iB
 | .c0 p=>⟨[⟨125,160,(en [(2,.ptr 0 0),(3,.ptr 1 0)]),(.code (cw f125 [1,1,1,0,0,0,0,0,0,0,0,0,1,0,0])::sk f125 [1,1,1,0,0,0,0,0,0,0,0,0,1,0,0]),[],none⟩],[.ay false (dc bJ p.a0),.ay false (dc eT p.a1),.a_]⟩
 | .c1 p=>⟨[⟨125,160,(en [(2,.ptr 0 0),(3,.ptr 1 0)]),(.code (cw f125 [1,1,1,0,0,0,0,0,0,0,0,0,1,1,1,0,0])::sk f125 [1,1,1,0,0,0,0,0,0,0,0,0,1,1,1,0,0]),[],none⟩],[.ay false (dc bJ p.b0),.ay false (dc eT p.b1),.a_]⟩
 | .c2 p=>⟨[⟨125,160,(en [(3,.ptr 0 0)]),(.code (cw f125 [1,1,1,0,0,0,0,0,0,0,0,0,1,1,1,1,0])::sk f125 [1,1,1,0,0,0,0,0,0,0,0,0,1,1,1,1,0]),[],none⟩],[.ay false (dc eT p.c0),.a_]⟩
def ami(A:aU)(m:ax)(n:Node):LT Int ac0:=.br (A.cu (A.k j_ m) 0) (.ret (A.k j_ m)) (.br (A.not (A.k A8 (n.1,0,(A.b .sub .i64 m.1 1)))) (.ret 180) (.br (A.not (A.k A8 (n.2.1,0,5))) (.ret 180) (.br (A.not (A.k A8 (n.2.2.2.2.2.2.1,0,2))) (.ret 180) (.br (A.cu (A.k q_ n.2.2.2.2.2.2.2) 0) (.ret 180) (.br (A.cu n.2.2.2.2.2.2.2.1 n.1) (.ret 180) (.br (A.cu (A.l n.2.2.2.2.2.2.2.2.2.1) m.1) (.ret 180) (.br (A.k lY n) (.br (A.not (A.k Sq (m,n.2.2.1))) (.ret 180) (.br (A.cu (A.k rE n.2.2.2.1) 0) (.ret 180) (.br (A.cu n.2.2.2.1.1 n.1) (.ret 180) (.br (A.cu n.2.2.2.1.2.1 m.1) (.ret 180) (.br (A.cu n.2.2.1.2.2.2.2 n.2.2.2.1.2.2.1) (.ret 180) (.ao (.c0 ⟨m,n⟩))))))) (.ao (.c0 ⟨m,n⟩)))))))))
def Mf(A:aU):ac0->LT Int ac0
 | .c0 p=>.br (A.not (A.k lY p.a1)) (.br (A.not (A.and (A.bK p.a1.2.2.1.1 0) (A.and (A.bK p.a1.2.2.1.2.1 0) (A.and (A.bK p.a1.2.2.1.2.2.1 0) (A.and (A.bK p.a1.2.2.1.2.2.2.1 0) (A.and (A.bK p.a1.2.2.1.2.2.2.2 0) true)))))) (.ret 180) (.br (A.not (A.and (A.bK p.a1.2.2.2.1.1 0) (A.and (A.bK p.a1.2.2.2.1.2.1 0) (A.and (A.bK p.a1.2.2.2.1.2.2.1 0) (A.and (A.bK p.a1.2.2.2.1.2.2.2.1 0) (A.and (A.bK p.a1.2.2.2.1.2.2.2.2.1 0) (A.and (A.bK p.a1.2.2.2.1.2.2.2.2.2.1 0) (A.and (A.bK p.a1.2.2.2.1.2.2.2.2.2.2 0) true)))))))) (.ret 180) (.br (A.bK p.a1.2.1 2) (.ar (A.and (A.bU 0 p.a1.1) (A.bG p.a1.1 (A.l p.a0.2.2.2.2.2.2.1))) (.br (A.not (A.n .bool p.a0.2.2.2.2.2.2.1 p.a1.1:Bool)) (.ret 180) (.ao (.c1 ⟨p.a0,p.a1⟩)))) (.ao (.c1 ⟨p.a0,p.a1⟩))))) (.br (A.bK p.a1.2.1 2) (.ar (A.and (A.bU 0 p.a1.1) (A.bG p.a1.1 (A.l p.a0.2.2.2.2.2.2.1))) (.br (A.not (A.n .bool p.a0.2.2.2.2.2.2.1 p.a1.1:Bool)) (.ret 180) (.ao (.c1 ⟨p.a0,p.a1⟩)))) (.ao (.c1 ⟨p.a0,p.a1⟩)))
 | .c1 p=>.br (A.bK p.b1.2.1 1) (.br (A.not (A.k A8 (p.b1.2.2.2.2.1,1,(A.k DR (p.b0,p.b1.1))))) (.ret 180) (.br (A.cu p.b1.2.1 1) (.br (A.cu p.b1.2.2.2.2.1 0) (.ret 180) (.ao (.c2 ⟨p.b1⟩))) (.ao (.c2 ⟨p.b1⟩)))) (.br (A.cu p.b1.2.1 1) (.br (A.cu p.b1.2.2.2.2.1 0) (.ret 180) (.ao (.c2 ⟨p.b1⟩))) (.ao (.c2 ⟨p.b1⟩)))
 | .c2 p=>.br p.c0.2.2.2.2.2.1 (.br (A.cu p.c0.2.1 1) (.br (A.cu p.c0.2.1 2) (.ret 180) (.ret 0)) (.ret 0)) (.ret 0)
theorem Tz(j:G=true->xW m n=true/\Eo n=true)(l:xW m n=true->Eo n=true->G=true):aY (Mf af) (.ao (.c1 ⟨m,n⟩)) (bif G then 0 else 180):=by
 have f:xW m n=true->aY (Mf af) (.ao (.c2 ⟨n⟩)) (bif G then 0 else 180):=λc=>by
  rw[aA,Mf];exact agh (λg=>(j g).2) (l c)
 rw[aA,Mf];have c:=λg=>(j g).1;unfold xW at c f;refine aV (p:=n.2.1=1) dq (λh=>?_) λh=>?_
 ·rw[dn h,cond_true] at c f
  refine ER (λg=>of_decide_eq_true (c g)) λi=>?_;exact aV (p:=¬n.2.1=1) dA (λk=>absurd h k) λ_=>f (dn i)
 ·rw[gj h,cond_false] at c f
  exact aV (p:=¬n.2.1=1) dA (λ_=>mI (p:=¬n.2.2.2.2.1=0) dA (λg=>not_not_intro (of_decide_eq_true (c g))) λi=>f (dn (dx.1 i))) λk=>absurd h k
theorem aeR(l:dC m=true)(j:0<=n.1/\n.1<=m.1-1)(h:kh n=true->vy m n=true)(c:G=true->KQ m n=true/\vy m n=true/\xW m n=true/\Eo n=true)(f:KQ m n=true->vy m n=true->xW m n=true->Eo n=true->G=true):aY (Mf af) (.ao (.c0 ⟨m,n⟩)) (bif G then 0 else 180):=by
 rw[aA,Mf];rw[show af.k lY (⟨m,n⟩:Wm).a1=kh n from rfl];have i:=λg=>(c g).2.1;unfold vy at i h f;cases hn:kh n
 ·rw[hn,cond_false] at i f
  refine(ak rfl).2 (yH (b:=O3 n.2.2.1) (λg=>?_) λo=>yH (b:=zeroV n.2.2.2.1) (λg=>?_) λp=>?_)
  ·simp_all
  ·simp_all
  ·exact Xy l j (λg=>(c g).1) λk=>Tz (λg=>(c g).2.2) λa b=>f k (by simp_all) a b
 ·rw[hn,cond_true] at i h f
  exact(ai rfl).2 (Xy l j (λg=>(c g).1) λk=>Tz (λg=>(c g).2.2) λa b=>f k (h rfl) a b)
theorem ak7:aY (Mf af) (ami af m n) (cZ m n):=by
 unfold ami cZ;rw[show af.k j_ m=lM m from rfl,lM];cases hm:dC m
 ·exact(ak rfl).2 (.ret _)
 have f:=@fD m n;have A:=(iJ hm).1;rw[cond_true,SZ,fO,lg (by omega) (by omega)];generalize Qf m n=G at f ⊢;refine(ai rfl).2 (ER (λg=>(f.1 g).1) λl=>ER (λg=>(f.1 g).2.1) λo=>ER (λg=>(f.1 g).2.2.1) λq=>?_);refine mI (p:=¬vA n.2.2.2.2.2.2.2=0) dA (λg=>not_not_intro (ym.2 (f.1 g).2.2.2.1)) λu=>?_;refine mI (p:=¬n.2.2.2.2.2.2.2.1=n.1) dA (λg=>by simp_all) λv=>?_;refine mI (p:=¬(n.2.2.2.2.2.2.2.2.2.1.length:Int)=m.1) dA (λg=>by simp_all) λz=>?_;have j:(kh n=true->vy m n=true)->aY (Mf af) (.ao (.c0 ⟨m,n⟩)) (bif G then 0 else 180):=λh=>aeR hm l h (λg=>(f.1 g).2.2.2.2.2.2) λa b c d=>f.2 ⟨l,o,q,ym.1 (dx.1 u),by omega,by omega,a,b,c,d⟩;rw[show af.k lY n=kh n from rfl];have i:=λg=>(f.1 g).2.2.2.2.2.2.2.1;unfold vy at i j;cases hn:kh n
 ·exact(ai rfl).2 (j λk=>absurd (hn.symm.trans k) (by decide))
 ·rw[hn,cond_true] at i
  simp at i j;refine(ak rfl).2 (yH (b:=iG m n.2.2.1) (λg=>(i g).1) λB=>?_);rw[bo,chk];refine mI (p:=¬tG n.2.2.2.1=0) dA (λg=>not_not_intro (i g).2.1) λC=>?_;refine mI (p:=¬n.2.2.2.1.1=n.1) dA (λg=>not_not_intro (i g).2.2.1) λD=>?_;refine mI (p:=¬n.2.2.2.1.2.1=m.1) dA (λg=>not_not_intro (i g).2.2.2.1) λE=>?_;refine mI (p:=¬n.2.2.1.2.2.2.2=n.2.2.2.1.2.2.1) dA (λg=>not_not_intro (i g).2.2.2.2) λH=>?_
  simp_all
def Yh:(ax×Node)->Int:=λ(m,n)=>cZ m n
def asr:aK:=.all [bJ,eT] [yI] Yh
theorem aqA:Sd 125 asr:=fa (bp ap dE sl 151 [] [⟨125,8, [[2,3]]⟩,⟨125,10, [[2,3]]⟩,⟨125,11, [[3]]⟩] (λA (m,n)=>ami A m n) Mf aiS (kz (fc func125 fz) (sc Q_ (sc Ed (sc BS (sc OM (sc T3 (sc Kh (sc ag8 sz)))))))) (λA y=>match y with |.c0 p=>⟨51,sl,by kernel_rfl⟩|.c1 p=>⟨39,sl,by kernel_rfl⟩|.c2 p=>⟨27,sl,by kernel_rfl⟩) λ(m,n) c h=>ak7)
def amh(A:aU)(m:ax)(id:Int):LT (Node×Int) Empty:=.br (A.cu (A.k j_ m) 0) (.ret ((0,0,(0,0,0,0,0),(0,0,0,0,0,0,0),0,false,0,0,([]:List Int),([]:List ik),0,0),(A.k j_ m))) (.br (A.cu (A.k Sp (id,m.1)).2 0) (.ret ((0,0,(0,0,0,0,0),(0,0,0,0,0,0,0),0,false,0,0,([]:List Int),([]:List ik),0,0),2)) (.ret ((id,0,(0,0,0,0,0),(0,0,0,0,0,0,0),0,false,0,(A.k Sp (id,m.1)).1),0)))
def jX:Node:=(0,0,(0,0,0,0,0),(0,0,0,0,0,0,0),0,false,0,0,([]:List Int),([]:List ik),0,0)
def rM(m:ax)(id:Int):Node×Int:=bif dC m then(bif decide (0<=id/\id<=m.1-1) then((id,0,(0,0,0,0,0),(0,0,0,0,0,0,0),0,false,0,id,([]:List Int),List.replicate m.1.toNat Gs,4,(-1)),0) else(jX,2)) else(jX,70)
theorem ak_{id:Int}:aY Empty.elim (amh af m id) (rM m id):=by
 unfold amh rM;rw[show af.k j_ m=lM m from rfl,lM];cases hm:dC m
 ·exact(ak rfl).2 (.ret _)
 refine(ai rfl).2 (?_);rw[show af.k Sp (id,m.1)=ZK id m.1 from rfl,ZK,dn (iJ hm).1,cond_true,cond_true];cases decide (0<=id/\id<=m.1-1)
 ·exact(ak rfl).2 (.ret _)
 ·exact(ai rfl).2 (.ret _)
def wG:(ax×Int)->(Node×Int):=λ(m,n)=>rM m n
def asq:aK:=.all [bJ,yI] [eT,yI] wG
theorem ag7:Sd 77 asq:=fa (bM ap dE sl 55 [] (λA (m,id)=>amh A m id) (kz (fc func77 fz) (sc Ed (sc aqP sz))) λ(m,id) c h=>ak_)
def amv(A:aU)(m:ax)(n:Node)(c:Bool):LT (Node×Int) Empty:=.br (A.cu (A.k Yh (m,n)) 0) (.ret ((0,0,(0,0,0,0,0),(0,0,0,0,0,0,0),0,false,0,0,([]:List Int),([]:List ik),0,0),(A.k Yh (m,n)))) (.br (A.not c) (.ret ((0,0,(0,0,0,0,0),(0,0,0,0,0,0,0),0,false,0,0,([]:List Int),([]:List ik),0,0),181)) (.ret ((n.1,n.2.1,n.2.2.1,n.2.2.2.1,n.2.2.2.2.1,n.2.2.2.2.2.1,n.2.2.2.2.2.2.1,(A.k FO (n.2.2.2.2.2.2.2,n.2.2.2.2.2.2.2.2.1)).1),(A.k FO (n.2.2.2.2.2.2.2,n.2.2.2.2.2.2.2.2.1)).2)))
def m_(m:ax)(n:Node)(w:Bool):Node×Int:=bif decide (cZ m n=0) then(bif w then(n,0) else(jX,181)) else(jX,cZ m n)
theorem By(h:cZ m n=0):gv n.2.2.2.2.2.2.2=true:=(fD.1 (dh h).2).2.2.2.1
theorem adY{c:iO}(h:gv c=true):¬8<(c.2.1.length:Int):=by
 simp[gv,fv,rR] at h;omega
theorem apV{w:Bool}:aY Empty.elim (amv af m n w) (m_ m n w):=by
 unfold amv m_;by_cases h:cZ m n=0
 ·rw[dn h]
  refine(ai (IJ h)).2 ?_;cases w
  ·exact(ak rfl).2 (.ret _)
  ·refine(ai rfl).2 (?_)
   rw[show af.k FO (n.2.2.2.2.2.2.2,n.2.2.2.2.2.2.2.2.1)=V2 n.2.2.2.2.2.2.2 n.2.2.2.2.2.2.2.2.1 from rfl,V2,By h,gj (adY (By h))];exact .ret _
 ·rw[gj h];exact(ak (w_ h)).2 (.ret _)
def kg:(ax×Node×Bool)->(Node×Int):=λ(m,c,k)=>m_ m c k
def asD:aK:=.all [bJ,eT,.bool] [eT,yI] kg
theorem Ee:Sd 78 asD:=fa (bM ap dE sl 64 [] (λA (m,n,c)=>amv A m n c) (kz (fc func78 fz) (sc aqA (sc ag9 sz))) λ(m,n,c) f h=>apV)
abbrev He(A:aU)(m:ax)(n:Node):=(A.k kg (m,n,(A.bK n.2.1 0)))
def amn(A:aU)(m:ax)(n:Node)(on:Bool):LT (Node×Int) Empty:=.br (A.not on) (.br (A.cu (A.k kg (m,n,true)).2 0) (.ret ((0,0,(0,0,0,0,0),(0,0,0,0,0,0,0),0,false,0,0,([]:List Int),([]:List ik),0,0),(A.k kg (m,n,true)).2)) (.br (A.not on) (.ret (A.k wG (m,(A.k kg (m,n,true)).1.1))) (.ret (((A.k kg (m,n,true)).1.1,1,(0,0,0,0,0),(0,0,0,0,0,0,0),(A.k DR (m,(A.k kg (m,n,true)).1.1)),(A.k kg (m,n,true)).1.2.2.2.2.2),0)))) (.br (A.cu (He A m n).2 0) (.ret ((0,0,(0,0,0,0,0),(0,0,0,0,0,0,0),0,false,0,0,([]:List Int),([]:List ik),0,0),(He A m n).2)) (.br (A.not on) (.ret (A.k wG (m,(He A m n).1.1))) (.ret (((He A m n).1.1,1,(0,0,0,0,0),(0,0,0,0,0,0,0),(A.k DR (m,(He A m n).1.1)),(He A m n).1.2.2.2.2.2),0))))
theorem acN(h:O3 c=true):c=(0,0,0,0,0):=by
 obtain⟨a,b,d,e,f⟩:=c;simp[O3,bl,bd] at h
 simp_all
theorem acO{c:vq}(h:zeroV c=true):c=(0,0,0,0,0,0,0):=by
 obtain⟨a,b,d,e,f,g,i⟩:=c;simp[zeroV,bl,bd] at h
 simp_all
theorem Tm(h:cZ m n=0)(f:¬(2<=n.2.1/\n.2.1<=4)):n.2.2.1=(0,0,0,0,0)/\n.2.2.2.1=(0,0,0,0,0,0,0):=by
 have c:=(fD.1 (dh h).2).2.2.2.2.2.2.2.1;rw[vy,kh,gj f,cond_false,fv] at c;exact⟨acN c.1,acO c.2⟩
theorem Tn(h:cZ m n=0)(c:¬n.2.1=1):n.2.2.2.2.1=0:=by
 have f:=(fD.1 (dh h).2).2.2.2.2.2.2.2.2.1;rw[xW,gj c] at f
 simp_all
def ju(m:ax)(n:Node)(on:Bool):Node×Int:=bif decide (cZ m n=0) then(bif on then(bif decide (n.2.1=0) then((n.1,1,(0,0,0,0,0),(0,0,0,0,0,0,0),(ta m n.1).1,n.2.2.2.2.2),0) else(jX,181)) else rM m n.1) else(jX,cZ m n)
theorem apY{on:Bool}:aY Empty.elim (amn af m n on) (ju m n on):=by
 unfold amn He ju;rw[show af.k kg (m,n,true)=m_ m n true from rfl,show af.k kg (m,n,af.bK n.2.1 0)=m_ m n (af.bK n.2.1 0) from rfl,dq,m_,m_];by_cases h:cZ m n=0
 ·rw[dn h]
  cases on
  ·exact(ak rfl).2 ((ai rfl).2 ((ak rfl).2 (.ret _)))
  ·refine(ai rfl).2 (?_)
   cases decide (n.2.1=0)
   ·exact(ak rfl).2 (.ret _)
   ·exact(ai rfl).2 ((ai rfl).2 (.ret _))
 ·rw[gj h]
  cases on
  ·exact(ak rfl).2 ((ak (w_ h)).2 (.ret _))
  ·exact(ai rfl).2 ((ak (w_ h)).2 (.ret _))
def Sk:(ax×Node×Bool)->(Node×Int):=λ(m,c,k)=>ju m c k
def asw:aK:=.all [bJ,eT,.bool] [eT,yI] Sk
theorem aqE:Sd 162 asw:=fa (bM ap dE sl 90 [] (λA (m,n,on)=>amn A m n on) (kz (fc func162 (fc func217 fz)) (sc ag7 (sc Ee (sc OM sz)))) λ(m,n,on) c h=>apY)
abbrev Eg(A:aU)(m:ax)(n:Node):=(A.k kg (m,n,(A.bK n.2.1 0)))
abbrev aby:LT (Node×Int) Empty:=(.ret ((0,0,(0,0,0,0,0),(0,0,0,0,0,0,0),0,false,0,0,([]:List Int),([]:List ik),0,0),2))
def amm(A:aU)(m:ax)(n:Node)(c:Int):LT (Node×Int) Empty:=.br (A.cu (Eg A m n).2 0) (.ret ((0,0,(0,0,0,0,0),(0,0,0,0,0,0,0),0,false,0,0,([]:List Int),([]:List ik),0,0),(Eg A m n).2)) (.ar (A.bU 0 m.1) (.br (A.not (A.k A8 (c,0,(A.b .sub .i64 (A.b .shl .i64 1 m.1) 1)))) (aby) (.ar (A.bU 0 (Eg A m n).1.1) (.br (A.bK (A.b .and .i64 (A.b .shr .i64 c (Eg A m n).1.1) 1) 0) (aby) (.ret (((Eg A m n).1.1,4,(0,0,0,0,c),((Eg A m n).1.1,m.1,c,1,0,0,0),0,(Eg A m n).1.2.2.2.2.2),0))))))
theorem Vy{k:Int}(h:4<=k/\k<=8):16<=af.b .shl .i64 1 k/\af.b .shl .i64 1 k<=256:=by
 have:k=4\/k=5\/k=6\/k=7\/k=8:=by omega
 rcases this with rfl|rfl|rfl|rfl|rfl<;>decide
def EZ(m:ax)(n:Node)(s:Int):Node×Int:=bif decide (cZ m n=0) then(bif decide (n.2.1=0) then(bif decide (0<=s/\s<=af.b .shl .i64 1 m.1-1) then(bif qY s n.1 then((n.1,4,(0,0,0,0,s),(n.1,m.1,s,1,0,0,0),0,n.2.2.2.2.2),0) else(jX,2)) else(jX,2)) else(jX,181)) else(jX,cZ m n)
variable{s:Int}
theorem av6:aY Empty.elim (amm af m n s) (EZ m n s):=by
 unfold amm aby Eg EZ;rw[show af.k kg (m,n,af.bK n.2.1 0)=m_ m n (af.bK n.2.1 0) from rfl,dq,m_,SZ];by_cases h:cZ m n=0
 ·rw[dn h]
  cases decide (n.2.1=0)
  ·exact(ak rfl).2 (.ret _)
  have l:=(iJ (dh h).1).1;have o:=Vy l;have i:=(fD.1 (dh h).2).1;refine(ai rfl).2 (au.2 ⟨dn (by omega),?_⟩);rw[fO,lg (by omega) (by omega)];refine jd (λf=>?_) λf=>au.2 ⟨dn (show 0<=n.1 from i.1),?_⟩
  ·exact aO (by rw[gj f];rfl) (.ret _)
  ·rw[dn f]
   have j:=agf (c:=s) (a:=n.1) f.1 (by omega) i.1 (by omega);refine aV (p:=af.b .and .i64 (af.b .shr .i64 s n.1) 1=0) dq (λg=>?_) λg=>?_
   ·exact aO (by rw[j.1 g];rfl) (.ret _)
   ·exact aO (by simp_all) (.ret _)
 ·rw[gj h];exact(ak (w_ h)).2 (.ret _)
def Sj:(ax×Node×Int)->(Node×Int):=λ(m,c,k)=>EZ m c k
def asv:aK:=.all [bJ,eT,yI] [eT,yI] Sj
theorem aqD:Sd 41 asv:=fa (bM ap dE sl 110 [] (λA (m,n,c)=>amm A m n c) (kz (fc func41 (fc func80 fz)) (sc Ee (sc T3 sz))) λ(m,n,c) f h=>av6)
abbrev iy(A:aU)(m:ax)(n:Node):=(A.k kg (m,n,true))
abbrev abz(A:aU)(m:ax)(n:Node):LT (Node×Int) Empty:=(.ret ((0,0,(0,0,0,0,0),(0,0,0,0,0,0,0),0,false,0,0,([]:List Int),([]:List ik),0,0),(iy A m n).2))
def amo(A:aU)(m:ax)(n:Node)(o:dO):LT (Node×Int) Empty:=.br (A.cu (iy A m n).2 0) (abz A m n) (.br (A.not (A.k A8 (o.2.2.2.1,1,3))) (.ret ((0,0,(0,0,0,0,0),(0,0,0,0,0,0,0),0,false,0,0,([]:List Int),([]:List ik),0,0),2)) (.br (A.not (A.k lY (iy A m n).1)) (.ret ((iy A m n).1,0)) (.br (A.bK o.2.2.2.1 1) (.br (A.cu (A.k FO ((iy A m n).1.2.2.2.2.2.2.2,o.2.2.2.2.2)).2 0) (.ret ((0,0,(0,0,0,0,0),(0,0,0,0,0,0,0),0,false,0,0,([]:List Int),([]:List ik),0,0),(A.k FO ((iy A m n).1.2.2.2.2.2.2.2,o.2.2.2.2.2)).2)) (.ret (((iy A m n).1.1,(iy A m n).1.2.1,(iy A m n).1.2.2.1,(iy A m n).1.2.2.2.1,(iy A m n).1.2.2.2.2.1,(iy A m n).1.2.2.2.2.2.1,(iy A m n).1.2.2.2.2.2.2.1,(A.k FO ((iy A m n).1.2.2.2.2.2.2.2,o.2.2.2.2.2)).1),0))) (.br (A.bK o.2.2.2.1 2) (.br (A.cu (A.k Sr (iy A m n).1.2.2.2.2.2.2.2).2 0) (.ret ((0,0,(0,0,0,0,0),(0,0,0,0,0,0,0),0,false,0,0,([]:List Int),([]:List ik),0,0),(A.k Sr (iy A m n).1.2.2.2.2.2.2.2).2)) (.ret (((iy A m n).1.1,(iy A m n).1.2.1,(iy A m n).1.2.2.1,(iy A m n).1.2.2.2.1,(iy A m n).1.2.2.2.2.1,(iy A m n).1.2.2.2.2.2.1,(iy A m n).1.2.2.2.2.2.2.1,(A.k Sr (iy A m n).1.2.2.2.2.2.2.2).1),0))) (.br (A.bK o.2.2.2.1 3) (.br (A.cu (A.k Ss ((iy A m n).1.2.2.2.2.2.2.2,o.2.2.2.2.1)).2 0) (.ret ((0,0,(0,0,0,0,0),(0,0,0,0,0,0,0),0,false,0,0,([]:List Int),([]:List ik),0,0),(A.k Ss ((iy A m n).1.2.2.2.2.2.2.2,o.2.2.2.2.1)).2)) (.ret (((iy A m n).1.1,(iy A m n).1.2.1,(iy A m n).1.2.2.1,(iy A m n).1.2.2.2.1,(iy A m n).1.2.2.2.2.1,(iy A m n).1.2.2.2.2.2.1,(iy A m n).1.2.2.2.2.2.2.1,(A.k Ss ((iy A m n).1.2.2.2.2.2.2.2,o.2.2.2.2.1)).1),0))) (.br (A.cu (iy A m n).2 0) (abz A m n) (.ret ((iy A m n).1,0))))))))
def z7(n:Node)(r:iO×Int):Node×Int:=bif decide (r.2=0) then((n.1,n.2.1,n.2.2.1,n.2.2.2.1,n.2.2.2.2.1,n.2.2.2.2.2.1,n.2.2.2.2.2.2.1,r.1),0) else(jX,r.2)
def y5(m:ax)(n:Node)(o:dO):Node×Int:=bif decide (cZ m n=0) then(bif decide (1<=o.2.2.2.1/\o.2.2.2.1<=3) then(bif kh n then(bif decide (o.2.2.2.1=1) then z7 n (V2 n.2.2.2.2.2.2.2 o.2.2.2.2.2) else bif decide (o.2.2.2.1=2) then z7 n (btS n.2.2.2.2.2.2.2) else z7 n (Il n.2.2.2.2.2.2.2 o.2.2.2.2.1)) else(n,0)) else(jX,2)) else(jX,cZ m n)
variable{r:iO×Int}
theorem Y_{step:Y->LT (Node×Int) Y}(c:r.2=0->x=0):aY step (.br (af.cu r.2 0) (.ret (jX,r.2)) (.ret ((n.1,n.2.1,n.2.2.1,n.2.2.2.1,n.2.2.2.2.1,n.2.2.2.2.2.1,n.2.2.2.2.2.2.1,r.1),x))) (z7 n r):=by
 unfold z7;refine aV (p:=¬r.2=0) dA (λh=>?_) λh=>?_
 ·exact aO (by simp_all) (.ret _)
 ·have h:=dx.1 h
  exact aO (by simp_all) (.ret _)
theorem apP{o:dO}:aY Empty.elim (amo af m n o) (y5 m n o):=by
 unfold amo abz iy y5;rw[show af.k kg (m,n,true)=m_ m n true from rfl,m_,SZ];by_cases h:cZ m n=0
 ·rw[dn h,cond_true,cond_true,cond_true]
  refine(ai rfl).2 (jd (λc=>?_) λc=>?_)
  ·exact aO (by rw[gj c];rfl) (.ret _)
  rw[dn c,cond_true];rw[show af.k lY ((n,0):Node×Int).1=kh n from rfl];cases kh n
  ·exact(ak rfl).2 (.ret _)
  refine(ai rfl).2 (aV (p:=o.2.2.2.1=1) dq (λk=>?_) λk=>aV (p:=o.2.2.2.1=2) dq (λf=>?_) λf=>(ak (by rw[dq];grind)).2 (?_))
  ·rw[dn k];exact Y_ (r:=V2 n.2.2.2.2.2.2.2 o.2.2.2.2.2) (λh=>rfl)
  ·rw[gj k,dn f];exact Y_ (r:=btS n.2.2.2.2.2.2.2) (λh=>rfl)
  ·rw[gj k,gj f];exact Y_ (r:=Il n.2.2.2.2.2.2.2 o.2.2.2.2.1) (λh=>rfl)
 ·rw[gj h];exact(ak (w_ h)).2 (.ret _)
def Sl:(ax×Node×dO)->(Node×Int):=λ(m,c,k)=>y5 m c k
def asx:aK:=.all [bJ,eT,e_] [eT,yI] Sl
theorem aqF:Sd 108 asx:=fa (bM ap dE sl 107 [] (λA (m,n,o)=>amo A m n o) (kz (fc func108 fz) (sc BS (sc Ee (sc T3 (sc ag9 (sc aqT (sc aqU sz))))))) λ(m,n,o) c h=>apP)
structure Wv where
 (a0:Int) (a1:List Seen) (a2:Int) (a4:vq) (a5:Int)
inductive ac4 where
 | c0 (p:Wv) (a3:Int)
noncomputable def aiW:ac4->iB
 | .c0 p a3=>⟨[⟨139,45,(en [(0,vi p.a0),(4,.ptr 0 0),(11,.sl qi p.a1),(12,vi p.a2),(13,vi a3)]),sk f139 [1,0,1,0,0],[],none⟩],[.ay false (dc qQ p.a4 ++ [vi p.a5,.gb true]),.a_]⟩
def auo(A:aU)(n:Int)(c:List Seen):LT (sj×Int×Bool) ac4:=.ao (.c0 ⟨n,c,(A.l c),(0,0,0,0,0,0,0),0⟩ 0)
def Vp(A:aU):ac4->LT (sj×Int×Bool) ac4
 | .c0 p a3=>.br (A.bG a3 p.a2) (.ar (A.and (A.bU 0 a3) (A.bG a3 (A.l p.a1))) (.br (A.cu (A.n qi p.a1 a3:Seen).1 2) (.ao (.c0 p (A.b .add .i64 a3 1))) (.br (A.k PV (A.n qi p.a1 a3:Seen).2.2).2 (.br (A.bK (A.k xw ((A.k PV (A.n qi p.a1 a3:Seen).2.2).1.2.2.1,p.a0)) 0) (.br (A.bG (A.k PV (A.n qi p.a1 a3:Seen).2.2).1.2.2.2.1 p.a0) (.ret ((A.k PV (A.n qi p.a1 a3:Seen).2.2).1,(A.n qi p.a1 a3:Seen).2.1,true)) (.ao (.c0 p (A.b .add .i64 a3 1)))) (.ao (.c0 p (A.b .add .i64 a3 1)))) (.ao (.c0 p (A.b .add .i64 a3 1)))))) (.ret ((0,0,(0,0,0,0,0),0,([]:List Int)),0,false))
def CM(n:Int)(s:Seen):Bool:=decide (s.1=2)&&(decide ((tQ s.2.2).2=true)&&(decide (qZ ((tQ s.2.2).1.2.2.1,n)=0)&&decide ((tQ s.2.2).1.2.2.2.1<n)))
def i6(n:Int):List Seen->sj×Int×Bool
 | []=>((0,0,(0,0,0,0,0),0,([]:List Int)),0,false)
 | s::l=>bif CM n s then((tQ s.2.2).1,s.2.1,true) else i6 n l
theorem XY{n:Int}{l:List Seen}(h:(i6 n l).2.2=true):qZ ((i6 n l).1.2.2.1,n)=0/\(i6 n l).1.2.2.2.1<n/\zX (i6 n l).1=true:=by
 induction l with
 | nil=>exact absurd h (by simp[i6])
 | cons s l ih=>
   rw[i6] at h ⊢;cases hx:CM n s
   ·simp_all
   ·simp[CM,fv,rR] at hx
    exact⟨hx.2.2.1,hx.2.2.2,ad6 hx.2.1⟩
theorem anK{b:Bool}:b=decide (b=true):=by simp_all
theorem U7{p:Wv}{n:Int}{c:List Seen}(z:p.a0=n)(A:p.a1=c)(l:p.a2=(c.length:Int))(D:c.length<=140737488355328):∀(j i:Nat),c.length-i=j->i<=c.length->aY (Vp af) (.ao (.c0 p (i:Int))) (i6 n (c.drop i)):=by
 intro j
 induction j with
 | zero=>
   intro i C B;have:i=c.length:=by omega
   subst this;rw[aA,Vp,l,cv];exact(ai (by rw[aN];simp)).2 (.ret _)
 | succ j ih=>
   intro i C B;have f:i<c.length:=by omega
   have m:=ih (i+1) (by omega) (by omega);rw[aA,Vp,z,A,l];refine(ak (by simp_all;exact dn (by omega))).2 (au.2 ⟨df f,?_⟩);rw[show(af.n qi c (i:Int):Seen)=c[i] from fM f _,Cg f,i6,h_ (i:=i) (by omega)];generalize c[i]=s;generalize i6 n (c.drop (i+1))=r at m ⊢;have g:CM n s=false->aY (Vp af) (.ao (.c0 p ((i+1:Nat):Int))) (bif CM n s then((tQ s.2.2).1,s.2.1,true) else r):=λh=>aO (by simp_all) m;rw[show af.k PV s.2.2=tQ s.2.2 from ad8];refine aV (p:=¬s.1=2) dA (λh=>g (by rw[CM,gj h];rfl)) λo=>?_;refine aV (p:=(tQ s.2.2).2=true) anK (λq=>?_) λh=>g (by rw[CM,gj h,gk,dD]);refine aV (p:=qZ ((tQ s.2.2).1.2.2.1,n)=0) dq (λu=>?_) λh=>g (by rw[CM,gj h,gk,dD,dD]);refine aV (p:=(tQ s.2.2).1.2.2.2.1<n) rfl (λv=>?_) λh=>g (by rw[CM,gj h,dD,dD,dD]);exact aO (by rw[CM,dn (dx.1 o),dn q,dn u,dn v];rfl) (.ret _)
theorem apM{n:Int}{c:List Seen}(f:c.length<=140737488355328):aY (Vp af) (auo af n c) (i6 n c):=
 U7 (p:=⟨n,c,(c.length:Int),(0,0,0,0,0,0,0),0⟩) rfl rfl rfl f c.length 0 rfl (by omega)
def FN:(Int×List Seen)->(sj×Int×Bool):=λ(m,n)=>i6 m n
def asE:aK:=.all [yI,(.slice qi)] [Ia,yI,.bool] FN
theorem aqK:Sd 139 asE:=fa (bp ap dE sl 21 [⟨139,2, [[0,4,11,12,13]]⟩] [] (λA (n,c)=>auo A n c) Vp aiW (kz (fc func139 fz) (sc awo (sc Mq sz))) (λA y=>match y with |.c0 p f=>⟨70,sl,by kernel_rfl⟩) λ(n,c) g h=>apM h.2.1)
abbrev abB(A:aU)(m:ax)(c:fq)(f:sj):LT Bool Empty:=(.br (A.bK (A.k zl (m,c.2.2.1,c.2.1)).2 0) (.br (A.bK f.1 (A.k zl (m,c.2.2.1,c.2.1)).1) (.ret (A.bK (A.l f.2.2.2.2) 0)) (.ret false)) (.ret false))
def amI(A:aU)(m:ax)(c:fq)(f:sj):LT Bool Empty:=.br (A.bK (A.k zl (m,c.2.2.1,c.2.1)).2 0) (.br (A.cu (A.k zl (m,c.2.2.1,c.2.1)).1 3) (.ar (A.and (A.bU 0 c.2.2.1) (A.bG c.2.2.1 (A.l m.2.2.2.2.2.2.2))) (.ar (A.and (A.bU 0 c.2.1) (A.bG c.2.1 (A.l (A.n fC m.2.2.2.2.2.2.2 c.2.2.1:Mode).1))) (.br (A.bK (A.k zl (m,c.2.2.1,c.2.1)).2 0) (.br (A.bK f.1 (A.k zl (m,c.2.2.1,c.2.1)).1) (.ret (A.bK (A.l f.2.2.2.2) (A.n yI (A.n fC m.2.2.2.2.2.2.2 c.2.2.1:Mode).1 c.2.1:Int))) (.ret false)) (.ret false)))) (abB A m c f)) (abB A m c f)
def Bq(m:ax)(c:fq)(f:sj):Bool:=decide ((kW m c.2.2.1 c.2.1).2=0)&&(decide (f.1=(kW m c.2.2.1 c.2.1).1)&&decide ((f.2.2.2.2.length:Int)=bif decide ((kW m c.2.2.1 c.2.1).1=3) then(0:Int) else(af.n (.int .i64) (af.n fC m.2.2.2.2.2.2.2 c.2.2.1:Mode).1 c.2.1:Int)))
theorem yu{k n:Int}(h:(kW m k n).2=0):dC m=true/\(0<=n/\n<=m.1-1)/\(0<=k/\k<iD m):=by
 unfold kW at h;by_cases c:mZ m n=0
 ·obtain⟨a,b⟩:=J6 c
  grind
 simp_all
variable{f:sj}
theorem apR:aY Empty.elim (amI af m c f) (Bq m c f):=by
 unfold amI abB;rw[show af.k zl (m,c.2.2.1,c.2.1)=kW m c.2.2.1 c.2.1 from rfl];by_cases h:(kW m c.2.2.1 c.2.1).2=0
 ·obtain⟨j,l,i⟩:=yu h
  have n:=(vh (Bu j i.1 i.2)).1;have e:af.bK (kW m c.2.2.1 c.2.1).2 0=true:=Xp h;rw[e,Bq,dn h,cY];refine(ak rfl).2 (aV (p:=¬(kW m c.2.2.1 c.2.1).1=3) dA (λg=>au.2 ⟨yy i.1 i.2,au.2 ⟨yx n l.1 (by omega),(ak rfl).2 ?_⟩⟩) λg=>(ak rfl).2 ?_)
  ·rw[gj g]
   refine aV (p:=f.1=(kW m c.2.2.1 c.2.1).1) dq (λk=>?_) λk=>?_
   ·exact aO (by rw[dn k,dV];rfl) (.ret _)
   ·exact aO (by simp_all) (.ret _)
  ·rw[dn (dx.1 g)]
   refine aV (p:=f.1=(kW m c.2.2.1 c.2.1).1) dq (λk=>?_) λk=>?_
   ·exact aO (by rw[dn k,dV];rfl) (.ret _)
   ·exact aO (by simp_all) (.ret _)
 ·have e:af.bK (kW m c.2.2.1 c.2.1).2 0=false:=anQ h
  rw[e,Bq,gj h];exact(ai rfl).2 ((ai rfl).2 (.ret _))
def Sv:(ax×fq×sj)->Bool:=λ(m,c,k)=>Bq m c k
def asU:aK:=.all [bJ,ia,Ia] [.bool] Sv
theorem ag_:Sd 194 asU:=fa (bM ap dE sl 75 [] (λA (m,c,f)=>amI A m c f) (kz (fc func194 fz) (sc ahd sz)) λ(m,c,f) g h=>apR)
def amw(A:aU)(m:ax)(n:Node)(f:sj):LT Bool Empty:=.br (A.k Sq (m,f.2.2.1)) (.br (A.cu f.2.2.1.2.1 n.1) (.br (A.k Sy (f.2.2.1,f.2.2.1.2.1)) (.ret (A.k Sv (m,f.2.2.1,f))) (.ret false)) (.ret false)) (.ret false)
def Tg(m:ax)(n:Node)(f:sj):Bool:=iG m f.2.2.1&&(decide (¬f.2.2.1.2.1=n.1)&&(UP f.2.2.1 f.2.2.1.2.1&&Bq m f.2.2.1 f))
theorem av4:aY Empty.elim (amw af m n f) (Tg m n f):=by
 unfold amw Tg;rw[show af.k Sq (m,f.2.2.1)=iG m f.2.2.1 from rfl];cases iG m f.2.2.1
 ·exact(ai rfl).2 (.ret _)
 refine(ak rfl).2 (aV (p:=¬f.2.2.1.2.1=n.1) dA (λh=>?_) λh=>aO (by simp_all) (.ret _));rw[dn h,show af.k Sy (f.2.2.1,f.2.2.1.2.1)=UP f.2.2.1 f.2.2.1.2.1 from rfl];cases UP f.2.2.1 f.2.2.1.2.1
 ·exact(ai rfl).2 (.ret _)
 ·exact(ak rfl).2 (.ret _)
def Sn:(ax×Node×sj)->Bool:=λ(m,c,k)=>Tg m c k
def asG:aK:=.all [bJ,eT,Ia] [.bool] Sn
theorem aqL:Sd 142 asG:=fa (bM ap dE sl 44 [] (λA (m,n,f)=>amw A m n f) (kz (fc func142 fz) (sc ag8 (sc ag_ (sc ahb sz)))) λ(m,n,f) c h=>av4)
def qd(m:ax)(c:fq)(r:Int):fq:=bif decide ((EB m c r).2=0) then(EB m c r).1 else c
def zt(m:ax)(n:Node)(c:fq)(f:sj):Node:=(n.1,3,qd m c f.2.1,(n.1,m.1,c.2.2.2.2,1,0,0,0),0,false,0,bif decide (f.1=4) then(sM n.2.2.2.2.2.2.2 c.2.1 f.2.2.2.2).1 else n.2.2.2.2.2.2.2)
def lC(m:ax)(n:Node)(c:List Seen)(f:Bool):Node×Int×Bool×Int:=
 bif decide (cZ m n=0) then
  bif decide (n.2.1=1) then
   bif decide ((c.length:Int)=2) then
    bif (i6 m.1 c).2.2 then
     bif decide ((i6 m.1 c).1.1=1) then
      bif decide ((i6 m.1 c).1.2.2.2.1=n.1) then(n,0,false,0)
      else bif f && !n.2.2.2.2.2.1 then((n.1,n.2.1,n.2.2.1,n.2.2.2.1,(ta m n.1).1,true,n.2.2.2.2.2.2),(i6 m.1 c).2.1,false,0)
      else(zt m n (0,(i6 m.1 c).1.2.2.2.1,0,0,af.b .shl .i64 1 (i6 m.1 c).1.2.2.2.1) (i6 m.1 c).1,(i6 m.1 c).2.1,true,0)
     else bif Tg m n (i6 m.1 c).1 then(zt m n (i6 m.1 c).1.2.2.1 (i6 m.1 c).1,(i6 m.1 c).2.1,true,0)
     else(n,0,false,0)
    else(n,0,false,0)
   else(jX,0,false,2)
  else(jX,0,false,181)
 else(jX,0,false,cZ m n)
structure Wh where
 (a0:Int) (a1:ax) (a2 a3:vq) (a4:Int) (a5:Bool) (a6 a7 a8 a9:Int) (iN:Node) (kV:sj)
structure Wi where
 (b0:ax) (b1:sj) (b2:fq) (b3:Int) (b4:Node) (b5 b6:vq) (b7:Int) (b8:Bool) (b9 b10 b11 b12:Int)
structure Wj where
 (c0:ax) (c1:sj) (c2:fq) (c3:Int) (c4:Node) (c5 c6:vq) (c7:Int) (c8:Bool) (c9 c10 c11 c12:Int)
structure Wk where
 (d0:ax) (d1 d2:Int) (d3:Node) (d4 d5:vq) (d6:Int) (d7:Bool) (d8 d9 XC d11:Int)
structure Wl where
 (e0:ax) (e1 e2:Int) (e3:Node) (e4 e5:vq) (e6:Int) (e7:Bool) (e8 e9 e10 e11:Int)
inductive W5 where
 | c0 (p:Wh)
 | c1 (p:Wi)
 | c2 (p:Wj)
 | c3 (p:Wk)
 | c4 (p:Wl)
noncomputable def aiR:W5->iB
 | .c0 p=>⟨[⟨93,101,(en [(3,.ptr 0 0),(6,.ptr 1 0),(10,.ptr 2 0),(12,.ptr 3 0),(13,vi p.a0)]),(.code (cw f93 [1,1,1,1,0,0,1,1,0])::sk f93 [1,1,1,1,0,0,1,1,0]),[],none⟩],[.ay false (dc bJ p.a1),.ay false (dc qQ p.a2++dc qQ p.a3 ++ [vi p.a4,vb p.a5,vi p.a6,vi p.a7,.gb true,.gb true,vi p.a8,vi p.a9]),.ay false (dc eT p.iN),.ay false (dc Ia p.kV),.a_]⟩
 | .c1 p=>⟨[⟨141,29,(en [(0,.agg (dc bJ p.b0)),(1,.ptr 0 0),(2,.agg (dc Ia p.b1)),(3,.agg (dc ia p.b2))]),(.code (cw f141 [0])::sk f141 [0]),[],none⟩,⟨93,101,(en [(6,.ptr 1 0),(10,.ptr 0 0),(13,vi p.b3)]),(.rS (ow f93 [1,1,1,1,0,0,1,1,1,1,1,0]) [0,0,0,4,0,16,48,124,255] 8 [] []::sk f93 [1,1,1,1,0,0,1,1,1,1,1,0]),[],none⟩],[.ay false (dc eT p.b4),.ay false (dc qQ p.b5++dc qQ p.b6 ++ [vi p.b7,vb p.b8,vi p.b9,vi p.b10,.gb true,.gb true,vi p.b11,vi p.b12]),.a_]⟩
 | .c2 p=>⟨[⟨141,29,(en [(0,.agg (dc bJ p.c0)),(1,.ptr 0 0),(2,.agg (dc Ia p.c1)),(3,.agg (dc ia p.c2))]),(.code (cw f141 [0])::sk f141 [0]),[],none⟩,⟨93,101,(en [(6,.ptr 1 0),(10,.ptr 0 0),(13,vi p.c3)]),(.ops (ow f93 [1,1,1,1,0,0,1,1,1,1,1,1,1,0]) ((ow f93 [1,1,1,1,0,0,1,1,1,1,1,1,1,0]).toList.drop 4)::sk f93 [1,1,1,1,0,0,1,1,1,1,1,1,1,0]),[],none⟩],[.ay false (dc eT p.c4),.ay false (dc qQ p.c5++dc qQ p.c6 ++ [vi p.c7,vb p.c8,vi p.c9,vi p.c10,.gb true,.gb true,vi p.c11,vi p.c12]),.a_]⟩
 | .c3 p=>⟨[⟨193,24,(en [(0,.agg (dc bJ p.d0)),(1,.ptr 0 0),(2,vi p.d1)]),(.code (cw f193 [0])::sk f193 [0]),[],none⟩,⟨141,29,.leaf,[.ops (ow f141 [1,1,1,1]) ((ow f141 [1,1,1,1]).toList.drop 4)],[],none⟩,⟨93,101,(en [(6,.ptr 1 0),(10,.ptr 0 0),(13,vi p.d2)]),(.rS (ow f93 [1,1,1,1,0,0,1,1,1,1,1,0]) [0,0,0,4,0,16,48,124,255] 8 [] []::sk f93 [1,1,1,1,0,0,1,1,1,1,1,0]),[],none⟩],[.ay false (dc eT p.d3),.ay false (dc qQ p.d4++dc qQ p.d5 ++ [vi p.d6,vb p.d7,vi p.d8,vi p.d9,.gb true,.gb true,vi p.XC,vi p.d11]),.a_]⟩
 | .c4 p=>⟨[⟨193,24,(en [(0,.agg (dc bJ p.e0)),(1,.ptr 0 0),(2,vi p.e1)]),(.code (cw f193 [0])::sk f193 [0]),[],none⟩,⟨141,29,.leaf,[.ops (ow f141 [1,1,1,1]) ((ow f141 [1,1,1,1]).toList.drop 4)],[],none⟩,⟨93,101,(en [(6,.ptr 1 0),(10,.ptr 0 0),(13,vi p.e2)]),(.ops (ow f93 [1,1,1,1,0,0,1,1,1,1,1,1,1,0]) ((ow f93 [1,1,1,1,0,0,1,1,1,1,1,1,1,0]).toList.drop 4)::sk f93 [1,1,1,1,0,0,1,1,1,1,1,1,1,0]),[],none⟩],[.ay false (dc eT p.e3),.ay false (dc qQ p.e4++dc qQ p.e5 ++ [vi p.e6,vb p.e7,vi p.e8,vi p.e9,.gb true,.gb true,vi p.e10,vi p.e11]),.a_]⟩
abbrev Hd(A:aU)(m:ax)(n:Node):=(A.k kg (m,n,(A.bK n.2.1 1)))
abbrev abw(A:aU)(m:ax)(n:Node)(c:List Seen):LT (Node×Int×Bool×Int) W5:=(.ao (.c0 ⟨(A.k FN (m.1,c)).2.1,m,(0,0,0,0,0,0,0),(0,0,0,0,0,0,0),0,false,0,0,0,0,(Hd A m n).1,(A.k FN (m.1,c)).1⟩))
def amg(A:aU)(m:ax)(n:Node)(c:List Seen):LT (Node×Int×Bool×Int) W5:=.br (A.cu (Hd A m n).2 0) (.ret ((0,0,(0,0,0,0,0),(0,0,0,0,0,0,0),0,false,0,0,([]:List Int),([]:List ik),0,0),0,false,(Hd A m n).2)) (.br (A.cu (A.l c) 2) (.ret ((0,0,(0,0,0,0,0),(0,0,0,0,0,0,0),0,false,0,0,([]:List Int),([]:List ik),0,0),0,false,2)) (.br (A.not (A.k FN (m.1,c)).2.2) (.ret ((Hd A m n).1,0,false,0)) (.br (A.bK (A.k FN (m.1,c)).1.1 1) (.br (A.bK (A.k FN (m.1,c)).1.2.2.2.1 (Hd A m n).1.1) (.ret ((Hd A m n).1,0,false,0)) (abw A m n c)) (abw A m n c))))
def Ey(A:aU):W5->LT (Node×Int×Bool×Int) W5
 | .c0 p=>.br (A.bK p.kV.1 1) (.br (A.not p.iN.2.2.2.2.2.1) (.ret ((p.iN.1,p.iN.2.1,p.iN.2.2.1,p.iN.2.2.2.1,(A.k DR (p.a1,p.iN.1)),true,p.iN.2.2.2.2.2.2),p.a0,false,0)) (.br (A.bK p.kV.1 1) (.ar (A.bU 0 p.kV.2.2.2.1) (.ao (.c1 ⟨p.a1,p.kV,(0,p.kV.2.2.2.1,0,0,(A.b .shl .i64 1 p.kV.2.2.2.1)),p.a0,p.iN,p.a2,p.a3,p.a4,p.a5,p.a6,p.a7,p.a8,p.a9⟩))) (.br (A.k Sn (p.a1,p.iN,p.kV)) (.ao (.c2 ⟨p.a1,p.kV,p.kV.2.2.1,p.a0,p.iN,p.a2,p.a3,p.a4,p.a5,p.a6,p.a7,p.a8,p.a9⟩)) (.ret (p.iN,0,false,0))))) (.br (A.bK p.kV.1 1) (.ar (A.bU 0 p.kV.2.2.2.1) (.ao (.c1 ⟨p.a1,p.kV,(0,p.kV.2.2.2.1,0,0,(A.b .shl .i64 1 p.kV.2.2.2.1)),p.a0,p.iN,p.a2,p.a3,p.a4,p.a5,p.a6,p.a7,p.a8,p.a9⟩))) (.br (A.k Sn (p.a1,p.iN,p.kV)) (.ao (.c2 ⟨p.a1,p.kV,p.kV.2.2.1,p.a0,p.iN,p.a2,p.a3,p.a4,p.a5,p.a6,p.a7,p.a8,p.a9⟩)) (.ret (p.iN,0,false,0))))
 | .c1 p=>.br (A.bK p.b1.1 4) (.br (A.bK (A.k DT (p.b4.2.2.2.2.2.2.2,p.b2.2.1,p.b1.2.2.2.2)).2 0) (.ao (.c3 ⟨p.b0,p.b1.2.1,p.b3,(p.b4.1,3,p.b2,(p.b4.1,p.b0.1,p.b2.2.2.2.2,1,0,0,0),0,false,0,(A.k DT (p.b4.2.2.2.2.2.2.2,p.b2.2.1,p.b1.2.2.2.2)).1),p.b5,p.b6,p.b7,p.b8,p.b9,p.b10,p.b11,p.b12⟩)) (.ao (.c3 ⟨p.b0,p.b1.2.1,p.b3,(p.b4.1,3,p.b2,(p.b4.1,p.b0.1,p.b2.2.2.2.2,1,0,0,0),0,false,0,p.b4.2.2.2.2.2.2.2),p.b5,p.b6,p.b7,p.b8,p.b9,p.b10,p.b11,p.b12⟩))) (.ao (.c3 ⟨p.b0,p.b1.2.1,p.b3,(p.b4.1,3,p.b2,(p.b4.1,p.b0.1,p.b2.2.2.2.2,1,0,0,0),0,false,0,p.b4.2.2.2.2.2.2.2),p.b5,p.b6,p.b7,p.b8,p.b9,p.b10,p.b11,p.b12⟩))
 | .c2 p=>.br (A.bK p.c1.1 4) (.br (A.bK (A.k DT (p.c4.2.2.2.2.2.2.2,p.c2.2.1,p.c1.2.2.2.2)).2 0) (.ao (.c4 ⟨p.c0,p.c1.2.1,p.c3,(p.c4.1,3,p.c2,(p.c4.1,p.c0.1,p.c2.2.2.2.2,1,0,0,0),0,false,0,(A.k DT (p.c4.2.2.2.2.2.2.2,p.c2.2.1,p.c1.2.2.2.2)).1),p.c5,p.c6,p.c7,p.c8,p.c9,p.c10,p.c11,p.c12⟩)) (.ao (.c4 ⟨p.c0,p.c1.2.1,p.c3,(p.c4.1,3,p.c2,(p.c4.1,p.c0.1,p.c2.2.2.2.2,1,0,0,0),0,false,0,p.c4.2.2.2.2.2.2.2),p.c5,p.c6,p.c7,p.c8,p.c9,p.c10,p.c11,p.c12⟩))) (.ao (.c4 ⟨p.c0,p.c1.2.1,p.c3,(p.c4.1,3,p.c2,(p.c4.1,p.c0.1,p.c2.2.2.2.2,1,0,0,0),0,false,0,p.c4.2.2.2.2.2.2.2),p.c5,p.c6,p.c7,p.c8,p.c9,p.c10,p.c11,p.c12⟩))
 | .c3 p=>.br (A.bK (A.k A9 (p.d0,p.d3.2.2.1,p.d1)).2 0) (.ret ((p.d3.1,p.d3.2.1,(A.k A9 (p.d0,p.d3.2.2.1,p.d1)).1,p.d3.2.2.2),p.d2,true,0)) (.ret (p.d3,p.d2,true,0))
 | .c4 p=>.br (A.bK (A.k A9 (p.e0,p.e3.2.2.1,p.e1)).2 0) (.ret ((p.e3.1,p.e3.2.1,(A.k A9 (p.e0,p.e3.2.2.1,p.e1)).1,p.e3.2.2.2),p.e2,true,0)) (.ret (p.e3,p.e2,true,0))
theorem XI(l:cZ m n=0)(i:zX f=true)(g:Tg m n f=true):(sM n.2.2.2.2.2.2.2 f.2.2.1.2.1 f.2.2.2.2).2=0:=by
 have c:=fD.1 (dh l).2;simp[Tg,fv,Bq,rR] at g;have j:=yu g.2.2.2.1;simp[zX,fv,rR] at i;have h:=c.2.2.2.2.2.1;rw[sM,c.2.2.2.1,dn (show 0<=f.2.2.1.2.1/\f.2.2.1.2.1<=(n.2.2.2.2.2.2.2.2.2.1.length:Int)-1 by rw[h];exact j.2.1),gj (show ¬8<(f.2.2.2.2.length:Int) by omega)];rfl
theorem akl{p:Wk}:aY (Ey af) (.ao (.c3 p)) ((p.d3.1,p.d3.2.1,qd p.d0 p.d3.2.2.1 p.d1,p.d3.2.2.2),p.d2,true,0):=by
 rw[aA,Ey];refine aV (p:=(EB p.d0 p.d3.2.2.1 p.d1).2=0) dq (λh=>?_) λh=>?_
 ·exact aO (by rw[qd,dn h];rfl) (.ret _)
 ·exact aO (by rw[qd,gj h];rfl) (.ret _)
theorem Y5{p:Wl}:aY (Ey af) (.ao (.c4 p)) ((p.e3.1,p.e3.2.1,qd p.e0 p.e3.2.2.1 p.e1,p.e3.2.2.2),p.e2,true,0):=by
 rw[aA,Ey];refine aV (p:=(EB p.e0 p.e3.2.2.1 p.e1).2=0) dq (λh=>?_) λh=>?_
 ·exact aO (by rw[qd,dn h];rfl) (.ret _)
 ·exact aO (by rw[qd,gj h];rfl) (.ret _)
theorem akj{p:Wi}(h:p.b1.1=1):aY (Ey af) (.ao (.c1 p)) (zt p.b0 p.b4 p.b2 p.b1,p.b3,true,0):=by
 rw[aA,Ey];refine(ai (by rw[dq];simp_all)).2 (aO ?_ akl);rw[zt,gj (show ¬p.b1.1=4 by omega)];rfl
theorem akk{p:Wj}(h:p.c1.1=4->(sM p.c4.2.2.2.2.2.2.2 p.c2.2.1 p.c1.2.2.2.2).2=0):aY (Ey af) (.ao (.c2 p)) (zt p.c0 p.c4 p.c2 p.c1,p.c3,true,0):=by
 rw[aA,Ey];refine aV (p:=p.c1.1=4) dq (λg=>?_) λg=>aO (by rw[zt,gj g];rfl) Y5;exact(ak (Xp (h g))).2 (aO (by rw[zt,dn g];rfl) Y5)
variable{t:Int}
theorem aki{p:Wh}(c:p.a0=t)(g:p.a1=m)(i:p.iN=n)(l:p.kV=f)(o:0<=f.2.2.2.1)(j:Tg m n f=true->(sM n.2.2.2.2.2.2.2 f.2.2.1.2.1 f.2.2.2.2).2=0):aY (Ey af) (.ao (.c0 p)) (bif decide (f.1=1) then(bif !n.2.2.2.2.2.1 then((n.1,n.2.1,n.2.2.1,n.2.2.2.1,(ta m n.1).1,true,n.2.2.2.2.2.2),t,false,0) else(zt m n (0,f.2.2.2.1,0,0,af.b .shl .i64 1 f.2.2.2.1) f,t,true,0)) else bif Tg m n f then(zt m n f.2.2.1 f,t,true,0) else(n,0,false,0)):=by
 rw[aA,Ey,c,g,i,l];refine aV (p:=f.1=1) dq (λh=>?_) λh=>?_
 ·rw[dn h,cond_true]
  cases hb:n.2.2.2.2.2.1
  ·exact(ak rfl).2 (.ret _)
  ·exact(ai rfl).2 ((ak (by rw[dq];simp_all)).2 (au.2 ⟨dn o,akj h⟩))
 ·rw[gj h,cond_false]
  refine(ai (by rw[dq];simp_all)).2 (?_);rw[show af.k Sn (m,n,f)=Tg m n f from rfl];cases hj:Tg m n f
  ·exact(ai rfl).2 (.ret _)
  ·exact(ak rfl).2 (akk λ_=>j hj)
theorem apO{l:List Seen}:aY (Ey af) (amg af m n l) (lC m n l true):=by
 unfold amg abw Hd lC;refine ?_;rw[show af.k kg (m,n,af.bK n.2.1 1)=m_ m n (af.bK n.2.1 1) from rfl,dq,m_];by_cases h:cZ m n=0
 ·rw[dn h,cond_true,cond_true]
  cases decide (n.2.1=1)
  ·exact(ak rfl).2 (.ret _)
  rw[cond_true,cond_true];refine(ai rfl).2 (aV (p:=¬(l.length:Int)=2) dA (λo=>aO (by rw[gj o];rfl) (.ret _)) λo=>?_);rw[dn (dx.1 o),cond_true,show af.k FN (m.1,l)=i6 m.1 l from rfl];cases he:(i6 m.1 l).2.2
  ·exact(ak rfl).2 (.ret _)
  obtain⟨A,B,q⟩:=XY he;have z:=YQ q;have C:=λ{a b c d e g i j}=>aki (p:=⟨(i6 m.1 l).2.1,m,a,b,c,d,e,g,i,j,n,(i6 m.1 l).1⟩) (m:=m) (n:=n) (f:=(i6 m.1 l).1) (t:=(i6 m.1 l).2.1) rfl rfl rfl rfl z.1 (XI h q);generalize i6 m.1 l=x at *;refine(ai rfl).2 (aV (p:=x.1.1=1) dq (λu=>aV (p:=x.1.2.2.2.1=n.1) dq (λv=>?_) λv=>?_) λu=>?_)
  ·exact aO (by simp_all) (.ret _)
  all_goals simp_all
 ·rw[gj h];exact(ak (w_ h)).2 (.ret _)
def Yg:(ax×Node×List Seen)->(Node×Int×Bool×Int):=λ(m,n,s)=>lC m n s true
def asp:aK:=.all [bJ,eT,(.slice qi)] [eT,yI,.bool,yI] Yg
theorem aqz:Sd 93 asp:=fa (bp ap dE sl 93 [] [⟨93,10, [[3,6,10,12,13]]⟩,⟨141,0, [[0,1,2,3], [6,10,13]]⟩,⟨193,0, [[0,1,2], [], [6,10,13]]⟩] (λA (m,n,c)=>amg A m n c) Ey aiR (kz (fc func93 (fc func80 (fc func141 (fc func192 (fc func193 fz))))) (sc Ee (sc aqK (sc OM (sc aqL (sc ahc (sc aa7 sz))))))) (λA y=>match y with |.c0 p=>⟨42,sl,by kernel_rfl⟩|.c1 p=>⟨125,sl,by kernel_rfl⟩|.c2 p=>⟨125,sl,by kernel_rfl⟩|.c3 p=>⟨51,sl,by kernel_rfl⟩|.c4 p=>⟨51,sl,by kernel_rfl⟩) λ(m,n,c) f h=>apO)
instance:DecidableEq ik:=inferInstanceAs (DecidableEq (List Int×Int))
instance:DecidableEq fq:=inferInstanceAs (DecidableEq (Int×Int×Int×Int×Int))
instance:DecidableEq vq:=inferInstanceAs (DecidableEq (Int×Int×Int×Int×Int×Int×Int))
instance:DecidableEq iO:=inferInstanceAs (DecidableEq (Int×List Int×List ik×Int×Int))
def an1:DecidableEq (Int×Bool×Int×iO):=inferInstance
def an2:DecidableEq (fq×vq×Int×Bool×Int×iO):=have:=an1;inferInstance
instance:DecidableEq Node:=have:=an2;inferInstanceAs (DecidableEq (Int×Int×(fq×vq×Int×Bool×Int×iO)))
abbrev lH(A:aU)(m:ax)(n:Node):=(A.k kg (m,n,(A.bK n.2.1 1)))
def amt(A:aU)(m:ax)(n:Node):LT (Node×sj×Bool×Int) Empty:=.br (A.cu (lH A m n).2 0) (.ret ((0,0,(0,0,0,0,0),(0,0,0,0,0,0,0),0,false,0,0,([]:List Int),([]:List ik),0,0),(0,0,(0,0,0,0,0),0,([]:List Int)),false,(lH A m n).2)) (.br (A.ji (A.b .sub .i64 (lH A m n).1.2.2.2.2.1 1) 0) (.ret (((lH A m n).1.1,(lH A m n).1.2.1,(lH A m n).1.2.2.1,(lH A m n).1.2.2.2.1,(A.b .sub .i64 (lH A m n).1.2.2.2.2.1 1),(lH A m n).1.2.2.2.2.2),(0,0,(0,0,0,0,0),0,([]:List Int)),false,0)) (.ar (A.and (A.bU 0 (lH A m n).1.1) (A.bG (lH A m n).1.1 (A.l m.2.2.2.2.2.2.1))) (.br (A.not (A.n .bool m.2.2.2.2.2.2.1 (lH A m n).1.1:Bool)) (.ret (((lH A m n).1.1,(lH A m n).1.2.1,(lH A m n).1.2.2.1,(lH A m n).1.2.2.2.1,(A.k DR (m,(lH A m n).1.1)),(lH A m n).1.2.2.2.2.2),(0,0,(0,0,0,0,0),0,([]:List Int)),false,0)) (.ar (A.bU 0 (lH A m n).1.1) (.ret (((lH A m n).1.1,2,(0,(lH A m n).1.1,0,0,(A.b .shl .i64 1 (lH A m n).1.1)),((lH A m n).1.1,m.1,(A.b .shl .i64 1 (lH A m n).1.1),1,0,0,0),0,(lH A m n).1.2.2.2.2.2),(1,0,(0,0,0,0,0),(lH A m n).1.1,([]:List Int)),true,0))))))
def Ca:sj:=(0,0,(0,0,0,0,0),0,([]:List Int))
def iA(m:ax)(n:Node):Node×sj×Bool×Int:=
 bif decide (cZ m n=0) then
  bif decide (n.2.1=1) then
   bif decide (0<n.2.2.2.2.1-1) then((n.1,n.2.1,n.2.2.1,n.2.2.2.1,n.2.2.2.2.1-1,n.2.2.2.2.2),Ca,false,0)
   else bif (af.n .bool m.2.2.2.2.2.2.1 n.1:Bool) then((n.1,2,(0,n.1,0,0,af.b .shl .i64 1 n.1),(n.1,m.1,af.b .shl .i64 1 n.1,1,0,0,0),0,n.2.2.2.2.2),(1,0,(0,0,0,0,0),n.1,([]:List Int)),true,0)
   else((n.1,n.2.1,n.2.2.1,n.2.2.2.1,(ta m n.1).1,n.2.2.2.2.2),Ca,false,0)
  else(jX,Ca,false,181)
 else(jX,Ca,false,cZ m n)
theorem aeC{m:ax}{n:Int}:(ta m n).1<=9223372036854775807:=by
 unfold ta;cases decide (mZ m n=0)
 ·simp_all
 ·rw[cond_true,gp,IntKind.wrap_i64];omega
theorem af2(h:cZ m n=0)(f:n.2.1=1):1<=n.2.2.2.2.1/\af.b .sub .i64 n.2.2.2.2.1 1=n.2.2.2.2.1-1:=by
 have c:=(fD.1 (dh h).2).2.2.2.2.2.2.2.2.1;rw[xW,dn f,cond_true,rR] at c;have:=@aeC m n.1;exact⟨c.1,by rw[fO,lg (by omega) (by omega)]⟩
theorem ap1:aY Empty.elim (amt af m n) (iA m n):=by
 unfold amt lH iA;rw[show af.k kg (m,n,af.bK n.2.1 1)=m_ m n (af.bK n.2.1 1) from rfl,dq,m_];by_cases h:cZ m n=0
 ·rw[dn h,cond_true,cond_true]
  by_cases c:n.2.1=1
  ·obtain⟨l,i⟩:=af2 h c
   have g:=(fD.1 (dh h).2).1;have j:=iJ (dh h).1;rw[dn c,cond_true,cond_true,i];refine(ai rfl).2 (aV (p:=0<n.2.2.2.2.1-1) rfl (λf=>?_) λf=>au.2 ⟨yx j.2.2.1 g.1 (show n.1<m.1 by omega),?_⟩)
   ·exact aO (by rw[dn f];rfl) (.ret _)
   rw[gj f,cond_false];cases (af.n .bool m.2.2.2.2.2.2.1 n.1:Bool)
   ·exact(ak rfl).2 (.ret _)
   ·refine(ai rfl).2 (au.2 ⟨dn (show 0<=n.1 from g.1),?_⟩)
    exact .ret _
  ·rw[gj c]
   exact(ak rfl).2 (.ret _)
 ·rw[gj h];exact(ak (w_ h)).2 (.ret _)
def FM:(ax×Node)->(Node×sj×Bool×Int):=λ(m,n)=>iA m n
def asB:aK:=.all [bJ,eT] [eT,Ia,.bool,yI] FM
theorem aqJ:Sd 102 asB:=fa (bM ap dE sl 130 [] (λA (m,n)=>amt A m n) (kz (fc func102 (fc func80 fz)) (sc Ee (sc OM sz))) λ(m,n) c h=>ap1)
abbrev tA(A:aU)(m:ax)(n:Node):=(A.k kg (m,n,(A.k lY n)))
abbrev Kn(A:aU)(m:ax)(n:Node):=(A.k agr ((tA A m n).1.2.2.1,m.1))
abbrev abA(A:aU)(m:ax)(n:Node):LT (Node×Int) Empty:=(.ret (((tA A m n).1.1,(tA A m n).1.2.1,(Kn A m n).1,(tA A m n).1.2.2.2),(Kn A m n).2))
def ams(A:aU)(m:ax)(n:Node):LT (Node×Int) Empty:=.br (A.cu (tA A m n).2 0) (.ret ((0,0,(0,0,0,0,0),(0,0,0,0,0,0,0),0,false,0,0,([]:List Int),([]:List ik),0,0),(tA A m n).2)) (.br (A.bK (Kn A m n).2 0) (.br (A.bK (Kn A m n).1.2.1 0) (.ret (((tA A m n).1.1,(tA A m n).1.2.1,(Kn A m n).1,(tA A m n).1.2.2.2.1,(tA A m n).1.2.2.2.2.1,(tA A m n).1.2.2.2.2.2.1,(tA A m n).1.2.2.2.2.2.2.1,(A.k Yp (tA A m n).1.2.2.2.2.2.2.2).1),(A.k Yp (tA A m n).1.2.2.2.2.2.2.2).2)) (abA A m n)) (abA A m n))
def jq(m:ax)(n:Node):Node×Int:=
 bif decide (cZ m n=0) then
  bif kh n then
   bif decide ((qc n.2.2.1 m.1).1.2.1=0) then((n.1,n.2.1,(qc n.2.2.1 m.1).1,n.2.2.2.1,n.2.2.2.2.1,n.2.2.2.2.2.1,n.2.2.2.2.2.2.1,(I9 n.2.2.2.2.2.2.2).1),0)
   else((n.1,n.2.1,(qc n.2.2.1 m.1).1,n.2.2.2),0)
  else(jX,181)
 else(jX,cZ m n)
theorem step_ok(h:cZ m n=0)(g:kh n=true):(qc n.2.2.1 m.1).2=0:=by
 have c:=(fD.1 (dh h).2).2.2.2.2.2.2.2.1;rw[vy,g,cond_true,fv] at c;have f:=c.1;simp[iG,fv,rR] at f;rw[qc,dn f.1]
 grind
theorem alo(h:cZ m n=0):(I9 n.2.2.2.2.2.2.2).2=0:=by
 rw[I9,By h];rfl
theorem apL:aY Empty.elim (ams af m n) (jq m n):=by
 unfold ams abA Kn tA jq;rw[show af.k kg (m,n,af.k lY n)=m_ m n (kh n) from rfl,m_];by_cases h:cZ m n=0
 ·rw[dn h,cond_true,cond_true]
  cases h1:kh n
  ·exact(ak rfl).2 (.ret _)
  have f:=step_ok h h1;have g:=alo h;refine(ai rfl).2 ((ak (Xp f)).2 (aV (p:=(qc n.2.2.1 m.1).1.2.1=0) dq (λc=>aO ?_ (.ret _)) λc=>aO ?_ (.ret _)))
  ·rw[dn c];exact congrArg (Prod.mk _) g
  ·rw[gj c];exact congrArg (Prod.mk _) f
 ·rw[gj h];exact(ak (w_ h)).2 (.ret _)
def Yj:(ax×Node)->(Node×Int):=λ(m,n)=>jq m n
def asA:aK:=.all [bJ,eT] [eT,yI] Yj
theorem aqI:Sd 99 asA:=fa (bM ap dE sl 80 [] (λA (m,n)=>ams A m n) (kz (fc func99 fz) (sc BS (sc Ee (sc aqZ (sc aq0 sz))))) λ(m,n) c h=>apL)
def t23(A:aU)(j:Int)(l:Int)(i:Int)(h:Int)(c:Int)(g:Int)(f:Int):LT (vq×Int×Int) Empty:=.br (A.cu (A.k rE (j,l,i,h,c,g,f)) 0) (.ret ((0,0,0,0,0,0,0),0,(A.k rE (j,l,i,h,c,g,f)))) (.br (A.bU h c) (.ret ((j,l,i,h,c,g,f),2,0)) (.ar (A.bU 0 j) (.ret ((j,l,(A.b .or .i64 i (A.b .shl .i64 1 j)),1,0,1,0),1,0))))
def xn:vq->(vq×Int×Int):=λ(j,l,i,h,g,f,c)=>(t23 af j l i h g f c).val (Ty.aS [qQ,yI,yI])
def aww:aK:=.all [qQ] [qQ,yI,yI] xn
theorem aqy:Sd 268 aww:=fa (aR ap dE sl 67 [] (λA (l,m,j,i,g,f,c)=>t23 A l m j i g f c) (kz (fc func268 fz) (sc Q_ sz)) (λ((l,m,j,i,g,f,c):vq) o h=>by
 show(t23 af l m j i g f c).pre=true;simp only[t23,LT.pre,STD,bne_iff_ne,beq_iff_eq,bne_eq_false_iff_eq,beq_eq_false_iff_ne];simp only[Ty.jj,Ty.has,F_] at h
 (repeat' (first|intro _|constructor))<;>(try (have n:=gZ.1 (by assumption);unfold oq at n;omega))))
def t27(A:aU)(j:Int)(l:Int)(i:Int)(h:Int)(g:Int)(f:Int)(c:Int):LT (vq×Int×Int) Empty:=.br (A.bK (A.k rE (j,l,i,h,g,f,c)) 0) (.br (A.bK h 0) (.br (A.bK g 0) (.ret ((j,l,i,h,g,f,c),3,0)) (.ret (A.k xn (j,l,i,h,g,f,c)))) (.ret (A.k xn (j,l,i,h,g,f,c)))) (.ret (A.k xn (j,l,i,h,g,f,c)))
def CK:vq->(vq×Int×Int):=λ(j,l,i,h,g,f,c)=>(t27 af j l i h g f c).val (Ty.aS [qQ,yI,yI])
def awz:aK:=.all [qQ] [qQ,yI,yI] CK
theorem awj:Sd 269 awz:=fa (aR ap dE sl 43 [] (λA (j,l,i,h,g,f,c)=>t27 A j l i h g f c) (kz (fc func269 fz) (sc aqy (sc Q_ sz))))
abbrev abC(A:aU)(n:Node):LT (vq×Int) Empty:=(.br (A.bK n.2.1 3) (.br (A.cu (A.k CK n.2.2.2.1).2.2 0) (.ret (n.2.2.2.1,4)) (.ret ((A.k CK n.2.2.2.1).1,(A.k CK n.2.2.2.1).2.1))) (.br (A.cu (A.k xn n.2.2.2.1).2.2 0) (.ret (n.2.2.2.1,4)) (.ret ((A.k xn n.2.2.2.1).1,(A.k xn n.2.2.2.1).2.1))))
def amJ(A:aU)(n:Node):LT (vq×Int) Empty:=.br (A.bK n.2.1 2) (.br (A.bG n.2.2.2.1.2.2.2.1 2) (.ret (n.2.2.2.1,4)) (.br (A.bU n.2.2.2.1.2.2.2.1 n.2.2.2.1.2.2.2.2.1) (.ret (n.2.2.2.1,4)) (abC A n))) (abC A n)
def qo(n:Node):vq×Int:=bif decide (n.2.1=2)&&(decide (n.2.2.2.1.2.2.2.1<2)||decide (n.2.2.2.1.2.2.2.1<=n.2.2.2.1.2.2.2.2.1)) then(n.2.2.2.1,4) else bif decide (n.2.1=3) then((CK n.2.2.2.1).1,(CK n.2.2.2.1).2.1) else((xn n.2.2.2.1).1,(xn n.2.2.2.1).2.1)
theorem aeN{v:vq}(h:tG v=0):(xn v).2.2=0:=by
 simp[xn,t23,LT.val,bo,chk]
 grind
theorem ap4(h:tG n.2.2.2.1=0):aY Empty.elim (amJ af n) (qo n):=by
 unfold amJ abC qo;have j:=aeN h;have l:(CK n.2.2.2.1).2.2=0:=by
  generalize n.2.2.2.1=v at *;simp[CK,t27,LT.val,bo]
  grind
 have c:af.cu (af.k xn n.2.2.2.1).2.2 0=false:=IJ j;have f:af.cu (af.k CK n.2.2.2.1).2.2 0=false:=IJ l;refine aV (p:=n.2.1=2) dq (λg=>aV (p:=n.2.2.2.1.2.2.2.1<2) rfl (λm=>aO ?_ (.ret _)) λm=>aV (p:=n.2.2.2.1.2.2.2.1<=n.2.2.2.1.2.2.2.2.1) rfl (λo=>aO ?_ (.ret _)) λo=>(ai (by rw[dq];simp_all)).2 ((ai c).2 (aO ?_ (.ret _)))) λg=>aV (p:=n.2.1=3) dq (λi=>(ai f).2 (aO ?_ (.ret _))) λi=>(ai c).2 (aO ?_ (.ret _))
 ·simp_all
 ·simp_all
 ·rw[dn g,gj m,gj o,gj (show ¬n.2.1=3 by omega)];rfl
 ·rw[gj g,dn i];rfl
 ·rw[gj g,gj i];rfl
def FP:Node->(vq×Int):=qo
def Z_:Node->Bool:=λn=>decide (tG n.2.2.2.1=0)
def asV:aK:=⟨[eT], [qQ,yI],Z_,FP,false⟩
theorem aqW:Sd 221 asV:=bM ap dE sl 83 [] (λA n=>amJ A n) (kz (fc func221 fz) (sc aqy (sc awj sz))) λ(n:Node) c h=>ap4 (of_decide_eq_true c)
def ajM(m:ax)(k n:Int):Int:=af.n yI (af.n fC m.2.2.2.2.2.2.2 k:Mode).1 n
def UG(m:ax)(n:Node):Int:=ajM m n.2.2.1.2.2.1 n.1
def ap6(m:ax)(n:Node):Int:=bif decide ((Fb m n.2.2.1 n.2.2.2.2.2.2.2.2.2.2.2).2=0) then(Fb m n.2.2.1 n.2.2.2.2.2.2.2.2.2.2.2).1 else 0
def Q9(m:ax)(n:Node):sj:=((kW m n.2.2.1.2.2.1 n.1).1,ap6 m n,n.2.2.1,0,bif decide ((kW m n.2.2.1.2.2.1 n.1).1=3) then([]:List Int) else(GY n.2.2.2.2.2.2.2 (UG m n)).1)
def Vz(m:ax)(n:Node):Bool:=decide ((kW m n.2.2.1.2.2.1 n.1).2=0)&&gv n.2.2.2.2.2.2.2
theorem adZ{n:Int}(g:dC m=true)(h:0<=n/\n<=m.1-1)(x:Mode)(c:o_ m x=true):0<=x.1.getD n.toNat 0/\x.1.getD n.toNat 0<=8:=by
 have l:=vh c;have i:=(iJ g).2.2.1;simp[o_,fv] at c;have f:=c.2;have l1:m.2.2.2.2.2.2.1.length=x.1.length:=by omega
 have l2:x.2.1.length=x.1.length:=by omega
 rw[Ad l1 l2,fv] at f;have j:n.toNat<x.1.length:=by omega
 simp_all
theorem XE{k n:Int}(f:dC m=true)(g:0<=n/\n<=m.1-1)(c:0<=k/\k<iD m):0<=ajM m k n/\ajM m k n<=8:=adZ f g _ (Bu f c.1 c.2)
theorem aaY{c:iO}{k:Int}(h:gv c=true)(f:0<=k/\k<=8):(GY c k).2=0:=by
 rw[GY,h,cond_true,dn f];rfl
abbrev OT(A:aU)(m:ax)(n:Node):=(A.k Yr (n.2.2.2.2.2.2.2,(A.n yI (A.n fC m.2.2.2.2.2.2.2 n.2.2.1.2.2.1:Mode).1 n.1:Int)))
abbrev BX(A:aU)(m:ax)(n:Node):=(A.k zl (m,n.2.2.1.2.2.1,n.1))
abbrev abD(A:aU)(m:ax)(n:Node):=(A.and (A.bU 0 n.1) (A.bG n.1 (A.l (A.n fC m.2.2.2.2.2.2.2 n.2.2.1.2.2.1:Mode).1)))
def amK(A:aU)(m:ax)(n:Node):LT (sj×Int) Empty:=.br (A.cu (BX A m n).2 0) (.ret ((0,0,(0,0,0,0,0),0,([]:List Int)),(BX A m n).2)) (.br (A.bK (A.k NF (m,n.2.2.1,n.2.2.2.2.2.2.2.2.2.2.2)).2 0) (.br (A.bK (BX A m n).1 3) (.ret (((BX A m n).1,(A.k NF (m,n.2.2.1,n.2.2.2.2.2.2.2.2.2.2.2)).1,n.2.2.1,0,([]:List Int)),0)) (.ar (A.and (A.bU 0 n.2.2.1.2.2.1) (A.bG n.2.2.1.2.2.1 (A.l m.2.2.2.2.2.2.2))) (.ar (abD A m n) (.ret (((BX A m n).1,(A.k NF (m,n.2.2.1,n.2.2.2.2.2.2.2.2.2.2.2)).1,n.2.2.1,0,(OT A m n).1),(OT A m n).2))))) (.br (A.bK (BX A m n).1 3) (.ret (((BX A m n).1,0,n.2.2.1,0,([]:List Int)),0)) (.ar (A.and (A.bU 0 n.2.2.1.2.2.1) (A.bG n.2.2.1.2.2.1 (A.l m.2.2.2.2.2.2.2))) (.ar (abD A m n) (.ret (((BX A m n).1,0,n.2.2.1,0,(OT A m n).1),(OT A m n).2))))))
theorem apZ(h:Vz m n=true):aY Empty.elim (amK af m n) (Q9 m n,0):=by
 rw[Vz,fv,rR] at h;obtain⟨i,f,c⟩:=yu h.1;have j:=vh (Bu i c.1 c.2);have l:=aaY h.2 (XE i f c);unfold amK abD BX OT Q9 ap6;rw[show af.k zl (m,n.2.2.1.2.2.1,n.1)=kW m n.2.2.1.2.2.1 n.1 from rfl,show af.k NF (m,n.2.2.1,n.2.2.2.2.2.2.2.2.2.2.2)=Fb m n.2.2.1 n.2.2.2.2.2.2.2.2.2.2.2 from rfl,show af.k Yr (n.2.2.2.2.2.2.2,(af.n yI (af.n fC m.2.2.2.2.2.2.2 n.2.2.1.2.2.1:Mode).1 n.1:Int))=GY n.2.2.2.2.2.2.2 (UG m n) from rfl]
 have o:∀q:Int,aY (R:=sj×Int) Empty.elim (.br (af.bK (kW m n.2.2.1.2.2.1 n.1).1 3) (.ret (((kW m n.2.2.1.2.2.1 n.1).1,q,n.2.2.1,0,([]:List Int)),0)) (.ar (af.and (af.bU 0 n.2.2.1.2.2.1) (af.bG n.2.2.1.2.2.1 (af.l m.2.2.2.2.2.2.2))) (.ar (af.and (af.bU 0 n.1) (af.bG n.1 (af.l (af.n fC m.2.2.2.2.2.2.2 n.2.2.1.2.2.1:Mode).1))) (.ret (((kW m n.2.2.1.2.2.1 n.1).1,q,n.2.2.1,0,(GY n.2.2.2.2.2.2.2 (UG m n)).1),(GY n.2.2.2.2.2.2.2 (UG m n)).2))))) (((kW m n.2.2.1.2.2.1 n.1).1,q,n.2.2.1,0,bif decide ((kW m n.2.2.1.2.2.1 n.1).1=3) then([]:List Int) else(GY n.2.2.2.2.2.2.2 (UG m n)).1),0):=λq=>
  aV (p:=(kW m n.2.2.1.2.2.1 n.1).1=3) dq (λg=>aO (by simp_all) (.ret _)) λg=>au.2 ⟨yy c.1 c.2,au.2 ⟨yx j.1 f.1 (by omega),aO (by rw[gj g,show(GY n.2.2.2.2.2.2.2 (UG m n)).2=0 from l];rfl) (.ret _)⟩⟩
 refine(ai (IJ h.1)).2 (aV (p:=(Fb m n.2.2.1 n.2.2.2.2.2.2.2.2.2.2.2).2=0) dq (λg=>?_) λg=>?_)
 all_goals simp_all
def FQ:(ax×Node)->(sj×Int):=λ(m,n)=>(Q9 m n,0)
def aaa:(ax×Node)->Bool:=λ(m,n)=>Vz m n
def asX:aK:=⟨[bJ,eT], [Ia,yI],aaa,FQ,false⟩
theorem aqY:Sd 223 asX:=bM ap dE sl 111 [] (λA (m,n)=>amK A m n) (kz (fc func223 fz) (sc ahd (sc aq5 (sc aq6 sz)))) λ((m,n):ax×Node) c h=>apZ c
def akg(n:Node)(v:vq):Node:=(n.1,4,(n.2.2.1.1,n.2.2.1.2.1,n.2.2.1.2.2.1,n.2.2.1.2.2.2.1,v.2.2.1),v,n.2.2.2.2.1,false,n.2.2.2.2.2.2)
def aky(n:Node)(s t:Int)(b:Bool)(c:Int):Node:=(n.1,s,(0,0,0,0,0),(0,0,0,0,0,0,0),t,b,c,n.2.2.2.2.2.2.2)
def aeZ(m:ax)(n:Node):Node×sj×Bool×Int:=((n.1,n.2.1,qd m n.2.2.1 (Q9 m n).2.1,n.2.2.2),Q9 m n,true,0)
def Ec(m:ax)(n:Node):Node×sj×Bool×Int:=bif decide ((qo n).2=2) then(aky n 5 0 false 1,Ca,false,0) else bif decide ((qo n).2=3) then(aky n 1 (ta m n.1).1 n.2.2.2.2.2.1 2,Ca,false,0) else bif decide ((qo n).2=4) then(aky n 1 (I_ m n.1).1 n.2.2.2.2.2.1 n.2.2.2.2.2.2.1,Ca,false,0) else aeZ m (akg n (qo n).1)
def rm(m:ax)(n:Node):Node×sj×Bool×Int:=bif decide (cZ m n=0) then(bif kh n&&decide (n.2.2.1.2.1=n.1) then Ec m n else(jX,Ca,false,181)) else(jX,Ca,false,cZ m n)
theorem pV(h:cZ m n=0)(c:kh n=true):iG m n.2.2.1=true/\tG n.2.2.2.1=0/\n.2.2.2.1.1=n.1/\n.2.2.2.1.2.1=m.1/\n.2.2.1.2.2.2.2=n.2.2.2.1.2.2.1:=by
 have f:=(fD.1 (dh h).2).2.2.2.2.2.2.2.1;rw[vy,c,cond_true] at f
 simp_all
theorem aev{k n:Int}(f:dC m=true)(c:0<=n/\n<=m.1-1)(g:0<=k/\k<iD m):(kW m k n).2=0:=by
 rw[kW,mZ,f,cond_true,dn c,dn (show 0<=k/\k<=iD m-1 by omega)];rfl
theorem A6(h:iG m c=true):qZ (c,m.1)=0/\(0<=c.2.2.1/\c.2.2.1<iD m)/\c.2.2.2.1<=iD m:=by
 simp[iG,fv,rR] at h;exact⟨h.1,⟨(w6 h.1).2.2.2.1.1,h.2.1⟩,h.2.2⟩
theorem alQ{v:vq}(h:cZ m n=0)(c:kh n=true):Vz m (akg n v)=true:=by
 have f:=fD.1 (dh h).2;rw[Vz,fv];exact⟨dn (aev (dh h).1 f.1 (A6 (pV h c).1).2.1),show gv n.2.2.2.2.2.2.2=true from By h⟩
theorem akB:af.k DR (m,i)=(ta m i).1:=rfl
theorem alu:af.k Yo (m,i)=(I_ m i).1:=rfl
structure Pf where
 (a0:Int) (a1:ax) (a2 a3:vq) (a4:Int) (a5:Bool) (a6 a7 a8 a9:Int) (iN:vq) (kV:Int) (a12:Node)
structure Wu where
 (b0:ax) (b1 b2:vq) (b3:Int) (b4:Bool) (b5 b6 b7 b8:Int) (b9:vq) (b10:Int) (b11:Node)
inductive ac2 where
 | c0 (p:Pf)
 | c1 (p:Wu)
noncomputable def aiU:ac2->iB
 | .c0 p=>⟨[⟨171,91,(en [(2,.ptr 0 0),(4,.ptr 1 0),(5,.ptr 2 0),(8,.ptr 3 0),(9,vi p.a0)]),(.code (cw f171 [1,1,0,0])::sk f171 [1,1,0,0]),[],none⟩],[.ay false (dc bJ p.a1),.ay false (dc qQ p.a2++dc qQ p.a3 ++ [vi p.a4,vb p.a5,vi p.a6,vi p.a7,.gb true,.gb true,vi p.a8,vi p.a9]),.ay false (dc qQ p.iN ++ [vi p.kV,.gb true]),.ay false (dc eT p.a12),.a_]⟩
 | .c1 p=>⟨[⟨171,91,(en [(2,.ptr 0 0),(4,.ptr 1 0),(5,.ptr 2 0),(8,.ptr 3 0)]),(.code (cw f171 [1,1,1,1,1,1,0])::sk f171 [1,1,1,1,1,1,0]),[],none⟩],[.ay false (dc bJ p.b0),.ay false (dc qQ p.b1++dc qQ p.b2 ++ [vi p.b3,vb p.b4,vi p.b5,vi p.b6,.gb true,.gb true,vi p.b7,vi p.b8]),.ay false (dc qQ p.b9 ++ [vi p.b10,.gb true]),.ay false (dc eT p.b11),.a_]⟩
def amr(A:aU)(m:ax)(n:Node):LT (Node×sj×Bool×Int) ac2:=.br (A.k lY n) (.eqs (((A.k lY n):Bool)=true) (.ao (.c0 ⟨(A.k kg (m,n,(A.bK n.2.2.1.2.1 n.1))).2,m,(0,0,0,0,0,0,0),(0,0,0,0,0,0,0),0,false,0,0,0,0,(0,0,0,0,0,0,0),0,(A.k kg (m,n,(A.bK n.2.2.1.2.1 n.1))).1⟩))) (.eqs (((A.k lY n):Bool)=false) (.ao (.c0 ⟨(A.k kg (m,n,false)).2,m,(0,0,0,0,0,0,0),(0,0,0,0,0,0,0),0,false,0,0,0,0,(0,0,0,0,0,0,0),0,(A.k kg (m,n,false)).1⟩)))
def Oz(A:aU):ac2->LT (Node×sj×Bool×Int) ac2
 | .c0 p=>.br (A.cu p.a0 0) (.ret ((0,0,(0,0,0,0,0),(0,0,0,0,0,0,0),0,false,0,0,([]:List Int),([]:List ik),0,0),(0,0,(0,0,0,0,0),0,([]:List Int)),false,p.a0)) (.ar (A.k Z_ p.a12) (.br (A.bK (A.k FP p.a12).2 2) (.ret ((p.a12.1,5,(0,0,0,0,0),(0,0,0,0,0,0,0),0,false,1,p.a12.2.2.2.2.2.2.2),(0,0,(0,0,0,0,0),0,([]:List Int)),false,0)) (.br (A.bK (A.k FP p.a12).2 3) (.ret ((p.a12.1,1,(0,0,0,0,0),(0,0,0,0,0,0,0),(A.k DR (p.a1,p.a12.1)),p.a12.2.2.2.2.2.1,2,p.a12.2.2.2.2.2.2.2),(0,0,(0,0,0,0,0),0,([]:List Int)),false,0)) (.br (A.bK (A.k FP p.a12).2 4) (.ret ((p.a12.1,1,(0,0,0,0,0),(0,0,0,0,0,0,0),(A.k Yo (p.a1,p.a12.1)),p.a12.2.2.2.2.2),(0,0,(0,0,0,0,0),0,([]:List Int)),false,0)) (.ao (.c1 ⟨p.a1,p.a2,p.a3,p.a4,p.a5,p.a6,p.a7,p.a8,p.a9,p.iN,p.kV,(p.a12.1,4,(p.a12.2.2.1.1,p.a12.2.2.1.2.1,p.a12.2.2.1.2.2.1,p.a12.2.2.1.2.2.2.1,(A.k FP p.a12).1.2.2.1),(A.k FP p.a12).1,p.a12.2.2.2.2.1,false,p.a12.2.2.2.2.2.2)⟩))))))
 | .c1 p=>.ar (A.k aaa (p.b0,p.b11)) (.br (A.cu (A.k FQ (p.b0,p.b11)).2 0) (.ret ((0,0,(0,0,0,0,0),(0,0,0,0,0,0,0),0,false,0,0,([]:List Int),([]:List ik),0,0),(0,0,(0,0,0,0,0),0,([]:List Int)),false,(A.k FQ (p.b0,p.b11)).2)) (.br (A.bK (A.k A9 (p.b0,p.b11.2.2.1,(A.k FQ (p.b0,p.b11)).1.2.1)).2 0) (.ret ((p.b11.1,p.b11.2.1,(A.k A9 (p.b0,p.b11.2.2.1,(A.k FQ (p.b0,p.b11)).1.2.1)).1,p.b11.2.2.2),(A.k FQ (p.b0,p.b11)).1,true,0)) (.ret (p.b11,(A.k FQ (p.b0,p.b11)).1,true,0))))
theorem alc{p:Wu}(h:Vz p.b0 p.b11=true):aY (Oz af) (.ao (.c1 p)) (aeZ p.b0 p.b11):=by
 rw[aA,Oz,aeZ];refine au.2 ⟨h,(ai rfl).2 (aV (p:=(EB p.b0 p.b11.2.2.1 (Q9 p.b0 p.b11).2.1).2=0) dq (λg=>aO ?_ (.ret _)) λg=>aO ?_ (.ret _))⟩
 ·rw[qd,dn g];rfl
 ·rw[qd,gj g];rfl
theorem alb{p:Pf}(l:p.a0=0)(o:p.a1=m)(i:p.a12=n)(h:cZ m n=0)(j:kh n=true):aY (Oz af) (.ao (.c0 p)) (Ec m n):=by
 subst o i;rw[aA,Oz,Ec,l,akB,alu,show af.k FP p.a12=qo p.a12 from rfl];refine(ai rfl).2 (au.2 ⟨dn (pV h j).2.1,aV (p:=(qo p.a12).2=2) dq (λg=>aO ?_ (.ret _)) λg=>aV (p:=(qo p.a12).2=3) dq (λc=>aO ?_ (.ret _)) λc=>aV (p:=(qo p.a12).2=4) dq (λf=>aO ?_ (.ret _)) λf=>?_⟩)
 ·rw[dn g];rfl
 ·rw[gj g,dn c];rfl
 ·rw[gj g,gj c,dn f];rfl
 ·rw[gj g,gj c,gj f]
  exact alc (alQ h j)
theorem av5:aY (Oz af) (amr af m n) (rm m n):=by
 unfold amr rm;rw[show af.k lY n=kh n from rfl];have c:∀q:Pf,q.a0=(m_ m n false).2->aY (Oz af) (.ao (.c0 q)) (bif decide (cZ m n=0) then(jX,Ca,false,181) else(jX,Ca,false,cZ m n)):=λq g=>by
  rw[aA,Oz,g,m_];by_cases h:cZ m n=0
  ·rw[dn h];exact(ak rfl).2 (.ret _)
  ·rw[gj h];exact(ak (w_ h)).2 (.ret _)
 cases hi:kh n
 ·exact(ai rfl).2 (xR.2 ⟨rfl,c _ rfl⟩)
 ·refine(ak rfl).2 (xR.2 ⟨rfl,?_⟩)
  rw[show ∀w,af.k kg (m,n,w)=m_ m n w from λ_=>rfl,dq,cY];by_cases f:n.2.2.1.2.1=n.1
  ·rw[dn f,cond_true]
   by_cases h:cZ m n=0
   ·have e:m_ m n true=(n,0):=by rw[m_,dn h];rfl
    rw[dn h,e];exact alb rfl rfl rfl h hi
   ·have:=c ⟨(m_ m n true).2,m,(0,0,0,0,0,0,0),(0,0,0,0,0,0,0),0,false,0,0,0,0,(0,0,0,0,0,0,0),0,(m_ m n true).1⟩ (by rw[m_,m_,gj h];rfl)
    simp_all
  simp_all
def agm:(ax×Node)->(Node×sj×Bool×Int):=λ(m,n)=>rm m n
def asz:aK:=.all [bJ,eT] [eT,Ia,.bool,yI] agm
theorem aqH:Sd 171 asz:=fa (bp ap dE sl 39 [] [⟨171,2, [[2,4,5,8,9]]⟩,⟨171,18, [[2,4,5,8]]⟩] (λA (m,n)=>amr A m n) Oz aiU (kz (fc func171 (fc func193 (fc func217 fz))) (sc BS (sc Ee (sc OM (sc aqW (sc aqX (sc aqY (sc aa7 sz)))))))) (λA y=>match y with |.c0 p=>⟨89,sl,by kernel_rfl⟩|.c1 p=>⟨74,sl,by kernel_rfl⟩) λ(m,n) c h=>av5)
variable{e:Int}
theorem Z6{c d f:Int}(h:oq a b c d e f g)(i:e<d):xn (a,b,c,d,e,f,g)=((a,b,pH c a,1,0,1,0),1,0):=by
 simp[xn,t23,LT.val,bo,cq,aB,gZ.2 h,pH,show ¬d<=e from by omega]
theorem Z7{c d f:Int}(h:oq a b c d e f g)(i:d<=e):xn (a,b,c,d,e,f,g)=((a,b,c,d,e,f,g),2,0):=by
 simp[xn,t23,LT.val,bo,cq,aB,gZ.2 h,i]
theorem inc_le{d:Int}(c:0<=d)(f:d<=1048576):0<=inc d/\inc d<=1048576:=by
 unfold inc;omega
theorem ZY{c d f j l:Int}(h:oq a b c d e f g)(m:0<=i/\i<((2^b.toNat:Nat):Int))(n:0<=j/\j<=1048576)(o:0<=l/\l<=1048576):oq a b i j l 0 0:=by
 unfold oq at h ⊢;omega
theorem Y0{c d f k:Int}(h:oq a b c d e f g)(j:0<=s)(o:s<b)(q:s≠a)(W:k=0\/k=1)(Q:(u7 ((a,b,c,d,e,f,g),s,k)).2=0):
  ∃B J K O P,(u7 ((a,b,c,d,e,f,g),s,k)).1=(a,b,B,J,K,O,P)/\oq a b B J K O P/\qY B s=true:=by
 have X:=h;unfold oq at X;have Z:=Ah (n:=b.toNat) (by omega);have id:=inc_le (d:=d) (by omega) (by omega);have S:=inc_le (d:=e) (by omega) (by omega);have I:=λ{c s:Int} (h:0<=c/\c<((2^b.toNat:Nat):Int)) (u:0<=s/\s<b)=>Zd (c:=c) (s:=s) (n:=b) h.1 (by omega) h.2 u.1 u.2;have D:=λ{c s:Int} (h:0<=c/\c<((2^b.toNat:Nat):Int)) (u:0<=s/\s<b)=>XF (c:=c) (s:=s) (n:=b) h.1 (by omega) h.2 u.1 (by omega);have z:=λ{c s:Int} (h:0<=c/\c<((2^b.toNat:Nat):Int)) (u:0<=s/\s<b) {i:Int} (C:0<=i)=>R2 (c:=c) (s:=s) (i:=i) h.1 (by omega) u.1 (by omega) C;have H:=λ{c s:Int} (h:0<=c/\c<((2^b.toNat:Nat):Int)) (u:0<=s/\s<b) {i:Int} (C:0<=i)=>KF (c:=c) (s:=s) (i:=i) h.1 (by omega) u.1 (by omega) C;have l:0<=c/\c<((2^b.toNat:Nat):Int):=⟨by omega,by omega⟩;have v:0<=a/\a<b:=⟨by omega,by omega⟩;have m:0<=s/\s<b:=⟨j,o⟩;have A:0<=g/\g<b:=⟨by omega,by omega⟩;have V:f=0\/f=1\/f=2:=by omega
 rcases V with rfl|rfl|rfl<;>rcases W with rfl|rfl
 ·rw[YX h j o q]
  exact⟨_,_,_,_,_,rfl,ZY h (I l m) id (by omega),by simp_all⟩
 ·exfalso
  revert Q;simp[u7,t25,Ha,LT.val,bo,cq,bd,lf,jJ.2 ⟨h,j,o,q⟩,ua h j o q,PZ]
 ·rw[YY h j o q]
  exact⟨_,_,_,_,_,rfl,ZY h (I (I l m) v) id (by omega),by simp_all⟩
 ·rw[SP h j o q]
  refine⟨_,_,_,_,_,rfl,?_,by simp_all⟩;have:=I l m;unfold oq
  simp_all
 ·by_cases p:s=g
  ·subst p
   rw[SQ h j o q];exact⟨_,_,_,_,_,rfl,ZY h (I (I l m) v) id (by omega),by rw[z (I l m) v j,z l m j];simp⟩
  ·rw[SS h j o q p]
   exact⟨_,_,_,_,_,rfl,ZY h (D (I (I l m) v) A) id S,by
    have E:(g != s)=true:=by simp;omega
    rw[H (I (I l m) v) A j,z (I l m) v j,z l m j,E];simp⟩
 ·by_cases p:s=g
  ·subst p
   exfalso;revert Q;simp[u7,t25,Ha,LT.val,bo,cq,bd,lf,jJ.2 ⟨h,j,o,q⟩,ua h j o q,Lb]
  ·rw[SU h j o q p]
   exact⟨_,_,_,_,_,rfl,ZY h (D (I (I l m) A) v) id S,by
    have E:(a != s)=true:=by simp;omega
    rw[H (I (I l m) A) v j,z (I l m) A j,z l m j,E];simp⟩
theorem ZT{c d f:Int}(h:oq a b c d e f g)(j:0<=s)(u:s<b)(m:s≠a):
  ∃o p q,uH ((a,b,c,d,e,f,g),s)=((a,b,o,d,e,p,q),0)/\oq a b o d e p q:=by
 have v:=h;unfold oq at v;have B:=Ah (n:=b.toNat) (by omega);have A:=XF (c:=c) (s:=s) (n:=b) (by omega) (by omega) (by omega) j (by omega);have z:f≠0->qY (wQ c s) a=true:=λl=>by
  rw[KF (by omega) (by omega) j (by omega) (by omega),v.2.2.2.2.2.2.2.2.2.2.2.2.2.2.1 l]
  simp_all
 by_cases l:f=2
 ·subst l
  by_cases i:g=s
  ·subst i
   refine⟨_,_,_,ZS h m,?_⟩;unfold oq
   grind
  ·refine⟨_,_,_,ZR h j u m i,?_⟩
   unfold oq
   simp_all
 ·refine⟨_,_,_,ZQ h j u m l,?_⟩
  unfold oq
  simp_all
theorem apC{c d f:Int}(h:oq a b c d e f g)(j:0<=i/\i<=1048576):oq a b c d i f g:=by
 unfold oq at h ⊢
 simp_all
theorem Tw{c d f:Int}(h:oq a b c d e f g):∃i l m o p v,xn (a,b,c,d,e,f,g)=((a,b,i,l,m,o,p),v,0)/\oq a b i l m o p/\(v==1)=decide (e<d)/\(v=1->qY i a=true):=by
 have u:=h;unfold oq at u;have A:=Ah (n:=b.toNat) (by omega);have z:=Zd (c:=c) (s:=a) (n:=b) (by omega) (by omega) (by omega) (by omega) (by omega);have q:qY (pH c a) a=true:=by rw[R2 (by omega) (by omega) (by omega) (by omega) (by omega)];simp
 by_cases j:e<d
 ·refine⟨_,_,_,_,_,_,Z6 h j,?_,by simp_all,λ_=>q⟩
  unfold oq
  grind
 ·exact⟨_,_,_,_,_,_,Z7 h (by omega),h,by simp_all,λh=>by omega⟩
theorem Zg{c d f:Int}(h:oq a b c d e f g):∃i j l m n v,CK (a,b,c,d,e,f,g)=((a,b,i,j,l,m,n),v,0)/\oq a b i j l m n/\(v==1)=decide (e<d):=by
 obtain⟨i,j,l,m,n,v,q,u,z,_⟩:=Tw h;by_cases o:d=0/\e=0
 ·refine⟨c,d,e,f,g,3,?_,h,?_⟩
  ·obtain⟨rfl,rfl⟩:=o
   simp[CK,t27,LT.val,bo,bd,gZ.2 h]
  simp_all
 ·refine⟨i,j,l,m,n,v,?_,u,z⟩
  rw[<-q];by_cases p:d=0
  ·have B:(e==0)=false:=by simp_all
   simp[CK,t27,LT.val,bo,bd,gZ.2 h,p,B]
  ·have A:(d==0)=false:=by simp_all
   simp[CK,t27,LT.val,bo,bd,gZ.2 h,A]
variable{o:Int×Int×Int×(Int×Int×(Int×Int×Int×Int×Int)×Int×List Int)×Int}
theorem OH{c:Int×Int×Int×Int×Int}{w:Int}:∀{l:List (Int×Int×(Int×List Int))} {k:Nat},vX c w k l=some o->o.1=3/\∃s∈l,s.1=2:=by
 intro l
 induction l with
 | nil=>intro k h;cases h
 | cons s l ih=>
   intro k h;rw[vX] at h
   grind
theorem Mp{p m n:Int}{c:List (Int×Int×(Int×List Int))}:∀{l:List Int} {i:Nat},uw t p m n c i l=some o->o.1=3/\∃s∈c,s.1=2:=by
 intro l
 induction l with
 | nil=>intro i h;cases h
 | cons v l ih=>
   intro i h;rw[uw] at h;split at h
   rotate_left
   exact ih h;rename_i g f;cases h;exact OH f
theorem Mn{c:Int×Int×Int×Int×Int}{w:Int}:∀{l:List (Int×Int×(Int×List Int))} {k:Nat},vX c w k l=some o->o.2.1=w:=by
 intro l
 induction l with
 | nil=>intro k h;cases h
 | cons s l ih=>
   intro k h;rw[vX] at h
   grind
theorem Jh{p m n:Int}{c:List (Int×Int×(Int×List Int))}:∀{l:List Int} {i:Nat},uw t p m n c i l=some o->∃k,k<l.length/\o.2.1=((i+k:Nat):Int):=by
 intro l
 induction l with
 | nil=>intro i h;cases h
 | cons v l ih=>
   intro i h;rw[uw] at h;cases hs:vX (t,p,m,n,v) (i:Int) 0 c with
   | none=>
     rw[hs] at h;obtain⟨k,f,g⟩:=ih h;exact⟨k+1,by simp_all,by omega⟩
   | some j=>
     rw[hs] at h;cases h;exact⟨0,by simp_all,by rw[Mn hs];rfl⟩
variable{v:Int×Int×Int×Int×Int×Int×Int}
theorem An{p m n c:Int}{f:List (Int×Int×(Int×List Int))}(h:(qt ((t,p,m,n,s),v,c,f)).2=0):
  rE v=0/\0<=c/\c<v.2.1/\c≠v.1/\((∃k,k<(vws (v,c)).length/\(qt ((t,p,m,n,s),v,c,f)).1.1=3/\(qt ((t,p,m,n,s),v,c,f)).1.2.1=(k:Int))\/(qt ((t,p,m,n,s),v,c,f)).1.1=1\/(qt ((t,p,m,n,s),v,c,f)).1.1=2):=by
 rw[qt] at h ⊢;cases h1:(rE v != 0||qZ ((t,p,m,n,s),v.2.1) != 0)
 ·rw[h1] at h
  cases h2:(decide (c<0)||decide (v.2.1<=c)||c==v.1||f.length != 2)
  ·rw[cond_false]
   simp at h1 h2;refine⟨h1.1,by omega,by omega,h2.1.2,?_⟩;rw[Kg];cases h3:uw t p m n f 0 (vws (v,c)) with
   | some o=>
     obtain⟨k,g,i⟩:=Jh h3;exact .inl ⟨k,g,(Mp h3).1,by simp_all⟩
   | none=>
     right;rw[BQ]
     grind
  simp_all
 simp_all
theorem BF{c d f:Int}(h:oq a b c d e f g)(j:0<=s)(q:s<b)(p:s≠a):
  ∃i n o,uH ((a,b,c,d,e,f,g),s)=((a,b,i,d,e,n,o),0)/\oq a b i d e n o/\qY i s=false:=by
 obtain⟨i,n,o,m,v⟩:=ZT h j q p;refine⟨i,n,o,m,v,?_⟩;have z:=apB h;have A:=h;unfold oq at A;have:i=wQ c s:=by
  by_cases u:f=2
  ·subst u
   by_cases l:g=s
   ·subst l
    rw[ZS h p] at m
    simp_all
   ·rw[ZR h j q p l] at m
    simp_all
  ·rw[ZQ h j q p u] at m
   simp_all
 rw[this,KF (by omega) z j (by omega) j,bne_self_eq_false,dD]
theorem YZ{c d f:Int}{k:Nat}(h:oq a b c d e f g)(l:0<=s)(m:s<b)(n:s≠a)(j:k<(vws ((a,b,c,d,e,f,g),s)).length):(u7 ((a,b,c,d,e,f,g),s,(k:Int))).2=0/\((k:Int)=0\/(k:Int)=1):=by
 have p:=h;unfold oq at p;have o:f=0\/f=1\/f=2:=by omega
 rw[vws] at j;rcases o with rfl|rfl|rfl
 ·rw[PZ] at j
  have:k=0:=by simp_all
  subst this;exact⟨by rw[show((0:Nat):Int)=0 from rfl,YX h l m n],.inl rfl⟩
 ·rw[P0] at j
  have:k<2:=j;have:k=0\/k=1:=by omega
  rcases this with rfl|rfl
  ·exact⟨by rw[show((0:Nat):Int)=0 from rfl,YY h l m n],.inl rfl⟩
  ·exact⟨by rw[show((1:Nat):Int)=1 from rfl,SP h l m n],.inr rfl⟩
 ·by_cases i:s=g
  ·subst i
   rw[Lb] at j;have:k=0:=by simp_all
   subst this;exact⟨by rw[show((0:Nat):Int)=0 from rfl,SQ h l m n],.inl rfl⟩
  ·rw[Lc i] at j
   have:k<2:=j;have:k=0\/k=1:=by omega
   rcases this with rfl|rfl
   ·exact⟨by rw[show((0:Nat):Int)=0 from rfl,SS h l m n i],.inl rfl⟩
   ·exact⟨by rw[show((1:Nat):Int)=1 from rfl,SU h l m n i],.inr rfl⟩
theorem adL(h:o.1=1):oN (v,s,o)=uH (v,s):=by
 obtain⟨k,w,f,⟨i,j,⟨t,p,m,n,x⟩,g,fd⟩,c⟩:=o;subst h;rfl
theorem KC(h:o.1=2):oN (v,s,o)=Yn (v,s):=by
 obtain⟨k,w,f,⟨i,j,⟨t,p,m,n,x⟩,g,fd⟩,c⟩:=o;subst h;rfl
theorem adM(h:o.1=3):oN (v,s,o)=u7 (v,s,o.2.1):=by
 obtain⟨k,w,f,⟨i,j,⟨t,p,m,n,x⟩,g,fd⟩,c⟩:=o;subst h;rfl
theorem Jx{p m n c d f:Int}{j:List (Int×Int×(Int×List Int))}(h:(qt ((t,p,m,n,x),(a,b,c,d,e,f,g),s,j)).2=0):
  ∃l C D o q,oN ((a,b,c,d,e,f,g),s,(qt ((t,p,m,n,x),(a,b,c,d,e,f,g),s,j)).1)=((a,b,l,C,D,o,q),0)/\oq a b l C D o q/\qY l s=((qt ((t,p,m,n,x),(a,b,c,d,e,f,g),s,j)).1.1==3)/\0<=s/\s<b:=by
 obtain⟨J,u,v,B,K⟩:=An h;have i:=gZ.1 J;rcases K with ⟨k,Q,z,O⟩|z|z
 ·obtain⟨P,H⟩:=YZ i u v B Q
  obtain⟨l,C,D,o,q,E,A,I⟩:=Y0 i u v B H P;rw[adM z,O]
  grind
 ·obtain⟨l,o,q,E,A,I⟩:=BF i u v B
  exact⟨l,d,e,o,q,by rw[adL z];omega,A,by simp_all,u,v⟩
 ·obtain⟨l,o,q,E,A,I⟩:=BF i u v B
  have S:=i;unfold oq at S;refine⟨l,d,inc e,o,q,?_,apC A (inc_le (by omega) (by omega)),by simp_all,u,v⟩;rw[KC z];exact Pq E (show 0<=e by omega) (show e<=1048576 by omega)
def t24(A:aU)(i:Int)(l:Int)(g:Int)(j:Int)(h:Int)(f:Int)(c:Int):LT Bool Empty:=.br (A.bK (A.k rE (i,l,g,j,h,f,c)) 0) (.ar (A.bU 0 i) (.ret (A.bK (A.b .and .i64 (A.b .shr .i64 g i) 1) 1))) (.ret false)
def UL:vq->Bool:=λ(j,l,i,h,g,f,c)=>(t24 af j l i h g f c).val (Ty.aS [.bool])
def awx:aK:=.all [qQ] [.bool] UL
theorem awh:Sd 202 awx:=fa (aR ap dE sl 27 [] (λA (l,m,j,i,g,f,c)=>t24 A l m j i g f c) (kz (fc func202 fz) (sc Q_ sz)) (λ((l,m,j,i,g,f,c):vq) o h=>by
 show(t24 af l m j i g f c).pre=true;simp only[t24,LT.pre,STD,bne_iff_ne,beq_iff_eq,bne_eq_false_iff_eq,beq_eq_false_iff_ne];simp only[Ty.jj,Ty.has,F_] at h
 (repeat' (first|intro _|constructor))<;>(try (have n:=gZ.1 (by assumption);unfold oq at n;omega))))
def KE:qk:=(2,0,0,Ca,0)
def VV:qk:=(0,0,0,Ca,0)
def BR(n:Node)(c:List Seen):qk×Int:=qt (n.2.2.1,n.2.2.2.1,n.2.2.1.2.1,c)
def Br(m:ax)(n:Node)(o:qk):qk:=bif decide (o.1=3) && !(Bq m n.2.2.1 o.2.2.2.1) then KE else o
def Jp(n:Node)(v:vq):Node:=(n.1,n.2.1,(n.2.2.1.1,n.2.2.1.2.1,n.2.2.1.2.2.1,n.2.2.1.2.2.2.1,v.2.2.1),v,n.2.2.2.2)
def Nl(n:Node)(o:qk):vq:=(oN (n.2.2.2.1,n.2.2.1.2.1,o)).1
def JC(m:ax)(n:Node)(f:sj):Node:=(n.1,n.2.1,qd m n.2.2.1 f.2.1,n.2.2.2.1,n.2.2.2.2.1,n.2.2.2.2.2.1,n.2.2.2.2.2.2.1,bif decide (f.1=3) then n.2.2.2.2.2.2.2 else(sM n.2.2.2.2.2.2.2 n.2.2.1.2.1 f.2.2.2.2).1)
def Ag(n:Node):Node:=bif decide (n.2.1=4) && !(UL n.2.2.2.1) then(n.1,3,n.2.2) else n
def Pr(m:ax)(n:Node)(o:qk):Node:=Ag (bif decide (o.1=3) then JC m (Jp n (Nl n o)) o.2.2.2.1 else Jp n (Nl n o))
def ot(m:ax)(n:Node)(c:List Seen):Node×qk×Int:=bif decide (cZ m n=0) then(bif kh n&&decide (¬n.2.2.1.2.1=n.1) then(bif decide ((BR n c).2=0) then(Pr m n (Br m n (BR n c).1),Br m n (BR n c).1,0) else(jX,VV,(BR n c).2)) else(jX,VV,181)) else(jX,VV,cZ m n)
variable{seen:List Seen}
theorem aix{v:vq}(h:(qt (c,v,s,seen)).2=0):(oN (v,s,(qt (c,v,s,seen)).1)).2=0/\(oN (v,s,KE)).2=0:=by
 obtain⟨a,b,c,d,e,f,g⟩:=v;refine⟨?_,?_⟩
 ·obtain⟨l,A,B,m,n,j,_⟩:=Jx h;rw[j]
 ·obtain⟨o,p,q,u,_⟩:=An h
  have i:=gZ.1 o;obtain⟨l,m,n,j,_⟩:=BF i p q u;have z:=i;unfold oq at z;rw[KC rfl,Pq j (show 0<=e by omega) (show e<=1048576 by omega)]
theorem R6(l:cZ m n=0)(h:Bq m n.2.2.1 f=true):(sM n.2.2.2.2.2.2.2 n.2.2.1.2.1 f.2.2.2.2).2=0:=by
 have i:=fD.1 (dh l).2;simp[Bq,fv,rR] at h;have c:=yu h.1;have o:=XE c.1 c.2.1 c.2.2;have p:(f.2.2.2.2.length:Int)<=8:=by
  rw[h.2.2];by_cases g:(kW m n.2.2.1.2.2.1 n.2.2.1.2.1).1=3
  ·rw[dn g];grind
  ·rw[gj g];exact o.2
 have j:=i.2.2.2.2.2.1;rw[sM,i.2.2.2.1,dn (show 0<=n.2.2.1.2.1/\n.2.2.1.2.1<=(n.2.2.2.2.2.2.2.2.2.1.length:Int)-1 by rw[j];exact c.2.1),gj (show ¬8<(f.2.2.2.2.length:Int) by omega)];rfl
theorem Te{o:qk}(h:o.1=3)(c:Bq m n.2.2.1 o.2.2.2.1=false):Br m n o=KE:=by rw[Br,dn h,c];rfl
theorem NZ{o:qk}(c:Bq m n.2.2.1 o.2.2.2.1=true):Br m n o=o:=by rw[Br,c,Bool.not_true,dD];rfl
theorem Zq{o:qk}(h:¬o.1=3):Br m n o=o:=by rw[Br,gj h];rfl
theorem agS{step:Y->LT (Node×qk×Int) Y}{o:qk}{b:Bool}(c:b=UL n.2.2.2.1):aY step (.br (af.bK n.2.1 4) (.br (af.not b) (.ret ((n.1,3,n.2.2),o,0)) (.ret (n,o,0))) (.ret (n,o,0))) (Ag n,o,0):=by
 rw[Ag];refine aV (p:=n.2.1=4) dq (λh=>?_) λh=>aO (by simp_all) (.ret _);rw[dn h,cY,<-c];cases b
 ·exact(ak rfl).2 (.ret _)
 ·exact(ai rfl).2 (.ret _)
def on4(x:Node):Node:=(x.1,4,x.2.2.1,x.2.2.2.1,x.2.2.2.2.1,false,x.2.2.2.2.2.2)
structure Wn where
 (a0:List Seen) (a1:Int) (a2:ax) (a17:Node)
structure Wo where
 (b0:Int) (b1:ax) (jf:Node) (wu:qk)
structure Wp where
 (c14:Node)
structure Wq where
 (d0:ax) (AQ:Node) (XD:qk)
structure Ws where
 (e14:Node) (e15:qk)
structure Wt where
 (f0:ax) (f15:Node) (f16:qk)
inductive ac1 where
 | c0 (p:Wn)
 | c1 (p:Wo)
 | c2 (p:Wp)
 | c3 (p:Wq)
 | c4 (p:Ws)
 | c5 (p:Wt)
noncomputable def aiT:ac1->iB
 | .c0 p=>⟨[⟨148,111,(en [(2,.sl qi p.a0),(3,.ptr 0 0),(6,.ptr 1 0),(7,.ptr 2 0),(9,.ptr 3 0),(10,vi p.a1)]),(.code (cw f148 [1,1,0,0])::sk f148 [1,1,0,0]),[],none⟩],[.ay false (dc bJ p.a2),.ay false [vi 0,vi 0,vi 0,vi 0,vi 0,vi 0,vi 0,vi 0,vi 0,vi 0,vi 0,vi 0,vi 0,vi 0,vi 0,vb false,vi 0,vi 0,.gb true,.gb true,vi 0,vi 0],.ay false [vi 0,vi 0,vi 0,vi 0,vi 0,vi 0,vi 0,vi 0,vi 0,vi 0,vi 0,.gb true,vi 0],.ay false (dc eT p.a17),.a_]⟩
 | .c1 p=>⟨[⟨148,111,(en [(3,.ptr 0 0),(6,.ptr 1 0),(7,.ptr 2 0),(9,.ptr 3 0),(10,vi p.b0),(11,.ptr 4 0)]),(.code (cw f148 [1,1,1,1,0,0])::sk f148 [1,1,1,1,0,0]),[],none⟩],[.ay false (dc bJ p.b1),.ay false [vi 0,vi 0,vi 0,vi 0,vi 0,vi 0,vi 0,vi 0,vi 0,vi 0,vi 0,vi 0,vi 0,vi 0,vi 0,vb false,vi 0,vi 0,.gb true,.gb true,vi 0,vi 0],.ay false [vi 0,vi 0,vi 0,vi 0,vi 0,vi 0,vi 0,vi 0,vi 0,vi 0,vi 0,.gb true,vi 0],.ay false (dc eT p.jf),.ay false (dc O1 p.wu),.a_]⟩
 | .c2 p=>⟨[⟨148,111,(en [(6,.ptr 0 0),(7,.ptr 1 0),(9,.ptr 2 0),(11,.ptr 3 0)]),(.code (cw f148 [1,1,1,1,1,1,1,1,1,0,0])::sk f148 [1,1,1,1,1,1,1,1,1,0,0]),[],none⟩],[.ay false [vi 0,vi 0,vi 0,vi 0,vi 0,vi 0,vi 0,vi 0,vi 0,vi 0,vi 0,vi 0,vi 0,vi 0,vi 0,vb false,vi 0,vi 0,.gb true,.gb true,vi 0,vi 0],.ay false [vi 0,vi 0,vi 0,vi 0,vi 0,vi 0,vi 0,vi 0,vi 0,vi 0,vi 0,.gb true,vi 0],.ay false (dc eT p.c14),.ay false [vi 2,vi 0,vi 0,vi 0,vi 0,vi 0,vi 0,vi 0,vi 0,vi 0,vi 0,.gb true,vi 0],.a_]⟩
 | .c3 p=>⟨[⟨148,111,(en [(3,.ptr 0 0),(6,.ptr 1 0),(7,.ptr 2 0),(9,.ptr 3 0),(11,.ptr 4 0)]),(.code (cw f148 [1,1,1,1,1,1,1,1,0,1,0,0,0])::sk f148 [1,1,1,1,1,1,1,1,0,1,0,0,0]),[],none⟩],[.ay false (dc bJ p.d0),.ay false [vi 0,vi 0,vi 0,vi 0,vi 0,vi 0,vi 0,vi 0,vi 0,vi 0,vi 0,vi 0,vi 0,vi 0,vi 0,vb false,vi 0,vi 0,.gb true,.gb true,vi 0,vi 0],.ay false [vi 0,vi 0,vi 0,vi 0,vi 0,vi 0,vi 0,vi 0,vi 0,vi 0,vi 0,.gb true,vi 0],.ay false (dc eT p.AQ),.ay false (dc O1 p.XD),.a_]⟩
 | .c4 p=>⟨[⟨148,111,(en [(6,.ptr 0 0),(7,.ptr 1 0),(9,.ptr 2 0),(11,.ptr 3 0)]),(.code (cw f148 [1,1,1,1,1,1,1,1,1,0,0])::sk f148 [1,1,1,1,1,1,1,1,1,0,0]),[],none⟩],[.ay false [vi 0,vi 0,vi 0,vi 0,vi 0,vi 0,vi 0,vi 0,vi 0,vi 0,vi 0,vi 0,vi 0,vi 0,vi 0,vb false,vi 0,vi 0,.gb true,.gb true,vi 0,vi 0],.ay false [vi 0,vi 0,vi 0,vi 0,vi 0,vi 0,vi 0,vi 0,vi 0,vi 0,vi 0,.gb true,vi 0],.ay false (dc eT p.e14),.ay false (dc O1 p.e15),.a_]⟩
 | .c5 p=>⟨[⟨148,111,(en [(3,.ptr 0 0),(6,.ptr 1 0),(7,.ptr 2 0),(9,.ptr 3 0),(11,.ptr 4 0)]),(.code (cw f148 [1,1,1,1,1,1,1,1,0,1,0,1])::sk f148 [1,1,1,1,1,1,1,1,0,1,0,1]),[],none⟩],[.ay false (dc bJ p.f0),.ay false [vi 0,vi 0,vi 0,vi 0,vi 0,vi 0,vi 0,vi 0,vi 0,vi 0,vi 0,vi 0,vi 0,vi 0,vi 0,vb false,vi 0,vi 0,.gb true,.gb true,vi 0,vi 0],.ay false [vi 0,vi 0,vi 0,vi 0,vi 0,vi 0,vi 0,vi 0,vi 0,vi 0,vi 0,.gb true,vi 0],.ay false (dc eT p.f15),.ay false (dc O1 p.f16),.a_]⟩
def amq(A:aU)(m:ax)(n:Node)(c:List Seen):LT (Node×qk×Int) ac1:=.br (A.k lY n) (.eqs (((A.k lY n):Bool)=true) (.ao (.c0 ⟨c,(A.k kg (m,n,(A.cu n.2.2.1.2.1 n.1))).2,m,(A.k kg (m,n,(A.cu n.2.2.1.2.1 n.1))).1⟩))) (.eqs (((A.k lY n):Bool)=false) (.ao (.c0 ⟨c,(A.k kg (m,n,false)).2,m,(A.k kg (m,n,false)).1⟩)))
def Al(A:aU):ac1->LT (Node×qk×Int) ac1
 | .c0 p=>.br (A.cu p.a1 0) (.ret ((0,0,(0,0,0,0,0),(0,0,0,0,0,0,0),0,false,0,0,([]:List Int),([]:List ik),0,0),(0,0,0,(0,0,(0,0,0,0,0),0,([]:List Int)),0),p.a1)) (.ao (.c1 ⟨(A.k aka (p.a17.2.2.1,p.a17.2.2.2.1,p.a17.2.2.1.2.1,p.a0)).2,p.a2,p.a17,(A.k aka (p.a17.2.2.1,p.a17.2.2.2.1,p.a17.2.2.1.2.1,p.a0)).1⟩))
 | .c1 p=>.br (A.cu p.b0 0) (.ret ((0,0,(0,0,0,0,0),(0,0,0,0,0,0,0),0,false,0,0,([]:List Int),([]:List ik),0,0),(0,0,0,(0,0,(0,0,0,0,0),0,([]:List Int)),0),p.b0)) (.br (A.bK p.wu.1 3) (.br (A.not (A.k Sv (p.b1,p.jf.2.2.1,p.wu.2.2.2.1))) (.br (A.cu (A.k oN (p.jf.2.2.2.1,p.jf.2.2.1.2.1,2,0,0,(0,0,(0,0,0,0,0),0,([]:List Int)),0)).2 0) (.ret ((0,0,(0,0,0,0,0),(0,0,0,0,0,0,0),0,false,0,0,([]:List Int),([]:List ik),0,0),(0,0,0,(0,0,(0,0,0,0,0),0,([]:List Int)),0),(A.k oN (p.jf.2.2.2.1,p.jf.2.2.1.2.1,2,0,0,(0,0,(0,0,0,0,0),0,([]:List Int)),0)).2)) (.ao (.c2 ⟨(p.jf.1,p.jf.2.1,(p.jf.2.2.1.1,p.jf.2.2.1.2.1,p.jf.2.2.1.2.2.1,p.jf.2.2.1.2.2.2.1,(A.k oN (p.jf.2.2.2.1,p.jf.2.2.1.2.1,2,0,0,(0,0,(0,0,0,0,0),0,([]:List Int)),0)).1.2.2.1),(A.k oN (p.jf.2.2.2.1,p.jf.2.2.1.2.1,2,0,0,(0,0,(0,0,0,0,0),0,([]:List Int)),0)).1,p.jf.2.2.2.2)⟩))) (.br (A.cu (A.k oN (p.jf.2.2.2.1,p.jf.2.2.1.2.1,p.wu)).2 0) (.ret ((0,0,(0,0,0,0,0),(0,0,0,0,0,0,0),0,false,0,0,([]:List Int),([]:List ik),0,0),(0,0,0,(0,0,(0,0,0,0,0),0,([]:List Int)),0),(A.k oN (p.jf.2.2.2.1,p.jf.2.2.1.2.1,p.wu)).2)) (.br (A.bK p.wu.1 3) (.ao (.c3 ⟨p.b1,(p.jf.1,p.jf.2.1,(p.jf.2.2.1.1,p.jf.2.2.1.2.1,p.jf.2.2.1.2.2.1,p.jf.2.2.1.2.2.2.1,(A.k oN (p.jf.2.2.2.1,p.jf.2.2.1.2.1,p.wu)).1.2.2.1),(A.k oN (p.jf.2.2.2.1,p.jf.2.2.1.2.1,p.wu)).1,p.jf.2.2.2.2),p.wu⟩)) (.ao (.c4 ⟨(p.jf.1,p.jf.2.1,(p.jf.2.2.1.1,p.jf.2.2.1.2.1,p.jf.2.2.1.2.2.1,p.jf.2.2.1.2.2.2.1,(A.k oN (p.jf.2.2.2.1,p.jf.2.2.1.2.1,p.wu)).1.2.2.1),(A.k oN (p.jf.2.2.2.1,p.jf.2.2.1.2.1,p.wu)).1,p.jf.2.2.2.2),p.wu⟩))))) (.br (A.cu (A.k oN (p.jf.2.2.2.1,p.jf.2.2.1.2.1,p.wu)).2 0) (.ret ((0,0,(0,0,0,0,0),(0,0,0,0,0,0,0),0,false,0,0,([]:List Int),([]:List ik),0,0),(0,0,0,(0,0,(0,0,0,0,0),0,([]:List Int)),0),(A.k oN (p.jf.2.2.2.1,p.jf.2.2.1.2.1,p.wu)).2)) (.br (A.bK p.wu.1 3) (.ao (.c3 ⟨p.b1,(p.jf.1,p.jf.2.1,(p.jf.2.2.1.1,p.jf.2.2.1.2.1,p.jf.2.2.1.2.2.1,p.jf.2.2.1.2.2.2.1,(A.k oN (p.jf.2.2.2.1,p.jf.2.2.1.2.1,p.wu)).1.2.2.1),(A.k oN (p.jf.2.2.2.1,p.jf.2.2.1.2.1,p.wu)).1,p.jf.2.2.2.2),p.wu⟩)) (.ao (.c4 ⟨(p.jf.1,p.jf.2.1,(p.jf.2.2.1.1,p.jf.2.2.1.2.1,p.jf.2.2.1.2.2.1,p.jf.2.2.1.2.2.2.1,(A.k oN (p.jf.2.2.2.1,p.jf.2.2.1.2.1,p.wu)).1.2.2.1),(A.k oN (p.jf.2.2.2.1,p.jf.2.2.1.2.1,p.wu)).1,p.jf.2.2.2.2),p.wu⟩)))))
 | .c2 p=>.br (A.bK p.c14.2.1 4) (.br (A.not (A.k UL p.c14.2.2.2.1)) (.ret ((p.c14.1,3,p.c14.2.2),(2,0,0,(0,0,(0,0,0,0,0),0,([]:List Int)),0),0)) (.ret (p.c14,(2,0,0,(0,0,(0,0,0,0,0),0,([]:List Int)),0),0))) (.ret (p.c14,(2,0,0,(0,0,(0,0,0,0,0),0,([]:List Int)),0),0))
 | .c3 p=>.br (A.cu p.XD.2.2.2.1.1 3) (.br (A.bK (A.k DT (p.AQ.2.2.2.2.2.2.2,p.AQ.2.2.1.2.1,p.XD.2.2.2.1.2.2.2.2)).2 0) (.ao (.c5 ⟨p.d0,(p.AQ.1,p.AQ.2.1,p.AQ.2.2.1,p.AQ.2.2.2.1,p.AQ.2.2.2.2.1,p.AQ.2.2.2.2.2.1,p.AQ.2.2.2.2.2.2.1,(A.k DT (p.AQ.2.2.2.2.2.2.2,p.AQ.2.2.1.2.1,p.XD.2.2.2.1.2.2.2.2)).1),p.XD⟩)) (.ao (.c5 ⟨p.d0,p.AQ,p.XD⟩))) (.ao (.c5 ⟨p.d0,p.AQ,p.XD⟩))
 | .c4 p=>.br (A.bK p.e14.2.1 4) (.br (A.not (A.k UL p.e14.2.2.2.1)) (.ret ((p.e14.1,3,p.e14.2.2),p.e15,0)) (.ret (p.e14,p.e15,0))) (.ret (p.e14,p.e15,0))
 | .c5 p=>.br (A.bK (A.k A9 (p.f0,p.f15.2.2.1,p.f16.2.2.2.1.2.1)).2 0) (.ao (.c4 ⟨(p.f15.1,p.f15.2.1,(A.k A9 (p.f0,p.f15.2.2.1,p.f16.2.2.2.1.2.1)).1,p.f15.2.2.2),p.f16⟩)) (.ao (.c4 ⟨p.f15,p.f16⟩))
theorem Qm{p:Ws}:aY (Al af) (.ao (.c4 p)) (Ag p.e14,p.e15,0):=by
 rw[aA,Al];exact agS rfl
theorem ak2{p:Wp}:aY (Al af) (.ao (.c2 p)) (Ag p.c14,KE,0):=by
 rw[aA,Al];exact agS rfl
theorem Z4{p:Wt}:aY (Al af) (.ao (.c5 p)) (Ag (p.f15.1,p.f15.2.1,qd p.f0 p.f15.2.2.1 p.f16.2.2.2.1.2.1,p.f15.2.2.2),p.f16,0):=by
 rw[aA,Al,qd];refine aV (p:=(EB p.f0 p.f15.2.2.1 p.f16.2.2.2.1.2.1).2=0) dq (λg=>?_) λg=>?_
 ·rw[dn g];exact Qm
 ·rw[gj g];exact Qm
theorem ak3{p:Wq}(h:(sM p.AQ.2.2.2.2.2.2.2 p.AQ.2.2.1.2.1 p.XD.2.2.2.1.2.2.2.2).2=0):aY (Al af) (.ao (.c3 p)) (Ag (JC p.d0 p.AQ p.XD.2.2.2.1),p.XD,0):=by
 rw[aA,Al,JC];refine aV (p:=¬p.XD.2.2.2.1.1=3) dA (λg=>?_) λg=>?_
 ·rw[gj g,show ∀x,af.k DT x=sM x.1 x.2.1 x.2.2 from λ_=>rfl]
  exact(ak (Xp h)).2 Z4
 ·rw[dn (dx.1 g)];exact Z4
theorem ak1{p:Wo}{S:qk×Int}(h:p.b0=S.2)(i:p.b1=m)(j:p.jf=n)(l:p.wu=S.1)(q:cZ m n=0)(o:S.2=0->(oN (n.2.2.2.1,n.2.2.1.2.1,S.1)).2=0/\(oN (n.2.2.2.1,n.2.2.1.2.1,KE)).2=0):aY (Al af) (.ao (.c1 p)) (bif decide (S.2=0) then(Pr m n (Br m n S.1),Br m n S.1,0) else(jX,VV,S.2)):=by
 subst i j;rw[aA,Al,h,l];refine aV (p:=¬S.2=0) dA (λg=>aO (by rw[gj g];rfl) (.ret _)) λg=>?_;have g:=dx.1 g;obtain⟨a1,a2⟩:=o g;rw[dn g,cond_true];rw[show af.k Sv (p.b1,p.jf.2.2.1,S.1.2.2.2.1)=Bq p.b1 p.jf.2.2.1 S.1.2.2.2.1 from rfl];have c:af.cu (af.k oN (p.jf.2.2.2.1,p.jf.2.2.1.2.1,S.1)).2 0=false:=by rw[bo,a1];rfl
 have f:af.cu (af.k oN (p.jf.2.2.2.1,p.jf.2.2.1.2.1,2,0,0,(0,0,(0,0,0,0,0),0,([]:List Int)),0)).2 0=false:=by rw[bo];unfold KE Ca at a2;rw[a2];rfl
 refine aV (p:=S.1.1=3) dq (λk=>?_) λk=>(ai c).2 ((ai (by simp_all;exact gj k)).2 ?_)
 ·cases hl:Bq p.b1 p.jf.2.2.1 S.1.2.2.2.1
  ·refine(ak rfl).2 ((ai f).2 ?_)
   rw[Te k hl];exact ak2 (p:=⟨Jp p.jf (Nl p.jf KE)⟩)
  ·refine(ai rfl).2 ((ai c).2 ((ak (by rw[dq];simp_all)).2 ?_))
   rw[NZ hl,Pr,dn k];have u:=R6 q hl;exact ak3 (p:=⟨p.b1,Jp p.jf (Nl p.jf S.1),S.1⟩) u
 ·rw[Zq k,Pr,gj k];exact Qm (p:=⟨Jp p.jf (Nl p.jf S.1),S.1⟩)
theorem av1{f:List Seen}:aY (Al af) (amq af m n f) (ot m n f):=by
 unfold amq ot;rw[show af.k lY n=kh n from rfl];have i:∀q:Wn,q.a1=(m_ m n false).2->aY (Al af) (.ao (.c0 q)) (bif decide (cZ m n=0) then(jX,VV,181) else(jX,VV,cZ m n)):=λq l=>by
  rw[aA,Al,l,m_];by_cases h:cZ m n=0
  ·rw[dn h];exact(ak rfl).2 (.ret _)
  ·rw[gj h];exact(ak (w_ h)).2 (.ret _)
 cases hi:kh n
 ·exact(ai rfl).2 (xR.2 ⟨rfl,i _ rfl⟩)
 ·refine(ak rfl).2 (xR.2 ⟨rfl,?_⟩)
  rw[show ∀w,af.k kg (m,n,w)=m_ m n w from λ_=>rfl,dA,cY];by_cases j:n.2.2.1.2.1=n.1
  ·simp_all
  ·rw[dn j,cond_true]
   by_cases h:cZ m n=0
   ·have e:m_ m n true=(n,0):=by rw[m_,dn h];rfl
    rw[dn h,e,cond_true,aA,Al];exact(ai rfl).2 (ak1 (S:=BR n f) rfl rfl rfl rfl h λg=>aix (c:=n.2.2.1) (v:=n.2.2.2.1) (s:=n.2.2.1.2.1) (seen:=f) g)
   ·have:=i ⟨f,(m_ m n true).2,m,(m_ m n true).1⟩ (by rw[m_,m_,gj h];rfl)
    simp_all
def Sm:(ax×Node×List Seen)->(Node×qk×Int):=λ(m,c,k)=>ot m c k
def asy:aK:=.all [bJ,eT,(.slice qi)] [eT,O1,yI] Sm
theorem aqG:Sd 148 asy:=fa (bp ap dE sl 38 [] [⟨148,2, [[2,3,6,7,9,10]]⟩,⟨148,5, [[3,6,7,9,10,11]]⟩,⟨148,14, [[3,6,7,9,11]]⟩,⟨148,16, [[3,6,7,9,11]]⟩,⟨148,17, [[6,7,9,11]]⟩] (λA (m,n,c)=>amq A m n c) Al aiT (kz (fc func148 (fc func192 (fc func193 fz))) (sc awh (sc awn (sc aws (sc BS (sc Ee (sc ag_ (sc ahc (sc aa7 sz))))))))) (λA y=>match y with |.c0 p=>⟨31,sl,by kernel_rfl⟩|.c1 p=>⟨76,sl,by kernel_rfl⟩|.c2 p=>⟨29,sl,by kernel_rfl⟩|.c3 p=>⟨56,sl,by kernel_rfl⟩|.c4 p=>⟨29,sl,by kernel_rfl⟩|.c5 p=>⟨48,sl,by kernel_rfl⟩) λ(m,n,c) f h=>av1)
theorem w7{k:Int}(l:4<=k/\k<=8)(f:0<=c.1/\c.1<=255)(g:0<=c.2.1/\c.2.1<=k-1)(h:0<=c.2.2.1/\c.2.2.1<=3)(i:0<=c.2.2.2.1/\c.2.2.2.1<=4)(j:0<=c.2.2.2.2/\c.2.2.2.2<=2^k.toNat-1):qZ (c,k)=0:=by
 rw[qZ,gj (show ¬k<4 by omega),gj (show ¬8<k by omega),dn f.1,dn f.2,dn g.1,dn g.2,dn h.1,dn h.2,dn i.1,dn i.2,dn j.1,dn j.2];rfl
theorem tV(h:qZ (c,m.1)=0)(f:c.2.2.1<iD m)(g:c.2.2.2.1<=iD m):iG m c=true:=by
 rw[iG,dn h,dn f,dn g];rfl
theorem Gp{x:Node}(c:dC m=true)(h:Qf m x=true):cZ m x=0:=by rw[cZ,c,h];rfl
theorem Gl{x:Node}(u:dC m=true)(c:0<=x.1/\x.1<=m.1-1)(f:2<=x.2.1/\x.2.1<=4)(g:0<=x.2.2.2.2.2.2.1/\x.2.2.2.2.2.2.1<=2)(h:gv x.2.2.2.2.2.2.2=true)(i:x.2.2.2.2.2.2.2.1=x.1)(j:(x.2.2.2.2.2.2.2.2.2.1.length:Int)=m.1)
  (v:x.2.1=2->(af.n .bool m.2.2.2.2.2.2.1 x.1:Bool)=true) (l:iG m x.2.2.1=true) (n:tG x.2.2.2.1=0) (o:x.2.2.2.1.1=x.1) (p:x.2.2.2.1.2.1=m.1) (q:x.2.2.1.2.2.2.2=x.2.2.2.1.2.2.1) (z:x.2.2.2.2.1=0) (A:x.2.2.2.2.2.1=true->x.2.1=2):cZ m x=0:=by
 refine Gp u (fD.2 ⟨c,by omega,g,h,i,j,?_,?_,?_,?_⟩)
 ·rw[KQ]
  by_cases k:x.2.1=2
  ·simp_all
  ·rw[gj k];rfl
 ·rw[vy,kh,dn f,cond_true,l,dn n,dn o,dn p,dn q];rfl
 ·rw[xW,gj (show ¬x.2.1=1 by omega)];simp_all
 ·rw[Eo]
  grind
theorem uj{x:Node}(o:dC m=true)(c:0<=x.1/\x.1<=m.1-1)(p:x.2.1=0\/x.2.1=1\/x.2.1=5)(f:0<=x.2.2.2.2.2.2.1/\x.2.2.2.2.2.2.1<=2)(g:gv x.2.2.2.2.2.2.2=true)(h:x.2.2.2.2.2.2.2.1=x.1)(i:(x.2.2.2.2.2.2.2.2.2.1.length:Int)=m.1)
  (j:x.2.2.1=(0,0,0,0,0)) (l:x.2.2.2.1=(0,0,0,0,0,0,0)) (q:x.2.1=1->1<=x.2.2.2.2.1/\x.2.2.2.2.1<=(ta m x.1).1) (n:¬x.2.1=1->x.2.2.2.2.1=0) (u:x.2.2.2.2.2.1=true->x.2.1=1):cZ m x=0:=by
 refine Gp o (fD.2 ⟨c,by omega,f,g,h,i,?_,?_,?_,?_⟩)
 ·rw[KQ,gj (show ¬x.2.1=2 by omega)];rfl
 ·rw[vy,kh,gj (show ¬(2<=x.2.1/\x.2.1<=4) by omega),cond_false,j,l];rfl
 ·rw[xW]
  simp_all
 ·rw[Eo]
  grind
theorem Tk(h:cZ m n=0)(c:n.2.2.2.2.2.1=true):n.2.1=1\/n.2.1=2:=by
 have f:=(fD.1 (dh h).2).2.2.2.2.2.2.2.2.2;rw[Eo,c] at f
 simp_all
theorem aeT{k:Int}(h:4<=k/\k<=8):af.b .shl .i64 1 k=2^k.toNat:=by
 have:k=4\/k=5\/k=6\/k=7\/k=8:=by omega
 rcases this with rfl|rfl|rfl|rfl|rfl<;>decide
theorem Qk{c:Int}(g:4<=b/\b<=8)(f:0<=a/\a<=b-1)(h:0<=c/\c<=2^b.toNat-1):tG (a,b,c,1,0,0,0)=0:=by
 refine nA.2 ?_;unfold oq
 grind
theorem EN{n:Int}(c:dC m=true)(h:0<=n/\n<=m.1-1):1<=(ta m n).1:=by
 have f:=(iJ c).1;rw[ta,mZ,c,cond_true,dn h];simp[cond_true,decide_true,gp];rw[kP,kP];rw[lg (a:=4*m.1) (by omega) (by omega),lg (a:=n+1) (by omega) (by omega),lg (a:=2*(n+1)) (by omega) (by omega),lg (by omega) (by omega)];omega
theorem alv{n:Int}(c:dC m=true)(h:0<=n/\n<=m.1-1):1<=(I_ m n).1/\(I_ m n).1<=(ta m n).1:=by
 have f:=(iJ c).1;rw[ta,I_,mZ,c,cond_true,dn h];simp[cond_true,decide_true,gp];rw[kP,kP];rw[lg (a:=4*m.1) (by omega) (by omega),lg (a:=n+1) (by omega) (by omega),lg (a:=2*(n+1)) (by omega) (by omega),lg (a:=4*m.1+2*(n+1)) (by omega) (by omega)];omega
theorem Mz{r:Int}(j:dC m=true)(h:iG m c=true):iG m (qd m c r)=true/\(qd m c r).2.1=c.2.1/\(qd m c r).2.2.2.2=c.2.2.2.2:=by
 rw[qd,EB,dn (Xe j h),cond_true];by_cases g:0<=r/\r<=iD m
 ·rw[dn g,cond_true]
  by_cases l:0<r
  ·cases h3:y7 m c (r-1)
   ·simp_all
   ·rw[dn l,Bool.and_self,cond_true]
    have i:=A6 h;have f:=w6 i.1;have n:=(iJ j).2.1;refine⟨tV (w7 f.1 f.2.1 f.2.2.1 f.2.2.2.1 (show 0<=r/\r<=4 by omega) f.2.2.2.2.2) i.2.1.2 g.2,rfl,rfl⟩
  grind
 grind
theorem anx(h:cZ m n=0)(i:(EZ m n s).2=0):cZ m (EZ m n s).1=0:=by
 have f:=fD.1 (dh h).2;have l:=(dh h).1;have j:=(iJ l);rw[EZ,dn h,cond_true] at i ⊢;by_cases o:n.2.1=0
 ·rw[dn o,cond_true] at i ⊢
  by_cases g:0<=s/\s<=af.b .shl .i64 1 m.1-1
  ·rw[dn g,cond_true] at i ⊢
   cases h3:qY s n.1
   ·simp_all
   ·rw[aeT j.1] at g
    exact Gl l f.1 (show(2:Int)<=4/\(4:Int)<=4 by omega) f.2.2.1 f.2.2.2.1 f.2.2.2.2.1 f.2.2.2.2.2.1 (λk=>absurd k (show ¬(4:Int)=2 by omega)) (tV (w7 (c:=(0,0,0,0,s)) j.1 (show(0:Int)<=0/\(0:Int)<=255 by omega) (show(0:Int)<=0/\(0:Int)<=m.1-1 by omega) (show(0:Int)<=0/\(0:Int)<=3 by omega) (show(0:Int)<=0/\(0:Int)<=4 by omega) g) (show(0:Int)<iD m by omega) (show(0:Int)<=iD m by omega)) (Qk j.1 f.1 g) rfl rfl rfl rfl (λk=>by have:=Tk h k;omega)
  simp_all
 simp_all
theorem Ti{id:Int}(f:(rM m id).2=0):cZ m (rM m id).1=0:=by
 rw[rM] at f ⊢;cases hm:dC m
 ·simp_all
 ·rw[hm,cond_true] at f
  have j:=iJ hm;by_cases c:0<=id/\id<=m.1-1
  ·rw[dn c,cond_true,cond_true]
   have h:((List.replicate m.1.toNat Gs).length:Int)=m.1:=by grind
   refine uj hm c (.inl rfl) (show(0:Int)<=0/\(0:Int)<=2 by omega) ?_ rfl h rfl rfl (λk=>absurd k (show ¬(0:Int)=1 by omega)) (λ_=>rfl) (λk=>by cases k);have g:(List.replicate m.1.toNat Gs).all I5=true:=by rw[bH];intro x i;rw[List.eq_of_mem_replicate i];decide
   simp only[gv,g]
   simp_all
  simp_all
theorem BK{on:Bool}(h:cZ m n=0)(f:(ju m n on).2=0):cZ m (ju m n on).1=0:=by
 have c:=fD.1 (dh h).2;have g:=(dh h).1;rw[ju,dn h,cond_true] at f ⊢;cases on
 ·exact Ti f
 ·rw[cond_true] at f ⊢
  by_cases i:n.2.1=0
  ·rw[dn i,cond_true]
   exact uj g c.1 (.inr (.inl rfl)) c.2.2.1 c.2.2.2.1 c.2.2.2.2.1 c.2.2.2.2.2.1 rfl rfl (λ_=>⟨EN g c.1,al _⟩) (λk=>absurd rfl k) (λk=>rfl)
  simp_all
theorem ZM{c:iO}(h:cZ m n=0)(g:gv c=true)(i:c.1=n.2.2.2.2.2.2.2.1)(j:c.2.2.1.length=n.2.2.2.2.2.2.2.2.2.1.length):cZ m (n.1,n.2.1,n.2.2.1,n.2.2.2.1,n.2.2.2.2.1,n.2.2.2.2.2.1,n.2.2.2.2.2.2.1,c)=0:=by
 have f:=fD.1 (dh h).2;exact Gp (dh h).1 (fD.2 ⟨f.1,f.2.1,f.2.2.1,g,i.trans f.2.2.2.2.1,(congrArg Int.ofNat j).trans f.2.2.2.2.2.1,f.2.2.2.2.2.2⟩)
theorem anA{c:iO}{d:List Int}(f:(V2 c d).2=0):gv (V2 c d).1=true/\(V2 c d).1.1=c.1/\(V2 c d).1.2.2.1.length=c.2.2.1.length:=by
 rw[V2] at f ⊢;cases h:gv c
 ·simp_all
 ·rw[h,cond_true] at f
  by_cases g:8<(d.length:Int)
  ·simp_all
  ·rw[gj g,cond_false]
   simp only[gv] at h ⊢
   simp_all
theorem aiC{c:iO}(f:(btS c).2=0):gv (btS c).1=true/\(btS c).1.1=c.1/\(btS c).1.2.2.1.length=c.2.2.1.length:=by
 rw[btS] at f ⊢;cases h:gv c
 ·simp_all
 ·rw[cond_true]
  simp only[gv] at h ⊢
  simp_all
theorem Xd{c:iO}{w:Int}(f:(Il c w).2=0):gv (Il c w).1=true/\(Il c w).1.1=c.1/\(Il c w).1.2.2.1.length=c.2.2.1.length:=by
 rw[Il] at f ⊢;cases h:gv c
 ·simp_all
 ·rw[h,cond_true] at f
  by_cases g:-1<=w/\w<=3
  ·rw[dn g,cond_true]
   simp only[gv] at h ⊢
   simp_all
  simp_all
theorem ae4{c:iO}(h:gv c=true):gv (I9 c).1=true/\(I9 c).1.1=c.1/\(I9 c).1.2.2.1.length=c.2.2.1.length:=by
 rw[I9,h,cond_true];have i:(c.2.2.1.map KA).length=c.2.2.1.length:=bO ..;simp only[gv,fv,rR] at h ⊢;refine⟨⟨by omega,by omega,h.2.2.1,?_,h.2.2.2.2.1,?_⟩,trivial,i⟩
 ·have m:=h.2.2.2.1
  rw[fO,lg (by omega) (by omega),tx];omega
 ·rw[bH]
  intro x j;obtain⟨y,l,rfl⟩:=dy.1 j;have g:=bH.1 h.2.2.2.2.2 y l;simp only[I5,fv,rR] at g;have f:0<=(KA y).2/\(KA y).2<=255:=by
   show 0<=af.mn (af.b .add .i64 y.2 1) 255/\af.mn (af.b .add .i64 y.2 1) 255<=255;rw[gp,lg (by omega) (by omega),nW];omega
  rw[I5,fv];exact⟨dn g.1,dn f⟩
theorem R7{c:iO}{d:List Int}(f:(sM c s d).2=0):gv (sM c s d).1=true/\(sM c s d).1.1=c.1/\(sM c s d).1.2.2.1.length=c.2.2.1.length:=by
 rw[sM] at f ⊢;cases h:gv c
 ·simp_all
 rw[cond_true];by_cases i:0<=s/\s<=(c.2.2.1.length:Int)-1
 ·rw[dn i,cond_true] at f ⊢
  by_cases j:8<(d.length:Int)
  ·simp_all
  rw[gj j,cond_false];have l:(c.2.2.1.set s.toNat (d,0)).length=c.2.2.1.length:=cX ..;simp only[gv,fv,rR] at h ⊢;refine⟨⟨by omega,by omega,h.2.2.1,h.2.2.2.1,h.2.2.2.2.1,?_⟩,trivial,l⟩;rw[bH];intro x g;rcases List.mem_or_eq_of_mem_set g with g|rfl
  ·simp_all
  ·simp[I5,fv,rR];omega
 simp_all
theorem Gc(h:cZ m n=0)(g:r.2=0->gv r.1=true/\r.1.1=n.2.2.2.2.2.2.2.1/\r.1.2.2.1.length=n.2.2.2.2.2.2.2.2.2.1.length)(f:(z7 n r).2=0):cZ m (z7 n r).1=0:=by
 rw[z7] at f ⊢;by_cases k:r.2=0
 ·rw[dn k,cond_true]
  obtain⟨a,b,c⟩:=g k;exact ZM h a b c
 simp_all
theorem aem{o:dO}(h:cZ m n=0)(c:(y5 m n o).2=0):cZ m (y5 m n o).1=0:=by
 rw[y5,dn h,cond_true] at c ⊢;by_cases g:1<=o.2.2.2.1/\o.2.2.2.1<=3
 ·rw[dn g,cond_true] at c ⊢
  cases hi:kh n
  ·exact h
  rw[hi,cond_true] at c;by_cases k:o.2.2.2.1=1
  ·rw[dn k,cond_true] at c ⊢;exact Gc h anA c
  rw[gj k,cond_false] at c ⊢;by_cases f:o.2.2.2.1=2
  ·rw[dn f,cond_true] at c ⊢;exact Gc h aiC c
  rw[gj f,cond_false] at c ⊢;exact Gc h Xd c
 simp_all
theorem ZL(h:cZ m n=0)(g:kh n=true)(i:iG m c=true)(j:c.2.2.2.2=n.2.2.1.2.2.2.2):cZ m (n.1,n.2.1,c,n.2.2.2)=0:=by
 have f:=fD.1 (dh h).2;have l:=pV h g;refine Gp (dh h).1 (fD.2 ⟨f.1,f.2.1,f.2.2.1,f.2.2.2.1,f.2.2.2.2.1,f.2.2.2.2.2.1,f.2.2.2.2.2.2.1,?_,f.2.2.2.2.2.2.2.2⟩);rw[vy,show kh (n.1,n.2.1,c,n.2.2.2)=true from g,cond_true]
 simp_all
theorem abo(n:dC m=true)(h:iG m c=true):iG m (qc c m.1).1=true/\(qc c m.1).1.2.2.2.2=c.2.2.2.2:=by
 have i:=A6 h;have f:=w6 i.1;rw[qc,dn i.1,cond_true];have l:0<=(c.1+1).tmod 256/\(c.1+1).tmod 256<=255:=by grind
 by_cases g:c.2.1+1=m.1
 ·rw[dn g,cond_true]
  by_cases j:c.2.2.2.1=0
  ·rw[dn j,cond_true]
   exact⟨tV (w7 (c:=((c.1+1).tmod 256,0,c.2.2)) f.1 l (show(0:Int)<=0/\(0:Int)<=m.1-1 by omega) f.2.2.2.1 f.2.2.2.2.1 f.2.2.2.2.2) i.2.1.2 i.2.2,rfl⟩
  ·rw[gj j,cond_false]
   exact⟨tV (w7 (c:=((c.1+1).tmod 256,0,c.2.2.2.1-1,0,c.2.2.2.2)) f.1 l (show(0:Int)<=0/\(0:Int)<=m.1-1 by omega) (show 0<=c.2.2.2.1-1/\c.2.2.2.1-1<=3 by omega) (show(0:Int)<=0/\(0:Int)<=4 by omega) f.2.2.2.2.2) (show c.2.2.2.1-1<iD m by omega) (show(0:Int)<=iD m by omega),rfl⟩
 ·rw[gj g,cond_false]
  exact⟨tV (w7 (c:=(c.1,c.2.1+1,c.2.2)) f.1 f.2.1 (show 0<=c.2.1+1/\c.2.1+1<=m.1-1 by omega) f.2.2.2.1 f.2.2.2.2.1 f.2.2.2.2.2) i.2.1.2 i.2.2,rfl⟩
theorem EI(h:cZ m n=0)(g:(jq m n).2=0):cZ m (jq m n).1=0:=by
 rw[jq,dn h,cond_true] at g ⊢;cases hi:kh n
 ·simp_all
 obtain⟨a,b⟩:=abo (dh h).1 (pV h hi).1;have f:=ZL (c:=(qc n.2.2.1 m.1).1) h hi a b;cases decide ((qc n.2.2.1 m.1).1.2.1=0)
 ·grind
 ·obtain⟨c,d,e⟩:=ae4 (By h)
  exact ZM f c d e
theorem aaS{k n:Int}(g:4<=k/\k<=8)(h:0<=n/\n<=k-1):0<=af.b .shl .i64 1 n/\af.b .shl .i64 1 n<=2^k.toNat-1:=by
 have c:k=4\/k=5\/k=6\/k=7\/k=8:=by omega
 have f:n=0\/n=1\/n=2\/n=3\/n=4\/n=5\/n=6\/n=7:=by omega
 rcases c with rfl|rfl|rfl|rfl|rfl<;>rcases f with rfl|rfl|rfl|rfl|rfl|rfl|rfl|rfl<;>first|decide|omega
theorem Ug(h:cZ m n=0)(v:(iA m n).2.2.2=0):cZ m (iA m n).1=0:=by
 have f:=fD.1 (dh h).2;have i:=(dh h).1;have l:=iJ i;rw[iA,dn h,cond_true] at v ⊢;by_cases g:n.2.1=1
 ·obtain⟨p,u⟩:=Tm h (by omega)
  have z:1<=n.2.2.2.2.1/\n.2.2.2.2.1<=(ta m n.1).1:=by
   have j:=f.2.2.2.2.2.2.2.2.1;rw[xW,dn g,cond_true,rR] at j;omega
  rw[dn g,cond_true];by_cases o:0<n.2.2.2.2.1-1
  ·rw[dn o,cond_true]
   exact uj i f.1 (.inr (.inl g)) f.2.2.1 f.2.2.2.1 f.2.2.2.2.1 f.2.2.2.2.2.1 p u (λ_=>show 1<=n.2.2.2.2.1-1/\n.2.2.2.2.1-1<=(ta m n.1).1 by omega) (λk=>absurd g k) (λ_=>g)
  ·rw[gj o,cond_false]
   cases j:(af.n .bool m.2.2.2.2.2.2.1 n.1:Bool)
   ·rw[cond_false]
    exact uj i f.1 (.inr (.inl g)) f.2.2.1 f.2.2.2.1 f.2.2.2.2.1 f.2.2.2.2.2.1 p u (λ_=>⟨EN i f.1,al _⟩) (λk=>absurd g k) (λ_=>g)
   ·rw[cond_true]
    have q:=aaS l.1 f.1;exact Gl i f.1 (show(2:Int)<=2/\(2:Int)<=4 by omega) f.2.2.1 f.2.2.2.1 f.2.2.2.2.1 f.2.2.2.2.2.1 (λ_=>j) (tV (w7 (c:=(0,n.1,0,0,af.b .shl .i64 1 n.1)) l.1 (show(0:Int)<=0/\(0:Int)<=255 by omega) f.1 (show(0:Int)<=0/\(0:Int)<=3 by omega) (show(0:Int)<=0/\(0:Int)<=4 by omega) q) (show(0:Int)<iD m by omega) (show(0:Int)<=iD m by omega)) (Qk l.1 f.1 q) rfl rfl rfl rfl (λ_=>rfl)
 simp_all
theorem J3(h:cZ m n=0)(l:iG m c=true)(o:f.1=4->(sM n.2.2.2.2.2.2.2 c.2.1 f.2.2.2.2).2=0):cZ m (zt m n c f)=0:=by
 have g:=fD.1 (dh h).2;have j:=(dh h).1;obtain⟨q,v,u⟩:=Mz (r:=f.2.1) j l;have p:=(w6 (A6 l).1).2.2.2.2.2;have i:gv (bif decide (f.1=4) then(sM n.2.2.2.2.2.2.2 c.2.1 f.2.2.2.2).1 else n.2.2.2.2.2.2.2)=true/\(bif decide (f.1=4) then(sM n.2.2.2.2.2.2.2 c.2.1 f.2.2.2.2).1 else n.2.2.2.2.2.2.2).1=n.2.2.2.2.2.2.2.1/\(bif decide (f.1=4) then(sM n.2.2.2.2.2.2.2 c.2.1 f.2.2.2.2).1 else n.2.2.2.2.2.2.2).2.2.1.length=n.2.2.2.2.2.2.2.2.2.1.length:=by
  by_cases k:f.1=4
  ·rw[dn k];exact R7 (o k)
  simp_all
 exact Gl j g.1 (show(2:Int)<=3/\(3:Int)<=4 by omega) (show(0:Int)<=0/\(0:Int)<=2 by omega) i.1 (i.2.1.trans g.2.2.2.2.1) ((congrArg Int.ofNat i.2.2).trans g.2.2.2.2.2.1) (λk=>absurd k (show ¬(3:Int)=2 by omega)) q (Qk (iJ j).1 g.1 p) rfl rfl u rfl (λk=>by cases k)
theorem SY{s:List Seen}{o:Bool}(h:cZ m n=0)(p:(lC m n s o).2.2.2=0):cZ m (lC m n s o).1=0:=by
 have f:=fD.1 (dh h).2;have i:=(dh h).1;have q:=iJ i;rw[lC,dn h,cond_true] at p ⊢;by_cases g:n.2.1=1
 ·rw[dn g,cond_true] at p ⊢
  by_cases u:(s.length:Int)=2
  ·rw[dn u,cond_true]
   cases hx:(i6 m.1 s).2.2
   ·exact h
   obtain⟨D,E,j⟩:=XY hx;have H:=YQ j;by_cases l:(i6 m.1 s).1.1=1
   ·rw[dn l,cond_true]
    by_cases v:(i6 m.1 s).1.2.2.2.1=n.1
    ·simp_all
    ·rw[gj v,cond_false]
     cases o && !n.2.2.2.2.2.1
     ·rw[cond_false]
      exact J3 h (tV (w7 (c:=(0,(i6 m.1 s).1.2.2.2.1,0,0,af.b .shl .i64 1 (i6 m.1 s).1.2.2.2.1)) q.1 (show(0:Int)<=0/\(0:Int)<=255 by omega) (show 0<=(i6 m.1 s).1.2.2.2.1/\(i6 m.1 s).1.2.2.2.1<=m.1-1 by omega) (show(0:Int)<=0/\(0:Int)<=3 by omega) (show(0:Int)<=0/\(0:Int)<=4 by omega) (aaS q.1 (by omega))) (show(0:Int)<iD m by omega) (show(0:Int)<=iD m by omega)) (λk=>by omega)
     ·rw[cond_true]
      obtain⟨B,C⟩:=Tm h (by omega);exact uj i f.1 (.inr (.inl g)) f.2.2.1 f.2.2.2.1 f.2.2.2.2.1 f.2.2.2.2.2.1 B C (λ_=>⟨EN i f.1,al _⟩) (λk=>absurd g k) (λ_=>g)
   ·rw[gj l,cond_false]
    cases hj:Tg m n (i6 m.1 s).1
    ·exact h
    ·rw[cond_true]
     have z:=XI h j hj;have A:iG m (i6 m.1 s).1.2.2.1=true:=by rw[Tg,fv] at hj;simp_all
     exact J3 h A λ_=>z
  simp_all
 simp_all
theorem X1(h:iG m c=true)(i:0<=s/\s<=2^m.1.toNat-1):iG m (c.1,c.2.1,c.2.2.1,c.2.2.2.1,s)=true:=by
 have g:=A6 h;have f:=w6 g.1;exact tV (w7 (c:=(c.1,c.2.1,c.2.2.1,c.2.2.2.1,s)) f.1 f.2.1 f.2.2.1 f.2.2.2.1 f.2.2.2.2.1 i) g.2.1.2 g.2.2
theorem acK{v:vq}(h:tG v=0):0<=v.2.2.1/\v.2.2.1<=2^v.2.1.toNat-1:=by
 have c:=nA.1 h;unfold oq at c
 grind
theorem Oa{v:vq}(h:cZ m n=0)(g:kh n=true)(j:tG v=0)(l:v.1=n.1)(f:v.2.1=m.1):cZ m (Jp n v)=0:=by
 have c:=fD.1 (dh h).2;have o:=pV h g;have i:=acK j;rw[f] at i;refine Gp (dh h).1 (fD.2 ⟨c.1,c.2.1,c.2.2.1,c.2.2.2.1,c.2.2.2.2.1,c.2.2.2.2.2.1,c.2.2.2.2.2.2.1,?_,c.2.2.2.2.2.2.2.2⟩);rw[vy,show kh (Jp n v)=true from g,cond_true];show(iG m (n.2.2.1.1,n.2.2.1.2.1,n.2.2.1.2.2.1,n.2.2.1.2.2.2.1,v.2.2.1)&&(decide (tG v=0)&&(decide (v.1=n.1)&&(decide (v.2.1=m.1)&&decide (v.2.2.1=v.2.2.1)))))=true;rw[X1 o.1 i,dn j,dn l,dn f,dn rfl];rfl
theorem Zb(c:kh n=true):2<=n.2.1/\n.2.1<=4:=of_decide_eq_true c
theorem aeI{x:Node}(h:cZ m x=0)(g:kh x=true):cZ m (on4 x)=0:=by
 have f:=fD.1 (dh h).2;have c:=pV h g;have j:=Zb g;have i:=Tn h (show ¬x.2.1=1 by omega);exact Gl (dh h).1 f.1 (show(2:Int)<=4/\(4:Int)<=4 by omega) f.2.2.1 f.2.2.2.1 f.2.2.2.2.1 f.2.2.2.2.2.1 (λk=>absurd k (show ¬(4:Int)=2 by omega)) c.1 c.2.1 c.2.2.1 c.2.2.2.1 c.2.2.2.2 i (λk=>by cases k)
theorem af6(h:tG n.2.2.2.1=0):tG (qo n).1=0/\(qo n).1.1=n.2.2.2.1.1/\(qo n).1.2.1=n.2.2.2.1.2.1:=by
 rw[qo];cases decide (n.2.1=2)&&(decide (n.2.2.2.1.2.2.2.1<2)||decide (n.2.2.2.1.2.2.2.1<=n.2.2.2.1.2.2.2.2.1))
 ·rw[cond_false]
  generalize n.2.2.2.1=V at h ⊢;cases decide (n.2.1=3)
  ·obtain⟨g,i,j,l,m,w,c,f,_⟩:=Tw (nA.1 h)
   rw[cond_false,c];exact⟨nA.2 f,rfl,rfl⟩
  ·obtain⟨g,i,j,l,m,w,c,f,_⟩:=Zg (nA.1 h)
   rw[cond_true,c];exact⟨nA.2 f,rfl,rfl⟩
 simp_all
theorem ae0{x:Node}(h:cZ m x=0)(c:kh x=true):cZ m (aeZ m x).1=0:=by
 obtain⟨f,i,g⟩:=Mz (r:=(Q9 m x).2.1) (dh h).1 (pV h c).1;exact ZL h c f g
theorem aeg(h:cZ m n=0)(f:kh n=true):cZ m (akg n (qo n).1)=0:=by
 have c:=pV h f;obtain⟨g,i,j⟩:=af6 c.2.1;exact aeI (Oa h f g (i.trans c.2.2.1) (j.trans c.2.2.2.1)) f
theorem ZZ(h:cZ m n=0)(g:(rm m n).2.2.2=0):cZ m (rm m n).1=0:=by
 have c:=fD.1 (dh h).2;have f:=(dh h).1;rw[rm,dn h,cond_true] at g ⊢;cases hi:kh n&&decide (n.2.2.1.2.1=n.1)
 ·simp_all
 rw[fv] at hi;rw[cond_true,Ec];cases decide ((qo n).2=2)
 ·rw[cond_false]
  cases decide ((qo n).2=3)
  ·rw[cond_false]
   cases decide ((qo n).2=4)
   ·rw[cond_false]
    exact ae0 (aeg h hi.1) rfl
   ·rw[cond_true]
    have i:=alv f c.1;exact uj f c.1 (.inr (.inl rfl)) c.2.2.1 c.2.2.2.1 c.2.2.2.2.1 c.2.2.2.2.2.1 rfl rfl (λ_=>i) (λk=>absurd rfl k) (λ_=>rfl)
  ·rw[cond_true]
   exact uj f c.1 (.inr (.inl rfl)) (show(0:Int)<=2/\(2:Int)<=2 by omega) c.2.2.2.1 c.2.2.2.2.1 c.2.2.2.2.2.1 rfl rfl (λ_=>⟨EN f c.1,al _⟩) (λk=>absurd rfl k) (λ_=>rfl)
 ·rw[cond_true]
  exact uj f c.1 (.inr (.inr rfl)) (show(0:Int)<=1/\(1:Int)<=2 by omega) c.2.2.2.1 c.2.2.2.2.1 c.2.2.2.2.2.1 rfl rfl (λk=>absurd k (show ¬(5:Int)=1 by omega)) (λ_=>rfl) (λk=>by cases k)
theorem Xc{v:vq}{o:qk}(h:(qt (c,v,s,seen)).2=0)(C:o=(qt (c,v,s,seen)).1\/o=KE):tG (oN (v,s,o)).1=0/\(oN (v,s,o)).1.1=v.1/\(oN (v,s,o)).1.2.1=v.2.1:=by
 obtain⟨a,b,c,d,e,f,g⟩:=v;rcases C with rfl|rfl
 ·obtain⟨m,D,E,n,p,j,l,_⟩:=Jx h
  rw[j];exact⟨nA.2 l,rfl,rfl⟩
 ·obtain⟨q,u,z,A,_⟩:=An h
  have i:=gZ.1 q;obtain⟨m,n,p,j,l,_⟩:=BF i u z A;have B:=i;unfold oq at B;rw[KC rfl,Pq j (show 0<=e by omega) (show e<=1048576 by omega)];exact⟨nA.2 (apC l (inc_le (d:=e) (show 0<=e by omega) (show e<=1048576 by omega))),rfl,rfl⟩
theorem aeP{x:Node}(h:cZ m x=0):cZ m (Ag x)=0:=by
 rw[Ag];by_cases k:x.2.1=4
 ·cases UL x.2.2.2.1
  ·rw[dn k,Bool.not_false,Bool.and_self,cond_true]
   have f:=fD.1 (dh h).2;have g:kh x=true:=dn (by omega);have c:=pV h g;have i:=Tn h (show ¬x.2.1=1 by omega);exact Gl (dh h).1 f.1 (show(2:Int)<=3/\(3:Int)<=4 by omega) f.2.2.1 f.2.2.2.1 f.2.2.2.2.1 f.2.2.2.2.2.1 (λk=>absurd k (show ¬(3:Int)=2 by omega)) c.1 c.2.1 c.2.2.1 c.2.2.2.1 c.2.2.2.2 i (λj=>by have:=Tk h j;omega)
  simp_all
 simp_all
theorem Xo{x:Node}(h:cZ m x=0)(g:kh x=true)(j:(sM x.2.2.2.2.2.2.2 x.2.2.1.2.1 f.2.2.2.2).2=0):cZ m (JC m x f)=0:=by
 obtain⟨l,o,n⟩:=Mz (r:=f.2.1) (dh h).1 (pV h g).1;have i:=ZL h g l n;rw[JC];by_cases k:f.1=3
 ·simp_all
 ·rw[gj k]
  obtain⟨a,b,c⟩:=R7 j;exact ZM i a b c
theorem Tt{s:List Seen}(h:cZ m n=0)(j:(ot m n s).2.2=0):cZ m (ot m n s).1=0:=by
 rw[ot,dn h,cond_true] at j ⊢;cases hi:kh n&&decide (¬n.2.2.1.2.1=n.1)
 ·grind
 rw[fv] at hi;have f:=λ(o:qk) (g:(BR n s).2=0)=>Xc (c:=n.2.2.1) (v:=n.2.2.2.1) (s:=n.2.2.1.2.1) (seen:=s) (o:=o) g;have u:qt (n.2.2.1,n.2.2.2.1,n.2.2.1.2.1,s)=BR n s:=rfl;rw[u] at f;generalize BR n s=S at f j ⊢;by_cases g:S.2=0
 ·rw[dn g,cond_true]
  have i:=pV h hi.1;have l:∀o:qk,o=S.1\/o=KE->cZ m (Jp n (Nl n o))=0:=λo q=>by
   obtain⟨a,b,c⟩:=f o g q;exact Oa h hi.1 a (b.trans i.2.2.1) (c.trans i.2.2.2.1)
  refine aeP ?_;by_cases k:S.1.1=3
  ·cases hl:Bq m n.2.2.1 S.1.2.2.2.1
   ·rw[Te k hl];exact l _ (.inr rfl)
   ·rw[NZ hl,dn k]
    have p:=R6 h hl;exact Xo (l _ (.inl rfl)) hi.1 p
  ·rw[Zq k,gj k];simp_all
 simp_all
abbrev eZ:Ty:=qQ
abbrev fS:Type:=vq
abbrev pK:Ty:=(.struct [yI,(.slice .bool),El,El,El,El,(.slice e_),(.slice eZ)])
abbrev jv:Type:=Int×List Bool×List Int×List Int×List Int×List Int×List dO×List fS
abbrev qp:Ty:=(.struct [yI,eT])
abbrev ny:Type:=Int×Node
abbrev pJ:Ty:=(.struct [yI,yI,yI,yI])
abbrev je:Type:=Int×Int×Int×Int
abbrev bP:Ty:=(.struct [eT,wV,yI,yI,yI,.bool,.bool,.bool])
abbrev cr:Type:=Node×qj×Int×Int×Int×Bool×Bool×Bool
abbrev Jq:Ty:=(.struct [jW,yI])
abbrev sr:Type:=Span×Int
variable{P:Program}{z:Value}{ρ:Shelf.Ren}
open Go.Lib Go.RowKit Go.Shelf in
set_option maxHeartbeats 2000000 in
theorem adX(L:SlLaysE0.n41 P ρ){l:TypeInfo}{size g:Nat}(V:P.info? (ρ.t 23)=some l)(v:l.zero=some z)(B:l.size=size)(C:l.bytes=g)(D:z.cells.size=size)(q:0<size)
  (a6:∀w,(Go.sizeOf (ρ.t 23)).run P w=.ok size w) (a:Addr) (n c:Nat) (f:List Value) (w:World) (hl:f.length=n*size) (hn:n<=maxLen) (I:n*g<=140737488355328)
  (S:∀j u,f[j]? = some u->w.cell? (a.add j)=some u) (h1:∀u∈f,u.oneCell'=true) :
  Calls P (ρ.f 41) #[.slice (some a) n c] w λe K=>∃o,e=.returned o/\K.ownsRow w.heap.size (ρ.t 23) size o n f/\o≠.slice none 0 0/\Below w.heap.size w K:=by
 have E:=L.mixed;have t4:=L.t4;have a4:=L.a4;have z4:=L.z4;have v4:=L.v4;have m:=L.t22;have Q:=L.a22;have a5:=L.z22;have a3:=L.v22;have Z:∀(w:World) (a:Option Addr) (n c H p:Nat),(binOp .eql (ρ.t 22) (.slice a n c) (.slice none H p)).run P w=.ok (.bool a.isNone) w:=λw a n c H p=>Lib.run_eql_slice_nil w _ _ a n c H p L.t22;have a0:∀w,Sem.run P (underlying (ρ.t 22)) w=.ok (TypeDesc.slice (ρ.t 23)) w:=run_underlying m;have A:Aside (∀j u,f[j]? = some u->w.cell? (a.add j)=some u):=S;obtain⟨_,_,O⟩:=L.f41
 go_enter O,SlBodyN.n41_ntmps ρ
 go_wp2_with (at_builtin;refine wpList_append_own _ rfl _ _ (ρ.t 22) rfl w.heap.size (ρ.t 23) l z size g m V v B C D q _ _ _ rfl (World.ownsRow_made w #[] 0 (aj _) (aX _) (by simp)) a n c f rfl ?qc1 ?qc2 ?qc3 ?qc4 ?qc5 ?qc6 ?_)
 case qc1=>omega
 case qc2=>exact λj u W=>Lib.cell?_alloc_some _ (A.out j u W)
 case qc3=>omega
 case qc4=>omega
 case qc5=>simp_all
 case qc6=>simp
 intro o w1 J h i
 go_wp2
 go_ret
 refine⟨o,rfl,by omega,i,((Below.refl _ w).alloc (aj _) _).grown h (by simp) (by intro k X;simp[Value.ownBlock] at X;omega)⟩
open Go.Lib Go.RowKit Go.Shelf in
theorem Fj(L:SlLaysE0.n41 P ρ)(t:Ty){H:TypeInfo}{c:Nat}(E:P.info? (ρ.t 23)=some H)(Z:H.zero=some z)(a0:H.size=t.size)(a3:H.bytes=c)(a4:z.cells.size=t.size)(V:0<t.size)(S:t.rP=true)
  (a6:∀w,(Go.sizeOf (ρ.t 23)).run P w=.ok t.size w) {F:Func} (hF:P.funcs[ρ.f 41]? = some F) (f:F.body.isSome=true) (hn:(F.name == "runtime.NumGoroutine")=false) :
  aK.bE P (ρ.f 41) ⟨[.slice t], [.slice t],λx=>decide (((show List t.T from x).length:Int)*c<=140737488355328),λx=>x,false⟩:=by
 refine⟨λw I x aa hI B hp=>?_,nofun,⟨F,hF,f,hn⟩⟩;obtain⟨l⟩:=aa;obtain⟨v,rfl,hv⟩:∃v,l=[v]/\mB w I (.slice t) v x:=B;have q:(show List t.T from x).length*c<=140737488355328:=by grind
 obtain⟨a,o,us,rfl,h2,h3,h4,h5,h6,h7⟩:=Ij.Qi hv;cases a with
 | none=>
   have X:x=([]:List t.T):=bA (by simp_all);subst X;refine(AnyE.slices_Clone_nil L 0 o w).mono ?_
   rintro e D ⟨rfl,rfl⟩
   exact⟨_,rfl,rfl,rfl,rfl,aj _,λ_ _=>rfl,I,λb h=>.inl h,d_.2 ⟨none,0,rfl,aj _,aX _,(λ_=>rfl),λi y h=>by cases h⟩⟩
 | some a=>
   refine(adX L E Z a0 a3 a4 V a6 a (show List t.T from x).length o us w h3 (aW h2 (by decide)) q (λj u hj=>?_) λu hu=>?_).mono ?_
   ·obtain⟨aw,_⟩:=aT.1 hj
    obtain⟨b,off,e,hr⟩:=h4 (λk=>by simp_all);cases e;rw[lZ];exact hr j u hj
   ·obtain⟨i,O,Q⟩:=yv h3 hu
    exact bW.oneCell t S (h7 i _ (EK O)) u Q
   ·rintro e D ⟨v',rfl,⟨hn,C⟩,ag,f⟩
    rcases C with ⟨hz,_⟩|⟨g,p,J,rfl,n,hg,A,az,am,W⟩
    ·simp_all
    refine⟨_,rfl,f.os,f.tape,f.output,f.size,f.block,λb=>b<w.heap.size/\I b\/w.heap.size<=b/\b<D.heap.size,λb h=>h.elim (λh=>.inl h.2) .inr,d_.2 ⟨_,p,rfl,A,h2,(λh=>by cases h),λi y hy=>?_⟩⟩;have E:i<(show List t.T from x).length:=(aT.1 hy).1;have K:∀b,I b->(b<w.heap.size/\I b\/w.heap.size<=b/\b<D.heap.size)/\D.heap[b]? = w.heap[b]? :=λb m=>⟨.inl ⟨hI b m,m⟩,f.block b (hI b m)⟩;refine⟨g,0,(us.drop (i*t.size)).take t.size,rfl,.inr ⟨n,(dp.1 hg).1⟩,?_,?_,(h7 i y hy).mono K t⟩
    ·have:(i+1)*t.size<=(show List t.T from x).length*t.size:=aH _ E
     grind
    ·have b1:=jm (w:=D) hg (0+i*t.size) t.size
     have h8:(J.toList.drop (0+i*t.size)).take t.size=(us.drop (i*t.size)).take t.size:=by
      have:(i+1)*t.size<=(show List t.T from x).length*t.size:=aH _ E;rw[<-W,gF,kJ,kK]
      grind
     simp_all
def alm:Shelf.Ren:=⟨λx=>match x with|41=>165|n=>n,λx=>match x with|22=>34|4=>4|23=>139|n=>n,λx=>x⟩
theorem aez:SlLaysE0.n41 prog alm:=
 {mixed:=by kernel_rfl,f41:=⟨f165.name,by kernel_rfl,func165.trans (congrArg some (by kernel_rfl))⟩,t4:=Tryz.underlying4,a4:=Tryz.isAgg4,z4:=Tryz.sizeOf4,v4:=Tryz.zeroValue4,t22:=Tryz.underlying34,a22:=Tryz.isAgg34,z22:=Tryz.sizeOf34,v22:=Tryz.zeroValue34}
def Yz:List dO->List dO:=λx=>x
def Qv:List dO->Bool:=λx=>decide ((x.length:Int)*(64:Nat)<=140737488355328)
def atu:aK:=⟨[.slice e_], [.slice e_],Qv,Yz,false⟩
theorem arj:Sd 165 atu:=by
 obtain⟨j,h,c,f,g⟩:=info_parts (show(prog.info? 139).map (λi=>(i.zero,i.size,i.bytes))=some (some (.agg #[.int .i64 0,.int .i64 0,.int .i64 0,.int .i64 0,.int .i64 0,.slice none 0 0]),6,64) by kernel_rfl);exact Fj aez e_ h c f g (by kernel_rfl) (by decide) (by kernel_rfl) Tryz.sizeOf139 func165 (by kernel_rfl) (by kernel_rfl)
def aln:Shelf.Ren:=⟨λx=>match x with|41=>218|n=>n,λx=>match x with|22=>32|4=>4|23=>31|n=>n,λx=>x⟩
theorem aeA:SlLaysE0.n41 prog aln:=
 {mixed:=by kernel_rfl,f41:=⟨f218.name,by kernel_rfl,func218.trans (congrArg some (by kernel_rfl))⟩,t4:=Tryz.underlying4,a4:=Tryz.isAgg4,z4:=Tryz.sizeOf4,v4:=Tryz.zeroValue4,t22:=Tryz.underlying32,a22:=Tryz.isAgg32,z22:=Tryz.sizeOf32,v22:=Tryz.zeroValue32}
def FT:List fS->List fS:=λx=>x
def Qw:List fS->Bool:=λx=>decide ((x.length:Int)*(56:Nat)<=140737488355328)
def aty:aK:=⟨[.slice eZ], [.slice eZ],Qw,FT,false⟩
theorem ahi:Sd 218 aty:=by
 obtain⟨j,h,c,f,g⟩:=info_parts (show(prog.info? 31).map (λi=>(i.zero,i.size,i.bytes))=some (some (.agg #[.int .i64 0,.int .i64 0,.int .i64 0,.int .i64 0,.int .i64 0,.int .i64 0,.int .i64 0]),7,56) by kernel_rfl);exact Fj aeA eZ h c f g (by kernel_rfl) (by decide) (by kernel_rfl) Tryz.sizeOf31 func218 (by kernel_rfl) (by kernel_rfl)
def auH(A:aU)(c:Int):LT Bool Empty:=.br (A.bK c 1) (.ret true) (.br (A.bK c 2) (.ret true) (.br (A.bK c 6) (.ret true) (.br (A.bK c 5) (.ret true) (.br (A.bK c 9) (.ret true) (.br (A.bK c 10) (.ret true) (.ret false))))))
def NL:Int->Bool:=λc=>(auH af c).val (Ty.aS [.bool])
def atz:aK:=.all [yI] [.bool] NL
theorem ahj:Sd 220 atz:=fa (aR ap dE (.kN [0,1,0,1,0,1,0,1,0,1]) 58 [] (λA c=>auH A c) (kz (fc func220 fz) sz))
theorem da{l:List α}(h:0<=i/\i<(l.length:Int)):af.and (af.bU 0 i) (af.bG i (af.l l))=true:=by
 rw[bl,aB,aN,dV,dn h.1,dn h.2];rfl
theorem lb{l:List α}{v:α}:(af.set l i v).length=l.length:=cX ..
def uW(a b:Int):Int:=bif decide (a<b) then -1 else bif decide (b<a) then 1 else 0
def Z1:List Int->Int
 | []=>0
 | a::l=>bif decide (a=0) then Z1 l else a
def auF(A:aU)(c:Int):LT Bool Empty:=.ret (A.cu c c)
def NK:Int->Bool:=λc=>(auF af c).val (Ty.aS [.bool])
def ahs:aK:=.all [yI] [.bool] NK
theorem aqc:aK.oI prog 91 ahs/\Sd 91 ahs:=fd (rY ap dE sl 17 [] [] (λA c=>auF A c) (λ_=>Empty.elim) Empty.elim (fc func91 fz) szD (λ_ y=>y.elim) λ(c:Int) f h=>LT.runs (d:=Ty.aS [.bool]) (LT.gf (by kernel_rfl)) (LT.iI (by kernel_rfl)))
def auD(A:aU)(f:Int)(c:Int):LT Int Empty:=.br (A.k NK f) (.br (A.k NK c) (.ret 0) (.ret (-1))) (.br (A.k NK c) (.ret 1) (.br (A.bG f c) (.ret (-1)) (.br (A.ji f c) (.ret 1) (.ret 0))))
theorem ZE:af.k NK x=false:=by
 show af.cu x x=false;rw[dA];simp_all
theorem avF:aY Empty.elim (auD af a b) (uW a b):=by
 refine(ai ZE).2 ((ai ZE).2 ?_);unfold uW;by_cases f:a<b
 ·rw[dn f];exact(ak (by rw[aN];simp_all)).2 (.ret _)
 ·rw[gj f]
  refine(ai (by rw[aN];simp_all)).2 ?_;by_cases c:b<a
  ·rw[dn c];exact(ak (show af.ji a b=true from dn c)).2 (.ret _)
  ·rw[gj c];exact(ai (show af.ji a b=false from gj c)).2 (.ret _)
def rc:(Int×Int)->Int:=λ(a,b)=>uW a b
def abf:aK:=.all [yI,yI] [yI] rc
theorem agW:aK.oI prog 60 abf/\Sd 60 abf:=fd (rY ap dE sl 58 [] [] (λA (c,f)=>auD A c f) (λ_=>Empty.elim) Empty.elim (fc func60 fz) (scD aqc szD) (λ_ y=>y.elim) λ(c,f) g h=>avF)
theorem abb:Sd 60 abf:=agW.2
structure WI where
 (a1:List Int) (a2:Int)
inductive adf where
 | c0 (p:WI) (a3:Int)
noncomputable def ai_:adf->iB
 | .c0 p a3=>⟨[⟨59,18,(en [(3,vi 0),(6,.sl yI p.a1),(7,vi p.a2),(8,vi a3)]),sk f59 [1,1,0,1,0,0],[],none⟩],[.a_]⟩
def auC(A:aU)(c:List Int):LT Int adf:=.ao (.c0 ⟨c,(A.l c)⟩ 0)
def aaF(A:aU):adf->LT Int adf
 | .c0 p a3=>.br (A.bG a3 p.a2) (.iZ A a3 p.a1 (.br (A.cu (A.n yI p.a1 a3:Int) 0) (.ret (A.n yI p.a1 a3:Int)) (.ao (.c0 p (A.b .add .i64 a3 1))))) (.ret 0)
theorem aeL{p:WI}{l:List Int}(g:p.a1=l)(f:p.a2=(l.length:Int))(q:l.length<=140737488355328):
  ∀(j i:Nat),l.length-i=j->i<=l.length->aY (aaF af) (.ao (.c0 p (i:Int))) (Z1 (l.drop i)):=by
 intro j
 induction j with
 | zero=>
   intro i n m;have:i=l.length:=by omega
   subst this;rw[aA,aaF,f,cv];exact(ai (by rw[aN];simp)).2 (.ret _)
 | succ j ih=>
   intro i n m;have c:i<l.length:=by omega
   have o:=ih (i+1) (by omega) (by omega);rw[aA,aaF,g,f];refine(ak (by simp_all;exact dn (by omega))).2 (au.2 ⟨df c,?_⟩);rw[show(af.n yI l (i:Int):Int)=l[i] from fM c _,Cg c,Z1,h_ (i:=i) (by omega)];by_cases h:l[i]=0
   ·rw[dn h]
    exact(ai (by rw[dA];simp_all)).2 o
   ·rw[gj h]
    exact(ak (by rw[dA];simp_all)).2 (.ret _)
theorem or1{l:List Int}(h:Ty.jj [.slice (.int .i64)] l):aY (aaF af) (auC af l) (Z1 l):=
 aeL (l:=l) rfl rfl h.1 l.length 0 rfl (by omega)
def NJ:(List Int)->Int:=λl=>Z1 l
def abe:aK:=.all [El] [yI] NJ
theorem agV:aK.oI prog 59 abe/\Sd 59 abe:=fd (rY ap dE sl 23 [⟨59,3, [[3,6,7,8]]⟩] [] (λA c=>auC A c) aaF ai_ (fc func59 fz) szD (λA y=>match y with |.c0 p f=>⟨34,sl,by kernel_rfl⟩) λc g h=>or1 h)
theorem aba:Sd 59 abe:=agV.2
def auE(A:aU)(a:fS)(b:fS):LT Int Empty:=.ret (A.k NJ [(A.k rc (a.2.2.2.1,b.2.2.2.1)),(A.k rc (a.2.2.2.2.1,b.2.2.2.2.1)),(A.k rc (a.1,b.1)),(A.k rc (a.2.1,b.2.1)),(A.k rc (a.2.2.1,b.2.2.1)),(A.k rc (a.2.2.2.2.2.1,b.2.2.2.2.2.1)),(A.k rc (a.2.2.2.2.2.2,b.2.2.2.2.2.2))])
def Yx:(fS×fS)->Int:=λ(a,b)=>(auE af a b).val (Ty.aS [yI])
def ahr:aK:=.all [eZ,eZ] [yI] Yx
theorem aqb:aK.oI prog 176 ahr/\Sd 176 ahr:=fd (rY ap dE sl 53 [] [] (λA (a,b)=>auE A a b) (λ_=>Empty.elim) Empty.elim (fc func176 fz) (scD agV (scD agW szD)) (λ_ y=>y.elim) λ((a,b):fS×fS) c h=>LT.runs (d:=Ty.aS [yI]) (LT.gf (by kernel_rfl)) (LT.iI (by kernel_rfl)))
variable{off:Nat}
section
open Go.Sort
theorem DY(w:World)(b:Nat)(f:Array Value->Array Value)(c:Nat):(mapBlock w b f).heap[c]? = if b=c then w.heap[c]?.map (onCells f) else w.heap[c]? :=by
 unfold mapBlock
 grind
variable {α:Type} [Inhabited α] {enc:α->List Value} {k:Nat}
theorem xT{w:World}{b n:Nat}{d:Array α}{g:Array Obj}{c:Nat}(h:c<w.heap.size)(f:c≠b):(sortWorldK enc k w b off n d g).heap[c]? = w.heap[c]? :=by
 show((mapBlock (Sort.ahead w n) b (Sort.putCells id off (flatK enc k d))).heap++g)[c]? = _;rw[lN (by simpa [mapBlock,Sort.ahead] using h),DY,if_neg (gX f)];rfl
theorem G0{w:World}{b n:Nat}{d:Array α}{g:Array Obj}{i:Array Value}{T:TypeId}{f:Nat×Nat}(h:w.heap[b]? = some (.cells i T f)):
  (sortWorldK enc k w b off n d g).heap[b]? = some (.cells (Sort.putCells id off (flatK enc k d) i) T f):=by
 have c:=(dp.1 h).1;show((mapBlock (Sort.ahead w n) b (Sort.putCells id off (flatK enc k d))).heap++g)[b]? = _;rw[lN (by simpa [mapBlock,Sort.ahead] using c),DY,if_pos rfl];show(w.heap[b]?).map _=_;rw[h];rfl
theorem C9{F c:Array Value}:(Sort.putCells id off F c).size=c.size:=by simp[Sort.putCells]
theorem afa{j:Nat}{F c:Array Value}(f:off<=j)(g:j<off+F.size)(h:j<c.size):(Sort.putCells id off F c).toList[j]? = some F[j-off]! :=by
 have i:j<(Sort.putCells id off F c).size:=by rw[C9];omega
 simp only[Sort.putCells]
 simp_all
theorem R9{d:Array α}{i r:Nat}(j:i<d.size)(c:r<k):(flatK enc k d)[i*k+r]! = (enc d[i]!)[r]! :=by
 have f:(i*k+r)/k=i:=by rw[mh,Nat.mul_add_div (by omega),Nat.div_eq_of_lt c,ky]
 have g:(i*k+r)%k=r:=by rw[mh,Nat.mul_add_mod,g_ c]
 have h:i*k+r<d.size*k:=by
  have:=aH k (show i+1<=d.size from j)
  grind
 rw[get_flatK _ _ _ _ h,f,g]
theorem VC(l:∀x,(enc x).length=k){d:Array α}{g:Array Value}(h:off+d.size*k<=g.size){i:Nat}(c:i<d.size):
  ((Sort.putCells id off (flatK enc k d) g).toList.drop (off+i*k)).take k=enc d[i]! :=by
 have j:i*k+k<=d.size*k:=by
  have:=aH k (show i+1<=d.size from c)
  grind
 apply dH;intro r;by_cases f:r<k
 ·rw[jF f,cm,afa (by omega) (by rw[size_flatK];omega) (by omega),show off+i*k+r-off=i*k+r by omega,R9 c f]
  simp_all
 grind
theorem US(u:∀x,(enc x).length=k){w:World}{b:Nat}{d:Array α}{f:Array Value}{T:TypeId}(m:w.heap[b]? = some (.cells f T (0,0)))(h:off+d.size*k<=f.size)
  (q:∀i,i<d.size->(f.toList.drop (off+i*k)).take k=enc d[i]!):HoldsK enc k w b off d:=by
 intro j g;rw[size_flatK] at g;have c:0<k:=by grind
 have n:j/k<d.size:=(Nat.div_lt_iff_lt_mul c).2 g;have o:j%k<k:=kT _ c;have e:j/k*k+j%k=j:=Nat.div_add_mod' j k;refine⟨?_,?_⟩
 ·unfold World.cell?
  simp only[m];have l:off+j<f.size:=by omega
  rw[Option.isSome_none,if_neg (by decide),gE l];congr 1;have p:(flatK enc k d)[j]! = (enc d[j/k]!)[j%k]! :=by rw[<-R9 n o,e]
  grind
 ·unfold World.frozen?
  grind
end
section
open Go.Lib Go.RowKit Go.Shelf Go.Sort
theorem VB{P:Program}{ρ:Shelf.Ren}(L:SlLaysF0.n6 P ρ)(t:Ty){c:FuncId}{fn:Ty.Ts [t,t]->Ty.Ts [.int .i64]}(hc:aK.oI P c ⟨[t,t], [.int .i64],λ_=>true,fn,true⟩)(eg:∀args w,(callFunc c args).run P w=.ok (.enter c args) w)
  (aE:∀w,(isAgg (ρ.t 24)).run P w=.ok true w) (zE:∀w,(Go.sizeOf (ρ.t 24)).run P w=.ok t.size w) (hso:t.rP=true) (hag:t.isAgg=true)
  {lt:t.T->t.T->Bool} (hlt:∀x y,lt x y=decide ((show Int from fn (x,y))<0)) (hO:SWO lt) (hT:∀x y,lt x y=false->lt y x=false->x=y) {F:Func} (hF:P.funcs[ρ.f 6]? = some F) (hb:F.body.isSome=true) (hn:(F.name == "runtime.NumGoroutine")=false) :
  gL.bE P (ρ.f 6) ⟨t, [], [c], [],λ_=>true,λx=>(x.1.mergeSort λa b=>!(lt b a),())⟩:=by
 refine⟨λw I x y v aa B hI hv hB hy _=>?_,F,hF,hb,hn⟩;have haa:aa=[]:=hy;subst haa;rcases nO.1 hv with ⟨rfl,rfl,a,e⟩|⟨b,dl,cap,rfl,e,h1,h2,vs,T,fr,h3,h4,h5,h6⟩
 ·cases e
  refine(AnyF.slices_SortFunc_none L a 0 (.func (.func c) #[] #[]) w).mono ?_
  rintro e w' ⟨rfl,rfl⟩
  exact⟨_,rfl,rfl,rfl,rfl,aj _,λ_ _ _=>rfl,I,λb hb=>⟨.inl hb,hI b hb⟩,λb us T fr h=>⟨us,T,fr,h,rfl⟩,nO.2 (.inl ⟨by simp,rfl,a,rfl⟩),rfl⟩
 ·cases e
  by_cases hne:x=[]
  ·subst hne
   refine(AnyF.slices_SortFunc_none L (some ⟨b,dl,none⟩) cap (.func (.func c) #[] #[]) w).mono ?_
   rintro e w' ⟨rfl,rfl⟩
   exact⟨_,rfl,rfl,rfl,rfl,aj _,λ_ _ _=>rfl,I,λb hb=>⟨.inl hb,hI b hb⟩,λb us T fr h=>⟨us,T,fr,h,rfl⟩,nO.2 (.inr ⟨b,dl,cap,rfl,by simp,by simp,by simp,vs,T,fr,h3,h4,h5,by simp⟩),rfl⟩
  have h4:fr=(0,0):=h4;subst h4;have hbl:b<w.heap.size:=(dp.1 h3).1;have hx0:0<x.length:=List.length_pos_iff.2 hne
  let α:Type:={p:List Value×t.T // bW w I t p.1 p.2}
  let el:(i:Nat)->i<x.length->α:=λi hi=>⟨((vs.toList.drop (dl+i*t.size)).take t.size,x[i]),h6 i _ (EK hi)⟩
  haveI:Inhabited α:=⟨el 0 hx0⟩
  let enc:α->List Value:=λp=>p.1.1
  let cf:α->α->Int:=λp q=>fn (p.1.2,q.1.2)
  have hk:∀p,(enc p).length=t.size:=λp=>bW.length t p.2;have h1c:∀p,∀v∈enc p,v.oneCell'=true:=λp=>bW.oneCell t hso p.2;have hlo:∀p q,ltOf cf p q=lt p.1.2 q.1.2:=λp q=>(hlt _ _).symm;have hO':SWO (ltOf cf):=⟨λp=>by rw[hlo];exact hO.irrefl _,λp q r a b=>by rw[hlo] at a b ⊢;exact hO.trans _ _ _ a b,λp q r a b=>by rw[hlo] at a b ⊢;exact hO.ntrans _ _ _ a b⟩
  let d:Array α:=Array.ofFn (n:=x.length) λi=>el i.1 i.2
  have hds:d.size=x.length:=Array.size_ofFn;have hdi:∀i (hi:i<x.length),d[i]! = el i hi:=λi hi=>by
   rw[getElem!_pos d i (by omega)];exact Array.getElem_ofFn _
  have hfit:dl+d.size*t.size<=vs.size:=by
   have h7:=aH t.size h1;rw[hds];exact aW (fH h7 dl) h5
  have hH:HoldsK enc t.size w b dl d:=US hk h3 hfit λi hi=>by grind
  have hIb:¬I b:=hB b (aJ.2 rfl);have keepI:∀(n:Nat) (dk:Array α) (os:Array Obj) (b':Nat),I b'->I b'/\(sortWorldK enc t.size w b dl n dk os).heap[b']? = w.heap[b']? :=λn dk os b' hb'=>⟨hb',xT (hI b' hb') λe=>hIb (e▸hb')⟩;have hcmp:CmpLays P c #[] enc t.size cf b dl d.size w:=by
   intro m os dk hdk p q;have hag':∀p:α,mB (sortWorldK enc t.size w b dl m dk os) I t (.agg (enc p).toArray) p.1.2:=λp=>by
    unfold mB;rw[if_pos hag];exact⟨_,rfl,bW.mono (keepI m dk os) t p.2⟩
   refine(hc (sortWorldK enc t.size w b dl m dk os) I (p.1.2,q.1.2) #[.agg (enc p).toArray,.agg (enc q).toArray] (λb' hb'=>bu (hI b' hb') (size_sortWorldK_c enc t.size w b dl m dk os)) ⟨_,_,rfl,hag' p,_,rfl,hag' q⟩ rfl).mono ?_
   rintro e w' ⟨g0,v,rfl,g1,g2,g3,g4,g5,I',_,g7⟩
   have g7:mB w' I' (.int .i64) v (cf p q):=g7;have g7:v=.int .i64 (cf p q):=by
    unfold mB at g7;rw[if_neg (by decide)] at g7;have:=g7.1;simpa using this
   refine⟨by rw[g7],w'.drawn-(sortWorldK enc t.size w b dl m dk os).drawn,w'.heap.extract (sortWorldK enc t.size w b dl m dk os).heap.size w'.heap.size,?_⟩;generalize sortWorldK enc t.size w b dl m dk os=W at *;cases w' with
   | mk hp tp dr o out=>
     cases W with
     | mk hp2 tp2 dr2 o2 out2=>
       simp only at g0 g1 g2 g3 g4 g5;unfold Sort.grow World.drewN;simp only[World.mk.injEq,true_and,and_true]
       grind
  have hsz:d.size<4611686018427387904:=by
   rw[hds];exact Nat.lt_of_le_of_lt h2 (by decide)
  have call:=AnyQ.slices_SortFunc L t.size aE zE enc hk h1c cf hO' c #[] b dl cap d w eg hcmp hH hbl hsz;rw[hds] at call;refine call.mono ?_
  rintro e w' ⟨rfl,d',n,os,hp,hs,rfl⟩
  obtain⟨p1,_,p3⟩:=hp;have p1:d'.size=x.length:=p1.trans hds;have e1:d'.extract 0 x.length=d':=by rw[<-p1];exact Array.extract_size
  have e2:d.extract 0 x.length=d:=by rw[<-hds];exact Array.extract_size
  rw[e1,e2] at p3;have hdx:d.toList.map (λp=>p.1.2)=x:=by
   apply List.ext_getElem
   ·rw[bO,bD,hds]
   ·intro i i1 i2
    rw[List.getElem_map,Array.getElem_toList];exact congrArg (λp:α=>p.1.2) (Array.getElem_ofFn (f:=λi:Fin x.length=>el i.1 i.2) (by rw[bO,bD] at i1;exact i1))
  have hsorted:d'.toList.map (λp=>p.1.2)=x.mergeSort λa b=>!(lt b a):=by
   haveI:Inhabited t.T:=⟨x[0]⟩;have perm:(d'.toList.map λp=>p.1.2).Perm x:=by
    have:=p3.map (λp:α=>p.1.2)
    rwa [hdx] at this
   have hl:=perm.length_eq;have:=sorted_unique_holds (lt:=lt) hO hT x.toArray (d'.toList.map λp=>p.1.2).toArray ⟨by simp[p1],λi hi=>by
     have:x.length<=i:=by
      rcases hi with h|h
      ·omega
      ·simpa using h
     simp[p1,this],by simpa [p1,cK] using perm⟩ λi j _ hij hj=>by
     have hj:j<x.length:=by simpa using hj
     have:=hs i j (aX _) hij hj;rw[hlo] at this;rw[getElem!_pos _ j (by simp[p1];exact hj),getElem!_pos _ i (by simp[p1];omega)];rw[getElem!_pos d' j (by rw[p1];exact hj),getElem!_pos d' i (by rw[p1];omega)] at this;simpa using this
   simpa using this
  have hlen:(x.mergeSort λa b=>!(lt b a)).length=x.length:=List.length_mergeSort _;refine⟨_,rfl,rfl,rfl,rfl,size_sortWorldK_c enc t.size w b dl n d' os,λb' hb' hne'=>xT hb' λe=>hne' (aJ.2 e),I,λb' hb'=>⟨.inl hb',bu (hI b' hb') (size_sortWorldK_c enc t.size w b dl n d' os)⟩,λb' us T' iH hb'=>?_,nO.2 (.inr ⟨b,dl,cap,rfl,?_,?_,?_,_,T,(0,0),G0 h3,rfl,?_,λi z hz=>?_⟩),rfl⟩
  ·by_cases e:b'=b
   ·subst e
    rw[h3] at hb';cases hb';exact⟨_,_,_,G0 h3,C9⟩
   ·exact⟨us,T',iH,by rw[xT (dp.1 hb').1 e];exact hb',rfl⟩
  ·show[_]=[Value.slice _ (x.mergeSort λa b=>!(lt b a)).length _];rw[hlen]
  ·show(x.mergeSort λa b=>!(lt b a)).length<=_;rw[hlen];exact h1
  ·show(x.mergeSort λa b=>!(lt b a)).length<=_;rw[hlen];exact h2
  ·rw[C9];exact h5
  ·have hz:(x.mergeSort λa b=>!(lt b a))[i]? = some z:=hz
   rw[<-hsorted,cy,Option.map_eq_some_iff] at hz;obtain⟨p,hp,rfl⟩:=hz;obtain⟨hi,hp⟩:=aT.1 hp;rw[Array.getElem_toList] at hp;rw[VC hk (by rw[p1,<-hds];exact hfit) hi,getElem!_pos d' i hi,hp];exact bW.mono (keepI n d' os) t p.2
end
def PQ(f:fS):List Int:=[f.2.2.2.1,f.2.2.2.2.1,f.1,f.2.1,f.2.2.1,f.2.2.2.2.2.1,f.2.2.2.2.2.2]
def lexB:List Int->List Int->Bool
 | a::l,b::m=>decide (a<b)||(decide (a=b)&&lexB l m)
 | _,_=>false
theorem Z2:∀(l m:List Int),l.length=m.length->decide (Z1 (List.zipWith uW l m)<0)=lexB l m
 | [], [],_=>rfl
 | a::l,b::m,h=>by
   have g:=Z2 l m (by simp_all);rw[List.zipWith_cons_cons,Z1,lexB];unfold uW;by_cases c:a<b
   ·simp_all
   ·rw[gj c,cond_false,nF]
    by_cases f:b<a
    ·grind
    ·rw[gj f,dn (show a=b by omega),cY]
     exact g
theorem Ta:∀l:List Int,lexB l l=false
 | []=>rfl
 | a::l=>by rw[lexB,Ta l,gj (Int.lt_irrefl a),dD];rfl
theorem Lp:∀(l m:List Int),l.length=m.length->lexB l m=false->lexB m l=false->l=m
 | [], [],_,_,_=>rfl
 | a::l,b::m,h,h1,h2=>by
   rw[lexB,Bool.or_eq_false_iff] at h1 h2;have e:a=b:=by grind
   subst e;rw[dn rfl,cY] at h1 h2;rw[Lp l m (by simpa using h) h1.2 h2.2]
theorem lex_trans:∀(l m n:List Int),lexB l m=true->lexB m n=true->lexB l n=true
 | [],_,_,h,_=>by simp[lexB] at h
 | _::_, [],_,h,_=>by simp[lexB] at h
 | _::_,_::_, [],_,h=>by simp[lexB] at h
 | a::l,b::m,c::n,f,g=>by
   rw[lexB,oS,fv,rR,rR] at f g ⊢;rcases f with f|⟨f,i⟩<;>rcases g with g|⟨g,j⟩
   ·omega
   ·omega
   ·omega
   ·exact .inr ⟨by omega,lex_trans l m n i j⟩
theorem Qc(l m n:List Int)(g:l.length=m.length)(h:m.length=n.length)(f:lexB l m=false)(c:lexB m n=false):lexB l n=false:=by
 cases h3:lexB l n with
 | false=>rfl
 | true=>
   cases h4:lexB m l with
   | true=>rw[lex_trans m l n h4 h3] at c;grind
   | false=>rw[Lp l m g f h4,c] at h3;grind
def ui(a b:fS):Bool:=lexB (PQ a) (PQ b)
theorem Zr(a b:fS):ui a b=decide ((show Int from Yx (a,b))<0):=(Z2 (PQ a) (PQ b) rfl).symm
theorem X2{a b:fS}(h:PQ a=PQ b):a=b:=by
 obtain⟨a1,a2,c,f,g,i,j⟩:=a;simp only[PQ] at h
 simp_all
theorem UX:Sort.SWO ui:=⟨λa=>Ta _,λa b c=>lex_trans _ _ _,λa b c=>Qc _ _ _ rfl rfl⟩
theorem UY(a b:fS)(c:ui a b=false)(f:ui b a=false):a=b:=X2 (Lp _ _ rfl c f)
def alk:Shelf.Ren:=⟨λx=>match x with|6=>175|14=>228|15=>229|20=>272|21=>273|22=>274|23=>275|24=>276|25=>277|26=>278|27=>279|28=>280|29=>281|46=>314|47=>315|48=>316|49=>317|50=>318|57=>333|n=>n,λx=>match x with|0=>0|3=>3|4=>4|5=>5|9=>9|22=>32|24=>31|25=>255|39=>84|45=>350|46=>351|50=>82|53=>297|55=>300|66=>387|70=>391|76=>407|77=>193|n=>n,λx=>x⟩
theorem aey:SlLaysF0.n6 prog alk:=
 {mixed:=by kernel_rfl,f6:=⟨f175.name,by kernel_rfl,func175.trans (congrArg some (by kernel_rfl))⟩,f14:=⟨f228.name,by kernel_rfl,func228.trans (congrArg some (by kernel_rfl))⟩,f15:=func229.trans (congrArg some (by kernel_rfl)),f20:=⟨f272.name,by kernel_rfl,func272.trans (congrArg some (by kernel_rfl))⟩,f21:=⟨f273.name,by kernel_rfl,func273.trans (congrArg some (by kernel_rfl))⟩,f22:=⟨f274.name,by kernel_rfl,func274.trans (congrArg some (by kernel_rfl))⟩,f23:=⟨f275.name,by kernel_rfl,func275.trans (congrArg some (by kernel_rfl))⟩,f24:=⟨f276.name,by kernel_rfl,func276.trans (congrArg some (by kernel_rfl))⟩,f25:=⟨f277.name,by kernel_rfl,func277.trans (congrArg some (by kernel_rfl))⟩,f26:=⟨f278.name,by kernel_rfl,func278.trans (congrArg some (by kernel_rfl))⟩,f27:=⟨f279.name,by kernel_rfl,func279.trans (congrArg some (by kernel_rfl))⟩,f28:=func280.trans (congrArg some (by kernel_rfl)),f29:=func281.trans (congrArg some (by kernel_rfl)),f46:=⟨f314.name,by kernel_rfl,func314.trans (congrArg some (by kernel_rfl))⟩,f47:=func315.trans (congrArg some (by kernel_rfl)),f48:=func316.trans (congrArg some (by kernel_rfl)),f49:=⟨f317.name,by kernel_rfl,func317.trans (congrArg some (by kernel_rfl))⟩,f50:=⟨f318.name,by kernel_rfl,func318.trans (congrArg some (by kernel_rfl))⟩,f57:=⟨f333.name,by kernel_rfl,func333.trans (congrArg some (by kernel_rfl))⟩,t0:=Tryz.underlying0,a0:=Tryz.isAgg0,z0:=Tryz.sizeOf0,v0:=Tryz.zeroValue0,t3:=Tryz.underlying3,a3:=Tryz.isAgg3,z3:=Tryz.sizeOf3,v3:=Tryz.zeroValue3,t4:=Tryz.underlying4,a4:=Tryz.isAgg4,z4:=Tryz.sizeOf4,v4:=Tryz.zeroValue4,t5:=Tryz.underlying5,a5:=Tryz.isAgg5,z5:=Tryz.sizeOf5,v5:=Tryz.zeroValue5,t9:=Tryz.underlying9,a9:=Tryz.isAgg9,z9:=Tryz.sizeOf9,v9:=Tryz.zeroValue9,t22:=Tryz.underlying32,a22:=Tryz.isAgg32,z22:=Tryz.sizeOf32,v22:=Tryz.zeroValue32,t25:=Tryz.underlying255,a25:=Tryz.isAgg255,z25:=Tryz.sizeOf255,v25:=Tryz.zeroValue255,t39:=Tryz.underlying84,a39:=Tryz.isAgg84,z39:=Tryz.sizeOf84,v39:=Tryz.zeroValue84,t45:=Tryz.underlying350,a45:=Tryz.isAgg350,z45:=Tryz.sizeOf350,v45:=Tryz.zeroValue350,t46:=Tryz.underlying351,a46:=Tryz.isAgg351,z46:=Tryz.sizeOf351,v46:=Tryz.zeroValue351,t50:=Tryz.underlying82,a50:=Tryz.isAgg82,z50:=Tryz.sizeOf82,v50:=Tryz.zeroValue82,t53:=Tryz.underlying297,a53:=Tryz.isAgg297,z53:=Tryz.sizeOf297,v53:=Tryz.zeroValue297,t55:=Tryz.underlying300,a55:=Tryz.isAgg300,z55:=Tryz.sizeOf300,v55:=Tryz.zeroValue300,t66:=Tryz.underlying387,a66:=Tryz.isAgg387,z66:=Tryz.sizeOf387,v66:=Tryz.zeroValue387,t70:=Tryz.underlying391,a70:=Tryz.isAgg391,z70:=Tryz.sizeOf391,v70:=Tryz.zeroValue391,t76:=Tryz.underlying407,a76:=Tryz.isAgg407,z76:=Tryz.sizeOf407,v76:=Tryz.zeroValue407,t77:=Tryz.underlying193,a77:=Tryz.isAgg193,z77:=Tryz.sizeOf193,v77:=Tryz.zeroValue193}
def DU:List fS×Unit->List fS×Unit:=λx=>(x.1.mergeSort λa b=>!(ui b a),())
def aoo:gL:=⟨eZ, [], [176], [],λ_=>true,DU⟩
theorem aoe:gL.bE prog 175 aoo:=
 VB aey eZ (fn:=Yx) aqb.1 (enters_of func176 (by kernel_rfl) rfl) Tryz.isAgg31 Tryz.sizeOf31 (by kernel_rfl) (by kernel_rfl) Zr UX UY func175 (by kernel_rfl) (by kernel_rfl)
abbrev ahu(A:aU)(c:Int)(f:Int):=(A.b .add .u64 (A.b .mul .u64 (A.b .shr .u64 c 32) (A.b .and .u64 f 4294967295)) (A.b .shr .u64 (A.b .mul .u64 (A.b .and .u64 c 4294967295) (A.b .and .u64 f 4294967295)) 32))
def auz(A:aU)(c:Int)(f:Int):LT (Int×Int) Empty:=.ret ((A.b .add .u64 (A.b .add .u64 (A.b .mul .u64 (A.b .shr .u64 c 32) (A.b .shr .u64 f 32)) (A.b .shr .u64 (ahu A c f) 32)) (A.b .shr .u64 (A.b .add .u64 (A.b .and .u64 (ahu A c f) 4294967295) (A.b .mul .u64 (A.b .and .u64 c 4294967295) (A.b .shr .u64 f 32))) 32)),(A.b .mul .u64 c f))
def agt:(Int×Int)->(Int×Int):=λ(c,f)=>(auz af c f).val (Ty.aS [(.int .u64),(.int .u64)])
def atj:aK:=.all [(.int .u64),(.int .u64)] [(.int .u64),(.int .u64)] agt
theorem aq_:Sd 225 atj:=fa (aR ap dE sl 92 [] (λA (c,f)=>auz A c f) (kz (fc func225 fz) sz))
def auw(A:aU)(c:Int)(f:Int):LT (Int×Int) Empty:=.ret (A.k agt (c,f))
def Ba:(Int×Int)->(Int×Int):=λ(c,f)=>(auw af c f).val (Ty.aS [(.int .u64),(.int .u64)])
def atg:aK:=.all [(.int .u64),(.int .u64)] [(.int .u64),(.int .u64)] Ba
theorem ahg:Sd 172 atg:=fa (aR ap dE sl 32 [] (λA (c,f)=>auw A c f) (kz (fc func172 fz) (sc aq_ sz)))
structure WA where
 (a1:List Int) (a2 a3 a4:Int)
structure WB where
 (b0:List Int) (b1 b2 b3:Int)
inductive adb where
 | c0 (p:WA) (a0:Int) (a5:List Int)
 | c1 (p:WB) (b4:Int) (b5:List Int)
noncomputable def ai8:adb->iB
 | .c0 p a0 a5=>⟨[⟨173,48,(en [(7,.own 0),(8,vi a0)]),sk f173 [1,1,1,1,1,1,0,0,0],[],none⟩,⟨118,37,(en [(0,.sl yI p.a1),(1,vi p.a2),(2,vi p.a3),(3,vi p.a4)]),(.ops (ow f118 [1,0]) ((ow f118 [1,0]).toList.drop 3)::sk f118 [1,0]),[],none⟩],[.arr false yI a5,.a_]⟩
 | .c1 p b4 c=>⟨[⟨118,37,(en [(0,.sl yI p.b0),(2,vi p.b1),(3,vi p.b2),(11,.own 0),(20,vi p.b3),(21,vi b4)]),sk f118 [1,1,0,1,0,0],[],none⟩],[.arr false yI c,.a_]⟩
abbrev Ei(A:aU)(n:Int):=(A.v .i64 (A.k Ba (1,(A.v .u64 n))).2)
def am5(A:aU)(l:List Int)(n:Int)(f:Int)(g:Int)(c:Int):LT (List Int) adb:=.br (A.bG n 0) (.bZ 117 "slices.go:516") (.br (A.ji (A.k Ba (1,(A.v .u64 n))).1 0) (.bZ 117 "slices.go:522") (.br (A.ji (A.k Ba (1,(A.v .u64 n))).2 9223372036854775807) (.bZ 117 "slices.go:522") (.ar (A.and (A.bK (Ei A n) (Ei A n)) (A.and (A.bU 0 (Ei A n)) (A.bU (Ei A n) 17592186044416))) (.ao (.c0 ⟨l,n,f,g⟩ (A.mn (A.l [c]) (A.l (A.r (Ei A n) (0:Int)))) (A.spl (A.r (Ei A n) (0:Int)) 0 (A.s [c] 0 (A.mn (A.l [c]) (A.l (A.r (Ei A n) (0:Int)))))))))))
def Vr(A:aU):adb->LT (List Int) adb
 | .c0 p a0 a5=>.br (A.bG a0 (A.l a5)) (.ar (A.and (A.bU 0 a0) (A.and (A.bU a0 (A.l a5)) (A.bU (A.l a5) (A.l a5)))) (.ar (A.and (A.bU 0 0) (A.and (A.bU 0 a0) (A.bU a0 (A.l a5)))) (.ao (.c0 p (A.b .add .i64 a0 (A.mn (A.l (A.s a5 0 (A.b .add .i64 0 (A.b .sub .i64 a0 0)))) (A.b .sub .i64 (A.l a5) a0))) (A.spl a5 a0 (A.s (A.s a5 0 (A.b .add .i64 0 (A.b .sub .i64 a0 0))) 0 (A.mn (A.l (A.s a5 0 (A.b .add .i64 0 (A.b .sub .i64 a0 0)))) (A.b .sub .i64 (A.l a5) a0)))))))) (.ao (.c1 ⟨p.a1,p.a3,p.a4,(A.mn p.a2 (A.l p.a1))⟩ 0 a5))
 | .c1 p b4 c=>.br (A.bG b4 p.b3) (.iZ A b4 p.b0 (.iZ A b4 c (.ao (.c1 p (A.b .add .i64 b4 1) (A.set c b4 (A.mn (A.mx (A.n yI p.b0 b4:Int) p.b1) p.b2)))))) (.ret c)
theorem ZD:∀n:Fin 1025,af.k Ba (1,af.v .u64 (n.val:Int))=((0,(n.val:Int)):Int×Int):=by decide +kernel
theorem My{i j:Nat}(h:j<=i)(c:i<4611686018427387904):af.b .sub .i64 (i:Int) (j:Int)=((i-j:Nat):Int):=by
 rw[fO,lg (by omega) (by omega)];omega
theorem vG{i j:Nat}:af.mn (i:Int) (j:Int)=((min i j:Nat):Int):=by
 rw[nW];omega
variable{N:Nat}
theorem aaq{p:WA}{v:Int}{r:List Int}(u:N<=1024)(n:aY (Vr af) (.ao (.c1 ⟨p.a1,p.a3,p.a4,af.mn p.a2 (af.l p.a1)⟩ 0 (List.replicate N v))) r):∀(j k:Nat),N-k<=j->(N≠0->1<=k)->k<=N->
  aY (Vr af) (.ao (.c0 p (k:Int) (List.replicate k v++List.replicate (N-k) 0))) r:=by
 have l:∀k,k=N->aY (Vr af) (.ao (.c0 p (k:Int) (List.replicate k v++List.replicate (N-k) 0))) r:=by
  rintro k rfl
  rw[kD,jG,aL];refine aA.2 ((ai ?_).2 n);rw[dV,bf];simp
 intro j
 induction j with
 | zero=>grind
 | succ j ih=>
   intro k o q m;by_cases z:k=N
   ·simp_all
   have c:(List.replicate k v++List.replicate (N-k) (0:Int)).length=N:=by simp_all
   have f:af.b .add .i64 0 (af.b .sub .i64 (k:Int) 0)=(k:Int):=by
    rw[show(0:Int)=((0:Nat):Int) from rfl,My (aX _) (by omega),jy (by omega)];omega
   have g:af.s (List.replicate k v++List.replicate (N-k) (0:Int)) 0 (k:Int)=List.replicate k v:=by
    rw[iY,rz,fV (by rw[I4])];rfl
   have h:af.b .sub .i64 (N:Int) (k:Int)=((N-k:Nat):Int):=My m (by omega);refine aA.2 ((ak ?_).2 (au.2 ⟨?_,au.2 ⟨?_,?_⟩⟩))
   ·rw[dV,bf,c];grind
   ·rw[dV,c,bl,bl,aB,aB,aB];simp_all
   ·rw[dV,c,bl,bl,aB,aB,aB];simp_all
   ·rw[f,g,dV,dV,c,I4,h,vG,jy (by omega),iY,rz]
    have i:af.spl (List.replicate k v++List.replicate (N-k) (0:Int)) (k:Int) (((List.replicate k v).take (min k (N-k))).drop (0:Int).toNat)=List.replicate (k+min k (N-k)) v++List.replicate (N-(k+min k (N-k))) 0:=by
     rw[mW,rz,fV (by simp_all),List.take_replicate];show List.replicate k v++List.replicate _ v++List.drop (k+(List.replicate _ v).length) _=_;rw[I4,List.drop_append,jE,jE,I4,Nat.min_assoc,gI];rw[show k-(k+min k (min (N-k) k))=0 by omega,jG,jU];congr 2<;>omega
    rw[i];exact ih (k+min k (N-k)) (by omega) (λ_=>by omega) (by omega)
def vx(f c x:Int):Int:=af.mn (af.mx x f) c
def rowP(l:List Int)(n:Nat)(f c g:Int):List Int:=(l.take n).map (vx f c)++List.replicate (n-l.length) g
theorem aat{p:WB}{l:List Int}{f c ms:Int}(h:p.b0=l)(o:p.b1=f)(q:p.b2=c)(m:p.b3=((min N l.length:Nat):Int))(A:N<=1024):
  ∀(j i:Nat),min N l.length-i=j->i<=min N l.length->aY (Vr af) (.ao (.c1 p (i:Int) ((l.take i).map (vx f c)++List.replicate (N-i) ms))) (rowP l N f c ms):=by
 intro j
 induction j with
 | zero=>
   intro i v c;refine aA.2 ((ai ?_).2 (aO ?_ (.ret _)))
   ·rw[m,bf];grind
   ·unfold rowP
    grind
 | succ j ih=>
   intro i v u;have g:i<l.length:=by omega
   have n:((l.take i).map (vx f c)++List.replicate (N-i) ms).length=N:=by
    rw[qS,bO,cd,I4];omega
   refine aA.2 ((ak ?_).2 (au.2 ⟨?_,au.2 ⟨?_,?_⟩⟩))
   ·rw[m,bf];grind
   ·rw[h];exact df g
   ·exact df (by omega)
   ·rw[h,o,q,show(af.n yI l (i:Int):Int)=l[i] from fM g _,h_ (by omega),Mw,rz]
    have e:((l.take i).map (vx f c)++List.replicate (N-i) ms).set i (af.mn (af.mx l[i] f) c)=(l.take (i+1)).map (vx f c)++List.replicate (N-(i+1)) ms:=by
     have z:((l.take i).map (vx f c)).length=i:=by grind
     rw[List.set_append,z,if_neg (eD _),kD,show N-i=N-(i+1)+1 by omega,List.replicate_succ,mH,bi g,fG,b_];rfl
    rw[e];exact ih (i+1) (by omega) (by omega)
theorem alr{l:List Int}{n f c:Int}(h:0<=n/\n<=1024):aY (Vr af) (am5 af l n g f c) (rowP l n.toNat g f c):=by
 obtain⟨N,rfl⟩:=aP h.1;have i:N<=1024:=by omega
 have row:=aat (p:=⟨l,g,f,af.mn (N:Int) (af.l l)⟩) (l:=l) (ms:=c) rfl rfl rfl (by rw[dV,vG]) i (min N l.length) 0 (by omega) (by omega);have o:=aaq (p:=⟨l,(N:Int),g,f⟩) (v:=c) i row N (min 1 N) (by omega) (λh=>by omega) (by omega);have m:=ZD ⟨N,by omega⟩;have j:af.v .i64 (N:Int)=(N:Int):=lg (by omega) (by omega);unfold am5 Ei;rw[m,j];refine(ai ?_).2 ((ai rfl).2 ((ai ?_).2 (au.2 ⟨?_,?_⟩)))
 ·rfl
 ·show decide ((N:Int) > 9223372036854775807)=false;grind
 ·rw[bl,bl,bd,aB,aB];grind
 ·have e:af.r (N:Int) (0:Int)=List.replicate N 0:=by rfl
  rw[e,dV,dV,I4,vG];have q:af.spl (List.replicate N (0:Int)) 0 (af.s [c] 0 ((min [c].length N:Nat):Int))=List.replicate (min 1 N) c++List.replicate (N-min 1 N) 0:=by
   rcases Nat.eq_zero_or_pos N with rfl|i
   ·rfl
   ·obtain⟨M,rfl⟩:∃M,N=M+1:=⟨N-1,by omega⟩
    rfl
  simp_all
def NH:(List Int×Int×Int×Int×Int)->(List Int):=λ(l,n,f,c,g)=>rowP l n.toNat f c g
def tj:(List Int×Int×Int×Int×Int)->Bool:=λ(_,n,_,_,_)=>decide (0<=n/\n<=1024)
def ato:aK:=⟨[El,yI,yI,yI,yI], [El],tj,NH,false⟩
theorem are:Sd 118 ato:=bp ap dE sl 71 [⟨118,3, [[0,2,3,11,20,21]]⟩,⟨173,8, [[7,8], [0,1,2,3]]⟩] [] (λA (l,n,f,g,c)=>am5 A l n f g c) Vr ai8 (kz (fc func118 (fc func173 fz)) (sc ahg sz)) (λA y=>match y with |.c0 p j m=>⟨35,sl,by kernel_rfl⟩|.c1 p b4 o=>⟨39,sl,by kernel_rfl⟩) λ((l,n,f,g,c):List Int×Int×Int×Int×Int) i h=>alr (of_decide_eq_true i)
inductive ada where
 | c0 (a0:Int) (a1:List Bool)
noncomputable def ai7:ada->iB
 | .c0 a0 a1=>⟨[⟨117,48,(en [(7,.own 0),(8,vi a0)]),sk f117 [1,1,1,1,1,1,0,0,0],[],none⟩],[.arr false .bool a1,.a_]⟩
abbrev Eh(A:aU)(f:List Bool)(c:Int):=(A.v .i64 (A.k Ba ((A.v .u64 (A.l f)),(A.v .u64 c))).2)
def am4(A:aU)(f:List Bool)(c:Int):LT (Bool×(List Bool)×Unit) ada:=.br (A.bG c 0) (.bZ 117 "slices.go:516") (.br (A.ji (A.k Ba ((A.v .u64 (A.l f)),(A.v .u64 c))).1 0) (.bZ 117 "slices.go:522") (.br (A.ji (A.k Ba ((A.v .u64 (A.l f)),(A.v .u64 c))).2 9223372036854775807) (.bZ 117 "slices.go:522") (.ar (A.and (A.bK (Eh A f c) (Eh A f c)) (A.and (A.bU 0 (Eh A f c)) (A.bU (Eh A f c) 140737488355328))) (.ao (.c0 (A.mn (A.l f) (A.l (A.r (Eh A f c) false))) (A.spl (A.r (Eh A f c) false) 0 (A.s f 0 (A.mn (A.l f) (A.l (A.r (Eh A f c) false))))))))))
def ae8(A:aU):ada->LT (Bool×(List Bool)×Unit) ada
 | .c0 a0 a1=>.br (A.bG a0 (A.l a1)) (.ar (A.and (A.bU 0 a0) (A.and (A.bU a0 (A.l a1)) (A.bU (A.l a1) (A.l a1)))) (.ar (A.and (A.bU 0 0) (A.and (A.bU 0 a0) (A.bU a0 (A.l a1)))) (.ao (.c0 (A.b .add .i64 a0 (A.mn (A.l (A.s a1 0 (A.b .add .i64 0 (A.b .sub .i64 a0 0)))) (A.b .sub .i64 (A.l a1) a0))) (A.spl a1 a0 (A.s (A.s a1 0 (A.b .add .i64 0 (A.b .sub .i64 a0 0))) 0 (A.mn (A.l (A.s a1 0 (A.b .add .i64 0 (A.b .sub .i64 a0 0)))) (A.b .sub .i64 (A.l a1) a0)))))))) (.ret (true,a1,()))
theorem Vb{v:Bool}(p:N<=1024):∀(j k:Nat),N-k<=j->(N≠0->1<=k)->k<=N->
  aY (ae8 af) (.ao (.c0 (k:Int) (List.replicate k v++List.replicate (N-k) false))) (true,List.replicate N v,()):=by
 have l:∀k,k=N->aY (ae8 af) (.ao (.c0 (k:Int) (List.replicate k v++List.replicate (N-k) false))) (true,List.replicate N v,()):=by
  rintro k rfl
  rw[kD,jG,aL];refine aA.2 ((ai ?_).2 (.ret _));rw[dV,bf];simp
 intro j
 induction j with
 | zero=>grind
 | succ j ih=>
   intro k n o m;by_cases q:k=N
   ·simp_all
   have c:(List.replicate k v++List.replicate (N-k) false).length=N:=by simp_all
   have f:af.b .add .i64 0 (af.b .sub .i64 (k:Int) 0)=(k:Int):=by
    rw[show(0:Int)=((0:Nat):Int) from rfl,My (aX _) (by omega),jy (by omega)];omega
   have g:af.s (List.replicate k v++List.replicate (N-k) false) 0 (k:Int)=List.replicate k v:=by
    rw[iY,rz,fV (by rw[I4])];rfl
   have h:af.b .sub .i64 (N:Int) (k:Int)=((N-k:Nat):Int):=My m (by omega);refine aA.2 ((ak ?_).2 (au.2 ⟨?_,au.2 ⟨?_,?_⟩⟩))
   ·rw[dV,bf,c];grind
   ·rw[dV,c,bl,bl,aB,aB,aB];simp_all
   ·rw[dV,c,bl,bl,aB,aB,aB];simp_all
   ·rw[f,g,dV,dV,c,I4,h,vG,jy (by omega),iY,rz]
    have i:af.spl (List.replicate k v++List.replicate (N-k) false) (k:Int) (((List.replicate k v).take (min k (N-k))).drop (0:Int).toNat)=List.replicate (k+min k (N-k)) v++List.replicate (N-(k+min k (N-k))) false:=by
     rw[mW,rz,fV (by simp_all),List.take_replicate];show List.replicate k v++List.replicate _ v++List.drop (k+(List.replicate _ v).length) _=_;rw[I4,List.drop_append,jE,jE,I4,Nat.min_assoc,gI];rw[show k-(k+min k (min (N-k) k))=0 by omega,jG,jU];congr 2<;>omega
    rw[i];exact ih (k+min k (N-k)) (by omega) (λ_=>by omega) (by omega)
theorem alh{l:List Bool}{n:Int}(h:l.length=1/\0<=n/\n<=1024):aY (ae8 af) (am4 af l n) (true,List.replicate n.toNat (l.getD 0 false),()):=by
 obtain⟨N,rfl⟩:=aP h.2.1;obtain⟨v,rfl⟩:=ko.1 h.1;have f:N<=1024:=by omega
 have i:=Vb (v:=v) f N (min 1 N) (by omega) (λh=>by omega) (by omega);have c:=ZD ⟨N,by omega⟩;have c:af.k Ba (af.v .u64 (af.l [v]),af.v .u64 (N:Int))=((0,(N:Int)):Int×Int):=c;have g:af.v .i64 (N:Int)=(N:Int):=lg (by omega) (by omega);unfold am4 Eh;rw[c,g];refine(ai ?_).2 ((ai rfl).2 ((ai ?_).2 (au.2 ⟨?_,?_⟩)))
 ·rfl
 ·show decide ((N:Int) > 9223372036854775807)=false;grind
 ·rw[bl,bl,bd,aB,aB];grind
 ·have e:af.r (N:Int) false=List.replicate N false:=by rfl
  rw[e,dV,dV,I4,vG];have j:af.spl (List.replicate N false) 0 (af.s [v] 0 ((min [v].length N:Nat):Int))=List.replicate (min 1 N) v++List.replicate (N-min 1 N) false:=by
   rcases Nat.eq_zero_or_pos N with rfl|f
   ·rfl
   ·obtain⟨M,rfl⟩:∃M,N=M+1:=⟨N-1,by omega⟩
    rfl
  simp_all
def Yv:(List Bool×Int)->Bool×(List Bool)×Unit:=λ(l,n)=>(true,List.replicate n.toNat (l.getD 0 false),())
def GA:(List Bool×Int)->Bool:=λ(l,n)=>decide (l.length=1/\0<=n/\n<=1024)
def apG:o4:=⟨[(.slice .bool),yI],.own .bool,false, [],GA,Yv⟩
theorem apE:o4.bE prog 117 apG:=vY ap dE sl 61 [⟨117,8, [[7,8]]⟩] [] (λA (f,c)=>am4 A f c) ae8 ai7 (kz (fc func117 fz) (sc ahg sz)) (λA y=>match y with |.c0 i a1=>⟨30,sl,by kernel_rfl⟩) λ((f,c):(List Bool×Int)) g h=>alh (of_decide_eq_true g)
def auA(A:aU)(m:ax)(o:dO):LT Bool Empty:=.br (A.nM o.1 0) (.br (A.not (A.bG o.1 m.1)) (.ret false) (.br (A.nM o.2.2.1 0) (.br (A.not (A.bG o.2.2.1 m.1)) (.ret false) (.br (A.bG o.2.1 0) (.ret false) (.br (A.nM o.2.1 16) (.ret false) (.br (A.bK o.2.2.2.1 1) (.br (A.bK o.2.2.2.2.1 0) (.ret (A.bU (A.l o.2.2.2.2.2) 8)) (.ret false)) (.br (A.bK o.2.2.2.1 2) (.br (A.bK o.2.2.2.2.1 0) (.ret (A.bK (A.l o.2.2.2.2.2) 0)) (.ret false)) (.br (A.bK o.2.2.2.1 3) (.br (A.nM o.2.2.2.2.1 (-1)) (.br (A.bG o.2.2.2.2.1 (A.l m.2.2.2.2.2.2.2)) (.ret (A.bK (A.l o.2.2.2.2.2) 0)) (.ret false)) (.ret false)) (.ret false))))))) (.ret false))) (.ret false)
def tZ:(ax×dO)->Bool:=λ(m,o)=>(auA af m o).val (Ty.aS [.bool])
def atq:aK:=.all [bJ,e_] [.bool] tZ
theorem arh:Sd 120 atq:=fa (aR ap dE sl 125 [] (λA (m,o)=>auA A m o) (kz (fc func120 (fc func178 fz)) sz))
abbrev abK(A:aU)(m:ax):LT (List Span×Bool) Empty:=(.ret (([(0,(A.b .sub .i64 m.1 1)),(0,0),(0,(A.b .sub .i64 m.1 1)),(0,0),(0,0)]:List Span),true))
abbrev abL(A:aU)(m:ax):LT (List Span×Bool) Empty:=(.ret (([(0,(A.b .sub .i64 m.1 1)),(0,0),(0,0),(0,0),(0,0)]:List Span),true))
def auG(A:aU)(m:ax)(c:Int):LT (List Span×Bool) Empty:=.br (A.bK c 1) (abK A m) (.br (A.bK c 2) (abK A m) (.br (A.bK c 6) (abK A m) (.br (A.bK c 3) (abL A m) (.br (A.bK c 4) (abL A m) (.br (A.bK c 11) (abL A m) (.br (A.bK c 5) (.ret (([(0,0),(0,1),(0,(A.b .sub .i64 m.1 1)),(0,0),(0,0)]:List Span),true)) (.br (A.bK c 12) (.ret (([(0,0),(0,1),(0,0),(0,0),(0,0)]:List Span),true)) (.br (A.bK c 7) (.ret (([(0,(A.b .sub .i64 m.1 1)),(0,0),(0,0),(0,200),(0,0)]:List Span),true)) (.br (A.bK c 8) (.ret (([(0,(A.b .sub .i64 m.1 1)),(0,0),(0,0),((A.u .neg .i64 m.2.2.1),m.2.2.1),(0,0)]:List Span),true)) (.br (A.bK c 9) (.ret (([(0,(A.b .sub .i64 m.1 1)),(0,0),(0,(A.b .sub .i64 m.1 1)),(0,(A.b .sub .i64 m.2.1 1)),(1,m.2.1)]:List Span),true)) (.br (A.bK c 10) (.ret (([(0,(A.b .sub .i64 m.1 1)),(0,0),(0,(A.b .sub .i64 m.1 1)),(0,(A.b .sub .i64 m.1 1)),(0,0)]:List Span),true)) (.ret (([(0,0),(0,0),(0,0),(0,0),(0,0)]:List Span),false)))))))))))))
def Bb:(ax×Int)->(List Span×Bool):=λ(m,c)=>(auG af m c).val (Ty.aS [(.arr 5 jW),.bool])
def atv:aK:=.all [bJ,yI] [(.arr 5 jW),.bool] Bb
theorem ark:Sd 226 atv:=fa (aR ap dE (.kN [0,1,0,1,0,0,1,0,1]) 159 [] (λA (m,c)=>auG A m c) (kz (fc func226 fz) sz))
def am_(A:aU)(l:Span)(n:Int):LT Bool Empty:=.br (A.nM n l.1) (.ret (A.bU n l.2)) (.ret false)
def Bc:(Span×Int)->Bool:=λ(l,n)=>(am_ af l n).val (Ty.aS [.bool])
def atw:aK:=.all [jW,yI] [.bool] Bc
theorem arl:Sd 227 atw:=fa (aR ap dE sl 25 [] (λA (l,n)=>am_ A l n) (kz (fc func227 fz) sz))
abbrev ahv(A:aU)(m:ax)(f:fS):LT Bool Empty:=(.br (A.not (A.k Bc ((A.n jW (A.k Bb (m,f.1)).1 0:Span),f.2.1))) (.ret false) (.br (A.not (A.k Bc ((A.n jW (A.k Bb (m,f.1)).1 1:Span),f.2.2.1))) (.ret false) (.br (A.not (A.k Bc ((A.n jW (A.k Bb (m,f.1)).1 2:Span),f.2.2.2.2.1))) (.ret false) (.br (A.not (A.k Bc ((A.n jW (A.k Bb (m,f.1)).1 3:Span),f.2.2.2.2.2.1))) (.ret false) (.br (A.not (A.k Bc ((A.n jW (A.k Bb (m,f.1)).1 4:Span),f.2.2.2.2.2.2))) (.ret false) (.ret true))))))
def am8(A:aU)(m:ax)(f:fS):LT Bool Empty:=.br (A.not (A.k Bb (m,f.1)).2) (.ret false) (.br (A.bG f.2.2.2.1 0) (.ret false) (.br (A.nM f.2.2.2.1 16) (.ret false) (.br (A.bK f.1 10) (.br (A.bK f.2.2.2.2.1 f.2.1) (.ret false) (ahv A m f)) (ahv A m f))))
def mM:(ax×fS)->Bool:=λ(m,f)=>(am8 af m f).val (Ty.aS [.bool])
def att:aK:=.all [bJ,eZ] [.bool] mM
theorem ari:Sd 174 att:=fa (aR ap dE sl 250 [] (λA (m,f)=>am8 A m f) (kz (fc func174 fz) (sc ark (sc arl sz))))
structure WC where
 (a0:List fS) (a1:Int) (a3:ax)
structure WE where
 (b0:List fS) (b1:Int) (b3:ax)
structure WG where
 (c1:List fS)
structure WH where
 (d1 d2:Int)
inductive ade where
 | c0 (p:WC) (a2:Int)
 | c1 (p:WE) (b2:Int) (b4:List fS)
 | c2 (p:WG) (c0:Int)
 | c3 (p:WH) (d0:Int) (d3:Int) (d4:List fS)
noncomputable def ai9:ade->iB
 | .c0 p a2=>⟨[⟨119,29,(en [(2,.ptr 0 0),(5,.gb true),(11,.sl eZ p.a0),(12,vi p.a1),(13,vi a2)]),sk f119 [1,1,1,0,1,0,0],[],none⟩],[.ay false (dc bJ p.a3),.a_]⟩
 | .c1 p b2 b4=>⟨[⟨119,29,(en [(2,.ptr 0 0),(5,.own 1),(11,.sl eZ p.b0),(12,vi p.b1),(13,vi b2)]),sk f119 [1,1,1,0,1,0,0],[],none⟩],[.ay false (dc bJ p.b3),.arr false eZ b4,.a_]⟩
 | .c2 p c0=>⟨[⟨177,61,(en [(0,.own 0),(3,vi c0)]),sk f177 [1,1,0,1,0,0],[],none⟩,⟨119,29,.leaf,[.ops (ow f119 [1,1,1,1,1,0]) ((ow f119 [1,1,1,1,1,0]).toList.drop 1),.code .ret],[],none⟩],[.arr false eZ p.c1,.a_]⟩
 | .c3 p d0 d3 d4=>⟨[⟨177,61,(en [(0,.own 0),(3,vi d0),(4,.vL 0 7 false p.d1 p.d2),(5,vi d3)]),sk f177 [1,1,0,1,0,0,1,0,0,1,0,1,0,1,0,0],[],none⟩,⟨119,29,.leaf,[.ops (ow f119 [1,1,1,1,1,0]) ((ow f119 [1,1,1,1,1,0]).toList.drop 1),.code .ret],[],none⟩],[.arr false eZ d4,.a_]⟩
def am6(A:aU)(m:ax)(l:List fS):LT (List fS) ade:=.br (A.cu (A.k j_ m) 0) (.ret ([]:List fS)) (.ao (.c0 ⟨l,(A.l l),m⟩ 0))
def QY(A:aU):ade->LT (List fS) ade
 | .c0 p a2=>.br (A.bG a2 p.a1) (.iZ A a2 p.a0 (.br (A.k mM (p.a3,(A.n eZ p.a0 a2:fS))) (.ar (A.bU (A.l (([(A.n eZ p.a0 a2:fS)]:List fS):List fS)) 2513169434916) (.ao (.c1 ⟨p.a0,p.a1,p.a3⟩ (A.b .add .i64 a2 1) ([(A.n eZ p.a0 a2:fS)]:List fS)))) (.ao (.c0 p (A.b .add .i64 a2 1))))) (.ar (A.k (λ_=>true) (([]:List fS),())) (.ret ([]:List fS)))
 | .c1 p b2 b4=>.br (A.bG b2 p.b1) (.iZ A b2 p.b0 (.br (A.k mM (p.b3,(A.n eZ p.b0 b2:fS))) (.ar (A.bU (A.l (A.p b4 ([(A.n eZ p.b0 b2:fS)]:List fS))) 2513169434916) (.ao (.c1 p (A.b .add .i64 b2 1) (A.p b4 ([(A.n eZ p.b0 b2:fS)]:List fS))))) (.ao (.c1 p (A.b .add .i64 b2 1) b4)))) (.ar (A.k (λ_=>true) (b4,())) (.br (A.bG (A.l (A.k DU (b4,())).1) 2) (.ret (A.k DU (b4,())).1) (.ao (.c2 ⟨(A.k DU (b4,())).1⟩ 1))))
 | .c2 p c0=>.br (A.bG c0 (A.l p.c1)) (.iZ A c0 p.c1 (.iZ A (A.b .sub .i64 c0 1) p.c1 (.br (A.and (A.bK (A.n eZ p.c1 c0:fS).1 (A.n eZ p.c1 (A.b .sub .i64 c0 1):fS).1) (A.and (A.bK (A.n eZ p.c1 c0:fS).2.1 (A.n eZ p.c1 (A.b .sub .i64 c0 1):fS).2.1) (A.and (A.bK (A.n eZ p.c1 c0:fS).2.2.1 (A.n eZ p.c1 (A.b .sub .i64 c0 1):fS).2.2.1) (A.and (A.bK (A.n eZ p.c1 c0:fS).2.2.2.1 (A.n eZ p.c1 (A.b .sub .i64 c0 1):fS).2.2.2.1) (A.and (A.bK (A.n eZ p.c1 c0:fS).2.2.2.2.1 (A.n eZ p.c1 (A.b .sub .i64 c0 1):fS).2.2.2.2.1) (A.and (A.bK (A.n eZ p.c1 c0:fS).2.2.2.2.2.1 (A.n eZ p.c1 (A.b .sub .i64 c0 1):fS).2.2.2.2.2.1) (A.and (A.bK (A.n eZ p.c1 c0:fS).2.2.2.2.2.2 (A.n eZ p.c1 (A.b .sub .i64 c0 1):fS).2.2.2.2.2.2) true))))))) (.ar (A.and (A.bU 0 c0) (A.and (A.bU c0 (A.l p.c1)) (A.bU (A.l p.c1) (A.l p.c1)))) (.ao (.c3 ⟨c0,(A.b .sub .i64 (A.l p.c1) c0)⟩ c0 1 p.c1))) (.ao (.c2 p (A.b .add .i64 c0 1)))))) (.ret p.c1)
 | .c3 p d0 d3 d4=>.br (A.bG d3 p.d2) (.ar (A.and (A.bU 0 d3) (A.bG d3 p.d2)) (.ar (A.and (A.bU 0 (A.b .sub .i64 d3 1)) (A.bG (A.b .sub .i64 d3 1) p.d2)) (.br (A.not (A.and (A.bK (A.n eZ d4 (A.b .add .i64 p.d1 d3):fS).1 (A.n eZ d4 (A.b .add .i64 p.d1 (A.b .sub .i64 d3 1)):fS).1) (A.and (A.bK (A.n eZ d4 (A.b .add .i64 p.d1 d3):fS).2.1 (A.n eZ d4 (A.b .add .i64 p.d1 (A.b .sub .i64 d3 1)):fS).2.1) (A.and (A.bK (A.n eZ d4 (A.b .add .i64 p.d1 d3):fS).2.2.1 (A.n eZ d4 (A.b .add .i64 p.d1 (A.b .sub .i64 d3 1)):fS).2.2.1) (A.and (A.bK (A.n eZ d4 (A.b .add .i64 p.d1 d3):fS).2.2.2.1 (A.n eZ d4 (A.b .add .i64 p.d1 (A.b .sub .i64 d3 1)):fS).2.2.2.1) (A.and (A.bK (A.n eZ d4 (A.b .add .i64 p.d1 d3):fS).2.2.2.2.1 (A.n eZ d4 (A.b .add .i64 p.d1 (A.b .sub .i64 d3 1)):fS).2.2.2.2.1) (A.and (A.bK (A.n eZ d4 (A.b .add .i64 p.d1 d3):fS).2.2.2.2.2.1 (A.n eZ d4 (A.b .add .i64 p.d1 (A.b .sub .i64 d3 1)):fS).2.2.2.2.2.1) (A.and (A.bK (A.n eZ d4 (A.b .add .i64 p.d1 d3):fS).2.2.2.2.2.2 (A.n eZ d4 (A.b .add .i64 p.d1 (A.b .sub .i64 d3 1)):fS).2.2.2.2.2.2) true)))))))) (.ar (A.and (A.bU 0 d3) (A.bG d3 p.d2)) (.iZ A d0 d4 (.ao (.c3 p (A.b .add .i64 d0 1) (A.b .add .i64 d3 1) (A.set d4 d0 (A.n eZ d4 (A.b .add .i64 p.d1 d3):fS)))))) (.ao (.c3 p d0 (A.b .add .i64 d3 1) d4))))) (.ar (A.and (A.bU 0 d0) (A.and (A.bU d0 (A.l d4)) (A.bU (A.l d4) (A.l d4)))) (.ar (A.and (A.bU 0 0) (A.and (A.bU 0 d0) (A.bU d0 (A.l (A.spl d4 d0 (A.r (A.b .sub .i64 (A.l d4) d0) (Ty.gw eZ:fS))))))) (.ret (A.s (A.spl d4 d0 (A.r (A.b .sub .i64 (A.l d4) d0) (Ty.gw eZ:fS))) 0 (A.b .add .i64 0 (A.b .sub .i64 d0 0))))))
def vz(a:fS):List fS->List fS
 | []=>[]
 | b::l=>if b=a then vz a l else b::vz b l
def sK:List fS->List fS
 | []=>[]
 | a::l=>a::vz a l
theorem JF:∀(l:List fS) (a x:fS),vz a (l ++ [x])=if x=(a::l).getLast (List.cons_ne_nil _ _) then vz a l else vz a l ++ [x]
 | [],a,x=>by rfl
 | b::l,a,x=>by
   have c:=JF l b x;show(if b=a then vz a (l ++ [x]) else b::vz b (l ++ [x]))=_;by_cases h:b=a
   ·subst h
    show _=if _ then(if b=b then vz b l else _) else(if b=b then vz b l else _) ++ [x]
    simp_all
   ·rw[if_neg h,c]
    show _=if _ then(if b=a then vz a l else b::vz b l) else(if b=a then vz a l else b::vz b l) ++ [x]
    grind
theorem Fo{L:List fS}{n:Nat}(f:1<=n)(h:n<L.length):sK (L.take (n+1))=if L[n]=L[n-1]'(by omega) then sK (L.take n) else sK (L.take n) ++ [L[n]]:=by
 cases L with
 | nil=>grind
 | cons a l=>
   obtain⟨k,rfl⟩:∃k,n=k+1:=⟨n-1,by omega⟩;have c:k<l.length:=by simp_all
   rw[gW,gW,bi c];show a::vz a (l.take k ++ [l[k]])=if _ then a::vz a (l.take k) else a::vz a (l.take k) ++ [_]
   rw[JF]
   grind
def tW(m:ax)(l:List fS):List fS:=bif decide (j_ m=0) then sK ((l.filter λf=>mM (m,f)).mergeSort λa b=>!(ui b a)) else[]
theorem X5{a b:fS}:af.and (af.bK a.1 b.1) (af.and (af.bK a.2.1 b.2.1) (af.and (af.bK a.2.2.1 b.2.2.1) (af.and (af.bK a.2.2.2.1 b.2.2.2.1) (af.and (af.bK a.2.2.2.2.1 b.2.2.2.2.1) (af.and (af.bK a.2.2.2.2.2.1 b.2.2.2.2.2.1) (af.and (af.bK a.2.2.2.2.2.2 b.2.2.2.2.2.2) true))))))=decide (a=b):=by
 obtain⟨a1,a2,c,f,g,h,i⟩:=a;obtain⟨j,l,m,n,o,p,q⟩:=b;simp[dq,bl,nE,Prod.mk.injEq,Bool.decide_and]
theorem afs{d:List fS}{z:fS}{k n:Nat}(h:k+n=d.length):(af.spl d (k:Int) (af.r (n:Int) z)).length=d.length:=by
 rw[yJ,mW,rz,rz,qS,qS,cd,cO,I4];omega
theorem ZO{L:List fS}{i:Nat}(h:i<L.length):(af.n eZ L (i:Int):fS)=L[i]:=fM h _
theorem Xx{p:WH}{L:List fS}{k0:Nat}(H:p.d1=(k0:Int))(v:p.d2=((L.length-k0:Nat):Int))(W:k0<=L.length)(X:L.length<=1000000):
  ∀(j k c:Nat) (d:List fS),L.length-k0-c=j->c<=L.length-k0->1<=c->1<=k->k+1<=k0+c->d.length=L.length->d.take k=sK (L.take (k0+c))->d.drop k=L.drop k->
   aY (QY af) (.ao (.c3 p (k:Int) (c:Int) d)) (sK L):=by
 intro j
 induction j with
 | zero=>
   intro k c d V B q I D h A _;have e:k0+c=L.length:=by omega
   have Q:af.b .add .i64 0 (af.b .sub .i64 (k:Int) 0)=(k:Int):=by
    rw[show(0:Int)=((0:Nat):Int) from rfl,My (aX _) (by omega),jy (by omega)];omega
   refine aA.2 ((ai ?_).2 (au.2 ⟨?_,au.2 ⟨?_,aO ?_ (.ret _)⟩⟩))
   ·rw[v,bf];grind
   ·rw[dV,h,bl,bl,aB,aB,aB];grind
   ·have J:(af.spl d (k:Int) (af.r (af.b .sub .i64 (af.l d) (k:Int)) (Ty.gw eZ:fS))).length=L.length:=by
     rw[dV,h,My (by omega) (by omega)];exact(afs (by omega)).trans h
    rw[dV (l:=af.spl _ _ _),J,bl,bl,aB,aB,aB];grind
   ·rw[Q,iY,mW,rz,b_,fV (by rw[cd];omega),A,e,cK (aj _)]
    rfl
 | succ j ih=>
   intro k c d V B q I D h A f;have u:k0+c<L.length:=by omega
   have g:∀i,k<=i->(S:i<L.length)->(af.n eZ d (i:Int):fS)=L[i]:=λi S J=>by
    rw[ZO (by omega)];have:=congrArg (λl=>l[i-k]?) f
    grind
   have O:af.b .add .i64 p.d1 (c:Int)=((k0+c:Nat):Int):=by rw[H,jy (i:=k0) (j:=c) (by omega)]
   have E:af.b .sub .i64 (c:Int) 1=((c-1:Nat):Int):=My (i:=c) (j:=1) (by omega) (by omega);have P:af.b .add .i64 p.d1 ((c-1:Nat):Int)=((k0+c-1:Nat):Int):=by rw[H,jy (i:=k0) (j:=c-1) (by omega)];congr 1;omega
   have a1:=g (k0+c) (by omega) u;have a2:=g (k0+c-1) (by omega) (by omega);have K:=Fo (L:=L) (n:=k0+c) (by omega) u;have m:af.and (af.bU 0 (c:Int)) (af.bG (c:Int) p.d2)=true:=by rw[v,bf,bl,aB];simp;omega
   have o:af.and (af.bU 0 ((c-1:Nat):Int)) (af.bG ((c-1:Nat):Int) p.d2)=true:=by rw[v,bf,bl,aB];simp;omega
   refine aA.2 ((ak ?_).2 (au.2 ⟨m,au.2 ⟨by rw[E];exact o,?_⟩⟩))
   ·rw[v,bf];exact dn (by omega)
   rw[E,O,P,a1,a2,X5,h_ (i:=c) (by omega),h_ (i:=k) (by omega)];by_cases z:L[k0+c]=L[k0+c-1]
   ·rw[dn z]
    refine(ai rfl).2 (ih k (c+1) d (by omega) (by omega) (by omega) I (by omega) h ?_ f);rw[show k0+(c+1)=k0+c+1 by omega,K,if_pos z];exact A
   ·rw[gj z]
    refine(ak rfl).2 (au.2 ⟨m,au.2 ⟨df (by omega),?_⟩⟩);rw[Mw,rz];have C:k<d.length:=by omega
    refine ih (k+1) (c+1) _ (by omega) (by omega) (by omega) (by omega) (by omega) (by simp_all) ?_ ?_
    ·rw[show k0+(c+1)=k0+c+1 by omega,K,if_neg z,<-A,bi (by rw[cX];exact C),List.getElem_set_self,List.take_set_of_le (aj _)]
    ·rw[List.drop_set_of_lt (Nat.lt_succ_self _)]
     have:=congrArg (List.drop 1) f;rw[eP,eP] at this;exact this
theorem XM{p:WG}{L:List fS}(f:p.c1=L)(o:L.length<=1000000):∀(j i:Nat),L.length-i=j->i<=L.length->1<=i->sK (L.take i)=L.take i->
  aY (QY af) (.ao (.c2 p (i:Int))) (sK L):=by
 intro j
 induction j with
 | zero=>
   intro i u m g q;have:i=L.length:=by omega
   subst this;refine aA.2 ((ai ?_).2 (aO ?_ (.ret _)))
   ·rw[f,dV,bf];simp
   simp_all
 | succ j ih=>
   intro i u m g q;have c:i<L.length:=by omega
   have h:af.b .sub .i64 (i:Int) 1=((i-1:Nat):Int):=My (i:=i) (j:=1) (by omega) (by omega);have v:=Fo (L:=L) (n:=i) g c;refine aA.2 ((ak ?_).2 (au.2 ⟨by rw[f];exact df c,au.2 ⟨by rw[f,h];exact df (by omega),?_⟩⟩))
   ·rw[f,dV,bf];simp_all
   rw[f,h,ZO c,ZO (show i-1<L.length by omega),X5,h_ (by omega)];by_cases l:L[i]=L[i-1]
   ·rw[dn l]
    refine(ak rfl).2 (au.2 ⟨?_,?_⟩)
    ·rw[dV,bl,bl,aB,aB,aB];simp_all
    ·rw[dV,My (by omega) (by omega)]
     have:=Xx (p:=⟨(i:Int),((L.length-i:Nat):Int)⟩) (L:=L) (k0:=i) rfl rfl m o _ i 1 L rfl (by omega) (aj _) g (aj _) rfl (by simp_all) rfl;omega
   ·rw[gj l]
    refine(ai rfl).2 (ih (i+1) (by omega) (by omega) (by omega) ?_)
    simp_all
theorem Ra{L:List fS}:(L.mergeSort λa b=>!(ui b a)).length=L.length:=List.length_mergeSort _
theorem X6{L:List fS}(f:L.length<=1000000):aY (QY af) (.ar (af.k (λ_=>true) ((L,()):List fS×Unit)) (.br (af.bG (af.l (af.k DU (L,())).1) 2) (.ret (af.k DU (L,())).1) (.ao (.c2 ⟨(af.k DU (L,())).1⟩ 1)))) (sK (L.mergeSort λa b=>!(ui b a))):=by
 have e:(af.k DU (L,())).1=L.mergeSort λa b=>!(ui b a):=rfl;rw[e];have c:=Ra (L:=L);generalize L.mergeSort (λa b=>!(ui b a))=M at c ⊢;refine au.2 ⟨rfl,?_⟩;by_cases h:M.length<2
 ·refine(ak ?_).2 (aO ?_ (.ret _))
  ·rw[dV,aN];grind
  ·match M,h with
   | [],_=>rfl
   | [a],_=>rfl
   | _::_::_,h=>grind
 ·refine(ai ?_).2 ?_
  ·rw[dV,aN];grind
  ·refine XM (L:=M) rfl (by omega) _ 1 rfl (by omega) (aj _) ?_
   match M,h with
   | [],h=>simp at h
   | a::l,_=>rfl
theorem UK{p:WE}{L:List fS}(h:p.b0=L)(l:p.b1=(L.length:Int))(n:p.b3=m)(o:L.length<=1000000):
  ∀(j i:Nat),L.length-i=j->i<=L.length->aY (QY af) (.ao (.c1 p (i:Int) ((L.take i).filter λf=>mM (m,f)))) (sK ((L.filter λf=>mM (m,f)).mergeSort λa b=>!(ui b a))):=by
 intro j
 induction j with
 | zero=>
   intro i u q;have:i=L.length:=by omega
   subst this;rw[cK (aj _)];refine aA.2 ((ai ?_).2 (X6 (aW (List.length_filter_le _ _) o)));rw[l,bf];simp
 | succ j ih=>
   intro i u q;have c:i<L.length:=by omega
   refine aA.2 ((ak ?_).2 (au.2 ⟨by rw[h];exact df c,?_⟩))
   ·rw[l,bf];simp_all
   have g:=ih (i+1) (by omega) (by omega);rw[bi c,mE] at g;rw[h,n,ZO c,h_ (by omega)];cases hf:mM (m,L[i])
   ·refine(ai (show af.k mM (m,L[i])=false from hf)).2 ?_
    simp_all
   ·refine(ak (show af.k mM (m,L[i])=true from hf)).2 (au.2 ⟨?_,?_⟩)
    ·have:=List.length_filter_le (λf=>mM (m,f)) (L.take i)
     rw[dV,v7,qS,bg,aB]
     grind
    ·rw[gV (p:=λf=>mM (m,f)) hf,oU] at g
     exact g
theorem PI{p:WC}{L:List fS}(l:p.a0=L)(h:p.a1=(L.length:Int))(n:p.a3=m)(o:L.length<=1000000):
  ∀(j i:Nat),L.length-i=j->i<=L.length->(L.take i).filter (λf=>mM (m,f))=[]->aY (QY af) (.ao (.c0 p (i:Int))) (sK ((L.filter λf=>mM (m,f)).mergeSort λa b=>!(ui b a))):=by
 intro j
 induction j with
 | zero=>
   intro i u q g;have:i=L.length:=by omega
   subst this;rw[cK (aj _)] at g;rw[g];refine aA.2 ((ai ?_).2 (au.2 ⟨rfl,aO ?_ (.ret _)⟩))
   ·rw[h,bf];simp
   ·rw[List.mergeSort_nil];rfl
 | succ j ih=>
   intro i u q v;have c:i<L.length:=by omega
   refine aA.2 ((ak ?_).2 (au.2 ⟨by rw[l];exact df c,?_⟩))
   ·rw[h,bf];simp_all
   rw[l,n,ZO c,h_ (by omega)];have z:(L.take (i+1)).filter (λf=>mM (m,f))=[L[i]].filter λf=>mM (m,f):=by
    rw[bi c,mE,v,jU]
   cases g:mM (m,L[i])
   ·refine(ai (show af.k mM (m,L[i])=false from g)).2 (ih (i+1) (by omega) (by omega) ?_)
    simp_all
   ·refine(ak (show af.k mM (m,L[i])=true from g)).2 (au.2 ⟨by kernel_rfl,?_⟩)
    have A:=UK (p:=⟨L,p.a1,m⟩) (L:=L) (m:=m) rfl h rfl o _ (i+1) rfl (by omega)
    simp_all
theorem an9{l:List fS}(h:l.length<=1000000):aY (QY af) (am6 af m l) (tW m l):=by
 unfold am6 tW;by_cases c:j_ m=0
 ·rw[dn c]
  refine(ai (by rw[dA];exact gj λk=>k c)).2 ?_;exact PI (p:=⟨l,(l.length:Int),m⟩) (L:=l) rfl rfl rfl h _ 0 rfl (aX _) rfl
 ·rw[gj c]
  exact(ak (by rw[dA];exact dn c)).2 (.ret _)
def wH:(ax×List fS)->(List fS):=λ(m,l)=>tW m l
def GB:(ax×List fS)->Bool:=λ(_,l)=>decide (l.length<=1000000)
def atp:aK:=⟨[bJ,(.slice eZ)], [(.slice eZ)],GB,wH,false⟩
theorem arf:Sd 119 atp:=bp ap dE sl 33 [⟨119,5, [[2,5,11,12,13]]⟩,⟨177,4, [[0,3], []]⟩,⟨177,9, [[0,3,4,5], []]⟩] [] (λA (m,l)=>am6 A m l) QY ai9 ⟨(fc func119 (fc func177 fz)),(sc Ed (sc ari sz)),oz,(ic aoe iz),mz,pz⟩ (λA y=>match y with |.c0 p a2=>⟨42,sl,by kernel_rfl⟩|.c1 p b2 b4=>⟨42,sl,by kernel_rfl⟩|.c2 p c0=>⟨46,sl,by kernel_rfl⟩|.c3 p d0 d3 d4=>⟨54,sl,by kernel_rfl⟩) λ((m,l):ax×List fS) c h=>an9 (of_decide_eq_true c)
def auB(A:aU)(a:dO)(b:dO):LT Int Empty:=.ret (A.k NJ [(A.k rc (a.2.1,b.2.1)),(A.k rc (a.2.2.1,b.2.2.1)),(A.k rc (a.1,b.1))])
def NI:(dO×dO)->Int:=λ(a,b)=>(auB af a b).val (Ty.aS [yI])
def atr:aK:=.all [e_,e_] [yI] NI
theorem ahh:Sd 122 atr:=fa (aR ap dE sl 33 [] (λA (a,b)=>auB A a b) (kz (fc func122 fz) (sc aba (sc abb sz))))
def Ex{Y:Type}(s:Y->LT (List dO×Unit) Y)(N:Nat)(t:LT (List dO×Unit) Y):Prop:=∃r:List dO,r.length=N/\aY s t (r,())
section
variable {Y:Type} {s:Y->LT (List dO×Unit) Y} {N:Nat} {t e:LT (List dO×Unit) Y} {a b:Int}
theorem Ex.ret{r:List dO}(h:r.length=N):Ex s N (.ret (r,())):=⟨r,h,.ret _⟩
theorem Ex.ao{y:Y}(h:Ex s N (s y)):Ex s N (.ao y):=h.elim λr k=>⟨r,k.1,.ao k.2⟩
theorem Ex.ar{b:Bool}(c:b=true)(h:Ex s N t):Ex s N (.ar b t):=h.elim λr k=>⟨r,k.1,.ar c k.2⟩
theorem Ex.br{b:Bool}(c:b=true->Ex s N t)(f:b=false->Ex s N e):Ex s N (.br b t e):=by
 cases b
 ·exact(f rfl).elim λr k=>⟨r,k.1,.br k.2⟩
 ·exact(c rfl).elim λr k=>⟨r,k.1,.br k.2⟩
theorem Ex.lss(c:a<b->Ex s N t)(f:b<=a->Ex s N e):Ex s N (.br (af.bG a b) t e):=
 Ex.br (λh=>c (of_decide_eq_true (p:=a<b) h)) λh=>f (mA.1 (of_decide_eq_false (p:=a<b) h))
theorem Ex.gtr(c:b<a->Ex s N t)(f:a<=b->Ex s N e):Ex s N (.br (af.ji a b) t e):=
 Ex.br (λh=>c (of_decide_eq_true (p:=b<a) h)) λh=>f (mA.1 (of_decide_eq_false (p:=b<a) h))
theorem Ex.leq(c:a<=b->Ex s N t)(f:b<a->Ex s N e):Ex s N (.br (af.bU a b) t e):=
 Ex.br (λh=>c (of_decide_eq_true (p:=a<=b) h)) λh=>f (Int.not_le.1 (of_decide_eq_false (p:=a<=b) h))
theorem Ex.eql(c:a=b->Ex s N t)(f:¬a=b->Ex s N e):Ex s N (.br (af.bK a b) t e):=by
 rw[dq];exact Ex.br (λh=>c (of_decide_eq_true h)) λh=>f (of_decide_eq_false h)
theorem Ex.neq(c:¬a=b->Ex s N t)(f:a=b->Ex s N e):Ex s N (.br (af.cu a b) t e):=by
 rw[dA];exact Ex.br (λh=>c (of_decide_eq_true h)) λh=>f (dx.1 (of_decide_eq_false h))
end
def wM{Y:Type}(s:Y->LT (List dO×Unit) Y)(t:LT (List dO×Unit) Y)(d:List dO):List dO:=bif Nat.beq (gG s t (d,())).1.length d.length then(gG s t (d,())).1 else d
variable{d:List dO}
theorem qF{s:Y->LT (List dO×Unit) Y}{t:LT (List dO×Unit) Y}:(wM s t d).length=d.length:=by
 unfold wM;cases h:Nat.beq (gG s t (d,())).1.length d.length
 ·rfl
 ·exact vH h
theorem vm{s:Y->LT (List dO×Unit) Y}{t:LT (List dO×Unit) Y}(h:Ex s d.length t):(wM s t d).length=d.length/\aY s t (wM s t d,()):=by
 refine⟨qF,?_⟩;obtain⟨r,f,c⟩:=h;rw[wM,TM c,vI.2 f];exact c
theorem Ll{l:List dO}{j:Int}{v:dO}(h:0<=i/\i<(l.length:Int)):af.and (af.bU 0 i) (af.bG i (af.l (af.set l j v)))=true:=da (by rw[lb];exact h)
theorem wY{y:Int}(h:-4611686018427387904<=x+y/\x+y<4611686018427387904):af.b .add .i64 x y=x+y:=by rw[gp,lg (by omega) (by omega)]
theorem v_{y:Int}(h:-4611686018427387904<=x-y/\x-y<4611686018427387904):af.b .sub .i64 x y=x-y:=by rw[Go.Ev.fO,lg (by omega) (by omega)]
structure WN where
 (a0 a1 a2:Int)
inductive adl where
 | c0 (p:WN) (a3:Int) (a4:List dO)
noncomputable def ajf:adl->iB
 | .c0 p a3 a4=>⟨[⟨319,38,(en [(0,.own 0),(1,vi p.a0),(2,vi p.a1),(3,vi p.a2),(10,vi a3)]),sk f319 [1,0,0],[],none⟩],[.arr false e_ a4,.a_]⟩
def anb(A:aU)(c:List dO)(a:Int)(b:Int)(n:Int):LT (List dO×Unit) adl:=.ao (.c0 ⟨a,b,n⟩ 0 c)
def ae_(A:aU):adl->LT (List dO×Unit) adl
 | .c0 p a3 a4=>.br (A.bG a3 p.a2) (.iZ A (A.b .add .i64 p.a1 a3) a4 (.iZ A (A.b .add .i64 p.a0 a3) a4 (.iZ A (A.b .add .i64 p.a0 a3) a4 (.iZ A (A.b .add .i64 p.a1 a3) (A.set a4 (A.b .add .i64 p.a0 a3) (A.n e_ a4 (A.b .add .i64 p.a1 a3):dO)) (.ao (.c0 p (A.b .add .i64 a3 1) (A.set (A.set a4 (A.b .add .i64 p.a0 a3) (A.n e_ a4 (A.b .add .i64 p.a1 a3):dO)) (A.b .add .i64 p.a1 a3) (A.n e_ a4 (A.b .add .i64 p.a0 a3):dO)))))))) (.ret (a4,()))
theorem al4{p:WN}{N:Nat}(i:0<=p.a0)(l:0<=p.a1)(m:p.a0+p.a2<=N)(n:p.a1+p.a2<=N)(o:N<=1000000):∀(j:Nat) (k:Int) (d:List dO),(p.a2-k).toNat<=j->0<=k->d.length=N->Ex (ae_ af) N (.ao (.c0 p k d)):=by
 intro j
 induction j with
 | zero=>intro k d f g c;exact Ex.ao (Ex.lss (λh=>by omega) λ_=>Ex.ret c)
 | succ j ih=>
   intro k d f g c;refine Ex.ao (Ex.lss (λh=>?_) λ_=>Ex.ret c);rw[wY (x:=p.a1) (y:=k) (by omega),wY (x:=p.a0) (y:=k) (by omega),wY (x:=k) (y:=1) (by omega)];exact Ex.ar (da (by omega)) (Ex.ar (da (by omega)) (Ex.ar (da (by omega)) (Ex.ar (Ll (by omega)) (ih (k+1) _ (by omega) (by omega) (lb.trans (lb.trans c))))))
theorem al3{n:Int}(h:0<=a/\0<=n/\a+n<=b/\b+n<=(d.length:Int)/\d.length<=1000000):Ex (ae_ af) d.length (anb af d a b n):=
 al4 (p:=⟨a,b,n⟩) (by simp only;omega) (by simp only;omega) (by simp only;omega) (by simp only;omega) (by omega) _ 0 d (aj _) (al 0) rfl
def NM:List dO×(Int×Int×Int)->List dO×Unit:=λ(d,a,b,n)=>(wM (ae_ af) (anb af d a b n) d,())
def GD:List dO×(Int×Int×Int)->Bool:=λ(d,a,b,n)=>decide (0<=a/\0<=n/\a+n<=b/\b+n<=(d.length:Int)/\d.length<=1000000)
def aos:gL:=⟨e_, [yI,yI,yI], [122], [],GD,NM⟩
theorem aoi:gL.bE prog 319 aos:=iL ap dE sl 12 [⟨319,1, [[0,1,2,3,10]]⟩] [] (λA (c,(a,b,n))=>anb A c a b n) ae_ ajf (kz (fc func319 fz) sz) (λA y=>match y with |.c0 p g i=>⟨49,sl,by kernel_rfl⟩) λ((c,(a,b,n)):List dO×(Int×Int×Int)) f j h=>vm (al3 (of_decide_eq_true f))
structure WM where
 (a0:Int)
inductive adk where
 | c0 (p:WM) (a1:Int) (a2:Int) (a3:List dO)
noncomputable def aje:adk->iB
 | .c0 p a1 a2 a3=>⟨[⟨282,58,(en [(0,.own 0),(2,vi p.a0),(4,.fn 122 [] []),(10,vi a1),(11,vi a2)]),sk f282 [1,1,0,0,0],[],none⟩],[.arr false e_ a3,.a_]⟩
def afE(A:aU)(c:List dO)(a:Int)(m:Int)(b:Int):LT (List dO×Unit) adk:=.ao (.c0 ⟨m⟩ (A.b .sub .i64 m a) (A.b .sub .i64 b m) c)
def ae9(A:aU):adk->LT (List dO×Unit) adk
 | .c0 p a1 a2 a3=>.br (A.cu a1 a2) (.br (A.ji a1 a2) (.ar (A.k GD (a3,(A.b .sub .i64 p.a0 a1),p.a0,a2)) (.ao (.c0 p (A.b .sub .i64 a1 a2) a2 (A.k NM (a3,(A.b .sub .i64 p.a0 a1),p.a0,a2)).1))) (.ar (A.k GD (a3,(A.b .sub .i64 p.a0 a1),(A.b .sub .i64 (A.b .add .i64 p.a0 a2) a1),a1)) (.ao (.c0 p a1 (A.b .sub .i64 a2 a1) (A.k NM (a3,(A.b .sub .i64 p.a0 a1),(A.b .sub .i64 (A.b .add .i64 p.a0 a2) a1),a1)).1)))) (.ar (A.k GD (a3,(A.b .sub .i64 p.a0 a1),p.a0,a1)) (.ret ((A.k NM (a3,(A.b .sub .i64 p.a0 a1),p.a0,a1)).1,())))
theorem L4{n:Int}(h:0<=a/\0<=n/\a+n<=b/\b+n<=(d.length:Int)/\d.length<=1000000):af.k GD (d,a,b,n)=true:=dn h
theorem Qb{n:Int}:(af.k NM (d,a,b,n)).1.length=d.length:=qF
theorem alq{p:WM}{N:Nat}(u:N<=1000000):∀(f:Nat) (i j:Int) (d:List dO),(i+j).toNat<=f->1<=i->1<=j->i<=p.a0->p.a0+j<=N->d.length=N->Ex (ae9 af) N (.ao (.c0 p i j d)):=by
 intro f
 induction f with
 | zero=>omega
 | succ f ih=>
   intro i j d q l m n o c;refine Ex.ao (Ex.neq (λh=>Ex.gtr (λg=>?_) λg=>?_) λh=>?_)
   ·rw[v_ (x:=p.a0) (y:=i) (by omega),v_ (x:=i) (y:=j) (by omega)]
    exact Ex.ar (L4 (by omega)) (ih (i-j) j _ (by omega) (by omega) m (by omega) o (Qb.trans c))
   ·rw[wY (x:=p.a0) (y:=j) (by omega),v_ (x:=p.a0) (y:=i) (by omega),v_ (x:=p.a0+j) (y:=i) (by omega),v_ (x:=j) (y:=i) (by omega)]
    exact Ex.ar (L4 (by omega)) (ih i (j-i) _ (by omega) l (by omega) n (by omega) (Qb.trans c))
   ·rw[v_ (x:=p.a0) (y:=i) (by omega)]
    exact Ex.ar (L4 (by omega)) (Ex.ret (Qb.trans c))
theorem alp{m:Int}(h:0<=a/\a<m/\m<b/\b<=(d.length:Int)/\d.length<=1000000):Ex (ae9 af) d.length (afE af d a m b):=by
 unfold afE;rw[v_ (x:=m) (y:=a) (by omega),v_ (x:=b) (y:=m) (by omega)];exact alq (p:=⟨m⟩) (by omega) _ (m-a) (b-m) d (aj _) (by omega) (by omega) (by grind) (by grind) rfl
def sR:List dO×(Int×Int×Int)->List dO×Unit:=λ(d,a,m,b)=>(wM (ae9 af) (afE af d a m b) d,())
def Qx:List dO×(Int×Int×Int)->Bool:=λ(d,a,m,b)=>decide (0<=a/\a<m/\m<b/\b<=(d.length:Int)/\d.length<=1000000)
def aor:gL:=⟨e_, [yI,yI,yI], [122], [],Qx,sR⟩
theorem aoh:gL.bE prog 282 aor:=iL ap dE sl 23 [⟨282,2, [[0,2,4,10,11]]⟩] [] (λA (c,(a,m,b))=>afE A c a m b) ae9 aje ⟨(fc func282 fz),sz,oz,(ic aoi iz),mz,pz⟩ (λA y=>match y with |.c0 p a1 a2 g=>⟨45,sl,by kernel_rfl⟩) λ((c,(a,m,b)):List dO×(Int×Int×Int)) f i h=>vm (alp (of_decide_eq_true f))
structure ah5 where
 (a0 a1 a2:Int) (a3:List dO)
structure ah6 where
 (b0 b1 b2:Int)
inductive adi where
 | c0 (p:ah5)
 | c1 (p:ah6) (b3:Int) (b4:List dO)
noncomputable def ajc:adi->iB
 | .c0 p=>⟨[⟨230,53,(en [(0,.own 0),(1,vi p.a0),(2,vi p.a1),(3,.fn 122 [] []),(8,vi p.a2)]),sk f230 [1,0,0],[],none⟩],[.arr false e_ p.a3,.a_]⟩
 | .c1 p b3 b4=>⟨[⟨230,53,(en [(0,.own 0),(1,vi p.b0),(2,vi p.b1),(3,.fn 122 [] []),(8,vi p.b2),(9,vi b3)]),sk f230 [1,0,0,1,0,0,1,0,0],[],none⟩],[.arr false e_ b4,.a_]⟩
def afD(A:aU)(c:List dO)(a:Int)(b:Int):LT (List dO×Unit) adi:=.ao (.c0 ⟨a,b,(A.b .add .i64 a 1),c⟩)
def Vs(A:aU):adi->LT (List dO×Unit) adi
 | .c0 p=>.br (A.bG p.a2 p.a1) (.ao (.c1 ⟨p.a0,p.a1,p.a2⟩ p.a2 p.a3)) (.ret (p.a3,()))
 | .c1 p b3 b4=>.br (A.ji b3 p.b0) (.iZ A b3 b4 (.iZ A (A.b .sub .i64 b3 1) b4 (.br (A.bG (A.k NI ((A.n e_ b4 b3:dO),(A.n e_ b4 (A.b .sub .i64 b3 1):dO))) 0) (.iZ A (A.b .sub .i64 b3 1) b4 (.iZ A b3 b4 (.iZ A b3 b4 (.iZ A (A.b .sub .i64 b3 1) (A.set b4 b3 (A.n e_ b4 (A.b .sub .i64 b3 1):dO)) (.ao (.c1 p (A.b .sub .i64 b3 1) (A.set (A.set b4 b3 (A.n e_ b4 (A.b .sub .i64 b3 1):dO)) (A.b .sub .i64 b3 1) (A.n e_ b4 b3:dO)))))))) (.ao (.c0 ⟨p.b0,p.b1,(A.b .add .i64 p.b2 1),b4⟩))))) (.ao (.c0 ⟨p.b0,p.b1,(A.b .add .i64 p.b2 1),b4⟩))
theorem aks{N:Nat}(B:N<=1000000){a b:Int}(A:0<=a)(C:b<=N):∀(f:Nat) (i:Int) (d:List dO),(b-i).toNat<=f->a<i->d.length=N->Ex (Vs af) N (.ao (.c0 ⟨a,b,i,d⟩)):=by
 intro f
 induction f with
 | zero=>intro i d q v l;exact Ex.ao (Ex.lss (λh=>by grind) λ_=>Ex.ret l)
 | succ f ih=>
   intro i d q v l;refine Ex.ao (Ex.lss (λh=>?_) λ_=>Ex.ret l);have h:i<b:=h;have p:∀e:List dO,e.length=N->Ex (Vs af) N (.ao (.c0 ⟨a,b,af.b .add .i64 i 1,e⟩)):=λe c=>by
    rw[wY (x:=i) (y:=1) (by omega)]
    grind
   have o:∀(g:Nat) (j:Int) (e:List dO),(j-a).toNat<=g->a<=j->j<=i->e.length=N->Ex (Vs af) N (.ao (.c1 ⟨a,b,i⟩ j e)):=by
    intro g
    induction g with
    | zero=>intro j e u z m c;exact Ex.ao (Ex.gtr (λh=>by grind) λ_=>p e c)
    | succ g n=>
      intro j e u z m c;refine Ex.ao (Ex.gtr (λh=>?_) λ_=>p e c);have h:a<j:=h;rw[v_ (x:=j) (y:=1) (by omega)];exact Ex.ar (da (by omega)) (Ex.ar (da (by omega)) (Ex.br (λ_=>Ex.ar (da (by omega)) (Ex.ar (da (by omega)) (Ex.ar (da (by omega)) (Ex.ar (Ll (by omega)) (n (j-1) _ (by omega) (by omega) (by omega) (lb.trans (lb.trans c))))))) λ_=>p e c))
   exact o _ i d (aj _) (by omega) (al i) l
theorem akr(h:0<=a/\a<=b/\b<=(d.length:Int)/\d.length<=1000000):Ex (Vs af) d.length (afD af d a b):=by
 unfold afD;rw[wY (x:=a) (y:=1) (by omega)];exact aks (by omega) h.1 h.2.2.1 _ (a+1) d (aj _) (by omega) rfl
def Sz:List dO×(Int×Int)->List dO×Unit:=λ(d,a,b)=>(wM (Vs af) (afD af d a b) d,())
def LK:List dO×(Int×Int)->Bool:=λ(d,a,b)=>decide (0<=a/\a<=b/\b<=(d.length:Int)/\d.length<=1000000)
def aoq:gL:=⟨e_, [yI,yI], [122], [],LK,Sz⟩
theorem aog:gL.bE prog 230 aoq:=iL ap dE sl 14 [⟨230,1, [[0,1,2,3,8]]⟩,⟨230,4, [[0,1,2,3,8,9]]⟩] [] (λA (c,(a,b))=>afD A c a b) Vs ajc (kz (fc func230 fz) (sc ahh sz)) (λA y=>match y with |.c0 p=>⟨24,sl,by kernel_rfl⟩|.c1 p b3 b4=>⟨57,sl,by kernel_rfl⟩) λ((c,(a,b)):List dO×(Int×Int)) f g h=>vm (akr (of_decide_eq_true f))
theorem aeF{i j:Nat}(h:i+j<4611686018427387904):af.v .i64 (af.b .shr .u64 (af.v .u64 (af.b .add .i64 (i:Int) (j:Int))) 1)=(((i+j)/2:Nat):Int):=by
 rw[jy h];have e:af.v .u64 ((i+j:Nat):Int)=((i+j:Nat):Int):=VS (by omega) (by omega);rw[e];have:=aaT (a:=((i+j:Nat):Int)) (n:=1) (by omega) (by omega);rw[show((1:Nat):Int)=1 from rfl] at this;rw[this,rz];exact lg (by omega) (by omega)
theorem aeE{j:Int}(f:0<=i)(g:0<=j)(h:i+j<=4000000):∃c:Int,af.v .i64 (af.b .shr .u64 (af.v .u64 (af.b .add .i64 i j)) 1)=c/\2*c<=i+j/\i+j<=2*c+1:=by
 obtain⟨i,rfl⟩:=aP f;obtain⟨j,rfl⟩:=aP g;exact⟨_,aeF (by omega),by omega,by omega⟩
abbrev V3:Type:=List dO×Int×Int×Int->List dO×Unit
def jD(k:Nat):List dO×Int×Int×Int->Bool:=λ(d,a,m,b)=>decide (0<=a/\a<m/\m<b/\b<=(d.length:Int)/\d.length<=1000000/\b-a<=(k:Int))
def Ze(k:Nat)(F:V3):gL:=⟨e_, [yI,yI,yI], [122], [],jD k,F⟩
structure WJ where
 (a0:Int) (a3:List dO)
structure WK where
 (b0:Int) (b3:List dO)
structure WL where
 (c0 c1 c2 c3 c4 c7:Int) (c8:List dO)
structure ah7 where
 (d0:Int)
structure ah8 where
 (e0:Int)
inductive adj where
 | c0 (p:WJ) (a1:Int) (a2:Int)
 | c1 (p:WK) (b1:Int) (b2:Int)
 | c2 (p:WL) (c5:Int) (c6:Int)
 | c3 (p:ah7) (d1:Int) (d2:List dO)
 | c4 (p:ah8) (e1:Int) (e2:List dO)
noncomputable def ajd:adj->iB
 | .c0 p a1 a2=>⟨[⟨231,220,(en [(0,.own 0),(1,vi p.a0),(4,.fn 122 [] []),(10,vi a1),(11,vi a2)]),sk f231 [0,1,0,1,1,0,0,0],[],none⟩],[.arr false e_ p.a3,.a_]⟩
 | .c1 p b1 b2=>⟨[⟨231,220,(en [(0,.own 0),(2,vi p.b0),(4,.fn 122 [] []),(14,vi b1),(15,vi b2)]),sk f231 [1,0,1,0,1,1,0,0,0],[],none⟩],[.arr false e_ p.b3,.a_]⟩
 | .c2 p c5 c6=>⟨[⟨231,220,(en [(0,.own 0),(1,vi p.c0),(2,vi p.c1),(3,vi p.c2),(4,.fn 122 [] []),(18,vi p.c3),(19,vi p.c4),(20,vi c5),(21,vi c6),(22,vi p.c7)]),sk f231 [1,1,1,1,1,1,1,0,0,0],[],none⟩],[.arr false e_ p.c8,.a_]⟩
 | .c3 p d1 d2=>⟨[⟨231,220,(en [(0,.own 0),(10,vi p.d0),(13,vi d1)]),sk f231 [0,1,0,1,1,1,0,1,0,0],[],none⟩],[.arr false e_ d2,.a_]⟩
 | .c4 p e1 e2=>⟨[⟨231,220,(en [(0,.own 0),(14,vi p.e0),(17,vi e1)]),sk f231 [1,0,1,0,1,1,1,0,1,0,0],[],none⟩],[.arr false e_ e2,.a_]⟩
abbrev zA(A:aU)(a:Int)(b:Int):=(A.v .i64 (A.b .shr .u64 (A.v .u64 (A.b .add .i64 a b)) 1))
def abM(A:aU)(c:List dO)(a:Int)(m:Int)(b:Int):LT (List dO×Unit) adj:=.br (A.bK (A.b .sub .i64 m a) 1) (.ao (.c0 ⟨a,c⟩ m b)) (.br (A.bK (A.b .sub .i64 b m) 1) (.ao (.c1 ⟨m,c⟩ a m)) (.br (A.ji m (zA A a b)) (.ao (.c2 ⟨a,m,b,(zA A a b),(A.b .add .i64 (zA A a b) m),(A.b .sub .i64 (A.b .add .i64 (zA A a b) m) 1),c⟩ (A.b .sub .i64 (A.b .add .i64 (zA A a b) m) b) (zA A a b))) (.ao (.c2 ⟨a,m,b,(zA A a b),(A.b .add .i64 (zA A a b) m),(A.b .sub .i64 (A.b .add .i64 (zA A a b) m) 1),c⟩ a m))))
def wU(F:V3)(k:Nat)(A:aU):adj->LT (List dO×Unit) adj
 | .c0 p a1 a2=>.br (A.bG a1 a2) (.iZ A (A.v .i64 (A.b .shr .u64 (A.v .u64 (A.b .add .i64 a1 a2)) 1)) p.a3 (.iZ A p.a0 p.a3 (.br (A.bG (A.k NI ((A.n e_ p.a3 (A.v .i64 (A.b .shr .u64 (A.v .u64 (A.b .add .i64 a1 a2)) 1)):dO),(A.n e_ p.a3 p.a0:dO))) 0) (.ao (.c0 p (A.b .add .i64 (A.v .i64 (A.b .shr .u64 (A.v .u64 (A.b .add .i64 a1 a2)) 1)) 1) a2)) (.ao (.c0 p a1 (A.v .i64 (A.b .shr .u64 (A.v .u64 (A.b .add .i64 a1 a2)) 1))))))) (.ao (.c3 ⟨a1⟩ p.a0 p.a3))
 | .c1 p b1 b2=>.br (A.bG b1 b2) (.iZ A p.b0 p.b3 (.iZ A (A.v .i64 (A.b .shr .u64 (A.v .u64 (A.b .add .i64 b1 b2)) 1)) p.b3 (.br (A.not (A.bG (A.k NI ((A.n e_ p.b3 p.b0:dO),(A.n e_ p.b3 (A.v .i64 (A.b .shr .u64 (A.v .u64 (A.b .add .i64 b1 b2)) 1)):dO))) 0)) (.ao (.c1 p (A.b .add .i64 (A.v .i64 (A.b .shr .u64 (A.v .u64 (A.b .add .i64 b1 b2)) 1)) 1) b2)) (.ao (.c1 p b1 (A.v .i64 (A.b .shr .u64 (A.v .u64 (A.b .add .i64 b1 b2)) 1))))))) (.ao (.c4 ⟨b1⟩ p.b0 p.b3))
 | .c2 p c5 c6=>.br (A.bG c5 c6) (.iZ A (A.b .sub .i64 p.c7 (A.v .i64 (A.b .shr .u64 (A.v .u64 (A.b .add .i64 c5 c6)) 1))) p.c8 (.iZ A (A.v .i64 (A.b .shr .u64 (A.v .u64 (A.b .add .i64 c5 c6)) 1)) p.c8 (.br (A.not (A.bG (A.k NI ((A.n e_ p.c8 (A.b .sub .i64 p.c7 (A.v .i64 (A.b .shr .u64 (A.v .u64 (A.b .add .i64 c5 c6)) 1))):dO),(A.n e_ p.c8 (A.v .i64 (A.b .shr .u64 (A.v .u64 (A.b .add .i64 c5 c6)) 1)):dO))) 0)) (.ao (.c2 p (A.b .add .i64 (A.v .i64 (A.b .shr .u64 (A.v .u64 (A.b .add .i64 c5 c6)) 1)) 1) c6)) (.ao (.c2 p c5 (A.v .i64 (A.b .shr .u64 (A.v .u64 (A.b .add .i64 c5 c6)) 1))))))) (.br (A.bG c5 p.c1) (.br (A.bG p.c1 (A.b .sub .i64 p.c4 c5)) (.ar (A.k Qx (p.c8,c5,p.c1,(A.b .sub .i64 p.c4 c5))) (.br (A.bG p.c0 c5) (.br (A.bG c5 p.c3) (.ar (A.k (jD k) ((A.k sR (p.c8,c5,p.c1,(A.b .sub .i64 p.c4 c5))).1,p.c0,c5,p.c3)) (.br (A.bG p.c3 (A.b .sub .i64 p.c4 c5)) (.br (A.bG (A.b .sub .i64 p.c4 c5) p.c2) (.ar (A.k (jD k) ((A.k F ((A.k sR (p.c8,c5,p.c1,(A.b .sub .i64 p.c4 c5))).1,p.c0,c5,p.c3)).1,p.c3,(A.b .sub .i64 p.c4 c5),p.c2)) (.ret ((A.k F ((A.k F ((A.k sR (p.c8,c5,p.c1,(A.b .sub .i64 p.c4 c5))).1,p.c0,c5,p.c3)).1,p.c3,(A.b .sub .i64 p.c4 c5),p.c2)).1,()))) (.ret ((A.k F ((A.k sR (p.c8,c5,p.c1,(A.b .sub .i64 p.c4 c5))).1,p.c0,c5,p.c3)).1,()))) (.ret ((A.k F ((A.k sR (p.c8,c5,p.c1,(A.b .sub .i64 p.c4 c5))).1,p.c0,c5,p.c3)).1,())))) (.br (A.bG p.c3 (A.b .sub .i64 p.c4 c5)) (.br (A.bG (A.b .sub .i64 p.c4 c5) p.c2) (.ar (A.k (jD k) ((A.k sR (p.c8,c5,p.c1,(A.b .sub .i64 p.c4 c5))).1,p.c3,(A.b .sub .i64 p.c4 c5),p.c2)) (.ret ((A.k F ((A.k sR (p.c8,c5,p.c1,(A.b .sub .i64 p.c4 c5))).1,p.c3,(A.b .sub .i64 p.c4 c5),p.c2)).1,()))) (.ret ((A.k sR (p.c8,c5,p.c1,(A.b .sub .i64 p.c4 c5))).1,()))) (.ret ((A.k sR (p.c8,c5,p.c1,(A.b .sub .i64 p.c4 c5))).1,())))) (.br (A.bG p.c3 (A.b .sub .i64 p.c4 c5)) (.br (A.bG (A.b .sub .i64 p.c4 c5) p.c2) (.ar (A.k (jD k) ((A.k sR (p.c8,c5,p.c1,(A.b .sub .i64 p.c4 c5))).1,p.c3,(A.b .sub .i64 p.c4 c5),p.c2)) (.ret ((A.k F ((A.k sR (p.c8,c5,p.c1,(A.b .sub .i64 p.c4 c5))).1,p.c3,(A.b .sub .i64 p.c4 c5),p.c2)).1,()))) (.ret ((A.k sR (p.c8,c5,p.c1,(A.b .sub .i64 p.c4 c5))).1,()))) (.ret ((A.k sR (p.c8,c5,p.c1,(A.b .sub .i64 p.c4 c5))).1,()))))) (.br (A.bG p.c0 c5) (.br (A.bG c5 p.c3) (.ar (A.k (jD k) (p.c8,p.c0,c5,p.c3)) (.br (A.bG p.c3 (A.b .sub .i64 p.c4 c5)) (.br (A.bG (A.b .sub .i64 p.c4 c5) p.c2) (.ar (A.k (jD k) ((A.k F (p.c8,p.c0,c5,p.c3)).1,p.c3,(A.b .sub .i64 p.c4 c5),p.c2)) (.ret ((A.k F ((A.k F (p.c8,p.c0,c5,p.c3)).1,p.c3,(A.b .sub .i64 p.c4 c5),p.c2)).1,()))) (.ret ((A.k F (p.c8,p.c0,c5,p.c3)).1,()))) (.ret ((A.k F (p.c8,p.c0,c5,p.c3)).1,())))) (.br (A.bG p.c3 (A.b .sub .i64 p.c4 c5)) (.br (A.bG (A.b .sub .i64 p.c4 c5) p.c2) (.ar (A.k (jD k) (p.c8,p.c3,(A.b .sub .i64 p.c4 c5),p.c2)) (.ret ((A.k F (p.c8,p.c3,(A.b .sub .i64 p.c4 c5),p.c2)).1,()))) (.ret (p.c8,()))) (.ret (p.c8,())))) (.br (A.bG p.c3 (A.b .sub .i64 p.c4 c5)) (.br (A.bG (A.b .sub .i64 p.c4 c5) p.c2) (.ar (A.k (jD k) (p.c8,p.c3,(A.b .sub .i64 p.c4 c5),p.c2)) (.ret ((A.k F (p.c8,p.c3,(A.b .sub .i64 p.c4 c5),p.c2)).1,()))) (.ret (p.c8,()))) (.ret (p.c8,()))))) (.br (A.bG p.c0 c5) (.br (A.bG c5 p.c3) (.ar (A.k (jD k) (p.c8,p.c0,c5,p.c3)) (.br (A.bG p.c3 (A.b .sub .i64 p.c4 c5)) (.br (A.bG (A.b .sub .i64 p.c4 c5) p.c2) (.ar (A.k (jD k) ((A.k F (p.c8,p.c0,c5,p.c3)).1,p.c3,(A.b .sub .i64 p.c4 c5),p.c2)) (.ret ((A.k F ((A.k F (p.c8,p.c0,c5,p.c3)).1,p.c3,(A.b .sub .i64 p.c4 c5),p.c2)).1,()))) (.ret ((A.k F (p.c8,p.c0,c5,p.c3)).1,()))) (.ret ((A.k F (p.c8,p.c0,c5,p.c3)).1,())))) (.br (A.bG p.c3 (A.b .sub .i64 p.c4 c5)) (.br (A.bG (A.b .sub .i64 p.c4 c5) p.c2) (.ar (A.k (jD k) (p.c8,p.c3,(A.b .sub .i64 p.c4 c5),p.c2)) (.ret ((A.k F (p.c8,p.c3,(A.b .sub .i64 p.c4 c5),p.c2)).1,()))) (.ret (p.c8,()))) (.ret (p.c8,())))) (.br (A.bG p.c3 (A.b .sub .i64 p.c4 c5)) (.br (A.bG (A.b .sub .i64 p.c4 c5) p.c2) (.ar (A.k (jD k) (p.c8,p.c3,(A.b .sub .i64 p.c4 c5),p.c2)) (.ret ((A.k F (p.c8,p.c3,(A.b .sub .i64 p.c4 c5),p.c2)).1,()))) (.ret (p.c8,()))) (.ret (p.c8,())))))
 | .c3 p d1 d2=>.br (A.bG d1 (A.b .sub .i64 p.d0 1)) (.iZ A (A.b .add .i64 d1 1) d2 (.iZ A d1 d2 (.iZ A d1 d2 (.iZ A (A.b .add .i64 d1 1) (A.set d2 d1 (A.n e_ d2 (A.b .add .i64 d1 1):dO)) (.ao (.c3 p (A.b .add .i64 d1 1) (A.set (A.set d2 d1 (A.n e_ d2 (A.b .add .i64 d1 1):dO)) (A.b .add .i64 d1 1) (A.n e_ d2 d1:dO)))))))) (.ret (d2,()))
 | .c4 p e1 e2=>.br (A.ji e1 p.e0) (.iZ A (A.b .sub .i64 e1 1) e2 (.iZ A e1 e2 (.iZ A e1 e2 (.iZ A (A.b .sub .i64 e1 1) (A.set e2 e1 (A.n e_ e2 (A.b .sub .i64 e1 1):dO)) (.ao (.c4 p (A.b .sub .i64 e1 1) (A.set (A.set e2 e1 (A.n e_ e2 (A.b .sub .i64 e1 1):dO)) (A.b .sub .i64 e1 1) (A.n e_ e2 e1:dO)))))))) (.ret (e2,()))
section
variable {k:Nat} {F:V3}
theorem aeW{m:Int}(h:0<=a/\a<m/\m<b/\b<=(d.length:Int)/\d.length<=1000000):af.k Qx (d,a,m,b)=true:=dn h
theorem akA{m:Int}:(af.k sR (d,a,m,b)).1.length=d.length:=qF
theorem TA{m:Int}(h:0<=a/\a<m/\m<b/\b<=(d.length:Int)/\d.length<=1000000/\b-a<=(k:Int)):af.k (jD k) (d,a,m,b)=true:=dn h
theorem avj{N:Nat}(n:N<=1000000){i:Int}(m:0<=i)(o:i<=N):∀(f:Nat) (j:Int) (d:List dO),(i-j).toNat<=f->0<=j->d.length=N->Ex (wU F k af) N (.ao (.c3 ⟨i⟩ j d)):=by
 intro f
 induction f with
 | zero=>
   intro j d g l c;refine Ex.ao ?_;rw[wU,v_ (x:=i) (y:=1) (by omega)];exact Ex.lss (λh=>by omega) λ_=>Ex.ret c
 | succ f ih=>
   intro j d g l c;refine Ex.ao ?_;rw[wU,v_ (x:=i) (y:=1) (by omega)];refine Ex.lss (λh=>?_) λ_=>Ex.ret c;rw[wY (x:=j) (y:=1) (by omega)];exact Ex.ar (da (by omega)) (Ex.ar (da (by omega)) (Ex.ar (da (by omega)) (Ex.ar (Ll (by omega)) (ih (j+1) _ (by omega) (by omega) (lb.trans (lb.trans c))))))
theorem an8{N:Nat}(m:N<=1000000){i:Int}(n:0<=i):∀(f:Nat) (j:Int) (d:List dO),(j-i).toNat<=f->j<N->d.length=N->Ex (wU F k af) N (.ao (.c4 ⟨i⟩ j d)):=by
 intro f
 induction f with
 | zero=>intro j d g l c;exact Ex.ao (Ex.gtr (λh=>by grind) λ_=>Ex.ret c)
 | succ f ih=>
   intro j d g l c;refine Ex.ao (Ex.gtr (λh=>?_) λ_=>Ex.ret c);have h:i<j:=h;rw[v_ (x:=j) (y:=1) (by omega)];exact Ex.ar (da (by omega)) (Ex.ar (da (by omega)) (Ex.ar (da (by omega)) (Ex.ar (Ll (by omega)) (ih (j-1) _ (by omega) (by omega) (lb.trans (lb.trans c))))))
theorem ap8{p:WJ}{N:Nat}(q:N<=1000000)(u:p.a3.length=N)(o:0<=p.a0/\p.a0<N):∀(f:Nat) (i j:Int),(j-i).toNat<=f->0<=i->i<=j->j<=N->Ex (wU F k af) N (.ao (.c0 p i j)):=by
 intro f;have l:∀i:Int,0<=i->i<=N->Ex (wU F k af) N (.ao (.c3 ⟨i⟩ p.a0 p.a3)):=λi h g=>avj q h g _ p.a0 p.a3 (aj _) o.1 u
 induction f with
 | zero=>intro i j v g m n;exact Ex.ao (Ex.lss (λh=>by omega) λ_=>l i g (by omega))
 | succ f ih=>
   intro i j v g m n;refine Ex.ao (Ex.lss (λh=>?_) λ_=>l i g (by omega));obtain⟨c,e,c1,c2⟩:=aeE g (show 0<=j by omega) (by omega);rw[e,wY (x:=c) (y:=1) (by omega)];exact Ex.ar (da (by omega)) (Ex.ar (da (by omega)) (Ex.br (λ_=>ih (c+1) j (by omega) (by omega) (by omega) n) λ_=>ih i c (by omega) g (by omega) (by omega)))
theorem ap_{p:WK}{N:Nat}(q:N<=1000000)(u:p.b3.length=N)(o:0<=p.b0/\p.b0<N):∀(f:Nat) (i j:Int),(j-i).toNat<=f->0<=i->i<=j->j<=N->Ex (wU F k af) N (.ao (.c1 p i j)):=by
 intro f;have l:∀i:Int,0<=i->Ex (wU F k af) N (.ao (.c4 ⟨i⟩ p.b0 p.b3)):=λi g=>an8 q g _ p.b0 p.b3 (aj _) o.2 u
 induction f with
 | zero=>intro i j v g m n;exact Ex.ao (Ex.lss (λh=>by omega) λ_=>l i g)
 | succ f ih=>
   intro i j v g m n;refine Ex.ao (Ex.lss (λh=>?_) λ_=>l i g);obtain⟨c,e,c1,c2⟩:=aeE g (show 0<=j by omega) (by omega);rw[e,wY (x:=c) (y:=1) (by omega)];exact Ex.ar (da (by omega)) (Ex.ar (da (by omega)) (Ex.br (λ_=>ih (c+1) j (by omega) (by omega) (by omega) n) λ_=>ih i c (by omega) g (by omega) (by omega)))
theorem agU(z:∀x,(F x).1.length=x.1.length){p:WL}{N:Nat}(V:N<=1000000)(g:p.c8.length=N){lo:Int}(H:0<=p.c0/\p.c0<p.c1/\p.c1<p.c2/\p.c2<=N/\p.c2-p.c0<=(k:Int)+1)
  (I:2*p.c3<=p.c0+p.c2/\p.c0+p.c2<=2*p.c3+1) (J:p.c4=p.c3+p.c1) (K:p.c7=p.c4-1) (O:p.c0<=lo/\p.c4-lo<=p.c2) :
  ∀(f:Nat) (i j:Int),(j-i).toNat<=f->lo<=i->i<=j->j<=p.c1->j<=p.c3\/p.c1<=p.c3->Ex (wU F k af) N (.ao (.c2 p i j)):=by
 have u:∀{d:List dO} {a m b:Int},(af.k F (d,a,m,b)).1.length=d.length:=z _;have E:∀i:Int,lo<=i->i<=p.c1->i<=p.c3\/p.c1<=p.c3->Ex (wU F k af) N (.ao (.c2 p i i)):=λi P Q S=>by
  refine Ex.ao ?_;rw[wU,v_ (x:=p.c4) (y:=i) (by omega)];refine Ex.lss (λh=>by omega) λ_=>?_;have v:∀{d:List dO},d.length=N->p.c3<p.c4-i->p.c4-i<p.c2->Ex (wU F k af) N (.ar (af.k (jD k) (d,p.c3,p.c4-i,p.c2)) (.ret ((af.k F (d,p.c3,p.c4-i,p.c2)).1,()))):=λg l n=>Ex.ar (TA (by omega)) (Ex.ret (u.trans g))
  have o:∀{d:List dO},d.length=N->Ex (wU F k af) N (.br (af.bG p.c3 (p.c4-i)) (.br (af.bG (p.c4-i) p.c2) (.ar (af.k (jD k) (d,p.c3,p.c4-i,p.c2)) (.ret ((af.k F (d,p.c3,p.c4-i,p.c2)).1,()))) (.ret (d,()))) (.ret (d,()))):=λg=>
   Ex.lss (λl=>Ex.lss (λn=>v g l n) λ_=>Ex.ret g) λ_=>Ex.ret g
  have q:∀{d:List dO},d.length=N->Ex (wU F k af) N (.br (af.bG p.c0 i) (.br (af.bG i p.c3) (.ar (af.k (jD k) (d,p.c0,i,p.c3)) (.br (af.bG p.c3 (p.c4-i)) (.br (af.bG (p.c4-i) p.c2) (.ar (af.k (jD k) ((af.k F (d,p.c0,i,p.c3)).1,p.c3,p.c4-i,p.c2)) (.ret ((af.k F ((af.k F (d,p.c0,i,p.c3)).1,p.c3,p.c4-i,p.c2)).1,()))) (.ret ((af.k F (d,p.c0,i,p.c3)).1,()))) (.ret ((af.k F (d,p.c0,i,p.c3)).1,()))))
    (.br (af.bG p.c3 (p.c4-i)) (.br (af.bG (p.c4-i) p.c2) (.ar (af.k (jD k) (d,p.c3,p.c4-i,p.c2)) (.ret ((af.k F (d,p.c3,p.c4-i,p.c2)).1,()))) (.ret (d,()))) (.ret (d,()))))
    (.br (af.bG p.c3 (p.c4-i)) (.br (af.bG (p.c4-i) p.c2) (.ar (af.k (jD k) (d,p.c3,p.c4-i,p.c2)) (.ret ((af.k F (d,p.c3,p.c4-i,p.c2)).1,()))) (.ret (d,()))) (.ret (d,())))):=λg=>
   Ex.lss (λl=>Ex.lss (λn=>Ex.ar (TA (by omega)) (o (u.trans g))) λ_=>o g) λ_=>o g
  refine Ex.lss (λl=>Ex.lss (λn=>Ex.ar (aeW (by omega)) (q (akA.trans g))) λ_=>q g) λ_=>q g
 intro f
 induction f with
 | zero=>grind
 | succ f ih=>
   intro i j X B C D A;by_cases W:i=j
   ·simp_all
   refine Ex.ao (Ex.lss (λh=>?_) λh=>by omega);obtain⟨c,e,c1,c2⟩:=aeE (i:=i) (j:=j) (by omega) (by omega) (by omega);rw[e,wY (x:=c) (y:=1) (by omega),v_ (x:=p.c7) (y:=c) (by omega)];exact Ex.ar (da (by omega)) (Ex.ar (da (by omega)) (Ex.br (λ_=>ih (c+1) j (by omega) (by omega) (by omega) D A) λ_=>ih i c (by omega) B (by omega) (by omega) (by omega)))
theorem al6(l:∀x,(F x).1.length=x.1.length){m:Int}(h:0<=a/\a<m/\m<b/\b<=(d.length:Int)/\d.length<=1000000/\b-a<=((k+1:Nat):Int)):Ex (wU F k af) d.length (abM af d a m b):=by
 obtain⟨n,q,u,o,f,v⟩:=h;unfold abM zA;obtain⟨c,e,c1,c2⟩:=aeE (i:=a) (j:=b) (by omega) (by omega) (by omega);rw[e,v_ (x:=m) (y:=a) (by omega),v_ (x:=b) (y:=m) (by omega),wY (x:=c) (y:=m) (by omega),v_ (x:=c+m) (y:=1) (by omega),v_ (x:=c+m) (y:=b) (by omega)];refine Ex.eql (λ_=>ap8 (p:=⟨a,d⟩) f rfl (by grind) _ m b (aj _) (by omega) (by omega) o) λ_=>Ex.eql (λ_=>ap_ (p:=⟨m,d⟩) f rfl (by grind) _ a m (aj _) n (by omega) (by omega)) λ_=>Ex.gtr (λg=>?_) λg=>?_
 ·exact agU l (p:=⟨a,m,b,c,c+m,c+m-1,d⟩) (lo:=c+m-b) f rfl (by simp_all) (by simp_all) rfl rfl (by grind) _ (c+m-b) c (aj _) (al _) (by omega) (by grind) (by simp_all)
 ·exact agU l (p:=⟨a,m,b,c,c+m,c+m-1,d⟩) (lo:=a) f rfl (by simp_all) (by simp_all) rfl rfl (by grind) _ a m (aj _) (al _) (by omega) (by simp_all) (by simp_all)
end
theorem akt{k:Nat}{F:V3}(f:∀x,(F x).1.length=x.1.length)(i:gL.bE prog 231 (Ze k F)):gL.bE prog 231 (Ze (k+1) λ(d,a,m,b)=>(wM (wU F k af) (abM af d a m b) d,())):=iL ap dE sl 76 [⟨231,3, [[0,1,4,10,11]]⟩,⟨231,9, [[0,10,13]]⟩,⟨231,15, [[0,2,4,14,15]]⟩,⟨231,21, [[0,14,17]]⟩,⟨231,33, [[0,1,2,3,4,18,19,20,21,22]]⟩] [] (λA (c,(a,m,b))=>abM A c a m b) (wU F k) ajd ⟨(fc func231 fz),(sc ahh sz),oz,(ic i (ic aoh iz)),mz,pz⟩ (λA y=>match y with |.c0 p a1 a2=>⟨47,sl,by kernel_rfl⟩|.c1 p b1 b2=>⟨48,sl,by kernel_rfl⟩|.c2 p c5 c6=>⟨84,sl,by kernel_rfl⟩|.c3 p d1 d2=>⟨44,sl,by kernel_rfl⟩|.c4 p e1 e2=>⟨43,sl,by kernel_rfl⟩) λ((c,(a,m,b)):List dO×(Int×Int×Int)) g j h=>vm (al6 f (of_decide_eq_true g))
def JN:Nat->V3
 | 0=>λx=>(x.1,())
 | k+1=>λ(d,a,m,b)=>(wM (wU (JN k) k af) (abM af d a m b) d,())
theorem Zp:∀(k:Nat) (x:List dO×Int×Int×Int),(JN k x).1.length=x.1.length
 | 0,_=>rfl
 | _+1,_=>qF
theorem aad{x:List dO×Int×Int×Int}:jD 0 x=false:=by
 exact gj (by omega)
theorem agB:∀k,gL.bE prog 231 (Ze k (JN k))
 | 0=>⟨λw I x y v f B _ _ _ _ c=>Bool.noConfusion ((aad (x:=(x,y))).symm.trans c),f231,func231,by kernel_rfl,by kernel_rfl⟩
 | k+1=>akt (Zp k) (agB k)
end
end Go.Ev.M
