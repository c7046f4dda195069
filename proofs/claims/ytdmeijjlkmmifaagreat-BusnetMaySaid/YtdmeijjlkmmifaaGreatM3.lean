/-
  PROVED: what functions of the program compute, part 3. Conditions: none.
-/
import Derived.Test.YtdmeijjlkmmifaaGreatM2
set_option linter.unusedVariables false
set_option linter.unusedSimpArgs false
namespace Go.Ev.M
open Go.Proofs Go.Proofs.Tryz
set_option maxRecDepth 100000
open Go.Ev.Pl
noncomputable section
structure ah1 where
 (a0:Int)
structure ah2 where
 (b0 b1:Int) (b2:List dO)
structure ah3 where
 (c0 c1:Int)
inductive adg where
 | c0 (p:ah1) (a2:Int) (a3:Int) (a4:List dO)
 | c1 (p:ah2)
 | c2 (p:ah3) (c2:Int) (c3:Int) (c4:List dO)
noncomputable def aja:adg->iB
 | .c0 p a2 a3 a4=>⟨[⟨179,63,(en [(0,.own 0),(1,vi p.a0),(2,.fn 122 [] []),(6,vi 20),(7,vi a2),(8,vi a3)]),sk f179 [1,1,0,0,0],[],none⟩],[.arr false e_ a4,.a_]⟩
 | .c1 p=>⟨[⟨179,63,(en [(0,.own 0),(1,vi p.b0),(2,.fn 122 [] []),(6,vi p.b1)]),sk f179 [1,1,1,1,0,0],[],none⟩],[.arr false e_ p.b2,.a_]⟩
 | .c2 p c2 c3 c4=>⟨[⟨179,63,(en [(0,.own 0),(1,vi p.c0),(2,.fn 122 [] []),(6,vi p.c1),(7,vi c2),(8,vi c3)]),sk f179 [1,1,1,1,0,0,1,0,1,0,0,0],[],none⟩],[.arr false e_ c4,.a_]⟩
def am9(A:aU)(a:List dO)(n:Int):LT (List dO×Unit) adg:=.ao (.c0 ⟨n⟩ 0 20 a)
def QZ(A:aU):adg->LT (List dO×Unit) adg
 | .c0 p a2 a3 a4=>.br (A.bU a3 p.a0) (.ar (A.k LK (a4,a2,a3)) (.ao (.c0 p a3 (A.b .add .i64 a3 20) (A.k Sz (a4,a2,a3)).1))) (.ar (A.k LK (a4,a2,p.a0)) (.ao (.c1 ⟨p.a0,20,(A.k Sz (a4,a2,p.a0)).1⟩)))
 | .c1 p=>.br (A.bG p.b1 p.b0) (.ao (.c2 ⟨p.b0,p.b1⟩ 0 (A.b .mul .i64 2 p.b1) p.b2)) (.ret (p.b2,()))
 | .c2 p c2 c3 c4=>.br (A.bU c3 p.c0) (.ar (A.k (jD 1000000) (c4,c2,(A.b .add .i64 c2 p.c1),c3)) (.ao (.c2 p c3 (A.b .add .i64 c3 (A.b .mul .i64 2 p.c1)) (A.k (JN 1000000) (c4,c2,(A.b .add .i64 c2 p.c1),c3)).1))) (.br (A.bG (A.b .add .i64 c2 p.c1) p.c0) (.ar (A.k (jD 1000000) (c4,c2,(A.b .add .i64 c2 p.c1),p.c0)) (.ao (.c1 ⟨p.c0,(A.b .mul .i64 p.c1 2),(A.k (JN 1000000) (c4,c2,(A.b .add .i64 c2 p.c1),p.c0)).1⟩))) (.ao (.c1 ⟨p.c0,(A.b .mul .i64 p.c1 2),c4⟩)))
variable{N:Nat}
theorem alY(r:N<=1000000){bs:Int}(q:1<=bs/\bs<=1000000)(g:∀d:List dO,d.length=N->Ex (QZ af) N (.ao (.c1 ⟨(N:Int),af.b .mul .i64 bs 2,d⟩))):∀(f:Nat) (a:Int) (d:List dO),(N-a).toNat<=f->0<=a->a<=N->d.length=N->Ex (QZ af) N (.ao (.c2 ⟨(N:Int),bs⟩ a (a+2*bs) d)):=by
 have e:af.b .mul .i64 2 bs=2*bs:=by rw[kP,lg (by omega) (by omega)]
 have j:∀{d:List dO} {a m b:Int},(af.k (JN 1000000) (d,a,m,b)).1.length=d.length:=Zp _ _;have l:∀{d:List dO} {a m b:Int},(0<=a/\a<m/\m<b/\b<=(d.length:Int)/\d.length<=1000000/\b-a<=((1000000:Nat):Int))->af.k (jD 1000000) (d,a,m,b)=true:=λh=>dn h;intro f
 induction f with
 | zero=>
   intro a d o n p c;refine Ex.ao (Ex.leq (λh=>by grind) λ_=>?_);rw[show af.b .add .i64 a bs=a+bs from wY (by omega)];exact Ex.lss (λh=>by grind) λ_=>g d c
 | succ f ih=>
   intro a d o n p c;refine Ex.ao (Ex.leq (λh=>?_) λ_=>?_)
   ·have h:a+2*bs<=N:=h
    rw[show af.b .add .i64 a bs=a+bs from wY (by omega),show af.b .mul .i64 2 bs=2*bs from e,wY (x:=a+2*bs) (y:=2*bs) (by omega)];exact Ex.ar (l (by omega)) (ih (a+2*bs) _ (by omega) (by omega) h (j.trans c))
   ·rw[show af.b .add .i64 a bs=a+bs from wY (by omega)]
    exact Ex.lss (λh=>by have h:a+bs<N:=h;exact Ex.ar (l (by grind)) (g _ (j.trans c))) λ_=>g d c
theorem abn(c:N<=1000000):∀(f:Nat) (bs:Int) (d:List dO),(N-bs).toNat<=f->1<=bs->d.length=N->Ex (QZ af) N (.ao (.c1 ⟨(N:Int),bs,d⟩)):=by
 intro f
 induction f with
 | zero=>intro bs d g b a;exact Ex.ao (Ex.lss (λh=>by grind) λ_=>Ex.ret a)
 | succ f ih=>
   intro bs d g b a;refine Ex.ao (Ex.lss (λh=>?_) λ_=>Ex.ret a);have h:bs<N:=h;rw[show af.b .mul .i64 2 bs=0+2*bs by rw[kP,lg (by omega) (by omega)];omega];refine alY c ⟨b,by omega⟩ (λe j=>?_) _ 0 d (aj _) (al 0) (by omega) a;rw[show af.b .mul .i64 bs 2=bs*2 by rw[kP,lg (by omega) (by omega)]]
   grind
theorem alX(j:N<=1000000):∀(f:Nat) (a:Int) (d:List dO),(N-a).toNat<=f->0<=a->a<=N->d.length=N->Ex (QZ af) N (.ao (.c0 ⟨(N:Int)⟩ a (a+20) d)):=by
 have e:∀{d:List dO} {a b:Int},(af.k Sz (d,a,b)).1.length=d.length:=qF;have g:∀{d:List dO} {a b:Int},(0<=a/\a<=b/\b<=(d.length:Int)/\d.length<=1000000)->af.k LK (d,a,b)=true:=λh=>dn h;intro f
 induction f with
 | zero=>intro a d m l n c;exact Ex.ao (Ex.leq (λh=>by grind) λ_=>Ex.ar (g (by simp_all)) (abn j _ 20 _ (aj _) (by omega) (e.trans c)))
 | succ f ih=>
   intro a d m l n c;refine Ex.ao (Ex.leq (λh=>?_) λ_=>Ex.ar (g (by simp_all)) (abn j _ 20 _ (aj _) (by omega) (e.trans c)));have h:a+20<=N:=h;rw[wY (x:=a+20) (y:=20) (by omega)];exact Ex.ar (g (by omega)) (ih (a+20) _ (by omega) (by omega) h (e.trans c))
variable{d:List dO}
theorem alW{n:Int}(h:n=(d.length:Int)/\d.length<=1000000):Ex (QZ af) d.length (am9 af d n):=by
 obtain⟨rfl,h⟩:=h;exact alX h _ 0 d (aj _) (al 0) (by omega) rfl
def Yy:List dO×Int->List dO×Unit:=λ(d,n)=>(wM (QZ af) (am9 af d n) d,())
def aac:List dO×Int->Bool:=λ(d,n)=>decide (n=(d.length:Int)/\d.length<=1000000)
def aop:gL:=⟨e_, [yI], [122], [],aac,Yy⟩
theorem aof:gL.bE prog 179 aop:=iL ap dE sl 19 [⟨179,2, [[0,1,2,6,7,8]]⟩,⟨179,7, [[0,1,2,6]]⟩,⟨179,9, [[0,1,2,6,7,8]]⟩] [] (λA (a,n)=>am9 A a n) QZ aja ⟨(fc func179 fz),sz,oz,(ic aog (ic (agB 1000000) iz)),mz,pz⟩ (λA y=>match y with |.c0 p a2 c e=>⟨36,sl,by kernel_rfl⟩|.c1 p=>⟨26,sl,by kernel_rfl⟩|.c2 p c2 c3 c4=>⟨44,sl,by kernel_rfl⟩) λ((a,n):List dO×Int) b f h=>vm (alW (of_decide_eq_true b))
def am7(A:aU)(a:List dO):LT (List dO×Unit) Empty:=.ar (A.k aac (a,(A.l a))) (.ret ((A.k Yy (a,(A.l a))).1,()))
theorem alV(h:d.length<=1000000):Ex Empty.elim d.length (am7 af d):=
 Ex.ar (dn ⟨rfl,h⟩) (Ex.ret (show(af.k Yy (d,af.l d)).1.length=d.length from qF))
def Yw:List dO×Unit->List dO×Unit:=λ(d,_)=>(wM Empty.elim (am7 af d) d,())
def LH:List dO×Unit->Bool:=λ(d,_)=>decide (d.length<=1000000)
def aon:gL:=⟨e_, [], [122], [],LH,Yw⟩
theorem aod:gL.bE prog 121 aon:=iL ap dE sl 13 [] [] (λA (a,())=>am7 A a) (λ_=>Empty.elim) Empty.elim ⟨(fc func121 fz),sz,oz,(ic aof iz),mz,pz⟩ (λ_ y=>y.elim) λ((a,()):List dO×Unit) b c h=>vm (alV (of_decide_eq_true b))
def VG(l:List dO):List dO:=(Yw (l,())).1
def Rh(A:aU)(m:ax):LT (Int×Int) Empty:=.br (A.cu (A.k j_ m) 0) (.ret (0,(A.k j_ m))) (.ret ((A.b .add .i64 (A.b .mul .i64 (A.b .mul .i64 14 m.1) m.2.2.2.2.1) 8),0))
def oh:ax->(Int×Int):=λm=>(Rh af m).val (Ty.aS [yI,yI])
def atn:aK:=.all [bJ] [yI,yI] oh
theorem ard:Sd 116 atn:=fa (aR ap dE sl 38 [] (λA m=>Rh A m) (kz (fc func116 fz) (sc Ed sz)))
variable{m:ax}
theorem Oi(h:¬j_ m=0):(oh m).2=j_ m:=by
 show(LT.val (Ty.aS [yI,yI]) (Rh af m)).2=_;simp[Rh,bo,cq,bne_iff_ne.2 h];rfl
theorem aeX(h:(oh m).2=0):j_ m=0:=dx.1 λk=>k ((Oi k).symm.trans h)
def af3(l:List Bool)(N:Nat):List Bool:=af.spl (List.replicate N true) 0 (af.s l 0 (af.mn (af.l l) (af.l (List.replicate N true))))
def opC(o:dO):dO:=(o.1,o.2.1,o.2.2.1,o.2.2.2.1,o.2.2.2.2.1,lq o.2.2.2.2.2)
def apJ(m:ax)(l:List dO):List dO:=((l.filter λo=>tZ (m,o)).map opC).take 256
def dL(m:ax)(s:jv):jv:=
 (af.mn (af.mx s.1 1) 16,af3 s.2.1 m.1.toNat,rowP s.2.2.1 m.1.toNat 0 (oh m).1 0,rowP s.2.2.2.1 m.1.toNat 40 60 50,rowP s.2.2.2.2.1 m.1.toNat (af.u .neg .i64 (af.b .quo .i64 m.2.2.2.1 2)) (af.b .quo .i64 m.2.2.2.1 2) 0,
   rowP s.2.2.2.2.2.1 (min s.2.2.2.2.2.1.length 1024) (af.u .neg .i64 m.2.2.2.2.1) m.2.2.2.2.1 0,VG (apJ m s.2.2.2.2.2.2.1),(tW m s.2.2.2.2.2.2.2).take 256)
def apz:jv:=(0, [], [], [], [], [], [], [])
def zQ(m:ax)(s:jv):jv×Int:=bif decide ((oh m).2=0) then(dL m s,0) else(apz,(oh m).2)
structure Wy where
 (a0:List dO) (a1:Int) (a3:ax) (a5:Int) (a6 a7 a8 a9:List Int) (iN:List fS) (kV:List Bool)
structure Wz where
 (b0:List dO) (b1:Int) (b3:ax) (b5:Int) (b6 b7 b8 b9:List Int) (b10:List fS) (b11:List Bool)
inductive Ut where
 | c0 (p:Wy) (a2:Int)
 | c1 (p:Wz) (b2:Int) (b12:List dO)
noncomputable def ai6:Ut->iB
 | .c0 p a2=>⟨[⟨75,112,(en [(2,.ptr 0 0),(4,.ptr 1 0),(9,.ptr 2 0),(82,.sl e_ p.a0),(83,vi p.a1),(84,vi a2)]),sk f75 [1,1,1,1,1,1,1,0,1,0,0],[],none⟩],[.ay false (dc bJ p.a3),.ay false [vi 0,.gb true,.gb true,.gb true,.gb true,.gb true,.gb true,.gb true],.ay false [vi p.a5,.own 3,.sl yI p.a6,.sl yI p.a7,.sl yI p.a8,.sl yI p.a9,.gb true,.sl eZ p.iN],.arr false .bool p.kV,.a_]⟩
 | .c1 p b2 b12=>⟨[⟨75,112,(en [(2,.ptr 0 0),(4,.ptr 1 0),(9,.ptr 2 0),(82,.sl e_ p.b0),(83,vi p.b1),(84,vi b2)]),sk f75 [1,1,1,1,1,1,1,0,1,0,0],[],none⟩],[.ay false (dc bJ p.b3),.ay false [vi 0,.gb true,.gb true,.gb true,.gb true,.gb true,.gb true,.gb true],.ay false [vi p.b5,.own 3,.sl yI p.b6,.sl yI p.b7,.sl yI p.b8,.sl yI p.b9,.own 4,.sl eZ p.b10],.arr false .bool p.b11,.arr false e_ b12,.a_]⟩
abbrev abI(A:aU)(m:ax)(s:jv):LT (jv×Int) Ut:=(.ar (A.and (A.bU 0 0) (A.and (A.bU 0 (A.mn (A.l (A.k wH (m,s.2.2.2.2.2.2.2))) 256)) (A.bU (A.mn (A.l (A.k wH (m,s.2.2.2.2.2.2.2))) 256) (A.l (A.k wH (m,s.2.2.2.2.2.2.2)))))) (.ao (.c0 ⟨s.2.2.2.2.2.2.1,(A.l s.2.2.2.2.2.2.1),m,(A.mn (A.mx s.1 1) 16),(A.k NH (s.2.2.1,m.1,0,(A.k oh m).1,0)),(A.k NH (s.2.2.2.1,m.1,40,60,50)),(A.k NH (s.2.2.2.2.1,m.1,(A.u .neg .i64 (A.b .quo .i64 m.2.2.2.1 2)),(A.b .quo .i64 m.2.2.2.1 2),0)),(A.k NH (s.2.2.2.2.2.1,(A.mn (A.l s.2.2.2.2.2.1) 1024),(A.u .neg .i64 m.2.2.2.2.1),m.2.2.2.2.1,0)),(A.s (A.k wH (m,s.2.2.2.2.2.2.2)) 0 (A.mn (A.l (A.k wH (m,s.2.2.2.2.2.2.2))) 256)),(A.spl (A.k Yv ([true],m.1)).2.1 0 (A.s s.2.1 0 (A.mn (A.l s.2.1) (A.l (A.k Yv ([true],m.1)).2.1))))⟩ 0)))
abbrev T_(A:aU)(m:ax)(s:jv):=(A.k tj (s.2.2.2.2.1,m.1,(A.u .neg .i64 (A.b .quo .i64 m.2.2.2.1 2)),(A.b .quo .i64 m.2.2.2.1 2),0))
abbrev Ua(A:aU)(m:ax)(s:jv):=(A.k tj (s.2.2.2.2.2.1,(A.mn (A.l s.2.2.2.2.2.1) 1024),(A.u .neg .i64 m.2.2.2.2.1),m.2.2.2.2.1,0))
abbrev abJ(A:aU)(m:ax)(s:jv):LT (jv×Int) Ut:=(.ar (A.k GA ([true],m.1)) (.ar (A.k tj (s.2.2.1,m.1,0,(A.k oh m).1,0)) (.ar (A.k tj (s.2.2.2.1,m.1,40,60,50)) (.ar (T_ A m s) (.ar (Ua A m s) (.ar (A.k GB (m,s.2.2.2.2.2.2.2)) (abI A m s)))))))
def am2(A:aU)(m:ax)(s:jv):LT (jv×Int) Ut:=.br (A.cu (A.k oh m).2 0) (.ret ((0,([]:List Bool),([]:List Int),([]:List Int),([]:List Int),([]:List Int),([]:List dO),([]:List fS)),(A.k oh m).2)) (.and (.and (.ar (A.k GA ([true],m.1)) (.ar (A.k tj (s.2.2.1,m.1,0,(A.k oh m).1,0)) (.ar (A.k tj (s.2.2.2.1,m.1,40,60,50)) (.ar (T_ A m s) (.ar (Ua A m s) (.ar (A.k GB (m,s.2.2.2.2.2.2.2)) (.ar (A.k GB (m,s.2.2.2.2.2.2.2)) (.ar (Ua A m s) (.ar (T_ A m s) (.ar (A.k tj (s.2.2.2.1,m.1,40,60,50)) (.ar (A.k tj (s.2.2.1,m.1,0,(A.k oh m).1,0)) (abI A m s)))))))))))) (abJ A m s)) (abJ A m s))
def aaE(A:aU):Ut->LT (jv×Int) Ut
 | .c0 p a2=>.br (A.bG a2 p.a1) (.iZ A a2 p.a0 (.br (A.k tZ (p.a3,(A.n e_ p.a0 a2:dO))) (.ar (A.bU (A.l (([((A.n e_ p.a0 a2:dO).1,(A.n e_ p.a0 a2:dO).2.1,(A.n e_ p.a0 a2:dO).2.2.1,(A.n e_ p.a0 a2:dO).2.2.2.1,(A.n e_ p.a0 a2:dO).2.2.2.2.1,(A.k lq (A.n e_ p.a0 a2:dO).2.2.2.2.2))]:List dO):List dO)) 2199023255552) (.ao (.c1 ⟨p.a0,p.a1,p.a3,p.a5,p.a6,p.a7,p.a8,p.a9,p.iN,p.kV⟩ (A.b .add .i64 a2 1) ([((A.n e_ p.a0 a2:dO).1,(A.n e_ p.a0 a2:dO).2.1,(A.n e_ p.a0 a2:dO).2.2.1,(A.n e_ p.a0 a2:dO).2.2.2.1,(A.n e_ p.a0 a2:dO).2.2.2.2.1,(A.k lq (A.n e_ p.a0 a2:dO).2.2.2.2.2))]:List dO)))) (.ao (.c0 p (A.b .add .i64 a2 1))))) (.ar (A.k LH (([]:List dO),())) (.ret ((p.a5,p.kV,p.a6,p.a7,p.a8,p.a9,([]:List dO),p.iN),0)))
 | .c1 p b2 b12=>.br (A.bG b2 p.b1) (.iZ A b2 p.b0 (.br (A.k tZ (p.b3,(A.n e_ p.b0 b2:dO))) (.br (A.bG (A.l b12) 256) (.ar (A.bU (A.l (A.p b12 ([((A.n e_ p.b0 b2:dO).1,(A.n e_ p.b0 b2:dO).2.1,(A.n e_ p.b0 b2:dO).2.2.1,(A.n e_ p.b0 b2:dO).2.2.2.1,(A.n e_ p.b0 b2:dO).2.2.2.2.1,(A.k lq (A.n e_ p.b0 b2:dO).2.2.2.2.2))]:List dO))) 2199023255552) (.ao (.c1 p (A.b .add .i64 b2 1) (A.p b12 ([((A.n e_ p.b0 b2:dO).1,(A.n e_ p.b0 b2:dO).2.1,(A.n e_ p.b0 b2:dO).2.2.1,(A.n e_ p.b0 b2:dO).2.2.2.1,(A.n e_ p.b0 b2:dO).2.2.2.2.1,(A.k lq (A.n e_ p.b0 b2:dO).2.2.2.2.2))]:List dO))))) (.ao (.c1 p (A.b .add .i64 b2 1) b12))) (.ao (.c1 p (A.b .add .i64 b2 1) b12)))) (.ar (A.k LH (b12,())) (.ret ((p.b5,p.b11,p.b6,p.b7,p.b8,p.b9,(A.k Yw (b12,())).1,p.b10),0)))
variable{i:Nat}
theorem apA{L:List dO}(h:i<L.length):(af.n e_ L (i:Int):dO)=L[i]:=fM h _
theorem aeV(h:d.length<=1000000):af.k LH (d,())=true:=dn h
theorem Z0{p:Wz}{L:List dO}(c:p.b0=L)(e:p.b1=(L.length:Int))(l:p.b3=m)(r:L.length<=1000000):∀(j i:Nat) (a:List dO),L.length-i=j->i<=L.length->a.length<=256->
  aY (aaE af) (.ao (.c1 p (i:Int) a)) ((p.b5,p.b11,p.b6,p.b7,p.b8,p.b9,VG ((a++((L.drop i).filter λo=>tZ (m,o)).map opC).take 256),p.b10),0):=by
 intro j
 induction j with
 | zero=>
   intro i a q n f;have:i=L.length:=by omega
   subst this;refine aA.2 ((ai ?_).2 (au.2 ⟨aeV (by omega),aO ?_ (.ret _)⟩))
   ·rw[e,bf];simp
   ·rw[cv,oU,mf,aL,cK f];rfl
 | succ j ih=>
   intro i a q n f;have b:i<L.length:=by omega
   refine aA.2 ((ak ?_).2 (au.2 ⟨by rw[c];exact df b,?_⟩))
   ·rw[e,bf];simp_all
   rw[c,l,apA b,h_ (by omega),Cg b];cases hf:tZ (m,L[i])
   ·refine(ai (show af.k tZ (m,L[i])=false from hf)).2 ?_
    grind
   ·refine(ak (show af.k tZ (m,L[i])=true from hf)).2 ?_
    rw[gV (p:=λo=>tZ (m,o)) hf,eB];by_cases s:a.length<256
    ·refine(ak (by rw[dV,aN];grind)).2 (au.2 ⟨?_,?_⟩)
     ·rw[dV,v7,qS,bg,aB];exact dn (by omega)
     ·have g:=ih (i+1) (a ++ [opC L[i]]) (by omega) (by omega) (by rw[qS,bg];omega)
      rw[b_,List.singleton_append] at g;exact g
    ·refine(ai (by rw[dV,aN];grind)).2 ?_
     grind
theorem U3{p:Wy}{L:List dO}(c:p.a0=L)(b:p.a1=(L.length:Int))(e:p.a3=m)(f:L.length<=1000000):∀(j i:Nat),L.length-i=j->i<=L.length->
  aY (aaE af) (.ao (.c0 p (i:Int))) ((p.a5,p.kV,p.a6,p.a7,p.a8,p.a9,VG ((((L.drop i).filter λo=>tZ (m,o)).map opC).take 256),p.iN),0):=by
 intro j
 induction j with
 | zero=>
   intro i l g;have:i=L.length:=by omega
   subst this;refine aA.2 ((ai ?_).2 (au.2 ⟨rfl,aO ?_ (.ret _)⟩))
   ·rw[b,bf];simp
   ·rw[cv,oU,mf,List.take_nil,show VG ([]:List dO)=[] from rfl]
 | succ j ih=>
   intro i l g;have a:i<L.length:=by omega
   refine aA.2 ((ak ?_).2 (au.2 ⟨by rw[c];exact df a,?_⟩))
   ·rw[b,bf];simp_all
   rw[c,e,apA a,h_ (by omega),Cg a];cases hf:tZ (m,L[i])
   ·refine(ai (show af.k tZ (m,L[i])=false from hf)).2 ?_
    grind
   ·refine(ak (show af.k tZ (m,L[i])=true from hf)).2 (au.2 ⟨rfl,?_⟩)
    rw[gV (p:=λo=>tZ (m,o)) hf,eB];exact Z0 (p:=⟨L,p.a1,m,p.a5,p.a6,p.a7,p.a8,p.a9,p.iN,p.kV⟩) (m:=m) (L:=L) rfl b rfl f _ (i+1) [opC L[i]] rfl (by omega) (by simp)
theorem aeU(h:N<=1024):af.k GA ([true],(N:Int))=true:=dn ⟨rfl,by omega,by omega⟩
theorem ajI{s:jv}(o:s.2.2.2.2.2.2.2.length<=1000000)(r:s.2.2.2.2.2.2.1.length<=1000000)(B:s.2.2.2.2.2.1.length<=140737488355328):aY (aaE af) (am2 af m s) (zQ m s):=by
 unfold am2 abJ Ua T_ abI zQ;by_cases h:(oh m).2=0
 ·rw[dn h]
  refine(ai (by show af.cu (oh m).2 0=false;rw[dA];simp_all)).2 ?_;have A:=(iJ (vF.1 (u5.symm.trans (aeX h)))).1;obtain⟨N,q⟩:=aP (show 0<=m.1 by omega);have z:N<=8:=by omega
  have w:∀(l:List Int) (a b c:Int),af.k tj (l,m.1,a,b,c)=true:=λl a b c=>dn (by omega);have g:af.mn (af.l s.2.2.2.2.2.1) 1024=((min s.2.2.2.2.2.1.length 1024:Nat):Int):=vG (i:=s.2.2.2.2.2.1.length) (j:=1024);have t:∀(l:List Int) (a b c:Int),af.k tj (l,af.mn (af.l s.2.2.2.2.2.1) 1024,a,b,c)=true:=λl a b c=>dn (by omega);have u:af.k GB (m,s.2.2.2.2.2.2.2)=true:=dn o;have v:af.and (af.bU 0 0) (af.and (af.bU 0 (af.mn (af.l (af.k wH (m,s.2.2.2.2.2.2.2))) 256)) (af.bU (af.mn (af.l (af.k wH (m,s.2.2.2.2.2.2.2))) 256) (af.l (af.k wH (m,s.2.2.2.2.2.2.2)))))=true:=by
   have e:af.mn (af.l (af.k wH (m,s.2.2.2.2.2.2.2))) 256=((min (af.k wH (m,s.2.2.2.2.2.2.2)).length 256:Nat):Int):=vG (i:=(af.k wH (m,s.2.2.2.2.2.2.2)).length) (j:=256);rw[e,dV,bl,bl,aB,aB,aB];grind
  have y:af.k GA ([true],m.1)=true:=by rw[q];exact aeU (by omega)
  have f:=U3 (p:=⟨s.2.2.2.2.2.2.1,(s.2.2.2.2.2.2.1.length:Int),m,af.mn (af.mx s.1 1) 16,rowP s.2.2.1 m.1.toNat 0 (oh m).1 0,rowP s.2.2.2.1 m.1.toNat 40 60 50,rowP s.2.2.2.2.1 m.1.toNat (af.u .neg .i64 (af.b .quo .i64 m.2.2.2.1 2)) (af.b .quo .i64 m.2.2.2.1 2) 0,rowP s.2.2.2.2.2.1 (af.mn (af.l s.2.2.2.2.2.1) 1024).toNat (af.u .neg .i64 m.2.2.2.2.1) m.2.2.2.2.1 0,af.s (tW m s.2.2.2.2.2.2.2) 0 (af.mn (af.l (tW m s.2.2.2.2.2.2.2)) 256),af3 s.2.1 m.1.toNat⟩) (m:=m) (L:=s.2.2.2.2.2.2.1) rfl rfl rfl r _ 0 rfl (aX _);have n:af.s (tW m s.2.2.2.2.2.2.2) 0 (af.mn (af.l (tW m s.2.2.2.2.2.2.2)) 256)=(tW m s.2.2.2.2.2.2.2).take 256:=by
   rw[show af.mn (af.l (tW m s.2.2.2.2.2.2.2)) 256=((min (tW m s.2.2.2.2.2.2.2).length 256:Nat):Int) from vG (i:=(tW m s.2.2.2.2.2.2.2).length) (j:=256),iY,rz]
   grind
  have f:aY (aaE af) _ (dL m s,0):=aO (by unfold dL;rw[n,g,rz];rfl) f
  repeat' first
   | exact f
   | refine .and ?_ ?_
   | refine au.2 ⟨y,?_⟩
   | refine au.2 ⟨w _ _ _ _,?_⟩
   | refine au.2 ⟨t _ _ _ _,?_⟩
   | refine au.2 ⟨u,?_⟩
   | refine au.2 ⟨v,?_⟩
 ·rw[gj h]
  exact(ak (by show af.cu (oh m).2 0=true;rw[dA];simp_all)).2 (.ret _)
def JM:(ax×jv)->(jv×Int):=λ(m,s)=>zQ m s
def Ai:(ax×jv)->Bool:=λ(_,s)=>decide (s.2.2.2.2.2.2.2.length<=1000000/\s.2.2.2.2.2.2.1.length<=1000000/\s.2.2.2.2.2.1.length<=140737488355328)
def atm:aK:=⟨[bJ,pK], [pK,yI],Ai,JM,false⟩
theorem arb:Sd 75 atm:=bp ap dE .wide 119 [⟨75,9, [[2,4,9,82,83,84]]⟩] [] (λA (m,s)=>am2 A m s) aaE ai6 ⟨(fc func75 fz),(sc zz (sc ard (sc are (sc arf (sc arh sz))))),(oc apE oz),(ic aod iz),mz,pz⟩ (λA y=>match y with |.c0 p a2=>⟨57,sl,by kernel_rfl⟩|.c1 p b2 b12=>⟨57,sl,by kernel_rfl⟩) λ((m,s):ax×jv) a h=>ajI (of_decide_eq_true a).1 (of_decide_eq_true a).2.1 (of_decide_eq_true a).2.2
theorem dG{x y:Int}(h:-4611686018427387904<=x+y/\x+y<4611686018427387904):af.c_ x y=x+y:=wY h
theorem xV{x y:Int}(h:-4611686018427387904<=x-y/\x-y<4611686018427387904):af.lI x y=x-y:=v_ h
variable{b:Int}
theorem VJ{a:Int}:af.c_ a b=IntKind.i64.wrap (a+b):=Go.Ev.gp
theorem yK{a:Int}:af.lI a b=IntKind.i64.wrap (a-b):=Go.Ev.fO
theorem akq(h:i<4611686018427387904):af.c_ (i:Int) 1=((i+1:Nat):Int):=h_ h
abbrev up0{a β:Type}(x:a×β)(y:a):a×β:=(y,x.2)
abbrev y9{b a β:Type}(x:b×a×β)(y:a):b×a×β:=(x.1,y,x.2.2)
abbrev up2{b c a β:Type}(x:b×c×a×β)(y:a):b×c×a×β:=(x.1,x.2.1,y,x.2.2.2)
abbrev up3{b c e a β:Type}(x:b×c×e×a×β)(y:a):b×c×e×a×β:=(x.1,x.2.1,x.2.2.1,y,x.2.2.2.2)
abbrev VQ{b c e f a β:Type}(x:b×c×e×f×a×β)(y:a):b×c×e×f×a×β:=(x.1,x.2.1,x.2.2.1,x.2.2.2.1,y,x.2.2.2.2.2)
abbrev r9{b c e f g a β:Type}(x:b×c×e×f×g×a×β)(y:a):b×c×e×f×g×a×β:=(x.1,x.2.1,x.2.2.1,x.2.2.2.1,x.2.2.2.2.1,y,x.2.2.2.2.2.2)
abbrev rC{b c e f g j a β:Type}(x:b×c×e×f×g×j×a×β)(y:a):b×c×e×f×g×j×a×β:=(x.1,x.2.1,x.2.2.1,x.2.2.2.1,x.2.2.2.2.1,x.2.2.2.2.2.1,y,x.2.2.2.2.2.2.2)
abbrev ED{b c e f g j l a β:Type}(x:b×c×e×f×g×j×l×a×β)(y:a):b×c×e×f×g×j×l×a×β:=(x.1,x.2.1,x.2.2.1,x.2.2.2.1,x.2.2.2.2.1,x.2.2.2.2.2.1,x.2.2.2.2.2.2.1,y,x.2.2.2.2.2.2.2.2)
abbrev Ay{b c e f g j l m a β:Type}(x:b×c×e×f×g×j×l×m×a×β)(y:a):b×c×e×f×g×j×l×m×a×β:=(x.1,x.2.1,x.2.2.1,x.2.2.2.1,x.2.2.2.2.1,x.2.2.2.2.2.1,x.2.2.2.2.2.2.1,x.2.2.2.2.2.2.2.1,y,x.2.2.2.2.2.2.2.2.2)
abbrev Um{b c e f g j l m n a β:Type}(x:b×c×e×f×g×j×l×m×n×a×β)(y:a):b×c×e×f×g×j×l×m×n×a×β:=(x.1,x.2.1,x.2.2.1,x.2.2.2.1,x.2.2.2.2.1,x.2.2.2.2.2.1,x.2.2.2.2.2.2.1,x.2.2.2.2.2.2.2.1,x.2.2.2.2.2.2.2.2.1,y,x.2.2.2.2.2.2.2.2.2.2)
abbrev lp1{a β γ:Type}(x:a×β)(y:γ):a×γ:=(x.1,y)
abbrev lp2{a b β γ:Type}(x:a×b×β)(y:γ):a×b×γ:=(x.1,x.2.1,y)
abbrev kv{a b c β γ:Type}(x:a×b×c×β)(y:γ):a×b×c×γ:=(x.1,x.2.1,x.2.2.1,y)
abbrev lp4{a b c e β γ:Type}(x:a×b×c×e×β)(y:γ):a×b×c×e×γ:=(x.1,x.2.1,x.2.2.1,x.2.2.2.1,y)
abbrev lp7{a b c e f g j β γ:Type}(x:a×b×c×e×f×g×j×β)(y:γ):a×b×c×e×f×g×j×γ:=(x.1,x.2.1,x.2.2.1,x.2.2.2.1,x.2.2.2.2.1,x.2.2.2.2.2.1,x.2.2.2.2.2.2.1,y)
abbrev aoC{a b c e f g j l m n β γ:Type}(x:a×b×c×e×f×g×j×l×m×n×β)(y:γ):a×b×c×e×f×g×j×l×m×n×γ:=(x.1,x.2.1,x.2.2.1,x.2.2.2.1,x.2.2.2.2.1,x.2.2.2.2.2.1,x.2.2.2.2.2.2.1,x.2.2.2.2.2.2.2.1,x.2.2.2.2.2.2.2.2.1,x.2.2.2.2.2.2.2.2.2.1,y)
abbrev md(A:aU)(t:Ty)(v:List t.T)(i:Int)(f:t.T->t.T):List t.T:=A.set v i (f (A.n t v i))
theorem _root_.Go.Ev.bV.bE.either{P:Program}{g:FuncId}{l:List VF}{a j:List Ty}{p q:Ty.Ts (VF.iq l)×Ty.Ts a->Bool}{f k:Ty.Ts (VF.iq l)×Ty.Ts a->Ty.Ts (VF.iq l)×Ty.Ts j}{m:Bool}{c:Ty.Ts (VF.iq l)×Ty.Ts a->Bool}
  (h:bV.bE P g ⟨l,a,j,p,f,m,false⟩) (u:bV.bE P g ⟨l,a,j,q,k,m,false⟩):bV.bE P g ⟨l,a,j,λx=>bif c x then p x else q x,λx=>bif c x then f x else k x,m,false⟩:=by
 refine⟨λw I D x y v t B a1 a2 n o r s b=>?_,λx y b=>?_,nofun,h.body⟩
 ·simp only at b ⊢
  cases e:c (x,y)<;>rw[e] at b
  ·exact u.calls w I D x y v t B a1 a2 n o r s b
  ·exact h.calls w I D x y v t B a1 a2 n o r s b
 ·simp only at b ⊢
  cases e:c (x,y)<;>rw[e] at b
  ·exact u.keep x y b
  ·exact h.keep x y b
abbrev Ry:Ty:=(.struct [.bool,(.slice pJ),yI])
abbrev qW:Type:=Bool×List je×Int
abbrev OZ:VF:=.ptr [.d .bool,.own pJ,.d yI]
abbrev jH:Ty:=(.struct [.bool,bJ,pK,yI,yI,Ry,(.slice bP),(.slice eU),(.slice eU),(.slice Jq),(.slice qp)])
abbrev Net:Type:=Bool×ax×jv×Int×Int×qW×List cr×List dF×List dF×List sr×List ny
abbrev eG:VF:=.ptr [.d .bool,.d bJ,.d pK,.d yI,.d yI,OZ,.fix 1 bP,.own eU,.own eU,.own Jq,.own qp]
def wE (q:Net) (a b c d e f:Nat):iM:=.ay false ([vb q.1]++dc bJ q.2.1++dc pK q.2.2.1++[vi q.2.2.2.1,vi q.2.2.2.2.1,.ptr a 0,.own b,.own c,.own d,.own e,.own f])
def wC (q:Net) (k:Nat):iM:=.ay false [vb q.2.2.2.2.2.1.1,.own k,vi q.2.2.2.2.2.1.2.2]
def wA (q:Net):iM:=.arr false bP q.2.2.2.2.2.2.1
def wv (q:Net):iM:=.arr false eU q.2.2.2.2.2.2.2.1
def bxB (q:Net):iM:=.arr false eU q.2.2.2.2.2.2.2.2.1
def wD (q:Net):iM:=.arr false Jq q.2.2.2.2.2.2.2.2.2.1
def wB (q:Net):iM:=.arr false qp q.2.2.2.2.2.2.2.2.2.2
def wy (q:Net):iM:=.arr false pJ q.2.2.2.2.2.1.2.1
abbrev avk:VF:=.ptr [.d .bool,.d bJ,.d pK,.d yI,.d yI,OZ,.own bP,.own eU,.own eU,.own Jq,.own qp]
def auP(A:aU)(a:Int):LT Bool Empty:=.ret (A.cu a a)
def DW:Int->Bool:=λa=>(auP af a).val (Ty.aS [.bool])
def at5:aK:=.all [yI] [.bool] DW
theorem ahp:Sd 284 at5:=fa (aR ap dE sl 17 [] (λA a=>auP A a) (kz (fc func284 fz) sz))
def afX(A:aU)(b:Int)(a:Int):LT Int Empty:=.br (A.k DW b) (.br (A.k DW a) (.ret 0) (.ret (-1))) (.br (A.k DW a) (.ret 1) (.br (A.bG b a) (.ret (-1)) (.br (A.ji b a) (.ret 1) (.ret 0))))
def JU:(Int×Int)->Int:=λ(a,b)=>(afX af a b).val (Ty.aS [yI])
def atT:aK:=.all [yI,yI] [yI] JU
theorem arE:Sd 236 atT:=fa (aR ap dE sl 58 [] (λA (a,b)=>afX A a b) (kz (fc func236 fz) (sc ahp sz)))
def auL(A:aU)(a:je)(b:je):LT Int Empty:=.ret (A.k NJ [(A.k JU (a.1,b.1)),(A.k rc (a.2.1,b.2.1)),(A.k rc (a.2.2.1,b.2.2.1)),(A.k JU (a.2.2.2,b.2.2.2))])
def SJ:(je×je)->Int:=λ(a,b)=>(auL af a b).val (Ty.aS [yI])
def atP:aK:=.all [pJ,pJ] [yI] SJ
theorem arA:Sd 188 atP:=fa (aR ap dE sl 38 [] (λA (a,b)=>auL A a b) (kz (fc func188 fz) (sc aba (sc abb (sc arE sz)))))
def auJ(A:aU)(a:je)(b:je):LT Bool Empty:=.ret (A.bG (A.k SJ (a,b)) 0)
def JQ:(je×je)->Bool:=λ(a,b)=>(auJ af a b).val (Ty.aS [.bool])
def atI:aK:=.all [pJ,pJ] [.bool] JQ
theorem ahl:Sd 138 atI:=fa (aR ap dE sl 20 [] (λA (a,b)=>auJ A a b) (kz (fc func138 fz) (sc arA sz)))
structure WW where
 (a1:Bool) (a2:Int)
inductive adA where
 | c0 (p:WW) (a0:Int) (a3:List je)
noncomputable def ajw:adA->iB
 | .c0 p a0 a3=>⟨[⟨123,54,(en [(0,.ptr 0 0),(1,vi a0)]),(.code (cw f123 [0,1,0])::sk f123 [0,1,0]),[],none⟩],[.ay false [vb p.a1,.own 1,vi p.a2],.arr false pJ a3,.a_]⟩
def yb(A:aU)(a:Int):Int:=(A.b .quo .i64 (A.lI a 1) 2)
def afQ(A:aU)(q:qW)(i:Int):LT (qW×Unit) adA:=.ao (.c0 ⟨q.1,q.2.2⟩ i q.2.1)
def aaH(A:aU):adA->LT (qW×Unit) adA
 | .c0 p a0 a3=>.br (A.ji a0 0) (.iZ A a0 a3 (.iZ A (yb A a0) a3 (.br (A.k JQ ((A.n pJ a3 a0:je),(A.n pJ a3 (yb A a0):je))) (.iZ A (yb A a0) (A.set a3 a0 (A.n pJ a3 (yb A a0):je)) (.ao (.c0 p (yb A a0) (A.set (A.set a3 a0 (A.n pJ a3 (yb A a0):je)) (yb A a0) (A.n pJ a3 a0:je))))) (.ret ((p.a1,a3,p.a2),()))))) (.ret ((p.a1,a3,p.a2),()))
def YE:qW×Int->qW×Unit:=λ(q,i)=>gG (aaH af) (afQ af q i) (Ty.aS [Ry],Ty.aS [])
def QM:qW×Int->Bool:=λ(q,i)=>gu (aaH af) (afQ af q i)
def apu:bV:=⟨[OZ], [yI], [],QM,YE,false,false⟩
theorem aoX:bV.bE prog 123 apu:=bI ap dE sl 10 [] [⟨123,0, [[0,1]]⟩] (λA (q,i)=>afQ A q i) aaH ajw (kz (fc func123 fz) (sc ahl sz)) (λA y=>match y with |.c0 p b c=>⟨74,(.kN [0,0,0,0,2,3,3]),by kernel_rfl⟩) (λ((q,i):qW×Int) a e h=>fT a)
structure Ks where
 (a5:Bool) (a6:Int)
inductive adv where
 | c0 (p:Ks) (a0:Int) (a1:Int) (a2:Int) (a3:Int) (a4:Int) (a7:List je)
noncomputable def ajr:adv->iB
 | .c0 p a0 a1 a2 a3 a4 a=>⟨[⟨92,74,(en [(0,.ptr 0 0),(1,vi a0),(4,vi a1),(15,.agg [vi a2,vi a3]),(16,vi a4)]),sk f92 [0,1,1,1,0,1,0,0],[],none⟩],[.ay false [vb p.a5,.own 1,vi p.a6],.arr false pJ a,.a_]⟩
def afK(A:aU)(q:qW)(i:Int):LT (qW×Unit) adv:=.ao (.c0 ⟨q.1,q.2.2⟩ i i (A.c_ (A.b .mul .i64 2 i) 1) (A.c_ (A.b .mul .i64 2 i) 2) 0 q.2.1)
def Jf(A:aU):adv->LT (qW×Unit) adv
 | .c0 p a0 a1 a2 a3 a4 a=>.br (A.bG a4 2) (.ar (A.and (A.bU 0 a4) (A.bG a4 2)) (.br (A.bG (A.n yI [a2,a3] a4:Int) (A.l a)) (.iZ A (A.n yI [a2,a3] a4:Int) a (.iZ A a1 a (.br (A.k JQ ((A.n pJ a (A.n yI [a2,a3] a4:Int):je),(A.n pJ a a1:je))) (.ao (.c0 p a0 (A.n yI [a2,a3] a4:Int) a2 a3 (A.c_ a4 1) a)) (.ao (.c0 p a0 a1 a2 a3 (A.c_ a4 1) a))))) (.ao (.c0 p a0 a1 a2 a3 (A.c_ a4 1) a)))) (.br (A.cu a1 a0) (.iZ A a1 a (.iZ A a0 a (.iZ A a1 (A.set a a0 (A.n pJ a a1:je)) (.ao (.c0 p a1 a1 (A.c_ (A.b .mul .i64 2 a1) 1) (A.c_ (A.b .mul .i64 2 a1) 2) 0 (A.set (A.set a a0 (A.n pJ a a1:je)) a1 (A.n pJ a a0:je))))))) (.ret ((p.a5,a,p.a6),())))
def SG:qW×Int->qW×Unit:=λ(q,i)=>gG (Jf af) (afK af q i) (Ty.aS [Ry],Ty.aS [])
def QG:qW×Int->Bool:=λ(q,i)=>gu (Jf af) (afK af q i)
def apk:bV:=⟨[OZ], [yI], [],QG,SG,false,false⟩
theorem aoR:bV.bE prog 92 apk:=bI ap dE sl 33 [⟨92,3, [[0,1,4,15,16]]⟩] [] (λA (q,i)=>afK A q i) Jf ajr (kz (fc func92 fz) (sc ahl sz)) (λA y=>match y with |.c0 p b a1 a2 c e f=>⟨73,(.kN [0,0,0,0,0,0,0,0,0,1]),by kernel_rfl⟩) (λ((q,i):qW×Int) a g h=>fT a)
def afJ(A:aU)(q:qW):LT (qW×Int) Empty:=.br (A.not q.1) (.ret (q,0)) (.ret (q,q.2.2))
def dX:qW×Unit->qW×Int:=λ(q,())=>gG Empty.elim (afJ af q) (Ty.aS [Ry],Ty.aS [yI])
def nc:qW×Unit->Bool:=λ(q,())=>gu Empty.elim (afJ af q)
def apc:bV:=⟨[OZ], [], [yI],nc,dX,false,false⟩
theorem D2:bV.bE prog 51 apc:=bI ap dE sl 44 [] [] (λA (q,())=>afJ A q) (λ_=>Empty.elim) Empty.elim (kz (fc func51 (fc func86 fz)) sz) (λ_ y=>y.elim) (λ((q,()):qW×Unit) a b h=>fT a)
def afI(A:aU)(q:qW):LT (qW×Int) Empty:=.br (A.not q.1) (.ret (q,0)) (.ret (q,(A.l q.2.1)))
def NO:qW×Unit->qW×Int:=λ(q,())=>gG Empty.elim (afI af q) (Ty.aS [Ry],Ty.aS [yI])
def Qz:qW×Unit->Bool:=λ(q,())=>gu Empty.elim (afI af q)
def apb:bV:=⟨[OZ], [], [yI],Qz,NO,false,false⟩
theorem aoK:bV.bE prog 50 apb:=bI ap dE sl 45 [] [] (λA (q,())=>afI A q) (λ_=>Empty.elim) Empty.elim (kz (fc func50 (fc func86 fz)) sz) (λ_ y=>y.elim) (λ((q,()):qW×Unit) a b h=>fT a)
def afR(A:aU)(q:qW)(e:je):LT (qW×Int) Empty:=.br (A.not q.1) (.ret (q,1)) (.br (A.bG e.1 q.2.2) (.ret (q,140)) (.br (A.ji e.1 1099511627776) (.ret (q,140)) (.br (A.nM (A.l q.2.1) 16384) (.ret (q,3)) (.ar (A.bU (A.l (A.p q.2.1 ([e]:List je))) 4398046511104) (.ar (A.k QM ((y9 q (A.p q.2.1 ([e]:List je))),(A.lI (A.l (A.p q.2.1 ([e]:List je))) 1))) (.ret ((A.k YE ((y9 q (A.p q.2.1 ([e]:List je))),(A.lI (A.l (A.p q.2.1 ([e]:List je))) 1))).1,0)))))))
def wI:qW×je->qW×Int:=λ(q,e)=>gG Empty.elim (afR af q e) (Ty.aS [Ry],Ty.aS [yI])
def QN:qW×je->Bool:=λ(q,e)=>gu Empty.elim (afR af q e)
def apv:bV:=⟨[OZ], [pJ], [yI],QN,wI,false,false⟩
theorem aoY:bV.bE prog 127 apv:=bI ap dE sl 97 [] [] (λA (q,e)=>afR A q e) (λ_=>Empty.elim) Empty.elim ⟨(fc func127 (fc func86 fz)),sz,oz,iz,(mc aoX mz),pz⟩ (λ_ y=>y.elim) (λ((q,e):qW×je) a b h=>fT a)
def xX(A:aU)(q:qW):Int:=(A.lI (A.l q.2.1) 1)
def MC(A:aU)(q:qW):qW×Int:=((y9 q (A.s (A.set q.2.1 0 (A.n pJ q.2.1 (xX A q):je)) 0 (A.lI (xX A q) 0))),0)
def abS(A:aU)(q:qW):LT (qW×(je×Int)) Empty:=.br (A.not q.1) (.ret (q,(0,0,0,0),1)) (.br (A.bG (xX A q) 0) (.ret (q,(0,0,0,0),4)) (.iZ A 0 q.2.1 (.iZ A (xX A q) q.2.1 (.ar (A.and (A.bU 0 0) (A.and (A.bU 0 (xX A q)) (A.bU (xX A q) (A.l (A.set q.2.1 0 (A.n pJ q.2.1 (xX A q):je)))))) (.ar (A.k QG (MC A q)) (.ret ((lp2 (A.k SG (MC A q)).1 (A.n pJ q.2.1 0:je).1),(A.n pJ q.2.1 0:je),0)))))))
def zm:qW×Unit->qW×(je×Int):=λ(q,())=>gG Empty.elim (abS af q) (Ty.aS [Ry],Ty.aS [pJ,yI])
def QA:qW×Unit->Bool:=λ(q,())=>gu Empty.elim (abS af q)
def apd:bV:=⟨[OZ], [], [pJ,yI],QA,zm,false,false⟩
theorem aoL:bV.bE prog 64 apd:=bI ap dE (.kN [0,0,0,0,2]) 115 [⟨64,2000000, []⟩] [] (λA (q,())=>abS A q) (λ_=>Empty.elim) Empty.elim ⟨(fc func64 (fc func86 fz)),sz,oz,iz,(mc aoR mz),pz⟩ (λ_ y=>y.elim) (λ((q,()):qW×Unit) a b h=>fT a)
def auQ(A:aU)(a:Span)(b:Span):LT Bool Empty:=.br (A.bK (A.k FL a) 0) (.ret (A.bK (A.k FL b) 0)) (.ret false)
def YJ:(Span×Span)->Bool:=λ(a,b)=>(auQ af a b).val (Ty.aS [.bool])
def at6:aK:=.all [jW,jW] [.bool] YJ
theorem ahq:Sd 295 at6:=fa (aR ap dE sl 24 [] (λA (a,b)=>auQ A a b) (kz (fc func295 fz) (sc OL sz)))
def ann(A:aU)(a:Span)(b:Span):LT Bool Empty:=.br (A.k YJ (a,b)) (.br (A.bG a.1 b.2) (.br (A.bG b.1 a.2) (.br (A.bG a.1 a.2) (.ret (A.bG b.1 b.2)) (.ret false)) (.ret false)) (.ret false)) (.ret false)
def SK:(Span×Span)->Bool:=λ(a,b)=>(ann af a b).val (Ty.aS [.bool])
def atV:aK:=.all [jW,jW] [.bool] SK
theorem ahn:Sd 245 atV:=fa (aR ap dE sl 47 [] (λA (a,b)=>ann A a b) (kz (fc func245 fz) (sc ahq sz)))
abbrev ahx(A:aU)(a:Span)(b:Span):LT Bool Empty:=(.br (A.k YJ (a,b)) (.br (A.nM a.1 b.1) (.ret (A.bU a.2 b.2)) (.ret false)) (.ret false))
def auN(A:aU)(a:Span)(b:Span):LT Bool Empty:=.br (A.and (A.bK a.1 b.1) (A.and (A.bK a.2 b.2) true)) (.br (A.bK (A.k FL a) 0) (.ret true) (ahx A a b)) (ahx A a b)
def YI:(Span×Span)->Bool:=λ(a,b)=>(auN af a b).val (Ty.aS [.bool])
def atW:aK:=.all [jW,jW] [.bool] YI
theorem aho:Sd 247 atW:=fa (aR ap dE sl 43 [] (λA (a,b)=>auN A a b) (kz (fc func247 fz) (sc OL (sc ahq sz))))
def auM(A:aU)(s:dF)(a:Int):LT Bool Empty:=.br (A.nM s.2.2.1 (A.mx a 1)) (.ret (A.bK (A.k Sg s) 0)) (.ret false)
def agx:(dF×Int)->Bool:=λ(s,a)=>(auM af s a).val (Ty.aS [.bool])
def atU:aK:=.all [eU,yI] [.bool] agx
theorem arF:Sd 244 atU:=fa (aR ap dE sl 25 [] (λA (s,a)=>auM A s a) (kz (fc func244 fz) (sc aa5 sz)))
def anm(A:aU)(s:dF)(b:Span)(a:Span):LT Bool Empty:=.br (A.k agl s) (.br (A.k YI (s.2.1,b)) (.br (A.bK (A.k FL a) 0) (.br (A.nM s.2.1.1 a.1) (.ret (A.bG s.2.1.1 a.2)) (.ret false)) (.ret false)) (.ret false)) (.ret false)
def YH:(dF×Span×Span)->Bool:=λ(s,b,a)=>(anm af s b a).val (Ty.aS [.bool])
def atQ:aK:=.all [eU,jW,jW] [.bool] YH
theorem arB:Sd 196 atQ:=fa (aR ap dE sl 46 [] (λA (s,b,a)=>anm A s b a) (kz (fc func196 fz) (sc aqw (sc OL (sc aho sz)))))
structure WX where
 (a0:Int) (a2:List dF) (a3 a4 a5 a6 a7 a8 a9 iN kV a12 Dw Jv M9 a16 a17:Int)
inductive adC where
 | c0 (p:WX) (a1:Int) (a21:Int) (a22:Int)
noncomputable def ajy:adC->iB
 | .c0 p a1 a21 a22=>⟨[⟨243,30,(en [(0,.yield 1),(2,.ptr 2 0),(3,.ptr 3 0),(7,.own 0),(8,vi p.a0),(9,vi a1)]),sk f243 [1,0,0],[],none⟩,⟨143,56,(en [(0,.own 0),(5,.ptr 4 0),(6,.ptr 5 0),(8,.ptr 6 0),(9,.ptr 7 0),(10,.ptr 8 0)]),[.oP 1,.inBlock 0,.code (cw f143 [1,1,1])],[9],none⟩],[.arr false eU p.a2,.loop ⟨143,56,(en [(0,.own 0),(1,.agg [vi p.a3,vi p.a4]),(2,.agg [vi p.a5,vi p.a6]),(3,vi p.a7),(5,.ptr 4 0),(6,.ptr 5 0),(8,.ptr 6 0),(9,.ptr 7 0),(10,.ptr 8 0),(13,.own 0),(14,.agg [vi p.a8,vi p.a9]),(15,vi p.iN),(16,.fn 243 [] [.ptr 10 0,.ptr 2 0,.ptr 3 0])]),[17],(cw f143 [1,1,0,1,0,0]),(cw f143 [1,1,0,1,0,1]),0,none⟩,.ay false [vi p.kV],.ay false [vi p.a12,vi p.Dw],.ay false [vi p.Jv,vi p.M9],.ay false [vi p.a16,vi p.a17],.ay false [vi 0,vi 0,vi 0,.gb true],.ay false [vi a21],.ay false [vi a22],.Ie,.ay false [.own 0],.a_]⟩
def ab7(A:aU)(l:List dF)(b:Span)(c:Span)(a:Int):LT (List dF×Seen) adC:=.ao (.c0 ⟨(A.l l),l,b.1,b.2,c.1,c.2,a,b.1,b.2,a,a,b.1,b.2,b.1,b.2,c.1,c.2⟩ 0 0 0)
def Jg(A:aU):adC->LT (List dF×Seen) adC
 | .c0 p a1 a21 a22=>.br (A.bG a1 p.a0) (.iZ A a1 p.a2 (.br (A.k agx ((A.n eU p.a2 a1:dF),p.kV)) (.br (A.k SK ((A.n eU p.a2 a1:dF).2.1,p.a12,p.Dw)) (.br (A.bK (A.c_ a21 1) 1) (.ao (.c0 p (A.c_ a1 1) (A.c_ a21 1) a1)) (.ao (.c0 p (A.c_ a1 1) (A.c_ a21 1) a22))) (.ao (.c0 p (A.c_ a1 1) a21 a22))) (.ao (.c0 p (A.c_ a1 1) a21 a22)))) (.br (A.bK a21 0) (.ret (p.a2,0,0,0,([]:List Int))) (.br (A.bK a21 1) (.iZ A a22 p.a2 (.br (A.k YH ((A.n eU p.a2 a22:dF),(p.Jv,p.M9),p.a16,p.a17)) (.ret (p.a2,2,(A.n eU p.a2 a22:dF).2.1.1,(A.n eU p.a2 a22:dF).2.2.2.1,(A.k lq (A.n eU p.a2 a22:dF).2.2.2.2))) (.ret (p.a2,1,0,0,([]:List Int))))) (.ret (p.a2,1,0,0,([]:List Int)))))
def mO:List dF×(Span×Span×Int)->List dF×Seen:=λ(l,(c,b,a))=>gG (Jg af) (ab7 af l c b a) ([],Ty.aS [qi])
def CY:List dF×(Span×Span×Int)->Bool:=λ(l,(c,b,a))=>gu (Jg af) (ab7 af l c b a)&&decide ((mO (l,(c,b,a))).1.length=l.length)
def aox:gL:=⟨eU, [jW,jW,yI], [], [qi],CY,mO⟩
theorem agC:gL.bE prog 143 aox:=iL ap dE sl 50 [⟨243,1, [[0,2,3,7,8,9], [0,5,6,8,9,10]]⟩] [] (λA (l,(c,b,a))=>ab7 A l c b a) Jg ajy (kz (fc func143 (fc func195 (fc func243 fz))) (sc zz (sc arB (sc arF (sc ahn sz))))) (λA y=>match y with |.c0 p a1 f g=>⟨72,(.kN [0,0,0,0,0,0,0,0,0,2]),by kernel_rfl⟩) λ((l,(c,b,a)):List dF×(Span×Span×Int)) e j h=>⟨of_decide_eq_true ((fv _ _).mp e).2,Ch e⟩
def afT(A:aU)(l:List Int)(ao:Int):LT (List Int) Empty:=.ar (A.and (A.bK (A.l l) (A.c_ (A.l l) ao)) (A.and (A.bU 0 (A.l l)) (A.bU (A.l l) 17592186044416))) (.ret (A.spl (A.r (A.l l) (0:Int)) 0 (A.s l 0 (A.mn (A.l l) (A.l (A.r (A.l l) (0:Int)))))))
def YF:(List Int×Int)->(List Int):=λ(l,ao)=>gG Empty.elim (afT af l ao) (Ty.aS [El])
def aai:(List Int×Int)->Bool:=λ(l,ao)=>gu Empty.elim (afT af l ao)
def atN:aK:=⟨[El,yI], [El],aai,YF,false⟩
theorem arz:Sd 153 atN:=bM ap dE sl 32 [] (λA (l,ao)=>afT A l ao) (kz (fc func153 fz) sz) λ((l,ao):List Int×Int) a h=>fT a
def anl(A:aU)(m:ax)(c:qj):LT (Int×Int) Empty:=.br (A.cu (A.k tY (m,c)) 0) (.ret (0,(A.k tY (m,c)))) (.ret ((A.c_ c.1 m.2.2.1),0))
def u_:(ax×qj)->(Int×Int):=λ(m,c)=>(anl af m c).val (Ty.aS [yI,yI])
def atO:aK:=.all [bJ,wV] [yI,yI] u_
theorem ahm:Sd 156 atO:=fa (aR ap dE sl 38 [] (λA (m,c)=>anl A m c) (kz (fc func156 fz) (sc OI sz)))
def auK(A:aU)(m:ax)(c:qj):LT (Span×Int) Empty:=.br (A.cu (A.k tY (m,c)) 0) (.ret ((0,0),(A.k tY (m,c)))) (.ret ((c.1,(A.c_ c.1 m.2.1)),0))
def JR:(ax×qj)->(Span×Int):=λ(m,c)=>(auK af m c).val (Ty.aS [jW,yI])
def atK:aK:=.all [bJ,wV] [jW,yI] JR
theorem arw:Sd 146 atK:=fa (aR ap dE sl 41 [] (λA (m,c)=>auK A m c) (kz (fc func146 fz) (sc OI sz)))
def MX(A:aU)(m:ax)(c:qj)(a:Int):List Int:=(A.p (A.spl (A.r (A.l c.2.2) (0:Int)) 0 (A.s c.2.2 0 (A.mn (A.l c.2.2) (A.l (A.r (A.l c.2.2) (0:Int)))))) [(A.lI a (A.k NB (m,c)))])
def ab9(A:aU)(m:ax)(c:qj)(a:Int):LT (qj×Int) Empty:=.br (A.cu (A.k zj (m,c)).2 0) (.ret ((0,0,([]:List Int)),(A.k zj (m,c)).2)) (.br (A.bK (A.l c.2.2) 8) (.ret ((0,0,([]:List Int)),2)) (.br (A.bG a (A.k zj (m,c)).1.1) (.ret ((0,0,([]:List Int)),2)) (.br (A.nM a (A.k zj (m,c)).1.2) (.ret ((0,0,([]:List Int)),2)) (.ar (A.and (A.bU (A.l c.2.2) (A.c_ (A.l c.2.2) 1)) (A.and (A.bU 0 (A.l c.2.2)) (A.bU (A.c_ (A.l c.2.2) 1) 17592186044416))) (.ar (A.bU (A.l (MX A m c a)) 17592186044416) (.ret ((lp2 c (MX A m c a)),0)))))))
def wJ:(ax×qj×Int)->(qj×Int):=λ(m,c,a)=>gG Empty.elim (ab9 af m c a) (Ty.aS [wV,yI])
def GI:(ax×qj×Int)->Bool:=λ(m,c,a)=>gu Empty.elim (ab9 af m c a)
def atL:aK:=⟨[bJ,wV,yI], [wV,yI],GI,wJ,false⟩
theorem arx:Sd 149 atL:=bp ap dE sl 105 [⟨153,2000000, []⟩] [] (λA (m,c,a)=>ab9 A m c a) (λ_=>Empty.elim) Empty.elim (kz (fc func149 (fc func153 fz)) (sc ag0 (sc ag2 sz))) (λ_ y=>y.elim) λ((m,c,a):ax×qj×Int) b h=>fT b
structure ais where
 (a0:List Int) (a1 a3:Int)
inductive adG where
 | c0 (p:ais) (a2:Int)
noncomputable def ajC:adG->iB
 | .c0 p a2=>⟨[⟨257,19,(en [(0,.sl yI p.a0),(1,.fn 325 [] [.ptr 0 0]),(7,vi p.a1),(8,vi a2)]),sk f257 [1,0,1,0,0],[],none⟩,⟨204,9,.leaf,[.ops (ow f204 [1,0]) ((ow f204 [1,0]).toList.drop 2),.code .ret],[],none⟩,⟨302,8,.leaf,[.ops (ow f302 [1,0]) ((ow f302 [1,0]).toList.drop 2),.code .ret],[],none⟩],[.ay false [vi p.a3],.a_]⟩
def afY(A:aU)(l:List Int)(bound:Int):LT Bool adG:=.ao (.c0 ⟨l,(A.l l),bound⟩ 0)
def Vu(A:aU):adG->LT Bool adG
 | .c0 p a2=>.br (A.bG a2 p.a1) (.iZ A a2 p.a0 (.br (A.bG (A.n yI p.a0 a2:Int) (A.u .neg .i64 p.a3)) (.ret (A.nM a2 0)) (.br (A.ji (A.n yI p.a0 a2:Int) p.a3) (.ret (A.nM a2 0)) (.ao (.c0 p (A.c_ a2 1)))))) (.ret false)
def YK:(List Int×Int)->Bool:=λ(l,bound)=>gG (Vu af) (afY af l bound) (Ty.aS [.bool])
def QS:(List Int×Int)->Bool:=λ(l,bound)=>gu (Vu af) (afY af l bound)
def at7:aK:=⟨[El,yI], [.bool],QS,YK,false⟩
theorem arJ:Sd 302 at7:=bp ap dE sl 38 [⟨257,2, [[0,1,7,8], [], []]⟩] [] (λA (l,bound)=>afY A l bound) Vu ajC (kz (fc func302 (fc func204 (fc func257 (fc func325 (fc func326 fz))))) sz) (λA y=>match y with |.c0 p a2=>⟨72,sl,by kernel_rfl⟩) λ((l,bound):List Int×Int) a h=>fT a
structure ah4 where
 (a0 a1:Int)
inductive adh where
 | c0 (p:ah4)
noncomputable def ajb:adh->iB
 | .c0 p=>⟨[⟨281,25,(en [(0,.int .u64 false p.a0),(2,vi p.a1)]),[.code (cw f281 [1,1,1,1,0]),.code .ret],[],none⟩,⟨229,8,.leaf,[.ops (ow f229 [1,1,0]) ((ow f229 [1,1,0]).toList.drop 1),.code .ret],[],none⟩],[.a_]⟩
def ana(A:aU)(a:Int):LT Int adh:=.br (A.nM a 4294967296) (.br (A.nM (A.b .shr .u64 a 32) 65536) (.br (A.nM (A.b .shr .u64 (A.b .shr .u64 a 32) 16) 256) (.ao (.c0 ⟨(A.b .shr .u64 (A.b .shr .u64 (A.b .shr .u64 a 32) 16) 8),56⟩)) (.ao (.c0 ⟨(A.b .shr .u64 (A.b .shr .u64 a 32) 16),48⟩))) (.br (A.nM (A.b .shr .u64 a 32) 256) (.ao (.c0 ⟨(A.b .shr .u64 (A.b .shr .u64 a 32) 8),40⟩)) (.ao (.c0 ⟨(A.b .shr .u64 a 32),32⟩)))) (.br (A.nM a 65536) (.br (A.nM (A.b .shr .u64 a 16) 256) (.ao (.c0 ⟨(A.b .shr .u64 (A.b .shr .u64 a 16) 8),24⟩)) (.ao (.c0 ⟨(A.b .shr .u64 a 16),16⟩))) (.br (A.nM a 256) (.ao (.c0 ⟨(A.b .shr .u64 a 8),8⟩)) (.ao (.c0 ⟨a,0⟩))))
def aly(A:aU):adh->LT Int adh
 | .c0 p=>.iZ A (A.v .u8 p.a0) ([0,1,2,2,3,3,3,3,4,4,4,4,4,4,4,4,5,5,5,5,5,5,5,5,5,5,5,5,5,5,5,5,6,6,6,6,6,6,6,6,6,6,6,6,6,6,6,6,6,6,6,6,6,6,6,6,6,6,6,6,6,6,6,6,7,7,7,7,7,7,7,7,7,7,7,7,7,7,7,7,7,7,7,7,7,7,7,7,7,7,7,7,7,7,7,7,7,7,7,7,7,7,7,7,7,7,7,7,7,7,7,7,7,7,7,7,7,7,7,7,7,7,7,7,7,7,7,7,8,8,8,8,8,8,8,8,8,8,8,8,8,8,8,8,8,8,8,8,8,8,8,8,8,8,8,8,8,8,8,8,8,8,8,8,8,8,8,8,8,8,8,8,8,8,8,8,8,8,8,8,8,8,8,8,8,8,8,8,8,8,8,8,8,8,8,8,8,8,8,8,8,8,8,8,8,8,8,8,8,8,8,8,8,8,8,8,8,8,8,8,8,8,8,8,8,8,8,8,8,8,8,8,8,8,8,8,8,8,8,8,8,8,8,8,8,8,8,8,8,8,8,8,8,8,8,8]:List UInt8) (.ret (A.c_ p.a1 (A.v .i64 (A.byte ([0,1,2,2,3,3,3,3,4,4,4,4,4,4,4,4,5,5,5,5,5,5,5,5,5,5,5,5,5,5,5,5,6,6,6,6,6,6,6,6,6,6,6,6,6,6,6,6,6,6,6,6,6,6,6,6,6,6,6,6,6,6,6,6,7,7,7,7,7,7,7,7,7,7,7,7,7,7,7,7,7,7,7,7,7,7,7,7,7,7,7,7,7,7,7,7,7,7,7,7,7,7,7,7,7,7,7,7,7,7,7,7,7,7,7,7,7,7,7,7,7,7,7,7,7,7,7,7,8,8,8,8,8,8,8,8,8,8,8,8,8,8,8,8,8,8,8,8,8,8,8,8,8,8,8,8,8,8,8,8,8,8,8,8,8,8,8,8,8,8,8,8,8,8,8,8,8,8,8,8,8,8,8,8,8,8,8,8,8,8,8,8,8,8,8,8,8,8,8,8,8,8,8,8,8,8,8,8,8,8,8,8,8,8,8,8,8,8,8,8,8,8,8,8,8,8,8,8,8,8,8,8,8,8,8,8,8,8,8,8,8,8,8,8,8,8,8,8,8,8,8,8,8,8,8,8]:List UInt8) (A.v .u8 p.a0)))))
def agu:Int->Int:=λa=>gG (aly af) (ana af a) (Ty.aS [yI])
def LJ:Int->Bool:=λa=>gu (aly af) (ana af a)
def atx:aK:=⟨[(.int .u64)], [yI],LJ,agu,false⟩
theorem arm:Sd 229 atx:=bp ap dE sl 74 [] [⟨281,10, [[0,2], []]⟩] (λA a=>ana A a) aly ajb (kz (fc func229 (fc func281 fz)) sz) (λA y=>match y with |.c0 p=>⟨17,sl,by kernel_rfl⟩) λ(a:Int) b h=>fT b
structure aiq where
 (a1 a2:Int) (a5:List Int)
structure Pm where
 (b1 b2:Int) (b3:List Int)
structure air where
 (c1 c2:Int)
inductive adF where
 | c0 (p:aiq)
 | c1 (p:Pm)
 | c2 (p:air) (c3:Int) (c4:List Int)
noncomputable def ajB:adF->iB
 | .c0 p=>⟨[⟨327,134,(en [(0,.own 0),(1,vi 0),(2,vi p.a1),(3,vi p.a2),(8,vb true),(9,vb true)]),sk f327 [1,1,0,0],[],none⟩,⟨303,11,.leaf,[.ops (ow f303 [1]) ((ow f303 [1]).toList.drop 5)],[],none⟩,⟨256,38,(en [(5,.own 0)]),(.ops (ow f256 [1,1,1,1,0]) ((ow f256 [1,1,1,1,0]).toList.drop 1)::sk f256 [1,1,1,1,0]),[],none⟩],[.arr false yI p.a5,.a_]⟩
 | .c1 p=>⟨[⟨336,49,(en [(0,.own 0),(1,vi 0),(2,vi p.b1),(6,vi p.b2)]),sk f336 [1,0,0],[],none⟩,⟨327,134,.leaf,(.ops (ow f327 [1,1,0,0,0,1,0,1,0,0]) ((ow f327 [1,1,0,0,0,1,0,1,0,0]).toList.drop 3)::sk f327 [1,1,0,0,0,1,0,1,0,0]),[],none⟩,⟨303,11,.leaf,[.ops (ow f303 [1]) ((ow f303 [1]).toList.drop 5)],[],none⟩,⟨256,38,(en [(5,.own 0)]),(.ops (ow f256 [1,1,1,1,0]) ((ow f256 [1,1,1,1,0]).toList.drop 1)::sk f256 [1,1,1,1,0]),[],none⟩],[.arr false yI p.b3,.a_]⟩
 | .c2 p c3 c4=>⟨[⟨336,49,(en [(0,.own 0),(1,vi 0),(2,vi p.c1),(6,vi p.c2),(7,vi c3)]),sk f336 [1,0,0,1,0,0,1,0,0],[],none⟩,⟨327,134,.leaf,(.ops (ow f327 [1,1,0,0,0,1,0,1,0,0]) ((ow f327 [1,1,0,0,0,1,0,1,0,0]).toList.drop 3)::sk f327 [1,1,0,0,0,1,0,1,0,0]),[],none⟩,⟨303,11,.leaf,[.ops (ow f303 [1]) ((ow f303 [1]).toList.drop 5)],[],none⟩,⟨256,38,(en [(5,.own 0)]),(.ops (ow f256 [1,1,1,1,0]) ((ow f256 [1,1,1,1,0]).toList.drop 1)::sk f256 [1,1,1,1,0]),[],none⟩],[.arr false yI c4,.a_]⟩
def H9(A:aU)(l:List Int):List Int:=(A.spl (A.r (A.l l) (0:Int)) 0 (A.s l 0 (A.mn (A.l l) (A.l (A.r (A.l l) (0:Int))))))
def Ax(A:aU)(p:Pm):Int:=(A.lI (A.l p.b3) 1)
def Dq(A:aU)(p:Pm):Int:=(A.lI (Ax A p) 1)
def M2(A:aU)(c3:Int)(c4:List Int):Bool:=(A.and (A.bU 0 (A.lI c3 1)) (A.bG (A.lI c3 1) (A.l (A.set c4 c3 (A.n yI c4 (A.lI c3 1):Int)))))
def M3(A:aU)(c3:Int)(c4:List Int):List Int:=(A.set (A.set c4 c3 (A.n yI c4 (A.lI c3 1):Int)) (A.lI c3 1) (A.n yI c4 c3:Int))
def acd(A:aU)(l:List Int):LT (Int×Int×Int) adF:=.br (A.bK (A.l l) 0) (.ret (0,0,4)) (.ar (A.k QS (l,1099511627776)) (.br (A.k YK (l,1099511627776)) (.ret (0,0,80)) (.ar (A.and (A.bK (A.l l) (A.l l)) (A.and (A.bU 0 (A.l l)) (A.bU (A.l l) 17592186044416))) (.ar (A.k LJ (A.v .u64 (A.l (H9 A l)))) (.ao (.c0 ⟨(A.l (H9 A l)),(A.k agu (A.v .u64 (A.l (H9 A l)))),(H9 A l)⟩))))))
def Mi(A:aU):adF->LT (Int×Int×Int) adF
 | .c0 p=>.br (A.bU (A.lI p.a1 0) 12) (.ao (.c1 ⟨p.a1,(A.c_ 0 1),p.a5⟩)) (.br (A.bK p.a2 0) (.bZ 163 "zsortordered.go:81") (.br (A.not true) (.bZ 163 "zsortordered.go:87") (.bZ 163 "zsortordered.go:91")))
 | .c1 p=>.br (A.bG p.b2 p.b1) (.ao (.c2 ⟨p.b1,p.b2⟩ p.b2 p.b3)) (.br (A.nM (A.l p.b3) 4) (.ar (A.and (A.bU 0 1) (A.and (A.bU 1 (Ax A p)) (A.bU (Ax A p) (A.l p.b3)))) (.ar (A.and (A.bU 0 0) (A.bG 0 (Dq A p))) (.ar (A.and (A.bU 0 (A.lI (Dq A p) 1)) (A.bG (A.lI (Dq A p) 1) (Dq A p))) (.ret ((A.n yI p.b3 (A.c_ 1 0):Int),(A.n yI p.b3 (A.c_ 1 (A.lI (Dq A p) 1)):Int),0))))) (.iZ A 0 p.b3 (.iZ A (Ax A p) p.b3 (.ret ((A.n yI p.b3 0:Int),(A.n yI p.b3 (Ax A p):Int),0)))))
 | .c2 p c3 c4=>.br (A.ji c3 0) (.iZ A c3 c4 (.iZ A (A.lI c3 1) c4 (.br (A.k DW (A.n yI c4 c3:Int)) (.br (A.not (A.k DW (A.n yI c4 (A.lI c3 1):Int))) (.ar (M2 A c3 c4) (.ao (.c2 p (A.lI c3 1) (M3 A c3 c4)))) (.br (A.bG (A.n yI c4 c3:Int) (A.n yI c4 (A.lI c3 1):Int)) (.ar (M2 A c3 c4) (.ao (.c2 p (A.lI c3 1) (M3 A c3 c4)))) (.ao (.c1 ⟨p.c1,(A.c_ p.c2 1),c4⟩)))) (.br (A.bG (A.n yI c4 c3:Int) (A.n yI c4 (A.lI c3 1):Int)) (.ar (M2 A c3 c4) (.ao (.c2 p (A.lI c3 1) (M3 A c3 c4)))) (.ao (.c1 ⟨p.c1,(A.c_ p.c2 1),c4⟩)))))) (.ao (.c1 ⟨p.c1,(A.c_ p.c2 1),c4⟩))
def Bf:(List Int)->(Int×Int×Int):=λl=>gG (Mi af) (acd af l) (Ty.aS [yI,yI,yI])
def QR:(List Int)->Bool:=λl=>gu (Mi af) (acd af l)
def atX:aK:=⟨[El], [yI,yI,yI],QR,Bf,false⟩
theorem arG:Sd 256 atX:=bp ap dE sl 71 [⟨327,2, [[0,1,2,3,8,9], [], [5]]⟩,⟨336,1, [[0,1,2,6], [], [], [5]]⟩,⟨336,4, [[0,1,2,6,7], [], [], [5]]⟩] [] (λA l=>acd A l) Mi ajB (kz (fc func256 (fc func303 (fc func327 (fc func336 (fc func342 fz))))) (sc arm (sc ahp (sc arJ sz)))) (λA y=>match y with |.c0 p=>⟨43,sl,by kernel_rfl⟩|.c1 p=>⟨52,sl,by kernel_rfl⟩|.c2 p c3 c4=>⟨76,(.kN [0,0,0,0,0,3,4,4,0,0,4,5,5,0,0,3,4,4]),by kernel_rfl⟩) λ(l:List Int) a h=>fT a
def afV(A:aU)(l:List Int):LT (Int×Int) Empty:=.ar (A.k QR l) (.ret ((A.b .shr .i64 (A.c_ (A.k Bf l).1 (A.k Bf l).2.1) 1),(A.k Bf l).2.2))
def NP:(List Int)->(Int×Int):=λl=>gG Empty.elim (afV af l) (Ty.aS [yI,yI])
def QQ:(List Int)->Bool:=λl=>gu Empty.elim (afV af l)
def atS:aK:=⟨[El], [yI,yI],QQ,NP,false⟩
theorem arC:Sd 203 atS:=bM ap dE sl 33 [] (λA l=>afV A l) (kz (fc func203 fz) (sc arG sz)) λ(l:List Int) a h=>fT a
def H8(A:aU)(c:qj):List Int:=(A.p (A.spl (A.r (A.l c.2.2) (0:Int)) 0 (A.s c.2.2 0 (A.mn (A.l c.2.2) (A.l (A.r (A.l c.2.2) (0:Int)))))) ([0]:List Int))
def ab_(A:aU)(m:ax)(c:qj):LT (Int×Int) Empty:=.br (A.cu (A.k tY (m,c)) 0) (.ret (0,(A.k tY (m,c)))) (.ar (A.and (A.bU (A.l c.2.2) (A.c_ (A.l c.2.2) 1)) (A.and (A.bU 0 (A.l c.2.2)) (A.bU (A.c_ (A.l c.2.2) 1) 17592186044416))) (.ar (A.bU (A.l (H8 A c)) 17592186044416) (.ar (A.k QQ (H8 A c)) (.ret (A.k NP (H8 A c))))))
def wK:(ax×qj)->(Int×Int):=λ(m,c)=>gG Empty.elim (ab_ af m c) (Ty.aS [yI,yI])
def QP:(ax×qj)->Bool:=λ(m,c)=>gu Empty.elim (ab_ af m c)
def atM:aK:=⟨[bJ,wV], [yI,yI],QP,wK,false⟩
theorem ary:Sd 152 atM:=bp ap dE sl 68 [⟨153,2000000, []⟩] [] (λA (m,c)=>ab_ A m c) (λ_=>Empty.elim) Empty.elim (kz (fc func152 (fc func153 fz)) (sc OI (sc arC sz))) (λ_ y=>y.elim) λ((m,c):ax×qj) a h=>fT a
def H6:qj:=(0,0,([]:List Int))
def afM(A:aU)(m:ax)(c:qj)(a:Int):LT (qj×Int) Empty:=.ar (A.k QP (m,c)) (.br (A.cu (A.k wK (m,c)).2 0) (.ret ((H6),(A.k wK (m,c)).2)) (.br (A.bG a (A.u .neg .i64 m.2.2.2.2.1)) (.ret ((H6),2)) (.br (A.ji a m.2.2.2.2.1) (.ret ((H6),2)) (.ar (A.cu m.1 0) (.br (A.bK (A.b .rem .i64 (A.c_ c.2.1 1) m.1) 0) (.br (A.not (A.k FK (m,(A.c_ (A.c_ c.1 (A.c_ m.2.1 a)) (A.k wK (m,c)).1),(A.c_ c.2.1 1),([]:List Int)))) (.ret ((H6),130)) (.ret (((A.c_ (A.c_ c.1 (A.c_ m.2.1 a)) (A.k wK (m,c)).1),(A.c_ c.2.1 1),([]:List Int)),0))) (.ar (A.k aai (c.2.2,0)) (.br (A.not (A.k FK (m,(A.c_ c.1 (A.c_ m.2.1 a)),(A.c_ c.2.1 1),(A.k YF (c.2.2,0))))) (.ret ((H6),130)) (.ret (((A.c_ c.1 (A.c_ m.2.1 a)),(A.c_ c.2.1 1),(A.k YF (c.2.2,0))),0)))))))))
def JP:(ax×qj×Int)->(qj×Int):=λ(m,c,a)=>gG Empty.elim (afM af m c a) (Ty.aS [wV,yI])
def QJ:(ax×qj×Int)->Bool:=λ(m,c,a)=>gu Empty.elim (afM af m c a)
def atG:aK:=⟨[bJ,wV,yI], [wV,yI],QJ,JP,false⟩
theorem aru:Sd 100 atG:=bM ap dE sl 102 [] (λA (m,c,a)=>afM A m c a) (kz (fc func100 fz) (sc aa3 (sc ary (sc arz sz)))) λ((m,c,a):ax×qj×Int) b h=>fT b
def uT:List Int:=([]:List Int)
abbrev ab8(A:aU)(m:ax)(a:Int):LT (qj×Int) Empty:=(.br (A.not (A.k FK (m,(-1),a,(uT)))) (.ret ((0,0,(uT)),130)) (.ret (((-1),a,(uT)),0)))
def afS(A:aU)(m:ax)(b:Int)(a:Int):LT (qj×Int) Empty:=.br (A.cu (A.k j_ m) 0) (.ret ((0,0,(uT)),(A.k j_ m))) (.br (A.bG a 0) (.ret ((0,0,(uT)),2)) (.br (A.nM a m.1) (.ret ((0,0,(uT)),2)) (.br (A.nM b 0) (.br (A.bU b 1099511627776) (.br (A.not (A.k FK (m,(A.lI b (A.c_ m.2.2.1 m.2.2.2.2.2.1)),a,(uT)))) (.ret ((0,0,(uT)),130)) (.ret (((A.lI b (A.c_ m.2.2.1 m.2.2.2.2.2.1)),a,(uT)),0))) (ab8 A m a)) (ab8 A m a))))
def re:(ax×Int×Int)->(qj×Int):=λ(m,a,b)=>(afS af m a b).val (Ty.aS [wV,yI])
def atJ:aK:=.all [bJ,yI,yI] [wV,yI] re
theorem arv:Sd 144 atJ:=fa (aR ap dE sl 85 [] (λA (m,a,b)=>afS A m a b) (kz (fc func144 fz) (sc Ed (sc aa3 sz))))
abbrev ahw(A:aU)(s:jv)(a:Int)(b:Int)(node:Int):=(A.b .rem .i64 (A.c_ (A.b .mul .i64 b a) node) (A.l s.2.2.2.2.2.1))
def afN(A:aU)(s:jv)(a:Int)(b:Int)(node:Int):LT Int Empty:=.br (A.bK (A.l s.2.2.2.2.2.1) 0) (.ret 0) (.br (A.bG b 0) (.ret 0) (.br (A.bG node 0) (.ret 0) (.br (A.bG a 1) (.ret 0) (.br (A.ji (A.mx (A.mx b node) a) 1048576) (.ret 0) (.oo A s.2.2.2.2.2.1 (.iZ A (ahw A s a b node) s.2.2.2.2.2.1 (.ret (A.n yI s.2.2.2.2.2.1 (ahw A s a b node):Int))))))))
def zn:(jv×Int×Int×Int)->Int:=λ(s,a,b,node)=>gG Empty.elim (afN af s a b node) (Ty.aS [yI])
def LX:(jv×Int×Int×Int)->Bool:=λ(s,a,b,node)=>gu Empty.elim (afN af s a b node)
def atH:aK:=⟨[pK,yI,yI,yI], [yI],LX,zn,false⟩
theorem ahk:Sd 101 atH:=bM ap dE sl 57 [] (λA (s,a,b,node)=>afN A s a b node) (kz (fc func101 fz) sz) λ((s,a,b,node):jv×Int×Int×Int) c h=>fT c
def auO(A:aU)(m:ax)(c:qj)(off:Int)(id:Int)(a:Int):LT (Span×Int) Empty:=.br (A.cu (A.k tY (m,c)) 0) (.ret ((0,0),(A.k tY (m,c)))) (.br (A.bG id 0) (.ret ((0,0),2)) (.br (A.nM id m.1) (.ret ((0,0),2)) (.br (A.bG a 0) (.ret ((0,0),2)) (.br (A.nM a m.1) (.ret ((0,0),2)) (.br (A.bG off (A.u .neg .i64 (A.b .quo .i64 m.2.2.2.1 2))) (.ret ((0,0),2)) (.br (A.ji off (A.b .quo .i64 m.2.2.2.1 2)) (.ret ((0,0),2)) (.br (A.cu id a) (.ret ((0,0),0)) (.ret (((A.mx (A.lI (A.c_ c.1 (A.c_ off m.2.2.1)) m.2.2.2.1) 0),(A.c_ (A.c_ (A.c_ c.1 (A.c_ off m.2.2.1)) (A.k ND m)) m.2.2.2.1)),0)))))))))
def agy:(ax×qj×Int×Int×Int)->(Span×Int):=λ(m,c,off,id,a)=>(auO af m c off id a).val (Ty.aS [jW,yI])
def atY:aK:=.all [bJ,wV,yI,yI,yI] [jW,yI] agy
theorem arH:Sd 264 atY:=fa (aR ap dE sl 130 [] (λA (m,c,off,id,a)=>auO A m c off id a) (kz (fc func264 fz) (sc OI (sc aa4 sz))))
def M4:(Int×Span×Int×Int×List Int)×Bool:=((0,(0,0),0,0,([]:List Int)),false)
def ano(A:aU)(a:Span)(s:dF):LT (dF×Bool) Empty:=.br (A.cu (A.k Sg s) 0) (.ret (M4)) (.br (A.cu (A.k FL a) 0) (.ret (M4)) (.br (A.not (A.k SK (s.2.1,a))) (.ret (M4)) (.br (A.k YI (s.2.1,a)) (.ret ((lp4 s (A.k lq s.2.2.2.2)),true)) (.ret ((lp4 (up3 (y9 s ((A.mx s.2.1.1 a.1),(A.mn s.2.1.2 a.2))) (0:Int)) ([]:List Int)),true)))))
def JV:(Span×dF)->(dF×Bool):=λ(a,s)=>(ano af a s).val (Ty.aS [eU,.bool])
def atZ:aK:=.all [jW,eU] [eU,.bool] JV
theorem arI:Sd 265 atZ:=fa (aR ap dE sl 79 [] (λA (a,s)=>ano A a s) (kz (fc func265 fz) (sc zz (sc aa5 (sc OL (sc ahn (sc aho sz)))))))
structure Kt where
 (a0:List fS) (a1:Int) (a3:Bool×ax×jv×Unit) (a4 a5:Int) (a6:fq) (a7 a8 a9 iN:Bool×ax×jv×Unit) (kV:List fS) (a12 Dw Jv M9:Int) (O8:fq) (O9:Int) (a20:List fS) (a21:Int)
inductive ady where
 | c0 (p:Kt) (a2:Int)
noncomputable def aju:ady->iB
 | .c0 p a2=>⟨[⟨219,36,(en [(0,.yield 0),(2,.ptr 1 0),(3,.ptr 2 0),(7,.sl eZ p.a0),(8,vi p.a1),(9,vi a2)]),sk f219 [1,0,0],[],none⟩,⟨106,34,(en [(8,.ptr 3 0),(9,.ptr 4 0)]),[.oP 0,.inBlock 0,.code (cw f106 [1,1])],[5],none⟩],[.loop ⟨106,34,(en [(0,.pI (.struct [.bool,bJ,pK,(.any 8)]) p.a3 0),(1,vi p.a4),(2,vi p.a5),(3,.agg (dc ia p.a6)),(5,.ptr 7 0),(6,.ptr 9 0),(7,.ptr 6 0),(8,.ptr 3 0),(9,.ptr 4 0),(11,.pI (.struct [.bool,bJ,pK,(.any 8)]) p.a7 0),(12,.pI (.struct [.bool,bJ,pK,(.any 8)]) p.a8 0),(13,.pI (.struct [.bool,bJ,pK,(.any 8)]) p.a9 9),(14,.pI (.struct [.bool,bJ,pK,(.any 8)]) p.iN 16),(15,.sl eZ p.kV),(16,.ptr 6 0),(17,vi p.a12),(18,.ptr 6 1),(19,vi p.Dw),(20,.fn 219 [] [.ptr 8 0,.ptr 1 0,.ptr 2 0])]),[21],(cw f106 [1,0,1,0,0]),(cw f106 [1,0,1,0,1]),0,none⟩,.ay false [vi p.Jv],.ay false [vi p.M9],.ay false [vi 0,vi 0,vi 0,vi 0,vi 0,vi 0,vi 0],.ay false [vb false],.Ie,.ay false (dc ia p.O8),.ay false [vi p.O9],.ay false [.sl eZ p.a20],.ay false [vi p.a21],.a_]⟩
def qf(A:aU)(p:Kt)(a2:Int):fS:=(A.n eZ p.a0 a2:fS)
def ab5(A:aU)(e:Bool)(f:ax)(a:jv)(b:Int)(node:Int)(c:fq):LT (fS×Bool) ady:=.ar (A.k Qw a.2.2.2.2.2.2.2) (.ao (.c0 ⟨(A.k FT a.2.2.2.2.2.2.2),(A.l (A.k FT a.2.2.2.2.2.2.2)),(e,f,a,()),b,node,c,(e,f,a,()),(e,f,a,()),(e,f,a,()),(e,f,a,()),a.2.2.2.2.2.2.2,c.1,c.2.1,c.1,c.2.1,c,b,(A.k FT a.2.2.2.2.2.2.2),node⟩ 0))
def Ez(A:aU):ady->LT (fS×Bool) ady
 | .c0 p a2=>.br (A.bG a2 p.a1) (.iZ A a2 p.a0 (.br (A.bK (qf A p a2).2.2.2.1 p.Jv) (.br (A.bK (qf A p a2).2.2.2.2.1 p.M9) (.br (A.bK (qf A p a2).1 p.O9) (.br (A.bK (qf A p a2).2.1 p.a21) (.ret ((qf A p a2),true)) (.ao (.c0 p (A.c_ a2 1)))) (.ao (.c0 p (A.c_ a2 1)))) (.br (A.not (A.k NL (qf A p a2).1)) (.br (A.bK (qf A p a2).1 p.O9) (.br (A.bK (qf A p a2).2.1 p.a21) (.ret ((qf A p a2),true)) (.ao (.c0 p (A.c_ a2 1)))) (.ao (.c0 p (A.c_ a2 1)))) (.ao (.c0 p (A.c_ a2 1))))) (.ao (.c0 p (A.c_ a2 1))))) (.ret ((0,0,0,0,0,0,0),false))
def eH:(Bool×ax×jv×Unit)×(Int×Int×fq)->(fS×Bool):=λ((b,e,f,()),(a,node,c))=>gG (Ez af) (ab5 af b e f a node c) (Ty.aS [eZ,.bool])
def jR:(Bool×ax×jv×Unit)×(Int×Int×fq)->Bool:=λ((b,e,f,()),(a,node,c))=>gu (Ez af) (ab5 af b e f a node c)
def apW:qs:=⟨(.struct [.bool,bJ,pK,(.any 8)]), [yI,yI,ia], [eZ,.bool],jR,eH⟩
theorem Oh:qs.bE prog 106 apW:=BU ap dE sl 57 [⟨219,1, [[0,2,3,7,8,9], [8,9]]⟩] [] (λA ((b,e,f,()),(a,node,c))=>ab5 A b e f a node c) Ez aju (kz (fc func106 (fc func164 (fc func219 fz))) (sc ahi (sc ahj sz))) (λA y=>match y with |.c0 p a2=>⟨77,sl,by kernel_rfl⟩) λ((b,e,f,()),(a,node,c)) g j h=>fT g
structure WY where
 (a0:List fS) (a1:Int) (a3:Bool×ax×jv×Unit) (a4:Int) (a5:fq) (a6 a7 a8 a9:Bool×ax×jv×Unit) (iN:List fS) (kV a12 Dw Jv:Int) (a16:fq) (a17:List fS) (O8:Int)
inductive adD where
 | c0 (p:WY) (a2:Int)
noncomputable def ajz:adD->iB
 | .c0 p a2=>⟨[⟨219,36,(en [(0,.yield 0),(2,.ptr 1 0),(3,.ptr 2 0),(7,.sl eZ p.a0),(8,vi p.a1),(9,vi a2)]),sk f219 [1,0,0],[],none⟩,⟨160,28,(en [(6,.ptr 3 0)]),[.oP 0,.inBlock 0,.code (cw f160 [1,1])],[4],none⟩],[.loop ⟨160,28,(en [(0,.pI (.struct [.bool,bJ,pK,(.any 8)]) p.a3 0),(1,vi p.a4),(2,.agg (dc ia p.a5)),(4,.ptr 7 0),(5,.ptr 5 0),(6,.ptr 3 0),(8,.pI (.struct [.bool,bJ,pK,(.any 8)]) p.a6 0),(9,.pI (.struct [.bool,bJ,pK,(.any 8)]) p.a7 0),(10,.pI (.struct [.bool,bJ,pK,(.any 8)]) p.a8 9),(11,.pI (.struct [.bool,bJ,pK,(.any 8)]) p.a9 16),(12,.sl eZ p.iN),(13,.ptr 5 0),(14,vi p.kV),(15,.ptr 5 1),(16,vi p.a12),(17,.fn 219 [] [.ptr 6 0,.ptr 1 0,.ptr 2 0])]),[18],(cw f160 [1,0,1,0,0]),(cw f160 [1,0,1,0,1]),0,none⟩,.ay false [vi p.Dw],.ay false [vi p.Jv],.ay false [vb false],.Ie,.ay false (dc ia p.a16),.ay false [.sl eZ p.a17],.ay false [vi p.O8],.a_]⟩
def afU(A:aU)(e:Bool)(f:ax)(b:jv)(a:Int)(c:fq):LT Bool adD:=.ar (A.k Qw b.2.2.2.2.2.2.2) (.ao (.c0 ⟨(A.k FT b.2.2.2.2.2.2.2),(A.l (A.k FT b.2.2.2.2.2.2.2)),(e,f,b,()),a,c,(e,f,b,()),(e,f,b,()),(e,f,b,()),(e,f,b,()),b.2.2.2.2.2.2.2,c.1,c.2.1,c.1,c.2.1,c,(A.k FT b.2.2.2.2.2.2.2),a⟩ 0))
def Q5(A:aU):adD->LT Bool adD
 | .c0 p a2=>.br (A.bG a2 p.a1) (.iZ A a2 p.a0 (.br (A.bK (A.n eZ p.a0 a2:fS).2.2.2.1 p.Dw) (.br (A.bK (A.n eZ p.a0 a2:fS).2.2.2.2.1 p.Jv) (.br (A.bK (A.n eZ p.a0 a2:fS).1 5) (.br (A.bK (A.n eZ p.a0 a2:fS).2.2.1 p.O8) (.ret true) (.ao (.c0 p (A.c_ a2 1)))) (.ao (.c0 p (A.c_ a2 1)))) (.br (A.not (A.k NL (A.n eZ p.a0 a2:fS).1)) (.br (A.bK (A.n eZ p.a0 a2:fS).1 5) (.br (A.bK (A.n eZ p.a0 a2:fS).2.2.1 p.O8) (.ret true) (.ao (.c0 p (A.c_ a2 1)))) (.ao (.c0 p (A.c_ a2 1)))) (.ao (.c0 p (A.c_ a2 1))))) (.ao (.c0 p (A.c_ a2 1))))) (.ret false)
def YG:(Bool×ax×jv×Unit)×(Int×fq)->Bool:=λ((b,e,f,()),(a,c))=>gG (Q5 af) (afU af b e f a c) (Ty.aS [.bool])
def LY:(Bool×ax×jv×Unit)×(Int×fq)->Bool:=λ((b,e,f,()),(a,c))=>gu (Q5 af) (afU af b e f a c)
def apX:qs:=⟨(.struct [.bool,bJ,pK,(.any 8)]), [yI,ia], [.bool],LY,YG⟩
theorem apT:qs.bE prog 160 apX:=BU ap dE sl 55 [⟨219,1, [[0,2,3,7,8,9], [6]]⟩] [] (λA ((b,e,f,()),(a,c))=>afU A b e f a c) Q5 ajz (kz (fc func160 (fc func164 (fc func219 fz))) (sc ahi (sc ahj sz))) (λA y=>match y with |.c0 p a2=>⟨76,sl,by kernel_rfl⟩) λ((b,e,f,()),(a,c)) g j h=>fT g
def x_(A:aU)(c:Net)(b:Int)(a:Int)(node:Int)(n:Int):qW×Int×Int×Int×Int:=((A.k dX (c.2.2.2.2.2.1,())).1,(A.mx b (A.k dX (c.2.2.2.2.2.1,())).2),a,node,n)
def ab0(A:aU)(c:Net)(b:Int)(a:Int)(node:Int)(n:Int):LT (Net×Unit) Empty:=.ar (A.k nc (c.2.2.2.2.2.1,())) (.br (A.bU (A.mx b (A.k dX (c.2.2.2.2.2.1,())).2) c.2.2.2.2.1) (.ar (A.k QN (x_ A c b a node n)) (.br (A.cu (A.k wI (x_ A c b a node n)).2 0) (.ar (A.k nc ((A.k wI (x_ A c b a node n)).1,())) (.ret ((r9 (VQ c (A.mn c.2.2.2.2.1 (A.k dX ((A.k wI (x_ A c b a node n)).1,())).2)) (A.k dX ((A.k wI (x_ A c b a node n)).1,())).1),()))) (.ret ((r9 c (A.k wI (x_ A c b a node n)).1),())))) (.ret ((r9 c (A.k dX (c.2.2.2.2.2.1,())).1),())))
def t_:Net×(Int×Int×Int×Int)->Net×Unit:=λ(c,(b,a,node,n))=>gG Empty.elim (ab0 af c b a node n) (Ty.aS [jH],Ty.aS [])
def qG:Net×(Int×Int×Int×Int)->Bool:=λ(c,(b,a,node,n))=>gu Empty.elim (ab0 af c b a node n)&&decide (VF.lens [eG] (t_ (c,(b,a,node,n))).1=VF.lens [eG] ((c,(b,a,node,n)):Net×(Int×Int×Int×Int)).1)
def apj:bV:=⟨[eG], [yI,yI,yI,yI], [],qG,t_,false,false⟩
theorem ZA:bV.bE prog 81 apj:=bI ap dE sl 56 [] [] (λA (c,(b,a,node,n))=>ab0 A c b a node n) (λ_=>Empty.elim) Empty.elim ⟨(fc func81 fz),sz,oz,iz,(mc D2 (mc aoY mz)),pz⟩ (λ_ y=>y.elim) (λ((c,(b,a,node,n)):Net×(Int×Int×Int×Int)) e f h=>Ch e) (z:=λ_ _ h=>Ci h)
def abR(A:aU)(c:Net)(b:Int)(a:Int)(node:Int):LT (Net×Unit) Empty:=.br (A.cu a 3) (.br (A.bG node (A.l c.2.2.2.2.2.2.1)) (.iZ A node c.2.2.2.2.2.2.1 (.ar (A.k qG (c,b,a,node,(A.n bP c.2.2.2.2.2.2.1 node:cr).2.2.2.2.1)) (.oo A c.2.2.2.2.2.2.1 (.ret ((A.k t_ (c,b,a,node,(A.n bP c.2.2.2.2.2.2.1 node:cr).2.2.2.2.1)).1,()))))) (.ar (A.k qG (c,b,a,node,0)) (.oo A c.2.2.2.2.2.2.1 (.ret ((A.k t_ (c,b,a,node,0)).1,()))))) (.ar (A.k qG (c,b,a,node,0)) (.oo A c.2.2.2.2.2.2.1 (.ret ((A.k t_ (c,b,a,node,0)).1,()))))
def Be:Net×(Int×Int×Int)->Net×Unit:=λ(c,(b,a,node))=>gG Empty.elim (abR af c b a node) (Ty.aS [jH],Ty.aS [])
def xP:Net×(Int×Int×Int)->Bool:=λ(c,(b,a,node))=>gu Empty.elim (abR af c b a node)&&decide (VF.lens [eG] (Be (c,(b,a,node))).1=VF.lens [eG] ((c,(b,a,node)):Net×(Int×Int×Int)).1)
def apa:bV:=⟨[eG], [yI,yI,yI], [],xP,Be,false,false⟩
theorem N3:bV.bE prog 42 apa:=bI ap dE sl 45 [] [] (λA (c,(b,a,node))=>abR A c b a node) (λ_=>Empty.elim) Empty.elim ⟨(fc func42 fz),sz,oz,iz,(mc ZA mz),pz⟩ (λ_ y=>y.elim) (λ((c,(b,a,node)):Net×(Int×Int×Int)) e f h=>Ch e) (z:=λ_ _ h=>Ci h)
def MY(A:aU)(b:Net)(i:Int):List cr:=(md A bP b.2.2.2.2.2.2.1 i λ(a:cr)=>(VQ a (A.c_ a.2.2.2.2.1 1)))
def MZ(A:aU)(a:Net)(i:Int):Net×Int×Int×Int:=((rC (r9 a (A.k dX ((A.k dX (a.2.2.2.2.2.1,())).1,())).1) (md A bP (MY A a i) i λ(b:cr)=>(up3 b (A.k dX (a.2.2.2.2.2.1,())).2))),(A.c_ (A.k dX ((A.k dX (a.2.2.2.2.2.1,())).1,())).2 a.2.1.2.1),2,i)
def acb(A:aU)(a:Net)(i:Int):LT (Net×Unit) Empty:=.iZ A i a.2.2.2.2.2.2.1 (.ar (A.k nc (a.2.2.2.2.2.1,())) (.ar (A.k nc ((A.k dX (a.2.2.2.2.2.1,())).1,())) (.ar (A.k xP (MZ A a i)) (.oo A (md A bP (MY A a i) i λ(b:cr)=>(up3 b (A.k dX (a.2.2.2.2.2.1,())).2)) (.ret ((A.k Be (MZ A a i)).1,()))))))
def JS:Net×Int->Net×Unit:=λ(a,i)=>gG Empty.elim (acb af a i) (Ty.aS [jH],Ty.aS [])
def LZ:Net×Int->Bool:=λ(a,i)=>gu Empty.elim (acb af a i)&&decide (VF.lens [eG] (JS (a,i)).1=VF.lens [eG] ((a,i):Net×Int).1)
def apw:bV:=⟨[eG], [yI], [],LZ,JS,false,false⟩
theorem agM:bV.bE prog 163 apw:=bI ap dE sl 55 [] [] (λA (a,i)=>acb A a i) (λ_=>Empty.elim) Empty.elim ⟨(fc func163 fz),sz,oz,iz,(mc N3 (mc D2 mz)),pz⟩ (λ_ y=>y.elim) (λ((a,i):Net×Int) b c h=>Ch b) (z:=λ_ _ h=>Ci h)
def MN(A:aU)(a:Net)(i:Int):Net×Int×Int×Int:=(a,(A.c_ (A.c_ (A.n bP a.2.2.2.2.2.2.1 i:cr).2.1.1 (A.c_ (A.c_ (A.c_ a.2.1.2.2.1 (A.k ND a.2.1)) a.2.1.2.2.2.2.2.1) (A.b .mul .i64 2 a.2.1.2.2.2.1))) 2),1,i)
def ab3(A:aU)(a:Net)(i:Int):LT (Net×Unit) Empty:=.iZ A i a.2.2.2.2.2.2.1 (.ar (A.k xP (MN A a i)) (.oo A a.2.2.2.2.2.2.1 (.ret ((A.k Be (MN A a i)).1,()))))
def FY:Net×Int->Net×Unit:=λ(a,i)=>gG Empty.elim (ab3 af a i) (Ty.aS [jH],Ty.aS [])
def CX:Net×Int->Bool:=λ(a,i)=>gu Empty.elim (ab3 af a i)&&decide (VF.lens [eG] (FY (a,i)).1=VF.lens [eG] ((a,i):Net×Int).1)
def apq:bV:=⟨[eG], [yI], [],CX,FY,false,false⟩
theorem ZB:bV.bE prog 104 apq:=bI ap dE sl 46 [] [] (λA (a,i)=>ab3 A a i) (λ_=>Empty.elim) Empty.elim ⟨(fc func104 fz),(sc aa4 sz),oz,iz,(mc N3 mz),pz⟩ (λ_ y=>y.elim) (λ((a,i):Net×Int) b c h=>Ch b) (z:=λ_ _ h=>Ci h)
def acC(A:aU)(a:Net)(i:Int)(on:Bool):List cr:=(A.set a.2.2.2.2.2.2.1 i ((A.k Sk (a.2.1,(A.n bP a.2.2.2.2.2.2.1 i:cr).1,on)).1,(A.n bP a.2.2.2.2.2.2.1 i:cr).2))
def acD(A:aU)(b:Net)(i:Int)(on:Bool):List cr:=(md A bP (acC A b i on) i λ(a:cr)=>(VQ a (A.c_ a.2.2.2.2.1 1)))
def acE(A:aU)(b:Net)(i:Int)(on:Bool):List cr:=(md A bP (acD A b i on) i λ(a:cr)=>(r9 a false))
def acF(A:aU)(b:Net)(i:Int)(on:Bool):List cr:=(md A bP (acE A b i on) i λ(a:cr)=>(rC a false))
def Dn(A:aU)(b:Net)(i:Int)(on:Bool):List cr:=(md A bP (acF A b i on) i λ(a:cr)=>(lp7 a false))
def ab4(A:aU)(a:Net)(i:Int)(on:Bool):LT (Net×Unit) Empty:=.iZ A i a.2.2.2.2.2.2.1 (.br (A.cu (A.k Sk (a.2.1,(A.n bP a.2.2.2.2.2.2.1 i:cr).1,on)).2 0) (.ret (a,())) (.br on (.ar (A.k LZ ((rC a (Dn A a i on)),i)) (.oo A (Dn A a i on) (.ret ((A.k JS ((rC a (Dn A a i on)),i)).1,())))) (.ret ((rC a (Dn A a i on)),()))))
def xt:Net×(Int×Bool)->Net×Unit:=λ(a,(i,on))=>gG Empty.elim (ab4 af a i on) (Ty.aS [jH],Ty.aS [])
def uO:Net×(Int×Bool)->Bool:=λ(a,(i,on))=>gu Empty.elim (ab4 af a i on)&&decide (VF.lens [eG] (xt (a,(i,on))).1=VF.lens [eG] ((a,(i,on)):Net×(Int×Bool)).1)
def apr:bV:=⟨[eG], [yI,.bool], [],uO,xt,false,false⟩
theorem ZC:bV.bE prog 105 apr:=bI ap dE sl 87 [] [] (λA (a,(i,on))=>ab4 A a i on) (λ_=>Empty.elim) Empty.elim ⟨(fc func105 fz),(sc aqE sz),oz,iz,(mc agM mz),pz⟩ (λ_ y=>y.elim) (λ((a,(i,on)):Net×(Int×Bool)) b c h=>Ch b) (z:=λ_ _ h=>Ci h)
def anu(A:aU)(b:Net)(i:Int)(n:Node)(a:Int):List cr:=(md A bP (md A bP b.2.2.2.2.2.2.1 i λ(c:cr)=>(up0 c n)) i λ(e:cr)=>(y9 e (A.k re (b.2.1,a,n.2.2.1.2.1)).1))
def anv(A:aU)(c:Net)(i:Int)(n:Node)(a:Int):List cr:=(md A bP (anu A c i n a) i λ(b:cr)=>(VQ b (A.c_ b.2.2.2.2.1 1)))
def MI(A:aU)(c:Net)(i:Int)(n:Node)(a:Int):List cr:=(md A bP (anv A c i n a) i λ(b:cr)=>(r9 b true))
def ab1(A:aU)(b:Net)(i:Int)(n:Node)(a:Int):LT (Net×Unit) Empty:=.iZ A i b.2.2.2.2.2.2.1 (.br (A.cu (A.k re (b.2.1,a,n.2.2.1.2.1)).2 0) (.ret (b,())) (.br (A.not (A.k Sy (n.2.2.1,n.2.2.1.2.1))) (.ret (b,())) (.ar (A.k CX ((rC b (md A bP (MI A b i n a) i λ(c:cr)=>(rC c false))),i)) (.oo A (md A bP (MI A b i n a) i λ(c:cr)=>(rC c false)) (.ret ((A.k FY ((rC b (md A bP (MI A b i n a) i λ(c:cr)=>(rC c false))),i)).1,()))))))
def SH:Net×(Int×Node×Int)->Net×Unit:=λ(b,(i,n,a))=>gG Empty.elim (ab1 af b i n a) (Ty.aS [jH],Ty.aS [])
def QH:Net×(Int×Node×Int)->Bool:=λ(b,(i,n,a))=>gu Empty.elim (ab1 af b i n a)&&decide (VF.lens [eG] (SH (b,(i,n,a))).1=VF.lens [eG] ((b,(i,n,a)):Net×(Int×Node×Int)).1)
def apl:bV:=⟨[eG], [yI,eT,yI], [],QH,SH,false,false⟩
theorem aoS:bV.bE prog 95 apl:=bI ap dE sl 95 [] [] (λA (b,(i,n,a))=>ab1 A b i n a) (λ_=>Empty.elim) Empty.elim ⟨(fc func95 fz),(sc ahb (sc arv sz)),oz,iz,(mc ZB mz),pz⟩ (λ_ y=>y.elim) (λ((b,(i,n,a)):Net×(Int×Node×Int)) c e h=>Ch c) (z:=λ_ _ h=>Ci h)
structure Pk where
 (a0:List fS) (a1:Int) (a3:Net) (a5 a6:Int) (a7:fq) (a8:dF)
inductive adE where
 | c0 (p:Pk) (a2:Int)
noncomputable def ajA:adE->iB
 | .c0 p a2=>⟨[⟨332,19,(en [(0,.sl eZ p.a0),(1,.fn 310 [] [.ptr 2 0,.ptr 3 0,.ptr 4 0]),(7,vi p.a1),(8,vi a2)]),sk f332 [1,0,1,0,0],[],none⟩,⟨309,9,.leaf,[.ops (ow f309 [1,0]) ((ow f309 [1,0]).toList.drop 2),.code .ret],[],none⟩,⟨262,16,.leaf,[.ops (ow f262 [1,0]) ((ow f262 [1,0]).toList.drop 6),.code .ret],[],none⟩,⟨212,53,(en [(0,.ptr 0 0),(5,.ptr 5 0),(6,.ptr 6 0),(7,.ptr 7 0),(8,.ptr 8 0)]),(.ops (ow f212 [1,0,0]) ((ow f212 [1,0,0]).toList.drop 4)::sk f212 [1,0,0]),[],none⟩],[wE p.a3 9 1 10 11 12 13,wA p.a3,.ay false [vi 11],.ay false [vi p.a5],.ay false [.fn 263 [] [.ptr 5 0]],.ay false [vi p.a6],.ay false (dc ia p.a7),.ay false (dc eU p.a8),.ay false [vi 0,vi 0,vi 0,vi 0,vi 0,.gb true],wC p.a3 14,wv p.a3,bxB p.a3,wD p.a3,wB p.a3,wy p.a3,.a_]⟩
def Dp(A:aU)(p:Pk):sr:=(A.k agy (p.a3.2.1,(A.n bP p.a3.2.2.2.2.2.2.1 p.a6:cr).2.1,(A.n yI p.a3.2.2.1.2.2.2.2.1 p.a6:Int),p.a6,p.a7.2.1))
def afW(A:aU)(a:Net)(i:Int)(c:fq)(s:dF):LT (Net×(dF×Bool)) adE:=.ao (.c0 ⟨a.2.2.1.2.2.2.2.2.2.2,(A.l a.2.2.1.2.2.2.2.2.2.2),a,c.1,i,c,s⟩ 0)
def OB(A:aU):adE->LT (Net×(dF×Bool)) adE
 | .c0 p a2=>.br (A.bG a2 p.a1) (.iZ A a2 p.a0 (.br (A.bK (A.n eZ p.a0 a2:fS).1 11) (.br (A.bU (A.n eZ p.a0 a2:fS).2.2.2.1 p.a5) (.br (A.bK (A.n eZ p.a0 a2:fS).2.1 p.a6) (.br (A.nM a2 0) (.ret (p.a3,p.a8,true)) (.iZ A p.a6 p.a3.2.2.2.2.2.2.1 (.iZ A p.a6 p.a3.2.2.1.2.2.2.2.1 (.br (A.cu (Dp A p).2 0) (.ret (p.a3,(0,(0,0),0,0,([]:List Int)),false)) (.ret (p.a3,(A.k JV ((Dp A p).1,p.a8)))))))) (.ao (.c0 p (A.c_ a2 1)))) (.ao (.c0 p (A.c_ a2 1)))) (.ao (.c0 p (A.c_ a2 1))))) (.iZ A p.a6 p.a3.2.2.2.2.2.2.1 (.iZ A p.a6 p.a3.2.2.1.2.2.2.2.1 (.br (A.cu (Dp A p).2 0) (.ret (p.a3,(0,(0,0),0,0,([]:List Int)),false)) (.ret (p.a3,(A.k JV ((Dp A p).1,p.a8)))))))
def gN:Net×(Int×fq×dF)->Net×(dF×Bool):=λ(a,(i,c,s))=>gG (OB af) (afW af a i c s) (Ty.aS [jH],Ty.aS [eU,.bool])
def oQ:Net×(Int×fq×dF)->Bool:=λ(a,(i,c,s))=>gu (OB af) (afW af a i c s)&&decide (VF.lens [eG] (gN (a,(i,c,s))).1=VF.lens [eG] ((a,(i,c,s)):Net×(Int×fq×dF)).1)
def apx:bV:=⟨[eG], [yI,ia,eU], [eU,.bool],oQ,gN,false,false⟩
theorem agN:bV.bE prog 212 apx:=bI ap dE sl 60 [⟨332,2, [[0,1,7,8], [], [], [0,5,6,7,8]]⟩] [] (λA (a,(i,c,s))=>afW A a i c s) OB ajA (kz (fc func212 (fc func262 (fc func263 (fc func309 (fc func310 (fc func332 fz)))))) (sc arH (sc arI sz))) (λA y=>match y with |.c0 p a2=>⟨136,(.kN [0,0,0,0,0,0,0,0,1,2,0,0,0,1,2]),by kernel_rfl⟩) (λ((a,(i,c,s)):Net×(Int×fq×dF)) b e h=>Ch b) (z:=λ_ _ h=>Ci h)
structure aih where
 (a2 a3:fS) (a4:Int) (a5:Bool) (a6 a7:Int) (a8:List Int) (a9 iN:Int)
structure WV where
 (b0:Int) (b2 b3:fS) (b4:Int) (b5:Bool) (b6 b7:Int) (b8:List Int) (b9 b10:Int)
inductive ads where
 | c0 (p:aih)
 | c1 (p:WV) (b1:Int) (Cf:List ik)
noncomputable def ajm:ads->iB
 | .c0 p=>⟨[⟨46,39,(en [(1,.ptr 0 0),(2,.ptr 1 0),(19,vi 0),(20,vi 0)]),sk f46 [1,1,1,0,1,0,0],[],none⟩],[.ay false (dc eZ p.a2++dc eZ p.a3 ++ [vi p.a4,vb p.a5,vi p.a6,vi p.a7,.sl yU p.a8,.gb false,vi p.a9,vi p.iN]),.ay false [vi 0,vi 0,vi 0,vi 0,vi 0,vi 0,vi 0,vi 0,vi 0,vi 0,vi 0,vi 0,vi 0,vi 0,vi 0,vb false,vi 0,vi 0,.gb true,.gb true,vi 0,vi 0],.a_]⟩
 | .c1 p b1 a=>⟨[⟨46,39,(en [(1,.ptr 0 0),(2,.ptr 1 0),(19,vi p.b0),(20,vi b1)]),sk f46 [1,1,1,0,1,0,0],[],none⟩],[.ay false (dc eZ p.b2++dc eZ p.b3 ++ [vi p.b4,vb p.b5,vi p.b6,vi p.b7,.sl yU p.b8,.own 2,vi p.b9,vi p.b10]),.ay false [vi 0,vi 0,vi 0,vi 0,vi 0,vi 0,vi 0,vi 0,vi 0,vi 0,vi 0,vi 0,vi 0,vi 0,vi 0,vb false,vi 0,vi 0,.gb true,.gb true,vi 0,vi 0],.arr false j6 a,.a_]⟩
def anh(A:aU)(n:Node):LT Node ads:=.oo A n.2.2.2.2.2.2.2.2.2.1 (.br (A.bK (A.l n.2.2.2.2.2.2.2.2.2.1) 0) (.ao (.c0 ⟨(n.1,n.2.1,n.2.2.1),n.2.2.2.1,n.2.2.2.2.1,n.2.2.2.2.2.1,n.2.2.2.2.2.2.1,n.2.2.2.2.2.2.2.1,(A.k lq n.2.2.2.2.2.2.2.2.1),n.2.2.2.2.2.2.2.2.2.2.1,n.2.2.2.2.2.2.2.2.2.2.2⟩)) (.ar (A.bU (A.l n.2.2.2.2.2.2.2.2.2.1) 4398046511104) (.ao (.c1 ⟨(A.l n.2.2.2.2.2.2.2.2.2.1),(n.1,n.2.1,n.2.2.1),n.2.2.2.1,n.2.2.2.2.1,n.2.2.2.2.2.1,n.2.2.2.2.2.2.1,n.2.2.2.2.2.2.2.1,(A.k lq n.2.2.2.2.2.2.2.2.1),n.2.2.2.2.2.2.2.2.2.2.1,n.2.2.2.2.2.2.2.2.2.2.2⟩ 0 n.2.2.2.2.2.2.2.2.2.1))))
def aaG(A:aU):ads->LT Node ads
 | .c0 p=>.br (A.bG 0 0) (.bZ 37 "busnet.go:149") (.ret (p.a2.1,p.a2.2.1,p.a2.2.2,p.a3,p.a4,p.a5,p.a6,p.a7,p.a8,([]:List ik),p.a9,p.iN))
 | .c1 p b1 a=>.br (A.bG b1 p.b0) (.iZ A b1 a (.iZ A b1 a (.ao (.c1 p (A.c_ b1 1) (A.set a b1 ((A.k lq (A.n j6 a b1:ik).1),(A.n j6 a b1:ik).2)))))) (.ret (p.b2.1,p.b2.2.1,p.b2.2.2,p.b3,p.b4,p.b5,p.b6,p.b7,p.b8,a,p.b9,p.b10))
def adU(n:Node):Bool:=decide (1<=n.2.2.2.2.2.2.2.2.2.1.length/\n.2.2.2.2.2.2.2.2.2.1.length<=4398046511103)
theorem Xu{p:WV}{l:List ik}(b:p.b0=(l.length:Int))(m:l.length<=140737488355328):∀(j i:Nat),l.length-i=j->i<=l.length->aY (aaG af) (.ao (.c1 p (i:Int) l)) (p.b2.1,p.b2.2.1,p.b2.2.2,p.b3,p.b4,p.b5,p.b6,p.b7,p.b8,l,p.b9,p.b10):=by
 intro j
 induction j with
 | zero=>
   intro i g f;have:i=l.length:=by omega
   subst this;rw[aA,aaG,b];exact(ai (by rw[aN];simp)).2 (.ret _)
 | succ j ih=>
   intro i g f;have a:i<l.length:=by omega
   rw[aA,aaG,b];refine(ak (by rw[aN];exact dn (by omega))).2 (au.2 ⟨df a,au.2 ⟨df a,?_⟩⟩);have e:(af.n j6 l (i:Int):ik)=l[i]:=fM a _;have c:af.set l (i:Int) ((af.k lq (af.n j6 l (i:Int):ik).1),(af.n j6 l (i:Int):ik).2)=l:=by
    rw[e];show l.set (i:Int).toNat l[i]=l;rw[rz];exact List.set_getElem_self _
   rw[c,akq (i:=i) (by omega)];exact ih (i+1) (by omega) (by omega)
theorem avD{n:Node}(h:adU n=true):aY (aaG af) (anh af n) n:=by
 obtain⟨a,b⟩:=of_decide_eq_true h;unfold anh;refine au.2 ⟨by rw[cq,dV];exact bne_iff_ne.2 (by omega),(ai (by rw[bd,dV];exact beq_eq_false_iff_ne.2 (by omega))).2 (au.2 ⟨by rw[aB,dV];exact dn (by omega),?_⟩)⟩;exact Xu rfl (by omega) _ 0 rfl (by omega)
def xr:Node->Node:=λn=>n
def Aj:Node->Bool:=adU
def atE:aK:=⟨[eT], [eT],Aj,xr,false⟩
theorem abd:Sd 46 atE:=bp ap dE sl 62 [⟨46,4, [[1,2,19,20]]⟩] [] (λA n=>anh A n) aaG ajm (kz (fc func46 (fc func82 fz)) (sc zz sz)) (λA y=>match y with |.c0 p=>⟨29,sl,by kernel_rfl⟩|.c1 p b1 b=>⟨42,sl,by kernel_rfl⟩) λ(n:Node) a h=>avD a
structure RL where
 (a0:Int)
inductive RV where
 | c0 (p:RL) (a1:Int) (a2:Net)
 | c1 (b0:Int) (b1:Int) (b2:Net)
noncomputable def adS:RV->iB
 | .c0 p a1 a2=>⟨[⟨311,19,(en [(0,.own 2),(1,.fn 267 [] [.ptr 3 0]),(7,vi p.a0),(8,vi a1)]),sk f311 [1,0,1,0,0],[],none⟩,⟨266,42,(en [(0,.own 2),(1,.fn 267 [] [.ptr 3 0])]),(.ops (ow f266 [1,0]) ((ow f266 [1,0]).toList.drop 2)::sk f266 [1,0]),[],none⟩,⟨214,22,(en [(1,.int .i64 true 0),(2,.ptr 3 0),(14,.ptr 0 0),(15,.int .i64 true 0),(19,.ptr 0 0),(20,.ptr 0 21)]),[.rS (ow f214 [1,1,1,0]) [0,0,0,0,12,1,33,127,255] 4 [7,8] [6,5,1,0]],[],none⟩],[wE a2 4 1 2 5 6 7,wA a2,wv a2,.ay false [.ptr 0 0],wC a2 8,bxB a2,wD a2,wB a2,wy a2,.a_]⟩
 | .c1 b0 b1 b2=>⟨[⟨266,42,(en [(0,.own 2),(1,.fn 267 [] [.ptr 3 0]),(5,vi b0),(6,vi b1)]),sk f266 [1,1,1,0,1,0,0],[],none⟩,⟨214,22,(en [(1,.int .i64 true 0),(2,.ptr 3 0),(14,.ptr 0 0),(15,.int .i64 true 0),(19,.ptr 0 0),(20,.ptr 0 21)]),[.rS (ow f214 [1,1,1,0]) [0,0,0,0,12,1,33,127,255] 4 [7,8] [6,5,1,0]],[],none⟩],[wE b2 4 1 2 5 6 7,wA b2,wv b2,.ay false [.ptr 0 0],wC b2 8,bxB b2,wD b2,wB b2,wy b2,.a_]⟩
def nH(a:Net):List dF:=a.2.2.2.2.2.2.2.1
def Ue(A:aU)(a:Net)(k:Int):LT (Net×Unit) RV:=.br (A.ji (A.l a.2.2.2.2.2.2.2.1) 64) (.ao (.c0 ⟨(A.l a.2.2.2.2.2.2.2.1)⟩ 0 a)) (.ret (a,()))
def zw(A:aU):RV->LT (Net×Unit) RV
 | .c0 p a1 a2=>.br (A.bG a1 p.a0) (.iZ A a1 a2.2.2.2.2.2.2.2.1 (.ar (A.k nc (a2.2.2.2.2.2.1,())) (.br (A.bG (A.n eU a2.2.2.2.2.2.2.2.1 a1:dF).2.1.2 (A.lI (A.k dX (a2.2.2.2.2.2.1,())).2 (A.b .mul .i64 3 a2.2.1.2.1))) (.br (A.bK a1 (-1)) (.ret ((r9 a2 (A.k dX (a2.2.2.2.2.2.1,())).1),())) (.ao (.c1 a1 (A.c_ a1 1) (r9 a2 (A.k dX (a2.2.2.2.2.2.1,())).1)))) (.ao (.c0 p (A.c_ a1 1) (r9 a2 (A.k dX (a2.2.2.2.2.2.1,())).1)))))) (.ret (a2,()))
 | .c1 b0 b1 b2=>.br (A.bG b1 (A.l (nH b2))) (.iZ A b1 (nH b2) (.ar (A.k nc (b2.2.2.2.2.2.1,())) (.br (A.not (A.bG (A.n eU (nH b2) b1:dF).2.1.2 (A.lI (A.k dX (b2.2.2.2.2.2.1,())).2 (A.b .mul .i64 3 b2.2.1.2.1)))) (.iZ A b0 (nH b2) (.ao (.c1 (A.c_ b0 1) (A.c_ b1 1) (ED (r9 b2 (A.k dX (b2.2.2.2.2.2.1,())).1) (A.set (nH b2) b0 (A.n eU (nH b2) b1:dF)))))) (.ao (.c1 b0 (A.c_ b1 1) (r9 b2 (A.k dX (b2.2.2.2.2.2.1,())).1)))))) (.ar (A.and (A.bU 0 b0) (A.and (A.bU b0 (A.l (nH b2))) (A.bU (A.l (nH b2)) (A.l (nH b2))))) (.ar (A.and (A.bU 0 0) (A.and (A.bU 0 b0) (A.bU b0 (A.l (A.spl (nH b2) b0 (A.r (A.lI (A.l (nH b2)) b0) (Ty.gw eU:dF))))))) (.ret ((ED b2 (A.s (A.spl (nH b2) b0 (A.r (A.lI (A.l (nH b2)) b0) (Ty.gw eU:dF))) 0 (A.lI b0 0))),()))))
def K9:Net×Int->Net×Unit:=λ(a,k)=>gG (zw af) (Ue af a k) (Ty.aS [jH],Ty.aS [])
def L1:Net×Int->Bool:=λ(a,k)=>(decide (k=0)&&gu (zw af) (Ue af a k))&&decide (VF.lens [eG] (K9 (a,k)).1=VF.lens [eG] ((a,k):Net×Int).1)
def akP:bV:=⟨[eG], [yI], [],L1,K9,false,false⟩
theorem akK:bV.bE prog 214 akP:=qb ap dE sl 57 [⟨266,5, [[0,1,5,6], [2,14,19,20,65537,65551]]⟩,⟨311,2, [[0,1,7,8], [0,1], [2,14,19,20,65537,65551]]⟩,⟨214,2000000, []⟩] [] [some 0] (λA (a,k)=>Ue A a k) zw adS ⟨(fc func214 (fc func266 (fc func267 (fc func311 fz)))),sz,oz,iz,(mc D2 mz),pz⟩ (λA y=>match y with |.c0 p a1 a2=>⟨81,sl,by kernel_rfl⟩|.c1 b0 b1 b2=>⟨80,sl,by kernel_rfl⟩) (λ((a,k):Net×Int) b c h=>fT ((fv _ _).mp ((fv _ _).mp b).1).2) (v:=(λ_ (y:Int) h=>⟨@of_decide_eq_true (y=0) _ ((fv _ _).mp ((fv _ _).mp h).1).1,trivial⟩)) (z:=λ_ _ h=>Ci h)
structure RN where
 (a0:Int)
inductive RX where
 | c0 (p:RN) (a1:Int) (a2:Net)
 | c1 (b0:Int) (b1:Int) (b2:Net)
noncomputable def adT:RX->iB
 | .c0 p a1 a2=>⟨[⟨311,19,(en [(0,.own 2),(1,.fn 267 [] [.ptr 3 0]),(7,vi p.a0),(8,vi a1)]),sk f311 [1,0,1,0,0],[],none⟩,⟨266,42,(en [(0,.own 2),(1,.fn 267 [] [.ptr 3 0])]),(.ops (ow f266 [1,0]) ((ow f266 [1,0]).toList.drop 2)::sk f266 [1,0]),[],none⟩,⟨214,22,(en [(1,.int .i64 true 1),(2,.ptr 3 0),(14,.ptr 0 0),(15,.int .i64 true 1),(19,.ptr 0 0),(20,.ptr 0 21)]),[.rS (ow f214 [1,1,1,0]) [0,0,0,0,12,1,33,127,255] 4 [7,8] [6,5,1,0]],[],none⟩],[wE a2 4 1 5 2 6 7,wA a2,bxB a2,.ay false [.ptr 0 0],wC a2 8,wv a2,wD a2,wB a2,wy a2,.a_]⟩
 | .c1 b0 b1 b2=>⟨[⟨266,42,(en [(0,.own 2),(1,.fn 267 [] [.ptr 3 0]),(5,vi b0),(6,vi b1)]),sk f266 [1,1,1,0,1,0,0],[],none⟩,⟨214,22,(en [(1,.int .i64 true 1),(2,.ptr 3 0),(14,.ptr 0 0),(15,.int .i64 true 1),(19,.ptr 0 0),(20,.ptr 0 21)]),[.rS (ow f214 [1,1,1,0]) [0,0,0,0,12,1,33,127,255] 4 [7,8] [6,5,1,0]],[],none⟩],[wE b2 4 1 5 2 6 7,wA b2,bxB b2,.ay false [.ptr 0 0],wC b2 8,wv b2,wD b2,wB b2,wy b2,.a_]⟩
def nI(a:Net):List dF:=a.2.2.2.2.2.2.2.2.1
def Uf(A:aU)(a:Net)(k:Int):LT (Net×Unit) RX:=.br (A.ji (A.l a.2.2.2.2.2.2.2.2.1) 64) (.ao (.c0 ⟨(A.l a.2.2.2.2.2.2.2.2.1)⟩ 0 a)) (.ret (a,()))
def zx(A:aU):RX->LT (Net×Unit) RX
 | .c0 p a1 a2=>.br (A.bG a1 p.a0) (.iZ A a1 a2.2.2.2.2.2.2.2.2.1 (.ar (A.k nc (a2.2.2.2.2.2.1,())) (.br (A.bG (A.n eU a2.2.2.2.2.2.2.2.2.1 a1:dF).2.1.2 (A.lI (A.k dX (a2.2.2.2.2.2.1,())).2 (A.b .mul .i64 3 a2.2.1.2.1))) (.br (A.bK a1 (-1)) (.ret ((r9 a2 (A.k dX (a2.2.2.2.2.2.1,())).1),())) (.ao (.c1 a1 (A.c_ a1 1) (r9 a2 (A.k dX (a2.2.2.2.2.2.1,())).1)))) (.ao (.c0 p (A.c_ a1 1) (r9 a2 (A.k dX (a2.2.2.2.2.2.1,())).1)))))) (.ret (a2,()))
 | .c1 b0 b1 b2=>.br (A.bG b1 (A.l (nI b2))) (.iZ A b1 (nI b2) (.ar (A.k nc (b2.2.2.2.2.2.1,())) (.br (A.not (A.bG (A.n eU (nI b2) b1:dF).2.1.2 (A.lI (A.k dX (b2.2.2.2.2.2.1,())).2 (A.b .mul .i64 3 b2.2.1.2.1)))) (.iZ A b0 (nI b2) (.ao (.c1 (A.c_ b0 1) (A.c_ b1 1) (Ay (r9 b2 (A.k dX (b2.2.2.2.2.2.1,())).1) (A.set (nI b2) b0 (A.n eU (nI b2) b1:dF)))))) (.ao (.c1 b0 (A.c_ b1 1) (r9 b2 (A.k dX (b2.2.2.2.2.2.1,())).1)))))) (.ar (A.and (A.bU 0 b0) (A.and (A.bU b0 (A.l (nI b2))) (A.bU (A.l (nI b2)) (A.l (nI b2))))) (.ar (A.and (A.bU 0 0) (A.and (A.bU 0 b0) (A.bU b0 (A.l (A.spl (nI b2) b0 (A.r (A.lI (A.l (nI b2)) b0) (Ty.gw eU:dF))))))) (.ret ((Ay b2 (A.s (A.spl (nI b2) b0 (A.r (A.lI (A.l (nI b2)) b0) (Ty.gw eU:dF))) 0 (A.lI b0 0))),()))))
def K_:Net×Int->Net×Unit:=λ(a,k)=>gG (zx af) (Uf af a k) (Ty.aS [jH],Ty.aS [])
def L3:Net×Int->Bool:=λ(a,k)=>(decide (k=1)&&gu (zx af) (Uf af a k))&&decide (VF.lens [eG] (K_ (a,k)).1=VF.lens [eG] ((a,k):Net×Int).1)
def akQ:bV:=⟨[eG], [yI], [],L3,K_,false,false⟩
theorem akL:bV.bE prog 214 akQ:=qb ap dE sl 57 [⟨266,5, [[0,1,5,6], [2,14,19,20,65537,65551]]⟩,⟨311,2, [[0,1,7,8], [0,1], [2,14,19,20,65537,65551]]⟩,⟨214,2000000, []⟩] [] [some 1] (λA (a,k)=>Uf A a k) zx adT ⟨(fc func214 (fc func266 (fc func267 (fc func311 fz)))),sz,oz,iz,(mc D2 mz),pz⟩ (λA y=>match y with |.c0 p a1 a2=>⟨81,sl,by kernel_rfl⟩|.c1 b0 b1 b2=>⟨80,sl,by kernel_rfl⟩) (λ((a,k):Net×Int) b c h=>fT ((fv _ _).mp ((fv _ _).mp b).1).2) (v:=(λ_ (y:Int) h=>⟨@of_decide_eq_true (y=1) _ ((fv _ _).mp ((fv _ _).mp h).1).1,trivial⟩)) (z:=λ_ _ h=>Ci h)
def rL:Net×Int->Net×Unit:=λx=>bif decide (x.2=0) then K9 x else K_ x
def rH:Net×Int->Bool:=λx=>bif decide (x.2=0) then L1 x else L3 x
def apy:bV:=⟨[eG], [yI], [],rH,rL,false,false⟩
theorem agO:bV.bE prog 214 apy:=(akK.either akL)
structure Cm where
 (a0:Int) (a2:Net) (a3 a4 a5:Int) (a6:List Int) (a7:Int) (a8:Bool) (a9 iN:fq) (Dw:Int)
structure E9 where
 (b0:Int) (b2:Bool) (b3:Net) (b4 b5 b6:Int) (b7:List Int) (b8:Int) (b9:Bool) (b10 b11:fq) (Jy:Int) (Em:dF)
structure E_ where
 (c0:Int) (c1:Bool) (c2:Net) (c3 c4 c5:Int) (c6:List Int) (c7:Int) (c8:Bool) (c9 c10:fq) (c11 c12 c13:Int)
structure wW where
 (d0:Int) (d1 d2:Bool) (d3:Net) (d4 d5 d6:Int) (d7:List Int) (d8:Int) (d9:Bool) (XC d11:fq) (d12 Px d14:Int) (AQ:dF)
inductive adx where
 | c0 (p:Cm)
 | c1 (p:E9)
 | c2 (p:E_)
 | c3 (p:wW)
noncomputable def ajt:adx->iB
 | .c0 p=>⟨[⟨157,80,(en [(0,.ptr 0 0),(1,vi p.a0),(3,.fn 158 [] [.ptr 2 0,.ptr 3 0,.ptr 4 0,.ptr 5 0,.ptr 6 0,.ptr 7 0,.ptr 8 0]),(6,.ptr 9 0),(8,.ptr 10 0),(9,vb false),(15,.int .i64 true 0)]),(.code (cw f157 [1,1,1,0,1,0,0,1,1,0,0,0])::sk f157 [1,1,1,0,1,0,0,1,1,0,0,0]),[],none⟩,⟨103,91,.leaf,[.ops (ow f103 [1,1,1,1,1,1,1,1,1]) ((ow f103 [1,1,1,1,1,1,1,1,1]).toList.drop 4)],[],none⟩],[wE p.a2 11 1 12 13 14 15,wA p.a2,.ay false [vi p.a3],.ay false [vi p.a4],.ay false [vi p.a5,.sl yU p.a6],.ay false [vi p.a7],.ay false [vb p.a8],.ay false [.ptr 0 0],.ay false (dc ia p.a9),.ay false (dc ia p.iN),.ay false [vi 0,vi 0,vi p.Dw],wC p.a2 16,wv p.a2,bxB p.a2,wD p.a2,wB p.a2,wy p.a2,.a_]⟩
 | .c1 p=>⟨[⟨157,80,(en [(0,.ptr 0 0),(1,vi p.b0),(3,.fn 158 [] [.ptr 2 0,.ptr 3 0,.ptr 4 0,.ptr 5 0,.ptr 6 0,.ptr 7 0,.ptr 8 0]),(6,.ptr 9 0),(8,.ptr 10 0),(9,vb false),(10,.int .i64 true 0),(11,.ptr 11 0),(12,vb p.b2),(15,.int .i64 true 0)]),(.code (cw f157 [1,1,1,0,1,0,0,1,1,0,0,1,1,0,0])::sk f157 [1,1,1,0,1,0,0,1,1,0,0,1,1,0,0]),[],none⟩,⟨103,91,.leaf,[.ops (ow f103 [1,1,1,1,1,1,1,1,1]) ((ow f103 [1,1,1,1,1,1,1,1,1]).toList.drop 4)],[],none⟩],[wE p.b3 12 1 13 14 15 16,wA p.b3,.ay false [vi p.b4],.ay false [vi p.b5],.ay false [vi p.b6,.sl yU p.b7],.ay false [vi p.b8],.ay false [vb p.b9],.ay false [.ptr 0 0],.ay false (dc ia p.b10),.ay false (dc ia p.b11),.ay false [vi 0,vi 0,vi p.Jy],.ay false (dc eU p.Em),wC p.b3 17,wv p.b3,bxB p.b3,wD p.b3,wB p.b3,wy p.b3,.a_]⟩
 | .c2 p=>⟨[⟨157,80,(en [(0,.ptr 0 0),(1,vi p.c0),(3,.fn 158 [] [.ptr 2 0,.ptr 3 0,.ptr 4 0,.ptr 5 0,.ptr 6 0,.ptr 7 0,.ptr 8 0]),(6,.ptr 9 0),(8,.ptr 10 0),(9,vb p.c1),(15,.int .i64 true 1)]),(.code (cw f157 [1,1,1,0,1,0,0,1,1,0,0,0])::sk f157 [1,1,1,0,1,0,0,1,1,0,0,0]),[],none⟩,⟨103,91,.leaf,[.ops (ow f103 [1,1,1,1,1,1,1,1,1]) ((ow f103 [1,1,1,1,1,1,1,1,1]).toList.drop 4)],[],none⟩],[wE p.c2 11 1 12 13 14 15,wA p.c2,.ay false [vi p.c3],.ay false [vi p.c4],.ay false [vi p.c5,.sl yU p.c6],.ay false [vi p.c7],.ay false [vb p.c8],.ay false [.ptr 0 0],.ay false (dc ia p.c9),.ay false (dc ia p.c10),.ay false [vi p.c11,vi p.c12,vi p.c13],wC p.c2 16,wv p.c2,bxB p.c2,wD p.c2,wB p.c2,wy p.c2,.a_]⟩
 | .c3 p=>⟨[⟨157,80,(en [(0,.ptr 0 0),(1,vi p.d0),(3,.fn 158 [] [.ptr 2 0,.ptr 3 0,.ptr 4 0,.ptr 5 0,.ptr 6 0,.ptr 7 0,.ptr 8 0]),(6,.ptr 9 0),(8,.ptr 10 0),(9,vb p.d1),(10,.int .i64 true 1),(11,.ptr 11 0),(12,vb p.d2),(15,.int .i64 true 1)]),(.code (cw f157 [1,1,1,0,1,0,0,1,1,0,0,1,1,0,0])::sk f157 [1,1,1,0,1,0,0,1,1,0,0,1,1,0,0]),[],none⟩,⟨103,91,.leaf,[.ops (ow f103 [1,1,1,1,1,1,1,1,1]) ((ow f103 [1,1,1,1,1,1,1,1,1]).toList.drop 4)],[],none⟩],[wE p.d3 12 1 13 14 15 16,wA p.d3,.ay false [vi p.d4],.ay false [vi p.d5],.ay false [vi p.d6,.sl yU p.d7],.ay false [vi p.d8],.ay false [vb p.d9],.ay false [.ptr 0 0],.ay false (dc ia p.XC),.ay false (dc ia p.d11),.ay false [vi p.d12,vi p.Px,vi p.d14],.ay false (dc eU p.AQ),wC p.d3 17,wv p.d3,bxB p.d3,wD p.d3,wB p.d3,wy p.d3,.a_]⟩
def rJ(A:aU)(a:Net)(i:Int):Span:=(A.k u_ (a.2.1,(A.n bP a.2.2.2.2.2.2.1 i:cr).2.1))
def Ro(A:aU)(p:Cm):Net×Int×fq×Int×Span×Int×Int×List Int:=(p.a2,p.a0,p.iN,p.a3,(p.a4,(A.c_ p.a4 (A.k lX p.a5))),p.a7,0,([]:List Int))
def ML(A:aU)(p:Cm):Net×Int×fq×Int×Span×Int×Int×List Int:=(p.a2,p.a0,p.iN,p.a3,(p.a4,(A.c_ p.a4 (A.k lX p.a5))),p.a7,p.a5,p.a6)
def Dk(A:aU)(p:Cm):Net×(dF×Bool):=(A.k gN (Ro A p))
def acB(A:aU)(p:E9):Span:=((A.c_ p.Em.2.1.1 p.b3.2.1.2.2.2.2.2.1),(A.c_ p.Em.2.1.2 p.b3.2.1.2.2.2.2.2.1))
def Rq(A:aU)(p:E9):List dF:=(A.p p.b3.2.2.2.2.2.2.2.1 ([(y9 p.Em (acB A p))]:List dF))
def Rs(A:aU)(p:E_):Net×Int×fq×Int×Span×Int×Int×List Int:=(p.c2,p.c0,p.c10,p.c3,(p.c4,(A.c_ p.c4 (A.k lX p.c5))),p.c7,0,([]:List Int))
def MM(A:aU)(p:E_):Net×Int×fq×Int×Span×Int×Int×List Int:=(p.c2,p.c0,p.c10,p.c3,(p.c4,(A.c_ p.c4 (A.k lX p.c5))),p.c7,p.c5,p.c6)
def Dl(A:aU)(p:E_):Net×(dF×Bool):=(A.k gN (Rs A p))
def Dm(A:aU)(p:wW):Span:=((A.c_ p.AQ.2.1.1 p.d3.2.1.2.2.2.2.2.1),(A.c_ p.AQ.2.1.2 p.d3.2.1.2.2.2.2.2.1))
def EU(A:aU)(p:wW):Net:=(A.k rL ((Ay p.d3 (A.p p.d3.2.2.2.2.2.2.2.2.1 ([(y9 p.AQ (Dm A p))]:List dF))),1)).1
def EV(A:aU)(p:wW):List sr:=(A.p (EU A p).2.2.2.2.2.2.2.2.2.1 ([((Dm A p),p.d14)]:List sr))
def B5(A:aU)(p:wW):List sr:=(A.p p.d3.2.2.2.2.2.2.2.2.2.1 ([((p.d12,p.Px),p.d14)]:List sr))
def MK(A:aU)(p:wW):Net×Int×Int×Int×Int:=((Um (EU A p) (EV A p)),(A.c_ p.AQ.2.1.2 p.d3.2.1.2.2.2.2.2.1),3,0,(A.lI (A.l (EV A p)) 1))
def afO(A:aU)(a:Net)(i:Int)(f:sj)(c:fq):LT (Net×Unit) adx:=.ar (A.k jR ((kv a ()),3,i,c)) (.br (A.k eH ((kv a ()),3,i,c)).2 (.ret (a,())) (.iZ A i a.2.2.2.2.2.2.1 (.br (A.cu (A.k zV f).2 0) (.ret (a,())) (.br (A.cu (rJ A a i).2 0) (.ret (a,())) (.ar (A.k jR ((kv a ()),7,i,c)) (.br (A.k eH ((kv a ()),7,i,c)).2 (.ar (A.k jR ((kv a ()),8,i,c)) (.br (A.k eH ((kv a ()),8,i,c)).2 (.ar (A.k jR ((kv a ()),4,i,c)) (.ao (.c0 ⟨i,a,i,(A.mx (A.c_ (rJ A a i).1 (A.k eH ((kv a ()),8,i,c)).1.2.2.2.2.2.1) 0),(A.k zV f).1.1,(A.k zV f).1.2,(A.k eH ((kv a ()),7,i,c)).1.2.2.2.2.2.1,(A.k eH ((kv a ()),4,i,c)).2,c,c,i⟩))) (.ar (A.k jR ((kv a ()),4,i,c)) (.ao (.c0 ⟨i,a,i,(rJ A a i).1,(A.k zV f).1.1,(A.k zV f).1.2,(A.k eH ((kv a ()),7,i,c)).1.2.2.2.2.2.1,(A.k eH ((kv a ()),4,i,c)).2,c,c,i⟩))))) (.ar (A.k jR ((kv a ()),8,i,c)) (.br (A.k eH ((kv a ()),8,i,c)).2 (.ar (A.k jR ((kv a ()),4,i,c)) (.ao (.c0 ⟨i,a,i,(A.mx (A.c_ (rJ A a i).1 (A.k eH ((kv a ()),8,i,c)).1.2.2.2.2.2.1) 0),(A.k zV f).1.1,(A.k zV f).1.2,100,(A.k eH ((kv a ()),4,i,c)).2,c,c,i⟩))) (.ar (A.k jR ((kv a ()),4,i,c)) (.ao (.c0 ⟨i,a,i,(rJ A a i).1,(A.k zV f).1.1,(A.k zV f).1.2,100,(A.k eH ((kv a ()),4,i,c)).2,c,c,i⟩)))))))))))
def xS(A:aU):adx->LT (Net×Unit) adx
 | .c0 p=>.br p.a8 (.ar (A.k oQ (Ro A p)) (.oo A p.a2.2.2.2.2.2.2.1 (.ao (.c1 ⟨p.a0,(Dk A p).2.2,(Dk A p).1,p.a3,p.a4,p.a5,p.a6,p.a7,p.a8,p.a9,p.iN,p.Dw,(Dk A p).2.1⟩)))) (.ar (A.k LY ((kv p.a2 ()),0,p.a9)) (.br (A.k YG ((kv p.a2 ()),0,p.a9)) (.ar (A.k oQ (Ro A p)) (.oo A p.a2.2.2.2.2.2.2.1 (.ao (.c1 ⟨p.a0,(Dk A p).2.2,(Dk A p).1,p.a3,p.a4,p.a5,p.a6,p.a7,p.a8,p.a9,p.iN,p.Dw,(Dk A p).2.1⟩)))) (.ar (A.k oQ (ML A p)) (.oo A p.a2.2.2.2.2.2.2.1 (.ao (.c1 ⟨p.a0,(A.k gN (ML A p)).2.2,(A.k gN (ML A p)).1,p.a3,p.a4,p.a5,p.a6,p.a7,p.a8,p.a9,p.iN,p.Dw,(A.k gN (ML A p)).2.1⟩))))))
 | .c1 p=>.br (A.not p.b2) (.ao (.c2 ⟨p.b0,false,p.b3,p.b4,p.b5,p.b6,p.b7,p.b8,p.b9,p.b10,p.b11,0,0,p.Jy⟩)) (.ar (A.bU (A.l (Rq A p)) 2199023255552) (.ar (A.k rH ((ED p.b3 (Rq A p)),0)) (.oo A p.b3.2.2.2.2.2.2.1 (.ao (.c2 ⟨p.b0,true,(A.k rL ((ED p.b3 (Rq A p)),0)).1,p.b4,p.b5,p.b6,p.b7,p.b8,p.b9,p.b10,p.b11,(A.c_ p.Em.2.1.1 p.b3.2.1.2.2.2.2.2.1),(A.c_ p.Em.2.1.2 p.b3.2.1.2.2.2.2.2.1),p.Jy⟩)))))
 | .c2 p=>.br p.c8 (.ar (A.k oQ (Rs A p)) (.oo A p.c2.2.2.2.2.2.2.1 (.ao (.c3 ⟨p.c0,p.c1,(Dl A p).2.2,(Dl A p).1,p.c3,p.c4,p.c5,p.c6,p.c7,p.c8,p.c9,p.c10,p.c11,p.c12,p.c13,(Dl A p).2.1⟩)))) (.ar (A.k LY ((kv p.c2 ()),1,p.c9)) (.br (A.k YG ((kv p.c2 ()),1,p.c9)) (.ar (A.k oQ (Rs A p)) (.oo A p.c2.2.2.2.2.2.2.1 (.ao (.c3 ⟨p.c0,p.c1,(Dl A p).2.2,(Dl A p).1,p.c3,p.c4,p.c5,p.c6,p.c7,p.c8,p.c9,p.c10,p.c11,p.c12,p.c13,(Dl A p).2.1⟩)))) (.ar (A.k oQ (MM A p)) (.oo A p.c2.2.2.2.2.2.2.1 (.ao (.c3 ⟨p.c0,p.c1,(A.k gN (MM A p)).2.2,(A.k gN (MM A p)).1,p.c3,p.c4,p.c5,p.c6,p.c7,p.c8,p.c9,p.c10,p.c11,p.c12,p.c13,(A.k gN (MM A p)).2.1⟩))))))
 | .c3 p=>.br (A.not p.d2) (.br p.d1 (.ar (A.bU (A.l (B5 A p)) 5864062014805) (.ar (A.k qG ((Um p.d3 (B5 A p)),p.Px,3,0,(A.lI (A.l (B5 A p)) 1))) (.oo A p.d3.2.2.2.2.2.2.1 (.ret ((A.k t_ ((Um p.d3 (B5 A p)),p.Px,3,0,(A.lI (A.l (B5 A p)) 1))).1,()))))) (.ret (p.d3,()))) (.ar (A.bU (A.l (A.p p.d3.2.2.2.2.2.2.2.2.1 ([(y9 p.AQ (Dm A p))]:List dF))) 2199023255552) (.ar (A.k rH ((Ay p.d3 (A.p p.d3.2.2.2.2.2.2.2.2.1 ([(y9 p.AQ (Dm A p))]:List dF))),1)) (.oo A p.d3.2.2.2.2.2.2.1 (.ar (A.bU (A.l (EV A p)) 5864062014805) (.ar (A.k qG (MK A p)) (.oo A (EU A p).2.2.2.2.2.2.1 (.ret ((A.k t_ (MK A p)).1,()))))))))
def zo:Net×(Int×sj×fq)->Net×Unit:=λ(a,(i,f,c))=>gG (xS af) (afO af a i f c) (Ty.aS [jH],Ty.aS [])
def GH:Net×(Int×sj×fq)->Bool:=λ(a,(i,f,c))=>gu (xS af) (afO af a i f c)&&decide (VF.lens [eG] (zo (a,(i,f,c))).1=VF.lens [eG] ((a,(i,f,c)):Net×(Int×sj×fq)).1)
def apo:bV:=⟨[eG], [yI,Ia,ia], [],GH,zo,false,false⟩
theorem agL:bV.bE prog 103 apo:=bI ap dE (.kN [0,0,0,1]) 187 [] [⟨157,5, [[0,1,3,6,8,9,65551], []]⟩,⟨157,7, [[0,1,3,6,8,9,11,12,65546,65551], []]⟩] (λA (a,(i,f,c))=>afO A a i f c) xS ajt ⟨(fc func103 (fc func157 (fc func158 (fc func213 fz)))),(sc aq8 (sc TX (sc ahm sz))),oz,iz,(mc ZA (mc agN (mc agO mz))),(pc Oh (pc apT pz))⟩ (λA y=>match y with |.c0 p=>⟨85,sl,by kernel_rfl⟩|.c1 p=>⟨102,sl,by kernel_rfl⟩|.c2 p=>⟨85,sl,by kernel_rfl⟩|.c3 p=>⟨133,sl,by kernel_rfl⟩) (λ((a,(i,f,c)):Net×(Int×sj×fq)) b e h=>Ch b) (z:=λ_ _ h=>Ci h)
structure Pg where
 (a0 a2:Int) (a3:Net) (a4 a5:Int) (a6:fS) (a7:fq) (iN:Int) (kV:fq)
structure Ku where
 (b0 b2:Int) (b3:Net) (b4 b5 b6:Int) (b7:List Int) (b8:fq) (b11:Int) (b12:fq)
structure Kv where
 (c0:Int) (c2:Bool) (c3:Int) (c4:Net) (c5 c6:Int) (c7:fS) (c8:fq) (c11:Int) (c12:dF) (c13:fq)
structure Kw where
 (d0:Int) (d2:Bool) (d3:Int) (d4:Net) (d5 d6 d7:Int) (d8:List Int) (d9:fq) (d12:Int) (Px:dF) (d14:fq)
structure Ph where
 (e0:Int) (e1:Bool) (e2:Int) (e3:Net) (e4 e5:Int) (e6:fS) (e7:fq) (e8 e9 e10:Int) (e11:fq)
structure Pj where
 (f0:Int) (f1:Bool) (f2:Int) (f3:Net) (f4 f5 f6:Int) (f7:List Int) (f8:fq) (f9 f10 f11:Int) (f12:fq)
structure qx where
 (g0:Int) (g1 g2:Bool) (g3:Int) (g4:Net) (g5 g6:Int) (g7:fS) (g8:fq) (g9 g10 g11:Int) (g12:dF) (g13:fq)
structure zJ where
 (h0:Int) (h1 h2:Bool) (h3:Int) (h4:Net) (h5 h6 h7:Int) (h8:List Int) (h9:fq) (h10 h11 h12:Int) (P9:dF) (h14:fq)
inductive adz where
 | c0 (p:Pg)
 | c1 (p:Ku)
 | c2 (p:Kv)
 | c3 (p:Kw)
 | c4 (p:Ph)
 | c5 (p:Pj)
 | c6 (p:qx)
 | c7 (p:zJ)
noncomputable def ajv:adz->iB
 | .c0 p=>⟨[⟨157,80,(en [(0,.ptr 0 0),(1,vi p.a0),(3,.fn 169 [] [.ptr 2 0,.ptr 3 0,.ptr 4 0]),(6,.ptr 5 0),(8,.ptr 6 0),(9,vb false),(15,.int .i64 true 0)]),(.code (cw f157 [1,1,1,0,1,0,0,1,1,0,0,0])::sk f157 [1,1,1,0,1,0,0,1,1,0,0,0]),[],none⟩,⟨109,84,(en [(0,.ptr 0 0),(4,.ptr 2 0),(5,.ptr 7 0),(6,.kX 1 p.a2 0)]),(.ops (ow f109 [1,1,0,1,1,0,1]) ((ow f109 [1,1,0,1,1,0,1]).toList.drop 4)::sk f109 [1,1,0,1,1,0,1]),[],none⟩],[wE p.a3 8 1 9 10 11 12,wA p.a3,.ay false [vi p.a4],.ay false [vi p.a5],.ay false (dc eZ p.a6),.ay false (dc ia p.a7),.ay false [vi 0,vi 0,vi p.iN],.ay false (dc ia p.kV),wC p.a3 13,wv p.a3,bxB p.a3,wD p.a3,wB p.a3,wy p.a3,.a_]⟩
 | .c1 p=>⟨[⟨157,80,(en [(0,.ptr 0 0),(1,vi p.b0),(3,.fn 170 [] [.ptr 2 0,.ptr 3 0,.ptr 4 0]),(6,.ptr 5 0),(8,.ptr 6 0),(9,vb false),(15,.int .i64 true 0)]),(.code (cw f157 [1,1,1,0,1,0,0,1,1,0,0,0])::sk f157 [1,1,1,0,1,0,0,1,1,0,0,0]),[],none⟩,⟨109,84,(en [(0,.ptr 0 0),(4,.ptr 2 0),(5,.ptr 7 0),(6,.kX 1 p.b2 0)]),[.ops (ow f109 [1,1,1,1,1,1,1]) ((ow f109 [1,1,1,1,1,1,1]).toList.drop 4)],[],none⟩],[wE p.b3 8 1 9 10 11 12,wA p.b3,.ay false [vi p.b4],.ay false [vi p.b5],.ay false [vi p.b6,.sl yU p.b7],.ay false (dc ia p.b8),.ay false [vi 0,vi 0,vi p.b11],.ay false (dc ia p.b12),wC p.b3 13,wv p.b3,bxB p.b3,wD p.b3,wB p.b3,wy p.b3,.a_]⟩
 | .c2 p=>⟨[⟨157,80,(en [(0,.ptr 0 0),(1,vi p.c0),(3,.fn 169 [] [.ptr 2 0,.ptr 3 0,.ptr 4 0]),(6,.ptr 5 0),(8,.ptr 6 0),(9,vb false),(10,.int .i64 true 0),(11,.ptr 7 0),(12,vb p.c2),(15,.int .i64 true 0)]),(.code (cw f157 [1,1,1,0,1,0,0,1,1,0,0,1,1,0,0])::sk f157 [1,1,1,0,1,0,0,1,1,0,0,1,1,0,0]),[],none⟩,⟨109,84,(en [(0,.ptr 0 0),(4,.ptr 2 0),(5,.ptr 8 0),(6,.kX 1 p.c3 0)]),(.ops (ow f109 [1,1,0,1,1,0,1]) ((ow f109 [1,1,0,1,1,0,1]).toList.drop 4)::sk f109 [1,1,0,1,1,0,1]),[],none⟩],[wE p.c4 9 1 10 11 12 13,wA p.c4,.ay false [vi p.c5],.ay false [vi p.c6],.ay false (dc eZ p.c7),.ay false (dc ia p.c8),.ay false [vi 0,vi 0,vi p.c11],.ay false (dc eU p.c12),.ay false (dc ia p.c13),wC p.c4 14,wv p.c4,bxB p.c4,wD p.c4,wB p.c4,wy p.c4,.a_]⟩
 | .c3 p=>⟨[⟨157,80,(en [(0,.ptr 0 0),(1,vi p.d0),(3,.fn 170 [] [.ptr 2 0,.ptr 3 0,.ptr 4 0]),(6,.ptr 5 0),(8,.ptr 6 0),(9,vb false),(10,.int .i64 true 0),(11,.ptr 7 0),(12,vb p.d2),(15,.int .i64 true 0)]),(.code (cw f157 [1,1,1,0,1,0,0,1,1,0,0,1,1,0,0])::sk f157 [1,1,1,0,1,0,0,1,1,0,0,1,1,0,0]),[],none⟩,⟨109,84,(en [(0,.ptr 0 0),(4,.ptr 2 0),(5,.ptr 8 0),(6,.kX 1 p.d3 0)]),[.ops (ow f109 [1,1,1,1,1,1,1]) ((ow f109 [1,1,1,1,1,1,1]).toList.drop 4)],[],none⟩],[wE p.d4 9 1 10 11 12 13,wA p.d4,.ay false [vi p.d5],.ay false [vi p.d6],.ay false [vi p.d7,.sl yU p.d8],.ay false (dc ia p.d9),.ay false [vi 0,vi 0,vi p.d12],.ay false (dc eU p.Px),.ay false (dc ia p.d14),wC p.d4 14,wv p.d4,bxB p.d4,wD p.d4,wB p.d4,wy p.d4,.a_]⟩
 | .c4 p=>⟨[⟨157,80,(en [(0,.ptr 0 0),(1,vi p.e0),(3,.fn 169 [] [.ptr 2 0,.ptr 3 0,.ptr 4 0]),(6,.ptr 5 0),(8,.ptr 6 0),(9,vb p.e1),(15,.int .i64 true 1)]),(.code (cw f157 [1,1,1,0,1,0,0,1,1,0,0,0])::sk f157 [1,1,1,0,1,0,0,1,1,0,0,0]),[],none⟩,⟨109,84,(en [(0,.ptr 0 0),(4,.ptr 2 0),(5,.ptr 7 0),(6,.kX 1 p.e2 0)]),(.ops (ow f109 [1,1,0,1,1,0,1]) ((ow f109 [1,1,0,1,1,0,1]).toList.drop 4)::sk f109 [1,1,0,1,1,0,1]),[],none⟩],[wE p.e3 8 1 9 10 11 12,wA p.e3,.ay false [vi p.e4],.ay false [vi p.e5],.ay false (dc eZ p.e6),.ay false (dc ia p.e7),.ay false [vi p.e8,vi p.e9,vi p.e10],.ay false (dc ia p.e11),wC p.e3 13,wv p.e3,bxB p.e3,wD p.e3,wB p.e3,wy p.e3,.a_]⟩
 | .c5 p=>⟨[⟨157,80,(en [(0,.ptr 0 0),(1,vi p.f0),(3,.fn 170 [] [.ptr 2 0,.ptr 3 0,.ptr 4 0]),(6,.ptr 5 0),(8,.ptr 6 0),(9,vb p.f1),(15,.int .i64 true 1)]),(.code (cw f157 [1,1,1,0,1,0,0,1,1,0,0,0])::sk f157 [1,1,1,0,1,0,0,1,1,0,0,0]),[],none⟩,⟨109,84,(en [(0,.ptr 0 0),(4,.ptr 2 0),(5,.ptr 7 0),(6,.kX 1 p.f2 0)]),[.ops (ow f109 [1,1,1,1,1,1,1]) ((ow f109 [1,1,1,1,1,1,1]).toList.drop 4)],[],none⟩],[wE p.f3 8 1 9 10 11 12,wA p.f3,.ay false [vi p.f4],.ay false [vi p.f5],.ay false [vi p.f6,.sl yU p.f7],.ay false (dc ia p.f8),.ay false [vi p.f9,vi p.f10,vi p.f11],.ay false (dc ia p.f12),wC p.f3 13,wv p.f3,bxB p.f3,wD p.f3,wB p.f3,wy p.f3,.a_]⟩
 | .c6 p=>⟨[⟨157,80,(en [(0,.ptr 0 0),(1,vi p.g0),(3,.fn 169 [] [.ptr 2 0,.ptr 3 0,.ptr 4 0]),(6,.ptr 5 0),(8,.ptr 6 0),(9,vb p.g1),(10,.int .i64 true 1),(11,.ptr 7 0),(12,vb p.g2),(15,.int .i64 true 1)]),(.code (cw f157 [1,1,1,0,1,0,0,1,1,0,0,1,1,0,0])::sk f157 [1,1,1,0,1,0,0,1,1,0,0,1,1,0,0]),[],none⟩,⟨109,84,(en [(0,.ptr 0 0),(4,.ptr 2 0),(5,.ptr 8 0),(6,.kX 1 p.g3 0)]),(.ops (ow f109 [1,1,0,1,1,0,1]) ((ow f109 [1,1,0,1,1,0,1]).toList.drop 4)::sk f109 [1,1,0,1,1,0,1]),[],none⟩],[wE p.g4 9 1 10 11 12 13,wA p.g4,.ay false [vi p.g5],.ay false [vi p.g6],.ay false (dc eZ p.g7),.ay false (dc ia p.g8),.ay false [vi p.g9,vi p.g10,vi p.g11],.ay false (dc eU p.g12),.ay false (dc ia p.g13),wC p.g4 14,wv p.g4,bxB p.g4,wD p.g4,wB p.g4,wy p.g4,.a_]⟩
 | .c7 p=>⟨[⟨157,80,(en [(0,.ptr 0 0),(1,vi p.h0),(3,.fn 170 [] [.ptr 2 0,.ptr 3 0,.ptr 4 0]),(6,.ptr 5 0),(8,.ptr 6 0),(9,vb p.h1),(10,.int .i64 true 1),(11,.ptr 7 0),(12,vb p.h2),(15,.int .i64 true 1)]),(.code (cw f157 [1,1,1,0,1,0,0,1,1,0,0,1,1,0,0])::sk f157 [1,1,1,0,1,0,0,1,1,0,0,1,1,0,0]),[],none⟩,⟨109,84,(en [(0,.ptr 0 0),(4,.ptr 2 0),(5,.ptr 8 0),(6,.kX 1 p.h3 0)]),[.ops (ow f109 [1,1,1,1,1,1,1]) ((ow f109 [1,1,1,1,1,1,1]).toList.drop 4)],[],none⟩],[wE p.h4 9 1 10 11 12 13,wA p.h4,.ay false [vi p.h5],.ay false [vi p.h6],.ay false [vi p.h7,.sl yU p.h8],.ay false (dc ia p.h9),.ay false [vi p.h10,vi p.h11,vi p.h12],.ay false (dc eU p.P9),.ay false (dc ia p.h14),wC p.h4 14,wv p.h4,bxB p.h4,wD p.h4,wB p.h4,wy p.h4,.a_]⟩
def MO(A:aU)(a:Net)(i:Int)(c:fq):Bits×Int:=(A.k zV (1,0,(0,0,0,0,0),(A.k eH ((kv a ()),10,i,c)).1.2.2.2.2.2.1,([]:List Int)))
def H7(A:aU)(p:Pg):Net×Int×fq×Int×Span×Int×Int×List Int:=(p.a3,p.a0,p.a7,p.a4,(p.a5,(A.c_ p.a5 p.a6.2.2.2.2.2.2)),100,0,([]:List Int))
def MS(A:aU)(p:Ku):Net×Int×fq×Int×Span×Int×Int×List Int:=(p.b3,p.b0,p.b8,p.b4,(p.b5,(A.c_ p.b5 (A.k lX p.b6))),100,p.b6,p.b7)
def acG(A:aU)(p:Kv):Span:=((A.c_ p.c12.2.1.1 p.c4.2.1.2.2.2.2.2.1),(A.c_ p.c12.2.1.2 p.c4.2.1.2.2.2.2.2.1))
def Rt(A:aU)(p:Kv):List dF:=(A.p p.c4.2.2.2.2.2.2.2.1 ([(y9 p.c12 (acG A p))]:List dF))
def acH(A:aU)(p:Kw):Span:=((A.c_ p.Px.2.1.1 p.d4.2.1.2.2.2.2.2.1),(A.c_ p.Px.2.1.2 p.d4.2.1.2.2.2.2.2.1))
def Ru(A:aU)(p:Kw):List dF:=(A.p p.d4.2.2.2.2.2.2.2.1 ([(y9 p.Px (acH A p))]:List dF))
def MV(A:aU)(p:Ph):Net×Int×fq×Int×Span×Int×Int×List Int:=(p.e3,p.e0,p.e7,p.e4,(p.e5,(A.c_ p.e5 p.e6.2.2.2.2.2.2)),100,0,([]:List Int))
def MW(A:aU)(p:Pj):Net×Int×fq×Int×Span×Int×Int×List Int:=(p.f3,p.f0,p.f8,p.f4,(p.f5,(A.c_ p.f5 (A.k lX p.f6))),100,p.f6,p.f7)
def yP(A:aU)(p:qx):Span:=((A.c_ p.g12.2.1.1 p.g4.2.1.2.2.2.2.2.1),(A.c_ p.g12.2.1.2 p.g4.2.1.2.2.2.2.2.1))
def uA(A:aU)(p:qx):List dF:=(A.p p.g4.2.2.2.2.2.2.2.2.1 ([(y9 p.g12 (yP A p))]:List dF))
def Rv(A:aU)(p:qx):Net×Int×Int×Int×Int:=((Um (A.k rL ((Ay p.g4 (uA A p)),1)).1 (A.p (A.k rL ((Ay p.g4 (uA A p)),1)).1.2.2.2.2.2.2.2.2.2.1 ([((yP A p),p.g11)]:List sr))),(A.c_ p.g12.2.1.2 p.g4.2.1.2.2.2.2.2.1),3,0,(A.lI (A.l (A.p (A.k rL ((Ay p.g4 (uA A p)),1)).1.2.2.2.2.2.2.2.2.2.1 ([((yP A p),p.g11)]:List sr))) 1))
def B6(A:aU)(p:qx):List sr:=(A.p p.g4.2.2.2.2.2.2.2.2.2.1 ([((p.g9,p.g10),p.g11)]:List sr))
def r8(A:aU)(p:qx):Net:=(A.k t_ ((Um p.g4 (B6 A p)),p.g10,3,0,(A.lI (A.l (B6 A p)) 1))).1
def qU(A:aU)(p:qx):Net:=(A.k t_ (Rv A p)).1
def EW(A:aU)(p:qx):Bits×Int:=(A.k zV (1,0,(0,0,0,0,0),(A.k eH ((kv (qU A p) ()),10,p.g5,p.g13)).1.2.2.2.2.2.1,([]:List Int)))
def MP(A:aU)(p:qx):Bits×Int:=(A.k zV (1,0,(0,0,0,0,0),(A.k eH ((kv (r8 A p) ()),10,p.g5,p.g13)).1.2.2.2.2.2.1,([]:List Int)))
def MQ(A:aU)(p:qx):Bits×Int:=(A.k zV (1,0,(0,0,0,0,0),(A.k eH ((kv p.g4 ()),10,p.g5,p.g13)).1.2.2.2.2.2.1,([]:List Int)))
def Ul(A:aU)(p:qx):Span:=(A.k u_ ((r8 A p).2.1,(A.n bP (r8 A p).2.2.2.2.2.2.1 p.g3:cr).2.1))
def MR(A:aU)(p:qx):Span:=(A.k u_ ((qU A p).2.1,(A.n bP (qU A p).2.2.2.2.2.2.1 p.g3:cr).2.1))
def yQ(A:aU)(p:zJ):Span:=((A.c_ p.P9.2.1.1 p.h4.2.1.2.2.2.2.2.1),(A.c_ p.P9.2.1.2 p.h4.2.1.2.2.2.2.2.1))
def EX(A:aU)(p:zJ):Net:=(A.k rL ((Ay p.h4 (A.p p.h4.2.2.2.2.2.2.2.2.1 ([(y9 p.P9 (yQ A p))]:List dF))),1)).1
def EY(A:aU)(p:zJ):List sr:=(A.p (EX A p).2.2.2.2.2.2.2.2.2.1 ([((yQ A p),p.h12)]:List sr))
def B7(A:aU)(p:zJ):List sr:=(A.p p.h4.2.2.2.2.2.2.2.2.2.1 ([((p.h10,p.h11),p.h12)]:List sr))
def MU(A:aU)(p:zJ):Net×Int×Int×Int×Int:=((Um (EX A p) (EY A p)),(A.c_ p.P9.2.1.2 p.h4.2.1.2.2.2.2.2.1),3,0,(A.lI (A.l (EY A p)) 1))
def afP(A:aU)(a:Net)(i:Int)(c:fq):LT (Net×Unit) adz:=.iZ A i a.2.2.2.2.2.2.1 (.ar (A.k jR ((kv a ()),9,i,c)) (.br (A.k eH ((kv a ()),9,i,c)).2 (.ao (.c0 ⟨i,i,a,i,(A.c_ (A.n bP a.2.2.2.2.2.2.1 i:cr).2.1.1 (A.k eH ((kv a ()),9,i,c)).1.2.2.2.2.2.1),(A.k eH ((kv a ()),9,i,c)).1,c,i,c⟩)) (.ar (A.k jR ((kv a ()),10,i,c)) (.br (A.not (A.k eH ((kv a ()),10,i,c)).2) (.ret (a,())) (.br (A.cu (A.k u_ (a.2.1,(A.n bP a.2.2.2.2.2.2.1 i:cr).2.1)).2 0) (.ret (a,())) (.br (A.cu (MO A a i c).2 0) (.ret (a,())) (.ao (.c1 ⟨i,i,a,i,(A.k u_ (a.2.1,(A.n bP a.2.2.2.2.2.2.1 i:cr).2.1)).1,(MO A a i c).1.1,(MO A a i c).1.2,c,i,c⟩))))))))
def rI(A:aU):adz->LT (Net×Unit) adz
 | .c0 p=>.ar (A.k oQ (H7 A p)) (.oo A p.a3.2.2.2.2.2.2.1 (.ao (.c2 ⟨p.a0,(A.k gN (H7 A p)).2.2,p.a2,(A.k gN (H7 A p)).1,p.a4,p.a5,p.a6,p.a7,p.iN,(A.k gN (H7 A p)).2.1,p.kV⟩)))
 | .c1 p=>.ar (A.k oQ (MS A p)) (.oo A p.b3.2.2.2.2.2.2.1 (.ao (.c3 ⟨p.b0,(A.k gN (MS A p)).2.2,p.b2,(A.k gN (MS A p)).1,p.b4,p.b5,p.b6,p.b7,p.b8,p.b11,(A.k gN (MS A p)).2.1,p.b12⟩)))
 | .c2 p=>.br (A.not p.c2) (.ao (.c4 ⟨p.c0,false,p.c3,p.c4,p.c5,p.c6,p.c7,p.c8,0,0,p.c11,p.c13⟩)) (.ar (A.bU (A.l (Rt A p)) 2199023255552) (.ar (A.k rH ((ED p.c4 (Rt A p)),0)) (.oo A p.c4.2.2.2.2.2.2.1 (.ao (.c4 ⟨p.c0,true,p.c3,(A.k rL ((ED p.c4 (Rt A p)),0)).1,p.c5,p.c6,p.c7,p.c8,(A.c_ p.c12.2.1.1 p.c4.2.1.2.2.2.2.2.1),(A.c_ p.c12.2.1.2 p.c4.2.1.2.2.2.2.2.1),p.c11,p.c13⟩)))))
 | .c3 p=>.br (A.not p.d2) (.ao (.c5 ⟨p.d0,false,p.d3,p.d4,p.d5,p.d6,p.d7,p.d8,p.d9,0,0,p.d12,p.d14⟩)) (.ar (A.bU (A.l (Ru A p)) 2199023255552) (.ar (A.k rH ((ED p.d4 (Ru A p)),0)) (.oo A p.d4.2.2.2.2.2.2.1 (.ao (.c5 ⟨p.d0,true,p.d3,(A.k rL ((ED p.d4 (Ru A p)),0)).1,p.d5,p.d6,p.d7,p.d8,p.d9,(A.c_ p.Px.2.1.1 p.d4.2.1.2.2.2.2.2.1),(A.c_ p.Px.2.1.2 p.d4.2.1.2.2.2.2.2.1),p.d12,p.d14⟩)))))
 | .c4 p=>.ar (A.k oQ (MV A p)) (.oo A p.e3.2.2.2.2.2.2.1 (.ao (.c6 ⟨p.e0,p.e1,(A.k gN (MV A p)).2.2,p.e2,(A.k gN (MV A p)).1,p.e4,p.e5,p.e6,p.e7,p.e8,p.e9,p.e10,(A.k gN (MV A p)).2.1,p.e11⟩)))
 | .c5 p=>.ar (A.k oQ (MW A p)) (.oo A p.f3.2.2.2.2.2.2.1 (.ao (.c7 ⟨p.f0,p.f1,(A.k gN (MW A p)).2.2,p.f2,(A.k gN (MW A p)).1,p.f4,p.f5,p.f6,p.f7,p.f8,p.f9,p.f10,p.f11,(A.k gN (MW A p)).2.1,p.f12⟩)))
 | .c6 p=>.br (A.not p.g2) (.br p.g1 (.ar (A.bU (A.l (B6 A p)) 5864062014805) (.ar (A.k qG ((Um p.g4 (B6 A p)),p.g10,3,0,(A.lI (A.l (B6 A p)) 1))) (.oo A p.g4.2.2.2.2.2.2.1 (.ar (A.k jR ((kv (r8 A p) ()),10,p.g5,p.g13)) (.br (A.not (A.k eH ((kv (r8 A p) ()),10,p.g5,p.g13)).2) (.ret ((r8 A p),())) (.br (A.cu (Ul A p).2 0) (.ret ((r8 A p),())) (.br (A.cu (MP A p).2 0) (.ret ((r8 A p),())) (.ao (.c1 ⟨p.g5,p.g3,(r8 A p),p.g5,(Ul A p).1,(MP A p).1.1,(MP A p).1.2,p.g13,p.g5,p.g13⟩))))))))) (.ar (A.k jR ((kv p.g4 ()),10,p.g5,p.g13)) (.br (A.not (A.k eH ((kv p.g4 ()),10,p.g5,p.g13)).2) (.ret (p.g4,())) (.br (A.cu (A.k u_ (p.g4.2.1,(A.n bP p.g4.2.2.2.2.2.2.1 p.g3:cr).2.1)).2 0) (.ret (p.g4,())) (.br (A.cu (MQ A p).2 0) (.ret (p.g4,())) (.ao (.c1 ⟨p.g5,p.g3,p.g4,p.g5,(A.k u_ (p.g4.2.1,(A.n bP p.g4.2.2.2.2.2.2.1 p.g3:cr).2.1)).1,(MQ A p).1.1,(MQ A p).1.2,p.g13,p.g5,p.g13⟩))))))) (.ar (A.bU (A.l (uA A p)) 2199023255552) (.ar (A.k rH ((Ay p.g4 (uA A p)),1)) (.oo A p.g4.2.2.2.2.2.2.1 (.ar (A.bU (A.l (A.p (A.k rL ((Ay p.g4 (uA A p)),1)).1.2.2.2.2.2.2.2.2.2.1 ([((yP A p),p.g11)]:List sr))) 5864062014805) (.ar (A.k qG (Rv A p)) (.oo A (A.k rL ((Ay p.g4 (uA A p)),1)).1.2.2.2.2.2.2.1 (.ar (A.k jR ((kv (qU A p) ()),10,p.g5,p.g13)) (.br (A.not (A.k eH ((kv (qU A p) ()),10,p.g5,p.g13)).2) (.ret ((qU A p),())) (.br (A.cu (MR A p).2 0) (.ret ((qU A p),())) (.br (A.cu (EW A p).2 0) (.ret ((qU A p),())) (.ao (.c1 ⟨p.g5,p.g3,(qU A p),p.g5,(MR A p).1,(EW A p).1.1,(EW A p).1.2,p.g13,p.g5,p.g13⟩))))))))))))
 | .c7 p=>.br (A.not p.h2) (.br p.h1 (.ar (A.bU (A.l (B7 A p)) 5864062014805) (.ar (A.k qG ((Um p.h4 (B7 A p)),p.h11,3,0,(A.lI (A.l (B7 A p)) 1))) (.oo A p.h4.2.2.2.2.2.2.1 (.ret ((A.k t_ ((Um p.h4 (B7 A p)),p.h11,3,0,(A.lI (A.l (B7 A p)) 1))).1,()))))) (.ret (p.h4,()))) (.ar (A.bU (A.l (A.p p.h4.2.2.2.2.2.2.2.2.1 ([(y9 p.P9 (yQ A p))]:List dF))) 2199023255552) (.ar (A.k rH ((Ay p.h4 (A.p p.h4.2.2.2.2.2.2.2.2.1 ([(y9 p.P9 (yQ A p))]:List dF))),1)) (.oo A p.h4.2.2.2.2.2.2.1 (.ar (A.bU (A.l (EY A p)) 5864062014805) (.ar (A.k qG (MU A p)) (.oo A (EX A p).2.2.2.2.2.2.1 (.ret ((A.k t_ (MU A p)).1,()))))))))
def zp:Net×(Int×fq)->Net×Unit:=λ(a,(i,c))=>gG (rI af) (afP af a i c) (Ty.aS [jH],Ty.aS [])
def QK:Net×(Int×fq)->Bool:=λ(a,(i,c))=>gu (rI af) (afP af a i c)&&decide (VF.lens [eG] (zp (a,(i,c))).1=VF.lens [eG] ((a,(i,c)):Net×(Int×fq)).1)
def aps:bV:=⟨[eG], [yI,ia], [],QK,zp,false,false⟩
theorem aoV:bV.bE prog 109 aps:=bI ap dE sl 140 [] [⟨157,5, [[0,1,3,6,8,9,65551], [0,4,5,6]]⟩,⟨157,7, [[0,1,3,6,8,9,11,12,65546,65551], [0,4,5,6]]⟩] (λA (a,(i,c))=>afP A a i c) rI ajv ⟨(fc func109 (fc func157 (fc func169 (fc func170 (fc func213 fz))))),(sc aq8 (sc TX (sc ahm sz))),oz,iz,(mc ZA (mc agN (mc agO mz))),(pc Oh pz)⟩ (λA y=>match y with |.c0 p=>⟨46,sl,by kernel_rfl⟩|.c1 p=>⟨48,sl,by kernel_rfl⟩|.c2 p=>⟨102,sl,by kernel_rfl⟩|.c3 p=>⟨102,sl,by kernel_rfl⟩|.c4 p=>⟨46,sl,by kernel_rfl⟩|.c5 p=>⟨48,sl,by kernel_rfl⟩|.c6 p=>⟨232,sl,by kernel_rfl⟩|.c7 p=>⟨133,sl,by kernel_rfl⟩) (λ((a,(i,c)):Net×(Int×fq)) b e h=>Ch b) (z:=λ_ _ h=>Ci h)
def qP(A:aU)(a:Net)(i:Int):Node×sj×Bool×Int:=(A.k agm (a.2.1,(A.n bP a.2.2.2.2.2.2.1 i:cr).1))
def wo(A:aU)(a:Net)(i:Int):List cr:=(A.set a.2.2.2.2.2.2.1 i ((qP A a i).1,(A.n bP a.2.2.2.2.2.2.1 i:cr).2))
def ya(A:aU)(a:Net)(i:Int):Net:=(A.k JS ((rC a (wo A a i)),i)).1
def ab6(A:aU)(a:Net)(i:Int)(c:fq):LT (Net×Bool) Empty:=.iZ A i a.2.2.2.2.2.2.1 (.br (A.cu (qP A a i).2.2.2 0) (.ret (a,true)) (.br (A.bK (qP A a i).1.2.1 1) (.ar (A.k LZ ((rC a (wo A a i)),i)) (.oo A (wo A a i) (.br (A.not (qP A a i).2.2.1) (.ret ((ya A a i),(A.k lY (qP A a i).1))) (.ar (A.k GH ((ya A a i),i,(qP A a i).2.1,c)) (.oo A (ya A a i).2.2.2.2.2.2.1 (.ret ((A.k zo ((ya A a i),i,(qP A a i).2.1,c)).1,true))))))) (.br (A.not (qP A a i).2.2.1) (.ret ((rC a (wo A a i)),(A.k lY (qP A a i).1))) (.ar (A.k GH ((rC a (wo A a i)),i,(qP A a i).2.1,c)) (.oo A (wo A a i) (.ret ((A.k zo ((rC a (wo A a i)),i,(qP A a i).2.1,c)).1,true)))))))
def xu:Net×(Int×fq)->Net×Bool:=λ(a,(i,c))=>gG Empty.elim (ab6 af a i c) (Ty.aS [jH],Ty.aS [.bool])
def QL:Net×(Int×fq)->Bool:=λ(a,(i,c))=>gu Empty.elim (ab6 af a i c)&&decide (VF.lens [eG] (xu (a,(i,c))).1=VF.lens [eG] ((a,(i,c)):Net×(Int×fq)).1)
def apt:bV:=⟨[eG], [yI,ia], [.bool],QL,xu,false,false⟩
theorem aoW:bV.bE prog 110 apt:=bI ap dE sl 94 [] [] (λA (a,(i,c))=>ab6 A a i c) (λ_=>Empty.elim) Empty.elim ⟨(fc func110 fz),(sc BS (sc aqH sz)),oz,iz,(mc agL (mc agM mz)),pz⟩ (λ_ y=>y.elim) (λ((a,(i,c)):Net×(Int×fq)) b e h=>Ch b) (z:=λ_ _ h=>Ci h)
def Di(A:aU)(a:Net)(i:Int):List cr:=(A.set a.2.2.2.2.2.2.1 i ((A.k FM (a.2.1,(A.n bP a.2.2.2.2.2.2.1 i:cr).1)).1,(A.n bP a.2.2.2.2.2.2.1 i:cr).2))
def HE(A:aU)(b:Net)(i:Int):List cr:=(md A bP (Di A b i) i λ(a:cr)=>(up2 a (A.c_ a.2.2.1 1)))
def MG(A:aU)(b:Net)(i:Int):List cr:=(md A bP (md A bP (HE A b i) i λ(a:cr)=>(VQ a (A.c_ a.2.2.2.2.1 1))) i λ(c:cr)=>(y9 c ((A.k dX (b.2.2.2.2.2.1,())).2,i,([]:List Int))))
def Dj(A:aU)(a:Net)(i:Int):Net×Int×sj×Int×Int×Int×Int×Int:=((rC (r9 a (A.k dX (a.2.2.2.2.2.1,())).1) (md A bP (md A bP (MG A a i) i λ(b:cr)=>(r9 b true)) i λ(c:cr)=>(rC c false))),i,(A.k FM (a.2.1,(A.n bP a.2.2.2.2.2.2.1 i:cr).1)).2.1,(A.k FM (a.2.1,(A.n bP a.2.2.2.2.2.2.1 i:cr).1)).1.2.2.1)
def MH(A:aU)(a:Net)(i:Int):Net×Int×Int×Int:=((rC (r9 a (A.k dX (a.2.2.2.2.2.1,())).1) (HE A a i)),(A.c_ (A.k dX (a.2.2.2.2.2.1,())).2 (A.c_ a.2.1.2.1 (A.k zn (a.2.2.1,a.2.1.1,(A.n bP (Di A a i) i:cr).2.2.1,i)))),2,i)
def abW(A:aU)(a:Net)(i:Int):LT (Net×Unit) Empty:=.iZ A i a.2.2.2.2.2.2.1 (.br (A.cu (A.k FM (a.2.1,(A.n bP a.2.2.2.2.2.2.1 i:cr).1)).2.2.2 0) (.ret (a,())) (.ar (A.k LX (a.2.2.1,a.2.1.1,(A.n bP (Di A a i) i:cr).2.2.1,i)) (.br (A.not (A.k FM (a.2.1,(A.n bP a.2.2.2.2.2.2.1 i:cr).1)).2.2.1) (.ar (A.k nc (a.2.2.2.2.2.1,())) (.ar (A.k xP (MH A a i)) (.oo A (HE A a i) (.ret ((A.k Be (MH A a i)).1,()))))) (.ar (A.k nc (a.2.2.2.2.2.1,())) (.ar (A.k GH (Dj A a i)) (.oo A (md A bP (md A bP (MG A a i) i λ(b:cr)=>(r9 b true)) i λ(c:cr)=>(rC c false)) (.ar (A.k CX ((A.k zo (Dj A a i)).1,i)) (.oo A (A.k zo (Dj A a i)).1.2.2.2.2.2.2.1 (.ret ((A.k FY ((A.k zo (Dj A a i)).1,i)).1,()))))))))))
def SD:Net×Int->Net×Unit:=λ(a,i)=>gG Empty.elim (abW af a i) (Ty.aS [jH],Ty.aS [])
def QD:Net×Int->Bool:=λ(a,i)=>gu Empty.elim (abW af a i)&&decide (VF.lens [eG] (SD (a,i)).1=VF.lens [eG] ((a,i):Net×Int).1)
def apg:bV:=⟨[eG], [yI], [],QD,SD,false,false⟩
theorem aoO:bV.bE prog 67 apg:=bI ap dE sl 144 [] [] (λA (a,i)=>abW A a i) (λ_=>Empty.elim) Empty.elim ⟨(fc func67 fz),(sc aqJ (sc ahk sz)),oz,iz,(mc N3 (mc D2 (mc agL (mc ZB mz)))),pz⟩ (λ_ y=>y.elim) (λ((a,i):Net×Int) b c h=>Ch b) (z:=λ_ _ h=>Ci h)
def abX(A:aU)(a:Net)(i:Int):LT (Net×Unit) Empty:=.ar (A.k uO (a,i,true)) (.oo A a.2.2.2.2.2.2.1 (.ret ((A.k xt (a,i,true)).1,())))
def SE:Net×Int->Net×Unit:=λ(a,i)=>gG Empty.elim (abX af a i) (Ty.aS [jH],Ty.aS [])
def QE:Net×Int->Bool:=λ(a,i)=>gu Empty.elim (abX af a i)&&decide (VF.lens [eG] (SE (a,i)).1=VF.lens [eG] ((a,i):Net×Int).1)
def aph:bV:=⟨[eG], [yI], [],QE,SE,false,false⟩
theorem aoP:bV.bE prog 68 aph:=bI ap dE sl 11 [] [] (λA (a,i)=>abX A a i) (λ_=>Empty.elim) Empty.elim ⟨(fc func68 fz),sz,oz,iz,(mc ZC mz),pz⟩ (λ_ y=>y.elim) (λ((a,i):Net×Int) b c h=>Ch b) (z:=λ_ _ h=>Ci h)
def acz(A:aU)(a:Net)(i:Int):List dF×Span×Span×Int:=(a.2.2.2.2.2.2.2.1,(A.k JR (a.2.1,(A.n bP a.2.2.2.2.2.2.1 i:cr).2.1)).1,(A.k zj (a.2.1,(A.n bP a.2.2.2.2.2.2.1 i:cr).2.1)).1,(A.n yI a.2.2.1.2.2.2.1 i:Int))
def qe(A:aU)(a:Net)(i:Int):List dF×Seen:=(A.k mO (acz A a i))
def acA(A:aU)(a:Net)(i:Int):List dF×Span×Span×Int:=(a.2.2.2.2.2.2.2.2.1,(A.k JR (a.2.1,(A.n bP a.2.2.2.2.2.2.1 i:cr).2.1)).1,(A.k zj (a.2.1,(A.n bP a.2.2.2.2.2.2.1 i:cr).2.1)).1,(A.n yI a.2.2.1.2.2.2.1 i:Int))
def qO(A:aU)(a:Net)(i:Int):List dF×Seen:=(A.k mO (acA A a i))
def HV(A:aU)(a:Net)(i:Int):Node×qk×Int:=(A.k Sm (a.2.1,(A.n bP a.2.2.2.2.2.2.1 i:cr).1,(A.p ([(qe A a i).2]:List Seen) ([(qO A a i).2]:List Seen))))
def HY(A:aU)(a:Net)(i:Int):List cr:=(A.set a.2.2.2.2.2.2.1 i ((A.k Sm (a.2.1,(A.n bP a.2.2.2.2.2.2.1 i:cr).1,(A.r 2 (Ty.gw qi:Seen)))).1,(A.n bP a.2.2.2.2.2.2.1 i:cr).2))
def HZ(A:aU)(a:Net)(i:Int):List cr:=(A.set a.2.2.2.2.2.2.1 i ((HV A a i).1,(A.n bP a.2.2.2.2.2.2.1 i:cr).2))
def MJ(A:aU)(a:Net)(i:Int):qk×Int:=(A.k Sm (a.2.1,(A.n bP a.2.2.2.2.2.2.1 i:cr).1,(A.r 2 (Ty.gw qi:Seen)))).2
def Rm(A:aU)(a:Net)(i:Int):ax×qj×Int:=(a.2.1,(A.n bP (HZ A a i) i:cr).2.1,(HV A a i).2.1.2.2.2.2)
def Rn(A:aU)(a:Net)(i:Int):ax×qj×Int:=(a.2.1,(A.n bP (HY A a i) i:cr).2.1,(MJ A a i).1.2.2.2.2)
def afL(A:aU)(a:Net)(i:Int):LT (Net×Unit) Empty:=.iZ A i a.2.2.2.2.2.2.1 (.br (A.cu (A.k JR (a.2.1,(A.n bP a.2.2.2.2.2.2.1 i:cr).2.1)).2 0) (.ret (a,())) (.br (A.cu (A.k zj (a.2.1,(A.n bP a.2.2.2.2.2.2.1 i:cr).2.1)).2 0) (.ret (a,())) (.iZ A i a.2.2.1.2.2.2.1 (.ar (A.k CY (acz A a i)) (.ar (A.bU (A.l (([(qe A a i).2]:List Seen):List Seen)) 2932031007402) (.ar (A.k CY (acA A a i)) (.ar (A.bU (A.l (A.p ([(qe A a i).2]:List Seen) ([(qO A a i).2]:List Seen))) 2932031007402) (.ar (A.k jR ((kv a ()),6,i,(A.n bP a.2.2.2.2.2.2.1 i:cr).1.2.2.1)) (.br (A.k eH ((kv a ()),6,i,(A.n bP a.2.2.2.2.2.2.1 i:cr).1.2.2.1)).2 (.ar (A.and (A.bK 2 2) (A.and (A.bU 0 2) (A.bU 2 2932031007402))) (.br (A.cu (MJ A a i).2 0) (.ret ((Ay (ED a (qe A a i).1) (qO A a i).1),())) (.br (A.cu (MJ A a i).1.1 3) (.ret ((Ay (ED (rC a (HY A a i)) (qe A a i).1) (qO A a i).1),())) (.ar (A.k GI (Rn A a i)) (.br (A.bK (A.k wJ (Rn A a i)).2 0) (.ret ((Ay (ED (rC a (md A bP (HY A a i) i λ(b:cr)=>(y9 b (A.k wJ (Rn A a i)).1))) (qe A a i).1) (qO A a i).1),())) (.ret ((Ay (ED (rC a (HY A a i)) (qe A a i).1) (qO A a i).1),()))))))) (.br (A.cu (HV A a i).2.2 0) (.ret ((Ay (ED a (qe A a i).1) (qO A a i).1),())) (.br (A.cu (HV A a i).2.1.1 3) (.ret ((Ay (ED (rC a (HZ A a i)) (qe A a i).1) (qO A a i).1),())) (.ar (A.k GI (Rm A a i)) (.br (A.bK (A.k wJ (Rm A a i)).2 0) (.ret ((Ay (ED (rC a (md A bP (HZ A a i) i λ(b:cr)=>(y9 b (A.k wJ (Rm A a i)).1))) (qe A a i).1) (qO A a i).1),())) (.ret ((Ay (ED (rC a (HZ A a i)) (qe A a i).1) (qO A a i).1),())))))))))))))))
def sT:Net×Int->Net×Unit:=λ(a,i)=>gG Empty.elim (afL af a i) (Ty.aS [jH],Ty.aS [])
def QI:Net×Int->Bool:=λ(a,i)=>gu Empty.elim (afL af a i)&&decide (VF.lens [eG] (sT (a,i)).1=VF.lens [eG] ((a,i):Net×Int).1)
def apm:bV:=⟨[eG], [yI], [],QI,sT,false,false⟩
theorem aoT:bV.bE prog 97 apm:=bI ap dE (.kN [0,0,0,0,0,0,3,0,0,0,0,0,0,0,0,1,0,0,0,0,1]) 299 [] [] (λA (a,i)=>afL A a i) (λ_=>Empty.elim) Empty.elim ⟨(fc func97 (fc func94 fz)),(sc ag0 (sc aqG (sc arw (sc arx sz)))),oz,(ic agC iz),mz,(pc Oh pz)⟩ (λ_ y=>y.elim) (λ((a,i):Net×Int) b c h=>Ch b) (z:=λ_ _ h=>Ci h)
structure aim where
 (a0:Int) (a2:Net) (a3:fq)
structure ain where
 (b0:Int) (b3:fq)
inductive adw where
 | c0 (p:aim) (a1:Int)
 | c1 (p:ain) (b1:Int) (b2:Net)
noncomputable def ajs:adw->iB
 | .c0 p a1=>⟨[⟨98,102,(en [(0,.ptr 0 0),(5,.ptr 2 0),(34,vi p.a0),(35,vi a1)]),sk f98 [1,1,0,1,0,0],[],none⟩],[wE p.a2 3 1 4 5 6 7,wA p.a2,.ay false (dc ia p.a3),wC p.a2 8,wv p.a2,bxB p.a2,wD p.a2,wB p.a2,wy p.a2,.a_]⟩
 | .c1 p b1 b2=>⟨[⟨98,102,(en [(0,.ptr 0 0),(5,.ptr 2 0),(52,.own 1),(53,vi p.b0),(54,vi b1)]),sk f98 [1,1,1,1,0,0],[],none⟩],[wE b2 3 1 4 5 6 7,wA b2,.ay false (dc ia p.b3),wC b2 8,wv b2,bxB b2,wD b2,wB b2,wy b2,.a_]⟩
def H5(A:aU)(a:Int)(b:Net):Node:=(A.n bP b.2.2.2.2.2.2.1 a:cr).1
def nX(A:aU)(a:Int):Int:=(A.c_ a 1)
def ab2(A:aU)(a:Net)(i:Int)(c:fq):LT (Net×Unit) adw:=.iZ A i a.2.2.2.2.2.2.1 (.br (A.not (A.n bP a.2.2.2.2.2.2.1 i:cr).2.2.2.2.2.2.1) (.ret (a,())) (.br (A.cu (A.n bP a.2.2.2.2.2.2.1 i:cr).1.2.1 4) (.ret (a,())) (.ao (.c0 ⟨i,a,c⟩ 0))))
def Am(A:aU):adw->LT (Net×Unit) adw
 | .c0 p a1=>.br (A.bG a1 p.a0) (.iZ A a1 p.a2.2.2.2.2.2.2.1 (.br (A.bK (A.n bP p.a2.2.2.2.2.2.2.1 a1:cr).1.2.1 4) (.ret (p.a2,())) (.ao (.c0 p (A.c_ a1 1))))) (.ao (.c1 ⟨(A.l p.a2.2.2.2.2.2.2.1),p.a3⟩ 0 p.a2))
 | .c1 p b1 b2=>.br (A.bG b1 p.b0) (.iZ A b1 b2.2.2.2.2.2.2.1 (.ar (A.k jR ((kv b2 ()),2,b1,p.b3)) (.ar (A.k jR ((kv b2 ()),1,b1,p.b3)) (.br (A.k eH ((kv b2 ()),2,b1,p.b3)).2 (.br (A.bK (H5 A b1 b2).2.1 0) (.ar (A.k uO (b2,b1,true)) (.oo A b2.2.2.2.2.2.2.1 (.ao (.c1 p (nX A b1) (A.k xt (b2,b1,true)).1)))) (.br (A.k eH ((kv b2 ()),1,b1,p.b3)).2 (.br (A.cu (H5 A b1 b2).2.1 0) (.br (A.not (A.k lY (H5 A b1 b2))) (.ar (A.k uO (b2,b1,false)) (.oo A b2.2.2.2.2.2.2.1 (.ao (.c1 p (nX A b1) (A.k xt (b2,b1,false)).1)))) (.ao (.c1 p (nX A b1) b2))) (.ao (.c1 p (nX A b1) b2))) (.ao (.c1 p (nX A b1) b2)))) (.br (A.k eH ((kv b2 ()),1,b1,p.b3)).2 (.br (A.cu (H5 A b1 b2).2.1 0) (.br (A.not (A.k lY (H5 A b1 b2))) (.ar (A.k uO (b2,b1,false)) (.oo A b2.2.2.2.2.2.2.1 (.ao (.c1 p (nX A b1) (A.k xt (b2,b1,false)).1)))) (.ao (.c1 p (nX A b1) b2))) (.ao (.c1 p (nX A b1) b2))) (.ao (.c1 p (nX A b1) b2))))))) (.ret (b2,()))
def FX:Net×(Int×fq)->Net×Unit:=λ(a,(i,c))=>gG (Am af) (ab2 af a i c) (Ty.aS [jH],Ty.aS [])
def CW:Net×(Int×fq)->Bool:=λ(a,(i,c))=>gu (Am af) (ab2 af a i c)&&decide (VF.lens [eG] (FX (a,(i,c))).1=VF.lens [eG] ((a,(i,c)):Net×(Int×fq)).1)
def apn:bV:=⟨[eG], [yI,ia], [],CW,FX,false,false⟩
theorem aoU:bV.bE prog 98 apn:=bI ap dE (.kN [0,0,2]) 45 [⟨98,3, [[0,5,34,35]]⟩,⟨98,8, [[0,5,52,53,54]]⟩] [] (λA (a,(i,c))=>ab2 A a i c) Am ajs ⟨(fc func98 fz),(sc BS sz),oz,iz,(mc ZC mz),(pc Oh pz)⟩ (λA y=>match y with |.c0 p a1=>⟨40,sl,by kernel_rfl⟩|.c1 p b1 b2=>⟨92,sl,by kernel_rfl⟩) (λ((a,(i,c)):Net×(Int×fq)) b e h=>Ch b) (z:=λ_ _ h=>Ci h)
structure zI where
 (a0 a1:Int) (a2:Net)
inductive W9 where
 | c0 (p:zI)
noncomputable def ajo:W9->iB
 | .c0 p=>⟨[⟨66,138,(en [(0,.ptr 0 0),(1,vi p.a0),(4,.kX 1 p.a1 0)]),(.code (cw f66 [1,1,1,1,1,1,0,0])::sk f66 [1,1,1,1,1,1,0,0]),[],none⟩],[wE p.a2 2 1 3 4 5 6,wA p.a2,wC p.a2 7,wv p.a2,bxB p.a2,wD p.a2,wB p.a2,wy p.a2,.a_]⟩
def As(A:aU)(a:Net)(i:Int):cr:=(A.n bP a.2.2.2.2.2.2.1 i:cr)
def ME(A:aU)(a:Net)(i:Int):Net×Int×Int×Int×Int×Int×Int:=((rC a (md A bP a.2.2.2.2.2.2.1 i λ(b:cr)=>(r9 b false))),i,(As A a i).1.2.2.1)
def MF(A:aU)(a:Net)(i:Int):Net×Int×Int×Int×Int×Int×Int:=((rC (A.k sT (a,i)).1 (md A bP (A.k sT (a,i)).1.2.2.2.2.2.2.1 i λ(b:cr)=>(r9 b false))),i,(As A a i).1.2.2.1)
def Au(A:aU)(p:zI):Node×Int:=(A.k Yj (p.a2.2.1,(A.n bP p.a2.2.2.2.2.2.2.1 p.a1:cr).1))
def wm(A:aU)(p:zI):List cr:=(A.set p.a2.2.2.2.2.2.2.1 p.a1 ((Au A p).1,(A.n bP p.a2.2.2.2.2.2.2.1 p.a1:cr).2))
def xY(A:aU)(p:zI):qj×Int:=(A.k JP (p.a2.2.1,(A.n bP (wm A p) p.a1:cr).2.1,(A.k zn (p.a2.2.2.1,p.a2.2.1.1,(A.n bP (wm A p) p.a1:cr).2.2.1,p.a0))))
def acy(A:aU)(p:zI):List cr:=(md A bP (wm A p) p.a1 λ(a:cr)=>(y9 a (xY A p).1))
def xZ(A:aU)(p:zI):List cr:=(md A bP (acy A p) p.a1 λ(a:cr)=>(up2 a (A.c_ a.2.2.1 1)))
def Hz(A:aU)(p:zI):List ny:=(A.p p.a2.2.2.2.2.2.2.2.2.2.2 ([((Au A p).1.2.2.1.1,(A.k xr (Au A p).1))]:List ny))
abbrev abV(A:aU)(a:Net)(i:Int):LT (Net×Unit) W9:=(.ar (A.k CW (ME A a i)) (.oo A (md A bP a.2.2.2.2.2.2.1 i λ(b:cr)=>(r9 b false)) (.ao (.c0 ⟨i,i,(A.k FX (ME A a i)).1⟩))))
def abU(A:aU)(a:Net)(i:Int):LT (Net×Unit) W9:=.iZ A i a.2.2.2.2.2.2.1 (.br (A.not (A.k lY (As A a i).1)) (.ret (a,())) (.br (A.not (As A a i).2.2.2.2.2.1) (.br (A.cu (As A a i).1.2.2.1.2.1 i) (.ar (A.k QI (a,i)) (.oo A a.2.2.2.2.2.2.1 (.ar (A.k CW (MF A a i)) (.oo A (md A bP (A.k sT (a,i)).1.2.2.2.2.2.2.1 i λ(b:cr)=>(r9 b false)) (.ao (.c0 ⟨i,i,(A.k FX (MF A a i)).1⟩)))))) (abV A a i)) (abV A a i)))
def OA(A:aU):W9->LT (Net×Unit) W9
 | .c0 p=>.br (A.not (A.k lY (A.n bP p.a2.2.2.2.2.2.2.1 p.a1:cr).1)) (.ret (p.a2,())) (.br (A.cu (Au A p).2 0) (.ret (p.a2,())) (.ar (A.k LX (p.a2.2.2.1,p.a2.2.1.1,(A.n bP (wm A p) p.a1:cr).2.2.1,p.a0)) (.ar (A.k QJ (p.a2.2.1,(A.n bP (wm A p) p.a1:cr).2.1,(A.k zn (p.a2.2.2.1,p.a2.2.1.1,(A.n bP (wm A p) p.a1:cr).2.2.1,p.a0)))) (.br (A.cu (xY A p).2 0) (.ret ((rC p.a2 (md A bP (wm A p) p.a1 λ(a:cr)=>(lp7 a true))),())) (.br (A.bK (Au A p).1.2.2.1.2.1 0) (.ar (A.k Aj (Au A p).1) (.ar (A.bU (A.l (Hz A p)) 651562446089) (.ar (A.k xP ((aoC (rC p.a2 (xZ A p)) (Hz A p)),(xY A p).1.1,4,p.a0)) (.oo A (xZ A p) (.ret ((A.k Be ((aoC (rC p.a2 (xZ A p)) (Hz A p)),(xY A p).1.1,4,p.a0)).1,())))))) (.ar (A.k xP ((rC p.a2 (xZ A p)),(xY A p).1.1,4,p.a0)) (.oo A (xZ A p) (.ret ((A.k Be ((rC p.a2 (xZ A p)),(xY A p).1.1,4,p.a0)).1,())))))))))
def SC:Net×Int->Net×Unit:=λ(a,i)=>gG (OA af) (abU af a i) (Ty.aS [jH],Ty.aS [])
def QC:Net×Int->Bool:=λ(a,i)=>gu (OA af) (abU af a i)&&decide (VF.lens [eG] (SC (a,i)).1=VF.lens [eG] ((a,i):Net×Int).1)
def apf:bV:=⟨[eG], [yI], [],QC,SC,false,false⟩
theorem aoN:bV.bE prog 66 apf:=bI ap dE sl 75 [] [⟨66,7, [[0,1,4]]⟩] (λA (a,i)=>abU A a i) OA ajo ⟨(fc func66 fz),(sc BS (sc aqI (sc abd (sc aru (sc ahk sz))))),oz,iz,(mc N3 (mc aoT (mc aoU mz))),pz⟩ (λA y=>match y with |.c0 p=>⟨143,(.kN [0,0,0,0,1,2]),by kernel_rfl⟩) (λ((a,i):Net×Int) b c h=>Ch b) (z:=λ_ _ h=>Ci h)
structure aii where
 (a0:Int) (a1:Net)
structure Ck where
 (b0:List dO) (b1 b3:Int) (b6:jv) (b13 Cf:Int)
inductive W_ where
 | c0 (p:aii)
 | c1 (p:Ck) (b2:Int) (b4:Net)
noncomputable def ajp:W_->iB
 | .c0 p=>⟨[⟨69,131,(en [(1,vi p.a0),(2,.ptr 2 0),(4,.ptr 3 0)]),(.code (cw f69 [1,1,1,1,1,1,0,0])::sk f69 [1,1,1,1,1,1,0,0]),[],none⟩],[wE p.a1 4 1 5 6 7 8,wA p.a1,.ay false [.ptr 0 0],.ay false [.kX 1 p.a0 0],wC p.a1 9,wv p.a1,bxB p.a1,wD p.a1,wB p.a1,wy p.a1,.a_]⟩
 | .c1 p b2 b4=>⟨[⟨166,37,(en [(0,.yield 2),(2,.ptr 3 0),(3,.ptr 4 0),(4,.ptr 5 0),(8,.sl e_ p.b0),(9,vi p.b1),(10,vi b2)]),sk f166 [1,0,0],[],none⟩,⟨69,131,(en [(1,vi p.b3),(2,.ptr 6 0),(4,.ptr 7 0)]),[.oP 2,.inBlock 0,.code (cw f69 [1,1,1,1,1,1,1])],[8],none⟩],[wE b4 9 1 10 11 12 13,wA b4,.loop ⟨69,131,(en [(1,vi p.b3),(2,.ptr 6 0),(4,.ptr 7 0),(70,.ptr 0 0),(71,.ptr 0 0),(72,.ptr 0 9),(73,.agg (dc pK p.b6)),(74,vi p.b3),(75,.kX 1 p.b3 0),(76,.kX 1 p.b3 0),(77,.kX 1 p.b3 0),(78,.kX 1 p.b3 2),(79,.kX 1 p.b3 2),(80,vi p.b13),(81,.kX 1 p.b3 0),(82,.kX 1 p.b3 0),(83,.kX 1 p.b3 0),(84,.kX 1 p.b3 2),(85,.kX 1 p.b3 3),(86,vi p.Cf),(87,.fn 166 [] [.ptr 14 0,.ptr 3 0,.ptr 4 0,.ptr 5 0])]),[88],(cw f69 [1,1,1,1,1,1,0,1,0,0]),(cw f69 [1,1,1,1,1,1,0,1,0,1]),0,none⟩,.ay false [vi p.b3],.ay false [vi p.b13],.ay false [vi p.Cf],.ay false [.ptr 0 0],.ay false [.kX 1 p.b3 0],.Ie,wC b4 15,wv b4,bxB b4,wD b4,wB b4,.ay false [.sl e_ p.b0],wy b4,.a_]⟩
def Av(A:aU)(a:Net)(i:Int):cr:=(A.n bP a.2.2.2.2.2.2.1 i:cr)
def tC(A:aU)(p:Ck)(a:Net):cr:=(A.n bP a.2.2.2.2.2.2.1 p.b3:cr)
def x9(A:aU)(p:Ck)(a:Net):Net:=(A.k zp (a,p.b3,(tC A p a).1.2.2.1)).1
def x8(A:aU)(p:Ck)(a:Net):Net×Int×Int×Int×Int×Int×Int:=((x9 A p a),p.b3,(tC A p a).1.2.2.1)
abbrev abZ(A:aU)(a:Net)(i:Int):LT (Net×Unit) W_:=(.ar (A.k jR ((kv a ()),1,i,(Av A a i).1.2.2.1)) (.br (A.k eH ((kv a ()),1,i,(Av A a i).1.2.2.1)).2 (.ar (A.k uO (a,i,false)) (.oo A a.2.2.2.2.2.2.1 (.ret ((A.k xt (a,i,false)).1,())))) (.ao (.c0 ⟨i,(rC a (md A bP a.2.2.2.2.2.2.1 i λ(b:cr)=>(rC b (A.bK b.1.2.1 4))))⟩))))
def abY(A:aU)(a:Net)(i:Int):LT (Net×Unit) W_:=.iZ A i a.2.2.2.2.2.2.1 (.br (A.not (A.k lY (Av A a i).1)) (.ret (a,())) (.br (A.bK (Av A a i).1.2.2.1.1 a.2.2.2.1) (.br (A.bK (Av A a i).1.2.2.1.2.1 0) (.ret ((rC a (md A bP a.2.2.2.2.2.2.1 i λ(b:cr)=>(lp7 b true))),())) (abZ A a i)) (abZ A a i)))
def BP(A:aU):W_->LT (Net×Unit) W_
 | .c0 p=>.ar (A.k Qv p.a1.2.2.1.2.2.2.2.2.2.1) (.ao (.c1 ⟨(A.k Yz p.a1.2.2.1.2.2.2.2.2.2.1),(A.l (A.k Yz p.a1.2.2.1.2.2.2.2.2.2.1)),p.a0,p.a1.2.2.1,(A.n bP p.a1.2.2.2.2.2.2.1 p.a0:cr).1.2.2.1.1,(A.n bP p.a1.2.2.2.2.2.2.1 p.a0:cr).1.2.2.1.2.1⟩ 0 p.a1))
 | .c1 p b2 b4=>.br (A.bG b2 p.b1) (.iZ A b2 p.b0 (.br (A.bK (A.n e_ p.b0 b2:dO).1 p.b3) (.br (A.bK (A.n e_ p.b0 b2:dO).2.1 p.b13) (.br (A.bK (A.n e_ p.b0 b2:dO).2.2.1 p.Cf) (.br (A.bK (A.k Sl (b4.2.1,(tC A p b4).1,(A.n e_ p.b0 b2:dO))).2 0) (.ao (.c1 p (A.c_ b2 1) (rC b4 (A.set b4.2.2.2.2.2.2.1 p.b3 ((A.k Sl (b4.2.1,(tC A p b4).1,(A.n e_ p.b0 b2:dO))).1,(tC A p b4).2))))) (.ao (.c1 p (A.c_ b2 1) b4))) (.ao (.c1 p (A.c_ b2 1) b4))) (.ao (.c1 p (A.c_ b2 1) b4))) (.ao (.c1 p (A.c_ b2 1) b4)))) (.ar (A.k QK (b4,p.b3,(tC A p b4).1.2.2.1)) (.oo A b4.2.2.2.2.2.2.1 (.br (A.bK (tC A p b4).1.2.2.1.2.1 p.b3) (.ar (A.k QL (x8 A p b4)) (.oo A (x9 A p b4).2.2.2.2.2.2.1 (.br (A.not (A.k xu (x8 A p b4)).2) (.ret ((A.k xu (x8 A p b4)).1,())) (.ar (A.k CX ((A.k xu (x8 A p b4)).1,p.b3)) (.oo A (A.k xu (x8 A p b4)).1.2.2.2.2.2.2.1 (.ret ((A.k FY ((A.k xu (x8 A p b4)).1,p.b3)).1,()))))))) (.ar (A.k CX ((x9 A p b4),p.b3)) (.oo A (x9 A p b4).2.2.2.2.2.2.1 (.ret ((A.k FY ((x9 A p b4),p.b3)).1,())))))))
def SF:Net×Int->Net×Unit:=λ(a,i)=>gG (BP af) (abY af a i) (Ty.aS [jH],Ty.aS [])
def QF:Net×Int->Bool:=λ(a,i)=>gu (BP af) (abY af a i)&&decide (VF.lens [eG] (SF (a,i)).1=VF.lens [eG] ((a,i):Net×Int).1)
def api:bV:=⟨[eG], [yI], [],QF,SF,false,false⟩
theorem aoQ:bV.bE prog 69 api:=bI ap dE sl 99 [⟨166,1, [[0,2,3,4,8,9,10], [1,2,4]]⟩] [⟨69,9, [[1,2,4]]⟩] (λA (a,i)=>abY A a i) BP ajp ⟨(fc func69 (fc func107 (fc func166 fz))),(sc BS (sc aqF (sc arj sz))),oz,iz,(mc ZB (mc ZC (mc aoV (mc aoW mz)))),(pc Oh pz)⟩ (λA y=>match y with |.c0 p=>⟨57,sl,by kernel_rfl⟩|.c1 p b2 b4=>⟨94,sl,by kernel_rfl⟩) (λ((a,i):Net×Int) b c h=>Ch b) (z:=λ_ _ h=>Ci h)
structure E8 where
 (a0 a3 a4 a5:Int)
inductive adt where
 | c0 (p:E8) (a1:Int) (a2:Net)
noncomputable def ajn:adt->iB
 | .c0 p a1 a2=>⟨[⟨65,95,(en [(0,.ptr 0 0),(4,.ptr 2 0),(22,vi p.a0),(23,vi a1)]),sk f65 [1,1,0,0],[],none⟩],[wE a2 3 1 4 5 6 7,wA a2,.ay false [vi p.a3,vi p.a4,vi p.a5],wC a2 8,wv a2,bxB a2,wD a2,wB a2,wy a2,.a_]⟩
def uS(A:aU)(p:E8)(a1:Int)(a2:Net):List dF×Span×Span×Int:=(a2.2.2.2.2.2.2.2.1,(p.a3,p.a4),(p.a3,(A.c_ p.a3 1)),(A.n yI a2.2.2.1.2.2.2.1 a1:Int))
def wj(A:aU)(p:E8)(a1:Int)(a2:Net):List dF×Span×Span×Int:=(a2.2.2.2.2.2.2.2.2.1,(p.a3,p.a4),(p.a3,(A.c_ p.a3 1)),(A.n yI a2.2.2.1.2.2.2.1 a1:Int))
def wi(A:aU)(p:E8)(a1:Int)(a2:Net):Node×Int×Bool×Int:=(A.k Yg (a2.2.1,(A.n bP a2.2.2.2.2.2.2.1 a1:cr).1,(A.p ([(A.k mO (uS A p a1 a2)).2]:List Seen) ([(A.k mO (wj A p a1 a2)).2]:List Seen))))
def Hy(A:aU)(p:E8)(a1:Int)(a2:Net):Net:=(Ay (ED a2 (A.k mO (uS A p a1 a2)).1) (A.k mO (wj A p a1 a2)).1)
def abT(A:aU)(b:Net)(a:Int):LT (Net×Unit) adt:=.iZ A a b.2.2.2.2.2.2.2.2.2.1 (.ao (.c0 ⟨(A.l b.2.2.2.2.2.2.1),(A.n Jq b.2.2.2.2.2.2.2.2.2.1 a:sr).1.1,(A.n Jq b.2.2.2.2.2.2.2.2.2.1 a:sr).1.2,(A.n Jq b.2.2.2.2.2.2.2.2.2.1 a:sr).2⟩ 0 b))
def Mh(A:aU):adt->LT (Net×Unit) adt
 | .c0 p a1 a2=>.br (A.bG a1 p.a0) (.iZ A a1 a2.2.2.2.2.2.2.1 (.br (A.cu (A.n bP a2.2.2.2.2.2.2.1 a1:cr).1.2.1 1) (.ao (.c0 p (A.c_ a1 1) a2)) (.br (A.ji (A.n bP a2.2.2.2.2.2.2.1 a1:cr).2.2.2.1 p.a3) (.ao (.c0 p (A.c_ a1 1) a2)) (.br (A.bK p.a5 a1) (.ao (.c0 p (A.c_ a1 1) a2)) (.iZ A a1 a2.2.2.1.2.2.2.1 (.ar (A.k CY (uS A p a1 a2)) (.ar (A.bU (A.l (([(A.k mO (uS A p a1 a2)).2]:List Seen):List Seen)) 2932031007402) (.ar (A.k CY (wj A p a1 a2)) (.ar (A.bU (A.l (A.p ([(A.k mO (uS A p a1 a2)).2]:List Seen) ([(A.k mO (wj A p a1 a2)).2]:List Seen))) 2932031007402) (.br (A.cu (wi A p a1 a2).2.2.2 0) (.ao (.c0 p (A.c_ a1 1) (Hy A p a1 a2))) (.br (A.not (wi A p a1 a2).2.2.1) (.ao (.c0 p (A.c_ a1 1) (Ay (ED (rC a2 (A.set a2.2.2.2.2.2.2.1 a1 ((wi A p a1 a2).1,(A.n bP a2.2.2.2.2.2.2.1 a1:cr).2))) (A.k mO (uS A p a1 a2)).1) (A.k mO (wj A p a1 a2)).1))) (.ar (A.k QH ((Hy A p a1 a2),a1,(wi A p a1 a2).1,(wi A p a1 a2).2.1)) (.oo A a2.2.2.2.2.2.2.1 (.ao (.c0 p (A.c_ a1 1) (A.k SH ((Hy A p a1 a2),a1,(wi A p a1 a2).1,(wi A p a1 a2).2.1)).1))))))))))))))) (.ret (a2,()))
def SB:Net×Int->Net×Unit:=λ(b,a)=>gG (Mh af) (abT af b a) (Ty.aS [jH],Ty.aS [])
def QB:Net×Int->Bool:=λ(b,a)=>gu (Mh af) (abT af b a)&&decide (VF.lens [eG] (SB (b,a)).1=VF.lens [eG] ((b,a):Net×Int).1)
def ape:bV:=⟨[eG], [yI], [],QB,SB,false,false⟩
theorem aoM:bV.bE prog 65 ape:=bI ap dE sl 29 [⟨65,2, [[0,4,22,23]]⟩] [] (λA (b,a)=>abT A b a) Mh ajn ⟨(fc func65 (fc func94 fz)),(sc aqz sz),oz,(ic agC iz),(mc aoS mz),pz⟩ (λA y=>match y with |.c0 p a1 a2=>⟨240,(.kN [0,0,0,0,0,0,0,0,3]),by kernel_rfl⟩) (λ((b,a):Net×Int) c e h=>Ch c) (z:=λ_ _ h=>Ci h)
def nt(A:aU)(a:Net):qW×(je×Int):=(A.k zm (a.2.2.2.2.2.1,()))
def Dg(A:aU)(a:Net):Int×Bool×Bool×Bool:=(A.n bP a.2.2.2.2.2.2.1 (nt A a).2.1.2.2.1:cr).2.2.2.2
def Hu(A:aU)(a:Net):Bool:=(A.and (A.bU 0 (nt A a).2.1.2.2.1) (A.bG (nt A a).2.1.2.2.1 (A.l a.2.2.2.2.2.2.1)))
def uR(A:aU)(a:Net):Net×Int:=((r9 a (nt A a).1),(nt A a).2.1.2.2.1)
def qN(A:aU)(a:Net):Net×Unit:=((r9 a (nt A a).1),())
def Hw(A:aU)(a:Net):Bool:=(A.bK (Dg A a).1 (nt A a).2.1.2.2.2)
def Dh(A:aU)(a:Net):Bool:=(A.cu (A.l a.2.2.2.2.2.2.1) 0)
def abQ(A:aU)(a:Net):LT (Net×Unit) Empty:=.ar (A.k QA (a.2.2.2.2.2.1,())) (.br (A.cu (nt A a).2.2 0) (.ret (qN A a)) (.br (A.bK (nt A a).2.1.2.1 3) (.ar (A.k QB ((r9 a (nt A a).1),(nt A a).2.1.2.2.2)) (.ar (Dh A a) (.ret ((A.k SB ((r9 a (nt A a).1),(nt A a).2.1.2.2.2)).1,())))) (.br (A.bK (nt A a).2.1.2.1 1) (.ar (Hu A a) (.br (Hw A a) (.br (A.not (Dg A a).2.2.2) (.ar (A.k QC (uR A a)) (.ar (Dh A a) (.ret ((A.k SC (uR A a)).1,())))) (.ret (qN A a))) (.ret (qN A a)))) (.br (A.bK (nt A a).2.1.2.1 2) (.ar (Hu A a) (.br (Hw A a) (.br (A.not (Dg A a).2.2.2) (.ar (A.k QD (uR A a)) (.ar (Dh A a) (.ret ((A.k SD (uR A a)).1,())))) (.ret (qN A a))) (.ret (qN A a)))) (.br (A.bK (nt A a).2.1.2.1 5) (.ar (Hu A a) (.br (Hw A a) (.br (A.not (Dg A a).2.2.2) (.ar (A.k QE (uR A a)) (.ar (Dh A a) (.ret ((A.k SE (uR A a)).1,())))) (.ret (qN A a))) (.ret (qN A a)))) (.ar (Hu A a) (.br (Hw A a) (.br (A.not (Dg A a).2.2.2) (.ar (A.k QF (uR A a)) (.ar (Dh A a) (.ret ((A.k SF (uR A a)).1,())))) (.ret (qN A a))) (.ret (qN A a)))))))))
def xq:Net×Unit->Net×Unit:=λ(a,())=>gG Empty.elim (abQ af a) (Ty.aS [jH],Ty.aS [])
def CV:Net×Unit->Bool:=λ(a,())=>gu Empty.elim (abQ af a)&&decide (VF.lens [eG] (xq (a,())).1=VF.lens [eG] ((a,()):Net×Unit).1)
def ao_:bV:=⟨[eG], [], [],CV,xq,false,false⟩
theorem agK:bV.bE prog 30 ao_:=bI ap dE (.kN [0,0,0,0,0,0,0,1,0,0,0,0,0,0,1,0,0,0,0,0,0,1,0,0,0,0,0,1]) 102 [] [] (λA (a,())=>abQ A a) (λ_=>Empty.elim) Empty.elim ⟨(fc func30 fz),sz,oz,iz,(mc aoL (mc aoM (mc aoN (mc aoO (mc aoP (mc aoQ mz)))))),pz⟩ (λ_ y=>y.elim) (λ((a,()):Net×Unit) b c h=>Ch b) (z:=λ_ _ h=>Ci h)
def auI(A:aU)(a:ny)(b:ny):LT Int Empty:=.ret (A.k NJ [(A.k rc (a.1,b.1)),(A.k rc (a.2.1,b.2.1))])
def agv:(ny×ny)->Int:=λ(a,b)=>(auI af a b).val (Ty.aS [yI])
def atF:aK:=.all [qp,qp] [yI] agv
theorem art:Sd 58 atF:=fa (aR ap dE sl 30 [] (λA (a,b)=>auI A a b) (kz (fc func58 fz) (sc aba (sc abb sz))))
structure aio where
 (a0 a1 a2:Int) (a3:List ny)
structure aip where
 (b0 b1 b2:Int)
inductive adB where
 | c0 (p:aio)
 | c1 (p:aip) (b3:Int) (b4:List ny)
noncomputable def ajx:adB->iB
 | .c0 p=>⟨[⟨136,53,(en [(0,.own 0),(1,vi p.a0),(2,vi p.a1),(3,.fn 58 [] []),(8,vi p.a2)]),sk f136 [1,0,0],[],none⟩],[.arr false qp p.a3,.a_]⟩
 | .c1 p b3 b4=>⟨[⟨136,53,(en [(0,.own 0),(1,vi p.b0),(2,vi p.b1),(3,.fn 58 [] []),(8,vi p.b2),(9,vi b3)]),sk f136 [1,0,0,1,0,0,1,0,0],[],none⟩],[.arr false qp b4,.a_]⟩
def Aw(A:aU)(a:Int):Int:=(A.lI a 1)
def ank(A:aU)(c:List ny)(a:Int)(b:Int):LT (List ny×Unit) adB:=.ao (.c0 ⟨a,b,(A.c_ a 1),c⟩)
def alC(A:aU):adB->LT (List ny×Unit) adB
 | .c0 p=>.br (A.bG p.a2 p.a1) (.ao (.c1 ⟨p.a0,p.a1,p.a2⟩ p.a2 p.a3)) (.ret (p.a3,()))
 | .c1 p b3 b4=>.br (A.ji b3 p.b0) (.iZ A b3 b4 (.iZ A (Aw A b3) b4 (.br (A.bG (A.k agv ((A.n qp b4 b3:ny),(A.n qp b4 (Aw A b3):ny))) 0) (.iZ A (Aw A b3) (A.set b4 b3 (A.n qp b4 (Aw A b3):ny)) (.ao (.c1 p (Aw A b3) (A.set (A.set b4 b3 (A.n qp b4 (Aw A b3):ny)) (Aw A b3) (A.n qp b4 b3:ny))))) (.ao (.c0 ⟨p.b0,p.b1,(A.c_ p.b2 1),b4⟩))))) (.ao (.c0 ⟨p.b0,p.b1,(A.c_ p.b2 1),b4⟩))
def SI:List ny×(Int×Int)->List ny×Unit:=λ(c,(a,b))=>gG (alC af) (ank af c a b) ([],Ty.aS [])
def QO:List ny×(Int×Int)->Bool:=λ(c,(a,b))=>gu (alC af) (ank af c a b)&&decide ((SI (c,(a,b))).1.length=c.length)
def aov:gL:=⟨qp, [yI,yI], [58], [],QO,SI⟩
theorem aol:gL.bE prog 136 aov:=iL ap dE sl 14 [⟨136,1, [[0,1,2,3,8]]⟩,⟨136,4, [[0,1,2,3,8,9]]⟩] [] (λA (c,(a,b))=>ank A c a b) alC ajx (kz (fc func136 fz) (sc art sz)) (λA y=>match y with |.c0 p=>⟨24,sl,by kernel_rfl⟩|.c1 p b3 b4=>⟨57,(.kN [0,0,0,0,2,3,3]),by kernel_rfl⟩) λ((c,(a,b)):List ny×(Int×Int)) e f h=>⟨of_decide_eq_true ((fv _ _).mp e).2,Ch e⟩
def aow:gL:=⟨qp, [yI,yI,yI], [58], [],λ_=>false,λx=>(x.1,())⟩
def aah:List ny×Int×Int×Int->Bool:=λ_=>false
def agw:List ny×Int×Int×Int->List ny×Unit:=λx=>(x.1,())
theorem aom:gL.bE prog 137 aow:=⟨λw I x y v b B _ _ _ _ a=>Bool.noConfusion a,f137,func137,by kernel_rfl,by kernel_rfl⟩
structure aij where
 (a0:Int)
structure aik where
 (b0 b1:Int) (b2:List ny)
structure ail where
 (c0 c1:Int)
inductive adu where
 | c0 (p:aij) (a2:Int) (a3:Int) (a4:List ny)
 | c1 (p:aik)
 | c2 (p:ail) (c2:Int) (c3:Int) (c4:List ny)
noncomputable def ajq:adu->iB
 | .c0 p a2 a3 a4=>⟨[⟨90,63,(en [(0,.own 0),(1,vi p.a0),(2,.fn 58 [] []),(6,vi 20),(7,vi a2),(8,vi a3)]),sk f90 [1,1,0,0,0],[],none⟩],[.arr false qp a4,.a_]⟩
 | .c1 p=>⟨[⟨90,63,(en [(0,.own 0),(1,vi p.b0),(2,.fn 58 [] []),(6,vi p.b1)]),sk f90 [1,1,1,1,0,0],[],none⟩],[.arr false qp p.b2,.a_]⟩
 | .c2 p c2 c3 c4=>⟨[⟨90,63,(en [(0,.own 0),(1,vi p.c0),(2,.fn 58 [] []),(6,vi p.c1),(7,vi c2),(8,vi c3)]),sk f90 [1,1,1,1,0,0,1,0,1,0,0,0],[],none⟩],[.arr false qp c4,.a_]⟩
def anj(A:aU)(a:List ny)(n:Int):LT (List ny×Unit) adu:=.ao (.c0 ⟨n⟩ 0 20 a)
def alB(A:aU):adu->LT (List ny×Unit) adu
 | .c0 p a2 a3 a4=>.br (A.bU a3 p.a0) (.ar (A.k QO (a4,a2,a3)) (.ao (.c0 p a3 (A.c_ a3 20) (A.k SI (a4,a2,a3)).1))) (.ar (A.k QO (a4,a2,p.a0)) (.ao (.c1 ⟨p.a0,20,(A.k SI (a4,a2,p.a0)).1⟩)))
 | .c1 p=>.br (A.bG p.b1 p.b0) (.ao (.c2 ⟨p.b0,p.b1⟩ 0 (A.b .mul .i64 2 p.b1) p.b2)) (.ret (p.b2,()))
 | .c2 p c2 c3 c4=>.br (A.bU c3 p.c0) (.ar (A.k aah (c4,c2,(A.c_ c2 p.c1),c3)) (.ao (.c2 p c3 (A.c_ c3 (A.b .mul .i64 2 p.c1)) (A.k agw (c4,c2,(A.c_ c2 p.c1),c3)).1))) (.br (A.bG (A.c_ c2 p.c1) p.c0) (.ar (A.k aah (c4,c2,(A.c_ c2 p.c1),p.c0)) (.ao (.c1 ⟨p.c0,(A.b .mul .i64 p.c1 2),(A.k agw (c4,c2,(A.c_ c2 p.c1),p.c0)).1⟩))) (.ao (.c1 ⟨p.c0,(A.b .mul .i64 p.c1 2),c4⟩)))
def YD:List ny×Int->List ny×Unit:=λ(a,n)=>gG (alB af) (anj af a n) ([],Ty.aS [])
def aag:List ny×Int->Bool:=λ(a,n)=>gu (alB af) (anj af a n)&&decide ((YD (a,n)).1.length=a.length)
def aou:gL:=⟨qp, [yI], [58], [],aag,YD⟩
theorem aok:gL.bE prog 90 aou:=iL ap dE sl 19 [⟨90,2, [[0,1,2,6,7,8]]⟩,⟨90,7, [[0,1,2,6]]⟩,⟨90,9, [[0,1,2,6,7,8]]⟩] [] (λA (a,n)=>anj A a n) alB ajq ⟨(fc func90 fz),sz,oz,(ic aol (ic aom iz)),mz,pz⟩ (λA y=>match y with |.c0 p a2 c e=>⟨36,sl,by kernel_rfl⟩|.c1 p=>⟨26,sl,by kernel_rfl⟩|.c2 p c2 c3 c4=>⟨44,sl,by kernel_rfl⟩) λ((a,n):List ny×Int) b f h=>⟨of_decide_eq_true ((fv _ _).mp b).2,Ch b⟩
def ani(A:aU)(a:List ny):LT (List ny×Unit) Empty:=.ar (A.k aag (a,(A.l a))) (.ret ((A.k YD (a,(A.l a))).1,()))
def YC:List ny×Unit->List ny×Unit:=λ(a,())=>gG Empty.elim (ani af a) ([],Ty.aS [])
def LW:List ny×Unit->Bool:=λ(a,())=>gu Empty.elim (ani af a)&&decide ((YC (a,())).1.length=a.length)
def aot:gL:=⟨qp, [], [58], [],LW,YC⟩
theorem aoj:gL.bE prog 57 aot:=iL ap dE sl 13 [] [] (λA (b,())=>ani A b) (λ_=>Empty.elim) Empty.elim ⟨(fc func57 fz),sz,oz,(ic aok iz),mz,pz⟩ (λ_ y=>y.elim) λ((b,()):List ny×Unit) a c h=>⟨of_decide_eq_true ((fv _ _).mp a).2,Ch a⟩
structure aid where
 (a4:ax) (a5:jv)
structure aie where
 (b4:ax) (b5:jv)
structure WU where
 (c0:Int) (c2 c4:ax) (c5:jv) (c6 c7:Int)
structure aif where
 (d0:Int) (d2 d4:ax) (d5:jv) (d6 d7:Int)
inductive adr where
 | c0 (p:aid)
 | c1 (p:aie)
 | c2 (p:WU)
 | c3 (p:aif) (d1:Int) (XC:List cr)
noncomputable def ajl:adr->iB
 | .c0 p=>⟨[⟨76,55,(en [(0,.gb true),(4,.ptr 0 0),(14,.gb true),(15,vi 0),(16,vi 0)]),sk f76 [1,1,1,0,1,0,0],[],none⟩,⟨40,83,(en [(2,.ptr 1 0),(6,.ptr 2 0)]),(.ops (ow f40 [1,1,1,0]) ((ow f40 [1,1,1,0]).toList.drop 0)::sk f40 [1,1,1,0]),[],none⟩],[.ay false [vb true,.gb true,vi 0],.ay false (dc bJ p.a4),.ay false (dc pK p.a5),.a_]⟩
 | .c1 p=>⟨[⟨76,55,(en [(4,.ptr 0 0),(29,.gb true),(30,vi 0),(31,vi 0)]),sk f76 [1,1,1,1,0,1,0,0],[],none⟩,⟨40,83,(en [(2,.ptr 1 0),(6,.ptr 2 0)]),(.ops (ow f40 [1,1,1,0]) ((ow f40 [1,1,1,0]).toList.drop 0)::sk f40 [1,1,1,0]),[],none⟩],[.ay false [vb true,.gb true,vi 0],.ay false (dc bJ p.b4),.ay false (dc pK p.b5),.a_]⟩
 | .c2 p=>⟨[⟨40,83,(en [(2,.ptr 0 0),(9,.ptr 1 0),(57,vi p.c0),(58,vi 0)]),sk f40 [1,1,1,1,1,1,1,0,1,0,0],[],none⟩],[.ay false (dc bJ p.c2),.ay false ([vb true]++dc bJ p.c4++dc pK p.c5 ++ [vi p.c6,vi p.c7,.ptr 2 0,.gb true,.gb true,.gb true,.gb true,.gb true]),.ay false [vb true,.gb true,vi 0],.a_]⟩
 | .c3 p d1 a=>⟨[⟨40,83,(en [(2,.ptr 0 0),(9,.ptr 1 0),(57,vi p.d0),(58,vi d1)]),sk f40 [1,1,1,1,1,1,1,0,1,0,0],[],none⟩],[.ay false (dc bJ p.d2),.ay false ([vb true]++dc bJ p.d4++dc pK p.d5 ++ [vi p.d6,vi p.d7,.ptr 2 0,.own 3,.gb true,.gb true,.gb true,.gb true]),.ay false [vb true,.gb true,vi 0],.arr false bP a,.a_]⟩
def acx(A:aU)(p:WU):List cr:=([((A.k wG (p.c2,0)).1,(0,0,([]:List Int)),0,0,0,false,false,false)]:List cr)
def VN(A:aU)(m:ax)(s:jv):LT (Bool×Net×Int) adr:=.ar (A.k Ai (m,s)) (.br (A.cu (A.k JM (m,s)).2 0) (.ret (false,(Ty.gw jH:Net),(A.k JM (m,s)).2)) (.ao (.c0 ⟨m,(A.k JM (m,s)).1⟩)))
def Q0(A:aU):adr->LT (Bool×Net×Int) adr
 | .c0 p=>.br (A.bG 0 0) (.bZ 37 "queue.go:33") (.ao (.c1 ⟨p.a4,p.a5⟩))
 | .c1 p=>.br (A.bG 0 0) (.bZ 37 "queue.go:38") (.ao (.c2 ⟨p.b4.1,p.b4,p.b4,p.b5,p.b5.1,(A.c_ (A.b .mul .i64 p.b4.2.1 (A.c_ (A.b .mul .i64 (A.c_ p.b5.1 2) p.b4.1) 1)) (A.b .mul .i64 4 (A.b .mul .i64 p.b5.1 p.b4.2.2.2.1)))⟩))
 | .c2 p=>.br (A.bG 0 p.c0) (.br (A.cu (A.k wG (p.c2,0)).2 0) (.ret (false,(Ty.gw jH:Net),(A.k wG (p.c2,0)).2)) (.ar (A.bU (A.l ((acx A p):List cr)) 502633886983) (.ao (.c3 ⟨p.c0,p.c2,p.c4,p.c5,p.c6,p.c7⟩ (A.c_ 0 1) (acx A p))))) (.ret (true,(true,p.c4,p.c5,p.c6,p.c7,(true,([]:List je),0),([]:List cr),([]:List dF),([]:List dF),([]:List sr),([]:List ny)),0))
 | .c3 p d1 a=>.br (A.bG d1 p.d0) (.br (A.cu (A.k wG (p.d2,d1)).2 0) (.ret (false,(Ty.gw jH:Net),(A.k wG (p.d2,d1)).2)) (.ar (A.bU (A.l (A.p a ([((A.k wG (p.d2,d1)).1,(0,0,([]:List Int)),0,0,0,false,false,false)]:List cr))) 502633886983) (.ao (.c3 p (A.c_ d1 1) (A.p a ([((A.k wG (p.d2,d1)).1,(0,0,([]:List Int)),0,0,0,false,false,false)]:List cr)))))) (.ret (true,(true,p.d4,p.d5,p.d6,p.d7,(true,([]:List je),0),a,([]:List dF),([]:List dF),([]:List sr),([]:List ny)),0))
def sS:(ax×jv)->Bool×Net×Int:=λ(m,s)=>gG (Q0 af) (VN af m s) (false,Ty.gw jH,Ty.aS [yI])
def LV:(ax×jv)->Bool:=λ(m,s)=>gu (Q0 af) (VN af m s)
def apI:o4:=⟨[bJ,pK],avk,true, [yI],LV,sS⟩
theorem apF:o4.bE prog 40 apI:=vY ap dE sl 65 [⟨40,10, [[2,9,57,58]]⟩,⟨76,5, [[0,4,14,15,16], [2,6]]⟩,⟨76,11, [[4,29,30,31], [2,6]]⟩] [] (λA (m,s)=>VN A m s) Q0 ajl (kz (fc func40 (fc func76 fz)) (sc ag7 (sc arb sz))) (λA y=>match y with |.c0 p=>⟨22,sl,by kernel_rfl⟩|.c1 p=>⟨78,sl,by kernel_rfl⟩|.c2 p=>⟨59,sl,by kernel_rfl⟩|.c3 p d1 b=>⟨59,sl,by kernel_rfl⟩) λ((m,s):(ax×jv)) a h=>fT a
structure WQ where
 (a1:List Bool) (a2:Int) (a4:ax) (a5:Net)
structure Kr where
 (b0:Int) (b1:List Bool) (b2:Int) (b4:ax)
inductive ado where
 | c0 (p:WQ) (a0:Int) (a3:Int)
 | c1 (p:Kr) (b3:Int) (b5:Net)
noncomputable def aji:ado->iB
 | .c0 p a0 a3=>⟨[⟨17,100,(en [(2,.ptr 0 0),(6,.ptr 1 0),(8,vi a0),(27,.sl .bool p.a1),(28,vi p.a2),(29,vi a3)]),sk f17 [1,1,1,1,0,1,0,0],[],none⟩],[.ay false (dc bJ p.a4),wE p.a5 2 3 4 5 6 7,wC p.a5 8,wA p.a5,wv p.a5,bxB p.a5,wD p.a5,wB p.a5,wy p.a5,.a_]⟩
 | .c1 p b3 a=>⟨[⟨17,100,(en [(2,.ptr 0 0),(6,.ptr 1 0),(8,vi p.b0),(44,.sl .bool p.b1),(45,vi p.b2),(46,vi b3)]),sk f17 [1,1,1,1,1,0,1,0,0],[],none⟩],[.ay false (dc bJ p.b4),wE a 2 3 4 5 6 7,wC a 8,wA a,wv a,bxB a,wD a,wB a,wy a,.a_]⟩
def Rl(A:aU)(p:Kr)(a:Int)(b:Net):List cr:=(A.set b.2.2.2.2.2.2.1 a ((A.k Sj (p.b4,(A.n bP b.2.2.2.2.2.2.1 a:cr).1,p.b0)).1,(A.n bP b.2.2.2.2.2.2.1 a:cr).2))
def Ar(A:aU)(p:Kr)(a:Int)(b:Net):List cr:=(md A bP (Rl A p a b) a λ(c:cr)=>(y9 c ((A.c_ p.b4.2.1 (A.n yI b.2.2.1.2.2.1 a:Int)),(0:Int),([]:List Int))))
def VM(A:aU)(m:ax)(s:jv):LT (Bool×Net×Int) ado:=.ar (A.k LV (m,s)) (.br (A.k sS (m,s)).1 (.br (A.cu (A.k sS (m,s)).2.2 0) (.ret (false,(Ty.gw jH:Net),(A.k sS (m,s)).2.2)) (.ao (.c0 ⟨(A.k sS (m,s)).2.1.2.2.1.2.1,(A.l (A.k sS (m,s)).2.1.2.2.1.2.1),m,(A.k sS (m,s)).2.1⟩ 0 0))) (.br (A.cu (A.k sS (m,s)).2.2 0) (.ret (false,(Ty.gw jH:Net),(A.k sS (m,s)).2.2)) (.bZ 73 "busnet.go:95")))
def Je(A:aU):ado->LT (Bool×Net×Int) ado
 | .c0 p a0 a3=>.br (A.bG a3 p.a2) (.iZ A a3 p.a1 (.br (A.n .bool p.a1 a3:Bool) (.ar (A.bU 0 a3) (.ao (.c0 p (A.b .or .i64 a0 (A.b .shl .i64 1 a3)) (A.c_ a3 1)))) (.ao (.c0 p a0 (A.c_ a3 1))))) (.ao (.c1 ⟨a0,p.a5.2.2.1.2.1,(A.l p.a5.2.2.1.2.1),p.a4⟩ 0 p.a5))
 | .c1 p b3 a=>.br (A.bG b3 p.b2) (.iZ A b3 p.b1 (.br (A.not (A.n .bool p.b1 b3:Bool)) (.ao (.c1 p (A.c_ b3 1) a)) (.iZ A b3 a.2.2.2.2.2.2.1 (.br (A.cu (A.k Sj (p.b4,(A.n bP a.2.2.2.2.2.2.1 b3:cr).1,p.b0)).2 0) (.ret (false,(Ty.gw jH:Net),(A.k Sj (p.b4,(A.n bP a.2.2.2.2.2.2.1 b3:cr).1,p.b0)).2)) (.iZ A b3 a.2.2.1.2.2.1 (.ar (A.k xP ((rC a (Ar A p b3 a)),(A.n bP (Ar A p b3 a) b3:cr).2.1.1,4,b3)) (.oo A (Ar A p b3 a) (.ao (.c1 p (A.c_ b3 1) (A.k Be ((rC a (Ar A p b3 a)),(A.n bP (Ar A p b3 a) b3:cr).2.1.1,4,b3)).1))))))))) (.ret (true,a,0))
def nL:(ax×jv)->Bool×Net×Int:=λ(m,s)=>gG (Je af) (VM af m s) (false,Ty.gw jH,Ty.aS [yI])
def GF:(ax×jv)->Bool:=λ(m,s)=>gu (Je af) (VM af m s)
def apH:o4:=⟨[bJ,pK],avk,true, [yI],GF,nL⟩
theorem agR:o4.bE prog 17 apH:=vY ap dE sl 49 [⟨17,6, [[2,6,8,27,28,29]]⟩,⟨17,12, [[2,6,8,44,45,46]]⟩] [] (λA (m,s)=>VM A m s) Je aji ⟨(fc func17 fz),(sc aqD sz),(oc apF oz),iz,(mc N3 mz),pz⟩ (λA y=>match y with |.c0 p b c=>⟨40,sl,by kernel_rfl⟩|.c1 p b3 e=>⟨101,sl,by kernel_rfl⟩) λ((m,s):(ax×jv)) a h=>fT a
def abO(A:aU)(a:Net):LT (Net×Bool) Empty:=.br (A.not a.1) (.ret (a,true)) (.ar (A.k Qz (a.2.2.2.2.2.1,())) (.ret ((r9 a (A.k NO (a.2.2.2.2.2.1,())).1),(A.bK (A.k NO (a.2.2.2.2.2.1,())).2 0))))
def mY:Net×Unit->Net×Bool:=λ(a,())=>gG Empty.elim (abO af a) (Ty.aS [jH],Ty.aS [.bool])
def GG:Net×Unit->Bool:=λ(a,())=>gu Empty.elim (abO af a)&&decide (VF.lens [eG] (mY (a,())).1=VF.lens [eG] ((a,()):Net×Unit).1)
def ao5:bV:=⟨[eG], [], [.bool],GG,mY,false,false⟩
theorem Zz:bV.bE prog 21 ao5:=bI ap dE sl 42 [] [] (λA (a,())=>abO A a) (λ_=>Empty.elim) Empty.elim ⟨(fc func21 (fc func45 fz)),sz,oz,iz,(mc aoK mz),pz⟩ (λ_ y=>y.elim) (λ((a,()):Net×Unit) b c h=>Ch b) (z:=λ_ _ h=>Ci h)
def abP(A:aU)(a:Net):LT (Net×Int) Empty:=.br (A.not a.1) (.ret (a,1)) (.ar (A.k GG (a,())) (.oo A a.2.2.2.2.2.2.1 (.br (A.k mY (a,())).2 (.ret ((A.k mY (a,())).1,220)) (.ar (A.k CV ((A.k mY (a,())).1,())) (.oo A (A.k mY (a,())).1.2.2.2.2.2.2.1 (.ret ((A.k xq ((A.k mY (a,())).1,())).1,0)))))))
def FV:Net×Unit->Net×Int:=λ(a,())=>gG Empty.elim (abP af a) (Ty.aS [jH],Ty.aS [yI])
def LN:Net×Unit->Bool:=λ(a,())=>gu Empty.elim (abP af a)&&decide (VF.lens [eG] (FV (a,())).1=VF.lens [eG] ((a,()):Net×Unit).1)
def ao6:bV:=⟨[eG], [], [yI],LN,FV,false,false⟩
theorem aoG:bV.bE prog 22 ao6:=bI ap dE sl 55 [] [] (λA (a,())=>abP A a) (λ_=>Empty.elim) Empty.elim ⟨(fc func22 (fc func45 fz)),sz,oz,iz,(mc Zz (mc agK mz)),pz⟩ (λ_ y=>y.elim) (λ((a,()):Net×Unit) b c h=>Ch b) (z:=λ_ _ h=>Ci h)
def afH(A:aU)(a:Net):LT (Net×Int) Empty:=.br (A.not a.1) (.ret (a,0)) (.ar (A.k nc (a.2.2.2.2.2.1,())) (.ret ((r9 a (A.k dX (a.2.2.2.2.2.1,())).1),(A.k dX (a.2.2.2.2.2.1,())).2)))
def DV:Net×Unit->Net×Int:=λ(a,())=>gG Empty.elim (afH af a) (Ty.aS [jH],Ty.aS [yI])
def LO:Net×Unit->Bool:=λ(a,())=>gu Empty.elim (afH af a)&&decide (VF.lens [eG] (DV (a,())).1=VF.lens [eG] ((a,()):Net×Unit).1)
def ao7:bV:=⟨[eG], [], [yI],LO,DV,false,false⟩
theorem aoH:bV.bE prog 23 ao7:=bI ap dE sl 45 [] [] (λA (a,())=>afH A a) (λ_=>Empty.elim) Empty.elim ⟨(fc func23 (fc func45 fz)),sz,oz,iz,(mc D2 mz),pz⟩ (λ_ y=>y.elim) (λ((a,()):Net×Unit) b c h=>Ch b) (z:=λ_ _ h=>Ci h)
structure aib where
 (a0:Int) (a2:Net)
structure aic where
 (b0:Int) (b2:Net)
inductive adp where
 | c0 (p:aib)
 | c1 (p:aic) (b1:Int) (b3:List Node)
noncomputable def ajj:adp->iB
 | .c0 p=>⟨[⟨19,25,(en [(3,.gb true),(11,.own 1),(12,vi p.a0),(13,vi 0)]),sk f19 [1,1,0,1,0,1,0,0],[],none⟩],[wE p.a2 2 1 3 4 5 6,wA p.a2,wC p.a2 7,wv p.a2,bxB p.a2,wD p.a2,wB p.a2,wy p.a2,.a_]⟩
 | .c1 p b1 b3=>⟨[⟨19,25,(en [(3,.own 2),(11,.own 1),(12,vi p.b0),(13,vi b1)]),sk f19 [1,1,0,1,0,1,0,0],[],none⟩],[wE p.b2 3 1 4 5 6 7,wA p.b2,.arr false eT b3,wC p.b2 8,wv p.b2,bxB p.b2,wD p.b2,wB p.b2,wy p.b2,.a_]⟩
def afG(A:aU)(a:Net):LT (Net×(List Node)) adp:=.br a.1 (.ao (.c0 ⟨(A.l a.2.2.2.2.2.2.1),a⟩)) (.ret (a,([]:List Node)))
def Vt(A:aU):adp->LT (Net×(List Node)) adp
 | .c0 p=>.br (A.bG 0 p.a0) (.iZ A 0 p.a2.2.2.2.2.2.2.1 (.ar (A.k Aj (A.n bP p.a2.2.2.2.2.2.2.1 0:cr).1) (.ar (A.bU (A.l (([(A.k xr (A.n bP p.a2.2.2.2.2.2.2.1 0:cr).1)]:List Node):List Node)) 676622540169) (.ao (.c1 ⟨p.a0,p.a2⟩ (A.c_ 0 1) ([(A.k xr (A.n bP p.a2.2.2.2.2.2.2.1 0:cr).1)]:List Node)))))) (.ret (p.a2,([]:List Node)))
 | .c1 p b1 b3=>.br (A.bG b1 p.b0) (.iZ A b1 p.b2.2.2.2.2.2.2.1 (.ar (A.k Aj (A.n bP p.b2.2.2.2.2.2.2.1 b1:cr).1) (.ar (A.bU (A.l (A.p b3 ([(A.k xr (A.n bP p.b2.2.2.2.2.2.2.1 b1:cr).1)]:List Node))) 676622540169) (.ao (.c1 p (A.c_ b1 1) (A.p b3 ([(A.k xr (A.n bP p.b2.2.2.2.2.2.2.1 b1:cr).1)]:List Node))))))) (.ret (p.b2,b3))
def FU:Net×Unit->Net×(List Node):=λ(a,())=>gG (Vt af) (afG af a) (Ty.aS [jH],Ty.aS [(.slice eT)])
def Qy:Net×Unit->Bool:=λ(a,())=>gu (Vt af) (afG af a)&&decide (VF.lens [eG] (FU (a,())).1=VF.lens [eG] ((a,()):Net×Unit).1)
def ao4:bV:=⟨[eG], [], [(.slice eT)],Qy,FU,false,false⟩
theorem aoF:bV.bE prog 19 ao4:=bI ap dE sl 49 [⟨19,4, [[3,11,12,13]]⟩] [] (λA (a,())=>afG A a) Vt ajj (kz (fc func19 (fc func45 fz)) (sc abd sz)) (λA y=>match y with |.c0 p=>⟨36,sl,by kernel_rfl⟩|.c1 p b1 b3=>⟨36,sl,by kernel_rfl⟩) (λ((a,()):Net×Unit) b c h=>Ch b) (z:=λ_ _ h=>Ci h)
structure RG where
 (a0:Int)
structure RH where
 (b0:Int)
inductive RS where
 | c0 (p:RG) (a1:Int) (a2:Net)
 | c1 (p:RH) (b1:Int) (b2:Net) (b3:List dF)
noncomputable def adP:RS->iB
 | .c0 p a1 a2=>⟨[⟨24,58,(en [(0,.ptr 0 0),(5,.gb true),(24,.own 2),(25,vi p.a0),(26,vi a1)]),sk f24 [1,1,1,0,1,0,0],[],none⟩],[wE a2 3 1 2 4 5 6,wA a2,wv a2,wC a2 7,bxB a2,wD a2,wB a2,wy a2,.a_]⟩
 | .c1 p b1 b2 b3=>⟨[⟨24,58,(en [(0,.ptr 0 0),(5,.own 2),(24,.own 3),(25,vi p.b0),(26,vi b1)]),sk f24 [1,1,1,0,1,0,0],[],none⟩],[wE b2 4 1 3 5 6 7,wA b2,.arr false eU b3,wv b2,wC b2 8,bxB b2,wD b2,wB b2,wy b2,.a_]⟩
def Uh(A:aU)(a1:Int)(a2:Net):List dF:=([((A.n eU a2.2.2.2.2.2.2.2.1 a1:dF).1,(A.n eU a2.2.2.2.2.2.2.2.1 a1:dF).2.1,(A.n eU a2.2.2.2.2.2.2.2.1 a1:dF).2.2.1,(A.n eU a2.2.2.2.2.2.2.2.1 a1:dF).2.2.2.1,(A.k lq (A.n eU a2.2.2.2.2.2.2.2.1 a1:dF).2.2.2.2))]:List dF)
def Ui(A:aU)(a:Int)(b:Net):List dF:=([((A.n eU b.2.2.2.2.2.2.2.1 a:dF).1,(A.n eU b.2.2.2.2.2.2.2.1 a:dF).2.1,(A.n eU b.2.2.2.2.2.2.2.1 a:dF).2.2.1,(A.n eU b.2.2.2.2.2.2.2.1 a:dF).2.2.2.1,(A.k lq (A.n eU b.2.2.2.2.2.2.2.1 a:dF).2.2.2.2))]:List dF)
def Ub(A:aU)(b:Net)(a:Int):LT (Net×(List dF)) RS:=.br (A.not b.1) (.ret (b,([]:List dF))) (.ao (.c0 ⟨(A.l b.2.2.2.2.2.2.2.1)⟩ 0 b))
def D8(A:aU):RS->LT (Net×(List dF)) RS
 | .c0 p a1 a2=>.br (A.bG a1 p.a0) (.iZ A a1 a2.2.2.2.2.2.2.2.1 (.ar (A.k nc (a2.2.2.2.2.2.1,())) (.br (A.nM (A.n eU a2.2.2.2.2.2.2.2.1 a1:dF).2.1.2 (A.lI (A.k dX (a2.2.2.2.2.2.1,())).2 (A.b .mul .i64 2 a2.2.1.2.1))) (.ar (A.bU (A.l ((Uh A a1 a2):List dF)) 2199023255552) (.ao (.c1 ⟨p.a0⟩ (A.c_ a1 1) (r9 a2 (A.k dX (a2.2.2.2.2.2.1,())).1) (Uh A a1 a2)))) (.ao (.c0 p (A.c_ a1 1) (r9 a2 (A.k dX (a2.2.2.2.2.2.1,())).1)))))) (.ret (a2,([]:List dF)))
 | .c1 p b1 b2 b3=>.br (A.bG b1 p.b0) (.iZ A b1 b2.2.2.2.2.2.2.2.1 (.ar (A.k nc (b2.2.2.2.2.2.1,())) (.br (A.nM (A.n eU b2.2.2.2.2.2.2.2.1 b1:dF).2.1.2 (A.lI (A.k dX (b2.2.2.2.2.2.1,())).2 (A.b .mul .i64 2 b2.2.1.2.1))) (.ar (A.bU (A.l (A.p b3 (Ui A b1 b2))) 2199023255552) (.ao (.c1 p (A.c_ b1 1) (r9 b2 (A.k dX (b2.2.2.2.2.2.1,())).1) (A.p b3 (Ui A b1 b2))))) (.ao (.c1 p (A.c_ b1 1) (r9 b2 (A.k dX (b2.2.2.2.2.2.1,())).1) b3))))) (.ret (b2,b3))
def K7:Net×Int->Net×(List dF):=λ(b,a)=>gG (D8 af) (Ub af b a) (Ty.aS [jH],Ty.aS [(.slice eU)])
def LQ:Net×Int->Bool:=λ(b,a)=>(decide (a=0)&&gu (D8 af) (Ub af b a))&&decide (VF.lens [eG] (K7 (b,a)).1=VF.lens [eG] ((b,a):Net×Int).1)
def akM:bV:=⟨[eG], [yI], [(.slice eU)],LQ,K7,false,false⟩
theorem akH:bV.bE prog 24 akM:=qb ap dE sl 62 [⟨24,5, [[0,5,24,25,26]]⟩] [] [some 0] (λA (b,a)=>Ub A b a) D8 adP ⟨(fc func24 (fc func45 fz)),(sc zz sz),oz,iz,(mc D2 mz),pz⟩ (λA y=>match y with |.c0 p a1 a2=>⟨64,sl,by kernel_rfl⟩|.c1 p b1 b2 b3=>⟨64,sl,by kernel_rfl⟩) (λ((b,a):Net×Int) c e h=>fT ((fv _ _).mp ((fv _ _).mp c).1).2) (v:=(λ_ (y:Int) h=>⟨@of_decide_eq_true (y=0) _ ((fv _ _).mp ((fv _ _).mp h).1).1,trivial⟩)) (z:=λ_ _ h=>Ci h)
structure RI where
 (a0:Int)
structure RJ where
 (b0:Int)
inductive RU where
 | c0 (p:RI) (a1:Int) (a2:Net)
 | c1 (p:RJ) (b1:Int) (b2:Net) (b3:List dF)
noncomputable def adR:RU->iB
 | .c0 p a1 a2=>⟨[⟨24,58,(en [(0,.ptr 0 0),(5,.gb true),(24,.own 2),(25,vi p.a0),(26,vi a1)]),sk f24 [1,1,1,0,1,0,0],[],none⟩],[wE a2 3 1 4 2 5 6,wA a2,bxB a2,wC a2 7,wv a2,wD a2,wB a2,wy a2,.a_]⟩
 | .c1 p b1 b2 b3=>⟨[⟨24,58,(en [(0,.ptr 0 0),(5,.own 2),(24,.own 3),(25,vi p.b0),(26,vi b1)]),sk f24 [1,1,1,0,1,0,0],[],none⟩],[wE b2 4 1 5 3 6 7,wA b2,.arr false eU b3,bxB b2,wC b2 8,wv b2,wD b2,wB b2,wy b2,.a_]⟩
def yN(A:aU)(a1:Int)(a2:Net):dF:=(A.n eU a2.2.2.2.2.2.2.2.2.1 a1:dF)
def Uj(A:aU)(a1:Int)(a2:Net):List dF:=([((yN A a1 a2).1,(yN A a1 a2).2.1,(yN A a1 a2).2.2.1,(yN A a1 a2).2.2.2.1,(A.k lq (yN A a1 a2).2.2.2.2))]:List dF)
def yO(A:aU)(a:Int)(b:Net):dF:=(A.n eU b.2.2.2.2.2.2.2.2.1 a:dF)
def Uk(A:aU)(a:Int)(b:Net):List dF:=([((yO A a b).1,(yO A a b).2.1,(yO A a b).2.2.1,(yO A a b).2.2.2.1,(A.k lq (yO A a b).2.2.2.2))]:List dF)
def Uc(A:aU)(b:Net)(a:Int):LT (Net×(List dF)) RU:=.br (A.not b.1) (.ret (b,([]:List dF))) (.ao (.c0 ⟨(A.l b.2.2.2.2.2.2.2.2.1)⟩ 0 b))
def D9(A:aU):RU->LT (Net×(List dF)) RU
 | .c0 p a1 a2=>.br (A.bG a1 p.a0) (.iZ A a1 a2.2.2.2.2.2.2.2.2.1 (.ar (A.k nc (a2.2.2.2.2.2.1,())) (.br (A.nM (yN A a1 a2).2.1.2 (A.lI (A.k dX (a2.2.2.2.2.2.1,())).2 (A.b .mul .i64 2 a2.2.1.2.1))) (.ar (A.bU (A.l ((Uj A a1 a2):List dF)) 2199023255552) (.ao (.c1 ⟨p.a0⟩ (A.c_ a1 1) (r9 a2 (A.k dX (a2.2.2.2.2.2.1,())).1) (Uj A a1 a2)))) (.ao (.c0 p (A.c_ a1 1) (r9 a2 (A.k dX (a2.2.2.2.2.2.1,())).1)))))) (.ret (a2,([]:List dF)))
 | .c1 p b1 b2 b3=>.br (A.bG b1 p.b0) (.iZ A b1 b2.2.2.2.2.2.2.2.2.1 (.ar (A.k nc (b2.2.2.2.2.2.1,())) (.br (A.nM (yO A b1 b2).2.1.2 (A.lI (A.k dX (b2.2.2.2.2.2.1,())).2 (A.b .mul .i64 2 b2.2.1.2.1))) (.ar (A.bU (A.l (A.p b3 (Uk A b1 b2))) 2199023255552) (.ao (.c1 p (A.c_ b1 1) (r9 b2 (A.k dX (b2.2.2.2.2.2.1,())).1) (A.p b3 (Uk A b1 b2))))) (.ao (.c1 p (A.c_ b1 1) (r9 b2 (A.k dX (b2.2.2.2.2.2.1,())).1) b3))))) (.ret (b2,b3))
def K8:Net×Int->Net×(List dF):=λ(b,a)=>gG (D9 af) (Uc af b a) (Ty.aS [jH],Ty.aS [(.slice eU)])
def LS:Net×Int->Bool:=λ(b,a)=>(decide (a=1)&&gu (D9 af) (Uc af b a))&&decide (VF.lens [eG] (K8 (b,a)).1=VF.lens [eG] ((b,a):Net×Int).1)
def akN:bV:=⟨[eG], [yI], [(.slice eU)],LS,K8,false,false⟩
theorem akI:bV.bE prog 24 akN:=qb ap dE sl 62 [⟨24,5, [[0,5,24,25,26]]⟩] [] [some 1] (λA (b,a)=>Uc A b a) D9 adR ⟨(fc func24 (fc func45 fz)),(sc zz sz),oz,iz,(mc D2 mz),pz⟩ (λA y=>match y with |.c0 p a1 a2=>⟨64,sl,by kernel_rfl⟩|.c1 p b1 b2 b3=>⟨64,sl,by kernel_rfl⟩) (λ((b,a):Net×Int) c e h=>fT ((fv _ _).mp ((fv _ _).mp c).1).2) (v:=(λ_ (y:Int) h=>⟨@of_decide_eq_true (y=1) _ ((fv _ _).mp ((fv _ _).mp h).1).1,trivial⟩)) (z:=λ_ _ h=>Ci h)
def Ud(A:aU)(b:Net)(a:Int):LT (Net×(List dF)) Empty:=.br (A.not b.1) (.ret (b,([]:List dF))) (.br (A.bG a 0) (.ret (b,([]:List dF))) (.br (A.nM a 2) (.ret (b,([]:List dF))) (.ar (A.and (A.bU 0 a) (A.bG a 2)) (.bZ 21 "busnet.go:171"))))
def FW:Net×Int->Net×(List dF):=λ(b,a)=>gG Empty.elim (Ud af b a) (Ty.aS [jH],Ty.aS [(.slice eU)])
def LU:Net×Int->Bool:=λ(b,a)=>gu Empty.elim (Ud af b a)&&decide (VF.lens [eG] (FW (b,a)).1=VF.lens [eG] ((b,a):Net×Int).1)
def akO:bV:=⟨[eG], [yI], [(.slice eU)],LU,FW,false,false⟩
theorem akJ:bV.bE prog 24 akO:=bI ap dE sl 56 [] [] (λA (b,a)=>Ud A b a) (λ_=>Empty.elim) Empty.elim (kz (fc func24 (fc func45 fz)) sz) (λ_ y=>y.elim) (λ((b,a):Net×Int) c e h=>Ch c) (z:=λ_ _ h=>Ci h)
def Bd:Net×Int->Net×List dF:=λx=>bif decide (x.2=0) then K7 x else bif decide (x.2=1) then K8 x else FW x
def LP:Net×Int->Bool:=λx=>bif decide (x.2=0) then LQ x else bif decide (x.2=1) then LS x else LU x
def ao8:bV:=⟨[eG], [yI], [.slice eU],LP,Bd,false,false⟩
theorem aoI:bV.bE prog 24 ao8:=(akH.either (akI.either akJ))
structure WS where
 (a0:Int) (a2:Net)
structure WT where
 (b0:Int) (b2:Net)
inductive adq where
 | c0 (p:WS)
 | c1 (p:WT) (b1:Int) (b3:List ny)
noncomputable def ajk:adq->iB
 | .c0 p=>⟨[⟨28,30,(en [(3,.gb true),(11,.own 2),(12,vi p.a0),(13,vi 0)]),sk f28 [1,1,0,1,0,1,0,0],[],none⟩],[wE p.a2 3 1 4 5 6 2,wA p.a2,wB p.a2,wC p.a2 7,wv p.a2,bxB p.a2,wD p.a2,wy p.a2,.a_]⟩
 | .c1 p b1 b3=>⟨[⟨28,30,(en [(3,.own 2),(11,.own 3),(12,vi p.b0),(13,vi b1)]),sk f28 [1,1,0,1,0,1,0,0],[],none⟩],[wE p.b2 4 1 5 6 7 3,wA p.b2,.arr false qp b3,wB p.b2,wC p.b2 8,wv p.b2,bxB p.b2,wD p.b2,wy p.b2,.a_]⟩
def Hr(A:aU)(p:WS):ny:=(A.n qp p.a2.2.2.2.2.2.2.2.2.2.2 0:ny)
def Ht(A:aU)(p:WT)(a:Int):ny:=(A.n qp p.b2.2.2.2.2.2.2.2.2.2.2 a:ny)
def ang(A:aU)(a:Net):LT (Net×(List ny)) adq:=.br a.1 (.ao (.c0 ⟨(A.l a.2.2.2.2.2.2.2.2.2.2),a⟩)) (.ar (A.k LW (([]:List ny),())) (.ret (a,([]:List ny))))
def alA(A:aU):adq->LT (Net×(List ny)) adq
 | .c0 p=>.br (A.bG 0 p.a0) (.iZ A 0 p.a2.2.2.2.2.2.2.2.2.2.2 (.ar (A.k Aj (Hr A p).2) (.ar (A.bU (A.l (([(lp1 (Hr A p) (A.k xr (Hr A p).2))]:List ny):List ny)) 651562446089) (.ao (.c1 ⟨p.a0,p.a2⟩ (A.c_ 0 1) ([(lp1 (Hr A p) (A.k xr (Hr A p).2))]:List ny)))))) (.ar (A.k LW (([]:List ny),())) (.ret (p.a2,([]:List ny))))
 | .c1 p b1 b3=>.br (A.bG b1 p.b0) (.iZ A b1 p.b2.2.2.2.2.2.2.2.2.2.2 (.ar (A.k Aj (Ht A p b1).2) (.ar (A.bU (A.l (A.p b3 ([(lp1 (Ht A p b1) (A.k xr (Ht A p b1).2))]:List ny))) 651562446089) (.ao (.c1 p (A.c_ b1 1) (A.p b3 ([(lp1 (Ht A p b1) (A.k xr (Ht A p b1).2))]:List ny))))))) (.ar (A.k LW (b3,())) (.ret (p.b2,(A.k YC (b3,())).1)))
def YB:Net×Unit->Net×(List ny):=λ(a,())=>gG (alA af) (ang af a) (Ty.aS [jH],Ty.aS [(.slice qp)])
def aaf:Net×Unit->Bool:=λ(a,())=>gu (alA af) (ang af a)&&decide (VF.lens [eG] (YB (a,())).1=VF.lens [eG] ((a,()):Net×Unit).1)
def ao9:bV:=⟨[eG], [], [(.slice qp)],aaf,YB,false,false⟩
theorem aoJ:bV.bE prog 28 ao9:=bI ap dE sl 49 [⟨28,4, [[3,11,12,13]]⟩] [] (λA (a,())=>ang A a) alA ajk ⟨(fc func28 (fc func45 fz)),(sc abd sz),oz,(ic aoj iz),mz,pz⟩ (λA y=>match y with |.c0 p=>⟨39,sl,by kernel_rfl⟩|.c1 p b1 b3=>⟨39,sl,by kernel_rfl⟩) (λ((a,()):Net×Unit) b c h=>Ch b) (z:=λ_ _ h=>Ci h)
inductive adn where
 | c0 (a0:Net)
 | c1
noncomputable def ajh:adn->iB
 | .c0 a0=>⟨[⟨10,24,(en [(6,.ptr 0 0)]),sk f10 [1,1,1,0,0,0],[],none⟩],[wE a0 1 2 3 4 5 6,wC a0 7,wA a0,wv a0,bxB a0,wD a0,wB a0,wy a0,.a_]⟩
 | .c1=>⟨[⟨10,24,(en [(6,.jB)]),sk f10 [1,1,1,0,0,0],[],none⟩],[.a_]⟩
def ane(A:aU)(m:ax)(s:jv):LT (List ny×Int) adn:=.ar (A.k GF (m,s)) (.br (A.k nL (m,s)).1 (.br (A.cu (A.k nL (m,s)).2.2 0) (.ret (([]:List ny),(A.k nL (m,s)).2.2)) (.ao (.c0 (A.k nL (m,s)).2.1))) (.br (A.cu (A.k nL (m,s)).2.2 0) (.ret (([]:List ny),(A.k nL (m,s)).2.2)) (.ao (.c1))))
def alz(A:aU):adn->LT (List ny×Int) adn
 | .c0 a0=>.ar (A.k GG (a0,())) (.oo A a0.2.2.2.2.2.2.1 (.br (A.not (A.k mY (a0,())).2) (.ar (A.k CV ((A.k mY (a0,())).1,())) (.oo A (A.k mY (a0,())).1.2.2.2.2.2.2.1 (.ao (.c0 (A.k xq ((A.k mY (a0,())).1,())).1)))) (.ar (A.k aaf ((A.k mY (a0,())).1,())) (.oo A (A.k mY (a0,())).1.2.2.2.2.2.2.1 (.ret ((A.k YB ((A.k mY (a0,())).1,())).2,0))))))
 | .c1=>.bZ 194 "busnet.go:237"
def NN:(ax×jv)->(List ny×Int):=λ(m,s)=>gG (alz af) (ane af m s) (Ty.aS [(.slice qp),yI])
def aae:(ax×jv)->Bool:=λ(m,s)=>gu (alz af) (ane af m s)
def atC:aK:=⟨[bJ,pK], [(.slice qp),yI],aae,NN,false⟩
theorem arq:Sd 10 atC:=bp ap dE sl 37 [⟨10,4, [[6]]⟩] [] (λA (m,s)=>ane A m s) alz ajh ⟨(fc func10 fz),sz,(oc agR oz),iz,(mc Zz (mc aoJ (mc agK mz))),pz⟩ (λA y=>match y with |.c0 b=>⟨22,sl,by kernel_rfl⟩|.c1=>⟨10,sl,by kernel_rfl⟩) λ((m,s):ax×jv) a h=>fT a
def anf(A:aU)(s:jv):LT Bool Empty:=.br (A.bU (A.l s.2.2.2.2.2.2.1) 300) (.br (A.bU (A.l s.2.2.2.2.2.2.2) 300) (.ret (A.bU (A.l s.2.2.2.2.2.1) 1100)) (.ret false)) (.ret false)
def YA:jv->Bool:=λs=>(anf af s).val (Ty.aS [.bool])
def atD:aK:=.all [pK] [.bool] YA
theorem ars:Sd 12 atD:=fa (aR ap dE sl 31 [] (λA s=>anf A s) (kz (fc func12 fz) sz))
def mJ:List Int:=([2]:List Int)
def Hq(A:aU):ax×Int×List Bool×List Int×List Int×List Int×List Int×List dO×List fS:=((4,(A.c_ 76 (A.k NC (4,0,38,16,0,1,(A.p (A.p (A.p [true] [true]) [true]) [true]),([((A.p (A.p (A.p (mJ) (mJ)) (mJ)) (mJ)),(A.p (A.p (A.p [true] [true]) [true]) [true]), [true])]:List Mode)))),38,16,0,1,(A.p (A.p (A.p [true] [true]) [true]) [true]),([((A.p (A.p (A.p (mJ) (mJ)) (mJ)) (mJ)),(A.p (A.p (A.p [true] [true]) [true]) [true]), [true])]:List Mode)),0,([]:List Bool),([]:List Int),([]:List Int),([]:List Int),([]:List Int),([]:List dO),([]:List fS))
def Df(A:aU):ny:=(A.n qp (A.k NN (Hq A)).1 3:ny)
def anc(A:aU):LT Bool Empty:=.ar (A.bU (A.l ([true]:List Bool)) 140737488355328) (.ar (A.bU (A.l (mJ)) 17592186044416) (.ar (A.bU (A.l (A.p [true] [true])) 140737488355328) (.ar (A.bU (A.l (A.p (mJ) (mJ))) 17592186044416) (.ar (A.bU (A.l (A.p (A.p [true] [true]) [true])) 140737488355328) (.ar (A.bU (A.l (A.p (A.p (mJ) (mJ)) (mJ))) 17592186044416) (.ar (A.bU (A.l (A.p (A.p (A.p [true] [true]) [true]) [true])) 140737488355328) (.ar (A.bU (A.l (A.p (A.p (A.p (mJ) (mJ)) (mJ)) (mJ))) 17592186044416) (.ar (A.k aae (Hq A)) (.br (A.bK (A.k NN (Hq A)).2 0) (.br (A.bK (A.l (A.k NN (Hq A)).1) 4) (.iZ A 3 (A.k NN (Hq A)).1 (.br (A.bK (Df A).1 1) (.ret (A.and (A.bK (Df A).2.2.2.1.1 1) (A.and (A.bK (Df A).2.2.2.1.2.1 0) (A.and (A.bK (Df A).2.2.2.1.2.2.1 0) (A.and (A.bK (Df A).2.2.2.1.2.2.2.1 0) (A.and (A.bK (Df A).2.2.2.1.2.2.2.2 15) true)))))) (.ret false))) (.ret false)) (.ret false))))))))))
def JO:Unit->Bool:=λ_=>gG Empty.elim (anc af) (Ty.aS [.bool])
def LM:Unit->Bool:=λ_=>gu Empty.elim (anc af)
def atB:aK:=⟨[], [.bool],LM,JO,false⟩
theorem arp:Sd 9 atB:=bM ap dE (.kN [0,0,2,0,0,2,0,0,2,0,0,2,0,0,0,0,0,2]) 343 [] (λA _=>anc A) (kz (fc func9 (fc func8 fz)) (sc ag3 (sc arq sz))) λ_ a h=>fT a
structure ah9 where
 (a0 a1:Int) (a2:ax) (a3:Net)
structure ah_ where
 (b2:ax)
structure Cj where
 (c0 c1:Int) (c2:List Node) (c3:Int) (c5:ax) (c6:Net)
structure aia where
 (d0 d1 d2:Int) (d3:ax) (d4:Net)
structure WO where
 (e0 e1 e2:Int) (e3:List dF) (e4:Int) (e6:ax) (e7:Net)
inductive adm where
 | c0 (p:ah9)
 | c1 (p:ah_)
 | c2 (p:Cj) (c4:Int)
 | c3 (p:aia)
 | c4 (p:WO) (e5:Int)
noncomputable def ajg:adm->iB
 | .c0 p=>⟨[⟨5,98,(en [(2,.ptr 0 0),(5,.ptr 1 0),(7,vi p.a0),(36,vi p.a1)]),sk f5 [1,1,1,1,1,0,1,0,0],[],none⟩],[.ay false (dc bJ p.a2),wE p.a3 2 3 4 5 6 7,wC p.a3 8,wA p.a3,wv p.a3,bxB p.a3,wD p.a3,wB p.a3,wy p.a3,.a_]⟩
 | .c1 p=>⟨[⟨5,98,(en [(2,.ptr 0 0),(5,.jB),(7,vi 0),(36,vi 0)]),sk f5 [1,1,1,1,1,0,1,0,0],[],none⟩],[.ay false (dc bJ p.b2),.a_]⟩
 | .c2 p c4=>⟨[⟨5,98,(en [(2,.ptr 0 0),(5,.ptr 1 0),(7,vi p.c0),(36,vi p.c1),(39,.sl eT p.c2),(40,vi p.c3),(41,vi c4)]),sk f5 [1,1,1,1,1,0,1,0,0,1,1,0,0,0,1,0,0],[],none⟩],[.ay false (dc bJ p.c5),wE p.c6 2 3 4 5 6 7,wC p.c6 8,wA p.c6,wv p.c6,bxB p.c6,wD p.c6,wB p.c6,wy p.c6,.a_]⟩
 | .c3 p=>⟨[⟨5,98,(en [(2,.ptr 0 0),(5,.ptr 1 0),(7,vi p.d0),(10,vi p.d1),(36,vi p.d2)]),sk f5 [1,1,1,1,1,0,1,0,0,1,1,0,0,1,1,1,1,1,0,0],[],none⟩],[.ay false (dc bJ p.d3),wE p.d4 2 3 4 5 6 7,wC p.d4 8,wA p.d4,wv p.d4,bxB p.d4,wD p.d4,wB p.d4,wy p.d4,.a_]⟩
 | .c4 p e5=>⟨[⟨5,98,(en [(2,.ptr 0 0),(5,.ptr 1 0),(7,vi p.e0),(10,vi p.e1),(36,vi p.e2),(79,.sl eU p.e3),(80,vi p.e4),(81,vi e5)]),sk f5 [1,1,1,1,1,0,1,0,0,1,1,0,0,1,1,1,1,1,0,0,1,0,0,1,0,0],[],none⟩],[.ay false (dc bJ p.e6),wE p.e7 2 3 4 5 6 7,wC p.e7 8,wA p.e7,wv p.e7,bxB p.e7,wD p.e7,wB p.e7,wy p.e7,.a_]⟩
def Ap(A:aU)(p:Cj):Net×Int:=(A.k FV ((A.k mY (p.c6,())).1,()))
def Aq(A:aU)(p:Cj):Net×Int:=(A.k DV ((Ap A p).1,()))
def Ri(A:aU)(m:ax)(s:jv):LT Bool adm:=.ar (A.k LM ()) (.br (A.not (A.k JO ())) (.ret (A.k JO ())) (.br (A.not (A.k YA s)) (.ret (A.k JO ())) (.ar (A.k GF (m,s)) (.br (A.k nL (m,s)).1 (.br (A.cu (A.k nL (m,s)).2.2 0) (.ret false) (.ao (.c0 ⟨0,0,m,(A.k nL (m,s)).2.1⟩))) (.br (A.cu (A.k nL (m,s)).2.2 0) (.ret (A.cu (A.k zk m) 0)) (.ao (.c1 ⟨m⟩)))))))
def rW(A:aU):adm->LT Bool adm
 | .c0 p=>.br (A.bG p.a1 20000) (.ar (A.k Qy (p.a3,())) (.oo A p.a3.2.2.2.2.2.2.1 (.ao (.c2 ⟨p.a0,p.a1,(A.k FU (p.a3,())).2,(A.l (A.k FU (p.a3,())).2),p.a2,(A.k FU (p.a3,())).1⟩ 0)))) (.ret false)
 | .c1 p=>.br (A.bG 0 20000) (.bZ 194 "law.go:142") (.ret false)
 | .c2 p c4=>.br (A.bG c4 p.c3) (.iZ A c4 p.c2 (.br (A.cu (A.n eT p.c2 c4:Node).1 c4) (.ret false) (.br (A.cu (A.k Si (p.c5,(A.n eT p.c2 c4:Node))) 0) (.ret false) (.ao (.c2 p (A.c_ c4 1)))))) (.ar (A.k GG (p.c6,())) (.oo A p.c6.2.2.2.2.2.2.1 (.br (A.k mY (p.c6,())).2 (.ar (A.k LN ((A.k mY (p.c6,())).1,())) (.oo A (A.k mY (p.c6,())).1.2.2.2.2.2.2.1 (.ret (A.bK (Ap A p).2 220)))) (.ar (A.k LN ((A.k mY (p.c6,())).1,())) (.oo A (A.k mY (p.c6,())).1.2.2.2.2.2.2.1 (.br (A.cu (Ap A p).2 0) (.ret false) (.ar (A.k LO ((Ap A p).1,())) (.oo A (Ap A p).1.2.2.2.2.2.2.1 (.br (A.bG (Aq A p).2 p.c0) (.ret false) (.ar (A.k LO ((Aq A p).1,())) (.oo A (Aq A p).1.2.2.2.2.2.2.1 (.ao (.c3 ⟨(A.k DV ((Aq A p).1,())).2,(-1),p.c1,p.c5,(A.k DV ((Aq A p).1,())).1⟩)))))))))))))
 | .c3 p=>.br (A.bU p.d1 2) (.ar (A.k LP (p.d4,p.d1)) (.oo A p.d4.2.2.2.2.2.2.1 (.ao (.c4 ⟨p.d0,p.d1,p.d2,(A.k Bd (p.d4,p.d1)).2,(A.l (A.k Bd (p.d4,p.d1)).2),p.d3,(A.k Bd (p.d4,p.d1)).1⟩ 0)))) (.ao (.c0 ⟨p.d0,(A.c_ p.d2 1),p.d3,p.d4⟩))
 | .c4 p e5=>.br (A.bG e5 p.e4) (.iZ A e5 p.e3 (.br (A.cu (A.k Sc (A.n eU p.e3 e5:dF)) 0) (.ret false) (.br (A.bG p.e1 0) (.ret false) (.br (A.bK p.e1 2) (.ret false) (.ao (.c4 p (A.c_ e5 1))))))) (.ao (.c3 ⟨p.e0,(A.c_ p.e1 1),p.e2,p.e6,p.e7⟩))
def SA:(ax×jv)->Bool:=λ(m,s)=>gG (rW af) (Ri af m s) (Ty.aS [.bool])
def LL:(ax×jv)->Bool:=λ(m,s)=>gu (rW af) (Ri af m s)
theorem ap7(x:ax×jv)(a:LL x=true):aY (rW af) (Ri af x.1 x.2) (SA x):=@fT _ _ (rW af) (Ri af x.1 x.2) (Ty.aS [.bool]) a
def atA:aK:=⟨[bJ,pK], [.bool],LL,SA,false⟩
theorem aro:Sd 5 atA:=bp ap dE (.kN [0,0,2,0,3]) 55 [⟨5,8, [[2,5,7,36]]⟩,⟨5,10, [[2,5,7,36,39,40,41]]⟩,⟨5,21, [[2,5,7,10,36]]⟩,⟨5,24, [[2,5,7,10,36,79,80,81]]⟩] [] (λA (m,s)=>Ri A m s) rW ajg ⟨(fc func5 fz),(sc aqp (sc aqB (sc aa6 (sc arp (sc ars sz))))),(oc agR oz),iz,(mc aoF (mc Zz (mc aoG (mc aoH (mc aoI mz))))),pz⟩ (λA y=>match y with |.c0 p=>⟨25,sl,by kernel_rfl⟩|.c1 p=>⟨19,sl,by kernel_rfl⟩|.c2 p c4=>⟨48,sl,by kernel_rfl⟩|.c3 p=>⟨26,sl,by kernel_rfl⟩|.c4 p e5=>⟨43,sl,by kernel_rfl⟩) λx a _=>ap7 x a
def WZ(k:Nat->Int)(n i:Nat):Prop:=i<n/\(∀j,0<j->j<n->j≠i->k ((j-1)/2)<=k j)/\∀j,0<j->j<n->(j-1)/2=i->0<i->k ((i-1)/2)<=k j
def W0(k:Nat->Int)(n i:Nat):Prop:=(∀j,0<j->j<n->(j-1)/2≠i->k ((j-1)/2)<=k j)/\∀j,0<j->j<n->(j-1)/2=i->0<i->k ((i-1)/2)<=k j
def Hp(k:Nat->Int)(n:Nat):Prop:=∀j,0<j->j<n->k ((j-1)/2)<=k j
variable{n:Nat}
theorem aas{k e:Nat->Int}{u:Nat}(h:WZ k n i)(t:0<i)(A:u=(i-1)/2)(v:k i<=k u)(q:e i=k u)(r:e u=k i)(f:∀j,j≠i->j≠u->e j=k j):WZ e n u:=by
 obtain⟨a,b,c⟩:=h;refine⟨by omega,λj m o l=>?_,λj m o l p=>?_⟩
 ·by_cases g:j=i
  ·simp_all
  ·rw[f j g l]
   by_cases y:(j-1)/2=i
   ·simp_all
   ·by_cases z:(j-1)/2=u
    all_goals grind
 ·have s:=b u p (by omega) (by omega)
  rw[f ((u-1)/2) (by omega) (by omega)];by_cases g:j=i
  ·simp_all
  ·rw[f j g (by omega)]
   grind
theorem L5{k:Nat->Int}(h:WZ k n i)(e:0<i->k ((i-1)/2)<=k i):Hp k n:=λj a b=>by
 by_cases c:j=i
 ·simp_all
 ·exact h.2.1 j a b c
theorem aa0{k c:Nat->Int}{f:Nat}(h:W0 k n i)(r:f<n)(g:0<f/\(f-1)/2=i)(u:k f<=k i)(v:∀j,0<j->j<n->(j-1)/2=i->k f<=k j)(l:c i=k f)(t:c f=k i)(e:∀j,j≠i->j≠f->c j=k j):W0 c n f:=by
 obtain⟨a,b⟩:=h;refine⟨λj m q o=>?_,λj m q o _=>?_⟩
 ·by_cases s:j=f
  ·simp_all
  ·by_cases p:j=i
   ·subst p;rw[l,e _ (by omega) o];exact b f g.1 r g.2 m
   ·rw[e j p s]
    by_cases y:(j-1)/2=i
    all_goals simp_all
 ·rw[g.2,l,e j (by omega) (by omega)]
  grind
theorem TT{k:Nat->Int}(h:W0 k n i)(e:∀j,0<j->j<n->(j-1)/2=i->k i<=k j):Hp k n:=λj a b=>by
 by_cases c:(j-1)/2=i
 ·simp_all
 ·exact h.1 j a b c
theorem akn{k:Nat->Int}(h:Hp k n):∀j,j<n->k 0<=k j:=λj=>by
 induction j using Nat.strongRecOn with
 | _ j ih=>
   intro a;by_cases b:j=0
   ·simp_all
   ·exact bX (ih _ (by omega) (by omega)) (h j (by omega) a)
def CH(l:List je)(j:Nat):Int:=(l.getD j (0,0,0,0)).1
def Ko(l:List je):Prop:=Hp (CH l) l.length
theorem Xv(a b:Int):JU (a,b)=uW a b:=by
 show(afX af a b).val _=_;simp[afX,bo,show ∀x,DW x=false from λx=>by show(x != x)=false;simp];rfl
theorem EM{a b:je}:(JQ (a,b)=true->a.1<=b.1)/\(JQ (a,b)=false->b.1<=a.1):=by
 have e:JQ (a,b)=decide (Z1 [uW a.1 b.1,uW a.2.1 b.2.1,uW a.2.2.1 b.2.2.1,uW a.2.2.2 b.2.2.2]<0):=by
  show decide (SJ (a,b)<0)=_;rw[show SJ (a,b)=Z1 [JU (a.1,b.1),rc (a.2.1,b.2.1),rc (a.2.2.1,b.2.2.1),JU (a.2.2.2,b.2.2.2)] from rfl,Xv,Xv];rfl
 rw[e];rcases Int.lt_trichotomy a.1 b.1 with h|h|h
 ·have:uW a.1 b.1 = -1:=by rw[uW,dn h];rfl
  rw[this,show Z1 [-1,uW a.2.1 b.2.1,uW a.2.2.1 b.2.2.1,uW a.2.2.2 b.2.2.2] = -1 from rfl]
  grind
 ·omega
 ·have:uW a.1 b.1=1:=by rw[uW,gj (by omega),dn h];rfl
  rw[this,show Z1 [1,uW a.2.1 b.2.1,uW a.2.2.1 b.2.2.1,uW a.2.2.2 b.2.2.2]=1 from rfl]
  grind
variable{j:Nat}{l:List je}
theorem yC:(af.n pJ l (j:Int):je)=l.getD j (0,0,0,0):=by rfl
def Jo(l:List je)(i j:Nat):List je:=(l.set i (l.getD j (0,0,0,0))).set j (l.getD i (0,0,0,0))
theorem Km(a:i<l.length)(b:j<l.length):(Jo l i j).Perm l:=by
 have e:∀{k},(h:k<l.length)->l.getD k (0,0,0,0)=l[k]:=λh=>by simp_all
 rw[Jo,e a,e b]
 grind
theorem G_:(Jo l i j).length=l.length:=by simp[Jo]
theorem OQ(a:i<l.length)(b:j<l.length):CH (Jo l i j) i=CH l j/\CH (Jo l i j) j=CH l i/\∀k,k≠i->k≠j->CH (Jo l i j) k=CH l k:=by
 simp[CH,Jo]
 grind
theorem T9:af.set (af.set l (i:Int) (af.n pJ l (j:Int):je)) (j:Int) (af.n pJ l (i:Int):je)=Jo l i j:=by rfl
theorem half{a:Nat}(h:0<a)(b:a<=1000000):af.b .quo .i64 (af.lI (a:Int) 1) 2=(((a-1)/2:Nat):Int):=by
 rw[yK,lg (by omega) (by omega),ET,show((a:Int)-1)=((a-1:Nat):Int) from by omega];rw[show((a-1:Nat):Int).tdiv 2=(((a-1)/2:Nat):Int) from rfl,lg (by omega) (by omega)]
theorem S7{i j:Int}{v:je}(h:0<=i/\i<(l.length:Int)):af.and (af.bU 0 i) (af.bG i (af.l (af.set l j v)))=true:=da (by rw[lb];exact h)
theorem ae2{p:WW}{m:List je}(u:m.length<=1000000):∀(f i:Nat) (l:List je),i<=f->l.Perm m->WZ (CH l) l.length i->Go (aaH af) (.ao (.c0 p (i:Int) l)) λr=>∃g,r=((p.a1,g,p.a2),())/\g.Perm m/\Ko g:=by
 intro f
 induction f with
 | zero=>
   intro i l t b c;have:i=0:=by omega
   exact aZ (pQ (λh=>by omega) λ_=>aD ⟨l,rfl,b,L5 c (by omega)⟩)
 | succ f ih=>
   intro i l t b c;refine aZ (pQ (λh=>?_) λh=>aD ⟨l,rfl,b,L5 c (by omega)⟩);have n:0<i:=by omega
   have v:=b.length_eq;have e:i<l.length:=c.1;rw[show yb af (i:Int)=(((i-1)/2:Nat):Int) from half n (by omega)];refine ah (da (by omega)) (ah (da (by omega)) (fJ (λh=>ah (S7 (by omega)) ?_) λh=>?_))
   ·rw[T9]
    obtain⟨o,q,s⟩:=OQ (l:=l) (i:=i) (j:=(i-1)/2) e (by omega);have a:=EM.1 h;exact ih _ _ (by omega) ((Km e (by omega)).trans b) (by rw[G_];exact aas c n rfl a o q s)
   ·have a:=EM.2 h
    exact aD ⟨l,rfl,b,L5 c λ_=>a⟩
variable{q:qW}
theorem ae3(b:q.2.1.length<=1000000)(c:WZ (CH q.2.1) q.2.1.length i):QM (q,(i:Int))=true/\∃a,YE (q,(i:Int))=((q.1,a,q.2.2),())/\a.Perm q.2.1/\Ko a:=
 jA (s:=aaH af) (t:=afQ af q (i:Int)) (ae2 (p:=⟨q.1,q.2.2⟩) b i i q.2.1 (aj _) (.refl _) c)
theorem dbl{a:Nat}{c:Int}(h:a<=1000000)(b:0<=c/\c<=2):af.c_ (af.b .mul .i64 2 (a:Int)) c=2*(a:Int)+c:=by
 rw[VJ,kP,lg (a:=2*(a:Int)) (by omega) (by omega),lg (by omega) (by omega)]
variable{P:qW×Unit->Prop}{p:Ks}
theorem GX{f c:Nat}{a2 a k:Int}(b:0<=k/\k<2)(m:(af.n yI [a2,a] k:Int)=(c:Int))(n:c<l.length->f<l.length)(j:c<l.length->CH l c<=CH l f->Go (Jf af) (.ao (.c0 p (i:Int) (c:Int) a2 a (k+1) l)) P)(g:(c<l.length->CH l f<=CH l c)->Go (Jf af) (.ao (.c0 p (i:Int) (f:Int) a2 a (k+1) l)) P):
  Go (Jf af) (.ao (.c0 p (i:Int) (f:Int) a2 a k l)) P:=by
 refine aZ (bT (λ_=>?_) λh=>absurd b.2 (by omega));rw[m,dG (x:=k) (y:=1) (by omega)];refine ah (by rw[bl,aB,aN,dn b.1,dn b.2];rfl) (bT (λh=>?_) λh=>g λk=>?_)
 ·have h:c<l.length:=by rw[dV] at h;omega
  refine ah (da (by omega)) (ah (da (by omega)) (fJ (λe=>j h ?_) λe=>g λ_=>?_))
  ·have:=EM.1 e;rwa [yC,yC] at this
  ·have:=EM.2 e;rwa [yC,yC] at this
 ·rw[dV] at h;omega
theorem Kf(K:∀f:Nat,(f=i\/f<l.length/\(f=2*i+1\/f=2*i+2))->CH l f<=CH l i->(∀j,j<l.length->(j=2*i+1\/j=2*i+2)->CH l f<=CH l j)->Go (Jf af) (.ao (.c0 p (i:Int) (f:Int) ((2*i+1:Nat):Int) ((2*i+2:Nat):Int) 2 l)) P):
  Go (Jf af) (.ao (.c0 p (i:Int) (i:Int) ((2*i+1:Nat):Int) ((2*i+2:Nat):Int) 0 l)) P:=by
 refine GX (c:=2*i+1) (by omega) rfl (by omega) (λa1 a2=>?_) λa1=>?_
 ·refine GX (k:=0+1) (c:=2*i+2) (by omega) rfl (by omega) (λa g=>K _ (by omega) (by omega) λj b e=>?_) λa=>K _ (by omega) a2 λj b e=>?_
  all_goals grind
 ·refine GX (k:=0+1) (c:=2*i+2) (by omega) rfl (by omega) (λa g=>K _ (by omega) g λj b e=>?_) λa=>K _ (by omega) (al _) λj b e=>?_
  all_goals grind
theorem afi{m:List je}(z:m.length<=1000000):∀(f i:Nat) (l:List je),l.length-i<=f->l.Perm m->W0 (CH l) l.length i->
  Go (Jf af) (.ao (.c0 p (i:Int) (i:Int) ((2*i+1:Nat):Int) ((2*i+2:Nat):Int) 0 l)) λr=>∃g,r=((p.a5,g,p.a6),())/\g.Perm m/\Ko g:=by
 intro f
 induction f with
 | zero=>
   intro i l y b e;refine Kf λc v o q=>aZ (bT (λh=>absurd h (by decide)) λ_=>dM (λh=>?_) λ_=>aD ⟨l,rfl,b,TT e λj a1 a2 n=>absurd a2 (by omega)⟩);omega
 | succ f ih=>
   intro i l y b e;have A:=b.length_eq;refine Kf λc v o q=>aZ (bT (λh=>absurd h (by decide)) λ_=>dM (λh=>?_) λh=>aD ⟨l,rfl,b,TT e λj a1 a2 n=>?_⟩)
   ·have a:c<l.length/\(c=2*i+1\/c=2*i+2):=by omega
    refine ah (da (by omega)) (ah (da (by omega)) (ah (S7 (by omega)) ?_));rw[T9,dbl (by omega) (by omega),dbl (by omega) (by omega)];obtain⟨s,t,u⟩:=OQ (l:=l) (i:=i) (j:=c) (by omega) a.1;have:=ih c (Jo l i c) (by rw[G_];omega) ((Km (by omega) a.1).trans b) (by
     rw[G_];exact aa0 e a.1 (by omega) o (λj a1 a2 n=>q j a2 (by omega)) s t u)
    simp_all
   grind
theorem afj(b:q.2.1.length<=1000000)(c:W0 (CH q.2.1) q.2.1.length 0):QG (q,0)=true/\∃a,SG (q,0)=((q.1,a,q.2.2),())/\a.Perm q.2.1/\Ko a:=
 jA (s:=Jf af) (t:=afK af q 0) (afi (p:=⟨q.1,q.2.2⟩) b _ 0 q.2.1 (aj _) (.refl _) c)
variable{e:je}
theorem aeY(u:q.1=true)(A:q.2.1.length<=16384)(v:Ko q.2.1):QN (q,e)=true/\((wI (q,e)).2≠0/\(wI (q,e)).1=q\/(wI (q,e)).2=0/\q.2.2<=e.1/\∃a,(wI (q,e)).1=(q.1,a,q.2.2)/\a.Perm (e::q.2.1)/\a.length<=16384/\Ko a):=by
 refine jA (s:=Empty.elim) (t:=afR af q e) (d:=_) (P:=λr=>r.2≠0/\r.1=q\/r.2=0/\q.2.2<=e.1/\∃a,r.1=(q.1,a,q.2.2)/\a.Perm (e::q.2.1)/\a.length<=16384/\Ko a) ?_;refine du (λk=>absurd (u.symm.trans k) (by decide)) λ_=>bT (λ_=>aD (.inl ⟨(show ¬(140:Int)=0 by decide),rfl⟩)) λp=>pQ (λ_=>aD (.inl ⟨(show ¬(140:Int)=0 by decide),rfl⟩)) λ_=>oO (λ_=>aD (.inl ⟨(show ¬(3:Int)=0 by decide),rfl⟩)) λc=>?_;have c:q.2.1.length<16384:=by rw[dV] at c;omega
 have o:af.lI (af.l (af.p q.2.1 ([e]:List je))) 1=(q.2.1.length:Int):=by
  rw[show af.p q.2.1 [e]=q.2.1 ++ [e] from rfl,dV,qS,bg,yK,lg (by omega) (by omega)];omega
 rw[o];have f:∀j,j<q.2.1.length->CH (q.2.1 ++ [e]) j=CH q.2.1 j:=λj y=>by
  simp[CH,xB,bR y]
 obtain⟨a1,a,a2,g,l⟩:=ae3 (q:=(q.1,q.2.1 ++ [e],q.2.2)) (i:=q.2.1.length) (by grind) (by
  rw[qS,bg];refine⟨Nat.lt_succ_self _,λj b m n=>?_,λj b m n z=>by omega⟩;rw[f _ (by omega),f _ (by omega)];exact v j b (by omega))
 refine ah ?_ (ah a1 (aD (.inr ⟨rfl,p,a,?_,?_,?_,l⟩)))
 ·rw[show af.p q.2.1 [e]=q.2.1 ++ [e] from rfl,dV,qS,bg,aB]
  grind
 ·exact congrArg Prod.fst a2
 ·grind
 ·have:=g.length_eq;grind
theorem acp{v:je}(h:0<l.length):af.and (af.bU 0 0) (af.and (af.bU 0 ((l.length:Int)-1)) (af.bU ((l.length:Int)-1) (af.l (af.set l 0 v))))=true:=by
 rw[bl,bl,aB,aB,aB,dV,lb,dn (by omega:(0:Int)<=(l.length:Int)-1),dn (by omega:(l.length:Int)-1<=(l.length:Int))];rfl
theorem ald(H:q.1=true)(O:q.2.1.length<=16384)(o:Ko q.2.1):QA (q,())=true/\(q.2.1=[]/\(zm (q,())).2.2≠0/\(zm (q,())).1=q\/(zm (q,())).2.2=0/\∃b,(zm (q,())).1=(q.1,b,(zm (q,())).2.1.1)/\((zm (q,())).2.1::b).Perm q.2.1/\Ko b/\∀y∈q.2.1,(zm (q,())).2.1.1<=y.1):=by
 refine jA (s:=Empty.elim) (t:=abS af q) (d:=_) (P:=λr=>q.2.1=[]/\r.2.2≠0/\r.1=q\/r.2.2=0/\∃b,r.1=(q.1,b,r.2.1.1)/\(r.2.1::b).Perm q.2.1/\Ko b/\∀y∈q.2.1,r.2.1.1<=y.1) ?_;have n:xX af q=(q.2.1.length:Int)-1:=by
  show af.lI (af.l q.2.1) 1=_;rw[dV,yK,lg (by omega) (by omega)]
 unfold abS;rw[n];refine du (λk=>absurd (H.symm.trans k) (by decide)) λ_=>bT (λh=>aD (.inl ⟨cB.1 (by omega),(show ¬(4:Int)=0 by decide),rfl⟩)) λh=>?_;have u:0<q.2.1.length:=by omega
 have I:((q.2.1.length:Int)-1)=((q.2.1.length-1:Nat):Int):=by omega
 have D:MC af q=((q.1,(q.2.1.set 0 (q.2.1.getD (q.2.1.length-1) (0,0,0,0))).take (q.2.1.length-1),q.2.2),0):=by
  unfold MC;rw[n,I,yC,yK,lg (by omega) (by omega),iY,Int.sub_zero,rz];rfl
 rw[D];have g:((q.2.1.set 0 (q.2.1.getD (q.2.1.length-1) (0,0,0,0))).take (q.2.1.length-1)).length=q.2.1.length-1:=by simp_all
 have p:∀j,0<j->j<q.2.1.length-1->CH ((q.2.1.set 0 (q.2.1.getD (q.2.1.length-1) (0,0,0,0))).take (q.2.1.length-1)) j=CH q.2.1 j:=λj N f=>by
  simp only[CH]
  grind
 obtain⟨a1,b,a2,v,A⟩:=afj (q:=(q.1,(q.2.1.set 0 (q.2.1.getD (q.2.1.length-1) (0,0,0,0))).take (q.2.1.length-1),q.2.2)) (by grind) (by
  rw[g];refine⟨λj e m B=>?_,λj e m B C=>absurd C (eD 0)⟩;rw[p _ (by omega) (by omega),p _ e m];exact o j e (by omega))
 have E:(af.n pJ q.2.1 0:je)=q.2.1.getD 0 (0,0,0,0):=yC (j:=0);refine ah (da (i:=0) (by omega)) (ah (da (by omega)) (ah ?_ (ah a1 (aD (.inr ⟨rfl,b,?_,?_,A,λy J=>?_⟩)))))
 ·exact acp u
 ·show lp2 (af.k SG _).1 _=_
  rw[bo,a2]
 ·refine(v.cons _).trans ?_
  generalize q.2.1=l at u;cases l with
  | nil=>simp_all
  | cons a t=>
    rcases List.eq_nil_or_concat t with rfl|⟨c,z,rfl⟩
    ·rfl
    ·have F:(a::(c ++ [z])).length-1=c.length+1:=by simp
     have G:(a::(c ++ [z])).getD (c.length+1) (0,0,0,0)=z:=by simp
     rw[List.concat_eq_append,F,G,mH,gW,fV]
     ·show(a::z::c).Perm _
      exact(List.perm_append_comm (l₁:=[z])).cons a
     ·rfl
 ·rw[E]
  obtain⟨j,f⟩:=gS J;have:=akn o j (aT.1 f).1;simp only[CH,f] at this
  simp_all
def VZ(b:Int)(l:List Int):Prop:=∀i:Nat, -b<=l.getD i 0/\l.getD i 0<=b
theorem VZ.set{v:Int}{l:List Int}{j:Int}(h:VZ b l)(a:-b<=v/\v<=b):VZ b (af.set l j v):=λi=>by
 show -b<=(l.set j.toNat v).getD i 0/\(l.set j.toNat v).getD i 0<=b;have:=h i
 grind
theorem VZ.of{l:List Int}(a:0<=b)(h:∀x∈l, -b<=x/\x<=b):VZ b l:=λi=>by
 rw[xB];cases k:l[i]? with
 | none=>simp_all
 | some x=>exact h x (jb k)
theorem aep{l:List Int}{i j:Int}{v:Int}(h:0<=i/\i<(l.length:Int)):af.and (af.bU 0 i) (af.bG i (af.l (af.set l j v)))=true:=da (by rw[lb];exact h)
theorem aaQ{l:List Int}{i j v w:Int}:(af.set (af.set l i v) j w).length=l.length:=by rw[lb,lb]
theorem akR(x:Int):DW x=false:=by show(x != x)=false;simp
theorem aj3{l:List Int}(b:l.length<=1000000)(h:VZ 1099511627776 l):QS (l,1099511627776)=true/\YK (l,1099511627776)=false:=by
 refine jA (s:=Vu af) (t:=afY af l 1099511627776) (d:=_) (P:=λr=>r=false) (aZ ?_);have:∀(j k:Nat),l.length-k<=j->Go (Vu af) (Vu af (.c0 ⟨l,af.l l,1099511627776⟩ (k:Int))) λr=>r=false:=by
  intro j
  induction j with
  | zero=>intro k a;exact bT (λg=>absurd g (by show ¬(k:Int)<(l.length:Int);omega)) λ_=>aD rfl
  | succ j ih=>
    intro k a;refine bT (λg=>?_) λ_=>aD rfl;have g:k<l.length:=by have g:(k:Int)<(l.length:Int):=g;omega
    have c:=h k;refine ah (da (l:=l) (by omega)) (bT (λe=>?_) λ_=>pQ (λe=>?_) λ_=>aZ ?_)
    ·exfalso
     have e:l.getD (k:Int).toNat 0 < -1099511627776:=e;rw[rz] at e;omega
    ·exfalso
     have e:1099511627776<l.getD (k:Int).toNat 0:=e;rw[rz] at e;omega
    ·rw[dG (by omega),show(k:Int)+1=((k+1:Nat):Int) from by omega]
     exact ih (k+1) (by omega)
 exact this _ 0 (aj _)
def Nc(b:Int)(r:Int×Int×Int):Prop:=r.2.2=0/\(-b<=r.1/\r.1<=b)/\ -b<=r.2.1/\r.2.1<=b
theorem aet(v:1<=n/\n<=9):∀(f i:Nat) (l:List Int),n-i<=f->l.length=n->VZ b l->Go (Mi af) (.ao (.c1 ⟨(n:Int),(i:Int),l⟩)) (Nc b):=by
 have q:∀(l:List Int) (i:Nat),¬i<n->l.length=n->VZ b l->Go (Mi af) (.ao (.c1 ⟨(n:Int),(i:Int),l⟩)) (Nc b):=by
  intro l i r c a;have p:Ax af ⟨(n:Int),(i:Int),l⟩=(n:Int)-1:=by
   show af.lI (af.l l) 1=_;rw[dV,c,xV (by omega)]
  have s:Dq af ⟨(n:Int),(i:Int),l⟩=(n:Int)-2:=by
   show af.lI (Ax af _) 1=_;rw[p,xV (by omega)];omega
  refine aZ (bT (λh=>absurd h (by grind)) λ_=>oO (λg=>?_) λg=>?_)
  ·have g:4<=n:=by have g:(4:Int)<=(l.length:Int):=g;omega
   refine ah ?_ (ah ?_ (ah ?_ (aD ⟨rfl,a _,a _⟩)))
   ·simp[bl,aB,dV,fv,rR];omega
   ·simp[bl,aB,aN,fv,rR];omega
   ·rw[xV (by omega)]
    simp[bl,aB,aN,fv,rR];omega
  ·rw[p]
   exact ah (da (l:=l) (by omega)) (ah (da (l:=l) (by omega)) (aD ⟨rfl,a _,a _⟩))
 intro f
 induction f with
 | zero=>grind
 | succ f ih=>
   intro i l t c a;by_cases r:i<n
   ·refine aZ (bT (λ_=>aZ ?_) λh=>absurd h (by grind))
    have o:∀(k:Nat) (l:List Int),k<=i->l.length=n->VZ b l->Go (Mi af) (Mi af (.c2 ⟨(n:Int),(i:Int)⟩ (k:Int) l)) (Nc b):=by
     have j:∀(l:List Int),l.length=n->VZ b l->Go (Mi af) (.ao (.c1 ⟨(n:Int),af.c_ (i:Int) 1,l⟩)) (Nc b):=λl c a=>by
      rw[dG (by omega),show(i:Int)+1=((i+1:Nat):Int) from by omega];exact ih (i+1) l (by omega) c a
     intro k
     induction k with
     | zero=>intro l _ c a;exact pQ (λh=>absurd h (by decide)) λ_=>j l c a
     | succ k m=>
       intro l u c a;refine pQ (λ_=>?_) λh=>absurd h (by omega);have e:af.lI ((k+1:Nat):Int) 1=(k:Int):=by rw[xV (by omega)];omega
       refine ah (da (by omega)) (ah (da (by omega)) (fJ (λg=>absurd (g.symm.trans (akR _)) (by decide)) λ_=>bT (λ_=>ah ?_ (aZ ?_)) λ_=>j l c a))
       ·unfold M2
        exact aep (by omega)
       ·unfold M3
        rw[e];exact m _ (by omega) (aaQ.trans c) ((a.set (a _)).set (a _))
    simp_all
   grind
theorem akz(h:n<=9):LJ (af.v .u64 (n:Int))=true:=by
 have:∀k:Fin 10,LJ (af.v .u64 ((k.val:Nat):Int))=true:=by decide +kernel
 exact this ⟨n,by omega⟩
theorem XB{l:List Int}:af.spl (af.r (af.l l) (0:Int)) 0 (af.s l 0 (af.mn (af.l l) (af.l (af.r (af.l l) (0:Int)))))=l:=by
 have e:af.r (af.l l) (0:Int)=List.replicate l.length 0:=by rfl
 rw[e,dV,dV,I4,nW,if_neg (by omega),iY,mW,rz,dW];simp
variable{α:Type}
theorem akG{l:List α}{N:Int}(h:(l.length:Int)<=N):af.and (af.bK (af.l l) (af.l l)) (af.and (af.bU 0 (af.l l)) (af.bU (af.l l) N))=true:=by
 rw[bl,bl,bd,aB,aB,dV,dn h,dn (by omega:(0:Int)<=l.length)];simp
theorem aeu{l:List Int}(m:0<=b/\b<=1099511627776)(c:1<=l.length/\l.length<=9)(h:∀x∈l, -b<=x/\x<=b):QR l=true/\Nc b (Bf l):=by
 refine jA (s:=Mi af) (t:=acd af l) (d:=_) ?_;have a:=VZ.of m.1 h;obtain⟨f,j⟩:=aj3 (l:=l) (by omega) λi=>by have:=a i;omega
 have e:H9 af l=l:=XB;unfold acd;rw[e];refine dw (λg=>by rw[dV] at g;omega) λ_=>ah f (fJ (λg=>absurd (j.symm.trans g) (by decide)) λ_=>ah ?_ (ah (akz c.2) (aZ (xD (λ_=>?_) λg=>?_))))
 ·exact akG (l:=l) (by omega)
 ·exact aet c _ 1 l (aj _) rfl a
 ·exfalso
  have g:12<af.lI (l.length:Int) 0:=g;rw[xV (by omega)] at g;omega
theorem awd{x:Int}:af.b .shr .i64 x 1=x/2:=by
 show Int.fdiv x (2^(min (1:Int).toNat 64))=_
 grind
theorem akF{l:List Int}(e:0<=b/\b<=1099511627776)(f:1<=l.length/\l.length<=9)(h:∀x∈l, -b<=x/\x<=b):QQ l=true/\(NP l).2=0/\ -b<=(NP l).1/\(NP l).1<=b:=by
 obtain⟨a,c,g,j⟩:=aeu e f h;refine jA (s:=Empty.elim) (t:=afV af l) (d:=_) (P:=λr=>r.2=0/\ -b<=r.1/\r.1<=b) (ah a (aD ⟨c,?_⟩));show -b<=af.b .shr .i64 (af.c_ (Bf l).1 (Bf l).2.1) 1/\af.b .shr .i64 (af.c_ (Bf l).1 (Bf l).2.1) 1<=b;rw[dG (by omega),awd];omega
theorem ad3{w x:Int}(a:0<=w/\w<=1048576):XG w x=true↔ -w<=x/\x<=w:=by
 simp[XG,fv,fB,aN,bY,decide_eq_false_iff_not];rw[show af.u .neg .i64 w = -w from by show IntKind.i64.wrap (0-w)=_;rw[lg (by omega) (by omega)];omega];omega
variable{c:qj}
theorem AN{w:Int}(a:0<=w/\w<=1048576):yY w c=true↔(0<=c.1/\c.1<=1099494850560)/\(0<=c.2.1/\c.2.1<=1048576)/\c.2.2.length<=8/\∀x∈c.2.2, -w<=x/\x<=w:=by
 simp[yY,fv,bH,ad3 a]
 grind
theorem UD(h:Xt (m,c)=0):dC m=true/\yY m.2.2.2.1 c=true:=by
 unfold Xt at h
 grind
theorem wT(h:dC m=true):(4<=m.1/\m.1<=8)/\(0<=m.2.2.2.2.1/\m.2.2.2.2.1<=64)/\(0<=m.2.2.2.2.2.1/\m.2.2.2.2.2.1<=64)/\(16*m.1*m.2.2.2.2.1+16<=m.2.2.2.1/\0<=m.2.2.2.1/\m.2.2.2.1<=1048576)/\(2*m.2.2.2.1+2*m.2.2.2.2.2.1+4<=m.2.2.1/\m.2.2.1<=1048576)/\2*m.2.2.1+i_ m<=m.2.1/\m.2.1<=16777216/\0<=i_ m:=by
 obtain⟨n,s,g,w,d,c,b,a⟩:=m;have:=Zx h;have e:=vg (m:=(n,s,g,w,d,c,b,a));simp[dC,qD] at h
 grind
theorem ajJ:QP (m,c)=true/\((wK (m,c)).2=0->dC m=true/\yY m.2.2.2.1 c=true/\ -m.2.2.2.1<=(wK (m,c)).1/\(wK (m,c)).1<=m.2.2.2.1):=by
 refine jA (s:=Empty.elim) (t:=ab_ af m c) (d:=_) (P:=λr=>r.2=0->dC m=true/\yY m.2.2.2.1 c=true/\ -m.2.2.2.1<=r.1/\r.1<=m.2.2.2.1) ?_;unfold ab_;rw[show af.k tY (m,c)=Xt (m,c) from Ya];refine dM (λg=>aD λh=>absurd h g) λg=>?_;obtain⟨a,f⟩:=UD g;have p:=wT a;obtain⟨_,_,n,o⟩:=(AN (by omega)).1 f;have e:H8 af c=c.2.2 ++ [0]:=by
  unfold H8;rw[XB];rfl
 rw[e];obtain⟨a1,a2,j⟩:=akF (l:=c.2.2 ++ [0]) (b:=m.2.2.2.1) (by omega) (by simp_all) λx q=>by grind
 refine ah ?_ (ah ?_ (ah a1 (aD λ_=>⟨a,f,j⟩)))
 ·simp[bl,aB,dV,fv,rR]
  rw[dG (by omega)];omega
 ·rw[aB,dV,qS,bg];grind
structure E6(m:ax)(c:qj)(d:Int)(r:qj):Prop where
 ml:dC m=true
 ck:yY m.2.2.2.1 c=true
 ck':yY m.2.2.2.1 r=true
 dr:-m.2.2.2.2.1<=d/\d<=m.2.2.2.2.1
 sl:r.2.1=c.2.1+1
 st:(c.2.1+1)%m.1=0/\(c.1+m.2.1+d-m.2.2.2.1<=r.1/\r.1<=c.1+m.2.1+d+m.2.2.2.1)\/(c.2.1+1)%m.1≠0/\r.1=c.1+m.2.1+d
theorem akZ{d:Int}:QJ (m,c,d)=true/\((JP (m,c,d)).2=0->E6 m c d (JP (m,c,d)).1):=by
 refine jA (s:=Empty.elim) (t:=afM af m c d) (d:=_) (P:=λr=>r.2=0->E6 m c d r.1) ?_;obtain⟨q,u⟩:=ajJ (m:=m) (c:=c);refine ah q (dM (λg=>aD λh=>absurd h g) λg=>?_);obtain⟨e,f,B⟩:=u g;have C:=wT e;obtain⟨v,y,z,A⟩:=(AN (by omega)).1 f;rw[show af.u .neg .i64 m.2.2.2.2.1 = -m.2.2.2.2.1 from by show IntKind.i64.wrap (0-_)=_;rw[lg (by omega) (by omega)];omega];refine bT (λ_=>aD λh=>absurd h (by omega)) λj=>pQ (λ_=>aD λh=>absurd h (by omega)) λl=>ah (by rw[cq];grind) ?_;have n:af.b .rem .i64 (af.c_ c.2.1 1) m.1=(c.2.1+1)%m.1:=by
  rw[dG (by omega),Mv,iW (by omega)]
 have o:af.c_ c.1 (af.c_ m.2.1 d)=c.1+m.2.1+d:=by rw[dG (x:=m.2.1) (by omega),dG (by omega)];omega
 rw[n,o];refine dw (λb=>du (λ_=>aD λh=>absurd h (by omega)) λa=>aD λ_=>?_) λb=>ah ?_ (du (λ_=>aD λh=>absurd h (by omega)) λa=>aD λ_=>?_)
 ·have p:af.c_ (c.1+m.2.1+d) (af.k wK (m,c)).1=c.1+m.2.1+d+(wK (m,c)).1:=dG (by show _<=_+(wK (m,c)).1/\_+(wK (m,c)).1<_;omega)
  rw[p,dG (x:=c.2.1) (by omega)] at a ⊢;exact⟨e,f,a,⟨j,l⟩,rfl,.inl ⟨b,by grind⟩⟩
 ·refine(jA (s:=Empty.elim) (t:=afT af c.2.2 0) (d:=[]) (P:=λ_=>True) (ah ?_ (aD trivial))).1
  simp[bl,aB,bd,dV];rw[dG (by omega)];grind
 ·rw[dG (x:=c.2.1) (by omega)] at a ⊢
  exact⟨e,f,a,⟨j,l⟩,rfl,.inr ⟨b,rfl⟩⟩
variable{t:Int}
theorem alD(f:c.2.2.length<=1000000):GI (m,c,t)=true/\((wJ (m,c,t)).2=0->(wJ (m,c,t)).1.1=c.1/\(wJ (m,c,t)).1.2.1=c.2.1/\(c.2.2.length<=8->(wJ (m,c,t)).1.2.2.length<=8)):=by
 refine jA (s:=Empty.elim) (t:=ab9 af m c t) (d:=_) (P:=λr=>r.2=0->r.1.1=c.1/\r.1.2.1=c.2.1/\(c.2.2.length<=8->r.1.2.2.length<=8)) ?_;have e:MX af m c t=c.2.2 ++ [af.lI t (af.k NB (m,c))]:=by
  unfold MX;rw[XB];rfl
 unfold ab9;rw[e];refine dM (λg=>aD λh=>absurd h g) λ_=>dw (λ_=>aD λh=>absurd h (by omega)) λa=>bT (λ_=>aD λh=>absurd h (by omega)) λ_=>oO (λ_=>aD λh=>absurd h (by omega)) λ_=>ah ?_ (ah ?_ (aD λ_=>⟨rfl,rfl,λb=>?_⟩))
 ·simp[bl,aB,dV,fv,rR]
  rw[dG (by omega)];omega
 ·rw[aB,dV,qS,bg];grind
 ·have a:c.2.2.length≠8:=λe=>a (by rw[dV,e];rfl)
  grind
theorem uB{R:Type}{P:R->Prop}{t:LT R Empty}{d:R}(h:Go Empty.elim t P)(e:t.Eqs)(f:t.pre=true):P (t.val d):=by
 obtain⟨r,a,b⟩:=h;rw[<-a.one (LT.runs (d:=d) e f)];exact b
theorem Xr{p:Int}(h:(re (m,t,p)).2=0):dC m=true/\(0<=t/\t<=1099511627776)/\(0<=p/\p<m.1)/\re (m,t,p)=((t-(m.2.2.1+m.2.2.2.2.2.1),p, []),0)/\yY m.2.2.2.1 (t-(m.2.2.1+m.2.2.2.2.2.1),p, [])=true:=by
 revert h;refine uB (t:=afS af m t p) (P:=λr=>r.2=0->dC m=true/\(0<=t/\t<=1099511627776)/\(0<=p/\p<m.1)/\r=((t-(m.2.2.1+m.2.2.2.2.2.1),p, []),0)/\yY m.2.2.2.1 (t-(m.2.2.1+m.2.2.2.2.2.1),p, [])=true) ?_ (LT.gf (by rfl)) (LT.iI (by rfl));have c:∀x:qj,yY m.2.2.2.1 (-1,p,uT)=false:=λ_=>by rfl
 unfold afS ab8;refine dM (λg=>aD λh=>absurd h g) λg=>bT (λ_=>aD λh=>absurd h (by omega)) λf=>oO (λ_=>aD λh=>absurd h (by omega)) λj=>?_;have b:=vF.1 g;have o:=wT b;refine oO (λl=>xD (λn=>?_) λ_=>?_) λ_=>?_
 ·have e:af.lI t (af.c_ m.2.2.1 m.2.2.2.2.2.1)=t-(m.2.2.1+m.2.2.2.2.2.1):=by rw[dG (by omega),xV (by omega)]
  rw[e];exact du (λ_=>aD λh=>absurd h (by omega)) λa=>aD λ_=>⟨b,⟨l,n⟩,⟨f,j⟩,rfl,a⟩
 ·exact du (λ_=>aD λh=>absurd h (by omega)) λa=>absurd (a.symm.trans (c (0,0, []))) (by decide)
 ·exact du (λ_=>aD λh=>absurd h (by omega)) λa=>absurd (a.symm.trans (c (0,0, []))) (by decide)
theorem z_{l:List α}(h:l.length≠0):af.cu (af.l l) 0=true:=by
 rw[cq,dV];simp_all
theorem XH{s:jv}{n k i d:Int}(m:0<=d)(h:∀x∈s.2.2.2.2.2.1, -d<=x/\x<=d)(u:s.2.2.2.2.2.1.length<=1000000):LX (s,n,k,i)=true/\ -d<=zn (s,n,k,i)/\zn (s,n,k,i)<=d:=by
 refine jA (s:=Empty.elim) (t:=afN af s n k i) (d:=_) (P:=λr=> -d<=r/\r<=d) ?_;have z:-d<=(0:Int)/\(0:Int)<=d:=by omega
 refine dw (λ_=>aD z) λf=>bT (λ_=>aD z) λl=>bT (λ_=>aD z) λo=>bT (λ_=>aD z) λp=>pQ (λ_=>aD z) λa=>?_;have f:s.2.2.2.2.2.1.length≠0:=λe=>f (by rw[dV,e];rfl);have a:k<=1048576/\i<=1048576/\n<=1048576:=by
  rw[tx,tx] at a;split at a<;>split at a<;>omega
 have q:0<=k*n/\k*n<=1048576*1048576:=⟨gl l (by omega),bX (dY a.1 (by omega)) (fN a.2.2 (by decide))⟩;have e:af.b .rem .i64 (af.c_ (af.b .mul .i64 k n) i) (af.l s.2.2.2.2.2.1)=(k*n+i)%(s.2.2.2.2.2.1.length:Int):=by
  rw[kP,lg (by omega) (by omega),dG (by omega),Mv,dV,iW (by omega)]
 have g:=jS (k*n+i) (b:=(s.2.2.2.2.2.1.length:Int)) (by omega);have j:=mD (k*n+i) (b:=(s.2.2.2.2.2.1.length:Int)) (by omega);have c:∀X,X=(k*n+i)%(s.2.2.2.2.2.1.length:Int)->Go Empty.elim (.ar (af.cu (af.l s.2.2.2.2.2.1) 0) (.ar (af.and (af.bU 0 X) (af.bG X (af.l s.2.2.2.2.2.1))) (.ret (af.n yI s.2.2.2.2.2.1 X:Int)))) λr:Int=> -d<=r/\r<=d:=λX e=>by
  subst e;exact ah (z_ f) (ah (da ⟨g,j⟩) (aD (VZ.of m h _)))
 exact c _ e
def dS:cr:=Ty.gw bP
def aF(x:Net)(i:Nat):cr:=x.2.2.2.2.2.2.1.getD i dS
def aqd(x:Net)(e:Int)(h:List je):Net:=(x.1,x.2.1,x.2.2.1,x.2.2.2.1,e,(x.2.2.2.2.2.1.1,h,x.2.2.2.2.2.1.2.2),x.2.2.2.2.2.2)
def cH(x:Net)(l:List cr):Net:=(x.1,x.2.1,x.2.2.1,x.2.2.2.1,x.2.2.2.2.1,x.2.2.2.2.2.1,l,x.2.2.2.2.2.2.2)
variable{x y:Net}
theorem s_:VF.lens [eG] x=VF.lens [eG] y↔x.2.2.2.2.2.2.1.length=y.2.2.2.2.2.2.1.length:=by
 show[x.2.2.2.2.2.2.1.length]=[y.2.2.2.2.2.2.1.length]↔_;simp
theorem iC{Y R:Type}{s:Y->LT (Net×R) Y}{t:LT (Net×R) Y}{d:Net×R}{P:Net×R->Prop}(h:Go s t P)(c:∀r,P r->r.1.2.2.2.2.2.2.1.length=x.2.2.2.2.2.2.1.length):(gu s t&&decide (VF.lens [eG] (gG s t d).1=VF.lens [eG] x))=true/\P (gG s t d):=by
 obtain⟨b,a⟩:=jA (d:=d) h;rw[b,dn (s_.2 (c _ a))];exact⟨rfl,a⟩
theorem rG(h:q.1=true):nc (q,())=true/\dX (q,())=(q,q.2.2):=
 jA (s:=Empty.elim) (t:=afJ af q) (d:=_) (P:=λr=>r=(q,q.2.2)) (du (λk=>absurd (h.symm.trans k) (by decide)) λ_=>aD rfl)
theorem aeB(h:q.1=true):Qz (q,())=true/\NO (q,())=(q,(q.2.1.length:Int)):=
 jA (s:=Empty.elim) (t:=afI af q) (d:=_) (P:=λr=>r=(q,(q.2.1.length:Int))) (du (λk=>absurd (h.symm.trans k) (by decide)) λ_=>aD rfl)
structure yW(x:Net):Prop where
 made:x.2.2.2.2.2.1.1=true
 len:x.2.2.2.2.2.1.2.1.length<=16384
 heap:Ko x.2.2.2.2.2.1.2.1
def vn(x:Net)(t:Int):Int:=if x.2.2.2.2.2.1.2.2 > t then x.2.2.2.2.2.1.2.2 else t
def qR(x:Net)(e:je)(c:Net):Prop:=∃b a,c=aqd x b a/\a.length<=16384/\Ko a/\((b=x.2.2.2.2.1/\e.1<=x.2.2.2.2.1/\a.Perm (e::x.2.2.2.2.2.1.2.1))\/(a=x.2.2.2.2.2.1.2.1/\b<=x.2.2.2.2.1/\b<=e.1))
theorem TB{k nd n:Int}(h:yW x):qG (x,t,k,nd,n)=true/\qR x (vn x t,k,nd,n) (t_ (x,t,k,nd,n)).1:=by
 refine iC (s:=Empty.elim) (t:=ab0 af x t k nd n) (P:=λr=>qR x (vn x t,k,nd,n) r.1) ?_ λr ⟨u,v,l,_⟩=>by rw[l];rfl
 obtain⟨c,q⟩:=rG h.made;unfold ab0;have b:af.k dX (x.2.2.2.2.2.1,())=(x.2.2.2.2.2.1,x.2.2.2.2.2.1.2.2):=q;have f:af.mx t x.2.2.2.2.2.1.2.2=vn x t:=rfl;rw[b,f];refine ah c (xD (λg=>?_) λg=>aD ?_)
 ·have j:x_ af x t k nd n=(x.2.2.2.2.2.1,(vn x t,k,nd,n)):=by
   unfold x_
   simp_all
  rw[j];obtain⟨p1,p2⟩:=aeY (e:=(vn x t,k,nd,n)) h.made h.len h.heap;refine ah p1 (dM (λa=>?_) λa=>aD ?_)
  ·rcases p2 with ⟨_,p2⟩|⟨p2,_⟩
   ·rw[show(af.k wI (x.2.2.2.2.2.1,vn x t,k,nd,n)).1=x.2.2.2.2.2.1 from p2,b]
    refine ah c (aD ⟨af.mn x.2.2.2.2.1 x.2.2.2.2.2.1.2.2,x.2.2.2.2.2.1.2.1,rfl,h.len,h.heap,.inr ⟨rfl,?_,?_⟩⟩)
    ·rw[nW];omega
    ·show af.mn x.2.2.2.2.1 x.2.2.2.2.2.1.2.2<=vn x t
     rw[nW,vn];omega
   ·exact absurd p2 a
  ·rcases p2 with ⟨p2,_⟩|⟨_,p3,m,p4,p5,o,p⟩
   ·exact absurd a p2
   ·exact⟨x.2.2.2.2.1,m,by show(x.1,x.2.1,x.2.2.1,x.2.2.2.1,x.2.2.2.2.1,(wI (x.2.2.2.2.2.1,vn x t,k,nd,n)).1,x.2.2.2.2.2.2)=_;rw[p4];rfl,o,p,.inl ⟨rfl,g,p5⟩⟩
 ·exact⟨x.2.2.2.2.1,x.2.2.2.2.2.1.2.1,rfl,h.len,h.heap,.inr ⟨rfl,al _,Int.le_of_lt g⟩⟩
theorem Ob(h:x.2.2.2.2.2.2.1.length≠0):af.cu (af.l x.2.2.2.2.2.2.1) 0=true:=z_ h
theorem GJ{k:Int}(h:yW x)(f:i<x.2.2.2.2.2.2.1.length)(b:k≠3):xP (x,t,k,(i:Int))=true/\qR x (vn x t,k,(i:Int),(aF x i).2.2.2.2.1) (Be (x,t,k,(i:Int))).1:=by
 refine iC (s:=Empty.elim) (t:=abR af x t k (i:Int)) (P:=λr=>qR x (vn x t,k,(i:Int),(aF x i).2.2.2.2.1) r.1) ?_ λr ⟨c,e,a,_⟩=>by rw[a];rfl
 unfold abR;obtain⟨p1,p2⟩:=TB (t:=t) (k:=k) (nd:=(i:Int)) (n:=(aF x i).2.2.2.2.1) h;have en:(af.n bP x.2.2.2.2.2.2.1 (i:Int):cr)=aF x i:=by rfl
 refine dM (λ_=>bT (λ_=>ah (da (l:=x.2.2.2.2.2.2.1) (by omega)) ?_) λg=>absurd g (by show ¬(x.2.2.2.2.2.2.1.length:Int)<=(i:Int);omega)) λg=>absurd g b;exact ah p1 (ah (Ob (by omega)) (aD p2))
def bq(l:List cr)(i:Nat)(f:cr->cr):List cr:=l.set i (f (l.getD i dS))
variable{f:cr->cr}
theorem bL{l:List cr}:(bq l i f).length=l.length:=cX ..
theorem um{l:List cr}(a:i<l.length):(bq l i f).getD i dS=f (l.getD i dS):=by
 rw[bq,xB,List.getElem?_set_self a];rfl
theorem aeG{l:List cr}(h:j≠i):(bq l i f).getD j dS=l.getD j dS:=by
 rw[bq,xB,List.getElem?_set_ne (gX h),<-xB]
theorem pT{l:List cr}(h:i<l.length):af.cu (af.l (bq l i f)) 0=true:=z_ (by rw[bL];omega)
theorem jO{l:List cr}:md af bP l (i:Int) f=bq l i f:=by rfl
theorem mod_mod{l:List cr}{g:cr->cr}(a:i<l.length):bq (bq l i f) i g=bq l i λy=>g (f y):=by
 unfold bq
 simp_all
theorem jC:(af.n bP x.2.2.2.2.2.2.1 (i:Int):cr)=aF x i:=by rfl
theorem BE{l:List cr}(a:i<l.length):(af.n bP (bq l i f) (i:Int):cr)=f (l.getD i dS):=by
 show(bq l i f).getD (i:Int).toNat _=_;rw[rz];exact um a
theorem vW{l:List cr}{v:cr}:af.set l (i:Int) v=bq l i λ_=>v:=by rfl
def ovT(m:ax)(t:Int):Int:=t+(m.2.2.1+i_ m+m.2.2.2.2.2.1+2*m.2.2.2.1)+2
theorem ovI{s g a l w:Int}(f:0<=s/\s<=2199023255552)(c:0<=g/\g<=1048576)(b:0<=a/\a<=2062)(e:0<=l/\l<=64)(j:0<=w/\w<=1048576):af.c_ (af.c_ s (af.c_ (af.c_ (af.c_ g a) l) (af.b .mul .i64 2 w))) 2=s+(g+a+l+2*w)+2:=by
 rw[kP,lg (a:=2*w) (by omega) (by omega),dG (x:=g) (y:=a) (by omega),dG (x:=g+a) (y:=l) (by omega),dG (x:=g+a+l) (y:=2*w) (by omega),dG (x:=s) (by omega),dG (by omega)]
theorem EP(h:yW x)(b:i<x.2.2.2.2.2.2.1.length)(c:dC x.2.1=true)(f:0<=(aF x i).2.1.1/\(aF x i).2.1.1<=2199023255552):CX (x,(i:Int))=true/\qR x (vn x (ovT x.2.1 (aF x i).2.1.1),1,(i:Int),(aF x i).2.2.2.2.1) (FY (x,(i:Int))).1:=by
 refine iC (s:=Empty.elim) (t:=ab3 af x (i:Int)) (P:=λr=>qR x (vn x (ovT x.2.1 (aF x i).2.1.1),1,(i:Int),(aF x i).2.2.2.2.1) r.1) ?_ λr ⟨j,n,a,_⟩=>by rw[a];rfl
 have o:=wT c;have g:=vg (m:=x.2.1);have e:MN af x (i:Int)=(x,ovT x.2.1 (aF x i).2.1.1,1,(i:Int)):=by
  unfold MN;rw[jC,show af.k ND x.2.1=i_ x.2.1 from rfl,ovI f (by omega) g (by omega) (by omega)];rfl
 unfold ab3;rw[e];obtain⟨p1,p2⟩:=GJ (t:=ovT x.2.1 (aF x i).2.1.1) (k:=1) h b (by decide);exact ah (da (l:=x.2.2.2.2.2.2.1) (by omega)) (ah p1 (ah (Ob (by omega)) (aD p2)))
def rh(w:Int)(y:cr):cr:=(y.1,y.2.1,y.2.2.1,w,y.2.2.2.2.1+1,y.2.2.2.2.2)
def RB(x:Net)(i:Nat)(a:Net):Prop:=qR (cH x (bq x.2.2.2.2.2.2.1 i (rh x.2.2.2.2.2.1.2.2))) (x.2.2.2.2.2.1.2.2+x.2.1.2.1,2,(i:Int),(aF x i).2.2.2.2.1+1) a
theorem Gg(h:yW x)(c:i<x.2.2.2.2.2.2.1.length)(q:dC x.2.1=true)(C:0<=(aF x i).2.2.2.2.1/\(aF x i).2.2.2.2.1<=1000000000000)(D:0<=x.2.2.2.2.2.1.2.2/\x.2.2.2.2.2.1.2.2<=2199023255552):LZ (x,(i:Int))=true/\RB x i (JS (x,(i:Int))).1:=by
 refine iC (s:=Empty.elim) (t:=acb af x (i:Int)) (P:=λr=>RB x i r.1) ?_ λr ⟨v,z,p,_⟩=>by rw[p];exact bL (f:=rh x.2.2.2.2.2.1.2.2)
 have A:=wT q;obtain⟨g,j⟩:=rG h.made;have a:af.k dX (x.2.2.2.2.2.1,())=(x.2.2.2.2.2.1,x.2.2.2.2.2.1.2.2):=j;have b:MY af x (i:Int)=bq x.2.2.2.2.2.2.1 i λy=>VQ y (af.c_ y.2.2.2.2.1 1):=by rfl
 have e:md af bP (MY af x (i:Int)) (i:Int) (λb:cr=>up3 b (af.k dX (x.2.2.2.2.2.1,())).2)=bq x.2.2.2.2.2.2.1 i (rh x.2.2.2.2.2.1.2.2):=by
  rw[a,b];refine jO.trans ((mod_mod c).trans ?_);unfold bq;congr 1;show up3 (VQ (aF x i) (af.c_ (aF x i).2.2.2.2.1 1)) x.2.2.2.2.2.1.2.2=rh x.2.2.2.2.2.1.2.2 (aF x i);rw[dG (by omega)];rfl
 have m:MZ af x (i:Int)=(cH x (bq x.2.2.2.2.2.2.1 i (rh x.2.2.2.2.2.1.2.2)),x.2.2.2.2.2.1.2.2+x.2.1.2.1,2,(i:Int)):=by
  unfold MZ;rw[e,a,show af.k dX (((x.2.2.2.2.2.1,x.2.2.2.2.2.1.2.2):qW×Int).1,())=(x.2.2.2.2.2.1,x.2.2.2.2.2.1.2.2) from j,dG (by omega)];rfl
 have u:yW (cH x (bq x.2.2.2.2.2.2.1 i (rh x.2.2.2.2.2.1.2.2))):=⟨h.made,h.len,h.heap⟩;have B:(bq x.2.2.2.2.2.2.1 i (rh x.2.2.2.2.2.1.2.2)).length=x.2.2.2.2.2.2.1.length:=bL;obtain⟨p1,p2⟩:=GJ (x:=cH x (bq x.2.2.2.2.2.2.1 i (rh x.2.2.2.2.2.1.2.2))) (t:=x.2.2.2.2.2.1.2.2+x.2.1.2.1) (k:=2) (i:=i) u (by show i<(bq _ _ _).length;omega) (by decide);unfold acb;rw[e,m];refine ah (da (l:=x.2.2.2.2.2.2.1) (by omega)) (ah g (ah (by rw[a];exact g) (ah p1 (ah (pT c) (aD ?_)))));have n:(aF (cH x (bq x.2.2.2.2.2.2.1 i (rh x.2.2.2.2.2.1.2.2))) i).2.2.2.2.1=(aF x i).2.2.2.2.1+1:=by
  show((bq x.2.2.2.2.2.2.1 i (rh x.2.2.2.2.2.1.2.2)).getD i dS).2.2.2.2.1=_;rw[um c];rfl
 have o:vn (cH x (bq x.2.2.2.2.2.2.1 i (rh x.2.2.2.2.2.1.2.2))) (x.2.2.2.2.2.1.2.2+x.2.1.2.1)=x.2.2.2.2.2.1.2.2+x.2.1.2.1:=by
  exact if_neg (by show ¬x.2.2.2.2.2.1.2.2 > _;omega)
 rw[n,o] at p2;exact p2
def oR(n:Node)(y:cr):cr:=(n,y.2.1,y.2.2.1,y.2.2.2.1,y.2.2.2.2.1+1,false,false,false)
def RP(x:Net)(i:Nat)(on:Bool)(a:Net):Prop:=
 ((ju x.2.1 (aF x i).1 on).2≠0/\a=x)\/((ju x.2.1 (aF x i).1 on).2=0/\(on=false/\a=cH x (bq x.2.2.2.2.2.2.1 i (oR (ju x.2.1 (aF x i).1 on).1))\/on=true/\RB (cH x (bq x.2.2.2.2.2.2.1 i (oR (ju x.2.1 (aF x i).1 on).1))) i a))
theorem RB.len{a:Net}(h:RB x i a):(a.2.2.2.2.2.2.1).length=x.2.2.2.2.2.2.1.length:=by
 obtain⟨c,e,b,_⟩:=h;rw[b];exact bL (f:=rh x.2.2.2.2.2.1.2.2)
theorem Gz{on:Bool}(h:yW x)(a:i<x.2.2.2.2.2.2.1.length)(p:dC x.2.1=true)(y:0<=(aF x i).2.2.2.2.1/\(aF x i).2.2.2.2.1<=900000000000)(u:0<=x.2.2.2.2.2.1.2.2/\x.2.2.2.2.2.1.2.2<=2199023255552):uO (x,(i:Int),on)=true/\RP x i on (xt (x,(i:Int),on)).1:=by
 refine iC (s:=Empty.elim) (t:=ab4 af x (i:Int) on) (P:=λr=>RP x i on r.1) ?_ λr q=>?_
 ·have n:af.k Sk (x.2.1,(af.n bP x.2.2.2.2.2.2.1 (i:Int):cr).1,on)=ju x.2.1 (aF x i).1 on:=by rfl
  have b:Dn af x (i:Int) on=bq x.2.2.2.2.2.2.1 i (oR (ju x.2.1 (aF x i).1 on).1):=by
   unfold Dn acF acE acD acC;refine(congrArg (λl=>md af bP l (i:Int) (λm:cr=>lp7 m false)) ((congrArg (λl=>md af bP l (i:Int) (λb:cr=>rC b false)) ((congrArg (λl=>md af bP l (i:Int) (λj:cr=>r9 j false)) ((congrArg (λl=>md af bP l (i:Int) (λf:cr=>VQ f (af.c_ f.2.2.2.2.1 1))) (vW (l:=x.2.2.2.2.2.2.1) (i:=i) (v:=((ju x.2.1 (aF x i).1 on).1,(aF x i).2)))).trans (jO.trans (mod_mod a)))).trans (jO.trans (mod_mod a)))).trans (jO.trans (mod_mod a)))).trans (jO.trans ((mod_mod a).trans ?_));unfold bq;congr 1;show lp7 (rC (r9 (VQ ((ju x.2.1 (aF x i).1 on).1,(aF x i).2) (af.c_ (aF x i).2.2.2.2.1 1)) false) false) false=oR _ (aF x i);rw[dG (by omega)];rfl
  unfold ab4;rw[b,n];refine ah (da (l:=x.2.2.2.2.2.2.1) (by omega)) (dM (λg=>aD (.inl ⟨g,rfl⟩)) λg=>fJ (λc=>?_) λc=>aD (.inr ⟨g,.inl ⟨c,rfl⟩⟩));have o:(aF (cH x (bq x.2.2.2.2.2.2.1 i (oR (ju x.2.1 (aF x i).1 on).1))) i)=oR (ju x.2.1 (aF x i).1 on).1 (aF x i):=um a;obtain⟨p1,p2⟩:=Gg (x:=cH x (bq x.2.2.2.2.2.2.1 i (oR (ju x.2.1 (aF x i).1 on).1))) (i:=i) ⟨h.made,h.len,h.heap⟩ (by show i<(bq _ _ _).length;rw[bL];omega) p (by rw[o];show 0<=(aF x i).2.2.2.2.1+1/\(aF x i).2.2.2.2.1+1<=_;omega) u;exact ah p1 (ah (pT a) (aD (.inr ⟨g,.inr ⟨c,p2⟩⟩)))
 ·rcases q with ⟨_,e⟩|⟨_,⟨_,e⟩|⟨_,e⟩⟩
  ·rw[e]
  ·rw[e];exact bL
  ·rw[e.len];exact bL
def jnY(n:Node)(c:qj)(y:cr):cr:=(n,c,y.2.2.1,y.2.2.2.1,y.2.2.2.2.1+1,true,false,y.2.2.2.2.2.2.2)
def Jns(x:Net)(i:Nat)(n:Node)(t:Int)(a:Net):Prop:=
 a=x\/((re (x.2.1,t,n.2.2.1.2.1)).2=0/\qR (cH x (bq x.2.2.2.2.2.2.1 i (jnY n (re (x.2.1,t,n.2.2.1.2.1)).1))) (vn x (ovT x.2.1 (re (x.2.1,t,n.2.2.1.2.1)).1.1),1,(i:Int),(aF x i).2.2.2.2.1+1) a)
theorem Zh{n:Node}(h:yW x)(a:i<x.2.2.2.2.2.2.1.length)(F:0<=(aF x i).2.2.2.2.1/\(aF x i).2.2.2.2.1<=900000000000):QH (x,(i:Int),n,t)=true/\Jns x i n t (SH (x,(i:Int),n,t)).1:=by
 refine iC (s:=Empty.elim) (t:=ab1 af x (i:Int) n t) (P:=λr=>Jns x i n t r.1) ?_ λr v=>?_
 ·have b:md af bP (MI af x (i:Int) n t) (i:Int) (λc:cr=>rC c false)=bq x.2.2.2.2.2.2.1 i (jnY n (re (x.2.1,t,n.2.2.1.2.1)).1):=by
   refine(congrArg (λl=>md af bP l (i:Int) (λc:cr=>rC c false)) ((congrArg (λl=>md af bP l (i:Int) (λb:cr=>r9 b true)) ((congrArg (λl=>md af bP l (i:Int) (λj:cr=>VQ j (af.c_ j.2.2.2.2.1 1))) ((congrArg (λl=>md af bP l (i:Int) (λq:cr=>y9 q (af.k re (x.2.1,t,n.2.2.1.2.1)).1)) (jO (l:=x.2.2.2.2.2.2.1) (f:=λp:cr=>up0 p n))).trans (jO.trans (mod_mod a)))).trans (jO.trans (mod_mod a)))).trans (jO.trans (mod_mod a)))).trans (jO.trans ((mod_mod a).trans ?_));unfold bq;congr 1;show rC (r9 (VQ (y9 (up0 (aF x i) n) (re (x.2.1,t,n.2.2.1.2.1)).1) (af.c_ (aF x i).2.2.2.2.1 1)) true) false=jnY n _ (aF x i);rw[dG (by omega)];rfl
  unfold ab1;rw[b];refine ah (da (l:=x.2.2.2.2.2.2.1) (by omega)) (dM (λ_=>aD (.inl rfl)) λg=>du (λ_=>aD (.inl rfl)) λ_=>?_);obtain⟨o,_,_,y,z⟩:=Xr g;have D:=wT o;have E:=((AN (by omega)).1 z).1;have m:(aF (cH x (bq x.2.2.2.2.2.2.1 i (jnY n (re (x.2.1,t,n.2.2.1.2.1)).1))) i)=jnY n (re (x.2.1,t,n.2.2.1.2.1)).1 (aF x i):=um a;have B:(re (x.2.1,t,n.2.2.1.2.1)).1.1=t-(x.2.1.2.2.1+x.2.1.2.2.2.2.2.1):=by rw[y]
  obtain⟨p1,p2⟩:=EP (x:=cH x (bq x.2.2.2.2.2.2.1 i (jnY n (re (x.2.1,t,n.2.2.1.2.1)).1))) (i:=i) ⟨h.made,h.len,h.heap⟩ (by show i<(bq _ _ _).length;rw[bL];omega) o (by rw[m];show 0<=(re (x.2.1,t,n.2.2.1.2.1)).1.1/\(re (x.2.1,t,n.2.2.1.2.1)).1.1<=_;omega);rw[m] at p2;exact ah p1 (ah (pT a) (aD (.inr ⟨g,p2⟩)))
 ·rcases v with e|⟨_,A,C,u,_⟩
  ·rw[e]
  ·rw[u];exact bL
theorem goes_go{p:Kt}{l:List fS}{k n:Int}(j:p.a0=l)(q:p.a1=(l.length:Int))(s:p.O9=k)(u:p.a21=n)(t:l.length<=1000000):∀(f i:Nat),l.length-i<=f->Go (Ez af) (Ez af (.c0 p (i:Int))) λr=>r.2=true->r.1∈l/\r.1.1=k/\r.1.2.1=n:=by
 intro f
 induction f with
 | zero=>intro i m;exact bT (λg=>absurd g (by omega)) λ_=>aD nofun
 | succ f ih=>
   intro i m;refine bT (λg=>?_) λ_=>aD nofun
   have g:i<l.length:=by omega
   have a:Go (Ez af) (.ao (.c0 p (af.c_ (i:Int) 1))) λr=>r.2=true->r.1∈l/\r.1.1=k/\r.1.2.1=n:=by
    rw[dG (by omega),show(i:Int)+1=((i+1:Nat):Int) from by omega];exact aZ (ih (i+1) (by omega))
   have o:qf af p (i:Int)=l[i]:=by
    unfold qf;rw[j];exact fM g _
   have b:(qf af p (i:Int)).1=p.O9->(qf af p (i:Int)).2.1=p.a21->Go (Ez af) (.ret (qf af p (i:Int),true)) λr=>r.2=true->r.1∈l/\r.1.1=k/\r.1.2.1=n:=λc e=>aD λ_=>⟨by simp_all,by simp_all,by simp_all⟩;refine ah (by rw[j];exact da (l:=l) (by omega)) (dw (λ_=>dw (λ_=>dw (λc=>dw (λe=>b c e) λ_=>a) λ_=>a) λ_=>du (λ_=>dw (λc=>dw (λe=>b c e) λ_=>a) λ_=>a) λ_=>a) λ_=>a)
variable{v:(Bool×ax×jv×Unit)×(Int×Int×fq)}
theorem ub(a:v.1.2.2.1.2.2.2.2.2.2.2.length<=1000000):jR v=true/\((eH v).2=true->(eH v).1∈v.1.2.2.1.2.2.2.2.2.2.2/\(eH v).1.1=v.2.1/\(eH v).1.2.1=v.2.2.1):=by
 obtain⟨⟨e,f,b,⟨⟩⟩,k,n,c⟩:=v;have a:b.2.2.2.2.2.2.2.length<=1000000:=a;exact jA (s:=Ez af) (t:=ab5 af e f b k n c) (d:=_) (ah (dn (by omega)) (aZ (goes_go (l:=b.2.2.2.2.2.2.2) rfl rfl rfl rfl a _ 0 (aj _))))
theorem aeD{p:WY}{l:List fS}(b:p.a0=l)(e:p.a1=(l.length:Int))(j:l.length<=1000000):∀(f i:Nat),l.length-i<=f->Go (Q5 af) (Q5 af (.c0 p (i:Int))) λ_=>True:=by
 intro f
 induction f with
 | zero=>intro i c;exact bT (λg=>absurd g (by omega)) λ_=>aD trivial
 | succ f ih=>
   intro i c;refine bT (λg=>?_) λ_=>aD trivial;have a:Go (Q5 af) (.ao (.c0 p (af.c_ (i:Int) 1))) λ_=>True:=by
    rw[dG (by omega),show(i:Int)+1=((i+1:Nat):Int) from by omega];exact aZ (ih (i+1) (by omega))
   exact ah (by rw[b];exact da (l:=l) (by omega)) (dw (λ_=>dw (λ_=>dw (λ_=>dw (λ_=>aD trivial) λ_=>a) λ_=>a) λ_=>du (λ_=>dw (λ_=>dw (λ_=>aD trivial) λ_=>a) λ_=>a) λ_=>a) λ_=>a)
theorem Tb{v:(Bool×ax×jv×Unit)×(Int×fq)}(a:v.1.2.2.1.2.2.2.2.2.2.2.length<=1000000):LY v=true:=by
 obtain⟨⟨e,f,b,⟨⟩⟩,k,c⟩:=v;have a:b.2.2.2.2.2.2.2.length<=1000000:=a;exact(jA (s:=Q5 af) (t:=afU af e f b k c) (d:=false) (ah (dn (by omega)) (aZ (aeD (l:=b.2.2.2.2.2.2.2) rfl rfl a _ 0 (aj _))))).1
def V6(l:List dF)(w:Span)(r:List dF×Seen):Prop:=r.1=l/\(r.2.1=2->w.1<=r.2.2.1/\r.2.2.1<w.2)
theorem Xs{s:dF}{a b:Span}(h:YH (s,a,b)=true):b.1<=s.2.1.1/\s.2.1.1<b.2:=by
 revert h;refine uB (t:=anm af s a b) (P:=λr=>r=true->b.1<=s.2.1.1/\s.2.1.1<b.2) ?_ (LT.gf (by rfl)) (LT.iI (by rfl));exact fJ (λ_=>fJ (λ_=>dw (λ_=>oO (λg=>aD λh=>⟨g,of_decide_eq_true h⟩) λ_=>aD nofun) λ_=>aD nofun) λ_=>aD nofun) λ_=>aD nofun
theorem Zi{p:WX}{l:List dF}{w:Span}(a:p.a2=l)(y:p.a0=(l.length:Int))(s:(p.a16,p.a17)=w)(A:l.length<=1000000):∀(f i:Nat) (n t:Int),l.length-i<=f->i<=l.length->0<=n/\n<=i->0<=t->(n=0\/t<l.length)->Go (Jg af) (Jg af (.c0 p (i:Int) n t)) (V6 l w):=by
 have m:∀(i n t:Int),¬i<p.a0->0<=t->(n=0\/t<l.length)->Go (Jg af) (Jg af (.c0 p i n t)) (V6 l w):=by
  intro i n t c b r;refine bT (λg=>absurd g c) λ_=>dw (λ_=>aD ⟨a,nofun⟩) λu=>dw (λv=>ah (by rw[a];exact da (l:=l) (by omega)) (fJ (λg=>aD ⟨a,λ_=>?_⟩) λ_=>aD ⟨a,nofun⟩)) λ_=>aD ⟨a,nofun⟩;have:=Xs g;rw[<-s];omega
 intro f
 induction f with
 | zero=>grind
 | succ f ih=>
   intro i n t z c r b q;by_cases g:i<l.length
   ·refine bT (λ_=>?_) λo=>absurd o (by omega)
    have j:Go (Jg af) (.ao (.c0 p (af.c_ (i:Int) 1) n t)) (V6 l w):=by
     rw[dG (by omega),show(i:Int)+1=((i+1:Nat):Int) from by omega];exact aZ (ih (i+1) n t (by omega) (by omega) (by omega) b q)
    refine ah (by rw[a];exact da (l:=l) (by omega)) (fJ (λ_=>fJ (λ_=>?_) λ_=>j) λ_=>j);rw[dG (x:=n) (by omega),dG (x:=(i:Int)) (by omega),show(i:Int)+1=((i+1:Nat):Int) from by omega];exact dw (λ_=>aZ (ih (i+1) (n+1) i (by omega) (by omega) (by omega) (by omega) (.inr (by omega)))) λe=>aZ (ih (i+1) (n+1) t (by omega) (by omega) (by omega) b (.inr (by omega)))
   simp_all
theorem Bn{l:List dF}{a w:Span}{th:Int}(c:l.length<=1000000):CY (l,a,w,th)=true/\V6 l w (mO (l,a,w,th)):=by
 obtain⟨f,b⟩:=jA (s:=Jg af) (t:=ab7 af l a w th) (d:=([],Ty.aS [qi])) (P:=V6 l w) (aZ (Zi rfl rfl rfl c _ 0 0 0 (aj _) (aX _) (by omega) (by omega) (.inl rfl)));have e:(mO (l,a,w,th)).1=l:=b.1;refine⟨?_,b⟩;show(gu (Jg af) (ab7 af l a w th)&&decide ((mO (l,a,w,th)).1.length=l.length))=true
 simp_all
theorem zD:jg (0,([]:List Int))=true:=by decide +kernel
theorem Cu{c:Bool}{a b:(Int×List Int)×Int}(h:jg a.1=true)(g:jg b.1=true):jg (bif c then a else b).1=true:=by
 cases c
 ·exact g
 ·exact h
theorem ZV{l:List Bool}:jg (ofS l).1=true:=by
 unfold ofS;cases h:decide (4096<l.length)
 ·exact aiB (Nat.le_of_not_lt (of_decide_eq_false h))
 ·exact zD
theorem TD{x:(Int×List Int)×Int×Int}:jg (aak x).1=true:=by
 unfold aak;exact Cu zD (Cu zD ZV)
theorem afb{b u:Int×List Int}:jg (Nz (b,u)).1=true:=uB (t:=al8 af b.1 b.2 u.1 u.2) (P:=λr=>jg r.1=true) (dM (λ_=>aD zD) λ_=>aD TD) (LT.gf (by kernel_rfl)) (LT.iI (by kernel_rfl))
def Ii(s:(Int×List Int)×Int):Prop:=jg s.1=true
variable{s:(Int×List Int)×Int}
theorem qh{v n:Int}(h:Ii s):Ii (af.k yZ (s,v,n)).1:=Cu TD h
theorem H_{b:Int×List Int}(h:Ii s):Ii (af.k P2 (s,b)).1:=Cu afb h
theorem Rw:∀{l:List Int} {s:(Int×List Int)×Int},Ii s->Ii (af.k aeb (s,l)).1
 | [],_,h=>h
 | _::l,_,h=>Rw (l:=l) (qh h)
theorem acL{b:Int×List Int}(h:Ii s):Ii (af.k aec (s,b)).1:=Cu (Cu ZV zD) h
theorem xe{f:sj}:jg (zV f).1=true:=by
 obtain⟨k,r,⟨t,p,m,n,s⟩,a,d⟩:=f;have z:∀e,Ii ((0, []),e):=λ_=>zD;exact uB (t:=t46 af k r t p m n s a d) (P:=Ii) (dM (λ_=>aD (z _)) λ_=>dM (λ_=>aD (z _)) λ_=>dw (λ_=>aD (H_ (qh (qh (qh (qh (z _))))))) λ_=>dw (λ_=>aD (H_ (Rw (qh (qh (z _)))))) λ_=>dw (λ_=>aD (H_ (acL (qh (qh (qh (z _))))))) λ_=>dw (λ_=>aD (H_ (Rw (H_ (acL (qh (qh (qh (z _))))))))) λ_=>aD (qh (z _))) (LT.gf (by kernel_rfl)) (LT.iI (by kernel_rfl))
theorem aiv{n:Int}:0<=lX n/\lX n<=2100:=by
 refine uB (t:=t173 af n) (P:=λr=>0<=r/\r<=2100) (bT (λ_=>aD (by decide)) λg=>pQ (λ_=>aD (by decide)) λk=>aD ?_) (LT.gf (by kernel_rfl)) (LT.iI (by kernel_rfl));show 0<=af.c_ 14 (af.b .quo .i64 (af.c_ n 1) 2)/\af.c_ 14 (af.b .quo .i64 (af.c_ n 1) 2)<=2100;rw[dG (x:=n) (by omega),ET,iV (by omega),lg (by omega) (by omega),dG (by omega)];omega
def SgG(M:Int)(s:dF):Prop:=(0<=s.1/\s.1<=7)/\(0<=s.2.1.1/\s.2.1.1<=s.2.1.2/\s.2.1.2<=M)/\(0<=s.2.2.1/\s.2.2.1<=200)/\jg s.2.2.2=true
abbrev Ju(s:dF):Prop:=SgG 1050000000000 s
abbrev EH(s:dF):Prop:=SgG 1099511627776 s
abbrev SgH(i t n l:Int)(b:List Int):Prop:=Ju (i,(t,af.c_ t (af.k lX n)),l,n,b)
abbrev SgB(i t d:Int):Prop:=Ju (i,(t,af.c_ t d),100,0, [])
theorem SgG.ltr{s:dF}{d:Int}(h:Ju s)(e:0<=d/\d<=64):EH (y9 s (af.c_ s.2.1.1 d,af.c_ s.2.1.2 d)):=by
 obtain⟨a,c,b⟩:=h;refine⟨a,?_,b⟩;show 0<=af.c_ s.2.1.1 d/\af.c_ s.2.1.1 d<=af.c_ s.2.1.2 d/\af.c_ s.2.1.2 d<=_;rw[dG (by omega),dG (by omega)];omega
theorem Zy{a b:Span}(h:SK (a,b)=true):a.1<b.2/\b.1<a.2/\a.1<a.2/\b.1<b.2:=by
 revert h;exact uB (t:=ann af a b) (P:=λr=>r=true->_) (fJ (λ_=>bT (λc=>bT (λe=>bT (λf=>aD λk=>⟨c,e,f,of_decide_eq_true k⟩) λ_=>aD nofun) λ_=>aD nofun) λ_=>aD nofun) λ_=>aD nofun) (LT.gf (by kernel_rfl)) (LT.iI (by kernel_rfl))
theorem aeQ{o:Span}{s:dF}{M:Int}(h:SgG M s):(JV (o,s)).2=true->SgG M (JV (o,s)).1:=by
 obtain⟨b,e,c,f⟩:=h;have a:Go Empty.elim (.ret M4) λr=>r.2=true->SgG M r.1:=aD λk=>Bool.noConfusion (show false=true from k);refine uB (t:=ano af o s) (P:=λr=>r.2=true->SgG M r.1) (dM (λ_=>a) λ_=>dM (λ_=>a) λ_=>du (λ_=>a) λg=>fJ (λ_=>aD λ_=>⟨b,e,c,f⟩) λ_=>aD λ_=>⟨b,?_,c,zD⟩) (LT.gf (by kernel_rfl)) (LT.iI (by kernel_rfl));have g:=Zy g;show 0<=af.mx s.2.1.1 o.1/\af.mx s.2.1.1 o.1<=af.mn s.2.1.2 o.2/\af.mn s.2.1.2 o.2<=M;rw[tx,nW];split<;>split<;>omega
theorem Lq{l:Span}{n:Int}(h:Bc (l,n)=true):l.1<=n/\n<=l.2:=by
 revert h;exact uB (t:=am_ af l n) (P:=λr=>r=true->_) (oO (λg=>aD λk=>⟨g,of_decide_eq_true k⟩) λ_=>aD nofun) (LT.gf (by kernel_rfl)) (LT.iI (by kernel_rfl))
theorem EJ{f:fS}(h:mM (m,f)=true):Bc ((af.n jW (Bb (m,f.1)).1 3:Span),f.2.2.2.2.2.1)=true/\Bc ((af.n jW (Bb (m,f.1)).1 4:Span),f.2.2.2.2.2.2)=true/\(f.1=10->f.2.2.2.2.1≠f.2.1):=by
 revert h;have c:∀{P:Prop},Go Empty.elim (.ret false) λr=>r=true->P:=aD nofun
 exact uB (t:=am8 af m f) (P:=λr=>r=true->_) (du (λ_=>c) λ_=>bT (λ_=>c) λ_=>oO (λ_=>c) λ_=>dw (λ_=>dw (λ_=>c) λe=>du (λ_=>c) λ_=>du (λ_=>c) λ_=>du (λ_=>c) λ_=>du (λ_=>c) λa=>du (λ_=>c) λb=>aD λ_=>⟨a,b,λ_=>e⟩) λe=>du (λ_=>c) λ_=>du (λ_=>c) λ_=>du (λ_=>c) λ_=>du (λ_=>c) λa=>du (λ_=>c) λb=>aD λ_=>⟨a,b,λk=>absurd k e⟩) (LT.gf (by kernel_rfl)) (LT.iI (by kernel_rfl))
def tH(x:Net)(a b:List dF)(s:List sr):Net:=(x.1,x.2.1,x.2.2.1,x.2.2.2.1,x.2.2.2.2.1,x.2.2.2.2.2.1,x.2.2.2.2.2.2.1,a,b,s,x.2.2.2.2.2.2.2.2.2.2)
def tF(l a:List dF)(k:Nat):Prop:=a.length<=l.length+k/\∀s∈a,s∈l\/EH s
theorem tF.rfl{l:List dF}{k:Nat}:tF l l k:=⟨Nat.le_add_right _ _,λ_=>.inl⟩
variable{a:List dF}
theorem tF.mono{l:List dF}{k b:Nat}(h:tF l a k)(g:k<=b):tF l a b:=⟨aW h.1 (fH g _),h.2⟩
theorem tF.trans{l b:List dF}{k c:Nat}(h:tF l a k)(g:tF a b c):tF l b (k+c):=⟨by have:=h.1;have:=g.1;omega,λs e=>(g.2 s e).elim (h.2 s) .inr⟩
theorem tF.app{l:List dF}{s:dF}(h:tF (l ++ [s]) a 0)(b:EH s):tF l a 1:=⟨by have:=h.1;rw[qS,bg] at this;exact this,λz c=>(h.2 z c).elim (λk=>(nY.1 k).elim .inl λk=>.inr (by rw[aJ.1 k];exact b)) .inr⟩
def V4(x:Net)(s:dF)(r:Net×dF×Bool):Prop:=r.1=x/\∀M,SgG M s->r.2.2=true->SgG M r.2.1
theorem Y1{c:fq}{s:dF}(u:i<x.2.2.2.2.2.2.1.length)(o:x.2.2.1.2.2.2.2.2.2.2.length<=1000000)(q:x.2.2.2.2.2.2.1.length<=x.2.2.1.2.2.2.2.1.length):oQ (x,(i:Int),c,s)=true/\V4 x s (gN (x,(i:Int),c,s)):=by
 refine iC (s:=OB af) (t:=afW af x (i:Int) c s) (P:=V4 x s) (aZ ?_) λr h=>by rw[h.1]
 have a:∀{p:Pk},p.a6=(i:Int)->p.a3=x->p.a8=s->Go (OB af) (.ar (af.and (af.bU 0 p.a6) (af.bG p.a6 (af.l p.a3.2.2.2.2.2.2.1))) (.ar (af.and (af.bU 0 p.a6) (af.bG p.a6 (af.l p.a3.2.2.1.2.2.2.2.1))) (.br (af.cu (Dp af p).2 0) (.ret (p.a3,(0,(0,0),0,0,([]:List Int)),false)) (.ret (p.a3,af.k JV ((Dp af p).1,p.a8)))))) (V4 x s):=λe j m=>by
  rw[e,j,m];exact ah (da (l:=x.2.2.2.2.2.2.1) (by omega)) (ah (da (l:=x.2.2.1.2.2.2.2.1) (by omega)) (fJ (λ_=>aD ⟨rfl,λ_ _=>nofun⟩) λ_=>aD ⟨rfl,λ_=>aeQ⟩))
 have:∀(f k:Nat),x.2.2.1.2.2.2.2.2.2.2.length-k<=f->Go (OB af) (OB af (.c0 ⟨x.2.2.1.2.2.2.2.2.2.2,af.l x.2.2.1.2.2.2.2.2.2.2,x,c.1,(i:Int),c,s⟩ (k:Int))) (V4 x s):=by
  intro f
  induction f with
  | zero=>intro k n;exact bT (λg=>absurd g (by show ¬(k:Int)<(x.2.2.1.2.2.2.2.2.2.2.length:Int);omega)) λ_=>a rfl rfl rfl
  | succ f ih=>
    intro k n;refine bT (λg=>?_) λ_=>a rfl rfl rfl;have g:k<x.2.2.1.2.2.2.2.2.2.2.length:=by have g:(k:Int)<(x.2.2.1.2.2.2.2.2.2.2.length:Int):=g;omega
    have b:Go (OB af) (.ao (.c0 ⟨x.2.2.1.2.2.2.2.2.2.2,af.l x.2.2.1.2.2.2.2.2.2.2,x,c.1,(i:Int),c,s⟩ (af.c_ (k:Int) 1))) (V4 x s):=by
     rw[dG (by omega),show(k:Int)+1=((k+1:Nat):Int) from by omega];exact aZ (ih (k+1) (by omega))
    refine ah (da (l:=x.2.2.1.2.2.2.2.2.2.2) (by omega)) (dw (λ_=>xD (λ_=>dw (λ_=>oO (λ_=>aD ⟨rfl,λ_ h _=>h⟩) λ_=>a rfl rfl rfl) λ_=>b) λ_=>b) λ_=>b)
 exact this _ 0 (aj _)
theorem OO{l:List α}{v:α}(h:i<=l.length)(a:l.length<=1000000):(af.spl l (i:Int) (af.r (af.lI (af.l l) (i:Int)) v)).length=l.length:=by
 rw[dV,xV (by omega),yJ,mW];simp only[qS,cd,I4,cO];omega
theorem aaP{l L:List dF}{i:Int}{v s:dF}(h:∀s∈l,s∈L)(a:s∈(af.set l i v:List dF))(b:v∈L):s∈L:=(List.mem_or_eq_of_mem_set a).elim (h s) λe=>by rw[e];exact b
theorem Lw{l:List dF}(h:i<l.length):(af.n eU l (i:Int):dF)=l[i]:=fM h _
theorem aj6{L:List dF}(z:x.2.2.2.2.2.1.1=true)(C:n<=1000000):∀(f i j:Nat) (l:List dF),n-j<=f->i<=j->j<=n->l.length=n->(∀s∈l,s∈L)->Go (zw af) (zw af (.c1 (i:Int) (j:Int) (tH x l x.2.2.2.2.2.2.2.2.1 x.2.2.2.2.2.2.2.2.2.1))) λr=>∃a:List dF,(a.length<=n/\∀s∈a,s∈L)/\r.1=tH x a x.2.2.2.2.2.2.2.2.1 x.2.2.2.2.2.2.2.2.2.1:=by
 have m:∀(i j:Nat) (l:List dF),¬j<n->i<=j->j<=n->l.length=n->(∀s∈l,s∈L)->Go (zw af) (zw af (.c1 (i:Int) (j:Int) (tH x l x.2.2.2.2.2.2.2.2.1 x.2.2.2.2.2.2.2.2.2.1))) λr=>∃a:List dF,(a.length<=n/\∀s∈a,s∈L)/\r.1=tH x a x.2.2.2.2.2.2.2.2.1 x.2.2.2.2.2.2.2.2.2.1:=by
  intro i j l p o y c b;have t:(af.spl l (i:Int) (af.r (af.lI (af.l l) (i:Int)) (Ty.gw eU:dF))).length=n:=(OO (by omega) (by omega)).trans c;refine bT (λg=>absurd g (by show ¬(j:Int)<(l.length:Int);omega)) λ_=>ah ?_ (ah ?_ (aD ⟨_,⟨?_,λs e=>?_⟩,rfl⟩))
  ·simp only[bl,aB,fv,rR]
   exact⟨by omega,by show(i:Int)<=(l.length:Int);omega,al _⟩
  ·simp only[bl,aB,fv,rR]
   exact⟨by omega,by omega,by show(i:Int)<=((af.spl l (i:Int) (af.r (af.lI (af.l l) (i:Int)) (Ty.gw eU:dF))).length:Int);omega⟩
  ·show(af.s (af.spl l (i:Int) (af.r (af.lI (af.l l) (i:Int)) (Ty.gw eU:dF))) 0 (af.lI (i:Int) 0)).length<=_
   rw[iY,cO,cd];exact aW (Nat.sub_le _ _) (aW (nU _ _) (kC t))
  ·have e:s∈(af.s (af.spl l (i:Int) (af.r (af.lI (af.l l) (i:Int)) (Ty.gw eU:dF))) 0 (af.lI (i:Int) 0):List dF):=e
   rw[iY,mW,xV (by omega)] at e;exact b s (List.mem_of_mem_take (by rwa [b_,show((i:Int)-0).toNat=i by omega,fV (by rw[cd];omega)] at e))
 intro f
 induction f with
 | zero=>intro i j l v o p c b;exact m i j l (by omega) o p c b
 | succ f ih=>
   intro i j l v o p c b;by_cases g:j<n
   ·obtain⟨A,B⟩:=rG z
    have q:af.k dX ((tH x l x.2.2.2.2.2.2.2.2.1 x.2.2.2.2.2.2.2.2.2.1).2.2.2.2.2.1,())=(x.2.2.2.2.2.1,x.2.2.2.2.2.1.2.2):=B;refine bT (λ_=>?_) λu=>absurd u (by show ¬(l.length:Int)<=(j:Int);omega);rw[q,dG (x:=(j:Int)) (by omega),dG (x:=(i:Int)) (by omega),show(i:Int)+1=((i+1:Nat):Int) from by omega,show(j:Int)+1=((j+1:Nat):Int) from by omega];exact ah (da (l:=l) (by omega)) (ah A (du (λ_=>ah (da (l:=l) (by omega)) (aZ (ih (i+1) (j+1) _ (by omega) (by omega) (by omega) (lb.trans c) λs e=>aaP b e (by show(af.n eU l (j:Int):dF)∈L;rw[Lw (by omega)];exact b _ (cN _))))) λ_=>aZ (ih i (j+1) l (by omega) (by omega) (by omega) c b)))
   ·exact m i j l g o p c b
theorem aj5{p:RL}(c:x.2.2.2.2.2.1.1=true)(b:p.a0=(x.2.2.2.2.2.2.2.1.length:Int))(n:x.2.2.2.2.2.2.2.1.length<=1000000):∀(f i:Nat),x.2.2.2.2.2.2.2.1.length-i<=f->Go (zw af) (zw af (.c0 p (i:Int) x)) λr=>∃a:List dF,tF x.2.2.2.2.2.2.2.1 a 0/\r.1=tH x a x.2.2.2.2.2.2.2.2.1 x.2.2.2.2.2.2.2.2.2.1:=by
 intro f
 induction f with
 | zero=>intro i m;exact bT (λg=>absurd g (by rw[b];omega)) λ_=>aD ⟨_,tF.rfl,rfl⟩
 | succ f ih=>
   intro i m;obtain⟨q,t⟩:=rG c;have j:af.k dX (x.2.2.2.2.2.1,())=(x.2.2.2.2.2.1,x.2.2.2.2.2.1.2.2):=t;refine bT (λg=>?_) λ_=>aD ⟨_,tF.rfl,rfl⟩;have g:i<x.2.2.2.2.2.2.2.1.length:=by rw[b] at g;omega
   rw[j,dG (x:=(i:Int)) (by omega),show(i:Int)+1=((i+1:Nat):Int) from by omega];refine ah (da (l:=x.2.2.2.2.2.2.2.1) (by omega)) (ah q (fJ (λ_=>dw (λe=>by omega) λ_=>aZ ?_) λ_=>aZ (ih (i+1) (by omega))));exact(aj6 (x:=x) c n _ i (i+1) x.2.2.2.2.2.2.2.1 (aj _) (by omega) (by omega) rfl λ_=>id).mono λr ⟨a,k,e⟩=>⟨a,⟨k.1,λs o=>.inl (k.2 s o)⟩,e⟩
theorem aj7(h:x.2.2.2.2.2.1.1=true)(f:x.2.2.2.2.2.2.2.1.length<=1000000):L1 (x,0)=true/\∃a:List dF,tF x.2.2.2.2.2.2.2.1 a 0/\(K9 (x,0)).1=tH x a x.2.2.2.2.2.2.2.2.1 x.2.2.2.2.2.2.2.2.2.1:=by
 obtain⟨b,c⟩:=iC (x:=x) (s:=zw af) (t:=Ue af x 0) (d:=(Ty.aS [jH],Ty.aS [])) (P:=λr=>∃a:List dF,tF x.2.2.2.2.2.2.2.1 a 0/\r.1=tH x a x.2.2.2.2.2.2.2.2.1 x.2.2.2.2.2.2.2.2.2.1) (pQ (λ_=>aZ (aj5 h rfl f _ 0 (aj _))) λ_=>aD ⟨_,tF.rfl,rfl⟩) λr ⟨a,_,e⟩=>by rw[e];rfl
 rw[fv] at b;refine⟨?_,c⟩;show(decide ((0:Int)=0)&&gu _ _&&_)=true;rw[b.1];exact b.2
theorem aj9{L:List dF}(z:x.2.2.2.2.2.1.1=true)(C:n<=1000000):∀(f i j:Nat) (l:List dF),n-j<=f->i<=j->j<=n->l.length=n->(∀s∈l,s∈L)->Go (zx af) (zx af (.c1 (i:Int) (j:Int) (tH x x.2.2.2.2.2.2.2.1 l x.2.2.2.2.2.2.2.2.2.1))) λr=>∃a:List dF,(a.length<=n/\∀s∈a,s∈L)/\r.1=tH x x.2.2.2.2.2.2.2.1 a x.2.2.2.2.2.2.2.2.2.1:=by
 have m:∀(i j:Nat) (l:List dF),¬j<n->i<=j->j<=n->l.length=n->(∀s∈l,s∈L)->Go (zx af) (zx af (.c1 (i:Int) (j:Int) (tH x x.2.2.2.2.2.2.2.1 l x.2.2.2.2.2.2.2.2.2.1))) λr=>∃a:List dF,(a.length<=n/\∀s∈a,s∈L)/\r.1=tH x x.2.2.2.2.2.2.2.1 a x.2.2.2.2.2.2.2.2.2.1:=by
  intro i j l p o y c b;have t:(af.spl l (i:Int) (af.r (af.lI (af.l l) (i:Int)) (Ty.gw eU:dF))).length=n:=(OO (by omega) (by omega)).trans c;refine bT (λg=>absurd g (by show ¬(j:Int)<(l.length:Int);omega)) λ_=>ah ?_ (ah ?_ (aD ⟨_,⟨?_,λs e=>?_⟩,rfl⟩))
  ·simp only[bl,aB,fv,rR]
   exact⟨by omega,by show(i:Int)<=(l.length:Int);omega,al _⟩
  ·simp only[bl,aB,fv,rR]
   exact⟨by omega,by omega,by show(i:Int)<=((af.spl l (i:Int) (af.r (af.lI (af.l l) (i:Int)) (Ty.gw eU:dF))).length:Int);omega⟩
  ·show(af.s (af.spl l (i:Int) (af.r (af.lI (af.l l) (i:Int)) (Ty.gw eU:dF))) 0 (af.lI (i:Int) 0)).length<=_
   rw[iY,cO,cd];exact aW (Nat.sub_le _ _) (aW (nU _ _) (kC t))
  ·have e:s∈(af.s (af.spl l (i:Int) (af.r (af.lI (af.l l) (i:Int)) (Ty.gw eU:dF))) 0 (af.lI (i:Int) 0):List dF):=e
   rw[iY,mW,xV (by omega)] at e;exact b s (List.mem_of_mem_take (by rwa [b_,show((i:Int)-0).toNat=i by omega,fV (by rw[cd];omega)] at e))
 intro f
 induction f with
 | zero=>intro i j l v o p c b;exact m i j l (by omega) o p c b
 | succ f ih=>
   intro i j l v o p c b;by_cases g:j<n
   ·obtain⟨A,B⟩:=rG z
    have q:af.k dX ((tH x x.2.2.2.2.2.2.2.1 l x.2.2.2.2.2.2.2.2.2.1).2.2.2.2.2.1,())=(x.2.2.2.2.2.1,x.2.2.2.2.2.1.2.2):=B;refine bT (λ_=>?_) λu=>absurd u (by show ¬(l.length:Int)<=(j:Int);omega);rw[q,dG (x:=(j:Int)) (by omega),dG (x:=(i:Int)) (by omega),show(i:Int)+1=((i+1:Nat):Int) from by omega,show(j:Int)+1=((j+1:Nat):Int) from by omega];exact ah (da (l:=l) (by omega)) (ah A (du (λ_=>ah (da (l:=l) (by omega)) (aZ (ih (i+1) (j+1) _ (by omega) (by omega) (by omega) (lb.trans c) λs e=>aaP b e (by show(af.n eU l (j:Int):dF)∈L;rw[Lw (by omega)];exact b _ (cN _))))) λ_=>aZ (ih i (j+1) l (by omega) (by omega) (by omega) c b)))
   ·exact m i j l g o p c b
theorem aj8{p:RN}(c:x.2.2.2.2.2.1.1=true)(b:p.a0=(x.2.2.2.2.2.2.2.2.1.length:Int))(n:x.2.2.2.2.2.2.2.2.1.length<=1000000):∀(f i:Nat),x.2.2.2.2.2.2.2.2.1.length-i<=f->Go (zx af) (zx af (.c0 p (i:Int) x)) λr=>∃a:List dF,tF x.2.2.2.2.2.2.2.2.1 a 0/\r.1=tH x x.2.2.2.2.2.2.2.1 a x.2.2.2.2.2.2.2.2.2.1:=by
 intro f
 induction f with
 | zero=>intro i m;exact bT (λg=>absurd g (by rw[b];omega)) λ_=>aD ⟨_,tF.rfl,rfl⟩
 | succ f ih=>
   intro i m;obtain⟨q,t⟩:=rG c;have j:af.k dX (x.2.2.2.2.2.1,())=(x.2.2.2.2.2.1,x.2.2.2.2.2.1.2.2):=t;refine bT (λg=>?_) λ_=>aD ⟨_,tF.rfl,rfl⟩;have g:i<x.2.2.2.2.2.2.2.2.1.length:=by rw[b] at g;omega
   rw[j,dG (x:=(i:Int)) (by omega),show(i:Int)+1=((i+1:Nat):Int) from by omega];refine ah (da (l:=x.2.2.2.2.2.2.2.2.1) (by omega)) (ah q (fJ (λ_=>dw (λe=>by omega) λ_=>aZ ?_) λ_=>aZ (ih (i+1) (by omega))));exact(aj9 (x:=x) c n _ i (i+1) x.2.2.2.2.2.2.2.2.1 (aj _) (by omega) (by omega) rfl λ_=>id).mono λr ⟨a,k,e⟩=>⟨a,⟨k.1,λs o=>.inl (k.2 s o)⟩,e⟩
theorem aj_(h:x.2.2.2.2.2.1.1=true)(f:x.2.2.2.2.2.2.2.2.1.length<=1000000):L3 (x,1)=true/\∃a:List dF,tF x.2.2.2.2.2.2.2.2.1 a 0/\(K_ (x,1)).1=tH x x.2.2.2.2.2.2.2.1 a x.2.2.2.2.2.2.2.2.2.1:=by
 obtain⟨b,c⟩:=iC (x:=x) (s:=zx af) (t:=Uf af x 1) (d:=(Ty.aS [jH],Ty.aS [])) (P:=λr=>∃a:List dF,tF x.2.2.2.2.2.2.2.2.1 a 0/\r.1=tH x x.2.2.2.2.2.2.2.1 a x.2.2.2.2.2.2.2.2.2.1) (pQ (λ_=>aZ (aj8 h rfl f _ 0 (aj _))) λ_=>aD ⟨_,tF.rfl,rfl⟩) λr ⟨a,_,e⟩=>by rw[e];rfl
 rw[fv] at b;refine⟨?_,c⟩;show(decide ((1:Int)=1)&&gu _ _&&_)=true;rw[b.1];exact b.2
theorem aed(h:x.2.2.2.2.2.1.1=true)(b:x.2.2.2.2.2.2.2.1.length<=1000000):rH (x,0)=true/\∃a:List dF,tF x.2.2.2.2.2.2.2.1 a 0/\(rL (x,0)).1=tH x a x.2.2.2.2.2.2.2.2.1 x.2.2.2.2.2.2.2.2.2.1:=aj7 h b
theorem aee(h:x.2.2.2.2.2.1.1=true)(b:x.2.2.2.2.2.2.2.2.1.length<=1000000):rH (x,1)=true/\∃a:List dF,tF x.2.2.2.2.2.2.2.2.1 a 0/\(rL (x,1)).1=tH x x.2.2.2.2.2.2.2.1 a x.2.2.2.2.2.2.2.2.2.1:=aj_ h b
theorem akd{s:dF}(h:x.2.2.2.2.2.1.1=true)(j:x.2.2.2.2.2.2.2.1.length<=900000)(f:EH s):rH (ED x (af.p x.2.2.2.2.2.2.2.1 ([s]:List dF)),0)=true/\∃a:List dF,tF x.2.2.2.2.2.2.2.1 a 1/\(af.k rL (ED x (af.p x.2.2.2.2.2.2.2.1 ([s]:List dF)),0)).1=tH x a x.2.2.2.2.2.2.2.2.1 x.2.2.2.2.2.2.2.2.2.1:=by
 have g:(x.2.2.2.2.2.2.2.1 ++ [s]).length=x.2.2.2.2.2.2.2.1.length+1:=by rw[qS,bg]
 obtain⟨b,a,c,e⟩:=aed (x:=ED x (af.p x.2.2.2.2.2.2.2.1 ([s]:List dF))) h (by show(x.2.2.2.2.2.2.2.1 ++ [s]).length<=_;omega);exact⟨b,a,tF.app c f,e⟩
theorem avL{s:dF}(h:x.2.2.2.2.2.1.1=true)(j:x.2.2.2.2.2.2.2.2.1.length<=900000)(f:EH s):rH (Ay x (af.p x.2.2.2.2.2.2.2.2.1 ([s]:List dF)),1)=true/\∃a:List dF,tF x.2.2.2.2.2.2.2.2.1 a 1/\(af.k rL (Ay x (af.p x.2.2.2.2.2.2.2.2.1 ([s]:List dF)),1)).1=tH x x.2.2.2.2.2.2.2.1 a x.2.2.2.2.2.2.2.2.2.1:=by
 have g:(x.2.2.2.2.2.2.2.2.1 ++ [s]).length=x.2.2.2.2.2.2.2.2.1.length+1:=by rw[qS,bg]
 obtain⟨b,a,c,e⟩:=aee (x:=Ay x (af.p x.2.2.2.2.2.2.2.2.1 ([s]:List dF))) h (by show(x.2.2.2.2.2.2.2.2.1 ++ [s]).length<=_;omega);exact⟨b,a,tF.app c f,e⟩
def oy(x l:Net)(k j:Nat):Prop:=∃(a b:List dF) (s:List sr) (g:Int) (f c:List je),l=aqd (tH x a b s) g f/\tF x.2.2.2.2.2.2.2.1 a k/\tF x.2.2.2.2.2.2.2.2.1 b k/\(x.2.2.2.2.2.2.2.2.2.1.length<=s.length/\s.length<=x.2.2.2.2.2.2.2.2.2.1.length+k)/\
 f.length<=16384/\Ko f/\g<=x.2.2.2.2.1/\c.length<=j/\f.Perm (c++x.2.2.2.2.2.1.2.1)/\∀e∈c,e.2.1=3/\(x.2.2.2.2.2.1.2.2<=e.1/\e.1<=x.2.2.2.2.1)/\0<=e.2.2.2/\e.2.2.2<s.length
theorem oy.id(h:yW x):oy x x 0 0:=⟨_,_,_,_,_, [],rfl,tF.rfl,tF.rfl,⟨aj _,aj _⟩,h.len,h.heap,al _,aj _,.refl _,nofun⟩
theorem oy.chan{b:List dF}(h:yW x)(c:tF x.2.2.2.2.2.2.2.1 a 1)(e:tF x.2.2.2.2.2.2.2.2.1 b 1):oy x (tH x a b x.2.2.2.2.2.2.2.2.2.1) 1 0:=⟨a,b,_,_,_, [],rfl,c,e,⟨aj _,iX _⟩,h.len,h.heap,al _,aj _,.refl _,nofun⟩
theorem oy.ok{c:Net}{k:Nat}(l:x.2.2.2.2.2.1.1=true)(h:oy x c k j):yW c:=by
 obtain⟨a,b,s,m,n,e,rfl,_,_,_,f,g,_⟩:=h;exact⟨l,f,g⟩
theorem oy.trans{z:Net}{k v:Nat}(h:oy x y k j)(g:oy y z n v):oy x z (k+n) (j+v):=by
 obtain⟨a,b,s,S,W,q,rfl,N,O,X,Y,Z,u,h7,P,Q⟩:=h;obtain⟨B,C,l,p,r,c,rfl,D,E,m,F,G,H,V,I,J⟩:=g;refine⟨B,C,l,p,r,c++q,rfl,N.trans D,O.trans E,?_,F,G,bX H u,?_,?_,λe f=>?_⟩
 ·have m:s.length<=l.length/\l.length<=s.length+n:=m
  omega
 ·rw[qS];omega
 ·rw[b_];exact I.trans (P.append_left _)
 ·have m:s.length<=l.length/\l.length<=s.length+n:=m
  rcases nY.1 f with f|f
  ·obtain⟨t,o,A⟩:=J e f
   exact⟨t,⟨o.1,bX o.2 u⟩,A⟩
  ·obtain⟨t,o,A⟩:=Q e f
   exact⟨t,o,by omega⟩
theorem oy.mono{k l g:Nat}(h:oy x y k j)(f:k<=l)(A:j<=g):oy x y l g:=by
 obtain⟨a,b,s,m,u,c,e,n,o,v,p,q,r,z,t⟩:=h;exact⟨a,b,s,m,u,c,e,n.mono f,o.mono f,by omega,p,q,r,by omega,t⟩
theorem oy.aF{k:Nat}(e:oy x y k j)(n:Nat):aF y n=aF x n:=by
 obtain⟨a,b,s,f,g,c,rfl,_⟩:=e;rfl
theorem Mj{v:sr}(h:yW x)(m:x.2.2.2.2.2.2.2.2.2.1.length<=900000):qG (Um x (af.p x.2.2.2.2.2.2.2.2.2.1 ([v]:List sr)),t,3,0,af.lI (af.l (af.p x.2.2.2.2.2.2.2.2.2.1 ([v]:List sr))) 1)=true/\oy x (t_ (Um x (af.p x.2.2.2.2.2.2.2.2.2.1 ([v]:List sr)),t,3,0,af.lI (af.l (af.p x.2.2.2.2.2.2.2.2.2.1 ([v]:List sr))) 1)).1 1 1:=by
 have g:af.lI (af.l (af.p x.2.2.2.2.2.2.2.2.2.1 ([v]:List sr))) 1=(x.2.2.2.2.2.2.2.2.2.1.length:Int):=by
  rw[show af.p x.2.2.2.2.2.2.2.2.2.1 ([v]:List sr)=x.2.2.2.2.2.2.2.2.2.1 ++ [v] from rfl,dV,qS,bg,xV (by omega)];omega
 rw[g];obtain⟨p1,c,f,p2,p3,p4,p5⟩:=TB (x:=Um x (af.p x.2.2.2.2.2.2.2.2.2.1 ([v]:List sr))) (t:=t) (k:=3) (nd:=0) (n:=(x.2.2.2.2.2.2.2.2.2.1.length:Int)) ⟨h.made,h.len,h.heap⟩;refine⟨p1,?_⟩;rw[p2];have o:(x.2.2.2.2.2.2.2.2.2.1 ++ [v]).length=x.2.2.2.2.2.2.2.2.2.1.length+1:=by rw[qS,bg]
 rcases p5 with ⟨a,b,l⟩|⟨a,b,_⟩
 ·refine⟨x.2.2.2.2.2.2.2.1,x.2.2.2.2.2.2.2.2.1,x.2.2.2.2.2.2.2.2.2.1 ++ [v],c,f, [(vn x t,3,0,(x.2.2.2.2.2.2.2.2.2.1.length:Int))],rfl,tF.rfl,tF.rfl,by omega,p3,p4,oF a,aj _,l,λe j=>?_⟩
  rw[aJ.1 j];refine⟨rfl,⟨?_,b⟩,by show 0<=(x.2.2.2.2.2.2.2.2.2.1.length:Int);omega,by show(x.2.2.2.2.2.2.2.2.2.1.length:Int)<_;omega⟩;show x.2.2.2.2.2.1.2.2<=vn x t;unfold vn;split<;>omega
 ·exact⟨x.2.2.2.2.2.2.2.1,x.2.2.2.2.2.2.2.2.1,x.2.2.2.2.2.2.2.2.2.1 ++ [v],c,f, [],rfl,tF.rfl,tF.rfl,by omega,p3,p4,b,aX _,by rw[a];exact .refl _,nofun⟩
structure ze(x:Net)(i:Nat)(K:Nat):Prop where
 k:K<=800010
 q:yW x
 i:i<x.2.2.2.2.2.2.1.length
 f:x.2.2.1.2.2.2.2.2.2.2.length<=1000000
 g:x.2.2.2.2.2.2.1.length<=x.2.2.1.2.2.2.2.1.length
 c:x.2.2.2.2.2.2.2.1.length<=K/\x.2.2.2.2.2.2.2.2.1.length<=K/\x.2.2.2.2.2.2.2.2.2.1.length<=K
 ml:dC x.2.1=true
 n:x.2.2.2.2.2.2.1.length<=8
 fl:∀f∈x.2.2.1.2.2.2.2.2.2.2,mM (x.2.1,f)=true
theorem iQ{l:List α}{v:α}{N:Int}(h:(l.length:Int)+1<=N):af.bU (af.l (af.p l [v])) N=true:=by
 rw[aB,dV,show af.p l [v]=l ++ [v] from rfl,qS,bg];exact dn (by omega)
theorem eO(h:i<x.2.2.2.2.2.2.1.length):af.cu (af.l x.2.2.2.2.2.2.1) 0=true:=z_ (by omega)
variable{K:Nat}
theorem Lm(h:ze x i K){s:dF}{v:sr}(l:EH s):rH (Ay x (af.p x.2.2.2.2.2.2.2.2.1 ([s]:List dF)),1)=true/\∃y:Net,(af.k rL (Ay x (af.p x.2.2.2.2.2.2.2.2.1 ([s]:List dF)),1)).1=y/\y.2.2.2.2.2.2.1.length=x.2.2.2.2.2.2.1.length/\y.2.2.2.2.2.2.2.2.2.1=x.2.2.2.2.2.2.2.2.2.1/\qG (Um y (af.p y.2.2.2.2.2.2.2.2.2.1 ([v]:List sr)),t,3,0,af.lI (af.l (af.p y.2.2.2.2.2.2.2.2.2.1 ([v]:List sr))) 1)=true/\oy x (t_ (Um y (af.p y.2.2.2.2.2.2.2.2.2.1 ([v]:List sr)),t,3,0,af.lI (af.l (af.p y.2.2.2.2.2.2.2.2.2.1 ([v]:List sr))) 1)).1 2 1:=by
 obtain⟨q,c,p,n,o,m,_⟩:=h;obtain⟨f,a,g,j⟩:=avL (x:=x) (s:=s) c.made (by omega) l;have e:=oy.chan (a:=x.2.2.2.2.2.2.2.1) (b:=a) c tF.rfl g;obtain⟨p1,p2⟩:=Mj (v:=v) (t:=t) (e.ok c.made) (by show x.2.2.2.2.2.2.2.2.2.1.length<=_;omega);exact⟨f,_,j,rfl,rfl,p1,e.trans p2⟩
theorem ze.XO{k:Nat}(h:ze x i K)(e:oy x y k j)(l:K+k<=800010):ze y i (K+k):=by
 have m:=e.ok h.q.made;obtain⟨a,b,s,n,p,g,rfl,c,f,o,_⟩:=e;have c:=c.1;have f:=f.1;have q:=h.c;exact⟨l,m,h.i,h.f,h.g,by show a.length<=_/\b.length<=_/\s.length<=_;omega,h.ml,h.n,h.fl⟩
theorem ze.dly(h:ze x i K):0<=x.2.1.2.2.2.2.2.1/\x.2.1.2.2.2.2.2.1<=64:=by have:=wT h.ml;omega
section
variable {x:Net} {i K:Nat} (h:ze x i K)
include h
theorem ze.V0{c:fq}{s:dF}(e:Ju s):oQ (x,(i:Int),c,s)=true/\(gN (x,(i:Int),c,s)).1=x/\((gN (x,(i:Int),c,s)).2.2=true->Ju (gN (x,(i:Int),c,s)).2.1):=by
 obtain⟨a,b,d⟩:=Y1 (c:=c) (s:=s) h.i h.f h.g;exact⟨a,b,d _ e⟩
theorem ze.at(a:0<=c.1/\c.1<=1000000000000):0<=(u_ (x.2.1,c)).1/\(u_ (x.2.1,c)).1<=1000001048576:=by
 have b:=wT h.ml;refine uB (t:=anl af x.2.1 c) (P:=λr=>0<=r.1/\r.1<=1000001048576) (dM (λ_=>aD (show(0:Int)<=0/\(0:Int)<=1000001048576 by decide)) λ_=>aD ?_) (LT.gf (by kernel_rfl)) (LT.iI (by kernel_rfl));show 0<=af.c_ c.1 x.2.1.2.2.1/\af.c_ c.1 x.2.1.2.2.1<=_;rw[dG (by omega)];omega
theorem ze.frm{e:Bits×Int}{l nd:Int}(g:nd=(i:Int))(j:0<=t/\t<=1000100000000)(c:0<=l/\l<=200)(b:jg e.1=true):SgH nd t e.1.1 l e.1.2:=by
 have a:=aiv (n:=e.1.1);have m:=h.n;have f:=h.i;refine⟨by show 0<=nd/\nd<=7;omega,?_,c,b⟩;show 0<=t/\t<=af.c_ t (lX e.1.1)/\af.c_ t (lX e.1.1)<=_;rw[dG (by omega)];omega
theorem alO{p:wW}(c:p.d3=x)(b:p.d2=true->Ju p.AQ):Go (xS af) (xS af (.c3 p)) λr=>oy x r.1 2 1:=by
 subst c;have f:=h.c;have g:=h.k;refine du (λ_=>fJ (λ_=>?_) λ_=>aD ((oy.id h.q).mono (by omega) (by omega))) λk=>?_
 ·obtain⟨p1,p2⟩:=Mj (v:=((p.d12,p.Px),p.d14)) (t:=p.Px) h.q (by omega)
  exact ah (iQ (by omega)) (ah p1 (ah (eO h.i) (aD (p2.mono (by omega) (by omega)))))
 ·obtain⟨a,y,e,l1,l2,p1,p2⟩:=Lm h (s:=y9 p.AQ (Dm af p)) (v:=(Dm af p,p.d14)) (t:=af.c_ p.AQ.2.1.2 p.d3.2.1.2.2.2.2.2.1) ((b k).ltr h.dly)
  unfold xS MK EV EU;rw[e];exact ah (iQ (by omega)) (ah a (ah (eO h.i) (ah (by rw[l2];exact iQ (by omega)) (ah p1 (ah (by rw[show y.2.2.2.2.2.2.1=y.2.2.2.2.2.2.1 from rfl];exact eO (i:=i) (by have:=h.i;omega)) (aD p2))))))
theorem aaX{p:E_}(l:p.c0=(i:Int))(m:p.c2=x)(H:SgH p.c3 p.c4 p.c5 p.c7 p.c6):Go (xS af) (xS af (.c2 p)) λr=>oy x r.1 2 1:=by
 subst m;have G:∀(s:dF),Ju s->oQ (p.c2,p.c0,p.c10,s)=true/\(gN (p.c2,p.c0,p.c10,s)).1=p.c2/\((gN (p.c2,p.c0,p.c10,s)).2.2=true->Ju (gN (p.c2,p.c0,p.c10,s)).2.1):=λs b=>by rw[l];exact h.V0 b
 have a:Ju (p.c3,(p.c4,af.c_ p.c4 (af.k lX p.c5)),p.c7,0, []):=⟨H.1,H.2.1,H.2.2.1,zD⟩;have c:∀(s:dF),Ju s->∀(q:wW),q.d3=(gN (p.c2,p.c0,p.c10,s)).1->q.d2=(gN (p.c2,p.c0,p.c10,s)).2.2->q.AQ=(gN (p.c2,p.c0,p.c10,s)).2.1->Go (xS af) (.ao (.c3 q)) λr=>oy p.c2 r.1 2 1:=λs b q e f g=>aZ (alO h (e.trans (G s b).2.1) (by rw[f,g];exact(G s b).2.2));have j:=Tb (v:=(kv p.c2 (),1,p.c9)) h.f;exact fJ (λ_=>ah (G _ a).1 (ah (eO h.i) (c _ a _ rfl rfl rfl))) λ_=>ah j (fJ (λ_=>ah (G _ a).1 (ah (eO h.i) (c _ a _ rfl rfl rfl))) λ_=>ah (G _ H).1 (ah (eO h.i) (c _ H _ rfl rfl rfl)))
theorem alN{p:E9}(l:K+1<=800010)(e:p.b0=(i:Int))(n:p.b3=x)(m:p.b2=true->Ju p.Em)(H:SgH p.b4 p.b5 p.b6 p.b8 p.b7):Go (xS af) (xS af (.c1 p)) λr=>oy x r.1 3 1:=by
 subst n;have o:=h.c;refine du (λ_=>aZ ((aaX h e rfl H).mono λ_ k=>k.mono (by omega) (by omega))) λk=>?_;obtain⟨f,a,g,j⟩:=akd (x:=p.b3) (s:=y9 p.Em (acB af p)) h.q.made (by have:=h.k;omega) ((m k).ltr h.dly);have c:=oy.chan (a:=a) (b:=p.b3.2.2.2.2.2.2.2.2.1) h.q g tF.rfl;exact ah (iQ (by have:=h.k;omega)) (ah f (ah (eO h.i) (aZ ((aaX (h.XO c l) e j H).mono λ_ k=>c.trans k))))
theorem alM{p:Cm}(n:K+1<=800010)(f:p.a0=(i:Int))(t:p.a2=x)(H:SgH p.a3 p.a4 p.a5 p.a7 p.a6):Go (xS af) (xS af (.c0 p)) λr=>oy x r.1 3 1:=by
 subst t;have G:∀(s:dF),Ju s->oQ (p.a2,p.a0,p.iN,s)=true/\(gN (p.a2,p.a0,p.iN,s)).1=p.a2/\((gN (p.a2,p.a0,p.iN,s)).2.2=true->Ju (gN (p.a2,p.a0,p.iN,s)).2.1):=λs b=>by rw[f];exact h.V0 b
 have a:Ju (p.a3,(p.a4,af.c_ p.a4 (af.k lX p.a5)),p.a7,0, []):=⟨H.1,H.2.1,H.2.2.1,zD⟩;have c:∀(s:dF),Ju s->∀(q:E9),q.b0=p.a0->q.b3=(gN (p.a2,p.a0,p.iN,s)).1->q.b2=(gN (p.a2,p.a0,p.iN,s)).2.2->q.Em=(gN (p.a2,p.a0,p.iN,s)).2.1->SgH q.b4 q.b5 q.b6 q.b8 q.b7->Go (xS af) (.ao (.c1 q)) λr=>oy p.a2 r.1 3 1:=λs b q e g j l m=>aZ (alN h n (e.trans f) (g.trans (G s b).2.1) (by rw[j,l];exact(G s b).2.2) m);have o:=Tb (v:=(kv p.a2 (),0,p.a9)) h.f;exact fJ (λ_=>ah (G _ a).1 (ah (eO h.i) (c _ a _ rfl rfl rfl rfl H))) λ_=>ah o (fJ (λ_=>ah (G _ a).1 (ah (eO h.i) (c _ a _ rfl rfl rfl rfl H))) λ_=>ah (G _ H).1 (ah (eO h.i) (c _ H _ rfl rfl rfl rfl H)))
theorem Mm{f:sj}{c:fq}(B:K+1<=800010)(D:0<=(aF x i).2.1.1/\(aF x i).2.1.1<=1000000000000):GH (x,(i:Int),f,c)=true/\oy x (zo (x,(i:Int),f,c)).1 3 1:=by
 refine iC (s:=xS af) (t:=afO af x (i:Int) f c) (P:=λr=>oy x r.1 3 1) ?_ λr ⟨_,_,_,_,_,_,C,_⟩=>by rw[C];rfl
 have g:=λk=>ub (v:=(kv x (),k,(i:Int),c)) h.f;have id:Go (xS af) (.ret (x,())) λr=>oy x r.1 3 1:=aD ((oy.id h.q).mono (by omega) (by omega));have A:0<=(rJ af x (i:Int)).1/\(rJ af x (i:Int)).1<=1000001048576:=by
  unfold rJ;rw[jC];exact h.at D
 have E:=wT h.ml;have lv:(af.k eH (kv x (),7,(i:Int),c)).2=true->0<=(af.k eH (kv x (),7,(i:Int),c)).1.2.2.2.2.2.1/\(af.k eH (kv x (),7,(i:Int),c)).1.2.2.2.2.2.1<=200:=λk=>by
  obtain⟨a,b,_⟩:=(g 7).2 k;have q:=(EJ (h.fl _ a)).1;rw[b] at q;exact Lq (l:=(0,200)) q
 have o:(af.k eH (kv x (),8,(i:Int),c)).2=true->0<=af.mx (af.c_ (rJ af x (i:Int)).1 (af.k eH (kv x (),8,(i:Int),c)).1.2.2.2.2.2.1) 0/\af.mx (af.c_ (rJ af x (i:Int)).1 (af.k eH (kv x (),8,(i:Int),c)).1.2.2.2.2.2.1) 0<=1000100000000:=λk=>by
  obtain⟨a,b,_⟩:=(g 8).2 k;have q:=(EJ (h.fl _ a)).1;rw[b] at q;have q:=Lq (l:=(af.u .neg .i64 x.2.1.2.2.1,x.2.1.2.2.1)) q;rw[show af.u .neg .i64 x.2.1.2.2.1=IntKind.i64.wrap (0-x.2.1.2.2.1) from rfl,lg (by omega) (by omega)] at q;rw[tx,dG (by show -4611686018427387904<=_+(eH (kv x (),8,(i:Int),c)).1.2.2.2.2.2.1/\_+(eH (kv x (),8,(i:Int),c)).1.2.2.2.2.2.1<_;omega)];show _/\(if (0:Int) > _+(eH (kv x (),8,(i:Int),c)).1.2.2.2.2.2.1 then(0:Int) else _+(eH (kv x (),8,(i:Int),c)).1.2.2.2.2.2.1)<=_;split<;>omega
 have L:(0:Int)<=100/\(100:Int)<=200:=by decide
 have m:0<=(rJ af x (i:Int)).1/\(rJ af x (i:Int)).1<=1000100000000:=by omega
 have e:∀(p:Cm),p.a0=(i:Int)->p.a2=x->SgH p.a3 p.a4 p.a5 p.a7 p.a6->Go (xS af) (.ao (.c0 p)) λr=>oy x r.1 3 1:=λp u y z=>aZ (alM h B u y z);refine ah (g 3).1 (fJ (λ_=>id) λ_=>ah (da (l:=x.2.2.2.2.2.2.1) (by have:=h.i;omega)) (dM (λ_=>id) λ_=>dM (λ_=>id) λ_=>ah (g 7).1 (fJ (λn=>ah (g 8).1 (fJ (λj=>ah (g 4).1 (e _ rfl rfl (h.frm rfl (o j) (lv n) xe))) λ_=>ah (g 4).1 (e _ rfl rfl (h.frm rfl m (lv n) xe)))) λ_=>ah (g 8).1 (fJ (λj=>ah (g 4).1 (e _ rfl rfl (h.frm rfl (o j) L xe))) λ_=>ah (g 4).1 (e _ rfl rfl (h.frm rfl m L xe))))))
end
section
variable {x:Net} {i K:Nat} (h:ze x i K)
include h
theorem ajW{p:zJ}(c:p.h4=x)(b:p.h2=true->Ju p.P9):Go (rI af) (rI af (.c7 p)) λr=>oy x r.1 2 1:=by
 subst c;have f:=h.c;have g:=h.k;refine du (λ_=>fJ (λ_=>?_) λ_=>aD ((oy.id h.q).mono (by omega) (by omega))) λk=>?_
 ·obtain⟨p1,p2⟩:=Mj (v:=((p.h10,p.h11),p.h12)) (t:=p.h11) h.q (by omega)
  exact ah (iQ (by omega)) (ah p1 (ah (eO h.i) (aD (p2.mono (by omega) (by omega)))))
 ·obtain⟨a,y,e,l1,l2,p1,p2⟩:=Lm h (s:=y9 p.P9 (yQ af p)) (v:=(yQ af p,p.h12)) (t:=af.c_ p.P9.2.1.2 p.h4.2.1.2.2.2.2.2.1) ((b k).ltr h.dly)
  unfold rI MU EY EX;rw[e];exact ah (iQ (by omega)) (ah a (ah (eO h.i) (ah (by rw[l2];exact iQ (by omega)) (ah p1 (ah (by rw[show y.2.2.2.2.2.2.1=y.2.2.2.2.2.2.1 from rfl];exact eO (i:=i) (by have:=h.i;omega)) (aD p2))))))
theorem XL{p:Pj}(e:p.f0=(i:Int))(f:p.f3=x)(H:SgH p.f4 p.f5 p.f6 100 p.f7):Go (rI af) (rI af (.c5 p)) λr=>oy x r.1 2 1:=by
 subst f;obtain⟨a,b,d⟩:=h.V0 (c:=p.f8) H;rw[<-e] at a b d;exact ah a (ah (eO h.i) (aZ (ajW h b d)))
theorem ajU{p:Kw}(l:K+1<=800010)(e:p.d0=(i:Int))(n:p.d4=x)(m:p.d2=true->Ju p.Px)(H:SgH p.d5 p.d6 p.d7 100 p.d8):Go (rI af) (rI af (.c3 p)) λr=>oy x r.1 3 1:=by
 subst n;have o:=h.c;refine du (λ_=>aZ ((XL h e rfl H).mono λ_ k=>k.mono (by omega) (by omega))) λk=>?_;obtain⟨f,a,g,j⟩:=akd (x:=p.d4) (s:=y9 p.Px (acH af p)) h.q.made (by have:=h.k;omega) ((m k).ltr h.dly);have c:=oy.chan (a:=a) (b:=p.d4.2.2.2.2.2.2.2.2.1) h.q g tF.rfl;exact ah (iQ (by have:=h.k;omega)) (ah f (ah (eO h.i) (aZ ((XL (h.XO c l) e j H).mono λ_ k=>c.trans k))))
theorem XJ{p:Ku}(f:K+1<=800010)(e:p.b0=(i:Int))(g:p.b3=x)(H:SgH p.b4 p.b5 p.b6 100 p.b7):Go (rI af) (rI af (.c1 p)) λr=>oy x r.1 3 1:=by
 subst g;obtain⟨a,b,d⟩:=h.V0 (c:=p.b8) H;rw[<-e] at a b d;exact ah a (ah (eO h.i) (aZ (ajU h f e b d H)))
end
def E2(x:Net)(i:Nat)(c:fq)(r:Net×Unit):Prop:=oy x r.1 6 2/\((eH (kv x (),10,(i:Int),c)).2=false->oy x r.1 6 1)
theorem Ft{c:fq}{j l:Bool}{q:Ku}(s:b=(i:Int))(h:ze y i K)(p:K+1<=800010)(a:oy x y 3 1)(B:kv y ()=kv x ())(u:q.b0=(i:Int))(z:q.b3=y){k:Int}(t:k=(i:Int))(C:0<=(aF y i).2.1.1/\(aF y i).2.1.1<=1000000000000)(m:q.b4=(i:Int))(f:q.b5=(af.k u_ (y.2.1,(af.n bP y.2.2.2.2.2.2.1 k:cr).2.1)).1)(o:jg (q.b6,q.b7)=true):
  Go (rI af) (.ar (af.k jR (kv y (),10,b,c)) (.br (af.not (af.k eH (kv y (),10,b,c)).2) (.ret (y,())) (.br j (.ret (y,())) (.br l (.ret (y,())) (.ao (.c1 q)))))) (E2 x i c):=by
 subst s;have H:SgH q.b4 q.b5 q.b6 100 q.b7:=by
  rw[t,jC] at f;have A:=h.at C;exact h.frm (e:=((q.b6,q.b7),0)) m (by rw[f];exact⟨A.1,bX A.2 (by decide)⟩) (by decide) o
 have one:E2 x i c (y,()):=⟨a.mono (by omega) (by omega),λ_=>a.mono (by omega) (by omega)⟩;refine ah (ub (v:=(kv y (),10,(i:Int),c)) h.f).1 (du (λ_=>aD one) λg=>fJ (λ_=>aD one) λ_=>fJ (λ_=>aD one) λ_=>aZ ((XJ h p u z H).mono λr k=>⟨(a.trans k).mono (by omega) (by omega),λn=>?_⟩));rw[B] at g;exact absurd (g.symm.trans n) (by decide)
theorem oy.lp{k:Nat}(e:oy x y k j):kv y ()=kv x ():=by
 obtain⟨a,b,s,f,g,c,rfl,_⟩:=e;rfl
theorem ajV{f:Net}{p:qx}(h:ze x i K)(u:K+3<=800010)(n:0<=(aF f i).2.1.1/\(aF f i).2.1.1<=1000000000000)(c:oy f x 1 0)(b:p.g5=(i:Int))(l:p.g3=(i:Int))(r:p.g4=x)(q:p.g2=true->Ju p.g12):Go (rI af) (rI af (.c6 p)) (E2 f i p.g13):=by
 subst r;have z:=h.c;refine du (λ_=>fJ (λ_=>?_) λ_=>Ft b h (by omega) (c.mono (by omega) (by omega)) c.lp b rfl l (by rw[c.aF];exact n) b rfl xe) λk=>?_
 ·obtain⟨p1,p2⟩:=Mj (v:=((p.g9,p.g10),p.g11)) (t:=p.g10) h.q (by omega)
  have g:=c.trans p2;have a:=n;rw[<-g.aF] at a;have m:=h.XO p2 (by omega);exact ah (iQ (by omega)) (ah p1 (ah (eO h.i) (Ft b m (by omega) (g.mono (by omega) (by omega)) g.lp b rfl l a b rfl xe)))
 ·obtain⟨o,y,e,l1,l2,p1,p2⟩:=Lm h (s:=y9 p.g12 (yP af p)) (v:=(yP af p,p.g11)) (t:=af.c_ p.g12.2.1.2 p.g4.2.1.2.2.2.2.2.1) ((q k).ltr h.dly)
  have j:=c.trans p2;have a:=n;rw[<-j.aF] at a;have m:=h.XO p2 (by omega);unfold rI MR EW qU Rv uA;rw[e];exact ah (iQ (by omega)) (ah o (ah (eO h.i) (ah (by rw[l2];exact iQ (by omega)) (ah p1 (ah (by rw[show y.2.2.2.2.2.2.1=y.2.2.2.2.2.2.1 from rfl];exact eO (i:=i) (by have:=h.i;omega)) (Ft b m (by omega) (j.mono (by omega) (by omega)) j.lp b rfl l a b rfl xe))))))
theorem XK{e:Net}{p:Ph}(h:ze x i K)(j:K+3<=800010)(o:0<=(aF e i).2.1.1/\(aF e i).2.1.1<=1000000000000)(l:oy e x 1 0)(m:p.e0=(i:Int))(f:p.e4=(i:Int))(g:p.e2=(i:Int))(n:p.e3=x)(H:SgB p.e4 p.e5 p.e6.2.2.2.2.2.2):Go (rI af) (rI af (.c4 p)) (E2 e i p.e11):=by
 subst n;obtain⟨a,b,d⟩:=h.V0 (c:=p.e7) H;rw[<-m] at a b d;exact ah a (ah (eO h.i) (aZ (ajV h j o l f g b d)))
theorem ajT{p:Kv}(h:ze x i K)(r:K+4<=800010)(j:0<=(aF x i).2.1.1/\(aF x i).2.1.1<=1000000000000)(g:p.c0=(i:Int))(c:p.c5=(i:Int))(f:p.c3=(i:Int))(q:p.c4=x)(o:p.c2=true->Ju p.c12)(H:SgB p.c5 p.c6 p.c7.2.2.2.2.2.2):Go (rI af) (rI af (.c2 p)) (E2 x i p.c13):=by
 subst q;have t:=h.c;refine du (λ_=>aZ (XK h (by omega) j ((oy.id h.q).mono (by omega) (by omega)) g c f rfl H)) λk=>?_;obtain⟨l,a,m,n⟩:=akd (x:=p.c4) (s:=y9 p.c12 (acG af p)) h.q.made (by have:=h.k;omega) ((o k).ltr h.dly);have e:=oy.chan (a:=a) (b:=p.c4.2.2.2.2.2.2.2.2.1) h.q m tF.rfl;exact ah (iQ (by have:=h.k;omega)) (ah l (ah (eO h.i) (aZ (XK (h.XO e (by omega)) (by omega) j e g c f n H))))
theorem ajS{p:Pg}(h:ze x i K)(j:K+4<=800010)(m:0<=(aF x i).2.1.1/\(aF x i).2.1.1<=1000000000000)(f:p.a0=(i:Int))(e:p.a4=(i:Int))(g:p.a2=(i:Int))(l:p.a3=x)(H:SgB p.a4 p.a5 p.a6.2.2.2.2.2.2):Go (rI af) (rI af (.c0 p)) (E2 x i p.kV):=by
 subst l;obtain⟨a,b,d⟩:=h.V0 (c:=p.a7) H;rw[<-f] at a b d;refine ah a (ah (eO h.i) (aZ ?_));have q:=ajT (p:=⟨p.a0,(gN (p.a3,p.a0,p.a7,p.a4,(p.a5,af.c_ p.a5 p.a6.2.2.2.2.2.2),100,0,([]:List Int))).2.2,p.a2,p.a3,p.a4,p.a5,p.a6,p.a7,p.iN,(gN (p.a3,p.a0,p.a7,p.a4,(p.a5,af.c_ p.a5 p.a6.2.2.2.2.2.2),100,0,([]:List Int))).2.1,p.kV⟩) h j m f e g rfl d H;rw[show(H7 af p)=(p.a3,p.a0,p.a7,p.a4,(p.a5,af.c_ p.a5 p.a6.2.2.2.2.2.2),100,0,([]:List Int)) from rfl];show Go (rI af) (rI af (.c2 ⟨_,_,_,(gN (p.a3,p.a0,p.a7,p.a4,(p.a5,af.c_ p.a5 p.a6.2.2.2.2.2.2),100,0,([]:List Int))).1,_,_,_,_,_,_,_⟩)) _;rw[b];exact q
theorem ze.bab{c:fq}(h:ze x i K)(m:0<=(aF x i).2.1.1/\(aF x i).2.1.1<=1000000000000)(k:(af.k eH (kv x (),9,(i:Int),c)).2=true):Ju ((i:Int),(af.c_ (af.n bP x.2.2.2.2.2.2.1 (i:Int):cr).2.1.1 (af.k eH (kv x (),9,(i:Int),c)).1.2.2.2.2.2.1,af.c_ (af.c_ (af.n bP x.2.2.2.2.2.2.1 (i:Int):cr).2.1.1 (af.k eH (kv x (),9,(i:Int),c)).1.2.2.2.2.2.1) (af.k eH (kv x (),9,(i:Int),c)).1.2.2.2.2.2.2),100,0, []):=by
 have j:=wT h.ml;have n:=h.n;have g:=h.i;obtain⟨a,b,_⟩:=(ub (v:=(kv x (),9,(i:Int),c)) h.f).2 k;have q:=EJ (h.fl _ a);rw[b] at q;have e:=Lq (l:=(0,af.lI x.2.1.2.1 1)) q.1;have f:=Lq (l:=(1,x.2.1.2.1)) q.2.1;rw[xV (by omega)] at e;rw[jC];have e:0<=(af.k eH (kv x (),9,(i:Int),c)).1.2.2.2.2.2.1/\(af.k eH (kv x (),9,(i:Int),c)).1.2.2.2.2.2.1<=x.2.1.2.1-1:=e;have f:1<=(af.k eH (kv x (),9,(i:Int),c)).1.2.2.2.2.2.2/\(af.k eH (kv x (),9,(i:Int),c)).1.2.2.2.2.2.2<=x.2.1.2.1:=f;generalize (af.k eH (kv x (),9,(i:Int),c)).1.2.2.2.2.2.1=A at *;generalize (af.k eH (kv x (),9,(i:Int),c)).1.2.2.2.2.2.2=B at *;rw[dG (x:=(aF x i).2.1.1) (y:=A) (by omega),dG (by omega)];exact⟨by show 0<=(i:Int)/\(i:Int)<=7;omega,by show 0<=(aF x i).2.1.1+A/\(aF x i).2.1.1+A<=(aF x i).2.1.1+A+B/\(aF x i).2.1.1+A+B<=_;omega,show(0:Int)<=100/\(100:Int)<=200 by decide,zD⟩
theorem Py{c:fq}(h:ze x i K)(f:K+4<=800010)(a:0<=(aF x i).2.1.1/\(aF x i).2.1.1<=1000000000000):QK (x,(i:Int),c)=true/\E2 x i c (zp (x,(i:Int),c)):=by
 refine iC (s:=rI af) (t:=afP af x (i:Int) c) (P:=E2 x i c) ?_ λr ⟨⟨_,_,_,_,_,_,j,_⟩,_⟩=>by rw[j];rfl
 have id:E2 x i c (x,()):=⟨(oy.id h.q).mono (by omega) (by omega),λ_=>(oy.id h.q).mono (by omega) (by omega)⟩;have g:=λk=>ub (v:=(kv x (),k,(i:Int),c)) h.f;have A:0<=(af.k u_ (x.2.1,(af.n bP x.2.2.2.2.2.2.1 (i:Int):cr).2.1)).1/\(af.k u_ (x.2.1,(af.n bP x.2.2.2.2.2.2.1 (i:Int):cr).2.1)).1<=1000001048576:=by
  rw[jC];exact h.at a
 have M:=h.frm (nd:=(i:Int)) (e:=MO af x (i:Int) c) (l:=100) rfl ⟨A.1,bX A.2 (by decide)⟩ (by decide) xe;refine ah (da (l:=x.2.2.2.2.2.2.1) (by have:=h.i;omega)) (ah (g 9).1 (fJ (λk=>aZ (ajS h f a rfl rfl rfl rfl (h.bab a k))) λ_=>ah (g 10).1 (du (λ_=>aD id) λb=>dM (λ_=>aD id) λ_=>dM (λ_=>aD id) λ_=>aZ ((XJ h (by omega) rfl rfl M).mono λr k=>⟨k.mono (by omega) (by omega),λn=>absurd (b.symm.trans n) (by decide)⟩))))
def gD(n:Node)(y:cr):cr:=(n,y.2)
theorem qR.aF{a:Net}(h:qR x e a)(j:Nat):aF a j=aF x j:=by
 obtain⟨b,c,rfl,_⟩:=h;rfl
theorem fh(h:i<x.2.2.2.2.2.2.1.length):aF (cH x (bq x.2.2.2.2.2.2.1 i f)) i=f (aF x i):=um h
theorem qR.snd{a:Net}(h:ze x i K)(p:qR x e a):ze a i K:=by
 obtain⟨b,c,rfl,a1,a2,_⟩:=p;exact⟨h.k,⟨h.q.made,a1,a2⟩,h.i,h.f,h.g,h.c,h.ml,h.n,h.fl⟩
theorem ze.mod(h:ze x i K):ze (cH x (bq x.2.2.2.2.2.2.1 j f)) i K:=
 ⟨h.k,⟨h.q.made,h.q.len,h.q.heap⟩,by show i<(bq _ _ _).length;rw[bL];exact h.i,h.f,by show(bq _ _ _).length<=_;rw[bL];exact h.g,h.c,h.ml,by show(bq _ _ _).length<=_;rw[bL];exact h.n,h.fl⟩
def RQ(x:Net)(i:Nat)(r:Net×Bool):Prop:=
 let o:=rm x.2.1 (aF x i).1
 (o.2.2.2≠0/\r=(x,true))\/(o.2.2.2=0/\∃y,(o.1.2.1=1/\RB (cH x (bq x.2.2.2.2.2.2.1 i (gD o.1))) i y\/o.1.2.1≠1/\y=cH x (bq x.2.2.2.2.2.2.1 i (gD o.1)))/\(o.2.2.1=false/\r=(y,kh o.1)\/o.2.2.1=true/\r.2=true/\oy y r.1 3 1))
theorem oy.len{k:Nat}(e:oy x y k j):y.2.2.2.2.2.2.1.length=x.2.2.2.2.2.2.1.length:=by
 obtain⟨a,b,s,f,g,c,rfl,_⟩:=e;rfl
theorem RQ.len{r:Net×Bool}(h:RQ x i r):r.1.2.2.2.2.2.2.1.length=x.2.2.2.2.2.2.1.length:=by
 rcases h with ⟨_,rfl⟩|⟨_,y,b,a⟩
 ·rfl
 ·have e:y.2.2.2.2.2.2.1.length=x.2.2.2.2.2.2.1.length:=by
   rcases b with ⟨_,b⟩|⟨_,rfl⟩
   ·rw[b.len];exact bL
   ·exact bL
  rcases a with ⟨_,rfl⟩|⟨_,_,a⟩
  ·exact e
  ·rw[a.len];exact e
theorem abg{c:fq}(h:ze x i K)(y:K+1<=800010)(B:dC x.2.1=true)(E:0<=(aF x i).2.2.2.2.1/\(aF x i).2.2.2.2.1<=900000000000)(D:0<=x.2.2.2.2.2.1.2.2/\x.2.2.2.2.2.1.2.2<=2199023255552)(A:0<=(aF x i).2.1.1/\(aF x i).2.1.1<=1000000000000):QL (x,(i:Int),c)=true/\RQ x i (xu (x,(i:Int),c)):=by
 have o:=h.i;refine iC (s:=Empty.elim) (t:=ab6 af x (i:Int) c) (P:=RQ x i) ?_ λr C=>C.len;have v:qP af x (i:Int)=rm x.2.1 (aF x i).1:=by
  unfold qP;rw[jC];rfl
 have u:wo af x (i:Int)=bq x.2.2.2.2.2.2.1 i (gD (rm x.2.1 (aF x i).1).1):=by
  unfold wo;rw[v,jC];exact vW
 have m:aF (cH x (bq x.2.2.2.2.2.2.1 i (gD (rm x.2.1 (aF x i).1).1))) i=gD (rm x.2.1 (aF x i).1).1 (aF x i):=um o;have e:=h.mod (j:=i) (f:=gD (rm x.2.1 (aF x i).1).1);unfold ab6;rw[v,u];refine ah (da (l:=x.2.2.2.2.2.2.1) (by omega)) (dM (λg=>aD (.inl ⟨g,rfl⟩)) λg=>dw (λb=>?_) λb=>du (λa=>aD (.inr ⟨g,_,.inr ⟨b,rfl⟩,.inl ⟨a,rfl⟩⟩)) λa=>?_)
 ·obtain⟨p1,p2⟩:=Gg (x:=cH x (bq x.2.2.2.2.2.2.1 i (gD (rm x.2.1 (aF x i).1).1))) e.q e.i B (by rw[m];show 0<=(aF x i).2.2.2.2.1/\(aF x i).2.2.2.2.1<=_;omega) D
  have n:ya af x (i:Int)=(JS (cH x (bq x.2.2.2.2.2.2.1 i (gD (rm x.2.1 (aF x i).1).1)),(i:Int))).1:=by
   unfold ya;rw[u];rfl
  have z:ze (ya af x (i:Int)) i K:=by rw[n];exact p2.snd (e.mod)
  have p3:RB (cH x (bq x.2.2.2.2.2.2.1 i (gD (rm x.2.1 (aF x i).1).1))) i (ya af x (i:Int)):=by rw[n];exact p2
  obtain⟨p,q⟩:=Mm (f:=(rm x.2.1 (aF x i).1).2.1) (c:=c) z y (by rw[n,qR.aF p2,fh e.i,m];exact A);exact ah p1 (ah (pT o) (du (λa=>aD (.inr ⟨g,_,.inl ⟨b,p3⟩,.inl ⟨a,rfl⟩⟩)) λa=>ah p (ah (eO z.i) (aD (.inr ⟨g,_,.inl ⟨b,p3⟩,.inr ⟨a,rfl,q⟩⟩)))))
 ·obtain⟨p,q⟩:=Mm (f:=(rm x.2.1 (aF x i).1).2.1) (c:=c) e y (by rw[m];exact A)
  exact ah p (ah (pT o) (aD (.inr ⟨g,_,.inr ⟨b,rfl⟩,.inr ⟨a,rfl,q⟩⟩)))
def akh(n:Node)(c:qj)(y:cr):cr:=(n,c,y.2.2)
def ahE(c a:qj):Prop:=a.1=c.1/\a.2.1=c.2.1/\(c.2.2.length<=8->a.2.2.length<=8)
theorem ahE.id:ahE c c:=⟨rfl,rfl,λh=>h⟩
def V5(x:Net)(i:Nat)(a:Net):Prop:=a=x\/∃l c,(ot x.2.1 (aF x i).1 l).2.2=0/\ahE (aF x i).2.1 c/\a=cH x (bq x.2.2.2.2.2.2.1 i (akh (ot x.2.1 (aF x i).1 l).1 c))
theorem V5.len{a:Net}(h:V5 x i a):(a.2.2.2.2.2.2.1).length=x.2.2.2.2.2.2.1.length:=by
 rcases h with rfl|⟨_,_,_,_,rfl⟩
 ·rfl
 ·exact bL
theorem Y7{l:List Seen}{L:List cr}{b:List dF}{o:qk×Int}(f:i<x.2.2.2.2.2.2.1.length)(p:a=x.2.2.2.2.2.2.2.1)(q:b=x.2.2.2.2.2.2.2.2.1)(n:L=bq x.2.2.2.2.2.2.1 i (gD (ot x.2.1 (aF x i).1 l).1))(s:o=(ot x.2.1 (aF x i).1 l).2)(y:(aF x i).2.1.2.2.length<=8):
  Go Empty.elim (.br (af.cu o.2 0) (.ret (Ay (ED x a) b,())) (.br (af.cu o.1.1 3) (.ret (Ay (ED (rC x L) a) b,())) (.ar (af.k GI (x.2.1,(af.n bP L (i:Int):cr).2.1,t)) (.br (af.bK (af.k wJ (x.2.1,(af.n bP L (i:Int):cr).2.1,t)).2 0) (.ret (Ay (ED (rC x (md af bP L (i:Int) λ(e:cr)=>y9 e (af.k wJ (x.2.1,(af.n bP L (i:Int):cr).2.1,t)).1)) a) b,())) (.ret (Ay (ED (rC x L) a) b,()))))):LT (Net×Unit) Empty) λr=>V5 x i r.1:=by
 subst p q n s;have en:(af.n bP (bq x.2.2.2.2.2.2.1 i (gD (ot x.2.1 (aF x i).1 l).1)) (i:Int):cr).2.1=(aF x i).2.1:=by rw[BE f];rfl
 rw[en];obtain⟨u,v⟩:=alD (m:=x.2.1) (c:=(aF x i).2.1) (t:=t) (by omega);have same:(ot x.2.1 (aF x i).1 l).2.2=0->V5 x i (cH x (bq x.2.2.2.2.2.2.1 i (gD (ot x.2.1 (aF x i).1 l).1))):=λg=>.inr ⟨l,(aF x i).2.1,g,.id,rfl⟩;refine dM (λ_=>aD (.inl rfl)) λg=>dM (λ_=>aD (same g)) λ_=>ah u (dw (λj=>aD (.inr ⟨l,_,g,v j,?_⟩)) λ_=>aD (same g));show cH x (md af bP (bq x.2.2.2.2.2.2.1 i (gD (ot x.2.1 (aF x i).1 l).1)) (i:Int) λ(e:cr)=>y9 e (af.k wJ (x.2.1,(aF x i).2.1,t)).1)=_;exact congrArg (cH x) (jO.trans (mod_mod f))
theorem tc{l:List α}{N:Int}(h:(l.length:Int)<=N):af.bU (af.l l) N=true:=by
 rw[aB,dV];simp_all
theorem ael(h:ze x i K)(B:x.2.2.2.2.2.2.1.length<=x.2.2.1.2.2.2.1.length)(e:(aF x i).2.1.2.2.length<=8):QI (x,(i:Int))=true/\V5 x i (sT (x,(i:Int))).1:=by
 have f:=h.i;have C:=h.k;have A:=h.c;refine iC (s:=Empty.elim) (t:=afL af x (i:Int)) (P:=λr=>V5 x i r.1) ?_ λr p=>p.len;obtain⟨q,u,_⟩:=Bn (l:=x.2.2.2.2.2.2.2.1) (a:=(af.k JR (x.2.1,(af.n bP x.2.2.2.2.2.2.1 (i:Int):cr).2.1)).1) (w:=(af.k zj (x.2.1,(af.n bP x.2.2.2.2.2.2.1 (i:Int):cr).2.1)).1) (th:=(af.n yI x.2.2.1.2.2.2.1 (i:Int):Int)) (by omega);obtain⟨y,z,_⟩:=Bn (l:=x.2.2.2.2.2.2.2.2.1) (a:=(af.k JR (x.2.1,(af.n bP x.2.2.2.2.2.2.1 (i:Int):cr).2.1)).1) (w:=(af.k zj (x.2.1,(af.n bP x.2.2.2.2.2.2.1 (i:Int):cr).2.1)).1) (th:=(af.n yI x.2.2.1.2.2.2.1 (i:Int):Int)) (by omega);have g:=(ub (v:=(kv x (),6,(i:Int),(af.n bP x.2.2.2.2.2.2.1 (i:Int):cr).1.2.2.1)) h.f).1;have b:(qe af x (i:Int)).1=x.2.2.2.2.2.2.2.1:=u;have c:(qO af x (i:Int)).1=x.2.2.2.2.2.2.2.2.1:=z;have j:HY af x (i:Int)=bq x.2.2.2.2.2.2.1 i (gD (ot x.2.1 (aF x i).1 (af.r 2 (Ty.gw qi:Seen))).1):=by rfl
 have m:HZ af x (i:Int)=bq x.2.2.2.2.2.2.1 i (gD (ot x.2.1 (aF x i).1 (af.p ([(qe af x (i:Int)).2]:List Seen) ([(qO af x (i:Int)).2]:List Seen))).1):=by rfl
 have n:MJ af x (i:Int)=(ot x.2.1 (aF x i).1 (af.r 2 (Ty.gw qi:Seen))).2:=by rfl
 have o:(HV af x (i:Int)).2=(ot x.2.1 (aF x i).1 (af.p ([(qe af x (i:Int)).2]:List Seen) ([(qO af x (i:Int)).2]:List Seen))).2:=by rfl
 refine ah (da (l:=x.2.2.2.2.2.2.1) (by omega)) (dM (λ_=>aD (.inl rfl)) λ_=>dM (λ_=>aD (.inl rfl)) λ_=>ah (da (l:=x.2.2.1.2.2.2.1) (by omega)) (ah q (ah ?_ (ah y (ah ?_ (ah g (fJ (λ_=>ah (by decide) (Y7 f b c j n e)) λ_=>Y7 f b c m o e)))))))
 ·rfl
 ·exact tc (by show(2:Int)<=_;omega)
end
end Go.Ev.M
