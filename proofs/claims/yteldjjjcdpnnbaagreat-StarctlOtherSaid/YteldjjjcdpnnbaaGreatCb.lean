/-
  PROVED: what functions of the packages modes, medl, cstate, busctl and of their documents compute. Conditions: none.
-/
import Derived.Test.YteldjjjcdpnnbaaGreatCa
import Derived.Test.YteldjjjcdpnnbaaGreatMb
namespace Go.Ev.M
open Go.Proofs
set_option maxRecDepth 100000
set_option linter.unusedVariables false
set_option linter.unusedSimpArgs false
open Go.Ev.Pl
abbrev dB(m:ao):Int:=(m.2.2.2.2.2.2.2.length:Int)
theorem qR{c:cq}{k:Int}(h:g_ (c,k)=0):(4≤k∧k≤8)∧(0≤c.1∧c.1≤255)∧(0≤c.2.1∧c.2.1≤k-1)∧(0≤c.2.2.1∧c.2.2.1≤3)∧(0≤c.2.2.2.1∧c.2.2.2.1≤4)∧(0≤c.2.2.2.2∧c.2.2.2.2≤2^k.toNat-1):=by
 obtain⟨t,p,m,n,s⟩:=c
 rw[g_] at h
 cases h1:decide (k<4)||decide (8<k)
 ·rw[h1,cond_false] at h
  rw[Bool.or_eq_false_iff,decide_eq_false_iff_not,decide_eq_false_iff_not] at h1
  cases h2:((decide (0≤t)&&decide (t≤255))&&((decide (0≤p)&&decide (p≤k-1))&&((decide (0≤m)&&decide (m≤3))&&((decide (0≤n)&&decide (n≤4))&&(decide (0≤s)&&decide (s≤2^k.toNat-1))))))
  ·rw[h2,cond_false] at h;exact absurd h (by decide)
  ·simp only[Bool.and_eq_true,decide_eq_true_eq] at h2
   exact⟨by omega,h2.1,h2.2.1,h2.2.2.1,h2.2.2.2.1,h2.2.2.2.2⟩
 ·rw[h1,cond_true] at h;exact absurd h (by decide)
def eZ(m:ao)(c:cq):Bool:=decide (g_ (c,m.1)=0)&&(decide (c.2.2.1<dB m)&&decide (c.2.2.2.1≤dB m))
def dY(m:ao)(c:cq):Int:=bif dV m then(bif eZ m c then 0 else 40) else 70
theorem kQ{m:ao}{c:cq}(h:dY m c=0):dV m=true∧g_ (c,m.1)=0∧(0≤c.2.2.1∧c.2.2.1<dB m)∧c.2.2.2.1≤dB m:=by
 unfold dY at h
 cases hm:dV m
 ·rw[hm,cond_false] at h;exact absurd h (by decide)
 ·cases hf:eZ m c
  ·rw[hm,hf,cond_true,cond_false] at h;exact absurd h (by decide)
  ·simp only[eZ,Bool.and_eq_true,decide_eq_true_eq] at hf
   exact⟨rfl,hf.1,⟨(qR hf.1).2.2.2.1.1,hf.2.1⟩,hf.2.2⟩
theorem KG{m:ao}{c:cq}(h:dV m=true)(h2:eZ m c=true):dY m c=0:=by rw[dY,h,h2];rfl
theorem eG{m:ao}(h:dV m=true):(4≤m.1∧m.1≤8)∧(1≤dB m∧dB m≤4)∧(m.2.2.2.2.2.2.1.length:Int)=m.1∧m.2.2.2.2.2.2.2.all (iI m)=true:=by
 obtain⟨n,s,g,w,d,de,cold,modes⟩:=m
 have:=T_ h
 exact⟨this.1,this.2.1,this.2.2.1,this.2.2.2.1⟩
theorem jL{m:ao}(h:dV m=true){i:Int}(h0:0≤i)(h1:i<dB m):iI m (aj.n aV m.2.2.2.2.2.2.2 i:Mode)=true:=by
 obtain⟨k,rfl⟩:∃k:Nat,i=k:=⟨i.toNat,by omega⟩
 have hk:k<m.2.2.2.2.2.2.2.length:=by unfold dB at h1;omega
 rw[show(aj.n aV m.2.2.2.2.2.2.2 (k:Int):Mode)=m.2.2.2.2.2.2.2[k] from getD_in hk _]
 exact List.all_eq_true.1 (eG h).2.2.2 _ (List.getElem_mem hk)
theorem gk{m:ao}{x:Mode}(h:iI m x=true):(x.1.length:Int)=m.1∧(x.2.1.length:Int)=m.1∧(x.2.2.length:Int)=dB m:=by
 simp only[iI,Bool.and_eq_true,beq_iff_eq] at h
 exact⟨h.1.1.1,h.1.1.2,by rw[h.1.2]⟩
theorem iy{α:Type}{l:List α}{i:Int}(h0:0≤i)(h1:i<(l.length:Int)):aj.and (aj.c .leq 0 i) (aj.c .lss i (aj.l l))=true:=by
 rw[fN,ay,ar,aQ];simp;omega
theorem gY{x:Int}(h:x=0):aj.c .neq x 0=false:=by rw[h];rfl
theorem fw{x:Int}(h:¬x=0):aj.c .neq x 0=true:=by rw[aH];simpa using h
theorem adD{x:Int}(h:¬x=0):aj.c .eql x 0=false:=by rw[aC];simpa using h
theorem F9{x:Int}(h:x=0):aj.c .eql x 0=true:=by rw[h];rfl
def U3(A:a_)(m:ao)(c:cq):LT Bool Empty:=.need (A.k (@tt ((Int×Int×Int×Int×Int)×Int)) (c,m.1)) (.br (A.c .eql (A.k pZ (c,m.1)) 0) (.br (A.c .lss c.2.2.1 (A.l m.2.2.2.2.2.2.2)) (.ret (A.c .leq c.2.2.2.1 (A.l m.2.2.2.2.2.2.2))) (.ret false)) (.ret false))
theorem Sc{m:ao}{c:cq}:aA Empty.elim (U3 aj m c) (eZ m c):=by
 unfold U3
 refine af.2 ⟨rfl,?_⟩
 rw[show aj.k pZ (c,m.1)=g_ (c,m.1) from rfl]
 by_cases h:g_ (c,m.1)=0
 ·rw[eZ,decide_eq_true h]
  refine(ai (F9 h)).2 (ap (p:=c.2.2.1<dB m) rfl (fun h2=>?_) fun h2=>?_)
  ·exact au (by rw[decide_eq_true h2];rfl) (.ret _)
  ·exact au (by rw[decide_eq_false h2];rfl) (.ret _)
 ·rw[eZ,decide_eq_false h]
  exact(ah (adD h)).2 (.ret _)
def xK:(ao×cq)→Bool:=fun(m,c)=>eZ m c
def afX:aB:=⟨[aY,kG], [.bool],(@tt (ao×cq)),xK⟩
theorem NJ:Sd 153 afX:=aF ax bK true 37 [] (fun A (m,c)=>U3 A m c) (fc Tryz.func153 fz) (sc F8 sz) fun(m,c) hp h=>Sc
def Zu(A:a_)(m:ao)(c:cq):LT Bool Empty:=.need (A.k (@tt ((Int×Int×Int×Int×Int)×Int)) (c,m.1)) (.br (A.c .eql (A.k jZ (c,m.1)) 0) (.br (A.c .lss c.2.2.1 (A.l m.2.2.2.2.2.2.2)) (.ret (A.c .leq c.2.2.2.1 (A.l m.2.2.2.2.2.2.2))) (.ret false)) (.ret false))
theorem Uw{m:ao}{c:cq}:aA Empty.elim (Zu aj m c) (eZ m c):=Sc
def Hr:(ao×cq)→Bool:=fun(m,c)=>eZ m c
def afa:aB:=⟨[aY,kG], [.bool],(@tt (ao×cq)),Hr⟩
theorem Sp:Sd 68 afa:=aF ax bK true 37 [] (fun A (m,c)=>Zu A m c) (fc Tryz.func68 fz) (sc yZ sz) fun(m,c) hp h=>Uw
def V8(A:a_)(m:ao)(n:Int):LT Bool Empty:=.br (A.c .geq n 0) (.ret (A.c .lss n (A.l m.2.2.2.2.2.2.2))) (.ret false)
def isF(m:ao)(n:Int):Bool:=decide (0≤n∧n<dB m)
theorem is1{m:ao}{n:Int}:aA Empty.elim (V8 aj m n) (isF m n):=by
 unfold V8 isF
 refine ap (p:=0≤n) rfl (fun h=>?_) fun h=>?_
 ·exact au (by rw[Bool.eq_iff_iff,fN,ar];simp;omega) (.ret _)
 ·exact au (decide_eq_false (by omega)).symm (.ret _)
def xU:(ao×Int)→Bool:=fun(m,c)=>isF m c
def aaq:aB:=⟨[aY,yI], [.bool],(@tt (ao×Int)),xU⟩
theorem ME:Sd 218 aaq:=aF ax bK true 24 [] (fun A (m,n)=>V8 A m n) (fc Tryz.func218 fz) sz fun(m,n) hp h=>is1
def UF(A:a_)(m:ao)(c:cq):LT Int Empty:=.need (A.k (@tt ao) m) (.br (A.c .neq (A.k kw m) 0) (.ret (A.k kw m)) (.need (A.k (@tt ((Int×Int×Int×Int×Int)×Int)) (c,m.1)) (.br (A.c .neq (A.k jZ (c,m.1)) 0) (.ret 40) (.need (A.k (@tt (ao×Int)) (m,c.2.2.1)) (.br (A.not (A.k xU (m,c.2.2.1))) (.ret 40) (.br (A.c .gtr c.2.2.2.1 (A.l m.2.2.2.2.2.2.2)) (.ret 40) (.ret 0)))))))
theorem aaW{m:ao}{c:cq}:aA Empty.elim (UF aj m c) (dY m c):=by
 unfold UF dY
 refine af.2 ⟨rfl,?_⟩
 rw[show aj.k kw m=fT m from rfl,fT]
 cases hm:dV m
 ·exact(ai rfl).2 (.ret _)
 refine(ah rfl).2 (af.2 ⟨rfl,?_⟩)
 rw[show aj.k jZ (c,m.1)=g_ (c,m.1) from rfl]
 by_cases h:g_ (c,m.1)=0
 ·have h0:=(qR h).2.2.2.1.1
  rw[eZ,decide_eq_true h]
  refine(ah (gY h)).2 (af.2 ⟨rfl,?_⟩)
  rw[show aj.k xU (m,c.2.2.1)=decide (0≤c.2.2.1∧c.2.2.1<dB m) from rfl]
  by_cases h2:c.2.2.1<dB m
  ·rw[decide_eq_true (show 0≤c.2.2.1∧c.2.2.1<dB m from⟨h0,h2⟩),decide_eq_true h2]
   refine(ah rfl).2 (ap (p:=dB m<c.2.2.2.1) rfl (fun h3=>?_) fun h3=>?_)
   ·exact au (by rw[decide_eq_false (by omega)];rfl) (.ret _)
   ·exact au (by rw[decide_eq_true (by omega)];rfl) (.ret _)
  ·rw[decide_eq_false (show ¬(0≤c.2.2.1∧c.2.2.1<dB m) from fun h=>h2 h.2),decide_eq_false h2]
   exact(ai rfl).2 (.ret _)
 ·rw[eZ,decide_eq_false h]
  exact(ai (fw h)).2 (.ret _)
def sr:(ao×cq)→Int:=fun(m,c)=>dY m c
def Z7:aB:=⟨[aY,kG], [yI],(@tt (ao×cq)),sr⟩
theorem LQ:Sd 211 Z7:=aF ax bK true 56 [] (fun A (m,c)=>UF A m c) (fc Tryz.func211 fz) (sc yZ (sc D9 (sc ME sz))) fun(m,c) hp h=>aaW
def TP(A:a_)(m:ao)(c:cq):LT Int Empty:=.need (A.k (@tt ao) m) (.br (A.c .neq (A.k lm m) 0) (.ret (A.k lm m)) (.need (A.k (@tt (ao×cq)) (m,c)) (.br (A.not (A.k xK (m,c))) (.ret 40) (.ret 0))))
theorem Um{m:ao}{c:cq}:aA Empty.elim (TP aj m c) (dY m c):=by
 unfold TP dY
 refine af.2 ⟨rfl,?_⟩
 rw[show aj.k lm m=fT m from rfl,fT]
 cases hm:dV m
 ·exact(ai rfl).2 (.ret _)
 refine(ah rfl).2 (af.2 ⟨rfl,?_⟩)
 rw[show aj.k xK (m,c)=eZ m c from rfl]
 cases eZ m c
 ·exact(ai rfl).2 (.ret _)
 ·exact(ah rfl).2 (.ret _)
def zd:(ao×cq)→Int:=fun(m,c)=>dY m c
def ae7:aB:=⟨[aY,kG], [yI],(@tt (ao×cq)),zd⟩
theorem Rl:Sd 221 ae7:=aF ax bK true 40 [] (fun A (m,c)=>TP A m c) (fc Tryz.func221 fz) (sc E4 (sc NJ sz)) fun(m,c) hp h=>Um
def Tz(A:a_)(m:ao)(c:cq)(mode:Int):LT Bool Empty:=.need (A.k (@tt (ao×Int)) (m,mode)) (.br (A.k xU (m,mode)) (.br (A.c .neq mode c.2.2.1) (.br (A.c .eql c.2.2.2.1 0) (.need (A.and (A.c .leq 0 c.2.2.1) (A.c .lss c.2.2.1 (A.l m.2.2.2.2.2.2.2))) (.need (A.and (A.c .leq 0 mode) (A.c .lss mode (A.l (A.n aV m.2.2.2.2.2.2.2 c.2.2.1:Mode).2.2))) (.ret (A.n .bool (A.n aV m.2.2.2.2.2.2.2 c.2.2.1:Mode).2.2 mode:Bool)))) (.ret false)) (.ret false)) (.ret false))
def kh(m:ao)(c:cq)(k:Int):Bool:=decide (0≤k∧k<dB m)&&(decide (¬k=c.2.2.1)&&(decide (c.2.2.2.1=0)&&(aj.n .bool (aj.n aV m.2.2.2.2.2.2.2 c.2.2.1:Mode).2.2 k:Bool)))
theorem aS{a b:Int}:aj.c .neq a b=decide (¬a=b):=by rw[aH,Bool.eq_iff_iff];simp
theorem E3{R Y:Type}{step:Y→LT R Y}{m:ao}{c:cq}{k:Int}{e:LT R Y}{r:R}{f:Bool→R}(h:dY m c=0)(hk:0≤k∧k<dB m)(hr:f (kh m c k)=r)(hf:f false=r→aA step e r) :
  aA step (.br (aj.c .neq k c.2.2.1) (.br (aj.c .eql c.2.2.2.1 0) (.need (aj.and (aj.c .leq 0 c.2.2.1) (aj.c .lss c.2.2.1 (aj.l m.2.2.2.2.2.2.2))) (.need (aj.and (aj.c .leq 0 k) (aj.c .lss k (aj.l (aj.n aV m.2.2.2.2.2.2.2 c.2.2.1:Mode).2.2))) (.ret (f (aj.n .bool (aj.n aV m.2.2.2.2.2.2.2 c.2.2.1:Mode).2.2 k:Bool))))) e) e) r:=by
 obtain⟨hm,_,hc,_⟩:=kQ h
 rw[kh,decide_eq_true hk,Bool.true_and] at hr
 refine ap (p:=¬k=c.2.2.1) aS (fun h1=>ap (p:=c.2.2.2.1=0) aI (fun h2=>af.2 ⟨iy hc.1 hc.2,af.2 ⟨iy hk.1 ?_,?_⟩⟩) fun h2=>hf ?_) fun h1=>hf ?_
 ·exact(gk (jL hm hc.1 hc.2)).2.2▸hk.2
 ·exact au (by rw[←hr,decide_eq_true h1,decide_eq_true h2];rfl) (.ret _)
 ·rw[←hr,decide_eq_false h2];cases decide (¬k=c.2.2.1)<;>rfl
 ·rw[←hr,decide_eq_false h1];rfl
theorem afO{m:ao}{c:cq}{k:Int}(h:dY m c=0):aA Empty.elim (Tz aj m c k) (kh m c k):=by
 unfold Tz
 refine af.2 ⟨rfl,?_⟩
 rw[show aj.k xU (m,k)=decide (0≤k∧k<dB m) from rfl]
 by_cases hk:0≤k∧k<dB m
 ·exact(ai (decide_eq_true hk)).2 (E3 (f:=id) h hk rfl fun e=>au e (.ret _))
 ·exact(ah (decide_eq_false hk)).2 (au (by rw[kh,decide_eq_false hk];rfl) (.ret _))
def N6:(ao×cq×Int)→Bool:=fun(m,c,k)=>kh m c k
def MQ:(ao×cq×Int)→Bool:=fun(m,c,_)=>decide (dY m c=0)
def afC:aB:=⟨[aY,kG,yI], [.bool],MQ,N6⟩
theorem abJ:Sd 253 afC:=aF ax bK true 42 [] (fun A (m,c,mode)=>Tz A m c mode) (fc Tryz.func253 fz) (sc ME sz) fun((m,c,mode):ao×cq×Int) hp h=>afO (of_decide_eq_true hp)
def US(A:a_)(m:ao)(c:cq)(mode:Int):LT Bool Empty:=.need (A.k (@tt ao) m) (.br (A.c .eql (A.k lm m) 0) (.need (A.k (@tt (ao×cq)) (m,c)) (.br (A.k xK (m,c)) (.br (A.c .geq mode 0) (.br (A.c .lss mode (A.l m.2.2.2.2.2.2.2)) (.br (A.c .neq mode c.2.2.1) (.br (A.c .eql c.2.2.2.1 0) (.need (A.and (A.c .leq 0 c.2.2.1) (A.c .lss c.2.2.1 (A.l m.2.2.2.2.2.2.2))) (.need (A.and (A.c .leq 0 mode) (A.c .lss mode (A.l (A.n aV m.2.2.2.2.2.2.2 c.2.2.1:Mode).2.2))) (.ret (A.n .bool (A.n aV m.2.2.2.2.2.2.2 c.2.2.1:Mode).2.2 mode:Bool)))) (.ret false)) (.ret false)) (.ret false)) (.ret false)) (.ret false))) (.ret false))
theorem UY{m:ao}{c:cq}{k:Int}:aA Empty.elim (US aj m c k) (decide (dY m c=0)&&kh m c k):=by
 unfold US
 refine af.2 ⟨rfl,?_⟩
 rw[show aj.k lm m=fT m from rfl,fT]
 cases hm:dV m
 ·exact(ah rfl).2 (au (by rw[dY,hm];rfl) (.ret _))
 refine(ai rfl).2 (af.2 ⟨rfl,?_⟩)
 rw[show aj.k xK (m,c)=eZ m c from rfl]
 cases hf:eZ m c
 ·exact(ah rfl).2 (au (by rw[dY,hm,hf];rfl) (.ret _))
 have h:=KG hm hf
 rw[decide_eq_true h,Bool.true_and]
 refine(ai rfl).2 (ap (p:=0≤k) rfl (fun h1=>ap (p:=k<dB m) rfl (fun h2=>E3 (f:=id) h ⟨h1,h2⟩ rfl fun e=>au e (.ret _)) fun h2=>?_) fun h1=>?_)
 ·exact au (by rw[kh,decide_eq_false (by omega)];rfl) (.ret _)
 ·exact au (by rw[kh,decide_eq_false (by omega)];rfl) (.ret _)
def En:(ao×cq×Int)→Bool:=fun(m,c,k)=>decide (dY m c=0)&&kh m c k
def ae6:aB:=⟨[aY,kG,yI], [.bool],(@tt (ao×cq×Int)),En⟩
theorem R7:Sd 222 ae6:=aF ax bK true 58 [] (fun A (m,c,mode)=>US A m c mode) (fc Tryz.func222 fz) (sc E4 (sc NJ sz)) fun(m,c,mode) hp h=>UY
structure Lh where
 (a0:Int) (a2:ao) (a3:cq) (a4:Int) (a5:ao) (a6:cq) (a7:ao) (a8:cq) (a9:Int) (bV:ao) (dT:Int) (a12:cq)
inductive P8 where
 | c0 (p:Lh) (a1:Int)
noncomputable def SG:P8→fL
 | .c0 p a1=>⟨[⟨252,26,(en [(0,.yield 0),(1,.ptr 1 0),(2,.ptr 2 0),(11,vi p.a0),(12,vi a1)]),[.inLoop (cw Tryz.f252 [1,1,0,0]),.inBlock 0],[],none⟩,⟨212,16,(en [(6,.ptr 3 0)]),[.jr 0,.inBlock 0,.code (cw Tryz.f212 [1,1])],[4],none⟩],[.loop ⟨212,16,(en [(0,.agg [vi p.a2.1,vi p.a2.2.1,vi p.a2.2.2.1,vi p.a2.2.2.2.1,vi p.a2.2.2.2.2.1,vi p.a2.2.2.2.2.2.1,.sl .bool p.a2.2.2.2.2.2.2.1,.sl aV p.a2.2.2.2.2.2.2.2]),(1,.agg [vi p.a3.1,vi p.a3.2.1,vi p.a3.2.2.1,vi p.a3.2.2.2.1,vi p.a3.2.2.2.2]),(2,vi p.a4),(3,.ptr 5 0),(4,.ptr 7 0),(5,.ptr 6 0),(6,.ptr 3 0),(8,.agg [vi p.a5.1,vi p.a5.2.1,vi p.a5.2.2.1,vi p.a5.2.2.2.1,vi p.a5.2.2.2.2.1,vi p.a5.2.2.2.2.2.1,.sl .bool p.a5.2.2.2.2.2.2.1,.sl aV p.a5.2.2.2.2.2.2.2]),(9,.agg [vi p.a6.1,vi p.a6.2.1,vi p.a6.2.2.1,vi p.a6.2.2.2.1,vi p.a6.2.2.2.2]),(10,.fn 252 [] [.ptr 1 0,.ptr 2 0])]),[11],(cw Tryz.f212 [1,0,1,0,0]),(cw Tryz.f212 [1,0,1,0,1]),0,none⟩,.flat false [vi p.a7.1,vi p.a7.2.1,vi p.a7.2.2.1,vi p.a7.2.2.2.1,vi p.a7.2.2.2.2.1,vi p.a7.2.2.2.2.2.1,.sl .bool p.a7.2.2.2.2.2.2.1,.sl aV p.a7.2.2.2.2.2.2.2],.flat false [vi p.a8.1,vi p.a8.2.1,vi p.a8.2.2.1,vi p.a8.2.2.2.1,vi p.a8.2.2.2.2],.flat false [vi p.a9],.Dr,.flat false [vi p.bV.1,vi p.bV.2.1,vi p.bV.2.2.1,vi p.bV.2.2.2.1,vi p.bV.2.2.2.2.1,vi p.bV.2.2.2.2.2.1,.sl .bool p.bV.2.2.2.2.2.2.1,.sl aV p.bV.2.2.2.2.2.2.2],.flat false [vi p.dT],.flat false [vi p.a12.1,vi p.a12.2.1,vi p.a12.2.2.1,vi p.a12.2.2.2.1,vi p.a12.2.2.2.2],.dead]⟩
def Vx(A:a_)(m:ao)(c:cq)(mode:Int):LT Int P8:=.need (A.k (@tt (ao×cq)) (m,c)) (.br (A.c .neq (A.k sr (m,c)) 0) (.ret (-1)) (.more (.c0 ⟨(A.l m.2.2.2.2.2.2.2),m,c,mode,m,c,m,c,0,m,mode,c⟩ 0)))
def Me(A:a_):P8→LT Int P8
 | .c0 p a1=>.br (A.c .lss a1 p.a0) (.need (A.k MQ (p.a7,p.a8,a1)) (.br (A.k N6 (p.a7,p.a8,a1)) (.br (A.c .eql a1 p.dT) (.ret a1) (.more (.c0 p (A.b .add .i64 a1 1)))) (.more (.c0 p (A.b .add .i64 a1 1))))) (.ret (-1))
def FK(m:ao)(c:cq)(k:Int):Int:=bif decide (dY m c=0)&&kh m c k then k else -1
theorem LL{p:Lh}{m:ao}{c:cq}{k:Int}(h0:p.a0=dB m)(h7:p.a7=m)(h8:p.a8=c)(h11:p.dT=k)(h:dY m c=0):∀(j i:Nat),m.2.2.2.2.2.2.2.length-i=j→i≤m.2.2.2.2.2.2.2.length→aA (Me aj) (.more (.c0 p (i:Int))) (bif decide ((i:Int)≤k)&&kh m c k then k else -1):=by
 have hl:=(eG (kQ h).1).2.1
 unfold dB at hl h0
 intro j
 induction j with
 | zero=>
   intro i hj hi
   rw[ak,Me,h0]
   refine(ah (by rw[ar];exact decide_eq_false (by omega))).2 (au ?_ (.ret _))
   by_cases hk:(i:Int)≤k
   ·rw[kh,decide_eq_false (show ¬(0≤k∧k<dB m) by unfold dB;omega),Bool.false_and,Bool.and_false];rfl
   ·rw[decide_eq_false hk];rfl
 | succ j ih=>
   intro i hj hi
   rw[ak,Me,h0,h7,h8,h11]
   refine(ai (by rw[ar];exact decide_eq_true (by omega))).2 (af.2 ⟨by rw[al];exact decide_eq_true h,?_⟩)
   rw[show aj.k N6 (m,c,(i:Int))=kh m c i from rfl,cf (i:=i) (by omega)]
   have hn:=ih (i+1) (by omega) (by omega)
   cases hm:kh m c i
   ·refine(ah rfl).2 (au ?_ hn)
    by_cases hk:(i:Int)=k
    ·rw[←hk,hm,Bool.and_false,Bool.and_false]
    ·rw[show decide (((i+1:Nat):Int)≤k)=decide ((i:Int)≤k) by rw[Bool.eq_iff_iff];simp;omega]
   ·refine(ai rfl).2 (ap (p:=(i:Int)=k) aI (fun hk=>?_) fun hk=>?_)
    ·exact au (by rw[←hk,hm,decide_eq_true (Int.le_refl _)];rfl) (.ret _)
    ·exact au (by rw[show decide (((i+1:Nat):Int)≤k)=decide ((i:Int)≤k) by rw[Bool.eq_iff_iff];simp;omega]) hn
theorem aiH{m:ao}{c:cq}{k:Int}:aA (Me aj) (Vx aj m c k) (FK m c k):=by
 unfold Vx FK
 refine af.2 ⟨rfl,?_⟩
 rw[show aj.k sr (m,c)=dY m c from rfl]
 by_cases h:dY m c=0
 ·rw[decide_eq_true h]
  refine(ah (gY h)).2 (au ?_ (LL (p:=⟨dB m,m,c,k,m,c,m,c,0,m,k,c⟩) (k:=k) rfl rfl rfl rfl h m.2.2.2.2.2.2.2.length 0 rfl (by omega)))
  by_cases hk:0≤k
  ·rw[show decide (((0:Nat):Int)≤k)=true from decide_eq_true hk]
  ·rw[kh,decide_eq_false (show ¬(0≤k∧k<dB m) by omega),Bool.false_and,Bool.and_false,Bool.and_false]
 ·rw[decide_eq_false h]
  exact(ai (fw h)).2 (.ret _)
def BA:(ao×cq×Int)→Int:=fun(m,c,k)=>FK m c k
def adv:aB:=⟨[aY,kG,yI], [yI],(@tt (ao×cq×Int)),BA⟩
theorem RQ:Sd 212 adv:=aL ax bK true 53 [⟨252,2, [[0,1,2,11,12], [6]]⟩] [] (fun A (m,c,mode)=>Vx A m c mode) Me SG (fc Tryz.func212 (fc Tryz.func238 (fc Tryz.func252 fz))) (sc LQ (sc abJ sz)) (fun A y=>match y with |.c0 p a1=>⟨55,by kernel_rfl,by kernel_rfl⟩) fun(m,c,mode) hp h=>aiH
def Xs(A:a_)(m:ao)(c:cq)(want:Int):LT (Int×Int) Empty:=.need (A.k (@tt (ao×cq)) (m,c)) (.br (A.c .neq (A.k sr (m,c)) 0) (.ret (0,(A.k sr (m,c)))) (.br (A.c .neq want (-1)) (.need (A.k (@tt (ao×Int)) (m,want)) (.br (A.not (A.k xU (m,want))) (.ret (0,100)) (.br (A.c .lss want 0) (.ret (0,0)) (.need (A.k (@tt (ao×cq×Int)) (m,c,want)) (.ret ((A.b .add .i64 (A.k BA (m,c,want)) 1),0)))))) (.br (A.c .lss want 0) (.ret (0,0)) (.need (A.k (@tt (ao×cq×Int)) (m,c,want)) (.ret ((A.b .add .i64 (A.k BA (m,c,want)) 1),0))))))
def jl(m:ao)(c:cq)(w:Int):Int×Int:=bif decide (dY m c=0) then(bif decide (-1≤w∧w<dB m) then(bif kh m c w then(w+1,0) else(0,0)) else(0,100)) else(0,dY m c)
theorem T9{m:ao}{c:cq}{w:Int}(h:¬(0≤w∧w<dB m)):kh m c w=false:=by rw[kh,decide_eq_false h];rfl
theorem abY{m:ao}{c:cq}{w:Int}:aA Empty.elim (Xs aj m c w) (jl m c w):=by
 unfold Xs jl
 refine af.2 ⟨rfl,?_⟩
 rw[show aj.k sr (m,c)=dY m c from rfl,show aj.k xU (m,w)=decide (0≤w∧w<dB m) from rfl,show aj.k BA (m,c,w)=FK m c w from rfl]
 by_cases h:dY m c=0
 ·have hl:=(eG (kQ h).1).2.1
  rw[decide_eq_true h]
  refine(ah (gY h)).2 (ap (p:=¬w = -1) aS (fun h1=>af.2 ⟨rfl,?_⟩) fun h1=>?_)
  ·by_cases h2:0≤w∧w<dB m
   ·rw[decide_eq_true h2,decide_eq_true (show -1≤w∧w<dB m by omega)]
    refine(ah rfl).2 ((ah (by rw[ar];exact decide_eq_false (by omega))).2 (af.2 ⟨rfl,au ?_ (.ret _)⟩))
    rw[FK,decide_eq_true h]
    cases kh m c w
    ·rfl
    ·rw[Bool.true_and,cond_true,cond_true,cond_true,cond_true,bf,fV (by omega) (by omega)]
   ·rw[decide_eq_false h2,decide_eq_false (show ¬(-1≤w∧w<dB m) by omega)]
    exact(ai rfl).2 (.ret _)
  ·have h2:w = -1:=by omega
   subst h2
   rw[T9 (by omega),decide_eq_true (show(-1:Int)≤ -1∧ -1<dB m by omega)]
   exact(ai rfl).2 (.ret _)
 ·rw[decide_eq_false h]
  exact(ai (fw h)).2 (.ret _)
def rE:(ao×cq×Int)→(Int×Int):=fun(m,c,k)=>jl m c k
def ZX:aB:=⟨[aY,kG,yI], [yI,yI],(@tt (ao×cq×Int)),rE⟩
theorem R2:Sd 179 ZX:=aF ax bK true 60 [] (fun A (m,c,want)=>Xs A m c want) (fc Tryz.func179 fz) (sc LQ (sc RQ (sc ME sz))) fun(m,c,want) hp h=>abY
def TU(A:a_)(m:ao)(c:cq)(want:Int):LT (Int×Int) Empty:=.need (A.k (@tt (ao×cq)) (m,c)) (.br (A.c .neq (A.k zd (m,c)) 0) (.ret (0,(A.k zd (m,c)))) (.br (A.c .lss want (-1)) (.ret (0,100)) (.br (A.c .geq want (A.l m.2.2.2.2.2.2.2)) (.ret (0,100)) (.need (A.k (@tt (ao×cq×Int)) (m,c,want)) (.br (A.k En (m,c,want)) (.ret ((A.b .add .i64 want 1),0)) (.ret (0,0)))))))
theorem TR{m:ao}{c:cq}{w:Int}:aA Empty.elim (TU aj m c w) (jl m c w):=by
 unfold TU jl
 refine af.2 ⟨rfl,?_⟩
 rw[show aj.k zd (m,c)=dY m c from rfl,show aj.k En (m,c,w)=(decide (dY m c=0)&&kh m c w) from rfl]
 by_cases h:dY m c=0
 ·have hl:=(eG (kQ h).1).2.1
  rw[decide_eq_true h,Bool.true_and]
  refine(ah (gY h)).2 (ap (p:=w < -1) rfl (fun h1=>?_) fun h1=>ap (p:=dB m≤w) rfl (fun h2=>?_) fun h2=>af.2 ⟨rfl,?_⟩)
  ·exact au (by rw[decide_eq_false (by omega)];rfl) (.ret _)
  ·exact au (by rw[decide_eq_false (by omega)];rfl) (.ret _)
  ·rw[decide_eq_true (show -1≤w∧w<dB m by omega)]
   cases kh m c w
   ·exact(ah rfl).2 (.ret _)
   ·exact(ai rfl).2 (au (by rw[cond_true,cond_true,cond_true,bf,fV (by omega) (by omega)]) (.ret _))
 ·rw[decide_eq_false h]
  exact(ai (fw h)).2 (.ret _)
def DC:(ao×cq×Int)→(Int×Int):=fun(m,c,k)=>jl m c k
def YX:aB:=⟨[aY,kG,yI], [yI,yI],(@tt (ao×cq×Int)),DC⟩
theorem aaf:Sd 183 YX:=aF ax bK true 59 [] (fun A (m,c,want)=>TU A m c want) (fc Tryz.func183 fz) (sc Rl (sc R7 sz)) fun(m,c,want) hp h=>TR
def W4(A:a_)(m:ao)(c:cq)(req:Int):LT (cq×Int) Empty:=.need (A.k (@tt (ao×cq)) (m,c)) (.br (A.c .neq (A.k sr (m,c)) 0) (.ret ((0,0,0,0,0),(A.k sr (m,c)))) (.br (A.c .lss req 0) (.ret ((0,0,0,0,0),100)) (.br (A.c .gtr req (A.l m.2.2.2.2.2.2.2)) (.ret ((0,0,0,0,0),100)) (.br (A.c .gtr req 0) (.need (A.k (@tt (ao×cq×Int)) (m,c,(A.b .sub .i64 req 1))) (.br (A.c .geq (A.k BA (m,c,(A.b .sub .i64 req 1))) 0) (.ret ((c.1,c.2.1,c.2.2.1,req,c.2.2.2.2),0)) (.ret (c,0)))) (.ret (c,0))))))
def lF(m:ao)(c:cq)(r:Int):cq×Int:=bif decide (dY m c=0) then(bif decide (0≤r∧r≤dB m) then(bif decide (0<r)&&kh m c (r-1) then((c.1,c.2.1,c.2.2.1,r,c.2.2.2.2),0) else(c,0)) else((0,0,0,0,0),100)) else((0,0,0,0,0),dY m c)
theorem agI{m:ao}{c:cq}{r:Int}:aA Empty.elim (W4 aj m c r) (lF m c r):=by
 unfold W4 lF
 refine af.2 ⟨rfl,?_⟩
 rw[show aj.k sr (m,c)=dY m c from rfl,show aj.k BA (m,c,(aj.b .sub .i64 r 1))=FK m c (aj.b .sub .i64 r 1) from rfl]
 by_cases h:dY m c=0
 ·have hl:=(eG (kQ h).1).2.1
  rw[decide_eq_true h]
  refine(ah (gY h)).2 (ap (p:=r<0) rfl (fun h1=>?_) fun h1=>ap (p:=dB m<r) rfl (fun h2=>?_) fun h2=>?_)
  ·exact au (by rw[decide_eq_false (by omega)];rfl) (.ret _)
  ·exact au (by rw[decide_eq_false (by omega)];rfl) (.ret _)
  ·rw[decide_eq_true (show 0≤r∧r≤dB m by omega),aX,fV (by omega) (by omega)]
   refine ap (p:=0<r) rfl (fun h3=>af.2 ⟨rfl,?_⟩) fun h3=>?_
   ·rw[decide_eq_true h3,FK,decide_eq_true h,Bool.true_and]
    cases hm:kh m c (r-1)
    ·exact(ah rfl).2 (.ret _)
    ·exact(ai (by rw[cond_true,aM];exact decide_eq_true (by omega))).2 (.ret _)
   ·exact au (by rw[decide_eq_false h3];rfl) (.ret _)
 ·rw[decide_eq_false h]
  exact(ai (fw h)).2 (.ret _)
def gD:(ao×cq×Int)→(cq×Int):=fun(m,c,k)=>lF m c k
def afi:aB:=⟨[aY,kG,yI], [kG,yI],(@tt (ao×cq×Int)),gD⟩
theorem Bt:Sd 167 afi:=aF ax bK true 69 [] (fun A (m,c,req)=>W4 A m c req) (fc Tryz.func167 fz) (sc LQ (sc RQ sz)) fun(m,c,req) hp h=>agI
def TY(A:a_)(m:ao)(c:cq)(req:Int):LT (cq×Int) Empty:=.need (A.k (@tt (ao×cq)) (m,c)) (.br (A.c .neq (A.k zd (m,c)) 0) (.ret ((0,0,0,0,0),(A.k zd (m,c)))) (.br (A.c .lss req 0) (.ret ((0,0,0,0,0),100)) (.br (A.c .gtr req (A.l m.2.2.2.2.2.2.2)) (.ret ((0,0,0,0,0),100)) (.br (A.c .gtr req 0) (.need (A.k (@tt (ao×cq×Int)) (m,c,(A.b .sub .i64 req 1))) (.br (A.k En (m,c,(A.b .sub .i64 req 1))) (.ret ((c.1,c.2.1,c.2.2.1,req,c.2.2.2.2),0)) (.ret (c,0)))) (.ret (c,0))))))
theorem Yo{m:ao}{c:cq}{r:Int}:aA Empty.elim (TY aj m c r) (lF m c r):=by
 unfold TY lF
 refine af.2 ⟨rfl,?_⟩
 rw[show aj.k zd (m,c)=dY m c from rfl,show aj.k En (m,c,(aj.b .sub .i64 r 1))=(decide (dY m c=0)&&kh m c (aj.b .sub .i64 r 1)) from rfl]
 by_cases h:dY m c=0
 ·have hl:=(eG (kQ h).1).2.1
  rw[decide_eq_true h,Bool.true_and]
  refine(ah (gY h)).2 (ap (p:=r<0) rfl (fun h1=>?_) fun h1=>ap (p:=dB m<r) rfl (fun h2=>?_) fun h2=>?_)
  ·exact au (by rw[decide_eq_false (by omega)];rfl) (.ret _)
  ·exact au (by rw[decide_eq_false (by omega)];rfl) (.ret _)
  ·rw[decide_eq_true (show 0≤r∧r≤dB m by omega),aX,fV (by omega) (by omega)]
   refine ap (p:=0<r) rfl (fun h3=>af.2 ⟨rfl,?_⟩) fun h3=>?_
   ·rw[decide_eq_true h3,Bool.true_and]
    cases hm:kh m c (r-1)
    ·exact(ah rfl).2 (.ret _)
    ·exact(ai rfl).2 (.ret _)
   ·exact au (by rw[decide_eq_false h3];rfl) (.ret _)
 ·rw[decide_eq_false h]
  exact(ai (fw h)).2 (.ret _)
def MN:(ao×cq×Int)→(cq×Int):=fun(m,c,k)=>lF m c k
def Yw:aB:=⟨[aY,kG,yI], [kG,yI],(@tt (ao×cq×Int)),MN⟩
theorem X6:Sd 185 Yw:=aF ax bK true 68 [] (fun A (m,c,req)=>TY A m c req) (fc Tryz.func185 fz) (sc Rl (sc R7 sz)) fun(m,c,req) hp h=>Yo
open Go.Ev.Pl
def Uh(A:a_)(m:ao)(node:Int):LT Int Empty:=.need (A.k (@tt ao) m) (.br (A.c .neq (A.k kw m) 0) (.ret (A.k kw m)) (.need (A.k (@tt (Int×Int×Int)) (node,0,(A.b .sub .i64 m.1 1))) (.br (A.not (A.k eu (node,0,(A.b .sub .i64 m.1 1)))) (.ret 2) (.ret 0))))
theorem gV{α:Type}{l:List α}{i n:Int}(e:(l.length:Int)=n)(h0:0≤i)(h1:i<n):aj.and (aj.c .leq 0 i) (aj.c .lss i (aj.l l))=true:=iy h0 (e▸h1)
def fQ(m:ao)(n:Int):Int:=bif dV m then(bif decide (0≤n∧n≤m.1-1) then 0 else 2) else 70
theorem u9{m:ao}{n:Int}(h:fQ m n=0):dV m=true∧0≤n∧n≤m.1-1:=by
 unfold fQ at h
 cases hm:dV m
 ·rw[hm,cond_false] at h;exact absurd h (by decide)
 ·by_cases hn:0≤n∧n≤m.1-1
  ·exact⟨rfl,hn⟩
  ·rw[hm,decide_eq_false hn,cond_true,cond_false] at h;exact absurd h (by decide)
theorem Vh{m:ao}{n:Int}:aA Empty.elim (Uh aj m n) (fQ m n):=by
 unfold Uh fQ
 refine af.2 ⟨rfl,?_⟩
 rw[show aj.k kw m=fT m from rfl,fT]
 cases hm:dV m
 ·exact(ai rfl).2 (.ret _)
 have hl:=(eG hm).1
 rw[aX,fV (by omega) (by omega)]
 refine(ah rfl).2 (af.2 ⟨rfl,eX (fun h=>?_) fun h=>?_⟩)
 ·exact au (by rw[decide_eq_false h];rfl) (.ret _)
 ·exact au (by rw[decide_eq_true h];rfl) (.ret _)
def BS:(ao×Int)→Int:=fun(m,n)=>fQ m n
def acX:aB:=⟨[aY,yI], [yI],(@tt (ao×Int)),BS⟩
theorem Ro:Sd 186 acX:=aF ax bK true 41 [] (fun A (m,node)=>Uh A m node) (fc Tryz.func186 fz) (sc D9 (sc DY sz)) fun(m,node) hp h=>Vh
def WT(A:a_)(m:ao)(n:Int):LT Int Empty:=.need (A.k (@tt ao) m) (.br (A.c .neq (A.k lm m) 0) (.ret (A.k lm m)) (.br (A.c .lss n 0) (.ret 2) (.br (A.c .geq n m.1) (.ret 2) (.ret 0))))
theorem W6{m:ao}{n:Int}:aA Empty.elim (WT aj m n) (fQ m n):=by
 unfold WT fQ
 refine af.2 ⟨rfl,?_⟩
 rw[show aj.k lm m=fT m from rfl,fT]
 cases hm:dV m
 ·exact(ai rfl).2 (.ret _)
 refine(ah rfl).2 (ap (p:=n<0) rfl (fun h=>?_) fun h1=>ap (p:=m.1≤n) rfl (fun h=>?_) fun h2=>?_)
 ·exact au (by rw[decide_eq_false (by omega)];rfl) (.ret _)
 ·exact au (by rw[decide_eq_false (by omega)];rfl) (.ret _)
 ·exact au (by rw[decide_eq_true (by omega)];rfl) (.ret _)
def vk:(ao×Int)→Int:=fun(m,n)=>fQ m n
def afG:aB:=⟨[aY,yI], [yI],(@tt (ao×Int)),vk⟩
theorem K3:Sd 155 afG:=aF ax bK true 43 [] (fun A (m,n)=>WT A m n) (fc Tryz.func155 fz) (sc E4 sz) fun(m,n) hp h=>W6
def W8(A:a_)(m:ao)(node:Int):LT (Int×Int) Empty:=.need (A.k (@tt (ao×Int)) (m,node)) (.br (A.c .neq (A.k BS (m,node)) 0) (.ret (0,(A.k BS (m,node)))) (.ret ((A.b .mul .i64 2 (A.b .add .i64 node 1)),0)))
def Ah(m:ao)(n:Int):Int×Int:=bif decide (fQ m n=0) then((aj.b .mul .i64 2 (aj.b .add .i64 n 1)),0) else(0,fQ m n)
theorem RG{m:ao}{n:Int}:aA Empty.elim (W8 aj m n) (Ah m n):=by
 unfold W8 Ah
 refine af.2 ⟨rfl,ap (p:=¬fQ m n=0) aS (fun h=>?_) fun h=>?_⟩
 ·exact au (by rw[decide_eq_false h];rfl) (.ret _)
 ·exact au (by rw[decide_eq_true (by omega)];rfl) (.ret _)
def yA:(ao×Int)→(Int×Int):=fun(m,n)=>Ah m n
def YH:aB:=⟨[aY,yI], [yI,yI],(@tt (ao×Int)),yA⟩
theorem N2:Sd 125 YH:=aF ax bK true 35 [] (fun A (m,node)=>W8 A m node) (fc Tryz.func125 fz) (sc Ro sz) fun(m,node) hp h=>RG
def abK(A:a_)(m:ao)(n:Int):LT (Int×Int) Empty:=.need (A.k (@tt (ao×Int)) (m,n)) (.br (A.c .neq (A.k vk (m,n)) 0) (.ret (0,(A.k vk (m,n)))) (.ret ((A.b .mul .i64 2 (A.b .add .i64 n 1)),0)))
theorem acE{m:ao}{n:Int}:aA Empty.elim (abK aj m n) (Ah m n):=RG
def Gh:(ao×Int)→(Int×Int):=fun(m,n)=>Ah m n
def abk:aB:=⟨[aY,yI], [yI,yI],(@tt (ao×Int)),Gh⟩
theorem acN:Sd 115 abk:=aF ax bK true 35 [] (fun A (m,n)=>abK A m n) (fc Tryz.func115 fz) (sc K3 sz) fun(m,n) hp h=>acE
def U5(A:a_)(m:ao)(n:Int):LT (Int×Int) Empty:=.need (A.k (@tt (ao×Int)) (m,n)) (.br (A.c .neq (A.k vk (m,n)) 0) (.ret (0,(A.k vk (m,n)))) (.ret ((A.b .add .i64 (A.b .mul .i64 4 m.1) (A.b .mul .i64 2 (A.b .add .i64 n 1))),0)))
def lG(m:ao)(n:Int):Int×Int:=bif decide (fQ m n=0) then((aj.b .add .i64 (aj.b .mul .i64 4 m.1) (aj.b .mul .i64 2 (aj.b .add .i64 n 1))),0) else(0,fQ m n)
theorem aa_{m:ao}{n:Int}:aA Empty.elim (U5 aj m n) (lG m n):=by
 unfold U5 lG
 refine af.2 ⟨rfl,ap (p:=¬fQ m n=0) aS (fun h=>?_) fun h=>?_⟩
 ·exact au (by rw[decide_eq_false h];rfl) (.ret _)
 ·exact au (by rw[decide_eq_true (by omega)];rfl) (.ret _)
def vv:(ao×Int)→(Int×Int):=fun(m,n)=>lG m n
def XW:aB:=⟨[aY,yI], [yI,yI],(@tt (ao×Int)),vv⟩
theorem Gv:Sd 78 XW:=aF ax bK true 39 [] (fun A (m,n)=>U5 A m n) (fc Tryz.func78 fz) (sc K3 sz) fun(m,n) hp h=>aa_
def Ws(A:a_)(m:ao)(node:Int):LT (Int×Int) Empty:=.need (A.k (@tt (ao×Int)) (m,node)) (.br (A.c .neq (A.k yA (m,node)).2 0) (.ret (0,(A.k yA (m,node)).2)) (.ret ((A.b .add .i64 (A.b .mul .i64 4 m.1) (A.k yA (m,node)).1),0)))
theorem adJ{m:ao}{n:Int}:aA Empty.elim (Ws aj m n) (lG m n):=by
 unfold Ws lG
 refine af.2 ⟨rfl,?_⟩
 rw[show aj.k yA (m,n)=Ah m n from rfl,Ah]
 by_cases h:fQ m n=0
 ·rw[decide_eq_true h];exact(ah rfl).2 (.ret _)
 ·rw[decide_eq_false h];exact(ai (fw h)).2 (.ret _)
def qh:(ao×Int)→(Int×Int):=fun(m,n)=>lG m n
def afN:aB:=⟨[aY,yI], [yI,yI],(@tt (ao×Int)),qh⟩
theorem Du:Sd 93 afN:=aF ax bK true 41 [] (fun A (m,node)=>Ws A m node) (fc Tryz.func93 fz) (sc N2 sz) fun(m,node) hp h=>adJ
def V0(A:a_)(m:ao)(mode:Int)(node:Int):LT (Int×Int) Empty:=.need (A.k (@tt (ao×Int)) (m,node)) (.br (A.c .neq (A.k BS (m,node)) 0) (.ret (0,(A.k BS (m,node)))) (.need (A.k (@tt (Int×Int×Int)) (mode,0,(A.b .sub .i64 (A.l m.2.2.2.2.2.2.2) 1))) (.br (A.not (A.k eu (mode,0,(A.b .sub .i64 (A.l m.2.2.2.2.2.2.2) 1)))) (.ret (0,2)) (.need (A.and (A.c .leq 0 mode) (A.c .lss mode (A.l m.2.2.2.2.2.2.2))) (.need (A.and (A.c .leq 0 node) (A.c .lss node (A.l (A.n aV m.2.2.2.2.2.2.2 mode:Mode).2.1))) (.need (A.and (A.c .leq 0 node) (A.c .lss node (A.l (A.n aV m.2.2.2.2.2.2.2 mode:Mode).1))) (.need (A.k (@tt (Bool×Int)) ((A.n .bool (A.n aV m.2.2.2.2.2.2.2 mode:Mode).2.1 node:Bool),(A.n yI (A.n aV m.2.2.2.2.2.2.2 mode:Mode).1 node:Int))) (.ret ((A.k jj ((A.n .bool (A.n aV m.2.2.2.2.2.2.2 mode:Mode).2.1 node:Bool),(A.n yI (A.n aV m.2.2.2.2.2.2.2 mode:Mode).1 node:Int))),0)))))))))
def bQ(m:ao)(k n:Int):Int×Int:=bif decide (fQ m n=0) then(bif decide (0≤k∧k≤dB m-1) then(jj ((aj.n .bool (aj.n aV m.2.2.2.2.2.2.2 k:Mode).2.1 n:Bool),(aj.n (.int .i64) (aj.n aV m.2.2.2.2.2.2.2 k:Mode).1 n:Int)),0) else(0,2)) else(0,fQ m n)
theorem V5{m:ao}{k n:Int}:aA Empty.elim (V0 aj m k n) (bQ m k n):=by
 unfold V0 bQ
 refine af.2 ⟨rfl,?_⟩
 rw[show aj.k BS (m,n)=fQ m n from rfl]
 by_cases h:fQ m n=0
 ·obtain⟨hm,h1,h2⟩:=u9 h
  have hl:=(eG hm).2.1
  rw[decide_eq_true h]
  have e:aj.b .sub .i64 (dB m) 1=dB m-1:=by rw[aX,fV (by omega) (by omega)]
  rw[show aj.b .sub .i64 (aj.l m.2.2.2.2.2.2.2) 1=dB m-1 from e]
  refine(ah (gY h)).2 (af.2 ⟨rfl,eX (fun h3=>?_) fun h3=>?_⟩)
  ·exact au (by rw[decide_eq_false h3];rfl) (.ret _)
  ·have hx:=gk (jL hm h3.1 (show k<dB m by omega))
   refine af.2 ⟨iy h3.1 (show k<dB m by omega),af.2 ⟨gV hx.2.1 h1 (by omega),af.2 ⟨gV hx.1 h1 (by omega),af.2 ⟨rfl,?_⟩⟩⟩⟩
   exact au (by rw[decide_eq_true h3];rfl) (.ret _)
 ·rw[decide_eq_false h];exact(ai (fw h)).2 (.ret _)
def dJ:(ao×Int×Int)→(Int×Int):=fun(m,c,k)=>bQ m c k
def afb:aB:=⟨[aY,yI,yI], [yI,yI],(@tt (ao×Int×Int)),dJ⟩
theorem EK:Sd 162 afb:=aF ax bK true 66 [] (fun A (m,mode,node)=>V0 A m mode node) (fc Tryz.func162 fz) (sc DY (sc Sy (sc Ro sz))) fun(m,mode,node) hp h=>V5
def Tg(A:a_)(m:ao)(mode:Int)(n:Int):LT (Int×Int) Empty:=.need (A.k (@tt (ao×Int)) (m,n)) (.br (A.c .neq (A.k vk (m,n)) 0) (.ret (0,(A.k vk (m,n)))) (.br (A.c .lss mode 0) (.ret (0,2)) (.br (A.c .geq mode (A.l m.2.2.2.2.2.2.2)) (.ret (0,2)) (.need (A.and (A.c .leq 0 mode) (A.c .lss mode (A.l m.2.2.2.2.2.2.2))) (.need (A.and (A.c .leq 0 n) (A.c .lss n (A.l (A.n aV m.2.2.2.2.2.2.2 mode:Mode).2.1))) (.need (A.and (A.c .leq 0 n) (A.c .lss n (A.l (A.n aV m.2.2.2.2.2.2.2 mode:Mode).1))) (.need (A.k (@tt (Bool×Int)) ((A.n .bool (A.n aV m.2.2.2.2.2.2.2 mode:Mode).2.1 n:Bool),(A.n yI (A.n aV m.2.2.2.2.2.2.2 mode:Mode).1 n:Int))) (.ret ((A.k yu ((A.n .bool (A.n aV m.2.2.2.2.2.2.2 mode:Mode).2.1 n:Bool),(A.n yI (A.n aV m.2.2.2.2.2.2.2 mode:Mode).1 n:Int))),0)))))))))
theorem Wv{m:ao}{k n:Int}:aA Empty.elim (Tg aj m k n) (bQ m k n):=by
 unfold Tg bQ
 refine af.2 ⟨rfl,?_⟩
 rw[show aj.k vk (m,n)=fQ m n from rfl]
 by_cases h:fQ m n=0
 ·obtain⟨hm,h1,h2⟩:=u9 h
  have hl:=(eG hm).2.1
  rw[decide_eq_true h]
  refine(ah (gY h)).2 (ap (p:=k<0) rfl (fun h3=>?_) fun h3=>ap (p:=dB m≤k) rfl (fun h4=>?_) fun h4=>?_)
  ·exact au (by rw[decide_eq_false (by omega)];rfl) (.ret _)
  ·exact au (by rw[decide_eq_false (by omega)];rfl) (.ret _)
  ·have h5:0≤k∧k≤dB m-1:=by omega
   have hx:=gk (jL hm h5.1 (show k<dB m by omega))
   refine af.2 ⟨iy h5.1 (show k<dB m by omega),af.2 ⟨gV hx.2.1 h1 (by omega),af.2 ⟨gV hx.1 h1 (by omega),af.2 ⟨rfl,?_⟩⟩⟩⟩
   exact au (by rw[decide_eq_true h5];rfl) (.ret _)
 ·rw[decide_eq_false h];exact(ai (fw h)).2 (.ret _)
def kq:(ao×Int×Int)→(Int×Int):=fun(m,c,k)=>bQ m c k
def ZY:aB:=⟨[aY,yI,yI], [yI,yI],(@tt (ao×Int×Int)),kq⟩
theorem RZ:Sd 171 ZY:=aF ax bK true 68 [] (fun A (m,mode,n)=>Tg A m mode n) (fc Tryz.func171 fz) (sc RV (sc K3 sz)) fun(m,mode,n) hp h=>Wv
def SP(A:a_)(c:cq)(n:Int):LT (cq×Int) Empty:=.need (A.k (@tt ((Int×Int×Int×Int×Int)×Int)) (c,n)) (.br (A.c .neq (A.k jZ (c,n)) 0) (.ret ((0,0,0,0,0),(A.k jZ (c,n)))) (.br (A.c .eql (A.b .add .i64 c.2.1 1) n) (.br (A.c .neq c.2.2.2.1 0) (.ret (((A.b .and .i64 (A.b .add .i64 c.1 1) 255),0,(A.b .sub .i64 c.2.2.2.1 1),0,c.2.2.2.2),0)) (.ret (((A.b .and .i64 (A.b .add .i64 c.1 1) 255),0,c.2.2),0))) (.ret ((c.1,(A.b .add .i64 c.2.1 1),c.2.2),0))))
theorem Wq:∀k:Fin 256,aj.b .and .i64 ((k.val:Int)+1) 255=((k.val:Int)+1).tmod 256:=by decide +kernel
def iG(c:cq)(n:Int):cq×Int:=bif decide (g_ (c,n)=0) then(bif decide (c.2.1+1=n) then(bif decide (c.2.2.2.1=0) then(((c.1+1).tmod 256,0,c.2.2),0) else(((c.1+1).tmod 256,0,c.2.2.2.1-1,0,c.2.2.2.2),0)) else((c.1,c.2.1+1,c.2.2),0)) else((0,0,0,0,0),g_ (c,n))
theorem Up{c:cq}{n:Int}:aA Empty.elim (SP aj c n) (iG c n):=by
 unfold SP iG
 refine af.2 ⟨rfl,?_⟩
 rw[show aj.k jZ (c,n)=g_ (c,n) from rfl]
 by_cases h:g_ (c,n)=0
 ·obtain⟨h1,h2,h3,h4,h5,h6⟩:=qR h
  have e1:aj.b .add .i64 c.1 1=c.1+1:=by rw[bf,fV (by omega) (by omega)]
  have e2:aj.b .add .i64 c.2.1 1=c.2.1+1:=by rw[bf,fV (by omega) (by omega)]
  have e3:aj.b .sub .i64 c.2.2.2.1 1=c.2.2.2.1-1:=by rw[aX,fV (by omega) (by omega)]
  have e4:aj.b .and .i64 (c.1+1) 255=(c.1+1).tmod 256:=by
   have:=Wq ⟨c.1.toNat,by omega⟩
   rwa [show((c.1.toNat:Nat):Int)=c.1 from Int.toNat_of_nonneg h2.1] at this
  rw[decide_eq_true h,e1,e2,e3,e4]
  refine(ah (gY h)).2 (ap (p:=c.2.1+1=n) aI (fun h=>ap (p:=¬c.2.2.2.1=0) aS (fun g=>?_) fun g=>?_) fun h=>?_)
  ·exact au (by rw[decide_eq_true h,decide_eq_false g];rfl) (.ret _)
  ·exact au (by rw[decide_eq_true h,decide_eq_true (by omega)];rfl) (.ret _)
  ·exact au (by rw[decide_eq_false h];rfl) (.ret _)
 ·rw[decide_eq_false h];exact(ai (fw h)).2 (.ret _)
def qd:(cq×Int)→(cq×Int):=fun(m,c)=>iG m c
def afF:aB:=⟨[kG,yI], [kG,yI],(@tt (cq×Int)),qd⟩
theorem aad:Sd 118 afF:=aF ax bK true 80 [] (fun A (c,n)=>SP A c n) (fc Tryz.func118 fz) (sc yZ sz) fun(c,n) hp h=>Up
def VH(A:a_)(c:cq)(n:Int):LT (cq×Int) Empty:=.need (A.k (@tt ((Int×Int×Int×Int×Int)×Int)) (c,n)) (.br (A.c .neq (A.k pZ (c,n)) 0) (.ret ((0,0,0,0,0),(A.k pZ (c,n)))) (.br (A.c .lss (A.b .add .i64 c.2.1 1) n) (.ret ((c.1,(A.b .add .i64 c.2.1 1),c.2.2),0)) (.br (A.c .gtr c.2.2.2.1 0) (.ret (((A.b .rem .i64 (A.b .add .i64 c.1 1) 256),0,(A.b .sub .i64 c.2.2.2.1 1),0,c.2.2.2.2),0)) (.ret (((A.b .rem .i64 (A.b .add .i64 c.1 1) 256),0,c.2.2),0)))))
theorem T6{c:cq}{n:Int}:aA Empty.elim (VH aj c n) (iG c n):=by
 unfold VH iG
 refine af.2 ⟨rfl,?_⟩
 rw[show aj.k pZ (c,n)=g_ (c,n) from rfl]
 by_cases h:g_ (c,n)=0
 ·obtain⟨h1,h2,h3,h4,h5,h6⟩:=qR h
  have e1:aj.b .add .i64 c.1 1=c.1+1:=by rw[bf,fV (by omega) (by omega)]
  have e2:aj.b .add .i64 c.2.1 1=c.2.1+1:=by rw[bf,fV (by omega) (by omega)]
  have e3:aj.b .sub .i64 c.2.2.2.1 1=c.2.2.2.1-1:=by rw[aX,fV (by omega) (by omega)]
  rw[decide_eq_true h,e1,e2,e3,wZ]
  refine(ah (gY h)).2 (ap (p:=c.2.1+1<n) rfl (fun h=>?_) fun h=>ap (p:=0<c.2.2.2.1) rfl (fun g=>?_) fun g=>?_)
  ·exact au (by rw[decide_eq_false (by omega)];rfl) (.ret _)
  ·exact au (by rw[decide_eq_true (show c.2.1+1=n by omega),decide_eq_false (by omega)];rfl) (.ret _)
  ·exact au (by rw[decide_eq_true (show c.2.1+1=n by omega),decide_eq_true (show c.2.2.2.1=0 by omega)];rfl) (.ret _)
 ·rw[decide_eq_false h];exact(ai (fw h)).2 (.ret _)
def GB:(cq×Int)→(cq×Int):=fun(m,c)=>iG m c
def adt:aB:=⟨[kG,yI], [kG,yI],(@tt (cq×Int)),GB⟩
theorem afy:Sd 120 adt:=aF ax bK true 85 [] (fun A (c,n)=>VH A c n) (fc Tryz.func120 fz) (sc F8 sz) fun(c,n) hp h=>T6
def Wn(A:a_)(node:Int):LT Int Empty:=.br (A.c .lss node 0) (.ret 0) (.br (A.c .geq node 8) (.ret 0) (.need (A.c .leq 0 node) (.ret (A.b .shl .i64 1 node))))
def L0(n:Int):Int:=bif decide (0≤n∧n≤7) then aj.b .shl .i64 1 n else 0
theorem ag0{n:Int}:aA Empty.elim (Wn aj n) (L0 n):=by
 unfold Wn L0
 refine ap (p:=n<0) rfl (fun h=>?_) fun h1=>ap (p:=8≤n) rfl (fun h=>?_) fun h2=>af.2 ⟨decide_eq_true (by omega),?_⟩
 ·exact au (by rw[decide_eq_false (by omega)];rfl) (.ret _)
 ·exact au (by rw[decide_eq_false (by omega)];rfl) (.ret _)
 ·exact au (by rw[decide_eq_true (by omega)];rfl) (.ret _)
def NK:Int→Int:=L0
def aan:aB:=⟨[yI], [yI],(@tt Int),NK⟩
theorem af6:Sd 225 aan:=aF ax bK true 28 [] (fun A node=>Wn A node) (fc Tryz.func225 fz) sz fun node hp h=>ag0
def U9(A:a_)(c:cq)(node:Int):LT Bool Empty:=.need (A.k (@tt Int) node) (.ret (A.c .neq (A.b .and .i64 c.2.2.2.2 (A.k NK node)) 0))
theorem aiT{x:Int}:aj.b .and .i64 x 0=0:=by
 show IntKind.i64.wrap (((BitVec.ofInt 64 x &&& BitVec.ofInt 64 0).toNat:Nat):Int)=0
 rw[show BitVec.ofInt 64 0=0#64 from rfl,BitVec.and_zero];rfl
def EP(c:cq)(n:Int):Bool:=bif decide (0≤n∧n≤7) then aj.c .neq (aj.b .and .i64 c.2.2.2.2 (aj.b .shl .i64 1 n)) 0 else false
theorem afm{c:cq}{n:Int}:aA Empty.elim (U9 aj c n) (EP c n):=by
 unfold U9 EP
 refine af.2 ⟨rfl,au ?_ (.ret _)⟩
 rw[show aj.k NK n=L0 n from rfl,L0]
 cases decide (0≤n∧n≤7)
 ·rw[cond_false,cond_false,aiT];rfl
 ·rfl
def EN:(cq×Int)→Bool:=fun(m,c)=>EP m c
def aaJ:aB:=⟨[kG,yI], [.bool],(@tt (cq×Int)),EN⟩
theorem RP:Sd 194 aaJ:=aF ax bK true 21 [] (fun A (c,node)=>U9 A c node) (fc Tryz.func194 fz) (sc af6 sz) fun(c,node) hp h=>afm
def OV(A:a_)(m:ao)(id:Int):LT Int Empty:=.need (A.k (@tt (ao×Int)) (m,id)) (.ret (A.k qh (m,id)).1)
def Bh:(ao×Int)→Int:=fun(m,id)=>(OV aj m id).val (Ty.bE [yI])
def ade:aB:=⟨[aY,yI], [yI],(@tt (ao×Int)),Bh⟩
theorem KM:Sd 70 ade:=aJ ax bK true 27 [] (fun A (m,id)=>OV A m id) (fc Tryz.func70 fz) (sc Du sz) (fun((m,id):ao×Int) hp h=>by
 show(OV aj m id).pre=true
 simp[OV,LT.pre,al,bH])
def Qg(A:a_)(m:ao)(id:Int):LT Int Empty:=.need (A.k (@tt (ao×Int)) (m,id)) (.ret (A.k yA (m,id)).1)
def MK:(ao×Int)→Int:=fun(m,id)=>(Qg aj m id).val (Ty.bE [yI])
def aeg:aB:=⟨[aY,yI], [yI],(@tt (ao×Int)),MK⟩
theorem X7:Sd 111 aeg:=aJ ax bK true 27 [] (fun A (m,id)=>Qg A m id) (fc Tryz.func111 fz) (sc N2 sz) (fun((m,id):ao×Int) hp h=>by
 show(Qg aj m id).pre=true
 simp[Qg,LT.pre,al,bH])
open Go.Ev.Pl
def Ps(A:a_)(n:Int)(least:Int)(most:Int):LT Bool Empty:=.br (A.c .geq n least) (.ret (A.c .leq n most)) (.ret false)
def y1:(Int×Int×Int)→Bool:=fun(n,least,most)=>(Ps aj n least most).val (Ty.bE [.bool])
def afn:aB:=⟨[yI,yI,yI], [.bool],(@tt (Int×Int×Int)),y1⟩
theorem Sz:Sd 66 afn:=aJ ax bK true 22 [] (fun A (n,least,most)=>Ps A n least most) (fc Tryz.func66 fz) sz (fun((n,least,most):Int×Int×Int) hp h=>by
 show(Ps aj n least most).pre=true
 simp[Ps,LT.pre,al,bH])
def Wt(A:a_)(n:Node):LT Bool Empty:=.need (A.k (@tt (Int×Int×Int)) (n.2.1,2,4)) (.ret (A.k y1 (n.2.1,2,4)))
theorem Oc:y1=eu:=rfl
def ju(n:Node):Bool:=decide (2≤n.2.1∧n.2.1≤4)
theorem agY{n:Node}:aA Empty.elim (Wt aj n) (ju n):=by
 unfold Wt ju
 exact af.2 ⟨rfl,au (by rw[Oc,al,kM,Bool.eq_iff_iff];simp) (.ret _)⟩
def mC:Node→Bool:=ju
def ab0:aB:=⟨[aW], [.bool],(@tt Node),mC⟩
theorem LF:Sd 22 ab0:=aF ax bK true 18 [] (fun A n=>Wt A n) (fc Tryz.func22 fz) (sc Sz sz) fun n hp h=>agY
def UI(A:a_)(n:Node):LT Bool Empty:=.br (A.c .geq n.2.1 2) (.ret (A.c .leq n.2.1 4)) (.ret false)
theorem agu{n:Node}:aA Empty.elim (UI aj n) (ju n):=by
 unfold UI ju
 refine ap (p:=2≤n.2.1) rfl (fun h=>?_) fun h=>?_
 ·exact au (by rw[ay,Bool.eq_iff_iff];simp;omega) (.ret _)
 ·exact au (decide_eq_false (by omega)).symm (.ret _)
def lV:Node→Bool:=ju
def aba:aB:=⟨[aW], [.bool],(@tt Node),lV⟩
theorem By:Sd 23 aba:=aF ax bK true 23 [] (fun A n=>UI A n) (fc Tryz.func23 fz) sz fun n hp h=>agu
def Wu(A:a_)(m:ao)(n:Node):LT Bool Empty:=.need (A.k (@tt Node) n) (.br (A.not (A.k lV n)) (.br (A.and (A.c .eql n.2.2.1.1 0) (A.and (A.c .eql n.2.2.1.2.1 0) (A.and (A.c .eql n.2.2.1.2.2.1 0) (A.and (A.c .eql n.2.2.1.2.2.2.1 0) (A.and (A.c .eql n.2.2.1.2.2.2.2 0) true))))) (.ret (A.and (A.c .eql n.2.2.2.1.1 0) (A.and (A.c .eql n.2.2.2.1.2.1 0) (A.and (A.c .eql n.2.2.2.1.2.2.1 0) (A.and (A.c .eql n.2.2.2.1.2.2.2.1 0) (A.and (A.c .eql n.2.2.2.1.2.2.2.2.1 0) (A.and (A.c .eql n.2.2.2.1.2.2.2.2.2.1 0) (A.and (A.c .eql n.2.2.2.1.2.2.2.2.2.2 0) true)))))))) (.ret false)) (.need (A.k (@tt (ao×cq)) (m,n.2.2.1)) (.br (A.k xK (m,n.2.2.1)) (.need (A.k (@tt ((Int×Int×Int×Int×Int×Int×Int))) n.2.2.2.1) (.br (A.c .eql (A.k gZ n.2.2.2.1) 0) (.br (A.c .eql n.2.2.2.1.1 n.1) (.br (A.c .eql n.2.2.2.1.2.1 m.1) (.ret (A.c .eql n.2.2.1.2.2.2.2 n.2.2.2.1.2.2.1)) (.ret false)) (.ret false)) (.ret false))) (.ret false))))
def zg(c:cq):Bool:=aj.and (aj.c .eql c.1 0) (aj.and (aj.c .eql c.2.1 0) (aj.and (aj.c .eql c.2.2.1 0) (aj.and (aj.c .eql c.2.2.2.1 0) (aj.and (aj.c .eql c.2.2.2.2 0) true))))
def zeroV(v:eT):Bool:=aj.and (aj.c .eql v.1 0) (aj.and (aj.c .eql v.2.1 0) (aj.and (aj.c .eql v.2.2.1 0) (aj.and (aj.c .eql v.2.2.2.1 0) (aj.and (aj.c .eql v.2.2.2.2.1 0) (aj.and (aj.c .eql v.2.2.2.2.2.1 0) (aj.and (aj.c .eql v.2.2.2.2.2.2 0) true))))))
def o7(m:ao)(n:Node):Bool:=bif ju n then(eZ m n.2.2.1&&(decide (gZ n.2.2.2.1=0)&&(decide (n.2.2.2.1.1=n.1)&&(decide (n.2.2.2.1.2.1=m.1)&&decide (n.2.2.1.2.2.2.2=n.2.2.2.1.2.2.1))))) else(zg n.2.2.1&&zeroV n.2.2.2.1)
theorem ahD{m:ao}{n:Node}:aA Empty.elim (Wu aj m n) (o7 m n):=by
 unfold Wu o7
 refine af.2 ⟨rfl,?_⟩
 rw[show aj.k lV n=ju n from rfl]
 cases ju n
 ·refine(ai rfl).2 ?_
  rw[cond_false]
  cases hz:zg n.2.2.1
  ·exact(ah hz).2 (.ret _)
  ·exact(ai hz).2 (.ret _)
 ·refine(ah rfl).2 (af.2 ⟨rfl,?_⟩)
  rw[show aj.k xK (m,n.2.2.1)=eZ m n.2.2.1 from rfl,cond_true]
  cases eZ m n.2.2.1
  ·exact(ah rfl).2 (.ret _)
  ·refine(ai rfl).2 (af.2 ⟨rfl,ap (p:=gZ n.2.2.2.1=0) aI (fun h1=>ap (p:=n.2.2.2.1.1=n.1) aI (fun h2=>ap (p:=n.2.2.2.1.2.1=m.1) aI (fun h3=>?_) fun h=>?_) fun h=>?_) fun h=>?_⟩)
   ·exact au (by rw[decide_eq_true h1,decide_eq_true h2,decide_eq_true h3,aI];rfl) (.ret _)
   ·exact au (by rw[decide_eq_true h1,decide_eq_true h2,decide_eq_false h];rfl) (.ret _)
   ·exact au (by rw[decide_eq_true h1,decide_eq_false h];rfl) (.ret _)
   ·exact au (by rw[decide_eq_false h];rfl) (.ret _)
def Ld:(ao×Node)→Bool:=fun(m,n)=>o7 m n
def aft:aB:=⟨[aY,aW], [.bool],(@tt (ao×Node)),Ld⟩
theorem ad1:Sd 72 aft:=aF ax bK true 60 [] (fun A (m,n)=>Wu A m n) (fc Tryz.func72 fz) (sc Fc (sc By (sc NJ sz))) fun(m,n) hp h=>ahD
def TQ(A:a_)(m:ao)(n:Node):LT Bool Empty:=.br (A.c .neq n.2.1 1) (.ret (A.c .eql n.2.2.2.2.1 0)) (.need (A.k (@tt (ao×Int)) (m,n.1)) (.br (A.c .geq n.2.2.2.2.1 1) (.ret (A.c .leq n.2.2.2.2.1 (A.k vv (m,n.1)).1)) (.ret false)))
def nV(m:ao)(n:Node):Bool:=bif decide (n.2.1=1) then decide (1≤n.2.2.2.2.1∧n.2.2.2.2.1≤(lG m n.1).1) else decide (n.2.2.2.2.1=0)
theorem air{m:ao}{n:Node}:aA Empty.elim (TQ aj m n) (nV m n):=by
 unfold TQ nV
 refine ap (p:=¬n.2.1=1) aS (fun h=>?_) fun h=>af.2 ⟨rfl,?_⟩
 ·exact au (by rw[decide_eq_false h,aI];rfl) (.ret _)
 ·rw[decide_eq_true (show n.2.1=1 by omega),show aj.k vv (m,n.1)=lG m n.1 from rfl,cond_true]
  refine ap (p:=1≤n.2.2.2.2.1) rfl (fun h1=>?_) fun h1=>?_
  ·exact au (by rw[ay,Bool.eq_iff_iff];simp;omega) (.ret _)
  ·exact au (decide_eq_false (by omega)).symm (.ret _)
def Ob:(ao×Node)→Bool:=fun(m,n)=>nV m n
def XV:aB:=⟨[aY,aW], [.bool],(@tt (ao×Node)),Ob⟩
theorem aeZ:Sd 73 XV:=aF ax bK true 46 [] (fun A (m,n)=>TQ A m n) (fc Tryz.func73 fz) (sc Gv sz) fun(m,n) hp h=>air
def U4(A:a_)(m:ao)(n:Node):LT Int Empty:=.need (A.k (@tt ao) m) (.br (A.c .neq (A.k lm m) 0) (.ret (A.k lm m)) (.br (A.c .lss n.1 0) (.ret 180) (.br (A.c .geq n.1 m.1) (.ret 180) (.br (A.c .lss n.2.1 0) (.ret 180) (.br (A.c .gtr n.2.1 5) (.ret 180) (.br (A.c .lss n.2.2.2.2.2.2.1 0) (.ret 180) (.br (A.c .gtr n.2.2.2.2.2.2.1 2) (.ret 180) (.need (A.k (@tt bu) n.2.2.2.2.2.2.2) (.br (A.c .neq (A.k iF n.2.2.2.2.2.2.2) 0) (.ret 180) (.br (A.c .neq n.2.2.2.2.2.2.2.1 n.1) (.ret 180) (.br (A.c .neq (A.l n.2.2.2.2.2.2.2.2.2.1) m.1) (.ret 180) (.br (A.c .eql n.2.1 2) (.need (A.and (A.c .leq 0 n.1) (A.c .lss n.1 (A.l m.2.2.2.2.2.2.1))) (.br (A.not (A.n .bool m.2.2.2.2.2.2.1 n.1:Bool)) (.ret 180) (.need (A.k (@tt (ao×Node)) (m,n)) (.br (A.not (A.k Ld (m,n))) (.ret 180) (.need (A.k (@tt (ao×Node)) (m,n)) (.br (A.not (A.k Ob (m,n))) (.ret 180) (.br n.2.2.2.2.2.1 (.br (A.c .neq n.2.1 1) (.br (A.c .neq n.2.1 2) (.ret 180) (.ret 0)) (.ret 0)) (.ret 0)))))))) (.need (A.k (@tt (ao×Node)) (m,n)) (.br (A.not (A.k Ld (m,n))) (.ret 180) (.need (A.k (@tt (ao×Node)) (m,n)) (.br (A.not (A.k Ob (m,n))) (.ret 180) (.br n.2.2.2.2.2.1 (.br (A.c .neq n.2.1 1) (.br (A.c .neq n.2.1 2) (.ret 180) (.ret 0)) (.ret 0)) (.ret 0))))))))))))))))))
def vY(m:ao)(n:Node):Bool:=bif decide (n.2.1=2) then(aj.n .bool m.2.2.2.2.2.2.1 n.1:Bool) else true
def tF(n:Node):Bool:=bif n.2.2.2.2.2.1 then decide (n.2.1=1∨n.2.1=2) else true
def DZ(m:ao)(n:Node):Bool:=decide (0≤n.1∧n.1≤m.1-1)&&(decide (0≤n.2.1∧n.2.1≤5)&&(decide (0≤n.2.2.2.2.2.2.1∧n.2.2.2.2.2.2.1≤2)&&(dU n.2.2.2.2.2.2.2&&(decide (n.2.2.2.2.2.2.2.1=n.1)&&(decide ((n.2.2.2.2.2.2.2.2.2.1.length:Int)=m.1)&&(vY m n&&(o7 m n&&(nV m n&&tF n))))))))
def bU(m:ao)(n:Node):Int:=bif dV m then(bif DZ m n then 0 else 180) else 70
theorem fe{m:ao}{n:Node}:DZ m n=true↔(0≤n.1∧n.1≤m.1-1)∧(0≤n.2.1∧n.2.1≤5)∧(0≤n.2.2.2.2.2.2.1∧n.2.2.2.2.2.2.1≤2)∧dU n.2.2.2.2.2.2.2=true∧n.2.2.2.2.2.2.2.1=n.1∧(n.2.2.2.2.2.2.2.2.2.1.length:Int)=m.1∧vY m n=true∧o7 m n=true∧nV m n=true∧tF n=true:=by
 unfold DZ;simp only[Bool.and_eq_true,decide_eq_true_eq]
theorem dz{m:ao}{n:Node}(h:bU m n=0):dV m=true∧DZ m n=true:=by
 unfold bU at h
 cases hm:dV m
 ·rw[hm,cond_false] at h;exact absurd h (by decide)
 ·cases hn:DZ m n
  ·rw[hm,hn,cond_true,cond_false] at h;exact absurd h (by decide)
  ·exact⟨rfl,rfl⟩
section
variable {R Y:Type} {step:Y→LT R Y} {e:LT R Y} {x y:R} {G:Bool}
theorem fu{p:Prop}[Decidable p]{b:Bool}(hb:b=decide p)(h:G=true→¬p)(he:¬p→aA step e (bif G then x else y)):aA step (.br b (.ret y) e) (bif G then x else y):=by
 refine ap hb (fun hp=>?_) he
 cases G
 ·exact .ret _
 ·exact absurd hp (h rfl)
theorem iw{b:Bool}(h:G=true→b=true)(he:b=true→aA step e (bif G then x else y)):aA step (.br (aj.not b) (.ret y) e) (bif G then x else y):=by
 cases b
 ·cases G
  ·exact(ai rfl).2 (.ret _)
  ·exact absurd (h rfl) (by decide)
 ·exact(ah rfl).2 (he rfl)
theorem wT{u a b:Int}(h:G=true→a≤u∧u≤b)(he:a≤u∧u≤b→aA step e (bif G then x else y)):aA step (.br (aj.not (aj.k eu (u,a,b))) (.ret y) e) (bif G then x else y):=by
 refine eX (fun hp=>?_) he
 cases G
 ·exact .ret _
 ·exact absurd (h rfl) hp
theorem r_(h:G=true):aA step (.ret x) (bif G then x else y):=au (by rw[h];rfl) (.ret _)
end
theorem R3{Y:Type}{step:Y→LT Int Y}{n:Node}{G:Bool}(h1:G=true→tF n=true)(h2:tF n=true→G=true):aA step (.br n.2.2.2.2.2.1 (.br (aj.c .neq n.2.1 1) (.br (aj.c .neq n.2.1 2) (.ret 180) (.ret 0)) (.ret 0)) (.ret 0)) (bif G then 0 else 180):=by
 unfold tF at h1 h2
 cases hb:n.2.2.2.2.2.1
 ·rw[hb] at h1 h2
  exact(ah rfl).2 (r_ (h2 rfl))
 ·rw[hb] at h1 h2
  simp only[cond_true,decide_eq_true_eq] at h1 h2
  refine(ai rfl).2 (ap (p:=¬n.2.1=1) aS (fun h=>fu (p:=¬n.2.1=2) aS (fun g=>?_) fun g=>?_) fun h=>?_)
  ·have:=h1 g;omega
  ·exact r_ (h2 (by omega))
  ·exact r_ (h2 (by omega))
theorem Ml{R Y:Type}{step:Y→LT R Y}{m:ao}{n:Node}{G:Bool}{e:LT R Y}{x y:R}(hm:dV m=true)(hi:0≤n.1∧n.1≤m.1-1)(h1:G=true→vY m n=true)(h2:vY m n=true→aA step e (bif G then x else y)) :
  aA step (.br (aj.c .eql n.2.1 2) (.need (aj.and (aj.c .leq 0 n.1) (aj.c .lss n.1 (aj.l m.2.2.2.2.2.2.1))) (.br (aj.not (aj.n .bool m.2.2.2.2.2.2.1 n.1:Bool)) (.ret y) e)) e) (bif G then x else y):=by
 unfold vY at h1 h2
 refine ap (p:=n.2.1=2) aI (fun h=>af.2 ⟨gV (eG hm).2.2.1 hi.1 (by omega),?_⟩) fun h=>?_
 ·rw[decide_eq_true h] at h1 h2
  exact iw h1 h2
 ·rw[decide_eq_false h] at h2
  exact h2 rfl
theorem Xa{m:ao}{n:Node}:aA Empty.elim (U4 aj m n) (bU m n):=by
 unfold U4 bU
 refine af.2 ⟨rfl,?_⟩
 rw[show aj.k lm m=fT m from rfl,fT]
 cases hm:dV m
 ·exact(ai rfl).2 (.ret _)
 have hG:=@fe m n
 rw[cond_true]
 generalize DZ m n=G at hG ⊢
 refine(ah rfl).2 (fu (p:=n.1<0) rfl (fun g=>by have:=hG.1 g;omega) fun h1=>fu (p:=m.1≤n.1) rfl (fun g=>by have:=hG.1 g;omega) fun h2=>?_)
 refine fu (p:=n.2.1<0) rfl (fun g=>by have:=hG.1 g;omega) fun h3=>fu (p:=5<n.2.1) rfl (fun g=>by have:=hG.1 g;omega) fun h4=>?_
 refine fu (p:=n.2.2.2.2.2.2.1<0) rfl (fun g=>by have:=hG.1 g;omega) fun h5=>fu (p:=2<n.2.2.2.2.2.2.1) rfl (fun g=>by have:=hG.1 g;omega) fun h6=>af.2 ⟨rfl,?_⟩
 refine fu (p:=¬ig n.2.2.2.2.2.2.2=0) aS (fun g=>not_not_intro (kP.2 (hG.1 g).2.2.2.1)) fun h7=>?_
 refine fu (p:=¬n.2.2.2.2.2.2.2.1=n.1) aS (fun g=>by have:=hG.1 g;omega) fun h8=>?_
 refine fu (p:=¬(n.2.2.2.2.2.2.2.2.2.1.length:Int)=m.1) aS (fun g=>by have:=hG.1 g;omega) fun h9=>?_
 refine Ml hm (by omega) (fun g=>(hG.1 g).2.2.2.2.2.2.1) fun hc=>af.2 ⟨rfl,iw (b:=o7 m n) (fun g=>(hG.1 g).2.2.2.2.2.2.2.1) fun hd=>af.2 ⟨rfl,iw (b:=nV m n) (fun g=>(hG.1 g).2.2.2.2.2.2.2.2.1) fun he=>?_⟩⟩
 exact R3 (fun g=>(hG.1 g).2.2.2.2.2.2.2.2.2) fun hb=>hG.2 ⟨by omega,by omega,by omega,kP.1 (Decidable.not_not.1 h7),by omega,by omega,hc,hd,he,hb⟩
def gg:(ao×Node)→Int:=fun(m,n)=>bU m n
def abL:aB:=⟨[aY,aW], [yI],(@tt (ao×Node)),gg⟩
theorem vo:Sd 21 abL:=aF ax bK true 137 [] (fun A (m,n)=>U4 A m n) (fc Tryz.func21 fz) (sc E4 (sc zt (sc ad1 (sc aeZ sz)))) fun(m,n) hp h=>Xa
structure LK where
 (a0:ao) (a1:Node)
structure Tl where
 (b0:ao) (b1:Node)
structure VZ where
 (c0:Node)
inductive QJ where
 | c0 (p:LK)
 | c1 (p:Tl)
 | c2 (p:VZ)
noncomputable def UZ:QJ→fL
 | .c0 p=>⟨[⟨20,160,(en [(2,.ptr 0 0),(3,.ptr 1 0)]),[.code (cw Tryz.f20 [1,1,1,0,0,0,0,0,0,0,0,0,1,0,0]),.code (cw Tryz.f20 [1,1,1,0,0,0,0,0,0,0,0,0,1,0,1]),.code (cw Tryz.f20 [1,1,1,0,0,0,0,0,0,0,0,0,1,1]),.code (.exit 3),.inBlock 4,.inBlock 5,.inBlock 6,.inBlock 7,.inBlock 8,.code (cw Tryz.f20 [1,1,1,0,0,1]),.inBlock 3,.code (cw Tryz.f20 [1,1,1,1])],[],none⟩],[.flat false [vi p.a0.1,vi p.a0.2.1,vi p.a0.2.2.1,vi p.a0.2.2.2.1,vi p.a0.2.2.2.2.1,vi p.a0.2.2.2.2.2.1,.sl .bool p.a0.2.2.2.2.2.2.1,.sl aV p.a0.2.2.2.2.2.2.2],.flat false [vi p.a1.1,vi p.a1.2.1,vi p.a1.2.2.1.1,vi p.a1.2.2.1.2.1,vi p.a1.2.2.1.2.2.1,vi p.a1.2.2.1.2.2.2.1,vi p.a1.2.2.1.2.2.2.2,vi p.a1.2.2.2.1.1,vi p.a1.2.2.2.1.2.1,vi p.a1.2.2.2.1.2.2.1,vi p.a1.2.2.2.1.2.2.2.1,vi p.a1.2.2.2.1.2.2.2.2.1,vi p.a1.2.2.2.1.2.2.2.2.2.1,vi p.a1.2.2.2.1.2.2.2.2.2.2,vi p.a1.2.2.2.2.1,vb p.a1.2.2.2.2.2.1,vi p.a1.2.2.2.2.2.2.1,vi p.a1.2.2.2.2.2.2.2.1,.sl yU p.a1.2.2.2.2.2.2.2.2.1,.sl aR p.a1.2.2.2.2.2.2.2.2.2.1,vi p.a1.2.2.2.2.2.2.2.2.2.2.1,vi p.a1.2.2.2.2.2.2.2.2.2.2.2],.dead]⟩
 | .c1 p=>⟨[⟨20,160,(en [(2,.ptr 0 0),(3,.ptr 1 0)]),[.code (cw Tryz.f20 [1,1,1,0,0,0,0,0,0,0,0,0,1,1,1,0,0]),.code (cw Tryz.f20 [1,1,1,0,0,0,0,0,0,0,0,0,1,1,1,0,1]),.code (cw Tryz.f20 [1,1,1,0,0,0,0,0,0,0,0,0,1,1,1,1]),.code (.exit 3),.inBlock 4,.inBlock 5,.inBlock 6,.inBlock 7,.inBlock 8,.code (cw Tryz.f20 [1,1,1,0,0,1]),.inBlock 3,.code (cw Tryz.f20 [1,1,1,1])],[],none⟩],[.flat false [vi p.b0.1,vi p.b0.2.1,vi p.b0.2.2.1,vi p.b0.2.2.2.1,vi p.b0.2.2.2.2.1,vi p.b0.2.2.2.2.2.1,.sl .bool p.b0.2.2.2.2.2.2.1,.sl aV p.b0.2.2.2.2.2.2.2],.flat false [vi p.b1.1,vi p.b1.2.1,vi p.b1.2.2.1.1,vi p.b1.2.2.1.2.1,vi p.b1.2.2.1.2.2.1,vi p.b1.2.2.1.2.2.2.1,vi p.b1.2.2.1.2.2.2.2,vi p.b1.2.2.2.1.1,vi p.b1.2.2.2.1.2.1,vi p.b1.2.2.2.1.2.2.1,vi p.b1.2.2.2.1.2.2.2.1,vi p.b1.2.2.2.1.2.2.2.2.1,vi p.b1.2.2.2.1.2.2.2.2.2.1,vi p.b1.2.2.2.1.2.2.2.2.2.2,vi p.b1.2.2.2.2.1,vb p.b1.2.2.2.2.2.1,vi p.b1.2.2.2.2.2.2.1,vi p.b1.2.2.2.2.2.2.2.1,.sl yU p.b1.2.2.2.2.2.2.2.2.1,.sl aR p.b1.2.2.2.2.2.2.2.2.2.1,vi p.b1.2.2.2.2.2.2.2.2.2.2.1,vi p.b1.2.2.2.2.2.2.2.2.2.2.2],.dead]⟩
 | .c2 p=>⟨[⟨20,160,(en [(3,.ptr 0 0)]),[.code (cw Tryz.f20 [1,1,1,0,0,0,0,0,0,0,0,0,1,1,1,1,0]),.code (cw Tryz.f20 [1,1,1,0,0,0,0,0,0,0,0,0,1,1,1,1,1]),.code (.exit 3),.inBlock 4,.inBlock 5,.inBlock 6,.inBlock 7,.inBlock 8,.code (cw Tryz.f20 [1,1,1,0,0,1]),.inBlock 3,.code (cw Tryz.f20 [1,1,1,1])],[],none⟩],[.flat false [vi p.c0.1,vi p.c0.2.1,vi p.c0.2.2.1.1,vi p.c0.2.2.1.2.1,vi p.c0.2.2.1.2.2.1,vi p.c0.2.2.1.2.2.2.1,vi p.c0.2.2.1.2.2.2.2,vi p.c0.2.2.2.1.1,vi p.c0.2.2.2.1.2.1,vi p.c0.2.2.2.1.2.2.1,vi p.c0.2.2.2.1.2.2.2.1,vi p.c0.2.2.2.1.2.2.2.2.1,vi p.c0.2.2.2.1.2.2.2.2.2.1,vi p.c0.2.2.2.1.2.2.2.2.2.2,vi p.c0.2.2.2.2.1,vb p.c0.2.2.2.2.2.1,vi p.c0.2.2.2.2.2.2.1,vi p.c0.2.2.2.2.2.2.2.1,.sl yU p.c0.2.2.2.2.2.2.2.2.1,.sl aR p.c0.2.2.2.2.2.2.2.2.2.1,vi p.c0.2.2.2.2.2.2.2.2.2.2.1,vi p.c0.2.2.2.2.2.2.2.2.2.2.2],.dead]⟩
def UG(A:a_)(m:ao)(n:Node):LT Int QJ:=.need (A.k (@tt ao) m) (.br (A.c .neq (A.k kw m) 0) (.ret (A.k kw m)) (.need (A.k (@tt (Int×Int×Int)) (n.1,0,(A.b .sub .i64 m.1 1))) (.br (A.not (A.k y1 (n.1,0,(A.b .sub .i64 m.1 1)))) (.ret 180) (.need (A.k (@tt (Int×Int×Int)) (n.2.1,0,5)) (.br (A.not (A.k y1 (n.2.1,0,5))) (.ret 180) (.need (A.k (@tt (Int×Int×Int)) (n.2.2.2.2.2.2.1,0,2)) (.br (A.not (A.k y1 (n.2.2.2.2.2.2.1,0,2))) (.ret 180) (.need (A.k (@tt bu) n.2.2.2.2.2.2.2) (.br (A.c .neq (A.k jh n.2.2.2.2.2.2.2) 0) (.ret 180) (.br (A.c .neq n.2.2.2.2.2.2.2.1 n.1) (.ret 180) (.br (A.c .neq (A.l n.2.2.2.2.2.2.2.2.2.1) m.1) (.ret 180) (.need (A.k (@tt Node) n) (.br (A.k mC n) (.need (A.k (@tt (ao×cq)) (m,n.2.2.1)) (.br (A.not (A.k Hr (m,n.2.2.1))) (.ret 180) (.need (A.k (@tt ((Int×Int×Int×Int×Int×Int×Int))) n.2.2.2.1) (.br (A.c .neq (A.k iV n.2.2.2.1) 0) (.ret 180) (.br (A.c .neq n.2.2.2.1.1 n.1) (.ret 180) (.br (A.c .neq n.2.2.2.1.2.1 m.1) (.ret 180) (.br (A.c .neq n.2.2.1.2.2.2.2 n.2.2.2.1.2.2.1) (.ret 180) (.more (.c0 ⟨m,n⟩))))))))) (.more (.c0 ⟨m,n⟩)))))))))))))))
def B7(A:a_):QJ→LT Int QJ
 | .c0 p=>.need (A.k (@tt Node) p.a1) (.br (A.not (A.k mC p.a1)) (.br (A.not (A.and (A.c .eql p.a1.2.2.1.1 0) (A.and (A.c .eql p.a1.2.2.1.2.1 0) (A.and (A.c .eql p.a1.2.2.1.2.2.1 0) (A.and (A.c .eql p.a1.2.2.1.2.2.2.1 0) (A.and (A.c .eql p.a1.2.2.1.2.2.2.2 0) true)))))) (.ret 180) (.br (A.not (A.and (A.c .eql p.a1.2.2.2.1.1 0) (A.and (A.c .eql p.a1.2.2.2.1.2.1 0) (A.and (A.c .eql p.a1.2.2.2.1.2.2.1 0) (A.and (A.c .eql p.a1.2.2.2.1.2.2.2.1 0) (A.and (A.c .eql p.a1.2.2.2.1.2.2.2.2.1 0) (A.and (A.c .eql p.a1.2.2.2.1.2.2.2.2.2.1 0) (A.and (A.c .eql p.a1.2.2.2.1.2.2.2.2.2.2 0) true)))))))) (.ret 180) (.br (A.c .eql p.a1.2.1 2) (.need (A.and (A.c .leq 0 p.a1.1) (A.c .lss p.a1.1 (A.l p.a0.2.2.2.2.2.2.1))) (.br (A.not (A.n .bool p.a0.2.2.2.2.2.2.1 p.a1.1:Bool)) (.ret 180) (.more (.c1 ⟨p.a0,p.a1⟩)))) (.more (.c1 ⟨p.a0,p.a1⟩))))) (.br (A.c .eql p.a1.2.1 2) (.need (A.and (A.c .leq 0 p.a1.1) (A.c .lss p.a1.1 (A.l p.a0.2.2.2.2.2.2.1))) (.br (A.not (A.n .bool p.a0.2.2.2.2.2.2.1 p.a1.1:Bool)) (.ret 180) (.more (.c1 ⟨p.a0,p.a1⟩)))) (.more (.c1 ⟨p.a0,p.a1⟩))))
 | .c1 p=>.br (A.c .eql p.b1.2.1 1) (.need (A.k (@tt (ao×Int)) (p.b0,p.b1.1)) (.need (A.k (@tt (Int×Int×Int)) (p.b1.2.2.2.2.1,1,(A.k Bh (p.b0,p.b1.1)))) (.br (A.not (A.k y1 (p.b1.2.2.2.2.1,1,(A.k Bh (p.b0,p.b1.1))))) (.ret 180) (.br (A.c .neq p.b1.2.1 1) (.br (A.c .neq p.b1.2.2.2.2.1 0) (.ret 180) (.more (.c2 ⟨p.b1⟩))) (.more (.c2 ⟨p.b1⟩)))))) (.br (A.c .neq p.b1.2.1 1) (.br (A.c .neq p.b1.2.2.2.2.1 0) (.ret 180) (.more (.c2 ⟨p.b1⟩))) (.more (.c2 ⟨p.b1⟩)))
 | .c2 p=>.br p.c0.2.2.2.2.2.1 (.br (A.c .neq p.c0.2.1 1) (.br (A.c .neq p.c0.2.1 2) (.ret 180) (.ret 0)) (.ret 0)) (.ret 0)
theorem Hg{m:ao}{n:Node}{G:Bool}(h0:G=true→nV m n=true∧tF n=true)(h2:nV m n=true→tF n=true→G=true):aA (B7 aj) (.more (.c1 ⟨m,n⟩)) (bif G then 0 else 180):=by
 have hb:nV m n=true→aA (B7 aj) (.more (.c2 ⟨n⟩)) (bif G then 0 else 180):=fun ht=>by
  rw[ak,B7]
  exact R3 (fun g=>(h0 g).2) (h2 ht)
 rw[ak,B7]
 have ht:=fun g=>(h0 g).1
 unfold nV at ht hb
 rw[Oc]
 refine ap (p:=n.2.1=1) aI (fun h=>?_) fun h=>?_
 ·rw[decide_eq_true h,cond_true] at ht hb
  refine af.2 ⟨rfl,af.2 ⟨rfl,wT (fun g=>of_decide_eq_true (ht g)) fun h1=>?_⟩⟩
  exact ap (p:=¬n.2.1=1) aS (fun k=>absurd h k) fun _=>hb (decide_eq_true h1)
 ·rw[decide_eq_false h,cond_false] at ht hb
  exact ap (p:=¬n.2.1=1) aS (fun _=>fu (p:=¬n.2.2.2.2.1=0) aS (fun g=>not_not_intro (of_decide_eq_true (ht g))) fun h1=>hb (decide_eq_true (Decidable.not_not.1 h1))) fun k=>absurd h k
theorem OE{m:ao}{n:Node}{G:Bool}(hm:dV m=true)(hi:0≤n.1∧n.1≤m.1-1)(h1:ju n=true→o7 m n=true)(h0:G=true→vY m n=true∧o7 m n=true∧nV m n=true∧tF n=true)(h2:vY m n=true→o7 m n=true→nV m n=true→tF n=true→G=true):aA (B7 aj) (.more (.c0 ⟨m,n⟩)) (bif G then 0 else 180):=by
 rw[ak,B7]
 refine af.2 ⟨rfl,?_⟩
 rw[show aj.k mC (⟨m,n⟩:LK).a1=ju n from rfl]
 have hc:=fun g=>(h0 g).2.1
 unfold o7 at hc h1 h2
 cases hn:ju n
 ·rw[hn,cond_false] at hc h2
  refine(ai rfl).2 (iw (b:=zg n.2.2.1) (fun g=>?_) fun z1=>iw (b:=zeroV n.2.2.2.1) (fun g=>?_) fun z2=>?_)
  ·exact(Bool.and_eq_true _ _▸hc g).1
  ·exact(Bool.and_eq_true _ _▸hc g).2
  ·exact Ml hm hi (fun g=>(h0 g).1) fun k=>Hg (fun g=>(h0 g).2.2) fun a b=>h2 k (by rw[z1,z2];rfl) a b
 ·rw[hn,cond_true] at hc h1 h2
  exact(ah rfl).2 (Ml hm hi (fun g=>(h0 g).1) fun k=>Hg (fun g=>(h0 g).2.2) fun a b=>h2 k (h1 rfl) a b)
theorem V4{m:ao}{n:Node}:aA (B7 aj) (UG aj m n) (bU m n):=by
 unfold UG bU
 refine af.2 ⟨rfl,?_⟩
 rw[show aj.k kw m=fT m from rfl,fT]
 cases hm:dV m
 ·exact(ai rfl).2 (.ret _)
 have hG:=@fe m n
 have hl:=(eG hm).1
 rw[cond_true,Oc,aX,fV (by omega) (by omega)]
 generalize DZ m n=G at hG ⊢
 refine(ah rfl).2 (af.2 ⟨rfl,wT (fun g=>(hG.1 g).1) fun h1=>af.2 ⟨rfl,wT (fun g=>(hG.1 g).2.1) fun h2=>af.2 ⟨rfl,wT (fun g=>(hG.1 g).2.2.1) fun h3=>af.2 ⟨rfl,?_⟩⟩⟩⟩)
 refine fu (p:=¬ig n.2.2.2.2.2.2.2=0) aS (fun g=>not_not_intro (kP.2 (hG.1 g).2.2.2.1)) fun h7=>?_
 refine fu (p:=¬n.2.2.2.2.2.2.2.1=n.1) aS (fun g=>by have:=hG.1 g;omega) fun h8=>?_
 refine fu (p:=¬(n.2.2.2.2.2.2.2.2.2.1.length:Int)=m.1) aS (fun g=>by have:=hG.1 g;omega) fun h9=>af.2 ⟨rfl,?_⟩
 have fin:(ju n=true→o7 m n=true)→aA (B7 aj) (.more (.c0 ⟨m,n⟩)) (bif G then 0 else 180):=fun h=>OE hm h1 h (fun g=>(hG.1 g).2.2.2.2.2.2) fun a b c d=>hG.2 ⟨h1,h2,h3,kP.1 (Decidable.not_not.1 h7),by omega,by omega,a,b,c,d⟩
 rw[show aj.k mC n=ju n from rfl]
 have hc:=fun g=>(hG.1 g).2.2.2.2.2.2.2.1
 unfold o7 at hc fin
 cases hn:ju n
 ·exact(ah rfl).2 (fin fun k=>absurd (hn.symm.trans k) (by decide))
 ·rw[hn,cond_true] at hc
  simp only[hn,cond_true,Bool.and_eq_true,decide_eq_true_eq] at hc fin
  refine(ai rfl).2 (af.2 ⟨rfl,iw (b:=eZ m n.2.2.1) (fun g=>(hc g).1) fun k1=>af.2 ⟨rfl,?_⟩⟩)
  rw[al,JM]
  refine fu (p:=¬gZ n.2.2.2.1=0) aS (fun g=>not_not_intro (hc g).2.1) fun k2=>?_
  refine fu (p:=¬n.2.2.2.1.1=n.1) aS (fun g=>not_not_intro (hc g).2.2.1) fun k3=>?_
  refine fu (p:=¬n.2.2.2.1.2.1=m.1) aS (fun g=>not_not_intro (hc g).2.2.2.1) fun k4=>?_
  refine fu (p:=¬n.2.2.1.2.2.2.2=n.2.2.2.1.2.2.1) aS (fun g=>not_not_intro (hc g).2.2.2.2) fun k5=>?_
  exact fin fun _=>⟨k1,Decidable.not_not.1 k2,Decidable.not_not.1 k3,Decidable.not_not.1 k4,Decidable.not_not.1 k5⟩
def Gm:(ao×Node)→Int:=fun(m,n)=>bU m n
def abl:aB:=⟨[aY,aW], [yI],(@tt (ao×Node)),Gm⟩
theorem aaa:Sd 20 abl:=aL ax bK true 151 [] [⟨20,8, [[2,3]]⟩,⟨20,10, [[2,3]]⟩,⟨20,11, [[3]]⟩] (fun A (m,n)=>UG A m n) B7 UZ (fc Tryz.func20 fz) (sc EW (sc D9 (sc LF (sc KM (sc Sz (sc yC (sc Sp sz))))))) (fun A y=>match y with |.c0 p=>⟨51,by kernel_rfl,by kernel_rfl⟩|.c1 p=>⟨39,by kernel_rfl,by kernel_rfl⟩|.c2 p=>⟨27,by kernel_rfl,by kernel_rfl⟩) fun(m,n) hp h=>V4
open Go.Ev.Pl
def ed:Node:=(0,0,(0,0,0,0,0),(0,0,0,0,0,0,0),0,false,0,0,([]:List Int),([]:List aU),0,0)
def xg(m:ao)(id:Int):Node×Int:=bif dV m then(bif decide (0≤id∧id≤m.1-1) then((id,0,(0,0,0,0,0),(0,0,0,0,0,0,0),0,false,0,id,([]:List Int),List.replicate m.1.toNat np,4,(-1)),0) else(ed,2)) else(ed,70)
def VC(A:a_)(m:ao)(id:Int):LT (Node×Int) Empty:=.need (A.k (@tt ao) m) (.br (A.c .neq (A.k lm m) 0) (.ret ((0,0,(0,0,0,0,0),(0,0,0,0,0,0,0),0,false,0,0,([]:List Int),([]:List aU),0,0),(A.k lm m))) (.br (A.c .lss id 0) (.ret ((0,0,(0,0,0,0,0),(0,0,0,0,0,0,0),0,false,0,0,([]:List Int),([]:List aU),0,0),2)) (.br (A.c .geq id m.1) (.ret ((0,0,(0,0,0,0,0),(0,0,0,0,0,0,0),0,false,0,0,([]:List Int),([]:List aU),0,0),2)) (.need (A.k (@tt (Int×Int)) (id,m.1)) (.ret ((id,0,(0,0,0,0,0),(0,0,0,0,0,0,0),0,false,0,(A.k JS (id,m.1)).1),0))))))
theorem Wj{m:ao}{id:Int}:aA Empty.elim (VC aj m id) (xg m id):=by
 unfold VC xg
 refine af.2 ⟨rfl,?_⟩
 rw[show aj.k lm m=fT m from rfl,fT]
 cases hm:dV m
 ·exact(ai rfl).2 (.ret _)
 rw[show aj.k JS (id,m.1)=Db id m.1 from rfl,Db,decide_eq_true (eG hm).1,cond_true,cond_true]
 refine(ah rfl).2 (ap (p:=id<0) rfl (fun h=>?_) fun h1=>ap (p:=m.1≤id) rfl (fun h=>?_) fun h2=>af.2 ⟨rfl,?_⟩)
 ·exact au (by rw[decide_eq_false (show ¬(0≤id∧id≤m.1-1) by omega)];rfl) (.ret _)
 ·exact au (by rw[decide_eq_false (show ¬(0≤id∧id≤m.1-1) by omega)];rfl) (.ret _)
 ·exact au (by rw[decide_eq_true (show 0≤id∧id≤m.1-1 by omega)];rfl) (.ret _)
def xR:(ao×Int)→(Node×Int):=fun(m,n)=>xg m n
def acs:aB:=⟨[aY,yI], [aW,yI],(@tt (ao×Int)),xR⟩
theorem Sq:Sd 18 acs:=aF ax bK true 61 [] (fun A (m,id)=>VC A m id) (fc Tryz.func18 fz) (sc E4 (sc acQ sz)) fun(m,id) hp h=>Wj
def Xr(A:a_)(m:ao)(n:Node)(when:Bool):LT (Node×Int) Empty:=.need (A.k (@tt (ao×Node)) (m,n)) (.br (A.c .neq (A.k Gm (m,n)) 0) (.ret ((0,0,(0,0,0,0,0),(0,0,0,0,0,0,0),0,false,0,0,([]:List Int),([]:List aU),0,0),(A.k Gm (m,n)))) (.br (A.not when) (.ret ((0,0,(0,0,0,0,0),(0,0,0,0,0,0,0),0,false,0,0,([]:List Int),([]:List aU),0,0),181)) (.need (A.k (@tt (bu×List Int)) (n.2.2.2.2.2.2.2,n.2.2.2.2.2.2.2.2.1)) (.ret ((n.1,n.2.1,n.2.2.1,n.2.2.2.1,n.2.2.2.2.1,n.2.2.2.2.2.1,n.2.2.2.2.2.2.1,(A.k bA (n.2.2.2.2.2.2.2,n.2.2.2.2.2.2.2.2.1)).1),(A.k bA (n.2.2.2.2.2.2.2,n.2.2.2.2.2.2.2.2.1)).2)))))
def kU(m:ao)(n:Node)(w:Bool):Node×Int:=bif decide (bU m n=0) then(bif w then(n,0) else(ed,181)) else(ed,bU m n)
theorem fY{m:ao}{n:Node}(h:bU m n=0):dU n.2.2.2.2.2.2.2=true:=(fe.1 (dz h).2).2.2.2.1
theorem He{c:bu}(h:dU c=true):¬8<(c.2.1.length:Int):=by
 simp only[dU,Bool.and_eq_true,decide_eq_true_eq] at h
 exact h.2.2.1
theorem aa9{m:ao}{n:Node}{w:Bool}:aA Empty.elim (Xr aj m n w) (kU m n w):=by
 unfold Xr kU
 refine af.2 ⟨rfl,?_⟩
 rw[show aj.k Gm (m,n)=bU m n from rfl]
 by_cases h:bU m n=0
 ·rw[decide_eq_true h]
  refine(ah (gY h)).2 ?_
  cases w
  ·exact(ai rfl).2 (.ret _)
  ·refine(ah rfl).2 (af.2 ⟨rfl,?_⟩)
   rw[show aj.k bA (n.2.2.2.2.2.2.2,n.2.2.2.2.2.2.2.2.1)=BX n.2.2.2.2.2.2.2 n.2.2.2.2.2.2.2.2.1 from rfl,BX,fY h,decide_eq_false (He (fY h))]
   exact .ret _
 ·rw[decide_eq_false h];exact(ai (fw h)).2 (.ret _)
def iU:(ao×Node×Bool)→(Node×Int):=fun(m,c,k)=>kU m c k
def acr:aB:=⟨[aY,aW,.bool], [aW,yI],(@tt (ao×Node×Bool)),iU⟩
theorem LB:Sd 74 acr:=aF ax bK true 64 [] (fun A (m,n,when)=>Xr A m n when) (fc Tryz.func74 fz) (sc aaa (sc sC sz)) fun(m,n,when) hp h=>aa9
def aff(A:a_)(n:Node):LT Node Empty:=.need (A.k oR n.2.2.2.2.2.2.2) (.ret (n.1,n.2.1,n.2.2.1,n.2.2.2.1,n.2.2.2.2.1,n.2.2.2.2.2.1,n.2.2.2.2.2.2.1,(A.k ji n.2.2.2.2.2.2.2)))
theorem abG{n:Node}(h:dU n.2.2.2.2.2.2.2=true):aA Empty.elim (aff aj n) n:=af.2 ⟨xa h,.ret _⟩
def aD:Node→Node:=fun n=>n
def ml:Node→Bool:=fun n=>dU n.2.2.2.2.2.2.2
def abA:aB:=⟨[aW], [aW],ml,aD⟩
theorem xT:Sd 76 abA:=aF ax bK true 24 [] (fun A n=>aff A n) (fc Tryz.func76 fz) (sc Eo sz) fun(n:Node) hp h=>abG hp
theorem On{c:cq}(h:zg c=true):c=(0,0,0,0,0):=by
 obtain⟨a,b,d,e,f⟩:=c
 simp[zg,aQ,aC] at h
 obtain⟨rfl,rfl,rfl,rfl,rfl⟩:=h
 rfl
theorem NP{c:eT}(h:zeroV c=true):c=(0,0,0,0,0,0,0):=by
 obtain⟨a,b,d,e,f,g,i⟩:=c
 simp[zeroV,aQ,aC] at h
 obtain⟨rfl,rfl,rfl,rfl,rfl,rfl,rfl⟩:=h
 rfl
theorem Gi{m:ao}{n:Node}(h:bU m n=0)(h2:¬(2≤n.2.1∧n.2.1≤4)):n.2.2.1=(0,0,0,0,0)∧n.2.2.2.1=(0,0,0,0,0,0,0):=by
 have hc:=(fe.1 (dz h).2).2.2.2.2.2.2.2.1
 rw[o7,ju,decide_eq_false h2,cond_false,Bool.and_eq_true] at hc
 exact⟨On hc.1,NP hc.2⟩
theorem Pk{m:ao}{n:Node}(h:bU m n=0)(h2:¬n.2.1=1):n.2.2.2.2.1=0:=by
 have hc:=(fe.1 (dz h).2).2.2.2.2.2.2.2.2.1
 rw[nV,decide_eq_false h2] at hc
 exact of_decide_eq_true hc
def II(m:ao)(n:Node)(on:Bool):Node×Int:=bif decide (bU m n=0) then(bif on then(bif decide (n.2.1=0) then((n.1,1,(0,0,0,0,0),(0,0,0,0,0,0,0),(lG m n.1).1,n.2.2.2.2.2),0) else(ed,181)) else xg m n.1) else(ed,bU m n)
def WV(A:a_)(m:ao)(n:Node)(on:Bool):LT (Node×Int) Empty:=.need (A.k (@tt (ao×Node)) (m,n)) (.br (A.c .neq (A.k gg (m,n)) 0) (.ret ((0,0,(0,0,0,0,0),(0,0,0,0,0,0,0),0,false,0,0,([]:List Int),([]:List aU),0,0),(A.k gg (m,n)))) (.br (A.not on) (.need (A.k (@tt (ao×Int)) (m,n.1)) (.ret (A.k xR (m,n.1)))) (.br (A.c .neq n.2.1 0) (.ret ((0,0,(0,0,0,0,0),(0,0,0,0,0,0,0),0,false,0,0,([]:List Int),([]:List aU),0,0),181)) (.need (A.k ml n) (.need (A.k (@tt (ao×Int)) (m,(A.k aD n).1)) (.ret (((A.k aD n).1,1,(A.k aD n).2.2.1,(A.k aD n).2.2.2.1,(A.k vv (m,(A.k aD n).1)).1,(A.k aD n).2.2.2.2.2),0)))))))
theorem aen{m:ao}{n:Node}{on:Bool}:aA Empty.elim (WV aj m n on) (II m n on):=by
 unfold WV II
 refine af.2 ⟨rfl,?_⟩
 rw[show aj.k gg (m,n)=bU m n from rfl]
 by_cases h:bU m n=0
 ·rw[decide_eq_true h]
  refine(ah (gY h)).2 ?_
  cases on
  ·exact(ai rfl).2 (af.2 ⟨rfl,.ret _⟩)
  ·refine(ah rfl).2 (ap (p:=¬n.2.1=0) aS (fun h1=>?_) fun h1=>af.2 ⟨fY h,af.2 ⟨rfl,?_⟩⟩)
   ·exact au (by rw[decide_eq_false h1];rfl) (.ret _)
   ·have h2:n.2.1=0:=by omega
    obtain⟨e1,e2⟩:=Gi h (by omega)
    rw[decide_eq_true h2,show aj.k aD n=n from rfl,e1,e2]
    exact .ret _
 ·rw[decide_eq_false h];exact(ai (fw h)).2 (.ret _)
def BR:(ao×Node×Bool)→(Node×Int):=fun(m,c,k)=>II m c k
def acd:aB:=⟨[aY,aW,.bool], [aW,yI],(@tt (ao×Node×Bool)),BR⟩
theorem ae5:Sd 27 acd:=aF ax bK true 74 [] (fun A (m,n,on)=>WV A m n on) (fc Tryz.func27 fz) (sc Sq (sc vo (sc xT (sc Gv sz)))) fun(m,n,on) hp h=>aen
theorem Ba{k:Int}(h:4≤k∧k≤8):16≤aj.b .shl .i64 1 k∧aj.b .shl .i64 1 k≤256:=by
 have:k=4∨k=5∨k=6∨k=7∨k=8:=by omega
 rcases this with rfl|rfl|rfl|rfl|rfl<;>decide
theorem FV{k:Int}(h:0≤k∧k≤8):aj.v .u64 k=k:=by
 obtain⟨j,rfl⟩:∃j:Nat,k=j:=⟨k.toNat,by omega⟩
 exact dS (by omega)
def XB(m:ao)(n:Node)(s:Int):Node×Int:=bif decide (bU m n=0) then(bif decide (n.2.1=0) then(bif decide (0≤s∧s≤aj.b .shl .i64 1 m.1-1) then(bif jY s n.1 then((n.1,4,(0,0,0,0,s),(n.1,m.1,s,1,0,0,0),0,n.2.2.2.2.2),0) else(ed,2)) else(ed,2)) else(ed,181)) else(ed,bU m n)
def SZ(A:a_)(m:ao)(n:Node)(set1:Int):LT (Node×Int) Empty:=.need (A.k (@tt (ao×Node)) (m,n)) (.br (A.c .neq (A.k gg (m,n)) 0) (.ret ((0,0,(0,0,0,0,0),(0,0,0,0,0,0,0),0,false,0,0,([]:List Int),([]:List aU),0,0),(A.k gg (m,n)))) (.br (A.c .neq n.2.1 0) (.ret ((0,0,(0,0,0,0,0),(0,0,0,0,0,0,0),0,false,0,0,([]:List Int),([]:List aU),0,0),181)) (.br (A.c .lss set1 0) (.ret ((0,0,(0,0,0,0,0),(0,0,0,0,0,0,0),0,false,0,0,([]:List Int),([]:List aU),0,0),2)) (.need (A.c .leq 0 (A.v .u64 m.1)) (.br (A.c .geq set1 (A.b .shl .i64 1 (A.v .u64 m.1))) (.ret ((0,0,(0,0,0,0,0),(0,0,0,0,0,0,0),0,false,0,0,([]:List Int),([]:List aU),0,0),2)) (.need (A.c .leq 0 (A.v .u64 n.1)) (.br (A.c .eql (A.b .and .i64 set1 (A.b .shl .i64 1 (A.v .u64 n.1))) 0) (.ret ((0,0,(0,0,0,0,0),(0,0,0,0,0,0,0),0,false,0,0,([]:List Int),([]:List aU),0,0),2)) (.need (A.k ml n) (.ret (((A.k aD n).1,4,(0,0,0,0,set1),((A.k aD n).1,m.1,set1,1,0,0,0),(A.k aD n).2.2.2.2),0))))))))))
theorem ahA{m:ao}{n:Node}{s:Int}:aA Empty.elim (SZ aj m n s) (XB m n s):=by
 unfold SZ XB
 refine af.2 ⟨rfl,?_⟩
 rw[show aj.k gg (m,n)=bU m n from rfl]
 by_cases h:bU m n=0
 ·rw[decide_eq_true h]
  have hk:=(eG (dz h).1).1
  have hs:=Ba hk
  have hi:=(fe.1 (dz h).2).1
  rw[FV (k:=m.1) (by omega),FV (k:=n.1) (by omega)]
  refine(ah (gY h)).2 (ap (p:=¬n.2.1=0) aS (fun h1=>?_) fun h1=>?_)
  ·exact au (by rw[decide_eq_false h1];rfl) (.ret _)
  rw[decide_eq_true (show n.2.1=0 by omega)]
  refine ap (p:=s<0) rfl (fun h3=>?_) fun h3=>af.2 ⟨decide_eq_true (by omega),ap (p:=aj.b .shl .i64 1 m.1≤s) rfl (fun h4=>?_) fun h4=>af.2 ⟨decide_eq_true hi.1,?_⟩⟩
  ·exact au (by rw[decide_eq_false (show ¬(0≤s∧s≤aj.b .shl .i64 1 m.1-1) by omega)];rfl) (.ret _)
  ·exact au (by rw[decide_eq_false (show ¬(0≤s∧s≤aj.b .shl .i64 1 m.1-1) by omega)];rfl) (.ret _)
  ·rw[decide_eq_true (show 0≤s∧s≤aj.b .shl .i64 1 m.1-1 by omega)]
   have hb:=H9 (c:=s) (a:=n.1) (by omega) (by omega) hi.1 (by omega)
   refine ap (p:=aj.b .and .i64 s (aj.b .shl .i64 1 n.1)=0) aI (fun g=>?_) fun g=>af.2 ⟨fY h,?_⟩
   ·exact au (by rw[hb.1 g];rfl) (.ret _)
   ·have ht:=Pk h (show ¬n.2.1=1 by omega)
    refine au ?_ (.ret _)
    rw[show jY s n.1=true from by cases hx:jY s n.1;exact absurd (hb.2 hx) g;rfl,show aj.k aD n=n from rfl]
    show _=(((n.1,4,(0,0,0,0,s),(n.1,m.1,s,1,0,0,0),0,n.2.2.2.2.2),0):Node×Int)
    rw[←ht]
 ·rw[decide_eq_false h];exact(ai (fw h)).2 (.ret _)
def AN:(ao×Node×Int)→(Node×Int):=fun(m,c,k)=>XB m c k
def YO:aB:=⟨[aY,aW,yI], [aW,yI],(@tt (ao×Node×Int)),AN⟩
theorem abo:Sd 25 YO:=aF ax bK true 97 [] (fun A (m,n,set1)=>SZ A m n set1) (fc Tryz.func25 fz) (sc vo (sc xT sz)) fun(m,n,set1) hp h=>ahA
def KY(n:Node)(r:bu×Int):Node×Int:=bif decide (r.2=0) then((n.1,n.2.1,n.2.2.1,n.2.2.2.1,n.2.2.2.2.1,n.2.2.2.2.2.1,n.2.2.2.2.2.2.1,r.1),0) else(ed,r.2)
def IV(m:ao)(n:Node)(o:E7):Node×Int:=bif decide (bU m n=0) then(bif decide (1≤o.2.2.2.1∧o.2.2.2.1≤3) then(bif ju n then(bif decide (o.2.2.2.1=1) then KY n (BX n.2.2.2.2.2.2.2 o.2.2.2.2.2) else bif decide (o.2.2.2.1=2) then KY n (Qk n.2.2.2.2.2.2.2) else KY n (Dw n.2.2.2.2.2.2.2 o.2.2.2.2.1)) else(n,0)) else(ed,2)) else(ed,bU m n)
theorem A9{Y:Type}{step:Y→LT (Node×Int) Y}{n:Node}{r:bu×Int}{x:Int}(hx:r.2=0→x=0):aA step (.br (aj.c .neq r.2 0) (.ret (ed,r.2)) (.ret ((n.1,n.2.1,n.2.2.1,n.2.2.2.1,n.2.2.2.2.1,n.2.2.2.2.2.1,n.2.2.2.2.2.2.1,r.1),x))) (KY n r):=by
 unfold KY
 refine ap (p:=¬r.2=0) aS (fun h=>?_) fun h=>?_
 ·exact au (by rw[decide_eq_false h];rfl) (.ret _)
 ·have h:=Decidable.not_not.1 h
  exact au (by rw[decide_eq_true h,hx h];rfl) (.ret _)
def Tb(A:a_)(m:ao)(n:Node)(o:E7):LT (Node×Int) Empty:=.need (A.k (@tt (ao×Node)) (m,n)) (.br (A.c .neq (A.k gg (m,n)) 0) (.ret ((0,0,(0,0,0,0,0),(0,0,0,0,0,0,0),0,false,0,0,([]:List Int),([]:List aU),0,0),(A.k gg (m,n)))) (.br (A.c .lss o.2.2.2.1 1) (.ret ((0,0,(0,0,0,0,0),(0,0,0,0,0,0,0),0,false,0,0,([]:List Int),([]:List aU),0,0),2)) (.br (A.c .gtr o.2.2.2.1 3) (.ret ((0,0,(0,0,0,0,0),(0,0,0,0,0,0,0),0,false,0,0,([]:List Int),([]:List aU),0,0),2)) (.need (A.k ml n) (.need (A.k (@tt Node) (A.k aD n)) (.br (A.not (A.k lV (A.k aD n))) (.ret ((A.k aD n),0)) (.br (A.c .eql o.2.2.2.1 1) (.need (A.k (@tt (bu×List Int)) ((A.k aD n).2.2.2.2.2.2.2,o.2.2.2.2.2)) (.br (A.c .neq (A.k Gr ((A.k aD n).2.2.2.2.2.2.2,o.2.2.2.2.2)).2 0) (.ret ((0,0,(0,0,0,0,0),(0,0,0,0,0,0,0),0,false,0,0,([]:List Int),([]:List aU),0,0),(A.k Gr ((A.k aD n).2.2.2.2.2.2.2,o.2.2.2.2.2)).2)) (.ret (((A.k aD n).1,(A.k aD n).2.1,(A.k aD n).2.2.1,(A.k aD n).2.2.2.1,(A.k aD n).2.2.2.2.1,(A.k aD n).2.2.2.2.2.1,(A.k aD n).2.2.2.2.2.2.1,(A.k Gr ((A.k aD n).2.2.2.2.2.2.2,o.2.2.2.2.2)).1),0)))) (.br (A.c .eql o.2.2.2.1 2) (.need (A.k (@tt bu) (A.k aD n).2.2.2.2.2.2.2) (.br (A.c .neq (A.k H7 (A.k aD n).2.2.2.2.2.2.2).2 0) (.ret ((0,0,(0,0,0,0,0),(0,0,0,0,0,0,0),0,false,0,0,([]:List Int),([]:List aU),0,0),(A.k H7 (A.k aD n).2.2.2.2.2.2.2).2)) (.ret (((A.k aD n).1,(A.k aD n).2.1,(A.k aD n).2.2.1,(A.k aD n).2.2.2.1,(A.k aD n).2.2.2.2.1,(A.k aD n).2.2.2.2.2.1,(A.k aD n).2.2.2.2.2.2.1,(A.k H7 (A.k aD n).2.2.2.2.2.2.2).1),0)))) (.need (A.k (@tt (bu×Int)) ((A.k aD n).2.2.2.2.2.2.2,o.2.2.2.2.1)) (.br (A.c .neq (A.k GN ((A.k aD n).2.2.2.2.2.2.2,o.2.2.2.2.1)).2 0) (.ret ((0,0,(0,0,0,0,0),(0,0,0,0,0,0,0),0,false,0,0,([]:List Int),([]:List aU),0,0),(A.k GN ((A.k aD n).2.2.2.2.2.2.2,o.2.2.2.2.1)).2)) (.ret (((A.k aD n).1,(A.k aD n).2.1,(A.k aD n).2.2.1,(A.k aD n).2.2.2.1,(A.k aD n).2.2.2.2.1,(A.k aD n).2.2.2.2.2.1,(A.k aD n).2.2.2.2.2.2.1,(A.k GN ((A.k aD n).2.2.2.2.2.2.2,o.2.2.2.2.1)).1),0))))))))))))
theorem afS{m:ao}{n:Node}{o:E7}:aA Empty.elim (Tb aj m n o) (IV m n o):=by
 unfold Tb IV
 refine af.2 ⟨rfl,?_⟩
 rw[show aj.k gg (m,n)=bU m n from rfl,show aj.k aD n=n from rfl,show aj.k lV n=ju n from rfl]
 by_cases h:bU m n=0
 ·rw[decide_eq_true h,cond_true]
  refine(ah (gY h)).2 (ap (p:=o.2.2.2.1<1) rfl (fun h3=>?_) fun h3=>ap (p:=3<o.2.2.2.1) rfl (fun h4=>?_) fun h4=>af.2 ⟨fY h,af.2 ⟨rfl,?_⟩⟩)
  ·exact au (by rw[decide_eq_false (show ¬(1≤o.2.2.2.1∧o.2.2.2.1≤3) by omega)];rfl) (.ret _)
  ·exact au (by rw[decide_eq_false (show ¬(1≤o.2.2.2.1∧o.2.2.2.1≤3) by omega)];rfl) (.ret _)
  rw[decide_eq_true (show 1≤o.2.2.2.1∧o.2.2.2.1≤3 by omega),cond_true]
  cases ju n
  ·exact(ai rfl).2 (.ret _)
  refine(ah rfl).2 (ap (p:=o.2.2.2.1=1) aI (fun k=>af.2 ⟨rfl,?_⟩) fun k=>ap (p:=o.2.2.2.1=2) aI (fun k2=>af.2 ⟨rfl,?_⟩) fun k2=>af.2 ⟨rfl,?_⟩)
  ·rw[decide_eq_true k];exact A9 (r:=BX n.2.2.2.2.2.2.2 o.2.2.2.2.2) (fun h=>rfl)
  ·rw[decide_eq_false k,decide_eq_true k2];exact A9 (r:=Qk n.2.2.2.2.2.2.2) (fun h=>rfl)
  ·rw[decide_eq_false k,decide_eq_false k2];exact A9 (r:=Dw n.2.2.2.2.2.2.2 o.2.2.2.2.1) (fun h=>rfl)
 ·rw[decide_eq_false h];exact(ai (fw h)).2 (.ret _)
def BP:(ao×Node×E7)→(Node×Int):=fun(m,c,k)=>IV m c k
def acU:aB:=⟨[aY,aW,PL], [aW,yI],(@tt (ao×Node×E7)),BP⟩
theorem ado:Sd 29 acU:=aF ax bK true 109 [] (fun A (m,n,o)=>Tb A m n o) (fc Tryz.func29 fz) (sc vo (sc By (sc xT (sc Yz (sc YZ (sc aax sz)))))) fun(m,n,o) hp h=>afS
end Go.Ev.M
