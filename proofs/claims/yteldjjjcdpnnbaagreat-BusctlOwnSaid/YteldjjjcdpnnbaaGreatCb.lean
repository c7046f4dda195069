/-
  PROVED: what functions of the packages modes, medl, cstate, busctl and of their documents compute. Conditions: none.
-/
import Derived.Test.YteldjjjcdpnnbaaGreatCa
import Derived.Test.YteldjjjcdpnnbaaGreatMb
namespace Go.Ev.M
open Go.Proofs
set_option maxRecDepth 100000
set_option linter.unusedVariables false
set_option linter.unusedSimpArgs false
open Go.Ev.Pl
abbrev dh(m:ao):Int:=(m.2.2.2.2.2.2.2.length:Int)
theorem rU{c:cf}{k:Int}(h:iB (c,k)=0):(4≤k∧k≤8)∧(0≤c.1∧c.1≤255)∧(0≤c.2.1∧c.2.1≤k-1)∧(0≤c.2.2.1∧c.2.2.1≤3)∧(0≤c.2.2.2.1∧c.2.2.2.1≤4)∧(0≤c.2.2.2.2∧c.2.2.2.2≤2^k.toNat-1):=by
 obtain⟨t,p,m,n,s⟩:=c
 rw[iB] at h
 cases h1:decide (k<4)||decide (8<k)
 ·rw[h1,cond_false] at h
  rw[Bool.or_eq_false_iff,decide_eq_false_iff_not,decide_eq_false_iff_not] at h1
  cases h2:((decide (0≤t)&&decide (t≤255))&&((decide (0≤p)&&decide (p≤k-1))&&((decide (0≤m)&&decide (m≤3))&&((decide (0≤n)&&decide (n≤4))&&(decide (0≤s)&&decide (s≤2^k.toNat-1))))))
  ·rw[h2,cond_false] at h;exact absurd h (by decide)
  ·simp only[Bool.and_eq_true,decide_eq_true_eq] at h2
   exact⟨by omega,h2.1,h2.2.1,h2.2.2.1,h2.2.2.2.1,h2.2.2.2.2⟩
 ·rw[h1,cond_true] at h;exact absurd h (by decide)
def eD(m:ao)(c:cf):Bool:=decide (iB (c,m.1)=0)&&(decide (c.2.2.1<dh m)&&decide (c.2.2.2.1≤dh m))
def dB(m:ao)(c:cf):Int:=bif dL m then(bif eD m c then 0 else 40) else 70
theorem iY{m:ao}{c:cf}(h:dB m c=0):dL m=true∧iB (c,m.1)=0∧(0≤c.2.2.1∧c.2.2.1<dh m)∧c.2.2.2.1≤dh m:=by
 unfold dB at h
 cases hm:dL m
 ·rw[hm,cond_false] at h;exact absurd h (by decide)
 ·cases hf:eD m c
  ·rw[hm,hf,cond_true,cond_false] at h;exact absurd h (by decide)
  ·simp only[eD,Bool.and_eq_true,decide_eq_true_eq] at hf
   exact⟨rfl,hf.1,⟨(rU hf.1).2.2.2.1.1,hf.2.1⟩,hf.2.2⟩
theorem EB{m:ao}{c:cf}(h:dL m=true)(h2:eD m c=true):dB m c=0:=by rw[dB,h,h2];rfl
theorem eT{m:ao}(h:dL m=true):(4≤m.1∧m.1≤8)∧(1≤dh m∧dh m≤4)∧(m.2.2.2.2.2.2.1.length:Int)=m.1∧m.2.2.2.2.2.2.2.all (gl m)=true:=by
 obtain⟨n,s,g,w,d,de,cold,modes⟩:=m
 have:=Ns h
 exact⟨this.1,this.2.1,this.2.2.1,this.2.2.2.1⟩
theorem kF{m:ao}(h:dL m=true){i:Int}(h0:0≤i)(h1:i<dh m):gl m (ai.n aP m.2.2.2.2.2.2.2 i:Mode)=true:=by
 obtain⟨k,rfl⟩:∃k:Nat,i=k:=⟨i.toNat,by omega⟩
 have hk:k<m.2.2.2.2.2.2.2.length:=by unfold dh at h1;omega
 rw[show(ai.n aP m.2.2.2.2.2.2.2 (k:Int):Mode)=m.2.2.2.2.2.2.2[k] from getD_in hk _]
 exact List.all_eq_true.1 (eT h).2.2.2 _ (List.getElem_mem hk)
theorem gM{m:ao}{x:Mode}(h:gl m x=true):(x.1.length:Int)=m.1∧(x.2.1.length:Int)=m.1∧(x.2.2.length:Int)=dh m:=by
 simp only[gl,Bool.and_eq_true,beq_iff_eq] at h
 exact⟨h.1.1.1,h.1.1.2,by rw[h.1.2]⟩
theorem jB{α:Type}{l:List α}{i:Int}(h0:0≤i)(h1:i<(l.length:Int)):ai.and (ai.c .leq 0 i) (ai.c .lss i (ai.l l))=true:=by
 rw[fO,aF,ar,aU];simp;omega
theorem lk{x:Int}(h:x=0):ai.c .neq x 0=false:=by rw[h];rfl
theorem jS{x:Int}(h:¬x=0):ai.c .neq x 0=true:=by rw[aQ];simpa using h
theorem Py{x:Int}(h:¬x=0):ai.c .eql x 0=false:=by rw[aS];simpa using h
theorem IP{x:Int}(h:x=0):ai.c .eql x 0=true:=by rw[h];rfl
def Kf(A:aZ)(m:ao)(c:cf):LT Bool Empty:=.need (A.k (@tt ((Int×Int×Int×Int×Int)×Int)) (c,m.1)) (.br (A.c .eql (A.k sR (c,m.1)) 0) (.br (A.c .lss c.2.2.1 (A.l m.2.2.2.2.2.2.2)) (.ret (A.c .leq c.2.2.2.1 (A.l m.2.2.2.2.2.2.2))) (.ret false)) (.ret false))
theorem JB{m:ao}{c:cf}:aB Empty.elim (Kf ai m c) (eD m c):=by
 unfold Kf
 refine af.2 ⟨rfl,?_⟩
 rw[show ai.k sR (c,m.1)=iB (c,m.1) from rfl]
 by_cases h:iB (c,m.1)=0
 ·rw[eD,decide_eq_true h]
  refine(aj (IP h)).2 (au (p:=c.2.2.1<dh m) rfl (fun h2=>?_) fun h2=>?_)
  ·exact al (by rw[decide_eq_true h2];rfl) (.ret _)
  ·exact al (by rw[decide_eq_false h2];rfl) (.ret _)
 ·rw[eD,decide_eq_false h]
  exact(ah (Py h)).2 (.ret _)
def su:(ao×cf)→Bool:=fun(m,c)=>eD m c
def Ur:aA:=⟨[bC,jj], [.bool],(@tt (ao×cf)),su⟩
theorem FW:Sd 153 Ur:=aD ax cm true 37 [] (fun A (m,c)=>Kf A m c) (fc Tryz.func153 fz) (sc GJ sz) fun(m,c) hp h=>JB
def TL(A:aZ)(m:ao)(c:cf):LT Bool Empty:=.need (A.k (@tt ((Int×Int×Int×Int×Int)×Int)) (c,m.1)) (.br (A.c .eql (A.k lq (c,m.1)) 0) (.br (A.c .lss c.2.2.1 (A.l m.2.2.2.2.2.2.2)) (.ret (A.c .leq c.2.2.2.1 (A.l m.2.2.2.2.2.2.2))) (.ret false)) (.ret false))
theorem K7{m:ao}{c:cf}:aB Empty.elim (TL ai m c) (eD m c):=JB
def Bj:(ao×cf)→Bool:=fun(m,c)=>eD m c
def TO:aA:=⟨[bC,jj], [.bool],(@tt (ao×cf)),Bj⟩
theorem Jp:Sd 68 TO:=aD ax cm true 37 [] (fun A (m,c)=>TL A m c) (fc Tryz.func68 fz) (sc yS sz) fun(m,c) hp h=>K7
def K6(A:aZ)(m:ao)(n:Int):LT Bool Empty:=.br (A.c .geq n 0) (.ret (A.c .lss n (A.l m.2.2.2.2.2.2.2))) (.ret false)
def Yp(m:ao)(n:Int):Bool:=decide (0≤n∧n<dh m)
theorem Y7{m:ao}{n:Int}:aB Empty.elim (K6 ai m n) (Yp m n):=by
 unfold K6 Yp
 refine au (p:=0≤n) rfl (fun h=>?_) fun h=>?_
 ·exact al (by rw[Bool.eq_iff_iff,fO,ar];simp;omega) (.ret _)
 ·exact al (decide_eq_false (by omega)).symm (.ret _)
def s5:(ao×Int)→Bool:=fun(m,c)=>Yp m c
def Vy:aA:=⟨[bC,yI], [.bool],(@tt (ao×Int)),s5⟩
theorem EM:Sd 218 Vy:=aD ax cm true 24 [] (fun A (m,n)=>K6 A m n) (fc Tryz.func218 fz) sz fun(m,n) hp h=>Y7
def Lj(A:aZ)(m:ao)(c:cf):LT Int Empty:=.need (A.k (@tt ao) m) (.br (A.c .neq (A.k j4 m) 0) (.ret (A.k j4 m)) (.need (A.k (@tt ((Int×Int×Int×Int×Int)×Int)) (c,m.1)) (.br (A.c .neq (A.k lq (c,m.1)) 0) (.ret 40) (.need (A.k (@tt (ao×Int)) (m,c.2.2.1)) (.br (A.not (A.k s5 (m,c.2.2.1))) (.ret 40) (.br (A.c .gtr c.2.2.2.1 (A.l m.2.2.2.2.2.2.2)) (.ret 40) (.ret 0)))))))
theorem Qd{m:ao}{c:cf}:aB Empty.elim (Lj ai m c) (dB m c):=by
 unfold Lj dB
 refine af.2 ⟨rfl,?_⟩
 rw[show ai.k j4 m=fP m from rfl,fP]
 cases hm:dL m
 ·exact(aj rfl).2 (.ret _)
 refine(ah rfl).2 (af.2 ⟨rfl,?_⟩)
 rw[show ai.k lq (c,m.1)=iB (c,m.1) from rfl]
 by_cases h:iB (c,m.1)=0
 ·have h0:=(rU h).2.2.2.1.1
  rw[eD,decide_eq_true h]
  refine(ah (lk h)).2 (af.2 ⟨rfl,?_⟩)
  rw[show ai.k s5 (m,c.2.2.1)=decide (0≤c.2.2.1∧c.2.2.1<dh m) from rfl]
  by_cases h2:c.2.2.1<dh m
  ·rw[decide_eq_true (show 0≤c.2.2.1∧c.2.2.1<dh m from⟨h0,h2⟩),decide_eq_true h2]
   refine(ah rfl).2 (au (p:=dh m<c.2.2.2.1) rfl (fun h3=>?_) fun h3=>?_)
   ·exact al (by rw[decide_eq_false (by omega)];rfl) (.ret _)
   ·exact al (by rw[decide_eq_true (by omega)];rfl) (.ret _)
  ·rw[decide_eq_false (show ¬(0≤c.2.2.1∧c.2.2.1<dh m) from fun h=>h2 h.2),decide_eq_false h2]
   exact(aj rfl).2 (.ret _)
 ·rw[eD,decide_eq_false h]
  exact(aj (jS h)).2 (.ret _)
def oG:(ao×cf)→Int:=fun(m,c)=>dB m c
def Tc:aA:=⟨[bC,jj], [yI],(@tt (ao×cf)),oG⟩
theorem C8:Sd 211 Tc:=aD ax cm true 56 [] (fun A (m,c)=>Lj A m c) (fc Tryz.func211 fz) (sc yS (sc Ba (sc EM sz))) fun(m,c) hp h=>Qd
def KH(A:aZ)(m:ao)(c:cf):LT Int Empty:=.need (A.k (@tt ao) m) (.br (A.c .neq (A.k kM m) 0) (.ret (A.k kM m)) (.need (A.k (@tt (ao×cf)) (m,c)) (.br (A.not (A.k su (m,c))) (.ret 40) (.ret 0))))
theorem Ln{m:ao}{c:cf}:aB Empty.elim (KH ai m c) (dB m c):=by
 unfold KH dB
 refine af.2 ⟨rfl,?_⟩
 rw[show ai.k kM m=fP m from rfl,fP]
 cases hm:dL m
 ·exact(aj rfl).2 (.ret _)
 refine(ah rfl).2 (af.2 ⟨rfl,?_⟩)
 rw[show ai.k su (m,c)=eD m c from rfl]
 cases eD m c
 ·exact(aj rfl).2 (.ret _)
 ·exact(ah rfl).2 (.ret _)
def sF:(ao×cf)→Int:=fun(m,c)=>dB m c
def Sl:aA:=⟨[bC,jj], [yI],(@tt (ao×cf)),sF⟩
theorem Jx:Sd 221 Sl:=aD ax cm true 40 [] (fun A (m,c)=>KH A m c) (fc Tryz.func221 fz) (sc A1 (sc FW sz)) fun(m,c) hp h=>Ln
def J9(A:aZ)(m:ao)(c:cf)(mode:Int):LT Bool Empty:=.need (A.k (@tt (ao×Int)) (m,mode)) (.br (A.k s5 (m,mode)) (.br (A.c .neq mode c.2.2.1) (.br (A.c .eql c.2.2.2.1 0) (.need (A.and (A.c .leq 0 c.2.2.1) (A.c .lss c.2.2.1 (A.l m.2.2.2.2.2.2.2))) (.need (A.and (A.c .leq 0 mode) (A.c .lss mode (A.l (A.n aP m.2.2.2.2.2.2.2 c.2.2.1:Mode).2.2))) (.ret (A.n .bool (A.n aP m.2.2.2.2.2.2.2 c.2.2.1:Mode).2.2 mode:Bool)))) (.ret false)) (.ret false)) (.ret false))
def iC(m:ao)(c:cf)(k:Int):Bool:=decide (0≤k∧k<dh m)&&(decide (¬k=c.2.2.1)&&(decide (c.2.2.2.1=0)&&(ai.n .bool (ai.n aP m.2.2.2.2.2.2.2 c.2.2.1:Mode).2.2 k:Bool)))
theorem aY{a b:Int}:ai.c .neq a b=decide (¬a=b):=by rw[aQ,Bool.eq_iff_iff];simp
theorem y9{R Y:Type}{step:Y→LT R Y}{m:ao}{c:cf}{k:Int}{e:LT R Y}{r:R}{f:Bool→R}(h:dB m c=0)(hk:0≤k∧k<dh m)(hr:f (iC m c k)=r)(hf:f false=r→aB step e r) :
  aB step (.br (ai.c .neq k c.2.2.1) (.br (ai.c .eql c.2.2.2.1 0) (.need (ai.and (ai.c .leq 0 c.2.2.1) (ai.c .lss c.2.2.1 (ai.l m.2.2.2.2.2.2.2))) (.need (ai.and (ai.c .leq 0 k) (ai.c .lss k (ai.l (ai.n aP m.2.2.2.2.2.2.2 c.2.2.1:Mode).2.2))) (.ret (f (ai.n .bool (ai.n aP m.2.2.2.2.2.2.2 c.2.2.1:Mode).2.2 k:Bool))))) e) e) r:=by
 obtain⟨hm,_,hc,_⟩:=iY h
 rw[iC,decide_eq_true hk,Bool.true_and] at hr
 refine au (p:=¬k=c.2.2.1) aY (fun h1=>au (p:=c.2.2.2.1=0) aO (fun h2=>af.2 ⟨jB hc.1 hc.2,af.2 ⟨jB hk.1 ?_,?_⟩⟩) fun h2=>hf ?_) fun h1=>hf ?_
 ·exact(gM (kF hm hc.1 hc.2)).2.2▸hk.2
 ·exact al (by rw[←hr,decide_eq_true h1,decide_eq_true h2];rfl) (.ret _)
 ·rw[←hr,decide_eq_false h2];cases decide (¬k=c.2.2.1)<;>rfl
 ·rw[←hr,decide_eq_false h1];rfl
theorem TQ{m:ao}{c:cf}{k:Int}(h:dB m c=0):aB Empty.elim (J9 ai m c k) (iC m c k):=by
 unfold J9
 refine af.2 ⟨rfl,?_⟩
 rw[show ai.k s5 (m,k)=decide (0≤k∧k<dh m) from rfl]
 by_cases hk:0≤k∧k<dh m
 ·exact(aj (decide_eq_true hk)).2 (y9 (f:=id) h hk rfl fun e=>al e (.ret _))
 ·exact(ah (decide_eq_false hk)).2 (al (by rw[iC,decide_eq_false hk];rfl) (.ret _))
def C4:(ao×cf×Int)→Bool:=fun(m,c,k)=>iC m c k
def DG:(ao×cf×Int)→Bool:=fun(m,c,_)=>decide (dB m c=0)
def Vv:aA:=⟨[bC,jj,yI], [.bool],DG,C4⟩
theorem OO:Sd 253 Vv:=aD ax cm true 42 [] (fun A (m,c,mode)=>J9 A m c mode) (fc Tryz.func253 fz) (sc EM sz) fun((m,c,mode):ao×cf×Int) hp h=>TQ (of_decide_eq_true hp)
def L9(A:aZ)(m:ao)(c:cf)(mode:Int):LT Bool Empty:=.need (A.k (@tt ao) m) (.br (A.c .eql (A.k kM m) 0) (.need (A.k (@tt (ao×cf)) (m,c)) (.br (A.k su (m,c)) (.br (A.c .geq mode 0) (.br (A.c .lss mode (A.l m.2.2.2.2.2.2.2)) (.br (A.c .neq mode c.2.2.1) (.br (A.c .eql c.2.2.2.1 0) (.need (A.and (A.c .leq 0 c.2.2.1) (A.c .lss c.2.2.1 (A.l m.2.2.2.2.2.2.2))) (.need (A.and (A.c .leq 0 mode) (A.c .lss mode (A.l (A.n aP m.2.2.2.2.2.2.2 c.2.2.1:Mode).2.2))) (.ret (A.n .bool (A.n aP m.2.2.2.2.2.2.2 c.2.2.1:Mode).2.2 mode:Bool)))) (.ret false)) (.ret false)) (.ret false)) (.ret false)) (.ret false))) (.ret false))
theorem Nl{m:ao}{c:cf}{k:Int}:aB Empty.elim (L9 ai m c k) (decide (dB m c=0)&&iC m c k):=by
 unfold L9
 refine af.2 ⟨rfl,?_⟩
 rw[show ai.k kM m=fP m from rfl,fP]
 cases hm:dL m
 ·exact(ah rfl).2 (al (by rw[dB,hm];rfl) (.ret _))
 refine(aj rfl).2 (af.2 ⟨rfl,?_⟩)
 rw[show ai.k su (m,c)=eD m c from rfl]
 cases hf:eD m c
 ·exact(ah rfl).2 (al (by rw[dB,hm,hf];rfl) (.ret _))
 have h:=EB hm hf
 rw[decide_eq_true h,Bool.true_and]
 refine(aj rfl).2 (au (p:=0≤k) rfl (fun h1=>au (p:=k<dh m) rfl (fun h2=>y9 (f:=id) h ⟨h1,h2⟩ rfl fun e=>al e (.ret _)) fun h2=>?_) fun h1=>?_)
 ·exact al (by rw[iC,decide_eq_false (by omega)];rfl) (.ret _)
 ·exact al (by rw[iC,decide_eq_false (by omega)];rfl) (.ret _)
def xS:(ao×cf×Int)→Bool:=fun(m,c,k)=>decide (dB m c=0)&&iC m c k
def Ve:aA:=⟨[bC,jj,yI], [.bool],(@tt (ao×cf×Int)),xS⟩
theorem JE:Sd 222 Ve:=aD ax cm true 58 [] (fun A (m,c,mode)=>L9 A m c mode) (fc Tryz.func222 fz) (sc A1 (sc FW sz)) fun(m,c,mode) hp h=>Nl
structure FF where
 (a0:Int) (a2:ao) (a3:cf) (a4:Int) (a5:ao) (a6:cf) (a7:ao) (a8:cf) (a9:Int) (bW:ao) (dM:Int) (a12:cf)
inductive Hd where
 | c0 (p:FF) (a1:Int)
noncomputable def L3:Hd→fJ
 | .c0 p a1=>⟨[⟨252,26,(en [(0,.yield 0),(1,.ptr 1 0),(2,.ptr 2 0),(11,vi p.a0),(12,vi a1)]),[.inLoop (cw Tryz.f252 [1,1,0,0]),.inBlock 0],[],none⟩,⟨212,16,(en [(6,.ptr 3 0)]),[.iV 0,.inBlock 0,.code (cw Tryz.f212 [1,1])],[4],none⟩],[.loop ⟨212,16,(en [(0,.agg [vi p.a2.1,vi p.a2.2.1,vi p.a2.2.2.1,vi p.a2.2.2.2.1,vi p.a2.2.2.2.2.1,vi p.a2.2.2.2.2.2.1,.sl .bool p.a2.2.2.2.2.2.2.1,.sl aP p.a2.2.2.2.2.2.2.2]),(1,.agg [vi p.a3.1,vi p.a3.2.1,vi p.a3.2.2.1,vi p.a3.2.2.2.1,vi p.a3.2.2.2.2]),(2,vi p.a4),(3,.ptr 5 0),(4,.ptr 7 0),(5,.ptr 6 0),(6,.ptr 3 0),(8,.agg [vi p.a5.1,vi p.a5.2.1,vi p.a5.2.2.1,vi p.a5.2.2.2.1,vi p.a5.2.2.2.2.1,vi p.a5.2.2.2.2.2.1,.sl .bool p.a5.2.2.2.2.2.2.1,.sl aP p.a5.2.2.2.2.2.2.2]),(9,.agg [vi p.a6.1,vi p.a6.2.1,vi p.a6.2.2.1,vi p.a6.2.2.2.1,vi p.a6.2.2.2.2]),(10,.fn 252 [] [.ptr 1 0,.ptr 2 0])]),[11],(cw Tryz.f212 [1,0,1,0,0]),(cw Tryz.f212 [1,0,1,0,1]),0,none⟩,.flat false [vi p.a7.1,vi p.a7.2.1,vi p.a7.2.2.1,vi p.a7.2.2.2.1,vi p.a7.2.2.2.2.1,vi p.a7.2.2.2.2.2.1,.sl .bool p.a7.2.2.2.2.2.2.1,.sl aP p.a7.2.2.2.2.2.2.2],.flat false [vi p.a8.1,vi p.a8.2.1,vi p.a8.2.2.1,vi p.a8.2.2.2.1,vi p.a8.2.2.2.2],.flat false [vi p.a9],.A4,.flat false [vi p.bW.1,vi p.bW.2.1,vi p.bW.2.2.1,vi p.bW.2.2.2.1,vi p.bW.2.2.2.2.1,vi p.bW.2.2.2.2.2.1,.sl .bool p.bW.2.2.2.2.2.2.1,.sl aP p.bW.2.2.2.2.2.2.2],.flat false [vi p.dM],.flat false [vi p.a12.1,vi p.a12.2.1,vi p.a12.2.2.1,vi p.a12.2.2.2.1,vi p.a12.2.2.2.2],.dead]⟩
def Mn(A:aZ)(m:ao)(c:cf)(mode:Int):LT Int Hd:=.need (A.k (@tt (ao×cf)) (m,c)) (.br (A.c .neq (A.k oG (m,c)) 0) (.ret (-1)) (.more (.c0 ⟨(A.l m.2.2.2.2.2.2.2),m,c,mode,m,c,m,c,0,m,mode,c⟩ 0)))
def Ez(A:aZ):Hd→LT Int Hd
 | .c0 p a1=>.br (A.c .lss a1 p.a0) (.need (A.k DG (p.a7,p.a8,a1)) (.br (A.k C4 (p.a7,p.a8,a1)) (.br (A.c .eql a1 p.dM) (.ret a1) (.more (.c0 p (A.b .add .i64 a1 1)))) (.more (.c0 p (A.b .add .i64 a1 1))))) (.ret (-1))
def zA(m:ao)(c:cf)(k:Int):Int:=bif decide (dB m c=0)&&iC m c k then k else -1
theorem C5{p:FF}{m:ao}{c:cf}{k:Int}(h0:p.a0=dh m)(h7:p.a7=m)(h8:p.a8=c)(h11:p.dM=k)(h:dB m c=0):∀(j i:Nat),m.2.2.2.2.2.2.2.length-i=j→i≤m.2.2.2.2.2.2.2.length→aB (Ez ai) (.more (.c0 p (i:Int))) (bif decide ((i:Int)≤k)&&iC m c k then k else -1):=by
 have hl:=(eT (iY h).1).2.1
 unfold dh at hl h0
 intro j
 induction j with
 | zero=>
  intro i hj hi
  rw[ak,Ez,h0]
  refine(ah (by rw[ar];exact decide_eq_false (by omega))).2 (al ?_ (.ret _))
  by_cases hk:(i:Int)≤k
  ·rw[iC,decide_eq_false (show ¬(0≤k∧k<dh m) by unfold dh;omega),Bool.false_and,Bool.and_false];rfl
  ·rw[decide_eq_false hk];rfl
 | succ j ih=>
  intro i hj hi
  rw[ak,Ez,h0,h7,h8,h11]
  refine(aj (by rw[ar];exact decide_eq_true (by omega))).2 (af.2 ⟨by rw[ap];exact decide_eq_true h,?_⟩)
  rw[show ai.k C4 (m,c,(i:Int))=iC m c i from rfl,cy (i:=i) (by omega)]
  have hn:=ih (i+1) (by omega) (by omega)
  cases hm:iC m c i
  ·refine(ah rfl).2 (al ?_ hn)
   by_cases hk:(i:Int)=k
   ·rw[←hk,hm,Bool.and_false,Bool.and_false]
   ·rw[show decide (((i+1:Nat):Int)≤k)=decide ((i:Int)≤k) by rw[Bool.eq_iff_iff];simp;omega]
  ·refine(aj rfl).2 (au (p:=(i:Int)=k) aO (fun hk=>?_) fun hk=>?_)
   ·exact al (by rw[←hk,hm,decide_eq_true (Int.le_refl _)];rfl) (.ret _)
   ·exact al (by rw[show decide (((i+1:Nat):Int)≤k)=decide ((i:Int)≤k) by rw[Bool.eq_iff_iff];simp;omega]) hn
theorem V_{m:ao}{c:cf}{k:Int}:aB (Ez ai) (Mn ai m c k) (zA m c k):=by
 unfold Mn zA
 refine af.2 ⟨rfl,?_⟩
 rw[show ai.k oG (m,c)=dB m c from rfl]
 by_cases h:dB m c=0
 ·rw[decide_eq_true h]
  refine(ah (lk h)).2 (al ?_ (C5 (p:=⟨dh m,m,c,k,m,c,m,c,0,m,k,c⟩) (k:=k) rfl rfl rfl rfl h m.2.2.2.2.2.2.2.length 0 rfl (by omega)))
  by_cases hk:0≤k
  ·rw[show decide (((0:Nat):Int)≤k)=true from decide_eq_true hk]
  ·rw[iC,decide_eq_false (show ¬(0≤k∧k<dh m) by omega),Bool.false_and,Bool.and_false,Bool.and_false]
 ·rw[decide_eq_false h]
  exact(aj (jS h)).2 (.ret _)
def vl:(ao×cf×Int)→Int:=fun(m,c,k)=>zA m c k
def TJ:aA:=⟨[bC,jj,yI], [yI],(@tt (ao×cf×Int)),vl⟩
theorem JI:Sd 212 TJ:=aH ax cm true 53 [⟨252,2, [[0,1,2,11,12], [6]]⟩] [] (fun A (m,c,mode)=>Mn A m c mode) Ez L3 (fc Tryz.func212 (fc Tryz.func238 (fc Tryz.func252 fz))) (sc C8 (sc OO sz)) (fun A y=>match y with |.c0 p a1=>⟨55,by kernel_rfl,by kernel_rfl⟩) fun(m,c,mode) hp h=>V_
def LD(A:aZ)(m:ao)(c:cf)(want:Int):LT (Int×Int) Empty:=.need (A.k (@tt (ao×cf)) (m,c)) (.br (A.c .neq (A.k oG (m,c)) 0) (.ret (0,(A.k oG (m,c)))) (.br (A.c .neq want (-1)) (.need (A.k (@tt (ao×Int)) (m,want)) (.br (A.not (A.k s5 (m,want))) (.ret (0,100)) (.br (A.c .lss want 0) (.ret (0,0)) (.need (A.k (@tt (ao×cf×Int)) (m,c,want)) (.ret ((A.b .add .i64 (A.k vl (m,c,want)) 1),0)))))) (.br (A.c .lss want 0) (.ret (0,0)) (.need (A.k (@tt (ao×cf×Int)) (m,c,want)) (.ret ((A.b .add .i64 (A.k vl (m,c,want)) 1),0))))))
def kL(m:ao)(c:cf)(w:Int):Int×Int:=bif decide (dB m c=0) then(bif decide (-1≤w∧w<dh m) then(bif iC m c w then(w+1,0) else(0,0)) else(0,100)) else(0,dB m c)
theorem KT{m:ao}{c:cf}{w:Int}(h:¬(0≤w∧w<dh m)):iC m c w=false:=by rw[iC,decide_eq_false h];rfl
theorem QG{m:ao}{c:cf}{w:Int}:aB Empty.elim (LD ai m c w) (kL m c w):=by
 unfold LD kL
 refine af.2 ⟨rfl,?_⟩
 rw[show ai.k oG (m,c)=dB m c from rfl,show ai.k s5 (m,w)=decide (0≤w∧w<dh m) from rfl,show ai.k vl (m,c,w)=zA m c w from rfl]
 by_cases h:dB m c=0
 ·have hl:=(eT (iY h).1).2.1
  rw[decide_eq_true h]
  refine(ah (lk h)).2 (au (p:=¬w = -1) aY (fun h1=>af.2 ⟨rfl,?_⟩) fun h1=>?_)
  ·by_cases h2:0≤w∧w<dh m
   ·rw[decide_eq_true h2,decide_eq_true (show -1≤w∧w<dh m by omega)]
    refine(ah rfl).2 ((ah (by rw[ar];exact decide_eq_false (by omega))).2 (af.2 ⟨rfl,al ?_ (.ret _)⟩))
    rw[zA,decide_eq_true h]
    cases iC m c w
    ·rfl
    ·rw[Bool.true_and,cond_true,cond_true,cond_true,cond_true,bH,fQ (by omega) (by omega)]
   ·rw[decide_eq_false h2,decide_eq_false (show ¬(-1≤w∧w<dh m) by omega)]
    exact(aj rfl).2 (.ret _)
  ·have h2:w = -1:=by omega
   subst h2
   rw[KT (by omega),decide_eq_true (show(-1:Int)≤ -1∧ -1<dh m by omega)]
   exact(aj rfl).2 (.ret _)
 ·rw[decide_eq_false h]
  exact(aj (jS h)).2 (.ret _)
def yQ:(ao×cf×Int)→(Int×Int):=fun(m,c,k)=>kL m c k
def Uv:aA:=⟨[bC,jj,yI], [yI,yI],(@tt (ao×cf×Int)),yQ⟩
theorem Tj:Sd 179 Uv:=aD ax cm true 60 [] (fun A (m,c,want)=>LD A m c want) (fc Tryz.func179 fz) (sc C8 (sc JI (sc EM sz))) fun(m,c,want) hp h=>QG
def M7(A:aZ)(m:ao)(c:cf)(want:Int):LT (Int×Int) Empty:=.need (A.k (@tt (ao×cf)) (m,c)) (.br (A.c .neq (A.k sF (m,c)) 0) (.ret (0,(A.k sF (m,c)))) (.br (A.c .lss want (-1)) (.ret (0,100)) (.br (A.c .geq want (A.l m.2.2.2.2.2.2.2)) (.ret (0,100)) (.need (A.k (@tt (ao×cf×Int)) (m,c,want)) (.br (A.k xS (m,c,want)) (.ret ((A.b .add .i64 want 1),0)) (.ret (0,0)))))))
theorem Li{m:ao}{c:cf}{w:Int}:aB Empty.elim (M7 ai m c w) (kL m c w):=by
 unfold M7 kL
 refine af.2 ⟨rfl,?_⟩
 rw[show ai.k sF (m,c)=dB m c from rfl,show ai.k xS (m,c,w)=(decide (dB m c=0)&&iC m c w) from rfl]
 by_cases h:dB m c=0
 ·have hl:=(eT (iY h).1).2.1
  rw[decide_eq_true h,Bool.true_and]
  refine(ah (lk h)).2 (au (p:=w < -1) rfl (fun h1=>?_) fun h1=>au (p:=dh m≤w) rfl (fun h2=>?_) fun h2=>af.2 ⟨rfl,?_⟩)
  ·exact al (by rw[decide_eq_false (by omega)];rfl) (.ret _)
  ·exact al (by rw[decide_eq_false (by omega)];rfl) (.ret _)
  ·rw[decide_eq_true (show -1≤w∧w<dh m by omega)]
   cases iC m c w
   ·exact(ah rfl).2 (.ret _)
   ·exact(aj rfl).2 (al (by rw[cond_true,cond_true,cond_true,bH,fQ (by omega) (by omega)]) (.ret _))
 ·rw[decide_eq_false h]
  exact(aj (jS h)).2 (.ret _)
def yy:(ao×cf×Int)→(Int×Int):=fun(m,c,k)=>kL m c k
def Rs:aA:=⟨[bC,jj,yI], [yI,yI],(@tt (ao×cf×Int)),yy⟩
theorem Rx:Sd 183 Rs:=aD ax cm true 59 [] (fun A (m,c,want)=>M7 A m c want) (fc Tryz.func183 fz) (sc Jx (sc JE sz)) fun(m,c,want) hp h=>Li
def KL(A:aZ)(m:ao)(c:cf)(req:Int):LT (cf×Int) Empty:=.need (A.k (@tt (ao×cf)) (m,c)) (.br (A.c .neq (A.k oG (m,c)) 0) (.ret ((0,0,0,0,0),(A.k oG (m,c)))) (.br (A.c .lss req 0) (.ret ((0,0,0,0,0),100)) (.br (A.c .gtr req (A.l m.2.2.2.2.2.2.2)) (.ret ((0,0,0,0,0),100)) (.br (A.c .gtr req 0) (.need (A.k (@tt (ao×cf×Int)) (m,c,(A.b .sub .i64 req 1))) (.br (A.c .geq (A.k vl (m,c,(A.b .sub .i64 req 1))) 0) (.ret ((c.1,c.2.1,c.2.2.1,req,c.2.2.2.2),0)) (.ret (c,0)))) (.ret (c,0))))))
def pn(m:ao)(c:cf)(r:Int):cf×Int:=bif decide (dB m c=0) then(bif decide (0≤r∧r≤dh m) then(bif decide (0<r)&&iC m c (r-1) then((c.1,c.2.1,c.2.2.1,r,c.2.2.2.2),0) else(c,0)) else((0,0,0,0,0),100)) else((0,0,0,0,0),dB m c)
theorem Xu{m:ao}{c:cf}{r:Int}:aB Empty.elim (KL ai m c r) (pn m c r):=by
 unfold KL pn
 refine af.2 ⟨rfl,?_⟩
 rw[show ai.k oG (m,c)=dB m c from rfl,show ai.k vl (m,c,(ai.b .sub .i64 r 1))=zA m c (ai.b .sub .i64 r 1) from rfl]
 by_cases h:dB m c=0
 ·have hl:=(eT (iY h).1).2.1
  rw[decide_eq_true h]
  refine(ah (lk h)).2 (au (p:=r<0) rfl (fun h1=>?_) fun h1=>au (p:=dh m<r) rfl (fun h2=>?_) fun h2=>?_)
  ·exact al (by rw[decide_eq_false (by omega)];rfl) (.ret _)
  ·exact al (by rw[decide_eq_false (by omega)];rfl) (.ret _)
  ·rw[decide_eq_true (show 0≤r∧r≤dh m by omega),bl,fQ (by omega) (by omega)]
   refine au (p:=0<r) rfl (fun h3=>af.2 ⟨rfl,?_⟩) fun h3=>?_
   ·rw[decide_eq_true h3,zA,decide_eq_true h,Bool.true_and]
    cases hm:iC m c (r-1)
    ·exact(ah rfl).2 (.ret _)
    ·exact(aj (by rw[cond_true,aN];exact decide_eq_true (by omega))).2 (.ret _)
   ·exact al (by rw[decide_eq_false h3];rfl) (.ret _)
 ·rw[decide_eq_false h]
  exact(aj (jS h)).2 (.ret _)
def q9:(ao×cf×Int)→(cf×Int):=fun(m,c,k)=>pn m c k
def VJ:aA:=⟨[bC,jj,yI], [jj,yI],(@tt (ao×cf×Int)),q9⟩
theorem JL:Sd 167 VJ:=aD ax cm true 69 [] (fun A (m,c,req)=>KL A m c req) (fc Tryz.func167 fz) (sc C8 (sc JI sz)) fun(m,c,req) hp h=>Xu
def L6(A:aZ)(m:ao)(c:cf)(req:Int):LT (cf×Int) Empty:=.need (A.k (@tt (ao×cf)) (m,c)) (.br (A.c .neq (A.k sF (m,c)) 0) (.ret ((0,0,0,0,0),(A.k sF (m,c)))) (.br (A.c .lss req 0) (.ret ((0,0,0,0,0),100)) (.br (A.c .gtr req (A.l m.2.2.2.2.2.2.2)) (.ret ((0,0,0,0,0),100)) (.br (A.c .gtr req 0) (.need (A.k (@tt (ao×cf×Int)) (m,c,(A.b .sub .i64 req 1))) (.br (A.k xS (m,c,(A.b .sub .i64 req 1))) (.ret ((c.1,c.2.1,c.2.2.1,req,c.2.2.2.2),0)) (.ret (c,0)))) (.ret (c,0))))))
theorem RD{m:ao}{c:cf}{r:Int}:aB Empty.elim (L6 ai m c r) (pn m c r):=by
 unfold L6 pn
 refine af.2 ⟨rfl,?_⟩
 rw[show ai.k sF (m,c)=dB m c from rfl,show ai.k xS (m,c,(ai.b .sub .i64 r 1))=(decide (dB m c=0)&&iC m c (ai.b .sub .i64 r 1)) from rfl]
 by_cases h:dB m c=0
 ·have hl:=(eT (iY h).1).2.1
  rw[decide_eq_true h,Bool.true_and]
  refine(ah (lk h)).2 (au (p:=r<0) rfl (fun h1=>?_) fun h1=>au (p:=dh m<r) rfl (fun h2=>?_) fun h2=>?_)
  ·exact al (by rw[decide_eq_false (by omega)];rfl) (.ret _)
  ·exact al (by rw[decide_eq_false (by omega)];rfl) (.ret _)
  ·rw[decide_eq_true (show 0≤r∧r≤dh m by omega),bl,fQ (by omega) (by omega)]
   refine au (p:=0<r) rfl (fun h3=>af.2 ⟨rfl,?_⟩) fun h3=>?_
   ·rw[decide_eq_true h3,Bool.true_and]
    cases hm:iC m c (r-1)
    ·exact(ah rfl).2 (.ret _)
    ·exact(aj rfl).2 (.ret _)
   ·exact al (by rw[decide_eq_false h3];rfl) (.ret _)
 ·rw[decide_eq_false h]
  exact(aj (jS h)).2 (.ret _)
def Dc:(ao×cf×Int)→(cf×Int):=fun(m,c,k)=>pn m c k
def O2:aA:=⟨[bC,jj,yI], [jj,yI],(@tt (ao×cf×Int)),Dc⟩
theorem Qe:Sd 185 O2:=aD ax cm true 68 [] (fun A (m,c,req)=>L6 A m c req) (fc Tryz.func185 fz) (sc Jx (sc JE sz)) fun(m,c,req) hp h=>RD
open Go.Ev.Pl
def Nj(A:aZ)(m:ao)(node:Int):LT Int Empty:=.need (A.k (@tt ao) m) (.br (A.c .neq (A.k j4 m) 0) (.ret (A.k j4 m)) (.need (A.k (@tt (Int×Int×Int)) (node,0,(A.b .sub .i64 m.1 1))) (.br (A.not (A.k dD (node,0,(A.b .sub .i64 m.1 1)))) (.ret 2) (.ret 0))))
theorem ib{α:Type}{l:List α}{i n:Int}(e:(l.length:Int)=n)(h0:0≤i)(h1:i<n):ai.and (ai.c .leq 0 i) (ai.c .lss i (ai.l l))=true:=jB h0 (e▸h1)
def fw(m:ao)(n:Int):Int:=bif dL m then(bif decide (0≤n∧n≤m.1-1) then 0 else 2) else 70
theorem pW{m:ao}{n:Int}(h:fw m n=0):dL m=true∧0≤n∧n≤m.1-1:=by
 unfold fw at h
 cases hm:dL m
 ·rw[hm,cond_false] at h;exact absurd h (by decide)
 ·by_cases hn:0≤n∧n≤m.1-1
  ·exact⟨rfl,hn⟩
  ·rw[hm,decide_eq_false hn,cond_true,cond_false] at h;exact absurd h (by decide)
theorem KS{m:ao}{n:Int}:aB Empty.elim (Nj ai m n) (fw m n):=by
 unfold Nj fw
 refine af.2 ⟨rfl,?_⟩
 rw[show ai.k j4 m=fP m from rfl,fP]
 cases hm:dL m
 ·exact(aj rfl).2 (.ret _)
 have hl:=(eT hm).1
 rw[bl,fQ (by omega) (by omega)]
 refine(ah rfl).2 (af.2 ⟨rfl,dT (fun h=>?_) fun h=>?_⟩)
 ·exact al (by rw[decide_eq_false h];rfl) (.ret _)
 ·exact al (by rw[decide_eq_true h];rfl) (.ret _)
def vC:(ao×Int)→Int:=fun(m,n)=>fw m n
def R9:aA:=⟨[bC,yI], [yI],(@tt (ao×Int)),vC⟩
theorem JH:Sd 186 R9:=aD ax cm true 41 [] (fun A (m,node)=>Nj A m node) (fc Tryz.func186 fz) (sc Ba (sc xX sz)) fun(m,node) hp h=>KS
def Nv(A:aZ)(m:ao)(n:Int):LT Int Empty:=.need (A.k (@tt ao) m) (.br (A.c .neq (A.k kM m) 0) (.ret (A.k kM m)) (.br (A.c .lss n 0) (.ret 2) (.br (A.c .geq n m.1) (.ret 2) (.ret 0))))
theorem Nm{m:ao}{n:Int}:aB Empty.elim (Nv ai m n) (fw m n):=by
 unfold Nv fw
 refine af.2 ⟨rfl,?_⟩
 rw[show ai.k kM m=fP m from rfl,fP]
 cases hm:dL m
 ·exact(aj rfl).2 (.ret _)
 refine(ah rfl).2 (au (p:=n<0) rfl (fun h=>?_) fun h1=>au (p:=m.1≤n) rfl (fun h=>?_) fun h2=>?_)
 ·exact al (by rw[decide_eq_false (by omega)];rfl) (.ret _)
 ·exact al (by rw[decide_eq_false (by omega)];rfl) (.ret _)
 ·exact al (by rw[decide_eq_true (by omega)];rfl) (.ret _)
def qw:(ao×Int)→Int:=fun(m,n)=>fw m n
def SH:aA:=⟨[bC,yI], [yI],(@tt (ao×Int)),qw⟩
theorem EQ:Sd 155 SH:=aD ax cm true 43 [] (fun A (m,n)=>Nv A m n) (fc Tryz.func155 fz) (sc A1 sz) fun(m,n) hp h=>Nm
def Nq(A:aZ)(m:ao)(node:Int):LT (Int×Int) Empty:=.need (A.k (@tt (ao×Int)) (m,node)) (.br (A.c .neq (A.k vC (m,node)) 0) (.ret (0,(A.k vC (m,node)))) (.ret ((A.b .mul .i64 2 (A.b .add .i64 node 1)),0)))
def u6(m:ao)(n:Int):Int×Int:=bif decide (fw m n=0) then((ai.b .mul .i64 2 (ai.b .add .i64 n 1)),0) else(0,fw m n)
theorem Je{m:ao}{n:Int}:aB Empty.elim (Nq ai m n) (u6 m n):=by
 unfold Nq u6
 refine af.2 ⟨rfl,au (p:=¬fw m n=0) aY (fun h=>?_) fun h=>?_⟩
 ·exact al (by rw[decide_eq_false h];rfl) (.ret _)
 ·exact al (by rw[decide_eq_true (by omega)];rfl) (.ret _)
def vo:(ao×Int)→(Int×Int):=fun(m,n)=>u6 m n
def R8:aA:=⟨[bC,yI], [yI,yI],(@tt (ao×Int)),vo⟩
theorem JW:Sd 125 R8:=aD ax cm true 35 [] (fun A (m,node)=>Nq A m node) (fc Tryz.func125 fz) (sc JH sz) fun(m,node) hp h=>Je
def Rw(A:aZ)(m:ao)(n:Int):LT (Int×Int) Empty:=.need (A.k (@tt (ao×Int)) (m,n)) (.br (A.c .neq (A.k qw (m,n)) 0) (.ret (0,(A.k qw (m,n)))) (.ret ((A.b .mul .i64 2 (A.b .add .i64 n 1)),0)))
theorem Qc{m:ao}{n:Int}:aB Empty.elim (Rw ai m n) (u6 m n):=Je
def Bc:(ao×Int)→(Int×Int):=fun(m,n)=>u6 m n
def Qm:aA:=⟨[bC,yI], [yI,yI],(@tt (ao×Int)),Bc⟩
theorem Qr:Sd 115 Qm:=aD ax cm true 35 [] (fun A (m,n)=>Rw A m n) (fc Tryz.func115 fz) (sc EQ sz) fun(m,n) hp h=>Qc
def MN(A:aZ)(m:ao)(n:Int):LT (Int×Int) Empty:=.need (A.k (@tt (ao×Int)) (m,n)) (.br (A.c .neq (A.k qw (m,n)) 0) (.ret (0,(A.k qw (m,n)))) (.ret ((A.b .add .i64 (A.b .mul .i64 4 m.1) (A.b .mul .i64 2 (A.b .add .i64 n 1))),0)))
def l5(m:ao)(n:Int):Int×Int:=bif decide (fw m n=0) then((ai.b .add .i64 (ai.b .mul .i64 4 m.1) (ai.b .mul .i64 2 (ai.b .add .i64 n 1))),0) else(0,fw m n)
theorem UW{m:ao}{n:Int}:aB Empty.elim (MN ai m n) (l5 m n):=by
 unfold MN l5
 refine af.2 ⟨rfl,au (p:=¬fw m n=0) aY (fun h=>?_) fun h=>?_⟩
 ·exact al (by rw[decide_eq_false h];rfl) (.ret _)
 ·exact al (by rw[decide_eq_true (by omega)];rfl) (.ret _)
def tW:(ao×Int)→(Int×Int):=fun(m,n)=>l5 m n
def Ud:aA:=⟨[bC,yI], [yI,yI],(@tt (ao×Int)),tW⟩
theorem Gp:Sd 78 Ud:=aD ax cm true 39 [] (fun A (m,n)=>MN A m n) (fc Tryz.func78 fz) (sc EQ sz) fun(m,n) hp h=>UW
def MP(A:aZ)(m:ao)(node:Int):LT (Int×Int) Empty:=.need (A.k (@tt (ao×Int)) (m,node)) (.br (A.c .neq (A.k vo (m,node)).2 0) (.ret (0,(A.k vo (m,node)).2)) (.ret ((A.b .add .i64 (A.b .mul .i64 4 m.1) (A.k vo (m,node)).1),0)))
theorem UT{m:ao}{n:Int}:aB Empty.elim (MP ai m n) (l5 m n):=by
 unfold MP l5
 refine af.2 ⟨rfl,?_⟩
 rw[show ai.k vo (m,n)=u6 m n from rfl,u6]
 by_cases h:fw m n=0
 ·rw[decide_eq_true h];exact(ah rfl).2 (.ret _)
 ·rw[decide_eq_false h];exact(aj (jS h)).2 (.ret _)
def Jk:(ao×Int)→(Int×Int):=fun(m,n)=>l5 m n
def QF:aA:=⟨[bC,yI], [yI,yI],(@tt (ao×Int)),Jk⟩
theorem UA:Sd 93 QF:=aD ax cm true 41 [] (fun A (m,node)=>MP A m node) (fc Tryz.func93 fz) (sc JW sz) fun(m,node) hp h=>UT
def NL(A:aZ)(m:ao)(mode:Int)(node:Int):LT (Int×Int) Empty:=.need (A.k (@tt (ao×Int)) (m,node)) (.br (A.c .neq (A.k vC (m,node)) 0) (.ret (0,(A.k vC (m,node)))) (.need (A.k (@tt (Int×Int×Int)) (mode,0,(A.b .sub .i64 (A.l m.2.2.2.2.2.2.2) 1))) (.br (A.not (A.k dD (mode,0,(A.b .sub .i64 (A.l m.2.2.2.2.2.2.2) 1)))) (.ret (0,2)) (.need (A.and (A.c .leq 0 mode) (A.c .lss mode (A.l m.2.2.2.2.2.2.2))) (.need (A.and (A.c .leq 0 node) (A.c .lss node (A.l (A.n aP m.2.2.2.2.2.2.2 mode:Mode).2.1))) (.need (A.and (A.c .leq 0 node) (A.c .lss node (A.l (A.n aP m.2.2.2.2.2.2.2 mode:Mode).1))) (.need (A.k (@tt (Bool×Int)) ((A.n .bool (A.n aP m.2.2.2.2.2.2.2 mode:Mode).2.1 node:Bool),(A.n yI (A.n aP m.2.2.2.2.2.2.2 mode:Mode).1 node:Int))) (.ret ((A.k iO ((A.n .bool (A.n aP m.2.2.2.2.2.2.2 mode:Mode).2.1 node:Bool),(A.n yI (A.n aP m.2.2.2.2.2.2.2 mode:Mode).1 node:Int))),0)))))))))
def dn(m:ao)(k n:Int):Int×Int:=bif decide (fw m n=0) then(bif decide (0≤k∧k≤dh m-1) then(iO ((ai.n .bool (ai.n aP m.2.2.2.2.2.2.2 k:Mode).2.1 n:Bool),(ai.n (.int .i64) (ai.n aP m.2.2.2.2.2.2.2 k:Mode).1 n:Int)),0) else(0,2)) else(0,fw m n)
theorem LU{m:ao}{k n:Int}:aB Empty.elim (NL ai m k n) (dn m k n):=by
 unfold NL dn
 refine af.2 ⟨rfl,?_⟩
 rw[show ai.k vC (m,n)=fw m n from rfl]
 by_cases h:fw m n=0
 ·obtain⟨hm,h1,h2⟩:=pW h
  have hl:=(eT hm).2.1
  rw[decide_eq_true h]
  have e:ai.b .sub .i64 (dh m) 1=dh m-1:=by rw[bl,fQ (by omega) (by omega)]
  rw[show ai.b .sub .i64 (ai.l m.2.2.2.2.2.2.2) 1=dh m-1 from e]
  refine(ah (lk h)).2 (af.2 ⟨rfl,dT (fun h3=>?_) fun h3=>?_⟩)
  ·exact al (by rw[decide_eq_false h3];rfl) (.ret _)
  ·have hx:=gM (kF hm h3.1 (show k<dh m by omega))
   refine af.2 ⟨jB h3.1 (show k<dh m by omega),af.2 ⟨ib hx.2.1 h1 (by omega),af.2 ⟨ib hx.1 h1 (by omega),af.2 ⟨rfl,?_⟩⟩⟩⟩
   exact al (by rw[decide_eq_true h3];rfl) (.ret _)
 ·rw[decide_eq_false h];exact(aj (jS h)).2 (.ret _)
def gE:(ao×Int×Int)→(Int×Int):=fun(m,c,k)=>dn m c k
def O6:aA:=⟨[bC,yI,yI], [yI,yI],(@tt (ao×Int×Int)),gE⟩
theorem JG:Sd 162 O6:=aD ax cm true 66 [] (fun A (m,mode,node)=>NL A m mode node) (fc Tryz.func162 fz) (sc xX (sc Ju (sc JH sz))) fun(m,mode,node) hp h=>LU
def LK(A:aZ)(m:ao)(mode:Int)(n:Int):LT (Int×Int) Empty:=.need (A.k (@tt (ao×Int)) (m,n)) (.br (A.c .neq (A.k qw (m,n)) 0) (.ret (0,(A.k qw (m,n)))) (.br (A.c .lss mode 0) (.ret (0,2)) (.br (A.c .geq mode (A.l m.2.2.2.2.2.2.2)) (.ret (0,2)) (.need (A.and (A.c .leq 0 mode) (A.c .lss mode (A.l m.2.2.2.2.2.2.2))) (.need (A.and (A.c .leq 0 n) (A.c .lss n (A.l (A.n aP m.2.2.2.2.2.2.2 mode:Mode).2.1))) (.need (A.and (A.c .leq 0 n) (A.c .lss n (A.l (A.n aP m.2.2.2.2.2.2.2 mode:Mode).1))) (.need (A.k (@tt (Bool×Int)) ((A.n .bool (A.n aP m.2.2.2.2.2.2.2 mode:Mode).2.1 n:Bool),(A.n yI (A.n aP m.2.2.2.2.2.2.2 mode:Mode).1 n:Int))) (.ret ((A.k sr ((A.n .bool (A.n aP m.2.2.2.2.2.2.2 mode:Mode).2.1 n:Bool),(A.n yI (A.n aP m.2.2.2.2.2.2.2 mode:Mode).1 n:Int))),0)))))))))
theorem Mb{m:ao}{k n:Int}:aB Empty.elim (LK ai m k n) (dn m k n):=by
 unfold LK dn
 refine af.2 ⟨rfl,?_⟩
 rw[show ai.k qw (m,n)=fw m n from rfl]
 by_cases h:fw m n=0
 ·obtain⟨hm,h1,h2⟩:=pW h
  have hl:=(eT hm).2.1
  rw[decide_eq_true h]
  refine(ah (lk h)).2 (au (p:=k<0) rfl (fun h3=>?_) fun h3=>au (p:=dh m≤k) rfl (fun h4=>?_) fun h4=>?_)
  ·exact al (by rw[decide_eq_false (by omega)];rfl) (.ret _)
  ·exact al (by rw[decide_eq_false (by omega)];rfl) (.ret _)
  ·have h5:0≤k∧k≤dh m-1:=by omega
   have hx:=gM (kF hm h5.1 (show k<dh m by omega))
   refine af.2 ⟨jB h5.1 (show k<dh m by omega),af.2 ⟨ib hx.2.1 h1 (by omega),af.2 ⟨ib hx.1 h1 (by omega),af.2 ⟨rfl,?_⟩⟩⟩⟩
   exact al (by rw[decide_eq_true h5];rfl) (.ret _)
 ·rw[decide_eq_false h];exact(aj (jS h)).2 (.ret _)
def qD:(ao×Int×Int)→(Int×Int):=fun(m,c,k)=>dn m c k
def VF:aA:=⟨[bC,yI,yI], [yI,yI],(@tt (ao×Int×Int)),qD⟩
theorem O_:Sd 171 VF:=aD ax cm true 68 [] (fun A (m,mode,n)=>LK A m mode n) (fc Tryz.func171 fz) (sc JU (sc EQ sz)) fun(m,mode,n) hp h=>Mb
def ME(A:aZ)(c:cf)(n:Int):LT (cf×Int) Empty:=.need (A.k (@tt ((Int×Int×Int×Int×Int)×Int)) (c,n)) (.br (A.c .neq (A.k lq (c,n)) 0) (.ret ((0,0,0,0,0),(A.k lq (c,n)))) (.br (A.c .eql (A.b .add .i64 c.2.1 1) n) (.br (A.c .neq c.2.2.2.1 0) (.ret (((A.b .and .i64 (A.b .add .i64 c.1 1) 255),0,(A.b .sub .i64 c.2.2.2.1 1),0,c.2.2.2.2),0)) (.ret (((A.b .and .i64 (A.b .add .i64 c.1 1) 255),0,c.2.2),0))) (.ret ((c.1,(A.b .add .i64 c.2.1 1),c.2.2),0))))
theorem Ki:∀k:Fin 256,ai.b .and .i64 ((k.val:Int)+1) 255=((k.val:Int)+1).tmod 256:=by decide +kernel
def iM(c:cf)(n:Int):cf×Int:=bif decide (iB (c,n)=0) then(bif decide (c.2.1+1=n) then(bif decide (c.2.2.2.1=0) then(((c.1+1).tmod 256,0,c.2.2),0) else(((c.1+1).tmod 256,0,c.2.2.2.1-1,0,c.2.2.2.2),0)) else((c.1,c.2.1+1,c.2.2),0)) else((0,0,0,0,0),iB (c,n))
theorem Ms{c:cf}{n:Int}:aB Empty.elim (ME ai c n) (iM c n):=by
 unfold ME iM
 refine af.2 ⟨rfl,?_⟩
 rw[show ai.k lq (c,n)=iB (c,n) from rfl]
 by_cases h:iB (c,n)=0
 ·obtain⟨h1,h2,h3,h4,h5,h6⟩:=rU h
  have e1:ai.b .add .i64 c.1 1=c.1+1:=by rw[bH,fQ (by omega) (by omega)]
  have e2:ai.b .add .i64 c.2.1 1=c.2.1+1:=by rw[bH,fQ (by omega) (by omega)]
  have e3:ai.b .sub .i64 c.2.2.2.1 1=c.2.2.2.1-1:=by rw[bl,fQ (by omega) (by omega)]
  have e4:ai.b .and .i64 (c.1+1) 255=(c.1+1).tmod 256:=by
   have:=Ki ⟨c.1.toNat,by omega⟩
   rwa [show((c.1.toNat:Nat):Int)=c.1 from Int.toNat_of_nonneg h2.1] at this
  rw[decide_eq_true h,e1,e2,e3,e4]
  refine(ah (lk h)).2 (au (p:=c.2.1+1=n) aO (fun h=>au (p:=¬c.2.2.2.1=0) aY (fun g=>?_) fun g=>?_) fun h=>?_)
  ·exact al (by rw[decide_eq_true h,decide_eq_false g];rfl) (.ret _)
  ·exact al (by rw[decide_eq_true h,decide_eq_true (by omega)];rfl) (.ret _)
  ·exact al (by rw[decide_eq_false h];rfl) (.ret _)
 ·rw[decide_eq_false h];exact(aj (jS h)).2 (.ret _)
def qG:(cf×Int)→(cf×Int):=fun(m,c)=>iM m c
def Sc:aA:=⟨[jj,yI], [jj,yI],(@tt (cf×Int)),qG⟩
theorem Q0:Sd 118 Sc:=aD ax cm true 80 [] (fun A (c,n)=>ME A c n) (fc Tryz.func118 fz) (sc yS sz) fun(c,n) hp h=>Ms
def Lq(A:aZ)(c:cf)(n:Int):LT (cf×Int) Empty:=.need (A.k (@tt ((Int×Int×Int×Int×Int)×Int)) (c,n)) (.br (A.c .neq (A.k sR (c,n)) 0) (.ret ((0,0,0,0,0),(A.k sR (c,n)))) (.br (A.c .lss (A.b .add .i64 c.2.1 1) n) (.ret ((c.1,(A.b .add .i64 c.2.1 1),c.2.2),0)) (.br (A.c .gtr c.2.2.2.1 0) (.ret (((A.b .rem .i64 (A.b .add .i64 c.1 1) 256),0,(A.b .sub .i64 c.2.2.2.1 1),0,c.2.2.2.2),0)) (.ret (((A.b .rem .i64 (A.b .add .i64 c.1 1) 256),0,c.2.2),0)))))
theorem K8{c:cf}{n:Int}:aB Empty.elim (Lq ai c n) (iM c n):=by
 unfold Lq iM
 refine af.2 ⟨rfl,?_⟩
 rw[show ai.k sR (c,n)=iB (c,n) from rfl]
 by_cases h:iB (c,n)=0
 ·obtain⟨h1,h2,h3,h4,h5,h6⟩:=rU h
  have e1:ai.b .add .i64 c.1 1=c.1+1:=by rw[bH,fQ (by omega) (by omega)]
  have e2:ai.b .add .i64 c.2.1 1=c.2.1+1:=by rw[bH,fQ (by omega) (by omega)]
  have e3:ai.b .sub .i64 c.2.2.2.1 1=c.2.2.2.1-1:=by rw[bl,fQ (by omega) (by omega)]
  rw[decide_eq_true h,e1,e2,e3,rN]
  refine(ah (lk h)).2 (au (p:=c.2.1+1<n) rfl (fun h=>?_) fun h=>au (p:=0<c.2.2.2.1) rfl (fun g=>?_) fun g=>?_)
  ·exact al (by rw[decide_eq_false (by omega)];rfl) (.ret _)
  ·exact al (by rw[decide_eq_true (show c.2.1+1=n by omega),decide_eq_false (by omega)];rfl) (.ret _)
  ·exact al (by rw[decide_eq_true (show c.2.1+1=n by omega),decide_eq_true (show c.2.2.2.1=0 by omega)];rfl) (.ret _)
 ·rw[decide_eq_false h];exact(aj (jS h)).2 (.ret _)
def AO:(cf×Int)→(cf×Int):=fun(m,c)=>iM m c
def QW:aA:=⟨[jj,yI], [jj,yI],(@tt (cf×Int)),AO⟩
theorem Uc:Sd 120 QW:=aD ax cm true 85 [] (fun A (c,n)=>Lq A c n) (fc Tryz.func120 fz) (sc GJ sz) fun(c,n) hp h=>K8
def Lh(A:aZ)(node:Int):LT Int Empty:=.br (A.c .lss node 0) (.ret 0) (.br (A.c .geq node 8) (.ret 0) (.need (A.c .leq 0 node) (.ret (A.b .shl .i64 1 node))))
def Ea(n:Int):Int:=bif decide (0≤n∧n≤7) then ai.b .shl .i64 1 n else 0
theorem Xw{n:Int}:aB Empty.elim (Lh ai n) (Ea n):=by
 unfold Lh Ea
 refine au (p:=n<0) rfl (fun h=>?_) fun h1=>au (p:=8≤n) rfl (fun h=>?_) fun h2=>af.2 ⟨decide_eq_true (by omega),?_⟩
 ·exact al (by rw[decide_eq_false (by omega)];rfl) (.ret _)
 ·exact al (by rw[decide_eq_false (by omega)];rfl) (.ret _)
 ·exact al (by rw[decide_eq_true (by omega)];rfl) (.ret _)
def Di:Int→Int:=Ea
def Va:aA:=⟨[yI], [yI],(@tt Int),Di⟩
theorem Tx:Sd 225 Va:=aD ax cm true 28 [] (fun A node=>Lh A node) (fc Tryz.func225 fz) sz fun node hp h=>Xw
def MS(A:aZ)(c:cf)(node:Int):LT Bool Empty:=.need (A.k (@tt Int) node) (.ret (A.c .neq (A.b .and .i64 c.2.2.2.2 (A.k Di node)) 0))
theorem Wm{x:Int}:ai.b .and .i64 x 0=0:=by
 show IntKind.i64.wrap (((BitVec.ofInt 64 x &&& BitVec.ofInt 64 0).toNat:Nat):Int)=0
 rw[show BitVec.ofInt 64 0=0#64 from rfl,BitVec.and_zero];rfl
def Cr(c:cf)(n:Int):Bool:=bif decide (0≤n∧n≤7) then ai.c .neq (ai.b .and .i64 c.2.2.2.2 (ai.b .shl .i64 1 n)) 0 else false
theorem QD{c:cf}{n:Int}:aB Empty.elim (MS ai c n) (Cr c n):=by
 unfold MS Cr
 refine af.2 ⟨rfl,al ?_ (.ret _)⟩
 rw[show ai.k Di n=Ea n from rfl,Ea]
 cases decide (0≤n∧n≤7)
 ·rw[cond_false,cond_false,Wm];rfl
 ·rfl
def Gt:(cf×Int)→Bool:=fun(m,c)=>Cr m c
def RQ:aA:=⟨[jj,yI], [.bool],(@tt (cf×Int)),Gt⟩
theorem Sm:Sd 194 RQ:=aD ax cm true 21 [] (fun A (c,node)=>MS A c node) (fc Tryz.func194 fz) (sc Tx sz) fun(c,node) hp h=>QD
def G9(A:aZ)(m:ao)(id:Int):LT Int Empty:=.need (A.k (@tt (ao×Int)) (m,id)) (.ret (A.k Jk (m,id)).1)
def oZ:(ao×Int)→Int:=fun(m,id)=>(G9 ai m id).val (Ty.cn [yI])
def UU:aA:=⟨[bC,yI], [yI],(@tt (ao×Int)),oZ⟩
theorem xY:Sd 70 UU:=aL ax cm true 27 [] (fun A (m,id)=>G9 A m id) (fc Tryz.func70 fz) (sc UA sz) (fun((m,id):ao×Int) hp h=>by
 show(G9 ai m id).pre=true
 simp[G9,LT.pre,ap,dc])
def GX(A:aZ)(m:ao)(id:Int):LT Int Empty:=.need (A.k (@tt (ao×Int)) (m,id)) (.ret (A.k vo (m,id)).1)
def F6:(ao×Int)→Int:=fun(m,id)=>(GX ai m id).val (Ty.cn [yI])
def Ul:aA:=⟨[bC,yI], [yI],(@tt (ao×Int)),F6⟩
theorem UM:Sd 111 Ul:=aL ax cm true 27 [] (fun A (m,id)=>GX A m id) (fc Tryz.func111 fz) (sc JW sz) (fun((m,id):ao×Int) hp h=>by
 show(GX ai m id).pre=true
 simp[GX,LT.pre,ap,dc])
open Go.Ev.Pl
def I7(A:aZ)(n:Int)(least:Int)(most:Int):LT Bool Empty:=.br (A.c .geq n least) (.ret (A.c .leq n most)) (.ret false)
def sM:(Int×Int×Int)→Bool:=fun(n,least,most)=>(I7 ai n least most).val (Ty.cn [.bool])
def Vd:aA:=⟨[yI,yI,yI], [.bool],(@tt (Int×Int×Int)),sM⟩
theorem JK:Sd 66 Vd:=aL ax cm true 22 [] (fun A (n,least,most)=>I7 A n least most) (fc Tryz.func66 fz) sz (fun((n,least,most):Int×Int×Int) hp h=>by
 show(I7 ai n least most).pre=true
 simp[I7,LT.pre,ap,dc])
def KD(A:aZ)(n:Node):LT Bool Empty:=.need (A.k (@tt (Int×Int×Int)) (n.2.1,2,4)) (.ret (A.k sM (n.2.1,2,4)))
theorem Eg:sM=dD:=rfl
def oQ(n:Node):Bool:=decide (2≤n.2.1∧n.2.1≤4)
theorem Yx{n:Node}:aB Empty.elim (KD ai n) (oQ n):=by
 unfold KD oQ
 exact af.2 ⟨rfl,al (by rw[Eg,ap,iX,Bool.eq_iff_iff];simp) (.ret _)⟩
def dp:Node→Bool:=oQ
def P_:aA:=⟨[cN], [.bool],(@tt Node),dp⟩
theorem Dk:Sd 22 P_:=aD ax cm true 18 [] (fun A n=>KD A n) (fc Tryz.func22 fz) (sc JK sz) fun n hp h=>Yx
def NF(A:aZ)(n:Node):LT Bool Empty:=.br (A.c .geq n.2.1 2) (.ret (A.c .leq n.2.1 4)) (.ret false)
theorem V1{n:Node}:aB Empty.elim (NF ai n) (oQ n):=by
 unfold NF oQ
 refine au (p:=2≤n.2.1) rfl (fun h=>?_) fun h=>?_
 ·exact al (by rw[aF,Bool.eq_iff_iff];simp;omega) (.ret _)
 ·exact al (decide_eq_false (by omega)).symm (.ret _)
def tx:Node→Bool:=oQ
def T5:aA:=⟨[cN], [.bool],(@tt Node),tx⟩
theorem Es:Sd 23 T5:=aD ax cm true 23 [] (fun A n=>NF A n) (fc Tryz.func23 fz) sz fun n hp h=>V1
def M8(A:aZ)(m:ao)(n:Node):LT Bool Empty:=.need (A.k (@tt Node) n) (.br (A.not (A.k tx n)) (.br (A.and (A.c .eql n.2.2.1.1 0) (A.and (A.c .eql n.2.2.1.2.1 0) (A.and (A.c .eql n.2.2.1.2.2.1 0) (A.and (A.c .eql n.2.2.1.2.2.2.1 0) (A.and (A.c .eql n.2.2.1.2.2.2.2 0) true))))) (.ret (A.and (A.c .eql n.2.2.2.1.1 0) (A.and (A.c .eql n.2.2.2.1.2.1 0) (A.and (A.c .eql n.2.2.2.1.2.2.1 0) (A.and (A.c .eql n.2.2.2.1.2.2.2.1 0) (A.and (A.c .eql n.2.2.2.1.2.2.2.2.1 0) (A.and (A.c .eql n.2.2.2.1.2.2.2.2.2.1 0) (A.and (A.c .eql n.2.2.2.1.2.2.2.2.2.2 0) true)))))))) (.ret false)) (.need (A.k (@tt (ao×cf)) (m,n.2.2.1)) (.br (A.k su (m,n.2.2.1)) (.need (A.k (@tt ((Int×Int×Int×Int×Int×Int×Int))) n.2.2.2.1) (.br (A.c .eql (A.k kV n.2.2.2.1) 0) (.br (A.c .eql n.2.2.2.1.1 n.1) (.br (A.c .eql n.2.2.2.1.2.1 m.1) (.ret (A.c .eql n.2.2.1.2.2.2.2 n.2.2.2.1.2.2.1)) (.ret false)) (.ret false)) (.ret false))) (.ret false))))
def E_(c:cf):Bool:=ai.and (ai.c .eql c.1 0) (ai.and (ai.c .eql c.2.1 0) (ai.and (ai.c .eql c.2.2.1 0) (ai.and (ai.c .eql c.2.2.2.1 0) (ai.and (ai.c .eql c.2.2.2.2 0) true))))
def zeroV(v:gp):Bool:=ai.and (ai.c .eql v.1 0) (ai.and (ai.c .eql v.2.1 0) (ai.and (ai.c .eql v.2.2.1 0) (ai.and (ai.c .eql v.2.2.2.1 0) (ai.and (ai.c .eql v.2.2.2.2.1 0) (ai.and (ai.c .eql v.2.2.2.2.2.1 0) (ai.and (ai.c .eql v.2.2.2.2.2.2 0) true))))))
def oM(m:ao)(n:Node):Bool:=bif oQ n then(eD m n.2.2.1&&(decide (kV n.2.2.2.1=0)&&(decide (n.2.2.2.1.1=n.1)&&(decide (n.2.2.2.1.2.1=m.1)&&decide (n.2.2.1.2.2.2.2=n.2.2.2.1.2.2.1))))) else(E_ n.2.2.1&&zeroV n.2.2.2.1)
theorem Yh{m:ao}{n:Node}:aB Empty.elim (M8 ai m n) (oM m n):=by
 unfold M8 oM
 refine af.2 ⟨rfl,?_⟩
 rw[show ai.k tx n=oQ n from rfl]
 cases oQ n
 ·refine(aj rfl).2 ?_
  rw[cond_false]
  cases hz:E_ n.2.2.1
  ·exact(ah hz).2 (.ret _)
  ·exact(aj hz).2 (.ret _)
 ·refine(ah rfl).2 (af.2 ⟨rfl,?_⟩)
  rw[show ai.k su (m,n.2.2.1)=eD m n.2.2.1 from rfl,cond_true]
  cases eD m n.2.2.1
  ·exact(ah rfl).2 (.ret _)
  ·refine(aj rfl).2 (af.2 ⟨rfl,au (p:=kV n.2.2.2.1=0) aO (fun h1=>au (p:=n.2.2.2.1.1=n.1) aO (fun h2=>au (p:=n.2.2.2.1.2.1=m.1) aO (fun h3=>?_) fun h=>?_) fun h=>?_) fun h=>?_⟩)
   ·exact al (by rw[decide_eq_true h1,decide_eq_true h2,decide_eq_true h3,aO];rfl) (.ret _)
   ·exact al (by rw[decide_eq_true h1,decide_eq_true h2,decide_eq_false h];rfl) (.ret _)
   ·exact al (by rw[decide_eq_true h1,decide_eq_false h];rfl) (.ret _)
   ·exact al (by rw[decide_eq_false h];rfl) (.ret _)
def Ge:(ao×Node)→Bool:=fun(m,n)=>oM m n
def Se:aA:=⟨[bC,cN], [.bool],(@tt (ao×Node)),Ge⟩
theorem UR:Sd 72 Se:=aD ax cm true 60 [] (fun A (m,n)=>M8 A m n) (fc Tryz.func72 fz) (sc K3 (sc Es (sc FW sz))) fun(m,n) hp h=>Yh
def Mg(A:aZ)(m:ao)(n:Node):LT Bool Empty:=.br (A.c .neq n.2.1 1) (.ret (A.c .eql n.2.2.2.2.1 0)) (.need (A.k (@tt (ao×Int)) (m,n.1)) (.br (A.c .geq n.2.2.2.2.1 1) (.ret (A.c .leq n.2.2.2.2.1 (A.k tW (m,n.1)).1)) (.ret false)))
def p8(m:ao)(n:Node):Bool:=bif decide (n.2.1=1) then decide (1≤n.2.2.2.2.1∧n.2.2.2.2.1≤(l5 m n.1).1) else decide (n.2.2.2.2.1=0)
theorem Xz{m:ao}{n:Node}:aB Empty.elim (Mg ai m n) (p8 m n):=by
 unfold Mg p8
 refine au (p:=¬n.2.1=1) aY (fun h=>?_) fun h=>af.2 ⟨rfl,?_⟩
 ·exact al (by rw[decide_eq_false h,aO];rfl) (.ret _)
 ·rw[decide_eq_true (show n.2.1=1 by omega),show ai.k tW (m,n.1)=l5 m n.1 from rfl,cond_true]
  refine au (p:=1≤n.2.2.2.2.1) rfl (fun h1=>?_) fun h1=>?_
  ·exact al (by rw[aF,Bool.eq_iff_iff];simp;omega) (.ret _)
  ·exact al (decide_eq_false (by omega)).symm (.ret _)
def Gs:(ao×Node)→Bool:=fun(m,n)=>p8 m n
def Og:aA:=⟨[bC,cN], [.bool],(@tt (ao×Node)),Gs⟩
theorem Up:Sd 73 Og:=aD ax cm true 46 [] (fun A (m,n)=>Mg A m n) (fc Tryz.func73 fz) (sc Gp sz) fun(m,n) hp h=>Xz
def Kj(A:aZ)(m:ao)(n:Node):LT Int Empty:=.need (A.k (@tt ao) m) (.br (A.c .neq (A.k kM m) 0) (.ret (A.k kM m)) (.br (A.c .lss n.1 0) (.ret 180) (.br (A.c .geq n.1 m.1) (.ret 180) (.br (A.c .lss n.2.1 0) (.ret 180) (.br (A.c .gtr n.2.1 5) (.ret 180) (.br (A.c .lss n.2.2.2.2.2.2.1 0) (.ret 180) (.br (A.c .gtr n.2.2.2.2.2.2.1 2) (.ret 180) (.need (A.k (@tt bR) n.2.2.2.2.2.2.2) (.br (A.c .neq (A.k qU n.2.2.2.2.2.2.2) 0) (.ret 180) (.br (A.c .neq n.2.2.2.2.2.2.2.1 n.1) (.ret 180) (.br (A.c .neq (A.l n.2.2.2.2.2.2.2.2.2.1) m.1) (.ret 180) (.br (A.c .eql n.2.1 2) (.need (A.and (A.c .leq 0 n.1) (A.c .lss n.1 (A.l m.2.2.2.2.2.2.1))) (.br (A.not (A.n .bool m.2.2.2.2.2.2.1 n.1:Bool)) (.ret 180) (.need (A.k (@tt (ao×Node)) (m,n)) (.br (A.not (A.k Ge (m,n))) (.ret 180) (.need (A.k (@tt (ao×Node)) (m,n)) (.br (A.not (A.k Gs (m,n))) (.ret 180) (.br n.2.2.2.2.2.1 (.br (A.c .neq n.2.1 1) (.br (A.c .neq n.2.1 2) (.ret 180) (.ret 0)) (.ret 0)) (.ret 0)))))))) (.need (A.k (@tt (ao×Node)) (m,n)) (.br (A.not (A.k Ge (m,n))) (.ret 180) (.need (A.k (@tt (ao×Node)) (m,n)) (.br (A.not (A.k Gs (m,n))) (.ret 180) (.br n.2.2.2.2.2.1 (.br (A.c .neq n.2.1 1) (.br (A.c .neq n.2.1 2) (.ret 180) (.ret 0)) (.ret 0)) (.ret 0))))))))))))))))))
def zZ(m:ao)(n:Node):Bool:=bif decide (n.2.1=2) then(ai.n .bool m.2.2.2.2.2.2.1 n.1:Bool) else true
def wi(n:Node):Bool:=bif n.2.2.2.2.2.1 then decide (n.2.1=1∨n.2.1=2) else true
def zU(m:ao)(n:Node):Bool:=decide (0≤n.1∧n.1≤m.1-1)&&(decide (0≤n.2.1∧n.2.1≤5)&&(decide (0≤n.2.2.2.2.2.2.1∧n.2.2.2.2.2.2.1≤2)&&(dO n.2.2.2.2.2.2.2&&(decide (n.2.2.2.2.2.2.2.1=n.1)&&(decide ((n.2.2.2.2.2.2.2.2.2.1.length:Int)=m.1)&&(zZ m n&&(oM m n&&(p8 m n&&wi n))))))))
def dS(m:ao)(n:Node):Int:=bif dL m then(bif zU m n then 0 else 180) else 70
theorem gZ{m:ao}{n:Node}:zU m n=true↔(0≤n.1∧n.1≤m.1-1)∧(0≤n.2.1∧n.2.1≤5)∧(0≤n.2.2.2.2.2.2.1∧n.2.2.2.2.2.2.1≤2)∧dO n.2.2.2.2.2.2.2=true∧n.2.2.2.2.2.2.2.1=n.1∧(n.2.2.2.2.2.2.2.2.2.1.length:Int)=m.1∧zZ m n=true∧oM m n=true∧p8 m n=true∧wi n=true:=by
 unfold zU;simp only[Bool.and_eq_true,decide_eq_true_eq]
theorem fB{m:ao}{n:Node}(h:dS m n=0):dL m=true∧zU m n=true:=by
 unfold dS at h
 cases hm:dL m
 ·rw[hm,cond_false] at h;exact absurd h (by decide)
 ·cases hn:zU m n
  ·rw[hm,hn,cond_true,cond_false] at h;exact absurd h (by decide)
  ·exact⟨rfl,rfl⟩
section
variable {R Y:Type} {step:Y→LT R Y} {e:LT R Y} {x y:R} {G:Bool}
theorem fq{p:Prop}[Decidable p]{b:Bool}(hb:b=decide p)(h:G=true→¬p)(he:¬p→aB step e (bif G then x else y)):aB step (.br b (.ret y) e) (bif G then x else y):=by
 refine au hb (fun hp=>?_) he
 cases G
 ·exact .ret _
 ·exact absurd hp (h rfl)
theorem mJ{b:Bool}(h:G=true→b=true)(he:b=true→aB step e (bif G then x else y)):aB step (.br (ai.not b) (.ret y) e) (bif G then x else y):=by
 cases b
 ·cases G
  ·exact(aj rfl).2 (.ret _)
  ·exact absurd (h rfl) (by decide)
 ·exact(ah rfl).2 (he rfl)
theorem rH{u a b:Int}(h:G=true→a≤u∧u≤b)(he:a≤u∧u≤b→aB step e (bif G then x else y)):aB step (.br (ai.not (ai.k dD (u,a,b))) (.ret y) e) (bif G then x else y):=by
 refine dT (fun hp=>?_) he
 cases G
 ·exact .ret _
 ·exact absurd (h rfl) hp
theorem v7(h:G=true):aB step (.ret x) (bif G then x else y):=al (by rw[h];rfl) (.ret _)
end
theorem Jg{Y:Type}{step:Y→LT Int Y}{n:Node}{G:Bool}(h1:G=true→wi n=true)(h2:wi n=true→G=true):aB step (.br n.2.2.2.2.2.1 (.br (ai.c .neq n.2.1 1) (.br (ai.c .neq n.2.1 2) (.ret 180) (.ret 0)) (.ret 0)) (.ret 0)) (bif G then 0 else 180):=by
 unfold wi at h1 h2
 cases hb:n.2.2.2.2.2.1
 ·rw[hb] at h1 h2
  exact(ah rfl).2 (v7 (h2 rfl))
 ·rw[hb] at h1 h2
  simp only[cond_true,decide_eq_true_eq] at h1 h2
  refine(aj rfl).2 (au (p:=¬n.2.1=1) aY (fun h=>fq (p:=¬n.2.1=2) aY (fun g=>?_) fun g=>?_) fun h=>?_)
  ·have:=h1 g;omega
  ·exact v7 (h2 (by omega))
  ·exact v7 (h2 (by omega))
theorem FL{R Y:Type}{step:Y→LT R Y}{m:ao}{n:Node}{G:Bool}{e:LT R Y}{x y:R}(hm:dL m=true)(hi:0≤n.1∧n.1≤m.1-1)(h1:G=true→zZ m n=true)(h2:zZ m n=true→aB step e (bif G then x else y)) :
  aB step (.br (ai.c .eql n.2.1 2) (.need (ai.and (ai.c .leq 0 n.1) (ai.c .lss n.1 (ai.l m.2.2.2.2.2.2.1))) (.br (ai.not (ai.n .bool m.2.2.2.2.2.2.1 n.1:Bool)) (.ret y) e)) e) (bif G then x else y):=by
 unfold zZ at h1 h2
 refine au (p:=n.2.1=2) aO (fun h=>af.2 ⟨ib (eT hm).2.2.1 hi.1 (by omega),?_⟩) fun h=>?_
 ·rw[decide_eq_true h] at h1 h2
  exact mJ h1 h2
 ·rw[decide_eq_false h] at h2
  exact h2 rfl
theorem Nf{m:ao}{n:Node}:aB Empty.elim (Kj ai m n) (dS m n):=by
 unfold Kj dS
 refine af.2 ⟨rfl,?_⟩
 rw[show ai.k kM m=fP m from rfl,fP]
 cases hm:dL m
 ·exact(aj rfl).2 (.ret _)
 have hG:=@gZ m n
 rw[cond_true]
 generalize zU m n=G at hG ⊢
 refine(ah rfl).2 (fq (p:=n.1<0) rfl (fun g=>by have:=hG.1 g;omega) fun h1=>fq (p:=m.1≤n.1) rfl (fun g=>by have:=hG.1 g;omega) fun h2=>?_)
 refine fq (p:=n.2.1<0) rfl (fun g=>by have:=hG.1 g;omega) fun h3=>fq (p:=5<n.2.1) rfl (fun g=>by have:=hG.1 g;omega) fun h4=>?_
 refine fq (p:=n.2.2.2.2.2.2.1<0) rfl (fun g=>by have:=hG.1 g;omega) fun h5=>fq (p:=2<n.2.2.2.2.2.2.1) rfl (fun g=>by have:=hG.1 g;omega) fun h6=>af.2 ⟨rfl,?_⟩
 refine fq (p:=¬jk n.2.2.2.2.2.2.2=0) aY (fun g=>not_not_intro (mm.2 (hG.1 g).2.2.2.1)) fun h7=>?_
 refine fq (p:=¬n.2.2.2.2.2.2.2.1=n.1) aY (fun g=>by have:=hG.1 g;omega) fun h8=>?_
 refine fq (p:=¬(n.2.2.2.2.2.2.2.2.2.1.length:Int)=m.1) aY (fun g=>by have:=hG.1 g;omega) fun h9=>?_
 refine FL hm (by omega) (fun g=>(hG.1 g).2.2.2.2.2.2.1) fun hc=>af.2 ⟨rfl,mJ (b:=oM m n) (fun g=>(hG.1 g).2.2.2.2.2.2.2.1) fun hd=>af.2 ⟨rfl,mJ (b:=p8 m n) (fun g=>(hG.1 g).2.2.2.2.2.2.2.2.1) fun he=>?_⟩⟩
 exact Jg (fun g=>(hG.1 g).2.2.2.2.2.2.2.2.2) fun hb=>hG.2 ⟨by omega,by omega,by omega,mm.1 (Decidable.not_not.1 h7),by omega,by omega,hc,hd,he,hb⟩
def nf:(ao×Node)→Int:=fun(m,n)=>dS m n
def UO:aA:=⟨[bC,cN], [yI],(@tt (ao×Node)),nf⟩
theorem EN:Sd 21 UO:=aD ax cm true 137 [] (fun A (m,n)=>Kj A m n) (fc Tryz.func21 fz) (sc A1 (sc D8 (sc UR (sc Up sz)))) fun(m,n) hp h=>Nf
structure F8 where
 (a0:ao) (a1:Node)
structure LH where
 (b0:ao) (b1:Node)
structure LB where
 (c0:Node)
inductive IW where
 | c0 (p:F8)
 | c1 (p:LH)
 | c2 (p:LB)
noncomputable def NI:IW→fJ
 | .c0 p=>⟨[⟨20,160,(en [(2,.ptr 0 0),(3,.ptr 1 0)]),[.code (cw Tryz.f20 [1,1,1,0,0,0,0,0,0,0,0,0,1,0,0]),.code (cw Tryz.f20 [1,1,1,0,0,0,0,0,0,0,0,0,1,0,1]),.code (cw Tryz.f20 [1,1,1,0,0,0,0,0,0,0,0,0,1,1]),.code (.exit 3),.inBlock 4,.inBlock 5,.inBlock 6,.inBlock 7,.inBlock 8,.code (cw Tryz.f20 [1,1,1,0,0,1]),.inBlock 3,.code (cw Tryz.f20 [1,1,1,1])],[],none⟩],[.flat false [vi p.a0.1,vi p.a0.2.1,vi p.a0.2.2.1,vi p.a0.2.2.2.1,vi p.a0.2.2.2.2.1,vi p.a0.2.2.2.2.2.1,.sl .bool p.a0.2.2.2.2.2.2.1,.sl aP p.a0.2.2.2.2.2.2.2],.flat false [vi p.a1.1,vi p.a1.2.1,vi p.a1.2.2.1.1,vi p.a1.2.2.1.2.1,vi p.a1.2.2.1.2.2.1,vi p.a1.2.2.1.2.2.2.1,vi p.a1.2.2.1.2.2.2.2,vi p.a1.2.2.2.1.1,vi p.a1.2.2.2.1.2.1,vi p.a1.2.2.2.1.2.2.1,vi p.a1.2.2.2.1.2.2.2.1,vi p.a1.2.2.2.1.2.2.2.2.1,vi p.a1.2.2.2.1.2.2.2.2.2.1,vi p.a1.2.2.2.1.2.2.2.2.2.2,vi p.a1.2.2.2.2.1,vb p.a1.2.2.2.2.2.1,vi p.a1.2.2.2.2.2.2.1,vi p.a1.2.2.2.2.2.2.2.1,.sl yU p.a1.2.2.2.2.2.2.2.2.1,.sl aM p.a1.2.2.2.2.2.2.2.2.2.1,vi p.a1.2.2.2.2.2.2.2.2.2.2.1,vi p.a1.2.2.2.2.2.2.2.2.2.2.2],.dead]⟩
 | .c1 p=>⟨[⟨20,160,(en [(2,.ptr 0 0),(3,.ptr 1 0)]),[.code (cw Tryz.f20 [1,1,1,0,0,0,0,0,0,0,0,0,1,1,1,0,0]),.code (cw Tryz.f20 [1,1,1,0,0,0,0,0,0,0,0,0,1,1,1,0,1]),.code (cw Tryz.f20 [1,1,1,0,0,0,0,0,0,0,0,0,1,1,1,1]),.code (.exit 3),.inBlock 4,.inBlock 5,.inBlock 6,.inBlock 7,.inBlock 8,.code (cw Tryz.f20 [1,1,1,0,0,1]),.inBlock 3,.code (cw Tryz.f20 [1,1,1,1])],[],none⟩],[.flat false [vi p.b0.1,vi p.b0.2.1,vi p.b0.2.2.1,vi p.b0.2.2.2.1,vi p.b0.2.2.2.2.1,vi p.b0.2.2.2.2.2.1,.sl .bool p.b0.2.2.2.2.2.2.1,.sl aP p.b0.2.2.2.2.2.2.2],.flat false [vi p.b1.1,vi p.b1.2.1,vi p.b1.2.2.1.1,vi p.b1.2.2.1.2.1,vi p.b1.2.2.1.2.2.1,vi p.b1.2.2.1.2.2.2.1,vi p.b1.2.2.1.2.2.2.2,vi p.b1.2.2.2.1.1,vi p.b1.2.2.2.1.2.1,vi p.b1.2.2.2.1.2.2.1,vi p.b1.2.2.2.1.2.2.2.1,vi p.b1.2.2.2.1.2.2.2.2.1,vi p.b1.2.2.2.1.2.2.2.2.2.1,vi p.b1.2.2.2.1.2.2.2.2.2.2,vi p.b1.2.2.2.2.1,vb p.b1.2.2.2.2.2.1,vi p.b1.2.2.2.2.2.2.1,vi p.b1.2.2.2.2.2.2.2.1,.sl yU p.b1.2.2.2.2.2.2.2.2.1,.sl aM p.b1.2.2.2.2.2.2.2.2.2.1,vi p.b1.2.2.2.2.2.2.2.2.2.2.1,vi p.b1.2.2.2.2.2.2.2.2.2.2.2],.dead]⟩
 | .c2 p=>⟨[⟨20,160,(en [(3,.ptr 0 0)]),[.code (cw Tryz.f20 [1,1,1,0,0,0,0,0,0,0,0,0,1,1,1,1,0]),.code (cw Tryz.f20 [1,1,1,0,0,0,0,0,0,0,0,0,1,1,1,1,1]),.code (.exit 3),.inBlock 4,.inBlock 5,.inBlock 6,.inBlock 7,.inBlock 8,.code (cw Tryz.f20 [1,1,1,0,0,1]),.inBlock 3,.code (cw Tryz.f20 [1,1,1,1])],[],none⟩],[.flat false [vi p.c0.1,vi p.c0.2.1,vi p.c0.2.2.1.1,vi p.c0.2.2.1.2.1,vi p.c0.2.2.1.2.2.1,vi p.c0.2.2.1.2.2.2.1,vi p.c0.2.2.1.2.2.2.2,vi p.c0.2.2.2.1.1,vi p.c0.2.2.2.1.2.1,vi p.c0.2.2.2.1.2.2.1,vi p.c0.2.2.2.1.2.2.2.1,vi p.c0.2.2.2.1.2.2.2.2.1,vi p.c0.2.2.2.1.2.2.2.2.2.1,vi p.c0.2.2.2.1.2.2.2.2.2.2,vi p.c0.2.2.2.2.1,vb p.c0.2.2.2.2.2.1,vi p.c0.2.2.2.2.2.2.1,vi p.c0.2.2.2.2.2.2.2.1,.sl yU p.c0.2.2.2.2.2.2.2.2.1,.sl aM p.c0.2.2.2.2.2.2.2.2.2.1,vi p.c0.2.2.2.2.2.2.2.2.2.2.1,vi p.c0.2.2.2.2.2.2.2.2.2.2.2],.dead]⟩
def M6(A:aZ)(m:ao)(n:Node):LT Int IW:=.need (A.k (@tt ao) m) (.br (A.c .neq (A.k j4 m) 0) (.ret (A.k j4 m)) (.need (A.k (@tt (Int×Int×Int)) (n.1,0,(A.b .sub .i64 m.1 1))) (.br (A.not (A.k sM (n.1,0,(A.b .sub .i64 m.1 1)))) (.ret 180) (.need (A.k (@tt (Int×Int×Int)) (n.2.1,0,5)) (.br (A.not (A.k sM (n.2.1,0,5))) (.ret 180) (.need (A.k (@tt (Int×Int×Int)) (n.2.2.2.2.2.2.1,0,2)) (.br (A.not (A.k sM (n.2.2.2.2.2.2.1,0,2))) (.ret 180) (.need (A.k (@tt bR) n.2.2.2.2.2.2.2) (.br (A.c .neq (A.k ij n.2.2.2.2.2.2.2) 0) (.ret 180) (.br (A.c .neq n.2.2.2.2.2.2.2.1 n.1) (.ret 180) (.br (A.c .neq (A.l n.2.2.2.2.2.2.2.2.2.1) m.1) (.ret 180) (.need (A.k (@tt Node) n) (.br (A.k dp n) (.need (A.k (@tt (ao×cf)) (m,n.2.2.1)) (.br (A.not (A.k Bj (m,n.2.2.1))) (.ret 180) (.need (A.k (@tt ((Int×Int×Int×Int×Int×Int×Int))) n.2.2.2.1) (.br (A.c .neq (A.k uT n.2.2.2.1) 0) (.ret 180) (.br (A.c .neq n.2.2.2.1.1 n.1) (.ret 180) (.br (A.c .neq n.2.2.2.1.2.1 m.1) (.ret 180) (.br (A.c .neq n.2.2.1.2.2.2.2 n.2.2.2.1.2.2.1) (.ret 180) (.more (.c0 ⟨m,n⟩))))))))) (.more (.c0 ⟨m,n⟩)))))))))))))))
def wh(A:aZ):IW→LT Int IW
 | .c0 p=>.need (A.k (@tt Node) p.a1) (.br (A.not (A.k dp p.a1)) (.br (A.not (A.and (A.c .eql p.a1.2.2.1.1 0) (A.and (A.c .eql p.a1.2.2.1.2.1 0) (A.and (A.c .eql p.a1.2.2.1.2.2.1 0) (A.and (A.c .eql p.a1.2.2.1.2.2.2.1 0) (A.and (A.c .eql p.a1.2.2.1.2.2.2.2 0) true)))))) (.ret 180) (.br (A.not (A.and (A.c .eql p.a1.2.2.2.1.1 0) (A.and (A.c .eql p.a1.2.2.2.1.2.1 0) (A.and (A.c .eql p.a1.2.2.2.1.2.2.1 0) (A.and (A.c .eql p.a1.2.2.2.1.2.2.2.1 0) (A.and (A.c .eql p.a1.2.2.2.1.2.2.2.2.1 0) (A.and (A.c .eql p.a1.2.2.2.1.2.2.2.2.2.1 0) (A.and (A.c .eql p.a1.2.2.2.1.2.2.2.2.2.2 0) true)))))))) (.ret 180) (.br (A.c .eql p.a1.2.1 2) (.need (A.and (A.c .leq 0 p.a1.1) (A.c .lss p.a1.1 (A.l p.a0.2.2.2.2.2.2.1))) (.br (A.not (A.n .bool p.a0.2.2.2.2.2.2.1 p.a1.1:Bool)) (.ret 180) (.more (.c1 ⟨p.a0,p.a1⟩)))) (.more (.c1 ⟨p.a0,p.a1⟩))))) (.br (A.c .eql p.a1.2.1 2) (.need (A.and (A.c .leq 0 p.a1.1) (A.c .lss p.a1.1 (A.l p.a0.2.2.2.2.2.2.1))) (.br (A.not (A.n .bool p.a0.2.2.2.2.2.2.1 p.a1.1:Bool)) (.ret 180) (.more (.c1 ⟨p.a0,p.a1⟩)))) (.more (.c1 ⟨p.a0,p.a1⟩))))
 | .c1 p=>.br (A.c .eql p.b1.2.1 1) (.need (A.k (@tt (ao×Int)) (p.b0,p.b1.1)) (.need (A.k (@tt (Int×Int×Int)) (p.b1.2.2.2.2.1,1,(A.k oZ (p.b0,p.b1.1)))) (.br (A.not (A.k sM (p.b1.2.2.2.2.1,1,(A.k oZ (p.b0,p.b1.1))))) (.ret 180) (.br (A.c .neq p.b1.2.1 1) (.br (A.c .neq p.b1.2.2.2.2.1 0) (.ret 180) (.more (.c2 ⟨p.b1⟩))) (.more (.c2 ⟨p.b1⟩)))))) (.br (A.c .neq p.b1.2.1 1) (.br (A.c .neq p.b1.2.2.2.2.1 0) (.ret 180) (.more (.c2 ⟨p.b1⟩))) (.more (.c2 ⟨p.b1⟩)))
 | .c2 p=>.br p.c0.2.2.2.2.2.1 (.br (A.c .neq p.c0.2.1 1) (.br (A.c .neq p.c0.2.1 2) (.ret 180) (.ret 0)) (.ret 0)) (.ret 0)
theorem AY{m:ao}{n:Node}{G:Bool}(h0:G=true→p8 m n=true∧wi n=true)(h2:p8 m n=true→wi n=true→G=true):aB (wh ai) (.more (.c1 ⟨m,n⟩)) (bif G then 0 else 180):=by
 have hb:p8 m n=true→aB (wh ai) (.more (.c2 ⟨n⟩)) (bif G then 0 else 180):=fun ht=>by
  rw[ak,wh]
  exact Jg (fun g=>(h0 g).2) (h2 ht)
 rw[ak,wh]
 have ht:=fun g=>(h0 g).1
 unfold p8 at ht hb
 rw[Eg]
 refine au (p:=n.2.1=1) aO (fun h=>?_) fun h=>?_
 ·rw[decide_eq_true h,cond_true] at ht hb
  refine af.2 ⟨rfl,af.2 ⟨rfl,rH (fun g=>of_decide_eq_true (ht g)) fun h1=>?_⟩⟩
  exact au (p:=¬n.2.1=1) aY (fun k=>absurd h k) fun _=>hb (decide_eq_true h1)
 ·rw[decide_eq_false h,cond_false] at ht hb
  exact au (p:=¬n.2.1=1) aY (fun _=>fq (p:=¬n.2.2.2.2.1=0) aY (fun g=>not_not_intro (of_decide_eq_true (ht g))) fun h1=>hb (decide_eq_true (Decidable.not_not.1 h1))) fun k=>absurd h k
theorem GG{m:ao}{n:Node}{G:Bool}(hm:dL m=true)(hi:0≤n.1∧n.1≤m.1-1)(h1:oQ n=true→oM m n=true)(h0:G=true→zZ m n=true∧oM m n=true∧p8 m n=true∧wi n=true)(h2:zZ m n=true→oM m n=true→p8 m n=true→wi n=true→G=true):aB (wh ai) (.more (.c0 ⟨m,n⟩)) (bif G then 0 else 180):=by
 rw[ak,wh]
 refine af.2 ⟨rfl,?_⟩
 rw[show ai.k dp (⟨m,n⟩:F8).a1=oQ n from rfl]
 have hc:=fun g=>(h0 g).2.1
 unfold oM at hc h1 h2
 cases hn:oQ n
 ·rw[hn,cond_false] at hc h2
  refine(aj rfl).2 (mJ (b:=E_ n.2.2.1) (fun g=>?_) fun z1=>mJ (b:=zeroV n.2.2.2.1) (fun g=>?_) fun z2=>?_)
  ·exact(Bool.and_eq_true _ _▸hc g).1
  ·exact(Bool.and_eq_true _ _▸hc g).2
  ·exact FL hm hi (fun g=>(h0 g).1) fun k=>AY (fun g=>(h0 g).2.2) fun a b=>h2 k (by rw[z1,z2];rfl) a b
 ·rw[hn,cond_true] at hc h1 h2
  exact(ah rfl).2 (FL hm hi (fun g=>(h0 g).1) fun k=>AY (fun g=>(h0 g).2.2) fun a b=>h2 k (h1 rfl) a b)
theorem LO{m:ao}{n:Node}:aB (wh ai) (M6 ai m n) (dS m n):=by
 unfold M6 dS
 refine af.2 ⟨rfl,?_⟩
 rw[show ai.k j4 m=fP m from rfl,fP]
 cases hm:dL m
 ·exact(aj rfl).2 (.ret _)
 have hG:=@gZ m n
 have hl:=(eT hm).1
 rw[cond_true,Eg,bl,fQ (by omega) (by omega)]
 generalize zU m n=G at hG ⊢
 refine(ah rfl).2 (af.2 ⟨rfl,rH (fun g=>(hG.1 g).1) fun h1=>af.2 ⟨rfl,rH (fun g=>(hG.1 g).2.1) fun h2=>af.2 ⟨rfl,rH (fun g=>(hG.1 g).2.2.1) fun h3=>af.2 ⟨rfl,?_⟩⟩⟩⟩)
 refine fq (p:=¬jk n.2.2.2.2.2.2.2=0) aY (fun g=>not_not_intro (mm.2 (hG.1 g).2.2.2.1)) fun h7=>?_
 refine fq (p:=¬n.2.2.2.2.2.2.2.1=n.1) aY (fun g=>by have:=hG.1 g;omega) fun h8=>?_
 refine fq (p:=¬(n.2.2.2.2.2.2.2.2.2.1.length:Int)=m.1) aY (fun g=>by have:=hG.1 g;omega) fun h9=>af.2 ⟨rfl,?_⟩
 have fin:(oQ n=true→oM m n=true)→aB (wh ai) (.more (.c0 ⟨m,n⟩)) (bif G then 0 else 180):=fun h=>GG hm h1 h (fun g=>(hG.1 g).2.2.2.2.2.2) fun a b c d=>hG.2 ⟨h1,h2,h3,mm.1 (Decidable.not_not.1 h7),by omega,by omega,a,b,c,d⟩
 rw[show ai.k dp n=oQ n from rfl]
 have hc:=fun g=>(hG.1 g).2.2.2.2.2.2.2.1
 unfold oM at hc fin
 cases hn:oQ n
 ·exact(ah rfl).2 (fin fun k=>absurd (hn.symm.trans k) (by decide))
 ·rw[hn,cond_true] at hc
  simp only[hn,cond_true,Bool.and_eq_true,decide_eq_true_eq] at hc fin
  refine(aj rfl).2 (af.2 ⟨rfl,mJ (b:=eD m n.2.2.1) (fun g=>(hc g).1) fun k1=>af.2 ⟨rfl,?_⟩⟩)
  rw[ap,SU]
  refine fq (p:=¬kV n.2.2.2.1=0) aY (fun g=>not_not_intro (hc g).2.1) fun k2=>?_
  refine fq (p:=¬n.2.2.2.1.1=n.1) aY (fun g=>not_not_intro (hc g).2.2.1) fun k3=>?_
  refine fq (p:=¬n.2.2.2.1.2.1=m.1) aY (fun g=>not_not_intro (hc g).2.2.2.1) fun k4=>?_
  refine fq (p:=¬n.2.2.1.2.2.2.2=n.2.2.2.1.2.2.1) aY (fun g=>not_not_intro (hc g).2.2.2.2) fun k5=>?_
  exact fin fun _=>⟨k1,Decidable.not_not.1 k2,Decidable.not_not.1 k3,Decidable.not_not.1 k4,Decidable.not_not.1 k5⟩
def Aq:(ao×Node)→Int:=fun(m,n)=>dS m n
def R0:aA:=⟨[bC,cN], [yI],(@tt (ao×Node)),Aq⟩
theorem TC:Sd 20 R0:=aH ax cm true 151 [] [⟨20,8, [[2,3]]⟩,⟨20,10, [[2,3]]⟩,⟨20,11, [[3]]⟩] (fun A (m,n)=>M6 A m n) wh NI (fc Tryz.func20 fz) (sc J5 (sc Ba (sc Dk (sc xY (sc JK (sc vE (sc Jp sz))))))) (fun A y=>match y with |.c0 p=>⟨51,by kernel_rfl,by kernel_rfl⟩|.c1 p=>⟨39,by kernel_rfl,by kernel_rfl⟩|.c2 p=>⟨27,by kernel_rfl,by kernel_rfl⟩) fun(m,n) hp h=>LO
open Go.Ev.Pl
def Kq(A:aZ)(m:ao)(id:Int):LT (Node×Int) Empty:=.need (A.k (@tt ao) m) (.br (A.c .neq (A.k j4 m) 0) (.ret ((0,0,(0,0,0,0,0),(0,0,0,0,0,0,0),0,false,0,0,([]:List Int),([]:List aW),0,0),(A.k j4 m))) (.need (A.k (@tt (Int×Int)) (id,m.1)) (.br (A.c .neq (A.k Bm (id,m.1)).2 0) (.ret ((0,0,(0,0,0,0,0),(0,0,0,0,0,0,0),0,false,0,0,([]:List Int),([]:List aW),0,0),2)) (.ret ((id,0,(0,0,0,0,0),(0,0,0,0,0,0,0),0,false,0,(A.k Bm (id,m.1)).1),0)))))
def im:Node:=(0,0,(0,0,0,0,0),(0,0,0,0,0,0,0),0,false,0,0,([]:List Int),([]:List aW),0,0)
def Bf(m:ao)(id:Int):Node×Int:=bif dL m then(bif decide (0≤id∧id≤m.1-1) then((id,0,(0,0,0,0,0),(0,0,0,0,0,0,0),0,false,0,id,([]:List Int),List.replicate m.1.toNat zG,4,(-1)),0) else(im,2)) else(im,70)
theorem Mr{m:ao}{id:Int}:aB Empty.elim (Kq ai m id) (Bf m id):=by
 unfold Kq Bf
 refine af.2 ⟨rfl,?_⟩
 rw[show ai.k j4 m=fP m from rfl,fP]
 cases hm:dL m
 ·exact(aj rfl).2 (.ret _)
 refine(ah rfl).2 (af.2 ⟨rfl,?_⟩)
 rw[show ai.k Bm (id,m.1)=EP id m.1 from rfl,EP,decide_eq_true (eT hm).1,cond_true,cond_true]
 cases decide (0≤id∧id≤m.1-1)
 ·exact(aj rfl).2 (.ret _)
 ·exact(ah rfl).2 (.ret _)
def yR:(ao×Int)→(Node×Int):=fun(m,n)=>Bf m n
def Qo:aA:=⟨[bC,yI], [cN,yI],(@tt (ao×Int)),yR⟩
theorem Ji:Sd 17 Qo:=aD ax cm true 55 [] (fun A (m,id)=>Kq A m id) (fc Tryz.func17 fz) (sc Ba (sc QX sz)) fun(m,id) hp h=>Mr
def Mf(A:aZ)(m:ao)(n:Node)(when:Bool):LT (Node×Int) Empty:=.need (A.k (@tt (ao×Node)) (m,n)) (.br (A.c .neq (A.k Aq (m,n)) 0) (.ret ((0,0,(0,0,0,0,0),(0,0,0,0,0,0,0),0,false,0,0,([]:List Int),([]:List aW),0,0),(A.k Aq (m,n)))) (.br (A.not when) (.ret ((0,0,(0,0,0,0,0),(0,0,0,0,0,0,0),0,false,0,0,([]:List Int),([]:List aW),0,0),181)) (.need (A.k (@tt (bR×List Int)) (n.2.2.2.2.2.2.2,n.2.2.2.2.2.2.2.2.1)) (.ret ((n.1,n.2.1,n.2.2.1,n.2.2.2.1,n.2.2.2.2.1,n.2.2.2.2.2.1,n.2.2.2.2.2.2.1,(A.k AX (n.2.2.2.2.2.2.2,n.2.2.2.2.2.2.2.2.1)).1),(A.k AX (n.2.2.2.2.2.2.2,n.2.2.2.2.2.2.2.2.1)).2)))))
def jo(m:ao)(n:Node)(w:Bool):Node×Int:=bif decide (dS m n=0) then(bif w then(n,0) else(im,181)) else(im,dS m n)
theorem kz{m:ao}{n:Node}(h:dS m n=0):dO n.2.2.2.2.2.2.2=true:=(gZ.1 (fB h).2).2.2.2.1
theorem It{c:bR}(h:dO c=true):¬8<(c.2.1.length:Int):=by
 simp only[dO,Bool.and_eq_true,decide_eq_true_eq] at h
 exact h.2.2.1
theorem RJ{m:ao}{n:Node}{w:Bool}:aB Empty.elim (Mf ai m n w) (jo m n w):=by
 unfold Mf jo
 refine af.2 ⟨rfl,?_⟩
 rw[show ai.k Aq (m,n)=dS m n from rfl]
 by_cases h:dS m n=0
 ·rw[decide_eq_true h]
  refine(ah (lk h)).2 ?_
  cases w
  ·exact(aj rfl).2 (.ret _)
  ·refine(ah rfl).2 (af.2 ⟨rfl,?_⟩)
   rw[show ai.k AX (n.2.2.2.2.2.2.2,n.2.2.2.2.2.2.2.2.1)=RZ n.2.2.2.2.2.2.2 n.2.2.2.2.2.2.2.2.1 from rfl,RZ,kz h,decide_eq_false (It (kz h))]
   exact .ret _
 ·rw[decide_eq_false h];exact(aj (jS h)).2 (.ret _)
def aR:(ao×Node×Bool)→(Node×Int):=fun(m,c,k)=>jo m c k
def OM:aA:=⟨[bC,cN,.bool], [cN,yI],(@tt (ao×Node×Bool)),aR⟩
theorem yA:Sd 74 OM:=aD ax cm true 64 [] (fun A (m,n,when)=>Mf A m n when) (fc Tryz.func74 fz) (sc TC (sc S_ sz)) fun(m,n,when) hp h=>RJ
def Ut(A:aZ)(n:Node):LT Node Empty:=.need (A.k zx n.2.2.2.2.2.2.2) (.ret (n.1,n.2.1,n.2.2.1,n.2.2.2.1,n.2.2.2.2.1,n.2.2.2.2.2.1,n.2.2.2.2.2.2.1,(A.k Eu n.2.2.2.2.2.2.2)))
theorem SI{n:Node}(h:dO n.2.2.2.2.2.2.2=true):aB Empty.elim (Ut ai n) n:=af.2 ⟨GL h,.ret _⟩
def aI:Node→Node:=fun n=>n
def xu:Node→Bool:=fun n=>dO n.2.2.2.2.2.2.2
def Uj:aA:=⟨[cN], [cN],xu,aI⟩
theorem ET:Sd 76 Uj:=aD ax cm true 24 [] (fun A n=>Ut A n) (fc Tryz.func76 fz) (sc Ui sz) fun(n:Node) hp h=>SI hp
def Ku(A:aZ)(m:ao)(n:Node)(on:Bool):LT (Node×Int) Empty:=.br (A.not on) (.need (A.k (@tt (ao×Node×Bool)) (m,n,true)) (.br (A.c .neq (A.k aR (m,n,true)).2 0) (.ret ((0,0,(0,0,0,0,0),(0,0,0,0,0,0,0),0,false,0,0,([]:List Int),([]:List aW),0,0),(A.k aR (m,n,true)).2)) (.br (A.not on) (.need (A.k (@tt (ao×Int)) (m,(A.k aR (m,n,true)).1.1)) (.ret (A.k yR (m,(A.k aR (m,n,true)).1.1)))) (.need (A.k (@tt (ao×Int)) (m,(A.k aR (m,n,true)).1.1)) (.ret (((A.k aR (m,n,true)).1.1,1,(0,0,0,0,0),(0,0,0,0,0,0,0),(A.k oZ (m,(A.k aR (m,n,true)).1.1)),(A.k aR (m,n,true)).1.2.2.2.2.2),0)))))) (.need (A.k (@tt (ao×Node×Bool)) (m,n,(A.c .eql n.2.1 0))) (.br (A.c .neq (A.k aR (m,n,(A.c .eql n.2.1 0))).2 0) (.ret ((0,0,(0,0,0,0,0),(0,0,0,0,0,0,0),0,false,0,0,([]:List Int),([]:List aW),0,0),(A.k aR (m,n,(A.c .eql n.2.1 0))).2)) (.br (A.not on) (.need (A.k (@tt (ao×Int)) (m,(A.k aR (m,n,(A.c .eql n.2.1 0))).1.1)) (.ret (A.k yR (m,(A.k aR (m,n,(A.c .eql n.2.1 0))).1.1)))) (.need (A.k (@tt (ao×Int)) (m,(A.k aR (m,n,(A.c .eql n.2.1 0))).1.1)) (.ret (((A.k aR (m,n,(A.c .eql n.2.1 0))).1.1,1,(0,0,0,0,0),(0,0,0,0,0,0,0),(A.k oZ (m,(A.k aR (m,n,(A.c .eql n.2.1 0))).1.1)),(A.k aR (m,n,(A.c .eql n.2.1 0))).1.2.2.2.2.2),0))))))
def LS(m:ao)(n:Node)(on:Bool):Node×Int:=bif decide (dS m n=0) then(bif on then(bif decide (n.2.1=0) then((n.1,1,(0,0,0,0,0),(0,0,0,0,0,0,0),(l5 m n.1).1,n.2.2.2.2.2),0) else(im,181)) else Bf m n.1) else(im,dS m n)
theorem Uz{m:ao}{n:Node}{on:Bool}:aB Empty.elim (Ku ai m n on) (LS m n on):=by
 unfold Ku LS
 rw[show ai.k aR (m,n,true)=jo m n true from rfl,show ai.k aR (m,n,ai.c .eql n.2.1 0)=jo m n (ai.c .eql n.2.1 0) from rfl,aO,jo,jo]
 by_cases h:dS m n=0
 ·rw[decide_eq_true h]
  cases on
  ·exact(aj rfl).2 (af.2 ⟨rfl,(ah rfl).2 ((aj rfl).2 (af.2 ⟨rfl,.ret _⟩))⟩)
  ·refine(ah rfl).2 (af.2 ⟨rfl,?_⟩)
   cases decide (n.2.1=0)
   ·exact(aj rfl).2 (.ret _)
   ·exact(ah rfl).2 ((ah rfl).2 (af.2 ⟨rfl,.ret _⟩))
 ·rw[decide_eq_false h]
  cases on
  ·exact(aj rfl).2 (af.2 ⟨rfl,(aj (jS h)).2 (.ret _)⟩)
  ·exact(ah rfl).2 (af.2 ⟨rfl,(aj (jS h)).2 (.ret _)⟩)
def qB:(ao×Node×Bool)→(Node×Int):=fun(m,c,k)=>LS m c k
def SX:aA:=⟨[bC,cN,.bool], [cN,yI],(@tt (ao×Node×Bool)),qB⟩
theorem Pt:Sd 26 SX:=aD ax cm true 90 [] (fun A (m,n,on)=>Ku A m n on) (fc Tryz.func26 (fc Tryz.func77 fz)) (sc Ji (sc yA (sc xY sz))) fun(m,n,on) hp h=>Uz
theorem KA{k:Int}(h:0≤k∧k≤8):ai.v .u64 k=k:=by
 obtain⟨j,rfl⟩:∃j:Nat,k=j:=⟨k.toNat,by omega⟩
 exact dA (by omega)
end Go.Ev.M
