/-
  PROVED: what functions of the packages modes, medl, cstate, busctl and of their documents compute. Conditions: none.
-/
import Derived.Test.YtjceiokllpmnkaaGreatCa
import Derived.Test.YtjceiokllpmnkaaGreatMb
namespace Go.Ev.M
open Go.Proofs
set_option maxRecDepth 100000
set_option linter.unusedVariables false
set_option linter.unusedSimpArgs false
open Go.Ev.Pl
abbrev dF(m:ax):Int:=(m.2.2.2.2.2.2.2.length:Int)
theorem xe{c:eG}{k:Int}(h:jZ (c,k)=0):(4≤k∧k≤8)∧(0≤c.1∧c.1≤255)∧(0≤c.2.1∧c.2.1≤k-1)∧(0≤c.2.2.1∧c.2.2.1≤3)∧(0≤c.2.2.2.1∧c.2.2.2.1≤4)∧(0≤c.2.2.2.2∧c.2.2.2.2≤2^k.toNat-1):=by
 obtain⟨t,p,m,n,s⟩:=c
 rw[jZ] at h
 cases h1:decide (k<4)||decide (8<k)
 ·rw[h1,cond_false] at h
  rw[Bool.or_eq_false_iff,decide_eq_false_iff_not,decide_eq_false_iff_not] at h1
  cases h2:((decide (0≤t)&&decide (t≤255))&&((decide (0≤p)&&decide (p≤k-1))&&((decide (0≤m)&&decide (m≤3))&&((decide (0≤n)&&decide (n≤4))&&(decide (0≤s)&&decide (s≤2^k.toNat-1))))))
  ·rw[h2,cond_false] at h;exact absurd h (by decide)
  ·simp only[Bool.and_eq_true,decide_eq_true_eq] at h2
   exact⟨by omega,h2.1,h2.2.1,h2.2.2.1,h2.2.2.2.1,h2.2.2.2.2⟩
 ·rw[h1,cond_true] at h;exact absurd h (by decide)
def iR(m:ax)(c:eG):Bool:=decide (jZ (c,m.1)=0)&&(decide (c.2.2.1<dF m)&&decide (c.2.2.2.1≤dF m))
def gv(m:ax)(c:eG):Int:=bif eO m then(bif iR m c then 0 else 40) else 70
theorem mQ{m:ax}{c:eG}(h:gv m c=0):eO m=true∧jZ (c,m.1)=0∧(0≤c.2.2.1∧c.2.2.1<dF m)∧c.2.2.2.1≤dF m:=by
 unfold gv at h
 cases hm:eO m
 ·rw[hm,cond_false] at h;exact absurd h (by decide)
 ·cases hf:iR m c
  ·rw[hm,hf,cond_true,cond_false] at h;exact absurd h (by decide)
  ·simp only[iR,Bool.and_eq_true,decide_eq_true_eq] at hf
   exact⟨rfl,hf.1,⟨(xe hf.1).2.2.2.1.1,hf.2.1⟩,hf.2.2⟩
theorem gE{m:ax}(h:eO m=true):(4≤m.1∧m.1≤8)∧(1≤dF m∧dF m≤4)∧(m.2.2.2.2.2.2.1.length:Int)=m.1∧m.2.2.2.2.2.2.2.all (jQ m)=true:=by
 obtain⟨n,s,g,w,d,de,cold,modes⟩:=m
 have:=KI h
 exact⟨this.1,this.2.1,this.2.2.1,this.2.2.2.1⟩
theorem o7{m:ax}(h:eO m=true){i:Int}(h0:0≤i)(h1:i<dF m):jQ m (ai.n bE m.2.2.2.2.2.2.2 i:Mode)=true:=by
 obtain⟨k,rfl⟩:∃k:Nat,i=k:=⟨i.toNat,by omega⟩
 have hk:k<m.2.2.2.2.2.2.2.length:=by unfold dF at h1;omega
 rw[show(ai.n bE m.2.2.2.2.2.2.2 (k:Int):Mode)=m.2.2.2.2.2.2.2[k] from getD_in hk _]
 exact List.all_eq_true.1 (gE h).2.2.2 _ (List.getElem_mem hk)
theorem kE{m:ax}{x:Mode}(h:jQ m x=true):(x.1.length:Int)=m.1∧(x.2.1.length:Int)=m.1∧(x.2.2.length:Int)=dF m:=by
 simp only[jQ,Bool.and_eq_true,beq_iff_eq] at h
 exact⟨h.1.1.1,h.1.1.2,by rw[h.1.2]⟩
theorem mI{α:Type}{l:List α}{i:Int}(h0:0≤i)(h1:i<(l.length:Int)):ai.and (ai.c .leq 0 i) (ai.c .lss i (ai.l l))=true:=by
 rw[pj,ay,ar,aM];simp;omega
theorem uR{x:Int}(h:x=0):ai.c .neq x 0=false:=by rw[h];rfl
theorem rh{x:Int}(h:¬x=0):ai.c .neq x 0=true:=by rw[aB];simpa using h
theorem SD{x:Int}(h:¬x=0):ai.c .eql x 0=false:=by rw[aC];simpa using h
theorem Ia{x:Int}(h:x=0):ai.c .eql x 0=true:=by rw[h];rfl
def Qc(A:bK)(m:ax)(c:eG):LT Bool Empty:=.need (A.k (@tt ((Int×Int×Int×Int×Int)×Int)) (c,m.1)) (.br (A.c .eql (A.k Ut (c,m.1)) 0) (.br (A.c .lss c.2.2.1 (A.l m.2.2.2.2.2.2.2)) (.ret (A.c .leq c.2.2.2.1 (A.l m.2.2.2.2.2.2.2))) (.ret false)) (.ret false))
theorem Qq{m:ax}{c:eG}:aK Empty.elim (Qc ai m c) (iR m c):=by
 unfold Qc
 refine af.2 ⟨rfl,?_⟩
 rw[show ai.k Ut (c,m.1)=jZ (c,m.1) from rfl]
 by_cases h:jZ (c,m.1)=0
 ·rw[iR,decide_eq_true h]
  refine(ak (Ia h)).2 (aV (p:=c.2.2.1<dF m) rfl (fun h2=>?_) fun h2=>?_)
  ·exact aI (by rw[decide_eq_true h2];rfl) (.ret _)
  ·exact aI (by rw[decide_eq_false h2];rfl) (.ret _)
 ·rw[iR,decide_eq_false h]
  exact(aj (SD h)).2 (.ret _)
def Q5(A:bK)(m:ax)(c:eG):LT Bool Empty:=.need (A.k (@tt ((Int×Int×Int×Int×Int)×Int)) (c,m.1)) (.br (A.c .eql (A.k j6 (c,m.1)) 0) (.br (A.c .lss c.2.2.1 (A.l m.2.2.2.2.2.2.2)) (.ret (A.c .leq c.2.2.2.1 (A.l m.2.2.2.2.2.2.2))) (.ret false)) (.ret false))
theorem L9{m:ax}{c:eG}:aK Empty.elim (Q5 ai m c) (iR m c):=Qq
def IV:(ax×eG)→Bool:=fun(m,c)=>iR m c
def SF:aG:=⟨[cr,q9], [.bool],(@tt (ax×eG)),IV⟩
theorem T9:Sd 45 SF:=a_ aA dY true 37 [] (fun A (m,c)=>Q5 A m c) (fc Tryz.func45 fz) (sc xP sz) fun(m,c) hp h=>L9
def J2(A:bK)(m:ax)(n:Int):LT Bool Empty:=.br (A.c .geq n 0) (.ret (A.c .lss n (A.l m.2.2.2.2.2.2.2))) (.ret false)
def VN(m:ax)(n:Int):Bool:=decide (0≤n∧n<dF m)
theorem ZK{m:ax}{n:Int}:aK Empty.elim (J2 ai m n) (VN m n):=by
 unfold J2 VN
 refine aV (p:=0≤n) rfl (fun h=>?_) fun h=>?_
 ·exact aI (by rw[Bool.eq_iff_iff,pj,ar];simp;omega) (.ret _)
 ·exact aI (decide_eq_false (by omega)).symm (.ret _)
def rV:(ax×Int)→Bool:=fun(m,c)=>VN m c
def Mt:aG:=⟨[cr,yI], [.bool],(@tt (ax×Int)),rV⟩
theorem Dr:Sd 244 Mt:=a_ aA dY true 24 [] (fun A (m,n)=>J2 A m n) (fc Tryz.func244 fz) sz fun(m,n) hp h=>ZK
def JK(A:bK)(m:ax)(c:eG):LT Int Empty:=.need (A.k (@tt ax) m) (.br (A.c .neq (A.k eP m) 0) (.ret (A.k eP m)) (.need (A.k (@tt ((Int×Int×Int×Int×Int)×Int)) (c,m.1)) (.br (A.c .neq (A.k j6 (c,m.1)) 0) (.ret 40) (.need (A.k (@tt (ax×Int)) (m,c.2.2.1)) (.br (A.not (A.k rV (m,c.2.2.1))) (.ret 40) (.br (A.c .gtr c.2.2.2.1 (A.l m.2.2.2.2.2.2.2)) (.ret 40) (.ret 0)))))))
theorem Ti{m:ax}{c:eG}:aK Empty.elim (JK ai m c) (gv m c):=by
 unfold JK gv
 refine af.2 ⟨rfl,?_⟩
 rw[show ai.k eP m=l7 m from rfl,l7]
 cases hm:eO m
 ·exact(ak rfl).2 (.ret _)
 refine(aj rfl).2 (af.2 ⟨rfl,?_⟩)
 rw[show ai.k j6 (c,m.1)=jZ (c,m.1) from rfl]
 by_cases h:jZ (c,m.1)=0
 ·have h0:=(xe h).2.2.2.1.1
  rw[iR,decide_eq_true h]
  refine(aj (uR h)).2 (af.2 ⟨rfl,?_⟩)
  rw[show ai.k rV (m,c.2.2.1)=decide (0≤c.2.2.1∧c.2.2.1<dF m) from rfl]
  by_cases h2:c.2.2.1<dF m
  ·rw[decide_eq_true (show 0≤c.2.2.1∧c.2.2.1<dF m from⟨h0,h2⟩),decide_eq_true h2]
   refine(aj rfl).2 (aV (p:=dF m<c.2.2.2.1) rfl (fun h3=>?_) fun h3=>?_)
   ·exact aI (by rw[decide_eq_false (by omega)];rfl) (.ret _)
   ·exact aI (by rw[decide_eq_true (by omega)];rfl) (.ret _)
  ·rw[decide_eq_false (show ¬(0≤c.2.2.1∧c.2.2.1<dF m) from fun h=>h2 h.2),decide_eq_false h2]
   exact(ak rfl).2 (.ret _)
 ·rw[iR,decide_eq_false h]
  exact(ak (rh h)).2 (.ret _)
def oD:(ax×eG)→Int:=fun(m,c)=>gv m c
def OE:aG:=⟨[cr,q9], [yI],(@tt (ax×eG)),oD⟩
theorem Ee:Sd 185 OE:=a_ aA dY true 56 [] (fun A (m,c)=>JK A m c) (fc Tryz.func185 fz) (sc xP (sc vp (sc Dr sz))) fun(m,c) hp h=>Ti
def Lf(A:bK)(m:ax)(c:eG)(mode:Int):LT Bool Empty:=.need (A.k (@tt (ax×Int)) (m,mode)) (.br (A.k rV (m,mode)) (.br (A.c .neq mode c.2.2.1) (.br (A.c .eql c.2.2.2.1 0) (.need (A.and (A.c .leq 0 c.2.2.1) (A.c .lss c.2.2.1 (A.l m.2.2.2.2.2.2.2))) (.need (A.and (A.c .leq 0 mode) (A.c .lss mode (A.l (A.n bE m.2.2.2.2.2.2.2 c.2.2.1:Mode).2.2))) (.ret (A.n .bool (A.n bE m.2.2.2.2.2.2.2 c.2.2.1:Mode).2.2 mode:Bool)))) (.ret false)) (.ret false)) (.ret false))
def lY(m:ax)(c:eG)(k:Int):Bool:=decide (0≤k∧k<dF m)&&(decide (¬k=c.2.2.1)&&(decide (c.2.2.2.1=0)&&(ai.n .bool (ai.n bE m.2.2.2.2.2.2.2 c.2.2.1:Mode).2.2 k:Bool)))
theorem cv{a b:Int}:ai.c .neq a b=decide (¬a=b):=by rw[aB,Bool.eq_iff_iff];simp
theorem Eh{R Y:Type}{step:Y→LT R Y}{m:ax}{c:eG}{k:Int}{e:LT R Y}{r:R}{f:Bool→R}(h:gv m c=0)(hk:0≤k∧k<dF m)(hr:f (lY m c k)=r)(hf:f false=r→aK step e r) :
  aK step (.br (ai.c .neq k c.2.2.1) (.br (ai.c .eql c.2.2.2.1 0) (.need (ai.and (ai.c .leq 0 c.2.2.1) (ai.c .lss c.2.2.1 (ai.l m.2.2.2.2.2.2.2))) (.need (ai.and (ai.c .leq 0 k) (ai.c .lss k (ai.l (ai.n bE m.2.2.2.2.2.2.2 c.2.2.1:Mode).2.2))) (.ret (f (ai.n .bool (ai.n bE m.2.2.2.2.2.2.2 c.2.2.1:Mode).2.2 k:Bool))))) e) e) r:=by
 obtain⟨hm,_,hc,_⟩:=mQ h
 rw[lY,decide_eq_true hk,Bool.true_and] at hr
 refine aV (p:=¬k=c.2.2.1) cv (fun h1=>aV (p:=c.2.2.2.1=0) bW (fun h2=>af.2 ⟨mI hc.1 hc.2,af.2 ⟨mI hk.1 ?_,?_⟩⟩) fun h2=>hf ?_) fun h1=>hf ?_
 ·exact(kE (o7 hm hc.1 hc.2)).2.2▸hk.2
 ·exact aI (by rw[←hr,decide_eq_true h1,decide_eq_true h2];rfl) (.ret _)
 ·rw[←hr,decide_eq_false h2];cases decide (¬k=c.2.2.1)<;>rfl
 ·rw[←hr,decide_eq_false h1];rfl
theorem Pk{m:ax}{c:eG}{k:Int}(h:gv m c=0):aK Empty.elim (Lf ai m c k) (lY m c k):=by
 unfold Lf
 refine af.2 ⟨rfl,?_⟩
 rw[show ai.k rV (m,k)=decide (0≤k∧k<dF m) from rfl]
 by_cases hk:0≤k∧k<dF m
 ·exact(ak (decide_eq_true hk)).2 (Eh (f:=id) h hk rfl fun e=>aI e (.ret _))
 ·exact(aj (decide_eq_false hk)).2 (aI (by rw[lY,decide_eq_false hk];rfl) (.ret _))
def Fw:(ax×eG×Int)→Bool:=fun(m,c,k)=>lY m c k
def Eg:(ax×eG×Int)→Bool:=fun(m,c,_)=>decide (gv m c=0)
def Qj:aG:=⟨[cr,q9,yI], [.bool],Eg,Fw⟩
theorem SZ:Sd 290 Qj:=a_ aA dY true 42 [] (fun A (m,c,mode)=>Lf A m c mode) (fc Tryz.func290 fz) (sc Dr sz) fun((m,c,mode):ax×eG×Int) hp h=>Pk (of_decide_eq_true hp)
structure Dp where
 (a0:Int) (a2:ax) (a3:eG) (a4:Int) (a5:ax) (a6:eG) (a7:ax) (a8:eG) (a9:Int) (fw:ax) (jK:Int) (a12:eG)
inductive GF where
 | c0 (p:Dp) (a1:Int)
noncomputable def KC:GF→ei
 | .c0 p a1=>⟨[⟨289,26,(en [(0,.yield 0),(1,.ptr 1 0),(2,.ptr 2 0),(11,vi p.a0),(12,vi a1)]),[.inLoop (cw Tryz.f289 [1,1,0,0]),.inBlock 0],[],none⟩,⟨186,16,(en [(6,.ptr 3 0)]),[.gI 0,.inBlock 0,.code (cw Tryz.f186 [1,1])],[4],none⟩],[.loop ⟨186,16,(en [(0,.agg [vi p.a2.1,vi p.a2.2.1,vi p.a2.2.2.1,vi p.a2.2.2.2.1,vi p.a2.2.2.2.2.1,vi p.a2.2.2.2.2.2.1,.sl .bool p.a2.2.2.2.2.2.2.1,.sl bE p.a2.2.2.2.2.2.2.2]),(1,.agg [vi p.a3.1,vi p.a3.2.1,vi p.a3.2.2.1,vi p.a3.2.2.2.1,vi p.a3.2.2.2.2]),(2,vi p.a4),(3,.ptr 5 0),(4,.ptr 7 0),(5,.ptr 6 0),(6,.ptr 3 0),(8,.agg [vi p.a5.1,vi p.a5.2.1,vi p.a5.2.2.1,vi p.a5.2.2.2.1,vi p.a5.2.2.2.2.1,vi p.a5.2.2.2.2.2.1,.sl .bool p.a5.2.2.2.2.2.2.1,.sl bE p.a5.2.2.2.2.2.2.2]),(9,.agg [vi p.a6.1,vi p.a6.2.1,vi p.a6.2.2.1,vi p.a6.2.2.2.1,vi p.a6.2.2.2.2]),(10,.fn 289 [] [.ptr 1 0,.ptr 2 0])]),[11],(cw Tryz.f186 [1,0,1,0,0]),(cw Tryz.f186 [1,0,1,0,1]),0,none⟩,.flat false [vi p.a7.1,vi p.a7.2.1,vi p.a7.2.2.1,vi p.a7.2.2.2.1,vi p.a7.2.2.2.2.1,vi p.a7.2.2.2.2.2.1,.sl .bool p.a7.2.2.2.2.2.2.1,.sl bE p.a7.2.2.2.2.2.2.2],.flat false [vi p.a8.1,vi p.a8.2.1,vi p.a8.2.2.1,vi p.a8.2.2.2.1,vi p.a8.2.2.2.2],.flat false [vi p.a9],.wS,.flat false [vi p.fw.1,vi p.fw.2.1,vi p.fw.2.2.1,vi p.fw.2.2.2.1,vi p.fw.2.2.2.2.1,vi p.fw.2.2.2.2.2.1,.sl .bool p.fw.2.2.2.2.2.2.1,.sl bE p.fw.2.2.2.2.2.2.2],.flat false [vi p.jK],.flat false [vi p.a12.1,vi p.a12.2.1,vi p.a12.2.2.1,vi p.a12.2.2.2.1,vi p.a12.2.2.2.2],.dead]⟩
def Ke(A:bK)(m:ax)(c:eG)(mode:Int):LT Int GF:=.need (A.k (@tt (ax×eG)) (m,c)) (.br (A.c .neq (A.k oD (m,c)) 0) (.ret (-1)) (.more (.c0 ⟨(A.l m.2.2.2.2.2.2.2),m,c,mode,m,c,m,c,0,m,mode,c⟩ 0)))
def D3(A:bK):GF→LT Int GF
 | .c0 p a1=>.br (A.c .lss a1 p.a0) (.need (A.k Eg (p.a7,p.a8,a1)) (.br (A.k Fw (p.a7,p.a8,a1)) (.br (A.c .eql a1 p.jK) (.ret a1) (.more (.c0 p (A.b .add .i64 a1 1)))) (.more (.c0 p (A.b .add .i64 a1 1))))) (.ret (-1))
def ze(m:ax)(c:eG)(k:Int):Int:=bif decide (gv m c=0)&&lY m c k then k else -1
theorem FU{p:Dp}{m:ax}{c:eG}{k:Int}(h0:p.a0=dF m)(h7:p.a7=m)(h8:p.a8=c)(h11:p.jK=k)(h:gv m c=0):∀(j i:Nat),m.2.2.2.2.2.2.2.length-i=j→i≤m.2.2.2.2.2.2.2.length→aK (D3 ai) (.more (.c0 p (i:Int))) (bif decide ((i:Int)≤k)&&lY m c k then k else -1):=by
 have hl:=(gE (mQ h).1).2.1
 unfold dF at hl h0
 intro j
 induction j with
 | zero=>
   intro i hj hi
   rw[ap,D3,h0]
   refine(aj (by rw[ar];exact decide_eq_false (by omega))).2 (aI ?_ (.ret _))
   by_cases hk:(i:Int)≤k
   ·rw[lY,decide_eq_false (show ¬(0≤k∧k<dF m) by unfold dF;omega),Bool.false_and,Bool.and_false];rfl
   ·rw[decide_eq_false hk];rfl
 | succ j ih=>
   intro i hj hi
   rw[ap,D3,h0,h7,h8,h11]
   refine(ak (by rw[ar];exact decide_eq_true (by omega))).2 (af.2 ⟨by rw[al];exact decide_eq_true h,?_⟩)
   rw[show ai.k Fw (m,c,(i:Int))=lY m c i from rfl,fe (i:=i) (by omega)]
   have hn:=ih (i+1) (by omega) (by omega)
   cases hm:lY m c i
   ·refine(aj rfl).2 (aI ?_ hn)
    by_cases hk:(i:Int)=k
    ·rw[←hk,hm,Bool.and_false,Bool.and_false]
    ·rw[show decide (((i+1:Nat):Int)≤k)=decide ((i:Int)≤k) by rw[Bool.eq_iff_iff];simp;omega]
   ·refine(ak rfl).2 (aV (p:=(i:Int)=k) bW (fun hk=>?_) fun hk=>?_)
    ·exact aI (by rw[←hk,hm,decide_eq_true (Int.le_refl _)];rfl) (.ret _)
    ·exact aI (by rw[show decide (((i+1:Nat):Int)≤k)=decide ((i:Int)≤k) by rw[Bool.eq_iff_iff];simp;omega]) hn
theorem VT{m:ax}{c:eG}{k:Int}:aK (D3 ai) (Ke ai m c k) (ze m c k):=by
 unfold Ke ze
 refine af.2 ⟨rfl,?_⟩
 rw[show ai.k oD (m,c)=gv m c from rfl]
 by_cases h:gv m c=0
 ·rw[decide_eq_true h]
  refine(aj (uR h)).2 (aI ?_ (FU (p:=⟨dF m,m,c,k,m,c,m,c,0,m,k,c⟩) (k:=k) rfl rfl rfl rfl h m.2.2.2.2.2.2.2.length 0 rfl (by omega)))
  by_cases hk:0≤k
  ·rw[show decide (((0:Nat):Int)≤k)=true from decide_eq_true hk]
  ·rw[lY,decide_eq_false (show ¬(0≤k∧k<dF m) by omega),Bool.false_and,Bool.and_false,Bool.and_false]
 ·rw[decide_eq_false h]
  exact(ak (rh h)).2 (.ret _)
def vz:(ax×eG×Int)→Int:=fun(m,c,k)=>ze m c k
def TO:aG:=⟨[cr,q9,yI], [yI],(@tt (ax×eG×Int)),vz⟩
theorem Jp:Sd 186 TO:=aQ aA dY true 53 [⟨289,2, [[0,1,2,11,12], [6]]⟩] [] (fun A (m,c,mode)=>Ke A m c mode) D3 KC (fc Tryz.func186 (fc Tryz.func245 (fc Tryz.func289 fz))) (sc Ee (sc SZ sz)) (fun A y=>match y with |.c0 p a1=>⟨55,by kernel_rfl,by kernel_rfl⟩) fun(m,c,mode) hp h=>VT
def KU(A:bK)(m:ax)(c:eG)(want:Int):LT (Int×Int) Empty:=.need (A.k (@tt (ax×eG)) (m,c)) (.br (A.c .neq (A.k oD (m,c)) 0) (.ret (0,(A.k oD (m,c)))) (.br (A.c .neq want (-1)) (.need (A.k (@tt (ax×Int)) (m,want)) (.br (A.not (A.k rV (m,want))) (.ret (0,100)) (.br (A.c .lss want 0) (.ret (0,0)) (.need (A.k (@tt (ax×eG×Int)) (m,c,want)) (.ret ((A.b .add .i64 (A.k vz (m,c,want)) 1),0)))))) (.br (A.c .lss want 0) (.ret (0,0)) (.need (A.k (@tt (ax×eG×Int)) (m,c,want)) (.ret ((A.b .add .i64 (A.k vz (m,c,want)) 1),0))))))
def rJ(m:ax)(c:eG)(w:Int):Int×Int:=bif decide (gv m c=0) then(bif decide (-1≤w∧w<dF m) then(bif lY m c w then(w+1,0) else(0,0)) else(0,100)) else(0,gv m c)
theorem Ks{m:ax}{c:eG}{w:Int}(h:¬(0≤w∧w<dF m)):lY m c w=false:=by rw[lY,decide_eq_false h];rfl
theorem TF{m:ax}{c:eG}{w:Int}:aK Empty.elim (KU ai m c w) (rJ m c w):=by
 unfold KU rJ
 refine af.2 ⟨rfl,?_⟩
 rw[show ai.k oD (m,c)=gv m c from rfl,show ai.k rV (m,w)=decide (0≤w∧w<dF m) from rfl,show ai.k vz (m,c,w)=ze m c w from rfl]
 by_cases h:gv m c=0
 ·have hl:=(gE (mQ h).1).2.1
  rw[decide_eq_true h]
  refine(aj (uR h)).2 (aV (p:=¬w = -1) cv (fun h1=>af.2 ⟨rfl,?_⟩) fun h1=>?_)
  ·by_cases h2:0≤w∧w<dF m
   ·rw[decide_eq_true h2,decide_eq_true (show -1≤w∧w<dF m by omega)]
    refine(aj rfl).2 ((aj (by rw[ar];exact decide_eq_false (by omega))).2 (af.2 ⟨rfl,aI ?_ (.ret _)⟩))
    rw[ze,decide_eq_true h]
    cases lY m c w
    ·rfl
    ·rw[Bool.true_and,cond_true,cond_true,cond_true,cond_true,bq,gW (by omega) (by omega)]
   ·rw[decide_eq_false h2,decide_eq_false (show ¬(-1≤w∧w<dF m) by omega)]
    exact(ak rfl).2 (.ret _)
  ·have h2:w = -1:=by omega
   subst h2
   rw[Ks (by omega),decide_eq_true (show(-1:Int)≤ -1∧ -1<dF m by omega)]
   exact(ak rfl).2 (.ret _)
 ·rw[decide_eq_false h]
  exact(ak (rh h)).2 (.ret _)
def xO:(ax×eG×Int)→(Int×Int):=fun(m,c,k)=>rJ m c k
def RV:aG:=⟨[cr,q9,yI], [yI,yI],(@tt (ax×eG×Int)),xO⟩
theorem TR:Sd 328 RV:=a_ aA dY true 60 [] (fun A (m,c,want)=>KU A m c want) (fc Tryz.func328 fz) (sc Ee (sc Jp (sc Dr sz))) fun(m,c,want) hp h=>TF
def Ll(A:bK)(m:ax)(c:eG)(req:Int):LT (eG×Int) Empty:=.need (A.k (@tt (ax×eG)) (m,c)) (.br (A.c .neq (A.k oD (m,c)) 0) (.ret ((0,0,0,0,0),(A.k oD (m,c)))) (.br (A.c .lss req 0) (.ret ((0,0,0,0,0),100)) (.br (A.c .gtr req (A.l m.2.2.2.2.2.2.2)) (.ret ((0,0,0,0,0),100)) (.br (A.c .gtr req 0) (.need (A.k (@tt (ax×eG×Int)) (m,c,(A.b .sub .i64 req 1))) (.br (A.c .geq (A.k vz (m,c,(A.b .sub .i64 req 1))) 0) (.ret ((c.1,c.2.1,c.2.2.1,req,c.2.2.2.2),0)) (.ret (c,0)))) (.ret (c,0))))))
def xq(m:ax)(c:eG)(r:Int):eG×Int:=bif decide (gv m c=0) then(bif decide (0≤r∧r≤dF m) then(bif decide (0<r)&&lY m c (r-1) then((c.1,c.2.1,c.2.2.1,r,c.2.2.2.2),0) else(c,0)) else((0,0,0,0,0),100)) else((0,0,0,0,0),gv m c)
theorem XH{m:ax}{c:eG}{r:Int}:aK Empty.elim (Ll ai m c r) (xq m c r):=by
 unfold Ll xq
 refine af.2 ⟨rfl,?_⟩
 rw[show ai.k oD (m,c)=gv m c from rfl,show ai.k vz (m,c,(ai.b .sub .i64 r 1))=ze m c (ai.b .sub .i64 r 1) from rfl]
 by_cases h:gv m c=0
 ·have hl:=(gE (mQ h).1).2.1
  rw[decide_eq_true h]
  refine(aj (uR h)).2 (aV (p:=r<0) rfl (fun h1=>?_) fun h1=>aV (p:=dF m<r) rfl (fun h2=>?_) fun h2=>?_)
  ·exact aI (by rw[decide_eq_false (by omega)];rfl) (.ret _)
  ·exact aI (by rw[decide_eq_false (by omega)];rfl) (.ret _)
  ·rw[decide_eq_true (show 0≤r∧r≤dF m by omega),bl,gW (by omega) (by omega)]
   refine aV (p:=0<r) rfl (fun h3=>af.2 ⟨rfl,?_⟩) fun h3=>?_
   ·rw[decide_eq_true h3,ze,decide_eq_true h,Bool.true_and]
    cases hm:lY m c (r-1)
    ·exact(aj rfl).2 (.ret _)
    ·exact(ak (by rw[cond_true,aS];exact decide_eq_true (by omega))).2 (.ret _)
   ·exact aI (by rw[decide_eq_false h3];rfl) (.ret _)
 ·rw[decide_eq_false h]
  exact(ak (rh h)).2 (.ret _)
def sM:(ax×eG×Int)→(eG×Int):=fun(m,c,k)=>xq m c k
def Tw:aG:=⟨[cr,q9,yI], [q9,yI],(@tt (ax×eG×Int)),sM⟩
theorem IX:Sd 111 Tw:=a_ aA dY true 69 [] (fun A (m,c,req)=>Ll A m c req) (fc Tryz.func111 fz) (sc Ee (sc Jp sz)) fun(m,c,req) hp h=>XH
open Go.Ev.Pl
def KQ(A:bK)(m:ax)(node:Int):LT Int Empty:=.need (A.k (@tt ax) m) (.br (A.c .neq (A.k eP m) 0) (.ret (A.k eP m)) (.need (A.k (@tt (Int×Int×Int)) (node,0,(A.b .sub .i64 m.1 1))) (.br (A.not (A.k dx (node,0,(A.b .sub .i64 m.1 1)))) (.ret 2) (.ret 0))))
theorem oq{α:Type}{l:List α}{i n:Int}(e:(l.length:Int)=n)(h0:0≤i)(h1:i<n):ai.and (ai.c .leq 0 i) (ai.c .lss i (ai.l l))=true:=mI h0 (e▸h1)
def iG(m:ax)(n:Int):Int:=bif eO m then(bif decide (0≤n∧n≤m.1-1) then 0 else 2) else 70
theorem vv{m:ax}{n:Int}(h:iG m n=0):eO m=true∧0≤n∧n≤m.1-1:=by
 unfold iG at h
 cases hm:eO m
 ·rw[hm,cond_false] at h;exact absurd h (by decide)
 ·by_cases hn:0≤n∧n≤m.1-1
  ·exact⟨rfl,hn⟩
  ·rw[hm,decide_eq_false hn,cond_true,cond_false] at h;exact absurd h (by decide)
theorem JL{m:ax}{n:Int}:aK Empty.elim (KQ ai m n) (iG m n):=by
 unfold KQ iG
 refine af.2 ⟨rfl,?_⟩
 rw[show ai.k eP m=l7 m from rfl,l7]
 cases hm:eO m
 ·exact(ak rfl).2 (.ret _)
 have hl:=(gE hm).1
 rw[bl,gW (by omega) (by omega)]
 refine(aj rfl).2 (af.2 ⟨rfl,dS (fun h=>?_) fun h=>?_⟩)
 ·exact aI (by rw[decide_eq_false h];rfl) (.ret _)
 ·exact aI (by rw[decide_eq_true h];rfl) (.ret _)
def vE:(ax×Int)→Int:=fun(m,n)=>iG m n
def OR:aG:=⟨[cr,yI], [yI],(@tt (ax×Int)),vE⟩
theorem Ju:Sd 181 OR:=a_ aA dY true 41 [] (fun A (m,node)=>KQ A m node) (fc Tryz.func181 fz) (sc vp (sc xQ sz)) fun(m,node) hp h=>JL
def KB(A:bK)(m:ax)(node:Int):LT (Int×Int) Empty:=.need (A.k (@tt (ax×Int)) (m,node)) (.br (A.c .neq (A.k vE (m,node)) 0) (.ret (0,(A.k vE (m,node)))) (.ret ((A.b .mul .i64 2 (A.b .add .i64 node 1)),0)))
def zm(m:ax)(n:Int):Int×Int:=bif decide (iG m n=0) then((ai.b .mul .i64 2 (ai.b .add .i64 n 1)),0) else(0,iG m n)
theorem Qo{m:ax}{n:Int}:aK Empty.elim (KB ai m n) (zm m n):=by
 unfold KB zm
 refine af.2 ⟨rfl,aV (p:=¬iG m n=0) cv (fun h=>?_) fun h=>?_⟩
 ·exact aI (by rw[decide_eq_false h];rfl) (.ret _)
 ·exact aI (by rw[decide_eq_true (by omega)];rfl) (.ret _)
def vO:(ax×Int)→(Int×Int):=fun(m,n)=>zm m n
def QF:aG:=⟨[cr,yI], [yI,yI],(@tt (ax×Int)),vO⟩
theorem Jj:Sd 175 QF:=a_ aA dY true 35 [] (fun A (m,node)=>KB A m node) (fc Tryz.func175 fz) (sc Ju sz) fun(m,node) hp h=>Qo
def Cv(m:ax)(n:Int):Int×Int:=bif decide (iG m n=0) then((ai.b .add .i64 (ai.b .mul .i64 4 m.1) (ai.b .mul .i64 2 (ai.b .add .i64 n 1))),0) else(0,iG m n)
def J4(A:bK)(m:ax)(node:Int):LT (Int×Int) Empty:=.need (A.k (@tt (ax×Int)) (m,node)) (.br (A.c .neq (A.k vO (m,node)).2 0) (.ret (0,(A.k vO (m,node)).2)) (.ret ((A.b .add .i64 (A.b .mul .i64 4 m.1) (A.k vO (m,node)).1),0)))
theorem Pm{m:ax}{n:Int}:aK Empty.elim (J4 ai m n) (Cv m n):=by
 unfold J4 Cv
 refine af.2 ⟨rfl,?_⟩
 rw[show ai.k vO (m,n)=zm m n from rfl,zm]
 by_cases h:iG m n=0
 ·rw[decide_eq_true h];exact(aj rfl).2 (.ret _)
 ·rw[decide_eq_false h];exact(ak (rh h)).2 (.ret _)
def IY:(ax×Int)→(Int×Int):=fun(m,n)=>Cv m n
def Tf:aG:=⟨[cr,yI], [yI,yI],(@tt (ax×Int)),IY⟩
theorem Qd:Sd 100 Tf:=a_ aA dY true 41 [] (fun A (m,node)=>J4 A m node) (fc Tryz.func100 fz) (sc Jj sz) fun(m,node) hp h=>Pm
def Ld(A:bK)(m:ax)(mode:Int)(node:Int):LT (Int×Int) Empty:=.need (A.k (@tt (ax×Int)) (m,node)) (.br (A.c .neq (A.k vE (m,node)) 0) (.ret (0,(A.k vE (m,node)))) (.need (A.k (@tt (Int×Int×Int)) (mode,0,(A.b .sub .i64 (A.l m.2.2.2.2.2.2.2) 1))) (.br (A.not (A.k dx (mode,0,(A.b .sub .i64 (A.l m.2.2.2.2.2.2.2) 1)))) (.ret (0,2)) (.need (A.and (A.c .leq 0 mode) (A.c .lss mode (A.l m.2.2.2.2.2.2.2))) (.need (A.and (A.c .leq 0 node) (A.c .lss node (A.l (A.n bE m.2.2.2.2.2.2.2 mode:Mode).2.1))) (.need (A.and (A.c .leq 0 node) (A.c .lss node (A.l (A.n bE m.2.2.2.2.2.2.2 mode:Mode).1))) (.need (A.k (@tt (Bool×Int)) ((A.n .bool (A.n bE m.2.2.2.2.2.2.2 mode:Mode).2.1 node:Bool),(A.n yI (A.n bE m.2.2.2.2.2.2.2 mode:Mode).1 node:Int))) (.ret ((A.k jP ((A.n .bool (A.n bE m.2.2.2.2.2.2.2 mode:Mode).2.1 node:Bool),(A.n yI (A.n bE m.2.2.2.2.2.2.2 mode:Mode).1 node:Int))),0)))))))))
def d_(m:ax)(k n:Int):Int×Int:=bif decide (iG m n=0) then(bif decide (0≤k∧k≤dF m-1) then(jP ((ai.n .bool (ai.n bE m.2.2.2.2.2.2.2 k:Mode).2.1 n:Bool),(ai.n (.int .i64) (ai.n bE m.2.2.2.2.2.2.2 k:Mode).1 n:Int)),0) else(0,2)) else(0,iG m n)
theorem LH{m:ax}{k n:Int}:aK Empty.elim (Ld ai m k n) (d_ m k n):=by
 unfold Ld d_
 refine af.2 ⟨rfl,?_⟩
 rw[show ai.k vE (m,n)=iG m n from rfl]
 by_cases h:iG m n=0
 ·obtain⟨hm,h1,h2⟩:=vv h
  have hl:=(gE hm).2.1
  rw[decide_eq_true h]
  have e:ai.b .sub .i64 (dF m) 1=dF m-1:=by rw[bl,gW (by omega) (by omega)]
  rw[show ai.b .sub .i64 (ai.l m.2.2.2.2.2.2.2) 1=dF m-1 from e]
  refine(aj (uR h)).2 (af.2 ⟨rfl,dS (fun h3=>?_) fun h3=>?_⟩)
  ·exact aI (by rw[decide_eq_false h3];rfl) (.ret _)
  ·have hx:=kE (o7 hm h3.1 (show k<dF m by omega))
   refine af.2 ⟨mI h3.1 (show k<dF m by omega),af.2 ⟨oq hx.2.1 h1 (by omega),af.2 ⟨oq hx.1 h1 (by omega),af.2 ⟨rfl,?_⟩⟩⟩⟩
   exact aI (by rw[decide_eq_true h3];rfl) (.ret _)
 ·rw[decide_eq_false h];exact(ak (rh h)).2 (.ret _)
def gP:(ax×Int×Int)→(Int×Int):=fun(m,c,k)=>d_ m c k
def Rl:aG:=⟨[cr,yI,yI], [yI,yI],(@tt (ax×Int×Int)),gP⟩
theorem IG:Sd 106 Rl:=a_ aA dY true 66 [] (fun A (m,mode,node)=>Ld A m mode node) (fc Tryz.func106 fz) (sc xQ (sc Jn (sc Ju sz))) fun(m,mode,node) hp h=>LH
def Lq(A:bK)(c:eG)(n:Int):LT (eG×Int) Empty:=.need (A.k (@tt ((Int×Int×Int×Int×Int)×Int)) (c,n)) (.br (A.c .neq (A.k j6 (c,n)) 0) (.ret ((0,0,0,0,0),(A.k j6 (c,n)))) (.br (A.c .eql (A.b .add .i64 c.2.1 1) n) (.br (A.c .neq c.2.2.2.1 0) (.ret (((A.b .and .i64 (A.b .add .i64 c.1 1) 255),0,(A.b .sub .i64 c.2.2.2.1 1),0,c.2.2.2.2),0)) (.ret (((A.b .and .i64 (A.b .add .i64 c.1 1) 255),0,c.2.2),0))) (.ret ((c.1,(A.b .add .i64 c.2.1 1),c.2.2),0))))
theorem Ka:∀k:Fin 256,ai.b .and .i64 ((k.val:Int)+1) 255=((k.val:Int)+1).tmod 256:=by decide +kernel
def lq(c:eG)(n:Int):eG×Int:=bif decide (jZ (c,n)=0) then(bif decide (c.2.1+1=n) then(bif decide (c.2.2.2.1=0) then(((c.1+1).tmod 256,0,c.2.2),0) else(((c.1+1).tmod 256,0,c.2.2.2.1-1,0,c.2.2.2.2),0)) else((c.1,c.2.1+1,c.2.2),0)) else((0,0,0,0,0),jZ (c,n))
theorem KY{c:eG}{n:Int}:aK Empty.elim (Lq ai c n) (lq c n):=by
 unfold Lq lq
 refine af.2 ⟨rfl,?_⟩
 rw[show ai.k j6 (c,n)=jZ (c,n) from rfl]
 by_cases h:jZ (c,n)=0
 ·obtain⟨h1,h2,h3,h4,h5,h6⟩:=xe h
  have e1:ai.b .add .i64 c.1 1=c.1+1:=by rw[bq,gW (by omega) (by omega)]
  have e2:ai.b .add .i64 c.2.1 1=c.2.1+1:=by rw[bq,gW (by omega) (by omega)]
  have e3:ai.b .sub .i64 c.2.2.2.1 1=c.2.2.2.1-1:=by rw[bl,gW (by omega) (by omega)]
  have e4:ai.b .and .i64 (c.1+1) 255=(c.1+1).tmod 256:=by
   have:=Ka ⟨c.1.toNat,by omega⟩
   rwa [show((c.1.toNat:Nat):Int)=c.1 from Int.toNat_of_nonneg h2.1] at this
  rw[decide_eq_true h,e1,e2,e3,e4]
  refine(aj (uR h)).2 (aV (p:=c.2.1+1=n) bW (fun h=>aV (p:=¬c.2.2.2.1=0) cv (fun g=>?_) fun g=>?_) fun h=>?_)
  ·exact aI (by rw[decide_eq_true h,decide_eq_false g];rfl) (.ret _)
  ·exact aI (by rw[decide_eq_true h,decide_eq_true (by omega)];rfl) (.ret _)
  ·exact aI (by rw[decide_eq_false h];rfl) (.ret _)
 ·rw[decide_eq_false h];exact(ak (rh h)).2 (.ret _)
def qQ:(eG×Int)→(eG×Int):=fun(m,c)=>lq m c
def OM:aG:=⟨[q9,yI], [q9,yI],(@tt (eG×Int)),qQ⟩
theorem R1:Sd 56 OM:=a_ aA dY true 80 [] (fun A (c,n)=>Lq A c n) (fc Tryz.func56 fz) (sc xP sz) fun(c,n) hp h=>KY
def GG(A:bK)(m:ax)(id:Int):LT Int Empty:=.need (A.k (@tt (ax×Int)) (m,id)) (.ret (A.k IY (m,id)).1)
def yC:(ax×Int)→Int:=fun(m,id)=>(GG ai m id).val (Ty.cq [yI])
def O5:aG:=⟨[cr,yI], [yI],(@tt (ax×Int)),yC⟩
theorem IS:Sd 47 O5:=aO aA dY true 27 [] (fun A (m,id)=>GG A m id) (fc Tryz.func47 fz) (sc Qd sz) (fun((m,id):ax×Int) hp h=>by
 show(GG ai m id).pre=true
 simp[GG,LT.pre,al,dh])
def GA(A:bK)(m:ax)(id:Int):LT Int Empty:=.need (A.k (@tt (ax×Int)) (m,id)) (.ret (A.k vO (m,id)).1)
def Dn:(ax×Int)→Int:=fun(m,id)=>(GA ai m id).val (Ty.cq [yI])
def NU:aG:=⟨[cr,yI], [yI],(@tt (ax×Int)),Dn⟩
theorem P_:Sd 295 NU:=aO aA dY true 27 [] (fun A (m,id)=>GA A m id) (fc Tryz.func295 fz) (sc Jj sz) (fun((m,id):ax×Int) hp h=>by
 show(GA ai m id).pre=true
 simp[GA,LT.pre,al,dh])
open Go.Ev.Pl
def G9(A:bK)(n:Int)(least:Int)(most:Int):LT Bool Empty:=.br (A.c .geq n least) (.ret (A.c .leq n most)) (.ret false)
def qJ:(Int×Int×Int)→Bool:=fun(n,least,most)=>(G9 ai n least most).val (Ty.cq [.bool])
def OD:aG:=⟨[yI,yI,yI], [.bool],(@tt (Int×Int×Int)),qJ⟩
theorem Ef:Sd 43 OD:=aO aA dY true 22 [] (fun A (n,least,most)=>G9 A n least most) (fc Tryz.func43 fz) sz (fun((n,least,most):Int×Int×Int) hp h=>by
 show(G9 ai n least most).pre=true
 simp[G9,LT.pre,al,dh])
def JS(A:bK)(n:Node):LT Bool Empty:=.need (A.k (@tt (Int×Int×Int)) (n.2.1,2,4)) (.ret (A.k qJ (n.2.1,2,4)))
theorem A9:qJ=dx:=rfl
def sF(n:Node):Bool:=decide (2≤n.2.1∧n.2.1≤4)
theorem XA{n:Node}:aK Empty.elim (JS ai n) (sF n):=by
 unfold JS sF
 exact af.2 ⟨rfl,aI (by rw[A9,al,kD,Bool.eq_iff_iff];simp) (.ret _)⟩
def cy:Node→Bool:=sF
def IK:aG:=⟨[dH], [.bool],(@tt Node),cy⟩
theorem xM:Sd 13 IK:=a_ aA dY true 18 [] (fun A n=>JS A n) (fc Tryz.func13 fz) (sc Ef sz) fun n hp h=>XA
def IJ(c:eG):Bool:=ai.and (ai.c .eql c.1 0) (ai.and (ai.c .eql c.2.1 0) (ai.and (ai.c .eql c.2.2.1 0) (ai.and (ai.c .eql c.2.2.2.1 0) (ai.and (ai.c .eql c.2.2.2.2 0) true))))
def zeroV(v:kw):Bool:=ai.and (ai.c .eql v.1 0) (ai.and (ai.c .eql v.2.1 0) (ai.and (ai.c .eql v.2.2.1 0) (ai.and (ai.c .eql v.2.2.2.1 0) (ai.and (ai.c .eql v.2.2.2.2.1 0) (ai.and (ai.c .eql v.2.2.2.2.2.1 0) (ai.and (ai.c .eql v.2.2.2.2.2.2 0) true))))))
def ub(m:ax)(n:Node):Bool:=bif sF n then(iR m n.2.2.1&&(decide (tO n.2.2.2.1=0)&&(decide (n.2.2.2.1.1=n.1)&&(decide (n.2.2.2.1.2.1=m.1)&&decide (n.2.2.1.2.2.2.2=n.2.2.2.1.2.2.1))))) else(IJ n.2.2.1&&zeroV n.2.2.2.1)
def yK(m:ax)(n:Node):Bool:=bif decide (n.2.1=1) then decide (1≤n.2.2.2.2.1∧n.2.2.2.2.1≤(Cv m n.1).1) else decide (n.2.2.2.2.1=0)
def zV(m:ax)(n:Node):Bool:=bif decide (n.2.1=2) then(ai.n .bool m.2.2.2.2.2.2.1 n.1:Bool) else true
def xn(n:Node):Bool:=bif n.2.2.2.2.2.1 then decide (n.2.1=1∨n.2.1=2) else true
def Cc(m:ax)(n:Node):Bool:=decide (0≤n.1∧n.1≤m.1-1)&&(decide (0≤n.2.1∧n.2.1≤5)&&(decide (0≤n.2.2.2.2.2.2.1∧n.2.2.2.2.2.2.1≤2)&&(gh n.2.2.2.2.2.2.2&&(decide (n.2.2.2.2.2.2.2.1=n.1)&&(decide ((n.2.2.2.2.2.2.2.2.2.1.length:Int)=m.1)&&(zV m n&&(ub m n&&(yK m n&&xn n))))))))
def fD(m:ax)(n:Node):Int:=bif eO m then(bif Cc m n then 0 else 180) else 70
theorem kU{m:ax}{n:Node}:Cc m n=true↔(0≤n.1∧n.1≤m.1-1)∧(0≤n.2.1∧n.2.1≤5)∧(0≤n.2.2.2.2.2.2.1∧n.2.2.2.2.2.2.1≤2)∧gh n.2.2.2.2.2.2.2=true∧n.2.2.2.2.2.2.2.1=n.1∧(n.2.2.2.2.2.2.2.2.2.1.length:Int)=m.1∧zV m n=true∧ub m n=true∧yK m n=true∧xn n=true:=by
 unfold Cc;simp only[Bool.and_eq_true,decide_eq_true_eq]
theorem iF{m:ax}{n:Node}(h:fD m n=0):eO m=true∧Cc m n=true:=by
 unfold fD at h
 cases hm:eO m
 ·rw[hm,cond_false] at h;exact absurd h (by decide)
 ·cases hn:Cc m n
  ·rw[hm,hn,cond_true,cond_false] at h;exact absurd h (by decide)
  ·exact⟨rfl,rfl⟩
section
variable {R Y:Type} {step:Y→LT R Y} {e:LT R Y} {x y:R} {G:Bool}
theorem lf{p:Prop}[Decidable p]{b:Bool}(hb:b=decide p)(h:G=true→¬p)(he:¬p→aK step e (bif G then x else y)):aK step (.br b (.ret y) e) (bif G then x else y):=by
 refine aV hb (fun hp=>?_) he
 cases G
 ·exact .ret _
 ·exact absurd hp (h rfl)
theorem rG{b:Bool}(h:G=true→b=true)(he:b=true→aK step e (bif G then x else y)):aK step (.br (ai.not b) (.ret y) e) (bif G then x else y):=by
 cases b
 ·cases G
  ·exact(ak rfl).2 (.ret _)
  ·exact absurd (h rfl) (by decide)
 ·exact(aj rfl).2 (he rfl)
theorem ru{u a b:Int}(h:G=true→a≤u∧u≤b)(he:a≤u∧u≤b→aK step e (bif G then x else y)):aK step (.br (ai.not (ai.k dx (u,a,b))) (.ret y) e) (bif G then x else y):=by
 refine dS (fun hp=>?_) he
 cases G
 ·exact .ret _
 ·exact absurd (h rfl) hp
theorem xI(h:G=true):aK step (.ret x) (bif G then x else y):=aI (by rw[h];rfl) (.ret _)
end
theorem T_{Y:Type}{step:Y→LT Int Y}{n:Node}{G:Bool}(h1:G=true→xn n=true)(h2:xn n=true→G=true):aK step (.br n.2.2.2.2.2.1 (.br (ai.c .neq n.2.1 1) (.br (ai.c .neq n.2.1 2) (.ret 180) (.ret 0)) (.ret 0)) (.ret 0)) (bif G then 0 else 180):=by
 unfold xn at h1 h2
 cases hb:n.2.2.2.2.2.1
 ·rw[hb] at h1 h2
  exact(aj rfl).2 (xI (h2 rfl))
 ·rw[hb] at h1 h2
  simp only[cond_true,decide_eq_true_eq] at h1 h2
  refine(ak rfl).2 (aV (p:=¬n.2.1=1) cv (fun h=>lf (p:=¬n.2.1=2) cv (fun g=>?_) fun g=>?_) fun h=>?_)
  ·have:=h1 g;omega
  ·exact xI (h2 (by omega))
  ·exact xI (h2 (by omega))
theorem Jh{R Y:Type}{step:Y→LT R Y}{m:ax}{n:Node}{G:Bool}{e:LT R Y}{x y:R}(hm:eO m=true)(hi:0≤n.1∧n.1≤m.1-1)(h1:G=true→zV m n=true)(h2:zV m n=true→aK step e (bif G then x else y)) :
  aK step (.br (ai.c .eql n.2.1 2) (.need (ai.and (ai.c .leq 0 n.1) (ai.c .lss n.1 (ai.l m.2.2.2.2.2.2.1))) (.br (ai.not (ai.n .bool m.2.2.2.2.2.2.1 n.1:Bool)) (.ret y) e)) e) (bif G then x else y):=by
 unfold zV at h1 h2
 refine aV (p:=n.2.1=2) bW (fun h=>af.2 ⟨oq (gE hm).2.2.1 hi.1 (by omega),?_⟩) fun h=>?_
 ·rw[decide_eq_true h] at h1 h2
  exact rG h1 h2
 ·rw[decide_eq_false h] at h2
  exact h2 rfl
structure DF where
 (a0:ax) (a1:Node)
structure Kr where
 (b0:ax) (b1:Node)
structure JJ where
 (c0:Node)
inductive F2 where
 | c0 (p:DF)
 | c1 (p:Kr)
 | c2 (p:JJ)
noncomputable def Lv:F2→ei
 | .c0 p=>⟨[⟨12,160,(en [(2,.ptr 0 0),(3,.ptr 1 0)]),[.code (cw Tryz.f12 [1,1,1,0,0,0,0,0,0,0,0,0,1,0,0]),.code (cw Tryz.f12 [1,1,1,0,0,0,0,0,0,0,0,0,1,0,1]),.code (cw Tryz.f12 [1,1,1,0,0,0,0,0,0,0,0,0,1,1]),.code (.exit 3),.inBlock 4,.inBlock 5,.inBlock 6,.inBlock 7,.inBlock 8,.code (cw Tryz.f12 [1,1,1,0,0,1]),.inBlock 3,.code (cw Tryz.f12 [1,1,1,1])],[],none⟩],[.flat false [vi p.a0.1,vi p.a0.2.1,vi p.a0.2.2.1,vi p.a0.2.2.2.1,vi p.a0.2.2.2.2.1,vi p.a0.2.2.2.2.2.1,.sl .bool p.a0.2.2.2.2.2.2.1,.sl bE p.a0.2.2.2.2.2.2.2],.flat false [vi p.a1.1,vi p.a1.2.1,vi p.a1.2.2.1.1,vi p.a1.2.2.1.2.1,vi p.a1.2.2.1.2.2.1,vi p.a1.2.2.1.2.2.2.1,vi p.a1.2.2.1.2.2.2.2,vi p.a1.2.2.2.1.1,vi p.a1.2.2.2.1.2.1,vi p.a1.2.2.2.1.2.2.1,vi p.a1.2.2.2.1.2.2.2.1,vi p.a1.2.2.2.1.2.2.2.2.1,vi p.a1.2.2.2.1.2.2.2.2.2.1,vi p.a1.2.2.2.1.2.2.2.2.2.2,vi p.a1.2.2.2.2.1,vb p.a1.2.2.2.2.2.1,vi p.a1.2.2.2.2.2.2.1,vi p.a1.2.2.2.2.2.2.2.1,.sl yU p.a1.2.2.2.2.2.2.2.2.1,.sl df p.a1.2.2.2.2.2.2.2.2.2.1,vi p.a1.2.2.2.2.2.2.2.2.2.2.1,vi p.a1.2.2.2.2.2.2.2.2.2.2.2],.dead]⟩
 | .c1 p=>⟨[⟨12,160,(en [(2,.ptr 0 0),(3,.ptr 1 0)]),[.code (cw Tryz.f12 [1,1,1,0,0,0,0,0,0,0,0,0,1,1,1,0,0]),.code (cw Tryz.f12 [1,1,1,0,0,0,0,0,0,0,0,0,1,1,1,0,1]),.code (cw Tryz.f12 [1,1,1,0,0,0,0,0,0,0,0,0,1,1,1,1]),.code (.exit 3),.inBlock 4,.inBlock 5,.inBlock 6,.inBlock 7,.inBlock 8,.code (cw Tryz.f12 [1,1,1,0,0,1]),.inBlock 3,.code (cw Tryz.f12 [1,1,1,1])],[],none⟩],[.flat false [vi p.b0.1,vi p.b0.2.1,vi p.b0.2.2.1,vi p.b0.2.2.2.1,vi p.b0.2.2.2.2.1,vi p.b0.2.2.2.2.2.1,.sl .bool p.b0.2.2.2.2.2.2.1,.sl bE p.b0.2.2.2.2.2.2.2],.flat false [vi p.b1.1,vi p.b1.2.1,vi p.b1.2.2.1.1,vi p.b1.2.2.1.2.1,vi p.b1.2.2.1.2.2.1,vi p.b1.2.2.1.2.2.2.1,vi p.b1.2.2.1.2.2.2.2,vi p.b1.2.2.2.1.1,vi p.b1.2.2.2.1.2.1,vi p.b1.2.2.2.1.2.2.1,vi p.b1.2.2.2.1.2.2.2.1,vi p.b1.2.2.2.1.2.2.2.2.1,vi p.b1.2.2.2.1.2.2.2.2.2.1,vi p.b1.2.2.2.1.2.2.2.2.2.2,vi p.b1.2.2.2.2.1,vb p.b1.2.2.2.2.2.1,vi p.b1.2.2.2.2.2.2.1,vi p.b1.2.2.2.2.2.2.2.1,.sl yU p.b1.2.2.2.2.2.2.2.2.1,.sl df p.b1.2.2.2.2.2.2.2.2.2.1,vi p.b1.2.2.2.2.2.2.2.2.2.2.1,vi p.b1.2.2.2.2.2.2.2.2.2.2.2],.dead]⟩
 | .c2 p=>⟨[⟨12,160,(en [(3,.ptr 0 0)]),[.code (cw Tryz.f12 [1,1,1,0,0,0,0,0,0,0,0,0,1,1,1,1,0]),.code (cw Tryz.f12 [1,1,1,0,0,0,0,0,0,0,0,0,1,1,1,1,1]),.code (.exit 3),.inBlock 4,.inBlock 5,.inBlock 6,.inBlock 7,.inBlock 8,.code (cw Tryz.f12 [1,1,1,0,0,1]),.inBlock 3,.code (cw Tryz.f12 [1,1,1,1])],[],none⟩],[.flat false [vi p.c0.1,vi p.c0.2.1,vi p.c0.2.2.1.1,vi p.c0.2.2.1.2.1,vi p.c0.2.2.1.2.2.1,vi p.c0.2.2.1.2.2.2.1,vi p.c0.2.2.1.2.2.2.2,vi p.c0.2.2.2.1.1,vi p.c0.2.2.2.1.2.1,vi p.c0.2.2.2.1.2.2.1,vi p.c0.2.2.2.1.2.2.2.1,vi p.c0.2.2.2.1.2.2.2.2.1,vi p.c0.2.2.2.1.2.2.2.2.2.1,vi p.c0.2.2.2.1.2.2.2.2.2.2,vi p.c0.2.2.2.2.1,vb p.c0.2.2.2.2.2.1,vi p.c0.2.2.2.2.2.2.1,vi p.c0.2.2.2.2.2.2.2.1,.sl yU p.c0.2.2.2.2.2.2.2.2.1,.sl df p.c0.2.2.2.2.2.2.2.2.2.1,vi p.c0.2.2.2.2.2.2.2.2.2.2.1,vi p.c0.2.2.2.2.2.2.2.2.2.2.2],.dead]⟩
def Kn(A:bK)(m:ax)(n:Node):LT Int F2:=.need (A.k (@tt ax) m) (.br (A.c .neq (A.k eP m) 0) (.ret (A.k eP m)) (.need (A.k (@tt (Int×Int×Int)) (n.1,0,(A.b .sub .i64 m.1 1))) (.br (A.not (A.k qJ (n.1,0,(A.b .sub .i64 m.1 1)))) (.ret 180) (.need (A.k (@tt (Int×Int×Int)) (n.2.1,0,5)) (.br (A.not (A.k qJ (n.2.1,0,5))) (.ret 180) (.need (A.k (@tt (Int×Int×Int)) (n.2.2.2.2.2.2.1,0,2)) (.br (A.not (A.k qJ (n.2.2.2.2.2.2.1,0,2))) (.ret 180) (.need (A.k (@tt dQ) n.2.2.2.2.2.2.2) (.br (A.c .neq (A.k iv n.2.2.2.2.2.2.2) 0) (.ret 180) (.br (A.c .neq n.2.2.2.2.2.2.2.1 n.1) (.ret 180) (.br (A.c .neq (A.l n.2.2.2.2.2.2.2.2.2.1) m.1) (.ret 180) (.need (A.k (@tt Node) n) (.br (A.k cy n) (.need (A.k (@tt (ax×eG)) (m,n.2.2.1)) (.br (A.not (A.k IV (m,n.2.2.1))) (.ret 180) (.need (A.k (@tt ((Int×Int×Int×Int×Int×Int×Int))) n.2.2.2.1) (.br (A.c .neq (A.k iH n.2.2.2.1) 0) (.ret 180) (.br (A.c .neq n.2.2.2.1.1 n.1) (.ret 180) (.br (A.c .neq n.2.2.2.1.2.1 m.1) (.ret 180) (.br (A.c .neq n.2.2.1.2.2.2.2 n.2.2.2.1.2.2.1) (.ret 180) (.more (.c0 ⟨m,n⟩))))))))) (.more (.c0 ⟨m,n⟩)))))))))))))))
def wO(A:bK):F2→LT Int F2
 | .c0 p=>.need (A.k (@tt Node) p.a1) (.br (A.not (A.k cy p.a1)) (.br (A.not (A.and (A.c .eql p.a1.2.2.1.1 0) (A.and (A.c .eql p.a1.2.2.1.2.1 0) (A.and (A.c .eql p.a1.2.2.1.2.2.1 0) (A.and (A.c .eql p.a1.2.2.1.2.2.2.1 0) (A.and (A.c .eql p.a1.2.2.1.2.2.2.2 0) true)))))) (.ret 180) (.br (A.not (A.and (A.c .eql p.a1.2.2.2.1.1 0) (A.and (A.c .eql p.a1.2.2.2.1.2.1 0) (A.and (A.c .eql p.a1.2.2.2.1.2.2.1 0) (A.and (A.c .eql p.a1.2.2.2.1.2.2.2.1 0) (A.and (A.c .eql p.a1.2.2.2.1.2.2.2.2.1 0) (A.and (A.c .eql p.a1.2.2.2.1.2.2.2.2.2.1 0) (A.and (A.c .eql p.a1.2.2.2.1.2.2.2.2.2.2 0) true)))))))) (.ret 180) (.br (A.c .eql p.a1.2.1 2) (.need (A.and (A.c .leq 0 p.a1.1) (A.c .lss p.a1.1 (A.l p.a0.2.2.2.2.2.2.1))) (.br (A.not (A.n .bool p.a0.2.2.2.2.2.2.1 p.a1.1:Bool)) (.ret 180) (.more (.c1 ⟨p.a0,p.a1⟩)))) (.more (.c1 ⟨p.a0,p.a1⟩))))) (.br (A.c .eql p.a1.2.1 2) (.need (A.and (A.c .leq 0 p.a1.1) (A.c .lss p.a1.1 (A.l p.a0.2.2.2.2.2.2.1))) (.br (A.not (A.n .bool p.a0.2.2.2.2.2.2.1 p.a1.1:Bool)) (.ret 180) (.more (.c1 ⟨p.a0,p.a1⟩)))) (.more (.c1 ⟨p.a0,p.a1⟩))))
 | .c1 p=>.br (A.c .eql p.b1.2.1 1) (.need (A.k (@tt (ax×Int)) (p.b0,p.b1.1)) (.need (A.k (@tt (Int×Int×Int)) (p.b1.2.2.2.2.1,1,(A.k yC (p.b0,p.b1.1)))) (.br (A.not (A.k qJ (p.b1.2.2.2.2.1,1,(A.k yC (p.b0,p.b1.1))))) (.ret 180) (.br (A.c .neq p.b1.2.1 1) (.br (A.c .neq p.b1.2.2.2.2.1 0) (.ret 180) (.more (.c2 ⟨p.b1⟩))) (.more (.c2 ⟨p.b1⟩)))))) (.br (A.c .neq p.b1.2.1 1) (.br (A.c .neq p.b1.2.2.2.2.1 0) (.ret 180) (.more (.c2 ⟨p.b1⟩))) (.more (.c2 ⟨p.b1⟩)))
 | .c2 p=>.br p.c0.2.2.2.2.2.1 (.br (A.c .neq p.c0.2.1 1) (.br (A.c .neq p.c0.2.1 2) (.ret 180) (.ret 0)) (.ret 0)) (.ret 0)
theorem AA{m:ax}{n:Node}{G:Bool}(h0:G=true→yK m n=true∧xn n=true)(h2:yK m n=true→xn n=true→G=true):aK (wO ai) (.more (.c1 ⟨m,n⟩)) (bif G then 0 else 180):=by
 have hb:yK m n=true→aK (wO ai) (.more (.c2 ⟨n⟩)) (bif G then 0 else 180):=fun ht=>by
  rw[ap,wO]
  exact T_ (fun g=>(h0 g).2) (h2 ht)
 rw[ap,wO]
 have ht:=fun g=>(h0 g).1
 unfold yK at ht hb
 rw[A9]
 refine aV (p:=n.2.1=1) bW (fun h=>?_) fun h=>?_
 ·rw[decide_eq_true h,cond_true] at ht hb
  refine af.2 ⟨rfl,af.2 ⟨rfl,ru (fun g=>of_decide_eq_true (ht g)) fun h1=>?_⟩⟩
  exact aV (p:=¬n.2.1=1) cv (fun k=>absurd h k) fun _=>hb (decide_eq_true h1)
 ·rw[decide_eq_false h,cond_false] at ht hb
  exact aV (p:=¬n.2.1=1) cv (fun _=>lf (p:=¬n.2.2.2.2.1=0) cv (fun g=>not_not_intro (of_decide_eq_true (ht g))) fun h1=>hb (decide_eq_true (Decidable.not_not.1 h1))) fun k=>absurd h k
theorem Gp{m:ax}{n:Node}{G:Bool}(hm:eO m=true)(hi:0≤n.1∧n.1≤m.1-1)(h1:sF n=true→ub m n=true)(h0:G=true→zV m n=true∧ub m n=true∧yK m n=true∧xn n=true)(h2:zV m n=true→ub m n=true→yK m n=true→xn n=true→G=true):aK (wO ai) (.more (.c0 ⟨m,n⟩)) (bif G then 0 else 180):=by
 rw[ap,wO]
 refine af.2 ⟨rfl,?_⟩
 rw[show ai.k cy (⟨m,n⟩:DF).a1=sF n from rfl]
 have hc:=fun g=>(h0 g).2.1
 unfold ub at hc h1 h2
 cases hn:sF n
 ·rw[hn,cond_false] at hc h2
  refine(ak rfl).2 (rG (b:=IJ n.2.2.1) (fun g=>?_) fun z1=>rG (b:=zeroV n.2.2.2.1) (fun g=>?_) fun z2=>?_)
  ·exact(Bool.and_eq_true _ _▸hc g).1
  ·exact(Bool.and_eq_true _ _▸hc g).2
  ·exact Jh hm hi (fun g=>(h0 g).1) fun k=>AA (fun g=>(h0 g).2.2) fun a b=>h2 k (by rw[z1,z2];rfl) a b
 ·rw[hn,cond_true] at hc h1 h2
  exact(aj rfl).2 (Jh hm hi (fun g=>(h0 g).1) fun k=>AA (fun g=>(h0 g).2.2) fun a b=>h2 k (h1 rfl) a b)
theorem Ls{m:ax}{n:Node}:aK (wO ai) (Kn ai m n) (fD m n):=by
 unfold Kn fD
 refine af.2 ⟨rfl,?_⟩
 rw[show ai.k eP m=l7 m from rfl,l7]
 cases hm:eO m
 ·exact(ak rfl).2 (.ret _)
 have hG:=@kU m n
 have hl:=(gE hm).1
 rw[cond_true,A9,bl,gW (by omega) (by omega)]
 generalize Cc m n=G at hG ⊢
 refine(aj rfl).2 (af.2 ⟨rfl,ru (fun g=>(hG.1 g).1) fun h1=>af.2 ⟨rfl,ru (fun g=>(hG.1 g).2.1) fun h2=>af.2 ⟨rfl,ru (fun g=>(hG.1 g).2.2.1) fun h3=>af.2 ⟨rfl,?_⟩⟩⟩⟩)
 refine lf (p:=¬nM n.2.2.2.2.2.2.2=0) cv (fun g=>not_not_intro (v_.2 (hG.1 g).2.2.2.1)) fun h7=>?_
 refine lf (p:=¬n.2.2.2.2.2.2.2.1=n.1) cv (fun g=>by have:=hG.1 g;omega) fun h8=>?_
 refine lf (p:=¬(n.2.2.2.2.2.2.2.2.2.1.length:Int)=m.1) cv (fun g=>by have:=hG.1 g;omega) fun h9=>af.2 ⟨rfl,?_⟩
 have fin:(sF n=true→ub m n=true)→aK (wO ai) (.more (.c0 ⟨m,n⟩)) (bif G then 0 else 180):=fun h=>Gp hm h1 h (fun g=>(hG.1 g).2.2.2.2.2.2) fun a b c d=>hG.2 ⟨h1,h2,h3,v_.1 (Decidable.not_not.1 h7),by omega,by omega,a,b,c,d⟩
 rw[show ai.k cy n=sF n from rfl]
 have hc:=fun g=>(hG.1 g).2.2.2.2.2.2.2.1
 unfold ub at hc fin
 cases hn:sF n
 ·exact(aj rfl).2 (fin fun k=>absurd (hn.symm.trans k) (by decide))
 ·rw[hn,cond_true] at hc
  simp only[hn,cond_true,Bool.and_eq_true,decide_eq_true_eq] at hc fin
  refine(ak rfl).2 (af.2 ⟨rfl,rG (b:=iR m n.2.2.1) (fun g=>(hc g).1) fun k1=>af.2 ⟨rfl,?_⟩⟩)
  rw[al,VL]
  refine lf (p:=¬tO n.2.2.2.1=0) cv (fun g=>not_not_intro (hc g).2.1) fun k2=>?_
  refine lf (p:=¬n.2.2.2.1.1=n.1) cv (fun g=>not_not_intro (hc g).2.2.1) fun k3=>?_
  refine lf (p:=¬n.2.2.2.1.2.1=m.1) cv (fun g=>not_not_intro (hc g).2.2.2.1) fun k4=>?_
  refine lf (p:=¬n.2.2.1.2.2.2.2=n.2.2.2.1.2.2.1) cv (fun g=>not_not_intro (hc g).2.2.2.2) fun k5=>?_
  exact fin fun _=>⟨k1,Decidable.not_not.1 k2,Decidable.not_not.1 k3,Decidable.not_not.1 k4,Decidable.not_not.1 k5⟩
def Bh:(ax×Node)→Int:=fun(m,n)=>fD m n
def TH:aG:=⟨[cr,dH], [yI],(@tt (ax×Node)),Bh⟩
theorem Up:Sd 12 TH:=aQ aA dY true 151 [] [⟨12,8, [[2,3]]⟩,⟨12,10, [[2,3]]⟩,⟨12,11, [[3]]⟩] (fun A (m,n)=>Kn A m n) wO Lv (fc Tryz.func12 fz) (sc zl (sc vp (sc xM (sc IS (sc Ef (sc vZ (sc T9 sz))))))) (fun A y=>match y with |.c0 p=>⟨51,by kernel_rfl,by kernel_rfl⟩|.c1 p=>⟨39,by kernel_rfl,by kernel_rfl⟩|.c2 p=>⟨27,by kernel_rfl,by kernel_rfl⟩) fun(m,n) hp h=>Ls
open Go.Ev.Pl
def LQ(A:bK)(m:ax)(id:Int):LT (Node×Int) Empty:=.need (A.k (@tt ax) m) (.br (A.c .neq (A.k eP m) 0) (.ret ((0,0,(0,0,0,0,0),(0,0,0,0,0,0,0),0,false,0,0,([]:List Int),([]:List cd),0,0),(A.k eP m))) (.need (A.k (@tt (Int×Int)) (id,m.1)) (.br (A.c .neq (A.k Bf (id,m.1)).2 0) (.ret ((0,0,(0,0,0,0,0),(0,0,0,0,0,0,0),0,false,0,0,([]:List Int),([]:List cd),0,0),2)) (.ret ((id,0,(0,0,0,0,0),(0,0,0,0,0,0,0),0,false,0,(A.k Bf (id,m.1)).1),0)))))
def gy:Node:=(0,0,(0,0,0,0,0),(0,0,0,0,0,0,0),0,false,0,0,([]:List Int),([]:List cd),0,0)
def Du(m:ax)(id:Int):Node×Int:=bif eO m then(bif decide (0≤id∧id≤m.1-1) then((id,0,(0,0,0,0,0),(0,0,0,0,0,0,0),0,false,0,id,([]:List Int),List.replicate m.1.toNat zZ,4,(-1)),0) else(gy,2)) else(gy,70)
theorem L1{m:ax}{id:Int}:aK Empty.elim (LQ ai m id) (Du m id):=by
 unfold LQ Du
 refine af.2 ⟨rfl,?_⟩
 rw[show ai.k eP m=l7 m from rfl,l7]
 cases hm:eO m
 ·exact(ak rfl).2 (.ret _)
 refine(aj rfl).2 (af.2 ⟨rfl,?_⟩)
 rw[show ai.k Bf (id,m.1)=FL id m.1 from rfl,FL,decide_eq_true (gE hm).1,cond_true,cond_true]
 cases decide (0≤id∧id≤m.1-1)
 ·exact(ak rfl).2 (.ret _)
 ·exact(aj rfl).2 (.ret _)
def Qz:(ax×Int)→(Node×Int):=fun(m,n)=>Du m n
def IZ:aG:=⟨[cr,yI], [dH,yI],(@tt (ax×Int)),Qz⟩
theorem Oa:Sd 38 IZ:=a_ aA dY true 55 [] (fun A (m,id)=>LQ A m id) (fc Tryz.func38 fz) (sc vp (sc R2 sz)) fun(m,id) hp h=>L1
def Kd(A:bK)(m:ax)(n:Node)(when:Bool):LT (Node×Int) Empty:=.need (A.k (@tt (ax×Node)) (m,n)) (.br (A.c .neq (A.k Bh (m,n)) 0) (.ret ((0,0,(0,0,0,0,0),(0,0,0,0,0,0,0),0,false,0,0,([]:List Int),([]:List cd),0,0),(A.k Bh (m,n)))) (.br (A.not when) (.ret ((0,0,(0,0,0,0,0),(0,0,0,0,0,0,0),0,false,0,0,([]:List Int),([]:List cd),0,0),181)) (.need (A.k (@tt (dQ×List Int)) (n.2.2.2.2.2.2.2,n.2.2.2.2.2.2.2.2.1)) (.ret ((n.1,n.2.1,n.2.2.1,n.2.2.2.1,n.2.2.2.2.1,n.2.2.2.2.2.1,n.2.2.2.2.2.2.1,(A.k AT (n.2.2.2.2.2.2.2,n.2.2.2.2.2.2.2.2.1)).1),(A.k AT (n.2.2.2.2.2.2.2,n.2.2.2.2.2.2.2.2.1)).2)))))
def iK(m:ax)(n:Node)(w:Bool):Node×Int:=bif decide (fD m n=0) then(bif w then(n,0) else(gy,181)) else(gy,fD m n)
theorem rC{m:ax}{n:Node}(h:fD m n=0):gh n.2.2.2.2.2.2.2=true:=(kU.1 (iF h).2).2.2.2.1
theorem Gs{c:dQ}(h:gh c=true):¬8<(c.2.1.length:Int):=by
 simp only[gh,Bool.and_eq_true,decide_eq_true_eq] at h
 exact h.2.2.1
theorem Re{m:ax}{n:Node}{w:Bool}:aK Empty.elim (Kd ai m n w) (iK m n w):=by
 unfold Kd iK
 refine af.2 ⟨rfl,?_⟩
 rw[show ai.k Bh (m,n)=fD m n from rfl]
 by_cases h:fD m n=0
 ·rw[decide_eq_true h]
  refine(aj (uR h)).2 ?_
  cases w
  ·exact(ak rfl).2 (.ret _)
  ·refine(aj rfl).2 (af.2 ⟨rfl,?_⟩)
   rw[show ai.k AT (n.2.2.2.2.2.2.2,n.2.2.2.2.2.2.2.2.1)=Q0 n.2.2.2.2.2.2.2 n.2.2.2.2.2.2.2.2.1 from rfl,Q0,rC h,decide_eq_false (Gs (rC h))]
   exact .ret _
 ·rw[decide_eq_false h];exact(ak (rh h)).2 (.ret _)
def b_:(ax×Node×Bool)→(Node×Int):=fun(m,c,k)=>iK m c k
def TE:aG:=⟨[cr,dH,.bool], [dH,yI],(@tt (ax×Node×Bool)),b_⟩
theorem AJ:Sd 48 TE:=a_ aA dY true 64 [] (fun A (m,n,when)=>Kd A m n when) (fc Tryz.func48 fz) (sc Up (sc Q_ sz)) fun(m,n,when) hp h=>Re
def Lt(A:bK)(m:ax)(n:Node)(set1:Int):LT (Node×Int) Empty:=.need (A.k (@tt (ax×Node×Bool)) (m,n,(A.c .eql n.2.1 0))) (.br (A.c .neq (A.k b_ (m,n,(A.c .eql n.2.1 0))).2 0) (.ret ((0,0,(0,0,0,0,0),(0,0,0,0,0,0,0),0,false,0,0,([]:List Int),([]:List cd),0,0),(A.k b_ (m,n,(A.c .eql n.2.1 0))).2)) (.need (A.c .leq 0 m.1) (.need (A.k (@tt (Int×Int×Int)) (set1,0,(A.b .sub .i64 (A.b .shl .i64 1 m.1) 1))) (.br (A.not (A.k qJ (set1,0,(A.b .sub .i64 (A.b .shl .i64 1 m.1) 1)))) (.ret ((0,0,(0,0,0,0,0),(0,0,0,0,0,0,0),0,false,0,0,([]:List Int),([]:List cd),0,0),2)) (.need (A.c .leq 0 (A.k b_ (m,n,(A.c .eql n.2.1 0))).1.1) (.br (A.c .eql (A.b .and .i64 (A.b .shr .i64 set1 (A.k b_ (m,n,(A.c .eql n.2.1 0))).1.1) 1) 0) (.ret ((0,0,(0,0,0,0,0),(0,0,0,0,0,0,0),0,false,0,0,([]:List Int),([]:List cd),0,0),2)) (.ret (((A.k b_ (m,n,(A.c .eql n.2.1 0))).1.1,4,(0,0,0,0,set1),((A.k b_ (m,n,(A.c .eql n.2.1 0))).1.1,m.1,set1,1,0,0,0),0,(A.k b_ (m,n,(A.c .eql n.2.1 0))).1.2.2.2.2.2),0))))))))
theorem Bw{k:Int}(h:4≤k∧k≤8):16≤ai.b .shl .i64 1 k∧ai.b .shl .i64 1 k≤256:=by
 have:k=4∨k=5∨k=6∨k=7∨k=8:=by omega
 rcases this with rfl|rfl|rfl|rfl|rfl<;>decide
def Vy(m:ax)(n:Node)(s:Int):Node×Int:=bif decide (fD m n=0) then(bif decide (n.2.1=0) then(bif decide (0≤s∧s≤ai.b .shl .i64 1 m.1-1) then(bif jF s n.1 then((n.1,4,(0,0,0,0,s),(n.1,m.1,s,1,0,0,0),0,n.2.2.2.2.2),0) else(gy,2)) else(gy,2)) else(gy,181)) else(gy,fD m n)
theorem Wn{m:ax}{n:Node}{s:Int}:aK Empty.elim (Lt ai m n s) (Vy m n s):=by
 unfold Lt Vy
 refine af.2 ⟨rfl,?_⟩
 rw[show ai.k b_ (m,n,ai.c .eql n.2.1 0)=iK m n (ai.c .eql n.2.1 0) from rfl,bW,iK,A9]
 by_cases h:fD m n=0
 ·rw[decide_eq_true h]
  cases decide (n.2.1=0)
  ·exact(ak rfl).2 (.ret _)
  have hk:=(gE (iF h).1).1
  have hs:=Bw hk
  have hi:=(kU.1 (iF h).2).1
  refine(aj rfl).2 (af.2 ⟨decide_eq_true (by omega),af.2 ⟨rfl,?_⟩⟩)
  rw[bl,gW (by omega) (by omega)]
  refine dS (fun h3=>?_) fun h3=>af.2 ⟨decide_eq_true (show 0≤n.1 from hi.1),?_⟩
  ·exact aI (by rw[decide_eq_false h3];rfl) (.ret _)
  ·rw[decide_eq_true h3]
   have hb:=I6 (c:=s) (a:=n.1) h3.1 (by omega) hi.1 (by omega)
   refine aV (p:=ai.b .and .i64 (ai.b .shr .i64 s n.1) 1=0) bW (fun g=>?_) fun g=>?_
   ·exact aI (by rw[hb.1 g];rfl) (.ret _)
   ·exact aI (by rw[show jF s n.1=true from by cases hx:jF s n.1;exact absurd (hb.2 hx) g;rfl];rfl) (.ret _)
 ·rw[decide_eq_false h];exact(ak (rh h)).2 (.ret _)
def Rs:(ax×Node×Int)→(Node×Int):=fun(m,c,k)=>Vy m c k
def Jy:aG:=⟨[cr,dH,yI], [dH,yI],(@tt (ax×Node×Int)),Rs⟩
theorem Oy:Sd 66 Jy:=a_ aA dY true 110 [] (fun A (m,n,set1)=>Lt A m n set1) (fc Tryz.func66 (fc Tryz.func139 fz)) (sc AJ (sc Ef sz)) fun(m,n,set1) hp h=>Wn
end Go.Ev.M
