/-
  PROVED: what functions of the packages modes, medl, cstate, busctl and of their documents compute. Conditions: none.
-/
import Derived.Test.YtjceiokllpmnkaaGreatCa
import Derived.Test.YtjceiokllpmnkaaGreatMb
namespace Go.Ev.M
open Go.Proofs
set_option maxRecDepth 100000
set_option linter.unusedVariables false
set_option linter.unusedSimpArgs false
open Go.Ev.Pl
abbrev dS(m:ap):Int:=(m.2.2.2.2.2.2.2.length:Int)
theorem nV{c:dM}{k:Int}(h:gI (c,k)=0):(4≤k∧k≤8)∧(0≤c.1∧c.1≤255)∧(0≤c.2.1∧c.2.1≤k-1)∧(0≤c.2.2.1∧c.2.2.1≤3)∧(0≤c.2.2.2.1∧c.2.2.2.1≤4)∧(0≤c.2.2.2.2∧c.2.2.2.2≤2^k.toNat-1):=by
 obtain⟨t,p,m,n,s⟩:=c
 rw[gI] at h
 cases h1:decide (k<4)||decide (8<k)
 ·rw[h1,cond_false] at h
  rw[Bool.or_eq_false_iff,decide_eq_false_iff_not,decide_eq_false_iff_not] at h1
  cases h2:((decide (0≤t)&&decide (t≤255))&&((decide (0≤p)&&decide (p≤k-1))&&((decide (0≤m)&&decide (m≤3))&&((decide (0≤n)&&decide (n≤4))&&(decide (0≤s)&&decide (s≤2^k.toNat-1))))))
  ·rw[h2,cond_false] at h;exact absurd h (by decide)
  ·simp only[Bool.and_eq_true,decide_eq_true_eq] at h2
   exact⟨by omega,h2.1,h2.2.1,h2.2.2.1,h2.2.2.2.1,h2.2.2.2.2⟩
 ·rw[h1,cond_true] at h;exact absurd h (by decide)
def dK(m:ap)(c:dM):Bool:=decide (gI (c,m.1)=0)&&(decide (c.2.2.1<dS m)&&decide (c.2.2.2.1≤dS m))
def gW(m:ap)(c:dM):Int:=bif dR m then(bif dK m c then 0 else 40) else 70
theorem qB{m:ap}{c:dM}(h:gW m c=0):dR m=true∧gI (c,m.1)=0∧(0≤c.2.2.1∧c.2.2.1<dS m)∧c.2.2.2.1≤dS m:=by
 unfold gW at h
 cases hm:dR m
 ·rw[hm,cond_false] at h;exact absurd h (by decide)
 ·cases hf:dK m c
  ·rw[hm,hf,cond_true,cond_false] at h;exact absurd h (by decide)
  ·simp only[dK,Bool.and_eq_true,decide_eq_true_eq] at hf
   exact⟨rfl,hf.1,⟨(nV hf.1).2.2.2.1.1,hf.2.1⟩,hf.2.2⟩
theorem E0{m:ap}{c:dM}(h:dR m=true)(h2:dK m c=true):gW m c=0:=by rw[gW,h,h2];rfl
theorem gK{m:ap}(h:dR m=true):(4≤m.1∧m.1≤8)∧(1≤dS m∧dS m≤4)∧(m.2.2.2.2.2.2.1.length:Int)=m.1∧m.2.2.2.2.2.2.2.all (jH m)=true:=by
 obtain⟨n,s,g,w,d,de,cold,modes⟩:=m
 have:=KG h
 exact⟨this.1,this.2.1,this.2.2.1,this.2.2.2.1⟩
theorem tg{m:ap}(h:dR m=true){i:Int}(h0:0≤i)(h1:i<dS m):jH m (ah.n bA m.2.2.2.2.2.2.2 i:Mode)=true:=by
 obtain⟨k,rfl⟩:∃k:Nat,i=k:=⟨i.toNat,by omega⟩
 have hk:k<m.2.2.2.2.2.2.2.length:=by unfold dS at h1;omega
 rw[show(ah.n bA m.2.2.2.2.2.2.2 (k:Int):Mode)=m.2.2.2.2.2.2.2[k] from getD_in hk _]
 exact List.all_eq_true.1 (gK h).2.2.2 _ (List.getElem_mem hk)
theorem nf{m:ap}{x:Mode}(h:jH m x=true):(x.1.length:Int)=m.1∧(x.2.1.length:Int)=m.1∧(x.2.2.length:Int)=dS m:=by
 simp only[jH,Bool.and_eq_true,beq_iff_eq] at h
 exact⟨h.1.1.1,h.1.1.2,by rw[h.1.2]⟩
theorem oP{α:Type}{l:List α}{i:Int}(h0:0≤i)(h1:i<(l.length:Int)):ah.and (ah.c .leq 0 i) (ah.c .lss i (ah.l l))=true:=by
 rw[kv,ax,ao,aL];simp;omega
theorem Di{x:Int}(h:x=0):ah.c .neq x 0=false:=by rw[h];rfl
theorem sC{x:Int}(h:¬x=0):ah.c .neq x 0=true:=by rw[aF];simpa using h
theorem Ps{x:Int}(h:¬x=0):ah.c .eql x 0=false:=by rw[aB];simpa using h
theorem FP{x:Int}(h:x=0):ah.c .eql x 0=true:=by rw[h];rfl
def NO(A:bu)(m:ap)(c:dM):LT Bool Empty:=.need (A.k (@tt ((Int×Int×Int×Int×Int)×Int)) (c,m.1)) (.br (A.c .eql (A.k zC (c,m.1)) 0) (.br (A.c .lss c.2.2.1 (A.l m.2.2.2.2.2.2.2)) (.ret (A.c .leq c.2.2.2.1 (A.l m.2.2.2.2.2.2.2))) (.ret false)) (.ret false))
theorem UA{m:ap}{c:dM}:aD Empty.elim (NO ah m c) (dK m c):=by
 unfold NO
 refine af.2 ⟨rfl,?_⟩
 rw[show ah.k zC (c,m.1)=gI (c,m.1) from rfl]
 by_cases h:gI (c,m.1)=0
 ·rw[dK,decide_eq_true h]
  refine(aj (FP h)).2 (aM (p:=c.2.2.1<dS m) rfl (fun h2=>?_) fun h2=>?_)
  ·exact aH (by rw[decide_eq_true h2];rfl) (.ret _)
  ·exact aH (by rw[decide_eq_false h2];rfl) (.ret _)
 ·rw[dK,decide_eq_false h]
  exact(ai (Ps h)).2 (.ret _)
def SE(A:bu)(m:ap)(c:dM):LT Bool Empty:=.need (A.k (@tt ((Int×Int×Int×Int×Int)×Int)) (c,m.1)) (.br (A.c .eql (A.k jB (c,m.1)) 0) (.br (A.c .lss c.2.2.1 (A.l m.2.2.2.2.2.2.2)) (.ret (A.c .leq c.2.2.2.1 (A.l m.2.2.2.2.2.2.2))) (.ret false)) (.ret false))
theorem MC{m:ap}{c:dM}:aD Empty.elim (SE ah m c) (dK m c):=UA
def Bf:(ap×dM)→Bool:=fun(m,c)=>dK m c
def SZ:aC:=⟨[c_,sD], [.bool],(@tt (ap×dM)),Bf⟩
theorem JL:Sd 45 SZ:=aQ au dC true 37 [] (fun A (m,c)=>SE A m c) (fc Tryz.func45 fz) (sc yb sz) fun(m,c) hp h=>MC
def KS(A:bu)(m:ap)(n:Int):LT Bool Empty:=.br (A.c .geq n 0) (.ret (A.c .lss n (A.l m.2.2.2.2.2.2.2))) (.ret false)
def XH(m:ap)(n:Int):Bool:=decide (0≤n∧n<dS m)
theorem is1{m:ap}{n:Int}:aD Empty.elim (KS ah m n) (XH m n):=by
 unfold KS XH
 refine aM (p:=0≤n) rfl (fun h=>?_) fun h=>?_
 ·exact aH (by rw[Bool.eq_iff_iff,kv,ao];simp;omega) (.ret _)
 ·exact aH (decide_eq_false (by omega)).symm (.ret _)
def yx:(ap×Int)→Bool:=fun(m,c)=>XH m c
def Sm:aC:=⟨[c_,yI], [.bool],(@tt (ap×Int)),yx⟩
theorem Kp:Sd 244 Sm:=aQ au dC true 24 [] (fun A (m,n)=>KS A m n) (fc Tryz.func244 fz) sz fun(m,n) hp h=>is1
def KF(A:bu)(m:ap)(c:dM):LT Int Empty:=.need (A.k (@tt ap) m) (.br (A.c .neq (A.k kE m) 0) (.ret (A.k kE m)) (.need (A.k (@tt ((Int×Int×Int×Int×Int)×Int)) (c,m.1)) (.br (A.c .neq (A.k jB (c,m.1)) 0) (.ret 40) (.need (A.k (@tt (ap×Int)) (m,c.2.2.1)) (.br (A.not (A.k yx (m,c.2.2.1))) (.ret 40) (.br (A.c .gtr c.2.2.2.1 (A.l m.2.2.2.2.2.2.2)) (.ret 40) (.ret 0)))))))
theorem UF{m:ap}{c:dM}:aD Empty.elim (KF ah m c) (gW m c):=by
 unfold KF gW
 refine af.2 ⟨rfl,?_⟩
 rw[show ah.k kE m=mK m from rfl,mK]
 cases hm:dR m
 ·exact(aj rfl).2 (.ret _)
 refine(ai rfl).2 (af.2 ⟨rfl,?_⟩)
 rw[show ah.k jB (c,m.1)=gI (c,m.1) from rfl]
 by_cases h:gI (c,m.1)=0
 ·have h0:=(nV h).2.2.2.1.1
  rw[dK,decide_eq_true h]
  refine(ai (Di h)).2 (af.2 ⟨rfl,?_⟩)
  rw[show ah.k yx (m,c.2.2.1)=decide (0≤c.2.2.1∧c.2.2.1<dS m) from rfl]
  by_cases h2:c.2.2.1<dS m
  ·rw[decide_eq_true (show 0≤c.2.2.1∧c.2.2.1<dS m from⟨h0,h2⟩),decide_eq_true h2]
   refine(ai rfl).2 (aM (p:=dS m<c.2.2.2.1) rfl (fun h3=>?_) fun h3=>?_)
   ·exact aH (by rw[decide_eq_false (by omega)];rfl) (.ret _)
   ·exact aH (by rw[decide_eq_true (by omega)];rfl) (.ret _)
  ·rw[decide_eq_false (show ¬(0≤c.2.2.1∧c.2.2.1<dS m) from fun h=>h2 h.2),decide_eq_false h2]
   exact(aj rfl).2 (.ret _)
 ·rw[dK,decide_eq_false h]
  exact(aj (sC h)).2 (.ret _)
def vL:(ap×dM)→Int:=fun(m,c)=>gW m c
def Nv:aC:=⟨[c_,sD], [yI],(@tt (ap×dM)),vL⟩
theorem J2:Sd 185 Nv:=aQ au dC true 56 [] (fun A (m,c)=>KF A m c) (fc Tryz.func185 fz) (sc yb (sc BW (sc Kp sz))) fun(m,c) hp h=>UF
def Mz(A:bu)(m:ap)(c:dM)(mode:Int):LT Bool Empty:=.need (A.k (@tt (ap×Int)) (m,mode)) (.br (A.k yx (m,mode)) (.br (A.c .neq mode c.2.2.1) (.br (A.c .eql c.2.2.2.1 0) (.need (A.and (A.c .leq 0 c.2.2.1) (A.c .lss c.2.2.1 (A.l m.2.2.2.2.2.2.2))) (.need (A.and (A.c .leq 0 mode) (A.c .lss mode (A.l (A.n bA m.2.2.2.2.2.2.2 c.2.2.1:Mode).2.2))) (.ret (A.n .bool (A.n bA m.2.2.2.2.2.2.2 c.2.2.1:Mode).2.2 mode:Bool)))) (.ret false)) (.ret false)) (.ret false))
def oC(m:ap)(c:dM)(k:Int):Bool:=decide (0≤k∧k<dS m)&&(decide (¬k=c.2.2.1)&&(decide (c.2.2.2.1=0)&&(ah.n .bool (ah.n bA m.2.2.2.2.2.2.2 c.2.2.1:Mode).2.2 k:Bool)))
theorem bg{a b:Int}:ah.c .neq a b=decide (¬a=b):=by rw[aF,Bool.eq_iff_iff];simp
theorem Fv{R Y:Type}{step:Y→LT R Y}{m:ap}{c:dM}{k:Int}{e:LT R Y}{r:R}{f:Bool→R}(h:gW m c=0)(hk:0≤k∧k<dS m)(hr:f (oC m c k)=r)(hf:f false=r→aD step e r) :
  aD step (.br (ah.c .neq k c.2.2.1) (.br (ah.c .eql c.2.2.2.1 0) (.need (ah.and (ah.c .leq 0 c.2.2.1) (ah.c .lss c.2.2.1 (ah.l m.2.2.2.2.2.2.2))) (.need (ah.and (ah.c .leq 0 k) (ah.c .lss k (ah.l (ah.n bA m.2.2.2.2.2.2.2 c.2.2.1:Mode).2.2))) (.ret (f (ah.n .bool (ah.n bA m.2.2.2.2.2.2.2 c.2.2.1:Mode).2.2 k:Bool))))) e) e) r:=by
 obtain⟨hm,_,hc,_⟩:=qB h
 rw[oC,decide_eq_true hk,Bool.true_and] at hr
 refine aM (p:=¬k=c.2.2.1) bg (fun h1=>aM (p:=c.2.2.2.1=0) bT (fun h2=>af.2 ⟨oP hc.1 hc.2,af.2 ⟨oP hk.1 ?_,?_⟩⟩) fun h2=>hf ?_) fun h1=>hf ?_
 ·exact(nf (tg hm hc.1 hc.2)).2.2▸hk.2
 ·exact aH (by rw[←hr,decide_eq_true h1,decide_eq_true h2];rfl) (.ret _)
 ·rw[←hr,decide_eq_false h2];cases decide (¬k=c.2.2.1)<;>rfl
 ·rw[←hr,decide_eq_false h1];rfl
theorem Up{m:ap}{c:dM}{k:Int}(h:gW m c=0):aD Empty.elim (Mz ah m c k) (oC m c k):=by
 unfold Mz
 refine af.2 ⟨rfl,?_⟩
 rw[show ah.k yx (m,k)=decide (0≤k∧k<dS m) from rfl]
 by_cases hk:0≤k∧k<dS m
 ·exact(aj (decide_eq_true hk)).2 (Fv (f:=id) h hk rfl fun e=>aH e (.ret _))
 ·exact(ai (decide_eq_false hk)).2 (aH (by rw[oC,decide_eq_false hk];rfl) (.ret _))
def G2:(ap×dM×Int)→Bool:=fun(m,c,k)=>oC m c k
def DG:(ap×dM×Int)→Bool:=fun(m,c,_)=>decide (gW m c=0)
def SS:aC:=⟨[c_,sD,yI], [.bool],DG,G2⟩
theorem SV:Sd 290 SS:=aQ au dC true 42 [] (fun A (m,c,mode)=>Mz A m c mode) (fc Tryz.func290 fz) (sc Kp sz) fun((m,c,mode):ap×dM×Int) hp h=>Up (of_decide_eq_true hp)
structure GX where
 (a0:Int) (a2:ap) (a3:dM) (a4:Int) (a5:ap) (a6:dM) (a7:ap) (a8:dM) (a9:Int) (b_:ap) (dY:Int) (a12:dM)
inductive Im where
 | c0 (p:GX) (a1:Int)
noncomputable def Le:Im→f_
 | .c0 p a1=>⟨[⟨289,26,(en [(0,.yield 0),(1,.ptr 1 0),(2,.ptr 2 0),(11,vi p.a0),(12,vi a1)]),[.inLoop (cw Tryz.f289 [1,1,0,0]),.inBlock 0],[],none⟩,⟨186,16,(en [(6,.ptr 3 0)]),[.im 0,.inBlock 0,.code (cw Tryz.f186 [1,1])],[4],none⟩],[.loop ⟨186,16,(en [(0,.agg [vi p.a2.1,vi p.a2.2.1,vi p.a2.2.2.1,vi p.a2.2.2.2.1,vi p.a2.2.2.2.2.1,vi p.a2.2.2.2.2.2.1,.sl .bool p.a2.2.2.2.2.2.2.1,.sl bA p.a2.2.2.2.2.2.2.2]),(1,.agg [vi p.a3.1,vi p.a3.2.1,vi p.a3.2.2.1,vi p.a3.2.2.2.1,vi p.a3.2.2.2.2]),(2,vi p.a4),(3,.ptr 5 0),(4,.ptr 7 0),(5,.ptr 6 0),(6,.ptr 3 0),(8,.agg [vi p.a5.1,vi p.a5.2.1,vi p.a5.2.2.1,vi p.a5.2.2.2.1,vi p.a5.2.2.2.2.1,vi p.a5.2.2.2.2.2.1,.sl .bool p.a5.2.2.2.2.2.2.1,.sl bA p.a5.2.2.2.2.2.2.2]),(9,.agg [vi p.a6.1,vi p.a6.2.1,vi p.a6.2.2.1,vi p.a6.2.2.2.1,vi p.a6.2.2.2.2]),(10,.fn 289 [] [.ptr 1 0,.ptr 2 0])]),[11],(cw Tryz.f186 [1,0,1,0,0]),(cw Tryz.f186 [1,0,1,0,1]),0,none⟩,.flat false [vi p.a7.1,vi p.a7.2.1,vi p.a7.2.2.1,vi p.a7.2.2.2.1,vi p.a7.2.2.2.2.1,vi p.a7.2.2.2.2.2.1,.sl .bool p.a7.2.2.2.2.2.2.1,.sl bA p.a7.2.2.2.2.2.2.2],.flat false [vi p.a8.1,vi p.a8.2.1,vi p.a8.2.2.1,vi p.a8.2.2.2.1,vi p.a8.2.2.2.2],.flat false [vi p.a9],.yq,.flat false [vi p.b_.1,vi p.b_.2.1,vi p.b_.2.2.1,vi p.b_.2.2.2.1,vi p.b_.2.2.2.2.1,vi p.b_.2.2.2.2.2.1,.sl .bool p.b_.2.2.2.2.2.2.1,.sl bA p.b_.2.2.2.2.2.2.2],.flat false [vi p.dY],.flat false [vi p.a12.1,vi p.a12.2.1,vi p.a12.2.2.1,vi p.a12.2.2.2.1,vi p.a12.2.2.2.2],.dead]⟩
def Mt(A:bu)(m:ap)(c:dM)(mode:Int):LT Int Im:=.need (A.k (@tt (ap×dM)) (m,c)) (.br (A.c .neq (A.k vL (m,c)) 0) (.ret (-1)) (.more (.c0 ⟨(A.l m.2.2.2.2.2.2.2),m,c,mode,m,c,m,c,0,m,mode,c⟩ 0)))
def ES(A:bu):Im→LT Int Im
 | .c0 p a1=>.br (A.c .lss a1 p.a0) (.need (A.k DG (p.a7,p.a8,a1)) (.br (A.k G2 (p.a7,p.a8,a1)) (.br (A.c .eql a1 p.dY) (.ret a1) (.more (.c0 p (A.b .add .i64 a1 1)))) (.more (.c0 p (A.b .add .i64 a1 1))))) (.ret (-1))
def E7(m:ap)(c:dM)(k:Int):Int:=bif decide (gW m c=0)&&oC m c k then k else -1
theorem FG{p:GX}{m:ap}{c:dM}{k:Int}(h0:p.a0=dS m)(h7:p.a7=m)(h8:p.a8=c)(h11:p.dY=k)(h:gW m c=0):∀(j i:Nat),m.2.2.2.2.2.2.2.length-i=j→i≤m.2.2.2.2.2.2.2.length→aD (ES ah) (.more (.c0 p (i:Int))) (bif decide ((i:Int)≤k)&&oC m c k then k else -1):=by
 have hl:=(gK (qB h).1).2.1
 unfold dS at hl h0
 intro j
 induction j with
 | zero=>
   intro i hj hi
   rw[ak,ES,h0]
   refine(ai (by rw[ao];exact decide_eq_false (by omega))).2 (aH ?_ (.ret _))
   by_cases hk:(i:Int)≤k
   ·rw[oC,decide_eq_false (show ¬(0≤k∧k<dS m) by unfold dS;omega),Bool.false_and,Bool.and_false];rfl
   ·rw[decide_eq_false hk];rfl
 | succ j ih=>
   intro i hj hi
   rw[ak,ES,h0,h7,h8,h11]
   refine(aj (by rw[ao];exact decide_eq_true (by omega))).2 (af.2 ⟨by rw[al];exact decide_eq_true h,?_⟩)
   rw[show ah.k G2 (m,c,(i:Int))=oC m c i from rfl,dI (i:=i) (by omega)]
   have hn:=ih (i+1) (by omega) (by omega)
   cases hm:oC m c i
   ·refine(ai rfl).2 (aH ?_ hn)
    by_cases hk:(i:Int)=k
    ·rw[←hk,hm,Bool.and_false,Bool.and_false]
    ·rw[show decide (((i+1:Nat):Int)≤k)=decide ((i:Int)≤k) by rw[Bool.eq_iff_iff];simp;omega]
   ·refine(aj rfl).2 (aM (p:=(i:Int)=k) bT (fun hk=>?_) fun hk=>?_)
    ·exact aH (by rw[←hk,hm,decide_eq_true (Int.le_refl _)];rfl) (.ret _)
    ·exact aH (by rw[show decide (((i+1:Nat):Int)≤k)=decide ((i:Int)≤k) by rw[Bool.eq_iff_iff];simp;omega]) hn
theorem WA{m:ap}{c:dM}{k:Int}:aD (ES ah) (Mt ah m c k) (E7 m c k):=by
 unfold Mt E7
 refine af.2 ⟨rfl,?_⟩
 rw[show ah.k vL (m,c)=gW m c from rfl]
 by_cases h:gW m c=0
 ·rw[decide_eq_true h]
  refine(ai (Di h)).2 (aH ?_ (FG (p:=⟨dS m,m,c,k,m,c,m,c,0,m,k,c⟩) (k:=k) rfl rfl rfl rfl h m.2.2.2.2.2.2.2.length 0 rfl (by omega)))
  by_cases hk:0≤k
  ·rw[show decide (((0:Nat):Int)≤k)=true from decide_eq_true hk]
  ·rw[oC,decide_eq_false (show ¬(0≤k∧k<dS m) by omega),Bool.false_and,Bool.and_false,Bool.and_false]
 ·rw[decide_eq_false h]
  exact(aj (sC h)).2 (.ret _)
def G3:(ap×dM×Int)→Int:=fun(m,c,k)=>E7 m c k
def OF:aC:=⟨[c_,sD,yI], [yI],(@tt (ap×dM×Int)),G3⟩
theorem TQ:Sd 186 OF:=aJ au dC true 53 [⟨289,2, [[0,1,2,11,12], [6]]⟩] [] (fun A (m,c,mode)=>Mt A m c mode) ES Le (fc Tryz.func186 (fc Tryz.func245 (fc Tryz.func289 fz))) (sc J2 (sc SV sz)) (fun A y=>match y with |.c0 p a1=>⟨55,by kernel_rfl,by kernel_rfl⟩) fun(m,c,mode) hp h=>WA
def KO(A:bu)(m:ap)(c:dM)(req:Int):LT (dM×Int) Empty:=.need (A.k (@tt (ap×dM)) (m,c)) (.br (A.c .neq (A.k vL (m,c)) 0) (.ret ((0,0,0,0,0),(A.k vL (m,c)))) (.br (A.c .lss req 0) (.ret ((0,0,0,0,0),100)) (.br (A.c .gtr req (A.l m.2.2.2.2.2.2.2)) (.ret ((0,0,0,0,0),100)) (.br (A.c .gtr req 0) (.need (A.k (@tt (ap×dM×Int)) (m,c,(A.b .sub .i64 req 1))) (.br (A.c .geq (A.k G3 (m,c,(A.b .sub .i64 req 1))) 0) (.ret ((c.1,c.2.1,c.2.2.1,req,c.2.2.2.2),0)) (.ret (c,0)))) (.ret (c,0))))))
def vE(m:ap)(c:dM)(r:Int):dM×Int:=bif decide (gW m c=0) then(bif decide (0≤r∧r≤dS m) then(bif decide (0<r)&&oC m c (r-1) then((c.1,c.2.1,c.2.2.1,r,c.2.2.2.2),0) else(c,0)) else((0,0,0,0,0),100)) else((0,0,0,0,0),gW m c)
theorem Yn{m:ap}{c:dM}{r:Int}:aD Empty.elim (KO ah m c r) (vE m c r):=by
 unfold KO vE
 refine af.2 ⟨rfl,?_⟩
 rw[show ah.k vL (m,c)=gW m c from rfl,show ah.k G3 (m,c,(ah.b .sub .i64 r 1))=E7 m c (ah.b .sub .i64 r 1) from rfl]
 by_cases h:gW m c=0
 ·have hl:=(gK (qB h).1).2.1
  rw[decide_eq_true h]
  refine(ai (Di h)).2 (aM (p:=r<0) rfl (fun h1=>?_) fun h1=>aM (p:=dS m<r) rfl (fun h2=>?_) fun h2=>?_)
  ·exact aH (by rw[decide_eq_false (by omega)];rfl) (.ret _)
  ·exact aH (by rw[decide_eq_false (by omega)];rfl) (.ret _)
  ·rw[decide_eq_true (show 0≤r∧r≤dS m by omega),aS,fU (by omega) (by omega)]
   refine aM (p:=0<r) rfl (fun h3=>af.2 ⟨rfl,?_⟩) fun h3=>?_
   ·rw[decide_eq_true h3,E7,decide_eq_true h,Bool.true_and]
    cases hm:oC m c (r-1)
    ·exact(ai rfl).2 (.ret _)
    ·exact(aj (by rw[cond_true,aI];exact decide_eq_true (by omega))).2 (.ret _)
   ·exact aH (by rw[decide_eq_false h3];rfl) (.ret _)
 ·rw[decide_eq_false h]
  exact(aj (sC h)).2 (.ret _)
def q_:(ap×dM×Int)→(dM×Int):=fun(m,c,k)=>vE m c k
def Sg:aC:=⟨[c_,sD,yI], [sD,yI],(@tt (ap×dM×Int)),q_⟩
theorem Kk:Sd 111 Sg:=aQ au dC true 69 [] (fun A (m,c,req)=>KO A m c req) (fc Tryz.func111 fz) (sc J2 (sc TQ sz)) fun(m,c,req) hp h=>Yn
open Go.Ev.Pl
def Ku(A:bu)(m:ap)(node:Int):LT Int Empty:=.need (A.k (@tt ap) m) (.br (A.c .neq (A.k kE m) 0) (.ret (A.k kE m)) (.need (A.k (@tt (Int×Int×Int)) (node,0,(A.b .sub .i64 m.1 1))) (.br (A.not (A.k dz (node,0,(A.b .sub .i64 m.1 1)))) (.ret 2) (.ret 0))))
theorem sT{α:Type}{l:List α}{i n:Int}(e:(l.length:Int)=n)(h0:0≤i)(h1:i<n):ah.and (ah.c .leq 0 i) (ah.c .lss i (ah.l l))=true:=oP h0 (e▸h1)
def iW(m:ap)(n:Int):Int:=bif dR m then(bif decide (0≤n∧n≤m.1-1) then 0 else 2) else 70
theorem wQ{m:ap}{n:Int}(h:iW m n=0):dR m=true∧0≤n∧n≤m.1-1:=by
 unfold iW at h
 cases hm:dR m
 ·rw[hm,cond_false] at h;exact absurd h (by decide)
 ·by_cases hn:0≤n∧n≤m.1-1
  ·exact⟨rfl,hn⟩
  ·rw[hm,decide_eq_false hn,cond_true,cond_false] at h;exact absurd h (by decide)
theorem Lf{m:ap}{n:Int}:aD Empty.elim (Ku ah m n) (iW m n):=by
 unfold Ku iW
 refine af.2 ⟨rfl,?_⟩
 rw[show ah.k kE m=mK m from rfl,mK]
 cases hm:dR m
 ·exact(aj rfl).2 (.ret _)
 have hl:=(gK hm).1
 rw[aS,fU (by omega) (by omega)]
 refine(ai rfl).2 (af.2 ⟨rfl,ez (fun h=>?_) fun h=>?_⟩)
 ·exact aH (by rw[decide_eq_false h];rfl) (.ret _)
 ·exact aH (by rw[decide_eq_true h];rfl) (.ret _)
def v8:(ap×Int)→Int:=fun(m,n)=>iW m n
def QQ:aC:=⟨[c_,yI], [yI],(@tt (ap×Int)),v8⟩
theorem Kn:Sd 181 QQ:=aQ au dC true 41 [] (fun A (m,node)=>Ku A m node) (fc Tryz.func181 fz) (sc BW (sc yy sz)) fun(m,node) hp h=>Lf
def L6(A:bu)(m:ap)(node:Int):LT (Int×Int) Empty:=.need (A.k (@tt (ap×Int)) (m,node)) (.br (A.c .neq (A.k v8 (m,node)) 0) (.ret (0,(A.k v8 (m,node)))) (.ret ((A.b .mul .i64 2 (A.b .add .i64 node 1)),0)))
def GH(m:ap)(n:Int):Int×Int:=bif decide (iW m n=0) then((ah.b .mul .i64 2 (ah.b .add .i64 n 1)),0) else(0,iW m n)
theorem Uk{m:ap}{n:Int}:aD Empty.elim (L6 ah m n) (GH m n):=by
 unfold L6 GH
 refine af.2 ⟨rfl,aM (p:=¬iW m n=0) bg (fun h=>?_) fun h=>?_⟩
 ·exact aH (by rw[decide_eq_false h];rfl) (.ret _)
 ·exact aH (by rw[decide_eq_true (by omega)];rfl) (.ret _)
def yS:(ap×Int)→(Int×Int):=fun(m,n)=>GH m n
def VC:aC:=⟨[c_,yI], [yI,yI],(@tt (ap×Int)),yS⟩
theorem SF:Sd 175 VC:=aQ au dC true 35 [] (fun A (m,node)=>L6 A m node) (fc Tryz.func175 fz) (sc Kn sz) fun(m,node) hp h=>Uk
def Ad(m:ap)(n:Int):Int×Int:=bif decide (iW m n=0) then((ah.b .add .i64 (ah.b .mul .i64 4 m.1) (ah.b .mul .i64 2 (ah.b .add .i64 n 1))),0) else(0,iW m n)
def L5(A:bu)(m:ap)(node:Int):LT (Int×Int) Empty:=.need (A.k (@tt (ap×Int)) (m,node)) (.br (A.c .neq (A.k yS (m,node)).2 0) (.ret (0,(A.k yS (m,node)).2)) (.ret ((A.b .add .i64 (A.b .mul .i64 4 m.1) (A.k yS (m,node)).1),0)))
theorem Re{m:ap}{n:Int}:aD Empty.elim (L5 ah m n) (Ad m n):=by
 unfold L5 Ad
 refine af.2 ⟨rfl,?_⟩
 rw[show ah.k yS (m,n)=GH m n from rfl,GH]
 by_cases h:iW m n=0
 ·rw[decide_eq_true h];exact(ai rfl).2 (.ret _)
 ·rw[decide_eq_false h];exact(aj (sC h)).2 (.ret _)
def JA:(ap×Int)→(Int×Int):=fun(m,n)=>Ad m n
def Ru:aC:=⟨[c_,yI], [yI,yI],(@tt (ap×Int)),JA⟩
theorem UM:Sd 100 Ru:=aQ au dC true 41 [] (fun A (m,node)=>L5 A m node) (fc Tryz.func100 fz) (sc SF sz) fun(m,node) hp h=>Re
def KV(A:bu)(m:ap)(mode:Int)(node:Int):LT (Int×Int) Empty:=.need (A.k (@tt (ap×Int)) (m,node)) (.br (A.c .neq (A.k v8 (m,node)) 0) (.ret (0,(A.k v8 (m,node)))) (.need (A.k (@tt (Int×Int×Int)) (mode,0,(A.b .sub .i64 (A.l m.2.2.2.2.2.2.2) 1))) (.br (A.not (A.k dz (mode,0,(A.b .sub .i64 (A.l m.2.2.2.2.2.2.2) 1)))) (.ret (0,2)) (.need (A.and (A.c .leq 0 mode) (A.c .lss mode (A.l m.2.2.2.2.2.2.2))) (.need (A.and (A.c .leq 0 node) (A.c .lss node (A.l (A.n bA m.2.2.2.2.2.2.2 mode:Mode).2.1))) (.need (A.and (A.c .leq 0 node) (A.c .lss node (A.l (A.n bA m.2.2.2.2.2.2.2 mode:Mode).1))) (.need (A.k (@tt (Bool×Int)) ((A.n .bool (A.n bA m.2.2.2.2.2.2.2 mode:Mode).2.1 node:Bool),(A.n yI (A.n bA m.2.2.2.2.2.2.2 mode:Mode).1 node:Int))) (.ret ((A.k iU ((A.n .bool (A.n bA m.2.2.2.2.2.2.2 mode:Mode).2.1 node:Bool),(A.n yI (A.n bA m.2.2.2.2.2.2.2 mode:Mode).1 node:Int))),0)))))))))
def iR(m:ap)(k n:Int):Int×Int:=bif decide (iW m n=0) then(bif decide (0≤k∧k≤dS m-1) then(iU ((ah.n .bool (ah.n bA m.2.2.2.2.2.2.2 k:Mode).2.1 n:Bool),(ah.n (.int .i64) (ah.n bA m.2.2.2.2.2.2.2 k:Mode).1 n:Int)),0) else(0,2)) else(0,iW m n)
theorem MF{m:ap}{k n:Int}:aD Empty.elim (KV ah m k n) (iR m k n):=by
 unfold KV iR
 refine af.2 ⟨rfl,?_⟩
 rw[show ah.k v8 (m,n)=iW m n from rfl]
 by_cases h:iW m n=0
 ·obtain⟨hm,h1,h2⟩:=wQ h
  have hl:=(gK hm).2.1
  rw[decide_eq_true h]
  have e:ah.b .sub .i64 (dS m) 1=dS m-1:=by rw[aS,fU (by omega) (by omega)]
  rw[show ah.b .sub .i64 (ah.l m.2.2.2.2.2.2.2) 1=dS m-1 from e]
  refine(ai (Di h)).2 (af.2 ⟨rfl,ez (fun h3=>?_) fun h3=>?_⟩)
  ·exact aH (by rw[decide_eq_false h3];rfl) (.ret _)
  ·have hx:=nf (tg hm h3.1 (show k<dS m by omega))
   refine af.2 ⟨oP h3.1 (show k<dS m by omega),af.2 ⟨sT hx.2.1 h1 (by omega),af.2 ⟨sT hx.1 h1 (by omega),af.2 ⟨rfl,?_⟩⟩⟩⟩
   exact aH (by rw[decide_eq_true h3];rfl) (.ret _)
 ·rw[decide_eq_false h];exact(aj (sC h)).2 (.ret _)
def nI:(ap×Int×Int)→(Int×Int):=fun(m,c,k)=>iR m c k
def QD:aC:=⟨[c_,yI,yI], [yI,yI],(@tt (ap×Int×Int)),nI⟩
theorem Oc:Sd 106 QD:=aQ au dC true 66 [] (fun A (m,mode,node)=>KV A m mode node) (fc Tryz.func106 fz) (sc yy (sc J6 (sc Kn sz))) fun(m,mode,node) hp h=>MF
def LZ(A:bu)(c:dM)(n:Int):LT (dM×Int) Empty:=.need (A.k (@tt ((Int×Int×Int×Int×Int)×Int)) (c,n)) (.br (A.c .neq (A.k jB (c,n)) 0) (.ret ((0,0,0,0,0),(A.k jB (c,n)))) (.br (A.c .eql (A.b .add .i64 c.2.1 1) n) (.br (A.c .neq c.2.2.2.1 0) (.ret (((A.b .and .i64 (A.b .add .i64 c.1 1) 255),0,(A.b .sub .i64 c.2.2.2.1 1),0,c.2.2.2.2),0)) (.ret (((A.b .and .i64 (A.b .add .i64 c.1 1) 255),0,c.2.2),0))) (.ret ((c.1,(A.b .add .i64 c.2.1 1),c.2.2),0))))
theorem Kw:∀k:Fin 256,ah.b .and .i64 ((k.val:Int)+1) 255=((k.val:Int)+1).tmod 256:=by decide +kernel
def gB(c:dM)(n:Int):dM×Int:=bif decide (gI (c,n)=0) then(bif decide (c.2.1+1=n) then(bif decide (c.2.2.2.1=0) then(((c.1+1).tmod 256,0,c.2.2),0) else(((c.1+1).tmod 256,0,c.2.2.2.1-1,0,c.2.2.2.2),0)) else((c.1,c.2.1+1,c.2.2),0)) else((0,0,0,0,0),gI (c,n))
theorem MN{c:dM}{n:Int}:aD Empty.elim (LZ ah c n) (gB c n):=by
 unfold LZ gB
 refine af.2 ⟨rfl,?_⟩
 rw[show ah.k jB (c,n)=gI (c,n) from rfl]
 by_cases h:gI (c,n)=0
 ·obtain⟨h1,h2,h3,h4,h5,h6⟩:=nV h
  have e1:ah.b .add .i64 c.1 1=c.1+1:=by rw[bi,fU (by omega) (by omega)]
  have e2:ah.b .add .i64 c.2.1 1=c.2.1+1:=by rw[bi,fU (by omega) (by omega)]
  have e3:ah.b .sub .i64 c.2.2.2.1 1=c.2.2.2.1-1:=by rw[aS,fU (by omega) (by omega)]
  have e4:ah.b .and .i64 (c.1+1) 255=(c.1+1).tmod 256:=by
   have:=Kw ⟨c.1.toNat,by omega⟩
   rwa [show((c.1.toNat:Nat):Int)=c.1 from Int.toNat_of_nonneg h2.1] at this
  rw[decide_eq_true h,e1,e2,e3,e4]
  refine(ai (Di h)).2 (aM (p:=c.2.1+1=n) bT (fun h=>aM (p:=¬c.2.2.2.1=0) bg (fun g=>?_) fun g=>?_) fun h=>?_)
  ·exact aH (by rw[decide_eq_true h,decide_eq_false g];rfl) (.ret _)
  ·exact aH (by rw[decide_eq_true h,decide_eq_true (by omega)];rfl) (.ret _)
  ·exact aH (by rw[decide_eq_false h];rfl) (.ret _)
 ·rw[decide_eq_false h];exact(aj (sC h)).2 (.ret _)
def rA:(dM×Int)→(dM×Int):=fun(m,c)=>gB m c
def Vj:aC:=⟨[sD,yI], [sD,yI],(@tt (dM×Int)),rA⟩
theorem Vw:Sd 56 Vj:=aQ au dC true 80 [] (fun A (c,n)=>LZ A c n) (fc Tryz.func56 fz) (sc yb sz) fun(c,n) hp h=>MN
def Mp(A:bu)(node:Int):LT Int Empty:=.br (A.c .lss node 0) (.ret 0) (.br (A.c .geq node 8) (.ret 0) (.need (A.c .leq 0 node) (.ret (A.b .shl .i64 1 node))))
def Fb(n:Int):Int:=bif decide (0≤n∧n≤7) then ah.b .shl .i64 1 n else 0
theorem X3{n:Int}:aD Empty.elim (Mp ah n) (Fb n):=by
 unfold Mp Fb
 refine aM (p:=n<0) rfl (fun h=>?_) fun h1=>aM (p:=8≤n) rfl (fun h=>?_) fun h2=>af.2 ⟨decide_eq_true (by omega),?_⟩
 ·exact aH (by rw[decide_eq_false (by omega)];rfl) (.ret _)
 ·exact aH (by rw[decide_eq_false (by omega)];rfl) (.ret _)
 ·exact aH (by rw[decide_eq_true (by omega)];rfl) (.ret _)
def Dz:Int→Int:=Fb
def VK:aC:=⟨[yI], [yI],(@tt Int),Dz⟩
theorem Vy:Sd 228 VK:=aQ au dC true 28 [] (fun A node=>Mp A node) (fc Tryz.func228 fz) sz fun node hp h=>X3
def MU(A:bu)(c:dM)(node:Int):LT Bool Empty:=.need (A.k (@tt Int) node) (.ret (A.c .neq (A.b .and .i64 c.2.2.2.2 (A.k Dz node)) 0))
theorem Wx{x:Int}:ah.b .and .i64 x 0=0:=by
 show IntKind.i64.wrap (((BitVec.ofInt 64 x &&& BitVec.ofInt 64 0).toNat:Nat):Int)=0
 rw[show BitVec.ofInt 64 0=0#64 from rfl,BitVec.and_zero];rfl
def Dy(c:dM)(n:Int):Bool:=bif decide (0≤n∧n≤7) then ah.c .neq (ah.b .and .i64 c.2.2.2.2 (ah.b .shl .i64 1 n)) 0 else false
theorem Vo{c:dM}{n:Int}:aD Empty.elim (MU ah c n) (Dy c n):=by
 unfold MU Dy
 refine af.2 ⟨rfl,aH ?_ (.ret _)⟩
 rw[show ah.k Dz n=Fb n from rfl,Fb]
 cases decide (0≤n∧n≤7)
 ·rw[cond_false,cond_false,Wx];rfl
 ·rfl
def Gm:(dM×Int)→Bool:=fun(m,c)=>Dy m c
def NY:aC:=⟨[sD,yI], [.bool],(@tt (dM×Int)),Gm⟩
theorem OT:Sd 164 NY:=aQ au dC true 21 [] (fun A (c,node)=>MU A c node) (fc Tryz.func164 fz) (sc Vy sz) fun(c,node) hp h=>Vo
def HV(A:bu)(m:ap)(id:Int):LT Int Empty:=.need (A.k (@tt (ap×Int)) (m,id)) (.ret (A.k JA (m,id)).1)
def wv:(ap×Int)→Int:=fun(m,id)=>(HV ah m id).val (Ty.bV [yI])
def RF:aC:=⟨[c_,yI], [yI],(@tt (ap×Int)),wv⟩
theorem EN:Sd 47 RF:=aK au dC true 27 [] (fun A (m,id)=>HV A m id) (fc Tryz.func47 fz) (sc UM sz) (fun((m,id):ap×Int) hp h=>by
 show(HV ah m id).pre=true
 simp[HV,LT.pre,al,cB])
open Go.Ev.Pl
def Jl(A:bu)(n:Int)(least:Int)(most:Int):LT Bool Empty:=.br (A.c .geq n least) (.ret (A.c .leq n most)) (.ret false)
def tK:(Int×Int×Int)→Bool:=fun(n,least,most)=>(Jl ah n least most).val (Ty.bV [.bool])
def Rw:aC:=⟨[yI,yI,yI], [.bool],(@tt (Int×Int×Int)),tK⟩
theorem J_:Sd 43 Rw:=aK au dC true 22 [] (fun A (n,least,most)=>Jl A n least most) (fc Tryz.func43 fz) sz (fun((n,least,most):Int×Int×Int) hp h=>by
 show(Jl ah n least most).pre=true
 simp[Jl,LT.pre,al,cB])
def KM(A:bu)(n:Node):LT Bool Empty:=.need (A.k (@tt (Int×Int×Int)) (n.2.1,2,4)) (.ret (A.k tK (n.2.1,2,4)))
theorem Fx:tK=dz:=rfl
def kJ(n:Node):Bool:=decide (2≤n.2.1∧n.2.1≤4)
theorem Xt{n:Node}:aD Empty.elim (KM ah n) (kJ n):=by
 unfold KM kJ
 exact af.2 ⟨rfl,aH (by rw[Fx,al,kH,Bool.eq_iff_iff];simp) (.ret _)⟩
def cN:Node→Bool:=kJ
def RB:aC:=⟨[eE], [.bool],(@tt Node),cN⟩
theorem BY:Sd 13 RB:=aQ au dC true 18 [] (fun A n=>KM A n) (fc Tryz.func13 fz) (sc J_ sz) fun n hp h=>Xt
def J7(c:dM):Bool:=ah.and (ah.c .eql c.1 0) (ah.and (ah.c .eql c.2.1 0) (ah.and (ah.c .eql c.2.2.1 0) (ah.and (ah.c .eql c.2.2.2.1 0) (ah.and (ah.c .eql c.2.2.2.2 0) true))))
def zeroV(v:sn):Bool:=ah.and (ah.c .eql v.1 0) (ah.and (ah.c .eql v.2.1 0) (ah.and (ah.c .eql v.2.2.1 0) (ah.and (ah.c .eql v.2.2.2.1 0) (ah.and (ah.c .eql v.2.2.2.2.1 0) (ah.and (ah.c .eql v.2.2.2.2.2.1 0) (ah.and (ah.c .eql v.2.2.2.2.2.2 0) true))))))
def qp(m:ap)(n:Node):Bool:=bif kJ n then(dK m n.2.2.1&&(decide (lM n.2.2.2.1=0)&&(decide (n.2.2.2.1.1=n.1)&&(decide (n.2.2.2.1.2.1=m.1)&&decide (n.2.2.1.2.2.2.2=n.2.2.2.1.2.2.1))))) else(J7 n.2.2.1&&zeroV n.2.2.2.1)
def vJ(m:ap)(n:Node):Bool:=bif decide (n.2.1=1) then decide (1≤n.2.2.2.2.1∧n.2.2.2.2.1≤(Ad m n.1).1) else decide (n.2.2.2.2.1=0)
def yJ(m:ap)(n:Node):Bool:=bif decide (n.2.1=2) then(ah.n .bool m.2.2.2.2.2.2.1 n.1:Bool) else true
def tj(n:Node):Bool:=bif n.2.2.2.2.2.1 then decide (n.2.1=1∨n.2.1=2) else true
def Av(m:ap)(n:Node):Bool:=decide (0≤n.1∧n.1≤m.1-1)&&(decide (0≤n.2.1∧n.2.1≤5)&&(decide (0≤n.2.2.2.2.2.2.1∧n.2.2.2.2.2.2.1≤2)&&(fN n.2.2.2.2.2.2.2&&(decide (n.2.2.2.2.2.2.2.1=n.1)&&(decide ((n.2.2.2.2.2.2.2.2.2.1.length:Int)=m.1)&&(yJ m n&&(qp m n&&(vJ m n&&tj n))))))))
def dh(m:ap)(n:Node):Int:=bif dR m then(bif Av m n then 0 else 180) else 70
theorem eu{m:ap}{n:Node}:Av m n=true↔(0≤n.1∧n.1≤m.1-1)∧(0≤n.2.1∧n.2.1≤5)∧(0≤n.2.2.2.2.2.2.1∧n.2.2.2.2.2.2.1≤2)∧fN n.2.2.2.2.2.2.2=true∧n.2.2.2.2.2.2.2.1=n.1∧(n.2.2.2.2.2.2.2.2.2.1.length:Int)=m.1∧yJ m n=true∧qp m n=true∧vJ m n=true∧tj n=true:=by
 unfold Av;simp only[Bool.and_eq_true,decide_eq_true_eq]
theorem dx{m:ap}{n:Node}(h:dh m n=0):dR m=true∧Av m n=true:=by
 unfold dh at h
 cases hm:dR m
 ·rw[hm,cond_false] at h;exact absurd h (by decide)
 ·cases hn:Av m n
  ·rw[hm,hn,cond_true,cond_false] at h;exact absurd h (by decide)
  ·exact⟨rfl,rfl⟩
section
variable {R Y:Type} {step:Y→LT R Y} {e:LT R Y} {x y:R} {G:Bool}
theorem kW{p:Prop}[Decidable p]{b:Bool}(hb:b=decide p)(h:G=true→¬p)(he:¬p→aD step e (bif G then x else y)):aD step (.br b (.ret y) e) (bif G then x else y):=by
 refine aM hb (fun hp=>?_) he
 cases G
 ·exact .ret _
 ·exact absurd hp (h rfl)
theorem s5{b:Bool}(h:G=true→b=true)(he:b=true→aD step e (bif G then x else y)):aD step (.br (ah.not b) (.ret y) e) (bif G then x else y):=by
 cases b
 ·cases G
  ·exact(aj rfl).2 (.ret _)
  ·exact absurd (h rfl) (by decide)
 ·exact(ai rfl).2 (he rfl)
theorem sU{u a b:Int}(h:G=true→a≤u∧u≤b)(he:a≤u∧u≤b→aD step e (bif G then x else y)):aD step (.br (ah.not (ah.k dz (u,a,b))) (.ret y) e) (bif G then x else y):=by
 refine ez (fun hp=>?_) he
 cases G
 ·exact .ret _
 ·exact absurd (h rfl) hp
theorem xc(h:G=true):aD step (.ret x) (bif G then x else y):=aH (by rw[h];rfl) (.ret _)
end
theorem Qi{Y:Type}{step:Y→LT Int Y}{n:Node}{G:Bool}(h1:G=true→tj n=true)(h2:tj n=true→G=true):aD step (.br n.2.2.2.2.2.1 (.br (ah.c .neq n.2.1 1) (.br (ah.c .neq n.2.1 2) (.ret 180) (.ret 0)) (.ret 0)) (.ret 0)) (bif G then 0 else 180):=by
 unfold tj at h1 h2
 cases hb:n.2.2.2.2.2.1
 ·rw[hb] at h1 h2
  exact(ai rfl).2 (xc (h2 rfl))
 ·rw[hb] at h1 h2
  simp only[cond_true,decide_eq_true_eq] at h1 h2
  refine(aj rfl).2 (aM (p:=¬n.2.1=1) bg (fun h=>kW (p:=¬n.2.1=2) bg (fun g=>?_) fun g=>?_) fun h=>?_)
  ·have:=h1 g;omega
  ·exact xc (h2 (by omega))
  ·exact xc (h2 (by omega))
theorem Kl{R Y:Type}{step:Y→LT R Y}{m:ap}{n:Node}{G:Bool}{e:LT R Y}{x y:R}(hm:dR m=true)(hi:0≤n.1∧n.1≤m.1-1)(h1:G=true→yJ m n=true)(h2:yJ m n=true→aD step e (bif G then x else y)) :
  aD step (.br (ah.c .eql n.2.1 2) (.need (ah.and (ah.c .leq 0 n.1) (ah.c .lss n.1 (ah.l m.2.2.2.2.2.2.1))) (.br (ah.not (ah.n .bool m.2.2.2.2.2.2.1 n.1:Bool)) (.ret y) e)) e) (bif G then x else y):=by
 unfold yJ at h1 h2
 refine aM (p:=n.2.1=2) bT (fun h=>af.2 ⟨sT (gK hm).2.2.1 hi.1 (by omega),?_⟩) fun h=>?_
 ·rw[decide_eq_true h] at h1 h2
  exact s5 h1 h2
 ·rw[decide_eq_false h] at h2
  exact h2 rfl
structure F4 where
 (a0:ap) (a1:Node)
structure MV where
 (b0:ap) (b1:Node)
structure Kq where
 (c0:Node)
inductive Ja where
 | c0 (p:F4)
 | c1 (p:MV)
 | c2 (p:Kq)
noncomputable def L3:Ja→f_
 | .c0 p=>⟨[⟨12,160,(en [(2,.ptr 0 0),(3,.ptr 1 0)]),[.code (cw Tryz.f12 [1,1,1,0,0,0,0,0,0,0,0,0,1,0,0]),.code (cw Tryz.f12 [1,1,1,0,0,0,0,0,0,0,0,0,1,0,1]),.code (cw Tryz.f12 [1,1,1,0,0,0,0,0,0,0,0,0,1,1]),.code (.exit 3),.inBlock 4,.inBlock 5,.inBlock 6,.inBlock 7,.inBlock 8,.code (cw Tryz.f12 [1,1,1,0,0,1]),.inBlock 3,.code (cw Tryz.f12 [1,1,1,1])],[],none⟩],[.flat false [vi p.a0.1,vi p.a0.2.1,vi p.a0.2.2.1,vi p.a0.2.2.2.1,vi p.a0.2.2.2.2.1,vi p.a0.2.2.2.2.2.1,.sl .bool p.a0.2.2.2.2.2.2.1,.sl bA p.a0.2.2.2.2.2.2.2],.flat false [vi p.a1.1,vi p.a1.2.1,vi p.a1.2.2.1.1,vi p.a1.2.2.1.2.1,vi p.a1.2.2.1.2.2.1,vi p.a1.2.2.1.2.2.2.1,vi p.a1.2.2.1.2.2.2.2,vi p.a1.2.2.2.1.1,vi p.a1.2.2.2.1.2.1,vi p.a1.2.2.2.1.2.2.1,vi p.a1.2.2.2.1.2.2.2.1,vi p.a1.2.2.2.1.2.2.2.2.1,vi p.a1.2.2.2.1.2.2.2.2.2.1,vi p.a1.2.2.2.1.2.2.2.2.2.2,vi p.a1.2.2.2.2.1,vb p.a1.2.2.2.2.2.1,vi p.a1.2.2.2.2.2.2.1,vi p.a1.2.2.2.2.2.2.2.1,.sl yU p.a1.2.2.2.2.2.2.2.2.1,.sl cX p.a1.2.2.2.2.2.2.2.2.2.1,vi p.a1.2.2.2.2.2.2.2.2.2.2.1,vi p.a1.2.2.2.2.2.2.2.2.2.2.2],.dead]⟩
 | .c1 p=>⟨[⟨12,160,(en [(2,.ptr 0 0),(3,.ptr 1 0)]),[.code (cw Tryz.f12 [1,1,1,0,0,0,0,0,0,0,0,0,1,1,1,0,0]),.code (cw Tryz.f12 [1,1,1,0,0,0,0,0,0,0,0,0,1,1,1,0,1]),.code (cw Tryz.f12 [1,1,1,0,0,0,0,0,0,0,0,0,1,1,1,1]),.code (.exit 3),.inBlock 4,.inBlock 5,.inBlock 6,.inBlock 7,.inBlock 8,.code (cw Tryz.f12 [1,1,1,0,0,1]),.inBlock 3,.code (cw Tryz.f12 [1,1,1,1])],[],none⟩],[.flat false [vi p.b0.1,vi p.b0.2.1,vi p.b0.2.2.1,vi p.b0.2.2.2.1,vi p.b0.2.2.2.2.1,vi p.b0.2.2.2.2.2.1,.sl .bool p.b0.2.2.2.2.2.2.1,.sl bA p.b0.2.2.2.2.2.2.2],.flat false [vi p.b1.1,vi p.b1.2.1,vi p.b1.2.2.1.1,vi p.b1.2.2.1.2.1,vi p.b1.2.2.1.2.2.1,vi p.b1.2.2.1.2.2.2.1,vi p.b1.2.2.1.2.2.2.2,vi p.b1.2.2.2.1.1,vi p.b1.2.2.2.1.2.1,vi p.b1.2.2.2.1.2.2.1,vi p.b1.2.2.2.1.2.2.2.1,vi p.b1.2.2.2.1.2.2.2.2.1,vi p.b1.2.2.2.1.2.2.2.2.2.1,vi p.b1.2.2.2.1.2.2.2.2.2.2,vi p.b1.2.2.2.2.1,vb p.b1.2.2.2.2.2.1,vi p.b1.2.2.2.2.2.2.1,vi p.b1.2.2.2.2.2.2.2.1,.sl yU p.b1.2.2.2.2.2.2.2.2.1,.sl cX p.b1.2.2.2.2.2.2.2.2.2.1,vi p.b1.2.2.2.2.2.2.2.2.2.2.1,vi p.b1.2.2.2.2.2.2.2.2.2.2.2],.dead]⟩
 | .c2 p=>⟨[⟨12,160,(en [(3,.ptr 0 0)]),[.code (cw Tryz.f12 [1,1,1,0,0,0,0,0,0,0,0,0,1,1,1,1,0]),.code (cw Tryz.f12 [1,1,1,0,0,0,0,0,0,0,0,0,1,1,1,1,1]),.code (.exit 3),.inBlock 4,.inBlock 5,.inBlock 6,.inBlock 7,.inBlock 8,.code (cw Tryz.f12 [1,1,1,0,0,1]),.inBlock 3,.code (cw Tryz.f12 [1,1,1,1])],[],none⟩],[.flat false [vi p.c0.1,vi p.c0.2.1,vi p.c0.2.2.1.1,vi p.c0.2.2.1.2.1,vi p.c0.2.2.1.2.2.1,vi p.c0.2.2.1.2.2.2.1,vi p.c0.2.2.1.2.2.2.2,vi p.c0.2.2.2.1.1,vi p.c0.2.2.2.1.2.1,vi p.c0.2.2.2.1.2.2.1,vi p.c0.2.2.2.1.2.2.2.1,vi p.c0.2.2.2.1.2.2.2.2.1,vi p.c0.2.2.2.1.2.2.2.2.2.1,vi p.c0.2.2.2.1.2.2.2.2.2.2,vi p.c0.2.2.2.2.1,vb p.c0.2.2.2.2.2.1,vi p.c0.2.2.2.2.2.2.1,vi p.c0.2.2.2.2.2.2.2.1,.sl yU p.c0.2.2.2.2.2.2.2.2.1,.sl cX p.c0.2.2.2.2.2.2.2.2.2.1,vi p.c0.2.2.2.2.2.2.2.2.2.2.1,vi p.c0.2.2.2.2.2.2.2.2.2.2.2],.dead]⟩
def K3(A:bu)(m:ap)(n:Node):LT Int Ja:=.need (A.k (@tt ap) m) (.br (A.c .neq (A.k kE m) 0) (.ret (A.k kE m)) (.need (A.k (@tt (Int×Int×Int)) (n.1,0,(A.b .sub .i64 m.1 1))) (.br (A.not (A.k tK (n.1,0,(A.b .sub .i64 m.1 1)))) (.ret 180) (.need (A.k (@tt (Int×Int×Int)) (n.2.1,0,5)) (.br (A.not (A.k tK (n.2.1,0,5))) (.ret 180) (.need (A.k (@tt (Int×Int×Int)) (n.2.2.2.2.2.2.1,0,2)) (.br (A.not (A.k tK (n.2.2.2.2.2.2.1,0,2))) (.ret 180) (.need (A.k (@tt ek) n.2.2.2.2.2.2.2) (.br (A.c .neq (A.k kF n.2.2.2.2.2.2.2) 0) (.ret 180) (.br (A.c .neq n.2.2.2.2.2.2.2.1 n.1) (.ret 180) (.br (A.c .neq (A.l n.2.2.2.2.2.2.2.2.2.1) m.1) (.ret 180) (.need (A.k (@tt Node) n) (.br (A.k cN n) (.need (A.k (@tt (ap×dM)) (m,n.2.2.1)) (.br (A.not (A.k Bf (m,n.2.2.1))) (.ret 180) (.need (A.k (@tt ((Int×Int×Int×Int×Int×Int×Int))) n.2.2.2.1) (.br (A.c .neq (A.k i7 n.2.2.2.1) 0) (.ret 180) (.br (A.c .neq n.2.2.2.1.1 n.1) (.ret 180) (.br (A.c .neq n.2.2.2.1.2.1 m.1) (.ret 180) (.br (A.c .neq n.2.2.1.2.2.2.2 n.2.2.2.1.2.2.1) (.ret 180) (.more (.c0 ⟨m,n⟩))))))))) (.more (.c0 ⟨m,n⟩)))))))))))))))
def xE(A:bu):Ja→LT Int Ja
 | .c0 p=>.need (A.k (@tt Node) p.a1) (.br (A.not (A.k cN p.a1)) (.br (A.not (A.and (A.c .eql p.a1.2.2.1.1 0) (A.and (A.c .eql p.a1.2.2.1.2.1 0) (A.and (A.c .eql p.a1.2.2.1.2.2.1 0) (A.and (A.c .eql p.a1.2.2.1.2.2.2.1 0) (A.and (A.c .eql p.a1.2.2.1.2.2.2.2 0) true)))))) (.ret 180) (.br (A.not (A.and (A.c .eql p.a1.2.2.2.1.1 0) (A.and (A.c .eql p.a1.2.2.2.1.2.1 0) (A.and (A.c .eql p.a1.2.2.2.1.2.2.1 0) (A.and (A.c .eql p.a1.2.2.2.1.2.2.2.1 0) (A.and (A.c .eql p.a1.2.2.2.1.2.2.2.2.1 0) (A.and (A.c .eql p.a1.2.2.2.1.2.2.2.2.2.1 0) (A.and (A.c .eql p.a1.2.2.2.1.2.2.2.2.2.2 0) true)))))))) (.ret 180) (.br (A.c .eql p.a1.2.1 2) (.need (A.and (A.c .leq 0 p.a1.1) (A.c .lss p.a1.1 (A.l p.a0.2.2.2.2.2.2.1))) (.br (A.not (A.n .bool p.a0.2.2.2.2.2.2.1 p.a1.1:Bool)) (.ret 180) (.more (.c1 ⟨p.a0,p.a1⟩)))) (.more (.c1 ⟨p.a0,p.a1⟩))))) (.br (A.c .eql p.a1.2.1 2) (.need (A.and (A.c .leq 0 p.a1.1) (A.c .lss p.a1.1 (A.l p.a0.2.2.2.2.2.2.1))) (.br (A.not (A.n .bool p.a0.2.2.2.2.2.2.1 p.a1.1:Bool)) (.ret 180) (.more (.c1 ⟨p.a0,p.a1⟩)))) (.more (.c1 ⟨p.a0,p.a1⟩))))
 | .c1 p=>.br (A.c .eql p.b1.2.1 1) (.need (A.k (@tt (ap×Int)) (p.b0,p.b1.1)) (.need (A.k (@tt (Int×Int×Int)) (p.b1.2.2.2.2.1,1,(A.k wv (p.b0,p.b1.1)))) (.br (A.not (A.k tK (p.b1.2.2.2.2.1,1,(A.k wv (p.b0,p.b1.1))))) (.ret 180) (.br (A.c .neq p.b1.2.1 1) (.br (A.c .neq p.b1.2.2.2.2.1 0) (.ret 180) (.more (.c2 ⟨p.b1⟩))) (.more (.c2 ⟨p.b1⟩)))))) (.br (A.c .neq p.b1.2.1 1) (.br (A.c .neq p.b1.2.2.2.2.1 0) (.ret 180) (.more (.c2 ⟨p.b1⟩))) (.more (.c2 ⟨p.b1⟩)))
 | .c2 p=>.br p.c0.2.2.2.2.2.1 (.br (A.c .neq p.c0.2.1 1) (.br (A.c .neq p.c0.2.1 2) (.ret 180) (.ret 0)) (.ret 0)) (.ret 0)
theorem Cb{m:ap}{n:Node}{G:Bool}(h0:G=true→vJ m n=true∧tj n=true)(h2:vJ m n=true→tj n=true→G=true):aD (xE ah) (.more (.c1 ⟨m,n⟩)) (bif G then 0 else 180):=by
 have hb:vJ m n=true→aD (xE ah) (.more (.c2 ⟨n⟩)) (bif G then 0 else 180):=fun ht=>by
  rw[ak,xE]
  exact Qi (fun g=>(h0 g).2) (h2 ht)
 rw[ak,xE]
 have ht:=fun g=>(h0 g).1
 unfold vJ at ht hb
 rw[Fx]
 refine aM (p:=n.2.1=1) bT (fun h=>?_) fun h=>?_
 ·rw[decide_eq_true h,cond_true] at ht hb
  refine af.2 ⟨rfl,af.2 ⟨rfl,sU (fun g=>of_decide_eq_true (ht g)) fun h1=>?_⟩⟩
  exact aM (p:=¬n.2.1=1) bg (fun k=>absurd h k) fun _=>hb (decide_eq_true h1)
 ·rw[decide_eq_false h,cond_false] at ht hb
  exact aM (p:=¬n.2.1=1) bg (fun _=>kW (p:=¬n.2.2.2.2.1=0) bg (fun g=>not_not_intro (of_decide_eq_true (ht g))) fun h1=>hb (decide_eq_true (Decidable.not_not.1 h1))) fun k=>absurd h k
theorem Iq{m:ap}{n:Node}{G:Bool}(hm:dR m=true)(hi:0≤n.1∧n.1≤m.1-1)(h1:kJ n=true→qp m n=true)(h0:G=true→yJ m n=true∧qp m n=true∧vJ m n=true∧tj n=true)(h2:yJ m n=true→qp m n=true→vJ m n=true→tj n=true→G=true):aD (xE ah) (.more (.c0 ⟨m,n⟩)) (bif G then 0 else 180):=by
 rw[ak,xE]
 refine af.2 ⟨rfl,?_⟩
 rw[show ah.k cN (⟨m,n⟩:F4).a1=kJ n from rfl]
 have hc:=fun g=>(h0 g).2.1
 unfold qp at hc h1 h2
 cases hn:kJ n
 ·rw[hn,cond_false] at hc h2
  refine(aj rfl).2 (s5 (b:=J7 n.2.2.1) (fun g=>?_) fun z1=>s5 (b:=zeroV n.2.2.2.1) (fun g=>?_) fun z2=>?_)
  ·exact(Bool.and_eq_true _ _▸hc g).1
  ·exact(Bool.and_eq_true _ _▸hc g).2
  ·exact Kl hm hi (fun g=>(h0 g).1) fun k=>Cb (fun g=>(h0 g).2.2) fun a b=>h2 k (by rw[z1,z2];rfl) a b
 ·rw[hn,cond_true] at hc h1 h2
  exact(ai rfl).2 (Kl hm hi (fun g=>(h0 g).1) fun k=>Cb (fun g=>(h0 g).2.2) fun a b=>h2 k (h1 rfl) a b)
theorem Lr{m:ap}{n:Node}:aD (xE ah) (K3 ah m n) (dh m n):=by
 unfold K3 dh
 refine af.2 ⟨rfl,?_⟩
 rw[show ah.k kE m=mK m from rfl,mK]
 cases hm:dR m
 ·exact(aj rfl).2 (.ret _)
 have hG:=@eu m n
 have hl:=(gK hm).1
 rw[cond_true,Fx,aS,fU (by omega) (by omega)]
 generalize Av m n=G at hG ⊢
 refine(ai rfl).2 (af.2 ⟨rfl,sU (fun g=>(hG.1 g).1) fun h1=>af.2 ⟨rfl,sU (fun g=>(hG.1 g).2.1) fun h2=>af.2 ⟨rfl,sU (fun g=>(hG.1 g).2.2.1) fun h3=>af.2 ⟨rfl,?_⟩⟩⟩⟩)
 refine kW (p:=¬rP n.2.2.2.2.2.2.2=0) bg (fun g=>not_not_intro (wV.2 (hG.1 g).2.2.2.1)) fun h7=>?_
 refine kW (p:=¬n.2.2.2.2.2.2.2.1=n.1) bg (fun g=>by have:=hG.1 g;omega) fun h8=>?_
 refine kW (p:=¬(n.2.2.2.2.2.2.2.2.2.1.length:Int)=m.1) bg (fun g=>by have:=hG.1 g;omega) fun h9=>af.2 ⟨rfl,?_⟩
 have fin:(kJ n=true→qp m n=true)→aD (xE ah) (.more (.c0 ⟨m,n⟩)) (bif G then 0 else 180):=fun h=>Iq hm h1 h (fun g=>(hG.1 g).2.2.2.2.2.2) fun a b c d=>hG.2 ⟨h1,h2,h3,wV.1 (Decidable.not_not.1 h7),by omega,by omega,a,b,c,d⟩
 rw[show ah.k cN n=kJ n from rfl]
 have hc:=fun g=>(hG.1 g).2.2.2.2.2.2.2.1
 unfold qp at hc fin
 cases hn:kJ n
 ·exact(ai rfl).2 (fin fun k=>absurd (hn.symm.trans k) (by decide))
 ·rw[hn,cond_true] at hc
  simp only[hn,cond_true,Bool.and_eq_true,decide_eq_true_eq] at hc fin
  refine(aj rfl).2 (af.2 ⟨rfl,s5 (b:=dK m n.2.2.1) (fun g=>(hc g).1) fun k1=>af.2 ⟨rfl,?_⟩⟩)
  rw[al,V0]
  refine kW (p:=¬lM n.2.2.2.1=0) bg (fun g=>not_not_intro (hc g).2.1) fun k2=>?_
  refine kW (p:=¬n.2.2.2.1.1=n.1) bg (fun g=>not_not_intro (hc g).2.2.1) fun k3=>?_
  refine kW (p:=¬n.2.2.2.1.2.1=m.1) bg (fun g=>not_not_intro (hc g).2.2.2.1) fun k4=>?_
  refine kW (p:=¬n.2.2.1.2.2.2.2=n.2.2.2.1.2.2.1) bg (fun g=>not_not_intro (hc g).2.2.2.2) fun k5=>?_
  exact fin fun _=>⟨k1,Decidable.not_not.1 k2,Decidable.not_not.1 k3,Decidable.not_not.1 k4,Decidable.not_not.1 k5⟩
def vM:(ap×Node)→Int:=fun(m,n)=>dh m n
def Qa:aC:=⟨[c_,eE], [yI],(@tt (ap×Node)),vM⟩
theorem JN:Sd 12 Qa:=aJ au dC true 151 [] [⟨12,8, [[2,3]]⟩,⟨12,10, [[2,3]]⟩,⟨12,11, [[3]]⟩] (fun A (m,n)=>K3 A m n) xE L3 (fc Tryz.func12 fz) (sc Gg (sc BW (sc BY (sc EN (sc J_ (sc BE (sc JL sz))))))) (fun A y=>match y with |.c0 p=>⟨51,by kernel_rfl,by kernel_rfl⟩|.c1 p=>⟨39,by kernel_rfl,by kernel_rfl⟩|.c2 p=>⟨27,by kernel_rfl,by kernel_rfl⟩) fun(m,n) hp h=>Lr
open Go.Ev.Pl
def Nf(A:bu)(m:ap)(id:Int):LT (Node×Int) Empty:=.need (A.k (@tt ap) m) (.br (A.c .neq (A.k kE m) 0) (.ret ((0,0,(0,0,0,0,0),(0,0,0,0,0,0,0),0,false,0,0,([]:List Int),([]:List dF),0,0),(A.k kE m))) (.need (A.k (@tt (Int×Int)) (id,m.1)) (.br (A.c .neq (A.k BJ (id,m.1)).2 0) (.ret ((0,0,(0,0,0,0,0),(0,0,0,0,0,0,0),0,false,0,0,([]:List Int),([]:List dF),0,0),2)) (.ret ((id,0,(0,0,0,0,0),(0,0,0,0,0,0,0),0,false,0,(A.k BJ (id,m.1)).1),0)))))
def gD:Node:=(0,0,(0,0,0,0,0),(0,0,0,0,0,0,0),0,false,0,0,([]:List Int),([]:List dF),0,0)
def BZ(m:ap)(id:Int):Node×Int:=bif dR m then(bif decide (0≤id∧id≤m.1-1) then((id,0,(0,0,0,0,0),(0,0,0,0,0,0,0),0,false,0,id,([]:List Int),List.replicate m.1.toNat A_,4,(-1)),0) else(gD,2)) else(gD,70)
theorem Lp{m:ap}{id:Int}:aD Empty.elim (Nf ah m id) (BZ m id):=by
 unfold Nf BZ
 refine af.2 ⟨rfl,?_⟩
 rw[show ah.k kE m=mK m from rfl,mK]
 cases hm:dR m
 ·exact(aj rfl).2 (.ret _)
 refine(ai rfl).2 (af.2 ⟨rfl,?_⟩)
 rw[show ah.k BJ (id,m.1)=GI id m.1 from rfl,GI,decide_eq_true (gK hm).1,cond_true,cond_true]
 cases decide (0≤id∧id≤m.1-1)
 ·exact(aj rfl).2 (.ret _)
 ·exact(ai rfl).2 (.ret _)
def yD:(ap×Int)→(Node×Int):=fun(m,n)=>BZ m n
def UN:aC:=⟨[c_,yI], [eE,yI],(@tt (ap×Int)),yD⟩
theorem Kh:Sd 38 UN:=aQ au dC true 55 [] (fun A (m,id)=>Nf A m id) (fc Tryz.func38 fz) (sc BW (sc Od sz)) fun(m,id) hp h=>Lp
def KJ(A:bu)(m:ap)(n:Node)(when:Bool):LT (Node×Int) Empty:=.need (A.k (@tt (ap×Node)) (m,n)) (.br (A.c .neq (A.k vM (m,n)) 0) (.ret ((0,0,(0,0,0,0,0),(0,0,0,0,0,0,0),0,false,0,0,([]:List Int),([]:List dF),0,0),(A.k vM (m,n)))) (.br (A.not when) (.ret ((0,0,(0,0,0,0,0),(0,0,0,0,0,0,0),0,false,0,0,([]:List Int),([]:List dF),0,0),181)) (.need (A.k (@tt (ek×List Int)) (n.2.2.2.2.2.2.2,n.2.2.2.2.2.2.2.2.1)) (.ret ((n.1,n.2.1,n.2.2.1,n.2.2.2.1,n.2.2.2.2.1,n.2.2.2.2.2.1,n.2.2.2.2.2.2.1,(A.k BO (n.2.2.2.2.2.2.2,n.2.2.2.2.2.2.2.2.1)).1),(A.k BO (n.2.2.2.2.2.2.2,n.2.2.2.2.2.2.2.2.1)).2)))))
def kB(m:ap)(n:Node)(w:Bool):Node×Int:=bif decide (dh m n=0) then(bif w then(n,0) else(gD,181)) else(gD,dh m n)
theorem ta{m:ap}{n:Node}(h:dh m n=0):fN n.2.2.2.2.2.2.2=true:=(eu.1 (dx h).2).2.2.2.1
theorem Je{c:ek}(h:fN c=true):¬8<(c.2.1.length:Int):=by
 simp only[fN,Bool.and_eq_true,decide_eq_true_eq] at h
 exact h.2.2.1
theorem NB{m:ap}{n:Node}{w:Bool}:aD Empty.elim (KJ ah m n w) (kB m n w):=by
 unfold KJ kB
 refine af.2 ⟨rfl,?_⟩
 rw[show ah.k vM (m,n)=dh m n from rfl]
 by_cases h:dh m n=0
 ·rw[decide_eq_true h]
  refine(ai (Di h)).2 ?_
  cases w
  ·exact(aj rfl).2 (.ret _)
  ·refine(ai rfl).2 (af.2 ⟨rfl,?_⟩)
   rw[show ah.k BO (n.2.2.2.2.2.2.2,n.2.2.2.2.2.2.2.2.1)=RO n.2.2.2.2.2.2.2 n.2.2.2.2.2.2.2.2.1 from rfl,RO,ta h,decide_eq_false (Je (ta h))]
   exact .ret _
 ·rw[decide_eq_false h];exact(aj (sC h)).2 (.ret _)
def bq:(ap×Node×Bool)→(Node×Int):=fun(m,c,k)=>kB m c k
def Rb:aC:=⟨[c_,eE,.bool], [eE,yI],(@tt (ap×Node×Bool)),bq⟩
theorem B8:Sd 48 Rb:=aQ au dC true 64 [] (fun A (m,n,when)=>KJ A m n when) (fc Tryz.func48 fz) (sc JN (sc TP sz)) fun(m,n,when) hp h=>NB
def Lu(A:bu)(m:ap)(n:Node)(on:Bool):LT (Node×Int) Empty:=.br (A.not on) (.need (A.k (@tt (ap×Node×Bool)) (m,n,true)) (.br (A.c .neq (A.k bq (m,n,true)).2 0) (.ret ((0,0,(0,0,0,0,0),(0,0,0,0,0,0,0),0,false,0,0,([]:List Int),([]:List dF),0,0),(A.k bq (m,n,true)).2)) (.br (A.not on) (.need (A.k (@tt (ap×Int)) (m,(A.k bq (m,n,true)).1.1)) (.ret (A.k yD (m,(A.k bq (m,n,true)).1.1)))) (.need (A.k (@tt (ap×Int)) (m,(A.k bq (m,n,true)).1.1)) (.ret (((A.k bq (m,n,true)).1.1,1,(0,0,0,0,0),(0,0,0,0,0,0,0),(A.k wv (m,(A.k bq (m,n,true)).1.1)),(A.k bq (m,n,true)).1.2.2.2.2.2),0)))))) (.need (A.k (@tt (ap×Node×Bool)) (m,n,(A.c .eql n.2.1 0))) (.br (A.c .neq (A.k bq (m,n,(A.c .eql n.2.1 0))).2 0) (.ret ((0,0,(0,0,0,0,0),(0,0,0,0,0,0,0),0,false,0,0,([]:List Int),([]:List dF),0,0),(A.k bq (m,n,(A.c .eql n.2.1 0))).2)) (.br (A.not on) (.need (A.k (@tt (ap×Int)) (m,(A.k bq (m,n,(A.c .eql n.2.1 0))).1.1)) (.ret (A.k yD (m,(A.k bq (m,n,(A.c .eql n.2.1 0))).1.1)))) (.need (A.k (@tt (ap×Int)) (m,(A.k bq (m,n,(A.c .eql n.2.1 0))).1.1)) (.ret (((A.k bq (m,n,(A.c .eql n.2.1 0))).1.1,1,(0,0,0,0,0),(0,0,0,0,0,0,0),(A.k wv (m,(A.k bq (m,n,(A.c .eql n.2.1 0))).1.1)),(A.k bq (m,n,(A.c .eql n.2.1 0))).1.2.2.2.2.2),0))))))
theorem Hy{m:ap}{n:Node}(h:dh m n=0)(h2:¬n.2.1=1):n.2.2.2.2.1=0:=by
 have hc:=(eu.1 (dx h).2).2.2.2.2.2.2.2.2.1
 rw[vJ,decide_eq_false h2] at hc
 exact of_decide_eq_true hc
def Ml(m:ap)(n:Node)(on:Bool):Node×Int:=bif decide (dh m n=0) then(bif on then(bif decide (n.2.1=0) then((n.1,1,(0,0,0,0,0),(0,0,0,0,0,0,0),(Ad m n.1).1,n.2.2.2.2.2),0) else(gD,181)) else BZ m n.1) else(gD,dh m n)
theorem PN{m:ap}{n:Node}{on:Bool}:aD Empty.elim (Lu ah m n on) (Ml m n on):=by
 unfold Lu Ml
 rw[show ah.k bq (m,n,true)=kB m n true from rfl,show ah.k bq (m,n,ah.c .eql n.2.1 0)=kB m n (ah.c .eql n.2.1 0) from rfl,bT,kB,kB]
 by_cases h:dh m n=0
 ·rw[decide_eq_true h]
  cases on
  ·exact(aj rfl).2 (af.2 ⟨rfl,(ai rfl).2 ((aj rfl).2 (af.2 ⟨rfl,.ret _⟩))⟩)
  ·refine(ai rfl).2 (af.2 ⟨rfl,?_⟩)
   cases decide (n.2.1=0)
   ·exact(aj rfl).2 (.ret _)
   ·exact(ai rfl).2 ((ai rfl).2 (af.2 ⟨rfl,.ret _⟩))
 ·rw[decide_eq_false h]
  cases on
  ·exact(aj rfl).2 (af.2 ⟨rfl,(aj (sC h)).2 (.ret _)⟩)
  ·exact(ai rfl).2 (af.2 ⟨rfl,(aj (sC h)).2 (.ret _)⟩)
def rJ:(ap×Node×Bool)→(Node×Int):=fun(m,c,k)=>Ml m c k
def OV:aC:=⟨[c_,eE,.bool], [eE,yI],(@tt (ap×Node×Bool)),rJ⟩
theorem Nt:Sd 39 OV:=aQ au dC true 90 [] (fun A (m,n,on)=>Lu A m n on) (fc Tryz.func39 (fc Tryz.func84 fz)) (sc Kh (sc B8 (sc EN sz))) fun(m,n,on) hp h=>PN
end Go.Ev.M
