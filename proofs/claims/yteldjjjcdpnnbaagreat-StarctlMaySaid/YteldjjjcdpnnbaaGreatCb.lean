/-
  PROVED: what functions of the packages modes, medl, cstate, busctl and of their documents compute. Conditions: none.
-/
import Derived.Test.YteldjjjcdpnnbaaGreatCa
import Derived.Test.YteldjjjcdpnnbaaGreatMb
namespace Go.Ev.M
open Go.Proofs
set_option maxRecDepth 100000
set_option linter.unusedVariables false
set_option linter.unusedSimpArgs false
open Go.Ev.Pl
abbrev cO(m:ak):Int:=(m.2.2.2.2.2.2.2.length:Int)
theorem iZ{c:dq}{k:Int}(h:gm (c,k)=0):(4≤k∧k≤8)∧(0≤c.1∧c.1≤255)∧(0≤c.2.1∧c.2.1≤k-1)∧(0≤c.2.2.1∧c.2.2.1≤3)∧(0≤c.2.2.2.1∧c.2.2.2.1≤4)∧(0≤c.2.2.2.2∧c.2.2.2.2≤2^k.toNat-1):=by
 obtain⟨t,p,m,n,s⟩:=c
 rw[gm] at h
 cases h1:decide (k<4)||decide (8<k)
 ·rw[h1,cond_false] at h
  rw[Bool.or_eq_false_iff,decide_eq_false_iff_not,decide_eq_false_iff_not] at h1
  cases h2:((decide (0≤t)&&decide (t≤255))&&((decide (0≤p)&&decide (p≤k-1))&&((decide (0≤m)&&decide (m≤3))&&((decide (0≤n)&&decide (n≤4))&&(decide (0≤s)&&decide (s≤2^k.toNat-1))))))
  ·rw[h2,cond_false] at h;exact absurd h (by decide)
  ·simp only[Bool.and_eq_true,decide_eq_true_eq] at h2
   exact⟨by omega,h2.1,h2.2.1,h2.2.2.1,h2.2.2.2.1,h2.2.2.2.2⟩
 ·rw[h1,cond_true] at h;exact absurd h (by decide)
def dp(m:ak)(c:dq):Bool:=decide (gm (c,m.1)=0)&&(decide (c.2.2.1<cO m)&&decide (c.2.2.2.1≤cO m))
def gj(m:ak)(c:dq):Int:=bif dy m then(bif dp m c then 0 else 40) else 70
theorem oy{m:ak}{c:dq}(h:gj m c=0):dy m=true∧gm (c,m.1)=0∧(0≤c.2.2.1∧c.2.2.1<cO m)∧c.2.2.2.1≤cO m:=by
 unfold gj at h
 cases hm:dy m
 ·rw[hm,cond_false] at h;exact absurd h (by decide)
 ·cases hf:dp m c
  ·rw[hm,hf,cond_true,cond_false] at h;exact absurd h (by decide)
  ·simp only[dp,Bool.and_eq_true,decide_eq_true_eq] at hf
   exact⟨rfl,hf.1,⟨(iZ hf.1).2.2.2.1.1,hf.2.1⟩,hf.2.2⟩
theorem Jd{m:ak}{c:dq}(h:dy m=true)(h2:dp m c=true):gj m c=0:=by rw[gj,h,h2];rfl
theorem cy{m:ak}(h:dy m=true):(4≤m.1∧m.1≤8)∧(1≤cO m∧cO m≤4)∧(m.2.2.2.2.2.2.1.length:Int)=m.1∧m.2.2.2.2.2.2.2.all (kT m)=true:=by
 obtain⟨n,s,g,w,d,de,cold,modes⟩:=m
 have:=QT h
 exact⟨this.1,this.2.1,this.2.2.1,this.2.2.2.1⟩
theorem k_{m:ak}(h:dy m=true){i:Int}(h0:0≤i)(h1:i<cO m):kT m (aj.n aX m.2.2.2.2.2.2.2 i:Mode)=true:=by
 obtain⟨k,rfl⟩:∃k:Nat,i=k:=⟨i.toNat,by omega⟩
 have hk:k<m.2.2.2.2.2.2.2.length:=by unfold cO at h1;omega
 rw[show(aj.n aX m.2.2.2.2.2.2.2 (k:Int):Mode)=m.2.2.2.2.2.2.2[k] from getD_in hk _]
 exact List.all_eq_true.1 (cy h).2.2.2 _ (List.getElem_mem hk)
theorem iw{m:ak}{x:Mode}(h:kT m x=true):(x.1.length:Int)=m.1∧(x.2.1.length:Int)=m.1∧(x.2.2.length:Int)=cO m:=by
 simp only[kT,Bool.and_eq_true,beq_iff_eq] at h
 exact⟨h.1.1.1,h.1.1.2,by rw[h.1.2]⟩
theorem jk{α:Type}{l:List α}{i:Int}(h0:0≤i)(h1:i<(l.length:Int)):aj.and (aj.c .leq 0 i) (aj.c .lss i (aj.l l))=true:=by
 rw[ko,aB,ar,aR];simp;omega
theorem kH{x:Int}(h:x=0):aj.c .neq x 0=false:=by rw[h];rfl
theorem fT{x:Int}(h:¬x=0):aj.c .neq x 0=true:=by rw[aJ];simpa using h
theorem XD{x:Int}(h:¬x=0):aj.c .eql x 0=false:=by rw[aF];simpa using h
theorem ug{x:Int}(h:x=0):aj.c .eql x 0=true:=by rw[h];rfl
def W5(A:bi)(m:ak)(c:dq):LT Bool Empty:=.need (A.k (@tt ((Int×Int×Int×Int×Int)×Int)) (c,m.1)) (.br (A.c .eql (A.k CQ (c,m.1)) 0) (.br (A.c .lss c.2.2.1 (A.l m.2.2.2.2.2.2.2)) (.ret (A.c .leq c.2.2.2.1 (A.l m.2.2.2.2.2.2.2))) (.ret false)) (.ret false))
theorem U_{m:ak}{c:dq}:aA Empty.elim (W5 aj m c) (dp m c):=by
 unfold W5
 refine af.2 ⟨rfl,?_⟩
 rw[show aj.k CQ (c,m.1)=gm (c,m.1) from rfl]
 by_cases h:gm (c,m.1)=0
 ·rw[dp,decide_eq_true h]
  refine(ai (ug h)).2 (ax (p:=c.2.2.1<cO m) rfl (fun h2=>?_) fun h2=>?_)
  ·exact ay (by rw[decide_eq_true h2];rfl) (.ret _)
  ·exact ay (by rw[decide_eq_false h2];rfl) (.ret _)
 ·rw[dp,decide_eq_false h]
  exact(ah (XD h)).2 (.ret _)
def Xi(A:bi)(m:ak)(c:dq):LT Bool Empty:=.need (A.k (@tt ((Int×Int×Int×Int×Int)×Int)) (c,m.1)) (.br (A.c .eql (A.k jH (c,m.1)) 0) (.br (A.c .lss c.2.2.1 (A.l m.2.2.2.2.2.2.2)) (.ret (A.c .leq c.2.2.2.1 (A.l m.2.2.2.2.2.2.2))) (.ret false)) (.ret false))
theorem R4{m:ak}{c:dq}:aA Empty.elim (Xi aj m c) (dp m c):=U_
def FV:(ak×dq)→Bool:=fun(m,c)=>dp m c
def Zi:aD:=⟨[bd,sI], [.bool],(@tt (ak×dq)),FV⟩
theorem Oj:Sd 68 Zi:=aK au cK true 37 [] (fun A (m,c)=>Xi A m c) (fc Tryz.func68 fz) (sc xA sz) fun(m,c) hp h=>R4
def SV(A:bi)(m:ak)(n:Int):LT Bool Empty:=.br (A.c .geq n 0) (.ret (A.c .lss n (A.l m.2.2.2.2.2.2.2))) (.ret false)
def isF(m:ak)(n:Int):Bool:=decide (0≤n∧n<cO m)
theorem is1{m:ak}{n:Int}:aA Empty.elim (SV aj m n) (isF m n):=by
 unfold SV isF
 refine ax (p:=0≤n) rfl (fun h=>?_) fun h=>?_
 ·exact ay (by rw[Bool.eq_iff_iff,ko,ar];simp;omega) (.ret _)
 ·exact ay (decide_eq_false (by omega)).symm (.ret _)
def vo:(ak×Int)→Bool:=fun(m,c)=>isF m c
def Vd:aD:=⟨[bd,yI], [.bool],(@tt (ak×Int)),vo⟩
theorem Je:Sd 218 Vd:=aK au cK true 24 [] (fun A (m,n)=>SV A m n) (fc Tryz.func218 fz) sz fun(m,n) hp h=>is1
def P4(A:bi)(m:ak)(c:dq):LT Int Empty:=.need (A.k (@tt ak) m) (.br (A.c .neq (A.k iQ m) 0) (.ret (A.k iQ m)) (.need (A.k (@tt ((Int×Int×Int×Int×Int)×Int)) (c,m.1)) (.br (A.c .neq (A.k jH (c,m.1)) 0) (.ret 40) (.need (A.k (@tt (ak×Int)) (m,c.2.2.1)) (.br (A.not (A.k vo (m,c.2.2.1))) (.ret 40) (.br (A.c .gtr c.2.2.2.1 (A.l m.2.2.2.2.2.2.2)) (.ret 40) (.ret 0)))))))
theorem Ye{m:ak}{c:dq}:aA Empty.elim (P4 aj m c) (gj m c):=by
 unfold P4 gj
 refine af.2 ⟨rfl,?_⟩
 rw[show aj.k iQ m=kp m from rfl,kp]
 cases hm:dy m
 ·exact(ai rfl).2 (.ret _)
 refine(ah rfl).2 (af.2 ⟨rfl,?_⟩)
 rw[show aj.k jH (c,m.1)=gm (c,m.1) from rfl]
 by_cases h:gm (c,m.1)=0
 ·have h0:=(iZ h).2.2.2.1.1
  rw[dp,decide_eq_true h]
  refine(ah (kH h)).2 (af.2 ⟨rfl,?_⟩)
  rw[show aj.k vo (m,c.2.2.1)=decide (0≤c.2.2.1∧c.2.2.1<cO m) from rfl]
  by_cases h2:c.2.2.1<cO m
  ·rw[decide_eq_true (show 0≤c.2.2.1∧c.2.2.1<cO m from⟨h0,h2⟩),decide_eq_true h2]
   refine(ah rfl).2 (ax (p:=cO m<c.2.2.2.1) rfl (fun h3=>?_) fun h3=>?_)
   ·exact ay (by rw[decide_eq_false (by omega)];rfl) (.ret _)
   ·exact ay (by rw[decide_eq_true (by omega)];rfl) (.ret _)
  ·rw[decide_eq_false (show ¬(0≤c.2.2.1∧c.2.2.1<cO m) from fun h=>h2 h.2),decide_eq_false h2]
   exact(ai rfl).2 (.ret _)
 ·rw[dp,decide_eq_false h]
  exact(ai (fT h)).2 (.ret _)
def rp:(ak×dq)→Int:=fun(m,c)=>gj m c
def Xa:aD:=⟨[bd,sI], [yI],(@tt (ak×dq)),rp⟩
theorem Kg:Sd 211 Xa:=aK au cK true 56 [] (fun A (m,c)=>P4 A m c) (fc Tryz.func211 fz) (sc xA (sc y2 (sc Je sz))) fun(m,c) hp h=>Ye
def RX(A:bi)(m:ak)(c:dq)(mode:Int):LT Bool Empty:=.need (A.k (@tt (ak×Int)) (m,mode)) (.br (A.k vo (m,mode)) (.br (A.c .neq mode c.2.2.1) (.br (A.c .eql c.2.2.2.1 0) (.need (A.and (A.c .leq 0 c.2.2.1) (A.c .lss c.2.2.1 (A.l m.2.2.2.2.2.2.2))) (.need (A.and (A.c .leq 0 mode) (A.c .lss mode (A.l (A.n aX m.2.2.2.2.2.2.2 c.2.2.1:Mode).2.2))) (.ret (A.n .bool (A.n aX m.2.2.2.2.2.2.2 c.2.2.1:Mode).2.2 mode:Bool)))) (.ret false)) (.ret false)) (.ret false))
def mg(m:ak)(c:dq)(k:Int):Bool:=decide (0≤k∧k<cO m)&&(decide (¬k=c.2.2.1)&&(decide (c.2.2.2.1=0)&&(aj.n .bool (aj.n aX m.2.2.2.2.2.2.2 c.2.2.1:Mode).2.2 k:Bool)))
theorem aT{a b:Int}:aj.c .neq a b=decide (¬a=b):=by rw[aJ,Bool.eq_iff_iff];simp
theorem Ip{R Y:Type}{step:Y→LT R Y}{m:ak}{c:dq}{k:Int}{e:LT R Y}{r:R}{f:Bool→R}(h:gj m c=0)(hk:0≤k∧k<cO m)(hr:f (mg m c k)=r)(hf:f false=r→aA step e r) :
  aA step (.br (aj.c .neq k c.2.2.1) (.br (aj.c .eql c.2.2.2.1 0) (.need (aj.and (aj.c .leq 0 c.2.2.1) (aj.c .lss c.2.2.1 (aj.l m.2.2.2.2.2.2.2))) (.need (aj.and (aj.c .leq 0 k) (aj.c .lss k (aj.l (aj.n aX m.2.2.2.2.2.2.2 c.2.2.1:Mode).2.2))) (.ret (f (aj.n .bool (aj.n aX m.2.2.2.2.2.2.2 c.2.2.1:Mode).2.2 k:Bool))))) e) e) r:=by
 obtain⟨hm,_,hc,_⟩:=oy h
 rw[mg,decide_eq_true hk,Bool.true_and] at hr
 refine ax (p:=¬k=c.2.2.1) aT (fun h1=>ax (p:=c.2.2.2.1=0) aH (fun h2=>af.2 ⟨jk hc.1 hc.2,af.2 ⟨jk hk.1 ?_,?_⟩⟩) fun h2=>hf ?_) fun h1=>hf ?_
 ·exact(iw (k_ hm hc.1 hc.2)).2.2▸hk.2
 ·exact ay (by rw[←hr,decide_eq_true h1,decide_eq_true h2];rfl) (.ret _)
 ·rw[←hr,decide_eq_false h2];cases decide (¬k=c.2.2.1)<;>rfl
 ·rw[←hr,decide_eq_false h1];rfl
theorem ZY{m:ak}{c:dq}{k:Int}(h:gj m c=0):aA Empty.elim (RX aj m c k) (mg m c k):=by
 unfold RX
 refine af.2 ⟨rfl,?_⟩
 rw[show aj.k vo (m,k)=decide (0≤k∧k<cO m) from rfl]
 by_cases hk:0≤k∧k<cO m
 ·exact(ai (decide_eq_true hk)).2 (Ip (f:=id) h hk rfl fun e=>ay e (.ret _))
 ·exact(ah (decide_eq_false hk)).2 (ay (by rw[mg,decide_eq_false hk];rfl) (.ret _))
def Jf:(ak×dq×Int)→Bool:=fun(m,c,k)=>mg m c k
def IZ:(ak×dq×Int)→Bool:=fun(m,c,_)=>decide (gj m c=0)
def Z0:aD:=⟨[bd,sI,yI], [.bool],IZ,Jf⟩
theorem YZ:Sd 253 Z0:=aK au cK true 42 [] (fun A (m,c,mode)=>RX A m c mode) (fc Tryz.func253 fz) (sc Je sz) fun((m,c,mode):ak×dq×Int) hp h=>ZY (of_decide_eq_true hp)
structure HZ where
 (a0:Int) (a2:ak) (a3:dq) (a4:Int) (a5:ak) (a6:dq) (a7:ak) (a8:dq) (a9:Int) (bH:ak) (dP:Int) (a12:dq)
inductive Mk where
 | c0 (p:HZ) (a1:Int)
noncomputable def Pz:Mk→gB
 | .c0 p a1=>⟨[⟨252,26,(en [(0,.yield 0),(1,.ptr 1 0),(2,.ptr 2 0),(11,vi p.a0),(12,vi a1)]),[.inLoop (cw Tryz.f252 [1,1,0,0]),.inBlock 0],[],none⟩,⟨212,16,(en [(6,.ptr 3 0)]),[.jf 0,.inBlock 0,.code (cw Tryz.f212 [1,1])],[4],none⟩],[.loop ⟨212,16,(en [(0,.agg [vi p.a2.1,vi p.a2.2.1,vi p.a2.2.2.1,vi p.a2.2.2.2.1,vi p.a2.2.2.2.2.1,vi p.a2.2.2.2.2.2.1,.sl .bool p.a2.2.2.2.2.2.2.1,.sl aX p.a2.2.2.2.2.2.2.2]),(1,.agg [vi p.a3.1,vi p.a3.2.1,vi p.a3.2.2.1,vi p.a3.2.2.2.1,vi p.a3.2.2.2.2]),(2,vi p.a4),(3,.ptr 5 0),(4,.ptr 7 0),(5,.ptr 6 0),(6,.ptr 3 0),(8,.agg [vi p.a5.1,vi p.a5.2.1,vi p.a5.2.2.1,vi p.a5.2.2.2.1,vi p.a5.2.2.2.2.1,vi p.a5.2.2.2.2.2.1,.sl .bool p.a5.2.2.2.2.2.2.1,.sl aX p.a5.2.2.2.2.2.2.2]),(9,.agg [vi p.a6.1,vi p.a6.2.1,vi p.a6.2.2.1,vi p.a6.2.2.2.1,vi p.a6.2.2.2.2]),(10,.fn 252 [] [.ptr 1 0,.ptr 2 0])]),[11],(cw Tryz.f212 [1,0,1,0,0]),(cw Tryz.f212 [1,0,1,0,1]),0,none⟩,.flat false [vi p.a7.1,vi p.a7.2.1,vi p.a7.2.2.1,vi p.a7.2.2.2.1,vi p.a7.2.2.2.2.1,vi p.a7.2.2.2.2.2.1,.sl .bool p.a7.2.2.2.2.2.2.1,.sl aX p.a7.2.2.2.2.2.2.2],.flat false [vi p.a8.1,vi p.a8.2.1,vi p.a8.2.2.1,vi p.a8.2.2.2.1,vi p.a8.2.2.2.2],.flat false [vi p.a9],.BV,.flat false [vi p.bH.1,vi p.bH.2.1,vi p.bH.2.2.1,vi p.bH.2.2.2.1,vi p.bH.2.2.2.2.1,vi p.bH.2.2.2.2.2.1,.sl .bool p.bH.2.2.2.2.2.2.1,.sl aX p.bH.2.2.2.2.2.2.2],.flat false [vi p.dP],.flat false [vi p.a12.1,vi p.a12.2.1,vi p.a12.2.2.1,vi p.a12.2.2.2.1,vi p.a12.2.2.2.2],.dead]⟩
def Rk(A:bi)(m:ak)(c:dq)(mode:Int):LT Int Mk:=.need (A.k (@tt (ak×dq)) (m,c)) (.br (A.c .neq (A.k rp (m,c)) 0) (.ret (-1)) (.more (.c0 ⟨(A.l m.2.2.2.2.2.2.2),m,c,mode,m,c,m,c,0,m,mode,c⟩ 0)))
def LO(A:bi):Mk→LT Int Mk
 | .c0 p a1=>.br (A.c .lss a1 p.a0) (.need (A.k IZ (p.a7,p.a8,a1)) (.br (A.k Jf (p.a7,p.a8,a1)) (.br (A.c .eql a1 p.dP) (.ret a1) (.more (.c0 p (A.b .add .i64 a1 1)))) (.more (.c0 p (A.b .add .i64 a1 1))))) (.ret (-1))
def Eb(m:ak)(c:dq)(k:Int):Int:=bif decide (gj m c=0)&&mg m c k then k else -1
theorem Kb{p:HZ}{m:ak}{c:dq}{k:Int}(h0:p.a0=cO m)(h7:p.a7=m)(h8:p.a8=c)(h11:p.dP=k)(h:gj m c=0):∀(j i:Nat),m.2.2.2.2.2.2.2.length-i=j→i≤m.2.2.2.2.2.2.2.length→aA (LO aj) (.more (.c0 p (i:Int))) (bif decide ((i:Int)≤k)&&mg m c k then k else -1):=by
 have hl:=(cy (oy h).1).2.1
 unfold cO at hl h0
 intro j
 induction j with
 | zero=>
   intro i hj hi
   rw[al,LO,h0]
   refine(ah (by rw[ar];exact decide_eq_false (by omega))).2 (ay ?_ (.ret _))
   by_cases hk:(i:Int)≤k
   ·rw[mg,decide_eq_false (show ¬(0≤k∧k<cO m) by unfold cO;omega),Bool.false_and,Bool.and_false];rfl
   ·rw[decide_eq_false hk];rfl
 | succ j ih=>
   intro i hj hi
   rw[al,LO,h0,h7,h8,h11]
   refine(ai (by rw[ar];exact decide_eq_true (by omega))).2 (af.2 ⟨by rw[ap];exact decide_eq_true h,?_⟩)
   rw[show aj.k Jf (m,c,(i:Int))=mg m c i from rfl,eu (i:=i) (by omega)]
   have hn:=ih (i+1) (by omega) (by omega)
   cases hm:mg m c i
   ·refine(ah rfl).2 (ay ?_ hn)
    by_cases hk:(i:Int)=k
    ·rw[←hk,hm,Bool.and_false,Bool.and_false]
    ·rw[show decide (((i+1:Nat):Int)≤k)=decide ((i:Int)≤k) by rw[Bool.eq_iff_iff];simp;omega]
   ·refine(ai rfl).2 (ax (p:=(i:Int)=k) aH (fun hk=>?_) fun hk=>?_)
    ·exact ay (by rw[←hk,hm,decide_eq_true (Int.le_refl _)];rfl) (.ret _)
    ·exact ay (by rw[show decide (((i+1:Nat):Int)≤k)=decide ((i:Int)≤k) by rw[Bool.eq_iff_iff];simp;omega]) hn
theorem adh{m:ak}{c:dq}{k:Int}:aA (LO aj) (Rk aj m c k) (Eb m c k):=by
 unfold Rk Eb
 refine af.2 ⟨rfl,?_⟩
 rw[show aj.k rp (m,c)=gj m c from rfl]
 by_cases h:gj m c=0
 ·rw[decide_eq_true h]
  refine(ah (kH h)).2 (ay ?_ (Kb (p:=⟨cO m,m,c,k,m,c,m,c,0,m,k,c⟩) (k:=k) rfl rfl rfl rfl h m.2.2.2.2.2.2.2.length 0 rfl (by omega)))
  by_cases hk:0≤k
  ·rw[show decide (((0:Nat):Int)≤k)=true from decide_eq_true hk]
  ·rw[mg,decide_eq_false (show ¬(0≤k∧k<cO m) by omega),Bool.false_and,Bool.and_false,Bool.and_false]
 ·rw[decide_eq_false h]
  exact(ai (fT h)).2 (.ret _)
def zI:(ak×dq×Int)→Int:=fun(m,c,k)=>Eb m c k
def VZ:aD:=⟨[bd,sI,yI], [yI],(@tt (ak×dq×Int)),zI⟩
theorem O4:Sd 212 VZ:=aL au cK true 53 [⟨252,2, [[0,1,2,11,12], [6]]⟩] [] (fun A (m,c,mode)=>Rk A m c mode) LO Pz (fc Tryz.func212 (fc Tryz.func238 (fc Tryz.func252 fz))) (sc Kg (sc YZ sz)) (fun A y=>match y with |.c0 p a1=>⟨55,by kernel_rfl,by kernel_rfl⟩) fun(m,c,mode) hp h=>adh
def SQ(A:bi)(m:ak)(c:dq)(want:Int):LT (Int×Int) Empty:=.need (A.k (@tt (ak×dq)) (m,c)) (.br (A.c .neq (A.k rp (m,c)) 0) (.ret (0,(A.k rp (m,c)))) (.br (A.c .neq want (-1)) (.need (A.k (@tt (ak×Int)) (m,want)) (.br (A.not (A.k vo (m,want))) (.ret (0,100)) (.br (A.c .lss want 0) (.ret (0,0)) (.need (A.k (@tt (ak×dq×Int)) (m,c,want)) (.ret ((A.b .add .i64 (A.k zI (m,c,want)) 1),0)))))) (.br (A.c .lss want 0) (.ret (0,0)) (.need (A.k (@tt (ak×dq×Int)) (m,c,want)) (.ret ((A.b .add .i64 (A.k zI (m,c,want)) 1),0))))))
def kN(m:ak)(c:dq)(w:Int):Int×Int:=bif decide (gj m c=0) then(bif decide (-1≤w∧w<cO m) then(bif mg m c w then(w+1,0) else(0,0)) else(0,100)) else(0,gj m c)
theorem Qj{m:ak}{c:dq}{w:Int}(h:¬(0≤w∧w<cO m)):mg m c w=false:=by rw[mg,decide_eq_false h];rfl
theorem YU{m:ak}{c:dq}{w:Int}:aA Empty.elim (SQ aj m c w) (kN m c w):=by
 unfold SQ kN
 refine af.2 ⟨rfl,?_⟩
 rw[show aj.k rp (m,c)=gj m c from rfl,show aj.k vo (m,w)=decide (0≤w∧w<cO m) from rfl,show aj.k zI (m,c,w)=Eb m c w from rfl]
 by_cases h:gj m c=0
 ·have hl:=(cy (oy h).1).2.1
  rw[decide_eq_true h]
  refine(ah (kH h)).2 (ax (p:=¬w = -1) aT (fun h1=>af.2 ⟨rfl,?_⟩) fun h1=>?_)
  ·by_cases h2:0≤w∧w<cO m
   ·rw[decide_eq_true h2,decide_eq_true (show -1≤w∧w<cO m by omega)]
    refine(ah rfl).2 ((ah (by rw[ar];exact decide_eq_false (by omega))).2 (af.2 ⟨rfl,ay ?_ (.ret _)⟩))
    rw[Eb,decide_eq_true h]
    cases mg m c w
    ·rfl
    ·rw[Bool.true_and,cond_true,cond_true,cond_true,cond_true,bw,fI (by omega) (by omega)]
   ·rw[decide_eq_false h2,decide_eq_false (show ¬(-1≤w∧w<cO m) by omega)]
    exact(ai rfl).2 (.ret _)
  ·have h2:w = -1:=by omega
   subst h2
   rw[Qj (by omega),decide_eq_true (show(-1:Int)≤ -1∧ -1<cO m by omega)]
   exact(ai rfl).2 (.ret _)
 ·rw[decide_eq_false h]
  exact(ai (fT h)).2 (.ret _)
def qs:(ak×dq×Int)→(Int×Int):=fun(m,c,k)=>kN m c k
def Zy:aD:=⟨[bd,sI,yI], [yI,yI],(@tt (ak×dq×Int)),qs⟩
theorem OQ:Sd 179 Zy:=aK au cK true 60 [] (fun A (m,c,want)=>SQ A m c want) (fc Tryz.func179 fz) (sc Kg (sc O4 (sc Je sz))) fun(m,c,want) hp h=>YU
def S8(A:bi)(m:ak)(c:dq)(req:Int):LT (dq×Int) Empty:=.need (A.k (@tt (ak×dq)) (m,c)) (.br (A.c .neq (A.k rp (m,c)) 0) (.ret ((0,0,0,0,0),(A.k rp (m,c)))) (.br (A.c .lss req 0) (.ret ((0,0,0,0,0),100)) (.br (A.c .gtr req (A.l m.2.2.2.2.2.2.2)) (.ret ((0,0,0,0,0),100)) (.br (A.c .gtr req 0) (.need (A.k (@tt (ak×dq×Int)) (m,c,(A.b .sub .i64 req 1))) (.br (A.c .geq (A.k zI (m,c,(A.b .sub .i64 req 1))) 0) (.ret ((c.1,c.2.1,c.2.2.1,req,c.2.2.2.2),0)) (.ret (c,0)))) (.ret (c,0))))))
def l5(m:ak)(c:dq)(r:Int):dq×Int:=bif decide (gj m c=0) then(bif decide (0≤r∧r≤cO m) then(bif decide (0<r)&&mg m c (r-1) then((c.1,c.2.1,c.2.2.1,r,c.2.2.2.2),0) else(c,0)) else((0,0,0,0,0),100)) else((0,0,0,0,0),gj m c)
theorem aa9{m:ak}{c:dq}{r:Int}:aA Empty.elim (S8 aj m c r) (l5 m c r):=by
 unfold S8 l5
 refine af.2 ⟨rfl,?_⟩
 rw[show aj.k rp (m,c)=gj m c from rfl,show aj.k zI (m,c,(aj.b .sub .i64 r 1))=Eb m c (aj.b .sub .i64 r 1) from rfl]
 by_cases h:gj m c=0
 ·have hl:=(cy (oy h).1).2.1
  rw[decide_eq_true h]
  refine(ah (kH h)).2 (ax (p:=r<0) rfl (fun h1=>?_) fun h1=>ax (p:=cO m<r) rfl (fun h2=>?_) fun h2=>?_)
  ·exact ay (by rw[decide_eq_false (by omega)];rfl) (.ret _)
  ·exact ay (by rw[decide_eq_false (by omega)];rfl) (.ret _)
  ·rw[decide_eq_true (show 0≤r∧r≤cO m by omega),aZ,fI (by omega) (by omega)]
   refine ax (p:=0<r) rfl (fun h3=>af.2 ⟨rfl,?_⟩) fun h3=>?_
   ·rw[decide_eq_true h3,Eb,decide_eq_true h,Bool.true_and]
    cases hm:mg m c (r-1)
    ·exact(ah rfl).2 (.ret _)
    ·exact(ai (by rw[cond_true,aN];exact decide_eq_true (by omega))).2 (.ret _)
   ·exact ay (by rw[decide_eq_false h3];rfl) (.ret _)
 ·rw[decide_eq_false h]
  exact(ai (fT h)).2 (.ret _)
def gi:(ak×dq×Int)→(dq×Int):=fun(m,c,k)=>l5 m c k
def Vh:aD:=⟨[bd,sI,yI], [sI,yI],(@tt (ak×dq×Int)),gi⟩
theorem zA:Sd 167 Vh:=aK au cK true 69 [] (fun A (m,c,req)=>S8 A m c req) (fc Tryz.func167 fz) (sc Kg (sc O4 sz)) fun(m,c,req) hp h=>aa9
open Go.Ev.Pl
def Rb(A:bi)(m:ak)(node:Int):LT Int Empty:=.need (A.k (@tt ak) m) (.br (A.c .neq (A.k iQ m) 0) (.ret (A.k iQ m)) (.need (A.k (@tt (Int×Int×Int)) (node,0,(A.b .sub .i64 m.1 1))) (.br (A.not (A.k dS (node,0,(A.b .sub .i64 m.1 1)))) (.ret 2) (.ret 0))))
theorem jr{α:Type}{l:List α}{i n:Int}(e:(l.length:Int)=n)(h0:0≤i)(h1:i<n):aj.and (aj.c .leq 0 i) (aj.c .lss i (aj.l l))=true:=jk h0 (e▸h1)
def gw(m:ak)(n:Int):Int:=bif dy m then(bif decide (0≤n∧n≤m.1-1) then 0 else 2) else 70
theorem Aa{m:ak}{n:Int}(h:gw m n=0):dy m=true∧0≤n∧n≤m.1-1:=by
 unfold gw at h
 cases hm:dy m
 ·rw[hm,cond_false] at h;exact absurd h (by decide)
 ·by_cases hn:0≤n∧n≤m.1-1
  ·exact⟨rfl,hn⟩
  ·rw[hm,decide_eq_false hn,cond_true,cond_false] at h;exact absurd h (by decide)
theorem QH{m:ak}{n:Int}:aA Empty.elim (Rb aj m n) (gw m n):=by
 unfold Rb gw
 refine af.2 ⟨rfl,?_⟩
 rw[show aj.k iQ m=kp m from rfl,kp]
 cases hm:dy m
 ·exact(ai rfl).2 (.ret _)
 have hl:=(cy hm).1
 rw[aZ,fI (by omega) (by omega)]
 refine(ah rfl).2 (af.2 ⟨rfl,dT (fun h=>?_) fun h=>?_⟩)
 ·exact ay (by rw[decide_eq_false h];rfl) (.ret _)
 ·exact ay (by rw[decide_eq_true h];rfl) (.ret _)
def Ab:(ak×Int)→Int:=fun(m,n)=>gw m n
def aao:aD:=⟨[bd,yI], [yI],(@tt (ak×Int)),Ab⟩
theorem OD:Sd 186 aao:=aK au cK true 41 [] (fun A (m,node)=>Rb A m node) (fc Tryz.func186 fz) (sc y2 (sc C4 sz)) fun(m,node) hp h=>QH
def RE(A:bi)(m:ak)(node:Int):LT (Int×Int) Empty:=.need (A.k (@tt (ak×Int)) (m,node)) (.br (A.c .neq (A.k Ab (m,node)) 0) (.ret (0,(A.k Ab (m,node)))) (.ret ((A.b .mul .i64 2 (A.b .add .i64 node 1)),0)))
def yq(m:ak)(n:Int):Int×Int:=bif decide (gw m n=0) then((aj.b .mul .i64 2 (aj.b .add .i64 n 1)),0) else(0,gw m n)
theorem V_{m:ak}{n:Int}:aA Empty.elim (RE aj m n) (yq m n):=by
 unfold RE yq
 refine af.2 ⟨rfl,ax (p:=¬gw m n=0) aT (fun h=>?_) fun h=>?_⟩
 ·exact ay (by rw[decide_eq_false h];rfl) (.ret _)
 ·exact ay (by rw[decide_eq_true (by omega)];rfl) (.ret _)
def vX:(ak×Int)→(Int×Int):=fun(m,n)=>yq m n
def Zx:aD:=⟨[bd,yI], [yI,yI],(@tt (ak×Int)),vX⟩
theorem K3:Sd 125 Zx:=aK au cK true 35 [] (fun A (m,node)=>RE A m node) (fc Tryz.func125 fz) (sc OD sz) fun(m,node) hp h=>V_
def jZ(m:ak)(n:Int):Int×Int:=bif decide (gw m n=0) then((aj.b .add .i64 (aj.b .mul .i64 4 m.1) (aj.b .mul .i64 2 (aj.b .add .i64 n 1))),0) else(0,gw m n)
def TC(A:bi)(m:ak)(node:Int):LT (Int×Int) Empty:=.need (A.k (@tt (ak×Int)) (m,node)) (.br (A.c .neq (A.k vX (m,node)).2 0) (.ret (0,(A.k vX (m,node)).2)) (.ret ((A.b .add .i64 (A.b .mul .i64 4 m.1) (A.k vX (m,node)).1),0)))
theorem Y6{m:ak}{n:Int}:aA Empty.elim (TC aj m n) (jZ m n):=by
 unfold TC jZ
 refine af.2 ⟨rfl,?_⟩
 rw[show aj.k vX (m,n)=yq m n from rfl,yq]
 by_cases h:gw m n=0
 ·rw[decide_eq_true h];exact(ah rfl).2 (.ret _)
 ·rw[decide_eq_false h];exact(ai (fT h)).2 (.ret _)
def pE:(ak×Int)→(Int×Int):=fun(m,n)=>jZ m n
def Xn:aD:=⟨[bd,yI], [yI,yI],(@tt (ak×Int)),pE⟩
theorem Cz:Sd 93 Xn:=aK au cK true 41 [] (fun A (m,node)=>TC A m node) (fc Tryz.func93 fz) (sc K3 sz) fun(m,node) hp h=>Y6
def PE(A:bi)(m:ak)(mode:Int)(node:Int):LT (Int×Int) Empty:=.need (A.k (@tt (ak×Int)) (m,node)) (.br (A.c .neq (A.k Ab (m,node)) 0) (.ret (0,(A.k Ab (m,node)))) (.need (A.k (@tt (Int×Int×Int)) (mode,0,(A.b .sub .i64 (A.l m.2.2.2.2.2.2.2) 1))) (.br (A.not (A.k dS (mode,0,(A.b .sub .i64 (A.l m.2.2.2.2.2.2.2) 1)))) (.ret (0,2)) (.need (A.and (A.c .leq 0 mode) (A.c .lss mode (A.l m.2.2.2.2.2.2.2))) (.need (A.and (A.c .leq 0 node) (A.c .lss node (A.l (A.n aX m.2.2.2.2.2.2.2 mode:Mode).2.1))) (.need (A.and (A.c .leq 0 node) (A.c .lss node (A.l (A.n aX m.2.2.2.2.2.2.2 mode:Mode).1))) (.need (A.k (@tt (Bool×Int)) ((A.n .bool (A.n aX m.2.2.2.2.2.2.2 mode:Mode).2.1 node:Bool),(A.n yI (A.n aX m.2.2.2.2.2.2.2 mode:Mode).1 node:Int))) (.ret ((A.k gN ((A.n .bool (A.n aX m.2.2.2.2.2.2.2 mode:Mode).2.1 node:Bool),(A.n yI (A.n aX m.2.2.2.2.2.2.2 mode:Mode).1 node:Int))),0)))))))))
def bo(m:ak)(k n:Int):Int×Int:=bif decide (gw m n=0) then(bif decide (0≤k∧k≤cO m-1) then(gN ((aj.n .bool (aj.n aX m.2.2.2.2.2.2.2 k:Mode).2.1 n:Bool),(aj.n (.int .i64) (aj.n aX m.2.2.2.2.2.2.2 k:Mode).1 n:Int)),0) else(0,2)) else(0,gw m n)
theorem Pw{m:ak}{k n:Int}:aA Empty.elim (PE aj m k n) (bo m k n):=by
 unfold PE bo
 refine af.2 ⟨rfl,?_⟩
 rw[show aj.k Ab (m,n)=gw m n from rfl]
 by_cases h:gw m n=0
 ·obtain⟨hm,h1,h2⟩:=Aa h
  have hl:=(cy hm).2.1
  rw[decide_eq_true h]
  have e:aj.b .sub .i64 (cO m) 1=cO m-1:=by rw[aZ,fI (by omega) (by omega)]
  rw[show aj.b .sub .i64 (aj.l m.2.2.2.2.2.2.2) 1=cO m-1 from e]
  refine(ah (kH h)).2 (af.2 ⟨rfl,dT (fun h3=>?_) fun h3=>?_⟩)
  ·exact ay (by rw[decide_eq_false h3];rfl) (.ret _)
  ·have hx:=iw (k_ hm h3.1 (show k<cO m by omega))
   refine af.2 ⟨jk h3.1 (show k<cO m by omega),af.2 ⟨jr hx.2.1 h1 (by omega),af.2 ⟨jr hx.1 h1 (by omega),af.2 ⟨rfl,?_⟩⟩⟩⟩
   exact ay (by rw[decide_eq_true h3];rfl) (.ret _)
 ·rw[decide_eq_false h];exact(ai (fT h)).2 (.ret _)
def dB:(ak×Int×Int)→(Int×Int):=fun(m,c,k)=>bo m c k
def Zk:aD:=⟨[bd,yI,yI], [yI,yI],(@tt (ak×Int×Int)),dB⟩
theorem BW:Sd 162 Zk:=aK au cK true 66 [] (fun A (m,mode,node)=>PE A m mode node) (fc Tryz.func162 fz) (sc C4 (sc OJ (sc OD sz))) fun(m,mode,node) hp h=>Pw
def RQ(A:bi)(c:dq)(n:Int):LT (dq×Int) Empty:=.need (A.k (@tt ((Int×Int×Int×Int×Int)×Int)) (c,n)) (.br (A.c .neq (A.k jH (c,n)) 0) (.ret ((0,0,0,0,0),(A.k jH (c,n)))) (.br (A.c .eql (A.b .add .i64 c.2.1 1) n) (.br (A.c .neq c.2.2.2.1 0) (.ret (((A.b .and .i64 (A.b .add .i64 c.1 1) 255),0,(A.b .sub .i64 c.2.2.2.1 1),0,c.2.2.2.2),0)) (.ret (((A.b .and .i64 (A.b .add .i64 c.1 1) 255),0,c.2.2),0))) (.ret ((c.1,(A.b .add .i64 c.2.1 1),c.2.2),0))))
theorem R_:∀k:Fin 256,aj.b .and .i64 ((k.val:Int)+1) 255=((k.val:Int)+1).tmod 256:=by decide +kernel
def gQ(c:dq)(n:Int):dq×Int:=bif decide (gm (c,n)=0) then(bif decide (c.2.1+1=n) then(bif decide (c.2.2.2.1=0) then(((c.1+1).tmod 256,0,c.2.2),0) else(((c.1+1).tmod 256,0,c.2.2.2.1-1,0,c.2.2.2.2),0)) else((c.1,c.2.1+1,c.2.2),0)) else((0,0,0,0,0),gm (c,n))
theorem PI{c:dq}{n:Int}:aA Empty.elim (RQ aj c n) (gQ c n):=by
 unfold RQ gQ
 refine af.2 ⟨rfl,?_⟩
 rw[show aj.k jH (c,n)=gm (c,n) from rfl]
 by_cases h:gm (c,n)=0
 ·obtain⟨h1,h2,h3,h4,h5,h6⟩:=iZ h
  have e1:aj.b .add .i64 c.1 1=c.1+1:=by rw[bw,fI (by omega) (by omega)]
  have e2:aj.b .add .i64 c.2.1 1=c.2.1+1:=by rw[bw,fI (by omega) (by omega)]
  have e3:aj.b .sub .i64 c.2.2.2.1 1=c.2.2.2.1-1:=by rw[aZ,fI (by omega) (by omega)]
  have e4:aj.b .and .i64 (c.1+1) 255=(c.1+1).tmod 256:=by
   have:=R_ ⟨c.1.toNat,by omega⟩
   rwa [show((c.1.toNat:Nat):Int)=c.1 from Int.toNat_of_nonneg h2.1] at this
  rw[decide_eq_true h,e1,e2,e3,e4]
  refine(ah (kH h)).2 (ax (p:=c.2.1+1=n) aH (fun h=>ax (p:=¬c.2.2.2.1=0) aT (fun g=>?_) fun g=>?_) fun h=>?_)
  ·exact ay (by rw[decide_eq_true h,decide_eq_false g];rfl) (.ret _)
  ·exact ay (by rw[decide_eq_true h,decide_eq_true (by omega)];rfl) (.ret _)
  ·exact ay (by rw[decide_eq_false h];rfl) (.ret _)
 ·rw[decide_eq_false h];exact(ai (fT h)).2 (.ret _)
def jF:(dq×Int)→(dq×Int):=fun(m,c)=>gQ m c
def Ya:aD:=⟨[sI,yI], [sI,yI],(@tt (dq×Int)),jF⟩
theorem O3:Sd 118 Ya:=aK au cK true 80 [] (fun A (c,n)=>RQ A c n) (fc Tryz.func118 fz) (sc xA sz) fun(c,n) hp h=>PI
def PY(A:bi)(node:Int):LT Int Empty:=.br (A.c .lss node 0) (.ret 0) (.br (A.c .geq node 8) (.ret 0) (.need (A.c .leq 0 node) (.ret (A.b .shl .i64 1 node))))
def Lx(n:Int):Int:=bif decide (0≤n∧n≤7) then aj.b .shl .i64 1 n else 0
theorem ac8{n:Int}:aA Empty.elim (PY aj n) (Lx n):=by
 unfold PY Lx
 refine ax (p:=n<0) rfl (fun h=>?_) fun h1=>ax (p:=8≤n) rfl (fun h=>?_) fun h2=>af.2 ⟨decide_eq_true (by omega),?_⟩
 ·exact ay (by rw[decide_eq_false (by omega)];rfl) (.ret _)
 ·exact ay (by rw[decide_eq_false (by omega)];rfl) (.ret _)
 ·exact ay (by rw[decide_eq_true (by omega)];rfl) (.ret _)
def LS:Int→Int:=Lx
def Wk:aD:=⟨[yI], [yI],(@tt Int),LS⟩
theorem Zd:Sd 225 Wk:=aK au cK true 28 [] (fun A node=>PY A node) (fc Tryz.func225 fz) sz fun node hp h=>ac8
def Sl(A:bi)(c:dq)(node:Int):LT Bool Empty:=.need (A.k (@tt Int) node) (.ret (A.c .neq (A.b .and .i64 c.2.2.2.2 (A.k LS node)) 0))
theorem ac2{x:Int}:aj.b .and .i64 x 0=0:=by
 show IntKind.i64.wrap (((BitVec.ofInt 64 x &&& BitVec.ofInt 64 0).toNat:Nat):Int)=0
 rw[show BitVec.ofInt 64 0=0#64 from rfl,BitVec.and_zero];rfl
def C9(c:dq)(n:Int):Bool:=bif decide (0≤n∧n≤7) then aj.c .neq (aj.b .and .i64 c.2.2.2.2 (aj.b .shl .i64 1 n)) 0 else false
theorem aaq{c:dq}{n:Int}:aA Empty.elim (Sl aj c n) (C9 c n):=by
 unfold Sl C9
 refine af.2 ⟨rfl,ay ?_ (.ret _)⟩
 rw[show aj.k LS n=Lx n from rfl,Lx]
 cases decide (0≤n∧n≤7)
 ·rw[cond_false,cond_false,ac2];rfl
 ·rfl
def Dg:(dq×Int)→Bool:=fun(m,c)=>C9 m c
def Yt:aD:=⟨[sI,yI], [.bool],(@tt (dq×Int)),Dg⟩
theorem Od:Sd 194 Yt:=aK au cK true 21 [] (fun A (c,node)=>Sl A c node) (fc Tryz.func194 fz) (sc Zd sz) fun(c,node) hp h=>aaq
def N8(A:bi)(m:ak)(id:Int):LT Int Empty:=.need (A.k (@tt (ak×Int)) (m,id)) (.ret (A.k pE (m,id)).1)
def qm:(ak×Int)→Int:=fun(m,id)=>(N8 aj m id).val (Ty.bZ [yI])
def YV:aD:=⟨[bd,yI], [yI],(@tt (ak×Int)),qm⟩
theorem Dc:Sd 70 YV:=aM au cK true 27 [] (fun A (m,id)=>N8 A m id) (fc Tryz.func70 fz) (sc Cz sz) (fun((m,id):ak×Int) hp h=>by
 show(N8 aj m id).pre=true
 simp[N8,LT.pre,ap,cN])
def L6(A:bi)(m:ak)(id:Int):LT Int Empty:=.need (A.k (@tt (ak×Int)) (m,id)) (.ret (A.k vX (m,id)).1)
def JS:(ak×Int)→Int:=fun(m,id)=>(L6 aj m id).val (Ty.bZ [yI])
def VG:aD:=⟨[bd,yI], [yI],(@tt (ak×Int)),JS⟩
theorem Uc:Sd 111 VG:=aM au cK true 27 [] (fun A (m,id)=>L6 A m id) (fc Tryz.func111 fz) (sc K3 sz) (fun((m,id):ak×Int) hp h=>by
 show(L6 aj m id).pre=true
 simp[L6,LT.pre,ap,cN])
open Go.Ev.Pl
def Mu(A:bi)(n:Int)(least:Int)(most:Int):LT Bool Empty:=.br (A.c .geq n least) (.ret (A.c .leq n most)) (.ret false)
def qK:(Int×Int×Int)→Bool:=fun(n,least,most)=>(Mu aj n least most).val (Ty.bZ [.bool])
def U2:aD:=⟨[yI,yI,yI], [.bool],(@tt (Int×Int×Int)),qK⟩
theorem EL:Sd 66 U2:=aM au cK true 22 [] (fun A (n,least,most)=>Mu A n least most) (fc Tryz.func66 fz) sz (fun((n,least,most):Int×Int×Int) hp h=>by
 show(Mu aj n least most).pre=true
 simp[Mu,LT.pre,ap,cN])
def SS(A:bi)(n:Node):LT Bool Empty:=.need (A.k (@tt (Int×Int×Int)) (n.2.1,2,4)) (.ret (A.k qK (n.2.1,2,4)))
theorem Cc:qK=dS:=rfl
def gb(n:Node):Bool:=decide (2≤n.2.1∧n.2.1≤4)
theorem acZ{n:Node}:aA Empty.elim (SS aj n) (gb n):=by
 unfold SS gb
 exact af.2 ⟨rfl,ay (by rw[Cc,ap,lU,Bool.eq_iff_iff];simp) (.ret _)⟩
def cv:Node→Bool:=gb
def Xf:aD:=⟨[aQ], [.bool],(@tt Node),cv⟩
theorem zK:Sd 22 Xf:=aK au cK true 18 [] (fun A n=>SS A n) (fc Tryz.func22 fz) (sc EL sz) fun n hp h=>acZ
def yZ(c:dq):Bool:=aj.and (aj.c .eql c.1 0) (aj.and (aj.c .eql c.2.1 0) (aj.and (aj.c .eql c.2.2.1 0) (aj.and (aj.c .eql c.2.2.2.1 0) (aj.and (aj.c .eql c.2.2.2.2 0) true))))
def zeroV(v:gh):Bool:=aj.and (aj.c .eql v.1 0) (aj.and (aj.c .eql v.2.1 0) (aj.and (aj.c .eql v.2.2.1 0) (aj.and (aj.c .eql v.2.2.2.1 0) (aj.and (aj.c .eql v.2.2.2.2.1 0) (aj.and (aj.c .eql v.2.2.2.2.2.1 0) (aj.and (aj.c .eql v.2.2.2.2.2.2 0) true))))))
def mX(m:ak)(n:Node):Bool:=bif gb n then(dp m n.2.2.1&&(decide (gS n.2.2.2.1=0)&&(decide (n.2.2.2.1.1=n.1)&&(decide (n.2.2.2.1.2.1=m.1)&&decide (n.2.2.1.2.2.2.2=n.2.2.2.1.2.2.1))))) else(yZ n.2.2.1&&zeroV n.2.2.2.1)
def nj(m:ak)(n:Node):Bool:=bif decide (n.2.1=1) then decide (1≤n.2.2.2.2.1∧n.2.2.2.2.1≤(jZ m n.1).1) else decide (n.2.2.2.2.1=0)
def rz(m:ak)(n:Node):Bool:=bif decide (n.2.1=2) then(aj.n .bool m.2.2.2.2.2.2.1 n.1:Bool) else true
def oR(n:Node):Bool:=bif n.2.2.2.2.2.1 then decide (n.2.1=1∨n.2.1=2) else true
def CB(m:ak)(n:Node):Bool:=decide (0≤n.1∧n.1≤m.1-1)&&(decide (0≤n.2.1∧n.2.1≤5)&&(decide (0≤n.2.2.2.2.2.2.1∧n.2.2.2.2.2.2.1≤2)&&(dE n.2.2.2.2.2.2.2&&(decide (n.2.2.2.2.2.2.2.1=n.1)&&(decide ((n.2.2.2.2.2.2.2.2.2.1.length:Int)=m.1)&&(rz m n&&(mX m n&&(nj m n&&oR n))))))))
def aS(m:ak)(n:Node):Int:=bif dy m then(bif CB m n then 0 else 180) else 70
theorem bF{m:ak}{n:Node}:CB m n=true↔(0≤n.1∧n.1≤m.1-1)∧(0≤n.2.1∧n.2.1≤5)∧(0≤n.2.2.2.2.2.2.1∧n.2.2.2.2.2.2.1≤2)∧dE n.2.2.2.2.2.2.2=true∧n.2.2.2.2.2.2.2.1=n.1∧(n.2.2.2.2.2.2.2.2.2.1.length:Int)=m.1∧rz m n=true∧mX m n=true∧nj m n=true∧oR n=true:=by
 unfold CB;simp only[Bool.and_eq_true,decide_eq_true_eq]
theorem aP{m:ak}{n:Node}(h:aS m n=0):dy m=true∧CB m n=true:=by
 unfold aS at h
 cases hm:dy m
 ·rw[hm,cond_false] at h;exact absurd h (by decide)
 ·cases hn:CB m n
  ·rw[hm,hn,cond_true,cond_false] at h;exact absurd h (by decide)
  ·exact⟨rfl,rfl⟩
section
variable {R Y:Type} {step:Y→LT R Y} {e:LT R Y} {x y:R} {G:Bool}
theorem jM{p:Prop}[Decidable p]{b:Bool}(hb:b=decide p)(h:G=true→¬p)(he:¬p→aA step e (bif G then x else y)):aA step (.br b (.ret y) e) (bif G then x else y):=by
 refine ax hb (fun hp=>?_) he
 cases G
 ·exact .ret _
 ·exact absurd hp (h rfl)
theorem jo{b:Bool}(h:G=true→b=true)(he:b=true→aA step e (bif G then x else y)):aA step (.br (aj.not b) (.ret y) e) (bif G then x else y):=by
 cases b
 ·cases G
  ·exact(ai rfl).2 (.ret _)
  ·exact absurd (h rfl) (by decide)
 ·exact(ah rfl).2 (he rfl)
theorem uM{u a b:Int}(h:G=true→a≤u∧u≤b)(he:a≤u∧u≤b→aA step e (bif G then x else y)):aA step (.br (aj.not (aj.k dS (u,a,b))) (.ret y) e) (bif G then x else y):=by
 refine dT (fun hp=>?_) he
 cases G
 ·exact .ret _
 ·exact absurd (h rfl) hp
theorem rf(h:G=true):aA step (.ret x) (bif G then x else y):=ay (by rw[h];rfl) (.ret _)
end
theorem Xp{Y:Type}{step:Y→LT Int Y}{n:Node}{G:Bool}(h1:G=true→oR n=true)(h2:oR n=true→G=true):aA step (.br n.2.2.2.2.2.1 (.br (aj.c .neq n.2.1 1) (.br (aj.c .neq n.2.1 2) (.ret 180) (.ret 0)) (.ret 0)) (.ret 0)) (bif G then 0 else 180):=by
 unfold oR at h1 h2
 cases hb:n.2.2.2.2.2.1
 ·rw[hb] at h1 h2
  exact(ah rfl).2 (rf (h2 rfl))
 ·rw[hb] at h1 h2
  simp only[cond_true,decide_eq_true_eq] at h1 h2
  refine(ai rfl).2 (ax (p:=¬n.2.1=1) aT (fun h=>jM (p:=¬n.2.1=2) aT (fun g=>?_) fun g=>?_) fun h=>?_)
  ·have:=h1 g;omega
  ·exact rf (h2 (by omega))
  ·exact rf (h2 (by omega))
theorem OX{R Y:Type}{step:Y→LT R Y}{m:ak}{n:Node}{G:Bool}{e:LT R Y}{x y:R}(hm:dy m=true)(hi:0≤n.1∧n.1≤m.1-1)(h1:G=true→rz m n=true)(h2:rz m n=true→aA step e (bif G then x else y)) :
  aA step (.br (aj.c .eql n.2.1 2) (.need (aj.and (aj.c .leq 0 n.1) (aj.c .lss n.1 (aj.l m.2.2.2.2.2.2.1))) (.br (aj.not (aj.n .bool m.2.2.2.2.2.2.1 n.1:Bool)) (.ret y) e)) e) (bif G then x else y):=by
 unfold rz at h1 h2
 refine ax (p:=n.2.1=2) aH (fun h=>af.2 ⟨jr (cy hm).2.2.1 hi.1 (by omega),?_⟩) fun h=>?_
 ·rw[decide_eq_true h] at h1 h2
  exact jo h1 h2
 ·rw[decide_eq_false h] at h2
  exact h2 rfl
structure Lm where
 (a0:ak) (a1:Node)
structure PK where
 (b0:ak) (b1:Node)
structure PD where
 (c0:Node)
inductive No where
 | c0 (p:Lm)
 | c1 (p:PK)
 | c2 (p:PD)
noncomputable def Px:No→gB
 | .c0 p=>⟨[⟨20,160,(en [(2,.ptr 0 0),(3,.ptr 1 0)]),[.code (cw Tryz.f20 [1,1,1,0,0,0,0,0,0,0,0,0,1,0,0]),.code (cw Tryz.f20 [1,1,1,0,0,0,0,0,0,0,0,0,1,0,1]),.code (cw Tryz.f20 [1,1,1,0,0,0,0,0,0,0,0,0,1,1]),.code (.exit 3),.inBlock 4,.inBlock 5,.inBlock 6,.inBlock 7,.inBlock 8,.code (cw Tryz.f20 [1,1,1,0,0,1]),.inBlock 3,.code (cw Tryz.f20 [1,1,1,1])],[],none⟩],[.flat false [vi p.a0.1,vi p.a0.2.1,vi p.a0.2.2.1,vi p.a0.2.2.2.1,vi p.a0.2.2.2.2.1,vi p.a0.2.2.2.2.2.1,.sl .bool p.a0.2.2.2.2.2.2.1,.sl aX p.a0.2.2.2.2.2.2.2],.flat false [vi p.a1.1,vi p.a1.2.1,vi p.a1.2.2.1.1,vi p.a1.2.2.1.2.1,vi p.a1.2.2.1.2.2.1,vi p.a1.2.2.1.2.2.2.1,vi p.a1.2.2.1.2.2.2.2,vi p.a1.2.2.2.1.1,vi p.a1.2.2.2.1.2.1,vi p.a1.2.2.2.1.2.2.1,vi p.a1.2.2.2.1.2.2.2.1,vi p.a1.2.2.2.1.2.2.2.2.1,vi p.a1.2.2.2.1.2.2.2.2.2.1,vi p.a1.2.2.2.1.2.2.2.2.2.2,vi p.a1.2.2.2.2.1,vb p.a1.2.2.2.2.2.1,vi p.a1.2.2.2.2.2.2.1,vi p.a1.2.2.2.2.2.2.2.1,.sl yU p.a1.2.2.2.2.2.2.2.2.1,.sl df p.a1.2.2.2.2.2.2.2.2.2.1,vi p.a1.2.2.2.2.2.2.2.2.2.2.1,vi p.a1.2.2.2.2.2.2.2.2.2.2.2],.dead]⟩
 | .c1 p=>⟨[⟨20,160,(en [(2,.ptr 0 0),(3,.ptr 1 0)]),[.code (cw Tryz.f20 [1,1,1,0,0,0,0,0,0,0,0,0,1,1,1,0,0]),.code (cw Tryz.f20 [1,1,1,0,0,0,0,0,0,0,0,0,1,1,1,0,1]),.code (cw Tryz.f20 [1,1,1,0,0,0,0,0,0,0,0,0,1,1,1,1]),.code (.exit 3),.inBlock 4,.inBlock 5,.inBlock 6,.inBlock 7,.inBlock 8,.code (cw Tryz.f20 [1,1,1,0,0,1]),.inBlock 3,.code (cw Tryz.f20 [1,1,1,1])],[],none⟩],[.flat false [vi p.b0.1,vi p.b0.2.1,vi p.b0.2.2.1,vi p.b0.2.2.2.1,vi p.b0.2.2.2.2.1,vi p.b0.2.2.2.2.2.1,.sl .bool p.b0.2.2.2.2.2.2.1,.sl aX p.b0.2.2.2.2.2.2.2],.flat false [vi p.b1.1,vi p.b1.2.1,vi p.b1.2.2.1.1,vi p.b1.2.2.1.2.1,vi p.b1.2.2.1.2.2.1,vi p.b1.2.2.1.2.2.2.1,vi p.b1.2.2.1.2.2.2.2,vi p.b1.2.2.2.1.1,vi p.b1.2.2.2.1.2.1,vi p.b1.2.2.2.1.2.2.1,vi p.b1.2.2.2.1.2.2.2.1,vi p.b1.2.2.2.1.2.2.2.2.1,vi p.b1.2.2.2.1.2.2.2.2.2.1,vi p.b1.2.2.2.1.2.2.2.2.2.2,vi p.b1.2.2.2.2.1,vb p.b1.2.2.2.2.2.1,vi p.b1.2.2.2.2.2.2.1,vi p.b1.2.2.2.2.2.2.2.1,.sl yU p.b1.2.2.2.2.2.2.2.2.1,.sl df p.b1.2.2.2.2.2.2.2.2.2.1,vi p.b1.2.2.2.2.2.2.2.2.2.2.1,vi p.b1.2.2.2.2.2.2.2.2.2.2.2],.dead]⟩
 | .c2 p=>⟨[⟨20,160,(en [(3,.ptr 0 0)]),[.code (cw Tryz.f20 [1,1,1,0,0,0,0,0,0,0,0,0,1,1,1,1,0]),.code (cw Tryz.f20 [1,1,1,0,0,0,0,0,0,0,0,0,1,1,1,1,1]),.code (.exit 3),.inBlock 4,.inBlock 5,.inBlock 6,.inBlock 7,.inBlock 8,.code (cw Tryz.f20 [1,1,1,0,0,1]),.inBlock 3,.code (cw Tryz.f20 [1,1,1,1])],[],none⟩],[.flat false [vi p.c0.1,vi p.c0.2.1,vi p.c0.2.2.1.1,vi p.c0.2.2.1.2.1,vi p.c0.2.2.1.2.2.1,vi p.c0.2.2.1.2.2.2.1,vi p.c0.2.2.1.2.2.2.2,vi p.c0.2.2.2.1.1,vi p.c0.2.2.2.1.2.1,vi p.c0.2.2.2.1.2.2.1,vi p.c0.2.2.2.1.2.2.2.1,vi p.c0.2.2.2.1.2.2.2.2.1,vi p.c0.2.2.2.1.2.2.2.2.2.1,vi p.c0.2.2.2.1.2.2.2.2.2.2,vi p.c0.2.2.2.2.1,vb p.c0.2.2.2.2.2.1,vi p.c0.2.2.2.2.2.2.1,vi p.c0.2.2.2.2.2.2.2.1,.sl yU p.c0.2.2.2.2.2.2.2.2.1,.sl df p.c0.2.2.2.2.2.2.2.2.2.1,vi p.c0.2.2.2.2.2.2.2.2.2.2.1,vi p.c0.2.2.2.2.2.2.2.2.2.2.2],.dead]⟩
def Ss(A:bi)(m:ak)(n:Node):LT Int No:=.need (A.k (@tt ak) m) (.br (A.c .neq (A.k iQ m) 0) (.ret (A.k iQ m)) (.need (A.k (@tt (Int×Int×Int)) (n.1,0,(A.b .sub .i64 m.1 1))) (.br (A.not (A.k qK (n.1,0,(A.b .sub .i64 m.1 1)))) (.ret 180) (.need (A.k (@tt (Int×Int×Int)) (n.2.1,0,5)) (.br (A.not (A.k qK (n.2.1,0,5))) (.ret 180) (.need (A.k (@tt (Int×Int×Int)) (n.2.2.2.2.2.2.1,0,2)) (.br (A.not (A.k qK (n.2.2.2.2.2.2.1,0,2))) (.ret 180) (.need (A.k (@tt cf) n.2.2.2.2.2.2.2) (.br (A.c .neq (A.k iW n.2.2.2.2.2.2.2) 0) (.ret 180) (.br (A.c .neq n.2.2.2.2.2.2.2.1 n.1) (.ret 180) (.br (A.c .neq (A.l n.2.2.2.2.2.2.2.2.2.1) m.1) (.ret 180) (.need (A.k (@tt Node) n) (.br (A.k cv n) (.need (A.k (@tt (ak×dq)) (m,n.2.2.1)) (.br (A.not (A.k FV (m,n.2.2.1))) (.ret 180) (.need (A.k (@tt ((Int×Int×Int×Int×Int×Int×Int))) n.2.2.2.1) (.br (A.c .neq (A.k iB n.2.2.2.1) 0) (.ret 180) (.br (A.c .neq n.2.2.2.1.1 n.1) (.ret 180) (.br (A.c .neq n.2.2.2.1.2.1 m.1) (.ret 180) (.br (A.c .neq n.2.2.1.2.2.2.2 n.2.2.2.1.2.2.1) (.ret 180) (.more (.c0 ⟨m,n⟩))))))))) (.more (.c0 ⟨m,n⟩)))))))))))))))
def Ar(A:bi):No→LT Int No
 | .c0 p=>.need (A.k (@tt Node) p.a1) (.br (A.not (A.k cv p.a1)) (.br (A.not (A.and (A.c .eql p.a1.2.2.1.1 0) (A.and (A.c .eql p.a1.2.2.1.2.1 0) (A.and (A.c .eql p.a1.2.2.1.2.2.1 0) (A.and (A.c .eql p.a1.2.2.1.2.2.2.1 0) (A.and (A.c .eql p.a1.2.2.1.2.2.2.2 0) true)))))) (.ret 180) (.br (A.not (A.and (A.c .eql p.a1.2.2.2.1.1 0) (A.and (A.c .eql p.a1.2.2.2.1.2.1 0) (A.and (A.c .eql p.a1.2.2.2.1.2.2.1 0) (A.and (A.c .eql p.a1.2.2.2.1.2.2.2.1 0) (A.and (A.c .eql p.a1.2.2.2.1.2.2.2.2.1 0) (A.and (A.c .eql p.a1.2.2.2.1.2.2.2.2.2.1 0) (A.and (A.c .eql p.a1.2.2.2.1.2.2.2.2.2.2 0) true)))))))) (.ret 180) (.br (A.c .eql p.a1.2.1 2) (.need (A.and (A.c .leq 0 p.a1.1) (A.c .lss p.a1.1 (A.l p.a0.2.2.2.2.2.2.1))) (.br (A.not (A.n .bool p.a0.2.2.2.2.2.2.1 p.a1.1:Bool)) (.ret 180) (.more (.c1 ⟨p.a0,p.a1⟩)))) (.more (.c1 ⟨p.a0,p.a1⟩))))) (.br (A.c .eql p.a1.2.1 2) (.need (A.and (A.c .leq 0 p.a1.1) (A.c .lss p.a1.1 (A.l p.a0.2.2.2.2.2.2.1))) (.br (A.not (A.n .bool p.a0.2.2.2.2.2.2.1 p.a1.1:Bool)) (.ret 180) (.more (.c1 ⟨p.a0,p.a1⟩)))) (.more (.c1 ⟨p.a0,p.a1⟩))))
 | .c1 p=>.br (A.c .eql p.b1.2.1 1) (.need (A.k (@tt (ak×Int)) (p.b0,p.b1.1)) (.need (A.k (@tt (Int×Int×Int)) (p.b1.2.2.2.2.1,1,(A.k qm (p.b0,p.b1.1)))) (.br (A.not (A.k qK (p.b1.2.2.2.2.1,1,(A.k qm (p.b0,p.b1.1))))) (.ret 180) (.br (A.c .neq p.b1.2.1 1) (.br (A.c .neq p.b1.2.2.2.2.1 0) (.ret 180) (.more (.c2 ⟨p.b1⟩))) (.more (.c2 ⟨p.b1⟩)))))) (.br (A.c .neq p.b1.2.1 1) (.br (A.c .neq p.b1.2.2.2.2.1 0) (.ret 180) (.more (.c2 ⟨p.b1⟩))) (.more (.c2 ⟨p.b1⟩)))
 | .c2 p=>.br p.c0.2.2.2.2.2.1 (.br (A.c .neq p.c0.2.1 1) (.br (A.c .neq p.c0.2.1 2) (.ret 180) (.ret 0)) (.ret 0)) (.ret 0)
theorem FY{m:ak}{n:Node}{G:Bool}(h0:G=true→nj m n=true∧oR n=true)(h2:nj m n=true→oR n=true→G=true):aA (Ar aj) (.more (.c1 ⟨m,n⟩)) (bif G then 0 else 180):=by
 have hb:nj m n=true→aA (Ar aj) (.more (.c2 ⟨n⟩)) (bif G then 0 else 180):=fun ht=>by
  rw[al,Ar]
  exact Xp (fun g=>(h0 g).2) (h2 ht)
 rw[al,Ar]
 have ht:=fun g=>(h0 g).1
 unfold nj at ht hb
 rw[Cc]
 refine ax (p:=n.2.1=1) aH (fun h=>?_) fun h=>?_
 ·rw[decide_eq_true h,cond_true] at ht hb
  refine af.2 ⟨rfl,af.2 ⟨rfl,uM (fun g=>of_decide_eq_true (ht g)) fun h1=>?_⟩⟩
  exact ax (p:=¬n.2.1=1) aT (fun k=>absurd h k) fun _=>hb (decide_eq_true h1)
 ·rw[decide_eq_false h,cond_false] at ht hb
  exact ax (p:=¬n.2.1=1) aT (fun _=>jM (p:=¬n.2.2.2.2.1=0) aT (fun g=>not_not_intro (of_decide_eq_true (ht g))) fun h1=>hb (decide_eq_true (Decidable.not_not.1 h1))) fun k=>absurd h k
theorem NU{m:ak}{n:Node}{G:Bool}(hm:dy m=true)(hi:0≤n.1∧n.1≤m.1-1)(h1:gb n=true→mX m n=true)(h0:G=true→rz m n=true∧mX m n=true∧nj m n=true∧oR n=true)(h2:rz m n=true→mX m n=true→nj m n=true→oR n=true→G=true):aA (Ar aj) (.more (.c0 ⟨m,n⟩)) (bif G then 0 else 180):=by
 rw[al,Ar]
 refine af.2 ⟨rfl,?_⟩
 rw[show aj.k cv (⟨m,n⟩:Lm).a1=gb n from rfl]
 have hc:=fun g=>(h0 g).2.1
 unfold mX at hc h1 h2
 cases hn:gb n
 ·rw[hn,cond_false] at hc h2
  refine(ai rfl).2 (jo (b:=yZ n.2.2.1) (fun g=>?_) fun z1=>jo (b:=zeroV n.2.2.2.1) (fun g=>?_) fun z2=>?_)
  ·exact(Bool.and_eq_true _ _▸hc g).1
  ·exact(Bool.and_eq_true _ _▸hc g).2
  ·exact OX hm hi (fun g=>(h0 g).1) fun k=>FY (fun g=>(h0 g).2.2) fun a b=>h2 k (by rw[z1,z2];rfl) a b
 ·rw[hn,cond_true] at hc h1 h2
  exact(ah rfl).2 (OX hm hi (fun g=>(h0 g).1) fun k=>FY (fun g=>(h0 g).2.2) fun a b=>h2 k (h1 rfl) a b)
theorem Q7{m:ak}{n:Node}:aA (Ar aj) (Ss aj m n) (aS m n):=by
 unfold Ss aS
 refine af.2 ⟨rfl,?_⟩
 rw[show aj.k iQ m=kp m from rfl,kp]
 cases hm:dy m
 ·exact(ai rfl).2 (.ret _)
 have hG:=@bF m n
 have hl:=(cy hm).1
 rw[cond_true,Cc,aZ,fI (by omega) (by omega)]
 generalize CB m n=G at hG ⊢
 refine(ah rfl).2 (af.2 ⟨rfl,uM (fun g=>(hG.1 g).1) fun h1=>af.2 ⟨rfl,uM (fun g=>(hG.1 g).2.1) fun h2=>af.2 ⟨rfl,uM (fun g=>(hG.1 g).2.2.1) fun h3=>af.2 ⟨rfl,?_⟩⟩⟩⟩)
 refine jM (p:=¬oW n.2.2.2.2.2.2.2=0) aT (fun g=>not_not_intro (oJ.2 (hG.1 g).2.2.2.1)) fun h7=>?_
 refine jM (p:=¬n.2.2.2.2.2.2.2.1=n.1) aT (fun g=>by have:=hG.1 g;omega) fun h8=>?_
 refine jM (p:=¬(n.2.2.2.2.2.2.2.2.2.1.length:Int)=m.1) aT (fun g=>by have:=hG.1 g;omega) fun h9=>af.2 ⟨rfl,?_⟩
 have fin:(gb n=true→mX m n=true)→aA (Ar aj) (.more (.c0 ⟨m,n⟩)) (bif G then 0 else 180):=fun h=>NU hm h1 h (fun g=>(hG.1 g).2.2.2.2.2.2) fun a b c d=>hG.2 ⟨h1,h2,h3,oJ.1 (Decidable.not_not.1 h7),by omega,by omega,a,b,c,d⟩
 rw[show aj.k cv n=gb n from rfl]
 have hc:=fun g=>(hG.1 g).2.2.2.2.2.2.2.1
 unfold mX at hc fin
 cases hn:gb n
 ·exact(ah rfl).2 (fin fun k=>absurd (hn.symm.trans k) (by decide))
 ·rw[hn,cond_true] at hc
  simp only[hn,cond_true,Bool.and_eq_true,decide_eq_true_eq] at hc fin
  refine(ai rfl).2 (af.2 ⟨rfl,jo (b:=dp m n.2.2.1) (fun g=>(hc g).1) fun k1=>af.2 ⟨rfl,?_⟩⟩)
  rw[ap,Ni]
  refine jM (p:=¬gS n.2.2.2.1=0) aT (fun g=>not_not_intro (hc g).2.1) fun k2=>?_
  refine jM (p:=¬n.2.2.2.1.1=n.1) aT (fun g=>not_not_intro (hc g).2.2.1) fun k3=>?_
  refine jM (p:=¬n.2.2.2.1.2.1=m.1) aT (fun g=>not_not_intro (hc g).2.2.2.1) fun k4=>?_
  refine jM (p:=¬n.2.2.1.2.2.2.2=n.2.2.2.1.2.2.1) aT (fun g=>not_not_intro (hc g).2.2.2.2) fun k5=>?_
  exact fin fun _=>⟨k1,Decidable.not_not.1 k2,Decidable.not_not.1 k3,Decidable.not_not.1 k4,Decidable.not_not.1 k5⟩
def fG:(ak×Node)→Int:=fun(m,n)=>aS m n
def XY:aD:=⟨[bd,aQ], [yI],(@tt (ak×Node)),fG⟩
theorem IW:Sd 20 XY:=aL au cK true 151 [] [⟨20,8, [[2,3]]⟩,⟨20,10, [[2,3]]⟩,⟨20,11, [[3]]⟩] (fun A (m,n)=>Ss A m n) Ar Px (fc Tryz.func20 fz) (sc Db (sc y2 (sc zK (sc Dc (sc EL (sc w6 (sc Oj sz))))))) (fun A y=>match y with |.c0 p=>⟨51,by kernel_rfl,by kernel_rfl⟩|.c1 p=>⟨39,by kernel_rfl,by kernel_rfl⟩|.c2 p=>⟨27,by kernel_rfl,by kernel_rfl⟩) fun(m,n) hp h=>Q7
open Go.Ev.Pl
def QV(A:bi)(m:ak)(id:Int):LT (Node×Int) Empty:=.need (A.k (@tt ak) m) (.br (A.c .neq (A.k iQ m) 0) (.ret ((0,0,(0,0,0,0,0),(0,0,0,0,0,0,0),0,false,0,0,([]:List Int),([]:List bW),0,0),(A.k iQ m))) (.need (A.k (@tt (Int×Int)) (id,m.1)) (.br (A.c .neq (A.k xD (id,m.1)).2 0) (.ret ((0,0,(0,0,0,0,0),(0,0,0,0,0,0,0),0,false,0,0,([]:List Int),([]:List bW),0,0),2)) (.ret ((id,0,(0,0,0,0,0),(0,0,0,0,0,0,0),0,false,0,(A.k xD (id,m.1)).1),0)))))
def dM:Node:=(0,0,(0,0,0,0,0),(0,0,0,0,0,0,0),0,false,0,0,([]:List Int),([]:List bW),0,0)
def pq(m:ak)(id:Int):Node×Int:=bif dy m then(bif decide (0≤id∧id≤m.1-1) then((id,0,(0,0,0,0,0),(0,0,0,0,0,0,0),0,false,0,id,([]:List Int),List.replicate m.1.toNat rJ,4,(-1)),0) else(dM,2)) else(dM,70)
theorem PR{m:ak}{id:Int}:aA Empty.elim (QV aj m id) (pq m id):=by
 unfold QV pq
 refine af.2 ⟨rfl,?_⟩
 rw[show aj.k iQ m=kp m from rfl,kp]
 cases hm:dy m
 ·exact(ai rfl).2 (.ret _)
 refine(ah rfl).2 (af.2 ⟨rfl,?_⟩)
 rw[show aj.k xD (id,m.1)=DK id m.1 from rfl,DK,decide_eq_true (cy hm).1,cond_true,cond_true]
 cases decide (0≤id∧id≤m.1-1)
 ·exact(ai rfl).2 (.ret _)
 ·exact(ah rfl).2 (.ret _)
def Co:(ak×Int)→(Node×Int):=fun(m,n)=>pq m n
def aar:aD:=⟨[bd,yI], [aQ,yI],(@tt (ak×Int)),Co⟩
theorem OY:Sd 17 aar:=aK au cK true 55 [] (fun A (m,id)=>QV A m id) (fc Tryz.func17 fz) (sc y2 (sc Pg sz)) fun(m,id) hp h=>PR
def Tj(A:bi)(m:ak)(n:Node)(when:Bool):LT (Node×Int) Empty:=.need (A.k (@tt (ak×Node)) (m,n)) (.br (A.c .neq (A.k fG (m,n)) 0) (.ret ((0,0,(0,0,0,0,0),(0,0,0,0,0,0,0),0,false,0,0,([]:List Int),([]:List bW),0,0),(A.k fG (m,n)))) (.br (A.not when) (.ret ((0,0,(0,0,0,0,0),(0,0,0,0,0,0,0),0,false,0,0,([]:List Int),([]:List bW),0,0),181)) (.need (A.k (@tt (cf×List Int)) (n.2.2.2.2.2.2.2,n.2.2.2.2.2.2.2.2.1)) (.ret ((n.1,n.2.1,n.2.2.1,n.2.2.2.1,n.2.2.2.2.1,n.2.2.2.2.2.1,n.2.2.2.2.2.2.1,(A.k bf (n.2.2.2.2.2.2.2,n.2.2.2.2.2.2.2.2.1)).1),(A.k bf (n.2.2.2.2.2.2.2,n.2.2.2.2.2.2.2.2.1)).2)))))
def gu(m:ak)(n:Node)(w:Bool):Node×Int:=bif decide (aS m n=0) then(bif w then(n,0) else(dM,181)) else(dM,aS m n)
theorem j5{m:ak}{n:Node}(h:aS m n=0):dE n.2.2.2.2.2.2.2=true:=(bF.1 (aP h).2).2.2.2.1
theorem FN{c:cf}(h:dE c=true):¬8<(c.2.1.length:Int):=by
 simp only[dE,Bool.and_eq_true,decide_eq_true_eq] at h
 exact h.2.2.1
theorem WT{m:ak}{n:Node}{w:Bool}:aA Empty.elim (Tj aj m n w) (gu m n w):=by
 unfold Tj gu
 refine af.2 ⟨rfl,?_⟩
 rw[show aj.k fG (m,n)=aS m n from rfl]
 by_cases h:aS m n=0
 ·rw[decide_eq_true h]
  refine(ah (kH h)).2 ?_
  cases w
  ·exact(ai rfl).2 (.ret _)
  ·refine(ah rfl).2 (af.2 ⟨rfl,?_⟩)
   rw[show aj.k bf (n.2.2.2.2.2.2.2,n.2.2.2.2.2.2.2.2.1)=vI n.2.2.2.2.2.2.2 n.2.2.2.2.2.2.2.2.1 from rfl,vI,j5 h,decide_eq_false (FN (j5 h))]
   exact .ret _
 ·rw[decide_eq_false h];exact(ai (fT h)).2 (.ret _)
def aI:(ak×Node×Bool)→(Node×Int):=fun(m,c,k)=>gu m c k
def Ud:aD:=⟨[bd,aQ,.bool], [aQ,yI],(@tt (ak×Node×Bool)),aI⟩
theorem tL:Sd 74 Ud:=aK au cK true 64 [] (fun A (m,n,when)=>Tj A m n when) (fc Tryz.func74 fz) (sc IW (sc o3 sz)) fun(m,n,when) hp h=>WT
def Qd(A:bi)(m:ak)(n:Node)(on:Bool):LT (Node×Int) Empty:=.br (A.not on) (.need (A.k (@tt (ak×Node×Bool)) (m,n,true)) (.br (A.c .neq (A.k aI (m,n,true)).2 0) (.ret ((0,0,(0,0,0,0,0),(0,0,0,0,0,0,0),0,false,0,0,([]:List Int),([]:List bW),0,0),(A.k aI (m,n,true)).2)) (.br (A.not on) (.need (A.k (@tt (ak×Int)) (m,(A.k aI (m,n,true)).1.1)) (.ret (A.k Co (m,(A.k aI (m,n,true)).1.1)))) (.need (A.k (@tt (ak×Int)) (m,(A.k aI (m,n,true)).1.1)) (.ret (((A.k aI (m,n,true)).1.1,1,(0,0,0,0,0),(0,0,0,0,0,0,0),(A.k qm (m,(A.k aI (m,n,true)).1.1)),(A.k aI (m,n,true)).1.2.2.2.2.2),0)))))) (.need (A.k (@tt (ak×Node×Bool)) (m,n,(A.c .eql n.2.1 0))) (.br (A.c .neq (A.k aI (m,n,(A.c .eql n.2.1 0))).2 0) (.ret ((0,0,(0,0,0,0,0),(0,0,0,0,0,0,0),0,false,0,0,([]:List Int),([]:List bW),0,0),(A.k aI (m,n,(A.c .eql n.2.1 0))).2)) (.br (A.not on) (.need (A.k (@tt (ak×Int)) (m,(A.k aI (m,n,(A.c .eql n.2.1 0))).1.1)) (.ret (A.k Co (m,(A.k aI (m,n,(A.c .eql n.2.1 0))).1.1)))) (.need (A.k (@tt (ak×Int)) (m,(A.k aI (m,n,(A.c .eql n.2.1 0))).1.1)) (.ret (((A.k aI (m,n,(A.c .eql n.2.1 0))).1.1,1,(0,0,0,0,0),(0,0,0,0,0,0,0),(A.k qm (m,(A.k aI (m,n,(A.c .eql n.2.1 0))).1.1)),(A.k aI (m,n,(A.c .eql n.2.1 0))).1.2.2.2.2.2),0))))))
theorem JO{c:dq}(h:yZ c=true):c=(0,0,0,0,0):=by
 obtain⟨a,b,d,e,f⟩:=c
 simp[yZ,aR,aF] at h
 obtain⟨rfl,rfl,rfl,rfl,rfl⟩:=h
 rfl
theorem J_{c:gh}(h:zeroV c=true):c=(0,0,0,0,0,0,0):=by
 obtain⟨a,b,d,e,f,g,i⟩:=c
 simp[zeroV,aR,aF] at h
 obtain⟨rfl,rfl,rfl,rfl,rfl,rfl,rfl⟩:=h
 rfl
theorem Bc{m:ak}{n:Node}(h:aS m n=0)(h2:¬(2≤n.2.1∧n.2.1≤4)):n.2.2.1=(0,0,0,0,0)∧n.2.2.2.1=(0,0,0,0,0,0,0):=by
 have hc:=(bF.1 (aP h).2).2.2.2.2.2.2.2.1
 rw[mX,gb,decide_eq_false h2,cond_false,Bool.and_eq_true] at hc
 exact⟨JO hc.1,J_ hc.2⟩
theorem Fv{m:ak}{n:Node}(h:aS m n=0)(h2:¬n.2.1=1):n.2.2.2.2.1=0:=by
 have hc:=(bF.1 (aP h).2).2.2.2.2.2.2.2.2.1
 rw[nj,decide_eq_false h2] at hc
 exact of_decide_eq_true hc
def p9(m:ak)(n:Node)(on:Bool):Node×Int:=bif decide (aS m n=0) then(bif on then(bif decide (n.2.1=0) then((n.1,1,(0,0,0,0,0),(0,0,0,0,0,0,0),(jZ m n.1).1,n.2.2.2.2.2),0) else(dM,181)) else pq m n.1) else(dM,aS m n)
theorem Vf{m:ak}{n:Node}{on:Bool}:aA Empty.elim (Qd aj m n on) (p9 m n on):=by
 unfold Qd p9
 rw[show aj.k aI (m,n,true)=gu m n true from rfl,show aj.k aI (m,n,aj.c .eql n.2.1 0)=gu m n (aj.c .eql n.2.1 0) from rfl,aH,gu,gu]
 by_cases h:aS m n=0
 ·rw[decide_eq_true h]
  cases on
  ·exact(ai rfl).2 (af.2 ⟨rfl,(ah rfl).2 ((ai rfl).2 (af.2 ⟨rfl,.ret _⟩))⟩)
  ·refine(ah rfl).2 (af.2 ⟨rfl,?_⟩)
   cases decide (n.2.1=0)
   ·exact(ai rfl).2 (.ret _)
   ·exact(ah rfl).2 ((ah rfl).2 (af.2 ⟨rfl,.ret _⟩))
 ·rw[decide_eq_false h]
  cases on
  ·exact(ai rfl).2 (af.2 ⟨rfl,(ai (fT h)).2 (.ret _)⟩)
  ·exact(ah rfl).2 (af.2 ⟨rfl,(ai (fT h)).2 (.ret _)⟩)
def ou:(ak×Node×Bool)→(Node×Int):=fun(m,c,k)=>p9 m c k
def UU:aD:=⟨[bd,aQ,.bool], [aQ,yI],(@tt (ak×Node×Bool)),ou⟩
theorem O0:Sd 26 UU:=aK au cK true 90 [] (fun A (m,n,on)=>Qd A m n on) (fc Tryz.func26 (fc Tryz.func77 fz)) (sc OY (sc tL (sc Dc sz))) fun(m,n,on) hp h=>Vf
def Rl(A:bi)(m:ak)(n:Node)(set1:Int):LT (Node×Int) Empty:=.need (A.k (@tt (ak×Node×Bool)) (m,n,(A.c .eql n.2.1 0))) (.br (A.c .neq (A.k aI (m,n,(A.c .eql n.2.1 0))).2 0) (.ret ((0,0,(0,0,0,0,0),(0,0,0,0,0,0,0),0,false,0,0,([]:List Int),([]:List bW),0,0),(A.k aI (m,n,(A.c .eql n.2.1 0))).2)) (.need (A.c .leq 0 m.1) (.need (A.k (@tt (Int×Int×Int)) (set1,0,(A.b .sub .i64 (A.b .shl .i64 1 m.1) 1))) (.br (A.not (A.k qK (set1,0,(A.b .sub .i64 (A.b .shl .i64 1 m.1) 1)))) (.ret ((0,0,(0,0,0,0,0),(0,0,0,0,0,0,0),0,false,0,0,([]:List Int),([]:List bW),0,0),2)) (.need (A.c .leq 0 (A.k aI (m,n,(A.c .eql n.2.1 0))).1.1) (.br (A.c .eql (A.b .and .i64 (A.b .shr .i64 set1 (A.k aI (m,n,(A.c .eql n.2.1 0))).1.1) 1) 0) (.ret ((0,0,(0,0,0,0,0),(0,0,0,0,0,0,0),0,false,0,0,([]:List Int),([]:List bW),0,0),2)) (.ret (((A.k aI (m,n,(A.c .eql n.2.1 0))).1.1,4,(0,0,0,0,set1),((A.k aI (m,n,(A.c .eql n.2.1 0))).1.1,m.1,set1,1,0,0,0),0,(A.k aI (m,n,(A.c .eql n.2.1 0))).1.2.2.2.2.2),0))))))))
theorem oN{k:Int}(h:4≤k∧k≤8):16≤aj.b .shl .i64 1 k∧aj.b .shl .i64 1 k≤256:=by
 have:k=4∨k=5∨k=6∨k=7∨k=8:=by omega
 rcases this with rfl|rfl|rfl|rfl|rfl<;>decide
def DL(m:ak)(n:Node)(s:Int):Node×Int:=bif decide (aS m n=0) then(bif decide (n.2.1=0) then(bif decide (0≤s∧s≤aj.b .shl .i64 1 m.1-1) then(bif ic s n.1 then((n.1,4,(0,0,0,0,s),(n.1,m.1,s,1,0,0,0),0,n.2.2.2.2.2),0) else(dM,2)) else(dM,2)) else(dM,181)) else(dM,aS m n)
theorem adn{m:ak}{n:Node}{s:Int}:aA Empty.elim (Rl aj m n s) (DL m n s):=by
 unfold Rl DL
 refine af.2 ⟨rfl,?_⟩
 rw[show aj.k aI (m,n,aj.c .eql n.2.1 0)=gu m n (aj.c .eql n.2.1 0) from rfl,aH,gu,Cc]
 by_cases h:aS m n=0
 ·rw[decide_eq_true h]
  cases decide (n.2.1=0)
  ·exact(ai rfl).2 (.ret _)
  have hk:=(cy (aP h).1).1
  have hs:=oN hk
  have hi:=(bF.1 (aP h).2).1
  refine(ah rfl).2 (af.2 ⟨decide_eq_true (by omega),af.2 ⟨rfl,?_⟩⟩)
  rw[aZ,fI (by omega) (by omega)]
  refine dT (fun h3=>?_) fun h3=>af.2 ⟨decide_eq_true (show 0≤n.1 from hi.1),?_⟩
  ·exact ay (by rw[decide_eq_false h3];rfl) (.ret _)
  ·rw[decide_eq_true h3]
   have hb:=OU (c:=s) (a:=n.1) h3.1 (by omega) hi.1 (by omega)
   refine ax (p:=aj.b .and .i64 (aj.b .shr .i64 s n.1) 1=0) aH (fun g=>?_) fun g=>?_
   ·exact ay (by rw[hb.1 g];rfl) (.ret _)
   ·exact ay (by rw[show ic s n.1=true from by cases hx:ic s n.1;exact absurd (hb.2 hx) g;rfl];rfl) (.ret _)
 ·rw[decide_eq_false h];exact(ai (fT h)).2 (.ret _)
def Fe:(ak×Node×Int)→(Node×Int):=fun(m,c,k)=>DL m c k
def XM:aD:=⟨[bd,aQ,yI], [aQ,yI],(@tt (ak×Node×Int)),Fe⟩
theorem ZU:Sd 24 XM:=aK au cK true 110 [] (fun A (m,n,set1)=>Rl A m n set1) (fc Tryz.func24 (fc Tryz.func75 fz)) (sc tL (sc EL sz)) fun(m,n,set1) hp h=>adn
def Ro(A:bi)(m:ak)(n:Node)(o:xL):LT (Node×Int) Empty:=.need (A.k (@tt (ak×Node×Bool)) (m,n,true)) (.br (A.c .neq (A.k aI (m,n,true)).2 0) (.ret ((0,0,(0,0,0,0,0),(0,0,0,0,0,0,0),0,false,0,0,([]:List Int),([]:List bW),0,0),(A.k aI (m,n,true)).2)) (.need (A.k (@tt (Int×Int×Int)) (o.2.2.2.1,1,3)) (.br (A.not (A.k qK (o.2.2.2.1,1,3))) (.ret ((0,0,(0,0,0,0,0),(0,0,0,0,0,0,0),0,false,0,0,([]:List Int),([]:List bW),0,0),2)) (.need (A.k (@tt Node) (A.k aI (m,n,true)).1) (.br (A.not (A.k cv (A.k aI (m,n,true)).1)) (.ret ((A.k aI (m,n,true)).1,0)) (.br (A.c .eql o.2.2.2.1 1) (.need (A.k (@tt (cf×List Int)) ((A.k aI (m,n,true)).1.2.2.2.2.2.2.2,o.2.2.2.2.2)) (.br (A.c .neq (A.k bf ((A.k aI (m,n,true)).1.2.2.2.2.2.2.2,o.2.2.2.2.2)).2 0) (.ret ((0,0,(0,0,0,0,0),(0,0,0,0,0,0,0),0,false,0,0,([]:List Int),([]:List bW),0,0),(A.k bf ((A.k aI (m,n,true)).1.2.2.2.2.2.2.2,o.2.2.2.2.2)).2)) (.ret (((A.k aI (m,n,true)).1.1,(A.k aI (m,n,true)).1.2.1,(A.k aI (m,n,true)).1.2.2.1,(A.k aI (m,n,true)).1.2.2.2.1,(A.k aI (m,n,true)).1.2.2.2.2.1,(A.k aI (m,n,true)).1.2.2.2.2.2.1,(A.k aI (m,n,true)).1.2.2.2.2.2.2.1,(A.k bf ((A.k aI (m,n,true)).1.2.2.2.2.2.2.2,o.2.2.2.2.2)).1),0)))) (.br (A.c .eql o.2.2.2.1 2) (.need (A.k (@tt cf) (A.k aI (m,n,true)).1.2.2.2.2.2.2.2) (.br (A.c .neq (A.k xv (A.k aI (m,n,true)).1.2.2.2.2.2.2.2).2 0) (.ret ((0,0,(0,0,0,0,0),(0,0,0,0,0,0,0),0,false,0,0,([]:List Int),([]:List bW),0,0),(A.k xv (A.k aI (m,n,true)).1.2.2.2.2.2.2.2).2)) (.ret (((A.k aI (m,n,true)).1.1,(A.k aI (m,n,true)).1.2.1,(A.k aI (m,n,true)).1.2.2.1,(A.k aI (m,n,true)).1.2.2.2.1,(A.k aI (m,n,true)).1.2.2.2.2.1,(A.k aI (m,n,true)).1.2.2.2.2.2.1,(A.k aI (m,n,true)).1.2.2.2.2.2.2.1,(A.k xv (A.k aI (m,n,true)).1.2.2.2.2.2.2.2).1),0)))) (.br (A.c .eql o.2.2.2.1 3) (.need (A.k (@tt (cf×Int)) ((A.k aI (m,n,true)).1.2.2.2.2.2.2.2,o.2.2.2.2.1)) (.br (A.c .neq (A.k w7 ((A.k aI (m,n,true)).1.2.2.2.2.2.2.2,o.2.2.2.2.1)).2 0) (.ret ((0,0,(0,0,0,0,0),(0,0,0,0,0,0,0),0,false,0,0,([]:List Int),([]:List bW),0,0),(A.k w7 ((A.k aI (m,n,true)).1.2.2.2.2.2.2.2,o.2.2.2.2.1)).2)) (.ret (((A.k aI (m,n,true)).1.1,(A.k aI (m,n,true)).1.2.1,(A.k aI (m,n,true)).1.2.2.1,(A.k aI (m,n,true)).1.2.2.2.1,(A.k aI (m,n,true)).1.2.2.2.2.1,(A.k aI (m,n,true)).1.2.2.2.2.2.1,(A.k aI (m,n,true)).1.2.2.2.2.2.2.1,(A.k w7 ((A.k aI (m,n,true)).1.2.2.2.2.2.2.2,o.2.2.2.2.1)).1),0)))) (.br (A.c .neq (A.k aI (m,n,true)).2 0) (.ret ((0,0,(0,0,0,0,0),(0,0,0,0,0,0,0),0,false,0,0,([]:List Int),([]:List bW),0,0),(A.k aI (m,n,true)).2)) (.ret ((A.k aI (m,n,true)).1,0)))))))))))
def C7(n:Node)(r:cf×Int):Node×Int:=bif decide (r.2=0) then((n.1,n.2.1,n.2.2.1,n.2.2.2.1,n.2.2.2.2.1,n.2.2.2.2.2.1,n.2.2.2.2.2.2.1,r.1),0) else(dM,r.2)
def pK(m:ak)(n:Node)(o:xL):Node×Int:=bif decide (aS m n=0) then(bif decide (1≤o.2.2.2.1∧o.2.2.2.1≤3) then(bif gb n then(bif decide (o.2.2.2.1=1) then C7 n (vI n.2.2.2.2.2.2.2 o.2.2.2.2.2) else bif decide (o.2.2.2.1=2) then C7 n (H7 n.2.2.2.2.2.2.2) else C7 n (vF n.2.2.2.2.2.2.2 o.2.2.2.2.1)) else(n,0)) else(dM,2)) else(dM,aS m n)
theorem yX{Y:Type}{step:Y→LT (Node×Int) Y}{n:Node}{r:cf×Int}{x:Int}(hx:r.2=0→x=0):aA step (.br (aj.c .neq r.2 0) (.ret (dM,r.2)) (.ret ((n.1,n.2.1,n.2.2.1,n.2.2.2.1,n.2.2.2.2.1,n.2.2.2.2.2.1,n.2.2.2.2.2.2.1,r.1),x))) (C7 n r):=by
 unfold C7
 refine ax (p:=¬r.2=0) aT (fun h=>?_) fun h=>?_
 ·exact ay (by rw[decide_eq_false h];rfl) (.ret _)
 ·have h:=Decidable.not_not.1 h
  exact ay (by rw[decide_eq_true h,hx h];rfl) (.ret _)
theorem UA{m:ak}{n:Node}{o:xL}:aA Empty.elim (Ro aj m n o) (pK m n o):=by
 unfold Ro pK
 refine af.2 ⟨rfl,?_⟩
 rw[show aj.k aI (m,n,true)=gu m n true from rfl,gu,Cc]
 by_cases h:aS m n=0
 ·rw[decide_eq_true h,cond_true,cond_true,cond_true]
  refine(ah rfl).2 (af.2 ⟨rfl,dT (fun h3=>?_) fun h3=>af.2 ⟨rfl,?_⟩⟩)
  ·exact ay (by rw[decide_eq_false h3];rfl) (.ret _)
  rw[decide_eq_true h3,cond_true]
  rw[show aj.k cv ((n,0):Node×Int).1=gb n from rfl]
  cases gb n
  ·exact(ai rfl).2 (.ret _)
  refine(ah rfl).2 (ax (p:=o.2.2.2.1=1) aH (fun k=>af.2 ⟨rfl,?_⟩) fun k=>ax (p:=o.2.2.2.1=2) aH (fun k2=>af.2 ⟨rfl,?_⟩) fun k2=>(ai (by rw[aH];exact decide_eq_true (by omega))).2 (af.2 ⟨rfl,?_⟩))
  ·rw[decide_eq_true k];exact yX (r:=vI n.2.2.2.2.2.2.2 o.2.2.2.2.2) (fun h=>rfl)
  ·rw[decide_eq_false k,decide_eq_true k2];exact yX (r:=H7 n.2.2.2.2.2.2.2) (fun h=>rfl)
  ·rw[decide_eq_false k,decide_eq_false k2];exact yX (r:=vF n.2.2.2.2.2.2.2 o.2.2.2.2.1) (fun h=>rfl)
 ·rw[decide_eq_false h];exact(ai (fT h)).2 (.ret _)
def Fz:(ak×Node×xL)→(Node×Int):=fun(m,c,k)=>pK m c k
def VW:aD:=⟨[bd,aQ,GY], [aQ,yI],(@tt (ak×Node×xL)),Fz⟩
theorem V0:Sd 28 VW:=aK au cK true 107 [] (fun A (m,n,o)=>Ro A m n o) (fc Tryz.func28 fz) (sc zK (sc tL (sc EL (sc o3 (sc Ob (sc Ot sz)))))) fun(m,n,o) hp h=>UA
end Go.Ev.M
