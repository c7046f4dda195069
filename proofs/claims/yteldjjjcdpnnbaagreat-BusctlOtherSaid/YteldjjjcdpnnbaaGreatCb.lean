/-
  PROVED: what functions of the packages modes, medl, cstate, busctl and of their documents compute. Conditions: none.
-/
import Derived.Test.YteldjjjcdpnnbaaGreatCa
import Derived.Test.YteldjjjcdpnnbaaGreatMb
namespace Go.Ev.M
open Go.Proofs
set_option maxRecDepth 100000
set_option linter.unusedVariables false
set_option linter.unusedSimpArgs false
open Go.Ev.Pl
abbrev ek(m:au):Int:=(m.2.2.2.2.2.2.2.length:Int)
theorem Je{c:dD}{k:Int}(h:jo (c,k)=0):(4≤k∧k≤8)∧(0≤c.1∧c.1≤255)∧(0≤c.2.1∧c.2.1≤k-1)∧(0≤c.2.2.1∧c.2.2.1≤3)∧(0≤c.2.2.2.1∧c.2.2.2.1≤4)∧(0≤c.2.2.2.2∧c.2.2.2.2≤2^k.toNat-1):=by
 obtain⟨t,p,m,n,s⟩:=c
 rw[jo] at h
 cases h1:decide (k<4)||decide (8<k)
 ·rw[h1,cond_false] at h
  rw[Bool.or_eq_false_iff,decide_eq_false_iff_not,decide_eq_false_iff_not] at h1
  cases h2:((decide (0≤t)&&decide (t≤255))&&((decide (0≤p)&&decide (p≤k-1))&&((decide (0≤m)&&decide (m≤3))&&((decide (0≤n)&&decide (n≤4))&&(decide (0≤s)&&decide (s≤2^k.toNat-1))))))
  ·rw[h2,cond_false] at h;exact absurd h (by decide)
  ·simp only[Bool.and_eq_true,decide_eq_true_eq] at h2
   exact⟨by omega,h2.1,h2.2.1,h2.2.2.1,h2.2.2.2.1,h2.2.2.2.2⟩
 ·rw[h1,cond_true] at h;exact absurd h (by decide)
def fR(m:au)(c:dD):Bool:=decide (jo (c,m.1)=0)&&(decide (c.2.2.1<ek m)&&decide (c.2.2.2.1≤ek m))
def eO(m:au)(c:dD):Int:=bif dY m then(bif fR m c then 0 else 40) else 70
theorem nF{m:au}{c:dD}(h:eO m c=0):dY m=true∧jo (c,m.1)=0∧(0≤c.2.2.1∧c.2.2.1<ek m)∧c.2.2.2.1≤ek m:=by
 unfold eO at h
 cases hm:dY m
 ·rw[hm,cond_false] at h;exact absurd h (by decide)
 ·cases hf:fR m c
  ·rw[hm,hf,cond_true,cond_false] at h;exact absurd h (by decide)
  ·simp only[fR,Bool.and_eq_true,decide_eq_true_eq] at hf
   exact⟨rfl,hf.1,⟨(Je hf.1).2.2.2.1.1,hf.2.1⟩,hf.2.2⟩
theorem EY{m:au}{c:dD}(h:dY m=true)(h2:fR m c=true):eO m c=0:=by rw[eO,h,h2];rfl
theorem gZ{m:au}(h:dY m=true):(4≤m.1∧m.1≤8)∧(1≤ek m∧ek m≤4)∧(m.2.2.2.2.2.2.1.length:Int)=m.1∧m.2.2.2.2.2.2.2.all (gD m)=true:=by
 obtain⟨n,s,g,w,d,de,cold,modes⟩:=m
 have:=ON h
 exact⟨this.1,this.2.1,this.2.2.1,this.2.2.2.1⟩
theorem pH{m:au}(h:dY m=true){i:Int}(h0:0≤i)(h1:i<ek m):gD m (aj.n bg m.2.2.2.2.2.2.2 i:Mode)=true:=by
 obtain⟨k,rfl⟩:∃k:Nat,i=k:=⟨i.toNat,by omega⟩
 have hk:k<m.2.2.2.2.2.2.2.length:=by unfold ek at h1;omega
 rw[show(aj.n bg m.2.2.2.2.2.2.2 (k:Int):Mode)=m.2.2.2.2.2.2.2[k] from getD_in hk _]
 exact List.all_eq_true.1 (gZ h).2.2.2 _ (List.getElem_mem hk)
theorem kK{m:au}{x:Mode}(h:gD m x=true):(x.1.length:Int)=m.1∧(x.2.1.length:Int)=m.1∧(x.2.2.length:Int)=ek m:=by
 simp only[gD,Bool.and_eq_true,beq_iff_eq] at h
 exact⟨h.1.1.1,h.1.1.2,by rw[h.1.2]⟩
theorem nT{α:Type}{l:List α}{i:Int}(h0:0≤i)(h1:i<(l.length:Int)):aj.and (aj.c .leq 0 i) (aj.c .lss i (aj.l l))=true:=by
 rw[fL,ar,ao,aN];simp;omega
theorem zu{x:Int}(h:x=0):aj.c .neq x 0=false:=by rw[h];rfl
theorem rf{x:Int}(h:¬x=0):aj.c .neq x 0=true:=by rw[aG];simpa using h
theorem Sm{x:Int}(h:¬x=0):aj.c .eql x 0=false:=by rw[aA];simpa using h
theorem K8{x:Int}(h:x=0):aj.c .eql x 0=true:=by rw[h];rfl
def MK(A:a_)(m:au)(c:dD):LT Bool Empty:=.need (A.k (@tt ((Int×Int×Int×Int×Int)×Int)) (c,m.1)) (.br (A.c .eql (A.k q8 (c,m.1)) 0) (.br (A.c .lss c.2.2.1 (A.l m.2.2.2.2.2.2.2)) (.ret (A.c .leq c.2.2.2.1 (A.l m.2.2.2.2.2.2.2))) (.ret false)) (.ret false))
theorem Mq{m:au}{c:dD}:aF Empty.elim (MK aj m c) (fR m c):=by
 unfold MK
 refine af.2 ⟨rfl,?_⟩
 rw[show aj.k q8 (c,m.1)=jo (c,m.1) from rfl]
 by_cases h:jo (c,m.1)=0
 ·rw[fR,decide_eq_true h]
  refine(ai (K8 h)).2 (aB (p:=c.2.2.1<ek m) rfl (fun h2=>?_) fun h2=>?_)
  ·exact ax (by rw[decide_eq_true h2];rfl) (.ret _)
  ·exact ax (by rw[decide_eq_false h2];rfl) (.ret _)
 ·rw[fR,decide_eq_false h]
  exact(ah (Sm h)).2 (.ret _)
def vd:(au×dD)→Bool:=fun(m,c)=>fR m c
def Wh:aC:=⟨[bM,l5], [.bool],(@tt (au×dD)),vd⟩
theorem Fg:Sd 153 Wh:=aM ap cm true 37 [] (fun A (m,c)=>MK A m c) (fc Tryz.func153 fz) (sc D_ sz) fun(m,c) hp h=>Mq
def SJ(A:a_)(m:au)(c:dD):LT Bool Empty:=.need (A.k (@tt ((Int×Int×Int×Int×Int)×Int)) (c,m.1)) (.br (A.c .eql (A.k lv (c,m.1)) 0) (.br (A.c .lss c.2.2.1 (A.l m.2.2.2.2.2.2.2)) (.ret (A.c .leq c.2.2.2.1 (A.l m.2.2.2.2.2.2.2))) (.ret false)) (.ret false))
theorem N1{m:au}{c:dD}:aF Empty.elim (SJ aj m c) (fR m c):=Mq
def Ct:(au×dD)→Bool:=fun(m,c)=>fR m c
def WH:aC:=⟨[bM,l5], [.bool],(@tt (au×dD)),Ct⟩
theorem LZ:Sd 68 WH:=aM ap cm true 37 [] (fun A (m,c)=>SJ A m c) (fc Tryz.func68 fz) (sc zw sz) fun(m,c) hp h=>N1
def OO(A:a_)(m:au)(n:Int):LT Bool Empty:=.br (A.c .geq n 0) (.ret (A.c .lss n (A.l m.2.2.2.2.2.2.2))) (.ret false)
def YT(m:au)(n:Int):Bool:=decide (0≤n∧n<ek m)
theorem is1{m:au}{n:Int}:aF Empty.elim (OO aj m n) (YT m n):=by
 unfold OO YT
 refine aB (p:=0≤n) rfl (fun h=>?_) fun h=>?_
 ·exact ax (by rw[Bool.eq_iff_iff,fL,ao];simp;omega) (.ret _)
 ·exact ax (decide_eq_false (by omega)).symm (.ret _)
def Ac:(au×Int)→Bool:=fun(m,c)=>YT m c
def Ql:aC:=⟨[bM,yI], [.bool],(@tt (au×Int)),Ac⟩
theorem L9:Sd 218 Ql:=aM ap cm true 24 [] (fun A (m,n)=>OO A m n) (fc Tryz.func218 fz) sz fun(m,n) hp h=>is1
def Oc(A:a_)(m:au)(c:dD):LT Int Empty:=.need (A.k (@tt au) m) (.br (A.c .neq (A.k kP m) 0) (.ret (A.k kP m)) (.need (A.k (@tt ((Int×Int×Int×Int×Int)×Int)) (c,m.1)) (.br (A.c .neq (A.k lv (c,m.1)) 0) (.ret 40) (.need (A.k (@tt (au×Int)) (m,c.2.2.1)) (.br (A.not (A.k Ac (m,c.2.2.1))) (.ret 40) (.br (A.c .gtr c.2.2.2.1 (A.l m.2.2.2.2.2.2.2)) (.ret 40) (.ret 0)))))))
theorem SQ{m:au}{c:dD}:aF Empty.elim (Oc aj m c) (eO m c):=by
 unfold Oc eO
 refine af.2 ⟨rfl,?_⟩
 rw[show aj.k kP m=gj m from rfl,gj]
 cases hm:dY m
 ·exact(ai rfl).2 (.ret _)
 refine(ah rfl).2 (af.2 ⟨rfl,?_⟩)
 rw[show aj.k lv (c,m.1)=jo (c,m.1) from rfl]
 by_cases h:jo (c,m.1)=0
 ·have h0:=(Je h).2.2.2.1.1
  rw[fR,decide_eq_true h]
  refine(ah (zu h)).2 (af.2 ⟨rfl,?_⟩)
  rw[show aj.k Ac (m,c.2.2.1)=decide (0≤c.2.2.1∧c.2.2.1<ek m) from rfl]
  by_cases h2:c.2.2.1<ek m
  ·rw[decide_eq_true (show 0≤c.2.2.1∧c.2.2.1<ek m from⟨h0,h2⟩),decide_eq_true h2]
   refine(ah rfl).2 (aB (p:=ek m<c.2.2.2.1) rfl (fun h3=>?_) fun h3=>?_)
   ·exact ax (by rw[decide_eq_false (by omega)];rfl) (.ret _)
   ·exact ax (by rw[decide_eq_true (by omega)];rfl) (.ret _)
  ·rw[decide_eq_false (show ¬(0≤c.2.2.1∧c.2.2.1<ek m) from fun h=>h2 h.2),decide_eq_false h2]
   exact(ai rfl).2 (.ret _)
 ·rw[fR,decide_eq_false h]
  exact(ai (rf h)).2 (.ret _)
def wK:(au×dD)→Int:=fun(m,c)=>eO m c
def Tz:aC:=⟨[bM,l5], [yI],(@tt (au×dD)),wK⟩
theorem LG:Sd 211 Tz:=aM ap cm true 56 [] (fun A (m,c)=>Oc A m c) (fc Tryz.func211 fz) (sc zw (sc CJ (sc L9 sz))) fun(m,c) hp h=>SQ
def Pp(A:a_)(m:au)(c:dD):LT Int Empty:=.need (A.k (@tt au) m) (.br (A.c .neq (A.k lQ m) 0) (.ret (A.k lQ m)) (.need (A.k (@tt (au×dD)) (m,c)) (.br (A.not (A.k vd (m,c))) (.ret 40) (.ret 0))))
theorem Nf{m:au}{c:dD}:aF Empty.elim (Pp aj m c) (eO m c):=by
 unfold Pp eO
 refine af.2 ⟨rfl,?_⟩
 rw[show aj.k lQ m=gj m from rfl,gj]
 cases hm:dY m
 ·exact(ai rfl).2 (.ret _)
 refine(ah rfl).2 (af.2 ⟨rfl,?_⟩)
 rw[show aj.k vd (m,c)=fR m c from rfl]
 cases fR m c
 ·exact(ai rfl).2 (.ret _)
 ·exact(ah rfl).2 (.ret _)
def BL:(au×dD)→Int:=fun(m,c)=>eO m c
def Ve:aC:=⟨[bM,l5], [yI],(@tt (au×dD)),BL⟩
theorem UN:Sd 221 Ve:=aM ap cm true 40 [] (fun A (m,c)=>Pp A m c) (fc Tryz.func221 fz) (sc CV (sc Fg sz)) fun(m,c) hp h=>Nf
def N4(A:a_)(m:au)(c:dD)(mode:Int):LT Bool Empty:=.need (A.k (@tt (au×Int)) (m,mode)) (.br (A.k Ac (m,mode)) (.br (A.c .neq mode c.2.2.1) (.br (A.c .eql c.2.2.2.1 0) (.need (A.and (A.c .leq 0 c.2.2.1) (A.c .lss c.2.2.1 (A.l m.2.2.2.2.2.2.2))) (.need (A.and (A.c .leq 0 mode) (A.c .lss mode (A.l (A.n bg m.2.2.2.2.2.2.2 c.2.2.1:Mode).2.2))) (.ret (A.n .bool (A.n bg m.2.2.2.2.2.2.2 c.2.2.1:Mode).2.2 mode:Bool)))) (.ret false)) (.ret false)) (.ret false))
def lG(m:au)(c:dD)(k:Int):Bool:=decide (0≤k∧k<ek m)&&(decide (¬k=c.2.2.1)&&(decide (c.2.2.2.1=0)&&(aj.n .bool (aj.n bg m.2.2.2.2.2.2.2 c.2.2.1:Mode).2.2 k:Bool)))
theorem bu{a b:Int}:aj.c .neq a b=decide (¬a=b):=by rw[aG,Bool.eq_iff_iff];simp
theorem zv{R Y:Type}{step:Y→LT R Y}{m:au}{c:dD}{k:Int}{e:LT R Y}{r:R}{f:Bool→R}(h:eO m c=0)(hk:0≤k∧k<ek m)(hr:f (lG m c k)=r)(hf:f false=r→aF step e r) :
  aF step (.br (aj.c .neq k c.2.2.1) (.br (aj.c .eql c.2.2.2.1 0) (.need (aj.and (aj.c .leq 0 c.2.2.1) (aj.c .lss c.2.2.1 (aj.l m.2.2.2.2.2.2.2))) (.need (aj.and (aj.c .leq 0 k) (aj.c .lss k (aj.l (aj.n bg m.2.2.2.2.2.2.2 c.2.2.1:Mode).2.2))) (.ret (f (aj.n .bool (aj.n bg m.2.2.2.2.2.2.2 c.2.2.1:Mode).2.2 k:Bool))))) e) e) r:=by
 obtain⟨hm,_,hc,_⟩:=nF h
 rw[lG,decide_eq_true hk,Bool.true_and] at hr
 refine aB (p:=¬k=c.2.2.1) bu (fun h1=>aB (p:=c.2.2.2.1=0) aZ (fun h2=>af.2 ⟨nT hc.1 hc.2,af.2 ⟨nT hk.1 ?_,?_⟩⟩) fun h2=>hf ?_) fun h1=>hf ?_
 ·exact(kK (pH hm hc.1 hc.2)).2.2▸hk.2
 ·exact ax (by rw[←hr,decide_eq_true h1,decide_eq_true h2];rfl) (.ret _)
 ·rw[←hr,decide_eq_false h2];cases decide (¬k=c.2.2.1)<;>rfl
 ·rw[←hr,decide_eq_false h1];rfl
theorem Sy{m:au}{c:dD}{k:Int}(h:eO m c=0):aF Empty.elim (N4 aj m c k) (lG m c k):=by
 unfold N4
 refine af.2 ⟨rfl,?_⟩
 rw[show aj.k Ac (m,k)=decide (0≤k∧k<ek m) from rfl]
 by_cases hk:0≤k∧k<ek m
 ·exact(ai (decide_eq_true hk)).2 (zv (f:=id) h hk rfl fun e=>ax e (.ret _))
 ·exact(ah (decide_eq_false hk)).2 (ax (by rw[lG,decide_eq_false hk];rfl) (.ret _))
def F8:(au×dD×Int)→Bool:=fun(m,c,k)=>lG m c k
def Fy:(au×dD×Int)→Bool:=fun(m,c,_)=>decide (eO m c=0)
def Vd:aC:=⟨[bM,l5,yI], [.bool],Fy,F8⟩
theorem VE:Sd 253 Vd:=aM ap cm true 42 [] (fun A (m,c,mode)=>N4 A m c mode) (fc Tryz.func253 fz) (sc L9 sz) fun((m,c,mode):au×dD×Int) hp h=>Sy (of_decide_eq_true hp)
def NL(A:a_)(m:au)(c:dD)(mode:Int):LT Bool Empty:=.need (A.k (@tt au) m) (.br (A.c .eql (A.k lQ m) 0) (.need (A.k (@tt (au×dD)) (m,c)) (.br (A.k vd (m,c)) (.br (A.c .geq mode 0) (.br (A.c .lss mode (A.l m.2.2.2.2.2.2.2)) (.br (A.c .neq mode c.2.2.1) (.br (A.c .eql c.2.2.2.1 0) (.need (A.and (A.c .leq 0 c.2.2.1) (A.c .lss c.2.2.1 (A.l m.2.2.2.2.2.2.2))) (.need (A.and (A.c .leq 0 mode) (A.c .lss mode (A.l (A.n bg m.2.2.2.2.2.2.2 c.2.2.1:Mode).2.2))) (.ret (A.n .bool (A.n bg m.2.2.2.2.2.2.2 c.2.2.1:Mode).2.2 mode:Bool)))) (.ret false)) (.ret false)) (.ret false)) (.ret false)) (.ret false))) (.ret false))
theorem MB{m:au}{c:dD}{k:Int}:aF Empty.elim (NL aj m c k) (decide (eO m c=0)&&lG m c k):=by
 unfold NL
 refine af.2 ⟨rfl,?_⟩
 rw[show aj.k lQ m=gj m from rfl,gj]
 cases hm:dY m
 ·exact(ah rfl).2 (ax (by rw[eO,hm];rfl) (.ret _))
 refine(ai rfl).2 (af.2 ⟨rfl,?_⟩)
 rw[show aj.k vd (m,c)=fR m c from rfl]
 cases hf:fR m c
 ·exact(ah rfl).2 (ax (by rw[eO,hm,hf];rfl) (.ret _))
 have h:=EY hm hf
 rw[decide_eq_true h,Bool.true_and]
 refine(ai rfl).2 (aB (p:=0≤k) rfl (fun h1=>aB (p:=k<ek m) rfl (fun h2=>zv (f:=id) h ⟨h1,h2⟩ rfl fun e=>ax e (.ret _)) fun h2=>?_) fun h1=>?_)
 ·exact ax (by rw[lG,decide_eq_false (by omega)];rfl) (.ret _)
 ·exact ax (by rw[lG,decide_eq_false (by omega)];rfl) (.ret _)
def E4:(au×dD×Int)→Bool:=fun(m,c,k)=>decide (eO m c=0)&&lG m c k
def Rw:aC:=⟨[bM,l5,yI], [.bool],(@tt (au×dD×Int)),E4⟩
theorem Rx:Sd 222 Rw:=aM ap cm true 58 [] (fun A (m,c,mode)=>NL A m c mode) (fc Tryz.func222 fz) (sc CV (sc Fg sz)) fun(m,c,mode) hp h=>MB
structure Jh where
 (a0:Int) (a2:au) (a3:dD) (a4:Int) (a5:au) (a6:dD) (a7:au) (a8:dD) (a9:Int) (cd:au) (dS:Int) (a12:dD)
inductive JV where
 | c0 (p:Jh) (a1:Int)
noncomputable def NR:JV→fJ
 | .c0 p a1=>⟨[⟨252,26,(en [(0,.yield 0),(1,.ptr 1 0),(2,.ptr 2 0),(11,vi p.a0),(12,vi a1)]),[.inLoop (cw Tryz.f252 [1,1,0,0]),.inBlock 0],[],none⟩,⟨212,16,(en [(6,.ptr 3 0)]),[.iz 0,.inBlock 0,.code (cw Tryz.f212 [1,1])],[4],none⟩],[.loop ⟨212,16,(en [(0,.agg [vi p.a2.1,vi p.a2.2.1,vi p.a2.2.2.1,vi p.a2.2.2.2.1,vi p.a2.2.2.2.2.1,vi p.a2.2.2.2.2.2.1,.sl .bool p.a2.2.2.2.2.2.2.1,.sl bg p.a2.2.2.2.2.2.2.2]),(1,.agg [vi p.a3.1,vi p.a3.2.1,vi p.a3.2.2.1,vi p.a3.2.2.2.1,vi p.a3.2.2.2.2]),(2,vi p.a4),(3,.ptr 5 0),(4,.ptr 7 0),(5,.ptr 6 0),(6,.ptr 3 0),(8,.agg [vi p.a5.1,vi p.a5.2.1,vi p.a5.2.2.1,vi p.a5.2.2.2.1,vi p.a5.2.2.2.2.1,vi p.a5.2.2.2.2.2.1,.sl .bool p.a5.2.2.2.2.2.2.1,.sl bg p.a5.2.2.2.2.2.2.2]),(9,.agg [vi p.a6.1,vi p.a6.2.1,vi p.a6.2.2.1,vi p.a6.2.2.2.1,vi p.a6.2.2.2.2]),(10,.fn 252 [] [.ptr 1 0,.ptr 2 0])]),[11],(cw Tryz.f212 [1,0,1,0,0]),(cw Tryz.f212 [1,0,1,0,1]),0,none⟩,.flat false [vi p.a7.1,vi p.a7.2.1,vi p.a7.2.2.1,vi p.a7.2.2.2.1,vi p.a7.2.2.2.2.1,vi p.a7.2.2.2.2.2.1,.sl .bool p.a7.2.2.2.2.2.2.1,.sl bg p.a7.2.2.2.2.2.2.2],.flat false [vi p.a8.1,vi p.a8.2.1,vi p.a8.2.2.1,vi p.a8.2.2.2.1,vi p.a8.2.2.2.2],.flat false [vi p.a9],.yS,.flat false [vi p.cd.1,vi p.cd.2.1,vi p.cd.2.2.1,vi p.cd.2.2.2.1,vi p.cd.2.2.2.2.1,vi p.cd.2.2.2.2.2.1,.sl .bool p.cd.2.2.2.2.2.2.1,.sl bg p.cd.2.2.2.2.2.2.2],.flat false [vi p.dS],.flat false [vi p.a12.1,vi p.a12.2.1,vi p.a12.2.2.1,vi p.a12.2.2.2.1,vi p.a12.2.2.2.2],.dead]⟩
def MS(A:a_)(m:au)(c:dD)(mode:Int):LT Int JV:=.need (A.k (@tt (au×dD)) (m,c)) (.br (A.c .neq (A.k wK (m,c)) 0) (.ret (-1)) (.more (.c0 ⟨(A.l m.2.2.2.2.2.2.2),m,c,mode,m,c,m,c,0,m,mode,c⟩ 0)))
def Fz(A:a_):JV→LT Int JV
 | .c0 p a1=>.br (A.c .lss a1 p.a0) (.need (A.k Fy (p.a7,p.a8,a1)) (.br (A.k F8 (p.a7,p.a8,a1)) (.br (A.c .eql a1 p.dS) (.ret a1) (.more (.c0 p (A.b .add .i64 a1 1)))) (.more (.c0 p (A.b .add .i64 a1 1))))) (.ret (-1))
def G9(m:au)(c:dD)(k:Int):Int:=bif decide (eO m c=0)&&lG m c k then k else -1
theorem GV{p:Jh}{m:au}{c:dD}{k:Int}(h0:p.a0=ek m)(h7:p.a7=m)(h8:p.a8=c)(h11:p.dS=k)(h:eO m c=0):∀(j i:Nat),m.2.2.2.2.2.2.2.length-i=j→i≤m.2.2.2.2.2.2.2.length→aF (Fz aj) (.more (.c0 p (i:Int))) (bif decide ((i:Int)≤k)&&lG m c k then k else -1):=by
 have hl:=(gZ (nF h).1).2.1
 unfold ek at hl h0
 intro j
 induction j with
 | zero=>
   intro i hj hi
   rw[al,Fz,h0]
   refine(ah (by rw[ao];exact decide_eq_false (by omega))).2 (ax ?_ (.ret _))
   by_cases hk:(i:Int)≤k
   ·rw[lG,decide_eq_false (show ¬(0≤k∧k<ek m) by unfold ek;omega),Bool.false_and,Bool.and_false];rfl
   ·rw[decide_eq_false hk];rfl
 | succ j ih=>
   intro i hj hi
   rw[al,Fz,h0,h7,h8,h11]
   refine(ai (by rw[ao];exact decide_eq_true (by omega))).2 (af.2 ⟨by rw[ak];exact decide_eq_true h,?_⟩)
   rw[show aj.k F8 (m,c,(i:Int))=lG m c i from rfl,cn (i:=i) (by omega)]
   have hn:=ih (i+1) (by omega) (by omega)
   cases hm:lG m c i
   ·refine(ah rfl).2 (ax ?_ hn)
    by_cases hk:(i:Int)=k
    ·rw[←hk,hm,Bool.and_false,Bool.and_false]
    ·rw[show decide (((i+1:Nat):Int)≤k)=decide ((i:Int)≤k) by rw[Bool.eq_iff_iff];simp;omega]
   ·refine(ai rfl).2 (aB (p:=(i:Int)=k) aZ (fun hk=>?_) fun hk=>?_)
    ·exact ax (by rw[←hk,hm,decide_eq_true (Int.le_refl _)];rfl) (.ret _)
    ·exact ax (by rw[show decide (((i+1:Nat):Int)≤k)=decide ((i:Int)≤k) by rw[Bool.eq_iff_iff];simp;omega]) hn
theorem Yu{m:au}{c:dD}{k:Int}:aF (Fz aj) (MS aj m c k) (G9 m c k):=by
 unfold MS G9
 refine af.2 ⟨rfl,?_⟩
 rw[show aj.k wK (m,c)=eO m c from rfl]
 by_cases h:eO m c=0
 ·rw[decide_eq_true h]
  refine(ah (zu h)).2 (ax ?_ (GV (p:=⟨ek m,m,c,k,m,c,m,c,0,m,k,c⟩) (k:=k) rfl rfl rfl rfl h m.2.2.2.2.2.2.2.length 0 rfl (by omega)))
  by_cases hk:0≤k
  ·rw[show decide (((0:Nat):Int)≤k)=true from decide_eq_true hk]
  ·rw[lG,decide_eq_false (show ¬(0≤k∧k<ek m) by omega),Bool.false_and,Bool.and_false,Bool.and_false]
 ·rw[decide_eq_false h]
  exact(ai (rf h)).2 (.ret _)
def I6:(au×dD×Int)→Int:=fun(m,c,k)=>G9 m c k
def UY:aC:=⟨[bM,l5,yI], [yI],(@tt (au×dD×Int)),I6⟩
theorem Vz:Sd 212 UY:=aK ap cm true 53 [⟨252,2, [[0,1,2,11,12], [6]]⟩] [] (fun A (m,c,mode)=>MS A m c mode) Fz NR (fc Tryz.func212 (fc Tryz.func238 (fc Tryz.func252 fz))) (sc LG (sc VE sz)) (fun A y=>match y with |.c0 p a1=>⟨55,by kernel_rfl,by kernel_rfl⟩) fun(m,c,mode) hp h=>Yu
def Nr(A:a_)(m:au)(c:dD)(req:Int):LT (dD×Int) Empty:=.need (A.k (@tt (au×dD)) (m,c)) (.br (A.c .neq (A.k wK (m,c)) 0) (.ret ((0,0,0,0,0),(A.k wK (m,c)))) (.br (A.c .lss req 0) (.ret ((0,0,0,0,0),100)) (.br (A.c .gtr req (A.l m.2.2.2.2.2.2.2)) (.ret ((0,0,0,0,0),100)) (.br (A.c .gtr req 0) (.need (A.k (@tt (au×dD×Int)) (m,c,(A.b .sub .i64 req 1))) (.br (A.c .geq (A.k I6 (m,c,(A.b .sub .i64 req 1))) 0) (.ret ((c.1,c.2.1,c.2.2.1,req,c.2.2.2.2),0)) (.ret (c,0)))) (.ret (c,0))))))
def qV(m:au)(c:dD)(r:Int):dD×Int:=bif decide (eO m c=0) then(bif decide (0≤r∧r≤ek m) then(bif decide (0<r)&&lG m c (r-1) then((c.1,c.2.1,c.2.2.1,r,c.2.2.2.2),0) else(c,0)) else((0,0,0,0,0),100)) else((0,0,0,0,0),eO m c)
theorem aa2{m:au}{c:dD}{r:Int}:aF Empty.elim (Nr aj m c r) (qV m c r):=by
 unfold Nr qV
 refine af.2 ⟨rfl,?_⟩
 rw[show aj.k wK (m,c)=eO m c from rfl,show aj.k I6 (m,c,(aj.b .sub .i64 r 1))=G9 m c (aj.b .sub .i64 r 1) from rfl]
 by_cases h:eO m c=0
 ·have hl:=(gZ (nF h).1).2.1
  rw[decide_eq_true h]
  refine(ah (zu h)).2 (aB (p:=r<0) rfl (fun h1=>?_) fun h1=>aB (p:=ek m<r) rfl (fun h2=>?_) fun h2=>?_)
  ·exact ax (by rw[decide_eq_false (by omega)];rfl) (.ret _)
  ·exact ax (by rw[decide_eq_false (by omega)];rfl) (.ret _)
  ·rw[decide_eq_true (show 0≤r∧r≤ek m by omega),aW,gg (by omega) (by omega)]
   refine aB (p:=0<r) rfl (fun h3=>af.2 ⟨rfl,?_⟩) fun h3=>?_
   ·rw[decide_eq_true h3,G9,decide_eq_true h,Bool.true_and]
    cases hm:lG m c (r-1)
    ·exact(ah rfl).2 (.ret _)
    ·exact(ai (by rw[cond_true,aJ];exact decide_eq_true (by omega))).2 (.ret _)
   ·exact ax (by rw[decide_eq_false h3];rfl) (.ret _)
 ·rw[decide_eq_false h]
  exact(ai (rf h)).2 (.ret _)
def rF:(au×dD×Int)→(dD×Int):=fun(m,c,k)=>qV m c k
def W1:aC:=⟨[bM,l5,yI], [l5,yI],(@tt (au×dD×Int)),rF⟩
theorem LA:Sd 167 W1:=aM ap cm true 69 [] (fun A (m,c,req)=>Nr A m c req) (fc Tryz.func167 fz) (sc LG (sc Vz sz)) fun(m,c,req) hp h=>aa2
def Ol(A:a_)(m:au)(c:dD)(req:Int):LT (dD×Int) Empty:=.need (A.k (@tt (au×dD)) (m,c)) (.br (A.c .neq (A.k BL (m,c)) 0) (.ret ((0,0,0,0,0),(A.k BL (m,c)))) (.br (A.c .lss req 0) (.ret ((0,0,0,0,0),100)) (.br (A.c .gtr req (A.l m.2.2.2.2.2.2.2)) (.ret ((0,0,0,0,0),100)) (.br (A.c .gtr req 0) (.need (A.k (@tt (au×dD×Int)) (m,c,(A.b .sub .i64 req 1))) (.br (A.k E4 (m,c,(A.b .sub .i64 req 1))) (.ret ((c.1,c.2.1,c.2.2.1,req,c.2.2.2.2),0)) (.ret (c,0)))) (.ret (c,0))))))
theorem RJ{m:au}{c:dD}{r:Int}:aF Empty.elim (Ol aj m c r) (qV m c r):=by
 unfold Ol qV
 refine af.2 ⟨rfl,?_⟩
 rw[show aj.k BL (m,c)=eO m c from rfl,show aj.k E4 (m,c,(aj.b .sub .i64 r 1))=(decide (eO m c=0)&&lG m c (aj.b .sub .i64 r 1)) from rfl]
 by_cases h:eO m c=0
 ·have hl:=(gZ (nF h).1).2.1
  rw[decide_eq_true h,Bool.true_and]
  refine(ah (zu h)).2 (aB (p:=r<0) rfl (fun h1=>?_) fun h1=>aB (p:=ek m<r) rfl (fun h2=>?_) fun h2=>?_)
  ·exact ax (by rw[decide_eq_false (by omega)];rfl) (.ret _)
  ·exact ax (by rw[decide_eq_false (by omega)];rfl) (.ret _)
  ·rw[decide_eq_true (show 0≤r∧r≤ek m by omega),aW,gg (by omega) (by omega)]
   refine aB (p:=0<r) rfl (fun h3=>af.2 ⟨rfl,?_⟩) fun h3=>?_
   ·rw[decide_eq_true h3,Bool.true_and]
    cases hm:lG m c (r-1)
    ·exact(ah rfl).2 (.ret _)
    ·exact(ai rfl).2 (.ret _)
   ·exact ax (by rw[decide_eq_false h3];rfl) (.ret _)
 ·rw[decide_eq_false h]
  exact(ai (rf h)).2 (.ret _)
def Ia:(au×dD×Int)→(dD×Int):=fun(m,c,k)=>qV m c k
def Vq:aC:=⟨[bM,l5,yI], [l5,yI],(@tt (au×dD×Int)),Ia⟩
theorem SF:Sd 185 Vq:=aM ap cm true 68 [] (fun A (m,c,req)=>Ol A m c req) (fc Tryz.func185 fz) (sc UN (sc Rx sz)) fun(m,c,req) hp h=>RJ
open Go.Ev.Pl
def Nw(A:a_)(m:au)(node:Int):LT Int Empty:=.need (A.k (@tt au) m) (.br (A.c .neq (A.k kP m) 0) (.ret (A.k kP m)) (.need (A.k (@tt (Int×Int×Int)) (node,0,(A.b .sub .i64 m.1 1))) (.br (A.not (A.k dN (node,0,(A.b .sub .i64 m.1 1)))) (.ret 2) (.ret 0))))
theorem nC{α:Type}{l:List α}{i n:Int}(e:(l.length:Int)=n)(h0:0≤i)(h1:i<n):aj.and (aj.c .leq 0 i) (aj.c .lss i (aj.l l))=true:=nT h0 (e▸h1)
def gi(m:au)(n:Int):Int:=bif dY m then(bif decide (0≤n∧n≤m.1-1) then 0 else 2) else 70
theorem qC{m:au}{n:Int}(h:gi m n=0):dY m=true∧0≤n∧n≤m.1-1:=by
 unfold gi at h
 cases hm:dY m
 ·rw[hm,cond_false] at h;exact absurd h (by decide)
 ·by_cases hn:0≤n∧n≤m.1-1
  ·exact⟨rfl,hn⟩
  ·rw[hm,decide_eq_false hn,cond_true,cond_false] at h;exact absurd h (by decide)
theorem P_{m:au}{n:Int}:aF Empty.elim (Nw aj m n) (gi m n):=by
 unfold Nw gi
 refine af.2 ⟨rfl,?_⟩
 rw[show aj.k kP m=gj m from rfl,gj]
 cases hm:dY m
 ·exact(ai rfl).2 (.ret _)
 have hl:=(gZ hm).1
 rw[aW,gg (by omega) (by omega)]
 refine(ah rfl).2 (af.2 ⟨rfl,eT (fun h=>?_) fun h=>?_⟩)
 ·exact ax (by rw[decide_eq_false h];rfl) (.ret _)
 ·exact ax (by rw[decide_eq_true h];rfl) (.ret _)
def xB:(au×Int)→Int:=fun(m,n)=>gi m n
def S8:aC:=⟨[bM,yI], [yI],(@tt (au×Int)),xB⟩
theorem LF:Sd 186 S8:=aM ap cm true 41 [] (fun A (m,node)=>Nw A m node) (fc Tryz.func186 fz) (sc CJ (sc yV sz)) fun(m,node) hp h=>P_
def NA(A:a_)(m:au)(n:Int):LT Int Empty:=.need (A.k (@tt au) m) (.br (A.c .neq (A.k lQ m) 0) (.ret (A.k lQ m)) (.br (A.c .lss n 0) (.ret 2) (.br (A.c .geq n m.1) (.ret 2) (.ret 0))))
theorem PI{m:au}{n:Int}:aF Empty.elim (NA aj m n) (gi m n):=by
 unfold NA gi
 refine af.2 ⟨rfl,?_⟩
 rw[show aj.k lQ m=gj m from rfl,gj]
 cases hm:dY m
 ·exact(ai rfl).2 (.ret _)
 refine(ah rfl).2 (aB (p:=n<0) rfl (fun h=>?_) fun h1=>aB (p:=m.1≤n) rfl (fun h=>?_) fun h2=>?_)
 ·exact ax (by rw[decide_eq_false (by omega)];rfl) (.ret _)
 ·exact ax (by rw[decide_eq_false (by omega)];rfl) (.ret _)
 ·exact ax (by rw[decide_eq_true (by omega)];rfl) (.ret _)
def xe:(au×Int)→Int:=fun(m,n)=>gi m n
def Td:aC:=⟨[bM,yI], [yI],(@tt (au×Int)),xe⟩
theorem Lt:Sd 155 Td:=aM ap cm true 43 [] (fun A (m,n)=>NA A m n) (fc Tryz.func155 fz) (sc CV sz) fun(m,n) hp h=>PI
def NY(A:a_)(m:au)(node:Int):LT (Int×Int) Empty:=.need (A.k (@tt (au×Int)) (m,node)) (.br (A.c .neq (A.k xB (m,node)) 0) (.ret (0,(A.k xB (m,node)))) (.ret ((A.b .mul .i64 2 (A.b .add .i64 node 1)),0)))
def Fq(m:au)(n:Int):Int×Int:=bif decide (gi m n=0) then((aj.b .mul .i64 2 (aj.b .add .i64 n 1)),0) else(0,gi m n)
theorem S9{m:au}{n:Int}:aF Empty.elim (NY aj m n) (Fq m n):=by
 unfold NY Fq
 refine af.2 ⟨rfl,aB (p:=¬gi m n=0) bu (fun h=>?_) fun h=>?_⟩
 ·exact ax (by rw[decide_eq_false h];rfl) (.ret _)
 ·exact ax (by rw[decide_eq_true (by omega)];rfl) (.ret _)
def Ab:(au×Int)→(Int×Int):=fun(m,n)=>Fq m n
def US:aC:=⟨[bM,yI], [yI,yI],(@tt (au×Int)),Ab⟩
theorem RH:Sd 125 US:=aM ap cm true 35 [] (fun A (m,node)=>NY A m node) (fc Tryz.func125 fz) (sc LF sz) fun(m,node) hp h=>S9
def MM(A:a_)(m:au)(n:Int):LT (Int×Int) Empty:=.need (A.k (@tt (au×Int)) (m,n)) (.br (A.c .neq (A.k xe (m,n)) 0) (.ret (0,(A.k xe (m,n)))) (.ret ((A.b .add .i64 (A.b .mul .i64 4 m.1) (A.b .mul .i64 2 (A.b .add .i64 n 1))),0)))
def ul(m:au)(n:Int):Int×Int:=bif decide (gi m n=0) then((aj.b .add .i64 (aj.b .mul .i64 4 m.1) (aj.b .mul .i64 2 (aj.b .add .i64 n 1))),0) else(0,gi m n)
theorem T3{m:au}{n:Int}:aF Empty.elim (MM aj m n) (ul m n):=by
 unfold MM ul
 refine af.2 ⟨rfl,aB (p:=¬gi m n=0) bu (fun h=>?_) fun h=>?_⟩
 ·exact ax (by rw[decide_eq_false h];rfl) (.ret _)
 ·exact ax (by rw[decide_eq_true (by omega)];rfl) (.ret _)
def Gv:(au×Int)→(Int×Int):=fun(m,n)=>ul m n
def QP:aC:=⟨[bM,yI], [yI,yI],(@tt (au×Int)),Gv⟩
theorem Xf:Sd 78 QP:=aM ap cm true 39 [] (fun A (m,n)=>MM A m n) (fc Tryz.func78 fz) (sc Lt sz) fun(m,n) hp h=>T3
def N5(A:a_)(m:au)(node:Int):LT (Int×Int) Empty:=.need (A.k (@tt (au×Int)) (m,node)) (.br (A.c .neq (A.k Ab (m,node)).2 0) (.ret (0,(A.k Ab (m,node)).2)) (.ret ((A.b .add .i64 (A.b .mul .i64 4 m.1) (A.k Ab (m,node)).1),0)))
theorem Tl{m:au}{n:Int}:aF Empty.elim (N5 aj m n) (ul m n):=by
 unfold N5 ul
 refine af.2 ⟨rfl,?_⟩
 rw[show aj.k Ab (m,n)=Fq m n from rfl,Fq]
 by_cases h:gi m n=0
 ·rw[decide_eq_true h];exact(ah rfl).2 (.ret _)
 ·rw[decide_eq_false h];exact(ai (rf h)).2 (.ret _)
def Lv:(au×Int)→(Int×Int):=fun(m,n)=>ul m n
def Vo:aC:=⟨[bM,yI], [yI,yI],(@tt (au×Int)),Lv⟩
theorem Vt:Sd 93 Vo:=aM ap cm true 41 [] (fun A (m,node)=>N5 A m node) (fc Tryz.func93 fz) (sc RH sz) fun(m,node) hp h=>Tl
def NO(A:a_)(m:au)(mode:Int)(node:Int):LT (Int×Int) Empty:=.need (A.k (@tt (au×Int)) (m,node)) (.br (A.c .neq (A.k xB (m,node)) 0) (.ret (0,(A.k xB (m,node)))) (.need (A.k (@tt (Int×Int×Int)) (mode,0,(A.b .sub .i64 (A.l m.2.2.2.2.2.2.2) 1))) (.br (A.not (A.k dN (mode,0,(A.b .sub .i64 (A.l m.2.2.2.2.2.2.2) 1)))) (.ret (0,2)) (.need (A.and (A.c .leq 0 mode) (A.c .lss mode (A.l m.2.2.2.2.2.2.2))) (.need (A.and (A.c .leq 0 node) (A.c .lss node (A.l (A.n bg m.2.2.2.2.2.2.2 mode:Mode).2.1))) (.need (A.and (A.c .leq 0 node) (A.c .lss node (A.l (A.n bg m.2.2.2.2.2.2.2 mode:Mode).1))) (.need (A.k (@tt (Bool×Int)) ((A.n .bool (A.n bg m.2.2.2.2.2.2.2 mode:Mode).2.1 node:Bool),(A.n yI (A.n bg m.2.2.2.2.2.2.2 mode:Mode).1 node:Int))) (.ret ((A.k ja ((A.n .bool (A.n bg m.2.2.2.2.2.2.2 mode:Mode).2.1 node:Bool),(A.n yI (A.n bg m.2.2.2.2.2.2.2 mode:Mode).1 node:Int))),0)))))))))
def gN(m:au)(k n:Int):Int×Int:=bif decide (gi m n=0) then(bif decide (0≤k∧k≤ek m-1) then(ja ((aj.n .bool (aj.n bg m.2.2.2.2.2.2.2 k:Mode).2.1 n:Bool),(aj.n (.int .i64) (aj.n bg m.2.2.2.2.2.2.2 k:Mode).1 n:Int)),0) else(0,2)) else(0,gi m n)
theorem MZ{m:au}{k n:Int}:aF Empty.elim (NO aj m k n) (gN m k n):=by
 unfold NO gN
 refine af.2 ⟨rfl,?_⟩
 rw[show aj.k xB (m,n)=gi m n from rfl]
 by_cases h:gi m n=0
 ·obtain⟨hm,h1,h2⟩:=qC h
  have hl:=(gZ hm).2.1
  rw[decide_eq_true h]
  have e:aj.b .sub .i64 (ek m) 1=ek m-1:=by rw[aW,gg (by omega) (by omega)]
  rw[show aj.b .sub .i64 (aj.l m.2.2.2.2.2.2.2) 1=ek m-1 from e]
  refine(ah (zu h)).2 (af.2 ⟨rfl,eT (fun h3=>?_) fun h3=>?_⟩)
  ·exact ax (by rw[decide_eq_false h3];rfl) (.ret _)
  ·have hx:=kK (pH hm h3.1 (show k<ek m by omega))
   refine af.2 ⟨nT h3.1 (show k<ek m by omega),af.2 ⟨nC hx.2.1 h1 (by omega),af.2 ⟨nC hx.1 h1 (by omega),af.2 ⟨rfl,?_⟩⟩⟩⟩
   exact ax (by rw[decide_eq_true h3];rfl) (.ret _)
 ·rw[decide_eq_false h];exact(ai (rf h)).2 (.ret _)
def oq:(au×Int×Int)→(Int×Int):=fun(m,c,k)=>gN m c k
def XJ:aC:=⟨[bM,yI,yI], [yI,yI],(@tt (au×Int×Int)),oq⟩
theorem Vj:Sd 162 XJ:=aM ap cm true 66 [] (fun A (m,mode,node)=>NO A m mode node) (fc Tryz.func162 fz) (sc yV (sc Ma (sc LF sz))) fun(m,mode,node) hp h=>MZ
def MC(A:a_)(m:au)(mode:Int)(n:Int):LT (Int×Int) Empty:=.need (A.k (@tt (au×Int)) (m,n)) (.br (A.c .neq (A.k xe (m,n)) 0) (.ret (0,(A.k xe (m,n)))) (.br (A.c .lss mode 0) (.ret (0,2)) (.br (A.c .geq mode (A.l m.2.2.2.2.2.2.2)) (.ret (0,2)) (.need (A.and (A.c .leq 0 mode) (A.c .lss mode (A.l m.2.2.2.2.2.2.2))) (.need (A.and (A.c .leq 0 n) (A.c .lss n (A.l (A.n bg m.2.2.2.2.2.2.2 mode:Mode).2.1))) (.need (A.and (A.c .leq 0 n) (A.c .lss n (A.l (A.n bg m.2.2.2.2.2.2.2 mode:Mode).1))) (.need (A.k (@tt (Bool×Int)) ((A.n .bool (A.n bg m.2.2.2.2.2.2.2 mode:Mode).2.1 n:Bool),(A.n yI (A.n bg m.2.2.2.2.2.2.2 mode:Mode).1 n:Int))) (.ret ((A.k uJ ((A.n .bool (A.n bg m.2.2.2.2.2.2.2 mode:Mode).2.1 n:Bool),(A.n yI (A.n bg m.2.2.2.2.2.2.2 mode:Mode).1 n:Int))),0)))))))))
theorem O1{m:au}{k n:Int}:aF Empty.elim (MC aj m k n) (gN m k n):=by
 unfold MC gN
 refine af.2 ⟨rfl,?_⟩
 rw[show aj.k xe (m,n)=gi m n from rfl]
 by_cases h:gi m n=0
 ·obtain⟨hm,h1,h2⟩:=qC h
  have hl:=(gZ hm).2.1
  rw[decide_eq_true h]
  refine(ah (zu h)).2 (aB (p:=k<0) rfl (fun h3=>?_) fun h3=>aB (p:=ek m≤k) rfl (fun h4=>?_) fun h4=>?_)
  ·exact ax (by rw[decide_eq_false (by omega)];rfl) (.ret _)
  ·exact ax (by rw[decide_eq_false (by omega)];rfl) (.ret _)
  ·have h5:0≤k∧k≤ek m-1:=by omega
   have hx:=kK (pH hm h5.1 (show k<ek m by omega))
   refine af.2 ⟨nT h5.1 (show k<ek m by omega),af.2 ⟨nC hx.2.1 h1 (by omega),af.2 ⟨nC hx.1 h1 (by omega),af.2 ⟨rfl,?_⟩⟩⟩⟩
   exact ax (by rw[decide_eq_true h5];rfl) (.ret _)
 ·rw[decide_eq_false h];exact(ai (rf h)).2 (.ret _)
def o8:(au×Int×Int)→(Int×Int):=fun(m,c,k)=>gN m c k
def Xb:aC:=⟨[bM,yI,yI], [yI,yI],(@tt (au×Int×Int)),o8⟩
theorem VS:Sd 171 Xb:=aM ap cm true 68 [] (fun A (m,mode,n)=>MC A m mode n) (fc Tryz.func171 fz) (sc L0 (sc Lt sz)) fun(m,mode,n) hp h=>O1
def F9(c:dD)(n:Int):dD×Int:=bif decide (jo (c,n)=0) then(bif decide (c.2.1+1=n) then(bif decide (c.2.2.2.1=0) then(((c.1+1).tmod 256,0,c.2.2),0) else(((c.1+1).tmod 256,0,c.2.2.2.1-1,0,c.2.2.2.2),0)) else((c.1,c.2.1+1,c.2.2),0)) else((0,0,0,0,0),jo (c,n))
def OS(A:a_)(node:Int):LT Int Empty:=.br (A.c .lss node 0) (.ret 0) (.br (A.c .geq node 8) (.ret 0) (.need (A.c .leq 0 node) (.ret (A.b .shl .i64 1 node))))
def Jg(n:Int):Int:=bif decide (0≤n∧n≤7) then aj.b .shl .i64 1 n else 0
theorem YW{n:Int}:aF Empty.elim (OS aj n) (Jg n):=by
 unfold OS Jg
 refine aB (p:=n<0) rfl (fun h=>?_) fun h1=>aB (p:=8≤n) rfl (fun h=>?_) fun h2=>af.2 ⟨decide_eq_true (by omega),?_⟩
 ·exact ax (by rw[decide_eq_false (by omega)];rfl) (.ret _)
 ·exact ax (by rw[decide_eq_false (by omega)];rfl) (.ret _)
 ·exact ax (by rw[decide_eq_true (by omega)];rfl) (.ret _)
def GA:Int→Int:=Jg
def UE:aC:=⟨[yI], [yI],(@tt Int),GA⟩
theorem Uq:Sd 225 UE:=aM ap cm true 28 [] (fun A node=>OS A node) (fc Tryz.func225 fz) sz fun node hp h=>YW
def OY(A:a_)(c:dD)(node:Int):LT Bool Empty:=.need (A.k (@tt Int) node) (.ret (A.c .neq (A.b .and .i64 c.2.2.2.2 (A.k GA node)) 0))
theorem Yl{x:Int}:aj.b .and .i64 x 0=0:=by
 show IntKind.i64.wrap (((BitVec.ofInt 64 x &&& BitVec.ofInt 64 0).toNat:Nat):Int)=0
 rw[show BitVec.ofInt 64 0=0#64 from rfl,BitVec.and_zero];rfl
def Du(c:dD)(n:Int):Bool:=bif decide (0≤n∧n≤7) then aj.c .neq (aj.b .and .i64 c.2.2.2.2 (aj.b .shl .i64 1 n)) 0 else false
theorem QC{c:dD}{n:Int}:aF Empty.elim (OY aj c n) (Du c n):=by
 unfold OY Du
 refine af.2 ⟨rfl,ax ?_ (.ret _)⟩
 rw[show aj.k GA n=Jg n from rfl,Jg]
 cases decide (0≤n∧n≤7)
 ·rw[cond_false,cond_false,Yl];rfl
 ·rfl
def Hl:(dD×Int)→Bool:=fun(m,c)=>Du m c
def XV:aC:=⟨[l5,yI], [.bool],(@tt (dD×Int)),Hl⟩
theorem Qv:Sd 194 XV:=aM ap cm true 21 [] (fun A (c,node)=>OY A c node) (fc Tryz.func194 fz) (sc Uq sz) fun(c,node) hp h=>QC
def JL(A:a_)(m:au)(id:Int):LT Int Empty:=.need (A.k (@tt (au×Int)) (m,id)) (.ret (A.k Lv (m,id)).1)
def wM:(au×Int)→Int:=fun(m,id)=>(JL aj m id).val (Ty.bF [yI])
def UF:aC:=⟨[bM,yI], [yI],(@tt (au×Int)),wM⟩
theorem EL:Sd 70 UF:=aH ap cm true 27 [] (fun A (m,id)=>JL A m id) (fc Tryz.func70 fz) (sc Vt sz) (fun((m,id):au×Int) hp h=>by
 show(JL aj m id).pre=true
 simp[JL,LT.pre,ak,bK])
open Go.Ev.Pl
def Lk(A:a_)(n:Int)(least:Int)(most:Int):LT Bool Empty:=.br (A.c .geq n least) (.ret (A.c .leq n most)) (.ret false)
def u5:(Int×Int×Int)→Bool:=fun(n,least,most)=>(Lk aj n least most).val (Ty.bF [.bool])
def Q8:aC:=⟨[yI,yI,yI], [.bool],(@tt (Int×Int×Int)),u5⟩
theorem LL:Sd 66 Q8:=aH ap cm true 22 [] (fun A (n,least,most)=>Lk A n least most) (fc Tryz.func66 fz) sz (fun((n,least,most):Int×Int×Int) hp h=>by
 show(Lk aj n least most).pre=true
 simp[Lk,LT.pre,ak,bK])
def N0(A:a_)(n:Node):LT Bool Empty:=.need (A.k (@tt (Int×Int×Int)) (n.2.1,2,4)) (.ret (A.k u5 (n.2.1,2,4)))
theorem E8:u5=dN:=rfl
def wJ(n:Node):Bool:=decide (2≤n.2.1∧n.2.1≤4)
theorem YU{n:Node}:aF Empty.elim (N0 aj n) (wJ n):=by
 unfold N0 wJ
 exact af.2 ⟨rfl,ax (by rw[E8,ak,js,Bool.eq_iff_iff];simp) (.ret _)⟩
def pI:Node→Bool:=wJ
def Xx:aC:=⟨[dC], [.bool],(@tt Node),pI⟩
theorem Mb:Sd 22 Xx:=aM ap cm true 18 [] (fun A n=>N0 A n) (fc Tryz.func22 fz) (sc LL sz) fun n hp h=>YU
def O7(A:a_)(n:Node):LT Bool Empty:=.br (A.c .geq n.2.1 2) (.ret (A.c .leq n.2.1 4)) (.ret false)
theorem Zq{n:Node}:aF Empty.elim (O7 aj n) (wJ n):=by
 unfold O7 wJ
 refine aB (p:=2≤n.2.1) rfl (fun h=>?_) fun h=>?_
 ·exact ax (by rw[ar,Bool.eq_iff_iff];simp;omega) (.ret _)
 ·exact ax (decide_eq_false (by omega)).symm (.ret _)
def zZ:Node→Bool:=wJ
def SO:aC:=⟨[dC], [.bool],(@tt Node),zZ⟩
theorem L8:Sd 23 SO:=aM ap cm true 23 [] (fun A n=>O7 A n) (fc Tryz.func23 fz) sz fun n hp h=>Zq
def PV(A:a_)(m:au)(n:Node):LT Bool Empty:=.need (A.k (@tt Node) n) (.br (A.not (A.k zZ n)) (.br (A.and (A.c .eql n.2.2.1.1 0) (A.and (A.c .eql n.2.2.1.2.1 0) (A.and (A.c .eql n.2.2.1.2.2.1 0) (A.and (A.c .eql n.2.2.1.2.2.2.1 0) (A.and (A.c .eql n.2.2.1.2.2.2.2 0) true))))) (.ret (A.and (A.c .eql n.2.2.2.1.1 0) (A.and (A.c .eql n.2.2.2.1.2.1 0) (A.and (A.c .eql n.2.2.2.1.2.2.1 0) (A.and (A.c .eql n.2.2.2.1.2.2.2.1 0) (A.and (A.c .eql n.2.2.2.1.2.2.2.2.1 0) (A.and (A.c .eql n.2.2.2.1.2.2.2.2.2.1 0) (A.and (A.c .eql n.2.2.2.1.2.2.2.2.2.2 0) true)))))))) (.ret false)) (.need (A.k (@tt (au×dD)) (m,n.2.2.1)) (.br (A.k vd (m,n.2.2.1)) (.need (A.k (@tt ((Int×Int×Int×Int×Int×Int×Int))) n.2.2.2.1) (.br (A.c .eql (A.k lg n.2.2.2.1) 0) (.br (A.c .eql n.2.2.2.1.1 n.1) (.br (A.c .eql n.2.2.2.1.2.1 m.1) (.ret (A.c .eql n.2.2.1.2.2.2.2 n.2.2.2.1.2.2.1)) (.ret false)) (.ret false)) (.ret false))) (.ret false))))
def FP(c:dD):Bool:=aj.and (aj.c .eql c.1 0) (aj.and (aj.c .eql c.2.1 0) (aj.and (aj.c .eql c.2.2.1 0) (aj.and (aj.c .eql c.2.2.2.1 0) (aj.and (aj.c .eql c.2.2.2.2 0) true))))
def zeroV(v:tA):Bool:=aj.and (aj.c .eql v.1 0) (aj.and (aj.c .eql v.2.1 0) (aj.and (aj.c .eql v.2.2.1 0) (aj.and (aj.c .eql v.2.2.2.1 0) (aj.and (aj.c .eql v.2.2.2.2.1 0) (aj.and (aj.c .eql v.2.2.2.2.2.1 0) (aj.and (aj.c .eql v.2.2.2.2.2.2 0) true))))))
def sC(m:au)(n:Node):Bool:=bif wJ n then(fR m n.2.2.1&&(decide (lg n.2.2.2.1=0)&&(decide (n.2.2.2.1.1=n.1)&&(decide (n.2.2.2.1.2.1=m.1)&&decide (n.2.2.1.2.2.2.2=n.2.2.2.1.2.2.1))))) else(FP n.2.2.1&&zeroV n.2.2.2.1)
theorem Zw{m:au}{n:Node}:aF Empty.elim (PV aj m n) (sC m n):=by
 unfold PV sC
 refine af.2 ⟨rfl,?_⟩
 rw[show aj.k zZ n=wJ n from rfl]
 cases wJ n
 ·refine(ai rfl).2 ?_
  rw[cond_false]
  cases hz:FP n.2.2.1
  ·exact(ah hz).2 (.ret _)
  ·exact(ai hz).2 (.ret _)
 ·refine(ah rfl).2 (af.2 ⟨rfl,?_⟩)
  rw[show aj.k vd (m,n.2.2.1)=fR m n.2.2.1 from rfl,cond_true]
  cases fR m n.2.2.1
  ·exact(ah rfl).2 (.ret _)
  ·refine(ai rfl).2 (af.2 ⟨rfl,aB (p:=lg n.2.2.2.1=0) aZ (fun h1=>aB (p:=n.2.2.2.1.1=n.1) aZ (fun h2=>aB (p:=n.2.2.2.1.2.1=m.1) aZ (fun h3=>?_) fun h=>?_) fun h=>?_) fun h=>?_⟩)
   ·exact ax (by rw[decide_eq_true h1,decide_eq_true h2,decide_eq_true h3,aZ];rfl) (.ret _)
   ·exact ax (by rw[decide_eq_true h1,decide_eq_true h2,decide_eq_false h];rfl) (.ret _)
   ·exact ax (by rw[decide_eq_true h1,decide_eq_false h];rfl) (.ret _)
   ·exact ax (by rw[decide_eq_false h];rfl) (.ret _)
def E3:(au×Node)→Bool:=fun(m,n)=>sC m n
def Si:aC:=⟨[bM,dC], [.bool],(@tt (au×Node)),E3⟩
theorem Ri:Sd 72 Si:=aM ap cm true 60 [] (fun A (m,n)=>PV A m n) (fc Tryz.func72 fz) (sc FY (sc L8 (sc Fg sz))) fun(m,n) hp h=>Zw
def Pd(A:a_)(m:au)(n:Node):LT Bool Empty:=.br (A.c .neq n.2.1 1) (.ret (A.c .eql n.2.2.2.2.1 0)) (.need (A.k (@tt (au×Int)) (m,n.1)) (.br (A.c .geq n.2.2.2.2.1 1) (.ret (A.c .leq n.2.2.2.2.1 (A.k Gv (m,n.1)).1)) (.ret false)))
def s8(m:au)(n:Node):Bool:=bif decide (n.2.1=1) then decide (1≤n.2.2.2.2.1∧n.2.2.2.2.1≤(ul m n.1).1) else decide (n.2.2.2.2.1=0)
theorem Z_{m:au}{n:Node}:aF Empty.elim (Pd aj m n) (s8 m n):=by
 unfold Pd s8
 refine aB (p:=¬n.2.1=1) bu (fun h=>?_) fun h=>af.2 ⟨rfl,?_⟩
 ·exact ax (by rw[decide_eq_false h,aZ];rfl) (.ret _)
 ·rw[decide_eq_true (show n.2.1=1 by omega),show aj.k Gv (m,n.1)=ul m n.1 from rfl,cond_true]
  refine aB (p:=1≤n.2.2.2.2.1) rfl (fun h1=>?_) fun h1=>?_
  ·exact ax (by rw[ar,Bool.eq_iff_iff];simp;omega) (.ret _)
  ·exact ax (decide_eq_false (by omega)).symm (.ret _)
def FQ:(au×Node)→Bool:=fun(m,n)=>s8 m n
def SP:aC:=⟨[bM,dC], [.bool],(@tt (au×Node)),FQ⟩
theorem Qo:Sd 73 SP:=aM ap cm true 46 [] (fun A (m,n)=>Pd A m n) (fc Tryz.func73 fz) (sc Xf sz) fun(m,n) hp h=>Z_
def Pq(A:a_)(m:au)(n:Node):LT Int Empty:=.need (A.k (@tt au) m) (.br (A.c .neq (A.k lQ m) 0) (.ret (A.k lQ m)) (.br (A.c .lss n.1 0) (.ret 180) (.br (A.c .geq n.1 m.1) (.ret 180) (.br (A.c .lss n.2.1 0) (.ret 180) (.br (A.c .gtr n.2.1 5) (.ret 180) (.br (A.c .lss n.2.2.2.2.2.2.1 0) (.ret 180) (.br (A.c .gtr n.2.2.2.2.2.2.1 2) (.ret 180) (.need (A.k (@tt dw) n.2.2.2.2.2.2.2) (.br (A.c .neq (A.k Ar n.2.2.2.2.2.2.2) 0) (.ret 180) (.br (A.c .neq n.2.2.2.2.2.2.2.1 n.1) (.ret 180) (.br (A.c .neq (A.l n.2.2.2.2.2.2.2.2.2.1) m.1) (.ret 180) (.br (A.c .eql n.2.1 2) (.need (A.and (A.c .leq 0 n.1) (A.c .lss n.1 (A.l m.2.2.2.2.2.2.1))) (.br (A.not (A.n .bool m.2.2.2.2.2.2.1 n.1:Bool)) (.ret 180) (.need (A.k (@tt (au×Node)) (m,n)) (.br (A.not (A.k E3 (m,n))) (.ret 180) (.need (A.k (@tt (au×Node)) (m,n)) (.br (A.not (A.k FQ (m,n))) (.ret 180) (.br n.2.2.2.2.2.1 (.br (A.c .neq n.2.1 1) (.br (A.c .neq n.2.1 2) (.ret 180) (.ret 0)) (.ret 0)) (.ret 0)))))))) (.need (A.k (@tt (au×Node)) (m,n)) (.br (A.not (A.k E3 (m,n))) (.ret 180) (.need (A.k (@tt (au×Node)) (m,n)) (.br (A.not (A.k FQ (m,n))) (.ret 180) (.br n.2.2.2.2.2.1 (.br (A.c .neq n.2.1 1) (.br (A.c .neq n.2.1 2) (.ret 180) (.ret 0)) (.ret 0)) (.ret 0))))))))))))))))))
def A8(m:au)(n:Node):Bool:=bif decide (n.2.1=2) then(aj.n .bool m.2.2.2.2.2.2.1 n.1:Bool) else true
def yy(n:Node):Bool:=bif n.2.2.2.2.2.1 then decide (n.2.1=1∨n.2.1=2) else true
def AN(m:au)(n:Node):Bool:=decide (0≤n.1∧n.1≤m.1-1)&&(decide (0≤n.2.1∧n.2.1≤5)&&(decide (0≤n.2.2.2.2.2.2.1∧n.2.2.2.2.2.2.1≤2)&&(fv n.2.2.2.2.2.2.2&&(decide (n.2.2.2.2.2.2.2.1=n.1)&&(decide ((n.2.2.2.2.2.2.2.2.2.1.length:Int)=m.1)&&(A8 m n&&(sC m n&&(s8 m n&&yy n))))))))
def gG(m:au)(n:Node):Int:=bif dY m then(bif AN m n then 0 else 180) else 70
theorem pR{m:au}{n:Node}:AN m n=true↔(0≤n.1∧n.1≤m.1-1)∧(0≤n.2.1∧n.2.1≤5)∧(0≤n.2.2.2.2.2.2.1∧n.2.2.2.2.2.2.1≤2)∧fv n.2.2.2.2.2.2.2=true∧n.2.2.2.2.2.2.2.1=n.1∧(n.2.2.2.2.2.2.2.2.2.1.length:Int)=m.1∧A8 m n=true∧sC m n=true∧s8 m n=true∧yy n=true:=by
 unfold AN;simp only[Bool.and_eq_true,decide_eq_true_eq]
theorem vm{m:au}{n:Node}(h:gG m n=0):dY m=true∧AN m n=true:=by
 unfold gG at h
 cases hm:dY m
 ·rw[hm,cond_false] at h;exact absurd h (by decide)
 ·cases hn:AN m n
  ·rw[hm,hn,cond_true,cond_false] at h;exact absurd h (by decide)
  ·exact⟨rfl,rfl⟩
section
variable {R Y:Type} {step:Y→LT R Y} {e:LT R Y} {x y:R} {G:Bool}
theorem fI{p:Prop}[Decidable p]{b:Bool}(hb:b=decide p)(h:G=true→¬p)(he:¬p→aF step e (bif G then x else y)):aF step (.br b (.ret y) e) (bif G then x else y):=by
 refine aB hb (fun hp=>?_) he
 cases G
 ·exact .ret _
 ·exact absurd hp (h rfl)
theorem nE{b:Bool}(h:G=true→b=true)(he:b=true→aF step e (bif G then x else y)):aF step (.br (aj.not b) (.ret y) e) (bif G then x else y):=by
 cases b
 ·cases G
  ·exact(ai rfl).2 (.ret _)
  ·exact absurd (h rfl) (by decide)
 ·exact(ah rfl).2 (he rfl)
theorem tH{u a b:Int}(h:G=true→a≤u∧u≤b)(he:a≤u∧u≤b→aF step e (bif G then x else y)):aF step (.br (aj.not (aj.k dN (u,a,b))) (.ret y) e) (bif G then x else y):=by
 refine eT (fun hp=>?_) he
 cases G
 ·exact .ret _
 ·exact absurd (h rfl) hp
theorem yR(h:G=true):aF step (.ret x) (bif G then x else y):=ax (by rw[h];rfl) (.ret _)
end
theorem Mi{Y:Type}{step:Y→LT Int Y}{n:Node}{G:Bool}(h1:G=true→yy n=true)(h2:yy n=true→G=true):aF step (.br n.2.2.2.2.2.1 (.br (aj.c .neq n.2.1 1) (.br (aj.c .neq n.2.1 2) (.ret 180) (.ret 0)) (.ret 0)) (.ret 0)) (bif G then 0 else 180):=by
 unfold yy at h1 h2
 cases hb:n.2.2.2.2.2.1
 ·rw[hb] at h1 h2
  exact(ah rfl).2 (yR (h2 rfl))
 ·rw[hb] at h1 h2
  simp only[cond_true,decide_eq_true_eq] at h1 h2
  refine(ai rfl).2 (aB (p:=¬n.2.1=1) bu (fun h=>fI (p:=¬n.2.1=2) bu (fun g=>?_) fun g=>?_) fun h=>?_)
  ·have:=h1 g;omega
  ·exact yR (h2 (by omega))
  ·exact yR (h2 (by omega))
theorem Fb{R Y:Type}{step:Y→LT R Y}{m:au}{n:Node}{G:Bool}{e:LT R Y}{x y:R}(hm:dY m=true)(hi:0≤n.1∧n.1≤m.1-1)(h1:G=true→A8 m n=true)(h2:A8 m n=true→aF step e (bif G then x else y)) :
  aF step (.br (aj.c .eql n.2.1 2) (.need (aj.and (aj.c .leq 0 n.1) (aj.c .lss n.1 (aj.l m.2.2.2.2.2.2.1))) (.br (aj.not (aj.n .bool m.2.2.2.2.2.2.1 n.1:Bool)) (.ret y) e)) e) (bif G then x else y):=by
 unfold A8 at h1 h2
 refine aB (p:=n.2.1=2) aZ (fun h=>af.2 ⟨nC (gZ hm).2.2.1 hi.1 (by omega),?_⟩) fun h=>?_
 ·rw[decide_eq_true h] at h1 h2
  exact nE h1 h2
 ·rw[decide_eq_false h] at h2
  exact h2 rfl
theorem OF{m:au}{n:Node}:aF Empty.elim (Pq aj m n) (gG m n):=by
 unfold Pq gG
 refine af.2 ⟨rfl,?_⟩
 rw[show aj.k lQ m=gj m from rfl,gj]
 cases hm:dY m
 ·exact(ai rfl).2 (.ret _)
 have hG:=@pR m n
 rw[cond_true]
 generalize AN m n=G at hG ⊢
 refine(ah rfl).2 (fI (p:=n.1<0) rfl (fun g=>by have:=hG.1 g;omega) fun h1=>fI (p:=m.1≤n.1) rfl (fun g=>by have:=hG.1 g;omega) fun h2=>?_)
 refine fI (p:=n.2.1<0) rfl (fun g=>by have:=hG.1 g;omega) fun h3=>fI (p:=5<n.2.1) rfl (fun g=>by have:=hG.1 g;omega) fun h4=>?_
 refine fI (p:=n.2.2.2.2.2.2.1<0) rfl (fun g=>by have:=hG.1 g;omega) fun h5=>fI (p:=2<n.2.2.2.2.2.2.1) rfl (fun g=>by have:=hG.1 g;omega) fun h6=>af.2 ⟨rfl,?_⟩
 refine fI (p:=¬nY n.2.2.2.2.2.2.2=0) bu (fun g=>not_not_intro (nP.2 (hG.1 g).2.2.2.1)) fun h7=>?_
 refine fI (p:=¬n.2.2.2.2.2.2.2.1=n.1) bu (fun g=>by have:=hG.1 g;omega) fun h8=>?_
 refine fI (p:=¬(n.2.2.2.2.2.2.2.2.2.1.length:Int)=m.1) bu (fun g=>by have:=hG.1 g;omega) fun h9=>?_
 refine Fb hm (by omega) (fun g=>(hG.1 g).2.2.2.2.2.2.1) fun hc=>af.2 ⟨rfl,nE (b:=sC m n) (fun g=>(hG.1 g).2.2.2.2.2.2.2.1) fun hd=>af.2 ⟨rfl,nE (b:=s8 m n) (fun g=>(hG.1 g).2.2.2.2.2.2.2.2.1) fun he=>?_⟩⟩
 exact Mi (fun g=>(hG.1 g).2.2.2.2.2.2.2.2.2) fun hb=>hG.2 ⟨by omega,by omega,by omega,nP.1 (Decidable.not_not.1 h7),by omega,by omega,hc,hd,he,hb⟩
def Ca:(au×Node)→Int:=fun(m,n)=>gG m n
def Xv:aC:=⟨[bM,dC], [yI],(@tt (au×Node)),Ca⟩
theorem TX:Sd 21 Xv:=aM ap cm true 137 [] (fun A (m,n)=>Pq A m n) (fc Tryz.func21 fz) (sc CV (sc LU (sc Ri (sc Qo sz)))) fun(m,n) hp h=>OF
structure FV where
 (a0:au) (a1:Node)
structure MJ where
 (b0:au) (b1:Node)
structure Nn where
 (c0:Node)
inductive Ks where
 | c0 (p:FV)
 | c1 (p:MJ)
 | c2 (p:Nn)
noncomputable def PX:Ks→fJ
 | .c0 p=>⟨[⟨20,160,(en [(2,.ptr 0 0),(3,.ptr 1 0)]),[.code (cw Tryz.f20 [1,1,1,0,0,0,0,0,0,0,0,0,1,0,0]),.code (cw Tryz.f20 [1,1,1,0,0,0,0,0,0,0,0,0,1,0,1]),.code (cw Tryz.f20 [1,1,1,0,0,0,0,0,0,0,0,0,1,1]),.code (.exit 3),.inBlock 4,.inBlock 5,.inBlock 6,.inBlock 7,.inBlock 8,.code (cw Tryz.f20 [1,1,1,0,0,1]),.inBlock 3,.code (cw Tryz.f20 [1,1,1,1])],[],none⟩],[.flat false [vi p.a0.1,vi p.a0.2.1,vi p.a0.2.2.1,vi p.a0.2.2.2.1,vi p.a0.2.2.2.2.1,vi p.a0.2.2.2.2.2.1,.sl .bool p.a0.2.2.2.2.2.2.1,.sl bg p.a0.2.2.2.2.2.2.2],.flat false [vi p.a1.1,vi p.a1.2.1,vi p.a1.2.2.1.1,vi p.a1.2.2.1.2.1,vi p.a1.2.2.1.2.2.1,vi p.a1.2.2.1.2.2.2.1,vi p.a1.2.2.1.2.2.2.2,vi p.a1.2.2.2.1.1,vi p.a1.2.2.2.1.2.1,vi p.a1.2.2.2.1.2.2.1,vi p.a1.2.2.2.1.2.2.2.1,vi p.a1.2.2.2.1.2.2.2.2.1,vi p.a1.2.2.2.1.2.2.2.2.2.1,vi p.a1.2.2.2.1.2.2.2.2.2.2,vi p.a1.2.2.2.2.1,vb p.a1.2.2.2.2.2.1,vi p.a1.2.2.2.2.2.2.1,vi p.a1.2.2.2.2.2.2.2.1,.sl yU p.a1.2.2.2.2.2.2.2.2.1,.sl aS p.a1.2.2.2.2.2.2.2.2.2.1,vi p.a1.2.2.2.2.2.2.2.2.2.2.1,vi p.a1.2.2.2.2.2.2.2.2.2.2.2],.dead]⟩
 | .c1 p=>⟨[⟨20,160,(en [(2,.ptr 0 0),(3,.ptr 1 0)]),[.code (cw Tryz.f20 [1,1,1,0,0,0,0,0,0,0,0,0,1,1,1,0,0]),.code (cw Tryz.f20 [1,1,1,0,0,0,0,0,0,0,0,0,1,1,1,0,1]),.code (cw Tryz.f20 [1,1,1,0,0,0,0,0,0,0,0,0,1,1,1,1]),.code (.exit 3),.inBlock 4,.inBlock 5,.inBlock 6,.inBlock 7,.inBlock 8,.code (cw Tryz.f20 [1,1,1,0,0,1]),.inBlock 3,.code (cw Tryz.f20 [1,1,1,1])],[],none⟩],[.flat false [vi p.b0.1,vi p.b0.2.1,vi p.b0.2.2.1,vi p.b0.2.2.2.1,vi p.b0.2.2.2.2.1,vi p.b0.2.2.2.2.2.1,.sl .bool p.b0.2.2.2.2.2.2.1,.sl bg p.b0.2.2.2.2.2.2.2],.flat false [vi p.b1.1,vi p.b1.2.1,vi p.b1.2.2.1.1,vi p.b1.2.2.1.2.1,vi p.b1.2.2.1.2.2.1,vi p.b1.2.2.1.2.2.2.1,vi p.b1.2.2.1.2.2.2.2,vi p.b1.2.2.2.1.1,vi p.b1.2.2.2.1.2.1,vi p.b1.2.2.2.1.2.2.1,vi p.b1.2.2.2.1.2.2.2.1,vi p.b1.2.2.2.1.2.2.2.2.1,vi p.b1.2.2.2.1.2.2.2.2.2.1,vi p.b1.2.2.2.1.2.2.2.2.2.2,vi p.b1.2.2.2.2.1,vb p.b1.2.2.2.2.2.1,vi p.b1.2.2.2.2.2.2.1,vi p.b1.2.2.2.2.2.2.2.1,.sl yU p.b1.2.2.2.2.2.2.2.2.1,.sl aS p.b1.2.2.2.2.2.2.2.2.2.1,vi p.b1.2.2.2.2.2.2.2.2.2.2.1,vi p.b1.2.2.2.2.2.2.2.2.2.2.2],.dead]⟩
 | .c2 p=>⟨[⟨20,160,(en [(3,.ptr 0 0)]),[.code (cw Tryz.f20 [1,1,1,0,0,0,0,0,0,0,0,0,1,1,1,1,0]),.code (cw Tryz.f20 [1,1,1,0,0,0,0,0,0,0,0,0,1,1,1,1,1]),.code (.exit 3),.inBlock 4,.inBlock 5,.inBlock 6,.inBlock 7,.inBlock 8,.code (cw Tryz.f20 [1,1,1,0,0,1]),.inBlock 3,.code (cw Tryz.f20 [1,1,1,1])],[],none⟩],[.flat false [vi p.c0.1,vi p.c0.2.1,vi p.c0.2.2.1.1,vi p.c0.2.2.1.2.1,vi p.c0.2.2.1.2.2.1,vi p.c0.2.2.1.2.2.2.1,vi p.c0.2.2.1.2.2.2.2,vi p.c0.2.2.2.1.1,vi p.c0.2.2.2.1.2.1,vi p.c0.2.2.2.1.2.2.1,vi p.c0.2.2.2.1.2.2.2.1,vi p.c0.2.2.2.1.2.2.2.2.1,vi p.c0.2.2.2.1.2.2.2.2.2.1,vi p.c0.2.2.2.1.2.2.2.2.2.2,vi p.c0.2.2.2.2.1,vb p.c0.2.2.2.2.2.1,vi p.c0.2.2.2.2.2.2.1,vi p.c0.2.2.2.2.2.2.2.1,.sl yU p.c0.2.2.2.2.2.2.2.2.1,.sl aS p.c0.2.2.2.2.2.2.2.2.2.1,vi p.c0.2.2.2.2.2.2.2.2.2.2.1,vi p.c0.2.2.2.2.2.2.2.2.2.2.2],.dead]⟩
def Ou(A:a_)(m:au)(n:Node):LT Int Ks:=.need (A.k (@tt au) m) (.br (A.c .neq (A.k kP m) 0) (.ret (A.k kP m)) (.need (A.k (@tt (Int×Int×Int)) (n.1,0,(A.b .sub .i64 m.1 1))) (.br (A.not (A.k u5 (n.1,0,(A.b .sub .i64 m.1 1)))) (.ret 180) (.need (A.k (@tt (Int×Int×Int)) (n.2.1,0,5)) (.br (A.not (A.k u5 (n.2.1,0,5))) (.ret 180) (.need (A.k (@tt (Int×Int×Int)) (n.2.2.2.2.2.2.1,0,2)) (.br (A.not (A.k u5 (n.2.2.2.2.2.2.1,0,2))) (.ret 180) (.need (A.k (@tt dw) n.2.2.2.2.2.2.2) (.br (A.c .neq (A.k pK n.2.2.2.2.2.2.2) 0) (.ret 180) (.br (A.c .neq n.2.2.2.2.2.2.2.1 n.1) (.ret 180) (.br (A.c .neq (A.l n.2.2.2.2.2.2.2.2.2.1) m.1) (.ret 180) (.need (A.k (@tt Node) n) (.br (A.k pI n) (.need (A.k (@tt (au×dD)) (m,n.2.2.1)) (.br (A.not (A.k Ct (m,n.2.2.1))) (.ret 180) (.need (A.k (@tt ((Int×Int×Int×Int×Int×Int×Int))) n.2.2.2.1) (.br (A.c .neq (A.k jS n.2.2.2.1) 0) (.ret 180) (.br (A.c .neq n.2.2.2.1.1 n.1) (.ret 180) (.br (A.c .neq n.2.2.2.1.2.1 m.1) (.ret 180) (.br (A.c .neq n.2.2.1.2.2.2.2 n.2.2.2.1.2.2.1) (.ret 180) (.more (.c0 ⟨m,n⟩))))))))) (.more (.c0 ⟨m,n⟩)))))))))))))))
def ym(A:a_):Ks→LT Int Ks
 | .c0 p=>.need (A.k (@tt Node) p.a1) (.br (A.not (A.k pI p.a1)) (.br (A.not (A.and (A.c .eql p.a1.2.2.1.1 0) (A.and (A.c .eql p.a1.2.2.1.2.1 0) (A.and (A.c .eql p.a1.2.2.1.2.2.1 0) (A.and (A.c .eql p.a1.2.2.1.2.2.2.1 0) (A.and (A.c .eql p.a1.2.2.1.2.2.2.2 0) true)))))) (.ret 180) (.br (A.not (A.and (A.c .eql p.a1.2.2.2.1.1 0) (A.and (A.c .eql p.a1.2.2.2.1.2.1 0) (A.and (A.c .eql p.a1.2.2.2.1.2.2.1 0) (A.and (A.c .eql p.a1.2.2.2.1.2.2.2.1 0) (A.and (A.c .eql p.a1.2.2.2.1.2.2.2.2.1 0) (A.and (A.c .eql p.a1.2.2.2.1.2.2.2.2.2.1 0) (A.and (A.c .eql p.a1.2.2.2.1.2.2.2.2.2.2 0) true)))))))) (.ret 180) (.br (A.c .eql p.a1.2.1 2) (.need (A.and (A.c .leq 0 p.a1.1) (A.c .lss p.a1.1 (A.l p.a0.2.2.2.2.2.2.1))) (.br (A.not (A.n .bool p.a0.2.2.2.2.2.2.1 p.a1.1:Bool)) (.ret 180) (.more (.c1 ⟨p.a0,p.a1⟩)))) (.more (.c1 ⟨p.a0,p.a1⟩))))) (.br (A.c .eql p.a1.2.1 2) (.need (A.and (A.c .leq 0 p.a1.1) (A.c .lss p.a1.1 (A.l p.a0.2.2.2.2.2.2.1))) (.br (A.not (A.n .bool p.a0.2.2.2.2.2.2.1 p.a1.1:Bool)) (.ret 180) (.more (.c1 ⟨p.a0,p.a1⟩)))) (.more (.c1 ⟨p.a0,p.a1⟩))))
 | .c1 p=>.br (A.c .eql p.b1.2.1 1) (.need (A.k (@tt (au×Int)) (p.b0,p.b1.1)) (.need (A.k (@tt (Int×Int×Int)) (p.b1.2.2.2.2.1,1,(A.k wM (p.b0,p.b1.1)))) (.br (A.not (A.k u5 (p.b1.2.2.2.2.1,1,(A.k wM (p.b0,p.b1.1))))) (.ret 180) (.br (A.c .neq p.b1.2.1 1) (.br (A.c .neq p.b1.2.2.2.2.1 0) (.ret 180) (.more (.c2 ⟨p.b1⟩))) (.more (.c2 ⟨p.b1⟩)))))) (.br (A.c .neq p.b1.2.1 1) (.br (A.c .neq p.b1.2.2.2.2.1 0) (.ret 180) (.more (.c2 ⟨p.b1⟩))) (.more (.c2 ⟨p.b1⟩)))
 | .c2 p=>.br p.c0.2.2.2.2.2.1 (.br (A.c .neq p.c0.2.1 1) (.br (A.c .neq p.c0.2.1 2) (.ret 180) (.ret 0)) (.ret 0)) (.ret 0)
theorem CW{m:au}{n:Node}{G:Bool}(h0:G=true→s8 m n=true∧yy n=true)(h2:s8 m n=true→yy n=true→G=true):aF (ym aj) (.more (.c1 ⟨m,n⟩)) (bif G then 0 else 180):=by
 have hb:s8 m n=true→aF (ym aj) (.more (.c2 ⟨n⟩)) (bif G then 0 else 180):=fun ht=>by
  rw[al,ym]
  exact Mi (fun g=>(h0 g).2) (h2 ht)
 rw[al,ym]
 have ht:=fun g=>(h0 g).1
 unfold s8 at ht hb
 rw[E8]
 refine aB (p:=n.2.1=1) aZ (fun h=>?_) fun h=>?_
 ·rw[decide_eq_true h,cond_true] at ht hb
  refine af.2 ⟨rfl,af.2 ⟨rfl,tH (fun g=>of_decide_eq_true (ht g)) fun h1=>?_⟩⟩
  exact aB (p:=¬n.2.1=1) bu (fun k=>absurd h k) fun _=>hb (decide_eq_true h1)
 ·rw[decide_eq_false h,cond_false] at ht hb
  exact aB (p:=¬n.2.1=1) bu (fun _=>fI (p:=¬n.2.2.2.2.1=0) bu (fun g=>not_not_intro (of_decide_eq_true (ht g))) fun h1=>hb (decide_eq_true (Decidable.not_not.1 h1))) fun k=>absurd h k
theorem K5{m:au}{n:Node}{G:Bool}(hm:dY m=true)(hi:0≤n.1∧n.1≤m.1-1)(h1:wJ n=true→sC m n=true)(h0:G=true→A8 m n=true∧sC m n=true∧s8 m n=true∧yy n=true)(h2:A8 m n=true→sC m n=true→s8 m n=true→yy n=true→G=true):aF (ym aj) (.more (.c0 ⟨m,n⟩)) (bif G then 0 else 180):=by
 rw[al,ym]
 refine af.2 ⟨rfl,?_⟩
 rw[show aj.k pI (⟨m,n⟩:FV).a1=wJ n from rfl]
 have hc:=fun g=>(h0 g).2.1
 unfold sC at hc h1 h2
 cases hn:wJ n
 ·rw[hn,cond_false] at hc h2
  refine(ai rfl).2 (nE (b:=FP n.2.2.1) (fun g=>?_) fun z1=>nE (b:=zeroV n.2.2.2.1) (fun g=>?_) fun z2=>?_)
  ·exact(Bool.and_eq_true _ _▸hc g).1
  ·exact(Bool.and_eq_true _ _▸hc g).2
  ·exact Fb hm hi (fun g=>(h0 g).1) fun k=>CW (fun g=>(h0 g).2.2) fun a b=>h2 k (by rw[z1,z2];rfl) a b
 ·rw[hn,cond_true] at hc h1 h2
  exact(ah rfl).2 (Fb hm hi (fun g=>(h0 g).1) fun k=>CW (fun g=>(h0 g).2.2) fun a b=>h2 k (h1 rfl) a b)
theorem PD{m:au}{n:Node}:aF (ym aj) (Ou aj m n) (gG m n):=by
 unfold Ou gG
 refine af.2 ⟨rfl,?_⟩
 rw[show aj.k kP m=gj m from rfl,gj]
 cases hm:dY m
 ·exact(ai rfl).2 (.ret _)
 have hG:=@pR m n
 have hl:=(gZ hm).1
 rw[cond_true,E8,aW,gg (by omega) (by omega)]
 generalize AN m n=G at hG ⊢
 refine(ah rfl).2 (af.2 ⟨rfl,tH (fun g=>(hG.1 g).1) fun h1=>af.2 ⟨rfl,tH (fun g=>(hG.1 g).2.1) fun h2=>af.2 ⟨rfl,tH (fun g=>(hG.1 g).2.2.1) fun h3=>af.2 ⟨rfl,?_⟩⟩⟩⟩)
 refine fI (p:=¬nY n.2.2.2.2.2.2.2=0) bu (fun g=>not_not_intro (nP.2 (hG.1 g).2.2.2.1)) fun h7=>?_
 refine fI (p:=¬n.2.2.2.2.2.2.2.1=n.1) bu (fun g=>by have:=hG.1 g;omega) fun h8=>?_
 refine fI (p:=¬(n.2.2.2.2.2.2.2.2.2.1.length:Int)=m.1) bu (fun g=>by have:=hG.1 g;omega) fun h9=>af.2 ⟨rfl,?_⟩
 have fin:(wJ n=true→sC m n=true)→aF (ym aj) (.more (.c0 ⟨m,n⟩)) (bif G then 0 else 180):=fun h=>K5 hm h1 h (fun g=>(hG.1 g).2.2.2.2.2.2) fun a b c d=>hG.2 ⟨h1,h2,h3,nP.1 (Decidable.not_not.1 h7),by omega,by omega,a,b,c,d⟩
 rw[show aj.k pI n=wJ n from rfl]
 have hc:=fun g=>(hG.1 g).2.2.2.2.2.2.2.1
 unfold sC at hc fin
 cases hn:wJ n
 ·exact(ah rfl).2 (fin fun k=>absurd (hn.symm.trans k) (by decide))
 ·rw[hn,cond_true] at hc
  simp only[hn,cond_true,Bool.and_eq_true,decide_eq_true_eq] at hc fin
  refine(ai rfl).2 (af.2 ⟨rfl,nE (b:=fR m n.2.2.1) (fun g=>(hc g).1) fun k1=>af.2 ⟨rfl,?_⟩⟩)
  rw[ak,X6]
  refine fI (p:=¬lg n.2.2.2.1=0) bu (fun g=>not_not_intro (hc g).2.1) fun k2=>?_
  refine fI (p:=¬n.2.2.2.1.1=n.1) bu (fun g=>not_not_intro (hc g).2.2.1) fun k3=>?_
  refine fI (p:=¬n.2.2.2.1.2.1=m.1) bu (fun g=>not_not_intro (hc g).2.2.2.1) fun k4=>?_
  refine fI (p:=¬n.2.2.1.2.2.2.2=n.2.2.2.1.2.2.1) bu (fun g=>not_not_intro (hc g).2.2.2.2) fun k5=>?_
  exact fin fun _=>⟨k1,Decidable.not_not.1 k2,Decidable.not_not.1 k3,Decidable.not_not.1 k4,Decidable.not_not.1 k5⟩
def Cx:(au×Node)→Int:=fun(m,n)=>gG m n
def U0:aC:=⟨[bM,dC], [yI],(@tt (au×Node)),Cx⟩
theorem RP:Sd 20 U0:=aK ap cm true 151 [] [⟨20,8, [[2,3]]⟩,⟨20,10, [[2,3]]⟩,⟨20,11, [[3]]⟩] (fun A (m,n)=>Ou A m n) ym PX (fc Tryz.func20 fz) (sc It (sc CJ (sc Mb (sc EL (sc LL (sc FL (sc LZ sz))))))) (fun A y=>match y with |.c0 p=>⟨51,by kernel_rfl,by kernel_rfl⟩|.c1 p=>⟨39,by kernel_rfl,by kernel_rfl⟩|.c2 p=>⟨27,by kernel_rfl,by kernel_rfl⟩) fun(m,n) hp h=>PD
open Go.Ev.Pl
def Px(A:a_)(m:au)(id:Int):LT (Node×Int) Empty:=.need (A.k (@tt au) m) (.br (A.c .neq (A.k kP m) 0) (.ret ((0,0,(0,0,0,0,0),(0,0,0,0,0,0,0),0,false,0,0,([]:List Int),([]:List bG),0,0),(A.k kP m))) (.need (A.k (@tt (Int×Int)) (id,m.1)) (.br (A.c .neq (A.k CF (id,m.1)).2 0) (.ret ((0,0,(0,0,0,0,0),(0,0,0,0,0,0,0),0,false,0,0,([]:List Int),([]:List bG),0,0),2)) (.ret ((id,0,(0,0,0,0,0),(0,0,0,0,0,0,0),0,false,0,(A.k CF (id,m.1)).1),0)))))
def jC:Node:=(0,0,(0,0,0,0,0),(0,0,0,0,0,0,0),0,false,0,0,([]:List Int),([]:List bG),0,0)
def CP(m:au)(id:Int):Node×Int:=bif dY m then(bif decide (0≤id∧id≤m.1-1) then((id,0,(0,0,0,0,0),(0,0,0,0,0,0,0),0,false,0,id,([]:List Int),List.replicate m.1.toNat AR,4,(-1)),0) else(jC,2)) else(jC,70)
theorem NG{m:au}{id:Int}:aF Empty.elim (Px aj m id) (CP m id):=by
 unfold Px CP
 refine af.2 ⟨rfl,?_⟩
 rw[show aj.k kP m=gj m from rfl,gj]
 cases hm:dY m
 ·exact(ai rfl).2 (.ret _)
 refine(ah rfl).2 (af.2 ⟨rfl,?_⟩)
 rw[show aj.k CF (id,m.1)=EE id m.1 from rfl,EE,decide_eq_true (gZ hm).1,cond_true,cond_true]
 cases decide (0≤id∧id≤m.1-1)
 ·exact(ai rfl).2 (.ret _)
 ·exact(ah rfl).2 (.ret _)
def y7:(au×Int)→(Node×Int):=fun(m,n)=>CP m n
def Rl:aC:=⟨[bM,yI], [dC,yI],(@tt (au×Int)),y7⟩
theorem Mu:Sd 17 Rl:=aM ap cm true 55 [] (fun A (m,id)=>Px A m id) (fc Tryz.func17 fz) (sc CJ (sc T8 sz)) fun(m,id) hp h=>NG
def OV(A:a_)(m:au)(n:Node)(when:Bool):LT (Node×Int) Empty:=.need (A.k (@tt (au×Node)) (m,n)) (.br (A.c .neq (A.k Cx (m,n)) 0) (.ret ((0,0,(0,0,0,0,0),(0,0,0,0,0,0,0),0,false,0,0,([]:List Int),([]:List bG),0,0),(A.k Cx (m,n)))) (.br (A.not when) (.ret ((0,0,(0,0,0,0,0),(0,0,0,0,0,0,0),0,false,0,0,([]:List Int),([]:List bG),0,0),181)) (.need (A.k (@tt (dw×List Int)) (n.2.2.2.2.2.2.2,n.2.2.2.2.2.2.2.2.1)) (.ret ((n.1,n.2.1,n.2.2.1,n.2.2.2.1,n.2.2.2.2.1,n.2.2.2.2.2.1,n.2.2.2.2.2.2.1,(A.k B4 (n.2.2.2.2.2.2.2,n.2.2.2.2.2.2.2.2.1)).1),(A.k B4 (n.2.2.2.2.2.2.2,n.2.2.2.2.2.2.2.2.1)).2)))))
def lZ(m:au)(n:Node)(w:Bool):Node×Int:=bif decide (gG m n=0) then(bif w then(n,0) else(jC,181)) else(jC,gG m n)
theorem ql{m:au}{n:Node}(h:gG m n=0):fv n.2.2.2.2.2.2.2=true:=(pR.1 (vm h).2).2.2.2.1
theorem Kp{c:dw}(h:fv c=true):¬8<(c.2.1.length:Int):=by
 simp only[fv,Bool.and_eq_true,decide_eq_true_eq] at h
 exact h.2.2.1
theorem XK{m:au}{n:Node}{w:Bool}:aF Empty.elim (OV aj m n w) (lZ m n w):=by
 unfold OV lZ
 refine af.2 ⟨rfl,?_⟩
 rw[show aj.k Cx (m,n)=gG m n from rfl]
 by_cases h:gG m n=0
 ·rw[decide_eq_true h]
  refine(ah (zu h)).2 ?_
  cases w
  ·exact(ai rfl).2 (.ret _)
  ·refine(ah rfl).2 (af.2 ⟨rfl,?_⟩)
   rw[show aj.k B4 (n.2.2.2.2.2.2.2,n.2.2.2.2.2.2.2.2.1)=QB n.2.2.2.2.2.2.2 n.2.2.2.2.2.2.2.2.1 from rfl,QB,ql h,decide_eq_false (Kp (ql h))]
   exact .ret _
 ·rw[decide_eq_false h];exact(ai (rf h)).2 (.ret _)
def dW:(au×Node×Bool)→(Node×Int):=fun(m,c,k)=>lZ m c k
def T_:aC:=⟨[bM,dC,.bool], [dC,yI],(@tt (au×Node×Bool)),dW⟩
theorem EI:Sd 74 T_:=aM ap cm true 64 [] (fun A (m,n,when)=>OV A m n when) (fc Tryz.func74 fz) (sc RP (sc W6 sz)) fun(m,n,when) hp h=>XK
def TA(A:a_)(n:Node):LT Node Empty:=.need (A.k BB n.2.2.2.2.2.2.2) (.ret (n.1,n.2.1,n.2.2.1,n.2.2.2.1,n.2.2.2.2.1,n.2.2.2.2.2.1,n.2.2.2.2.2.2.1,(A.k Ir n.2.2.2.2.2.2.2)))
theorem Wd{n:Node}(h:fv n.2.2.2.2.2.2.2=true):aF Empty.elim (TA aj n) n:=af.2 ⟨K2 h,.ret _⟩
def df:Node→Node:=fun n=>n
def yv:Node→Bool:=fun n=>fv n.2.2.2.2.2.2.2
def UU:aC:=⟨[dC], [dC],yv,df⟩
theorem Rs:Sd 76 UU:=aM ap cm true 24 [] (fun A n=>TA A n) (fc Tryz.func76 fz) (sc UR sz) fun(n:Node) hp h=>Wd hp
def P0(A:a_)(m:au)(n:Node)(on:Bool):LT (Node×Int) Empty:=.br (A.not on) (.need (A.k (@tt (au×Node×Bool)) (m,n,true)) (.br (A.c .neq (A.k dW (m,n,true)).2 0) (.ret ((0,0,(0,0,0,0,0),(0,0,0,0,0,0,0),0,false,0,0,([]:List Int),([]:List bG),0,0),(A.k dW (m,n,true)).2)) (.br (A.not on) (.need (A.k (@tt (au×Int)) (m,(A.k dW (m,n,true)).1.1)) (.ret (A.k y7 (m,(A.k dW (m,n,true)).1.1)))) (.need (A.k (@tt (au×Int)) (m,(A.k dW (m,n,true)).1.1)) (.ret (((A.k dW (m,n,true)).1.1,1,(0,0,0,0,0),(0,0,0,0,0,0,0),(A.k wM (m,(A.k dW (m,n,true)).1.1)),(A.k dW (m,n,true)).1.2.2.2.2.2),0)))))) (.need (A.k (@tt (au×Node×Bool)) (m,n,(A.c .eql n.2.1 0))) (.br (A.c .neq (A.k dW (m,n,(A.c .eql n.2.1 0))).2 0) (.ret ((0,0,(0,0,0,0,0),(0,0,0,0,0,0,0),0,false,0,0,([]:List Int),([]:List bG),0,0),(A.k dW (m,n,(A.c .eql n.2.1 0))).2)) (.br (A.not on) (.need (A.k (@tt (au×Int)) (m,(A.k dW (m,n,(A.c .eql n.2.1 0))).1.1)) (.ret (A.k y7 (m,(A.k dW (m,n,(A.c .eql n.2.1 0))).1.1)))) (.need (A.k (@tt (au×Int)) (m,(A.k dW (m,n,(A.c .eql n.2.1 0))).1.1)) (.ret (((A.k dW (m,n,(A.c .eql n.2.1 0))).1.1,1,(0,0,0,0,0),(0,0,0,0,0,0,0),(A.k wM (m,(A.k dW (m,n,(A.c .eql n.2.1 0))).1.1)),(A.k dW (m,n,(A.c .eql n.2.1 0))).1.2.2.2.2.2),0))))))
def NT(m:au)(n:Node)(on:Bool):Node×Int:=bif decide (gG m n=0) then(bif on then(bif decide (n.2.1=0) then((n.1,1,(0,0,0,0,0),(0,0,0,0,0,0,0),(ul m n.1).1,n.2.2.2.2.2),0) else(jC,181)) else CP m n.1) else(jC,gG m n)
theorem TC{m:au}{n:Node}{on:Bool}:aF Empty.elim (P0 aj m n on) (NT m n on):=by
 unfold P0 NT
 rw[show aj.k dW (m,n,true)=lZ m n true from rfl,show aj.k dW (m,n,aj.c .eql n.2.1 0)=lZ m n (aj.c .eql n.2.1 0) from rfl,aZ,lZ,lZ]
 by_cases h:gG m n=0
 ·rw[decide_eq_true h]
  cases on
  ·exact(ai rfl).2 (af.2 ⟨rfl,(ah rfl).2 ((ai rfl).2 (af.2 ⟨rfl,.ret _⟩))⟩)
  ·refine(ah rfl).2 (af.2 ⟨rfl,?_⟩)
   cases decide (n.2.1=0)
   ·exact(ai rfl).2 (.ret _)
   ·exact(ah rfl).2 ((ah rfl).2 (af.2 ⟨rfl,.ret _⟩))
 ·rw[decide_eq_false h]
  cases on
  ·exact(ai rfl).2 (af.2 ⟨rfl,(ai (rf h)).2 (.ret _)⟩)
  ·exact(ah rfl).2 (af.2 ⟨rfl,(ai (rf h)).2 (.ret _)⟩)
def rX:(au×Node×Bool)→(Node×Int):=fun(m,c,k)=>NT m c k
def VG:aC:=⟨[bM,dC,.bool], [dC,yI],(@tt (au×Node×Bool)),rX⟩
theorem Rh:Sd 26 VG:=aM ap cm true 90 [] (fun A (m,n,on)=>P0 A m n on) (fc Tryz.func26 (fc Tryz.func77 fz)) (sc Mu (sc EI (sc EL sz))) fun(m,n,on) hp h=>TC
end Go.Ev.M
