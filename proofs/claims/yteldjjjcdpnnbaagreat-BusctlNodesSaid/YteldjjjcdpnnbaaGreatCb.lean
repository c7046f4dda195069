/-
  PROVED: what functions of the packages modes, medl, cstate, busctl and of their documents compute. Conditions: none.
-/
import Derived.Test.YteldjjjcdpnnbaaGreatCa
import Derived.Test.YteldjjjcdpnnbaaGreatMb
namespace Go.Ev.M
open Go.Proofs
set_option maxRecDepth 100000
set_option linter.unusedVariables false
set_option linter.unusedSimpArgs false
open Go.Ev.Pl
abbrev eY(m:au):Int:=(m.2.2.2.2.2.2.2.length:Int)
theorem CG{c:eF}{k:Int}(h:jF (c,k)=0):(4≤k∧k≤8)∧(0≤c.1∧c.1≤255)∧(0≤c.2.1∧c.2.1≤k-1)∧(0≤c.2.2.1∧c.2.2.1≤3)∧(0≤c.2.2.2.1∧c.2.2.2.1≤4)∧(0≤c.2.2.2.2∧c.2.2.2.2≤2^k.toNat-1):=by
 obtain⟨t,p,m,n,s⟩:=c
 rw[jF] at h
 cases h1:decide (k<4)||decide (8<k)
 ·rw[h1,cond_false] at h
  rw[Bool.or_eq_false_iff,decide_eq_false_iff_not,decide_eq_false_iff_not] at h1
  cases h2:((decide (0≤t)&&decide (t≤255))&&((decide (0≤p)&&decide (p≤k-1))&&((decide (0≤m)&&decide (m≤3))&&((decide (0≤n)&&decide (n≤4))&&(decide (0≤s)&&decide (s≤2^k.toNat-1))))))
  ·rw[h2,cond_false] at h;exact absurd h (by decide)
  ·simp only[Bool.and_eq_true,decide_eq_true_eq] at h2
   exact⟨by omega,h2.1,h2.2.1,h2.2.2.1,h2.2.2.2.1,h2.2.2.2.2⟩
 ·rw[h1,cond_true] at h;exact absurd h (by decide)
def gB(m:au)(c:eF):Bool:=decide (jF (c,m.1)=0)&&(decide (c.2.2.1<eY m)&&decide (c.2.2.2.1≤eY m))
def iA(m:au)(c:eF):Int:=bif dY m then(bif gB m c then 0 else 40) else 70
theorem oF{m:au}{c:eF}(h:iA m c=0):dY m=true∧jF (c,m.1)=0∧(0≤c.2.2.1∧c.2.2.1<eY m)∧c.2.2.2.1≤eY m:=by
 unfold iA at h
 cases hm:dY m
 ·rw[hm,cond_false] at h;exact absurd h (by decide)
 ·cases hf:gB m c
  ·rw[hm,hf,cond_true,cond_false] at h;exact absurd h (by decide)
  ·simp only[gB,Bool.and_eq_true,decide_eq_true_eq] at hf
   exact⟨rfl,hf.1,⟨(CG hf.1).2.2.2.1.1,hf.2.1⟩,hf.2.2⟩
theorem gu{m:au}(h:dY m=true):(4≤m.1∧m.1≤8)∧(1≤eY m∧eY m≤4)∧(m.2.2.2.2.2.2.1.length:Int)=m.1∧m.2.2.2.2.2.2.2.all (gz m)=true:=by
 obtain⟨n,s,g,w,d,de,cold,modes⟩:=m
 have:=IZ h
 exact⟨this.1,this.2.1,this.2.2.1,this.2.2.2.1⟩
theorem wh{m:au}(h:dY m=true){i:Int}(h0:0≤i)(h1:i<eY m):gz m (ai.n bi m.2.2.2.2.2.2.2 i:Mode)=true:=by
 obtain⟨k,rfl⟩:∃k:Nat,i=k:=⟨i.toNat,by omega⟩
 have hk:k<m.2.2.2.2.2.2.2.length:=by unfold eY at h1;omega
 rw[show(ai.n bi m.2.2.2.2.2.2.2 (k:Int):Mode)=m.2.2.2.2.2.2.2[k] from getD_in hk _]
 exact List.all_eq_true.1 (gu h).2.2.2 _ (List.getElem_mem hk)
theorem oV{m:au}{x:Mode}(h:gz m x=true):(x.1.length:Int)=m.1∧(x.2.1.length:Int)=m.1∧(x.2.2.length:Int)=eY m:=by
 simp only[gz,Bool.and_eq_true,beq_iff_eq] at h
 exact⟨h.1.1.1,h.1.1.2,by rw[h.1.2]⟩
theorem nz{α:Type}{l:List α}{i:Int}(h0:0≤i)(h1:i<(l.length:Int)):ai.and (ai.c .leq 0 i) (ai.c .lss i (ai.l l))=true:=by
 rw[fy,aF,al,aQ];simp;omega
theorem xt{x:Int}(h:x=0):ai.c .neq x 0=false:=by rw[h];rfl
theorem oo{x:Int}(h:¬x=0):ai.c .neq x 0=true:=by rw[aX];simpa using h
theorem Mz{x:Int}(h:¬x=0):ai.c .eql x 0=false:=by rw[aR];simpa using h
theorem J5{x:Int}(h:x=0):ai.c .eql x 0=true:=by rw[h];rfl
def Jl(A:bg)(m:au)(c:eF):LT Bool Empty:=.need (A.k (@tt ((Int×Int×Int×Int×Int)×Int)) (c,m.1)) (.br (A.c .eql (A.k xY (c,m.1)) 0) (.br (A.c .lss c.2.2.1 (A.l m.2.2.2.2.2.2.2)) (.ret (A.c .leq c.2.2.2.1 (A.l m.2.2.2.2.2.2.2))) (.ret false)) (.ret false))
theorem IC{m:au}{c:eF}:aC Empty.elim (Jl ai m c) (gB m c):=by
 unfold Jl
 refine af.2 ⟨rfl,?_⟩
 rw[show ai.k xY (c,m.1)=jF (c,m.1) from rfl]
 by_cases h:jF (c,m.1)=0
 ·rw[gB,decide_eq_true h]
  refine(aj (J5 h)).2 (ax (p:=c.2.2.1<eY m) rfl (fun h2=>?_) fun h2=>?_)
  ·exact ao (by rw[decide_eq_true h2];rfl) (.ret _)
  ·exact ao (by rw[decide_eq_false h2];rfl) (.ret _)
 ·rw[gB,decide_eq_false h]
  exact(ah (Mz h)).2 (.ret _)
def Cv:(au×eF)→Bool:=fun(m,c)=>gB m c
def MF:aB:=⟨[bW,sM], [.bool],(@tt (au×eF)),Cv⟩
theorem Pe:Sd 153 MF:=aG ar cO true 37 [] (fun A (m,c)=>Jl A m c) (fc Tryz.func153 fz) (sc Kw sz) fun(m,c) hp h=>IC
def Qy(A:bg)(m:au)(c:eF):LT Bool Empty:=.need (A.k (@tt ((Int×Int×Int×Int×Int)×Int)) (c,m.1)) (.br (A.c .eql (A.k ol (c,m.1)) 0) (.br (A.c .lss c.2.2.1 (A.l m.2.2.2.2.2.2.2)) (.ret (A.c .leq c.2.2.2.1 (A.l m.2.2.2.2.2.2.2))) (.ret false)) (.ret false))
theorem JC{m:au}{c:eF}:aC Empty.elim (Qy ai m c) (gB m c):=IC
def Ak:(au×eF)→Bool:=fun(m,c)=>gB m c
def Mn:aB:=⟨[bW,sM], [.bool],(@tt (au×eF)),Ak⟩
theorem Il:Sd 68 Mn:=aG ar cO true 37 [] (fun A (m,c)=>Qy A m c) (fc Tryz.func68 fz) (sc zy sz) fun(m,c) hp h=>JC
def KH(A:bg)(m:au)(n:Int):LT Bool Empty:=.br (A.c .geq n 0) (.ret (A.c .lss n (A.l m.2.2.2.2.2.2.2))) (.ret false)
def U0(m:au)(n:Int):Bool:=decide (0≤n∧n<eY m)
theorem Wu{m:au}{n:Int}:aC Empty.elim (KH ai m n) (U0 m n):=by
 unfold KH U0
 refine ax (p:=0≤n) rfl (fun h=>?_) fun h=>?_
 ·exact ao (by rw[Bool.eq_iff_iff,fy,al];simp;omega) (.ret _)
 ·exact ao (decide_eq_false (by omega)).symm (.ret _)
def x8:(au×Int)→Bool:=fun(m,c)=>U0 m c
def SG:aB:=⟨[bW,yI], [.bool],(@tt (au×Int)),x8⟩
theorem H6:Sd 218 SG:=aG ar cO true 24 [] (fun A (m,n)=>KH A m n) (fc Tryz.func218 fz) sz fun(m,n) hp h=>Wu
def Ll(A:bg)(m:au)(c:eF):LT Int Empty:=.need (A.k (@tt au) m) (.br (A.c .neq (A.k jH m) 0) (.ret (A.k jH m)) (.need (A.k (@tt ((Int×Int×Int×Int×Int)×Int)) (c,m.1)) (.br (A.c .neq (A.k ol (c,m.1)) 0) (.ret 40) (.need (A.k (@tt (au×Int)) (m,c.2.2.1)) (.br (A.not (A.k x8 (m,c.2.2.1))) (.ret 40) (.br (A.c .gtr c.2.2.2.1 (A.l m.2.2.2.2.2.2.2)) (.ret 40) (.ret 0)))))))
theorem My{m:au}{c:eF}:aC Empty.elim (Ll ai m c) (iA m c):=by
 unfold Ll iA
 refine af.2 ⟨rfl,?_⟩
 rw[show ai.k jH m=fU m from rfl,fU]
 cases hm:dY m
 ·exact(aj rfl).2 (.ret _)
 refine(ah rfl).2 (af.2 ⟨rfl,?_⟩)
 rw[show ai.k ol (c,m.1)=jF (c,m.1) from rfl]
 by_cases h:jF (c,m.1)=0
 ·have h0:=(CG h).2.2.2.1.1
  rw[gB,decide_eq_true h]
  refine(ah (xt h)).2 (af.2 ⟨rfl,?_⟩)
  rw[show ai.k x8 (m,c.2.2.1)=decide (0≤c.2.2.1∧c.2.2.1<eY m) from rfl]
  by_cases h2:c.2.2.1<eY m
  ·rw[decide_eq_true (show 0≤c.2.2.1∧c.2.2.1<eY m from⟨h0,h2⟩),decide_eq_true h2]
   refine(ah rfl).2 (ax (p:=eY m<c.2.2.2.1) rfl (fun h3=>?_) fun h3=>?_)
   ·exact ao (by rw[decide_eq_false (by omega)];rfl) (.ret _)
   ·exact ao (by rw[decide_eq_true (by omega)];rfl) (.ret _)
  ·rw[decide_eq_false (show ¬(0≤c.2.2.1∧c.2.2.1<eY m) from fun h=>h2 h.2),decide_eq_false h2]
   exact(aj rfl).2 (.ret _)
 ·rw[gB,decide_eq_false h]
  exact(aj (oo h)).2 (.ret _)
def vC:(au×eF)→Int:=fun(m,c)=>iA m c
def PI:aB:=⟨[bW,sM], [yI],(@tt (au×eF)),vC⟩
theorem Im:Sd 211 PI:=aG ar cO true 56 [] (fun A (m,c)=>Ll A m c) (fc Tryz.func211 fz) (sc zy (sc Am (sc H6 sz))) fun(m,c) hp h=>My
def JU(A:bg)(m:au)(c:eF)(mode:Int):LT Bool Empty:=.need (A.k (@tt (au×Int)) (m,mode)) (.br (A.k x8 (m,mode)) (.br (A.c .neq mode c.2.2.1) (.br (A.c .eql c.2.2.2.1 0) (.need (A.and (A.c .leq 0 c.2.2.1) (A.c .lss c.2.2.1 (A.l m.2.2.2.2.2.2.2))) (.need (A.and (A.c .leq 0 mode) (A.c .lss mode (A.l (A.n bi m.2.2.2.2.2.2.2 c.2.2.1:Mode).2.2))) (.ret (A.n .bool (A.n bi m.2.2.2.2.2.2.2 c.2.2.1:Mode).2.2 mode:Bool)))) (.ret false)) (.ret false)) (.ret false))
def oI(m:au)(c:eF)(k:Int):Bool:=decide (0≤k∧k<eY m)&&(decide (¬k=c.2.2.1)&&(decide (c.2.2.2.1=0)&&(ai.n .bool (ai.n bi m.2.2.2.2.2.2.2 c.2.2.1:Mode).2.2 k:Bool)))
theorem aY{a b:Int}:ai.c .neq a b=decide (¬a=b):=by rw[aX,Bool.eq_iff_iff];simp
theorem Ct{R Y:Type}{step:Y→LT R Y}{m:au}{c:eF}{k:Int}{e:LT R Y}{r:R}{f:Bool→R}(h:iA m c=0)(hk:0≤k∧k<eY m)(hr:f (oI m c k)=r)(hf:f false=r→aC step e r) :
  aC step (.br (ai.c .neq k c.2.2.1) (.br (ai.c .eql c.2.2.2.1 0) (.need (ai.and (ai.c .leq 0 c.2.2.1) (ai.c .lss c.2.2.1 (ai.l m.2.2.2.2.2.2.2))) (.need (ai.and (ai.c .leq 0 k) (ai.c .lss k (ai.l (ai.n bi m.2.2.2.2.2.2.2 c.2.2.1:Mode).2.2))) (.ret (f (ai.n .bool (ai.n bi m.2.2.2.2.2.2.2 c.2.2.1:Mode).2.2 k:Bool))))) e) e) r:=by
 obtain⟨hm,_,hc,_⟩:=oF h
 rw[oI,decide_eq_true hk,Bool.true_and] at hr
 refine ax (p:=¬k=c.2.2.1) aY (fun h1=>ax (p:=c.2.2.2.1=0) aT (fun h2=>af.2 ⟨nz hc.1 hc.2,af.2 ⟨nz hk.1 ?_,?_⟩⟩) fun h2=>hf ?_) fun h1=>hf ?_
 ·exact(oV (wh hm hc.1 hc.2)).2.2▸hk.2
 ·exact ao (by rw[←hr,decide_eq_true h1,decide_eq_true h2];rfl) (.ret _)
 ·rw[←hr,decide_eq_false h2];cases decide (¬k=c.2.2.1)<;>rfl
 ·rw[←hr,decide_eq_false h1];rfl
theorem N8{m:au}{c:eF}{k:Int}(h:iA m c=0):aC Empty.elim (JU ai m c k) (oI m c k):=by
 unfold JU
 refine af.2 ⟨rfl,?_⟩
 rw[show ai.k x8 (m,k)=decide (0≤k∧k<eY m) from rfl]
 by_cases hk:0≤k∧k<eY m
 ·exact(aj (decide_eq_true hk)).2 (Ct (f:=id) h hk rfl fun e=>ao e (.ret _))
 ·exact(ah (decide_eq_false hk)).2 (ao (by rw[oI,decide_eq_false hk];rfl) (.ret _))
def E5:(au×eF×Int)→Bool:=fun(m,c,k)=>oI m c k
def Ez:(au×eF×Int)→Bool:=fun(m,c,_)=>decide (iA m c=0)
def Mm:aB:=⟨[bW,sM,yI], [.bool],Ez,E5⟩
theorem Nu:Sd 253 Mm:=aG ar cO true 42 [] (fun A (m,c,mode)=>JU A m c mode) (fc Tryz.func253 fz) (sc H6 sz) fun((m,c,mode):au×eF×Int) hp h=>N8 (of_decide_eq_true hp)
structure Co where
 (a0:Int) (a2:au) (a3:eF) (a4:Int) (a5:au) (a6:eF) (a7:au) (a8:eF) (a9:Int) (cf:au) (dR:Int) (a12:eF)
inductive Hu where
 | c0 (p:Co) (a1:Int)
noncomputable def KQ:Hu→fE
 | .c0 p a1=>⟨[⟨252,26,(en [(0,.yield 0),(1,.ptr 1 0),(2,.ptr 2 0),(11,vi p.a0),(12,vi a1)]),[.inLoop (cw Tryz.f252 [1,1,0,0]),.inBlock 0],[],none⟩,⟨212,16,(en [(6,.ptr 3 0)]),[.iD 0,.inBlock 0,.code (cw Tryz.f212 [1,1])],[4],none⟩],[.loop ⟨212,16,(en [(0,.agg [vi p.a2.1,vi p.a2.2.1,vi p.a2.2.2.1,vi p.a2.2.2.2.1,vi p.a2.2.2.2.2.1,vi p.a2.2.2.2.2.2.1,.sl .bool p.a2.2.2.2.2.2.2.1,.sl bi p.a2.2.2.2.2.2.2.2]),(1,.agg [vi p.a3.1,vi p.a3.2.1,vi p.a3.2.2.1,vi p.a3.2.2.2.1,vi p.a3.2.2.2.2]),(2,vi p.a4),(3,.ptr 5 0),(4,.ptr 7 0),(5,.ptr 6 0),(6,.ptr 3 0),(8,.agg [vi p.a5.1,vi p.a5.2.1,vi p.a5.2.2.1,vi p.a5.2.2.2.1,vi p.a5.2.2.2.2.1,vi p.a5.2.2.2.2.2.1,.sl .bool p.a5.2.2.2.2.2.2.1,.sl bi p.a5.2.2.2.2.2.2.2]),(9,.agg [vi p.a6.1,vi p.a6.2.1,vi p.a6.2.2.1,vi p.a6.2.2.2.1,vi p.a6.2.2.2.2]),(10,.fn 252 [] [.ptr 1 0,.ptr 2 0])]),[11],(cw Tryz.f212 [1,0,1,0,0]),(cw Tryz.f212 [1,0,1,0,1]),0,none⟩,.flat false [vi p.a7.1,vi p.a7.2.1,vi p.a7.2.2.1,vi p.a7.2.2.2.1,vi p.a7.2.2.2.2.1,vi p.a7.2.2.2.2.2.1,.sl .bool p.a7.2.2.2.2.2.2.1,.sl bi p.a7.2.2.2.2.2.2.2],.flat false [vi p.a8.1,vi p.a8.2.1,vi p.a8.2.2.1,vi p.a8.2.2.2.1,vi p.a8.2.2.2.2],.flat false [vi p.a9],.Ac,.flat false [vi p.cf.1,vi p.cf.2.1,vi p.cf.2.2.1,vi p.cf.2.2.2.1,vi p.cf.2.2.2.2.1,vi p.cf.2.2.2.2.2.1,.sl .bool p.cf.2.2.2.2.2.2.1,.sl bi p.cf.2.2.2.2.2.2.2],.flat false [vi p.dR],.flat false [vi p.a12.1,vi p.a12.2.1,vi p.a12.2.2.1,vi p.a12.2.2.2.1,vi p.a12.2.2.2.2],.dead]⟩
def JY(A:bg)(m:au)(c:eF)(mode:Int):LT Int Hu:=.need (A.k (@tt (au×eF)) (m,c)) (.br (A.c .neq (A.k vC (m,c)) 0) (.ret (-1)) (.more (.c0 ⟨(A.l m.2.2.2.2.2.2.2),m,c,mode,m,c,m,c,0,m,mode,c⟩ 0)))
def D3(A:bg):Hu→LT Int Hu
 | .c0 p a1=>.br (A.c .lss a1 p.a0) (.need (A.k Ez (p.a7,p.a8,a1)) (.br (A.k E5 (p.a7,p.a8,a1)) (.br (A.c .eql a1 p.dR) (.ret a1) (.more (.c0 p (A.b .add .i64 a1 1)))) (.more (.c0 p (A.b .add .i64 a1 1))))) (.ret (-1))
def Cw(m:au)(c:eF)(k:Int):Int:=bif decide (iA m c=0)&&oI m c k then k else -1
theorem E6{p:Co}{m:au}{c:eF}{k:Int}(h0:p.a0=eY m)(h7:p.a7=m)(h8:p.a8=c)(h11:p.dR=k)(h:iA m c=0):∀(j i:Nat),m.2.2.2.2.2.2.2.length-i=j→i≤m.2.2.2.2.2.2.2.length→aC (D3 ai) (.more (.c0 p (i:Int))) (bif decide ((i:Int)≤k)&&oI m c k then k else -1):=by
 have hl:=(gu (oF h).1).2.1
 unfold eY at hl h0
 intro j
 induction j with
 | zero=>
   intro i hj hi
   rw[ak,D3,h0]
   refine(ah (by rw[al];exact decide_eq_false (by omega))).2 (ao ?_ (.ret _))
   by_cases hk:(i:Int)≤k
   ·rw[oI,decide_eq_false (show ¬(0≤k∧k<eY m) by unfold eY;omega),Bool.false_and,Bool.and_false];rfl
   ·rw[decide_eq_false hk];rfl
 | succ j ih=>
   intro i hj hi
   rw[ak,D3,h0,h7,h8,h11]
   refine(aj (by rw[al];exact decide_eq_true (by omega))).2 (af.2 ⟨by rw[ap];exact decide_eq_true h,?_⟩)
   rw[show ai.k E5 (m,c,(i:Int))=oI m c i from rfl,cK (i:=i) (by omega)]
   have hn:=ih (i+1) (by omega) (by omega)
   cases hm:oI m c i
   ·refine(ah rfl).2 (ao ?_ hn)
    by_cases hk:(i:Int)=k
    ·rw[←hk,hm,Bool.and_false,Bool.and_false]
    ·rw[show decide (((i+1:Nat):Int)≤k)=decide ((i:Int)≤k) by rw[Bool.eq_iff_iff];simp;omega]
   ·refine(aj rfl).2 (ax (p:=(i:Int)=k) aT (fun hk=>?_) fun hk=>?_)
    ·exact ao (by rw[←hk,hm,decide_eq_true (Int.le_refl _)];rfl) (.ret _)
    ·exact ao (by rw[show decide (((i+1:Nat):Int)≤k)=decide ((i:Int)≤k) by rw[Bool.eq_iff_iff];simp;omega]) hn
theorem T4{m:au}{c:eF}{k:Int}:aC (D3 ai) (JY ai m c k) (Cw m c k):=by
 unfold JY Cw
 refine af.2 ⟨rfl,?_⟩
 rw[show ai.k vC (m,c)=iA m c from rfl]
 by_cases h:iA m c=0
 ·rw[decide_eq_true h]
  refine(ah (xt h)).2 (ao ?_ (E6 (p:=⟨eY m,m,c,k,m,c,m,c,0,m,k,c⟩) (k:=k) rfl rfl rfl rfl h m.2.2.2.2.2.2.2.length 0 rfl (by omega)))
  by_cases hk:0≤k
  ·rw[show decide (((0:Nat):Int)≤k)=true from decide_eq_true hk]
  ·rw[oI,decide_eq_false (show ¬(0≤k∧k<eY m) by omega),Bool.false_and,Bool.and_false,Bool.and_false]
 ·rw[decide_eq_false h]
  exact(aj (oo h)).2 (.ret _)
def Ce:(au×eF×Int)→Int:=fun(m,c,k)=>Cw m c k
def OC:aB:=⟨[bW,sM,yI], [yI],(@tt (au×eF×Int)),Ce⟩
theorem O5:Sd 212 OC:=aH ar cO true 53 [⟨252,2, [[0,1,2,11,12], [6]]⟩] [] (fun A (m,c,mode)=>JY A m c mode) D3 KQ (fc Tryz.func212 (fc Tryz.func238 (fc Tryz.func252 fz))) (sc Im (sc Nu sz)) (fun A y=>match y with |.c0 p a1=>⟨55,by kernel_rfl,by kernel_rfl⟩) fun(m,c,mode) hp h=>T4
def LD(A:bg)(m:au)(c:eF)(req:Int):LT (eF×Int) Empty:=.need (A.k (@tt (au×eF)) (m,c)) (.br (A.c .neq (A.k vC (m,c)) 0) (.ret ((0,0,0,0,0),(A.k vC (m,c)))) (.br (A.c .lss req 0) (.ret ((0,0,0,0,0),100)) (.br (A.c .gtr req (A.l m.2.2.2.2.2.2.2)) (.ret ((0,0,0,0,0),100)) (.br (A.c .gtr req 0) (.need (A.k (@tt (au×eF×Int)) (m,c,(A.b .sub .i64 req 1))) (.br (A.c .geq (A.k Ce (m,c,(A.b .sub .i64 req 1))) 0) (.ret ((c.1,c.2.1,c.2.2.1,req,c.2.2.2.2),0)) (.ret (c,0)))) (.ret (c,0))))))
def yV(m:au)(c:eF)(r:Int):eF×Int:=bif decide (iA m c=0) then(bif decide (0≤r∧r≤eY m) then(bif decide (0<r)&&oI m c (r-1) then((c.1,c.2.1,c.2.2.1,r,c.2.2.2.2),0) else(c,0)) else((0,0,0,0,0),100)) else((0,0,0,0,0),iA m c)
theorem U9{m:au}{c:eF}{r:Int}:aC Empty.elim (LD ai m c r) (yV m c r):=by
 unfold LD yV
 refine af.2 ⟨rfl,?_⟩
 rw[show ai.k vC (m,c)=iA m c from rfl,show ai.k Ce (m,c,(ai.b .sub .i64 r 1))=Cw m c (ai.b .sub .i64 r 1) from rfl]
 by_cases h:iA m c=0
 ·have hl:=(gu (oF h).1).2.1
  rw[decide_eq_true h]
  refine(ah (xt h)).2 (ax (p:=r<0) rfl (fun h1=>?_) fun h1=>ax (p:=eY m<r) rfl (fun h2=>?_) fun h2=>?_)
  ·exact ao (by rw[decide_eq_false (by omega)];rfl) (.ret _)
  ·exact ao (by rw[decide_eq_false (by omega)];rfl) (.ret _)
  ·rw[decide_eq_true (show 0≤r∧r≤eY m by omega),bH,gh (by omega) (by omega)]
   refine ax (p:=0<r) rfl (fun h3=>af.2 ⟨rfl,?_⟩) fun h3=>?_
   ·rw[decide_eq_true h3,Cw,decide_eq_true h,Bool.true_and]
    cases hm:oI m c (r-1)
    ·exact(ah rfl).2 (.ret _)
    ·exact(aj (by rw[cond_true,aK];exact decide_eq_true (by omega))).2 (.ret _)
   ·exact ao (by rw[decide_eq_false h3];rfl) (.ret _)
 ·rw[decide_eq_false h]
  exact(aj (oo h)).2 (.ret _)
def yh:(au×eF×Int)→(eF×Int):=fun(m,c,k)=>yV m c k
def Qr:aB:=⟨[bW,sM,yI], [sM,yI],(@tt (au×eF×Int)),yh⟩
theorem ME:Sd 167 Qr:=aG ar cO true 69 [] (fun A (m,c,req)=>LD A m c req) (fc Tryz.func167 fz) (sc Im (sc O5 sz)) fun(m,c,req) hp h=>U9
open Go.Ev.Pl
def KD(A:bg)(m:au)(node:Int):LT Int Empty:=.need (A.k (@tt au) m) (.br (A.c .neq (A.k jH m) 0) (.ret (A.k jH m)) (.need (A.k (@tt (Int×Int×Int)) (node,0,(A.b .sub .i64 m.1 1))) (.br (A.not (A.k dh (node,0,(A.b .sub .i64 m.1 1)))) (.ret 2) (.ret 0))))
theorem rC{α:Type}{l:List α}{i n:Int}(e:(l.length:Int)=n)(h0:0≤i)(h1:i<n):ai.and (ai.c .leq 0 i) (ai.c .lss i (ai.l l))=true:=nz h0 (e▸h1)
def fV(m:au)(n:Int):Int:=bif dY m then(bif decide (0≤n∧n≤m.1-1) then 0 else 2) else 70
theorem vu{m:au}{n:Int}(h:fV m n=0):dY m=true∧0≤n∧n≤m.1-1:=by
 unfold fV at h
 cases hm:dY m
 ·rw[hm,cond_false] at h;exact absurd h (by decide)
 ·by_cases hn:0≤n∧n≤m.1-1
  ·exact⟨rfl,hn⟩
  ·rw[hm,decide_eq_false hn,cond_true,cond_false] at h;exact absurd h (by decide)
theorem JJ{m:au}{n:Int}:aC Empty.elim (KD ai m n) (fV m n):=by
 unfold KD fV
 refine af.2 ⟨rfl,?_⟩
 rw[show ai.k jH m=fU m from rfl,fU]
 cases hm:dY m
 ·exact(aj rfl).2 (.ret _)
 have hl:=(gu hm).1
 rw[bH,gh (by omega) (by omega)]
 refine(ah rfl).2 (af.2 ⟨rfl,dB (fun h=>?_) fun h=>?_⟩)
 ·exact ao (by rw[decide_eq_false h];rfl) (.ret _)
 ·exact ao (by rw[decide_eq_true h];rfl) (.ret _)
def uF:(au×Int)→Int:=fun(m,n)=>fV m n
def SA:aB:=⟨[bW,yI], [yI],(@tt (au×Int)),uF⟩
theorem IA:Sd 186 SA:=aG ar cO true 41 [] (fun A (m,node)=>KD A m node) (fc Tryz.func186 fz) (sc Am (sc xv sz)) fun(m,node) hp h=>JJ
def K2(A:bg)(m:au)(n:Int):LT Int Empty:=.need (A.k (@tt au) m) (.br (A.c .neq (A.k mo m) 0) (.ret (A.k mo m)) (.br (A.c .lss n 0) (.ret 2) (.br (A.c .geq n m.1) (.ret 2) (.ret 0))))
theorem Ke{m:au}{n:Int}:aC Empty.elim (K2 ai m n) (fV m n):=by
 unfold K2 fV
 refine af.2 ⟨rfl,?_⟩
 rw[show ai.k mo m=fU m from rfl,fU]
 cases hm:dY m
 ·exact(aj rfl).2 (.ret _)
 refine(ah rfl).2 (ax (p:=n<0) rfl (fun h=>?_) fun h1=>ax (p:=m.1≤n) rfl (fun h=>?_) fun h2=>?_)
 ·exact ao (by rw[decide_eq_false (by omega)];rfl) (.ret _)
 ·exact ao (by rw[decide_eq_false (by omega)];rfl) (.ret _)
 ·exact ao (by rw[decide_eq_true (by omega)];rfl) (.ret _)
def DW:(au×Int)→Int:=fun(m,n)=>fV m n
def O1:aB:=⟨[bW,yI], [yI],(@tt (au×Int)),DW⟩
theorem M5:Sd 155 O1:=aG ar cO true 43 [] (fun A (m,n)=>K2 A m n) (fc Tryz.func155 fz) (sc D5 sz) fun(m,n) hp h=>Ke
def KE(A:bg)(m:au)(node:Int):LT (Int×Int) Empty:=.need (A.k (@tt (au×Int)) (m,node)) (.br (A.c .neq (A.k uF (m,node)) 0) (.ret (0,(A.k uF (m,node)))) (.ret ((A.b .mul .i64 2 (A.b .add .i64 node 1)),0)))
def DI(m:au)(n:Int):Int×Int:=bif decide (fV m n=0) then((ai.b .mul .i64 2 (ai.b .add .i64 n 1)),0) else(0,fV m n)
theorem Q8{m:au}{n:Int}:aC Empty.elim (KE ai m n) (DI m n):=by
 unfold KE DI
 refine af.2 ⟨rfl,ax (p:=¬fV m n=0) aY (fun h=>?_) fun h=>?_⟩
 ·exact ao (by rw[decide_eq_false h];rfl) (.ret _)
 ·exact ao (by rw[decide_eq_true (by omega)];rfl) (.ret _)
def xZ:(au×Int)→(Int×Int):=fun(m,n)=>DI m n
def Sl:aB:=⟨[bW,yI], [yI,yI],(@tt (au×Int)),xZ⟩
theorem SY:Sd 125 Sl:=aG ar cO true 35 [] (fun A (m,node)=>KE A m node) (fc Tryz.func125 fz) (sc IA sz) fun(m,node) hp h=>Q8
def JA(A:bg)(m:au)(n:Int):LT (Int×Int) Empty:=.need (A.k (@tt (au×Int)) (m,n)) (.br (A.c .neq (A.k DW (m,n)) 0) (.ret (0,(A.k DW (m,n)))) (.ret ((A.b .add .i64 (A.b .mul .i64 4 m.1) (A.b .mul .i64 2 (A.b .add .i64 n 1))),0)))
def tq(m:au)(n:Int):Int×Int:=bif decide (fV m n=0) then((ai.b .add .i64 (ai.b .mul .i64 4 m.1) (ai.b .mul .i64 2 (ai.b .add .i64 n 1))),0) else(0,fV m n)
theorem Ql{m:au}{n:Int}:aC Empty.elim (JA ai m n) (tq m n):=by
 unfold JA tq
 refine af.2 ⟨rfl,ax (p:=¬fV m n=0) aY (fun h=>?_) fun h=>?_⟩
 ·exact ao (by rw[decide_eq_false h];rfl) (.ret _)
 ·exact ao (by rw[decide_eq_true (by omega)];rfl) (.ret _)
def zU:(au×Int)→(Int×Int):=fun(m,n)=>tq m n
def RD:aB:=⟨[bW,yI], [yI,yI],(@tt (au×Int)),zU⟩
theorem IL:Sd 78 RD:=aG ar cO true 39 [] (fun A (m,n)=>JA A m n) (fc Tryz.func78 fz) (sc M5 sz) fun(m,n) hp h=>Ql
def Kj(A:bg)(m:au)(node:Int):LT (Int×Int) Empty:=.need (A.k (@tt (au×Int)) (m,node)) (.br (A.c .neq (A.k xZ (m,node)).2 0) (.ret (0,(A.k xZ (m,node)).2)) (.ret ((A.b .add .i64 (A.b .mul .i64 4 m.1) (A.k xZ (m,node)).1),0)))
theorem Sm{m:au}{n:Int}:aC Empty.elim (Kj ai m n) (tq m n):=by
 unfold Kj tq
 refine af.2 ⟨rfl,?_⟩
 rw[show ai.k xZ (m,n)=DI m n from rfl,DI]
 by_cases h:fV m n=0
 ·rw[decide_eq_true h];exact(ah rfl).2 (.ret _)
 ·rw[decide_eq_false h];exact(aj (oo h)).2 (.ret _)
def Ic:(au×Int)→(Int×Int):=fun(m,n)=>tq m n
def Pj:aB:=⟨[bW,yI], [yI,yI],(@tt (au×Int)),Ic⟩
theorem Pp:Sd 93 Pj:=aG ar cO true 41 [] (fun A (m,node)=>Kj A m node) (fc Tryz.func93 fz) (sc SY sz) fun(m,node) hp h=>Sm
def Ku(A:bg)(m:au)(mode:Int)(node:Int):LT (Int×Int) Empty:=.need (A.k (@tt (au×Int)) (m,node)) (.br (A.c .neq (A.k uF (m,node)) 0) (.ret (0,(A.k uF (m,node)))) (.need (A.k (@tt (Int×Int×Int)) (mode,0,(A.b .sub .i64 (A.l m.2.2.2.2.2.2.2) 1))) (.br (A.not (A.k dh (mode,0,(A.b .sub .i64 (A.l m.2.2.2.2.2.2.2) 1)))) (.ret (0,2)) (.need (A.and (A.c .leq 0 mode) (A.c .lss mode (A.l m.2.2.2.2.2.2.2))) (.need (A.and (A.c .leq 0 node) (A.c .lss node (A.l (A.n bi m.2.2.2.2.2.2.2 mode:Mode).2.1))) (.need (A.and (A.c .leq 0 node) (A.c .lss node (A.l (A.n bi m.2.2.2.2.2.2.2 mode:Mode).1))) (.need (A.k (@tt (Bool×Int)) ((A.n .bool (A.n bi m.2.2.2.2.2.2.2 mode:Mode).2.1 node:Bool),(A.n yI (A.n bi m.2.2.2.2.2.2.2 mode:Mode).1 node:Int))) (.ret ((A.k iB ((A.n .bool (A.n bi m.2.2.2.2.2.2.2 mode:Mode).2.1 node:Bool),(A.n yI (A.n bi m.2.2.2.2.2.2.2 mode:Mode).1 node:Int))),0)))))))))
def iY(m:au)(k n:Int):Int×Int:=bif decide (fV m n=0) then(bif decide (0≤k∧k≤eY m-1) then(iB ((ai.n .bool (ai.n bi m.2.2.2.2.2.2.2 k:Mode).2.1 n:Bool),(ai.n (.int .i64) (ai.n bi m.2.2.2.2.2.2.2 k:Mode).1 n:Int)),0) else(0,2)) else(0,fV m n)
theorem Jk{m:au}{k n:Int}:aC Empty.elim (Ku ai m k n) (iY m k n):=by
 unfold Ku iY
 refine af.2 ⟨rfl,?_⟩
 rw[show ai.k uF (m,n)=fV m n from rfl]
 by_cases h:fV m n=0
 ·obtain⟨hm,h1,h2⟩:=vu h
  have hl:=(gu hm).2.1
  rw[decide_eq_true h]
  have e:ai.b .sub .i64 (eY m) 1=eY m-1:=by rw[bH,gh (by omega) (by omega)]
  rw[show ai.b .sub .i64 (ai.l m.2.2.2.2.2.2.2) 1=eY m-1 from e]
  refine(ah (xt h)).2 (af.2 ⟨rfl,dB (fun h3=>?_) fun h3=>?_⟩)
  ·exact ao (by rw[decide_eq_false h3];rfl) (.ret _)
  ·have hx:=oV (wh hm h3.1 (show k<eY m by omega))
   refine af.2 ⟨nz h3.1 (show k<eY m by omega),af.2 ⟨rC hx.2.1 h1 (by omega),af.2 ⟨rC hx.1 h1 (by omega),af.2 ⟨rfl,?_⟩⟩⟩⟩
   exact ao (by rw[decide_eq_true h3];rfl) (.ret _)
 ·rw[decide_eq_false h];exact(aj (oo h)).2 (.ret _)
def mF:(au×Int×Int)→(Int×Int):=fun(m,c,k)=>iY m c k
def QK:aB:=⟨[bW,yI,yI], [yI,yI],(@tt (au×Int×Int)),mF⟩
theorem Np:Sd 162 QK:=aG ar cO true 66 [] (fun A (m,mode,node)=>Ku A m mode node) (fc Tryz.func162 fz) (sc xv (sc Ib (sc IA sz))) fun(m,mode,node) hp h=>Jk
def Cq(c:eF)(n:Int):eF×Int:=bif decide (jF (c,n)=0) then(bif decide (c.2.1+1=n) then(bif decide (c.2.2.2.1=0) then(((c.1+1).tmod 256,0,c.2.2),0) else(((c.1+1).tmod 256,0,c.2.2.2.1-1,0,c.2.2.2.2),0)) else((c.1,c.2.1+1,c.2.2),0)) else((0,0,0,0,0),jF (c,n))
def Lt(A:bg)(node:Int):LT Int Empty:=.br (A.c .lss node 0) (.ret 0) (.br (A.c .geq node 8) (.ret 0) (.need (A.c .leq 0 node) (.ret (A.b .shl .i64 1 node))))
def D_(n:Int):Int:=bif decide (0≤n∧n≤7) then ai.b .shl .i64 1 n else 0
theorem VA{n:Int}:aC Empty.elim (Lt ai n) (D_ n):=by
 unfold Lt D_
 refine ax (p:=n<0) rfl (fun h=>?_) fun h1=>ax (p:=8≤n) rfl (fun h=>?_) fun h2=>af.2 ⟨decide_eq_true (by omega),?_⟩
 ·exact ao (by rw[decide_eq_false (by omega)];rfl) (.ret _)
 ·exact ao (by rw[decide_eq_false (by omega)];rfl) (.ret _)
 ·exact ao (by rw[decide_eq_true (by omega)];rfl) (.ret _)
def EP:Int→Int:=D_
def Qq:aB:=⟨[yI], [yI],(@tt Int),EP⟩
theorem O0:Sd 225 Qq:=aG ar cO true 28 [] (fun A node=>Lt A node) (fc Tryz.func225 fz) sz fun node hp h=>VA
def JE(A:bg)(c:eF)(node:Int):LT Bool Empty:=.need (A.k (@tt Int) node) (.ret (A.c .neq (A.b .and .i64 c.2.2.2.2 (A.k EP node)) 0))
theorem UT{x:Int}:ai.b .and .i64 x 0=0:=by
 show IntKind.i64.wrap (((BitVec.ofInt 64 x &&& BitVec.ofInt 64 0).toNat:Nat):Int)=0
 rw[show BitVec.ofInt 64 0=0#64 from rfl,BitVec.and_zero];rfl
def AT(c:eF)(n:Int):Bool:=bif decide (0≤n∧n≤7) then ai.c .neq (ai.b .and .i64 c.2.2.2.2 (ai.b .shl .i64 1 n)) 0 else false
theorem Ro{c:eF}{n:Int}:aC Empty.elim (JE ai c n) (AT c n):=by
 unfold JE AT
 refine af.2 ⟨rfl,ao ?_ (.ret _)⟩
 rw[show ai.k EP n=D_ n from rfl,D_]
 cases decide (0≤n∧n≤7)
 ·rw[cond_false,cond_false,UT];rfl
 ·rfl
def Cm:(eF×Int)→Bool:=fun(m,c)=>AT m c
def Pz:aB:=⟨[sM,yI], [.bool],(@tt (eF×Int)),Cm⟩
theorem Of:Sd 194 Pz:=aG ar cO true 21 [] (fun A (c,node)=>JE A c node) (fc Tryz.func194 fz) (sc O0 sz) fun(c,node) hp h=>Ro
def F5(A:bg)(m:au)(id:Int):LT Int Empty:=.need (A.k (@tt (au×Int)) (m,id)) (.ret (A.k Ic (m,id)).1)
def vz:(au×Int)→Int:=fun(m,id)=>(F5 ai m id).val (Ty.da [yI])
def Oc:aB:=⟨[bW,yI], [yI],(@tt (au×Int)),vz⟩
theorem Fu:Sd 70 Oc:=aJ ar cO true 27 [] (fun A (m,id)=>F5 A m id) (fc Tryz.func70 fz) (sc Pp sz) (fun((m,id):au×Int) hp h=>by
 show(F5 ai m id).pre=true
 simp[F5,LT.pre,ap,dI])
open Go.Ev.Pl
def Gw(A:bg)(n:Int)(least:Int)(most:Int):LT Bool Empty:=.br (A.c .geq n least) (.ret (A.c .leq n most)) (.ret false)
def nM:(Int×Int×Int)→Bool:=fun(n,least,most)=>(Gw ai n least most).val (Ty.da [.bool])
def Q0:aB:=⟨[yI,yI,yI], [.bool],(@tt (Int×Int×Int)),nM⟩
theorem zW:Sd 66 Q0:=aJ ar cO true 22 [] (fun A (n,least,most)=>Gw A n least most) (fc Tryz.func66 fz) sz (fun((n,least,most):Int×Int×Int) hp h=>by
 show(Gw ai n least most).pre=true
 simp[Gw,LT.pre,ap,dI])
def Jn(A:bg)(n:Node):LT Bool Empty:=.need (A.k (@tt (Int×Int×Int)) (n.2.1,2,4)) (.ret (A.k nM (n.2.1,2,4)))
theorem ye:nM=dh:=rfl
def ul(n:Node):Bool:=decide (2≤n.2.1∧n.2.1≤4)
theorem T_{n:Node}:aC Empty.elim (Jn ai n) (ul n):=by
 unfold Jn ul
 exact af.2 ⟨rfl,ao (by rw[ye,ap,iK,Bool.eq_iff_iff];simp) (.ret _)⟩
def mA:Node→Bool:=ul
def OM:aB:=⟨[du], [.bool],(@tt Node),mA⟩
theorem Dd:Sd 22 OM:=aG ar cO true 18 [] (fun A n=>Jn A n) (fc Tryz.func22 fz) (sc zW sz) fun n hp h=>T_
def LJ(A:bg)(n:Node):LT Bool Empty:=.br (A.c .geq n.2.1 2) (.ret (A.c .leq n.2.1 4)) (.ret false)
theorem T7{n:Node}:aC Empty.elim (LJ ai n) (ul n):=by
 unfold LJ ul
 refine ax (p:=2≤n.2.1) rfl (fun h=>?_) fun h=>?_
 ·exact ao (by rw[aF,Bool.eq_iff_iff];simp;omega) (.ret _)
 ·exact ao (decide_eq_false (by omega)).symm (.ret _)
def qj:Node→Bool:=ul
def RJ:aB:=⟨[du], [.bool],(@tt Node),qj⟩
theorem Dq:Sd 23 RJ:=aG ar cO true 23 [] (fun A n=>LJ A n) (fc Tryz.func23 fz) sz fun n hp h=>T7
def LM(A:bg)(m:au)(n:Node):LT Bool Empty:=.need (A.k (@tt Node) n) (.br (A.not (A.k qj n)) (.br (A.and (A.c .eql n.2.2.1.1 0) (A.and (A.c .eql n.2.2.1.2.1 0) (A.and (A.c .eql n.2.2.1.2.2.1 0) (A.and (A.c .eql n.2.2.1.2.2.2.1 0) (A.and (A.c .eql n.2.2.1.2.2.2.2 0) true))))) (.ret (A.and (A.c .eql n.2.2.2.1.1 0) (A.and (A.c .eql n.2.2.2.1.2.1 0) (A.and (A.c .eql n.2.2.2.1.2.2.1 0) (A.and (A.c .eql n.2.2.2.1.2.2.2.1 0) (A.and (A.c .eql n.2.2.2.1.2.2.2.2.1 0) (A.and (A.c .eql n.2.2.2.1.2.2.2.2.2.1 0) (A.and (A.c .eql n.2.2.2.1.2.2.2.2.2.2 0) true)))))))) (.ret false)) (.need (A.k (@tt (au×eF)) (m,n.2.2.1)) (.br (A.k Cv (m,n.2.2.1)) (.need (A.k (@tt ((Int×Int×Int×Int×Int×Int×Int))) n.2.2.2.1) (.br (A.c .eql (A.k uA n.2.2.2.1) 0) (.br (A.c .eql n.2.2.2.1.1 n.1) (.br (A.c .eql n.2.2.2.1.2.1 m.1) (.ret (A.c .eql n.2.2.1.2.2.2.2 n.2.2.2.1.2.2.1)) (.ret false)) (.ret false)) (.ret false))) (.ret false))))
def xJ(c:eF):Bool:=ai.and (ai.c .eql c.1 0) (ai.and (ai.c .eql c.2.1 0) (ai.and (ai.c .eql c.2.2.1 0) (ai.and (ai.c .eql c.2.2.2.1 0) (ai.and (ai.c .eql c.2.2.2.2 0) true))))
def zeroV(v:B9):Bool:=ai.and (ai.c .eql v.1 0) (ai.and (ai.c .eql v.2.1 0) (ai.and (ai.c .eql v.2.2.1 0) (ai.and (ai.c .eql v.2.2.2.1 0) (ai.and (ai.c .eql v.2.2.2.2.1 0) (ai.and (ai.c .eql v.2.2.2.2.2.1 0) (ai.and (ai.c .eql v.2.2.2.2.2.2 0) true))))))
def pN(m:au)(n:Node):Bool:=bif ul n then(gB m n.2.2.1&&(decide (uA n.2.2.2.1=0)&&(decide (n.2.2.2.1.1=n.1)&&(decide (n.2.2.2.1.2.1=m.1)&&decide (n.2.2.1.2.2.2.2=n.2.2.2.1.2.2.1))))) else(xJ n.2.2.1&&zeroV n.2.2.2.1)
theorem VK{m:au}{n:Node}:aC Empty.elim (LM ai m n) (pN m n):=by
 unfold LM pN
 refine af.2 ⟨rfl,?_⟩
 rw[show ai.k qj n=ul n from rfl]
 cases ul n
 ·refine(aj rfl).2 ?_
  rw[cond_false]
  cases hz:xJ n.2.2.1
  ·exact(ah hz).2 (.ret _)
  ·exact(aj hz).2 (.ret _)
 ·refine(ah rfl).2 (af.2 ⟨rfl,?_⟩)
  rw[show ai.k Cv (m,n.2.2.1)=gB m n.2.2.1 from rfl,cond_true]
  cases gB m n.2.2.1
  ·exact(ah rfl).2 (.ret _)
  ·refine(aj rfl).2 (af.2 ⟨rfl,ax (p:=uA n.2.2.2.1=0) aT (fun h1=>ax (p:=n.2.2.2.1.1=n.1) aT (fun h2=>ax (p:=n.2.2.2.1.2.1=m.1) aT (fun h3=>?_) fun h=>?_) fun h=>?_) fun h=>?_⟩)
   ·exact ao (by rw[decide_eq_true h1,decide_eq_true h2,decide_eq_true h3,aT];rfl) (.ret _)
   ·exact ao (by rw[decide_eq_true h1,decide_eq_true h2,decide_eq_false h];rfl) (.ret _)
   ·exact ao (by rw[decide_eq_true h1,decide_eq_false h];rfl) (.ret _)
   ·exact ao (by rw[decide_eq_false h];rfl) (.ret _)
def EM:(au×Node)→Bool:=fun(m,n)=>pN m n
def O_:aB:=⟨[bW,du], [.bool],(@tt (au×Node)),EM⟩
theorem O4:Sd 72 O_:=aG ar cO true 60 [] (fun A (m,n)=>LM A m n) (fc Tryz.func72 fz) (sc Ti (sc Dq (sc Pe sz))) fun(m,n) hp h=>VK
def Kg(A:bg)(m:au)(n:Node):LT Bool Empty:=.br (A.c .neq n.2.1 1) (.ret (A.c .eql n.2.2.2.2.1 0)) (.need (A.k (@tt (au×Int)) (m,n.1)) (.br (A.c .geq n.2.2.2.2.1 1) (.ret (A.c .leq n.2.2.2.2.1 (A.k zU (m,n.1)).1)) (.ret false)))
def pM(m:au)(n:Node):Bool:=bif decide (n.2.1=1) then decide (1≤n.2.2.2.2.1∧n.2.2.2.2.1≤(tq m n.1).1) else decide (n.2.2.2.2.1=0)
theorem Vr{m:au}{n:Node}:aC Empty.elim (Kg ai m n) (pM m n):=by
 unfold Kg pM
 refine ax (p:=¬n.2.1=1) aY (fun h=>?_) fun h=>af.2 ⟨rfl,?_⟩
 ·exact ao (by rw[decide_eq_false h,aT];rfl) (.ret _)
 ·rw[decide_eq_true (show n.2.1=1 by omega),show ai.k zU (m,n.1)=tq m n.1 from rfl,cond_true]
  refine ax (p:=1≤n.2.2.2.2.1) rfl (fun h1=>?_) fun h1=>?_
  ·exact ao (by rw[aF,Bool.eq_iff_iff];simp;omega) (.ret _)
  ·exact ao (decide_eq_false (by omega)).symm (.ret _)
def Dy:(au×Node)→Bool:=fun(m,n)=>pM m n
def Ov:aB:=⟨[bW,du], [.bool],(@tt (au×Node)),Dy⟩
theorem OP:Sd 73 Ov:=aG ar cO true 46 [] (fun A (m,n)=>Kg A m n) (fc Tryz.func73 fz) (sc IL sz) fun(m,n) hp h=>Vr
def KT(A:bg)(m:au)(n:Node):LT Int Empty:=.need (A.k (@tt au) m) (.br (A.c .neq (A.k mo m) 0) (.ret (A.k mo m)) (.br (A.c .lss n.1 0) (.ret 180) (.br (A.c .geq n.1 m.1) (.ret 180) (.br (A.c .lss n.2.1 0) (.ret 180) (.br (A.c .gtr n.2.1 5) (.ret 180) (.br (A.c .lss n.2.2.2.2.2.2.1 0) (.ret 180) (.br (A.c .gtr n.2.2.2.2.2.2.1 2) (.ret 180) (.need (A.k (@tt bP) n.2.2.2.2.2.2.2) (.br (A.c .neq (A.k kP n.2.2.2.2.2.2.2) 0) (.ret 180) (.br (A.c .neq n.2.2.2.2.2.2.2.1 n.1) (.ret 180) (.br (A.c .neq (A.l n.2.2.2.2.2.2.2.2.2.1) m.1) (.ret 180) (.br (A.c .eql n.2.1 2) (.need (A.and (A.c .leq 0 n.1) (A.c .lss n.1 (A.l m.2.2.2.2.2.2.1))) (.br (A.not (A.n .bool m.2.2.2.2.2.2.1 n.1:Bool)) (.ret 180) (.need (A.k (@tt (au×Node)) (m,n)) (.br (A.not (A.k EM (m,n))) (.ret 180) (.need (A.k (@tt (au×Node)) (m,n)) (.br (A.not (A.k Dy (m,n))) (.ret 180) (.br n.2.2.2.2.2.1 (.br (A.c .neq n.2.1 1) (.br (A.c .neq n.2.1 2) (.ret 180) (.ret 0)) (.ret 0)) (.ret 0)))))))) (.need (A.k (@tt (au×Node)) (m,n)) (.br (A.not (A.k EM (m,n))) (.ret 180) (.need (A.k (@tt (au×Node)) (m,n)) (.br (A.not (A.k Dy (m,n))) (.ret 180) (.br n.2.2.2.2.2.1 (.br (A.c .neq n.2.1 1) (.br (A.c .neq n.2.1 2) (.ret 180) (.ret 0)) (.ret 0)) (.ret 0))))))))))))))))))
def yH(m:au)(n:Node):Bool:=bif decide (n.2.1=2) then(ai.n .bool m.2.2.2.2.2.2.1 n.1:Bool) else true
def vN(n:Node):Bool:=bif n.2.2.2.2.2.1 then decide (n.2.1=1∨n.2.1=2) else true
def yY(m:au)(n:Node):Bool:=decide (0≤n.1∧n.1≤m.1-1)&&(decide (0≤n.2.1∧n.2.1≤5)&&(decide (0≤n.2.2.2.2.2.2.1∧n.2.2.2.2.2.2.1≤2)&&(dK n.2.2.2.2.2.2.2&&(decide (n.2.2.2.2.2.2.2.1=n.1)&&(decide ((n.2.2.2.2.2.2.2.2.2.1.length:Int)=m.1)&&(yH m n&&(pN m n&&(pM m n&&vN n))))))))
def fw(m:au)(n:Node):Int:=bif dY m then(bif yY m n then 0 else 180) else 70
theorem jm{m:au}{n:Node}:yY m n=true↔(0≤n.1∧n.1≤m.1-1)∧(0≤n.2.1∧n.2.1≤5)∧(0≤n.2.2.2.2.2.2.1∧n.2.2.2.2.2.2.1≤2)∧dK n.2.2.2.2.2.2.2=true∧n.2.2.2.2.2.2.2.1=n.1∧(n.2.2.2.2.2.2.2.2.2.1.length:Int)=m.1∧yH m n=true∧pN m n=true∧pM m n=true∧vN n=true:=by
 unfold yY;simp only[Bool.and_eq_true,decide_eq_true_eq]
theorem ie{m:au}{n:Node}(h:fw m n=0):dY m=true∧yY m n=true:=by
 unfold fw at h
 cases hm:dY m
 ·rw[hm,cond_false] at h;exact absurd h (by decide)
 ·cases hn:yY m n
  ·rw[hm,hn,cond_true,cond_false] at h;exact absurd h (by decide)
  ·exact⟨rfl,rfl⟩
section
variable {R Y:Type} {step:Y→LT R Y} {e:LT R Y} {x y:R} {G:Bool}
theorem eX{p:Prop}[Decidable p]{b:Bool}(hb:b=decide p)(h:G=true→¬p)(he:¬p→aC step e (bif G then x else y)):aC step (.br b (.ret y) e) (bif G then x else y):=by
 refine ax hb (fun hp=>?_) he
 cases G
 ·exact .ret _
 ·exact absurd hp (h rfl)
theorem l8{b:Bool}(h:G=true→b=true)(he:b=true→aC step e (bif G then x else y)):aC step (.br (ai.not b) (.ret y) e) (bif G then x else y):=by
 cases b
 ·cases G
  ·exact(aj rfl).2 (.ret _)
  ·exact absurd (h rfl) (by decide)
 ·exact(ah rfl).2 (he rfl)
theorem rE{u a b:Int}(h:G=true→a≤u∧u≤b)(he:a≤u∧u≤b→aC step e (bif G then x else y)):aC step (.br (ai.not (ai.k dh (u,a,b))) (.ret y) e) (bif G then x else y):=by
 refine dB (fun hp=>?_) he
 cases G
 ·exact .ret _
 ·exact absurd (h rfl) hp
theorem wP(h:G=true):aC step (.ret x) (bif G then x else y):=ao (by rw[h];rfl) (.ret _)
end
theorem IE{Y:Type}{step:Y→LT Int Y}{n:Node}{G:Bool}(h1:G=true→vN n=true)(h2:vN n=true→G=true):aC step (.br n.2.2.2.2.2.1 (.br (ai.c .neq n.2.1 1) (.br (ai.c .neq n.2.1 2) (.ret 180) (.ret 0)) (.ret 0)) (.ret 0)) (bif G then 0 else 180):=by
 unfold vN at h1 h2
 cases hb:n.2.2.2.2.2.1
 ·rw[hb] at h1 h2
  exact(ah rfl).2 (wP (h2 rfl))
 ·rw[hb] at h1 h2
  simp only[cond_true,decide_eq_true_eq] at h1 h2
  refine(aj rfl).2 (ax (p:=¬n.2.1=1) aY (fun h=>eX (p:=¬n.2.1=2) aY (fun g=>?_) fun g=>?_) fun h=>?_)
  ·have:=h1 g;omega
  ·exact wP (h2 (by omega))
  ·exact wP (h2 (by omega))
theorem E7{R Y:Type}{step:Y→LT R Y}{m:au}{n:Node}{G:Bool}{e:LT R Y}{x y:R}(hm:dY m=true)(hi:0≤n.1∧n.1≤m.1-1)(h1:G=true→yH m n=true)(h2:yH m n=true→aC step e (bif G then x else y)) :
  aC step (.br (ai.c .eql n.2.1 2) (.need (ai.and (ai.c .leq 0 n.1) (ai.c .lss n.1 (ai.l m.2.2.2.2.2.2.1))) (.br (ai.not (ai.n .bool m.2.2.2.2.2.2.1 n.1:Bool)) (.ret y) e)) e) (bif G then x else y):=by
 unfold yH at h1 h2
 refine ax (p:=n.2.1=2) aT (fun h=>af.2 ⟨rC (gu hm).2.2.1 hi.1 (by omega),?_⟩) fun h=>?_
 ·rw[decide_eq_true h] at h1 h2
  exact l8 h1 h2
 ·rw[decide_eq_false h] at h2
  exact h2 rfl
theorem IY{m:au}{n:Node}:aC Empty.elim (KT ai m n) (fw m n):=by
 unfold KT fw
 refine af.2 ⟨rfl,?_⟩
 rw[show ai.k mo m=fU m from rfl,fU]
 cases hm:dY m
 ·exact(aj rfl).2 (.ret _)
 have hG:=@jm m n
 rw[cond_true]
 generalize yY m n=G at hG ⊢
 refine(ah rfl).2 (eX (p:=n.1<0) rfl (fun g=>by have:=hG.1 g;omega) fun h1=>eX (p:=m.1≤n.1) rfl (fun g=>by have:=hG.1 g;omega) fun h2=>?_)
 refine eX (p:=n.2.1<0) rfl (fun g=>by have:=hG.1 g;omega) fun h3=>eX (p:=5<n.2.1) rfl (fun g=>by have:=hG.1 g;omega) fun h4=>?_
 refine eX (p:=n.2.2.2.2.2.2.1<0) rfl (fun g=>by have:=hG.1 g;omega) fun h5=>eX (p:=2<n.2.2.2.2.2.2.1) rfl (fun g=>by have:=hG.1 g;omega) fun h6=>af.2 ⟨rfl,?_⟩
 refine eX (p:=¬jK n.2.2.2.2.2.2.2=0) aY (fun g=>not_not_intro (lN.2 (hG.1 g).2.2.2.1)) fun h7=>?_
 refine eX (p:=¬n.2.2.2.2.2.2.2.1=n.1) aY (fun g=>by have:=hG.1 g;omega) fun h8=>?_
 refine eX (p:=¬(n.2.2.2.2.2.2.2.2.2.1.length:Int)=m.1) aY (fun g=>by have:=hG.1 g;omega) fun h9=>?_
 refine E7 hm (by omega) (fun g=>(hG.1 g).2.2.2.2.2.2.1) fun hc=>af.2 ⟨rfl,l8 (b:=pN m n) (fun g=>(hG.1 g).2.2.2.2.2.2.2.1) fun hd=>af.2 ⟨rfl,l8 (b:=pM m n) (fun g=>(hG.1 g).2.2.2.2.2.2.2.2.1) fun he=>?_⟩⟩
 exact IE (fun g=>(hG.1 g).2.2.2.2.2.2.2.2.2) fun hb=>hG.2 ⟨by omega,by omega,by omega,lN.1 (Decidable.not_not.1 h7),by omega,by omega,hc,hd,he,hb⟩
def jG:(au×Node)→Int:=fun(m,n)=>fw m n
def Mc:aB:=⟨[bW,du], [yI],(@tt (au×Node)),jG⟩
theorem AF:Sd 21 Mc:=aG ar cO true 137 [] (fun A (m,n)=>KT A m n) (fc Tryz.func21 fz) (sc D5 (sc z_ (sc O4 (sc OP sz)))) fun(m,n) hp h=>IY
structure CO where
 (a0:au) (a1:Node)
structure KX where
 (b0:au) (b1:Node)
structure LG where
 (c0:Node)
inductive GF where
 | c0 (p:CO)
 | c1 (p:KX)
 | c2 (p:LG)
noncomputable def J8:GF→fE
 | .c0 p=>⟨[⟨20,160,(en [(2,.ptr 0 0),(3,.ptr 1 0)]),[.code (cw Tryz.f20 [1,1,1,0,0,0,0,0,0,0,0,0,1,0,0]),.code (cw Tryz.f20 [1,1,1,0,0,0,0,0,0,0,0,0,1,0,1]),.code (cw Tryz.f20 [1,1,1,0,0,0,0,0,0,0,0,0,1,1]),.code (.exit 3),.inBlock 4,.inBlock 5,.inBlock 6,.inBlock 7,.inBlock 8,.code (cw Tryz.f20 [1,1,1,0,0,1]),.inBlock 3,.code (cw Tryz.f20 [1,1,1,1])],[],none⟩],[.flat false [vi p.a0.1,vi p.a0.2.1,vi p.a0.2.2.1,vi p.a0.2.2.2.1,vi p.a0.2.2.2.2.1,vi p.a0.2.2.2.2.2.1,.sl .bool p.a0.2.2.2.2.2.2.1,.sl bi p.a0.2.2.2.2.2.2.2],.flat false [vi p.a1.1,vi p.a1.2.1,vi p.a1.2.2.1.1,vi p.a1.2.2.1.2.1,vi p.a1.2.2.1.2.2.1,vi p.a1.2.2.1.2.2.2.1,vi p.a1.2.2.1.2.2.2.2,vi p.a1.2.2.2.1.1,vi p.a1.2.2.2.1.2.1,vi p.a1.2.2.2.1.2.2.1,vi p.a1.2.2.2.1.2.2.2.1,vi p.a1.2.2.2.1.2.2.2.2.1,vi p.a1.2.2.2.1.2.2.2.2.2.1,vi p.a1.2.2.2.1.2.2.2.2.2.2,vi p.a1.2.2.2.2.1,vb p.a1.2.2.2.2.2.1,vi p.a1.2.2.2.2.2.2.1,vi p.a1.2.2.2.2.2.2.2.1,.sl yU p.a1.2.2.2.2.2.2.2.2.1,.sl bl p.a1.2.2.2.2.2.2.2.2.2.1,vi p.a1.2.2.2.2.2.2.2.2.2.2.1,vi p.a1.2.2.2.2.2.2.2.2.2.2.2],.dead]⟩
 | .c1 p=>⟨[⟨20,160,(en [(2,.ptr 0 0),(3,.ptr 1 0)]),[.code (cw Tryz.f20 [1,1,1,0,0,0,0,0,0,0,0,0,1,1,1,0,0]),.code (cw Tryz.f20 [1,1,1,0,0,0,0,0,0,0,0,0,1,1,1,0,1]),.code (cw Tryz.f20 [1,1,1,0,0,0,0,0,0,0,0,0,1,1,1,1]),.code (.exit 3),.inBlock 4,.inBlock 5,.inBlock 6,.inBlock 7,.inBlock 8,.code (cw Tryz.f20 [1,1,1,0,0,1]),.inBlock 3,.code (cw Tryz.f20 [1,1,1,1])],[],none⟩],[.flat false [vi p.b0.1,vi p.b0.2.1,vi p.b0.2.2.1,vi p.b0.2.2.2.1,vi p.b0.2.2.2.2.1,vi p.b0.2.2.2.2.2.1,.sl .bool p.b0.2.2.2.2.2.2.1,.sl bi p.b0.2.2.2.2.2.2.2],.flat false [vi p.b1.1,vi p.b1.2.1,vi p.b1.2.2.1.1,vi p.b1.2.2.1.2.1,vi p.b1.2.2.1.2.2.1,vi p.b1.2.2.1.2.2.2.1,vi p.b1.2.2.1.2.2.2.2,vi p.b1.2.2.2.1.1,vi p.b1.2.2.2.1.2.1,vi p.b1.2.2.2.1.2.2.1,vi p.b1.2.2.2.1.2.2.2.1,vi p.b1.2.2.2.1.2.2.2.2.1,vi p.b1.2.2.2.1.2.2.2.2.2.1,vi p.b1.2.2.2.1.2.2.2.2.2.2,vi p.b1.2.2.2.2.1,vb p.b1.2.2.2.2.2.1,vi p.b1.2.2.2.2.2.2.1,vi p.b1.2.2.2.2.2.2.2.1,.sl yU p.b1.2.2.2.2.2.2.2.2.1,.sl bl p.b1.2.2.2.2.2.2.2.2.2.1,vi p.b1.2.2.2.2.2.2.2.2.2.2.1,vi p.b1.2.2.2.2.2.2.2.2.2.2.2],.dead]⟩
 | .c2 p=>⟨[⟨20,160,(en [(3,.ptr 0 0)]),[.code (cw Tryz.f20 [1,1,1,0,0,0,0,0,0,0,0,0,1,1,1,1,0]),.code (cw Tryz.f20 [1,1,1,0,0,0,0,0,0,0,0,0,1,1,1,1,1]),.code (.exit 3),.inBlock 4,.inBlock 5,.inBlock 6,.inBlock 7,.inBlock 8,.code (cw Tryz.f20 [1,1,1,0,0,1]),.inBlock 3,.code (cw Tryz.f20 [1,1,1,1])],[],none⟩],[.flat false [vi p.c0.1,vi p.c0.2.1,vi p.c0.2.2.1.1,vi p.c0.2.2.1.2.1,vi p.c0.2.2.1.2.2.1,vi p.c0.2.2.1.2.2.2.1,vi p.c0.2.2.1.2.2.2.2,vi p.c0.2.2.2.1.1,vi p.c0.2.2.2.1.2.1,vi p.c0.2.2.2.1.2.2.1,vi p.c0.2.2.2.1.2.2.2.1,vi p.c0.2.2.2.1.2.2.2.2.1,vi p.c0.2.2.2.1.2.2.2.2.2.1,vi p.c0.2.2.2.1.2.2.2.2.2.2,vi p.c0.2.2.2.2.1,vb p.c0.2.2.2.2.2.1,vi p.c0.2.2.2.2.2.2.1,vi p.c0.2.2.2.2.2.2.2.1,.sl yU p.c0.2.2.2.2.2.2.2.2.1,.sl bl p.c0.2.2.2.2.2.2.2.2.2.1,vi p.c0.2.2.2.2.2.2.2.2.2.2.1,vi p.c0.2.2.2.2.2.2.2.2.2.2.2],.dead]⟩
def JP(A:bg)(m:au)(n:Node):LT Int GF:=.need (A.k (@tt au) m) (.br (A.c .neq (A.k jH m) 0) (.ret (A.k jH m)) (.need (A.k (@tt (Int×Int×Int)) (n.1,0,(A.b .sub .i64 m.1 1))) (.br (A.not (A.k nM (n.1,0,(A.b .sub .i64 m.1 1)))) (.ret 180) (.need (A.k (@tt (Int×Int×Int)) (n.2.1,0,5)) (.br (A.not (A.k nM (n.2.1,0,5))) (.ret 180) (.need (A.k (@tt (Int×Int×Int)) (n.2.2.2.2.2.2.1,0,2)) (.br (A.not (A.k nM (n.2.2.2.2.2.2.1,0,2))) (.ret 180) (.need (A.k (@tt bP) n.2.2.2.2.2.2.2) (.br (A.c .neq (A.k oE n.2.2.2.2.2.2.2) 0) (.ret 180) (.br (A.c .neq n.2.2.2.2.2.2.2.1 n.1) (.ret 180) (.br (A.c .neq (A.l n.2.2.2.2.2.2.2.2.2.1) m.1) (.ret 180) (.need (A.k (@tt Node) n) (.br (A.k mA n) (.need (A.k (@tt (au×eF)) (m,n.2.2.1)) (.br (A.not (A.k Ak (m,n.2.2.1))) (.ret 180) (.need (A.k (@tt ((Int×Int×Int×Int×Int×Int×Int))) n.2.2.2.1) (.br (A.c .neq (A.k za n.2.2.2.1) 0) (.ret 180) (.br (A.c .neq n.2.2.2.1.1 n.1) (.ret 180) (.br (A.c .neq n.2.2.2.1.2.1 m.1) (.ret 180) (.br (A.c .neq n.2.2.1.2.2.2.2 n.2.2.2.1.2.2.1) (.ret 180) (.more (.c0 ⟨m,n⟩))))))))) (.more (.c0 ⟨m,n⟩)))))))))))))))
def wq(A:bg):GF→LT Int GF
 | .c0 p=>.need (A.k (@tt Node) p.a1) (.br (A.not (A.k mA p.a1)) (.br (A.not (A.and (A.c .eql p.a1.2.2.1.1 0) (A.and (A.c .eql p.a1.2.2.1.2.1 0) (A.and (A.c .eql p.a1.2.2.1.2.2.1 0) (A.and (A.c .eql p.a1.2.2.1.2.2.2.1 0) (A.and (A.c .eql p.a1.2.2.1.2.2.2.2 0) true)))))) (.ret 180) (.br (A.not (A.and (A.c .eql p.a1.2.2.2.1.1 0) (A.and (A.c .eql p.a1.2.2.2.1.2.1 0) (A.and (A.c .eql p.a1.2.2.2.1.2.2.1 0) (A.and (A.c .eql p.a1.2.2.2.1.2.2.2.1 0) (A.and (A.c .eql p.a1.2.2.2.1.2.2.2.2.1 0) (A.and (A.c .eql p.a1.2.2.2.1.2.2.2.2.2.1 0) (A.and (A.c .eql p.a1.2.2.2.1.2.2.2.2.2.2 0) true)))))))) (.ret 180) (.br (A.c .eql p.a1.2.1 2) (.need (A.and (A.c .leq 0 p.a1.1) (A.c .lss p.a1.1 (A.l p.a0.2.2.2.2.2.2.1))) (.br (A.not (A.n .bool p.a0.2.2.2.2.2.2.1 p.a1.1:Bool)) (.ret 180) (.more (.c1 ⟨p.a0,p.a1⟩)))) (.more (.c1 ⟨p.a0,p.a1⟩))))) (.br (A.c .eql p.a1.2.1 2) (.need (A.and (A.c .leq 0 p.a1.1) (A.c .lss p.a1.1 (A.l p.a0.2.2.2.2.2.2.1))) (.br (A.not (A.n .bool p.a0.2.2.2.2.2.2.1 p.a1.1:Bool)) (.ret 180) (.more (.c1 ⟨p.a0,p.a1⟩)))) (.more (.c1 ⟨p.a0,p.a1⟩))))
 | .c1 p=>.br (A.c .eql p.b1.2.1 1) (.need (A.k (@tt (au×Int)) (p.b0,p.b1.1)) (.need (A.k (@tt (Int×Int×Int)) (p.b1.2.2.2.2.1,1,(A.k vz (p.b0,p.b1.1)))) (.br (A.not (A.k nM (p.b1.2.2.2.2.1,1,(A.k vz (p.b0,p.b1.1))))) (.ret 180) (.br (A.c .neq p.b1.2.1 1) (.br (A.c .neq p.b1.2.2.2.2.1 0) (.ret 180) (.more (.c2 ⟨p.b1⟩))) (.more (.c2 ⟨p.b1⟩)))))) (.br (A.c .neq p.b1.2.1 1) (.br (A.c .neq p.b1.2.2.2.2.1 0) (.ret 180) (.more (.c2 ⟨p.b1⟩))) (.more (.c2 ⟨p.b1⟩)))
 | .c2 p=>.br p.c0.2.2.2.2.2.1 (.br (A.c .neq p.c0.2.1 1) (.br (A.c .neq p.c0.2.1 2) (.ret 180) (.ret 0)) (.ret 0)) (.ret 0)
theorem Aq{m:au}{n:Node}{G:Bool}(h0:G=true→pM m n=true∧vN n=true)(h2:pM m n=true→vN n=true→G=true):aC (wq ai) (.more (.c1 ⟨m,n⟩)) (bif G then 0 else 180):=by
 have hb:pM m n=true→aC (wq ai) (.more (.c2 ⟨n⟩)) (bif G then 0 else 180):=fun ht=>by
  rw[ak,wq]
  exact IE (fun g=>(h0 g).2) (h2 ht)
 rw[ak,wq]
 have ht:=fun g=>(h0 g).1
 unfold pM at ht hb
 rw[ye]
 refine ax (p:=n.2.1=1) aT (fun h=>?_) fun h=>?_
 ·rw[decide_eq_true h,cond_true] at ht hb
  refine af.2 ⟨rfl,af.2 ⟨rfl,rE (fun g=>of_decide_eq_true (ht g)) fun h1=>?_⟩⟩
  exact ax (p:=¬n.2.1=1) aY (fun k=>absurd h k) fun _=>hb (decide_eq_true h1)
 ·rw[decide_eq_false h,cond_false] at ht hb
  exact ax (p:=¬n.2.1=1) aY (fun _=>eX (p:=¬n.2.2.2.2.1=0) aY (fun g=>not_not_intro (of_decide_eq_true (ht g))) fun h1=>hb (decide_eq_true (Decidable.not_not.1 h1))) fun k=>absurd h k
theorem F4{m:au}{n:Node}{G:Bool}(hm:dY m=true)(hi:0≤n.1∧n.1≤m.1-1)(h1:ul n=true→pN m n=true)(h0:G=true→yH m n=true∧pN m n=true∧pM m n=true∧vN n=true)(h2:yH m n=true→pN m n=true→pM m n=true→vN n=true→G=true):aC (wq ai) (.more (.c0 ⟨m,n⟩)) (bif G then 0 else 180):=by
 rw[ak,wq]
 refine af.2 ⟨rfl,?_⟩
 rw[show ai.k mA (⟨m,n⟩:CO).a1=ul n from rfl]
 have hc:=fun g=>(h0 g).2.1
 unfold pN at hc h1 h2
 cases hn:ul n
 ·rw[hn,cond_false] at hc h2
  refine(aj rfl).2 (l8 (b:=xJ n.2.2.1) (fun g=>?_) fun z1=>l8 (b:=zeroV n.2.2.2.1) (fun g=>?_) fun z2=>?_)
  ·exact(Bool.and_eq_true _ _▸hc g).1
  ·exact(Bool.and_eq_true _ _▸hc g).2
  ·exact E7 hm hi (fun g=>(h0 g).1) fun k=>Aq (fun g=>(h0 g).2.2) fun a b=>h2 k (by rw[z1,z2];rfl) a b
 ·rw[hn,cond_true] at hc h1 h2
  exact(ah rfl).2 (E7 hm hi (fun g=>(h0 g).1) fun k=>Aq (fun g=>(h0 g).2.2) fun a b=>h2 k (h1 rfl) a b)
theorem LU{m:au}{n:Node}:aC (wq ai) (JP ai m n) (fw m n):=by
 unfold JP fw
 refine af.2 ⟨rfl,?_⟩
 rw[show ai.k jH m=fU m from rfl,fU]
 cases hm:dY m
 ·exact(aj rfl).2 (.ret _)
 have hG:=@jm m n
 have hl:=(gu hm).1
 rw[cond_true,ye,bH,gh (by omega) (by omega)]
 generalize yY m n=G at hG ⊢
 refine(ah rfl).2 (af.2 ⟨rfl,rE (fun g=>(hG.1 g).1) fun h1=>af.2 ⟨rfl,rE (fun g=>(hG.1 g).2.1) fun h2=>af.2 ⟨rfl,rE (fun g=>(hG.1 g).2.2.1) fun h3=>af.2 ⟨rfl,?_⟩⟩⟩⟩)
 refine eX (p:=¬jK n.2.2.2.2.2.2.2=0) aY (fun g=>not_not_intro (lN.2 (hG.1 g).2.2.2.1)) fun h7=>?_
 refine eX (p:=¬n.2.2.2.2.2.2.2.1=n.1) aY (fun g=>by have:=hG.1 g;omega) fun h8=>?_
 refine eX (p:=¬(n.2.2.2.2.2.2.2.2.2.1.length:Int)=m.1) aY (fun g=>by have:=hG.1 g;omega) fun h9=>af.2 ⟨rfl,?_⟩
 have fin:(ul n=true→pN m n=true)→aC (wq ai) (.more (.c0 ⟨m,n⟩)) (bif G then 0 else 180):=fun h=>F4 hm h1 h (fun g=>(hG.1 g).2.2.2.2.2.2) fun a b c d=>hG.2 ⟨h1,h2,h3,lN.1 (Decidable.not_not.1 h7),by omega,by omega,a,b,c,d⟩
 rw[show ai.k mA n=ul n from rfl]
 have hc:=fun g=>(hG.1 g).2.2.2.2.2.2.2.1
 unfold pN at hc fin
 cases hn:ul n
 ·exact(ah rfl).2 (fin fun k=>absurd (hn.symm.trans k) (by decide))
 ·rw[hn,cond_true] at hc
  simp only[hn,cond_true,Bool.and_eq_true,decide_eq_true_eq] at hc fin
  refine(aj rfl).2 (af.2 ⟨rfl,l8 (b:=gB m n.2.2.1) (fun g=>(hc g).1) fun k1=>af.2 ⟨rfl,?_⟩⟩)
  rw[ap,Wm]
  refine eX (p:=¬uA n.2.2.2.1=0) aY (fun g=>not_not_intro (hc g).2.1) fun k2=>?_
  refine eX (p:=¬n.2.2.2.1.1=n.1) aY (fun g=>not_not_intro (hc g).2.2.1) fun k3=>?_
  refine eX (p:=¬n.2.2.2.1.2.1=m.1) aY (fun g=>not_not_intro (hc g).2.2.2.1) fun k4=>?_
  refine eX (p:=¬n.2.2.1.2.2.2.2=n.2.2.2.1.2.2.1) aY (fun g=>not_not_intro (hc g).2.2.2.2) fun k5=>?_
  exact fin fun _=>⟨k1,Decidable.not_not.1 k2,Decidable.not_not.1 k3,Decidable.not_not.1 k4,Decidable.not_not.1 k5⟩
def tg:(au×Node)→Int:=fun(m,n)=>fw m n
def Rl:aB:=⟨[bW,du], [yI],(@tt (au×Node)),tg⟩
theorem Ia:Sd 20 Rl:=aH ar cO true 151 [] [⟨20,8, [[2,3]]⟩,⟨20,10, [[2,3]]⟩,⟨20,11, [[3]]⟩] (fun A (m,n)=>JP A m n) wq J8 (fc Tryz.func20 fz) (sc U1 (sc Am (sc Dd (sc Fu (sc zW (sc Cj (sc Il sz))))))) (fun A y=>match y with |.c0 p=>⟨51,by kernel_rfl,by kernel_rfl⟩|.c1 p=>⟨39,by kernel_rfl,by kernel_rfl⟩|.c2 p=>⟨27,by kernel_rfl,by kernel_rfl⟩) fun(m,n) hp h=>LU
open Go.Ev.Pl
def KS(A:bg)(m:au)(id:Int):LT (Node×Int) Empty:=.need (A.k (@tt au) m) (.br (A.c .neq (A.k jH m) 0) (.ret ((0,0,(0,0,0,0,0),(0,0,0,0,0,0,0),0,false,0,0,([]:List Int),([]:List bu),0,0),(A.k jH m))) (.need (A.k (@tt (Int×Int)) (id,m.1)) (.br (A.c .neq (A.k zD (id,m.1)).2 0) (.ret ((0,0,(0,0,0,0,0),(0,0,0,0,0,0,0),0,false,0,0,([]:List Int),([]:List bu),0,0),2)) (.ret ((id,0,(0,0,0,0,0),(0,0,0,0,0,0,0),0,false,0,(A.k zD (id,m.1)).1),0)))))
def gY:Node:=(0,0,(0,0,0,0,0),(0,0,0,0,0,0,0),0,false,0,0,([]:List Int),([]:List bu),0,0)
def s6(m:au)(id:Int):Node×Int:=bif dY m then(bif decide (0≤id∧id≤m.1-1) then((id,0,(0,0,0,0,0),(0,0,0,0,0,0,0),0,false,0,id,([]:List Int),List.replicate m.1.toNat jW,4,(-1)),0) else(gY,2)) else(gY,70)
theorem Kh{m:au}{id:Int}:aC Empty.elim (KS ai m id) (s6 m id):=by
 unfold KS s6
 refine af.2 ⟨rfl,?_⟩
 rw[show ai.k jH m=fU m from rfl,fU]
 cases hm:dY m
 ·exact(aj rfl).2 (.ret _)
 refine(ah rfl).2 (af.2 ⟨rfl,?_⟩)
 rw[show ai.k zD (id,m.1)=wC id m.1 from rfl,wC,decide_eq_true (gu hm).1,cond_true,cond_true]
 cases decide (0≤id∧id≤m.1-1)
 ·exact(aj rfl).2 (.ret _)
 ·exact(ah rfl).2 (.ret _)
def mz:(au×Int)→(Node×Int):=fun(m,n)=>s6 m n
def QL:aB:=⟨[bW,yI], [du,yI],(@tt (au×Int)),mz⟩
theorem EJ:Sd 17 QL:=aG ar cO true 55 [] (fun A (m,id)=>KS A m id) (fc Tryz.func17 fz) (sc Am (sc Mf sz)) fun(m,id) hp h=>Kh
def KA(A:bg)(m:au)(id:Int):LT (Node×Int) Empty:=.need (A.k (@tt au) m) (.br (A.c .neq (A.k mo m) 0) (.ret ((0,0,(0,0,0,0,0),(0,0,0,0,0,0,0),0,false,0,0,([]:List Int),([]:List bu),0,0),(A.k mo m))) (.br (A.c .lss id 0) (.ret ((0,0,(0,0,0,0,0),(0,0,0,0,0,0,0),0,false,0,0,([]:List Int),([]:List bu),0,0),2)) (.br (A.c .geq id m.1) (.ret ((0,0,(0,0,0,0,0),(0,0,0,0,0,0,0),0,false,0,0,([]:List Int),([]:List bu),0,0),2)) (.need (A.k (@tt (Int×Int)) (id,m.1)) (.ret ((id,0,(0,0,0,0,0),(0,0,0,0,0,0,0),0,false,0,(A.k Dx (id,m.1)).1),0))))))
theorem Jq{m:au}{id:Int}:aC Empty.elim (KA ai m id) (s6 m id):=by
 unfold KA s6
 refine af.2 ⟨rfl,?_⟩
 rw[show ai.k mo m=fU m from rfl,fU]
 cases hm:dY m
 ·exact(aj rfl).2 (.ret _)
 rw[show ai.k Dx (id,m.1)=wC id m.1 from rfl,wC,decide_eq_true (gu hm).1,cond_true,cond_true]
 refine(ah rfl).2 (ax (p:=id<0) rfl (fun h=>?_) fun h1=>ax (p:=m.1≤id) rfl (fun h=>?_) fun h2=>af.2 ⟨rfl,?_⟩)
 ·exact ao (by rw[decide_eq_false (show ¬(0≤id∧id≤m.1-1) by omega)];rfl) (.ret _)
 ·exact ao (by rw[decide_eq_false (show ¬(0≤id∧id≤m.1-1) by omega)];rfl) (.ret _)
 ·exact ao (by rw[decide_eq_true (show 0≤id∧id≤m.1-1 by omega)];rfl) (.ret _)
def rL:(au×Int)→(Node×Int):=fun(m,n)=>s6 m n
def R0:aB:=⟨[bW,yI], [du,yI],(@tt (au×Int)),rL⟩
theorem Iq:Sd 18 R0:=aG ar cO true 61 [] (fun A (m,id)=>KA A m id) (fc Tryz.func18 fz) (sc D5 (sc RE sz)) fun(m,id) hp h=>Jq
def Ko(A:bg)(m:au)(n:Node)(when:Bool):LT (Node×Int) Empty:=.need (A.k (@tt (au×Node)) (m,n)) (.br (A.c .neq (A.k tg (m,n)) 0) (.ret ((0,0,(0,0,0,0,0),(0,0,0,0,0,0,0),0,false,0,0,([]:List Int),([]:List bu),0,0),(A.k tg (m,n)))) (.br (A.not when) (.ret ((0,0,(0,0,0,0,0),(0,0,0,0,0,0,0),0,false,0,0,([]:List Int),([]:List bu),0,0),181)) (.need (A.k (@tt (bP×List Int)) (n.2.2.2.2.2.2.2,n.2.2.2.2.2.2.2.2.1)) (.ret ((n.1,n.2.1,n.2.2.1,n.2.2.2.1,n.2.2.2.2.1,n.2.2.2.2.2.1,n.2.2.2.2.2.2.1,(A.k tp (n.2.2.2.2.2.2.2,n.2.2.2.2.2.2.2.2.1)).1),(A.k tp (n.2.2.2.2.2.2.2,n.2.2.2.2.2.2.2.2.1)).2)))))
def pg(m:au)(n:Node)(w:Bool):Node×Int:=bif decide (fw m n=0) then(bif w then(n,0) else(gY,181)) else(gY,fw m n)
theorem nZ{m:au}{n:Node}(h:fw m n=0):dK n.2.2.2.2.2.2.2=true:=(jm.1 (ie h).2).2.2.2.1
theorem Ht{c:bP}(h:dK c=true):¬8<(c.2.1.length:Int):=by
 simp only[dK,Bool.and_eq_true,decide_eq_true_eq] at h
 exact h.2.2.1
theorem S8{m:au}{n:Node}{w:Bool}:aC Empty.elim (Ko ai m n w) (pg m n w):=by
 unfold Ko pg
 refine af.2 ⟨rfl,?_⟩
 rw[show ai.k tg (m,n)=fw m n from rfl]
 by_cases h:fw m n=0
 ·rw[decide_eq_true h]
  refine(ah (xt h)).2 ?_
  cases w
  ·exact(aj rfl).2 (.ret _)
  ·refine(ah rfl).2 (af.2 ⟨rfl,?_⟩)
   rw[show ai.k tp (n.2.2.2.2.2.2.2,n.2.2.2.2.2.2.2.2.1)=FJ n.2.2.2.2.2.2.2 n.2.2.2.2.2.2.2.2.1 from rfl,FJ,nZ h,decide_eq_false (Ht (nZ h))]
   exact .ret _
 ·rw[decide_eq_false h];exact(aj (oo h)).2 (.ret _)
def aO:(au×Node×Bool)→(Node×Int):=fun(m,c,k)=>pg m c k
def PK:aB:=⟨[bW,du,.bool], [du,yI],(@tt (au×Node×Bool)),aO⟩
theorem AA:Sd 74 PK:=aG ar cO true 64 [] (fun A (m,n,when)=>Ko A m n when) (fc Tryz.func74 fz) (sc Ia (sc Ie sz)) fun(m,n,when) hp h=>S8
def L_(A:bg)(n:Node):LT Node Empty:=.need (A.k lb n.2.2.2.2.2.2.2) (.ret (n.1,n.2.1,n.2.2.1,n.2.2.2.1,n.2.2.2.2.1,n.2.2.2.2.2.1,n.2.2.2.2.2.2.1,(A.k gy n.2.2.2.2.2.2.2)))
theorem Mi{n:Node}(h:dK n.2.2.2.2.2.2.2=true):aC Empty.elim (L_ ai n) n:=af.2 ⟨rF h,.ret _⟩
def bS:Node→Node:=fun n=>n
def vP:Node→Bool:=fun n=>dK n.2.2.2.2.2.2.2
def QW:aB:=⟨[du], [du],vP,bS⟩
theorem Di:Sd 76 QW:=aG ar cO true 24 [] (fun A n=>L_ A n) (fc Tryz.func76 fz) (sc xI sz) fun(n:Node) hp h=>Mi hp
def Kk(A:bg)(m:au)(n:Node)(on:Bool):LT (Node×Int) Empty:=.br (A.not on) (.need (A.k (@tt (au×Node×Bool)) (m,n,true)) (.br (A.c .neq (A.k aO (m,n,true)).2 0) (.ret ((0,0,(0,0,0,0,0),(0,0,0,0,0,0,0),0,false,0,0,([]:List Int),([]:List bu),0,0),(A.k aO (m,n,true)).2)) (.br (A.not on) (.need (A.k (@tt (au×Int)) (m,(A.k aO (m,n,true)).1.1)) (.ret (A.k mz (m,(A.k aO (m,n,true)).1.1)))) (.need (A.k (@tt (au×Int)) (m,(A.k aO (m,n,true)).1.1)) (.ret (((A.k aO (m,n,true)).1.1,1,(0,0,0,0,0),(0,0,0,0,0,0,0),(A.k vz (m,(A.k aO (m,n,true)).1.1)),(A.k aO (m,n,true)).1.2.2.2.2.2),0)))))) (.need (A.k (@tt (au×Node×Bool)) (m,n,(A.c .eql n.2.1 0))) (.br (A.c .neq (A.k aO (m,n,(A.c .eql n.2.1 0))).2 0) (.ret ((0,0,(0,0,0,0,0),(0,0,0,0,0,0,0),0,false,0,0,([]:List Int),([]:List bu),0,0),(A.k aO (m,n,(A.c .eql n.2.1 0))).2)) (.br (A.not on) (.need (A.k (@tt (au×Int)) (m,(A.k aO (m,n,(A.c .eql n.2.1 0))).1.1)) (.ret (A.k mz (m,(A.k aO (m,n,(A.c .eql n.2.1 0))).1.1)))) (.need (A.k (@tt (au×Int)) (m,(A.k aO (m,n,(A.c .eql n.2.1 0))).1.1)) (.ret (((A.k aO (m,n,(A.c .eql n.2.1 0))).1.1,1,(0,0,0,0,0),(0,0,0,0,0,0,0),(A.k vz (m,(A.k aO (m,n,(A.c .eql n.2.1 0))).1.1)),(A.k aO (m,n,(A.c .eql n.2.1 0))).1.2.2.2.2.2),0))))))
theorem Ey{c:eF}(h:xJ c=true):c=(0,0,0,0,0):=by
 obtain⟨a,b,d,e,f⟩:=c
 simp[xJ,aQ,aR] at h
 obtain⟨rfl,rfl,rfl,rfl,rfl⟩:=h
 rfl
theorem EN{c:B9}(h:zeroV c=true):c=(0,0,0,0,0,0,0):=by
 obtain⟨a,b,d,e,f,g,i⟩:=c
 simp[zeroV,aQ,aR] at h
 obtain⟨rfl,rfl,rfl,rfl,rfl,rfl,rfl⟩:=h
 rfl
theorem F2{m:au}{n:Node}(h:fw m n=0)(h2:¬(2≤n.2.1∧n.2.1≤4)):n.2.2.1=(0,0,0,0,0)∧n.2.2.2.1=(0,0,0,0,0,0,0):=by
 have hc:=(jm.1 (ie h).2).2.2.2.2.2.2.2.1
 rw[pN,ul,decide_eq_false h2,cond_false,Bool.and_eq_true] at hc
 exact⟨Ey hc.1,EN hc.2⟩
theorem GJ{m:au}{n:Node}(h:fw m n=0)(h2:¬n.2.1=1):n.2.2.2.2.1=0:=by
 have hc:=(jm.1 (ie h).2).2.2.2.2.2.2.2.2.1
 rw[pM,decide_eq_false h2] at hc
 exact of_decide_eq_true hc
def BE(m:au)(n:Node)(on:Bool):Node×Int:=bif decide (fw m n=0) then(bif on then(bif decide (n.2.1=0) then((n.1,1,(0,0,0,0,0),(0,0,0,0,0,0,0),(tq m n.1).1,n.2.2.2.2.2),0) else(gY,181)) else s6 m n.1) else(gY,fw m n)
theorem Rv{m:au}{n:Node}{on:Bool}:aC Empty.elim (Kk ai m n on) (BE m n on):=by
 unfold Kk BE
 rw[show ai.k aO (m,n,true)=pg m n true from rfl,show ai.k aO (m,n,ai.c .eql n.2.1 0)=pg m n (ai.c .eql n.2.1 0) from rfl,aT,pg,pg]
 by_cases h:fw m n=0
 ·rw[decide_eq_true h]
  cases on
  ·exact(aj rfl).2 (af.2 ⟨rfl,(ah rfl).2 ((aj rfl).2 (af.2 ⟨rfl,.ret _⟩))⟩)
  ·refine(ah rfl).2 (af.2 ⟨rfl,?_⟩)
   cases decide (n.2.1=0)
   ·exact(aj rfl).2 (.ret _)
   ·exact(ah rfl).2 ((ah rfl).2 (af.2 ⟨rfl,.ret _⟩))
 ·rw[decide_eq_false h]
  cases on
  ·exact(aj rfl).2 (af.2 ⟨rfl,(aj (oo h)).2 (.ret _)⟩)
  ·exact(ah rfl).2 (af.2 ⟨rfl,(aj (oo h)).2 (.ret _)⟩)
def jJ:(au×Node×Bool)→(Node×Int):=fun(m,c,k)=>BE m c k
def PW:aB:=⟨[bW,du,.bool], [du,yI],(@tt (au×Node×Bool)),jJ⟩
theorem It:Sd 26 PW:=aG ar cO true 90 [] (fun A (m,n,on)=>Kk A m n on) (fc Tryz.func26 (fc Tryz.func77 fz)) (sc EJ (sc AA (sc Fu sz))) fun(m,n,on) hp h=>Rv
def JD(A:bg)(m:au)(n:Node)(on:Bool):LT (Node×Int) Empty:=.need (A.k (@tt (au×Node)) (m,n)) (.br (A.c .neq (A.k jG (m,n)) 0) (.ret ((0,0,(0,0,0,0,0),(0,0,0,0,0,0,0),0,false,0,0,([]:List Int),([]:List bu),0,0),(A.k jG (m,n)))) (.br (A.not on) (.need (A.k (@tt (au×Int)) (m,n.1)) (.ret (A.k rL (m,n.1)))) (.br (A.c .neq n.2.1 0) (.ret ((0,0,(0,0,0,0,0),(0,0,0,0,0,0,0),0,false,0,0,([]:List Int),([]:List bu),0,0),181)) (.need (A.k vP n) (.need (A.k (@tt (au×Int)) (m,(A.k bS n).1)) (.ret (((A.k bS n).1,1,(A.k bS n).2.2.1,(A.k bS n).2.2.2.1,(A.k zU (m,(A.k bS n).1)).1,(A.k bS n).2.2.2.2.2),0)))))))
theorem SF{m:au}{n:Node}{on:Bool}:aC Empty.elim (JD ai m n on) (BE m n on):=by
 unfold JD BE
 refine af.2 ⟨rfl,?_⟩
 rw[show ai.k jG (m,n)=fw m n from rfl]
 by_cases h:fw m n=0
 ·rw[decide_eq_true h]
  refine(ah (xt h)).2 ?_
  cases on
  ·exact(aj rfl).2 (af.2 ⟨rfl,.ret _⟩)
  ·refine(ah rfl).2 (ax (p:=¬n.2.1=0) aY (fun h1=>?_) fun h1=>af.2 ⟨nZ h,af.2 ⟨rfl,?_⟩⟩)
   ·exact ao (by rw[decide_eq_false h1];rfl) (.ret _)
   ·have h2:n.2.1=0:=by omega
    obtain⟨e1,e2⟩:=F2 h (by omega)
    rw[decide_eq_true h2,show ai.k bS n=n from rfl,e1,e2]
    exact .ret _
 ·rw[decide_eq_false h];exact(aj (oo h)).2 (.ret _)
def vc:(au×Node×Bool)→(Node×Int):=fun(m,c,k)=>BE m c k
def PX:aB:=⟨[bW,du,.bool], [du,yI],(@tt (au×Node×Bool)),vc⟩
theorem SP:Sd 27 PX:=aG ar cO true 74 [] (fun A (m,n,on)=>JD A m n on) (fc Tryz.func27 fz) (sc Iq (sc AF (sc Di (sc IL sz)))) fun(m,n,on) hp h=>SF
def Kn(A:bg)(m:au)(n:Node)(set1:Int):LT (Node×Int) Empty:=.need (A.k (@tt (au×Node×Bool)) (m,n,(A.c .eql n.2.1 0))) (.br (A.c .neq (A.k aO (m,n,(A.c .eql n.2.1 0))).2 0) (.ret ((0,0,(0,0,0,0,0),(0,0,0,0,0,0,0),0,false,0,0,([]:List Int),([]:List bu),0,0),(A.k aO (m,n,(A.c .eql n.2.1 0))).2)) (.need (A.c .leq 0 m.1) (.need (A.k (@tt (Int×Int×Int)) (set1,0,(A.b .sub .i64 (A.b .shl .i64 1 m.1) 1))) (.br (A.not (A.k nM (set1,0,(A.b .sub .i64 (A.b .shl .i64 1 m.1) 1)))) (.ret ((0,0,(0,0,0,0,0),(0,0,0,0,0,0,0),0,false,0,0,([]:List Int),([]:List bu),0,0),2)) (.need (A.c .leq 0 (A.k aO (m,n,(A.c .eql n.2.1 0))).1.1) (.br (A.c .eql (A.b .and .i64 (A.b .shr .i64 set1 (A.k aO (m,n,(A.c .eql n.2.1 0))).1.1) 1) 0) (.ret ((0,0,(0,0,0,0,0),(0,0,0,0,0,0,0),0,false,0,0,([]:List Int),([]:List bu),0,0),2)) (.ret (((A.k aO (m,n,(A.c .eql n.2.1 0))).1.1,4,(0,0,0,0,set1),((A.k aO (m,n,(A.c .eql n.2.1 0))).1.1,m.1,set1,1,0,0,0),0,(A.k aO (m,n,(A.c .eql n.2.1 0))).1.2.2.2.2.2),0))))))))
theorem u5{k:Int}(h:4≤k∧k≤8):16≤ai.b .shl .i64 1 k∧ai.b .shl .i64 1 k≤256:=by
 have:k=4∨k=5∨k=6∨k=7∨k=8:=by omega
 rcases this with rfl|rfl|rfl|rfl|rfl<;>decide
theorem D7{k:Int}(h:0≤k∧k≤8):ai.v .u64 k=k:=by
 obtain⟨j,rfl⟩:∃j:Nat,k=j:=⟨k.toNat,by omega⟩
 exact dd (by omega)
def L4(m:au)(n:Node)(s:Int):Node×Int:=bif decide (fw m n=0) then(bif decide (n.2.1=0) then(bif decide (0≤s∧s≤ai.b .shl .i64 1 m.1-1) then(bif qM s n.1 then((n.1,4,(0,0,0,0,s),(n.1,m.1,s,1,0,0,0),0,n.2.2.2.2.2),0) else(gY,2)) else(gY,2)) else(gY,181)) else(gY,fw m n)
theorem Us{m:au}{n:Node}{s:Int}:aC Empty.elim (Kn ai m n s) (L4 m n s):=by
 unfold Kn L4
 refine af.2 ⟨rfl,?_⟩
 rw[show ai.k aO (m,n,ai.c .eql n.2.1 0)=pg m n (ai.c .eql n.2.1 0) from rfl,aT,pg,ye]
 by_cases h:fw m n=0
 ·rw[decide_eq_true h]
  cases decide (n.2.1=0)
  ·exact(aj rfl).2 (.ret _)
  have hk:=(gu (ie h).1).1
  have hs:=u5 hk
  have hi:=(jm.1 (ie h).2).1
  refine(ah rfl).2 (af.2 ⟨decide_eq_true (by omega),af.2 ⟨rfl,?_⟩⟩)
  rw[bH,gh (by omega) (by omega)]
  refine dB (fun h3=>?_) fun h3=>af.2 ⟨decide_eq_true (show 0≤n.1 from hi.1),?_⟩
  ·exact ao (by rw[decide_eq_false h3];rfl) (.ret _)
  ·rw[decide_eq_true h3]
   have hb:=IV (c:=s) (a:=n.1) h3.1 (by omega) hi.1 (by omega)
   refine ax (p:=ai.b .and .i64 (ai.b .shr .i64 s n.1) 1=0) aT (fun g=>?_) fun g=>?_
   ·exact ao (by rw[hb.1 g];rfl) (.ret _)
   ·exact ao (by rw[show qM s n.1=true from by cases hx:qM s n.1;exact absurd (hb.2 hx) g;rfl];rfl) (.ret _)
 ·rw[decide_eq_false h];exact(aj (oo h)).2 (.ret _)
def vx:(au×Node×Int)→(Node×Int):=fun(m,c,k)=>L4 m c k
def Ni:aB:=⟨[bW,du,yI], [du,yI],(@tt (au×Node×Int)),vx⟩
theorem PV:Sd 24 Ni:=aG ar cO true 110 [] (fun A (m,n,set1)=>Kn A m n set1) (fc Tryz.func24 (fc Tryz.func75 fz)) (sc AA (sc zW sz)) fun(m,n,set1) hp h=>Us
def LH(A:bg)(m:au)(n:Node)(set1:Int):LT (Node×Int) Empty:=.need (A.k (@tt (au×Node)) (m,n)) (.br (A.c .neq (A.k jG (m,n)) 0) (.ret ((0,0,(0,0,0,0,0),(0,0,0,0,0,0,0),0,false,0,0,([]:List Int),([]:List bu),0,0),(A.k jG (m,n)))) (.br (A.c .neq n.2.1 0) (.ret ((0,0,(0,0,0,0,0),(0,0,0,0,0,0,0),0,false,0,0,([]:List Int),([]:List bu),0,0),181)) (.br (A.c .lss set1 0) (.ret ((0,0,(0,0,0,0,0),(0,0,0,0,0,0,0),0,false,0,0,([]:List Int),([]:List bu),0,0),2)) (.need (A.c .leq 0 (A.v .u64 m.1)) (.br (A.c .geq set1 (A.b .shl .i64 1 (A.v .u64 m.1))) (.ret ((0,0,(0,0,0,0,0),(0,0,0,0,0,0,0),0,false,0,0,([]:List Int),([]:List bu),0,0),2)) (.need (A.c .leq 0 (A.v .u64 n.1)) (.br (A.c .eql (A.b .and .i64 set1 (A.b .shl .i64 1 (A.v .u64 n.1))) 0) (.ret ((0,0,(0,0,0,0,0),(0,0,0,0,0,0,0),0,false,0,0,([]:List Int),([]:List bu),0,0),2)) (.need (A.k vP n) (.ret (((A.k bS n).1,4,(0,0,0,0,set1),((A.k bS n).1,m.1,set1,1,0,0,0),(A.k bS n).2.2.2.2),0))))))))))
theorem UQ{m:au}{n:Node}{s:Int}:aC Empty.elim (LH ai m n s) (L4 m n s):=by
 unfold LH L4
 refine af.2 ⟨rfl,?_⟩
 rw[show ai.k jG (m,n)=fw m n from rfl]
 by_cases h:fw m n=0
 ·rw[decide_eq_true h]
  have hk:=(gu (ie h).1).1
  have hs:=u5 hk
  have hi:=(jm.1 (ie h).2).1
  rw[D7 (k:=m.1) (by omega),D7 (k:=n.1) (by omega)]
  refine(ah (xt h)).2 (ax (p:=¬n.2.1=0) aY (fun h1=>?_) fun h1=>?_)
  ·exact ao (by rw[decide_eq_false h1];rfl) (.ret _)
  rw[decide_eq_true (show n.2.1=0 by omega)]
  refine ax (p:=s<0) rfl (fun h3=>?_) fun h3=>af.2 ⟨decide_eq_true (by omega),ax (p:=ai.b .shl .i64 1 m.1≤s) rfl (fun h4=>?_) fun h4=>af.2 ⟨decide_eq_true hi.1,?_⟩⟩
  ·exact ao (by rw[decide_eq_false (show ¬(0≤s∧s≤ai.b .shl .i64 1 m.1-1) by omega)];rfl) (.ret _)
  ·exact ao (by rw[decide_eq_false (show ¬(0≤s∧s≤ai.b .shl .i64 1 m.1-1) by omega)];rfl) (.ret _)
  ·rw[decide_eq_true (show 0≤s∧s≤ai.b .shl .i64 1 m.1-1 by omega)]
   have hb:=Ip (c:=s) (a:=n.1) (by omega) (by omega) hi.1 (by omega)
   refine ax (p:=ai.b .and .i64 s (ai.b .shl .i64 1 n.1)=0) aT (fun g=>?_) fun g=>af.2 ⟨nZ h,?_⟩
   ·exact ao (by rw[hb.1 g];rfl) (.ret _)
   ·have ht:=GJ h (show ¬n.2.1=1 by omega)
    refine ao ?_ (.ret _)
    rw[show qM s n.1=true from by cases hx:qM s n.1;exact absurd (hb.2 hx) g;rfl,show ai.k bS n=n from rfl]
    show _=(((n.1,4,(0,0,0,0,s),(n.1,m.1,s,1,0,0,0),0,n.2.2.2.2.2),0):Node×Int)
    rw[←ht]
 ·rw[decide_eq_false h];exact(aj (oo h)).2 (.ret _)
def vd:(au×Node×Int)→(Node×Int):=fun(m,c,k)=>L4 m c k
def PR:aB:=⟨[bW,du,yI], [du,yI],(@tt (au×Node×Int)),vd⟩
theorem Md:Sd 25 PR:=aG ar cO true 97 [] (fun A (m,n,set1)=>LH A m n set1) (fc Tryz.func25 fz) (sc AF (sc Di sz)) fun(m,n,set1) hp h=>UQ
def Lr(A:bg)(m:au)(n:Node)(o:yz):LT (Node×Int) Empty:=.need (A.k (@tt (au×Node×Bool)) (m,n,true)) (.br (A.c .neq (A.k aO (m,n,true)).2 0) (.ret ((0,0,(0,0,0,0,0),(0,0,0,0,0,0,0),0,false,0,0,([]:List Int),([]:List bu),0,0),(A.k aO (m,n,true)).2)) (.need (A.k (@tt (Int×Int×Int)) (o.2.2.2.1,1,3)) (.br (A.not (A.k nM (o.2.2.2.1,1,3))) (.ret ((0,0,(0,0,0,0,0),(0,0,0,0,0,0,0),0,false,0,0,([]:List Int),([]:List bu),0,0),2)) (.need (A.k (@tt Node) (A.k aO (m,n,true)).1) (.br (A.not (A.k mA (A.k aO (m,n,true)).1)) (.ret ((A.k aO (m,n,true)).1,0)) (.br (A.c .eql o.2.2.2.1 1) (.need (A.k (@tt (bP×List Int)) ((A.k aO (m,n,true)).1.2.2.2.2.2.2.2,o.2.2.2.2.2)) (.br (A.c .neq (A.k tp ((A.k aO (m,n,true)).1.2.2.2.2.2.2.2,o.2.2.2.2.2)).2 0) (.ret ((0,0,(0,0,0,0,0),(0,0,0,0,0,0,0),0,false,0,0,([]:List Int),([]:List bu),0,0),(A.k tp ((A.k aO (m,n,true)).1.2.2.2.2.2.2.2,o.2.2.2.2.2)).2)) (.ret (((A.k aO (m,n,true)).1.1,(A.k aO (m,n,true)).1.2.1,(A.k aO (m,n,true)).1.2.2.1,(A.k aO (m,n,true)).1.2.2.2.1,(A.k aO (m,n,true)).1.2.2.2.2.1,(A.k aO (m,n,true)).1.2.2.2.2.2.1,(A.k aO (m,n,true)).1.2.2.2.2.2.2.1,(A.k tp ((A.k aO (m,n,true)).1.2.2.2.2.2.2.2,o.2.2.2.2.2)).1),0)))) (.br (A.c .eql o.2.2.2.1 2) (.need (A.k (@tt bP) (A.k aO (m,n,true)).1.2.2.2.2.2.2.2) (.br (A.c .neq (A.k Ah (A.k aO (m,n,true)).1.2.2.2.2.2.2.2).2 0) (.ret ((0,0,(0,0,0,0,0),(0,0,0,0,0,0,0),0,false,0,0,([]:List Int),([]:List bu),0,0),(A.k Ah (A.k aO (m,n,true)).1.2.2.2.2.2.2.2).2)) (.ret (((A.k aO (m,n,true)).1.1,(A.k aO (m,n,true)).1.2.1,(A.k aO (m,n,true)).1.2.2.1,(A.k aO (m,n,true)).1.2.2.2.1,(A.k aO (m,n,true)).1.2.2.2.2.1,(A.k aO (m,n,true)).1.2.2.2.2.2.1,(A.k aO (m,n,true)).1.2.2.2.2.2.2.1,(A.k Ah (A.k aO (m,n,true)).1.2.2.2.2.2.2.2).1),0)))) (.br (A.c .eql o.2.2.2.1 3) (.need (A.k (@tt (bP×Int)) ((A.k aO (m,n,true)).1.2.2.2.2.2.2.2,o.2.2.2.2.1)) (.br (A.c .neq (A.k zJ ((A.k aO (m,n,true)).1.2.2.2.2.2.2.2,o.2.2.2.2.1)).2 0) (.ret ((0,0,(0,0,0,0,0),(0,0,0,0,0,0,0),0,false,0,0,([]:List Int),([]:List bu),0,0),(A.k zJ ((A.k aO (m,n,true)).1.2.2.2.2.2.2.2,o.2.2.2.2.1)).2)) (.ret (((A.k aO (m,n,true)).1.1,(A.k aO (m,n,true)).1.2.1,(A.k aO (m,n,true)).1.2.2.1,(A.k aO (m,n,true)).1.2.2.2.1,(A.k aO (m,n,true)).1.2.2.2.2.1,(A.k aO (m,n,true)).1.2.2.2.2.2.1,(A.k aO (m,n,true)).1.2.2.2.2.2.2.1,(A.k zJ ((A.k aO (m,n,true)).1.2.2.2.2.2.2.2,o.2.2.2.2.1)).1),0)))) (.br (A.c .neq (A.k aO (m,n,true)).2 0) (.ret ((0,0,(0,0,0,0,0),(0,0,0,0,0,0,0),0,false,0,0,([]:List Int),([]:List bu),0,0),(A.k aO (m,n,true)).2)) (.ret ((A.k aO (m,n,true)).1,0)))))))))))
def CJ(n:Node)(r:bP×Int):Node×Int:=bif decide (r.2=0) then((n.1,n.2.1,n.2.2.1,n.2.2.2.1,n.2.2.2.2.1,n.2.2.2.2.2.1,n.2.2.2.2.2.2.1,r.1),0) else(gY,r.2)
def BV(m:au)(n:Node)(o:yz):Node×Int:=bif decide (fw m n=0) then(bif decide (1≤o.2.2.2.1∧o.2.2.2.1≤3) then(bif ul n then(bif decide (o.2.2.2.1=1) then CJ n (FJ n.2.2.2.2.2.2.2 o.2.2.2.2.2) else bif decide (o.2.2.2.1=2) then CJ n (GM n.2.2.2.2.2.2.2) else CJ n (xA n.2.2.2.2.2.2.2 o.2.2.2.2.1)) else(n,0)) else(gY,2)) else(gY,fw m n)
theorem uY{Y:Type}{step:Y→LT (Node×Int) Y}{n:Node}{r:bP×Int}{x:Int}(hx:r.2=0→x=0):aC step (.br (ai.c .neq r.2 0) (.ret (gY,r.2)) (.ret ((n.1,n.2.1,n.2.2.1,n.2.2.2.1,n.2.2.2.2.1,n.2.2.2.2.2.1,n.2.2.2.2.2.2.1,r.1),x))) (CJ n r):=by
 unfold CJ
 refine ax (p:=¬r.2=0) aY (fun h=>?_) fun h=>?_
 ·exact ao (by rw[decide_eq_false h];rfl) (.ret _)
 ·have h:=Decidable.not_not.1 h
  exact ao (by rw[decide_eq_true h,hx h];rfl) (.ret _)
theorem O8{m:au}{n:Node}{o:yz}:aC Empty.elim (Lr ai m n o) (BV m n o):=by
 unfold Lr BV
 refine af.2 ⟨rfl,?_⟩
 rw[show ai.k aO (m,n,true)=pg m n true from rfl,pg,ye]
 by_cases h:fw m n=0
 ·rw[decide_eq_true h,cond_true,cond_true,cond_true]
  refine(ah rfl).2 (af.2 ⟨rfl,dB (fun h3=>?_) fun h3=>af.2 ⟨rfl,?_⟩⟩)
  ·exact ao (by rw[decide_eq_false h3];rfl) (.ret _)
  rw[decide_eq_true h3,cond_true]
  rw[show ai.k mA ((n,0):Node×Int).1=ul n from rfl]
  cases ul n
  ·exact(aj rfl).2 (.ret _)
  refine(ah rfl).2 (ax (p:=o.2.2.2.1=1) aT (fun k=>af.2 ⟨rfl,?_⟩) fun k=>ax (p:=o.2.2.2.1=2) aT (fun k2=>af.2 ⟨rfl,?_⟩) fun k2=>(aj (by rw[aT];exact decide_eq_true (by omega))).2 (af.2 ⟨rfl,?_⟩))
  ·rw[decide_eq_true k];exact uY (r:=FJ n.2.2.2.2.2.2.2 o.2.2.2.2.2) (fun h=>rfl)
  ·rw[decide_eq_false k,decide_eq_true k2];exact uY (r:=GM n.2.2.2.2.2.2.2) (fun h=>rfl)
  ·rw[decide_eq_false k,decide_eq_false k2];exact uY (r:=xA n.2.2.2.2.2.2.2 o.2.2.2.2.1) (fun h=>rfl)
 ·rw[decide_eq_false h];exact(aj (oo h)).2 (.ret _)
def vl:(au×Node×yz)→(Node×Int):=fun(m,c,k)=>BV m c k
def NK:aB:=⟨[bW,du,HZ], [du,yI],(@tt (au×Node×yz)),vl⟩
theorem Sj:Sd 28 NK:=aG ar cO true 107 [] (fun A (m,n,o)=>Lr A m n o) (fc Tryz.func28 fz) (sc Dd (sc AA (sc zW (sc Ie (sc Qk (sc R3 sz)))))) fun(m,n,o) hp h=>O8
def JM(A:bg)(m:au)(n:Node)(o:yz):LT (Node×Int) Empty:=.need (A.k (@tt (au×Node)) (m,n)) (.br (A.c .neq (A.k jG (m,n)) 0) (.ret ((0,0,(0,0,0,0,0),(0,0,0,0,0,0,0),0,false,0,0,([]:List Int),([]:List bu),0,0),(A.k jG (m,n)))) (.br (A.c .lss o.2.2.2.1 1) (.ret ((0,0,(0,0,0,0,0),(0,0,0,0,0,0,0),0,false,0,0,([]:List Int),([]:List bu),0,0),2)) (.br (A.c .gtr o.2.2.2.1 3) (.ret ((0,0,(0,0,0,0,0),(0,0,0,0,0,0,0),0,false,0,0,([]:List Int),([]:List bu),0,0),2)) (.need (A.k vP n) (.need (A.k (@tt Node) (A.k bS n)) (.br (A.not (A.k qj (A.k bS n))) (.ret ((A.k bS n),0)) (.br (A.c .eql o.2.2.2.1 1) (.need (A.k (@tt (bP×List Int)) ((A.k bS n).2.2.2.2.2.2.2,o.2.2.2.2.2)) (.br (A.c .neq (A.k Ay ((A.k bS n).2.2.2.2.2.2.2,o.2.2.2.2.2)).2 0) (.ret ((0,0,(0,0,0,0,0),(0,0,0,0,0,0,0),0,false,0,0,([]:List Int),([]:List bu),0,0),(A.k Ay ((A.k bS n).2.2.2.2.2.2.2,o.2.2.2.2.2)).2)) (.ret (((A.k bS n).1,(A.k bS n).2.1,(A.k bS n).2.2.1,(A.k bS n).2.2.2.1,(A.k bS n).2.2.2.2.1,(A.k bS n).2.2.2.2.2.1,(A.k bS n).2.2.2.2.2.2.1,(A.k Ay ((A.k bS n).2.2.2.2.2.2.2,o.2.2.2.2.2)).1),0)))) (.br (A.c .eql o.2.2.2.1 2) (.need (A.k (@tt bP) (A.k bS n).2.2.2.2.2.2.2) (.br (A.c .neq (A.k zV (A.k bS n).2.2.2.2.2.2.2).2 0) (.ret ((0,0,(0,0,0,0,0),(0,0,0,0,0,0,0),0,false,0,0,([]:List Int),([]:List bu),0,0),(A.k zV (A.k bS n).2.2.2.2.2.2.2).2)) (.ret (((A.k bS n).1,(A.k bS n).2.1,(A.k bS n).2.2.1,(A.k bS n).2.2.2.1,(A.k bS n).2.2.2.2.1,(A.k bS n).2.2.2.2.2.1,(A.k bS n).2.2.2.2.2.2.1,(A.k zV (A.k bS n).2.2.2.2.2.2.2).1),0)))) (.need (A.k (@tt (bP×Int)) ((A.k bS n).2.2.2.2.2.2.2,o.2.2.2.2.1)) (.br (A.c .neq (A.k zP ((A.k bS n).2.2.2.2.2.2.2,o.2.2.2.2.1)).2 0) (.ret ((0,0,(0,0,0,0,0),(0,0,0,0,0,0,0),0,false,0,0,([]:List Int),([]:List bu),0,0),(A.k zP ((A.k bS n).2.2.2.2.2.2.2,o.2.2.2.2.1)).2)) (.ret (((A.k bS n).1,(A.k bS n).2.1,(A.k bS n).2.2.1,(A.k bS n).2.2.2.1,(A.k bS n).2.2.2.2.1,(A.k bS n).2.2.2.2.2.1,(A.k bS n).2.2.2.2.2.2.1,(A.k zP ((A.k bS n).2.2.2.2.2.2.2,o.2.2.2.2.1)).1),0))))))))))))
theorem RL{m:au}{n:Node}{o:yz}:aC Empty.elim (JM ai m n o) (BV m n o):=by
 unfold JM BV
 refine af.2 ⟨rfl,?_⟩
 rw[show ai.k jG (m,n)=fw m n from rfl,show ai.k bS n=n from rfl,show ai.k qj n=ul n from rfl]
 by_cases h:fw m n=0
 ·rw[decide_eq_true h,cond_true]
  refine(ah (xt h)).2 (ax (p:=o.2.2.2.1<1) rfl (fun h3=>?_) fun h3=>ax (p:=3<o.2.2.2.1) rfl (fun h4=>?_) fun h4=>af.2 ⟨nZ h,af.2 ⟨rfl,?_⟩⟩)
  ·exact ao (by rw[decide_eq_false (show ¬(1≤o.2.2.2.1∧o.2.2.2.1≤3) by omega)];rfl) (.ret _)
  ·exact ao (by rw[decide_eq_false (show ¬(1≤o.2.2.2.1∧o.2.2.2.1≤3) by omega)];rfl) (.ret _)
  rw[decide_eq_true (show 1≤o.2.2.2.1∧o.2.2.2.1≤3 by omega),cond_true]
  cases ul n
  ·exact(aj rfl).2 (.ret _)
  refine(ah rfl).2 (ax (p:=o.2.2.2.1=1) aT (fun k=>af.2 ⟨rfl,?_⟩) fun k=>ax (p:=o.2.2.2.1=2) aT (fun k2=>af.2 ⟨rfl,?_⟩) fun k2=>af.2 ⟨rfl,?_⟩)
  ·rw[decide_eq_true k];exact uY (r:=FJ n.2.2.2.2.2.2.2 o.2.2.2.2.2) (fun h=>rfl)
  ·rw[decide_eq_false k,decide_eq_true k2];exact uY (r:=GM n.2.2.2.2.2.2.2) (fun h=>rfl)
  ·rw[decide_eq_false k,decide_eq_false k2];exact uY (r:=xA n.2.2.2.2.2.2.2 o.2.2.2.2.1) (fun h=>rfl)
 ·rw[decide_eq_false h];exact(aj (oo h)).2 (.ret _)
def uE:(au×Node×yz)→(Node×Int):=fun(m,c,k)=>BV m c k
def Qu:aB:=⟨[bW,du,HZ], [du,yI],(@tt (au×Node×yz)),uE⟩
theorem NR:Sd 29 Qu:=aG ar cO true 109 [] (fun A (m,n,o)=>JM A m n o) (fc Tryz.func29 fz) (sc AF (sc Dq (sc Di (sc PQ (sc MU (sc SQ sz)))))) fun(m,n,o) hp h=>RL
end Go.Ev.M
