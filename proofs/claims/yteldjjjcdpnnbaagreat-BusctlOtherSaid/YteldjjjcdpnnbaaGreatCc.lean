/-
  PROVED: what busctl.Hear and metronomeref18.Hear compute. Conditions: none.
-/
import Derived.Test.YteldjjjcdpnnbaaGreatCb
import Derived.Test.YteldjjjcdpnnbaaGreatDa
import Derived.Test.YteldjjjcdpnnbaaGreatDb
import Derived.Test.YteldjjjcdpnnbaaGreatKa
namespace Go.Ev.M
open Go.Proofs
set_option maxRecDepth 100000
set_option linter.unusedVariables false
set_option linter.unusedSimpArgs false
open Go.Ev.Pl
structure Eo where
 (a0:Int) (a1:List Seen) (a2:Int) (a4:tA) (a5:Int)
inductive Jp where
 | c0 (p:Eo) (a3:Int)
noncomputable def MI:Jp→fJ
 | .c0 p a3=>⟨[⟨134,45,(en [(0,vi p.a0),(4,.ptr 0 0),(11,.sl gh p.a1),(12,vi p.a2),(13,vi a3)]),[.inLoop (cw Tryz.f134 [1,0,1,0,0]),.inBlock 0,.code (cw Tryz.f134 [1,1])],[],none⟩],[.flat false [vi p.a4.1,vi p.a4.2.1,vi p.a4.2.2.1,vi p.a4.2.2.2.1,vi p.a4.2.2.2.2.1,vi p.a4.2.2.2.2.2.1,vi p.a4.2.2.2.2.2.2,vi p.a5,.bZ true],.dead]⟩
def Vs(A:a_)(n:Int)(seen:List Seen):LT (kU×Int×Bool) Jp:=.more (.c0 ⟨n,seen,(A.l seen),(0,0,0,0,0,0,0),0⟩ 0)
def DI(A:a_):Jp→LT (kU×Int×Bool) Jp
 | .c0 p a3=>.br (A.c .lss a3 p.a2) (.need (A.and (A.c .leq 0 a3) (A.c .lss a3 (A.l p.a1))) (.br (A.c .neq (A.n gh p.a1 a3:Seen).1 2) (.more (.c0 p (A.b .add .i64 a3 1))) (.need (A.k (@tt ((Int×List Int))) (A.n gh p.a1 a3:Seen).2.2) (.br (A.k xY (A.n gh p.a1 a3:Seen).2.2).2 (.need (A.k (@tt ((Int×Int×Int×Int×Int)×Int)) ((A.k xY (A.n gh p.a1 a3:Seen).2.2).1.2.2.1,p.a0)) (.br (A.c .eql (A.k lv ((A.k xY (A.n gh p.a1 a3:Seen).2.2).1.2.2.1,p.a0)) 0) (.br (A.c .lss (A.k xY (A.n gh p.a1 a3:Seen).2.2).1.2.2.2.1 p.a0) (.ret ((A.k xY (A.n gh p.a1 a3:Seen).2.2).1,(A.n gh p.a1 a3:Seen).2.1,true)) (.more (.c0 p (A.b .add .i64 a3 1)))) (.more (.c0 p (A.b .add .i64 a3 1))))) (.more (.c0 p (A.b .add .i64 a3 1))))))) (.ret ((0,0,(0,0,0,0,0),0,([]:List Int)),0,false))
def v7(n:Int)(s:Seen):Bool:=decide (s.1=2)&&(decide ((kj s.2.2).2=true)&&(decide (jo ((kj s.2.2).1.2.2.1,n)=0)&&decide ((kj s.2.2).1.2.2.2.1<n)))
def gv(n:Int):List Seen→kU×Int×Bool
 | []=>((0,0,(0,0,0,0,0),0,([]:List Int)),0,false)
 | s::l=>bif v7 n s then((kj s.2.2).1,s.2.1,true) else gv n l
theorem Ow{n:Int}{l:List Seen}(h:(gv n l).2.2=true):jo ((gv n l).1.2.2.1,n)=0∧(gv n l).1.2.2.2.1<n∧fj (gv n l).1=true:=by
 induction l with
 | nil=>exact absurd h (by simp[gv])
 | cons s l ih=>
   rw[gv] at h ⊢
   cases hx:v7 n s
   ·rw[hx] at h;exact ih h
   ·simp only[v7,Bool.and_eq_true,decide_eq_true_eq] at hx
    exact⟨hx.2.2.1,hx.2.2.2,Kq hx.2.1⟩
theorem SN{b:Bool}:b=decide (b=true):=by cases b<;>rfl
theorem DU{p:Eo}{n:Int}{seen:List Seen}(h0:p.a0=n)(h1:p.a1=seen)(h2:p.a2=(seen.length:Int))(hl:seen.length≤140737488355328):∀(j i:Nat),seen.length-i=j→i≤seen.length→aF (DI aj) (.more (.c0 p (i:Int))) (gv n (seen.drop i)):=by
 intro j
 induction j with
 | zero=>
   intro i hj hi
   have:i=seen.length:=by omega
   subst this
   rw[al,DI,h2,List.drop_length]
   exact(ah (by rw[ao];simp)).2 (.ret _)
 | succ j ih=>
   intro i hj hi
   have hi':i<seen.length:=by omega
   have nx:=ih (i+1) (by omega) (by omega)
   rw[al,DI,h0,h1,h2]
   refine(ai (by rw[ao];exact decide_eq_true (by omega))).2 (af.2 ⟨aO hi',?_⟩)
   rw[show(aj.n gh seen (i:Int):Seen)=seen[i] from getD_in hi' _,List.drop_eq_getElem_cons hi',gv,cn (i:=i) (by omega)]
   generalize seen[i]=s
   generalize gv n (seen.drop (i+1))=r at nx ⊢
   have hx:v7 n s=false→aF (DI aj) (.more (.c0 p ((i+1:Nat):Int))) (bif v7 n s then((kj s.2.2).1,s.2.1,true) else r):=fun h=>ax (by rw[h];rfl) nx
   rw[show aj.k xY s.2.2=kj s.2.2 from KC]
   refine aB (p:=¬s.1=2) bu (fun h=>hx (by rw[v7,decide_eq_false h];rfl)) fun g1=>af.2 ⟨rfl,?_⟩
   refine aB (p:=(kj s.2.2).2=true) SN (fun g2=>af.2 ⟨rfl,?_⟩) fun h=>hx (by rw[v7,decide_eq_false h,Bool.false_and,Bool.and_false])
   refine aB (p:=jo ((kj s.2.2).1.2.2.1,n)=0) aZ (fun g3=>?_) fun h=>hx (by rw[v7,decide_eq_false h,Bool.false_and,Bool.and_false,Bool.and_false])
   refine aB (p:=(kj s.2.2).1.2.2.2.1<n) rfl (fun g4=>?_) fun h=>hx (by rw[v7,decide_eq_false h,Bool.and_false,Bool.and_false,Bool.and_false])
   exact ax (by rw[v7,decide_eq_true (Decidable.not_not.1 g1),decide_eq_true g2,decide_eq_true g3,decide_eq_true g4];rfl) (.ret _)
theorem TO{n:Int}{seen:List Seen}(hl:seen.length≤140737488355328):aF (DI aj) (Vs aj n seen) (gv n seen):=
 DU (p:=⟨n,seen,(seen.length:Int),(0,0,0,0,0,0,0),0⟩) rfl rfl rfl hl seen.length 0 rfl (by omega)
def pZ:(Int×List Seen)→(kU×Int×Bool):=fun(m,n)=>gv m n
def QF:aC:=⟨[yI,(.slice gh)], [Di,yI,.bool],(@tt (Int×List Seen)),pZ⟩
theorem Se:Sd 134 QF:=aK ap cm true 21 [⟨134,2, [[0,4,11,12,13]]⟩] [] (fun A (n,seen)=>Vs A n seen) DI MI (fc Tryz.func134 fz) (sc Yr (sc zw sz)) (fun A y=>match y with |.c0 p a3=>⟨70,by kernel_rfl,by kernel_rfl⟩) fun(n,seen) hp h=>TO h.2.1
def P9(A:a_)(m:au)(c:dD)(f:kU):LT Bool Empty:=.need (A.k (@tt (au×Int×Int)) (m,c.2.2.1,c.2.1)) (.br (A.c .eql (A.k oq (m,c.2.2.1,c.2.1)).2 0) (.br (A.c .neq (A.k oq (m,c.2.2.1,c.2.1)).1 3) (.need (A.and (A.c .leq 0 c.2.2.1) (A.c .lss c.2.2.1 (A.l m.2.2.2.2.2.2.2))) (.need (A.and (A.c .leq 0 c.2.1) (A.c .lss c.2.1 (A.l (A.n bg m.2.2.2.2.2.2.2 c.2.2.1:Mode).1))) (.br (A.c .eql (A.k oq (m,c.2.2.1,c.2.1)).2 0) (.br (A.c .eql f.1 (A.k oq (m,c.2.2.1,c.2.1)).1) (.ret (A.c .eql (A.l f.2.2.2.2) (A.n yI (A.n bg m.2.2.2.2.2.2.2 c.2.2.1:Mode).1 c.2.1:Int))) (.ret false)) (.ret false)))) (.br (A.c .eql (A.k oq (m,c.2.2.1,c.2.1)).2 0) (.br (A.c .eql f.1 (A.k oq (m,c.2.2.1,c.2.1)).1) (.ret (A.c .eql (A.l f.2.2.2.2) 0)) (.ret false)) (.ret false))) (.br (A.c .eql (A.k oq (m,c.2.2.1,c.2.1)).2 0) (.br (A.c .eql f.1 (A.k oq (m,c.2.2.1,c.2.1)).1) (.ret (A.c .eql (A.l f.2.2.2.2) 0)) (.ret false)) (.ret false)))
def mO(m:au)(c:dD)(f:kU):Bool:=decide ((gN m c.2.2.1 c.2.1).2=0)&&(decide (f.1=(gN m c.2.2.1 c.2.1).1)&&decide ((f.2.2.2.2.length:Int)=bif decide ((gN m c.2.2.1 c.2.1).1=3) then(0:Int) else(aj.n (.int .i64) (aj.n bg m.2.2.2.2.2.2.2 c.2.2.1:Mode).1 c.2.1:Int)))
theorem rq{m:au}{k n:Int}(h:(gN m k n).2=0):dY m=true∧(0≤n∧n≤m.1-1)∧(0≤k∧k<ek m):=by
 unfold gN at h
 by_cases h1:gi m n=0
 ·obtain⟨a,b⟩:=qC h1
  by_cases h2:0≤k∧k≤ek m-1
  ·exact⟨a,b,by omega⟩
  ·rw[decide_eq_true h1,decide_eq_false h2,cond_true,cond_false] at h;exact absurd h (by decide)
 ·rw[decide_eq_false h1,cond_false] at h;exact absurd h h1
theorem LO{m:au}{c:dD}{f:kU}:aF Empty.elim (P9 aj m c f) (mO m c f):=by
 unfold P9
 refine af.2 ⟨rfl,?_⟩
 rw[show aj.k oq (m,c.2.2.1,c.2.1)=gN m c.2.2.1 c.2.1 from rfl]
 by_cases h:(gN m c.2.2.1 c.2.1).2=0
 ·obtain⟨hm,hn,hk⟩:=rq h
  have hx:=(kK (pH hm hk.1 hk.2)).1
  have e:aj.c .eql (gN m c.2.2.1 c.2.1).2 0=true:=K8 h
  rw[e,mO,decide_eq_true h,Bool.true_and]
  refine(ai rfl).2 (aB (p:=¬(gN m c.2.2.1 c.2.1).1=3) bu (fun g=>af.2 ⟨nT hk.1 hk.2,af.2 ⟨nC hx hn.1 (by omega),(ai rfl).2 ?_⟩⟩) fun g=>(ai rfl).2 ?_)
  ·rw[decide_eq_false g]
   refine aB (p:=f.1=(gN m c.2.2.1 c.2.1).1) aZ (fun k=>?_) fun k=>?_
   ·exact ax (by rw[decide_eq_true k,fL];exact aZ) (.ret _)
   ·exact ax (by rw[decide_eq_false k];rfl) (.ret _)
  ·rw[decide_eq_true (Decidable.not_not.1 g)]
   refine aB (p:=f.1=(gN m c.2.2.1 c.2.1).1) aZ (fun k=>?_) fun k=>?_
   ·exact ax (by rw[decide_eq_true k,fL];exact aZ) (.ret _)
   ·exact ax (by rw[decide_eq_false k];rfl) (.ret _)
 ·have e:aj.c .eql (gN m c.2.2.1 c.2.1).2 0=false:=Sm h
  rw[e,mO,decide_eq_false h]
  exact(ah rfl).2 ((ah rfl).2 (.ret _))
def BM:(au×dD×kU)→Bool:=fun(m,c,k)=>mO m c k
def Vn:aC:=⟨[bM,l5,Di], [.bool],(@tt (au×dD×kU)),BM⟩
theorem Mr:Sd 99 Vn:=aM ap cm true 75 [] (fun A (m,c,f)=>P9 A m c f) (fc Tryz.func99 fz) (sc Vj sz) fun(m,c,f) hp h=>LO
def Qx(A:a_)(m:au)(c:dD)(f:kU):LT Bool Empty:=.need (A.k (@tt (au×Int×Int)) (m,c.2.2.1,c.2.1)) (.br (A.c .eql (A.k o8 (m,c.2.2.1,c.2.1)).2 0) (.br (A.c .neq (A.k o8 (m,c.2.2.1,c.2.1)).1 3) (.need (A.and (A.c .leq 0 c.2.2.1) (A.c .lss c.2.2.1 (A.l m.2.2.2.2.2.2.2))) (.need (A.and (A.c .leq 0 c.2.1) (A.c .lss c.2.1 (A.l (A.n bg m.2.2.2.2.2.2.2 c.2.2.1:Mode).1))) (.br (A.c .eql (A.k o8 (m,c.2.2.1,c.2.1)).2 0) (.br (A.c .eql f.1 (A.k o8 (m,c.2.2.1,c.2.1)).1) (.ret (A.c .eql (A.l f.2.2.2.2) (A.n yI (A.n bg m.2.2.2.2.2.2.2 c.2.2.1:Mode).1 c.2.1:Int))) (.ret false)) (.ret false)))) (.br (A.c .eql (A.k o8 (m,c.2.2.1,c.2.1)).2 0) (.br (A.c .eql f.1 (A.k o8 (m,c.2.2.1,c.2.1)).1) (.ret (A.c .eql (A.l f.2.2.2.2) 0)) (.ret false)) (.ret false))) (.br (A.c .eql (A.k o8 (m,c.2.2.1,c.2.1)).2 0) (.br (A.c .eql f.1 (A.k o8 (m,c.2.2.1,c.2.1)).1) (.ret (A.c .eql (A.l f.2.2.2.2) 0)) (.ret false)) (.ret false)))
theorem U8{m:au}{c:dD}{f:kU}:aF Empty.elim (Qx aj m c f) (mO m c f):=LO
def EJ:(au×dD×kU)→Bool:=fun(m,c,k)=>mO m c k
def VF:aC:=⟨[bM,l5,Di], [.bool],(@tt (au×dD×kU)),EJ⟩
theorem R5:Sd 105 VF:=aM ap cm true 75 [] (fun A (m,c,f)=>Qx A m c f) (fc Tryz.func105 fz) (sc VS sz) fun(m,c,f) hp h=>U8
def Pz(A:a_)(m:au)(n:Node)(f:kU):LT Bool Empty:=.need (A.k (@tt (au×dD)) (m,f.2.2.1)) (.br (A.k Ct (m,f.2.2.1)) (.br (A.c .neq f.2.2.1.2.1 n.1) (.need (A.k (@tt (dD×Int)) (f.2.2.1,f.2.2.1.2.1)) (.br (A.k Hl (f.2.2.1,f.2.2.1.2.1)) (.need (A.k (@tt (au×dD×kU)) (m,f.2.2.1,f)) (.ret (A.k BM (m,f.2.2.1,f)))) (.ret false))) (.ret false)) (.ret false))
def Jl(m:au)(n:Node)(f:kU):Bool:=fR m f.2.2.1&&(decide (¬f.2.2.1.2.1=n.1)&&(Du f.2.2.1 f.2.2.1.2.1&&mO m f.2.2.1 f))
theorem Zf{m:au}{n:Node}{f:kU}:aF Empty.elim (Pz aj m n f) (Jl m n f):=by
 unfold Pz Jl
 refine af.2 ⟨rfl,?_⟩
 rw[show aj.k Ct (m,f.2.2.1)=fR m f.2.2.1 from rfl]
 cases fR m f.2.2.1
 ·exact(ah rfl).2 (.ret _)
 refine(ai rfl).2 (aB (p:=¬f.2.2.1.2.1=n.1) bu (fun h=>af.2 ⟨rfl,?_⟩) fun h=>ax (by rw[decide_eq_false h];rfl) (.ret _))
 rw[decide_eq_true h,show aj.k Hl (f.2.2.1,f.2.2.1.2.1)=Du f.2.2.1 f.2.2.1.2.1 from rfl]
 cases Du f.2.2.1 f.2.2.1.2.1
 ·exact(ah rfl).2 (.ret _)
 ·exact(ai rfl).2 (af.2 ⟨rfl,.ret _⟩)
def CK:(au×Node×kU)→Bool:=fun(m,c,k)=>Jl m c k
def Qg:aC:=⟨[bM,dC,Di], [.bool],(@tt (au×Node×kU)),CK⟩
theorem XQ:Sd 136 Qg:=aM ap cm true 44 [] (fun A (m,n,f)=>Pz A m n f) (fc Tryz.func136 fz) (sc LZ (sc Mr (sc Qv sz))) fun(m,n,f) hp h=>Zf
def Oh(A:a_)(m:au)(c:dD)(req:Int):LT dD Empty:=.need (A.k (@tt (au×dD×Int)) (m,c,req)) (.br (A.c .eql (A.k Ia (m,c,req)).2 0) (.ret (A.k Ia (m,c,req)).1) (.ret c))
def kL(m:au)(c:dD)(r:Int):dD:=bif decide ((qV m c r).2=0) then(qV m c r).1 else c
theorem Pf{m:au}{c:dD}{r:Int}:aF Empty.elim (Oh aj m c r) (kL m c r):=by
 unfold Oh kL
 refine af.2 ⟨rfl,aB (p:=(qV m c r).2=0) aZ (fun h=>?_) fun h=>?_⟩
 ·exact ax (by rw[decide_eq_true h];rfl) (.ret _)
 ·exact ax (by rw[decide_eq_false h];rfl) (.ret _)
def G4:(au×dD×Int)→dD:=fun(m,c,k)=>kL m c k
def Ul:aC:=⟨[bM,l5,yI], [l5],(@tt (au×dD×Int)),G4⟩
theorem Sg:Sd 117 Ul:=aM ap cm true 38 [] (fun A (m,c,req)=>Oh A m c req) (fc Tryz.func117 fz) (sc SF sz) fun(m,c,req) hp h=>Pf
def pN(m:au)(n:Node)(c:dD)(f:kU):Node:=(n.1,3,kL m c f.2.1,(n.1,m.1,c.2.2.2.2,1,0,0,0),0,false,0,bif decide (f.1=4) then(oC n.2.2.2.2.2.2.2 c.2.1 f.2.2.2.2).1 else n.2.2.2.2.2.2.2)
open Go.Ev.Pl
def Nz(m:au)(n:Node)(seen:List Seen)(once:Bool):Node×Int×Bool×Int:=
 bif decide (gG m n=0) then
  bif decide (n.2.1=1) then
   bif decide ((seen.length:Int)=2) then
    bif (gv m.1 seen).2.2 then
     bif decide ((gv m.1 seen).1.1=1) then
      bif decide ((gv m.1 seen).1.2.2.2.1=n.1) then(n,0,false,0)
      else bif once && !n.2.2.2.2.2.1 then((n.1,n.2.1,n.2.2.1,n.2.2.2.1,(ul m n.1).1,true,n.2.2.2.2.2.2),(gv m.1 seen).2.1,false,0)
      else(pN m n (0,(gv m.1 seen).1.2.2.2.1,0,0,aj.b .shl .i64 1 (gv m.1 seen).1.2.2.2.1) (gv m.1 seen).1,(gv m.1 seen).2.1,true,0)
     else bif Jl m n (gv m.1 seen).1 then(pN m n (gv m.1 seen).1.2.2.1 (gv m.1 seen).1,(gv m.1 seen).2.1,true,0)
     else(n,0,false,0)
    else(n,0,false,0)
   else(jC,0,false,2)
  else(jC,0,false,181)
 else(jC,0,false,gG m n)
structure FG where
 (a0:Int) (a1:au) (a2 a3:tA) (a4:Int) (a5:Bool) (a6 a7 a8 a9:Int) (cd:Node) (dS:kU)
structure IE where
 (b0:au) (b1:kU) (b2:dD) (b3:Int) (b4:Node) (b5 b6:tA) (b7:Int) (b8:Bool) (b9 b10 b11 b12:Int)
structure Ga where
 (c0:au) (c1:kU) (c2:dD) (c3:Int) (c4:Node) (c5 c6:tA) (c7:Int) (c8:Bool) (c9 c10 c11 c12:Int)
structure IN where
 (d0:au) (d1 d2:Int) (d3:Node) (d4 d5:tA) (d6:Int) (d7:Bool) (d8 d9 kT l8:Int)
structure EW where
 (e0:au) (e1 e2:Int) (e3:Node) (e4 e5:tA) (e6:Int) (e7:Bool) (e8 e9 e10 e11:Int)
inductive JS where
 | c0 (p:FG)
 | c1 (p:IE)
 | c2 (p:Ga)
 | c3 (p:IN)
 | c4 (p:EW)
noncomputable def Pw:JS→fJ
 | .c0 p=>⟨[⟨57,101,(en [(3,.ptr 0 0),(6,.ptr 1 0),(10,.ptr 2 0),(12,.ptr 3 0),(13,vi p.a0)]),[.code (cw Tryz.f57 [1,1,1,1,0,0,1,1,0]),.code (cw Tryz.f57 [1,1,1,1,0,0,1,1,1]),.inBlock 1,.code (cw Tryz.f57 [1,1,1,1,1])],[],none⟩],[.flat false [vi p.a1.1,vi p.a1.2.1,vi p.a1.2.2.1,vi p.a1.2.2.2.1,vi p.a1.2.2.2.2.1,vi p.a1.2.2.2.2.2.1,.sl .bool p.a1.2.2.2.2.2.2.1,.sl bg p.a1.2.2.2.2.2.2.2],.flat false [vi p.a2.1,vi p.a2.2.1,vi p.a2.2.2.1,vi p.a2.2.2.2.1,vi p.a2.2.2.2.2.1,vi p.a2.2.2.2.2.2.1,vi p.a2.2.2.2.2.2.2,vi p.a3.1,vi p.a3.2.1,vi p.a3.2.2.1,vi p.a3.2.2.2.1,vi p.a3.2.2.2.2.1,vi p.a3.2.2.2.2.2.1,vi p.a3.2.2.2.2.2.2,vi p.a4,vb p.a5,vi p.a6,vi p.a7,.bZ true,.bZ true,vi p.a8,vi p.a9],.flat false [vi p.cd.1,vi p.cd.2.1,vi p.cd.2.2.1.1,vi p.cd.2.2.1.2.1,vi p.cd.2.2.1.2.2.1,vi p.cd.2.2.1.2.2.2.1,vi p.cd.2.2.1.2.2.2.2,vi p.cd.2.2.2.1.1,vi p.cd.2.2.2.1.2.1,vi p.cd.2.2.2.1.2.2.1,vi p.cd.2.2.2.1.2.2.2.1,vi p.cd.2.2.2.1.2.2.2.2.1,vi p.cd.2.2.2.1.2.2.2.2.2.1,vi p.cd.2.2.2.1.2.2.2.2.2.2,vi p.cd.2.2.2.2.1,vb p.cd.2.2.2.2.2.1,vi p.cd.2.2.2.2.2.2.1,vi p.cd.2.2.2.2.2.2.2.1,.sl yU p.cd.2.2.2.2.2.2.2.2.1,.sl aS p.cd.2.2.2.2.2.2.2.2.2.1,vi p.cd.2.2.2.2.2.2.2.2.2.2.1,vi p.cd.2.2.2.2.2.2.2.2.2.2.2],.flat false [vi p.dS.1,vi p.dS.2.1,vi p.dS.2.2.1.1,vi p.dS.2.2.1.2.1,vi p.dS.2.2.1.2.2.1,vi p.dS.2.2.1.2.2.2.1,vi p.dS.2.2.1.2.2.2.2,vi p.dS.2.2.2.1,.sl yU p.dS.2.2.2.2],.dead]⟩
 | .c1 p=>⟨[⟨135,29,(en [(0,.agg [vi p.b0.1,vi p.b0.2.1,vi p.b0.2.2.1,vi p.b0.2.2.2.1,vi p.b0.2.2.2.2.1,vi p.b0.2.2.2.2.2.1,.sl .bool p.b0.2.2.2.2.2.2.1,.sl bg p.b0.2.2.2.2.2.2.2]),(1,.ptr 0 0),(2,.agg [vi p.b1.1,vi p.b1.2.1,vi p.b1.2.2.1.1,vi p.b1.2.2.1.2.1,vi p.b1.2.2.1.2.2.1,vi p.b1.2.2.1.2.2.2.1,vi p.b1.2.2.1.2.2.2.2,vi p.b1.2.2.2.1,.sl yU p.b1.2.2.2.2]),(3,.agg [vi p.b2.1,vi p.b2.2.1,vi p.b2.2.2.1,vi p.b2.2.2.2.1,vi p.b2.2.2.2.2])]),[.code (cw Tryz.f135 [0]),.code (cw Tryz.f135 [1])],[],none⟩,⟨57,101,(en [(6,.ptr 1 0),(10,.ptr 0 0),(13,vi p.b3)]),[.kp (ow Tryz.f57 [1,1,1,1,0,0,1,1,1,1,1,0]) [0,0,0,4,0,16,48,124,255] 8 [] [],.inBlock 1,.code (cw Tryz.f57 [1,1,1,1,1])],[],none⟩],[.flat false [vi p.b4.1,vi p.b4.2.1,vi p.b4.2.2.1.1,vi p.b4.2.2.1.2.1,vi p.b4.2.2.1.2.2.1,vi p.b4.2.2.1.2.2.2.1,vi p.b4.2.2.1.2.2.2.2,vi p.b4.2.2.2.1.1,vi p.b4.2.2.2.1.2.1,vi p.b4.2.2.2.1.2.2.1,vi p.b4.2.2.2.1.2.2.2.1,vi p.b4.2.2.2.1.2.2.2.2.1,vi p.b4.2.2.2.1.2.2.2.2.2.1,vi p.b4.2.2.2.1.2.2.2.2.2.2,vi p.b4.2.2.2.2.1,vb p.b4.2.2.2.2.2.1,vi p.b4.2.2.2.2.2.2.1,vi p.b4.2.2.2.2.2.2.2.1,.sl yU p.b4.2.2.2.2.2.2.2.2.1,.sl aS p.b4.2.2.2.2.2.2.2.2.2.1,vi p.b4.2.2.2.2.2.2.2.2.2.2.1,vi p.b4.2.2.2.2.2.2.2.2.2.2.2],.flat false [vi p.b5.1,vi p.b5.2.1,vi p.b5.2.2.1,vi p.b5.2.2.2.1,vi p.b5.2.2.2.2.1,vi p.b5.2.2.2.2.2.1,vi p.b5.2.2.2.2.2.2,vi p.b6.1,vi p.b6.2.1,vi p.b6.2.2.1,vi p.b6.2.2.2.1,vi p.b6.2.2.2.2.1,vi p.b6.2.2.2.2.2.1,vi p.b6.2.2.2.2.2.2,vi p.b7,vb p.b8,vi p.b9,vi p.b10,.bZ true,.bZ true,vi p.b11,vi p.b12],.dead]⟩
 | .c2 p=>⟨[⟨135,29,(en [(0,.agg [vi p.c0.1,vi p.c0.2.1,vi p.c0.2.2.1,vi p.c0.2.2.2.1,vi p.c0.2.2.2.2.1,vi p.c0.2.2.2.2.2.1,.sl .bool p.c0.2.2.2.2.2.2.1,.sl bg p.c0.2.2.2.2.2.2.2]),(1,.ptr 0 0),(2,.agg [vi p.c1.1,vi p.c1.2.1,vi p.c1.2.2.1.1,vi p.c1.2.2.1.2.1,vi p.c1.2.2.1.2.2.1,vi p.c1.2.2.1.2.2.2.1,vi p.c1.2.2.1.2.2.2.2,vi p.c1.2.2.2.1,.sl yU p.c1.2.2.2.2]),(3,.agg [vi p.c2.1,vi p.c2.2.1,vi p.c2.2.2.1,vi p.c2.2.2.2.1,vi p.c2.2.2.2.2])]),[.code (cw Tryz.f135 [0]),.code (cw Tryz.f135 [1])],[],none⟩,⟨57,101,(en [(6,.ptr 1 0),(10,.ptr 0 0),(13,vi p.c3)]),[.ops (ow Tryz.f57 [1,1,1,1,0,0,1,1,1,1,1,1,1,0]) ((ow Tryz.f57 [1,1,1,1,0,0,1,1,1,1,1,1,1,0]).toList.drop 4),.inBlock 1,.code (cw Tryz.f57 [1,1,1,1,1])],[],none⟩],[.flat false [vi p.c4.1,vi p.c4.2.1,vi p.c4.2.2.1.1,vi p.c4.2.2.1.2.1,vi p.c4.2.2.1.2.2.1,vi p.c4.2.2.1.2.2.2.1,vi p.c4.2.2.1.2.2.2.2,vi p.c4.2.2.2.1.1,vi p.c4.2.2.2.1.2.1,vi p.c4.2.2.2.1.2.2.1,vi p.c4.2.2.2.1.2.2.2.1,vi p.c4.2.2.2.1.2.2.2.2.1,vi p.c4.2.2.2.1.2.2.2.2.2.1,vi p.c4.2.2.2.1.2.2.2.2.2.2,vi p.c4.2.2.2.2.1,vb p.c4.2.2.2.2.2.1,vi p.c4.2.2.2.2.2.2.1,vi p.c4.2.2.2.2.2.2.2.1,.sl yU p.c4.2.2.2.2.2.2.2.2.1,.sl aS p.c4.2.2.2.2.2.2.2.2.2.1,vi p.c4.2.2.2.2.2.2.2.2.2.2.1,vi p.c4.2.2.2.2.2.2.2.2.2.2.2],.flat false [vi p.c5.1,vi p.c5.2.1,vi p.c5.2.2.1,vi p.c5.2.2.2.1,vi p.c5.2.2.2.2.1,vi p.c5.2.2.2.2.2.1,vi p.c5.2.2.2.2.2.2,vi p.c6.1,vi p.c6.2.1,vi p.c6.2.2.1,vi p.c6.2.2.2.1,vi p.c6.2.2.2.2.1,vi p.c6.2.2.2.2.2.1,vi p.c6.2.2.2.2.2.2,vi p.c7,vb p.c8,vi p.c9,vi p.c10,.bZ true,.bZ true,vi p.c11,vi p.c12],.dead]⟩
 | .c3 p=>⟨[⟨102,24,(en [(0,.agg [vi p.d0.1,vi p.d0.2.1,vi p.d0.2.2.1,vi p.d0.2.2.2.1,vi p.d0.2.2.2.2.1,vi p.d0.2.2.2.2.2.1,.sl .bool p.d0.2.2.2.2.2.2.1,.sl bg p.d0.2.2.2.2.2.2.2]),(1,.ptr 0 0),(2,vi p.d1)]),[.code (cw Tryz.f102 [0]),.code (cw Tryz.f102 [1])],[],none⟩,⟨135,29,.leaf,[.ops (ow Tryz.f135 [1,1,1,1]) ((ow Tryz.f135 [1,1,1,1]).toList.drop 4)],[],none⟩,⟨57,101,(en [(6,.ptr 1 0),(10,.ptr 0 0),(13,vi p.d2)]),[.kp (ow Tryz.f57 [1,1,1,1,0,0,1,1,1,1,1,0]) [0,0,0,4,0,16,48,124,255] 8 [] [],.inBlock 1,.code (cw Tryz.f57 [1,1,1,1,1])],[],none⟩],[.flat false [vi p.d3.1,vi p.d3.2.1,vi p.d3.2.2.1.1,vi p.d3.2.2.1.2.1,vi p.d3.2.2.1.2.2.1,vi p.d3.2.2.1.2.2.2.1,vi p.d3.2.2.1.2.2.2.2,vi p.d3.2.2.2.1.1,vi p.d3.2.2.2.1.2.1,vi p.d3.2.2.2.1.2.2.1,vi p.d3.2.2.2.1.2.2.2.1,vi p.d3.2.2.2.1.2.2.2.2.1,vi p.d3.2.2.2.1.2.2.2.2.2.1,vi p.d3.2.2.2.1.2.2.2.2.2.2,vi p.d3.2.2.2.2.1,vb p.d3.2.2.2.2.2.1,vi p.d3.2.2.2.2.2.2.1,vi p.d3.2.2.2.2.2.2.2.1,.sl yU p.d3.2.2.2.2.2.2.2.2.1,.sl aS p.d3.2.2.2.2.2.2.2.2.2.1,vi p.d3.2.2.2.2.2.2.2.2.2.2.1,vi p.d3.2.2.2.2.2.2.2.2.2.2.2],.flat false [vi p.d4.1,vi p.d4.2.1,vi p.d4.2.2.1,vi p.d4.2.2.2.1,vi p.d4.2.2.2.2.1,vi p.d4.2.2.2.2.2.1,vi p.d4.2.2.2.2.2.2,vi p.d5.1,vi p.d5.2.1,vi p.d5.2.2.1,vi p.d5.2.2.2.1,vi p.d5.2.2.2.2.1,vi p.d5.2.2.2.2.2.1,vi p.d5.2.2.2.2.2.2,vi p.d6,vb p.d7,vi p.d8,vi p.d9,.bZ true,.bZ true,vi p.kT,vi p.l8],.dead]⟩
 | .c4 p=>⟨[⟨102,24,(en [(0,.agg [vi p.e0.1,vi p.e0.2.1,vi p.e0.2.2.1,vi p.e0.2.2.2.1,vi p.e0.2.2.2.2.1,vi p.e0.2.2.2.2.2.1,.sl .bool p.e0.2.2.2.2.2.2.1,.sl bg p.e0.2.2.2.2.2.2.2]),(1,.ptr 0 0),(2,vi p.e1)]),[.code (cw Tryz.f102 [0]),.code (cw Tryz.f102 [1])],[],none⟩,⟨135,29,.leaf,[.ops (ow Tryz.f135 [1,1,1,1]) ((ow Tryz.f135 [1,1,1,1]).toList.drop 4)],[],none⟩,⟨57,101,(en [(6,.ptr 1 0),(10,.ptr 0 0),(13,vi p.e2)]),[.ops (ow Tryz.f57 [1,1,1,1,0,0,1,1,1,1,1,1,1,0]) ((ow Tryz.f57 [1,1,1,1,0,0,1,1,1,1,1,1,1,0]).toList.drop 4),.inBlock 1,.code (cw Tryz.f57 [1,1,1,1,1])],[],none⟩],[.flat false [vi p.e3.1,vi p.e3.2.1,vi p.e3.2.2.1.1,vi p.e3.2.2.1.2.1,vi p.e3.2.2.1.2.2.1,vi p.e3.2.2.1.2.2.2.1,vi p.e3.2.2.1.2.2.2.2,vi p.e3.2.2.2.1.1,vi p.e3.2.2.2.1.2.1,vi p.e3.2.2.2.1.2.2.1,vi p.e3.2.2.2.1.2.2.2.1,vi p.e3.2.2.2.1.2.2.2.2.1,vi p.e3.2.2.2.1.2.2.2.2.2.1,vi p.e3.2.2.2.1.2.2.2.2.2.2,vi p.e3.2.2.2.2.1,vb p.e3.2.2.2.2.2.1,vi p.e3.2.2.2.2.2.2.1,vi p.e3.2.2.2.2.2.2.2.1,.sl yU p.e3.2.2.2.2.2.2.2.2.1,.sl aS p.e3.2.2.2.2.2.2.2.2.2.1,vi p.e3.2.2.2.2.2.2.2.2.2.2.1,vi p.e3.2.2.2.2.2.2.2.2.2.2.2],.flat false [vi p.e4.1,vi p.e4.2.1,vi p.e4.2.2.1,vi p.e4.2.2.2.1,vi p.e4.2.2.2.2.1,vi p.e4.2.2.2.2.2.1,vi p.e4.2.2.2.2.2.2,vi p.e5.1,vi p.e5.2.1,vi p.e5.2.2.1,vi p.e5.2.2.2.1,vi p.e5.2.2.2.2.1,vi p.e5.2.2.2.2.2.1,vi p.e5.2.2.2.2.2.2,vi p.e6,vb p.e7,vi p.e8,vi p.e9,.bZ true,.bZ true,vi p.e10,vi p.e11],.dead]⟩
def Oo(A:a_)(m:au)(n:Node)(seen:List Seen):LT (Node×Int×Bool×Int) JS:=.need (A.k (@tt (au×Node×Bool)) (m,n,(A.c .eql n.2.1 1))) (.br (A.c .neq (A.k dW (m,n,(A.c .eql n.2.1 1))).2 0) (.ret ((0,0,(0,0,0,0,0),(0,0,0,0,0,0,0),0,false,0,0,([]:List Int),([]:List bG),0,0),0,false,(A.k dW (m,n,(A.c .eql n.2.1 1))).2)) (.br (A.c .neq (A.l seen) 2) (.ret ((0,0,(0,0,0,0,0),(0,0,0,0,0,0,0),0,false,0,0,([]:List Int),([]:List bG),0,0),0,false,2)) (.need (A.k (@tt (Int×List Seen)) (m.1,seen)) (.br (A.not (A.k pZ (m.1,seen)).2.2) (.ret ((A.k dW (m,n,(A.c .eql n.2.1 1))).1,0,false,0)) (.br (A.c .eql (A.k pZ (m.1,seen)).1.1 1) (.br (A.c .eql (A.k pZ (m.1,seen)).1.2.2.2.1 (A.k dW (m,n,(A.c .eql n.2.1 1))).1.1) (.ret ((A.k dW (m,n,(A.c .eql n.2.1 1))).1,0,false,0)) (.more (.c0 ⟨(A.k pZ (m.1,seen)).2.1,m,(0,0,0,0,0,0,0),(0,0,0,0,0,0,0),0,false,0,0,0,0,(A.k dW (m,n,(A.c .eql n.2.1 1))).1,(A.k pZ (m.1,seen)).1⟩))) (.more (.c0 ⟨(A.k pZ (m.1,seen)).2.1,m,(0,0,0,0,0,0,0),(0,0,0,0,0,0,0),0,false,0,0,0,0,(A.k dW (m,n,(A.c .eql n.2.1 1))).1,(A.k pZ (m.1,seen)).1⟩)))))))
def tj(A:a_):JS→LT (Node×Int×Bool×Int) JS
 | .c0 p=>.br (A.c .eql p.dS.1 1) (.br (A.not p.cd.2.2.2.2.2.1) (.need (A.k (@tt (au×Int)) (p.a1,p.cd.1)) (.ret ((p.cd.1,p.cd.2.1,p.cd.2.2.1,p.cd.2.2.2.1,(A.k wM (p.a1,p.cd.1)),true,p.cd.2.2.2.2.2.2),p.a0,false,0))) (.br (A.c .eql p.dS.1 1) (.need (A.c .leq 0 p.dS.2.2.2.1) (.more (.c1 ⟨p.a1,p.dS,(0,p.dS.2.2.2.1,0,0,(A.b .shl .i64 1 p.dS.2.2.2.1)),p.a0,p.cd,p.a2,p.a3,p.a4,p.a5,p.a6,p.a7,p.a8,p.a9⟩))) (.need (A.k (@tt (au×Node×kU)) (p.a1,p.cd,p.dS)) (.br (A.k CK (p.a1,p.cd,p.dS)) (.more (.c2 ⟨p.a1,p.dS,p.dS.2.2.1,p.a0,p.cd,p.a2,p.a3,p.a4,p.a5,p.a6,p.a7,p.a8,p.a9⟩)) (.ret (p.cd,0,false,0)))))) (.br (A.c .eql p.dS.1 1) (.need (A.c .leq 0 p.dS.2.2.2.1) (.more (.c1 ⟨p.a1,p.dS,(0,p.dS.2.2.2.1,0,0,(A.b .shl .i64 1 p.dS.2.2.2.1)),p.a0,p.cd,p.a2,p.a3,p.a4,p.a5,p.a6,p.a7,p.a8,p.a9⟩))) (.need (A.k (@tt (au×Node×kU)) (p.a1,p.cd,p.dS)) (.br (A.k CK (p.a1,p.cd,p.dS)) (.more (.c2 ⟨p.a1,p.dS,p.dS.2.2.1,p.a0,p.cd,p.a2,p.a3,p.a4,p.a5,p.a6,p.a7,p.a8,p.a9⟩)) (.ret (p.cd,0,false,0)))))
 | .c1 p=>.br (A.c .eql p.b1.1 4) (.need (A.k (@tt (dw×Int×List Int)) (p.b4.2.2.2.2.2.2.2,p.b2.2.1,p.b1.2.2.2.2)) (.need (A.k (@tt (dw×Int×List Int)) (p.b4.2.2.2.2.2.2.2,p.b2.2.1,p.b1.2.2.2.2)) (.br (A.c .eql (A.k sr (p.b4.2.2.2.2.2.2.2,p.b2.2.1,p.b1.2.2.2.2)).2 0) (.more (.c3 ⟨p.b0,p.b1.2.1,p.b3,(p.b4.1,3,p.b2,(p.b4.1,p.b0.1,p.b2.2.2.2.2,1,0,0,0),0,false,0,(A.k sr (p.b4.2.2.2.2.2.2.2,p.b2.2.1,p.b1.2.2.2.2)).1),p.b5,p.b6,p.b7,p.b8,p.b9,p.b10,p.b11,p.b12⟩)) (.more (.c3 ⟨p.b0,p.b1.2.1,p.b3,(p.b4.1,3,p.b2,(p.b4.1,p.b0.1,p.b2.2.2.2.2,1,0,0,0),0,false,0,p.b4.2.2.2.2.2.2.2),p.b5,p.b6,p.b7,p.b8,p.b9,p.b10,p.b11,p.b12⟩))))) (.more (.c3 ⟨p.b0,p.b1.2.1,p.b3,(p.b4.1,3,p.b2,(p.b4.1,p.b0.1,p.b2.2.2.2.2,1,0,0,0),0,false,0,p.b4.2.2.2.2.2.2.2),p.b5,p.b6,p.b7,p.b8,p.b9,p.b10,p.b11,p.b12⟩))
 | .c2 p=>.br (A.c .eql p.c1.1 4) (.need (A.k (@tt (dw×Int×List Int)) (p.c4.2.2.2.2.2.2.2,p.c2.2.1,p.c1.2.2.2.2)) (.need (A.k (@tt (dw×Int×List Int)) (p.c4.2.2.2.2.2.2.2,p.c2.2.1,p.c1.2.2.2.2)) (.br (A.c .eql (A.k sr (p.c4.2.2.2.2.2.2.2,p.c2.2.1,p.c1.2.2.2.2)).2 0) (.more (.c4 ⟨p.c0,p.c1.2.1,p.c3,(p.c4.1,3,p.c2,(p.c4.1,p.c0.1,p.c2.2.2.2.2,1,0,0,0),0,false,0,(A.k sr (p.c4.2.2.2.2.2.2.2,p.c2.2.1,p.c1.2.2.2.2)).1),p.c5,p.c6,p.c7,p.c8,p.c9,p.c10,p.c11,p.c12⟩)) (.more (.c4 ⟨p.c0,p.c1.2.1,p.c3,(p.c4.1,3,p.c2,(p.c4.1,p.c0.1,p.c2.2.2.2.2,1,0,0,0),0,false,0,p.c4.2.2.2.2.2.2.2),p.c5,p.c6,p.c7,p.c8,p.c9,p.c10,p.c11,p.c12⟩))))) (.more (.c4 ⟨p.c0,p.c1.2.1,p.c3,(p.c4.1,3,p.c2,(p.c4.1,p.c0.1,p.c2.2.2.2.2,1,0,0,0),0,false,0,p.c4.2.2.2.2.2.2.2),p.c5,p.c6,p.c7,p.c8,p.c9,p.c10,p.c11,p.c12⟩))
 | .c3 p=>.need (A.k (@tt (au×dD×Int)) (p.d0,p.d3.2.2.1,p.d1)) (.need (A.k (@tt (au×dD×Int)) (p.d0,p.d3.2.2.1,p.d1)) (.br (A.c .eql (A.k rF (p.d0,p.d3.2.2.1,p.d1)).2 0) (.ret ((p.d3.1,p.d3.2.1,(A.k rF (p.d0,p.d3.2.2.1,p.d1)).1,p.d3.2.2.2),p.d2,true,0)) (.ret (p.d3,p.d2,true,0))))
 | .c4 p=>.need (A.k (@tt (au×dD×Int)) (p.e0,p.e3.2.2.1,p.e1)) (.need (A.k (@tt (au×dD×Int)) (p.e0,p.e3.2.2.1,p.e1)) (.br (A.c .eql (A.k rF (p.e0,p.e3.2.2.1,p.e1)).2 0) (.ret ((p.e3.1,p.e3.2.1,(A.k rF (p.e0,p.e3.2.2.1,p.e1)).1,p.e3.2.2.2),p.e2,true,0)) (.ret (p.e3,p.e2,true,0))))
theorem NH{m:au}{n:Node}{f:kU}(hn:gG m n=0)(hf:fj f=true)(hj:Jl m n f=true):(oC n.2.2.2.2.2.2.2 f.2.2.1.2.1 f.2.2.2.2).2=0:=by
 have hd:=pR.1 (vm hn).2
 simp only[Jl,Bool.and_eq_true,mO,decide_eq_true_eq] at hj
 have hk:=rq hj.2.2.2.1
 simp only[fj,Bool.and_eq_true,decide_eq_true_eq] at hf
 have h8:=hf.1.2
 have e6:=hd.2.2.2.2.2.1
 rw[oC,hd.2.2.2.1,decide_eq_true (show 0≤f.2.2.1.2.1∧f.2.2.1.2.1≤(n.2.2.2.2.2.2.2.2.2.1.length:Int)-1 by rw[e6];exact hk.2.1),decide_eq_false (show ¬8<(f.2.2.2.2.length:Int) by omega)]
 rfl
theorem Oy{p:IN}:aF (tj aj) (.more (.c3 p)) ((p.d3.1,p.d3.2.1,kL p.d0 p.d3.2.2.1 p.d1,p.d3.2.2.2),p.d2,true,0):=by
 rw[al,tj]
 refine af.2 ⟨rfl,?_⟩
 repeat' (refine af.2 ⟨rfl,?_⟩)
 refine aB (p:=(qV p.d0 p.d3.2.2.1 p.d1).2=0) aZ (fun h=>?_) fun h=>?_
 ·exact ax (by rw[kL,decide_eq_true h];rfl) (.ret _)
 ·exact ax (by rw[kL,decide_eq_false h];rfl) (.ret _)
theorem FF{p:EW}:aF (tj aj) (.more (.c4 p)) ((p.e3.1,p.e3.2.1,kL p.e0 p.e3.2.2.1 p.e1,p.e3.2.2.2),p.e2,true,0):=by
 rw[al,tj]
 refine af.2 ⟨rfl,?_⟩
 repeat' (refine af.2 ⟨rfl,?_⟩)
 refine aB (p:=(qV p.e0 p.e3.2.2.1 p.e1).2=0) aZ (fun h=>?_) fun h=>?_
 ·exact ax (by rw[kL,decide_eq_true h];rfl) (.ret _)
 ·exact ax (by rw[kL,decide_eq_false h];rfl) (.ret _)
theorem OA{p:IE}(h:p.b1.1=1):aF (tj aj) (.more (.c1 p)) (pN p.b0 p.b4 p.b2 p.b1,p.b3,true,0):=by
 rw[al,tj]
 refine(ah (by rw[aZ];exact decide_eq_false (by omega))).2 (ax ?_ Oy)
 rw[pN,decide_eq_false (show ¬p.b1.1=4 by omega)]
 rfl
theorem Nk{p:Ga}(h:p.c1.1=4→(oC p.c4.2.2.2.2.2.2.2 p.c2.2.1 p.c1.2.2.2.2).2=0):aF (tj aj) (.more (.c2 p)) (pN p.c0 p.c4 p.c2 p.c1,p.c3,true,0):=by
 rw[al,tj]
 refine aB (p:=p.c1.1=4) aZ (fun g=>af.2 ⟨rfl,?_⟩) fun g=>ax (by rw[pN,decide_eq_false g];rfl) FF
 repeat' (refine af.2 ⟨rfl,?_⟩)
 exact(ai (K8 (h g))).2 (ax (by rw[pN,decide_eq_true g];rfl) FF)
theorem O_{p:FG}{m:au}{n:Node}{f:kU}{t:Int}(h0:p.a0=t)(h1:p.a1=m)(h2:p.cd=n)(hf:p.dS=f)(hl:0≤f.2.2.2.1)(hd:Jl m n f=true→(oC n.2.2.2.2.2.2.2 f.2.2.1.2.1 f.2.2.2.2).2=0):aF (tj aj) (.more (.c0 p)) (bif decide (f.1=1) then(bif !n.2.2.2.2.2.1 then((n.1,n.2.1,n.2.2.1,n.2.2.2.1,(ul m n.1).1,true,n.2.2.2.2.2.2),t,false,0) else(pN m n (0,f.2.2.2.1,0,0,aj.b .shl .i64 1 f.2.2.2.1) f,t,true,0)) else bif Jl m n f then(pN m n f.2.2.1 f,t,true,0) else(n,0,false,0)):=by
 rw[al,tj,h0,h1,h2,hf]
 refine aB (p:=f.1=1) aZ (fun h=>?_) fun h=>?_
 ·rw[decide_eq_true h,cond_true]
  cases hb:n.2.2.2.2.2.1
  ·exact(ai rfl).2 (af.2 ⟨rfl,.ret _⟩)
  ·exact(ah rfl).2 ((ai (by rw[aZ];exact decide_eq_true h)).2 (af.2 ⟨decide_eq_true hl,OA h⟩))
 ·rw[decide_eq_false h,cond_false]
  refine(ah (by rw[aZ];exact decide_eq_false h)).2 (af.2 ⟨rfl,?_⟩)
  rw[show aj.k CK (m,n,f)=Jl m n f from rfl]
  cases hj:Jl m n f
  ·exact(ah rfl).2 (.ret _)
  ·exact(ai rfl).2 (Nk fun _=>hd hj)
theorem QO{m:au}{n:Node}{seen:List Seen}:aF (tj aj) (Oo aj m n seen) (Nz m n seen true):=by
 unfold Oo Nz
 refine af.2 ⟨rfl,?_⟩
 rw[show aj.k dW (m,n,aj.c .eql n.2.1 1)=lZ m n (aj.c .eql n.2.1 1) from rfl,aZ,lZ]
 by_cases h:gG m n=0
 ·rw[decide_eq_true h,cond_true,cond_true]
  cases decide (n.2.1=1)
  ·exact(ai rfl).2 (.ret _)
  rw[cond_true,cond_true]
  refine(ah rfl).2 (aB (p:=¬(seen.length:Int)=2) bu (fun h2=>ax (by rw[decide_eq_false h2];rfl) (.ret _)) fun h2=>af.2 ⟨rfl,?_⟩)
  rw[decide_eq_true (Decidable.not_not.1 h2),cond_true,show aj.k pZ (m.1,seen)=gv m.1 seen from rfl]
  cases he:(gv m.1 seen).2.2
  ·exact(ai rfl).2 (.ret _)
  obtain⟨e1,e2,e3⟩:=Ow he
  have hl:=NE e3
  have nx:=fun {a b c d e g i j}=>O_ (p:=⟨(gv m.1 seen).2.1,m,a,b,c,d,e,g,i,j,n,(gv m.1 seen).1⟩) (m:=m) (n:=n) (f:=(gv m.1 seen).1) (t:=(gv m.1 seen).2.1) rfl rfl rfl rfl hl.1 (NH h e3)
  generalize gv m.1 seen=x at *
  refine(ah rfl).2 (aB (p:=x.1.1=1) aZ (fun h3=>aB (p:=x.1.2.2.2.1=n.1) aZ (fun h4=>?_) fun h4=>?_) fun h3=>?_)
  ·exact ax (by rw[decide_eq_true h3,decide_eq_true h4];rfl) (.ret _)
  ·rw[decide_eq_true h3] at nx
   rw[decide_eq_true h3,decide_eq_false h4,cond_true,cond_true,cond_false,Bool.true_and]
   exact nx
  ·rw[decide_eq_false h3] at nx
   rw[decide_eq_false h3,cond_true,cond_false]
   exact nx
 ·rw[decide_eq_false h];exact(ai (rf h)).2 (.ret _)
def w9:(au×Node×List Seen)→(Node×Int×Bool×Int):=fun(m,n,s)=>Nz m n s true
def Ur:aC:=⟨[bM,dC,(.slice gh)], [dC,yI,.bool,yI],(@tt (au×Node×List Seen)),w9⟩
theorem Ui:Sd 57 Ur:=aK ap cm true 93 [] [⟨57,10, [[3,6,10,12,13]]⟩,⟨102,0, [[0,1,2], [], [6,10,13]]⟩,⟨135,0, [[0,1,2,3], [6,10,13]]⟩] (fun A (m,n,seen)=>Oo A m n seen) tj Pw (fc Tryz.func57 (fc Tryz.func75 (fc Tryz.func101 (fc Tryz.func102 (fc Tryz.func135 fz))))) (sc EI (sc Se (sc EL (sc XQ (sc LK (sc LA sz)))))) (fun A y=>match y with |.c0 p=>⟨42,by kernel_rfl,by kernel_rfl⟩|.c1 p=>⟨125,by kernel_rfl,by kernel_rfl⟩|.c2 p=>⟨125,by kernel_rfl,by kernel_rfl⟩|.c3 p=>⟨51,by kernel_rfl,by kernel_rfl⟩|.c4 p=>⟨51,by kernel_rfl,by kernel_rfl⟩) fun(m,n,seen) hp h=>QO
open Go.Ev.Pl
theorem xn{x:List UInt8}:aj.z .neq x x=false:=by show(!(x==x))=false;simp
theorem Gh{x:Int}:aj.c .neq x x=false:=by rw[bu];simp
instance:DecidableEq bG:=inferInstanceAs (DecidableEq (List Int×Int))
instance:DecidableEq dD:=inferInstanceAs (DecidableEq (Int×Int×Int×Int×Int))
instance:DecidableEq tA:=inferInstanceAs (DecidableEq (Int×Int×Int×Int×Int×Int×Int))
instance:DecidableEq dw:=inferInstanceAs (DecidableEq (Int×List Int×List bG×Int×Int))
def RO:DecidableEq (Int×Bool×Int×dw):=inferInstance
def SK:DecidableEq (dD×tA×Int×Bool×Int×dw):=have:=RO;inferInstance
instance:DecidableEq Node:=have:=SK;inferInstanceAs (DecidableEq (Int×Int×(dD×tA×Int×Bool×Int×dw)))
structure OL where
 (a1 a2:dw)
inductive KD where
 | c0 (p:OL) (a0:Int)
noncomputable def OU:KD→fJ
 | .c0 p a0=>⟨[⟨30,80,(en [(2,.ptr 0 0),(3,.ptr 1 0),(5,vi a0)]),[.inLoop (cw Tryz.f30 [1,1,0,1,0,0]),.inBlock 0,.code (cw Tryz.f30 [1,1,1])],[],none⟩],[.flat false [vi p.a1.1,.sl yU p.a1.2.1,.sl aS p.a1.2.2.1,vi p.a1.2.2.2.1,vi p.a1.2.2.2.2],.flat false [vi p.a2.1,.sl yU p.a2.2.1,.sl aS p.a2.2.2.1,vi p.a2.2.2.2.1,vi p.a2.2.2.2.2],.dead]⟩
def ND(A:a_)(a:dw)(b:dw):LT Bool KD:=.br (A.c .neq a.1 b.1) (.ret false) (.br (A.z .neq (A.bytes a.2.1) (A.bytes b.2.1)) (.ret false) (.br (A.c .neq a.2.2.2.1 b.2.2.2.1) (.ret false) (.br (A.c .neq a.2.2.2.2 b.2.2.2.2) (.ret false) (.br (A.c .neq (A.l a.2.2.1) (A.l b.2.2.1)) (.ret false) (.more (.c0 ⟨a,b⟩ 0))))))
def HE(A:a_):KD→LT Bool KD
 | .c0 p a0=>.br (A.c .lss a0 (A.l p.a1.2.2.1)) (.need (A.and (A.c .leq 0 a0) (A.c .lss a0 (A.l p.a1.2.2.1))) (.need (A.and (A.c .leq 0 a0) (A.c .lss a0 (A.l p.a2.2.2.1))) (.br (A.z .neq (A.bytes (A.n aS p.a1.2.2.1 a0:bG).1) (A.bytes (A.n aS p.a2.2.2.1 a0:bG).1)) (.ret false) (.need (A.and (A.c .leq 0 a0) (A.c .lss a0 (A.l p.a1.2.2.1))) (.need (A.and (A.c .leq 0 a0) (A.c .lss a0 (A.l p.a2.2.2.1))) (.br (A.c .neq (A.n aS p.a1.2.2.1 a0:bG).2 (A.n aS p.a2.2.2.1 a0:bG).2) (.ret false) (.more (.c0 p (A.b .add .i64 a0 1))))))))) (.ret true)
theorem DY{c:dw}(hl:c.2.2.1.length≤140737488355328):∀(j i:Nat),c.2.2.1.length-i=j→i≤c.2.2.1.length→aF (HE aj) (.more (.c0 ⟨c,c⟩ (i:Int))) true:=by
 intro j
 induction j with
 | zero=>
   intro i hj hi
   rw[al,HE]
   exact(ah (by rw[eQ];exact decide_eq_false (show ¬i<c.2.2.1.length by omega))).2 (.ret _)
 | succ j ih=>
   intro i hj hi
   have hi':i<c.2.2.1.length:=by omega
   rw[al,HE]
   refine(ai (by rw[eQ];exact decide_eq_true hi')).2 (af.2 ⟨aO hi',af.2 ⟨aO hi',(ah xn).2 (af.2 ⟨aO hi',af.2 ⟨aO hi',(ah Gh).2 ?_⟩⟩)⟩⟩)
   rw[cn (i:=i) (by omega)]
   exact ih (i+1) (by omega) (by omega)
theorem Ov{a b:dw}(hl:a.2.2.1.length≤140737488355328)(h:a=b):aF (HE aj) (ND aj a b) true:=by
 subst h
 unfold ND
 refine(ah (by rw[bu];simp)).2 ((ah xn).2 ((ah (by rw[bu];simp)).2 ((ah (by rw[bu];simp)).2 ((ah (by rw[bu];simp)).2 (DY hl _ 0 rfl (by omega))))))
def LH:(dw×dw)→Bool:=fun _=>true
def Jk:(dw×dw)→Bool:=fun(a,b)=>decide (a=b)
def QH:aC:=⟨[lw,lw], [.bool],Jk,LH⟩
theorem Rz:Sd 30 QH:=aK ap cm true 62 [⟨30,4, [[2,3,5]]⟩] [] (fun A (a,b)=>ND A a b) HE OU (fc Tryz.func30 fz) sz (fun A y=>match y with |.c0 p a0=>⟨60,by kernel_rfl,by kernel_rfl⟩) fun((a,b):dw×dw) hp h=>Ov h.1.2.2.1.1 (of_decide_eq_true hp)
def M0(A:a_)(a:Node)(b:Node):LT Bool Empty:=.br (A.c .eql a.1 b.1) (.br (A.c .eql a.2.1 b.2.1) (.br (A.and (A.c .eql a.2.2.1.1 b.2.2.1.1) (A.and (A.c .eql a.2.2.1.2.1 b.2.2.1.2.1) (A.and (A.c .eql a.2.2.1.2.2.1 b.2.2.1.2.2.1) (A.and (A.c .eql a.2.2.1.2.2.2.1 b.2.2.1.2.2.2.1) (A.and (A.c .eql a.2.2.1.2.2.2.2 b.2.2.1.2.2.2.2) true))))) (.br (A.and (A.c .eql a.2.2.2.1.1 b.2.2.2.1.1) (A.and (A.c .eql a.2.2.2.1.2.1 b.2.2.2.1.2.1) (A.and (A.c .eql a.2.2.2.1.2.2.1 b.2.2.2.1.2.2.1) (A.and (A.c .eql a.2.2.2.1.2.2.2.1 b.2.2.2.1.2.2.2.1) (A.and (A.c .eql a.2.2.2.1.2.2.2.2.1 b.2.2.2.1.2.2.2.2.1) (A.and (A.c .eql a.2.2.2.1.2.2.2.2.2.1 b.2.2.2.1.2.2.2.2.2.1) (A.and (A.c .eql a.2.2.2.1.2.2.2.2.2.2 b.2.2.2.1.2.2.2.2.2.2) true))))))) (.br (A.c .eql a.2.2.2.2.1 b.2.2.2.2.1) (.br (A.q a.2.2.2.2.2.1 b.2.2.2.2.2.1) (.br (A.c .eql a.2.2.2.2.2.2.1 b.2.2.2.2.2.2.1) (.need (A.k Jk (a.2.2.2.2.2.2.2,b.2.2.2.2.2.2.2)) (.ret (A.k LH (a.2.2.2.2.2.2.2,b.2.2.2.2.2.2.2)))) (.ret false)) (.ret false)) (.ret false)) (.ret false)) (.ret false)) (.ret false)) (.ret false)
theorem Oi{a b:Node}(h:a=b):aF Empty.elim (M0 aj a b) true:=by
 subst h
 unfold M0
 have e:∀x:Int,aj.c .eql x x=true:=fun x=>by rw[aZ];simp
 refine(ai (e _)).2 ((ai (e _)).2 ((ai (by rw[e,e,e,e,e];rfl)).2 ((ai (by rw[e,e,e,e,e,e,e];rfl)).2 ((ai (e _)).2 ((ai (by rw[dH];simp)).2 ((ai (e _)).2 (af.2 ⟨decide_eq_true rfl,.ret _⟩)))))))
def CU:(Node×Node)→Bool:=fun _=>true
def By:(Node×Node)→Bool:=fun(a,b)=>decide (a=b)
def Xw:aC:=⟨[dC,dC], [.bool],By,CU⟩
theorem U2:Sd 19 Xw:=aM ap cm true 70 [] (fun A (a,b)=>M0 A a b) (fc Tryz.func19 fz) (sc Rz sz) fun((a,b):Node×Node) hp h=>Oi (of_decide_eq_true hp)
def Kx(A:a_)(id:Int):LT (List Seen) Empty:=.need (A.k (@tt ((Int×Int×(Int×Int×Int×Int×Int)×Int×List Int))) (1,0,(0,0,0,0,0),id,([]:List Int))) (.ret [(2,9,(A.k R9 (1,0,(0,0,0,0,0),id,([]:List Int))).1),(0,0,0,([]:List Int))])
def uC:Int→(List Seen):=fun id=>(Kx aj id).val (Ty.bF [(.slice gh)])
def U7:aC:=⟨[yI], [(.slice gh)],(@tt Int),uC⟩
theorem RB:Sd 61 U7:=aH ap cm true 30 [] (fun A id=>Kx A id) (fc Tryz.func61 fz) (sc aaL sz) (fun(id:Int) hp h=>by
 show(Kx aj id).pre=true
 simp[Kx,LT.pre,ak,bK])
def Kn(A:a_)(n:Node):LT Bool Empty:=.ret (A.c .leq (A.l n.2.2.2.2.2.2.2.2.2.1) 20)
def BZ:Node→Bool:=fun n=>(Kn aj n).val (Ty.bF [.bool])
def W0:aC:=⟨[dC], [.bool],(@tt Node),BZ⟩
theorem Wu:Sd 15 W0:=aH ap cm true 20 [] (fun A n=>Kn A n) (fc Tryz.func15 fz) sz (fun(n:Node) hp h=>by
 show(Kn aj n).pre=true
 simp[Kn,LT.pre,ak,bK])
def Jv(A:a_)(l:List Seen):LT (List Seen) Empty:=.need (A.and (A.c .leq 0 0) (A.and (A.c .leq 0 (A.mn (A.l l) 9)) (A.c .leq (A.mn (A.l l) 9) (A.l l)))) (.ret (A.s l 0 (A.mn (A.l l) 9)))
theorem NZ{l:List Seen}:aj.and (aj.c .leq 0 0) (aj.and (aj.c .leq 0 (aj.mn (aj.l l) 9)) (aj.c .leq (aj.mn (aj.l l) 9) (aj.l l)))=true:=by
 rw[fL,uo,ar,ar,ar,aN,aN]
 split<;>simp<;>omega
def kS:(List Seen)→(List Seen):=fun l=>(Jv aj l).val (Ty.bF [(.slice gh)])
def Ws:aC:=⟨[(.slice gh)], [(.slice gh)],(@tt (List Seen)),kS⟩
theorem R4:Sd 39 Ws:=aH ap cm true 19 [] (fun A l=>Jv A l) (fc Tryz.func39 fz) sz (fun(l:List Seen) hp h=>by
 show(Jv aj l).pre=true
 simp only[Jv,LT.pre];exact(Bool.and_true _).trans (NZ (l:=l)))
structure MP where
 (a0 a1 a2 a3 a4 a5 a6 a7 a8 a9:Int) (cd:Node) (dS:List Bool) (a12:List Int) (jR jv:List Bool)
inductive Ju where
 | c0 (p:MP)
noncomputable def OI:Ju→fJ
 | .c0 p=>⟨[⟨14,64,(en [(1,.ptr 0 0),(2,vi p.a0),(3,.ptr 1 0),(4,vi p.a1)]),[.code (cw Tryz.f14 [1,1,1,0]),.code (cw Tryz.f14 [1,1,1,1])],[],none⟩],[.flat false [vi p.a2,vi p.a3,vi p.a4,vi p.a5,vi p.a6,vi p.a7,.own 2,.kD 3 3 false p.a8 p.a9],.flat false [vi p.cd.1,vi p.cd.2.1,vi p.cd.2.2.1.1,vi p.cd.2.2.1.2.1,vi p.cd.2.2.1.2.2.1,vi p.cd.2.2.1.2.2.2.1,vi p.cd.2.2.1.2.2.2.2,vi p.cd.2.2.2.1.1,vi p.cd.2.2.2.1.2.1,vi p.cd.2.2.2.1.2.2.1,vi p.cd.2.2.2.1.2.2.2.1,vi p.cd.2.2.2.1.2.2.2.2.1,vi p.cd.2.2.2.1.2.2.2.2.2.1,vi p.cd.2.2.2.1.2.2.2.2.2.2,vi p.cd.2.2.2.2.1,vb p.cd.2.2.2.2.2.1,vi p.cd.2.2.2.2.2.2.1,vi p.cd.2.2.2.2.2.2.2.1,.sl yU p.cd.2.2.2.2.2.2.2.2.1,.sl aS p.cd.2.2.2.2.2.2.2.2.2.1,vi p.cd.2.2.2.2.2.2.2.2.2.2.1,vi p.cd.2.2.2.2.2.2.2.2.2.2.2],.arr true .bool p.dS,.flat true [.sl yI p.a12,.sl .bool p.jR,.sl .bool p.jv],.dead]⟩
def Pk(A:a_):LT Bool Ju:=.need (A.c .leq (A.l ([true]:List Bool)) 140737488355328) (.need (A.c .leq (A.l ([2]:List Int)) 17592186044416) (.need (A.c .leq (A.l ([true]:List Bool)) 140737488355328) (.need (A.c .leq (A.l (A.p [true] [true])) 140737488355328) (.need (A.c .leq (A.l (A.p ([2]:List Int) ([2]:List Int))) 17592186044416) (.need (A.c .leq (A.l (A.p [true] [true])) 140737488355328) (.need (A.c .leq (A.l (A.p (A.p [true] [true]) [true])) 140737488355328) (.need (A.c .leq (A.l (A.p (A.p ([2]:List Int) ([2]:List Int)) ([2]:List Int))) 17592186044416) (.need (A.c .leq (A.l (A.p (A.p [true] [true]) [true])) 140737488355328) (.need (A.c .leq (A.l (A.p (A.p (A.p [true] [true]) [true]) [true])) 140737488355328) (.need (A.c .leq (A.l (A.p (A.p (A.p ([2]:List Int) ([2]:List Int)) ([2]:List Int)) ([2]:List Int))) 17592186044416) (.need (A.c .leq (A.l (A.p (A.p (A.p [true] [true]) [true]) [true])) 140737488355328) (.need (A.k (@tt au) (4,0,38,16,0,1,(A.p (A.p (A.p [true] [true]) [true]) [true]), [((A.p (A.p (A.p ([2]:List Int) ([2]:List Int)) ([2]:List Int)) ([2]:List Int)),(A.p (A.p (A.p [true] [true]) [true]) [true]), [true])])) (.need (A.k (@tt (au×Int)) ((4,(A.b .add .i64 76 (A.k r8 (4,0,38,16,0,1,(A.p (A.p (A.p [true] [true]) [true]) [true]), [((A.p (A.p (A.p ([2]:List Int) ([2]:List Int)) ([2]:List Int)) ([2]:List Int)),(A.p (A.p (A.p [true] [true]) [true]) [true]), [true])]))),38,16,0,1,(A.p (A.p (A.p [true] [true]) [true]) [true]), [((A.p (A.p (A.p ([2]:List Int) ([2]:List Int)) ([2]:List Int)) ([2]:List Int)),(A.p (A.p (A.p [true] [true]) [true]) [true]), [true])]),1)) (.more (.c0 ⟨0,(A.k y7 ((4,(A.b .add .i64 76 (A.k r8 (4,0,38,16,0,1,(A.p (A.p (A.p [true] [true]) [true]) [true]), [((A.p (A.p (A.p ([2]:List Int) ([2]:List Int)) ([2]:List Int)) ([2]:List Int)),(A.p (A.p (A.p [true] [true]) [true]) [true]), [true])]))),38,16,0,1,(A.p (A.p (A.p [true] [true]) [true]) [true]), [((A.p (A.p (A.p ([2]:List Int) ([2]:List Int)) ([2]:List Int)) ([2]:List Int)),(A.p (A.p (A.p [true] [true]) [true]) [true]), [true])]),1)).2,4,(A.b .add .i64 76 (A.k r8 (4,0,38,16,0,1,(A.p (A.p (A.p [true] [true]) [true]) [true]), [((A.p (A.p (A.p ([2]:List Int) ([2]:List Int)) ([2]:List Int)) ([2]:List Int)),(A.p (A.p (A.p [true] [true]) [true]) [true]), [true])]))),38,16,0,1,0,1,(A.k y7 ((4,(A.b .add .i64 76 (A.k r8 (4,0,38,16,0,1,(A.p (A.p (A.p [true] [true]) [true]) [true]), [((A.p (A.p (A.p ([2]:List Int) ([2]:List Int)) ([2]:List Int)) ([2]:List Int)),(A.p (A.p (A.p [true] [true]) [true]) [true]), [true])]))),38,16,0,1,(A.p (A.p (A.p [true] [true]) [true]) [true]), [((A.p (A.p (A.p ([2]:List Int) ([2]:List Int)) ([2]:List Int)) ([2]:List Int)),(A.p (A.p (A.p [true] [true]) [true]) [true]), [true])]),1)).1,(A.p (A.p (A.p [true] [true]) [true]) [true]),(A.p (A.p (A.p ([2]:List Int) ([2]:List Int)) ([2]:List Int)) ([2]:List Int)),(A.p (A.p (A.p [true] [true]) [true]) [true]), [true]⟩)))))))))))))))
def NV(A:a_):Ju→LT Bool Ju
 | .c0 p=>.need (A.k (@tt (au×Node×Bool)) ((p.a2,p.a3,p.a4,p.a5,p.a6,p.a7,p.dS,(A.s [(p.a12,p.jR,p.jv)] p.a8 (A.b .add .i64 p.a8 p.a9))),p.cd,true)) (.need (A.k (@tt Int) 2) (.need (A.k (@tt (au×Node×List Seen)) ((p.a2,p.a3,p.a4,p.a5,p.a6,p.a7,p.dS,(A.s [(p.a12,p.jR,p.jv)] p.a8 (A.b .add .i64 p.a8 p.a9))),(A.k rX ((p.a2,p.a3,p.a4,p.a5,p.a6,p.a7,p.dS,(A.s [(p.a12,p.jR,p.jv)] p.a8 (A.b .add .i64 p.a8 p.a9))),p.cd,true)).1,(A.k uC 2))) (.br (A.c .eql p.a0 0) (.br (A.c .eql p.a1 0) (.br (A.c .eql (A.k rX ((p.a2,p.a3,p.a4,p.a5,p.a6,p.a7,p.dS,(A.s [(p.a12,p.jR,p.jv)] p.a8 (A.b .add .i64 p.a8 p.a9))),p.cd,true)).2 0) (.br (A.c .eql (A.k w9 ((p.a2,p.a3,p.a4,p.a5,p.a6,p.a7,p.dS,(A.s [(p.a12,p.jR,p.jv)] p.a8 (A.b .add .i64 p.a8 p.a9))),(A.k rX ((p.a2,p.a3,p.a4,p.a5,p.a6,p.a7,p.dS,(A.s [(p.a12,p.jR,p.jv)] p.a8 (A.b .add .i64 p.a8 p.a9))),p.cd,true)).1,(A.k uC 2))).2.2.2 0) (.br (A.c .eql (A.k w9 ((p.a2,p.a3,p.a4,p.a5,p.a6,p.a7,p.dS,(A.s [(p.a12,p.jR,p.jv)] p.a8 (A.b .add .i64 p.a8 p.a9))),(A.k rX ((p.a2,p.a3,p.a4,p.a5,p.a6,p.a7,p.dS,(A.s [(p.a12,p.jR,p.jv)] p.a8 (A.b .add .i64 p.a8 p.a9))),p.cd,true)).1,(A.k uC 2))).2.1 9) (.br (A.not (A.k w9 ((p.a2,p.a3,p.a4,p.a5,p.a6,p.a7,p.dS,(A.s [(p.a12,p.jR,p.jv)] p.a8 (A.b .add .i64 p.a8 p.a9))),(A.k rX ((p.a2,p.a3,p.a4,p.a5,p.a6,p.a7,p.dS,(A.s [(p.a12,p.jR,p.jv)] p.a8 (A.b .add .i64 p.a8 p.a9))),p.cd,true)).1,(A.k uC 2))).2.2.1) (.br (A.k w9 ((p.a2,p.a3,p.a4,p.a5,p.a6,p.a7,p.dS,(A.s [(p.a12,p.jR,p.jv)] p.a8 (A.b .add .i64 p.a8 p.a9))),(A.k rX ((p.a2,p.a3,p.a4,p.a5,p.a6,p.a7,p.dS,(A.s [(p.a12,p.jR,p.jv)] p.a8 (A.b .add .i64 p.a8 p.a9))),p.cd,true)).1,(A.k uC 2))).1.2.2.2.2.2.1 (.ret (A.c .eql (A.k w9 ((p.a2,p.a3,p.a4,p.a5,p.a6,p.a7,p.dS,(A.s [(p.a12,p.jR,p.jv)] p.a8 (A.b .add .i64 p.a8 p.a9))),(A.k rX ((p.a2,p.a3,p.a4,p.a5,p.a6,p.a7,p.dS,(A.s [(p.a12,p.jR,p.jv)] p.a8 (A.b .add .i64 p.a8 p.a9))),p.cd,true)).1,(A.k uC 2))).1.2.1 1)) (.ret false)) (.ret false)) (.ret false)) (.ret false)) (.ret false)) (.ret false)) (.ret false))))
theorem Ej:aF (NV aj) (Pk aj) true:=by
 unfold Pk
 repeat' (refine af.2 ⟨by kernel_rfl,?_⟩)
 rw[al,NV]
 repeat' (refine af.2 ⟨by kernel_rfl,?_⟩)
 refine(ai (by kernel_rfl)).2 ((ai (by kernel_rfl)).2 ((ai (by kernel_rfl)).2 ((ai (by kernel_rfl)).2 ((ai (by kernel_rfl)).2 ((ai (by kernel_rfl)).2 ((ai (by kernel_rfl)).2 (ax (by kernel_rfl) (.ret _))))))))
def xt:Unit→Bool:=fun _=>true
def WY:aC:=⟨[], [.bool],(@tt Unit),xt⟩
theorem VD:Sd 14 WY:=aK ap cm true 313 [] [⟨14,3, [[1,2,3,4]]⟩] (fun A _=>Pk A) NV OI (fc Tryz.func14 (fc Tryz.func60 fz)) (sc Lu (sc Ui (sc Mu (sc Rh (sc RB sz))))) (fun A y=>match y with |.c0 p=>⟨66,by kernel_rfl,by kernel_rfl⟩) fun _ hp h=>Ej
end Go.Ev.M
