/-
  PROVED: what busctl.Hear and metronomeref18.Hear compute. Conditions: none.
-/
import Derived.Test.YteldjjjcdpnnbaaGreatCb
import Derived.Test.YteldjjjcdpnnbaaGreatDa
import Derived.Test.YteldjjjcdpnnbaaGreatDb
import Derived.Test.YteldjjjcdpnnbaaGreatKa
namespace Go.Ev.M
open Go.Proofs
set_option maxRecDepth 100000
set_option linter.unusedVariables false
set_option linter.unusedSimpArgs false
open Go.Ev.Pl
structure Fi where
 (a0:Int) (a1:List Seen) (a2:Int) (a4:B9) (a5:Int)
inductive Hy where
 | c0 (p:Fi) (a3:Int)
noncomputable def Ld:Hy→fE
 | .c0 p a3=>⟨[⟨134,45,(en [(0,vi p.a0),(4,.ptr 0 0),(11,.sl jj p.a1),(12,vi p.a2),(13,vi a3)]),[.inLoop (cw Tryz.f134 [1,0,1,0,0]),.inBlock 0,.code (cw Tryz.f134 [1,1])],[],none⟩],[.flat false [vi p.a4.1,vi p.a4.2.1,vi p.a4.2.2.1,vi p.a4.2.2.2.1,vi p.a4.2.2.2.2.1,vi p.a4.2.2.2.2.2.1,vi p.a4.2.2.2.2.2.2,vi p.a5,.dz true],.dead]⟩
def SC(A:bg)(n:Int)(seen:List Seen):LT (rI×Int×Bool) Hy:=.more (.c0 ⟨n,seen,(A.l seen),(0,0,0,0,0,0,0),0⟩ 0)
def BQ(A:bg):Hy→LT (rI×Int×Bool) Hy
 | .c0 p a3=>.br (A.c .lss a3 p.a2) (.need (A.and (A.c .leq 0 a3) (A.c .lss a3 (A.l p.a1))) (.br (A.c .neq (A.n jj p.a1 a3:Seen).1 2) (.more (.c0 p (A.b .add .i64 a3 1))) (.need (A.k (@tt ((Int×List Int))) (A.n jj p.a1 a3:Seen).2.2) (.br (A.k vS (A.n jj p.a1 a3:Seen).2.2).2 (.need (A.k (@tt ((Int×Int×Int×Int×Int)×Int)) ((A.k vS (A.n jj p.a1 a3:Seen).2.2).1.2.2.1,p.a0)) (.br (A.c .eql (A.k ol ((A.k vS (A.n jj p.a1 a3:Seen).2.2).1.2.2.1,p.a0)) 0) (.br (A.c .lss (A.k vS (A.n jj p.a1 a3:Seen).2.2).1.2.2.2.1 p.a0) (.ret ((A.k vS (A.n jj p.a1 a3:Seen).2.2).1,(A.n jj p.a1 a3:Seen).2.1,true)) (.more (.c0 p (A.b .add .i64 a3 1)))) (.more (.c0 p (A.b .add .i64 a3 1))))) (.more (.c0 p (A.b .add .i64 a3 1))))))) (.ret ((0,0,(0,0,0,0,0),0,([]:List Int)),0,false))
def ug(n:Int)(s:Seen):Bool:=decide (s.1=2)&&(decide ((jl s.2.2).2=true)&&(decide (jF ((jl s.2.2).1.2.2.1,n)=0)&&decide ((jl s.2.2).1.2.2.2.1<n)))
def fO(n:Int):List Seen→rI×Int×Bool
 | []=>((0,0,(0,0,0,0,0),0,([]:List Int)),0,false)
 | s::l=>bif ug n s then((jl s.2.2).1,s.2.1,true) else fO n l
theorem JR{n:Int}{l:List Seen}(h:(fO n l).2.2=true):jF ((fO n l).1.2.2.1,n)=0∧(fO n l).1.2.2.2.1<n∧fe (fO n l).1=true:=by
 induction l with
 | nil=>exact absurd h (by simp[fO])
 | cons s l ih=>
   rw[fO] at h ⊢
   cases hx:ug n s
   ·rw[hx] at h;exact ih h
   ·simp only[ug,Bool.and_eq_true,decide_eq_true_eq] at hx
    exact⟨hx.2.2.1,hx.2.2.2,Hq hx.2.1⟩
theorem RR{b:Bool}:b=decide (b=true):=by cases b<;>rfl
theorem BF{p:Fi}{n:Int}{seen:List Seen}(h0:p.a0=n)(h1:p.a1=seen)(h2:p.a2=(seen.length:Int))(hl:seen.length≤140737488355328):∀(j i:Nat),seen.length-i=j→i≤seen.length→aC (BQ ai) (.more (.c0 p (i:Int))) (fO n (seen.drop i)):=by
 intro j
 induction j with
 | zero=>
   intro i hj hi
   have:i=seen.length:=by omega
   subst this
   rw[ak,BQ,h2,List.drop_length]
   exact(ah (by rw[al];simp)).2 (.ret _)
 | succ j ih=>
   intro i hj hi
   have hi':i<seen.length:=by omega
   have nx:=ih (i+1) (by omega) (by omega)
   rw[ak,BQ,h0,h1,h2]
   refine(aj (by rw[al];exact decide_eq_true (by omega))).2 (af.2 ⟨aL hi',?_⟩)
   rw[show(ai.n jj seen (i:Int):Seen)=seen[i] from getD_in hi' _,List.drop_eq_getElem_cons hi',fO,cK (i:=i) (by omega)]
   generalize seen[i]=s
   generalize fO n (seen.drop (i+1))=r at nx ⊢
   have hx:ug n s=false→aC (BQ ai) (.more (.c0 p ((i+1:Nat):Int))) (bif ug n s then((jl s.2.2).1,s.2.1,true) else r):=fun h=>ao (by rw[h];rfl) nx
   rw[show ai.k vS s.2.2=jl s.2.2 from GB]
   refine ax (p:=¬s.1=2) aY (fun h=>hx (by rw[ug,decide_eq_false h];rfl)) fun g1=>af.2 ⟨rfl,?_⟩
   refine ax (p:=(jl s.2.2).2=true) RR (fun g2=>af.2 ⟨rfl,?_⟩) fun h=>hx (by rw[ug,decide_eq_false h,Bool.false_and,Bool.and_false])
   refine ax (p:=jF ((jl s.2.2).1.2.2.1,n)=0) aT (fun g3=>?_) fun h=>hx (by rw[ug,decide_eq_false h,Bool.false_and,Bool.and_false,Bool.and_false])
   refine ax (p:=(jl s.2.2).1.2.2.2.1<n) rfl (fun g4=>?_) fun h=>hx (by rw[ug,decide_eq_false h,Bool.and_false,Bool.and_false,Bool.and_false])
   exact ao (by rw[ug,decide_eq_true (Decidable.not_not.1 g1),decide_eq_true g2,decide_eq_true g3,decide_eq_true g4];rfl) (.ret _)
theorem OL{n:Int}{seen:List Seen}(hl:seen.length≤140737488355328):aC (BQ ai) (SC ai n seen) (fO n seen):=
 BF (p:=⟨n,seen,(seen.length:Int),(0,0,0,0,0,0,0),0⟩) rfl rfl rfl hl seen.length 0 rfl (by omega)
def nv:(Int×List Seen)→(rI×Int×Bool):=fun(m,n)=>fO m n
def RH:aB:=⟨[yI,(.slice jj)], [Jp,yI,.bool],(@tt (Int×List Seen)),nv⟩
theorem Nh:Sd 134 RH:=aH ar cO true 21 [⟨134,2, [[0,4,11,12,13]]⟩] [] (fun A (n,seen)=>SC A n seen) BQ Ld (fc Tryz.func134 fz) (sc TD (sc zy sz)) (fun A y=>match y with |.c0 p a3=>⟨70,by kernel_rfl,by kernel_rfl⟩) fun(n,seen) hp h=>OL h.2.1
def LV(A:bg)(m:au)(c:eF)(f:rI):LT Bool Empty:=.need (A.k (@tt (au×Int×Int)) (m,c.2.2.1,c.2.1)) (.br (A.c .eql (A.k mF (m,c.2.2.1,c.2.1)).2 0) (.br (A.c .neq (A.k mF (m,c.2.2.1,c.2.1)).1 3) (.need (A.and (A.c .leq 0 c.2.2.1) (A.c .lss c.2.2.1 (A.l m.2.2.2.2.2.2.2))) (.need (A.and (A.c .leq 0 c.2.1) (A.c .lss c.2.1 (A.l (A.n bi m.2.2.2.2.2.2.2 c.2.2.1:Mode).1))) (.br (A.c .eql (A.k mF (m,c.2.2.1,c.2.1)).2 0) (.br (A.c .eql f.1 (A.k mF (m,c.2.2.1,c.2.1)).1) (.ret (A.c .eql (A.l f.2.2.2.2) (A.n yI (A.n bi m.2.2.2.2.2.2.2 c.2.2.1:Mode).1 c.2.1:Int))) (.ret false)) (.ret false)))) (.br (A.c .eql (A.k mF (m,c.2.2.1,c.2.1)).2 0) (.br (A.c .eql f.1 (A.k mF (m,c.2.2.1,c.2.1)).1) (.ret (A.c .eql (A.l f.2.2.2.2) 0)) (.ret false)) (.ret false))) (.br (A.c .eql (A.k mF (m,c.2.2.1,c.2.1)).2 0) (.br (A.c .eql f.1 (A.k mF (m,c.2.2.1,c.2.1)).1) (.ret (A.c .eql (A.l f.2.2.2.2) 0)) (.ret false)) (.ret false)))
def BK(m:au)(c:eF)(f:rI):Bool:=decide ((iY m c.2.2.1 c.2.1).2=0)&&(decide (f.1=(iY m c.2.2.1 c.2.1).1)&&decide ((f.2.2.2.2.length:Int)=bif decide ((iY m c.2.2.1 c.2.1).1=3) then(0:Int) else(ai.n (.int .i64) (ai.n bi m.2.2.2.2.2.2.2 c.2.2.1:Mode).1 c.2.1:Int)))
theorem uN{m:au}{k n:Int}(h:(iY m k n).2=0):dY m=true∧(0≤n∧n≤m.1-1)∧(0≤k∧k<eY m):=by
 unfold iY at h
 by_cases h1:fV m n=0
 ·obtain⟨a,b⟩:=vu h1
  by_cases h2:0≤k∧k≤eY m-1
  ·exact⟨a,b,by omega⟩
  ·rw[decide_eq_true h1,decide_eq_false h2,cond_true,cond_false] at h;exact absurd h (by decide)
 ·rw[decide_eq_false h1,cond_false] at h;exact absurd h h1
theorem RZ{m:au}{c:eF}{f:rI}:aC Empty.elim (LV ai m c f) (BK m c f):=by
 unfold LV
 refine af.2 ⟨rfl,?_⟩
 rw[show ai.k mF (m,c.2.2.1,c.2.1)=iY m c.2.2.1 c.2.1 from rfl]
 by_cases h:(iY m c.2.2.1 c.2.1).2=0
 ·obtain⟨hm,hn,hk⟩:=uN h
  have hx:=(oV (wh hm hk.1 hk.2)).1
  have e:ai.c .eql (iY m c.2.2.1 c.2.1).2 0=true:=J5 h
  rw[e,BK,decide_eq_true h,Bool.true_and]
  refine(aj rfl).2 (ax (p:=¬(iY m c.2.2.1 c.2.1).1=3) aY (fun g=>af.2 ⟨nz hk.1 hk.2,af.2 ⟨rC hx hn.1 (by omega),(aj rfl).2 ?_⟩⟩) fun g=>(aj rfl).2 ?_)
  ·rw[decide_eq_false g]
   refine ax (p:=f.1=(iY m c.2.2.1 c.2.1).1) aT (fun k=>?_) fun k=>?_
   ·exact ao (by rw[decide_eq_true k,fy];exact aT) (.ret _)
   ·exact ao (by rw[decide_eq_false k];rfl) (.ret _)
  ·rw[decide_eq_true (Decidable.not_not.1 g)]
   refine ax (p:=f.1=(iY m c.2.2.1 c.2.1).1) aT (fun k=>?_) fun k=>?_
   ·exact ao (by rw[decide_eq_true k,fy];exact aT) (.ret _)
   ·exact ao (by rw[decide_eq_false k];rfl) (.ret _)
 ·have e:ai.c .eql (iY m c.2.2.1 c.2.1).2 0=false:=Mz h
  rw[e,BK,decide_eq_false h]
  exact(ah rfl).2 ((ah rfl).2 (.ret _))
def Iy:(au×eF×rI)→Bool:=fun(m,c,k)=>BK m c k
def Nj:aB:=⟨[bW,sM,Jp], [.bool],(@tt (au×eF×rI)),Iy⟩
theorem MR:Sd 99 Nj:=aG ar cO true 75 [] (fun A (m,c,f)=>LV A m c f) (fc Tryz.func99 fz) (sc Np sz) fun(m,c,f) hp h=>RZ
def Jy(A:bg)(m:au)(n:Node)(f:rI):LT Bool Empty:=.need (A.k (@tt (au×eF)) (m,f.2.2.1)) (.br (A.k Ak (m,f.2.2.1)) (.br (A.c .neq f.2.2.1.2.1 n.1) (.need (A.k (@tt (eF×Int)) (f.2.2.1,f.2.2.1.2.1)) (.br (A.k Cm (f.2.2.1,f.2.2.1.2.1)) (.need (A.k (@tt (au×eF×rI)) (m,f.2.2.1,f)) (.ret (A.k Iy (m,f.2.2.1,f)))) (.ret false))) (.ret false)) (.ret false))
def FI(m:au)(n:Node)(f:rI):Bool:=gB m f.2.2.1&&(decide (¬f.2.2.1.2.1=n.1)&&(AT f.2.2.1 f.2.2.1.2.1&&BK m f.2.2.1 f))
theorem Ux{m:au}{n:Node}{f:rI}:aC Empty.elim (Jy ai m n f) (FI m n f):=by
 unfold Jy FI
 refine af.2 ⟨rfl,?_⟩
 rw[show ai.k Ak (m,f.2.2.1)=gB m f.2.2.1 from rfl]
 cases gB m f.2.2.1
 ·exact(ah rfl).2 (.ret _)
 refine(aj rfl).2 (ax (p:=¬f.2.2.1.2.1=n.1) aY (fun h=>af.2 ⟨rfl,?_⟩) fun h=>ao (by rw[decide_eq_false h];rfl) (.ret _))
 rw[decide_eq_true h,show ai.k Cm (f.2.2.1,f.2.2.1.2.1)=AT f.2.2.1 f.2.2.1.2.1 from rfl]
 cases AT f.2.2.1 f.2.2.1.2.1
 ·exact(ah rfl).2 (.ret _)
 ·exact(aj rfl).2 (af.2 ⟨rfl,.ret _⟩)
def Af:(au×Node×rI)→Bool:=fun(m,c,k)=>FI m c k
def Rx:aB:=⟨[bW,du,Jp], [.bool],(@tt (au×Node×rI)),Af⟩
theorem OG:Sd 136 Rx:=aG ar cO true 44 [] (fun A (m,n,f)=>Jy A m n f) (fc Tryz.func136 fz) (sc Il (sc MR (sc Of sz))) fun(m,n,f) hp h=>Ux
def s_(m:au)(c:eF)(r:Int):eF:=bif decide ((yV m c r).2=0) then(yV m c r).1 else c
def nK(m:au)(n:Node)(c:eF)(f:rI):Node:=(n.1,3,s_ m c f.2.1,(n.1,m.1,c.2.2.2.2,1,0,0,0),0,false,0,bif decide (f.1=4) then(xL n.2.2.2.2.2.2.2 c.2.1 f.2.2.2.2).1 else n.2.2.2.2.2.2.2)
open Go.Ev.Pl
def K1(m:au)(n:Node)(seen:List Seen)(once:Bool):Node×Int×Bool×Int:=
 bif decide (fw m n=0) then
  bif decide (n.2.1=1) then
   bif decide ((seen.length:Int)=2) then
    bif (fO m.1 seen).2.2 then
     bif decide ((fO m.1 seen).1.1=1) then
      bif decide ((fO m.1 seen).1.2.2.2.1=n.1) then(n,0,false,0)
      else bif once && !n.2.2.2.2.2.1 then((n.1,n.2.1,n.2.2.1,n.2.2.2.1,(tq m n.1).1,true,n.2.2.2.2.2.2),(fO m.1 seen).2.1,false,0)
      else(nK m n (0,(fO m.1 seen).1.2.2.2.1,0,0,ai.b .shl .i64 1 (fO m.1 seen).1.2.2.2.1) (fO m.1 seen).1,(fO m.1 seen).2.1,true,0)
     else bif FI m n (fO m.1 seen).1 then(nK m n (fO m.1 seen).1.2.2.1 (fO m.1 seen).1,(fO m.1 seen).2.1,true,0)
     else(n,0,false,0)
    else(n,0,false,0)
   else(gY,0,false,2)
  else(gY,0,false,181)
 else(gY,0,false,fw m n)
structure Cp where
 (a0:Int) (a1:au) (a2 a3:B9) (a4:Int) (a5:Bool) (a6 a7 a8 a9:Int) (cf:Node) (dR:rI)
structure E2 where
 (b0:au) (b1:rI) (b2:eF) (b3:Int) (b4:Node) (b5 b6:B9) (b7:Int) (b8:Bool) (b9 b10 b11 b12:Int)
structure FB where
 (c0:au) (c1:rI) (c2:eF) (c3:Int) (c4:Node) (c5 c6:B9) (c7:Int) (c8:Bool) (c9 c10 c11 c12:Int)
structure DF where
 (d0:au) (d1 d2:Int) (d3:Node) (d4 d5:B9) (d6:Int) (d7:Bool) (d8 d9 l6 lS:Int)
structure Eo where
 (e0:au) (e1 e2:Int) (e3:Node) (e4 e5:B9) (e6:Int) (e7:Bool) (e8 e9 e10 e11:Int)
inductive FW where
 | c0 (p:Cp)
 | c1 (p:E2)
 | c2 (p:FB)
 | c3 (p:DF)
 | c4 (p:Eo)
noncomputable def LW:FW→fE
 | .c0 p=>⟨[⟨57,101,(en [(3,.ptr 0 0),(6,.ptr 1 0),(10,.ptr 2 0),(12,.ptr 3 0),(13,vi p.a0)]),[.code (cw Tryz.f57 [1,1,1,1,0,0,1,1,0]),.code (cw Tryz.f57 [1,1,1,1,0,0,1,1,1]),.inBlock 1,.code (cw Tryz.f57 [1,1,1,1,1])],[],none⟩],[.flat false [vi p.a1.1,vi p.a1.2.1,vi p.a1.2.2.1,vi p.a1.2.2.2.1,vi p.a1.2.2.2.2.1,vi p.a1.2.2.2.2.2.1,.sl .bool p.a1.2.2.2.2.2.2.1,.sl bi p.a1.2.2.2.2.2.2.2],.flat false [vi p.a2.1,vi p.a2.2.1,vi p.a2.2.2.1,vi p.a2.2.2.2.1,vi p.a2.2.2.2.2.1,vi p.a2.2.2.2.2.2.1,vi p.a2.2.2.2.2.2.2,vi p.a3.1,vi p.a3.2.1,vi p.a3.2.2.1,vi p.a3.2.2.2.1,vi p.a3.2.2.2.2.1,vi p.a3.2.2.2.2.2.1,vi p.a3.2.2.2.2.2.2,vi p.a4,vb p.a5,vi p.a6,vi p.a7,.dz true,.dz true,vi p.a8,vi p.a9],.flat false [vi p.cf.1,vi p.cf.2.1,vi p.cf.2.2.1.1,vi p.cf.2.2.1.2.1,vi p.cf.2.2.1.2.2.1,vi p.cf.2.2.1.2.2.2.1,vi p.cf.2.2.1.2.2.2.2,vi p.cf.2.2.2.1.1,vi p.cf.2.2.2.1.2.1,vi p.cf.2.2.2.1.2.2.1,vi p.cf.2.2.2.1.2.2.2.1,vi p.cf.2.2.2.1.2.2.2.2.1,vi p.cf.2.2.2.1.2.2.2.2.2.1,vi p.cf.2.2.2.1.2.2.2.2.2.2,vi p.cf.2.2.2.2.1,vb p.cf.2.2.2.2.2.1,vi p.cf.2.2.2.2.2.2.1,vi p.cf.2.2.2.2.2.2.2.1,.sl yU p.cf.2.2.2.2.2.2.2.2.1,.sl bl p.cf.2.2.2.2.2.2.2.2.2.1,vi p.cf.2.2.2.2.2.2.2.2.2.2.1,vi p.cf.2.2.2.2.2.2.2.2.2.2.2],.flat false [vi p.dR.1,vi p.dR.2.1,vi p.dR.2.2.1.1,vi p.dR.2.2.1.2.1,vi p.dR.2.2.1.2.2.1,vi p.dR.2.2.1.2.2.2.1,vi p.dR.2.2.1.2.2.2.2,vi p.dR.2.2.2.1,.sl yU p.dR.2.2.2.2],.dead]⟩
 | .c1 p=>⟨[⟨135,29,(en [(0,.agg [vi p.b0.1,vi p.b0.2.1,vi p.b0.2.2.1,vi p.b0.2.2.2.1,vi p.b0.2.2.2.2.1,vi p.b0.2.2.2.2.2.1,.sl .bool p.b0.2.2.2.2.2.2.1,.sl bi p.b0.2.2.2.2.2.2.2]),(1,.ptr 0 0),(2,.agg [vi p.b1.1,vi p.b1.2.1,vi p.b1.2.2.1.1,vi p.b1.2.2.1.2.1,vi p.b1.2.2.1.2.2.1,vi p.b1.2.2.1.2.2.2.1,vi p.b1.2.2.1.2.2.2.2,vi p.b1.2.2.2.1,.sl yU p.b1.2.2.2.2]),(3,.agg [vi p.b2.1,vi p.b2.2.1,vi p.b2.2.2.1,vi p.b2.2.2.2.1,vi p.b2.2.2.2.2])]),[.code (cw Tryz.f135 [0]),.code (cw Tryz.f135 [1])],[],none⟩,⟨57,101,(en [(6,.ptr 1 0),(10,.ptr 0 0),(13,vi p.b3)]),[.jB (ow Tryz.f57 [1,1,1,1,0,0,1,1,1,1,1,0]) [0,0,0,4,0,16,48,124,255] 8 [] [],.inBlock 1,.code (cw Tryz.f57 [1,1,1,1,1])],[],none⟩],[.flat false [vi p.b4.1,vi p.b4.2.1,vi p.b4.2.2.1.1,vi p.b4.2.2.1.2.1,vi p.b4.2.2.1.2.2.1,vi p.b4.2.2.1.2.2.2.1,vi p.b4.2.2.1.2.2.2.2,vi p.b4.2.2.2.1.1,vi p.b4.2.2.2.1.2.1,vi p.b4.2.2.2.1.2.2.1,vi p.b4.2.2.2.1.2.2.2.1,vi p.b4.2.2.2.1.2.2.2.2.1,vi p.b4.2.2.2.1.2.2.2.2.2.1,vi p.b4.2.2.2.1.2.2.2.2.2.2,vi p.b4.2.2.2.2.1,vb p.b4.2.2.2.2.2.1,vi p.b4.2.2.2.2.2.2.1,vi p.b4.2.2.2.2.2.2.2.1,.sl yU p.b4.2.2.2.2.2.2.2.2.1,.sl bl p.b4.2.2.2.2.2.2.2.2.2.1,vi p.b4.2.2.2.2.2.2.2.2.2.2.1,vi p.b4.2.2.2.2.2.2.2.2.2.2.2],.flat false [vi p.b5.1,vi p.b5.2.1,vi p.b5.2.2.1,vi p.b5.2.2.2.1,vi p.b5.2.2.2.2.1,vi p.b5.2.2.2.2.2.1,vi p.b5.2.2.2.2.2.2,vi p.b6.1,vi p.b6.2.1,vi p.b6.2.2.1,vi p.b6.2.2.2.1,vi p.b6.2.2.2.2.1,vi p.b6.2.2.2.2.2.1,vi p.b6.2.2.2.2.2.2,vi p.b7,vb p.b8,vi p.b9,vi p.b10,.dz true,.dz true,vi p.b11,vi p.b12],.dead]⟩
 | .c2 p=>⟨[⟨135,29,(en [(0,.agg [vi p.c0.1,vi p.c0.2.1,vi p.c0.2.2.1,vi p.c0.2.2.2.1,vi p.c0.2.2.2.2.1,vi p.c0.2.2.2.2.2.1,.sl .bool p.c0.2.2.2.2.2.2.1,.sl bi p.c0.2.2.2.2.2.2.2]),(1,.ptr 0 0),(2,.agg [vi p.c1.1,vi p.c1.2.1,vi p.c1.2.2.1.1,vi p.c1.2.2.1.2.1,vi p.c1.2.2.1.2.2.1,vi p.c1.2.2.1.2.2.2.1,vi p.c1.2.2.1.2.2.2.2,vi p.c1.2.2.2.1,.sl yU p.c1.2.2.2.2]),(3,.agg [vi p.c2.1,vi p.c2.2.1,vi p.c2.2.2.1,vi p.c2.2.2.2.1,vi p.c2.2.2.2.2])]),[.code (cw Tryz.f135 [0]),.code (cw Tryz.f135 [1])],[],none⟩,⟨57,101,(en [(6,.ptr 1 0),(10,.ptr 0 0),(13,vi p.c3)]),[.ops (ow Tryz.f57 [1,1,1,1,0,0,1,1,1,1,1,1,1,0]) ((ow Tryz.f57 [1,1,1,1,0,0,1,1,1,1,1,1,1,0]).toList.drop 4),.inBlock 1,.code (cw Tryz.f57 [1,1,1,1,1])],[],none⟩],[.flat false [vi p.c4.1,vi p.c4.2.1,vi p.c4.2.2.1.1,vi p.c4.2.2.1.2.1,vi p.c4.2.2.1.2.2.1,vi p.c4.2.2.1.2.2.2.1,vi p.c4.2.2.1.2.2.2.2,vi p.c4.2.2.2.1.1,vi p.c4.2.2.2.1.2.1,vi p.c4.2.2.2.1.2.2.1,vi p.c4.2.2.2.1.2.2.2.1,vi p.c4.2.2.2.1.2.2.2.2.1,vi p.c4.2.2.2.1.2.2.2.2.2.1,vi p.c4.2.2.2.1.2.2.2.2.2.2,vi p.c4.2.2.2.2.1,vb p.c4.2.2.2.2.2.1,vi p.c4.2.2.2.2.2.2.1,vi p.c4.2.2.2.2.2.2.2.1,.sl yU p.c4.2.2.2.2.2.2.2.2.1,.sl bl p.c4.2.2.2.2.2.2.2.2.2.1,vi p.c4.2.2.2.2.2.2.2.2.2.2.1,vi p.c4.2.2.2.2.2.2.2.2.2.2.2],.flat false [vi p.c5.1,vi p.c5.2.1,vi p.c5.2.2.1,vi p.c5.2.2.2.1,vi p.c5.2.2.2.2.1,vi p.c5.2.2.2.2.2.1,vi p.c5.2.2.2.2.2.2,vi p.c6.1,vi p.c6.2.1,vi p.c6.2.2.1,vi p.c6.2.2.2.1,vi p.c6.2.2.2.2.1,vi p.c6.2.2.2.2.2.1,vi p.c6.2.2.2.2.2.2,vi p.c7,vb p.c8,vi p.c9,vi p.c10,.dz true,.dz true,vi p.c11,vi p.c12],.dead]⟩
 | .c3 p=>⟨[⟨102,24,(en [(0,.agg [vi p.d0.1,vi p.d0.2.1,vi p.d0.2.2.1,vi p.d0.2.2.2.1,vi p.d0.2.2.2.2.1,vi p.d0.2.2.2.2.2.1,.sl .bool p.d0.2.2.2.2.2.2.1,.sl bi p.d0.2.2.2.2.2.2.2]),(1,.ptr 0 0),(2,vi p.d1)]),[.code (cw Tryz.f102 [0]),.code (cw Tryz.f102 [1])],[],none⟩,⟨135,29,.leaf,[.ops (ow Tryz.f135 [1,1,1,1]) ((ow Tryz.f135 [1,1,1,1]).toList.drop 4)],[],none⟩,⟨57,101,(en [(6,.ptr 1 0),(10,.ptr 0 0),(13,vi p.d2)]),[.jB (ow Tryz.f57 [1,1,1,1,0,0,1,1,1,1,1,0]) [0,0,0,4,0,16,48,124,255] 8 [] [],.inBlock 1,.code (cw Tryz.f57 [1,1,1,1,1])],[],none⟩],[.flat false [vi p.d3.1,vi p.d3.2.1,vi p.d3.2.2.1.1,vi p.d3.2.2.1.2.1,vi p.d3.2.2.1.2.2.1,vi p.d3.2.2.1.2.2.2.1,vi p.d3.2.2.1.2.2.2.2,vi p.d3.2.2.2.1.1,vi p.d3.2.2.2.1.2.1,vi p.d3.2.2.2.1.2.2.1,vi p.d3.2.2.2.1.2.2.2.1,vi p.d3.2.2.2.1.2.2.2.2.1,vi p.d3.2.2.2.1.2.2.2.2.2.1,vi p.d3.2.2.2.1.2.2.2.2.2.2,vi p.d3.2.2.2.2.1,vb p.d3.2.2.2.2.2.1,vi p.d3.2.2.2.2.2.2.1,vi p.d3.2.2.2.2.2.2.2.1,.sl yU p.d3.2.2.2.2.2.2.2.2.1,.sl bl p.d3.2.2.2.2.2.2.2.2.2.1,vi p.d3.2.2.2.2.2.2.2.2.2.2.1,vi p.d3.2.2.2.2.2.2.2.2.2.2.2],.flat false [vi p.d4.1,vi p.d4.2.1,vi p.d4.2.2.1,vi p.d4.2.2.2.1,vi p.d4.2.2.2.2.1,vi p.d4.2.2.2.2.2.1,vi p.d4.2.2.2.2.2.2,vi p.d5.1,vi p.d5.2.1,vi p.d5.2.2.1,vi p.d5.2.2.2.1,vi p.d5.2.2.2.2.1,vi p.d5.2.2.2.2.2.1,vi p.d5.2.2.2.2.2.2,vi p.d6,vb p.d7,vi p.d8,vi p.d9,.dz true,.dz true,vi p.l6,vi p.lS],.dead]⟩
 | .c4 p=>⟨[⟨102,24,(en [(0,.agg [vi p.e0.1,vi p.e0.2.1,vi p.e0.2.2.1,vi p.e0.2.2.2.1,vi p.e0.2.2.2.2.1,vi p.e0.2.2.2.2.2.1,.sl .bool p.e0.2.2.2.2.2.2.1,.sl bi p.e0.2.2.2.2.2.2.2]),(1,.ptr 0 0),(2,vi p.e1)]),[.code (cw Tryz.f102 [0]),.code (cw Tryz.f102 [1])],[],none⟩,⟨135,29,.leaf,[.ops (ow Tryz.f135 [1,1,1,1]) ((ow Tryz.f135 [1,1,1,1]).toList.drop 4)],[],none⟩,⟨57,101,(en [(6,.ptr 1 0),(10,.ptr 0 0),(13,vi p.e2)]),[.ops (ow Tryz.f57 [1,1,1,1,0,0,1,1,1,1,1,1,1,0]) ((ow Tryz.f57 [1,1,1,1,0,0,1,1,1,1,1,1,1,0]).toList.drop 4),.inBlock 1,.code (cw Tryz.f57 [1,1,1,1,1])],[],none⟩],[.flat false [vi p.e3.1,vi p.e3.2.1,vi p.e3.2.2.1.1,vi p.e3.2.2.1.2.1,vi p.e3.2.2.1.2.2.1,vi p.e3.2.2.1.2.2.2.1,vi p.e3.2.2.1.2.2.2.2,vi p.e3.2.2.2.1.1,vi p.e3.2.2.2.1.2.1,vi p.e3.2.2.2.1.2.2.1,vi p.e3.2.2.2.1.2.2.2.1,vi p.e3.2.2.2.1.2.2.2.2.1,vi p.e3.2.2.2.1.2.2.2.2.2.1,vi p.e3.2.2.2.1.2.2.2.2.2.2,vi p.e3.2.2.2.2.1,vb p.e3.2.2.2.2.2.1,vi p.e3.2.2.2.2.2.2.1,vi p.e3.2.2.2.2.2.2.2.1,.sl yU p.e3.2.2.2.2.2.2.2.2.1,.sl bl p.e3.2.2.2.2.2.2.2.2.2.1,vi p.e3.2.2.2.2.2.2.2.2.2.2.1,vi p.e3.2.2.2.2.2.2.2.2.2.2.2],.flat false [vi p.e4.1,vi p.e4.2.1,vi p.e4.2.2.1,vi p.e4.2.2.2.1,vi p.e4.2.2.2.2.1,vi p.e4.2.2.2.2.2.1,vi p.e4.2.2.2.2.2.2,vi p.e5.1,vi p.e5.2.1,vi p.e5.2.2.1,vi p.e5.2.2.2.1,vi p.e5.2.2.2.2.1,vi p.e5.2.2.2.2.2.1,vi p.e5.2.2.2.2.2.2,vi p.e6,vb p.e7,vi p.e8,vi p.e9,.dz true,.dz true,vi p.e10,vi p.e11],.dead]⟩
def KZ(A:bg)(m:au)(n:Node)(seen:List Seen):LT (Node×Int×Bool×Int) FW:=.need (A.k (@tt (au×Node×Bool)) (m,n,(A.c .eql n.2.1 1))) (.br (A.c .neq (A.k aO (m,n,(A.c .eql n.2.1 1))).2 0) (.ret ((0,0,(0,0,0,0,0),(0,0,0,0,0,0,0),0,false,0,0,([]:List Int),([]:List bu),0,0),0,false,(A.k aO (m,n,(A.c .eql n.2.1 1))).2)) (.br (A.c .neq (A.l seen) 2) (.ret ((0,0,(0,0,0,0,0),(0,0,0,0,0,0,0),0,false,0,0,([]:List Int),([]:List bu),0,0),0,false,2)) (.need (A.k (@tt (Int×List Seen)) (m.1,seen)) (.br (A.not (A.k nv (m.1,seen)).2.2) (.ret ((A.k aO (m,n,(A.c .eql n.2.1 1))).1,0,false,0)) (.br (A.c .eql (A.k nv (m.1,seen)).1.1 1) (.br (A.c .eql (A.k nv (m.1,seen)).1.2.2.2.1 (A.k aO (m,n,(A.c .eql n.2.1 1))).1.1) (.ret ((A.k aO (m,n,(A.c .eql n.2.1 1))).1,0,false,0)) (.more (.c0 ⟨(A.k nv (m.1,seen)).2.1,m,(0,0,0,0,0,0,0),(0,0,0,0,0,0,0),0,false,0,0,0,0,(A.k aO (m,n,(A.c .eql n.2.1 1))).1,(A.k nv (m.1,seen)).1⟩))) (.more (.c0 ⟨(A.k nv (m.1,seen)).2.1,m,(0,0,0,0,0,0,0),(0,0,0,0,0,0,0),0,false,0,0,0,0,(A.k aO (m,n,(A.c .eql n.2.1 1))).1,(A.k nv (m.1,seen)).1⟩)))))))
def qV(A:bg):FW→LT (Node×Int×Bool×Int) FW
 | .c0 p=>.br (A.c .eql p.dR.1 1) (.br (A.not p.cf.2.2.2.2.2.1) (.need (A.k (@tt (au×Int)) (p.a1,p.cf.1)) (.ret ((p.cf.1,p.cf.2.1,p.cf.2.2.1,p.cf.2.2.2.1,(A.k vz (p.a1,p.cf.1)),true,p.cf.2.2.2.2.2.2),p.a0,false,0))) (.br (A.c .eql p.dR.1 1) (.need (A.c .leq 0 p.dR.2.2.2.1) (.more (.c1 ⟨p.a1,p.dR,(0,p.dR.2.2.2.1,0,0,(A.b .shl .i64 1 p.dR.2.2.2.1)),p.a0,p.cf,p.a2,p.a3,p.a4,p.a5,p.a6,p.a7,p.a8,p.a9⟩))) (.need (A.k (@tt (au×Node×rI)) (p.a1,p.cf,p.dR)) (.br (A.k Af (p.a1,p.cf,p.dR)) (.more (.c2 ⟨p.a1,p.dR,p.dR.2.2.1,p.a0,p.cf,p.a2,p.a3,p.a4,p.a5,p.a6,p.a7,p.a8,p.a9⟩)) (.ret (p.cf,0,false,0)))))) (.br (A.c .eql p.dR.1 1) (.need (A.c .leq 0 p.dR.2.2.2.1) (.more (.c1 ⟨p.a1,p.dR,(0,p.dR.2.2.2.1,0,0,(A.b .shl .i64 1 p.dR.2.2.2.1)),p.a0,p.cf,p.a2,p.a3,p.a4,p.a5,p.a6,p.a7,p.a8,p.a9⟩))) (.need (A.k (@tt (au×Node×rI)) (p.a1,p.cf,p.dR)) (.br (A.k Af (p.a1,p.cf,p.dR)) (.more (.c2 ⟨p.a1,p.dR,p.dR.2.2.1,p.a0,p.cf,p.a2,p.a3,p.a4,p.a5,p.a6,p.a7,p.a8,p.a9⟩)) (.ret (p.cf,0,false,0)))))
 | .c1 p=>.br (A.c .eql p.b1.1 4) (.need (A.k (@tt (bP×Int×List Int)) (p.b4.2.2.2.2.2.2.2,p.b2.2.1,p.b1.2.2.2.2)) (.need (A.k (@tt (bP×Int×List Int)) (p.b4.2.2.2.2.2.2.2,p.b2.2.1,p.b1.2.2.2.2)) (.br (A.c .eql (A.k yw (p.b4.2.2.2.2.2.2.2,p.b2.2.1,p.b1.2.2.2.2)).2 0) (.more (.c3 ⟨p.b0,p.b1.2.1,p.b3,(p.b4.1,3,p.b2,(p.b4.1,p.b0.1,p.b2.2.2.2.2,1,0,0,0),0,false,0,(A.k yw (p.b4.2.2.2.2.2.2.2,p.b2.2.1,p.b1.2.2.2.2)).1),p.b5,p.b6,p.b7,p.b8,p.b9,p.b10,p.b11,p.b12⟩)) (.more (.c3 ⟨p.b0,p.b1.2.1,p.b3,(p.b4.1,3,p.b2,(p.b4.1,p.b0.1,p.b2.2.2.2.2,1,0,0,0),0,false,0,p.b4.2.2.2.2.2.2.2),p.b5,p.b6,p.b7,p.b8,p.b9,p.b10,p.b11,p.b12⟩))))) (.more (.c3 ⟨p.b0,p.b1.2.1,p.b3,(p.b4.1,3,p.b2,(p.b4.1,p.b0.1,p.b2.2.2.2.2,1,0,0,0),0,false,0,p.b4.2.2.2.2.2.2.2),p.b5,p.b6,p.b7,p.b8,p.b9,p.b10,p.b11,p.b12⟩))
 | .c2 p=>.br (A.c .eql p.c1.1 4) (.need (A.k (@tt (bP×Int×List Int)) (p.c4.2.2.2.2.2.2.2,p.c2.2.1,p.c1.2.2.2.2)) (.need (A.k (@tt (bP×Int×List Int)) (p.c4.2.2.2.2.2.2.2,p.c2.2.1,p.c1.2.2.2.2)) (.br (A.c .eql (A.k yw (p.c4.2.2.2.2.2.2.2,p.c2.2.1,p.c1.2.2.2.2)).2 0) (.more (.c4 ⟨p.c0,p.c1.2.1,p.c3,(p.c4.1,3,p.c2,(p.c4.1,p.c0.1,p.c2.2.2.2.2,1,0,0,0),0,false,0,(A.k yw (p.c4.2.2.2.2.2.2.2,p.c2.2.1,p.c1.2.2.2.2)).1),p.c5,p.c6,p.c7,p.c8,p.c9,p.c10,p.c11,p.c12⟩)) (.more (.c4 ⟨p.c0,p.c1.2.1,p.c3,(p.c4.1,3,p.c2,(p.c4.1,p.c0.1,p.c2.2.2.2.2,1,0,0,0),0,false,0,p.c4.2.2.2.2.2.2.2),p.c5,p.c6,p.c7,p.c8,p.c9,p.c10,p.c11,p.c12⟩))))) (.more (.c4 ⟨p.c0,p.c1.2.1,p.c3,(p.c4.1,3,p.c2,(p.c4.1,p.c0.1,p.c2.2.2.2.2,1,0,0,0),0,false,0,p.c4.2.2.2.2.2.2.2),p.c5,p.c6,p.c7,p.c8,p.c9,p.c10,p.c11,p.c12⟩))
 | .c3 p=>.need (A.k (@tt (au×eF×Int)) (p.d0,p.d3.2.2.1,p.d1)) (.need (A.k (@tt (au×eF×Int)) (p.d0,p.d3.2.2.1,p.d1)) (.br (A.c .eql (A.k yh (p.d0,p.d3.2.2.1,p.d1)).2 0) (.ret ((p.d3.1,p.d3.2.1,(A.k yh (p.d0,p.d3.2.2.1,p.d1)).1,p.d3.2.2.2),p.d2,true,0)) (.ret (p.d3,p.d2,true,0))))
 | .c4 p=>.need (A.k (@tt (au×eF×Int)) (p.e0,p.e3.2.2.1,p.e1)) (.need (A.k (@tt (au×eF×Int)) (p.e0,p.e3.2.2.1,p.e1)) (.br (A.c .eql (A.k yh (p.e0,p.e3.2.2.1,p.e1)).2 0) (.ret ((p.e3.1,p.e3.2.1,(A.k yh (p.e0,p.e3.2.2.1,p.e1)).1,p.e3.2.2.2),p.e2,true,0)) (.ret (p.e3,p.e2,true,0))))
theorem I7{m:au}{n:Node}{f:rI}(hn:fw m n=0)(hf:fe f=true)(hj:FI m n f=true):(xL n.2.2.2.2.2.2.2 f.2.2.1.2.1 f.2.2.2.2).2=0:=by
 have hd:=jm.1 (ie hn).2
 simp only[FI,Bool.and_eq_true,BK,decide_eq_true_eq] at hj
 have hk:=uN hj.2.2.2.1
 simp only[fe,Bool.and_eq_true,decide_eq_true_eq] at hf
 have h8:=hf.1.2
 have e6:=hd.2.2.2.2.2.1
 rw[xL,hd.2.2.2.1,decide_eq_true (show 0≤f.2.2.1.2.1∧f.2.2.1.2.1≤(n.2.2.2.2.2.2.2.2.2.1.length:Int)-1 by rw[e6];exact hk.2.1),decide_eq_false (show ¬8<(f.2.2.2.2.length:Int) by omega)]
 rfl
theorem Jr{p:DF}:aC (qV ai) (.more (.c3 p)) ((p.d3.1,p.d3.2.1,s_ p.d0 p.d3.2.2.1 p.d1,p.d3.2.2.2),p.d2,true,0):=by
 rw[ak,qV]
 refine af.2 ⟨rfl,?_⟩
 repeat' (refine af.2 ⟨rfl,?_⟩)
 refine ax (p:=(yV p.d0 p.d3.2.2.1 p.d1).2=0) aT (fun h=>?_) fun h=>?_
 ·exact ao (by rw[s_,decide_eq_true h];rfl) (.ret _)
 ·exact ao (by rw[s_,decide_eq_false h];rfl) (.ret _)
theorem CW{p:Eo}:aC (qV ai) (.more (.c4 p)) ((p.e3.1,p.e3.2.1,s_ p.e0 p.e3.2.2.1 p.e1,p.e3.2.2.2),p.e2,true,0):=by
 rw[ak,qV]
 refine af.2 ⟨rfl,?_⟩
 repeat' (refine af.2 ⟨rfl,?_⟩)
 refine ax (p:=(yV p.e0 p.e3.2.2.1 p.e1).2=0) aT (fun h=>?_) fun h=>?_
 ·exact ao (by rw[s_,decide_eq_true h];rfl) (.ret _)
 ·exact ao (by rw[s_,decide_eq_false h];rfl) (.ret _)
theorem Jd{p:E2}(h:p.b1.1=1):aC (qV ai) (.more (.c1 p)) (nK p.b0 p.b4 p.b2 p.b1,p.b3,true,0):=by
 rw[ak,qV]
 refine(ah (by rw[aT];exact decide_eq_false (by omega))).2 (ao ?_ Jr)
 rw[nK,decide_eq_false (show ¬p.b1.1=4 by omega)]
 rfl
theorem Kt{p:FB}(h:p.c1.1=4→(xL p.c4.2.2.2.2.2.2.2 p.c2.2.1 p.c1.2.2.2.2).2=0):aC (qV ai) (.more (.c2 p)) (nK p.c0 p.c4 p.c2 p.c1,p.c3,true,0):=by
 rw[ak,qV]
 refine ax (p:=p.c1.1=4) aT (fun g=>af.2 ⟨rfl,?_⟩) fun g=>ao (by rw[nK,decide_eq_false g];rfl) CW
 repeat' (refine af.2 ⟨rfl,?_⟩)
 exact(aj (J5 (h g))).2 (ao (by rw[nK,decide_eq_true g];rfl) CW)
theorem Km{p:Cp}{m:au}{n:Node}{f:rI}{t:Int}(h0:p.a0=t)(h1:p.a1=m)(h2:p.cf=n)(hf:p.dR=f)(hl:0≤f.2.2.2.1)(hd:FI m n f=true→(xL n.2.2.2.2.2.2.2 f.2.2.1.2.1 f.2.2.2.2).2=0):aC (qV ai) (.more (.c0 p)) (bif decide (f.1=1) then(bif !n.2.2.2.2.2.1 then((n.1,n.2.1,n.2.2.1,n.2.2.2.1,(tq m n.1).1,true,n.2.2.2.2.2.2),t,false,0) else(nK m n (0,f.2.2.2.1,0,0,ai.b .shl .i64 1 f.2.2.2.1) f,t,true,0)) else bif FI m n f then(nK m n f.2.2.1 f,t,true,0) else(n,0,false,0)):=by
 rw[ak,qV,h0,h1,h2,hf]
 refine ax (p:=f.1=1) aT (fun h=>?_) fun h=>?_
 ·rw[decide_eq_true h,cond_true]
  cases hb:n.2.2.2.2.2.1
  ·exact(aj rfl).2 (af.2 ⟨rfl,.ret _⟩)
  ·exact(ah rfl).2 ((aj (by rw[aT];exact decide_eq_true h)).2 (af.2 ⟨decide_eq_true hl,Jd h⟩))
 ·rw[decide_eq_false h,cond_false]
  refine(ah (by rw[aT];exact decide_eq_false h)).2 (af.2 ⟨rfl,?_⟩)
  rw[show ai.k Af (m,n,f)=FI m n f from rfl]
  cases hj:FI m n f
  ·exact(ah rfl).2 (.ret _)
  ·exact(aj rfl).2 (Kt fun _=>hd hj)
theorem Mv{m:au}{n:Node}{seen:List Seen}:aC (qV ai) (KZ ai m n seen) (K1 m n seen true):=by
 unfold KZ K1
 refine af.2 ⟨rfl,?_⟩
 rw[show ai.k aO (m,n,ai.c .eql n.2.1 1)=pg m n (ai.c .eql n.2.1 1) from rfl,aT,pg]
 by_cases h:fw m n=0
 ·rw[decide_eq_true h,cond_true,cond_true]
  cases decide (n.2.1=1)
  ·exact(aj rfl).2 (.ret _)
  rw[cond_true,cond_true]
  refine(ah rfl).2 (ax (p:=¬(seen.length:Int)=2) aY (fun h2=>ao (by rw[decide_eq_false h2];rfl) (.ret _)) fun h2=>af.2 ⟨rfl,?_⟩)
  rw[decide_eq_true (Decidable.not_not.1 h2),cond_true,show ai.k nv (m.1,seen)=fO m.1 seen from rfl]
  cases he:(fO m.1 seen).2.2
  ·exact(aj rfl).2 (.ret _)
  obtain⟨e1,e2,e3⟩:=JR he
  have hl:=Kf e3
  have nx:=fun {a b c d e g i j}=>Km (p:=⟨(fO m.1 seen).2.1,m,a,b,c,d,e,g,i,j,n,(fO m.1 seen).1⟩) (m:=m) (n:=n) (f:=(fO m.1 seen).1) (t:=(fO m.1 seen).2.1) rfl rfl rfl rfl hl.1 (I7 h e3)
  generalize fO m.1 seen=x at *
  refine(ah rfl).2 (ax (p:=x.1.1=1) aT (fun h3=>ax (p:=x.1.2.2.2.1=n.1) aT (fun h4=>?_) fun h4=>?_) fun h3=>?_)
  ·exact ao (by rw[decide_eq_true h3,decide_eq_true h4];rfl) (.ret _)
  ·rw[decide_eq_true h3] at nx
   rw[decide_eq_true h3,decide_eq_false h4,cond_true,cond_true,cond_false,Bool.true_and]
   exact nx
  ·rw[decide_eq_false h3] at nx
   rw[decide_eq_false h3,cond_true,cond_false]
   exact nx
 ·rw[decide_eq_false h];exact(aj (oo h)).2 (.ret _)
def vf:(au×Node×List Seen)→(Node×Int×Bool×Int):=fun(m,n,s)=>K1 m n s true
def QE:aB:=⟨[bW,du,(.slice jj)], [du,yI,.bool,yI],(@tt (au×Node×List Seen)),vf⟩
theorem Qf:Sd 57 QE:=aH ar cO true 93 [] [⟨57,10, [[3,6,10,12,13]]⟩,⟨102,0, [[0,1,2], [], [6,10,13]]⟩,⟨135,0, [[0,1,2,3], [6,10,13]]⟩] (fun A (m,n,seen)=>KZ A m n seen) qV LW (fc Tryz.func57 (fc Tryz.func75 (fc Tryz.func101 (fc Tryz.func102 (fc Tryz.func135 fz))))) (sc AA (sc Nh (sc Fu (sc OG (sc NI (sc ME sz)))))) (fun A y=>match y with |.c0 p=>⟨42,by kernel_rfl,by kernel_rfl⟩|.c1 p=>⟨125,by kernel_rfl,by kernel_rfl⟩|.c2 p=>⟨125,by kernel_rfl,by kernel_rfl⟩|.c3 p=>⟨51,by kernel_rfl,by kernel_rfl⟩|.c4 p=>⟨51,by kernel_rfl,by kernel_rfl⟩) fun(m,n,seen) hp h=>Mv
open Go.Ev.Pl
theorem uL{x:List UInt8}:ai.z .neq x x=false:=by show(!(x==x))=false;simp
theorem DK{x:Int}:ai.c .neq x x=false:=by rw[aY];simp
instance:DecidableEq bu:=inferInstanceAs (DecidableEq (List Int×Int))
instance:DecidableEq eF:=inferInstanceAs (DecidableEq (Int×Int×Int×Int×Int))
instance:DecidableEq B9:=inferInstanceAs (DecidableEq (Int×Int×Int×Int×Int×Int×Int))
instance:DecidableEq bP:=inferInstanceAs (DecidableEq (Int×List Int×List bu×Int×Int))
def QH:DecidableEq (Int×Bool×Int×bP):=inferInstance
def MN:DecidableEq (eF×B9×Int×Bool×Int×bP):=have:=QH;inferInstance
instance:DecidableEq Node:=have:=MN;inferInstanceAs (DecidableEq (Int×Int×(eF×B9×Int×Bool×Int×bP)))
structure JF where
 (a1 a2:bP)
inductive Gb where
 | c0 (p:JF) (a0:Int)
noncomputable def LO:Gb→fE
 | .c0 p a0=>⟨[⟨30,80,(en [(2,.ptr 0 0),(3,.ptr 1 0),(5,vi a0)]),[.inLoop (cw Tryz.f30 [1,1,0,1,0,0]),.inBlock 0,.code (cw Tryz.f30 [1,1,1])],[],none⟩],[.flat false [vi p.a1.1,.sl yU p.a1.2.1,.sl bl p.a1.2.2.1,vi p.a1.2.2.2.1,vi p.a1.2.2.2.2],.flat false [vi p.a2.1,.sl yU p.a2.2.1,.sl bl p.a2.2.2.1,vi p.a2.2.2.2.1,vi p.a2.2.2.2.2],.dead]⟩
def Js(A:bg)(a:bP)(b:bP):LT Bool Gb:=.br (A.c .neq a.1 b.1) (.ret false) (.br (A.z .neq (A.bytes a.2.1) (A.bytes b.2.1)) (.ret false) (.br (A.c .neq a.2.2.2.1 b.2.2.2.1) (.ret false) (.br (A.c .neq a.2.2.2.2 b.2.2.2.2) (.ret false) (.br (A.c .neq (A.l a.2.2.1) (A.l b.2.2.1)) (.ret false) (.more (.c0 ⟨a,b⟩ 0))))))
def E4(A:bg):Gb→LT Bool Gb
 | .c0 p a0=>.br (A.c .lss a0 (A.l p.a1.2.2.1)) (.need (A.and (A.c .leq 0 a0) (A.c .lss a0 (A.l p.a1.2.2.1))) (.need (A.and (A.c .leq 0 a0) (A.c .lss a0 (A.l p.a2.2.2.1))) (.br (A.z .neq (A.bytes (A.n bl p.a1.2.2.1 a0:bu).1) (A.bytes (A.n bl p.a2.2.2.1 a0:bu).1)) (.ret false) (.need (A.and (A.c .leq 0 a0) (A.c .lss a0 (A.l p.a1.2.2.1))) (.need (A.and (A.c .leq 0 a0) (A.c .lss a0 (A.l p.a2.2.2.1))) (.br (A.c .neq (A.n bl p.a1.2.2.1 a0:bu).2 (A.n bl p.a2.2.2.1 a0:bu).2) (.ret false) (.more (.c0 p (A.b .add .i64 a0 1))))))))) (.ret true)
theorem Bc{c:bP}(hl:c.2.2.1.length≤140737488355328):∀(j i:Nat),c.2.2.1.length-i=j→i≤c.2.2.1.length→aC (E4 ai) (.more (.c0 ⟨c,c⟩ (i:Int))) true:=by
 intro j
 induction j with
 | zero=>
   intro i hj hi
   rw[ak,E4]
   exact(ah (by rw[gU];exact decide_eq_false (show ¬i<c.2.2.1.length by omega))).2 (.ret _)
 | succ j ih=>
   intro i hj hi
   have hi':i<c.2.2.1.length:=by omega
   rw[ak,E4]
   refine(aj (by rw[gU];exact decide_eq_true hi')).2 (af.2 ⟨aL hi',af.2 ⟨aL hi',(ah uL).2 (af.2 ⟨aL hi',af.2 ⟨aL hi',(ah DK).2 ?_⟩⟩)⟩⟩)
   rw[cK (i:=i) (by omega)]
   exact ih (i+1) (by omega) (by omega)
theorem Jb{a b:bP}(hl:a.2.2.1.length≤140737488355328)(h:a=b):aC (E4 ai) (Js ai a b) true:=by
 subst h
 unfold Js
 refine(ah (by rw[aY];simp)).2 ((ah uL).2 ((ah (by rw[aY];simp)).2 ((ah (by rw[aY];simp)).2 ((ah (by rw[aY];simp)).2 (Bc hl _ 0 rfl (by omega))))))
def zR:(bP×bP)→Bool:=fun _=>true
def wS:(bP×bP)→Bool:=fun(a,b)=>decide (a=b)
def PY:aB:=⟨[gv,gv], [.bool],wS,zR⟩
theorem Ih:Sd 30 PY:=aH ar cO true 62 [⟨30,4, [[2,3,5]]⟩] [] (fun A (a,b)=>Js A a b) E4 LO (fc Tryz.func30 fz) sz (fun A y=>match y with |.c0 p a0=>⟨60,by kernel_rfl,by kernel_rfl⟩) fun((a,b):bP×bP) hp h=>Jb h.1.2.2.1.1 (of_decide_eq_true hp)
def Ky(A:bg)(a:Node)(b:Node):LT Bool Empty:=.br (A.c .eql a.1 b.1) (.br (A.c .eql a.2.1 b.2.1) (.br (A.and (A.c .eql a.2.2.1.1 b.2.2.1.1) (A.and (A.c .eql a.2.2.1.2.1 b.2.2.1.2.1) (A.and (A.c .eql a.2.2.1.2.2.1 b.2.2.1.2.2.1) (A.and (A.c .eql a.2.2.1.2.2.2.1 b.2.2.1.2.2.2.1) (A.and (A.c .eql a.2.2.1.2.2.2.2 b.2.2.1.2.2.2.2) true))))) (.br (A.and (A.c .eql a.2.2.2.1.1 b.2.2.2.1.1) (A.and (A.c .eql a.2.2.2.1.2.1 b.2.2.2.1.2.1) (A.and (A.c .eql a.2.2.2.1.2.2.1 b.2.2.2.1.2.2.1) (A.and (A.c .eql a.2.2.2.1.2.2.2.1 b.2.2.2.1.2.2.2.1) (A.and (A.c .eql a.2.2.2.1.2.2.2.2.1 b.2.2.2.1.2.2.2.2.1) (A.and (A.c .eql a.2.2.2.1.2.2.2.2.2.1 b.2.2.2.1.2.2.2.2.2.1) (A.and (A.c .eql a.2.2.2.1.2.2.2.2.2.2 b.2.2.2.1.2.2.2.2.2.2) true))))))) (.br (A.c .eql a.2.2.2.2.1 b.2.2.2.2.1) (.br (A.q a.2.2.2.2.2.1 b.2.2.2.2.2.1) (.br (A.c .eql a.2.2.2.2.2.2.1 b.2.2.2.2.2.2.1) (.need (A.k wS (a.2.2.2.2.2.2.2,b.2.2.2.2.2.2.2)) (.ret (A.k zR (a.2.2.2.2.2.2.2,b.2.2.2.2.2.2.2)))) (.ret false)) (.ret false)) (.ret false)) (.ret false)) (.ret false)) (.ret false)) (.ret false)
theorem Ja{a b:Node}(h:a=b):aC Empty.elim (Ky ai a b) true:=by
 subst h
 unfold Ky
 have e:∀x:Int,ai.c .eql x x=true:=fun x=>by rw[aT];simp
 refine(aj (e _)).2 ((aj (e _)).2 ((aj (by rw[e,e,e,e,e];rfl)).2 ((aj (by rw[e,e,e,e,e,e,e];rfl)).2 ((aj (e _)).2 ((aj (by rw[iI];simp)).2 ((aj (e _)).2 (af.2 ⟨decide_eq_true rfl,.ret _⟩)))))))
def s9:(Node×Node)→Bool:=fun _=>true
def oT:(Node×Node)→Bool:=fun(a,b)=>decide (a=b)
def RF:aB:=⟨[du,du], [.bool],oT,s9⟩
theorem PE:Sd 19 RF:=aG ar cO true 70 [] (fun A (a,b)=>Ky A a b) (fc Tryz.func19 fz) (sc Ih sz) fun((a,b):Node×Node) hp h=>Ja (of_decide_eq_true hp)
def Hm(A:bg)(id:Int):LT (List Seen) Empty:=.need (A.k (@tt ((Int×Int×(Int×Int×Int×Int×Int)×Int×List Int))) (1,0,(0,0,0,0,0),id,([]:List Int))) (.ret [(2,9,(A.k RI (1,0,(0,0,0,0,0),id,([]:List Int))).1),(0,0,0,([]:List Int))])
def sU:Int→(List Seen):=fun id=>(Hm ai id).val (Ty.da [(.slice jj)])
def N3:aB:=⟨[yI], [(.slice jj)],(@tt Int),sU⟩
theorem M4:Sd 61 N3:=aJ ar cO true 30 [] (fun A id=>Hm A id) (fc Tryz.func61 fz) (sc Vx sz) (fun(id:Int) hp h=>by
 show(Hm ai id).pre=true
 simp[Hm,LT.pre,ap,dI])
def Gq(A:bg)(n:Node):LT Bool Empty:=.ret (A.c .leq (A.l n.2.2.2.2.2.2.2.2.2.1) 20)
def vm:Node→Bool:=fun n=>(Gq ai n).val (Ty.da [.bool])
def Nl:aB:=⟨[du], [.bool],(@tt Node),vm⟩
theorem Ry:Sd 15 Nl:=aJ ar cO true 20 [] (fun A n=>Gq A n) (fc Tryz.func15 fz) sz (fun(n:Node) hp h=>by
 show(Gq ai n).pre=true
 simp[Gq,LT.pre,ap,dI])
structure Kb where
 (a0 a1 a2 a3 a4 a5 a6 a7 a8 a9:Int) (cf:Node) (dR:List Bool) (a12:List Int) (nf jN:List Bool)
inductive Gy where
 | c0 (p:Kb)
noncomputable def KM:Gy→fE
 | .c0 p=>⟨[⟨14,64,(en [(1,.ptr 0 0),(2,vi p.a0),(3,.ptr 1 0),(4,vi p.a1)]),[.code (cw Tryz.f14 [1,1,1,0]),.code (cw Tryz.f14 [1,1,1,1])],[],none⟩],[.flat false [vi p.a2,vi p.a3,vi p.a4,vi p.a5,vi p.a6,vi p.a7,.own 2,.j4 3 3 false p.a8 p.a9],.flat false [vi p.cf.1,vi p.cf.2.1,vi p.cf.2.2.1.1,vi p.cf.2.2.1.2.1,vi p.cf.2.2.1.2.2.1,vi p.cf.2.2.1.2.2.2.1,vi p.cf.2.2.1.2.2.2.2,vi p.cf.2.2.2.1.1,vi p.cf.2.2.2.1.2.1,vi p.cf.2.2.2.1.2.2.1,vi p.cf.2.2.2.1.2.2.2.1,vi p.cf.2.2.2.1.2.2.2.2.1,vi p.cf.2.2.2.1.2.2.2.2.2.1,vi p.cf.2.2.2.1.2.2.2.2.2.2,vi p.cf.2.2.2.2.1,vb p.cf.2.2.2.2.2.1,vi p.cf.2.2.2.2.2.2.1,vi p.cf.2.2.2.2.2.2.2.1,.sl yU p.cf.2.2.2.2.2.2.2.2.1,.sl bl p.cf.2.2.2.2.2.2.2.2.2.1,vi p.cf.2.2.2.2.2.2.2.2.2.2.1,vi p.cf.2.2.2.2.2.2.2.2.2.2.2],.arr true .bool p.dR,.flat true [.sl yI p.a12,.sl .bool p.nf,.sl .bool p.jN],.dead]⟩
def KO(A:bg):LT Bool Gy:=.need (A.c .leq (A.l ([true]:List Bool)) 140737488355328) (.need (A.c .leq (A.l ([2]:List Int)) 17592186044416) (.need (A.c .leq (A.l ([true]:List Bool)) 140737488355328) (.need (A.c .leq (A.l (A.p [true] [true])) 140737488355328) (.need (A.c .leq (A.l (A.p ([2]:List Int) ([2]:List Int))) 17592186044416) (.need (A.c .leq (A.l (A.p [true] [true])) 140737488355328) (.need (A.c .leq (A.l (A.p (A.p [true] [true]) [true])) 140737488355328) (.need (A.c .leq (A.l (A.p (A.p ([2]:List Int) ([2]:List Int)) ([2]:List Int))) 17592186044416) (.need (A.c .leq (A.l (A.p (A.p [true] [true]) [true])) 140737488355328) (.need (A.c .leq (A.l (A.p (A.p (A.p [true] [true]) [true]) [true])) 140737488355328) (.need (A.c .leq (A.l (A.p (A.p (A.p ([2]:List Int) ([2]:List Int)) ([2]:List Int)) ([2]:List Int))) 17592186044416) (.need (A.c .leq (A.l (A.p (A.p (A.p [true] [true]) [true]) [true])) 140737488355328) (.need (A.k (@tt au) (4,0,38,16,0,1,(A.p (A.p (A.p [true] [true]) [true]) [true]), [((A.p (A.p (A.p ([2]:List Int) ([2]:List Int)) ([2]:List Int)) ([2]:List Int)),(A.p (A.p (A.p [true] [true]) [true]) [true]), [true])])) (.need (A.k (@tt (au×Int)) ((4,(A.b .add .i64 76 (A.k pY (4,0,38,16,0,1,(A.p (A.p (A.p [true] [true]) [true]) [true]), [((A.p (A.p (A.p ([2]:List Int) ([2]:List Int)) ([2]:List Int)) ([2]:List Int)),(A.p (A.p (A.p [true] [true]) [true]) [true]), [true])]))),38,16,0,1,(A.p (A.p (A.p [true] [true]) [true]) [true]), [((A.p (A.p (A.p ([2]:List Int) ([2]:List Int)) ([2]:List Int)) ([2]:List Int)),(A.p (A.p (A.p [true] [true]) [true]) [true]), [true])]),1)) (.more (.c0 ⟨0,(A.k mz ((4,(A.b .add .i64 76 (A.k pY (4,0,38,16,0,1,(A.p (A.p (A.p [true] [true]) [true]) [true]), [((A.p (A.p (A.p ([2]:List Int) ([2]:List Int)) ([2]:List Int)) ([2]:List Int)),(A.p (A.p (A.p [true] [true]) [true]) [true]), [true])]))),38,16,0,1,(A.p (A.p (A.p [true] [true]) [true]) [true]), [((A.p (A.p (A.p ([2]:List Int) ([2]:List Int)) ([2]:List Int)) ([2]:List Int)),(A.p (A.p (A.p [true] [true]) [true]) [true]), [true])]),1)).2,4,(A.b .add .i64 76 (A.k pY (4,0,38,16,0,1,(A.p (A.p (A.p [true] [true]) [true]) [true]), [((A.p (A.p (A.p ([2]:List Int) ([2]:List Int)) ([2]:List Int)) ([2]:List Int)),(A.p (A.p (A.p [true] [true]) [true]) [true]), [true])]))),38,16,0,1,0,1,(A.k mz ((4,(A.b .add .i64 76 (A.k pY (4,0,38,16,0,1,(A.p (A.p (A.p [true] [true]) [true]) [true]), [((A.p (A.p (A.p ([2]:List Int) ([2]:List Int)) ([2]:List Int)) ([2]:List Int)),(A.p (A.p (A.p [true] [true]) [true]) [true]), [true])]))),38,16,0,1,(A.p (A.p (A.p [true] [true]) [true]) [true]), [((A.p (A.p (A.p ([2]:List Int) ([2]:List Int)) ([2]:List Int)) ([2]:List Int)),(A.p (A.p (A.p [true] [true]) [true]) [true]), [true])]),1)).1,(A.p (A.p (A.p [true] [true]) [true]) [true]),(A.p (A.p (A.p ([2]:List Int) ([2]:List Int)) ([2]:List Int)) ([2]:List Int)),(A.p (A.p (A.p [true] [true]) [true]) [true]), [true]⟩)))))))))))))))
def JG(A:bg):Gy→LT Bool Gy
 | .c0 p=>.need (A.k (@tt (au×Node×Bool)) ((p.a2,p.a3,p.a4,p.a5,p.a6,p.a7,p.dR,(A.s [(p.a12,p.nf,p.jN)] p.a8 (A.b .add .i64 p.a8 p.a9))),p.cf,true)) (.need (A.k (@tt Int) 2) (.need (A.k (@tt (au×Node×List Seen)) ((p.a2,p.a3,p.a4,p.a5,p.a6,p.a7,p.dR,(A.s [(p.a12,p.nf,p.jN)] p.a8 (A.b .add .i64 p.a8 p.a9))),(A.k jJ ((p.a2,p.a3,p.a4,p.a5,p.a6,p.a7,p.dR,(A.s [(p.a12,p.nf,p.jN)] p.a8 (A.b .add .i64 p.a8 p.a9))),p.cf,true)).1,(A.k sU 2))) (.br (A.c .eql p.a0 0) (.br (A.c .eql p.a1 0) (.br (A.c .eql (A.k jJ ((p.a2,p.a3,p.a4,p.a5,p.a6,p.a7,p.dR,(A.s [(p.a12,p.nf,p.jN)] p.a8 (A.b .add .i64 p.a8 p.a9))),p.cf,true)).2 0) (.br (A.c .eql (A.k vf ((p.a2,p.a3,p.a4,p.a5,p.a6,p.a7,p.dR,(A.s [(p.a12,p.nf,p.jN)] p.a8 (A.b .add .i64 p.a8 p.a9))),(A.k jJ ((p.a2,p.a3,p.a4,p.a5,p.a6,p.a7,p.dR,(A.s [(p.a12,p.nf,p.jN)] p.a8 (A.b .add .i64 p.a8 p.a9))),p.cf,true)).1,(A.k sU 2))).2.2.2 0) (.br (A.c .eql (A.k vf ((p.a2,p.a3,p.a4,p.a5,p.a6,p.a7,p.dR,(A.s [(p.a12,p.nf,p.jN)] p.a8 (A.b .add .i64 p.a8 p.a9))),(A.k jJ ((p.a2,p.a3,p.a4,p.a5,p.a6,p.a7,p.dR,(A.s [(p.a12,p.nf,p.jN)] p.a8 (A.b .add .i64 p.a8 p.a9))),p.cf,true)).1,(A.k sU 2))).2.1 9) (.br (A.not (A.k vf ((p.a2,p.a3,p.a4,p.a5,p.a6,p.a7,p.dR,(A.s [(p.a12,p.nf,p.jN)] p.a8 (A.b .add .i64 p.a8 p.a9))),(A.k jJ ((p.a2,p.a3,p.a4,p.a5,p.a6,p.a7,p.dR,(A.s [(p.a12,p.nf,p.jN)] p.a8 (A.b .add .i64 p.a8 p.a9))),p.cf,true)).1,(A.k sU 2))).2.2.1) (.br (A.k vf ((p.a2,p.a3,p.a4,p.a5,p.a6,p.a7,p.dR,(A.s [(p.a12,p.nf,p.jN)] p.a8 (A.b .add .i64 p.a8 p.a9))),(A.k jJ ((p.a2,p.a3,p.a4,p.a5,p.a6,p.a7,p.dR,(A.s [(p.a12,p.nf,p.jN)] p.a8 (A.b .add .i64 p.a8 p.a9))),p.cf,true)).1,(A.k sU 2))).1.2.2.2.2.2.1 (.ret (A.c .eql (A.k vf ((p.a2,p.a3,p.a4,p.a5,p.a6,p.a7,p.dR,(A.s [(p.a12,p.nf,p.jN)] p.a8 (A.b .add .i64 p.a8 p.a9))),(A.k jJ ((p.a2,p.a3,p.a4,p.a5,p.a6,p.a7,p.dR,(A.s [(p.a12,p.nf,p.jN)] p.a8 (A.b .add .i64 p.a8 p.a9))),p.cf,true)).1,(A.k sU 2))).1.2.1 1)) (.ret false)) (.ret false)) (.ret false)) (.ret false)) (.ret false)) (.ret false)) (.ret false))))
theorem Bl:aC (JG ai) (KO ai) true:=by
 unfold KO
 repeat' (refine af.2 ⟨by kernel_rfl,?_⟩)
 rw[ak,JG]
 repeat' (refine af.2 ⟨by kernel_rfl,?_⟩)
 refine(aj (by kernel_rfl)).2 ((aj (by kernel_rfl)).2 ((aj (by kernel_rfl)).2 ((aj (by kernel_rfl)).2 ((aj (by kernel_rfl)).2 ((aj (by kernel_rfl)).2 ((aj (by kernel_rfl)).2 (ao (by kernel_rfl) (.ret _))))))))
def uS:Unit→Bool:=fun _=>true
def Sy:aB:=⟨[], [.bool],(@tt Unit),uS⟩
theorem SE:Sd 14 Sy:=aH ar cO true 313 [] [⟨14,3, [[1,2,3,4]]⟩] (fun A _=>KO A) JG KM (fc Tryz.func14 (fc Tryz.func60 fz)) (sc Iu (sc Qf (sc EJ (sc It (sc M4 sz))))) (fun A y=>match y with |.c0 p=>⟨66,by kernel_rfl,by kernel_rfl⟩) fun _ hp h=>Bl
end Go.Ev.M
