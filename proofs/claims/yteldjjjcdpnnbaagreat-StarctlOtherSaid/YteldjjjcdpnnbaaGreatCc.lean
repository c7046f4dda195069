/-
  PROVED: what busctl.Hear and metronomeref18.Hear compute. Conditions: none.
-/
import Derived.Test.YteldjjjcdpnnbaaGreatCb
import Derived.Test.YteldjjjcdpnnbaaGreatDa
import Derived.Test.YteldjjjcdpnnbaaGreatDb
import Derived.Test.YteldjjjcdpnnbaaGreatKa
namespace Go.Ev.M
open Go.Proofs
set_option maxRecDepth 100000
set_option linter.unusedVariables false
set_option linter.unusedSimpArgs false
open Go.Ev.Pl
structure Og where
 (a0:Int) (a1:List Seen) (a2:Int) (a4:eT) (a5:Int)
inductive QL where
 | c0 (p:Og) (a3:Int)
noncomputable def Vv:QL→fL
 | .c0 p a3=>⟨[⟨134,45,(en [(0,vi p.a0),(4,.ptr 0 0),(11,.sl fA p.a1),(12,vi p.a2),(13,vi a3)]),[.inLoop (cw Tryz.f134 [1,0,1,0,0]),.inBlock 0,.code (cw Tryz.f134 [1,1])],[],none⟩],[.flat false [vi p.a4.1,vi p.a4.2.1,vi p.a4.2.2.1,vi p.a4.2.2.2.1,vi p.a4.2.2.2.2.1,vi p.a4.2.2.2.2.2.1,vi p.a4.2.2.2.2.2.2,vi p.a5,.bi true],.dead]⟩
def adz(A:a_)(n:Int)(seen:List Seen):LT (gb×Int×Bool) QL:=.more (.c0 ⟨n,seen,(A.l seen),(0,0,0,0,0,0,0),0⟩ 0)
def Iu(A:a_):QL→LT (gb×Int×Bool) QL
 | .c0 p a3=>.br (A.c .lss a3 p.a2) (.need (A.and (A.c .leq 0 a3) (A.c .lss a3 (A.l p.a1))) (.br (A.c .neq (A.n fA p.a1 a3:Seen).1 2) (.more (.c0 p (A.b .add .i64 a3 1))) (.need (A.k (@tt ((Int×List Int))) (A.n fA p.a1 a3:Seen).2.2) (.br (A.k Dh (A.n fA p.a1 a3:Seen).2.2).2 (.need (A.k (@tt ((Int×Int×Int×Int×Int)×Int)) ((A.k Dh (A.n fA p.a1 a3:Seen).2.2).1.2.2.1,p.a0)) (.br (A.c .eql (A.k jZ ((A.k Dh (A.n fA p.a1 a3:Seen).2.2).1.2.2.1,p.a0)) 0) (.br (A.c .lss (A.k Dh (A.n fA p.a1 a3:Seen).2.2).1.2.2.2.1 p.a0) (.ret ((A.k Dh (A.n fA p.a1 a3:Seen).2.2).1,(A.n fA p.a1 a3:Seen).2.1,true)) (.more (.c0 p (A.b .add .i64 a3 1)))) (.more (.c0 p (A.b .add .i64 a3 1))))) (.more (.c0 p (A.b .add .i64 a3 1))))))) (.ret ((0,0,(0,0,0,0,0),0,([]:List Int)),0,false))
def zZ(n:Int)(s:Seen):Bool:=decide (s.1=2)&&(decide ((lN s.2.2).2=true)&&(decide (g_ ((lN s.2.2).1.2.2.1,n)=0)&&decide ((lN s.2.2).1.2.2.2.1<n)))
def fF(n:Int):List Seen→gb×Int×Bool
 | []=>((0,0,(0,0,0,0,0),0,([]:List Int)),0,false)
 | s::l=>bif zZ n s then((lN s.2.2).1,s.2.1,true) else fF n l
theorem NL{n:Int}{l:List Seen}(h:(fF n l).2.2=true):g_ ((fF n l).1.2.2.1,n)=0∧(fF n l).1.2.2.2.1<n∧fO (fF n l).1=true:=by
 induction l with
 | nil=>exact absurd h (by simp[fF])
 | cons s l ih=>
   rw[fF] at h ⊢
   cases hx:zZ n s
   ·rw[hx] at h;exact ih h
   ·simp only[zZ,Bool.and_eq_true,decide_eq_true_eq] at hx
    exact⟨hx.2.2.1,hx.2.2.2,Pq hx.2.1⟩
theorem aai{b:Bool}:b=decide (b=true):=by cases b<;>rfl
theorem JC{p:Og}{n:Int}{seen:List Seen}(h0:p.a0=n)(h1:p.a1=seen)(h2:p.a2=(seen.length:Int))(hl:seen.length≤140737488355328):∀(j i:Nat),seen.length-i=j→i≤seen.length→aA (Iu aj) (.more (.c0 p (i:Int))) (fF n (seen.drop i)):=by
 intro j
 induction j with
 | zero=>
   intro i hj hi
   have:i=seen.length:=by omega
   subst this
   rw[ak,Iu,h2,List.drop_length]
   exact(ah (by rw[ar];simp)).2 (.ret _)
 | succ j ih=>
   intro i hj hi
   have hi':i<seen.length:=by omega
   have nx:=ih (i+1) (by omega) (by omega)
   rw[ak,Iu,h0,h1,h2]
   refine(ai (by rw[ar];exact decide_eq_true (by omega))).2 (af.2 ⟨aP hi',?_⟩)
   rw[show(aj.n fA seen (i:Int):Seen)=seen[i] from getD_in hi' _,List.drop_eq_getElem_cons hi',fF,cf (i:=i) (by omega)]
   generalize seen[i]=s
   generalize fF n (seen.drop (i+1))=r at nx ⊢
   have hx:zZ n s=false→aA (Iu aj) (.more (.c0 p ((i+1:Nat):Int))) (bif zZ n s then((lN s.2.2).1,s.2.1,true) else r):=fun h=>au (by rw[h];rfl) nx
   rw[show aj.k Dh s.2.2=lN s.2.2 from QI]
   refine ap (p:=¬s.1=2) aS (fun h=>hx (by rw[zZ,decide_eq_false h];rfl)) fun g1=>af.2 ⟨rfl,?_⟩
   refine ap (p:=(lN s.2.2).2=true) aai (fun g2=>af.2 ⟨rfl,?_⟩) fun h=>hx (by rw[zZ,decide_eq_false h,Bool.false_and,Bool.and_false])
   refine ap (p:=g_ ((lN s.2.2).1.2.2.1,n)=0) aI (fun g3=>?_) fun h=>hx (by rw[zZ,decide_eq_false h,Bool.false_and,Bool.and_false,Bool.and_false])
   refine ap (p:=(lN s.2.2).1.2.2.2.1<n) rfl (fun g4=>?_) fun h=>hx (by rw[zZ,decide_eq_false h,Bool.and_false,Bool.and_false,Bool.and_false])
   exact au (by rw[zZ,decide_eq_true (Decidable.not_not.1 g1),decide_eq_true g2,decide_eq_true g3,decide_eq_true g4];rfl) (.ret _)
theorem Z6{n:Int}{seen:List Seen}(hl:seen.length≤140737488355328):aA (Iu aj) (adz aj n seen) (fF n seen):=
 JC (p:=⟨n,seen,(seen.length:Int),(0,0,0,0,0,0,0),0⟩) rfl rfl rfl hl seen.length 0 rfl (by omega)
def iY:(Int×List Seen)→(gb×Int×Bool):=fun(m,n)=>fF m n
def aeG:aB:=⟨[yI,(.slice fA)], [pX,yI,.bool],(@tt (Int×List Seen)),iY⟩
theorem Sf:Sd 134 aeG:=aL ax bK true 21 [⟨134,2, [[0,4,11,12,13]]⟩] [] (fun A (n,seen)=>adz A n seen) Iu Vv (fc Tryz.func134 fz) (sc aiD (sc yZ sz)) (fun A y=>match y with |.c0 p a3=>⟨70,by kernel_rfl,by kernel_rfl⟩) fun(n,seen) hp h=>Z6 h.2.1
def WS(A:a_)(m:ao)(c:cq)(f:gb):LT Bool Empty:=.need (A.k (@tt (ao×Int×Int)) (m,c.2.2.1,c.2.1)) (.br (A.c .eql (A.k dJ (m,c.2.2.1,c.2.1)).2 0) (.br (A.c .neq (A.k dJ (m,c.2.2.1,c.2.1)).1 3) (.need (A.and (A.c .leq 0 c.2.2.1) (A.c .lss c.2.2.1 (A.l m.2.2.2.2.2.2.2))) (.need (A.and (A.c .leq 0 c.2.1) (A.c .lss c.2.1 (A.l (A.n aV m.2.2.2.2.2.2.2 c.2.2.1:Mode).1))) (.br (A.c .eql (A.k dJ (m,c.2.2.1,c.2.1)).2 0) (.br (A.c .eql f.1 (A.k dJ (m,c.2.2.1,c.2.1)).1) (.ret (A.c .eql (A.l f.2.2.2.2) (A.n yI (A.n aV m.2.2.2.2.2.2.2 c.2.2.1:Mode).1 c.2.1:Int))) (.ret false)) (.ret false)))) (.br (A.c .eql (A.k dJ (m,c.2.2.1,c.2.1)).2 0) (.br (A.c .eql f.1 (A.k dJ (m,c.2.2.1,c.2.1)).1) (.ret (A.c .eql (A.l f.2.2.2.2) 0)) (.ret false)) (.ret false))) (.br (A.c .eql (A.k dJ (m,c.2.2.1,c.2.1)).2 0) (.br (A.c .eql f.1 (A.k dJ (m,c.2.2.1,c.2.1)).1) (.ret (A.c .eql (A.l f.2.2.2.2) 0)) (.ret false)) (.ret false)))
def kI(m:ao)(c:cq)(f:gb):Bool:=decide ((bQ m c.2.2.1 c.2.1).2=0)&&(decide (f.1=(bQ m c.2.2.1 c.2.1).1)&&decide ((f.2.2.2.2.length:Int)=bif decide ((bQ m c.2.2.1 c.2.1).1=3) then(0:Int) else(aj.n (.int .i64) (aj.n aV m.2.2.2.2.2.2.2 c.2.2.1:Mode).1 c.2.1:Int)))
theorem jD{m:ao}{k n:Int}(h:(bQ m k n).2=0):dV m=true∧(0≤n∧n≤m.1-1)∧(0≤k∧k<dB m):=by
 unfold bQ at h
 by_cases h1:fQ m n=0
 ·obtain⟨a,b⟩:=u9 h1
  by_cases h2:0≤k∧k≤dB m-1
  ·exact⟨a,b,by omega⟩
  ·rw[decide_eq_true h1,decide_eq_false h2,cond_true,cond_false] at h;exact absurd h (by decide)
 ·rw[decide_eq_false h1,cond_false] at h;exact absurd h h1
theorem R1{m:ao}{c:cq}{f:gb}:aA Empty.elim (WS aj m c f) (kI m c f):=by
 unfold WS
 refine af.2 ⟨rfl,?_⟩
 rw[show aj.k dJ (m,c.2.2.1,c.2.1)=bQ m c.2.2.1 c.2.1 from rfl]
 by_cases h:(bQ m c.2.2.1 c.2.1).2=0
 ·obtain⟨hm,hn,hk⟩:=jD h
  have hx:=(gk (jL hm hk.1 hk.2)).1
  have e:aj.c .eql (bQ m c.2.2.1 c.2.1).2 0=true:=F9 h
  rw[e,kI,decide_eq_true h,Bool.true_and]
  refine(ai rfl).2 (ap (p:=¬(bQ m c.2.2.1 c.2.1).1=3) aS (fun g=>af.2 ⟨iy hk.1 hk.2,af.2 ⟨gV hx hn.1 (by omega),(ai rfl).2 ?_⟩⟩) fun g=>(ai rfl).2 ?_)
  ·rw[decide_eq_false g]
   refine ap (p:=f.1=(bQ m c.2.2.1 c.2.1).1) aI (fun k=>?_) fun k=>?_
   ·exact au (by rw[decide_eq_true k,fN];exact aI) (.ret _)
   ·exact au (by rw[decide_eq_false k];rfl) (.ret _)
  ·rw[decide_eq_true (Decidable.not_not.1 g)]
   refine ap (p:=f.1=(bQ m c.2.2.1 c.2.1).1) aI (fun k=>?_) fun k=>?_
   ·exact au (by rw[decide_eq_true k,fN];exact aI) (.ret _)
   ·exact au (by rw[decide_eq_false k];rfl) (.ret _)
 ·have e:aj.c .eql (bQ m c.2.2.1 c.2.1).2 0=false:=adD h
  rw[e,kI,decide_eq_false h]
  exact(ah rfl).2 ((ah rfl).2 (.ret _))
def G5:(ao×cq×gb)→Bool:=fun(m,c,k)=>kI m c k
def afV:aB:=⟨[aY,kG,pX], [.bool],(@tt (ao×cq×gb)),G5⟩
theorem RB:Sd 99 afV:=aF ax bK true 75 [] (fun A (m,c,f)=>WS A m c f) (fc Tryz.func99 fz) (sc EK sz) fun(m,c,f) hp h=>R1
def aat(A:a_)(m:ao)(c:cq)(f:gb):LT Bool Empty:=.need (A.k (@tt (ao×Int×Int)) (m,c.2.2.1,c.2.1)) (.br (A.c .eql (A.k kq (m,c.2.2.1,c.2.1)).2 0) (.br (A.c .neq (A.k kq (m,c.2.2.1,c.2.1)).1 3) (.need (A.and (A.c .leq 0 c.2.2.1) (A.c .lss c.2.2.1 (A.l m.2.2.2.2.2.2.2))) (.need (A.and (A.c .leq 0 c.2.1) (A.c .lss c.2.1 (A.l (A.n aV m.2.2.2.2.2.2.2 c.2.2.1:Mode).1))) (.br (A.c .eql (A.k kq (m,c.2.2.1,c.2.1)).2 0) (.br (A.c .eql f.1 (A.k kq (m,c.2.2.1,c.2.1)).1) (.ret (A.c .eql (A.l f.2.2.2.2) (A.n yI (A.n aV m.2.2.2.2.2.2.2 c.2.2.1:Mode).1 c.2.1:Int))) (.ret false)) (.ret false)))) (.br (A.c .eql (A.k kq (m,c.2.2.1,c.2.1)).2 0) (.br (A.c .eql f.1 (A.k kq (m,c.2.2.1,c.2.1)).1) (.ret (A.c .eql (A.l f.2.2.2.2) 0)) (.ret false)) (.ret false))) (.br (A.c .eql (A.k kq (m,c.2.2.1,c.2.1)).2 0) (.br (A.c .eql f.1 (A.k kq (m,c.2.2.1,c.2.1)).1) (.ret (A.c .eql (A.l f.2.2.2.2) 0)) (.ret false)) (.ret false)))
theorem aav{m:ao}{c:cq}{f:gb}:aA Empty.elim (aat aj m c f) (kI m c f):=R1
def Oz:(ao×cq×gb)→Bool:=fun(m,c,k)=>kI m c k
def YP:aB:=⟨[aY,kG,pX], [.bool],(@tt (ao×cq×gb)),Oz⟩
theorem ab5:Sd 105 YP:=aF ax bK true 75 [] (fun A (m,c,f)=>aat A m c f) (fc Tryz.func105 fz) (sc RZ sz) fun(m,c,f) hp h=>aav
def V2(A:a_)(m:ao)(n:Node)(f:gb):LT Bool Empty:=.need (A.k (@tt (ao×cq)) (m,f.2.2.1)) (.br (A.k Hr (m,f.2.2.1)) (.br (A.c .neq f.2.2.1.2.1 n.1) (.need (A.k (@tt (cq×Int)) (f.2.2.1,f.2.2.1.2.1)) (.br (A.k EN (f.2.2.1,f.2.2.1.2.1)) (.need (A.k (@tt (ao×cq×gb)) (m,f.2.2.1,f)) (.ret (A.k G5 (m,f.2.2.1,f)))) (.ret false))) (.ret false)) (.ret false))
def E6(m:ao)(n:Node)(f:gb):Bool:=eZ m f.2.2.1&&(decide (¬f.2.2.1.2.1=n.1)&&(EP f.2.2.1 f.2.2.1.2.1&&kI m f.2.2.1 f))
theorem ah0{m:ao}{n:Node}{f:gb}:aA Empty.elim (V2 aj m n f) (E6 m n f):=by
 unfold V2 E6
 refine af.2 ⟨rfl,?_⟩
 rw[show aj.k Hr (m,f.2.2.1)=eZ m f.2.2.1 from rfl]
 cases eZ m f.2.2.1
 ·exact(ah rfl).2 (.ret _)
 refine(ai rfl).2 (ap (p:=¬f.2.2.1.2.1=n.1) aS (fun h=>af.2 ⟨rfl,?_⟩) fun h=>au (by rw[decide_eq_false h];rfl) (.ret _))
 rw[decide_eq_true h,show aj.k EN (f.2.2.1,f.2.2.1.2.1)=EP f.2.2.1 f.2.2.1.2.1 from rfl]
 cases EP f.2.2.1 f.2.2.1.2.1
 ·exact(ah rfl).2 (.ret _)
 ·exact(ai rfl).2 (af.2 ⟨rfl,.ret _⟩)
def Hq:(ao×Node×gb)→Bool:=fun(m,c,k)=>E6 m c k
def Zq:aB:=⟨[aY,aW,pX], [.bool],(@tt (ao×Node×gb)),Hq⟩
theorem aao:Sd 136 Zq:=aF ax bK true 44 [] (fun A (m,n,f)=>V2 A m n f) (fc Tryz.func136 fz) (sc Sp (sc RB (sc RP sz))) fun(m,n,f) hp h=>ah0
def Xc(A:a_)(m:ao)(c:cq)(req:Int):LT cq Empty:=.need (A.k (@tt (ao×cq×Int)) (m,c,req)) (.br (A.c .eql (A.k MN (m,c,req)).2 0) (.ret (A.k MN (m,c,req)).1) (.ret c))
def gf(m:ao)(c:cq)(r:Int):cq:=bif decide ((lF m c r).2=0) then(lF m c r).1 else c
theorem T8{m:ao}{c:cq}{r:Int}:aA Empty.elim (Xc aj m c r) (gf m c r):=by
 unfold Xc gf
 refine af.2 ⟨rfl,ap (p:=(lF m c r).2=0) aI (fun h=>?_) fun h=>?_⟩
 ·exact au (by rw[decide_eq_true h];rfl) (.ret _)
 ·exact au (by rw[decide_eq_false h];rfl) (.ret _)
def G_:(ao×cq×Int)→cq:=fun(m,c,k)=>gf m c k
def abw:aB:=⟨[aY,kG,yI], [kG],(@tt (ao×cq×Int)),G_⟩
theorem Ru:Sd 117 abw:=aF ax bK true 38 [] (fun A (m,c,req)=>Xc A m c req) (fc Tryz.func117 fz) (sc X6 sz) fun(m,c,req) hp h=>T8
def kZ(m:ao)(n:Node)(c:cq)(f:gb):Node:=(n.1,3,gf m c f.2.1,(n.1,m.1,c.2.2.2.2,1,0,0,0),0,false,0,bif decide (f.1=4) then(nu n.2.2.2.2.2.2.2 c.2.1 f.2.2.2.2).1 else n.2.2.2.2.2.2.2)
open Go.Ev.Pl
def ny(m:ao)(n:Node)(seen:List Seen)(once:Bool):Node×Int×Bool×Int:=
 bif decide (bU m n=0) then
  bif decide (n.2.1=1) then
   bif decide ((seen.length:Int)=2) then
    bif (fF m.1 seen).2.2 then
     bif decide ((fF m.1 seen).1.1=1) then
      bif decide ((fF m.1 seen).1.2.2.2.1=n.1) then(n,0,false,0)
      else bif once && !n.2.2.2.2.2.1 then((n.1,n.2.1,n.2.2.1,n.2.2.2.1,(lG m n.1).1,true,n.2.2.2.2.2.2),(fF m.1 seen).2.1,false,0)
      else(kZ m n (0,(fF m.1 seen).1.2.2.2.1,0,0,aj.b .shl .i64 1 (fF m.1 seen).1.2.2.2.1) (fF m.1 seen).1,(fF m.1 seen).2.1,true,0)
     else bif E6 m n (fF m.1 seen).1 then(kZ m n (fF m.1 seen).1.2.2.1 (fF m.1 seen).1,(fF m.1 seen).2.1,true,0)
     else(n,0,false,0)
    else(n,0,false,0)
   else(ed,0,false,2)
  else(ed,0,false,181)
 else(ed,0,false,bU m n)
structure Le where
 (a0:Int) (a1:ao) (a2 a3:eT) (a4:Int) (a5:Bool) (a6 a7 a8 a9:Int) (bV:Node) (dT:gb)
structure KE where
 (b0:ao) (b1:gb) (b2:cq) (b3:Int) (b4:Node) (b5 b6:eT) (b7:Int) (b8:Bool) (b9 b10 b11 b12:Int)
structure Mk where
 (c0:ao) (c1:gb) (c2:cq) (c3:Int) (c4:Node) (c5 c6:eT) (c7:Int) (c8:Bool) (c9 c10 c11 c12:Int)
structure NA where
 (d0:ao) (d1 d2:Int) (d3:Node) (d4 d5:eT) (d6:Int) (d7:Bool) (d8 d9 fD gX:Int)
structure LO where
 (e0:ao) (e1 e2:Int) (e3:Node) (e4 e5:eT) (e6:Int) (e7:Bool) (e8 e9 e10 e11:Int)
inductive Py where
 | c0 (p:Le)
 | c1 (p:KE)
 | c2 (p:Mk)
 | c3 (p:NA)
 | c4 (p:LO)
noncomputable def Ub:Py→fL
 | .c0 p=>⟨[⟨57,101,(en [(3,.ptr 0 0),(6,.ptr 1 0),(10,.ptr 2 0),(12,.ptr 3 0),(13,vi p.a0)]),[.code (cw Tryz.f57 [1,1,1,1,0,0,1,1,0]),.code (cw Tryz.f57 [1,1,1,1,0,0,1,1,1]),.inBlock 1,.code (cw Tryz.f57 [1,1,1,1,1])],[],none⟩],[.flat false [vi p.a1.1,vi p.a1.2.1,vi p.a1.2.2.1,vi p.a1.2.2.2.1,vi p.a1.2.2.2.2.1,vi p.a1.2.2.2.2.2.1,.sl .bool p.a1.2.2.2.2.2.2.1,.sl aV p.a1.2.2.2.2.2.2.2],.flat false [vi p.a2.1,vi p.a2.2.1,vi p.a2.2.2.1,vi p.a2.2.2.2.1,vi p.a2.2.2.2.2.1,vi p.a2.2.2.2.2.2.1,vi p.a2.2.2.2.2.2.2,vi p.a3.1,vi p.a3.2.1,vi p.a3.2.2.1,vi p.a3.2.2.2.1,vi p.a3.2.2.2.2.1,vi p.a3.2.2.2.2.2.1,vi p.a3.2.2.2.2.2.2,vi p.a4,vb p.a5,vi p.a6,vi p.a7,.bi true,.bi true,vi p.a8,vi p.a9],.flat false [vi p.bV.1,vi p.bV.2.1,vi p.bV.2.2.1.1,vi p.bV.2.2.1.2.1,vi p.bV.2.2.1.2.2.1,vi p.bV.2.2.1.2.2.2.1,vi p.bV.2.2.1.2.2.2.2,vi p.bV.2.2.2.1.1,vi p.bV.2.2.2.1.2.1,vi p.bV.2.2.2.1.2.2.1,vi p.bV.2.2.2.1.2.2.2.1,vi p.bV.2.2.2.1.2.2.2.2.1,vi p.bV.2.2.2.1.2.2.2.2.2.1,vi p.bV.2.2.2.1.2.2.2.2.2.2,vi p.bV.2.2.2.2.1,vb p.bV.2.2.2.2.2.1,vi p.bV.2.2.2.2.2.2.1,vi p.bV.2.2.2.2.2.2.2.1,.sl yU p.bV.2.2.2.2.2.2.2.2.1,.sl aR p.bV.2.2.2.2.2.2.2.2.2.1,vi p.bV.2.2.2.2.2.2.2.2.2.2.1,vi p.bV.2.2.2.2.2.2.2.2.2.2.2],.flat false [vi p.dT.1,vi p.dT.2.1,vi p.dT.2.2.1.1,vi p.dT.2.2.1.2.1,vi p.dT.2.2.1.2.2.1,vi p.dT.2.2.1.2.2.2.1,vi p.dT.2.2.1.2.2.2.2,vi p.dT.2.2.2.1,.sl yU p.dT.2.2.2.2],.dead]⟩
 | .c1 p=>⟨[⟨135,29,(en [(0,.agg [vi p.b0.1,vi p.b0.2.1,vi p.b0.2.2.1,vi p.b0.2.2.2.1,vi p.b0.2.2.2.2.1,vi p.b0.2.2.2.2.2.1,.sl .bool p.b0.2.2.2.2.2.2.1,.sl aV p.b0.2.2.2.2.2.2.2]),(1,.ptr 0 0),(2,.agg [vi p.b1.1,vi p.b1.2.1,vi p.b1.2.2.1.1,vi p.b1.2.2.1.2.1,vi p.b1.2.2.1.2.2.1,vi p.b1.2.2.1.2.2.2.1,vi p.b1.2.2.1.2.2.2.2,vi p.b1.2.2.2.1,.sl yU p.b1.2.2.2.2]),(3,.agg [vi p.b2.1,vi p.b2.2.1,vi p.b2.2.2.1,vi p.b2.2.2.2.1,vi p.b2.2.2.2.2])]),[.code (cw Tryz.f135 [0]),.code (cw Tryz.f135 [1])],[],none⟩,⟨57,101,(en [(6,.ptr 1 0),(10,.ptr 0 0),(13,vi p.b3)]),[.mh (ow Tryz.f57 [1,1,1,1,0,0,1,1,1,1,1,0]) [0,0,0,4,0,16,48,124,255] 8 [] [],.inBlock 1,.code (cw Tryz.f57 [1,1,1,1,1])],[],none⟩],[.flat false [vi p.b4.1,vi p.b4.2.1,vi p.b4.2.2.1.1,vi p.b4.2.2.1.2.1,vi p.b4.2.2.1.2.2.1,vi p.b4.2.2.1.2.2.2.1,vi p.b4.2.2.1.2.2.2.2,vi p.b4.2.2.2.1.1,vi p.b4.2.2.2.1.2.1,vi p.b4.2.2.2.1.2.2.1,vi p.b4.2.2.2.1.2.2.2.1,vi p.b4.2.2.2.1.2.2.2.2.1,vi p.b4.2.2.2.1.2.2.2.2.2.1,vi p.b4.2.2.2.1.2.2.2.2.2.2,vi p.b4.2.2.2.2.1,vb p.b4.2.2.2.2.2.1,vi p.b4.2.2.2.2.2.2.1,vi p.b4.2.2.2.2.2.2.2.1,.sl yU p.b4.2.2.2.2.2.2.2.2.1,.sl aR p.b4.2.2.2.2.2.2.2.2.2.1,vi p.b4.2.2.2.2.2.2.2.2.2.2.1,vi p.b4.2.2.2.2.2.2.2.2.2.2.2],.flat false [vi p.b5.1,vi p.b5.2.1,vi p.b5.2.2.1,vi p.b5.2.2.2.1,vi p.b5.2.2.2.2.1,vi p.b5.2.2.2.2.2.1,vi p.b5.2.2.2.2.2.2,vi p.b6.1,vi p.b6.2.1,vi p.b6.2.2.1,vi p.b6.2.2.2.1,vi p.b6.2.2.2.2.1,vi p.b6.2.2.2.2.2.1,vi p.b6.2.2.2.2.2.2,vi p.b7,vb p.b8,vi p.b9,vi p.b10,.bi true,.bi true,vi p.b11,vi p.b12],.dead]⟩
 | .c2 p=>⟨[⟨135,29,(en [(0,.agg [vi p.c0.1,vi p.c0.2.1,vi p.c0.2.2.1,vi p.c0.2.2.2.1,vi p.c0.2.2.2.2.1,vi p.c0.2.2.2.2.2.1,.sl .bool p.c0.2.2.2.2.2.2.1,.sl aV p.c0.2.2.2.2.2.2.2]),(1,.ptr 0 0),(2,.agg [vi p.c1.1,vi p.c1.2.1,vi p.c1.2.2.1.1,vi p.c1.2.2.1.2.1,vi p.c1.2.2.1.2.2.1,vi p.c1.2.2.1.2.2.2.1,vi p.c1.2.2.1.2.2.2.2,vi p.c1.2.2.2.1,.sl yU p.c1.2.2.2.2]),(3,.agg [vi p.c2.1,vi p.c2.2.1,vi p.c2.2.2.1,vi p.c2.2.2.2.1,vi p.c2.2.2.2.2])]),[.code (cw Tryz.f135 [0]),.code (cw Tryz.f135 [1])],[],none⟩,⟨57,101,(en [(6,.ptr 1 0),(10,.ptr 0 0),(13,vi p.c3)]),[.ops (ow Tryz.f57 [1,1,1,1,0,0,1,1,1,1,1,1,1,0]) ((ow Tryz.f57 [1,1,1,1,0,0,1,1,1,1,1,1,1,0]).toList.drop 4),.inBlock 1,.code (cw Tryz.f57 [1,1,1,1,1])],[],none⟩],[.flat false [vi p.c4.1,vi p.c4.2.1,vi p.c4.2.2.1.1,vi p.c4.2.2.1.2.1,vi p.c4.2.2.1.2.2.1,vi p.c4.2.2.1.2.2.2.1,vi p.c4.2.2.1.2.2.2.2,vi p.c4.2.2.2.1.1,vi p.c4.2.2.2.1.2.1,vi p.c4.2.2.2.1.2.2.1,vi p.c4.2.2.2.1.2.2.2.1,vi p.c4.2.2.2.1.2.2.2.2.1,vi p.c4.2.2.2.1.2.2.2.2.2.1,vi p.c4.2.2.2.1.2.2.2.2.2.2,vi p.c4.2.2.2.2.1,vb p.c4.2.2.2.2.2.1,vi p.c4.2.2.2.2.2.2.1,vi p.c4.2.2.2.2.2.2.2.1,.sl yU p.c4.2.2.2.2.2.2.2.2.1,.sl aR p.c4.2.2.2.2.2.2.2.2.2.1,vi p.c4.2.2.2.2.2.2.2.2.2.2.1,vi p.c4.2.2.2.2.2.2.2.2.2.2.2],.flat false [vi p.c5.1,vi p.c5.2.1,vi p.c5.2.2.1,vi p.c5.2.2.2.1,vi p.c5.2.2.2.2.1,vi p.c5.2.2.2.2.2.1,vi p.c5.2.2.2.2.2.2,vi p.c6.1,vi p.c6.2.1,vi p.c6.2.2.1,vi p.c6.2.2.2.1,vi p.c6.2.2.2.2.1,vi p.c6.2.2.2.2.2.1,vi p.c6.2.2.2.2.2.2,vi p.c7,vb p.c8,vi p.c9,vi p.c10,.bi true,.bi true,vi p.c11,vi p.c12],.dead]⟩
 | .c3 p=>⟨[⟨102,24,(en [(0,.agg [vi p.d0.1,vi p.d0.2.1,vi p.d0.2.2.1,vi p.d0.2.2.2.1,vi p.d0.2.2.2.2.1,vi p.d0.2.2.2.2.2.1,.sl .bool p.d0.2.2.2.2.2.2.1,.sl aV p.d0.2.2.2.2.2.2.2]),(1,.ptr 0 0),(2,vi p.d1)]),[.code (cw Tryz.f102 [0]),.code (cw Tryz.f102 [1])],[],none⟩,⟨135,29,.leaf,[.ops (ow Tryz.f135 [1,1,1,1]) ((ow Tryz.f135 [1,1,1,1]).toList.drop 4)],[],none⟩,⟨57,101,(en [(6,.ptr 1 0),(10,.ptr 0 0),(13,vi p.d2)]),[.mh (ow Tryz.f57 [1,1,1,1,0,0,1,1,1,1,1,0]) [0,0,0,4,0,16,48,124,255] 8 [] [],.inBlock 1,.code (cw Tryz.f57 [1,1,1,1,1])],[],none⟩],[.flat false [vi p.d3.1,vi p.d3.2.1,vi p.d3.2.2.1.1,vi p.d3.2.2.1.2.1,vi p.d3.2.2.1.2.2.1,vi p.d3.2.2.1.2.2.2.1,vi p.d3.2.2.1.2.2.2.2,vi p.d3.2.2.2.1.1,vi p.d3.2.2.2.1.2.1,vi p.d3.2.2.2.1.2.2.1,vi p.d3.2.2.2.1.2.2.2.1,vi p.d3.2.2.2.1.2.2.2.2.1,vi p.d3.2.2.2.1.2.2.2.2.2.1,vi p.d3.2.2.2.1.2.2.2.2.2.2,vi p.d3.2.2.2.2.1,vb p.d3.2.2.2.2.2.1,vi p.d3.2.2.2.2.2.2.1,vi p.d3.2.2.2.2.2.2.2.1,.sl yU p.d3.2.2.2.2.2.2.2.2.1,.sl aR p.d3.2.2.2.2.2.2.2.2.2.1,vi p.d3.2.2.2.2.2.2.2.2.2.2.1,vi p.d3.2.2.2.2.2.2.2.2.2.2.2],.flat false [vi p.d4.1,vi p.d4.2.1,vi p.d4.2.2.1,vi p.d4.2.2.2.1,vi p.d4.2.2.2.2.1,vi p.d4.2.2.2.2.2.1,vi p.d4.2.2.2.2.2.2,vi p.d5.1,vi p.d5.2.1,vi p.d5.2.2.1,vi p.d5.2.2.2.1,vi p.d5.2.2.2.2.1,vi p.d5.2.2.2.2.2.1,vi p.d5.2.2.2.2.2.2,vi p.d6,vb p.d7,vi p.d8,vi p.d9,.bi true,.bi true,vi p.fD,vi p.gX],.dead]⟩
 | .c4 p=>⟨[⟨102,24,(en [(0,.agg [vi p.e0.1,vi p.e0.2.1,vi p.e0.2.2.1,vi p.e0.2.2.2.1,vi p.e0.2.2.2.2.1,vi p.e0.2.2.2.2.2.1,.sl .bool p.e0.2.2.2.2.2.2.1,.sl aV p.e0.2.2.2.2.2.2.2]),(1,.ptr 0 0),(2,vi p.e1)]),[.code (cw Tryz.f102 [0]),.code (cw Tryz.f102 [1])],[],none⟩,⟨135,29,.leaf,[.ops (ow Tryz.f135 [1,1,1,1]) ((ow Tryz.f135 [1,1,1,1]).toList.drop 4)],[],none⟩,⟨57,101,(en [(6,.ptr 1 0),(10,.ptr 0 0),(13,vi p.e2)]),[.ops (ow Tryz.f57 [1,1,1,1,0,0,1,1,1,1,1,1,1,0]) ((ow Tryz.f57 [1,1,1,1,0,0,1,1,1,1,1,1,1,0]).toList.drop 4),.inBlock 1,.code (cw Tryz.f57 [1,1,1,1,1])],[],none⟩],[.flat false [vi p.e3.1,vi p.e3.2.1,vi p.e3.2.2.1.1,vi p.e3.2.2.1.2.1,vi p.e3.2.2.1.2.2.1,vi p.e3.2.2.1.2.2.2.1,vi p.e3.2.2.1.2.2.2.2,vi p.e3.2.2.2.1.1,vi p.e3.2.2.2.1.2.1,vi p.e3.2.2.2.1.2.2.1,vi p.e3.2.2.2.1.2.2.2.1,vi p.e3.2.2.2.1.2.2.2.2.1,vi p.e3.2.2.2.1.2.2.2.2.2.1,vi p.e3.2.2.2.1.2.2.2.2.2.2,vi p.e3.2.2.2.2.1,vb p.e3.2.2.2.2.2.1,vi p.e3.2.2.2.2.2.2.1,vi p.e3.2.2.2.2.2.2.2.1,.sl yU p.e3.2.2.2.2.2.2.2.2.1,.sl aR p.e3.2.2.2.2.2.2.2.2.2.1,vi p.e3.2.2.2.2.2.2.2.2.2.2.1,vi p.e3.2.2.2.2.2.2.2.2.2.2.2],.flat false [vi p.e4.1,vi p.e4.2.1,vi p.e4.2.2.1,vi p.e4.2.2.2.1,vi p.e4.2.2.2.2.1,vi p.e4.2.2.2.2.2.1,vi p.e4.2.2.2.2.2.2,vi p.e5.1,vi p.e5.2.1,vi p.e5.2.2.1,vi p.e5.2.2.2.1,vi p.e5.2.2.2.2.1,vi p.e5.2.2.2.2.2.1,vi p.e5.2.2.2.2.2.2,vi p.e6,vb p.e7,vi p.e8,vi p.e9,.bi true,.bi true,vi p.e10,vi p.e11],.dead]⟩
def VW(A:a_)(m:ao)(n:Node)(seen:List Seen):LT (Node×Int×Bool×Int) Py:=.need (A.k (@tt (ao×Node×Bool)) (m,n,(A.c .eql n.2.1 1))) (.br (A.c .neq (A.k iU (m,n,(A.c .eql n.2.1 1))).2 0) (.ret ((0,0,(0,0,0,0,0),(0,0,0,0,0,0,0),0,false,0,0,([]:List Int),([]:List aU),0,0),0,false,(A.k iU (m,n,(A.c .eql n.2.1 1))).2)) (.br (A.c .neq (A.l seen) 2) (.ret ((0,0,(0,0,0,0,0),(0,0,0,0,0,0,0),0,false,0,0,([]:List Int),([]:List aU),0,0),0,false,2)) (.need (A.k (@tt (Int×List Seen)) (m.1,seen)) (.br (A.not (A.k iY (m.1,seen)).2.2) (.ret ((A.k iU (m,n,(A.c .eql n.2.1 1))).1,0,false,0)) (.br (A.c .eql (A.k iY (m.1,seen)).1.1 1) (.br (A.c .eql (A.k iY (m.1,seen)).1.2.2.2.1 (A.k iU (m,n,(A.c .eql n.2.1 1))).1.1) (.ret ((A.k iU (m,n,(A.c .eql n.2.1 1))).1,0,false,0)) (.more (.c0 ⟨(A.k iY (m.1,seen)).2.1,m,(0,0,0,0,0,0,0),(0,0,0,0,0,0,0),0,false,0,0,0,0,(A.k iU (m,n,(A.c .eql n.2.1 1))).1,(A.k iY (m.1,seen)).1⟩))) (.more (.c0 ⟨(A.k iY (m.1,seen)).2.1,m,(0,0,0,0,0,0,0),(0,0,0,0,0,0,0),0,false,0,0,0,0,(A.k iU (m,n,(A.c .eql n.2.1 1))).1,(A.k iY (m.1,seen)).1⟩)))))))
def wB(A:a_):Py→LT (Node×Int×Bool×Int) Py
 | .c0 p=>.br (A.c .eql p.dT.1 1) (.br (A.not p.bV.2.2.2.2.2.1) (.need (A.k (@tt (ao×Int)) (p.a1,p.bV.1)) (.ret ((p.bV.1,p.bV.2.1,p.bV.2.2.1,p.bV.2.2.2.1,(A.k Bh (p.a1,p.bV.1)),true,p.bV.2.2.2.2.2.2),p.a0,false,0))) (.br (A.c .eql p.dT.1 1) (.need (A.c .leq 0 p.dT.2.2.2.1) (.more (.c1 ⟨p.a1,p.dT,(0,p.dT.2.2.2.1,0,0,(A.b .shl .i64 1 p.dT.2.2.2.1)),p.a0,p.bV,p.a2,p.a3,p.a4,p.a5,p.a6,p.a7,p.a8,p.a9⟩))) (.need (A.k (@tt (ao×Node×gb)) (p.a1,p.bV,p.dT)) (.br (A.k Hq (p.a1,p.bV,p.dT)) (.more (.c2 ⟨p.a1,p.dT,p.dT.2.2.1,p.a0,p.bV,p.a2,p.a3,p.a4,p.a5,p.a6,p.a7,p.a8,p.a9⟩)) (.ret (p.bV,0,false,0)))))) (.br (A.c .eql p.dT.1 1) (.need (A.c .leq 0 p.dT.2.2.2.1) (.more (.c1 ⟨p.a1,p.dT,(0,p.dT.2.2.2.1,0,0,(A.b .shl .i64 1 p.dT.2.2.2.1)),p.a0,p.bV,p.a2,p.a3,p.a4,p.a5,p.a6,p.a7,p.a8,p.a9⟩))) (.need (A.k (@tt (ao×Node×gb)) (p.a1,p.bV,p.dT)) (.br (A.k Hq (p.a1,p.bV,p.dT)) (.more (.c2 ⟨p.a1,p.dT,p.dT.2.2.1,p.a0,p.bV,p.a2,p.a3,p.a4,p.a5,p.a6,p.a7,p.a8,p.a9⟩)) (.ret (p.bV,0,false,0)))))
 | .c1 p=>.br (A.c .eql p.b1.1 4) (.need (A.k (@tt (bu×Int×List Int)) (p.b4.2.2.2.2.2.2.2,p.b2.2.1,p.b1.2.2.2.2)) (.need (A.k (@tt (bu×Int×List Int)) (p.b4.2.2.2.2.2.2.2,p.b2.2.1,p.b1.2.2.2.2)) (.br (A.c .eql (A.k lK (p.b4.2.2.2.2.2.2.2,p.b2.2.1,p.b1.2.2.2.2)).2 0) (.more (.c3 ⟨p.b0,p.b1.2.1,p.b3,(p.b4.1,3,p.b2,(p.b4.1,p.b0.1,p.b2.2.2.2.2,1,0,0,0),0,false,0,(A.k lK (p.b4.2.2.2.2.2.2.2,p.b2.2.1,p.b1.2.2.2.2)).1),p.b5,p.b6,p.b7,p.b8,p.b9,p.b10,p.b11,p.b12⟩)) (.more (.c3 ⟨p.b0,p.b1.2.1,p.b3,(p.b4.1,3,p.b2,(p.b4.1,p.b0.1,p.b2.2.2.2.2,1,0,0,0),0,false,0,p.b4.2.2.2.2.2.2.2),p.b5,p.b6,p.b7,p.b8,p.b9,p.b10,p.b11,p.b12⟩))))) (.more (.c3 ⟨p.b0,p.b1.2.1,p.b3,(p.b4.1,3,p.b2,(p.b4.1,p.b0.1,p.b2.2.2.2.2,1,0,0,0),0,false,0,p.b4.2.2.2.2.2.2.2),p.b5,p.b6,p.b7,p.b8,p.b9,p.b10,p.b11,p.b12⟩))
 | .c2 p=>.br (A.c .eql p.c1.1 4) (.need (A.k (@tt (bu×Int×List Int)) (p.c4.2.2.2.2.2.2.2,p.c2.2.1,p.c1.2.2.2.2)) (.need (A.k (@tt (bu×Int×List Int)) (p.c4.2.2.2.2.2.2.2,p.c2.2.1,p.c1.2.2.2.2)) (.br (A.c .eql (A.k lK (p.c4.2.2.2.2.2.2.2,p.c2.2.1,p.c1.2.2.2.2)).2 0) (.more (.c4 ⟨p.c0,p.c1.2.1,p.c3,(p.c4.1,3,p.c2,(p.c4.1,p.c0.1,p.c2.2.2.2.2,1,0,0,0),0,false,0,(A.k lK (p.c4.2.2.2.2.2.2.2,p.c2.2.1,p.c1.2.2.2.2)).1),p.c5,p.c6,p.c7,p.c8,p.c9,p.c10,p.c11,p.c12⟩)) (.more (.c4 ⟨p.c0,p.c1.2.1,p.c3,(p.c4.1,3,p.c2,(p.c4.1,p.c0.1,p.c2.2.2.2.2,1,0,0,0),0,false,0,p.c4.2.2.2.2.2.2.2),p.c5,p.c6,p.c7,p.c8,p.c9,p.c10,p.c11,p.c12⟩))))) (.more (.c4 ⟨p.c0,p.c1.2.1,p.c3,(p.c4.1,3,p.c2,(p.c4.1,p.c0.1,p.c2.2.2.2.2,1,0,0,0),0,false,0,p.c4.2.2.2.2.2.2.2),p.c5,p.c6,p.c7,p.c8,p.c9,p.c10,p.c11,p.c12⟩))
 | .c3 p=>.need (A.k (@tt (ao×cq×Int)) (p.d0,p.d3.2.2.1,p.d1)) (.need (A.k (@tt (ao×cq×Int)) (p.d0,p.d3.2.2.1,p.d1)) (.br (A.c .eql (A.k gD (p.d0,p.d3.2.2.1,p.d1)).2 0) (.ret ((p.d3.1,p.d3.2.1,(A.k gD (p.d0,p.d3.2.2.1,p.d1)).1,p.d3.2.2.2),p.d2,true,0)) (.ret (p.d3,p.d2,true,0))))
 | .c4 p=>.need (A.k (@tt (ao×cq×Int)) (p.e0,p.e3.2.2.1,p.e1)) (.need (A.k (@tt (ao×cq×Int)) (p.e0,p.e3.2.2.1,p.e1)) (.br (A.c .eql (A.k gD (p.e0,p.e3.2.2.1,p.e1)).2 0) (.ret ((p.e3.1,p.e3.2.1,(A.k gD (p.e0,p.e3.2.2.1,p.e1)).1,p.e3.2.2.2),p.e2,true,0)) (.ret (p.e3,p.e2,true,0))))
theorem Nn{m:ao}{n:Node}{f:gb}(hn:bU m n=0)(hf:fO f=true)(hj:E6 m n f=true):(nu n.2.2.2.2.2.2.2 f.2.2.1.2.1 f.2.2.2.2).2=0:=by
 have hd:=fe.1 (dz hn).2
 simp only[E6,Bool.and_eq_true,kI,decide_eq_true_eq] at hj
 have hk:=jD hj.2.2.2.1
 simp only[fO,Bool.and_eq_true,decide_eq_true_eq] at hf
 have h8:=hf.1.2
 have e6:=hd.2.2.2.2.2.1
 rw[nu,hd.2.2.2.1,decide_eq_true (show 0≤f.2.2.1.2.1∧f.2.2.1.2.1≤(n.2.2.2.2.2.2.2.2.2.1.length:Int)-1 by rw[e6];exact hk.2.1),decide_eq_false (show ¬8<(f.2.2.2.2.length:Int) by omega)]
 rfl
theorem Ux{p:NA}:aA (wB aj) (.more (.c3 p)) ((p.d3.1,p.d3.2.1,gf p.d0 p.d3.2.2.1 p.d1,p.d3.2.2.2),p.d2,true,0):=by
 rw[ak,wB]
 refine af.2 ⟨rfl,?_⟩
 repeat' (refine af.2 ⟨rfl,?_⟩)
 refine ap (p:=(lF p.d0 p.d3.2.2.1 p.d1).2=0) aI (fun h=>?_) fun h=>?_
 ·exact au (by rw[gf,decide_eq_true h];rfl) (.ret _)
 ·exact au (by rw[gf,decide_eq_false h];rfl) (.ret _)
theorem KO{p:LO}:aA (wB aj) (.more (.c4 p)) ((p.e3.1,p.e3.2.1,gf p.e0 p.e3.2.2.1 p.e1,p.e3.2.2.2),p.e2,true,0):=by
 rw[ak,wB]
 refine af.2 ⟨rfl,?_⟩
 repeat' (refine af.2 ⟨rfl,?_⟩)
 refine ap (p:=(lF p.e0 p.e3.2.2.1 p.e1).2=0) aI (fun h=>?_) fun h=>?_
 ·exact au (by rw[gf,decide_eq_true h];rfl) (.ret _)
 ·exact au (by rw[gf,decide_eq_false h];rfl) (.ret _)
theorem Vo{p:KE}(h:p.b1.1=1):aA (wB aj) (.more (.c1 p)) (kZ p.b0 p.b4 p.b2 p.b1,p.b3,true,0):=by
 rw[ak,wB]
 refine(ah (by rw[aI];exact decide_eq_false (by omega))).2 (au ?_ Ux)
 rw[kZ,decide_eq_false (show ¬p.b1.1=4 by omega)]
 rfl
theorem V3{p:Mk}(h:p.c1.1=4→(nu p.c4.2.2.2.2.2.2.2 p.c2.2.1 p.c1.2.2.2.2).2=0):aA (wB aj) (.more (.c2 p)) (kZ p.c0 p.c4 p.c2 p.c1,p.c3,true,0):=by
 rw[ak,wB]
 refine ap (p:=p.c1.1=4) aI (fun g=>af.2 ⟨rfl,?_⟩) fun g=>au (by rw[kZ,decide_eq_false g];rfl) KO
 repeat' (refine af.2 ⟨rfl,?_⟩)
 exact(ai (F9 (h g))).2 (au (by rw[kZ,decide_eq_true g];rfl) KO)
theorem T5{p:Le}{m:ao}{n:Node}{f:gb}{t:Int}(h0:p.a0=t)(h1:p.a1=m)(h2:p.bV=n)(hf:p.dT=f)(hl:0≤f.2.2.2.1)(hd:E6 m n f=true→(nu n.2.2.2.2.2.2.2 f.2.2.1.2.1 f.2.2.2.2).2=0):aA (wB aj) (.more (.c0 p)) (bif decide (f.1=1) then(bif !n.2.2.2.2.2.1 then((n.1,n.2.1,n.2.2.1,n.2.2.2.1,(lG m n.1).1,true,n.2.2.2.2.2.2),t,false,0) else(kZ m n (0,f.2.2.2.1,0,0,aj.b .shl .i64 1 f.2.2.2.1) f,t,true,0)) else bif E6 m n f then(kZ m n f.2.2.1 f,t,true,0) else(n,0,false,0)):=by
 rw[ak,wB,h0,h1,h2,hf]
 refine ap (p:=f.1=1) aI (fun h=>?_) fun h=>?_
 ·rw[decide_eq_true h,cond_true]
  cases hb:n.2.2.2.2.2.1
  ·exact(ai rfl).2 (af.2 ⟨rfl,.ret _⟩)
  ·exact(ah rfl).2 ((ai (by rw[aI];exact decide_eq_true h)).2 (af.2 ⟨decide_eq_true hl,Vo h⟩))
 ·rw[decide_eq_false h,cond_false]
  refine(ah (by rw[aI];exact decide_eq_false h)).2 (af.2 ⟨rfl,?_⟩)
  rw[show aj.k Hq (m,n,f)=E6 m n f from rfl]
  cases hj:E6 m n f
  ·exact(ah rfl).2 (.ret _)
  ·exact(ai rfl).2 (V3 fun _=>hd hj)
theorem XU{m:ao}{n:Node}{seen:List Seen}:aA (wB aj) (VW aj m n seen) (ny m n seen true):=by
 unfold VW ny
 refine af.2 ⟨rfl,?_⟩
 rw[show aj.k iU (m,n,aj.c .eql n.2.1 1)=kU m n (aj.c .eql n.2.1 1) from rfl,aI,kU]
 by_cases h:bU m n=0
 ·rw[decide_eq_true h,cond_true,cond_true]
  cases decide (n.2.1=1)
  ·exact(ai rfl).2 (.ret _)
  rw[cond_true,cond_true]
  refine(ah rfl).2 (ap (p:=¬(seen.length:Int)=2) aS (fun h2=>au (by rw[decide_eq_false h2];rfl) (.ret _)) fun h2=>af.2 ⟨rfl,?_⟩)
  rw[decide_eq_true (Decidable.not_not.1 h2),cond_true,show aj.k iY (m.1,seen)=fF m.1 seen from rfl]
  cases he:(fF m.1 seen).2.2
  ·exact(ai rfl).2 (.ret _)
  obtain⟨e1,e2,e3⟩:=NL he
  have hl:=K4 e3
  have nx:=fun {a b c d e g i j}=>T5 (p:=⟨(fF m.1 seen).2.1,m,a,b,c,d,e,g,i,j,n,(fF m.1 seen).1⟩) (m:=m) (n:=n) (f:=(fF m.1 seen).1) (t:=(fF m.1 seen).2.1) rfl rfl rfl rfl hl.1 (Nn h e3)
  generalize fF m.1 seen=x at *
  refine(ah rfl).2 (ap (p:=x.1.1=1) aI (fun h3=>ap (p:=x.1.2.2.2.1=n.1) aI (fun h4=>?_) fun h4=>?_) fun h3=>?_)
  ·exact au (by rw[decide_eq_true h3,decide_eq_true h4];rfl) (.ret _)
  ·rw[decide_eq_true h3] at nx
   rw[decide_eq_true h3,decide_eq_false h4,cond_true,cond_true,cond_false,Bool.true_and]
   exact nx
  ·rw[decide_eq_false h3] at nx
   rw[decide_eq_false h3,cond_true,cond_false]
   exact nx
 ·rw[decide_eq_false h];exact(ai (fw h)).2 (.ret _)
def mP:(ao×Node×List Seen)→(Node×Int×Bool×Int):=fun(m,n,s)=>ny m n s true
def ZD:aB:=⟨[aY,aW,(.slice fA)], [aW,yI,.bool,yI],(@tt (ao×Node×List Seen)),mP⟩
theorem af1:Sd 57 ZD:=aL ax bK true 93 [] [⟨57,10, [[3,6,10,12,13]]⟩,⟨102,0, [[0,1,2], [], [6,10,13]]⟩,⟨135,0, [[0,1,2,3], [6,10,13]]⟩] (fun A (m,n,seen)=>VW A m n seen) wB Ub (fc Tryz.func57 (fc Tryz.func75 (fc Tryz.func101 (fc Tryz.func102 (fc Tryz.func135 fz))))) (sc LB (sc Sf (sc KM (sc aao (sc G3 (sc Bt sz)))))) (fun A y=>match y with |.c0 p=>⟨42,by kernel_rfl,by kernel_rfl⟩|.c1 p=>⟨125,by kernel_rfl,by kernel_rfl⟩|.c2 p=>⟨125,by kernel_rfl,by kernel_rfl⟩|.c3 p=>⟨51,by kernel_rfl,by kernel_rfl⟩|.c4 p=>⟨51,by kernel_rfl,by kernel_rfl⟩) fun(m,n,seen) hp h=>XU
open Go.Ev.Pl
theorem AU{x:List UInt8}:aj.z .neq x x=false:=by show(!(x==x))=false;simp
theorem Kw{x:Int}:aj.c .neq x x=false:=by rw[aS];simp
instance:DecidableEq aU:=inferInstanceAs (DecidableEq (List Int×Int))
instance:DecidableEq cq:=inferInstanceAs (DecidableEq (Int×Int×Int×Int×Int))
instance:DecidableEq eT:=inferInstanceAs (DecidableEq (Int×Int×Int×Int×Int×Int×Int))
instance:DecidableEq bu:=inferInstanceAs (DecidableEq (Int×List Int×List aU×Int×Int))
def abp:DecidableEq (Int×Bool×Int×bu):=inferInstance
def acz:DecidableEq (cq×eT×Int×Bool×Int×bu):=have:=abp;inferInstance
instance:DecidableEq Node:=have:=acz;inferInstanceAs (DecidableEq (Int×Int×(cq×eT×Int×Bool×Int×bu)))
structure Ul where
 (a1 a2:bu)
inductive Qy where
 | c0 (p:Ul) (a0:Int)
noncomputable def WA:Qy→fL
 | .c0 p a0=>⟨[⟨30,80,(en [(2,.ptr 0 0),(3,.ptr 1 0),(5,vi a0)]),[.inLoop (cw Tryz.f30 [1,1,0,1,0,0]),.inBlock 0,.code (cw Tryz.f30 [1,1,1])],[],none⟩],[.flat false [vi p.a1.1,.sl yU p.a1.2.1,.sl aR p.a1.2.2.1,vi p.a1.2.2.2.1,vi p.a1.2.2.2.2],.flat false [vi p.a2.1,.sl yU p.a2.2.1,.sl aR p.a2.2.2.1,vi p.a2.2.2.2.1,vi p.a2.2.2.2.2],.dead]⟩
def SY(A:a_)(a:bu)(b:bu):LT Bool Qy:=.br (A.c .neq a.1 b.1) (.ret false) (.br (A.z .neq (A.bytes a.2.1) (A.bytes b.2.1)) (.ret false) (.br (A.c .neq a.2.2.2.1 b.2.2.2.1) (.ret false) (.br (A.c .neq a.2.2.2.2 b.2.2.2.2) (.ret false) (.br (A.c .neq (A.l a.2.2.1) (A.l b.2.2.1)) (.ret false) (.more (.c0 ⟨a,b⟩ 0))))))
def Nz(A:a_):Qy→LT Bool Qy
 | .c0 p a0=>.br (A.c .lss a0 (A.l p.a1.2.2.1)) (.need (A.and (A.c .leq 0 a0) (A.c .lss a0 (A.l p.a1.2.2.1))) (.need (A.and (A.c .leq 0 a0) (A.c .lss a0 (A.l p.a2.2.2.1))) (.br (A.z .neq (A.bytes (A.n aR p.a1.2.2.1 a0:aU).1) (A.bytes (A.n aR p.a2.2.2.1 a0:aU).1)) (.ret false) (.need (A.and (A.c .leq 0 a0) (A.c .lss a0 (A.l p.a1.2.2.1))) (.need (A.and (A.c .leq 0 a0) (A.c .lss a0 (A.l p.a2.2.2.1))) (.br (A.c .neq (A.n aR p.a1.2.2.1 a0:aU).2 (A.n aR p.a2.2.2.1 a0:aU).2) (.ret false) (.more (.c0 p (A.b .add .i64 a0 1))))))))) (.ret true)
theorem I8{c:bu}(hl:c.2.2.1.length≤140737488355328):∀(j i:Nat),c.2.2.1.length-i=j→i≤c.2.2.1.length→aA (Nz aj) (.more (.c0 ⟨c,c⟩ (i:Int))) true:=by
 intro j
 induction j with
 | zero=>
   intro i hj hi
   rw[ak,Nz]
   exact(ah (by rw[cu];exact decide_eq_false (show ¬i<c.2.2.1.length by omega))).2 (.ret _)
 | succ j ih=>
   intro i hj hi
   have hi':i<c.2.2.1.length:=by omega
   rw[ak,Nz]
   refine(ai (by rw[cu];exact decide_eq_true hi')).2 (af.2 ⟨aP hi',af.2 ⟨aP hi',(ah AU).2 (af.2 ⟨aP hi',af.2 ⟨aP hi',(ah Kw).2 ?_⟩⟩)⟩⟩)
   rw[cf (i:=i) (by omega)]
   exact ih (i+1) (by omega) (by omega)
theorem TE{a b:bu}(hl:a.2.2.1.length≤140737488355328)(h:a=b):aA (Nz aj) (SY aj a b) true:=by
 subst h
 unfold SY
 refine(ah (by rw[aS];simp)).2 ((ah AU).2 ((ah (by rw[aS];simp)).2 ((ah (by rw[aS];simp)).2 ((ah (by rw[aS];simp)).2 (I8 hl _ 0 rfl (by omega))))))
def GQ:(bu×bu)→Bool:=fun _=>true
def Dj:(bu×bu)→Bool:=fun(a,b)=>decide (a=b)
def ZG:aB:=⟨[gy,gy], [.bool],Dj,GQ⟩
theorem R8:Sd 30 ZG:=aL ax bK true 62 [⟨30,4, [[2,3,5]]⟩] [] (fun A (a,b)=>SY A a b) Nz WA (fc Tryz.func30 fz) sz (fun A y=>match y with |.c0 p a0=>⟨60,by kernel_rfl,by kernel_rfl⟩) fun((a,b):bu×bu) hp h=>TE h.1.2.2.1.1 (of_decide_eq_true hp)
def Vm(A:a_)(a:Node)(b:Node):LT Bool Empty:=.br (A.c .eql a.1 b.1) (.br (A.c .eql a.2.1 b.2.1) (.br (A.and (A.c .eql a.2.2.1.1 b.2.2.1.1) (A.and (A.c .eql a.2.2.1.2.1 b.2.2.1.2.1) (A.and (A.c .eql a.2.2.1.2.2.1 b.2.2.1.2.2.1) (A.and (A.c .eql a.2.2.1.2.2.2.1 b.2.2.1.2.2.2.1) (A.and (A.c .eql a.2.2.1.2.2.2.2 b.2.2.1.2.2.2.2) true))))) (.br (A.and (A.c .eql a.2.2.2.1.1 b.2.2.2.1.1) (A.and (A.c .eql a.2.2.2.1.2.1 b.2.2.2.1.2.1) (A.and (A.c .eql a.2.2.2.1.2.2.1 b.2.2.2.1.2.2.1) (A.and (A.c .eql a.2.2.2.1.2.2.2.1 b.2.2.2.1.2.2.2.1) (A.and (A.c .eql a.2.2.2.1.2.2.2.2.1 b.2.2.2.1.2.2.2.2.1) (A.and (A.c .eql a.2.2.2.1.2.2.2.2.2.1 b.2.2.2.1.2.2.2.2.2.1) (A.and (A.c .eql a.2.2.2.1.2.2.2.2.2.2 b.2.2.2.1.2.2.2.2.2.2) true))))))) (.br (A.c .eql a.2.2.2.2.1 b.2.2.2.2.1) (.br (A.q a.2.2.2.2.2.1 b.2.2.2.2.2.1) (.br (A.c .eql a.2.2.2.2.2.2.1 b.2.2.2.2.2.2.1) (.need (A.k Dj (a.2.2.2.2.2.2.2,b.2.2.2.2.2.2.2)) (.ret (A.k GQ (a.2.2.2.2.2.2.2,b.2.2.2.2.2.2.2)))) (.ret false)) (.ret false)) (.ret false)) (.ret false)) (.ret false)) (.ret false)) (.ret false)
theorem Vq{a b:Node}(h:a=b):aA Empty.elim (Vm aj a b) true:=by
 subst h
 unfold Vm
 have e:∀x:Int,aj.c .eql x x=true:=fun x=>by rw[aI];simp
 refine(ai (e _)).2 ((ai (e _)).2 ((ai (by rw[e,e,e,e,e];rfl)).2 ((ai (by rw[e,e,e,e,e,e,e];rfl)).2 ((ai (e _)).2 ((ai (by rw[dn];simp)).2 ((ai (e _)).2 (af.2 ⟨decide_eq_true rfl,.ret _⟩)))))))
def im:(Node×Node)→Bool:=fun _=>true
def gH:(Node×Node)→Bool:=fun(a,b)=>decide (a=b)
def YL:aB:=⟨[aW,aW], [.bool],gH,im⟩
theorem Im:Sd 19 YL:=aF ax bK true 70 [] (fun A (a,b)=>Vm A a b) (fc Tryz.func19 fz) (sc R8 sz) fun((a,b):Node×Node) hp h=>Vq (of_decide_eq_true hp)
theorem Wh{l:List Seen}:aj.and (aj.c .leq 0 0) (aj.and (aj.c .leq 0 (aj.mn (aj.l l) 9)) (aj.c .leq (aj.mn (aj.l l) 9) (aj.l l)))=true:=by
 rw[fN,uO,ay,ay,ay,aQ,aQ]
 split<;>simp<;>omega
end Go.Ev.M
