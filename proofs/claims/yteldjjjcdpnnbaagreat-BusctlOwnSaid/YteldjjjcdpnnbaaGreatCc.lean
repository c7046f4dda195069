/-
  PROVED: what busctl.Hear and metronomeref18.Hear compute. Conditions: none.
-/
import Derived.Test.YteldjjjcdpnnbaaGreatCb
import Derived.Test.YteldjjjcdpnnbaaGreatDa
import Derived.Test.YteldjjjcdpnnbaaGreatDb
import Derived.Test.YteldjjjcdpnnbaaGreatKa
namespace Go.Ev.M
open Go.Proofs
set_option maxRecDepth 100000
set_option linter.unusedVariables false
set_option linter.unusedSimpArgs false
open Go.Ev.Pl
structure FM where
 (a0:Int) (a1:List Seen) (a2:Int) (a4:gp) (a5:Int)
inductive H9 where
 | c0 (p:FM) (a3:Int)
noncomputable def No:H9→fJ
 | .c0 p a3=>⟨[⟨134,45,(en [(0,vi p.a0),(4,.ptr 0 0),(11,.sl js p.a1),(12,vi p.a2),(13,vi a3)]),[.inLoop (cw Tryz.f134 [1,0,1,0,0]),.inBlock 0,.code (cw Tryz.f134 [1,1])],[],none⟩],[.flat false [vi p.a4.1,vi p.a4.2.1,vi p.a4.2.2.1,vi p.a4.2.2.2.1,vi p.a4.2.2.2.2.1,vi p.a4.2.2.2.2.2.1,vi p.a4.2.2.2.2.2.2,vi p.a5,.bZ true],.dead]⟩
def UH(A:aZ)(n:Int)(seen:List Seen):LT (ia×Int×Bool) H9:=.more (.c0 ⟨n,seen,(A.l seen),(0,0,0,0,0,0,0),0⟩ 0)
def CP(A:aZ):H9→LT (ia×Int×Bool) H9
 | .c0 p a3=>.br (A.c .lss a3 p.a2) (.need (A.and (A.c .leq 0 a3) (A.c .lss a3 (A.l p.a1))) (.br (A.c .neq (A.n js p.a1 a3:Seen).1 2) (.more (.c0 p (A.b .add .i64 a3 1))) (.need (A.k (@tt ((Int×List Int))) (A.n js p.a1 a3:Seen).2.2) (.br (A.k w6 (A.n js p.a1 a3:Seen).2.2).2 (.need (A.k (@tt ((Int×Int×Int×Int×Int)×Int)) ((A.k w6 (A.n js p.a1 a3:Seen).2.2).1.2.2.1,p.a0)) (.br (A.c .eql (A.k lq ((A.k w6 (A.n js p.a1 a3:Seen).2.2).1.2.2.1,p.a0)) 0) (.br (A.c .lss (A.k w6 (A.n js p.a1 a3:Seen).2.2).1.2.2.2.1 p.a0) (.ret ((A.k w6 (A.n js p.a1 a3:Seen).2.2).1,(A.n js p.a1 a3:Seen).2.1,true)) (.more (.c0 p (A.b .add .i64 a3 1)))) (.more (.c0 p (A.b .add .i64 a3 1))))) (.more (.c0 p (A.b .add .i64 a3 1))))))) (.ret ((0,0,(0,0,0,0,0),0,([]:List Int)),0,false))
def u9(n:Int)(s:Seen):Bool:=decide (s.1=2)&&(decide ((jv s.2.2).2=true)&&(decide (iB ((jv s.2.2).1.2.2.1,n)=0)&&decide ((jv s.2.2).1.2.2.2.1<n)))
def f_(n:Int):List Seen→ia×Int×Bool
 | []=>((0,0,(0,0,0,0,0),0,([]:List Int)),0,false)
 | s::l=>bif u9 n s then((jv s.2.2).1,s.2.1,true) else f_ n l
theorem ND{n:Int}{l:List Seen}(h:(f_ n l).2.2=true):iB ((f_ n l).1.2.2.1,n)=0∧(f_ n l).1.2.2.2.1<n∧fx (f_ n l).1=true:=by
 induction l with
 | nil=>exact absurd h (by simp[f_])
 | cons s l ih=>
  rw[f_] at h ⊢
  cases hx:u9 n s
  ·rw[hx] at h;exact ih h
  ·simp only[u9,Bool.and_eq_true,decide_eq_true_eq] at hx
   exact⟨hx.2.2.1,hx.2.2.2,G3 hx.2.1⟩
theorem PZ{b:Bool}:b=decide (b=true):=by cases b<;>rfl
theorem Cj{p:FM}{n:Int}{seen:List Seen}(h0:p.a0=n)(h1:p.a1=seen)(h2:p.a2=(seen.length:Int))(hl:seen.length≤140737488355328):∀(j i:Nat),seen.length-i=j→i≤seen.length→aB (CP ai) (.more (.c0 p (i:Int))) (f_ n (seen.drop i)):=by
 intro j
 induction j with
 | zero=>
  intro i hj hi
  have:i=seen.length:=by omega
  subst this
  rw[ak,CP,h2,List.drop_length]
  exact(ah (by rw[ar];simp)).2 (.ret _)
 | succ j ih=>
  intro i hj hi
  have hi':i<seen.length:=by omega
  have nx:=ih (i+1) (by omega) (by omega)
  rw[ak,CP,h0,h1,h2]
  refine(aj (by rw[ar];exact decide_eq_true (by omega))).2 (af.2 ⟨aK hi',?_⟩)
  rw[show(ai.n js seen (i:Int):Seen)=seen[i] from getD_in hi' _,List.drop_eq_getElem_cons hi',f_,cy (i:=i) (by omega)]
  generalize seen[i]=s
  generalize f_ n (seen.drop (i+1))=r at nx ⊢
  have hx:u9 n s=false→aB (CP ai) (.more (.c0 p ((i+1:Nat):Int))) (bif u9 n s then((jv s.2.2).1,s.2.1,true) else r):=fun h=>al (by rw[h];rfl) nx
  rw[show ai.k w6 s.2.2=jv s.2.2 from I4]
  refine au (p:=¬s.1=2) aY (fun h=>hx (by rw[u9,decide_eq_false h];rfl)) fun g1=>af.2 ⟨rfl,?_⟩
  refine au (p:=(jv s.2.2).2=true) PZ (fun g2=>af.2 ⟨rfl,?_⟩) fun h=>hx (by rw[u9,decide_eq_false h,Bool.false_and,Bool.and_false])
  refine au (p:=iB ((jv s.2.2).1.2.2.1,n)=0) aO (fun g3=>?_) fun h=>hx (by rw[u9,decide_eq_false h,Bool.false_and,Bool.and_false,Bool.and_false])
  refine au (p:=(jv s.2.2).1.2.2.2.1<n) rfl (fun g4=>?_) fun h=>hx (by rw[u9,decide_eq_false h,Bool.and_false,Bool.and_false,Bool.and_false])
  exact al (by rw[u9,decide_eq_true (Decidable.not_not.1 g1),decide_eq_true g2,decide_eq_true g3,decide_eq_true g4];rfl) (.ret _)
theorem RV{n:Int}{seen:List Seen}(hl:seen.length≤140737488355328):aB (CP ai) (UH ai n seen) (f_ n seen):=
 Cj (p:=⟨n,seen,(seen.length:Int),(0,0,0,0,0,0,0),0⟩) rfl rfl rfl hl seen.length 0 rfl (by omega)
def o6:(Int×List Seen)→(ia×Int×Bool):=fun(m,n)=>f_ m n
def QA:aA:=⟨[yI,(.slice js)], [r8,yI,.bool],(@tt (Int×List Seen)),o6⟩
theorem RR:Sd 134 QA:=aH ax cm true 21 [⟨134,2, [[0,4,11,12,13]]⟩] [] (fun A (n,seen)=>UH A n seen) CP No (fc Tryz.func134 fz) (sc V8 (sc yS sz)) (fun A y=>match y with |.c0 p a3=>⟨70,by kernel_rfl,by kernel_rfl⟩) fun(n,seen) hp h=>RV h.2.1
def M2(A:aZ)(m:ao)(c:cf)(f:ia):LT Bool Empty:=.need (A.k (@tt (ao×Int×Int)) (m,c.2.2.1,c.2.1)) (.br (A.c .eql (A.k gE (m,c.2.2.1,c.2.1)).2 0) (.br (A.c .neq (A.k gE (m,c.2.2.1,c.2.1)).1 3) (.need (A.and (A.c .leq 0 c.2.2.1) (A.c .lss c.2.2.1 (A.l m.2.2.2.2.2.2.2))) (.need (A.and (A.c .leq 0 c.2.1) (A.c .lss c.2.1 (A.l (A.n aP m.2.2.2.2.2.2.2 c.2.2.1:Mode).1))) (.br (A.c .eql (A.k gE (m,c.2.2.1,c.2.1)).2 0) (.br (A.c .eql f.1 (A.k gE (m,c.2.2.1,c.2.1)).1) (.ret (A.c .eql (A.l f.2.2.2.2) (A.n yI (A.n aP m.2.2.2.2.2.2.2 c.2.2.1:Mode).1 c.2.1:Int))) (.ret false)) (.ret false)))) (.br (A.c .eql (A.k gE (m,c.2.2.1,c.2.1)).2 0) (.br (A.c .eql f.1 (A.k gE (m,c.2.2.1,c.2.1)).1) (.ret (A.c .eql (A.l f.2.2.2.2) 0)) (.ret false)) (.ret false))) (.br (A.c .eql (A.k gE (m,c.2.2.1,c.2.1)).2 0) (.br (A.c .eql f.1 (A.k gE (m,c.2.2.1,c.2.1)).1) (.ret (A.c .eql (A.l f.2.2.2.2) 0)) (.ret false)) (.ret false)))
def BS(m:ao)(c:cf)(f:ia):Bool:=decide ((dn m c.2.2.1 c.2.1).2=0)&&(decide (f.1=(dn m c.2.2.1 c.2.1).1)&&decide ((f.2.2.2.2.length:Int)=bif decide ((dn m c.2.2.1 c.2.1).1=3) then(0:Int) else(ai.n (.int .i64) (ai.n aP m.2.2.2.2.2.2.2 c.2.2.1:Mode).1 c.2.1:Int)))
theorem mC{m:ao}{k n:Int}(h:(dn m k n).2=0):dL m=true∧(0≤n∧n≤m.1-1)∧(0≤k∧k<dh m):=by
 unfold dn at h
 by_cases h1:fw m n=0
 ·obtain⟨a,b⟩:=pW h1
  by_cases h2:0≤k∧k≤dh m-1
  ·exact⟨a,b,by omega⟩
  ·rw[decide_eq_true h1,decide_eq_false h2,cond_true,cond_false] at h;exact absurd h (by decide)
 ·rw[decide_eq_false h1,cond_false] at h;exact absurd h h1
theorem Qy{m:ao}{c:cf}{f:ia}:aB Empty.elim (M2 ai m c f) (BS m c f):=by
 unfold M2
 refine af.2 ⟨rfl,?_⟩
 rw[show ai.k gE (m,c.2.2.1,c.2.1)=dn m c.2.2.1 c.2.1 from rfl]
 by_cases h:(dn m c.2.2.1 c.2.1).2=0
 ·obtain⟨hm,hn,hk⟩:=mC h
  have hx:=(gM (kF hm hk.1 hk.2)).1
  have e:ai.c .eql (dn m c.2.2.1 c.2.1).2 0=true:=IP h
  rw[e,BS,decide_eq_true h,Bool.true_and]
  refine(aj rfl).2 (au (p:=¬(dn m c.2.2.1 c.2.1).1=3) aY (fun g=>af.2 ⟨jB hk.1 hk.2,af.2 ⟨ib hx hn.1 (by omega),(aj rfl).2 ?_⟩⟩) fun g=>(aj rfl).2 ?_)
  ·rw[decide_eq_false g]
   refine au (p:=f.1=(dn m c.2.2.1 c.2.1).1) aO (fun k=>?_) fun k=>?_
   ·exact al (by rw[decide_eq_true k,fO];exact aO) (.ret _)
   ·exact al (by rw[decide_eq_false k];rfl) (.ret _)
  ·rw[decide_eq_true (Decidable.not_not.1 g)]
   refine au (p:=f.1=(dn m c.2.2.1 c.2.1).1) aO (fun k=>?_) fun k=>?_
   ·exact al (by rw[decide_eq_true k,fO];exact aO) (.ret _)
   ·exact al (by rw[decide_eq_false k];rfl) (.ret _)
 ·have e:ai.c .eql (dn m c.2.2.1 c.2.1).2 0=false:=Py h
  rw[e,BS,decide_eq_false h]
  exact(ah rfl).2 ((ah rfl).2 (.ret _))
def Jc:(ao×cf×ia)→Bool:=fun(m,c,k)=>BS m c k
def Tq:aA:=⟨[bC,jj,r8], [.bool],(@tt (ao×cf×ia)),Jc⟩
theorem UZ:Sd 99 Tq:=aD ax cm true 75 [] (fun A (m,c,f)=>M2 A m c f) (fc Tryz.func99 fz) (sc JG sz) fun(m,c,f) hp h=>Qy
def Nc(A:aZ)(m:ao)(n:Node)(f:ia):LT Bool Empty:=.need (A.k (@tt (ao×cf)) (m,f.2.2.1)) (.br (A.k Bj (m,f.2.2.1)) (.br (A.c .neq f.2.2.1.2.1 n.1) (.need (A.k (@tt (cf×Int)) (f.2.2.1,f.2.2.1.2.1)) (.br (A.k Gt (f.2.2.1,f.2.2.1.2.1)) (.need (A.k (@tt (ao×cf×ia)) (m,f.2.2.1,f)) (.ret (A.k Jc (m,f.2.2.1,f)))) (.ret false))) (.ret false)) (.ret false))
def Gv(m:ao)(n:Node)(f:ia):Bool:=eD m f.2.2.1&&(decide (¬f.2.2.1.2.1=n.1)&&(Cr f.2.2.1 f.2.2.1.2.1&&BS m f.2.2.1 f))
theorem XF{m:ao}{n:Node}{f:ia}:aB Empty.elim (Nc ai m n f) (Gv m n f):=by
 unfold Nc Gv
 refine af.2 ⟨rfl,?_⟩
 rw[show ai.k Bj (m,f.2.2.1)=eD m f.2.2.1 from rfl]
 cases eD m f.2.2.1
 ·exact(ah rfl).2 (.ret _)
 refine(aj rfl).2 (au (p:=¬f.2.2.1.2.1=n.1) aY (fun h=>af.2 ⟨rfl,?_⟩) fun h=>al (by rw[decide_eq_false h];rfl) (.ret _))
 rw[decide_eq_true h,show ai.k Gt (f.2.2.1,f.2.2.1.2.1)=Cr f.2.2.1 f.2.2.1.2.1 from rfl]
 cases Cr f.2.2.1 f.2.2.1.2.1
 ·exact(ah rfl).2 (.ret _)
 ·exact(aj rfl).2 (af.2 ⟨rfl,.ret _⟩)
def AF:(ao×Node×ia)→Bool:=fun(m,c,k)=>Gv m c k
def Pf:aA:=⟨[bC,cN,r8], [.bool],(@tt (ao×Node×ia)),AF⟩
theorem Sr:Sd 136 Pf:=aD ax cm true 44 [] (fun A (m,n,f)=>Nc A m n f) (fc Tryz.func136 fz) (sc Jp (sc UZ (sc Sm sz))) fun(m,n,f) hp h=>XF
def LC(A:aZ)(m:ao)(c:cf)(req:Int):LT cf Empty:=.need (A.k (@tt (ao×cf×Int)) (m,c,req)) (.br (A.c .eql (A.k Dc (m,c,req)).2 0) (.ret (A.k Dc (m,c,req)).1) (.ret c))
def jY(m:ao)(c:cf)(r:Int):cf:=bif decide ((pn m c r).2=0) then(pn m c r).1 else c
theorem La{m:ao}{c:cf}{r:Int}:aB Empty.elim (LC ai m c r) (jY m c r):=by
 unfold LC jY
 refine af.2 ⟨rfl,au (p:=(pn m c r).2=0) aO (fun h=>?_) fun h=>?_⟩
 ·exact al (by rw[decide_eq_true h];rfl) (.ret _)
 ·exact al (by rw[decide_eq_false h];rfl) (.ret _)
def JC:(ao×cf×Int)→cf:=fun(m,c,k)=>jY m c k
def Ta:aA:=⟨[bC,jj,yI], [jj],(@tt (ao×cf×Int)),JC⟩
theorem P6:Sd 117 Ta:=aD ax cm true 38 [] (fun A (m,c,req)=>LC A m c req) (fc Tryz.func117 fz) (sc Qe sz) fun(m,c,req) hp h=>La
def oW(m:ao)(n:Node)(c:cf)(f:ia):Node:=(n.1,3,jY m c f.2.1,(n.1,m.1,c.2.2.2.2,1,0,0,0),0,false,0,bif decide (f.1=4) then(yP n.2.2.2.2.2.2.2 c.2.1 f.2.2.2.2).1 else n.2.2.2.2.2.2.2)
open Go.Ev.Pl
def KR(m:ao)(n:Node)(seen:List Seen)(once:Bool):Node×Int×Bool×Int:=
 bif decide (dS m n=0) then
  bif decide (n.2.1=1) then
   bif decide ((seen.length:Int)=2) then
    bif (f_ m.1 seen).2.2 then
     bif decide ((f_ m.1 seen).1.1=1) then
      bif decide ((f_ m.1 seen).1.2.2.2.1=n.1) then(n,0,false,0)
      else bif once && !n.2.2.2.2.2.1 then((n.1,n.2.1,n.2.2.1,n.2.2.2.1,(l5 m n.1).1,true,n.2.2.2.2.2.2),(f_ m.1 seen).2.1,false,0)
      else(oW m n (0,(f_ m.1 seen).1.2.2.2.1,0,0,ai.b .shl .i64 1 (f_ m.1 seen).1.2.2.2.1) (f_ m.1 seen).1,(f_ m.1 seen).2.1,true,0)
     else bif Gv m n (f_ m.1 seen).1 then(oW m n (f_ m.1 seen).1.2.2.1 (f_ m.1 seen).1,(f_ m.1 seen).2.1,true,0)
     else(n,0,false,0)
    else(n,0,false,0)
   else(im,0,false,2)
  else(im,0,false,181)
 else(im,0,false,dS m n)
structure EZ where
 (a0:Int) (a1:ao) (a2 a3:gp) (a4:Int) (a5:Bool) (a6 a7 a8 a9:Int) (bW:Node) (dM:ia)
structure EI where
 (b0:ao) (b1:ia) (b2:cf) (b3:Int) (b4:Node) (b5 b6:gp) (b7:Int) (b8:Bool) (b9 b10 b11 b12:Int)
structure E9 where
 (c0:ao) (c1:ia) (c2:cf) (c3:Int) (c4:Node) (c5 c6:gp) (c7:Int) (c8:Bool) (c9 c10 c11 c12:Int)
structure Ga where
 (d0:ao) (d1 d2:Int) (d3:Node) (d4 d5:gp) (d6:Int) (d7:Bool) (d8 d9 mD mQ:Int)
structure FK where
 (e0:ao) (e1 e2:Int) (e3:Node) (e4 e5:gp) (e6:Int) (e7:Bool) (e8 e9 e10 e11:Int)
inductive Ir where
 | c0 (p:EZ)
 | c1 (p:EI)
 | c2 (p:E9)
 | c3 (p:Ga)
 | c4 (p:FK)
noncomputable def Kg:Ir→fJ
 | .c0 p=>⟨[⟨57,101,(en [(3,.ptr 0 0),(6,.ptr 1 0),(10,.ptr 2 0),(12,.ptr 3 0),(13,vi p.a0)]),[.code (cw Tryz.f57 [1,1,1,1,0,0,1,1,0]),.code (cw Tryz.f57 [1,1,1,1,0,0,1,1,1]),.inBlock 1,.code (cw Tryz.f57 [1,1,1,1,1])],[],none⟩],[.flat false [vi p.a1.1,vi p.a1.2.1,vi p.a1.2.2.1,vi p.a1.2.2.2.1,vi p.a1.2.2.2.2.1,vi p.a1.2.2.2.2.2.1,.sl .bool p.a1.2.2.2.2.2.2.1,.sl aP p.a1.2.2.2.2.2.2.2],.flat false [vi p.a2.1,vi p.a2.2.1,vi p.a2.2.2.1,vi p.a2.2.2.2.1,vi p.a2.2.2.2.2.1,vi p.a2.2.2.2.2.2.1,vi p.a2.2.2.2.2.2.2,vi p.a3.1,vi p.a3.2.1,vi p.a3.2.2.1,vi p.a3.2.2.2.1,vi p.a3.2.2.2.2.1,vi p.a3.2.2.2.2.2.1,vi p.a3.2.2.2.2.2.2,vi p.a4,vb p.a5,vi p.a6,vi p.a7,.bZ true,.bZ true,vi p.a8,vi p.a9],.flat false [vi p.bW.1,vi p.bW.2.1,vi p.bW.2.2.1.1,vi p.bW.2.2.1.2.1,vi p.bW.2.2.1.2.2.1,vi p.bW.2.2.1.2.2.2.1,vi p.bW.2.2.1.2.2.2.2,vi p.bW.2.2.2.1.1,vi p.bW.2.2.2.1.2.1,vi p.bW.2.2.2.1.2.2.1,vi p.bW.2.2.2.1.2.2.2.1,vi p.bW.2.2.2.1.2.2.2.2.1,vi p.bW.2.2.2.1.2.2.2.2.2.1,vi p.bW.2.2.2.1.2.2.2.2.2.2,vi p.bW.2.2.2.2.1,vb p.bW.2.2.2.2.2.1,vi p.bW.2.2.2.2.2.2.1,vi p.bW.2.2.2.2.2.2.2.1,.sl yU p.bW.2.2.2.2.2.2.2.2.1,.sl aM p.bW.2.2.2.2.2.2.2.2.2.1,vi p.bW.2.2.2.2.2.2.2.2.2.2.1,vi p.bW.2.2.2.2.2.2.2.2.2.2.2],.flat false [vi p.dM.1,vi p.dM.2.1,vi p.dM.2.2.1.1,vi p.dM.2.2.1.2.1,vi p.dM.2.2.1.2.2.1,vi p.dM.2.2.1.2.2.2.1,vi p.dM.2.2.1.2.2.2.2,vi p.dM.2.2.2.1,.sl yU p.dM.2.2.2.2],.dead]⟩
 | .c1 p=>⟨[⟨135,29,(en [(0,.agg [vi p.b0.1,vi p.b0.2.1,vi p.b0.2.2.1,vi p.b0.2.2.2.1,vi p.b0.2.2.2.2.1,vi p.b0.2.2.2.2.2.1,.sl .bool p.b0.2.2.2.2.2.2.1,.sl aP p.b0.2.2.2.2.2.2.2]),(1,.ptr 0 0),(2,.agg [vi p.b1.1,vi p.b1.2.1,vi p.b1.2.2.1.1,vi p.b1.2.2.1.2.1,vi p.b1.2.2.1.2.2.1,vi p.b1.2.2.1.2.2.2.1,vi p.b1.2.2.1.2.2.2.2,vi p.b1.2.2.2.1,.sl yU p.b1.2.2.2.2]),(3,.agg [vi p.b2.1,vi p.b2.2.1,vi p.b2.2.2.1,vi p.b2.2.2.2.1,vi p.b2.2.2.2.2])]),[.code (cw Tryz.f135 [0]),.code (cw Tryz.f135 [1])],[],none⟩,⟨57,101,(en [(6,.ptr 1 0),(10,.ptr 0 0),(13,vi p.b3)]),[.jT (ow Tryz.f57 [1,1,1,1,0,0,1,1,1,1,1,0]) [0,0,0,4,0,16,48,124,255] 8 [] [],.inBlock 1,.code (cw Tryz.f57 [1,1,1,1,1])],[],none⟩],[.flat false [vi p.b4.1,vi p.b4.2.1,vi p.b4.2.2.1.1,vi p.b4.2.2.1.2.1,vi p.b4.2.2.1.2.2.1,vi p.b4.2.2.1.2.2.2.1,vi p.b4.2.2.1.2.2.2.2,vi p.b4.2.2.2.1.1,vi p.b4.2.2.2.1.2.1,vi p.b4.2.2.2.1.2.2.1,vi p.b4.2.2.2.1.2.2.2.1,vi p.b4.2.2.2.1.2.2.2.2.1,vi p.b4.2.2.2.1.2.2.2.2.2.1,vi p.b4.2.2.2.1.2.2.2.2.2.2,vi p.b4.2.2.2.2.1,vb p.b4.2.2.2.2.2.1,vi p.b4.2.2.2.2.2.2.1,vi p.b4.2.2.2.2.2.2.2.1,.sl yU p.b4.2.2.2.2.2.2.2.2.1,.sl aM p.b4.2.2.2.2.2.2.2.2.2.1,vi p.b4.2.2.2.2.2.2.2.2.2.2.1,vi p.b4.2.2.2.2.2.2.2.2.2.2.2],.flat false [vi p.b5.1,vi p.b5.2.1,vi p.b5.2.2.1,vi p.b5.2.2.2.1,vi p.b5.2.2.2.2.1,vi p.b5.2.2.2.2.2.1,vi p.b5.2.2.2.2.2.2,vi p.b6.1,vi p.b6.2.1,vi p.b6.2.2.1,vi p.b6.2.2.2.1,vi p.b6.2.2.2.2.1,vi p.b6.2.2.2.2.2.1,vi p.b6.2.2.2.2.2.2,vi p.b7,vb p.b8,vi p.b9,vi p.b10,.bZ true,.bZ true,vi p.b11,vi p.b12],.dead]⟩
 | .c2 p=>⟨[⟨135,29,(en [(0,.agg [vi p.c0.1,vi p.c0.2.1,vi p.c0.2.2.1,vi p.c0.2.2.2.1,vi p.c0.2.2.2.2.1,vi p.c0.2.2.2.2.2.1,.sl .bool p.c0.2.2.2.2.2.2.1,.sl aP p.c0.2.2.2.2.2.2.2]),(1,.ptr 0 0),(2,.agg [vi p.c1.1,vi p.c1.2.1,vi p.c1.2.2.1.1,vi p.c1.2.2.1.2.1,vi p.c1.2.2.1.2.2.1,vi p.c1.2.2.1.2.2.2.1,vi p.c1.2.2.1.2.2.2.2,vi p.c1.2.2.2.1,.sl yU p.c1.2.2.2.2]),(3,.agg [vi p.c2.1,vi p.c2.2.1,vi p.c2.2.2.1,vi p.c2.2.2.2.1,vi p.c2.2.2.2.2])]),[.code (cw Tryz.f135 [0]),.code (cw Tryz.f135 [1])],[],none⟩,⟨57,101,(en [(6,.ptr 1 0),(10,.ptr 0 0),(13,vi p.c3)]),[.ops (ow Tryz.f57 [1,1,1,1,0,0,1,1,1,1,1,1,1,0]) ((ow Tryz.f57 [1,1,1,1,0,0,1,1,1,1,1,1,1,0]).toList.drop 4),.inBlock 1,.code (cw Tryz.f57 [1,1,1,1,1])],[],none⟩],[.flat false [vi p.c4.1,vi p.c4.2.1,vi p.c4.2.2.1.1,vi p.c4.2.2.1.2.1,vi p.c4.2.2.1.2.2.1,vi p.c4.2.2.1.2.2.2.1,vi p.c4.2.2.1.2.2.2.2,vi p.c4.2.2.2.1.1,vi p.c4.2.2.2.1.2.1,vi p.c4.2.2.2.1.2.2.1,vi p.c4.2.2.2.1.2.2.2.1,vi p.c4.2.2.2.1.2.2.2.2.1,vi p.c4.2.2.2.1.2.2.2.2.2.1,vi p.c4.2.2.2.1.2.2.2.2.2.2,vi p.c4.2.2.2.2.1,vb p.c4.2.2.2.2.2.1,vi p.c4.2.2.2.2.2.2.1,vi p.c4.2.2.2.2.2.2.2.1,.sl yU p.c4.2.2.2.2.2.2.2.2.1,.sl aM p.c4.2.2.2.2.2.2.2.2.2.1,vi p.c4.2.2.2.2.2.2.2.2.2.2.1,vi p.c4.2.2.2.2.2.2.2.2.2.2.2],.flat false [vi p.c5.1,vi p.c5.2.1,vi p.c5.2.2.1,vi p.c5.2.2.2.1,vi p.c5.2.2.2.2.1,vi p.c5.2.2.2.2.2.1,vi p.c5.2.2.2.2.2.2,vi p.c6.1,vi p.c6.2.1,vi p.c6.2.2.1,vi p.c6.2.2.2.1,vi p.c6.2.2.2.2.1,vi p.c6.2.2.2.2.2.1,vi p.c6.2.2.2.2.2.2,vi p.c7,vb p.c8,vi p.c9,vi p.c10,.bZ true,.bZ true,vi p.c11,vi p.c12],.dead]⟩
 | .c3 p=>⟨[⟨102,24,(en [(0,.agg [vi p.d0.1,vi p.d0.2.1,vi p.d0.2.2.1,vi p.d0.2.2.2.1,vi p.d0.2.2.2.2.1,vi p.d0.2.2.2.2.2.1,.sl .bool p.d0.2.2.2.2.2.2.1,.sl aP p.d0.2.2.2.2.2.2.2]),(1,.ptr 0 0),(2,vi p.d1)]),[.code (cw Tryz.f102 [0]),.code (cw Tryz.f102 [1])],[],none⟩,⟨135,29,.leaf,[.ops (ow Tryz.f135 [1,1,1,1]) ((ow Tryz.f135 [1,1,1,1]).toList.drop 4)],[],none⟩,⟨57,101,(en [(6,.ptr 1 0),(10,.ptr 0 0),(13,vi p.d2)]),[.jT (ow Tryz.f57 [1,1,1,1,0,0,1,1,1,1,1,0]) [0,0,0,4,0,16,48,124,255] 8 [] [],.inBlock 1,.code (cw Tryz.f57 [1,1,1,1,1])],[],none⟩],[.flat false [vi p.d3.1,vi p.d3.2.1,vi p.d3.2.2.1.1,vi p.d3.2.2.1.2.1,vi p.d3.2.2.1.2.2.1,vi p.d3.2.2.1.2.2.2.1,vi p.d3.2.2.1.2.2.2.2,vi p.d3.2.2.2.1.1,vi p.d3.2.2.2.1.2.1,vi p.d3.2.2.2.1.2.2.1,vi p.d3.2.2.2.1.2.2.2.1,vi p.d3.2.2.2.1.2.2.2.2.1,vi p.d3.2.2.2.1.2.2.2.2.2.1,vi p.d3.2.2.2.1.2.2.2.2.2.2,vi p.d3.2.2.2.2.1,vb p.d3.2.2.2.2.2.1,vi p.d3.2.2.2.2.2.2.1,vi p.d3.2.2.2.2.2.2.2.1,.sl yU p.d3.2.2.2.2.2.2.2.2.1,.sl aM p.d3.2.2.2.2.2.2.2.2.2.1,vi p.d3.2.2.2.2.2.2.2.2.2.2.1,vi p.d3.2.2.2.2.2.2.2.2.2.2.2],.flat false [vi p.d4.1,vi p.d4.2.1,vi p.d4.2.2.1,vi p.d4.2.2.2.1,vi p.d4.2.2.2.2.1,vi p.d4.2.2.2.2.2.1,vi p.d4.2.2.2.2.2.2,vi p.d5.1,vi p.d5.2.1,vi p.d5.2.2.1,vi p.d5.2.2.2.1,vi p.d5.2.2.2.2.1,vi p.d5.2.2.2.2.2.1,vi p.d5.2.2.2.2.2.2,vi p.d6,vb p.d7,vi p.d8,vi p.d9,.bZ true,.bZ true,vi p.mD,vi p.mQ],.dead]⟩
 | .c4 p=>⟨[⟨102,24,(en [(0,.agg [vi p.e0.1,vi p.e0.2.1,vi p.e0.2.2.1,vi p.e0.2.2.2.1,vi p.e0.2.2.2.2.1,vi p.e0.2.2.2.2.2.1,.sl .bool p.e0.2.2.2.2.2.2.1,.sl aP p.e0.2.2.2.2.2.2.2]),(1,.ptr 0 0),(2,vi p.e1)]),[.code (cw Tryz.f102 [0]),.code (cw Tryz.f102 [1])],[],none⟩,⟨135,29,.leaf,[.ops (ow Tryz.f135 [1,1,1,1]) ((ow Tryz.f135 [1,1,1,1]).toList.drop 4)],[],none⟩,⟨57,101,(en [(6,.ptr 1 0),(10,.ptr 0 0),(13,vi p.e2)]),[.ops (ow Tryz.f57 [1,1,1,1,0,0,1,1,1,1,1,1,1,0]) ((ow Tryz.f57 [1,1,1,1,0,0,1,1,1,1,1,1,1,0]).toList.drop 4),.inBlock 1,.code (cw Tryz.f57 [1,1,1,1,1])],[],none⟩],[.flat false [vi p.e3.1,vi p.e3.2.1,vi p.e3.2.2.1.1,vi p.e3.2.2.1.2.1,vi p.e3.2.2.1.2.2.1,vi p.e3.2.2.1.2.2.2.1,vi p.e3.2.2.1.2.2.2.2,vi p.e3.2.2.2.1.1,vi p.e3.2.2.2.1.2.1,vi p.e3.2.2.2.1.2.2.1,vi p.e3.2.2.2.1.2.2.2.1,vi p.e3.2.2.2.1.2.2.2.2.1,vi p.e3.2.2.2.1.2.2.2.2.2.1,vi p.e3.2.2.2.1.2.2.2.2.2.2,vi p.e3.2.2.2.2.1,vb p.e3.2.2.2.2.2.1,vi p.e3.2.2.2.2.2.2.1,vi p.e3.2.2.2.2.2.2.2.1,.sl yU p.e3.2.2.2.2.2.2.2.2.1,.sl aM p.e3.2.2.2.2.2.2.2.2.2.1,vi p.e3.2.2.2.2.2.2.2.2.2.2.1,vi p.e3.2.2.2.2.2.2.2.2.2.2.2],.flat false [vi p.e4.1,vi p.e4.2.1,vi p.e4.2.2.1,vi p.e4.2.2.2.1,vi p.e4.2.2.2.2.1,vi p.e4.2.2.2.2.2.1,vi p.e4.2.2.2.2.2.2,vi p.e5.1,vi p.e5.2.1,vi p.e5.2.2.1,vi p.e5.2.2.2.1,vi p.e5.2.2.2.2.1,vi p.e5.2.2.2.2.2.1,vi p.e5.2.2.2.2.2.2,vi p.e6,vb p.e7,vi p.e8,vi p.e9,.bZ true,.bZ true,vi p.e10,vi p.e11],.dead]⟩
def KW(A:aZ)(m:ao)(n:Node)(seen:List Seen):LT (Node×Int×Bool×Int) Ir:=.need (A.k (@tt (ao×Node×Bool)) (m,n,(A.c .eql n.2.1 1))) (.br (A.c .neq (A.k aR (m,n,(A.c .eql n.2.1 1))).2 0) (.ret ((0,0,(0,0,0,0,0),(0,0,0,0,0,0,0),0,false,0,0,([]:List Int),([]:List aW),0,0),0,false,(A.k aR (m,n,(A.c .eql n.2.1 1))).2)) (.br (A.c .neq (A.l seen) 2) (.ret ((0,0,(0,0,0,0,0),(0,0,0,0,0,0,0),0,false,0,0,([]:List Int),([]:List aW),0,0),0,false,2)) (.need (A.k (@tt (Int×List Seen)) (m.1,seen)) (.br (A.not (A.k o6 (m.1,seen)).2.2) (.ret ((A.k aR (m,n,(A.c .eql n.2.1 1))).1,0,false,0)) (.br (A.c .eql (A.k o6 (m.1,seen)).1.1 1) (.br (A.c .eql (A.k o6 (m.1,seen)).1.2.2.2.1 (A.k aR (m,n,(A.c .eql n.2.1 1))).1.1) (.ret ((A.k aR (m,n,(A.c .eql n.2.1 1))).1,0,false,0)) (.more (.c0 ⟨(A.k o6 (m.1,seen)).2.1,m,(0,0,0,0,0,0,0),(0,0,0,0,0,0,0),0,false,0,0,0,0,(A.k aR (m,n,(A.c .eql n.2.1 1))).1,(A.k o6 (m.1,seen)).1⟩))) (.more (.c0 ⟨(A.k o6 (m.1,seen)).2.1,m,(0,0,0,0,0,0,0),(0,0,0,0,0,0,0),0,false,0,0,0,0,(A.k aR (m,n,(A.c .eql n.2.1 1))).1,(A.k o6 (m.1,seen)).1⟩)))))))
def rm(A:aZ):Ir→LT (Node×Int×Bool×Int) Ir
 | .c0 p=>.br (A.c .eql p.dM.1 1) (.br (A.not p.bW.2.2.2.2.2.1) (.need (A.k (@tt (ao×Int)) (p.a1,p.bW.1)) (.ret ((p.bW.1,p.bW.2.1,p.bW.2.2.1,p.bW.2.2.2.1,(A.k oZ (p.a1,p.bW.1)),true,p.bW.2.2.2.2.2.2),p.a0,false,0))) (.br (A.c .eql p.dM.1 1) (.need (A.c .leq 0 p.dM.2.2.2.1) (.more (.c1 ⟨p.a1,p.dM,(0,p.dM.2.2.2.1,0,0,(A.b .shl .i64 1 p.dM.2.2.2.1)),p.a0,p.bW,p.a2,p.a3,p.a4,p.a5,p.a6,p.a7,p.a8,p.a9⟩))) (.need (A.k (@tt (ao×Node×ia)) (p.a1,p.bW,p.dM)) (.br (A.k AF (p.a1,p.bW,p.dM)) (.more (.c2 ⟨p.a1,p.dM,p.dM.2.2.1,p.a0,p.bW,p.a2,p.a3,p.a4,p.a5,p.a6,p.a7,p.a8,p.a9⟩)) (.ret (p.bW,0,false,0)))))) (.br (A.c .eql p.dM.1 1) (.need (A.c .leq 0 p.dM.2.2.2.1) (.more (.c1 ⟨p.a1,p.dM,(0,p.dM.2.2.2.1,0,0,(A.b .shl .i64 1 p.dM.2.2.2.1)),p.a0,p.bW,p.a2,p.a3,p.a4,p.a5,p.a6,p.a7,p.a8,p.a9⟩))) (.need (A.k (@tt (ao×Node×ia)) (p.a1,p.bW,p.dM)) (.br (A.k AF (p.a1,p.bW,p.dM)) (.more (.c2 ⟨p.a1,p.dM,p.dM.2.2.1,p.a0,p.bW,p.a2,p.a3,p.a4,p.a5,p.a6,p.a7,p.a8,p.a9⟩)) (.ret (p.bW,0,false,0)))))
 | .c1 p=>.br (A.c .eql p.b1.1 4) (.need (A.k (@tt (bR×Int×List Int)) (p.b4.2.2.2.2.2.2.2,p.b2.2.1,p.b1.2.2.2.2)) (.need (A.k (@tt (bR×Int×List Int)) (p.b4.2.2.2.2.2.2.2,p.b2.2.1,p.b1.2.2.2.2)) (.br (A.c .eql (A.k xM (p.b4.2.2.2.2.2.2.2,p.b2.2.1,p.b1.2.2.2.2)).2 0) (.more (.c3 ⟨p.b0,p.b1.2.1,p.b3,(p.b4.1,3,p.b2,(p.b4.1,p.b0.1,p.b2.2.2.2.2,1,0,0,0),0,false,0,(A.k xM (p.b4.2.2.2.2.2.2.2,p.b2.2.1,p.b1.2.2.2.2)).1),p.b5,p.b6,p.b7,p.b8,p.b9,p.b10,p.b11,p.b12⟩)) (.more (.c3 ⟨p.b0,p.b1.2.1,p.b3,(p.b4.1,3,p.b2,(p.b4.1,p.b0.1,p.b2.2.2.2.2,1,0,0,0),0,false,0,p.b4.2.2.2.2.2.2.2),p.b5,p.b6,p.b7,p.b8,p.b9,p.b10,p.b11,p.b12⟩))))) (.more (.c3 ⟨p.b0,p.b1.2.1,p.b3,(p.b4.1,3,p.b2,(p.b4.1,p.b0.1,p.b2.2.2.2.2,1,0,0,0),0,false,0,p.b4.2.2.2.2.2.2.2),p.b5,p.b6,p.b7,p.b8,p.b9,p.b10,p.b11,p.b12⟩))
 | .c2 p=>.br (A.c .eql p.c1.1 4) (.need (A.k (@tt (bR×Int×List Int)) (p.c4.2.2.2.2.2.2.2,p.c2.2.1,p.c1.2.2.2.2)) (.need (A.k (@tt (bR×Int×List Int)) (p.c4.2.2.2.2.2.2.2,p.c2.2.1,p.c1.2.2.2.2)) (.br (A.c .eql (A.k xM (p.c4.2.2.2.2.2.2.2,p.c2.2.1,p.c1.2.2.2.2)).2 0) (.more (.c4 ⟨p.c0,p.c1.2.1,p.c3,(p.c4.1,3,p.c2,(p.c4.1,p.c0.1,p.c2.2.2.2.2,1,0,0,0),0,false,0,(A.k xM (p.c4.2.2.2.2.2.2.2,p.c2.2.1,p.c1.2.2.2.2)).1),p.c5,p.c6,p.c7,p.c8,p.c9,p.c10,p.c11,p.c12⟩)) (.more (.c4 ⟨p.c0,p.c1.2.1,p.c3,(p.c4.1,3,p.c2,(p.c4.1,p.c0.1,p.c2.2.2.2.2,1,0,0,0),0,false,0,p.c4.2.2.2.2.2.2.2),p.c5,p.c6,p.c7,p.c8,p.c9,p.c10,p.c11,p.c12⟩))))) (.more (.c4 ⟨p.c0,p.c1.2.1,p.c3,(p.c4.1,3,p.c2,(p.c4.1,p.c0.1,p.c2.2.2.2.2,1,0,0,0),0,false,0,p.c4.2.2.2.2.2.2.2),p.c5,p.c6,p.c7,p.c8,p.c9,p.c10,p.c11,p.c12⟩))
 | .c3 p=>.need (A.k (@tt (ao×cf×Int)) (p.d0,p.d3.2.2.1,p.d1)) (.need (A.k (@tt (ao×cf×Int)) (p.d0,p.d3.2.2.1,p.d1)) (.br (A.c .eql (A.k q9 (p.d0,p.d3.2.2.1,p.d1)).2 0) (.ret ((p.d3.1,p.d3.2.1,(A.k q9 (p.d0,p.d3.2.2.1,p.d1)).1,p.d3.2.2.2),p.d2,true,0)) (.ret (p.d3,p.d2,true,0))))
 | .c4 p=>.need (A.k (@tt (ao×cf×Int)) (p.e0,p.e3.2.2.1,p.e1)) (.need (A.k (@tt (ao×cf×Int)) (p.e0,p.e3.2.2.1,p.e1)) (.br (A.c .eql (A.k q9 (p.e0,p.e3.2.2.1,p.e1)).2 0) (.ret ((p.e3.1,p.e3.2.1,(A.k q9 (p.e0,p.e3.2.2.1,p.e1)).1,p.e3.2.2.2),p.e2,true,0)) (.ret (p.e3,p.e2,true,0))))
theorem KO{m:ao}{n:Node}{f:ia}(hn:dS m n=0)(hf:fx f=true)(hj:Gv m n f=true):(yP n.2.2.2.2.2.2.2 f.2.2.1.2.1 f.2.2.2.2).2=0:=by
 have hd:=gZ.1 (fB hn).2
 simp only[Gv,Bool.and_eq_true,BS,decide_eq_true_eq] at hj
 have hk:=mC hj.2.2.2.1
 simp only[fx,Bool.and_eq_true,decide_eq_true_eq] at hf
 have h8:=hf.1.2
 have e6:=hd.2.2.2.2.2.1
 rw[yP,hd.2.2.2.1,decide_eq_true (show 0≤f.2.2.1.2.1∧f.2.2.1.2.1≤(n.2.2.2.2.2.2.2.2.2.1.length:Int)-1 by rw[e6];exact hk.2.1),decide_eq_false (show ¬8<(f.2.2.2.2.length:Int) by omega)]
 rfl
theorem J7{p:Ga}:aB (rm ai) (.more (.c3 p)) ((p.d3.1,p.d3.2.1,jY p.d0 p.d3.2.2.1 p.d1,p.d3.2.2.2),p.d2,true,0):=by
 rw[ak,rm]
 refine af.2 ⟨rfl,?_⟩
 repeat' (refine af.2 ⟨rfl,?_⟩)
 refine au (p:=(pn p.d0 p.d3.2.2.1 p.d1).2=0) aO (fun h=>?_) fun h=>?_
 ·exact al (by rw[jY,decide_eq_true h];rfl) (.ret _)
 ·exact al (by rw[jY,decide_eq_false h];rfl) (.ret _)
theorem Ei{p:FK}:aB (rm ai) (.more (.c4 p)) ((p.e3.1,p.e3.2.1,jY p.e0 p.e3.2.2.1 p.e1,p.e3.2.2.2),p.e2,true,0):=by
 rw[ak,rm]
 refine af.2 ⟨rfl,?_⟩
 repeat' (refine af.2 ⟨rfl,?_⟩)
 refine au (p:=(pn p.e0 p.e3.2.2.1 p.e1).2=0) aO (fun h=>?_) fun h=>?_
 ·exact al (by rw[jY,decide_eq_true h];rfl) (.ret _)
 ·exact al (by rw[jY,decide_eq_false h];rfl) (.ret _)
theorem NQ{p:EI}(h:p.b1.1=1):aB (rm ai) (.more (.c1 p)) (oW p.b0 p.b4 p.b2 p.b1,p.b3,true,0):=by
 rw[ak,rm]
 refine(ah (by rw[aO];exact decide_eq_false (by omega))).2 (al ?_ J7)
 rw[oW,decide_eq_false (show ¬p.b1.1=4 by omega)]
 rfl
theorem NO{p:E9}(h:p.c1.1=4→(yP p.c4.2.2.2.2.2.2.2 p.c2.2.1 p.c1.2.2.2.2).2=0):aB (rm ai) (.more (.c2 p)) (oW p.c0 p.c4 p.c2 p.c1,p.c3,true,0):=by
 rw[ak,rm]
 refine au (p:=p.c1.1=4) aO (fun g=>af.2 ⟨rfl,?_⟩) fun g=>al (by rw[oW,decide_eq_false g];rfl) Ei
 repeat' (refine af.2 ⟨rfl,?_⟩)
 exact(aj (IP (h g))).2 (al (by rw[oW,decide_eq_true g];rfl) Ei)
theorem K0{p:EZ}{m:ao}{n:Node}{f:ia}{t:Int}(h0:p.a0=t)(h1:p.a1=m)(h2:p.bW=n)(hf:p.dM=f)(hl:0≤f.2.2.2.1)(hd:Gv m n f=true→(yP n.2.2.2.2.2.2.2 f.2.2.1.2.1 f.2.2.2.2).2=0):aB (rm ai) (.more (.c0 p)) (bif decide (f.1=1) then(bif !n.2.2.2.2.2.1 then((n.1,n.2.1,n.2.2.1,n.2.2.2.1,(l5 m n.1).1,true,n.2.2.2.2.2.2),t,false,0) else(oW m n (0,f.2.2.2.1,0,0,ai.b .shl .i64 1 f.2.2.2.1) f,t,true,0)) else bif Gv m n f then(oW m n f.2.2.1 f,t,true,0) else(n,0,false,0)):=by
 rw[ak,rm,h0,h1,h2,hf]
 refine au (p:=f.1=1) aO (fun h=>?_) fun h=>?_
 ·rw[decide_eq_true h,cond_true]
  cases hb:n.2.2.2.2.2.1
  ·exact(aj rfl).2 (af.2 ⟨rfl,.ret _⟩)
  ·exact(ah rfl).2 ((aj (by rw[aO];exact decide_eq_true h)).2 (af.2 ⟨decide_eq_true hl,NQ h⟩))
 ·rw[decide_eq_false h,cond_false]
  refine(ah (by rw[aO];exact decide_eq_false h)).2 (af.2 ⟨rfl,?_⟩)
  rw[show ai.k AF (m,n,f)=Gv m n f from rfl]
  cases hj:Gv m n f
  ·exact(ah rfl).2 (.ret _)
  ·exact(aj rfl).2 (NO fun _=>hd hj)
theorem Tb{m:ao}{n:Node}{seen:List Seen}:aB (rm ai) (KW ai m n seen) (KR m n seen true):=by
 unfold KW KR
 refine af.2 ⟨rfl,?_⟩
 rw[show ai.k aR (m,n,ai.c .eql n.2.1 1)=jo m n (ai.c .eql n.2.1 1) from rfl,aO,jo]
 by_cases h:dS m n=0
 ·rw[decide_eq_true h,cond_true,cond_true]
  cases decide (n.2.1=1)
  ·exact(aj rfl).2 (.ret _)
  rw[cond_true,cond_true]
  refine(ah rfl).2 (au (p:=¬(seen.length:Int)=2) aY (fun h2=>al (by rw[decide_eq_false h2];rfl) (.ret _)) fun h2=>af.2 ⟨rfl,?_⟩)
  rw[decide_eq_true (Decidable.not_not.1 h2),cond_true,show ai.k o6 (m.1,seen)=f_ m.1 seen from rfl]
  cases he:(f_ m.1 seen).2.2
  ·exact(aj rfl).2 (.ret _)
  obtain⟨e1,e2,e3⟩:=ND he
  have hl:=J6 e3
  have nx:=fun {a b c d e g i j}=>K0 (p:=⟨(f_ m.1 seen).2.1,m,a,b,c,d,e,g,i,j,n,(f_ m.1 seen).1⟩) (m:=m) (n:=n) (f:=(f_ m.1 seen).1) (t:=(f_ m.1 seen).2.1) rfl rfl rfl rfl hl.1 (KO h e3)
  generalize f_ m.1 seen=x at *
  refine(ah rfl).2 (au (p:=x.1.1=1) aO (fun h3=>au (p:=x.1.2.2.2.1=n.1) aO (fun h4=>?_) fun h4=>?_) fun h3=>?_)
  ·exact al (by rw[decide_eq_true h3,decide_eq_true h4];rfl) (.ret _)
  ·rw[decide_eq_true h3] at nx
   rw[decide_eq_true h3,decide_eq_false h4,cond_true,cond_true,cond_false,Bool.true_and]
   exact nx
  ·rw[decide_eq_false h3] at nx
   rw[decide_eq_false h3,cond_true,cond_false]
   exact nx
 ·rw[decide_eq_false h];exact(aj (jS h)).2 (.ret _)
def vJ:(ao×Node×List Seen)→(Node×Int×Bool×Int):=fun(m,n,s)=>KR m n s true
def Sk:aA:=⟨[bC,cN,(.slice js)], [cN,yI,.bool,yI],(@tt (ao×Node×List Seen)),vJ⟩
theorem QO:Sd 57 Sk:=aH ax cm true 93 [] [⟨57,10, [[3,6,10,12,13]]⟩,⟨102,0, [[0,1,2], [], [6,10,13]]⟩,⟨135,0, [[0,1,2,3], [6,10,13]]⟩] (fun A (m,n,seen)=>KW A m n seen) rm Kg (fc Tryz.func57 (fc Tryz.func75 (fc Tryz.func101 (fc Tryz.func102 (fc Tryz.func135 fz))))) (sc yA (sc RR (sc xY (sc Sr (sc Sq (sc JL sz)))))) (fun A y=>match y with |.c0 p=>⟨42,by kernel_rfl,by kernel_rfl⟩|.c1 p=>⟨125,by kernel_rfl,by kernel_rfl⟩|.c2 p=>⟨125,by kernel_rfl,by kernel_rfl⟩|.c3 p=>⟨51,by kernel_rfl,by kernel_rfl⟩|.c4 p=>⟨51,by kernel_rfl,by kernel_rfl⟩) fun(m,n,seen) hp h=>Tb
open Go.Ev.Pl
theorem vS{x:List UInt8}:ai.z .neq x x=false:=by show(!(x==x))=false;simp
theorem DN{x:Int}:ai.c .neq x x=false:=by rw[aY];simp
instance:DecidableEq aW:=inferInstanceAs (DecidableEq (List Int×Int))
instance:DecidableEq cf:=inferInstanceAs (DecidableEq (Int×Int×Int×Int×Int))
instance:DecidableEq gp:=inferInstanceAs (DecidableEq (Int×Int×Int×Int×Int×Int×Int))
instance:DecidableEq bR:=inferInstanceAs (DecidableEq (Int×List Int×List aW×Int×Int))
def VC:DecidableEq (Int×Bool×Int×bR):=inferInstance
def Rc:DecidableEq (cf×gp×Int×Bool×Int×bR):=have:=VC;inferInstance
instance:DecidableEq Node:=have:=Rc;inferInstanceAs (DecidableEq (Int×Int×(cf×gp×Int×Bool×Int×bR)))
structure Km where
 (a1 a2:bR)
inductive IL where
 | c0 (p:Km) (a0:Int)
noncomputable def K5:IL→fJ
 | .c0 p a0=>⟨[⟨30,80,(en [(2,.ptr 0 0),(3,.ptr 1 0),(5,vi a0)]),[.inLoop (cw Tryz.f30 [1,1,0,1,0,0]),.inBlock 0,.code (cw Tryz.f30 [1,1,1])],[],none⟩],[.flat false [vi p.a1.1,.sl yU p.a1.2.1,.sl aM p.a1.2.2.1,vi p.a1.2.2.2.1,vi p.a1.2.2.2.2],.flat false [vi p.a2.1,.sl yU p.a2.2.1,.sl aM p.a2.2.2.1,vi p.a2.2.2.2.1,vi p.a2.2.2.2.2],.dead]⟩
def K9(A:aZ)(a:bR)(b:bR):LT Bool IL:=.br (A.c .neq a.1 b.1) (.ret false) (.br (A.z .neq (A.bytes a.2.1) (A.bytes b.2.1)) (.ret false) (.br (A.c .neq a.2.2.2.1 b.2.2.2.1) (.ret false) (.br (A.c .neq a.2.2.2.2 b.2.2.2.2) (.ret false) (.br (A.c .neq (A.l a.2.2.1) (A.l b.2.2.1)) (.ret false) (.more (.c0 ⟨a,b⟩ 0))))))
def Gf(A:aZ):IL→LT Bool IL
 | .c0 p a0=>.br (A.c .lss a0 (A.l p.a1.2.2.1)) (.need (A.and (A.c .leq 0 a0) (A.c .lss a0 (A.l p.a1.2.2.1))) (.need (A.and (A.c .leq 0 a0) (A.c .lss a0 (A.l p.a2.2.2.1))) (.br (A.z .neq (A.bytes (A.n aM p.a1.2.2.1 a0:aW).1) (A.bytes (A.n aM p.a2.2.2.1 a0:aW).1)) (.ret false) (.need (A.and (A.c .leq 0 a0) (A.c .lss a0 (A.l p.a1.2.2.1))) (.need (A.and (A.c .leq 0 a0) (A.c .lss a0 (A.l p.a2.2.2.1))) (.br (A.c .neq (A.n aM p.a1.2.2.1 a0:aW).2 (A.n aM p.a2.2.2.1 a0:aW).2) (.ret false) (.more (.c0 p (A.b .add .i64 a0 1))))))))) (.ret true)
theorem BW{c:bR}(hl:c.2.2.1.length≤140737488355328):∀(j i:Nat),c.2.2.1.length-i=j→i≤c.2.2.1.length→aB (Gf ai) (.more (.c0 ⟨c,c⟩ (i:Int))) true:=by
 intro j
 induction j with
 | zero=>
  intro i hj hi
  rw[ak,Gf]
  exact(ah (by rw[cH];exact decide_eq_false (show ¬i<c.2.2.1.length by omega))).2 (.ret _)
 | succ j ih=>
  intro i hj hi
  have hi':i<c.2.2.1.length:=by omega
  rw[ak,Gf]
  refine(aj (by rw[cH];exact decide_eq_true hi')).2 (af.2 ⟨aK hi',af.2 ⟨aK hi',(ah vS).2 (af.2 ⟨aK hi',af.2 ⟨aK hi',(ah DN).2 ?_⟩⟩)⟩⟩)
  rw[cy (i:=i) (by omega)]
  exact ih (i+1) (by omega) (by omega)
theorem MF{a b:bR}(hl:a.2.2.1.length≤140737488355328)(h:a=b):aB (Gf ai) (K9 ai a b) true:=by
 subst h
 unfold K9
 refine(ah (by rw[aY];simp)).2 ((ah vS).2 ((ah (by rw[aY];simp)).2 ((ah (by rw[aY];simp)).2 ((ah (by rw[aY];simp)).2 (BW hl _ 0 rfl (by omega))))))
def Jj:(bR×bR)→Bool:=fun _=>true
def FJ:(bR×bR)→Bool:=fun(a,b)=>decide (a=b)
def SQ:aA:=⟨[iT,iT], [.bool],FJ,Jj⟩
theorem SY:Sd 30 SQ:=aH ax cm true 62 [⟨30,4, [[2,3,5]]⟩] [] (fun A (a,b)=>K9 A a b) Gf K5 (fc Tryz.func30 fz) sz (fun A y=>match y with |.c0 p a0=>⟨60,by kernel_rfl,by kernel_rfl⟩) fun((a,b):bR×bR) hp h=>MF h.1.2.2.1.1 (of_decide_eq_true hp)
def LM(A:aZ)(a:Node)(b:Node):LT Bool Empty:=.br (A.c .eql a.1 b.1) (.br (A.c .eql a.2.1 b.2.1) (.br (A.and (A.c .eql a.2.2.1.1 b.2.2.1.1) (A.and (A.c .eql a.2.2.1.2.1 b.2.2.1.2.1) (A.and (A.c .eql a.2.2.1.2.2.1 b.2.2.1.2.2.1) (A.and (A.c .eql a.2.2.1.2.2.2.1 b.2.2.1.2.2.2.1) (A.and (A.c .eql a.2.2.1.2.2.2.2 b.2.2.1.2.2.2.2) true))))) (.br (A.and (A.c .eql a.2.2.2.1.1 b.2.2.2.1.1) (A.and (A.c .eql a.2.2.2.1.2.1 b.2.2.2.1.2.1) (A.and (A.c .eql a.2.2.2.1.2.2.1 b.2.2.2.1.2.2.1) (A.and (A.c .eql a.2.2.2.1.2.2.2.1 b.2.2.2.1.2.2.2.1) (A.and (A.c .eql a.2.2.2.1.2.2.2.2.1 b.2.2.2.1.2.2.2.2.1) (A.and (A.c .eql a.2.2.2.1.2.2.2.2.2.1 b.2.2.2.1.2.2.2.2.2.1) (A.and (A.c .eql a.2.2.2.1.2.2.2.2.2.2 b.2.2.2.1.2.2.2.2.2.2) true))))))) (.br (A.c .eql a.2.2.2.2.1 b.2.2.2.2.1) (.br (A.q a.2.2.2.2.2.1 b.2.2.2.2.2.1) (.br (A.c .eql a.2.2.2.2.2.2.1 b.2.2.2.2.2.2.1) (.need (A.k FJ (a.2.2.2.2.2.2.2,b.2.2.2.2.2.2.2)) (.ret (A.k Jj (a.2.2.2.2.2.2.2,b.2.2.2.2.2.2.2)))) (.ret false)) (.ret false)) (.ret false)) (.ret false)) (.ret false)) (.ret false)) (.ret false)
theorem MG{a b:Node}(h:a=b):aB Empty.elim (LM ai a b) true:=by
 subst h
 unfold LM
 have e:∀x:Int,ai.c .eql x x=true:=fun x=>by rw[aO];simp
 refine(aj (e _)).2 ((aj (e _)).2 ((aj (by rw[e,e,e,e,e];rfl)).2 ((aj (by rw[e,e,e,e,e,e,e];rfl)).2 ((aj (e _)).2 ((aj (by rw[ft];simp)).2 ((aj (e _)).2 (af.2 ⟨decide_eq_true rfl,.ret _⟩)))))))
def vD:(Node×Node)→Bool:=fun _=>true
def s6:(Node×Node)→Bool:=fun(a,b)=>decide (a=b)
def SS:aA:=⟨[cN,cN], [.bool],s6,vD⟩
theorem Ra:Sd 19 SS:=aD ax cm true 70 [] (fun A (a,b)=>LM A a b) (fc Tryz.func19 fz) (sc SY sz) fun((a,b):Node×Node) hp h=>MG (of_decide_eq_true hp)
def IU(A:aZ)(id:Int):LT (List Seen) Empty:=.need (A.k (@tt ((Int×Int×(Int×Int×Int×Int×Int)×Int×List Int))) (1,0,(0,0,0,0,0),id,([]:List Int))) (.ret [(2,9,(A.k QS (1,0,(0,0,0,0,0),id,([]:List Int))).1),(0,0,0,([]:List Int))])
def tp:Int→(List Seen):=fun id=>(IU ai id).val (Ty.cn [(.slice js)])
def Sv:aA:=⟨[yI], [(.slice js)],(@tt Int),tp⟩
theorem Q6:Sd 61 Sv:=aL ax cm true 30 [] (fun A id=>IU A id) (fc Tryz.func61 fz) (sc X_ sz) (fun(id:Int) hp h=>by
 show(IU ai id).pre=true
 simp[IU,LT.pre,ap,dc])
def G_(A:aZ)(n:Node):LT Bool Empty:=.ret (A.c .leq (A.l n.2.2.2.2.2.2.2.2.2.1) 20)
def Ay:Node→Bool:=fun n=>(G_ ai n).val (Ty.cn [.bool])
def Pd:aA:=⟨[cN], [.bool],(@tt Node),Ay⟩
theorem R1:Sd 15 Pd:=aL ax cm true 20 [] (fun A n=>G_ A n) (fc Tryz.func15 fz) sz (fun(n:Node) hp h=>by
 show(G_ ai n).pre=true
 simp[G_,LT.pre,ap,dc])
structure Nn where
 (a0 a1 a2 a3 a4 a5 a6 a7 a8 a9:Int) (bW:Node) (dM:List Bool) (a12:List Int) (nC j6:List Bool)
inductive H_ where
 | c0 (p:Nn)
noncomputable def L_:H_→fJ
 | .c0 p=>⟨[⟨14,64,(en [(1,.ptr 0 0),(2,vi p.a0),(3,.ptr 1 0),(4,vi p.a1)]),[.code (cw Tryz.f14 [1,1,1,0]),.code (cw Tryz.f14 [1,1,1,1])],[],none⟩],[.flat false [vi p.a2,vi p.a3,vi p.a4,vi p.a5,vi p.a6,vi p.a7,.own 2,.kh 3 3 false p.a8 p.a9],.flat false [vi p.bW.1,vi p.bW.2.1,vi p.bW.2.2.1.1,vi p.bW.2.2.1.2.1,vi p.bW.2.2.1.2.2.1,vi p.bW.2.2.1.2.2.2.1,vi p.bW.2.2.1.2.2.2.2,vi p.bW.2.2.2.1.1,vi p.bW.2.2.2.1.2.1,vi p.bW.2.2.2.1.2.2.1,vi p.bW.2.2.2.1.2.2.2.1,vi p.bW.2.2.2.1.2.2.2.2.1,vi p.bW.2.2.2.1.2.2.2.2.2.1,vi p.bW.2.2.2.1.2.2.2.2.2.2,vi p.bW.2.2.2.2.1,vb p.bW.2.2.2.2.2.1,vi p.bW.2.2.2.2.2.2.1,vi p.bW.2.2.2.2.2.2.2.1,.sl yU p.bW.2.2.2.2.2.2.2.2.1,.sl aM p.bW.2.2.2.2.2.2.2.2.2.1,vi p.bW.2.2.2.2.2.2.2.2.2.2.1,vi p.bW.2.2.2.2.2.2.2.2.2.2.2],.arr true .bool p.dM,.flat true [.sl yI p.a12,.sl .bool p.nC,.sl .bool p.j6],.dead]⟩
def Mz(A:aZ):LT Bool H_:=.need (A.c .leq (A.l ([true]:List Bool)) 70368744177664) (.need (A.c .leq (A.l ([2]:List Int)) 15637498706147) (.need (A.c .leq (A.l ([true]:List Bool)) 70368744177664) (.need (A.c .leq (A.l (A.p [true] [true])) 70368744177664) (.need (A.c .leq (A.l (A.p ([2]:List Int) ([2]:List Int))) 15637498706147) (.need (A.c .leq (A.l (A.p [true] [true])) 70368744177664) (.need (A.c .leq (A.l (A.p (A.p [true] [true]) [true])) 70368744177664) (.need (A.c .leq (A.l (A.p (A.p ([2]:List Int) ([2]:List Int)) ([2]:List Int))) 15637498706147) (.need (A.c .leq (A.l (A.p (A.p [true] [true]) [true])) 70368744177664) (.need (A.c .leq (A.l (A.p (A.p (A.p [true] [true]) [true]) [true])) 70368744177664) (.need (A.c .leq (A.l (A.p (A.p (A.p ([2]:List Int) ([2]:List Int)) ([2]:List Int)) ([2]:List Int))) 15637498706147) (.need (A.c .leq (A.l (A.p (A.p (A.p [true] [true]) [true]) [true])) 70368744177664) (.need (A.k (@tt ao) (4,0,38,16,0,1,(A.p (A.p (A.p [true] [true]) [true]) [true]), [((A.p (A.p (A.p ([2]:List Int) ([2]:List Int)) ([2]:List Int)) ([2]:List Int)),(A.p (A.p (A.p [true] [true]) [true]) [true]), [true])])) (.need (A.k (@tt (ao×Int)) ((4,(A.b .add .i64 76 (A.k qL (4,0,38,16,0,1,(A.p (A.p (A.p [true] [true]) [true]) [true]), [((A.p (A.p (A.p ([2]:List Int) ([2]:List Int)) ([2]:List Int)) ([2]:List Int)),(A.p (A.p (A.p [true] [true]) [true]) [true]), [true])]))),38,16,0,1,(A.p (A.p (A.p [true] [true]) [true]) [true]), [((A.p (A.p (A.p ([2]:List Int) ([2]:List Int)) ([2]:List Int)) ([2]:List Int)),(A.p (A.p (A.p [true] [true]) [true]) [true]), [true])]),1)) (.more (.c0 ⟨0,(A.k yR ((4,(A.b .add .i64 76 (A.k qL (4,0,38,16,0,1,(A.p (A.p (A.p [true] [true]) [true]) [true]), [((A.p (A.p (A.p ([2]:List Int) ([2]:List Int)) ([2]:List Int)) ([2]:List Int)),(A.p (A.p (A.p [true] [true]) [true]) [true]), [true])]))),38,16,0,1,(A.p (A.p (A.p [true] [true]) [true]) [true]), [((A.p (A.p (A.p ([2]:List Int) ([2]:List Int)) ([2]:List Int)) ([2]:List Int)),(A.p (A.p (A.p [true] [true]) [true]) [true]), [true])]),1)).2,4,(A.b .add .i64 76 (A.k qL (4,0,38,16,0,1,(A.p (A.p (A.p [true] [true]) [true]) [true]), [((A.p (A.p (A.p ([2]:List Int) ([2]:List Int)) ([2]:List Int)) ([2]:List Int)),(A.p (A.p (A.p [true] [true]) [true]) [true]), [true])]))),38,16,0,1,0,1,(A.k yR ((4,(A.b .add .i64 76 (A.k qL (4,0,38,16,0,1,(A.p (A.p (A.p [true] [true]) [true]) [true]), [((A.p (A.p (A.p ([2]:List Int) ([2]:List Int)) ([2]:List Int)) ([2]:List Int)),(A.p (A.p (A.p [true] [true]) [true]) [true]), [true])]))),38,16,0,1,(A.p (A.p (A.p [true] [true]) [true]) [true]), [((A.p (A.p (A.p ([2]:List Int) ([2]:List Int)) ([2]:List Int)) ([2]:List Int)),(A.p (A.p (A.p [true] [true]) [true]) [true]), [true])]),1)).1,(A.p (A.p (A.p [true] [true]) [true]) [true]),(A.p (A.p (A.p ([2]:List Int) ([2]:List Int)) ([2]:List Int)) ([2]:List Int)),(A.p (A.p (A.p [true] [true]) [true]) [true]), [true]⟩)))))))))))))))
def Lk(A:aZ):H_→LT Bool H_
 | .c0 p=>.need (A.k (@tt (ao×Node×Bool)) ((p.a2,p.a3,p.a4,p.a5,p.a6,p.a7,p.dM,(A.s [(p.a12,p.nC,p.j6)] p.a8 (A.b .add .i64 p.a8 p.a9))),p.bW,true)) (.need (A.k (@tt Int) 2) (.need (A.k (@tt (ao×Node×List Seen)) ((p.a2,p.a3,p.a4,p.a5,p.a6,p.a7,p.dM,(A.s [(p.a12,p.nC,p.j6)] p.a8 (A.b .add .i64 p.a8 p.a9))),(A.k qB ((p.a2,p.a3,p.a4,p.a5,p.a6,p.a7,p.dM,(A.s [(p.a12,p.nC,p.j6)] p.a8 (A.b .add .i64 p.a8 p.a9))),p.bW,true)).1,(A.k tp 2))) (.br (A.c .eql p.a0 0) (.br (A.c .eql p.a1 0) (.br (A.c .eql (A.k qB ((p.a2,p.a3,p.a4,p.a5,p.a6,p.a7,p.dM,(A.s [(p.a12,p.nC,p.j6)] p.a8 (A.b .add .i64 p.a8 p.a9))),p.bW,true)).2 0) (.br (A.c .eql (A.k vJ ((p.a2,p.a3,p.a4,p.a5,p.a6,p.a7,p.dM,(A.s [(p.a12,p.nC,p.j6)] p.a8 (A.b .add .i64 p.a8 p.a9))),(A.k qB ((p.a2,p.a3,p.a4,p.a5,p.a6,p.a7,p.dM,(A.s [(p.a12,p.nC,p.j6)] p.a8 (A.b .add .i64 p.a8 p.a9))),p.bW,true)).1,(A.k tp 2))).2.2.2 0) (.br (A.c .eql (A.k vJ ((p.a2,p.a3,p.a4,p.a5,p.a6,p.a7,p.dM,(A.s [(p.a12,p.nC,p.j6)] p.a8 (A.b .add .i64 p.a8 p.a9))),(A.k qB ((p.a2,p.a3,p.a4,p.a5,p.a6,p.a7,p.dM,(A.s [(p.a12,p.nC,p.j6)] p.a8 (A.b .add .i64 p.a8 p.a9))),p.bW,true)).1,(A.k tp 2))).2.1 9) (.br (A.not (A.k vJ ((p.a2,p.a3,p.a4,p.a5,p.a6,p.a7,p.dM,(A.s [(p.a12,p.nC,p.j6)] p.a8 (A.b .add .i64 p.a8 p.a9))),(A.k qB ((p.a2,p.a3,p.a4,p.a5,p.a6,p.a7,p.dM,(A.s [(p.a12,p.nC,p.j6)] p.a8 (A.b .add .i64 p.a8 p.a9))),p.bW,true)).1,(A.k tp 2))).2.2.1) (.br (A.k vJ ((p.a2,p.a3,p.a4,p.a5,p.a6,p.a7,p.dM,(A.s [(p.a12,p.nC,p.j6)] p.a8 (A.b .add .i64 p.a8 p.a9))),(A.k qB ((p.a2,p.a3,p.a4,p.a5,p.a6,p.a7,p.dM,(A.s [(p.a12,p.nC,p.j6)] p.a8 (A.b .add .i64 p.a8 p.a9))),p.bW,true)).1,(A.k tp 2))).1.2.2.2.2.2.1 (.ret (A.c .eql (A.k vJ ((p.a2,p.a3,p.a4,p.a5,p.a6,p.a7,p.dM,(A.s [(p.a12,p.nC,p.j6)] p.a8 (A.b .add .i64 p.a8 p.a9))),(A.k qB ((p.a2,p.a3,p.a4,p.a5,p.a6,p.a7,p.dM,(A.s [(p.a12,p.nC,p.j6)] p.a8 (A.b .add .i64 p.a8 p.a9))),p.bW,true)).1,(A.k tp 2))).1.2.1 1)) (.ret false)) (.ret false)) (.ret false)) (.ret false)) (.ret false)) (.ret false)) (.ret false))))
theorem BP:aB (Lk ai) (Mz ai) true:=by
 unfold Mz
 repeat' (refine af.2 ⟨by kernel_rfl,?_⟩)
 rw[ak,Lk]
 repeat' (refine af.2 ⟨by kernel_rfl,?_⟩)
 refine(aj (by kernel_rfl)).2 ((aj (by kernel_rfl)).2 ((aj (by kernel_rfl)).2 ((aj (by kernel_rfl)).2 ((aj (by kernel_rfl)).2 ((aj (by kernel_rfl)).2 ((aj (by kernel_rfl)).2 (al (by kernel_rfl) (.ret _))))))))
def vy:Unit→Bool:=fun _=>true
def Qf:aA:=⟨[], [.bool],(@tt Unit),vy⟩
theorem UN:Sd 14 Qf:=aH ax cm true 313 [] [⟨14,3, [[1,2,3,4]]⟩] (fun A _=>Mz A) Lk L_ (fc Tryz.func14 (fc Tryz.func60 fz)) (sc Jv (sc QO (sc Ji (sc Pt (sc Q6 sz))))) (fun A y=>match y with |.c0 p=>⟨66,by kernel_rfl,by kernel_rfl⟩) fun _ hp h=>BP
end Go.Ev.M
