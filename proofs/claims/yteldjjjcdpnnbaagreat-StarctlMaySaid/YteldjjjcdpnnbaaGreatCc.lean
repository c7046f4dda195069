/-
  PROVED: what busctl.Hear and metronomeref18.Hear compute. Conditions: none.
-/
import Derived.Test.YteldjjjcdpnnbaaGreatCb
import Derived.Test.YteldjjjcdpnnbaaGreatDa
import Derived.Test.YteldjjjcdpnnbaaGreatDb
import Derived.Test.YteldjjjcdpnnbaaGreatKa
namespace Go.Ev.M
open Go.Proofs
set_option maxRecDepth 100000
set_option linter.unusedVariables false
set_option linter.unusedSimpArgs false
open Go.Ev.Pl
structure KR where
 (a0:Int) (a1:List Seen) (a2:Int) (a4:gh) (a5:Int)
inductive Nf where
 | c0 (p:KR) (a3:Int)
noncomputable def QJ:Nf→gB
 | .c0 p a3=>⟨[⟨134,45,(en [(0,vi p.a0),(4,.ptr 0 0),(11,.sl dA p.a1),(12,vi p.a2),(13,vi a3)]),[.inLoop (cw Tryz.f134 [1,0,1,0,0]),.inBlock 0,.code (cw Tryz.f134 [1,1])],[],none⟩],[.flat false [vi p.a4.1,vi p.a4.2.1,vi p.a4.2.2.1,vi p.a4.2.2.2.1,vi p.a4.2.2.2.2.1,vi p.a4.2.2.2.2.2.1,vi p.a4.2.2.2.2.2.2,vi p.a5,.bK true],.dead]⟩
def Uo(A:bi)(n:Int)(seen:List Seen):LT (gT×Int×Bool) Nf:=.more (.c0 ⟨n,seen,(A.l seen),(0,0,0,0,0,0,0),0⟩ 0)
def GN(A:bi):Nf→LT (gT×Int×Bool) Nf
 | .c0 p a3=>.br (A.c .lss a3 p.a2) (.need (A.and (A.c .leq 0 a3) (A.c .lss a3 (A.l p.a1))) (.br (A.c .neq (A.n dA p.a1 a3:Seen).1 2) (.more (.c0 p (A.b .add .i64 a3 1))) (.need (A.k (@tt ((Int×List Int))) (A.n dA p.a1 a3:Seen).2.2) (.br (A.k By (A.n dA p.a1 a3:Seen).2.2).2 (.need (A.k (@tt ((Int×Int×Int×Int×Int)×Int)) ((A.k By (A.n dA p.a1 a3:Seen).2.2).1.2.2.1,p.a0)) (.br (A.c .eql (A.k jH ((A.k By (A.n dA p.a1 a3:Seen).2.2).1.2.2.1,p.a0)) 0) (.br (A.c .lss (A.k By (A.n dA p.a1 a3:Seen).2.2).1.2.2.2.1 p.a0) (.ret ((A.k By (A.n dA p.a1 a3:Seen).2.2).1,(A.n dA p.a1 a3:Seen).2.1,true)) (.more (.c0 p (A.b .add .i64 a3 1)))) (.more (.c0 p (A.b .add .i64 a3 1))))) (.more (.c0 p (A.b .add .i64 a3 1))))))) (.ret ((0,0,(0,0,0,0,0),0,([]:List Int)),0,false))
def yT(n:Int)(s:Seen):Bool:=decide (s.1=2)&&(decide ((kU s.2.2).2=true)&&(decide (gm ((kU s.2.2).1.2.2.1,n)=0)&&decide ((kU s.2.2).1.2.2.2.1<n)))
def eU(n:Int):List Seen→gT×Int×Bool
 | []=>((0,0,(0,0,0,0,0),0,([]:List Int)),0,false)
 | s::l=>bif yT n s then((kU s.2.2).1,s.2.1,true) else eU n l
theorem EE{n:Int}{l:List Seen}(h:(eU n l).2.2=true):gm ((eU n l).1.2.2.1,n)=0∧(eU n l).1.2.2.2.1<n∧eX (eU n l).1=true:=by
 induction l with
 | nil=>exact absurd h (by simp[eU])
 | cons s l ih=>
   rw[eU] at h ⊢
   cases hx:yT n s
   ·rw[hx] at h;exact ih h
   ·simp only[yT,Bool.and_eq_true,decide_eq_true_eq] at hx
    exact⟨hx.2.2.1,hx.2.2.2,NA hx.2.1⟩
theorem Ux{b:Bool}:b=decide (b=true):=by cases b<;>rfl
theorem GL{p:KR}{n:Int}{seen:List Seen}(h0:p.a0=n)(h1:p.a1=seen)(h2:p.a2=(seen.length:Int))(hl:seen.length≤140737488355328):∀(j i:Nat),seen.length-i=j→i≤seen.length→aA (GN aj) (.more (.c0 p (i:Int))) (eU n (seen.drop i)):=by
 intro j
 induction j with
 | zero=>
   intro i hj hi
   have:i=seen.length:=by omega
   subst this
   rw[al,GN,h2,List.drop_length]
   exact(ah (by rw[ar];simp)).2 (.ret _)
 | succ j ih=>
   intro i hj hi
   have hi':i<seen.length:=by omega
   have nx:=ih (i+1) (by omega) (by omega)
   rw[al,GN,h0,h1,h2]
   refine(ai (by rw[ar];exact decide_eq_true (by omega))).2 (af.2 ⟨bT hi',?_⟩)
   rw[show(aj.n dA seen (i:Int):Seen)=seen[i] from getD_in hi' _,List.drop_eq_getElem_cons hi',eU,eu (i:=i) (by omega)]
   generalize seen[i]=s
   generalize eU n (seen.drop (i+1))=r at nx ⊢
   have hx:yT n s=false→aA (GN aj) (.more (.c0 p ((i+1:Nat):Int))) (bif yT n s then((kU s.2.2).1,s.2.1,true) else r):=fun h=>ay (by rw[h];rfl) nx
   rw[show aj.k By s.2.2=kU s.2.2 from Na]
   refine ax (p:=¬s.1=2) aT (fun h=>hx (by rw[yT,decide_eq_false h];rfl)) fun g1=>af.2 ⟨rfl,?_⟩
   refine ax (p:=(kU s.2.2).2=true) Ux (fun g2=>af.2 ⟨rfl,?_⟩) fun h=>hx (by rw[yT,decide_eq_false h,Bool.false_and,Bool.and_false])
   refine ax (p:=gm ((kU s.2.2).1.2.2.1,n)=0) aH (fun g3=>?_) fun h=>hx (by rw[yT,decide_eq_false h,Bool.false_and,Bool.and_false,Bool.and_false])
   refine ax (p:=(kU s.2.2).1.2.2.2.1<n) rfl (fun g4=>?_) fun h=>hx (by rw[yT,decide_eq_false h,Bool.and_false,Bool.and_false,Bool.and_false])
   exact ay (by rw[yT,decide_eq_true (Decidable.not_not.1 g1),decide_eq_true g2,decide_eq_true g3,decide_eq_true g4];rfl) (.ret _)
theorem W9{n:Int}{seen:List Seen}(hl:seen.length≤140737488355328):aA (GN aj) (Uo aj n seen) (eU n seen):=
 GL (p:=⟨n,seen,(seen.length:Int),(0,0,0,0,0,0,0),0⟩) rfl rfl rfl hl seen.length 0 rfl (by omega)
def iF:(Int×List Seen)→(gT×Int×Bool):=fun(m,n)=>eU m n
def U6:aD:=⟨[yI,(.slice dA)], [uy,yI,.bool],(@tt (Int×List Seen)),iF⟩
theorem Oy:Sd 134 U6:=aL au cK true 21 [⟨134,2, [[0,4,11,12,13]]⟩] [] (fun A (n,seen)=>Uo A n seen) GN QJ (fc Tryz.func134 fz) (sc aaJ (sc xA sz)) (fun A y=>match y with |.c0 p a3=>⟨70,by kernel_rfl,by kernel_rfl⟩) fun(n,seen) hp h=>W9 h.2.1
def S9(A:bi)(m:ak)(c:dq)(f:gT):LT Bool Empty:=.need (A.k (@tt (ak×Int×Int)) (m,c.2.2.1,c.2.1)) (.br (A.c .eql (A.k dB (m,c.2.2.1,c.2.1)).2 0) (.br (A.c .neq (A.k dB (m,c.2.2.1,c.2.1)).1 3) (.need (A.and (A.c .leq 0 c.2.2.1) (A.c .lss c.2.2.1 (A.l m.2.2.2.2.2.2.2))) (.need (A.and (A.c .leq 0 c.2.1) (A.c .lss c.2.1 (A.l (A.n aX m.2.2.2.2.2.2.2 c.2.2.1:Mode).1))) (.br (A.c .eql (A.k dB (m,c.2.2.1,c.2.1)).2 0) (.br (A.c .eql f.1 (A.k dB (m,c.2.2.1,c.2.1)).1) (.ret (A.c .eql (A.l f.2.2.2.2) (A.n yI (A.n aX m.2.2.2.2.2.2.2 c.2.2.1:Mode).1 c.2.1:Int))) (.ret false)) (.ret false)))) (.br (A.c .eql (A.k dB (m,c.2.2.1,c.2.1)).2 0) (.br (A.c .eql f.1 (A.k dB (m,c.2.2.1,c.2.1)).1) (.ret (A.c .eql (A.l f.2.2.2.2) 0)) (.ret false)) (.ret false))) (.br (A.c .eql (A.k dB (m,c.2.2.1,c.2.1)).2 0) (.br (A.c .eql f.1 (A.k dB (m,c.2.2.1,c.2.1)).1) (.ret (A.c .eql (A.l f.2.2.2.2) 0)) (.ret false)) (.ret false)))
def kh(m:ak)(c:dq)(f:gT):Bool:=decide ((bo m c.2.2.1 c.2.1).2=0)&&(decide (f.1=(bo m c.2.2.1 c.2.1).1)&&decide ((f.2.2.2.2.length:Int)=bif decide ((bo m c.2.2.1 c.2.1).1=3) then(0:Int) else(aj.n (.int .i64) (aj.n aX m.2.2.2.2.2.2.2 c.2.2.1:Mode).1 c.2.1:Int)))
theorem ki{m:ak}{k n:Int}(h:(bo m k n).2=0):dy m=true∧(0≤n∧n≤m.1-1)∧(0≤k∧k<cO m):=by
 unfold bo at h
 by_cases h1:gw m n=0
 ·obtain⟨a,b⟩:=Aa h1
  by_cases h2:0≤k∧k≤cO m-1
  ·exact⟨a,b,by omega⟩
  ·rw[decide_eq_true h1,decide_eq_false h2,cond_true,cond_false] at h;exact absurd h (by decide)
 ·rw[decide_eq_false h1,cond_false] at h;exact absurd h h1
theorem VP{m:ak}{c:dq}{f:gT}:aA Empty.elim (S9 aj m c f) (kh m c f):=by
 unfold S9
 refine af.2 ⟨rfl,?_⟩
 rw[show aj.k dB (m,c.2.2.1,c.2.1)=bo m c.2.2.1 c.2.1 from rfl]
 by_cases h:(bo m c.2.2.1 c.2.1).2=0
 ·obtain⟨hm,hn,hk⟩:=ki h
  have hx:=(iw (k_ hm hk.1 hk.2)).1
  have e:aj.c .eql (bo m c.2.2.1 c.2.1).2 0=true:=ug h
  rw[e,kh,decide_eq_true h,Bool.true_and]
  refine(ai rfl).2 (ax (p:=¬(bo m c.2.2.1 c.2.1).1=3) aT (fun g=>af.2 ⟨jk hk.1 hk.2,af.2 ⟨jr hx hn.1 (by omega),(ai rfl).2 ?_⟩⟩) fun g=>(ai rfl).2 ?_)
  ·rw[decide_eq_false g]
   refine ax (p:=f.1=(bo m c.2.2.1 c.2.1).1) aH (fun k=>?_) fun k=>?_
   ·exact ay (by rw[decide_eq_true k,ko];exact aH) (.ret _)
   ·exact ay (by rw[decide_eq_false k];rfl) (.ret _)
  ·rw[decide_eq_true (Decidable.not_not.1 g)]
   refine ax (p:=f.1=(bo m c.2.2.1 c.2.1).1) aH (fun k=>?_) fun k=>?_
   ·exact ay (by rw[decide_eq_true k,ko];exact aH) (.ret _)
   ·exact ay (by rw[decide_eq_false k];rfl) (.ret _)
 ·have e:aj.c .eql (bo m c.2.2.1 c.2.1).2 0=false:=XD h
  rw[e,kh,decide_eq_false h]
  exact(ah rfl).2 ((ah rfl).2 (.ret _))
def FZ:(ak×dq×gT)→Bool:=fun(m,c,k)=>kh m c k
def Vq:aD:=⟨[bd,sI,uy], [.bool],(@tt (ak×dq×gT)),FZ⟩
theorem Oh:Sd 99 Vq:=aK au cK true 75 [] (fun A (m,c,f)=>S9 A m c f) (fc Tryz.func99 fz) (sc BW sz) fun(m,c,f) hp h=>VP
def S7(A:bi)(m:ak)(n:Node)(f:gT):LT Bool Empty:=.need (A.k (@tt (ak×dq)) (m,f.2.2.1)) (.br (A.k FV (m,f.2.2.1)) (.br (A.c .neq f.2.2.1.2.1 n.1) (.need (A.k (@tt (dq×Int)) (f.2.2.1,f.2.2.1.2.1)) (.br (A.k Dg (f.2.2.1,f.2.2.1.2.1)) (.need (A.k (@tt (ak×dq×gT)) (m,f.2.2.1,f)) (.ret (A.k FZ (m,f.2.2.1,f)))) (.ret false))) (.ret false)) (.ret false))
def BU(m:ak)(n:Node)(f:gT):Bool:=dp m f.2.2.1&&(decide (¬f.2.2.1.2.1=n.1)&&(C9 f.2.2.1 f.2.2.1.2.1&&kh m f.2.2.1 f))
theorem ab3{m:ak}{n:Node}{f:gT}:aA Empty.elim (S7 aj m n f) (BU m n f):=by
 unfold S7 BU
 refine af.2 ⟨rfl,?_⟩
 rw[show aj.k FV (m,f.2.2.1)=dp m f.2.2.1 from rfl]
 cases dp m f.2.2.1
 ·exact(ah rfl).2 (.ret _)
 refine(ai rfl).2 (ax (p:=¬f.2.2.1.2.1=n.1) aT (fun h=>af.2 ⟨rfl,?_⟩) fun h=>ay (by rw[decide_eq_false h];rfl) (.ret _))
 rw[decide_eq_true h,show aj.k Dg (f.2.2.1,f.2.2.1.2.1)=C9 f.2.2.1 f.2.2.1.2.1 from rfl]
 cases C9 f.2.2.1 f.2.2.1.2.1
 ·exact(ah rfl).2 (.ret _)
 ·exact(ai rfl).2 (af.2 ⟨rfl,.ret _⟩)
def FT:(ak×Node×gT)→Bool:=fun(m,c,k)=>BU m c k
def U7:aD:=⟨[bd,aQ,uy], [.bool],(@tt (ak×Node×gT)),FT⟩
theorem U1:Sd 136 U7:=aK au cK true 44 [] (fun A (m,n,f)=>S7 A m n f) (fc Tryz.func136 fz) (sc Oj (sc Oh (sc Od sz))) fun(m,n,f) hp h=>ab3
def eY(m:ak)(c:dq)(r:Int):dq:=bif decide ((l5 m c r).2=0) then(l5 m c r).1 else c
def jW(m:ak)(n:Node)(c:dq)(f:gT):Node:=(n.1,3,eY m c f.2.1,(n.1,m.1,c.2.2.2.2,1,0,0,0),0,false,0,bif decide (f.1=4) then(jh n.2.2.2.2.2.2.2 c.2.1 f.2.2.2.2).1 else n.2.2.2.2.2.2.2)
open Go.Ev.Pl
def nH(m:ak)(n:Node)(seen:List Seen)(once:Bool):Node×Int×Bool×Int:=
 bif decide (aS m n=0) then
  bif decide (n.2.1=1) then
   bif decide ((seen.length:Int)=2) then
    bif (eU m.1 seen).2.2 then
     bif decide ((eU m.1 seen).1.1=1) then
      bif decide ((eU m.1 seen).1.2.2.2.1=n.1) then(n,0,false,0)
      else bif once && !n.2.2.2.2.2.1 then((n.1,n.2.1,n.2.2.1,n.2.2.2.1,(jZ m n.1).1,true,n.2.2.2.2.2.2),(eU m.1 seen).2.1,false,0)
      else(jW m n (0,(eU m.1 seen).1.2.2.2.1,0,0,aj.b .shl .i64 1 (eU m.1 seen).1.2.2.2.1) (eU m.1 seen).1,(eU m.1 seen).2.1,true,0)
     else bif BU m n (eU m.1 seen).1 then(jW m n (eU m.1 seen).1.2.2.1 (eU m.1 seen).1,(eU m.1 seen).2.1,true,0)
     else(n,0,false,0)
    else(n,0,false,0)
   else(dM,0,false,2)
  else(dM,0,false,181)
 else(dM,0,false,aS m n)
structure I7 where
 (a0:Int) (a1:ak) (a2 a3:gh) (a4:Int) (a5:Bool) (a6 a7 a8 a9:Int) (bH:Node) (dP:gT)
structure Ke where
 (b0:ak) (b1:gT) (b2:dq) (b3:Int) (b4:Node) (b5 b6:gh) (b7:Int) (b8:Bool) (b9 b10 b11 b12:Int)
structure I9 where
 (c0:ak) (c1:gT) (c2:dq) (c3:Int) (c4:Node) (c5 c6:gh) (c7:Int) (c8:Bool) (c9 c10 c11 c12:Int)
structure JN where
 (d0:ak) (d1 d2:Int) (d3:Node) (d4 d5:gh) (d6:Int) (d7:Bool) (d8 d9 fO gY:Int)
structure JU where
 (e0:ak) (e1 e2:Int) (e3:Node) (e4 e5:gh) (e6:Int) (e7:Bool) (e8 e9 e10 e11:Int)
inductive NF where
 | c0 (p:I7)
 | c1 (p:Ke)
 | c2 (p:I9)
 | c3 (p:JN)
 | c4 (p:JU)
noncomputable def Tl:NF→gB
 | .c0 p=>⟨[⟨57,101,(en [(3,.ptr 0 0),(6,.ptr 1 0),(10,.ptr 2 0),(12,.ptr 3 0),(13,vi p.a0)]),[.code (cw Tryz.f57 [1,1,1,1,0,0,1,1,0]),.code (cw Tryz.f57 [1,1,1,1,0,0,1,1,1]),.inBlock 1,.code (cw Tryz.f57 [1,1,1,1,1])],[],none⟩],[.flat false [vi p.a1.1,vi p.a1.2.1,vi p.a1.2.2.1,vi p.a1.2.2.2.1,vi p.a1.2.2.2.2.1,vi p.a1.2.2.2.2.2.1,.sl .bool p.a1.2.2.2.2.2.2.1,.sl aX p.a1.2.2.2.2.2.2.2],.flat false [vi p.a2.1,vi p.a2.2.1,vi p.a2.2.2.1,vi p.a2.2.2.2.1,vi p.a2.2.2.2.2.1,vi p.a2.2.2.2.2.2.1,vi p.a2.2.2.2.2.2.2,vi p.a3.1,vi p.a3.2.1,vi p.a3.2.2.1,vi p.a3.2.2.2.1,vi p.a3.2.2.2.2.1,vi p.a3.2.2.2.2.2.1,vi p.a3.2.2.2.2.2.2,vi p.a4,vb p.a5,vi p.a6,vi p.a7,.bK true,.bK true,vi p.a8,vi p.a9],.flat false [vi p.bH.1,vi p.bH.2.1,vi p.bH.2.2.1.1,vi p.bH.2.2.1.2.1,vi p.bH.2.2.1.2.2.1,vi p.bH.2.2.1.2.2.2.1,vi p.bH.2.2.1.2.2.2.2,vi p.bH.2.2.2.1.1,vi p.bH.2.2.2.1.2.1,vi p.bH.2.2.2.1.2.2.1,vi p.bH.2.2.2.1.2.2.2.1,vi p.bH.2.2.2.1.2.2.2.2.1,vi p.bH.2.2.2.1.2.2.2.2.2.1,vi p.bH.2.2.2.1.2.2.2.2.2.2,vi p.bH.2.2.2.2.1,vb p.bH.2.2.2.2.2.1,vi p.bH.2.2.2.2.2.2.1,vi p.bH.2.2.2.2.2.2.2.1,.sl yU p.bH.2.2.2.2.2.2.2.2.1,.sl df p.bH.2.2.2.2.2.2.2.2.2.1,vi p.bH.2.2.2.2.2.2.2.2.2.2.1,vi p.bH.2.2.2.2.2.2.2.2.2.2.2],.flat false [vi p.dP.1,vi p.dP.2.1,vi p.dP.2.2.1.1,vi p.dP.2.2.1.2.1,vi p.dP.2.2.1.2.2.1,vi p.dP.2.2.1.2.2.2.1,vi p.dP.2.2.1.2.2.2.2,vi p.dP.2.2.2.1,.sl yU p.dP.2.2.2.2],.dead]⟩
 | .c1 p=>⟨[⟨135,29,(en [(0,.agg [vi p.b0.1,vi p.b0.2.1,vi p.b0.2.2.1,vi p.b0.2.2.2.1,vi p.b0.2.2.2.2.1,vi p.b0.2.2.2.2.2.1,.sl .bool p.b0.2.2.2.2.2.2.1,.sl aX p.b0.2.2.2.2.2.2.2]),(1,.ptr 0 0),(2,.agg [vi p.b1.1,vi p.b1.2.1,vi p.b1.2.2.1.1,vi p.b1.2.2.1.2.1,vi p.b1.2.2.1.2.2.1,vi p.b1.2.2.1.2.2.2.1,vi p.b1.2.2.1.2.2.2.2,vi p.b1.2.2.2.1,.sl yU p.b1.2.2.2.2]),(3,.agg [vi p.b2.1,vi p.b2.2.1,vi p.b2.2.2.1,vi p.b2.2.2.2.1,vi p.b2.2.2.2.2])]),[.code (cw Tryz.f135 [0]),.code (cw Tryz.f135 [1])],[],none⟩,⟨57,101,(en [(6,.ptr 1 0),(10,.ptr 0 0),(13,vi p.b3)]),[.ll (ow Tryz.f57 [1,1,1,1,0,0,1,1,1,1,1,0]) [0,0,0,4,0,16,48,124,255] 8 [] [],.inBlock 1,.code (cw Tryz.f57 [1,1,1,1,1])],[],none⟩],[.flat false [vi p.b4.1,vi p.b4.2.1,vi p.b4.2.2.1.1,vi p.b4.2.2.1.2.1,vi p.b4.2.2.1.2.2.1,vi p.b4.2.2.1.2.2.2.1,vi p.b4.2.2.1.2.2.2.2,vi p.b4.2.2.2.1.1,vi p.b4.2.2.2.1.2.1,vi p.b4.2.2.2.1.2.2.1,vi p.b4.2.2.2.1.2.2.2.1,vi p.b4.2.2.2.1.2.2.2.2.1,vi p.b4.2.2.2.1.2.2.2.2.2.1,vi p.b4.2.2.2.1.2.2.2.2.2.2,vi p.b4.2.2.2.2.1,vb p.b4.2.2.2.2.2.1,vi p.b4.2.2.2.2.2.2.1,vi p.b4.2.2.2.2.2.2.2.1,.sl yU p.b4.2.2.2.2.2.2.2.2.1,.sl df p.b4.2.2.2.2.2.2.2.2.2.1,vi p.b4.2.2.2.2.2.2.2.2.2.2.1,vi p.b4.2.2.2.2.2.2.2.2.2.2.2],.flat false [vi p.b5.1,vi p.b5.2.1,vi p.b5.2.2.1,vi p.b5.2.2.2.1,vi p.b5.2.2.2.2.1,vi p.b5.2.2.2.2.2.1,vi p.b5.2.2.2.2.2.2,vi p.b6.1,vi p.b6.2.1,vi p.b6.2.2.1,vi p.b6.2.2.2.1,vi p.b6.2.2.2.2.1,vi p.b6.2.2.2.2.2.1,vi p.b6.2.2.2.2.2.2,vi p.b7,vb p.b8,vi p.b9,vi p.b10,.bK true,.bK true,vi p.b11,vi p.b12],.dead]⟩
 | .c2 p=>⟨[⟨135,29,(en [(0,.agg [vi p.c0.1,vi p.c0.2.1,vi p.c0.2.2.1,vi p.c0.2.2.2.1,vi p.c0.2.2.2.2.1,vi p.c0.2.2.2.2.2.1,.sl .bool p.c0.2.2.2.2.2.2.1,.sl aX p.c0.2.2.2.2.2.2.2]),(1,.ptr 0 0),(2,.agg [vi p.c1.1,vi p.c1.2.1,vi p.c1.2.2.1.1,vi p.c1.2.2.1.2.1,vi p.c1.2.2.1.2.2.1,vi p.c1.2.2.1.2.2.2.1,vi p.c1.2.2.1.2.2.2.2,vi p.c1.2.2.2.1,.sl yU p.c1.2.2.2.2]),(3,.agg [vi p.c2.1,vi p.c2.2.1,vi p.c2.2.2.1,vi p.c2.2.2.2.1,vi p.c2.2.2.2.2])]),[.code (cw Tryz.f135 [0]),.code (cw Tryz.f135 [1])],[],none⟩,⟨57,101,(en [(6,.ptr 1 0),(10,.ptr 0 0),(13,vi p.c3)]),[.ops (ow Tryz.f57 [1,1,1,1,0,0,1,1,1,1,1,1,1,0]) ((ow Tryz.f57 [1,1,1,1,0,0,1,1,1,1,1,1,1,0]).toList.drop 4),.inBlock 1,.code (cw Tryz.f57 [1,1,1,1,1])],[],none⟩],[.flat false [vi p.c4.1,vi p.c4.2.1,vi p.c4.2.2.1.1,vi p.c4.2.2.1.2.1,vi p.c4.2.2.1.2.2.1,vi p.c4.2.2.1.2.2.2.1,vi p.c4.2.2.1.2.2.2.2,vi p.c4.2.2.2.1.1,vi p.c4.2.2.2.1.2.1,vi p.c4.2.2.2.1.2.2.1,vi p.c4.2.2.2.1.2.2.2.1,vi p.c4.2.2.2.1.2.2.2.2.1,vi p.c4.2.2.2.1.2.2.2.2.2.1,vi p.c4.2.2.2.1.2.2.2.2.2.2,vi p.c4.2.2.2.2.1,vb p.c4.2.2.2.2.2.1,vi p.c4.2.2.2.2.2.2.1,vi p.c4.2.2.2.2.2.2.2.1,.sl yU p.c4.2.2.2.2.2.2.2.2.1,.sl df p.c4.2.2.2.2.2.2.2.2.2.1,vi p.c4.2.2.2.2.2.2.2.2.2.2.1,vi p.c4.2.2.2.2.2.2.2.2.2.2.2],.flat false [vi p.c5.1,vi p.c5.2.1,vi p.c5.2.2.1,vi p.c5.2.2.2.1,vi p.c5.2.2.2.2.1,vi p.c5.2.2.2.2.2.1,vi p.c5.2.2.2.2.2.2,vi p.c6.1,vi p.c6.2.1,vi p.c6.2.2.1,vi p.c6.2.2.2.1,vi p.c6.2.2.2.2.1,vi p.c6.2.2.2.2.2.1,vi p.c6.2.2.2.2.2.2,vi p.c7,vb p.c8,vi p.c9,vi p.c10,.bK true,.bK true,vi p.c11,vi p.c12],.dead]⟩
 | .c3 p=>⟨[⟨102,24,(en [(0,.agg [vi p.d0.1,vi p.d0.2.1,vi p.d0.2.2.1,vi p.d0.2.2.2.1,vi p.d0.2.2.2.2.1,vi p.d0.2.2.2.2.2.1,.sl .bool p.d0.2.2.2.2.2.2.1,.sl aX p.d0.2.2.2.2.2.2.2]),(1,.ptr 0 0),(2,vi p.d1)]),[.code (cw Tryz.f102 [0]),.code (cw Tryz.f102 [1])],[],none⟩,⟨135,29,.leaf,[.ops (ow Tryz.f135 [1,1,1,1]) ((ow Tryz.f135 [1,1,1,1]).toList.drop 4)],[],none⟩,⟨57,101,(en [(6,.ptr 1 0),(10,.ptr 0 0),(13,vi p.d2)]),[.ll (ow Tryz.f57 [1,1,1,1,0,0,1,1,1,1,1,0]) [0,0,0,4,0,16,48,124,255] 8 [] [],.inBlock 1,.code (cw Tryz.f57 [1,1,1,1,1])],[],none⟩],[.flat false [vi p.d3.1,vi p.d3.2.1,vi p.d3.2.2.1.1,vi p.d3.2.2.1.2.1,vi p.d3.2.2.1.2.2.1,vi p.d3.2.2.1.2.2.2.1,vi p.d3.2.2.1.2.2.2.2,vi p.d3.2.2.2.1.1,vi p.d3.2.2.2.1.2.1,vi p.d3.2.2.2.1.2.2.1,vi p.d3.2.2.2.1.2.2.2.1,vi p.d3.2.2.2.1.2.2.2.2.1,vi p.d3.2.2.2.1.2.2.2.2.2.1,vi p.d3.2.2.2.1.2.2.2.2.2.2,vi p.d3.2.2.2.2.1,vb p.d3.2.2.2.2.2.1,vi p.d3.2.2.2.2.2.2.1,vi p.d3.2.2.2.2.2.2.2.1,.sl yU p.d3.2.2.2.2.2.2.2.2.1,.sl df p.d3.2.2.2.2.2.2.2.2.2.1,vi p.d3.2.2.2.2.2.2.2.2.2.2.1,vi p.d3.2.2.2.2.2.2.2.2.2.2.2],.flat false [vi p.d4.1,vi p.d4.2.1,vi p.d4.2.2.1,vi p.d4.2.2.2.1,vi p.d4.2.2.2.2.1,vi p.d4.2.2.2.2.2.1,vi p.d4.2.2.2.2.2.2,vi p.d5.1,vi p.d5.2.1,vi p.d5.2.2.1,vi p.d5.2.2.2.1,vi p.d5.2.2.2.2.1,vi p.d5.2.2.2.2.2.1,vi p.d5.2.2.2.2.2.2,vi p.d6,vb p.d7,vi p.d8,vi p.d9,.bK true,.bK true,vi p.fO,vi p.gY],.dead]⟩
 | .c4 p=>⟨[⟨102,24,(en [(0,.agg [vi p.e0.1,vi p.e0.2.1,vi p.e0.2.2.1,vi p.e0.2.2.2.1,vi p.e0.2.2.2.2.1,vi p.e0.2.2.2.2.2.1,.sl .bool p.e0.2.2.2.2.2.2.1,.sl aX p.e0.2.2.2.2.2.2.2]),(1,.ptr 0 0),(2,vi p.e1)]),[.code (cw Tryz.f102 [0]),.code (cw Tryz.f102 [1])],[],none⟩,⟨135,29,.leaf,[.ops (ow Tryz.f135 [1,1,1,1]) ((ow Tryz.f135 [1,1,1,1]).toList.drop 4)],[],none⟩,⟨57,101,(en [(6,.ptr 1 0),(10,.ptr 0 0),(13,vi p.e2)]),[.ops (ow Tryz.f57 [1,1,1,1,0,0,1,1,1,1,1,1,1,0]) ((ow Tryz.f57 [1,1,1,1,0,0,1,1,1,1,1,1,1,0]).toList.drop 4),.inBlock 1,.code (cw Tryz.f57 [1,1,1,1,1])],[],none⟩],[.flat false [vi p.e3.1,vi p.e3.2.1,vi p.e3.2.2.1.1,vi p.e3.2.2.1.2.1,vi p.e3.2.2.1.2.2.1,vi p.e3.2.2.1.2.2.2.1,vi p.e3.2.2.1.2.2.2.2,vi p.e3.2.2.2.1.1,vi p.e3.2.2.2.1.2.1,vi p.e3.2.2.2.1.2.2.1,vi p.e3.2.2.2.1.2.2.2.1,vi p.e3.2.2.2.1.2.2.2.2.1,vi p.e3.2.2.2.1.2.2.2.2.2.1,vi p.e3.2.2.2.1.2.2.2.2.2.2,vi p.e3.2.2.2.2.1,vb p.e3.2.2.2.2.2.1,vi p.e3.2.2.2.2.2.2.1,vi p.e3.2.2.2.2.2.2.2.1,.sl yU p.e3.2.2.2.2.2.2.2.2.1,.sl df p.e3.2.2.2.2.2.2.2.2.2.1,vi p.e3.2.2.2.2.2.2.2.2.2.2.1,vi p.e3.2.2.2.2.2.2.2.2.2.2.2],.flat false [vi p.e4.1,vi p.e4.2.1,vi p.e4.2.2.1,vi p.e4.2.2.2.1,vi p.e4.2.2.2.2.1,vi p.e4.2.2.2.2.2.1,vi p.e4.2.2.2.2.2.2,vi p.e5.1,vi p.e5.2.1,vi p.e5.2.2.1,vi p.e5.2.2.2.1,vi p.e5.2.2.2.2.1,vi p.e5.2.2.2.2.2.1,vi p.e5.2.2.2.2.2.2,vi p.e6,vb p.e7,vi p.e8,vi p.e9,.bK true,.bK true,vi p.e10,vi p.e11],.dead]⟩
def Ps(A:bi)(m:ak)(n:Node)(seen:List Seen):LT (Node×Int×Bool×Int) NF:=.need (A.k (@tt (ak×Node×Bool)) (m,n,(A.c .eql n.2.1 1))) (.br (A.c .neq (A.k aI (m,n,(A.c .eql n.2.1 1))).2 0) (.ret ((0,0,(0,0,0,0,0),(0,0,0,0,0,0,0),0,false,0,0,([]:List Int),([]:List bW),0,0),0,false,(A.k aI (m,n,(A.c .eql n.2.1 1))).2)) (.br (A.c .neq (A.l seen) 2) (.ret ((0,0,(0,0,0,0,0),(0,0,0,0,0,0,0),0,false,0,0,([]:List Int),([]:List bW),0,0),0,false,2)) (.need (A.k (@tt (Int×List Seen)) (m.1,seen)) (.br (A.not (A.k iF (m.1,seen)).2.2) (.ret ((A.k aI (m,n,(A.c .eql n.2.1 1))).1,0,false,0)) (.br (A.c .eql (A.k iF (m.1,seen)).1.1 1) (.br (A.c .eql (A.k iF (m.1,seen)).1.2.2.2.1 (A.k aI (m,n,(A.c .eql n.2.1 1))).1.1) (.ret ((A.k aI (m,n,(A.c .eql n.2.1 1))).1,0,false,0)) (.more (.c0 ⟨(A.k iF (m.1,seen)).2.1,m,(0,0,0,0,0,0,0),(0,0,0,0,0,0,0),0,false,0,0,0,0,(A.k aI (m,n,(A.c .eql n.2.1 1))).1,(A.k iF (m.1,seen)).1⟩))) (.more (.c0 ⟨(A.k iF (m.1,seen)).2.1,m,(0,0,0,0,0,0,0),(0,0,0,0,0,0,0),0,false,0,0,0,0,(A.k aI (m,n,(A.c .eql n.2.1 1))).1,(A.k iF (m.1,seen)).1⟩)))))))
def uo(A:bi):NF→LT (Node×Int×Bool×Int) NF
 | .c0 p=>.br (A.c .eql p.dP.1 1) (.br (A.not p.bH.2.2.2.2.2.1) (.need (A.k (@tt (ak×Int)) (p.a1,p.bH.1)) (.ret ((p.bH.1,p.bH.2.1,p.bH.2.2.1,p.bH.2.2.2.1,(A.k qm (p.a1,p.bH.1)),true,p.bH.2.2.2.2.2.2),p.a0,false,0))) (.br (A.c .eql p.dP.1 1) (.need (A.c .leq 0 p.dP.2.2.2.1) (.more (.c1 ⟨p.a1,p.dP,(0,p.dP.2.2.2.1,0,0,(A.b .shl .i64 1 p.dP.2.2.2.1)),p.a0,p.bH,p.a2,p.a3,p.a4,p.a5,p.a6,p.a7,p.a8,p.a9⟩))) (.need (A.k (@tt (ak×Node×gT)) (p.a1,p.bH,p.dP)) (.br (A.k FT (p.a1,p.bH,p.dP)) (.more (.c2 ⟨p.a1,p.dP,p.dP.2.2.1,p.a0,p.bH,p.a2,p.a3,p.a4,p.a5,p.a6,p.a7,p.a8,p.a9⟩)) (.ret (p.bH,0,false,0)))))) (.br (A.c .eql p.dP.1 1) (.need (A.c .leq 0 p.dP.2.2.2.1) (.more (.c1 ⟨p.a1,p.dP,(0,p.dP.2.2.2.1,0,0,(A.b .shl .i64 1 p.dP.2.2.2.1)),p.a0,p.bH,p.a2,p.a3,p.a4,p.a5,p.a6,p.a7,p.a8,p.a9⟩))) (.need (A.k (@tt (ak×Node×gT)) (p.a1,p.bH,p.dP)) (.br (A.k FT (p.a1,p.bH,p.dP)) (.more (.c2 ⟨p.a1,p.dP,p.dP.2.2.1,p.a0,p.bH,p.a2,p.a3,p.a4,p.a5,p.a6,p.a7,p.a8,p.a9⟩)) (.ret (p.bH,0,false,0)))))
 | .c1 p=>.br (A.c .eql p.b1.1 4) (.need (A.k (@tt (cf×Int×List Int)) (p.b4.2.2.2.2.2.2.2,p.b2.2.1,p.b1.2.2.2.2)) (.need (A.k (@tt (cf×Int×List Int)) (p.b4.2.2.2.2.2.2.2,p.b2.2.1,p.b1.2.2.2.2)) (.br (A.c .eql (A.k k6 (p.b4.2.2.2.2.2.2.2,p.b2.2.1,p.b1.2.2.2.2)).2 0) (.more (.c3 ⟨p.b0,p.b1.2.1,p.b3,(p.b4.1,3,p.b2,(p.b4.1,p.b0.1,p.b2.2.2.2.2,1,0,0,0),0,false,0,(A.k k6 (p.b4.2.2.2.2.2.2.2,p.b2.2.1,p.b1.2.2.2.2)).1),p.b5,p.b6,p.b7,p.b8,p.b9,p.b10,p.b11,p.b12⟩)) (.more (.c3 ⟨p.b0,p.b1.2.1,p.b3,(p.b4.1,3,p.b2,(p.b4.1,p.b0.1,p.b2.2.2.2.2,1,0,0,0),0,false,0,p.b4.2.2.2.2.2.2.2),p.b5,p.b6,p.b7,p.b8,p.b9,p.b10,p.b11,p.b12⟩))))) (.more (.c3 ⟨p.b0,p.b1.2.1,p.b3,(p.b4.1,3,p.b2,(p.b4.1,p.b0.1,p.b2.2.2.2.2,1,0,0,0),0,false,0,p.b4.2.2.2.2.2.2.2),p.b5,p.b6,p.b7,p.b8,p.b9,p.b10,p.b11,p.b12⟩))
 | .c2 p=>.br (A.c .eql p.c1.1 4) (.need (A.k (@tt (cf×Int×List Int)) (p.c4.2.2.2.2.2.2.2,p.c2.2.1,p.c1.2.2.2.2)) (.need (A.k (@tt (cf×Int×List Int)) (p.c4.2.2.2.2.2.2.2,p.c2.2.1,p.c1.2.2.2.2)) (.br (A.c .eql (A.k k6 (p.c4.2.2.2.2.2.2.2,p.c2.2.1,p.c1.2.2.2.2)).2 0) (.more (.c4 ⟨p.c0,p.c1.2.1,p.c3,(p.c4.1,3,p.c2,(p.c4.1,p.c0.1,p.c2.2.2.2.2,1,0,0,0),0,false,0,(A.k k6 (p.c4.2.2.2.2.2.2.2,p.c2.2.1,p.c1.2.2.2.2)).1),p.c5,p.c6,p.c7,p.c8,p.c9,p.c10,p.c11,p.c12⟩)) (.more (.c4 ⟨p.c0,p.c1.2.1,p.c3,(p.c4.1,3,p.c2,(p.c4.1,p.c0.1,p.c2.2.2.2.2,1,0,0,0),0,false,0,p.c4.2.2.2.2.2.2.2),p.c5,p.c6,p.c7,p.c8,p.c9,p.c10,p.c11,p.c12⟩))))) (.more (.c4 ⟨p.c0,p.c1.2.1,p.c3,(p.c4.1,3,p.c2,(p.c4.1,p.c0.1,p.c2.2.2.2.2,1,0,0,0),0,false,0,p.c4.2.2.2.2.2.2.2),p.c5,p.c6,p.c7,p.c8,p.c9,p.c10,p.c11,p.c12⟩))
 | .c3 p=>.need (A.k (@tt (ak×dq×Int)) (p.d0,p.d3.2.2.1,p.d1)) (.need (A.k (@tt (ak×dq×Int)) (p.d0,p.d3.2.2.1,p.d1)) (.br (A.c .eql (A.k gi (p.d0,p.d3.2.2.1,p.d1)).2 0) (.ret ((p.d3.1,p.d3.2.1,(A.k gi (p.d0,p.d3.2.2.1,p.d1)).1,p.d3.2.2.2),p.d2,true,0)) (.ret (p.d3,p.d2,true,0))))
 | .c4 p=>.need (A.k (@tt (ak×dq×Int)) (p.e0,p.e3.2.2.1,p.e1)) (.need (A.k (@tt (ak×dq×Int)) (p.e0,p.e3.2.2.1,p.e1)) (.br (A.c .eql (A.k gi (p.e0,p.e3.2.2.1,p.e1)).2 0) (.ret ((p.e3.1,p.e3.2.1,(A.k gi (p.e0,p.e3.2.2.1,p.e1)).1,p.e3.2.2.2),p.e2,true,0)) (.ret (p.e3,p.e2,true,0))))
theorem Ec{m:ak}{n:Node}{f:gT}(hn:aS m n=0)(hf:eX f=true)(hj:BU m n f=true):(jh n.2.2.2.2.2.2.2 f.2.2.1.2.1 f.2.2.2.2).2=0:=by
 have hd:=bF.1 (aP hn).2
 simp only[BU,Bool.and_eq_true,kh,decide_eq_true_eq] at hj
 have hk:=ki hj.2.2.2.1
 simp only[eX,Bool.and_eq_true,decide_eq_true_eq] at hf
 have h8:=hf.1.2
 have e6:=hd.2.2.2.2.2.1
 rw[jh,hd.2.2.2.1,decide_eq_true (show 0≤f.2.2.1.2.1∧f.2.2.1.2.1≤(n.2.2.2.2.2.2.2.2.2.1.length:Int)-1 by rw[e6];exact hk.2.1),decide_eq_false (show ¬8<(f.2.2.2.2.length:Int) by omega)]
 rfl
theorem Qm{p:JN}:aA (uo aj) (.more (.c3 p)) ((p.d3.1,p.d3.2.1,eY p.d0 p.d3.2.2.1 p.d1,p.d3.2.2.2),p.d2,true,0):=by
 rw[al,uo]
 refine af.2 ⟨rfl,?_⟩
 repeat' (refine af.2 ⟨rfl,?_⟩)
 refine ax (p:=(l5 p.d0 p.d3.2.2.1 p.d1).2=0) aH (fun h=>?_) fun h=>?_
 ·exact ay (by rw[eY,decide_eq_true h];rfl) (.ret _)
 ·exact ay (by rw[eY,decide_eq_false h];rfl) (.ret _)
theorem Ic{p:JU}:aA (uo aj) (.more (.c4 p)) ((p.e3.1,p.e3.2.1,eY p.e0 p.e3.2.2.1 p.e1,p.e3.2.2.2),p.e2,true,0):=by
 rw[al,uo]
 refine af.2 ⟨rfl,?_⟩
 repeat' (refine af.2 ⟨rfl,?_⟩)
 refine ax (p:=(l5 p.e0 p.e3.2.2.1 p.e1).2=0) aH (fun h=>?_) fun h=>?_
 ·exact ay (by rw[eY,decide_eq_true h];rfl) (.ret _)
 ·exact ay (by rw[eY,decide_eq_false h];rfl) (.ret _)
theorem Tg{p:Ke}(h:p.b1.1=1):aA (uo aj) (.more (.c1 p)) (jW p.b0 p.b4 p.b2 p.b1,p.b3,true,0):=by
 rw[al,uo]
 refine(ah (by rw[aH];exact decide_eq_false (by omega))).2 (ay ?_ Qm)
 rw[jW,decide_eq_false (show ¬p.b1.1=4 by omega)]
 rfl
theorem RG{p:I9}(h:p.c1.1=4→(jh p.c4.2.2.2.2.2.2.2 p.c2.2.1 p.c1.2.2.2.2).2=0):aA (uo aj) (.more (.c2 p)) (jW p.c0 p.c4 p.c2 p.c1,p.c3,true,0):=by
 rw[al,uo]
 refine ax (p:=p.c1.1=4) aH (fun g=>af.2 ⟨rfl,?_⟩) fun g=>ay (by rw[jW,decide_eq_false g];rfl) Ic
 repeat' (refine af.2 ⟨rfl,?_⟩)
 exact(ai (ug (h g))).2 (ay (by rw[jW,decide_eq_true g];rfl) Ic)
theorem R6{p:I7}{m:ak}{n:Node}{f:gT}{t:Int}(h0:p.a0=t)(h1:p.a1=m)(h2:p.bH=n)(hf:p.dP=f)(hl:0≤f.2.2.2.1)(hd:BU m n f=true→(jh n.2.2.2.2.2.2.2 f.2.2.1.2.1 f.2.2.2.2).2=0):aA (uo aj) (.more (.c0 p)) (bif decide (f.1=1) then(bif !n.2.2.2.2.2.1 then((n.1,n.2.1,n.2.2.1,n.2.2.2.1,(jZ m n.1).1,true,n.2.2.2.2.2.2),t,false,0) else(jW m n (0,f.2.2.2.1,0,0,aj.b .shl .i64 1 f.2.2.2.1) f,t,true,0)) else bif BU m n f then(jW m n f.2.2.1 f,t,true,0) else(n,0,false,0)):=by
 rw[al,uo,h0,h1,h2,hf]
 refine ax (p:=f.1=1) aH (fun h=>?_) fun h=>?_
 ·rw[decide_eq_true h,cond_true]
  cases hb:n.2.2.2.2.2.1
  ·exact(ai rfl).2 (af.2 ⟨rfl,.ret _⟩)
  ·exact(ah rfl).2 ((ai (by rw[aH];exact decide_eq_true h)).2 (af.2 ⟨decide_eq_true hl,Tg h⟩))
 ·rw[decide_eq_false h,cond_false]
  refine(ah (by rw[aH];exact decide_eq_false h)).2 (af.2 ⟨rfl,?_⟩)
  rw[show aj.k FT (m,n,f)=BU m n f from rfl]
  cases hj:BU m n f
  ·exact(ah rfl).2 (.ret _)
  ·exact(ai rfl).2 (RG fun _=>hd hj)
theorem Vi{m:ak}{n:Node}{seen:List Seen}:aA (uo aj) (Ps aj m n seen) (nH m n seen true):=by
 unfold Ps nH
 refine af.2 ⟨rfl,?_⟩
 rw[show aj.k aI (m,n,aj.c .eql n.2.1 1)=gu m n (aj.c .eql n.2.1 1) from rfl,aH,gu]
 by_cases h:aS m n=0
 ·rw[decide_eq_true h,cond_true,cond_true]
  cases decide (n.2.1=1)
  ·exact(ai rfl).2 (.ret _)
  rw[cond_true,cond_true]
  refine(ah rfl).2 (ax (p:=¬(seen.length:Int)=2) aT (fun h2=>ay (by rw[decide_eq_false h2];rfl) (.ret _)) fun h2=>af.2 ⟨rfl,?_⟩)
  rw[decide_eq_true (Decidable.not_not.1 h2),cond_true,show aj.k iF (m.1,seen)=eU m.1 seen from rfl]
  cases he:(eU m.1 seen).2.2
  ·exact(ai rfl).2 (.ret _)
  obtain⟨e1,e2,e3⟩:=EE he
  have hl:=Ek e3
  have nx:=fun {a b c d e g i j}=>R6 (p:=⟨(eU m.1 seen).2.1,m,a,b,c,d,e,g,i,j,n,(eU m.1 seen).1⟩) (m:=m) (n:=n) (f:=(eU m.1 seen).1) (t:=(eU m.1 seen).2.1) rfl rfl rfl rfl hl.1 (Ec h e3)
  generalize eU m.1 seen=x at *
  refine(ah rfl).2 (ax (p:=x.1.1=1) aH (fun h3=>ax (p:=x.1.2.2.2.1=n.1) aH (fun h4=>?_) fun h4=>?_) fun h3=>?_)
  ·exact ay (by rw[decide_eq_true h3,decide_eq_true h4];rfl) (.ret _)
  ·rw[decide_eq_true h3] at nx
   rw[decide_eq_true h3,decide_eq_false h4,cond_true,cond_true,cond_false,Bool.true_and]
   exact nx
  ·rw[decide_eq_false h3] at nx
   rw[decide_eq_false h3,cond_true,cond_false]
   exact nx
 ·rw[decide_eq_false h];exact(ai (fT h)).2 (.ret _)
def lM:(ak×Node×List Seen)→(Node×Int×Bool×Int):=fun(m,n,s)=>nH m n s true
def Xg:aD:=⟨[bd,aQ,(.slice dA)], [aQ,yI,.bool,yI],(@tt (ak×Node×List Seen)),lM⟩
theorem Pe:Sd 57 Xg:=aL au cK true 93 [] [⟨57,10, [[3,6,10,12,13]]⟩,⟨102,0, [[0,1,2], [], [6,10,13]]⟩,⟨135,0, [[0,1,2,3], [6,10,13]]⟩] (fun A (m,n,seen)=>Ps A m n seen) uo Tl (fc Tryz.func57 (fc Tryz.func75 (fc Tryz.func101 (fc Tryz.func102 (fc Tryz.func135 fz))))) (sc tL (sc Oy (sc Dc (sc U1 (sc Fb (sc zA sz)))))) (fun A y=>match y with |.c0 p=>⟨42,by kernel_rfl,by kernel_rfl⟩|.c1 p=>⟨125,by kernel_rfl,by kernel_rfl⟩|.c2 p=>⟨125,by kernel_rfl,by kernel_rfl⟩|.c3 p=>⟨51,by kernel_rfl,by kernel_rfl⟩|.c4 p=>⟨51,by kernel_rfl,by kernel_rfl⟩) fun(m,n,seen) hp h=>Vi
open Go.Ev.Pl
instance:DecidableEq bW:=inferInstanceAs (DecidableEq (List Int×Int))
instance:DecidableEq dq:=inferInstanceAs (DecidableEq (Int×Int×Int×Int×Int))
instance:DecidableEq gh:=inferInstanceAs (DecidableEq (Int×Int×Int×Int×Int×Int×Int))
instance:DecidableEq cf:=inferInstanceAs (DecidableEq (Int×List Int×List bW×Int×Int))
def Wb:DecidableEq (Int×Bool×Int×cf):=inferInstance
def Xy:DecidableEq (dq×gh×Int×Bool×Int×cf):=have:=Wb;inferInstance
instance:DecidableEq Node:=have:=Xy;inferInstanceAs (DecidableEq (Int×Int×(dq×gh×Int×Bool×Int×cf)))
def MQ(A:bi)(id:Int):LT (List Seen) Empty:=.need (A.k (@tt ((Int×Int×(Int×Int×Int×Int×Int)×Int×List Int))) (1,0,(0,0,0,0,0),id,([]:List Int))) (.ret [(2,9,(A.k oX (1,0,(0,0,0,0,0),id,([]:List Int))).1),(0,0,0,([]:List Int))])
def xw:Int→(List Seen):=fun id=>(MQ aj id).val (Ty.bZ [(.slice dA)])
def VI:aD:=⟨[yI], [(.slice dA)],(@tt Int),xw⟩
theorem Z2:Sd 61 VI:=aM au cK true 30 [] (fun A id=>MQ A id) (fc Tryz.func61 fz) (sc RJ sz) (fun(id:Int) hp h=>by
 show(MQ aj id).pre=true
 simp[MQ,LT.pre,ap,cN])
def Me(A:bi)(n:Node):LT Bool Empty:=.ret (A.c .leq (A.l n.2.2.2.2.2.2.2.2.2.1) 20)
def pg:Node→Bool:=fun n=>(Me aj n).val (Ty.bZ [.bool])
def WV:aD:=⟨[aQ], [.bool],(@tt Node),pg⟩
theorem Ox:Sd 15 WV:=aM au cK true 20 [] (fun A n=>Me A n) (fc Tryz.func15 fz) sz (fun(n:Node) hp h=>by
 show(Me aj n).pre=true
 simp[Me,LT.pre,ap,cN])
def Nj(A:bi)(l:List Seen):LT (List Seen) Empty:=.need (A.and (A.c .leq 0 0) (A.and (A.c .leq 0 (A.mn (A.l l) 9)) (A.c .leq (A.mn (A.l l) 9) (A.l l)))) (.ret (A.s l 0 (A.mn (A.l l) 9)))
theorem LG{l:List Seen}:aj.and (aj.c .leq 0 0) (aj.and (aj.c .leq 0 (aj.mn (aj.l l) 9)) (aj.c .leq (aj.mn (aj.l l) 9) (aj.l l)))=true:=by
 rw[ko,pT,aB,aB,aB,aR,aR]
 split<;>simp<;>omega
def Jy:(List Seen)→(List Seen):=fun l=>(Nj aj l).val (Ty.bZ [(.slice dA)])
def VE:aD:=⟨[(.slice dA)], [(.slice dA)],(@tt (List Seen)),Jy⟩
theorem Ui:Sd 39 VE:=aM au cK true 19 [] (fun A l=>Nj A l) (fc Tryz.func39 fz) sz (fun(l:List Seen) hp h=>by
 show(Nj aj l).pre=true
 simp only[Nj,LT.pre];exact(Bool.and_true _).trans (LG (l:=l)))
structure SY where
 (a0 a1 a2 a3 a4 a5 a6 a7 a8 a9:Int) (bH:Node) (dP:List Bool) (a12:List Int) (jw iv:List Bool)
inductive NI where
 | c0 (p:SY)
noncomputable def R5:NI→gB
 | .c0 p=>⟨[⟨14,64,(en [(1,.ptr 0 0),(2,vi p.a0),(3,.ptr 1 0),(4,vi p.a1)]),[.code (cw Tryz.f14 [1,1,1,0]),.code (cw Tryz.f14 [1,1,1,1])],[],none⟩],[.flat false [vi p.a2,vi p.a3,vi p.a4,vi p.a5,vi p.a6,vi p.a7,.own 2,.lm 3 3 false p.a8 p.a9],.flat false [vi p.bH.1,vi p.bH.2.1,vi p.bH.2.2.1.1,vi p.bH.2.2.1.2.1,vi p.bH.2.2.1.2.2.1,vi p.bH.2.2.1.2.2.2.1,vi p.bH.2.2.1.2.2.2.2,vi p.bH.2.2.2.1.1,vi p.bH.2.2.2.1.2.1,vi p.bH.2.2.2.1.2.2.1,vi p.bH.2.2.2.1.2.2.2.1,vi p.bH.2.2.2.1.2.2.2.2.1,vi p.bH.2.2.2.1.2.2.2.2.2.1,vi p.bH.2.2.2.1.2.2.2.2.2.2,vi p.bH.2.2.2.2.1,vb p.bH.2.2.2.2.2.1,vi p.bH.2.2.2.2.2.2.1,vi p.bH.2.2.2.2.2.2.2.1,.sl yU p.bH.2.2.2.2.2.2.2.2.1,.sl df p.bH.2.2.2.2.2.2.2.2.2.1,vi p.bH.2.2.2.2.2.2.2.2.2.2.1,vi p.bH.2.2.2.2.2.2.2.2.2.2.2],.arr true .bool p.dP,.flat true [.sl yI p.a12,.sl .bool p.jw,.sl .bool p.iv],.dead]⟩
def Tc(A:bi):LT Bool NI:=.need (A.c .leq (A.l ([true]:List Bool)) 140737488355328) (.need (A.c .leq (A.l ([2]:List Int)) 17592186044416) (.need (A.c .leq (A.l ([true]:List Bool)) 140737488355328) (.need (A.c .leq (A.l (A.p [true] [true])) 140737488355328) (.need (A.c .leq (A.l (A.p ([2]:List Int) ([2]:List Int))) 17592186044416) (.need (A.c .leq (A.l (A.p [true] [true])) 140737488355328) (.need (A.c .leq (A.l (A.p (A.p [true] [true]) [true])) 140737488355328) (.need (A.c .leq (A.l (A.p (A.p ([2]:List Int) ([2]:List Int)) ([2]:List Int))) 17592186044416) (.need (A.c .leq (A.l (A.p (A.p [true] [true]) [true])) 140737488355328) (.need (A.c .leq (A.l (A.p (A.p (A.p [true] [true]) [true]) [true])) 140737488355328) (.need (A.c .leq (A.l (A.p (A.p (A.p ([2]:List Int) ([2]:List Int)) ([2]:List Int)) ([2]:List Int))) 17592186044416) (.need (A.c .leq (A.l (A.p (A.p (A.p [true] [true]) [true]) [true])) 140737488355328) (.need (A.k (@tt ak) (4,0,38,16,0,1,(A.p (A.p (A.p [true] [true]) [true]) [true]), [((A.p (A.p (A.p ([2]:List Int) ([2]:List Int)) ([2]:List Int)) ([2]:List Int)),(A.p (A.p (A.p [true] [true]) [true]) [true]), [true])])) (.need (A.k (@tt (ak×Int)) ((4,(A.b .add .i64 76 (A.k rv (4,0,38,16,0,1,(A.p (A.p (A.p [true] [true]) [true]) [true]), [((A.p (A.p (A.p ([2]:List Int) ([2]:List Int)) ([2]:List Int)) ([2]:List Int)),(A.p (A.p (A.p [true] [true]) [true]) [true]), [true])]))),38,16,0,1,(A.p (A.p (A.p [true] [true]) [true]) [true]), [((A.p (A.p (A.p ([2]:List Int) ([2]:List Int)) ([2]:List Int)) ([2]:List Int)),(A.p (A.p (A.p [true] [true]) [true]) [true]), [true])]),1)) (.more (.c0 ⟨0,(A.k Co ((4,(A.b .add .i64 76 (A.k rv (4,0,38,16,0,1,(A.p (A.p (A.p [true] [true]) [true]) [true]), [((A.p (A.p (A.p ([2]:List Int) ([2]:List Int)) ([2]:List Int)) ([2]:List Int)),(A.p (A.p (A.p [true] [true]) [true]) [true]), [true])]))),38,16,0,1,(A.p (A.p (A.p [true] [true]) [true]) [true]), [((A.p (A.p (A.p ([2]:List Int) ([2]:List Int)) ([2]:List Int)) ([2]:List Int)),(A.p (A.p (A.p [true] [true]) [true]) [true]), [true])]),1)).2,4,(A.b .add .i64 76 (A.k rv (4,0,38,16,0,1,(A.p (A.p (A.p [true] [true]) [true]) [true]), [((A.p (A.p (A.p ([2]:List Int) ([2]:List Int)) ([2]:List Int)) ([2]:List Int)),(A.p (A.p (A.p [true] [true]) [true]) [true]), [true])]))),38,16,0,1,0,1,(A.k Co ((4,(A.b .add .i64 76 (A.k rv (4,0,38,16,0,1,(A.p (A.p (A.p [true] [true]) [true]) [true]), [((A.p (A.p (A.p ([2]:List Int) ([2]:List Int)) ([2]:List Int)) ([2]:List Int)),(A.p (A.p (A.p [true] [true]) [true]) [true]), [true])]))),38,16,0,1,(A.p (A.p (A.p [true] [true]) [true]) [true]), [((A.p (A.p (A.p ([2]:List Int) ([2]:List Int)) ([2]:List Int)) ([2]:List Int)),(A.p (A.p (A.p [true] [true]) [true]) [true]), [true])]),1)).1,(A.p (A.p (A.p [true] [true]) [true]) [true]),(A.p (A.p (A.p ([2]:List Int) ([2]:List Int)) ([2]:List Int)) ([2]:List Int)),(A.p (A.p (A.p [true] [true]) [true]) [true]), [true]⟩)))))))))))))))
def P5(A:bi):NI→LT Bool NI
 | .c0 p=>.need (A.k (@tt (ak×Node×Bool)) ((p.a2,p.a3,p.a4,p.a5,p.a6,p.a7,p.dP,(A.s [(p.a12,p.jw,p.iv)] p.a8 (A.b .add .i64 p.a8 p.a9))),p.bH,true)) (.need (A.k (@tt Int) 2) (.need (A.k (@tt (ak×Node×List Seen)) ((p.a2,p.a3,p.a4,p.a5,p.a6,p.a7,p.dP,(A.s [(p.a12,p.jw,p.iv)] p.a8 (A.b .add .i64 p.a8 p.a9))),(A.k ou ((p.a2,p.a3,p.a4,p.a5,p.a6,p.a7,p.dP,(A.s [(p.a12,p.jw,p.iv)] p.a8 (A.b .add .i64 p.a8 p.a9))),p.bH,true)).1,(A.k xw 2))) (.br (A.c .eql p.a0 0) (.br (A.c .eql p.a1 0) (.br (A.c .eql (A.k ou ((p.a2,p.a3,p.a4,p.a5,p.a6,p.a7,p.dP,(A.s [(p.a12,p.jw,p.iv)] p.a8 (A.b .add .i64 p.a8 p.a9))),p.bH,true)).2 0) (.br (A.c .eql (A.k lM ((p.a2,p.a3,p.a4,p.a5,p.a6,p.a7,p.dP,(A.s [(p.a12,p.jw,p.iv)] p.a8 (A.b .add .i64 p.a8 p.a9))),(A.k ou ((p.a2,p.a3,p.a4,p.a5,p.a6,p.a7,p.dP,(A.s [(p.a12,p.jw,p.iv)] p.a8 (A.b .add .i64 p.a8 p.a9))),p.bH,true)).1,(A.k xw 2))).2.2.2 0) (.br (A.c .eql (A.k lM ((p.a2,p.a3,p.a4,p.a5,p.a6,p.a7,p.dP,(A.s [(p.a12,p.jw,p.iv)] p.a8 (A.b .add .i64 p.a8 p.a9))),(A.k ou ((p.a2,p.a3,p.a4,p.a5,p.a6,p.a7,p.dP,(A.s [(p.a12,p.jw,p.iv)] p.a8 (A.b .add .i64 p.a8 p.a9))),p.bH,true)).1,(A.k xw 2))).2.1 9) (.br (A.not (A.k lM ((p.a2,p.a3,p.a4,p.a5,p.a6,p.a7,p.dP,(A.s [(p.a12,p.jw,p.iv)] p.a8 (A.b .add .i64 p.a8 p.a9))),(A.k ou ((p.a2,p.a3,p.a4,p.a5,p.a6,p.a7,p.dP,(A.s [(p.a12,p.jw,p.iv)] p.a8 (A.b .add .i64 p.a8 p.a9))),p.bH,true)).1,(A.k xw 2))).2.2.1) (.br (A.k lM ((p.a2,p.a3,p.a4,p.a5,p.a6,p.a7,p.dP,(A.s [(p.a12,p.jw,p.iv)] p.a8 (A.b .add .i64 p.a8 p.a9))),(A.k ou ((p.a2,p.a3,p.a4,p.a5,p.a6,p.a7,p.dP,(A.s [(p.a12,p.jw,p.iv)] p.a8 (A.b .add .i64 p.a8 p.a9))),p.bH,true)).1,(A.k xw 2))).1.2.2.2.2.2.1 (.ret (A.c .eql (A.k lM ((p.a2,p.a3,p.a4,p.a5,p.a6,p.a7,p.dP,(A.s [(p.a12,p.jw,p.iv)] p.a8 (A.b .add .i64 p.a8 p.a9))),(A.k ou ((p.a2,p.a3,p.a4,p.a5,p.a6,p.a7,p.dP,(A.s [(p.a12,p.jw,p.iv)] p.a8 (A.b .add .i64 p.a8 p.a9))),p.bH,true)).1,(A.k xw 2))).1.2.1 1)) (.ret false)) (.ret false)) (.ret false)) (.ret false)) (.ret false)) (.ret false)) (.ret false))))
theorem G1:aA (P5 aj) (Tc aj) true:=by
 unfold Tc
 repeat' (refine af.2 ⟨by kernel_rfl,?_⟩)
 rw[al,P5]
 repeat' (refine af.2 ⟨by kernel_rfl,?_⟩)
 refine(ai (by kernel_rfl)).2 ((ai (by kernel_rfl)).2 ((ai (by kernel_rfl)).2 ((ai (by kernel_rfl)).2 ((ai (by kernel_rfl)).2 ((ai (by kernel_rfl)).2 ((ai (by kernel_rfl)).2 (ay (by kernel_rfl) (.ret _))))))))
def ny:Unit→Bool:=fun _=>true
def Y3:aD:=⟨[], [.bool],(@tt Unit),ny⟩
theorem O8:Sd 14 Y3:=aL au cK true 313 [] [⟨14,3, [[1,2,3,4]]⟩] (fun A _=>Tc A) P5 R5 (fc Tryz.func14 (fc Tryz.func60 fz)) (sc Pm (sc Pe (sc OY (sc O0 (sc Z2 sz))))) (fun A y=>match y with |.c0 p=>⟨66,by kernel_rfl,by kernel_rfl⟩) fun _ hp h=>G1
end Go.Ev.M
