/-
  PROVED: what busctl.Hear and metronomeref18.Hear compute. Conditions: none.
-/
import Derived.Test.YtjceiokllpmnkaaGreatCb
import Derived.Test.YtjceiokllpmnkaaGreatDa
import Derived.Test.YtjceiokllpmnkaaGreatDb
import Derived.Test.YtjceiokllpmnkaaGreatKa
namespace Go.Ev.M
open Go.Proofs
set_option maxRecDepth 100000
set_option linter.unusedVariables false
set_option linter.unusedSimpArgs false
open Go.Ev.Pl
structure Ey where
 (a0:Int) (a1:List Seen) (a2:Int) (a4:sn) (a5:Int)
inductive IW where
 | c0 (p:Ey) (a3:Int)
noncomputable def M_:IW→f_
 | .c0 p a3=>⟨[⟨85,45,(en [(0,vi p.a0),(4,.ptr 0 0),(11,.sl aU p.a1),(12,vi p.a2),(13,vi a3)]),[.inLoop (cw Tryz.f85 [1,0,1,0,0]),.inBlock 0,.code (cw Tryz.f85 [1,1])],[],none⟩],[.flat false [vi p.a4.1,vi p.a4.2.1,vi p.a4.2.2.1,vi p.a4.2.2.2.1,vi p.a4.2.2.2.2.1,vi p.a4.2.2.2.2.2.1,vi p.a4.2.2.2.2.2.2,vi p.a5,.dp true],.dead]⟩
def Sn(A:bu)(n:Int)(seen:List Seen):LT (oz×Int×Bool) IW:=.more (.c0 ⟨n,seen,(A.l seen),(0,0,0,0,0,0,0),0⟩ 0)
def Dr(A:bu):IW→LT (oz×Int×Bool) IW
 | .c0 p a3=>.br (A.c .lss a3 p.a2) (.need (A.and (A.c .leq 0 a3) (A.c .lss a3 (A.l p.a1))) (.br (A.c .neq (A.n aU p.a1 a3:Seen).1 2) (.more (.c0 p (A.b .add .i64 a3 1))) (.need (A.k (@tt ((Int×List Int))) (A.n aU p.a1 a3:Seen).2.2) (.br (A.k yn (A.n aU p.a1 a3:Seen).2.2).2 (.need (A.k (@tt ((Int×Int×Int×Int×Int)×Int)) ((A.k yn (A.n aU p.a1 a3:Seen).2.2).1.2.2.1,p.a0)) (.br (A.c .eql (A.k jB ((A.k yn (A.n aU p.a1 a3:Seen).2.2).1.2.2.1,p.a0)) 0) (.br (A.c .lss (A.k yn (A.n aU p.a1 a3:Seen).2.2).1.2.2.2.1 p.a0) (.ret ((A.k yn (A.n aU p.a1 a3:Seen).2.2).1,(A.n aU p.a1 a3:Seen).2.1,true)) (.more (.c0 p (A.b .add .i64 a3 1)))) (.more (.c0 p (A.b .add .i64 a3 1))))) (.more (.c0 p (A.b .add .i64 a3 1))))))) (.ret ((0,0,(0,0,0,0,0),0,([]:List Int)),0,false))
def vF(n:Int)(s:Seen):Bool:=decide (s.1=2)&&(decide ((jY s.2.2).2=true)&&(decide (gI ((jY s.2.2).1.2.2.1,n)=0)&&decide ((jY s.2.2).1.2.2.2.1<n)))
def gn(n:Int):List Seen→oz×Int×Bool
 | []=>((0,0,(0,0,0,0,0),0,([]:List Int)),0,false)
 | s::l=>bif vF n s then((jY s.2.2).1,s.2.1,true) else gn n l
theorem M1{n:Int}{l:List Seen}(h:(gn n l).2.2=true):gI ((gn n l).1.2.2.1,n)=0∧(gn n l).1.2.2.2.1<n∧fF (gn n l).1=true:=by
 induction l with
 | nil=>exact absurd h (by simp[gn])
 | cons s l ih=>
   rw[gn] at h ⊢
   cases hx:vF n s
   ·rw[hx] at h;exact ih h
   ·simp only[vF,Bool.and_eq_true,decide_eq_true_eq] at hx
    exact⟨hx.2.2.1,hx.2.2.2,HZ hx.2.1⟩
theorem Pg{b:Bool}:b=decide (b=true):=by cases b<;>rfl
theorem Dq{p:Ey}{n:Int}{seen:List Seen}(h0:p.a0=n)(h1:p.a1=seen)(h2:p.a2=(seen.length:Int))(hl:seen.length≤140737488355328):∀(j i:Nat),seen.length-i=j→i≤seen.length→aD (Dr ah) (.more (.c0 p (i:Int))) (gn n (seen.drop i)):=by
 intro j
 induction j with
 | zero=>
   intro i hj hi
   have:i=seen.length:=by omega
   subst this
   rw[ak,Dr,h2,List.drop_length]
   exact(ai (by rw[ao];simp)).2 (.ret _)
 | succ j ih=>
   intro i hj hi
   have hi':i<seen.length:=by omega
   have nx:=ih (i+1) (by omega) (by omega)
   rw[ak,Dr,h0,h1,h2]
   refine(aj (by rw[ao];exact decide_eq_true (by omega))).2 (af.2 ⟨bH hi',?_⟩)
   rw[show(ah.n aU seen (i:Int):Seen)=seen[i] from getD_in hi' _,List.drop_eq_getElem_cons hi',gn,dI (i:=i) (by omega)]
   generalize seen[i]=s
   generalize gn n (seen.drop (i+1))=r at nx ⊢
   have hx:vF n s=false→aD (Dr ah) (.more (.c0 p ((i+1:Nat):Int))) (bif vF n s then((jY s.2.2).1,s.2.1,true) else r):=fun h=>aH (by rw[h];rfl) nx
   rw[show ah.k yn s.2.2=jY s.2.2 from Jq]
   refine aM (p:=¬s.1=2) bg (fun h=>hx (by rw[vF,decide_eq_false h];rfl)) fun g1=>af.2 ⟨rfl,?_⟩
   refine aM (p:=(jY s.2.2).2=true) Pg (fun g2=>af.2 ⟨rfl,?_⟩) fun h=>hx (by rw[vF,decide_eq_false h,Bool.false_and,Bool.and_false])
   refine aM (p:=gI ((jY s.2.2).1.2.2.1,n)=0) bT (fun g3=>?_) fun h=>hx (by rw[vF,decide_eq_false h,Bool.false_and,Bool.and_false,Bool.and_false])
   refine aM (p:=(jY s.2.2).1.2.2.2.1<n) rfl (fun g4=>?_) fun h=>hx (by rw[vF,decide_eq_false h,Bool.and_false,Bool.and_false,Bool.and_false])
   exact aH (by rw[vF,decide_eq_true (Decidable.not_not.1 g1),decide_eq_true g2,decide_eq_true g3,decide_eq_true g4];rfl) (.ret _)
theorem NU{n:Int}{seen:List Seen}(hl:seen.length≤140737488355328):aD (Dr ah) (Sn ah n seen) (gn n seen):=
 Dq (p:=⟨n,seen,(seen.length:Int),(0,0,0,0,0,0,0),0⟩) rfl rfl rfl hl seen.length 0 rfl (by omega)
def o5:(Int×List Seen)→(oz×Int×Bool):=fun(m,n)=>gn m n
def QT:aC:=⟨[yI,(.slice aU)], [Jj,yI,.bool],(@tt (Int×List Seen)),o5⟩
theorem Rm:Sd 85 QT:=aJ au dC true 21 [⟨85,2, [[0,4,11,12,13]]⟩] [] (fun A (n,seen)=>Sn A n seen) Dr M_ (fc Tryz.func85 fz) (sc XF (sc yb sz)) (fun A y=>match y with |.c0 p a3=>⟨70,by kernel_rfl,by kernel_rfl⟩) fun(n,seen) hp h=>NU h.2.1
def Mk(A:bu)(m:ap)(c:dM)(f:oz):LT Bool Empty:=.need (A.k (@tt (ap×Int×Int)) (m,c.2.2.1,c.2.1)) (.br (A.c .eql (A.k nI (m,c.2.2.1,c.2.1)).2 0) (.br (A.c .neq (A.k nI (m,c.2.2.1,c.2.1)).1 3) (.need (A.and (A.c .leq 0 c.2.2.1) (A.c .lss c.2.2.1 (A.l m.2.2.2.2.2.2.2))) (.need (A.and (A.c .leq 0 c.2.1) (A.c .lss c.2.1 (A.l (A.n bA m.2.2.2.2.2.2.2 c.2.2.1:Mode).1))) (.br (A.c .eql (A.k nI (m,c.2.2.1,c.2.1)).2 0) (.br (A.c .eql f.1 (A.k nI (m,c.2.2.1,c.2.1)).1) (.ret (A.c .eql (A.l f.2.2.2.2) (A.n yI (A.n bA m.2.2.2.2.2.2.2 c.2.2.1:Mode).1 c.2.1:Int))) (.ret false)) (.ret false)))) (.br (A.c .eql (A.k nI (m,c.2.2.1,c.2.1)).2 0) (.br (A.c .eql f.1 (A.k nI (m,c.2.2.1,c.2.1)).1) (.ret (A.c .eql (A.l f.2.2.2.2) 0)) (.ret false)) (.ret false))) (.br (A.c .eql (A.k nI (m,c.2.2.1,c.2.1)).2 0) (.br (A.c .eql f.1 (A.k nI (m,c.2.2.1,c.2.1)).1) (.ret (A.c .eql (A.l f.2.2.2.2) 0)) (.ret false)) (.ret false)))
def oh(m:ap)(c:dM)(f:oz):Bool:=decide ((iR m c.2.2.1 c.2.1).2=0)&&(decide (f.1=(iR m c.2.2.1 c.2.1).1)&&decide ((f.2.2.2.2.length:Int)=bif decide ((iR m c.2.2.1 c.2.1).1=3) then(0:Int) else(ah.n (.int .i64) (ah.n bA m.2.2.2.2.2.2.2 c.2.2.1:Mode).1 c.2.1:Int)))
theorem qL{m:ap}{k n:Int}(h:(iR m k n).2=0):dR m=true∧(0≤n∧n≤m.1-1)∧(0≤k∧k<dS m):=by
 unfold iR at h
 by_cases h1:iW m n=0
 ·obtain⟨a,b⟩:=wQ h1
  by_cases h2:0≤k∧k≤dS m-1
  ·exact⟨a,b,by omega⟩
  ·rw[decide_eq_true h1,decide_eq_false h2,cond_true,cond_false] at h;exact absurd h (by decide)
 ·rw[decide_eq_false h1,cond_false] at h;exact absurd h h1
theorem UX{m:ap}{c:dM}{f:oz}:aD Empty.elim (Mk ah m c f) (oh m c f):=by
 unfold Mk
 refine af.2 ⟨rfl,?_⟩
 rw[show ah.k nI (m,c.2.2.1,c.2.1)=iR m c.2.2.1 c.2.1 from rfl]
 by_cases h:(iR m c.2.2.1 c.2.1).2=0
 ·obtain⟨hm,hn,hk⟩:=qL h
  have hx:=(nf (tg hm hk.1 hk.2)).1
  have e:ah.c .eql (iR m c.2.2.1 c.2.1).2 0=true:=FP h
  rw[e,oh,decide_eq_true h,Bool.true_and]
  refine(aj rfl).2 (aM (p:=¬(iR m c.2.2.1 c.2.1).1=3) bg (fun g=>af.2 ⟨oP hk.1 hk.2,af.2 ⟨sT hx hn.1 (by omega),(aj rfl).2 ?_⟩⟩) fun g=>(aj rfl).2 ?_)
  ·rw[decide_eq_false g]
   refine aM (p:=f.1=(iR m c.2.2.1 c.2.1).1) bT (fun k=>?_) fun k=>?_
   ·exact aH (by rw[decide_eq_true k,kv];exact bT) (.ret _)
   ·exact aH (by rw[decide_eq_false k];rfl) (.ret _)
  ·rw[decide_eq_true (Decidable.not_not.1 g)]
   refine aM (p:=f.1=(iR m c.2.2.1 c.2.1).1) bT (fun k=>?_) fun k=>?_
   ·exact aH (by rw[decide_eq_true k,kv];exact bT) (.ret _)
   ·exact aH (by rw[decide_eq_false k];rfl) (.ret _)
 ·have e:ah.c .eql (iR m c.2.2.1 c.2.1).2 0=false:=Ps h
  rw[e,oh,decide_eq_false h]
  exact(ai rfl).2 ((ai rfl).2 (.ret _))
def Bh:(ap×dM×oz)→Bool:=fun(m,c,k)=>oh m c k
def Vf:aC:=⟨[c_,sD,Jj], [.bool],(@tt (ap×dM×oz)),Bh⟩
theorem Kg:Sd 50 Vf:=aQ au dC true 75 [] (fun A (m,c,f)=>Mk A m c f) (fc Tryz.func50 fz) (sc Oc sz) fun(m,c,f) hp h=>UX
def KR(A:bu)(m:ap)(n:Node)(f:oz):LT Bool Empty:=.need (A.k (@tt (ap×dM)) (m,f.2.2.1)) (.br (A.k Bf (m,f.2.2.1)) (.br (A.c .neq f.2.2.1.2.1 n.1) (.need (A.k (@tt (dM×Int)) (f.2.2.1,f.2.2.1.2.1)) (.br (A.k Gm (f.2.2.1,f.2.2.1.2.1)) (.need (A.k (@tt (ap×dM×oz)) (m,f.2.2.1,f)) (.ret (A.k Bh (m,f.2.2.1,f)))) (.ret false))) (.ret false)) (.ret false))
def G7(m:ap)(n:Node)(f:oz):Bool:=dK m f.2.2.1&&(decide (¬f.2.2.1.2.1=n.1)&&(Dy f.2.2.1 f.2.2.1.2.1&&oh m f.2.2.1 f))
theorem W4{m:ap}{n:Node}{f:oz}:aD Empty.elim (KR ah m n f) (G7 m n f):=by
 unfold KR G7
 refine af.2 ⟨rfl,?_⟩
 rw[show ah.k Bf (m,f.2.2.1)=dK m f.2.2.1 from rfl]
 cases dK m f.2.2.1
 ·exact(ai rfl).2 (.ret _)
 refine(aj rfl).2 (aM (p:=¬f.2.2.1.2.1=n.1) bg (fun h=>af.2 ⟨rfl,?_⟩) fun h=>aH (by rw[decide_eq_false h];rfl) (.ret _))
 rw[decide_eq_true h,show ah.k Gm (f.2.2.1,f.2.2.1.2.1)=Dy f.2.2.1 f.2.2.1.2.1 from rfl]
 cases Dy f.2.2.1 f.2.2.1.2.1
 ·exact(ai rfl).2 (.ret _)
 ·exact(aj rfl).2 (af.2 ⟨rfl,.ret _⟩)
def Bq:(ap×Node×oz)→Bool:=fun(m,c,k)=>G7 m c k
def Ve:aC:=⟨[c_,eE,Jj], [.bool],(@tt (ap×Node×oz)),Bq⟩
theorem UB:Sd 87 Ve:=aQ au dC true 44 [] (fun A (m,n,f)=>KR A m n f) (fc Tryz.func87 fz) (sc JL (sc Kg (sc OT sz))) fun(m,n,f) hp h=>W4
def iT(m:ap)(c:dM)(r:Int):dM:=bif decide ((vE m c r).2=0) then(vE m c r).1 else c
def o3(m:ap)(n:Node)(c:dM)(f:oz):Node:=(n.1,3,iT m c f.2.1,(n.1,m.1,c.2.2.2.2,1,0,0,0),0,false,0,bif decide (f.1=4) then(kR n.2.2.2.2.2.2.2 c.2.1 f.2.2.2.2).1 else n.2.2.2.2.2.2.2)
open Go.Ev.Pl
def Nc(m:ap)(n:Node)(seen:List Seen)(once:Bool):Node×Int×Bool×Int:=
 bif decide (dh m n=0) then
  bif decide (n.2.1=1) then
   bif decide ((seen.length:Int)=2) then
    bif (gn m.1 seen).2.2 then
     bif decide ((gn m.1 seen).1.1=1) then
      bif decide ((gn m.1 seen).1.2.2.2.1=n.1) then(n,0,false,0)
      else bif once && !n.2.2.2.2.2.1 then((n.1,n.2.1,n.2.2.1,n.2.2.2.1,(Ad m n.1).1,true,n.2.2.2.2.2.2),(gn m.1 seen).2.1,false,0)
      else(o3 m n (0,(gn m.1 seen).1.2.2.2.1,0,0,ah.b .shl .i64 1 (gn m.1 seen).1.2.2.2.1) (gn m.1 seen).1,(gn m.1 seen).2.1,true,0)
     else bif G7 m n (gn m.1 seen).1 then(o3 m n (gn m.1 seen).1.2.2.1 (gn m.1 seen).1,(gn m.1 seen).2.1,true,0)
     else(n,0,false,0)
    else(n,0,false,0)
   else(gD,0,false,2)
  else(gD,0,false,181)
 else(gD,0,false,dh m n)
structure ET where
 (a0:Int) (a1:ap) (a2 a3:sn) (a4:Int) (a5:Bool) (a6 a7 a8 a9:Int) (b_:Node) (dY:oz)
structure EV where
 (b0:ap) (b1:oz) (b2:dM) (b3:Int) (b4:Node) (b5 b6:sn) (b7:Int) (b8:Bool) (b9 b10 b11 b12:Int)
structure DK where
 (c0:ap) (c1:oz) (c2:dM) (c3:Int) (c4:Node) (c5 c6:sn) (c7:Int) (c8:Bool) (c9 c10 c11 c12:Int)
structure EK where
 (d0:ap) (d1 d2:Int) (d3:Node) (d4 d5:sn) (d6:Int) (d7:Bool) (d8 d9 nj mZ:Int)
structure E9 where
 (e0:ap) (e1 e2:Int) (e3:Node) (e4 e5:sn) (e6:Int) (e7:Bool) (e8 e9 e10 e11:Int)
inductive Ib where
 | c0 (p:ET)
 | c1 (p:EV)
 | c2 (p:DK)
 | c3 (p:EK)
 | c4 (p:E9)
noncomputable def Lg:Ib→f_
 | .c0 p=>⟨[⟨40,101,(en [(3,.ptr 0 0),(6,.ptr 1 0),(10,.ptr 2 0),(12,.ptr 3 0),(13,vi p.a0)]),[.code (cw Tryz.f40 [1,1,1,1,0,0,1,1,0]),.code (cw Tryz.f40 [1,1,1,1,0,0,1,1,1]),.inBlock 1,.code (cw Tryz.f40 [1,1,1,1,1])],[],none⟩],[.flat false [vi p.a1.1,vi p.a1.2.1,vi p.a1.2.2.1,vi p.a1.2.2.2.1,vi p.a1.2.2.2.2.1,vi p.a1.2.2.2.2.2.1,.sl .bool p.a1.2.2.2.2.2.2.1,.sl bA p.a1.2.2.2.2.2.2.2],.flat false [vi p.a2.1,vi p.a2.2.1,vi p.a2.2.2.1,vi p.a2.2.2.2.1,vi p.a2.2.2.2.2.1,vi p.a2.2.2.2.2.2.1,vi p.a2.2.2.2.2.2.2,vi p.a3.1,vi p.a3.2.1,vi p.a3.2.2.1,vi p.a3.2.2.2.1,vi p.a3.2.2.2.2.1,vi p.a3.2.2.2.2.2.1,vi p.a3.2.2.2.2.2.2,vi p.a4,vb p.a5,vi p.a6,vi p.a7,.dp true,.dp true,vi p.a8,vi p.a9],.flat false [vi p.b_.1,vi p.b_.2.1,vi p.b_.2.2.1.1,vi p.b_.2.2.1.2.1,vi p.b_.2.2.1.2.2.1,vi p.b_.2.2.1.2.2.2.1,vi p.b_.2.2.1.2.2.2.2,vi p.b_.2.2.2.1.1,vi p.b_.2.2.2.1.2.1,vi p.b_.2.2.2.1.2.2.1,vi p.b_.2.2.2.1.2.2.2.1,vi p.b_.2.2.2.1.2.2.2.2.1,vi p.b_.2.2.2.1.2.2.2.2.2.1,vi p.b_.2.2.2.1.2.2.2.2.2.2,vi p.b_.2.2.2.2.1,vb p.b_.2.2.2.2.2.1,vi p.b_.2.2.2.2.2.2.1,vi p.b_.2.2.2.2.2.2.2.1,.sl yU p.b_.2.2.2.2.2.2.2.2.1,.sl cX p.b_.2.2.2.2.2.2.2.2.2.1,vi p.b_.2.2.2.2.2.2.2.2.2.2.1,vi p.b_.2.2.2.2.2.2.2.2.2.2.2],.flat false [vi p.dY.1,vi p.dY.2.1,vi p.dY.2.2.1.1,vi p.dY.2.2.1.2.1,vi p.dY.2.2.1.2.2.1,vi p.dY.2.2.1.2.2.2.1,vi p.dY.2.2.1.2.2.2.2,vi p.dY.2.2.2.1,.sl yU p.dY.2.2.2.2],.dead]⟩
 | .c1 p=>⟨[⟨86,29,(en [(0,.agg [vi p.b0.1,vi p.b0.2.1,vi p.b0.2.2.1,vi p.b0.2.2.2.1,vi p.b0.2.2.2.2.1,vi p.b0.2.2.2.2.2.1,.sl .bool p.b0.2.2.2.2.2.2.1,.sl bA p.b0.2.2.2.2.2.2.2]),(1,.ptr 0 0),(2,.agg [vi p.b1.1,vi p.b1.2.1,vi p.b1.2.2.1.1,vi p.b1.2.2.1.2.1,vi p.b1.2.2.1.2.2.1,vi p.b1.2.2.1.2.2.2.1,vi p.b1.2.2.1.2.2.2.2,vi p.b1.2.2.2.1,.sl yU p.b1.2.2.2.2]),(3,.agg [vi p.b2.1,vi p.b2.2.1,vi p.b2.2.2.1,vi p.b2.2.2.2.1,vi p.b2.2.2.2.2])]),[.code (cw Tryz.f86 [0]),.code (cw Tryz.f86 [1])],[],none⟩,⟨40,101,(en [(6,.ptr 1 0),(10,.ptr 0 0),(13,vi p.b3)]),[.kh (ow Tryz.f40 [1,1,1,1,0,0,1,1,1,1,1,0]) [0,0,0,4,0,16,48,124,255] 8 [] [],.inBlock 1,.code (cw Tryz.f40 [1,1,1,1,1])],[],none⟩],[.flat false [vi p.b4.1,vi p.b4.2.1,vi p.b4.2.2.1.1,vi p.b4.2.2.1.2.1,vi p.b4.2.2.1.2.2.1,vi p.b4.2.2.1.2.2.2.1,vi p.b4.2.2.1.2.2.2.2,vi p.b4.2.2.2.1.1,vi p.b4.2.2.2.1.2.1,vi p.b4.2.2.2.1.2.2.1,vi p.b4.2.2.2.1.2.2.2.1,vi p.b4.2.2.2.1.2.2.2.2.1,vi p.b4.2.2.2.1.2.2.2.2.2.1,vi p.b4.2.2.2.1.2.2.2.2.2.2,vi p.b4.2.2.2.2.1,vb p.b4.2.2.2.2.2.1,vi p.b4.2.2.2.2.2.2.1,vi p.b4.2.2.2.2.2.2.2.1,.sl yU p.b4.2.2.2.2.2.2.2.2.1,.sl cX p.b4.2.2.2.2.2.2.2.2.2.1,vi p.b4.2.2.2.2.2.2.2.2.2.2.1,vi p.b4.2.2.2.2.2.2.2.2.2.2.2],.flat false [vi p.b5.1,vi p.b5.2.1,vi p.b5.2.2.1,vi p.b5.2.2.2.1,vi p.b5.2.2.2.2.1,vi p.b5.2.2.2.2.2.1,vi p.b5.2.2.2.2.2.2,vi p.b6.1,vi p.b6.2.1,vi p.b6.2.2.1,vi p.b6.2.2.2.1,vi p.b6.2.2.2.2.1,vi p.b6.2.2.2.2.2.1,vi p.b6.2.2.2.2.2.2,vi p.b7,vb p.b8,vi p.b9,vi p.b10,.dp true,.dp true,vi p.b11,vi p.b12],.dead]⟩
 | .c2 p=>⟨[⟨86,29,(en [(0,.agg [vi p.c0.1,vi p.c0.2.1,vi p.c0.2.2.1,vi p.c0.2.2.2.1,vi p.c0.2.2.2.2.1,vi p.c0.2.2.2.2.2.1,.sl .bool p.c0.2.2.2.2.2.2.1,.sl bA p.c0.2.2.2.2.2.2.2]),(1,.ptr 0 0),(2,.agg [vi p.c1.1,vi p.c1.2.1,vi p.c1.2.2.1.1,vi p.c1.2.2.1.2.1,vi p.c1.2.2.1.2.2.1,vi p.c1.2.2.1.2.2.2.1,vi p.c1.2.2.1.2.2.2.2,vi p.c1.2.2.2.1,.sl yU p.c1.2.2.2.2]),(3,.agg [vi p.c2.1,vi p.c2.2.1,vi p.c2.2.2.1,vi p.c2.2.2.2.1,vi p.c2.2.2.2.2])]),[.code (cw Tryz.f86 [0]),.code (cw Tryz.f86 [1])],[],none⟩,⟨40,101,(en [(6,.ptr 1 0),(10,.ptr 0 0),(13,vi p.c3)]),[.ops (ow Tryz.f40 [1,1,1,1,0,0,1,1,1,1,1,1,1,0]) ((ow Tryz.f40 [1,1,1,1,0,0,1,1,1,1,1,1,1,0]).toList.drop 4),.inBlock 1,.code (cw Tryz.f40 [1,1,1,1,1])],[],none⟩],[.flat false [vi p.c4.1,vi p.c4.2.1,vi p.c4.2.2.1.1,vi p.c4.2.2.1.2.1,vi p.c4.2.2.1.2.2.1,vi p.c4.2.2.1.2.2.2.1,vi p.c4.2.2.1.2.2.2.2,vi p.c4.2.2.2.1.1,vi p.c4.2.2.2.1.2.1,vi p.c4.2.2.2.1.2.2.1,vi p.c4.2.2.2.1.2.2.2.1,vi p.c4.2.2.2.1.2.2.2.2.1,vi p.c4.2.2.2.1.2.2.2.2.2.1,vi p.c4.2.2.2.1.2.2.2.2.2.2,vi p.c4.2.2.2.2.1,vb p.c4.2.2.2.2.2.1,vi p.c4.2.2.2.2.2.2.1,vi p.c4.2.2.2.2.2.2.2.1,.sl yU p.c4.2.2.2.2.2.2.2.2.1,.sl cX p.c4.2.2.2.2.2.2.2.2.2.1,vi p.c4.2.2.2.2.2.2.2.2.2.2.1,vi p.c4.2.2.2.2.2.2.2.2.2.2.2],.flat false [vi p.c5.1,vi p.c5.2.1,vi p.c5.2.2.1,vi p.c5.2.2.2.1,vi p.c5.2.2.2.2.1,vi p.c5.2.2.2.2.2.1,vi p.c5.2.2.2.2.2.2,vi p.c6.1,vi p.c6.2.1,vi p.c6.2.2.1,vi p.c6.2.2.2.1,vi p.c6.2.2.2.2.1,vi p.c6.2.2.2.2.2.1,vi p.c6.2.2.2.2.2.2,vi p.c7,vb p.c8,vi p.c9,vi p.c10,.dp true,.dp true,vi p.c11,vi p.c12],.dead]⟩
 | .c3 p=>⟨[⟨53,24,(en [(0,.agg [vi p.d0.1,vi p.d0.2.1,vi p.d0.2.2.1,vi p.d0.2.2.2.1,vi p.d0.2.2.2.2.1,vi p.d0.2.2.2.2.2.1,.sl .bool p.d0.2.2.2.2.2.2.1,.sl bA p.d0.2.2.2.2.2.2.2]),(1,.ptr 0 0),(2,vi p.d1)]),[.code (cw Tryz.f53 [0]),.code (cw Tryz.f53 [1])],[],none⟩,⟨86,29,.leaf,[.ops (ow Tryz.f86 [1,1,1,1]) ((ow Tryz.f86 [1,1,1,1]).toList.drop 4)],[],none⟩,⟨40,101,(en [(6,.ptr 1 0),(10,.ptr 0 0),(13,vi p.d2)]),[.kh (ow Tryz.f40 [1,1,1,1,0,0,1,1,1,1,1,0]) [0,0,0,4,0,16,48,124,255] 8 [] [],.inBlock 1,.code (cw Tryz.f40 [1,1,1,1,1])],[],none⟩],[.flat false [vi p.d3.1,vi p.d3.2.1,vi p.d3.2.2.1.1,vi p.d3.2.2.1.2.1,vi p.d3.2.2.1.2.2.1,vi p.d3.2.2.1.2.2.2.1,vi p.d3.2.2.1.2.2.2.2,vi p.d3.2.2.2.1.1,vi p.d3.2.2.2.1.2.1,vi p.d3.2.2.2.1.2.2.1,vi p.d3.2.2.2.1.2.2.2.1,vi p.d3.2.2.2.1.2.2.2.2.1,vi p.d3.2.2.2.1.2.2.2.2.2.1,vi p.d3.2.2.2.1.2.2.2.2.2.2,vi p.d3.2.2.2.2.1,vb p.d3.2.2.2.2.2.1,vi p.d3.2.2.2.2.2.2.1,vi p.d3.2.2.2.2.2.2.2.1,.sl yU p.d3.2.2.2.2.2.2.2.2.1,.sl cX p.d3.2.2.2.2.2.2.2.2.2.1,vi p.d3.2.2.2.2.2.2.2.2.2.2.1,vi p.d3.2.2.2.2.2.2.2.2.2.2.2],.flat false [vi p.d4.1,vi p.d4.2.1,vi p.d4.2.2.1,vi p.d4.2.2.2.1,vi p.d4.2.2.2.2.1,vi p.d4.2.2.2.2.2.1,vi p.d4.2.2.2.2.2.2,vi p.d5.1,vi p.d5.2.1,vi p.d5.2.2.1,vi p.d5.2.2.2.1,vi p.d5.2.2.2.2.1,vi p.d5.2.2.2.2.2.1,vi p.d5.2.2.2.2.2.2,vi p.d6,vb p.d7,vi p.d8,vi p.d9,.dp true,.dp true,vi p.nj,vi p.mZ],.dead]⟩
 | .c4 p=>⟨[⟨53,24,(en [(0,.agg [vi p.e0.1,vi p.e0.2.1,vi p.e0.2.2.1,vi p.e0.2.2.2.1,vi p.e0.2.2.2.2.1,vi p.e0.2.2.2.2.2.1,.sl .bool p.e0.2.2.2.2.2.2.1,.sl bA p.e0.2.2.2.2.2.2.2]),(1,.ptr 0 0),(2,vi p.e1)]),[.code (cw Tryz.f53 [0]),.code (cw Tryz.f53 [1])],[],none⟩,⟨86,29,.leaf,[.ops (ow Tryz.f86 [1,1,1,1]) ((ow Tryz.f86 [1,1,1,1]).toList.drop 4)],[],none⟩,⟨40,101,(en [(6,.ptr 1 0),(10,.ptr 0 0),(13,vi p.e2)]),[.ops (ow Tryz.f40 [1,1,1,1,0,0,1,1,1,1,1,1,1,0]) ((ow Tryz.f40 [1,1,1,1,0,0,1,1,1,1,1,1,1,0]).toList.drop 4),.inBlock 1,.code (cw Tryz.f40 [1,1,1,1,1])],[],none⟩],[.flat false [vi p.e3.1,vi p.e3.2.1,vi p.e3.2.2.1.1,vi p.e3.2.2.1.2.1,vi p.e3.2.2.1.2.2.1,vi p.e3.2.2.1.2.2.2.1,vi p.e3.2.2.1.2.2.2.2,vi p.e3.2.2.2.1.1,vi p.e3.2.2.2.1.2.1,vi p.e3.2.2.2.1.2.2.1,vi p.e3.2.2.2.1.2.2.2.1,vi p.e3.2.2.2.1.2.2.2.2.1,vi p.e3.2.2.2.1.2.2.2.2.2.1,vi p.e3.2.2.2.1.2.2.2.2.2.2,vi p.e3.2.2.2.2.1,vb p.e3.2.2.2.2.2.1,vi p.e3.2.2.2.2.2.2.1,vi p.e3.2.2.2.2.2.2.2.1,.sl yU p.e3.2.2.2.2.2.2.2.2.1,.sl cX p.e3.2.2.2.2.2.2.2.2.2.1,vi p.e3.2.2.2.2.2.2.2.2.2.2.1,vi p.e3.2.2.2.2.2.2.2.2.2.2.2],.flat false [vi p.e4.1,vi p.e4.2.1,vi p.e4.2.2.1,vi p.e4.2.2.2.1,vi p.e4.2.2.2.2.1,vi p.e4.2.2.2.2.2.1,vi p.e4.2.2.2.2.2.2,vi p.e5.1,vi p.e5.2.1,vi p.e5.2.2.1,vi p.e5.2.2.2.1,vi p.e5.2.2.2.2.1,vi p.e5.2.2.2.2.2.1,vi p.e5.2.2.2.2.2.2,vi p.e6,vb p.e7,vi p.e8,vi p.e9,.dp true,.dp true,vi p.e10,vi p.e11],.dead]⟩
def M8(A:bu)(m:ap)(n:Node)(seen:List Seen):LT (Node×Int×Bool×Int) Ib:=.need (A.k (@tt (ap×Node×Bool)) (m,n,(A.c .eql n.2.1 1))) (.br (A.c .neq (A.k bq (m,n,(A.c .eql n.2.1 1))).2 0) (.ret ((0,0,(0,0,0,0,0),(0,0,0,0,0,0,0),0,false,0,0,([]:List Int),([]:List dF),0,0),0,false,(A.k bq (m,n,(A.c .eql n.2.1 1))).2)) (.br (A.c .neq (A.l seen) 2) (.ret ((0,0,(0,0,0,0,0),(0,0,0,0,0,0,0),0,false,0,0,([]:List Int),([]:List dF),0,0),0,false,2)) (.need (A.k (@tt (Int×List Seen)) (m.1,seen)) (.br (A.not (A.k o5 (m.1,seen)).2.2) (.ret ((A.k bq (m,n,(A.c .eql n.2.1 1))).1,0,false,0)) (.br (A.c .eql (A.k o5 (m.1,seen)).1.1 1) (.br (A.c .eql (A.k o5 (m.1,seen)).1.2.2.2.1 (A.k bq (m,n,(A.c .eql n.2.1 1))).1.1) (.ret ((A.k bq (m,n,(A.c .eql n.2.1 1))).1,0,false,0)) (.more (.c0 ⟨(A.k o5 (m.1,seen)).2.1,m,(0,0,0,0,0,0,0),(0,0,0,0,0,0,0),0,false,0,0,0,0,(A.k bq (m,n,(A.c .eql n.2.1 1))).1,(A.k o5 (m.1,seen)).1⟩))) (.more (.c0 ⟨(A.k o5 (m.1,seen)).2.1,m,(0,0,0,0,0,0,0),(0,0,0,0,0,0,0),0,false,0,0,0,0,(A.k bq (m,n,(A.c .eql n.2.1 1))).1,(A.k o5 (m.1,seen)).1⟩)))))))
def rX(A:bu):Ib→LT (Node×Int×Bool×Int) Ib
 | .c0 p=>.br (A.c .eql p.dY.1 1) (.br (A.not p.b_.2.2.2.2.2.1) (.need (A.k (@tt (ap×Int)) (p.a1,p.b_.1)) (.ret ((p.b_.1,p.b_.2.1,p.b_.2.2.1,p.b_.2.2.2.1,(A.k wv (p.a1,p.b_.1)),true,p.b_.2.2.2.2.2.2),p.a0,false,0))) (.br (A.c .eql p.dY.1 1) (.need (A.c .leq 0 p.dY.2.2.2.1) (.more (.c1 ⟨p.a1,p.dY,(0,p.dY.2.2.2.1,0,0,(A.b .shl .i64 1 p.dY.2.2.2.1)),p.a0,p.b_,p.a2,p.a3,p.a4,p.a5,p.a6,p.a7,p.a8,p.a9⟩))) (.need (A.k (@tt (ap×Node×oz)) (p.a1,p.b_,p.dY)) (.br (A.k Bq (p.a1,p.b_,p.dY)) (.more (.c2 ⟨p.a1,p.dY,p.dY.2.2.1,p.a0,p.b_,p.a2,p.a3,p.a4,p.a5,p.a6,p.a7,p.a8,p.a9⟩)) (.ret (p.b_,0,false,0)))))) (.br (A.c .eql p.dY.1 1) (.need (A.c .leq 0 p.dY.2.2.2.1) (.more (.c1 ⟨p.a1,p.dY,(0,p.dY.2.2.2.1,0,0,(A.b .shl .i64 1 p.dY.2.2.2.1)),p.a0,p.b_,p.a2,p.a3,p.a4,p.a5,p.a6,p.a7,p.a8,p.a9⟩))) (.need (A.k (@tt (ap×Node×oz)) (p.a1,p.b_,p.dY)) (.br (A.k Bq (p.a1,p.b_,p.dY)) (.more (.c2 ⟨p.a1,p.dY,p.dY.2.2.1,p.a0,p.b_,p.a2,p.a3,p.a4,p.a5,p.a6,p.a7,p.a8,p.a9⟩)) (.ret (p.b_,0,false,0)))))
 | .c1 p=>.br (A.c .eql p.b1.1 4) (.need (A.k (@tt (ek×Int×List Int)) (p.b4.2.2.2.2.2.2.2,p.b2.2.1,p.b1.2.2.2.2)) (.need (A.k (@tt (ek×Int×List Int)) (p.b4.2.2.2.2.2.2.2,p.b2.2.1,p.b1.2.2.2.2)) (.br (A.c .eql (A.k rD (p.b4.2.2.2.2.2.2.2,p.b2.2.1,p.b1.2.2.2.2)).2 0) (.more (.c3 ⟨p.b0,p.b1.2.1,p.b3,(p.b4.1,3,p.b2,(p.b4.1,p.b0.1,p.b2.2.2.2.2,1,0,0,0),0,false,0,(A.k rD (p.b4.2.2.2.2.2.2.2,p.b2.2.1,p.b1.2.2.2.2)).1),p.b5,p.b6,p.b7,p.b8,p.b9,p.b10,p.b11,p.b12⟩)) (.more (.c3 ⟨p.b0,p.b1.2.1,p.b3,(p.b4.1,3,p.b2,(p.b4.1,p.b0.1,p.b2.2.2.2.2,1,0,0,0),0,false,0,p.b4.2.2.2.2.2.2.2),p.b5,p.b6,p.b7,p.b8,p.b9,p.b10,p.b11,p.b12⟩))))) (.more (.c3 ⟨p.b0,p.b1.2.1,p.b3,(p.b4.1,3,p.b2,(p.b4.1,p.b0.1,p.b2.2.2.2.2,1,0,0,0),0,false,0,p.b4.2.2.2.2.2.2.2),p.b5,p.b6,p.b7,p.b8,p.b9,p.b10,p.b11,p.b12⟩))
 | .c2 p=>.br (A.c .eql p.c1.1 4) (.need (A.k (@tt (ek×Int×List Int)) (p.c4.2.2.2.2.2.2.2,p.c2.2.1,p.c1.2.2.2.2)) (.need (A.k (@tt (ek×Int×List Int)) (p.c4.2.2.2.2.2.2.2,p.c2.2.1,p.c1.2.2.2.2)) (.br (A.c .eql (A.k rD (p.c4.2.2.2.2.2.2.2,p.c2.2.1,p.c1.2.2.2.2)).2 0) (.more (.c4 ⟨p.c0,p.c1.2.1,p.c3,(p.c4.1,3,p.c2,(p.c4.1,p.c0.1,p.c2.2.2.2.2,1,0,0,0),0,false,0,(A.k rD (p.c4.2.2.2.2.2.2.2,p.c2.2.1,p.c1.2.2.2.2)).1),p.c5,p.c6,p.c7,p.c8,p.c9,p.c10,p.c11,p.c12⟩)) (.more (.c4 ⟨p.c0,p.c1.2.1,p.c3,(p.c4.1,3,p.c2,(p.c4.1,p.c0.1,p.c2.2.2.2.2,1,0,0,0),0,false,0,p.c4.2.2.2.2.2.2.2),p.c5,p.c6,p.c7,p.c8,p.c9,p.c10,p.c11,p.c12⟩))))) (.more (.c4 ⟨p.c0,p.c1.2.1,p.c3,(p.c4.1,3,p.c2,(p.c4.1,p.c0.1,p.c2.2.2.2.2,1,0,0,0),0,false,0,p.c4.2.2.2.2.2.2.2),p.c5,p.c6,p.c7,p.c8,p.c9,p.c10,p.c11,p.c12⟩))
 | .c3 p=>.need (A.k (@tt (ap×dM×Int)) (p.d0,p.d3.2.2.1,p.d1)) (.need (A.k (@tt (ap×dM×Int)) (p.d0,p.d3.2.2.1,p.d1)) (.br (A.c .eql (A.k q_ (p.d0,p.d3.2.2.1,p.d1)).2 0) (.ret ((p.d3.1,p.d3.2.1,(A.k q_ (p.d0,p.d3.2.2.1,p.d1)).1,p.d3.2.2.2),p.d2,true,0)) (.ret (p.d3,p.d2,true,0))))
 | .c4 p=>.need (A.k (@tt (ap×dM×Int)) (p.e0,p.e3.2.2.1,p.e1)) (.need (A.k (@tt (ap×dM×Int)) (p.e0,p.e3.2.2.1,p.e1)) (.br (A.c .eql (A.k q_ (p.e0,p.e3.2.2.1,p.e1)).2 0) (.ret ((p.e3.1,p.e3.2.1,(A.k q_ (p.e0,p.e3.2.2.1,p.e1)).1,p.e3.2.2.2),p.e2,true,0)) (.ret (p.e3,p.e2,true,0))))
theorem MK{m:ap}{n:Node}{f:oz}(hn:dh m n=0)(hf:fF f=true)(hj:G7 m n f=true):(kR n.2.2.2.2.2.2.2 f.2.2.1.2.1 f.2.2.2.2).2=0:=by
 have hd:=eu.1 (dx hn).2
 simp only[G7,Bool.and_eq_true,oh,decide_eq_true_eq] at hj
 have hk:=qL hj.2.2.2.1
 simp only[fF,Bool.and_eq_true,decide_eq_true_eq] at hf
 have h8:=hf.1.2
 have e6:=hd.2.2.2.2.2.1
 rw[kR,hd.2.2.2.1,decide_eq_true (show 0≤f.2.2.1.2.1∧f.2.2.1.2.1≤(n.2.2.2.2.2.2.2.2.2.1.length:Int)-1 by rw[e6];exact hk.2.1),decide_eq_false (show ¬8<(f.2.2.2.2.length:Int) by omega)]
 rfl
theorem Ng{p:EK}:aD (rX ah) (.more (.c3 p)) ((p.d3.1,p.d3.2.1,iT p.d0 p.d3.2.2.1 p.d1,p.d3.2.2.2),p.d2,true,0):=by
 rw[ak,rX]
 refine af.2 ⟨rfl,?_⟩
 repeat' (refine af.2 ⟨rfl,?_⟩)
 refine aM (p:=(vE p.d0 p.d3.2.2.1 p.d1).2=0) bT (fun h=>?_) fun h=>?_
 ·exact aH (by rw[iT,decide_eq_true h];rfl) (.ret _)
 ·exact aH (by rw[iT,decide_eq_false h];rfl) (.ret _)
theorem Fc{p:E9}:aD (rX ah) (.more (.c4 p)) ((p.e3.1,p.e3.2.1,iT p.e0 p.e3.2.2.1 p.e1,p.e3.2.2.2),p.e2,true,0):=by
 rw[ak,rX]
 refine af.2 ⟨rfl,?_⟩
 repeat' (refine af.2 ⟨rfl,?_⟩)
 refine aM (p:=(vE p.e0 p.e3.2.2.1 p.e1).2=0) bT (fun h=>?_) fun h=>?_
 ·exact aH (by rw[iT,decide_eq_true h];rfl) (.ret _)
 ·exact aH (by rw[iT,decide_eq_false h];rfl) (.ret _)
theorem KL{p:EV}(h:p.b1.1=1):aD (rX ah) (.more (.c1 p)) (o3 p.b0 p.b4 p.b2 p.b1,p.b3,true,0):=by
 rw[ak,rX]
 refine(ai (by rw[bT];exact decide_eq_false (by omega))).2 (aH ?_ Ng)
 rw[o3,decide_eq_false (show ¬p.b1.1=4 by omega)]
 rfl
theorem KZ{p:DK}(h:p.c1.1=4→(kR p.c4.2.2.2.2.2.2.2 p.c2.2.1 p.c1.2.2.2.2).2=0):aD (rX ah) (.more (.c2 p)) (o3 p.c0 p.c4 p.c2 p.c1,p.c3,true,0):=by
 rw[ak,rX]
 refine aM (p:=p.c1.1=4) bT (fun g=>af.2 ⟨rfl,?_⟩) fun g=>aH (by rw[o3,decide_eq_false g];rfl) Fc
 repeat' (refine af.2 ⟨rfl,?_⟩)
 exact(aj (FP (h g))).2 (aH (by rw[o3,decide_eq_true g];rfl) Fc)
theorem KQ{p:ET}{m:ap}{n:Node}{f:oz}{t:Int}(h0:p.a0=t)(h1:p.a1=m)(h2:p.b_=n)(hf:p.dY=f)(hl:0≤f.2.2.2.1)(hd:G7 m n f=true→(kR n.2.2.2.2.2.2.2 f.2.2.1.2.1 f.2.2.2.2).2=0):aD (rX ah) (.more (.c0 p)) (bif decide (f.1=1) then(bif !n.2.2.2.2.2.1 then((n.1,n.2.1,n.2.2.1,n.2.2.2.1,(Ad m n.1).1,true,n.2.2.2.2.2.2),t,false,0) else(o3 m n (0,f.2.2.2.1,0,0,ah.b .shl .i64 1 f.2.2.2.1) f,t,true,0)) else bif G7 m n f then(o3 m n f.2.2.1 f,t,true,0) else(n,0,false,0)):=by
 rw[ak,rX,h0,h1,h2,hf]
 refine aM (p:=f.1=1) bT (fun h=>?_) fun h=>?_
 ·rw[decide_eq_true h,cond_true]
  cases hb:n.2.2.2.2.2.1
  ·exact(aj rfl).2 (af.2 ⟨rfl,.ret _⟩)
  ·exact(ai rfl).2 ((aj (by rw[bT];exact decide_eq_true h)).2 (af.2 ⟨decide_eq_true hl,KL h⟩))
 ·rw[decide_eq_false h,cond_false]
  refine(ai (by rw[bT];exact decide_eq_false h)).2 (af.2 ⟨rfl,?_⟩)
  rw[show ah.k Bq (m,n,f)=G7 m n f from rfl]
  cases hj:G7 m n f
  ·exact(ai rfl).2 (.ret _)
  ·exact(aj rfl).2 (KZ fun _=>hd hj)
theorem N9{m:ap}{n:Node}{seen:List Seen}:aD (rX ah) (M8 ah m n seen) (Nc m n seen true):=by
 unfold M8 Nc
 refine af.2 ⟨rfl,?_⟩
 rw[show ah.k bq (m,n,ah.c .eql n.2.1 1)=kB m n (ah.c .eql n.2.1 1) from rfl,bT,kB]
 by_cases h:dh m n=0
 ·rw[decide_eq_true h,cond_true,cond_true]
  cases decide (n.2.1=1)
  ·exact(aj rfl).2 (.ret _)
  rw[cond_true,cond_true]
  refine(ai rfl).2 (aM (p:=¬(seen.length:Int)=2) bg (fun h2=>aH (by rw[decide_eq_false h2];rfl) (.ret _)) fun h2=>af.2 ⟨rfl,?_⟩)
  rw[decide_eq_true (Decidable.not_not.1 h2),cond_true,show ah.k o5 (m.1,seen)=gn m.1 seen from rfl]
  cases he:(gn m.1 seen).2.2
  ·exact(aj rfl).2 (.ret _)
  obtain⟨e1,e2,e3⟩:=M1 he
  have hl:=LX e3
  have nx:=fun {a b c d e g i j}=>KQ (p:=⟨(gn m.1 seen).2.1,m,a,b,c,d,e,g,i,j,n,(gn m.1 seen).1⟩) (m:=m) (n:=n) (f:=(gn m.1 seen).1) (t:=(gn m.1 seen).2.1) rfl rfl rfl rfl hl.1 (MK h e3)
  generalize gn m.1 seen=x at *
  refine(ai rfl).2 (aM (p:=x.1.1=1) bT (fun h3=>aM (p:=x.1.2.2.2.1=n.1) bT (fun h4=>?_) fun h4=>?_) fun h3=>?_)
  ·exact aH (by rw[decide_eq_true h3,decide_eq_true h4];rfl) (.ret _)
  ·rw[decide_eq_true h3] at nx
   rw[decide_eq_true h3,decide_eq_false h4,cond_true,cond_true,cond_false,Bool.true_and]
   exact nx
  ·rw[decide_eq_false h3] at nx
   rw[decide_eq_false h3,cond_true,cond_false]
   exact nx
 ·rw[decide_eq_false h];exact(aj (sC h)).2 (.ret _)
def vS:(ap×Node×List Seen)→(Node×Int×Bool×Int):=fun(m,n,s)=>Nc m n s true
def TN:aC:=⟨[c_,eE,(.slice aU)], [eE,yI,.bool,yI],(@tt (ap×Node×List Seen)),vS⟩
theorem S_:Sd 40 TN:=aJ au dC true 93 [] [⟨40,10, [[3,6,10,12,13]]⟩,⟨53,0, [[0,1,2], [], [6,10,13]]⟩,⟨86,0, [[0,1,2,3], [6,10,13]]⟩] (fun A (m,n,seen)=>M8 A m n seen) rX Lg (fc Tryz.func40 (fc Tryz.func52 (fc Tryz.func53 (fc Tryz.func86 (fc Tryz.func139 fz))))) (sc B8 (sc Rm (sc EN (sc UB (sc JB (sc Kk sz)))))) (fun A y=>match y with |.c0 p=>⟨42,by kernel_rfl,by kernel_rfl⟩|.c1 p=>⟨125,by kernel_rfl,by kernel_rfl⟩|.c2 p=>⟨125,by kernel_rfl,by kernel_rfl⟩|.c3 p=>⟨51,by kernel_rfl,by kernel_rfl⟩|.c4 p=>⟨51,by kernel_rfl,by kernel_rfl⟩) fun(m,n,seen) hp h=>N9
open Go.Ev.Pl
instance:DecidableEq dF:=inferInstanceAs (DecidableEq (List Int×Int))
instance:DecidableEq dM:=inferInstanceAs (DecidableEq (Int×Int×Int×Int×Int))
instance:DecidableEq sn:=inferInstanceAs (DecidableEq (Int×Int×Int×Int×Int×Int×Int))
instance:DecidableEq ek:=inferInstanceAs (DecidableEq (Int×List Int×List dF×Int×Int))
def Ri:DecidableEq (Int×Bool×Int×ek):=inferInstance
def P5:DecidableEq (dM×sn×Int×Bool×Int×ek):=have:=Ri;inferInstance
instance:DecidableEq Node:=have:=P5;inferInstanceAs (DecidableEq (Int×Int×(dM×sn×Int×Bool×Int×ek)))
def IP(A:bu)(id:Int):LT (List Seen) Empty:=.need (A.k (@tt ((Int×Int×(Int×Int×Int×Int×Int)×Int×List Int))) (1,0,(0,0,0,0,0),id,([]:List Int))) (.ret ([(2,9,(A.k OM (1,0,(0,0,0,0,0),id,([]:List Int))).1),(0,0,0,([]:List Int))]:List Seen))
def vc:Int→(List Seen):=fun id=>(IP ah id).val (Ty.bV [(.slice aU)])
def Vr:aC:=⟨[yI], [(.slice aU)],(@tt Int),vc⟩
theorem Sy:Sd 41 Vr:=aK au dC true 30 [] (fun A id=>IP A id) (fc Tryz.func41 fz) (sc Xj sz) (fun(id:Int) hp h=>by
 show(IP ah id).pre=true
 simp[IP,LT.pre,al,cB])
def Iw(A:bu)(n:Node):LT Bool Empty:=.ret (A.c .leq (A.l n.2.2.2.2.2.2.2.2.2.1) 20)
def uP:Node→Bool:=fun n=>(Iw ah n).val (Ty.bV [.bool])
def RX:aC:=⟨[eE], [.bool],(@tt Node),uP⟩
theorem Py:Sd 11 RX:=aK au dC true 20 [] (fun A n=>Iw A n) (fc Tryz.func11 fz) sz (fun(n:Node) hp h=>by
 show(Iw ah n).pre=true
 simp[Iw,LT.pre,al,cB])
def Ji(A:bu)(l:List Seen):LT (List Seen) Empty:=.need (A.and (A.c .leq 0 0) (A.and (A.c .leq 0 (A.mn (A.l l) 9)) (A.c .leq (A.mn (A.l l) 9) (A.l l)))) (.ret (A.s l 0 (A.mn (A.l l) 9)))
theorem KN{l:List Seen}:ah.and (ah.c .leq 0 0) (ah.and (ah.c .leq 0 (ah.mn (ah.l l) 9)) (ah.c .leq (ah.mn (ah.l l) 9) (ah.l l)))=true:=by
 rw[kv,ot,ax,ax,ax,aL,aL]
 split<;>simp<;>omega
def cm:(List Seen)→(List Seen):=fun l=>(Ji ah l).val (Ty.bV [(.slice aU)])
def Tf:aC:=⟨[(.slice aU)], [(.slice aU)],(@tt (List Seen)),cm⟩
theorem Td:Sd 15 Tf:=aK au dC true 19 [] (fun A l=>Ji A l) (fc Tryz.func15 fz) sz (fun(l:List Seen) hp h=>by
 show(Ji ah l).pre=true
 simp only[Ji,LT.pre];exact(Bool.and_true _).trans (KN (l:=l)))
structure LN where
 (a0 a1 a2 a3 a4 a5 a6 a7 a8 a9:Int) (b_:Node) (dY:List Bool) (a12:List Int) (lW jQ:List Bool)
inductive Iu where
 | c0 (p:LN)
noncomputable def LS:Iu→f_
 | .c0 p=>⟨[⟨10,64,(en [(1,.ptr 0 0),(2,vi p.a0),(3,.ptr 1 0),(4,vi p.a1)]),[.code (cw Tryz.f10 [1,1,1,0]),.code (cw Tryz.f10 [1,1,1,1])],[],none⟩],[.flat false [vi p.a2,vi p.a3,vi p.a4,vi p.a5,vi p.a6,vi p.a7,.own 2,.kq 3 3 false p.a8 p.a9],.flat false [vi p.b_.1,vi p.b_.2.1,vi p.b_.2.2.1.1,vi p.b_.2.2.1.2.1,vi p.b_.2.2.1.2.2.1,vi p.b_.2.2.1.2.2.2.1,vi p.b_.2.2.1.2.2.2.2,vi p.b_.2.2.2.1.1,vi p.b_.2.2.2.1.2.1,vi p.b_.2.2.2.1.2.2.1,vi p.b_.2.2.2.1.2.2.2.1,vi p.b_.2.2.2.1.2.2.2.2.1,vi p.b_.2.2.2.1.2.2.2.2.2.1,vi p.b_.2.2.2.1.2.2.2.2.2.2,vi p.b_.2.2.2.2.1,vb p.b_.2.2.2.2.2.1,vi p.b_.2.2.2.2.2.2.1,vi p.b_.2.2.2.2.2.2.2.1,.sl yU p.b_.2.2.2.2.2.2.2.2.1,.sl cX p.b_.2.2.2.2.2.2.2.2.2.1,vi p.b_.2.2.2.2.2.2.2.2.2.2.1,vi p.b_.2.2.2.2.2.2.2.2.2.2.2],.arr true .bool p.dY,.flat true [.sl yI p.a12,.sl .bool p.lW,.sl .bool p.jQ],.dead]⟩
def KP(A:bu):LT Bool Iu:=.need (A.c .leq (A.l ([true]:List Bool)) 140737488355328) (.need (A.c .leq (A.l ([2]:List Int)) 17592186044416) (.need (A.c .leq (A.l ([true]:List Bool)) 140737488355328) (.need (A.c .leq (A.l (A.p [true] [true])) 140737488355328) (.need (A.c .leq (A.l (A.p ([2]:List Int) ([2]:List Int))) 17592186044416) (.need (A.c .leq (A.l (A.p [true] [true])) 140737488355328) (.need (A.c .leq (A.l (A.p (A.p [true] [true]) [true])) 140737488355328) (.need (A.c .leq (A.l (A.p (A.p ([2]:List Int) ([2]:List Int)) ([2]:List Int))) 17592186044416) (.need (A.c .leq (A.l (A.p (A.p [true] [true]) [true])) 140737488355328) (.need (A.c .leq (A.l (A.p (A.p (A.p [true] [true]) [true]) [true])) 140737488355328) (.need (A.c .leq (A.l (A.p (A.p (A.p ([2]:List Int) ([2]:List Int)) ([2]:List Int)) ([2]:List Int))) 17592186044416) (.need (A.c .leq (A.l (A.p (A.p (A.p [true] [true]) [true]) [true])) 140737488355328) (.need (A.k (@tt ap) (4,0,38,16,0,1,(A.p (A.p (A.p [true] [true]) [true]) [true]),([((A.p (A.p (A.p ([2]:List Int) ([2]:List Int)) ([2]:List Int)) ([2]:List Int)),(A.p (A.p (A.p [true] [true]) [true]) [true]), [true])]:List Mode))) (.need (A.k (@tt (ap×Int)) ((4,(A.b .add .i64 76 (A.k yQ (4,0,38,16,0,1,(A.p (A.p (A.p [true] [true]) [true]) [true]),([((A.p (A.p (A.p ([2]:List Int) ([2]:List Int)) ([2]:List Int)) ([2]:List Int)),(A.p (A.p (A.p [true] [true]) [true]) [true]), [true])]:List Mode)))),38,16,0,1,(A.p (A.p (A.p [true] [true]) [true]) [true]),([((A.p (A.p (A.p ([2]:List Int) ([2]:List Int)) ([2]:List Int)) ([2]:List Int)),(A.p (A.p (A.p [true] [true]) [true]) [true]), [true])]:List Mode)),1)) (.more (.c0 ⟨0,(A.k yD ((4,(A.b .add .i64 76 (A.k yQ (4,0,38,16,0,1,(A.p (A.p (A.p [true] [true]) [true]) [true]),([((A.p (A.p (A.p ([2]:List Int) ([2]:List Int)) ([2]:List Int)) ([2]:List Int)),(A.p (A.p (A.p [true] [true]) [true]) [true]), [true])]:List Mode)))),38,16,0,1,(A.p (A.p (A.p [true] [true]) [true]) [true]),([((A.p (A.p (A.p ([2]:List Int) ([2]:List Int)) ([2]:List Int)) ([2]:List Int)),(A.p (A.p (A.p [true] [true]) [true]) [true]), [true])]:List Mode)),1)).2,4,(A.b .add .i64 76 (A.k yQ (4,0,38,16,0,1,(A.p (A.p (A.p [true] [true]) [true]) [true]),([((A.p (A.p (A.p ([2]:List Int) ([2]:List Int)) ([2]:List Int)) ([2]:List Int)),(A.p (A.p (A.p [true] [true]) [true]) [true]), [true])]:List Mode)))),38,16,0,1,0,1,(A.k yD ((4,(A.b .add .i64 76 (A.k yQ (4,0,38,16,0,1,(A.p (A.p (A.p [true] [true]) [true]) [true]),([((A.p (A.p (A.p ([2]:List Int) ([2]:List Int)) ([2]:List Int)) ([2]:List Int)),(A.p (A.p (A.p [true] [true]) [true]) [true]), [true])]:List Mode)))),38,16,0,1,(A.p (A.p (A.p [true] [true]) [true]) [true]),([((A.p (A.p (A.p ([2]:List Int) ([2]:List Int)) ([2]:List Int)) ([2]:List Int)),(A.p (A.p (A.p [true] [true]) [true]) [true]), [true])]:List Mode)),1)).1,(A.p (A.p (A.p [true] [true]) [true]) [true]),(A.p (A.p (A.p ([2]:List Int) ([2]:List Int)) ([2]:List Int)) ([2]:List Int)),(A.p (A.p (A.p [true] [true]) [true]) [true]), [true]⟩)))))))))))))))
def K9(A:bu):Iu→LT Bool Iu
 | .c0 p=>.need (A.k (@tt (ap×Node×Bool)) ((p.a2,p.a3,p.a4,p.a5,p.a6,p.a7,p.dY,(A.s ([(p.a12,p.lW,p.jQ)]:List Mode) p.a8 (A.b .add .i64 p.a8 p.a9))),p.b_,true)) (.need (A.k (@tt Int) 2) (.need (A.k (@tt (ap×Node×List Seen)) ((p.a2,p.a3,p.a4,p.a5,p.a6,p.a7,p.dY,(A.s ([(p.a12,p.lW,p.jQ)]:List Mode) p.a8 (A.b .add .i64 p.a8 p.a9))),(A.k rJ ((p.a2,p.a3,p.a4,p.a5,p.a6,p.a7,p.dY,(A.s ([(p.a12,p.lW,p.jQ)]:List Mode) p.a8 (A.b .add .i64 p.a8 p.a9))),p.b_,true)).1,(A.k vc 2))) (.br (A.c .eql p.a0 0) (.br (A.c .eql p.a1 0) (.br (A.c .eql (A.k rJ ((p.a2,p.a3,p.a4,p.a5,p.a6,p.a7,p.dY,(A.s ([(p.a12,p.lW,p.jQ)]:List Mode) p.a8 (A.b .add .i64 p.a8 p.a9))),p.b_,true)).2 0) (.br (A.c .eql (A.k vS ((p.a2,p.a3,p.a4,p.a5,p.a6,p.a7,p.dY,(A.s ([(p.a12,p.lW,p.jQ)]:List Mode) p.a8 (A.b .add .i64 p.a8 p.a9))),(A.k rJ ((p.a2,p.a3,p.a4,p.a5,p.a6,p.a7,p.dY,(A.s ([(p.a12,p.lW,p.jQ)]:List Mode) p.a8 (A.b .add .i64 p.a8 p.a9))),p.b_,true)).1,(A.k vc 2))).2.2.2 0) (.br (A.c .eql (A.k vS ((p.a2,p.a3,p.a4,p.a5,p.a6,p.a7,p.dY,(A.s ([(p.a12,p.lW,p.jQ)]:List Mode) p.a8 (A.b .add .i64 p.a8 p.a9))),(A.k rJ ((p.a2,p.a3,p.a4,p.a5,p.a6,p.a7,p.dY,(A.s ([(p.a12,p.lW,p.jQ)]:List Mode) p.a8 (A.b .add .i64 p.a8 p.a9))),p.b_,true)).1,(A.k vc 2))).2.1 9) (.br (A.not (A.k vS ((p.a2,p.a3,p.a4,p.a5,p.a6,p.a7,p.dY,(A.s ([(p.a12,p.lW,p.jQ)]:List Mode) p.a8 (A.b .add .i64 p.a8 p.a9))),(A.k rJ ((p.a2,p.a3,p.a4,p.a5,p.a6,p.a7,p.dY,(A.s ([(p.a12,p.lW,p.jQ)]:List Mode) p.a8 (A.b .add .i64 p.a8 p.a9))),p.b_,true)).1,(A.k vc 2))).2.2.1) (.br (A.k vS ((p.a2,p.a3,p.a4,p.a5,p.a6,p.a7,p.dY,(A.s ([(p.a12,p.lW,p.jQ)]:List Mode) p.a8 (A.b .add .i64 p.a8 p.a9))),(A.k rJ ((p.a2,p.a3,p.a4,p.a5,p.a6,p.a7,p.dY,(A.s ([(p.a12,p.lW,p.jQ)]:List Mode) p.a8 (A.b .add .i64 p.a8 p.a9))),p.b_,true)).1,(A.k vc 2))).1.2.2.2.2.2.1 (.ret (A.c .eql (A.k vS ((p.a2,p.a3,p.a4,p.a5,p.a6,p.a7,p.dY,(A.s ([(p.a12,p.lW,p.jQ)]:List Mode) p.a8 (A.b .add .i64 p.a8 p.a9))),(A.k rJ ((p.a2,p.a3,p.a4,p.a5,p.a6,p.a7,p.dY,(A.s ([(p.a12,p.lW,p.jQ)]:List Mode) p.a8 (A.b .add .i64 p.a8 p.a9))),p.b_,true)).1,(A.k vc 2))).1.2.1 1)) (.ret false)) (.ret false)) (.ret false)) (.ret false)) (.ret false)) (.ret false)) (.ret false))))
theorem C3:aD (K9 ah) (KP ah) true:=by
 unfold KP
 repeat' (refine af.2 ⟨by kernel_rfl,?_⟩)
 rw[ak,K9]
 repeat' (refine af.2 ⟨by kernel_rfl,?_⟩)
 refine(aj (by kernel_rfl)).2 ((aj (by kernel_rfl)).2 ((aj (by kernel_rfl)).2 ((aj (by kernel_rfl)).2 ((aj (by kernel_rfl)).2 ((aj (by kernel_rfl)).2 ((aj (by kernel_rfl)).2 (aH (by kernel_rfl) (.ret _))))))))
def lv:Unit→Bool:=fun _=>true
def PY:aC:=⟨[], [.bool],(@tt Unit),lv⟩
theorem N6:Sd 10 PY:=aJ au dC true 313 [] [⟨10,3, [[1,2,3,4]]⟩] (fun A _=>KP A) K9 LS (fc Tryz.func10 (fc Tryz.func37 fz)) (sc OC (sc S_ (sc Kh (sc Nt (sc Sy sz))))) (fun A y=>match y with |.c0 p=>⟨66,by kernel_rfl,by kernel_rfl⟩) fun _ hp h=>C3
end Go.Ev.M
