/-
  PROVED: what busctl.Hear and metronomeref18.Hear compute. Conditions: none.
-/
import Derived.Test.YtjceiokllpmnkaaGreatCb
import Derived.Test.YtjceiokllpmnkaaGreatDa
import Derived.Test.YtjceiokllpmnkaaGreatDb
import Derived.Test.YtjceiokllpmnkaaGreatKa
namespace Go.Ev.M
open Go.Proofs
set_option maxRecDepth 100000
set_option linter.unusedVariables false
set_option linter.unusedSimpArgs false
open Go.Ev.Pl
def Kg(A:bK)(m:ax)(c:eG)(f:vX):LT Bool Empty:=.need (A.k (@tt (ax×Int×Int)) (m,c.2.2.1,c.2.1)) (.br (A.c .eql (A.k gP (m,c.2.2.1,c.2.1)).2 0) (.br (A.c .neq (A.k gP (m,c.2.2.1,c.2.1)).1 3) (.need (A.and (A.c .leq 0 c.2.2.1) (A.c .lss c.2.2.1 (A.l m.2.2.2.2.2.2.2))) (.need (A.and (A.c .leq 0 c.2.1) (A.c .lss c.2.1 (A.l (A.n bE m.2.2.2.2.2.2.2 c.2.2.1:Mode).1))) (.br (A.c .eql (A.k gP (m,c.2.2.1,c.2.1)).2 0) (.br (A.c .eql f.1 (A.k gP (m,c.2.2.1,c.2.1)).1) (.ret (A.c .eql (A.l f.2.2.2.2) (A.n yI (A.n bE m.2.2.2.2.2.2.2 c.2.2.1:Mode).1 c.2.1:Int))) (.ret false)) (.ret false)))) (.br (A.c .eql (A.k gP (m,c.2.2.1,c.2.1)).2 0) (.br (A.c .eql f.1 (A.k gP (m,c.2.2.1,c.2.1)).1) (.ret (A.c .eql (A.l f.2.2.2.2) 0)) (.ret false)) (.ret false))) (.br (A.c .eql (A.k gP (m,c.2.2.1,c.2.1)).2 0) (.br (A.c .eql f.1 (A.k gP (m,c.2.2.1,c.2.1)).1) (.ret (A.c .eql (A.l f.2.2.2.2) 0)) (.ret false)) (.ret false)))
def tV(m:ax)(c:eG)(f:vX):Bool:=decide ((d_ m c.2.2.1 c.2.1).2=0)&&(decide (f.1=(d_ m c.2.2.1 c.2.1).1)&&decide ((f.2.2.2.2.length:Int)=bif decide ((d_ m c.2.2.1 c.2.1).1=3) then(0:Int) else(ai.n (.int .i64) (ai.n bE m.2.2.2.2.2.2.2 c.2.2.1:Mode).1 c.2.1:Int)))
theorem pQ{m:ax}{k n:Int}(h:(d_ m k n).2=0):eO m=true∧(0≤n∧n≤m.1-1)∧(0≤k∧k<dF m):=by
 unfold d_ at h
 by_cases h1:iG m n=0
 ·obtain⟨a,b⟩:=vv h1
  by_cases h2:0≤k∧k≤dF m-1
  ·exact⟨a,b,by omega⟩
  ·rw[decide_eq_true h1,decide_eq_false h2,cond_true,cond_false] at h;exact absurd h (by decide)
 ·rw[decide_eq_false h1,cond_false] at h;exact absurd h h1
theorem MX{m:ax}{c:eG}{f:vX}:aK Empty.elim (Kg ai m c f) (tV m c f):=by
 unfold Kg
 refine af.2 ⟨rfl,?_⟩
 rw[show ai.k gP (m,c.2.2.1,c.2.1)=d_ m c.2.2.1 c.2.1 from rfl]
 by_cases h:(d_ m c.2.2.1 c.2.1).2=0
 ·obtain⟨hm,hn,hk⟩:=pQ h
  have hx:=(kE (o7 hm hk.1 hk.2)).1
  have e:ai.c .eql (d_ m c.2.2.1 c.2.1).2 0=true:=Ia h
  rw[e,tV,decide_eq_true h,Bool.true_and]
  refine(ak rfl).2 (aV (p:=¬(d_ m c.2.2.1 c.2.1).1=3) cv (fun g=>af.2 ⟨mI hk.1 hk.2,af.2 ⟨oq hx hn.1 (by omega),(ak rfl).2 ?_⟩⟩) fun g=>(ak rfl).2 ?_)
  ·rw[decide_eq_false g]
   refine aV (p:=f.1=(d_ m c.2.2.1 c.2.1).1) bW (fun k=>?_) fun k=>?_
   ·exact aI (by rw[decide_eq_true k,pj];exact bW) (.ret _)
   ·exact aI (by rw[decide_eq_false k];rfl) (.ret _)
  ·rw[decide_eq_true (Decidable.not_not.1 g)]
   refine aV (p:=f.1=(d_ m c.2.2.1 c.2.1).1) bW (fun k=>?_) fun k=>?_
   ·exact aI (by rw[decide_eq_true k,pj];exact bW) (.ret _)
   ·exact aI (by rw[decide_eq_false k];rfl) (.ret _)
 ·have e:ai.c .eql (d_ m c.2.2.1 c.2.1).2 0=false:=SD h
  rw[e,tV,decide_eq_false h]
  exact(aj rfl).2 ((aj rfl).2 (.ret _))
def EU:(ax×eG×vX)→Bool:=fun(m,c,k)=>tV m c k
def SH:aG:=⟨[cr,q9,GB], [.bool],(@tt (ax×eG×vX)),EU⟩
theorem Rh:Sd 50 SH:=a_ aA dY true 75 [] (fun A (m,c,f)=>Kg A m c f) (fc Tryz.func50 fz) (sc IG sz) fun(m,c,f) hp h=>MX
def vH(m:ax)(c:eG)(r:Int):eG:=bif decide ((xq m c r).2=0) then(xq m c r).1 else c
open Go.Ev.Pl
open Go.Ev.Pl
instance:DecidableEq cd:=inferInstanceAs (DecidableEq (List Int×Int))
instance:DecidableEq eG:=inferInstanceAs (DecidableEq (Int×Int×Int×Int×Int))
instance:DecidableEq kw:=inferInstanceAs (DecidableEq (Int×Int×Int×Int×Int×Int×Int))
instance:DecidableEq dQ:=inferInstanceAs (DecidableEq (Int×List Int×List cd×Int×Int))
def Rj:DecidableEq (Int×Bool×Int×dQ):=inferInstance
def Rq:DecidableEq (eG×kw×Int×Bool×Int×dQ):=have:=Rj;inferInstance
instance:DecidableEq Node:=have:=Rq;inferInstanceAs (DecidableEq (Int×Int×(eG×kw×Int×Bool×Int×dQ)))
end Go.Ev.M
