/-
  PROVED: what Own, End and Tick of busctl and of metronomeref18 compute. Conditions: none.
-/
import Derived.Test.YtjceiokllpmnkaaGreatCc
namespace Go.Ev.M
open Go.Proofs
set_option maxRecDepth 100000
set_option linter.unusedVariables false
set_option linter.unusedSimpArgs false
open Go.Ev.Pl
def KA:oz:=(0,0,(0,0,0,0,0),0,([]:List Int))
def Mj(A:bu)(m:ap)(n:Node):LT (Node×Int) Empty:=.need (A.k (@tt Node) n) (.need (A.k (@tt (ap×Node×Bool)) (m,n,(A.k cN n))) (.need (A.k (@tt (ap×Node×Bool)) (m,n,(A.k cN n))) (.need (A.k (@tt Node) n) (.br (A.c .neq (A.k bq (m,n,(A.k cN n))).2 0) (.ret ((0,0,(0,0,0,0,0),(0,0,0,0,0,0,0),0,false,0,0,([]:List Int),([]:List dF),0,0),(A.k bq (m,n,(A.k cN n))).2)) (.need (A.k (@tt (dM×Int)) ((A.k bq (m,n,(A.k cN n))).1.2.2.1,m.1)) (.br (A.c .eql (A.k rA ((A.k bq (m,n,(A.k cN n))).1.2.2.1,m.1)).2 0) (.br (A.c .eql (A.k rA ((A.k bq (m,n,(A.k cN n))).1.2.2.1,m.1)).1.2.1 0) (.need (A.k (@tt ek) (A.k bq (m,n,(A.k cN n))).1.2.2.2.2.2.2.2) (.ret (((A.k bq (m,n,(A.k cN n))).1.1,(A.k bq (m,n,(A.k cN n))).1.2.1,(A.k rA ((A.k bq (m,n,(A.k cN n))).1.2.2.1,m.1)).1,(A.k bq (m,n,(A.k cN n))).1.2.2.2.1,(A.k bq (m,n,(A.k cN n))).1.2.2.2.2.1,(A.k bq (m,n,(A.k cN n))).1.2.2.2.2.2.1,(A.k bq (m,n,(A.k cN n))).1.2.2.2.2.2.2.1,(A.k DI (A.k bq (m,n,(A.k cN n))).1.2.2.2.2.2.2.2).1),(A.k DI (A.k bq (m,n,(A.k cN n))).1.2.2.2.2.2.2.2).2))) (.ret (((A.k bq (m,n,(A.k cN n))).1.1,(A.k bq (m,n,(A.k cN n))).1.2.1,(A.k rA ((A.k bq (m,n,(A.k cN n))).1.2.2.1,m.1)).1,(A.k bq (m,n,(A.k cN n))).1.2.2.2),(A.k rA ((A.k bq (m,n,(A.k cN n))).1.2.2.1,m.1)).2))) (.ret (((A.k bq (m,n,(A.k cN n))).1.1,(A.k bq (m,n,(A.k cN n))).1.2.1,(A.k rA ((A.k bq (m,n,(A.k cN n))).1.2.2.1,m.1)).1,(A.k bq (m,n,(A.k cN n))).1.2.2.2),(A.k rA ((A.k bq (m,n,(A.k cN n))).1.2.2.1,m.1)).2))))))))
def mU(m:ap)(n:Node):Node×Int:=
 bif decide (dh m n=0) then
  bif kJ n then
   bif decide ((gB n.2.2.1 m.1).1.2.1=0) then((n.1,n.2.1,(gB n.2.2.1 m.1).1,n.2.2.2.1,n.2.2.2.2.1,n.2.2.2.2.2.1,n.2.2.2.2.2.2.1,(vy n.2.2.2.2.2.2.2).1),0)
   else((n.1,n.2.1,(gB n.2.2.1 m.1).1,n.2.2.2),0)
  else(gD,181)
 else(gD,dh m n)
theorem step_ok{m:ap}{n:Node}(h:dh m n=0)(h1:kJ n=true):(gB n.2.2.1 m.1).2=0:=by
 have hc:=(eu.1 (dx h).2).2.2.2.2.2.2.2.1
 rw[qp,h1,cond_true,Bool.and_eq_true] at hc
 have hf:=hc.1
 simp only[dK,Bool.and_eq_true,decide_eq_true_eq] at hf
 rw[gB,decide_eq_true hf.1]
 cases decide (n.2.2.1.2.1+1=m.1)<;>cases decide (n.2.2.1.2.2.2.1=0)<;>rfl
theorem My{m:ap}{n:Node}(h:dh m n=0):(vy n.2.2.2.2.2.2.2).2=0:=by
 rw[vy,ta h];rfl
theorem Pw{m:ap}{n:Node}:aD Empty.elim (Mj ah m n) (mU m n):=by
 unfold Mj mU
 refine af.2 ⟨rfl,af.2 ⟨rfl,?_⟩⟩
 repeat' (refine af.2 ⟨rfl,?_⟩)
 rw[show ah.k bq (m,n,ah.k cN n)=kB m n (kJ n) from rfl,kB]
 by_cases h:dh m n=0
 ·rw[decide_eq_true h,cond_true,cond_true]
  cases h1:kJ n
  ·exact(aj rfl).2 (.ret _)
  have hs:=step_ok h h1
  have hr:=My h
  rw[cond_true,cond_true]
  refine(ai rfl).2 (af.2 ⟨rfl,(aj (FP hs)).2 (aM (p:=(gB n.2.2.1 m.1).1.2.1=0) bT (fun h2=>af.2 ⟨rfl,aH ?_ (.ret _)⟩) fun h2=>aH ?_ (.ret _))⟩)
  ·rw[decide_eq_true h2];exact congrArg (Prod.mk _) hr
  ·rw[decide_eq_false h2];exact congrArg (Prod.mk _) hs
 ·rw[decide_eq_false h];exact(aj (sC h)).2 (.ret _)
def bp:(ap×Node)→(Node×Int):=fun(m,n)=>mU m n
def TR:aC:=⟨[c_,eE], [eE,yI],(@tt (ap×Node)),bp⟩
theorem Qf:Sd 17 TR:=aQ au dC true 80 [] (fun A (m,n)=>Mj A m n) (fc Tryz.func17 fz) (sc BY (sc B8 (sc Vw (sc Pf sz)))) fun(m,n) hp h=>Pw
open Go.Ev.Pl
open Go.Ev.Pl
def U9(m:ap)(k n:Int):Int:=ah.n yI (ah.n bA m.2.2.2.2.2.2.2 k:Mode).1 n
theorem H6{m:ap}{n:Int}(hm:dR m=true)(h1:0≤n∧n≤m.1-1)(x:Mode)(hx:jH m x=true):0≤x.1.getD n.toNat 0∧x.1.getD n.toNat 0≤8:=by
 have hl:=nf hx
 have hc:=(gK hm).2.2.1
 simp only[jH,Bool.and_eq_true] at hx
 have ha:=hx.2
 have l1:m.2.2.2.2.2.2.1.length=x.1.length:=by omega
 have l2:x.2.1.length=x.1.length:=by omega
 rw[uf l1 l2,Bool.and_eq_true] at ha
 have hi:n.toNat<x.1.length:=by omega
 rw[List.getD_eq_getElem?_getD,List.getElem?_eq_getElem hi]
 have:=List.all_eq_true.1 ha.1 _ (List.getElem_mem hi)
 simpa using this
theorem La{m:ap}{k n:Int}(hm:dR m=true)(h1:0≤n∧n≤m.1-1)(h2:0≤k∧k<dS m):0≤U9 m k n∧U9 m k n≤8:=H6 hm h1 _ (tg hm h2.1 h2.2)
open Go.Ev.Pl
theorem jJ{m:ap}{n:Node}(h:dh m n=0)(h1:kJ n=true):dK m n.2.2.1=true∧lM n.2.2.2.1=0∧n.2.2.2.1.1=n.1∧n.2.2.2.1.2.1=m.1∧n.2.2.1.2.2.2.2=n.2.2.2.1.2.2.1:=by
 have hc:=(eu.1 (dx h).2).2.2.2.2.2.2.2.1
 rw[qp,h1,cond_true] at hc
 simpa only[Bool.and_eq_true,decide_eq_true_eq] using hc
theorem xX{m:ap}{c:dM}(h:dK m c=true):gI (c,m.1)=0∧(0≤c.2.2.1∧c.2.2.1<dS m)∧c.2.2.2.1≤dS m:=by
 simp only[dK,Bool.and_eq_true,decide_eq_true_eq] at h
 exact⟨h.1,⟨(nV h.1).2.2.2.1.1,h.2.1⟩,h.2.2⟩
open Go.Ev.Pl
theorem F7{x:List UInt8}:ah.z .eql x x=true:=by show(x==x)=true;simp
theorem je{x:Int}:ah.c .eql x x=true:=by rw[bT];simp
theorem CY{x:Int}:ah.c .neq x x=false:=by rw[bg];simp
end Go.Ev.M
