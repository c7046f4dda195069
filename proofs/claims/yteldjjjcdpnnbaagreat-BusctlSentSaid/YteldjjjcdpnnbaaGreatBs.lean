/-
  PROVED: BusctlSent, in plain Lean. Conditions: none.
-/
import Derived.Test.YteldjjjcdpnnbaaGreatCi
namespace Go.Ev.M
open Go.Proofs
set_option maxRecDepth 100000
set_option linter.unusedVariables false
set_option linter.unusedSimpArgs false
open Go.Ev.Pl
def RH(A:bi)(m:ak)(n:Node)(other:Node)(at1:Int):LT Bool Empty:=.need (A.k (@tt (ak×Node)) (m,n)) (.need (A.k (@tt Unit) ()) (.br (A.not (A.k ny ())) (.need (A.k (@tt Unit) ()) (.ret (A.k ny ()))) (.need (A.k (@tt Node) n) (.br (A.not (A.k pg n)) (.need (A.k (@tt Unit) ()) (.ret (A.k ny ()))) (.need (A.k (@tt Node) other) (.br (A.not (A.k pg other)) (.need (A.k (@tt Unit) ()) (.ret (A.k ny ()))) (.br (A.c .neq (A.k b_ (m,n)).2.2.2 0) (.need (A.k (@tt Unit) ()) (.ret (A.k ny ()))) (.br (A.not (A.k b_ (m,n)).2.2.1) (.need (A.k (@tt Unit) ()) (.ret (A.k ny ()))) (.need (A.k (@tt ((Int×Int×(Int×Int×Int×Int×Int)×Int×List Int))) (A.k b_ (m,n)).2.1) (.br (A.c .neq (A.k oX (A.k b_ (m,n)).2.1).2 0) (.ret false) (.br (A.c .neq (A.k b_ (m,n)).2.1.2.2.1.2.1 n.1) (.ret false) (.need (A.k (@tt Node) (A.k b_ (m,n)).1) (.br (A.not (A.k cv (A.k b_ (m,n)).1)) (.ret false) (.br (A.c .eql other.1 n.1) (.ret true) (.need (A.k (@tt (ak×Node)) (m,other)) (.br (A.c .neq (A.k fG (m,other)) 0) (.ret true) (.need (A.k (@tt Node) other) (.br (A.not (A.k cv other)) (.ret true) (.br (A.c .neq other.2.2.2.1.2.2.2.2.2.1 0) (.ret true) (.need (A.k (@tt (ak×Node×List Seen)) (m,(other.1,other.2.1,(A.k b_ (m,n)).2.1.2.2.1,(other.2.2.2.1.1,other.2.2.2.1.2.1,(A.k b_ (m,n)).2.1.2.2.1.2.2.2.2,other.2.2.2.1.2.2.2),other.2.2.2.2), [(0,0,0,([]:List Int)),(2,at1,(A.k oX (A.k b_ (m,n)).2.1).1)])) (.br (A.c .eql (A.k kw (m,(other.1,other.2.1,(A.k b_ (m,n)).2.1.2.2.1,(other.2.2.2.1.1,other.2.2.2.1.2.1,(A.k b_ (m,n)).2.1.2.2.1.2.2.2.2,other.2.2.2.1.2.2.2),other.2.2.2.2), [(0,0,0,([]:List Int)),(2,at1,(A.k oX (A.k b_ (m,n)).2.1).1)])).2.2 0) (.br (A.c .eql (A.k kw (m,(other.1,other.2.1,(A.k b_ (m,n)).2.1.2.2.1,(other.2.2.2.1.1,other.2.2.2.1.2.1,(A.k b_ (m,n)).2.1.2.2.1.2.2.2.2,other.2.2.2.1.2.2.2),other.2.2.2.2), [(0,0,0,([]:List Int)),(2,at1,(A.k oX (A.k b_ (m,n)).2.1).1)])).2.1.1 3) (.br (A.c .eql (A.k kw (m,(other.1,other.2.1,(A.k b_ (m,n)).2.1.2.2.1,(other.2.2.2.1.1,other.2.2.2.1.2.1,(A.k b_ (m,n)).2.1.2.2.1.2.2.2.2,other.2.2.2.1.2.2.2),other.2.2.2.2), [(0,0,0,([]:List Int)),(2,at1,(A.k oX (A.k b_ (m,n)).2.1).1)])).2.1.2.2.2.2 at1) (.br (A.and (A.c .eql (A.k kw (m,(other.1,other.2.1,(A.k b_ (m,n)).2.1.2.2.1,(other.2.2.2.1.1,other.2.2.2.1.2.1,(A.k b_ (m,n)).2.1.2.2.1.2.2.2.2,other.2.2.2.1.2.2.2),other.2.2.2.2), [(0,0,0,([]:List Int)),(2,at1,(A.k oX (A.k b_ (m,n)).2.1).1)])).1.2.2.1.1 (A.k b_ (m,n)).1.2.2.1.1) (A.and (A.c .eql (A.k kw (m,(other.1,other.2.1,(A.k b_ (m,n)).2.1.2.2.1,(other.2.2.2.1.1,other.2.2.2.1.2.1,(A.k b_ (m,n)).2.1.2.2.1.2.2.2.2,other.2.2.2.1.2.2.2),other.2.2.2.2), [(0,0,0,([]:List Int)),(2,at1,(A.k oX (A.k b_ (m,n)).2.1).1)])).1.2.2.1.2.1 (A.k b_ (m,n)).1.2.2.1.2.1) (A.and (A.c .eql (A.k kw (m,(other.1,other.2.1,(A.k b_ (m,n)).2.1.2.2.1,(other.2.2.2.1.1,other.2.2.2.1.2.1,(A.k b_ (m,n)).2.1.2.2.1.2.2.2.2,other.2.2.2.1.2.2.2),other.2.2.2.2), [(0,0,0,([]:List Int)),(2,at1,(A.k oX (A.k b_ (m,n)).2.1).1)])).1.2.2.1.2.2.1 (A.k b_ (m,n)).1.2.2.1.2.2.1) (A.and (A.c .eql (A.k kw (m,(other.1,other.2.1,(A.k b_ (m,n)).2.1.2.2.1,(other.2.2.2.1.1,other.2.2.2.1.2.1,(A.k b_ (m,n)).2.1.2.2.1.2.2.2.2,other.2.2.2.1.2.2.2),other.2.2.2.2), [(0,0,0,([]:List Int)),(2,at1,(A.k oX (A.k b_ (m,n)).2.1).1)])).1.2.2.1.2.2.2.1 (A.k b_ (m,n)).1.2.2.1.2.2.2.1) (A.and (A.c .eql (A.k kw (m,(other.1,other.2.1,(A.k b_ (m,n)).2.1.2.2.1,(other.2.2.2.1.1,other.2.2.2.1.2.1,(A.k b_ (m,n)).2.1.2.2.1.2.2.2.2,other.2.2.2.1.2.2.2),other.2.2.2.2), [(0,0,0,([]:List Int)),(2,at1,(A.k oX (A.k b_ (m,n)).2.1).1)])).1.2.2.1.2.2.2.2 (A.k b_ (m,n)).1.2.2.1.2.2.2.2) true))))) (.need (A.k Jv ((A.k kw (m,(other.1,other.2.1,(A.k b_ (m,n)).2.1.2.2.1,(other.2.2.2.1.1,other.2.2.2.1.2.1,(A.k b_ (m,n)).2.1.2.2.1.2.2.2.2,other.2.2.2.1.2.2.2),other.2.2.2.2), [(0,0,0,([]:List Int)),(2,at1,(A.k oX (A.k b_ (m,n)).2.1).1)])).2.1.2.2.2.1,(A.k b_ (m,n)).2.1)) (.ret (A.k Pj ((A.k kw (m,(other.1,other.2.1,(A.k b_ (m,n)).2.1.2.2.1,(other.2.2.2.1.1,other.2.2.2.1.2.1,(A.k b_ (m,n)).2.1.2.2.1.2.2.2.2,other.2.2.2.1.2.2.2),other.2.2.2.2), [(0,0,0,([]:List Int)),(2,at1,(A.k oX (A.k b_ (m,n)).2.1).1)])).2.1.2.2.2.1,(A.k b_ (m,n)).2.1)))) (.ret false)) (.ret false)) (.ret false)) (.ret false))))))))))))))))))))))
theorem Re{m:ak}{n other:Node}{at1:Int}(hh:Ty.dK [bd,aQ,aQ,yI] (m,n,other,at1)):aA Empty.elim (RH aj m n other at1) true:=by
 unfold RH
 rw[show aj.k b_ (m,n)=oS m n from rfl]
 refine af.2 ⟨rfl,af.2 ⟨rfl,(ah rfl).2 (af.2 ⟨rfl,?_⟩)⟩⟩
 show aA Empty.elim (.br (aj.not (pg n)) _ _) true
 cases pg n
 ·exact(ai rfl).2 (af.2 ⟨rfl,.ret _⟩)
 refine(ah rfl).2 (af.2 ⟨rfl,?_⟩)
 show aA Empty.elim (.br (aj.not (pg other)) _ _) true
 cases pg other
 ·exact(ai rfl).2 (af.2 ⟨rfl,.ret _⟩)
 refine(ah rfl).2 (ax (p:=¬(oS m n).2.2.2=0) aT (fun _=>af.2 ⟨rfl,.ret _⟩) fun h2=>?_)
 have h2:=Decidable.not_not.1 h2
 cases h3:(oS m n).2.2.1
 ·exact(ai rfl).2 (af.2 ⟨rfl,.ret _⟩)
 obtain⟨hn,hi,hp,hv,e⟩:=Nr h2 h3
 have hG:=FU hn hi
 have hcl:=dN hn hi
 have hvm:=Fx hcl.2.1
 have hb:=M1 hcl.2.1 hv
 have hfG:=(dN hG rfl).1
 have hfr:=Sc hG rfl
 have hln:=F2 hG rfl
 have hz:=bF.1 (aP hn).2
 have hk:=BS (aP hn).1 hz.1 (gM hfG).2.1
 have hkr:=CZ hk
 have hby:bp (gn m (iJ n (dd n).1)).2.2.2.2:=by
  have hB:bp n.2.2.2.2.2.2.2.2.1:=fun x hx=>Cr.1 (hh.2.1.2.2.2.2.2.2.2.2.1.2 x hx)
  rw[gn]
  cases decide ((bo m (iJ n (dd n).1).2.2.1.2.2.1 (iJ n (dd n).1).1).1=3)
  ·exact Gt hB
  ·intro x hx;cases hx
 have e1:(oS m n).2.1=gn m (iJ n (dd n).1):=by rw[e];rfl
 have ex:(oS m n).1.2.2.1=eY m (gn m (iJ n (dd n).1)).2.2.1 (gn m (iJ n (dd n).1)).2.1:=by rw[e];rfl
 have es:(oS m n).1.2.1=4:=by rw[e];rfl
 have ei:gb (oS m n).1=true:=decide_eq_true (by rw[es];omega)
 have eC:(gn m (iJ n (dd n).1)).2.2.1=(iJ n (dd n).1).2.2.1:=rfl
 have h6:kh m (gn m (iJ n (dd n).1)).2.2.1 (gn m (iJ n (dd n).1))=true:=by
  have ep:(gn m (iJ n (dd n).1)).2.2.1.2.1=n.1:=hp
  rw[kh,ep]
  rw[decide_eq_true (show(bo m (gn m (iJ n (dd n).1)).2.2.1.2.2.1 n.1).2=0 from hk),decide_eq_true (show(gn m (iJ n (dd n).1)).1=(bo m (gn m (iJ n (dd n).1)).2.2.1.2.2.1 n.1).1 from rfl),Bool.true_and,Bool.true_and]
  exact decide_eq_true hln
 have h7:¬(gn m (iJ n (dd n).1)).1=1:=by
  show ¬(bo m (iJ n (dd n).1).2.2.1.2.2.1 n.1).1=1
  have:(bo m (iJ n (dd n).1).2.2.1.2.2.1 n.1).1=2∨(bo m (iJ n (dd n).1).2.2.1.2.2.1 n.1).1=3∨(bo m (iJ n (dd n).1).2.2.1.2.2.1 n.1).1=4:=hkr
  omega
 have h8:gl (gn m (iJ n (dd n).1)).2.2.1.2.2.2.2 (gn m (iJ n (dd n).1)).2.2.1.2.1=(gn m (iJ n (dd n).1)).2.2.1.2.2.2.2:=by
  show gl (dd n).1.2.2.1 n.2.2.1.2.1=(dd n).1.2.2.1
  have hs:=Cx hvm.1
  have hm1:=(cy (aP hn).1).1
  rw[hvm.2.2,hcl.2.2.2.1,←BO hm1] at hs
  have:=(oN hm1).2
  rw[hp]
  rw[hcl.2.2.1] at hb
  exact Kc hs.1 (by omega) hz.1.1 (by omega) hb
 have h9:dp m (gn m (iJ n (dd n).1)).2.2.1=true:=hfG
 have h10:(gn m (iJ n (dd n).1)).2.2.1.2.1=n.1:=hp
 rw[e1,ex]
 clear hG hfG hln hkr hk eC e1 ex es hv hb hvm e h3 h2
 generalize gn m (iJ n (dd n).1)=f at *
 have e3:aj.k oX f=(bS (fo f),0):=by show encS f=_;rw[encS,hfr];rfl
 rw[e3]
 refine(ah rfl).2 (af.2 ⟨rfl,(ah rfl).2 ((ah (by rw[h10];exact Ho)).2 (af.2 ⟨rfl,(ah (by rw[show aj.k cv (oS m n).1=gb (oS m n).1 from rfl,ei];rfl)).2 (ax (p:=other.1=n.1) aH (fun _=>.ret _) fun k=>af.2 ⟨rfl,ax (p:=¬aS m other=0) aT (fun _=>.ret _) fun k2=>af.2 ⟨rfl,?_⟩⟩)⟩))⟩)
 have k2:=Decidable.not_not.1 k2
 show aA Empty.elim (.br (aj.not (gb other)) _ _) true
 cases hio:gb other
 ·exact(ai rfl).2 (.ret _)
 refine(ah rfl).2 (ax (p:=¬other.2.2.2.1.2.2.2.2.2.1=0) aT (fun _=>.ret _) fun k3=>af.2 ⟨rfl,?_⟩)
 obtain⟨z,ez,eC⟩:=Qk (w:=at1) k2 hio (Decidable.not_not.1 k3) h9 hfr hby h7 (by rw[h10];exact fun q=>k q.symm) h8 h6
 rw[show aj.k kw (m,(other.1,other.2.1,f.2.2.1,(other.2.2.2.1.1,other.2.2.2.1.2.1,f.2.2.1.2.2.2.2,other.2.2.2.1.2.2.2),other.2.2.2.2), [(0,0,0,([]:List Int)),(2,at1,(bS (fo f),(0:Int)).1)])=(z,(3,0,1,f,at1),0) from ez]
 refine(ai rfl).2 ((ai rfl).2 ((ai je).2 ((ai ?_).2 (af.2 ⟨decide_eq_true rfl,.ret _⟩))))
 rw[eC,je,je,je,je,je];rfl
def Oo:(ak×Node×Node×Int)→Bool:=fun _=>true
def aay:aD:=⟨[bd,aQ,aQ,yI], [.bool],(@tt (ak×Node×Node×Int)),Oo⟩
theorem WQ:Sd 10 aay:=aK au cK true 182 [] (fun A (m,n,other,at1)=>RH A m n other at1) (fc Tryz.func10 fz) (sc RJ (sc O8 (sc Ox (sc IW (sc zK (sc OE (sc Oz (sc Y7 sz)))))))) fun(m,n,other,at1) hp h=>Re h
theorem Pp(x:ak×Node×Node×Int)(h:Ty.dK [bd,aQ,aQ,yI] x):Oo x=true:=rfl
end Go.Ev.M
