/-
  PROVED: what functions of starctl compute. Conditions: none.
-/
import Derived.Test.YteldjjjcdpnnbaaGreatCf
import Derived.Test.YteldjjjcdpnnbaaGreatCd
namespace Go.Ev.M
open Go.Proofs
set_option maxRecDepth 100000
set_option linter.unusedVariables false
set_option linter.unusedSimpArgs false
open Go.Ev.Pl
theorem CG{a b:Int}:aj.not (aj.c .eql a b)=decide (¬a=b):=by rw[aI,aT,Bool.eq_iff_iff];simp
theorem JV{Y:Type}{step:Y→LT (Node×Int) Y}{n:Node}{t:LT (Node×Int) Y}{r:Node×Int}(h:aA step t r):aA step (.br (aj.not (aj.k iP n)) (.ret (n,0)) t) (bif ju n then r else(n,0)):=by
 rw[show aj.k iP n=ju n from rfl]
 cases ju n
 ·exact(ai rfl).2 (.ret _)
 ·exact(ah rfl).2 h
theorem step_pos{m:ao}{n:Node}(h:bU m n=0)(h1:ju n=true):0≤(iG n.2.2.1 m.1).1.2.1:=by
 have hf:=B4 (rC h h1).1
 have hp:=(qR hf.1).2.2.1
 rw[iG,decide_eq_true hf.1,cond_true]
 by_cases g:n.2.2.1.2.1+1=m.1
 ·rw[decide_eq_true g,cond_true];cases decide (n.2.2.1.2.2.2.1=0)<;>exact Int.le_refl 0
 ·rw[decide_eq_false g];exact(by omega:(0:Int)≤n.2.2.1.2.1+1)
def UJ(A:a_)(m:ao)(n:Node)(set1:Int):LT (Node×Int) Empty:=.need (A.k (@tt (ao×Node)) (m,n)) (.br (A.c .neq (A.k dD (m,n)) 0) (.br (A.c .neq (A.k dD (m,n)) 0) (.ret ((0,0,(0,0,0,0,0),(0,0,0,0,0,0,0),0,false,0,0,([]:List Int),([]:List aU),0,0),(A.k dD (m,n)))) (.need (A.c .leq 0 m.1) (.need (A.k (@tt (Span×Int)) ((0,(A.b .sub .i64 (A.b .shl .i64 1 m.1) 1)),set1)) (.br (A.not (A.k sU ((0,(A.b .sub .i64 (A.b .shl .i64 1 m.1) 1)),set1))) (.ret ((0,0,(0,0,0,0,0),(0,0,0,0,0,0,0),0,false,0,0,([]:List Int),([]:List aU),0,0),2)) (.need (A.c .leq 0 n.1) (.br (A.c .eql (A.b .and .i64 set1 (A.b .shl .i64 1 n.1)) 0) (.ret ((0,0,(0,0,0,0,0),(0,0,0,0,0,0,0),0,false,0,0,([]:List Int),([]:List aU),0,0),2)) (.bad 73 "starctl.go:102"))))))) (.br (A.not (A.c .eql n.2.1 0)) (.ret ((0,0,(0,0,0,0,0),(0,0,0,0,0,0,0),0,false,0,0,([]:List Int),([]:List aU),0,0),181)) (.need (A.k (@tt (bu×List Int)) (n.2.2.2.2.2.2.2,n.2.2.2.2.2.2.2.2.1)) (.br (A.c .neq (A.k bA (n.2.2.2.2.2.2.2,n.2.2.2.2.2.2.2.2.1)).2 0) (.br (A.c .neq (A.k bA (n.2.2.2.2.2.2.2,n.2.2.2.2.2.2.2.2.1)).2 0) (.ret ((0,0,(0,0,0,0,0),(0,0,0,0,0,0,0),0,false,0,0,([]:List Int),([]:List aU),0,0),(A.k bA (n.2.2.2.2.2.2.2,n.2.2.2.2.2.2.2.2.1)).2)) (.need (A.c .leq 0 m.1) (.need (A.k (@tt (Span×Int)) ((0,(A.b .sub .i64 (A.b .shl .i64 1 m.1) 1)),set1)) (.br (A.not (A.k sU ((0,(A.b .sub .i64 (A.b .shl .i64 1 m.1) 1)),set1))) (.ret ((0,0,(0,0,0,0,0),(0,0,0,0,0,0,0),0,false,0,0,([]:List Int),([]:List aU),0,0),2)) (.need (A.c .leq 0 n.1) (.br (A.c .eql (A.b .and .i64 set1 (A.b .shl .i64 1 n.1)) 0) (.ret ((0,0,(0,0,0,0,0),(0,0,0,0,0,0,0),0,false,0,0,([]:List Int),([]:List aU),0,0),2)) (.bad 73 "starctl.go:102"))))))) (.need (A.c .leq 0 m.1) (.need (A.k (@tt (Span×Int)) ((0,(A.b .sub .i64 (A.b .shl .i64 1 m.1) 1)),set1)) (.br (A.not (A.k sU ((0,(A.b .sub .i64 (A.b .shl .i64 1 m.1) 1)),set1))) (.ret ((0,0,(0,0,0,0,0),(0,0,0,0,0,0,0),0,false,0,0,([]:List Int),([]:List aU),0,0),2)) (.need (A.c .leq 0 n.1) (.br (A.c .eql (A.b .and .i64 set1 (A.b .shl .i64 1 n.1)) 0) (.ret ((0,0,(0,0,0,0,0),(0,0,0,0,0,0,0),0,false,0,0,([]:List Int),([]:List aU),0,0),2)) (.ret ((n.1,4,(0,0,0,0,set1),(n.1,m.1,set1,1,0,0,0),0,n.2.2.2.2.2.1,n.2.2.2.2.2.2.1,(A.k bA (n.2.2.2.2.2.2.2,n.2.2.2.2.2.2.2.2.1)).1),0)))))))))))
theorem agE{m:ao}{n:Node}{s:Int}:aA Empty.elim (UJ aj m n s) (XB m n s):=by
 unfold UJ XB
 refine af.2 ⟨rfl,?_⟩
 rw[show aj.k dD (m,n)=bU m n from rfl,show aj.k bA (n.2.2.2.2.2.2.2,n.2.2.2.2.2.2.2.2.1)=BX n.2.2.2.2.2.2.2 n.2.2.2.2.2.2.2.2.1 from rfl]
 by_cases h:bU m n=0
 ·rw[decide_eq_true h,om h,cond_true]
  have hk:=(eG (dz h).1).1
  have hs:=Ba hk
  have hi:=(fe.1 (dz h).2).1
  refine(ah (gY h)).2 (ap (p:=¬n.2.1=0) CG (fun h1=>au (by rw[decide_eq_false h1];rfl) (.ret _)) fun h1=>af.2 ⟨rfl,(ah rfl).2 (af.2 ⟨decide_eq_true (by omega),af.2 ⟨rfl,?_⟩⟩)⟩)
  rw[decide_eq_true (Decidable.not_not.1 h1),cond_true,aX,fV (by omega) (by omega)]
  rw[show aj.k sU ((0,aj.b .shl .i64 1 m.1-1),s)=decide (0≤s∧s≤aj.b .shl .i64 1 m.1-1) from rfl]
  by_cases h3:0≤s∧s≤aj.b .shl .i64 1 m.1-1
  ·rw[decide_eq_true h3]
   have hb:=H9 (c:=s) (a:=n.1) h3.1 (by omega) hi.1 (by omega)
   refine(ah rfl).2 (af.2 ⟨decide_eq_true (show 0≤n.1 from hi.1),ap (p:=aj.b .and .i64 s (aj.b .shl .i64 1 n.1)=0) aI (fun g=>?_) fun g=>?_⟩)
   ·exact au (by rw[hb.1 g];rfl) (.ret _)
   ·exact au (by rw[show jY s n.1=true from by cases hx:jY s n.1;exact absurd (hb.2 hx) g;rfl];rfl) (.ret _)
  ·rw[decide_eq_false h3];exact(ai rfl).2 (.ret _)
 ·rw[decide_eq_false h];exact(ai (fw h)).2 ((ai (fw h)).2 (.ret _))
def Bd:(ao×Node×Int)→(Node×Int):=fun(m,c,k)=>XB m c k
def Y8:aB:=⟨[aY,aW,yI], [aW,yI],(@tt (ao×Node×Int)),Bd⟩
theorem ZC:Sd 36 Y8:=aF ax bK true 193 [] (fun A (m,n,set1)=>UJ A m n set1) (fc Tryz.func36 (fc Tryz.func90 (fc Tryz.func91 fz))) (sc rU (sc sC (sc N_ sz))) fun(m,n,set1) hp h=>agE
def VF(A:a_)(m:ao)(n:Node):LT (Node×gb×Bool×Int) Empty:=.need (A.k (@tt (ao×Node)) (m,n)) (.br (A.c .neq (A.k dD (m,n)) 0) (.br (A.c .neq (A.k dD (m,n)) 0) (.ret ((0,0,(0,0,0,0,0),(0,0,0,0,0,0,0),0,false,0,0,([]:List Int),([]:List aU),0,0),(0,0,(0,0,0,0,0),0,([]:List Int)),false,(A.k dD (m,n)))) (.bad 73 "starctl.go:315")) (.br (A.not (A.c .eql n.2.1 1)) (.ret ((0,0,(0,0,0,0,0),(0,0,0,0,0,0,0),0,false,0,0,([]:List Int),([]:List aU),0,0),(0,0,(0,0,0,0,0),0,([]:List Int)),false,181)) (.need (A.k (@tt (bu×List Int)) (n.2.2.2.2.2.2.2,n.2.2.2.2.2.2.2.2.1)) (.br (A.c .neq (A.k bA (n.2.2.2.2.2.2.2,n.2.2.2.2.2.2.2.2.1)).2 0) (.br (A.c .neq (A.k bA (n.2.2.2.2.2.2.2,n.2.2.2.2.2.2.2.2.1)).2 0) (.ret ((0,0,(0,0,0,0,0),(0,0,0,0,0,0,0),0,false,0,0,([]:List Int),([]:List aU),0,0),(0,0,(0,0,0,0,0),0,([]:List Int)),false,(A.k bA (n.2.2.2.2.2.2.2,n.2.2.2.2.2.2.2.2.1)).2)) (.bad 73 "starctl.go:315")) (.br (A.c .gtr (A.b .sub .i64 n.2.2.2.2.1 1) 0) (.ret ((n.1,n.2.1,n.2.2.1,n.2.2.2.1,(A.b .sub .i64 n.2.2.2.2.1 1),n.2.2.2.2.2.1,n.2.2.2.2.2.2.1,(A.k bA (n.2.2.2.2.2.2.2,n.2.2.2.2.2.2.2.2.1)).1),(0,0,(0,0,0,0,0),0,([]:List Int)),false,0)) (.need (A.and (A.c .leq 0 n.1) (A.c .lss n.1 (A.l m.2.2.2.2.2.2.1))) (.br (A.not (A.n .bool m.2.2.2.2.2.2.1 n.1:Bool)) (.need (A.k (@tt (ao×Int)) (m,n.1)) (.ret ((n.1,1,(0,0,0,0,0),(0,0,0,0,0,0,0),(A.k qh (m,n.1)).1,n.2.2.2.2.2.1,n.2.2.2.2.2.2.1,(A.k bA (n.2.2.2.2.2.2.2,n.2.2.2.2.2.2.2.2.1)).1),(0,0,(0,0,0,0,0),0,([]:List Int)),false,0))) (.need (A.c .leq 0 n.1) (.ret ((n.1,2,(0,n.1,0,0,(A.b .shl .i64 1 n.1)),(n.1,m.1,(A.b .shl .i64 1 n.1),1,0,0,0),0,n.2.2.2.2.2.1,n.2.2.2.2.2.2.1,(A.k bA (n.2.2.2.2.2.2.2,n.2.2.2.2.2.2.2.2.1)).1),(1,0,(0,0,0,0,0),n.1,([]:List Int)),true,0))))))))))
theorem YT{m:ao}{n:Node}:aA Empty.elim (VF aj m n) (Iv m n):=by
 unfold VF Iv
 refine af.2 ⟨rfl,?_⟩
 rw[show aj.k dD (m,n)=bU m n from rfl,show aj.k bA (n.2.2.2.2.2.2.2,n.2.2.2.2.2.2.2.2.1)=BX n.2.2.2.2.2.2.2 n.2.2.2.2.2.2.2.2.1 from rfl]
 by_cases h:bU m n=0
 ·rw[decide_eq_true h,om h,cond_true]
  refine(ah (gY h)).2 (ap (p:=¬n.2.1=1) CG (fun h1=>au (by rw[decide_eq_false h1];rfl) (.ret _)) fun h1=>af.2 ⟨rfl,(ah rfl).2 ?_⟩)
  have h1:=Decidable.not_not.1 h1
  obtain⟨ht,es⟩:=GJ h h1
  have hi:=(fe.1 (dz h).2).1
  have hl:=eG (dz h).1
  have ho:=Gi h (by omega)
  rw[decide_eq_true h1,cond_true,es]
  refine ap (p:=0<n.2.2.2.2.1-1) rfl (fun h2=>au (by rw[decide_eq_true h2];rfl) (.ret _)) fun h2=>af.2 ⟨gV hl.2.2.1 hi.1 (show n.1<m.1 by omega),?_⟩
  rw[decide_eq_false h2,cond_false]
  cases (aj.n .bool m.2.2.2.2.2.2.1 n.1:Bool)
  ·refine(ai rfl).2 (af.2 ⟨rfl,au ?_ (.ret _)⟩)
   rw[ho.1,ho.2,h1];rfl
  ·exact(ah rfl).2 (af.2 ⟨decide_eq_true (show 0≤n.1 from hi.1),.ret _⟩)
 ·rw[decide_eq_false h];exact(ai (fw h)).2 ((ai (fw h)).2 (.ret _))
def re:(ao×Node)→(Node×gb×Bool×Int):=fun(m,n)=>Iv m n
def adY:aB:=⟨[aY,aW], [aW,pX,.bool,yI],(@tt (ao×Node)),re⟩
theorem aaV:Sd 52 adY:=aF ax bK true 214 [] (fun A (m,n)=>VF A m n) (fc Tryz.func52 (fc Tryz.func90 (fc Tryz.func91 (fc Tryz.func92 fz)))) (sc rU (sc sC (sc Du sz))) fun(m,n) hp h=>YT
def SV(A:a_)(m:ao)(n:Node):LT (Node×Int) Empty:=.need (A.k (@tt Node) n) (.need (A.k (@tt (ao×Node)) (m,n)) (.br (A.c .neq (A.k dD (m,n)) 0) (.br (A.c .neq (A.k dD (m,n)) 0) (.ret ((0,0,(0,0,0,0,0),(0,0,0,0,0,0,0),0,false,0,0,([]:List Int),([]:List aU),0,0),(A.k dD (m,n)))) (.need (A.k (@tt (cq×Int)) (n.2.2.1,m.1)) (.br (A.c .neq (A.k qd (n.2.2.1,m.1)).2 0) (.ret ((0,0,(0,0,0,0,0),(0,0,0,0,0,0,0),0,false,0,0,([]:List Int),([]:List aU),0,0),(A.k qd (n.2.2.1,m.1)).2)) (.bad 73 "starctl.go:301")))) (.br (A.not (A.k iP n)) (.ret ((0,0,(0,0,0,0,0),(0,0,0,0,0,0,0),0,false,0,0,([]:List Int),([]:List aU),0,0),181)) (.need (A.k (@tt (bu×List Int)) (n.2.2.2.2.2.2.2,n.2.2.2.2.2.2.2.2.1)) (.br (A.c .neq (A.k bA (n.2.2.2.2.2.2.2,n.2.2.2.2.2.2.2.2.1)).2 0) (.br (A.c .neq (A.k bA (n.2.2.2.2.2.2.2,n.2.2.2.2.2.2.2.2.1)).2 0) (.ret ((0,0,(0,0,0,0,0),(0,0,0,0,0,0,0),0,false,0,0,([]:List Int),([]:List aU),0,0),(A.k bA (n.2.2.2.2.2.2.2,n.2.2.2.2.2.2.2.2.1)).2)) (.need (A.k (@tt (cq×Int)) (n.2.2.1,m.1)) (.br (A.c .neq (A.k qd (n.2.2.1,m.1)).2 0) (.ret ((0,0,(0,0,0,0,0),(0,0,0,0,0,0,0),0,false,0,0,([]:List Int),([]:List aU),0,0),(A.k qd (n.2.2.1,m.1)).2)) (.bad 73 "starctl.go:301")))) (.need (A.k (@tt (cq×Int)) (n.2.2.1,m.1)) (.br (A.c .neq (A.k qd (n.2.2.1,m.1)).2 0) (.ret ((0,0,(0,0,0,0,0),(0,0,0,0,0,0,0),0,false,0,0,([]:List Int),([]:List aU),0,0),(A.k qd (n.2.2.1,m.1)).2)) (.br (A.c .gtr (A.k qd (n.2.2.1,m.1)).1.2.1 0) (.ret ((n.1,n.2.1,(A.k qd (n.2.2.1,m.1)).1,n.2.2.2.1,n.2.2.2.2.1,n.2.2.2.2.2.1,n.2.2.2.2.2.2.1,(A.k bA (n.2.2.2.2.2.2.2,n.2.2.2.2.2.2.2.2.1)).1),0)) (.need (A.k (@tt bu) (A.k bA (n.2.2.2.2.2.2.2,n.2.2.2.2.2.2.2.2.1)).1) (.ret ((n.1,n.2.1,(A.k qd (n.2.2.1,m.1)).1,n.2.2.2.1,n.2.2.2.2.1,n.2.2.2.2.2.1,n.2.2.2.2.2.2.1,(A.k M4 (A.k bA (n.2.2.2.2.2.2.2,n.2.2.2.2.2.2.2.2.1)).1).1),(A.k M4 (A.k bA (n.2.2.2.2.2.2.2,n.2.2.2.2.2.2.2.2.1)).1).2)))))))))))
theorem abz{m:ao}{n:Node}:aA Empty.elim (SV aj m n) (Ju m n):=by
 unfold SV Ju
 refine af.2 ⟨rfl,af.2 ⟨rfl,?_⟩⟩
 rw[show aj.k dD (m,n)=bU m n from rfl,show aj.k bA (n.2.2.2.2.2.2.2,n.2.2.2.2.2.2.2.2.1)=BX n.2.2.2.2.2.2.2 n.2.2.2.2.2.2.2.2.1 from rfl,show aj.k iP n=ju n from rfl]
 by_cases h:bU m n=0
 ·rw[decide_eq_true h,om h,cond_true]
  refine(ah (gY h)).2 ?_
  cases h1:ju n
  ·exact(ai rfl).2 (.ret _)
  have hs:=step_ok h h1
  have hr:=Xt h
  have hp:=step_pos h h1
  rw[cond_true]
  refine(ah rfl).2 (af.2 ⟨rfl,(ah rfl).2 (af.2 ⟨rfl,(ah (gY hs)).2 (ap (p:=0<(iG n.2.2.1 m.1).1.2.1) rfl (fun h2=>au ?_ (.ret _)) fun h2=>af.2 ⟨rfl,au ?_ (.ret _)⟩)⟩)⟩)
  ·rw[decide_eq_false (show ¬(iG n.2.2.1 m.1).1.2.1=0 by omega)];rfl
  ·rw[decide_eq_true (show(iG n.2.2.1 m.1).1.2.1=0 by omega)];exact congrArg (Prod.mk _) hr
 ·rw[decide_eq_false h];exact(ai (fw h)).2 ((ai (fw h)).2 (.ret _))
def BB:(ao×Node)→(Node×Int):=fun(m,n)=>Ju m n
def aaw:aB:=⟨[aY,aW], [aW,yI],(@tt (ao×Node)),BB⟩
theorem ZE:Sd 51 aaw:=aF ax bK true 171 [] (fun A (m,n)=>SV A m n) (fc Tryz.func51 (fc Tryz.func90 fz)) (sc rU (sc BE (sc sC (sc aad (sc ael sz))))) fun(m,n) hp h=>abz
def Xi(A:a_)(m:ao)(n:Node)(o:E7):LT (Node×Int) Empty:=.need (A.k (@tt (ao×Node)) (m,n)) (.br (A.c .neq (A.k dD (m,n)) 0) (.br (A.c .neq (A.k dD (m,n)) 0) (.ret ((0,0,(0,0,0,0,0),(0,0,0,0,0,0,0),0,false,0,0,([]:List Int),([]:List aU),0,0),(A.k dD (m,n)))) (.br (A.c .eql o.2.2.2.1 1) (.bad 73 "starctl.go:158") (.br (A.c .eql o.2.2.2.1 2) (.bad 73 "starctl.go:158") (.br (A.c .eql o.2.2.2.1 3) (.bad 73 "starctl.go:158") (.ret ((0,0,(0,0,0,0,0),(0,0,0,0,0,0,0),0,false,0,0,([]:List Int),([]:List aU),0,0),2)))))) (.need (A.k (@tt (bu×List Int)) (n.2.2.2.2.2.2.2,n.2.2.2.2.2.2.2.2.1)) (.br (A.c .neq (A.k bA (n.2.2.2.2.2.2.2,n.2.2.2.2.2.2.2.2.1)).2 0) (.br (A.c .neq (A.k bA (n.2.2.2.2.2.2.2,n.2.2.2.2.2.2.2.2.1)).2 0) (.ret ((0,0,(0,0,0,0,0),(0,0,0,0,0,0,0),0,false,0,0,([]:List Int),([]:List aU),0,0),(A.k bA (n.2.2.2.2.2.2.2,n.2.2.2.2.2.2.2.2.1)).2)) (.br (A.c .eql o.2.2.2.1 1) (.bad 73 "starctl.go:158") (.br (A.c .eql o.2.2.2.1 2) (.bad 73 "starctl.go:158") (.br (A.c .eql o.2.2.2.1 3) (.bad 73 "starctl.go:158") (.ret ((0,0,(0,0,0,0,0),(0,0,0,0,0,0,0),0,false,0,0,([]:List Int),([]:List aU),0,0),2)))))) (.br (A.c .eql o.2.2.2.1 1) (.need (A.k (@tt Node) (n.1,n.2.1,n.2.2.1,n.2.2.2.1,n.2.2.2.2.1,n.2.2.2.2.2.1,n.2.2.2.2.2.2.1,(A.k bA (n.2.2.2.2.2.2.2,n.2.2.2.2.2.2.2.2.1)).1)) (.br (A.not (A.k iP (n.1,n.2.1,n.2.2.1,n.2.2.2.1,n.2.2.2.2.1,n.2.2.2.2.2.1,n.2.2.2.2.2.2.1,(A.k bA (n.2.2.2.2.2.2.2,n.2.2.2.2.2.2.2.2.1)).1))) (.ret ((n.1,n.2.1,n.2.2.1,n.2.2.2.1,n.2.2.2.2.1,n.2.2.2.2.2.1,n.2.2.2.2.2.2.1,(A.k bA (n.2.2.2.2.2.2.2,n.2.2.2.2.2.2.2.2.1)).1),0)) (.need (A.k (@tt (bu×List Int)) ((A.k bA (n.2.2.2.2.2.2.2,n.2.2.2.2.2.2.2.2.1)).1,o.2.2.2.2.2)) (.br (A.c .neq (A.k bA ((A.k bA (n.2.2.2.2.2.2.2,n.2.2.2.2.2.2.2.2.1)).1,o.2.2.2.2.2)).2 0) (.ret ((0,0,(0,0,0,0,0),(0,0,0,0,0,0,0),0,false,0,0,([]:List Int),([]:List aU),0,0),(A.k bA ((A.k bA (n.2.2.2.2.2.2.2,n.2.2.2.2.2.2.2.2.1)).1,o.2.2.2.2.2)).2)) (.ret ((n.1,n.2.1,n.2.2.1,n.2.2.2.1,n.2.2.2.2.1,n.2.2.2.2.2.1,n.2.2.2.2.2.2.1,(A.k bA ((A.k bA (n.2.2.2.2.2.2.2,n.2.2.2.2.2.2.2.2.1)).1,o.2.2.2.2.2)).1),0)))))) (.br (A.c .eql o.2.2.2.1 2) (.need (A.k (@tt Node) (n.1,n.2.1,n.2.2.1,n.2.2.2.1,n.2.2.2.2.1,n.2.2.2.2.2.1,n.2.2.2.2.2.2.1,(A.k bA (n.2.2.2.2.2.2.2,n.2.2.2.2.2.2.2.2.1)).1)) (.br (A.not (A.k iP (n.1,n.2.1,n.2.2.1,n.2.2.2.1,n.2.2.2.2.1,n.2.2.2.2.2.1,n.2.2.2.2.2.2.1,(A.k bA (n.2.2.2.2.2.2.2,n.2.2.2.2.2.2.2.2.1)).1))) (.ret ((n.1,n.2.1,n.2.2.1,n.2.2.2.1,n.2.2.2.2.1,n.2.2.2.2.2.1,n.2.2.2.2.2.2.1,(A.k bA (n.2.2.2.2.2.2.2,n.2.2.2.2.2.2.2.2.1)).1),0)) (.need (A.k (@tt bu) (A.k bA (n.2.2.2.2.2.2.2,n.2.2.2.2.2.2.2.2.1)).1) (.br (A.c .neq (A.k GI (A.k bA (n.2.2.2.2.2.2.2,n.2.2.2.2.2.2.2.2.1)).1).2 0) (.ret ((0,0,(0,0,0,0,0),(0,0,0,0,0,0,0),0,false,0,0,([]:List Int),([]:List aU),0,0),(A.k GI (A.k bA (n.2.2.2.2.2.2.2,n.2.2.2.2.2.2.2.2.1)).1).2)) (.ret ((n.1,n.2.1,n.2.2.1,n.2.2.2.1,n.2.2.2.2.1,n.2.2.2.2.2.1,n.2.2.2.2.2.2.1,(A.k GI (A.k bA (n.2.2.2.2.2.2.2,n.2.2.2.2.2.2.2.2.1)).1).1),0)))))) (.br (A.c .eql o.2.2.2.1 3) (.need (A.k (@tt Node) (n.1,n.2.1,n.2.2.1,n.2.2.2.1,n.2.2.2.2.1,n.2.2.2.2.2.1,n.2.2.2.2.2.2.1,(A.k bA (n.2.2.2.2.2.2.2,n.2.2.2.2.2.2.2.2.1)).1)) (.br (A.not (A.k iP (n.1,n.2.1,n.2.2.1,n.2.2.2.1,n.2.2.2.2.1,n.2.2.2.2.2.1,n.2.2.2.2.2.2.1,(A.k bA (n.2.2.2.2.2.2.2,n.2.2.2.2.2.2.2.2.1)).1))) (.ret ((n.1,n.2.1,n.2.2.1,n.2.2.2.1,n.2.2.2.2.1,n.2.2.2.2.2.1,n.2.2.2.2.2.2.1,(A.k bA (n.2.2.2.2.2.2.2,n.2.2.2.2.2.2.2.2.1)).1),0)) (.need (A.k (@tt (bu×Int)) ((A.k bA (n.2.2.2.2.2.2.2,n.2.2.2.2.2.2.2.2.1)).1,o.2.2.2.2.1)) (.br (A.c .neq (A.k Gp ((A.k bA (n.2.2.2.2.2.2.2,n.2.2.2.2.2.2.2.2.1)).1,o.2.2.2.2.1)).2 0) (.ret ((0,0,(0,0,0,0,0),(0,0,0,0,0,0,0),0,false,0,0,([]:List Int),([]:List aU),0,0),(A.k Gp ((A.k bA (n.2.2.2.2.2.2.2,n.2.2.2.2.2.2.2.2.1)).1,o.2.2.2.2.1)).2)) (.ret ((n.1,n.2.1,n.2.2.1,n.2.2.2.1,n.2.2.2.2.1,n.2.2.2.2.2.1,n.2.2.2.2.2.2.1,(A.k Gp ((A.k bA (n.2.2.2.2.2.2.2,n.2.2.2.2.2.2.2.2.1)).1,o.2.2.2.2.1)).1),0)))))) (.ret ((0,0,(0,0,0,0,0),(0,0,0,0,0,0,0),0,false,0,0,([]:List Int),([]:List aU),0,0),2))))))))
theorem afL{m:ao}{n:Node}{o:E7}:aA Empty.elim (Xi aj m n o) (IV m n o):=by
 unfold Xi IV
 refine af.2 ⟨rfl,?_⟩
 rw[show aj.k dD (m,n)=bU m n from rfl,show aj.k bA (n.2.2.2.2.2.2.2,n.2.2.2.2.2.2.2.2.1)=BX n.2.2.2.2.2.2.2 n.2.2.2.2.2.2.2.2.1 from rfl]
 by_cases h:bU m n=0
 ·rw[decide_eq_true h,om h,cond_true]
  refine(ah (gY h)).2 (af.2 ⟨rfl,(ah rfl).2 (ap (p:=o.2.2.2.1=1) aI (fun k=>af.2 ⟨rfl,?_⟩) fun k=>ap (p:=o.2.2.2.1=2) aI (fun k2=>af.2 ⟨rfl,?_⟩) fun k2=>ap (p:=o.2.2.2.1=3) aI (fun k3=>af.2 ⟨rfl,?_⟩) fun k3=>?_)⟩)
  ·rw[decide_eq_true (show 1≤o.2.2.2.1∧o.2.2.2.1≤3 by omega),decide_eq_true k]
   exact JV (n:=n) (af.2 ⟨rfl,A9 (r:=BX n.2.2.2.2.2.2.2 o.2.2.2.2.2) (fun h=>rfl)⟩)
  ·rw[decide_eq_true (show 1≤o.2.2.2.1∧o.2.2.2.1≤3 by omega),decide_eq_false k,decide_eq_true k2]
   exact JV (n:=n) (af.2 ⟨rfl,A9 (r:=Qk n.2.2.2.2.2.2.2) (fun h=>rfl)⟩)
  ·rw[decide_eq_true (show 1≤o.2.2.2.1∧o.2.2.2.1≤3 by omega),decide_eq_false k,decide_eq_false k2]
   exact JV (n:=n) (af.2 ⟨rfl,A9 (r:=Dw n.2.2.2.2.2.2.2 o.2.2.2.2.1) (fun h=>rfl)⟩)
  ·exact au (by rw[decide_eq_false (show ¬(1≤o.2.2.2.1∧o.2.2.2.1≤3) by omega)];rfl) (.ret _)
 ·rw[decide_eq_false h];exact(ai (fw h)).2 ((ai (fw h)).2 (.ret _))
def A7:(ao×Node×E7)→(Node×Int):=fun(m,c,k)=>IV m c k
def aco:aB:=⟨[aY,aW,PL], [aW,yI],(@tt (ao×Node×E7)),A7⟩
theorem aey:Sd 38 aco:=aF ax bK true 208 [] (fun A (m,n,o)=>Xi A m n o) (fc Tryz.func38 (fc Tryz.func90 (fc Tryz.func95 (fc Tryz.func96 (fc Tryz.func97 fz))))) (sc rU (sc BE (sc sC (sc Zb (sc Yx sz))))) fun(m,n,o) hp h=>afL
open Go.Ev.Pl
def XF(x:Node):Node:=(x.1,4,x.2.2.1,x.2.2.2.1,x.2.2.2.2.1,false,x.2.2.2.2.2.2)
theorem MG{m:ao}{x:Node}{r:Int}{d:List Int}(hr:(bif decide ((jl m x.2.2.1 x.2.2.2.2.2.2.2.2.2.2.2).2=0) then(jl m x.2.2.1 x.2.2.2.2.2.2.2.2.2.2.2).1 else 0)=r)(hd:(bif decide ((bQ m x.2.2.1.2.2.1 x.1).1=3) then([]:List Int) else(nv x.2.2.2.2.2.2.2 (D7 m x.2.2.1.2.2.1 x.1)).1)=d):uM m (XF x)=((bQ m x.2.2.1.2.2.1 x.1).1,r,x.2.2.1,0,d):=by subst hr hd;rfl
theorem Cq{v:eT}(h:gZ v=0):(gx v).2.1=1∨(gx v).2.1=2:=by
 obtain⟨a,b,c,d,e,f,g⟩:=v
 simp only[gx,t23,LT.val,al,JM,h]
 cases aj.c .leq d e
 ·exact .inl rfl
 ·exact .inr rfl
theorem Nx{v:eT}(h:gZ v=0):(iN v).2.1=1∨(iN v).2.1=2∨(iN v).2.1=3:=by
 obtain⟨a,b,c,d,e,f,g⟩:=v
 have h23:=Cq h
 simp only[iN,t27,LT.val,al,JM,h]
 cases aj.c .eql d 0
 ·rcases h23 with h|h
  ·exact .inl h
  ·exact .inr (.inl h)
 ·cases aj.c .eql e 0
  ·rcases h23 with h|h
   ·exact .inl h
   ·exact .inr (.inl h)
  ·exact .inr (.inr rfl)
theorem MY{v:eT}(h:gZ v=0):(iN v).2.2=0:=by
 have h23:=xc h
 obtain⟨a,b,c,d,e,f,g⟩:=v
 simp only[iN,t27,LT.val,al,JM,h]
 cases aj.c .eql d 0
 ·exact h23
 ·cases aj.c .eql e 0
  ·exact h23
  ·rfl
structure Nb where
 (a0:Int)
structure L5 where
 (b11:ao) (b12:Node)
structure Tq where
 (c0:Int) (c11:ao) (c12:Node)
structure KA where
 (fD:ao) (gX:Node) (Gl:gb)
structure NC where
 (e10:ao) (e11:Node) (e12:eT)
inductive OQ where
 | c0 (p:Nb)
 | c1 (p:L5)
 | c2 (p:Tq)
 | c3 (p:KA)
 | c4 (p:NC)
noncomputable def W3:OQ→fL
 | .c0 p=>⟨[⟨50,82,(en [(4,.ptr 0 0),(5,.ptr 1 0),(8,.dp),(9,vi p.a0)]),[.code (cw Tryz.f50 [1,1,0,0]),.code (cw Tryz.f50 [1,1,0,1]),.code (cw Tryz.f50 [1,1,1])],[],none⟩],[.flat false [vi 0,vi 0,vi 0,vi 0,vi 0,vi 0,vi 0,vi 0,vi 0,vi 0,vi 0,vi 0,vi 0,vi 0,vi 0,vb false,vi 0,vi 0,.bi true,.bi true,vi 0,vi 0],.flat false [vi 0,vi 0,vi 0,vi 0,vi 0,vi 0,vi 0,vi 0,.bi true],.dead]⟩
 | .c1 p=>⟨[⟨50,82,(en [(4,.ptr 0 0),(5,.ptr 1 0),(8,.ptr 2 0),(9,vi 0)]),[.code (cw Tryz.f50 [1,1,0,0]),.code (cw Tryz.f50 [1,1,0,1]),.code (cw Tryz.f50 [1,1,1])],[],none⟩],[.flat false [vi 0,vi 0,vi 0,vi 0,vi 0,vi 0,vi 0,vi 0,vi 0,vi 0,vi 0,vi 0,vi 0,vi 0,vi 0,vb false,vi 0,vi 0,.bi true,.bi true,vi 0,vi 0],.flat false [vi 0,vi 0,vi 0,vi 0,vi 0,vi 0,vi 0,vi 0,.bi true],.flat false (dc aY p.b11++dc aW p.b12),.dead]⟩
 | .c2 p=>⟨[⟨50,82,(en [(4,.ptr 0 0),(5,.ptr 1 0),(8,.ptr 2 0),(33,vi p.c0)]),[.code (cw Tryz.f50 [1,1,1,0,1,0,0]),.code (cw Tryz.f50 [1,1,1,0,1,0,1]),.inBlock 0,.code (cw Tryz.f50 [1,1,1,1])],[],none⟩],[.flat false [vi 0,vi 0,vi 0,vi 0,vi 0,vi 0,vi 0,vi 0,vi 0,vi 0,vi 0,vi 0,vi 0,vi 0,vi 0,vb false,vi 0,vi 0,.bi true,.bi true,vi 0,vi 0],.flat false [vi 0,vi 0,vi 0,vi 0,vi 0,vi 0,vi 0,vi 0,.bi true],.flat false (dc aY p.c11++dc aW p.c12),.dead]⟩
 | .c3 p=>⟨[⟨50,82,(en [(4,.ptr 0 0),(5,.ptr 1 0),(8,.ptr 2 0),(10,.ptr 3 0)]),[.code (cw Tryz.f50 [1,1,1,0,1,0,1,0,1,1,0]),.code (cw Tryz.f50 [1,1,1,0,1,0,1,0,1,1,1]),.inBlock 0,.code (cw Tryz.f50 [1,1,1,1])],[],none⟩],[.flat false [vi 0,vi 0,vi 0,vi 0,vi 0,vi 0,vi 0,vi 0,vi 0,vi 0,vi 0,vi 0,vi 0,vi 0,vi 0,vb false,vi 0,vi 0,.bi true,.bi true,vi 0,vi 0],.flat false [vi 0,vi 0,vi 0,vi 0,vi 0,vi 0,vi 0,vi 0,.bi true],.flat false (dc aY p.fD++dc aW p.gX),.flat false (dc pX p.Gl),.dead]⟩
 | .c4 p=>⟨[⟨50,82,(en [(4,.ptr 0 0),(5,.ptr 1 0),(8,.ptr 2 0),(10,.ptr 3 0)]),[.code (cw Tryz.f50 [1,1,1,0,1,0,1,0,1,1,0]),.code (cw Tryz.f50 [1,1,1,0,1,0,1,0,1,1,1]),.inBlock 0,.code (cw Tryz.f50 [1,1,1,1])],[],none⟩],[.flat false [vi 0,vi 0,vi 0,vi 0,vi 0,vi 0,vi 0,vi 0,vi 0,vi 0,vi 0,vi 0,vi 0,vi 0,vi 0,vb false,vi 0,vi 0,.bi true,.bi true,vi 0,vi 0],.flat false [vi 0,vi 0,vi 0,vi 0,vi 0,vi 0,vi 0,vi 0,.bi true],.flat false (dc aY p.e10++dc aW p.e11),.flat false (dc iK p.e12 ++ [vi 0,.bi true]),.dead]⟩
def UM(A:a_)(m:ao)(n:Node):LT (Node×gb×Bool×Int) OQ:=.need (A.k (@tt Node) n) (.br (A.k iP n) (.need (A.k (@tt (ao×Node)) (m,n)) (.br (A.c .neq (A.k dD (m,n)) 0) (.more (.c0 ⟨(A.k dD (m,n))⟩)) (.br (A.not (A.c .eql n.2.2.1.2.1 n.1)) (.more (.c0 ⟨181⟩)) (.need (A.k (@tt (bu×List Int)) (n.2.2.2.2.2.2.2,n.2.2.2.2.2.2.2.2.1)) (.br (A.c .neq (A.k bA (n.2.2.2.2.2.2.2,n.2.2.2.2.2.2.2.2.1)).2 0) (.more (.c0 ⟨(A.k bA (n.2.2.2.2.2.2.2,n.2.2.2.2.2.2.2.2.1)).2⟩)) (.more (.c1 ⟨m,(n.1,n.2.1,n.2.2.1,n.2.2.2.1,n.2.2.2.2.1,n.2.2.2.2.2.1,n.2.2.2.2.2.2.1,(A.k bA (n.2.2.2.2.2.2.2,n.2.2.2.2.2.2.2.2.1)).1)⟩))))))) (.need (A.k (@tt (ao×Node)) (m,n)) (.br (A.c .neq (A.k dD (m,n)) 0) (.more (.c0 ⟨(A.k dD (m,n))⟩)) (.more (.c0 ⟨181⟩)))))
def pT(A:a_):OQ→LT (Node×gb×Bool×Int) OQ
 | .c0 p=>.br (A.c .neq p.a0 0) (.ret ((0,0,(0,0,0,0,0),(0,0,0,0,0,0,0),0,false,0,0,([]:List Int),([]:List aU),0,0),(0,0,(0,0,0,0,0),0,([]:List Int)),false,p.a0)) (.bad 73 "starctl.go:171")
 | .c1 p=>.br (A.c .neq 0 0) (.ret ((0,0,(0,0,0,0,0),(0,0,0,0,0,0,0),0,false,0,0,([]:List Int),([]:List aU),0,0),(0,0,(0,0,0,0,0),0,([]:List Int)),false,0)) (.br (A.c .eql p.b12.2.1 3) (.need (A.k (@tt eT) p.b12.2.2.2.1) (.br (A.c .eql (A.k iN p.b12.2.2.2.1).2.2 0) (.br (A.c .eql (A.k iN p.b12.2.2.2.1).2.1 1) (.more (.c2 ⟨(A.k iN p.b12.2.2.2.1).2.1,p.b11,(p.b12.1,p.b12.2.1,(p.b12.2.2.1.1,p.b12.2.2.1.2.1,p.b12.2.2.1.2.2.1,p.b12.2.2.1.2.2.2.1,(A.k iN p.b12.2.2.2.1).1.2.2.1),(A.k iN p.b12.2.2.2.1).1,p.b12.2.2.2.2)⟩)) (.more (.c2 ⟨(A.k iN p.b12.2.2.2.1).2.1,p.b11,p.b12⟩))) (.more (.c2 ⟨(A.k iN p.b12.2.2.2.1).2.1,p.b11,p.b12⟩)))) (.br (A.c .eql p.b12.2.1 2) (.br (A.c .lss p.b12.2.2.2.1.2.2.2.1 2) (.more (.c2 ⟨4,p.b11,p.b12⟩)) (.br (A.c .leq p.b12.2.2.2.1.2.2.2.1 p.b12.2.2.2.1.2.2.2.2.1) (.more (.c2 ⟨4,p.b11,p.b12⟩)) (.need (A.k (@tt eT) p.b12.2.2.2.1) (.br (A.c .eql (A.k gx p.b12.2.2.2.1).2.2 0) (.br (A.c .eql (A.k gx p.b12.2.2.2.1).2.1 1) (.more (.c2 ⟨(A.k gx p.b12.2.2.2.1).2.1,p.b11,(p.b12.1,p.b12.2.1,(p.b12.2.2.1.1,p.b12.2.2.1.2.1,p.b12.2.2.1.2.2.1,p.b12.2.2.1.2.2.2.1,(A.k gx p.b12.2.2.2.1).1.2.2.1),(A.k gx p.b12.2.2.2.1).1,p.b12.2.2.2.2)⟩)) (.more (.c2 ⟨(A.k gx p.b12.2.2.2.1).2.1,p.b11,p.b12⟩))) (.more (.c2 ⟨(A.k gx p.b12.2.2.2.1).2.1,p.b11,p.b12⟩)))))) (.need (A.k (@tt eT) p.b12.2.2.2.1) (.br (A.c .eql (A.k gx p.b12.2.2.2.1).2.2 0) (.br (A.c .eql (A.k gx p.b12.2.2.2.1).2.1 1) (.more (.c2 ⟨(A.k gx p.b12.2.2.2.1).2.1,p.b11,(p.b12.1,p.b12.2.1,(p.b12.2.2.1.1,p.b12.2.2.1.2.1,p.b12.2.2.1.2.2.1,p.b12.2.2.1.2.2.2.1,(A.k gx p.b12.2.2.2.1).1.2.2.1),(A.k gx p.b12.2.2.2.1).1,p.b12.2.2.2.2)⟩)) (.more (.c2 ⟨(A.k gx p.b12.2.2.2.1).2.1,p.b11,p.b12⟩))) (.more (.c2 ⟨(A.k gx p.b12.2.2.2.1).2.1,p.b11,p.b12⟩))))))
 | .c2 p=>.br (A.c .eql p.c0 1) (.need (A.k (@tt (ao×Int×Int)) (p.c11,p.c12.2.2.1.2.2.1,p.c12.1)) (.need (A.k (@tt (ao×cq×Int)) (p.c11,p.c12.2.2.1,p.c12.2.2.2.2.2.2.2.2.2.2.2)) (.br (A.c .eql (A.k rE (p.c11,p.c12.2.2.1,p.c12.2.2.2.2.2.2.2.2.2.2.2)).2 0) (.br (A.c .neq (A.k dJ (p.c11,p.c12.2.2.1.2.2.1,p.c12.1)).1 3) (.need (A.and (A.c .leq 0 p.c12.2.2.1.2.2.1) (A.c .lss p.c12.2.2.1.2.2.1 (A.l p.c11.2.2.2.2.2.2.2))) (.need (A.and (A.c .leq 0 p.c12.1) (A.c .lss p.c12.1 (A.l (A.n aV p.c11.2.2.2.2.2.2.2 p.c12.2.2.1.2.2.1:Mode).1))) (.need (A.k (@tt (bu×Int)) (p.c12.2.2.2.2.2.2.2,(A.n yI (A.n aV p.c11.2.2.2.2.2.2.2 p.c12.2.2.1.2.2.1:Mode).1 p.c12.1:Int))) (.more (.c3 ⟨p.c11,(p.c12.1,4,p.c12.2.2.1,p.c12.2.2.2.1,p.c12.2.2.2.2.1,false,p.c12.2.2.2.2.2.2),((A.k dJ (p.c11,p.c12.2.2.1.2.2.1,p.c12.1)).1,(A.k rE (p.c11,p.c12.2.2.1,p.c12.2.2.2.2.2.2.2.2.2.2.2)).1,p.c12.2.2.1,0,(A.k q9 (p.c12.2.2.2.2.2.2.2,(A.n yI (A.n aV p.c11.2.2.2.2.2.2.2 p.c12.2.2.1.2.2.1:Mode).1 p.c12.1:Int))).1)⟩))))) (.more (.c4 ⟨p.c11,(p.c12.1,4,p.c12.2.2.1,p.c12.2.2.2.1,p.c12.2.2.2.2.1,false,p.c12.2.2.2.2.2.2),((A.k dJ (p.c11,p.c12.2.2.1.2.2.1,p.c12.1)).1,(A.k rE (p.c11,p.c12.2.2.1,p.c12.2.2.2.2.2.2.2.2.2.2.2)).1,p.c12.2.2.1)⟩))) (.br (A.c .neq (A.k dJ (p.c11,p.c12.2.2.1.2.2.1,p.c12.1)).1 3) (.need (A.and (A.c .leq 0 p.c12.2.2.1.2.2.1) (A.c .lss p.c12.2.2.1.2.2.1 (A.l p.c11.2.2.2.2.2.2.2))) (.need (A.and (A.c .leq 0 p.c12.1) (A.c .lss p.c12.1 (A.l (A.n aV p.c11.2.2.2.2.2.2.2 p.c12.2.2.1.2.2.1:Mode).1))) (.need (A.k (@tt (bu×Int)) (p.c12.2.2.2.2.2.2.2,(A.n yI (A.n aV p.c11.2.2.2.2.2.2.2 p.c12.2.2.1.2.2.1:Mode).1 p.c12.1:Int))) (.more (.c3 ⟨p.c11,(p.c12.1,4,p.c12.2.2.1,p.c12.2.2.2.1,p.c12.2.2.2.2.1,false,p.c12.2.2.2.2.2.2),((A.k dJ (p.c11,p.c12.2.2.1.2.2.1,p.c12.1)).1,0,p.c12.2.2.1,0,(A.k q9 (p.c12.2.2.2.2.2.2.2,(A.n yI (A.n aV p.c11.2.2.2.2.2.2.2 p.c12.2.2.1.2.2.1:Mode).1 p.c12.1:Int))).1)⟩))))) (.more (.c4 ⟨p.c11,(p.c12.1,4,p.c12.2.2.1,p.c12.2.2.2.1,p.c12.2.2.2.2.1,false,p.c12.2.2.2.2.2.2),((A.k dJ (p.c11,p.c12.2.2.1.2.2.1,p.c12.1)).1,0,p.c12.2.2.1)⟩)))))) (.br (A.c .eql p.c0 2) (.ret ((p.c12.1,5,(0,0,0,0,0),(0,0,0,0,0,0,0),0,false,1,p.c12.2.2.2.2.2.2.2),(0,0,(0,0,0,0,0),0,([]:List Int)),false,0)) (.br (A.c .eql p.c0 3) (.need (A.k (@tt (ao×Int)) (p.c11,p.c12.1)) (.ret ((p.c12.1,1,(0,0,0,0,0),(0,0,0,0,0,0,0),(A.k qh (p.c11,p.c12.1)).1,p.c12.2.2.2.2.2.1,2,p.c12.2.2.2.2.2.2.2),(0,0,(0,0,0,0,0),0,([]:List Int)),false,0))) (.need (A.k (@tt (ao×Int)) (p.c11,p.c12.1)) (.ret ((p.c12.1,1,(0,0,0,0,0),(0,0,0,0,0,0,0),(A.k yA (p.c11,p.c12.1)).1,p.c12.2.2.2.2.2),(0,0,(0,0,0,0,0),0,([]:List Int)),false,0)))))
 | .c3 p=>.need (A.k (@tt (ao×cq×Int)) (p.fD,p.gX.2.2.1,p.Gl.2.1)) (.need (A.k (@tt (ao×cq×Int)) (p.fD,p.gX.2.2.1,p.Gl.2.1)) (.br (A.c .eql (A.k gD (p.fD,p.gX.2.2.1,p.Gl.2.1)).2 0) (.ret ((p.gX.1,p.gX.2.1,(A.k gD (p.fD,p.gX.2.2.1,p.Gl.2.1)).1,p.gX.2.2.2),p.Gl,true,0)) (.ret (p.gX,p.Gl,true,0))))
 | .c4 p=>.need (A.k (@tt (ao×cq×Int)) (p.e10,p.e11.2.2.1,p.e12.2.1)) (.need (A.k (@tt (ao×cq×Int)) (p.e10,p.e11.2.2.1,p.e12.2.1)) (.br (A.c .eql (A.k gD (p.e10,p.e11.2.2.1,p.e12.2.1)).2 0) (.ret ((p.e11.1,p.e11.2.1,(A.k gD (p.e10,p.e11.2.2.1,p.e12.2.1)).1,p.e11.2.2.2),(p.e12.1,p.e12.2.1,p.e12.2.2,0,([]:List Int)),true,0)) (.ret (p.e11,(p.e12.1,p.e12.2.1,p.e12.2.2,0,([]:List Int)),true,0))))
theorem TH{p:KA}:aA (pT aj) (.more (.c3 p)) ((p.gX.1,p.gX.2.1,gf p.fD p.gX.2.2.1 p.Gl.2.1,p.gX.2.2.2),p.Gl,true,0):=by
 rw[ak,pT,gf]
 rw[show ∀x,aj.k gD x=lF x.1 x.2.1 x.2.2 from fun _=>rfl]
 refine af.2 ⟨rfl,af.2 ⟨rfl,ap (p:=(lF p.fD p.gX.2.2.1 p.Gl.2.1).2=0) aI (fun g=>?_) fun g=>?_⟩⟩
 ·exact au (by rw[decide_eq_true g];rfl) (.ret _)
 ·exact au (by rw[decide_eq_false g];rfl) (.ret _)
theorem Xn{p:NC}:aA (pT aj) (.more (.c4 p)) ((p.e11.1,p.e11.2.1,gf p.e10 p.e11.2.2.1 p.e12.2.1,p.e11.2.2.2),(p.e12.1,p.e12.2.1,p.e12.2.2,0,([]:List Int)),true,0):=by
 rw[ak,pT,gf]
 rw[show ∀x,aj.k gD x=lF x.1 x.2.1 x.2.2 from fun _=>rfl]
 refine af.2 ⟨rfl,af.2 ⟨rfl,ap (p:=(lF p.e10 p.e11.2.2.1 p.e12.2.1).2=0) aI (fun g=>?_) fun g=>?_⟩⟩
 ·exact au (by rw[decide_eq_true g];rfl) (.ret _)
 ·exact au (by rw[decide_eq_false g];rfl) (.ret _)
theorem Mz{m:ao}{x:Node}(hm:dV m=true)(h1:0≤x.1∧x.1≤m.1-1)(h2:0≤x.2.2.1.2.2.1∧x.2.2.1.2.2.1<dB m):aA (pT aj) (.more (.c2 ⟨1,m,x⟩)) (Es m (XF x)):=by
 have hx:=gk (jL hm h2.1 h2.2)
 rw[ak,pT]
 simp only
 rw[show aj.k dJ (m,x.2.2.1.2.2.1,x.1)=bQ m x.2.2.1.2.2.1 x.1 from rfl,show aj.k rE (m,x.2.2.1,x.2.2.2.2.2.2.2.2.2.2.2)=jl m x.2.2.1 x.2.2.2.2.2.2.2.2.2.2.2 from rfl,show aj.k q9 (x.2.2.2.2.2.2.2,(aj.n yI (aj.n aV m.2.2.2.2.2.2.2 x.2.2.1.2.2.1:Mode).1 x.1:Int))=nv x.2.2.2.2.2.2.2 (D7 m x.2.2.1.2.2.1 x.1) from rfl]
 have key:∀r:Int,(bif decide ((jl m x.2.2.1 x.2.2.2.2.2.2.2.2.2.2.2).2=0) then(jl m x.2.2.1 x.2.2.2.2.2.2.2.2.2.2.2).1 else 0)=r→aA (pT aj) (.br (aj.c .neq (bQ m x.2.2.1.2.2.1 x.1).1 3) (.need (aj.and (aj.c .leq 0 x.2.2.1.2.2.1) (aj.c .lss x.2.2.1.2.2.1 (aj.l m.2.2.2.2.2.2.2))) (.need (aj.and (aj.c .leq 0 x.1) (aj.c .lss x.1 (aj.l (aj.n aV m.2.2.2.2.2.2.2 x.2.2.1.2.2.1:Mode).1))) (.need true (.more (.c3 ⟨m,XF x,((bQ m x.2.2.1.2.2.1 x.1).1,r,x.2.2.1,0,(nv x.2.2.2.2.2.2.2 (D7 m x.2.2.1.2.2.1 x.1)).1)⟩))))) (.more (.c4 ⟨m,XF x,((bQ m x.2.2.1.2.2.1 x.1).1,r,x.2.2.1)⟩))) (Es m (XF x)):=fun r hr=>
  ap (p:=¬(bQ m x.2.2.1.2.2.1 x.1).1=3) aS (fun k=>af.2 ⟨iy h2.1 h2.2,af.2 ⟨gV hx.1 h1.1 (by omega),af.2 ⟨rfl,by rw[Es,MG hr (by rw[decide_eq_false k])];exact TH⟩⟩⟩) fun k=>by rw[Es,MG hr (by rw[decide_eq_true (Decidable.not_not.1 k)])];exact Xn
 refine(ai rfl).2 (af.2 ⟨rfl,af.2 ⟨rfl,ap (p:=(jl m x.2.2.1 x.2.2.2.2.2.2.2.2.2.2.2).2=0) aI (fun g=>?_) fun g=>?_⟩⟩)
 ·exact key _ (by rw[decide_eq_true g];rfl)
 ·exact key _ (by rw[decide_eq_false g];rfl)
theorem F3{m:ao}{n:Node}{w:Int}(hw:w=2∨w=3∨w=4)(hv:(jR n).2=w):aA (pT aj) (.more (.c2 ⟨w,m,n⟩)) (qp m n):=by
 rw[ak,pT,qp,hv]
 simp only
 rcases hw with rfl|rfl|rfl
 ·exact(ah rfl).2 ((ai rfl).2 (.ret _))
 ·exact(ah rfl).2 ((ah rfl).2 ((ai rfl).2 (af.2 ⟨rfl,.ret _⟩)))
 ·exact(ah rfl).2 ((ah rfl).2 ((ah rfl).2 (af.2 ⟨rfl,.ret _⟩)))
theorem F_{m:ao}{n:Node}{r:eT×Int×Int}(h:bU m n=0)(hi:ju n=true)(hv:jR n=(r.1,r.2.1))(he:r.2.2=0)(hr:r.2.1=1∨r.2.1=2∨r.2.1=3):aA (pT aj) (.br (aj.c .eql r.2.2 0) (.br (aj.c .eql r.2.1 1) (.more (.c2 ⟨r.2.1,m,pY n r.1⟩)) (.more (.c2 ⟨r.2.1,m,n⟩))) (.more (.c2 ⟨r.2.1,m,n⟩))) (qp m n):=by
 refine(ai (F9 he)).2 (ap (p:=r.2.1=1) aI (fun g=>?_) fun g=>F3 (by omega) (by rw[hv]))
 have e:qp m n=Es m (XF (pY n r.1)):=by rw[qp,hv,g];rfl
 rw[e,g]
 exact Mz (dz h).1 (fe.1 (dz h).2).1 (B4 (rC h hi).1).2.1
theorem Vi{p:L5}{m:ao}{n:Node}(h1:p.b11=m)(h2:p.b12=n)(h:bU m n=0)(hi:ju n=true):aA (pT aj) (.more (.c1 p)) (qp m n):=by
 subst h1 h2
 have hz:=(rC h hi).2.1
 rw[ak,pT]
 refine(ah rfl).2 (ap (p:=p.b12.2.1=3) aI (fun g=>af.2 ⟨rfl,?_⟩) fun g=>ap (p:=p.b12.2.1=2) aI (fun g2=>ap (p:=p.b12.2.2.2.1.2.2.2.1<2) rfl (fun k=>?_) fun k=>ap (p:=p.b12.2.2.2.1.2.2.2.1≤p.b12.2.2.2.1.2.2.2.2.1) rfl (fun k2=>?_) fun k2=>af.2 ⟨rfl,?_⟩) fun g2=>af.2 ⟨rfl,?_⟩)
 ·exact F_ (r:=iN p.b12.2.2.2.1) h hi (by rw[jR,decide_eq_false (show ¬p.b12.2.1=2 by omega),decide_eq_true g];rfl) (MY hz) (Nx hz)
 ·exact F3 (.inr (.inr rfl)) (by rw[jR,decide_eq_true g2,decide_eq_true k];rfl)
 ·exact F3 (.inr (.inr rfl)) (by rw[jR,decide_eq_true g2,decide_eq_true k2,Bool.or_true];rfl)
 ·exact F_ (r:=gx p.b12.2.2.2.1) h hi (by rw[jR,decide_eq_true g2,decide_eq_false k,decide_eq_false k2,decide_eq_false g];rfl) (xc hz) ((Cq hz).elim .inl fun x=>.inr (.inl x))
 ·exact F_ (r:=gx p.b12.2.2.2.1) h hi (by rw[jR,decide_eq_false g2,decide_eq_false g];rfl) (xc hz) ((Cq hz).elim .inl fun x=>.inr (.inl x))
theorem Cy{p:Nb}(h:¬p.a0=0):aA (pT aj) (.more (.c0 p)) (ed,qG,false,p.a0):=by
 rw[ak,pT];exact(ai (fw h)).2 (.ret _)
theorem agb{m:ao}{n:Node}:aA (pT aj) (UM aj m n) (Ra m n):=by
 unfold UM Ra
 rw[show aj.k iP n=ju n from rfl,show aj.k dD (m,n)=bU m n from rfl,show aj.k bA (n.2.2.2.2.2.2.2,n.2.2.2.2.2.2.2.2.1)=BX n.2.2.2.2.2.2.2 n.2.2.2.2.2.2.2.2.1 from rfl]
 refine af.2 ⟨rfl,?_⟩
 by_cases h:bU m n=0
 ·rw[decide_eq_true h,om h,cond_true]
  cases hi:ju n
  ·exact(ah rfl).2 (af.2 ⟨rfl,(ah (gY h)).2 (Cy (by decide))⟩)
  refine(ai rfl).2 (af.2 ⟨rfl,(ah (gY h)).2 (ap (p:=¬n.2.2.1.2.1=n.1) CG (fun hp=>?_) fun hp=>af.2 ⟨rfl,(ah rfl).2 ?_⟩)⟩)
  ·rw[decide_eq_false hp];exact Cy (by decide)
  ·rw[decide_eq_true (Decidable.not_not.1 hp)];exact Vi rfl rfl h hi
 ·rw[decide_eq_false h]
  cases ju n
  ·exact(ah rfl).2 (af.2 ⟨rfl,(ai (fw h)).2 (Cy h)⟩)
  ·exact(ai rfl).2 (af.2 ⟨rfl,(ai (fw h)).2 (Cy h)⟩)
def jU:(ao×Node)→(Node×gb×Bool×Int):=fun(m,n)=>Ra m n
def X9:aB:=⟨[aY,aW], [aW,pX,.bool,yI],(@tt (ao×Node)),jU⟩
theorem Sn:Sd 50 X9:=aL ax bK true 107 [] [⟨50,2, [[4,5,8,9]]⟩,⟨50,6, [[4,5,8,33]]⟩,⟨50,9, [[4,5,8,10]]⟩] (fun A (m,n)=>UM A m n) pT W3 (fc Tryz.func50 (fc Tryz.func90 (fc Tryz.func92 (fc Tryz.func122 (fc Tryz.func123 (fc Tryz.func124 fz)))))) (sc Vg (sc afZ (sc rU (sc BE (sc sC (sc Du (sc N2 (sc Bt (sc EK (sc R2 (sc Sm sz))))))))))) (fun A y=>match y with |.c0 p=>⟨23,by kernel_rfl,by kernel_rfl⟩|.c1 p=>⟨145,by kernel_rfl,by kernel_rfl⟩|.c2 p=>⟨145,by kernel_rfl,by kernel_rfl⟩|.c3 p=>⟨58,by kernel_rfl,by kernel_rfl⟩|.c4 p=>⟨58,by kernel_rfl,by kernel_rfl⟩) fun(m,n) hp h=>agb
open Go.Ev.Pl
structure Kk where
 (a0:List Seen) (a1:Int) (a2:Node)
structure VO where
 (b0:List Seen) (b2:Node) (ib:ao) (sR:Node)
structure Ti where
 (c0:Int) (c2:Node) (zT:gj)
structure V7 where
 (d0:Int) (d1:Bool) (d2:Node) (XI:ao) (XH:Node) (JL:gj)
structure VK where
 (e0:Int) (e22:eT)
structure WY where
 (f0:Int) (f16:gj) (f17:eT)
structure Mm where
 (g0:Int) (g1:Bool) (g16:ao) (g17:Node) (g24:eT)
structure Li where
 (h0:Int) (h1:Bool) (h16:ao) (iM:Node) (h18:gj) (vF:eT)
structure LG where
 (z80:Bool) (Dv:ao) (wo:Node) (NT:eT)
structure K2 where
 (z90:Bool) (zW:ao) (n_:Node) (xr:gj) (NU:eT)
structure Ij where
 (aci:ao) (vu:Node) (HV:eT)
structure Iq where
 (acL:ao) (vg:Node) (Ek:gj) (G1:eT)
inductive PX where
 | c0 (p:Kk)
 | c1 (p:VO)
 | c2 (p:Ti)
 | c3 (p:V7)
 | c4 (p:VK)
 | c5 (p:WY)
 | c6 (p:Mm)
 | c7 (p:Li)
 | c8 (p:LG)
 | c9 (p:K2)
 | c10 (p:Ij)
 | c11 (p:Iq)
noncomputable def VY:PX→fL
 | .c0 p=>⟨[⟨54,135,(en [(2,.sl fA p.a0),(4,.ptr 0 0),(6,.ptr 1 0),(7,.ptr 2 0),(9,.dp),(10,vi p.a1)]),[.code (cw Tryz.f54 [1,1,0,0]),.code (cw Tryz.f54 [1,1,0,1]),.code (cw Tryz.f54 [1,1,1])],[],none⟩],[.flat false (dc aW p.a2),.flat false [vi 0,vi 0,vi 0,vi 0,vi 0,vi 0,vi 0,vi 0,vi 0,vi 0,vi 0,vi 0,vi 0,vi 0,vi 0,vb false,vi 0,vi 0,.bi true,.bi true,vi 0,vi 0],.flat false [vi 0,vi 0,vi 0,vi 0,vi 0,vi 0,vi 0,vi 0,vi 0,vi 0,vi 0,.bi true,vi 0],.dead]⟩
 | .c1 p=>⟨[⟨54,135,(en [(2,.sl fA p.b0),(4,.ptr 0 0),(6,.ptr 1 0),(7,.ptr 2 0),(9,.ptr 3 0),(10,vi 0)]),[.code (cw Tryz.f54 [1,1,0,0]),.code (cw Tryz.f54 [1,1,0,1]),.code (cw Tryz.f54 [1,1,1])],[],none⟩],[.flat false (dc aW p.b2),.flat false [vi 0,vi 0,vi 0,vi 0,vi 0,vi 0,vi 0,vi 0,vi 0,vi 0,vi 0,vi 0,vi 0,vi 0,vi 0,vb false,vi 0,vi 0,.bi true,.bi true,vi 0,vi 0],.flat false [vi 0,vi 0,vi 0,vi 0,vi 0,vi 0,vi 0,vi 0,vi 0,vi 0,vi 0,.bi true,vi 0],.flat false (dc aY p.ib++dc aW p.sR),.dead]⟩
 | .c2 p=>⟨[⟨54,135,(en [(4,.ptr 0 0),(6,.ptr 1 0),(7,.ptr 2 0),(9,.dp),(11,vi p.c0),(12,.ptr 3 0),(13,vb false)]),[.code (cw Tryz.f54 [1,1,1,1,1,1,1,0,0]),.code (cw Tryz.f54 [1,1,1,1,1,1,1,0,1]),.code (cw Tryz.f54 [1,1,1,1,1,1,1,1])],[],none⟩],[.flat false (dc aW p.c2),.flat false [vi 0,vi 0,vi 0,vi 0,vi 0,vi 0,vi 0,vi 0,vi 0,vi 0,vi 0,vi 0,vi 0,vi 0,vi 0,vb false,vi 0,vi 0,.bi true,.bi true,vi 0,vi 0],.flat false [vi 0,vi 0,vi 0,vi 0,vi 0,vi 0,vi 0,vi 0,vi 0,vi 0,vi 0,.bi true,vi 0],.flat false (dc k6 p.zT),.dead]⟩
 | .c3 p=>⟨[⟨54,135,(en [(4,.ptr 0 0),(6,.ptr 1 0),(7,.ptr 2 0),(9,.ptr 3 0),(11,vi p.d0),(12,.ptr 4 0),(13,vb p.d1)]),[.code (cw Tryz.f54 [1,1,1,1,1,1,1,0,0]),.code (cw Tryz.f54 [1,1,1,1,1,1,1,0,1]),.code (cw Tryz.f54 [1,1,1,1,1,1,1,1])],[],none⟩],[.flat false (dc aW p.d2),.flat false [vi 0,vi 0,vi 0,vi 0,vi 0,vi 0,vi 0,vi 0,vi 0,vi 0,vi 0,vi 0,vi 0,vi 0,vi 0,vb false,vi 0,vi 0,.bi true,.bi true,vi 0,vi 0],.flat false [vi 0,vi 0,vi 0,vi 0,vi 0,vi 0,vi 0,vi 0,vi 0,vi 0,vi 0,.bi true,vi 0],.flat false (dc aY p.XI++dc aW p.XH),.flat false (dc k6 p.JL),.dead]⟩
 | .c4 p=>⟨[⟨54,135,(en [(6,.ptr 0 0),(7,.ptr 1 0),(9,.dp),(10,vi p.e0),(12,.ptr 2 0),(13,vb false),(14,.ptr 3 0)]),[.code (cw Tryz.f54 [1,1,1,1,1,1,1,1,1,0,0]),.code (cw Tryz.f54 [1,1,1,1,1,1,1,1,1,0,1]),.code (cw Tryz.f54 [1,1,1,1,1,1,1,1,1,1])],[],none⟩],[.flat false [vi 0,vi 0,vi 0,vi 0,vi 0,vi 0,vi 0,vi 0,vi 0,vi 0,vi 0,vi 0,vi 0,vi 0,vi 0,vb false,vi 0,vi 0,.bi true,.bi true,vi 0,vi 0],.flat false [vi 0,vi 0,vi 0,vi 0,vi 0,vi 0,vi 0,vi 0,vi 0,vi 0,vi 0,.bi true,vi 0],.flat false [vi 2,vi 0,vi 0,vi 0,vi 0,vi 0,vi 0,vi 0,vi 0,vi 0,vi 0,.bi true,vi 0],.flat false (dc iK p.e22),.dead]⟩
 | .c5 p=>⟨[⟨54,135,(en [(6,.ptr 0 0),(7,.ptr 1 0),(9,.dp),(10,vi p.f0),(12,.ptr 2 0),(13,vb false),(14,.ptr 3 0)]),[.code (cw Tryz.f54 [1,1,1,1,1,1,1,1,1,0,0]),.code (cw Tryz.f54 [1,1,1,1,1,1,1,1,1,0,1]),.code (cw Tryz.f54 [1,1,1,1,1,1,1,1,1,1])],[],none⟩],[.flat false [vi 0,vi 0,vi 0,vi 0,vi 0,vi 0,vi 0,vi 0,vi 0,vi 0,vi 0,vi 0,vi 0,vi 0,vi 0,vb false,vi 0,vi 0,.bi true,.bi true,vi 0,vi 0],.flat false [vi 0,vi 0,vi 0,vi 0,vi 0,vi 0,vi 0,vi 0,vi 0,vi 0,vi 0,.bi true,vi 0],.flat false (dc k6 p.f16),.flat false (dc iK p.f17),.dead]⟩
 | .c6 p=>⟨[⟨54,135,(en [(6,.ptr 0 0),(7,.ptr 1 0),(9,.ptr 2 0),(10,vi p.g0),(12,.ptr 3 0),(13,vb p.g1),(14,.ptr 4 0)]),[.code (cw Tryz.f54 [1,1,1,1,1,1,1,1,1,0,0]),.code (cw Tryz.f54 [1,1,1,1,1,1,1,1,1,0,1]),.code (cw Tryz.f54 [1,1,1,1,1,1,1,1,1,1])],[],none⟩],[.flat false [vi 0,vi 0,vi 0,vi 0,vi 0,vi 0,vi 0,vi 0,vi 0,vi 0,vi 0,vi 0,vi 0,vi 0,vi 0,vb false,vi 0,vi 0,.bi true,.bi true,vi 0,vi 0],.flat false [vi 0,vi 0,vi 0,vi 0,vi 0,vi 0,vi 0,vi 0,vi 0,vi 0,vi 0,.bi true,vi 0],.flat false (dc aY p.g16++dc aW p.g17),.flat false [vi 2,vi 0,vi 0,vi 0,vi 0,vi 0,vi 0,vi 0,vi 0,vi 0,vi 0,.bi true,vi 0],.flat false (dc iK p.g24),.dead]⟩
 | .c7 p=>⟨[⟨54,135,(en [(6,.ptr 0 0),(7,.ptr 1 0),(9,.ptr 2 0),(10,vi p.h0),(12,.ptr 3 0),(13,vb p.h1),(14,.ptr 4 0)]),[.code (cw Tryz.f54 [1,1,1,1,1,1,1,1,1,0,0]),.code (cw Tryz.f54 [1,1,1,1,1,1,1,1,1,0,1]),.code (cw Tryz.f54 [1,1,1,1,1,1,1,1,1,1])],[],none⟩],[.flat false [vi 0,vi 0,vi 0,vi 0,vi 0,vi 0,vi 0,vi 0,vi 0,vi 0,vi 0,vi 0,vi 0,vi 0,vi 0,vb false,vi 0,vi 0,.bi true,.bi true,vi 0,vi 0],.flat false [vi 0,vi 0,vi 0,vi 0,vi 0,vi 0,vi 0,vi 0,vi 0,vi 0,vi 0,.bi true,vi 0],.flat false (dc aY p.h16++dc aW p.iM),.flat false (dc k6 p.h18),.flat false (dc iK p.vF),.dead]⟩
 | .c8 p=>⟨[⟨54,135,(en [(6,.ptr 0 0),(7,.ptr 1 0),(9,.ptr 2 0),(12,.ptr 3 0),(13,vb p.z80),(14,.ptr 4 0)]),[.code (cw Tryz.f54 [1,1,1,1,1,1,1,1,1,1,1,1,0,0]),.code (cw Tryz.f54 [1,1,1,1,1,1,1,1,1,1,1,1,0,1]),.code (cw Tryz.f54 [1,1,1,1,1,1,1,1,1,1,1,1,1])],[],none⟩],[.flat false [vi 0,vi 0,vi 0,vi 0,vi 0,vi 0,vi 0,vi 0,vi 0,vi 0,vi 0,vi 0,vi 0,vi 0,vi 0,vb false,vi 0,vi 0,.bi true,.bi true,vi 0,vi 0],.flat false [vi 0,vi 0,vi 0,vi 0,vi 0,vi 0,vi 0,vi 0,vi 0,vi 0,vi 0,.bi true,vi 0],.flat false (dc aY p.Dv++dc aW p.wo),.flat false [vi 2,vi 0,vi 0,vi 0,vi 0,vi 0,vi 0,vi 0,vi 0,vi 0,vi 0,.bi true,vi 0],.flat false (dc iK p.NT),.dead]⟩
 | .c9 p=>⟨[⟨54,135,(en [(6,.ptr 0 0),(7,.ptr 1 0),(9,.ptr 2 0),(12,.ptr 3 0),(13,vb p.z90),(14,.ptr 4 0)]),[.code (cw Tryz.f54 [1,1,1,1,1,1,1,1,1,1,1,1,0,0]),.code (cw Tryz.f54 [1,1,1,1,1,1,1,1,1,1,1,1,0,1]),.code (cw Tryz.f54 [1,1,1,1,1,1,1,1,1,1,1,1,1])],[],none⟩],[.flat false [vi 0,vi 0,vi 0,vi 0,vi 0,vi 0,vi 0,vi 0,vi 0,vi 0,vi 0,vi 0,vi 0,vi 0,vi 0,vb false,vi 0,vi 0,.bi true,.bi true,vi 0,vi 0],.flat false [vi 0,vi 0,vi 0,vi 0,vi 0,vi 0,vi 0,vi 0,vi 0,vi 0,vi 0,.bi true,vi 0],.flat false (dc aY p.zW++dc aW p.n_),.flat false (dc k6 p.xr),.flat false (dc iK p.NU),.dead]⟩
 | .c10 p=>⟨[⟨54,135,(en [(6,.ptr 0 0),(7,.ptr 1 0),(9,.ptr 2 0),(12,.ptr 3 0),(14,.ptr 4 0)]),[.code (cw Tryz.f54 [1,1,1,1,1,1,1,1,1,1,1,1,1,0,0]),.code (cw Tryz.f54 [1,1,1,1,1,1,1,1,1,1,1,1,1,0,1]),.code (cw Tryz.f54 [1,1,1,1,1,1,1,1,1,1,1,1,1,1])],[],none⟩],[.flat false [vi 0,vi 0,vi 0,vi 0,vi 0,vi 0,vi 0,vi 0,vi 0,vi 0,vi 0,vi 0,vi 0,vi 0,vi 0,vb false,vi 0,vi 0,.bi true,.bi true,vi 0,vi 0],.flat false [vi 0,vi 0,vi 0,vi 0,vi 0,vi 0,vi 0,vi 0,vi 0,vi 0,vi 0,.bi true,vi 0],.flat false (dc aY p.aci++dc aW p.vu),.flat false [vi 2,vi 0,vi 0,vi 0,vi 0,vi 0,vi 0,vi 0,vi 0,vi 0,vi 0,.bi true,vi 0],.flat false (dc iK p.HV),.dead]⟩
 | .c11 p=>⟨[⟨54,135,(en [(6,.ptr 0 0),(7,.ptr 1 0),(9,.ptr 2 0),(12,.ptr 3 0),(14,.ptr 4 0)]),[.code (cw Tryz.f54 [1,1,1,1,1,1,1,1,1,1,1,1,1,0,0]),.code (cw Tryz.f54 [1,1,1,1,1,1,1,1,1,1,1,1,1,0,1]),.code (cw Tryz.f54 [1,1,1,1,1,1,1,1,1,1,1,1,1,1])],[],none⟩],[.flat false [vi 0,vi 0,vi 0,vi 0,vi 0,vi 0,vi 0,vi 0,vi 0,vi 0,vi 0,vi 0,vi 0,vi 0,vi 0,vb false,vi 0,vi 0,.bi true,.bi true,vi 0,vi 0],.flat false [vi 0,vi 0,vi 0,vi 0,vi 0,vi 0,vi 0,vi 0,vi 0,vi 0,vi 0,.bi true,vi 0],.flat false (dc aY p.acL++dc aW p.vg),.flat false (dc k6 p.Ek),.flat false (dc iK p.G1),.dead]⟩
def Vf(A:a_)(m:ao)(n:Node)(seen:List Seen):LT (Node×gj×Int) PX:=.need (A.k (@tt Node) n) (.br (A.k iP n) (.need (A.k (@tt (ao×Node)) (m,n)) (.br (A.c .neq (A.k dD (m,n)) 0) (.more (.c0 ⟨seen,(A.k dD (m,n)),n⟩)) (.br (A.not (A.c .neq n.2.2.1.2.1 n.1)) (.more (.c0 ⟨seen,181,n⟩)) (.need (A.k (@tt (bu×List Int)) (n.2.2.2.2.2.2.2,n.2.2.2.2.2.2.2.2.1)) (.br (A.c .neq (A.k bA (n.2.2.2.2.2.2.2,n.2.2.2.2.2.2.2.2.1)).2 0) (.more (.c0 ⟨seen,(A.k bA (n.2.2.2.2.2.2.2,n.2.2.2.2.2.2.2.2.1)).2,n⟩)) (.more (.c1 ⟨seen,n,m,(n.1,n.2.1,n.2.2.1,n.2.2.2.1,n.2.2.2.2.1,n.2.2.2.2.2.1,n.2.2.2.2.2.2.1,(A.k bA (n.2.2.2.2.2.2.2,n.2.2.2.2.2.2.2.2.1)).1)⟩))))))) (.need (A.k (@tt (ao×Node)) (m,n)) (.br (A.c .neq (A.k dD (m,n)) 0) (.more (.c0 ⟨seen,(A.k dD (m,n)),n⟩)) (.more (.c0 ⟨seen,181,n⟩)))))
def lD(A:a_):PX→LT (Node×gj×Int) PX
 | .c0 p=>.br (A.c .neq p.a1 0) (.ret ((0,0,(0,0,0,0,0),(0,0,0,0,0,0,0),0,false,0,0,([]:List Int),([]:List aU),0,0),(0,0,0,(0,0,(0,0,0,0,0),0,([]:List Int)),0),p.a1)) (.need (A.k (@tt ((Int×Int×Int×Int×Int)×(Int×Int×Int×Int×Int×Int×Int)×Int×List (Int×Int×(Int×List Int)))) (p.a2.2.2.1,p.a2.2.2.2.1,p.a2.2.2.1.2.1,p.a0)) (.br (A.c .neq (A.k lg (p.a2.2.2.1,p.a2.2.2.2.1,p.a2.2.2.1.2.1,p.a0)).2 0) (.ret ((0,0,(0,0,0,0,0),(0,0,0,0,0,0,0),0,false,0,0,([]:List Int),([]:List aU),0,0),(0,0,0,(0,0,(0,0,0,0,0),0,([]:List Int)),0),(A.k lg (p.a2.2.2.1,p.a2.2.2.2.1,p.a2.2.2.1.2.1,p.a0)).2)) (.br (A.c .eql (A.k lg (p.a2.2.2.1,p.a2.2.2.2.1,p.a2.2.2.1.2.1,p.a0)).1.1 3) (.bad 73 "starctl.go:235") (.more (.c2 ⟨p.a2.2.2.1.2.1,p.a2,(A.k lg (p.a2.2.2.1,p.a2.2.2.2.1,p.a2.2.2.1.2.1,p.a0)).1⟩)))))
 | .c1 p=>.br (A.c .neq 0 0) (.ret ((0,0,(0,0,0,0,0),(0,0,0,0,0,0,0),0,false,0,0,([]:List Int),([]:List aU),0,0),(0,0,0,(0,0,(0,0,0,0,0),0,([]:List Int)),0),0)) (.need (A.k (@tt ((Int×Int×Int×Int×Int)×(Int×Int×Int×Int×Int×Int×Int)×Int×List (Int×Int×(Int×List Int)))) (p.b2.2.2.1,p.b2.2.2.2.1,p.b2.2.2.1.2.1,p.b0)) (.br (A.c .neq (A.k lg (p.b2.2.2.1,p.b2.2.2.2.1,p.b2.2.2.1.2.1,p.b0)).2 0) (.ret ((0,0,(0,0,0,0,0),(0,0,0,0,0,0,0),0,false,0,0,([]:List Int),([]:List aU),0,0),(0,0,0,(0,0,(0,0,0,0,0),0,([]:List Int)),0),(A.k lg (p.b2.2.2.1,p.b2.2.2.2.1,p.b2.2.2.1.2.1,p.b0)).2)) (.br (A.c .eql (A.k lg (p.b2.2.2.1,p.b2.2.2.2.1,p.b2.2.2.1.2.1,p.b0)).1.1 3) (.need (A.k (@tt (ao×Int×Int)) (p.ib,p.b2.2.2.1.2.2.1,p.b2.2.2.1.2.1)) (.br (A.c .neq (A.k dJ (p.ib,p.b2.2.2.1.2.2.1,p.b2.2.2.1.2.1)).2 0) (.more (.c3 ⟨p.b2.2.2.1.2.1,false,p.b2,p.ib,p.sR,(A.k lg (p.b2.2.2.1,p.b2.2.2.2.1,p.b2.2.2.1.2.1,p.b0)).1⟩)) (.br (A.c .eql (A.k dJ (p.ib,p.b2.2.2.1.2.2.1,p.b2.2.2.1.2.1)).1 3) (.br (A.c .neq (A.k dJ (p.ib,p.b2.2.2.1.2.2.1,p.b2.2.2.1.2.1)).1 0) (.br (A.c .eql (A.k dJ (p.ib,p.b2.2.2.1.2.2.1,p.b2.2.2.1.2.1)).1 (A.k lg (p.b2.2.2.1,p.b2.2.2.2.1,p.b2.2.2.1.2.1,p.b0)).1.2.2.2.1.1) (.more (.c3 ⟨p.b2.2.2.1.2.1,(A.c .eql 0 (A.l (A.k lg (p.b2.2.2.1,p.b2.2.2.2.1,p.b2.2.2.1.2.1,p.b0)).1.2.2.2.1.2.2.2.2)),p.b2,p.ib,p.sR,(A.k lg (p.b2.2.2.1,p.b2.2.2.2.1,p.b2.2.2.1.2.1,p.b0)).1⟩)) (.more (.c3 ⟨p.b2.2.2.1.2.1,false,p.b2,p.ib,p.sR,(A.k lg (p.b2.2.2.1,p.b2.2.2.2.1,p.b2.2.2.1.2.1,p.b0)).1⟩))) (.more (.c3 ⟨p.b2.2.2.1.2.1,false,p.b2,p.ib,p.sR,(A.k lg (p.b2.2.2.1,p.b2.2.2.2.1,p.b2.2.2.1.2.1,p.b0)).1⟩))) (.need (A.and (A.c .leq 0 p.b2.2.2.1.2.2.1) (A.c .lss p.b2.2.2.1.2.2.1 (A.l p.ib.2.2.2.2.2.2.2))) (.need (A.and (A.c .leq 0 p.b2.2.2.1.2.1) (A.c .lss p.b2.2.2.1.2.1 (A.l (A.n aV p.ib.2.2.2.2.2.2.2 p.b2.2.2.1.2.2.1:Mode).1))) (.br (A.c .neq (A.k dJ (p.ib,p.b2.2.2.1.2.2.1,p.b2.2.2.1.2.1)).1 0) (.br (A.c .eql (A.k dJ (p.ib,p.b2.2.2.1.2.2.1,p.b2.2.2.1.2.1)).1 (A.k lg (p.b2.2.2.1,p.b2.2.2.2.1,p.b2.2.2.1.2.1,p.b0)).1.2.2.2.1.1) (.more (.c3 ⟨p.b2.2.2.1.2.1,(A.c .eql (A.n yI (A.n aV p.ib.2.2.2.2.2.2.2 p.b2.2.2.1.2.2.1:Mode).1 p.b2.2.2.1.2.1:Int) (A.l (A.k lg (p.b2.2.2.1,p.b2.2.2.2.1,p.b2.2.2.1.2.1,p.b0)).1.2.2.2.1.2.2.2.2)),p.b2,p.ib,p.sR,(A.k lg (p.b2.2.2.1,p.b2.2.2.2.1,p.b2.2.2.1.2.1,p.b0)).1⟩)) (.more (.c3 ⟨p.b2.2.2.1.2.1,false,p.b2,p.ib,p.sR,(A.k lg (p.b2.2.2.1,p.b2.2.2.2.1,p.b2.2.2.1.2.1,p.b0)).1⟩))) (.more (.c3 ⟨p.b2.2.2.1.2.1,false,p.b2,p.ib,p.sR,(A.k lg (p.b2.2.2.1,p.b2.2.2.2.1,p.b2.2.2.1.2.1,p.b0)).1⟩)))))))) (.more (.c3 ⟨p.b2.2.2.1.2.1,false,p.b2,p.ib,p.sR,(A.k lg (p.b2.2.2.1,p.b2.2.2.2.1,p.b2.2.2.1.2.1,p.b0)).1⟩)))))
 | .c2 p=>.br (A.c .eql p.zT.1 3) (.br (A.not false) (.need (A.k (@tt ((Int×Int×Int×Int×Int×Int×Int)×Int×(Int×Int×Int×(Int×Int×(Int×Int×Int×Int×Int)×Int×List Int)×Int))) (p.c2.2.2.2.1,p.c0,2,0,0,(0,0,(0,0,0,0,0),0,([]:List Int)),0)) (.more (.c4 ⟨(A.k ez (p.c2.2.2.2.1,p.c0,2,0,0,(0,0,(0,0,0,0,0),0,([]:List Int)),0)).2,(A.k ez (p.c2.2.2.2.1,p.c0,2,0,0,(0,0,(0,0,0,0,0),0,([]:List Int)),0)).1⟩))) (.need (A.k (@tt ((Int×Int×Int×Int×Int×Int×Int)×Int×(Int×Int×Int×(Int×Int×(Int×Int×Int×Int×Int)×Int×List Int)×Int))) (p.c2.2.2.2.1,p.c0,p.zT)) (.more (.c5 ⟨(A.k ez (p.c2.2.2.2.1,p.c0,p.zT)).2,p.zT,(A.k ez (p.c2.2.2.2.1,p.c0,p.zT)).1⟩)))) (.need (A.k (@tt ((Int×Int×Int×Int×Int×Int×Int)×Int×(Int×Int×Int×(Int×Int×(Int×Int×Int×Int×Int)×Int×List Int)×Int))) (p.c2.2.2.2.1,p.c0,p.zT)) (.more (.c5 ⟨(A.k ez (p.c2.2.2.2.1,p.c0,p.zT)).2,p.zT,(A.k ez (p.c2.2.2.2.1,p.c0,p.zT)).1⟩)))
 | .c3 p=>.br (A.c .eql p.JL.1 3) (.br (A.not p.d1) (.need (A.k (@tt ((Int×Int×Int×Int×Int×Int×Int)×Int×(Int×Int×Int×(Int×Int×(Int×Int×Int×Int×Int)×Int×List Int)×Int))) (p.d2.2.2.2.1,p.d0,2,0,0,(0,0,(0,0,0,0,0),0,([]:List Int)),0)) (.more (.c6 ⟨(A.k ez (p.d2.2.2.2.1,p.d0,2,0,0,(0,0,(0,0,0,0,0),0,([]:List Int)),0)).2,p.d1,p.XI,p.XH,(A.k ez (p.d2.2.2.2.1,p.d0,2,0,0,(0,0,(0,0,0,0,0),0,([]:List Int)),0)).1⟩))) (.need (A.k (@tt ((Int×Int×Int×Int×Int×Int×Int)×Int×(Int×Int×Int×(Int×Int×(Int×Int×Int×Int×Int)×Int×List Int)×Int))) (p.d2.2.2.2.1,p.d0,p.JL)) (.more (.c7 ⟨(A.k ez (p.d2.2.2.2.1,p.d0,p.JL)).2,p.d1,p.XI,p.XH,p.JL,(A.k ez (p.d2.2.2.2.1,p.d0,p.JL)).1⟩)))) (.need (A.k (@tt ((Int×Int×Int×Int×Int×Int×Int)×Int×(Int×Int×Int×(Int×Int×(Int×Int×Int×Int×Int)×Int×List Int)×Int))) (p.d2.2.2.2.1,p.d0,p.JL)) (.more (.c7 ⟨(A.k ez (p.d2.2.2.2.1,p.d0,p.JL)).2,p.d1,p.XI,p.XH,p.JL,(A.k ez (p.d2.2.2.2.1,p.d0,p.JL)).1⟩)))
 | .c4 p=>.br (A.c .neq p.e0 0) (.ret ((0,0,(0,0,0,0,0),(0,0,0,0,0,0,0),0,false,0,0,([]:List Int),([]:List aU),0,0),(0,0,0,(0,0,(0,0,0,0,0),0,([]:List Int)),0),p.e0)) (.bad 73 "starctl.go:278")
 | .c5 p=>.br (A.c .neq p.f0 0) (.ret ((0,0,(0,0,0,0,0),(0,0,0,0,0,0,0),0,false,0,0,([]:List Int),([]:List aU),0,0),(0,0,0,(0,0,(0,0,0,0,0),0,([]:List Int)),0),p.f0)) (.bad 73 "starctl.go:278")
 | .c6 p=>.br (A.c .neq p.g0 0) (.ret ((0,0,(0,0,0,0,0),(0,0,0,0,0,0,0),0,false,0,0,([]:List Int),([]:List aU),0,0),(0,0,0,(0,0,(0,0,0,0,0),0,([]:List Int)),0),p.g0)) (.br p.g1 (.br (A.c .neq 0 3) (.need (A.k (@tt (bu×Int×List Int)) (p.g17.2.2.2.2.2.2.2,p.g17.2.2.1.2.1,([]:List Int))) (.need (A.k (@tt (bu×Int×List Int)) (p.g17.2.2.2.2.2.2.2,p.g17.2.2.1.2.1,([]:List Int))) (.br (A.c .eql (A.k lK (p.g17.2.2.2.2.2.2.2,p.g17.2.2.1.2.1,([]:List Int))).2 0) (.more (.c8 ⟨p.g1,p.g16,(p.g17.1,p.g17.2.1,(p.g17.2.2.1.1,p.g17.2.2.1.2.1,p.g17.2.2.1.2.2.1,p.g17.2.2.1.2.2.2.1,p.g24.2.2.1),p.g24,p.g17.2.2.2.2.1,p.g17.2.2.2.2.2.1,p.g17.2.2.2.2.2.2.1,(A.k lK (p.g17.2.2.2.2.2.2.2,p.g17.2.2.1.2.1,([]:List Int))).1),p.g24⟩)) (.more (.c8 ⟨p.g1,p.g16,(p.g17.1,p.g17.2.1,(p.g17.2.2.1.1,p.g17.2.2.1.2.1,p.g17.2.2.1.2.2.1,p.g17.2.2.1.2.2.2.1,p.g24.2.2.1),p.g24,p.g17.2.2.2.2),p.g24⟩))))) (.more (.c8 ⟨p.g1,p.g16,(p.g17.1,p.g17.2.1,(p.g17.2.2.1.1,p.g17.2.2.1.2.1,p.g17.2.2.1.2.2.1,p.g17.2.2.1.2.2.2.1,p.g24.2.2.1),p.g24,p.g17.2.2.2.2),p.g24⟩))) (.more (.c8 ⟨p.g1,p.g16,(p.g17.1,p.g17.2.1,(p.g17.2.2.1.1,p.g17.2.2.1.2.1,p.g17.2.2.1.2.2.1,p.g17.2.2.1.2.2.2.1,p.g24.2.2.1),p.g24,p.g17.2.2.2.2),p.g24⟩)))
 | .c7 p=>.br (A.c .neq p.h0 0) (.ret ((0,0,(0,0,0,0,0),(0,0,0,0,0,0,0),0,false,0,0,([]:List Int),([]:List aU),0,0),(0,0,0,(0,0,(0,0,0,0,0),0,([]:List Int)),0),p.h0)) (.br p.h1 (.br (A.c .neq p.h18.2.2.2.1.1 3) (.need (A.k (@tt (bu×Int×List Int)) (p.iM.2.2.2.2.2.2.2,p.iM.2.2.1.2.1,p.h18.2.2.2.1.2.2.2.2)) (.need (A.k (@tt (bu×Int×List Int)) (p.iM.2.2.2.2.2.2.2,p.iM.2.2.1.2.1,p.h18.2.2.2.1.2.2.2.2)) (.br (A.c .eql (A.k lK (p.iM.2.2.2.2.2.2.2,p.iM.2.2.1.2.1,p.h18.2.2.2.1.2.2.2.2)).2 0) (.more (.c9 ⟨p.h1,p.h16,(p.iM.1,p.iM.2.1,(p.iM.2.2.1.1,p.iM.2.2.1.2.1,p.iM.2.2.1.2.2.1,p.iM.2.2.1.2.2.2.1,p.vF.2.2.1),p.vF,p.iM.2.2.2.2.1,p.iM.2.2.2.2.2.1,p.iM.2.2.2.2.2.2.1,(A.k lK (p.iM.2.2.2.2.2.2.2,p.iM.2.2.1.2.1,p.h18.2.2.2.1.2.2.2.2)).1),p.h18,p.vF⟩)) (.more (.c9 ⟨p.h1,p.h16,(p.iM.1,p.iM.2.1,(p.iM.2.2.1.1,p.iM.2.2.1.2.1,p.iM.2.2.1.2.2.1,p.iM.2.2.1.2.2.2.1,p.vF.2.2.1),p.vF,p.iM.2.2.2.2),p.h18,p.vF⟩))))) (.more (.c9 ⟨p.h1,p.h16,(p.iM.1,p.iM.2.1,(p.iM.2.2.1.1,p.iM.2.2.1.2.1,p.iM.2.2.1.2.2.1,p.iM.2.2.1.2.2.2.1,p.vF.2.2.1),p.vF,p.iM.2.2.2.2),p.h18,p.vF⟩))) (.more (.c9 ⟨p.h1,p.h16,(p.iM.1,p.iM.2.1,(p.iM.2.2.1.1,p.iM.2.2.1.2.1,p.iM.2.2.1.2.2.1,p.iM.2.2.1.2.2.2.1,p.vF.2.2.1),p.vF,p.iM.2.2.2.2),p.h18,p.vF⟩)))
 | .c8 p=>.br p.z80 (.need (A.k (@tt (ao×cq×Int)) (p.Dv,p.wo.2.2.1,0)) (.need (A.k (@tt (ao×cq×Int)) (p.Dv,p.wo.2.2.1,0)) (.br (A.c .eql (A.k gD (p.Dv,p.wo.2.2.1,0)).2 0) (.more (.c10 ⟨p.Dv,(p.wo.1,p.wo.2.1,(A.k gD (p.Dv,p.wo.2.2.1,0)).1,p.wo.2.2.2),p.NT⟩)) (.more (.c10 ⟨p.Dv,p.wo,p.NT⟩))))) (.more (.c10 ⟨p.Dv,p.wo,p.NT⟩))
 | .c9 p=>.br p.z90 (.need (A.k (@tt (ao×cq×Int)) (p.zW,p.n_.2.2.1,p.xr.2.2.2.1.2.1)) (.need (A.k (@tt (ao×cq×Int)) (p.zW,p.n_.2.2.1,p.xr.2.2.2.1.2.1)) (.br (A.c .eql (A.k gD (p.zW,p.n_.2.2.1,p.xr.2.2.2.1.2.1)).2 0) (.more (.c11 ⟨p.zW,(p.n_.1,p.n_.2.1,(A.k gD (p.zW,p.n_.2.2.1,p.xr.2.2.2.1.2.1)).1,p.n_.2.2.2),p.xr,p.NU⟩)) (.more (.c11 ⟨p.zW,p.n_,p.xr,p.NU⟩))))) (.more (.c11 ⟨p.zW,p.n_,p.xr,p.NU⟩))
 | .c10 p=>.br (A.c .eql p.vu.2.1 4) (.need (A.k (@tt eT) p.HV) (.br (A.not (A.k C9 p.HV)) (.ret ((p.vu.1,3,p.vu.2.2),(2,0,0,(0,0,(0,0,0,0,0),0,([]:List Int)),0),0)) (.ret (p.vu,(2,0,0,(0,0,(0,0,0,0,0),0,([]:List Int)),0),0)))) (.ret (p.vu,(2,0,0,(0,0,(0,0,0,0,0),0,([]:List Int)),0),0))
 | .c11 p=>.br (A.c .eql p.vg.2.1 4) (.need (A.k (@tt eT) p.G1) (.br (A.not (A.k C9 p.G1)) (.ret ((p.vg.1,3,p.vg.2.2),p.Ek,0)) (.ret (p.vg,p.Ek,0)))) (.ret (p.vg,p.Ek,0))
theorem yS{p:Iq}(h:p.G1=p.vg.2.2.2.1):aA (lD aj) (.more (.c11 p)) (p9 p.vg,p.Ek,0):=by
 rw[ak,lD,h];exact A6 rfl
theorem KU{p:Ij}(h:p.HV=p.vu.2.2.2.1):aA (lD aj) (.more (.c10 p)) (p9 p.vu,qD,0):=by
 rw[ak,lD,h];exact A6 rfl
theorem Cw{p:K2}(h:p.NU=p.n_.2.2.2.1):aA (lD aj) (.more (.c9 p)) (p9 (bif p.z90 then(p.n_.1,p.n_.2.1,gf p.zW p.n_.2.2.1 p.xr.2.2.2.1.2.1,p.n_.2.2.2) else p.n_),p.xr,0):=by
 rw[ak,lD,gf]
 rw[show ∀x,aj.k gD x=lF x.1 x.2.1 x.2.2 from fun _=>rfl]
 cases p.z90
 ·exact(ah rfl).2 (yS h)
 ·refine(ai rfl).2 (af.2 ⟨rfl,af.2 ⟨rfl,ap (p:=(lF p.zW p.n_.2.2.1 p.xr.2.2.2.1.2.1).2=0) aI (fun g=>?_) fun g=>?_⟩⟩)
  ·rw[decide_eq_true g];exact yS h
  ·rw[decide_eq_false g];exact yS h
theorem Qu{p:LG}(h0:p.z80=false)(h:p.NT=p.wo.2.2.2.1):aA (lD aj) (.more (.c8 p)) (p9 p.wo,qD,0):=by
 rw[ak,lD,h0];exact(ah rfl).2 (KU h)
theorem GZ{p:Li}(h0:p.h0=0)(hd:p.h1=true→(nu p.iM.2.2.2.2.2.2.2 p.iM.2.2.1.2.1 p.h18.2.2.2.1.2.2.2.2).2=0):aA (lD aj) (.more (.c7 p)) (p9 (bif p.h1 then rH p.h16 (pY p.iM p.vF) p.h18.2.2.2.1 else pY p.iM p.vF),p.h18,0):=by
 rw[ak,lD,h0]
 refine(ah rfl).2 ?_
 cases hb:p.h1
 ·exact(ah rfl).2 (Cw (p:=⟨false,p.h16,pY p.iM p.vF,p.h18,p.vF⟩) rfl)
 ·rw[cond_true,rH]
  refine(ai rfl).2 (ap (p:=¬p.h18.2.2.2.1.1=3) aS (fun k=>af.2 ⟨rfl,af.2 ⟨rfl,(ai (F9 (hd hb))).2 ?_⟩⟩) fun k=>?_)
  ·rw[decide_eq_false k]
   exact Cw (p:=⟨true,p.h16,(p.iM.1,p.iM.2.1,(p.iM.2.2.1.1,p.iM.2.2.1.2.1,p.iM.2.2.1.2.2.1,p.iM.2.2.1.2.2.2.1,p.vF.2.2.1),p.vF,p.iM.2.2.2.2.1,p.iM.2.2.2.2.2.1,p.iM.2.2.2.2.2.2.1,(nu p.iM.2.2.2.2.2.2.2 p.iM.2.2.1.2.1 p.h18.2.2.2.1.2.2.2.2).1),p.h18,p.vF⟩) rfl
  ·rw[decide_eq_true (Decidable.not_not.1 k)]
   exact Cw (p:=⟨true,p.h16,pY p.iM p.vF,p.h18,p.vF⟩) rfl
theorem Qe{p:Mm}(h0:p.g0=0)(h1:p.g1=false):aA (lD aj) (.more (.c6 p)) (p9 (pY p.g17 p.g24),qD,0):=by
 rw[ak,lD,h0,h1]
 exact(ah rfl).2 ((ah rfl).2 (Qu (p:=⟨false,p.g16,pY p.g17 p.g24,p.g24⟩) rfl rfl))
theorem C7{m:ao}{n:Node}{o:gj}{g:Bool}(hn:bU m n=0)(a1:(ez (n.2.2.2.1,n.2.2.1.2.1,o)).2=0)(a2:(ez (n.2.2.2.1,n.2.2.1.2.1,qD)).2=0)(hg:g=(decide (o.1=3)&&kI m n.2.2.1 o.2.2.2.1)):aA (lD aj) (.more (.c3 ⟨n.2.2.1.2.1,g,n,m,n,o⟩)) (Au m n (nT m n o),nT m n o,0):=by
 rw[ak,lD]
 simp only
 refine ap (p:=o.1=3) aI (fun k=>?_) fun k=>af.2 ⟨rfl,?_⟩
 ·rw[decide_eq_true k,Bool.true_and] at hg
  subst hg
  cases hl:kI m n.2.2.1 o.2.2.2.1
  ·refine(ai rfl).2 (af.2 ⟨rfl,?_⟩)
   rw[CU k hl]
   exact Qe (p:=⟨(ez (n.2.2.2.1,n.2.2.1.2.1,qD)).2,false,m,n,(ez (n.2.2.2.1,n.2.2.1.2.1,qD)).1⟩) a2 rfl
  ·refine(ah rfl).2 (af.2 ⟨rfl,?_⟩)
   have hv:=Hy hn hl
   rw[xA hl,Au,decide_eq_true k]
   exact GZ (p:=⟨(ez (n.2.2.2.1,n.2.2.1.2.1,o)).2,true,m,n,o,(ez (n.2.2.2.1,n.2.2.1.2.1,o)).1⟩) a1 fun _=>hv
 ·rw[F1 k,Au,decide_eq_false k]
  have e:g=false:=by rw[hg,decide_eq_false k];rfl
  subst e
  exact GZ (p:=⟨(ez (n.2.2.2.1,n.2.2.1.2.1,o)).2,false,m,n,o,(ez (n.2.2.2.1,n.2.2.1.2.1,o)).1⟩) a1 (fun h=>by cases h)
theorem Qs{m:ao}{n:Node}{seen:List Seen}(hn:bU m n=0):aA (lD aj) (.more (.c1 ⟨seen,n,m,n⟩)) (bif decide ((oL n seen).2=0) then(Au m n (nT m n (oL n seen).1),nT m n (oL n seen).1,0) else(ed,DK,(oL n seen).2)):=by
 have ha:(oL n seen).2=0→_:=fun g=>Kz (c:=n.2.2.1) (v:=n.2.2.2.1) (s:=n.2.2.1.2.1) (seen:=seen) g
 rw[show je (n.2.2.1,n.2.2.2.1,n.2.2.1.2.1,seen)=oL n seen from rfl] at ha
 rw[ak,lD]
 simp only
 rw[show aj.k lg (n.2.2.1,n.2.2.2.1,n.2.2.1.2.1,seen)=oL n seen from rfl,show aj.k dJ (m,n.2.2.1.2.2.1,n.2.2.1.2.1)=bQ m n.2.2.1.2.2.1 n.2.2.1.2.1 from rfl]
 generalize oL n seen=S at ha ⊢
 refine(ah rfl).2 (af.2 ⟨rfl,ap (p:=¬S.2=0) aS (fun g=>au (by rw[decide_eq_false g];rfl) (.ret _)) fun g=>?_⟩)
 have g:=Decidable.not_not.1 g
 obtain⟨a1,a2⟩:=ha g
 rw[decide_eq_true g,cond_true]
 have no:kI m n.2.2.1 S.1.2.2.2.1=false→aA (lD aj) (.more (.c3 ⟨n.2.2.1.2.1,false,n,m,n,S.1⟩)) (Au m n (nT m n S.1),nT m n S.1,0):=fun h=>C7 hn a1 a2 (by rw[h,Bool.and_false])
 refine ap (p:=S.1.1=3) aI (fun k=>af.2 ⟨rfl,ap (p:=¬(bQ m n.2.2.1.2.2.1 n.2.2.1.2.1).2=0) aS (fun k1=>no (by rw[kI,decide_eq_false k1];rfl)) fun k1=>?_⟩) fun k=>C7 hn a1 a2 (by rw[decide_eq_false k];rfl)
 have k1:=Decidable.not_not.1 k1
 have kn:=BO k1
 have hk:=jD k1
 have hx:=gk (jL hk.1 hk.2.2.1 hk.2.2.2)
 have tl:∀w:Int,(bif decide ((bQ m n.2.2.1.2.2.1 n.2.2.1.2.1).1=3) then(0:Int) else D7 m n.2.2.1.2.2.1 n.2.2.1.2.1)=w→aA (lD aj) (.br (aj.c .neq (bQ m n.2.2.1.2.2.1 n.2.2.1.2.1).1 0) (.br (aj.c .eql (bQ m n.2.2.1.2.2.1 n.2.2.1.2.1).1 S.1.2.2.2.1.1) (.more (.c3 ⟨n.2.2.1.2.1,aj.c .eql w (aj.l S.1.2.2.2.1.2.2.2.2),n,m,n,S.1⟩)) (.more (.c3 ⟨n.2.2.1.2.1,false,n,m,n,S.1⟩))) (.more (.c3 ⟨n.2.2.1.2.1,false,n,m,n,S.1⟩))) (Au m n (nT m n S.1),nT m n S.1,0):=fun w hw=>by
  refine(ai (fw kn)).2 (ap (p:=(bQ m n.2.2.1.2.2.1 n.2.2.1.2.1).1=S.1.2.2.2.1.1) aI (fun k3=>C7 hn a1 a2 ?_) fun k3=>no ?_)
  ·rw[decide_eq_true k,Bool.true_and,kI,decide_eq_true k1,decide_eq_true k3.symm,Bool.true_and,Bool.true_and,aI]
   show decide (w=(S.1.2.2.2.1.2.2.2.2.length:Int))=decide ((S.1.2.2.2.1.2.2.2.2.length:Int)=bif decide ((bQ m n.2.2.1.2.2.1 n.2.2.1.2.1).1=3) then(0:Int) else D7 m n.2.2.1.2.2.1 n.2.2.1.2.1)
   rw[hw]
   exact decide_eq_decide.2 ⟨Eq.symm,Eq.symm⟩
  ·rw[kI,decide_eq_false (show ¬S.1.2.2.2.1.1=(bQ m n.2.2.1.2.2.1 n.2.2.1.2.1).1 from fun x=>k3 x.symm),Bool.false_and,Bool.and_false]
 refine ap (p:=(bQ m n.2.2.1.2.2.1 n.2.2.1.2.1).1=3) aI (fun k2=>tl 0 (by rw[decide_eq_true k2];rfl)) fun k2=>af.2 ⟨iy hk.2.2.1 hk.2.2.2,af.2 ⟨gV hx.1 hk.2.1.1 (by omega),tl _ (by rw[decide_eq_false k2];rfl)⟩⟩
theorem wV{p:Kk}(h:¬p.a1=0):aA (lD aj) (.more (.c0 p)) (ed,DK,p.a1):=by
 rw[ak,lD];exact(ai (fw h)).2 (.ret _)
theorem aek{m:ao}{n:Node}{seen:List Seen}:aA (lD aj) (Vf aj m n seen) (Cs m n seen):=by
 unfold Vf Cs
 rw[show aj.k iP n=ju n from rfl,show aj.k dD (m,n)=bU m n from rfl,show aj.k bA (n.2.2.2.2.2.2.2,n.2.2.2.2.2.2.2.2.1)=BX n.2.2.2.2.2.2.2 n.2.2.2.2.2.2.2.2.1 from rfl]
 refine af.2 ⟨rfl,?_⟩
 by_cases h:bU m n=0
 ·rw[decide_eq_true h,om h,cond_true]
  cases hi:ju n
  ·exact(ah rfl).2 (af.2 ⟨rfl,(ah (gY h)).2 (wV (show ¬(181:Int)=0 by decide))⟩)
  refine(ai rfl).2 (af.2 ⟨rfl,(ah (gY h)).2 ?_⟩)
  by_cases hp:n.2.2.1.2.1=n.1
  ·rw[decide_eq_false (show ¬¬n.2.2.1.2.1=n.1 from fun k=>k hp)]
   exact(ai (by rw[aS,decide_eq_false (show ¬¬n.2.2.1.2.1=n.1 from fun k=>k hp)];rfl)).2 (wV (show ¬(181:Int)=0 by decide))
  ·rw[decide_eq_true hp]
   exact(ah (by rw[aS,decide_eq_true hp];rfl)).2 (af.2 ⟨rfl,(ah rfl).2 (Qs h)⟩)
 ·rw[decide_eq_false h]
  cases ju n
  ·exact(ah rfl).2 (af.2 ⟨rfl,(ai (fw h)).2 (wV h)⟩)
  ·exact(ai rfl).2 (af.2 ⟨rfl,(ai (fw h)).2 (wV h)⟩)
def lz:(ao×Node×List Seen)→(Node×gj×Int):=fun(m,c,k)=>Cs m c k
def adC:aB:=⟨[aY,aW,(.slice fA)], [aW,k6,yI],(@tt (ao×Node×List Seen)),lz⟩
theorem Sr:Sd 54 adC:=aL ax bK true 106 [] [⟨54,2, [[2,4,6,7,9,10]]⟩,⟨54,9, [[4,6,7,9,11,12,13]]⟩,⟨54,12, [[6,7,9,10,12,13,14]]⟩,⟨54,17, [[6,7,9,12,13,14]]⟩,⟨54,19, [[6,7,9,12,14]]⟩] (fun A (m,n,seen)=>Vf A m n seen) lD VY (fc Tryz.func54 (fc Tryz.func90 (fc Tryz.func124 (fc Tryz.func126 (fc Tryz.func127 (fc Tryz.func187 fz)))))) (sc aeP (sc aaN (sc aeM (sc rU (sc BE (sc sC (sc G3 (sc Bt (sc EK sz))))))))) (fun A y=>match y with |.c0 p=>⟨74,by kernel_rfl,by kernel_rfl⟩|.c1 p=>⟨158,by kernel_rfl,by kernel_rfl⟩|.c2 p=>⟨35,by kernel_rfl,by kernel_rfl⟩|.c3 p=>⟨35,by kernel_rfl,by kernel_rfl⟩|.c4 p=>⟨19,by kernel_rfl,by kernel_rfl⟩|.c5 p=>⟨19,by kernel_rfl,by kernel_rfl⟩|.c6 p=>⟨90,by kernel_rfl,by kernel_rfl⟩|.c7 p=>⟨90,by kernel_rfl,by kernel_rfl⟩|.c8 p=>⟨53,by kernel_rfl,by kernel_rfl⟩|.c9 p=>⟨53,by kernel_rfl,by kernel_rfl⟩|.c10 p=>⟨37,by kernel_rfl,by kernel_rfl⟩|.c11 p=>⟨37,by kernel_rfl,by kernel_rfl⟩) fun(m,n,seen) hp h=>aek
open Go.Ev.Pl
theorem DW{n:Node}(h:Ty.has aW n)(h1:lf n=true):AZ n.2.2.2.2.2.2.2=true:=by
 have h2:(n.2.2.2.2.2.2.2.2.2.1.length:Int)≤20:=of_decide_eq_true h1
 obtain⟨a,b,c⟩:=Cn (c:=n.2.2.2.2.2.2.2) h.2.2.2.2.2.2.2
 exact ta.2 ⟨a,by omega,c⟩
theorem rT{m:ao}{n:Node}{s:List Seen}(h:n.2.2.2.2.2.1=true∨(ny m n s true).1.2.2.2.2.2.1=false):ny m n s false=ny m n s true:=by
 revert h
 unfold ny
 cases decide (bU m n=0)
 ·exact fun _=>rfl
 cases decide (n.2.1=1)
 ·exact fun _=>rfl
 cases decide ((s.length:Int)=2)
 ·exact fun _=>rfl
 cases (fF m.1 s).2.2
 ·exact fun _=>rfl
 cases decide ((fF m.1 s).1.1=1)
 ·exact fun _=>rfl
 cases decide ((fF m.1 s).1.2.2.2.1=n.1)
 ·cases n.2.2.2.2.2.1
  ·intro h
   rcases h with h|h
   ·cases h
   ·cases h
  ·exact fun _=>rfl
 ·exact fun _=>rfl
theorem GG{m:ao}{n:Node}{s:List Seen}:(ny m n s false).2.2.2=(ny m n s true).2.2.2:=by
 unfold ny
 cases decide (bU m n=0)
 ·rfl
 cases decide (n.2.1=1)
 ·rfl
 cases decide ((s.length:Int)=2)
 ·rfl
 cases (fF m.1 s).2.2
 ·rfl
 cases decide ((fF m.1 s).1.1=1)
 ·rfl
 cases decide ((fF m.1 s).1.2.2.2.1=n.1)
 ·cases n.2.2.2.2.2.1<;>rfl
 ·rfl
end Go.Ev.M
