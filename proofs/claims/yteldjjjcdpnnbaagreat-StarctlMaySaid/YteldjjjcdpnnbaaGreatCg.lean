/-
  PROVED: what functions of starctl compute. Conditions: none.
-/
import Derived.Test.YteldjjjcdpnnbaaGreatCf
import Derived.Test.YteldjjjcdpnnbaaGreatCd
namespace Go.Ev.M
open Go.Proofs
set_option maxRecDepth 100000
set_option linter.unusedVariables false
set_option linter.unusedSimpArgs false
open Go.Ev.Pl
theorem Ap{a b:Int}:aj.not (aj.c .eql a b)=decide (¬a=b):=by rw[aH,bD,Bool.eq_iff_iff];simp
theorem Kw{Y:Type}{step:Y→LT (Node×Int) Y}{n:Node}{t:LT (Node×Int) Y}{r:Node×Int}(h:aA step t r):aA step (.br (aj.not (aj.k jU n)) (.ret (n,0)) t) (bif gb n then r else(n,0)):=by
 rw[show aj.k jU n=gb n from rfl]
 cases gb n
 ·exact(ai rfl).2 (.ret _)
 ·exact(ah rfl).2 h
theorem step_pos{m:ak}{n:Node}(h:aS m n=0)(h1:gb n=true):0≤(gQ n.2.2.1 m.1).1.2.1:=by
 have hf:=gM (dN h h1).1
 have hp:=(iZ hf.1).2.2.1
 rw[gQ,decide_eq_true hf.1,cond_true]
 by_cases g:n.2.2.1.2.1+1=m.1
 ·rw[decide_eq_true g,cond_true];cases decide (n.2.2.1.2.2.2.1=0)<;>exact Int.le_refl 0
 ·rw[decide_eq_false g];exact(by omega:(0:Int)≤n.2.2.1.2.1+1)
def Qe(A:bi)(m:ak)(n:Node)(set1:Int):LT (Node×Int) Empty:=.need (A.k (@tt (ak×Node)) (m,n)) (.br (A.c .neq (A.k bL (m,n)) 0) (.br (A.c .neq (A.k bL (m,n)) 0) (.ret ((0,0,(0,0,0,0,0),(0,0,0,0,0,0,0),0,false,0,0,([]:List Int),([]:List bW),0,0),(A.k bL (m,n)))) (.need (A.c .leq 0 m.1) (.need (A.k (@tt (Span×Int)) ((0,(A.b .sub .i64 (A.b .shl .i64 1 m.1) 1)),set1)) (.br (A.not (A.k rE ((0,(A.b .sub .i64 (A.b .shl .i64 1 m.1) 1)),set1))) (.ret ((0,0,(0,0,0,0,0),(0,0,0,0,0,0,0),0,false,0,0,([]:List Int),([]:List bW),0,0),2)) (.need (A.c .leq 0 n.1) (.br (A.c .eql (A.b .and .i64 set1 (A.b .shl .i64 1 n.1)) 0) (.ret ((0,0,(0,0,0,0,0),(0,0,0,0,0,0,0),0,false,0,0,([]:List Int),([]:List bW),0,0),2)) (.bad 73 "starctl.go:102"))))))) (.br (A.not (A.c .eql n.2.1 0)) (.ret ((0,0,(0,0,0,0,0),(0,0,0,0,0,0,0),0,false,0,0,([]:List Int),([]:List bW),0,0),181)) (.need (A.k (@tt (cf×List Int)) (n.2.2.2.2.2.2.2,n.2.2.2.2.2.2.2.2.1)) (.br (A.c .neq (A.k bf (n.2.2.2.2.2.2.2,n.2.2.2.2.2.2.2.2.1)).2 0) (.br (A.c .neq (A.k bf (n.2.2.2.2.2.2.2,n.2.2.2.2.2.2.2.2.1)).2 0) (.ret ((0,0,(0,0,0,0,0),(0,0,0,0,0,0,0),0,false,0,0,([]:List Int),([]:List bW),0,0),(A.k bf (n.2.2.2.2.2.2.2,n.2.2.2.2.2.2.2.2.1)).2)) (.need (A.c .leq 0 m.1) (.need (A.k (@tt (Span×Int)) ((0,(A.b .sub .i64 (A.b .shl .i64 1 m.1) 1)),set1)) (.br (A.not (A.k rE ((0,(A.b .sub .i64 (A.b .shl .i64 1 m.1) 1)),set1))) (.ret ((0,0,(0,0,0,0,0),(0,0,0,0,0,0,0),0,false,0,0,([]:List Int),([]:List bW),0,0),2)) (.need (A.c .leq 0 n.1) (.br (A.c .eql (A.b .and .i64 set1 (A.b .shl .i64 1 n.1)) 0) (.ret ((0,0,(0,0,0,0,0),(0,0,0,0,0,0,0),0,false,0,0,([]:List Int),([]:List bW),0,0),2)) (.bad 73 "starctl.go:102"))))))) (.need (A.c .leq 0 m.1) (.need (A.k (@tt (Span×Int)) ((0,(A.b .sub .i64 (A.b .shl .i64 1 m.1) 1)),set1)) (.br (A.not (A.k rE ((0,(A.b .sub .i64 (A.b .shl .i64 1 m.1) 1)),set1))) (.ret ((0,0,(0,0,0,0,0),(0,0,0,0,0,0,0),0,false,0,0,([]:List Int),([]:List bW),0,0),2)) (.need (A.c .leq 0 n.1) (.br (A.c .eql (A.b .and .i64 set1 (A.b .shl .i64 1 n.1)) 0) (.ret ((0,0,(0,0,0,0,0),(0,0,0,0,0,0,0),0,false,0,0,([]:List Int),([]:List bW),0,0),2)) (.ret ((n.1,4,(0,0,0,0,set1),(n.1,m.1,set1,1,0,0,0),0,n.2.2.2.2.2.1,n.2.2.2.2.2.2.1,(A.k bf (n.2.2.2.2.2.2.2,n.2.2.2.2.2.2.2.2.1)).1),0)))))))))))
theorem acK{m:ak}{n:Node}{s:Int}:aA Empty.elim (Qe aj m n s) (DL m n s):=by
 unfold Qe DL
 refine af.2 ⟨rfl,?_⟩
 rw[show aj.k bL (m,n)=aS m n from rfl,show aj.k bf (n.2.2.2.2.2.2.2,n.2.2.2.2.2.2.2.2.1)=vI n.2.2.2.2.2.2.2 n.2.2.2.2.2.2.2.2.1 from rfl]
 by_cases h:aS m n=0
 ·rw[decide_eq_true h,nN h,cond_true]
  have hk:=(cy (aP h).1).1
  have hs:=oN hk
  have hi:=(bF.1 (aP h).2).1
  refine(ah (kH h)).2 (ax (p:=¬n.2.1=0) Ap (fun h1=>ay (by rw[decide_eq_false h1];rfl) (.ret _)) fun h1=>af.2 ⟨rfl,(ah rfl).2 (af.2 ⟨decide_eq_true (by omega),af.2 ⟨rfl,?_⟩⟩)⟩)
  rw[decide_eq_true (Decidable.not_not.1 h1),cond_true,aZ,fI (by omega) (by omega)]
  rw[show aj.k rE ((0,aj.b .shl .i64 1 m.1-1),s)=decide (0≤s∧s≤aj.b .shl .i64 1 m.1-1) from rfl]
  by_cases h3:0≤s∧s≤aj.b .shl .i64 1 m.1-1
  ·rw[decide_eq_true h3]
   have hb:=OH (c:=s) (a:=n.1) h3.1 (by omega) hi.1 (by omega)
   refine(ah rfl).2 (af.2 ⟨decide_eq_true (show 0≤n.1 from hi.1),ax (p:=aj.b .and .i64 s (aj.b .shl .i64 1 n.1)=0) aH (fun g=>?_) fun g=>?_⟩)
   ·exact ay (by rw[hb.1 g];rfl) (.ret _)
   ·exact ay (by rw[show ic s n.1=true from by cases hx:ic s n.1;exact absurd (hb.2 hx) g;rfl];rfl) (.ret _)
  ·rw[decide_eq_false h3];exact(ai rfl).2 (.ret _)
 ·rw[decide_eq_false h];exact(ai (fT h)).2 ((ai (fT h)).2 (.ret _))
def F7:(ak×Node×Int)→(Node×Int):=fun(m,c,k)=>DL m c k
def Zu:aD:=⟨[bd,aQ,yI], [aQ,yI],(@tt (ak×Node×Int)),F7⟩
theorem XZ:Sd 36 Zu:=aK au cK true 193 [] (fun A (m,n,set1)=>Qe A m n set1) (fc Tryz.func36 (fc Tryz.func90 (fc Tryz.func91 fz))) (sc rm (sc o3 (sc IJ sz))) fun(m,n,set1) hp h=>acK
def Te(A:bi)(m:ak)(n:Node):LT (Node×gT×Bool×Int) Empty:=.need (A.k (@tt (ak×Node)) (m,n)) (.br (A.c .neq (A.k bL (m,n)) 0) (.br (A.c .neq (A.k bL (m,n)) 0) (.ret ((0,0,(0,0,0,0,0),(0,0,0,0,0,0,0),0,false,0,0,([]:List Int),([]:List bW),0,0),(0,0,(0,0,0,0,0),0,([]:List Int)),false,(A.k bL (m,n)))) (.bad 73 "starctl.go:315")) (.br (A.not (A.c .eql n.2.1 1)) (.ret ((0,0,(0,0,0,0,0),(0,0,0,0,0,0,0),0,false,0,0,([]:List Int),([]:List bW),0,0),(0,0,(0,0,0,0,0),0,([]:List Int)),false,181)) (.need (A.k (@tt (cf×List Int)) (n.2.2.2.2.2.2.2,n.2.2.2.2.2.2.2.2.1)) (.br (A.c .neq (A.k bf (n.2.2.2.2.2.2.2,n.2.2.2.2.2.2.2.2.1)).2 0) (.br (A.c .neq (A.k bf (n.2.2.2.2.2.2.2,n.2.2.2.2.2.2.2.2.1)).2 0) (.ret ((0,0,(0,0,0,0,0),(0,0,0,0,0,0,0),0,false,0,0,([]:List Int),([]:List bW),0,0),(0,0,(0,0,0,0,0),0,([]:List Int)),false,(A.k bf (n.2.2.2.2.2.2.2,n.2.2.2.2.2.2.2.2.1)).2)) (.bad 73 "starctl.go:315")) (.br (A.c .gtr (A.b .sub .i64 n.2.2.2.2.1 1) 0) (.ret ((n.1,n.2.1,n.2.2.1,n.2.2.2.1,(A.b .sub .i64 n.2.2.2.2.1 1),n.2.2.2.2.2.1,n.2.2.2.2.2.2.1,(A.k bf (n.2.2.2.2.2.2.2,n.2.2.2.2.2.2.2.2.1)).1),(0,0,(0,0,0,0,0),0,([]:List Int)),false,0)) (.need (A.and (A.c .leq 0 n.1) (A.c .lss n.1 (A.l m.2.2.2.2.2.2.1))) (.br (A.not (A.n .bool m.2.2.2.2.2.2.1 n.1:Bool)) (.need (A.k (@tt (ak×Int)) (m,n.1)) (.ret ((n.1,1,(0,0,0,0,0),(0,0,0,0,0,0,0),(A.k pE (m,n.1)).1,n.2.2.2.2.2.1,n.2.2.2.2.2.2.1,(A.k bf (n.2.2.2.2.2.2.2,n.2.2.2.2.2.2.2.2.1)).1),(0,0,(0,0,0,0,0),0,([]:List Int)),false,0))) (.need (A.c .leq 0 n.1) (.ret ((n.1,2,(0,n.1,0,0,(A.b .shl .i64 1 n.1)),(n.1,m.1,(A.b .shl .i64 1 n.1),1,0,0,0),0,n.2.2.2.2.2.1,n.2.2.2.2.2.2.1,(A.k bf (n.2.2.2.2.2.2.2,n.2.2.2.2.2.2.2.2.1)).1),(1,0,(0,0,0,0,0),n.1,([]:List Int)),true,0))))))))))
theorem W4{m:ak}{n:Node}:aA Empty.elim (Te aj m n) (rI m n):=by
 unfold Te rI
 refine af.2 ⟨rfl,?_⟩
 rw[show aj.k bL (m,n)=aS m n from rfl,show aj.k bf (n.2.2.2.2.2.2.2,n.2.2.2.2.2.2.2.2.1)=vI n.2.2.2.2.2.2.2 n.2.2.2.2.2.2.2.2.1 from rfl]
 by_cases h:aS m n=0
 ·rw[decide_eq_true h,nN h,cond_true]
  refine(ah (kH h)).2 (ax (p:=¬n.2.1=1) Ap (fun h1=>ay (by rw[decide_eq_false h1];rfl) (.ret _)) fun h1=>af.2 ⟨rfl,(ah rfl).2 ?_⟩)
  have h1:=Decidable.not_not.1 h1
  obtain⟨ht,es⟩:=E9 h h1
  have hi:=(bF.1 (aP h).2).1
  have hl:=cy (aP h).1
  have ho:=Bc h (by omega)
  rw[decide_eq_true h1,cond_true,es]
  refine ax (p:=0<n.2.2.2.2.1-1) rfl (fun h2=>ay (by rw[decide_eq_true h2];rfl) (.ret _)) fun h2=>af.2 ⟨jr hl.2.2.1 hi.1 (show n.1<m.1 by omega),?_⟩
  rw[decide_eq_false h2,cond_false]
  cases (aj.n .bool m.2.2.2.2.2.2.1 n.1:Bool)
  ·refine(ai rfl).2 (af.2 ⟨rfl,ay ?_ (.ret _)⟩)
   rw[ho.1,ho.2,h1];rfl
  ·exact(ah rfl).2 (af.2 ⟨decide_eq_true (show 0≤n.1 from hi.1),.ret _⟩)
 ·rw[decide_eq_false h];exact(ai (fT h)).2 ((ai (fT h)).2 (.ret _))
def Dp:(ak×Node)→(Node×gT×Bool×Int):=fun(m,n)=>rI m n
def Uz:aD:=⟨[bd,aQ], [aQ,uy,.bool,yI],(@tt (ak×Node)),Dp⟩
theorem ZN:Sd 52 Uz:=aK au cK true 214 [] (fun A (m,n)=>Te A m n) (fc Tryz.func52 (fc Tryz.func90 (fc Tryz.func91 (fc Tryz.func92 fz)))) (sc rm (sc o3 (sc Cz sz))) fun(m,n) hp h=>W4
def RD(A:bi)(m:ak)(n:Node):LT (Node×Int) Empty:=.need (A.k (@tt Node) n) (.need (A.k (@tt (ak×Node)) (m,n)) (.br (A.c .neq (A.k bL (m,n)) 0) (.br (A.c .neq (A.k bL (m,n)) 0) (.ret ((0,0,(0,0,0,0,0),(0,0,0,0,0,0,0),0,false,0,0,([]:List Int),([]:List bW),0,0),(A.k bL (m,n)))) (.need (A.k (@tt (dq×Int)) (n.2.2.1,m.1)) (.br (A.c .neq (A.k jF (n.2.2.1,m.1)).2 0) (.ret ((0,0,(0,0,0,0,0),(0,0,0,0,0,0,0),0,false,0,0,([]:List Int),([]:List bW),0,0),(A.k jF (n.2.2.1,m.1)).2)) (.bad 73 "starctl.go:301")))) (.br (A.not (A.k jU n)) (.ret ((0,0,(0,0,0,0,0),(0,0,0,0,0,0,0),0,false,0,0,([]:List Int),([]:List bW),0,0),181)) (.need (A.k (@tt (cf×List Int)) (n.2.2.2.2.2.2.2,n.2.2.2.2.2.2.2.2.1)) (.br (A.c .neq (A.k bf (n.2.2.2.2.2.2.2,n.2.2.2.2.2.2.2.2.1)).2 0) (.br (A.c .neq (A.k bf (n.2.2.2.2.2.2.2,n.2.2.2.2.2.2.2.2.1)).2 0) (.ret ((0,0,(0,0,0,0,0),(0,0,0,0,0,0,0),0,false,0,0,([]:List Int),([]:List bW),0,0),(A.k bf (n.2.2.2.2.2.2.2,n.2.2.2.2.2.2.2.2.1)).2)) (.need (A.k (@tt (dq×Int)) (n.2.2.1,m.1)) (.br (A.c .neq (A.k jF (n.2.2.1,m.1)).2 0) (.ret ((0,0,(0,0,0,0,0),(0,0,0,0,0,0,0),0,false,0,0,([]:List Int),([]:List bW),0,0),(A.k jF (n.2.2.1,m.1)).2)) (.bad 73 "starctl.go:301")))) (.need (A.k (@tt (dq×Int)) (n.2.2.1,m.1)) (.br (A.c .neq (A.k jF (n.2.2.1,m.1)).2 0) (.ret ((0,0,(0,0,0,0,0),(0,0,0,0,0,0,0),0,false,0,0,([]:List Int),([]:List bW),0,0),(A.k jF (n.2.2.1,m.1)).2)) (.br (A.c .gtr (A.k jF (n.2.2.1,m.1)).1.2.1 0) (.ret ((n.1,n.2.1,(A.k jF (n.2.2.1,m.1)).1,n.2.2.2.1,n.2.2.2.2.1,n.2.2.2.2.2.1,n.2.2.2.2.2.2.1,(A.k bf (n.2.2.2.2.2.2.2,n.2.2.2.2.2.2.2.2.1)).1),0)) (.need (A.k (@tt cf) (A.k bf (n.2.2.2.2.2.2.2,n.2.2.2.2.2.2.2.2.1)).1) (.ret ((n.1,n.2.1,(A.k jF (n.2.2.1,m.1)).1,n.2.2.2.1,n.2.2.2.2.1,n.2.2.2.2.2.1,n.2.2.2.2.2.2.1,(A.k Cw (A.k bf (n.2.2.2.2.2.2.2,n.2.2.2.2.2.2.2.2.1)).1).1),(A.k Cw (A.k bf (n.2.2.2.2.2.2.2,n.2.2.2.2.2.2.2.2.1)).1).2)))))))))))
theorem VF{m:ak}{n:Node}:aA Empty.elim (RD aj m n) (pP m n):=by
 unfold RD pP
 refine af.2 ⟨rfl,af.2 ⟨rfl,?_⟩⟩
 rw[show aj.k bL (m,n)=aS m n from rfl,show aj.k bf (n.2.2.2.2.2.2.2,n.2.2.2.2.2.2.2.2.1)=vI n.2.2.2.2.2.2.2 n.2.2.2.2.2.2.2.2.1 from rfl,show aj.k jU n=gb n from rfl]
 by_cases h:aS m n=0
 ·rw[decide_eq_true h,nN h,cond_true]
  refine(ah (kH h)).2 ?_
  cases h1:gb n
  ·exact(ai rfl).2 (.ret _)
  have hs:=step_ok h h1
  have hr:=IN h
  have hp:=step_pos h h1
  rw[cond_true]
  refine(ah rfl).2 (af.2 ⟨rfl,(ah rfl).2 (af.2 ⟨rfl,(ah (kH hs)).2 (ax (p:=0<(gQ n.2.2.1 m.1).1.2.1) rfl (fun h2=>ay ?_ (.ret _)) fun h2=>af.2 ⟨rfl,ay ?_ (.ret _)⟩)⟩)⟩)
  ·rw[decide_eq_false (show ¬(gQ n.2.2.1 m.1).1.2.1=0 by omega)];rfl
  ·rw[decide_eq_true (show(gQ n.2.2.1 m.1).1.2.1=0 by omega)];exact congrArg (Prod.mk _) hr
 ·rw[decide_eq_false h];exact(ai (fT h)).2 ((ai (fT h)).2 (.ret _))
def FM:(ak×Node)→(Node×Int):=fun(m,n)=>pP m n
def XG:aD:=⟨[bd,aQ], [aQ,yI],(@tt (ak×Node)),FM⟩
theorem X4:Sd 51 XG:=aK au cK true 171 [] (fun A (m,n)=>RD A m n) (fc Tryz.func51 (fc Tryz.func90 fz)) (sc rm (sc Cu (sc o3 (sc O3 (sc O9 sz))))) fun(m,n) hp h=>VF
def Sq(A:bi)(m:ak)(n:Node)(o:xL):LT (Node×Int) Empty:=.need (A.k (@tt (ak×Node)) (m,n)) (.br (A.c .neq (A.k bL (m,n)) 0) (.br (A.c .neq (A.k bL (m,n)) 0) (.ret ((0,0,(0,0,0,0,0),(0,0,0,0,0,0,0),0,false,0,0,([]:List Int),([]:List bW),0,0),(A.k bL (m,n)))) (.br (A.c .eql o.2.2.2.1 1) (.bad 73 "starctl.go:158") (.br (A.c .eql o.2.2.2.1 2) (.bad 73 "starctl.go:158") (.br (A.c .eql o.2.2.2.1 3) (.bad 73 "starctl.go:158") (.ret ((0,0,(0,0,0,0,0),(0,0,0,0,0,0,0),0,false,0,0,([]:List Int),([]:List bW),0,0),2)))))) (.need (A.k (@tt (cf×List Int)) (n.2.2.2.2.2.2.2,n.2.2.2.2.2.2.2.2.1)) (.br (A.c .neq (A.k bf (n.2.2.2.2.2.2.2,n.2.2.2.2.2.2.2.2.1)).2 0) (.br (A.c .neq (A.k bf (n.2.2.2.2.2.2.2,n.2.2.2.2.2.2.2.2.1)).2 0) (.ret ((0,0,(0,0,0,0,0),(0,0,0,0,0,0,0),0,false,0,0,([]:List Int),([]:List bW),0,0),(A.k bf (n.2.2.2.2.2.2.2,n.2.2.2.2.2.2.2.2.1)).2)) (.br (A.c .eql o.2.2.2.1 1) (.bad 73 "starctl.go:158") (.br (A.c .eql o.2.2.2.1 2) (.bad 73 "starctl.go:158") (.br (A.c .eql o.2.2.2.1 3) (.bad 73 "starctl.go:158") (.ret ((0,0,(0,0,0,0,0),(0,0,0,0,0,0,0),0,false,0,0,([]:List Int),([]:List bW),0,0),2)))))) (.br (A.c .eql o.2.2.2.1 1) (.need (A.k (@tt Node) (n.1,n.2.1,n.2.2.1,n.2.2.2.1,n.2.2.2.2.1,n.2.2.2.2.2.1,n.2.2.2.2.2.2.1,(A.k bf (n.2.2.2.2.2.2.2,n.2.2.2.2.2.2.2.2.1)).1)) (.br (A.not (A.k jU (n.1,n.2.1,n.2.2.1,n.2.2.2.1,n.2.2.2.2.1,n.2.2.2.2.2.1,n.2.2.2.2.2.2.1,(A.k bf (n.2.2.2.2.2.2.2,n.2.2.2.2.2.2.2.2.1)).1))) (.ret ((n.1,n.2.1,n.2.2.1,n.2.2.2.1,n.2.2.2.2.1,n.2.2.2.2.2.1,n.2.2.2.2.2.2.1,(A.k bf (n.2.2.2.2.2.2.2,n.2.2.2.2.2.2.2.2.1)).1),0)) (.need (A.k (@tt (cf×List Int)) ((A.k bf (n.2.2.2.2.2.2.2,n.2.2.2.2.2.2.2.2.1)).1,o.2.2.2.2.2)) (.br (A.c .neq (A.k bf ((A.k bf (n.2.2.2.2.2.2.2,n.2.2.2.2.2.2.2.2.1)).1,o.2.2.2.2.2)).2 0) (.ret ((0,0,(0,0,0,0,0),(0,0,0,0,0,0,0),0,false,0,0,([]:List Int),([]:List bW),0,0),(A.k bf ((A.k bf (n.2.2.2.2.2.2.2,n.2.2.2.2.2.2.2.2.1)).1,o.2.2.2.2.2)).2)) (.ret ((n.1,n.2.1,n.2.2.1,n.2.2.2.1,n.2.2.2.2.1,n.2.2.2.2.2.1,n.2.2.2.2.2.2.1,(A.k bf ((A.k bf (n.2.2.2.2.2.2.2,n.2.2.2.2.2.2.2.2.1)).1,o.2.2.2.2.2)).1),0)))))) (.br (A.c .eql o.2.2.2.1 2) (.need (A.k (@tt Node) (n.1,n.2.1,n.2.2.1,n.2.2.2.1,n.2.2.2.2.1,n.2.2.2.2.2.1,n.2.2.2.2.2.2.1,(A.k bf (n.2.2.2.2.2.2.2,n.2.2.2.2.2.2.2.2.1)).1)) (.br (A.not (A.k jU (n.1,n.2.1,n.2.2.1,n.2.2.2.1,n.2.2.2.2.1,n.2.2.2.2.2.1,n.2.2.2.2.2.2.1,(A.k bf (n.2.2.2.2.2.2.2,n.2.2.2.2.2.2.2.2.1)).1))) (.ret ((n.1,n.2.1,n.2.2.1,n.2.2.2.1,n.2.2.2.2.1,n.2.2.2.2.2.1,n.2.2.2.2.2.2.1,(A.k bf (n.2.2.2.2.2.2.2,n.2.2.2.2.2.2.2.2.1)).1),0)) (.need (A.k (@tt cf) (A.k bf (n.2.2.2.2.2.2.2,n.2.2.2.2.2.2.2.2.1)).1) (.br (A.c .neq (A.k xv (A.k bf (n.2.2.2.2.2.2.2,n.2.2.2.2.2.2.2.2.1)).1).2 0) (.ret ((0,0,(0,0,0,0,0),(0,0,0,0,0,0,0),0,false,0,0,([]:List Int),([]:List bW),0,0),(A.k xv (A.k bf (n.2.2.2.2.2.2.2,n.2.2.2.2.2.2.2.2.1)).1).2)) (.ret ((n.1,n.2.1,n.2.2.1,n.2.2.2.1,n.2.2.2.2.1,n.2.2.2.2.2.1,n.2.2.2.2.2.2.1,(A.k xv (A.k bf (n.2.2.2.2.2.2.2,n.2.2.2.2.2.2.2.2.1)).1).1),0)))))) (.br (A.c .eql o.2.2.2.1 3) (.need (A.k (@tt Node) (n.1,n.2.1,n.2.2.1,n.2.2.2.1,n.2.2.2.2.1,n.2.2.2.2.2.1,n.2.2.2.2.2.2.1,(A.k bf (n.2.2.2.2.2.2.2,n.2.2.2.2.2.2.2.2.1)).1)) (.br (A.not (A.k jU (n.1,n.2.1,n.2.2.1,n.2.2.2.1,n.2.2.2.2.1,n.2.2.2.2.2.1,n.2.2.2.2.2.2.1,(A.k bf (n.2.2.2.2.2.2.2,n.2.2.2.2.2.2.2.2.1)).1))) (.ret ((n.1,n.2.1,n.2.2.1,n.2.2.2.1,n.2.2.2.2.1,n.2.2.2.2.2.1,n.2.2.2.2.2.2.1,(A.k bf (n.2.2.2.2.2.2.2,n.2.2.2.2.2.2.2.2.1)).1),0)) (.need (A.k (@tt (cf×Int)) ((A.k bf (n.2.2.2.2.2.2.2,n.2.2.2.2.2.2.2.2.1)).1,o.2.2.2.2.1)) (.br (A.c .neq (A.k w7 ((A.k bf (n.2.2.2.2.2.2.2,n.2.2.2.2.2.2.2.2.1)).1,o.2.2.2.2.1)).2 0) (.ret ((0,0,(0,0,0,0,0),(0,0,0,0,0,0,0),0,false,0,0,([]:List Int),([]:List bW),0,0),(A.k w7 ((A.k bf (n.2.2.2.2.2.2.2,n.2.2.2.2.2.2.2.2.1)).1,o.2.2.2.2.1)).2)) (.ret ((n.1,n.2.1,n.2.2.1,n.2.2.2.1,n.2.2.2.2.1,n.2.2.2.2.2.1,n.2.2.2.2.2.2.1,(A.k w7 ((A.k bf (n.2.2.2.2.2.2.2,n.2.2.2.2.2.2.2.2.1)).1,o.2.2.2.2.1)).1),0)))))) (.ret ((0,0,(0,0,0,0,0),(0,0,0,0,0,0,0),0,false,0,0,([]:List Int),([]:List bW),0,0),2))))))))
theorem Yh{m:ak}{n:Node}{o:xL}:aA Empty.elim (Sq aj m n o) (pK m n o):=by
 unfold Sq pK
 refine af.2 ⟨rfl,?_⟩
 rw[show aj.k bL (m,n)=aS m n from rfl,show aj.k bf (n.2.2.2.2.2.2.2,n.2.2.2.2.2.2.2.2.1)=vI n.2.2.2.2.2.2.2 n.2.2.2.2.2.2.2.2.1 from rfl]
 by_cases h:aS m n=0
 ·rw[decide_eq_true h,nN h,cond_true]
  refine(ah (kH h)).2 (af.2 ⟨rfl,(ah rfl).2 (ax (p:=o.2.2.2.1=1) aH (fun k=>af.2 ⟨rfl,?_⟩) fun k=>ax (p:=o.2.2.2.1=2) aH (fun k2=>af.2 ⟨rfl,?_⟩) fun k2=>ax (p:=o.2.2.2.1=3) aH (fun k3=>af.2 ⟨rfl,?_⟩) fun k3=>?_)⟩)
  ·rw[decide_eq_true (show 1≤o.2.2.2.1∧o.2.2.2.1≤3 by omega),decide_eq_true k]
   exact Kw (n:=n) (af.2 ⟨rfl,yX (r:=vI n.2.2.2.2.2.2.2 o.2.2.2.2.2) (fun h=>rfl)⟩)
  ·rw[decide_eq_true (show 1≤o.2.2.2.1∧o.2.2.2.1≤3 by omega),decide_eq_false k,decide_eq_true k2]
   exact Kw (n:=n) (af.2 ⟨rfl,yX (r:=H7 n.2.2.2.2.2.2.2) (fun h=>rfl)⟩)
  ·rw[decide_eq_true (show 1≤o.2.2.2.1∧o.2.2.2.1≤3 by omega),decide_eq_false k,decide_eq_false k2]
   exact Kw (n:=n) (af.2 ⟨rfl,yX (r:=vF n.2.2.2.2.2.2.2 o.2.2.2.2.1) (fun h=>rfl)⟩)
  ·exact ay (by rw[decide_eq_false (show ¬(1≤o.2.2.2.1∧o.2.2.2.1≤3) by omega)];rfl) (.ret _)
 ·rw[decide_eq_false h];exact(ai (fT h)).2 ((ai (fT h)).2 (.ret _))
def FI:(ak×Node×xL)→(Node×Int):=fun(m,c,k)=>pK m c k
def VR:aD:=⟨[bd,aQ,GY], [aQ,yI],(@tt (ak×Node×xL)),FI⟩
theorem Ww:Sd 38 VR:=aK au cK true 208 [] (fun A (m,n,o)=>Sq A m n o) (fc Tryz.func38 (fc Tryz.func90 (fc Tryz.func95 (fc Tryz.func96 (fc Tryz.func97 fz))))) (sc rm (sc Cu (sc o3 (sc Ob (sc Ot sz))))) fun(m,n,o) hp h=>Yh
open Go.Ev.Pl
def Rn(x:Node):Node:=(x.1,4,x.2.2.1,x.2.2.2.1,x.2.2.2.2.1,false,x.2.2.2.2.2.2)
theorem Ji{m:ak}{x:Node}{r:Int}{d:List Int}(hr:(bif decide ((kN m x.2.2.1 x.2.2.2.2.2.2.2.2.2.2.2).2=0) then(kN m x.2.2.1 x.2.2.2.2.2.2.2.2.2.2.2).1 else 0)=r)(hd:(bif decide ((bo m x.2.2.1.2.2.1 x.1).1=3) then([]:List Int) else(nc x.2.2.2.2.2.2.2 (BN m x.2.2.1.2.2.1 x.1)).1)=d):gn m (Rn x)=((bo m x.2.2.1.2.2.1 x.1).1,r,x.2.2.1,0,d):=by subst hr hd;rfl
theorem uI{v:gh}(h:gS v=0):(fw v).2.1=1∨(fw v).2.1=2:=by
 obtain⟨a,b,c,d,e,f,g⟩:=v
 simp only[fw,t23,LT.val,ap,Ni,h]
 cases aj.c .leq d e
 ·exact .inl rfl
 ·exact .inr rfl
theorem IE{v:gh}(h:gS v=0):(ib v).2.1=1∨(ib v).2.1=2∨(ib v).2.1=3:=by
 obtain⟨a,b,c,d,e,f,g⟩:=v
 have h23:=uI h
 simp only[ib,t27,LT.val,ap,Ni,h]
 cases aj.c .eql d 0
 ·rcases h23 with h|h
  ·exact .inl h
  ·exact .inr (.inl h)
 ·cases aj.c .eql e 0
  ·rcases h23 with h|h
   ·exact .inl h
   ·exact .inr (.inl h)
  ·exact .inr (.inr rfl)
theorem H6{v:gh}(h:gS v=0):(ib v).2.2=0:=by
 have h23:=uL h
 obtain⟨a,b,c,d,e,f,g⟩:=v
 simp only[ib,t27,LT.val,ap,Ni,h]
 cases aj.c .eql d 0
 ·exact h23
 ·cases aj.c .eql e 0
  ·exact h23
  ·rfl
structure Lq where
 (a0:Int)
structure Ir where
 (b11:ak) (b12:Node)
structure SZ where
 (c0:Int) (c11:ak) (c12:Node)
structure Lh where
 (fO:ak) (gY:Node) (Ht:gT)
structure IP where
 (e10:ak) (e11:Node) (e12:gh)
inductive MC where
 | c0 (p:Lq)
 | c1 (p:Ir)
 | c2 (p:SZ)
 | c3 (p:Lh)
 | c4 (p:IP)
noncomputable def Q5:MC→gB
 | .c0 p=>⟨[⟨50,82,(en [(4,.ptr 0 0),(5,.ptr 1 0),(8,.cY),(9,vi p.a0)]),[.code (cw Tryz.f50 [1,1,0,0]),.code (cw Tryz.f50 [1,1,0,1]),.code (cw Tryz.f50 [1,1,1])],[],none⟩],[.flat false [vi 0,vi 0,vi 0,vi 0,vi 0,vi 0,vi 0,vi 0,vi 0,vi 0,vi 0,vi 0,vi 0,vi 0,vi 0,vb false,vi 0,vi 0,.bK true,.bK true,vi 0,vi 0],.flat false [vi 0,vi 0,vi 0,vi 0,vi 0,vi 0,vi 0,vi 0,.bK true],.dead]⟩
 | .c1 p=>⟨[⟨50,82,(en [(4,.ptr 0 0),(5,.ptr 1 0),(8,.ptr 2 0),(9,vi 0)]),[.code (cw Tryz.f50 [1,1,0,0]),.code (cw Tryz.f50 [1,1,0,1]),.code (cw Tryz.f50 [1,1,1])],[],none⟩],[.flat false [vi 0,vi 0,vi 0,vi 0,vi 0,vi 0,vi 0,vi 0,vi 0,vi 0,vi 0,vi 0,vi 0,vi 0,vi 0,vb false,vi 0,vi 0,.bK true,.bK true,vi 0,vi 0],.flat false [vi 0,vi 0,vi 0,vi 0,vi 0,vi 0,vi 0,vi 0,.bK true],.flat false (dc bd p.b11++dc aQ p.b12),.dead]⟩
 | .c2 p=>⟨[⟨50,82,(en [(4,.ptr 0 0),(5,.ptr 1 0),(8,.ptr 2 0),(33,vi p.c0)]),[.code (cw Tryz.f50 [1,1,1,0,1,0,0]),.code (cw Tryz.f50 [1,1,1,0,1,0,1]),.inBlock 0,.code (cw Tryz.f50 [1,1,1,1])],[],none⟩],[.flat false [vi 0,vi 0,vi 0,vi 0,vi 0,vi 0,vi 0,vi 0,vi 0,vi 0,vi 0,vi 0,vi 0,vi 0,vi 0,vb false,vi 0,vi 0,.bK true,.bK true,vi 0,vi 0],.flat false [vi 0,vi 0,vi 0,vi 0,vi 0,vi 0,vi 0,vi 0,.bK true],.flat false (dc bd p.c11++dc aQ p.c12),.dead]⟩
 | .c3 p=>⟨[⟨50,82,(en [(4,.ptr 0 0),(5,.ptr 1 0),(8,.ptr 2 0),(10,.ptr 3 0)]),[.code (cw Tryz.f50 [1,1,1,0,1,0,1,0,1,1,0]),.code (cw Tryz.f50 [1,1,1,0,1,0,1,0,1,1,1]),.inBlock 0,.code (cw Tryz.f50 [1,1,1,1])],[],none⟩],[.flat false [vi 0,vi 0,vi 0,vi 0,vi 0,vi 0,vi 0,vi 0,vi 0,vi 0,vi 0,vi 0,vi 0,vi 0,vi 0,vb false,vi 0,vi 0,.bK true,.bK true,vi 0,vi 0],.flat false [vi 0,vi 0,vi 0,vi 0,vi 0,vi 0,vi 0,vi 0,.bK true],.flat false (dc bd p.fO++dc aQ p.gY),.flat false (dc uy p.Ht),.dead]⟩
 | .c4 p=>⟨[⟨50,82,(en [(4,.ptr 0 0),(5,.ptr 1 0),(8,.ptr 2 0),(10,.ptr 3 0)]),[.code (cw Tryz.f50 [1,1,1,0,1,0,1,0,1,1,0]),.code (cw Tryz.f50 [1,1,1,0,1,0,1,0,1,1,1]),.inBlock 0,.code (cw Tryz.f50 [1,1,1,1])],[],none⟩],[.flat false [vi 0,vi 0,vi 0,vi 0,vi 0,vi 0,vi 0,vi 0,vi 0,vi 0,vi 0,vi 0,vi 0,vi 0,vi 0,vb false,vi 0,vi 0,.bK true,.bK true,vi 0,vi 0],.flat false [vi 0,vi 0,vi 0,vi 0,vi 0,vi 0,vi 0,vi 0,.bK true],.flat false (dc bd p.e10++dc aQ p.e11),.flat false (dc mY p.e12 ++ [vi 0,.bK true]),.dead]⟩
def Rf(A:bi)(m:ak)(n:Node):LT (Node×gT×Bool×Int) MC:=.need (A.k (@tt Node) n) (.br (A.k jU n) (.need (A.k (@tt (ak×Node)) (m,n)) (.br (A.c .neq (A.k bL (m,n)) 0) (.more (.c0 ⟨(A.k bL (m,n))⟩)) (.br (A.not (A.c .eql n.2.2.1.2.1 n.1)) (.more (.c0 ⟨181⟩)) (.need (A.k (@tt (cf×List Int)) (n.2.2.2.2.2.2.2,n.2.2.2.2.2.2.2.2.1)) (.br (A.c .neq (A.k bf (n.2.2.2.2.2.2.2,n.2.2.2.2.2.2.2.2.1)).2 0) (.more (.c0 ⟨(A.k bf (n.2.2.2.2.2.2.2,n.2.2.2.2.2.2.2.2.1)).2⟩)) (.more (.c1 ⟨m,(n.1,n.2.1,n.2.2.1,n.2.2.2.1,n.2.2.2.2.1,n.2.2.2.2.2.1,n.2.2.2.2.2.2.1,(A.k bf (n.2.2.2.2.2.2.2,n.2.2.2.2.2.2.2.2.1)).1)⟩))))))) (.need (A.k (@tt (ak×Node)) (m,n)) (.br (A.c .neq (A.k bL (m,n)) 0) (.more (.c0 ⟨(A.k bL (m,n))⟩)) (.more (.c0 ⟨181⟩)))))
def oQ(A:bi):MC→LT (Node×gT×Bool×Int) MC
 | .c0 p=>.br (A.c .neq p.a0 0) (.ret ((0,0,(0,0,0,0,0),(0,0,0,0,0,0,0),0,false,0,0,([]:List Int),([]:List bW),0,0),(0,0,(0,0,0,0,0),0,([]:List Int)),false,p.a0)) (.bad 73 "starctl.go:171")
 | .c1 p=>.br (A.c .neq 0 0) (.ret ((0,0,(0,0,0,0,0),(0,0,0,0,0,0,0),0,false,0,0,([]:List Int),([]:List bW),0,0),(0,0,(0,0,0,0,0),0,([]:List Int)),false,0)) (.br (A.c .eql p.b12.2.1 3) (.need (A.k (@tt gh) p.b12.2.2.2.1) (.br (A.c .eql (A.k ib p.b12.2.2.2.1).2.2 0) (.br (A.c .eql (A.k ib p.b12.2.2.2.1).2.1 1) (.more (.c2 ⟨(A.k ib p.b12.2.2.2.1).2.1,p.b11,(p.b12.1,p.b12.2.1,(p.b12.2.2.1.1,p.b12.2.2.1.2.1,p.b12.2.2.1.2.2.1,p.b12.2.2.1.2.2.2.1,(A.k ib p.b12.2.2.2.1).1.2.2.1),(A.k ib p.b12.2.2.2.1).1,p.b12.2.2.2.2)⟩)) (.more (.c2 ⟨(A.k ib p.b12.2.2.2.1).2.1,p.b11,p.b12⟩))) (.more (.c2 ⟨(A.k ib p.b12.2.2.2.1).2.1,p.b11,p.b12⟩)))) (.br (A.c .eql p.b12.2.1 2) (.br (A.c .lss p.b12.2.2.2.1.2.2.2.1 2) (.more (.c2 ⟨4,p.b11,p.b12⟩)) (.br (A.c .leq p.b12.2.2.2.1.2.2.2.1 p.b12.2.2.2.1.2.2.2.2.1) (.more (.c2 ⟨4,p.b11,p.b12⟩)) (.need (A.k (@tt gh) p.b12.2.2.2.1) (.br (A.c .eql (A.k fw p.b12.2.2.2.1).2.2 0) (.br (A.c .eql (A.k fw p.b12.2.2.2.1).2.1 1) (.more (.c2 ⟨(A.k fw p.b12.2.2.2.1).2.1,p.b11,(p.b12.1,p.b12.2.1,(p.b12.2.2.1.1,p.b12.2.2.1.2.1,p.b12.2.2.1.2.2.1,p.b12.2.2.1.2.2.2.1,(A.k fw p.b12.2.2.2.1).1.2.2.1),(A.k fw p.b12.2.2.2.1).1,p.b12.2.2.2.2)⟩)) (.more (.c2 ⟨(A.k fw p.b12.2.2.2.1).2.1,p.b11,p.b12⟩))) (.more (.c2 ⟨(A.k fw p.b12.2.2.2.1).2.1,p.b11,p.b12⟩)))))) (.need (A.k (@tt gh) p.b12.2.2.2.1) (.br (A.c .eql (A.k fw p.b12.2.2.2.1).2.2 0) (.br (A.c .eql (A.k fw p.b12.2.2.2.1).2.1 1) (.more (.c2 ⟨(A.k fw p.b12.2.2.2.1).2.1,p.b11,(p.b12.1,p.b12.2.1,(p.b12.2.2.1.1,p.b12.2.2.1.2.1,p.b12.2.2.1.2.2.1,p.b12.2.2.1.2.2.2.1,(A.k fw p.b12.2.2.2.1).1.2.2.1),(A.k fw p.b12.2.2.2.1).1,p.b12.2.2.2.2)⟩)) (.more (.c2 ⟨(A.k fw p.b12.2.2.2.1).2.1,p.b11,p.b12⟩))) (.more (.c2 ⟨(A.k fw p.b12.2.2.2.1).2.1,p.b11,p.b12⟩))))))
 | .c2 p=>.br (A.c .eql p.c0 1) (.need (A.k (@tt (ak×Int×Int)) (p.c11,p.c12.2.2.1.2.2.1,p.c12.1)) (.need (A.k (@tt (ak×dq×Int)) (p.c11,p.c12.2.2.1,p.c12.2.2.2.2.2.2.2.2.2.2.2)) (.br (A.c .eql (A.k qs (p.c11,p.c12.2.2.1,p.c12.2.2.2.2.2.2.2.2.2.2.2)).2 0) (.br (A.c .neq (A.k dB (p.c11,p.c12.2.2.1.2.2.1,p.c12.1)).1 3) (.need (A.and (A.c .leq 0 p.c12.2.2.1.2.2.1) (A.c .lss p.c12.2.2.1.2.2.1 (A.l p.c11.2.2.2.2.2.2.2))) (.need (A.and (A.c .leq 0 p.c12.1) (A.c .lss p.c12.1 (A.l (A.n aX p.c11.2.2.2.2.2.2.2 p.c12.2.2.1.2.2.1:Mode).1))) (.need (A.k (@tt (cf×Int)) (p.c12.2.2.2.2.2.2.2,(A.n yI (A.n aX p.c11.2.2.2.2.2.2.2 p.c12.2.2.1.2.2.1:Mode).1 p.c12.1:Int))) (.more (.c3 ⟨p.c11,(p.c12.1,4,p.c12.2.2.1,p.c12.2.2.2.1,p.c12.2.2.2.2.1,false,p.c12.2.2.2.2.2.2),((A.k dB (p.c11,p.c12.2.2.1.2.2.1,p.c12.1)).1,(A.k qs (p.c11,p.c12.2.2.1,p.c12.2.2.2.2.2.2.2.2.2.2.2)).1,p.c12.2.2.1,0,(A.k rF (p.c12.2.2.2.2.2.2.2,(A.n yI (A.n aX p.c11.2.2.2.2.2.2.2 p.c12.2.2.1.2.2.1:Mode).1 p.c12.1:Int))).1)⟩))))) (.more (.c4 ⟨p.c11,(p.c12.1,4,p.c12.2.2.1,p.c12.2.2.2.1,p.c12.2.2.2.2.1,false,p.c12.2.2.2.2.2.2),((A.k dB (p.c11,p.c12.2.2.1.2.2.1,p.c12.1)).1,(A.k qs (p.c11,p.c12.2.2.1,p.c12.2.2.2.2.2.2.2.2.2.2.2)).1,p.c12.2.2.1)⟩))) (.br (A.c .neq (A.k dB (p.c11,p.c12.2.2.1.2.2.1,p.c12.1)).1 3) (.need (A.and (A.c .leq 0 p.c12.2.2.1.2.2.1) (A.c .lss p.c12.2.2.1.2.2.1 (A.l p.c11.2.2.2.2.2.2.2))) (.need (A.and (A.c .leq 0 p.c12.1) (A.c .lss p.c12.1 (A.l (A.n aX p.c11.2.2.2.2.2.2.2 p.c12.2.2.1.2.2.1:Mode).1))) (.need (A.k (@tt (cf×Int)) (p.c12.2.2.2.2.2.2.2,(A.n yI (A.n aX p.c11.2.2.2.2.2.2.2 p.c12.2.2.1.2.2.1:Mode).1 p.c12.1:Int))) (.more (.c3 ⟨p.c11,(p.c12.1,4,p.c12.2.2.1,p.c12.2.2.2.1,p.c12.2.2.2.2.1,false,p.c12.2.2.2.2.2.2),((A.k dB (p.c11,p.c12.2.2.1.2.2.1,p.c12.1)).1,0,p.c12.2.2.1,0,(A.k rF (p.c12.2.2.2.2.2.2.2,(A.n yI (A.n aX p.c11.2.2.2.2.2.2.2 p.c12.2.2.1.2.2.1:Mode).1 p.c12.1:Int))).1)⟩))))) (.more (.c4 ⟨p.c11,(p.c12.1,4,p.c12.2.2.1,p.c12.2.2.2.1,p.c12.2.2.2.2.1,false,p.c12.2.2.2.2.2.2),((A.k dB (p.c11,p.c12.2.2.1.2.2.1,p.c12.1)).1,0,p.c12.2.2.1)⟩)))))) (.br (A.c .eql p.c0 2) (.ret ((p.c12.1,5,(0,0,0,0,0),(0,0,0,0,0,0,0),0,false,1,p.c12.2.2.2.2.2.2.2),(0,0,(0,0,0,0,0),0,([]:List Int)),false,0)) (.br (A.c .eql p.c0 3) (.need (A.k (@tt (ak×Int)) (p.c11,p.c12.1)) (.ret ((p.c12.1,1,(0,0,0,0,0),(0,0,0,0,0,0,0),(A.k pE (p.c11,p.c12.1)).1,p.c12.2.2.2.2.2.1,2,p.c12.2.2.2.2.2.2.2),(0,0,(0,0,0,0,0),0,([]:List Int)),false,0))) (.need (A.k (@tt (ak×Int)) (p.c11,p.c12.1)) (.ret ((p.c12.1,1,(0,0,0,0,0),(0,0,0,0,0,0,0),(A.k vX (p.c11,p.c12.1)).1,p.c12.2.2.2.2.2),(0,0,(0,0,0,0,0),0,([]:List Int)),false,0)))))
 | .c3 p=>.need (A.k (@tt (ak×dq×Int)) (p.fO,p.gY.2.2.1,p.Ht.2.1)) (.need (A.k (@tt (ak×dq×Int)) (p.fO,p.gY.2.2.1,p.Ht.2.1)) (.br (A.c .eql (A.k gi (p.fO,p.gY.2.2.1,p.Ht.2.1)).2 0) (.ret ((p.gY.1,p.gY.2.1,(A.k gi (p.fO,p.gY.2.2.1,p.Ht.2.1)).1,p.gY.2.2.2),p.Ht,true,0)) (.ret (p.gY,p.Ht,true,0))))
 | .c4 p=>.need (A.k (@tt (ak×dq×Int)) (p.e10,p.e11.2.2.1,p.e12.2.1)) (.need (A.k (@tt (ak×dq×Int)) (p.e10,p.e11.2.2.1,p.e12.2.1)) (.br (A.c .eql (A.k gi (p.e10,p.e11.2.2.1,p.e12.2.1)).2 0) (.ret ((p.e11.1,p.e11.2.1,(A.k gi (p.e10,p.e11.2.2.1,p.e12.2.1)).1,p.e11.2.2.2),(p.e12.1,p.e12.2.1,p.e12.2.2,0,([]:List Int)),true,0)) (.ret (p.e11,(p.e12.1,p.e12.2.1,p.e12.2.2,0,([]:List Int)),true,0))))
theorem Q_{p:Lh}:aA (oQ aj) (.more (.c3 p)) ((p.gY.1,p.gY.2.1,eY p.fO p.gY.2.2.1 p.Ht.2.1,p.gY.2.2.2),p.Ht,true,0):=by
 rw[al,oQ,eY]
 rw[show ∀x,aj.k gi x=l5 x.1 x.2.1 x.2.2 from fun _=>rfl]
 refine af.2 ⟨rfl,af.2 ⟨rfl,ax (p:=(l5 p.fO p.gY.2.2.1 p.Ht.2.1).2=0) aH (fun g=>?_) fun g=>?_⟩⟩
 ·exact ay (by rw[decide_eq_true g];rfl) (.ret _)
 ·exact ay (by rw[decide_eq_false g];rfl) (.ret _)
theorem QL{p:IP}:aA (oQ aj) (.more (.c4 p)) ((p.e11.1,p.e11.2.1,eY p.e10 p.e11.2.2.1 p.e12.2.1,p.e11.2.2.2),(p.e12.1,p.e12.2.1,p.e12.2.2,0,([]:List Int)),true,0):=by
 rw[al,oQ,eY]
 rw[show ∀x,aj.k gi x=l5 x.1 x.2.1 x.2.2 from fun _=>rfl]
 refine af.2 ⟨rfl,af.2 ⟨rfl,ax (p:=(l5 p.e10 p.e11.2.2.1 p.e12.2.1).2=0) aH (fun g=>?_) fun g=>?_⟩⟩
 ·exact ay (by rw[decide_eq_true g];rfl) (.ret _)
 ·exact ay (by rw[decide_eq_false g];rfl) (.ret _)
theorem KS{m:ak}{x:Node}(hm:dy m=true)(h1:0≤x.1∧x.1≤m.1-1)(h2:0≤x.2.2.1.2.2.1∧x.2.2.1.2.2.1<cO m):aA (oQ aj) (.more (.c2 ⟨1,m,x⟩)) (yN m (Rn x)):=by
 have hx:=iw (k_ hm h2.1 h2.2)
 rw[al,oQ]
 simp only
 rw[show aj.k dB (m,x.2.2.1.2.2.1,x.1)=bo m x.2.2.1.2.2.1 x.1 from rfl,show aj.k qs (m,x.2.2.1,x.2.2.2.2.2.2.2.2.2.2.2)=kN m x.2.2.1 x.2.2.2.2.2.2.2.2.2.2.2 from rfl,show aj.k rF (x.2.2.2.2.2.2.2,(aj.n yI (aj.n aX m.2.2.2.2.2.2.2 x.2.2.1.2.2.1:Mode).1 x.1:Int))=nc x.2.2.2.2.2.2.2 (BN m x.2.2.1.2.2.1 x.1) from rfl]
 have key:∀r:Int,(bif decide ((kN m x.2.2.1 x.2.2.2.2.2.2.2.2.2.2.2).2=0) then(kN m x.2.2.1 x.2.2.2.2.2.2.2.2.2.2.2).1 else 0)=r→aA (oQ aj) (.br (aj.c .neq (bo m x.2.2.1.2.2.1 x.1).1 3) (.need (aj.and (aj.c .leq 0 x.2.2.1.2.2.1) (aj.c .lss x.2.2.1.2.2.1 (aj.l m.2.2.2.2.2.2.2))) (.need (aj.and (aj.c .leq 0 x.1) (aj.c .lss x.1 (aj.l (aj.n aX m.2.2.2.2.2.2.2 x.2.2.1.2.2.1:Mode).1))) (.need true (.more (.c3 ⟨m,Rn x,((bo m x.2.2.1.2.2.1 x.1).1,r,x.2.2.1,0,(nc x.2.2.2.2.2.2.2 (BN m x.2.2.1.2.2.1 x.1)).1)⟩))))) (.more (.c4 ⟨m,Rn x,((bo m x.2.2.1.2.2.1 x.1).1,r,x.2.2.1)⟩))) (yN m (Rn x)):=fun r hr=>
  ax (p:=¬(bo m x.2.2.1.2.2.1 x.1).1=3) aT (fun k=>af.2 ⟨jk h2.1 h2.2,af.2 ⟨jr hx.1 h1.1 (by omega),af.2 ⟨rfl,by rw[yN,Ji hr (by rw[decide_eq_false k])];exact Q_⟩⟩⟩) fun k=>by rw[yN,Ji hr (by rw[decide_eq_true (Decidable.not_not.1 k)])];exact QL
 refine(ai rfl).2 (af.2 ⟨rfl,af.2 ⟨rfl,ax (p:=(kN m x.2.2.1 x.2.2.2.2.2.2.2.2.2.2.2).2=0) aH (fun g=>?_) fun g=>?_⟩⟩)
 ·exact key _ (by rw[decide_eq_true g];rfl)
 ·exact key _ (by rw[decide_eq_false g];rfl)
theorem DI{m:ak}{n:Node}{w:Int}(hw:w=2∨w=3∨w=4)(hv:(dd n).2=w):aA (oQ aj) (.more (.c2 ⟨w,m,n⟩)) (mR m n):=by
 rw[al,oQ,mR,hv]
 simp only
 rcases hw with rfl|rfl|rfl
 ·exact(ah rfl).2 ((ai rfl).2 (.ret _))
 ·exact(ah rfl).2 ((ah rfl).2 ((ai rfl).2 (af.2 ⟨rfl,.ret _⟩)))
 ·exact(ah rfl).2 ((ah rfl).2 ((ah rfl).2 (af.2 ⟨rfl,.ret _⟩)))
theorem DT{m:ak}{n:Node}{r:gh×Int×Int}(h:aS m n=0)(hi:gb n=true)(hv:dd n=(r.1,r.2.1))(he:r.2.2=0)(hr:r.2.1=1∨r.2.1=2∨r.2.1=3):aA (oQ aj) (.br (aj.c .eql r.2.2 0) (.br (aj.c .eql r.2.1 1) (.more (.c2 ⟨r.2.1,m,oY n r.1⟩)) (.more (.c2 ⟨r.2.1,m,n⟩))) (.more (.c2 ⟨r.2.1,m,n⟩))) (mR m n):=by
 refine(ai (ug he)).2 (ax (p:=r.2.1=1) aH (fun g=>?_) fun g=>DI (by omega) (by rw[hv]))
 have e:mR m n=yN m (Rn (oY n r.1)):=by rw[mR,hv,g];rfl
 rw[e,g]
 exact KS (aP h).1 (bF.1 (aP h).2).1 (gM (dN h hi).1).2.1
theorem PV{p:Ir}{m:ak}{n:Node}(h1:p.b11=m)(h2:p.b12=n)(h:aS m n=0)(hi:gb n=true):aA (oQ aj) (.more (.c1 p)) (mR m n):=by
 subst h1 h2
 have hz:=(dN h hi).2.1
 rw[al,oQ]
 refine(ah rfl).2 (ax (p:=p.b12.2.1=3) aH (fun g=>af.2 ⟨rfl,?_⟩) fun g=>ax (p:=p.b12.2.1=2) aH (fun g2=>ax (p:=p.b12.2.2.2.1.2.2.2.1<2) rfl (fun k=>?_) fun k=>ax (p:=p.b12.2.2.2.1.2.2.2.1≤p.b12.2.2.2.1.2.2.2.2.1) rfl (fun k2=>?_) fun k2=>af.2 ⟨rfl,?_⟩) fun g2=>af.2 ⟨rfl,?_⟩)
 ·exact DT (r:=ib p.b12.2.2.2.1) h hi (by rw[dd,decide_eq_false (show ¬p.b12.2.1=2 by omega),decide_eq_true g];rfl) (H6 hz) (IE hz)
 ·exact DI (.inr (.inr rfl)) (by rw[dd,decide_eq_true g2,decide_eq_true k];rfl)
 ·exact DI (.inr (.inr rfl)) (by rw[dd,decide_eq_true g2,decide_eq_true k2,Bool.or_true];rfl)
 ·exact DT (r:=fw p.b12.2.2.2.1) h hi (by rw[dd,decide_eq_true g2,decide_eq_false k,decide_eq_false k2,decide_eq_false g];rfl) (uL hz) ((uI hz).elim .inl fun x=>.inr (.inl x))
 ·exact DT (r:=fw p.b12.2.2.2.1) h hi (by rw[dd,decide_eq_false g2,decide_eq_false g];rfl) (uL hz) ((uI hz).elim .inl fun x=>.inr (.inl x))
theorem AN{p:Lq}(h:¬p.a0=0):aA (oQ aj) (.more (.c0 p)) (dM,ng,false,p.a0):=by
 rw[al,oQ];exact(ai (fT h)).2 (.ret _)
theorem acm{m:ak}{n:Node}:aA (oQ aj) (Rf aj m n) (oS m n):=by
 unfold Rf oS
 rw[show aj.k jU n=gb n from rfl,show aj.k bL (m,n)=aS m n from rfl,show aj.k bf (n.2.2.2.2.2.2.2,n.2.2.2.2.2.2.2.2.1)=vI n.2.2.2.2.2.2.2 n.2.2.2.2.2.2.2.2.1 from rfl]
 refine af.2 ⟨rfl,?_⟩
 by_cases h:aS m n=0
 ·rw[decide_eq_true h,nN h,cond_true]
  cases hi:gb n
  ·exact(ah rfl).2 (af.2 ⟨rfl,(ah (kH h)).2 (AN (by decide))⟩)
  refine(ai rfl).2 (af.2 ⟨rfl,(ah (kH h)).2 (ax (p:=¬n.2.2.1.2.1=n.1) Ap (fun hp=>?_) fun hp=>af.2 ⟨rfl,(ah rfl).2 ?_⟩)⟩)
  ·rw[decide_eq_false hp];exact AN (by decide)
  ·rw[decide_eq_true (Decidable.not_not.1 hp)];exact PV rfl rfl h hi
 ·rw[decide_eq_false h]
  cases gb n
  ·exact(ah rfl).2 (af.2 ⟨rfl,(ai (fT h)).2 (AN h)⟩)
  ·exact(ai rfl).2 (af.2 ⟨rfl,(ai (fT h)).2 (AN h)⟩)
def ER:(ak×Node)→(Node×gT×Bool×Int):=fun(m,n)=>oS m n
def VO:aD:=⟨[bd,aQ], [aQ,uy,.bool,yI],(@tt (ak×Node)),ER⟩
theorem ZL:Sd 50 VO:=aL au cK true 107 [] [⟨50,2, [[4,5,8,9]]⟩,⟨50,6, [[4,5,8,33]]⟩,⟨50,9, [[4,5,8,10]]⟩] (fun A (m,n)=>Rf A m n) oQ Q5 (fc Tryz.func50 (fc Tryz.func90 (fc Tryz.func92 (fc Tryz.func122 (fc Tryz.func123 (fc Tryz.func124 fz)))))) (sc QN (sc Vx (sc rm (sc Cu (sc o3 (sc Cz (sc K3 (sc zA (sc BW (sc OQ (sc OO sz))))))))))) (fun A y=>match y with |.c0 p=>⟨23,by kernel_rfl,by kernel_rfl⟩|.c1 p=>⟨145,by kernel_rfl,by kernel_rfl⟩|.c2 p=>⟨145,by kernel_rfl,by kernel_rfl⟩|.c3 p=>⟨58,by kernel_rfl,by kernel_rfl⟩|.c4 p=>⟨58,by kernel_rfl,by kernel_rfl⟩) fun(m,n) hp h=>acm
open Go.Ev.Pl
structure JY where
 (a0:List Seen) (a1:Int) (a2:Node)
structure SU where
 (b0:List Seen) (b2:Node) (im:ak) (tH:Node)
structure PZ where
 (c0:Int) (c2:Node) (xK:gK)
structure P6 where
 (d0:Int) (d1:Bool) (d2:Node) (TJ:ak) (TL:Node) (Hr:gK)
structure Rj where
 (e0:Int) (e22:gh)
structure Qr where
 (f0:Int) (f16:gK) (f17:gh)
structure J5 where
 (g0:Int) (g1:Bool) (g16:ak) (g17:Node) (g24:gh)
structure Ki where
 (h0:Int) (h1:Bool) (h16:ak) (iC:Node) (h18:gK) (tK:gh)
structure J7 where
 (z80:Bool) (Cj:ak) (uA:Node) (KC:gh)
structure J0 where
 (z90:Bool) (xV:ak) (nO:Node) (vf:gK) (IK:gh)
structure ET where
 (Xu:ak) (tX:Node) (FQ:gh)
structure Ff where
 (Y9:ak) (tA:Node) (B_:gK) (Fh:gh)
inductive NG where
 | c0 (p:JY)
 | c1 (p:SU)
 | c2 (p:PZ)
 | c3 (p:P6)
 | c4 (p:Rj)
 | c5 (p:Qr)
 | c6 (p:J5)
 | c7 (p:Ki)
 | c8 (p:J7)
 | c9 (p:J0)
 | c10 (p:ET)
 | c11 (p:Ff)
noncomputable def SO:NG→gB
 | .c0 p=>⟨[⟨54,135,(en [(2,.sl dA p.a0),(4,.ptr 0 0),(6,.ptr 1 0),(7,.ptr 2 0),(9,.cY),(10,vi p.a1)]),[.code (cw Tryz.f54 [1,1,0,0]),.code (cw Tryz.f54 [1,1,0,1]),.code (cw Tryz.f54 [1,1,1])],[],none⟩],[.flat false (dc aQ p.a2),.flat false [vi 0,vi 0,vi 0,vi 0,vi 0,vi 0,vi 0,vi 0,vi 0,vi 0,vi 0,vi 0,vi 0,vi 0,vi 0,vb false,vi 0,vi 0,.bK true,.bK true,vi 0,vi 0],.flat false [vi 0,vi 0,vi 0,vi 0,vi 0,vi 0,vi 0,vi 0,vi 0,vi 0,vi 0,.bK true,vi 0],.dead]⟩
 | .c1 p=>⟨[⟨54,135,(en [(2,.sl dA p.b0),(4,.ptr 0 0),(6,.ptr 1 0),(7,.ptr 2 0),(9,.ptr 3 0),(10,vi 0)]),[.code (cw Tryz.f54 [1,1,0,0]),.code (cw Tryz.f54 [1,1,0,1]),.code (cw Tryz.f54 [1,1,1])],[],none⟩],[.flat false (dc aQ p.b2),.flat false [vi 0,vi 0,vi 0,vi 0,vi 0,vi 0,vi 0,vi 0,vi 0,vi 0,vi 0,vi 0,vi 0,vi 0,vi 0,vb false,vi 0,vi 0,.bK true,.bK true,vi 0,vi 0],.flat false [vi 0,vi 0,vi 0,vi 0,vi 0,vi 0,vi 0,vi 0,vi 0,vi 0,vi 0,.bK true,vi 0],.flat false (dc bd p.im++dc aQ p.tH),.dead]⟩
 | .c2 p=>⟨[⟨54,135,(en [(4,.ptr 0 0),(6,.ptr 1 0),(7,.ptr 2 0),(9,.cY),(11,vi p.c0),(12,.ptr 3 0),(13,vb false)]),[.code (cw Tryz.f54 [1,1,1,1,1,1,1,0,0]),.code (cw Tryz.f54 [1,1,1,1,1,1,1,0,1]),.code (cw Tryz.f54 [1,1,1,1,1,1,1,1])],[],none⟩],[.flat false (dc aQ p.c2),.flat false [vi 0,vi 0,vi 0,vi 0,vi 0,vi 0,vi 0,vi 0,vi 0,vi 0,vi 0,vi 0,vi 0,vi 0,vi 0,vb false,vi 0,vi 0,.bK true,.bK true,vi 0,vi 0],.flat false [vi 0,vi 0,vi 0,vi 0,vi 0,vi 0,vi 0,vi 0,vi 0,vi 0,vi 0,.bK true,vi 0],.flat false (dc mW p.xK),.dead]⟩
 | .c3 p=>⟨[⟨54,135,(en [(4,.ptr 0 0),(6,.ptr 1 0),(7,.ptr 2 0),(9,.ptr 3 0),(11,vi p.d0),(12,.ptr 4 0),(13,vb p.d1)]),[.code (cw Tryz.f54 [1,1,1,1,1,1,1,0,0]),.code (cw Tryz.f54 [1,1,1,1,1,1,1,0,1]),.code (cw Tryz.f54 [1,1,1,1,1,1,1,1])],[],none⟩],[.flat false (dc aQ p.d2),.flat false [vi 0,vi 0,vi 0,vi 0,vi 0,vi 0,vi 0,vi 0,vi 0,vi 0,vi 0,vi 0,vi 0,vi 0,vi 0,vb false,vi 0,vi 0,.bK true,.bK true,vi 0,vi 0],.flat false [vi 0,vi 0,vi 0,vi 0,vi 0,vi 0,vi 0,vi 0,vi 0,vi 0,vi 0,.bK true,vi 0],.flat false (dc bd p.TJ++dc aQ p.TL),.flat false (dc mW p.Hr),.dead]⟩
 | .c4 p=>⟨[⟨54,135,(en [(6,.ptr 0 0),(7,.ptr 1 0),(9,.cY),(10,vi p.e0),(12,.ptr 2 0),(13,vb false),(14,.ptr 3 0)]),[.code (cw Tryz.f54 [1,1,1,1,1,1,1,1,1,0,0]),.code (cw Tryz.f54 [1,1,1,1,1,1,1,1,1,0,1]),.code (cw Tryz.f54 [1,1,1,1,1,1,1,1,1,1])],[],none⟩],[.flat false [vi 0,vi 0,vi 0,vi 0,vi 0,vi 0,vi 0,vi 0,vi 0,vi 0,vi 0,vi 0,vi 0,vi 0,vi 0,vb false,vi 0,vi 0,.bK true,.bK true,vi 0,vi 0],.flat false [vi 0,vi 0,vi 0,vi 0,vi 0,vi 0,vi 0,vi 0,vi 0,vi 0,vi 0,.bK true,vi 0],.flat false [vi 2,vi 0,vi 0,vi 0,vi 0,vi 0,vi 0,vi 0,vi 0,vi 0,vi 0,.bK true,vi 0],.flat false (dc mY p.e22),.dead]⟩
 | .c5 p=>⟨[⟨54,135,(en [(6,.ptr 0 0),(7,.ptr 1 0),(9,.cY),(10,vi p.f0),(12,.ptr 2 0),(13,vb false),(14,.ptr 3 0)]),[.code (cw Tryz.f54 [1,1,1,1,1,1,1,1,1,0,0]),.code (cw Tryz.f54 [1,1,1,1,1,1,1,1,1,0,1]),.code (cw Tryz.f54 [1,1,1,1,1,1,1,1,1,1])],[],none⟩],[.flat false [vi 0,vi 0,vi 0,vi 0,vi 0,vi 0,vi 0,vi 0,vi 0,vi 0,vi 0,vi 0,vi 0,vi 0,vi 0,vb false,vi 0,vi 0,.bK true,.bK true,vi 0,vi 0],.flat false [vi 0,vi 0,vi 0,vi 0,vi 0,vi 0,vi 0,vi 0,vi 0,vi 0,vi 0,.bK true,vi 0],.flat false (dc mW p.f16),.flat false (dc mY p.f17),.dead]⟩
 | .c6 p=>⟨[⟨54,135,(en [(6,.ptr 0 0),(7,.ptr 1 0),(9,.ptr 2 0),(10,vi p.g0),(12,.ptr 3 0),(13,vb p.g1),(14,.ptr 4 0)]),[.code (cw Tryz.f54 [1,1,1,1,1,1,1,1,1,0,0]),.code (cw Tryz.f54 [1,1,1,1,1,1,1,1,1,0,1]),.code (cw Tryz.f54 [1,1,1,1,1,1,1,1,1,1])],[],none⟩],[.flat false [vi 0,vi 0,vi 0,vi 0,vi 0,vi 0,vi 0,vi 0,vi 0,vi 0,vi 0,vi 0,vi 0,vi 0,vi 0,vb false,vi 0,vi 0,.bK true,.bK true,vi 0,vi 0],.flat false [vi 0,vi 0,vi 0,vi 0,vi 0,vi 0,vi 0,vi 0,vi 0,vi 0,vi 0,.bK true,vi 0],.flat false (dc bd p.g16++dc aQ p.g17),.flat false [vi 2,vi 0,vi 0,vi 0,vi 0,vi 0,vi 0,vi 0,vi 0,vi 0,vi 0,.bK true,vi 0],.flat false (dc mY p.g24),.dead]⟩
 | .c7 p=>⟨[⟨54,135,(en [(6,.ptr 0 0),(7,.ptr 1 0),(9,.ptr 2 0),(10,vi p.h0),(12,.ptr 3 0),(13,vb p.h1),(14,.ptr 4 0)]),[.code (cw Tryz.f54 [1,1,1,1,1,1,1,1,1,0,0]),.code (cw Tryz.f54 [1,1,1,1,1,1,1,1,1,0,1]),.code (cw Tryz.f54 [1,1,1,1,1,1,1,1,1,1])],[],none⟩],[.flat false [vi 0,vi 0,vi 0,vi 0,vi 0,vi 0,vi 0,vi 0,vi 0,vi 0,vi 0,vi 0,vi 0,vi 0,vi 0,vb false,vi 0,vi 0,.bK true,.bK true,vi 0,vi 0],.flat false [vi 0,vi 0,vi 0,vi 0,vi 0,vi 0,vi 0,vi 0,vi 0,vi 0,vi 0,.bK true,vi 0],.flat false (dc bd p.h16++dc aQ p.iC),.flat false (dc mW p.h18),.flat false (dc mY p.tK),.dead]⟩
 | .c8 p=>⟨[⟨54,135,(en [(6,.ptr 0 0),(7,.ptr 1 0),(9,.ptr 2 0),(12,.ptr 3 0),(13,vb p.z80),(14,.ptr 4 0)]),[.code (cw Tryz.f54 [1,1,1,1,1,1,1,1,1,1,1,1,0,0]),.code (cw Tryz.f54 [1,1,1,1,1,1,1,1,1,1,1,1,0,1]),.code (cw Tryz.f54 [1,1,1,1,1,1,1,1,1,1,1,1,1])],[],none⟩],[.flat false [vi 0,vi 0,vi 0,vi 0,vi 0,vi 0,vi 0,vi 0,vi 0,vi 0,vi 0,vi 0,vi 0,vi 0,vi 0,vb false,vi 0,vi 0,.bK true,.bK true,vi 0,vi 0],.flat false [vi 0,vi 0,vi 0,vi 0,vi 0,vi 0,vi 0,vi 0,vi 0,vi 0,vi 0,.bK true,vi 0],.flat false (dc bd p.Cj++dc aQ p.uA),.flat false [vi 2,vi 0,vi 0,vi 0,vi 0,vi 0,vi 0,vi 0,vi 0,vi 0,vi 0,.bK true,vi 0],.flat false (dc mY p.KC),.dead]⟩
 | .c9 p=>⟨[⟨54,135,(en [(6,.ptr 0 0),(7,.ptr 1 0),(9,.ptr 2 0),(12,.ptr 3 0),(13,vb p.z90),(14,.ptr 4 0)]),[.code (cw Tryz.f54 [1,1,1,1,1,1,1,1,1,1,1,1,0,0]),.code (cw Tryz.f54 [1,1,1,1,1,1,1,1,1,1,1,1,0,1]),.code (cw Tryz.f54 [1,1,1,1,1,1,1,1,1,1,1,1,1])],[],none⟩],[.flat false [vi 0,vi 0,vi 0,vi 0,vi 0,vi 0,vi 0,vi 0,vi 0,vi 0,vi 0,vi 0,vi 0,vi 0,vi 0,vb false,vi 0,vi 0,.bK true,.bK true,vi 0,vi 0],.flat false [vi 0,vi 0,vi 0,vi 0,vi 0,vi 0,vi 0,vi 0,vi 0,vi 0,vi 0,.bK true,vi 0],.flat false (dc bd p.xV++dc aQ p.nO),.flat false (dc mW p.vf),.flat false (dc mY p.IK),.dead]⟩
 | .c10 p=>⟨[⟨54,135,(en [(6,.ptr 0 0),(7,.ptr 1 0),(9,.ptr 2 0),(12,.ptr 3 0),(14,.ptr 4 0)]),[.code (cw Tryz.f54 [1,1,1,1,1,1,1,1,1,1,1,1,1,0,0]),.code (cw Tryz.f54 [1,1,1,1,1,1,1,1,1,1,1,1,1,0,1]),.code (cw Tryz.f54 [1,1,1,1,1,1,1,1,1,1,1,1,1,1])],[],none⟩],[.flat false [vi 0,vi 0,vi 0,vi 0,vi 0,vi 0,vi 0,vi 0,vi 0,vi 0,vi 0,vi 0,vi 0,vi 0,vi 0,vb false,vi 0,vi 0,.bK true,.bK true,vi 0,vi 0],.flat false [vi 0,vi 0,vi 0,vi 0,vi 0,vi 0,vi 0,vi 0,vi 0,vi 0,vi 0,.bK true,vi 0],.flat false (dc bd p.Xu++dc aQ p.tX),.flat false [vi 2,vi 0,vi 0,vi 0,vi 0,vi 0,vi 0,vi 0,vi 0,vi 0,vi 0,.bK true,vi 0],.flat false (dc mY p.FQ),.dead]⟩
 | .c11 p=>⟨[⟨54,135,(en [(6,.ptr 0 0),(7,.ptr 1 0),(9,.ptr 2 0),(12,.ptr 3 0),(14,.ptr 4 0)]),[.code (cw Tryz.f54 [1,1,1,1,1,1,1,1,1,1,1,1,1,0,0]),.code (cw Tryz.f54 [1,1,1,1,1,1,1,1,1,1,1,1,1,0,1]),.code (cw Tryz.f54 [1,1,1,1,1,1,1,1,1,1,1,1,1,1])],[],none⟩],[.flat false [vi 0,vi 0,vi 0,vi 0,vi 0,vi 0,vi 0,vi 0,vi 0,vi 0,vi 0,vi 0,vi 0,vi 0,vi 0,vb false,vi 0,vi 0,.bK true,.bK true,vi 0,vi 0],.flat false [vi 0,vi 0,vi 0,vi 0,vi 0,vi 0,vi 0,vi 0,vi 0,vi 0,vi 0,.bK true,vi 0],.flat false (dc bd p.Y9++dc aQ p.tA),.flat false (dc mW p.B_),.flat false (dc mY p.Fh),.dead]⟩
def Tk(A:bi)(m:ak)(n:Node)(seen:List Seen):LT (Node×gK×Int) NG:=.need (A.k (@tt Node) n) (.br (A.k jU n) (.need (A.k (@tt (ak×Node)) (m,n)) (.br (A.c .neq (A.k bL (m,n)) 0) (.more (.c0 ⟨seen,(A.k bL (m,n)),n⟩)) (.br (A.not (A.c .neq n.2.2.1.2.1 n.1)) (.more (.c0 ⟨seen,181,n⟩)) (.need (A.k (@tt (cf×List Int)) (n.2.2.2.2.2.2.2,n.2.2.2.2.2.2.2.2.1)) (.br (A.c .neq (A.k bf (n.2.2.2.2.2.2.2,n.2.2.2.2.2.2.2.2.1)).2 0) (.more (.c0 ⟨seen,(A.k bf (n.2.2.2.2.2.2.2,n.2.2.2.2.2.2.2.2.1)).2,n⟩)) (.more (.c1 ⟨seen,n,m,(n.1,n.2.1,n.2.2.1,n.2.2.2.1,n.2.2.2.2.1,n.2.2.2.2.2.1,n.2.2.2.2.2.2.1,(A.k bf (n.2.2.2.2.2.2.2,n.2.2.2.2.2.2.2.2.1)).1)⟩))))))) (.need (A.k (@tt (ak×Node)) (m,n)) (.br (A.c .neq (A.k bL (m,n)) 0) (.more (.c0 ⟨seen,(A.k bL (m,n)),n⟩)) (.more (.c0 ⟨seen,181,n⟩)))))
def kG(A:bi):NG→LT (Node×gK×Int) NG
 | .c0 p=>.br (A.c .neq p.a1 0) (.ret ((0,0,(0,0,0,0,0),(0,0,0,0,0,0,0),0,false,0,0,([]:List Int),([]:List bW),0,0),(0,0,0,(0,0,(0,0,0,0,0),0,([]:List Int)),0),p.a1)) (.need (A.k (@tt ((Int×Int×Int×Int×Int)×(Int×Int×Int×Int×Int×Int×Int)×Int×List (Int×Int×(Int×List Int)))) (p.a2.2.2.1,p.a2.2.2.2.1,p.a2.2.2.1.2.1,p.a0)) (.br (A.c .neq (A.k ky (p.a2.2.2.1,p.a2.2.2.2.1,p.a2.2.2.1.2.1,p.a0)).2 0) (.ret ((0,0,(0,0,0,0,0),(0,0,0,0,0,0,0),0,false,0,0,([]:List Int),([]:List bW),0,0),(0,0,0,(0,0,(0,0,0,0,0),0,([]:List Int)),0),(A.k ky (p.a2.2.2.1,p.a2.2.2.2.1,p.a2.2.2.1.2.1,p.a0)).2)) (.br (A.c .eql (A.k ky (p.a2.2.2.1,p.a2.2.2.2.1,p.a2.2.2.1.2.1,p.a0)).1.1 3) (.bad 73 "starctl.go:235") (.more (.c2 ⟨p.a2.2.2.1.2.1,p.a2,(A.k ky (p.a2.2.2.1,p.a2.2.2.2.1,p.a2.2.2.1.2.1,p.a0)).1⟩)))))
 | .c1 p=>.br (A.c .neq 0 0) (.ret ((0,0,(0,0,0,0,0),(0,0,0,0,0,0,0),0,false,0,0,([]:List Int),([]:List bW),0,0),(0,0,0,(0,0,(0,0,0,0,0),0,([]:List Int)),0),0)) (.need (A.k (@tt ((Int×Int×Int×Int×Int)×(Int×Int×Int×Int×Int×Int×Int)×Int×List (Int×Int×(Int×List Int)))) (p.b2.2.2.1,p.b2.2.2.2.1,p.b2.2.2.1.2.1,p.b0)) (.br (A.c .neq (A.k ky (p.b2.2.2.1,p.b2.2.2.2.1,p.b2.2.2.1.2.1,p.b0)).2 0) (.ret ((0,0,(0,0,0,0,0),(0,0,0,0,0,0,0),0,false,0,0,([]:List Int),([]:List bW),0,0),(0,0,0,(0,0,(0,0,0,0,0),0,([]:List Int)),0),(A.k ky (p.b2.2.2.1,p.b2.2.2.2.1,p.b2.2.2.1.2.1,p.b0)).2)) (.br (A.c .eql (A.k ky (p.b2.2.2.1,p.b2.2.2.2.1,p.b2.2.2.1.2.1,p.b0)).1.1 3) (.need (A.k (@tt (ak×Int×Int)) (p.im,p.b2.2.2.1.2.2.1,p.b2.2.2.1.2.1)) (.br (A.c .neq (A.k dB (p.im,p.b2.2.2.1.2.2.1,p.b2.2.2.1.2.1)).2 0) (.more (.c3 ⟨p.b2.2.2.1.2.1,false,p.b2,p.im,p.tH,(A.k ky (p.b2.2.2.1,p.b2.2.2.2.1,p.b2.2.2.1.2.1,p.b0)).1⟩)) (.br (A.c .eql (A.k dB (p.im,p.b2.2.2.1.2.2.1,p.b2.2.2.1.2.1)).1 3) (.br (A.c .neq (A.k dB (p.im,p.b2.2.2.1.2.2.1,p.b2.2.2.1.2.1)).1 0) (.br (A.c .eql (A.k dB (p.im,p.b2.2.2.1.2.2.1,p.b2.2.2.1.2.1)).1 (A.k ky (p.b2.2.2.1,p.b2.2.2.2.1,p.b2.2.2.1.2.1,p.b0)).1.2.2.2.1.1) (.more (.c3 ⟨p.b2.2.2.1.2.1,(A.c .eql 0 (A.l (A.k ky (p.b2.2.2.1,p.b2.2.2.2.1,p.b2.2.2.1.2.1,p.b0)).1.2.2.2.1.2.2.2.2)),p.b2,p.im,p.tH,(A.k ky (p.b2.2.2.1,p.b2.2.2.2.1,p.b2.2.2.1.2.1,p.b0)).1⟩)) (.more (.c3 ⟨p.b2.2.2.1.2.1,false,p.b2,p.im,p.tH,(A.k ky (p.b2.2.2.1,p.b2.2.2.2.1,p.b2.2.2.1.2.1,p.b0)).1⟩))) (.more (.c3 ⟨p.b2.2.2.1.2.1,false,p.b2,p.im,p.tH,(A.k ky (p.b2.2.2.1,p.b2.2.2.2.1,p.b2.2.2.1.2.1,p.b0)).1⟩))) (.need (A.and (A.c .leq 0 p.b2.2.2.1.2.2.1) (A.c .lss p.b2.2.2.1.2.2.1 (A.l p.im.2.2.2.2.2.2.2))) (.need (A.and (A.c .leq 0 p.b2.2.2.1.2.1) (A.c .lss p.b2.2.2.1.2.1 (A.l (A.n aX p.im.2.2.2.2.2.2.2 p.b2.2.2.1.2.2.1:Mode).1))) (.br (A.c .neq (A.k dB (p.im,p.b2.2.2.1.2.2.1,p.b2.2.2.1.2.1)).1 0) (.br (A.c .eql (A.k dB (p.im,p.b2.2.2.1.2.2.1,p.b2.2.2.1.2.1)).1 (A.k ky (p.b2.2.2.1,p.b2.2.2.2.1,p.b2.2.2.1.2.1,p.b0)).1.2.2.2.1.1) (.more (.c3 ⟨p.b2.2.2.1.2.1,(A.c .eql (A.n yI (A.n aX p.im.2.2.2.2.2.2.2 p.b2.2.2.1.2.2.1:Mode).1 p.b2.2.2.1.2.1:Int) (A.l (A.k ky (p.b2.2.2.1,p.b2.2.2.2.1,p.b2.2.2.1.2.1,p.b0)).1.2.2.2.1.2.2.2.2)),p.b2,p.im,p.tH,(A.k ky (p.b2.2.2.1,p.b2.2.2.2.1,p.b2.2.2.1.2.1,p.b0)).1⟩)) (.more (.c3 ⟨p.b2.2.2.1.2.1,false,p.b2,p.im,p.tH,(A.k ky (p.b2.2.2.1,p.b2.2.2.2.1,p.b2.2.2.1.2.1,p.b0)).1⟩))) (.more (.c3 ⟨p.b2.2.2.1.2.1,false,p.b2,p.im,p.tH,(A.k ky (p.b2.2.2.1,p.b2.2.2.2.1,p.b2.2.2.1.2.1,p.b0)).1⟩)))))))) (.more (.c3 ⟨p.b2.2.2.1.2.1,false,p.b2,p.im,p.tH,(A.k ky (p.b2.2.2.1,p.b2.2.2.2.1,p.b2.2.2.1.2.1,p.b0)).1⟩)))))
 | .c2 p=>.br (A.c .eql p.xK.1 3) (.br (A.not false) (.need (A.k (@tt ((Int×Int×Int×Int×Int×Int×Int)×Int×(Int×Int×Int×(Int×Int×(Int×Int×Int×Int×Int)×Int×List Int)×Int))) (p.c2.2.2.2.1,p.c0,2,0,0,(0,0,(0,0,0,0,0),0,([]:List Int)),0)) (.more (.c4 ⟨(A.k dU (p.c2.2.2.2.1,p.c0,2,0,0,(0,0,(0,0,0,0,0),0,([]:List Int)),0)).2,(A.k dU (p.c2.2.2.2.1,p.c0,2,0,0,(0,0,(0,0,0,0,0),0,([]:List Int)),0)).1⟩))) (.need (A.k (@tt ((Int×Int×Int×Int×Int×Int×Int)×Int×(Int×Int×Int×(Int×Int×(Int×Int×Int×Int×Int)×Int×List Int)×Int))) (p.c2.2.2.2.1,p.c0,p.xK)) (.more (.c5 ⟨(A.k dU (p.c2.2.2.2.1,p.c0,p.xK)).2,p.xK,(A.k dU (p.c2.2.2.2.1,p.c0,p.xK)).1⟩)))) (.need (A.k (@tt ((Int×Int×Int×Int×Int×Int×Int)×Int×(Int×Int×Int×(Int×Int×(Int×Int×Int×Int×Int)×Int×List Int)×Int))) (p.c2.2.2.2.1,p.c0,p.xK)) (.more (.c5 ⟨(A.k dU (p.c2.2.2.2.1,p.c0,p.xK)).2,p.xK,(A.k dU (p.c2.2.2.2.1,p.c0,p.xK)).1⟩)))
 | .c3 p=>.br (A.c .eql p.Hr.1 3) (.br (A.not p.d1) (.need (A.k (@tt ((Int×Int×Int×Int×Int×Int×Int)×Int×(Int×Int×Int×(Int×Int×(Int×Int×Int×Int×Int)×Int×List Int)×Int))) (p.d2.2.2.2.1,p.d0,2,0,0,(0,0,(0,0,0,0,0),0,([]:List Int)),0)) (.more (.c6 ⟨(A.k dU (p.d2.2.2.2.1,p.d0,2,0,0,(0,0,(0,0,0,0,0),0,([]:List Int)),0)).2,p.d1,p.TJ,p.TL,(A.k dU (p.d2.2.2.2.1,p.d0,2,0,0,(0,0,(0,0,0,0,0),0,([]:List Int)),0)).1⟩))) (.need (A.k (@tt ((Int×Int×Int×Int×Int×Int×Int)×Int×(Int×Int×Int×(Int×Int×(Int×Int×Int×Int×Int)×Int×List Int)×Int))) (p.d2.2.2.2.1,p.d0,p.Hr)) (.more (.c7 ⟨(A.k dU (p.d2.2.2.2.1,p.d0,p.Hr)).2,p.d1,p.TJ,p.TL,p.Hr,(A.k dU (p.d2.2.2.2.1,p.d0,p.Hr)).1⟩)))) (.need (A.k (@tt ((Int×Int×Int×Int×Int×Int×Int)×Int×(Int×Int×Int×(Int×Int×(Int×Int×Int×Int×Int)×Int×List Int)×Int))) (p.d2.2.2.2.1,p.d0,p.Hr)) (.more (.c7 ⟨(A.k dU (p.d2.2.2.2.1,p.d0,p.Hr)).2,p.d1,p.TJ,p.TL,p.Hr,(A.k dU (p.d2.2.2.2.1,p.d0,p.Hr)).1⟩)))
 | .c4 p=>.br (A.c .neq p.e0 0) (.ret ((0,0,(0,0,0,0,0),(0,0,0,0,0,0,0),0,false,0,0,([]:List Int),([]:List bW),0,0),(0,0,0,(0,0,(0,0,0,0,0),0,([]:List Int)),0),p.e0)) (.bad 73 "starctl.go:278")
 | .c5 p=>.br (A.c .neq p.f0 0) (.ret ((0,0,(0,0,0,0,0),(0,0,0,0,0,0,0),0,false,0,0,([]:List Int),([]:List bW),0,0),(0,0,0,(0,0,(0,0,0,0,0),0,([]:List Int)),0),p.f0)) (.bad 73 "starctl.go:278")
 | .c6 p=>.br (A.c .neq p.g0 0) (.ret ((0,0,(0,0,0,0,0),(0,0,0,0,0,0,0),0,false,0,0,([]:List Int),([]:List bW),0,0),(0,0,0,(0,0,(0,0,0,0,0),0,([]:List Int)),0),p.g0)) (.br p.g1 (.br (A.c .neq 0 3) (.need (A.k (@tt (cf×Int×List Int)) (p.g17.2.2.2.2.2.2.2,p.g17.2.2.1.2.1,([]:List Int))) (.need (A.k (@tt (cf×Int×List Int)) (p.g17.2.2.2.2.2.2.2,p.g17.2.2.1.2.1,([]:List Int))) (.br (A.c .eql (A.k k6 (p.g17.2.2.2.2.2.2.2,p.g17.2.2.1.2.1,([]:List Int))).2 0) (.more (.c8 ⟨p.g1,p.g16,(p.g17.1,p.g17.2.1,(p.g17.2.2.1.1,p.g17.2.2.1.2.1,p.g17.2.2.1.2.2.1,p.g17.2.2.1.2.2.2.1,p.g24.2.2.1),p.g24,p.g17.2.2.2.2.1,p.g17.2.2.2.2.2.1,p.g17.2.2.2.2.2.2.1,(A.k k6 (p.g17.2.2.2.2.2.2.2,p.g17.2.2.1.2.1,([]:List Int))).1),p.g24⟩)) (.more (.c8 ⟨p.g1,p.g16,(p.g17.1,p.g17.2.1,(p.g17.2.2.1.1,p.g17.2.2.1.2.1,p.g17.2.2.1.2.2.1,p.g17.2.2.1.2.2.2.1,p.g24.2.2.1),p.g24,p.g17.2.2.2.2),p.g24⟩))))) (.more (.c8 ⟨p.g1,p.g16,(p.g17.1,p.g17.2.1,(p.g17.2.2.1.1,p.g17.2.2.1.2.1,p.g17.2.2.1.2.2.1,p.g17.2.2.1.2.2.2.1,p.g24.2.2.1),p.g24,p.g17.2.2.2.2),p.g24⟩))) (.more (.c8 ⟨p.g1,p.g16,(p.g17.1,p.g17.2.1,(p.g17.2.2.1.1,p.g17.2.2.1.2.1,p.g17.2.2.1.2.2.1,p.g17.2.2.1.2.2.2.1,p.g24.2.2.1),p.g24,p.g17.2.2.2.2),p.g24⟩)))
 | .c7 p=>.br (A.c .neq p.h0 0) (.ret ((0,0,(0,0,0,0,0),(0,0,0,0,0,0,0),0,false,0,0,([]:List Int),([]:List bW),0,0),(0,0,0,(0,0,(0,0,0,0,0),0,([]:List Int)),0),p.h0)) (.br p.h1 (.br (A.c .neq p.h18.2.2.2.1.1 3) (.need (A.k (@tt (cf×Int×List Int)) (p.iC.2.2.2.2.2.2.2,p.iC.2.2.1.2.1,p.h18.2.2.2.1.2.2.2.2)) (.need (A.k (@tt (cf×Int×List Int)) (p.iC.2.2.2.2.2.2.2,p.iC.2.2.1.2.1,p.h18.2.2.2.1.2.2.2.2)) (.br (A.c .eql (A.k k6 (p.iC.2.2.2.2.2.2.2,p.iC.2.2.1.2.1,p.h18.2.2.2.1.2.2.2.2)).2 0) (.more (.c9 ⟨p.h1,p.h16,(p.iC.1,p.iC.2.1,(p.iC.2.2.1.1,p.iC.2.2.1.2.1,p.iC.2.2.1.2.2.1,p.iC.2.2.1.2.2.2.1,p.tK.2.2.1),p.tK,p.iC.2.2.2.2.1,p.iC.2.2.2.2.2.1,p.iC.2.2.2.2.2.2.1,(A.k k6 (p.iC.2.2.2.2.2.2.2,p.iC.2.2.1.2.1,p.h18.2.2.2.1.2.2.2.2)).1),p.h18,p.tK⟩)) (.more (.c9 ⟨p.h1,p.h16,(p.iC.1,p.iC.2.1,(p.iC.2.2.1.1,p.iC.2.2.1.2.1,p.iC.2.2.1.2.2.1,p.iC.2.2.1.2.2.2.1,p.tK.2.2.1),p.tK,p.iC.2.2.2.2),p.h18,p.tK⟩))))) (.more (.c9 ⟨p.h1,p.h16,(p.iC.1,p.iC.2.1,(p.iC.2.2.1.1,p.iC.2.2.1.2.1,p.iC.2.2.1.2.2.1,p.iC.2.2.1.2.2.2.1,p.tK.2.2.1),p.tK,p.iC.2.2.2.2),p.h18,p.tK⟩))) (.more (.c9 ⟨p.h1,p.h16,(p.iC.1,p.iC.2.1,(p.iC.2.2.1.1,p.iC.2.2.1.2.1,p.iC.2.2.1.2.2.1,p.iC.2.2.1.2.2.2.1,p.tK.2.2.1),p.tK,p.iC.2.2.2.2),p.h18,p.tK⟩)))
 | .c8 p=>.br p.z80 (.need (A.k (@tt (ak×dq×Int)) (p.Cj,p.uA.2.2.1,0)) (.need (A.k (@tt (ak×dq×Int)) (p.Cj,p.uA.2.2.1,0)) (.br (A.c .eql (A.k gi (p.Cj,p.uA.2.2.1,0)).2 0) (.more (.c10 ⟨p.Cj,(p.uA.1,p.uA.2.1,(A.k gi (p.Cj,p.uA.2.2.1,0)).1,p.uA.2.2.2),p.KC⟩)) (.more (.c10 ⟨p.Cj,p.uA,p.KC⟩))))) (.more (.c10 ⟨p.Cj,p.uA,p.KC⟩))
 | .c9 p=>.br p.z90 (.need (A.k (@tt (ak×dq×Int)) (p.xV,p.nO.2.2.1,p.vf.2.2.2.1.2.1)) (.need (A.k (@tt (ak×dq×Int)) (p.xV,p.nO.2.2.1,p.vf.2.2.2.1.2.1)) (.br (A.c .eql (A.k gi (p.xV,p.nO.2.2.1,p.vf.2.2.2.1.2.1)).2 0) (.more (.c11 ⟨p.xV,(p.nO.1,p.nO.2.1,(A.k gi (p.xV,p.nO.2.2.1,p.vf.2.2.2.1.2.1)).1,p.nO.2.2.2),p.vf,p.IK⟩)) (.more (.c11 ⟨p.xV,p.nO,p.vf,p.IK⟩))))) (.more (.c11 ⟨p.xV,p.nO,p.vf,p.IK⟩))
 | .c10 p=>.br (A.c .eql p.tX.2.1 4) (.need (A.k (@tt gh) p.FQ) (.br (A.not (A.k Br p.FQ)) (.ret ((p.tX.1,3,p.tX.2.2),(2,0,0,(0,0,(0,0,0,0,0),0,([]:List Int)),0),0)) (.ret (p.tX,(2,0,0,(0,0,(0,0,0,0,0),0,([]:List Int)),0),0)))) (.ret (p.tX,(2,0,0,(0,0,(0,0,0,0,0),0,([]:List Int)),0),0))
 | .c11 p=>.br (A.c .eql p.tA.2.1 4) (.need (A.k (@tt gh) p.Fh) (.br (A.not (A.k Br p.Fh)) (.ret ((p.tA.1,3,p.tA.2.2),p.B_,0)) (.ret (p.tA,p.B_,0)))) (.ret (p.tA,p.B_,0))
theorem wB{p:Ff}(h:p.Fh=p.tA.2.2.2.1):aA (kG aj) (.more (.c11 p)) (od p.tA,p.B_,0):=by
 rw[al,kG,h];exact Fc rfl
theorem JL{p:ET}(h:p.FQ=p.tX.2.2.2.1):aA (kG aj) (.more (.c10 p)) (od p.tX,pZ,0):=by
 rw[al,kG,h];exact Fc rfl
theorem AO{p:J0}(h:p.IK=p.nO.2.2.2.1):aA (kG aj) (.more (.c9 p)) (od (bif p.z90 then(p.nO.1,p.nO.2.1,eY p.xV p.nO.2.2.1 p.vf.2.2.2.1.2.1,p.nO.2.2.2) else p.nO),p.vf,0):=by
 rw[al,kG,eY]
 rw[show ∀x,aj.k gi x=l5 x.1 x.2.1 x.2.2 from fun _=>rfl]
 cases p.z90
 ·exact(ah rfl).2 (wB h)
 ·refine(ai rfl).2 (af.2 ⟨rfl,af.2 ⟨rfl,ax (p:=(l5 p.xV p.nO.2.2.1 p.vf.2.2.2.1.2.1).2=0) aH (fun g=>?_) fun g=>?_⟩⟩)
  ·rw[decide_eq_true g];exact wB h
  ·rw[decide_eq_false g];exact wB h
theorem Nn{p:J7}(h0:p.z80=false)(h:p.KC=p.uA.2.2.2.1):aA (kG aj) (.more (.c8 p)) (od p.uA,pZ,0):=by
 rw[al,kG,h0];exact(ah rfl).2 (JL h)
theorem FF{p:Ki}(h0:p.h0=0)(hd:p.h1=true→(jh p.iC.2.2.2.2.2.2.2 p.iC.2.2.1.2.1 p.h18.2.2.2.1.2.2.2.2).2=0):aA (kG aj) (.more (.c7 p)) (od (bif p.h1 then wH p.h16 (oY p.iC p.tK) p.h18.2.2.2.1 else oY p.iC p.tK),p.h18,0):=by
 rw[al,kG,h0]
 refine(ah rfl).2 ?_
 cases hb:p.h1
 ·exact(ah rfl).2 (AO (p:=⟨false,p.h16,oY p.iC p.tK,p.h18,p.tK⟩) rfl)
 ·rw[cond_true,wH]
  refine(ai rfl).2 (ax (p:=¬p.h18.2.2.2.1.1=3) aT (fun k=>af.2 ⟨rfl,af.2 ⟨rfl,(ai (ug (hd hb))).2 ?_⟩⟩) fun k=>?_)
  ·rw[decide_eq_false k]
   exact AO (p:=⟨true,p.h16,(p.iC.1,p.iC.2.1,(p.iC.2.2.1.1,p.iC.2.2.1.2.1,p.iC.2.2.1.2.2.1,p.iC.2.2.1.2.2.2.1,p.tK.2.2.1),p.tK,p.iC.2.2.2.2.1,p.iC.2.2.2.2.2.1,p.iC.2.2.2.2.2.2.1,(jh p.iC.2.2.2.2.2.2.2 p.iC.2.2.1.2.1 p.h18.2.2.2.1.2.2.2.2).1),p.h18,p.tK⟩) rfl
  ·rw[decide_eq_true (Decidable.not_not.1 k)]
   exact AO (p:=⟨true,p.h16,oY p.iC p.tK,p.h18,p.tK⟩) rfl
theorem MP{p:J5}(h0:p.g0=0)(h1:p.g1=false):aA (kG aj) (.more (.c6 p)) (od (oY p.g17 p.g24),pZ,0):=by
 rw[al,kG,h0,h1]
 exact(ah rfl).2 ((ah rfl).2 (Nn (p:=⟨false,p.g16,oY p.g17 p.g24,p.g24⟩) rfl rfl))
theorem BR{m:ak}{n:Node}{o:gK}{g:Bool}(hn:aS m n=0)(a1:(dU (n.2.2.2.1,n.2.2.1.2.1,o)).2=0)(a2:(dU (n.2.2.2.1,n.2.2.1.2.1,pZ)).2=0)(hg:g=(decide (o.1=3)&&kh m n.2.2.1 o.2.2.2.1)):aA (kG aj) (.more (.c3 ⟨n.2.2.1.2.1,g,n,m,n,o⟩)) (ul m n (mj m n o),mj m n o,0):=by
 rw[al,kG]
 simp only
 refine ax (p:=o.1=3) aH (fun k=>?_) fun k=>af.2 ⟨rfl,?_⟩
 ·rw[decide_eq_true k,Bool.true_and] at hg
  subst hg
  cases hl:kh m n.2.2.1 o.2.2.2.1
  ·refine(ai rfl).2 (af.2 ⟨rfl,?_⟩)
   rw[Bs k hl]
   exact MP (p:=⟨(dU (n.2.2.2.1,n.2.2.1.2.1,pZ)).2,false,m,n,(dU (n.2.2.2.1,n.2.2.1.2.1,pZ)).1⟩) a2 rfl
  ·refine(ah rfl).2 (af.2 ⟨rfl,?_⟩)
   have hv:=BH hn hl
   rw[qU hl,ul,decide_eq_true k]
   exact FF (p:=⟨(dU (n.2.2.2.1,n.2.2.1.2.1,o)).2,true,m,n,o,(dU (n.2.2.2.1,n.2.2.1.2.1,o)).1⟩) a1 fun _=>hv
 ·rw[D3 k,ul,decide_eq_false k]
  have e:g=false:=by rw[hg,decide_eq_false k];rfl
  subst e
  exact FF (p:=⟨(dU (n.2.2.2.1,n.2.2.1.2.1,o)).2,false,m,n,o,(dU (n.2.2.2.1,n.2.2.1.2.1,o)).1⟩) a1 (fun h=>by cases h)
theorem N6{m:ak}{n:Node}{seen:List Seen}(hn:aS m n=0):aA (kG aj) (.more (.c1 ⟨seen,n,m,n⟩)) (bif decide ((ot n seen).2=0) then(ul m n (mj m n (ot n seen).1),mj m n (ot n seen).1,0) else(dM,CS,(ot n seen).2)):=by
 have ha:(ot n seen).2=0→_:=fun g=>Il (c:=n.2.2.1) (v:=n.2.2.2.1) (s:=n.2.2.1.2.1) (seen:=seen) g
 rw[show gX (n.2.2.1,n.2.2.2.1,n.2.2.1.2.1,seen)=ot n seen from rfl] at ha
 rw[al,kG]
 simp only
 rw[show aj.k ky (n.2.2.1,n.2.2.2.1,n.2.2.1.2.1,seen)=ot n seen from rfl,show aj.k dB (m,n.2.2.1.2.2.1,n.2.2.1.2.1)=bo m n.2.2.1.2.2.1 n.2.2.1.2.1 from rfl]
 generalize ot n seen=S at ha ⊢
 refine(ah rfl).2 (af.2 ⟨rfl,ax (p:=¬S.2=0) aT (fun g=>ay (by rw[decide_eq_false g];rfl) (.ret _)) fun g=>?_⟩)
 have g:=Decidable.not_not.1 g
 obtain⟨a1,a2⟩:=ha g
 rw[decide_eq_true g,cond_true]
 have no:kh m n.2.2.1 S.1.2.2.2.1=false→aA (kG aj) (.more (.c3 ⟨n.2.2.1.2.1,false,n,m,n,S.1⟩)) (ul m n (mj m n S.1),mj m n S.1,0):=fun h=>BR hn a1 a2 (by rw[h,Bool.and_false])
 refine ax (p:=S.1.1=3) aH (fun k=>af.2 ⟨rfl,ax (p:=¬(bo m n.2.2.1.2.2.1 n.2.2.1.2.1).2=0) aT (fun k1=>no (by rw[kh,decide_eq_false k1];rfl)) fun k1=>?_⟩) fun k=>BR hn a1 a2 (by rw[decide_eq_false k];rfl)
 have k1:=Decidable.not_not.1 k1
 have kn:=zY k1
 have hk:=ki k1
 have hx:=iw (k_ hk.1 hk.2.2.1 hk.2.2.2)
 have tl:∀w:Int,(bif decide ((bo m n.2.2.1.2.2.1 n.2.2.1.2.1).1=3) then(0:Int) else BN m n.2.2.1.2.2.1 n.2.2.1.2.1)=w→aA (kG aj) (.br (aj.c .neq (bo m n.2.2.1.2.2.1 n.2.2.1.2.1).1 0) (.br (aj.c .eql (bo m n.2.2.1.2.2.1 n.2.2.1.2.1).1 S.1.2.2.2.1.1) (.more (.c3 ⟨n.2.2.1.2.1,aj.c .eql w (aj.l S.1.2.2.2.1.2.2.2.2),n,m,n,S.1⟩)) (.more (.c3 ⟨n.2.2.1.2.1,false,n,m,n,S.1⟩))) (.more (.c3 ⟨n.2.2.1.2.1,false,n,m,n,S.1⟩))) (ul m n (mj m n S.1),mj m n S.1,0):=fun w hw=>by
  refine(ai (fT kn)).2 (ax (p:=(bo m n.2.2.1.2.2.1 n.2.2.1.2.1).1=S.1.2.2.2.1.1) aH (fun k3=>BR hn a1 a2 ?_) fun k3=>no ?_)
  ·rw[decide_eq_true k,Bool.true_and,kh,decide_eq_true k1,decide_eq_true k3.symm,Bool.true_and,Bool.true_and,aH]
   show decide (w=(S.1.2.2.2.1.2.2.2.2.length:Int))=decide ((S.1.2.2.2.1.2.2.2.2.length:Int)=bif decide ((bo m n.2.2.1.2.2.1 n.2.2.1.2.1).1=3) then(0:Int) else BN m n.2.2.1.2.2.1 n.2.2.1.2.1)
   rw[hw]
   exact decide_eq_decide.2 ⟨Eq.symm,Eq.symm⟩
  ·rw[kh,decide_eq_false (show ¬S.1.2.2.2.1.1=(bo m n.2.2.1.2.2.1 n.2.2.1.2.1).1 from fun x=>k3 x.symm),Bool.false_and,Bool.and_false]
 refine ax (p:=(bo m n.2.2.1.2.2.1 n.2.2.1.2.1).1=3) aH (fun k2=>tl 0 (by rw[decide_eq_true k2];rfl)) fun k2=>af.2 ⟨jk hk.2.2.1 hk.2.2.2,af.2 ⟨jr hx.1 hk.2.1.1 (by omega),tl _ (by rw[decide_eq_false k2];rfl)⟩⟩
theorem uS{p:JY}(h:¬p.a1=0):aA (kG aj) (.more (.c0 p)) (dM,CS,p.a1):=by
 rw[al,kG];exact(ai (fT h)).2 (.ret _)
theorem WY{m:ak}{n:Node}{seen:List Seen}:aA (kG aj) (Tk aj m n seen) (nR m n seen):=by
 unfold Tk nR
 rw[show aj.k jU n=gb n from rfl,show aj.k bL (m,n)=aS m n from rfl,show aj.k bf (n.2.2.2.2.2.2.2,n.2.2.2.2.2.2.2.2.1)=vI n.2.2.2.2.2.2.2 n.2.2.2.2.2.2.2.2.1 from rfl]
 refine af.2 ⟨rfl,?_⟩
 by_cases h:aS m n=0
 ·rw[decide_eq_true h,nN h,cond_true]
  cases hi:gb n
  ·exact(ah rfl).2 (af.2 ⟨rfl,(ah (kH h)).2 (uS (show ¬(181:Int)=0 by decide))⟩)
  refine(ai rfl).2 (af.2 ⟨rfl,(ah (kH h)).2 ?_⟩)
  by_cases hp:n.2.2.1.2.1=n.1
  ·rw[decide_eq_false (show ¬¬n.2.2.1.2.1=n.1 from fun k=>k hp)]
   exact(ai (by rw[aT,decide_eq_false (show ¬¬n.2.2.1.2.1=n.1 from fun k=>k hp)];rfl)).2 (uS (show ¬(181:Int)=0 by decide))
  ·rw[decide_eq_true hp]
   exact(ah (by rw[aT,decide_eq_true hp];rfl)).2 (af.2 ⟨rfl,(ah rfl).2 (N6 h)⟩)
 ·rw[decide_eq_false h]
  cases gb n
  ·exact(ah rfl).2 (af.2 ⟨rfl,(ai (fT h)).2 (uS h)⟩)
  ·exact(ai rfl).2 (af.2 ⟨rfl,(ai (fT h)).2 (uS h)⟩)
def F5:(ak×Node×List Seen)→(Node×gK×Int):=fun(m,c,k)=>nR m c k
def Wa:aD:=⟨[bd,aQ,(.slice dA)], [aQ,mW,yI],(@tt (ak×Node×List Seen)),F5⟩
theorem YW:Sd 54 Wa:=aL au cK true 106 [] [⟨54,2, [[2,4,6,7,9,10]]⟩,⟨54,9, [[4,6,7,9,11,12,13]]⟩,⟨54,12, [[6,7,9,10,12,13,14]]⟩,⟨54,17, [[6,7,9,12,13,14]]⟩,⟨54,19, [[6,7,9,12,14]]⟩] (fun A (m,n,seen)=>Tk A m n seen) kG SO (fc Tryz.func54 (fc Tryz.func90 (fc Tryz.func124 (fc Tryz.func126 (fc Tryz.func127 (fc Tryz.func187 fz)))))) (sc WO (sc XF (sc U5 (sc rm (sc Cu (sc o3 (sc Fb (sc zA (sc BW sz))))))))) (fun A y=>match y with |.c0 p=>⟨74,by kernel_rfl,by kernel_rfl⟩|.c1 p=>⟨158,by kernel_rfl,by kernel_rfl⟩|.c2 p=>⟨35,by kernel_rfl,by kernel_rfl⟩|.c3 p=>⟨35,by kernel_rfl,by kernel_rfl⟩|.c4 p=>⟨19,by kernel_rfl,by kernel_rfl⟩|.c5 p=>⟨19,by kernel_rfl,by kernel_rfl⟩|.c6 p=>⟨90,by kernel_rfl,by kernel_rfl⟩|.c7 p=>⟨90,by kernel_rfl,by kernel_rfl⟩|.c8 p=>⟨53,by kernel_rfl,by kernel_rfl⟩|.c9 p=>⟨53,by kernel_rfl,by kernel_rfl⟩|.c10 p=>⟨37,by kernel_rfl,by kernel_rfl⟩|.c11 p=>⟨37,by kernel_rfl,by kernel_rfl⟩) fun(m,n,seen) hp h=>WY
open Go.Ev.Pl
end Go.Ev.M
