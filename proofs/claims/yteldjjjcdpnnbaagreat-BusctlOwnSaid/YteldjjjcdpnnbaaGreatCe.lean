/-
  PROVED: what Own, End and Tick of busctl and of metronomeref18 compute. Conditions: none.
-/
import Derived.Test.YteldjjjcdpnnbaaGreatCc
namespace Go.Ev.M
open Go.Proofs
set_option maxRecDepth 100000
set_option linter.unusedVariables false
set_option linter.unusedSimpArgs false
open Go.Ev.Pl
def Nt(A:aZ)(m:ao)(n:Node):LT (Node×ia×Bool×Int) Empty:=.need (A.k (@tt (ao×Node×Bool)) (m,n,(A.c .eql n.2.1 1))) (.br (A.c .neq (A.k aR (m,n,(A.c .eql n.2.1 1))).2 0) (.ret ((0,0,(0,0,0,0,0),(0,0,0,0,0,0,0),0,false,0,0,([]:List Int),([]:List aW),0,0),(0,0,(0,0,0,0,0),0,([]:List Int)),false,(A.k aR (m,n,(A.c .eql n.2.1 1))).2)) (.br (A.c .gtr (A.b .sub .i64 (A.k aR (m,n,(A.c .eql n.2.1 1))).1.2.2.2.2.1 1) 0) (.ret (((A.k aR (m,n,(A.c .eql n.2.1 1))).1.1,(A.k aR (m,n,(A.c .eql n.2.1 1))).1.2.1,(A.k aR (m,n,(A.c .eql n.2.1 1))).1.2.2.1,(A.k aR (m,n,(A.c .eql n.2.1 1))).1.2.2.2.1,(A.b .sub .i64 (A.k aR (m,n,(A.c .eql n.2.1 1))).1.2.2.2.2.1 1),(A.k aR (m,n,(A.c .eql n.2.1 1))).1.2.2.2.2.2),(0,0,(0,0,0,0,0),0,([]:List Int)),false,0)) (.need (A.and (A.c .leq 0 (A.k aR (m,n,(A.c .eql n.2.1 1))).1.1) (A.c .lss (A.k aR (m,n,(A.c .eql n.2.1 1))).1.1 (A.l m.2.2.2.2.2.2.1))) (.br (A.not (A.n .bool m.2.2.2.2.2.2.1 (A.k aR (m,n,(A.c .eql n.2.1 1))).1.1:Bool)) (.need (A.k (@tt (ao×Int)) (m,(A.k aR (m,n,(A.c .eql n.2.1 1))).1.1)) (.ret (((A.k aR (m,n,(A.c .eql n.2.1 1))).1.1,(A.k aR (m,n,(A.c .eql n.2.1 1))).1.2.1,(A.k aR (m,n,(A.c .eql n.2.1 1))).1.2.2.1,(A.k aR (m,n,(A.c .eql n.2.1 1))).1.2.2.2.1,(A.k oZ (m,(A.k aR (m,n,(A.c .eql n.2.1 1))).1.1)),(A.k aR (m,n,(A.c .eql n.2.1 1))).1.2.2.2.2.2),(0,0,(0,0,0,0,0),0,([]:List Int)),false,0))) (.need (A.c .leq 0 (A.k aR (m,n,(A.c .eql n.2.1 1))).1.1) (.ret (((A.k aR (m,n,(A.c .eql n.2.1 1))).1.1,2,(0,(A.k aR (m,n,(A.c .eql n.2.1 1))).1.1,0,0,(A.b .shl .i64 1 (A.k aR (m,n,(A.c .eql n.2.1 1))).1.1)),((A.k aR (m,n,(A.c .eql n.2.1 1))).1.1,m.1,(A.b .shl .i64 1 (A.k aR (m,n,(A.c .eql n.2.1 1))).1.1),1,0,0,0),0,(A.k aR (m,n,(A.c .eql n.2.1 1))).1.2.2.2.2.2),(1,0,(0,0,0,0,0),(A.k aR (m,n,(A.c .eql n.2.1 1))).1.1,([]:List Int)),true,0)))))))
def tL:ia:=(0,0,(0,0,0,0,0),0,([]:List Int))
def CF(m:ao)(n:Node):Node×ia×Bool×Int:=
 bif decide (dS m n=0) then
  bif decide (n.2.1=1) then
   bif decide (0<n.2.2.2.2.1-1) then((n.1,n.2.1,n.2.2.1,n.2.2.2.1,n.2.2.2.2.1-1,n.2.2.2.2.2),tL,false,0)
   else bif (ai.n .bool m.2.2.2.2.2.2.1 n.1:Bool) then((n.1,2,(0,n.1,0,0,ai.b .shl .i64 1 n.1),(n.1,m.1,ai.b .shl .i64 1 n.1,1,0,0,0),0,n.2.2.2.2.2),(1,0,(0,0,0,0,0),n.1,([]:List Int)),true,0)
   else((n.1,n.2.1,n.2.2.1,n.2.2.2.1,(l5 m n.1).1,n.2.2.2.2.2),tL,false,0)
  else(im,tL,false,181)
 else(im,tL,false,dS m n)
theorem ID{m:ao}{n:Int}:(l5 m n).1≤9223372036854775807:=by
 unfold l5
 cases decide (fw m n=0)
 ·exact(by decide:(0:Int)≤9223372036854775807)
 ·rw[cond_true,bH,IntKind.wrap_i64];omega
theorem A_{m:ao}{n:Node}(h:dS m n=0)(h1:n.2.1=1):1≤n.2.2.2.2.1∧ai.b .sub .i64 n.2.2.2.2.1 1=n.2.2.2.2.1-1:=by
 have hc:=(gZ.1 (fB h).2).2.2.2.2.2.2.2.2.1
 rw[p8,decide_eq_true h1,cond_true,decide_eq_true_eq] at hc
 have:=@ID m n.1
 exact⟨hc.1,by rw[bl,fQ (by omega) (by omega)]⟩
theorem UX{m:ao}{n:Node}:aB Empty.elim (Nt ai m n) (CF m n):=by
 unfold Nt CF
 refine af.2 ⟨rfl,?_⟩
 rw[show ai.k aR (m,n,ai.c .eql n.2.1 1)=jo m n (ai.c .eql n.2.1 1) from rfl,aO,jo]
 by_cases h:dS m n=0
 ·rw[decide_eq_true h,cond_true,cond_true]
  by_cases h1:n.2.1=1
  ·obtain⟨ht,es⟩:=A_ h h1
   have hi:=(gZ.1 (fB h).2).1
   have hl:=eT (fB h).1
   rw[decide_eq_true h1,cond_true,cond_true,es]
   refine(ah rfl).2 (au (p:=0<n.2.2.2.2.1-1) rfl (fun h2=>?_) fun h2=>af.2 ⟨ib hl.2.2.1 hi.1 (show n.1<m.1 by omega),?_⟩)
   ·exact al (by rw[decide_eq_true h2];rfl) (.ret _)
   rw[decide_eq_false h2,cond_false]
   show aB Empty.elim (.br (ai.not (ai.n .bool m.2.2.2.2.2.2.1 n.1:Bool)) _ _) _
   cases (ai.n .bool m.2.2.2.2.2.2.1 n.1:Bool)
   ·exact(aj rfl).2 (af.2 ⟨rfl,.ret _⟩)
   ·refine(ah rfl).2 (af.2 ⟨decide_eq_true (show 0≤n.1 from hi.1),?_⟩)
    exact .ret _
  ·rw[decide_eq_false h1]
   exact(aj rfl).2 (.ret _)
 ·rw[decide_eq_false h];exact(aj (jS h)).2 (.ret _)
def n_:(ao×Node)→(Node×ia×Bool×Int):=fun(m,n)=>CF m n
def TB:aA:=⟨[bC,cN], [cN,r8,.bool,yI],(@tt (ao×Node)),n_⟩
theorem SE:Sd 48 TB:=aD ax cm true 130 [] (fun A (m,n)=>Nt A m n) (fc Tryz.func48 (fc Tryz.func75 fz)) (sc yA (sc xY sz)) fun(m,n) hp h=>UX
def Mk(A:aZ)(m:ao)(n:Node):LT (Node×ia×Bool×Int) Empty:=.need (A.k (@tt (ao×Node)) (m,n)) (.br (A.c .neq (A.k nf (m,n)) 0) (.ret ((0,0,(0,0,0,0,0),(0,0,0,0,0,0,0),0,false,0,0,([]:List Int),([]:List aW),0,0),(0,0,(0,0,0,0,0),0,([]:List Int)),false,(A.k nf (m,n)))) (.br (A.c .neq n.2.1 1) (.ret ((0,0,(0,0,0,0,0),(0,0,0,0,0,0,0),0,false,0,0,([]:List Int),([]:List aW),0,0),(0,0,(0,0,0,0,0),0,([]:List Int)),false,181)) (.need (A.k xu n) (.br (A.c .gtr (A.b .sub .i64 (A.k aI n).2.2.2.2.1 1) 0) (.ret (((A.k aI n).1,(A.k aI n).2.1,(A.k aI n).2.2.1,(A.k aI n).2.2.2.1,(A.b .sub .i64 (A.k aI n).2.2.2.2.1 1),(A.k aI n).2.2.2.2.2),(0,0,(0,0,0,0,0),0,([]:List Int)),false,0)) (.need (A.and (A.c .leq 0 (A.k aI n).1) (A.c .lss (A.k aI n).1 (A.l m.2.2.2.2.2.2.1))) (.br (A.not (A.n .bool m.2.2.2.2.2.2.1 (A.k aI n).1:Bool)) (.need (A.k (@tt (ao×Int)) (m,(A.k aI n).1)) (.ret (((A.k aI n).1,(A.k aI n).2.1,(A.k aI n).2.2.1,(A.k aI n).2.2.2.1,(A.k tW (m,(A.k aI n).1)).1,(A.k aI n).2.2.2.2.2),(0,0,(0,0,0,0,0),0,([]:List Int)),false,0))) (.need (A.c .leq 0 (A.v .u64 (A.k aI n).1)) (.ret (((A.k aI n).1,2,(0,(A.k aI n).1,0,0,(A.b .shl .i64 1 (A.v .u64 (A.k aI n).1))),((A.k aI n).1,m.1,(A.b .shl .i64 1 (A.v .u64 (A.k aI n).1)),1,0,0,0),(A.b .sub .i64 (A.k aI n).2.2.2.2.1 1),(A.k aI n).2.2.2.2.2),(1,0,(0,0,0,0,0),(A.k aI n).1,([]:List Int)),true,0)))))))))
theorem Pg{m:ao}{n:Node}:aB Empty.elim (Mk ai m n) (CF m n):=by
 unfold Mk CF
 refine af.2 ⟨rfl,?_⟩
 rw[show ai.k nf (m,n)=dS m n from rfl,show ai.k aI n=n from rfl]
 by_cases h:dS m n=0
 ·rw[decide_eq_true h,cond_true]
  refine(ah (lk h)).2 (au (p:=¬n.2.1=1) aY (fun h1=>al (by rw[decide_eq_false h1];rfl) (.ret _)) fun h1=>af.2 ⟨kz h,?_⟩)
  have h1:=Decidable.not_not.1 h1
  obtain⟨ht,es⟩:=A_ h h1
  have hi:=(gZ.1 (fB h).2).1
  have hl:=eT (fB h).1
  rw[decide_eq_true h1,cond_true,es,KA (k:=n.1) (by omega)]
  refine au (p:=0<n.2.2.2.2.1-1) rfl (fun h2=>?_) fun h2=>af.2 ⟨ib hl.2.2.1 hi.1 (show n.1<m.1 by omega),?_⟩
  ·exact al (by rw[decide_eq_true h2];rfl) (.ret _)
  rw[decide_eq_false h2,cond_false]
  cases (ai.n .bool m.2.2.2.2.2.2.1 n.1:Bool)
  ·exact(aj rfl).2 (af.2 ⟨rfl,.ret _⟩)
  ·refine(ah rfl).2 (af.2 ⟨decide_eq_true (show 0≤n.1 from hi.1),?_⟩)
   exact al (by rw[show n.2.2.2.2.1-1=0 by omega];rfl) (.ret _)
 ·rw[decide_eq_false h];exact(aj (jS h)).2 (.ret _)
def oy:(ao×Node)→(Node×ia×Bool×Int):=fun(m,n)=>CF m n
def Uq:aA:=⟨[bC,cN], [cN,r8,.bool,yI],(@tt (ao×Node)),oy⟩
theorem PX:Sd 49 Uq:=aD ax cm true 119 [] (fun A (m,n)=>Mk A m n) (fc Tryz.func49 fz) (sc EN (sc ET (sc Gp sz))) fun(m,n) hp h=>Pg
def KY(A:aZ)(m:ao)(n:Node):LT (Node×Int) Empty:=.need (A.k (@tt Node) n) (.need (A.k (@tt (ao×Node×Bool)) (m,n,(A.k dp n))) (.need (A.k (@tt (ao×Node×Bool)) (m,n,(A.k dp n))) (.need (A.k (@tt Node) n) (.br (A.c .neq (A.k aR (m,n,(A.k dp n))).2 0) (.ret ((0,0,(0,0,0,0,0),(0,0,0,0,0,0,0),0,false,0,0,([]:List Int),([]:List aW),0,0),(A.k aR (m,n,(A.k dp n))).2)) (.need (A.k (@tt (cf×Int)) ((A.k aR (m,n,(A.k dp n))).1.2.2.1,m.1)) (.br (A.c .eql (A.k qG ((A.k aR (m,n,(A.k dp n))).1.2.2.1,m.1)).2 0) (.br (A.c .eql (A.k qG ((A.k aR (m,n,(A.k dp n))).1.2.2.1,m.1)).1.2.1 0) (.need (A.k (@tt bR) (A.k aR (m,n,(A.k dp n))).1.2.2.2.2.2.2.2) (.ret (((A.k aR (m,n,(A.k dp n))).1.1,(A.k aR (m,n,(A.k dp n))).1.2.1,(A.k qG ((A.k aR (m,n,(A.k dp n))).1.2.2.1,m.1)).1,(A.k aR (m,n,(A.k dp n))).1.2.2.2.1,(A.k aR (m,n,(A.k dp n))).1.2.2.2.2.1,(A.k aR (m,n,(A.k dp n))).1.2.2.2.2.2.1,(A.k aR (m,n,(A.k dp n))).1.2.2.2.2.2.2.1,(A.k Gk (A.k aR (m,n,(A.k dp n))).1.2.2.2.2.2.2.2).1),(A.k Gk (A.k aR (m,n,(A.k dp n))).1.2.2.2.2.2.2.2).2))) (.ret (((A.k aR (m,n,(A.k dp n))).1.1,(A.k aR (m,n,(A.k dp n))).1.2.1,(A.k qG ((A.k aR (m,n,(A.k dp n))).1.2.2.1,m.1)).1,(A.k aR (m,n,(A.k dp n))).1.2.2.2),(A.k qG ((A.k aR (m,n,(A.k dp n))).1.2.2.1,m.1)).2))) (.ret (((A.k aR (m,n,(A.k dp n))).1.1,(A.k aR (m,n,(A.k dp n))).1.2.1,(A.k qG ((A.k aR (m,n,(A.k dp n))).1.2.2.1,m.1)).1,(A.k aR (m,n,(A.k dp n))).1.2.2.2),(A.k qG ((A.k aR (m,n,(A.k dp n))).1.2.2.1,m.1)).2))))))))
def Ci(m:ao)(n:Node):Node×Int:=
 bif decide (dS m n=0) then
  bif oQ n then
   bif decide ((iM n.2.2.1 m.1).1.2.1=0) then((n.1,n.2.1,(iM n.2.2.1 m.1).1,n.2.2.2.1,n.2.2.2.2.1,n.2.2.2.2.2.1,n.2.2.2.2.2.2.1,(v_ n.2.2.2.2.2.2.2).1),0)
   else((n.1,n.2.1,(iM n.2.2.1 m.1).1,n.2.2.2),0)
  else(im,181)
 else(im,dS m n)
theorem step_ok{m:ao}{n:Node}(h:dS m n=0)(h1:oQ n=true):(iM n.2.2.1 m.1).2=0:=by
 have hc:=(gZ.1 (fB h).2).2.2.2.2.2.2.2.1
 rw[oM,h1,cond_true,Bool.and_eq_true] at hc
 have hf:=hc.1
 simp only[eD,Bool.and_eq_true,decide_eq_true_eq] at hf
 rw[iM,decide_eq_true hf.1]
 cases decide (n.2.2.1.2.1+1=m.1)<;>cases decide (n.2.2.1.2.2.2.1=0)<;>rfl
theorem NG{m:ao}{n:Node}(h:dS m n=0):(v_ n.2.2.2.2.2.2.2).2=0:=by
 rw[v_,kz h];rfl
theorem On{m:ao}{n:Node}:aB Empty.elim (KY ai m n) (Ci m n):=by
 unfold KY Ci
 refine af.2 ⟨rfl,af.2 ⟨rfl,?_⟩⟩
 repeat' (refine af.2 ⟨rfl,?_⟩)
 rw[show ai.k aR (m,n,ai.k dp n)=jo m n (oQ n) from rfl,jo]
 by_cases h:dS m n=0
 ·rw[decide_eq_true h,cond_true,cond_true]
  cases h1:oQ n
  ·exact(aj rfl).2 (.ret _)
  have hs:=step_ok h h1
  have hr:=NG h
  rw[cond_true,cond_true]
  refine(ah rfl).2 (af.2 ⟨rfl,(aj (IP hs)).2 (au (p:=(iM n.2.2.1 m.1).1.2.1=0) aO (fun h2=>af.2 ⟨rfl,al ?_ (.ret _)⟩) fun h2=>al ?_ (.ret _))⟩)
  ·rw[decide_eq_true h2];exact congrArg (Prod.mk _) hr
  ·rw[decide_eq_false h2];exact congrArg (Prod.mk _) hs
 ·rw[decide_eq_false h];exact(aj (jS h)).2 (.ret _)
def vG:(ao×Node)→(Node×Int):=fun(m,n)=>Ci m n
def Ov:aA:=⟨[bC,cN], [cN,yI],(@tt (ao×Node)),vG⟩
theorem Rv:Sd 46 Ov:=aD ax cm true 80 [] (fun A (m,n)=>KY A m n) (fc Tryz.func46 fz) (sc Dk (sc yA (sc Q0 (sc U0 sz)))) fun(m,n) hp h=>On
def Le(A:aZ)(m:ao)(n:Node):LT (Node×Int) Empty:=.need (A.k (@tt (ao×Node)) (m,n)) (.br (A.c .neq (A.k nf (m,n)) 0) (.ret ((0,0,(0,0,0,0,0),(0,0,0,0,0,0,0),0,false,0,0,([]:List Int),([]:List aW),0,0),(A.k nf (m,n)))) (.need (A.k (@tt Node) n) (.br (A.not (A.k tx n)) (.ret ((0,0,(0,0,0,0,0),(0,0,0,0,0,0,0),0,false,0,0,([]:List Int),([]:List aW),0,0),181)) (.need (A.k xu n) (.need (A.k (@tt (cf×Int)) ((A.k aI n).2.2.1,m.1)) (.br (A.c .eql (A.k AO ((A.k aI n).2.2.1,m.1)).1.2.1 0) (.need (A.k (@tt bR) (A.k aI n).2.2.2.2.2.2.2) (.ret (((A.k aI n).1,(A.k aI n).2.1,(A.k AO ((A.k aI n).2.2.1,m.1)).1,(A.k aI n).2.2.2.1,(A.k aI n).2.2.2.2.1,(A.k aI n).2.2.2.2.2.1,(A.k aI n).2.2.2.2.2.2.1,(A.k JP (A.k aI n).2.2.2.2.2.2.2).1),0))) (.ret (((A.k aI n).1,(A.k aI n).2.1,(A.k AO ((A.k aI n).2.2.1,m.1)).1,(A.k aI n).2.2.2),0))))))))
theorem O3{m:ao}{n:Node}:aB Empty.elim (Le ai m n) (Ci m n):=by
 unfold Le Ci
 refine af.2 ⟨rfl,?_⟩
 rw[show ai.k nf (m,n)=dS m n from rfl,show ai.k aI n=n from rfl,show ai.k tx n=oQ n from rfl]
 by_cases h:dS m n=0
 ·rw[decide_eq_true h,cond_true]
  refine(ah (lk h)).2 (af.2 ⟨rfl,?_⟩)
  cases oQ n
  ·exact(aj rfl).2 (.ret _)
  refine(ah rfl).2 (af.2 ⟨kz h,af.2 ⟨rfl,au (p:=(iM n.2.2.1 m.1).1.2.1=0) aO (fun h2=>af.2 ⟨rfl,al ?_ (.ret _)⟩) fun h2=>al ?_ (.ret _)⟩⟩)
  ·rw[decide_eq_true h2];rfl
  ·rw[decide_eq_false h2];rfl
 ·rw[decide_eq_false h];exact(aj (jS h)).2 (.ret _)
def vQ:(ao×Node)→(Node×Int):=fun(m,n)=>Ci m n
def QL:aA:=⟨[bC,cN], [cN,yI],(@tt (ao×Node)),vQ⟩
theorem VD:Sd 47 QL:=aD ax cm true 81 [] (fun A (m,n)=>Le A m n) (fc Tryz.func47 fz) (sc EN (sc Es (sc ET (sc Uc (sc P0 sz))))) fun(m,n) hp h=>O3
open Go.Ev.Pl
def t23(A:aZ)(mId:Int)(mN:Int)(mSet:Int)(mAcc:Int)(mFail:Int)(mStage:Int)(mFirst:Int):LT (gp×Int×Int) Empty:=.need (A.k (@tt ((Int×Int×Int×Int×Int×Int×Int))) (mId,mN,mSet,mAcc,mFail,mStage,mFirst)) (.br (A.c .neq (A.k uT (mId,mN,mSet,mAcc,mFail,mStage,mFirst)) 0) (.ret ((0,0,0,0,0,0,0),0,(A.k uT (mId,mN,mSet,mAcc,mFail,mStage,mFirst)))) (.br (A.c .leq mAcc mFail) (.ret ((mId,mN,mSet,mAcc,mFail,mStage,mFirst),2,0)) (.need (A.c .leq 0 mId) (.ret ((mId,mN,(A.b .or .i64 mSet (A.b .shl .i64 1 mId)),1,0,1,0),1,0)))))
def kW:gp→(gp×Int×Int):=fun(mId,mN,mSet,mAcc,mFail,mStage,mFirst)=>(t23 ai mId mN mSet mAcc mFail mStage mFirst).val (Ty.cn [kC,yI,yI])
def WN:aA:=⟨[kC], [kC,yI,yI],(@tt gp),kW⟩
theorem N8:Sd 177 WN:=aL ax cm true 67 [] (fun A (mId,mN,mSet,mAcc,mFail,mStage,mFirst)=>t23 A mId mN mSet mAcc mFail mStage mFirst) (fc Tryz.func177 fz) (sc J5 sz) (fun((mId,mN,mSet,mAcc,mFail,mStage,mFirst):gp) hp h=>by
 show(t23 ai mId mN mSet mAcc mFail mStage mFirst).pre=true
 simp only[t23,LT.pre,fG,aS,aQ,ar,aF,aG,aN,aU,cu,ft,ap,bH,bl,bu,c_,dc,Bool.and_eq_true,Bool.or_eq_true,Bool.and_eq_false_iff,Bool.or_eq_false_iff,Bool.not_eq_true',Bool.not_eq_false',decide_eq_true_eq,decide_eq_false_iff_not,bne_iff_ne,beq_iff_eq,bne_eq_false_iff_eq,beq_eq_false_iff_ne]
 simp only[Ty.du,Ty.has,oX] at h
 (repeat' (first|intro _|constructor))<;>(try (have hm:=vv.1 (by assumption);unfold J0 at hm;omega)))
def t75(A:aZ)(mId:Int)(mN:Int)(mSet:Int)(mAcc:Int)(mFail:Int)(mStage:Int)(mFirst:Int):LT gp Empty:=.need (A.k (@tt Int) mId) (.ret (mId,mN,(A.b .or .i64 mSet (A.k Ch mId)),1,0,1,0))
def Ll:gp→gp:=fun(mId,mN,mSet,mAcc,mFail,mStage,mFirst)=>(t75 ai mId mN mSet mAcc mFail mStage mFirst).val (Ty.cn [kC])
def AN:gp→Bool:=fun(a,b,c,d,e,f,g)=>decide (0≤a)
def W1:aA:=⟨[kC], [kC],AN,Ll⟩
theorem V7:Sd 220 W1:=aL ax cm true 47 [] (fun A (mId,mN,mSet,mAcc,mFail,mStage,mFirst)=>t75 A mId mN mSet mAcc mFail mStage mFirst) (fc Tryz.func220 fz) (sc Us sz) (fun((mId,mN,mSet,mAcc,mFail,mStage,mFirst):gp) hp h=>by
 show(t75 ai mId mN mSet mAcc mFail mStage mFirst).pre=true
 simp only[t75,LT.pre,fG,aS,aQ,ar,aF,aG,aN,aU,cu,ft,ap,bH,bl,bu,c_,dc,Bool.and_eq_true,Bool.or_eq_true,Bool.and_eq_false_iff,Bool.or_eq_false_iff,Bool.not_eq_true',Bool.not_eq_false',decide_eq_true_eq,decide_eq_false_iff_not,bne_iff_ne,beq_iff_eq,bne_eq_false_iff_eq,beq_eq_false_iff_ne]
 simp only[AN,Bool.and_eq_true,decide_eq_true_eq] at hp
 simp only[Ty.du,Ty.has,oX,CG] at h
 (repeat' (first|intro _|constructor))<;>(try omega))
def t26(A:aZ)(mId:Int)(mN:Int)(mSet:Int)(mAcc:Int)(mFail:Int)(mStage:Int)(mFirst:Int):LT (gp×Int×Int) Empty:=.need (A.k (@tt ((Int×Int×Int×Int×Int×Int×Int))) (mId,mN,mSet,mAcc,mFail,mStage,mFirst)) (.br (A.c .neq (A.k kV (mId,mN,mSet,mAcc,mFail,mStage,mFirst)) 0) (.ret ((0,0,0,0,0,0,0),0,(A.k kV (mId,mN,mSet,mAcc,mFail,mStage,mFirst)))) (.br (A.c .leq mAcc mFail) (.ret ((mId,mN,mSet,mAcc,mFail,mStage,mFirst),2,0)) (.need (A.k AN (mId,mN,mSet,mAcc,mFail,mStage,mFirst)) (.ret ((A.k Ll (mId,mN,mSet,mAcc,mFail,mStage,mFirst)),1,0)))))
def s_:gp→(gp×Int×Int):=fun(mId,mN,mSet,mAcc,mFail,mStage,mFirst)=>(t26 ai mId mN mSet mAcc mFail mStage mFirst).val (Ty.cn [kC,yI,yI])
def Xg:aA:=⟨[kC], [kC,yI,yI],(@tt gp),s_⟩
theorem RO:Sd 181 Xg:=aL ax cm true 46 [] (fun A (mId,mN,mSet,mAcc,mFail,mStage,mFirst)=>t26 A mId mN mSet mAcc mFail mStage mFirst) (fc Tryz.func181 fz) (sc K3 (sc V7 sz)) (fun((mId,mN,mSet,mAcc,mFail,mStage,mFirst):gp) hp h=>by
 show(t26 ai mId mN mSet mAcc mFail mStage mFirst).pre=true
 simp only[t26,AN,LT.pre,fG,aS,aQ,ar,aF,aG,aN,aU,cu,ft,ap,bH,bl,bu,c_,dc,Bool.and_eq_true,Bool.or_eq_true,Bool.and_eq_false_iff,Bool.or_eq_false_iff,Bool.not_eq_true',Bool.not_eq_false',decide_eq_true_eq,decide_eq_false_iff_not,bne_iff_ne,beq_iff_eq,bne_eq_false_iff_eq,beq_eq_false_iff_ne]
 simp only[Ty.du,Ty.has,oX] at h
 (repeat' (first|intro _|constructor))<;>(try (have hm:=pX.1 (by assumption);unfold J0 at hm;omega)))
def t27(A:aZ)(mId:Int)(mN:Int)(mSet:Int)(mAcc:Int)(mFail:Int)(mStage:Int)(mFirst:Int):LT (gp×Int×Int) Empty:=.need (A.k (@tt ((Int×Int×Int×Int×Int×Int×Int))) (mId,mN,mSet,mAcc,mFail,mStage,mFirst)) (.br (A.c .eql (A.k uT (mId,mN,mSet,mAcc,mFail,mStage,mFirst)) 0) (.br (A.c .eql mAcc 0) (.br (A.c .eql mFail 0) (.ret ((mId,mN,mSet,mAcc,mFail,mStage,mFirst),3,0)) (.need (A.k (@tt gp) (mId,mN,mSet,mAcc,mFail,mStage,mFirst)) (.ret (A.k kW (mId,mN,mSet,mAcc,mFail,mStage,mFirst))))) (.need (A.k (@tt gp) (mId,mN,mSet,mAcc,mFail,mStage,mFirst)) (.ret (A.k kW (mId,mN,mSet,mAcc,mFail,mStage,mFirst))))) (.need (A.k (@tt gp) (mId,mN,mSet,mAcc,mFail,mStage,mFirst)) (.ret (A.k kW (mId,mN,mSet,mAcc,mFail,mStage,mFirst)))))
def nP:gp→(gp×Int×Int):=fun(mId,mN,mSet,mAcc,mFail,mStage,mFirst)=>(t27 ai mId mN mSet mAcc mFail mStage mFirst).val (Ty.cn [kC,yI,yI])
def XG:aA:=⟨[kC], [kC,yI,yI],(@tt gp),nP⟩
theorem Xm:Sd 178 XG:=aL ax cm true 43 [] (fun A (mId,mN,mSet,mAcc,mFail,mStage,mFirst)=>t27 A mId mN mSet mAcc mFail mStage mFirst) (fc Tryz.func178 fz) (sc N8 (sc J5 sz)) (fun((mId,mN,mSet,mAcc,mFail,mStage,mFirst):gp) hp h=>by
 show(t27 ai mId mN mSet mAcc mFail mStage mFirst).pre=true
 simp only[t27,LT.pre,fG,aS,aQ,ar,aF,aG,aN,aU,cu,ft,ap,bH,bl,bu,c_,dc,Bool.and_eq_true,Bool.or_eq_true,Bool.and_eq_false_iff,Bool.or_eq_false_iff,Bool.not_eq_true',Bool.not_eq_false',decide_eq_true_eq,decide_eq_false_iff_not,bne_iff_ne,beq_iff_eq,bne_eq_false_iff_eq,beq_eq_false_iff_ne]
 simp only[Ty.du,Ty.has,oX,CG] at h
 (repeat' (first|intro _|constructor))<;>(try omega))
def t28(A:aZ)(mId:Int)(mN:Int)(mSet:Int)(mAcc:Int)(mFail:Int)(mStage:Int)(mFirst:Int):LT (gp×Int×Int) Empty:=.need (A.k (@tt ((Int×Int×Int×Int×Int×Int×Int))) (mId,mN,mSet,mAcc,mFail,mStage,mFirst)) (.br (A.c .neq (A.k kV (mId,mN,mSet,mAcc,mFail,mStage,mFirst)) 0) (.ret ((0,0,0,0,0,0,0),0,(A.k kV (mId,mN,mSet,mAcc,mFail,mStage,mFirst)))) (.br (A.c .eql mAcc 0) (.br (A.c .eql mFail 0) (.ret ((mId,mN,mSet,mAcc,mFail,mStage,mFirst),3,0)) (.need (A.k (@tt gp) (mId,mN,mSet,mAcc,mFail,mStage,mFirst)) (.ret (A.k s_ (mId,mN,mSet,mAcc,mFail,mStage,mFirst))))) (.need (A.k (@tt gp) (mId,mN,mSet,mAcc,mFail,mStage,mFirst)) (.ret (A.k s_ (mId,mN,mSet,mAcc,mFail,mStage,mFirst))))))
def CB:gp→(gp×Int×Int):=fun(mId,mN,mSet,mAcc,mFail,mStage,mFirst)=>(t28 ai mId mN mSet mAcc mFail mStage mFirst).val (Ty.cn [kC,yI,yI])
def Yq:aA:=⟨[kC], [kC,yI,yI],(@tt gp),CB⟩
theorem XL:Sd 182 Yq:=aL ax cm true 52 [] (fun A (mId,mN,mSet,mAcc,mFail,mStage,mFirst)=>t28 A mId mN mSet mAcc mFail mStage mFirst) (fc Tryz.func182 fz) (sc RO (sc K3 sz)) (fun((mId,mN,mSet,mAcc,mFail,mStage,mFirst):gp) hp h=>by
 show(t28 ai mId mN mSet mAcc mFail mStage mFirst).pre=true
 simp only[t28,LT.pre,fG,aS,aQ,ar,aF,aG,aN,aU,cu,ft,ap,bH,bl,bu,c_,dc,Bool.and_eq_true,Bool.or_eq_true,Bool.and_eq_false_iff,Bool.or_eq_false_iff,Bool.not_eq_true',Bool.not_eq_false',decide_eq_true_eq,decide_eq_false_iff_not,bne_iff_ne,beq_iff_eq,bne_eq_false_iff_eq,beq_eq_false_iff_ne]
 simp only[Ty.du,Ty.has,oX,CG] at h
 (repeat' (first|intro _|constructor))<;>(try omega))
theorem yT{x:Int×Int×Int×Int×Int×Int×Int}(h:Ty.du [(.struct [(.int .i64),(.int .i64),(.int .i64),(.int .i64),(.int .i64),(.int .i64),(.int .i64)])] x):kW x=s_ x:=by
 obtain⟨a,b,c,d,e,f,g⟩:=x
 simp only[kW,s_,t23,t26,LT.val,ap,SU,Ll,t75]
 rcases nI (x:=(a,b,c,d,e,f,g)) with h|h<;>simp[h,aQ]
 have hm:=pX.1 h
 unfold J0 at hm
 rw[yw (by omega) (by omega)]
theorem Cu{x:Int×Int×Int×Int×Int×Int×Int}(h:Ty.du [(.struct [(.int .i64),(.int .i64),(.int .i64),(.int .i64),(.int .i64),(.int .i64),(.int .i64)])] x):nP x=CB x:=by
 have h0:=yT h
 obtain⟨a,b,c,d,e,f,g⟩:=x
 simp only[nP,CB,t27,t28,LT.val,ap,SU]
 rcases nI (x:=(a,b,c,d,e,f,g)) with h|h<;>simp[h,aQ,aS,h0]
 simp[s_,t26,LT.val,ap,h,aQ]
def M0(A:aZ)(n:Node):LT (gp×Int) Empty:=.br (A.c .eql n.2.1 2) (.br (A.c .lss n.2.2.2.1.2.2.2.1 2) (.ret (n.2.2.2.1,4)) (.br (A.c .leq n.2.2.2.1.2.2.2.1 n.2.2.2.1.2.2.2.2.1) (.ret (n.2.2.2.1,4)) (.br (A.c .eql n.2.1 3) (.need (A.k (@tt gp) n.2.2.2.1) (.br (A.c .neq (A.k nP n.2.2.2.1).2.2 0) (.ret (n.2.2.2.1,4)) (.ret ((A.k nP n.2.2.2.1).1,(A.k nP n.2.2.2.1).2.1)))) (.need (A.k (@tt gp) n.2.2.2.1) (.br (A.c .neq (A.k kW n.2.2.2.1).2.2 0) (.ret (n.2.2.2.1,4)) (.ret ((A.k kW n.2.2.2.1).1,(A.k kW n.2.2.2.1).2.1))))))) (.br (A.c .eql n.2.1 3) (.need (A.k (@tt gp) n.2.2.2.1) (.br (A.c .neq (A.k nP n.2.2.2.1).2.2 0) (.ret (n.2.2.2.1,4)) (.ret ((A.k nP n.2.2.2.1).1,(A.k nP n.2.2.2.1).2.1)))) (.need (A.k (@tt gp) n.2.2.2.1) (.br (A.c .neq (A.k kW n.2.2.2.1).2.2 0) (.ret (n.2.2.2.1,4)) (.ret ((A.k kW n.2.2.2.1).1,(A.k kW n.2.2.2.1).2.1)))))
def kl(n:Node):gp×Int:=bif decide (n.2.1=2)&&(decide (n.2.2.2.1.2.2.2.1<2)||decide (n.2.2.2.1.2.2.2.1≤n.2.2.2.1.2.2.2.2.1)) then(n.2.2.2.1,4) else bif decide (n.2.1=3) then((nP n.2.2.2.1).1,(nP n.2.2.2.1).2.1) else((kW n.2.2.2.1).1,(kW n.2.2.2.1).2.1)
theorem HY{v:gp}(h:kV v=0):(kW v).2.2=0:=by
 obtain⟨a,b,c,d,e,f,g⟩:=v
 simp only[kW,t23,LT.val,ap,SU,h]
 cases ai.c .leq d e<;>rfl
theorem TX{n:Node}(h:kV n.2.2.2.1=0):aB Empty.elim (M0 ai n) (kl n):=by
 unfold M0 kl
 have h23:=HY h
 have h27:(nP n.2.2.2.1).2.2=0:=by
  generalize n.2.2.2.1=v at *
  obtain⟨a,b,c,d,e,f,g⟩:=v
  simp only[nP,t27,LT.val,ap,SU,h]
  simp only[Bool.cond_eq_ite]
  repeat' split
  all_goals first|rfl|exact h23
 have e23:ai.c .neq (ai.k kW n.2.2.2.1).2.2 0=false:=lk h23
 have e27:ai.c .neq (ai.k nP n.2.2.2.1).2.2 0=false:=lk h27
 refine au (p:=n.2.1=2) aO (fun g=>au (p:=n.2.2.2.1.2.2.2.1<2) rfl (fun g1=>al ?_ (.ret _)) fun g1=>au (p:=n.2.2.2.1.2.2.2.1≤n.2.2.2.1.2.2.2.2.1) rfl (fun g2=>al ?_ (.ret _)) fun g2=>(ah (by rw[aO];exact decide_eq_false (by omega))).2 (af.2 ⟨rfl,(ah e23).2 (al ?_ (.ret _))⟩)) fun g=>au (p:=n.2.1=3) aO (fun g3=>af.2 ⟨rfl,(ah e27).2 (al ?_ (.ret _))⟩) fun g3=>af.2 ⟨rfl,(ah e23).2 (al ?_ (.ret _))⟩
 ·rw[decide_eq_true g,decide_eq_true g1];rfl
 ·rw[decide_eq_true g,decide_eq_true g2,Bool.or_true];rfl
 ·rw[decide_eq_true g,decide_eq_false g1,decide_eq_false g2,decide_eq_false (show ¬n.2.1=3 by omega)];rfl
 ·rw[decide_eq_false g,decide_eq_true g3];rfl
 ·rw[decide_eq_false g,decide_eq_false g3];rfl
def sw:Node→(gp×Int):=kl
def ER:Node→Bool:=fun n=>decide (kV n.2.2.2.1=0)
def Vf:aA:=⟨[cN], [kC,yI],ER,sw⟩
theorem UK:Sd 110 Vf:=aD ax cm true 83 [] (fun A n=>M0 A n) (fc Tryz.func110 fz) (sc N8 (sc Xm sz)) fun(n:Node) hp h=>TX (of_decide_eq_true hp)
def Mm(A:aZ)(n:Node):LT (gp×Int) Empty:=.need (A.k (@tt gp) n.2.2.2.1) (.br (A.c .eql n.2.1 3) (.need (A.k (@tt gp) n.2.2.2.1) (.ret ((A.k CB n.2.2.2.1).1,(A.k CB n.2.2.2.1).2.1))) (.br (A.c .eql n.2.1 2) (.br (A.c .lss n.2.2.2.1.2.2.2.1 2) (.ret (n.2.2.2.1,4)) (.br (A.c .leq n.2.2.2.1.2.2.2.1 n.2.2.2.1.2.2.2.2.1) (.ret (n.2.2.2.1,4)) (.ret ((A.k s_ n.2.2.2.1).1,(A.k s_ n.2.2.2.1).2.1)))) (.ret ((A.k s_ n.2.2.2.1).1,(A.k s_ n.2.2.2.1).2.1))))
theorem Ri{n:Node}(h:Ty.du [cN] n):aB Empty.elim (Mm ai n) (kl n):=by
 have hv:Ty.du [kC] n.2.2.2.1:=h.2.2.2.1
 have e23:ai.k s_ n.2.2.2.1=kW n.2.2.2.1:=(yT hv).symm
 have e27:ai.k CB n.2.2.2.1=nP n.2.2.2.1:=(Cu hv).symm
 unfold Mm kl
 rw[e23,e27]
 refine af.2 ⟨rfl,au (p:=n.2.1=3) aO (fun g=>af.2 ⟨rfl,al ?_ (.ret _)⟩) fun g=>au (p:=n.2.1=2) aO (fun g0=>au (p:=n.2.2.2.1.2.2.2.1<2) rfl (fun g1=>al ?_ (.ret _)) fun g1=>au (p:=n.2.2.2.1.2.2.2.1≤n.2.2.2.1.2.2.2.2.1) rfl (fun g2=>al ?_ (.ret _)) fun g2=>al ?_ (.ret _)) fun g0=>al ?_ (.ret _)⟩
 ·rw[decide_eq_true g,decide_eq_false (show ¬n.2.1=2 by omega)];rfl
 ·rw[decide_eq_true g0,decide_eq_true g1];rfl
 ·rw[decide_eq_true g0,decide_eq_true g2,Bool.or_true];rfl
 ·rw[decide_eq_true g0,decide_eq_false g1,decide_eq_false g2,decide_eq_false g];rfl
 ·rw[decide_eq_false g0,decide_eq_false g];rfl
def iL:Node→(gp×Int):=kl
def Pz:aA:=⟨[cN], [kC,yI],(@tt Node),iL⟩
theorem Vo:Sd 113 Pz:=aD ax cm true 71 [] (fun A n=>Mm A n) (fc Tryz.func113 fz) (sc RO (sc XL sz)) fun n hp h=>Ri h
open Go.Ev.Pl
def KQ(m:ao)(k n:Int):Int:=ai.n yI (ai.n aP m.2.2.2.2.2.2.2 k:Mode).1 n
def wm(m:ao)(n:Node):Int:=KQ m n.2.2.1.2.2.1 n.1
def L8(m:ao)(n:Node):Int:=bif decide ((kL m n.2.2.1 n.2.2.2.2.2.2.2.2.2.2.2).2=0) then(kL m n.2.2.1 n.2.2.2.2.2.2.2.2.2.2.2).1 else 0
def re(m:ao)(n:Node):ia:=((dn m n.2.2.1.2.2.1 n.1).1,L8 m n,n.2.2.1,0,bif decide ((dn m n.2.2.1.2.2.1 n.1).1=3) then([]:List Int) else(mX n.2.2.2.2.2.2.2 (wm m n)).1)
def wH(m:ao)(n:Node):Bool:=decide ((dn m n.2.2.1.2.2.1 n.1).2=0)&&dO n.2.2.2.2.2.2.2
theorem Ht{m:ao}{n:Int}(hm:dL m=true)(h1:0≤n∧n≤m.1-1)(x:Mode)(hx:gl m x=true):0≤x.1.getD n.toNat 0∧x.1.getD n.toNat 0≤8:=by
 have hl:=gM hx
 have hc:=(eT hm).2.2.1
 simp only[gl,Bool.and_eq_true] at hx
 have ha:=hx.2
 have l1:m.2.2.2.2.2.2.1.length=x.1.length:=by omega
 have l2:x.2.1.length=x.1.length:=by omega
 rw[nz l1 l2,Bool.and_eq_true] at ha
 have hi:n.toNat<x.1.length:=by omega
 rw[List.getD_eq_getElem?_getD,List.getElem?_eq_getElem hi]
 have:=List.all_eq_true.1 ha.1 _ (List.getElem_mem hi)
 simpa using this
theorem MW{m:ao}{k n:Int}(hm:dL m=true)(h1:0≤n∧n≤m.1-1)(h2:0≤k∧k<dh m):0≤KQ m k n∧KQ m k n≤8:=Ht hm h1 _ (kF hm h2.1 h2.2)
theorem Fj{c:bR}{k:Int}(h:dO c=true)(h1:0≤k∧k≤8):(mX c k).2=0:=by
 rw[mX,h,cond_true,decide_eq_true h1];rfl
def Ke(A:aZ)(m:ao)(n:Node):LT (ia×Int) Empty:=.need (A.k (@tt (ao×Int×Int)) (m,n.2.2.1.2.2.1,n.1)) (.br (A.c .neq (A.k gE (m,n.2.2.1.2.2.1,n.1)).2 0) (.ret ((0,0,(0,0,0,0,0),0,([]:List Int)),(A.k gE (m,n.2.2.1.2.2.1,n.1)).2)) (.need (A.k (@tt (ao×cf×Int)) (m,n.2.2.1,n.2.2.2.2.2.2.2.2.2.2.2)) (.br (A.c .eql (A.k yQ (m,n.2.2.1,n.2.2.2.2.2.2.2.2.2.2.2)).2 0) (.br (A.c .eql (A.k gE (m,n.2.2.1.2.2.1,n.1)).1 3) (.ret (((A.k gE (m,n.2.2.1.2.2.1,n.1)).1,(A.k yQ (m,n.2.2.1,n.2.2.2.2.2.2.2.2.2.2.2)).1,n.2.2.1,0,([]:List Int)),0)) (.need (A.and (A.c .leq 0 n.2.2.1.2.2.1) (A.c .lss n.2.2.1.2.2.1 (A.l m.2.2.2.2.2.2.2))) (.need (A.and (A.c .leq 0 n.1) (A.c .lss n.1 (A.l (A.n aP m.2.2.2.2.2.2.2 n.2.2.1.2.2.1:Mode).1))) (.need (A.k (@tt (bR×Int)) (n.2.2.2.2.2.2.2,(A.n yI (A.n aP m.2.2.2.2.2.2.2 n.2.2.1.2.2.1:Mode).1 n.1:Int))) (.ret (((A.k gE (m,n.2.2.1.2.2.1,n.1)).1,(A.k yQ (m,n.2.2.1,n.2.2.2.2.2.2.2.2.2.2.2)).1,n.2.2.1,0,(A.k vW (n.2.2.2.2.2.2.2,(A.n yI (A.n aP m.2.2.2.2.2.2.2 n.2.2.1.2.2.1:Mode).1 n.1:Int))).1),(A.k vW (n.2.2.2.2.2.2.2,(A.n yI (A.n aP m.2.2.2.2.2.2.2 n.2.2.1.2.2.1:Mode).1 n.1:Int))).2)))))) (.br (A.c .eql (A.k gE (m,n.2.2.1.2.2.1,n.1)).1 3) (.ret (((A.k gE (m,n.2.2.1.2.2.1,n.1)).1,0,n.2.2.1,0,([]:List Int)),0)) (.need (A.and (A.c .leq 0 n.2.2.1.2.2.1) (A.c .lss n.2.2.1.2.2.1 (A.l m.2.2.2.2.2.2.2))) (.need (A.and (A.c .leq 0 n.1) (A.c .lss n.1 (A.l (A.n aP m.2.2.2.2.2.2.2 n.2.2.1.2.2.1:Mode).1))) (.need (A.k (@tt (bR×Int)) (n.2.2.2.2.2.2.2,(A.n yI (A.n aP m.2.2.2.2.2.2.2 n.2.2.1.2.2.1:Mode).1 n.1:Int))) (.ret (((A.k gE (m,n.2.2.1.2.2.1,n.1)).1,0,n.2.2.1,0,(A.k vW (n.2.2.2.2.2.2.2,(A.n yI (A.n aP m.2.2.2.2.2.2.2 n.2.2.1.2.2.1:Mode).1 n.1:Int))).1),(A.k vW (n.2.2.2.2.2.2.2,(A.n yI (A.n aP m.2.2.2.2.2.2.2 n.2.2.1.2.2.1:Mode).1 n.1:Int))).2)))))))))
theorem Vj{m:ao}{n:Node}(h:wH m n=true):aB Empty.elim (Ke ai m n) (re m n,0):=by
 rw[wH,Bool.and_eq_true,decide_eq_true_eq] at h
 obtain⟨hm,h1,h2⟩:=mC h.1
 have hx:=gM (kF hm h2.1 h2.2)
 have hz:=Fj h.2 (MW hm h1 h2)
 unfold Ke re L8
 rw[show ai.k gE (m,n.2.2.1.2.2.1,n.1)=dn m n.2.2.1.2.2.1 n.1 from rfl,show ai.k yQ (m,n.2.2.1,n.2.2.2.2.2.2.2.2.2.2.2)=kL m n.2.2.1 n.2.2.2.2.2.2.2.2.2.2.2 from rfl,show ai.k vW (n.2.2.2.2.2.2.2,(ai.n yI (ai.n aP m.2.2.2.2.2.2.2 n.2.2.1.2.2.1:Mode).1 n.1:Int))=mX n.2.2.2.2.2.2.2 (wm m n) from rfl]
 have tl:∀q:Int,aB (R:=ia×Int) Empty.elim (.br (ai.c .eql (dn m n.2.2.1.2.2.1 n.1).1 3) (.ret (((dn m n.2.2.1.2.2.1 n.1).1,q,n.2.2.1,0,([]:List Int)),0)) (.need (ai.and (ai.c .leq 0 n.2.2.1.2.2.1) (ai.c .lss n.2.2.1.2.2.1 (ai.l m.2.2.2.2.2.2.2))) (.need (ai.and (ai.c .leq 0 n.1) (ai.c .lss n.1 (ai.l (ai.n aP m.2.2.2.2.2.2.2 n.2.2.1.2.2.1:Mode).1))) (.need true (.ret (((dn m n.2.2.1.2.2.1 n.1).1,q,n.2.2.1,0,(mX n.2.2.2.2.2.2.2 (wm m n)).1),(mX n.2.2.2.2.2.2.2 (wm m n)).2)))))) (((dn m n.2.2.1.2.2.1 n.1).1,q,n.2.2.1,0,bif decide ((dn m n.2.2.1.2.2.1 n.1).1=3) then([]:List Int) else(mX n.2.2.2.2.2.2.2 (wm m n)).1),0):=fun q=>
  au (p:=(dn m n.2.2.1.2.2.1 n.1).1=3) aO (fun g=>al (by rw[decide_eq_true g];rfl) (.ret _)) fun g=>af.2 ⟨jB h2.1 h2.2,af.2 ⟨ib hx.1 h1.1 (by omega),af.2 ⟨rfl,al (by rw[decide_eq_false g,show(mX n.2.2.2.2.2.2.2 (wm m n)).2=0 from hz];rfl) (.ret _)⟩⟩⟩
 refine af.2 ⟨rfl,(ah (lk h.1)).2 (af.2 ⟨rfl,au (p:=(kL m n.2.2.1 n.2.2.2.2.2.2.2.2.2.2.2).2=0) aO (fun g=>?_) fun g=>?_⟩)⟩
 ·rw[decide_eq_true g];exact tl _
 ·rw[decide_eq_false g];exact tl _
def nh:(ao×Node)→(ia×Int):=fun(m,n)=>(re m n,0)
def Ek:(ao×Node)→Bool:=fun(m,n)=>wH m n
def PO:aA:=⟨[bC,cN], [r8,yI],Ek,nh⟩
theorem SD:Sd 112 PO:=aD ax cm true 111 [] (fun A (m,n)=>Ke A m n) (fc Tryz.func112 fz) (sc JG (sc Tj (sc RX sz))) fun((m,n):ao×Node) hp h=>Vj hp
def LZ(A:aZ)(m:ao)(n:Node):LT ia Empty:=.need (A.k (@tt (ao×Int×Int)) (m,n.2.2.1.2.2.1,n.1)) (.need (A.k (@tt (ao×cf×Int)) (m,n.2.2.1,n.2.2.2.2.2.2.2.2.2.2.2)) (.br (A.c .neq (A.k yy (m,n.2.2.1,n.2.2.2.2.2.2.2.2.2.2.2)).2 0) (.br (A.c .neq (A.k qD (m,n.2.2.1.2.2.1,n.1)).1 3) (.need (A.and (A.c .leq 0 n.2.2.1.2.2.1) (A.c .lss n.2.2.1.2.2.1 (A.l m.2.2.2.2.2.2.2))) (.need (A.and (A.c .leq 0 n.1) (A.c .lss n.1 (A.l (A.n aP m.2.2.2.2.2.2.2 n.2.2.1.2.2.1:Mode).1))) (.need (A.k (@tt (bR×Int)) (n.2.2.2.2.2.2.2,(A.n yI (A.n aP m.2.2.2.2.2.2.2 n.2.2.1.2.2.1:Mode).1 n.1:Int))) (.ret ((A.k qD (m,n.2.2.1.2.2.1,n.1)).1,0,n.2.2.1,0,(A.k As (n.2.2.2.2.2.2.2,(A.n yI (A.n aP m.2.2.2.2.2.2.2 n.2.2.1.2.2.1:Mode).1 n.1:Int))).1))))) (.ret ((A.k qD (m,n.2.2.1.2.2.1,n.1)).1,0,n.2.2.1,0,([]:List Int)))) (.br (A.c .neq (A.k qD (m,n.2.2.1.2.2.1,n.1)).1 3) (.need (A.and (A.c .leq 0 n.2.2.1.2.2.1) (A.c .lss n.2.2.1.2.2.1 (A.l m.2.2.2.2.2.2.2))) (.need (A.and (A.c .leq 0 n.1) (A.c .lss n.1 (A.l (A.n aP m.2.2.2.2.2.2.2 n.2.2.1.2.2.1:Mode).1))) (.need (A.k (@tt (bR×Int)) (n.2.2.2.2.2.2.2,(A.n yI (A.n aP m.2.2.2.2.2.2.2 n.2.2.1.2.2.1:Mode).1 n.1:Int))) (.ret ((A.k qD (m,n.2.2.1.2.2.1,n.1)).1,(A.k yy (m,n.2.2.1,n.2.2.2.2.2.2.2.2.2.2.2)).1,n.2.2.1,0,(A.k As (n.2.2.2.2.2.2.2,(A.n yI (A.n aP m.2.2.2.2.2.2.2 n.2.2.1.2.2.1:Mode).1 n.1:Int))).1))))) (.ret ((A.k qD (m,n.2.2.1.2.2.1,n.1)).1,(A.k yy (m,n.2.2.1,n.2.2.2.2.2.2.2.2.2.2.2)).1,n.2.2.1,0,([]:List Int))))))
theorem U2{m:ao}{n:Node}(h:wH m n=true):aB Empty.elim (LZ ai m n) (re m n):=by
 rw[wH,Bool.and_eq_true,decide_eq_true_eq] at h
 obtain⟨hm,h1,h2⟩:=mC h.1
 have hx:=gM (kF hm h2.1 h2.2)
 unfold LZ re L8
 rw[show ai.k qD (m,n.2.2.1.2.2.1,n.1)=dn m n.2.2.1.2.2.1 n.1 from rfl,show ai.k yy (m,n.2.2.1,n.2.2.2.2.2.2.2.2.2.2.2)=kL m n.2.2.1 n.2.2.2.2.2.2.2.2.2.2.2 from rfl,show ai.k As (n.2.2.2.2.2.2.2,(ai.n yI (ai.n aP m.2.2.2.2.2.2.2 n.2.2.1.2.2.1:Mode).1 n.1:Int))=mX n.2.2.2.2.2.2.2 (wm m n) from rfl]
 have tl:∀q:Int,aB (R:=ia) Empty.elim (.br (ai.c .neq (dn m n.2.2.1.2.2.1 n.1).1 3) (.need (ai.and (ai.c .leq 0 n.2.2.1.2.2.1) (ai.c .lss n.2.2.1.2.2.1 (ai.l m.2.2.2.2.2.2.2))) (.need (ai.and (ai.c .leq 0 n.1) (ai.c .lss n.1 (ai.l (ai.n aP m.2.2.2.2.2.2.2 n.2.2.1.2.2.1:Mode).1))) (.need true (.ret ((dn m n.2.2.1.2.2.1 n.1).1,q,n.2.2.1,0,(mX n.2.2.2.2.2.2.2 (wm m n)).1))))) (.ret ((dn m n.2.2.1.2.2.1 n.1).1,q,n.2.2.1,0,([]:List Int)))) ((dn m n.2.2.1.2.2.1 n.1).1,q,n.2.2.1,0,bif decide ((dn m n.2.2.1.2.2.1 n.1).1=3) then([]:List Int) else(mX n.2.2.2.2.2.2.2 (wm m n)).1):=fun q=>
  au (p:=¬(dn m n.2.2.1.2.2.1 n.1).1=3) aY (fun g=>af.2 ⟨jB h2.1 h2.2,af.2 ⟨ib hx.1 h1.1 (by omega),af.2 ⟨rfl,al (by rw[decide_eq_false g];rfl) (.ret _)⟩⟩⟩) fun g=>al (by rw[decide_eq_true (Decidable.not_not.1 g)];rfl) (.ret _)
 refine af.2 ⟨rfl,af.2 ⟨rfl,au (p:=¬(kL m n.2.2.1 n.2.2.2.2.2.2.2.2.2.2.2).2=0) aY (fun g=>?_) fun g=>?_⟩⟩
 ·rw[decide_eq_false g];exact tl _
 ·rw[decide_eq_true (Decidable.not_not.1 g)];exact tl _
def Bi:(ao×Node)→ia:=fun(m,n)=>re m n
def C_:(ao×Node)→Bool:=fun(m,n)=>wH m n
def VK:aA:=⟨[bC,cN], [r8],C_,Bi⟩
theorem Sy:Sd 116 VK:=aD ax cm true 96 [] (fun A (m,n)=>LZ A m n) (fc Tryz.func116 fz) (sc O_ (sc Rx (sc Si sz))) fun((m,n):ao×Node) hp h=>U2 hp
def IE(A:aZ)(n:Node)(state:Int)(status:Int)(timer:Int):LT Node Empty:=.ret (n.1,state,(0,0,0,0,0),(0,0,0,0,0,0,0),timer,n.2.2.2.2.2.1,status,n.2.2.2.2.2.2.2)
def Bv:(Node×Int×Int×Int)→Node:=fun(n,state,status,timer)=>(IE ai n state status timer).val (Ty.cn [cN])
def Vt:aA:=⟨[cN,yI,yI,yI], [cN],(@tt (Node×Int×Int×Int)),Bv⟩
theorem Vn:Sd 114 Vt:=aL ax cm true 46 [] (fun A (n,state,status,timer)=>IE A n state status timer) (fc Tryz.func114 fz) sz (fun((n,state,status,timer):Node×Int×Int×Int) hp h=>by
 show(IE ai n state status timer).pre=true
 simp[IE,LT.pre,ap,dc])
open Go.Ev.Pl
def Vs(n:Node)(v:gp):Node:=(n.1,4,(n.2.2.1.1,n.2.2.1.2.1,n.2.2.1.2.2.1,n.2.2.1.2.2.2.1,v.2.2.1),v,n.2.2.2.2.1,false,n.2.2.2.2.2.2)
def K2(n:Node)(s t:Int)(b:Bool)(st:Int):Node:=(n.1,s,(0,0,0,0,0),(0,0,0,0,0,0,0),t,b,st,n.2.2.2.2.2.2.2)
def Lc(m:ao)(n:Node):Node×ia×Bool×Int:=((n.1,n.2.1,jY m n.2.2.1 (re m n).2.1,n.2.2.2),re m n,true,0)
def AZ(m:ao)(n:Node):Node×ia×Bool×Int:=bif decide ((kl n).2=2) then(K2 n 5 0 false 1,tL,false,0) else bif decide ((kl n).2=3) then(K2 n 1 (l5 m n.1).1 n.2.2.2.2.2.1 2,tL,false,0) else bif decide ((kl n).2=4) then(K2 n 1 (u6 m n.1).1 n.2.2.2.2.2.1 n.2.2.2.2.2.2.1,tL,false,0) else Lc m (Vs n (kl n).1)
def NS(m:ao)(n:Node):Node×ia×Bool×Int:=bif decide (dS m n=0) then(bif oQ n&&decide (n.2.2.1.2.1=n.1) then AZ m n else(im,tL,false,181)) else(im,tL,false,dS m n)
theorem Bg{m:ao}{n:Node}(h:dS m n=0)(h1:oQ n=true):eD m n.2.2.1=true∧kV n.2.2.2.1=0∧n.2.2.2.1.1=n.1∧n.2.2.2.1.2.1=m.1∧n.2.2.1.2.2.2.2=n.2.2.2.1.2.2.1:=by
 have hc:=(gZ.1 (fB h).2).2.2.2.2.2.2.2.1
 rw[oM,h1,cond_true] at hc
 simpa only[Bool.and_eq_true,decide_eq_true_eq] using hc
theorem Iw{m:ao}{k n:Int}(hm:dL m=true)(h1:0≤n∧n≤m.1-1)(h2:0≤k∧k<dh m):(dn m k n).2=0:=by
 rw[dn,fw,hm,cond_true,decide_eq_true h1,decide_eq_true (show 0≤k∧k≤dh m-1 by omega)];rfl
theorem Ix{m:ao}{c:cf}(h:eD m c=true):iB (c,m.1)=0∧(0≤c.2.2.1∧c.2.2.1<dh m)∧c.2.2.2.1≤dh m:=by
 simp only[eD,Bool.and_eq_true,decide_eq_true_eq] at h
 exact⟨h.1,⟨(rU h.1).2.2.2.1.1,h.2.1⟩,h.2.2⟩
theorem DW{m:ao}{n:Node}{v:gp}(h:dS m n=0)(h1:oQ n=true):wH m (Vs n v)=true:=by
 have hz:=gZ.1 (fB h).2
 rw[wH,Bool.and_eq_true]
 exact⟨decide_eq_true (Iw (fB h).1 hz.1 (Ix (Bg h h1).1).2.1),show dO n.2.2.2.2.2.2.2=true from kz h⟩
theorem KC{m:ao}{i:Int}:ai.k oZ (m,i)=(l5 m i).1:=rfl
theorem NH{m:ao}{i:Int}:ai.k F6 (m,i)=(u6 m i).1:=rfl
structure zl where
 (a0:Int) (a1:ao) (a2 a3:gp) (a4:Int) (a5:Bool) (a6 a7 a8 a9:Int) (bW:gp) (dM:Int) (a12:Node)
structure Fx where
 (b0:ao) (b1 b2:gp) (b3:Int) (b4:Bool) (b5 b6 b7 b8:Int) (b9:gp) (b10:Int) (b11:Node)
inductive I9 where
 | c0 (p:zl)
 | c1 (p:Fx)
noncomputable def K4:I9→fJ
 | .c0 p=>⟨[⟨43,91,(en [(2,.ptr 0 0),(4,.ptr 1 0),(5,.ptr 2 0),(8,.ptr 3 0),(9,vi p.a0)]),[.code (cw Tryz.f43 [1,1,0,0]),.code (cw Tryz.f43 [1,1,0,1]),.code (cw Tryz.f43 [1,1,1])],[],none⟩],[.flat false [vi p.a1.1,vi p.a1.2.1,vi p.a1.2.2.1,vi p.a1.2.2.2.1,vi p.a1.2.2.2.2.1,vi p.a1.2.2.2.2.2.1,.sl .bool p.a1.2.2.2.2.2.2.1,.sl aP p.a1.2.2.2.2.2.2.2],.flat false [vi p.a2.1,vi p.a2.2.1,vi p.a2.2.2.1,vi p.a2.2.2.2.1,vi p.a2.2.2.2.2.1,vi p.a2.2.2.2.2.2.1,vi p.a2.2.2.2.2.2.2,vi p.a3.1,vi p.a3.2.1,vi p.a3.2.2.1,vi p.a3.2.2.2.1,vi p.a3.2.2.2.2.1,vi p.a3.2.2.2.2.2.1,vi p.a3.2.2.2.2.2.2,vi p.a4,vb p.a5,vi p.a6,vi p.a7,.bZ true,.bZ true,vi p.a8,vi p.a9],.flat false [vi p.bW.1,vi p.bW.2.1,vi p.bW.2.2.1,vi p.bW.2.2.2.1,vi p.bW.2.2.2.2.1,vi p.bW.2.2.2.2.2.1,vi p.bW.2.2.2.2.2.2,vi p.dM,.bZ true],.flat false [vi p.a12.1,vi p.a12.2.1,vi p.a12.2.2.1.1,vi p.a12.2.2.1.2.1,vi p.a12.2.2.1.2.2.1,vi p.a12.2.2.1.2.2.2.1,vi p.a12.2.2.1.2.2.2.2,vi p.a12.2.2.2.1.1,vi p.a12.2.2.2.1.2.1,vi p.a12.2.2.2.1.2.2.1,vi p.a12.2.2.2.1.2.2.2.1,vi p.a12.2.2.2.1.2.2.2.2.1,vi p.a12.2.2.2.1.2.2.2.2.2.1,vi p.a12.2.2.2.1.2.2.2.2.2.2,vi p.a12.2.2.2.2.1,vb p.a12.2.2.2.2.2.1,vi p.a12.2.2.2.2.2.2.1,vi p.a12.2.2.2.2.2.2.2.1,.sl yU p.a12.2.2.2.2.2.2.2.2.1,.sl aM p.a12.2.2.2.2.2.2.2.2.2.1,vi p.a12.2.2.2.2.2.2.2.2.2.2.1,vi p.a12.2.2.2.2.2.2.2.2.2.2.2],.dead]⟩
 | .c1 p=>⟨[⟨43,91,(en [(2,.ptr 0 0),(4,.ptr 1 0),(5,.ptr 2 0),(8,.ptr 3 0)]),[.code (cw Tryz.f43 [1,1,1,1,1,1,0]),.code (cw Tryz.f43 [1,1,1,1,1,1,1])],[],none⟩],[.flat false [vi p.b0.1,vi p.b0.2.1,vi p.b0.2.2.1,vi p.b0.2.2.2.1,vi p.b0.2.2.2.2.1,vi p.b0.2.2.2.2.2.1,.sl .bool p.b0.2.2.2.2.2.2.1,.sl aP p.b0.2.2.2.2.2.2.2],.flat false [vi p.b1.1,vi p.b1.2.1,vi p.b1.2.2.1,vi p.b1.2.2.2.1,vi p.b1.2.2.2.2.1,vi p.b1.2.2.2.2.2.1,vi p.b1.2.2.2.2.2.2,vi p.b2.1,vi p.b2.2.1,vi p.b2.2.2.1,vi p.b2.2.2.2.1,vi p.b2.2.2.2.2.1,vi p.b2.2.2.2.2.2.1,vi p.b2.2.2.2.2.2.2,vi p.b3,vb p.b4,vi p.b5,vi p.b6,.bZ true,.bZ true,vi p.b7,vi p.b8],.flat false [vi p.b9.1,vi p.b9.2.1,vi p.b9.2.2.1,vi p.b9.2.2.2.1,vi p.b9.2.2.2.2.1,vi p.b9.2.2.2.2.2.1,vi p.b9.2.2.2.2.2.2,vi p.b10,.bZ true],.flat false [vi p.b11.1,vi p.b11.2.1,vi p.b11.2.2.1.1,vi p.b11.2.2.1.2.1,vi p.b11.2.2.1.2.2.1,vi p.b11.2.2.1.2.2.2.1,vi p.b11.2.2.1.2.2.2.2,vi p.b11.2.2.2.1.1,vi p.b11.2.2.2.1.2.1,vi p.b11.2.2.2.1.2.2.1,vi p.b11.2.2.2.1.2.2.2.1,vi p.b11.2.2.2.1.2.2.2.2.1,vi p.b11.2.2.2.1.2.2.2.2.2.1,vi p.b11.2.2.2.1.2.2.2.2.2.2,vi p.b11.2.2.2.2.1,vb p.b11.2.2.2.2.2.1,vi p.b11.2.2.2.2.2.2.1,vi p.b11.2.2.2.2.2.2.2.1,.sl yU p.b11.2.2.2.2.2.2.2.2.1,.sl aM p.b11.2.2.2.2.2.2.2.2.2.1,vi p.b11.2.2.2.2.2.2.2.2.2.2.1,vi p.b11.2.2.2.2.2.2.2.2.2.2.2],.dead]⟩
def J_(A:aZ)(m:ao)(n:Node):LT (Node×ia×Bool×Int) I9:=.need (A.k (@tt Node) n) (.br (A.k dp n) (.need (A.k (@tt (ao×Node×Bool)) (m,n,(A.c .eql n.2.2.1.2.1 n.1))) (.need (A.k (@tt (ao×Node×Bool)) (m,n,(A.c .eql n.2.2.1.2.1 n.1))) (.eqs (((A.k dp n):Bool)=true) (.need (A.k (@tt Node) n) (.more (.c0 ⟨(A.k aR (m,n,(A.c .eql n.2.2.1.2.1 n.1))).2,m,(0,0,0,0,0,0,0),(0,0,0,0,0,0,0),0,false,0,0,0,0,(0,0,0,0,0,0,0),0,(A.k aR (m,n,(A.c .eql n.2.2.1.2.1 n.1))).1⟩)))))) (.need (A.k (@tt (ao×Node×Bool)) (m,n,false)) (.need (A.k (@tt (ao×Node×Bool)) (m,n,false)) (.eqs (((A.k dp n):Bool)=false) (.need (A.k (@tt Node) n) (.more (.c0 ⟨(A.k aR (m,n,false)).2,m,(0,0,0,0,0,0,0),(0,0,0,0,0,0,0),0,false,0,0,0,0,(0,0,0,0,0,0,0),0,(A.k aR (m,n,false)).1⟩)))))))
def yJ(A:aZ):I9→LT (Node×ia×Bool×Int) I9
 | .c0 p=>.br (A.c .neq p.a0 0) (.ret ((0,0,(0,0,0,0,0),(0,0,0,0,0,0,0),0,false,0,0,([]:List Int),([]:List aW),0,0),(0,0,(0,0,0,0,0),0,([]:List Int)),false,p.a0)) (.need (A.k ER p.a12) (.br (A.c .eql (A.k sw p.a12).2 2) (.ret ((p.a12.1,5,(0,0,0,0,0),(0,0,0,0,0,0,0),0,false,1,p.a12.2.2.2.2.2.2.2),(0,0,(0,0,0,0,0),0,([]:List Int)),false,0)) (.br (A.c .eql (A.k sw p.a12).2 3) (.need (A.k (@tt (ao×Int)) (p.a1,p.a12.1)) (.ret ((p.a12.1,1,(0,0,0,0,0),(0,0,0,0,0,0,0),(A.k oZ (p.a1,p.a12.1)),p.a12.2.2.2.2.2.1,2,p.a12.2.2.2.2.2.2.2),(0,0,(0,0,0,0,0),0,([]:List Int)),false,0))) (.br (A.c .eql (A.k sw p.a12).2 4) (.need (A.k (@tt (ao×Int)) (p.a1,p.a12.1)) (.ret ((p.a12.1,1,(0,0,0,0,0),(0,0,0,0,0,0,0),(A.k F6 (p.a1,p.a12.1)),p.a12.2.2.2.2.2),(0,0,(0,0,0,0,0),0,([]:List Int)),false,0))) (.more (.c1 ⟨p.a1,p.a2,p.a3,p.a4,p.a5,p.a6,p.a7,p.a8,p.a9,p.bW,p.dM,(p.a12.1,4,(p.a12.2.2.1.1,p.a12.2.2.1.2.1,p.a12.2.2.1.2.2.1,p.a12.2.2.1.2.2.2.1,(A.k sw p.a12).1.2.2.1),(A.k sw p.a12).1,p.a12.2.2.2.2.1,false,p.a12.2.2.2.2.2.2)⟩))))))
 | .c1 p=>.need (A.k Ek (p.b0,p.b11)) (.br (A.c .neq (A.k nh (p.b0,p.b11)).2 0) (.ret ((0,0,(0,0,0,0,0),(0,0,0,0,0,0,0),0,false,0,0,([]:List Int),([]:List aW),0,0),(0,0,(0,0,0,0,0),0,([]:List Int)),false,(A.k nh (p.b0,p.b11)).2)) (.need (A.k (@tt (ao×cf×Int)) (p.b0,p.b11.2.2.1,(A.k nh (p.b0,p.b11)).1.2.1)) (.need (A.k (@tt (ao×cf×Int)) (p.b0,p.b11.2.2.1,(A.k nh (p.b0,p.b11)).1.2.1)) (.br (A.c .eql (A.k q9 (p.b0,p.b11.2.2.1,(A.k nh (p.b0,p.b11)).1.2.1)).2 0) (.ret ((p.b11.1,p.b11.2.1,(A.k q9 (p.b0,p.b11.2.2.1,(A.k nh (p.b0,p.b11)).1.2.1)).1,p.b11.2.2.2),(A.k nh (p.b0,p.b11)).1,true,0)) (.ret (p.b11,(A.k nh (p.b0,p.b11)).1,true,0))))))
theorem MY{p:Fx}(h:wH p.b0 p.b11=true):aB (yJ ai) (.more (.c1 p)) (Lc p.b0 p.b11):=by
 rw[ak,yJ,Lc]
 rw[show ai.k nh (p.b0,p.b11)=(re p.b0 p.b11,0) from rfl,show ai.k q9 (p.b0,p.b11.2.2.1,(re p.b0 p.b11,(0:Int)).1.2.1)=pn p.b0 p.b11.2.2.1 (re p.b0 p.b11).2.1 from rfl]
 refine af.2 ⟨h,(ah rfl).2 (af.2 ⟨rfl,af.2 ⟨rfl,au (p:=(pn p.b0 p.b11.2.2.1 (re p.b0 p.b11).2.1).2=0) aO (fun g=>al ?_ (.ret _)) fun g=>al ?_ (.ret _)⟩⟩)⟩
 ·rw[jY,decide_eq_true g];rfl
 ·rw[jY,decide_eq_false g];rfl
theorem Kx{p:zl}{m:ao}{n:Node}(h0:p.a0=0)(h1:p.a1=m)(h12:p.a12=n)(h:dS m n=0)(hi:oQ n=true):aB (yJ ai) (.more (.c0 p)) (AZ m n):=by
 subst h1 h12
 rw[ak,yJ,AZ,h0,KC,NH,show ai.k sw p.a12=kl p.a12 from rfl]
 refine(ah rfl).2 (af.2 ⟨decide_eq_true (Bg h hi).2.1,au (p:=(kl p.a12).2=2) aO (fun g=>al ?_ (.ret _)) fun g=>au (p:=(kl p.a12).2=3) aO (fun g3=>af.2 ⟨rfl,al ?_ (.ret _)⟩) fun g3=>au (p:=(kl p.a12).2=4) aO (fun g4=>af.2 ⟨rfl,al ?_ (.ret _)⟩) fun g4=>?_⟩)
 ·rw[decide_eq_true g];rfl
 ·rw[decide_eq_false g,decide_eq_true g3];rfl
 ·rw[decide_eq_false g,decide_eq_false g3,decide_eq_true g4];rfl
 ·rw[decide_eq_false g,decide_eq_false g3,decide_eq_false g4]
  exact MY (DW h hi)
theorem XW{m:ao}{n:Node}:aB (yJ ai) (J_ ai m n) (NS m n):=by
 unfold J_ NS
 rw[show ai.k dp n=oQ n from rfl]
 refine af.2 ⟨rfl,?_⟩
 have no:∀q:zl,q.a0=(jo m n false).2→aB (yJ ai) (.more (.c0 q)) (bif decide (dS m n=0) then(im,tL,false,181) else(im,tL,false,dS m n)):=fun q hq=>by
  rw[ak,yJ,hq,jo]
  by_cases h:dS m n=0
  ·rw[decide_eq_true h];exact(aj rfl).2 (.ret _)
  ·rw[decide_eq_false h];exact(aj (jS h)).2 (.ret _)
 cases hi:oQ n
 ·exact(ah rfl).2 (af.2 ⟨rfl,af.2 ⟨rfl,eZ.2 ⟨rfl,af.2 ⟨rfl,no _ rfl⟩⟩⟩⟩)
 ·refine(aj rfl).2 (af.2 ⟨rfl,af.2 ⟨rfl,eZ.2 ⟨rfl,af.2 ⟨rfl,?_⟩⟩⟩⟩)
  rw[show ∀w,ai.k aR (m,n,w)=jo m n w from fun _=>rfl,aO,Bool.true_and]
  by_cases hp:n.2.2.1.2.1=n.1
  ·rw[decide_eq_true hp,cond_true]
   by_cases h:dS m n=0
   ·have e:jo m n true=(n,0):=by rw[jo,decide_eq_true h];rfl
    rw[decide_eq_true h,e]
    exact Kx rfl rfl rfl h hi
   ·have:=no ⟨(jo m n true).2,m,(0,0,0,0,0,0,0),(0,0,0,0,0,0,0),0,false,0,0,0,0,(0,0,0,0,0,0,0),0,(jo m n true).1⟩ (by rw[jo,jo,decide_eq_false h];rfl)
    rw[decide_eq_false h] at this ⊢
    exact this
  ·rw[decide_eq_false hp];exact no _ rfl
def o8:(ao×Node)→(Node×ia×Bool×Int):=fun(m,n)=>NS m n
def PH:aA:=⟨[bC,cN], [cN,r8,.bool,yI],(@tt (ao×Node)),o8⟩
theorem Sx:Sd 43 PH:=aH ax cm true 39 [] [⟨43,2, [[2,4,5,8,9]]⟩,⟨43,18, [[2,4,5,8]]⟩] (fun A (m,n)=>J_ A m n) yJ K4 (fc Tryz.func43 (fc Tryz.func77 (fc Tryz.func102 fz))) (sc Dk (sc yA (sc xY (sc UK (sc UM (sc SD (sc JL sz))))))) (fun A y=>match y with |.c0 p=>⟨89,by kernel_rfl,by kernel_rfl⟩|.c1 p=>⟨74,by kernel_rfl,by kernel_rfl⟩) fun(m,n) hp h=>XW
def Mi(A:aZ)(m:ao)(n:Node):LT (Node×ia×Bool×Int) Empty:=.need (A.k (@tt (ao×Node)) (m,n)) (.br (A.c .neq (A.k nf (m,n)) 0) (.ret ((0,0,(0,0,0,0,0),(0,0,0,0,0,0,0),0,false,0,0,([]:List Int),([]:List aW),0,0),(0,0,(0,0,0,0,0),0,([]:List Int)),false,(A.k nf (m,n)))) (.need (A.k (@tt Node) n) (.br (A.not (A.k tx n)) (.ret ((0,0,(0,0,0,0,0),(0,0,0,0,0,0,0),0,false,0,0,([]:List Int),([]:List aW),0,0),(0,0,(0,0,0,0,0),0,([]:List Int)),false,181)) (.br (A.c .neq n.2.2.1.2.1 n.1) (.ret ((0,0,(0,0,0,0,0),(0,0,0,0,0,0,0),0,false,0,0,([]:List Int),([]:List aW),0,0),(0,0,(0,0,0,0,0),0,([]:List Int)),false,181)) (.need (A.k xu n) (.need (A.k (@tt Node) (A.k aI n)) (.br (A.c .eql (A.k iL (A.k aI n)).2 2) (.need (A.k (@tt (Node×Int×Int×Int)) (((A.k aI n).1,(A.k aI n).2.1,(A.k aI n).2.2.1,(A.k aI n).2.2.2.1,(A.k aI n).2.2.2.2.1,false,(A.k aI n).2.2.2.2.2.2),5,1,0)) (.ret ((A.k Bv (((A.k aI n).1,(A.k aI n).2.1,(A.k aI n).2.2.1,(A.k aI n).2.2.2.1,(A.k aI n).2.2.2.2.1,false,(A.k aI n).2.2.2.2.2.2),5,1,0)),(0,0,(0,0,0,0,0),0,([]:List Int)),false,0))) (.br (A.c .eql (A.k iL (A.k aI n)).2 3) (.need (A.k (@tt (ao×Int)) (m,(A.k aI n).1)) (.need (A.k (@tt (Node×Int×Int×Int)) ((A.k aI n),1,2,(A.k tW (m,(A.k aI n).1)).1)) (.ret ((A.k Bv ((A.k aI n),1,2,(A.k tW (m,(A.k aI n).1)).1)),(0,0,(0,0,0,0,0),0,([]:List Int)),false,0)))) (.br (A.c .eql (A.k iL (A.k aI n)).2 4) (.need (A.k (@tt (ao×Int)) (m,(A.k aI n).1)) (.need (A.k (@tt (Node×Int×Int×Int)) ((A.k aI n),1,(A.k aI n).2.2.2.2.2.2.1,(A.k Bc (m,(A.k aI n).1)).1)) (.ret ((A.k Bv ((A.k aI n),1,(A.k aI n).2.2.2.2.2.2.1,(A.k Bc (m,(A.k aI n).1)).1)),(0,0,(0,0,0,0,0),0,([]:List Int)),false,0)))) (.need (A.k C_ (m,(A.k aI n).1,4,((A.k aI n).2.2.1.1,(A.k aI n).2.2.1.2.1,(A.k aI n).2.2.1.2.2.1,(A.k aI n).2.2.1.2.2.2.1,(A.k iL (A.k aI n)).1.2.2.1),(A.k iL (A.k aI n)).1,(A.k aI n).2.2.2.2.1,false,(A.k aI n).2.2.2.2.2.2)) (.need (A.k (@tt (ao×cf×Int)) (m,((A.k aI n).2.2.1.1,(A.k aI n).2.2.1.2.1,(A.k aI n).2.2.1.2.2.1,(A.k aI n).2.2.1.2.2.2.1,(A.k iL (A.k aI n)).1.2.2.1),(A.k Bi (m,(A.k aI n).1,4,((A.k aI n).2.2.1.1,(A.k aI n).2.2.1.2.1,(A.k aI n).2.2.1.2.2.1,(A.k aI n).2.2.1.2.2.2.1,(A.k iL (A.k aI n)).1.2.2.1),(A.k iL (A.k aI n)).1,(A.k aI n).2.2.2.2.1,false,(A.k aI n).2.2.2.2.2.2)).2.1)) (.ret (((A.k aI n).1,4,(A.k JC (m,((A.k aI n).2.2.1.1,(A.k aI n).2.2.1.2.1,(A.k aI n).2.2.1.2.2.1,(A.k aI n).2.2.1.2.2.2.1,(A.k iL (A.k aI n)).1.2.2.1),(A.k Bi (m,(A.k aI n).1,4,((A.k aI n).2.2.1.1,(A.k aI n).2.2.1.2.1,(A.k aI n).2.2.1.2.2.1,(A.k aI n).2.2.1.2.2.2.1,(A.k iL (A.k aI n)).1.2.2.1),(A.k iL (A.k aI n)).1,(A.k aI n).2.2.2.2.1,false,(A.k aI n).2.2.2.2.2.2)).2.1)),(A.k iL (A.k aI n)).1,(A.k aI n).2.2.2.2.1,false,(A.k aI n).2.2.2.2.2.2),(A.k Bi (m,(A.k aI n).1,4,((A.k aI n).2.2.1.1,(A.k aI n).2.2.1.2.1,(A.k aI n).2.2.1.2.2.1,(A.k aI n).2.2.1.2.2.2.1,(A.k iL (A.k aI n)).1.2.2.1),(A.k iL (A.k aI n)).1,(A.k aI n).2.2.2.2.1,false,(A.k aI n).2.2.2.2.2.2)),true,0)))))))))))))
theorem XU{m:ao}{n:Node}:aB Empty.elim (Mi ai m n) (NS m n):=by
 unfold Mi NS
 refine af.2 ⟨rfl,?_⟩
 rw[show ai.k nf (m,n)=dS m n from rfl,show ai.k aI n=n from rfl,show ai.k tx n=oQ n from rfl,show ai.k iL n=kl n from rfl,show ai.k tW (m,n.1)=l5 m n.1 from rfl,show ai.k Bc (m,n.1)=u6 m n.1 from rfl]
 by_cases h:dS m n=0
 ·rw[decide_eq_true h,cond_true]
  refine(ah (lk h)).2 (af.2 ⟨rfl,?_⟩)
  cases hi:oQ n
  ·exact(aj rfl).2 (.ret _)
  refine(ah rfl).2 (au (p:=¬n.2.2.1.2.1=n.1) aY (fun hp=>al (by rw[decide_eq_false hp];rfl) (.ret _)) fun hp=>af.2 ⟨kz h,?_⟩)
  rw[decide_eq_true (Decidable.not_not.1 hp),Bool.and_true,cond_true,AZ]
  refine af.2 ⟨rfl,au (p:=(kl n).2=2) aO (fun g=>af.2 ⟨rfl,al ?_ (.ret _)⟩) fun g=>au (p:=(kl n).2=3) aO (fun g3=>af.2 ⟨rfl,af.2 ⟨rfl,al ?_ (.ret _)⟩⟩) fun g3=>au (p:=(kl n).2=4) aO (fun g4=>af.2 ⟨rfl,af.2 ⟨rfl,al ?_ (.ret _)⟩⟩) fun g4=>?_⟩
  ·rw[decide_eq_true g];rfl
  ·rw[decide_eq_false g,decide_eq_true g3];rfl
  ·rw[decide_eq_false g,decide_eq_false g3,decide_eq_true g4];rfl
  ·rw[decide_eq_false g,decide_eq_false g3,decide_eq_false g4]
   exact af.2 ⟨DW (v:=(kl n).1) h hi,af.2 ⟨rfl,.ret _⟩⟩
 ·rw[decide_eq_false h];exact(aj (jS h)).2 (.ret _)
def oh:(ao×Node)→(Node×ia×Bool×Int):=fun(m,n)=>NS m n
def Px:aA:=⟨[bC,cN], [cN,r8,.bool,yI],(@tt (ao×Node)),oh⟩
theorem Ob:Sd 44 Px:=aD ax cm true 142 [] (fun A (m,n)=>Mi A m n) (fc Tryz.func44 fz) (sc EN (sc Es (sc ET (sc Gp (sc Vo (sc Vn (sc Qr (sc Sy (sc P6 sz))))))))) fun(m,n) hp h=>XU
open Go.Ev.Pl
theorem Dq{x:List UInt8}:ai.z .eql x x=true:=by show(x==x)=true;simp
theorem pZ{x:Int}:ai.c .eql x x=true:=by rw[aO];simp
theorem vR{x:Int}:ai.c .neq x x=false:=by rw[aY];simp
theorem yh{x:Bool}:ai.q x x=true:=by rw[ft];simp
def KF(A:aZ)(a:ia)(b:ia):LT Bool Empty:=.need (A.k (@tt ((Int×Int×(Int×Int×Int×Int×Int)×Int×List Int)×(Int×Int×(Int×Int×Int×Int×Int)×Int×List Int))) (a,b)) (.ret (A.k MH (a,b)))
theorem Nz{a b:ia}(h:a=b):aB Empty.elim (KF ai a b) true:=by
 subst h
 unfold KF
 refine af.2 ⟨rfl,al ?_ (.ret _)⟩
 obtain⟨k,r,⟨t,p,m,n,s⟩,f,d⟩:=a
 simp only[ap,MH,t44,LT.val,pZ,Dq,cond_true]
 rfl
def yN:(ia×ia)→Bool:=fun _=>true
def wG:(ia×ia)→Bool:=fun(a,b)=>decide (a=b)
def OG:aA:=⟨[r8,r8], [.bool],wG,yN⟩
theorem Om:Sd 45 OG:=aD ax cm true 19 [] (fun A (a,b)=>KF A a b) (fc Tryz.func45 fz) (sc Yf sz) fun((a,b):ia×ia) hp h=>Nz (of_decide_eq_true hp)
end Go.Ev.M
