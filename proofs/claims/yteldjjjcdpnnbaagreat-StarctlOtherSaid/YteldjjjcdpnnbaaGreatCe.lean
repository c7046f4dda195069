/-
  PROVED: what Own, End and Tick of busctl and of metronomeref18 compute. Conditions: none.
-/
import Derived.Test.YteldjjjcdpnnbaaGreatCc
namespace Go.Ev.M
open Go.Proofs
set_option maxRecDepth 100000
set_option linter.unusedVariables false
set_option linter.unusedSimpArgs false
open Go.Ev.Pl
def qG:gb:=(0,0,(0,0,0,0,0),0,([]:List Int))
def Iv(m:ao)(n:Node):Node×gb×Bool×Int:=
 bif decide (bU m n=0) then
  bif decide (n.2.1=1) then
   bif decide (0<n.2.2.2.2.1-1) then((n.1,n.2.1,n.2.2.1,n.2.2.2.1,n.2.2.2.2.1-1,n.2.2.2.2.2),qG,false,0)
   else bif (aj.n .bool m.2.2.2.2.2.2.1 n.1:Bool) then((n.1,2,(0,n.1,0,0,aj.b .shl .i64 1 n.1),(n.1,m.1,aj.b .shl .i64 1 n.1,1,0,0,0),0,n.2.2.2.2.2),(1,0,(0,0,0,0,0),n.1,([]:List Int)),true,0)
   else((n.1,n.2.1,n.2.2.1,n.2.2.2.1,(lG m n.1).1,n.2.2.2.2.2),qG,false,0)
  else(ed,qG,false,181)
 else(ed,qG,false,bU m n)
theorem P_{m:ao}{n:Int}:(lG m n).1≤9223372036854775807:=by
 unfold lG
 cases decide (fQ m n=0)
 ·exact(by decide:(0:Int)≤9223372036854775807)
 ·rw[cond_true,bf,IntKind.wrap_i64];omega
theorem GJ{m:ao}{n:Node}(h:bU m n=0)(h1:n.2.1=1):1≤n.2.2.2.2.1∧aj.b .sub .i64 n.2.2.2.2.1 1=n.2.2.2.2.1-1:=by
 have hc:=(fe.1 (dz h).2).2.2.2.2.2.2.2.2.1
 rw[nV,decide_eq_true h1,cond_true,decide_eq_true_eq] at hc
 have:=@P_ m n.1
 exact⟨hc.1,by rw[aX,fV (by omega) (by omega)]⟩
def UU(A:a_)(m:ao)(n:Node):LT (Node×gb×Bool×Int) Empty:=.need (A.k (@tt (ao×Node)) (m,n)) (.br (A.c .neq (A.k gg (m,n)) 0) (.ret ((0,0,(0,0,0,0,0),(0,0,0,0,0,0,0),0,false,0,0,([]:List Int),([]:List aU),0,0),(0,0,(0,0,0,0,0),0,([]:List Int)),false,(A.k gg (m,n)))) (.br (A.c .neq n.2.1 1) (.ret ((0,0,(0,0,0,0,0),(0,0,0,0,0,0,0),0,false,0,0,([]:List Int),([]:List aU),0,0),(0,0,(0,0,0,0,0),0,([]:List Int)),false,181)) (.need (A.k ml n) (.br (A.c .gtr (A.b .sub .i64 (A.k aD n).2.2.2.2.1 1) 0) (.ret (((A.k aD n).1,(A.k aD n).2.1,(A.k aD n).2.2.1,(A.k aD n).2.2.2.1,(A.b .sub .i64 (A.k aD n).2.2.2.2.1 1),(A.k aD n).2.2.2.2.2),(0,0,(0,0,0,0,0),0,([]:List Int)),false,0)) (.need (A.and (A.c .leq 0 (A.k aD n).1) (A.c .lss (A.k aD n).1 (A.l m.2.2.2.2.2.2.1))) (.br (A.not (A.n .bool m.2.2.2.2.2.2.1 (A.k aD n).1:Bool)) (.need (A.k (@tt (ao×Int)) (m,(A.k aD n).1)) (.ret (((A.k aD n).1,(A.k aD n).2.1,(A.k aD n).2.2.1,(A.k aD n).2.2.2.1,(A.k vv (m,(A.k aD n).1)).1,(A.k aD n).2.2.2.2.2),(0,0,(0,0,0,0,0),0,([]:List Int)),false,0))) (.need (A.c .leq 0 (A.v .u64 (A.k aD n).1)) (.ret (((A.k aD n).1,2,(0,(A.k aD n).1,0,0,(A.b .shl .i64 1 (A.v .u64 (A.k aD n).1))),((A.k aD n).1,m.1,(A.b .shl .i64 1 (A.v .u64 (A.k aD n).1)),1,0,0,0),(A.b .sub .i64 (A.k aD n).2.2.2.2.1 1),(A.k aD n).2.2.2.2.2),(1,0,(0,0,0,0,0),(A.k aD n).1,([]:List Int)),true,0)))))))))
theorem aeo{m:ao}{n:Node}:aA Empty.elim (UU aj m n) (Iv m n):=by
 unfold UU Iv
 refine af.2 ⟨rfl,?_⟩
 rw[show aj.k gg (m,n)=bU m n from rfl,show aj.k aD n=n from rfl]
 by_cases h:bU m n=0
 ·rw[decide_eq_true h,cond_true]
  refine(ah (gY h)).2 (ap (p:=¬n.2.1=1) aS (fun h1=>au (by rw[decide_eq_false h1];rfl) (.ret _)) fun h1=>af.2 ⟨fY h,?_⟩)
  have h1:=Decidable.not_not.1 h1
  obtain⟨ht,es⟩:=GJ h h1
  have hi:=(fe.1 (dz h).2).1
  have hl:=eG (dz h).1
  rw[decide_eq_true h1,cond_true,es,FV (k:=n.1) (by omega)]
  refine ap (p:=0<n.2.2.2.2.1-1) rfl (fun h2=>?_) fun h2=>af.2 ⟨gV hl.2.2.1 hi.1 (show n.1<m.1 by omega),?_⟩
  ·exact au (by rw[decide_eq_true h2];rfl) (.ret _)
  rw[decide_eq_false h2,cond_false]
  cases (aj.n .bool m.2.2.2.2.2.2.1 n.1:Bool)
  ·exact(ai rfl).2 (af.2 ⟨rfl,.ret _⟩)
  ·refine(ah rfl).2 (af.2 ⟨decide_eq_true (show 0≤n.1 from hi.1),?_⟩)
   exact au (by rw[show n.2.2.2.2.1-1=0 by omega];rfl) (.ret _)
 ·rw[decide_eq_false h];exact(ai (fw h)).2 (.ret _)
def rq:(ao×Node)→(Node×gb×Bool×Int):=fun(m,n)=>Iv m n
def Y2:aB:=⟨[aY,aW], [aW,pX,.bool,yI],(@tt (ao×Node)),rq⟩
theorem aaK:Sd 49 Y2:=aF ax bK true 119 [] (fun A (m,n)=>UU A m n) (fc Tryz.func49 fz) (sc vo (sc xT (sc Gv sz))) fun(m,n) hp h=>aeo
def Ju(m:ao)(n:Node):Node×Int:=
 bif decide (bU m n=0) then
  bif ju n then
   bif decide ((iG n.2.2.1 m.1).1.2.1=0) then((n.1,n.2.1,(iG n.2.2.1 m.1).1,n.2.2.2.1,n.2.2.2.2.1,n.2.2.2.2.2.1,n.2.2.2.2.2.2.1,(Df n.2.2.2.2.2.2.2).1),0)
   else((n.1,n.2.1,(iG n.2.2.1 m.1).1,n.2.2.2),0)
  else(ed,181)
 else(ed,bU m n)
theorem step_ok{m:ao}{n:Node}(h:bU m n=0)(h1:ju n=true):(iG n.2.2.1 m.1).2=0:=by
 have hc:=(fe.1 (dz h).2).2.2.2.2.2.2.2.1
 rw[o7,h1,cond_true,Bool.and_eq_true] at hc
 have hf:=hc.1
 simp only[eZ,Bool.and_eq_true,decide_eq_true_eq] at hf
 rw[iG,decide_eq_true hf.1]
 cases decide (n.2.2.1.2.1+1=m.1)<;>cases decide (n.2.2.1.2.2.2.1=0)<;>rfl
theorem Xt{m:ao}{n:Node}(h:bU m n=0):(Df n.2.2.2.2.2.2.2).2=0:=by
 rw[Df,fY h];rfl
def Vr(A:a_)(m:ao)(n:Node):LT (Node×Int) Empty:=.need (A.k (@tt (ao×Node)) (m,n)) (.br (A.c .neq (A.k gg (m,n)) 0) (.ret ((0,0,(0,0,0,0,0),(0,0,0,0,0,0,0),0,false,0,0,([]:List Int),([]:List aU),0,0),(A.k gg (m,n)))) (.need (A.k (@tt Node) n) (.br (A.not (A.k lV n)) (.ret ((0,0,(0,0,0,0,0),(0,0,0,0,0,0,0),0,false,0,0,([]:List Int),([]:List aU),0,0),181)) (.need (A.k ml n) (.need (A.k (@tt (cq×Int)) ((A.k aD n).2.2.1,m.1)) (.br (A.c .eql (A.k GB ((A.k aD n).2.2.1,m.1)).1.2.1 0) (.need (A.k (@tt bu) (A.k aD n).2.2.2.2.2.2.2) (.ret (((A.k aD n).1,(A.k aD n).2.1,(A.k GB ((A.k aD n).2.2.1,m.1)).1,(A.k aD n).2.2.2.1,(A.k aD n).2.2.2.2.1,(A.k aD n).2.2.2.2.2.1,(A.k aD n).2.2.2.2.2.2.1,(A.k R9 (A.k aD n).2.2.2.2.2.2.2).1),0))) (.ret (((A.k aD n).1,(A.k aD n).2.1,(A.k GB ((A.k aD n).2.2.1,m.1)).1,(A.k aD n).2.2.2),0))))))))
theorem aej{m:ao}{n:Node}:aA Empty.elim (Vr aj m n) (Ju m n):=by
 unfold Vr Ju
 refine af.2 ⟨rfl,?_⟩
 rw[show aj.k gg (m,n)=bU m n from rfl,show aj.k aD n=n from rfl,show aj.k lV n=ju n from rfl]
 by_cases h:bU m n=0
 ·rw[decide_eq_true h,cond_true]
  refine(ah (gY h)).2 (af.2 ⟨rfl,?_⟩)
  cases ju n
  ·exact(ai rfl).2 (.ret _)
  refine(ah rfl).2 (af.2 ⟨fY h,af.2 ⟨rfl,ap (p:=(iG n.2.2.1 m.1).1.2.1=0) aI (fun h2=>af.2 ⟨rfl,au ?_ (.ret _)⟩) fun h2=>au ?_ (.ret _)⟩⟩)
  ·rw[decide_eq_true h2];rfl
  ·rw[decide_eq_false h2];rfl
 ·rw[decide_eq_false h];exact(ai (fw h)).2 (.ret _)
def Bg:(ao×Node)→(Node×Int):=fun(m,n)=>Ju m n
def adT:aB:=⟨[aY,aW], [aW,yI],(@tt (ao×Node)),Bg⟩
theorem afc:Sd 47 adT:=aF ax bK true 81 [] (fun A (m,n)=>Vr A m n) (fc Tryz.func47 fz) (sc vo (sc By (sc xT (sc afy (sc ac3 sz))))) fun(m,n) hp h=>aej
open Go.Ev.Pl
def t23(A:a_)(mId:Int)(mN:Int)(mSet:Int)(mAcc:Int)(mFail:Int)(mStage:Int)(mFirst:Int):LT (eT×Int×Int) Empty:=.need (A.k (@tt ((Int×Int×Int×Int×Int×Int×Int))) (mId,mN,mSet,mAcc,mFail,mStage,mFirst)) (.br (A.c .neq (A.k iV (mId,mN,mSet,mAcc,mFail,mStage,mFirst)) 0) (.ret ((0,0,0,0,0,0,0),0,(A.k iV (mId,mN,mSet,mAcc,mFail,mStage,mFirst)))) (.br (A.c .leq mAcc mFail) (.ret ((mId,mN,mSet,mAcc,mFail,mStage,mFirst),2,0)) (.need (A.c .leq 0 mId) (.ret ((mId,mN,(A.b .or .i64 mSet (A.b .shl .i64 1 mId)),1,0,1,0),1,0)))))
def gx:eT→(eT×Int×Int):=fun(mId,mN,mSet,mAcc,mFail,mStage,mFirst)=>(t23 aj mId mN mSet mAcc mFail mStage mFirst).val (Ty.bE [iK,yI,yI])
def ahr:aB:=⟨[iK], [iK,yI,yI],(@tt eT),gx⟩
theorem Vg:Sd 177 ahr:=aJ ax bK true 67 [] (fun A (mId,mN,mSet,mAcc,mFail,mStage,mFirst)=>t23 A mId mN mSet mAcc mFail mStage mFirst) (fc Tryz.func177 fz) (sc EW sz) (fun((mId,mN,mSet,mAcc,mFail,mStage,mFirst):eT) hp h=>by
 show(t23 aj mId mN mSet mAcc mFail mStage mFirst).pre=true
 simp only[t23,LT.pre,cY,aC,aH,ar,ay,aG,aM,aQ,aT,dn,al,bf,aX,bd,bS,bH,Bool.and_eq_true,Bool.or_eq_true,Bool.and_eq_false_iff,Bool.or_eq_false_iff,Bool.not_eq_true',Bool.not_eq_false',decide_eq_true_eq,decide_eq_false_iff_not,bne_iff_ne,beq_iff_eq,bne_eq_false_iff_eq,beq_eq_false_iff_ne]
 simp only[Ty.cB,Ty.has,iH] at h
 (repeat' (first|intro _|constructor))<;>(try (have hm:=gv.1 (by assumption);unfold ia at hm;omega)))
def t75(A:a_)(mId:Int)(mN:Int)(mSet:Int)(mAcc:Int)(mFail:Int)(mStage:Int)(mFirst:Int):LT eT Empty:=.need (A.k (@tt Int) mId) (.ret (mId,mN,(A.b .or .i64 mSet (A.k iB mId)),1,0,1,0))
def SK:eT→eT:=fun(mId,mN,mSet,mAcc,mFail,mStage,mFirst)=>(t75 aj mId mN mSet mAcc mFail mStage mFirst).val (Ty.bE [iK])
def Hm:eT→Bool:=fun(a,b,c,d,e,f,g)=>decide (0≤a)
def agL:aB:=⟨[iK], [iK],Hm,SK⟩
theorem aim:Sd 220 agL:=aJ ax bK true 47 [] (fun A (mId,mN,mSet,mAcc,mFail,mStage,mFirst)=>t75 A mId mN mSet mAcc mFail mStage mFirst) (fc Tryz.func220 fz) (sc Js sz) (fun((mId,mN,mSet,mAcc,mFail,mStage,mFirst):eT) hp h=>by
 show(t75 aj mId mN mSet mAcc mFail mStage mFirst).pre=true
 simp only[t75,LT.pre,cY,aC,aH,ar,ay,aG,aM,aQ,aT,dn,al,bf,aX,bd,bS,bH,Bool.and_eq_true,Bool.or_eq_true,Bool.and_eq_false_iff,Bool.or_eq_false_iff,Bool.not_eq_true',Bool.not_eq_false',decide_eq_true_eq,decide_eq_false_iff_not,bne_iff_ne,beq_iff_eq,bne_eq_false_iff_eq,beq_eq_false_iff_ne]
 simp only[Hm,Bool.and_eq_true,decide_eq_true_eq] at hp
 simp only[Ty.cB,Ty.has,iH,rA] at h
 (repeat' (first|intro _|constructor))<;>(try omega))
def t26(A:a_)(mId:Int)(mN:Int)(mSet:Int)(mAcc:Int)(mFail:Int)(mStage:Int)(mFirst:Int):LT (eT×Int×Int) Empty:=.need (A.k (@tt ((Int×Int×Int×Int×Int×Int×Int))) (mId,mN,mSet,mAcc,mFail,mStage,mFirst)) (.br (A.c .neq (A.k gZ (mId,mN,mSet,mAcc,mFail,mStage,mFirst)) 0) (.ret ((0,0,0,0,0,0,0),0,(A.k gZ (mId,mN,mSet,mAcc,mFail,mStage,mFirst)))) (.br (A.c .leq mAcc mFail) (.ret ((mId,mN,mSet,mAcc,mFail,mStage,mFirst),2,0)) (.need (A.k Hm (mId,mN,mSet,mAcc,mFail,mStage,mFirst)) (.ret ((A.k SK (mId,mN,mSet,mAcc,mFail,mStage,mFirst)),1,0)))))
def xF:eT→(eT×Int×Int):=fun(mId,mN,mSet,mAcc,mFail,mStage,mFirst)=>(t26 aj mId mN mSet mAcc mFail mStage mFirst).val (Ty.bE [iK,yI,yI])
def agX:aB:=⟨[iK], [iK,yI,yI],(@tt eT),xF⟩
theorem acB:Sd 181 agX:=aJ ax bK true 46 [] (fun A (mId,mN,mSet,mAcc,mFail,mStage,mFirst)=>t26 A mId mN mSet mAcc mFail mStage mFirst) (fc Tryz.func181 fz) (sc Fc (sc aim sz)) (fun((mId,mN,mSet,mAcc,mFail,mStage,mFirst):eT) hp h=>by
 show(t26 aj mId mN mSet mAcc mFail mStage mFirst).pre=true
 simp only[t26,Hm,LT.pre,cY,aC,aH,ar,ay,aG,aM,aQ,aT,dn,al,bf,aX,bd,bS,bH,Bool.and_eq_true,Bool.or_eq_true,Bool.and_eq_false_iff,Bool.or_eq_false_iff,Bool.not_eq_true',Bool.not_eq_false',decide_eq_true_eq,decide_eq_false_iff_not,bne_iff_ne,beq_iff_eq,bne_eq_false_iff_eq,beq_eq_false_iff_ne]
 simp only[Ty.cB,Ty.has,iH] at h
 (repeat' (first|intro _|constructor))<;>(try (have hm:=jw.1 (by assumption);unfold ia at hm;omega)))
def t27(A:a_)(mId:Int)(mN:Int)(mSet:Int)(mAcc:Int)(mFail:Int)(mStage:Int)(mFirst:Int):LT (eT×Int×Int) Empty:=.need (A.k (@tt ((Int×Int×Int×Int×Int×Int×Int))) (mId,mN,mSet,mAcc,mFail,mStage,mFirst)) (.br (A.c .eql (A.k iV (mId,mN,mSet,mAcc,mFail,mStage,mFirst)) 0) (.br (A.c .eql mAcc 0) (.br (A.c .eql mFail 0) (.ret ((mId,mN,mSet,mAcc,mFail,mStage,mFirst),3,0)) (.need (A.k (@tt eT) (mId,mN,mSet,mAcc,mFail,mStage,mFirst)) (.ret (A.k gx (mId,mN,mSet,mAcc,mFail,mStage,mFirst))))) (.need (A.k (@tt eT) (mId,mN,mSet,mAcc,mFail,mStage,mFirst)) (.ret (A.k gx (mId,mN,mSet,mAcc,mFail,mStage,mFirst))))) (.need (A.k (@tt eT) (mId,mN,mSet,mAcc,mFail,mStage,mFirst)) (.ret (A.k gx (mId,mN,mSet,mAcc,mFail,mStage,mFirst)))))
def iN:eT→(eT×Int×Int):=fun(mId,mN,mSet,mAcc,mFail,mStage,mFirst)=>(t27 aj mId mN mSet mAcc mFail mStage mFirst).val (Ty.bE [iK,yI,yI])
def aid:aB:=⟨[iK], [iK,yI,yI],(@tt eT),iN⟩
theorem afZ:Sd 178 aid:=aJ ax bK true 43 [] (fun A (mId,mN,mSet,mAcc,mFail,mStage,mFirst)=>t27 A mId mN mSet mAcc mFail mStage mFirst) (fc Tryz.func178 fz) (sc Vg (sc EW sz)) (fun((mId,mN,mSet,mAcc,mFail,mStage,mFirst):eT) hp h=>by
 show(t27 aj mId mN mSet mAcc mFail mStage mFirst).pre=true
 simp only[t27,LT.pre,cY,aC,aH,ar,ay,aG,aM,aQ,aT,dn,al,bf,aX,bd,bS,bH,Bool.and_eq_true,Bool.or_eq_true,Bool.and_eq_false_iff,Bool.or_eq_false_iff,Bool.not_eq_true',Bool.not_eq_false',decide_eq_true_eq,decide_eq_false_iff_not,bne_iff_ne,beq_iff_eq,bne_eq_false_iff_eq,beq_eq_false_iff_ne]
 simp only[Ty.cB,Ty.has,iH,rA] at h
 (repeat' (first|intro _|constructor))<;>(try omega))
def t28(A:a_)(mId:Int)(mN:Int)(mSet:Int)(mAcc:Int)(mFail:Int)(mStage:Int)(mFirst:Int):LT (eT×Int×Int) Empty:=.need (A.k (@tt ((Int×Int×Int×Int×Int×Int×Int))) (mId,mN,mSet,mAcc,mFail,mStage,mFirst)) (.br (A.c .neq (A.k gZ (mId,mN,mSet,mAcc,mFail,mStage,mFirst)) 0) (.ret ((0,0,0,0,0,0,0),0,(A.k gZ (mId,mN,mSet,mAcc,mFail,mStage,mFirst)))) (.br (A.c .eql mAcc 0) (.br (A.c .eql mFail 0) (.ret ((mId,mN,mSet,mAcc,mFail,mStage,mFirst),3,0)) (.need (A.k (@tt eT) (mId,mN,mSet,mAcc,mFail,mStage,mFirst)) (.ret (A.k xF (mId,mN,mSet,mAcc,mFail,mStage,mFirst))))) (.need (A.k (@tt eT) (mId,mN,mSet,mAcc,mFail,mStage,mFirst)) (.ret (A.k xF (mId,mN,mSet,mAcc,mFail,mStage,mFirst))))))
def I5:eT→(eT×Int×Int):=fun(mId,mN,mSet,mAcc,mFail,mStage,mFirst)=>(t28 aj mId mN mSet mAcc mFail mStage mFirst).val (Ty.bE [iK,yI,yI])
def agc:aB:=⟨[iK], [iK,yI,yI],(@tt eT),I5⟩
theorem ais:Sd 182 agc:=aJ ax bK true 52 [] (fun A (mId,mN,mSet,mAcc,mFail,mStage,mFirst)=>t28 A mId mN mSet mAcc mFail mStage mFirst) (fc Tryz.func182 fz) (sc acB (sc Fc sz)) (fun((mId,mN,mSet,mAcc,mFail,mStage,mFirst):eT) hp h=>by
 show(t28 aj mId mN mSet mAcc mFail mStage mFirst).pre=true
 simp only[t28,LT.pre,cY,aC,aH,ar,ay,aG,aM,aQ,aT,dn,al,bf,aX,bd,bS,bH,Bool.and_eq_true,Bool.or_eq_true,Bool.and_eq_false_iff,Bool.or_eq_false_iff,Bool.not_eq_true',Bool.not_eq_false',decide_eq_true_eq,decide_eq_false_iff_not,bne_iff_ne,beq_iff_eq,bne_eq_false_iff_eq,beq_eq_false_iff_ne]
 simp only[Ty.cB,Ty.has,iH,rA] at h
 (repeat' (first|intro _|constructor))<;>(try omega))
theorem DT{x:Int×Int×Int×Int×Int×Int×Int}(h:Ty.cB [(.struct [(.int .i64),(.int .i64),(.int .i64),(.int .i64),(.int .i64),(.int .i64),(.int .i64)])] x):gx x=xF x:=by
 obtain⟨a,b,c,d,e,f,g⟩:=x
 simp only[gx,xF,t23,t26,LT.val,al,JM,SK,t75]
 rcases mW (x:=(a,b,c,d,e,f,g)) with h|h<;>simp[h,aH]
 have hm:=jw.1 h
 unfold ia at hm
 rw[jX (by omega) (by omega)]
theorem I4{x:Int×Int×Int×Int×Int×Int×Int}(h:Ty.cB [(.struct [(.int .i64),(.int .i64),(.int .i64),(.int .i64),(.int .i64),(.int .i64),(.int .i64)])] x):iN x=I5 x:=by
 have h0:=DT h
 obtain⟨a,b,c,d,e,f,g⟩:=x
 simp only[iN,I5,t27,t28,LT.val,al,JM]
 rcases mW (x:=(a,b,c,d,e,f,g)) with h|h<;>simp[h,aH,aC,h0]
 simp[xF,t26,LT.val,al,h,aH]
def Uv(A:a_)(n:Node):LT (eT×Int) Empty:=.br (A.c .eql n.2.1 2) (.br (A.c .lss n.2.2.2.1.2.2.2.1 2) (.ret (n.2.2.2.1,4)) (.br (A.c .leq n.2.2.2.1.2.2.2.1 n.2.2.2.1.2.2.2.2.1) (.ret (n.2.2.2.1,4)) (.br (A.c .eql n.2.1 3) (.need (A.k (@tt eT) n.2.2.2.1) (.br (A.c .neq (A.k iN n.2.2.2.1).2.2 0) (.ret (n.2.2.2.1,4)) (.ret ((A.k iN n.2.2.2.1).1,(A.k iN n.2.2.2.1).2.1)))) (.need (A.k (@tt eT) n.2.2.2.1) (.br (A.c .neq (A.k gx n.2.2.2.1).2.2 0) (.ret (n.2.2.2.1,4)) (.ret ((A.k gx n.2.2.2.1).1,(A.k gx n.2.2.2.1).2.1))))))) (.br (A.c .eql n.2.1 3) (.need (A.k (@tt eT) n.2.2.2.1) (.br (A.c .neq (A.k iN n.2.2.2.1).2.2 0) (.ret (n.2.2.2.1,4)) (.ret ((A.k iN n.2.2.2.1).1,(A.k iN n.2.2.2.1).2.1)))) (.need (A.k (@tt eT) n.2.2.2.1) (.br (A.c .neq (A.k gx n.2.2.2.1).2.2 0) (.ret (n.2.2.2.1,4)) (.ret ((A.k gx n.2.2.2.1).1,(A.k gx n.2.2.2.1).2.1)))))
def jR(n:Node):eT×Int:=bif decide (n.2.1=2)&&(decide (n.2.2.2.1.2.2.2.1<2)||decide (n.2.2.2.1.2.2.2.1≤n.2.2.2.1.2.2.2.2.1)) then(n.2.2.2.1,4) else bif decide (n.2.1=3) then((iN n.2.2.2.1).1,(iN n.2.2.2.1).2.1) else((gx n.2.2.2.1).1,(gx n.2.2.2.1).2.1)
theorem xc{v:eT}(h:gZ v=0):(gx v).2.2=0:=by
 obtain⟨a,b,c,d,e,f,g⟩:=v
 simp only[gx,t23,LT.val,al,JM,h]
 cases aj.c .leq d e<;>rfl
theorem Zj{n:Node}(h:gZ n.2.2.2.1=0):aA Empty.elim (Uv aj n) (jR n):=by
 unfold Uv jR
 have h23:=xc h
 have h27:(iN n.2.2.2.1).2.2=0:=by
  generalize n.2.2.2.1=v at *
  obtain⟨a,b,c,d,e,f,g⟩:=v
  simp only[iN,t27,LT.val,al,JM,h]
  simp only[Bool.cond_eq_ite]
  repeat' split
  all_goals first|rfl|exact h23
 have e23:aj.c .neq (aj.k gx n.2.2.2.1).2.2 0=false:=gY h23
 have e27:aj.c .neq (aj.k iN n.2.2.2.1).2.2 0=false:=gY h27
 refine ap (p:=n.2.1=2) aI (fun g=>ap (p:=n.2.2.2.1.2.2.2.1<2) rfl (fun g1=>au ?_ (.ret _)) fun g1=>ap (p:=n.2.2.2.1.2.2.2.1≤n.2.2.2.1.2.2.2.2.1) rfl (fun g2=>au ?_ (.ret _)) fun g2=>(ah (by rw[aI];exact decide_eq_false (by omega))).2 (af.2 ⟨rfl,(ah e23).2 (au ?_ (.ret _))⟩)) fun g=>ap (p:=n.2.1=3) aI (fun g3=>af.2 ⟨rfl,(ah e27).2 (au ?_ (.ret _))⟩) fun g3=>af.2 ⟨rfl,(ah e23).2 (au ?_ (.ret _))⟩
 ·rw[decide_eq_true g,decide_eq_true g1];rfl
 ·rw[decide_eq_true g,decide_eq_true g2,Bool.or_true];rfl
 ·rw[decide_eq_true g,decide_eq_false g1,decide_eq_false g2,decide_eq_false (show ¬n.2.1=3 by omega)];rfl
 ·rw[decide_eq_false g,decide_eq_true g3];rfl
 ·rw[decide_eq_false g,decide_eq_false g3];rfl
def y9:Node→(eT×Int):=jR
def Lr:Node→Bool:=fun n=>decide (gZ n.2.2.2.1=0)
def ad8:aB:=⟨[aW], [iK,yI],Lr,y9⟩
theorem afo:Sd 110 ad8:=aF ax bK true 83 [] (fun A n=>Uv A n) (fc Tryz.func110 fz) (sc Vg (sc afZ sz)) fun(n:Node) hp h=>Zj (of_decide_eq_true hp)
def Tf(A:a_)(n:Node):LT (eT×Int) Empty:=.need (A.k (@tt eT) n.2.2.2.1) (.br (A.c .eql n.2.1 3) (.need (A.k (@tt eT) n.2.2.2.1) (.ret ((A.k I5 n.2.2.2.1).1,(A.k I5 n.2.2.2.1).2.1))) (.br (A.c .eql n.2.1 2) (.br (A.c .lss n.2.2.2.1.2.2.2.1 2) (.ret (n.2.2.2.1,4)) (.br (A.c .leq n.2.2.2.1.2.2.2.1 n.2.2.2.1.2.2.2.2.1) (.ret (n.2.2.2.1,4)) (.ret ((A.k xF n.2.2.2.1).1,(A.k xF n.2.2.2.1).2.1)))) (.ret ((A.k xF n.2.2.2.1).1,(A.k xF n.2.2.2.1).2.1))))
theorem adB{n:Node}(h:Ty.cB [aW] n):aA Empty.elim (Tf aj n) (jR n):=by
 have hv:Ty.cB [iK] n.2.2.2.1:=h.2.2.2.1
 have e23:aj.k xF n.2.2.2.1=gx n.2.2.2.1:=(DT hv).symm
 have e27:aj.k I5 n.2.2.2.1=iN n.2.2.2.1:=(I4 hv).symm
 unfold Tf jR
 rw[e23,e27]
 refine af.2 ⟨rfl,ap (p:=n.2.1=3) aI (fun g=>af.2 ⟨rfl,au ?_ (.ret _)⟩) fun g=>ap (p:=n.2.1=2) aI (fun g0=>ap (p:=n.2.2.2.1.2.2.2.1<2) rfl (fun g1=>au ?_ (.ret _)) fun g1=>ap (p:=n.2.2.2.1.2.2.2.1≤n.2.2.2.1.2.2.2.2.1) rfl (fun g2=>au ?_ (.ret _)) fun g2=>au ?_ (.ret _)) fun g0=>au ?_ (.ret _)⟩
 ·rw[decide_eq_true g,decide_eq_false (show ¬n.2.1=2 by omega)];rfl
 ·rw[decide_eq_true g0,decide_eq_true g1];rfl
 ·rw[decide_eq_true g0,decide_eq_true g2,Bool.or_true];rfl
 ·rw[decide_eq_true g0,decide_eq_false g1,decide_eq_false g2,decide_eq_false g];rfl
 ·rw[decide_eq_false g0,decide_eq_false g];rfl
def kr:Node→(eT×Int):=jR
def abb:aB:=⟨[aW], [iK,yI],(@tt Node),kr⟩
theorem adk:Sd 113 abb:=aF ax bK true 71 [] (fun A n=>Tf A n) (fc Tryz.func113 fz) (sc acB (sc ais sz)) fun n hp h=>adB h
open Go.Ev.Pl
def D7(m:ao)(k n:Int):Int:=aj.n yI (aj.n aV m.2.2.2.2.2.2.2 k:Mode).1 n
def CQ(m:ao)(n:Node):Int:=D7 m n.2.2.1.2.2.1 n.1
def SX(m:ao)(n:Node):Int:=bif decide ((jl m n.2.2.1 n.2.2.2.2.2.2.2.2.2.2.2).2=0) then(jl m n.2.2.1 n.2.2.2.2.2.2.2.2.2.2.2).1 else 0
def uM(m:ao)(n:Node):gb:=((bQ m n.2.2.1.2.2.1 n.1).1,SX m n,n.2.2.1,0,bif decide ((bQ m n.2.2.1.2.2.1 n.1).1=3) then([]:List Int) else(nv n.2.2.2.2.2.2.2 (CQ m n)).1)
def CM(m:ao)(n:Node):Bool:=decide ((bQ m n.2.2.1.2.2.1 n.1).2=0)&&dU n.2.2.2.2.2.2.2
theorem OX{m:ao}{n:Int}(hm:dV m=true)(h1:0≤n∧n≤m.1-1)(x:Mode)(hx:iI m x=true):0≤x.1.getD n.toNat 0∧x.1.getD n.toNat 0≤8:=by
 have hl:=gk hx
 have hc:=(eG hm).2.2.1
 simp only[iI,Bool.and_eq_true] at hx
 have ha:=hx.2
 have l1:m.2.2.2.2.2.2.1.length=x.1.length:=by omega
 have l2:x.2.1.length=x.1.length:=by omega
 rw[qy l1 l2,Bool.and_eq_true] at ha
 have hi:n.toNat<x.1.length:=by omega
 rw[List.getD_eq_getElem?_getD,List.getElem?_eq_getElem hi]
 have:=List.all_eq_true.1 ha.1 _ (List.getElem_mem hi)
 simpa using this
theorem Mn{m:ao}{k n:Int}(hm:dV m=true)(h1:0≤n∧n≤m.1-1)(h2:0≤k∧k<dB m):0≤D7 m k n∧D7 m k n≤8:=OX hm h1 _ (jL hm h2.1 h2.2)
theorem LH{c:bu}{k:Int}(h:dU c=true)(h1:0≤k∧k≤8):(nv c k).2=0:=by
 rw[nv,h,cond_true,decide_eq_true h1];rfl
def Ww(A:a_)(m:ao)(n:Node):LT (gb×Int) Empty:=.need (A.k (@tt (ao×Int×Int)) (m,n.2.2.1.2.2.1,n.1)) (.br (A.c .neq (A.k dJ (m,n.2.2.1.2.2.1,n.1)).2 0) (.ret ((0,0,(0,0,0,0,0),0,([]:List Int)),(A.k dJ (m,n.2.2.1.2.2.1,n.1)).2)) (.need (A.k (@tt (ao×cq×Int)) (m,n.2.2.1,n.2.2.2.2.2.2.2.2.2.2.2)) (.br (A.c .eql (A.k rE (m,n.2.2.1,n.2.2.2.2.2.2.2.2.2.2.2)).2 0) (.br (A.c .eql (A.k dJ (m,n.2.2.1.2.2.1,n.1)).1 3) (.ret (((A.k dJ (m,n.2.2.1.2.2.1,n.1)).1,(A.k rE (m,n.2.2.1,n.2.2.2.2.2.2.2.2.2.2.2)).1,n.2.2.1,0,([]:List Int)),0)) (.need (A.and (A.c .leq 0 n.2.2.1.2.2.1) (A.c .lss n.2.2.1.2.2.1 (A.l m.2.2.2.2.2.2.2))) (.need (A.and (A.c .leq 0 n.1) (A.c .lss n.1 (A.l (A.n aV m.2.2.2.2.2.2.2 n.2.2.1.2.2.1:Mode).1))) (.need (A.k (@tt (bu×Int)) (n.2.2.2.2.2.2.2,(A.n yI (A.n aV m.2.2.2.2.2.2.2 n.2.2.1.2.2.1:Mode).1 n.1:Int))) (.ret (((A.k dJ (m,n.2.2.1.2.2.1,n.1)).1,(A.k rE (m,n.2.2.1,n.2.2.2.2.2.2.2.2.2.2.2)).1,n.2.2.1,0,(A.k q9 (n.2.2.2.2.2.2.2,(A.n yI (A.n aV m.2.2.2.2.2.2.2 n.2.2.1.2.2.1:Mode).1 n.1:Int))).1),(A.k q9 (n.2.2.2.2.2.2.2,(A.n yI (A.n aV m.2.2.2.2.2.2.2 n.2.2.1.2.2.1:Mode).1 n.1:Int))).2)))))) (.br (A.c .eql (A.k dJ (m,n.2.2.1.2.2.1,n.1)).1 3) (.ret (((A.k dJ (m,n.2.2.1.2.2.1,n.1)).1,0,n.2.2.1,0,([]:List Int)),0)) (.need (A.and (A.c .leq 0 n.2.2.1.2.2.1) (A.c .lss n.2.2.1.2.2.1 (A.l m.2.2.2.2.2.2.2))) (.need (A.and (A.c .leq 0 n.1) (A.c .lss n.1 (A.l (A.n aV m.2.2.2.2.2.2.2 n.2.2.1.2.2.1:Mode).1))) (.need (A.k (@tt (bu×Int)) (n.2.2.2.2.2.2.2,(A.n yI (A.n aV m.2.2.2.2.2.2.2 n.2.2.1.2.2.1:Mode).1 n.1:Int))) (.ret (((A.k dJ (m,n.2.2.1.2.2.1,n.1)).1,0,n.2.2.1,0,(A.k q9 (n.2.2.2.2.2.2.2,(A.n yI (A.n aV m.2.2.2.2.2.2.2 n.2.2.1.2.2.1:Mode).1 n.1:Int))).1),(A.k q9 (n.2.2.2.2.2.2.2,(A.n yI (A.n aV m.2.2.2.2.2.2.2 n.2.2.1.2.2.1:Mode).1 n.1:Int))).2)))))))))
theorem aeX{m:ao}{n:Node}(h:CM m n=true):aA Empty.elim (Ww aj m n) (uM m n,0):=by
 rw[CM,Bool.and_eq_true,decide_eq_true_eq] at h
 obtain⟨hm,h1,h2⟩:=jD h.1
 have hx:=gk (jL hm h2.1 h2.2)
 have hz:=LH h.2 (Mn hm h1 h2)
 unfold Ww uM SX
 rw[show aj.k dJ (m,n.2.2.1.2.2.1,n.1)=bQ m n.2.2.1.2.2.1 n.1 from rfl,show aj.k rE (m,n.2.2.1,n.2.2.2.2.2.2.2.2.2.2.2)=jl m n.2.2.1 n.2.2.2.2.2.2.2.2.2.2.2 from rfl,show aj.k q9 (n.2.2.2.2.2.2.2,(aj.n yI (aj.n aV m.2.2.2.2.2.2.2 n.2.2.1.2.2.1:Mode).1 n.1:Int))=nv n.2.2.2.2.2.2.2 (CQ m n) from rfl]
 have tl:∀q:Int,aA (R:=gb×Int) Empty.elim (.br (aj.c .eql (bQ m n.2.2.1.2.2.1 n.1).1 3) (.ret (((bQ m n.2.2.1.2.2.1 n.1).1,q,n.2.2.1,0,([]:List Int)),0)) (.need (aj.and (aj.c .leq 0 n.2.2.1.2.2.1) (aj.c .lss n.2.2.1.2.2.1 (aj.l m.2.2.2.2.2.2.2))) (.need (aj.and (aj.c .leq 0 n.1) (aj.c .lss n.1 (aj.l (aj.n aV m.2.2.2.2.2.2.2 n.2.2.1.2.2.1:Mode).1))) (.need true (.ret (((bQ m n.2.2.1.2.2.1 n.1).1,q,n.2.2.1,0,(nv n.2.2.2.2.2.2.2 (CQ m n)).1),(nv n.2.2.2.2.2.2.2 (CQ m n)).2)))))) (((bQ m n.2.2.1.2.2.1 n.1).1,q,n.2.2.1,0,bif decide ((bQ m n.2.2.1.2.2.1 n.1).1=3) then([]:List Int) else(nv n.2.2.2.2.2.2.2 (CQ m n)).1),0):=fun q=>
  ap (p:=(bQ m n.2.2.1.2.2.1 n.1).1=3) aI (fun g=>au (by rw[decide_eq_true g];rfl) (.ret _)) fun g=>af.2 ⟨iy h2.1 h2.2,af.2 ⟨gV hx.1 h1.1 (by omega),af.2 ⟨rfl,au (by rw[decide_eq_false g,show(nv n.2.2.2.2.2.2.2 (CQ m n)).2=0 from hz];rfl) (.ret _)⟩⟩⟩
 refine af.2 ⟨rfl,(ah (gY h.1)).2 (af.2 ⟨rfl,ap (p:=(jl m n.2.2.1 n.2.2.2.2.2.2.2.2.2.2.2).2=0) aI (fun g=>?_) fun g=>?_⟩)⟩
 ·rw[decide_eq_true g];exact tl _
 ·rw[decide_eq_false g];exact tl _
def qc:(ao×Node)→(gb×Int):=fun(m,n)=>(uM m n,0)
def MC:(ao×Node)→Bool:=fun(m,n)=>CM m n
def aaP:aB:=⟨[aY,aW], [pX,yI],MC,qc⟩
theorem ac2:Sd 112 aaP:=aF ax bK true 111 [] (fun A (m,n)=>Ww A m n) (fc Tryz.func112 fz) (sc EK (sc R2 (sc Sm sz))) fun((m,n):ao×Node) hp h=>aeX hp
def WQ(A:a_)(m:ao)(n:Node):LT gb Empty:=.need (A.k (@tt (ao×Int×Int)) (m,n.2.2.1.2.2.1,n.1)) (.need (A.k (@tt (ao×cq×Int)) (m,n.2.2.1,n.2.2.2.2.2.2.2.2.2.2.2)) (.br (A.c .neq (A.k DC (m,n.2.2.1,n.2.2.2.2.2.2.2.2.2.2.2)).2 0) (.br (A.c .neq (A.k kq (m,n.2.2.1.2.2.1,n.1)).1 3) (.need (A.and (A.c .leq 0 n.2.2.1.2.2.1) (A.c .lss n.2.2.1.2.2.1 (A.l m.2.2.2.2.2.2.2))) (.need (A.and (A.c .leq 0 n.1) (A.c .lss n.1 (A.l (A.n aV m.2.2.2.2.2.2.2 n.2.2.1.2.2.1:Mode).1))) (.need (A.k (@tt (bu×Int)) (n.2.2.2.2.2.2.2,(A.n yI (A.n aV m.2.2.2.2.2.2.2 n.2.2.1.2.2.1:Mode).1 n.1:Int))) (.ret ((A.k kq (m,n.2.2.1.2.2.1,n.1)).1,0,n.2.2.1,0,(A.k H6 (n.2.2.2.2.2.2.2,(A.n yI (A.n aV m.2.2.2.2.2.2.2 n.2.2.1.2.2.1:Mode).1 n.1:Int))).1))))) (.ret ((A.k kq (m,n.2.2.1.2.2.1,n.1)).1,0,n.2.2.1,0,([]:List Int)))) (.br (A.c .neq (A.k kq (m,n.2.2.1.2.2.1,n.1)).1 3) (.need (A.and (A.c .leq 0 n.2.2.1.2.2.1) (A.c .lss n.2.2.1.2.2.1 (A.l m.2.2.2.2.2.2.2))) (.need (A.and (A.c .leq 0 n.1) (A.c .lss n.1 (A.l (A.n aV m.2.2.2.2.2.2.2 n.2.2.1.2.2.1:Mode).1))) (.need (A.k (@tt (bu×Int)) (n.2.2.2.2.2.2.2,(A.n yI (A.n aV m.2.2.2.2.2.2.2 n.2.2.1.2.2.1:Mode).1 n.1:Int))) (.ret ((A.k kq (m,n.2.2.1.2.2.1,n.1)).1,(A.k DC (m,n.2.2.1,n.2.2.2.2.2.2.2.2.2.2.2)).1,n.2.2.1,0,(A.k H6 (n.2.2.2.2.2.2.2,(A.n yI (A.n aV m.2.2.2.2.2.2.2 n.2.2.1.2.2.1:Mode).1 n.1:Int))).1))))) (.ret ((A.k kq (m,n.2.2.1.2.2.1,n.1)).1,(A.k DC (m,n.2.2.1,n.2.2.2.2.2.2.2.2.2.2.2)).1,n.2.2.1,0,([]:List Int))))))
theorem X1{m:ao}{n:Node}(h:CM m n=true):aA Empty.elim (WQ aj m n) (uM m n):=by
 rw[CM,Bool.and_eq_true,decide_eq_true_eq] at h
 obtain⟨hm,h1,h2⟩:=jD h.1
 have hx:=gk (jL hm h2.1 h2.2)
 unfold WQ uM SX
 rw[show aj.k kq (m,n.2.2.1.2.2.1,n.1)=bQ m n.2.2.1.2.2.1 n.1 from rfl,show aj.k DC (m,n.2.2.1,n.2.2.2.2.2.2.2.2.2.2.2)=jl m n.2.2.1 n.2.2.2.2.2.2.2.2.2.2.2 from rfl,show aj.k H6 (n.2.2.2.2.2.2.2,(aj.n yI (aj.n aV m.2.2.2.2.2.2.2 n.2.2.1.2.2.1:Mode).1 n.1:Int))=nv n.2.2.2.2.2.2.2 (CQ m n) from rfl]
 have tl:∀q:Int,aA (R:=gb) Empty.elim (.br (aj.c .neq (bQ m n.2.2.1.2.2.1 n.1).1 3) (.need (aj.and (aj.c .leq 0 n.2.2.1.2.2.1) (aj.c .lss n.2.2.1.2.2.1 (aj.l m.2.2.2.2.2.2.2))) (.need (aj.and (aj.c .leq 0 n.1) (aj.c .lss n.1 (aj.l (aj.n aV m.2.2.2.2.2.2.2 n.2.2.1.2.2.1:Mode).1))) (.need true (.ret ((bQ m n.2.2.1.2.2.1 n.1).1,q,n.2.2.1,0,(nv n.2.2.2.2.2.2.2 (CQ m n)).1))))) (.ret ((bQ m n.2.2.1.2.2.1 n.1).1,q,n.2.2.1,0,([]:List Int)))) ((bQ m n.2.2.1.2.2.1 n.1).1,q,n.2.2.1,0,bif decide ((bQ m n.2.2.1.2.2.1 n.1).1=3) then([]:List Int) else(nv n.2.2.2.2.2.2.2 (CQ m n)).1):=fun q=>
  ap (p:=¬(bQ m n.2.2.1.2.2.1 n.1).1=3) aS (fun g=>af.2 ⟨iy h2.1 h2.2,af.2 ⟨gV hx.1 h1.1 (by omega),af.2 ⟨rfl,au (by rw[decide_eq_false g];rfl) (.ret _)⟩⟩⟩) fun g=>au (by rw[decide_eq_true (Decidable.not_not.1 g)];rfl) (.ret _)
 refine af.2 ⟨rfl,af.2 ⟨rfl,ap (p:=¬(jl m n.2.2.1 n.2.2.2.2.2.2.2.2.2.2.2).2=0) aS (fun g=>?_) fun g=>?_⟩⟩
 ·rw[decide_eq_false g];exact tl _
 ·rw[decide_eq_true (Decidable.not_not.1 g)];exact tl _
def G4:(ao×Node)→gb:=fun(m,n)=>uM m n
def Nw:(ao×Node)→Bool:=fun(m,n)=>CM m n
def aaE:aB:=⟨[aY,aW], [pX],Nw,G4⟩
theorem Zk:Sd 116 aaE:=aF ax bK true 96 [] (fun A (m,n)=>WQ A m n) (fc Tryz.func116 fz) (sc RZ (sc aaf (sc X5 sz))) fun((m,n):ao×Node) hp h=>X1 hp
def O7(A:a_)(n:Node)(state:Int)(status:Int)(timer:Int):LT Node Empty:=.ret (n.1,state,(0,0,0,0,0),(0,0,0,0,0,0,0),timer,n.2.2.2.2.2.1,status,n.2.2.2.2.2.2.2)
def GF:(Node×Int×Int×Int)→Node:=fun(n,state,status,timer)=>(O7 aj n state status timer).val (Ty.bE [aW])
def abr:aB:=⟨[aW,yI,yI,yI], [aW],(@tt (Node×Int×Int×Int)),GF⟩
theorem adH:Sd 114 abr:=aJ ax bK true 46 [] (fun A (n,state,status,timer)=>O7 A n state status timer) (fc Tryz.func114 fz) sz (fun((n,state,status,timer):Node×Int×Int×Int) hp h=>by
 show(O7 aj n state status timer).pre=true
 simp[O7,LT.pre,al,bH])
open Go.Ev.Pl
def aeO(n:Node)(v:eT):Node:=(n.1,4,(n.2.2.1.1,n.2.2.1.2.1,n.2.2.1.2.2.1,n.2.2.1.2.2.2.1,v.2.2.1),v,n.2.2.2.2.1,false,n.2.2.2.2.2.2)
def Uo(n:Node)(s t:Int)(b:Bool)(st:Int):Node:=(n.1,s,(0,0,0,0,0),(0,0,0,0,0,0,0),t,b,st,n.2.2.2.2.2.2.2)
def Es(m:ao)(n:Node):Node×gb×Bool×Int:=((n.1,n.2.1,gf m n.2.2.1 (uM m n).2.1,n.2.2.2),uM m n,true,0)
def qp(m:ao)(n:Node):Node×gb×Bool×Int:=bif decide ((jR n).2=2) then(Uo n 5 0 false 1,qG,false,0) else bif decide ((jR n).2=3) then(Uo n 1 (lG m n.1).1 n.2.2.2.2.2.1 2,qG,false,0) else bif decide ((jR n).2=4) then(Uo n 1 (Ah m n.1).1 n.2.2.2.2.2.1 n.2.2.2.2.2.2.1,qG,false,0) else Es m (aeO n (jR n).1)
def Ra(m:ao)(n:Node):Node×gb×Bool×Int:=bif decide (bU m n=0) then(bif ju n&&decide (n.2.2.1.2.1=n.1) then qp m n else(ed,qG,false,181)) else(ed,qG,false,bU m n)
theorem rC{m:ao}{n:Node}(h:bU m n=0)(h1:ju n=true):eZ m n.2.2.1=true∧gZ n.2.2.2.1=0∧n.2.2.2.1.1=n.1∧n.2.2.2.1.2.1=m.1∧n.2.2.1.2.2.2.2=n.2.2.2.1.2.2.1:=by
 have hc:=(fe.1 (dz h).2).2.2.2.2.2.2.2.1
 rw[o7,h1,cond_true] at hc
 simpa only[Bool.and_eq_true,decide_eq_true_eq] using hc
theorem QR{m:ao}{k n:Int}(hm:dV m=true)(h1:0≤n∧n≤m.1-1)(h2:0≤k∧k<dB m):(bQ m k n).2=0:=by
 rw[bQ,fQ,hm,cond_true,decide_eq_true h1,decide_eq_true (show 0≤k∧k≤dB m-1 by omega)];rfl
theorem B4{m:ao}{c:cq}(h:eZ m c=true):g_ (c,m.1)=0∧(0≤c.2.2.1∧c.2.2.1<dB m)∧c.2.2.2.1≤dB m:=by
 simp only[eZ,Bool.and_eq_true,decide_eq_true_eq] at h
 exact⟨h.1,⟨(qR h.1).2.2.2.1.1,h.2.1⟩,h.2.2⟩
theorem Nl{m:ao}{n:Node}{v:eT}(h:bU m n=0)(h1:ju n=true):CM m (aeO n v)=true:=by
 have hz:=fe.1 (dz h).2
 rw[CM,Bool.and_eq_true]
 exact⟨decide_eq_true (QR (dz h).1 hz.1 (B4 (rC h h1).1).2.1),show dU n.2.2.2.2.2.2.2=true from fY h⟩
theorem Td{m:ao}{i:Int}:aj.k Bh (m,i)=(lG m i).1:=rfl
theorem W9{m:ao}{i:Int}:aj.k MK (m,i)=(Ah m i).1:=rfl
structure Fs where
 (a0:Int) (a1:ao) (a2 a3:eT) (a4:Int) (a5:Bool) (a6 a7 a8 a9:Int) (bV:eT) (dT:Int) (a12:Node)
structure Mx where
 (b0:ao) (b1 b2:eT) (b3:Int) (b4:Bool) (b5 b6 b7 b8:Int) (b9:eT) (b10:Int) (b11:Node)
inductive Pm where
 | c0 (p:Fs)
 | c1 (p:Mx)
noncomputable def V9:Pm→fL
 | .c0 p=>⟨[⟨43,91,(en [(2,.ptr 0 0),(4,.ptr 1 0),(5,.ptr 2 0),(8,.ptr 3 0),(9,vi p.a0)]),[.code (cw Tryz.f43 [1,1,0,0]),.code (cw Tryz.f43 [1,1,0,1]),.code (cw Tryz.f43 [1,1,1])],[],none⟩],[.flat false [vi p.a1.1,vi p.a1.2.1,vi p.a1.2.2.1,vi p.a1.2.2.2.1,vi p.a1.2.2.2.2.1,vi p.a1.2.2.2.2.2.1,.sl .bool p.a1.2.2.2.2.2.2.1,.sl aV p.a1.2.2.2.2.2.2.2],.flat false [vi p.a2.1,vi p.a2.2.1,vi p.a2.2.2.1,vi p.a2.2.2.2.1,vi p.a2.2.2.2.2.1,vi p.a2.2.2.2.2.2.1,vi p.a2.2.2.2.2.2.2,vi p.a3.1,vi p.a3.2.1,vi p.a3.2.2.1,vi p.a3.2.2.2.1,vi p.a3.2.2.2.2.1,vi p.a3.2.2.2.2.2.1,vi p.a3.2.2.2.2.2.2,vi p.a4,vb p.a5,vi p.a6,vi p.a7,.bi true,.bi true,vi p.a8,vi p.a9],.flat false [vi p.bV.1,vi p.bV.2.1,vi p.bV.2.2.1,vi p.bV.2.2.2.1,vi p.bV.2.2.2.2.1,vi p.bV.2.2.2.2.2.1,vi p.bV.2.2.2.2.2.2,vi p.dT,.bi true],.flat false [vi p.a12.1,vi p.a12.2.1,vi p.a12.2.2.1.1,vi p.a12.2.2.1.2.1,vi p.a12.2.2.1.2.2.1,vi p.a12.2.2.1.2.2.2.1,vi p.a12.2.2.1.2.2.2.2,vi p.a12.2.2.2.1.1,vi p.a12.2.2.2.1.2.1,vi p.a12.2.2.2.1.2.2.1,vi p.a12.2.2.2.1.2.2.2.1,vi p.a12.2.2.2.1.2.2.2.2.1,vi p.a12.2.2.2.1.2.2.2.2.2.1,vi p.a12.2.2.2.1.2.2.2.2.2.2,vi p.a12.2.2.2.2.1,vb p.a12.2.2.2.2.2.1,vi p.a12.2.2.2.2.2.2.1,vi p.a12.2.2.2.2.2.2.2.1,.sl yU p.a12.2.2.2.2.2.2.2.2.1,.sl aR p.a12.2.2.2.2.2.2.2.2.2.1,vi p.a12.2.2.2.2.2.2.2.2.2.2.1,vi p.a12.2.2.2.2.2.2.2.2.2.2.2],.dead]⟩
 | .c1 p=>⟨[⟨43,91,(en [(2,.ptr 0 0),(4,.ptr 1 0),(5,.ptr 2 0),(8,.ptr 3 0)]),[.code (cw Tryz.f43 [1,1,1,1,1,1,0]),.code (cw Tryz.f43 [1,1,1,1,1,1,1])],[],none⟩],[.flat false [vi p.b0.1,vi p.b0.2.1,vi p.b0.2.2.1,vi p.b0.2.2.2.1,vi p.b0.2.2.2.2.1,vi p.b0.2.2.2.2.2.1,.sl .bool p.b0.2.2.2.2.2.2.1,.sl aV p.b0.2.2.2.2.2.2.2],.flat false [vi p.b1.1,vi p.b1.2.1,vi p.b1.2.2.1,vi p.b1.2.2.2.1,vi p.b1.2.2.2.2.1,vi p.b1.2.2.2.2.2.1,vi p.b1.2.2.2.2.2.2,vi p.b2.1,vi p.b2.2.1,vi p.b2.2.2.1,vi p.b2.2.2.2.1,vi p.b2.2.2.2.2.1,vi p.b2.2.2.2.2.2.1,vi p.b2.2.2.2.2.2.2,vi p.b3,vb p.b4,vi p.b5,vi p.b6,.bi true,.bi true,vi p.b7,vi p.b8],.flat false [vi p.b9.1,vi p.b9.2.1,vi p.b9.2.2.1,vi p.b9.2.2.2.1,vi p.b9.2.2.2.2.1,vi p.b9.2.2.2.2.2.1,vi p.b9.2.2.2.2.2.2,vi p.b10,.bi true],.flat false [vi p.b11.1,vi p.b11.2.1,vi p.b11.2.2.1.1,vi p.b11.2.2.1.2.1,vi p.b11.2.2.1.2.2.1,vi p.b11.2.2.1.2.2.2.1,vi p.b11.2.2.1.2.2.2.2,vi p.b11.2.2.2.1.1,vi p.b11.2.2.2.1.2.1,vi p.b11.2.2.2.1.2.2.1,vi p.b11.2.2.2.1.2.2.2.1,vi p.b11.2.2.2.1.2.2.2.2.1,vi p.b11.2.2.2.1.2.2.2.2.2.1,vi p.b11.2.2.2.1.2.2.2.2.2.2,vi p.b11.2.2.2.2.1,vb p.b11.2.2.2.2.2.1,vi p.b11.2.2.2.2.2.2.1,vi p.b11.2.2.2.2.2.2.2.1,.sl yU p.b11.2.2.2.2.2.2.2.2.1,.sl aR p.b11.2.2.2.2.2.2.2.2.2.1,vi p.b11.2.2.2.2.2.2.2.2.2.2.1,vi p.b11.2.2.2.2.2.2.2.2.2.2.2],.dead]⟩
def Ui(A:a_)(m:ao)(n:Node):LT (Node×gb×Bool×Int) Pm:=.need (A.k (@tt Node) n) (.br (A.k mC n) (.need (A.k (@tt (ao×Node×Bool)) (m,n,(A.c .eql n.2.2.1.2.1 n.1))) (.need (A.k (@tt (ao×Node×Bool)) (m,n,(A.c .eql n.2.2.1.2.1 n.1))) (.eqs (((A.k mC n):Bool)=true) (.need (A.k (@tt Node) n) (.more (.c0 ⟨(A.k iU (m,n,(A.c .eql n.2.2.1.2.1 n.1))).2,m,(0,0,0,0,0,0,0),(0,0,0,0,0,0,0),0,false,0,0,0,0,(0,0,0,0,0,0,0),0,(A.k iU (m,n,(A.c .eql n.2.2.1.2.1 n.1))).1⟩)))))) (.need (A.k (@tt (ao×Node×Bool)) (m,n,false)) (.need (A.k (@tt (ao×Node×Bool)) (m,n,false)) (.eqs (((A.k mC n):Bool)=false) (.need (A.k (@tt Node) n) (.more (.c0 ⟨(A.k iU (m,n,false)).2,m,(0,0,0,0,0,0,0),(0,0,0,0,0,0,0),0,false,0,0,0,0,(0,0,0,0,0,0,0),0,(A.k iU (m,n,false)).1⟩)))))))
def E2(A:a_):Pm→LT (Node×gb×Bool×Int) Pm
 | .c0 p=>.br (A.c .neq p.a0 0) (.ret ((0,0,(0,0,0,0,0),(0,0,0,0,0,0,0),0,false,0,0,([]:List Int),([]:List aU),0,0),(0,0,(0,0,0,0,0),0,([]:List Int)),false,p.a0)) (.need (A.k Lr p.a12) (.br (A.c .eql (A.k y9 p.a12).2 2) (.ret ((p.a12.1,5,(0,0,0,0,0),(0,0,0,0,0,0,0),0,false,1,p.a12.2.2.2.2.2.2.2),(0,0,(0,0,0,0,0),0,([]:List Int)),false,0)) (.br (A.c .eql (A.k y9 p.a12).2 3) (.need (A.k (@tt (ao×Int)) (p.a1,p.a12.1)) (.ret ((p.a12.1,1,(0,0,0,0,0),(0,0,0,0,0,0,0),(A.k Bh (p.a1,p.a12.1)),p.a12.2.2.2.2.2.1,2,p.a12.2.2.2.2.2.2.2),(0,0,(0,0,0,0,0),0,([]:List Int)),false,0))) (.br (A.c .eql (A.k y9 p.a12).2 4) (.need (A.k (@tt (ao×Int)) (p.a1,p.a12.1)) (.ret ((p.a12.1,1,(0,0,0,0,0),(0,0,0,0,0,0,0),(A.k MK (p.a1,p.a12.1)),p.a12.2.2.2.2.2),(0,0,(0,0,0,0,0),0,([]:List Int)),false,0))) (.more (.c1 ⟨p.a1,p.a2,p.a3,p.a4,p.a5,p.a6,p.a7,p.a8,p.a9,p.bV,p.dT,(p.a12.1,4,(p.a12.2.2.1.1,p.a12.2.2.1.2.1,p.a12.2.2.1.2.2.1,p.a12.2.2.1.2.2.2.1,(A.k y9 p.a12).1.2.2.1),(A.k y9 p.a12).1,p.a12.2.2.2.2.1,false,p.a12.2.2.2.2.2.2)⟩))))))
 | .c1 p=>.need (A.k MC (p.b0,p.b11)) (.br (A.c .neq (A.k qc (p.b0,p.b11)).2 0) (.ret ((0,0,(0,0,0,0,0),(0,0,0,0,0,0,0),0,false,0,0,([]:List Int),([]:List aU),0,0),(0,0,(0,0,0,0,0),0,([]:List Int)),false,(A.k qc (p.b0,p.b11)).2)) (.need (A.k (@tt (ao×cq×Int)) (p.b0,p.b11.2.2.1,(A.k qc (p.b0,p.b11)).1.2.1)) (.need (A.k (@tt (ao×cq×Int)) (p.b0,p.b11.2.2.1,(A.k qc (p.b0,p.b11)).1.2.1)) (.br (A.c .eql (A.k gD (p.b0,p.b11.2.2.1,(A.k qc (p.b0,p.b11)).1.2.1)).2 0) (.ret ((p.b11.1,p.b11.2.1,(A.k gD (p.b0,p.b11.2.2.1,(A.k qc (p.b0,p.b11)).1.2.1)).1,p.b11.2.2.2),(A.k qc (p.b0,p.b11)).1,true,0)) (.ret (p.b11,(A.k qc (p.b0,p.b11)).1,true,0))))))
theorem UQ{p:Mx}(h:CM p.b0 p.b11=true):aA (E2 aj) (.more (.c1 p)) (Es p.b0 p.b11):=by
 rw[ak,E2,Es]
 rw[show aj.k qc (p.b0,p.b11)=(uM p.b0 p.b11,0) from rfl,show aj.k gD (p.b0,p.b11.2.2.1,(uM p.b0 p.b11,(0:Int)).1.2.1)=lF p.b0 p.b11.2.2.1 (uM p.b0 p.b11).2.1 from rfl]
 refine af.2 ⟨h,(ah rfl).2 (af.2 ⟨rfl,af.2 ⟨rfl,ap (p:=(lF p.b0 p.b11.2.2.1 (uM p.b0 p.b11).2.1).2=0) aI (fun g=>au ?_ (.ret _)) fun g=>au ?_ (.ret _)⟩⟩)⟩
 ·rw[gf,decide_eq_true g];rfl
 ·rw[gf,decide_eq_false g];rfl
theorem Vb{p:Fs}{m:ao}{n:Node}(h0:p.a0=0)(h1:p.a1=m)(h12:p.a12=n)(h:bU m n=0)(hi:ju n=true):aA (E2 aj) (.more (.c0 p)) (qp m n):=by
 subst h1 h12
 rw[ak,E2,qp,h0,Td,W9,show aj.k y9 p.a12=jR p.a12 from rfl]
 refine(ah rfl).2 (af.2 ⟨decide_eq_true (rC h hi).2.1,ap (p:=(jR p.a12).2=2) aI (fun g=>au ?_ (.ret _)) fun g=>ap (p:=(jR p.a12).2=3) aI (fun g3=>af.2 ⟨rfl,au ?_ (.ret _)⟩) fun g3=>ap (p:=(jR p.a12).2=4) aI (fun g4=>af.2 ⟨rfl,au ?_ (.ret _)⟩) fun g4=>?_⟩)
 ·rw[decide_eq_true g];rfl
 ·rw[decide_eq_false g,decide_eq_true g3];rfl
 ·rw[decide_eq_false g,decide_eq_false g3,decide_eq_true g4];rfl
 ·rw[decide_eq_false g,decide_eq_false g3,decide_eq_false g4]
  exact UQ (Nl h hi)
theorem agf{m:ao}{n:Node}:aA (E2 aj) (Ui aj m n) (Ra m n):=by
 unfold Ui Ra
 rw[show aj.k mC n=ju n from rfl]
 refine af.2 ⟨rfl,?_⟩
 have no:∀q:Fs,q.a0=(kU m n false).2→aA (E2 aj) (.more (.c0 q)) (bif decide (bU m n=0) then(ed,qG,false,181) else(ed,qG,false,bU m n)):=fun q hq=>by
  rw[ak,E2,hq,kU]
  by_cases h:bU m n=0
  ·rw[decide_eq_true h];exact(ai rfl).2 (.ret _)
  ·rw[decide_eq_false h];exact(ai (fw h)).2 (.ret _)
 cases hi:ju n
 ·exact(ah rfl).2 (af.2 ⟨rfl,af.2 ⟨rfl,fo.2 ⟨rfl,af.2 ⟨rfl,no _ rfl⟩⟩⟩⟩)
 ·refine(ai rfl).2 (af.2 ⟨rfl,af.2 ⟨rfl,fo.2 ⟨rfl,af.2 ⟨rfl,?_⟩⟩⟩⟩)
  rw[show ∀w,aj.k iU (m,n,w)=kU m n w from fun _=>rfl,aI,Bool.true_and]
  by_cases hp:n.2.2.1.2.1=n.1
  ·rw[decide_eq_true hp,cond_true]
   by_cases h:bU m n=0
   ·have e:kU m n true=(n,0):=by rw[kU,decide_eq_true h];rfl
    rw[decide_eq_true h,e]
    exact Vb rfl rfl rfl h hi
   ·have:=no ⟨(kU m n true).2,m,(0,0,0,0,0,0,0),(0,0,0,0,0,0,0),0,false,0,0,0,0,(0,0,0,0,0,0,0),0,(kU m n true).1⟩ (by rw[kU,kU,decide_eq_false h];rfl)
    rw[decide_eq_false h] at this ⊢
    exact this
  ·rw[decide_eq_false hp];exact no _ rfl
def sO:(ao×Node)→(Node×gb×Bool×Int):=fun(m,n)=>Ra m n
def YY:aB:=⟨[aY,aW], [aW,pX,.bool,yI],(@tt (ao×Node)),sO⟩
theorem afj:Sd 43 YY:=aL ax bK true 39 [] [⟨43,2, [[2,4,5,8,9]]⟩,⟨43,18, [[2,4,5,8]]⟩] (fun A (m,n)=>Ui A m n) E2 V9 (fc Tryz.func43 (fc Tryz.func77 (fc Tryz.func102 fz))) (sc LF (sc LB (sc KM (sc afo (sc X7 (sc ac2 (sc Bt sz))))))) (fun A y=>match y with |.c0 p=>⟨89,by kernel_rfl,by kernel_rfl⟩|.c1 p=>⟨74,by kernel_rfl,by kernel_rfl⟩) fun(m,n) hp h=>agf
def Tn(A:a_)(m:ao)(n:Node):LT (Node×gb×Bool×Int) Empty:=.need (A.k (@tt (ao×Node)) (m,n)) (.br (A.c .neq (A.k gg (m,n)) 0) (.ret ((0,0,(0,0,0,0,0),(0,0,0,0,0,0,0),0,false,0,0,([]:List Int),([]:List aU),0,0),(0,0,(0,0,0,0,0),0,([]:List Int)),false,(A.k gg (m,n)))) (.need (A.k (@tt Node) n) (.br (A.not (A.k lV n)) (.ret ((0,0,(0,0,0,0,0),(0,0,0,0,0,0,0),0,false,0,0,([]:List Int),([]:List aU),0,0),(0,0,(0,0,0,0,0),0,([]:List Int)),false,181)) (.br (A.c .neq n.2.2.1.2.1 n.1) (.ret ((0,0,(0,0,0,0,0),(0,0,0,0,0,0,0),0,false,0,0,([]:List Int),([]:List aU),0,0),(0,0,(0,0,0,0,0),0,([]:List Int)),false,181)) (.need (A.k ml n) (.need (A.k (@tt Node) (A.k aD n)) (.br (A.c .eql (A.k kr (A.k aD n)).2 2) (.need (A.k (@tt (Node×Int×Int×Int)) (((A.k aD n).1,(A.k aD n).2.1,(A.k aD n).2.2.1,(A.k aD n).2.2.2.1,(A.k aD n).2.2.2.2.1,false,(A.k aD n).2.2.2.2.2.2),5,1,0)) (.ret ((A.k GF (((A.k aD n).1,(A.k aD n).2.1,(A.k aD n).2.2.1,(A.k aD n).2.2.2.1,(A.k aD n).2.2.2.2.1,false,(A.k aD n).2.2.2.2.2.2),5,1,0)),(0,0,(0,0,0,0,0),0,([]:List Int)),false,0))) (.br (A.c .eql (A.k kr (A.k aD n)).2 3) (.need (A.k (@tt (ao×Int)) (m,(A.k aD n).1)) (.need (A.k (@tt (Node×Int×Int×Int)) ((A.k aD n),1,2,(A.k vv (m,(A.k aD n).1)).1)) (.ret ((A.k GF ((A.k aD n),1,2,(A.k vv (m,(A.k aD n).1)).1)),(0,0,(0,0,0,0,0),0,([]:List Int)),false,0)))) (.br (A.c .eql (A.k kr (A.k aD n)).2 4) (.need (A.k (@tt (ao×Int)) (m,(A.k aD n).1)) (.need (A.k (@tt (Node×Int×Int×Int)) ((A.k aD n),1,(A.k aD n).2.2.2.2.2.2.1,(A.k Gh (m,(A.k aD n).1)).1)) (.ret ((A.k GF ((A.k aD n),1,(A.k aD n).2.2.2.2.2.2.1,(A.k Gh (m,(A.k aD n).1)).1)),(0,0,(0,0,0,0,0),0,([]:List Int)),false,0)))) (.need (A.k Nw (m,(A.k aD n).1,4,((A.k aD n).2.2.1.1,(A.k aD n).2.2.1.2.1,(A.k aD n).2.2.1.2.2.1,(A.k aD n).2.2.1.2.2.2.1,(A.k kr (A.k aD n)).1.2.2.1),(A.k kr (A.k aD n)).1,(A.k aD n).2.2.2.2.1,false,(A.k aD n).2.2.2.2.2.2)) (.need (A.k (@tt (ao×cq×Int)) (m,((A.k aD n).2.2.1.1,(A.k aD n).2.2.1.2.1,(A.k aD n).2.2.1.2.2.1,(A.k aD n).2.2.1.2.2.2.1,(A.k kr (A.k aD n)).1.2.2.1),(A.k G4 (m,(A.k aD n).1,4,((A.k aD n).2.2.1.1,(A.k aD n).2.2.1.2.1,(A.k aD n).2.2.1.2.2.1,(A.k aD n).2.2.1.2.2.2.1,(A.k kr (A.k aD n)).1.2.2.1),(A.k kr (A.k aD n)).1,(A.k aD n).2.2.2.2.1,false,(A.k aD n).2.2.2.2.2.2)).2.1)) (.ret (((A.k aD n).1,4,(A.k G_ (m,((A.k aD n).2.2.1.1,(A.k aD n).2.2.1.2.1,(A.k aD n).2.2.1.2.2.1,(A.k aD n).2.2.1.2.2.2.1,(A.k kr (A.k aD n)).1.2.2.1),(A.k G4 (m,(A.k aD n).1,4,((A.k aD n).2.2.1.1,(A.k aD n).2.2.1.2.1,(A.k aD n).2.2.1.2.2.1,(A.k aD n).2.2.1.2.2.2.1,(A.k kr (A.k aD n)).1.2.2.1),(A.k kr (A.k aD n)).1,(A.k aD n).2.2.2.2.1,false,(A.k aD n).2.2.2.2.2.2)).2.1)),(A.k kr (A.k aD n)).1,(A.k aD n).2.2.2.2.1,false,(A.k aD n).2.2.2.2.2.2),(A.k G4 (m,(A.k aD n).1,4,((A.k aD n).2.2.1.1,(A.k aD n).2.2.1.2.1,(A.k aD n).2.2.1.2.2.1,(A.k aD n).2.2.1.2.2.2.1,(A.k kr (A.k aD n)).1.2.2.1),(A.k kr (A.k aD n)).1,(A.k aD n).2.2.2.2.1,false,(A.k aD n).2.2.2.2.2.2)),true,0)))))))))))))
theorem ahu{m:ao}{n:Node}:aA Empty.elim (Tn aj m n) (Ra m n):=by
 unfold Tn Ra
 refine af.2 ⟨rfl,?_⟩
 rw[show aj.k gg (m,n)=bU m n from rfl,show aj.k aD n=n from rfl,show aj.k lV n=ju n from rfl,show aj.k kr n=jR n from rfl,show aj.k vv (m,n.1)=lG m n.1 from rfl,show aj.k Gh (m,n.1)=Ah m n.1 from rfl]
 by_cases h:bU m n=0
 ·rw[decide_eq_true h,cond_true]
  refine(ah (gY h)).2 (af.2 ⟨rfl,?_⟩)
  cases hi:ju n
  ·exact(ai rfl).2 (.ret _)
  refine(ah rfl).2 (ap (p:=¬n.2.2.1.2.1=n.1) aS (fun hp=>au (by rw[decide_eq_false hp];rfl) (.ret _)) fun hp=>af.2 ⟨fY h,?_⟩)
  rw[decide_eq_true (Decidable.not_not.1 hp),Bool.and_true,cond_true,qp]
  refine af.2 ⟨rfl,ap (p:=(jR n).2=2) aI (fun g=>af.2 ⟨rfl,au ?_ (.ret _)⟩) fun g=>ap (p:=(jR n).2=3) aI (fun g3=>af.2 ⟨rfl,af.2 ⟨rfl,au ?_ (.ret _)⟩⟩) fun g3=>ap (p:=(jR n).2=4) aI (fun g4=>af.2 ⟨rfl,af.2 ⟨rfl,au ?_ (.ret _)⟩⟩) fun g4=>?_⟩
  ·rw[decide_eq_true g];rfl
  ·rw[decide_eq_false g,decide_eq_true g3];rfl
  ·rw[decide_eq_false g,decide_eq_false g3,decide_eq_true g4];rfl
  ·rw[decide_eq_false g,decide_eq_false g3,decide_eq_false g4]
   exact af.2 ⟨Nl (v:=(jR n).1) h hi,af.2 ⟨rfl,.ret _⟩⟩
 ·rw[decide_eq_false h];exact(ai (fw h)).2 (.ret _)
def s7:(ao×Node)→(Node×gb×Bool×Int):=fun(m,n)=>Ra m n
def XL:aB:=⟨[aY,aW], [aW,pX,.bool,yI],(@tt (ao×Node)),s7⟩
theorem Zh:Sd 44 XL:=aF ax bK true 142 [] (fun A (m,n)=>Tn A m n) (fc Tryz.func44 fz) (sc vo (sc By (sc xT (sc Gv (sc adk (sc adH (sc acN (sc Zk (sc Ru sz))))))))) fun(m,n) hp h=>ahu
open Go.Ev.Pl
theorem DV{x:List UInt8}:aj.z .eql x x=true:=by show(x==x)=true;simp
theorem ek{x:Int}:aj.c .eql x x=true:=by rw[aI];simp
theorem iC{x:Int}:aj.c .neq x x=false:=by rw[aS];simp
theorem gh{x:Bool}:aj.q x x=true:=by rw[dn];simp
def UD(A:a_)(a:gb)(b:gb):LT Bool Empty:=.need (A.k (@tt ((Int×Int×(Int×Int×Int×Int×Int)×Int×List Int)×(Int×Int×(Int×Int×Int×Int×Int)×Int×List Int))) (a,b)) (.ret (A.k Mg (a,b)))
theorem Uy{a b:gb}(h:a=b):aA Empty.elim (UD aj a b) true:=by
 subst h
 unfold UD
 refine af.2 ⟨rfl,au ?_ (.ret _)⟩
 obtain⟨k,r,⟨t,p,m,n,s⟩,f,d⟩:=a
 simp only[al,Mg,t44,LT.val,ek,DV,cond_true]
 rfl
def vf:(gb×gb)→Bool:=fun _=>true
def uq:(gb×gb)→Bool:=fun(a,b)=>decide (a=b)
def acY:aB:=⟨[pX,pX], [.bool],uq,vf⟩
theorem RU:Sd 45 acY:=aF ax bK true 19 [] (fun A (a,b)=>UD A a b) (fc Tryz.func45 fz) (sc ady sz) fun((a,b):gb×gb) hp h=>Uy (of_decide_eq_true hp)
end Go.Ev.M
