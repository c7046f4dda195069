/-
  PROVED: what busctl.Other and metronomeref18.Other compute. Conditions: none.
-/
import Derived.Test.YteldjjjcdpnnbaaGreatCe
import Derived.Test.YteldjjjcdpnnbaaGreatJs
namespace Go.Ev.M
open Go.Proofs
set_option maxRecDepth 100000
set_option linter.unusedVariables false
set_option linter.unusedSimpArgs false
open Go.Ev.Pl
theorem inc_le{d:Int}(h0:0≤d)(h1:d≤1048576):0≤inc d∧inc d≤1048576:=by
 unfold inc;split<;>omega
theorem Oe{a b c d e f g c' d' e':Int}(h:ia a b c d e f g)(h1:0≤c'∧c'<((2^b.toNat:Nat):Int))(h2:0≤d'∧d'≤1048576)(h3:0≤e'∧e'≤1048576):ia a b c' d' e' 0 0:=by
 unfold ia at h ⊢
 exact⟨h.1,h.2.1,h.2.2.1,h.2.2.2.1,by omega,by omega,h1.1,h1.2,h2.1,h2.2,h3.1,h3.2,by omega,by omega,fun h=>absurd rfl h,fun h=>by omega⟩
theorem Om{a b c d e f g s k:Int}(h:ia a b c d e f g)(h0:0≤s)(h1:s<b)(h2:s≠a)(hk:k=0∨k=1)(he:(lI ((a,b,c,d,e,f,g),s,k)).2=0) :
  ∃c' d' e' f' g',(lI ((a,b,c,d,e,f,g),s,k)).1=(a,b,c',d',e',f',g')∧ia a b c' d' e' f' g'∧jY c' s=true:=by
 have hm:=h
 unfold ia at hm
 have hp:=tV (n:=b.toNat) (by omega)
 have id:=inc_le (d:=d) (by omega) (by omega)
 have ie:=inc_le (d:=e) (by omega) (by omega)
 have I:=fun {c s:Int} (h:0≤c∧c<((2^b.toNat:Nat):Int)) (h':0≤s∧s<b)=>TM (c:=c) (s:=s) (n:=b) h.1 (by omega) h.2 h'.1 h'.2
 have D:=fun {c s:Int} (h:0≤c∧c<((2^b.toNat:Nat):Int)) (h':0≤s∧s<b)=>Nv (c:=c) (s:=s) (n:=b) h.1 (by omega) h.2 h'.1 (by omega)
 have BI:=fun {c s:Int} (h:0≤c∧c<((2^b.toNat:Nat):Int)) (h':0≤s∧s<b) {i:Int} (hi:0≤i)=>PS (c:=c) (s:=s) (i:=i) h.1 (by omega) h'.1 (by omega) hi
 have BD:=fun {c s:Int} (h:0≤c∧c<((2^b.toNat:Nat):Int)) (h':0≤s∧s<b) {i:Int} (hi:0≤i)=>Cz (c:=c) (s:=s) (i:=i) h.1 (by omega) h'.1 (by omega) hi
 have hc:0≤c∧c<((2^b.toNat:Nat):Int):=⟨by omega,by omega⟩
 have ha:0≤a∧a<b:=⟨by omega,by omega⟩
 have hs:0≤s∧s<b:=⟨h0,h1⟩
 have hg:0≤g∧g<b:=⟨by omega,by omega⟩
 have hf:f=0∨f=1∨f=2:=by omega
 have sa:(a==s)=false:=by simp;omega
 rcases hf with rfl|rfl|rfl<;>rcases hk with rfl|rfl
 ·rw[JW h h0 h1 h2]
  exact⟨_,_,_,_,_,rfl,Oe h (I hc hs) id (by omega),by rw[BI hc hs h0];simp⟩
 ·exfalso
  revert he
  simp[lI,t25,LT.val,al,aH,aC,aT,d_.2 ⟨h,h0,h1,h2⟩,kE h h0 h1 h2,Dq]
 ·rw[NV h h0 h1 h2]
  exact⟨_,_,_,_,_,rfl,Oe h (I (I hc hs) ha) id (by omega),by rw[BI (I hc hs) ha h0,BI hc hs h0];simp⟩
 ·rw[GR h h0 h1 h2]
  refine⟨_,_,_,_,_,rfl,?_,by rw[BI hc hs h0];simp⟩
  have:=I hc hs
  unfold ia
  exact⟨by omega,by omega,by omega,by omega,by omega,by omega,by omega,by omega,by omega,by omega,by omega,by omega,by omega,by omega,fun _=>by
   rw[BI hc hs ha.1,hm.2.2.2.2.2.2.2.2.2.2.2.2.2.2.1 (by decide)];rfl,fun _=>h2⟩
 ·by_cases hsg:s=g
  ·subst hsg
   rw[Gk h h0 h1 h2]
   exact⟨_,_,_,_,_,rfl,Oe h (I (I hc hs) ha) id (by omega),by rw[BI (I hc hs) ha h0,BI hc hs h0];simp⟩
  ·rw[Ii h h0 h1 h2 hsg]
   exact⟨_,_,_,_,_,rfl,Oe h (D (I (I hc hs) ha) hg) id ie,by
    have sg:(g != s)=true:=by simp;omega
    rw[BD (I (I hc hs) ha) hg h0,BI (I hc hs) ha h0,BI hc hs h0,sg];simp⟩
 ·by_cases hsg:s=g
  ·subst hsg
   exfalso
   revert he
   simp[lI,t25,LT.val,al,aH,aC,aT,d_.2 ⟨h,h0,h1,h2⟩,kE h h0 h1 h2,wS]
  ·rw[Ik h h0 h1 h2 hsg]
   exact⟨_,_,_,_,_,rfl,Oe h (D (I (I hc hs) hg) ha) id ie,by
    have sg:(a != s)=true:=by simp;omega
    rw[BD (I (I hc hs) hg) ha h0,BI (I hc hs) hg h0,BI hc hs h0,sg];simp⟩
theorem Oh{a b c d e f g s:Int}(h:ia a b c d e f g)(h0:0≤s)(h1:s<b)(h2:s≠a) :
  ∃c' f' g',lh ((a,b,c,d,e,f,g),s)=((a,b,c',d,e,f',g'),0)∧ia a b c' d e f' g':=by
 have hm:=h
 unfold ia at hm
 have hp:=tV (n:=b.toNat) (by omega)
 have hd:=Nv (c:=c) (s:=s) (n:=b) (by omega) (by omega) (by omega) h0 (by omega)
 have hb:f≠0→jY (kz c s) a=true:=fun hf=>by
  rw[Cz (by omega) (by omega) h0 (by omega) (by omega),hm.2.2.2.2.2.2.2.2.2.2.2.2.2.2.1 hf]
  simpa using h2
 by_cases hf:f=2
 ·subst hf
  by_cases hsg:g=s
  ·subst hsg
   refine⟨_,_,_,M9 h h2,?_⟩
   unfold ia
   exact⟨by omega,by omega,by omega,by omega,by omega,by omega,by omega,by omega,by omega,by omega,by omega,by omega,by omega,by omega,fun _=>hb (by decide),fun h=>by omega⟩
  ·refine⟨_,_,_,NO h h0 h1 h2 hsg,?_⟩
   unfold ia
   exact⟨by omega,by omega,by omega,by omega,by omega,by omega,by omega,by omega,by omega,by omega,by omega,by omega,by omega,by omega,fun _=>hb (by decide),hm.2.2.2.2.2.2.2.2.2.2.2.2.2.2.2⟩
 ·refine⟨_,_,_,K6 h h0 h1 h2 hf,?_⟩
  unfold ia
  exact⟨by omega,by omega,by omega,by omega,by omega,by omega,by omega,by omega,by omega,by omega,by omega,by omega,by omega,by omega,hb,fun h=>absurd h hf⟩
theorem ahE{a b c d e f g e':Int}(h:ia a b c d e f g)(h1:0≤e'∧e'≤1048576):ia a b c d e' f g:=by
 unfold ia at h ⊢
 exact⟨h.1,h.2.1,h.2.2.1,h.2.2.2.1,h.2.2.2.2.1,h.2.2.2.2.2.1,h.2.2.2.2.2.2.1,h.2.2.2.2.2.2.2.1,h.2.2.2.2.2.2.2.2.1,h.2.2.2.2.2.2.2.2.2.1,h1.1,h1.2,h.2.2.2.2.2.2.2.2.2.2.2.2⟩
theorem Ej{c:Int×Int×Int×Int×Int}{w:Int}{o:Int×Int×Int×(Int×Int×(Int×Int×Int×Int×Int)×Int×List Int)×Int}:∀{l:List (Int×Int×(Int×List Int))} {k:Nat},jf c w k l=some o→o.1=3∧∃s∈l,s.1=2:=by
 intro l
 induction l with
 | nil=>intro k h;cases h
 | cons s l ih=>
   intro k h
   rw[jf] at h
   cases hb:(s.1==2&&(nR (s.2.2,c)).2)
   ·rw[hb,cond_false] at h
    obtain⟨h1,x,hx,h2⟩:=ih h
    exact⟨h1,x,List.mem_cons_of_mem _ hx,h2⟩
   ·rw[hb,cond_true] at h
    cases h
    rw[Bool.and_eq_true,beq_iff_eq] at hb
    exact⟨rfl,s,List.mem_cons_self ..,hb.1⟩
theorem Cm{t p m n:Int}{seen:List (Int×Int×(Int×List Int))}{o:Int×Int×Int×(Int×Int×(Int×Int×Int×Int×Int)×Int×List Int)×Int}:∀{l:List Int} {i:Nat},kK t p m n seen i l=some o→o.1=3∧∃s∈seen,s.1=2:=by
 intro l
 induction l with
 | nil=>intro i h;cases h
 | cons v l ih=>
   intro i h
   rw[kK] at h
   cases hs:jf (t,p,m,n,v) (i:Int) 0 seen with
   | none=>rw[hs] at h;exact ih h
   | some o'=>rw[hs] at h;cases h;exact Ej hs
theorem Ct{c:Int×Int×Int×Int×Int}{w:Int}{o:Int×Int×Int×(Int×Int×(Int×Int×Int×Int×Int)×Int×List Int)×Int}:∀{l:List (Int×Int×(Int×List Int))} {k:Nat},jf c w k l=some o→o.2.1=w:=by
 intro l
 induction l with
 | nil=>intro k h;cases h
 | cons s l ih=>
   intro k h
   rw[jf] at h
   cases hb:(s.1==2&&(nR (s.2.2,c)).2)
   ·rw[hb,cond_false] at h;exact ih h
   ·rw[hb,cond_true] at h;cases h;rfl
theorem Af{t p m n:Int}{seen:List (Int×Int×(Int×List Int))}{o:Int×Int×Int×(Int×Int×(Int×Int×Int×Int×Int)×Int×List Int)×Int}:∀{l:List Int} {i:Nat},kK t p m n seen i l=some o→∃k,k<l.length∧o.2.1=((i+k:Nat):Int):=by
 intro l
 induction l with
 | nil=>intro i h;cases h
 | cons v l ih=>
   intro i h
   rw[kK] at h
   cases hs:jf (t,p,m,n,v) (i:Int) 0 seen with
   | none=>
     rw[hs] at h
     obtain⟨k,h1,h2⟩:=ih h
     exact⟨k+1,by rw[List.length_cons];omega,by rw[h2];congr 1;omega⟩
   | some o'=>
     rw[hs] at h
     cases h
     exact⟨0,by rw[List.length_cons];omega,by rw[Ct hs];rfl⟩
theorem xw{t p m n s sender:Int}{v:Int×Int×Int×Int×Int×Int×Int}{seen:List (Int×Int×(Int×List Int))}(h:(je ((t,p,m,n,s),v,sender,seen)).2=0) :
  iV v=0∧0≤sender∧sender<v.2.1∧sender≠v.1∧((∃k,k<(JN (v,sender)).length∧(je ((t,p,m,n,s),v,sender,seen)).1.1=3∧(je ((t,p,m,n,s),v,sender,seen)).1.2.1=(k:Int))∨(je ((t,p,m,n,s),v,sender,seen)).1.1=1∨(je ((t,p,m,n,s),v,sender,seen)).1.1=2):=by
 rw[je] at h ⊢
 cases h1:(iV v != 0||g_ ((t,p,m,n,s),v.2.1) != 0)
 ·rw[h1] at h
  rw[cond_false] at h ⊢
  cases h2:(decide (sender<0)||decide (v.2.1≤sender)||sender==v.1||seen.length != 2)
  ·rw[cond_false]
   simp only[Bool.or_eq_false_iff,bne_eq_false_iff_eq,decide_eq_false_iff_not,beq_eq_false_iff_ne] at h1 h2
   refine⟨h1.1,by omega,by omega,h2.1.2,?_⟩
   rw[nK]
   cases h3:kK t p m n seen 0 (JN (v,sender)) with
   | some o=>
     obtain⟨k,h4,h5⟩:=Af h3
     exact .inl ⟨k,h4,(Cm h3).1,by rw[Nat.zero_add] at h5;exact h5⟩
   | none=>
     right
     show(jM seen).1=1∨(jM seen).1=2
     rw[jM]
     cases seen.any fun s=>s.1 != 0
     ·exact .inl rfl
     ·exact .inr rfl
  ·rw[h2] at h;cases h
 ·rw[h1] at h;cases h
theorem xO{a b c d e f g s:Int}(h:ia a b c d e f g)(h0:0≤s)(h1:s<b)(h2:s≠a) :
  ∃c' f' g',lh ((a,b,c,d,e,f,g),s)=((a,b,c',d,e,f',g'),0)∧ia a b c' d e f' g'∧jY c' s=false:=by
 obtain⟨c',f',g',e1,e2⟩:=Oh h h0 h1 h2
 refine⟨c',f',g',e1,e2,?_⟩
 have hc:=Rh h
 have hm:=h
 unfold ia at hm
 have:c'=kz c s:=by
  by_cases hf:f=2
  ·subst hf
   by_cases hsg:g=s
   ·subst hsg
    rw[M9 h h2] at e1
    simp only[Prod.mk.injEq] at e1
    exact e1.1.2.2.1.symm
   ·rw[NO h h0 h1 h2 hsg] at e1
    simp only[Prod.mk.injEq] at e1
    exact e1.1.2.2.1.symm
  ·rw[K6 h h0 h1 h2 hf] at e1
   simp only[Prod.mk.injEq] at e1
   exact e1.1.2.2.1.symm
 rw[this,Cz (by omega) hc h0 (by omega) h0,bne_self_eq_false,Bool.and_false]
theorem M3{a b c d e f g s:Int}{k:Nat}(h:ia a b c d e f g)(h0:0≤s)(h1:s<b)(h2:s≠a)(hk:k<(JN ((a,b,c,d,e,f,g),s)).length):(lI ((a,b,c,d,e,f,g),s,(k:Int))).2=0∧((k:Int)=0∨(k:Int)=1):=by
 have hm:=h
 unfold ia at hm
 have hf:f=0∨f=1∨f=2:=by omega
 rw[JN] at hk
 rcases hf with rfl|rfl|rfl
 ·rw[Dq] at hk
  have:k=0:=by
   have:k<1:=hk
   omega
  subst this
  exact⟨by rw[show((0:Nat):Int)=0 from rfl,JW h h0 h1 h2],.inl rfl⟩
 ·rw[Cu] at hk
  have:k<2:=hk
  have:k=0∨k=1:=by omega
  rcases this with rfl|rfl
  ·exact⟨by rw[show((0:Nat):Int)=0 from rfl,NV h h0 h1 h2],.inl rfl⟩
  ·exact⟨by rw[show((1:Nat):Int)=1 from rfl,GR h h0 h1 h2],.inr rfl⟩
 ·by_cases hsg:s=g
  ·subst hsg
   rw[wS] at hk
   have:k=0:=by
    have:k<1:=hk
    omega
   subst this
   exact⟨by rw[show((0:Nat):Int)=0 from rfl,Gk h h0 h1 h2],.inl rfl⟩
  ·rw[wQ hsg] at hk
   have:k<2:=hk
   have:k=0∨k=1:=by omega
   rcases this with rfl|rfl
   ·exact⟨by rw[show((0:Nat):Int)=0 from rfl,Ii h h0 h1 h2 hsg],.inl rfl⟩
   ·exact⟨by rw[show((1:Nat):Int)=1 from rfl,Ik h h0 h1 h2 hsg],.inr rfl⟩
theorem OS{v:Int×Int×Int×Int×Int×Int×Int}{s:Int}{o:Int×Int×Int×(Int×Int×(Int×Int×Int×Int×Int)×Int×List Int)×Int}(h:o.1=1):ez (v,s,o)=lh (v,s):=by
 obtain⟨a,b,c,d,e,f,g⟩:=v
 obtain⟨k,w,ch,⟨fk,fr,⟨t,p,m,n,x⟩,ff,fd⟩,at'⟩:=o
 have h:k=1:=h
 subst h
 rfl
theorem Hu{v:Int×Int×Int×Int×Int×Int×Int}{s:Int}{o:Int×Int×Int×(Int×Int×(Int×Int×Int×Int×Int)×Int×List Int)×Int}(h:o.1=2):ez (v,s,o)=FC (v,s):=by
 obtain⟨a,b,c,d,e,f,g⟩:=v
 obtain⟨k,w,ch,⟨fk,fr,⟨t,p,m,n,x⟩,ff,fd⟩,at'⟩:=o
 have h:k=2:=h
 subst h
 rfl
theorem Qh{v:Int×Int×Int×Int×Int×Int×Int}{s:Int}{o:Int×Int×Int×(Int×Int×(Int×Int×Int×Int×Int)×Int×List Int)×Int}(h:o.1=3):ez (v,s,o)=lI (v,s,o.2.1):=by
 obtain⟨a,b,c,d,e,f,g⟩:=v
 obtain⟨k,w,ch,⟨fk,fr,⟨t,p,m,n,x⟩,ff,fd⟩,at'⟩:=o
 have h:k=3:=h
 subst h
 rfl
theorem IC{t p m n x s a b c d e f g:Int}{seen:List (Int×Int×(Int×List Int))}(h:(je ((t,p,m,n,x),(a,b,c,d,e,f,g),s,seen)).2=0) :
  ∃c' d' e' f' g',ez ((a,b,c,d,e,f,g),s,(je ((t,p,m,n,x),(a,b,c,d,e,f,g),s,seen)).1)=((a,b,c',d',e',f',g'),0)∧ia a b c' d' e' f' g'∧jY c' s=((je ((t,p,m,n,x),(a,b,c,d,e,f,g),s,seen)).1.1==3)∧0≤s∧s<b:=by
 obtain⟨h1,h2,h3,h4,h5⟩:=xw h
 have hok:=gv.1 h1
 have h3:s<b:=h3
 have h4:s≠a:=h4
 rcases h5 with ⟨k,hk,h6,h7⟩|h6|h6
 ·obtain⟨he,hk2⟩:=M3 hok h2 h3 h4 hk
  obtain⟨c',d',e',f',g',e1,e2,e3⟩:=Om hok h2 h3 h4 hk2 he
  refine⟨c',d',e',f',g',?_,e2,by rw[e3,h6];rfl,h2,h3⟩
  rw[Qh h6,h7]
  exact Prod.ext e1 he
 ·obtain⟨c',f',g',e1,e2,e3⟩:=xO hok h2 h3 h4
  exact⟨c',d,e,f',g',by rw[OS h6];exact e1,e2,by rw[e3,h6];rfl,h2,h3⟩
 ·obtain⟨c',f',g',e1,e2,e3⟩:=xO hok h2 h3 h4
  have hm:=hok
  unfold ia at hm
  refine⟨c',d,inc e,f',g',?_,ahE e2 (inc_le (by omega) (by omega)),by rw[e3,h6];rfl,h2,h3⟩
  rw[Hu h6]
  exact Ky e1 (show 0≤e by omega) (show e≤1048576 by omega)
def t24(A:a_)(mId:Int)(mN:Int)(mSet:Int)(mAcc:Int)(mFail:Int)(mStage:Int)(mFirst:Int):LT Bool Empty:=.need (A.k (@tt ((Int×Int×Int×Int×Int×Int×Int))) (mId,mN,mSet,mAcc,mFail,mStage,mFirst)) (.br (A.c .eql (A.k iV (mId,mN,mSet,mAcc,mFail,mStage,mFirst)) 0) (.need (A.c .leq 0 mId) (.ret (A.c .eql (A.b .and .i64 (A.b .shr .i64 mSet mId) 1) 1))) (.ret false))
def C9:eT→Bool:=fun(mId,mN,mSet,mAcc,mFail,mStage,mFirst)=>(t24 aj mId mN mSet mAcc mFail mStage mFirst).val (Ty.bE [.bool])
def aiL:aB:=⟨[iK], [.bool],(@tt eT),C9⟩
theorem aeP:Sd 103 aiL:=aJ ax bK true 27 [] (fun A (mId,mN,mSet,mAcc,mFail,mStage,mFirst)=>t24 A mId mN mSet mAcc mFail mStage mFirst) (fc Tryz.func103 fz) (sc EW sz) (fun((mId,mN,mSet,mAcc,mFail,mStage,mFirst):eT) hp h=>by
 show(t24 aj mId mN mSet mAcc mFail mStage mFirst).pre=true
 simp only[t24,LT.pre,cY,aC,aH,ar,ay,aG,aM,aQ,aT,dn,al,bf,aX,bd,bS,bH,Bool.and_eq_true,Bool.or_eq_true,Bool.and_eq_false_iff,Bool.or_eq_false_iff,Bool.not_eq_true',Bool.not_eq_false',decide_eq_true_eq,decide_eq_false_iff_not,bne_iff_ne,beq_iff_eq,bne_eq_false_iff_eq,beq_eq_false_iff_ne]
 simp only[Ty.cB,Ty.has,iH] at h
 (repeat' (first|intro _|constructor))<;>(try (have hm:=gv.1 (by assumption);unfold ia at hm;omega)))
def t36(A:a_)(mId:Int)(mN:Int)(mSet:Int)(mAcc:Int)(mFail:Int)(mStage:Int)(mFirst:Int):LT Bool Empty:=.need (A.k (@tt ((Int×Int×Int×Int×Int×Int×Int))) (mId,mN,mSet,mAcc,mFail,mStage,mFirst)) (.br (A.c .eql (A.k gZ (mId,mN,mSet,mAcc,mFail,mStage,mFirst)) 0) (.need (A.k (@tt Int) mId) (.ret (A.c .neq (A.b .and .i64 mSet (A.k iB mId)) 0))) (.ret false))
def KL:eT→Bool:=fun(mId,mN,mSet,mAcc,mFail,mStage,mFirst)=>(t36 aj mId mN mSet mAcc mFail mStage mFirst).val (Ty.bE [.bool])
def ait:aB:=⟨[iK], [.bool],(@tt eT),KL⟩
theorem agP:Sd 108 ait:=aJ ax bK true 27 [] (fun A (mId,mN,mSet,mAcc,mFail,mStage,mFirst)=>t36 A mId mN mSet mAcc mFail mStage mFirst) (fc Tryz.func108 fz) (sc Fc (sc Js sz)) (fun((mId,mN,mSet,mAcc,mFail,mStage,mFirst):eT) hp h=>by
 show(t36 aj mId mN mSet mAcc mFail mStage mFirst).pre=true
 simp only[t36,LT.pre,cY,aC,aH,ar,ay,aG,aM,aQ,aT,dn,al,bf,aX,bd,bS,bH,Bool.and_eq_true,Bool.or_eq_true,Bool.and_eq_false_iff,Bool.or_eq_false_iff,Bool.not_eq_true',Bool.not_eq_false',decide_eq_true_eq,decide_eq_false_iff_not,bne_iff_ne,beq_iff_eq,bne_eq_false_iff_eq,beq_eq_false_iff_ne]
 simp only[Ty.cB,Ty.has,iH,rA] at h
 (repeat' (first|intro _|constructor))<;>(try omega))
theorem Hd{m:Int×Int×Int×Int×Int×Int×Int}:C9 m=KL m:=by
 obtain⟨a,b,c,d,e,f,g⟩:=m
 have hr:=mW (x:=(a,b,c,d,e,f,g))
 simp only[C9,KL,t24,t36,LT.val,al,JM,aC]
 rcases hr with h|h
 ·have hm:=jw.1 h
  have hc:=Rh hm
  unfold ia at hm
  rw[h]
  simp only[beq_self_eq_true,cond_true,aH]
  rw[OR (by omega) hc (by omega) (by omega),jX (by omega) (by omega)]
  have:=H9 (c:=c) (a:=a) (by omega) hc (by omega) (by omega)
  cases hb:jY c a
  ·rw[this.2 hb];rfl
  ·have h2:aj.b .and .i64 c (aj.b .shl .i64 1 a)≠0:=fun h=>by rw[this.1 h] at hb;cases hb
   simpa using h2
 ·rw[h];rfl
open Go.Ev.Pl
def qD:gj:=(2,0,0,qG,0)
def DK:gj:=(0,0,0,qG,0)
def oL(n:Node)(seen:List Seen):gj×Int:=je (n.2.2.1,n.2.2.2.1,n.2.2.1.2.1,seen)
def nT(m:ao)(n:Node)(o:gj):gj:=bif decide (o.1=3) && !(kI m n.2.2.1 o.2.2.2.1) then qD else o
def pY(n:Node)(v:eT):Node:=(n.1,n.2.1,(n.2.2.1.1,n.2.2.1.2.1,n.2.2.1.2.2.1,n.2.2.1.2.2.2.1,v.2.2.1),v,n.2.2.2.2)
def El(n:Node)(o:gj):eT:=(ez (n.2.2.2.1,n.2.2.1.2.1,o)).1
def rH(m:ao)(n:Node)(f:gb):Node:=(n.1,n.2.1,gf m n.2.2.1 f.2.1,n.2.2.2.1,n.2.2.2.2.1,n.2.2.2.2.2.1,n.2.2.2.2.2.2.1,bif decide (f.1=3) then n.2.2.2.2.2.2.2 else(nu n.2.2.2.2.2.2.2 n.2.2.1.2.1 f.2.2.2.2).1)
def p9(n:Node):Node:=bif decide (n.2.1=4) && !(C9 n.2.2.2.1) then(n.1,3,n.2.2) else n
def Au(m:ao)(n:Node)(o:gj):Node:=p9 (bif decide (o.1=3) then rH m (pY n (El n o)) o.2.2.2.1 else pY n (El n o))
def Cs(m:ao)(n:Node)(seen:List Seen):Node×gj×Int:=bif decide (bU m n=0) then(bif ju n&&decide (¬n.2.2.1.2.1=n.1) then(bif decide ((oL n seen).2=0) then(Au m n (nT m n (oL n seen).1),nT m n (oL n seen).1,0) else(ed,DK,(oL n seen).2)) else(ed,DK,181)) else(ed,DK,bU m n)
theorem Kz{c:cq}{v:eT}{s:Int}{seen:List Seen}(h:(je (c,v,s,seen)).2=0):(ez (v,s,(je (c,v,s,seen)).1)).2=0∧(ez (v,s,qD)).2=0:=by
 obtain⟨t,p,m,n,x⟩:=c
 obtain⟨a,b,c,d,e,f,g⟩:=v
 refine⟨?_,?_⟩
 ·obtain⟨c',d',e',f',g',e1,_⟩:=IC h;rw[e1]
 ·obtain⟨h1,h2,h3,h4,_⟩:=xw h
  have hok:=gv.1 h1
  have h3:s<b:=h3
  have h4:s≠a:=h4
  obtain⟨c',f',g',e1,_⟩:=xO hok h2 h3 h4
  have hm:=hok
  unfold ia at hm
  rw[Hu rfl,Ky e1 (show 0≤e by omega) (show e≤1048576 by omega)]
theorem Hy{m:ao}{n:Node}{f:gb}(hn:bU m n=0)(h:kI m n.2.2.1 f=true):(nu n.2.2.2.2.2.2.2 n.2.2.1.2.1 f.2.2.2.2).2=0:=by
 have hd:=fe.1 (dz hn).2
 simp only[kI,Bool.and_eq_true,decide_eq_true_eq] at h
 have hk:=jD h.1
 have hx:=Mn hk.1 hk.2.1 hk.2.2
 have h8:(f.2.2.2.2.length:Int)≤8:=by
  rw[h.2.2]
  by_cases g:(bQ m n.2.2.1.2.2.1 n.2.2.1.2.1).1=3
  ·rw[decide_eq_true g];exact(by omega:(0:Int)≤8)
  ·rw[decide_eq_false g];exact hx.2
 have e6:=hd.2.2.2.2.2.1
 rw[nu,hd.2.2.2.1,decide_eq_true (show 0≤n.2.2.1.2.1∧n.2.2.1.2.1≤(n.2.2.2.2.2.2.2.2.2.1.length:Int)-1 by rw[e6];exact hk.2.1),decide_eq_false (show ¬8<(f.2.2.2.2.length:Int) by omega)]
 rfl
theorem CU{m:ao}{n:Node}{o:gj}(h:o.1=3)(h2:kI m n.2.2.1 o.2.2.2.1=false):nT m n o=qD:=by rw[nT,decide_eq_true h,h2];rfl
theorem xA{m:ao}{n:Node}{o:gj}(h2:kI m n.2.2.1 o.2.2.2.1=true):nT m n o=o:=by rw[nT,h2,Bool.not_true,Bool.and_false];rfl
theorem F1{m:ao}{n:Node}{o:gj}(h:¬o.1=3):nT m n o=o:=by rw[nT,decide_eq_false h];rfl
theorem A6{Y:Type}{step:Y→LT (Node×gj×Int) Y}{n:Node}{o:gj}{b:Bool}(hb:b=C9 n.2.2.2.1):aA step (.br (aj.c .eql n.2.1 4) (.need true (.br (aj.not b) (.ret ((n.1,3,n.2.2),o,0)) (.ret (n,o,0)))) (.ret (n,o,0))) (p9 n,o,0):=by
 rw[p9]
 refine ap (p:=n.2.1=4) aI (fun h=>af.2 ⟨rfl,?_⟩) fun h=>au (by rw[decide_eq_false h];rfl) (.ret _)
 rw[decide_eq_true h,Bool.true_and,←hb]
 cases b
 ·exact(ai rfl).2 (.ret _)
 ·exact(ah rfl).2 (.ret _)
def Vl(A:a_)(m:ao)(n:Node)(f:gb):LT Node Empty:=.br (A.c .neq f.1 3) (.need (A.k (@tt (bu×Int×List Int)) (n.2.2.2.2.2.2.2,n.2.2.1.2.1,f.2.2.2.2)) (.need (A.k (@tt (ao×cq×Int)) (m,n.2.2.1,f.2.1)) (.ret (n.1,n.2.1,(A.k G_ (m,n.2.2.1,f.2.1)),n.2.2.2.1,n.2.2.2.2.1,n.2.2.2.2.2.1,n.2.2.2.2.2.2.1,(A.k RN (n.2.2.2.2.2.2.2,n.2.2.1.2.1,f.2.2.2.2)).1)))) (.need (A.k (@tt (ao×cq×Int)) (m,n.2.2.1,f.2.1)) (.ret (n.1,n.2.1,(A.k G_ (m,n.2.2.1,f.2.1)),n.2.2.2)))
theorem VE{m:ao}{n:Node}{f:gb}:aA Empty.elim (Vl aj m n f) (rH m n f):=by
 unfold Vl rH
 refine ap (p:=¬f.1=3) aS (fun g=>af.2 ⟨rfl,af.2 ⟨rfl,au ?_ (.ret _)⟩⟩) fun g=>af.2 ⟨rfl,au ?_ (.ret _)⟩
 ·rw[decide_eq_false g];rfl
 ·rw[decide_eq_true (Decidable.not_not.1 g)];rfl
def Kc:(ao×Node×gb)→Node:=fun(m,c,k)=>rH m c k
def abm:aB:=⟨[aY,aW,pX], [aW],(@tt (ao×Node×gb)),Kc⟩
theorem acf:Sd 107 abm:=aF ax bK true 52 [] (fun A (m,n,f)=>Vl A m n f) (fc Tryz.func107 fz) (sc Ru (sc abU sz)) fun(m,n,f) hp h=>VE
structure KV where
 (a0:List Seen) (a1:Int) (a2:ao) (a17:Node)
structure MV where
 (b0:Int) (b1:ao) (dA:Node) (ib:gj)
structure KH where
 (c14:Node)
structure M2 where
 (d0:ao) (mA:Node) (E9:gj)
structure J_ where
 (e14:Node) (e15:gj)
structure JZ where
 (f0:ao) (f15:Node) (f16:gj)
inductive Pj where
 | c0 (p:KV)
 | c1 (p:MV)
 | c2 (p:KH)
 | c3 (p:M2)
 | c4 (p:J_)
 | c5 (p:JZ)
noncomputable def Ug:Pj→fL
 | .c0 p=>⟨[⟨40,111,(en [(2,.sl fA p.a0),(3,.ptr 0 0),(6,.ptr 1 0),(7,.ptr 2 0),(9,.ptr 3 0),(10,vi p.a1)]),[.code (cw Tryz.f40 [1,1,0,0]),.code (cw Tryz.f40 [1,1,0,1]),.code (cw Tryz.f40 [1,1,1])],[],none⟩],[.flat false (dc aY p.a2),.flat false [vi 0,vi 0,vi 0,vi 0,vi 0,vi 0,vi 0,vi 0,vi 0,vi 0,vi 0,vi 0,vi 0,vi 0,vi 0,vb false,vi 0,vi 0,.bi true,.bi true,vi 0,vi 0],.flat false [vi 0,vi 0,vi 0,vi 0,vi 0,vi 0,vi 0,vi 0,vi 0,vi 0,vi 0,.bi true,vi 0],.flat false (dc aW p.a17),.dead]⟩
 | .c1 p=>⟨[⟨40,111,(en [(3,.ptr 0 0),(6,.ptr 1 0),(7,.ptr 2 0),(9,.ptr 3 0),(10,vi p.b0),(11,.ptr 4 0)]),[.code (cw Tryz.f40 [1,1,1,1,0,0]),.code (cw Tryz.f40 [1,1,1,1,0,1]),.code (cw Tryz.f40 [1,1,1,1,1])],[],none⟩],[.flat false (dc aY p.b1),.flat false [vi 0,vi 0,vi 0,vi 0,vi 0,vi 0,vi 0,vi 0,vi 0,vi 0,vi 0,vi 0,vi 0,vi 0,vi 0,vb false,vi 0,vi 0,.bi true,.bi true,vi 0,vi 0],.flat false [vi 0,vi 0,vi 0,vi 0,vi 0,vi 0,vi 0,vi 0,vi 0,vi 0,vi 0,.bi true,vi 0],.flat false (dc aW p.dA),.flat false (dc k6 p.ib),.dead]⟩
 | .c2 p=>⟨[⟨40,111,(en [(6,.ptr 0 0),(7,.ptr 1 0),(9,.ptr 2 0),(11,.ptr 3 0)]),[.code (cw Tryz.f40 [1,1,1,1,1,1,1,1,1,0,0]),.code (cw Tryz.f40 [1,1,1,1,1,1,1,1,1,0,1]),.code (cw Tryz.f40 [1,1,1,1,1,1,1,1,1,1])],[],none⟩],[.flat false [vi 0,vi 0,vi 0,vi 0,vi 0,vi 0,vi 0,vi 0,vi 0,vi 0,vi 0,vi 0,vi 0,vi 0,vi 0,vb false,vi 0,vi 0,.bi true,.bi true,vi 0,vi 0],.flat false [vi 0,vi 0,vi 0,vi 0,vi 0,vi 0,vi 0,vi 0,vi 0,vi 0,vi 0,.bi true,vi 0],.flat false (dc aW p.c14),.flat false [vi 2,vi 0,vi 0,vi 0,vi 0,vi 0,vi 0,vi 0,vi 0,vi 0,vi 0,.bi true,vi 0],.dead]⟩
 | .c3 p=>⟨[⟨40,111,(en [(3,.ptr 0 0),(6,.ptr 1 0),(7,.ptr 2 0),(9,.ptr 3 0),(11,.ptr 4 0)]),[.code (cw Tryz.f40 [1,1,1,1,1,1,1,1,0,1,0,0,0]),.code (cw Tryz.f40 [1,1,1,1,1,1,1,1,0,1,0,0,1]),.code (cw Tryz.f40 [1,1,1,1,1,1,1,1,0,1,0,1]),.code (cw Tryz.f40 [1,1,1,1,1,1,1,1,1])],[],none⟩],[.flat false (dc aY p.d0),.flat false [vi 0,vi 0,vi 0,vi 0,vi 0,vi 0,vi 0,vi 0,vi 0,vi 0,vi 0,vi 0,vi 0,vi 0,vi 0,vb false,vi 0,vi 0,.bi true,.bi true,vi 0,vi 0],.flat false [vi 0,vi 0,vi 0,vi 0,vi 0,vi 0,vi 0,vi 0,vi 0,vi 0,vi 0,.bi true,vi 0],.flat false (dc aW p.mA),.flat false (dc k6 p.E9),.dead]⟩
 | .c4 p=>⟨[⟨40,111,(en [(6,.ptr 0 0),(7,.ptr 1 0),(9,.ptr 2 0),(11,.ptr 3 0)]),[.code (cw Tryz.f40 [1,1,1,1,1,1,1,1,1,0,0]),.code (cw Tryz.f40 [1,1,1,1,1,1,1,1,1,0,1]),.code (cw Tryz.f40 [1,1,1,1,1,1,1,1,1,1])],[],none⟩],[.flat false [vi 0,vi 0,vi 0,vi 0,vi 0,vi 0,vi 0,vi 0,vi 0,vi 0,vi 0,vi 0,vi 0,vi 0,vi 0,vb false,vi 0,vi 0,.bi true,.bi true,vi 0,vi 0],.flat false [vi 0,vi 0,vi 0,vi 0,vi 0,vi 0,vi 0,vi 0,vi 0,vi 0,vi 0,.bi true,vi 0],.flat false (dc aW p.e14),.flat false (dc k6 p.e15),.dead]⟩
 | .c5 p=>⟨[⟨40,111,(en [(3,.ptr 0 0),(6,.ptr 1 0),(7,.ptr 2 0),(9,.ptr 3 0),(11,.ptr 4 0)]),[.code (cw Tryz.f40 [1,1,1,1,1,1,1,1,0,1,0,1]),.code (cw Tryz.f40 [1,1,1,1,1,1,1,1,1])],[],none⟩],[.flat false (dc aY p.f0),.flat false [vi 0,vi 0,vi 0,vi 0,vi 0,vi 0,vi 0,vi 0,vi 0,vi 0,vi 0,vi 0,vi 0,vi 0,vi 0,vb false,vi 0,vi 0,.bi true,.bi true,vi 0,vi 0],.flat false [vi 0,vi 0,vi 0,vi 0,vi 0,vi 0,vi 0,vi 0,vi 0,vi 0,vi 0,.bi true,vi 0],.flat false (dc aW p.f15),.flat false (dc k6 p.f16),.dead]⟩
def Wo(A:a_)(m:ao)(n:Node)(seen:List Seen):LT (Node×gj×Int) Pj:=.need (A.k (@tt Node) n) (.br (A.k mC n) (.need (A.k (@tt (ao×Node×Bool)) (m,n,(A.c .neq n.2.2.1.2.1 n.1))) (.need (A.k (@tt (ao×Node×Bool)) (m,n,(A.c .neq n.2.2.1.2.1 n.1))) (.eqs (((A.k mC n):Bool)=true) (.need (A.k (@tt Node) n) (.more (.c0 ⟨seen,(A.k iU (m,n,(A.c .neq n.2.2.1.2.1 n.1))).2,m,(A.k iU (m,n,(A.c .neq n.2.2.1.2.1 n.1))).1⟩)))))) (.need (A.k (@tt (ao×Node×Bool)) (m,n,false)) (.need (A.k (@tt (ao×Node×Bool)) (m,n,false)) (.eqs (((A.k mC n):Bool)=false) (.need (A.k (@tt Node) n) (.more (.c0 ⟨seen,(A.k iU (m,n,false)).2,m,(A.k iU (m,n,false)).1⟩)))))))
def qM(A:a_):Pj→LT (Node×gj×Int) Pj
 | .c0 p=>.br (A.c .neq p.a1 0) (.ret ((0,0,(0,0,0,0,0),(0,0,0,0,0,0,0),0,false,0,0,([]:List Int),([]:List aU),0,0),(0,0,0,(0,0,(0,0,0,0,0),0,([]:List Int)),0),p.a1)) (.need (A.k (@tt ((Int×Int×Int×Int×Int)×(Int×Int×Int×Int×Int×Int×Int)×Int×List (Int×Int×(Int×List Int)))) (p.a17.2.2.1,p.a17.2.2.2.1,p.a17.2.2.1.2.1,p.a0)) (.more (.c1 ⟨(A.k lg (p.a17.2.2.1,p.a17.2.2.2.1,p.a17.2.2.1.2.1,p.a0)).2,p.a2,p.a17,(A.k lg (p.a17.2.2.1,p.a17.2.2.2.1,p.a17.2.2.1.2.1,p.a0)).1⟩)))
 | .c1 p=>.br (A.c .neq p.b0 0) (.ret ((0,0,(0,0,0,0,0),(0,0,0,0,0,0,0),0,false,0,0,([]:List Int),([]:List aU),0,0),(0,0,0,(0,0,(0,0,0,0,0),0,([]:List Int)),0),p.b0)) (.br (A.c .eql p.ib.1 3) (.need (A.k (@tt (ao×cq×gb)) (p.b1,p.dA.2.2.1,p.ib.2.2.2.1)) (.br (A.not (A.k G5 (p.b1,p.dA.2.2.1,p.ib.2.2.2.1))) (.need (A.k (@tt ((Int×Int×Int×Int×Int×Int×Int)×Int×(Int×Int×Int×(Int×Int×(Int×Int×Int×Int×Int)×Int×List Int)×Int))) (p.dA.2.2.2.1,p.dA.2.2.1.2.1,2,0,0,(0,0,(0,0,0,0,0),0,([]:List Int)),0)) (.br (A.c .neq (A.k ez (p.dA.2.2.2.1,p.dA.2.2.1.2.1,2,0,0,(0,0,(0,0,0,0,0),0,([]:List Int)),0)).2 0) (.ret ((0,0,(0,0,0,0,0),(0,0,0,0,0,0,0),0,false,0,0,([]:List Int),([]:List aU),0,0),(0,0,0,(0,0,(0,0,0,0,0),0,([]:List Int)),0),(A.k ez (p.dA.2.2.2.1,p.dA.2.2.1.2.1,2,0,0,(0,0,(0,0,0,0,0),0,([]:List Int)),0)).2)) (.more (.c2 ⟨(p.dA.1,p.dA.2.1,(p.dA.2.2.1.1,p.dA.2.2.1.2.1,p.dA.2.2.1.2.2.1,p.dA.2.2.1.2.2.2.1,(A.k ez (p.dA.2.2.2.1,p.dA.2.2.1.2.1,2,0,0,(0,0,(0,0,0,0,0),0,([]:List Int)),0)).1.2.2.1),(A.k ez (p.dA.2.2.2.1,p.dA.2.2.1.2.1,2,0,0,(0,0,(0,0,0,0,0),0,([]:List Int)),0)).1,p.dA.2.2.2.2)⟩)))) (.need (A.k (@tt ((Int×Int×Int×Int×Int×Int×Int)×Int×(Int×Int×Int×(Int×Int×(Int×Int×Int×Int×Int)×Int×List Int)×Int))) (p.dA.2.2.2.1,p.dA.2.2.1.2.1,p.ib)) (.br (A.c .neq (A.k ez (p.dA.2.2.2.1,p.dA.2.2.1.2.1,p.ib)).2 0) (.ret ((0,0,(0,0,0,0,0),(0,0,0,0,0,0,0),0,false,0,0,([]:List Int),([]:List aU),0,0),(0,0,0,(0,0,(0,0,0,0,0),0,([]:List Int)),0),(A.k ez (p.dA.2.2.2.1,p.dA.2.2.1.2.1,p.ib)).2)) (.br (A.c .eql p.ib.1 3) (.more (.c3 ⟨p.b1,(p.dA.1,p.dA.2.1,(p.dA.2.2.1.1,p.dA.2.2.1.2.1,p.dA.2.2.1.2.2.1,p.dA.2.2.1.2.2.2.1,(A.k ez (p.dA.2.2.2.1,p.dA.2.2.1.2.1,p.ib)).1.2.2.1),(A.k ez (p.dA.2.2.2.1,p.dA.2.2.1.2.1,p.ib)).1,p.dA.2.2.2.2),p.ib⟩)) (.more (.c4 ⟨(p.dA.1,p.dA.2.1,(p.dA.2.2.1.1,p.dA.2.2.1.2.1,p.dA.2.2.1.2.2.1,p.dA.2.2.1.2.2.2.1,(A.k ez (p.dA.2.2.2.1,p.dA.2.2.1.2.1,p.ib)).1.2.2.1),(A.k ez (p.dA.2.2.2.1,p.dA.2.2.1.2.1,p.ib)).1,p.dA.2.2.2.2),p.ib⟩))))))) (.need (A.k (@tt ((Int×Int×Int×Int×Int×Int×Int)×Int×(Int×Int×Int×(Int×Int×(Int×Int×Int×Int×Int)×Int×List Int)×Int))) (p.dA.2.2.2.1,p.dA.2.2.1.2.1,p.ib)) (.br (A.c .neq (A.k ez (p.dA.2.2.2.1,p.dA.2.2.1.2.1,p.ib)).2 0) (.ret ((0,0,(0,0,0,0,0),(0,0,0,0,0,0,0),0,false,0,0,([]:List Int),([]:List aU),0,0),(0,0,0,(0,0,(0,0,0,0,0),0,([]:List Int)),0),(A.k ez (p.dA.2.2.2.1,p.dA.2.2.1.2.1,p.ib)).2)) (.br (A.c .eql p.ib.1 3) (.more (.c3 ⟨p.b1,(p.dA.1,p.dA.2.1,(p.dA.2.2.1.1,p.dA.2.2.1.2.1,p.dA.2.2.1.2.2.1,p.dA.2.2.1.2.2.2.1,(A.k ez (p.dA.2.2.2.1,p.dA.2.2.1.2.1,p.ib)).1.2.2.1),(A.k ez (p.dA.2.2.2.1,p.dA.2.2.1.2.1,p.ib)).1,p.dA.2.2.2.2),p.ib⟩)) (.more (.c4 ⟨(p.dA.1,p.dA.2.1,(p.dA.2.2.1.1,p.dA.2.2.1.2.1,p.dA.2.2.1.2.2.1,p.dA.2.2.1.2.2.2.1,(A.k ez (p.dA.2.2.2.1,p.dA.2.2.1.2.1,p.ib)).1.2.2.1),(A.k ez (p.dA.2.2.2.1,p.dA.2.2.1.2.1,p.ib)).1,p.dA.2.2.2.2),p.ib⟩))))))
 | .c2 p=>.br (A.c .eql p.c14.2.1 4) (.need (A.k (@tt eT) p.c14.2.2.2.1) (.br (A.not (A.k C9 p.c14.2.2.2.1)) (.ret ((p.c14.1,3,p.c14.2.2),(2,0,0,(0,0,(0,0,0,0,0),0,([]:List Int)),0),0)) (.ret (p.c14,(2,0,0,(0,0,(0,0,0,0,0),0,([]:List Int)),0),0)))) (.ret (p.c14,(2,0,0,(0,0,(0,0,0,0,0),0,([]:List Int)),0),0))
 | .c3 p=>.br (A.c .neq p.E9.2.2.2.1.1 3) (.need (A.k (@tt (bu×Int×List Int)) (p.mA.2.2.2.2.2.2.2,p.mA.2.2.1.2.1,p.E9.2.2.2.1.2.2.2.2)) (.need (A.k (@tt (bu×Int×List Int)) (p.mA.2.2.2.2.2.2.2,p.mA.2.2.1.2.1,p.E9.2.2.2.1.2.2.2.2)) (.br (A.c .eql (A.k lK (p.mA.2.2.2.2.2.2.2,p.mA.2.2.1.2.1,p.E9.2.2.2.1.2.2.2.2)).2 0) (.more (.c5 ⟨p.d0,(p.mA.1,p.mA.2.1,p.mA.2.2.1,p.mA.2.2.2.1,p.mA.2.2.2.2.1,p.mA.2.2.2.2.2.1,p.mA.2.2.2.2.2.2.1,(A.k lK (p.mA.2.2.2.2.2.2.2,p.mA.2.2.1.2.1,p.E9.2.2.2.1.2.2.2.2)).1),p.E9⟩)) (.more (.c5 ⟨p.d0,p.mA,p.E9⟩))))) (.more (.c5 ⟨p.d0,p.mA,p.E9⟩))
 | .c4 p=>.br (A.c .eql p.e14.2.1 4) (.need (A.k (@tt eT) p.e14.2.2.2.1) (.br (A.not (A.k C9 p.e14.2.2.2.1)) (.ret ((p.e14.1,3,p.e14.2.2),p.e15,0)) (.ret (p.e14,p.e15,0)))) (.ret (p.e14,p.e15,0))
 | .c5 p=>.need (A.k (@tt (ao×cq×Int)) (p.f0,p.f15.2.2.1,p.f16.2.2.2.1.2.1)) (.need (A.k (@tt (ao×cq×Int)) (p.f0,p.f15.2.2.1,p.f16.2.2.2.1.2.1)) (.br (A.c .eql (A.k gD (p.f0,p.f15.2.2.1,p.f16.2.2.2.1.2.1)).2 0) (.more (.c4 ⟨(p.f15.1,p.f15.2.1,(A.k gD (p.f0,p.f15.2.2.1,p.f16.2.2.2.1.2.1)).1,p.f15.2.2.2),p.f16⟩)) (.more (.c4 ⟨p.f15,p.f16⟩))))
theorem Fp{p:J_}:aA (qM aj) (.more (.c4 p)) (p9 p.e14,p.e15,0):=by
 rw[ak,qM];exact A6 rfl
theorem SN{p:KH}:aA (qM aj) (.more (.c2 p)) (p9 p.c14,qD,0):=by
 rw[ak,qM];exact A6 rfl
theorem J7{p:JZ}:aA (qM aj) (.more (.c5 p)) (p9 (p.f15.1,p.f15.2.1,gf p.f0 p.f15.2.2.1 p.f16.2.2.2.1.2.1,p.f15.2.2.2),p.f16,0):=by
 rw[ak,qM,gf]
 refine af.2 ⟨rfl,af.2 ⟨rfl,?_⟩⟩
 rw[show ∀x,aj.k gD x=lF x.1 x.2.1 x.2.2 from fun _=>rfl]
 refine ap (p:=(lF p.f0 p.f15.2.2.1 p.f16.2.2.2.1.2.1).2=0) aI (fun g=>?_) fun g=>?_
 ·rw[decide_eq_true g];exact Fp
 ·rw[decide_eq_false g];exact Fp
theorem TW{p:M2}(h:(nu p.mA.2.2.2.2.2.2.2 p.mA.2.2.1.2.1 p.E9.2.2.2.1.2.2.2.2).2=0):aA (qM aj) (.more (.c3 p)) (p9 (rH p.d0 p.mA p.E9.2.2.2.1),p.E9,0):=by
 rw[ak,qM,rH]
 refine ap (p:=¬p.E9.2.2.2.1.1=3) aS (fun g=>af.2 ⟨rfl,af.2 ⟨rfl,?_⟩⟩) fun g=>?_
 ·rw[decide_eq_false g,show ∀x,aj.k lK x=nu x.1 x.2.1 x.2.2 from fun _=>rfl]
  exact(ai (F9 h)).2 J7
 ·rw[decide_eq_true (Decidable.not_not.1 g)];exact J7
theorem Xp{p:MV}{m:ao}{n:Node}{S:gj×Int}(h0:p.b0=S.2)(h1:p.b1=m)(h2:p.dA=n)(h3:p.ib=S.1)(hn:bU m n=0)(ha:S.2=0→(ez (n.2.2.2.1,n.2.2.1.2.1,S.1)).2=0∧(ez (n.2.2.2.1,n.2.2.1.2.1,qD)).2=0):aA (qM aj) (.more (.c1 p)) (bif decide (S.2=0) then(Au m n (nT m n S.1),nT m n S.1,0) else(ed,DK,S.2)):=by
 subst h1 h2
 rw[ak,qM,h0,h3]
 refine ap (p:=¬S.2=0) aS (fun g=>au (by rw[decide_eq_false g];rfl) (.ret _)) fun g=>?_
 have g:=Decidable.not_not.1 g
 obtain⟨a1,a2⟩:=ha g
 rw[decide_eq_true g,cond_true]
 rw[show aj.k G5 (p.b1,p.dA.2.2.1,S.1.2.2.2.1)=kI p.b1 p.dA.2.2.1 S.1.2.2.2.1 from rfl]
 have e1:aj.c .neq (aj.k ez (p.dA.2.2.2.1,p.dA.2.2.1.2.1,S.1)).2 0=false:=by rw[al,a1];rfl
 have e2:aj.c .neq (aj.k ez (p.dA.2.2.2.1,p.dA.2.2.1.2.1,2,0,0,(0,0,(0,0,0,0,0),0,([]:List Int)),0)).2 0=false:=by rw[al];unfold qD qG at a2;rw[a2];rfl
 refine ap (p:=S.1.1=3) aI (fun k=>af.2 ⟨rfl,?_⟩) fun k=>af.2 ⟨rfl,(ah e1).2 ((ah (by rw[aI];exact decide_eq_false k)).2 ?_)⟩
 ·cases hl:kI p.b1 p.dA.2.2.1 S.1.2.2.2.1
  ·refine(ai rfl).2 (af.2 ⟨rfl,(ah e2).2 ?_⟩)
   rw[CU k hl];exact SN (p:=⟨pY p.dA (El p.dA qD)⟩)
  ·refine(ah rfl).2 (af.2 ⟨rfl,(ah e1).2 ((ai (by rw[aI];exact decide_eq_true k)).2 ?_)⟩)
   rw[xA hl,Au,decide_eq_true k]
   have hv:=Hy hn hl
   exact TW (p:=⟨p.b1,pY p.dA (El p.dA S.1),S.1⟩) hv
 ·rw[F1 k,Au,decide_eq_false k];exact Fp (p:=⟨pY p.dA (El p.dA S.1),S.1⟩)
theorem ag7{m:ao}{n:Node}{seen:List Seen}:aA (qM aj) (Wo aj m n seen) (Cs m n seen):=by
 unfold Wo Cs
 rw[show aj.k mC n=ju n from rfl]
 refine af.2 ⟨rfl,?_⟩
 have no:∀q:KV,q.a1=(kU m n false).2→aA (qM aj) (.more (.c0 q)) (bif decide (bU m n=0) then(ed,DK,181) else(ed,DK,bU m n)):=fun q hq=>by
  rw[ak,qM,hq,kU]
  by_cases h:bU m n=0
  ·rw[decide_eq_true h];exact(ai rfl).2 (.ret _)
  ·rw[decide_eq_false h];exact(ai (fw h)).2 (.ret _)
 cases hi:ju n
 ·exact(ah rfl).2 (af.2 ⟨rfl,af.2 ⟨rfl,fo.2 ⟨rfl,af.2 ⟨rfl,no _ rfl⟩⟩⟩⟩)
 ·refine(ai rfl).2 (af.2 ⟨rfl,af.2 ⟨rfl,fo.2 ⟨rfl,af.2 ⟨rfl,?_⟩⟩⟩⟩)
  rw[show ∀w,aj.k iU (m,n,w)=kU m n w from fun _=>rfl,aS,Bool.true_and]
  by_cases hp:n.2.2.1.2.1=n.1
  ·rw[decide_eq_false (show ¬¬n.2.2.1.2.1=n.1 from fun k=>k hp)];exact no _ rfl
  ·rw[decide_eq_true hp,cond_true]
   by_cases h:bU m n=0
   ·have e:kU m n true=(n,0):=by rw[kU,decide_eq_true h];rfl
    rw[decide_eq_true h,e,cond_true,ak,qM]
    exact(ah rfl).2 (af.2 ⟨rfl,Xp (S:=oL n seen) rfl rfl rfl rfl h fun g=>Kz (c:=n.2.2.1) (v:=n.2.2.2.1) (s:=n.2.2.1.2.1) (seen:=seen) g⟩)
   ·have:=no ⟨seen,(kU m n true).2,m,(kU m n true).1⟩ (by rw[kU,kU,decide_eq_false h];rfl)
    rw[decide_eq_false h] at this ⊢
    exact this
def vp:(ao×Node×List Seen)→(Node×gj×Int):=fun(m,c,k)=>Cs m c k
def aed:aB:=⟨[aY,aW,(.slice fA)], [aW,k6,yI],(@tt (ao×Node×List Seen)),vp⟩
theorem ab3:Sd 40 aed:=aL ax bK true 38 [] [⟨40,2, [[2,3,6,7,9,10]]⟩,⟨40,5, [[3,6,7,9,10,11]]⟩,⟨40,14, [[3,6,7,9,11]]⟩,⟨40,16, [[3,6,7,9,11]]⟩,⟨40,17, [[6,7,9,11]]⟩] (fun A (m,n,seen)=>Wo A m n seen) qM Ug (fc Tryz.func40 (fc Tryz.func101 (fc Tryz.func102 fz))) (sc aeP (sc aaN (sc aeM (sc LF (sc LB (sc RB (sc G3 (sc Bt sz)))))))) (fun A y=>match y with |.c0 p=>⟨31,by kernel_rfl,by kernel_rfl⟩|.c1 p=>⟨76,by kernel_rfl,by kernel_rfl⟩|.c2 p=>⟨29,by kernel_rfl,by kernel_rfl⟩|.c3 p=>⟨56,by kernel_rfl,by kernel_rfl⟩|.c4 p=>⟨29,by kernel_rfl,by kernel_rfl⟩|.c5 p=>⟨48,by kernel_rfl,by kernel_rfl⟩) fun(m,n,seen) hp h=>ag7
structure Xy where
 (a0:ao) (a1:Node)
structure N5 where
 (b0:ao) (b1:Node) (dA:gj)
structure Mh where
 (c0:Node)
structure M8 where
 (d0:Node) (mA:gj)
inductive QH where
 | c0 (p:Xy)
 | c1 (p:N5)
 | c2 (p:Mh)
 | c3 (p:M8)
noncomputable def U0:QH→fL
 | .c0 p=>⟨[⟨41,101,(en [(3,.ptr 0 0),(4,.ptr 1 0),(6,.ptr 2 0),(7,.ptr 3 0),(10,.ptr 4 0)]),[.code (cw Tryz.f41 [1,1,1,1,1,1,1,1,1,0,0]),.code (cw Tryz.f41 [1,1,1,1,1,1,1,1,1,0,1]),.code (cw Tryz.f41 [1,1,1,1,1,1,1,1,1,1])],[],none⟩],[.flat false (dc aY p.a0),.flat false (dc aW p.a1),.flat false [vi 0,vi 0,vi 0,vi 0,vi 0,vi 0,vi 0,vi 0,vi 0,vi 0,vi 0,vi 0,vi 0,vi 0,vi 0,vb false,vi 0,vi 0,.bi true,.bi true,vi 0,vi 0],.flat false [vi 0,vi 0,vi 0,vi 0,vi 0,vi 0,vi 0,vi 0,vi 0,vi 0,vi 0,.bi true,vi 0],.flat false [vi 2,vi 0,vi 0,vi 0,vi 0,vi 0,vi 0,vi 0,vi 0,vi 0,vi 0,.bi true,vi 0],.dead]⟩
 | .c1 p=>⟨[⟨41,101,(en [(3,.ptr 0 0),(4,.ptr 1 0),(6,.ptr 2 0),(7,.ptr 3 0),(10,.ptr 4 0)]),[.code (cw Tryz.f41 [1,1,1,1,1,1,1,1,1,0,0]),.code (cw Tryz.f41 [1,1,1,1,1,1,1,1,1,0,1]),.code (cw Tryz.f41 [1,1,1,1,1,1,1,1,1,1])],[],none⟩],[.flat false (dc aY p.b0),.flat false (dc aW p.b1),.flat false [vi 0,vi 0,vi 0,vi 0,vi 0,vi 0,vi 0,vi 0,vi 0,vi 0,vi 0,vi 0,vi 0,vi 0,vi 0,vb false,vi 0,vi 0,.bi true,.bi true,vi 0,vi 0],.flat false [vi 0,vi 0,vi 0,vi 0,vi 0,vi 0,vi 0,vi 0,vi 0,vi 0,vi 0,.bi true,vi 0],.flat false (dc k6 p.dA),.dead]⟩
 | .c2 p=>⟨[⟨41,101,(en [(4,.ptr 0 0),(6,.ptr 1 0),(7,.ptr 2 0),(10,.ptr 3 0)]),[.code (cw Tryz.f41 [1,1,1,1,1,1,1,1,1,1,0,0]),.code (cw Tryz.f41 [1,1,1,1,1,1,1,1,1,1,0,1]),.code (cw Tryz.f41 [1,1,1,1,1,1,1,1,1,1,1])],[],none⟩],[.flat false (dc aW p.c0),.flat false [vi 0,vi 0,vi 0,vi 0,vi 0,vi 0,vi 0,vi 0,vi 0,vi 0,vi 0,vi 0,vi 0,vi 0,vi 0,vb false,vi 0,vi 0,.bi true,.bi true,vi 0,vi 0],.flat false [vi 0,vi 0,vi 0,vi 0,vi 0,vi 0,vi 0,vi 0,vi 0,vi 0,vi 0,.bi true,vi 0],.flat false [vi 2,vi 0,vi 0,vi 0,vi 0,vi 0,vi 0,vi 0,vi 0,vi 0,vi 0,.bi true,vi 0],.dead]⟩
 | .c3 p=>⟨[⟨41,101,(en [(4,.ptr 0 0),(6,.ptr 1 0),(7,.ptr 2 0),(10,.ptr 3 0)]),[.code (cw Tryz.f41 [1,1,1,1,1,1,1,1,1,1,0,0]),.code (cw Tryz.f41 [1,1,1,1,1,1,1,1,1,1,0,1]),.code (cw Tryz.f41 [1,1,1,1,1,1,1,1,1,1,1])],[],none⟩],[.flat false (dc aW p.d0),.flat false [vi 0,vi 0,vi 0,vi 0,vi 0,vi 0,vi 0,vi 0,vi 0,vi 0,vi 0,vi 0,vi 0,vi 0,vi 0,vb false,vi 0,vi 0,.bi true,.bi true,vi 0,vi 0],.flat false [vi 0,vi 0,vi 0,vi 0,vi 0,vi 0,vi 0,vi 0,vi 0,vi 0,vi 0,.bi true,vi 0],.flat false (dc k6 p.mA),.dead]⟩
def VL(A:a_)(m:ao)(n:Node)(seen:List Seen):LT (Node×gj×Int) QH:=.need (A.k (@tt (ao×Node)) (m,n)) (.br (A.c .neq (A.k gg (m,n)) 0) (.ret ((0,0,(0,0,0,0,0),(0,0,0,0,0,0,0),0,false,0,0,([]:List Int),([]:List aU),0,0),(0,0,0,(0,0,(0,0,0,0,0),0,([]:List Int)),0),(A.k gg (m,n)))) (.need (A.k (@tt Node) n) (.br (A.not (A.k lV n)) (.ret ((0,0,(0,0,0,0,0),(0,0,0,0,0,0,0),0,false,0,0,([]:List Int),([]:List aU),0,0),(0,0,0,(0,0,(0,0,0,0,0),0,([]:List Int)),0),181)) (.br (A.c .eql n.2.2.1.2.1 n.1) (.ret ((0,0,(0,0,0,0,0),(0,0,0,0,0,0,0),0,false,0,0,([]:List Int),([]:List aU),0,0),(0,0,0,(0,0,(0,0,0,0,0),0,([]:List Int)),0),181)) (.need (A.k (@tt ((Int×Int×Int×Int×Int)×(Int×Int×Int×Int×Int×Int×Int)×Int×List (Int×Int×(Int×List Int)))) (n.2.2.1,n.2.2.2.1,n.2.2.1.2.1,seen)) (.br (A.c .neq (A.k qw (n.2.2.1,n.2.2.2.1,n.2.2.1.2.1,seen)).2 0) (.ret ((0,0,(0,0,0,0,0),(0,0,0,0,0,0,0),0,false,0,0,([]:List Int),([]:List aU),0,0),(0,0,0,(0,0,(0,0,0,0,0),0,([]:List Int)),0),(A.k qw (n.2.2.1,n.2.2.2.1,n.2.2.1.2.1,seen)).2)) (.br (A.c .eql (A.k qw (n.2.2.1,n.2.2.2.1,n.2.2.1.2.1,seen)).1.1 3) (.need (A.k (@tt (ao×cq×gb)) (m,n.2.2.1,(A.k qw (n.2.2.1,n.2.2.2.1,n.2.2.1.2.1,seen)).1.2.2.2.1)) (.br (A.not (A.k Oz (m,n.2.2.1,(A.k qw (n.2.2.1,n.2.2.2.1,n.2.2.1.2.1,seen)).1.2.2.2.1))) (.need (A.k ml n) (.need (A.k (@tt ((Int×Int×Int×Int×Int×Int×Int)×Int×(Int×Int×Int×(Int×Int×(Int×Int×Int×Int×Int)×Int×List Int)×Int))) ((A.k aD n).2.2.2.1,(A.k aD n).2.2.1.2.1,2,0,0,(0,0,(0,0,0,0,0),0,([]:List Int)),0)) (.more (.c0 ⟨m,((A.k aD n).1,(A.k aD n).2.1,((A.k aD n).2.2.1.1,(A.k aD n).2.2.1.2.1,(A.k aD n).2.2.1.2.2.1,(A.k aD n).2.2.1.2.2.2.1,(A.k AF ((A.k aD n).2.2.2.1,(A.k aD n).2.2.1.2.1,2,0,0,(0,0,(0,0,0,0,0),0,([]:List Int)),0)).1.2.2.1),(A.k AF ((A.k aD n).2.2.2.1,(A.k aD n).2.2.1.2.1,2,0,0,(0,0,(0,0,0,0,0),0,([]:List Int)),0)).1,(A.k aD n).2.2.2.2)⟩)))) (.need (A.k ml n) (.need (A.k (@tt ((Int×Int×Int×Int×Int×Int×Int)×Int×(Int×Int×Int×(Int×Int×(Int×Int×Int×Int×Int)×Int×List Int)×Int))) ((A.k aD n).2.2.2.1,(A.k aD n).2.2.1.2.1,(A.k qw (n.2.2.1,n.2.2.2.1,n.2.2.1.2.1,seen)).1)) (.more (.c1 ⟨m,((A.k aD n).1,(A.k aD n).2.1,((A.k aD n).2.2.1.1,(A.k aD n).2.2.1.2.1,(A.k aD n).2.2.1.2.2.1,(A.k aD n).2.2.1.2.2.2.1,(A.k AF ((A.k aD n).2.2.2.1,(A.k aD n).2.2.1.2.1,(A.k qw (n.2.2.1,n.2.2.2.1,n.2.2.1.2.1,seen)).1)).1.2.2.1),(A.k AF ((A.k aD n).2.2.2.1,(A.k aD n).2.2.1.2.1,(A.k qw (n.2.2.1,n.2.2.2.1,n.2.2.1.2.1,seen)).1)).1,(A.k aD n).2.2.2.2),(A.k qw (n.2.2.1,n.2.2.2.1,n.2.2.1.2.1,seen)).1⟩)))))) (.need (A.k ml n) (.need (A.k (@tt ((Int×Int×Int×Int×Int×Int×Int)×Int×(Int×Int×Int×(Int×Int×(Int×Int×Int×Int×Int)×Int×List Int)×Int))) ((A.k aD n).2.2.2.1,(A.k aD n).2.2.1.2.1,(A.k qw (n.2.2.1,n.2.2.2.1,n.2.2.1.2.1,seen)).1)) (.more (.c1 ⟨m,((A.k aD n).1,(A.k aD n).2.1,((A.k aD n).2.2.1.1,(A.k aD n).2.2.1.2.1,(A.k aD n).2.2.1.2.2.1,(A.k aD n).2.2.1.2.2.2.1,(A.k AF ((A.k aD n).2.2.2.1,(A.k aD n).2.2.1.2.1,(A.k qw (n.2.2.1,n.2.2.2.1,n.2.2.1.2.1,seen)).1)).1.2.2.1),(A.k AF ((A.k aD n).2.2.2.1,(A.k aD n).2.2.1.2.1,(A.k qw (n.2.2.1,n.2.2.2.1,n.2.2.1.2.1,seen)).1)).1,(A.k aD n).2.2.2.2),(A.k qw (n.2.2.1,n.2.2.2.1,n.2.2.1.2.1,seen)).1⟩)))))))))))
def C_(A:a_):QH→LT (Node×gj×Int) QH
 | .c0 p=>.br (A.c .eql 2 3) (.need (A.k (@tt (ao×Node×gb)) (p.a0,p.a1,0,0,(0,0,0,0,0),0,([]:List Int))) (.more (.c2 ⟨(A.k Kc (p.a0,p.a1,0,0,(0,0,0,0,0),0,([]:List Int)))⟩))) (.more (.c2 ⟨p.a1⟩))
 | .c1 p=>.br (A.c .eql p.dA.1 3) (.need (A.k (@tt (ao×Node×gb)) (p.b0,p.b1,p.dA.2.2.2.1)) (.more (.c3 ⟨(A.k Kc (p.b0,p.b1,p.dA.2.2.2.1)),p.dA⟩))) (.more (.c3 ⟨p.b1,p.dA⟩))
 | .c2 p=>.br (A.c .eql p.c0.2.1 4) (.need (A.k (@tt eT) p.c0.2.2.2.1) (.br (A.not (A.k KL p.c0.2.2.2.1)) (.ret ((p.c0.1,3,p.c0.2.2),(2,0,0,(0,0,(0,0,0,0,0),0,([]:List Int)),0),0)) (.ret (p.c0,(2,0,0,(0,0,(0,0,0,0,0),0,([]:List Int)),0),0)))) (.ret (p.c0,(2,0,0,(0,0,(0,0,0,0,0),0,([]:List Int)),0),0))
 | .c3 p=>.br (A.c .eql p.d0.2.1 4) (.need (A.k (@tt eT) p.d0.2.2.2.1) (.br (A.not (A.k KL p.d0.2.2.2.1)) (.ret ((p.d0.1,3,p.d0.2.2),p.mA,0)) (.ret (p.d0,p.mA,0)))) (.ret (p.d0,p.mA,0))
theorem GM{p:M8}:aA (C_ aj) (.more (.c3 p)) (p9 p.d0,p.mA,0):=by
 rw[ak,C_];exact A6 (Hd).symm
theorem Qc{p:Mh}:aA (C_ aj) (.more (.c2 p)) (p9 p.c0,qD,0):=by
 rw[ak,C_];exact A6 (Hd).symm
theorem GA{p:N5}:aA (C_ aj) (.more (.c1 p)) (p9 (bif decide (p.dA.1=3) then rH p.b0 p.b1 p.dA.2.2.2.1 else p.b1),p.dA,0):=by
 rw[ak,C_]
 refine ap (p:=p.dA.1=3) aI (fun g=>af.2 ⟨rfl,?_⟩) fun g=>?_
 ·rw[decide_eq_true g];exact GM
 ·rw[decide_eq_false g];exact GM
theorem aaD{m:ao}{n:Node}{seen:List Seen}:aA (C_ aj) (VL aj m n seen) (Cs m n seen):=by
 unfold VL Cs
 refine af.2 ⟨rfl,?_⟩
 rw[show aj.k gg (m,n)=bU m n from rfl,show aj.k aD n=n from rfl,show aj.k lV n=ju n from rfl,show aj.k qw (n.2.2.1,n.2.2.2.1,n.2.2.1.2.1,seen)=oL n seen from rfl,show aj.k Oz (m,n.2.2.1,(oL n seen).1.2.2.2.1)=kI m n.2.2.1 (oL n seen).1.2.2.2.1 from rfl]
 have e63:∀o:gj,aj.k AF (n.2.2.2.1,n.2.2.1.2.1,o)=ez (n.2.2.2.1,n.2.2.1.2.1,o):=fun _=>by rw[al];exact Fj
 rw[e63,e63]
 generalize oL n seen=S
 by_cases h:bU m n=0
 ·rw[decide_eq_true h,cond_true]
  refine(ah (gY h)).2 (af.2 ⟨rfl,?_⟩)
  cases hi:ju n
  ·exact(ai rfl).2 (.ret _)
  refine(ah rfl).2 (ap (p:=n.2.2.1.2.1=n.1) aI (fun hp=>au (by rw[decide_eq_false (show ¬¬n.2.2.1.2.1=n.1 from fun k=>k hp)];rfl) (.ret _)) fun hp=>af.2 ⟨rfl,?_⟩)
  rw[decide_eq_true hp,Bool.true_and,cond_true]
  refine ap (p:=¬S.2=0) aS (fun g=>au (by rw[decide_eq_false g];rfl) (.ret _)) fun g=>?_
  rw[decide_eq_true (Decidable.not_not.1 g),cond_true]
  refine ap (p:=S.1.1=3) aI (fun k=>af.2 ⟨rfl,?_⟩) fun k=>af.2 ⟨fY h,af.2 ⟨rfl,?_⟩⟩
  ·cases hl:kI m n.2.2.1 S.1.2.2.2.1
   ·refine(ai rfl).2 (af.2 ⟨fY h,af.2 ⟨rfl,?_⟩⟩)
    rw[CU k hl,ak,C_]
    exact(ah rfl).2 (Qc (p:=⟨pY n (El n qD)⟩))
   ·refine(ah rfl).2 (af.2 ⟨fY h,af.2 ⟨rfl,?_⟩⟩)
    rw[xA hl];exact GA (p:=⟨m,pY n (El n S.1),S.1⟩)
  ·rw[F1 k];exact GA (p:=⟨m,pY n (El n S.1),S.1⟩)
 ·rw[decide_eq_false h];exact(ai (fw h)).2 (.ret _)
def vB:(ao×Node×List Seen)→(Node×gj×Int):=fun(m,c,k)=>Cs m c k
def acA:aB:=⟨[aY,aW,(.slice fA)], [aW,k6,yI],(@tt (ao×Node×List Seen)),vB⟩
theorem adf:Sd 41 acA:=aL ax bK true 125 [] [⟨41,14, [[3,4,6,7,10]]⟩,⟨41,16, [[4,6,7,10]]⟩] (fun A (m,n,seen)=>VL A m n seen) C_ U0 (fc Tryz.func41 fz) (sc agP (sc agz (sc ahn (sc vo (sc By (sc xT (sc ab5 (sc acf sz)))))))) (fun A y=>match y with |.c0 p=>⟨21,by kernel_rfl,by kernel_rfl⟩|.c1 p=>⟨21,by kernel_rfl,by kernel_rfl⟩|.c2 p=>⟨29,by kernel_rfl,by kernel_rfl⟩|.c3 p=>⟨29,by kernel_rfl,by kernel_rfl⟩) fun(m,n,seen) hp h=>aaD
theorem G9{o:gj}:Ox (o,o)=true:=by
 obtain⟨k,w,at',⟨a,b,⟨t,p,m,n,s⟩,f,d⟩,x⟩:=o
 simp only[Ox,t64,al,Mg,t44,LT.val,ek,DV,cond_true]
 rfl
end Go.Ev.M
