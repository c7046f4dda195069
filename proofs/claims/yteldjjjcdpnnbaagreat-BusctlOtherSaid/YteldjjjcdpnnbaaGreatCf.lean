/-
  PROVED: what busctl.Other and metronomeref18.Other compute. Conditions: none.
-/
import Derived.Test.YteldjjjcdpnnbaaGreatCe
import Derived.Test.YteldjjjcdpnnbaaGreatJs
namespace Go.Ev.M
open Go.Proofs
set_option maxRecDepth 100000
set_option linter.unusedVariables false
set_option linter.unusedSimpArgs false
open Go.Ev.Pl
theorem inc_le{d:Int}(h0:0≤d)(h1:d≤1048576):0≤inc d∧inc d≤1048576:=by
 unfold inc;split<;>omega
theorem EM{a b c d e f g c' d' e':Int}(h:gz a b c d e f g)(h1:0≤c'∧c'<((2^b.toNat:Nat):Int))(h2:0≤d'∧d'≤1048576)(h3:0≤e'∧e'≤1048576):gz a b c' d' e' 0 0:=by
 unfold gz at h ⊢
 exact⟨h.1,h.2.1,h.2.2.1,h.2.2.2.1,by omega,by omega,h1.1,h1.2,h2.1,h2.2,h3.1,h3.2,by omega,by omega,fun h=>absurd rfl h,fun h=>by omega⟩
theorem Hz{a b c d e f g s k:Int}(h:gz a b c d e f g)(h0:0≤s)(h1:s<b)(h2:s≠a)(hk:k=0∨k=1)(he:(jT ((a,b,c,d,e,f,g),s,k)).2=0) :
  ∃c' d' e' f' g',(jT ((a,b,c,d,e,f,g),s,k)).1=(a,b,c',d',e',f',g')∧gz a b c' d' e' f' g'∧kv c' s=true:=by
 have hm:=h
 unfold gz at hm
 have hp:=ru (n:=b.toNat) (by omega)
 have id:=inc_le (d:=d) (by omega) (by omega)
 have ie:=inc_le (d:=e) (by omega) (by omega)
 have I:=fun {c s:Int} (h:0≤c∧c<((2^b.toNat:Nat):Int)) (h':0≤s∧s<b)=>OP (c:=c) (s:=s) (n:=b) h.1 (by omega) h.2 h'.1 h'.2
 have D:=fun {c s:Int} (h:0≤c∧c<((2^b.toNat:Nat):Int)) (h':0≤s∧s<b)=>HY (c:=c) (s:=s) (n:=b) h.1 (by omega) h.2 h'.1 (by omega)
 have BI:=fun {c s:Int} (h:0≤c∧c<((2^b.toNat:Nat):Int)) (h':0≤s∧s<b) {i:Int} (hi:0≤i)=>Jy (c:=c) (s:=s) (i:=i) h.1 (by omega) h'.1 (by omega) hi
 have BD:=fun {c s:Int} (h:0≤c∧c<((2^b.toNat:Nat):Int)) (h':0≤s∧s<b) {i:Int} (hi:0≤i)=>xM (c:=c) (s:=s) (i:=i) h.1 (by omega) h'.1 (by omega) hi
 have hc:0≤c∧c<((2^b.toNat:Nat):Int):=⟨by omega,by omega⟩
 have ha:0≤a∧a<b:=⟨by omega,by omega⟩
 have hs:0≤s∧s<b:=⟨h0,h1⟩
 have hg:0≤g∧g<b:=⟨by omega,by omega⟩
 have hf:f=0∨f=1∨f=2:=by omega
 have sa:(a==s)=false:=by simp;omega
 rcases hf with rfl|rfl|rfl<;>rcases hk with rfl|rfl
 ·rw[Ew h h0 h1 h2]
  exact⟨_,_,_,_,_,rfl,EM h (I hc hs) id (by omega),by rw[BI hc hs h0];simp⟩
 ·exfalso
  revert he
  simp[jT,t25,LT.val,ak,aG,aA,aP,dM.2 ⟨h,h0,h1,h2⟩,jk h h0 h1 h2,xG]
 ·rw[GL h h0 h1 h2]
  exact⟨_,_,_,_,_,rfl,EM h (I (I hc hs) ha) id (by omega),by rw[BI (I hc hs) ha h0,BI hc hs h0];simp⟩
 ·rw[Cr h h0 h1 h2]
  refine⟨_,_,_,_,_,rfl,?_,by rw[BI hc hs h0];simp⟩
  have:=I hc hs
  unfold gz
  exact⟨by omega,by omega,by omega,by omega,by omega,by omega,by omega,by omega,by omega,by omega,by omega,by omega,by omega,by omega,fun _=>by
   rw[BI hc hs ha.1,hm.2.2.2.2.2.2.2.2.2.2.2.2.2.2.1 (by decide)];rfl,fun _=>h2⟩
 ·by_cases hsg:s=g
  ·subst hsg
   rw[Cm h h0 h1 h2]
   exact⟨_,_,_,_,_,rfl,EM h (I (I hc hs) ha) id (by omega),by rw[BI (I hc hs) ha h0,BI hc hs h0];simp⟩
  ·rw[CQ h h0 h1 h2 hsg]
   exact⟨_,_,_,_,_,rfl,EM h (D (I (I hc hs) ha) hg) id ie,by
    have sg:(g != s)=true:=by simp;omega
    rw[BD (I (I hc hs) ha) hg h0,BI (I hc hs) ha h0,BI hc hs h0,sg];simp⟩
 ·by_cases hsg:s=g
  ·subst hsg
   exfalso
   revert he
   simp[jT,t25,LT.val,ak,aG,aA,aP,dM.2 ⟨h,h0,h1,h2⟩,jk h h0 h1 h2,tC]
  ·rw[Cp h h0 h1 h2 hsg]
   exact⟨_,_,_,_,_,rfl,EM h (D (I (I hc hs) hg) ha) id ie,by
    have sg:(a != s)=true:=by simp;omega
    rw[BD (I (I hc hs) hg) ha h0,BI (I hc hs) hg h0,BI hc hs h0,sg];simp⟩
theorem Il{a b c d e f g s:Int}(h:gz a b c d e f g)(h0:0≤s)(h1:s<b)(h2:s≠a) :
  ∃c' f' g',jB ((a,b,c,d,e,f,g),s)=((a,b,c',d,e,f',g'),0)∧gz a b c' d e f' g':=by
 have hm:=h
 unfold gz at hm
 have hp:=ru (n:=b.toNat) (by omega)
 have hd:=HY (c:=c) (s:=s) (n:=b) (by omega) (by omega) (by omega) h0 (by omega)
 have hb:f≠0→kv (jg c s) a=true:=fun hf=>by
  rw[xM (by omega) (by omega) h0 (by omega) (by omega),hm.2.2.2.2.2.2.2.2.2.2.2.2.2.2.1 hf]
  simpa using h2
 by_cases hf:f=2
 ·subst hf
  by_cases hsg:g=s
  ·subst hsg
   refine⟨_,_,_,ER h h2,?_⟩
   unfold gz
   exact⟨by omega,by omega,by omega,by omega,by omega,by omega,by omega,by omega,by omega,by omega,by omega,by omega,by omega,by omega,fun _=>hb (by decide),fun h=>by omega⟩
  ·refine⟨_,_,_,IQ h h0 h1 h2 hsg,?_⟩
   unfold gz
   exact⟨by omega,by omega,by omega,by omega,by omega,by omega,by omega,by omega,by omega,by omega,by omega,by omega,by omega,by omega,fun _=>hb (by decide),hm.2.2.2.2.2.2.2.2.2.2.2.2.2.2.2⟩
 ·refine⟨_,_,_,Im h h0 h1 h2 hf,?_⟩
  unfold gz
  exact⟨by omega,by omega,by omega,by omega,by omega,by omega,by omega,by omega,by omega,by omega,by omega,by omega,by omega,by omega,hb,fun h=>absurd h hf⟩
theorem YY{a b c d e f g e':Int}(h:gz a b c d e f g)(h1:0≤e'∧e'≤1048576):gz a b c d e' f g:=by
 unfold gz at h ⊢
 exact⟨h.1,h.2.1,h.2.2.1,h.2.2.2.1,h.2.2.2.2.1,h.2.2.2.2.2.1,h.2.2.2.2.2.2.1,h.2.2.2.2.2.2.2.1,h.2.2.2.2.2.2.2.2.1,h.2.2.2.2.2.2.2.2.2.1,h1.1,h1.2,h.2.2.2.2.2.2.2.2.2.2.2.2⟩
theorem zX{c:Int×Int×Int×Int×Int}{w:Int}{o:Int×Int×Int×(Int×Int×(Int×Int×Int×Int×Int)×Int×List Int)×Int}:∀{l:List (Int×Int×(Int×List Int))} {k:Nat},gV c w k l=some o→o.1=3∧∃s∈l,s.1=2:=by
 intro l
 induction l with
 | nil=>intro k h;cases h
 | cons s l ih=>
   intro k h
   rw[gV] at h
   cases hb:(s.1==2&&(lW (s.2.2,c)).2)
   ·rw[hb,cond_false] at h
    obtain⟨h1,x,hx,h2⟩:=ih h
    exact⟨h1,x,List.mem_cons_of_mem _ hx,h2⟩
   ·rw[hb,cond_true] at h
    cases h
    rw[Bool.and_eq_true,beq_iff_eq] at hb
    exact⟨rfl,s,List.mem_cons_self ..,hb.1⟩
theorem yh{t p m n:Int}{seen:List (Int×Int×(Int×List Int))}{o:Int×Int×Int×(Int×Int×(Int×Int×Int×Int×Int)×Int×List Int)×Int}:∀{l:List Int} {i:Nat},jj t p m n seen i l=some o→o.1=3∧∃s∈seen,s.1=2:=by
 intro l
 induction l with
 | nil=>intro i h;cases h
 | cons v l ih=>
   intro i h
   rw[jj] at h
   cases hs:gV (t,p,m,n,v) (i:Int) 0 seen with
   | none=>rw[hs] at h;exact ih h
   | some o'=>rw[hs] at h;cases h;exact zX hs
theorem yE{c:Int×Int×Int×Int×Int}{w:Int}{o:Int×Int×Int×(Int×Int×(Int×Int×Int×Int×Int)×Int×List Int)×Int}:∀{l:List (Int×Int×(Int×List Int))} {k:Nat},gV c w k l=some o→o.2.1=w:=by
 intro l
 induction l with
 | nil=>intro k h;cases h
 | cons s l ih=>
   intro k h
   rw[gV] at h
   cases hb:(s.1==2&&(lW (s.2.2,c)).2)
   ·rw[hb,cond_false] at h;exact ih h
   ·rw[hb,cond_true] at h;cases h;rfl
theorem wq{t p m n:Int}{seen:List (Int×Int×(Int×List Int))}{o:Int×Int×Int×(Int×Int×(Int×Int×Int×Int×Int)×Int×List Int)×Int}:∀{l:List Int} {i:Nat},jj t p m n seen i l=some o→∃k,k<l.length∧o.2.1=((i+k:Nat):Int):=by
 intro l
 induction l with
 | nil=>intro i h;cases h
 | cons v l ih=>
   intro i h
   rw[jj] at h
   cases hs:gV (t,p,m,n,v) (i:Int) 0 seen with
   | none=>
     rw[hs] at h
     obtain⟨k,h1,h2⟩:=ih h
     exact⟨k+1,by rw[List.length_cons];omega,by rw[h2];congr 1;omega⟩
   | some o'=>
     rw[hs] at h
     cases h
     exact⟨0,by rw[List.length_cons];omega,by rw[yE hs];rfl⟩
theorem u9{t p m n s sender:Int}{v:Int×Int×Int×Int×Int×Int×Int}{seen:List (Int×Int×(Int×List Int))}(h:(ij ((t,p,m,n,s),v,sender,seen)).2=0) :
  jS v=0∧0≤sender∧sender<v.2.1∧sender≠v.1∧((∃k,k<(En (v,sender)).length∧(ij ((t,p,m,n,s),v,sender,seen)).1.1=3∧(ij ((t,p,m,n,s),v,sender,seen)).1.2.1=(k:Int))∨(ij ((t,p,m,n,s),v,sender,seen)).1.1=1∨(ij ((t,p,m,n,s),v,sender,seen)).1.1=2):=by
 rw[ij] at h ⊢
 cases h1:(jS v != 0||jo ((t,p,m,n,s),v.2.1) != 0)
 ·rw[h1] at h
  rw[cond_false] at h ⊢
  cases h2:(decide (sender<0)||decide (v.2.1≤sender)||sender==v.1||seen.length != 2)
  ·rw[cond_false]
   simp only[Bool.or_eq_false_iff,bne_eq_false_iff_eq,decide_eq_false_iff_not,beq_eq_false_iff_ne] at h1 h2
   refine⟨h1.1,by omega,by omega,h2.1.2,?_⟩
   rw[lM]
   cases h3:jj t p m n seen 0 (En (v,sender)) with
   | some o=>
     obtain⟨k,h4,h5⟩:=wq h3
     exact .inl ⟨k,h4,(yh h3).1,by rw[Nat.zero_add] at h5;exact h5⟩
   | none=>
     right
     show(iF seen).1=1∨(iF seen).1=2
     rw[iF]
     cases seen.any fun s=>s.1 != 0
     ·exact .inl rfl
     ·exact .inr rfl
  ·rw[h2] at h;cases h
 ·rw[h1] at h;cases h
theorem vz{a b c d e f g s:Int}(h:gz a b c d e f g)(h0:0≤s)(h1:s<b)(h2:s≠a) :
  ∃c' f' g',jB ((a,b,c,d,e,f,g),s)=((a,b,c',d,e,f',g'),0)∧gz a b c' d e f' g'∧kv c' s=false:=by
 obtain⟨c',f',g',e1,e2⟩:=Il h h0 h1 h2
 refine⟨c',f',g',e1,e2,?_⟩
 have hc:=Mp h
 have hm:=h
 unfold gz at hm
 have:c'=jg c s:=by
  by_cases hf:f=2
  ·subst hf
   by_cases hsg:g=s
   ·subst hsg
    rw[ER h h2] at e1
    simp only[Prod.mk.injEq] at e1
    exact e1.1.2.2.1.symm
   ·rw[IQ h h0 h1 h2 hsg] at e1
    simp only[Prod.mk.injEq] at e1
    exact e1.1.2.2.1.symm
  ·rw[Im h h0 h1 h2 hf] at e1
   simp only[Prod.mk.injEq] at e1
   exact e1.1.2.2.1.symm
 rw[this,xM (by omega) hc h0 (by omega) h0,bne_self_eq_false,Bool.and_false]
theorem G1{a b c d e f g s:Int}{k:Nat}(h:gz a b c d e f g)(h0:0≤s)(h1:s<b)(h2:s≠a)(hk:k<(En ((a,b,c,d,e,f,g),s)).length):(jT ((a,b,c,d,e,f,g),s,(k:Int))).2=0∧((k:Int)=0∨(k:Int)=1):=by
 have hm:=h
 unfold gz at hm
 have hf:f=0∨f=1∨f=2:=by omega
 rw[En] at hk
 rcases hf with rfl|rfl|rfl
 ·rw[xG] at hk
  have:k=0:=by
   have:k<1:=hk
   omega
  subst this
  exact⟨by rw[show((0:Nat):Int)=0 from rfl,Ew h h0 h1 h2],.inl rfl⟩
 ·rw[yc] at hk
  have:k<2:=hk
  have:k=0∨k=1:=by omega
  rcases this with rfl|rfl
  ·exact⟨by rw[show((0:Nat):Int)=0 from rfl,GL h h0 h1 h2],.inl rfl⟩
  ·exact⟨by rw[show((1:Nat):Int)=1 from rfl,Cr h h0 h1 h2],.inr rfl⟩
 ·by_cases hsg:s=g
  ·subst hsg
   rw[tC] at hk
   have:k=0:=by
    have:k<1:=hk
    omega
   subst this
   exact⟨by rw[show((0:Nat):Int)=0 from rfl,Cm h h0 h1 h2],.inl rfl⟩
  ·rw[tN hsg] at hk
   have:k<2:=hk
   have:k=0∨k=1:=by omega
   rcases this with rfl|rfl
   ·exact⟨by rw[show((0:Nat):Int)=0 from rfl,CQ h h0 h1 h2 hsg],.inl rfl⟩
   ·exact⟨by rw[show((1:Nat):Int)=1 from rfl,Cp h h0 h1 h2 hsg],.inr rfl⟩
theorem KA{v:Int×Int×Int×Int×Int×Int×Int}{s:Int}{o:Int×Int×Int×(Int×Int×(Int×Int×Int×Int×Int)×Int×List Int)×Int}(h:o.1=1):gw (v,s,o)=jB (v,s):=by
 obtain⟨a,b,c,d,e,f,g⟩:=v
 obtain⟨k,w,ch,⟨fk,fr,⟨t,p,m,n,x⟩,ff,fd⟩,at'⟩:=o
 have h:k=1:=h
 subst h
 rfl
theorem B7{v:Int×Int×Int×Int×Int×Int×Int}{s:Int}{o:Int×Int×Int×(Int×Int×(Int×Int×Int×Int×Int)×Int×List Int)×Int}(h:o.1=2):gw (v,s,o)=AL (v,s):=by
 obtain⟨a,b,c,d,e,f,g⟩:=v
 obtain⟨k,w,ch,⟨fk,fr,⟨t,p,m,n,x⟩,ff,fd⟩,at'⟩:=o
 have h:k=2:=h
 subst h
 rfl
theorem K9{v:Int×Int×Int×Int×Int×Int×Int}{s:Int}{o:Int×Int×Int×(Int×Int×(Int×Int×Int×Int×Int)×Int×List Int)×Int}(h:o.1=3):gw (v,s,o)=jT (v,s,o.2.1):=by
 obtain⟨a,b,c,d,e,f,g⟩:=v
 obtain⟨k,w,ch,⟨fk,fr,⟨t,p,m,n,x⟩,ff,fd⟩,at'⟩:=o
 have h:k=3:=h
 subst h
 rfl
theorem Dz{t p m n x s a b c d e f g:Int}{seen:List (Int×Int×(Int×List Int))}(h:(ij ((t,p,m,n,x),(a,b,c,d,e,f,g),s,seen)).2=0) :
  ∃c' d' e' f' g',gw ((a,b,c,d,e,f,g),s,(ij ((t,p,m,n,x),(a,b,c,d,e,f,g),s,seen)).1)=((a,b,c',d',e',f',g'),0)∧gz a b c' d' e' f' g'∧kv c' s=((ij ((t,p,m,n,x),(a,b,c,d,e,f,g),s,seen)).1.1==3)∧0≤s∧s<b:=by
 obtain⟨h1,h2,h3,h4,h5⟩:=u9 h
 have hok:=gf.1 h1
 have h3:s<b:=h3
 have h4:s≠a:=h4
 rcases h5 with ⟨k,hk,h6,h7⟩|h6|h6
 ·obtain⟨he,hk2⟩:=G1 hok h2 h3 h4 hk
  obtain⟨c',d',e',f',g',e1,e2,e3⟩:=Hz hok h2 h3 h4 hk2 he
  refine⟨c',d',e',f',g',?_,e2,by rw[e3,h6];rfl,h2,h3⟩
  rw[K9 h6,h7]
  exact Prod.ext e1 he
 ·obtain⟨c',f',g',e1,e2,e3⟩:=vz hok h2 h3 h4
  exact⟨c',d,e,f',g',by rw[KA h6];exact e1,e2,by rw[e3,h6];rfl,h2,h3⟩
 ·obtain⟨c',f',g',e1,e2,e3⟩:=vz hok h2 h3 h4
  have hm:=hok
  unfold gz at hm
  refine⟨c',d,inc e,f',g',?_,YY e2 (inc_le (by omega) (by omega)),by rw[e3,h6];rfl,h2,h3⟩
  rw[B7 h6]
  exact Et e1 (show 0≤e by omega) (show e≤1048576 by omega)
def t24(A:a_)(mId:Int)(mN:Int)(mSet:Int)(mAcc:Int)(mFail:Int)(mStage:Int)(mFirst:Int):LT Bool Empty:=.need (A.k (@tt ((Int×Int×Int×Int×Int×Int×Int))) (mId,mN,mSet,mAcc,mFail,mStage,mFirst)) (.br (A.c .eql (A.k jS (mId,mN,mSet,mAcc,mFail,mStage,mFirst)) 0) (.need (A.c .leq 0 mId) (.ret (A.c .eql (A.b .and .i64 (A.b .shr .i64 mSet mId) 1) 1))) (.ret false))
def AP:tA→Bool:=fun(mId,mN,mSet,mAcc,mFail,mStage,mFirst)=>(t24 aj mId mN mSet mAcc mFail mStage mFirst).val (Ty.bF [.bool])
def Ym:aC:=⟨[P4], [.bool],(@tt tA),AP⟩
theorem aar:Sd 103 Ym:=aH ap cm true 27 [] (fun A (mId,mN,mSet,mAcc,mFail,mStage,mFirst)=>t24 A mId mN mSet mAcc mFail mStage mFirst) (fc Tryz.func103 fz) (sc It sz) (fun((mId,mN,mSet,mAcc,mFail,mStage,mFirst):tA) hp h=>by
 show(t24 aj mId mN mSet mAcc mFail mStage mFirst).pre=true
 simp only[t24,LT.pre,dF,aA,aG,ao,ar,ay,aJ,aN,aP,dH,ak,bi,aW,aU,bU,bK,Bool.and_eq_true,Bool.or_eq_true,Bool.and_eq_false_iff,Bool.or_eq_false_iff,Bool.not_eq_true',Bool.not_eq_false',decide_eq_true_eq,decide_eq_false_iff_not,bne_iff_ne,beq_iff_eq,bne_eq_false_iff_eq,beq_eq_false_iff_ne]
 simp only[Ty.cY,Ty.has,jE] at h
 (repeat' (first|intro _|constructor))<;>(try (have hm:=gf.1 (by assumption);unfold gz at hm;omega)))
def t36(A:a_)(mId:Int)(mN:Int)(mSet:Int)(mAcc:Int)(mFail:Int)(mStage:Int)(mFirst:Int):LT Bool Empty:=.need (A.k (@tt ((Int×Int×Int×Int×Int×Int×Int))) (mId,mN,mSet,mAcc,mFail,mStage,mFirst)) (.br (A.c .eql (A.k lg (mId,mN,mSet,mAcc,mFail,mStage,mFirst)) 0) (.need (A.k (@tt Int) mId) (.ret (A.c .neq (A.b .and .i64 mSet (A.k gH mId)) 0))) (.ret false))
def EA:tA→Bool:=fun(mId,mN,mSet,mAcc,mFail,mStage,mFirst)=>(t36 aj mId mN mSet mAcc mFail mStage mFirst).val (Ty.bF [.bool])
def Zu:aC:=⟨[P4], [.bool],(@tt tA),EA⟩
theorem YB:Sd 108 Zu:=aH ap cm true 27 [] (fun A (mId,mN,mSet,mAcc,mFail,mStage,mFirst)=>t36 A mId mN mSet mAcc mFail mStage mFirst) (fc Tryz.func108 fz) (sc FY (sc E5 sz)) (fun((mId,mN,mSet,mAcc,mFail,mStage,mFirst):tA) hp h=>by
 show(t36 aj mId mN mSet mAcc mFail mStage mFirst).pre=true
 simp only[t36,LT.pre,dF,aA,aG,ao,ar,ay,aJ,aN,aP,dH,ak,bi,aW,aU,bU,bK,Bool.and_eq_true,Bool.or_eq_true,Bool.and_eq_false_iff,Bool.or_eq_false_iff,Bool.not_eq_true',Bool.not_eq_false',decide_eq_true_eq,decide_eq_false_iff_not,bne_iff_ne,beq_iff_eq,bne_eq_false_iff_eq,beq_eq_false_iff_ne]
 simp only[Ty.cY,Ty.has,jE,uZ] at h
 (repeat' (first|intro _|constructor))<;>(try omega))
theorem Ce{m:Int×Int×Int×Int×Int×Int×Int}:AP m=EA m:=by
 obtain⟨a,b,c,d,e,f,g⟩:=m
 have hr:=uG (x:=(a,b,c,d,e,f,g))
 simp only[AP,EA,t24,t36,LT.val,ak,X6,aA]
 rcases hr with h|h
 ·have hm:=kE.1 h
  have hc:=Mp hm
  unfold gz at hm
  rw[h]
  simp only[beq_self_eq_true,cond_true,aG]
  rw[Li (by omega) hc (by omega) (by omega),jw (by omega) (by omega)]
  have:=LV (c:=c) (a:=a) (by omega) hc (by omega) (by omega)
  cases hb:kv c a
  ·rw[this.2 hb];rfl
  ·have h2:aj.b .and .i64 c (aj.b .shl .i64 1 a)≠0:=fun h=>by rw[this.1 h] at hb;cases hb
   simpa using h2
 ·rw[h];rfl
open Go.Ev.Pl
def yg:ia:=(2,0,0,N7,0)
def DF:ia:=(0,0,0,N7,0)
def yj(n:Node)(seen:List Seen):ia×Int:=ij (n.2.2.1,n.2.2.2.1,n.2.2.1.2.1,seen)
def vW(m:au)(n:Node)(o:ia):ia:=bif decide (o.1=3) && !(mO m n.2.2.1 o.2.2.2.1) then yg else o
def zr(n:Node)(v:tA):Node:=(n.1,n.2.1,(n.2.2.1.1,n.2.2.1.2.1,n.2.2.1.2.2.1,n.2.2.1.2.2.2.1,v.2.2.1),v,n.2.2.2.2)
def Ae(n:Node)(o:ia):tA:=(gw (n.2.2.2.1,n.2.2.1.2.1,o)).1
def vw(m:au)(n:Node)(f:kU):Node:=(n.1,n.2.1,kL m n.2.2.1 f.2.1,n.2.2.2.1,n.2.2.2.2.1,n.2.2.2.2.2.1,n.2.2.2.2.2.2.1,bif decide (f.1=3) then n.2.2.2.2.2.2.2 else(oC n.2.2.2.2.2.2.2 n.2.2.1.2.1 f.2.2.2.2).1)
def vX(n:Node):Node:=bif decide (n.2.1=4) && !(AP n.2.2.2.1) then(n.1,3,n.2.2) else n
def KB(m:au)(n:Node)(o:ia):Node:=vX (bif decide (o.1=3) then vw m (zr n (Ae n o)) o.2.2.2.1 else zr n (Ae n o))
def Ee(m:au)(n:Node)(seen:List Seen):Node×ia×Int:=bif decide (gG m n=0) then(bif wJ n&&decide (¬n.2.2.1.2.1=n.1) then(bif decide ((yj n seen).2=0) then(KB m n (vW m n (yj n seen).1),vW m n (yj n seen).1,0) else(jC,DF,(yj n seen).2)) else(jC,DF,181)) else(jC,DF,gG m n)
theorem Of{c:dD}{v:tA}{s:Int}{seen:List Seen}(h:(ij (c,v,s,seen)).2=0):(gw (v,s,(ij (c,v,s,seen)).1)).2=0∧(gw (v,s,yg)).2=0:=by
 obtain⟨t,p,m,n,x⟩:=c
 obtain⟨a,b,c,d,e,f,g⟩:=v
 refine⟨?_,?_⟩
 ·obtain⟨c',d',e',f',g',e1,_⟩:=Dz h;rw[e1]
 ·obtain⟨h1,h2,h3,h4,_⟩:=u9 h
  have hok:=gf.1 h1
  have h3:s<b:=h3
  have h4:s≠a:=h4
  obtain⟨c',f',g',e1,_⟩:=vz hok h2 h3 h4
  have hm:=hok
  unfold gz at hm
  rw[B7 rfl,Et e1 (show 0≤e by omega) (show e≤1048576 by omega)]
theorem KU{m:au}{n:Node}{f:kU}(hn:gG m n=0)(h:mO m n.2.2.1 f=true):(oC n.2.2.2.2.2.2.2 n.2.2.1.2.1 f.2.2.2.2).2=0:=by
 have hd:=pR.1 (vm hn).2
 simp only[mO,Bool.and_eq_true,decide_eq_true_eq] at h
 have hk:=rq h.1
 have hx:=Nx hk.1 hk.2.1 hk.2.2
 have h8:(f.2.2.2.2.length:Int)≤8:=by
  rw[h.2.2]
  by_cases g:(gN m n.2.2.1.2.2.1 n.2.2.1.2.1).1=3
  ·rw[decide_eq_true g];exact(by omega:(0:Int)≤8)
  ·rw[decide_eq_false g];exact hx.2
 have e6:=hd.2.2.2.2.2.1
 rw[oC,hd.2.2.2.1,decide_eq_true (show 0≤n.2.2.1.2.1∧n.2.2.1.2.1≤(n.2.2.2.2.2.2.2.2.2.1.length:Int)-1 by rw[e6];exact hk.2.1),decide_eq_false (show ¬8<(f.2.2.2.2.length:Int) by omega)]
 rfl
theorem BF{m:au}{n:Node}{o:ia}(h:o.1=3)(h2:mO m n.2.2.1 o.2.2.2.1=false):vW m n o=yg:=by rw[vW,decide_eq_true h,h2];rfl
theorem zn{m:au}{n:Node}{o:ia}(h2:mO m n.2.2.1 o.2.2.2.1=true):vW m n o=o:=by rw[vW,h2,Bool.not_true,Bool.and_false];rfl
theorem Gk{m:au}{n:Node}{o:ia}(h:¬o.1=3):vW m n o=o:=by rw[vW,decide_eq_false h];rfl
theorem BR{Y:Type}{step:Y→LT (Node×ia×Int) Y}{n:Node}{o:ia}{b:Bool}(hb:b=AP n.2.2.2.1):aF step (.br (aj.c .eql n.2.1 4) (.need true (.br (aj.not b) (.ret ((n.1,3,n.2.2),o,0)) (.ret (n,o,0)))) (.ret (n,o,0))) (vX n,o,0):=by
 rw[vX]
 refine aB (p:=n.2.1=4) aZ (fun h=>af.2 ⟨rfl,?_⟩) fun h=>ax (by rw[decide_eq_false h];rfl) (.ret _)
 rw[decide_eq_true h,Bool.true_and,←hb]
 cases b
 ·exact(ai rfl).2 (.ret _)
 ·exact(ah rfl).2 (.ret _)
def MN(A:a_)(m:au)(n:Node)(f:kU):LT Node Empty:=.br (A.c .neq f.1 3) (.need (A.k (@tt (dw×Int×List Int)) (n.2.2.2.2.2.2.2,n.2.2.1.2.1,f.2.2.2.2)) (.need (A.k (@tt (au×dD×Int)) (m,n.2.2.1,f.2.1)) (.ret (n.1,n.2.1,(A.k G4 (m,n.2.2.1,f.2.1)),n.2.2.2.1,n.2.2.2.2.1,n.2.2.2.2.2.1,n.2.2.2.2.2.2.1,(A.k Mm (n.2.2.2.2.2.2.2,n.2.2.1.2.1,f.2.2.2.2)).1)))) (.need (A.k (@tt (au×dD×Int)) (m,n.2.2.1,f.2.1)) (.ret (n.1,n.2.1,(A.k G4 (m,n.2.2.1,f.2.1)),n.2.2.2)))
theorem M_{m:au}{n:Node}{f:kU}:aF Empty.elim (MN aj m n f) (vw m n f):=by
 unfold MN vw
 refine aB (p:=¬f.1=3) bu (fun g=>af.2 ⟨rfl,af.2 ⟨rfl,ax ?_ (.ret _)⟩⟩) fun g=>af.2 ⟨rfl,ax ?_ (.ret _)⟩
 ·rw[decide_eq_false g];rfl
 ·rw[decide_eq_true (Decidable.not_not.1 g)];rfl
def F7:(au×Node×kU)→Node:=fun(m,c,k)=>vw m c k
def RF:aC:=⟨[bM,dC,Di], [dC],(@tt (au×Node×kU)),F7⟩
theorem Vy:Sd 107 RF:=aM ap cm true 52 [] (fun A (m,n,f)=>MN A m n f) (fc Tryz.func107 fz) (sc Sg (sc Xr sz)) fun(m,n,f) hp h=>M_
structure F5 where
 (a0:List Seen) (a1:Int) (a2:au) (a17:Node)
structure Iq where
 (b0:Int) (b1:au) (cZ:Node) (jQ:ia)
structure Fv where
 (c14:Node)
structure Ik where
 (d0:au) (kC:Node) (AB:ia)
structure Ip where
 (e14:Node) (e15:ia)
structure Fp where
 (f0:au) (f15:Node) (f16:ia)
inductive K0 where
 | c0 (p:F5)
 | c1 (p:Iq)
 | c2 (p:Fv)
 | c3 (p:Ik)
 | c4 (p:Ip)
 | c5 (p:Fp)
noncomputable def PZ:K0→fJ
 | .c0 p=>⟨[⟨40,111,(en [(2,.sl gh p.a0),(3,.ptr 0 0),(6,.ptr 1 0),(7,.ptr 2 0),(9,.ptr 3 0),(10,vi p.a1)]),[.code (cw Tryz.f40 [1,1,0,0]),.code (cw Tryz.f40 [1,1,0,1]),.code (cw Tryz.f40 [1,1,1])],[],none⟩],[.flat false (dc bM p.a2),.flat false [vi 0,vi 0,vi 0,vi 0,vi 0,vi 0,vi 0,vi 0,vi 0,vi 0,vi 0,vi 0,vi 0,vi 0,vi 0,vb false,vi 0,vi 0,.bZ true,.bZ true,vi 0,vi 0],.flat false [vi 0,vi 0,vi 0,vi 0,vi 0,vi 0,vi 0,vi 0,vi 0,vi 0,vi 0,.bZ true,vi 0],.flat false (dc dC p.a17),.dead]⟩
 | .c1 p=>⟨[⟨40,111,(en [(3,.ptr 0 0),(6,.ptr 1 0),(7,.ptr 2 0),(9,.ptr 3 0),(10,vi p.b0),(11,.ptr 4 0)]),[.code (cw Tryz.f40 [1,1,1,1,0,0]),.code (cw Tryz.f40 [1,1,1,1,0,1]),.code (cw Tryz.f40 [1,1,1,1,1])],[],none⟩],[.flat false (dc bM p.b1),.flat false [vi 0,vi 0,vi 0,vi 0,vi 0,vi 0,vi 0,vi 0,vi 0,vi 0,vi 0,vi 0,vi 0,vi 0,vi 0,vb false,vi 0,vi 0,.bZ true,.bZ true,vi 0,vi 0],.flat false [vi 0,vi 0,vi 0,vi 0,vi 0,vi 0,vi 0,vi 0,vi 0,vi 0,vi 0,.bZ true,vi 0],.flat false (dc dC p.cZ),.flat false (dc rO p.jQ),.dead]⟩
 | .c2 p=>⟨[⟨40,111,(en [(6,.ptr 0 0),(7,.ptr 1 0),(9,.ptr 2 0),(11,.ptr 3 0)]),[.code (cw Tryz.f40 [1,1,1,1,1,1,1,1,1,0,0]),.code (cw Tryz.f40 [1,1,1,1,1,1,1,1,1,0,1]),.code (cw Tryz.f40 [1,1,1,1,1,1,1,1,1,1])],[],none⟩],[.flat false [vi 0,vi 0,vi 0,vi 0,vi 0,vi 0,vi 0,vi 0,vi 0,vi 0,vi 0,vi 0,vi 0,vi 0,vi 0,vb false,vi 0,vi 0,.bZ true,.bZ true,vi 0,vi 0],.flat false [vi 0,vi 0,vi 0,vi 0,vi 0,vi 0,vi 0,vi 0,vi 0,vi 0,vi 0,.bZ true,vi 0],.flat false (dc dC p.c14),.flat false [vi 2,vi 0,vi 0,vi 0,vi 0,vi 0,vi 0,vi 0,vi 0,vi 0,vi 0,.bZ true,vi 0],.dead]⟩
 | .c3 p=>⟨[⟨40,111,(en [(3,.ptr 0 0),(6,.ptr 1 0),(7,.ptr 2 0),(9,.ptr 3 0),(11,.ptr 4 0)]),[.code (cw Tryz.f40 [1,1,1,1,1,1,1,1,0,1,0,0,0]),.code (cw Tryz.f40 [1,1,1,1,1,1,1,1,0,1,0,0,1]),.code (cw Tryz.f40 [1,1,1,1,1,1,1,1,0,1,0,1]),.code (cw Tryz.f40 [1,1,1,1,1,1,1,1,1])],[],none⟩],[.flat false (dc bM p.d0),.flat false [vi 0,vi 0,vi 0,vi 0,vi 0,vi 0,vi 0,vi 0,vi 0,vi 0,vi 0,vi 0,vi 0,vi 0,vi 0,vb false,vi 0,vi 0,.bZ true,.bZ true,vi 0,vi 0],.flat false [vi 0,vi 0,vi 0,vi 0,vi 0,vi 0,vi 0,vi 0,vi 0,vi 0,vi 0,.bZ true,vi 0],.flat false (dc dC p.kC),.flat false (dc rO p.AB),.dead]⟩
 | .c4 p=>⟨[⟨40,111,(en [(6,.ptr 0 0),(7,.ptr 1 0),(9,.ptr 2 0),(11,.ptr 3 0)]),[.code (cw Tryz.f40 [1,1,1,1,1,1,1,1,1,0,0]),.code (cw Tryz.f40 [1,1,1,1,1,1,1,1,1,0,1]),.code (cw Tryz.f40 [1,1,1,1,1,1,1,1,1,1])],[],none⟩],[.flat false [vi 0,vi 0,vi 0,vi 0,vi 0,vi 0,vi 0,vi 0,vi 0,vi 0,vi 0,vi 0,vi 0,vi 0,vi 0,vb false,vi 0,vi 0,.bZ true,.bZ true,vi 0,vi 0],.flat false [vi 0,vi 0,vi 0,vi 0,vi 0,vi 0,vi 0,vi 0,vi 0,vi 0,vi 0,.bZ true,vi 0],.flat false (dc dC p.e14),.flat false (dc rO p.e15),.dead]⟩
 | .c5 p=>⟨[⟨40,111,(en [(3,.ptr 0 0),(6,.ptr 1 0),(7,.ptr 2 0),(9,.ptr 3 0),(11,.ptr 4 0)]),[.code (cw Tryz.f40 [1,1,1,1,1,1,1,1,0,1,0,1]),.code (cw Tryz.f40 [1,1,1,1,1,1,1,1,1])],[],none⟩],[.flat false (dc bM p.f0),.flat false [vi 0,vi 0,vi 0,vi 0,vi 0,vi 0,vi 0,vi 0,vi 0,vi 0,vi 0,vi 0,vi 0,vi 0,vi 0,vb false,vi 0,vi 0,.bZ true,.bZ true,vi 0,vi 0],.flat false [vi 0,vi 0,vi 0,vi 0,vi 0,vi 0,vi 0,vi 0,vi 0,vi 0,vi 0,.bZ true,vi 0],.flat false (dc dC p.f15),.flat false (dc rO p.f16),.dead]⟩
def MU(A:a_)(m:au)(n:Node)(seen:List Seen):LT (Node×ia×Int) K0:=.need (A.k (@tt Node) n) (.br (A.k pI n) (.need (A.k (@tt (au×Node×Bool)) (m,n,(A.c .neq n.2.2.1.2.1 n.1))) (.need (A.k (@tt (au×Node×Bool)) (m,n,(A.c .neq n.2.2.1.2.1 n.1))) (.eqs (((A.k pI n):Bool)=true) (.need (A.k (@tt Node) n) (.more (.c0 ⟨seen,(A.k dW (m,n,(A.c .neq n.2.2.1.2.1 n.1))).2,m,(A.k dW (m,n,(A.c .neq n.2.2.1.2.1 n.1))).1⟩)))))) (.need (A.k (@tt (au×Node×Bool)) (m,n,false)) (.need (A.k (@tt (au×Node×Bool)) (m,n,false)) (.eqs (((A.k pI n):Bool)=false) (.need (A.k (@tt Node) n) (.more (.c0 ⟨seen,(A.k dW (m,n,false)).2,m,(A.k dW (m,n,false)).1⟩)))))))
def oE(A:a_):K0→LT (Node×ia×Int) K0
 | .c0 p=>.br (A.c .neq p.a1 0) (.ret ((0,0,(0,0,0,0,0),(0,0,0,0,0,0,0),0,false,0,0,([]:List Int),([]:List bG),0,0),(0,0,0,(0,0,(0,0,0,0,0),0,([]:List Int)),0),p.a1)) (.need (A.k (@tt ((Int×Int×Int×Int×Int)×(Int×Int×Int×Int×Int×Int×Int)×Int×List (Int×Int×(Int×List Int)))) (p.a17.2.2.1,p.a17.2.2.2.1,p.a17.2.2.1.2.1,p.a0)) (.more (.c1 ⟨(A.k M5 (p.a17.2.2.1,p.a17.2.2.2.1,p.a17.2.2.1.2.1,p.a0)).2,p.a2,p.a17,(A.k M5 (p.a17.2.2.1,p.a17.2.2.2.1,p.a17.2.2.1.2.1,p.a0)).1⟩)))
 | .c1 p=>.br (A.c .neq p.b0 0) (.ret ((0,0,(0,0,0,0,0),(0,0,0,0,0,0,0),0,false,0,0,([]:List Int),([]:List bG),0,0),(0,0,0,(0,0,(0,0,0,0,0),0,([]:List Int)),0),p.b0)) (.br (A.c .eql p.jQ.1 3) (.need (A.k (@tt (au×dD×kU)) (p.b1,p.cZ.2.2.1,p.jQ.2.2.2.1)) (.br (A.not (A.k BM (p.b1,p.cZ.2.2.1,p.jQ.2.2.2.1))) (.need (A.k (@tt ((Int×Int×Int×Int×Int×Int×Int)×Int×(Int×Int×Int×(Int×Int×(Int×Int×Int×Int×Int)×Int×List Int)×Int))) (p.cZ.2.2.2.1,p.cZ.2.2.1.2.1,2,0,0,(0,0,(0,0,0,0,0),0,([]:List Int)),0)) (.br (A.c .neq (A.k gw (p.cZ.2.2.2.1,p.cZ.2.2.1.2.1,2,0,0,(0,0,(0,0,0,0,0),0,([]:List Int)),0)).2 0) (.ret ((0,0,(0,0,0,0,0),(0,0,0,0,0,0,0),0,false,0,0,([]:List Int),([]:List bG),0,0),(0,0,0,(0,0,(0,0,0,0,0),0,([]:List Int)),0),(A.k gw (p.cZ.2.2.2.1,p.cZ.2.2.1.2.1,2,0,0,(0,0,(0,0,0,0,0),0,([]:List Int)),0)).2)) (.more (.c2 ⟨(p.cZ.1,p.cZ.2.1,(p.cZ.2.2.1.1,p.cZ.2.2.1.2.1,p.cZ.2.2.1.2.2.1,p.cZ.2.2.1.2.2.2.1,(A.k gw (p.cZ.2.2.2.1,p.cZ.2.2.1.2.1,2,0,0,(0,0,(0,0,0,0,0),0,([]:List Int)),0)).1.2.2.1),(A.k gw (p.cZ.2.2.2.1,p.cZ.2.2.1.2.1,2,0,0,(0,0,(0,0,0,0,0),0,([]:List Int)),0)).1,p.cZ.2.2.2.2)⟩)))) (.need (A.k (@tt ((Int×Int×Int×Int×Int×Int×Int)×Int×(Int×Int×Int×(Int×Int×(Int×Int×Int×Int×Int)×Int×List Int)×Int))) (p.cZ.2.2.2.1,p.cZ.2.2.1.2.1,p.jQ)) (.br (A.c .neq (A.k gw (p.cZ.2.2.2.1,p.cZ.2.2.1.2.1,p.jQ)).2 0) (.ret ((0,0,(0,0,0,0,0),(0,0,0,0,0,0,0),0,false,0,0,([]:List Int),([]:List bG),0,0),(0,0,0,(0,0,(0,0,0,0,0),0,([]:List Int)),0),(A.k gw (p.cZ.2.2.2.1,p.cZ.2.2.1.2.1,p.jQ)).2)) (.br (A.c .eql p.jQ.1 3) (.more (.c3 ⟨p.b1,(p.cZ.1,p.cZ.2.1,(p.cZ.2.2.1.1,p.cZ.2.2.1.2.1,p.cZ.2.2.1.2.2.1,p.cZ.2.2.1.2.2.2.1,(A.k gw (p.cZ.2.2.2.1,p.cZ.2.2.1.2.1,p.jQ)).1.2.2.1),(A.k gw (p.cZ.2.2.2.1,p.cZ.2.2.1.2.1,p.jQ)).1,p.cZ.2.2.2.2),p.jQ⟩)) (.more (.c4 ⟨(p.cZ.1,p.cZ.2.1,(p.cZ.2.2.1.1,p.cZ.2.2.1.2.1,p.cZ.2.2.1.2.2.1,p.cZ.2.2.1.2.2.2.1,(A.k gw (p.cZ.2.2.2.1,p.cZ.2.2.1.2.1,p.jQ)).1.2.2.1),(A.k gw (p.cZ.2.2.2.1,p.cZ.2.2.1.2.1,p.jQ)).1,p.cZ.2.2.2.2),p.jQ⟩))))))) (.need (A.k (@tt ((Int×Int×Int×Int×Int×Int×Int)×Int×(Int×Int×Int×(Int×Int×(Int×Int×Int×Int×Int)×Int×List Int)×Int))) (p.cZ.2.2.2.1,p.cZ.2.2.1.2.1,p.jQ)) (.br (A.c .neq (A.k gw (p.cZ.2.2.2.1,p.cZ.2.2.1.2.1,p.jQ)).2 0) (.ret ((0,0,(0,0,0,0,0),(0,0,0,0,0,0,0),0,false,0,0,([]:List Int),([]:List bG),0,0),(0,0,0,(0,0,(0,0,0,0,0),0,([]:List Int)),0),(A.k gw (p.cZ.2.2.2.1,p.cZ.2.2.1.2.1,p.jQ)).2)) (.br (A.c .eql p.jQ.1 3) (.more (.c3 ⟨p.b1,(p.cZ.1,p.cZ.2.1,(p.cZ.2.2.1.1,p.cZ.2.2.1.2.1,p.cZ.2.2.1.2.2.1,p.cZ.2.2.1.2.2.2.1,(A.k gw (p.cZ.2.2.2.1,p.cZ.2.2.1.2.1,p.jQ)).1.2.2.1),(A.k gw (p.cZ.2.2.2.1,p.cZ.2.2.1.2.1,p.jQ)).1,p.cZ.2.2.2.2),p.jQ⟩)) (.more (.c4 ⟨(p.cZ.1,p.cZ.2.1,(p.cZ.2.2.1.1,p.cZ.2.2.1.2.1,p.cZ.2.2.1.2.2.1,p.cZ.2.2.1.2.2.2.1,(A.k gw (p.cZ.2.2.2.1,p.cZ.2.2.1.2.1,p.jQ)).1.2.2.1),(A.k gw (p.cZ.2.2.2.1,p.cZ.2.2.1.2.1,p.jQ)).1,p.cZ.2.2.2.2),p.jQ⟩))))))
 | .c2 p=>.br (A.c .eql p.c14.2.1 4) (.need (A.k (@tt tA) p.c14.2.2.2.1) (.br (A.not (A.k AP p.c14.2.2.2.1)) (.ret ((p.c14.1,3,p.c14.2.2),(2,0,0,(0,0,(0,0,0,0,0),0,([]:List Int)),0),0)) (.ret (p.c14,(2,0,0,(0,0,(0,0,0,0,0),0,([]:List Int)),0),0)))) (.ret (p.c14,(2,0,0,(0,0,(0,0,0,0,0),0,([]:List Int)),0),0))
 | .c3 p=>.br (A.c .neq p.AB.2.2.2.1.1 3) (.need (A.k (@tt (dw×Int×List Int)) (p.kC.2.2.2.2.2.2.2,p.kC.2.2.1.2.1,p.AB.2.2.2.1.2.2.2.2)) (.need (A.k (@tt (dw×Int×List Int)) (p.kC.2.2.2.2.2.2.2,p.kC.2.2.1.2.1,p.AB.2.2.2.1.2.2.2.2)) (.br (A.c .eql (A.k sr (p.kC.2.2.2.2.2.2.2,p.kC.2.2.1.2.1,p.AB.2.2.2.1.2.2.2.2)).2 0) (.more (.c5 ⟨p.d0,(p.kC.1,p.kC.2.1,p.kC.2.2.1,p.kC.2.2.2.1,p.kC.2.2.2.2.1,p.kC.2.2.2.2.2.1,p.kC.2.2.2.2.2.2.1,(A.k sr (p.kC.2.2.2.2.2.2.2,p.kC.2.2.1.2.1,p.AB.2.2.2.1.2.2.2.2)).1),p.AB⟩)) (.more (.c5 ⟨p.d0,p.kC,p.AB⟩))))) (.more (.c5 ⟨p.d0,p.kC,p.AB⟩))
 | .c4 p=>.br (A.c .eql p.e14.2.1 4) (.need (A.k (@tt tA) p.e14.2.2.2.1) (.br (A.not (A.k AP p.e14.2.2.2.1)) (.ret ((p.e14.1,3,p.e14.2.2),p.e15,0)) (.ret (p.e14,p.e15,0)))) (.ret (p.e14,p.e15,0))
 | .c5 p=>.need (A.k (@tt (au×dD×Int)) (p.f0,p.f15.2.2.1,p.f16.2.2.2.1.2.1)) (.need (A.k (@tt (au×dD×Int)) (p.f0,p.f15.2.2.1,p.f16.2.2.2.1.2.1)) (.br (A.c .eql (A.k rF (p.f0,p.f15.2.2.1,p.f16.2.2.2.1.2.1)).2 0) (.more (.c4 ⟨(p.f15.1,p.f15.2.1,(A.k rF (p.f0,p.f15.2.2.1,p.f16.2.2.2.1.2.1)).1,p.f15.2.2.2),p.f16⟩)) (.more (.c4 ⟨p.f15,p.f16⟩))))
theorem Bf{p:Ip}:aF (oE aj) (.more (.c4 p)) (vX p.e14,p.e15,0):=by
 rw[al,oE];exact BR rfl
theorem MH{p:Fv}:aF (oE aj) (.more (.c2 p)) (vX p.c14,yg,0):=by
 rw[al,oE];exact BR rfl
theorem FB{p:Fp}:aF (oE aj) (.more (.c5 p)) (vX (p.f15.1,p.f15.2.1,kL p.f0 p.f15.2.2.1 p.f16.2.2.2.1.2.1,p.f15.2.2.2),p.f16,0):=by
 rw[al,oE,kL]
 refine af.2 ⟨rfl,af.2 ⟨rfl,?_⟩⟩
 rw[show ∀x,aj.k rF x=qV x.1 x.2.1 x.2.2 from fun _=>rfl]
 refine aB (p:=(qV p.f0 p.f15.2.2.1 p.f16.2.2.2.1.2.1).2=0) aZ (fun g=>?_) fun g=>?_
 ·rw[decide_eq_true g];exact Bf
 ·rw[decide_eq_false g];exact Bf
theorem Nt{p:Ik}(h:(oC p.kC.2.2.2.2.2.2.2 p.kC.2.2.1.2.1 p.AB.2.2.2.1.2.2.2.2).2=0):aF (oE aj) (.more (.c3 p)) (vX (vw p.d0 p.kC p.AB.2.2.2.1),p.AB,0):=by
 rw[al,oE,vw]
 refine aB (p:=¬p.AB.2.2.2.1.1=3) bu (fun g=>af.2 ⟨rfl,af.2 ⟨rfl,?_⟩⟩) fun g=>?_
 ·rw[decide_eq_false g,show ∀x,aj.k sr x=oC x.1 x.2.1 x.2.2 from fun _=>rfl]
  exact(ai (K8 h)).2 FB
 ·rw[decide_eq_true (Decidable.not_not.1 g)];exact FB
theorem MW{p:Iq}{m:au}{n:Node}{S:ia×Int}(h0:p.b0=S.2)(h1:p.b1=m)(h2:p.cZ=n)(h3:p.jQ=S.1)(hn:gG m n=0)(ha:S.2=0→(gw (n.2.2.2.1,n.2.2.1.2.1,S.1)).2=0∧(gw (n.2.2.2.1,n.2.2.1.2.1,yg)).2=0):aF (oE aj) (.more (.c1 p)) (bif decide (S.2=0) then(KB m n (vW m n S.1),vW m n S.1,0) else(jC,DF,S.2)):=by
 subst h1 h2
 rw[al,oE,h0,h3]
 refine aB (p:=¬S.2=0) bu (fun g=>ax (by rw[decide_eq_false g];rfl) (.ret _)) fun g=>?_
 have g:=Decidable.not_not.1 g
 obtain⟨a1,a2⟩:=ha g
 rw[decide_eq_true g,cond_true]
 rw[show aj.k BM (p.b1,p.cZ.2.2.1,S.1.2.2.2.1)=mO p.b1 p.cZ.2.2.1 S.1.2.2.2.1 from rfl]
 have e1:aj.c .neq (aj.k gw (p.cZ.2.2.2.1,p.cZ.2.2.1.2.1,S.1)).2 0=false:=by rw[ak,a1];rfl
 have e2:aj.c .neq (aj.k gw (p.cZ.2.2.2.1,p.cZ.2.2.1.2.1,2,0,0,(0,0,(0,0,0,0,0),0,([]:List Int)),0)).2 0=false:=by rw[ak];unfold yg N7 at a2;rw[a2];rfl
 refine aB (p:=S.1.1=3) aZ (fun k=>af.2 ⟨rfl,?_⟩) fun k=>af.2 ⟨rfl,(ah e1).2 ((ah (by rw[aZ];exact decide_eq_false k)).2 ?_)⟩
 ·cases hl:mO p.b1 p.cZ.2.2.1 S.1.2.2.2.1
  ·refine(ai rfl).2 (af.2 ⟨rfl,(ah e2).2 ?_⟩)
   rw[BF k hl];exact MH (p:=⟨zr p.cZ (Ae p.cZ yg)⟩)
  ·refine(ah rfl).2 (af.2 ⟨rfl,(ah e1).2 ((ai (by rw[aZ];exact decide_eq_true k)).2 ?_)⟩)
   rw[zn hl,KB,decide_eq_true k]
   have hv:=KU hn hl
   exact Nt (p:=⟨p.b1,zr p.cZ (Ae p.cZ S.1),S.1⟩) hv
 ·rw[Gk k,KB,decide_eq_false k];exact Bf (p:=⟨zr p.cZ (Ae p.cZ S.1),S.1⟩)
theorem YN{m:au}{n:Node}{seen:List Seen}:aF (oE aj) (MU aj m n seen) (Ee m n seen):=by
 unfold MU Ee
 rw[show aj.k pI n=wJ n from rfl]
 refine af.2 ⟨rfl,?_⟩
 have no:∀q:F5,q.a1=(lZ m n false).2→aF (oE aj) (.more (.c0 q)) (bif decide (gG m n=0) then(jC,DF,181) else(jC,DF,gG m n)):=fun q hq=>by
  rw[al,oE,hq,lZ]
  by_cases h:gG m n=0
  ·rw[decide_eq_true h];exact(ai rfl).2 (.ret _)
  ·rw[decide_eq_false h];exact(ai (rf h)).2 (.ret _)
 cases hi:wJ n
 ·exact(ah rfl).2 (af.2 ⟨rfl,af.2 ⟨rfl,fB.2 ⟨rfl,af.2 ⟨rfl,no _ rfl⟩⟩⟩⟩)
 ·refine(ai rfl).2 (af.2 ⟨rfl,af.2 ⟨rfl,fB.2 ⟨rfl,af.2 ⟨rfl,?_⟩⟩⟩⟩)
  rw[show ∀w,aj.k dW (m,n,w)=lZ m n w from fun _=>rfl,bu,Bool.true_and]
  by_cases hp:n.2.2.1.2.1=n.1
  ·rw[decide_eq_false (show ¬¬n.2.2.1.2.1=n.1 from fun k=>k hp)];exact no _ rfl
  ·rw[decide_eq_true hp,cond_true]
   by_cases h:gG m n=0
   ·have e:lZ m n true=(n,0):=by rw[lZ,decide_eq_true h];rfl
    rw[decide_eq_true h,e,cond_true,al,oE]
    exact(ah rfl).2 (af.2 ⟨rfl,MW (S:=yj n seen) rfl rfl rfl rfl h fun g=>Of (c:=n.2.2.1) (v:=n.2.2.2.1) (s:=n.2.2.1.2.1) (seen:=seen) g⟩)
   ·have:=no ⟨seen,(lZ m n true).2,m,(lZ m n true).1⟩ (by rw[lZ,lZ,decide_eq_false h];rfl)
    rw[decide_eq_false h] at this ⊢
    exact this
def rJ:(au×Node×List Seen)→(Node×ia×Int):=fun(m,c,k)=>Ee m c k
def Qq:aC:=⟨[bM,dC,(.slice gh)], [dC,rO,yI],(@tt (au×Node×List Seen)),rJ⟩
theorem Xg:Sd 40 Qq:=aK ap cm true 38 [] [⟨40,2, [[2,3,6,7,9,10]]⟩,⟨40,5, [[3,6,7,9,10,11]]⟩,⟨40,14, [[3,6,7,9,11]]⟩,⟨40,16, [[3,6,7,9,11]]⟩,⟨40,17, [[6,7,9,11]]⟩] (fun A (m,n,seen)=>MU A m n seen) oE PZ (fc Tryz.func40 (fc Tryz.func101 (fc Tryz.func102 fz))) (sc aar (sc YD (sc ZG (sc Mb (sc EI (sc Mr (sc LK (sc LA sz)))))))) (fun A y=>match y with |.c0 p=>⟨31,by kernel_rfl,by kernel_rfl⟩|.c1 p=>⟨76,by kernel_rfl,by kernel_rfl⟩|.c2 p=>⟨29,by kernel_rfl,by kernel_rfl⟩|.c3 p=>⟨56,by kernel_rfl,by kernel_rfl⟩|.c4 p=>⟨29,by kernel_rfl,by kernel_rfl⟩|.c5 p=>⟨48,by kernel_rfl,by kernel_rfl⟩) fun(m,n,seen) hp h=>YN
structure Pt where
 (a0:au) (a1:Node)
structure Iw where
 (b0:au) (b1:Node) (cZ:ia)
structure F6 where
 (c0:Node)
structure IK where
 (d0:Node) (kC:ia)
inductive Kf where
 | c0 (p:Pt)
 | c1 (p:Iw)
 | c2 (p:F6)
 | c3 (p:IK)
noncomputable def Nq:Kf→fJ
 | .c0 p=>⟨[⟨41,101,(en [(3,.ptr 0 0),(4,.ptr 1 0),(6,.ptr 2 0),(7,.ptr 3 0),(10,.ptr 4 0)]),[.code (cw Tryz.f41 [1,1,1,1,1,1,1,1,1,0,0]),.code (cw Tryz.f41 [1,1,1,1,1,1,1,1,1,0,1]),.code (cw Tryz.f41 [1,1,1,1,1,1,1,1,1,1])],[],none⟩],[.flat false (dc bM p.a0),.flat false (dc dC p.a1),.flat false [vi 0,vi 0,vi 0,vi 0,vi 0,vi 0,vi 0,vi 0,vi 0,vi 0,vi 0,vi 0,vi 0,vi 0,vi 0,vb false,vi 0,vi 0,.bZ true,.bZ true,vi 0,vi 0],.flat false [vi 0,vi 0,vi 0,vi 0,vi 0,vi 0,vi 0,vi 0,vi 0,vi 0,vi 0,.bZ true,vi 0],.flat false [vi 2,vi 0,vi 0,vi 0,vi 0,vi 0,vi 0,vi 0,vi 0,vi 0,vi 0,.bZ true,vi 0],.dead]⟩
 | .c1 p=>⟨[⟨41,101,(en [(3,.ptr 0 0),(4,.ptr 1 0),(6,.ptr 2 0),(7,.ptr 3 0),(10,.ptr 4 0)]),[.code (cw Tryz.f41 [1,1,1,1,1,1,1,1,1,0,0]),.code (cw Tryz.f41 [1,1,1,1,1,1,1,1,1,0,1]),.code (cw Tryz.f41 [1,1,1,1,1,1,1,1,1,1])],[],none⟩],[.flat false (dc bM p.b0),.flat false (dc dC p.b1),.flat false [vi 0,vi 0,vi 0,vi 0,vi 0,vi 0,vi 0,vi 0,vi 0,vi 0,vi 0,vi 0,vi 0,vi 0,vi 0,vb false,vi 0,vi 0,.bZ true,.bZ true,vi 0,vi 0],.flat false [vi 0,vi 0,vi 0,vi 0,vi 0,vi 0,vi 0,vi 0,vi 0,vi 0,vi 0,.bZ true,vi 0],.flat false (dc rO p.cZ),.dead]⟩
 | .c2 p=>⟨[⟨41,101,(en [(4,.ptr 0 0),(6,.ptr 1 0),(7,.ptr 2 0),(10,.ptr 3 0)]),[.code (cw Tryz.f41 [1,1,1,1,1,1,1,1,1,1,0,0]),.code (cw Tryz.f41 [1,1,1,1,1,1,1,1,1,1,0,1]),.code (cw Tryz.f41 [1,1,1,1,1,1,1,1,1,1,1])],[],none⟩],[.flat false (dc dC p.c0),.flat false [vi 0,vi 0,vi 0,vi 0,vi 0,vi 0,vi 0,vi 0,vi 0,vi 0,vi 0,vi 0,vi 0,vi 0,vi 0,vb false,vi 0,vi 0,.bZ true,.bZ true,vi 0,vi 0],.flat false [vi 0,vi 0,vi 0,vi 0,vi 0,vi 0,vi 0,vi 0,vi 0,vi 0,vi 0,.bZ true,vi 0],.flat false [vi 2,vi 0,vi 0,vi 0,vi 0,vi 0,vi 0,vi 0,vi 0,vi 0,vi 0,.bZ true,vi 0],.dead]⟩
 | .c3 p=>⟨[⟨41,101,(en [(4,.ptr 0 0),(6,.ptr 1 0),(7,.ptr 2 0),(10,.ptr 3 0)]),[.code (cw Tryz.f41 [1,1,1,1,1,1,1,1,1,1,0,0]),.code (cw Tryz.f41 [1,1,1,1,1,1,1,1,1,1,0,1]),.code (cw Tryz.f41 [1,1,1,1,1,1,1,1,1,1,1])],[],none⟩],[.flat false (dc dC p.d0),.flat false [vi 0,vi 0,vi 0,vi 0,vi 0,vi 0,vi 0,vi 0,vi 0,vi 0,vi 0,vi 0,vi 0,vi 0,vi 0,vb false,vi 0,vi 0,.bZ true,.bZ true,vi 0,vi 0],.flat false [vi 0,vi 0,vi 0,vi 0,vi 0,vi 0,vi 0,vi 0,vi 0,vi 0,vi 0,.bZ true,vi 0],.flat false (dc rO p.kC),.dead]⟩
def Pn(A:a_)(m:au)(n:Node)(seen:List Seen):LT (Node×ia×Int) Kf:=.need (A.k (@tt (au×Node)) (m,n)) (.br (A.c .neq (A.k Ca (m,n)) 0) (.ret ((0,0,(0,0,0,0,0),(0,0,0,0,0,0,0),0,false,0,0,([]:List Int),([]:List bG),0,0),(0,0,0,(0,0,(0,0,0,0,0),0,([]:List Int)),0),(A.k Ca (m,n)))) (.need (A.k (@tt Node) n) (.br (A.not (A.k zZ n)) (.ret ((0,0,(0,0,0,0,0),(0,0,0,0,0,0,0),0,false,0,0,([]:List Int),([]:List bG),0,0),(0,0,0,(0,0,(0,0,0,0,0),0,([]:List Int)),0),181)) (.br (A.c .eql n.2.2.1.2.1 n.1) (.ret ((0,0,(0,0,0,0,0),(0,0,0,0,0,0,0),0,false,0,0,([]:List Int),([]:List bG),0,0),(0,0,0,(0,0,(0,0,0,0,0),0,([]:List Int)),0),181)) (.need (A.k (@tt ((Int×Int×Int×Int×Int)×(Int×Int×Int×Int×Int×Int×Int)×Int×List (Int×Int×(Int×List Int)))) (n.2.2.1,n.2.2.2.1,n.2.2.1.2.1,seen)) (.br (A.c .neq (A.k oI (n.2.2.1,n.2.2.2.1,n.2.2.1.2.1,seen)).2 0) (.ret ((0,0,(0,0,0,0,0),(0,0,0,0,0,0,0),0,false,0,0,([]:List Int),([]:List bG),0,0),(0,0,0,(0,0,(0,0,0,0,0),0,([]:List Int)),0),(A.k oI (n.2.2.1,n.2.2.2.1,n.2.2.1.2.1,seen)).2)) (.br (A.c .eql (A.k oI (n.2.2.1,n.2.2.2.1,n.2.2.1.2.1,seen)).1.1 3) (.need (A.k (@tt (au×dD×kU)) (m,n.2.2.1,(A.k oI (n.2.2.1,n.2.2.2.1,n.2.2.1.2.1,seen)).1.2.2.2.1)) (.br (A.not (A.k EJ (m,n.2.2.1,(A.k oI (n.2.2.1,n.2.2.2.1,n.2.2.1.2.1,seen)).1.2.2.2.1))) (.need (A.k yv n) (.need (A.k (@tt ((Int×Int×Int×Int×Int×Int×Int)×Int×(Int×Int×Int×(Int×Int×(Int×Int×Int×Int×Int)×Int×List Int)×Int))) ((A.k df n).2.2.2.1,(A.k df n).2.2.1.2.1,2,0,0,(0,0,(0,0,0,0,0),0,([]:List Int)),0)) (.more (.c0 ⟨m,((A.k df n).1,(A.k df n).2.1,((A.k df n).2.2.1.1,(A.k df n).2.2.1.2.1,(A.k df n).2.2.1.2.2.1,(A.k df n).2.2.1.2.2.2.1,(A.k vM ((A.k df n).2.2.2.1,(A.k df n).2.2.1.2.1,2,0,0,(0,0,(0,0,0,0,0),0,([]:List Int)),0)).1.2.2.1),(A.k vM ((A.k df n).2.2.2.1,(A.k df n).2.2.1.2.1,2,0,0,(0,0,(0,0,0,0,0),0,([]:List Int)),0)).1,(A.k df n).2.2.2.2)⟩)))) (.need (A.k yv n) (.need (A.k (@tt ((Int×Int×Int×Int×Int×Int×Int)×Int×(Int×Int×Int×(Int×Int×(Int×Int×Int×Int×Int)×Int×List Int)×Int))) ((A.k df n).2.2.2.1,(A.k df n).2.2.1.2.1,(A.k oI (n.2.2.1,n.2.2.2.1,n.2.2.1.2.1,seen)).1)) (.more (.c1 ⟨m,((A.k df n).1,(A.k df n).2.1,((A.k df n).2.2.1.1,(A.k df n).2.2.1.2.1,(A.k df n).2.2.1.2.2.1,(A.k df n).2.2.1.2.2.2.1,(A.k vM ((A.k df n).2.2.2.1,(A.k df n).2.2.1.2.1,(A.k oI (n.2.2.1,n.2.2.2.1,n.2.2.1.2.1,seen)).1)).1.2.2.1),(A.k vM ((A.k df n).2.2.2.1,(A.k df n).2.2.1.2.1,(A.k oI (n.2.2.1,n.2.2.2.1,n.2.2.1.2.1,seen)).1)).1,(A.k df n).2.2.2.2),(A.k oI (n.2.2.1,n.2.2.2.1,n.2.2.1.2.1,seen)).1⟩)))))) (.need (A.k yv n) (.need (A.k (@tt ((Int×Int×Int×Int×Int×Int×Int)×Int×(Int×Int×Int×(Int×Int×(Int×Int×Int×Int×Int)×Int×List Int)×Int))) ((A.k df n).2.2.2.1,(A.k df n).2.2.1.2.1,(A.k oI (n.2.2.1,n.2.2.2.1,n.2.2.1.2.1,seen)).1)) (.more (.c1 ⟨m,((A.k df n).1,(A.k df n).2.1,((A.k df n).2.2.1.1,(A.k df n).2.2.1.2.1,(A.k df n).2.2.1.2.2.1,(A.k df n).2.2.1.2.2.2.1,(A.k vM ((A.k df n).2.2.2.1,(A.k df n).2.2.1.2.1,(A.k oI (n.2.2.1,n.2.2.2.1,n.2.2.1.2.1,seen)).1)).1.2.2.1),(A.k vM ((A.k df n).2.2.2.1,(A.k df n).2.2.1.2.1,(A.k oI (n.2.2.1,n.2.2.2.1,n.2.2.1.2.1,seen)).1)).1,(A.k df n).2.2.2.2),(A.k oI (n.2.2.1,n.2.2.2.1,n.2.2.1.2.1,seen)).1⟩)))))))))))
def yC(A:a_):Kf→LT (Node×ia×Int) Kf
 | .c0 p=>.br (A.c .eql 2 3) (.need (A.k (@tt (au×Node×kU)) (p.a0,p.a1,0,0,(0,0,0,0,0),0,([]:List Int))) (.more (.c2 ⟨(A.k F7 (p.a0,p.a1,0,0,(0,0,0,0,0),0,([]:List Int)))⟩))) (.more (.c2 ⟨p.a1⟩))
 | .c1 p=>.br (A.c .eql p.cZ.1 3) (.need (A.k (@tt (au×Node×kU)) (p.b0,p.b1,p.cZ.2.2.2.1)) (.more (.c3 ⟨(A.k F7 (p.b0,p.b1,p.cZ.2.2.2.1)),p.cZ⟩))) (.more (.c3 ⟨p.b1,p.cZ⟩))
 | .c2 p=>.br (A.c .eql p.c0.2.1 4) (.need (A.k (@tt tA) p.c0.2.2.2.1) (.br (A.not (A.k EA p.c0.2.2.2.1)) (.ret ((p.c0.1,3,p.c0.2.2),(2,0,0,(0,0,(0,0,0,0,0),0,([]:List Int)),0),0)) (.ret (p.c0,(2,0,0,(0,0,(0,0,0,0,0),0,([]:List Int)),0),0)))) (.ret (p.c0,(2,0,0,(0,0,(0,0,0,0,0),0,([]:List Int)),0),0))
 | .c3 p=>.br (A.c .eql p.d0.2.1 4) (.need (A.k (@tt tA) p.d0.2.2.2.1) (.br (A.not (A.k EA p.d0.2.2.2.1)) (.ret ((p.d0.1,3,p.d0.2.2),p.kC,0)) (.ret (p.d0,p.kC,0)))) (.ret (p.d0,p.kC,0))
theorem Ck{p:IK}:aF (yC aj) (.more (.c3 p)) (vX p.d0,p.kC,0):=by
 rw[al,yC];exact BR (Ce).symm
theorem J8{p:F6}:aF (yC aj) (.more (.c2 p)) (vX p.c0,yg,0):=by
 rw[al,yC];exact BR (Ce).symm
theorem Cs{p:Iw}:aF (yC aj) (.more (.c1 p)) (vX (bif decide (p.cZ.1=3) then vw p.b0 p.b1 p.cZ.2.2.2.1 else p.b1),p.cZ,0):=by
 rw[al,yC]
 refine aB (p:=p.cZ.1=3) aZ (fun g=>af.2 ⟨rfl,?_⟩) fun g=>?_
 ·rw[decide_eq_true g];exact Ck
 ·rw[decide_eq_false g];exact Ck
theorem UZ{m:au}{n:Node}{seen:List Seen}:aF (yC aj) (Pn aj m n seen) (Ee m n seen):=by
 unfold Pn Ee
 refine af.2 ⟨rfl,?_⟩
 rw[show aj.k Ca (m,n)=gG m n from rfl,show aj.k df n=n from rfl,show aj.k zZ n=wJ n from rfl,show aj.k oI (n.2.2.1,n.2.2.2.1,n.2.2.1.2.1,seen)=yj n seen from rfl,show aj.k EJ (m,n.2.2.1,(yj n seen).1.2.2.2.1)=mO m n.2.2.1 (yj n seen).1.2.2.2.1 from rfl]
 have e63:∀o:ia,aj.k vM (n.2.2.2.1,n.2.2.1.2.1,o)=gw (n.2.2.2.1,n.2.2.1.2.1,o):=fun _=>by rw[ak];exact AT
 rw[e63,e63]
 generalize yj n seen=S
 by_cases h:gG m n=0
 ·rw[decide_eq_true h,cond_true]
  refine(ah (zu h)).2 (af.2 ⟨rfl,?_⟩)
  cases hi:wJ n
  ·exact(ai rfl).2 (.ret _)
  refine(ah rfl).2 (aB (p:=n.2.2.1.2.1=n.1) aZ (fun hp=>ax (by rw[decide_eq_false (show ¬¬n.2.2.1.2.1=n.1 from fun k=>k hp)];rfl) (.ret _)) fun hp=>af.2 ⟨rfl,?_⟩)
  rw[decide_eq_true hp,Bool.true_and,cond_true]
  refine aB (p:=¬S.2=0) bu (fun g=>ax (by rw[decide_eq_false g];rfl) (.ret _)) fun g=>?_
  rw[decide_eq_true (Decidable.not_not.1 g),cond_true]
  refine aB (p:=S.1.1=3) aZ (fun k=>af.2 ⟨rfl,?_⟩) fun k=>af.2 ⟨ql h,af.2 ⟨rfl,?_⟩⟩
  ·cases hl:mO m n.2.2.1 S.1.2.2.2.1
   ·refine(ai rfl).2 (af.2 ⟨ql h,af.2 ⟨rfl,?_⟩⟩)
    rw[BF k hl,al,yC]
    exact(ah rfl).2 (J8 (p:=⟨zr n (Ae n yg)⟩))
   ·refine(ah rfl).2 (af.2 ⟨ql h,af.2 ⟨rfl,?_⟩⟩)
    rw[zn hl];exact Cs (p:=⟨m,zr n (Ae n S.1),S.1⟩)
  ·rw[Gk k];exact Cs (p:=⟨m,zr n (Ae n S.1),S.1⟩)
 ·rw[decide_eq_false h];exact(ai (rf h)).2 (.ret _)
def sn:(au×Node×List Seen)→(Node×ia×Int):=fun(m,c,k)=>Ee m c k
def UQ:aC:=⟨[bM,dC,(.slice gh)], [dC,rO,yI],(@tt (au×Node×List Seen)),sn⟩
theorem Tw:Sd 41 UQ:=aK ap cm true 125 [] [⟨41,14, [[3,4,6,7,10]]⟩,⟨41,16, [[4,6,7,10]]⟩] (fun A (m,n,seen)=>Pn A m n seen) yC Nq (fc Tryz.func41 fz) (sc YB (sc Zg (sc Yv (sc TX (sc L8 (sc Rs (sc R5 (sc Vy sz)))))))) (fun A y=>match y with |.c0 p=>⟨21,by kernel_rfl,by kernel_rfl⟩|.c1 p=>⟨21,by kernel_rfl,by kernel_rfl⟩|.c2 p=>⟨29,by kernel_rfl,by kernel_rfl⟩|.c3 p=>⟨29,by kernel_rfl,by kernel_rfl⟩) fun(m,n,seen) hp h=>UZ
end Go.Ev.M
