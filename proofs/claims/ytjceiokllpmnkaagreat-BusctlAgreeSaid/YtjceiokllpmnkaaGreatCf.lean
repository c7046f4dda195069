/-
  PROVED: what busctl.Other and metronomeref18.Other compute. Conditions: none.
-/
import Derived.Test.YtjceiokllpmnkaaGreatCe
import Derived.Test.YtjceiokllpmnkaaGreatJs
namespace Go.Ev.M
open Go.Proofs
set_option maxRecDepth 100000
set_option linter.unusedVariables false
set_option linter.unusedSimpArgs false
open Go.Ev.Pl
theorem inc_le{d:Int}(h0:0≤d)(h1:d≤1048576):0≤inc d∧inc d≤1048576:=by
 unfold inc;split<;>omega
theorem Fo{a b c d e f g c' d' e':Int}(h:gT a b c d e f g)(h1:0≤c'∧c'<((2^b.toNat:Nat):Int))(h2:0≤d'∧d'≤1048576)(h3:0≤e'∧e'≤1048576):gT a b c' d' e' 0 0:=by
 unfold gT at h ⊢
 exact⟨h.1,h.2.1,h.2.2.1,h.2.2.2.1,by omega,by omega,h1.1,h1.2,h2.1,h2.2,h3.1,h3.2,by omega,by omega,fun h=>absurd rfl h,fun h=>by omega⟩
theorem DY{a b c d e f g s k:Int}(h:gT a b c d e f g)(h0:0≤s)(h1:s<b)(h2:s≠a)(hk:k=0∨k=1)(he:(kC ((a,b,c,d,e,f,g),s,k)).2=0) :
  ∃c' d' e' f' g',(kC ((a,b,c,d,e,f,g),s,k)).1=(a,b,c',d',e',f',g')∧gT a b c' d' e' f' g'∧kP c' s=true:=by
 have hm:=h
 unfold gT at hm
 have hp:=qx (n:=b.toNat) (by omega)
 have id:=inc_le (d:=d) (by omega) (by omega)
 have ie:=inc_le (d:=e) (by omega) (by omega)
 have I:=fun {c s:Int} (h:0≤c∧c<((2^b.toNat:Nat):Int)) (h':0≤s∧s<b)=>M6 (c:=c) (s:=s) (n:=b) h.1 (by omega) h.2 h'.1 h'.2
 have D:=fun {c s:Int} (h:0≤c∧c<((2^b.toNat:Nat):Int)) (h':0≤s∧s<b)=>Gj (c:=c) (s:=s) (n:=b) h.1 (by omega) h.2 h'.1 (by omega)
 have BI:=fun {c s:Int} (h:0≤c∧c<((2^b.toNat:Nat):Int)) (h':0≤s∧s<b) {i:Int} (hi:0≤i)=>Hl (c:=c) (s:=s) (i:=i) h.1 (by omega) h'.1 (by omega) hi
 have BD:=fun {c s:Int} (h:0≤c∧c<((2^b.toNat:Nat):Int)) (h':0≤s∧s<b) {i:Int} (hi:0≤i)=>xu (c:=c) (s:=s) (i:=i) h.1 (by omega) h'.1 (by omega) hi
 have hc:0≤c∧c<((2^b.toNat:Nat):Int):=⟨by omega,by omega⟩
 have ha:0≤a∧a<b:=⟨by omega,by omega⟩
 have hs:0≤s∧s<b:=⟨h0,h1⟩
 have hg:0≤g∧g<b:=⟨by omega,by omega⟩
 have hf:f=0∨f=1∨f=2:=by omega
 have sa:(a==s)=false:=by simp;omega
 rcases hf with rfl|rfl|rfl<;>rcases hk with rfl|rfl
 ·rw[Ai h h0 h1 h2]
  exact⟨_,_,_,_,_,rfl,Fo h (I hc hs) id (by omega),by rw[BI hc hs h0];simp⟩
 ·exfalso
  revert he
  simp[kC,t25,LT.val,al,aF,aB,a_,dL.2 ⟨h,h0,h1,h2⟩,jM h h0 h1 h2,tA]
 ·rw[FF h h0 h1 h2]
  exact⟨_,_,_,_,_,rfl,Fo h (I (I hc hs) ha) id (by omega),by rw[BI (I hc hs) ha h0,BI hc hs h0];simp⟩
 ·rw[BR h h0 h1 h2]
  refine⟨_,_,_,_,_,rfl,?_,by rw[BI hc hs h0];simp⟩
  have:=I hc hs
  unfold gT
  exact⟨by omega,by omega,by omega,by omega,by omega,by omega,by omega,by omega,by omega,by omega,by omega,by omega,by omega,by omega,fun _=>by
   rw[BI hc hs ha.1,hm.2.2.2.2.2.2.2.2.2.2.2.2.2.2.1 (by decide)];rfl,fun _=>h2⟩
 ·by_cases hsg:s=g
  ·subst hsg
   rw[Cj h h0 h1 h2]
   exact⟨_,_,_,_,_,rfl,Fo h (I (I hc hs) ha) id (by omega),by rw[BI (I hc hs) ha h0,BI hc hs h0];simp⟩
  ·rw[Cc h h0 h1 h2 hsg]
   exact⟨_,_,_,_,_,rfl,Fo h (D (I (I hc hs) ha) hg) id ie,by
    have sg:(g != s)=true:=by simp;omega
    rw[BD (I (I hc hs) ha) hg h0,BI (I hc hs) ha h0,BI hc hs h0,sg];simp⟩
 ·by_cases hsg:s=g
  ·subst hsg
   exfalso
   revert he
   simp[kC,t25,LT.val,al,aF,aB,a_,dL.2 ⟨h,h0,h1,h2⟩,jM h h0 h1 h2,xB]
  ·rw[Cg h h0 h1 h2 hsg]
   exact⟨_,_,_,_,_,rfl,Fo h (D (I (I hc hs) hg) ha) id ie,by
    have sg:(a != s)=true:=by simp;omega
    rw[BD (I (I hc hs) hg) ha h0,BI (I hc hs) hg h0,BI hc hs h0,sg];simp⟩
theorem Et{a b c d e f g s:Int}(h:gT a b c d e f g)(h0:0≤s)(h1:s<b)(h2:s≠a) :
  ∃c' f' g',kg ((a,b,c,d,e,f,g),s)=((a,b,c',d,e,f',g'),0)∧gT a b c' d e f' g':=by
 have hm:=h
 unfold gT at hm
 have hp:=qx (n:=b.toNat) (by omega)
 have hd:=Gj (c:=c) (s:=s) (n:=b) (by omega) (by omega) (by omega) h0 (by omega)
 have hb:f≠0→kP (ky c s) a=true:=fun hf=>by
  rw[xu (by omega) (by omega) h0 (by omega) (by omega),hm.2.2.2.2.2.2.2.2.2.2.2.2.2.2.1 hf]
  simpa using h2
 by_cases hf:f=2
 ·subst hf
  by_cases hsg:g=s
  ·subst hsg
   refine⟨_,_,_,Gn h h2,?_⟩
   unfold gT
   exact⟨by omega,by omega,by omega,by omega,by omega,by omega,by omega,by omega,by omega,by omega,by omega,by omega,by omega,by omega,fun _=>hb (by decide),fun h=>by omega⟩
  ·refine⟨_,_,_,Ee h h0 h1 h2 hsg,?_⟩
   unfold gT
   exact⟨by omega,by omega,by omega,by omega,by omega,by omega,by omega,by omega,by omega,by omega,by omega,by omega,by omega,by omega,fun _=>hb (by decide),hm.2.2.2.2.2.2.2.2.2.2.2.2.2.2.2⟩
 ·refine⟨_,_,_,Af h h0 h1 h2 hf,?_⟩
  unfold gT
  exact⟨by omega,by omega,by omega,by omega,by omega,by omega,by omega,by omega,by omega,by omega,by omega,by omega,by omega,by omega,hb,fun h=>absurd h hf⟩
theorem PE{a b c d e f g e':Int}(h:gT a b c d e f g)(h1:0≤e'∧e'≤1048576):gT a b c d e' f g:=by
 unfold gT at h ⊢
 exact⟨h.1,h.2.1,h.2.2.1,h.2.2.2.1,h.2.2.2.2.1,h.2.2.2.2.2.1,h.2.2.2.2.2.2.1,h.2.2.2.2.2.2.2.1,h.2.2.2.2.2.2.2.2.1,h.2.2.2.2.2.2.2.2.2.1,h1.1,h1.2,h.2.2.2.2.2.2.2.2.2.2.2.2⟩
theorem zg{c:Int×Int×Int×Int×Int}{w:Int}{o:Int×Int×Int×(Int×Int×(Int×Int×Int×Int×Int)×Int×List Int)×Int}:∀{l:List (Int×Int×(Int×List Int))} {k:Nat},jh c w k l=some o→o.1=3∧∃s∈l,s.1=2:=by
 intro l
 induction l with
 | nil=>intro k h;cases h
 | cons s l ih=>
   intro k h
   rw[jh] at h
   cases hb:(s.1==2&&(rH (s.2.2,c)).2)
   ·rw[hb,cond_false] at h
    obtain⟨h1,x,hx,h2⟩:=ih h
    exact⟨h1,x,List.mem_cons_of_mem _ hx,h2⟩
   ·rw[hb,cond_true] at h
    cases h
    rw[Bool.and_eq_true,beq_iff_eq] at hb
    exact⟨rfl,s,List.mem_cons_self ..,hb.1⟩
theorem xx{t p m n:Int}{seen:List (Int×Int×(Int×List Int))}{o:Int×Int×Int×(Int×Int×(Int×Int×Int×Int×Int)×Int×List Int)×Int}:∀{l:List Int} {i:Nat},jL t p m n seen i l=some o→o.1=3∧∃s∈seen,s.1=2:=by
 intro l
 induction l with
 | nil=>intro i h;cases h
 | cons v l ih=>
   intro i h
   rw[jL] at h
   cases hs:jh (t,p,m,n,v) (i:Int) 0 seen with
   | none=>rw[hs] at h;exact ih h
   | some o'=>rw[hs] at h;cases h;exact zg hs
theorem xw{c:Int×Int×Int×Int×Int}{w:Int}{o:Int×Int×Int×(Int×Int×(Int×Int×Int×Int×Int)×Int×List Int)×Int}:∀{l:List (Int×Int×(Int×List Int))} {k:Nat},jh c w k l=some o→o.2.1=w:=by
 intro l
 induction l with
 | nil=>intro k h;cases h
 | cons s l ih=>
   intro k h
   rw[jh] at h
   cases hb:(s.1==2&&(rH (s.2.2,c)).2)
   ·rw[hb,cond_false] at h;exact ih h
   ·rw[hb,cond_true] at h;cases h;rfl
theorem vp{t p m n:Int}{seen:List (Int×Int×(Int×List Int))}{o:Int×Int×Int×(Int×Int×(Int×Int×Int×Int×Int)×Int×List Int)×Int}:∀{l:List Int} {i:Nat},jL t p m n seen i l=some o→∃k,k<l.length∧o.2.1=((i+k:Nat):Int):=by
 intro l
 induction l with
 | nil=>intro i h;cases h
 | cons v l ih=>
   intro i h
   rw[jL] at h
   cases hs:jh (t,p,m,n,v) (i:Int) 0 seen with
   | none=>
     rw[hs] at h
     obtain⟨k,h1,h2⟩:=ih h
     exact⟨k+1,by rw[List.length_cons];omega,by rw[h2];congr 1;omega⟩
   | some o'=>
     rw[hs] at h
     cases h
     exact⟨0,by rw[List.length_cons];omega,by rw[xw hs];rfl⟩
theorem kN{t p m n s sender:Int}{v:Int×Int×Int×Int×Int×Int×Int}{seen:List (Int×Int×(Int×List Int))}(h:(eD ((t,p,m,n,s),v,sender,seen)).2=0) :
  i7 v=0∧0≤sender∧sender<v.2.1∧sender≠v.1∧((∃k,k<(Ft (v,sender)).length∧(eD ((t,p,m,n,s),v,sender,seen)).1.1=3∧(eD ((t,p,m,n,s),v,sender,seen)).1.2.1=(k:Int))∨(eD ((t,p,m,n,s),v,sender,seen)).1.1=1∨(eD ((t,p,m,n,s),v,sender,seen)).1.1=2):=by
 rw[eD] at h ⊢
 cases h1:(i7 v != 0||gI ((t,p,m,n,s),v.2.1) != 0)
 ·rw[h1] at h
  rw[cond_false] at h ⊢
  cases h2:(decide (sender<0)||decide (v.2.1≤sender)||sender==v.1||seen.length != 2)
  ·rw[cond_false]
   simp only[Bool.or_eq_false_iff,bne_eq_false_iff_eq,decide_eq_false_iff_not,beq_eq_false_iff_ne] at h1 h2
   refine⟨h1.1,by omega,by omega,h2.1.2,?_⟩
   rw[tX]
   cases h3:jL t p m n seen 0 (Ft (v,sender)) with
   | some o=>
     obtain⟨k,h4,h5⟩:=vp h3
     exact .inl ⟨k,h4,(xx h3).1,by rw[Nat.zero_add] at h5;exact h5⟩
   | none=>
     right
     show(kT seen).1=1∨(kT seen).1=2
     rw[kT]
     cases seen.any fun s=>s.1 != 0
     ·exact .inl rfl
     ·exact .inr rfl
  ·rw[h2] at h;cases h
 ·rw[h1] at h;cases h
theorem pn{a b c d e f g s:Int}(h:gT a b c d e f g)(h0:0≤s)(h1:s<b)(h2:s≠a) :
  ∃c' f' g',kg ((a,b,c,d,e,f,g),s)=((a,b,c',d,e,f',g'),0)∧gT a b c' d e f' g'∧kP c' s=false:=by
 obtain⟨c',f',g',e1,e2⟩:=Et h h0 h1 h2
 refine⟨c',f',g',e1,e2,?_⟩
 have hc:=QK h
 have hm:=h
 unfold gT at hm
 have:c'=ky c s:=by
  by_cases hf:f=2
  ·subst hf
   by_cases hsg:g=s
   ·subst hsg
    rw[Gn h h2] at e1
    simp only[Prod.mk.injEq] at e1
    exact e1.1.2.2.1.symm
   ·rw[Ee h h0 h1 h2 hsg] at e1
    simp only[Prod.mk.injEq] at e1
    exact e1.1.2.2.1.symm
  ·rw[Af h h0 h1 h2 hf] at e1
   simp only[Prod.mk.injEq] at e1
   exact e1.1.2.2.1.symm
 rw[this,xu (by omega) hc h0 (by omega) h0,bne_self_eq_false,Bool.and_false]
theorem GA{a b c d e f g s:Int}{k:Nat}(h:gT a b c d e f g)(h0:0≤s)(h1:s<b)(h2:s≠a)(hk:k<(Ft ((a,b,c,d,e,f,g),s)).length):(kC ((a,b,c,d,e,f,g),s,(k:Int))).2=0∧((k:Int)=0∨(k:Int)=1):=by
 have hm:=h
 unfold gT at hm
 have hf:f=0∨f=1∨f=2:=by omega
 rw[Ft] at hk
 rcases hf with rfl|rfl|rfl
 ·rw[tA] at hk
  have:k=0:=by
   have:k<1:=hk
   omega
  subst this
  exact⟨by rw[show((0:Nat):Int)=0 from rfl,Ai h h0 h1 h2],.inl rfl⟩
 ·rw[AO] at hk
  have:k<2:=hk
  have:k=0∨k=1:=by omega
  rcases this with rfl|rfl
  ·exact⟨by rw[show((0:Nat):Int)=0 from rfl,FF h h0 h1 h2],.inl rfl⟩
  ·exact⟨by rw[show((1:Nat):Int)=1 from rfl,BR h h0 h1 h2],.inr rfl⟩
 ·by_cases hsg:s=g
  ·subst hsg
   rw[xB] at hk
   have:k=0:=by
    have:k<1:=hk
    omega
   subst this
   exact⟨by rw[show((0:Nat):Int)=0 from rfl,Cj h h0 h1 h2],.inl rfl⟩
  ·rw[x9 hsg] at hk
   have:k<2:=hk
   have:k=0∨k=1:=by omega
   rcases this with rfl|rfl
   ·exact⟨by rw[show((0:Nat):Int)=0 from rfl,Cc h h0 h1 h2 hsg],.inl rfl⟩
   ·exact⟨by rw[show((1:Nat):Int)=1 from rfl,Cg h h0 h1 h2 hsg],.inr rfl⟩
theorem Ck{v:Int×Int×Int×Int×Int×Int×Int}{s:Int}{o:Int×Int×Int×(Int×Int×(Int×Int×Int×Int×Int)×Int×List Int)×Int}(h:o.1=1):fV (v,s,o)=kg (v,s):=by
 obtain⟨a,b,c,d,e,f,g⟩:=v
 obtain⟨k,w,ch,⟨fk,fr,⟨t,p,m,n,x⟩,ff,fd⟩,at'⟩:=o
 have h:k=1:=h
 subst h
 rfl
theorem s7{v:Int×Int×Int×Int×Int×Int×Int}{s:Int}{o:Int×Int×Int×(Int×Int×(Int×Int×Int×Int×Int)×Int×List Int)×Int}(h:o.1=2):fV (v,s,o)=Ed (v,s):=by
 obtain⟨a,b,c,d,e,f,g⟩:=v
 obtain⟨k,w,ch,⟨fk,fr,⟨t,p,m,n,x⟩,ff,fd⟩,at'⟩:=o
 have h:k=2:=h
 subst h
 rfl
theorem BH{v:Int×Int×Int×Int×Int×Int×Int}{s:Int}{o:Int×Int×Int×(Int×Int×(Int×Int×Int×Int×Int)×Int×List Int)×Int}(h:o.1=3):fV (v,s,o)=kC (v,s,o.2.1):=by
 obtain⟨a,b,c,d,e,f,g⟩:=v
 obtain⟨k,w,ch,⟨fk,fr,⟨t,p,m,n,x⟩,ff,fd⟩,at'⟩:=o
 have h:k=3:=h
 subst h
 rfl
theorem wi{t p m n x s a b c d e f g:Int}{seen:List (Int×Int×(Int×List Int))}(h:(eD ((t,p,m,n,x),(a,b,c,d,e,f,g),s,seen)).2=0) :
  ∃c' d' e' f' g',fV ((a,b,c,d,e,f,g),s,(eD ((t,p,m,n,x),(a,b,c,d,e,f,g),s,seen)).1)=((a,b,c',d',e',f',g'),0)∧gT a b c' d' e' f' g'∧kP c' s=((eD ((t,p,m,n,x),(a,b,c,d,e,f,g),s,seen)).1.1==3)∧0≤s∧s<b:=by
 obtain⟨h1,h2,h3,h4,h5⟩:=kN h
 have hok:=fx.1 h1
 have h3:s<b:=h3
 have h4:s≠a:=h4
 rcases h5 with ⟨k,hk,h6,h7⟩|h6|h6
 ·obtain⟨he,hk2⟩:=GA hok h2 h3 h4 hk
  obtain⟨c',d',e',f',g',e1,e2,e3⟩:=DY hok h2 h3 h4 hk2 he
  refine⟨c',d',e',f',g',?_,e2,by rw[e3,h6];rfl,h2,h3⟩
  rw[BH h6,h7]
  exact Prod.ext e1 he
 ·obtain⟨c',f',g',e1,e2,e3⟩:=pn hok h2 h3 h4
  exact⟨c',d,e,f',g',by rw[Ck h6];exact e1,e2,by rw[e3,h6];rfl,h2,h3⟩
 ·obtain⟨c',f',g',e1,e2,e3⟩:=pn hok h2 h3 h4
  have hm:=hok
  unfold gT at hm
  refine⟨c',d,inc e,f',g',?_,PE e2 (inc_le (by omega) (by omega)),by rw[e3,h6];rfl,h2,h3⟩
  rw[s7 h6]
  exact xS e1 (show 0≤e by omega) (show e≤1048576 by omega)
def t24(A:bu)(mId:Int)(mN:Int)(mSet:Int)(mAcc:Int)(mFail:Int)(mStage:Int)(mFirst:Int):LT Bool Empty:=.need (A.k (@tt ((Int×Int×Int×Int×Int×Int×Int))) (mId,mN,mSet,mAcc,mFail,mStage,mFirst)) (.br (A.c .eql (A.k i7 (mId,mN,mSet,mAcc,mFail,mStage,mFirst)) 0) (.need (A.c .leq 0 mId) (.ret (A.c .eql (A.b .and .i64 (A.b .shr .i64 mSet mId) 1) 1))) (.ret false))
def A4:sn→Bool:=fun(mId,mN,mSet,mAcc,mFail,mStage,mFirst)=>(t24 ah mId mN mSet mAcc mFail mStage mFirst).val (Ty.bV [.bool])
def V8:aC:=⟨[Qo], [.bool],(@tt sn),A4⟩
theorem Xb:Sd 54 V8:=aK au dC true 27 [] (fun A (mId,mN,mSet,mAcc,mFail,mStage,mFirst)=>t24 A mId mN mSet mAcc mFail mStage mFirst) (fc Tryz.func54 fz) (sc Gg sz) (fun((mId,mN,mSet,mAcc,mFail,mStage,mFirst):sn) hp h=>by
 show(t24 ah mId mN mSet mAcc mFail mStage mFirst).pre=true
 simp only[t24,LT.pre,fH,aB,aF,ao,ax,aA,aI,aL,a_,fD,al,bi,aS,aY,cn,cB,Bool.and_eq_true,Bool.or_eq_true,Bool.and_eq_false_iff,Bool.or_eq_false_iff,Bool.not_eq_true',Bool.not_eq_false',decide_eq_true_eq,decide_eq_false_iff_not,bne_iff_ne,beq_iff_eq,bne_eq_false_iff_eq,beq_eq_false_iff_ne]
 simp only[Ty.du,Ty.has,pO] at h
 (repeat' (first|intro _|constructor))<;>(try (have hm:=fx.1 (by assumption);unfold gT at hm;omega)))
open Go.Ev.Pl
def xg:gU:=(2,0,0,KA,0)
def zD:gU:=(0,0,0,KA,0)
def jl(n:Node)(seen:List Seen):gU×Int:=eD (n.2.2.1,n.2.2.2.1,n.2.2.1.2.1,seen)
def iY(m:ap)(n:Node)(o:gU):gU:=bif decide (o.1=3) && !(oh m n.2.2.1 o.2.2.2.1) then xg else o
def zH(n:Node)(v:sn):Node:=(n.1,n.2.1,(n.2.2.1.1,n.2.2.1.2.1,n.2.2.1.2.2.1,n.2.2.1.2.2.2.1,v.2.2.1),v,n.2.2.2.2)
def vA(n:Node)(o:gU):sn:=(fV (n.2.2.2.1,n.2.2.1.2.1,o)).1
def zh(m:ap)(n:Node)(f:oz):Node:=(n.1,n.2.1,iT m n.2.2.1 f.2.1,n.2.2.2.1,n.2.2.2.2.1,n.2.2.2.2.2.1,n.2.2.2.2.2.2.1,bif decide (f.1=3) then n.2.2.2.2.2.2.2 else(kR n.2.2.2.2.2.2.2 n.2.2.1.2.1 f.2.2.2.2).1)
def sS(n:Node):Node:=bif decide (n.2.1=4) && !(A4 n.2.2.2.1) then(n.1,3,n.2.2) else n
def rZ(m:ap)(n:Node)(o:gU):Node:=sS (bif decide (o.1=3) then zh m (zH n (vA n o)) o.2.2.2.1 else zH n (vA n o))
def j_(m:ap)(n:Node)(seen:List Seen):Node×gU×Int:=bif decide (dh m n=0) then(bif kJ n&&decide (¬n.2.2.1.2.1=n.1) then(bif decide ((jl n seen).2=0) then(rZ m n (iY m n (jl n seen).1),iY m n (jl n seen).1,0) else(gD,zD,(jl n seen).2)) else(gD,zD,181)) else(gD,zD,dh m n)
theorem L1{c:dM}{v:sn}{s:Int}{seen:List Seen}(h:(eD (c,v,s,seen)).2=0):(fV (v,s,(eD (c,v,s,seen)).1)).2=0∧(fV (v,s,xg)).2=0:=by
 obtain⟨t,p,m,n,x⟩:=c
 obtain⟨a,b,c,d,e,f,g⟩:=v
 refine⟨?_,?_⟩
 ·obtain⟨c',d',e',f',g',e1,_⟩:=wi h;rw[e1]
 ·obtain⟨h1,h2,h3,h4,_⟩:=kN h
  have hok:=fx.1 h1
  have h3:s<b:=h3
  have h4:s≠a:=h4
  obtain⟨c',f',g',e1,_⟩:=pn hok h2 h3 h4
  have hm:=hok
  unfold gT at hm
  rw[s7 rfl,xS e1 (show 0≤e by omega) (show e≤1048576 by omega)]
theorem Be{m:ap}{n:Node}{f:oz}(hn:dh m n=0)(h:oh m n.2.2.1 f=true):(kR n.2.2.2.2.2.2.2 n.2.2.1.2.1 f.2.2.2.2).2=0:=by
 have hd:=eu.1 (dx hn).2
 simp only[oh,Bool.and_eq_true,decide_eq_true_eq] at h
 have hk:=qL h.1
 have hx:=La hk.1 hk.2.1 hk.2.2
 have h8:(f.2.2.2.2.length:Int)≤8:=by
  rw[h.2.2]
  by_cases g:(iR m n.2.2.1.2.2.1 n.2.2.1.2.1).1=3
  ·rw[decide_eq_true g];exact(by omega:(0:Int)≤8)
  ·rw[decide_eq_false g];exact hx.2
 have e6:=hd.2.2.2.2.2.1
 rw[kR,hd.2.2.2.1,decide_eq_true (show 0≤n.2.2.1.2.1∧n.2.2.1.2.1≤(n.2.2.2.2.2.2.2.2.2.1.length:Int)-1 by rw[e6];exact hk.2.1),decide_eq_false (show ¬8<(f.2.2.2.2.length:Int) by omega)]
 rfl
theorem B4{m:ap}{n:Node}{o:gU}(h:o.1=3)(h2:oh m n.2.2.1 o.2.2.2.1=false):iY m n o=xg:=by rw[iY,decide_eq_true h,h2];rfl
theorem zQ{m:ap}{n:Node}{o:gU}(h2:oh m n.2.2.1 o.2.2.2.1=true):iY m n o=o:=by rw[iY,h2,Bool.not_true,Bool.and_false];rfl
theorem Fy{m:ap}{n:Node}{o:gU}(h:¬o.1=3):iY m n o=o:=by rw[iY,decide_eq_false h];rfl
theorem JR{Y:Type}{step:Y→LT (Node×gU×Int) Y}{n:Node}{o:gU}{b:Bool}(hb:b=A4 n.2.2.2.1):aD step (.br (ah.c .eql n.2.1 4) (.need true (.br (ah.not b) (.ret ((n.1,3,n.2.2),o,0)) (.ret (n,o,0)))) (.ret (n,o,0))) (sS n,o,0):=by
 rw[sS]
 refine aM (p:=n.2.1=4) bT (fun h=>af.2 ⟨rfl,?_⟩) fun h=>aH (by rw[decide_eq_false h];rfl) (.ret _)
 rw[decide_eq_true h,Bool.true_and,←hb]
 cases b
 ·exact(aj rfl).2 (.ret _)
 ·exact(ai rfl).2 (.ret _)
structure Gk where
 (a0:List Seen) (a1:Int) (a2:ap) (a17:Node)
structure FT where
 (b0:Int) (b1:ap) (dd:Node) (jZ:gU)
structure Gt where
 (c14:Node)
structure Gd where
 (d0:ap) (tH:Node) (AB:gU)
structure FU where
 (e14:Node) (e15:gU)
structure Ep where
 (f0:ap) (f15:Node) (f16:gU)
inductive Jp where
 | c0 (p:Gk)
 | c1 (p:FT)
 | c2 (p:Gt)
 | c3 (p:Gd)
 | c4 (p:FU)
 | c5 (p:Ep)
noncomputable def MG:Jp→f_
 | .c0 p=>⟨[⟨14,111,(en [(2,.sl aU p.a0),(3,.ptr 0 0),(6,.ptr 1 0),(7,.ptr 2 0),(9,.ptr 3 0),(10,vi p.a1)]),[.code (cw Tryz.f14 [1,1,0,0]),.code (cw Tryz.f14 [1,1,0,1]),.code (cw Tryz.f14 [1,1,1])],[],none⟩],[.flat false (dc c_ p.a2),.flat false [vi 0,vi 0,vi 0,vi 0,vi 0,vi 0,vi 0,vi 0,vi 0,vi 0,vi 0,vi 0,vi 0,vi 0,vi 0,vb false,vi 0,vi 0,.dp true,.dp true,vi 0,vi 0],.flat false [vi 0,vi 0,vi 0,vi 0,vi 0,vi 0,vi 0,vi 0,vi 0,vi 0,vi 0,.dp true,vi 0],.flat false (dc eE p.a17),.dead]⟩
 | .c1 p=>⟨[⟨14,111,(en [(3,.ptr 0 0),(6,.ptr 1 0),(7,.ptr 2 0),(9,.ptr 3 0),(10,vi p.b0),(11,.ptr 4 0)]),[.code (cw Tryz.f14 [1,1,1,1,0,0]),.code (cw Tryz.f14 [1,1,1,1,0,1]),.code (cw Tryz.f14 [1,1,1,1,1])],[],none⟩],[.flat false (dc c_ p.b1),.flat false [vi 0,vi 0,vi 0,vi 0,vi 0,vi 0,vi 0,vi 0,vi 0,vi 0,vi 0,vi 0,vi 0,vi 0,vi 0,vb false,vi 0,vi 0,.dp true,.dp true,vi 0,vi 0],.flat false [vi 0,vi 0,vi 0,vi 0,vi 0,vi 0,vi 0,vi 0,vi 0,vi 0,vi 0,.dp true,vi 0],.flat false (dc eE p.dd),.flat false (dc yM p.jZ),.dead]⟩
 | .c2 p=>⟨[⟨14,111,(en [(6,.ptr 0 0),(7,.ptr 1 0),(9,.ptr 2 0),(11,.ptr 3 0)]),[.code (cw Tryz.f14 [1,1,1,1,1,1,1,1,1,0,0]),.code (cw Tryz.f14 [1,1,1,1,1,1,1,1,1,0,1]),.code (cw Tryz.f14 [1,1,1,1,1,1,1,1,1,1])],[],none⟩],[.flat false [vi 0,vi 0,vi 0,vi 0,vi 0,vi 0,vi 0,vi 0,vi 0,vi 0,vi 0,vi 0,vi 0,vi 0,vi 0,vb false,vi 0,vi 0,.dp true,.dp true,vi 0,vi 0],.flat false [vi 0,vi 0,vi 0,vi 0,vi 0,vi 0,vi 0,vi 0,vi 0,vi 0,vi 0,.dp true,vi 0],.flat false (dc eE p.c14),.flat false [vi 2,vi 0,vi 0,vi 0,vi 0,vi 0,vi 0,vi 0,vi 0,vi 0,vi 0,.dp true,vi 0],.dead]⟩
 | .c3 p=>⟨[⟨14,111,(en [(3,.ptr 0 0),(6,.ptr 1 0),(7,.ptr 2 0),(9,.ptr 3 0),(11,.ptr 4 0)]),[.code (cw Tryz.f14 [1,1,1,1,1,1,1,1,0,1,0,0,0]),.code (cw Tryz.f14 [1,1,1,1,1,1,1,1,0,1,0,0,1]),.code (cw Tryz.f14 [1,1,1,1,1,1,1,1,0,1,0,1]),.code (cw Tryz.f14 [1,1,1,1,1,1,1,1,1])],[],none⟩],[.flat false (dc c_ p.d0),.flat false [vi 0,vi 0,vi 0,vi 0,vi 0,vi 0,vi 0,vi 0,vi 0,vi 0,vi 0,vi 0,vi 0,vi 0,vi 0,vb false,vi 0,vi 0,.dp true,.dp true,vi 0,vi 0],.flat false [vi 0,vi 0,vi 0,vi 0,vi 0,vi 0,vi 0,vi 0,vi 0,vi 0,vi 0,.dp true,vi 0],.flat false (dc eE p.tH),.flat false (dc yM p.AB),.dead]⟩
 | .c4 p=>⟨[⟨14,111,(en [(6,.ptr 0 0),(7,.ptr 1 0),(9,.ptr 2 0),(11,.ptr 3 0)]),[.code (cw Tryz.f14 [1,1,1,1,1,1,1,1,1,0,0]),.code (cw Tryz.f14 [1,1,1,1,1,1,1,1,1,0,1]),.code (cw Tryz.f14 [1,1,1,1,1,1,1,1,1,1])],[],none⟩],[.flat false [vi 0,vi 0,vi 0,vi 0,vi 0,vi 0,vi 0,vi 0,vi 0,vi 0,vi 0,vi 0,vi 0,vi 0,vi 0,vb false,vi 0,vi 0,.dp true,.dp true,vi 0,vi 0],.flat false [vi 0,vi 0,vi 0,vi 0,vi 0,vi 0,vi 0,vi 0,vi 0,vi 0,vi 0,.dp true,vi 0],.flat false (dc eE p.e14),.flat false (dc yM p.e15),.dead]⟩
 | .c5 p=>⟨[⟨14,111,(en [(3,.ptr 0 0),(6,.ptr 1 0),(7,.ptr 2 0),(9,.ptr 3 0),(11,.ptr 4 0)]),[.code (cw Tryz.f14 [1,1,1,1,1,1,1,1,0,1,0,1]),.code (cw Tryz.f14 [1,1,1,1,1,1,1,1,1])],[],none⟩],[.flat false (dc c_ p.f0),.flat false [vi 0,vi 0,vi 0,vi 0,vi 0,vi 0,vi 0,vi 0,vi 0,vi 0,vi 0,vi 0,vi 0,vi 0,vi 0,vb false,vi 0,vi 0,.dp true,.dp true,vi 0,vi 0],.flat false [vi 0,vi 0,vi 0,vi 0,vi 0,vi 0,vi 0,vi 0,vi 0,vi 0,vi 0,.dp true,vi 0],.flat false (dc eE p.f15),.flat false (dc yM p.f16),.dead]⟩
def Lv(A:bu)(m:ap)(n:Node)(seen:List Seen):LT (Node×gU×Int) Jp:=.need (A.k (@tt Node) n) (.br (A.k cN n) (.need (A.k (@tt (ap×Node×Bool)) (m,n,(A.c .neq n.2.2.1.2.1 n.1))) (.need (A.k (@tt (ap×Node×Bool)) (m,n,(A.c .neq n.2.2.1.2.1 n.1))) (.eqs (((A.k cN n):Bool)=true) (.need (A.k (@tt Node) n) (.more (.c0 ⟨seen,(A.k bq (m,n,(A.c .neq n.2.2.1.2.1 n.1))).2,m,(A.k bq (m,n,(A.c .neq n.2.2.1.2.1 n.1))).1⟩)))))) (.need (A.k (@tt (ap×Node×Bool)) (m,n,false)) (.need (A.k (@tt (ap×Node×Bool)) (m,n,false)) (.eqs (((A.k cN n):Bool)=false) (.need (A.k (@tt Node) n) (.more (.c0 ⟨seen,(A.k bq (m,n,false)).2,m,(A.k bq (m,n,false)).1⟩)))))))
def ou(A:bu):Jp→LT (Node×gU×Int) Jp
 | .c0 p=>.br (A.c .neq p.a1 0) (.ret ((0,0,(0,0,0,0,0),(0,0,0,0,0,0,0),0,false,0,0,([]:List Int),([]:List dF),0,0),(0,0,0,(0,0,(0,0,0,0,0),0,([]:List Int)),0),p.a1)) (.need (A.k (@tt ((Int×Int×Int×Int×Int)×(Int×Int×Int×Int×Int×Int×Int)×Int×List (Int×Int×(Int×List Int)))) (p.a17.2.2.1,p.a17.2.2.2.1,p.a17.2.2.1.2.1,p.a0)) (.more (.c1 ⟨(A.k MW (p.a17.2.2.1,p.a17.2.2.2.1,p.a17.2.2.1.2.1,p.a0)).2,p.a2,p.a17,(A.k MW (p.a17.2.2.1,p.a17.2.2.2.1,p.a17.2.2.1.2.1,p.a0)).1⟩)))
 | .c1 p=>.br (A.c .neq p.b0 0) (.ret ((0,0,(0,0,0,0,0),(0,0,0,0,0,0,0),0,false,0,0,([]:List Int),([]:List dF),0,0),(0,0,0,(0,0,(0,0,0,0,0),0,([]:List Int)),0),p.b0)) (.br (A.c .eql p.jZ.1 3) (.need (A.k (@tt (ap×dM×oz)) (p.b1,p.dd.2.2.1,p.jZ.2.2.2.1)) (.br (A.not (A.k Bh (p.b1,p.dd.2.2.1,p.jZ.2.2.2.1))) (.need (A.k (@tt ((Int×Int×Int×Int×Int×Int×Int)×Int×(Int×Int×Int×(Int×Int×(Int×Int×Int×Int×Int)×Int×List Int)×Int))) (p.dd.2.2.2.1,p.dd.2.2.1.2.1,2,0,0,(0,0,(0,0,0,0,0),0,([]:List Int)),0)) (.br (A.c .neq (A.k fV (p.dd.2.2.2.1,p.dd.2.2.1.2.1,2,0,0,(0,0,(0,0,0,0,0),0,([]:List Int)),0)).2 0) (.ret ((0,0,(0,0,0,0,0),(0,0,0,0,0,0,0),0,false,0,0,([]:List Int),([]:List dF),0,0),(0,0,0,(0,0,(0,0,0,0,0),0,([]:List Int)),0),(A.k fV (p.dd.2.2.2.1,p.dd.2.2.1.2.1,2,0,0,(0,0,(0,0,0,0,0),0,([]:List Int)),0)).2)) (.more (.c2 ⟨(p.dd.1,p.dd.2.1,(p.dd.2.2.1.1,p.dd.2.2.1.2.1,p.dd.2.2.1.2.2.1,p.dd.2.2.1.2.2.2.1,(A.k fV (p.dd.2.2.2.1,p.dd.2.2.1.2.1,2,0,0,(0,0,(0,0,0,0,0),0,([]:List Int)),0)).1.2.2.1),(A.k fV (p.dd.2.2.2.1,p.dd.2.2.1.2.1,2,0,0,(0,0,(0,0,0,0,0),0,([]:List Int)),0)).1,p.dd.2.2.2.2)⟩)))) (.need (A.k (@tt ((Int×Int×Int×Int×Int×Int×Int)×Int×(Int×Int×Int×(Int×Int×(Int×Int×Int×Int×Int)×Int×List Int)×Int))) (p.dd.2.2.2.1,p.dd.2.2.1.2.1,p.jZ)) (.br (A.c .neq (A.k fV (p.dd.2.2.2.1,p.dd.2.2.1.2.1,p.jZ)).2 0) (.ret ((0,0,(0,0,0,0,0),(0,0,0,0,0,0,0),0,false,0,0,([]:List Int),([]:List dF),0,0),(0,0,0,(0,0,(0,0,0,0,0),0,([]:List Int)),0),(A.k fV (p.dd.2.2.2.1,p.dd.2.2.1.2.1,p.jZ)).2)) (.br (A.c .eql p.jZ.1 3) (.more (.c3 ⟨p.b1,(p.dd.1,p.dd.2.1,(p.dd.2.2.1.1,p.dd.2.2.1.2.1,p.dd.2.2.1.2.2.1,p.dd.2.2.1.2.2.2.1,(A.k fV (p.dd.2.2.2.1,p.dd.2.2.1.2.1,p.jZ)).1.2.2.1),(A.k fV (p.dd.2.2.2.1,p.dd.2.2.1.2.1,p.jZ)).1,p.dd.2.2.2.2),p.jZ⟩)) (.more (.c4 ⟨(p.dd.1,p.dd.2.1,(p.dd.2.2.1.1,p.dd.2.2.1.2.1,p.dd.2.2.1.2.2.1,p.dd.2.2.1.2.2.2.1,(A.k fV (p.dd.2.2.2.1,p.dd.2.2.1.2.1,p.jZ)).1.2.2.1),(A.k fV (p.dd.2.2.2.1,p.dd.2.2.1.2.1,p.jZ)).1,p.dd.2.2.2.2),p.jZ⟩))))))) (.need (A.k (@tt ((Int×Int×Int×Int×Int×Int×Int)×Int×(Int×Int×Int×(Int×Int×(Int×Int×Int×Int×Int)×Int×List Int)×Int))) (p.dd.2.2.2.1,p.dd.2.2.1.2.1,p.jZ)) (.br (A.c .neq (A.k fV (p.dd.2.2.2.1,p.dd.2.2.1.2.1,p.jZ)).2 0) (.ret ((0,0,(0,0,0,0,0),(0,0,0,0,0,0,0),0,false,0,0,([]:List Int),([]:List dF),0,0),(0,0,0,(0,0,(0,0,0,0,0),0,([]:List Int)),0),(A.k fV (p.dd.2.2.2.1,p.dd.2.2.1.2.1,p.jZ)).2)) (.br (A.c .eql p.jZ.1 3) (.more (.c3 ⟨p.b1,(p.dd.1,p.dd.2.1,(p.dd.2.2.1.1,p.dd.2.2.1.2.1,p.dd.2.2.1.2.2.1,p.dd.2.2.1.2.2.2.1,(A.k fV (p.dd.2.2.2.1,p.dd.2.2.1.2.1,p.jZ)).1.2.2.1),(A.k fV (p.dd.2.2.2.1,p.dd.2.2.1.2.1,p.jZ)).1,p.dd.2.2.2.2),p.jZ⟩)) (.more (.c4 ⟨(p.dd.1,p.dd.2.1,(p.dd.2.2.1.1,p.dd.2.2.1.2.1,p.dd.2.2.1.2.2.1,p.dd.2.2.1.2.2.2.1,(A.k fV (p.dd.2.2.2.1,p.dd.2.2.1.2.1,p.jZ)).1.2.2.1),(A.k fV (p.dd.2.2.2.1,p.dd.2.2.1.2.1,p.jZ)).1,p.dd.2.2.2.2),p.jZ⟩))))))
 | .c2 p=>.br (A.c .eql p.c14.2.1 4) (.need (A.k (@tt sn) p.c14.2.2.2.1) (.br (A.not (A.k A4 p.c14.2.2.2.1)) (.ret ((p.c14.1,3,p.c14.2.2),(2,0,0,(0,0,(0,0,0,0,0),0,([]:List Int)),0),0)) (.ret (p.c14,(2,0,0,(0,0,(0,0,0,0,0),0,([]:List Int)),0),0)))) (.ret (p.c14,(2,0,0,(0,0,(0,0,0,0,0),0,([]:List Int)),0),0))
 | .c3 p=>.br (A.c .neq p.AB.2.2.2.1.1 3) (.need (A.k (@tt (ek×Int×List Int)) (p.tH.2.2.2.2.2.2.2,p.tH.2.2.1.2.1,p.AB.2.2.2.1.2.2.2.2)) (.need (A.k (@tt (ek×Int×List Int)) (p.tH.2.2.2.2.2.2.2,p.tH.2.2.1.2.1,p.AB.2.2.2.1.2.2.2.2)) (.br (A.c .eql (A.k rD (p.tH.2.2.2.2.2.2.2,p.tH.2.2.1.2.1,p.AB.2.2.2.1.2.2.2.2)).2 0) (.more (.c5 ⟨p.d0,(p.tH.1,p.tH.2.1,p.tH.2.2.1,p.tH.2.2.2.1,p.tH.2.2.2.2.1,p.tH.2.2.2.2.2.1,p.tH.2.2.2.2.2.2.1,(A.k rD (p.tH.2.2.2.2.2.2.2,p.tH.2.2.1.2.1,p.AB.2.2.2.1.2.2.2.2)).1),p.AB⟩)) (.more (.c5 ⟨p.d0,p.tH,p.AB⟩))))) (.more (.c5 ⟨p.d0,p.tH,p.AB⟩))
 | .c4 p=>.br (A.c .eql p.e14.2.1 4) (.need (A.k (@tt sn) p.e14.2.2.2.1) (.br (A.not (A.k A4 p.e14.2.2.2.1)) (.ret ((p.e14.1,3,p.e14.2.2),p.e15,0)) (.ret (p.e14,p.e15,0)))) (.ret (p.e14,p.e15,0))
 | .c5 p=>.need (A.k (@tt (ap×dM×Int)) (p.f0,p.f15.2.2.1,p.f16.2.2.2.1.2.1)) (.need (A.k (@tt (ap×dM×Int)) (p.f0,p.f15.2.2.1,p.f16.2.2.2.1.2.1)) (.br (A.c .eql (A.k q_ (p.f0,p.f15.2.2.1,p.f16.2.2.2.1.2.1)).2 0) (.more (.c4 ⟨(p.f15.1,p.f15.2.1,(A.k q_ (p.f0,p.f15.2.2.1,p.f16.2.2.2.1.2.1)).1,p.f15.2.2.2),p.f16⟩)) (.more (.c4 ⟨p.f15,p.f16⟩))))
theorem AN{p:FU}:aD (ou ah) (.more (.c4 p)) (sS p.e14,p.e15,0):=by
 rw[ak,ou];exact JR rfl
theorem Lk{p:Gt}:aD (ou ah) (.more (.c2 p)) (sS p.c14,xg,0):=by
 rw[ak,ou];exact JR rfl
theorem GG{p:Ep}:aD (ou ah) (.more (.c5 p)) (sS (p.f15.1,p.f15.2.1,iT p.f0 p.f15.2.2.1 p.f16.2.2.2.1.2.1,p.f15.2.2.2),p.f16,0):=by
 rw[ak,ou,iT]
 refine af.2 ⟨rfl,af.2 ⟨rfl,?_⟩⟩
 rw[show ∀x,ah.k q_ x=vE x.1 x.2.1 x.2.2 from fun _=>rfl]
 refine aM (p:=(vE p.f0 p.f15.2.2.1 p.f16.2.2.2.1.2.1).2=0) bT (fun g=>?_) fun g=>?_
 ·rw[decide_eq_true g];exact AN
 ·rw[decide_eq_false g];exact AN
theorem Kx{p:Gd}(h:(kR p.tH.2.2.2.2.2.2.2 p.tH.2.2.1.2.1 p.AB.2.2.2.1.2.2.2.2).2=0):aD (ou ah) (.more (.c3 p)) (sS (zh p.d0 p.tH p.AB.2.2.2.1),p.AB,0):=by
 rw[ak,ou,zh]
 refine aM (p:=¬p.AB.2.2.2.1.1=3) bg (fun g=>af.2 ⟨rfl,af.2 ⟨rfl,?_⟩⟩) fun g=>?_
 ·rw[decide_eq_false g,show ∀x,ah.k rD x=kR x.1 x.2.1 x.2.2 from fun _=>rfl]
  exact(aj (FP h)).2 GG
 ·rw[decide_eq_true (Decidable.not_not.1 g)];exact GG
theorem Mw{p:FT}{m:ap}{n:Node}{S:gU×Int}(h0:p.b0=S.2)(h1:p.b1=m)(h2:p.dd=n)(h3:p.jZ=S.1)(hn:dh m n=0)(ha:S.2=0→(fV (n.2.2.2.1,n.2.2.1.2.1,S.1)).2=0∧(fV (n.2.2.2.1,n.2.2.1.2.1,xg)).2=0):aD (ou ah) (.more (.c1 p)) (bif decide (S.2=0) then(rZ m n (iY m n S.1),iY m n S.1,0) else(gD,zD,S.2)):=by
 subst h1 h2
 rw[ak,ou,h0,h3]
 refine aM (p:=¬S.2=0) bg (fun g=>aH (by rw[decide_eq_false g];rfl) (.ret _)) fun g=>?_
 have g:=Decidable.not_not.1 g
 obtain⟨a1,a2⟩:=ha g
 rw[decide_eq_true g,cond_true]
 rw[show ah.k Bh (p.b1,p.dd.2.2.1,S.1.2.2.2.1)=oh p.b1 p.dd.2.2.1 S.1.2.2.2.1 from rfl]
 have e1:ah.c .neq (ah.k fV (p.dd.2.2.2.1,p.dd.2.2.1.2.1,S.1)).2 0=false:=by rw[al,a1];rfl
 have e2:ah.c .neq (ah.k fV (p.dd.2.2.2.1,p.dd.2.2.1.2.1,2,0,0,(0,0,(0,0,0,0,0),0,([]:List Int)),0)).2 0=false:=by rw[al];unfold xg KA at a2;rw[a2];rfl
 refine aM (p:=S.1.1=3) bT (fun k=>af.2 ⟨rfl,?_⟩) fun k=>af.2 ⟨rfl,(ai e1).2 ((ai (by rw[bT];exact decide_eq_false k)).2 ?_)⟩
 ·cases hl:oh p.b1 p.dd.2.2.1 S.1.2.2.2.1
  ·refine(aj rfl).2 (af.2 ⟨rfl,(ai e2).2 ?_⟩)
   rw[B4 k hl];exact Lk (p:=⟨zH p.dd (vA p.dd xg)⟩)
  ·refine(ai rfl).2 (af.2 ⟨rfl,(ai e1).2 ((aj (by rw[bT];exact decide_eq_true k)).2 ?_)⟩)
   rw[zQ hl,rZ,decide_eq_true k]
   have hv:=Be hn hl
   exact Kx (p:=⟨p.b1,zH p.dd (vA p.dd S.1),S.1⟩) hv
 ·rw[Fy k,rZ,decide_eq_false k];exact AN (p:=⟨zH p.dd (vA p.dd S.1),S.1⟩)
theorem Yc{m:ap}{n:Node}{seen:List Seen}:aD (ou ah) (Lv ah m n seen) (j_ m n seen):=by
 unfold Lv j_
 rw[show ah.k cN n=kJ n from rfl]
 refine af.2 ⟨rfl,?_⟩
 have no:∀q:Gk,q.a1=(kB m n false).2→aD (ou ah) (.more (.c0 q)) (bif decide (dh m n=0) then(gD,zD,181) else(gD,zD,dh m n)):=fun q hq=>by
  rw[ak,ou,hq,kB]
  by_cases h:dh m n=0
  ·rw[decide_eq_true h];exact(aj rfl).2 (.ret _)
  ·rw[decide_eq_false h];exact(aj (sC h)).2 (.ret _)
 cases hi:kJ n
 ·exact(ai rfl).2 (af.2 ⟨rfl,af.2 ⟨rfl,e_.2 ⟨rfl,af.2 ⟨rfl,no _ rfl⟩⟩⟩⟩)
 ·refine(aj rfl).2 (af.2 ⟨rfl,af.2 ⟨rfl,e_.2 ⟨rfl,af.2 ⟨rfl,?_⟩⟩⟩⟩)
  rw[show ∀w,ah.k bq (m,n,w)=kB m n w from fun _=>rfl,bg,Bool.true_and]
  by_cases hp:n.2.2.1.2.1=n.1
  ·rw[decide_eq_false (show ¬¬n.2.2.1.2.1=n.1 from fun k=>k hp)];exact no _ rfl
  ·rw[decide_eq_true hp,cond_true]
   by_cases h:dh m n=0
   ·have e:kB m n true=(n,0):=by rw[kB,decide_eq_true h];rfl
    rw[decide_eq_true h,e,cond_true,ak,ou]
    exact(ai rfl).2 (af.2 ⟨rfl,Mw (S:=jl n seen) rfl rfl rfl rfl h fun g=>L1 (c:=n.2.2.1) (v:=n.2.2.2.1) (s:=n.2.2.1.2.1) (seen:=seen) g⟩)
   ·have:=no ⟨seen,(kB m n true).2,m,(kB m n true).1⟩ (by rw[kB,kB,decide_eq_false h];rfl)
    rw[decide_eq_false h] at this ⊢
    exact this
def da:(ap×Node×List Seen)→(Node×gU×Int):=fun(m,c,k)=>j_ m c k
def Oy:aC:=⟨[c_,eE,(.slice aU)], [eE,yM,yI],(@tt (ap×Node×List Seen)),da⟩
theorem O8:Sd 14 Oy:=aJ au dC true 38 [] [⟨14,2, [[2,3,6,7,9,10]]⟩,⟨14,5, [[3,6,7,9,10,11]]⟩,⟨14,14, [[3,6,7,9,11]]⟩,⟨14,16, [[3,6,7,9,11]]⟩,⟨14,17, [[6,7,9,11]]⟩] (fun A (m,n,seen)=>Lv A m n seen) ou MG (fc Tryz.func14 (fc Tryz.func52 (fc Tryz.func53 fz))) (sc Xb (sc WC (sc XO (sc BY (sc B8 (sc Kg (sc JB (sc Kk sz)))))))) (fun A y=>match y with |.c0 p=>⟨31,by kernel_rfl,by kernel_rfl⟩|.c1 p=>⟨76,by kernel_rfl,by kernel_rfl⟩|.c2 p=>⟨29,by kernel_rfl,by kernel_rfl⟩|.c3 p=>⟨56,by kernel_rfl,by kernel_rfl⟩|.c4 p=>⟨29,by kernel_rfl,by kernel_rfl⟩|.c5 p=>⟨48,by kernel_rfl,by kernel_rfl⟩) fun(m,n,seen) hp h=>Yc
theorem Vm{o:gU}:G0 (o,o)=true:=by
 obtain⟨k,w,at',⟨a,b,⟨t,p,m,n,s⟩,f,d⟩,x⟩:=o
 simp only[G0,t64,al,M0,t44,LT.val,je,F7,cond_true]
 rfl
end Go.Ev.M
