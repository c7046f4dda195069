/-
  PROVED: what busctl.Other and metronomeref18.Other compute. Conditions: none.
-/
import Derived.Test.YtjceiokllpmnkaaGreatCe
import Derived.Test.YtjceiokllpmnkaaGreatJs
namespace Go.Ev.M
open Go.Proofs
set_option maxRecDepth 100000
set_option linter.unusedVariables false
set_option linter.unusedSimpArgs false
open Go.Ev.Pl
theorem inc_le{d:Int}(h0:0≤d)(h1:d≤1048576):0≤inc d∧inc d≤1048576:=by
 unfold inc;split<;>omega
theorem DT{a b c d e f g c' d' e':Int}(h:gS a b c d e f g)(h1:0≤c'∧c'<((2^b.toNat:Nat):Int))(h2:0≤d'∧d'≤1048576)(h3:0≤e'∧e'≤1048576):gS a b c' d' e' 0 0:=by
 unfold gS at h ⊢
 exact⟨h.1,h.2.1,h.2.2.1,h.2.2.2.1,by omega,by omega,h1.1,h1.2,h2.1,h2.2,h3.1,h3.2,by omega,by omega,fun h=>absurd rfl h,fun h=>by omega⟩
theorem CQ{a b c d e f g s k:Int}(h:gS a b c d e f g)(h0:0≤s)(h1:s<b)(h2:s≠a)(hk:k=0∨k=1)(he:(kC ((a,b,c,d,e,f,g),s,k)).2=0) :
  ∃c' d' e' f' g',(kC ((a,b,c,d,e,f,g),s,k)).1=(a,b,c',d',e',f',g')∧gS a b c' d' e' f' g'∧jF c' s=true:=by
 have hm:=h
 unfold gS at hm
 have hp:=qk (n:=b.toNat) (by omega)
 have id:=inc_le (d:=d) (by omega) (by omega)
 have ie:=inc_le (d:=e) (by omega) (by omega)
 have I:=fun {c s:Int} (h:0≤c∧c<((2^b.toNat:Nat):Int)) (h':0≤s∧s<b)=>KG (c:=c) (s:=s) (n:=b) h.1 (by omega) h.2 h'.1 h'.2
 have D:=fun {c s:Int} (h:0≤c∧c<((2^b.toNat:Nat):Int)) (h':0≤s∧s<b)=>D2 (c:=c) (s:=s) (n:=b) h.1 (by omega) h.2 h'.1 (by omega)
 have BI:=fun {c s:Int} (h:0≤c∧c<((2^b.toNat:Nat):Int)) (h':0≤s∧s<b) {i:Int} (hi:0≤i)=>G6 (c:=c) (s:=s) (i:=i) h.1 (by omega) h'.1 (by omega) hi
 have BD:=fun {c s:Int} (h:0≤c∧c<((2^b.toNat:Nat):Int)) (h':0≤s∧s<b) {i:Int} (hi:0≤i)=>xJ (c:=c) (s:=s) (i:=i) h.1 (by omega) h'.1 (by omega) hi
 have hc:0≤c∧c<((2^b.toNat:Nat):Int):=⟨by omega,by omega⟩
 have ha:0≤a∧a<b:=⟨by omega,by omega⟩
 have hs:0≤s∧s<b:=⟨h0,h1⟩
 have hg:0≤g∧g<b:=⟨by omega,by omega⟩
 have hf:f=0∨f=1∨f=2:=by omega
 have sa:(a==s)=false:=by simp;omega
 rcases hf with rfl|rfl|rfl<;>rcases hk with rfl|rfl
 ·rw[C4 h h0 h1 h2]
  exact⟨_,_,_,_,_,rfl,DT h (I hc hs) id (by omega),by rw[BI hc hs h0];simp⟩
 ·exfalso
  revert he
  simp[kC,t25,LT.val,al,aB,aC,bg,dK.2 ⟨h,h0,h1,h2⟩,jL h h0 h1 h2,zP]
 ·rw[EV h h0 h1 h2]
  exact⟨_,_,_,_,_,rfl,DT h (I (I hc hs) ha) id (by omega),by rw[BI (I hc hs) ha h0,BI hc hs h0];simp⟩
 ·rw[Bd h h0 h1 h2]
  refine⟨_,_,_,_,_,rfl,?_,by rw[BI hc hs h0];simp⟩
  have:=I hc hs
  unfold gS
  exact⟨by omega,by omega,by omega,by omega,by omega,by omega,by omega,by omega,by omega,by omega,by omega,by omega,by omega,by omega,fun _=>by
   rw[BI hc hs ha.1,hm.2.2.2.2.2.2.2.2.2.2.2.2.2.2.1 (by decide)];rfl,fun _=>h2⟩
 ·by_cases hsg:s=g
  ·subst hsg
   rw[Ax h h0 h1 h2]
   exact⟨_,_,_,_,_,rfl,DT h (I (I hc hs) ha) id (by omega),by rw[BI (I hc hs) ha h0,BI hc hs h0];simp⟩
  ·rw[AP h h0 h1 h2 hsg]
   exact⟨_,_,_,_,_,rfl,DT h (D (I (I hc hs) ha) hg) id ie,by
    have sg:(g != s)=true:=by simp;omega
    rw[BD (I (I hc hs) ha) hg h0,BI (I hc hs) ha h0,BI hc hs h0,sg];simp⟩
 ·by_cases hsg:s=g
  ·subst hsg
   exfalso
   revert he
   simp[kC,t25,LT.val,al,aB,aC,bg,dK.2 ⟨h,h0,h1,h2⟩,jL h h0 h1 h2,wZ]
  ·rw[AY h h0 h1 h2 hsg]
   exact⟨_,_,_,_,_,rfl,DT h (D (I (I hc hs) hg) ha) id ie,by
    have sg:(a != s)=true:=by simp;omega
    rw[BD (I (I hc hs) hg) ha h0,BI (I hc hs) hg h0,BI hc hs h0,sg];simp⟩
theorem DI{a b c d e f g s:Int}(h:gS a b c d e f g)(h0:0≤s)(h1:s<b)(h2:s≠a) :
  ∃c' f' g',ki ((a,b,c,d,e,f,g),s)=((a,b,c',d,e,f',g'),0)∧gS a b c' d e f' g':=by
 have hm:=h
 unfold gS at hm
 have hp:=qk (n:=b.toNat) (by omega)
 have hd:=D2 (c:=c) (s:=s) (n:=b) (by omega) (by omega) (by omega) h0 (by omega)
 have hb:f≠0→jF (lF c s) a=true:=fun hf=>by
  rw[xJ (by omega) (by omega) h0 (by omega) (by omega),hm.2.2.2.2.2.2.2.2.2.2.2.2.2.2.1 hf]
  simpa using h2
 by_cases hf:f=2
 ·subst hf
  by_cases hsg:g=s
  ·subst hsg
   refine⟨_,_,_,EP h h2,?_⟩
   unfold gS
   exact⟨by omega,by omega,by omega,by omega,by omega,by omega,by omega,by omega,by omega,by omega,by omega,by omega,by omega,by omega,fun _=>hb (by decide),fun h=>by omega⟩
  ·refine⟨_,_,_,Dl h h0 h1 h2 hsg,?_⟩
   unfold gS
   exact⟨by omega,by omega,by omega,by omega,by omega,by omega,by omega,by omega,by omega,by omega,by omega,by omega,by omega,by omega,fun _=>hb (by decide),hm.2.2.2.2.2.2.2.2.2.2.2.2.2.2.2⟩
 ·refine⟨_,_,_,DR h h0 h1 h2 hf,?_⟩
  unfold gS
  exact⟨by omega,by omega,by omega,by omega,by omega,by omega,by omega,by omega,by omega,by omega,by omega,by omega,by omega,by omega,hb,fun h=>absurd h hf⟩
theorem WJ{a b c d e f g e':Int}(h:gS a b c d e f g)(h1:0≤e'∧e'≤1048576):gS a b c d e' f g:=by
 unfold gS at h ⊢
 exact⟨h.1,h.2.1,h.2.2.1,h.2.2.2.1,h.2.2.2.2.1,h.2.2.2.2.2.1,h.2.2.2.2.2.2.1,h.2.2.2.2.2.2.2.1,h.2.2.2.2.2.2.2.2.1,h.2.2.2.2.2.2.2.2.2.1,h1.1,h1.2,h.2.2.2.2.2.2.2.2.2.2.2.2⟩
theorem xZ{c:Int×Int×Int×Int×Int}{w:Int}{o:Int×Int×Int×(Int×Int×(Int×Int×Int×Int×Int)×Int×List Int)×Int}:∀{l:List (Int×Int×(Int×List Int))} {k:Nat},jl c w k l=some o→o.1=3∧∃s∈l,s.1=2:=by
 intro l
 induction l with
 | nil=>intro k h;cases h
 | cons s l ih=>
   intro k h
   rw[jl] at h
   cases hb:(s.1==2&&(qD (s.2.2,c)).2)
   ·rw[hb,cond_false] at h
    obtain⟨h1,x,hx,h2⟩:=ih h
    exact⟨h1,x,List.mem_cons_of_mem _ hx,h2⟩
   ·rw[hb,cond_true] at h
    cases h
    rw[Bool.and_eq_true,beq_iff_eq] at hb
    exact⟨rfl,s,List.mem_cons_self ..,hb.1⟩
theorem xK{t p m n:Int}{seen:List (Int×Int×(Int×List Int))}{o:Int×Int×Int×(Int×Int×(Int×Int×Int×Int×Int)×Int×List Int)×Int}:∀{l:List Int} {i:Nat},jV t p m n seen i l=some o→o.1=3∧∃s∈seen,s.1=2:=by
 intro l
 induction l with
 | nil=>intro i h;cases h
 | cons v l ih=>
   intro i h
   rw[jV] at h
   cases hs:jl (t,p,m,n,v) (i:Int) 0 seen with
   | none=>rw[hs] at h;exact ih h
   | some o'=>rw[hs] at h;cases h;exact xZ hs
theorem wF{c:Int×Int×Int×Int×Int}{w:Int}{o:Int×Int×Int×(Int×Int×(Int×Int×Int×Int×Int)×Int×List Int)×Int}:∀{l:List (Int×Int×(Int×List Int))} {k:Nat},jl c w k l=some o→o.2.1=w:=by
 intro l
 induction l with
 | nil=>intro k h;cases h
 | cons s l ih=>
   intro k h
   rw[jl] at h
   cases hb:(s.1==2&&(qD (s.2.2,c)).2)
   ·rw[hb,cond_false] at h;exact ih h
   ·rw[hb,cond_true] at h;cases h;rfl
theorem uT{t p m n:Int}{seen:List (Int×Int×(Int×List Int))}{o:Int×Int×Int×(Int×Int×(Int×Int×Int×Int×Int)×Int×List Int)×Int}:∀{l:List Int} {i:Nat},jV t p m n seen i l=some o→∃k,k<l.length∧o.2.1=((i+k:Nat):Int):=by
 intro l
 induction l with
 | nil=>intro i h;cases h
 | cons v l ih=>
   intro i h
   rw[jV] at h
   cases hs:jl (t,p,m,n,v) (i:Int) 0 seen with
   | none=>
     rw[hs] at h
     obtain⟨k,h1,h2⟩:=ih h
     exact⟨k+1,by rw[List.length_cons];omega,by rw[h2];congr 1;omega⟩
   | some o'=>
     rw[hs] at h
     cases h
     exact⟨0,by rw[List.length_cons];omega,by rw[wF hs];rfl⟩
theorem tp{t p m n s sender:Int}{v:Int×Int×Int×Int×Int×Int×Int}{seen:List (Int×Int×(Int×List Int))}(h:(jy ((t,p,m,n,s),v,sender,seen)).2=0) :
  iH v=0∧0≤sender∧sender<v.2.1∧sender≠v.1∧((∃k,k<(K4 (v,sender)).length∧(jy ((t,p,m,n,s),v,sender,seen)).1.1=3∧(jy ((t,p,m,n,s),v,sender,seen)).1.2.1=(k:Int))∨(jy ((t,p,m,n,s),v,sender,seen)).1.1=1∨(jy ((t,p,m,n,s),v,sender,seen)).1.1=2):=by
 rw[jy] at h ⊢
 cases h1:(iH v != 0||jZ ((t,p,m,n,s),v.2.1) != 0)
 ·rw[h1] at h
  rw[cond_false] at h ⊢
  cases h2:(decide (sender<0)||decide (v.2.1≤sender)||sender==v.1||seen.length != 2)
  ·rw[cond_false]
   simp only[Bool.or_eq_false_iff,bne_eq_false_iff_eq,decide_eq_false_iff_not,beq_eq_false_iff_ne] at h1 h2
   refine⟨h1.1,by omega,by omega,h2.1.2,?_⟩
   rw[sw]
   cases h3:jV t p m n seen 0 (K4 (v,sender)) with
   | some o=>
     obtain⟨k,h4,h5⟩:=uT h3
     exact .inl ⟨k,h4,(xK h3).1,by rw[Nat.zero_add] at h5;exact h5⟩
   | none=>
     right
     show(kJ seen).1=1∨(kJ seen).1=2
     rw[kJ]
     cases seen.any fun s=>s.1 != 0
     ·exact .inl rfl
     ·exact .inr rfl
  ·rw[h2] at h;cases h
 ·rw[h1] at h;cases h
theorem sU{a b c d e f g s:Int}(h:gS a b c d e f g)(h0:0≤s)(h1:s<b)(h2:s≠a) :
  ∃c' f' g',ki ((a,b,c,d,e,f,g),s)=((a,b,c',d,e,f',g'),0)∧gS a b c' d e f' g'∧jF c' s=false:=by
 obtain⟨c',f',g',e1,e2⟩:=DI h h0 h1 h2
 refine⟨c',f',g',e1,e2,?_⟩
 have hc:=Q9 h
 have hm:=h
 unfold gS at hm
 have:c'=lF c s:=by
  by_cases hf:f=2
  ·subst hf
   by_cases hsg:g=s
   ·subst hsg
    rw[EP h h2] at e1
    simp only[Prod.mk.injEq] at e1
    exact e1.1.2.2.1.symm
   ·rw[Dl h h0 h1 h2 hsg] at e1
    simp only[Prod.mk.injEq] at e1
    exact e1.1.2.2.1.symm
  ·rw[DR h h0 h1 h2 hf] at e1
   simp only[Prod.mk.injEq] at e1
   exact e1.1.2.2.1.symm
 rw[this,xJ (by omega) hc h0 (by omega) h0,bne_self_eq_false,Bool.and_false]
theorem Dz{a b c d e f g s:Int}{k:Nat}(h:gS a b c d e f g)(h0:0≤s)(h1:s<b)(h2:s≠a)(hk:k<(K4 ((a,b,c,d,e,f,g),s)).length):(kC ((a,b,c,d,e,f,g),s,(k:Int))).2=0∧((k:Int)=0∨(k:Int)=1):=by
 have hm:=h
 unfold gS at hm
 have hf:f=0∨f=1∨f=2:=by omega
 rw[K4] at hk
 rcases hf with rfl|rfl|rfl
 ·rw[zP] at hk
  have:k=0:=by
   have:k<1:=hk
   omega
  subst this
  exact⟨by rw[show((0:Nat):Int)=0 from rfl,C4 h h0 h1 h2],.inl rfl⟩
 ·rw[zY] at hk
  have:k<2:=hk
  have:k=0∨k=1:=by omega
  rcases this with rfl|rfl
  ·exact⟨by rw[show((0:Nat):Int)=0 from rfl,EV h h0 h1 h2],.inl rfl⟩
  ·exact⟨by rw[show((1:Nat):Int)=1 from rfl,Bd h h0 h1 h2],.inr rfl⟩
 ·by_cases hsg:s=g
  ·subst hsg
   rw[wZ] at hk
   have:k=0:=by
    have:k<1:=hk
    omega
   subst this
   exact⟨by rw[show((0:Nat):Int)=0 from rfl,Ax h h0 h1 h2],.inl rfl⟩
  ·rw[wq hsg] at hk
   have:k<2:=hk
   have:k=0∨k=1:=by omega
   rcases this with rfl|rfl
   ·exact⟨by rw[show((0:Nat):Int)=0 from rfl,AP h h0 h1 h2 hsg],.inl rfl⟩
   ·exact⟨by rw[show((1:Nat):Int)=1 from rfl,AY h h0 h1 h2 hsg],.inr rfl⟩
theorem GK{v:Int×Int×Int×Int×Int×Int×Int}{s:Int}{o:Int×Int×Int×(Int×Int×(Int×Int×Int×Int×Int)×Int×List Int)×Int}(h:o.1=1):gQ (v,s,o)=ki (v,s):=by
 obtain⟨a,b,c,d,e,f,g⟩:=v
 obtain⟨k,w,ch,⟨fk,fr,⟨t,p,m,n,x⟩,ff,fd⟩,at'⟩:=o
 have h:k=1:=h
 subst h
 rfl
theorem Bm{v:Int×Int×Int×Int×Int×Int×Int}{s:Int}{o:Int×Int×Int×(Int×Int×(Int×Int×Int×Int×Int)×Int×List Int)×Int}(h:o.1=2):gQ (v,s,o)=EW (v,s):=by
 obtain⟨a,b,c,d,e,f,g⟩:=v
 obtain⟨k,w,ch,⟨fk,fr,⟨t,p,m,n,x⟩,ff,fd⟩,at'⟩:=o
 have h:k=2:=h
 subst h
 rfl
theorem Gm{v:Int×Int×Int×Int×Int×Int×Int}{s:Int}{o:Int×Int×Int×(Int×Int×(Int×Int×Int×Int×Int)×Int×List Int)×Int}(h:o.1=3):gQ (v,s,o)=kC (v,s,o.2.1):=by
 obtain⟨a,b,c,d,e,f,g⟩:=v
 obtain⟨k,w,ch,⟨fk,fr,⟨t,p,m,n,x⟩,ff,fd⟩,at'⟩:=o
 have h:k=3:=h
 subst h
 rfl
theorem BG{t p m n x s a b c d e f g:Int}{seen:List (Int×Int×(Int×List Int))}(h:(jy ((t,p,m,n,x),(a,b,c,d,e,f,g),s,seen)).2=0) :
  ∃c' d' e' f' g',gQ ((a,b,c,d,e,f,g),s,(jy ((t,p,m,n,x),(a,b,c,d,e,f,g),s,seen)).1)=((a,b,c',d',e',f',g'),0)∧gS a b c' d' e' f' g'∧jF c' s=((jy ((t,p,m,n,x),(a,b,c,d,e,f,g),s,seen)).1.1==3)∧0≤s∧s<b:=by
 obtain⟨h1,h2,h3,h4,h5⟩:=tp h
 have hok:=ft.1 h1
 have h3:s<b:=h3
 have h4:s≠a:=h4
 rcases h5 with ⟨k,hk,h6,h7⟩|h6|h6
 ·obtain⟨he,hk2⟩:=Dz hok h2 h3 h4 hk
  obtain⟨c',d',e',f',g',e1,e2,e3⟩:=CQ hok h2 h3 h4 hk2 he
  refine⟨c',d',e',f',g',?_,e2,by rw[e3,h6];rfl,h2,h3⟩
  rw[Gm h6,h7]
  exact Prod.ext e1 he
 ·obtain⟨c',f',g',e1,e2,e3⟩:=sU hok h2 h3 h4
  exact⟨c',d,e,f',g',by rw[GK h6];exact e1,e2,by rw[e3,h6];rfl,h2,h3⟩
 ·obtain⟨c',f',g',e1,e2,e3⟩:=sU hok h2 h3 h4
  have hm:=hok
  unfold gS at hm
  refine⟨c',d,inc e,f',g',?_,WJ e2 (inc_le (by omega) (by omega)),by rw[e3,h6];rfl,h2,h3⟩
  rw[Bm h6]
  exact Dv e1 (show 0≤e by omega) (show e≤1048576 by omega)
def t24(A:bK)(mId:Int)(mN:Int)(mSet:Int)(mAcc:Int)(mFail:Int)(mStage:Int)(mFirst:Int):LT Bool Empty:=.need (A.k (@tt ((Int×Int×Int×Int×Int×Int×Int))) (mId,mN,mSet,mAcc,mFail,mStage,mFirst)) (.br (A.c .eql (A.k iH (mId,mN,mSet,mAcc,mFail,mStage,mFirst)) 0) (.need (A.c .leq 0 mId) (.ret (A.c .eql (A.b .and .i64 (A.b .shr .i64 mSet mId) 1) 1))) (.ret false))
def Df:kw→Bool:=fun(mId,mN,mSet,mAcc,mFail,mStage,mFirst)=>(t24 ai mId mN mSet mAcc mFail mStage mFirst).val (Ty.cq [.bool])
def XK:aG:=⟨[uQ], [.bool],(@tt kw),Df⟩
theorem Xh:Sd 54 XK:=aO aA dY true 27 [] (fun A (mId,mN,mSet,mAcc,mFail,mStage,mFirst)=>t24 A mId mN mSet mAcc mFail mStage mFirst) (fc Tryz.func54 fz) (sc zl sz) (fun((mId,mN,mSet,mAcc,mFail,mStage,mFirst):kw) hp h=>by
 show(t24 ai mId mN mSet mAcc mFail mStage mFirst).pre=true
 simp only[t24,LT.pre,eE,aC,aB,ar,ay,aL,aS,aM,bg,ek,al,bq,bl,bp,cf,dh,Bool.and_eq_true,Bool.or_eq_true,Bool.and_eq_false_iff,Bool.or_eq_false_iff,Bool.not_eq_true',Bool.not_eq_false',decide_eq_true_eq,decide_eq_false_iff_not,bne_iff_ne,beq_iff_eq,bne_eq_false_iff_eq,beq_eq_false_iff_ne]
 simp only[Ty.dM,Ty.has,mj] at h
 (repeat' (first|intro _|constructor))<;>(try (have hm:=ft.1 (by assumption);unfold gS at hm;omega)))
open Go.Ev.Pl
def Ao:kg:=(2,0,0,ug,0)
def Cp:kg:=(0,0,0,ug,0)
def FD(n:Node)(seen:List Seen):kg×Int:=jy (n.2.2.1,n.2.2.2.1,n.2.2.1.2.1,seen)
def uA(m:ax)(n:Node)(o:kg):kg:=bif decide (o.1=3) && !(tV m n.2.2.1 o.2.2.2.1) then Ao else o
def Fi(n:Node)(v:kw):Node:=(n.1,n.2.1,(n.2.2.1.1,n.2.2.1.2.1,n.2.2.1.2.2.1,n.2.2.1.2.2.2.1,v.2.2.1),v,n.2.2.2.2)
def Ek(n:Node)(o:kg):kw:=(gQ (n.2.2.2.1,n.2.2.1.2.1,o)).1
def D5(m:ax)(n:Node)(f:vX):Node:=(n.1,n.2.1,vH m n.2.2.1 f.2.1,n.2.2.2.1,n.2.2.2.2.1,n.2.2.2.2.2.1,n.2.2.2.2.2.2.1,bif decide (f.1=3) then n.2.2.2.2.2.2.2 else(x_ n.2.2.2.2.2.2.2 n.2.2.1.2.1 f.2.2.2.2).1)
def Ai(n:Node):Node:=bif decide (n.2.1=4) && !(Df n.2.2.2.1) then(n.1,3,n.2.2) else n
def Hg(m:ax)(n:Node)(o:kg):Node:=Ai (bif decide (o.1=3) then D5 m (Fi n (Ek n o)) o.2.2.2.1 else Fi n (Ek n o))
def Lr(m:ax)(n:Node)(seen:List Seen):Node×kg×Int:=bif decide (fD m n=0) then(bif sF n&&decide (¬n.2.2.1.2.1=n.1) then(bif decide ((FD n seen).2=0) then(Hg m n (uA m n (FD n seen).1),uA m n (FD n seen).1,0) else(gy,Cp,(FD n seen).2)) else(gy,Cp,181)) else(gy,Cp,fD m n)
theorem Li{c:eG}{v:kw}{s:Int}{seen:List Seen}(h:(jy (c,v,s,seen)).2=0):(gQ (v,s,(jy (c,v,s,seen)).1)).2=0∧(gQ (v,s,Ao)).2=0:=by
 obtain⟨t,p,m,n,x⟩:=c
 obtain⟨a,b,c,d,e,f,g⟩:=v
 refine⟨?_,?_⟩
 ·obtain⟨c',d',e',f',g',e1,_⟩:=BG h;rw[e1]
 ·obtain⟨h1,h2,h3,h4,_⟩:=tp h
  have hok:=ft.1 h1
  have h3:s<b:=h3
  have h4:s≠a:=h4
  obtain⟨c',f',g',e1,_⟩:=sU hok h2 h3 h4
  have hm:=hok
  unfold gS at hm
  rw[Bm rfl,Dv e1 (show 0≤e by omega) (show e≤1048576 by omega)]
theorem GZ{m:ax}{n:Node}{f:vX}(hn:fD m n=0)(h:tV m n.2.2.1 f=true):(x_ n.2.2.2.2.2.2.2 n.2.2.1.2.1 f.2.2.2.2).2=0:=by
 have hd:=kU.1 (iF hn).2
 simp only[tV,Bool.and_eq_true,decide_eq_true_eq] at h
 have hk:=pQ h.1
 have hx:=Fv hk.1 hk.2.1 hk.2.2
 have h8:(f.2.2.2.2.length:Int)≤8:=by
  rw[h.2.2]
  by_cases g:(d_ m n.2.2.1.2.2.1 n.2.2.1.2.1).1=3
  ·rw[decide_eq_true g];exact(by omega:(0:Int)≤8)
  ·rw[decide_eq_false g];exact hx.2
 have e6:=hd.2.2.2.2.2.1
 rw[x_,hd.2.2.2.1,decide_eq_true (show 0≤n.2.2.1.2.1∧n.2.2.1.2.1≤(n.2.2.2.2.2.2.2.2.2.1.length:Int)-1 by rw[e6];exact hk.2.1),decide_eq_false (show ¬8<(f.2.2.2.2.length:Int) by omega)]
 rfl
theorem Hy{m:ax}{n:Node}{o:kg}(h:o.1=3)(h2:tV m n.2.2.1 o.2.2.2.1=false):uA m n o=Ao:=by rw[uA,decide_eq_true h,h2];rfl
theorem FJ{m:ax}{n:Node}{o:kg}(h2:tV m n.2.2.1 o.2.2.2.1=true):uA m n o=o:=by rw[uA,h2,Bool.not_true,Bool.and_false];rfl
theorem Lu{m:ax}{n:Node}{o:kg}(h:¬o.1=3):uA m n o=o:=by rw[uA,decide_eq_false h];rfl
theorem IP{Y:Type}{step:Y→LT (Node×kg×Int) Y}{n:Node}{o:kg}{b:Bool}(hb:b=Df n.2.2.2.1):aK step (.br (ai.c .eql n.2.1 4) (.need true (.br (ai.not b) (.ret ((n.1,3,n.2.2),o,0)) (.ret (n,o,0)))) (.ret (n,o,0))) (Ai n,o,0):=by
 rw[Ai]
 refine aV (p:=n.2.1=4) bW (fun h=>af.2 ⟨rfl,?_⟩) fun h=>aI (by rw[decide_eq_false h];rfl) (.ret _)
 rw[decide_eq_true h,Bool.true_and,←hb]
 cases b
 ·exact(ak rfl).2 (.ret _)
 ·exact(aj rfl).2 (.ret _)
structure FO where
 (a0:List Seen) (a1:Int) (a2:ax) (a17:Node)
structure E_ where
 (b0:Int) (b1:ax) (cZ:Node) (kh:kg)
structure Dc where
 (c14:Node)
structure C3 where
 (d0:ax) (rO:Node) (Am:kg)
structure Ed where
 (e14:Node) (e15:kg)
structure ET where
 (f0:ax) (f15:Node) (f16:kg)
inductive Gy where
 | c0 (p:FO)
 | c1 (p:E_)
 | c2 (p:Dc)
 | c3 (p:C3)
 | c4 (p:Ed)
 | c5 (p:ET)
noncomputable def Lb:Gy→ei
 | .c0 p=>⟨[⟨14,111,(en [(2,.sl ID p.a0),(3,.ptr 0 0),(6,.ptr 1 0),(7,.ptr 2 0),(9,.ptr 3 0),(10,vi p.a1)]),[.code (cw Tryz.f14 [1,1,0,0]),.code (cw Tryz.f14 [1,1,0,1]),.code (cw Tryz.f14 [1,1,1])],[],none⟩],[.flat false (dc cr p.a2),.flat false [vi 0,vi 0,vi 0,vi 0,vi 0,vi 0,vi 0,vi 0,vi 0,vi 0,vi 0,vi 0,vi 0,vi 0,vi 0,vb false,vi 0,vi 0,.bd true,.bd true,vi 0,vi 0],.flat false [vi 0,vi 0,vi 0,vi 0,vi 0,vi 0,vi 0,vi 0,vi 0,vi 0,vi 0,.bd true,vi 0],.flat false (dc dH p.a17),.dead]⟩
 | .c1 p=>⟨[⟨14,111,(en [(3,.ptr 0 0),(6,.ptr 1 0),(7,.ptr 2 0),(9,.ptr 3 0),(10,vi p.b0),(11,.ptr 4 0)]),[.code (cw Tryz.f14 [1,1,1,1,0,0]),.code (cw Tryz.f14 [1,1,1,1,0,1]),.code (cw Tryz.f14 [1,1,1,1,1])],[],none⟩],[.flat false (dc cr p.b1),.flat false [vi 0,vi 0,vi 0,vi 0,vi 0,vi 0,vi 0,vi 0,vi 0,vi 0,vi 0,vi 0,vi 0,vi 0,vi 0,vb false,vi 0,vi 0,.bd true,.bd true,vi 0,vi 0],.flat false [vi 0,vi 0,vi 0,vi 0,vi 0,vi 0,vi 0,vi 0,vi 0,vi 0,vi 0,.bd true,vi 0],.flat false (dc dH p.cZ),.flat false (dc yc p.kh),.dead]⟩
 | .c2 p=>⟨[⟨14,111,(en [(6,.ptr 0 0),(7,.ptr 1 0),(9,.ptr 2 0),(11,.ptr 3 0)]),[.code (cw Tryz.f14 [1,1,1,1,1,1,1,1,1,0,0]),.code (cw Tryz.f14 [1,1,1,1,1,1,1,1,1,0,1]),.code (cw Tryz.f14 [1,1,1,1,1,1,1,1,1,1])],[],none⟩],[.flat false [vi 0,vi 0,vi 0,vi 0,vi 0,vi 0,vi 0,vi 0,vi 0,vi 0,vi 0,vi 0,vi 0,vi 0,vi 0,vb false,vi 0,vi 0,.bd true,.bd true,vi 0,vi 0],.flat false [vi 0,vi 0,vi 0,vi 0,vi 0,vi 0,vi 0,vi 0,vi 0,vi 0,vi 0,.bd true,vi 0],.flat false (dc dH p.c14),.flat false [vi 2,vi 0,vi 0,vi 0,vi 0,vi 0,vi 0,vi 0,vi 0,vi 0,vi 0,.bd true,vi 0],.dead]⟩
 | .c3 p=>⟨[⟨14,111,(en [(3,.ptr 0 0),(6,.ptr 1 0),(7,.ptr 2 0),(9,.ptr 3 0),(11,.ptr 4 0)]),[.code (cw Tryz.f14 [1,1,1,1,1,1,1,1,0,1,0,0,0]),.code (cw Tryz.f14 [1,1,1,1,1,1,1,1,0,1,0,0,1]),.code (cw Tryz.f14 [1,1,1,1,1,1,1,1,0,1,0,1]),.code (cw Tryz.f14 [1,1,1,1,1,1,1,1,1])],[],none⟩],[.flat false (dc cr p.d0),.flat false [vi 0,vi 0,vi 0,vi 0,vi 0,vi 0,vi 0,vi 0,vi 0,vi 0,vi 0,vi 0,vi 0,vi 0,vi 0,vb false,vi 0,vi 0,.bd true,.bd true,vi 0,vi 0],.flat false [vi 0,vi 0,vi 0,vi 0,vi 0,vi 0,vi 0,vi 0,vi 0,vi 0,vi 0,.bd true,vi 0],.flat false (dc dH p.rO),.flat false (dc yc p.Am),.dead]⟩
 | .c4 p=>⟨[⟨14,111,(en [(6,.ptr 0 0),(7,.ptr 1 0),(9,.ptr 2 0),(11,.ptr 3 0)]),[.code (cw Tryz.f14 [1,1,1,1,1,1,1,1,1,0,0]),.code (cw Tryz.f14 [1,1,1,1,1,1,1,1,1,0,1]),.code (cw Tryz.f14 [1,1,1,1,1,1,1,1,1,1])],[],none⟩],[.flat false [vi 0,vi 0,vi 0,vi 0,vi 0,vi 0,vi 0,vi 0,vi 0,vi 0,vi 0,vi 0,vi 0,vi 0,vi 0,vb false,vi 0,vi 0,.bd true,.bd true,vi 0,vi 0],.flat false [vi 0,vi 0,vi 0,vi 0,vi 0,vi 0,vi 0,vi 0,vi 0,vi 0,vi 0,.bd true,vi 0],.flat false (dc dH p.e14),.flat false (dc yc p.e15),.dead]⟩
 | .c5 p=>⟨[⟨14,111,(en [(3,.ptr 0 0),(6,.ptr 1 0),(7,.ptr 2 0),(9,.ptr 3 0),(11,.ptr 4 0)]),[.code (cw Tryz.f14 [1,1,1,1,1,1,1,1,0,1,0,1]),.code (cw Tryz.f14 [1,1,1,1,1,1,1,1,1])],[],none⟩],[.flat false (dc cr p.f0),.flat false [vi 0,vi 0,vi 0,vi 0,vi 0,vi 0,vi 0,vi 0,vi 0,vi 0,vi 0,vi 0,vi 0,vi 0,vi 0,vb false,vi 0,vi 0,.bd true,.bd true,vi 0,vi 0],.flat false [vi 0,vi 0,vi 0,vi 0,vi 0,vi 0,vi 0,vi 0,vi 0,vi 0,vi 0,.bd true,vi 0],.flat false (dc dH p.f15),.flat false (dc yc p.f16),.dead]⟩
def JH(A:bK)(m:ax)(n:Node)(seen:List Seen):LT (Node×kg×Int) Gy:=.need (A.k (@tt Node) n) (.br (A.k cy n) (.need (A.k (@tt (ax×Node×Bool)) (m,n,(A.c .neq n.2.2.1.2.1 n.1))) (.need (A.k (@tt (ax×Node×Bool)) (m,n,(A.c .neq n.2.2.1.2.1 n.1))) (.eqs (((A.k cy n):Bool)=true) (.need (A.k (@tt Node) n) (.more (.c0 ⟨seen,(A.k b_ (m,n,(A.c .neq n.2.2.1.2.1 n.1))).2,m,(A.k b_ (m,n,(A.c .neq n.2.2.1.2.1 n.1))).1⟩)))))) (.need (A.k (@tt (ax×Node×Bool)) (m,n,false)) (.need (A.k (@tt (ax×Node×Bool)) (m,n,false)) (.eqs (((A.k cy n):Bool)=false) (.need (A.k (@tt Node) n) (.more (.c0 ⟨seen,(A.k b_ (m,n,false)).2,m,(A.k b_ (m,n,false)).1⟩)))))))
def nQ(A:bK):Gy→LT (Node×kg×Int) Gy
 | .c0 p=>.br (A.c .neq p.a1 0) (.ret ((0,0,(0,0,0,0,0),(0,0,0,0,0,0,0),0,false,0,0,([]:List Int),([]:List cd),0,0),(0,0,0,(0,0,(0,0,0,0,0),0,([]:List Int)),0),p.a1)) (.need (A.k (@tt ((Int×Int×Int×Int×Int)×(Int×Int×Int×Int×Int×Int×Int)×Int×List (Int×Int×(Int×List Int)))) (p.a17.2.2.1,p.a17.2.2.2.1,p.a17.2.2.1.2.1,p.a0)) (.more (.c1 ⟨(A.k JG (p.a17.2.2.1,p.a17.2.2.2.1,p.a17.2.2.1.2.1,p.a0)).2,p.a2,p.a17,(A.k JG (p.a17.2.2.1,p.a17.2.2.2.1,p.a17.2.2.1.2.1,p.a0)).1⟩)))
 | .c1 p=>.br (A.c .neq p.b0 0) (.ret ((0,0,(0,0,0,0,0),(0,0,0,0,0,0,0),0,false,0,0,([]:List Int),([]:List cd),0,0),(0,0,0,(0,0,(0,0,0,0,0),0,([]:List Int)),0),p.b0)) (.br (A.c .eql p.kh.1 3) (.need (A.k (@tt (ax×eG×vX)) (p.b1,p.cZ.2.2.1,p.kh.2.2.2.1)) (.br (A.not (A.k EU (p.b1,p.cZ.2.2.1,p.kh.2.2.2.1))) (.need (A.k (@tt ((Int×Int×Int×Int×Int×Int×Int)×Int×(Int×Int×Int×(Int×Int×(Int×Int×Int×Int×Int)×Int×List Int)×Int))) (p.cZ.2.2.2.1,p.cZ.2.2.1.2.1,2,0,0,(0,0,(0,0,0,0,0),0,([]:List Int)),0)) (.br (A.c .neq (A.k gQ (p.cZ.2.2.2.1,p.cZ.2.2.1.2.1,2,0,0,(0,0,(0,0,0,0,0),0,([]:List Int)),0)).2 0) (.ret ((0,0,(0,0,0,0,0),(0,0,0,0,0,0,0),0,false,0,0,([]:List Int),([]:List cd),0,0),(0,0,0,(0,0,(0,0,0,0,0),0,([]:List Int)),0),(A.k gQ (p.cZ.2.2.2.1,p.cZ.2.2.1.2.1,2,0,0,(0,0,(0,0,0,0,0),0,([]:List Int)),0)).2)) (.more (.c2 ⟨(p.cZ.1,p.cZ.2.1,(p.cZ.2.2.1.1,p.cZ.2.2.1.2.1,p.cZ.2.2.1.2.2.1,p.cZ.2.2.1.2.2.2.1,(A.k gQ (p.cZ.2.2.2.1,p.cZ.2.2.1.2.1,2,0,0,(0,0,(0,0,0,0,0),0,([]:List Int)),0)).1.2.2.1),(A.k gQ (p.cZ.2.2.2.1,p.cZ.2.2.1.2.1,2,0,0,(0,0,(0,0,0,0,0),0,([]:List Int)),0)).1,p.cZ.2.2.2.2)⟩)))) (.need (A.k (@tt ((Int×Int×Int×Int×Int×Int×Int)×Int×(Int×Int×Int×(Int×Int×(Int×Int×Int×Int×Int)×Int×List Int)×Int))) (p.cZ.2.2.2.1,p.cZ.2.2.1.2.1,p.kh)) (.br (A.c .neq (A.k gQ (p.cZ.2.2.2.1,p.cZ.2.2.1.2.1,p.kh)).2 0) (.ret ((0,0,(0,0,0,0,0),(0,0,0,0,0,0,0),0,false,0,0,([]:List Int),([]:List cd),0,0),(0,0,0,(0,0,(0,0,0,0,0),0,([]:List Int)),0),(A.k gQ (p.cZ.2.2.2.1,p.cZ.2.2.1.2.1,p.kh)).2)) (.br (A.c .eql p.kh.1 3) (.more (.c3 ⟨p.b1,(p.cZ.1,p.cZ.2.1,(p.cZ.2.2.1.1,p.cZ.2.2.1.2.1,p.cZ.2.2.1.2.2.1,p.cZ.2.2.1.2.2.2.1,(A.k gQ (p.cZ.2.2.2.1,p.cZ.2.2.1.2.1,p.kh)).1.2.2.1),(A.k gQ (p.cZ.2.2.2.1,p.cZ.2.2.1.2.1,p.kh)).1,p.cZ.2.2.2.2),p.kh⟩)) (.more (.c4 ⟨(p.cZ.1,p.cZ.2.1,(p.cZ.2.2.1.1,p.cZ.2.2.1.2.1,p.cZ.2.2.1.2.2.1,p.cZ.2.2.1.2.2.2.1,(A.k gQ (p.cZ.2.2.2.1,p.cZ.2.2.1.2.1,p.kh)).1.2.2.1),(A.k gQ (p.cZ.2.2.2.1,p.cZ.2.2.1.2.1,p.kh)).1,p.cZ.2.2.2.2),p.kh⟩))))))) (.need (A.k (@tt ((Int×Int×Int×Int×Int×Int×Int)×Int×(Int×Int×Int×(Int×Int×(Int×Int×Int×Int×Int)×Int×List Int)×Int))) (p.cZ.2.2.2.1,p.cZ.2.2.1.2.1,p.kh)) (.br (A.c .neq (A.k gQ (p.cZ.2.2.2.1,p.cZ.2.2.1.2.1,p.kh)).2 0) (.ret ((0,0,(0,0,0,0,0),(0,0,0,0,0,0,0),0,false,0,0,([]:List Int),([]:List cd),0,0),(0,0,0,(0,0,(0,0,0,0,0),0,([]:List Int)),0),(A.k gQ (p.cZ.2.2.2.1,p.cZ.2.2.1.2.1,p.kh)).2)) (.br (A.c .eql p.kh.1 3) (.more (.c3 ⟨p.b1,(p.cZ.1,p.cZ.2.1,(p.cZ.2.2.1.1,p.cZ.2.2.1.2.1,p.cZ.2.2.1.2.2.1,p.cZ.2.2.1.2.2.2.1,(A.k gQ (p.cZ.2.2.2.1,p.cZ.2.2.1.2.1,p.kh)).1.2.2.1),(A.k gQ (p.cZ.2.2.2.1,p.cZ.2.2.1.2.1,p.kh)).1,p.cZ.2.2.2.2),p.kh⟩)) (.more (.c4 ⟨(p.cZ.1,p.cZ.2.1,(p.cZ.2.2.1.1,p.cZ.2.2.1.2.1,p.cZ.2.2.1.2.2.1,p.cZ.2.2.1.2.2.2.1,(A.k gQ (p.cZ.2.2.2.1,p.cZ.2.2.1.2.1,p.kh)).1.2.2.1),(A.k gQ (p.cZ.2.2.2.1,p.cZ.2.2.1.2.1,p.kh)).1,p.cZ.2.2.2.2),p.kh⟩))))))
 | .c2 p=>.br (A.c .eql p.c14.2.1 4) (.need (A.k (@tt kw) p.c14.2.2.2.1) (.br (A.not (A.k Df p.c14.2.2.2.1)) (.ret ((p.c14.1,3,p.c14.2.2),(2,0,0,(0,0,(0,0,0,0,0),0,([]:List Int)),0),0)) (.ret (p.c14,(2,0,0,(0,0,(0,0,0,0,0),0,([]:List Int)),0),0)))) (.ret (p.c14,(2,0,0,(0,0,(0,0,0,0,0),0,([]:List Int)),0),0))
 | .c3 p=>.br (A.c .neq p.Am.2.2.2.1.1 3) (.need (A.k (@tt (dQ×Int×List Int)) (p.rO.2.2.2.2.2.2.2,p.rO.2.2.1.2.1,p.Am.2.2.2.1.2.2.2.2)) (.need (A.k (@tt (dQ×Int×List Int)) (p.rO.2.2.2.2.2.2.2,p.rO.2.2.1.2.1,p.Am.2.2.2.1.2.2.2.2)) (.br (A.c .eql (A.k Ba (p.rO.2.2.2.2.2.2.2,p.rO.2.2.1.2.1,p.Am.2.2.2.1.2.2.2.2)).2 0) (.more (.c5 ⟨p.d0,(p.rO.1,p.rO.2.1,p.rO.2.2.1,p.rO.2.2.2.1,p.rO.2.2.2.2.1,p.rO.2.2.2.2.2.1,p.rO.2.2.2.2.2.2.1,(A.k Ba (p.rO.2.2.2.2.2.2.2,p.rO.2.2.1.2.1,p.Am.2.2.2.1.2.2.2.2)).1),p.Am⟩)) (.more (.c5 ⟨p.d0,p.rO,p.Am⟩))))) (.more (.c5 ⟨p.d0,p.rO,p.Am⟩))
 | .c4 p=>.br (A.c .eql p.e14.2.1 4) (.need (A.k (@tt kw) p.e14.2.2.2.1) (.br (A.not (A.k Df p.e14.2.2.2.1)) (.ret ((p.e14.1,3,p.e14.2.2),p.e15,0)) (.ret (p.e14,p.e15,0)))) (.ret (p.e14,p.e15,0))
 | .c5 p=>.need (A.k (@tt (ax×eG×Int)) (p.f0,p.f15.2.2.1,p.f16.2.2.2.1.2.1)) (.need (A.k (@tt (ax×eG×Int)) (p.f0,p.f15.2.2.1,p.f16.2.2.2.1.2.1)) (.br (A.c .eql (A.k sM (p.f0,p.f15.2.2.1,p.f16.2.2.2.1.2.1)).2 0) (.more (.c4 ⟨(p.f15.1,p.f15.2.1,(A.k sM (p.f0,p.f15.2.2.1,p.f16.2.2.2.1.2.1)).1,p.f15.2.2.2),p.f16⟩)) (.more (.c4 ⟨p.f15,p.f16⟩))))
theorem zp{p:Ed}:aK (nQ ai) (.more (.c4 p)) (Ai p.e14,p.e15,0):=by
 rw[ap,nQ];exact IP rfl
theorem J9{p:Dc}:aK (nQ ai) (.more (.c2 p)) (Ai p.c14,Ao,0):=by
 rw[ap,nQ];exact IP rfl
theorem D6{p:ET}:aK (nQ ai) (.more (.c5 p)) (Ai (p.f15.1,p.f15.2.1,vH p.f0 p.f15.2.2.1 p.f16.2.2.2.1.2.1,p.f15.2.2.2),p.f16,0):=by
 rw[ap,nQ,vH]
 refine af.2 ⟨rfl,af.2 ⟨rfl,?_⟩⟩
 rw[show ∀x,ai.k sM x=xq x.1 x.2.1 x.2.2 from fun _=>rfl]
 refine aV (p:=(xq p.f0 p.f15.2.2.1 p.f16.2.2.2.1.2.1).2=0) bW (fun g=>?_) fun g=>?_
 ·rw[decide_eq_true g];exact zp
 ·rw[decide_eq_false g];exact zp
theorem KH{p:C3}(h:(x_ p.rO.2.2.2.2.2.2.2 p.rO.2.2.1.2.1 p.Am.2.2.2.1.2.2.2.2).2=0):aK (nQ ai) (.more (.c3 p)) (Ai (D5 p.d0 p.rO p.Am.2.2.2.1),p.Am,0):=by
 rw[ap,nQ,D5]
 refine aV (p:=¬p.Am.2.2.2.1.1=3) cv (fun g=>af.2 ⟨rfl,af.2 ⟨rfl,?_⟩⟩) fun g=>?_
 ·rw[decide_eq_false g,show ∀x,ai.k Ba x=x_ x.1 x.2.1 x.2.2 from fun _=>rfl]
  exact(ak (Ia h)).2 D6
 ·rw[decide_eq_true (Decidable.not_not.1 g)];exact D6
theorem Lx{p:E_}{m:ax}{n:Node}{S:kg×Int}(h0:p.b0=S.2)(h1:p.b1=m)(h2:p.cZ=n)(h3:p.kh=S.1)(hn:fD m n=0)(ha:S.2=0→(gQ (n.2.2.2.1,n.2.2.1.2.1,S.1)).2=0∧(gQ (n.2.2.2.1,n.2.2.1.2.1,Ao)).2=0):aK (nQ ai) (.more (.c1 p)) (bif decide (S.2=0) then(Hg m n (uA m n S.1),uA m n S.1,0) else(gy,Cp,S.2)):=by
 subst h1 h2
 rw[ap,nQ,h0,h3]
 refine aV (p:=¬S.2=0) cv (fun g=>aI (by rw[decide_eq_false g];rfl) (.ret _)) fun g=>?_
 have g:=Decidable.not_not.1 g
 obtain⟨a1,a2⟩:=ha g
 rw[decide_eq_true g,cond_true]
 rw[show ai.k EU (p.b1,p.cZ.2.2.1,S.1.2.2.2.1)=tV p.b1 p.cZ.2.2.1 S.1.2.2.2.1 from rfl]
 have e1:ai.c .neq (ai.k gQ (p.cZ.2.2.2.1,p.cZ.2.2.1.2.1,S.1)).2 0=false:=by rw[al,a1];rfl
 have e2:ai.c .neq (ai.k gQ (p.cZ.2.2.2.1,p.cZ.2.2.1.2.1,2,0,0,(0,0,(0,0,0,0,0),0,([]:List Int)),0)).2 0=false:=by rw[al];unfold Ao ug at a2;rw[a2];rfl
 refine aV (p:=S.1.1=3) bW (fun k=>af.2 ⟨rfl,?_⟩) fun k=>af.2 ⟨rfl,(aj e1).2 ((aj (by rw[bW];exact decide_eq_false k)).2 ?_)⟩
 ·cases hl:tV p.b1 p.cZ.2.2.1 S.1.2.2.2.1
  ·refine(ak rfl).2 (af.2 ⟨rfl,(aj e2).2 ?_⟩)
   rw[Hy k hl];exact J9 (p:=⟨Fi p.cZ (Ek p.cZ Ao)⟩)
  ·refine(aj rfl).2 (af.2 ⟨rfl,(aj e1).2 ((ak (by rw[bW];exact decide_eq_true k)).2 ?_)⟩)
   rw[FJ hl,Hg,decide_eq_true k]
   have hv:=GZ hn hl
   exact KH (p:=⟨p.b1,Fi p.cZ (Ek p.cZ S.1),S.1⟩) hv
 ·rw[Lu k,Hg,decide_eq_false k];exact zp (p:=⟨Fi p.cZ (Ek p.cZ S.1),S.1⟩)
theorem Wz{m:ax}{n:Node}{seen:List Seen}:aK (nQ ai) (JH ai m n seen) (Lr m n seen):=by
 unfold JH Lr
 rw[show ai.k cy n=sF n from rfl]
 refine af.2 ⟨rfl,?_⟩
 have no:∀q:FO,q.a1=(iK m n false).2→aK (nQ ai) (.more (.c0 q)) (bif decide (fD m n=0) then(gy,Cp,181) else(gy,Cp,fD m n)):=fun q hq=>by
  rw[ap,nQ,hq,iK]
  by_cases h:fD m n=0
  ·rw[decide_eq_true h];exact(ak rfl).2 (.ret _)
  ·rw[decide_eq_false h];exact(ak (rh h)).2 (.ret _)
 cases hi:sF n
 ·exact(aj rfl).2 (af.2 ⟨rfl,af.2 ⟨rfl,aJ.2 ⟨rfl,af.2 ⟨rfl,no _ rfl⟩⟩⟩⟩)
 ·refine(ak rfl).2 (af.2 ⟨rfl,af.2 ⟨rfl,aJ.2 ⟨rfl,af.2 ⟨rfl,?_⟩⟩⟩⟩)
  rw[show ∀w,ai.k b_ (m,n,w)=iK m n w from fun _=>rfl,cv,Bool.true_and]
  by_cases hp:n.2.2.1.2.1=n.1
  ·rw[decide_eq_false (show ¬¬n.2.2.1.2.1=n.1 from fun k=>k hp)];exact no _ rfl
  ·rw[decide_eq_true hp,cond_true]
   by_cases h:fD m n=0
   ·have e:iK m n true=(n,0):=by rw[iK,decide_eq_true h];rfl
    rw[decide_eq_true h,e,cond_true,ap,nQ]
    exact(aj rfl).2 (af.2 ⟨rfl,Lx (S:=FD n seen) rfl rfl rfl rfl h fun g=>Li (c:=n.2.2.1) (v:=n.2.2.2.1) (s:=n.2.2.1.2.1) (seen:=seen) g⟩)
   ·have:=no ⟨seen,(iK m n true).2,m,(iK m n true).1⟩ (by rw[iK,iK,decide_eq_false h];rfl)
    rw[decide_eq_false h] at this ⊢
    exact this
def OG:(ax×Node×List Seen)→(Node×kg×Int):=fun(m,c,k)=>Lr m c k
def Je:aG:=⟨[cr,dH,(.slice ID)], [dH,yc,yI],(@tt (ax×Node×List Seen)),OG⟩
theorem Tg:Sd 14 Je:=aQ aA dY true 38 [] [⟨14,2, [[2,3,6,7,9,10]]⟩,⟨14,5, [[3,6,7,9,10,11]]⟩,⟨14,14, [[3,6,7,9,11]]⟩,⟨14,16, [[3,6,7,9,11]]⟩,⟨14,17, [[6,7,9,11]]⟩] (fun A (m,n,seen)=>JH A m n seen) nQ Lb (fc Tryz.func14 (fc Tryz.func52 (fc Tryz.func53 fz))) (sc Xh (sc Vd (sc Vf (sc xM (sc AJ (sc Rh (sc Pe (sc IX sz)))))))) (fun A y=>match y with |.c0 p=>⟨31,by kernel_rfl,by kernel_rfl⟩|.c1 p=>⟨76,by kernel_rfl,by kernel_rfl⟩|.c2 p=>⟨29,by kernel_rfl,by kernel_rfl⟩|.c3 p=>⟨56,by kernel_rfl,by kernel_rfl⟩|.c4 p=>⟨29,by kernel_rfl,by kernel_rfl⟩|.c5 p=>⟨48,by kernel_rfl,by kernel_rfl⟩) fun(m,n,seen) hp h=>Wz
end Go.Ev.M
