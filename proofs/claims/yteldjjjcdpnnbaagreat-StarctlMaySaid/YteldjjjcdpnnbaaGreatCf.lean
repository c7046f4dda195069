/-
  PROVED: what busctl.Other and metronomeref18.Other compute. Conditions: none.
-/
import Derived.Test.YteldjjjcdpnnbaaGreatCe
import Derived.Test.YteldjjjcdpnnbaaGreatJs
namespace Go.Ev.M
open Go.Proofs
set_option maxRecDepth 100000
set_option linter.unusedVariables false
set_option linter.unusedSimpArgs false
open Go.Ev.Pl
theorem Ib{a b c d e f g:Int}(h:gP a b c d e f g)(h1:e<d):fw (a,b,c,d,e,f,g)=((a,b,gl c a,1,0,1,0),1,0):=by
 simp[fw,t23,LT.val,ap,aJ,aB,dJ.2 h,gl,show ¬d≤e from by omega]
theorem KN{a b c d e f g:Int}(h:gP a b c d e f g)(h1:d≤e):fw (a,b,c,d,e,f,g)=((a,b,c,d,e,f,g),2,0):=by
 simp[fw,t23,LT.val,ap,aJ,aB,dJ.2 h,h1]
theorem inc_le{d:Int}(h0:0≤d)(h1:d≤1048576):0≤inc d∧inc d≤1048576:=by
 unfold inc;split<;>omega
theorem KB{a b c d e f g c' d' e':Int}(h:gP a b c d e f g)(h1:0≤c'∧c'<((2^b.toNat:Nat):Int))(h2:0≤d'∧d'≤1048576)(h3:0≤e'∧e'≤1048576):gP a b c' d' e' 0 0:=by
 unfold gP at h ⊢
 exact⟨h.1,h.2.1,h.2.2.1,h.2.2.2.1,by omega,by omega,h1.1,h1.2,h2.1,h2.2,h3.1,h3.2,by omega,by omega,fun h=>absurd rfl h,fun h=>by omega⟩
theorem JB{a b c d e f g s k:Int}(h:gP a b c d e f g)(h0:0≤s)(h1:s<b)(h2:s≠a)(hk:k=0∨k=1)(he:(lz ((a,b,c,d,e,f,g),s,k)).2=0) :
  ∃c' d' e' f' g',(lz ((a,b,c,d,e,f,g),s,k)).1=(a,b,c',d',e',f',g')∧gP a b c' d' e' f' g'∧ic c' s=true:=by
 have hm:=h
 unfold gP at hm
 have hp:=qa (n:=b.toNat) (by omega)
 have id:=inc_le (d:=d) (by omega) (by omega)
 have ie:=inc_le (d:=e) (by omega) (by omega)
 have I:=fun {c s:Int} (h:0≤c∧c<((2^b.toNat:Nat):Int)) (h':0≤s∧s<b)=>D8 (c:=c) (s:=s) (n:=b) h.1 (by omega) h.2 h'.1 h'.2
 have D:=fun {c s:Int} (h:0≤c∧c<((2^b.toNat:Nat):Int)) (h':0≤s∧s<b)=>Lt (c:=c) (s:=s) (n:=b) h.1 (by omega) h.2 h'.1 (by omega)
 have BI:=fun {c s:Int} (h:0≤c∧c<((2^b.toNat:Nat):Int)) (h':0≤s∧s<b) {i:Int} (hi:0≤i)=>Ag (c:=c) (s:=s) (i:=i) h.1 (by omega) h'.1 (by omega) hi
 have BD:=fun {c s:Int} (h:0≤c∧c<((2^b.toNat:Nat):Int)) (h':0≤s∧s<b) {i:Int} (hi:0≤i)=>AX (c:=c) (s:=s) (i:=i) h.1 (by omega) h'.1 (by omega) hi
 have hc:0≤c∧c<((2^b.toNat:Nat):Int):=⟨by omega,by omega⟩
 have ha:0≤a∧a<b:=⟨by omega,by omega⟩
 have hs:0≤s∧s<b:=⟨h0,h1⟩
 have hg:0≤g∧g<b:=⟨by omega,by omega⟩
 have hf:f=0∨f=1∨f=2:=by omega
 have sa:(a==s)=false:=by simp;omega
 rcases hf with rfl|rfl|rfl<;>rcases hk with rfl|rfl
 ·rw[D1 h h0 h1 h2]
  exact⟨_,_,_,_,_,rfl,KB h (I hc hs) id (by omega),by rw[BI hc hs h0];simp⟩
 ·exfalso
  revert he
  simp[lz,t25,LT.val,ap,aJ,aF,bD,eE.2 ⟨h,h0,h1,h2⟩,kS h h0 h1 h2,A5]
 ·rw[Jb h h0 h1 h2]
  exact⟨_,_,_,_,_,rfl,KB h (I (I hc hs) ha) id (by omega),by rw[BI (I hc hs) ha h0,BI hc hs h0];simp⟩
 ·rw[E4 h h0 h1 h2]
  refine⟨_,_,_,_,_,rfl,?_,by rw[BI hc hs h0];simp⟩
  have:=I hc hs
  unfold gP
  exact⟨by omega,by omega,by omega,by omega,by omega,by omega,by omega,by omega,by omega,by omega,by omega,by omega,by omega,by omega,fun _=>by
   rw[BI hc hs ha.1,hm.2.2.2.2.2.2.2.2.2.2.2.2.2.2.1 (by decide)];rfl,fun _=>h2⟩
 ·by_cases hsg:s=g
  ·subst hsg
   rw[EO h h0 h1 h2]
   exact⟨_,_,_,_,_,rfl,KB h (I (I hc hs) ha) id (by omega),by rw[BI (I hc hs) ha h0,BI hc hs h0];simp⟩
  ·rw[Fs h h0 h1 h2 hsg]
   exact⟨_,_,_,_,_,rfl,KB h (D (I (I hc hs) ha) hg) id ie,by
    have sg:(g != s)=true:=by simp;omega
    rw[BD (I (I hc hs) ha) hg h0,BI (I hc hs) ha h0,BI hc hs h0,sg];simp⟩
 ·by_cases hsg:s=g
  ·subst hsg
   exfalso
   revert he
   simp[lz,t25,LT.val,ap,aJ,aF,bD,eE.2 ⟨h,h0,h1,h2⟩,kS h h0 h1 h2,AP]
  ·rw[Fa h h0 h1 h2 hsg]
   exact⟨_,_,_,_,_,rfl,KB h (D (I (I hc hs) hg) ha) id ie,by
    have sg:(a != s)=true:=by simp;omega
    rw[BD (I (I hc hs) hg) ha h0,BI (I hc hs) hg h0,BI hc hs h0,sg];simp⟩
theorem Ks{a b c d e f g s:Int}(h:gP a b c d e f g)(h0:0≤s)(h1:s<b)(h2:s≠a) :
  ∃c' f' g',lv ((a,b,c,d,e,f,g),s)=((a,b,c',d,e,f',g'),0)∧gP a b c' d e f' g':=by
 have hm:=h
 unfold gP at hm
 have hp:=qa (n:=b.toNat) (by omega)
 have hd:=Lt (c:=c) (s:=s) (n:=b) (by omega) (by omega) (by omega) h0 (by omega)
 have hb:f≠0→ic (nf c s) a=true:=fun hf=>by
  rw[AX (by omega) (by omega) h0 (by omega) (by omega),hm.2.2.2.2.2.2.2.2.2.2.2.2.2.2.1 hf]
  simpa using h2
 by_cases hf:f=2
 ·subst hf
  by_cases hsg:g=s
  ·subst hsg
   refine⟨_,_,_,Kx h h2,?_⟩
   unfold gP
   exact⟨by omega,by omega,by omega,by omega,by omega,by omega,by omega,by omega,by omega,by omega,by omega,by omega,by omega,by omega,fun _=>hb (by decide),fun h=>by omega⟩
  ·refine⟨_,_,_,Iq h h0 h1 h2 hsg,?_⟩
   unfold gP
   exact⟨by omega,by omega,by omega,by omega,by omega,by omega,by omega,by omega,by omega,by omega,by omega,by omega,by omega,by omega,fun _=>hb (by decide),hm.2.2.2.2.2.2.2.2.2.2.2.2.2.2.2⟩
 ·refine⟨_,_,_,HY h h0 h1 h2 hf,?_⟩
  unfold gP
  exact⟨by omega,by omega,by omega,by omega,by omega,by omega,by omega,by omega,by omega,by omega,by omega,by omega,by omega,by omega,hb,fun h=>absurd h hf⟩
theorem Uy{a b c d e f g e':Int}(h:gP a b c d e f g)(h1:0≤e'∧e'≤1048576):gP a b c d e' f g:=by
 unfold gP at h ⊢
 exact⟨h.1,h.2.1,h.2.2.1,h.2.2.2.1,h.2.2.2.2.1,h.2.2.2.2.2.1,h.2.2.2.2.2.2.1,h.2.2.2.2.2.2.2.1,h.2.2.2.2.2.2.2.2.1,h.2.2.2.2.2.2.2.2.2.1,h1.1,h1.2,h.2.2.2.2.2.2.2.2.2.2.2.2⟩
theorem Bu{a b c d e f g:Int}(h:gP a b c d e f g):∃c' d' e' f' g' v,fw (a,b,c,d,e,f,g)=((a,b,c',d',e',f',g'),v,0)∧gP a b c' d' e' f' g'∧(v==1)=decide (e<d)∧(v=1→ic c' a=true):=by
 have hm:=h
 unfold gP at hm
 have hp:=qa (n:=b.toNat) (by omega)
 have hi:=D8 (c:=c) (s:=a) (n:=b) (by omega) (by omega) (by omega) (by omega) (by omega)
 have hb:ic (gl c a) a=true:=by rw[Ag (by omega) (by omega) (by omega) (by omega) (by omega)];simp
 by_cases hde:e<d
 ·refine⟨_,_,_,_,_,_,Ib h hde,?_,by simp[hde],fun _=>hb⟩
  unfold gP
  exact⟨by omega,by omega,by omega,by omega,by omega,by omega,by omega,by omega,by omega,by omega,by omega,by omega,by omega,by omega,fun _=>hb,fun h=>by omega⟩
 ·exact⟨_,_,_,_,_,_,KN h (by omega),h,by simp[hde],fun h=>by omega⟩
theorem LK{a b c d e f g:Int}(h:gP a b c d e f g):∃c' d' e' f' g' v,ib (a,b,c,d,e,f,g)=((a,b,c',d',e',f',g'),v,0)∧gP a b c' d' e' f' g'∧(v==1)=decide (e<d):=by
 obtain⟨c',d',e',f',g',v,h1,h2,h3,_⟩:=Bu h
 by_cases hde:d=0∧e=0
 ·refine⟨c,d,e,f,g,3,?_,h,?_⟩
  ·obtain⟨rfl,rfl⟩:=hde
   simp[ib,t27,LT.val,ap,aF,dJ.2 h]
  ·obtain⟨rfl,rfl⟩:=hde;decide
 ·refine⟨c',d',e',f',g',v,?_,h2,h3⟩
  rw[←h1]
  by_cases h0:d=0
  ·have he:(e==0)=false:=by simp;omega
   simp[ib,t27,LT.val,ap,aF,dJ.2 h,h0,he]
  ·have hd:(d==0)=false:=by simpa using h0
   simp[ib,t27,LT.val,ap,aF,dJ.2 h,hd]
theorem CV{c:Int×Int×Int×Int×Int}{w:Int}{o:Int×Int×Int×(Int×Int×(Int×Int×Int×Int×Int)×Int×List Int)×Int}:∀{l:List (Int×Int×(Int×List Int))} {k:Nat},ja c w k l=some o→o.1=3∧∃s∈l,s.1=2:=by
 intro l
 induction l with
 | nil=>intro k h;cases h
 | cons s l ih=>
   intro k h
   rw[ja] at h
   cases hb:(s.1==2&&(o8 (s.2.2,c)).2)
   ·rw[hb,cond_false] at h
    obtain⟨h1,x,hx,h2⟩:=ih h
    exact⟨h1,x,List.mem_cons_of_mem _ hx,h2⟩
   ·rw[hb,cond_true] at h
    cases h
    rw[Bool.and_eq_true,beq_iff_eq] at hb
    exact⟨rfl,s,List.mem_cons_self ..,hb.1⟩
theorem A6{t p m n:Int}{seen:List (Int×Int×(Int×List Int))}{o:Int×Int×Int×(Int×Int×(Int×Int×Int×Int×Int)×Int×List Int)×Int}:∀{l:List Int} {i:Nat},jX t p m n seen i l=some o→o.1=3∧∃s∈seen,s.1=2:=by
 intro l
 induction l with
 | nil=>intro i h;cases h
 | cons v l ih=>
   intro i h
   rw[jX] at h
   cases hs:ja (t,p,m,n,v) (i:Int) 0 seen with
   | none=>rw[hs] at h;exact ih h
   | some o'=>rw[hs] at h;cases h;exact CV hs
theorem Bh{c:Int×Int×Int×Int×Int}{w:Int}{o:Int×Int×Int×(Int×Int×(Int×Int×Int×Int×Int)×Int×List Int)×Int}:∀{l:List (Int×Int×(Int×List Int))} {k:Nat},ja c w k l=some o→o.2.1=w:=by
 intro l
 induction l with
 | nil=>intro k h;cases h
 | cons s l ih=>
   intro k h
   rw[ja] at h
   cases hb:(s.1==2&&(o8 (s.2.2,c)).2)
   ·rw[hb,cond_false] at h;exact ih h
   ·rw[hb,cond_true] at h;cases h;rfl
theorem yV{t p m n:Int}{seen:List (Int×Int×(Int×List Int))}{o:Int×Int×Int×(Int×Int×(Int×Int×Int×Int×Int)×Int×List Int)×Int}:∀{l:List Int} {i:Nat},jX t p m n seen i l=some o→∃k,k<l.length∧o.2.1=((i+k:Nat):Int):=by
 intro l
 induction l with
 | nil=>intro i h;cases h
 | cons v l ih=>
   intro i h
   rw[jX] at h
   cases hs:ja (t,p,m,n,v) (i:Int) 0 seen with
   | none=>
     rw[hs] at h
     obtain⟨k,h1,h2⟩:=ih h
     exact⟨k+1,by rw[List.length_cons];omega,by rw[h2];congr 1;omega⟩
   | some o'=>
     rw[hs] at h
     cases h
     exact⟨0,by rw[List.length_cons];omega,by rw[Bh hs];rfl⟩
theorem pN{t p m n s sender:Int}{v:Int×Int×Int×Int×Int×Int×Int}{seen:List (Int×Int×(Int×List Int))}(h:(gX ((t,p,m,n,s),v,sender,seen)).2=0) :
  iB v=0∧0≤sender∧sender<v.2.1∧sender≠v.1∧((∃k,k<(MW (v,sender)).length∧(gX ((t,p,m,n,s),v,sender,seen)).1.1=3∧(gX ((t,p,m,n,s),v,sender,seen)).1.2.1=(k:Int))∨(gX ((t,p,m,n,s),v,sender,seen)).1.1=1∨(gX ((t,p,m,n,s),v,sender,seen)).1.1=2):=by
 rw[gX] at h ⊢
 cases h1:(iB v != 0||gm ((t,p,m,n,s),v.2.1) != 0)
 ·rw[h1] at h
  rw[cond_false] at h ⊢
  cases h2:(decide (sender<0)||decide (v.2.1≤sender)||sender==v.1||seen.length != 2)
  ·rw[cond_false]
   simp only[Bool.or_eq_false_iff,bne_eq_false_iff_eq,decide_eq_false_iff_not,beq_eq_false_iff_ne] at h1 h2
   refine⟨h1.1,by omega,by omega,h2.1.2,?_⟩
   rw[rh]
   cases h3:jX t p m n seen 0 (MW (v,sender)) with
   | some o=>
     obtain⟨k,h4,h5⟩:=yV h3
     exact .inl ⟨k,h4,(A6 h3).1,by rw[Nat.zero_add] at h5;exact h5⟩
   | none=>
     right
     show(l6 seen).1=1∨(l6 seen).1=2
     rw[l6]
     cases seen.any fun s=>s.1 != 0
     ·exact .inl rfl
     ·exact .inr rfl
  ·rw[h2] at h;cases h
 ·rw[h1] at h;cases h
theorem qe{a b c d e f g s:Int}(h:gP a b c d e f g)(h0:0≤s)(h1:s<b)(h2:s≠a) :
  ∃c' f' g',lv ((a,b,c,d,e,f,g),s)=((a,b,c',d,e,f',g'),0)∧gP a b c' d e f' g'∧ic c' s=false:=by
 obtain⟨c',f',g',e1,e2⟩:=Ks h h0 h1 h2
 refine⟨c',f',g',e1,e2,?_⟩
 have hc:=Zm h
 have hm:=h
 unfold gP at hm
 have:c'=nf c s:=by
  by_cases hf:f=2
  ·subst hf
   by_cases hsg:g=s
   ·subst hsg
    rw[Kx h h2] at e1
    simp only[Prod.mk.injEq] at e1
    exact e1.1.2.2.1.symm
   ·rw[Iq h h0 h1 h2 hsg] at e1
    simp only[Prod.mk.injEq] at e1
    exact e1.1.2.2.1.symm
  ·rw[HY h h0 h1 h2 hf] at e1
   simp only[Prod.mk.injEq] at e1
   exact e1.1.2.2.1.symm
 rw[this,AX (by omega) hc h0 (by omega) h0,bne_self_eq_false,Bool.and_false]
theorem Iz{a b c d e f g s:Int}{k:Nat}(h:gP a b c d e f g)(h0:0≤s)(h1:s<b)(h2:s≠a)(hk:k<(MW ((a,b,c,d,e,f,g),s)).length):(lz ((a,b,c,d,e,f,g),s,(k:Int))).2=0∧((k:Int)=0∨(k:Int)=1):=by
 have hm:=h
 unfold gP at hm
 have hf:f=0∨f=1∨f=2:=by omega
 rw[MW] at hk
 rcases hf with rfl|rfl|rfl
 ·rw[A5] at hk
  have:k=0:=by
   have:k<1:=hk
   omega
  subst this
  exact⟨by rw[show((0:Nat):Int)=0 from rfl,D1 h h0 h1 h2],.inl rfl⟩
 ·rw[Ep] at hk
  have:k<2:=hk
  have:k=0∨k=1:=by omega
  rcases this with rfl|rfl
  ·exact⟨by rw[show((0:Nat):Int)=0 from rfl,Jb h h0 h1 h2],.inl rfl⟩
  ·exact⟨by rw[show((1:Nat):Int)=1 from rfl,E4 h h0 h1 h2],.inr rfl⟩
 ·by_cases hsg:s=g
  ·subst hsg
   rw[AP] at hk
   have:k=0:=by
    have:k<1:=hk
    omega
   subst this
   exact⟨by rw[show((0:Nat):Int)=0 from rfl,EO h h0 h1 h2],.inl rfl⟩
  ·rw[Ao hsg] at hk
   have:k<2:=hk
   have:k=0∨k=1:=by omega
   rcases this with rfl|rfl
   ·exact⟨by rw[show((0:Nat):Int)=0 from rfl,Fs h h0 h1 h2 hsg],.inl rfl⟩
   ·exact⟨by rw[show((1:Nat):Int)=1 from rfl,Fa h h0 h1 h2 hsg],.inr rfl⟩
theorem NB{v:Int×Int×Int×Int×Int×Int×Int}{s:Int}{o:Int×Int×Int×(Int×Int×(Int×Int×Int×Int×Int)×Int×List Int)×Int}(h:o.1=1):dU (v,s,o)=lv (v,s):=by
 obtain⟨a,b,c,d,e,f,g⟩:=v
 obtain⟨k,w,ch,⟨fk,fr,⟨t,p,m,n,x⟩,ff,fd⟩,at'⟩:=o
 have h:k=1:=h
 subst h
 rfl
theorem BL{v:Int×Int×Int×Int×Int×Int×Int}{s:Int}{o:Int×Int×Int×(Int×Int×(Int×Int×Int×Int×Int)×Int×List Int)×Int}(h:o.1=2):dU (v,s,o)=KU (v,s):=by
 obtain⟨a,b,c,d,e,f,g⟩:=v
 obtain⟨k,w,ch,⟨fk,fr,⟨t,p,m,n,x⟩,ff,fd⟩,at'⟩:=o
 have h:k=2:=h
 subst h
 rfl
theorem EP{v:Int×Int×Int×Int×Int×Int×Int}{s:Int}{o:Int×Int×Int×(Int×Int×(Int×Int×Int×Int×Int)×Int×List Int)×Int}(h:o.1=3):dU (v,s,o)=lz (v,s,o.2.1):=by
 obtain⟨a,b,c,d,e,f,g⟩:=v
 obtain⟨k,w,ch,⟨fk,fr,⟨t,p,m,n,x⟩,ff,fd⟩,at'⟩:=o
 have h:k=3:=h
 subst h
 rfl
theorem zT{t p m n x s a b c d e f g:Int}{seen:List (Int×Int×(Int×List Int))}(h:(gX ((t,p,m,n,x),(a,b,c,d,e,f,g),s,seen)).2=0) :
  ∃c' d' e' f' g',dU ((a,b,c,d,e,f,g),s,(gX ((t,p,m,n,x),(a,b,c,d,e,f,g),s,seen)).1)=((a,b,c',d',e',f',g'),0)∧gP a b c' d' e' f' g'∧ic c' s=((gX ((t,p,m,n,x),(a,b,c,d,e,f,g),s,seen)).1.1==3)∧0≤s∧s<b:=by
 obtain⟨h1,h2,h3,h4,h5⟩:=pN h
 have hok:=dJ.1 h1
 have h3:s<b:=h3
 have h4:s≠a:=h4
 rcases h5 with ⟨k,hk,h6,h7⟩|h6|h6
 ·obtain⟨he,hk2⟩:=Iz hok h2 h3 h4 hk
  obtain⟨c',d',e',f',g',e1,e2,e3⟩:=JB hok h2 h3 h4 hk2 he
  refine⟨c',d',e',f',g',?_,e2,by rw[e3,h6];rfl,h2,h3⟩
  rw[EP h6,h7]
  exact Prod.ext e1 he
 ·obtain⟨c',f',g',e1,e2,e3⟩:=qe hok h2 h3 h4
  exact⟨c',d,e,f',g',by rw[NB h6];exact e1,e2,by rw[e3,h6];rfl,h2,h3⟩
 ·obtain⟨c',f',g',e1,e2,e3⟩:=qe hok h2 h3 h4
  have hm:=hok
  unfold gP at hm
  refine⟨c',d,inc e,f',g',?_,Uy e2 (inc_le (by omega) (by omega)),by rw[e3,h6];rfl,h2,h3⟩
  rw[BL h6]
  exact EI e1 (show 0≤e by omega) (show e≤1048576 by omega)
def t24(A:bi)(mId:Int)(mN:Int)(mSet:Int)(mAcc:Int)(mFail:Int)(mStage:Int)(mFirst:Int):LT Bool Empty:=.need (A.k (@tt ((Int×Int×Int×Int×Int×Int×Int))) (mId,mN,mSet,mAcc,mFail,mStage,mFirst)) (.br (A.c .eql (A.k iB (mId,mN,mSet,mAcc,mFail,mStage,mFirst)) 0) (.need (A.c .leq 0 mId) (.ret (A.c .eql (A.b .and .i64 (A.b .shr .i64 mSet mId) 1) 1))) (.ret false))
def Br:gh→Bool:=fun(mId,mN,mSet,mAcc,mFail,mStage,mFirst)=>(t24 aj mId mN mSet mAcc mFail mStage mFirst).val (Ty.bZ [.bool])
def adl:aD:=⟨[mY], [.bool],(@tt gh),Br⟩
theorem WO:Sd 103 adl:=aM au cK true 27 [] (fun A (mId,mN,mSet,mAcc,mFail,mStage,mFirst)=>t24 A mId mN mSet mAcc mFail mStage mFirst) (fc Tryz.func103 fz) (sc Db sz) (fun((mId,mN,mSet,mAcc,mFail,mStage,mFirst):gh) hp h=>by
 show(t24 aj mId mN mSet mAcc mFail mStage mFirst).pre=true
 simp only[t24,LT.pre,fB,aF,aJ,ar,aB,aG,aN,aR,bD,fx,ap,bw,aZ,bu,cH,cN,Bool.and_eq_true,Bool.or_eq_true,Bool.and_eq_false_iff,Bool.or_eq_false_iff,Bool.not_eq_true',Bool.not_eq_false',decide_eq_true_eq,decide_eq_false_iff_not,bne_iff_ne,beq_iff_eq,bne_eq_false_iff_eq,beq_eq_false_iff_ne]
 simp only[Ty.dK,Ty.has,n_] at h
 (repeat' (first|intro _|constructor))<;>(try (have hm:=dJ.1 (by assumption);unfold gP at hm;omega)))
open Go.Ev.Pl
def pZ:gK:=(2,0,0,ng,0)
def CS:gK:=(0,0,0,ng,0)
def ot(n:Node)(seen:List Seen):gK×Int:=gX (n.2.2.1,n.2.2.2.1,n.2.2.1.2.1,seen)
def mj(m:ak)(n:Node)(o:gK):gK:=bif decide (o.1=3) && !(kh m n.2.2.1 o.2.2.2.1) then pZ else o
def oY(n:Node)(v:gh):Node:=(n.1,n.2.1,(n.2.2.1.1,n.2.2.1.2.1,n.2.2.1.2.2.1,n.2.2.1.2.2.2.1,v.2.2.1),v,n.2.2.2.2)
def Bg(n:Node)(o:gK):gh:=(dU (n.2.2.2.1,n.2.2.1.2.1,o)).1
def wH(m:ak)(n:Node)(f:gT):Node:=(n.1,n.2.1,eY m n.2.2.1 f.2.1,n.2.2.2.1,n.2.2.2.2.1,n.2.2.2.2.2.1,n.2.2.2.2.2.2.1,bif decide (f.1=3) then n.2.2.2.2.2.2.2 else(jh n.2.2.2.2.2.2.2 n.2.2.1.2.1 f.2.2.2.2).1)
def od(n:Node):Node:=bif decide (n.2.1=4) && !(Br n.2.2.2.1) then(n.1,3,n.2.2) else n
def ul(m:ak)(n:Node)(o:gK):Node:=od (bif decide (o.1=3) then wH m (oY n (Bg n o)) o.2.2.2.1 else oY n (Bg n o))
def nR(m:ak)(n:Node)(seen:List Seen):Node×gK×Int:=bif decide (aS m n=0) then(bif gb n&&decide (¬n.2.2.1.2.1=n.1) then(bif decide ((ot n seen).2=0) then(ul m n (mj m n (ot n seen).1),mj m n (ot n seen).1,0) else(dM,CS,(ot n seen).2)) else(dM,CS,181)) else(dM,CS,aS m n)
theorem Il{c:dq}{v:gh}{s:Int}{seen:List Seen}(h:(gX (c,v,s,seen)).2=0):(dU (v,s,(gX (c,v,s,seen)).1)).2=0∧(dU (v,s,pZ)).2=0:=by
 obtain⟨t,p,m,n,x⟩:=c
 obtain⟨a,b,c,d,e,f,g⟩:=v
 refine⟨?_,?_⟩
 ·obtain⟨c',d',e',f',g',e1,_⟩:=zT h;rw[e1]
 ·obtain⟨h1,h2,h3,h4,_⟩:=pN h
  have hok:=dJ.1 h1
  have h3:s<b:=h3
  have h4:s≠a:=h4
  obtain⟨c',f',g',e1,_⟩:=qe hok h2 h3 h4
  have hm:=hok
  unfold gP at hm
  rw[BL rfl,EI e1 (show 0≤e by omega) (show e≤1048576 by omega)]
theorem BH{m:ak}{n:Node}{f:gT}(hn:aS m n=0)(h:kh m n.2.2.1 f=true):(jh n.2.2.2.2.2.2.2 n.2.2.1.2.1 f.2.2.2.2).2=0:=by
 have hd:=bF.1 (aP hn).2
 simp only[kh,Bool.and_eq_true,decide_eq_true_eq] at h
 have hk:=ki h.1
 have hx:=Bl hk.1 hk.2.1 hk.2.2
 have h8:(f.2.2.2.2.length:Int)≤8:=by
  rw[h.2.2]
  by_cases g:(bo m n.2.2.1.2.2.1 n.2.2.1.2.1).1=3
  ·rw[decide_eq_true g];exact(by omega:(0:Int)≤8)
  ·rw[decide_eq_false g];exact hx.2
 have e6:=hd.2.2.2.2.2.1
 rw[jh,hd.2.2.2.1,decide_eq_true (show 0≤n.2.2.1.2.1∧n.2.2.1.2.1≤(n.2.2.2.2.2.2.2.2.2.1.length:Int)-1 by rw[e6];exact hk.2.1),decide_eq_false (show ¬8<(f.2.2.2.2.length:Int) by omega)]
 rfl
theorem Bs{m:ak}{n:Node}{o:gK}(h:o.1=3)(h2:kh m n.2.2.1 o.2.2.2.1=false):mj m n o=pZ:=by rw[mj,decide_eq_true h,h2];rfl
theorem qU{m:ak}{n:Node}{o:gK}(h2:kh m n.2.2.1 o.2.2.2.1=true):mj m n o=o:=by rw[mj,h2,Bool.not_true,Bool.and_false];rfl
theorem D3{m:ak}{n:Node}{o:gK}(h:¬o.1=3):mj m n o=o:=by rw[mj,decide_eq_false h];rfl
theorem Fc{Y:Type}{step:Y→LT (Node×gK×Int) Y}{n:Node}{o:gK}{b:Bool}(hb:b=Br n.2.2.2.1):aA step (.br (aj.c .eql n.2.1 4) (.need true (.br (aj.not b) (.ret ((n.1,3,n.2.2),o,0)) (.ret (n,o,0)))) (.ret (n,o,0))) (od n,o,0):=by
 rw[od]
 refine ax (p:=n.2.1=4) aH (fun h=>af.2 ⟨rfl,?_⟩) fun h=>ay (by rw[decide_eq_false h];rfl) (.ret _)
 rw[decide_eq_true h,Bool.true_and,←hb]
 cases b
 ·exact(ai rfl).2 (.ret _)
 ·exact(ah rfl).2 (.ret _)
structure Ia where
 (a0:List Seen) (a1:Int) (a2:ak) (a17:Node)
structure I6 where
 (b0:Int) (b1:ak) (dL:Node) (im:gK)
structure Jr where
 (c14:Node)
structure JX where
 (d0:ak) (vP:Node) (EB:gK)
structure Io where
 (e14:Node) (e15:gK)
structure Iw where
 (f0:ak) (f15:Node) (f16:gK)
inductive N3 where
 | c0 (p:Ia)
 | c1 (p:I6)
 | c2 (p:Jr)
 | c3 (p:JX)
 | c4 (p:Io)
 | c5 (p:Iw)
noncomputable def SI:N3→gB
 | .c0 p=>⟨[⟨40,111,(en [(2,.sl dA p.a0),(3,.ptr 0 0),(6,.ptr 1 0),(7,.ptr 2 0),(9,.ptr 3 0),(10,vi p.a1)]),[.code (cw Tryz.f40 [1,1,0,0]),.code (cw Tryz.f40 [1,1,0,1]),.code (cw Tryz.f40 [1,1,1])],[],none⟩],[.flat false (dc bd p.a2),.flat false [vi 0,vi 0,vi 0,vi 0,vi 0,vi 0,vi 0,vi 0,vi 0,vi 0,vi 0,vi 0,vi 0,vi 0,vi 0,vb false,vi 0,vi 0,.bK true,.bK true,vi 0,vi 0],.flat false [vi 0,vi 0,vi 0,vi 0,vi 0,vi 0,vi 0,vi 0,vi 0,vi 0,vi 0,.bK true,vi 0],.flat false (dc aQ p.a17),.dead]⟩
 | .c1 p=>⟨[⟨40,111,(en [(3,.ptr 0 0),(6,.ptr 1 0),(7,.ptr 2 0),(9,.ptr 3 0),(10,vi p.b0),(11,.ptr 4 0)]),[.code (cw Tryz.f40 [1,1,1,1,0,0]),.code (cw Tryz.f40 [1,1,1,1,0,1]),.code (cw Tryz.f40 [1,1,1,1,1])],[],none⟩],[.flat false (dc bd p.b1),.flat false [vi 0,vi 0,vi 0,vi 0,vi 0,vi 0,vi 0,vi 0,vi 0,vi 0,vi 0,vi 0,vi 0,vi 0,vi 0,vb false,vi 0,vi 0,.bK true,.bK true,vi 0,vi 0],.flat false [vi 0,vi 0,vi 0,vi 0,vi 0,vi 0,vi 0,vi 0,vi 0,vi 0,vi 0,.bK true,vi 0],.flat false (dc aQ p.dL),.flat false (dc mW p.im),.dead]⟩
 | .c2 p=>⟨[⟨40,111,(en [(6,.ptr 0 0),(7,.ptr 1 0),(9,.ptr 2 0),(11,.ptr 3 0)]),[.code (cw Tryz.f40 [1,1,1,1,1,1,1,1,1,0,0]),.code (cw Tryz.f40 [1,1,1,1,1,1,1,1,1,0,1]),.code (cw Tryz.f40 [1,1,1,1,1,1,1,1,1,1])],[],none⟩],[.flat false [vi 0,vi 0,vi 0,vi 0,vi 0,vi 0,vi 0,vi 0,vi 0,vi 0,vi 0,vi 0,vi 0,vi 0,vi 0,vb false,vi 0,vi 0,.bK true,.bK true,vi 0,vi 0],.flat false [vi 0,vi 0,vi 0,vi 0,vi 0,vi 0,vi 0,vi 0,vi 0,vi 0,vi 0,.bK true,vi 0],.flat false (dc aQ p.c14),.flat false [vi 2,vi 0,vi 0,vi 0,vi 0,vi 0,vi 0,vi 0,vi 0,vi 0,vi 0,.bK true,vi 0],.dead]⟩
 | .c3 p=>⟨[⟨40,111,(en [(3,.ptr 0 0),(6,.ptr 1 0),(7,.ptr 2 0),(9,.ptr 3 0),(11,.ptr 4 0)]),[.code (cw Tryz.f40 [1,1,1,1,1,1,1,1,0,1,0,0,0]),.code (cw Tryz.f40 [1,1,1,1,1,1,1,1,0,1,0,0,1]),.code (cw Tryz.f40 [1,1,1,1,1,1,1,1,0,1,0,1]),.code (cw Tryz.f40 [1,1,1,1,1,1,1,1,1])],[],none⟩],[.flat false (dc bd p.d0),.flat false [vi 0,vi 0,vi 0,vi 0,vi 0,vi 0,vi 0,vi 0,vi 0,vi 0,vi 0,vi 0,vi 0,vi 0,vi 0,vb false,vi 0,vi 0,.bK true,.bK true,vi 0,vi 0],.flat false [vi 0,vi 0,vi 0,vi 0,vi 0,vi 0,vi 0,vi 0,vi 0,vi 0,vi 0,.bK true,vi 0],.flat false (dc aQ p.vP),.flat false (dc mW p.EB),.dead]⟩
 | .c4 p=>⟨[⟨40,111,(en [(6,.ptr 0 0),(7,.ptr 1 0),(9,.ptr 2 0),(11,.ptr 3 0)]),[.code (cw Tryz.f40 [1,1,1,1,1,1,1,1,1,0,0]),.code (cw Tryz.f40 [1,1,1,1,1,1,1,1,1,0,1]),.code (cw Tryz.f40 [1,1,1,1,1,1,1,1,1,1])],[],none⟩],[.flat false [vi 0,vi 0,vi 0,vi 0,vi 0,vi 0,vi 0,vi 0,vi 0,vi 0,vi 0,vi 0,vi 0,vi 0,vi 0,vb false,vi 0,vi 0,.bK true,.bK true,vi 0,vi 0],.flat false [vi 0,vi 0,vi 0,vi 0,vi 0,vi 0,vi 0,vi 0,vi 0,vi 0,vi 0,.bK true,vi 0],.flat false (dc aQ p.e14),.flat false (dc mW p.e15),.dead]⟩
 | .c5 p=>⟨[⟨40,111,(en [(3,.ptr 0 0),(6,.ptr 1 0),(7,.ptr 2 0),(9,.ptr 3 0),(11,.ptr 4 0)]),[.code (cw Tryz.f40 [1,1,1,1,1,1,1,1,0,1,0,1]),.code (cw Tryz.f40 [1,1,1,1,1,1,1,1,1])],[],none⟩],[.flat false (dc bd p.f0),.flat false [vi 0,vi 0,vi 0,vi 0,vi 0,vi 0,vi 0,vi 0,vi 0,vi 0,vi 0,vi 0,vi 0,vi 0,vi 0,vb false,vi 0,vi 0,.bK true,.bK true,vi 0,vi 0],.flat false [vi 0,vi 0,vi 0,vi 0,vi 0,vi 0,vi 0,vi 0,vi 0,vi 0,vi 0,.bK true,vi 0],.flat false (dc aQ p.f15),.flat false (dc mW p.f16),.dead]⟩
def Sg(A:bi)(m:ak)(n:Node)(seen:List Seen):LT (Node×gK×Int) N3:=.need (A.k (@tt Node) n) (.br (A.k cv n) (.need (A.k (@tt (ak×Node×Bool)) (m,n,(A.c .neq n.2.2.1.2.1 n.1))) (.need (A.k (@tt (ak×Node×Bool)) (m,n,(A.c .neq n.2.2.1.2.1 n.1))) (.eqs (((A.k cv n):Bool)=true) (.need (A.k (@tt Node) n) (.more (.c0 ⟨seen,(A.k aI (m,n,(A.c .neq n.2.2.1.2.1 n.1))).2,m,(A.k aI (m,n,(A.c .neq n.2.2.1.2.1 n.1))).1⟩)))))) (.need (A.k (@tt (ak×Node×Bool)) (m,n,false)) (.need (A.k (@tt (ak×Node×Bool)) (m,n,false)) (.eqs (((A.k cv n):Bool)=false) (.need (A.k (@tt Node) n) (.more (.c0 ⟨seen,(A.k aI (m,n,false)).2,m,(A.k aI (m,n,false)).1⟩)))))))
def pM(A:bi):N3→LT (Node×gK×Int) N3
 | .c0 p=>.br (A.c .neq p.a1 0) (.ret ((0,0,(0,0,0,0,0),(0,0,0,0,0,0,0),0,false,0,0,([]:List Int),([]:List bW),0,0),(0,0,0,(0,0,(0,0,0,0,0),0,([]:List Int)),0),p.a1)) (.need (A.k (@tt ((Int×Int×Int×Int×Int)×(Int×Int×Int×Int×Int×Int×Int)×Int×List (Int×Int×(Int×List Int)))) (p.a17.2.2.1,p.a17.2.2.2.1,p.a17.2.2.1.2.1,p.a0)) (.more (.c1 ⟨(A.k ky (p.a17.2.2.1,p.a17.2.2.2.1,p.a17.2.2.1.2.1,p.a0)).2,p.a2,p.a17,(A.k ky (p.a17.2.2.1,p.a17.2.2.2.1,p.a17.2.2.1.2.1,p.a0)).1⟩)))
 | .c1 p=>.br (A.c .neq p.b0 0) (.ret ((0,0,(0,0,0,0,0),(0,0,0,0,0,0,0),0,false,0,0,([]:List Int),([]:List bW),0,0),(0,0,0,(0,0,(0,0,0,0,0),0,([]:List Int)),0),p.b0)) (.br (A.c .eql p.im.1 3) (.need (A.k (@tt (ak×dq×gT)) (p.b1,p.dL.2.2.1,p.im.2.2.2.1)) (.br (A.not (A.k FZ (p.b1,p.dL.2.2.1,p.im.2.2.2.1))) (.need (A.k (@tt ((Int×Int×Int×Int×Int×Int×Int)×Int×(Int×Int×Int×(Int×Int×(Int×Int×Int×Int×Int)×Int×List Int)×Int))) (p.dL.2.2.2.1,p.dL.2.2.1.2.1,2,0,0,(0,0,(0,0,0,0,0),0,([]:List Int)),0)) (.br (A.c .neq (A.k dU (p.dL.2.2.2.1,p.dL.2.2.1.2.1,2,0,0,(0,0,(0,0,0,0,0),0,([]:List Int)),0)).2 0) (.ret ((0,0,(0,0,0,0,0),(0,0,0,0,0,0,0),0,false,0,0,([]:List Int),([]:List bW),0,0),(0,0,0,(0,0,(0,0,0,0,0),0,([]:List Int)),0),(A.k dU (p.dL.2.2.2.1,p.dL.2.2.1.2.1,2,0,0,(0,0,(0,0,0,0,0),0,([]:List Int)),0)).2)) (.more (.c2 ⟨(p.dL.1,p.dL.2.1,(p.dL.2.2.1.1,p.dL.2.2.1.2.1,p.dL.2.2.1.2.2.1,p.dL.2.2.1.2.2.2.1,(A.k dU (p.dL.2.2.2.1,p.dL.2.2.1.2.1,2,0,0,(0,0,(0,0,0,0,0),0,([]:List Int)),0)).1.2.2.1),(A.k dU (p.dL.2.2.2.1,p.dL.2.2.1.2.1,2,0,0,(0,0,(0,0,0,0,0),0,([]:List Int)),0)).1,p.dL.2.2.2.2)⟩)))) (.need (A.k (@tt ((Int×Int×Int×Int×Int×Int×Int)×Int×(Int×Int×Int×(Int×Int×(Int×Int×Int×Int×Int)×Int×List Int)×Int))) (p.dL.2.2.2.1,p.dL.2.2.1.2.1,p.im)) (.br (A.c .neq (A.k dU (p.dL.2.2.2.1,p.dL.2.2.1.2.1,p.im)).2 0) (.ret ((0,0,(0,0,0,0,0),(0,0,0,0,0,0,0),0,false,0,0,([]:List Int),([]:List bW),0,0),(0,0,0,(0,0,(0,0,0,0,0),0,([]:List Int)),0),(A.k dU (p.dL.2.2.2.1,p.dL.2.2.1.2.1,p.im)).2)) (.br (A.c .eql p.im.1 3) (.more (.c3 ⟨p.b1,(p.dL.1,p.dL.2.1,(p.dL.2.2.1.1,p.dL.2.2.1.2.1,p.dL.2.2.1.2.2.1,p.dL.2.2.1.2.2.2.1,(A.k dU (p.dL.2.2.2.1,p.dL.2.2.1.2.1,p.im)).1.2.2.1),(A.k dU (p.dL.2.2.2.1,p.dL.2.2.1.2.1,p.im)).1,p.dL.2.2.2.2),p.im⟩)) (.more (.c4 ⟨(p.dL.1,p.dL.2.1,(p.dL.2.2.1.1,p.dL.2.2.1.2.1,p.dL.2.2.1.2.2.1,p.dL.2.2.1.2.2.2.1,(A.k dU (p.dL.2.2.2.1,p.dL.2.2.1.2.1,p.im)).1.2.2.1),(A.k dU (p.dL.2.2.2.1,p.dL.2.2.1.2.1,p.im)).1,p.dL.2.2.2.2),p.im⟩))))))) (.need (A.k (@tt ((Int×Int×Int×Int×Int×Int×Int)×Int×(Int×Int×Int×(Int×Int×(Int×Int×Int×Int×Int)×Int×List Int)×Int))) (p.dL.2.2.2.1,p.dL.2.2.1.2.1,p.im)) (.br (A.c .neq (A.k dU (p.dL.2.2.2.1,p.dL.2.2.1.2.1,p.im)).2 0) (.ret ((0,0,(0,0,0,0,0),(0,0,0,0,0,0,0),0,false,0,0,([]:List Int),([]:List bW),0,0),(0,0,0,(0,0,(0,0,0,0,0),0,([]:List Int)),0),(A.k dU (p.dL.2.2.2.1,p.dL.2.2.1.2.1,p.im)).2)) (.br (A.c .eql p.im.1 3) (.more (.c3 ⟨p.b1,(p.dL.1,p.dL.2.1,(p.dL.2.2.1.1,p.dL.2.2.1.2.1,p.dL.2.2.1.2.2.1,p.dL.2.2.1.2.2.2.1,(A.k dU (p.dL.2.2.2.1,p.dL.2.2.1.2.1,p.im)).1.2.2.1),(A.k dU (p.dL.2.2.2.1,p.dL.2.2.1.2.1,p.im)).1,p.dL.2.2.2.2),p.im⟩)) (.more (.c4 ⟨(p.dL.1,p.dL.2.1,(p.dL.2.2.1.1,p.dL.2.2.1.2.1,p.dL.2.2.1.2.2.1,p.dL.2.2.1.2.2.2.1,(A.k dU (p.dL.2.2.2.1,p.dL.2.2.1.2.1,p.im)).1.2.2.1),(A.k dU (p.dL.2.2.2.1,p.dL.2.2.1.2.1,p.im)).1,p.dL.2.2.2.2),p.im⟩))))))
 | .c2 p=>.br (A.c .eql p.c14.2.1 4) (.need (A.k (@tt gh) p.c14.2.2.2.1) (.br (A.not (A.k Br p.c14.2.2.2.1)) (.ret ((p.c14.1,3,p.c14.2.2),(2,0,0,(0,0,(0,0,0,0,0),0,([]:List Int)),0),0)) (.ret (p.c14,(2,0,0,(0,0,(0,0,0,0,0),0,([]:List Int)),0),0)))) (.ret (p.c14,(2,0,0,(0,0,(0,0,0,0,0),0,([]:List Int)),0),0))
 | .c3 p=>.br (A.c .neq p.EB.2.2.2.1.1 3) (.need (A.k (@tt (cf×Int×List Int)) (p.vP.2.2.2.2.2.2.2,p.vP.2.2.1.2.1,p.EB.2.2.2.1.2.2.2.2)) (.need (A.k (@tt (cf×Int×List Int)) (p.vP.2.2.2.2.2.2.2,p.vP.2.2.1.2.1,p.EB.2.2.2.1.2.2.2.2)) (.br (A.c .eql (A.k k6 (p.vP.2.2.2.2.2.2.2,p.vP.2.2.1.2.1,p.EB.2.2.2.1.2.2.2.2)).2 0) (.more (.c5 ⟨p.d0,(p.vP.1,p.vP.2.1,p.vP.2.2.1,p.vP.2.2.2.1,p.vP.2.2.2.2.1,p.vP.2.2.2.2.2.1,p.vP.2.2.2.2.2.2.1,(A.k k6 (p.vP.2.2.2.2.2.2.2,p.vP.2.2.1.2.1,p.EB.2.2.2.1.2.2.2.2)).1),p.EB⟩)) (.more (.c5 ⟨p.d0,p.vP,p.EB⟩))))) (.more (.c5 ⟨p.d0,p.vP,p.EB⟩))
 | .c4 p=>.br (A.c .eql p.e14.2.1 4) (.need (A.k (@tt gh) p.e14.2.2.2.1) (.br (A.not (A.k Br p.e14.2.2.2.1)) (.ret ((p.e14.1,3,p.e14.2.2),p.e15,0)) (.ret (p.e14,p.e15,0)))) (.ret (p.e14,p.e15,0))
 | .c5 p=>.need (A.k (@tt (ak×dq×Int)) (p.f0,p.f15.2.2.1,p.f16.2.2.2.1.2.1)) (.need (A.k (@tt (ak×dq×Int)) (p.f0,p.f15.2.2.1,p.f16.2.2.2.1.2.1)) (.br (A.c .eql (A.k gi (p.f0,p.f15.2.2.1,p.f16.2.2.2.1.2.1)).2 0) (.more (.c4 ⟨(p.f15.1,p.f15.2.1,(A.k gi (p.f0,p.f15.2.2.1,p.f16.2.2.2.1.2.1)).1,p.f15.2.2.2),p.f16⟩)) (.more (.c4 ⟨p.f15,p.f16⟩))))
theorem EC{p:Io}:aA (pM aj) (.more (.c4 p)) (od p.e14,p.e15,0):=by
 rw[al,pM];exact Fc rfl
theorem Qn{p:Jr}:aA (pM aj) (.more (.c2 p)) (od p.c14,pZ,0):=by
 rw[al,pM];exact Fc rfl
theorem KV{p:Iw}:aA (pM aj) (.more (.c5 p)) (od (p.f15.1,p.f15.2.1,eY p.f0 p.f15.2.2.1 p.f16.2.2.2.1.2.1,p.f15.2.2.2),p.f16,0):=by
 rw[al,pM,eY]
 refine af.2 ⟨rfl,af.2 ⟨rfl,?_⟩⟩
 rw[show ∀x,aj.k gi x=l5 x.1 x.2.1 x.2.2 from fun _=>rfl]
 refine ax (p:=(l5 p.f0 p.f15.2.2.1 p.f16.2.2.2.1.2.1).2=0) aH (fun g=>?_) fun g=>?_
 ·rw[decide_eq_true g];exact EC
 ·rw[decide_eq_false g];exact EC
theorem Tb{p:JX}(h:(jh p.vP.2.2.2.2.2.2.2 p.vP.2.2.1.2.1 p.EB.2.2.2.1.2.2.2.2).2=0):aA (pM aj) (.more (.c3 p)) (od (wH p.d0 p.vP p.EB.2.2.2.1),p.EB,0):=by
 rw[al,pM,wH]
 refine ax (p:=¬p.EB.2.2.2.1.1=3) aT (fun g=>af.2 ⟨rfl,af.2 ⟨rfl,?_⟩⟩) fun g=>?_
 ·rw[decide_eq_false g,show ∀x,aj.k k6 x=jh x.1 x.2.1 x.2.2 from fun _=>rfl]
  exact(ai (ug h)).2 KV
 ·rw[decide_eq_true (Decidable.not_not.1 g)];exact KV
theorem Sb{p:I6}{m:ak}{n:Node}{S:gK×Int}(h0:p.b0=S.2)(h1:p.b1=m)(h2:p.dL=n)(h3:p.im=S.1)(hn:aS m n=0)(ha:S.2=0→(dU (n.2.2.2.1,n.2.2.1.2.1,S.1)).2=0∧(dU (n.2.2.2.1,n.2.2.1.2.1,pZ)).2=0):aA (pM aj) (.more (.c1 p)) (bif decide (S.2=0) then(ul m n (mj m n S.1),mj m n S.1,0) else(dM,CS,S.2)):=by
 subst h1 h2
 rw[al,pM,h0,h3]
 refine ax (p:=¬S.2=0) aT (fun g=>ay (by rw[decide_eq_false g];rfl) (.ret _)) fun g=>?_
 have g:=Decidable.not_not.1 g
 obtain⟨a1,a2⟩:=ha g
 rw[decide_eq_true g,cond_true]
 rw[show aj.k FZ (p.b1,p.dL.2.2.1,S.1.2.2.2.1)=kh p.b1 p.dL.2.2.1 S.1.2.2.2.1 from rfl]
 have e1:aj.c .neq (aj.k dU (p.dL.2.2.2.1,p.dL.2.2.1.2.1,S.1)).2 0=false:=by rw[ap,a1];rfl
 have e2:aj.c .neq (aj.k dU (p.dL.2.2.2.1,p.dL.2.2.1.2.1,2,0,0,(0,0,(0,0,0,0,0),0,([]:List Int)),0)).2 0=false:=by rw[ap];unfold pZ ng at a2;rw[a2];rfl
 refine ax (p:=S.1.1=3) aH (fun k=>af.2 ⟨rfl,?_⟩) fun k=>af.2 ⟨rfl,(ah e1).2 ((ah (by rw[aH];exact decide_eq_false k)).2 ?_)⟩
 ·cases hl:kh p.b1 p.dL.2.2.1 S.1.2.2.2.1
  ·refine(ai rfl).2 (af.2 ⟨rfl,(ah e2).2 ?_⟩)
   rw[Bs k hl];exact Qn (p:=⟨oY p.dL (Bg p.dL pZ)⟩)
  ·refine(ah rfl).2 (af.2 ⟨rfl,(ah e1).2 ((ai (by rw[aH];exact decide_eq_true k)).2 ?_)⟩)
   rw[qU hl,ul,decide_eq_true k]
   have hv:=BH hn hl
   exact Tb (p:=⟨p.b1,oY p.dL (Bg p.dL S.1),S.1⟩) hv
 ·rw[D3 k,ul,decide_eq_false k];exact EC (p:=⟨oY p.dL (Bg p.dL S.1),S.1⟩)
theorem ab7{m:ak}{n:Node}{seen:List Seen}:aA (pM aj) (Sg aj m n seen) (nR m n seen):=by
 unfold Sg nR
 rw[show aj.k cv n=gb n from rfl]
 refine af.2 ⟨rfl,?_⟩
 have no:∀q:Ia,q.a1=(gu m n false).2→aA (pM aj) (.more (.c0 q)) (bif decide (aS m n=0) then(dM,CS,181) else(dM,CS,aS m n)):=fun q hq=>by
  rw[al,pM,hq,gu]
  by_cases h:aS m n=0
  ·rw[decide_eq_true h];exact(ai rfl).2 (.ret _)
  ·rw[decide_eq_false h];exact(ai (fT h)).2 (.ret _)
 cases hi:gb n
 ·exact(ah rfl).2 (af.2 ⟨rfl,af.2 ⟨rfl,fe.2 ⟨rfl,af.2 ⟨rfl,no _ rfl⟩⟩⟩⟩)
 ·refine(ai rfl).2 (af.2 ⟨rfl,af.2 ⟨rfl,fe.2 ⟨rfl,af.2 ⟨rfl,?_⟩⟩⟩⟩)
  rw[show ∀w,aj.k aI (m,n,w)=gu m n w from fun _=>rfl,aT,Bool.true_and]
  by_cases hp:n.2.2.1.2.1=n.1
  ·rw[decide_eq_false (show ¬¬n.2.2.1.2.1=n.1 from fun k=>k hp)];exact no _ rfl
  ·rw[decide_eq_true hp,cond_true]
   by_cases h:aS m n=0
   ·have e:gu m n true=(n,0):=by rw[gu,decide_eq_true h];rfl
    rw[decide_eq_true h,e,cond_true,al,pM]
    exact(ah rfl).2 (af.2 ⟨rfl,Sb (S:=ot n seen) rfl rfl rfl rfl h fun g=>Il (c:=n.2.2.1) (v:=n.2.2.2.1) (s:=n.2.2.1.2.1) (seen:=seen) g⟩)
   ·have:=no ⟨seen,(gu m n true).2,m,(gu m n true).1⟩ (by rw[gu,gu,decide_eq_false h];rfl)
    rw[decide_eq_false h] at this ⊢
    exact this
def kw:(ak×Node×List Seen)→(Node×gK×Int):=fun(m,c,k)=>nR m c k
def YN:aD:=⟨[bd,aQ,(.slice dA)], [aQ,mW,yI],(@tt (ak×Node×List Seen)),kw⟩
theorem OE:Sd 40 YN:=aL au cK true 38 [] [⟨40,2, [[2,3,6,7,9,10]]⟩,⟨40,5, [[3,6,7,9,10,11]]⟩,⟨40,14, [[3,6,7,9,11]]⟩,⟨40,16, [[3,6,7,9,11]]⟩,⟨40,17, [[6,7,9,11]]⟩] (fun A (m,n,seen)=>Sg A m n seen) pM SI (fc Tryz.func40 (fc Tryz.func101 (fc Tryz.func102 fz))) (sc WO (sc XF (sc U5 (sc zK (sc tL (sc Oh (sc Fb (sc zA sz)))))))) (fun A y=>match y with |.c0 p=>⟨31,by kernel_rfl,by kernel_rfl⟩|.c1 p=>⟨76,by kernel_rfl,by kernel_rfl⟩|.c2 p=>⟨29,by kernel_rfl,by kernel_rfl⟩|.c3 p=>⟨56,by kernel_rfl,by kernel_rfl⟩|.c4 p=>⟨29,by kernel_rfl,by kernel_rfl⟩|.c5 p=>⟨48,by kernel_rfl,by kernel_rfl⟩) fun(m,n,seen) hp h=>ab7
end Go.Ev.M
