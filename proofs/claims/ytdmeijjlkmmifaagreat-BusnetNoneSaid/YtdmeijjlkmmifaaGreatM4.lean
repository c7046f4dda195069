/-
  PROVED: what functions of the program compute, part 4. Conditions: none.
-/
import Derived.Test.YtdmeijjlkmmifaaGreatM3
set_option linter.unusedVariables false
set_option linter.unusedSimpArgs false
namespace Go.Ev.M
open Go.Proofs
set_option maxRecDepth 100000
open Go.Ev.Pl
noncomputable section
def HY(n:Node)(y:cm):cm:=(n,y.2.1,IntKind.i64.wrap (y.2.2.1+1),y.2.2.2)
def yJ(n:Node)(c:qk)(y:cm):cm:=(n,c,IntKind.i64.wrap (y.2.2.1+1),y.2.2.2.1,y.2.2.2.2.1+1,true,false,y.2.2.2.2.2.2.2)
def Tck(x:Net)(i:Nat)(a:Net):Prop:=
 let o:=iF x.2.1 (aD x i).1
 (o.2.2.2≠0/\a=x)\/(o.2.2.2=0/\(o.2.2.1=false/\(∃d,(-x.2.1.2.2.2.2.1<=d/\d<=x.2.1.2.2.2.2.1)/\r8 (cu x (bq x.2.2.2.2.2.2.1 i (HY o.1))) (vh x (x.2.2.2.2.2.1.2.2+(x.2.1.2.1+d)),2,(i:Int),(aD x i).2.2.2.2.1) a)\/
   o.2.2.1=true/\∃y,o_ (cu x (bq x.2.2.2.2.2.2.1 i (yJ o.1 (x.2.2.2.2.2.1.2.2,(i:Int), [])))) y 3 1/\r8 y (vh y (ovT x.2.1 x.2.2.2.2.2.1.2.2),1,(i:Int),(aD x i).2.2.2.2.1+1) a))
structure Tki(x:Net)(i K:Nat):Prop where
 s:Cb x i K
 k:K+1<=800010
 m:dq x.2.1=true
 w:0<=x.2.2.2.2.2.1.2.2/\x.2.2.2.2.2.1.2.2<=1099511627776
 t:0<=(aD x i).2.2.2.2.1/\(aD x i).2.2.2.2.1<=900000000000
 d:∀v∈x.2.2.1.2.2.2.2.2.1, -x.2.1.2.2.2.2.1<=v/\v<=x.2.1.2.2.2.2.1
 l:x.2.2.1.2.2.2.2.2.1.length<=1000000
variable{K i:Nat}{x:Net}
theorem afH(h:Tki x i K):Qw (x,(i:Int))=true/\Tck x i (Sm (x,(i:Int))).1:=by
 have a:=h.s.i;have hm:=wQ h.m;have X:=h.s.mod (j:=i) (f:=yJ (iF x.2.1 (aD x i).1).1 (x.2.2.2.2.2.1.2.2,(i:Int), []));have Y:=h.s.mod (j:=i) (f:=HY (iF x.2.1 (aD x i).1).1);refine jP (s:=Empty.elim) (t:=abr af x (i:Int)) (P:=λr=>Tck x i r.1) ?_ λr hr=>?_
 ·obtain⟨w1,w2⟩:=z7 h.s.q.made
  have F:af.k gB (x.2.2.2.2.2.1,())=(x.2.2.2.2.2.1,x.2.2.2.2.2.1.2.2):=w2;have S:af.k FW (x.2.1,(af.n bO x.2.2.2.2.2.2.1 (i:Int):cm).1)=iF x.2.1 (aD x i).1:=by rfl
  have V:Ib af x (i:Int)=bq x.2.2.2.2.2.2.1 i (gv (iF x.2.1 (aD x i).1).1):=by rfl
  have en:(af.n bO (Ib af x (i:Int)) (i:Int):cm).2.2.1=(aD x i).2.2.1:=by rw[V,Bn a];rfl
  have J:Ic af x (i:Int)=bq x.2.2.2.2.2.2.1 i (HY (iF x.2.1 (aD x i).1).1):=by
   unfold Ic;rw[V];exact jR.trans (mod_mod a)
  have W:md af bO (md af bO (Mx af x (i:Int)) (i:Int) λ(G:cm)=>wu G true) (i:Int) (λ(H:cm)=>rv H false)=bq x.2.2.2.2.2.2.1 i (yJ (iF x.2.1 (aD x i).1).1 (x.2.2.2.2.2.1.2.2,(i:Int), [])):=by
   unfold Mx;rw[J,F];refine(congrArg (λl=>md af bO l (i:Int) λ(H:cm)=>rv H false) ((congrArg (λl=>md af bO l (i:Int) λ(G:cm)=>wu G true) ((congrArg (λl=>md af bO l (i:Int) λ(e3:cm)=>zt e3 (x.2.2.2.2.2.1.2.2,(i:Int),([]:List Int))) (jR.trans (mod_mod (g:=λQ:cm=>TU Q (af.cB Q.2.2.2.2.1 1)) a))).trans (jR.trans (mod_mod a)))).trans (jR.trans (mod_mod a)))).trans (jR.trans ((mod_mod a).trans ?_));unfold bq;congr 1;show rv (wu (zt (TU (HY (iF x.2.1 (aD x i).1).1 (aD x i)) (af.cB (aD x i).2.2.2.2.1 1)) (x.2.2.2.2.2.1.2.2,(i:Int),([]:List Int))) true) false=yJ _ _ (aD x i);rw[dD (by have:=h.t;omega)];rfl
  obtain⟨d1,C,D⟩:=Xr (s:=x.2.2.1) (n:=x.2.1.1) (k:=(aD x i).2.2.1) (i:=(i:Int)) (d:=x.2.1.2.2.2.2.1) (by omega) h.d h.l;have hw:=h.w;obtain⟨d,I⟩:∃d,af.k zd (x.2.2.1,x.2.1.1,(aD x i).2.2.1,(i:Int))=d:=⟨_,rfl⟩;have C:-x.2.1.2.2.2.2.1<=d:=by rw[<-I];exact C
  have D:d<=x.2.1.2.2.2.2.1:=by rw[<-I];exact D
  have f4:My af x (i:Int)=(cu x (bq x.2.2.2.2.2.2.1 i (HY (iF x.2.1 (aD x i).1).1)),x.2.2.2.2.2.1.2.2+(x.2.1.2.1+d),2,(i:Int)):=by
   unfold My;rw[J,F,en,I,dD (x:=x.2.1.2.1) (by omega),dD (by omega)];rfl
  obtain⟨p1,p2⟩:=CO (x:=cu x (bq x.2.2.2.2.2.2.1 i (HY (iF x.2.1 (aD x i).1).1))) (t:=x.2.2.2.2.2.1.2.2+(x.2.1.2.1+d)) (k:=2) Y.q Y.i (by decide);rw[fE a] at p2;obtain⟨s1,o⟩:=Mb (f:=(iF x.2.1 (aD x i).1).2.1) (c:=(iF x.2.1 (aD x i).1).1.2.2.1) X h.k;have f5:Da af x (i:Int)=(cu x (bq x.2.2.2.2.2.2.1 i (yJ (iF x.2.1 (aD x i).1).1 (x.2.2.2.2.2.1.2.2,(i:Int), []))),(i:Int),(iF x.2.1 (aD x i).1).2.1,(iF x.2.1 (aD x i).1).1.2.2.1):=by
   unfold Da;rw[W,F,S];rfl
  have O:=o.ok X.q.made;have hl:(ze (cu x (bq x.2.2.2.2.2.2.1 i (yJ (iF x.2.1 (aD x i).1).1 (x.2.2.2.2.2.1.2.2,(i:Int), []))),(i:Int),(iF x.2.1 (aD x i).1).2.1,(iF x.2.1 (aD x i).1).1.2.2.1)).1.2.2.2.2.2.2.1.length=(bq x.2.2.2.2.2.2.1 i (yJ (iF x.2.1 (aD x i).1).1 (x.2.2.2.2.2.1.2.2,(i:Int), []))).length:=o.len;have u:=hl.trans bJ;have q:=o.aD i;have A:=o.same;rw[fE a] at q;unfold abr;rw[S,en,f4,J,W,f5];generalize v:(af.k ze (cu x (bq x.2.2.2.2.2.2.1 i (yJ (iF x.2.1 (aD x i).1).1 (x.2.2.2.2.2.1.2.2,(i:Int), []))),(i:Int),(iF x.2.1 (aD x i).1).2.1,(iF x.2.1 (aD x i).1).1.2.2.1)).1=z at *;have o:o_ (cu x (bq x.2.2.2.2.2.2.1 i (yJ (iF x.2.1 (aD x i).1).1 (x.2.2.2.2.2.1.2.2,(i:Int), [])))) z 3 1:=by rw[<-v];exact o
  have O:yH z:=by rw[<-v];exact O
  have u:z.2.2.2.2.2.2.1.length=x.2.2.2.2.2.2.1.length:=by rw[<-v];exact u
  have q:aD z i=yJ (iF x.2.1 (aD x i).1).1 (x.2.2.2.2.2.1.2.2,(i:Int), []) (aD x i):=by rw[<-v];exact q
  have A:z.2.1=x.2.1:=by rw[<-v];exact A.1
  obtain⟨o1,Z⟩:=EB (x:=z) (i:=i) O (by omega) (by rw[A];exact h.m) (by rw[q];show 0<=x.2.2.2.2.2.1.2.2/\x.2.2.2.2.2.1.2.2<=_;omega);rw[q,A] at Z;exact ai (bW (l:=x.2.2.2.2.2.2.1) (by omega)) (dN (λg=>aK (.inl ⟨g,rfl⟩)) λg=>ai d1 (dO (λN=>ai w1 (ai p1 (ai (pN a) (aK (.inr ⟨g,.inl ⟨N,d,⟨C,D⟩,p2⟩⟩))))) λN=>ai w1 (ai s1 (ai (pN a) (ai o1 (ai (eG (i:=i) (by omega)) (aK (.inr ⟨g,.inr ⟨N,z,o,Z⟩⟩))))))))
 ·rcases hr with ⟨_,e⟩|⟨_,⟨_,_,_,p⟩|⟨_,y,e,p⟩⟩
  ·rw[e]
  ·rw[(r8.same p).1];exact bJ
  ·rw[(r8.same p).1,e.len];exact bJ
def Sn1(s:sH)(k:Nat)(x y:Net):Prop:=y=x\/((aD x k).1.2.1=1/\(aD x k).2.2.2.1<=s.1.1/\∃l:List Seen,(∀v∈l,v.1=2->s.1.1<=v.2.1/\v.2.1<af.cB s.1.1 1)/\(lg x.2.1 (aD x k).1 l true).2.2.2=0/\
 ((lg x.2.1 (aD x k).1 l true).2.2.1=false/\y=cu x (bq x.2.2.2.2.2.2.1 k (gv (lg x.2.1 (aD x k).1 l true).1))\/(lg x.2.1 (aD x k).1 l true).2.2.1=true/\Jns x k (lg x.2.1 (aD x k).1 l true).1 (lg x.2.1 (aD x k).1 l true).2.1 y))
def WI(s:sH):Nat->Nat->Net->Net->Prop
 | 0,_,x,x'=>x'=x
 | f+1,k,x,x'=>∃y,Sn1 s k x y/\WI s f (k+1) y x'
structure Sno(x:Net)(k K:Nat):Prop where
 q:yH x
 g:x.2.2.2.2.2.2.1.length<=x.2.2.1.2.2.2.1.length
 c:x.2.2.2.2.2.2.2.1.length<=900000/\x.2.2.2.2.2.2.2.2.1.length<=900000
 t:∀j,k<=j->j<x.2.2.2.2.2.2.1.length->0<=(aD x j).2.2.2.2.1/\(aD x j).2.2.2.2.1<=900000000000
variable{n:Node}
theorem Jns.len{y:Net}{t:Int}(h:Jns x i n t y):y.2.2.2.2.2.2.1.length=x.2.2.2.2.2.2.1.length:=by
 rcases h with rfl|⟨_,p⟩
 ·rfl
 ·rw[(r8.same p).1];exact bJ
variable{s:sH}
theorem Sno.sn1{y:Net}{k:Nat}(h:Sno x k K)(A:k<x.2.2.2.2.2.2.1.length)(p:Sn1 s k x y):Sno y (k+1) K/\y.2.2.2.2.2.2.1.length=x.2.2.2.2.2.2.1.length:=by
 have up:Sno x (k+1) K:=⟨h.q,h.g,h.c,λj g a=>h.t j (by omega) a⟩;have n:∀f j,k+1<=j->j<x.2.2.2.2.2.2.1.length->0<=(aD (cu x (bq x.2.2.2.2.2.2.1 k f)) j).2.2.2.2.1/\(aD (cu x (bq x.2.2.2.2.2.2.1 k f)) j).2.2.2.2.1<=900000000000:=λf j g a=>by
  rw[h_ (by omega)];exact h.t j (by omega) a
 rcases p with rfl|⟨_,_,l,_,_,⟨_,rfl⟩|⟨_,rfl|⟨_,p⟩⟩⟩
 ·exact⟨up,rfl⟩
 ·refine⟨⟨⟨h.q.made,h.q.len,h.q.heap⟩,by show(bq _ _ _).length<=_;rw[bJ];exact h.g,h.c,λj g a=>n _ j g (by have a:j<(bq _ _ _).length:=a;rwa [bJ] at a)⟩,bJ⟩
 ·exact⟨up,rfl⟩
 ·obtain⟨o,C,q,D,r,_,u,v,z⟩:=r8.same p
  have e:y.2.2.2.2.2.2.1.length=x.2.2.2.2.2.2.1.length:=by rw[o];exact bJ
  refine⟨⟨⟨r.trans h.q.made,v,z⟩,by rw[e,q];exact h.g,by rw[u];exact h.c,λj g a=>?_⟩,e⟩;rw[r8.aD p];exact n _ j g (by omega)
theorem ald{n:Nat}:∀(f k:Nat) (x:Net),n-k<=f->k<=n->x.2.2.2.2.2.2.1.length=n->n<=1000->Sno x k K->Go (L6 af) (L6 af (.c0 ⟨(n:Int),s.1.1,s.1.2,s.2⟩ (k:Int) x)) λr=>WI s (n-k) k x r.1:=by
 have p:∀(k:Nat) (x:Net),¬k<n->k<=n->Go (L6 af) (L6 af (.c0 ⟨(n:Int),s.1.1,s.1.2,s.2⟩ (k:Int) x)) λr=>WI s (n-k) k x r.1:=λk x u hn=>by
  refine cJ (λg=>absurd g (by show ¬(k:Int)<(n:Int);omega)) λ_=>aK ?_;rw[show n-k=0 from by omega];rfl
 intro f
 induction f with
 | zero=>intro k x O u _ _ _;exact p k x (by omega) u
 | succ f ih=>
   intro k x O u hl N h;by_cases g:k<n
   ·have j:k<x.2.2.2.2.2.2.1.length:=by omega
    have hc:=h.c;have C:∀y,Sn1 s k x y->Go (L6 af) (.ao (.c0 ⟨(n:Int),s.1.1,s.1.2,s.2⟩ (af.cB (k:Int) 1) y)) λr=>WI s (n-k) k x r.1:=λy q=>by
     obtain⟨s1,s2⟩:=h.sn1 j q;rw[dD (by omega),show(k:Int)+1=((k+1:Nat):Int) from by omega,show n-k=(n-(k+1))+1 from by omega];exact aY ((ih (k+1) y (by omega) (by omega) (by omega) N s1).mono λr P=>⟨y,q,P⟩)
    obtain⟨Q,S,V⟩:=A_ (l:=x.2.2.2.2.2.2.2.1) (a:=(s.1.1,s.1.2)) (w:=(s.1.1,af.cB s.1.1 1)) (th:=(af.n yI x.2.2.1.2.2.2.1 (k:Int):Int)) (by omega);obtain⟨W,X,Y⟩:=A_ (l:=x.2.2.2.2.2.2.2.2.1) (a:=(s.1.1,s.1.2)) (w:=(s.1.1,af.cB s.1.1 1)) (th:=(af.n yI x.2.2.1.2.2.2.1 (k:Int):Int)) (by omega);have D:(af.k mP (uL af ⟨(n:Int),s.1.1,s.1.2,s.2⟩ (k:Int) x)).1=x.2.2.2.2.2.2.2.1:=S;have F:(af.k mP (wo af ⟨(n:Int),s.1.1,s.1.2,s.2⟩ (k:Int) x)).1=x.2.2.2.2.2.2.2.2.1:=X;have A:∀v∈(af.p ([(af.k mP (uL af ⟨(n:Int),s.1.1,s.1.2,s.2⟩ (k:Int) x)).2]:List Seen) ([(af.k mP (wo af ⟨(n:Int),s.1.1,s.1.2,s.2⟩ (k:Int) x)).2]:List Seen)),v.1=2->s.1.1<=v.2.1/\v.2.1<af.cB s.1.1 1:=λv o=>by
     have o:v∈ [(mP (uL af ⟨(n:Int),s.1.1,s.1.2,s.2⟩ (k:Int) x)).2] ++ [(mP (wo af ⟨(n:Int),s.1.1,s.1.2,s.2⟩ (k:Int) x)).2]:=o;rcases oJ.1 o with o|o
     ·rw[aJ.1 o];exact V
     ·rw[aJ.1 o];exact Y
    have G:(af.n bO x.2.2.2.2.2.2.1 (k:Int):cm)=aD x k:=qQ;generalize z:af.p ([(af.k mP (uL af ⟨(n:Int),s.1.1,s.1.2,s.2⟩ (k:Int) x)).2]:List Seen) ([(af.k mP (wo af ⟨(n:Int),s.1.1,s.1.2,s.2⟩ (k:Int) x)).2]:List Seen)=L at A;have eh:af.k X0 (x.2.1,(aD x k).1,L)=lg x.2.1 (aD x k).1 L true:=rfl;have H:wm af ⟨(n:Int),s.1.1,s.1.2,s.2⟩ (k:Int) x=lg x.2.1 (aD x k).1 L true:=by
     unfold wm;rw[z,G];rfl
    have I:H_ af ⟨(n:Int),s.1.1,s.1.2,s.2⟩ (k:Int) x=x:=by
     unfold H_;rw[D,F]
    obtain⟨Z,q2⟩:=YU (n:=(lg x.2.1 (aD x k).1 L true).1) (t:=(lg x.2.1 (aD x k).1 L true).2.1) h.q j (h.t k (ah _) j);have e:=C x (.inl rfl);refine cJ (λ_=>ai (bW (l:=x.2.2.2.2.2.2.1) (by omega)) ?_) λJ=>absurd J (by show ¬(n:Int)<=(k:Int);omega);dsimp only;rw[H,I,D,F,G,z];refine dN (λ_=>e) λa=>pL (λ_=>e) λb=>dC (λ_=>e) λ_=>ai (bW (l:=x.2.2.1.2.2.2.1) (by have:=h.g;omega)) (ai Q (ai (vc (by show(1:Int)<=_;omega)) (ai W (ai (by rw[<-z];exact vc (by show(2:Int)<=_;omega)) (dN (λ_=>e) λc=>dO (λd=>?_) λd=>ai Z (ai (eG j) (C _ (.inr ⟨a,b,L,A,c,.inr ⟨d,q2⟩⟩))))))));rw[show af.set x.2.2.2.2.2.2.1 (k:Int) ((lg x.2.1 (aD x k).1 L true).1,(aD x k).2)=bq x.2.2.2.2.2.2.1 k (gv (lg x.2.1 (aD x k).1 L true).1) from BA];exact C (cu x (bq x.2.2.2.2.2.2.1 k (gv (lg x.2.1 (aD x k).1 L true).1))) (.inr ⟨a,b,L,A,c,.inl ⟨d,rfl⟩⟩)
   ·exact p k x g u
theorem WI.len{s:sH}{K:Nat}:∀{f k:Nat} {x y:Net},WI s f k x y->Sno x k K->k+f<=x.2.2.2.2.2.2.1.length->y.2.2.2.2.2.2.1.length=x.2.2.2.2.2.2.1.length
 | 0,_,_,_,h,_,_=>by rw[h]
 | f+1,k,x,_,h,hs,hk=>by
   obtain⟨z,a,e⟩:=h;obtain⟨g,j⟩:=hs.sn1 (by omega) a;rw[WI.len e g (by omega)];exact j
theorem aax{j:Nat}(f:(af.n Jq x.2.2.2.2.2.2.2.2.2.1 (j:Int):sH)=s)(h:Sno x 0 K)(g:j<x.2.2.2.2.2.2.2.2.2.1.length)(a:x.2.2.2.2.2.2.1.length<=1000):Qu (x,(j:Int))=true/\WI s x.2.2.2.2.2.2.1.length 0 x (Sk (x,(j:Int))).1:=by
 refine jP (s:=L6 af) (t:=abo af x (j:Int)) (P:=λr=>WI s x.2.2.2.2.2.2.1.length 0 x r.1) ?_ λr e=>e.len h (by omega);unfold abo;rw[f];exact ai (bW (l:=x.2.2.2.2.2.2.2.2.2.1) (by omega)) (aY (ald (s:=s) (n:=x.2.2.2.2.2.2.1.length) _ 0 x (ah _) (aX _) rfl a h))
theorem Qk(h:yH x)(a:i<x.2.2.2.2.2.2.1.length)(f:dq x.2.1=true)(j:0<=(aD x i).2.2.2.2.1/\(aD x i).2.2.2.2.1<=900000000000)(l:0<=x.2.2.2.2.2.1.2.2/\x.2.2.2.2.2.1.2.2<=2199023255552):Qx (x,(i:Int))=true/\Pwr x i true (Sn (x,(i:Int))).1:=by
 obtain⟨p1,p2⟩:=GK (on:=true) h a f j l;refine jP (s:=Empty.elim) (t:=abt af x (i:Int)) (P:=λr=>Pwr x i true r.1) ?_ λr g=>?_
 ·unfold abt
  exact ai p1 (ai (eG a) (aK p2))
 ·rcases g with ⟨_,e⟩|⟨_,⟨_,e⟩|⟨_,e⟩⟩
  ·rw[e]
  ·simp_all
  ·rw[e.len];exact bJ
def tg(x:Net)(l:List jc)(t:Int):Net:=(x.1,x.2.1,x.2.2.1,x.2.2.2.1,x.2.2.2.2.1,(x.2.2.2.2.2.1.1,l,t),x.2.2.2.2.2.2)
def Act(e:jc)(x a:Net):Prop:=
 (e.2.1=3/\WI (af.n Jq x.2.2.2.2.2.2.2.2.2.1 e.2.2.2:sH) x.2.2.2.2.2.2.1.length 0 x a)\/
 (e.2.1≠3/\(((aD x e.2.2.1.toNat).2.2.2.2.1≠e.2.2.2\/(aD x e.2.2.1.toNat).2.2.2.2.2.2.2=true)/\a=x\/
   (aD x e.2.2.1.toNat).2.2.2.2.1=e.2.2.2/\(aD x e.2.2.1.toNat).2.2.2.2.2.2.2=false/\
     (e.2.1=1/\Evl x e.2.2.1.toNat a\/e.2.1=2/\Tck x e.2.2.1.toNat a\/e.2.1=5/\Pwr x e.2.2.1.toNat true a\/e.2.1≠1/\e.2.1≠2/\e.2.1≠5/\Bgn x e.2.2.1.toNat a)))
def Stp(x a:Net):Prop:=
 x.2.2.2.2.2.1.2.1=[]/\a=x\/∃e l,(e::l).Perm x.2.2.2.2.2.1.2.1/\Ku l/\(∀y∈x.2.2.2.2.2.1.2.1,e.1<=y.1)/\Act e (tg x l e.1) a
structure Aci(e:jc)(x:Net)(K:Nat):Prop where
 n:x.2.2.2.2.2.2.1.length<=1000
 p:0<x.2.2.2.2.2.2.1.length
 s:e.2.1=3->Sno x 0 K/\∃j:Nat,e.2.2.2=(j:Int)/\j<x.2.2.2.2.2.2.2.2.2.1.length
 i:e.2.1≠3->∃i:Nat,e.2.2.1=(i:Int)/\i<x.2.2.2.2.2.2.1.length/\Evi x i K/\Tki x i K/\Bgi x i K
theorem alq(h:yH x)(Y:∀e l,(e::l).Perm x.2.2.2.2.2.1.2.1->Ku l->(∀y∈x.2.2.2.2.2.1.2.1,e.1<=y.1)->Aci e (tg x l e.1) K):CH (x,())=true/\Stp x (sQ (x,())).1:=by
 suffices O:CH (x,())=true/\(Stp x (sQ (x,())).1/\(sQ (x,())).1.2.2.2.2.2.2.1.length=x.2.2.2.2.2.2.1.length) from⟨O.1,O.2.1⟩
 refine jP (s:=Empty.elim) (t:=abl af x) (P:=λr=>Stp x r.1/\r.1.2.2.2.2.2.2.1.length=x.2.2.2.2.2.2.1.length) ?_ λr F=>F.2;obtain⟨p1,p2⟩:=akJ h.made h.len h.heap;obtain⟨⟨V,e,W⟩,F⟩:∃r,za (x.2.2.2.2.2.1,())=r:=⟨_,rfl⟩;have D:nq af x=(V,e,W):=F;rw[F] at p2;unfold abl;refine ai p1 ?_;rcases p2 with ⟨a,b,c⟩|⟨b,l,c,S,N,Q⟩
 ·have J:qM af x=(x,()):=by
   unfold qM;simp_all
  rw[J,D];exact dN (λ_=>aK ⟨.inl ⟨a,rfl⟩,rfl⟩) λg=>absurd g b
 ·have c:V=(x.2.2.2.2.2.1.1,l,e.1):=c
  subst c b;have C:=Y e l S N Q;have done:∀y,Act e (tg x l e.1) y->y.2.2.2.2.2.2.1.length=x.2.2.2.2.2.2.1.length->Stp x y/\y.2.2.2.2.2.2.1.length=x.2.2.2.2.2.2.1.length:=λy a b=>⟨.inr ⟨e,l,S,N,Q,a⟩,b⟩;have J:qM af x=(tg x l e.1,()):=by unfold qM;rw[D];rfl
  have u3:uK af x=(tg x l e.1,e.2.2.1):=by unfold uK;rw[D];rfl
  have hn:0<x.2.2.2.2.2.2.1.length:=C.p;have A:(af.cr (af.l x.2.2.2.2.2.2.1) 0)=true:=eG (i:=0) hn;unfold H9 H8 C_ C9;rw[J,u3,D];refine dN (λg=>absurd rfl g) λ_=>dC (λg=>?_) λg=>?_
  ·obtain⟨s1,j,v,I⟩:=C.s g
   obtain⟨f,n⟩:=aax (s:=(af.n Jq x.2.2.2.2.2.2.2.2.2.1 (j:Int):sH)) (x:=tg x l e.1) rfl s1 I C.n;have p:=u9.1 (of_decide_eq_true ((fQ _ _).mp f).2);rw[<-v] at f n p;exact ai f (ai A (aK (done _ (.inl ⟨g,n⟩) p)))
  ·obtain⟨i,v,I,v1,v2,z⟩:=C.i g
   have H:e.2.2.1.toNat=i:=by omega
   have X:(af.n bO x.2.2.2.2.2.2.1 e.2.2.1:cm)=aD (tg x l e.1) i:=by rw[v];rfl
   have G:af.and (af.bU 0 e.2.2.1) (af.bD e.2.2.1 (af.l x.2.2.2.2.2.2.1))=true:=bW (l:=x.2.2.2.2.2.2.1) (by have:i<x.2.2.2.2.2.2.1.length:=I;omega);have u:((aD (tg x l e.1) i).2.2.2.2.1≠e.2.2.2\/(aD (tg x l e.1) i).2.2.2.2.2.2.2=true)->Go Empty.elim (.ret (tg x l e.1,())) λr=>Stp x r.1/\r.1.2.2.2.2.2.2.1.length=x.2.2.2.2.2.2.1.length:=λo=>aK (done _ (.inr ⟨g,.inl ⟨by grind,rfl⟩⟩) rfl);have q:∀y,y.2.2.2.2.2.2.1.length=x.2.2.2.2.2.2.1.length->(aD (tg x l e.1) i).2.2.2.2.1=e.2.2.2->(aD (tg x l e.1) i).2.2.2.2.2.2.2=false->(e.2.1=1/\Evl (tg x l e.1) i y\/e.2.1=2/\Tck (tg x l e.1) i y\/e.2.1=5/\Pwr (tg x l e.1) i true y\/e.2.1≠1/\e.2.1≠2/\e.2.1≠5/\Bgn (tg x l e.1) i y)->Go Empty.elim (.ret (y,())) λr=>Stp x r.1/\r.1.2.2.2.2.2.2.1.length=x.2.2.2.2.2.2.1.length:=λy Z a b o=>aK (done y (.inr ⟨g,.inr ⟨by rw[H];exact a,by rw[H];exact b,by rw[H];exact o⟩⟩) Z);rw[X];refine dC (λk=>?_) λk1=>dC (λk=>?_) λk2=>dC (λk=>?_) λk3=>?_
   ·obtain⟨f,n⟩:=adC v1
    have p:=u9.1 (of_decide_eq_true ((fQ _ _).mp f).2);rw[<-v] at f n p;exact ai G (dC (λa=>dO (λb=>ai f (ai A (q _ p a b (.inl ⟨k,n⟩)))) λb=>u (.inr b)) λa=>u (.inl a))
   ·obtain⟨f,n⟩:=afH v2
    have p:=u9.1 (of_decide_eq_true ((fQ _ _).mp f).2);rw[<-v] at f n p;exact ai G (dC (λa=>dO (λb=>ai f (ai A (q _ p a b (.inr (.inl ⟨k,n⟩))))) λb=>u (.inr b)) λa=>u (.inl a))
   ·obtain⟨f,n⟩:=Qk z.q z.lt z.m z.t z.w
    have p:=u9.1 (of_decide_eq_true ((fQ _ _).mp f).2);rw[<-v] at f n p;exact ai G (dC (λa=>dO (λb=>ai f (ai A (q _ p a b (.inr (.inr (.inl ⟨k,n⟩)))))) λb=>u (.inr b)) λa=>u (.inl a))
   ·obtain⟨f,n⟩:=W0 z
    have p:=u9.1 (of_decide_eq_true ((fQ _ _).mp f).2);rw[<-v] at f n p;exact ai G (dC (λa=>dO (λb=>ai f (ai A (q _ p a b (.inr (.inr (.inr ⟨k1,k2,k3,n⟩)))))) λb=>u (.inr b)) λa=>u (.inl a))
variable{m:ax}
theorem Lx{on:Bool}(h:(jv m n on).2=0):(jv m n on).1.1=n.1:=by
 unfold jv at h ⊢;by_cases a:cZ m n=0
 ·rw[da a,cond_true] at h ⊢
  cases on
  ·unfold rK at h ⊢
   grind
  grind
 simp_all
variable{r:jm×Int}
theorem Lf(h:(zT n r).2=0):(zT n r).1.1=n.1:=by
 unfold zT at h ⊢
 grind
variable{o:dL}
theorem aj0(h:(yM m n o).2=0):(yM m n o).1.1=n.1:=by
 unfold yM at h ⊢;by_cases a:cZ m n=0
 ·rw[da a,cond_true] at h ⊢
  cases hd:decide (1<=o.2.2.2.1/\o.2.2.2.1<=3)
  ·simp_all
  rw[hd,cond_true] at h;cases hi:kM n
  ·rfl
  rw[hi,cond_true] at h;cases h1:decide (o.2.2.2.1=1)
  ·rw[h1,cond_false] at h
   cases h2:decide (o.2.2.2.1=2)
   ·rw[h2,cond_false] at h;exact Lf h
   ·rw[h2,cond_true] at h;exact Lf h
  ·rw[h1,cond_true] at h;exact Lf h
 simp_all
theorem XA(h:(jq m n).2=0):(jq m n).1.1=n.1:=by
 unfold jq at h ⊢
 grind
theorem abP(h:(iF m n).2.2.2=0):(iF m n).1.1=n.1:=by
 unfold iF at h ⊢;by_cases a:cZ m n=0
 ·rw[da a,cond_true] at h ⊢
  cases hd:decide (n.2.1=1)
  ·simp_all
  ·rw[cond_true]
   cases decide (0<n.2.2.2.2.1-1)
   ·rw[cond_false];cases (af.n .bool m.2.2.2.2.2.2.1 n.1:Bool)<;>rfl
   ·rfl
 simp_all
theorem akB:(z8 n).1=n.1:=by unfold z8;grind
theorem aia{o:qf}:(Pk m n o).1=n.1:=by
 unfold Pk;rw[akB];cases decide (o.1=3)<;>rfl
variable{a:List Seen}
theorem akz(h:(oh m n a).2.2=0):(oh m n a).1.1=n.1:=by
 unfold oh at h ⊢;by_cases e:cZ m n=0
 ·rw[da e,cond_true] at h ⊢
  cases hi:kM n&&decide (¬n.2.2.1.2.1=n.1)
  ·grind
  ·rw[hi,cond_true] at h
   by_cases f:(BE n a).2=0
   ·rw[da f,cond_true];exact aia
   simp_all
 simp_all
theorem aeZ:(D2 m n).1.1=n.1:=by
 unfold D2;cases decide ((qi n).2=2)
 ·cases decide ((qi n).2=3)
  ·cases decide ((qi n).2=4)<;>rfl
  ·rfl
 ·rfl
theorem agu(h:(re m n).2.2.2=0):(re m n).1.1=n.1:=by
 unfold re at h ⊢;by_cases a:cZ m n=0
 ·rw[da a,cond_true] at h ⊢
  cases hi:kM n&&decide (n.2.2.1.2.1=n.1)
  ·simp_all
  ·exact aeZ
 simp_all
theorem YH{e:Bool}(h:(lg m n a e).2.2.2=0):(lg m n a e).1.1=n.1:=by
 unfold lg at h ⊢;by_cases f:cZ m n=0
 ·rw[da f,cond_true] at h ⊢
  cases h1:decide (n.2.1=1)
  ·simp_all
  cases h2:decide ((a.length:Int)=2)
  ·simp_all
  cases (iY m.1 a).2.2
  ·rfl
  cases decide ((iY m.1 a).1.1=1)
  ·cases SU m n (iY m.1 a).1<;>rfl
  cases decide ((iY m.1 a).1.2.2.2.1=n.1)
  ·cases (e && !n.2.2.2.2.2.1)<;>rfl
  ·rfl
 simp_all
theorem OS{c:fB}{r:Int}:(qa m c r).2.1=c.2.1:=by
 unfold qa;by_cases h:(Em m c r).2=0
 ·rw[da h,cond_true]
  unfold Em at h ⊢
  grind
 simp_all
theorem ajz(h:cZ m n=0)(a:kM n=true):(jq m n).2=0/\(jq m n).1.2.1=n.2.1/\(jq m n).1.2.2.1.2.1=if n.2.2.1.2.1+1=m.1 then 0 else n.2.2.1.2.1+1:=by
 have e:=step_ok h a;unfold jq;have f:(p_ n.2.2.1 m.1).1.2.1=if n.2.2.1.2.1+1=m.1 then 0 else n.2.2.1.2.1+1:=by
  unfold p_ at e ⊢
  grind
 grind
theorem ZH{n:Node}:(z8 n).2.2=n.2.2/\((z8 n).2.1=n.2.1\/n.2.1=4/\(z8 n).2.1=3):=by
 unfold z8
 grind
variable{l:List Seen}
theorem akA(h:(oh m n l).2.2=0):kM n=true/\(oh m n l).1.2.2.1.2.1=n.2.2.1.2.1/\((oh m n l).1.2.1=n.2.1\/n.2.1=4/\(oh m n l).1.2.1=3):=by
 unfold oh at h ⊢;by_cases e:cZ m n=0
 ·rw[da e,cond_true] at h ⊢
  cases hi:kM n&&decide (¬n.2.2.1.2.1=n.1)
  ·grind
  ·rw[hi,cond_true] at h
   by_cases f:(BE n l).2=0
   ·rw[da f,cond_true]
    refine⟨((fQ _ _).mp hi).1,?_⟩;unfold Pk;cases decide ((Bd m n (BE n l).1).1=3)
    ·obtain⟨a,b⟩:=@ZH (Jp n (Nb n (Bd m n (BE n l).1)))
     exact⟨(congrArg (λz=>z.1.2.1) a),b⟩
    ·obtain⟨a,b⟩:=@ZH (JB m (Jp n (Nb n (Bd m n (BE n l).1))) (Bd m n (BE n l).1).2.2.2.1)
     exact⟨(congrArg (λz=>z.1.2.1) a).trans OS,b⟩
   simp_all
 simp_all
theorem aoI(h:(re m n).2.2.2=0):((re m n).2.2.1=true->(re m n).1.2.1=4/\(re m n).1.2.2.1.2.1=n.2.2.1.2.1)/\((re m n).2.2.1=false->(re m n).1.2.1=1\/(re m n).1.2.1=5):=by
 unfold re at h ⊢;by_cases a:cZ m n=0
 ·rw[da a,cond_true] at h ⊢
  cases hi:kM n&&decide (n.2.2.1.2.1=n.1)
  ·simp_all
  ·rw[cond_true]
   unfold D2;cases decide ((qi n).2=2)
   ·cases decide ((qi n).2=3)
    ·cases decide ((qi n).2=4)
     ·exact⟨λ_=>⟨rfl,OS⟩,nofun⟩
     ·exact⟨nofun,λ_=>.inl rfl⟩
    ·exact⟨nofun,λ_=>.inl rfl⟩
   ·exact⟨nofun,λ_=>.inr rfl⟩
 simp_all
theorem aeh(h:cZ m n=0)(a:kM n=true)(e:n.2.2.1.2.1=n.1):(re m n).2.2.2=0:=by
 unfold re;rw[da h,cond_true,a,da e];unfold D2;cases decide ((qi n).2=2)
 ·cases decide ((qi n).2=3)
  ·cases decide ((qi n).2=4)<;>rfl
  ·rfl
 ·rfl
theorem abQ(h:(iF m n).2.2.2=0):n.2.1=1/\((iF m n).2.2.1=false->(iF m n).1.2.1=1)/\((iF m n).2.2.1=true->(iF m n).1.2.1=2/\(iF m n).1.2.2.1.2.1=n.1):=by
 unfold iF at h ⊢;by_cases a:cZ m n=0
 ·rw[da a,cond_true] at h ⊢
  cases hd:decide (n.2.1=1)
  ·simp_all
  ·have e:=of_decide_eq_true hd
   cases decide (0<n.2.2.2.2.1-1)
   ·rw[cond_false]
    cases (af.n .bool m.2.2.2.2.2.2.1 n.1:Bool)
    all_goals simp_all
   simp_all
 simp_all
theorem abO(h:cZ m n=0)(a:n.2.1=1):(iF m n).2.2.2=0:=by
 unfold iF;rw[da h,cond_true,da a,cond_true];cases decide (0<n.2.2.2.2.1-1)
 ·rw[cond_false];cases (af.n .bool m.2.2.2.2.2.2.1 n.1:Bool)<;>rfl
 ·rfl
theorem Qj{on:Bool}(h:(jv m n on).2=0):(on=true->n.2.1=0/\(jv m n on).1.2.1=1)/\(on=false->(jv m n on).1.2.1=0):=by
 unfold jv at h ⊢;by_cases a:cZ m n=0
 ·rw[da a,cond_true] at h ⊢
  cases on
  ·refine⟨nofun,λ_=>?_⟩
   unfold rK at h ⊢
   grind
  grind
 simp_all
theorem Lg(h:(zT n r).2=0):(zT n r).1.2.1=n.2.1/\(zT n r).1.2.2.1=n.2.2.1:=by
 unfold zT at h ⊢
 grind
theorem aj1(h:(yM m n o).2=0):(yM m n o).1.2.1=n.2.1/\(yM m n o).1.2.2.1=n.2.2.1:=by
 unfold yM at h ⊢;by_cases a:cZ m n=0
 ·rw[da a,cond_true] at h ⊢
  cases hd:decide (1<=o.2.2.2.1/\o.2.2.2.1<=3)
  ·simp_all
  rw[hd,cond_true] at h;cases hi:kM n
  ·simp_all
  rw[hi,cond_true] at h;cases h1:decide (o.2.2.2.1=1)
  ·rw[h1,cond_false] at h
   cases h2:decide (o.2.2.2.1=2)
   ·rw[h2,cond_false] at h;exact Lg h
   ·rw[h2,cond_true] at h;exact Lg h
  ·rw[h1,cond_true] at h;exact Lg h
 simp_all
theorem ajC{n:Int}(h:(iY n l).2.2=true):∃v∈l,(iY n l).2.1=v.2.1/\Cv n v=true:=by
 induction l with
 | nil=>exact absurd h (by simp[iY])
 | cons s l ih=>
   rw[iY] at h ⊢
   grind
theorem ajY{a:Bool}(h:(lg m n l a).2.2.2=0):n.2.1=1/\((lg m n l a).2.2.1=false->(lg m n l a).1.2.1=1)/\((lg m n l a).2.2.1=true->(lg m n l a).1.2.1=3/\∃v∈l,(lg m n l a).2.1=v.2.1/\Cv m.1 v=true):=by
 unfold lg at h ⊢;by_cases f:cZ m n=0
 ·rw[da f,cond_true] at h ⊢
  cases h1:decide (n.2.1=1)
  ·simp_all
  have g:=of_decide_eq_true h1;refine⟨g,?_⟩;cases h2:decide ((l.length:Int)=2)
  ·simp_all
  cases h3:(iY m.1 l).2.2
  ·simp_all
  have e:=ajC h3;cases decide ((iY m.1 l).1.1=1)
  ·cases SU m n (iY m.1 l).1
   ·simp_all
   ·exact⟨nofun,λ_=>⟨rfl,e⟩⟩
  cases decide ((iY m.1 l).1.2.2.2.1=n.1)
  ·cases (a && !n.2.2.2.2.2.1)
   ·exact⟨nofun,λ_=>⟨rfl,e⟩⟩
   simp_all
  simp_all
 simp_all
structure Mc where
 (n S G W D L E:Int)
structure yF(c:Mc):Prop where
 n:c.n=4\/c.n=5\/c.n=6\/c.n=7\/c.n=8
 D:0<=c.D/\c.D<=64
 L:0<=c.L/\c.L<=64
 W:16*c.n*c.D+16<=c.W
 G:2*c.W+2*c.L+4<=c.G
 S:2*c.G+30<=c.S
namespace Mc
variable (c:Mc)
def k(i:Nat):Int:=if i=0 then 17 else 13
def w(i:Nat):Int:=if i=0 then c.W else 0
theorem kw(i:Nat):(i=0/\k i=17/\c.w i=c.W)\/(i≠0/\k i=13/\c.w i=0):=by
 unfold k w;split<;>omega
def M:Int:=c.n*c.S
def bs(t:Int):Int:=c.n*(c.E+2*c.S-t)
def U:Int:=c.n*(c.S-c.D)-c.W
def R:Int:=(c.n-1)*(c.n*c.S+(c.n+1)*c.D)
def VA(i:Nat)(a om:Int):Int:=k i*(c.bs a+om)
def O0(i:Nat)(a om:Int)(b:Bool):Int:=max 0 (k i*(c.bs a+om-c.U))+c.M+(bif b then c.R else 0)
def VP(i:Nat)(a q:Int):Int:=k i*(c.bs a-c.n*(if q=0 then c.W-c.w i else 0))
def O1(i:Nat)(a:Int):Int:=max 0 (k i*(c.bs a-c.n*(c.S-c.D-c.w i)))+c.M
def VL(i:Nat)(t:Int):Int:=max (max 0 (k i*(c.bs t+c.n*(c.G+c.L)-c.n*(c.S-c.D-c.w i)))+2*c.M) (max 0 (k i*(c.bs t-c.n*(c.S-c.D-c.w i)))+3*c.M)+(c.n+1)*c.D
def tT(e t:Int):Int:=(c.n+1)*max (e-t) 0
end Mc
variable{a d q st t:Int}
section
variable {c:Mc} (h:yF c) {i:Nat}
include h
theorem yF.a1{om:Int}{b:Bool}(v:a<=c.E)(u:0<=om):3*c.M+c.O0 i a om b<=c.VA i a om:=by
 obtain⟨j,l,p,r,o,q⟩:=h;have kw:=c.kw i;obtain⟨n,S,G,W,D,L,E⟩:=c;simp only[Mc.VA,Mc.O0,Mc.M,Mc.bs,Mc.U,Mc.R] at *;cases b<;>simp only[cond_true,cond_false]<;>rcases kw with ⟨g,e,f⟩|⟨g,e,f⟩<;>rw[e]<;>(try rw[f])<;>rcases j with rfl|rfl|rfl|rfl|rfl<;>omega
theorem yF.a2{f om e:Int}{b:Bool}(z:a<=c.E)(y:om=c.W*(c.n-1)/\e=0/\f+c.S-c.D-c.W<=a\/e=om+c.W/\0<=om/\f+c.S-c.D<=a):c.M+(bif b then c.R else 0)+c.VA i a e<=c.O0 i f om b:=by
 obtain⟨o,p,r,v,q,u⟩:=h;have kw:=c.kw i;obtain⟨n,S,G,W,D,L,E⟩:=c;simp only[Mc.VA,Mc.O0,Mc.M,Mc.bs,Mc.U] at *;rcases kw with ⟨l,g,j⟩|⟨l,g,j⟩<;>rw[g]<;>(try rw[j])<;>rcases o with rfl|rfl|rfl|rfl|rfl<;>omega
theorem yF.pa{om:Int}(u:0<=om):c.VP i st q<=c.VA i st om:=by
 obtain⟨g,j,o,r,l,p⟩:=h;have kw:=c.kw i;obtain⟨n,S,G,W,D,L,E⟩:=c;simp only[Mc.VA,Mc.VP,Mc.bs] at *;rcases kw with ⟨f,a,e⟩|⟨f,a,e⟩<;>rw[a]<;>(try rw[e])<;>rcases g with rfl|rfl|rfl|rfl|rfl<;>split<;>omega
theorem yF.p1(u:st<=c.E):3*c.M+c.O1 i st<=c.VP i st q:=by
 obtain⟨g,j,o,r,l,p⟩:=h;have kw:=c.kw i;obtain⟨n,S,G,W,D,L,E⟩:=c;simp only[Mc.O1,Mc.VP,Mc.M,Mc.bs] at *;rcases kw with ⟨f,a,e⟩|⟨f,a,e⟩<;>rw[a]<;>(try rw[e])<;>rcases g with rfl|rfl|rfl|rfl|rfl<;>split<;>omega
theorem yF.p2(y:a<=c.E)(v:q=0/\st+c.S-c.D-c.W<=a\/q≠0/\st+c.S-c.D<=a):c.M+c.VP i a q<=c.O1 i st:=by
 obtain⟨j,l,p,u,o,r⟩:=h;have kw:=c.kw i;obtain⟨n,S,G,W,D,L,E⟩:=c;simp only[Mc.O1,Mc.VP,Mc.M,Mc.bs] at *;rcases kw with ⟨g,e,f⟩|⟨g,e,f⟩<;>rw[e]<;>(try rw[f])<;>rcases j with rfl|rfl|rfl|rfl|rfl<;>split<;>omega
theorem yF.p3(u:a<=c.E)(v:a<=t):2*c.M+c.VL i t<=c.VP i a i:=by
 obtain⟨j,l,p,r,o,q⟩:=h;have kw:=c.kw i;obtain⟨n,S,G,W,D,L,E⟩:=c;simp only[Mc.VL,Mc.VP,Mc.M,Mc.bs] at *;rcases kw with ⟨g,e,f⟩|⟨g,e,f⟩<;>rw[e]<;>(try rw[f])<;>rcases j with rfl|rfl|rfl|rfl|rfl<;>split<;>omega
theorem yF.p4(v:a<=c.E)(y:a<=t):c.VL i t<=c.VP i a q:=by
 obtain⟨j,l,p,u,o,r⟩:=h;have kw:=c.kw i;obtain⟨n,S,G,W,D,L,E⟩:=c;simp only[Mc.VL,Mc.VP,Mc.M,Mc.bs] at *;rcases kw with ⟨g,e,f⟩|⟨g,e,f⟩<;>rw[e]<;>(try rw[f])<;>rcases j with rfl|rfl|rfl|rfl|rfl<;>split<;>omega
theorem yF.p5{om:Int}(v:a<=c.E)(u:0<=om/\om<=c.W*(c.n-1)):3*c.M+c.O0 i a om false<=c.VP i a i:=by
 obtain⟨j,l,p,r,o,q⟩:=h;have kw:=c.kw i;obtain⟨n,S,G,W,D,L,E⟩:=c;simp only[Mc.O0,Mc.VP,Mc.M,Mc.bs,Mc.U,cond_false] at *;rcases kw with ⟨g,e,f⟩|⟨g,e,f⟩<;>rw[e]<;>(try rw[f])<;>rcases j with rfl|rfl|rfl|rfl|rfl<;>split<;>omega
theorem yF.l1(r:t-(c.G+c.L)<=st):c.M+c.O1 i st+(c.n+1)*c.D<=c.VL i t:=by
 obtain⟨g,j,o,q,l,p⟩:=h;have kw:=c.kw i;obtain⟨n,S,G,W,D,L,E⟩:=c;simp only[Mc.VL,Mc.O1,Mc.M,Mc.bs] at *;rcases kw with ⟨f,a,e⟩|⟨f,a,e⟩<;>rw[a]<;>(try rw[e])<;>rcases g with rfl|rfl|rfl|rfl|rfl<;>omega
theorem yF.l2{f:Int}(u:t<=f):2*c.M+c.O1 i f+(c.n+1)*c.D<=c.VL i t:=by
 obtain⟨j,l,p,r,o,q⟩:=h;have kw:=c.kw i;obtain⟨n,S,G,W,D,L,E⟩:=c;simp only[Mc.VL,Mc.O1,Mc.M,Mc.bs] at *;rcases kw with ⟨g,a,e⟩|⟨g,a,e⟩<;>rw[a]<;>(try rw[e])<;>rcases j with rfl|rfl|rfl|rfl|rfl<;>omega
theorem yF.l3{e:Int}(p:-c.D<=d)(q:t+(c.S+d)<=e):c.M+c.tT e (t+(c.S+d))<=c.tT e t:=by
 obtain⟨a,f,j,o,g,l⟩:=h;obtain⟨n,S,G,W,D,L,E⟩:=c;simp only[Mc.tT,Mc.M] at *;rcases a with rfl|rfl|rfl|rfl|rfl<;>omega
theorem yF.tm{e e' t':Int}(p:e'<=e)(q:t<=t'):c.tT e' t'<=c.tT e t:=by
 obtain⟨a,f,j,o,g,l⟩:=h;obtain⟨n,S,G,W,D,L,E⟩:=c;simp only[Mc.tT] at *;rcases a with rfl|rfl|rfl|rfl|rfl<;>omega
theorem yF.td{e:Int}(q:a<=t+c.S+c.D):c.tT e (t+c.S)<=c.tT e a+(c.n+1)*c.D:=by
 obtain⟨f,g,l,p,j,o⟩:=h;obtain⟨n,S,G,W,D,L,E⟩:=c;simp only[Mc.tT] at *;rcases f with rfl|rfl|rfl|rfl|rfl<;>omega
theorem yF.t0{e:Int}(p:e<=t+c.S+c.D):c.tT e (t+c.S)<=(c.n+1)*c.D:=by
 obtain⟨a,f,j,o,g,l⟩:=h;obtain⟨n,S,G,W,D,L,E⟩:=c;simp only[Mc.tT] at *;rcases a with rfl|rfl|rfl|rfl|rfl<;>omega
theorem yF.lm{f:Int}(u:t<=f):c.VL i f<=c.VL i t:=by
 obtain⟨j,l,p,r,o,q⟩:=h;have kw:=c.kw i;obtain⟨n,S,G,W,D,L,E⟩:=c;simp only[Mc.VL,Mc.M,Mc.bs] at *;rcases kw with ⟨g,a,e⟩|⟨g,a,e⟩<;>rw[a]<;>(try rw[e])<;>rcases j with rfl|rfl|rfl|rfl|rfl<;>omega
theorem yF.n1(r:c.S<=st):c.VA i st 0+c.M<=c.VL i 0:=by
 obtain⟨g,j,o,q,l,p⟩:=h;have kw:=c.kw i;obtain⟨n,S,G,W,D,L,E⟩:=c;simp only[Mc.VA,Mc.VL,Mc.M,Mc.bs] at *;rcases kw with ⟨f,a,e⟩|⟨f,a,e⟩<;>rw[a]<;>(try rw[e])<;>rcases g with rfl|rfl|rfl|rfl|rfl<;>omega
theorem yF.nn{e:Int}:0<=c.M/\0<=c.tT e t/\0<=c.VL i t/\0<=(c.n+1)*c.D/\0<=c.R:=by
 obtain⟨j,l,p,r,o,q⟩:=h;have kw:=c.kw i;obtain⟨n,S,G,W,D,L,E⟩:=c;simp only[Mc.VL,Mc.M,Mc.bs,Mc.tT,Mc.R] at *;rcases kw with ⟨g,a,f⟩|⟨g,a,f⟩<;>rw[a]<;>(try rw[f])<;>rcases j with rfl|rfl|rfl|rfl|rfl<;>omega
theorem yF.na{om:Int}{b:Bool}:c.M<=c.O0 i st om b/\c.M<=c.O1 i st:=by
 obtain⟨g,j,o,q,l,p⟩:=h;have kw:=c.kw i;obtain⟨n,S,G,W,D,L,E⟩:=c;simp only[Mc.O0,Mc.O1,Mc.M,Mc.bs,Mc.U,Mc.R] at *;cases b<;>simp only[cond_true,cond_false]<;>rcases kw with ⟨f,a,e⟩|⟨f,a,e⟩<;>rw[a]<;>(try rw[e])<;>rcases g with rfl|rfl|rfl|rfl|rfl<;>omega
theorem yF.nw:0<=c.W/\0<=c.S/\0<=c.G/\c.D<=c.S:=by
 obtain⟨a,e,g,l,f,j⟩:=h;obtain⟨n,S,G,W,D,L,E⟩:=c;rcases a with rfl|rfl|rfl|rfl|rfl<;>simp only at * <;> omega
end
def lv(h:List jc)(i:Nat)(t:Int):List jc:=h.filter λe=>decide (e.2.1≠3)&&(decide (e.2.2.1=(i:Int))&&decide (e.2.2.2=t))
variable{i:Nat}
theorem pO{h a:List jc}(p:h.Perm a):(lv h i t).Perm (lv a i t):=p.filter _
theorem akg{l h:List jc}:lv (l++h) i t=lv l i t++lv h i t:=mI ..
theorem SS{h:List jc}(f:∀e∈h,e.2.1≠3->e.2.2.1=(i:Int)->e.2.2.2≠t):lv h i t=[]:=List.filter_eq_nil_iff.2 λe a=>by grind
variable{e:jc}
theorem Gs{h:List jc}(a:e.2.1≠3)(b:e.2.2.1=(i:Int))(d:e.2.2.2=t):lv (e::h) i t=e::lv h i t:=
 gX (by simp only[fQ,sK];exact⟨a,b,d⟩)
theorem Gt{h:List jc}(a:¬(e.2.1≠3/\e.2.2.1=(i:Int)/\e.2.2.2=t)):lv (e::h) i t=lv h i t:=
 List.filter_cons_of_neg (by simp only[fQ,sK];exact a)
inductive yG (c:Mc) (i:Nat) (w eo:Int) (y:cm) (l:List jc) (v:Int):Prop
 | aZ (a:kM y.1=true) (b:l=[]) (d:0<=v)
 | beg (t:Int) (a:kM y.1=true) (e:y.2.2.2.2.2.2.2=false) (b:l=[(t,4,(i:Int),y.2.2.2.2.1)]) (s:y.2.1.1<=t) (u:t<=c.E) (p:y.1.2.2.1.2.1=y.2.1.2.1%c.n) (d:(bif decide (y.1.2.1=4) then c.VA i y.2.1.1 (c.W*(y.2.1.2.1%c.n)) else c.VP i y.2.1.1 y.1.2.2.1.2.1)+c.tT eo (w+c.S)<=v)
 | Iu (t:Int) (a:kM y.1=true) (e:y.2.2.2.2.2.2.2=false) (b:l=[(t,1,(i:Int),y.2.2.2.2.1)]) (p:y.1.2.2.1.2.1=y.2.1.2.1%c.n) (d:(bif decide (y.1.2.1=4) then c.O0 i y.2.1.1 (c.W*(y.2.1.2.1%c.n)) y.2.2.2.2.2.2.1 else c.O1 i y.2.1.1)+c.tT eo (w+c.S)<=v)
 | Gr (a:y.1.2.1=1) (e:y.2.2.2.2.2.2.2=false) (s:y.2.2.2.1<=w) (b:l=[]) (u:eo<=w+c.S+c.D) (d:c.VL i y.2.2.2.1<=v)
 | Ix (t:Int) (a:y.1.2.1=1) (e:y.2.2.2.2.2.2.2=false) (s:y.2.2.2.1<=w) (b:l=[(t,2,(i:Int),y.2.2.2.2.1)]) (u:t<=w+c.S+c.D) (d:c.VL i y.2.2.2.1+c.tT eo t<=v)
 | off (a:y.1.2.1=0\/y.1.2.1=5) (b:l=[]) (d:c.VL i w+c.tT eo (w+c.S)<=v)
 | pow (t:Int) (a:y.1.2.1=0) (e:y.2.2.2.2.2.2.2=false) (b:l=[(t,5,(i:Int),y.2.2.2.2.1)]) (d:c.VL i w+c.tT eo (w+c.S)+(c.M+(c.n+1)*c.D)<=v)
variable{c:Mc}
theorem yG.mono{w g w' f v o:Int}{y:cm}{l:List jc}(j:yF c)(q:w<=w')(n:f<=g)(z:v<=o)(h:yG c i w g y l v):yG c i w' f y l o:=by
 have T:=j.tm (e:=g) (t:=w+c.S) (e':=f) (t':=w'+c.S) n (by omega);have V:=j.lm (i:=i) q;cases h with
 | aZ a b d=>exact .aZ a b (by omega)
 | beg t a e b s u p d=>exact .beg t a e b s u p (by omega)
 | Iu t a e b p d=>exact .Iu t a e b p (by omega)
 | Gr a e s b u d=>exact .Gr a e (by omega) b (by omega) (by omega)
 | Ix t a e s b u d=>
   have r:=j.tm (e:=g) (t:=t) (e':=f) (t':=t) n (aj _);exact .Ix t a e (by omega) b (by omega) (by omega)
 | off a b d=>exact .off a b (by omega)
 | pow t a e b d=>exact .pow t a e b (by omega)
theorem yG.short{w f v:Int}{y:cm}{l:List jc}(h:yG c i w f y l v):l=[]\/∃e,l=[e]:=by
 cases h with
 | aZ a b d=>simp_all
 | beg t a e b s u p d=>simp_all
 | Iu t a e b p d=>simp_all
 | Gr a e s b u d=>simp_all
 | Ix t a e s b u d=>simp_all
 | off a b d=>simp_all
 | pow t a e b d=>simp_all
theorem yG.perm{w f v:Int}{y:cm}{l a:List jc}(h:yG c i w f y l v)(p:a.Perm l):yG c i w f y a v:=by
 have e:a=l:=by
  rcases h.short with rfl|⟨e,rfl⟩
  all_goals simp_all
 simp_all
theorem yG.nn{w g v:Int}{y:cm}{l:List jc}(f:yF c)(n:0<=y.2.1.2.1%c.n)(h:yG c i w g y l v):0<=v:=by
 obtain⟨n1,o,_,r,_⟩:=f.nn (i:=i) (e:=g) (t:=w+c.S);have j:0<=c.W*(y.2.1.2.1%c.n):=eO f.nw.1 n;cases h with
 | aZ a b d=>exact d
 | beg t a e b s u p d=>
   have p1:=f.p1 (i:=i) (st:=y.2.1.1) (q:=y.1.2.2.1.2.1) (by omega);have pa:=f.pa (i:=i) (st:=y.2.1.1) (q:=y.1.2.2.1.2.1) j;have na:=(f.na (i:=i) (st:=y.2.1.1) (om:=0) (b:=false)).2
   grind
 | Iu t a e b p d=>
   have na:=f.na (i:=i) (st:=y.2.1.1) (om:=c.W*(y.2.1.2.1%c.n)) (b:=y.2.2.2.2.2.2.1)
   grind
 | Gr a e s b u d=>have:=(f.nn (i:=i) (e:=g) (t:=y.2.2.2.1)).2.2.1;omega
 | Ix t a e s b u d=>have:=f.nn (i:=i) (e:=g) (t:=y.2.2.2.1);have:=f.nn (i:=i) (e:=g) (t:=t);omega
 | off a b d=>have:=f.nn (i:=i) (e:=g) (t:=w);omega
 | pow t a e b d=>have:=f.nn (i:=i) (e:=g) (t:=w);omega
def CZ(v:Nat->Int):Nat->Int
 | 0=>0
 | n+1=>CZ v n+v n
def Ro(v:Nat->Int)(i:Nat)(a:Int):Nat->Int:=λj=>if j=i then a else v j
theorem uN{v:Nat->Int}:Ro v i a i=a:=if_pos rfl
theorem oT{v:Nat->Int}{j:Nat}(h:j≠i):Ro v i a j=v j:=if_neg h
theorem EF{v:Nat->Int}{i:Nat}{a:Int}:∀{n},n<=i->CZ (Ro v i a) n=CZ v n
 | 0,_=>rfl
 | n+1,h=>by rw[CZ,CZ,EF (by omega),oT (by omega)]
theorem p9{v:Nat->Int}{i:Nat}{a:Int}:∀{n},i<n->CZ (Ro v i a) n=CZ v n-v i+a
 | n+1,h=>by
   by_cases e:i=n
   ·subst e;rw[CZ,CZ,EF (ah _),uN];omega
   ·rw[CZ,CZ,p9 (by omega),oT (by omega)];omega
theorem aat{v:Nat->Int}:∀{n},(∀i,i<n->0<=v i)->0<=CZ v n
 | 0,_=>aj _
 | n+1,h=>Int.add_nonneg (aat λi a=>h i (by omega)) (h n (by omega))
structure Env(c:Mc)(m:ax)(s:ia):Prop where
 ml:dq m=true
 ok:yF c
 n:c.n=m.1
 S:c.S=m.2.1
 G:c.G=m.2.2.1
 W:c.W=m.2.2.2.1
 D:c.D=m.2.2.2.2.1
 L:c.L=m.2.2.2.2.2.1
 E:0<=c.E/\c.E<=1000000000000
 fl:s.2.2.2.2.2.2.2.length<=1000000
 fm:∀f∈s.2.2.2.2.2.2.2,f.1=10->f.2.2.2.2.1≠f.2.1
 gt:m.1<=(s.2.2.2.1.length:Int)
 gd:m.1<=(s.2.2.2.2.1.length:Int)
 dl:s.2.2.2.2.2.1.length<=1000000
 dd:∀v∈s.2.2.2.2.2.1, -m.2.2.2.2.1<=v/\v<=m.2.2.2.2.1
 op:s.2.2.2.2.2.2.1.length<=1000000
structure B6(m:ax)(i:Nat)(τ:Int)(y:cm):Prop where
 yO:cZ m y.1=0
 id:y.1.1=(i:Int)
 t:0<=y.2.2.2.2.1/\y.2.2.2.2.1<=τ
 c:0<=y.2.1.1/\y.2.1.1<=2199023255552
 l:0<=y.2.1.2.1
 d:y.2.1.2.2.length<=8
variable{m:ax}{τ:Int}
theorem B6.mono{y:cm}(h:B6 m i τ y)(k:τ<=a):B6 m i a y:=⟨h.yO,h.id,⟨h.t.1,by have:=h.t.2;omega⟩,h.c,h.l,h.d⟩
structure Inv(c:Mc)(m:ax)(s:ia)(B t K:Nat)(τ:Int)(ex:Nat)(b:Int)(x:Net):Prop where
 q:yH x
 mad:x.1=true
 em:x.2.1=m
 es:x.2.2.1=s
 en:(x.2.2.2.2.2.2.1.length:Int)=m.1
 now:0<=x.2.2.2.2.2.1.2.2/\x.2.2.2.2.2.1.2.2<=c.E
 ee:x.2.2.2.2.1<=c.E
 hw:∀e∈x.2.2.2.2.2.1.2.1,x.2.2.2.2.2.1.2.2<=e.1/\e.1<=c.E
 h3:∀e∈x.2.2.2.2.2.1.2.1,e.2.1=3->0<=e.2.2.2/\e.2.2.2<(x.2.2.2.2.2.2.2.2.2.1.length:Int)
 hi:∀e∈x.2.2.2.2.2.1.2.1,e.2.1≠3->∃i:Nat,e.2.2.1=(i:Int)/\i<x.2.2.2.2.2.2.1.length/\e.2.2.2<=(aD x i).2.2.2.2.1
 ch:x.2.2.2.2.2.2.2.1.length<=K/\x.2.2.2.2.2.2.2.2.1.length<=K/\x.2.2.2.2.2.2.2.2.2.1.length<=K
 sn:x.2.2.2.2.2.2.2.2.2.2.length<=K/\∀z∈x.2.2.2.2.2.2.2.2.2.2,cZ m z.2=0
 nd:∀i,i<x.2.2.2.2.2.2.1.length->B6 m i τ (aD x i)
 lx:ex<x.2.2.2.2.2.2.1.length->lv x.2.2.2.2.2.1.2.1 ex ((aD x ex).2.2.2.2.1)=[]
 vs:∃v:Nat->Int,(ex<x.2.2.2.2.2.2.1.length->b<=v ex)/\(∀i,i<x.2.2.2.2.2.2.1.length->i≠ex->yG c i x.2.2.2.2.2.1.2.2 x.2.2.2.2.1 (aD x i) (lv x.2.2.2.2.2.1.2.1 i ((aD x i).2.2.2.2.1)) (v i))/\CZ v x.2.2.2.2.2.2.1.length+c.M*((x.2.2.2.2.2.1.2.1.length+t:Nat):Int)<=c.M*(B:Int)
variable{evs:List jc}{f:cm->cm}{g:Nat}{r:Int}{y:Net}
section
variable {c:Mc} {m:ax} {s:ia} {B t K:Nat} {τ:Int} {ex:Nat} {b:Int} {x:Net} (h:Inv c m s B t K τ ex b x)
include h
theorem Inv.afY{dB:Nat}{A:Int}{a:Nat}(J:yH y)(C:y.1=x.1)(D:y.2.1=x.2.1)(F:y.2.2.1=x.2.2.1)(j:y.2.2.2.2.2.2.1.length=x.2.2.2.2.2.2.1.length)(p:y.2.2.2.2.2.1.2.2=x.2.2.2.2.2.1.2.2)(G:y.2.2.2.2.1<=x.2.2.2.2.1)
  (X:x.2.2.2.2.2.2.2.2.2.1.length<=y.2.2.2.2.2.2.2.2.2.1.length) (H:y.2.2.2.2.2.2.2.1.length<=g/\y.2.2.2.2.2.2.2.2.1.length<=g/\y.2.2.2.2.2.2.2.2.2.1.length<=g) (I:y.2.2.2.2.2.2.2.2.2.2.length<=g/\∀z∈y.2.2.2.2.2.2.2.2.2.2,cZ m z.2=0)
  (u:y.2.2.2.2.2.1.2.1.Perm (evs++x.2.2.2.2.2.1.2.1)) (q:∀e∈evs,(x.2.2.2.2.2.1.2.2<=e.1/\e.1<=c.E)/\(e.2.1=3->0<=e.2.2.2/\e.2.2.2<(y.2.2.2.2.2.2.2.2.2.1.length:Int))/\(e.2.1≠3->∃i:Nat,e.2.2.1=(i:Int)/\i<x.2.2.2.2.2.2.1.length/\e.2.2.2<=(aD y i).2.2.2.2.1))
  (N:∀i,i<x.2.2.2.2.2.2.1.length->(aD x i).2.2.2.2.1<=(aD y i).2.2.2.2.1) (Y:∀i,i<x.2.2.2.2.2.2.1.length->B6 m i A (aD y i)) (o:a<x.2.2.2.2.2.2.1.length->lv y.2.2.2.2.2.1.2.1 a ((aD y a).2.2.2.2.1)=[])
  (O:∀v:Nat->Int,(ex<x.2.2.2.2.2.2.1.length->b<=v ex)->(∀i,i<x.2.2.2.2.2.2.1.length->i≠ex->yG c i x.2.2.2.2.2.1.2.2 x.2.2.2.2.1 (aD x i) (lv x.2.2.2.2.2.1.2.1 i ((aD x i).2.2.2.2.1)) (v i))->∃n:Nat->Int,(a<x.2.2.2.2.2.2.1.length->r<=n a)/\(∀i,i<x.2.2.2.2.2.2.1.length->i≠a->yG c i x.2.2.2.2.2.1.2.2 y.2.2.2.2.1 (aD y i) (lv y.2.2.2.2.2.1.2.1 i ((aD y i).2.2.2.2.1)) (n i))/\CZ n x.2.2.2.2.2.2.1.length+c.M*(evs.length:Int)<=CZ v x.2.2.2.2.2.2.1.length+c.M*(dB:Int)):Inv c m s (B+dB) t g A a r y:=by
 have f:∀e∈y.2.2.2.2.2.1.2.1,e∈evs\/e∈x.2.2.2.2.2.1.2.1:=λe k=>oJ.1 (u.mem_iff.1 k);refine⟨J,C.trans h.mad,D.trans h.em,F.trans h.es,by rw[j];exact h.en,by rw[p];exact h.now,dn G h.ee,λe k=>?_,λe k l=>?_,λe k l=>?_,H,I,by rw[j];omega,by rw[j];exact o,?_⟩
 ·rw[p]
  rcases f e k with k|k
  ·exact(q e k).1
  ·exact h.hw e k
 ·rcases f e k with k|k
  ·exact(q e k).2.1 l
  ·have:=h.h3 e k l;omega
 ·rw[j]
  rcases f e k with k|k
  ·exact(q e k).2.2 l
  ·obtain⟨i,a1,a2,W⟩:=h.hi e k l
   have:=N i a2;exact⟨i,a1,a2,by omega⟩
 ·obtain⟨v,P,Q,Z⟩:=h.vs
  obtain⟨n,S,V,w3⟩:=O v P Q;rw[j,p];refine⟨n,S,V,?_⟩;have o:=u.length_eq;rw[ru] at o;rw[o,show((evs.length+x.2.2.2.2.2.1.2.1.length+t:Nat):Int)=(evs.length:Int)+((x.2.2.2.2.2.1.2.1.length+t:Nat):Int) from by omega,Int.mul_add,show((B+dB:Nat):Int)=(B:Int)+(dB:Int) from by omega,Int.mul_add];omega
theorem Inv.core{n:Int}{f:Nat}{l:Int}(O:yH y)(o:y.1=x.1)(p:y.2.1=x.2.1)(r:y.2.2.1=x.2.2.1)(u:y.2.2.2.2.2.2.1.length=x.2.2.2.2.2.2.1.length)(A:y.2.2.2.2.2.1.2.2=x.2.2.2.2.2.1.2.2)(C:y.2.2.2.2.1<=x.2.2.2.2.1)
  (D:x.2.2.2.2.2.2.2.2.2.1.length<=y.2.2.2.2.2.2.2.2.2.1.length) (F:y.2.2.2.2.2.2.2.1.length<=g/\y.2.2.2.2.2.2.2.2.1.length<=g/\y.2.2.2.2.2.2.2.2.2.1.length<=g) (G:y.2.2.2.2.2.2.2.2.2.2.length<=g/\∀z∈y.2.2.2.2.2.2.2.2.2.2,cZ m z.2=0)
  (N:y.2.2.2.2.2.1.2.1.Perm (evs++x.2.2.2.2.2.1.2.1)) (H:∀e∈evs,(x.2.2.2.2.2.1.2.2<=e.1/\e.1<=c.E)/\(e.2.1=3->0<=e.2.2.2/\e.2.2.2<(y.2.2.2.2.2.2.2.2.2.1.length:Int))/\(e.2.1≠3->∃i:Nat,e.2.2.1=(i:Int)/\i<x.2.2.2.2.2.2.1.length/\e.2.2.2<=(aD y i).2.2.2.2.1))
  (P:∀i,i<x.2.2.2.2.2.2.1.length->(aD x i).2.2.2.2.1<=(aD y i).2.2.2.2.1) (J:∀i,i<x.2.2.2.2.2.2.1.length->B6 m i n (aD y i)) (I:f<x.2.2.2.2.2.2.1.length->lv y.2.2.2.2.2.1.2.1 f ((aD y f).2.2.2.2.1)=[])
  (Q:∀v:Nat->Int,(ex<x.2.2.2.2.2.2.1.length->b<=v ex)->(∀i,i<x.2.2.2.2.2.2.1.length->i≠ex->yG c i x.2.2.2.2.2.1.2.2 x.2.2.2.2.1 (aD x i) (lv x.2.2.2.2.2.1.2.1 i ((aD x i).2.2.2.2.1)) (v i))->∃j:Nat->Int,(f<x.2.2.2.2.2.2.1.length->l<=j f)/\(∀i,i<x.2.2.2.2.2.2.1.length->i≠f->yG c i x.2.2.2.2.2.1.2.2 y.2.2.2.2.1 (aD y i) (lv y.2.2.2.2.2.1.2.1 i ((aD y i).2.2.2.2.1)) (j i))/\CZ j x.2.2.2.2.2.2.1.length+c.M*(evs.length:Int)<=CZ v x.2.2.2.2.2.2.1.length):Inv c m s B t g n f l y:=
 h.afY (dB:=0) O o p r u A C D F G N H P J I λv a b=>(Q v a b).imp λj q=>⟨q.1,q.2.1,by omega⟩
theorem Inv.none{u:Int}(l:i<x.2.2.2.2.2.2.1.length)(n:(aD x i).2.2.2.2.1<u):lv x.2.2.2.2.2.1.2.1 i u=[]:=SS λe f a b d=>by
 obtain⟨j,a1,a2,g⟩:=h.hi e f a
 grind
theorem Inv.emi(p:yF c){k j:Nat}(n:ex<x.2.2.2.2.2.2.1.length)(e:o_ x y k j):Inv c m s B t (K+k) τ ex (b-c.M*(j:Int)) y:=by
 obtain⟨a,F,Q,V,G,f,rfl,l1,l2,l3,J,N,z,W,A,C⟩:=e;have H:=(p.nn (i:=0) (e:=0) (t:=0)).1;have I:=h.ch;have l:∀i u,(lv G i u).Perm (lv x.2.2.2.2.2.1.2.1 i u):=λi u=>by
  refine(pO A).trans ?_;rw[akg,SS (h:=f) λe o a _=>absurd (C e o).1 a];rfl
 refine h.core (evs:=f) ⟨h.q.made,J,N⟩ rfl rfl rfl rfl rfl z l3.1 ⟨by show a.length<=_;omega,by show F.length<=_;omega,by show Q.length<=_;omega⟩ ⟨aU h.sn.1 (Nat.le_add_right _ _),h.sn.2⟩ A (λe o=>?_) (λi r=>aj _) h.nd (λn=>?_) λv X S=>?_
 ·obtain⟨O,D,P⟩:=C e o
  exact⟨⟨D.1,dn D.2 h.ee⟩,λ_=>P,λq=>absurd O q⟩
 ·have:=l ex ((aD x ex).2.2.2.2.1)
  rw[h.lx n] at this;exact this.eq_nil
 ·refine⟨Ro v ex (v ex-c.M*(j:Int)),λn=>?_,λi r g=>?_,?_⟩
  ·rw[uN];omega
  ·rw[oT g]
   exact((S i r g).mono p (aj _) z (aj _)).perm (l i _)
  ·rw[p9 n]
   have:=eH (a:=(f.length:Int)) (b:=(j:Int)) (c:=c.M) (by omega) H;omega
theorem Inv.mod{l:Int}(j:ex<x.2.2.2.2.2.2.1.length)(hτ:τ<=l)(r:B6 m ex l (f (aD x ex)))(u:(aD x ex).2.2.2.2.1<=(f (aD x ex)).2.2.2.2.1):Inv c m s B t K l ex b (cu x (bq x.2.2.2.2.2.2.1 ex f)):=by
 have o:aD (cu x (bq x.2.2.2.2.2.2.1 ex f)) ex=f (aD x ex):=fE j;have n:∀i,i≠ex->aD (cu x (bq x.2.2.2.2.2.2.1 ex f)) i=aD x i:=λi a=>h_ a;refine h.core (evs:=[]) ⟨h.q.made,h.q.len,h.q.heap⟩ rfl rfl rfl bJ rfl (aj _) (ah _) h.ch h.sn (.refl _) nofun (λi a=>?_) (λi a=>?_) (λ_=>?_) λv p q=>⟨v,p,λi a g=>?_,by simp_all⟩
 ·grind
 ·by_cases e:i=ex
  ·simp_all
  ·rw[n i e];exact(h.nd i a).mono hτ
 ·rw[o]
  by_cases e:(aD x ex).2.2.2.2.1=(f (aD x ex)).2.2.2.2.1
  ·rw[<-e];exact h.lx j
  ·exact h.none j (by omega)
 ·rw[n i g];exact q i a g
theorem Inv.cl(f:yF c)(a:ex<x.2.2.2.2.2.2.1.length)(j:yG c ex x.2.2.2.2.2.1.2.2 x.2.2.2.2.1 (aD x ex) [] b):Inv c m s B t K τ x.2.2.2.2.2.2.1.length 0 x:=by
 refine h.core (evs:=[]) h.q rfl rfl rfl rfl rfl (aj _) (ah _) h.ch h.sn (.refl _) nofun (λi g=>aj _) h.nd (λk=>absurd k (dw _)) λv l n=>⟨v,λk=>absurd k (dw _),λi g _=>?_,by simp_all⟩;by_cases e:i=ex
 ·subst e;rw[h.lx a];exact j.mono f (aj _) (aj _) (l a)
 simp_all
theorem Inv.cp(F:yF c)(l:ex<x.2.2.2.2.2.2.1.length)(p:r8 x e y)(A:e.2.1≠3)(C:e.2.2.1=(ex:Int))(D:e.2.2.2=(aD x ex).2.2.2.2.1)(H:x.2.2.2.2.2.1.2.2<=e.1)(N:e.1<=x.2.2.2.2.1->yG c ex x.2.2.2.2.2.1.2.2 x.2.2.2.2.1 (aD x ex) [e] (b-c.M))(O:∀z,z<=x.2.2.2.2.1->z<=e.1->yG c ex x.2.2.2.2.2.1.2.2 z (aD x ex) [] b):Inv c m s B t K τ x.2.2.2.2.2.2.1.length 0 y:=by
 obtain⟨r,J,rfl,l1,l2,⟨rfl,f,g⟩|⟨I,f,g⟩⟩:=p
 ·have n:∀(i:Nat) (u:Int),¬(e.2.2.1=(i:Int)/\e.2.2.2=u)->(lv J i u).Perm (lv x.2.2.2.2.2.1.2.1 i u):=λi u k=>by
   have:=pO (i:=i) (t:=u) g
   rwa [Gt λa=>k a.2] at this
  refine h.core (evs:=[e]) ⟨h.q.made,l1,l2⟩ rfl rfl rfl rfl rfl (aj _) (ah _) h.ch h.sn g (λz P=>?_) (λi j=>aj _) h.nd (λk=>absurd k (dw _)) λv G o=>⟨Ro v ex (b-c.M),λk=>absurd k (dw _),λi j _=>?_,?_⟩
  ·rw[aJ.1 P]
   exact⟨⟨H,dn f h.ee⟩,λq=>absurd q A,λ_=>⟨ex,C,l,Int.le_of_eq D⟩⟩
  ·by_cases k:i=ex
   ·subst k
    rw[uN];refine(N f).perm ?_;have:=pO (i:=i) (t:=(aD x i).2.2.2.2.1) g
    rwa [Gs A C D,h.lx l] at this
   ·rw[oT k]
    exact(o i j k).perm (n i _ λq=>k (by omega))
  ·rw[p9 l,bw]
   omega
 ·subst I
  refine h.core (evs:=[]) ⟨h.q.made,l1,l2⟩ rfl rfl rfl rfl rfl f (ah _) h.ch h.sn (.refl _) nofun (λi j=>aj _) h.nd (λk=>absurd k (dw _)) λv G o=>⟨v,λk=>absurd k (dw _),λi j _=>?_,by simp_all⟩;by_cases k:i=ex
  ·subst k
   show yG c i _ r _ (lv x.2.2.2.2.2.1.2.1 i ((aD x i).2.2.2.2.1)) _;rw[h.lx l];exact(O r f g).mono F (aj _) (aj _) (G l)
  ·exact(o i j k).mono F (aj _) f (aj _)
theorem Inv.oth{k:Nat}{p:Int}(C:0<=d)(o:ex<x.2.2.2.2.2.2.1.length\/d=0)(l:k<x.2.2.2.2.2.2.1.length)(j:k≠ex)(hτ:τ<=p)(z:B6 m k p (f (aD x k)))(D:(aD x k).2.2.2.2.1<=(f (aD x k)).2.2.2.2.1)(A:yF c)
  (y:∀v,yG c k x.2.2.2.2.2.1.2.2 x.2.2.2.2.1 (aD x k) (lv x.2.2.2.2.2.1.2.1 k ((aD x k).2.2.2.2.1)) v->yG c k x.2.2.2.2.2.1.2.2 x.2.2.2.2.1 (f (aD x k)) (lv x.2.2.2.2.2.1.2.1 k ((f (aD x k)).2.2.2.2.1)) (v+d)):Inv c m s B t K p ex (b-d) (cu x (bq x.2.2.2.2.2.2.1 k f)):=by
 have u:aD (cu x (bq x.2.2.2.2.2.2.1 k f)) k=f (aD x k):=fE l;have n:∀i,i≠k->aD (cu x (bq x.2.2.2.2.2.2.1 k f)) i=aD x i:=λi g=>h_ g;refine h.core (evs:=[]) ⟨h.q.made,h.q.len,h.q.heap⟩ rfl rfl rfl bJ rfl (aj _) (ah _) h.ch h.sn (.refl _) nofun (λi g=>?_) (λi g=>?_) (λq=>?_) λv F r=>⟨Ro (Ro v k (v k+d)) ex (v ex-d),λq=>?_,λi g a=>?_,?_⟩
 ·grind
 ·by_cases e:i=k
  ·simp_all
  ·rw[n i e];exact(h.nd i g).mono hτ
 ·rw[n ex (g_ j)];exact h.lx q
 ·rw[uN];omega
 ·rw[oT a]
  by_cases e:i=k
  ·subst e;rw[u,uN];exact y _ (r i g a)
  ·rw[n i e,oT e];exact r i g a
 ·show _+c.M*0<=_
  rcases o with o|rfl
  ·rw[p9 o,p9 l,oT (g_ j)];omega
  ·by_cases q:ex<x.2.2.2.2.2.2.1.length
   ·rw[p9 q,p9 l,oT (g_ j)];omega
   ·rw[EF (by omega),p9 l];omega
theorem Inv.mp{k:Nat}{G:Int}(hd:0<=d)(J:ex<x.2.2.2.2.2.2.1.length\/d=0)(A:k<x.2.2.2.2.2.2.1.length)(j:k≠ex)(hτ:τ<=G)(hB:B6 m k G (f (aD x k)))(ht:(aD x k).2.2.2.2.1<=(f (aD x k)).2.2.2.2.1)(V:lv x.2.2.2.2.2.1.2.1 k ((f (aD x k)).2.2.2.2.1)=[])(Z:yF c)(p:r8 (cu x (bq x.2.2.2.2.2.2.1 k f)) e y)(O:e.2.1≠3)(P:e.2.2.1=(k:Int))(Q:e.2.2.2=(f (aD x k)).2.2.2.2.1)(X:x.2.2.2.2.2.1.2.2<=e.1)
  (S:∀v,yG c k x.2.2.2.2.2.1.2.2 x.2.2.2.2.1 (aD x k) (lv x.2.2.2.2.2.1.2.1 k ((aD x k).2.2.2.2.1)) v->(e.1<=x.2.2.2.2.1->yG c k x.2.2.2.2.2.1.2.2 x.2.2.2.2.1 (f (aD x k)) [e] (v+d-c.M))/\∀z,z<=x.2.2.2.2.1->z<=e.1->yG c k x.2.2.2.2.2.1.2.2 z (f (aD x k)) [] (v+d)):Inv c m s B t K G ex (b-d) y:=by
 have H:aD (cu x (bq x.2.2.2.2.2.2.1 k f)) k=f (aD x k):=fE A;have C:∀i,i≠k->aD (cu x (bq x.2.2.2.2.2.2.1 k f)) i=aD x i:=λi l=>h_ l;have tt:∀i,i<x.2.2.2.2.2.2.1.length->(aD x i).2.2.2.2.1<=(aD (cu x (bq x.2.2.2.2.2.2.1 k f)) i).2.2.2.2.1:=λi l=>by grind
 have nn:∀i,i<x.2.2.2.2.2.2.1.length->B6 m i G (aD (cu x (bq x.2.2.2.2.2.2.1 k f)) i):=λi l=>by
  by_cases e:i=k
  ·simp_all
  ·rw[C i e];exact(h.nd i l).mono hτ
 have sm:∀(v:Nat->Int) (a:Int),CZ (Ro (Ro v k (v k+d-a)) ex (v ex-d)) x.2.2.2.2.2.2.1.length+a<=CZ v x.2.2.2.2.2.2.1.length:=λv a=>by
  rcases J with J|rfl
  ·rw[p9 J,p9 A,oT (g_ j)];omega
  ·by_cases q:ex<x.2.2.2.2.2.2.1.length
   ·rw[p9 q,p9 A,oT (g_ j)];omega
   ·rw[EF (by omega),p9 A];omega
 obtain⟨N,I,rfl,l1,l2,⟨rfl,n,o⟩|⟨Y,n,o⟩⟩:=p
 ·have D:∀(i:Nat) (u:Int),¬(e.2.2.1=(i:Int)/\e.2.2.2=u)->(lv I i u).Perm (lv x.2.2.2.2.2.1.2.1 i u):=λi u k=>by
   have:=pO (i:=i) (t:=u) o
   rwa [Gt λa=>k a.2] at this
  refine h.core (evs:=[e]) ⟨h.q.made,l1,l2⟩ rfl rfl rfl bJ rfl (aj _) (ah _) h.ch h.sn o (λz hz=>?_) tt nn (λq=>?_) λv W F=>⟨Ro (Ro v k (v k+d-c.M)) ex (v ex-d),λq=>?_,λi l g=>?_,?_⟩
  ·rw[aJ.1 hz]
   exact⟨⟨X,dn n h.ee⟩,λq=>absurd q O,λ_=>⟨k,P,A,Int.le_of_eq (Q.trans (congrArg (λz:cm=>z.2.2.2.2.1) H).symm)⟩⟩
  ·have:=D ex ((aD x ex).2.2.2.2.1) λq=>j (by omega)
   rw[h.lx q] at this;show lv I ex ((aD (cu x (bq x.2.2.2.2.2.2.1 k f)) ex).2.2.2.2.1)=[];rw[C ex (g_ j)];exact this.eq_nil
  ·rw[uN];omega
  ·rw[oT g]
   show yG c i _ _ (aD (cu x (bq x.2.2.2.2.2.2.1 k f)) i) (lv I i ((aD (cu x (bq x.2.2.2.2.2.2.1 k f)) i).2.2.2.2.1)) _;by_cases q:i=k
   ·subst q
    rw[H,uN];refine((S _ (F i l g)).1 n).perm ?_;have:=pO (i:=i) (t:=(f (aD x i)).2.2.2.2.1) o
    rwa [Gs O P Q,show lv (cu x (bq x.2.2.2.2.2.2.1 i f)).2.2.2.2.2.1.2.1 i ((f (aD x i)).2.2.2.2.1)=[] from V] at this
   ·rw[C i q,oT q]
    exact(F i l g).perm (D i _ λr=>q (by omega))
  simp_all
 ·subst Y
  refine h.core (evs:=[]) ⟨h.q.made,l1,l2⟩ rfl rfl rfl bJ rfl n (ah _) h.ch h.sn (.refl _) nofun tt nn (λq=>?_) λv W F=>⟨Ro (Ro v k (v k+d-0)) ex (v ex-d),λq=>?_,λi l g=>?_,?_⟩
  ·show lv x.2.2.2.2.2.1.2.1 ex ((aD (cu x (bq x.2.2.2.2.2.2.1 k f)) ex).2.2.2.2.1)=[]
   rw[C ex (g_ j)];exact h.lx q
  ·rw[uN];have:=W q;omega
  ·rw[oT g]
   show yG c i _ N (aD (cu x (bq x.2.2.2.2.2.2.1 k f)) i) (lv x.2.2.2.2.2.1.2.1 i ((aD (cu x (bq x.2.2.2.2.2.2.1 k f)) i).2.2.2.2.1)) _;by_cases q:i=k
   ·subst q
    rw[H,uN,V,Int.sub_zero];exact(S _ (F i l g)).2 N n o
   ·rw[C i q,oT q]
    exact(F i l g).mono Z (aj _) n (aj _)
  ·have:=sm v 0
   show _+c.M*0<=_;omega
end
structure Kp(x y:Net):Prop where
 len:y.2.2.2.2.2.2.1.length=x.2.2.2.2.2.2.1.length
 w:y.2.2.2.2.2.1.2.2=x.2.2.2.2.2.1.2.2
 e:y.2.2.2.2.1<=x.2.2.2.2.1
variable{x:Net}
theorem Kp.id:Kp x x:=⟨rfl,rfl,aj _⟩
theorem Kp.mod:Kp x (cu x (bq x.2.2.2.2.2.2.1 i f)):=⟨bJ,rfl,aj _⟩
theorem Kp.trans{z:Net}(a:Kp x y)(b:Kp y z):Kp x z:=⟨b.len.trans a.len,b.w.trans a.w,dn b.e a.e⟩
theorem r8.kp(p:r8 x e y):Kp x y:=by
 obtain⟨a,f,rfl,_,_,⟨rfl,_⟩|⟨_,g,_⟩⟩:=p
 ·exact⟨rfl,rfl,aj _⟩
 ·exact⟨rfl,rfl,g⟩
theorem o_.kp{k j:Nat}(p:o_ x y k j):Kp x y:=by
 obtain⟨a,b,n,f,l,e,rfl,_,_,_,_,_,g,_⟩:=p;exact⟨rfl,rfl,g⟩
variable{n:Node}
theorem iV:kM n=true↔2<=n.2.1/\n.2.1<=4:=decide_eq_true_iff
variable{B:Nat}{b:Int}{ex:Nat}{s:ia}
theorem Inv.weak{t K a:Nat}{f:Int}{e:Int}(h:Inv c m s B t K τ ex b x)(hK:K<=a)(hτ:τ<=f)(g:e<=b):Inv c m s B t a f ex e x:=by
 obtain⟨v,l,n,o⟩:=h.vs;exact⟨h.q,h.mad,h.em,h.es,h.en,h.now,h.ee,h.hw,h.h3,h.hi,⟨aU h.ch.1 hK,aU h.ch.2.1 hK,aU h.ch.2.2 hK⟩,⟨aU h.sn.1 hK,h.sn.2⟩,λi j=>(h.nd i j).mono hτ,h.lx,⟨v,λq=>dn g (l q),n,o⟩⟩
section
variable {c:Mc} {m:ax} {s:ia} {B t K:Nat} {τ:Int} {ex:Nat} {b:Int} {x:Net} (E:Env c m s) (h:Inv c m s B t K τ ex b x)
include E h
theorem Inv.sw1{k:Nat}(D:ex<x.2.2.2.2.2.2.1.length)(o:k<x.2.2.2.2.2.2.1.length)(V:kM (aD x ex).1=true)(p:Sw1 k x y):Inv c m s B t K (τ+2) ex (b-(if k=ex then 0 else c.M+(c.n+1)*c.D)) y/\aD y ex=aD x ex/\Kp x y:=by
 have l:=E.ok;have N:=l.nn (i:=k) (e:=x.2.2.2.2.1) (t:=x.2.2.2.2.2.1.2.2+c.S);have F:Inv c m s B t K (τ+2) ex (b-(if k=ex then 0 else c.M+(c.n+1)*c.D)) x:=h.weak (ah _) (by omega) (by omega);rcases p with rfl|⟨on,a1,a2,p⟩
 ·exact⟨F,rfl,.id⟩
 have n:k≠ex:=λe=>by simp_all
 rcases p with ⟨_,rfl⟩|⟨g,p⟩
 ·exact⟨F,rfl,.id⟩
 rw[if_neg n];have j:=h.nd k o;rw[h.em] at g p;have A:=Qj g;have W:¬(2<=(aD x k).1.2.1/\(aD x k).1.2.1<=4):=λq=>by rw[iV.2 q] at a1;grind
 rcases p with ⟨rfl,rfl⟩|⟨rfl,p⟩
 ·have C:B6 m k (τ+2) (oK (jv m (aD x k).1 false).1 (aD x k)):=⟨Bs j.yO g,(Lx g).trans j.id,⟨by show 0<=(aD x k).2.2.2.2.1+1;have:=j.t;omega,by show(aD x k).2.2.2.2.1+1<=_;have:=j.t;omega⟩,j.c,j.l,j.d⟩
  refine⟨h.oth (f:=oK (jv m (aD x k).1 false).1) (d:=c.M+(c.n+1)*c.D) (by omega) (.inl D) o n (by omega) C (by show(aD x k).2.2.2.2.1<=(aD x k).2.2.2.2.1+1;omega) l λv r=>?_,h_ (g_ n),.mod⟩;rw[show lv x.2.2.2.2.2.1.2.1 k ((oK (jv m (aD x k).1 false).1 (aD x k)).2.2.2.2.1)=[] from h.none o (by show(aD x k).2.2.2.2.1<(aD x k).2.2.2.2.1+1;omega)];refine .off (.inl (A.2 rfl)) rfl ?_;cases r with
  | aZ a b d=>simp_all
  | beg t a e b s u p d=>simp_all
  | Iu t a e b p d=>exact absurd (iV.1 a) W
  | Gr a e s b u d=>
    have:=l.lm (i:=k) s;have:=l.t0 (e:=x.2.2.2.2.1) (t:=x.2.2.2.2.2.1.2.2) u;omega
  | Ix t a e s b u d=>
    have:=l.lm (i:=k) s;have:=l.td (e:=x.2.2.2.2.1) (t:=x.2.2.2.2.2.1.2.2) u;omega
  | off a b d=>omega
  | pow t a e b d=>omega
 ·have I:(cu x (bq x.2.2.2.2.2.2.1 k (oK (jv m (aD x k).1 true).1))).2.1=m:=h.em
  have J:aD (cu x (bq x.2.2.2.2.2.2.1 k (oK (jv m (aD x k).1 true).1))) k=oK (jv m (aD x k).1 true).1 (aD x k):=fE o;have s0:=a2.1 rfl;unfold Lst at p;rw[J,I] at p;have H:cu (cu x (bq x.2.2.2.2.2.2.1 k (oK (jv m (aD x k).1 true).1))) (bq (cu x (bq x.2.2.2.2.2.2.1 k (oK (jv m (aD x k).1 true).1))).2.2.2.2.2.2.1 k (rc x.2.2.2.2.2.1.2.2))=cu x (bq x.2.2.2.2.2.2.1 k λy=>rc x.2.2.2.2.2.1.2.2 (oK (jv m (aD x k).1 true).1 y)):=congrArg (cu x) (mod_mod o);have p:r8 (cu x (bq x.2.2.2.2.2.2.1 k λy=>rc x.2.2.2.2.2.1.2.2 (oK (jv m (aD x k).1 true).1 y))) (x.2.2.2.2.2.1.2.2+m.2.1,2,(k:Int),(aD x k).2.2.2.2.1+1+1) y:=by rw[<-H];exact p
  have C:B6 m k (τ+2) (rc x.2.2.2.2.2.1.2.2 (oK (jv m (aD x k).1 true).1 (aD x k))):=⟨Bs j.yO g,(Lx g).trans j.id,⟨by show 0<=(aD x k).2.2.2.2.1+1+1;have:=j.t;omega,by show(aD x k).2.2.2.2.1+1+1<=_;have:=j.t;omega⟩,j.c,j.l,j.d⟩;have O:=E.S;have Q:=l.S;have Y:=l.G;have Z:=l.L;have S:=l.W;have X:=l.D;have P:0<=c.S:=by rcases l.n with k|k|k|k|k<;>rw[k] at S<;>omega
  refine⟨h.mp (f:=λy=>rc x.2.2.2.2.2.1.2.2 (oK (jv m (aD x k).1 true).1 y)) (d:=c.M+(c.n+1)*c.D) (by omega) (.inl D) o n (by omega) C (by show(aD x k).2.2.2.2.1<=(aD x k).2.2.2.2.1+1+1;omega) (h.none o (by show(aD x k).2.2.2.2.1<(aD x k).2.2.2.2.1+1+1;omega)) l p (by simp_all) rfl rfl (by omega) λv r=>⟨λ_=>?_,λz z1 G=>?_⟩,?_,?_⟩
  ·refine .Ix _ (A.1 rfl).2 rfl (aj _) rfl (by show x.2.2.2.2.2.1.2.2+m.2.1<=_;omega) ?_
   show c.VL k x.2.2.2.2.2.1.2.2+c.tT x.2.2.2.2.1 (x.2.2.2.2.2.1.2.2+m.2.1)<=_;rw[<-O];cases r with
   | aZ a b d=>simp_all
   | beg t a e b s u p d=>simp_all
   | Iu t a e b p d=>simp_all
   | Gr a e s b u d=>omega
   | Ix t a e s b u d=>omega
   | off a b d=>omega
   | pow t a e b d=>omega
  ·refine .Gr (A.1 rfl).2 rfl (aj _) rfl (by have G:z<=x.2.2.2.2.2.1.2.2+m.2.1:=G;omega) ?_
   show c.VL k x.2.2.2.2.2.1.2.2<=_;cases r with
   | aZ a b d=>simp_all
   | beg t a e b s u p d=>simp_all
   | Iu t a e b p d=>simp_all
   | Gr a e s b u d=>omega
   | Ix t a e s b u d=>omega
   | off a b d=>omega
   | pow t a e b d=>omega
  ·rw[r8.aD p,h_ (g_ n)]
  ·exact Kp.mod.trans p.kp
end
def Ui(ex:Nat)(C:Int):Nat->Nat->Int
 | 0,_=>0
 | f+1,k=>(if k=ex then 0 else C)+Ui ex C f (k+1)
theorem RN{ex:Nat}{C:Int}:∀{f k:Nat},Ui ex C f k=C*(f:Int)-(if k<=ex/\ex<k+f then C else 0)
 | 0,k=>by rw[Ui,if_neg (by omega)];omega
 | f+1,k=>by
   rw[Ui,RN,show((f+1:Nat):Int)=(f:Int)+1 from by omega,Int.mul_add,Int.mul_one];omega
section
variable {c:Mc} {m:ax} {s:ia} {B t K:Nat} (E:Env c m s)
include E
theorem Inv.sws:∀{f k:Nat} {τ:Int} {ex:Nat} {b:Int} {x y:Net},Inv c m s B t K τ ex b x->ex<x.2.2.2.2.2.2.1.length->k+f<=x.2.2.2.2.2.2.1.length->kM (aD x ex).1=true->Vz f k x y->Inv c m s B t K (τ+2*(f:Int)) ex (b-Ui ex (c.M+(c.n+1)*c.D) f k) y/\aD y ex=aD x ex/\Kp x y
 | 0,k,τ,ex,b,x,y,h,hx,hk,hi,p=>by
   rw[show y=x from p];refine⟨h.weak (ah _) (by omega) ?_,rfl,.id⟩;show b-0<=b;omega
 | f+1,k,τ,ex,b,x,y,h,hx,hk,hi,⟨z,p,q⟩=>by
   obtain⟨a,g,l1⟩:=h.sw1 E hx (by omega) hi p;obtain⟨e,j,l2⟩:=Inv.sws (f:=f) (k:=k+1) a (by have:=l1.len;omega) (by have:=l1.len;omega) (by simp_all) q;refine⟨e.weak (ah _) (by omega) ?_,j.trans g,l1.trans l2⟩;rw[Ui];omega
end
section
variable {c:Mc} {m:ax} {s:ia} {B t K:Nat} {τ:Int} {i:Nat} {b:Int} {x:Net} (E:Env c m s) (h:Inv c m s B t K τ i b x)
include E h
theorem Inv.swt(n:i<x.2.2.2.2.2.2.1.length)(g:kM (aD x i).1=true)(p:Swt x i y):∃a,Inv c m s B t K (τ+16) i a y/\aD y i=aD x i/\Kp x y/\(a=b\/(aD x i).2.2.2.2.2.2.1=true/\(aD x i).1.2.1=4/\a=b-c.R):=by
 have l:=h.en;have f:=E.n;rcases p with rfl|⟨a1,a2,p⟩
 ·exact⟨b,h.weak (ah _) (by omega) (aj _),rfl,.id,.inl rfl⟩
 ·obtain⟨j,o,l1⟩:=Inv.sws E h n (by omega) g p
  refine⟨_,j.weak (ah _) (by have:=wQ E.ml;omega) (aj _),o,l1,.inr ⟨a1,a2,?_⟩⟩;rw[RN,if_pos (by omega),l,<-f];have e:c.R=(c.n-1)*(c.M+(c.n+1)*c.D):=rfl
  grind
theorem Inv.her(n:i<x.2.2.2.2.2.2.1.length)(j:kM (aD x i).1=true)(p:VG x i y):Inv c m s B t K τ i b y/\Kp x y/\kM (aD y i).1=true/\((aD y i).1.2.1=(aD x i).1.2.1\/(aD x i).1.2.1=4/\(aD y i).1.2.1=3)/\(aD y i).1.2.2.1.2.1=(aD x i).1.2.2.1.2.1/\(aD y i).2.1.1=(aD x i).2.1.1/\(aD y i).2.1.2.1=(aD x i).2.1.2.1/\(aD y i).2.2=(aD x i).2.2:=by
 have _:=E;rcases p with rfl|⟨l,cl,g,⟨c1,c2,c3⟩,rfl⟩
 ·exact⟨h,.id,j,.inl rfl,rfl,rfl,rfl,rfl⟩
 ·rw[h.em] at g ⊢
  obtain⟨r,q,e⟩:=akA g;have a:=h.nd i n;have o:B6 m i τ (ajT (oh m (aD x i).1 l).1 cl (aD x i)):=⟨S_ a.yO g,(akz g).trans a.id,a.t,by show 0<=cl.1/\cl.1<=_;rw[c1];exact a.c,by show 0<=cl.2.1;rw[c2];exact a.l,c3 a.d⟩;rw[fE n];refine⟨h.mod (f:=ajT (oh m (aD x i).1 l).1 cl) n (aj _) o (aj _),.mod,?_,e,q,c1,c2,rfl⟩;refine iV.2 ?_;have:=iV.1 j;rcases e with e|⟨_,e⟩
  ·show 2<=(oh m (aD x i).1 l).1.2.1/\(oh m (aD x i).1 l).1.2.1<=4;rw[e];exact this
  ·show 2<=(oh m (aD x i).1 l).1.2.1/\(oh m (aD x i).1 l).1.2.1<=4;rw[e];omega
theorem Inv.au5{l:List fj}(a:l.length<=K+1)(e:∀z∈l,cZ m z.2=0):Inv c m s B t (K+1) τ i b (Vd x l):=
 have _:=E
 h.core (evs:=[]) ⟨h.q.made,h.q.len,h.q.heap⟩ rfl rfl rfl rfl rfl (aj _) (ah _) ⟨aU h.ch.1 (dP _),aU h.ch.2.1 (dP _),aU h.ch.2.2 (dP _)⟩ ⟨a,e⟩ (.refl _) nofun (λ_ _=>aj _) h.nd h.lx λv f g=>⟨v,f,g,by show _+c.M*0<=_;omega⟩
end
theorem NZ{n:Int}(g:4<=n)(j:0<=q):(q%n+1=n↔(q+1)%n=0)/\(q+1)%n=if q%n+1=n then 0 else q%n+1:=by
 have a:=jU q (b:=n) (by omega);have b:=mH q (b:=n) (by omega);have e:(q+1)%n=(q%n+1)%n:=by simp_all
 by_cases k:q%n+1=n
 ·simp_all
 ·have f:(q%n+1)%n=q%n+1:=nc (by omega) (by omega)
  omega
section
variable {c:Mc} {m:ax} {s:ia} {B t K:Nat} {τ:Int} {i:Nat} {b:Int} {x:Net} (E:Env c m s) (h:Inv c m s B t K τ i b x)
include E h
theorem Inv.ev2(j:i<x.2.2.2.2.2.2.1.length)(o:kM (aD x i).1=true)(W:(aD x i).2.2.2.2.2.2.2=false)(X:(aD x i).1.2.2.1.2.1=(aD x i).2.1.2.1%c.n)(D:0<=b)
  (Y:∀v sl t',ER m (aD x i).2.1 t' (v,sl)->v<=c.E->(bif decide ((aD x i).1.2.1=4) then c.VA i v (c.W*(sl.1%c.n)) else c.VP i v (sl.1%c.n))+c.tT x.2.2.2.2.1 (x.2.2.2.2.2.1.2.2+c.S)<=b-c.M) (p:Ev2 x i y):Inv c m s B t (K+1) τ x.2.2.2.2.2.2.1.length 0 y:=by
 have a:=h.nd i j;rcases p with ⟨rfl,p|p⟩|⟨_,g,p⟩
 ·simp_all
 ·exact(h.cl E.ok j (.aZ o rfl D)).weak (dP _) (aj _) (aj _)
 ·rw[h.em] at g p
  obtain⟨_,J,Q⟩:=ajz a.yO o;have e:kM (jq m (aD x i).1).1=true:=by rw[iV,J];exact iV.1 o
  rcases p with rfl|⟨d,cl,H,N,s1,s2,p⟩
  ·have G:B6 m i τ (edY (jq m (aD x i).1).1 (aD x i)):=⟨Et a.yO g,(XA g).trans a.id,a.t,a.c,a.l,a.d⟩
   have C:=h.mod (f:=edY (jq m (aD x i).1).1) j (aj _) G (aj _);have l1:(cu x (bq x.2.2.2.2.2.2.1 i (edY (jq m (aD x i).1).1))).2.2.2.2.2.2.1.length=x.2.2.2.2.2.2.1.length:=bJ;have:=C.cl E.ok (by omega) (.aZ (by rw[fE j];exact e) rfl D);rw[l1] at this;exact this.weak (dP _) (aj _) (aj _)
  ·have V:=wQ E.ml
   obtain⟨I,O,P,b4⟩:=(Ax (by omega)).1 N.ck';have G:B6 m i τ (Zu (jq m (aD x i).1).1 cl (aD x i)):=⟨Et a.yO g,(XA g).trans a.id,a.t,⟨I.1,by have:=I.2;show cl.1<=_;omega⟩,O.1,P⟩;have C:=h.mod (f:=Zu (jq m (aD x i).1).1 cl) j (aj _) G (aj _);have l1:(cu x (bq x.2.2.2.2.2.2.1 i (Zu (jq m (aD x i).1).1 cl))).2.2.2.2.2.2.1.length=x.2.2.2.2.2.2.1.length:=bJ;have S:=C.au5 E (l:=H) (aU s1 (Nat.succ_le_succ h.sn.1)) λz r=>by
    rcases s2 z r with r|r
    ·exact h.sn.2 z r
    ·rw[r];exact Et a.yO g
   have A:aD (Vd (cu x (bq x.2.2.2.2.2.2.1 i (Zu (jq m (aD x i).1).1 cl))) H) i=Zu (jq m (aD x i).1).1 cl (aD x i):=fE j;have F:=E.n;have Z:=NZ (n:=c.n) (q:=(aD x i).2.1.2.1) (by omega) a.l;have u:(jq m (aD x i).1).1.2.2.1.2.1=cl.2.1%c.n:=by
    rw[Q,N.sl,Z.2,X,F]
   have:=S.cp E.ok (y:=y) (by rw[<-l1] at j;exact j) p (by grind) rfl (by rw[A];rfl) (by show x.2.2.2.2.2.1.2.2<=vh x cl.1;unfold vh;omega) (λq=>?_) λz z1 z2=>?_
   ·rw[show(Vd (cu x (bq x.2.2.2.2.2.2.1 i (Zu (jq m (aD x i).1).1 cl))) H).2.2.2.2.2.2.1.length=x.2.2.2.2.2.2.1.length from l1] at this
    omega
   ·have q:vh x cl.1<=x.2.2.2.2.1:=q
    have q2:cl.1<=vh x cl.1:=by unfold vh;omega
    have hE:=h.ee;rw[A];refine .beg _ e W rfl q2 (by omega) u ?_;show(bif decide ((jq m (aD x i).1).1.2.1=4) then c.VA i cl.1 (c.W*(cl.2.1%c.n)) else c.VP i cl.1 (jq m (aD x i).1).1.2.2.1.2.1)+_<=_;rw[u,J];exact Y cl.1 cl.2 d N (by omega)
   ·rw[A]
    exact .aZ e rfl D
end
theorem Env.nxt(E:Env c m s){k r:qk}(N:ER m k d r)(g:0<=k.2.1):(r.2.1%c.n=0/\c.W*(k.2.1%c.n)=c.W*(c.n-1)/\c.W*(r.2.1%c.n)=0/\k.1+c.S-c.D-c.W<=r.1)\/(r.2.1%c.n≠0/\c.W*(r.2.1%c.n)=c.W*(k.2.1%c.n)+c.W/\0<=c.W*(k.2.1%c.n)/\k.1+c.S-c.D<=r.1):=by
 have A:=wQ E.ml;have j:=E.n;have f:=NZ (n:=c.n) (q:=k.2.1) (by omega) g;have z:=E.W;have y:=E.S;have v:=E.D;have u:=N.dr;rw[N.sl,f.2];rcases N.st with ⟨a,l,o⟩|⟨a,b⟩
 ·grind
 ·rw[<-j] at a
  have e:¬k.2.1%c.n+1=c.n:=λq=>a (f.1.1 q);have p:=jU k.2.1 (b:=c.n) (by omega);exact .inr ⟨by omega,by grind,eO (by omega) p,by omega⟩
theorem Yr{y:cm}:(yL y).1=y.1:=rfl
theorem ank{y:cm}:(yL y).2.2.2.2.2.2=y.2.2.2.2.2.2:=rfl
theorem ajO{y:cm}:(yL y).2.1=y.2.1:=rfl
theorem Env.evv(E:Env c m s){y z:cm}{f X Y:Int}(H:0<=y.2.1.2.1)(d:(bif decide (y.1.2.1=4) then c.O0 i y.2.1.1 (c.W*(y.2.1.2.1%c.n)) y.2.2.2.2.2.2.1 else c.O1 i y.2.1.1)+X<=b)(C:0<=Y/\Y<=X)(c1:z.2.1.1=y.2.1.1)(j:z.2.1.2.1=y.2.1.2.1)(sz:z.1.2.1=y.1.2.1\/y.1.2.1=4/\z.1.2.1=3)(o:f=b\/y.2.2.2.2.2.2.1=true/\z.1.2.1=4/\f=b-c.R):
  0<=f/\∀{r:qk} {n:Int},ER m z.2.1 n r->r.1<=c.E->(bif decide (z.1.2.1=4) then c.VA i r.1 (c.W*(r.2.1%c.n)) else c.VP i r.1 (r.2.1%c.n))+Y<=f-c.M:=by
 have a:=E.ok;have p:=a.nn (i:=i) (e:=0) (t:=0);refine⟨?_,λ{r n} N l=>?_⟩
 ·have na:=a.na (i:=i) (st:=y.2.1.1) (om:=c.W*(y.2.1.2.1%c.n)) (b:=false)
  have v:c.O0 i y.2.1.1 (c.W*(y.2.1.2.1%c.n)) true=c.O0 i y.2.1.1 (c.W*(y.2.1.2.1%c.n)) false+c.R:=by
   show _+c.R=_+0+c.R;omega
  rcases o with rfl|⟨F,G,rfl⟩
  ·have D:=a.na (i:=i) (st:=y.2.1.1) (om:=c.W*(y.2.1.2.1%c.n)) (b:=y.2.2.2.2.2.2.1)
   grind
  grind
 ·have X:=E.nxt N (by omega)
  rw[c1,j] at X;by_cases k:y.1.2.1=4
  ·rw[da k,cond_true] at d
   have A:=a.a2 (i:=i) (b:=y.2.2.2.2.2.2.1) l (X.imp (λz=>z.2) λz=>z.2);have u:0<=(bif y.2.2.2.2.2.2.1 then c.R else 0):=by grind
   by_cases g:z.1.2.1=4
   ·grind
   ·rw[gI g,cond_false]
    have P:=a.pa (i:=i) (st:=r.1) (om:=c.W*(r.2.1%c.n)) (q:=r.2.1%c.n) (by have:=a.nw.1;omega);omega
  ·have g:¬z.1.2.1=4:=by omega
   rw[gI k,cond_false] at d;rw[gI g,cond_false];have A:=a.p2 (i:=i) (st:=y.2.1.1) l (q:=r.2.1%c.n) (X.imp (λz=>⟨z.1,z.2.2.2⟩) λz=>⟨z.1,z.2.2.2⟩);omega
section
variable {c:Mc} {m:ax} {s:ia} {B t K:Nat} {τ:Int} {i:Nat} {b:Int} {x:Net} (E:Env c m s) (h:Inv c m s B t K τ i b x)
include E h
theorem Inv.Iu{y:Net}{e:jc}(F:i<x.2.2.2.2.2.2.1.length)(he:e.2.1=1)(V:yG c i x.2.2.2.2.2.1.2.2 x.2.2.2.2.1 (aD x i) [e] b)(p:Evl x i y):Inv c m s B t (K+1) (τ+16) x.2.2.2.2.2.2.1.length 0 y:=by
 have D:=E.ok;cases V with
 | aZ a q d=>cases q
 | beg t a e q s u p d=>simp_all
 | Gr a e s q u d=>cases q
 | Ix t a e s q u d=>simp_all
 | off a q d=>cases q
 | pow t a e q d=>simp_all
 | Iu t a f q hp d=>
   rcases p with ⟨k,_⟩|⟨_,u,w,Z,_,pw,p⟩
   ·simp_all
   ·obtain⟨C,l1,i1,a4,X,c1,a3,G⟩:=h.her E F a Z
    have g:i<u.2.2.2.2.2.2.1.length:=by have:=l1.len;omega
    have W:B6 m i τ (yL (aD u i)):=by
     have:=C.nd i g;exact⟨this.yO,this.id,this.t,this.c,this.l,this.d⟩
    have P:=C.mod (f:=yL) g (aj _) W (aj _);have n:aD (cu u (bq u.2.2.2.2.2.2.1 i yL)) i=yL (aD u i):=fE g;have l2:Kp u (cu u (bq u.2.2.2.2.2.2.1 i yL)):=.mod;obtain⟨b',Q,O,l3,v⟩:=P.swt E (by rw[l2.len];omega) (by rw[n,Yr];omega) pw;have l:aD w i=yL (aD u i):=O.trans n;have L:=(l1.trans l2).trans l3;have T:=D.tm (e:=x.2.2.2.2.1) (t:=x.2.2.2.2.2.1.2.2+c.S) (e':=w.2.2.2.2.1) (t':=w.2.2.2.2.2.1.2.2+c.S) L.e (by have:=L.w;omega);rw[n] at v;have wz:(yL (aD u i)).2.2.2.2.2.2.1=(aD x i).2.2.2.2.2.2.1:=by rw[ank,G]
    have sz:(yL (aD u i)).1.2.1=(aD x i).1.2.1\/(aD x i).1.2.1=4/\(yL (aD u i)).1.2.1=3:=by rw[Yr];omega
    rw[wz] at v;obtain⟨J,o⟩:=E.evv (z:=yL (aD u i)) (Y:=c.tT w.2.2.2.2.1 (w.2.2.2.2.2.1.2.2+c.S)) (h.nd i F).l d ⟨(D.nn (i:=i) (e:=w.2.2.2.2.1) (t:=w.2.2.2.2.2.1.2.2+c.S)).2.1,T⟩ (by rw[ajO];omega) (by rw[ajO];omega) sz v;have A:(aD u i).1.2.2.1.2.1=(aD u i).2.1.2.1%c.n:=by simp_all
    have j:=Q.ev2 E (by rw[l3.len,l2.len];omega) (by rw[l,Yr];omega) (by rw[l,ank,G];exact f) (by rw[l,Yr,ajO];exact A) J (λH sl t' N S=>by
     rw[l] at N ⊢;have I:ER m (yL (aD u i)).2.1 t' (H,sl):=N;have z:=o (r:=(H,sl)) I S;exact z) p
    rw[L.len] at j;exact j
end
theorem aeY{p:Ky}{l:List fO}(n:p.a0=l)(y:p.a1=(l.length:Int))(u:p.MZ=q)(z:l.length<=1000000):∀(f i:Nat),l.length-i<=f->Go (Ek af) (Ek af (.c0 p (i:Int))) λr=>r.2=true->r.1.1=10->r.1.2.2.2.2.1=q:=by
 intro f
 induction f with
 | zero=>intro i o;exact cJ (λg=>absurd g (by omega)) λ_=>aK nofun
 | succ f ih=>
   intro i o;refine cJ (λg=>?_) λ_=>aK nofun
   have j:Go (Ek af) (.ao (.c0 p (af.cB (i:Int) 1))) λr=>r.2=true->r.1.1=10->r.1.2.2.2.2.1=q:=by
    rw[dD (by omega),show(i:Int)+1=((i+1:Nat):Int) from by omega];exact aY (ih (i+1) (by omega))
   have v:∀k:Int,ND k=false->k≠10:=λk a b=>by
    subst b;exact absurd (a.symm.trans (show ND 10=true by rfl)) (by decide)
   refine ai (by rw[n];exact bW (l:=l) (by omega)) (dC (λ_=>dC (λe=>dC (λ_=>dC (λ_=>aK λ_ _=>e.trans u) λ_=>j) λ_=>j) λ_=>dO (λa=>dC (λ_=>dC (λ_=>aK λ_ k=>absurd k (v _ a)) λ_=>j) λ_=>j) λ_=>j) λ_=>j)
variable{v:(Bool×ax×ia×Unit)×(Int×Int×fB)}
theorem ajR(C:∀f∈v.1.2.2.1.2.2.2.2.2.2.2,f.1=10->f.2.2.2.2.1≠f.2.1)(g:v.1.2.2.1.2.2.2.2.2.2.2.length<=1000000)(p:v.2.1=10)(D:v.2.2.1=v.2.2.2.2.1):(gU v).2=false:=by
 obtain⟨F,y⟩:=vD g;obtain⟨⟨r,u,j,⟨⟩⟩,k,n,o⟩:=v;have g:j.2.2.2.2.2.2.2.length<=1000000:=g;have A:=(im (s:=Ek af) (t:=abB af r u j k n o) (d:=(Ty.aR [eY,.bool])) (ai (da (by omega)) (aY (aeY (l:=j.2.2.2.2.2.2.2) (q:=o.2.1) rfl rfl rfl g _ 0 (ah _))))).2;cases e:(gU ((r,u,j,()),k,n,o)).2
 ·rfl
 ·obtain⟨a,b,d⟩:=y e
  have z:=A e (b.trans p);exact absurd (z.trans (D.symm.trans d.symm)) (C _ a (b.trans p))
theorem YK{k:Node}(p:T3 m n k)(h:cZ m n=0):cZ m k=0/\k.1=n.1/\k.2.1=n.2.1/\k.2.2.1=n.2.2.1:=by
 induction p with
 | rfl=>simp_all
 | step _ g ih=>
   obtain⟨a1,a2,a,e⟩:=ih;have s:=aj1 g;exact⟨adV a1 g,(aj0 g).trans a2,s.1.trans a,s.2.trans e⟩
section
variable {c:Mc} {m:ax} {s:ia} {B t K:Nat} {τ:Int} {i:Nat} {b:Int} {x:Net} (E:Env c m s) (h:Inv c m s B t K τ i b x)
include E h
theorem Inv.om(j:i<x.2.2.2.2.2.2.1.length):0<=c.W*((aD x i).2.1.2.1%c.n)/\c.W*((aD x i).2.1.2.1%c.n)<=c.W*(c.n-1):=by
 have _:=h;have f:=wQ E.ml;have g:=E.n;have e:=E.W;have a:=jU ((aD x i).2.1.2.1) (b:=c.n) (by omega);have b:=mH ((aD x i).2.1.2.1) (b:=c.n) (by omega);exact⟨eO (by omega) a,eH (by omega) (by omega)⟩
theorem Inv.Gr(l:i<x.2.2.2.2.2.2.1.length)(u:f (aD x i)=rc x.2.2.2.2.2.1.2.2 (n,(aD x i).2.1,(f (aD x i)).2.2.1,(aD x i).2.2.2.1,(f (aD x i)).2.2.2.2.1-1,(f (aD x i)).2.2.2.2.2))(Q:cZ m n=0)(v:n.1=(i:Int))(H:n.2.1=1)(C:(f (aD x i)).2.2.2.2.2.2.2=false)(I:(aD x i).2.2.2.2.1<=(f (aD x i)).2.2.2.2.1/\(f (aD x i)).2.2.2.2.1<=(aD x i).2.2.2.2.1+2)(G:c.VL i x.2.2.2.2.2.1.2.2+c.tT x.2.2.2.2.1 (x.2.2.2.2.2.1.2.2+c.S)<=b-c.M)(p:r8 (cu x (bq x.2.2.2.2.2.2.1 i f)) (x.2.2.2.2.2.1.2.2+m.2.1,2,(i:Int),(f (aD x i)).2.2.2.2.1) y):Inv c m s B t K (τ+2) x.2.2.2.2.2.2.1.length 0 y:=by
 have r:=E.ok;have j:=h.nd i l;have q:=E.S;have P:=wQ E.ml;have O:=r.D;have N:=r.nn (i:=i) (e:=x.2.2.2.2.1) (t:=x.2.2.2.2.2.1.2.2+c.S);have fn:(f (aD x i)).1=n:=by rw[u];rfl
 have A:(f (aD x i)).1.2.1=1:=by rw[fn];exact H
 have fc:(f (aD x i)).2.1=(aD x i).2.1:=by rw[u];rfl
 have g:(f (aD x i)).2.2.2.1=x.2.2.2.2.2.1.2.2:=by rw[u];rfl
 have J:B6 m i (τ+2) (f (aD x i)):=⟨by grind,by rw[fn];exact v,by have:=j.t;omega,by rw[fc];exact j.c,by rw[fc];exact j.l,by rw[fc];exact j.d⟩;have F:=h.mod (f:=f) l (by omega) J I.1;have o:aD (cu x (bq x.2.2.2.2.2.2.1 i f)) i=f (aD x i):=fE l;have l1:(cu x (bq x.2.2.2.2.2.2.1 i f)).2.2.2.2.2.2.1.length=x.2.2.2.2.2.2.1.length:=bJ;have a:=F.cp r (by rw[l1];exact l) p (by show ¬(2:Int)=3;decide) rfl (by rw[o]) (by show x.2.2.2.2.2.1.2.2<=x.2.2.2.2.2.1.2.2+m.2.1;omega) (λ_=>?_) λz S D=>?_
 ·rw[l1] at a;exact a
 ·rw[o]
  refine .Ix _ A C (by rw[g];exact aj _) rfl (by show x.2.2.2.2.2.1.2.2+m.2.1<=x.2.2.2.2.2.1.2.2+_+_;omega) ?_;rw[g,<-q];exact G
 ·rw[o]
  refine .Gr A C (by rw[g];exact aj _) rfl (by have D:z<=x.2.2.2.2.2.1.2.2+m.2.1:=D;show z<=x.2.2.2.2.2.1.2.2+_+_;omega) ?_;rw[g];omega
theorem Inv.bgn{y:Net}{e:jc}(hx:i<x.2.2.2.2.2.2.1.length)(he:e.2.1≠1/\e.2.1≠2/\e.2.1≠5)(hw:e.1=x.2.2.2.2.2.1.2.2)(hv:yG c i x.2.2.2.2.2.1.2.2 x.2.2.2.2.1 (aD x i) [e] b)(p:Bgn x i y):Inv c m s B t (K+9) (τ+2) x.2.2.2.2.2.2.1.length 0 y:=by
 have hc:=E.ok;have hB:=h.nd i hx;have om:=h.om E hx;cases hv with
 | aZ a q d=>cases q
 | Iu t a f q p d=>simp_all
 | Gr a e s q u d=>cases q
 | Ix t a e s q u d=>simp_all
 | off a q d=>cases q
 | pow t a e q d=>simp_all
 | beg t a f q sx u hp d=>
   injection q with q _;have hwt:t=x.2.2.2.2.2.1.2.2:=by simp_all
   subst hwt;have hsE:(aD x i).2.1.1<=c.E:=dn sx u;have M0:=hc.nn (i:=i) (e:=x.2.2.2.2.1) (t:=x.2.2.2.2.2.1.2.2+c.S);have pa:=hc.pa (i:=i) (st:=(aD x i).2.1.1) (q:=(aD x i).1.2.2.1.2.1) om.1;have p4:=hc.p4 (i:=i) (t:=x.2.2.2.2.2.1.2.2) (q:=(aD x i).1.2.2.1.2.1) hsE sx;have L0:=(hc.nn (i:=i) (e:=x.2.2.2.2.1) (t:=x.2.2.2.2.2.1.2.2)).2.2.1;have vp:c.VP i ((aD x i).2.1.1) ((aD x i).1.2.2.1.2.1)+c.tT x.2.2.2.2.1 (x.2.2.2.2.2.1.2.2+c.S)<=b:=by grind
   have wk:∀{z:Net} {K':Nat} {τ':Int},K'<=K+9->τ'<=τ+2->z.2.2.2.2.2.2.1.length=x.2.2.2.2.2.2.1.length->Inv c m s B t K' τ' z.2.2.2.2.2.2.1.length 0 z->Inv c m s B t (K+9) (τ+2) x.2.2.2.2.2.2.1.length 0 z:=λk1 k2 l g=>by rw[<-l];exact g.weak k1 k2 (aj _)
   rcases p with ⟨k,_⟩|⟨_,rfl|p|⟨n,hn,p⟩⟩
   ·simp_all
   ·have nb:B6 m i τ (ovY (aD x i)):=⟨hB.yO,hB.id,hB.t,hB.c,hB.l,hB.d⟩
    have h1:=h.mod (f:=ovY) hx (aj _) nb (aj _);exact wk (by omega) (by omega) bJ (h1.cl hc (by rw[show(cu x (bq x.2.2.2.2.2.2.1 i ovY)).2.2.2.2.2.2.1.length=x.2.2.2.2.2.2.1.length from bJ];omega) (.aZ (by rw[fE hx];exact a) rfl (by omega)))
   ·rcases p with ⟨_,rfl⟩|⟨g,⟨_,rfl⟩|⟨k,_⟩⟩
    ·exact wk (by omega) (by omega) rfl (h.cl hc hx (.aZ a rfl (by omega)))
    ·rw[h.em] at g ⊢
     have nb:B6 m i (τ+2) (oK (jv m (aD x i).1 false).1 (aD x i)):=⟨Bs hB.yO g,(Lx g).trans hB.id,⟨by show 0<=(aD x i).2.2.2.2.1+1;have:=hB.t;omega,by show(aD x i).2.2.2.2.1+1<=_;have:=hB.t;omega⟩,hB.c,hB.l,hB.d⟩;have h1:=h.mod (f:=oK (jv m (aD x i).1 false).1) hx (by omega) nb (by show(aD x i).2.2.2.2.1<=(aD x i).2.2.2.2.1+1;omega);exact wk (by omega) (by omega) bJ (h1.cl hc (by rw[show(cu x (bq x.2.2.2.2.2.2.1 i (oK (jv m (aD x i).1 false).1))).2.2.2.2.2.2.1.length=x.2.2.2.2.2.2.1.length from bJ];omega) (.off (.inl (by rw[fE hx];exact(Qj g).2 rfl)) rfl (by show c.VL i x.2.2.2.2.2.1.2.2+c.tT x.2.2.2.2.1 (x.2.2.2.2.2.1.2.2+c.S)<=b;omega)))
    grind
   ·rw[h.em] at hn
    obtain⟨n1,n2,n3,n4⟩:=YK hn hB.yO;have nb:B6 m i τ (OW (aD x i)):=⟨hB.yO,hB.id,hB.t,hB.c,hB.l,hB.d⟩;have h1:Inv c m s B t K τ i b (xU x i):=h.mod (f:=OW) hx (aj _) nb (aj _);have lw:Kp x (xU x i):=.mod;have ew:aD (xU x i) i=OW (aD x i):=fE hx;have nb2:B6 m i τ (gv n (aD (xU x i) i)):=by rw[ew];exact⟨n1,n2.trans hB.id,hB.t,hB.c,hB.l,hB.d⟩
    have h2:=Inv.mod (f:=gv n) h1 (by rw[lw.len];omega) (aj _) nb2 (by rw[ew];exact aj _);have lz:Kp x (NP x i n):=lw.trans .mod;have ez:aD (NP x i n) i=gv n (OW (aD x i)):=by rw[<-ew];exact fE (by rw[lw.len];omega)
    have h2:Inv c m s B t K τ i b (NP x i n):=h2;generalize NP x i n=z at *;have hxz:i<z.2.2.2.2.2.2.1.length:=by rw[lz.len];omega
    obtain⟨u,pd,p⟩:=p;have zs4:(aD z i).1.2.1=(aD x i).1.2.1:=by rw[ez];exact n3
    have zp4:(aD z i).1.2.2.1.2.1=(aD x i).1.2.2.1.2.1:=by rw[ez];exact congrArg (λz:fB=>z.2.1) n4
    have zin:kM ((aD z i).1)=true:=by rw[ez];exact iV.2 (by show 2<=n.2.1/\n.2.1<=4;rw[n3];exact iV.1 a)
    have zr:(aD z i).2.1=(aD x i).2.1/\(aD z i).2.2.2.2.2.2.2=false/\(aD z i).2.2.2.2.2.2.1=((aD x i).1.2.1==4):=by rw[ez];exact⟨rfl,f,rfl⟩
    have go:∀{r:Net} {K':Nat} {T:Int} {y':Net} {b':Int},K'<=K+9->Inv c m s B t K' τ i b' r->Kp x r->aD r i=aD z i->3*c.M+c.tT x.2.2.2.2.1 (x.2.2.2.2.2.1.2.2+c.S)+(bif decide ((aD x i).1.2.1=4) then c.O0 i ((aD x i).2.1.1) (c.W*((aD x i).2.1.2.1%c.n)) ((aD z i).2.2.2.2.2.2.1) else c.O1 i ((aD x i).2.1.1))<=b'+2*c.M->r.2.2.2.2.2.1.2.2<=T->r8 r (T,1,(i:Int),(aD r i).2.2.2.2.1) y'->Inv c m s B t (K+9) (τ+2) x.2.2.2.2.2.2.1.length 0 y':=λ{r K' T y' b'} hK hr kr er hb hT pr=>by
     have T1:=hc.tm (e:=x.2.2.2.2.1) (t:=x.2.2.2.2.2.1.2.2+c.S) (e':=r.2.2.2.2.1) (t':=r.2.2.2.2.2.1.2.2+c.S) kr.e (by have:=kr.w;omega);have hxr:i<r.2.2.2.2.2.2.1.length:=by rw[kr.len];omega
     refine wk (K':=K') (τ':=τ) hK (by omega) (pr.kp.len.trans kr.len) ?_;have res:=hr.cp hc hxr pr (by show ¬(1:Int)=3;decide) rfl rfl hT (λ_=>?_) λz' z1 z2=>?_
     ·rw[pr.kp.len];omega
     ·rw[er]
      refine .Iu _ zin zr.2.1 rfl (by rw[zp4,zr.1];omega) ?_;rw[zs4,zr.1];omega
     ·rw[er]
      refine .aZ zin rfl ?_;have na:=hc.na (i:=i) (st:=(aD x i).2.1.1) (om:=c.W*((aD x i).2.1.2.1%c.n)) (b:=(aD z i).2.2.2.2.2.2.1);cases k:decide ((aD x i).1.2.1=4)<;>rw[k] at hb<;>simp only[cond_true,cond_false] at hb<;>omega
    have base:3*c.M+c.tT x.2.2.2.2.1 (x.2.2.2.2.2.1.2.2+c.S)+(bif decide ((aD x i).1.2.1=4) then c.O0 i ((aD x i).2.1.1) (c.W*((aD x i).2.1.2.1%c.n)) ((aD z i).2.2.2.2.2.2.1) else c.O1 i ((aD x i).2.1.1))<=b:=by
     have a1:=hc.a1 (i:=i) (b:=(aD z i).2.2.2.2.2.2.1) hsE om.1;have p1:=hc.p1 (i:=i) (q:=(aD x i).1.2.2.1.2.1) hsE;cases k:decide ((aD x i).1.2.1=4)<;>rw[k] at d<;>simp only[cond_true,cond_false] at d ⊢ <;> omega
    have mx:∀(r:Net) (T:Int),r.2.2.2.2.2.1.2.2<=vh r T:=λr T=>by unfold vh;omega
    rcases p with ⟨own,r,ps,p⟩|⟨_,p⟩
    ·have pos:(aD x i).1.2.2.1.2.1=(i:Int):=by omega
     have hmask:(gU (mY z (),10,(i:Int),(aD z i).1.2.2.1)).2=false:=by
      refine ajR ?_ ?_ rfl ?_
      ·show ∀f∈z.2.2.1.2.2.2.2.2.2.2,_
       rw[h2.es];exact E.fm
      ·show(z.2.2.1).2.2.2.2.2.2.2.length<=_
       rw[h2.es];exact E.fl
      ·show(i:Int)=(aD z i).1.2.2.1.2.1
       omega
     have pe:o_ z u 6 1:=pd.2 hmask;have h3:=h2.emi hc hxz pe;have ku:Kp x u:=lz.trans pe.kp;have hxu:i<u.2.2.2.2.2.2.1.length:=by rw[ku.len];omega
     have eu:aD u i=aD z i:=pe.aD i;have hBu:=h3.nd i hxu;have ou:cZ m (aD u i).1=0:=hBu.yO;have good:(re m (aD u i).1).2.2.2=0:=aeh ou (by rw[eu];omega) (by rw[hBu.id,eu];exact(zp4.trans pos));unfold Spk at ps;rw[h3.em] at ps;rcases ps with ⟨k,_⟩|⟨_,w,pw,pr⟩
     ·omega
     have st:=aoI good;have p3:=hc.p3 (i:=i) (t:=x.2.2.2.2.2.1.2.2) hsE sx;rw[pos] at vp;have T1:=hc.tm (e:=x.2.2.2.2.1) (t:=x.2.2.2.2.2.1.2.2+c.S) (e':=u.2.2.2.2.1) (t':=u.2.2.2.2.2.1.2.2+c.S) ku.e (by have:=ku.w;omega);have nbo:B6 m i τ (gv (re m (aD u i).1).1 (aD u i)):=⟨Zx ou good,(agu good).trans hBu.id,hBu.t,hBu.c,hBu.l,hBu.d⟩;have lo:Kp u (cu u (bq u.2.2.2.2.2.2.1 i (gv (re m (aD u i).1).1))):=.mod;have eo:aD (cu u (bq u.2.2.2.2.2.2.1 i (gv (re m (aD u i).1).1))) i=gv (re m (aD u i).1).1 (aD u i):=fE hxu;rcases pw with ⟨s1,pl⟩|⟨s1,rfl⟩
     ·-- it listens
      have no:kM (re m (aD u i).1).1=false:=by
       cases k:kM (re m (aD u i).1).1
       ·rfl
       ·have:=iV.1 k;omega
      rcases pr with ⟨o1,rfl⟩|⟨o1,_⟩
      ·rcases p with ⟨_,rfl⟩|⟨k,_⟩
       ·unfold Lst at pl
        rw[eo,show(cu u (bq u.2.2.2.2.2.2.1 i (gv (re m (aD u i).1).1))).2.1=m from h3.em] at pl;have ee:cu (cu u (bq u.2.2.2.2.2.2.1 i (gv (re m (aD u i).1).1))) (bq (cu u (bq u.2.2.2.2.2.2.1 i (gv (re m (aD u i).1).1))).2.2.2.2.2.2.1 i (rc u.2.2.2.2.2.1.2.2))=cu u (bq u.2.2.2.2.2.2.1 i λy=>rc u.2.2.2.2.2.1.2.2 (gv (re m (aD u i).1).1 y)):=congrArg (cu u) (mod_mod hxu);have pl:r8 (cu u (bq u.2.2.2.2.2.2.1 i λy=>rc u.2.2.2.2.2.1.2.2 (gv (re m (aD u i).1).1 y))) (u.2.2.2.2.2.1.2.2+m.2.1,2,(i:Int),(aD u i).2.2.2.2.1+1) y:=by rw[<-ee];exact pl
        have VLw:c.VL i u.2.2.2.2.2.1.2.2=c.VL i x.2.2.2.2.2.1.2.2:=by rw[ku.w]
        have res:=h3.Gr E (f:=λy=>rc u.2.2.2.2.2.1.2.2 (gv (re m (aD u i).1).1 y)) hxu (n:=(re m (aD u i).1).1) (by
         show(_,_,_,u.2.2.2.2.2.1.2.2,(aD u i).2.2.2.2.1+1,_)=(_,_,_,u.2.2.2.2.2.1.2.2,(aD u i).2.2.2.2.1+1-1+1,_);rw[Int.sub_add_cancel];try rfl) (Zx ou good) ((agu good).trans hBu.id) s1 (by show(aD u i).2.2.2.2.2.2.2=false;rw[eu];exact zr.2.1) ⟨by show(aD u i).2.2.2.2.1<=(aD u i).2.2.2.2.1+1;omega,by show(aD u i).2.2.2.2.1+1<=(aD u i).2.2.2.2.1+2;omega⟩ (by omega) pl
        refine wk (K':=K+6) (τ':=τ+2) (by omega) (by omega) (pl.kp.len.trans (Kp.mod.len.trans ku.len)) ?_;rw[pl.kp.len.trans Kp.mod.len];omega
       ·rw[no] at k;cases k
      ·exact absurd (st.1 o1).1 (by omega)
     ·have h4:=h3.mod (f:=gv (re m (aD u i).1).1) hxu (aj _) nbo (aj _)
      have hxo:i<(cu u (bq u.2.2.2.2.2.2.1 i (gv (re m (aD u i).1).1))).2.2.2.2.2.2.1.length:=by rw[lo.len];omega
      rcases pr with ⟨o1,rfl⟩|⟨o1,o2,pr⟩
      ·-- it stops
       have s5:=(st.2 o1).resolve_left s1;have no:kM (re m (aD u i).1).1=false:=by
        cases k:kM (re m (aD u i).1).1
        ·rfl
        ·have:=iV.1 k;omega
       rcases p with ⟨_,rfl⟩|⟨k,_⟩
       ·have VLw:c.VL i u.2.2.2.2.2.1.2.2=c.VL i x.2.2.2.2.2.1.2.2:=by rw[ku.w]
        exact wk (by omega) (by omega) (lo.len.trans ku.len) (h4.cl hc hxo (.off (.inr (by rw[eo];exact s5)) rfl (by show c.VL i u.2.2.2.2.2.1.2.2+c.tT u.2.2.2.2.1 (u.2.2.2.2.2.1.2.2+c.S)<=_;omega)))
       ·rw[no] at k;cases k
      ·-- it sends
       have h5:=h4.emi hc hxo pr;rcases p with ⟨k,_⟩|⟨_,p⟩
       ·rw[o2] at k;cases k
       ·have kr:Kp x r.1:=(ku.trans lo).trans pr.kp
        have hxr:i<r.1.2.2.2.2.2.2.1.length:=by rw[kr.len];omega
        have er:aD r.1 i=gv (re m (aD u i).1).1 (aD u i):=(pr.aD i).trans eo;have T2:=hc.tm (e:=x.2.2.2.2.1) (t:=x.2.2.2.2.2.1.2.2+c.S) (e':=r.1.2.2.2.2.1) (t':=r.1.2.2.2.2.2.1.2.2+c.S) kr.e (by have:=kr.w;omega);have p5:=hc.p5 (i:=i) hsE om;have a1:=hc.a1 (i:=i) (b:=(aD u i).2.2.2.2.2.2.1) hsE om.1;have st4:=(st.1 o1).1;have in4:kM (re m (aD u i).1).1=true:=iV.2 (by omega);have val:3*c.M+c.O0 i ((aD x i).2.1.1) (c.W*((aD x i).2.1.2.1%c.n)) ((aD u i).2.2.2.2.2.2.1)+c.tT x.2.2.2.2.1 (x.2.2.2.2.2.1.2.2+c.S)<=b:=by
         by_cases k:(aD x i).1.2.1=4
         ·rw[da k,cond_true] at d;omega
         ·have:(aD u i).2.2.2.2.2.2.1=false:=by rw[eu,zr.2.2];exact beq_false_of_ne k
          rw[this];omega
        have na:=hc.na (i:=i) (st:=(aD x i).2.1.1) (om:=c.W*((aD x i).2.1.2.1%c.n)) (b:=(aD u i).2.2.2.2.2.2.1);refine wk (K':=K+6+3) (τ':=τ) (by omega) (by omega) (p.kp.len.trans kr.len) ?_;have res:=h5.cp hc hxr p (by show ¬(1:Int)=3;decide) rfl rfl (mx _ _) (λ_=>?_) λz' z1 z2=>?_
        ·rw[p.kp.len];omega
        ·rw[er]
         refine .Iu _ in4 (by show(aD u i).2.2.2.2.2.2.2=false;rw[eu];exact zr.2.1) rfl ?_ ?_
         ·show(re m (aD u i).1).1.2.2.1.2.1=(aD u i).2.1.2.1%c.n
          rw[(st.1 o1).2,eu,zr.1,zp4];omega
         ·show(bif decide ((re m (aD u i).1).1.2.1=4) then c.O0 i (aD u i).2.1.1 (c.W*((aD u i).2.1.2.1%c.n)) ((aD u i).2.2.2.2.2.2.1) else _)+_<=_
          rw[da st4,cond_true,show(aD u i).2.1=(aD x i).2.1 from(congrArg (λz:cm=>z.2.1) eu).trans zr.1];omega
        ·rw[er]
         exact .aZ in4 rfl (by omega)
    ·have pe:o_ z u 6 2:=pd.1
     have h3:=h2.emi hc hxz pe;exact go (by omega) h3 (lz.trans pe.kp) (pe.aD i) (by omega) (mx _ _) p
theorem Inv.Ix{y:Net}{e:jc}(v:i<x.2.2.2.2.2.2.1.length)(he:e.2.1=2)(hw:e.1=x.2.2.2.2.2.1.2.2)(Y:yG c i x.2.2.2.2.2.1.2.2 x.2.2.2.2.1 (aD x i) [e] b)(p:Tck x i y):Inv c m s B t (K+3) (τ+2) x.2.2.2.2.2.2.1.length 0 y:=by
 have n:=E.ok;have j:=h.nd i v;have X:=E.S;have W:=E.D;have hn:=E.n;have hm:=wQ E.ml;have hD:=n.D;have nw:=n.nw;cases Y with
 | aZ a q d=>cases q
 | beg t a e q s u p d=>simp_all
 | Iu t a f q p d=>simp_all
 | Gr a e s q u d=>cases q
 | off a q d=>cases q
 | pow t a e q d=>simp_all
 | Ix t a f P q u d=>
   injection q with q _;have I:t=x.2.2.2.2.2.1.2.2:=by simp_all
   subst I;have M0:=n.nn (i:=i) (e:=x.2.2.2.2.1) (t:=x.2.2.2.2.2.1.2.2);have Z:∀(r:Net) (T:Int),r.2.2.2.2.2.1.2.2<=vh r T:=λr T=>by unfold vh;omega
   unfold Tck at p;rw[h.em] at p;rcases p with ⟨k,_⟩|⟨g,⟨G,o,hd,p⟩|⟨G,w,O,p⟩⟩
   ·exact absurd (abO j.yO a) k
   ·have A:=(abQ g).2.1 G
    have N:B6 m i τ (HY (iF m (aD x i).1).1 (aD x i)):=⟨TS j.yO g,(abP g).trans j.id,j.t,j.c,j.l,j.d⟩;have H:=h.mod (f:=HY (iF m (aD x i).1).1) v (aj _) N (aj _);have C:aD (cu x (bq x.2.2.2.2.2.2.1 i (HY (iF m (aD x i).1).1))) i=HY (iF m (aD x i).1).1 (aD x i):=fE v;have l1:(cu x (bq x.2.2.2.2.2.2.1 i (HY (iF m (aD x i).1).1))).2.2.2.2.2.2.1.length=x.2.2.2.2.2.2.1.length:=bJ;have S:vh x (x.2.2.2.2.2.1.2.2+(m.2.1+o))=x.2.2.2.2.2.1.2.2+(c.S+o):=by unfold vh;omega
    rw[S] at p;have l:=H.cp n (by omega) p (by grind) rfl (by rw[C];rfl) (by show x.2.2.2.2.2.1.2.2<=x.2.2.2.2.2.1.2.2+(c.S+o);omega) (λq=>?_) λz z1 Q=>?_
    ·rw[l1] at l;exact l.weak (by omega) (by omega) (aj _)
    ·rw[C]
     have l3:=n.l3 (t:=x.2.2.2.2.2.1.2.2) (d:=o) (by omega) (e:=x.2.2.2.2.1) q;refine .Ix _ A f P rfl (by show x.2.2.2.2.2.1.2.2+(c.S+o)<=x.2.2.2.2.2.1.2.2+_+_;omega) ?_;show c.VL i ((aD x i).2.2.2.1)+c.tT x.2.2.2.2.1 (x.2.2.2.2.2.1.2.2+(c.S+o))<=_;omega
    ·rw[C]
     refine .Gr A f P rfl (by have Q:z<=x.2.2.2.2.2.1.2.2+(c.S+o):=Q;show z<=x.2.2.2.2.2.1.2.2+_+_;omega) ?_;show c.VL i ((aD x i).2.2.2.1)<=_;omega
   ·have A:=(abQ g).2.2 G
    have N:B6 m i (τ+2) (yJ (iF m (aD x i).1).1 (x.2.2.2.2.2.1.2.2,(i:Int), []) (aD x i)):=⟨TS j.yO g,(abP g).trans j.id,⟨by show 0<=(aD x i).2.2.2.2.1+1;have:=j.t;omega,by show(aD x i).2.2.2.2.1+1<=_;have:=j.t;omega⟩,⟨h.now.1,by show x.2.2.2.2.2.1.2.2<=_;have:=h.now.2;have:=E.E;omega⟩,by show 0<=(i:Int);omega,by show([]:List Int).length<=8;decide⟩;have H:=h.mod (f:=yJ (iF m (aD x i).1).1 (x.2.2.2.2.2.1.2.2,(i:Int), [])) v (by omega) N (by show(aD x i).2.2.2.2.1<=(aD x i).2.2.2.2.1+1;omega);have C:aD (cu x (bq x.2.2.2.2.2.2.1 i (yJ (iF m (aD x i).1).1 (x.2.2.2.2.2.1.2.2,(i:Int), [])))) i=yJ (iF m (aD x i).1).1 (x.2.2.2.2.2.1.2.2,(i:Int), []) (aD x i):=fE v;have l1:Kp x (cu x (bq x.2.2.2.2.2.2.1 i (yJ (iF m (aD x i).1).1 (x.2.2.2.2.2.1.2.2,(i:Int), [])))):=.mod;have V:=H.emi n (by rw[l1.len];exact v) O;have kw:=l1.trans O.kp;have F:aD w i=yJ (iF m (aD x i).1).1 (x.2.2.2.2.2.1.2.2,(i:Int), []) (aD x i):=(O.aD i).trans C;have J:i<w.2.2.2.2.2.2.1.length:=by rw[kw.len];exact v
    have l2:=n.l2 (i:=i) P;have T1:=n.tm (e:=x.2.2.2.2.1) (t:=x.2.2.2.2.2.1.2.2) (e':=w.2.2.2.2.1) (t':=w.2.2.2.2.2.1.2.2+c.S) kw.e (by have:=kw.w;omega);have na:=n.na (i:=i) (st:=x.2.2.2.2.2.1.2.2) (om:=0) (b:=false);have D:kM (iF m (aD x i).1).1=true:=iV.2 (by rw[A.1];decide);have l:=V.cp n J p (by show ¬(1:Int)=3;decide) rfl (by rw[F];rfl) (Z _ _) (λq=>?_) λz z1 Q=>?_
    ·rw[kw.len] at l;exact l
    ·rw[F]
     refine .Iu _ D f rfl ?_ ?_
     ·show(iF m (aD x i).1).1.2.2.1.2.1=(i:Int)%c.n
      rw[A.2,j.id,nc (by omega) (by have:=h.en;omega)]
     ·show(bif decide ((iF m (aD x i).1).1.2.1=4) then _ else c.O1 i x.2.2.2.2.2.1.2.2)+_<=_
      rw[A.1,show decide ((2:Int)=4)=false from rfl,cond_false];omega
    ·rw[F]
     exact .aZ D rfl (by omega)
theorem Inv.pow{y:Net}{e:jc}(j:i<x.2.2.2.2.2.2.1.length)(D:e.2.1=5)(A:yG c i x.2.2.2.2.2.1.2.2 x.2.2.2.2.1 (aD x i) [e] b)(p:Pwr x i true y):Inv c m s B t K (τ+2) x.2.2.2.2.2.2.1.length 0 y:=by
 have o:=E.ok;have l:=h.nd i j;cases A with
 | aZ a q d=>cases q
 | beg t a e q s u p d=>simp_all
 | Iu t a f q p d=>simp_all
 | Gr a e s q u d=>cases q
 | Ix t a f F q u d=>simp_all
 | off a q d=>cases q
 | pow t a f q d=>
   have C:=o.nn (i:=i) (e:=x.2.2.2.2.1) (t:=x.2.2.2.2.2.1.2.2);rcases p with ⟨_,rfl⟩|⟨g,⟨k,_⟩|⟨_,p⟩⟩
   ·exact(h.cl o j (.off (.inl a) rfl (by omega))).weak (ah _) (by omega) (aj _)
   ·cases k
   ·rw[h.em] at g p
    have v:(cu x (bq x.2.2.2.2.2.2.1 i (oK (jv m (aD x i).1 true).1))).2.1=m:=h.em;have z:aD (cu x (bq x.2.2.2.2.2.2.1 i (oK (jv m (aD x i).1 true).1))) i=oK (jv m (aD x i).1 true).1 (aD x i):=fE j;unfold Lst at p;rw[z,v] at p;have r:cu (cu x (bq x.2.2.2.2.2.2.1 i (oK (jv m (aD x i).1 true).1))) (bq (cu x (bq x.2.2.2.2.2.2.1 i (oK (jv m (aD x i).1 true).1))).2.2.2.2.2.2.1 i (rc x.2.2.2.2.2.1.2.2))=cu x (bq x.2.2.2.2.2.2.1 i λy=>rc x.2.2.2.2.2.1.2.2 (oK (jv m (aD x i).1 true).1 y)):=congrArg (cu x) (mod_mod j);have p:r8 (cu x (bq x.2.2.2.2.2.2.1 i λy=>rc x.2.2.2.2.2.1.2.2 (oK (jv m (aD x i).1 true).1 y))) (x.2.2.2.2.2.1.2.2+m.2.1,2,(i:Int),(aD x i).2.2.2.2.1+1+1) y:=by rw[<-r];exact p
    exact h.Gr E (f:=λy=>rc x.2.2.2.2.2.1.2.2 (oK (jv m (aD x i).1 true).1 y)) j (n:=(jv m (aD x i).1 true).1) (by
     show(_,_,_,x.2.2.2.2.2.1.2.2,(aD x i).2.2.2.2.1+1+1,_)=(_,_,_,x.2.2.2.2.2.1.2.2,(aD x i).2.2.2.2.1+1+1-1+1,_);rw[Int.sub_add_cancel];try rfl) (Bs l.yO g) ((Lx g).trans l.id) ((Qj g).1 rfl).2 rfl ⟨by show(aD x i).2.2.2.2.1<=(aD x i).2.2.2.2.1+1+1;omega,by show(aD x i).2.2.2.2.1+1+1<=(aD x i).2.2.2.2.1+2;omega⟩ (by omega) p
end
section
variable {c:Mc} {m:ax} {s:ia} {B t K:Nat} (E:Env c m s)
include E
theorem Inv.sn1{k:Nat}{sa:sH}(h:Inv c m s B t K τ ex b x)(S:¬ex<x.2.2.2.2.2.2.1.length)(F:k<x.2.2.2.2.2.2.1.length)(p:Sn1 sa k x y):Inv c m s B t K (τ+1) ex b y/\Kp x y:=by
 have o:=E.ok;have n:=h.nd k F;have hn:=E.n;have hG:=E.G;have hL:=E.L;have hm:=wQ E.ml;have C:k≠ex:=by omega
 have Y:∀(r:Net) (T:Int),r.2.2.2.2.2.1.2.2<=vh r T:=λr T=>by unfold vh;omega
 rcases p with rfl|⟨a1,a2,l,Q,g,p⟩
 ·exact⟨h.weak (ah _) (by omega) (aj _),.id⟩
 rw[h.em] at g p;have P:=ajY g;rcases p with ⟨G,rfl⟩|⟨G,p⟩
 ·have I:B6 m k τ (gv (lg m (aD x k).1 l true).1 (aD x k)):=⟨SG n.yO g,(YH g).trans n.id,n.t,n.c,n.l,n.d⟩
  have O:=P.2.1 G;have q:¬(2<=(aD x k).1.2.1/\(aD x k).1.2.1<=4):=by omega
  refine⟨((h.oth (f:=gv (lg m (aD x k).1 l true).1) (d:=0) (aj _) (.inr rfl) F C (aj _) I (aj _) o λv J=>?_).weak (ah _) (by omega) (by omega)),.mod⟩;rw[Int.add_zero];cases J with
  | aZ a b d=>exact absurd (iV.1 a) q
  | beg t a e b s u p d=>exact absurd (iV.1 a) q
  | Iu t a e b p d=>exact absurd (iV.1 a) q
  | Gr a e s b u d=>exact .Gr O e s b u d
  | Ix t a e s b u d=>exact .Ix t O e s b u d
  | off a b d=>omega
  | pow t a e b d=>omega
 ·obtain⟨Z,v,H,v1,v2⟩:=P.2.2 G
  rcases p with rfl|⟨j,p⟩
  ·exact⟨h.weak (ah _) (by omega) (aj _),.id⟩
  rw[h.em] at j p;obtain⟨j1,j2,N,W,X⟩:=Xd j;rw[W] at p;have D:=(Ax (w:=m.2.2.2.1) (by omega)).1 X;have V:v.1=2:=by
   simp[Cv,fQ,sK] at v2;omega
  have v3:=(Q v H V).1;have A:kM (lg m (aD x k).1 l true).1=true:=iV.2 (by omega);have I:B6 m k (τ+1) (jnY (lg m (aD x k).1 l true).1 ((lg m (aD x k).1 l true).2.1-(m.2.2.1+m.2.2.2.2.2.1),(lg m (aD x k).1 l true).1.2.2.1.2.1, []) (aD x k)):=⟨SG n.yO g,(YH g).trans n.id,⟨by show 0<=(aD x k).2.2.2.2.1+1;have:=n.t;omega,by show(aD x k).2.2.2.2.1+1<=_;have:=n.t;omega⟩,⟨D.1.1,dn D.1.2 (by decide)⟩,N.1,by show([]:List Int).length<=8;decide⟩;have q:¬(2<=(aD x k).1.2.1/\(aD x k).1.2.1<=4):=by omega
  have l1:=o.l1 (i:=k) (t:=(aD x k).2.2.2.1) (st:=(lg m (aD x k).1 l true).2.1-(m.2.2.1+m.2.2.2.2.2.1)) (by omega);have na:=o.na (i:=k) (st:=(lg m (aD x k).1 l true).2.1-(m.2.2.1+m.2.2.2.2.2.1)) (om:=0) (b:=false);have M0:=o.nn (i:=k) (e:=x.2.2.2.2.1) (t:=x.2.2.2.2.2.1.2.2+c.S);refine⟨(h.mp (d:=0) (aj _) (.inr rfl) F C (by omega) I (by show(aD x k).2.2.2.2.1<=(aD x k).2.2.2.2.1+1;omega) (h.none F (by show(aD x k).2.2.2.2.1<(aD x k).2.2.2.2.1+1;omega)) o p (by grind) rfl rfl (Y _ _) λv J=>?_).weak (ah _) (aj _) (by omega),Kp.mod.trans p.kp⟩;have H:c.VL k ((aD x k).2.2.2.1)+c.tT x.2.2.2.2.1 (x.2.2.2.2.2.1.2.2+c.S)<=v+(c.n+1)*c.D/\(aD x k).2.2.2.2.2.2.2=false:=by
   cases J with
   | aZ a b d=>exact absurd (iV.1 a) q
   | beg t a e b s u p d=>exact absurd (iV.1 a) q
   | Iu t a e b p d=>exact absurd (iV.1 a) q
   | Gr a e s b u d=>have:=o.t0 (e:=x.2.2.2.2.1) (t:=x.2.2.2.2.2.1.2.2) u;grind
   | Ix t a e s b u d=>have:=o.td (e:=x.2.2.2.2.1) (t:=x.2.2.2.2.2.1.2.2) u;exact⟨by omega,e⟩
   | off a b d=>omega
   | pow t a e b d=>omega
  refine⟨λ_=>.Iu _ A H.2 rfl ?_ ?_,λz _ _=>.aZ A rfl (by omega)⟩
  ·show(lg m (aD x k).1 l true).1.2.2.1.2.1=(lg m (aD x k).1 l true).1.2.2.1.2.1%c.n
   rw[nc N.1 (by omega)]
  ·show(bif decide ((lg m (aD x k).1 l true).1.2.1=4) then _ else c.O1 k ((lg m (aD x k).1 l true).2.1-(m.2.2.1+m.2.2.2.2.2.1)))+_<=_
   rw[Z,show decide ((3:Int)=4)=false from rfl,cond_false];omega
theorem Inv.sns{g:sH}:∀{f k ex:Nat} {τ b:Int} {x y:Net},Inv c m s B t K τ ex b x->¬ex<x.2.2.2.2.2.2.1.length->k+f<=x.2.2.2.2.2.2.1.length->WI g f k x y->Inv c m s B t K (τ+(f:Int)) ex b y/\Kp x y
 | 0,k,ex,τ,b,x,y,h,_,_,p=>by
   rw[show y=x from p];exact⟨h.weak (ah _) (by omega) (aj _),.id⟩
 | f+1,k,ex,τ,b,x,y,h,he,hk,⟨z,p,q⟩=>by
   obtain⟨a,l1⟩:=h.sn1 E he (by omega) p;obtain⟨e,l2⟩:=Inv.sns (f:=f) (k:=k+1) a (by rw[l1.len];omega) (by rw[l1.len];omega) q;exact⟨e.weak (ah _) (by omega) (aj _),l1.trans l2⟩
end
section
variable {c:Mc} {m:ax} {s:ia} {B t K:Nat} {τ:Int} {b:Int} {x:Net} (E:Env c m s) (h:Inv c m s B t K τ x.2.2.2.2.2.2.1.length b x)
include E h
theorem Inv.pop{l:List jc}(g:(e::l).Perm x.2.2.2.2.2.1.2.1)(J:Ku l)(N:∀z∈x.2.2.2.2.2.1.2.1,e.1<=z.1):
  ((e.2.1=3\/∀i,i<x.2.2.2.2.2.2.1.length->e.2.2.1=(i:Int)->e.2.2.2≠(aD x i).2.2.2.2.1)->Inv c m s B (t+1) K τ x.2.2.2.2.2.2.1.length b (tg x l e.1))/\
  ∀i,i<x.2.2.2.2.2.2.1.length->e.2.1≠3->e.2.2.1=(i:Int)->e.2.2.2=(aD x i).2.2.2.2.1->∃n,Inv c m s B (t+1) K τ i n (tg x l e.1)/\yG c i e.1 x.2.2.2.2.1 (aD x i) [e] n:=by
 have C:=E.ok;have u:∀z∈l,z∈x.2.2.2.2.2.1.2.1:=λz k=>g.mem_iff.1 (.tail _ k);have o:=h.hw e (g.mem_iff.1 (.head _));have r:=g.length_eq;rw[bA] at r;have O:yH (tg x l e.1):=⟨h.q.made,by have:=h.q.len;show l.length<=_;omega,J⟩;have A:(((x.2.2.2.2.2.1.2.1.length+t:Nat):Int))=((l.length+(t+1):Nat):Int):=by omega
 obtain⟨v,W,y,V⟩:=h.vs
 have f:∀(ex:Nat) (n:Int),(ex<x.2.2.2.2.2.2.1.length->lv l ex ((aD x ex).2.2.2.2.1)=[])->(∃v:Nat->Int,(ex<x.2.2.2.2.2.2.1.length->n<=v ex)/\(∀i,i<x.2.2.2.2.2.2.1.length->i≠ex->yG c i e.1 x.2.2.2.2.1 (aD x i) (lv l i ((aD x i).2.2.2.2.1)) (v i))/\CZ v x.2.2.2.2.2.2.1.length+c.M*((l.length+(t+1):Nat):Int)<=c.M*(B:Int))->Inv c m s B (t+1) K τ ex n (tg x l e.1):=λex n P Q=>
  ⟨O,h.mad,h.em,h.es,h.en,⟨dn h.now.1 o.1,o.2⟩,h.ee,λz k=>⟨N z (u z k),(h.hw z (u z k)).2⟩,λz k=>h.h3 z (u z k),λz k=>h.hi z (u z k),h.ch,h.sn,h.nd,P,Q⟩
 refine⟨λk=>f _ _ (λq=>absurd q (dw _)) ⟨v,λq=>absurd q (dw _),λi p _=>?_,by simp_all⟩,λi p F G H=>⟨v i,f i (v i) (λ_=>?_) ⟨v,λ_=>aj _,λj I D=>?_,by rw[<-A];exact V⟩,?_⟩⟩
 ·have:=pO (i:=i) (t:=(aD x i).2.2.2.2.1) g
  rw[Gt λa=>k.elim (λq=>a.1 q) λq=>q i p a.2.1 a.2.2] at this;exact((y i p (by omega)).mono C o.1 (aj _) (aj _)).perm this
 ·have q:=y i p (by omega)
  have:=pO (i:=i) (t:=(aD x i).2.2.2.2.1) g;rw[Gs F G H] at this;have l2:=this.length_eq;rw[bA] at l2;rcases q.short with q|⟨z,q⟩
  all_goals simp_all
 ·have:=pO (i:=j) (t:=(aD x j).2.2.2.2.1) g
  rw[Gt λa=>D (by have:=a.2.1;omega)] at this;exact((y j I (by omega)).mono C o.1 (aj _) (aj _)).perm this
 ·have q:=y i p (by omega)
  have p2:=pO (i:=i) (t:=(aD x i).2.2.2.2.1) g;rw[Gs F G H] at p2;have S:lv l i ((aD x i).2.2.2.2.1)=[]:=by
   have l2:=p2.length_eq;rw[bA] at l2;rcases q.short with q|⟨z,q⟩
   ·rw[q] at l2;exact absurd l2 (by rw[tc];omega)
   ·rw[q,bw] at l2
    exact cq.1 (by omega)
  rw[S] at p2;exact(q.mono C o.1 (aj _) (aj _)).perm p2
theorem Inv.act{e:jc}{l:List jc}{y:Net}(hp:(e::l).Perm x.2.2.2.2.2.1.2.1)(hl:Ku l)(hm:∀z∈x.2.2.2.2.2.1.2.1,e.1<=z.1)(p:Act e (tg x l e.1) y):Inv c m s B (t+1) (K+9) (τ+16) y.2.2.2.2.2.2.1.length 0 y:=by
 obtain⟨p1,p2⟩:=h.pop E hp hl hm;have z0:∀{K':Nat} {τ':Int} {y:Net},Inv c m s B (t+1) K' τ' x.2.2.2.2.2.2.1.length 0 y->K'<=K+9->τ'<=τ+16->Inv c m s B (t+1) (K+9) (τ+16) y.2.2.2.2.2.2.1.length 0 y:=λ{K' τ' y} g k1 k2=>by
  have e:y.2.2.2.2.2.2.1.length=x.2.2.2.2.2.2.1.length:=by have:=g.en;have:=h.en;omega
  rw[e];exact g.weak k1 k2 (aj _)
 have any:∀{K':Nat} {τ':Int} {y:Net},Inv c m s B (t+1) K' τ' x.2.2.2.2.2.2.1.length b y->K'<=K+9->τ'<=τ+16->Inv c m s B (t+1) (K+9) (τ+16) y.2.2.2.2.2.2.1.length 0 y:=λ{K' τ' y} g k1 k2=>by
  have e:y.2.2.2.2.2.2.1.length=x.2.2.2.2.2.2.1.length:=by have:=g.en;have:=h.en;omega
  obtain⟨v,v1,v2,v3⟩:=g.vs;refine z0 (y:=y) ⟨g.q,g.mad,g.em,g.es,g.en,g.now,g.ee,g.hw,g.h3,g.hi,g.ch,g.sn,g.nd,λq=>absurd q (by omega),⟨v,λq=>absurd q (by omega),λi hi ne=>v2 i hi ne,v3⟩⟩ k1 k2
 have hn8:(x.2.2.2.2.2.2.1.length:Int)<=8:=by have:=h.en;have:=wQ E.ml;omega
 rcases p with ⟨k,p⟩|⟨k,⟨st,rfl⟩|⟨tt,nf,p⟩⟩
 ·obtain⟨g,_⟩:=Inv.sns E (p1 (.inl k)) (dw _) (jj (gx _)) p
  exact any (g.weak (ah _) (by show τ+(x.2.2.2.2.2.2.1.length:Int)<=τ+16;omega) (aj _)) (by omega) (by omega)
 ·refine any (p1 (.inr λi hi ki kt=>?_)) (by omega) (by omega)
  have hi2:e.2.2.1.toNat=i:=by omega
  rw[hi2] at st;rcases st with st|st
  ·exact st kt.symm
  ·obtain⟨b',g,nv⟩:=p2 i hi k ki kt
   have st:(aD x i).2.2.2.2.2.2.2=true:=st;cases nv with
   | aZ a q d=>cases q
   | beg t a e q s u p d=>grind
   | Iu t a f q p d=>grind
   | Gr a e s q u d=>cases q
   | Ix t a f si q u d=>rw[f] at st;cases st
   | off a q d=>cases q
   | pow t a f q d=>rw[f] at st;cases st
 ·obtain⟨i,ki,hi,_⟩:=h.hi e (hp.mem_iff.1 (.head _)) k
  have hi2:e.2.2.1.toNat=i:=by omega
  rw[hi2] at tt p;obtain⟨b',g,nv⟩:=p2 i hi k ki tt.symm;rcases p with ⟨k1,p⟩|⟨k1,p⟩|⟨k1,p⟩|⟨k1,k2,k3,p⟩
  ·exact z0 (g.Iu E hi k1 nv p) (by omega) (by omega)
  ·exact z0 (g.Ix E hi k1 rfl nv p) (by omega) (by omega)
  ·exact z0 (g.pow E hi k1 nv p) (by omega) (by omega)
  ·exact z0 (g.bgn E hi ⟨k1,k2,k3⟩ rfl nv p) (by omega) (by omega)
end
theorem Uf{e x:Int}(h:e<=a):e<=vx e a x/\vx e a x<=a:=by
 unfold vx;rw[oR,v_];omega
theorem Bv{l:List Int}{n:Nat}{e f:Int}:(rowP l n e a f).length=n:=by
 unfold rowP
 grind
theorem Tn{l:List Int}{n:Nat}{lo hi ms:Int}(h:lo<=hi)(e:lo<=ms/\ms<=hi):∀x∈rowP l n lo hi ms,lo<=x/\x<=hi:=λx a=>by
 rcases oJ.1 a with a|a
 ·obtain⟨y,_,rfl⟩:=dy.1 a
  exact Uf h
 simp_all
theorem amK{x:Int×Bool}:b<=BV b x:=by
 unfold BV;cases decide (0<wL (sO (x.2,x.1),x.1))
 ·simp_all
 ·rw[cond_true,v_];omega
theorem F8{α:Type}{f:Int->α->Int}(h:∀b x,b<=f b x):∀(l:List α) (b:Int),b<=l.foldl f b
 | [],_=>aj _
 | x::l,b=>dn (h b x) (F8 h l (f b x))
theorem adg:30<=iZ m:=by
 exact dn (show(30:Int)<=qo (wL (1,0)) by decide +kernel) (F8 (λb x=>F8 (λ_ _=>amK) _ b) _ _)
def P8(m:ax)(E:Int):Mc:=⟨m.1,m.2.1,m.2.2.1,m.2.2.2.1,m.2.2.2.2.1,m.2.2.2.2.2.1,E⟩
theorem anP{E:Int}(h:dq m=true):yF (P8 m E):=by
 have a:=wQ h;have e:=adg (m:=m);exact⟨by show m.1=4\/m.1=5\/m.1=6\/m.1=7\/m.1=8;omega,a.2.1,a.2.2.1,a.2.2.2.1.1,a.2.2.2.2.1.1,by show 2*m.2.2.1+30<=m.2.1;omega⟩
theorem XQ{f:fO}(h:nJ (m,f)=true)(k:f.1=10):f.2.2.2.2.1≠f.2.1:=by
 revert h;refine Ks (t:=amq af m f) (P:=λr=>r=true->f.2.2.2.2.1≠f.2.1) ?_ (LT.kF (by rfl)) (LT.bE (by rfl));have a:Go Empty.elim (.ret false) λr=>r=true->f.2.2.2.2.1≠f.2.1:=aK nofun
 exact dO (λ_=>a) λ_=>cJ (λ_=>a) λ_=>vE (λ_=>a) λ_=>dC (λ_=>dC (λ_=>a) λe=>dO (λ_=>a) λ_=>dO (λ_=>a) λ_=>dO (λ_=>a) λ_=>dO (λ_=>a) λ_=>dO (λ_=>a) λ_=>aK λ_=>e) λe=>absurd k e
theorem Xi{x:fO}{l:List fO}:∀{a:fO},x∈vy a l->x∈l:=by
 induction l with
 | nil=>intro a h;cases h
 | cons b l ih=>
   intro a h;unfold vy at h
   grind
theorem XS{l:List fO}{f:fO}(h:f∈tO m l):nJ (m,f)=true:=by
 unfold tO at h;cases k:decide (jM m=0)
 ·simp_all
 ·rw[k,cond_true] at h
  have:f∈(l.filter λf=>nJ (m,f)).mergeSort λa b=>!(ua b a):=by
   revert h;generalize (l.filter λf=>nJ (m,f)).mergeSort (λa b=>!(ua b a))=L;intro h;cases L with
   | nil=>cases h
   | cons a L=>
     rcases aF.1 h with rfl|h
     ·simp_all
     ·exact .tail _ (Xi h)
  simp_all
theorem ako(h:0<=d/\d<=1048576):af.u .neg .i64 d = -d:=by
 show IntKind.i64.wrap (0-d)=_;rw[lC (by omega) (by omega)];omega
theorem Pt{E:Int}(h:dq m=true)(a:0<=E/\E<=1000000000000):Env (P8 m E) m (dA m s):=by
 have g:=wQ h;refine⟨h,anP h,rfl,rfl,rfl,rfl,rfl,rfl,a,?_,λf e=>?_,?_,?_,?_,?_,?_⟩
 ·show(List.take 256 _).length<=_;grind
 ·exact XQ (XS (List.mem_of_mem_take e))
 ·show m.1<=((rowP _ _ _ _ _).length:Int);rw[Bv];omega
 ·show m.1<=((rowP _ _ _ _ _).length:Int);rw[Bv];omega
 ·show(rowP _ _ _ _ _).length<=_;rw[Bv];omega
 ·show ∀v∈rowP _ _ _ _ _,_
  rw[ako (by omega)];exact Tn (by omega) (by omega)
 ·show(Vk _).length<=_
  have:∀l,(Vk l).length=l.length:=λl=>qE;rw[this,aoO,c_];omega
theorem yF.vl(h:yF c)(e:0<=c.E):c.VL i 0+c.tT c.E c.S<=Mc.k i*(c.n*(c.E+2*c.S))+(4*c.M+(c.n+1)*c.E):=by
 obtain⟨n,a,g,l,f,j⟩:=h;have kw:=c.kw i;simp[Mc.VL,Mc.M,Mc.bs,Mc.tT] at *
 grind
theorem aas{v:Nat->Int}{X Y:Int}(f:0<=X)(h:∀i,v i<=Mc.k i*X+Y):∀n:Nat,CZ v (n+1)<=(13*((n+1:Nat):Int)+4)*X+((n+1:Nat):Int)*Y
 | 0=>by
   have:=h 0;show 0+v 0<=17*X+1*Y;have e:Mc.k 0=17:=rfl
   simp_all
 | n+1=>by
   have a:=aas f h n;have b:=h (n+1);have e:Mc.k (n+1)=13:=rfl;rw[CZ]
   grind
variable{N:Nat}
theorem yF.sum(h:yF c)(l:(N:Int)=c.n)(f:0<=c.E):(c.E<=c.S*(18*c.n+1)+64*c.W->CZ (λi=>c.VL i 0+c.tT c.E c.S) N<=c.M*19999)/\(c.E<=c.S*(40*c.n+1)->CZ (λi=>c.VL i 0+c.tT c.E c.S) N<=c.M*40000):=by
 have q:0<=c.n*(c.E+2*c.S):=by
  obtain⟨a,e,j,p,g,o⟩:=h
  grind
 obtain⟨n,rfl⟩:∃n,N=n+1:=⟨N-1,by rcases h.n with h|h|h|h|h<;>omega⟩;have s:=aas q (λi=>h.vl (i:=i) f) n;rw[l] at s;obtain⟨a,e,j,p,g,o⟩:=h;obtain⟨n,S,G,W,D,L,E⟩:=c;simp only[Mc.M] at *;rcases a with rfl|rfl|rfl|rfl|rfl<;>constructor<;>intro r<;>omega
def adh:Nat->(List Bool->Bool)->Bool
 | 0,p=>p []
 | n+1,p=>adh n (λl=>p (true::l))&&adh n λl=>p (false::l)
theorem KF:∀{n:Nat} {p:List Bool->Bool} {l:List Bool},adh n p=true->l.length=n->p l=true
 | 0,p,l,h,hl=>by rw[cq.1 hl];exact h
 | n+1,p,true::l,h,hl=>KF (p:=λl=>p (true::l)) ((fQ _ _).mp h).1 (Nat.succ.inj hl)
 | n+1,p,false::l,h,hl=>KF (p:=λl=>p (false::l)) ((fQ _ _).mp h).2 (Nat.succ.inj hl)
def tC:List Bool->Nat->Int->Int
 | [],_,s=>s
 | u::l,i,s=>tC l (i+1) (bif u then af.b .or .i64 s (af.b .shl .i64 1 (i:Int)) else s)
def agB(l:List Bool):Bool:=decide (0<=tC l 0 0/\tC l 0 0<=af.b .shl .i64 1 (l.length:Int)-1)&&(List.range l.length).all λi=>!l.getD i false||qW (tC l 0 0) (i:Int)
variable{l:List Bool}
theorem QV(h:4<=l.length/\l.length<=8):agB l=true:=by
 have a:∀n:Fin 5,adh (n.val+4) agB=true:=by decide +kernel
 exact KF (a ⟨l.length-4,by omega⟩) (by simp_all)
structure Bas(m:ax)(s:ia)(K:Nat)(τ:Int)(x:Net):Prop where
 q:yH x
 em:x.2.1=m
 es:x.2.2.1=s
 en:(x.2.2.2.2.2.2.1.length:Int)=m.1
 now:0<=x.2.2.2.2.2.1.2.2/\x.2.2.2.2.2.1.2.2<=1000000000000
 ch:x.2.2.2.2.2.2.2.1.length<=K/\x.2.2.2.2.2.2.2.2.1.length<=K/\x.2.2.2.2.2.2.2.2.2.1.length<=K
 sn:x.2.2.2.2.2.2.2.2.2.2.length<=K
 nd:∀i,i<x.2.2.2.2.2.2.1.length->B6 m i τ (aD x i)
theorem Lq(h:cZ m n=0):ads n=true:=by
 have a:=df h;have b:=(fH.1 a.2).2.2.2.2.2.1;have e:=wQ a.1;exact da ⟨by omega,by omega⟩
section
variable {c:Mc} {m:ax} {s:ia} {K:Nat} {τ:Int} {x:Net} (E:Env c m s) (h:Bas m s K τ x) (hK:K<=800000) (hτ:τ<=800000000000)
include E h hK hτ
theorem Bas.snd(e:i<x.2.2.2.2.2.2.1.length):Cb x i K:=by
 have _:=hτ;have a:=h.es;refine⟨by omega,h.q,e,?_,?_,h.ch⟩
 ·rw[a];exact E.fl
 ·rw[a];have:=E.gd;have:=h.en;omega
theorem Bas.evi(N:i<x.2.2.2.2.2.2.1.length):Evi x i K:=by
 have en:=h.en;have hm:=wQ E.ml;have J:=h.nd i N;have ab:=h.now;have S:=h.sn;have gt:=E.gt;refine⟨h.snd E hK hτ N,by rw[h.em];exact E.ml,by omega,by omega,by rw[h.es];omega,J.d,λj Y=>by have:=(h.nd j Y).t;omega,λy z py pz=>?_⟩;have P:yH y/\y.2.1=m/\y.2.2.1=s/\y.2.2.2.2.2.2.1.length=x.2.2.2.2.2.2.1.length/\y.2.2.2.2.2.2.2.2.2.2.length<=K/\cZ m (aD y i).1=0:=by
  rcases py with rfl|⟨l,cl,g,_,rfl⟩
  ·exact⟨h.q,h.em,h.es,rfl,S,J.yO⟩
  ·rw[h.em] at g ⊢
   exact⟨⟨h.q.made,h.q.len,h.q.heap⟩,h.em,h.es,bJ,S,by rw[fE N];exact S_ J.yO g⟩
 obtain⟨O,k2,k3,k4,k5,k6⟩:=P;have hy:i<y.2.2.2.2.2.2.1.length:=by omega
 have A:∀(f k:Nat) (u w:Net),yH u/\u.2.1=m/\u.2.2.1=s/\u.2.2.2.2.2.2.1.length=x.2.2.2.2.2.2.1.length/\u.2.2.2.2.2.2.2.2.2.2.length<=K/\cZ m (aD u i).1=0->Vz f k u w->yH w/\w.2.1=m/\w.2.2.1=s/\w.2.2.2.2.2.2.1.length=x.2.2.2.2.2.2.1.length/\w.2.2.2.2.2.2.2.2.2.2.length<=K/\cZ m (aD w i).1=0:=by
  intro f
  induction f with
  | zero=>intro k u w a p;rw[show w=u from p];exact a
  | succ f ih=>
    intro k u w a p;obtain⟨v,p,q⟩:=p;refine ih (k+1) v w ?_ q;obtain⟨a1,a2,C,D,F,G⟩:=a;rcases p with rfl|⟨on,_,_,p⟩
    ·exact⟨a1,a2,C,D,F,G⟩
    have Z:i<u.2.2.2.2.2.2.1.length:=by omega
    have o:∀n,(jv m (aD u k).1 on).2=0->n=(jv m (aD u k).1 on).1->cZ m (aD (cu u (bq u.2.2.2.2.2.2.1 k (oK n))) i).1=0:=λn g e=>by
     by_cases r:i=k
     ·subst r
      rw[fE Z,e];exact Bs G g
     ·rw[h_ r];omega
    rcases p with ⟨_,rfl⟩|⟨g,⟨_,rfl⟩|⟨_,p⟩⟩
    ·exact⟨a1,a2,C,D,F,G⟩
    ·rw[a2] at g ⊢
     exact⟨⟨a1.made,a1.len,a1.heap⟩,a2,C,bJ.trans D,F,o _ g rfl⟩
    ·rw[a2] at g p
     have sm:=r8.same p;obtain⟨s1,s2,s3,s4,s5,s6,s7,s8,s9⟩:=sm;refine⟨⟨s5.trans a1.made,s8,s9⟩,s2.trans a2,s3.trans C,?_,?_,?_⟩
     ·rw[s1];exact bJ.trans (bJ.trans D)
     ·rw[show v.2.2.2.2.2.2.2.2.2.2=u.2.2.2.2.2.2.2.2.2.2 from congrArg (λz:List gm×List gm×List sH×List fj=>z.2.2.2) s7];omega
     ·rw[r8.aD p]
      by_cases r:i=k
      ·subst r
       rw[fE (by show i<(bq _ _ _).length;rw[bJ];omega)];exact o _ g rfl
      ·rw[h_ r];exact o _ g rfl
 have I:yH z/\z.2.1=m/\z.2.2.1=s/\z.2.2.2.2.2.2.1.length=x.2.2.2.2.2.2.1.length/\z.2.2.2.2.2.2.2.2.2.2.length<=K/\cZ m (aD z i).1=0:=by
  have V:yH (cu y (bq y.2.2.2.2.2.2.1 i yL))/\y.2.1=m/\y.2.2.1=s/\(cu y (bq y.2.2.2.2.2.2.1 i yL)).2.2.2.2.2.2.1.length=x.2.2.2.2.2.2.1.length/\y.2.2.2.2.2.2.2.2.2.2.length<=K/\cZ m (aD (cu y (bq y.2.2.2.2.2.2.1 i yL)) i).1=0:=⟨⟨O.made,O.len,O.heap⟩,k2,k3,bJ.trans k4,k5,by rw[fE hy,Yr];omega⟩;rcases pz with rfl|⟨_,_,p⟩
  ·exact V
  ·exact A _ 0 _ z V p
 obtain⟨W,H,Q,f4,f5,X⟩:=I;refine⟨W,by rw[H];exact E.ml,by omega,?_,?_,by omega,λn g e=>?_⟩
 ·rw[H,Q];exact E.dd
 ·rw[Q];exact E.dl
 ·rw[H] at g e
  rw[e];exact Lq (Et X g)
theorem Bas.tki(a:i<x.2.2.2.2.2.2.1.length):Tki x i K:=by
 have e:=h.nd i a;have f:=h.now;refine⟨h.snd E hK hτ a,by omega,by rw[h.em];exact E.ml,by omega,by have:=e.t;omega,?_,?_⟩
 ·rw[h.em,h.es];exact E.dd
 ·rw[h.es];exact E.dl
theorem Bas.bgi(a:i<x.2.2.2.2.2.2.1.length):Bgi x i K:=by
 have g:=h.nd i a;have o:=h.now;refine⟨h.q,a,by rw[h.es];exact E.fl,by rw[h.es];exact E.op,by rw[h.em];exact E.ml,by omega,by have:=g.t;omega,λn _=>?_⟩;have l:i<(xU x i).2.2.2.2.2.2.1.length:=by show i<(bq _ _ _).length;rw[bJ];omega
 have e:aD (NP x i n) i=gv n (OW (aD x i)):=(fE l).trans (congrArg (gv n) (fE a));refine⟨((h.snd E hK hτ a).mod (j:=i) (f:=OW)).mod (j:=i) (f:=gv n),by omega,by show dq x.2.1=true;rw[h.em];exact E.ml,by show 0<=x.2.2.2.2.2.1.2.2/\x.2.2.2.2.2.1.2.2<=_;omega,?_,?_,by show(x.2.2.1).2.2.2.2.2.2.1.length<=_;rw[h.es];exact E.op⟩
 ·rw[e];have:=g.t;show 0<=(aD x i).2.2.2.2.1/\(aD x i).2.2.2.2.1<=_;omega
 ·rw[e];exact g.c
end
section
variable {c:Mc} {m:ax} {s:ia} {B t K:Nat} {τ:Int} {b:Int} {x:Net} (E:Env c m s) (h:Inv c m s B t K τ x.2.2.2.2.2.2.1.length b x)
include E h
theorem Inv.tb:x.2.2.2.2.2.1.2.1.length+t<=B:=by
 obtain⟨v,_,j,q⟩:=h.vs;have e:0<c.M:=by
  have g:=E.ok.n;have n:=E.ok.S;have l:=E.ok.nw.2.2;have:0<c.n*c.S:=Int.mul_pos (by omega) (by omega);exact this
 have g:=E.n;have o:=wQ E.ml;have p:0<=CZ v x.2.2.2.2.2.2.1.length:=aat λi f=>(j i f (by omega)).nn E.ok (jU _ (by omega));have:=Int.le_of_mul_le_mul_left (a:=c.M) (b:=((x.2.2.2.2.2.1.2.1.length+t:Nat):Int)) (c:=(B:Int)) (by omega) e;omega
theorem Inv.aci{l:List jc}(hK:K<=800000)(hτ:τ<=800000000000)(n:(e::l).Perm x.2.2.2.2.2.1.2.1)(p:Ku l):Aci e (tg x l e.1) K:=by
 have q:=h.hw e (n.mem_iff.1 (.head _));have u:=wQ E.ml;have en:=h.en;have r:=E.E;have g:=n.length_eq;rw[bA] at g;have y:=h.now;have f:Bas m s K τ (tg x l e.1):=⟨⟨h.q.made,by have:=h.q.len;show l.length<=_;omega,p⟩,h.em,h.es,h.en,⟨by show 0<=e.1;omega,by show e.1<=_;omega⟩,h.ch,h.sn.1,h.nd⟩;refine⟨by show(x.2.2.2.2.2.2.1).length<=_;omega,by show 0<x.2.2.2.2.2.2.1.length;omega,λk=>?_,λk=>?_⟩
 ·have v:=h.h3 e (n.mem_iff.1 (.head _)) k
  refine⟨⟨f.q,?_,?_,λj _ o=>?_⟩,e.2.2.2.toNat,by omega,by show e.2.2.2.toNat<x.2.2.2.2.2.2.2.2.2.1.length;omega⟩
  ·show(x.2.2.2.2.2.2.1).length<=x.2.2.1.2.2.2.1.length
   rw[h.es];have:=E.gt;omega
  ·have:=h.ch;exact⟨by show x.2.2.2.2.2.2.2.1.length<=_;omega,by show x.2.2.2.2.2.2.2.2.1.length<=_;omega⟩
  ·have:=(h.nd j o).t;show 0<=(aD x j).2.2.2.2.1/\(aD x j).2.2.2.2.1<=_;omega
 ·obtain⟨i,a,b,_⟩:=h.hi e (n.mem_iff.1 (.head _)) k
  exact⟨i,a,b,f.evi E hK hτ b,f.tki E hK hτ b,f.bgi E hK hτ b⟩
theorem Inv.step(hK:K<=800000)(hτ:τ<=800000000000):CH (x,())=true/\(x.2.2.2.2.2.1.2.1≠ []->Inv c m s B (t+1) (K+9) (τ+16) (sQ (x,())).1.2.2.2.2.2.2.1.length 0 (sQ (x,())).1):=by
 obtain⟨p1,p2⟩:=alq h.q λe l f a _=>h.aci E hK hτ f a;refine⟨p1,λj=>?_⟩;rcases p2 with ⟨k,_⟩|⟨e,l,f,a,g,p⟩
 ·simp_all
 ·exact h.act E f a g p
end
theorem ajE(h:Ye s=true):s.2.2.2.2.2.2.1.length<=300/\s.2.2.2.2.2.2.2.length<=300/\s.2.2.2.2.2.1.length<=1100:=by
 revert h;refine Ks (t:=amv af s) (P:=λr=>r=true->s.2.2.2.2.2.2.1.length<=300/\s.2.2.2.2.2.2.2.length<=300/\s.2.2.2.2.2.1.length<=1100) ?_ (LT.kF (by rfl)) (LT.bE (by rfl));refine Cu (λa=>Cu (λb=>aK λd=>?_) λ_=>aK nofun) λ_=>aK nofun
 have d:=of_decide_eq_true d;rw[d_] at a b d;omega
theorem afK:(afJ l N).length=N:=by
 unfold afJ;rw[oB,d_,d_,vH,jX,rO,IZ]
 grind
theorem UL(h:jM m=0):(n_ m).2=0:=by
 show(LT.val (Ty.aR [yI,yI]) (Q8 af m)).2=_;simp[Q8,bo,h];rfl
theorem adu(h:dq m=true):zD m s=(dA m s,0):=by
 unfold zD;rw[da (UL (uU.trans (qC.2 h)))];rfl
theorem adt(h:dq m=false):(zD m s).2=70:=by
 have e:jM m=70:=by rw[uU,mZ,h];rfl
 have p:=Oe (m:=m) (by omega);unfold zD
 simp_all
def ini(m:ax)(i:Nat):cm:=((rK m (i:Int)).1,(0,0, []),0,0,0,false,false,false)
def qh(m:ax)(k:Nat):List cm:=(List.range k).map (ini m)
theorem u7{k:Nat}:(qh m k).length=k:=by rw[qh,bV,List.length_range]
theorem Ux{k:Nat}:qh m (k+1)=qh m k ++ [ini m k]:=by rw[qh,List.range_succ,fD];rfl
theorem adW{k:Nat}(h:i<k):(qh m k).getD i dS=ini m i:=by
 rw[qh,yb,cn,pU h];rfl
theorem vJ(h:dq m=true)(a:(i:Int)<m.1):(rK m (i:Int)).2=0/\(rK m (i:Int)).1.1=(i:Int)/\(rK m (i:Int)).1.2.1=0:=by
 unfold rK
 grind
def I5(m:ax)(s:ia)(r e:Int)(l:List cm):Net:=(true,m,s,r,e,(true, [],0),l, [], [], [], [])
def M2(m:ax)(s:ia):Int:=m.2.1*((s.1+2)*m.1+1)+4*(s.1*m.2.2.2.1)
theorem I4{x y:Int}(a:-9223372036854775808<=x*y)(e:x*y<=9223372036854775807):af.b .mul .i64 x y=x*y:=by rw[jb,lC a e]
theorem Xx(h:dq m=true)(j:1<=s.1/\s.1<=16):af.cB (af.b .mul .i64 m.2.1 (af.cB (af.b .mul .i64 (af.cB s.1 2) m.1) 1)) (af.b .mul .i64 4 (af.b .mul .i64 s.1 m.2.2.2.1))=M2 m s/\0<=M2 m s/\M2 m s<=m.2.1*(18*m.1+1)+64*m.2.2.2.1/\M2 m s<=100000000000:=by
 have g:=wQ h;have a1:(s.1+2)*m.1<=18*m.1:=cy (by omega) (by omega);have a:0<=(s.1+2)*m.1:=eO (by omega) (by omega);have f:s.1*m.2.2.2.1<=16*m.2.2.2.1:=cy (by omega) (by omega);have e:0<=s.1*m.2.2.2.1:=eO (by omega) (by omega);have c1:m.2.1*((s.1+2)*m.1+1)<=m.2.1*(18*m.1+1):=eH (by omega) (by omega);have c0:0<=m.2.1*((s.1+2)*m.1+1):=eO (by omega) (by omega);have c2:m.2.1*(18*m.1+1)<=16777216*(18*m.1+1):=cy (by omega) (by omega);unfold M2;refine⟨?_,by omega,by omega,by omega⟩;rw[dD (x:=s.1) (by omega),I4 (x:=s.1+2) (by omega) (by omega),dD (x:=(s.1+2)*m.1) (by omega),I4 (x:=m.2.1) (by omega) (by omega),I4 (x:=s.1) (by omega) (by omega),I4 (x:=4) (by omega) (by omega),dD (by omega)]
theorem T8{l:List cm}{v:cm}(h:l.length<=1000):af.bU (af.l (af.p l [v])) 502633886983=true:=jo (by omega)
theorem Xz(h:dq m=true)(n:rC (m,s)=true):GU (m,s)=true/\lZ (m,s)=(true,I5 m (dA m s) (dA m s).1 (M2 m (dA m s)) (qh m m.1.toNat),0):=by
 have p:=wQ h;have o:1<=(dA m s).1/\(dA m s).1<=16:=by
  show 1<=af.mn (af.mx s.1 1) 16/\af.mn (af.mx s.1 1) 16<=16;rw[oR,v_];omega
 have a:=(Xx (s:=dA m s) h o).1;refine im (s:=QR af) (t:=Vr af m s) (d:=(false,Ty.gD lD,Ty.aR [yI])) (P:=λr=>r=(true,I5 m (dA m s) (dA m s).1 (M2 m (dA m s)) (qh m m.1.toNat),0)) ?_;have e:af.k JN (m,s)=(dA m s,0):=adu h;unfold Vr;rw[e];have lp:∀(f k:Nat),m.1.toNat-k<=f->k<=m.1.toNat->Go (QR af) (QR af (.c3 ⟨m.1,m,m,dA m s,(dA m s).1,M2 m (dA m s)⟩ (k:Int) (qh m k))) λr=>r=(true,I5 m (dA m s) (dA m s).1 (M2 m (dA m s)) (qh m m.1.toNat),0):=by
  intro f
  induction f with
  | zero=>
    intro k j l;refine cJ (λg=>absurd g (by grind)) λ_=>aK ?_;rw[show k=m.1.toNat by omega];rfl
  | succ f ih=>
    intro k j l;refine cJ (λg=>?_) λg=>aK ?_
    ·have g:(k:Int)<m.1:=g
     obtain⟨n1,_⟩:=vJ h g;have en:af.k wA (m,(k:Int))=rK m (k:Int):=rfl;rw[en,dD (by omega),show(k:Int)+1=((k+1:Nat):Int) from by omega];refine dN (λq=>absurd n1 q) λ_=>ai (T8 (by rw[u7];omega)) (aY ?_);have:=ih (k+1) (by omega) (by omega);rw[Ux] at this;exact this
    ·have g:m.1<=(k:Int):=g
     rw[show k=m.1.toNat by omega];rfl
 refine ai n (dN (λg=>absurd rfl g) λ_=>aY (cJ (λg=>absurd g (by decide)) λ_=>aY (cJ (λg=>absurd g (by decide)) λ_=>?_)));rw[a];obtain⟨n1,_⟩:=vJ (i:=0) h (by omega);have en:af.k wA (m,0)=rK m ((0:Nat):Int):=rfl;refine aY (cJ (λ_=>?_) λg=>absurd g (by grind));refine dN (λq=>absurd n1 q) λ_=>ai (vc (by show(1:Int)<=_;omega)) (aY ?_);exact lp _ 1 (ah _) (by omega)
theorem Xy(h:dq m=false)(e:rC (m,s)=true):GU (m,s)=true/\(lZ (m,s)).1=false/\(lZ (m,s)).2.2=70:=by
 refine im (s:=QR af) (t:=Vr af m s) (d:=(false,Ty.gD lD,Ty.aR [yI])) (P:=λr=>r.1=false/\r.2.2=70) ?_;have a:(af.k JN (m,s)).2=70:=adt h;exact ai e (dN (λ_=>aK ⟨rfl,a⟩) λg=>absurd (a.symm.trans g) (by decide))
theorem BJ{e:Int}{k:Nat}(h:i<k):aD (I5 m s r e (qh m k)) i=ini m i:=adW h
theorem ym{α:Type}{P:α->Prop}:∀e∈([]:List α),P e:=λe k=>absurd k aH
theorem RR{e:Int}(h:dq m=true)(g:0<=e)(o:CZ (λi=>(P8 m e).VL i 0+(P8 m e).tT e m.2.1) m.1.toNat<=(P8 m e).M*(B:Int)):Inv (P8 m e) m s B 0 0 0 m.1.toNat 0 (I5 m s r e (qh m m.1.toNat)):=by
 have n:=wQ h;have p:(qh m m.1.toNat).length=m.1.toNat:=u7;refine⟨⟨rfl,aX _,λj _ l=>absurd l (Nat.not_lt_zero _)⟩,rfl,rfl,rfl,by show((qh m m.1.toNat).length:Int)=m.1;omega,⟨aj _,g⟩,aj _,ym,ym,ym,⟨ah _,ah _,ah _⟩,⟨ah _,ym⟩,λi f=>?_,λ_=>rfl,λi=>(P8 m e).VL i 0+(P8 m e).tT e m.2.1,λq=>?_,λi f _=>?_,?_⟩
 ·have f:i<(qh m m.1.toNat).length:=f
  rw[BJ (by omega)];obtain⟨a,b,d⟩:=vJ (i:=i) h (by omega);exact⟨SV a,b,⟨aj _,aj _⟩,⟨aj _,by show(0:Int)<=_;omega⟩,aj _,by show([]:List Int).length<=8;decide⟩
 ·have q:m.1.toNat<(qh m m.1.toNat).length:=q
  omega
 ·have f:i<(qh m m.1.toNat).length:=f
  rw[BJ (by omega)];obtain⟨a,b,d⟩:=vJ (i:=i) h (by omega);refine .off (.inl d) rfl ?_;show(P8 m e).VL i 0+(P8 m e).tT e (0+m.2.1)<=_
  simp_all
 ·show CZ _ (qh m m.1.toNat).length+(P8 m e).M*0<=_
  simp_all
theorem ahe{S:Int}(h:cZ m n=0)(a:n.2.1=0)(f:0<=S/\S<=af.b .shl .i64 1 m.1-1)(e:qW S n.1=true):(EL m n S).2=0/\(EL m n S).1.1=n.1/\(EL m n S).1.2.1=4/\(EL m n S).1.2.2.1.2.1=0:=by
 unfold EL;rw[da h,cond_true,da a,cond_true,da f,cond_true,e,cond_true];exact⟨rfl,rfl,rfl,rfl⟩
def upY(n:Node)(t:Int)(y:cm):cm:=(n,(t,0, []),y.2.2)
structure NwI(c:Mc)(m:ax)(s:ia)(B k:Nat)(x:Net):Prop where
 inv:Inv c m s B 0 0 0 x.2.2.2.2.2.2.1.length 0 x
 w:x.2.2.2.2.2.1.2.2=0
 ev:∀e∈x.2.2.2.2.2.1.2.1,e.2.2.1<(k:Int)
 st:∀j,k<=j->j<x.2.2.2.2.2.2.1.length->aD x j=ini m j
theorem NwI.up{k:Nat}{S o:Int}(E:Env c m s)(h:NwI c m s B k x)(C:k<x.2.2.2.2.2.2.1.length)(X:0<=S/\S<=af.b .shl .i64 1 m.1-1)(W:qW S (k:Int)=true)(ho:0<=o/\o<=1048576)
  (p:r8 (cu x (bq x.2.2.2.2.2.2.1 k (upY (EL m (aD x k).1 S).1 (m.2.1+o)))) (vh x (m.2.1+o),4,(k:Int),0) y):NwI c m s B (k+1) y:=by
 have n:=E.ok;have hm:=wQ E.ml;have V:=E.S;have hn:=E.n;have A:=h.st k (ah _) C;have l:=h.inv.nd k C;have t0:(aD x k).2.2.2.2.1=0:=by rw[A];rfl
 have s0:(aD x k).1.2.1=0:=by
  rw[A];exact(vJ E.ml (by have:=h.inv.en;omega)).2.2
 have O:(aD x k).2.2.2.2.2.2.2=false:=by rw[A];rfl
 obtain⟨u1,u2,I,u4⟩:=ahe l.yO s0 X (by rw[l.id];exact W);have Y:lv x.2.2.2.2.2.1.2.1 k ((aD x k).2.2.2.2.1)=[]:=SS λe g a b _=>by have:=h.ev e g;omega
 have H:m.2.1+o<=vh x (m.2.1+o)/\x.2.2.2.2.2.1.2.2<=vh x (m.2.1+o):=by unfold vh;split<;>omega
 have Z:B6 m k 0 (upY (EL m (aD x k).1 S).1 (m.2.1+o) (aD x k)):=⟨amL l.yO u1,u2.trans l.id,l.t,⟨by show 0<=m.2.1+o;omega,by show m.2.1+o<=_;omega⟩,aj _,by show([]:List Int).length<=8;decide⟩;have r:kM (EL m (aD x k).1 S).1=true:=iV.2 (by rw[I];decide);have J:(0:Int)%c.n=0:=Int.zero_emod _;have F:=h.inv.mp (f:=upY (EL m (aD x k).1 S).1 (m.2.1+o)) (d:=0) (aj _) (.inr rfl) C (by omega) (aj _) Z (aj _) Y n p (by show ¬(4:Int)=3;decide) rfl t0.symm H.2 λv nv=>?_
 ·have l2:y.2.2.2.2.2.2.1.length=x.2.2.2.2.2.2.1.length:=p.kp.len.trans bJ
  refine⟨by rw[l2];exact F.weak (ah _) (aj _) (by omega),p.kp.w.trans h.w,λe g=>?_,λj hj hl=>?_⟩
  ·obtain⟨e',h',rfl,l1,l3,⟨rfl,Q,G⟩|⟨P,Q,G⟩⟩:=p
   ·rcases aF.1 (G.mem_iff.1 g) with rfl|g
    ·show(k:Int)<((k+1:Nat):Int);omega
    ·have:=h.ev e g;omega
   ·subst P
    have:=h.ev e g;omega
  ·rw[r8.aD p,h_ (by omega)]
   exact h.st j (by omega) (by omega)
 ·have v0:c.VL k x.2.2.2.2.2.1.2.2+c.tT x.2.2.2.2.1 (x.2.2.2.2.2.1.2.2+c.S)<=v:=by
   have D:¬(2<=(aD x k).1.2.1/\(aD x k).1.2.1<=4):=by omega
   have N:=n.nn (i:=k) (e:=x.2.2.2.2.1) (t:=x.2.2.2.2.2.1.2.2);cases nv with
   | aZ a b d=>exact absurd (iV.1 a) D
   | beg t a e b s u p d=>exact absurd (iV.1 a) D
   | Iu t a e b p d=>exact absurd (iV.1 a) D
   | Gr a e s b u d=>omega
   | Ix t a e s b u d=>omega
   | off a b d=>exact d
   | pow t a e b d=>omega
  rw[h.w] at v0;have n1:=n.n1 (i:=k) (st:=m.2.1+o) (by omega);have N:=n.nn (i:=k) (e:=x.2.2.2.2.1) (t:=0+c.S);have M1:=n.nn (i:=k) (e:=x.2.2.2.2.1) (t:=0);refine⟨λq=>.beg _ r O (by rw[<-t0];rfl) H.1 (dn q h.inv.ee) ?_ ?_,λz _ _=>.aZ r rfl (by omega)⟩
  ·show(EL m (aD x k).1 S).1.2.2.1.2.1=0%c.n
   rw[u4,J]
  ·show(bif decide ((EL m (aD x k).1 S).1.2.1=4) then c.VA k (m.2.1+o) (c.W*(0%c.n)) else _)+c.tT x.2.2.2.2.1 (x.2.2.2.2.2.1.2.2+c.S)<=_
   rw[I,J,Int.mul_zero,h.w,show decide ((4:Int)=4)=true from rfl,cond_true];omega
theorem aam(h:4<=l.length/\l.length<=8):(0<=tC l 0 0/\tC l 0 0<=af.b .shl .i64 1 (l.length:Int)-1)/\∀i,i<l.length->l.getD i false=true->qW (tC l 0 0) (i:Int)=true:=by
 have a:=QV h;obtain⟨b,d⟩:=(fQ _ _).mp a;refine⟨of_decide_eq_true b,λi e k=>?_⟩;have:=bG.1 d i (gY.2 e);rw[k] at this;exact this
theorem OB(h:l.length<=i){s:Int}:tC (l.drop i) i s=s:=by rw[ko h];rfl
theorem akr{p:Wp}{P:Bool×Net×Int->Prop}(n:p.a1=l)(j:p.a2=(l.length:Int))(r:l.length<=1000)
  (T:∀z,z=tC l 0 0->Go (Je af) (.ao (.c1 ⟨z,p.a5.2.2.1.2.1,af.l p.a5.2.2.1.2.1,p.a4⟩ 0 p.a5)) P) :
  ∀(f i:Nat) (z:Int),l.length-i<=f->i<=l.length->tC (l.drop i) i z=tC l 0 0->Go (Je af) (Je af (.c0 p z (i:Int))) P:=by
 intro f
 induction f with
 | zero=>
   intro i z o q a;rw[OB (by omega)] at a;exact cJ (λg=>absurd g (by rw[j];omega)) λ_=>T z a
 | succ f ih=>
   intro i z o q a;refine cJ (λg=>?_) λg=>T z (by rw[OB (by rw[j] at g;omega)] at a;exact a);have e:i<l.length:=by rw[j] at g;omega
   rw[AB e,tC] at a;have en:(af.n .bool p.a1 (i:Int):Bool)=l[i]:=by rw[n];exact fL e _
   refine ai (by rw[n];exact bW (l:=l) (by omega)) ?_;rw[en,dD (by omega),show(i:Int)+1=((i+1:Nat):Int) from by omega];refine fM (λk=>ai (by rw[aC];exact da (by omega)) (aY (ih (i+1) _ (by omega) (by omega) ?_))) λk=>aY (ih (i+1) z (by omega) (by omega) ?_)
   ·rw[k] at a;exact a
   ·rw[k] at a;exact a
theorem aks{p:Kw}(E:Env c m s)(H:p.b0=tC l 0 0)(I:p.b1=l)(y:p.b2=(l.length:Int))(z:p.b4=m)(u:(l.length:Int)=m.1)(ho:(s.2.2.1.length:Int)=m.1)(A:∀v∈s.2.2.1,0<=v/\v<=1048576):∀(f k:Nat) (x:Net),l.length-k<=f->k<=l.length->NwI c m s B k x->Go (Je af) (Je af (.c1 p (k:Int) x)) λr=>r.1=true/\r.2.2=0/\NwI c m s B l.length r.2.1:=by
 have hm:=wQ E.ml;have D:=aam (l:=l) (by omega);intro f
 induction f with
 | zero=>
   intro k x V W h;refine cJ (λg=>absurd g (by rw[y];omega)) λ_=>aK ⟨rfl,rfl,?_⟩;rw[show l.length=k by omega];exact h
 | succ f ih=>
   intro k x V W h;refine cJ (λg=>?_) λg=>aK ⟨rfl,rfl,by rw[show l.length=k by rw[y] at g;omega];exact h⟩;have n:k<l.length:=by rw[y] at g;omega
   have en:=h.inv.en;have a:k<x.2.2.2.2.2.2.1.length:=by omega
   have Z:af.cB (k:Int) 1=((k+1:Nat):Int):=by rw[dD (by omega)];omega
   have P:(af.n .bool p.b1 (k:Int):Bool)=l[k]:=by rw[I];exact fL n _
   have G:(af.n bO x.2.2.2.2.2.2.1 (k:Int):cm)=aD x k:=qQ;have N:Rb af p (k:Int) x=bq x.2.2.2.2.2.2.1 k (gv (EL m (aD x k).1 (tC l 0 0)).1):=by
    unfold Rb;rw[G,z,H];exact BA
   have o:(af.n yI x.2.2.1.2.2.1 (k:Int):Int)=s.2.2.1.getD k 0:=by
    rw[h.inv.es];show(s.2.2.1).getD (k:Int).toNat _=_;rw[rO];rfl
   have C:0<=s.2.2.1.getD k 0/\s.2.2.1.getD k 0<=1048576:=by
    rw[yb,Gd (by omega)];exact A _ (dF _)
   have O:Ag af p (k:Int) x=bq x.2.2.2.2.2.2.1 k (upY (EL m (aD x k).1 (tC l 0 0)).1 (m.2.1+s.2.2.1.getD k 0)):=by
    unfold Ag;rw[N,o,z,dD (by omega)];exact jR.trans ((mod_mod a).trans rfl)
   have X:yH (cu x (bq x.2.2.2.2.2.2.1 k (upY (EL m (aD x k).1 (tC l 0 0)).1 (m.2.1+s.2.2.1.getD k 0)))):=⟨h.inv.q.made,h.inv.q.len,h.inv.q.heap⟩;have sk:aD (cu x (bq x.2.2.2.2.2.2.1 k (upY (EL m (aD x k).1 (tC l 0 0)).1 (m.2.1+s.2.2.1.getD k 0)))) k=upY (EL m (aD x k).1 (tC l 0 0)).1 (m.2.1+s.2.2.1.getD k 0) (aD x k):=fE a;obtain⟨q1,J⟩:=CO (t:=m.2.1+s.2.2.1.getD k 0) (k:=4) (i:=k) X (by show k<(bq _ _ _).length;rw[bJ];exact a) (by decide);rw[sk,show(upY (EL m (aD x k).1 (tC l 0 0)).1 (m.2.1+s.2.2.1.getD k 0) (aD x k)).2.2.2.2.1=(aD x k).2.2.2.2.1 from rfl,show(aD x k).2.2.2.2.1=0 by rw[h.st k (ah _) a];rfl] at J;rw[P,Z,O,G,z,H,show(af.n bO (bq x.2.2.2.2.2.2.1 k (upY (EL m (aD x k).1 (tC l 0 0)).1 (m.2.1+s.2.2.1.getD k 0))) (k:Int):cm).2.1.1=m.2.1+s.2.2.1.getD k 0 by rw[Bn a];rfl];have Y:=ahe (h.inv.nd k a).yO (by rw[h.st k (ah _) a];exact(vJ E.ml (by omega)).2.2) (S:=tC l 0 0) (by rw[<-u];exact D.1);refine ai (by rw[I];exact bW (l:=l) (by omega)) (dO (λ_=>aY (ih (k+1) x (by omega) (by omega) ⟨h.inv,h.w,λe Q=>by have:=h.ev e Q;omega,λj hj u=>h.st j (by omega) u⟩)) λb=>ai (bW (l:=x.2.2.2.2.2.2.1) (by omega)) ?_);have F:qW (tC l 0 0) (k:Int)=true:=D.2 k n (by rw[yb,Gd n];exact b);have u0:=(Y (by rw[(h.inv.nd k a).id];exact F)).1;refine dN (λq=>absurd u0 q) λ_=>ai ?_ (ai q1 (ai (pN a) (aY (ih (k+1) _ (by omega) (by omega) ?_))))
   ·show af.and (af.bU 0 (k:Int)) (af.bD (k:Int) (af.l x.2.2.1.2.2.1))=true
    rw[h.inv.es];exact bW (l:=s.2.2.1) (by omega)
   ·exact h.up E a (by rw[<-u];exact D.1) F C J
theorem ZR(h:dq m=true):0<=(n_ m).1/\(n_ m).1<=1048576:=by
 have j:=wQ h;have f:=uU.trans (qC.2 h);have a:0<=m.1*m.2.2.2.2.1:=eO (by omega) (by omega);have e:m.1*m.2.2.2.2.1<=8*m.2.2.2.2.1:=cy (by omega) (by omega);refine Ks (t:=Q8 af m) (P:=λr=>0<=r.1/\r.1<=1048576) ?_ (LT.kF (by kernel_rfl)) (LT.bE (by kernel_rfl));refine dN (λg=>absurd f g) λ_=>aK ?_;show 0<=af.cB (af.b .mul .i64 (af.b .mul .i64 14 m.1) m.2.2.2.2.1) 8/\af.cB (af.b .mul .i64 (af.b .mul .i64 14 m.1) m.2.2.2.2.1) 8<=1048576;rw[I4 (x:=14) (by omega) (by omega),I4 (x:=14*m.1) (by rw[Int.mul_assoc];omega) (by rw[Int.mul_assoc];omega),Int.mul_assoc,dD (by omega)];omega
theorem akq(h:dq m=true)(u:rC (m,s)=true):LF (m,s)=true/\(pI (m,s)).1=true/\(pI (m,s)).2.2=0/\Inv (P8 m (M2 m (dA m s))) m (dA m s) 19999 0 0 0 (pI (m,s)).2.1.2.2.2.2.2.2.1.length 0 (pI (m,s)).2.1:=by
 have H:=wQ h;obtain⟨D,F⟩:=Xz h u;have y:1<=(dA m s).1/\(dA m s).1<=16:=by
  show 1<=af.mn (af.mx s.1 1) 16/\af.mn (af.mx s.1 1) 16<=16;rw[oR,v_];split<;>split<;>omega
 have e:=(Xx (s:=dA m s) h y).2;have E:=Pt (E:=M2 m (dA m s)) (s:=s) h ⟨e.1,by omega⟩;have G:=(E.ok.sum (N:=m.1.toNat) (by show((m.1.toNat:Nat):Int)=m.1;omega) e.1).1 e.2.1;have I:=RR (B:=19999) (s:=dA m s) (r:=(dA m s).1) h e.1 G;refine im (s:=Je af) (t:=Vp af m s) (d:=(false,Ty.gD lD,Ty.aR [yI])) (P:=λr=>r.1=true/\r.2.2=0/\Inv (P8 m (M2 m (dA m s))) m (dA m s) 19999 0 0 0 r.2.1.2.2.2.2.2.2.1.length 0 r.2.1) ?_;have q:af.k lZ (m,s)=(true,I5 m (dA m s) (dA m s).1 (M2 m (dA m s)) (qh m m.1.toNat),0):=F;unfold Vp;rw[q];have J:(dA m s).2.1.length=m.1.toNat:=afK;refine ai D (fM (λ_=>dN (λg=>absurd rfl g) λ_=>aY ?_) nofun);have nw:NwI (P8 m (M2 m (dA m s))) m (dA m s) 19999 0 (I5 m (dA m s) (dA m s).1 (M2 m (dA m s)) (qh m m.1.toNat)):=by
  refine⟨?_,rfl,ym,λj _ f=>BJ (by have f:j<(qh m m.1.toNat).length:=f;rwa [u7] at f)⟩;show Inv _ _ _ _ _ _ _ (qh m m.1.toNat).length _ _;rw[u7];exact I
 refine akr (l:=(dA m s).2.1) rfl rfl (by omega) (λz C=>aY ?_) _ 0 0 (ah _) (aX _) (by rw[kH]);refine(aks (p:=⟨z,(dA m s).2.1,af.l (dA m s).2.1,m⟩) (l:=(dA m s).2.1) E C rfl rfl rfl (by omega) ?_ ?_ _ 0 (I5 m (dA m s) (dA m s).1 (M2 m (dA m s)) (qh m m.1.toNat)) (ah _) (aX _) nw).mono λr a=>⟨a.1,a.2.1,a.2.2.inv⟩
 ·show((rowP s.2.2.1 m.1.toNat 0 (n_ m).1 0).length:Int)=m.1
  rw[Bv];omega
 ·have o:=ZR h
  exact λv A=>by
   have:=Tn (l:=s.2.2.1) (n:=m.1.toNat) (lo:=0) (hi:=(n_ m).1) (ms:=0) o.1 ⟨aj _,o.1⟩ v A;omega
theorem akp(h:dq m=false)(f:rC (m,s)=true):LF (m,s)=true/\(pI (m,s)).1=false/\(pI (m,s)).2.2=70:=by
 obtain⟨j,e,a⟩:=Xy h f;refine im (s:=Je af) (t:=Vp af m s) (d:=(false,Ty.gD lD,Ty.aR [yI])) (P:=λr=>r.1=false/\r.2.2=70) ?_;have e:(af.k lZ (m,s)).1=false:=e;have a:(af.k lZ (m,s)).2.2=70:=a;refine ai j (fM (λk=>absurd (e.symm.trans k) (by decide)) λ_=>dN (λ_=>aK ⟨rfl,a⟩) λg=>absurd (a.symm.trans g) (by decide))
theorem Ta(h:x.1=true)(f:x.2.2.2.2.2.1.1=true):LG (x,())=true/\pJ (x,())=(x,decide (x.2.2.2.2.2.1.2.1.length=0)):=by
 obtain⟨g,j⟩:=aea f;refine jP (s:=Empty.elim) (t:=abk af x) (d:=(Ty.aR [lD],Ty.aR [.bool])) (P:=λr=>r=(x,decide (x.2.2.2.2.2.1.2.1.length=0))) ?_ λr e=>by rw[e]
 have a:af.k NG (x.2.2.2.2.2.1,())=(x.2.2.2.2.2.1,(x.2.2.2.2.2.1.2.1.length:Int)):=j;unfold abk;rw[a];refine dO (λk=>absurd (h.symm.trans k) (by decide)) λ_=>ai g (aK ?_);show(x,af.bK (x.2.2.2.2.2.1.2.1.length:Int) 0)=_;rw[bd];congr 1;exact decide_eq_decide.2 (by omega)
theorem Zn(h:x.1=true)(v:x.2.2.2.2.2.2.1.length<=1000)(u:∀i,i<x.2.2.2.2.2.2.1.length->cZ m (aD x i).1=0):Qr (x,())=true/\NF (x,())=(x,x.2.2.2.2.2.2.1.map Prod.fst):=by
 refine jP (s:=U7 af) (t:=afk af x) (d:=(Ty.aR [lD],Ty.aR [.slice fA])) (P:=λr=>r=(x,x.2.2.2.2.2.2.1.map Prod.fst)) ?_ λr e=>by rw[e]
 have cl:∀i,i<x.2.2.2.2.2.2.1.length->af.k xF (af.n bO x.2.2.2.2.2.2.1 (i:Int):cm).1=true:=λi p=>by rw[qQ];exact Lq (u i p)
 have id:∀n:Node,af.k xe n=n:=λ_=>rfl;have lp:∀(f k:Nat),x.2.2.2.2.2.2.1.length-k<=f->k<=x.2.2.2.2.2.2.1.length->Go (U7 af) (U7 af (.c1 ⟨af.l x.2.2.2.2.2.2.1,x⟩ (k:Int) ((x.2.2.2.2.2.2.1.take k).map Prod.fst))) λr=>r=(x,x.2.2.2.2.2.2.1.map Prod.fst):=by
  intro f
  induction f with
  | zero=>
    intro k o q;refine cJ (λg=>absurd g (by show ¬(k:Int)<(x.2.2.2.2.2.2.1.length:Int);omega)) λ_=>aK ?_;rw[show k=x.2.2.2.2.2.2.1.length by omega,eB]
  | succ f ih=>
    intro k o q;refine cJ (λg=>?_) λg=>aK ?_
    ·have g:(k:Int)<(x.2.2.2.2.2.2.1.length:Int):=g
     have a:k<x.2.2.2.2.2.2.1.length:=by omega
     have e:af.p ((x.2.2.2.2.2.2.1.take k).map Prod.fst) [(af.n bO x.2.2.2.2.2.2.1 (k:Int):cm).1]=(x.2.2.2.2.2.2.1.take (k+1)).map Prod.fst:=by
      rw[show(af.n bO x.2.2.2.2.2.2.1 (k:Int):cm)=x.2.2.2.2.2.2.1[k] from fL a _,bf a,fD];rfl
     have j:=ih (k+1) (by omega) (by omega);rw[<-e,show((k+1:Nat):Int)=af.cB (k:Int) 1 from by rw[dD (by omega)];omega] at j;exact ai (bW (l:=x.2.2.2.2.2.2.1) (by omega)) (ai (cl k a) (ai (jo (by rw[bV,c_];omega)) (aY j)))
    ·have g:(x.2.2.2.2.2.2.1.length:Int)<=(k:Int):=g
     rw[show k=x.2.2.2.2.2.2.1.length by omega,eB]
 refine fM (λ_=>aY (cJ (λg=>?_) λg=>aK ?_)) λk=>absurd (h.symm.trans k) (by decide)
 ·have g:(0:Int)<(x.2.2.2.2.2.2.1.length:Int):=g
  have e:([(af.n bO x.2.2.2.2.2.2.1 ((0:Nat):Int):cm).1]:List Node)=(x.2.2.2.2.2.2.1.take 1).map Prod.fst:=by
   rw[show(af.n bO x.2.2.2.2.2.2.1 ((0:Nat):Int):cm)=x.2.2.2.2.2.2.1[0] from fL (i:=0) (show 0<x.2.2.2.2.2.2.1.length by omega) _,bf (show 0<x.2.2.2.2.2.2.1.length by omega)];rfl
  have:=lp _ 1 (ah _) (by omega);rw[<-e] at this;exact ai (bW (l:=x.2.2.2.2.2.2.1) (i:=0) (by omega)) (ai (cl 0 (by omega)) (ai (vc (by show(1:Int)<=_;omega)) (aY this)))
 ·have g:(x.2.2.2.2.2.2.1.length:Int)<=0:=g
  have e:x.2.2.2.2.2.2.1.map Prod.fst=[]:=by rw[cq.1 (show(x.2.2.2.2.2.2.1).length=0 by omega)];rfl
  rw[e]
theorem aau(h:x.1=true)(v:x.2.2.2.2.2.2.2.2.2.2.length<=900000)(q:∀z∈x.2.2.2.2.2.2.2.2.2.2,cZ m z.2=0):LH (x,())=true:=by
 suffices u:LH (x,())=true/\(Sj (x,())).1=x from u.1
 refine jP (s:=U8 af) (t:=afl af x) (d:=(Ty.aR [lD],Ty.aR [.slice iv])) (P:=λr=>r.1=x) ?_ λr e=>by rw[e]
 have cl:∀i,i<x.2.2.2.2.2.2.2.2.2.2.length->af.k xF (af.n iv x.2.2.2.2.2.2.2.2.2.2 (i:Int):fj).2=true:=λi n=>by
  rw[show(af.n iv x.2.2.2.2.2.2.2.2.2.2 (i:Int):fj)=x.2.2.2.2.2.2.2.2.2.2[i] from fL n _];exact Lq (q _ (dF n))
 have a:∀l:List fj,l.length<=900001->af.k CJ (l,())=true:=λl k=>da (by omega);have lp:∀(f k:Nat) (l:List fj),x.2.2.2.2.2.2.2.2.2.2.length-k<=f->k<=x.2.2.2.2.2.2.2.2.2.2.length->l.length=k->Go (U8 af) (U8 af (.c1 ⟨af.l x.2.2.2.2.2.2.2.2.2.2,x⟩ (k:Int) l)) λr=>r.1=x:=by
  intro f
  induction f with
  | zero=>
    intro k l o p j;exact cJ (λg=>absurd g (by show ¬(k:Int)<(x.2.2.2.2.2.2.2.2.2.2.length:Int);omega)) λ_=>ai (a l (by omega)) (aK rfl)
  | succ f ih=>
    intro k l o p j;refine cJ (λg=>?_) λg=>ai (a l (by omega)) (aK rfl);have g:(k:Int)<(x.2.2.2.2.2.2.2.2.2.2.length:Int):=g;rw[dD (by omega),show(k:Int)+1=((k+1:Nat):Int) from by omega];refine ai (bW (l:=x.2.2.2.2.2.2.2.2.2.2) (by omega)) (ai (cl k (by omega)) (ai (jo (by omega)) (aY (ih (k+1) _ (by omega) (by omega) ?_))));show(l ++ [_]).length=_;rw[ru,bw,j]
 refine fM (λ_=>aY (cJ (λg=>?_) λg=>ai (a _ (by show(0:Nat)<=_;omega)) (aK rfl))) λk=>absurd (h.symm.trans k) (by decide);have g:(0:Int)<(x.2.2.2.2.2.2.2.2.2.2.length:Int):=g;exact ai (bW (l:=x.2.2.2.2.2.2.2.2.2.2) (i:=0) (by omega)) (ai (cl 0 (by omega)) (ai (vc (by show(1:Int)<=_;omega)) (aY (lp _ 1 _ (ah _) (by omega) rfl))))
theorem run_go(E:Env c m s)(p:B<=45000):∀(f t:Nat) (x:Net),B-t<=f->Inv c m s B t (9*t) (16*(t:Int)) x.2.2.2.2.2.2.1.length 0 x->Go (G8 af) (G8 af (.c0 x)) λr=>r.2=0:=by
 have j:∀(t:Nat) (x:Net),Inv c m s B t (9*t) (16*(t:Int)) x.2.2.2.2.2.2.1.length 0 x->(x.2.2.2.2.2.1.2.1.length≠0->Inv c m s B (t+1) (9*(t+1)) (16*((t+1:Nat):Int)) (sQ (x,())).1.2.2.2.2.2.2.1.length 0 (sQ (x,())).1->Go (G8 af) (G8 af (.c0 (sQ (x,())).1)) λr=>r.2=0)->Go (G8 af) (G8 af (.c0 x)) λr=>r.2=0:=λt x h K=>by
  have tb:=h.tb E;obtain⟨n,g⟩:=Ta h.mad h.q.made;have g:af.k pJ (x,())=(x,decide (x.2.2.2.2.2.1.2.1.length=0)):=g;have en:=h.en;have q:=wQ E.ml;have a:af.cr (af.l x.2.2.2.2.2.2.1) 0=true:=Cx (by omega);have o:=aau h.mad (by have:=h.sn.1;omega) h.sn.2;obtain⟨p1,p2⟩:=h.step E (by omega) (by omega);refine ai n (ai a ?_);rw[g];refine dO (λk=>ai p1 (ai a (aY ?_))) λ_=>ai o (ai a (aK rfl));have k:=of_decide_eq_false k;have I:=p2 λe=>k (by rw[e];rfl);exact K k (by rw[show 9*(t+1)=9*t+9 from rfl,show 16*((t+1:Nat):Int)=16*(t:Int)+16 from by omega];exact I)
 intro f
 induction f with
 | zero=>
   intro t x l h;have tb:=h.tb E;exact j t x h λk=>absurd (by omega) k
 | succ f ih=>
   intro t x l h;exact j t x h λ_ I=>ih (t+1) _ (by omega) I
theorem ak4(h:dq m=true)(j:rC (m,s)=true):GQ (m,s)=true/\(xd (m,s)).2=0:=by
 have p:=wQ h;obtain⟨n,a,e,o⟩:=akq h j;have l:1<=(dA m s).1/\(dA m s).1<=16:=by
  show 1<=af.mn (af.mx s.1 1) 16/\af.mn (af.mx s.1 1) 16<=16;rw[oR,v_];split<;>split<;>omega
 have f:=(Xx (s:=dA m s) h l).2;have E:=Pt (E:=M2 m (dA m s)) (s:=s) h ⟨f.1,by omega⟩;refine im (s:=G8 af) (t:=abj af m s) (d:=Ty.aR [.slice iv,yI]) (P:=λr=>r.2=0) ?_;have a:(af.k pI (m,s)).1=true:=a;have e:(af.k pI (m,s)).2.2=0:=e;refine ai n (fM (λ_=>dN (λg=>absurd e g) λ_=>aY ?_) λk=>absurd (a.symm.trans k) (by decide));exact run_go E (B:=19999) (by omega) _ 0 (pI (m,s)).2.1 (ah _) o
theorem ak3(h:dq m=false)(f:rC (m,s)=true):GQ (m,s)=true/\xd (m,s)=([],70):=by
 obtain⟨j,e,a⟩:=akp h f;refine im (s:=G8 af) (t:=abj af m s) (d:=Ty.aR [.slice iv,yI]) (P:=λr=>r=([],70)) ?_;have e:(af.k pI (m,s)).1=false:=e;have a:(af.k pI (m,s)).2.2=70:=a;refine ai j (fM (λk=>absurd (e.symm.trans k) (by decide)) λ_=>dN (λ_=>aK ?_) λg=>absurd (a.symm.trans g) (by decide));show([],(af.k pI (m,s)).2.2)=_;rw[a]
theorem Inv.wB{B' t K:Nat}(E:Env c m s)(h:Inv c m s B t K τ ex b x)(k:B<=B'):Inv c m s B' t K τ ex b x:=by
 obtain⟨v,g,j,l⟩:=h.vs;have f:=(E.ok.nn (i:=0) (e:=0) (t:=0)).1;have:=eH (a:=(B:Int)) (b:=(B':Int)) (c:=c.M) (by omega) f;exact⟨h.q,h.mad,h.em,h.es,h.en,h.now,h.ee,h.hw,h.h3,h.hi,h.ch,h.sn,h.nd,h.lx,⟨v,g,j,by omega⟩⟩
theorem Inv.pwr{t K:Nat}{k:Nat}{T:Int}(E:Env c m s)(h:Inv c m s B t K τ x.2.2.2.2.2.2.1.length b x)(D:k<x.2.2.2.2.2.2.1.length)(W:(aD x k).1.2.1=0)(H:(aD x k).2.2.2.2.2.2.2=false)(F:lv x.2.2.2.2.2.1.2.1 k ((aD x k).2.2.2.2.1)=[])(O:x.2.2.2.2.2.1.2.2<=T)(p:r8 x (T,5,(k:Int),(aD x k).2.2.2.2.1) y):Inv c m s (B+3) t K τ y.2.2.2.2.2.2.1.length b y:=by
 have f:=E.ok;have Y:=f.nn (i:=k) (e:=x.2.2.2.2.1) (t:=x.2.2.2.2.2.1.2.2);have nS:=f.nw;have N:(c.n+1)*c.D<=c.M:=by
  have Q:=f.n;have N:=f.D;have P:=f.W;have hG:=f.G;have hS:=f.S;have hL:=f.L;have:c.M=c.n*c.S:=rfl;rw[this];rcases Q with k|k|k|k|k<;>rw[k] at P ⊢ <;> omega
 have e:y.2.2.2.2.2.2.1.length=x.2.2.2.2.2.2.1.length:=p.kp.len;rw[e];obtain⟨Z,J,rfl,l1,l2,⟨rfl,j,n⟩|⟨I,j,n⟩⟩:=p
 ·have A:∀(i:Nat) (u:Int),¬((k:Int)=(i:Int)/\(aD x k).2.2.2.2.1=u)->(lv J i u).Perm (lv x.2.2.2.2.2.1.2.1 i u):=λi u q=>by
   have:=pO (i:=i) (t:=u) n
   rwa [Gt λa=>q a.2] at this
  refine h.afY (dB:=3) (evs:=[(T,5,(k:Int),(aD x k).2.2.2.2.1)]) ⟨h.q.made,l1,l2⟩ rfl rfl rfl rfl rfl (aj _) (ah _) h.ch h.sn n (λz S=>?_) (λi g=>aj _) h.nd (λq=>absurd q (dw _)) λv X o=>⟨Ro v k (v k+2*c.M),λq=>absurd q (dw _),λi g _=>?_,?_⟩
  ·rw[aJ.1 S]
   exact⟨⟨O,dn j h.ee⟩,λq=>absurd q (by show ¬(5:Int)=3;decide),λ_=>⟨k,rfl,D,aj _⟩⟩
  ·by_cases q:i=k
   ·subst q
    rw[uN];have G:=o i g (by omega);rw[F] at G;have C:¬(2<=(aD x i).1.2.1/\(aD x i).1.2.1<=4):=by omega
    have lp:=pO (i:=i) (t:=(aD x i).2.2.2.2.1) n;rw[Gs (by show ¬(5:Int)=3;decide) rfl rfl,F] at lp;refine yG.perm (l:=[(T,5,(i:Int),(aD x i).2.2.2.2.1)]) (.pow T W H rfl ?_) lp;show c.VL i x.2.2.2.2.2.1.2.2+c.tT x.2.2.2.2.1 (x.2.2.2.2.2.1.2.2+c.S)+(c.M+(c.n+1)*c.D)<=v i+2*c.M;cases G with
    | aZ a b d=>exact absurd (iV.1 a) C
    | beg t a e b s u p d=>exact absurd (iV.1 a) C
    | Iu t a e b p d=>exact absurd (iV.1 a) C
    | Gr a e s b u d=>omega
    | Ix t a e s b u d=>omega
    | off a b d=>omega
    | pow t a e b d=>cases b
   ·rw[oT q]
    exact(o i g (by omega)).perm (A i _ λr=>q (by omega))
  ·rw[p9 D]
   show _+c.M*1<=_+c.M*3;omega
 ·subst I
  refine Inv.wB E (B:=B) ?_ (by omega);exact h.core (evs:=[]) ⟨h.q.made,l1,l2⟩ rfl rfl rfl rfl rfl j (ah _) h.ch h.sn (.refl _) nofun (λi g=>aj _) h.nd (λq=>absurd q (dw _)) λv X o=>⟨v,λq=>absurd q (dw _),λi g V=>(o i g V).mono f (aj _) j (aj _),by show _+c.M*0<=_;omega⟩
structure BtI(c:Mc)(m:ax)(s:ia)(B k:Nat)(x:Net):Prop where
 inv:Inv c m s (B+3*k) 0 0 0 x.2.2.2.2.2.2.1.length 0 x
 ev:∀e∈x.2.2.2.2.2.1.2.1,e.2.2.1<(k:Int)
 st:∀j,k<=j->j<x.2.2.2.2.2.2.1.length->aD x j=ini m j
theorem adn(E:Env c m s)(q:B<=45000):∀(f t:Nat) (x:Net),B-t<=f->Inv c m s B t (9*t) (16*(t:Int)) x.2.2.2.2.2.2.1.length 0 x->Go (Ac af) (Ac af (.c1 x)) λr=>r.2=0/\0<r.1.length:=by
 have j:∀(t:Nat) (x:Net),Inv c m s B t (9*t) (16*(t:Int)) x.2.2.2.2.2.2.1.length 0 x->(x.2.2.2.2.2.1.2.1.length≠0->Inv c m s B (t+1) (9*(t+1)) (16*((t+1:Nat):Int)) (sQ (x,())).1.2.2.2.2.2.2.1.length 0 (sQ (x,())).1->Go (Ac af) (Ac af (.c1 (sQ (x,())).1)) λr=>r.2=0/\0<r.1.length)->Go (Ac af) (Ac af (.c1 x)) λr=>r.2=0/\0<r.1.length:=λt x h K=>by
  have tb:=h.tb E;obtain⟨p,g⟩:=Ta h.mad h.q.made;have g:af.k pJ (x,())=(x,decide (x.2.2.2.2.2.1.2.1.length=0)):=g;have en:=h.en;have u:=wQ E.ml;have a:af.cr (af.l x.2.2.2.2.2.2.1) 0=true:=Cx (by omega);obtain⟨n1,o⟩:=Zn h.mad (by omega) λi n=>(h.nd i n).yO;obtain⟨p1,p2⟩:=h.step E (by omega) (by omega);refine ai p (ai a ?_);rw[g];refine dO (λk=>ai p1 (ai a (aY ?_))) λ_=>ai n1 (ai a (aK ⟨rfl,?_⟩))
  ·have k:=of_decide_eq_false k
   have I:=p2 λe=>k (by rw[e];rfl);exact K k (by rw[show 9*(t+1)=9*t+9 from rfl,show 16*((t+1:Nat):Int)=16*(t:Int)+16 from by omega];exact I)
  ·show 0<(NF (x,())).2.length
   rw[o,bV];omega
 intro f
 induction f with
 | zero=>
   intro t x l h;have tb:=h.tb E;exact j t x h λk=>absurd (by omega) k
 | succ f ih=>
   intro t x l h;exact j t x h λ_ I=>ih (t+1) _ (by omega) I
def vn(m:ax)(l:List Int):Bool:=l.all λo=>decide (-1<=o/\o<=m.1*m.2.1)
theorem aku{p:Wq}{l:List Int}(E:Env c m s)(hB:B<=44000)(H:p.a0=l)(J:p.a1=(l.length:Int))(N:p.a3=m)(u:(l.length:Int)=m.1):∀(f k:Nat) (x:Net),l.length-k<=f->k<=l.length->BtI c m s B k x->Go (Ac af) (Ac af (.c0 p (k:Int) x)) λr=>(vn m (l.drop k)=true->r.2=0/\0<r.1.length)/\(vn m (l.drop k)=false->r=([],2)):=by
 have hm:=wQ E.ml;have nS:0<=m.1*m.2.1:=eO (by omega) (by omega);have X:m.1*m.2.1<=8*m.2.1:=cy (by omega) (by omega);have y:∀(k:Nat) (x:Net),¬k<l.length->k<=l.length->BtI c m s B k x->Go (Ac af) (Ac af (.c0 p (k:Int) x)) λr=>(vn m (l.drop k)=true->r.2=0/\0<r.1.length)/\(vn m (l.drop k)=false->r=([],2)):=λk x z W h=>by
  refine cJ (λg=>absurd g (by show ¬(k:Int)<p.a1;rw[J];omega)) λ_=>aY ?_;have I:=Inv.wB E h.inv (B':=B+3*8) (by omega);refine(adn E (by omega) _ 0 x (ah _) I).mono λr q=>⟨λ_=>q,λe=>?_⟩;rw[ko (by omega)] at e;cases e
 intro f
 induction f with
 | zero=>intro k x S z h;exact y k x (by omega) z h
 | succ f ih=>
   intro k x S z h;by_cases o:k<l.length
   ·have en:=h.inv.en
    have v:k<x.2.2.2.2.2.2.1.length:=by omega
    have Y:af.cB (k:Int) 1=((k+1:Nat):Int):=by rw[dD (by omega)];omega
    have Q:(af.n yI p.a0 (k:Int):Int)=l[k]:=by rw[H];exact fL o _
    have O:=AB o;have P:af.b .mul .i64 p.a3.1 p.a3.2.1=m.1*m.2.1:=by rw[N];exact I4 (by omega) (by omega)
    refine cJ (λ_=>ai (by rw[H];exact bW (l:=l) (by omega)) ?_) λg=>absurd g (by rw[J];omega);rw[Q,P,Y,N,O];have bT:¬(-1<=l[k]/\l[k]<=m.1*m.2.1)->(vn m (l[k]::l.drop (k+1))=true->(([]:List Node),(2:Int)).2=0/\0<(([]:List Node),(2:Int)).1.length)/\(vn m (l[k]::l.drop (k+1))=false->(([]:List Node),(2:Int))=([],2)):=λq=>by
     refine⟨λe=>?_,λ_=>rfl⟩;unfold vn at e;rw[gN,gI q] at e;cases e
    refine cJ (λg=>aK (bT (by omega))) λF=>pL (λg=>aK (bT (by omega))) λG=>?_;have same:vn m (l[k]::l.drop (k+1))=vn m (l.drop (k+1)):=by
     unfold vn;rw[gN,da (by omega)];rfl
    rw[same];refine vE (λC=>?_) λ_=>aY (ih (k+1) x (by omega) (by omega) ⟨Inv.wB E h.inv (by omega),λe n=>by have:=h.ev e n;omega,λj V u=>h.st j (by omega) u⟩);rw[dD (by omega)];have z0:(aD x k).2.2.2.2.1=0:=by rw[h.st k (ah _) v];rfl
    obtain⟨Z,A⟩:=CO (t:=m.2.1+l[k]) (k:=5) (i:=k) h.inv.q v (by decide);refine ai Z (ai (eG v) (aY (ih (k+1) _ (by omega) (by omega) ⟨?_,λe n=>?_,λj V u=>?_⟩)))
    ·refine h.inv.pwr E v ?_ ?_ (SS λe n a b _=>by have:=h.ev e n;omega) (by unfold vh;split<;>omega) A
     ·rw[h.st k (ah _) v];exact(vJ E.ml (by omega)).2.2
     ·rw[h.st k (ah _) v];rfl
    ·obtain⟨e',h',D,l1,l3,⟨rfl,G,C⟩|⟨F,G,C⟩⟩:=A
     ·have n:e∈(tW (x,m.2.1+l[k],5,(k:Int))).1.2.2.2.2.2.1.2.1:=n
      rw[D] at n;rcases aF.1 (C.mem_iff.1 n) with rfl|n
      ·show(k:Int)<((k+1:Nat):Int);omega
      ·have:=h.ev e n;omega
     ·have n:e∈(tW (x,m.2.1+l[k],5,(k:Int))).1.2.2.2.2.2.1.2.1:=n
      rw[D] at n;subst F;have:=h.ev e n;omega
    ·have u:j<(tW (x,m.2.1+l[k],5,(k:Int))).1.2.2.2.2.2.2.1.length:=u
     rw[show aD (af.k tW (x,m.2.1+l[k],5,(k:Int))).1 j=aD x j from r8.aD A j];exact h.st j (by omega) (by rw[<-A.kp.len];exact u)
   ·exact y k x o z h
theorem adm:LD ()=true:=by kernel_rfl
theorem adl:F4 ()=true:=by kernel_rfl
def IA(s:ia):ia:=(s.1, [], [],s.2.2.2.1,s.2.2.2.2.1,s.2.2.2.2.2.1, [], [])
theorem W9(h:dq m=true):DI m=(40*m.1,0):=by
 have a:=wQ h;have f:=uU.trans (qC.2 h);refine Ks (t:=amx af m) (P:=λr=>r=(40*m.1,0)) ?_ (LT.kF (by rfl)) (LT.bE (by rfl));refine dN (λg=>absurd f g) λ_=>aK ?_;rw[I4 (by omega) (by omega)]
variable{ons:List Int}
theorem adp(h:dq m=true)(y:rC (m,IA s)=true):GR (m,s,ons)=true/\(((ons.length:Int)≠m.1\/vn m ons=false)/\qp (m,s,ons)=([],2)\/((ons.length:Int)=m.1/\vn m ons=true)/\(qp (m,s,ons)).2=0/\0<(qp (m,s,ons)).1.length):=by
 have F:=wQ h;obtain⟨z,A⟩:=Xz h y;refine im (s:=Ac af) (t:=Vq af m s ons) (d:=Ty.aR [.slice fA,yI]) (P:=λr=>((ons.length:Int)≠m.1\/vn m ons=false)/\r=([],2)\/((ons.length:Int)=m.1/\vn m ons=true)/\r.2=0/\0<r.1.length) ?_;have v:af.k lZ (tu m s)=(true,I5 m (dA m (IA s)) (dA m (IA s)).1 (M2 m (dA m (IA s))) (qh m m.1.toNat),0):=A;have u:af.k DI m=(40*m.1,0):=W9 h;have D:m.2.1*(40*m.1+1)<=16777216*(40*m.1+1):=cy (by omega) (by omega);have e:0<=m.2.1*(40*m.1+1):=eO (by omega) (by omega);have E:=Pt (E:=m.2.1*(40*m.1+1)) (s:=IA s) h ⟨e,by omega⟩;have C:=(E.ok.sum (N:=m.1.toNat) (by show((m.1.toNat:Nat):Int)=m.1;omega) e).2 (aj _);have I:=RR (B:=40000) (s:=dA m (IA s)) (r:=1048576) h e C;unfold Vq;rw[v,u];refine ai z (fM (λ_=>dN (λg=>absurd rfl g) λ_=>dN (λg=>aK (.inl ⟨.inl g,rfl⟩)) λa=>dN (λg=>absurd rfl g) λ_=>aY ?_) nofun);have a:(ons.length:Int)=m.1:=a;have n:BtI (P8 m (m.2.1*(40*m.1+1))) m (dA m (IA s)) 40000 0 (I5 m (dA m (IA s)) 1048576 (m.2.1*(40*m.1+1)) (qh m m.1.toNat)):=by
  refine⟨?_,ym,λj _ f=>BJ (by have f:j<(qh m m.1.toNat).length:=f;rwa [u7] at f)⟩;show Inv _ _ _ _ _ _ _ (qh m m.1.toNat).length _ _;rw[u7];exact I
 have o:af.b .mul .i64 m.2.1 (af.cB (40*m.1) 1)=m.2.1*(40*m.1+1):=by rw[dD (by omega),I4 (by omega) (by omega)]
 rw[o];refine(aku E (by omega) (p:=⟨ons,(ons.length:Int),m⟩) (l:=ons) rfl rfl rfl a _ 0 _ (ah _) (aX _) n).mono λr q=>?_;rw[kH] at q;cases k:vn m ons
 ·exact .inl ⟨.inr rfl,q.2 k⟩
 ·exact .inr ⟨⟨a,rfl⟩,q.1 k⟩
theorem ado(h:dq m=false)(f:rC (m,IA s)=true):GR (m,s,ons)=true/\qp (m,s,ons)=([],70):=by
 obtain⟨j,e,a⟩:=Xy h f;refine im (s:=Ac af) (t:=Vq af m s ons) (d:=Ty.aR [.slice fA,yI]) (P:=λr=>r=([],70)) ?_;have e:(af.k lZ (tu m s)).1=false:=e;have a:(af.k lZ (tu m s)).2.2=70:=a;refine ai j (fM (λk=>absurd (e.symm.trans k) (by decide)) λ_=>dN (λ_=>aK ?_) λg=>absurd (a.symm.trans g) (by decide));show([],(af.k lZ (tu m s)).2.2)=_;rw[a]
theorem Lr{l:List Int}(h:dq m=true->(l.length:Int)=m.1\/True)(F:GR (m,s,l)=true)(I:(qp (m,s,l)).2=0↔0<(qp (m,s,l)).1.length)(p:0<=m.1*m.2.1/\m.1*m.2.1<=4611686018427387904\/¬dq m=true):∀(f k:Nat) (w:Int),l.length-k<=f->k<=l.length->l.length<=1000->(w=0->dq m=true)->(qp (m,s,l)).2=(if w=0 then(bif vn m (l.drop k) then 0 else 2) else w)->Go (G7 af) (G7 af (.c0 ⟨l,l,(l.length:Int),m,s⟩ w (k:Int))) λr=>r=true:=by
 have n:∀(k:Nat) (w:Int),¬k<l.length->k<=l.length->(qp (m,s,l)).2=(if w=0 then(bif vn m (l.drop k) then 0 else 2) else w)->Go (G7 af) (G7 af (.c0 ⟨l,l,(l.length:Int),m,s⟩ w (k:Int))) λr=>r=true:=λk w u D e=>by
  rw[ko (by omega)] at e;have e:(qp (m,s,l)).2=w:=by
   rw[e];split
   ·rename_i q;rw[q];rfl
   ·rfl
  refine cJ (λg=>absurd g (by grind)) λ_=>ai F (dC (λ_=>aK ?_) λg=>absurd e g);show af.q (af.bK (qp (m,s,l)).2 0) (af.jw ((qp (m,s,l)).1.length:Int) 0)=true;rw[afb,dE,dh]
  grind
 intro f
 induction f with
 | zero=>grind
 | succ f ih=>
   intro k w H u j o e;by_cases a:k<l.length
   ·have y:(af.n yI l (k:Int):Int)=l[k]:=fL a _
    have G:af.cB (k:Int) 1=((k+1:Nat):Int):=by rw[dD (by omega)];omega
    have v:=AB a;show Go (G7 af) (.br (af.bD (k:Int) (l.length:Int)) (.ap (af.and (af.bU 0 (k:Int)) (af.bD (k:Int) (af.l l))) (.br (af.bK w 0) (.br (af.bD (af.n yI l (k:Int):Int) (-1)) (.ao (.c0 ⟨l,l,(l.length:Int),m,s⟩ 2 (af.cB (k:Int) 1))) (.br (af.jw (af.n yI l (k:Int):Int) (af.b .mul .i64 m.1 m.2.1)) (.ao (.c0 ⟨l,l,(l.length:Int),m,s⟩ 2 (af.cB (k:Int) 1))) (.ao (.c0 ⟨l,l,(l.length:Int),m,s⟩ w (af.cB (k:Int) 1))))) (.ao (.c0 ⟨l,l,(l.length:Int),m,s⟩ w (af.cB (k:Int) 1))))) _) _;rw[y,G];refine cJ (λ_=>ai (bW (l:=l) (by omega)) (dC (λg=>?_) λg=>aY (ih (k+1) w (by omega) (by omega) j o (by omega)))) λg=>absurd g (by omega);have C:=o g;have p:=p.resolve_right λq=>q C;rw[if_pos g,v] at e;rw[I4 (by omega) (by omega)];have bT:¬(-1<=l[k]/\l[k]<=m.1*m.2.1)->(qp (m,s,l)).2=(if (2:Int)=0 then(bif vn m (l.drop (k+1)) then 0 else 2) else 2):=λq=>by
     rw[e,if_neg (by decide)];unfold vn
     grind
    refine cJ (λz=>aY (ih (k+1) 2 (by omega) (by omega) j nofun (bT (by omega)))) λz=>pL (λA=>aY (ih (k+1) 2 (by omega) (by omega) j nofun (bT (by omega)))) λA=>aY (ih (k+1) w (by omega) (by omega) j o ?_);rw[e,if_pos g];unfold vn
    grind
   ·exact n k w a u e
theorem aef{a:List Int}{o:Int}:LC (m,s,a,o)=true/\Si (m,s,a,o)=true:=by
 refine im (s:=G7 af) (t:=Q9 af m s a o) (d:=Ty.aR [.bool]) (P:=λr=>r=true) ?_;have C:af.k LD ()=true:=by rw[bo];exact adm
 have D:af.k F4 ()=true:=by rw[bo];exact adl
 have f:af.k JJ m=mZ m:=by rfl
 unfold Q9 abi;rw[C,D,f];refine ai (show decide (([]:List fj).length<=1000000)=true from rfl) (ai rfl (dO nofun λ_=>dO (λ_=>aK rfl) λu=>pL (λ_=>aK rfl) λz=>?_));have u:=ajE u;have z:(a.length:Int)<=20:=z;have v:rC (m,s)=true:=da ⟨by omega,by omega,by omega⟩;have j:rC (m,IA s)=true:=da ⟨by show(0:Nat)<=_;omega,by show(0:Nat)<=_;omega,by show s.2.2.2.2.2.1.length<=_;omega⟩;cases hm:dq m
 ·have p:mZ m=70:=by unfold mZ;simp_all
  obtain⟨q,e⟩:=ak3 hm v;have e:af.k xd (m,s)=([],70):=e;obtain⟨n,H⟩:=ado (ons:=a) hm j;have F:=Lr (m:=m) (s:=s) (l:=a) (λ_=>.inr trivial) n (by simp_all) (.inr (by simp_all)) _ 0 70 (ah _) (aX _) (by omega) nofun (by simp_all);rw[e,p];exact ai q (dN (λg=>absurd rfl g) λ_=>dN (λ_=>dN (λg=>absurd rfl g) λ_=>dC nofun λ_=>aY F) λg=>absurd g (by decide))
 ·have p:mZ m=0:=qC.2 hm
  have I:=wQ hm;have A:0<=m.1*m.2.1:=eO (by omega) (by omega);have G:m.1*m.2.1<=8*m.2.1:=cy (by omega) (by omega);obtain⟨q,e⟩:=ak4 hm v;obtain⟨n,H⟩:=adp (ons:=a) hm j;have y:(qp (m,s,a)).2=0↔0<(qp (m,s,a)).1.length:=by grind
  rw[p];refine ai q (dN (λg=>absurd e g) λ_=>dN (λg=>absurd e g) λ_=>dC (λ_=>dN (λg=>aY ?_) λg=>aY ?_) λg=>absurd rfl g)
  ·have g:¬(a.length:Int)=m.1:=g
   refine Lr (λ_=>.inr trivial) n y (.inl ⟨A,by omega⟩) _ 0 2 (ah _) (aX _) (by omega) nofun ?_
   simp_all
  ·have g:(a.length:Int)=m.1:=g
   refine Lr (λ_=>.inr trivial) n y (.inl ⟨A,by omega⟩) _ 0 0 (ah _) (aX _) (by omega) (λ_=>hm) ?_
   grind
theorem aka(x:ax×ia×List Int×Int)(h:Ty.jK [bM,oq,BY,yI] x):LC x=true/\Si x=true:=aef
end
end Go.Ev.M
