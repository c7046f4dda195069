/-
  PROVED: what functions of the program compute, part 4. Conditions: none.
-/
import Derived.Test.YtdmeijjlkmmifaaGreatM3
set_option linter.unusedVariables false
set_option linter.unusedSimpArgs false
namespace Go.Ev.M
open Go.Proofs
set_option maxRecDepth 100000
open Go.Ev.Pl
noncomputable section
def Sw1(k:Nat)(x y:Net):Prop:=y=x\/∃on,kh (aF x k).1=false/\(on=true↔(aF x k).1.2.1=0)/\RP x k on y
def O5:Nat->Nat->Net->Net->Prop
 | 0,_,x,x'=>x'=x
 | f+1,k,x,x'=>∃y,Sw1 k x y/\O5 f (k+1) y x'
def Swt(x:Net)(i:Nat)(a:Net):Prop:=a=x\/((aF x i).2.2.2.2.2.2.1=true/\(aF x i).1.2.1=4/\O5 x.2.2.2.2.2.2.1.length 0 x a)
structure Swo(x:Net)(k:Nat):Prop where
 q:yW x
 m:dC x.2.1=true
 f:x.2.2.1.2.2.2.2.2.2.2.length<=1000000
 w:0<=x.2.2.2.2.2.1.2.2/\x.2.2.2.2.2.1.2.2<=2199023255552
 t:∀j,k<=j->j<x.2.2.2.2.2.2.1.length->0<=(aF x j).2.2.2.2.1/\(aF x j).2.2.2.2.1<=900000000000
variable{i:Nat}{x:Net}
theorem gY{j:Nat}{f:cr->cr}(h:j≠i):aF (cH x (bq x.2.2.2.2.2.2.1 i f)) j=aF x j:=aeG h
theorem qR.same{f:Net}{e:je}(h:qR x e f):f.2.2.2.2.2.2.1=x.2.2.2.2.2.2.1/\f.2.1=x.2.1/\f.2.2.1=x.2.2.1/\f.2.2.2.2.2.1.2.2=x.2.2.2.2.2.1.2.2/\(f.2.2.2.2.2.1).1=x.2.2.2.2.2.1.1/\f.1=x.1/\f.2.2.2.2.2.2.2=x.2.2.2.2.2.2.2/\(f.2.2.2.2.2.1.2.1).length<=16384/\Ko (f.2.2.2.2.2.1.2.1):=by
 obtain⟨g,j,rfl,a,b,_⟩:=h;exact⟨rfl,rfl,rfl,rfl,rfl,rfl,rfl,a,b⟩
theorem Swo.sw1{y:Net}{k:Nat}(h:Swo x k)(v:k<x.2.2.2.2.2.2.1.length)(s:Sw1 k x y):Swo y (k+1)/\y.2.2.2.2.2.2.1.length=x.2.2.2.2.2.2.1.length:=by
 have up:Swo x (k+1):=⟨h.q,h.m,h.f,h.w,λj f a=>h.t j (by omega) a⟩;rcases s with rfl|⟨on,_,_,p⟩
 ·exact⟨up,rfl⟩
 ·rcases p with ⟨_,rfl⟩|⟨_,⟨_,rfl⟩|⟨_,p⟩⟩
  ·exact⟨up,rfl⟩
  ·refine⟨⟨⟨h.q.made,h.q.len,h.q.heap⟩,h.m,h.f,h.w,λj f a=>?_⟩,bL⟩
   rw[gY (by omega)];exact h.t j (by omega) (by have a:j<(bq _ _ _).length:=a;rwa [bL] at a)
  ·have e:=p.len
   have g:y.2.2.2.2.2.2.1.length=x.2.2.2.2.2.2.1.length:=e.trans bL;obtain⟨z,l,n,o,q,_,_,r,u⟩:=qR.same p;refine⟨⟨⟨q.trans h.q.made,r,u⟩,by rw[l];exact h.m,by rw[n];exact h.f,by rw[o];exact h.w,λj f a=>?_⟩,g⟩;rw[qR.aF p,gY (by omega),gY (by omega)];exact h.t j (by omega) (by omega)
variable{c:fq}
theorem al5{n:Nat}:∀(f k:Nat) (x:Net),n-k<=f->k<=n->x.2.2.2.2.2.2.1.length=n->1<=n->n<=1000->Swo x k->Go (Am af) (Am af (.c1 ⟨(n:Int),c⟩ (k:Int) x)) λr=>O5 (n-k) k x r.1:=by
 have p:∀(k:Nat) (x:Net),¬k<n->k<=n->Go (Am af) (Am af (.c1 ⟨(n:Int),c⟩ (k:Int) x)) λr=>O5 (n-k) k x r.1:=λk x q S=>by
  refine bT (λg=>absurd g (by show ¬(k:Int)<(n:Int);omega)) λ_=>aD ?_;rw[show n-k=0 from by omega];rfl
 intro f
 induction f with
 | zero=>intro k x N q _ _ _ _;exact p k x (by omega) q
 | succ f ih=>
   intro k x N q Q I J h;by_cases g:k<n
   ·have o:k<x.2.2.2.2.2.2.1.length:=by omega
    have A:∀y,Sw1 k x y->Go (Am af) (.ao (.c1 ⟨(n:Int),c⟩ (nX af (k:Int)) y)) λr=>O5 (n-k) k x r.1:=λy s=>by
     obtain⟨P,V⟩:=h.sw1 o s;rw[show nX af (k:Int)=((k+1:Nat):Int) from by unfold nX;rw[dG (by omega)];omega,show n-k=(n-(k+1))+1 from by omega];exact aZ ((ih (k+1) y (by omega) (by omega) (by omega) I J P).mono λr O=>⟨y,s,O⟩)
    have z:∀m,af.k jR (kv x (),m,(k:Int),c)=true:=λm=>(ub (v:=(kv x (),m,(k:Int),c)) h.f).1;have u:(af.n bP x.2.2.2.2.2.2.1 (k:Int):cr)=aF x k:=jC;have j:=A x (.inl rfl);have C:∀on,kh (aF x k).1=false->(on=true↔(aF x k).1.2.1=0)->Go (Am af) (.ar (af.k uO (x,(k:Int),on)) (.ar (af.cu (af.l x.2.2.2.2.2.2.1) 0) (.ao (.c1 ⟨(n:Int),c⟩ (nX af (k:Int)) (xt (x,(k:Int),on)).1)))) λr=>O5 (n-k) k x r.1:=λon a b=>by
     obtain⟨p1,p2⟩:=Gz (on:=on) h.q o h.m (h.t k (aj _) o) h.w;exact ah p1 (ah (eO o) (A _ (.inr ⟨on,a,b,p2⟩)))
    have off:Go (Am af) (.br (af.cu (af.n bP x.2.2.2.2.2.2.1 (k:Int):cr).1.2.1 0) (.br (af.not (af.k lY (af.n bP x.2.2.2.2.2.2.1 (k:Int):cr).1)) (.ar (af.k uO (x,(k:Int),false)) (.ar (af.cu (af.l x.2.2.2.2.2.2.1) 0) (.ao (.c1 ⟨(n:Int),c⟩ (nX af (k:Int)) (xt (x,(k:Int),false)).1)))) (.ao (.c1 ⟨(n:Int),c⟩ (nX af (k:Int)) x))) (.ao (.c1 ⟨(n:Int),c⟩ (nX af (k:Int)) x))) λr=>O5 (n-k) k x r.1:=by
     rw[u];exact dM (λe=>du (λF=>C false F ⟨nofun,λG=>absurd G e⟩) λ_=>j) λ_=>j
    refine bT (λ_=>ah (da (l:=x.2.2.2.2.2.2.1) (by omega)) (ah (z 2) (ah (z 1) (fJ (λ_=>dw (λe=>?_) λ_=>fJ (λ_=>off) λ_=>j) λ_=>fJ (λ_=>off) λ_=>j)))) λH=>absurd H (by show ¬(n:Int)<=(k:Int);omega);have e:(aF x k).1.2.1=0:=by rw[<-u];exact e
    have D:kh (aF x k).1=false:=by unfold kh;rw[e];rfl
    exact C true D ⟨λ_=>e,λ_=>rfl⟩
   ·exact p k x g q
theorem O5.len:∀{f k:Nat} {x y:Net},O5 f k x y->Swo x k->k+f<=x.2.2.2.2.2.2.1.length->y.2.2.2.2.2.2.1.length=x.2.2.2.2.2.2.1.length
 | 0,_,_,_,h,_,_=>by rw[h]
 | f+1,k,x,_,h,hs,hk=>by
   obtain⟨z,a,e⟩:=h;obtain⟨g,j⟩:=hs.sw1 (by omega) a;rw[O5.len e g (by omega)];exact j
theorem OP(h:Swo x 0)(z:i<x.2.2.2.2.2.2.1.length)(y:x.2.2.2.2.2.2.1.length<=1000):CW (x,(i:Int),c)=true/\Swt x i (FX (x,(i:Int),c)).1:=by
 refine iC (s:=Am af) (t:=ab2 af x (i:Int) c) (P:=λr=>Swt x i r.1) ?_ λr o=>?_
 ·have q:(af.n bP x.2.2.2.2.2.2.1 (i:Int):cr)=aF x i:=jC
  unfold ab2;rw[q];refine ah (da (l:=x.2.2.2.2.2.2.1) (by omega)) (du (λ_=>aD (.inl rfl)) λa=>dM (λ_=>aD (.inl rfl)) λb=>aZ ?_);have lp:∀(f k:Nat),i-k<=f->k<=i->Go (Am af) (Am af (.c0 ⟨(i:Int),x,c⟩ (k:Int))) λr=>Swt x i r.1:=by
   have j:∀k,¬k<i->Go (Am af) (Am af (.c0 ⟨(i:Int),x,c⟩ ((k:Nat):Int))) λr=>Swt x i r.1:=λk p=>
    bT (λg=>absurd g (by show ¬(k:Int)<(i:Int);omega)) λ_=>aZ ((al5 (n:=x.2.2.2.2.2.2.1.length) (c:=c) _ 0 x (aj _) (aX _) rfl (by omega) y h).mono λr o=>.inr ⟨a,b,o⟩)
   intro f
   induction f with
   | zero=>intro k v p;exact j k (by omega)
   | succ f ih=>
     intro k v p;by_cases g:k<i
     ·refine bT (λ_=>ah (da (l:=x.2.2.2.2.2.2.1) (by omega)) (dw (λ_=>aD (.inl rfl)) λ_=>?_)) λu=>absurd u (by show ¬(i:Int)<=(k:Int);omega)
      rw[dG (by omega),show(k:Int)+1=((k+1:Nat):Int) from by omega];exact aZ (ih (k+1) (by omega) (by omega))
     ·exact j k g
  exact lp i 0 (aj _) (aX _)
 ·rcases o with e|⟨_,_,e⟩
  ·rw[e]
  ·exact e.len h (by omega)
def y1(y:cr):cr:=(y.1,y.2.1,y.2.2.1,y.2.2.2.1,y.2.2.2.2.1,false,y.2.2.2.2.2.2)
def edY(n:Node)(y:cr):cr:=(n,y.2.1,y.2.2.1,y.2.2.2.1,y.2.2.2.2.1,y.2.2.2.2.2.1,y.2.2.2.2.2.2.1,true)
def ZU(n:Node)(c:qj)(y:cr):cr:=(n,c,IntKind.i64.wrap (y.2.2.1+1),y.2.2.2)
def Vx(x:Net)(s:List ny):Net:=(x.1,x.2.1,x.2.2.1,x.2.2.2.1,x.2.2.2.2.1,x.2.2.2.2.2.1,x.2.2.2.2.2.2.1,x.2.2.2.2.2.2.2.1,x.2.2.2.2.2.2.2.2.1,x.2.2.2.2.2.2.2.2.2.1,s)
def Ev2(x:Net)(i:Nat)(a:Net):Prop:=
 a=x/\(kh (aF x i).1=false\/(jq x.2.1 (aF x i).1).2≠0)\/
 kh (aF x i).1=true/\(jq x.2.1 (aF x i).1).2=0/\(a=cH x (bq x.2.2.2.2.2.2.1 i (edY (jq x.2.1 (aF x i).1).1))\/
  ∃d c s,E6 x.2.1 (aF x i).2.1 d c/\s.length<=x.2.2.2.2.2.2.2.2.2.2.length+1/\(∀z∈s,z∈x.2.2.2.2.2.2.2.2.2.2\/z.2=(jq x.2.1 (aF x i).1).1)/\
   qR (Vx (cH x (bq x.2.2.2.2.2.2.1 i (ZU (jq x.2.1 (aF x i).1).1 c))) s) (vn x c.1,4,(i:Int),(aF x i).2.2.2.2.1) a)
structure Evo(x:Net)(i:Nat):Prop where
 q:yW x
 m:dC x.2.1=true
 lt:i<x.2.2.2.2.2.2.1.length
 d:∀v∈x.2.2.1.2.2.2.2.2.1, -x.2.1.2.2.2.2.1<=v/\v<=x.2.1.2.2.2.2.1
 l:x.2.2.1.2.2.2.2.2.1.length<=1000000
 s:x.2.2.2.2.2.2.2.2.2.2.length<=800000
 b:∀n,(jq x.2.1 (aF x i).1).2=0->n=(jq x.2.1 (aF x i).1).1->adU n=true
def nxC(x:Net)(i:Nat):qj×Int:=JP (x.2.1,(aF x i).2.1,zn (x.2.2.1,x.2.1.1,(aF x i).2.2.1,(i:Int)))
theorem aj0(h:Evo x i):Go (OA af) (OA af (.c0 ⟨(i:Int),(i:Int),x⟩)) λr=>Ev2 x i r.1:=by
 obtain⟨q,Q,a,J,O,Y,H⟩:=h;have j:(af.n bP x.2.2.2.2.2.2.1 (i:Int):cr)=aF x i:=jC;have p:Au af ⟨(i:Int),(i:Int),x⟩=jq x.2.1 (aF x i).1:=by
  show Yj (x.2.1,(af.n bP x.2.2.2.2.2.2.1 (i:Int):cr).1)=_;rw[j];rfl
 have o:wm af ⟨(i:Int),(i:Int),x⟩=bq x.2.2.2.2.2.2.1 i (gD (jq x.2.1 (aF x i).1).1):=by
  unfold wm;rw[p];show af.set x.2.2.2.2.2.2.1 (i:Int) ((jq x.2.1 (aF x i).1).1,(af.n bP x.2.2.2.2.2.2.1 (i:Int):cr).2)=_;rw[j];exact vW
 have en:(af.n bP (bq x.2.2.2.2.2.2.1 i (gD (jq x.2.1 (aF x i).1).1)) (i:Int):cr)=gD (jq x.2.1 (aF x i).1).1 (aF x i):=BE a;have v:xY af ⟨(i:Int),(i:Int),x⟩=nxC x i:=by
  unfold xY;rw[o];show JP (x.2.1,(af.n bP (bq x.2.2.2.2.2.2.1 i (gD (jq x.2.1 (aF x i).1).1)) (i:Int):cr).2.1,zn (x.2.2.1,x.2.1.1,(af.n bP (bq x.2.2.2.2.2.2.1 i (gD (jq x.2.1 (aF x i).1).1)) (i:Int):cr).2.2.1,(i:Int)))=_;rw[en];rfl
 have F:xZ af ⟨(i:Int),(i:Int),x⟩=bq x.2.2.2.2.2.2.1 i (ZU (jq x.2.1 (aF x i).1).1 (nxC x i).1):=by
  unfold xZ acy;rw[o,v];exact(congrArg (λl=>md af bP l (i:Int) λ(u:cr)=>up2 u (af.c_ u.2.2.1 1)) (jO.trans (mod_mod a))).trans (jO.trans (mod_mod a))
 have G:Hz af ⟨(i:Int),(i:Int),x⟩=x.2.2.2.2.2.2.2.2.2.2 ++ [((jq x.2.1 (aF x i).1).1.2.2.1.1,(jq x.2.1 (aF x i).1).1)]:=by
  unfold Hz;rw[p];rfl
 have I:=wT Q;obtain⟨D,W,X⟩:=XH (s:=x.2.2.1) (n:=x.2.1.1) (k:=(aF x i).2.2.1) (i:=(i:Int)) (d:=x.2.1.2.2.2.2.1) (by omega) J O;obtain⟨n1,V⟩:=akZ (m:=x.2.1) (c:=(aF x i).2.1) (d:=zn (x.2.2.1,x.2.1.1,(aF x i).2.2.1,(i:Int)));have S:(x.2.2.2.2.2.2.2.2.2.2.length:Int)+1<=651562446089:=by omega
 have C:af.cu (af.l (bq x.2.2.2.2.2.2.1 i (ZU (jq x.2.1 (aF x i).1).1 (nxC x i).1))) 0=true:=pT a;have P:=λs=>GJ (x:=Vx (cH x (bq x.2.2.2.2.2.2.1 i (ZU (jq x.2.1 (aF x i).1).1 (nxC x i).1))) s) (t:=(nxC x i).1.1) (k:=4) (i:=i) ⟨q.made,q.len,q.heap⟩ (by show i<(bq _ _ _).length;rw[bL];exact a) (by decide);have y:∀s,(aF (Vx (cH x (bq x.2.2.2.2.2.2.1 i (ZU (jq x.2.1 (aF x i).1).1 (nxC x i).1))) s) i).2.2.2.2.1=(aF x i).2.2.2.2.1:=λs=>by
  show((bq x.2.2.2.2.2.2.1 i _).getD i dS).2.2.2.2.1=_;rw[um a];rfl
 refine du (λg=>aD (.inl ⟨rfl,.inl ?_⟩)) λg=>?_
 ·rw[<-j];exact g
 have g:kh (aF x i).1=true:=by rw[<-j];exact g
 dsimp only;rw[p,o,en,v,F,G];refine dM (λf=>aD (.inl ⟨rfl,.inr f⟩)) λf=>ah D (ah n1 (dM (λA=>aD (.inr ⟨g,f,.inl ?_⟩)) λA=>?_))
 ·exact congrArg (cH x) (jO.trans (mod_mod a))
 ·have N:=V A
  refine dw (λ_=>ah (H _ f rfl) (ah (iQ S) (ah (P _).1 (ah C (aD (.inr ⟨g,f,.inr ⟨_,_,x.2.2.2.2.2.2.2.2.2.2 ++ [((jq x.2.1 (aF x i).1).1.2.2.1.1,(jq x.2.1 (aF x i).1).1)],N,?_,λz e=>?_,?_⟩⟩)))))) λ_=>ah (P x.2.2.2.2.2.2.2.2.2.2).1 (ah C (aD (.inr ⟨g,f,.inr ⟨_,_,x.2.2.2.2.2.2.2.2.2.2,N,iX _,λz e=>.inl e,?_⟩⟩)))
  ·rw[qS,bg];exact aj _
  ·rcases nY.1 e with e|e
   ·exact .inl e
   ·rw[aJ.1 e];exact .inr rfl
  ·have:=(P (x.2.2.2.2.2.2.2.2.2.2 ++ [((jq x.2.1 (aF x i).1).1.2.2.1.1,(jq x.2.1 (aF x i).1).1)])).2
   rw[y] at this;exact this
  ·have:=(P x.2.2.2.2.2.2.2.2.2.2).2
   rw[y] at this;exact this
def Evl(x:Net)(i:Nat)(a:Net):Prop:=
 (kh (aF x i).1=false/\a=x)\/(kh (aF x i).1=true/\∃y z,V5 x i y/\((aF x i).2.2.2.2.2.1=true\/(aF x i).1.2.2.1.2.1=(i:Int)->y=x)/\Swt (cH y (bq y.2.2.2.2.2.2.1 i y1)) i z/\Ev2 z i a)
theorem Ev2.len{a:Net}(h:Ev2 x i a):(a.2.2.2.2.2.2.1).length=x.2.2.2.2.2.2.1.length:=by
 rcases h with ⟨rfl,_⟩|⟨_,_,rfl|⟨_,_,_,_,_,_,p⟩⟩
 ·rfl
 ·exact bL
 ·rw[(qR.same p).1];exact bL
structure Evi(x:Net)(i K:Nat):Prop where
 s:ze x i K
 m:dC x.2.1=true
 w:0<=x.2.2.2.2.2.1.2.2/\x.2.2.2.2.2.1.2.2<=2199023255552
 n:x.2.2.2.2.2.2.1.length<=1000
 g:x.2.2.2.2.2.2.1.length<=x.2.2.1.2.2.2.1.length
 c:(aF x i).2.1.2.2.length<=8
 t:∀j,j<x.2.2.2.2.2.2.1.length->0<=(aF x j).2.2.2.2.1/\(aF x j).2.2.2.2.1<=900000000000
 e:∀y z,V5 x i y->Swt (cH y (bq y.2.2.2.2.2.2.1 i y1)) i z->Evo z i
variable{K:Nat}
theorem ad5(h:Evi x i K):QC (x,(i:Int))=true/\Evl x i (SC (x,(i:Int))).1:=by
 have o:=h.s.i;have C:As af x (i:Int)=aF x i:=by
  unfold As;exact jC
 have u:∀y,V5 x i y->Swo (cH y (bq y.2.2.2.2.2.2.1 i y1)) 0/\i<(cH y (bq y.2.2.2.2.2.2.1 i y1)).2.2.2.2.2.2.1.length/\(cH y (bq y.2.2.2.2.2.2.1 i y1)).2.2.2.2.2.2.1.length=x.2.2.2.2.2.2.1.length:=λy a=>by
  have f:y.2.2.2.2.2.2.1.length=x.2.2.2.2.2.2.1.length:=a.len;have A:(cH y (bq y.2.2.2.2.2.2.1 i y1)).2.2.2.2.2.2.1.length=x.2.2.2.2.2.2.1.length:=bL.trans f;have J:∀j,j<x.2.2.2.2.2.2.1.length->0<=(aF y j).2.2.2.2.1/\(aF y j).2.2.2.2.1<=900000000000:=λj p=>by
   rcases a with rfl|⟨l,c,_,_,rfl⟩
   ·exact h.t j p
   ·by_cases e:j=i
    ·rw[e,fh o];exact h.t i o
    ·rw[gY e];exact h.t j p
  have q:∀j,j<x.2.2.2.2.2.2.1.length->0<=(aF (cH y (bq y.2.2.2.2.2.2.1 i y1)) j).2.2.2.2.1/\(aF (cH y (bq y.2.2.2.2.2.2.1 i y1)) j).2.2.2.2.1<=900000000000:=λj p=>by
   by_cases e:j=i
   ·rw[e,fh (by omega)];exact J i o
   ·rw[gY e];exact J j p
  refine⟨?_,by omega,A⟩;rcases a with rfl|⟨l,c,_,_,rfl⟩
  ·exact⟨⟨h.s.q.made,h.s.q.len,h.s.q.heap⟩,h.m,h.s.f,h.w,λj _ p=>q j (by omega)⟩
  ·exact⟨⟨h.s.q.made,h.s.q.len,h.s.q.heap⟩,h.m,h.s.f,h.w,λj _ p=>q j (by omega)⟩
 refine iC (s:=OA af) (t:=abU af x (i:Int)) (P:=λr=>Evl x i r.1) ?_ λr D=>?_
 ·unfold abU abV
  rw[C];have n:∀y:Net,i<y.2.2.2.2.2.2.1.length->md af bP y.2.2.2.2.2.2.1 (i:Int) (λ(f:cr)=>r9 f false)=bq y.2.2.2.2.2.2.1 i y1:=λy a=>jO;have tail:∀(y:Net) (c:fq),kh (aF x i).1=true->V5 x i y->((aF x i).2.2.2.2.2.1=true\/(aF x i).1.2.2.1.2.1=(i:Int)->y=x)->CW (cH y (bq y.2.2.2.2.2.2.1 i y1),(i:Int),c)=true/\Go (OA af) (.ao (.c0 ⟨(i:Int),(i:Int),(FX (cH y (bq y.2.2.2.2.2.2.1 i y1),(i:Int),c)).1⟩)) λr=>Evl x i r.1:=λy c g a W=>by
   obtain⟨I,O,v⟩:=u y a;obtain⟨p1,p2⟩:=OP (c:=c) I O (by rw[v];exact h.n);exact⟨p1,aZ ((aj0 (h.e y _ a p2)).mono λr D=>.inr ⟨g,y,_,a,W,p2,D⟩)⟩
  obtain⟨X,N⟩:=ael h.s h.g h.c;have Y:x.2.2.2.2.2.2.1.length=(sT (x,(i:Int))).1.2.2.2.2.2.2.1.length:=N.len.symm;have A:MF af x (i:Int)=(cH (sT (x,(i:Int))).1 (bq (sT (x,(i:Int))).1.2.2.2.2.2.2.1 i y1),(i:Int),(aF x i).1.2.2.1):=by
   unfold MF;rw[C];exact congrArg (λl=>(cH (sT (x,(i:Int))).1 l,(i:Int),(aF x i).1.2.2.1)) (n (sT (x,(i:Int))).1 (by omega))
  have f:ME af x (i:Int)=(cH x (bq x.2.2.2.2.2.2.1 i y1),(i:Int),(aF x i).1.2.2.1):=by
   unfold ME;rw[C];exact congrArg (λl=>(cH x l,(i:Int),(aF x i).1.2.2.1)) (n x o)
  rw[f,A];have B:kh (aF x i).1=true->Go (OA af) (.ar (af.k CW (cH x (bq x.2.2.2.2.2.2.1 i y1),(i:Int),(aF x i).1.2.2.1)) (.ar (af.cu (af.l (md af bP x.2.2.2.2.2.2.1 (i:Int) λ(f:cr)=>r9 f false)) 0) (.ao (.c0 ⟨(i:Int),(i:Int),(FX (cH x (bq x.2.2.2.2.2.2.1 i y1),(i:Int),(aF x i).1.2.2.1)).1⟩)))) λr=>Evl x i r.1:=λg=>by
   obtain⟨G,H⟩:=tail x (aF x i).1.2.2.1 g (.inl rfl) λ_=>rfl;exact ah G (ah (by rw[n x o];exact pT o) H)
  refine ah (da (l:=x.2.2.2.2.2.2.1) (by omega)) (du (λg=>aD (.inl ⟨g,rfl⟩)) λg=>du (λQ=>dM (λS=>?_) λ_=>B g) λ_=>B g);obtain⟨G,H⟩:=tail (sT (x,(i:Int))).1 (aF x i).1.2.2.1 g N λk=>k.elim (λk=>absurd (Q.symm.trans k) (by decide)) λk=>absurd k S;refine ah X (ah (eO o) (ah G (ah ?_ H)));rw[show md af bP (af.k sT (x,(i:Int))).1.2.2.2.2.2.2.1 (i:Int) (λ(f:cr)=>r9 f false)=bq (sT (x,(i:Int))).1.2.2.2.2.2.2.1 i y1 from n (sT (x,(i:Int))).1 (by omega)];exact pT (by omega)
 ·rcases D with ⟨_,e⟩|⟨_,y,z,a,_,F,V⟩
  ·rw[e]
  ·obtain⟨I,O,v⟩:=u y a
   rw[V.len];rcases F with rfl|⟨_,_,F⟩
   ·exact v
   ·rw[F.len I (by omega)];exact v
inductive Up (m:ax) (n:Node):Node->Prop where
 | rfl:Up m n n
 | step {k:Node} {o:dO}:Up m n k->(y5 m k o).2=0->Up m n (y5 m k o).1
def Bg2(x:Net)(i:Nat)(a:Net):Prop:=∃y,E2 x i (aF x i).1.2.2.1 (y,())/\
 ((aF x i).1.2.2.1.2.1=(i:Int)/\(∃r:Net×Bool,RQ y i r/\(r.2=false/\a=r.1\/r.2=true/\qR r.1 (vn r.1 (ovT x.2.1 (aF r.1 i).2.1.1),1,(i:Int),(aF r.1 i).2.2.2.2.1) a))\/
   (aF x i).1.2.2.1.2.1≠(i:Int)/\qR y (vn y (ovT x.2.1 (aF y i).2.1.1),1,(i:Int),(aF y i).2.2.2.2.1) a)
structure Bgo(x:Net)(i K:Nat):Prop where
 s:ze x i K
 k:K+8<=800010
 m:dC x.2.1=true
 w:0<=x.2.2.2.2.2.1.2.2/\x.2.2.2.2.2.1.2.2<=2199023255552
 t:0<=(aF x i).2.2.2.2.1/\(aF x i).2.2.2.2.1<=900000000000
 c:0<=(aF x i).2.1.1/\(aF x i).2.1.1<=1000000000000
 o:x.2.2.1.2.2.2.2.2.2.1.length<=1000000
theorem oy.same{y:Net}{k j:Nat}(e:oy x y k j):y.2.1=x.2.1/\y.2.2.2.2.2.1.2.2=x.2.2.2.2.2.1.2.2:=by
 obtain⟨a,b,s,g,l,f,rfl,_⟩:=e;exact⟨rfl,rfl⟩
variable{r:Net×Bool}
theorem RQ.clk(h:RQ x i r)(g:i<x.2.2.2.2.2.2.1.length):(aF r.1 i).2.1=(aF x i).2.1/\r.1.2.1=x.2.1:=by
 rcases h with ⟨_,rfl⟩|⟨_,y,f,a⟩
 ·exact⟨rfl,rfl⟩
 ·have e:(aF y i).2.1=(aF x i).2.1/\y.2.1=x.2.1:=by
   rcases f with ⟨_,f⟩|⟨_,rfl⟩
   ·refine⟨?_,(qR.same f).2.1⟩
    have j:i<(cH x (bq x.2.2.2.2.2.2.1 i (gD (rm x.2.1 (aF x i).1).1))).2.2.2.2.2.2.1.length:=by show i<(bq _ _ _).length;rw[bL];exact g
    rw[qR.aF f,fh j,fh g];rfl
   ·exact⟨by rw[fh g];rfl,rfl⟩
  rcases a with ⟨_,rfl⟩|⟨_,_,a⟩
  ·exact e
  ·exact⟨by rw[a.aF];exact e.1,by rw[a.same.1];exact e.2⟩
theorem RQ.qok(h:RQ x i r)(a:yW x):yW r.1:=by
 rcases h with ⟨_,rfl⟩|⟨_,y,g,f⟩
 ·exact a
 ·have e:yW y:=by
   rcases g with ⟨_,g⟩|⟨_,rfl⟩
   ·obtain⟨_,_,_,_,j,_,_,l,n⟩:=qR.same g
    exact⟨j.trans a.made,l,n⟩
   ·exact⟨a.made,a.len,a.heap⟩
  rcases f with ⟨_,rfl⟩|⟨_,_,f⟩
  ·exact e
  ·exact f.ok e.made
variable{p:Ck}
theorem aiz{k:Nat}(h:Bgo x i K)(J:p.b1<=(k:Int))(u:p.b3=(i:Int)):Go (BP af) (BP af (.c1 p (k:Int) x)) λr=>Bg2 x i r.1:=by
 have H:=h.s.i;have N:=h.k;have o:tC af p x=aF x i:=by
  unfold tC;rw[u];exact jC
 have F:x9 af p x=(zp (x,(i:Int),(aF x i).1.2.2.1)).1:=by
  unfold x9;rw[o,u];rfl
 have D:x8 af p x=(x9 af p x,(i:Int),(aF x i).1.2.2.1):=by
  unfold x8;rw[o,u]
 refine bT (λg=>absurd g (by omega)) λ_=>?_;rw[D,o,F,u,show af.k xu ((zp (x,(i:Int),(aF x i).1.2.2.1)).1,(i:Int),(aF x i).1.2.2.1)=xu ((zp (x,(i:Int),(aF x i).1.2.2.1)).1,(i:Int),(aF x i).1.2.2.1) from rfl];clear D o F;obtain⟨G,j⟩:=Py (c:=(aF x i).1.2.2.1) h.s (by omega) h.c;have a:ze (zp (x,(i:Int),(aF x i).1.2.2.1)).1 i (K+6):=h.s.XO j.1 (by omega);have q:=j.1.aF;have f:=j.1.same;have v:E2 x i (aF x i).1.2.2.1 ((zp (x,(i:Int),(aF x i).1.2.2.1)).1,()):=j;clear j;generalize (zp (x,(i:Int),(aF x i).1.2.2.1)).1=y at *;refine ah G (ah (eO H) (dw (λg=>?_) λg=>?_))
 ·obtain⟨I,n⟩:=abg (c:=(aF x i).1.2.2.1) a (by omega) (by rw[f.1];exact h.m) (by rw[q];exact h.t) (by rw[f.2];exact h.w) (by rw[q];exact h.c)
  generalize xu (y,(i:Int),(aF x i).1.2.2.1)=r at *;have O:r.1.2.2.2.2.2.2.1.length=y.2.2.2.2.2.2.1.length:=n.len;have A:=n.clk a.i;obtain⟨C,l⟩:=EP (x:=r.1) (i:=i) (n.qok a.q) (by have:=a.i;omega) (by rw[A.2,f.1];exact h.m) (by rw[A.1,q];exact⟨h.c.1,bX h.c.2 (by decide)⟩);have e:r.1.2.1=x.2.1:=by rw[A.2,f.1]
  rw[e] at l;exact ah I (ah (eO a.i) (du (λz=>aD ⟨y,v,.inl ⟨g,r,n,.inl ⟨z,rfl⟩⟩⟩) λz=>ah C (ah (eO (i:=i) (by have:=a.i;omega)) (aD ⟨y,v,.inl ⟨g,r,n,.inr ⟨z,l⟩⟩⟩))))
 ·obtain⟨C,l⟩:=EP (x:=y) a.q a.i (by rw[f.1];exact h.m) (by rw[q];exact⟨h.c.1,bX h.c.2 (by decide)⟩)
  rw[f.1] at l;exact ah C (ah (eO a.i) (aD ⟨y,v,.inr ⟨g,l⟩⟩))
theorem U0{l:List cr}(h:i<l.length):bq l i (gD (l.getD i dS).1)=l:=by
 have e:gD (l.getD i dS).1 (l.getD i dS)=l.getD i dS:=rfl;unfold bq;rw[e,xB,EK h];exact List.set_getElem_self h
theorem Xg{l:List dO}{e:Node}(y:i<x.2.2.2.2.2.2.1.length)(D:p.b0=l)(v:p.b1=(l.length:Int))(u:p.b3=(i:Int))(J:l.length<=1000000)(F:∀n,Up x.2.1 e n->Bgo (cH x (bq x.2.2.2.2.2.2.1 i (gD n))) i K):∀(f k:Nat) (n:Node),l.length-k<=f->Up x.2.1 e n->Go (BP af) (BP af (.c1 p (k:Int) (cH x (bq x.2.2.2.2.2.2.1 i (gD n))))) λr=>∃n,Up x.2.1 e n/\Bg2 (cH x (bq x.2.2.2.2.2.2.1 i (gD n))) i r.1:=by
 have j:∀(k:Nat) (n:Node),¬k<l.length->Up x.2.1 e n->Go (BP af) (BP af (.c1 p (k:Int) (cH x (bq x.2.2.2.2.2.2.1 i (gD n))))) λr=>∃n,Up x.2.1 e n/\Bg2 (cH x (bq x.2.2.2.2.2.2.1 i (gD n))) i r.1:=λk n I a=>(aiz (F n a) (by rw[v];omega) u).mono λr H=>⟨n,a,H⟩;intro f
 induction f with
 | zero=>intro k n G a;exact j k n (by omega) a
 | succ f ih=>
   intro k n G a;by_cases g:k<l.length
   ·have en:tC af p (cH x (bq x.2.2.2.2.2.2.1 i (gD n)))=gD n (aF x i):=by
     unfold tC;rw[u];exact BE y
    have o:Go (BP af) (.ao (.c1 p (af.c_ (k:Int) 1) (cH x (bq x.2.2.2.2.2.2.1 i (gD n))))) λr=>∃n,Up x.2.1 e n/\Bg2 (cH x (bq x.2.2.2.2.2.2.1 i (gD n))) i r.1:=by
     rw[dG (by omega),show(k:Int)+1=((k+1:Nat):Int) from by omega];exact aZ (ih (k+1) n (by omega) a)
    refine bT (λ_=>ah (by rw[D];exact da (l:=l) (by omega)) (dw (λ_=>dw (λ_=>dw (λ_=>?_) λ_=>o) λ_=>o) λ_=>o)) λA=>absurd A (by rw[v];omega);rw[en];refine dw (λC=>?_) λ_=>o;have z:af.set (bq x.2.2.2.2.2.2.1 i (gD n)) p.b3 ((af.k Sl (x.2.1,(gD n (aF x i)).1,(af.n e_ p.b0 (k:Int):dO))).1,(gD n (aF x i)).2)=bq x.2.2.2.2.2.2.1 i (gD (y5 x.2.1 n (af.n e_ p.b0 (k:Int):dO)).1):=by
     rw[u];exact vW.trans (mod_mod y)
    rw[dG (by omega),show(k:Int)+1=((k+1:Nat):Int) from by omega];have q:=ih (k+1) _ (by omega) (.step a C);rw[<-z] at q;exact aZ q
   ·exact j k n g a
def O0(y:cr):cr:=(y.1,y.2.1,y.2.2.1,y.2.2.2.1,y.2.2.2.2.1,y.2.2.2.2.2.1,y.1.2.1==4,y.2.2.2.2.2.2.2)
def ovY(y:cr):cr:=(y.1,y.2.1,y.2.2.1,y.2.2.2.1,y.2.2.2.2.1,y.2.2.2.2.2.1,y.2.2.2.2.2.2.1,true)
def yc(x:Net)(i:Nat):Net:=cH x (bq x.2.2.2.2.2.2.1 i O0)
def NU(x:Net)(i:Nat)(n:Node):Net:=cH (yc x i) (bq (yc x i).2.2.2.2.2.2.1 i (gD n))
def Bgn(x:Net)(i:Nat)(a:Net):Prop:=
 (kh (aF x i).1=false/\a=x)\/(kh (aF x i).1=true/\(a=cH x (bq x.2.2.2.2.2.2.1 i ovY)\/RP x i false a\/∃n,Up x.2.1 (aF x i).1 n/\Bg2 (NU x i n) i a))
structure Bgi(x:Net)(i K:Nat):Prop where
 q:yW x
 lt:i<x.2.2.2.2.2.2.1.length
 f:x.2.2.1.2.2.2.2.2.2.2.length<=1000000
 o:x.2.2.1.2.2.2.2.2.2.1.length<=1000000
 m:dC x.2.1=true
 w:0<=x.2.2.2.2.2.1.2.2/\x.2.2.2.2.2.1.2.2<=2199023255552
 t:0<=(aF x i).2.2.2.2.1/\(aF x i).2.2.2.2.1<=900000000000
 b:∀n,Up x.2.1 (aF x i).1 n->Bgo (NU x i n) i K
theorem Bg2.len{a:Net}(h:Bg2 x i a):(a.2.2.2.2.2.2.1).length=x.2.2.2.2.2.2.1.length:=by
 obtain⟨y,⟨d,_⟩,⟨_,r,s,⟨_,rfl⟩|⟨_,p⟩⟩|⟨_,p⟩⟩:=h
 ·rw[s.len,d.len]
 ·rw[(qR.same p).1,s.len,d.len]
 ·rw[(qR.same p).1,d.len]
theorem Xf(h:Bgi x i K):QF (x,(i:Int))=true/\Bgn x i (SF (x,(i:Int))).1:=by
 have j:=h.lt;have z:Av af x (i:Int)=aF x i:=by
  unfold Av;exact jC
 refine iC (s:=BP af) (t:=abY af x (i:Int)) (P:=λr=>Bgn x i r.1) ?_ λr D=>?_
 ·unfold abY abZ
  rw[z];have C:af.k jR (kv x (),1,(i:Int),(aF x i).1.2.2.1)=true:=(ub (v:=(kv x (),1,(i:Int),(aF x i).1.2.2.1)) h.f).1;obtain⟨p1,p2⟩:=Gz (on:=false) h.q j h.m h.t h.w;have y:af.k Qv x.2.2.1.2.2.2.2.2.2.1=true:=dn (by have:=h.o;omega);have u:i<(yc x i).2.2.2.2.2.2.1.length:=by show i<(bq _ _ _).length;rw[bL];exact j
  have b:(aF x i).1=((yc x i).2.2.2.2.2.2.1.getD i dS).1:=by
   show _=((bq x.2.2.2.2.2.2.1 i O0).getD i dS).1;rw[um j];rfl
  have A:yc x i=cH (yc x i) (bq (yc x i).2.2.2.2.2.2.1 i (gD (aF x i).1)):=by
   rw[b];exact congrArg (cH (yc x i)) (U0 u).symm
  have L:∀(s:jv) (c d:Int),Go (BP af) (BP af (.c1 ⟨x.2.2.1.2.2.2.2.2.2.1,(x.2.2.1.2.2.2.2.2.2.1.length:Int),(i:Int),s,c,d⟩ ((0:Nat):Int) (yc x i))) λr=>∃n,Up x.2.1 (aF x i).1 n/\Bg2 (NU x i n) i r.1:=λs c d=>by
   have q:=Xg (x:=yc x i) (l:=x.2.2.1.2.2.2.2.2.2.1) (p:=⟨x.2.2.1.2.2.2.2.2.2.1,(x.2.2.1.2.2.2.2.2.2.1.length:Int),(i:Int),s,c,d⟩) u rfl rfl rfl h.o h.b _ 0 _ (aj _) .rfl;rw[<-A] at q;exact q
  have f:kh (aF x i).1=true->Go (BP af) (.ar (af.k jR (kv x (),1,(i:Int),(aF x i).1.2.2.1)) (.br (af.k eH (kv x (),1,(i:Int),(aF x i).1.2.2.1)).2 (.ar (af.k uO (x,(i:Int),false)) (.ar (af.cu (af.l x.2.2.2.2.2.2.1) 0) (.ret ((af.k xt (x,(i:Int),false)).1,())))) (.ao (.c0 ⟨(i:Int),yc x i⟩)))) (λr=>Bgn x i r.1):=λg=>ah C (fJ (λ_=>ah p1 (ah (eO j) (aD (.inr ⟨g,.inr (.inl p2)⟩)))) λ_=>aZ (ah y (aZ ((L _ _ _).mono λr ⟨n,a,b⟩=>.inr ⟨g,.inr (.inr ⟨n,a,b⟩)⟩))));rw[show rC x (md af bP x.2.2.2.2.2.2.1 (i:Int) λ(o:cr)=>rC o (af.bK o.1.2.1 4))=yc x i from congrArg (cH x) jO];exact ah (da (l:=x.2.2.2.2.2.2.1) (by omega)) (du (λg=>aD (.inl ⟨g,rfl⟩)) λg=>dw (λ_=>dw (λ_=>aD (.inr ⟨g,.inl (congrArg (cH x) jO)⟩)) λ_=>f g) λ_=>f g)
 ·rcases D with ⟨_,e⟩|⟨_,e|p|⟨n,_,p⟩⟩
  ·rw[e]
  ·rw[e];exact bL
  ·rcases p with ⟨_,e⟩|⟨_,⟨_,e⟩|⟨k,_⟩⟩
   ·rw[e]
   ·rw[e];exact bL
   ·cases k
  ·rw[p.len]
   show(bq (bq _ _ _) _ _).length=_;rw[bL,bL]
def Hm(n:Node)(y:cr):cr:=(n,y.2.1,IntKind.i64.wrap (y.2.2.1+1),y.2.2.2)
def yX(n:Node)(c:qj)(y:cr):cr:=(n,c,IntKind.i64.wrap (y.2.2.1+1),y.2.2.2.1,y.2.2.2.2.1+1,true,false,y.2.2.2.2.2.2.2)
def Tck(x:Net)(i:Nat)(a:Net):Prop:=
 let o:=iA x.2.1 (aF x i).1
 (o.2.2.2≠0/\a=x)\/(o.2.2.2=0/\(o.2.2.1=false/\(∃d,(-x.2.1.2.2.2.2.1<=d/\d<=x.2.1.2.2.2.2.1)/\qR (cH x (bq x.2.2.2.2.2.2.1 i (Hm o.1))) (vn x (x.2.2.2.2.2.1.2.2+(x.2.1.2.1+d)),2,(i:Int),(aF x i).2.2.2.2.1) a)\/
   o.2.2.1=true/\∃y,oy (cH x (bq x.2.2.2.2.2.2.1 i (yX o.1 (x.2.2.2.2.2.1.2.2,(i:Int), [])))) y 3 1/\qR y (vn y (ovT x.2.1 x.2.2.2.2.2.1.2.2),1,(i:Int),(aF x i).2.2.2.2.1+1) a))
structure Tki(x:Net)(i K:Nat):Prop where
 s:ze x i K
 k:K+1<=800010
 m:dC x.2.1=true
 w:0<=x.2.2.2.2.2.1.2.2/\x.2.2.2.2.2.1.2.2<=1000000000000
 t:0<=(aF x i).2.2.2.2.1/\(aF x i).2.2.2.2.1<=900000000000
 d:∀v∈x.2.2.1.2.2.2.2.2.1, -x.2.1.2.2.2.2.1<=v/\v<=x.2.1.2.2.2.2.1
 l:x.2.2.1.2.2.2.2.2.1.length<=1000000
theorem af1(h:Tki x i K):QD (x,(i:Int))=true/\Tck x i (SD (x,(i:Int))).1:=by
 have a:=h.s.i;have hm:=wT h.m;have X:=h.s.mod (j:=i) (f:=yX (iA x.2.1 (aF x i).1).1 (x.2.2.2.2.2.1.2.2,(i:Int), []));have Y:=h.s.mod (j:=i) (f:=Hm (iA x.2.1 (aF x i).1).1);refine iC (s:=Empty.elim) (t:=abW af x (i:Int)) (P:=λr=>Tck x i r.1) ?_ λr hr=>?_
 ·obtain⟨w1,w2⟩:=rG h.s.q.made
  have F:af.k dX (x.2.2.2.2.2.1,())=(x.2.2.2.2.2.1,x.2.2.2.2.2.1.2.2):=w2;have J:af.k FM (x.2.1,(af.n bP x.2.2.2.2.2.2.1 (i:Int):cr).1)=iA x.2.1 (aF x i).1:=by rw[jC];rfl
  have V:Di af x (i:Int)=bq x.2.2.2.2.2.2.1 i (gD (iA x.2.1 (aF x i).1).1):=by
   unfold Di;rw[J,jC];exact vW
  have en:(af.n bP (Di af x (i:Int)) (i:Int):cr).2.2.1=(aF x i).2.2.1:=by rw[V,BE a];rfl
  have N:HE af x (i:Int)=bq x.2.2.2.2.2.2.1 i (Hm (iA x.2.1 (aF x i).1).1):=by
   unfold HE;rw[V];exact jO.trans (mod_mod a)
  have W:md af bP (md af bP (MG af x (i:Int)) (i:Int) λ(G:cr)=>r9 G true) (i:Int) (λ(H:cr)=>rC H false)=bq x.2.2.2.2.2.2.1 i (yX (iA x.2.1 (aF x i).1).1 (x.2.2.2.2.2.1.2.2,(i:Int), [])):=by
   unfold MG;rw[N,F];refine(congrArg (λl=>md af bP l (i:Int) λ(H:cr)=>rC H false) ((congrArg (λl=>md af bP l (i:Int) λ(G:cr)=>r9 G true) ((congrArg (λl=>md af bP l (i:Int) λ(e3:cr)=>y9 e3 (x.2.2.2.2.2.1.2.2,(i:Int),([]:List Int))) (jO.trans (mod_mod (g:=λS:cr=>VQ S (af.c_ S.2.2.2.2.1 1)) a))).trans (jO.trans (mod_mod a)))).trans (jO.trans (mod_mod a)))).trans (jO.trans ((mod_mod a).trans ?_));unfold bq;congr 1;show rC (r9 (y9 (VQ (Hm (iA x.2.1 (aF x i).1).1 (aF x i)) (af.c_ (aF x i).2.2.2.2.1 1)) (x.2.2.2.2.2.1.2.2,(i:Int),([]:List Int))) true) false=yX _ _ (aF x i);rw[dG (by have:=h.t;omega)];rfl
  obtain⟨d1,C,D⟩:=XH (s:=x.2.2.1) (n:=x.2.1.1) (k:=(aF x i).2.2.1) (i:=(i:Int)) (d:=x.2.1.2.2.2.2.1) (by omega) h.d h.l;have hw:=h.w;obtain⟨d,I⟩:∃d,af.k zn (x.2.2.1,x.2.1.1,(aF x i).2.2.1,(i:Int))=d:=⟨_,rfl⟩;have C:-x.2.1.2.2.2.2.1<=d:=by rw[<-I];exact C
  have D:d<=x.2.1.2.2.2.2.1:=by rw[<-I];exact D
  have f4:MH af x (i:Int)=(cH x (bq x.2.2.2.2.2.2.1 i (Hm (iA x.2.1 (aF x i).1).1)),x.2.2.2.2.2.1.2.2+(x.2.1.2.1+d),2,(i:Int)):=by
   unfold MH;rw[N,F,en,I,dG (x:=x.2.1.2.1) (by omega),dG (by omega)];rfl
  obtain⟨p1,p2⟩:=GJ (x:=cH x (bq x.2.2.2.2.2.2.1 i (Hm (iA x.2.1 (aF x i).1).1))) (t:=x.2.2.2.2.2.1.2.2+(x.2.1.2.1+d)) (k:=2) Y.q Y.i (by decide);rw[fh a] at p2;obtain⟨s1,o⟩:=Mm (f:=(iA x.2.1 (aF x i).1).2.1) (c:=(iA x.2.1 (aF x i).1).1.2.2.1) X h.k (by rw[fh a];exact h.w);have f5:Dj af x (i:Int)=(cH x (bq x.2.2.2.2.2.2.1 i (yX (iA x.2.1 (aF x i).1).1 (x.2.2.2.2.2.1.2.2,(i:Int), []))),(i:Int),(iA x.2.1 (aF x i).1).2.1,(iA x.2.1 (aF x i).1).1.2.2.1):=by
   unfold Dj;rw[W,F,J];rfl
  have Q:=o.ok X.q.made;have hl:(zo (cH x (bq x.2.2.2.2.2.2.1 i (yX (iA x.2.1 (aF x i).1).1 (x.2.2.2.2.2.1.2.2,(i:Int), []))),(i:Int),(iA x.2.1 (aF x i).1).2.1,(iA x.2.1 (aF x i).1).1.2.2.1)).1.2.2.2.2.2.2.1.length=(bq x.2.2.2.2.2.2.1 i (yX (iA x.2.1 (aF x i).1).1 (x.2.2.2.2.2.1.2.2,(i:Int), []))).length:=o.len;have u:=hl.trans bL;have q:=o.aF i;have A:=o.same;rw[fh a] at q;unfold abW;rw[J,en,f4,N,W,f5];generalize v:(af.k zo (cH x (bq x.2.2.2.2.2.2.1 i (yX (iA x.2.1 (aF x i).1).1 (x.2.2.2.2.2.1.2.2,(i:Int), []))),(i:Int),(iA x.2.1 (aF x i).1).2.1,(iA x.2.1 (aF x i).1).1.2.2.1)).1=z at *;have o:oy (cH x (bq x.2.2.2.2.2.2.1 i (yX (iA x.2.1 (aF x i).1).1 (x.2.2.2.2.2.1.2.2,(i:Int), [])))) z 3 1:=by rw[<-v];exact o
  have Q:yW z:=by rw[<-v];exact Q
  have u:z.2.2.2.2.2.2.1.length=x.2.2.2.2.2.2.1.length:=by rw[<-v];exact u
  have q:aF z i=yX (iA x.2.1 (aF x i).1).1 (x.2.2.2.2.2.1.2.2,(i:Int), []) (aF x i):=by rw[<-v];exact q
  have A:z.2.1=x.2.1:=by rw[<-v];exact A.1
  obtain⟨o1,Z⟩:=EP (x:=z) (i:=i) Q (by omega) (by rw[A];exact h.m) (by rw[q];show 0<=x.2.2.2.2.2.1.2.2/\x.2.2.2.2.2.1.2.2<=_;omega);rw[q,A] at Z;exact ah (da (l:=x.2.2.2.2.2.2.1) (by omega)) (dM (λg=>aD (.inl ⟨g,rfl⟩)) λg=>ah d1 (du (λO=>ah w1 (ah p1 (ah (pT a) (aD (.inr ⟨g,.inl ⟨O,d,⟨C,D⟩,p2⟩⟩))))) λO=>ah w1 (ah s1 (ah (pT a) (ah o1 (ah (eO (i:=i) (by omega)) (aD (.inr ⟨g,.inr ⟨O,z,o,Z⟩⟩))))))))
 ·rcases hr with ⟨_,e⟩|⟨_,⟨_,_,_,p⟩|⟨_,y,e,p⟩⟩
  ·rw[e]
  ·rw[(qR.same p).1];exact bL
  ·rw[(qR.same p).1,e.len];exact bL
def Sn1(s:sr)(k:Nat)(x y:Net):Prop:=y=x\/((aF x k).1.2.1=1/\(aF x k).2.2.2.1<=s.1.1/\∃l:List Seen,(∀v∈l,v.1=2->s.1.1<=v.2.1/\v.2.1<af.c_ s.1.1 1)/\(lC x.2.1 (aF x k).1 l true).2.2.2=0/\
 ((lC x.2.1 (aF x k).1 l true).2.2.1=false/\y=cH x (bq x.2.2.2.2.2.2.1 k (gD (lC x.2.1 (aF x k).1 l true).1))\/(lC x.2.1 (aF x k).1 l true).2.2.1=true/\Jns x k (lC x.2.1 (aF x k).1 l true).1 (lC x.2.1 (aF x k).1 l true).2.1 y))
def Pn(s:sr):Nat->Nat->Net->Net->Prop
 | 0,_,x,x'=>x'=x
 | f+1,k,x,x'=>∃y,Sn1 s k x y/\Pn s f (k+1) y x'
structure Sno(x:Net)(k K:Nat):Prop where
 q:yW x
 g:x.2.2.2.2.2.2.1.length<=x.2.2.1.2.2.2.1.length
 c:x.2.2.2.2.2.2.2.1.length<=900000/\x.2.2.2.2.2.2.2.2.1.length<=900000
 t:∀j,k<=j->j<x.2.2.2.2.2.2.1.length->0<=(aF x j).2.2.2.2.1/\(aF x j).2.2.2.2.1<=900000000000
variable{n:Node}
theorem Jns.len{y:Net}{t:Int}(h:Jns x i n t y):y.2.2.2.2.2.2.1.length=x.2.2.2.2.2.2.1.length:=by
 rcases h with rfl|⟨_,p⟩
 ·rfl
 ·rw[(qR.same p).1];exact bL
variable{s:sr}
theorem Sno.sn1{y:Net}{k:Nat}(h:Sno x k K)(A:k<x.2.2.2.2.2.2.1.length)(p:Sn1 s k x y):Sno y (k+1) K/\y.2.2.2.2.2.2.1.length=x.2.2.2.2.2.2.1.length:=by
 have up:Sno x (k+1) K:=⟨h.q,h.g,h.c,λj g a=>h.t j (by omega) a⟩;have n:∀f j,k+1<=j->j<x.2.2.2.2.2.2.1.length->0<=(aF (cH x (bq x.2.2.2.2.2.2.1 k f)) j).2.2.2.2.1/\(aF (cH x (bq x.2.2.2.2.2.2.1 k f)) j).2.2.2.2.1<=900000000000:=λf j g a=>by
  rw[gY (by omega)];exact h.t j (by omega) a
 rcases p with rfl|⟨_,_,l,_,_,⟨_,rfl⟩|⟨_,rfl|⟨_,p⟩⟩⟩
 ·exact⟨up,rfl⟩
 ·refine⟨⟨⟨h.q.made,h.q.len,h.q.heap⟩,by show(bq _ _ _).length<=_;rw[bL];exact h.g,h.c,λj g a=>n _ j g (by have a:j<(bq _ _ _).length:=a;rwa [bL] at a)⟩,bL⟩
 ·exact⟨up,rfl⟩
 ·obtain⟨o,C,q,D,r,_,u,v,z⟩:=qR.same p
  have e:y.2.2.2.2.2.2.1.length=x.2.2.2.2.2.2.1.length:=by rw[o];exact bL
  refine⟨⟨⟨r.trans h.q.made,v,z⟩,by rw[e,q];exact h.g,by rw[u];exact h.c,λj g a=>?_⟩,e⟩;rw[qR.aF p];exact n _ j g (by omega)
theorem alP{n:Nat}:∀(f k:Nat) (x:Net),n-k<=f->k<=n->x.2.2.2.2.2.2.1.length=n->n<=1000->Sno x k K->Go (Mh af) (Mh af (.c0 ⟨(n:Int),s.1.1,s.1.2,s.2⟩ (k:Int) x)) λr=>Pn s (n-k) k x r.1:=by
 have p:∀(k:Nat) (x:Net),¬k<n->k<=n->Go (Mh af) (Mh af (.c0 ⟨(n:Int),s.1.1,s.1.2,s.2⟩ (k:Int) x)) λr=>Pn s (n-k) k x r.1:=λk x u hn=>by
  refine bT (λg=>absurd g (by show ¬(k:Int)<(n:Int);omega)) λ_=>aD ?_;rw[show n-k=0 from by omega];rfl
 intro f
 induction f with
 | zero=>intro k x O u _ _ _;exact p k x (by omega) u
 | succ f ih=>
   intro k x O u hl N h;by_cases g:k<n
   ·have j:k<x.2.2.2.2.2.2.1.length:=by omega
    have hc:=h.c;have C:∀y,Sn1 s k x y->Go (Mh af) (.ao (.c0 ⟨(n:Int),s.1.1,s.1.2,s.2⟩ (af.c_ (k:Int) 1) y)) λr=>Pn s (n-k) k x r.1:=λy q=>by
     obtain⟨s1,s2⟩:=h.sn1 j q;rw[dG (by omega),show(k:Int)+1=((k+1:Nat):Int) from by omega,show n-k=(n-(k+1))+1 from by omega];exact aZ ((ih (k+1) y (by omega) (by omega) (by omega) N s1).mono λr P=>⟨y,q,P⟩)
    obtain⟨Q,S,V⟩:=Bn (l:=x.2.2.2.2.2.2.2.1) (a:=(s.1.1,s.1.2)) (w:=(s.1.1,af.c_ s.1.1 1)) (th:=(af.n yI x.2.2.1.2.2.2.1 (k:Int):Int)) (by omega);obtain⟨W,X,Y⟩:=Bn (l:=x.2.2.2.2.2.2.2.2.1) (a:=(s.1.1,s.1.2)) (w:=(s.1.1,af.c_ s.1.1 1)) (th:=(af.n yI x.2.2.1.2.2.2.1 (k:Int):Int)) (by omega);have D:(af.k mO (uS af ⟨(n:Int),s.1.1,s.1.2,s.2⟩ (k:Int) x)).1=x.2.2.2.2.2.2.2.1:=S;have F:(af.k mO (wj af ⟨(n:Int),s.1.1,s.1.2,s.2⟩ (k:Int) x)).1=x.2.2.2.2.2.2.2.2.1:=X;have A:∀v∈(af.p ([(af.k mO (uS af ⟨(n:Int),s.1.1,s.1.2,s.2⟩ (k:Int) x)).2]:List Seen) ([(af.k mO (wj af ⟨(n:Int),s.1.1,s.1.2,s.2⟩ (k:Int) x)).2]:List Seen)),v.1=2->s.1.1<=v.2.1/\v.2.1<af.c_ s.1.1 1:=λv o=>by
     have o:v∈ [(mO (uS af ⟨(n:Int),s.1.1,s.1.2,s.2⟩ (k:Int) x)).2] ++ [(mO (wj af ⟨(n:Int),s.1.1,s.1.2,s.2⟩ (k:Int) x)).2]:=o;rcases nY.1 o with o|o
     ·rw[aJ.1 o];exact V
     ·rw[aJ.1 o];exact Y
    have G:(af.n bP x.2.2.2.2.2.2.1 (k:Int):cr)=aF x k:=jC;generalize z:af.p ([(af.k mO (uS af ⟨(n:Int),s.1.1,s.1.2,s.2⟩ (k:Int) x)).2]:List Seen) ([(af.k mO (wj af ⟨(n:Int),s.1.1,s.1.2,s.2⟩ (k:Int) x)).2]:List Seen)=L at A;have eh:af.k Yg (x.2.1,(aF x k).1,L)=lC x.2.1 (aF x k).1 L true:=rfl;have H:wi af ⟨(n:Int),s.1.1,s.1.2,s.2⟩ (k:Int) x=lC x.2.1 (aF x k).1 L true:=by
     unfold wi;rw[z,G];rfl
    have I:Hy af ⟨(n:Int),s.1.1,s.1.2,s.2⟩ (k:Int) x=x:=by
     unfold Hy;rw[D,F]
    obtain⟨Z,q2⟩:=Zh (n:=(lC x.2.1 (aF x k).1 L true).1) (t:=(lC x.2.1 (aF x k).1 L true).2.1) h.q j (h.t k (aj _) j);have e:=C x (.inl rfl);refine bT (λ_=>ah (da (l:=x.2.2.2.2.2.2.1) (by omega)) ?_) λJ=>absurd J (by show ¬(n:Int)<=(k:Int);omega);dsimp only;rw[H,I,D,F,G,z];refine dM (λ_=>e) λa=>pQ (λ_=>e) λb=>dw (λ_=>e) λ_=>ah (da (l:=x.2.2.1.2.2.2.1) (by have:=h.g;omega)) (ah Q (ah (tc (by show(1:Int)<=_;omega)) (ah W (ah (by rw[<-z];exact tc (by show(2:Int)<=_;omega)) (dM (λ_=>e) λc=>du (λd=>?_) λd=>ah Z (ah (eO j) (C _ (.inr ⟨a,b,L,A,c,.inr ⟨d,q2⟩⟩))))))));rw[show af.set x.2.2.2.2.2.2.1 (k:Int) ((lC x.2.1 (aF x k).1 L true).1,(aF x k).2)=bq x.2.2.2.2.2.2.1 k (gD (lC x.2.1 (aF x k).1 L true).1) from vW];exact C (cH x (bq x.2.2.2.2.2.2.1 k (gD (lC x.2.1 (aF x k).1 L true).1))) (.inr ⟨a,b,L,A,c,.inl ⟨d,rfl⟩⟩)
   ·exact p k x g u
theorem Pn.len{s:sr}{K:Nat}:∀{f k:Nat} {x y:Net},Pn s f k x y->Sno x k K->k+f<=x.2.2.2.2.2.2.1.length->y.2.2.2.2.2.2.1.length=x.2.2.2.2.2.2.1.length
 | 0,_,_,_,h,_,_=>by rw[h]
 | f+1,k,x,_,h,hs,hk=>by
   obtain⟨z,a,e⟩:=h;obtain⟨g,j⟩:=hs.sn1 (by omega) a;rw[Pn.len e g (by omega)];exact j
theorem aaZ{j:Nat}(f:(af.n Jq x.2.2.2.2.2.2.2.2.2.1 (j:Int):sr)=s)(h:Sno x 0 K)(g:j<x.2.2.2.2.2.2.2.2.2.1.length)(a:x.2.2.2.2.2.2.1.length<=1000):QB (x,(j:Int))=true/\Pn s x.2.2.2.2.2.2.1.length 0 x (SB (x,(j:Int))).1:=by
 refine iC (s:=Mh af) (t:=abT af x (j:Int)) (P:=λr=>Pn s x.2.2.2.2.2.2.1.length 0 x r.1) ?_ λr e=>e.len h (by omega);unfold abT;rw[f];exact ah (da (l:=x.2.2.2.2.2.2.2.2.2.1) (by omega)) (aZ (alP (s:=s) (n:=x.2.2.2.2.2.2.1.length) _ 0 x (aj _) (aX _) rfl a h))
theorem Qr(h:yW x)(a:i<x.2.2.2.2.2.2.1.length)(f:dC x.2.1=true)(j:0<=(aF x i).2.2.2.2.1/\(aF x i).2.2.2.2.1<=900000000000)(l:0<=x.2.2.2.2.2.1.2.2/\x.2.2.2.2.2.1.2.2<=2199023255552):QE (x,(i:Int))=true/\RP x i true (SE (x,(i:Int))).1:=by
 obtain⟨p1,p2⟩:=Gz (on:=true) h a f j l;refine iC (s:=Empty.elim) (t:=abX af x (i:Int)) (P:=λr=>RP x i true r.1) ?_ λr g=>?_
 ·unfold abX
  exact ah p1 (ah (eO a) (aD p2))
 ·rcases g with ⟨_,e⟩|⟨_,⟨_,e⟩|⟨_,e⟩⟩
  ·rw[e]
  ·simp_all
  ·rw[e.len];exact bL
def rX(x:Net)(l:List je)(t:Int):Net:=(x.1,x.2.1,x.2.2.1,x.2.2.2.1,x.2.2.2.2.1,(x.2.2.2.2.2.1.1,l,t),x.2.2.2.2.2.2)
def Act(e:je)(x a:Net):Prop:=
 (e.2.1=3/\Pn (af.n Jq x.2.2.2.2.2.2.2.2.2.1 e.2.2.2:sr) x.2.2.2.2.2.2.1.length 0 x a)\/
 (e.2.1≠3/\(((aF x e.2.2.1.toNat).2.2.2.2.1≠e.2.2.2\/(aF x e.2.2.1.toNat).2.2.2.2.2.2.2=true)/\a=x\/
   (aF x e.2.2.1.toNat).2.2.2.2.1=e.2.2.2/\(aF x e.2.2.1.toNat).2.2.2.2.2.2.2=false/\
     (e.2.1=1/\Evl x e.2.2.1.toNat a\/e.2.1=2/\Tck x e.2.2.1.toNat a\/e.2.1=5/\RP x e.2.2.1.toNat true a\/e.2.1≠1/\e.2.1≠2/\e.2.1≠5/\Bgn x e.2.2.1.toNat a)))
def Stp(x a:Net):Prop:=
 x.2.2.2.2.2.1.2.1=[]/\a=x\/∃e l,(e::l).Perm x.2.2.2.2.2.1.2.1/\Ko l/\(∀y∈x.2.2.2.2.2.1.2.1,e.1<=y.1)/\Act e (rX x l e.1) a
structure Aci(e:je)(x:Net)(K:Nat):Prop where
 n:x.2.2.2.2.2.2.1.length<=1000
 p:0<x.2.2.2.2.2.2.1.length
 s:e.2.1=3->Sno x 0 K/\∃j:Nat,e.2.2.2=(j:Int)/\j<x.2.2.2.2.2.2.2.2.2.1.length
 i:e.2.1≠3->∃i:Nat,e.2.2.1=(i:Int)/\i<x.2.2.2.2.2.2.1.length/\Evi x i K/\Tki x i K/\((aF x i).2.2.2.2.1=e.2.2.2->(aF x i).2.2.2.2.2.2.2=false->e.2.1≠1->e.2.1≠2->e.2.1≠5->Bgi x i K)
theorem abq(h:yW x)(ha:∀e l,(e::l).Perm x.2.2.2.2.2.1.2.1->Ko l->(∀y∈x.2.2.2.2.2.1.2.1,e.1<=y.1)->Aci e (rX x l e.1) K):CV (x,())=true/\Stp x (xq (x,())).1:=by
 suffices S:CV (x,())=true/\(Stp x (xq (x,())).1/\(xq (x,())).1.2.2.2.2.2.2.1.length=x.2.2.2.2.2.2.1.length) from⟨S.1,S.2.1⟩
 refine iC (s:=Empty.elim) (t:=abQ af x) (P:=λr=>Stp x r.1/\r.1.2.2.2.2.2.2.1.length=x.2.2.2.2.2.2.1.length) ?_ λr G=>G.2;obtain⟨p1,p2⟩:=ald h.made h.len h.heap;obtain⟨⟨I,e,O⟩,G⟩:∃r,zm (x.2.2.2.2.2.1,())=r:=⟨_,rfl⟩;have A:nt af x=(I,e,O):=G;rw[G] at p2;unfold abQ;refine ah p1 ?_;rcases p2 with ⟨a,b,c⟩|⟨b,l,c,Z,Q,Y⟩
 ·have N:qN af x=(x,()):=by
   unfold qN;rw[A];show(r9 x I,())=_;rw[show I=x.2.2.2.2.2.1 from c]
  rw[N,A];exact dM (λ_=>aD ⟨.inl ⟨a,rfl⟩,rfl⟩) λg=>absurd g b
 ·have c:I=(x.2.2.2.2.2.1.1,l,e.1):=c
  have b:O=0:=b;subst c b;have D:=ha e l Z Q Y;have done:∀y,Act e (rX x l e.1) y->y.2.2.2.2.2.2.1.length=x.2.2.2.2.2.2.1.length->Stp x y/\y.2.2.2.2.2.2.1.length=x.2.2.2.2.2.2.1.length:=λy a b=>⟨.inr ⟨e,l,Z,Q,Y,a⟩,b⟩;have N:qN af x=(rX x l e.1,()):=by unfold qN;rw[A];rfl
  have u3:uR af x=(rX x l e.1,e.2.2.1):=by unfold uR;rw[A];rfl
  have hn:0<x.2.2.2.2.2.2.1.length:=D.p;have C:(af.cu (af.l x.2.2.2.2.2.2.1) 0)=true:=eO (i:=0) hn;unfold Hw Hu Dh Dg;rw[N,u3,A];refine dM (λg=>absurd rfl g) λ_=>dw (λg=>?_) λg=>?_
  ·obtain⟨s1,j,v,J⟩:=D.s g
   obtain⟨f,n⟩:=aaZ (s:=(af.n Jq x.2.2.2.2.2.2.2.2.2.1 (j:Int):sr)) (x:=rX x l e.1) rfl s1 J D.n;have p:=s_.1 (of_decide_eq_true ((fv _ _).mp f).2);rw[<-v] at f n p;exact ah f (ah C (aD (done _ (.inl ⟨g,n⟩) p)))
  ·obtain⟨i,v,J,v1,z,v3⟩:=D.i g
   have F:e.2.2.1.toNat=i:=by rw[v];rfl
   have es:(af.n bP x.2.2.2.2.2.2.1 e.2.2.1:cr)=aF (rX x l e.1) i:=by rw[v];exact jC (x:=rX x l e.1)
   have H:af.and (af.bU 0 e.2.2.1) (af.bG e.2.2.1 (af.l x.2.2.2.2.2.2.1))=true:=da (l:=x.2.2.2.2.2.2.1) (by have:i<x.2.2.2.2.2.2.1.length:=J;omega);have skip:∀{P:Prop},P->True:=λ_=>trivial;have u:((aF (rX x l e.1) i).2.2.2.2.1≠e.2.2.2\/(aF (rX x l e.1) i).2.2.2.2.2.2.2=true)->Go Empty.elim (.ret (rX x l e.1,())) λr=>Stp x r.1/\r.1.2.2.2.2.2.2.1.length=x.2.2.2.2.2.2.1.length:=λo=>aD (done _ (.inr ⟨g,.inl ⟨by rw[F];exact o,rfl⟩⟩) rfl);have q:∀y,y.2.2.2.2.2.2.1.length=x.2.2.2.2.2.2.1.length->(aF (rX x l e.1) i).2.2.2.2.1=e.2.2.2->(aF (rX x l e.1) i).2.2.2.2.2.2.2=false->(e.2.1=1/\Evl (rX x l e.1) i y\/e.2.1=2/\Tck (rX x l e.1) i y\/e.2.1=5/\RP (rX x l e.1) i true y\/e.2.1≠1/\e.2.1≠2/\e.2.1≠5/\Bgn (rX x l e.1) i y)->Go Empty.elim (.ret (y,())) λr=>Stp x r.1/\r.1.2.2.2.2.2.2.1.length=x.2.2.2.2.2.2.1.length:=λy hl a b o=>aD (done y (.inr ⟨g,.inr ⟨by rw[F];exact a,by rw[F];exact b,by rw[F];exact o⟩⟩) hl);rw[es];refine dw (λk=>?_) λV=>dw (λk=>?_) λW=>dw (λk=>?_) λX=>?_
   ·obtain⟨f,n⟩:=ad5 v1
    have p:=s_.1 (of_decide_eq_true ((fv _ _).mp f).2);rw[<-v] at f n p;exact ah H (dw (λa=>du (λb=>ah f (ah C (q _ p a b (.inl ⟨k,n⟩)))) λb=>u (.inr b)) λa=>u (.inl a))
   ·obtain⟨f,n⟩:=af1 z
    have p:=s_.1 (of_decide_eq_true ((fv _ _).mp f).2);rw[<-v] at f n p;exact ah H (dw (λa=>du (λb=>ah f (ah C (q _ p a b (.inr (.inl ⟨k,n⟩))))) λb=>u (.inr b)) λa=>u (.inl a))
   ·obtain⟨f,n⟩:=Qr z.s.q z.s.i z.m z.t ⟨z.w.1,bX z.w.2 (by decide)⟩
    have p:=s_.1 (of_decide_eq_true ((fv _ _).mp f).2);rw[<-v] at f n p;exact ah H (dw (λa=>du (λb=>ah f (ah C (q _ p a b (.inr (.inr (.inl ⟨k,n⟩)))))) λb=>u (.inr b)) λa=>u (.inl a))
   ·exact ah H (dw (λa=>du (λb=>by
     obtain⟨f,n⟩:=Xf (v3 a b V W X);have p:=s_.1 (of_decide_eq_true ((fv _ _).mp f).2);rw[<-v] at f n p;exact ah f (ah C (q _ p a b (.inr (.inr (.inr ⟨V,W,X,n⟩)))))) λb=>u (.inr b)) λa=>u (.inl a))
variable{m:ax}
theorem LF{on:Bool}(h:(ju m n on).2=0):(ju m n on).1.1=n.1:=by
 unfold ju at h ⊢;by_cases a:cZ m n=0
 ·rw[dn a,cond_true] at h ⊢
  cases on
  ·unfold rM at h ⊢
   grind
  grind
 simp_all
theorem Li{r:iO×Int}(h:(z7 n r).2=0):(z7 n r).1.1=n.1:=by
 unfold z7 at h ⊢
 grind
variable{o:dO}
theorem ako(h:(y5 m n o).2=0):(y5 m n o).1.1=n.1:=by
 unfold y5 at h ⊢;by_cases a:cZ m n=0
 ·rw[dn a,cond_true] at h ⊢
  cases hd:decide (1<=o.2.2.2.1/\o.2.2.2.1<=3)
  ·simp_all
  rw[hd,cond_true] at h;cases hi:kh n
  ·rfl
  rw[hi,cond_true] at h;cases h1:decide (o.2.2.2.1=1)
  ·rw[h1,cond_false] at h
   cases h2:decide (o.2.2.2.1=2)
   ·rw[h2,cond_false] at h;exact Li h
   ·rw[h2,cond_true] at h;exact Li h
  ·rw[h1,cond_true] at h;exact Li h
 simp_all
theorem XP(h:(jq m n).2=0):(jq m n).1.1=n.1:=by
 unfold jq at h ⊢
 grind
theorem ack(h:(iA m n).2.2.2=0):(iA m n).1.1=n.1:=by
 unfold iA at h ⊢;by_cases a:cZ m n=0
 ·rw[dn a,cond_true] at h ⊢
  cases hd:decide (n.2.1=1)
  ·simp_all
  ·rw[cond_true]
   cases decide (0<n.2.2.2.2.1-1)
   ·rw[cond_false];cases (af.n .bool m.2.2.2.2.2.2.1 n.1:Bool)<;>rfl
   ·rfl
 simp_all
theorem ak6:(Ag n).1=n.1:=by unfold Ag;grind
theorem aiy{o:qk}:(Pr m n o).1=n.1:=by
 unfold Pr;rw[ak6];cases decide (o.1=3)<;>rfl
variable{a:List Seen}
theorem ak4(h:(ot m n a).2.2=0):(ot m n a).1.1=n.1:=by
 unfold ot at h ⊢;by_cases e:cZ m n=0
 ·rw[dn e,cond_true] at h ⊢
  cases hi:kh n&&decide (¬n.2.2.1.2.1=n.1)
  ·grind
  ·rw[hi,cond_true] at h
   by_cases f:(BR n a).2=0
   ·rw[dn f,cond_true];exact aiy
   simp_all
 simp_all
theorem afp:(Ec m n).1.1=n.1:=by
 unfold Ec;cases decide ((qo n).2=2)
 ·cases decide ((qo n).2=3)
  ·cases decide ((qo n).2=4)<;>rfl
  ·rfl
 ·rfl
theorem agQ(h:(rm m n).2.2.2=0):(rm m n).1.1=n.1:=by
 unfold rm at h ⊢;by_cases a:cZ m n=0
 ·rw[dn a,cond_true] at h ⊢
  cases hi:kh n&&decide (n.2.2.1.2.1=n.1)
  ·simp_all
  ·exact afp
 simp_all
theorem Y6{e:Bool}(h:(lC m n a e).2.2.2=0):(lC m n a e).1.1=n.1:=by
 unfold lC at h ⊢;by_cases f:cZ m n=0
 ·rw[dn f,cond_true] at h ⊢
  cases h1:decide (n.2.1=1)
  ·simp_all
  cases h2:decide ((a.length:Int)=2)
  ·simp_all
  cases (i6 m.1 a).2.2
  ·rfl
  cases decide ((i6 m.1 a).1.1=1)
  ·cases Tg m n (i6 m.1 a).1<;>rfl
  cases decide ((i6 m.1 a).1.2.2.2.1=n.1)
  ·cases (e && !n.2.2.2.2.2.1)<;>rfl
  ·rfl
 simp_all
theorem OW{r:Int}:(qd m c r).2.1=c.2.1:=by
 unfold qd;by_cases h:(EB m c r).2=0
 ·rw[dn h,cond_true]
  unfold EB at h ⊢
  grind
 simp_all
theorem ajZ(h:cZ m n=0)(a:kh n=true):(jq m n).2=0/\(jq m n).1.2.1=n.2.1/\(jq m n).1.2.2.1.2.1=if n.2.2.1.2.1+1=m.1 then 0 else n.2.2.1.2.1+1:=by
 have e:=step_ok h a;unfold jq;have f:(qc n.2.2.1 m.1).1.2.1=if n.2.2.1.2.1+1=m.1 then 0 else n.2.2.1.2.1+1:=by
  unfold qc at e ⊢
  grind
 grind
theorem Z8{n:Node}:(Ag n).2.2=n.2.2/\((Ag n).2.1=n.2.1\/n.2.1=4/\(Ag n).2.1=3):=by
 unfold Ag
 grind
variable{l:List Seen}
theorem ak5(h:(ot m n l).2.2=0):kh n=true/\(ot m n l).1.2.2.1.2.1=n.2.2.1.2.1/\((ot m n l).1.2.1=n.2.1\/n.2.1=4/\(ot m n l).1.2.1=3):=by
 unfold ot at h ⊢;by_cases e:cZ m n=0
 ·rw[dn e,cond_true] at h ⊢
  cases hi:kh n&&decide (¬n.2.2.1.2.1=n.1)
  ·grind
  ·rw[hi,cond_true] at h
   by_cases f:(BR n l).2=0
   ·rw[dn f,cond_true]
    refine⟨((fv _ _).mp hi).1,?_⟩;unfold Pr;cases decide ((Br m n (BR n l).1).1=3)
    ·obtain⟨a,b⟩:=@Z8 (Jp n (Nl n (Br m n (BR n l).1)))
     exact⟨(congrArg (λz=>z.1.2.1) a),b⟩
    ·obtain⟨a,b⟩:=@Z8 (JC m (Jp n (Nl n (Br m n (BR n l).1))) (Br m n (BR n l).1).2.2.2.1)
     exact⟨(congrArg (λz=>z.1.2.1) a).trans OW,b⟩
   simp_all
 simp_all
theorem apD(h:(rm m n).2.2.2=0):((rm m n).2.2.1=true->(rm m n).1.2.1=4/\(rm m n).1.2.2.1.2.1=n.2.2.1.2.1)/\((rm m n).2.2.1=false->(rm m n).1.2.1=1\/(rm m n).1.2.1=5):=by
 unfold rm at h ⊢;by_cases a:cZ m n=0
 ·rw[dn a,cond_true] at h ⊢
  cases hi:kh n&&decide (n.2.2.1.2.1=n.1)
  ·simp_all
  ·rw[cond_true]
   unfold Ec;cases decide ((qo n).2=2)
   ·cases decide ((qo n).2=3)
    ·cases decide ((qo n).2=4)
     ·exact⟨λ_=>⟨rfl,OW⟩,nofun⟩
     ·exact⟨nofun,λ_=>.inl rfl⟩
    ·exact⟨nofun,λ_=>.inl rfl⟩
   ·exact⟨nofun,λ_=>.inr rfl⟩
 simp_all
theorem aeJ(h:cZ m n=0)(a:kh n=true)(e:n.2.2.1.2.1=n.1):(rm m n).2.2.2=0:=by
 unfold rm;rw[dn h,cond_true,a,dn e];unfold Ec;cases decide ((qo n).2=2)
 ·cases decide ((qo n).2=3)
  ·cases decide ((qo n).2=4)<;>rfl
  ·rfl
 ·rfl
theorem acm(h:(iA m n).2.2.2=0):n.2.1=1/\((iA m n).2.2.1=false->(iA m n).1.2.1=1)/\((iA m n).2.2.1=true->(iA m n).1.2.1=2/\(iA m n).1.2.2.1.2.1=n.1):=by
 unfold iA at h ⊢;by_cases a:cZ m n=0
 ·rw[dn a,cond_true] at h ⊢
  cases hd:decide (n.2.1=1)
  ·simp_all
  ·have e:=of_decide_eq_true hd
   cases decide (0<n.2.2.2.2.1-1)
   ·rw[cond_false]
    cases (af.n .bool m.2.2.2.2.2.2.1 n.1:Bool)
    all_goals simp_all
   simp_all
 simp_all
theorem acj(h:cZ m n=0)(a:n.2.1=1):(iA m n).2.2.2=0:=by
 unfold iA;rw[dn h,cond_true,dn a,cond_true];cases decide (0<n.2.2.2.2.1-1)
 ·rw[cond_false];cases (af.n .bool m.2.2.2.2.2.2.1 n.1:Bool)<;>rfl
 ·rfl
theorem Qq{on:Bool}(h:(ju m n on).2=0):(on=true->n.2.1=0/\(ju m n on).1.2.1=1)/\(on=false->(ju m n on).1.2.1=0):=by
 unfold ju at h ⊢;by_cases a:cZ m n=0
 ·rw[dn a,cond_true] at h ⊢
  cases on
  ·refine⟨nofun,λ_=>?_⟩
   unfold rM at h ⊢
   grind
  grind
 simp_all
theorem Lj{r:iO×Int}(h:(z7 n r).2=0):(z7 n r).1.2.1=n.2.1/\(z7 n r).1.2.2.1=n.2.2.1:=by
 unfold z7 at h ⊢
 grind
theorem akp(h:(y5 m n o).2=0):(y5 m n o).1.2.1=n.2.1/\(y5 m n o).1.2.2.1=n.2.2.1:=by
 unfold y5 at h ⊢;by_cases a:cZ m n=0
 ·rw[dn a,cond_true] at h ⊢
  cases hd:decide (1<=o.2.2.2.1/\o.2.2.2.1<=3)
  ·simp_all
  rw[hd,cond_true] at h;cases hi:kh n
  ·simp_all
  rw[hi,cond_true] at h;cases h1:decide (o.2.2.2.1=1)
  ·rw[h1,cond_false] at h
   cases h2:decide (o.2.2.2.1=2)
   ·rw[h2,cond_false] at h;exact Lj h
   ·rw[h2,cond_true] at h;exact Lj h
  ·rw[h1,cond_true] at h;exact Lj h
 simp_all
theorem aj2{n:Int}(h:(i6 n l).2.2=true):∃v∈l,(i6 n l).2.1=v.2.1/\CM n v=true:=by
 induction l with
 | nil=>exact absurd h (by simp[i6])
 | cons s l ih=>
   rw[i6] at h ⊢
   grind
theorem akm{a:Bool}(h:(lC m n l a).2.2.2=0):n.2.1=1/\((lC m n l a).2.2.1=false->(lC m n l a).1.2.1=1)/\((lC m n l a).2.2.1=true->(lC m n l a).1.2.1=3/\∃v∈l,(lC m n l a).2.1=v.2.1/\CM m.1 v=true):=by
 unfold lC at h ⊢;by_cases f:cZ m n=0
 ·rw[dn f,cond_true] at h ⊢
  cases h1:decide (n.2.1=1)
  ·simp_all
  have g:=of_decide_eq_true h1;refine⟨g,?_⟩;cases h2:decide ((l.length:Int)=2)
  ·simp_all
  cases h3:(i6 m.1 l).2.2
  ·simp_all
  have e:=aj2 h3;cases decide ((i6 m.1 l).1.1=1)
  ·cases Tg m n (i6 m.1 l).1
   ·simp_all
   ·exact⟨nofun,λ_=>⟨rfl,e⟩⟩
  cases decide ((i6 m.1 l).1.2.2.2.1=n.1)
  ·cases (a && !n.2.2.2.2.2.1)
   ·exact⟨nofun,λ_=>⟨rfl,e⟩⟩
   simp_all
  simp_all
 simp_all
structure Mc where
 (n S G W D L E:Int)
structure yV(c:Mc):Prop where
 n:c.n=4\/c.n=5\/c.n=6\/c.n=7\/c.n=8
 D:0<=c.D/\c.D<=64
 L:0<=c.L/\c.L<=64
 W:16*c.n*c.D+16<=c.W
 G:2*c.W+2*c.L+4<=c.G
 S:2*c.G+30<=c.S
namespace Mc
variable (c:Mc)
def k(i:Nat):Int:=if i=0 then 17 else 13
def w(i:Nat):Int:=if i=0 then c.W else 0
theorem kw(i:Nat):(i=0/\k i=17/\c.w i=c.W)\/(i≠0/\k i=13/\c.w i=0):=by
 unfold k w;split<;>omega
def M:Int:=c.n*c.S
def bs(t:Int):Int:=c.n*(c.E+2*c.S-t)
def U:Int:=c.n*(c.S-c.D)-c.W
def R:Int:=(c.n-1)*(c.n*c.S+(c.n+1)*c.D)
def VA(i:Nat)(a om:Int):Int:=k i*(c.bs a+om)
def O6(i:Nat)(a om:Int)(b:Bool):Int:=max 0 (k i*(c.bs a+om-c.U))+c.M+(bif b then c.R else 0)
def VP(i:Nat)(a q:Int):Int:=k i*(c.bs a-c.n*(if q=0 then c.W-c.w i else 0))
def O7(i:Nat)(a:Int):Int:=max 0 (k i*(c.bs a-c.n*(c.S-c.D-c.w i)))+c.M
def VL(i:Nat)(t:Int):Int:=max (max 0 (k i*(c.bs t+c.n*(c.G+c.L)-c.n*(c.S-c.D-c.w i)))+2*c.M) (max 0 (k i*(c.bs t-c.n*(c.S-c.D-c.w i)))+3*c.M)+(c.n+1)*c.D
def tT(e t:Int):Int:=(c.n+1)*max (e-t) 0
end Mc
variable{a:Int}{b:Bool}{d q st t:Int}
section
variable {c:Mc} (h:yV c) {i:Nat}
include h
theorem yV.a1{om:Int}(v:a<=c.E)(u:0<=om):3*c.M+c.O6 i a om b<=c.VA i a om:=by
 obtain⟨j,l,p,r,o,q⟩:=h;have kw:=c.kw i;obtain⟨n,S,G,W,D,L,E⟩:=c;simp only[Mc.VA,Mc.O6,Mc.M,Mc.bs,Mc.U,Mc.R] at *;cases b<;>simp only[cond_true,cond_false]<;>rcases kw with ⟨g,e,f⟩|⟨g,e,f⟩<;>rw[e]<;>(try rw[f])<;>rcases j with rfl|rfl|rfl|rfl|rfl<;>omega
theorem yV.a2{f om e:Int}(z:a<=c.E)(y:om=c.W*(c.n-1)/\e=0/\f+c.S-c.D-c.W<=a\/e=om+c.W/\0<=om/\f+c.S-c.D<=a):c.M+(bif b then c.R else 0)+c.VA i a e<=c.O6 i f om b:=by
 obtain⟨o,p,r,v,q,u⟩:=h;have kw:=c.kw i;obtain⟨n,S,G,W,D,L,E⟩:=c;simp only[Mc.VA,Mc.O6,Mc.M,Mc.bs,Mc.U] at *;rcases kw with ⟨l,g,j⟩|⟨l,g,j⟩<;>rw[g]<;>(try rw[j])<;>rcases o with rfl|rfl|rfl|rfl|rfl<;>omega
theorem yV.pa{om:Int}(u:0<=om):c.VP i st q<=c.VA i st om:=by
 obtain⟨g,j,o,r,l,p⟩:=h;have kw:=c.kw i;obtain⟨n,S,G,W,D,L,E⟩:=c;simp only[Mc.VA,Mc.VP,Mc.bs] at *;rcases kw with ⟨f,a,e⟩|⟨f,a,e⟩<;>rw[a]<;>(try rw[e])<;>rcases g with rfl|rfl|rfl|rfl|rfl<;>split<;>omega
theorem yV.p1(u:st<=c.E):3*c.M+c.O7 i st<=c.VP i st q:=by
 obtain⟨g,j,o,r,l,p⟩:=h;have kw:=c.kw i;obtain⟨n,S,G,W,D,L,E⟩:=c;simp only[Mc.O7,Mc.VP,Mc.M,Mc.bs] at *;rcases kw with ⟨f,a,e⟩|⟨f,a,e⟩<;>rw[a]<;>(try rw[e])<;>rcases g with rfl|rfl|rfl|rfl|rfl<;>split<;>omega
theorem yV.p2(y:a<=c.E)(v:q=0/\st+c.S-c.D-c.W<=a\/q≠0/\st+c.S-c.D<=a):c.M+c.VP i a q<=c.O7 i st:=by
 obtain⟨j,l,p,u,o,r⟩:=h;have kw:=c.kw i;obtain⟨n,S,G,W,D,L,E⟩:=c;simp only[Mc.O7,Mc.VP,Mc.M,Mc.bs] at *;rcases kw with ⟨g,e,f⟩|⟨g,e,f⟩<;>rw[e]<;>(try rw[f])<;>rcases j with rfl|rfl|rfl|rfl|rfl<;>split<;>omega
theorem yV.p3(u:a<=c.E)(v:a<=t):2*c.M+c.VL i t<=c.VP i a i:=by
 obtain⟨j,l,p,r,o,q⟩:=h;have kw:=c.kw i;obtain⟨n,S,G,W,D,L,E⟩:=c;simp only[Mc.VL,Mc.VP,Mc.M,Mc.bs] at *;rcases kw with ⟨g,e,f⟩|⟨g,e,f⟩<;>rw[e]<;>(try rw[f])<;>rcases j with rfl|rfl|rfl|rfl|rfl<;>split<;>omega
theorem yV.p4(v:a<=c.E)(y:a<=t):c.VL i t<=c.VP i a q:=by
 obtain⟨j,l,p,u,o,r⟩:=h;have kw:=c.kw i;obtain⟨n,S,G,W,D,L,E⟩:=c;simp only[Mc.VL,Mc.VP,Mc.M,Mc.bs] at *;rcases kw with ⟨g,e,f⟩|⟨g,e,f⟩<;>rw[e]<;>(try rw[f])<;>rcases j with rfl|rfl|rfl|rfl|rfl<;>split<;>omega
theorem yV.p5{om:Int}(v:a<=c.E)(u:0<=om/\om<=c.W*(c.n-1)):3*c.M+c.O6 i a om false<=c.VP i a i:=by
 obtain⟨j,l,p,r,o,q⟩:=h;have kw:=c.kw i;obtain⟨n,S,G,W,D,L,E⟩:=c;simp only[Mc.O6,Mc.VP,Mc.M,Mc.bs,Mc.U,cond_false] at *;rcases kw with ⟨g,e,f⟩|⟨g,e,f⟩<;>rw[e]<;>(try rw[f])<;>rcases j with rfl|rfl|rfl|rfl|rfl<;>split<;>omega
theorem yV.l1(r:t-(c.G+c.L)<=st):c.M+c.O7 i st+(c.n+1)*c.D<=c.VL i t:=by
 obtain⟨g,j,o,q,l,p⟩:=h;have kw:=c.kw i;obtain⟨n,S,G,W,D,L,E⟩:=c;simp only[Mc.VL,Mc.O7,Mc.M,Mc.bs] at *;rcases kw with ⟨f,a,e⟩|⟨f,a,e⟩<;>rw[a]<;>(try rw[e])<;>rcases g with rfl|rfl|rfl|rfl|rfl<;>omega
theorem yV.l2{f:Int}(u:t<=f):2*c.M+c.O7 i f+(c.n+1)*c.D<=c.VL i t:=by
 obtain⟨j,l,p,r,o,q⟩:=h;have kw:=c.kw i;obtain⟨n,S,G,W,D,L,E⟩:=c;simp only[Mc.VL,Mc.O7,Mc.M,Mc.bs] at *;rcases kw with ⟨g,a,e⟩|⟨g,a,e⟩<;>rw[a]<;>(try rw[e])<;>rcases j with rfl|rfl|rfl|rfl|rfl<;>omega
theorem yV.l3{e:Int}(p:-c.D<=d)(q:t+(c.S+d)<=e):c.M+c.tT e (t+(c.S+d))<=c.tT e t:=by
 obtain⟨a,f,j,o,g,l⟩:=h;obtain⟨n,S,G,W,D,L,E⟩:=c;simp only[Mc.tT,Mc.M] at *;rcases a with rfl|rfl|rfl|rfl|rfl<;>omega
theorem yV.tm{e e' t':Int}(p:e'<=e)(q:t<=t'):c.tT e' t'<=c.tT e t:=by
 obtain⟨a,f,j,o,g,l⟩:=h;obtain⟨n,S,G,W,D,L,E⟩:=c;simp only[Mc.tT] at *;rcases a with rfl|rfl|rfl|rfl|rfl<;>omega
theorem yV.td{e:Int}(q:a<=t+c.S+c.D):c.tT e (t+c.S)<=c.tT e a+(c.n+1)*c.D:=by
 obtain⟨f,g,l,p,j,o⟩:=h;obtain⟨n,S,G,W,D,L,E⟩:=c;simp only[Mc.tT] at *;rcases f with rfl|rfl|rfl|rfl|rfl<;>omega
theorem yV.t0{e:Int}(p:e<=t+c.S+c.D):c.tT e (t+c.S)<=(c.n+1)*c.D:=by
 obtain⟨a,f,j,o,g,l⟩:=h;obtain⟨n,S,G,W,D,L,E⟩:=c;simp only[Mc.tT] at *;rcases a with rfl|rfl|rfl|rfl|rfl<;>omega
theorem yV.lm{f:Int}(u:t<=f):c.VL i f<=c.VL i t:=by
 obtain⟨j,l,p,r,o,q⟩:=h;have kw:=c.kw i;obtain⟨n,S,G,W,D,L,E⟩:=c;simp only[Mc.VL,Mc.M,Mc.bs] at *;rcases kw with ⟨g,a,e⟩|⟨g,a,e⟩<;>rw[a]<;>(try rw[e])<;>rcases j with rfl|rfl|rfl|rfl|rfl<;>omega
theorem yV.n1(r:c.S<=st):c.VA i st 0+c.M<=c.VL i 0:=by
 obtain⟨g,j,o,q,l,p⟩:=h;have kw:=c.kw i;obtain⟨n,S,G,W,D,L,E⟩:=c;simp only[Mc.VA,Mc.VL,Mc.M,Mc.bs] at *;rcases kw with ⟨f,a,e⟩|⟨f,a,e⟩<;>rw[a]<;>(try rw[e])<;>rcases g with rfl|rfl|rfl|rfl|rfl<;>omega
theorem yV.nn{e:Int}:0<=c.M/\0<=c.tT e t/\0<=c.VL i t/\0<=(c.n+1)*c.D/\0<=c.R:=by
 obtain⟨j,l,p,r,o,q⟩:=h;have kw:=c.kw i;obtain⟨n,S,G,W,D,L,E⟩:=c;simp only[Mc.VL,Mc.M,Mc.bs,Mc.tT,Mc.R] at *;rcases kw with ⟨g,a,f⟩|⟨g,a,f⟩<;>rw[a]<;>(try rw[f])<;>rcases j with rfl|rfl|rfl|rfl|rfl<;>omega
theorem yV.na{om:Int}:c.M<=c.O6 i st om b/\c.M<=c.O7 i st:=by
 obtain⟨g,j,o,q,l,p⟩:=h;have kw:=c.kw i;obtain⟨n,S,G,W,D,L,E⟩:=c;simp only[Mc.O6,Mc.O7,Mc.M,Mc.bs,Mc.U,Mc.R] at *;cases b<;>simp only[cond_true,cond_false]<;>rcases kw with ⟨f,a,e⟩|⟨f,a,e⟩<;>rw[a]<;>(try rw[e])<;>rcases g with rfl|rfl|rfl|rfl|rfl<;>omega
theorem yV.nw:0<=c.W/\0<=c.S/\0<=c.G/\c.D<=c.S:=by
 obtain⟨a,e,g,l,f,j⟩:=h;obtain⟨n,S,G,W,D,L,E⟩:=c;rcases a with rfl|rfl|rfl|rfl|rfl<;>simp only at * <;> omega
end
def lv(h:List je)(i:Nat)(t:Int):List je:=h.filter λe=>decide (e.2.1≠3)&&(decide (e.2.2.1=(i:Int))&&decide (e.2.2.2=t))
variable{i:Nat}
theorem rV{h a:List je}(p:h.Perm a):(lv h i t).Perm (lv a i t):=p.filter _
theorem akC{l h:List je}:lv (l++h) i t=lv l i t++lv h i t:=mE ..
theorem Zs{h:List je}(f:∀e∈h,e.2.1≠3->e.2.2.1=(i:Int)->e.2.2.2≠t):lv h i t=[]:=List.filter_eq_nil_iff.2 λe a=>by grind
variable{e:je}
theorem Ls{h:List je}(a:e.2.1≠3)(b:e.2.2.1=(i:Int))(d:e.2.2.2=t):lv (e::h) i t=e::lv h i t:=
 gV (by simp only[fv,rR];exact⟨a,b,d⟩)
theorem Lt{h:List je}(a:¬(e.2.1≠3/\e.2.2.1=(i:Int)/\e.2.2.2=t)):lv (e::h) i t=lv h i t:=
 List.filter_cons_of_neg (by simp only[fv,rR];exact a)
inductive zd (c:Mc) (i:Nat) (w eo:Int) (y:cr) (l:List je) (v:Int):Prop
 | a_ (a:kh y.1=true) (b:l=[]) (d:0<=v)
 | beg (t:Int) (a:kh y.1=true) (e:y.2.2.2.2.2.2.2=false) (b:l=[(t,4,(i:Int),y.2.2.2.2.1)]) (s:y.2.1.1<=t) (u:t<=c.E) (p:y.1.2.2.1.2.1=y.2.1.2.1%c.n) (d:(bif decide (y.1.2.1=4) then c.VA i y.2.1.1 (c.W*(y.2.1.2.1%c.n)) else c.VP i y.2.1.1 y.1.2.2.1.2.1)+c.tT eo (w+c.S)<=v)
 | Ig (t:Int) (a:kh y.1=true) (e:y.2.2.2.2.2.2.2=false) (b:l=[(t,1,(i:Int),y.2.2.2.2.1)]) (p:y.1.2.2.1.2.1=y.2.1.2.1%c.n) (d:(bif decide (y.1.2.1=4) then c.O6 i y.2.1.1 (c.W*(y.2.1.2.1%c.n)) y.2.2.2.2.2.2.1 else c.O7 i y.2.1.1)+c.tT eo (w+c.S)<=v)
 | Gj (a:y.1.2.1=1) (e:y.2.2.2.2.2.2.2=false) (s:y.2.2.2.1<=w) (b:l=[]) (u:eo<=w+c.S+c.D) (d:c.VL i y.2.2.2.1<=v)
 | Ih (t:Int) (a:y.1.2.1=1) (e:y.2.2.2.2.2.2.2=false) (s:y.2.2.2.1<=w) (b:l=[(t,2,(i:Int),y.2.2.2.2.1)]) (u:t<=w+c.S+c.D) (d:c.VL i y.2.2.2.1+c.tT eo t<=v)
 | off (a:y.1.2.1=0\/y.1.2.1=5) (b:l=[]) (d:c.VL i w+c.tT eo (w+c.S)<=v)
 | pow (t:Int) (a:y.1.2.1=0) (e:y.2.2.2.2.2.2.2=false) (b:l=[(t,5,(i:Int),y.2.2.2.2.1)]) (d:c.VL i w+c.tT eo (w+c.S)+(c.M+(c.n+1)*c.D)<=v)
variable{c:Mc}
theorem zd.mono{w g w' f v o:Int}{y:cr}{l:List je}(j:yV c)(q:w<=w')(n:f<=g)(z:v<=o)(h:zd c i w g y l v):zd c i w' f y l o:=by
 have T:=j.tm (e:=g) (t:=w+c.S) (e':=f) (t':=w'+c.S) n (by omega);have V:=j.lm (i:=i) q;cases h with
 | a_ a b d=>exact .a_ a b (by omega)
 | beg t a e b s u p d=>exact .beg t a e b s u p (by omega)
 | Ig t a e b p d=>exact .Ig t a e b p (by omega)
 | Gj a e s b u d=>exact .Gj a e (by omega) b (by omega) (by omega)
 | Ih t a e s b u d=>
   have r:=j.tm (e:=g) (t:=t) (e':=f) (t':=t) n (al _);exact .Ih t a e (by omega) b (by omega) (by omega)
 | off a b d=>exact .off a b (by omega)
 | pow t a e b d=>exact .pow t a e b (by omega)
theorem zd.short{w f v:Int}{y:cr}{l:List je}(h:zd c i w f y l v):l=[]\/∃e,l=[e]:=by
 cases h with
 | a_ a b d=>simp_all
 | beg t a e b s u p d=>simp_all
 | Ig t a e b p d=>simp_all
 | Gj a e s b u d=>simp_all
 | Ih t a e s b u d=>simp_all
 | off a b d=>simp_all
 | pow t a e b d=>simp_all
theorem zd.perm{w f v:Int}{y:cr}{l a:List je}(h:zd c i w f y l v)(p:a.Perm l):zd c i w f y a v:=by
 have e:a=l:=by
  rcases h.short with rfl|⟨e,rfl⟩
  all_goals simp_all
 simp_all
theorem zd.nn{w g v:Int}{y:cr}{l:List je}(f:yV c)(n:0<=y.2.1.2.1%c.n)(h:zd c i w g y l v):0<=v:=by
 obtain⟨n1,o,_,r,_⟩:=f.nn (i:=i) (e:=g) (t:=w+c.S);have j:0<=c.W*(y.2.1.2.1%c.n):=gl f.nw.1 n;cases h with
 | a_ a b d=>exact d
 | beg t a e b s u p d=>
   have p1:=f.p1 (i:=i) (st:=y.2.1.1) (q:=y.1.2.2.1.2.1) (by omega);have pa:=f.pa (i:=i) (st:=y.2.1.1) (q:=y.1.2.2.1.2.1) j;have na:=(f.na (i:=i) (st:=y.2.1.1) (om:=0) (b:=false)).2
   grind
 | Ig t a e b p d=>
   have na:=f.na (i:=i) (st:=y.2.1.1) (om:=c.W*(y.2.1.2.1%c.n)) (b:=y.2.2.2.2.2.2.1)
   grind
 | Gj a e s b u d=>have:=(f.nn (i:=i) (e:=g) (t:=y.2.2.2.1)).2.2.1;omega
 | Ih t a e s b u d=>have:=f.nn (i:=i) (e:=g) (t:=y.2.2.2.1);have:=f.nn (i:=i) (e:=g) (t:=t);omega
 | off a b d=>have:=f.nn (i:=i) (e:=g) (t:=w);omega
 | pow t a e b d=>have:=f.nn (i:=i) (e:=g) (t:=w);omega
def C_(v:Nat->Int):Nat->Int
 | 0=>0
 | n+1=>C_ v n+v n
def Un(v:Nat->Int)(i:Nat)(a:Int):Nat->Int:=λj=>if j=i then a else v j
theorem wq{v:Nat->Int}:Un v i a i=a:=if_pos rfl
variable{j:Nat}
theorem qg{v:Nat->Int}(h:j≠i):Un v i a j=v j:=if_neg h
theorem ES{v:Nat->Int}{i:Nat}{a:Int}:∀{n},n<=i->C_ (Un v i a) n=C_ v n
 | 0,_=>rfl
 | n+1,h=>by rw[C_,C_,ES (by omega),qg (by omega)]
theorem qJ{v:Nat->Int}{i:Nat}{a:Int}:∀{n},i<n->C_ (Un v i a) n=C_ v n-v i+a
 | n+1,h=>by
   by_cases e:i=n
   ·subst e;rw[C_,C_,ES (aj _),wq];omega
   ·rw[C_,C_,qJ (by omega),qg (by omega)];omega
theorem aaW{v:Nat->Int}:∀{n},(∀i,i<n->0<=v i)->0<=C_ v n
 | 0,_=>al _
 | n+1,h=>Int.add_nonneg (aaW λi a=>h i (by omega)) (h n (by omega))
structure Env(c:Mc)(m:ax)(s:jv):Prop where
 ml:dC m=true
 ok:yV c
 n:c.n=m.1
 S:c.S=m.2.1
 G:c.G=m.2.2.1
 W:c.W=m.2.2.2.1
 D:c.D=m.2.2.2.2.1
 L:c.L=m.2.2.2.2.2.1
 E:0<=c.E/\c.E<=1000000000000
 fl:s.2.2.2.2.2.2.2.length<=1000000
 fm:∀f∈s.2.2.2.2.2.2.2,mM (m,f)=true
 gt:m.1<=(s.2.2.2.1.length:Int)
 gd:m.1<=(s.2.2.2.2.1.length:Int)
 dl:s.2.2.2.2.2.1.length<=1000000
 dd:∀v∈s.2.2.2.2.2.1, -m.2.2.2.2.1<=v/\v<=m.2.2.2.2.1
 op:s.2.2.2.2.2.2.1.length<=1000000
structure Ce(m:ax)(i:Nat)(τ:Int)(y:cr):Prop where
 yA:cZ m y.1=0
 id:y.1.1=(i:Int)
 t:0<=y.2.2.2.2.1/\y.2.2.2.2.1<=τ
 c:0<=y.2.1.1/\y.2.1.1<=2199023255552
 l:0<=y.2.1.2.1
 d:y.2.1.2.2.length<=8
variable{m:ax}{τ:Int}
theorem Ce.mono{y:cr}(h:Ce m i τ y)(k:τ<=a):Ce m i a y:=⟨h.yA,h.id,⟨h.t.1,by have:=h.t.2;omega⟩,h.c,h.l,h.d⟩
def VY(K:Nat)(l:List dF):Prop:=l.length<=K/\∀s∈l,EH s
theorem VY.mono{K a:Nat}{l:List dF}(h:VY K l)(k:K<=a):VY a l:=⟨aW h.1 k,h.2⟩
theorem VY.app{K k:Nat}{l a:List dF}(h:VY K l)(g:tF l a k):VY (K+k) a:=⟨aW g.1 (Nat.add_le_add_right h.1 _),λs e=>(g.2 s e).elim (h.2 s) id⟩
structure Inv(c:Mc)(m:ax)(s:jv)(B t K:Nat)(τ:Int)(ex:Nat)(b:Int)(x:Net):Prop where
 q:yW x
 mad:x.1=true
 em:x.2.1=m
 es:x.2.2.1=s
 en:(x.2.2.2.2.2.2.1.length:Int)=m.1
 now:0<=x.2.2.2.2.2.1.2.2/\x.2.2.2.2.2.1.2.2<=c.E
 ee:x.2.2.2.2.1<=c.E
 hw:∀e∈x.2.2.2.2.2.1.2.1,x.2.2.2.2.2.1.2.2<=e.1/\e.1<=c.E
 h3:∀e∈x.2.2.2.2.2.1.2.1,e.2.1=3->0<=e.2.2.2/\e.2.2.2<(x.2.2.2.2.2.2.2.2.2.1.length:Int)
 hi:∀e∈x.2.2.2.2.2.1.2.1,e.2.1≠3->∃i:Nat,e.2.2.1=(i:Int)/\i<x.2.2.2.2.2.2.1.length/\e.2.2.2<=(aF x i).2.2.2.2.1
 ch:VY K x.2.2.2.2.2.2.2.1/\VY K x.2.2.2.2.2.2.2.2.1/\x.2.2.2.2.2.2.2.2.2.1.length<=K
 sn:x.2.2.2.2.2.2.2.2.2.2.length<=K/\∀z∈x.2.2.2.2.2.2.2.2.2.2,cZ m z.2=0
 nd:∀i,i<x.2.2.2.2.2.2.1.length->Ce m i τ (aF x i)
 lx:ex<x.2.2.2.2.2.2.1.length->lv x.2.2.2.2.2.1.2.1 ex ((aF x ex).2.2.2.2.1)=[]
 vs:∃v:Nat->Int,(ex<x.2.2.2.2.2.2.1.length->b<=v ex)/\(∀i,i<x.2.2.2.2.2.2.1.length->i≠ex->zd c i x.2.2.2.2.2.1.2.2 x.2.2.2.2.1 (aF x i) (lv x.2.2.2.2.2.1.2.1 i ((aF x i).2.2.2.2.1)) (v i))/\C_ v x.2.2.2.2.2.2.1.length+c.M*((x.2.2.2.2.2.1.2.1.length+t:Nat):Int)<=c.M*(B:Int)
variable{f:cr->cr}{u:Int}{y:Net}
section
variable {c:Mc} {m:ax} {s:jv} {B t K:Nat} {τ:Int} {ex:Nat} {b:Int} {x:Net} (h:Inv c m s B t K τ ex b x)
include h
theorem Inv.anY{dB:Nat}{C:Int}{a:Nat}{f:List je}(O:yW y)(D:y.1=x.1)(F:y.2.1=x.2.1)(G:y.2.2.1=x.2.2.1)(l:y.2.2.2.2.2.2.1.length=x.2.2.2.2.2.2.1.length)(q:y.2.2.2.2.2.1.2.2=x.2.2.2.2.2.1.2.2)(H:y.2.2.2.2.1<=x.2.2.2.2.1)
  (Z:x.2.2.2.2.2.2.2.2.2.1.length<=y.2.2.2.2.2.2.2.2.2.1.length) (I:VY j y.2.2.2.2.2.2.2.1/\VY j y.2.2.2.2.2.2.2.2.1/\y.2.2.2.2.2.2.2.2.2.1.length<=j) (J:y.2.2.2.2.2.2.2.2.2.2.length<=j/\∀z∈y.2.2.2.2.2.2.2.2.2.2,cZ m z.2=0)
  (A:y.2.2.2.2.2.1.2.1.Perm (f++x.2.2.2.2.2.1.2.1)) (r:∀e∈f,(x.2.2.2.2.2.1.2.2<=e.1/\e.1<=c.E)/\(e.2.1=3->0<=e.2.2.2/\e.2.2.2<(y.2.2.2.2.2.2.2.2.2.1.length:Int))/\(e.2.1≠3->∃i:Nat,e.2.2.1=(i:Int)/\i<x.2.2.2.2.2.2.1.length/\e.2.2.2<=(aF y i).2.2.2.2.1))
  (P:∀i,i<x.2.2.2.2.2.2.1.length->(aF x i).2.2.2.2.1<=(aF y i).2.2.2.2.1) (N:∀i,i<x.2.2.2.2.2.2.1.length->Ce m i C (aF y i)) (p:a<x.2.2.2.2.2.2.1.length->lv y.2.2.2.2.2.1.2.1 a ((aF y a).2.2.2.2.1)=[])
  (Q:∀v:Nat->Int,(ex<x.2.2.2.2.2.2.1.length->b<=v ex)->(∀i,i<x.2.2.2.2.2.2.1.length->i≠ex->zd c i x.2.2.2.2.2.1.2.2 x.2.2.2.2.1 (aF x i) (lv x.2.2.2.2.2.1.2.1 i ((aF x i).2.2.2.2.1)) (v i))->∃o:Nat->Int,(a<x.2.2.2.2.2.2.1.length->u<=o a)/\(∀i,i<x.2.2.2.2.2.2.1.length->i≠a->zd c i x.2.2.2.2.2.1.2.2 y.2.2.2.2.1 (aF y i) (lv y.2.2.2.2.2.1.2.1 i ((aF y i).2.2.2.2.1)) (o i))/\C_ o x.2.2.2.2.2.2.1.length+c.M*(f.length:Int)<=C_ v x.2.2.2.2.2.2.1.length+c.M*(dB:Int)):Inv c m s (B+dB) t j C a u y:=by
 have g:∀e∈y.2.2.2.2.2.1.2.1,e∈f\/e∈x.2.2.2.2.2.1.2.1:=λe k=>nY.1 (A.mem_iff.1 k);refine⟨O,D.trans h.mad,F.trans h.em,G.trans h.es,by rw[l];exact h.en,by rw[q];exact h.now,bX H h.ee,λe k=>?_,λe k n=>?_,λe k n=>?_,I,J,by rw[l];exact N,by rw[l];exact p,?_⟩
 ·rw[q]
  rcases g e k with k|k
  ·exact(r e k).1
  ·exact h.hw e k
 ·rcases g e k with k|k
  ·exact(r e k).2.1 n
  ·have:=h.h3 e k n;omega
 ·rw[l]
  rcases g e k with k|k
  ·exact(r e k).2.2 n
  ·obtain⟨i,a1,a2,Y⟩:=h.hi e k n
   have:=P i a2;exact⟨i,a1,a2,by omega⟩
 ·obtain⟨v,S,V,v3⟩:=h.vs
  obtain⟨o,W,X,w3⟩:=Q v S V;rw[l,q];refine⟨o,W,X,?_⟩;have p:=A.length_eq;rw[qS] at p;rw[p,show((f.length+x.2.2.2.2.2.1.2.1.length+t:Nat):Int)=(f.length:Int)+((x.2.2.2.2.2.1.2.1.length+t:Nat):Int) from by omega,Int.mul_add,show((B+dB:Nat):Int)=(B:Int)+(dB:Int) from by omega,Int.mul_add];omega
theorem Inv.core{g:Nat}{n:Int}{f:Nat}{l:Int}{evs:List je}(O:yW y)(o:y.1=x.1)(p:y.2.1=x.2.1)(r:y.2.2.1=x.2.2.1)(u:y.2.2.2.2.2.2.1.length=x.2.2.2.2.2.2.1.length)(A:y.2.2.2.2.2.1.2.2=x.2.2.2.2.2.1.2.2)(C:y.2.2.2.2.1<=x.2.2.2.2.1)
  (D:x.2.2.2.2.2.2.2.2.2.1.length<=y.2.2.2.2.2.2.2.2.2.1.length) (F:VY g y.2.2.2.2.2.2.2.1/\VY g y.2.2.2.2.2.2.2.2.1/\y.2.2.2.2.2.2.2.2.2.1.length<=g) (G:y.2.2.2.2.2.2.2.2.2.2.length<=g/\∀z∈y.2.2.2.2.2.2.2.2.2.2,cZ m z.2=0)
  (N:y.2.2.2.2.2.1.2.1.Perm (evs++x.2.2.2.2.2.1.2.1)) (H:∀e∈evs,(x.2.2.2.2.2.1.2.2<=e.1/\e.1<=c.E)/\(e.2.1=3->0<=e.2.2.2/\e.2.2.2<(y.2.2.2.2.2.2.2.2.2.1.length:Int))/\(e.2.1≠3->∃i:Nat,e.2.2.1=(i:Int)/\i<x.2.2.2.2.2.2.1.length/\e.2.2.2<=(aF y i).2.2.2.2.1))
  (P:∀i,i<x.2.2.2.2.2.2.1.length->(aF x i).2.2.2.2.1<=(aF y i).2.2.2.2.1) (J:∀i,i<x.2.2.2.2.2.2.1.length->Ce m i n (aF y i)) (I:f<x.2.2.2.2.2.2.1.length->lv y.2.2.2.2.2.1.2.1 f ((aF y f).2.2.2.2.1)=[])
  (Q:∀v:Nat->Int,(ex<x.2.2.2.2.2.2.1.length->b<=v ex)->(∀i,i<x.2.2.2.2.2.2.1.length->i≠ex->zd c i x.2.2.2.2.2.1.2.2 x.2.2.2.2.1 (aF x i) (lv x.2.2.2.2.2.1.2.1 i ((aF x i).2.2.2.2.1)) (v i))->∃j:Nat->Int,(f<x.2.2.2.2.2.2.1.length->l<=j f)/\(∀i,i<x.2.2.2.2.2.2.1.length->i≠f->zd c i x.2.2.2.2.2.1.2.2 y.2.2.2.2.1 (aF y i) (lv y.2.2.2.2.2.1.2.1 i ((aF y i).2.2.2.2.1)) (j i))/\C_ j x.2.2.2.2.2.2.1.length+c.M*(evs.length:Int)<=C_ v x.2.2.2.2.2.2.1.length):Inv c m s B t g n f l y:=
 h.anY (dB:=0) O o p r u A C D F G N H P J I λv a b=>(Q v a b).imp λj q=>⟨q.1,q.2.1,by have:=q.2.2;show _<=_+c.M*0;omega⟩
theorem Inv.none(l:i<x.2.2.2.2.2.2.1.length)(n:(aF x i).2.2.2.2.1<u):lv x.2.2.2.2.2.1.2.1 i u=[]:=Zs λe f a b d=>by
 obtain⟨j,a1,a2,g⟩:=h.hi e f a
 grind
theorem Inv.XO(p:yV c){k:Nat}(l:ex<x.2.2.2.2.2.2.1.length)(e:oy x y k j):Inv c m s B t (K+k) τ ex (b-c.M*(j:Int)) y:=by
 obtain⟨a,V,P,W,F,f,rfl,l1,l2,l3,I,J,z,X,A,C⟩:=e;have G:=(p.nn (i:=0) (e:=0) (t:=0)).1;have H:=h.ch.2.2;have n:∀i u,(lv F i u).Perm (lv x.2.2.2.2.2.1.2.1 i u):=λi u=>by
  refine(rV A).trans ?_;rw[akC,Zs (h:=f) λe o a _=>absurd (C e o).1 a];exact .refl _
 refine h.core (evs:=f) ⟨h.q.made,I,J⟩ rfl rfl rfl rfl rfl z l3.1 ⟨h.ch.1.app l1,h.ch.2.1.app l2,by show P.length<=_;omega⟩ ⟨aW h.sn.1 (Nat.le_add_right _ _),h.sn.2⟩ A (λe o=>?_) (λi r=>al _) h.nd (λl=>?_) λv Q S=>?_
 ·obtain⟨N,D,O⟩:=C e o
  exact⟨⟨D.1,bX D.2 h.ee⟩,λ_=>O,λq=>absurd N q⟩
 ·have:=n ex ((aF x ex).2.2.2.2.1)
  rw[h.lx l] at this;exact this.eq_nil
 ·refine⟨Un v ex (v ex-c.M*(j:Int)),λl=>?_,λi r g=>?_,?_⟩
  ·rw[wq];have:=Q l;omega
  ·rw[qg g]
   exact((S i r g).mono p (al _) z (al _)).perm (n i _)
  ·rw[qJ l]
   have:=fN (a:=(f.length:Int)) (b:=(j:Int)) (c:=c.M) (by omega) G;omega
theorem Inv.mod{l:Int}(j:ex<x.2.2.2.2.2.2.1.length)(hτ:τ<=l)(r:Ce m ex l (f (aF x ex)))(u:(aF x ex).2.2.2.2.1<=(f (aF x ex)).2.2.2.2.1):Inv c m s B t K l ex b (cH x (bq x.2.2.2.2.2.2.1 ex f)):=by
 have o:aF (cH x (bq x.2.2.2.2.2.2.1 ex f)) ex=f (aF x ex):=fh j;have n:∀i,i≠ex->aF (cH x (bq x.2.2.2.2.2.2.1 ex f)) i=aF x i:=λi a=>gY a;refine h.core (evs:=[]) ⟨h.q.made,h.q.len,h.q.heap⟩ rfl rfl rfl bL rfl (al _) (aj _) h.ch h.sn (.refl _) nofun (λi a=>?_) (λi a=>?_) (λ_=>?_) λv p q=>⟨v,p,λi a g=>?_,by simp_all⟩
 ·grind
 ·by_cases e:i=ex
  ·simp_all
  ·rw[n i e];exact(h.nd i a).mono hτ
 ·rw[o]
  by_cases e:(aF x ex).2.2.2.2.1=(f (aF x ex)).2.2.2.2.1
  ·rw[<-e];exact h.lx j
  ·exact h.none j (by omega)
 ·rw[n i g];exact q i a g
theorem Inv.cl(f:yV c)(a:ex<x.2.2.2.2.2.2.1.length)(j:zd c ex x.2.2.2.2.2.1.2.2 x.2.2.2.2.1 (aF x ex) [] b):Inv c m s B t K τ x.2.2.2.2.2.2.1.length 0 x:=by
 refine h.core (evs:=[]) h.q rfl rfl rfl rfl rfl (al _) (aj _) h.ch h.sn (.refl _) nofun (λi g=>al _) h.nd (λk=>absurd k (eD _)) λv l n=>⟨v,λk=>absurd k (eD _),λi g _=>?_,by simp_all⟩;by_cases e:i=ex
 ·subst e;rw[h.lx a];exact j.mono f (al _) (al _) (l a)
 simp_all
theorem Inv.cp(F:yV c)(l:ex<x.2.2.2.2.2.2.1.length)(p:qR x e y)(A:e.2.1≠3)(C:e.2.2.1=(ex:Int))(D:e.2.2.2=(aF x ex).2.2.2.2.1)(H:x.2.2.2.2.2.1.2.2<=e.1)(N:e.1<=x.2.2.2.2.1->zd c ex x.2.2.2.2.2.1.2.2 x.2.2.2.2.1 (aF x ex) [e] (b-c.M))(O:∀z,z<=x.2.2.2.2.1->z<=e.1->zd c ex x.2.2.2.2.2.1.2.2 z (aF x ex) [] b):Inv c m s B t K τ x.2.2.2.2.2.2.1.length 0 y:=by
 obtain⟨r,J,rfl,l1,l2,⟨rfl,f,g⟩|⟨I,f,g⟩⟩:=p
 ·have n:∀(i:Nat) (u:Int),¬(e.2.2.1=(i:Int)/\e.2.2.2=u)->(lv J i u).Perm (lv x.2.2.2.2.2.1.2.1 i u):=λi u k=>by
   have:=rV (i:=i) (t:=u) g
   rwa [Lt λa=>k a.2] at this
  refine h.core (evs:=[e]) ⟨h.q.made,l1,l2⟩ rfl rfl rfl rfl rfl (al _) (aj _) h.ch h.sn g (λz P=>?_) (λi j=>al _) h.nd (λk=>absurd k (eD _)) λv G o=>⟨Un v ex (b-c.M),λk=>absurd k (eD _),λi j _=>?_,?_⟩
  ·rw[aJ.1 P]
   exact⟨⟨H,bX f h.ee⟩,λq=>absurd q A,λ_=>⟨ex,C,l,oF D⟩⟩
  ·by_cases k:i=ex
   ·subst k
    rw[wq];refine(N f).perm ?_;have:=rV (i:=i) (t:=(aF x i).2.2.2.2.1) g
    rwa [Ls A C D,h.lx l] at this
   ·rw[qg k]
    exact(o i j k).perm (n i _ λq=>k (by omega))
  ·rw[qJ l,bg]
   omega
 ·subst I
  refine h.core (evs:=[]) ⟨h.q.made,l1,l2⟩ rfl rfl rfl rfl rfl f (aj _) h.ch h.sn (.refl _) nofun (λi j=>al _) h.nd (λk=>absurd k (eD _)) λv G o=>⟨v,λk=>absurd k (eD _),λi j _=>?_,by simp_all⟩;by_cases k:i=ex
  ·subst k
   show zd c i _ r _ (lv x.2.2.2.2.2.1.2.1 i ((aF x i).2.2.2.2.1)) _;rw[h.lx l];exact(O r f g).mono F (al _) (al _) (G l)
  ·exact(o i j k).mono F (al _) f (al _)
theorem Inv.oth{k:Nat}{p:Int}(C:0<=d)(o:ex<x.2.2.2.2.2.2.1.length\/d=0)(l:k<x.2.2.2.2.2.2.1.length)(j:k≠ex)(hτ:τ<=p)(z:Ce m k p (f (aF x k)))(D:(aF x k).2.2.2.2.1<=(f (aF x k)).2.2.2.2.1)(A:yV c)
  (y:∀v,zd c k x.2.2.2.2.2.1.2.2 x.2.2.2.2.1 (aF x k) (lv x.2.2.2.2.2.1.2.1 k ((aF x k).2.2.2.2.1)) v->zd c k x.2.2.2.2.2.1.2.2 x.2.2.2.2.1 (f (aF x k)) (lv x.2.2.2.2.2.1.2.1 k ((f (aF x k)).2.2.2.2.1)) (v+d)):Inv c m s B t K p ex (b-d) (cH x (bq x.2.2.2.2.2.2.1 k f)):=by
 have u:aF (cH x (bq x.2.2.2.2.2.2.1 k f)) k=f (aF x k):=fh l;have n:∀i,i≠k->aF (cH x (bq x.2.2.2.2.2.2.1 k f)) i=aF x i:=λi g=>gY g;refine h.core (evs:=[]) ⟨h.q.made,h.q.len,h.q.heap⟩ rfl rfl rfl bL rfl (al _) (aj _) h.ch h.sn (.refl _) nofun (λi g=>?_) (λi g=>?_) (λq=>?_) λv F r=>⟨Un (Un v k (v k+d)) ex (v ex-d),λq=>?_,λi g a=>?_,?_⟩
 ·grind
 ·by_cases e:i=k
  ·simp_all
  ·rw[n i e];exact(h.nd i g).mono hτ
 ·rw[n ex (gX j)];exact h.lx q
 ·rw[wq];omega
 ·rw[qg a]
  by_cases e:i=k
  ·subst e;rw[u,wq];exact y _ (r i g a)
  ·rw[n i e,qg e];exact r i g a
 ·show _+c.M*0<=_
  rcases o with o|rfl
  ·rw[qJ o,qJ l,qg (gX j)];omega
  ·by_cases q:ex<x.2.2.2.2.2.2.1.length
   ·rw[qJ q,qJ l,qg (gX j)];omega
   ·rw[ES (by omega),qJ l];omega
theorem Inv.mp{k:Nat}{G:Int}(hd:0<=d)(J:ex<x.2.2.2.2.2.2.1.length\/d=0)(A:k<x.2.2.2.2.2.2.1.length)(j:k≠ex)(hτ:τ<=G)(hB:Ce m k G (f (aF x k)))(ht:(aF x k).2.2.2.2.1<=(f (aF x k)).2.2.2.2.1)(V:lv x.2.2.2.2.2.1.2.1 k ((f (aF x k)).2.2.2.2.1)=[])(Z:yV c)(p:qR (cH x (bq x.2.2.2.2.2.2.1 k f)) e y)(O:e.2.1≠3)(P:e.2.2.1=(k:Int))(Q:e.2.2.2=(f (aF x k)).2.2.2.2.1)(X:x.2.2.2.2.2.1.2.2<=e.1)
  (S:∀v,zd c k x.2.2.2.2.2.1.2.2 x.2.2.2.2.1 (aF x k) (lv x.2.2.2.2.2.1.2.1 k ((aF x k).2.2.2.2.1)) v->(e.1<=x.2.2.2.2.1->zd c k x.2.2.2.2.2.1.2.2 x.2.2.2.2.1 (f (aF x k)) [e] (v+d-c.M))/\∀z,z<=x.2.2.2.2.1->z<=e.1->zd c k x.2.2.2.2.2.1.2.2 z (f (aF x k)) [] (v+d)):Inv c m s B t K G ex (b-d) y:=by
 have H:aF (cH x (bq x.2.2.2.2.2.2.1 k f)) k=f (aF x k):=fh A;have C:∀i,i≠k->aF (cH x (bq x.2.2.2.2.2.2.1 k f)) i=aF x i:=λi l=>gY l;have tt:∀i,i<x.2.2.2.2.2.2.1.length->(aF x i).2.2.2.2.1<=(aF (cH x (bq x.2.2.2.2.2.2.1 k f)) i).2.2.2.2.1:=λi l=>by grind
 have nn:∀i,i<x.2.2.2.2.2.2.1.length->Ce m i G (aF (cH x (bq x.2.2.2.2.2.2.1 k f)) i):=λi l=>by
  by_cases e:i=k
  ·simp_all
  ·rw[C i e];exact(h.nd i l).mono hτ
 have sm:∀(v:Nat->Int) (a:Int),C_ (Un (Un v k (v k+d-a)) ex (v ex-d)) x.2.2.2.2.2.2.1.length+a<=C_ v x.2.2.2.2.2.2.1.length:=λv a=>by
  rcases J with J|rfl
  ·rw[qJ J,qJ A,qg (gX j)];omega
  ·by_cases q:ex<x.2.2.2.2.2.2.1.length
   ·rw[qJ q,qJ A,qg (gX j)];omega
   ·rw[ES (by omega),qJ A];omega
 obtain⟨N,I,rfl,l1,l2,⟨rfl,n,o⟩|⟨Y,n,o⟩⟩:=p
 ·have D:∀(i:Nat) (u:Int),¬(e.2.2.1=(i:Int)/\e.2.2.2=u)->(lv I i u).Perm (lv x.2.2.2.2.2.1.2.1 i u):=λi u k=>by
   have:=rV (i:=i) (t:=u) o
   rwa [Lt λa=>k a.2] at this
  refine h.core (evs:=[e]) ⟨h.q.made,l1,l2⟩ rfl rfl rfl bL rfl (al _) (aj _) h.ch h.sn o (λz hz=>?_) tt nn (λq=>?_) λv W F=>⟨Un (Un v k (v k+d-c.M)) ex (v ex-d),λq=>?_,λi l g=>?_,?_⟩
  ·rw[aJ.1 hz]
   exact⟨⟨X,bX n h.ee⟩,λq=>absurd q O,λ_=>⟨k,P,A,oF (Q.trans (congrArg (λz:cr=>z.2.2.2.2.1) H).symm)⟩⟩
  ·have:=D ex ((aF x ex).2.2.2.2.1) λq=>j (by omega)
   rw[h.lx q] at this;show lv I ex ((aF (cH x (bq x.2.2.2.2.2.2.1 k f)) ex).2.2.2.2.1)=[];rw[C ex (gX j)];exact this.eq_nil
  ·rw[wq];omega
  ·rw[qg g]
   show zd c i _ _ (aF (cH x (bq x.2.2.2.2.2.2.1 k f)) i) (lv I i ((aF (cH x (bq x.2.2.2.2.2.2.1 k f)) i).2.2.2.2.1)) _;by_cases q:i=k
   ·subst q
    rw[H,wq];refine((S _ (F i l g)).1 n).perm ?_;have:=rV (i:=i) (t:=(f (aF x i)).2.2.2.2.1) o
    rwa [Ls O P Q,show lv (cH x (bq x.2.2.2.2.2.2.1 i f)).2.2.2.2.2.1.2.1 i ((f (aF x i)).2.2.2.2.1)=[] from V] at this
   ·rw[C i q,qg q]
    exact(F i l g).perm (D i _ λr=>q (by omega))
  simp_all
 ·subst Y
  refine h.core (evs:=[]) ⟨h.q.made,l1,l2⟩ rfl rfl rfl bL rfl n (aj _) h.ch h.sn (.refl _) nofun tt nn (λq=>?_) λv W F=>⟨Un (Un v k (v k+d-0)) ex (v ex-d),λq=>?_,λi l g=>?_,?_⟩
  ·show lv x.2.2.2.2.2.1.2.1 ex ((aF (cH x (bq x.2.2.2.2.2.2.1 k f)) ex).2.2.2.2.1)=[]
   rw[C ex (gX j)];exact h.lx q
  ·rw[wq];have:=W q;omega
  ·rw[qg g]
   show zd c i _ N (aF (cH x (bq x.2.2.2.2.2.2.1 k f)) i) (lv x.2.2.2.2.2.1.2.1 i ((aF (cH x (bq x.2.2.2.2.2.2.1 k f)) i).2.2.2.2.1)) _;by_cases q:i=k
   ·subst q
    rw[H,wq,V,Int.sub_zero];exact(S _ (F i l g)).2 N n o
   ·rw[C i q,qg q]
    exact(F i l g).mono Z (al _) n (al _)
  ·have:=sm v 0
   show _+c.M*0<=_;omega
end
structure Kp(x y:Net):Prop where
 len:y.2.2.2.2.2.2.1.length=x.2.2.2.2.2.2.1.length
 w:y.2.2.2.2.2.1.2.2=x.2.2.2.2.2.1.2.2
 e:y.2.2.2.2.1<=x.2.2.2.2.1
variable{x:Net}
theorem Kp.id:Kp x x:=⟨rfl,rfl,al _⟩
theorem Kp.mod:Kp x (cH x (bq x.2.2.2.2.2.2.1 i f)):=⟨bL,rfl,al _⟩
theorem Kp.trans{z:Net}(a:Kp x y)(b:Kp y z):Kp x z:=⟨b.len.trans a.len,b.w.trans a.w,bX b.e a.e⟩
theorem qR.kp(p:qR x e y):Kp x y:=by
 obtain⟨a,f,rfl,_,_,⟨rfl,_⟩|⟨_,g,_⟩⟩:=p
 ·exact⟨rfl,rfl,al _⟩
 ·exact⟨rfl,rfl,g⟩
theorem oy.kp{k:Nat}(p:oy x y k j):Kp x y:=by
 obtain⟨a,b,n,f,l,e,rfl,_,_,_,_,_,g,_⟩:=p;exact⟨rfl,rfl,g⟩
variable{n:Node}
theorem jM:kh n=true↔2<=n.2.1/\n.2.1<=4:=decide_eq_true_iff
variable{B:Nat}{s:jv}
theorem Inv.weak{t K a:Nat}{f:Int}{ex:Nat}{b e:Int}(h:Inv c m s B t K τ ex b x)(hK:K<=a)(hτ:τ<=f)(g:e<=b):Inv c m s B t a f ex e x:=by
 obtain⟨v,l,n,o⟩:=h.vs;exact⟨h.q,h.mad,h.em,h.es,h.en,h.now,h.ee,h.hw,h.h3,h.hi,⟨h.ch.1.mono hK,h.ch.2.1.mono hK,aW h.ch.2.2 hK⟩,⟨aW h.sn.1 hK,h.sn.2⟩,λi j=>(h.nd i j).mono hτ,h.lx,⟨v,λq=>bX g (l q),n,o⟩⟩
section
variable {c:Mc} {m:ax} {s:jv} {B t K:Nat} {τ:Int} {ex:Nat} {b:Int} {x:Net} (E:Env c m s) (h:Inv c m s B t K τ ex b x)
include E h
theorem Inv.sw1{k:Nat}(D:ex<x.2.2.2.2.2.2.1.length)(o:k<x.2.2.2.2.2.2.1.length)(V:kh (aF x ex).1=true)(p:Sw1 k x y):Inv c m s B t K (τ+2) ex (b-(if k=ex then 0 else c.M+(c.n+1)*c.D)) y/\aF y ex=aF x ex/\Kp x y:=by
 have l:=E.ok;have N:=l.nn (i:=k) (e:=x.2.2.2.2.1) (t:=x.2.2.2.2.2.1.2.2+c.S);have F:Inv c m s B t K (τ+2) ex (b-(if k=ex then 0 else c.M+(c.n+1)*c.D)) x:=h.weak (aj _) (by omega) (by omega);rcases p with rfl|⟨on,a1,a2,p⟩
 ·exact⟨F,rfl,.id⟩
 have n:k≠ex:=λe=>by simp_all
 rcases p with ⟨_,rfl⟩|⟨g,p⟩
 ·exact⟨F,rfl,.id⟩
 rw[if_neg n];have j:=h.nd k o;rw[h.em] at g p;have A:=Qq g;have W:¬(2<=(aF x k).1.2.1/\(aF x k).1.2.1<=4):=λq=>by rw[jM.2 q] at a1;grind
 rcases p with ⟨rfl,rfl⟩|⟨rfl,p⟩
 ·have C:Ce m k (τ+2) (oR (ju m (aF x k).1 false).1 (aF x k)):=⟨BK j.yA g,(LF g).trans j.id,⟨by show 0<=(aF x k).2.2.2.2.1+1;have:=j.t;omega,by show(aF x k).2.2.2.2.1+1<=_;have:=j.t;omega⟩,j.c,j.l,j.d⟩
  refine⟨h.oth (f:=oR (ju m (aF x k).1 false).1) (d:=c.M+(c.n+1)*c.D) (by omega) (.inl D) o n (by omega) C (by show(aF x k).2.2.2.2.1<=(aF x k).2.2.2.2.1+1;omega) l λv r=>?_,gY (gX n),.mod⟩;rw[show lv x.2.2.2.2.2.1.2.1 k ((oR (ju m (aF x k).1 false).1 (aF x k)).2.2.2.2.1)=[] from h.none o (by show(aF x k).2.2.2.2.1<(aF x k).2.2.2.2.1+1;omega)];refine .off (.inl (A.2 rfl)) rfl ?_;cases r with
  | a_ a b d=>simp_all
  | beg t a e b s u p d=>simp_all
  | Ig t a e b p d=>exact absurd (jM.1 a) W
  | Gj a e s b u d=>
    have:=l.lm (i:=k) s;have:=l.t0 (e:=x.2.2.2.2.1) (t:=x.2.2.2.2.2.1.2.2) u;omega
  | Ih t a e s b u d=>
    have:=l.lm (i:=k) s;have:=l.td (e:=x.2.2.2.2.1) (t:=x.2.2.2.2.2.1.2.2) u;omega
  | off a b d=>omega
  | pow t a e b d=>omega
 ·have I:(cH x (bq x.2.2.2.2.2.2.1 k (oR (ju m (aF x k).1 true).1))).2.1=m:=h.em
  have J:aF (cH x (bq x.2.2.2.2.2.2.1 k (oR (ju m (aF x k).1 true).1))) k=oR (ju m (aF x k).1 true).1 (aF x k):=fh o;have s0:=a2.1 rfl;unfold RB at p;rw[J,I] at p;have H:cH (cH x (bq x.2.2.2.2.2.2.1 k (oR (ju m (aF x k).1 true).1))) (bq (cH x (bq x.2.2.2.2.2.2.1 k (oR (ju m (aF x k).1 true).1))).2.2.2.2.2.2.1 k (rh x.2.2.2.2.2.1.2.2))=cH x (bq x.2.2.2.2.2.2.1 k λy=>rh x.2.2.2.2.2.1.2.2 (oR (ju m (aF x k).1 true).1 y)):=congrArg (cH x) (mod_mod o);have p:qR (cH x (bq x.2.2.2.2.2.2.1 k λy=>rh x.2.2.2.2.2.1.2.2 (oR (ju m (aF x k).1 true).1 y))) (x.2.2.2.2.2.1.2.2+m.2.1,2,(k:Int),(aF x k).2.2.2.2.1+1+1) y:=by rw[<-H];exact p
  have C:Ce m k (τ+2) (rh x.2.2.2.2.2.1.2.2 (oR (ju m (aF x k).1 true).1 (aF x k))):=⟨BK j.yA g,(LF g).trans j.id,⟨by show 0<=(aF x k).2.2.2.2.1+1+1;have:=j.t;omega,by show(aF x k).2.2.2.2.1+1+1<=_;have:=j.t;omega⟩,j.c,j.l,j.d⟩;have O:=E.S;have Q:=l.S;have Y:=l.G;have Z:=l.L;have S:=l.W;have X:=l.D;have P:0<=c.S:=by rcases l.n with k|k|k|k|k<;>rw[k] at S<;>omega
  refine⟨h.mp (f:=λy=>rh x.2.2.2.2.2.1.2.2 (oR (ju m (aF x k).1 true).1 y)) (d:=c.M+(c.n+1)*c.D) (by omega) (.inl D) o n (by omega) C (by show(aF x k).2.2.2.2.1<=(aF x k).2.2.2.2.1+1+1;omega) (h.none o (by show(aF x k).2.2.2.2.1<(aF x k).2.2.2.2.1+1+1;omega)) l p (by simp_all) rfl rfl (by omega) λv r=>⟨λ_=>?_,λz z1 G=>?_⟩,?_,?_⟩
  ·refine .Ih _ (A.1 rfl).2 rfl (al _) rfl (by show x.2.2.2.2.2.1.2.2+m.2.1<=_;omega) ?_
   show c.VL k x.2.2.2.2.2.1.2.2+c.tT x.2.2.2.2.1 (x.2.2.2.2.2.1.2.2+m.2.1)<=_;rw[<-O];cases r with
   | a_ a b d=>simp_all
   | beg t a e b s u p d=>simp_all
   | Ig t a e b p d=>simp_all
   | Gj a e s b u d=>omega
   | Ih t a e s b u d=>omega
   | off a b d=>omega
   | pow t a e b d=>omega
  ·refine .Gj (A.1 rfl).2 rfl (al _) rfl (by have G:z<=x.2.2.2.2.2.1.2.2+m.2.1:=G;omega) ?_
   show c.VL k x.2.2.2.2.2.1.2.2<=_;cases r with
   | a_ a b d=>simp_all
   | beg t a e b s u p d=>simp_all
   | Ig t a e b p d=>simp_all
   | Gj a e s b u d=>omega
   | Ih t a e s b u d=>omega
   | off a b d=>omega
   | pow t a e b d=>omega
  ·rw[qR.aF p,gY (gX n)]
  ·exact Kp.mod.trans p.kp
end
def UF(ex:Nat)(C:Int):Nat->Nat->Int
 | 0,_=>0
 | f+1,k=>(if k=ex then 0 else C)+UF ex C f (k+1)
theorem R5{ex:Nat}{C:Int}:∀{f k:Nat},UF ex C f k=C*(f:Int)-(if k<=ex/\ex<k+f then C else 0)
 | 0,k=>by rw[UF,if_neg (by omega)];omega
 | f+1,k=>by
   rw[UF,R5,show((f+1:Nat):Int)=(f:Int)+1 from by omega,Int.mul_add,Int.mul_one];omega
section
variable {c:Mc} {m:ax} {s:jv} {B t K:Nat} (E:Env c m s)
include E
theorem Inv.sws:∀{f k:Nat} {τ:Int} {ex:Nat} {b:Int} {x y:Net},Inv c m s B t K τ ex b x->ex<x.2.2.2.2.2.2.1.length->k+f<=x.2.2.2.2.2.2.1.length->kh (aF x ex).1=true->O5 f k x y->Inv c m s B t K (τ+2*(f:Int)) ex (b-UF ex (c.M+(c.n+1)*c.D) f k) y/\aF y ex=aF x ex/\Kp x y
 | 0,k,τ,ex,b,x,y,h,hx,hk,hi,p=>by
   rw[show y=x from p];refine⟨h.weak (aj _) (by omega) ?_,rfl,.id⟩;show b-0<=b;omega
 | f+1,k,τ,ex,b,x,y,h,hx,hk,hi,⟨z,p,q⟩=>by
   obtain⟨a,g,l1⟩:=h.sw1 E hx (by omega) hi p;obtain⟨e,j,l2⟩:=Inv.sws (f:=f) (k:=k+1) a (by have:=l1.len;omega) (by have:=l1.len;omega) (by simp_all) q;refine⟨e.weak (aj _) (by omega) ?_,j.trans g,l1.trans l2⟩;rw[UF];omega
end
section
variable {c:Mc} {m:ax} {s:jv} {B t K:Nat} {τ:Int} {i:Nat} {b:Int} {x:Net} (E:Env c m s) (h:Inv c m s B t K τ i b x)
include E h
theorem Inv.swt(n:i<x.2.2.2.2.2.2.1.length)(g:kh (aF x i).1=true)(p:Swt x i y):∃a,Inv c m s B t K (τ+16) i a y/\aF y i=aF x i/\Kp x y/\(a=b\/(aF x i).2.2.2.2.2.2.1=true/\(aF x i).1.2.1=4/\a=b-c.R):=by
 have l:=h.en;have f:=E.n;rcases p with rfl|⟨a1,a2,p⟩
 ·exact⟨b,h.weak (aj _) (by omega) (al _),rfl,.id,.inl rfl⟩
 ·obtain⟨j,o,l1⟩:=Inv.sws E h n (by omega) g p
  refine⟨_,j.weak (aj _) (by have:=wT E.ml;omega) (al _),o,l1,.inr ⟨a1,a2,?_⟩⟩;rw[R5,if_pos (by omega),l,<-f];have e:c.R=(c.n-1)*(c.M+(c.n+1)*c.D):=rfl
  grind
theorem Inv.her(n:i<x.2.2.2.2.2.2.1.length)(j:kh (aF x i).1=true)(p:V5 x i y):Inv c m s B t K τ i b y/\Kp x y/\kh (aF y i).1=true/\((aF y i).1.2.1=(aF x i).1.2.1\/(aF x i).1.2.1=4/\(aF y i).1.2.1=3)/\(aF y i).1.2.2.1.2.1=(aF x i).1.2.2.1.2.1/\(aF y i).2.1.1=(aF x i).2.1.1/\(aF y i).2.1.2.1=(aF x i).2.1.2.1/\(aF y i).2.2=(aF x i).2.2:=by
 have _:=E;rcases p with rfl|⟨l,cl,g,⟨c1,c2,c3⟩,rfl⟩
 ·exact⟨h,.id,j,.inl rfl,rfl,rfl,rfl,rfl⟩
 ·rw[h.em] at g ⊢
  obtain⟨r,q,e⟩:=ak5 g;have a:=h.nd i n;have o:Ce m i τ (akh (ot m (aF x i).1 l).1 cl (aF x i)):=⟨Tt a.yA g,(ak4 g).trans a.id,a.t,by show 0<=cl.1/\cl.1<=_;rw[c1];exact a.c,by show 0<=cl.2.1;rw[c2];exact a.l,c3 a.d⟩;rw[fh n];refine⟨h.mod (f:=akh (ot m (aF x i).1 l).1 cl) n (al _) o (al _),.mod,?_,e,q,c1,c2,rfl⟩;refine jM.2 ?_;have:=jM.1 j;rcases e with e|⟨_,e⟩
  ·show 2<=(ot m (aF x i).1 l).1.2.1/\(ot m (aF x i).1 l).1.2.1<=4;rw[e];exact this
  ·show 2<=(ot m (aF x i).1 l).1.2.1/\(ot m (aF x i).1 l).1.2.1<=4;rw[e];omega
theorem Inv.awe{l:List ny}(a:l.length<=K+1)(e:∀z∈l,cZ m z.2=0):Inv c m s B t (K+1) τ i b (Vx x l):=
 have _:=E
 h.core (evs:=[]) ⟨h.q.made,h.q.len,h.q.heap⟩ rfl rfl rfl rfl rfl (al _) (aj _) ⟨h.ch.1.mono (iX _),h.ch.2.1.mono (iX _),aW h.ch.2.2 (iX _)⟩ ⟨a,e⟩ (.refl _) nofun (λ_ _=>al _) h.nd h.lx λv f g=>⟨v,f,g,by show _+c.M*0<=_;omega⟩
end
theorem N4{n:Int}(g:4<=n)(j:0<=q):(q%n+1=n↔(q+1)%n=0)/\(q+1)%n=if q%n+1=n then 0 else q%n+1:=by
 have a:=jS q (b:=n) (by omega);have b:=mD q (b:=n) (by omega);have e:(q+1)%n=(q%n+1)%n:=by simp_all
 by_cases k:q%n+1=n
 ·simp_all
 ·have f:(q%n+1)%n=q%n+1:=ng (by omega) (by omega)
  omega
section
variable {c:Mc} {m:ax} {s:jv} {B t K:Nat} {τ:Int} {i:Nat} {b:Int} {x:Net} (E:Env c m s) (h:Inv c m s B t K τ i b x)
include E h
theorem Inv.ev2(j:i<x.2.2.2.2.2.2.1.length)(o:kh (aF x i).1=true)(W:(aF x i).2.2.2.2.2.2.2=false)(X:(aF x i).1.2.2.1.2.1=(aF x i).2.1.2.1%c.n)(D:0<=b)
  (Y:∀v sl t',E6 m (aF x i).2.1 t' (v,sl)->v<=c.E->(bif decide ((aF x i).1.2.1=4) then c.VA i v (c.W*(sl.1%c.n)) else c.VP i v (sl.1%c.n))+c.tT x.2.2.2.2.1 (x.2.2.2.2.2.1.2.2+c.S)<=b-c.M) (p:Ev2 x i y):Inv c m s B t (K+1) τ x.2.2.2.2.2.2.1.length 0 y:=by
 have a:=h.nd i j;rcases p with ⟨rfl,p|p⟩|⟨_,g,p⟩
 ·simp_all
 ·exact(h.cl E.ok j (.a_ o rfl D)).weak (iX _) (al _) (al _)
 ·rw[h.em] at g p
  obtain⟨_,J,Q⟩:=ajZ a.yA o;have e:kh (jq m (aF x i).1).1=true:=by rw[jM,J];exact jM.1 o
  rcases p with rfl|⟨d,cl,H,N,s1,s2,p⟩
  ·have G:Ce m i τ (edY (jq m (aF x i).1).1 (aF x i)):=⟨EI a.yA g,(XP g).trans a.id,a.t,a.c,a.l,a.d⟩
   have C:=h.mod (f:=edY (jq m (aF x i).1).1) j (al _) G (al _);have l1:(cH x (bq x.2.2.2.2.2.2.1 i (edY (jq m (aF x i).1).1))).2.2.2.2.2.2.1.length=x.2.2.2.2.2.2.1.length:=bL;have:=C.cl E.ok (by omega) (.a_ (by rw[fh j];exact e) rfl D);rw[l1] at this;exact this.weak (iX _) (al _) (al _)
  ·have V:=wT E.ml
   obtain⟨I,O,P,b4⟩:=(AN (by omega)).1 N.ck';have G:Ce m i τ (ZU (jq m (aF x i).1).1 cl (aF x i)):=⟨EI a.yA g,(XP g).trans a.id,a.t,⟨I.1,by have:=I.2;show cl.1<=_;omega⟩,O.1,P⟩;have C:=h.mod (f:=ZU (jq m (aF x i).1).1 cl) j (al _) G (al _);have l1:(cH x (bq x.2.2.2.2.2.2.1 i (ZU (jq m (aF x i).1).1 cl))).2.2.2.2.2.2.1.length=x.2.2.2.2.2.2.1.length:=bL;have S:=C.awe E (l:=H) (aW s1 (Nat.succ_le_succ h.sn.1)) λz r=>by
    rcases s2 z r with r|r
    ·exact h.sn.2 z r
    ·rw[r];exact EI a.yA g
   have A:aF (Vx (cH x (bq x.2.2.2.2.2.2.1 i (ZU (jq m (aF x i).1).1 cl))) H) i=ZU (jq m (aF x i).1).1 cl (aF x i):=fh j;have F:=E.n;have Z:=N4 (n:=c.n) (q:=(aF x i).2.1.2.1) (by omega) a.l;have u:(jq m (aF x i).1).1.2.2.1.2.1=cl.2.1%c.n:=by
    rw[Q,N.sl,Z.2,X,F]
   have:=S.cp E.ok (y:=y) (by rw[<-l1] at j;exact j) p (by grind) rfl (by rw[A];rfl) (by show x.2.2.2.2.2.1.2.2<=vn x cl.1;unfold vn;omega) (λq=>?_) λz z1 z2=>?_
   ·rw[show(Vx (cH x (bq x.2.2.2.2.2.2.1 i (ZU (jq m (aF x i).1).1 cl))) H).2.2.2.2.2.2.1.length=x.2.2.2.2.2.2.1.length from l1] at this
    omega
   ·have q:vn x cl.1<=x.2.2.2.2.1:=q
    have q2:cl.1<=vn x cl.1:=by unfold vn;omega
    have hE:=h.ee;rw[A];refine .beg _ e W rfl q2 (by omega) u ?_;show(bif decide ((jq m (aF x i).1).1.2.1=4) then c.VA i cl.1 (c.W*(cl.2.1%c.n)) else c.VP i cl.1 (jq m (aF x i).1).1.2.2.1.2.1)+_<=_;rw[u,J];exact Y cl.1 cl.2 d N (by omega)
   ·rw[A]
    exact .a_ e rfl D
end
theorem Env.nxt(E:Env c m s){k r:qj}(N:E6 m k d r)(g:0<=k.2.1):(r.2.1%c.n=0/\c.W*(k.2.1%c.n)=c.W*(c.n-1)/\c.W*(r.2.1%c.n)=0/\k.1+c.S-c.D-c.W<=r.1)\/(r.2.1%c.n≠0/\c.W*(r.2.1%c.n)=c.W*(k.2.1%c.n)+c.W/\0<=c.W*(k.2.1%c.n)/\k.1+c.S-c.D<=r.1):=by
 have A:=wT E.ml;have j:=E.n;have f:=N4 (n:=c.n) (q:=k.2.1) (by omega) g;have z:=E.W;have y:=E.S;have v:=E.D;have u:=N.dr;rw[N.sl,f.2];rcases N.st with ⟨a,l,o⟩|⟨a,b⟩
 ·grind
 ·rw[<-j] at a
  have e:¬k.2.1%c.n+1=c.n:=λq=>a (f.1.1 q);have p:=jS k.2.1 (b:=c.n) (by omega);exact .inr ⟨by omega,by grind,gl (by omega) p,by omega⟩
theorem YP{y:cr}:(y1 y).1=y.1:=rfl
theorem aoa{y:cr}:(y1 y).2.2.2.2.2.2=y.2.2.2.2.2.2:=rfl
theorem akc{y:cr}:(y1 y).2.1=y.2.1:=rfl
theorem Env.evv(E:Env c m s){y z:cr}{b f X Y:Int}(H:0<=y.2.1.2.1)(d:(bif decide (y.1.2.1=4) then c.O6 i y.2.1.1 (c.W*(y.2.1.2.1%c.n)) y.2.2.2.2.2.2.1 else c.O7 i y.2.1.1)+X<=b)(C:0<=Y/\Y<=X)(c1:z.2.1.1=y.2.1.1)(j:z.2.1.2.1=y.2.1.2.1)(sz:z.1.2.1=y.1.2.1\/y.1.2.1=4/\z.1.2.1=3)(o:f=b\/y.2.2.2.2.2.2.1=true/\z.1.2.1=4/\f=b-c.R):
  0<=f/\∀{r:qj} {n:Int},E6 m z.2.1 n r->r.1<=c.E->(bif decide (z.1.2.1=4) then c.VA i r.1 (c.W*(r.2.1%c.n)) else c.VP i r.1 (r.2.1%c.n))+Y<=f-c.M:=by
 have a:=E.ok;have p:=a.nn (i:=i) (e:=0) (t:=0);refine⟨?_,λ{r n} N l=>?_⟩
 ·have na:=a.na (i:=i) (st:=y.2.1.1) (om:=c.W*(y.2.1.2.1%c.n)) (b:=false)
  have v:c.O6 i y.2.1.1 (c.W*(y.2.1.2.1%c.n)) true=c.O6 i y.2.1.1 (c.W*(y.2.1.2.1%c.n)) false+c.R:=by
   show _+c.R=_+0+c.R;omega
  rcases o with rfl|⟨F,G,rfl⟩
  ·have D:=a.na (i:=i) (st:=y.2.1.1) (om:=c.W*(y.2.1.2.1%c.n)) (b:=y.2.2.2.2.2.2.1)
   grind
  grind
 ·have X:=E.nxt N (by omega)
  rw[c1,j] at X;by_cases k:y.1.2.1=4
  ·rw[dn k,cond_true] at d
   have A:=a.a2 (i:=i) (b:=y.2.2.2.2.2.2.1) l (X.imp (λz=>z.2) λz=>z.2);have u:0<=(bif y.2.2.2.2.2.2.1 then c.R else 0):=by grind
   by_cases g:z.1.2.1=4
   ·grind
   ·rw[gj g,cond_false]
    have P:=a.pa (i:=i) (st:=r.1) (om:=c.W*(r.2.1%c.n)) (q:=r.2.1%c.n) (by have:=a.nw.1;omega);omega
  ·have g:¬z.1.2.1=4:=by omega
   rw[gj k,cond_false] at d;rw[gj g,cond_false];have A:=a.p2 (i:=i) (st:=y.2.1.1) l (q:=r.2.1%c.n) (X.imp (λz=>⟨z.1,z.2.2.2⟩) λz=>⟨z.1,z.2.2.2⟩);omega
section
variable {c:Mc} {m:ax} {s:jv} {B t K:Nat} {τ:Int} {i:Nat} {b:Int} {x:Net} (E:Env c m s) (h:Inv c m s B t K τ i b x)
include E h
theorem Inv.Ig(F:i<x.2.2.2.2.2.2.1.length)(he:e.2.1=1)(V:zd c i x.2.2.2.2.2.1.2.2 x.2.2.2.2.1 (aF x i) [e] b)(p:Evl x i y):Inv c m s B t (K+1) (τ+16) x.2.2.2.2.2.2.1.length 0 y:=by
 have D:=E.ok;cases V with
 | a_ a q d=>cases q
 | beg t a e q s u p d=>simp_all
 | Gj a e s q u d=>cases q
 | Ih t a e s q u d=>simp_all
 | off a q d=>cases q
 | pow t a e q d=>simp_all
 | Ig t a f q hp d=>
   rcases p with ⟨k,_⟩|⟨_,u,w,Z,_,pw,p⟩
   ·simp_all
   ·obtain⟨C,l1,i1,a4,X,c1,a3,G⟩:=h.her E F a Z
    have g:i<u.2.2.2.2.2.2.1.length:=by have:=l1.len;omega
    have W:Ce m i τ (y1 (aF u i)):=by
     have:=C.nd i g;exact⟨this.yA,this.id,this.t,this.c,this.l,this.d⟩
    have P:=C.mod (f:=y1) g (al _) W (al _);have n:aF (cH u (bq u.2.2.2.2.2.2.1 i y1)) i=y1 (aF u i):=fh g;have l2:Kp u (cH u (bq u.2.2.2.2.2.2.1 i y1)):=.mod;obtain⟨b',Q,O,l3,v⟩:=P.swt E (by rw[l2.len];omega) (by rw[n,YP];omega) pw;have l:aF w i=y1 (aF u i):=O.trans n;have L:=(l1.trans l2).trans l3;have T:=D.tm (e:=x.2.2.2.2.1) (t:=x.2.2.2.2.2.1.2.2+c.S) (e':=w.2.2.2.2.1) (t':=w.2.2.2.2.2.1.2.2+c.S) L.e (by have:=L.w;omega);rw[n] at v;have wz:(y1 (aF u i)).2.2.2.2.2.2.1=(aF x i).2.2.2.2.2.2.1:=by rw[aoa,G]
    have sz:(y1 (aF u i)).1.2.1=(aF x i).1.2.1\/(aF x i).1.2.1=4/\(y1 (aF u i)).1.2.1=3:=by rw[YP];omega
    rw[wz] at v;obtain⟨J,o⟩:=E.evv (z:=y1 (aF u i)) (Y:=c.tT w.2.2.2.2.1 (w.2.2.2.2.2.1.2.2+c.S)) (h.nd i F).l d ⟨(D.nn (i:=i) (e:=w.2.2.2.2.1) (t:=w.2.2.2.2.2.1.2.2+c.S)).2.1,T⟩ (by rw[akc];omega) (by rw[akc];omega) sz v;have A:(aF u i).1.2.2.1.2.1=(aF u i).2.1.2.1%c.n:=by simp_all
    have j:=Q.ev2 E (by rw[l3.len,l2.len];omega) (by rw[l,YP];omega) (by rw[l,aoa,G];exact f) (by rw[l,YP,akc];exact A) J (λH sl t' N S=>by
     rw[l] at N ⊢;have I:E6 m (y1 (aF u i)).2.1 t' (H,sl):=N;have z:=o (r:=(H,sl)) I S;exact z) p
    rw[L.len] at j;exact j
end
theorem afo{p:Kt}{l:List fS}(n:p.a0=l)(y:p.a1=(l.length:Int))(u:p.M9=q)(z:l.length<=1000000):∀(f i:Nat),l.length-i<=f->Go (Ez af) (Ez af (.c0 p (i:Int))) λr=>r.2=true->r.1.1=10->r.1.2.2.2.2.1=q:=by
 intro f
 induction f with
 | zero=>intro i o;exact bT (λg=>absurd g (by omega)) λ_=>aD nofun
 | succ f ih=>
   intro i o;refine bT (λg=>?_) λ_=>aD nofun
   have j:Go (Ez af) (.ao (.c0 p (af.c_ (i:Int) 1))) λr=>r.2=true->r.1.1=10->r.1.2.2.2.2.1=q:=by
    rw[dG (by omega),show(i:Int)+1=((i+1:Nat):Int) from by omega];exact aZ (ih (i+1) (by omega))
   have v:∀k:Int,NL k=false->k≠10:=λk a b=>by
    subst b;exact absurd (a.symm.trans (show NL 10=true by rfl)) (by decide)
   refine ah (by rw[n];exact da (l:=l) (by omega)) (dw (λ_=>dw (λe=>dw (λ_=>dw (λ_=>aD λ_ _=>e.trans u) λ_=>j) λ_=>j) λ_=>du (λa=>dw (λ_=>dw (λ_=>aD λ_ k=>absurd k (v _ a)) λ_=>j) λ_=>j) λ_=>j) λ_=>j)
variable{v:(Bool×ax×jv×Unit)×(Int×Int×fq)}
theorem akf(C:∀f∈v.1.2.2.1.2.2.2.2.2.2.2,f.1=10->f.2.2.2.2.1≠f.2.1)(g:v.1.2.2.1.2.2.2.2.2.2.2.length<=1000000)(p:v.2.1=10)(D:v.2.2.1=v.2.2.2.2.1):(eH v).2=false:=by
 obtain⟨F,y⟩:=ub g;obtain⟨⟨r,u,j,⟨⟩⟩,k,n,o⟩:=v;have g:j.2.2.2.2.2.2.2.length<=1000000:=g;have A:=(jA (s:=Ez af) (t:=ab5 af r u j k n o) (d:=(Ty.aS [eZ,.bool])) (ah (dn (by omega)) (aZ (afo (l:=j.2.2.2.2.2.2.2) (q:=o.2.1) rfl rfl rfl g _ 0 (aj _))))).2;cases e:(eH ((r,u,j,()),k,n,o)).2
 ·rfl
 ·obtain⟨a,b,d⟩:=y e
  have z:=A e (b.trans p);exact absurd (z.trans (D.symm.trans d.symm)) (C _ a (b.trans p))
theorem Y9{k:Node}(p:Up m n k)(h:cZ m n=0):cZ m k=0/\k.1=n.1/\k.2.1=n.2.1/\k.2.2.1=n.2.2.1:=by
 induction p with
 | rfl=>simp_all
 | step _ g ih=>
   obtain⟨a1,a2,a,e⟩:=ih;have s:=akp g;exact⟨aem a1 g,(ako g).trans a2,s.1.trans a,s.2.trans e⟩
section
variable {c:Mc} {m:ax} {s:jv} {B t K:Nat} {τ:Int} {i:Nat} {b:Int} {x:Net} (E:Env c m s) (h:Inv c m s B t K τ i b x)
include E h
theorem Inv.om(j:i<x.2.2.2.2.2.2.1.length):0<=c.W*((aF x i).2.1.2.1%c.n)/\c.W*((aF x i).2.1.2.1%c.n)<=c.W*(c.n-1):=by
 have _:=h;have f:=wT E.ml;have g:=E.n;have e:=E.W;have a:=jS ((aF x i).2.1.2.1) (b:=c.n) (by omega);have b:=mD ((aF x i).2.1.2.1) (b:=c.n) (by omega);exact⟨gl (by omega) a,fN (by omega) (by omega)⟩
theorem Inv.Gj(l:i<x.2.2.2.2.2.2.1.length)(u:f (aF x i)=rh x.2.2.2.2.2.1.2.2 (n,(aF x i).2.1,(f (aF x i)).2.2.1,(aF x i).2.2.2.1,(f (aF x i)).2.2.2.2.1-1,(f (aF x i)).2.2.2.2.2))(Q:cZ m n=0)(v:n.1=(i:Int))(H:n.2.1=1)(C:(f (aF x i)).2.2.2.2.2.2.2=false)(I:(aF x i).2.2.2.2.1<=(f (aF x i)).2.2.2.2.1/\(f (aF x i)).2.2.2.2.1<=(aF x i).2.2.2.2.1+2)(G:c.VL i x.2.2.2.2.2.1.2.2+c.tT x.2.2.2.2.1 (x.2.2.2.2.2.1.2.2+c.S)<=b-c.M)(p:qR (cH x (bq x.2.2.2.2.2.2.1 i f)) (x.2.2.2.2.2.1.2.2+m.2.1,2,(i:Int),(f (aF x i)).2.2.2.2.1) y):Inv c m s B t K (τ+2) x.2.2.2.2.2.2.1.length 0 y:=by
 have r:=E.ok;have j:=h.nd i l;have q:=E.S;have P:=wT E.ml;have O:=r.D;have N:=r.nn (i:=i) (e:=x.2.2.2.2.1) (t:=x.2.2.2.2.2.1.2.2+c.S);have fn:(f (aF x i)).1=n:=by rw[u];rfl
 have A:(f (aF x i)).1.2.1=1:=by rw[fn];exact H
 have fc:(f (aF x i)).2.1=(aF x i).2.1:=by rw[u];rfl
 have g:(f (aF x i)).2.2.2.1=x.2.2.2.2.2.1.2.2:=by rw[u];rfl
 have J:Ce m i (τ+2) (f (aF x i)):=⟨by grind,by rw[fn];exact v,by have:=j.t;omega,by rw[fc];exact j.c,by rw[fc];exact j.l,by rw[fc];exact j.d⟩;have F:=h.mod (f:=f) l (by omega) J I.1;have o:aF (cH x (bq x.2.2.2.2.2.2.1 i f)) i=f (aF x i):=fh l;have l1:(cH x (bq x.2.2.2.2.2.2.1 i f)).2.2.2.2.2.2.1.length=x.2.2.2.2.2.2.1.length:=bL;have a:=F.cp r (by rw[l1];exact l) p (by show ¬(2:Int)=3;decide) rfl (by rw[o]) (by show x.2.2.2.2.2.1.2.2<=x.2.2.2.2.2.1.2.2+m.2.1;omega) (λ_=>?_) λz S D=>?_
 ·rw[l1] at a;exact a
 ·rw[o]
  refine .Ih _ A C (by rw[g];exact al _) rfl (by show x.2.2.2.2.2.1.2.2+m.2.1<=x.2.2.2.2.2.1.2.2+_+_;omega) ?_;rw[g,<-q];exact G
 ·rw[o]
  refine .Gj A C (by rw[g];exact al _) rfl (by have D:z<=x.2.2.2.2.2.1.2.2+m.2.1:=D;show z<=x.2.2.2.2.2.1.2.2+_+_;omega) ?_;rw[g];omega
theorem Inv.bgn(C:i<x.2.2.2.2.2.2.1.length)(he:e.2.1≠1/\e.2.1≠2/\e.2.1≠5)(hw:e.1=x.2.2.2.2.2.1.2.2)(hv:zd c i x.2.2.2.2.2.1.2.2 x.2.2.2.2.1 (aF x i) [e] b)(p:Bgn x i y):Inv c m s B t (K+9) (τ+2) x.2.2.2.2.2.2.1.length 0 y:=by
 have o:=E.ok;have j:=h.nd i C;have om:=h.om E C;cases hv with
 | a_ a q d=>cases q
 | Ig t a f q p d=>injection q with q _;subst q;exact absurd rfl he.1
 | Gj a e s q u d=>cases q
 | Ih t a e s q u d=>injection q with q _;subst q;exact absurd rfl he.2.1
 | off a q d=>cases q
 | pow t a e q d=>injection q with q _;subst q;exact absurd rfl he.2.2
 | beg t a f q sx u hp d=>
   injection q with q _;have av:t=x.2.2.2.2.2.1.2.2:=by rw[<-hw,q]
   subst av;have D:(aF x i).2.1.1<=c.E:=bX sx u;have M0:=o.nn (i:=i) (e:=x.2.2.2.2.1) (t:=x.2.2.2.2.2.1.2.2+c.S);have pa:=o.pa (i:=i) (st:=(aF x i).2.1.1) (q:=(aF x i).1.2.2.1.2.1) om.1;have p4:=o.p4 (i:=i) (t:=x.2.2.2.2.2.1.2.2) (q:=(aF x i).1.2.2.1.2.1) D sx;have L0:=(o.nn (i:=i) (e:=x.2.2.2.2.1) (t:=x.2.2.2.2.2.1.2.2)).2.2.1;have vp:c.VP i ((aF x i).2.1.1) ((aF x i).1.2.2.1.2.1)+c.tT x.2.2.2.2.1 (x.2.2.2.2.2.1.2.2+c.S)<=b:=by
    cases k:decide ((aF x i).1.2.1=4)<;>rw[k] at d<;>simp only[cond_true,cond_false] at d<;>omega
   have wk:∀{z:Net} {P:Nat} {τ':Int},P<=K+9->τ'<=τ+2->z.2.2.2.2.2.2.1.length=x.2.2.2.2.2.2.1.length->Inv c m s B t P τ' z.2.2.2.2.2.2.1.length 0 z->Inv c m s B t (K+9) (τ+2) x.2.2.2.2.2.2.1.length 0 z:=λk1 k2 l g=>by rw[<-l];exact g.weak k1 k2 (al _)
   rcases p with ⟨k,_⟩|⟨_,rfl|p|⟨n,hn,p⟩⟩
   ·rw[a] at k;cases k
   ·have nb:Ce m i τ (ovY (aF x i)):=⟨j.yA,j.id,j.t,j.c,j.l,j.d⟩
    have h1:=h.mod (f:=ovY) C (al _) nb (al _);exact wk (by omega) (by omega) bL (h1.cl o (by rw[show(cH x (bq x.2.2.2.2.2.2.1 i ovY)).2.2.2.2.2.2.1.length=x.2.2.2.2.2.2.1.length from bL];exact C) (.a_ (by rw[fh C];exact a) rfl (by omega)))
   ·rcases p with ⟨_,rfl⟩|⟨g,⟨_,rfl⟩|⟨k,_⟩⟩
    ·exact wk (by omega) (by omega) rfl (h.cl o C (.a_ a rfl (by omega)))
    ·rw[h.em] at g ⊢
     have nb:Ce m i (τ+2) (oR (ju m (aF x i).1 false).1 (aF x i)):=⟨BK j.yA g,(LF g).trans j.id,⟨by show 0<=(aF x i).2.2.2.2.1+1;have:=j.t;omega,by show(aF x i).2.2.2.2.1+1<=_;have:=j.t;omega⟩,j.c,j.l,j.d⟩;have h1:=h.mod (f:=oR (ju m (aF x i).1 false).1) C (by omega) nb (by show(aF x i).2.2.2.2.1<=(aF x i).2.2.2.2.1+1;omega);exact wk (by omega) (by omega) bL (h1.cl o (by rw[show(cH x (bq x.2.2.2.2.2.2.1 i (oR (ju m (aF x i).1 false).1))).2.2.2.2.2.2.1.length=x.2.2.2.2.2.2.1.length from bL];exact C) (.off (.inl (by rw[fh C];exact(Qq g).2 rfl)) rfl (by show c.VL i x.2.2.2.2.2.1.2.2+c.tT x.2.2.2.2.1 (x.2.2.2.2.2.1.2.2+c.S)<=b;omega)))
    ·cases k
   ·rw[h.em] at hn
    obtain⟨n1,n2,n3,n4⟩:=Y9 hn j.yA;have nb:Ce m i τ (O0 (aF x i)):=⟨j.yA,j.id,j.t,j.c,j.l,j.d⟩;have h1:Inv c m s B t K τ i b (yc x i):=h.mod (f:=O0) C (al _) nb (al _);have lw:Kp x (yc x i):=.mod;have ew:aF (yc x i) i=O0 (aF x i):=fh C;have b1:Ce m i τ (gD n (aF (yc x i) i)):=by rw[ew];exact⟨n1,n2.trans j.id,j.t,j.c,j.l,j.d⟩
    have h2:=Inv.mod (f:=gD n) h1 (by rw[lw.len];exact C) (al _) b1 (by rw[ew];exact al _);have lz:Kp x (NU x i n):=lw.trans .mod;have ez:aF (NU x i n) i=gD n (O0 (aF x i)):=by rw[<-ew];exact fh (by rw[lw.len];exact C)
    have h2:Inv c m s B t K τ i b (NU x i n):=h2;generalize NU x i n=z at *;have aa:i<z.2.2.2.2.2.2.1.length:=by rw[lz.len];exact C
    obtain⟨u,pd,p⟩:=p;have b8:(aF z i).1.2.1=(aF x i).1.2.1:=by rw[ez];exact n3
    have H:(aF z i).1.2.2.1.2.1=(aF x i).1.2.2.1.2.1:=by rw[ez];exact congrArg (λz:fq=>z.2.1) n4
    have a4:kh ((aF z i).1)=true:=by rw[ez];exact jM.2 (by show 2<=n.2.1/\n.2.1<=4;rw[n3];exact jM.1 a)
    have O:(aF z i).2.1=(aF x i).2.1/\(aF z i).2.2.2.2.2.2.2=false/\(aF z i).2.2.2.2.2.2.1=((aF x i).1.2.1==4):=by rw[ez];exact⟨rfl,f,rfl⟩
    -- what a node that goes on needs
    have go:∀{r:Net} {P:Nat} {T:Int} {y':Net} {b':Int},P<=K+9->Inv c m s B t P τ i b' r->Kp x r->aF r i=aF z i->3*c.M+c.tT x.2.2.2.2.1 (x.2.2.2.2.2.1.2.2+c.S)+(bif decide ((aF x i).1.2.1=4) then c.O6 i ((aF x i).2.1.1) (c.W*((aF x i).2.1.2.1%c.n)) ((aF z i).2.2.2.2.2.2.1) else c.O7 i ((aF x i).2.1.1))<=b'+2*c.M->r.2.2.2.2.2.1.2.2<=T->qR r (T,1,(i:Int),(aF r i).2.2.2.2.1) y'->Inv c m s B t (K+9) (τ+2) x.2.2.2.2.2.2.1.length 0 y':=λ{r P T y' b'} hK hr J er hb hT I=>by
     have T1:=o.tm (e:=x.2.2.2.2.1) (t:=x.2.2.2.2.2.1.2.2+c.S) (e':=r.2.2.2.2.1) (t':=r.2.2.2.2.2.1.2.2+c.S) J.e (by have:=J.w;omega);have W:i<r.2.2.2.2.2.2.1.length:=by rw[J.len];exact C
     refine @wk _ P τ hK (by omega) (I.kp.len.trans J.len) ?_;have G:=hr.cp o W I (by show ¬(1:Int)=3;decide) rfl rfl hT (λ_=>?_) λz' z1 z2=>?_
     ·rw[I.kp.len];exact G
     ·rw[er]
      refine .Ig _ a4 O.2.1 rfl (by rw[H,O.1];exact hp) ?_;rw[b8,O.1];omega
     ·rw[er]
      refine .a_ a4 rfl ?_;have na:=o.na (i:=i) (st:=(aF x i).2.1.1) (om:=c.W*((aF x i).2.1.2.1%c.n)) (b:=(aF z i).2.2.2.2.2.2.1);cases k:decide ((aF x i).1.2.1=4)<;>rw[k] at hb<;>simp only[cond_true,cond_false] at hb<;>omega
    have base:3*c.M+c.tT x.2.2.2.2.1 (x.2.2.2.2.2.1.2.2+c.S)+(bif decide ((aF x i).1.2.1=4) then c.O6 i ((aF x i).2.1.1) (c.W*((aF x i).2.1.2.1%c.n)) ((aF z i).2.2.2.2.2.2.1) else c.O7 i ((aF x i).2.1.1))<=b:=by
     have a1:=o.a1 (i:=i) (b:=(aF z i).2.2.2.2.2.2.1) D om.1;have p1:=o.p1 (i:=i) (q:=(aF x i).1.2.2.1.2.1) D;cases k:decide ((aF x i).1.2.1=4)<;>rw[k] at d<;>simp only[cond_true,cond_false] at d ⊢ <;> omega
    have mx:∀(r:Net) (T:Int),r.2.2.2.2.2.1.2.2<=vn r T:=λr T=>by unfold vn;split<;>omega
    rcases p with ⟨own,r,ps,p⟩|⟨_,p⟩
    ·have a0:(aF x i).1.2.2.1.2.1=(i:Int):=by rw[<-H];exact own
     have V:(eH (kv z (),10,(i:Int),(aF z i).1.2.2.1)).2=false:=by
      refine akf ?_ ?_ rfl ?_
      ·show ∀f∈z.2.2.1.2.2.2.2.2.2.2,_
       rw[h2.es];exact λf hf=>(EJ (E.fm f hf)).2.2
      ·show(z.2.2.1).2.2.2.2.2.2.2.length<=_
       rw[h2.es];exact E.fl
      ·show(i:Int)=(aF z i).1.2.2.1.2.1
       rw[H,a0]
     have Y:oy z u 6 1:=pd.2 V;have S:=h2.XO o aa Y;have N:Kp x u:=lz.trans Y.kp;have F:i<u.2.2.2.2.2.2.1.length:=by rw[N.len];exact C
     have Q:aF u i=aF z i:=Y.aF i;have A:=S.nd i F;have ou:cZ m (aF u i).1=0:=A.yA;have v:(rm m (aF u i).1).2.2.2=0:=aeJ ou (by rw[Q];exact a4) (by rw[A.id,Q];exact(H.trans a0));unfold RQ at ps;rw[S.em] at ps;dsimp only at ps;rcases ps with ⟨k,_⟩|⟨_,w,pw,I⟩
     ·exact absurd v k
     have st:=apD v;have p3:=o.p3 (i:=i) (t:=x.2.2.2.2.2.1.2.2) D sx;rw[a0] at vp;have T1:=o.tm (e:=x.2.2.2.2.1) (t:=x.2.2.2.2.2.1.2.2+c.S) (e':=u.2.2.2.2.1) (t':=u.2.2.2.2.2.1.2.2+c.S) N.e (by have:=N.w;omega);have b2:Ce m i τ (gD (rm m (aF u i).1).1 (aF u i)):=⟨ZZ ou v,(agQ v).trans A.id,A.t,A.c,A.l,A.d⟩;have lo:Kp u (cH u (bq u.2.2.2.2.2.2.1 i (gD (rm m (aF u i).1).1))):=.mod;have eo:aF (cH u (bq u.2.2.2.2.2.2.1 i (gD (rm m (aF u i).1).1))) i=gD (rm m (aF u i).1).1 (aF u i):=fh F;rcases pw with ⟨s1,Z⟩|⟨s1,rfl⟩
     ·-- it listens
      have no:kh (rm m (aF u i).1).1=false:=by
       cases k:kh (rm m (aF u i).1).1
       ·rfl
       ·have:=jM.1 k;omega
      rcases I with ⟨X,rfl⟩|⟨X,_⟩
      ·rcases p with ⟨_,rfl⟩|⟨k,_⟩
       ·unfold RB at Z
        rw[eo,show(cH u (bq u.2.2.2.2.2.2.1 i (gD (rm m (aF u i).1).1))).2.1=m from S.em] at Z;have ee:cH (cH u (bq u.2.2.2.2.2.2.1 i (gD (rm m (aF u i).1).1))) (bq (cH u (bq u.2.2.2.2.2.2.1 i (gD (rm m (aF u i).1).1))).2.2.2.2.2.2.1 i (rh u.2.2.2.2.2.1.2.2))=cH u (bq u.2.2.2.2.2.2.1 i λy=>rh u.2.2.2.2.2.1.2.2 (gD (rm m (aF u i).1).1 y)):=congrArg (cH u) (mod_mod F);have Z:qR (cH u (bq u.2.2.2.2.2.2.1 i λy=>rh u.2.2.2.2.2.1.2.2 (gD (rm m (aF u i).1).1 y))) (u.2.2.2.2.2.1.2.2+m.2.1,2,(i:Int),(aF u i).2.2.2.2.1+1) y:=by rw[<-ee];exact Z
        have a6:c.VL i u.2.2.2.2.2.1.2.2=c.VL i x.2.2.2.2.2.1.2.2:=by rw[N.w]
        have G:=S.Gj E (f:=λy=>rh u.2.2.2.2.2.1.2.2 (gD (rm m (aF u i).1).1 y)) F (n:=(rm m (aF u i).1).1) (by
         show(_,_,_,u.2.2.2.2.2.1.2.2,(aF u i).2.2.2.2.1+1,_)=(_,_,_,u.2.2.2.2.2.1.2.2,(aF u i).2.2.2.2.1+1-1+1,_);rw[Int.sub_add_cancel];try rfl) (ZZ ou v) ((agQ v).trans A.id) s1 (by show(aF u i).2.2.2.2.2.2.2=false;rw[Q];exact O.2.1) ⟨by show(aF u i).2.2.2.2.1<=(aF u i).2.2.2.2.1+1;omega,by show(aF u i).2.2.2.2.1+1<=(aF u i).2.2.2.2.1+2;omega⟩ (by rw[a6];omega) Z
        refine @wk _ (K+6) (τ+2) (by omega) (by omega) (Z.kp.len.trans (Kp.mod.len.trans N.len)) ?_;rw[Z.kp.len.trans Kp.mod.len];exact G
       ·rw[no] at k;cases k
      ·exact absurd (st.1 X).1 (by omega)
     ·have h4:=S.mod (f:=gD (rm m (aF u i).1).1) F (al _) b2 (al _)
      have a9:i<(cH u (bq u.2.2.2.2.2.2.1 i (gD (rm m (aF u i).1).1))).2.2.2.2.2.2.1.length:=by rw[lo.len];exact F
      rcases I with ⟨X,rfl⟩|⟨X,o2,I⟩
      ·-- it stops
       have s5:=(st.2 X).resolve_left s1;have no:kh (rm m (aF u i).1).1=false:=by
        cases k:kh (rm m (aF u i).1).1
        ·rfl
        ·have:=jM.1 k;omega
       rcases p with ⟨_,rfl⟩|⟨k,_⟩
       ·have a6:c.VL i u.2.2.2.2.2.1.2.2=c.VL i x.2.2.2.2.2.1.2.2:=by rw[N.w]
        exact wk (by omega) (by omega) (lo.len.trans N.len) (h4.cl o a9 (.off (.inr (by rw[eo];exact s5)) rfl (by show c.VL i u.2.2.2.2.2.1.2.2+c.tT u.2.2.2.2.1 (u.2.2.2.2.2.1.2.2+c.S)<=_;omega)))
       ·rw[no] at k;cases k
      ·-- it sends
       have h5:=h4.XO o a9 I;rcases p with ⟨k,_⟩|⟨_,p⟩
       ·rw[o2] at k;cases k
       ·have J:Kp x r.1:=(N.trans lo).trans I.kp
        have W:i<r.1.2.2.2.2.2.2.1.length:=by rw[J.len];exact C
        have er:aF r.1 i=gD (rm m (aF u i).1).1 (aF u i):=(I.aF i).trans eo;have T2:=o.tm (e:=x.2.2.2.2.1) (t:=x.2.2.2.2.2.1.2.2+c.S) (e':=r.1.2.2.2.2.1) (t':=r.1.2.2.2.2.2.1.2.2+c.S) J.e (by have:=J.w;omega);have p5:=o.p5 (i:=i) D om;have a1:=o.a1 (i:=i) (b:=(aF u i).2.2.2.2.2.2.1) D om.1;have b6:=(st.1 X).1;have ab:kh (rm m (aF u i).1).1=true:=jM.2 (by omega);have val:3*c.M+c.O6 i ((aF x i).2.1.1) (c.W*((aF x i).2.1.2.1%c.n)) ((aF u i).2.2.2.2.2.2.1)+c.tT x.2.2.2.2.1 (x.2.2.2.2.2.1.2.2+c.S)<=b:=by
         by_cases k:(aF x i).1.2.1=4
         ·rw[dn k,cond_true] at d;omega
         ·have:(aF u i).2.2.2.2.2.2.1=false:=by rw[Q,O.2.2];exact beq_false_of_ne k
          rw[this];omega
        have na:=o.na (i:=i) (st:=(aF x i).2.1.1) (om:=c.W*((aF x i).2.1.2.1%c.n)) (b:=(aF u i).2.2.2.2.2.2.1);refine @wk _ (K+6+3) τ (by omega) (by omega) (p.kp.len.trans J.len) ?_;have G:=h5.cp o W p (by show ¬(1:Int)=3;decide) rfl rfl (mx _ _) (λ_=>?_) λz' z1 z2=>?_
        ·rw[p.kp.len];exact G
        ·rw[er]
         refine .Ig _ ab (by show(aF u i).2.2.2.2.2.2.2=false;rw[Q];exact O.2.1) rfl ?_ ?_
         ·show(rm m (aF u i).1).1.2.2.1.2.1=(aF u i).2.1.2.1%c.n
          rw[(st.1 X).2,Q,O.1,H];exact hp
         ·show(bif decide ((rm m (aF u i).1).1.2.1=4) then c.O6 i (aF u i).2.1.1 (c.W*((aF u i).2.1.2.1%c.n)) ((aF u i).2.2.2.2.2.2.1) else _)+_<=_
          rw[dn b6,cond_true,show(aF u i).2.1=(aF x i).2.1 from(congrArg (λz:cr=>z.2.1) Q).trans O.1];omega
        ·rw[er]
         exact .a_ ab rfl (by omega)
    ·have Y:oy z u 6 2:=pd.1
     have S:=h2.XO o aa Y;exact go (by omega) S (lz.trans Y.kp) (Y.aF i) (by omega) (mx _ _) p
theorem Inv.Ih(v:i<x.2.2.2.2.2.2.1.length)(he:e.2.1=2)(hw:e.1=x.2.2.2.2.2.1.2.2)(Y:zd c i x.2.2.2.2.2.1.2.2 x.2.2.2.2.1 (aF x i) [e] b)(p:Tck x i y):Inv c m s B t (K+3) (τ+2) x.2.2.2.2.2.2.1.length 0 y:=by
 have n:=E.ok;have j:=h.nd i v;have X:=E.S;have W:=E.D;have hn:=E.n;have hm:=wT E.ml;have hD:=n.D;have nw:=n.nw;cases Y with
 | a_ a q d=>cases q
 | beg t a e q s u p d=>simp_all
 | Ig t a f q p d=>simp_all
 | Gj a e s q u d=>cases q
 | off a q d=>cases q
 | pow t a e q d=>simp_all
 | Ih t a f P q u d=>
   injection q with q _;have I:t=x.2.2.2.2.2.1.2.2:=by simp_all
   subst I;have M0:=n.nn (i:=i) (e:=x.2.2.2.2.1) (t:=x.2.2.2.2.2.1.2.2);have Z:∀(r:Net) (T:Int),r.2.2.2.2.2.1.2.2<=vn r T:=λr T=>by unfold vn;omega
   unfold Tck at p;rw[h.em] at p;rcases p with ⟨k,_⟩|⟨g,⟨G,o,hd,p⟩|⟨G,w,O,p⟩⟩
   ·exact absurd (acj j.yA a) k
   ·have A:=(acm g).2.1 G
    have N:Ce m i τ (Hm (iA m (aF x i).1).1 (aF x i)):=⟨Ug j.yA g,(ack g).trans j.id,j.t,j.c,j.l,j.d⟩;have H:=h.mod (f:=Hm (iA m (aF x i).1).1) v (al _) N (al _);have C:aF (cH x (bq x.2.2.2.2.2.2.1 i (Hm (iA m (aF x i).1).1))) i=Hm (iA m (aF x i).1).1 (aF x i):=fh v;have l1:(cH x (bq x.2.2.2.2.2.2.1 i (Hm (iA m (aF x i).1).1))).2.2.2.2.2.2.1.length=x.2.2.2.2.2.2.1.length:=bL;have S:vn x (x.2.2.2.2.2.1.2.2+(m.2.1+o))=x.2.2.2.2.2.1.2.2+(c.S+o):=by unfold vn;omega
    rw[S] at p;have l:=H.cp n (by omega) p (by grind) rfl (by rw[C];rfl) (by show x.2.2.2.2.2.1.2.2<=x.2.2.2.2.2.1.2.2+(c.S+o);omega) (λq=>?_) λz z1 Q=>?_
    ·rw[l1] at l;exact l.weak (by omega) (by omega) (al _)
    ·rw[C]
     have l3:=n.l3 (t:=x.2.2.2.2.2.1.2.2) (d:=o) (by omega) (e:=x.2.2.2.2.1) q;refine .Ih _ A f P rfl (by show x.2.2.2.2.2.1.2.2+(c.S+o)<=x.2.2.2.2.2.1.2.2+_+_;omega) ?_;show c.VL i ((aF x i).2.2.2.1)+c.tT x.2.2.2.2.1 (x.2.2.2.2.2.1.2.2+(c.S+o))<=_;omega
    ·rw[C]
     refine .Gj A f P rfl (by have Q:z<=x.2.2.2.2.2.1.2.2+(c.S+o):=Q;show z<=x.2.2.2.2.2.1.2.2+_+_;omega) ?_;show c.VL i ((aF x i).2.2.2.1)<=_;omega
   ·have A:=(acm g).2.2 G
    have N:Ce m i (τ+2) (yX (iA m (aF x i).1).1 (x.2.2.2.2.2.1.2.2,(i:Int), []) (aF x i)):=⟨Ug j.yA g,(ack g).trans j.id,⟨by show 0<=(aF x i).2.2.2.2.1+1;have:=j.t;omega,by show(aF x i).2.2.2.2.1+1<=_;have:=j.t;omega⟩,⟨h.now.1,by show x.2.2.2.2.2.1.2.2<=_;have:=h.now.2;have:=E.E;omega⟩,by show 0<=(i:Int);omega,by show([]:List Int).length<=8;decide⟩;have H:=h.mod (f:=yX (iA m (aF x i).1).1 (x.2.2.2.2.2.1.2.2,(i:Int), [])) v (by omega) N (by show(aF x i).2.2.2.2.1<=(aF x i).2.2.2.2.1+1;omega);have C:aF (cH x (bq x.2.2.2.2.2.2.1 i (yX (iA m (aF x i).1).1 (x.2.2.2.2.2.1.2.2,(i:Int), [])))) i=yX (iA m (aF x i).1).1 (x.2.2.2.2.2.1.2.2,(i:Int), []) (aF x i):=fh v;have l1:Kp x (cH x (bq x.2.2.2.2.2.2.1 i (yX (iA m (aF x i).1).1 (x.2.2.2.2.2.1.2.2,(i:Int), [])))):=.mod;have V:=H.XO n (by rw[l1.len];exact v) O;have kw:=l1.trans O.kp;have F:aF w i=yX (iA m (aF x i).1).1 (x.2.2.2.2.2.1.2.2,(i:Int), []) (aF x i):=(O.aF i).trans C;have J:i<w.2.2.2.2.2.2.1.length:=by rw[kw.len];exact v
    have l2:=n.l2 (i:=i) P;have T1:=n.tm (e:=x.2.2.2.2.1) (t:=x.2.2.2.2.2.1.2.2) (e':=w.2.2.2.2.1) (t':=w.2.2.2.2.2.1.2.2+c.S) kw.e (by have:=kw.w;omega);have na:=n.na (i:=i) (st:=x.2.2.2.2.2.1.2.2) (om:=0) (b:=false);have D:kh (iA m (aF x i).1).1=true:=jM.2 (by rw[A.1];decide);have l:=V.cp n J p (by show ¬(1:Int)=3;decide) rfl (by rw[F];rfl) (Z _ _) (λq=>?_) λz z1 Q=>?_
    ·rw[kw.len] at l;exact l
    ·rw[F]
     refine .Ig _ D f rfl ?_ ?_
     ·show(iA m (aF x i).1).1.2.2.1.2.1=(i:Int)%c.n
      rw[A.2,j.id,ng (by omega) (by have:=h.en;omega)]
     ·show(bif decide ((iA m (aF x i).1).1.2.1=4) then _ else c.O7 i x.2.2.2.2.2.1.2.2)+_<=_
      rw[A.1,show decide ((2:Int)=4)=false from rfl,cond_false];omega
    ·rw[F]
     exact .a_ D rfl (by omega)
theorem Inv.pow(j:i<x.2.2.2.2.2.2.1.length)(D:e.2.1=5)(A:zd c i x.2.2.2.2.2.1.2.2 x.2.2.2.2.1 (aF x i) [e] b)(p:RP x i true y):Inv c m s B t K (τ+2) x.2.2.2.2.2.2.1.length 0 y:=by
 have o:=E.ok;have l:=h.nd i j;cases A with
 | a_ a q d=>cases q
 | beg t a e q s u p d=>simp_all
 | Ig t a f q p d=>simp_all
 | Gj a e s q u d=>cases q
 | Ih t a f F q u d=>simp_all
 | off a q d=>cases q
 | pow t a f q d=>
   have C:=o.nn (i:=i) (e:=x.2.2.2.2.1) (t:=x.2.2.2.2.2.1.2.2);rcases p with ⟨_,rfl⟩|⟨g,⟨k,_⟩|⟨_,p⟩⟩
   ·exact(h.cl o j (.off (.inl a) rfl (by omega))).weak (aj _) (by omega) (al _)
   ·cases k
   ·rw[h.em] at g p
    have v:(cH x (bq x.2.2.2.2.2.2.1 i (oR (ju m (aF x i).1 true).1))).2.1=m:=h.em;have z:aF (cH x (bq x.2.2.2.2.2.2.1 i (oR (ju m (aF x i).1 true).1))) i=oR (ju m (aF x i).1 true).1 (aF x i):=fh j;unfold RB at p;rw[z,v] at p;have r:cH (cH x (bq x.2.2.2.2.2.2.1 i (oR (ju m (aF x i).1 true).1))) (bq (cH x (bq x.2.2.2.2.2.2.1 i (oR (ju m (aF x i).1 true).1))).2.2.2.2.2.2.1 i (rh x.2.2.2.2.2.1.2.2))=cH x (bq x.2.2.2.2.2.2.1 i λy=>rh x.2.2.2.2.2.1.2.2 (oR (ju m (aF x i).1 true).1 y)):=congrArg (cH x) (mod_mod j);have p:qR (cH x (bq x.2.2.2.2.2.2.1 i λy=>rh x.2.2.2.2.2.1.2.2 (oR (ju m (aF x i).1 true).1 y))) (x.2.2.2.2.2.1.2.2+m.2.1,2,(i:Int),(aF x i).2.2.2.2.1+1+1) y:=by rw[<-r];exact p
    exact h.Gj E (f:=λy=>rh x.2.2.2.2.2.1.2.2 (oR (ju m (aF x i).1 true).1 y)) j (n:=(ju m (aF x i).1 true).1) (by
     show(_,_,_,x.2.2.2.2.2.1.2.2,(aF x i).2.2.2.2.1+1+1,_)=(_,_,_,x.2.2.2.2.2.1.2.2,(aF x i).2.2.2.2.1+1+1-1+1,_);rw[Int.sub_add_cancel];try rfl) (BK l.yA g) ((LF g).trans l.id) ((Qq g).1 rfl).2 rfl ⟨by show(aF x i).2.2.2.2.1<=(aF x i).2.2.2.2.1+1+1;omega,by show(aF x i).2.2.2.2.1+1+1<=(aF x i).2.2.2.2.1+2;omega⟩ (by omega) p
end
section
variable {c:Mc} {m:ax} {s:jv} {B t K:Nat} (E:Env c m s)
include E
theorem Inv.sn1{b:Int}{ex k:Nat}{sa:sr}(h:Inv c m s B t K τ ex b x)(S:¬ex<x.2.2.2.2.2.2.1.length)(F:k<x.2.2.2.2.2.2.1.length)(p:Sn1 sa k x y):Inv c m s B t K (τ+1) ex b y/\Kp x y:=by
 have o:=E.ok;have n:=h.nd k F;have hn:=E.n;have hG:=E.G;have hL:=E.L;have hm:=wT E.ml;have C:k≠ex:=by omega
 have Y:∀(r:Net) (T:Int),r.2.2.2.2.2.1.2.2<=vn r T:=λr T=>by unfold vn;omega
 rcases p with rfl|⟨a1,a2,l,Q,g,p⟩
 ·exact⟨h.weak (aj _) (by omega) (al _),.id⟩
 rw[h.em] at g p;have P:=akm g;rcases p with ⟨G,rfl⟩|⟨G,p⟩
 ·have I:Ce m k τ (gD (lC m (aF x k).1 l true).1 (aF x k)):=⟨SY n.yA g,(Y6 g).trans n.id,n.t,n.c,n.l,n.d⟩
  have O:=P.2.1 G;have q:¬(2<=(aF x k).1.2.1/\(aF x k).1.2.1<=4):=by omega
  refine⟨((h.oth (f:=gD (lC m (aF x k).1 l true).1) (d:=0) (al _) (.inr rfl) F C (al _) I (al _) o λv J=>?_).weak (aj _) (by omega) (by omega)),.mod⟩;rw[Int.add_zero];cases J with
  | a_ a b d=>exact absurd (jM.1 a) q
  | beg t a e b s u p d=>exact absurd (jM.1 a) q
  | Ig t a e b p d=>exact absurd (jM.1 a) q
  | Gj a e s b u d=>exact .Gj O e s b u d
  | Ih t a e s b u d=>exact .Ih t O e s b u d
  | off a b d=>omega
  | pow t a e b d=>omega
 ·obtain⟨Z,v,H,v1,v2⟩:=P.2.2 G
  rcases p with rfl|⟨j,p⟩
  ·exact⟨h.weak (aj _) (by omega) (al _),.id⟩
  rw[h.em] at j p;obtain⟨j1,j2,N,W,X⟩:=Xr j;rw[W] at p;have D:=(AN (w:=m.2.2.2.1) (by omega)).1 X;have V:v.1=2:=by
   simp[CM,fv,rR] at v2;omega
  have v3:=(Q v H V).1;have A:kh (lC m (aF x k).1 l true).1=true:=jM.2 (by omega);have I:Ce m k (τ+1) (jnY (lC m (aF x k).1 l true).1 ((lC m (aF x k).1 l true).2.1-(m.2.2.1+m.2.2.2.2.2.1),(lC m (aF x k).1 l true).1.2.2.1.2.1, []) (aF x k)):=⟨SY n.yA g,(Y6 g).trans n.id,⟨by show 0<=(aF x k).2.2.2.2.1+1;have:=n.t;omega,by show(aF x k).2.2.2.2.1+1<=_;have:=n.t;omega⟩,⟨D.1.1,bX D.1.2 (by decide)⟩,N.1,by show([]:List Int).length<=8;decide⟩;have q:¬(2<=(aF x k).1.2.1/\(aF x k).1.2.1<=4):=by omega
  have l1:=o.l1 (i:=k) (t:=(aF x k).2.2.2.1) (st:=(lC m (aF x k).1 l true).2.1-(m.2.2.1+m.2.2.2.2.2.1)) (by omega);have na:=o.na (i:=k) (st:=(lC m (aF x k).1 l true).2.1-(m.2.2.1+m.2.2.2.2.2.1)) (om:=0) (b:=false);have M0:=o.nn (i:=k) (e:=x.2.2.2.2.1) (t:=x.2.2.2.2.2.1.2.2+c.S);refine⟨(h.mp (d:=0) (al _) (.inr rfl) F C (by omega) I (by show(aF x k).2.2.2.2.1<=(aF x k).2.2.2.2.1+1;omega) (h.none F (by show(aF x k).2.2.2.2.1<(aF x k).2.2.2.2.1+1;omega)) o p (by grind) rfl rfl (Y _ _) λv J=>?_).weak (aj _) (al _) (by omega),Kp.mod.trans p.kp⟩;have H:c.VL k ((aF x k).2.2.2.1)+c.tT x.2.2.2.2.1 (x.2.2.2.2.2.1.2.2+c.S)<=v+(c.n+1)*c.D/\(aF x k).2.2.2.2.2.2.2=false:=by
   cases J with
   | a_ a b d=>exact absurd (jM.1 a) q
   | beg t a e b s u p d=>exact absurd (jM.1 a) q
   | Ig t a e b p d=>exact absurd (jM.1 a) q
   | Gj a e s b u d=>have:=o.t0 (e:=x.2.2.2.2.1) (t:=x.2.2.2.2.2.1.2.2) u;grind
   | Ih t a e s b u d=>have:=o.td (e:=x.2.2.2.2.1) (t:=x.2.2.2.2.2.1.2.2) u;exact⟨by omega,e⟩
   | off a b d=>omega
   | pow t a e b d=>omega
  refine⟨λ_=>.Ig _ A H.2 rfl ?_ ?_,λz _ _=>.a_ A rfl (by omega)⟩
  ·show(lC m (aF x k).1 l true).1.2.2.1.2.1=(lC m (aF x k).1 l true).1.2.2.1.2.1%c.n
   rw[ng N.1 (by omega)]
  ·show(bif decide ((lC m (aF x k).1 l true).1.2.1=4) then _ else c.O7 k ((lC m (aF x k).1 l true).2.1-(m.2.2.1+m.2.2.2.2.2.1)))+_<=_
   rw[Z,show decide ((3:Int)=4)=false from rfl,cond_false];omega
theorem Inv.sns{g:sr}:∀{f k ex:Nat} {τ b:Int} {x y:Net},Inv c m s B t K τ ex b x->¬ex<x.2.2.2.2.2.2.1.length->k+f<=x.2.2.2.2.2.2.1.length->Pn g f k x y->Inv c m s B t K (τ+(f:Int)) ex b y/\Kp x y
 | 0,k,ex,τ,b,x,y,h,_,_,p=>by
   rw[show y=x from p];exact⟨h.weak (aj _) (by omega) (al _),.id⟩
 | f+1,k,ex,τ,b,x,y,h,he,hk,⟨z,p,q⟩=>by
   obtain⟨a,l1⟩:=h.sn1 E he (by omega) p;obtain⟨e,l2⟩:=Inv.sns (f:=f) (k:=k+1) a (by rw[l1.len];omega) (by rw[l1.len];omega) q;exact⟨e.weak (aj _) (by omega) (al _),l1.trans l2⟩
end
section
variable {c:Mc} {m:ax} {s:jv} {B t K:Nat} {τ:Int} {b:Int} {x:Net} (E:Env c m s) (h:Inv c m s B t K τ x.2.2.2.2.2.2.1.length b x)
include E h
theorem Inv.pop{l:List je}(g:(e::l).Perm x.2.2.2.2.2.1.2.1)(J:Ko l)(N:∀z∈x.2.2.2.2.2.1.2.1,e.1<=z.1):
  ((e.2.1=3\/∀i,i<x.2.2.2.2.2.2.1.length->e.2.2.1=(i:Int)->e.2.2.2≠(aF x i).2.2.2.2.1)->Inv c m s B (t+1) K τ x.2.2.2.2.2.2.1.length b (rX x l e.1))/\
  ∀i,i<x.2.2.2.2.2.2.1.length->e.2.1≠3->e.2.2.1=(i:Int)->e.2.2.2=(aF x i).2.2.2.2.1->∃n,Inv c m s B (t+1) K τ i n (rX x l e.1)/\zd c i e.1 x.2.2.2.2.1 (aF x i) [e] n:=by
 have C:=E.ok;have u:∀z∈l,z∈x.2.2.2.2.2.1.2.1:=λz k=>g.mem_iff.1 (.tail _ k);have o:=h.hw e (g.mem_iff.1 (.head _));have r:=g.length_eq;rw[bw] at r;have O:yW (rX x l e.1):=⟨h.q.made,by have:=h.q.len;show l.length<=_;omega,J⟩;have A:(((x.2.2.2.2.2.1.2.1.length+t:Nat):Int))=((l.length+(t+1):Nat):Int):=by omega
 obtain⟨v,W,y,V⟩:=h.vs
 have f:∀(ex:Nat) (n:Int),(ex<x.2.2.2.2.2.2.1.length->lv l ex ((aF x ex).2.2.2.2.1)=[])->(∃v:Nat->Int,(ex<x.2.2.2.2.2.2.1.length->n<=v ex)/\(∀i,i<x.2.2.2.2.2.2.1.length->i≠ex->zd c i e.1 x.2.2.2.2.1 (aF x i) (lv l i ((aF x i).2.2.2.2.1)) (v i))/\C_ v x.2.2.2.2.2.2.1.length+c.M*((l.length+(t+1):Nat):Int)<=c.M*(B:Int))->Inv c m s B (t+1) K τ ex n (rX x l e.1):=λex n P Q=>
  ⟨O,h.mad,h.em,h.es,h.en,⟨bX h.now.1 o.1,o.2⟩,h.ee,λz k=>⟨N z (u z k),(h.hw z (u z k)).2⟩,λz k=>h.h3 z (u z k),λz k=>h.hi z (u z k),h.ch,h.sn,h.nd,P,Q⟩
 refine⟨λk=>f _ _ (λq=>absurd q (eD _)) ⟨v,λq=>absurd q (eD _),λi p _=>?_,by simp_all⟩,λi p F G H=>⟨v i,f i (v i) (λ_=>?_) ⟨v,λ_=>al _,λj I D=>?_,by rw[<-A];exact V⟩,?_⟩⟩
 ·have:=rV (i:=i) (t:=(aF x i).2.2.2.2.1) g
  rw[Lt λa=>k.elim (λq=>a.1 q) λq=>q i p a.2.1 a.2.2] at this;exact((y i p (by omega)).mono C o.1 (al _) (al _)).perm this
 ·have q:=y i p (by omega)
  have:=rV (i:=i) (t:=(aF x i).2.2.2.2.1) g;rw[Ls F G H] at this;have l2:=this.length_eq;rw[bw] at l2;rcases q.short with q|⟨z,q⟩
  all_goals simp_all
 ·have:=rV (i:=j) (t:=(aF x j).2.2.2.2.1) g
  rw[Lt λa=>D (by have:=a.2.1;omega)] at this;exact((y j I (by omega)).mono C o.1 (al _) (al _)).perm this
 ·have q:=y i p (by omega)
  have p2:=rV (i:=i) (t:=(aF x i).2.2.2.2.1) g;rw[Ls F G H] at p2;have S:lv l i ((aF x i).2.2.2.2.1)=[]:=by
   have l2:=p2.length_eq;rw[bw] at l2;rcases q.short with q|⟨z,q⟩
   ·rw[q] at l2;exact absurd l2 (by rw[tq];omega)
   ·rw[q,bg] at l2
    exact cB.1 (by omega)
  rw[S] at p2;exact(q.mono C o.1 (al _) (al _)).perm p2
theorem Inv.act{l:List je}(I:(e::l).Perm x.2.2.2.2.2.1.2.1)(O:Ko l)(P:∀z∈x.2.2.2.2.2.1.2.1,e.1<=z.1)(p:Act e (rX x l e.1) y):Inv c m s B (t+1) (K+9) (τ+16) y.2.2.2.2.2.2.1.length 0 y:=by
 have Y:=E.ok;obtain⟨p1,p2⟩:=h.pop E I O P;have H:∀{r:Nat} {C:Int} {y:Net},Inv c m s B (t+1) r C x.2.2.2.2.2.2.1.length 0 y->r<=K+9->C<=τ+16->Inv c m s B (t+1) (K+9) (τ+16) y.2.2.2.2.2.2.1.length 0 y:=λ{r C y} g n F=>by
  have e:y.2.2.2.2.2.2.1.length=x.2.2.2.2.2.2.1.length:=by have:=g.en;have:=h.en;omega
  rw[e];exact g.weak n F (al _)
 have any:∀{r:Nat} {C:Int} {y:Net},Inv c m s B (t+1) r C x.2.2.2.2.2.2.1.length b y->r<=K+9->C<=τ+16->Inv c m s B (t+1) (K+9) (τ+16) y.2.2.2.2.2.2.1.length 0 y:=λ{r C y} g n F=>by
  have e:y.2.2.2.2.2.2.1.length=x.2.2.2.2.2.2.1.length:=by have:=g.en;have:=h.en;omega
  obtain⟨v,v1,W,X⟩:=g.vs;refine @H _ _ y ⟨g.q,g.mad,g.em,g.es,g.en,g.now,g.ee,g.hw,g.h3,g.hi,g.ch,g.sn,g.nd,λq=>absurd q (by omega),⟨v,λq=>absurd q (by omega),λi o V=>W i o V,X⟩⟩ n F
 have Q:(x.2.2.2.2.2.2.1.length:Int)<=8:=by have:=h.en;have:=wT E.ml;omega
 rcases p with ⟨k,p⟩|⟨k,⟨j,rfl⟩|⟨tt,Z,p⟩⟩
 ·obtain⟨g,_⟩:=Inv.sns E (p1 (.inl k)) (eD _) (kC (gF _)) p
  exact any (g.weak (aj _) (by show τ+(x.2.2.2.2.2.2.1.length:Int)<=τ+16;omega) (al _)) (by omega) (by omega)
 ·refine any (p1 (.inr λi o G J=>?_)) (by omega) (by omega)
  have A:e.2.2.1.toNat=i:=by rw[G];rfl
  rw[A] at j;rcases j with j|j
  ·exact j J.symm
  ·obtain⟨N,g,D⟩:=p2 i o k G J
   have j:(aF x i).2.2.2.2.2.2.2=true:=j;cases D with
   | a_ a q d=>cases q
   | beg t a e q s u p d=>rw[e] at j;cases j
   | Ig t a f q p d=>rw[f] at j;cases j
   | Gj a e s q u d=>cases q
   | Ih t a f si q u d=>rw[f] at j;cases j
   | off a q d=>cases q
   | pow t a f q d=>rw[f] at j;cases j
 ·obtain⟨i,G,o,_⟩:=h.hi e (I.mem_iff.1 (.head _)) k
  have A:e.2.2.1.toNat=i:=by rw[G];rfl
  rw[A] at tt p;obtain⟨N,g,D⟩:=p2 i o k G tt.symm;rcases p with ⟨n,p⟩|⟨n,p⟩|⟨n,p⟩|⟨n,F,S,p⟩
  ·have q:=g.Ig E o n D p
   exact H q (by omega) (by omega)
  ·have q:=g.Ih E o n rfl D p
   exact H q (by omega) (by omega)
  ·have q:=g.pow E o n D p
   exact H q (by omega) (by omega)
  ·have q:=g.bgn E o ⟨n,F,S⟩ rfl D p
   exact H q (by omega) (by omega)
end
theorem UC{e x:Int}(h:e<=a):e<=vx e a x/\vx e a x<=a:=by
 unfold vx;rw[nW,tx];omega
theorem BN{l:List Int}{n:Nat}{e f:Int}:(rowP l n e a f).length=n:=by
 unfold rowP
 grind
theorem TJ{l:List Int}{n:Nat}{lo hi ms:Int}(h:lo<=hi)(e:lo<=ms/\ms<=hi):∀x∈rowP l n lo hi ms,lo<=x/\x<=hi:=λx a=>by
 rcases nY.1 a with a|a
 ·obtain⟨y,_,rfl⟩:=dy.1 a
  exact UC h
 simp_all
theorem anw{b:Int}{x:Int×Bool}:b<=B8 b x:=by
 unfold B8;cases decide (0<wR (sQ (x.2,x.1),x.1))
 ·simp_all
 ·rw[cond_true,tx];omega
theorem F1{α:Type}{f:Int->α->Int}(h:∀b x,b<=f b x):∀(l:List α) (b:Int),b<=l.foldl f b
 | [],_=>al _
 | x::l,b=>bX (h b x) (F1 h l (f b x))
theorem adI:30<=i_ m:=by
 exact bX (show(30:Int)<=lX (wR (1,0)) by decide +kernel) (F1 (λb x=>F1 (λ_ _=>anw) _ b) _ _)
def Tf(m:ax)(E:Int):Mc:=⟨m.1,m.2.1,m.2.2.1,m.2.2.2.1,m.2.2.2.2.1,m.2.2.2.2.2.1,E⟩
theorem aoD{E:Int}(h:dC m=true):yV (Tf m E):=by
 have a:=wT h;have e:=adI (m:=m);exact⟨by show m.1=4\/m.1=5\/m.1=6\/m.1=7\/m.1=8;omega,a.2.1,a.2.2.1,a.2.2.2.1.1,a.2.2.2.2.1.1,by show 2*m.2.2.1+30<=m.2.1;omega⟩
theorem Xw{x:fS}{l:List fS}:∀{a:fS},x∈vz a l->x∈l:=by
 induction l with
 | nil=>intro a h;cases h
 | cons b l ih=>
   intro a h;unfold vz at h
   grind
theorem X7{l:List fS}{f:fS}(h:f∈tW m l):mM (m,f)=true:=by
 unfold tW at h;cases k:decide (j_ m=0)
 ·simp_all
 ·rw[k,cond_true] at h
  have:f∈(l.filter λf=>mM (m,f)).mergeSort λa b=>!(ui b a):=by
   revert h;generalize (l.filter λf=>mM (m,f)).mergeSort (λa b=>!(ui b a))=L;intro h;cases L with
   | nil=>cases h
   | cons a L=>
     rcases aG.1 h with rfl|h
     ·simp_all
     ·exact .tail _ (Xw h)
  simp_all
theorem akS(h:0<=d/\d<=1048576):af.u .neg .i64 d = -d:=by
 show IntKind.i64.wrap (0-d)=_;rw[lg (by omega) (by omega)];omega
theorem XQ{E:Int}(h:dC m=true)(a:0<=E/\E<=1000000000000):Env (Tf m E) m (dL m s):=by
 have j:=wT h;have g:((m.1.toNat:Nat):Int)=m.1:=by omega
 refine⟨h,aoD h,rfl,rfl,rfl,rfl,rfl,rfl,a,?_,λf e=>?_,?_,?_,?_,?_,?_⟩
 ·show(List.take 256 _).length<=_;rw[cd];omega
 ·exact X7 (List.mem_of_mem_take e)
 ·show m.1<=((rowP _ _ _ _ _).length:Int);rw[BN];omega
 ·show m.1<=((rowP _ _ _ _ _).length:Int);rw[BN];omega
 ·show(rowP _ _ _ _ _).length<=_;rw[BN];omega
 ·show ∀v∈rowP _ _ _ _ _,_
  rw[akS (by omega)];exact TJ (by omega) (by omega)
 ·show(VG _).length<=_
  have:∀l,(VG l).length=l.length:=λl=>qF;rw[this,apJ,cd];omega
theorem yV.vl(h:yV c)(e:0<=c.E):c.VL i 0+c.tT c.E c.S<=Mc.k i*(c.n*(c.E+2*c.S))+(4*c.M+(c.n+1)*c.E):=by
 obtain⟨n,a,g,l,f,j⟩:=h;have kw:=c.kw i;simp[Mc.VL,Mc.M,Mc.bs,Mc.tT] at *
 grind
theorem aaV{v:Nat->Int}{X Y:Int}(f:0<=X)(h:∀i,v i<=Mc.k i*X+Y):∀n:Nat,C_ v (n+1)<=(13*((n+1:Nat):Int)+4)*X+((n+1:Nat):Int)*Y
 | 0=>by
   have:=h 0;show 0+v 0<=17*X+1*Y;have e:Mc.k 0=17:=rfl
   simp_all
 | n+1=>by
   have a:=aaV f h n;have b:=h (n+1);have e:Mc.k (n+1)=13:=rfl;rw[C_]
   grind
variable{N:Nat}
theorem yV.sum(h:yV c)(l:(N:Int)=c.n)(f:0<=c.E):(c.E<=c.S*(18*c.n+1)+64*c.W->C_ (λi=>c.VL i 0+c.tT c.E c.S) N<=c.M*19999)/\(c.E<=c.S*(40*c.n+1)->C_ (λi=>c.VL i 0+c.tT c.E c.S) N<=c.M*40000):=by
 have q:0<=c.n*(c.E+2*c.S):=by
  obtain⟨a,e,j,p,g,o⟩:=h
  grind
 obtain⟨n,rfl⟩:∃n,N=n+1:=⟨N-1,by rcases h.n with h|h|h|h|h<;>omega⟩;have s:=aaV q (λi=>h.vl (i:=i) f) n;rw[l] at s;obtain⟨a,e,j,p,g,o⟩:=h;obtain⟨n,S,G,W,D,L,E⟩:=c;simp only[Mc.M] at *;rcases a with rfl|rfl|rfl|rfl|rfl<;>constructor<;>intro r<;>omega
def adJ:Nat->(List Bool->Bool)->Bool
 | 0,p=>p []
 | n+1,p=>adJ n (λl=>p (true::l))&&adJ n λl=>p (false::l)
theorem KB:∀{n:Nat} {p:List Bool->Bool} {l:List Bool},adJ n p=true->l.length=n->p l=true
 | 0,p,l,h,hl=>by rw[cB.1 hl];exact h
 | n+1,p,true::l,h,hl=>KB (p:=λl=>p (true::l)) ((fv _ _).mp h).1 (Nat.succ.inj hl)
 | n+1,p,false::l,h,hl=>KB (p:=λl=>p (false::l)) ((fv _ _).mp h).2 (Nat.succ.inj hl)
def tJ:List Bool->Nat->Int->Int
 | [],_,s=>s
 | u::l,i,s=>tJ l (i+1) (bif u then af.b .or .i64 s (af.b .shl .i64 1 (i:Int)) else s)
def agX(l:List Bool):Bool:=decide (0<=tJ l 0 0/\tJ l 0 0<=af.b .shl .i64 1 (l.length:Int)-1)&&(List.range l.length).all λi=>!l.getD i false||qY (tJ l 0 0) (i:Int)
variable{l:List Bool}
theorem Q7(h:4<=l.length/\l.length<=8):agX l=true:=by
 have a:∀n:Fin 5,adJ (n.val+4) agX=true:=by decide +kernel
 exact KB (a ⟨l.length-4,by omega⟩) (by simp_all)
structure Bas(m:ax)(s:jv)(K:Nat)(τ:Int)(x:Net):Prop where
 q:yW x
 em:x.2.1=m
 es:x.2.2.1=s
 en:(x.2.2.2.2.2.2.1.length:Int)=m.1
 now:0<=x.2.2.2.2.2.1.2.2/\x.2.2.2.2.2.1.2.2<=1000000000000
 ch:x.2.2.2.2.2.2.2.1.length<=K/\x.2.2.2.2.2.2.2.2.1.length<=K/\x.2.2.2.2.2.2.2.2.2.1.length<=K
 sn:x.2.2.2.2.2.2.2.2.2.2.length<=K
 nd:∀i,i<x.2.2.2.2.2.2.1.length->Ce m i τ (aF x i)
theorem Tl(h:cZ m n=0):adU n=true:=by
 have a:=dh h;have b:=(fD.1 a.2).2.2.2.2.2.1;have e:=wT a.1;exact dn ⟨by omega,by omega⟩
section
variable {c:Mc} {m:ax} {s:jv} {K:Nat} {τ:Int} {x:Net} (E:Env c m s) (h:Bas m s K τ x) (hK:K<=800000) (hτ:τ<=800000000000)
include E h hK hτ
theorem Bas.snd(e:i<x.2.2.2.2.2.2.1.length):ze x i K:=by
 have _:=hτ;have a:=h.es;have f:=wT E.ml;have en:=h.en;refine⟨by omega,h.q,e,?_,?_,h.ch,by rw[h.em];exact E.ml,by omega,by rw[h.em,a];exact E.fm⟩
 ·rw[a];exact E.fl
 ·rw[a];have:=E.gd;have:=h.en;omega
theorem Bas.evi(N:i<x.2.2.2.2.2.2.1.length):Evi x i K:=by
 have en:=h.en;have hm:=wT E.ml;have J:=h.nd i N;have ab:=h.now;have S:=h.sn;have gt:=E.gt;refine⟨h.snd E hK hτ N,by rw[h.em];exact E.ml,by omega,by omega,by rw[h.es];omega,J.d,λj Y=>by have:=(h.nd j Y).t;omega,λy z py pz=>?_⟩;have P:yW y/\y.2.1=m/\y.2.2.1=s/\y.2.2.2.2.2.2.1.length=x.2.2.2.2.2.2.1.length/\y.2.2.2.2.2.2.2.2.2.2.length<=K/\cZ m (aF y i).1=0:=by
  rcases py with rfl|⟨l,cl,g,_,rfl⟩
  ·exact⟨h.q,h.em,h.es,rfl,S,J.yA⟩
  ·rw[h.em] at g ⊢
   exact⟨⟨h.q.made,h.q.len,h.q.heap⟩,h.em,h.es,bL,S,by rw[fh N];exact Tt J.yA g⟩
 obtain⟨O,k2,k3,k4,k5,k6⟩:=P;have hy:i<y.2.2.2.2.2.2.1.length:=by omega
 have A:∀(f k:Nat) (u w:Net),yW u/\u.2.1=m/\u.2.2.1=s/\u.2.2.2.2.2.2.1.length=x.2.2.2.2.2.2.1.length/\u.2.2.2.2.2.2.2.2.2.2.length<=K/\cZ m (aF u i).1=0->O5 f k u w->yW w/\w.2.1=m/\w.2.2.1=s/\w.2.2.2.2.2.2.1.length=x.2.2.2.2.2.2.1.length/\w.2.2.2.2.2.2.2.2.2.2.length<=K/\cZ m (aF w i).1=0:=by
  intro f
  induction f with
  | zero=>intro k u w a p;rw[show w=u from p];exact a
  | succ f ih=>
    intro k u w a p;obtain⟨v,p,q⟩:=p;refine ih (k+1) v w ?_ q;obtain⟨a1,a2,C,D,F,G⟩:=a;rcases p with rfl|⟨on,_,_,p⟩
    ·exact⟨a1,a2,C,D,F,G⟩
    have Z:i<u.2.2.2.2.2.2.1.length:=by omega
    have o:∀n,(ju m (aF u k).1 on).2=0->n=(ju m (aF u k).1 on).1->cZ m (aF (cH u (bq u.2.2.2.2.2.2.1 k (oR n))) i).1=0:=λn g e=>by
     by_cases r:i=k
     ·subst r
      rw[fh Z,e];exact BK G g
     ·rw[gY r];omega
    rcases p with ⟨_,rfl⟩|⟨g,⟨_,rfl⟩|⟨_,p⟩⟩
    ·exact⟨a1,a2,C,D,F,G⟩
    ·rw[a2] at g ⊢
     exact⟨⟨a1.made,a1.len,a1.heap⟩,a2,C,bL.trans D,F,o _ g rfl⟩
    ·rw[a2] at g p
     have sm:=qR.same p;obtain⟨s1,s2,s3,s4,s5,s6,s7,s8,s9⟩:=sm;refine⟨⟨s5.trans a1.made,s8,s9⟩,s2.trans a2,s3.trans C,?_,?_,?_⟩
     ·rw[s1];exact bL.trans (bL.trans D)
     ·rw[show v.2.2.2.2.2.2.2.2.2.2=u.2.2.2.2.2.2.2.2.2.2 from congrArg (λz:List dF×List dF×List sr×List ny=>z.2.2.2) s7];omega
     ·rw[qR.aF p]
      by_cases r:i=k
      ·subst r
       rw[fh (by show i<(bq _ _ _).length;rw[bL];omega)];exact o _ g rfl
      ·rw[gY r];exact o _ g rfl
 have I:yW z/\z.2.1=m/\z.2.2.1=s/\z.2.2.2.2.2.2.1.length=x.2.2.2.2.2.2.1.length/\z.2.2.2.2.2.2.2.2.2.2.length<=K/\cZ m (aF z i).1=0:=by
  have V:yW (cH y (bq y.2.2.2.2.2.2.1 i y1))/\y.2.1=m/\y.2.2.1=s/\(cH y (bq y.2.2.2.2.2.2.1 i y1)).2.2.2.2.2.2.1.length=x.2.2.2.2.2.2.1.length/\y.2.2.2.2.2.2.2.2.2.2.length<=K/\cZ m (aF (cH y (bq y.2.2.2.2.2.2.1 i y1)) i).1=0:=⟨⟨O.made,O.len,O.heap⟩,k2,k3,bL.trans k4,k5,by rw[fh hy,YP];omega⟩;rcases pz with rfl|⟨_,_,p⟩
  ·exact V
  ·exact A _ 0 _ z V p
 obtain⟨W,H,Q,f4,f5,X⟩:=I;refine⟨W,by rw[H];exact E.ml,by omega,?_,?_,by omega,λn g e=>?_⟩
 ·rw[H,Q];exact E.dd
 ·rw[Q];exact E.dl
 ·rw[H] at g e
  rw[e];exact Tl (EI X g)
theorem Bas.tki(a:i<x.2.2.2.2.2.2.1.length):Tki x i K:=by
 have e:=h.nd i a;have f:=h.now;refine⟨h.snd E hK hτ a,by omega,by rw[h.em];exact E.ml,by omega,by have:=e.t;omega,?_,?_⟩
 ·rw[h.em,h.es];exact E.dd
 ·rw[h.es];exact E.dl
theorem Bas.bgi(a:i<x.2.2.2.2.2.2.1.length)(o:(aF x i).2.1.1<=1000000000000):Bgi x i K:=by
 have g:=h.nd i a;have p:=h.now;refine⟨h.q,a,by rw[h.es];exact E.fl,by rw[h.es];exact E.op,by rw[h.em];exact E.ml,by omega,by have:=g.t;omega,λn _=>?_⟩;have l:i<(yc x i).2.2.2.2.2.2.1.length:=by show i<(bq _ _ _).length;rw[bL];exact a
 have e:aF (NU x i n) i=gD n (O0 (aF x i)):=(fh l).trans (congrArg (gD n) (fh a));refine⟨((h.snd E hK hτ a).mod (j:=i) (f:=O0)).mod (j:=i) (f:=gD n),by omega,by show dC x.2.1=true;rw[h.em];exact E.ml,by show 0<=x.2.2.2.2.2.1.2.2/\x.2.2.2.2.2.1.2.2<=_;omega,?_,?_,by show(x.2.2.1).2.2.2.2.2.2.1.length<=_;rw[h.es];exact E.op⟩
 ·rw[e];have:=g.t;show 0<=(aF x i).2.2.2.2.1/\(aF x i).2.2.2.2.1<=_;omega
 ·rw[e];exact⟨g.c.1,o⟩
end
section
variable {c:Mc} {m:ax} {s:jv} {B t K:Nat} {τ:Int} {b:Int} {x:Net} (E:Env c m s) (h:Inv c m s B t K τ x.2.2.2.2.2.2.1.length b x)
include E h
theorem Inv.tb:x.2.2.2.2.2.1.2.1.length+t<=B:=by
 obtain⟨v,_,j,q⟩:=h.vs;have e:0<c.M:=by
  have g:=E.ok.n;have n:=E.ok.S;have l:=E.ok.nw.2.2;have:0<c.n*c.S:=Int.mul_pos (by omega) (by omega);exact this
 have g:=E.n;have o:=wT E.ml;have p:0<=C_ v x.2.2.2.2.2.2.1.length:=aaW λi f=>(j i f (by omega)).nn E.ok (jS _ (by omega));have:=Int.le_of_mul_le_mul_left (a:=c.M) (b:=((x.2.2.2.2.2.1.2.1.length+t:Nat):Int)) (c:=(B:Int)) (by omega) e;omega
theorem Inv.aci{l:List je}(hK:K<=800000)(hτ:τ<=800000000000)(r:(e::l).Perm x.2.2.2.2.2.1.2.1)(v:Ko l)(o:∀z∈x.2.2.2.2.2.1.2.1,e.1<=z.1):Aci e (rX x l e.1) K:=by
 have I:=h.hw e (r.mem_iff.1 (.head _));have N:=wT E.ml;have en:=h.en;have A:=E.E;have n:=r.length_eq;rw[bw] at n;have P:=h.now;have g:Bas m s K τ (rX x l e.1):=⟨⟨h.q.made,by have:=h.q.len;show l.length<=_;omega,v⟩,h.em,h.es,h.en,⟨by show 0<=e.1;omega,by show e.1<=_;omega⟩,⟨h.ch.1.1,h.ch.2.1.1,h.ch.2.2⟩,h.sn.1,h.nd⟩;refine⟨by show(x.2.2.2.2.2.2.1).length<=_;omega,by show 0<x.2.2.2.2.2.2.1.length;omega,λk=>?_,λk=>?_⟩
 ·have O:=h.h3 e (r.mem_iff.1 (.head _)) k
  refine⟨⟨g.q,?_,?_,λj _ C=>?_⟩,e.2.2.2.toNat,by omega,by show e.2.2.2.toNat<x.2.2.2.2.2.2.2.2.2.1.length;omega⟩
  ·show(x.2.2.2.2.2.2.1).length<=x.2.2.1.2.2.2.1.length
   rw[h.es];have:=E.gt;omega
  ·have:=h.ch.1.1;have:=h.ch.2.1.1;exact⟨by show x.2.2.2.2.2.2.2.1.length<=_;omega,by show x.2.2.2.2.2.2.2.2.1.length<=_;omega⟩
  ·have:=(h.nd j C).t;show 0<=(aF x j).2.2.2.2.1/\(aF x j).2.2.2.2.1<=_;omega
 ·obtain⟨i,a,b,_⟩:=h.hi e (r.mem_iff.1 (.head _)) k
  refine⟨i,a,b,g.evi E hK hτ b,g.tki E hK hτ b,λy J D F G=>g.bgi E hK hτ b ?_⟩;obtain⟨_,_,H⟩:=(h.pop E r v o).2 i b k a y.symm;show(aF x i).2.1.1<=_;cases H with
  | a_ a q d=>cases q
  | beg t a e q s u p d=>injection q with q _;subst q;exact bX s (bX u A.2)
  | Ig t a f q p d=>injection q with q _;subst q;exact absurd rfl D
  | Gj a e s q u d=>cases q
  | Ih t a f Q q u d=>injection q with q _;subst q;exact absurd rfl F
  | off a q d=>cases q
  | pow t a f q d=>injection q with q _;subst q;exact absurd rfl G
theorem Inv.step(hK:K<=800000)(hτ:τ<=800000000000):CV (x,())=true/\(x.2.2.2.2.2.1.2.1≠ []->Inv c m s B (t+1) (K+9) (τ+16) (xq (x,())).1.2.2.2.2.2.2.1.length 0 (xq (x,())).1):=by
 obtain⟨p1,p2⟩:=abq h.q λe l j a f=>h.aci E hK hτ j a f;refine⟨p1,λg=>?_⟩;rcases p2 with ⟨k,_⟩|⟨e,l,j,a,f,p⟩
 ·exact absurd k g
 ·exact h.act E j a f p
end
theorem aj4(h:YA s=true):s.2.2.2.2.2.2.1.length<=300/\s.2.2.2.2.2.2.2.length<=300/\s.2.2.2.2.2.1.length<=1100:=by
 revert h;refine uB (t:=anf af s) (P:=λr=>r=true->s.2.2.2.2.2.2.1.length<=300/\s.2.2.2.2.2.2.2.length<=300/\s.2.2.2.2.2.1.length<=1100) ?_ (LT.gf (by rfl)) (LT.iI (by rfl));refine xD (λa=>xD (λb=>aD λd=>?_) λ_=>aD nofun) λ_=>aD nofun
 have d:=of_decide_eq_true d;rw[dV] at a b d;omega
theorem af4:(af3 l N).length=N:=by
 unfold af3;rw[mW,dV,dV,vG,iY,rz,I4]
 grind
theorem U8(h:j_ m=0):(oh m).2=0:=by
 show(LT.val (Ty.aS [yI,yI]) (Rh af m)).2=_;simp[Rh,bo,h];rfl
theorem adW(h:dC m=true):zQ m s=(dL m s,0):=by
 unfold zQ;rw[dn (U8 (u5.trans (vF.2 h)))];rfl
theorem adV(h:dC m=false):(zQ m s).2=70:=by
 have e:j_ m=70:=by rw[u5,lM,h];rfl
 have p:=Oi (m:=m) (by omega);unfold zQ
 simp_all
def ini(m:ax)(i:Nat):cr:=((rM m (i:Int)).1,(0,0, []),0,0,0,false,false,false)
def rU(m:ax)(k:Nat):List cr:=(List.range k).map (ini m)
theorem Bm{k:Nat}:(rU m k).length=k:=by rw[rU,bO,List.length_range]
theorem UT{k:Nat}:rU m (k+1)=rU m k ++ [ini m k]:=by rw[rU,List.range_succ,fG];rfl
theorem aen{k:Nat}(h:i<k):(rU m k).getD i dS=ini m i:=by
 rw[rU,xB,cy,pX h];rfl
theorem yz(h:dC m=true)(a:(i:Int)<m.1):(rM m (i:Int)).2=0/\(rM m (i:Int)).1.1=(i:Int)/\(rM m (i:Int)).1.2.1=0:=by
 unfold rM
 grind
def N9(m:ax)(s:jv)(r e:Int)(l:List cr):Net:=(true,m,s,r,e,(true, [],0),l, [], [], [], [])
def Np(m:ax)(s:jv):Int:=m.2.1*((s.1+2)*m.1+1)+4*(s.1*m.2.2.2.1)
theorem U1{x y:Int}(a:-9223372036854775808<=x*y)(e:x*y<=9223372036854775807):af.b .mul .i64 x y=x*y:=by rw[kP,lg a e]
theorem XN(h:dC m=true)(j:1<=s.1/\s.1<=16):af.c_ (af.b .mul .i64 m.2.1 (af.c_ (af.b .mul .i64 (af.c_ s.1 2) m.1) 1)) (af.b .mul .i64 4 (af.b .mul .i64 s.1 m.2.2.2.1))=Np m s/\0<=Np m s/\Np m s<=m.2.1*(18*m.1+1)+64*m.2.2.2.1/\Np m s<=100000000000:=by
 have g:=wT h;have a1:(s.1+2)*m.1<=18*m.1:=dY (by omega) (by omega);have a:0<=(s.1+2)*m.1:=gl (by omega) (by omega);have f:s.1*m.2.2.2.1<=16*m.2.2.2.1:=dY (by omega) (by omega);have e:0<=s.1*m.2.2.2.1:=gl (by omega) (by omega);have c1:m.2.1*((s.1+2)*m.1+1)<=m.2.1*(18*m.1+1):=fN (by omega) (by omega);have c0:0<=m.2.1*((s.1+2)*m.1+1):=gl (by omega) (by omega);have c2:m.2.1*(18*m.1+1)<=16777216*(18*m.1+1):=dY (by omega) (by omega);unfold Np;refine⟨?_,by omega,by omega,by omega⟩;rw[dG (x:=s.1) (by omega),U1 (x:=s.1+2) (by omega) (by omega),dG (x:=(s.1+2)*m.1) (by omega),U1 (x:=m.2.1) (by omega) (by omega),U1 (x:=s.1) (by omega) (by omega),U1 (x:=4) (by omega) (by omega),dG (by omega)]
theorem Uu{l:List cr}{v:cr}(h:l.length<=1000):af.bU (af.l (af.p l [v])) 502633886983=true:=iQ (by omega)
theorem ajY(h:dC m=true)(n:Ai (m,s)=true):LV (m,s)=true/\sS (m,s)=(true,N9 m (dL m s) (dL m s).1 (Np m (dL m s)) (rU m m.1.toNat),0):=by
 have p:=wT h;have o:1<=(dL m s).1/\(dL m s).1<=16:=by
  show 1<=af.mn (af.mx s.1 1) 16/\af.mn (af.mx s.1 1) 16<=16;rw[nW,tx];omega
 have a:=(XN (s:=dL m s) h o).1;refine jA (s:=Q0 af) (t:=VN af m s) (d:=(false,Ty.gw jH,Ty.aS [yI])) (P:=λr=>r=(true,N9 m (dL m s) (dL m s).1 (Np m (dL m s)) (rU m m.1.toNat),0)) ?_;have e:af.k JM (m,s)=(dL m s,0):=adW h;unfold VN;rw[e];have lp:∀(f k:Nat),m.1.toNat-k<=f->k<=m.1.toNat->Go (Q0 af) (Q0 af (.c3 ⟨m.1,m,m,dL m s,(dL m s).1,Np m (dL m s)⟩ (k:Int) (rU m k))) λr=>r=(true,N9 m (dL m s) (dL m s).1 (Np m (dL m s)) (rU m m.1.toNat),0):=by
  intro f
  induction f with
  | zero=>
    intro k j l;refine bT (λg=>absurd g (by grind)) λ_=>aD ?_;rw[show k=m.1.toNat by omega];rfl
  | succ f ih=>
    intro k j l;refine bT (λg=>?_) λg=>aD ?_
    ·have g:(k:Int)<m.1:=g
     obtain⟨n1,_⟩:=yz h g;have en:af.k wG (m,(k:Int))=rM m (k:Int):=rfl;rw[en,dG (by omega),show(k:Int)+1=((k+1:Nat):Int) from by omega];refine dM (λq=>absurd n1 q) λ_=>ah (Uu (by rw[Bm];omega)) (aZ ?_);have:=ih (k+1) (by omega) (by omega);rw[UT] at this;exact this
    ·have g:m.1<=(k:Int):=g
     rw[show k=m.1.toNat by omega];rfl
 refine ah n (dM (λg=>absurd rfl g) λ_=>aZ (bT (λg=>absurd g (by decide)) λ_=>aZ (bT (λg=>absurd g (by decide)) λ_=>?_)));rw[a];obtain⟨n1,_⟩:=yz (i:=0) h (by omega);have en:af.k wG (m,0)=rM m ((0:Nat):Int):=rfl;refine aZ (bT (λ_=>?_) λg=>absurd g (by grind));refine dM (λq=>absurd n1 q) λ_=>ah (tc (by show(1:Int)<=_;omega)) (aZ ?_);exact lp _ 1 (aj _) (by omega)
theorem ajX(h:dC m=false)(e:Ai (m,s)=true):LV (m,s)=true/\(sS (m,s)).1=false/\(sS (m,s)).2.2=70:=by
 refine jA (s:=Q0 af) (t:=VN af m s) (d:=(false,Ty.gw jH,Ty.aS [yI])) (P:=λr=>r.1=false/\r.2.2=70) ?_;have a:(af.k JM (m,s)).2=70:=adV h;exact ah e (dM (λ_=>aD ⟨rfl,a⟩) λg=>absurd (a.symm.trans g) (by decide))
theorem G4{r e:Int}{k:Nat}(h:i<k):aF (N9 m s r e (rU m k)) i=ini m i:=aen h
theorem oC{α:Type}{P:α->Prop}:∀e∈([]:List α),P e:=λe k=>absurd k aI
theorem ad4{r e:Int}(h:dC m=true)(g:0<=e)(p:C_ (λi=>(Tf m e).VL i 0+(Tf m e).tT e m.2.1) m.1.toNat<=(Tf m e).M*(B:Int)):Inv (Tf m e) m s B 0 0 0 m.1.toNat 0 (N9 m s r e (rU m m.1.toNat)):=by
 have o:=wT h;have n:(rU m m.1.toNat).length=m.1.toNat:=Bm;refine⟨⟨rfl,aX _,λj _ l=>absurd l (Nat.not_lt_zero _)⟩,rfl,rfl,rfl,by show((rU m m.1.toNat).length:Int)=m.1;omega,⟨al _,g⟩,al _,oC,oC,oC,⟨⟨aj _,oC⟩,⟨aj _,oC⟩,aj _⟩,⟨aj _,oC⟩,λi f=>?_,λ_=>rfl,λi=>(Tf m e).VL i 0+(Tf m e).tT e m.2.1,λq=>?_,λi f _=>?_,?_⟩
 ·have f:i<(rU m m.1.toNat).length:=f
  rw[G4 (by omega)];obtain⟨a,b,d⟩:=yz (i:=i) h (by omega);exact⟨Ti a,b,⟨al _,al _⟩,⟨al _,by show(0:Int)<=_;omega⟩,al _,by show([]:List Int).length<=8;decide⟩
 ·have q:m.1.toNat<(rU m m.1.toNat).length:=q
  omega
 ·have f:i<(rU m m.1.toNat).length:=f
  rw[G4 (by omega)];obtain⟨a,b,d⟩:=yz (i:=i) h (by omega);refine .off (.inl d) rfl ?_;show(Tf m e).VL i 0+(Tf m e).tT e (0+m.2.1)<=_;rw[Int.zero_add];exact al _
 ·show C_ _ (rU m m.1.toNat).length+(Tf m e).M*0<=_
  rw[n];omega
theorem ahz{S:Int}(h:cZ m n=0)(a:n.2.1=0)(f:0<=S/\S<=af.b .shl .i64 1 m.1-1)(e:qY S n.1=true):(EZ m n S).2=0/\(EZ m n S).1.1=n.1/\(EZ m n S).1.2.1=4/\(EZ m n S).1.2.2.1.2.1=0:=by
 unfold EZ;rw[dn h,cond_true,dn a,cond_true,dn f,cond_true,e,cond_true];exact⟨rfl,rfl,rfl,rfl⟩
def upY(n:Node)(t:Int)(y:cr):cr:=(n,(t,0, []),y.2.2)
structure NwI(c:Mc)(m:ax)(s:jv)(B k:Nat)(x:Net):Prop where
 inv:Inv c m s B 0 0 0 x.2.2.2.2.2.2.1.length 0 x
 w:x.2.2.2.2.2.1.2.2=0
 ev:∀e∈x.2.2.2.2.2.1.2.1,e.2.2.1<(k:Int)
 st:∀j,k<=j->j<x.2.2.2.2.2.2.1.length->aF x j=ini m j
theorem NwI.up{k:Nat}{S o:Int}(E:Env c m s)(h:NwI c m s B k x)(C:k<x.2.2.2.2.2.2.1.length)(X:0<=S/\S<=af.b .shl .i64 1 m.1-1)(W:qY S (k:Int)=true)(ho:0<=o/\o<=1048576)
  (p:qR (cH x (bq x.2.2.2.2.2.2.1 k (upY (EZ m (aF x k).1 S).1 (m.2.1+o)))) (vn x (m.2.1+o),4,(k:Int),0) y):NwI c m s B (k+1) y:=by
 have n:=E.ok;have hm:=wT E.ml;have V:=E.S;have hn:=E.n;have A:=h.st k (aj _) C;have l:=h.inv.nd k C;have t0:(aF x k).2.2.2.2.1=0:=by rw[A];rfl
 have s0:(aF x k).1.2.1=0:=by
  rw[A];exact(yz E.ml (by have:=h.inv.en;omega)).2.2
 have O:(aF x k).2.2.2.2.2.2.2=false:=by rw[A];rfl
 obtain⟨u1,u2,I,u4⟩:=ahz l.yA s0 X (by rw[l.id];exact W);have Y:lv x.2.2.2.2.2.1.2.1 k ((aF x k).2.2.2.2.1)=[]:=Zs λe g a b _=>by have:=h.ev e g;omega
 have H:m.2.1+o<=vn x (m.2.1+o)/\x.2.2.2.2.2.1.2.2<=vn x (m.2.1+o):=by unfold vn;split<;>omega
 have Z:Ce m k 0 (upY (EZ m (aF x k).1 S).1 (m.2.1+o) (aF x k)):=⟨anx l.yA u1,u2.trans l.id,l.t,⟨by show 0<=m.2.1+o;omega,by show m.2.1+o<=_;omega⟩,al _,by show([]:List Int).length<=8;decide⟩;have r:kh (EZ m (aF x k).1 S).1=true:=jM.2 (by rw[I];decide);have J:(0:Int)%c.n=0:=Int.zero_emod _;have F:=h.inv.mp (f:=upY (EZ m (aF x k).1 S).1 (m.2.1+o)) (d:=0) (al _) (.inr rfl) C (by omega) (al _) Z (al _) Y n p (by show ¬(4:Int)=3;decide) rfl t0.symm H.2 λv nv=>?_
 ·have l2:y.2.2.2.2.2.2.1.length=x.2.2.2.2.2.2.1.length:=p.kp.len.trans bL
  refine⟨by rw[l2];exact F.weak (aj _) (al _) (by omega),p.kp.w.trans h.w,λe g=>?_,λj hj hl=>?_⟩
  ·obtain⟨e',h',rfl,l1,l3,⟨rfl,Q,G⟩|⟨P,Q,G⟩⟩:=p
   ·rcases aG.1 (G.mem_iff.1 g) with rfl|g
    ·show(k:Int)<((k+1:Nat):Int);omega
    ·have:=h.ev e g;omega
   ·subst P
    have:=h.ev e g;omega
  ·rw[qR.aF p,gY (by omega)]
   exact h.st j (by omega) (by omega)
 ·have v0:c.VL k x.2.2.2.2.2.1.2.2+c.tT x.2.2.2.2.1 (x.2.2.2.2.2.1.2.2+c.S)<=v:=by
   have D:¬(2<=(aF x k).1.2.1/\(aF x k).1.2.1<=4):=by omega
   have N:=n.nn (i:=k) (e:=x.2.2.2.2.1) (t:=x.2.2.2.2.2.1.2.2);cases nv with
   | a_ a b d=>exact absurd (jM.1 a) D
   | beg t a e b s u p d=>exact absurd (jM.1 a) D
   | Ig t a e b p d=>exact absurd (jM.1 a) D
   | Gj a e s b u d=>omega
   | Ih t a e s b u d=>omega
   | off a b d=>exact d
   | pow t a e b d=>omega
  rw[h.w] at v0;have n1:=n.n1 (i:=k) (st:=m.2.1+o) (by omega);have N:=n.nn (i:=k) (e:=x.2.2.2.2.1) (t:=0+c.S);have M1:=n.nn (i:=k) (e:=x.2.2.2.2.1) (t:=0);refine⟨λq=>.beg _ r O (by rw[<-t0];rfl) H.1 (bX q h.inv.ee) ?_ ?_,λz _ _=>.a_ r rfl (by omega)⟩
  ·show(EZ m (aF x k).1 S).1.2.2.1.2.1=0%c.n
   rw[u4,J]
  ·show(bif decide ((EZ m (aF x k).1 S).1.2.1=4) then c.VA k (m.2.1+o) (c.W*(0%c.n)) else _)+c.tT x.2.2.2.2.1 (x.2.2.2.2.2.1.2.2+c.S)<=_
   rw[I,J,Int.mul_zero,h.w,show decide ((4:Int)=4)=true from rfl,cond_true];omega
theorem aaO(h:4<=l.length/\l.length<=8):(0<=tJ l 0 0/\tJ l 0 0<=af.b .shl .i64 1 (l.length:Int)-1)/\∀i,i<l.length->l.getD i false=true->qY (tJ l 0 0) (i:Int)=true:=by
 have a:=Q7 h;obtain⟨b,d⟩:=(fv _ _).mp a;refine⟨of_decide_eq_true b,λi e k=>?_⟩;have:=bH.1 d i (gm.2 e);rw[k] at this;exact this
theorem OF(h:l.length<=i){s:Int}:tJ (l.drop i) i s=s:=by rw[List.drop_eq_nil_of_le h];rfl
theorem akX{p:WQ}{P:Bool×Net×Int->Prop}(n:p.a1=l)(j:p.a2=(l.length:Int))(r:l.length<=1000)
  (T:∀z,z=tJ l 0 0->Go (Je af) (.ao (.c1 ⟨z,p.a5.2.2.1.2.1,af.l p.a5.2.2.1.2.1,p.a4⟩ 0 p.a5)) P) :
  ∀(f i:Nat) (z:Int),l.length-i<=f->i<=l.length->tJ (l.drop i) i z=tJ l 0 0->Go (Je af) (Je af (.c0 p z (i:Int))) P:=by
 intro f
 induction f with
 | zero=>
   intro i z o q a;rw[OF (by omega)] at a;exact bT (λg=>absurd g (by rw[j];omega)) λ_=>T z a
 | succ f ih=>
   intro i z o q a;refine bT (λg=>?_) λg=>T z (by rw[OF (by rw[j] at g;omega)] at a;exact a);have e:i<l.length:=by rw[j] at g;omega
   rw[Cg e,tJ] at a;have en:(af.n .bool p.a1 (i:Int):Bool)=l[i]:=by rw[n];exact fM e _
   refine ah (by rw[n];exact da (l:=l) (by omega)) ?_;rw[en,dG (by omega),show(i:Int)+1=((i+1:Nat):Int) from by omega];refine fJ (λk=>ah (by rw[aB];exact dn (by omega)) (aZ (ih (i+1) _ (by omega) (by omega) ?_))) λk=>aZ (ih (i+1) z (by omega) (by omega) ?_)
   ·rw[k] at a;exact a
   ·rw[k] at a;exact a
theorem akY{p:Kr}(E:Env c m s)(H:p.b0=tJ l 0 0)(I:p.b1=l)(y:p.b2=(l.length:Int))(z:p.b4=m)(u:(l.length:Int)=m.1)(ho:(s.2.2.1.length:Int)=m.1)(A:∀v∈s.2.2.1,0<=v/\v<=1048576):∀(f k:Nat) (x:Net),l.length-k<=f->k<=l.length->NwI c m s B k x->Go (Je af) (Je af (.c1 p (k:Int) x)) λr=>r.1=true/\r.2.2=0/\NwI c m s B l.length r.2.1:=by
 have hm:=wT E.ml;have D:=aaO (l:=l) (by omega);intro f
 induction f with
 | zero=>
   intro k x V W h;refine bT (λg=>absurd g (by rw[y];omega)) λ_=>aD ⟨rfl,rfl,?_⟩;rw[show l.length=k by omega];exact h
 | succ f ih=>
   intro k x V W h;refine bT (λg=>?_) λg=>aD ⟨rfl,rfl,by rw[show l.length=k by rw[y] at g;omega];exact h⟩;have n:k<l.length:=by rw[y] at g;omega
   have en:=h.inv.en;have a:k<x.2.2.2.2.2.2.1.length:=by omega
   have Z:af.c_ (k:Int) 1=((k+1:Nat):Int):=by rw[dG (by omega)];omega
   have P:(af.n .bool p.b1 (k:Int):Bool)=l[k]:=by rw[I];exact fM n _
   have G:(af.n bP x.2.2.2.2.2.2.1 (k:Int):cr)=aF x k:=jC;have N:Rl af p (k:Int) x=bq x.2.2.2.2.2.2.1 k (gD (EZ m (aF x k).1 (tJ l 0 0)).1):=by
    unfold Rl;rw[G,z,H];exact vW
   have o:(af.n yI x.2.2.1.2.2.1 (k:Int):Int)=s.2.2.1.getD k 0:=by
    rw[h.inv.es];show(s.2.2.1).getD (k:Int).toNat _=_;rw[rz];rfl
   have C:0<=s.2.2.1.getD k 0/\s.2.2.1.getD k 0<=1048576:=by
    rw[xB,EK (by omega)];exact A _ (cN _)
   have O:Ar af p (k:Int) x=bq x.2.2.2.2.2.2.1 k (upY (EZ m (aF x k).1 (tJ l 0 0)).1 (m.2.1+s.2.2.1.getD k 0)):=by
    unfold Ar;rw[N,o,z,dG (by omega)];exact jO.trans ((mod_mod a).trans rfl)
   have X:yW (cH x (bq x.2.2.2.2.2.2.1 k (upY (EZ m (aF x k).1 (tJ l 0 0)).1 (m.2.1+s.2.2.1.getD k 0)))):=⟨h.inv.q.made,h.inv.q.len,h.inv.q.heap⟩;have sk:aF (cH x (bq x.2.2.2.2.2.2.1 k (upY (EZ m (aF x k).1 (tJ l 0 0)).1 (m.2.1+s.2.2.1.getD k 0)))) k=upY (EZ m (aF x k).1 (tJ l 0 0)).1 (m.2.1+s.2.2.1.getD k 0) (aF x k):=fh a;obtain⟨q1,J⟩:=GJ (t:=m.2.1+s.2.2.1.getD k 0) (k:=4) (i:=k) X (by show k<(bq _ _ _).length;rw[bL];exact a) (by decide);rw[sk,show(upY (EZ m (aF x k).1 (tJ l 0 0)).1 (m.2.1+s.2.2.1.getD k 0) (aF x k)).2.2.2.2.1=(aF x k).2.2.2.2.1 from rfl,show(aF x k).2.2.2.2.1=0 by rw[h.st k (aj _) a];rfl] at J;rw[P,Z,O,G,z,H,show(af.n bP (bq x.2.2.2.2.2.2.1 k (upY (EZ m (aF x k).1 (tJ l 0 0)).1 (m.2.1+s.2.2.1.getD k 0))) (k:Int):cr).2.1.1=m.2.1+s.2.2.1.getD k 0 by rw[BE a];rfl];have Y:=ahz (h.inv.nd k a).yA (by rw[h.st k (aj _) a];exact(yz E.ml (by omega)).2.2) (S:=tJ l 0 0) (by rw[<-u];exact D.1);refine ah (by rw[I];exact da (l:=l) (by omega)) (du (λ_=>aZ (ih (k+1) x (by omega) (by omega) ⟨h.inv,h.w,λe Q=>by have:=h.ev e Q;omega,λj hj u=>h.st j (by omega) u⟩)) λb=>ah (da (l:=x.2.2.2.2.2.2.1) (by omega)) ?_);have F:qY (tJ l 0 0) (k:Int)=true:=D.2 k n (by rw[xB,EK n];exact b);have u0:=(Y (by rw[(h.inv.nd k a).id];exact F)).1;refine dM (λq=>absurd u0 q) λ_=>ah ?_ (ah q1 (ah (pT a) (aZ (ih (k+1) _ (by omega) (by omega) ?_))))
   ·show af.and (af.bU 0 (k:Int)) (af.bG (k:Int) (af.l x.2.2.1.2.2.1))=true
    rw[h.inv.es];exact da (l:=s.2.2.1) (by omega)
   ·exact h.up E a (by rw[<-u];exact D.1) F C J
theorem aaj(h:dC m=true):0<=(oh m).1/\(oh m).1<=1048576:=by
 have j:=wT h;have f:=u5.trans (vF.2 h);have a:0<=m.1*m.2.2.2.2.1:=gl (by omega) (by omega);have e:m.1*m.2.2.2.2.1<=8*m.2.2.2.2.1:=dY (by omega) (by omega);refine uB (t:=Rh af m) (P:=λr=>0<=r.1/\r.1<=1048576) ?_ (LT.gf (by kernel_rfl)) (LT.iI (by kernel_rfl));refine dM (λg=>absurd f g) λ_=>aD ?_;show 0<=af.c_ (af.b .mul .i64 (af.b .mul .i64 14 m.1) m.2.2.2.2.1) 8/\af.c_ (af.b .mul .i64 (af.b .mul .i64 14 m.1) m.2.2.2.2.1) 8<=1048576;rw[U1 (x:=14) (by omega) (by omega),U1 (x:=14*m.1) (by rw[Int.mul_assoc];omega) (by rw[Int.mul_assoc];omega),Int.mul_assoc,dG (by omega)];omega
theorem akU(h:dC m=true)(u:Ai (m,s)=true):GF (m,s)=true/\(nL (m,s)).1=true/\(nL (m,s)).2.2=0/\Inv (Tf m (Np m (dL m s))) m (dL m s) 19999 0 0 0 (nL (m,s)).2.1.2.2.2.2.2.2.1.length 0 (nL (m,s)).2.1:=by
 have H:=wT h;obtain⟨D,F⟩:=ajY h u;have y:1<=(dL m s).1/\(dL m s).1<=16:=by
  show 1<=af.mn (af.mx s.1 1) 16/\af.mn (af.mx s.1 1) 16<=16;rw[nW,tx];split<;>split<;>omega
 have e:=(XN (s:=dL m s) h y).2;have E:=XQ (E:=Np m (dL m s)) (s:=s) h ⟨e.1,by omega⟩;have G:=(E.ok.sum (N:=m.1.toNat) (by show((m.1.toNat:Nat):Int)=m.1;omega) e.1).1 e.2.1;have I:=ad4 (B:=19999) (s:=dL m s) (r:=(dL m s).1) h e.1 G;refine jA (s:=Je af) (t:=VM af m s) (d:=(false,Ty.gw jH,Ty.aS [yI])) (P:=λr=>r.1=true/\r.2.2=0/\Inv (Tf m (Np m (dL m s))) m (dL m s) 19999 0 0 0 r.2.1.2.2.2.2.2.2.1.length 0 r.2.1) ?_;have q:af.k sS (m,s)=(true,N9 m (dL m s) (dL m s).1 (Np m (dL m s)) (rU m m.1.toNat),0):=F;unfold VM;rw[q];have J:(dL m s).2.1.length=m.1.toNat:=af4;refine ah D (fJ (λ_=>dM (λg=>absurd rfl g) λ_=>aZ ?_) nofun);have nw:NwI (Tf m (Np m (dL m s))) m (dL m s) 19999 0 (N9 m (dL m s) (dL m s).1 (Np m (dL m s)) (rU m m.1.toNat)):=by
  refine⟨?_,rfl,oC,λj _ f=>G4 (by have f:j<(rU m m.1.toNat).length:=f;rwa [Bm] at f)⟩;show Inv _ _ _ _ _ _ _ (rU m m.1.toNat).length _ _;rw[Bm];exact I
 refine akX (l:=(dL m s).2.1) rfl rfl (by omega) (λz C=>aZ ?_) _ 0 0 (aj _) (aX _) (by rw[mR]);refine(akY (p:=⟨z,(dL m s).2.1,af.l (dL m s).2.1,m⟩) (l:=(dL m s).2.1) E C rfl rfl rfl (by omega) ?_ ?_ _ 0 (N9 m (dL m s) (dL m s).1 (Np m (dL m s)) (rU m m.1.toNat)) (aj _) (aX _) nw).mono λr a=>⟨a.1,a.2.1,a.2.2.inv⟩
 ·show((rowP s.2.2.1 m.1.toNat 0 (oh m).1 0).length:Int)=m.1
  rw[BN];omega
 ·have o:=aaj h
  exact λv A=>by
   have:=TJ (l:=s.2.2.1) (n:=m.1.toNat) (lo:=0) (hi:=(oh m).1) (ms:=0) o.1 ⟨al _,o.1⟩ v A;omega
theorem akT(h:dC m=false)(f:Ai (m,s)=true):GF (m,s)=true/\(nL (m,s)).1=false/\(nL (m,s)).2.2=70:=by
 obtain⟨j,e,a⟩:=ajX h f;refine jA (s:=Je af) (t:=VM af m s) (d:=(false,Ty.gw jH,Ty.aS [yI])) (P:=λr=>r.1=false/\r.2.2=70) ?_;have e:(af.k sS (m,s)).1=false:=e;have a:(af.k sS (m,s)).2.2=70:=a;refine ah j (fJ (λk=>absurd (e.symm.trans k) (by decide)) λ_=>dM (λ_=>aD ⟨rfl,a⟩) λg=>absurd (a.symm.trans g) (by decide))
theorem Tv(h:x.1=true)(f:x.2.2.2.2.2.1.1=true):GG (x,())=true/\mY (x,())=(x,decide (x.2.2.2.2.2.1.2.1.length=0)):=by
 obtain⟨g,j⟩:=aeB f;refine iC (s:=Empty.elim) (t:=abO af x) (d:=(Ty.aS [jH],Ty.aS [.bool])) (P:=λr=>r=(x,decide (x.2.2.2.2.2.1.2.1.length=0))) ?_ λr e=>by rw[e]
 have a:af.k NO (x.2.2.2.2.2.1,())=(x.2.2.2.2.2.1,(x.2.2.2.2.2.1.2.1.length:Int)):=j;unfold abO;rw[a];refine du (λk=>absurd (h.symm.trans k) (by decide)) λ_=>ah g (aD ?_);show(x,af.bK (x.2.2.2.2.2.1.2.1.length:Int) 0)=_;rw[bd];congr 1;exact decide_eq_decide.2 (by omega)
theorem ZN(h:x.1=true)(v:x.2.2.2.2.2.2.1.length<=1000)(u:∀i,i<x.2.2.2.2.2.2.1.length->cZ m (aF x i).1=0):Qy (x,())=true/\FU (x,())=(x,x.2.2.2.2.2.2.1.map Prod.fst):=by
 refine iC (s:=Vt af) (t:=afG af x) (d:=(Ty.aS [jH],Ty.aS [.slice eT])) (P:=λr=>r=(x,x.2.2.2.2.2.2.1.map Prod.fst)) ?_ λr e=>by rw[e]
 have cl:∀i,i<x.2.2.2.2.2.2.1.length->af.k Aj (af.n bP x.2.2.2.2.2.2.1 (i:Int):cr).1=true:=λi p=>by rw[jC];exact Tl (u i p)
 have id:∀n:Node,af.k xr n=n:=λ_=>rfl;have lp:∀(f k:Nat),x.2.2.2.2.2.2.1.length-k<=f->k<=x.2.2.2.2.2.2.1.length->Go (Vt af) (Vt af (.c1 ⟨af.l x.2.2.2.2.2.2.1,x⟩ (k:Int) ((x.2.2.2.2.2.2.1.take k).map Prod.fst))) λr=>r=(x,x.2.2.2.2.2.2.1.map Prod.fst):=by
  intro f
  induction f with
  | zero=>
    intro k o q;refine bT (λg=>absurd g (by show ¬(k:Int)<(x.2.2.2.2.2.2.1.length:Int);omega)) λ_=>aD ?_;rw[show k=x.2.2.2.2.2.2.1.length by omega,dW]
  | succ f ih=>
    intro k o q;refine bT (λg=>?_) λg=>aD ?_
    ·have g:(k:Int)<(x.2.2.2.2.2.2.1.length:Int):=g
     have a:k<x.2.2.2.2.2.2.1.length:=by omega
     have e:af.p ((x.2.2.2.2.2.2.1.take k).map Prod.fst) [(af.n bP x.2.2.2.2.2.2.1 (k:Int):cr).1]=(x.2.2.2.2.2.2.1.take (k+1)).map Prod.fst:=by
      rw[show(af.n bP x.2.2.2.2.2.2.1 (k:Int):cr)=x.2.2.2.2.2.2.1[k] from fM a _,bi a,fG];rfl
     have j:=ih (k+1) (by omega) (by omega);rw[<-e,show((k+1:Nat):Int)=af.c_ (k:Int) 1 from by rw[dG (by omega)];omega] at j;exact ah (da (l:=x.2.2.2.2.2.2.1) (by omega)) (ah (cl k a) (ah (iQ (by rw[bO,cd];omega)) (aZ j)))
    ·have g:(x.2.2.2.2.2.2.1.length:Int)<=(k:Int):=g
     rw[show k=x.2.2.2.2.2.2.1.length by omega,dW]
 refine fJ (λ_=>aZ (bT (λg=>?_) λg=>aD ?_)) λk=>absurd (h.symm.trans k) (by decide)
 ·have g:(0:Int)<(x.2.2.2.2.2.2.1.length:Int):=g
  have e:([(af.n bP x.2.2.2.2.2.2.1 ((0:Nat):Int):cr).1]:List Node)=(x.2.2.2.2.2.2.1.take 1).map Prod.fst:=by
   rw[show(af.n bP x.2.2.2.2.2.2.1 ((0:Nat):Int):cr)=x.2.2.2.2.2.2.1[0] from fM (i:=0) (show 0<x.2.2.2.2.2.2.1.length by omega) _,bi (show 0<x.2.2.2.2.2.2.1.length by omega)];rfl
  have:=lp _ 1 (aj _) (by omega);rw[<-e] at this;exact ah (da (l:=x.2.2.2.2.2.2.1) (i:=0) (by omega)) (ah (cl 0 (by omega)) (ah (tc (by show(1:Int)<=_;omega)) (aZ this)))
 ·have g:(x.2.2.2.2.2.2.1.length:Int)<=0:=g
  have e:x.2.2.2.2.2.2.1.map Prod.fst=[]:=by rw[cB.1 (show(x.2.2.2.2.2.2.1).length=0 by omega)];rfl
  rw[e]
theorem adO:LM ()=true:=by kernel_rfl
theorem adN:JO ()=true:=by kernel_rfl
theorem RB.w(h:RB x i y):y.2.2.2.2.2.1.2.2=x.2.2.2.2.2.1.2.2:=(qR.kp h).w
theorem RP.w{on:Bool}(h:RP x i on y):y.2.2.2.2.2.1.2.2=x.2.2.2.2.2.1.2.2:=by
 rcases h with ⟨_,rfl⟩|⟨_,⟨_,rfl⟩|⟨_,p⟩⟩
 ·rfl
 ·rfl
 ·have q:=RB.w p
  exact q
theorem O5.w:∀{f k:Nat} {x y:Net},O5 f k x y->y.2.2.2.2.2.1.2.2=x.2.2.2.2.2.1.2.2
 | 0,_,_,_,h=>by rw[show _=_ from h]
 | f+1,k,x,y,⟨z,p,q⟩=>(O5.w q).trans (by
   rcases p with rfl|⟨_,_,_,p⟩
   ·rfl
   ·exact RP.w p)
theorem Evl.w(h:Evl x i y):y.2.2.2.2.2.1.2.2=x.2.2.2.2.2.1.2.2:=by
 rcases h with ⟨_,rfl⟩|⟨_,u,z,a,_,b,c⟩
 ·rfl
 have a:u.2.2.2.2.2.1.2.2=x.2.2.2.2.2.1.2.2:=by rcases a with rfl|⟨_,_,_,_,rfl⟩<;>rfl
 have b:z.2.2.2.2.2.1.2.2=u.2.2.2.2.2.1.2.2:=by
  rcases b with rfl|⟨_,_,b⟩
  ·rfl
  ·have q:=O5.w b
   exact q
 have c:y.2.2.2.2.2.1.2.2=z.2.2.2.2.2.1.2.2:=by
  rcases c with ⟨rfl,_⟩|⟨_,_,rfl|⟨_,_,_,_,_,_,p⟩⟩
  ·rfl
  ·rfl
  ·exact(qR.kp p).w
 exact c.trans (b.trans a)
theorem Tck.w(h:Tck x i y):y.2.2.2.2.2.1.2.2=x.2.2.2.2.2.1.2.2:=by
 rcases h with ⟨_,rfl⟩|⟨_,⟨_,_,_,p⟩|⟨_,u,e,p⟩⟩
 ·rfl
 ·exact(qR.kp p).w
 ·exact(qR.kp p).w.trans (oy.kp e).w
theorem RQ.w{r:Net×Bool}(h:RQ x i r):r.1.2.2.2.2.2.1.2.2=x.2.2.2.2.2.1.2.2:=by
 rcases h with ⟨_,rfl⟩|⟨_,y,f,a⟩
 ·rfl
 have e:y.2.2.2.2.2.1.2.2=x.2.2.2.2.2.1.2.2:=by
  rcases f with ⟨_,f⟩|⟨_,rfl⟩
  ·have q:=RB.w f
   exact q
  ·rfl
 rcases a with ⟨_,rfl⟩|⟨_,_,a⟩
 ·exact e
 ·exact(oy.kp a).w.trans e
theorem Bgn.w(h:Bgn x i y):y.2.2.2.2.2.1.2.2=x.2.2.2.2.2.1.2.2:=by
 rcases h with ⟨_,rfl⟩|⟨_,rfl|p|⟨n,_,z,d,p⟩⟩
 ·rfl
 ·rfl
 ·exact RP.w p
 ·have d:z.2.2.2.2.2.1.2.2=x.2.2.2.2.2.1.2.2:=(oy.kp d.1).w
  rcases p with ⟨_,r,s,⟨_,rfl⟩|⟨_,p⟩⟩|⟨_,p⟩
  ·exact(RQ.w s).trans d
  ·exact(qR.kp p).w.trans ((RQ.w s).trans d)
  ·exact(qR.kp p).w.trans d
theorem Pn.w{s:sr}:∀{f k:Nat} {x y:Net},Pn s f k x y->y.2.2.2.2.2.1.2.2=x.2.2.2.2.2.1.2.2
 | 0,_,_,_,h=>by rw[show _=_ from h]
 | f+1,k,x,y,⟨z,p,q⟩=>(Pn.w q).trans (by
   rcases p with rfl|⟨_,_,_,_,_,⟨_,rfl⟩|⟨_,rfl|⟨_,p⟩⟩⟩
   ·rfl
   ·rfl
   ·rfl
   ·exact(qR.kp p).w)
theorem Stp.w(h:Stp x y)(g:∀e∈x.2.2.2.2.2.1.2.1,x.2.2.2.2.2.1.2.2<=e.1):x.2.2.2.2.2.1.2.2<=y.2.2.2.2.2.1.2.2:=by
 rcases h with ⟨_,rfl⟩|⟨e,l,f,_,_,p⟩
 ·exact al _
 ·have a:y.2.2.2.2.2.1.2.2=e.1:=by
   rcases p with ⟨_,p⟩|⟨_,⟨_,rfl⟩|⟨_,_,⟨_,p⟩|⟨_,p⟩|⟨_,p⟩|⟨_,_,_,p⟩⟩⟩
   ·exact Pn.w p
   ·rfl
   ·exact Evl.w p
   ·exact Tck.w p
   ·exact RP.w p
   ·exact Bgn.w p
  rw[a];exact g e (f.mem_iff.1 (.head _))
theorem afg{s:dF}(h:EH s):Sc s=0:=by
 obtain⟨f,⟨a,b⟩,l,n,d⟩:=s;obtain⟨e,j,o,u⟩:=h;have e:0<=f/\f<=7:=e;have j:0<=a/\a<=b/\b<=1099511627776:=j;have o:0<=l/\l<=200:=o;have p:Ye (a,b)=0:=uB (t:=ame af a b) (P:=λr=>r=0) (bT (λg=>absurd g (by omega)) λ_=>bT (λg=>absurd g (by omega)) λ_=>pQ (λg=>absurd g (by omega)) λ_=>aD rfl) (LT.gf (by kernel_rfl)) (LT.iI (by kernel_rfl));have q:akb (n,d)=0:=by
  show(bif jg (n,d) then(0:Int) else 10)=0;rw[show jg (n,d)=true from u];rfl
 exact uB (t:=amc af f a b l n d) (P:=λr=>r=0) (bT (λg=>absurd g (by omega)) λ_=>oO (λg=>absurd g (by omega)) λ_=>dM (λg=>absurd p g) λ_=>bT (λg=>absurd g (by omega)) λ_=>pQ (λg=>absurd g (by omega)) λ_=>dM (λg=>absurd q g) λ_=>aD rfl) (LT.gf (by kernel_rfl)) (LT.iI (by kernel_rfl))
def Kx(x:Net)(r:Net×List dF):Prop:=r.1=x/\r.2.length<=1000000/\∀s∈r.2,EH s
theorem TQ{l:List dF}(h:∀s∈l,EH s)(a:i<l.length):∀z∈([((af.n eU l (i:Int):dF).1,(af.n eU l (i:Int):dF).2.1,(af.n eU l (i:Int):dF).2.2.1,(af.n eU l (i:Int):dF).2.2.2.1,(af.k lq (af.n eU l (i:Int):dF).2.2.2.2))]:List dF),EH z:=λz e=>by
 rw[aJ.1 e,Lw a];exact h _ (cN a)
theorem alG{p:RH}(r:x.2.2.2.2.2.1.1=true)(e:p.b0=(x.2.2.2.2.2.2.2.1.length:Int))(C:x.2.2.2.2.2.2.2.1.length<=1000000)(u:∀s∈x.2.2.2.2.2.2.2.1,EH s):∀(f i:Nat) (l:List dF),x.2.2.2.2.2.2.2.1.length-i<=f->i<=x.2.2.2.2.2.2.2.1.length->l.length<=i->(∀s∈l,EH s)->Go (D8 af) (D8 af (.c1 p (i:Int) x l)) (Kx x):=by
 intro f
 induction f with
 | zero=>intro i l n q o a;exact bT (λg=>absurd g (by rw[e];omega)) λ_=>aD ⟨rfl,by show l.length<=_;omega,a⟩
 | succ f ih=>
   intro i l n q o a;obtain⟨y,A⟩:=rG r;have j:af.k dX (x.2.2.2.2.2.1,())=(x.2.2.2.2.2.1,x.2.2.2.2.2.1.2.2):=A;refine bT (λg=>?_) λ_=>aD ⟨rfl,by show l.length<=_;omega,a⟩;have g:i<x.2.2.2.2.2.2.2.1.length:=by rw[e] at g;omega
   rw[j,dG (x:=(i:Int)) (by omega),show(i:Int)+1=((i+1:Nat):Int) from by omega];refine ah (da (l:=x.2.2.2.2.2.2.2.1) (by omega)) (ah y (oO (λ_=>ah (iQ (by omega)) (aZ (ih (i+1) _ (by omega) (by omega) ?_ λz v=>?_))) λ_=>aZ (ih (i+1) l (by omega) (by omega) (by omega) a)))
   ·show(l ++ [_]).length<=_
    rw[qS,bg];omega
   ·exact(nY.1 v).elim (a z) (TQ u g z)
theorem alF{p:RG}(e:x.2.2.2.2.2.1.1=true)(a:p.a0=(x.2.2.2.2.2.2.2.1.length:Int))(q:x.2.2.2.2.2.2.2.1.length<=1000000)(j:∀s∈x.2.2.2.2.2.2.2.1,EH s):∀(f i:Nat),x.2.2.2.2.2.2.2.1.length-i<=f->Go (D8 af) (D8 af (.c0 p (i:Int) x)) (Kx x):=by
 intro f
 induction f with
 | zero=>intro i o;exact bT (λg=>absurd g (by rw[a];omega)) λ_=>aD ⟨rfl,aX _,oC⟩
 | succ f ih=>
   intro i o;obtain⟨r,u⟩:=rG e;have n:af.k dX (x.2.2.2.2.2.1,())=(x.2.2.2.2.2.1,x.2.2.2.2.2.1.2.2):=u;refine bT (λg=>?_) λ_=>aD ⟨rfl,aX _,oC⟩;have g:i<x.2.2.2.2.2.2.2.1.length:=by rw[a] at g;omega
   rw[n,dG (x:=(i:Int)) (by omega),show(i:Int)+1=((i+1:Nat):Int) from by omega];exact ah (da (l:=x.2.2.2.2.2.2.2.1) (by omega)) (ah r (oO (λ_=>ah (tc (by show(1:Int)<=_;omega)) (aZ (alG (p:=⟨p.a0⟩) e a q j f (i+1) _ (by omega) (by omega) (by show 1<=i+1;omega) (TQ j g)))) λ_=>aZ (ih (i+1) (by omega))))
theorem alH(f:x.1=true)(j:x.2.2.2.2.2.1.1=true)(g:x.2.2.2.2.2.2.2.1.length<=1000000)(l:∀s∈x.2.2.2.2.2.2.2.1,EH s):LQ (x,0)=true/\Kx x (K7 (x,0)):=by
 obtain⟨a,e⟩:=iC (x:=x) (s:=D8 af) (t:=Ub af x 0) (d:=(Ty.aS [jH],Ty.aS [.slice eU])) (P:=Kx x) (du (λk=>absurd (f.symm.trans k) (by decide)) λ_=>aZ (alF j rfl g l _ 0 (aj _))) λr h=>by rw[h.1]
 rw[fv] at a;refine⟨?_,e⟩;show(decide ((0:Int)=0)&&gu _ _&&_)=true;rw[a.1];exact a.2
theorem alJ{p:RJ}(r:x.2.2.2.2.2.1.1=true)(e:p.b0=(x.2.2.2.2.2.2.2.2.1.length:Int))(C:x.2.2.2.2.2.2.2.2.1.length<=1000000)(u:∀s∈x.2.2.2.2.2.2.2.2.1,EH s):∀(f i:Nat) (l:List dF),x.2.2.2.2.2.2.2.2.1.length-i<=f->i<=x.2.2.2.2.2.2.2.2.1.length->l.length<=i->(∀s∈l,EH s)->Go (D9 af) (D9 af (.c1 p (i:Int) x l)) (Kx x):=by
 intro f
 induction f with
 | zero=>intro i l n q o a;exact bT (λg=>absurd g (by rw[e];omega)) λ_=>aD ⟨rfl,by show l.length<=_;omega,a⟩
 | succ f ih=>
   intro i l n q o a;obtain⟨y,A⟩:=rG r;have j:af.k dX (x.2.2.2.2.2.1,())=(x.2.2.2.2.2.1,x.2.2.2.2.2.1.2.2):=A;refine bT (λg=>?_) λ_=>aD ⟨rfl,by show l.length<=_;omega,a⟩;have g:i<x.2.2.2.2.2.2.2.2.1.length:=by rw[e] at g;omega
   rw[j,dG (x:=(i:Int)) (by omega),show(i:Int)+1=((i+1:Nat):Int) from by omega];refine ah (da (l:=x.2.2.2.2.2.2.2.2.1) (by omega)) (ah y (oO (λ_=>ah (iQ (by omega)) (aZ (ih (i+1) _ (by omega) (by omega) ?_ λz v=>?_))) λ_=>aZ (ih (i+1) l (by omega) (by omega) (by omega) a)))
   ·show(l ++ [_]).length<=_
    rw[qS,bg];omega
   ·exact(nY.1 v).elim (a z) (TQ u g z)
theorem alI{p:RI}(e:x.2.2.2.2.2.1.1=true)(a:p.a0=(x.2.2.2.2.2.2.2.2.1.length:Int))(q:x.2.2.2.2.2.2.2.2.1.length<=1000000)(j:∀s∈x.2.2.2.2.2.2.2.2.1,EH s):∀(f i:Nat),x.2.2.2.2.2.2.2.2.1.length-i<=f->Go (D9 af) (D9 af (.c0 p (i:Int) x)) (Kx x):=by
 intro f
 induction f with
 | zero=>intro i o;exact bT (λg=>absurd g (by rw[a];omega)) λ_=>aD ⟨rfl,aX _,oC⟩
 | succ f ih=>
   intro i o;obtain⟨r,u⟩:=rG e;have n:af.k dX (x.2.2.2.2.2.1,())=(x.2.2.2.2.2.1,x.2.2.2.2.2.1.2.2):=u;refine bT (λg=>?_) λ_=>aD ⟨rfl,aX _,oC⟩;have g:i<x.2.2.2.2.2.2.2.2.1.length:=by rw[a] at g;omega
   rw[n,dG (x:=(i:Int)) (by omega),show(i:Int)+1=((i+1:Nat):Int) from by omega];exact ah (da (l:=x.2.2.2.2.2.2.2.2.1) (by omega)) (ah r (oO (λ_=>ah (tc (by show(1:Int)<=_;omega)) (aZ (alJ (p:=⟨p.a0⟩) e a q j f (i+1) _ (by omega) (by omega) (by show 1<=i+1;omega) (TQ j g)))) λ_=>aZ (ih (i+1) (by omega))))
theorem alK(f:x.1=true)(j:x.2.2.2.2.2.1.1=true)(g:x.2.2.2.2.2.2.2.2.1.length<=1000000)(l:∀s∈x.2.2.2.2.2.2.2.2.1,EH s):LS (x,1)=true/\Kx x (K8 (x,1)):=by
 obtain⟨a,e⟩:=iC (x:=x) (s:=D9 af) (t:=Uc af x 1) (d:=(Ty.aS [jH],Ty.aS [.slice eU])) (P:=Kx x) (du (λk=>absurd (f.symm.trans k) (by decide)) λ_=>aZ (alI j rfl g l _ 0 (aj _))) λr h=>by rw[h.1]
 rw[fv] at a;refine⟨?_,e⟩;show(decide ((1:Int)=1)&&gu _ _&&_)=true;rw[a.1];exact a.2
theorem afh{k:Int}(e:x.1=true)(g:x.2.2.2.2.2.1.1=true)(f:x.2.2.2.2.2.2.2.1.length<=1000000/\x.2.2.2.2.2.2.2.2.1.length<=1000000)(n:∀s∈x.2.2.2.2.2.2.2.1,EH s)(o:∀s∈x.2.2.2.2.2.2.2.2.1,EH s):LP (x,k)=true/\Kx x (Bd (x,k))/\(k=0\/k=1\/(Bd (x,k)).2=[]):=by
 by_cases a:k=0
 ·subst a
  obtain⟨a,b⟩:=alH e g f.1 n;exact⟨a,b,.inl rfl⟩
 by_cases b:k=1
 ·subst b
  obtain⟨a,b⟩:=alK e g f.2 o;exact⟨a,b,.inr (.inl rfl)⟩
 have j:LP (x,k)=LU (x,k):=by
  show(bif decide (k=0) then _ else bif decide (k=1) then _ else _)=_;rw[gj a,gj b];rfl
 have l:Bd (x,k)=FW (x,k):=by
  show(bif decide (k=0) then _ else bif decide (k=1) then _ else _)=_;rw[gj a,gj b];rfl
 rw[j,l];obtain⟨p,q⟩:=iC (x:=x) (s:=Empty.elim) (t:=Ud af x k) (d:=(Ty.aS [jH],Ty.aS [.slice eU])) (P:=λr=>r=(x, [])) (du (λ_=>aD rfl) λ_=>bT (λ_=>aD rfl) λu=>oO (λ_=>aD rfl) λv=>by omega) λr h=>by rw[h]
 have q:FW (x,k)=(x, []):=q;rw[q];exact⟨p,⟨rfl,aX _,oC⟩,.inr (.inr rfl)⟩
theorem akW(f:x.1=true)(g:x.2.2.2.2.2.1.1=true):LO (x,())=true/\DV (x,())=(x,x.2.2.2.2.2.1.2.2):=by
 obtain⟨j,l⟩:=rG g;have a:af.k dX (x.2.2.2.2.2.1,())=(x.2.2.2.2.2.1,x.2.2.2.2.2.1.2.2):=l;refine iC (s:=Empty.elim) (t:=afH af x) (d:=(Ty.aS [jH],Ty.aS [yI])) (P:=λr=>r=(x,x.2.2.2.2.2.1.2.2)) (du (λk=>absurd (f.symm.trans k) (by decide)) λ_=>ah j (aD ?_)) λr e=>by rw[e]
 rw[a]
variable{P:Bool->Prop}
theorem alE{p:WO}{l:List dF}(a:p.e3=l)(j:p.e4=(l.length:Int))(u:l.length<=1000000)(q:∀s∈l,EH s)(o:p.e1=0\/p.e1=1\/l=[])(K:Go (rW af) (.ao (.c3 ⟨p.e0,af.c_ p.e1 1,p.e2,p.e6,p.e7⟩)) P):∀(f i:Nat),l.length-i<=f->Go (rW af) (rW af (.c4 p (i:Int))) P:=by
 intro f
 induction f with
 | zero=>intro i n;exact bT (λg=>absurd g (by rw[j];omega)) λ_=>K
 | succ f ih=>
   intro i n;refine bT (λg=>?_) λ_=>K;have g:i<l.length:=by rw[j] at g;omega
   have k:p.e1=0\/p.e1=1:=by
    rcases o with k|k|k
    ·exact .inl k
    ·exact .inr k
    ·rw[k] at g;exact absurd g (Nat.not_lt_zero _)
   have e:af.k Sc (af.n eU p.e3 (i:Int):dF)=0:=by
    rw[a,Lw g];exact afg (q _ (cN g))
   have r:Go (rW af) (.ao (.c4 p (af.c_ (i:Int) 1))) P:=by
    rw[dG (by omega),show(i:Int)+1=((i+1:Nat):Int) from by omega];exact aZ (ih (i+1) (by omega))
   exact ah (by rw[a];exact da (l:=l) (by omega)) (dM (λg=>absurd e g) λ_=>bT (λg=>by omega) λ_=>dw (λg=>by omega) λ_=>r)
theorem ajH{n:Int}(u:x.1=true)(y:x.2.2.2.2.2.1.1=true)(z:0<x.2.2.2.2.2.2.1.length)(v:x.2.2.2.2.2.2.2.1.length<=1000000/\x.2.2.2.2.2.2.2.2.1.length<=1000000)(p:∀s∈x.2.2.2.2.2.2.2.1,EH s)(q:∀s∈x.2.2.2.2.2.2.2.2.1,EH s)
  (K:Go (rW af) (.ao (.c0 ⟨n,af.c_ t 1,m,x⟩)) P):∀(f:Nat) (k:Int),3-k<=f-> -1<=k->Go (rW af) (rW af (.c3 ⟨n,k,t,m,x⟩)) P:=by
 intro f
 induction f with
 | zero=>intro k r j;exact xD (λg=>absurd g (by show ¬k<=2;omega)) λ_=>K
 | succ f ih=>
   intro k r j;refine xD (λg=>?_) λ_=>K;have g:k<=2:=g;obtain⟨a,⟨b,c,d⟩,e⟩:=afh (k:=k) u y v p q;have o:(af.k Bd (x,k)).1=x:=b;refine ah a (ah (eO z) ?_);rw[o];exact aZ (alE (l:=(Bd (x,k)).2) rfl rfl c d e (by
    show Go (rW af) (.ao (.c3 ⟨n,af.c_ k 1,t,m,x⟩)) P;rw[dG (by omega)];exact aZ (ih (k+1) (by omega) (by omega))) _ 0 (aj _))
theorem akV{p:Cj}(a:p.c2=x.2.2.2.2.2.2.1.map Prod.fst)(r:p.c3=(x.2.2.2.2.2.2.1.length:Int))(u:p.c5=m)(z:x.2.2.2.2.2.2.1.length<=1000)(e:∀i,i<x.2.2.2.2.2.2.1.length->(aF x i).1.1=(i:Int)/\cZ m (aF x i).1=0)(K:Go (rW af) (rW af (.c2 p (x.2.2.2.2.2.2.1.length:Int))) P):∀(f i:Nat),x.2.2.2.2.2.2.1.length-i<=f->i<=x.2.2.2.2.2.2.1.length->Go (rW af) (rW af (.c2 p (i:Int))) P:=by
 intro f
 induction f with
 | zero=>intro i v y;rw[show i=x.2.2.2.2.2.2.1.length by omega];exact K
 | succ f ih=>
   intro i v y;by_cases g:i<x.2.2.2.2.2.2.1.length
   ·have nn:(af.n eT (x.2.2.2.2.2.2.1.map Prod.fst) (i:Int):Node)=(aF x i).1:=by
     refine(fM (l:=x.2.2.2.2.2.2.1.map Prod.fst) (by rw[bO];exact g) _).trans ?_;rw[List.getElem_map];show(x.2.2.2.2.2.2.1[i]).1=(x.2.2.2.2.2.2.1.getD i dS).1;rw[xB,EK g];rfl
    have j:(af.n eT p.c2 (i:Int):Node).1=(i:Int):=by rw[a];exact(congrArg Prod.fst nn).trans (e i g).1
    have o:af.k Si (p.c5,(af.n eT p.c2 (i:Int):Node))=0:=by rw[u,a];exact(congrArg (λn=>Si (m,n)) nn).trans (e i g).2
    refine bT (λ_=>ah (by rw[a];exact da (l:=x.2.2.2.2.2.2.1.map Prod.fst) (by rw[bO];omega)) (dM (λk=>absurd j k) λ_=>dM (λk=>absurd o k) λ_=>?_)) λq=>absurd q (by rw[r];omega);rw[dG (by omega),show(i:Int)+1=((i+1:Nat):Int) from by omega];exact aZ (ih (i+1) (by omega) (by omega))
   ·rw[show i=x.2.2.2.2.2.2.1.length by omega];exact K
theorem alZ{t K:Nat}(E:Env c m s)(h:Inv c m s B t K τ x.2.2.2.2.2.2.1.length 0 x)(hK:K<=800000)(hτ:τ<=800000000000):LN (x,())=true/\(x.2.2.2.2.2.1.2.1.length=0->FV (x,())=(x,220))/\(x.2.2.2.2.2.1.2.1.length≠0->∃y,FV (x,())=(y,0)/\y.2.2.2.2.2.2.1.length=x.2.2.2.2.2.2.1.length/\x.2.2.2.2.2.1.2.2<=y.2.2.2.2.2.1.2.2/\Inv c m s B (t+1) (K+9) (τ+16) y.2.2.2.2.2.2.1.length 0 y):=by
 obtain⟨p1,p2⟩:=h.step E hK hτ;have W:=Stp.w (abq h.q λe l p o g=>h.aci E hK hτ p o g).2 λe n=>(h.hw e n).1;have L:=s_.1 (of_decide_eq_true ((fv _ _).mp p1).2);obtain⟨q,f⟩:=Tv h.mad h.q.made;have f:af.k mY (x,())=(x,decide (x.2.2.2.2.2.1.2.1.length=0)):=f;have en:=h.en;have g:=wT E.ml;have j:af.cu (af.l x.2.2.2.2.2.2.1) 0=true:=z_ (by omega);obtain⟨y,a⟩:∃y,(xq (x,())).1=y:=⟨_,rfl⟩;rw[a] at p2 W;have L:y.2.2.2.2.2.2.1.length=x.2.2.2.2.2.2.1.length:=by rw[<-a];exact L
 have a:(af.k xq (x,())).1=y:=a;have r:=iC (x:=x) (s:=Empty.elim) (t:=abP af x) (d:=(Ty.aS [jH],Ty.aS [yI])) (P:=λr=>x.2.2.2.2.2.1.2.1.length=0/\r=(x,220)\/x.2.2.2.2.2.1.2.1.length≠0/\r=(y,0)) (by
  unfold abP;rw[f];refine du (λk=>absurd (h.mad.symm.trans k) (by decide)) λ_=>ah q (ah j (fJ (λk=>aD (.inl ⟨of_decide_eq_true k,rfl⟩)) λk=>ah p1 (ah j (aD (.inr ⟨of_decide_eq_false k,?_⟩)))));rw[a]) λr e=>by
  rcases e with ⟨_,e⟩|⟨_,e⟩
  ·rw[e]
  ·rw[e];exact L
 refine⟨r.1,λk=>?_,λk=>⟨y,?_,L,W,p2 λe=>k (by rw[e];rfl)⟩⟩
 ·rcases r.2 with e|e
  ·exact e.2
  ·exact absurd k e.1
 ·rcases r.2 with e|e
  ·exact absurd e.1 k
  ·exact e.2
theorem akD(E:Env c m s)(P:B<=19999):∀(f t:Nat) (n:Int) (x:Net),B-t<=f->n<=x.2.2.2.2.2.1.2.2->Inv c m s B t (9*t) (16*(t:Int)) x.2.2.2.2.2.2.1.length 0 x->Go (rW af) (rW af (.c0 ⟨n,(t:Int),m,x⟩)) λr=>r=true:=by
 have C:∀(t:Nat) (n:Int) (x:Net),n<=x.2.2.2.2.2.1.2.2->Inv c m s B t (9*t) (16*(t:Int)) x.2.2.2.2.2.2.1.length 0 x->(x.2.2.2.2.2.1.2.1.length≠0->∀y,Inv c m s B (t+1) (9*(t+1)) (16*((t+1:Nat):Int)) y.2.2.2.2.2.2.1.length 0 y->Go (rW af) (rW af (.c0 ⟨y.2.2.2.2.2.1.2.2,((t+1:Nat):Int),m,y⟩)) λr=>r=true)->Go (rW af) (rW af (.c0 ⟨n,(t:Int),m,x⟩)) λr=>r=true:=λt n x o h K=>by
  have tb:=h.tb E;have en:=h.en;have Q:=wT E.ml;have q:af.cu (af.l x.2.2.2.2.2.2.1) 0=true:=z_ (by omega);obtain⟨n1,z⟩:=ZN h.mad (by omega) λi l=>(h.nd i l).yA;have z:af.k FU (x,())=(x,x.2.2.2.2.2.2.1.map Prod.fst):=z;obtain⟨H,u⟩:=Tv h.mad h.q.made;have u:af.k mY (x,())=(x,decide (x.2.2.2.2.2.1.2.1.length=0)):=u;obtain⟨A,J,N⟩:=alZ E h (by omega) (by omega);refine bT (λ_=>ah n1 (ah q ?_)) λg=>absurd g (by show ¬(20000:Int)<=(t:Int);omega);rw[z];refine aZ (akV (x:=x) (m:=m) rfl (by show((x.2.2.2.2.2.2.1.map Prod.fst).length:Int)=_;rw[bO]) rfl (by omega) (λi l=>⟨(h.nd i l).id,(h.nd i l).yA⟩) ?_ _ 0 (aj _) (aX _));refine bT (λg=>absurd g (by show ¬(x.2.2.2.2.2.2.1.length:Int)<((x.2.2.2.2.2.2.1.map Prod.fst).length:Int);rw[bO];omega)) λ_=>ah H (ah q ?_);have D:∀p:Cj,p.c6=x->Ap af p=FV (x,()):=λp e=>by
   unfold Ap;rw[e,u];rfl
  have O:∀p:Cj,p.c6=x->Aq af p=af.k DV ((FV (x,())).1,()):=λp e=>by
   unfold Aq;rw[D p e]
  rw[u,D _ rfl,O _ rfl];refine fJ (λk=>ah A (ah q (aD ?_))) λk=>?_
  ·rw[J (of_decide_eq_true k)];rfl
  have k:=of_decide_eq_false k;obtain⟨y,e,S,w,I⟩:=N k;obtain⟨F,v⟩:=akW I.mad I.q.made;have v:af.k DV (y,())=(y,y.2.2.2.2.2.1.2.2):=v;have a:af.cu (af.l y.2.2.2.2.2.2.1) 0=true:=z_ (by omega);rw[e,v];refine ah A (ah q (dM (λg=>absurd rfl g) λ_=>ah F (ah a (bT (λg=>by have g:y.2.2.2.2.2.1.2.2<n:=g;omega) λ_=>ah F (ah a ?_)))));rw[v];have I:Inv c m s B (t+1) (9*(t+1)) (16*((t+1:Nat):Int)) y.2.2.2.2.2.2.1.length 0 y:=by
   rw[show 9*(t+1)=9*t+9 from rfl,show 16*((t+1:Nat):Int)=16*(t:Int)+16 from by omega];exact I
  have j:=I.ch;refine aZ (ajH (n:=y.2.2.2.2.2.1.2.2) I.mad I.q.made (by omega) ⟨aW j.1.1 (by omega),aW j.2.1.1 (by omega)⟩ j.1.2 j.2.1.2 ?_ 4 (-1) (by decide) (by decide));rw[dG (x:=(t:Int)) (by omega),show(t:Int)+1=((t+1:Nat):Int) from by omega];exact aZ (K k y I)
 intro f
 induction f with
 | zero=>
   intro t n x G o h;have tb:=h.tb E;exact C t n x o h λk=>absurd (by omega) k
 | succ f ih=>
   intro t n x G o h;exact C t n x o h λ_ y I=>ih (t+1) _ y (by omega) (al _) I
theorem akE:LL (m,s)=true/\SA (m,s)=true:=by
 refine jA (s:=rW af) (t:=Ri af m s) (d:=Ty.aS [.bool]) (P:=λr=>r=true) ?_;have p:af.k LM ()=true:=by rw[bo];exact adO
 have q:af.k JO ()=true:=by rw[bo];exact adN
 have f:af.k zk m=lM m:=by rw[bo,Yk];exact u5
 unfold Ri;rw[p,q,f];refine ah rfl (du nofun λ_=>du (λ_=>aD rfl) λl=>?_);have l:=aj4 l;have n:Ai (m,s)=true:=dn ⟨by omega,by omega,by omega⟩;cases hm:dC m
 ·obtain⟨j,a,e⟩:=akT hm n
  have a:(af.k nL (m,s)).1=false:=a;have e:(af.k nL (m,s)).2.2=70:=e;have y:lM m=70:=by unfold lM;rw[hm];rfl
  rw[a,e,y];exact ah j (fJ nofun λ_=>dM (λ_=>aD rfl) λg=>absurd g (by decide))
 ·obtain⟨j,a,e,o⟩:=akU hm n
  have z:=wT hm;have v:1<=(dL m s).1/\(dL m s).1<=16:=by
   show 1<=af.mn (af.mx s.1 1) 16/\af.mn (af.mx s.1 1) 16<=16;rw[nW,tx];split<;>split<;>omega
  have u:=(XN (s:=dL m s) hm v).2;have E:=XQ (E:=Np m (dL m s)) (s:=s) hm ⟨u.1,by omega⟩;have a:(af.k nL (m,s)).1=true:=a;have e:(af.k nL (m,s)).2.2=0:=e;rw[a,e];exact ah j (fJ (λ_=>dM (λg=>absurd rfl g) λ_=>aZ (akD E (B:=19999) (by omega) _ 0 0 (nL (m,s)).2.1 (aj _) o.now.1 o)) nofun)
theorem akx(x:ax×jv)(h:Ty.jj [bJ,pK] x):LL x=true/\SA x=true:=akE
end
end Go.Ev.M
