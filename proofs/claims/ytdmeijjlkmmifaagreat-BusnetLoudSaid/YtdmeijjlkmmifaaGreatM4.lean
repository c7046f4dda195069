/- PROVED: what functions compute, 4. Conditions: none. -/
import Derived.Test.YtdmeijjlkmmifaaGreatM3
set_option linter.unusedVariables false
set_option linter.defProp false
set_option linter.unusedSimpArgs false
namespace Go.Ev.M
open Go.Proofs
set_option maxRecDepth 100000
open Go.Ev.Pl
noncomputable section
def pM(x o:Net)(k j:Nat):Prop:=∃(a b:List fC) (s:List tg) (n:Int) (l f:List jr),o=asd (ua x a b s) n l/\t7 x.2.2.2.2.2.2.2.1 a k/\t7 x.2.2.2.2.2.2.2.2.1 b k/\(x.2.2.2.2.2.2.2.2.2.1.length<=s.length/\s.length<=x.2.2.2.2.2.2.2.2.2.1.length+k)/\
 l.length<=16384/\Lk l/\n<=x.2.2.2.2.1/\f.length<=j/\l.Perm (f++x.2.2.2.2.2.1.2.1)/\∀e∈f,e.2.1=3/\(x.2.2.2.2.2.1.2.2<=e.1/\e.1<=x.2.2.2.2.1)/\0<=e.2.2.2/\e.2.2.2<s.length
variable{x:Net}
def pM.id(h:y9 x):pM x x 0 0:=⟨_,_,_,_,_,[],rfl,t7.rfl,t7.rfl,⟨ai _,ai _⟩,h.len,h.heap,aj _,ai _,.refl _,nofun⟩
def pM.chan{a b:List fC}(h:y9 x)(e:t7 x.2.2.2.2.2.2.2.1 a 1)(f:t7 x.2.2.2.2.2.2.2.2.1 b 1):pM x (ua x a b x.2.2.2.2.2.2.2.2.2.1) 1 0:=⟨a,b,_,_,_,[],rfl,e,f,⟨ai _,jb _⟩,h.len,h.heap,aj _,ai _,.refl _,nofun⟩
variable{j:Nat}
def pM.ok{e:Net}{k:Nat}(o:x.2.2.2.2.2.1.1=true)(h:pM x e k j):y9 e:=by
 obtain⟨a,b,s,p,q,f,rfl,_,_,_,l,n,_⟩:=h;exact⟨o,l,n⟩
variable{y:Net}
theorem pM.trans{z:Net}{k o A:Nat}(h:pM x y k j)(g:pM y z o A):pM x z (k+o)<|j+A:=by
 obtain⟨a,b,s,e',h',q,rfl,V,W,h3,h4,h5,v,h7,X,h9⟩:=h;obtain⟨D,F,s',p,u,f,rfl,G,H,l,I,J,N,g7,O,S⟩:=g;refine⟨D,F,s',p,u,f++q,rfl,V.trans G,W.trans H,?_,I,J,bP N v,?_,?_,λe n=>?_⟩
 .have l:s.length<=s'.length/\s'.length<=s.length+o:=l;omega
 .grind
 .rw[fe];exact O.trans<|X.append_left _
 .have l:s.length<=s'.length/\s'.length<=s.length+o:=l;rcases pP.1 n with n|n
  .have⟨Z,C,q3⟩:=S e n;exact⟨Z,⟨C.1,bP C.2 v⟩,q3⟩
  grind
theorem pM.mono{k o n:Nat}(h:pM x y k j)(l:k<=o)(H:j<=n):pM x y o n:=by
 have⟨a,b,s,p,D,f,e,q,u,F,v,z,A,G,C⟩:=h;exact⟨a,b,s,p,D,f,e,q.mono l,u.mono l,by omega,v,z,A,by omega,C⟩
def pM.aH{k:Nat}(e:pM x y k j)(n:Nat):aH y n=aH x n:=by
 obtain⟨a,b,s,l,o,f,rfl,_⟩:=e;rfl
variable{t:Int}{v:tg}
theorem Nk(h:y9 x)(u:x.2.2.2.2.2.2.2.2.2.1.length<=900000):qf (Qq x<|af.p x.2.2.2.2.2.2.2.2.2.1 ([v]:List tg),t,3,0,af.fD (af.l<|af.p x.2.2.2.2.2.2.2.2.2.1 ([v]:List tg)) 1)=true/\pM x (tF (Qq x<|af.p x.2.2.2.2.2.2.2.2.2.1 ([v]:List tg),t,3,0,af.fD (af.l<|af.p x.2.2.2.2.2.2.2.2.2.1 ([v]:List tg)) 1)).1 1 1:=by
 have o:af.fD (af.l<|af.p x.2.2.2.2.2.2.2.2.2.1 ([v]:List tg)) 1=(x.2.2.2.2.2.2.2.2.2.1.length:Int):=by
  rw[show af.p x.2.2.2.2.2.2.2.2.2.1 ([v]:List tg)=x.2.2.2.2.2.2.2.2.2.1 ++ [v] from rfl,dW,t_,bU,kX<|by omega];omega
 rw[o];have⟨p1,f,j,p2,p3,p4,p5⟩:=UO (x:=Qq x<|af.p x.2.2.2.2.2.2.2.2.2.1 ([v]:List tg)) (t:=t) (k:=3) (nd:=0) (n:=(x.2.2.2.2.2.2.2.2.2.1.length:Int)) ⟨h.made,h.len,h.heap⟩;refine⟨p1,?_⟩;rw[p2];have hs:(x.2.2.2.2.2.2.2.2.2.1 ++ [v]).length=x.2.2.2.2.2.2.2.2.2.1.length+1:=by simp_all
 rcases p5 with ⟨l,a,q⟩|⟨l,a,_⟩
 .refine⟨x.2.2.2.2.2.2.2.1,x.2.2.2.2.2.2.2.2.1,x.2.2.2.2.2.2.2.2.2.1 ++ [v],f,j,[(v8 x t,3,0,(x.2.2.2.2.2.2.2.2.2.1.length:Int))],rfl,t7.rfl,t7.rfl,by omega,p3,p4,Int.le_of_eq l,ai _,q,λe p=>?_⟩;rw[aO.1 p];refine⟨rfl,⟨?_,a⟩,by simp_all,by grind⟩;unfold v8;omega
 .exact⟨x.2.2.2.2.2.2.2.1,x.2.2.2.2.2.2.2.2.1,x.2.2.2.2.2.2.2.2.2.1 ++ [v],f,j,[],rfl,t7.rfl,t7.rfl,by omega,p3,p4,a,aM _,by simp_all,nofun⟩
structure zu(x:Net)(i:Nat)(K:Nat):Prop where
 k:K<=800010
 q:y9 x
 i:i<x.2.2.2.2.2.2.1.length
 f:x.2.2.1.2.2.2.2.2.2.2.length<=1000000
 g:x.2.2.2.2.2.2.1.length<=x.2.2.1.2.2.2.2.1.length
 c:x.2.2.2.2.2.2.2.1.length<=K/\x.2.2.2.2.2.2.2.2.1.length<=K/\x.2.2.2.2.2.2.2.2.2.1.length<=K
 ml:dP x.2.1=true
 n:x.2.2.2.2.2.2.1.length<=8
 fl:∀f∈x.2.2.1.2.2.2.2.2.2.2,ko (x.2.1,f)=true
variable{N:Int}{α:Type}
theorem gh{l:List α}{v:α}(h:(l.length:Int)+1<=N):af.bE (af.l<|af.p l [v]) N=true:=by
 rw[aB,dW,show af.p l [v]=l ++ [v] from rfl,t_,bU]
 simp_all
variable{i:Nat}
def fv(h:i<x.2.2.2.2.2.2.1.length):af.cm (af.l x.2.2.2.2.2.2.1) 0=true:=Hm (by omega)
variable{K:Nat}
def Mq(h:zu x i K){s:fC}(hs:SgO s):qV (yZ x<|af.p x.2.2.2.2.2.2.2.2.1 ([s]:List fC),1)=true/\∃y:Net,(af.k rD (yZ x<|af.p x.2.2.2.2.2.2.2.2.1 ([s]:List fC),1)).1=y/\y.2.2.2.2.2.2.1.length=x.2.2.2.2.2.2.1.length/\y.2.2.2.2.2.2.2.2.2.1=x.2.2.2.2.2.2.2.2.2.1/\qf (Qq y<|af.p y.2.2.2.2.2.2.2.2.2.1 ([v]:List tg),t,3,0,af.fD (af.l<|af.p y.2.2.2.2.2.2.2.2.2.1 ([v]:List tg)) 1)=true/\pM x (tF (Qq y<|af.p y.2.2.2.2.2.2.2.2.2.1 ([v]:List tg),t,3,0,af.fD (af.l<|af.p y.2.2.2.2.2.2.2.2.2.1 ([v]:List tg)) 1)).1 2 1:=by
 obtain⟨z,e,u,p,q,o,_⟩:=h;obtain⟨j,a,l,n⟩:=ayf (x:=x) (s:=s) e.made (by omega) hs;have f:=pM.chan (a:=x.2.2.2.2.2.2.2.1) (b:=a) e t7.rfl l;obtain⟨p1,p2⟩:=Nk (v:=v) (t:=t) (f.ok e.made) (by show x.2.2.2.2.2.2.2.2.2.1.length<=_;omega);exact⟨j,_,n,rfl,rfl,p1,f.trans p2⟩
def zu.Zg{k:Nat}(h:zu x i K)(e:pM x y k j)(hK:K+k<=800010):zu y i<|K+k:=by
 have o:=e.ok h.q.made;obtain⟨a,b,s,p,u,n,rfl,f,l,q,_⟩:=e;have f:=f.1;have l:=l.1;have v:=h.c;exact⟨hK,o,h.i,h.f,h.g,by show a.length<=_/\b.length<=_/\s.length<=_;omega,h.ml,h.n,h.fl⟩
def zu.dly(h:zu x i K):0<=x.2.1.2.2.2.2.2.1/\x.2.1.2.2.2.2.2.1<=64:=by have:=w7 h.ml;omega
variable{c:fB}
section
variable {x:Net} {i K:Nat} (h:zu x i K)
include h
theorem zu.Xc{s:fC}(hs:Km s):nG (x,(i:Int),c,s)=true/\(gq (x,(i:Int),c,s)).1=x/\((gq (x,(i:Int),c,s)).2.2=true->Km (gq (x,(i:Int),c,s)).2.1):=by
 have⟨a,b,d⟩:=aao (c:=c) (s:=s) h.i h.f h.g
 simp_all
theorem zu.at{c:qB}(a:0<=c.1/\c.1<=1000000000000):0<=(vA (x.2.1,c)).1/\(vA (x.2.1,c)).1<=1000001048576:=by
 have e:=w7 h.ml;refine vL (t:=ao4 af x.2.1 c) (P:=λr=>0<=r.1/\r.1<=1000001048576) (dD (λ_=>ay<|show(0:Int)<=0/\(0:Int)<=1000001048576 by decide) λ_=>ay ?_) (LT.gI<|by kernel_rfl)<|LT.jg (by kernel_rfl);show 0<=af.bJ c.1 x.2.1.2.2.1/\af.bJ c.1 x.2.1.2.2.1<=_;rw[dq<|by omega];omega
def zu.frm{e:Bits×Int}{l nd:Int}(p:nd=(i:Int))(q:0<=t/\t<=1000100000000)(j:0<=l/\l<=200)(f:bsG e.1=true):SgH nd t e.1.1 l e.1.2:=by
 have a:=aj9 (n:=e.1.1);have u:=h.n;have o:=h.i;refine⟨by omega,?_,j,f⟩;show 0<=t/\t<=af.bJ t (mF e.1.1)/\af.bJ t (mF e.1.1)<=_;rw[dq<|by omega];omega
def anN{p:xj}(j:p.d3=x)(f:p.d2=true->Km p.A_):Go (u_ af) (u_ af<|.c3 p) λr=>pM x r.1 2 1:=by
 subst j;have l:=h.c;have n:=h.k;refine cX (λ_=>du (λ_=>?_) λ_=>ay<|(pM.id h.q).mono (by omega)<|by omega) λk=>?_
 .have⟨p1,p2⟩:=Nk (v:=((p.d12,p.QO),p.d14)) (t:=p.QO) h.q (by omega);exact ah (gh<|by omega)<|ah p1<|ah (fv h.i)<|ay<|p2.mono (by omega) (by omega)
 .have⟨a,y,e,l1,l2,p1,p2⟩:=Mq h (s:=zm p.A_<|AQ af p) (v:=(AQ af p,p.d14)) (t:=af.bJ p.A_.2.1.2 p.d3.2.1.2.2.2.2.2.1)<|(f k).ltr h.dly;unfold u_ Ft Ck Cj;rw[e];exact ah (gh<|by omega)<|ah a<|ah (fv h.i)<|ah (by rw[l2];exact gh<|by omega)<|ah p1<|ah (by rw[show y.2.2.2.2.2.2.1=y.2.2.2.2.2.2.1 from rfl];exact fv (i:=i) (by have:=h.i;omega))<|ay p2
theorem acx{p:FJ}(l:p.c0=(i:Int))(n:p.c2=x)(H:SgH p.c3 p.c4 p.c5 p.c7 p.c6):Go (u_ af) (u_ af<|.c2 p) λr=>pM x r.1 2 1:=by
 subst n;have G:∀(s:fC),Km s->nG (p.c2,p.c0,p.c10,s)=true/\(gq (p.c2,p.c0,p.c10,s)).1=p.c2/\((gq (p.c2,p.c0,p.c10,s)).2.2=true->Km (gq (p.c2,p.c0,p.c10,s)).2.1):=λs hs=>by rw[l];exact h.Xc hs
 have a:Km (p.c3,(p.c4,af.bJ p.c4<|af.k mF p.c5),p.c7,0,[]):=⟨H.1,H.2.1,H.c,Vn⟩;have e:∀(s:fC),Km s->∀(q:xj),q.d3=(gq (p.c2,p.c0,p.c10,s)).1->q.d2=(gq (p.c2,p.c0,p.c10,s)).2.2->q.A_=(gq (p.c2,p.c0,p.c10,s)).2.1->Go (u_ af) (.ak<|.c3 q) λr=>pM p.c2 r.1 2 1:=λs hs q f o u=>aP<|anN h (f.trans (G s hs).2.1) (by simp_all);have j:=Ut (v:=(jF p.c2 (),1,p.c9)) h.f;exact du (λ_=>ah (G _ a).1<|ah (fv h.i)<|e _ a _ rfl rfl rfl) λ_=>ah j<|du (λ_=>ah (G _ a).1<|ah (fv h.i)<|e _ a _ rfl rfl rfl) λ_=>ah (G _ H).1<|ah (fv h.i)<|e _ H _ rfl rfl rfl
def anM{p:FI}(hK:K+1<=800010)(f:p.b0=(i:Int))(q:p.b3=x)(o:p.b2=true->Km p.E6)(H:SgH p.b4 p.b5 p.b6 p.b8 p.b7):Go (u_ af) (u_ af<|.c1 p) λr=>pM x r.1 3 1:=by
 subst q;have u:=h.c;refine cX (λ_=>aP<|(acx h f rfl H).mono λ_ k=>k.mono (by omega)<|by omega) λk=>?_;have⟨j,a,l,n⟩:=al6 (x:=p.b3) (s:=zm p.E6<|SU af p) h.q.made (by omega)<|(o k).ltr h.dly;have e:=pM.chan (a:=a) (b:=p.b3.i) h.q l t7.rfl;exact ah (gh<|by omega)<|ah j<|ah (fv h.i)<|aP<|(acx (h.Zg e hK) f n H).mono λ_ k=>e.trans k
theorem anL{p:CK}(hK:K+1<=800010)(j:p.a0=(i:Int))(u:p.a2=x)(H:SgH p.a3 p.a4 p.a5 p.a7 p.a6):Go (u_ af) (u_ af<|.c0 p) λr=>pM x r.1 3 1:=by
 subst u;have G:∀(s:fC),Km s->nG (p.a2,p.a0,p.jd,s)=true/\(gq (p.a2,p.a0,p.jd,s)).1=p.a2/\((gq (p.a2,p.a0,p.jd,s)).2.2=true->Km (gq (p.a2,p.a0,p.jd,s)).2.1):=λs hs=>by rw[j];exact h.Xc hs
 have a:Km (p.a3,(p.a4,af.bJ p.a4<|af.k mF p.a5),p.a7,0,[]):=⟨H.1,H.2.1,H.c,Vn⟩;have f:∀(s:fC),Km s->∀(q:FI),q.b0=p.a0->q.b3=(gq (p.a2,p.a0,p.jd,s)).1->q.b2=(gq (p.a2,p.a0,p.jd,s)).2.2->q.E6=(gq (p.a2,p.a0,p.jd,s)).2.1->SgH q.b4 q.b5 q.b6 q.b8 q.b7->Go (u_ af) (.ak<|.c1 q) λr=>pM p.a2 r.1 3 1:=λs hs q e l z A n=>aP<|anM h hK (e.trans j) (l.trans (G s hs).2.1) (by simp_all) n;have o:=Ut (v:=(jF p.a2 (),0,p.a9)) h.f;exact du (λ_=>ah (G _ a).1<|ah (fv h.i)<|f _ a _ rfl rfl rfl rfl H) λ_=>ah o<|du (λ_=>ah (G _ a).1<|ah (fv h.i)<|f _ a _ rfl rfl rfl rfl H) λ_=>ah (G _ H).1<|ah (fv h.i)<|f _ H _ rfl rfl rfl rfl H
def Nn{f:sS}(hK:K+1<=800010)(G:0<=(aH x i).2.1.1/\(aH x i).2.1.1<=1000000000000):Dm (x,(i:Int),f,c)=true/\pM x (xK (x,(i:Int),f,c)).1 3 1:=by
 refine kF (s:=u_ af) (t:=W0 af x i f c) (P:=λr=>pM x r.1 3 1) ?_ λr ⟨_,_,_,_,_,_,F,_⟩=>by rw[F];rfl
 have g:=λk=>sF (v:=(jF x (),k,(i:Int),c)) h.f;have id:Go (u_ af) (.ret (x,())) λr=>pM x r.1 3 1:=ay<|(pM.id h.q).mono (by omega) (by omega);have A:0<=(q_ af x i).1/\(q_ af x i).1<=1000001048576:=by
  unfold q_;exact h.at G
 have H:=w7 h.ml;have lv:(af.k dV (jF x (),7,(i:Int),c)).2=true->0<=(af.k dV (jF x (),7,(i:Int),c)).1.2.2.2.2.2.1/\(af.k dV (jF x (),7,(i:Int),c)).1.2.2.2.2.2.1<=200:=λk=>by
  have⟨a,b,_⟩:=(g 7).2 k;have q:=(Bm<|h.fl _ a).1;rw[b] at q;exact Mt (l:=(0,200)) q
 have u:(af.k dV (jF x (),8,(i:Int),c)).2=true->0<=af.mx (af.bJ (q_ af x i).1 (af.k dV (jF x (),8,(i:Int),c)).1.2.2.2.2.2.1) 0/\af.mx (af.bJ (q_ af x i).1 (af.k dV (jF x (),8,(i:Int),c)).1.2.2.2.2.2.1) 0<=1000100000000:=λk=>by
  have⟨a,b,_⟩:=(g 8).2 k;have q:=(Bm<|h.fl _ a).1;rw[b] at q;have q:=Mt (l:=(af.u .neg .i64 x.2.1.2.2.1,x.2.1.2.2.1)) q;rw[show af.u .neg .i64 x.2.1.2.2.1=IntKind.i64.wrap (0-x.2.1.2.2.1) from rfl,lZ (by omega)<|by omega] at q;rw[tX,dq (by show -4611686018427387904<=_+(dV (jF x (),8,(i:Int),c)).1.2.2.2.2.2.1/\_+(dV (jF x (),8,(i:Int),c)).1.2.2.2.2.2.1<_;omega)];show _/\(if (0:Int) > _+(dV (jF x (),8,(i:Int),c)).1.2.2.2.2.2.1 then(0:Int) else _+(dV (jF x (),8,(i:Int),c)).1.2.2.2.2.2.1)<=_;omega
 have L:(0:Int)<=100/\(100:Int)<=200:=by decide
 have n:0<=(q_ af x i).1/\(q_ af x i).1<=1000100000000:=by omega
 have e:∀(p:CK),p.a0=(i:Int)->p.a2=x->SgH p.a3 p.a4 p.a5 p.a7 p.a6->Go (u_ af) (.ak<|.c0 p) λr=>pM x r.1 3 1:=λp z C D=>aP<|anL h hK z C D;refine ah (g 3).1<|du (λ_=>id) λ_=>ah (bM (l:=x.2.2.2.2.2.2.1) (by have:=h.i;omega))<|dD (λ_=>id) λ_=>dD (λ_=>id) λ_=>ah (g 7).1<|du (λo=>ah (g 8).1<|du (λj=>ah (g 4).1<|e _ rfl rfl<|h.frm rfl (u j) (lv o) xB) λ_=>ah (g 4).1<|e _ rfl rfl<|h.frm rfl n (lv o) xB) λ_=>ah (g 8).1<|du (λj=>ah (g 4).1<|e _ rfl rfl<|h.frm rfl (u j) L xB) λ_=>ah (g 4).1<|e _ rfl rfl<|h.frm rfl n L xB
end
section
variable {x:Net} {i K:Nat} (h:zu x i K)
include h
def alP{p:xk}(j:p.h4=x)(f:p.h2=true->Km p.h13):Go (lX af) (lX af<|.c7 p) λr=>pM x r.1 2 1:=by
 subst j;have l:=h.c;have n:=h.k;refine cX (λ_=>du (λ_=>?_) λ_=>ay<|(pM.id h.q).mono (by omega)<|by omega) λk=>?_
 .have⟨p1,p2⟩:=Nk (v:=((p.h10,p.h11),p.h12)) (t:=p.h11) h.q (by omega);exact ah (gh<|by omega)<|ah p1<|ah (fv h.i)<|ay<|p2.mono (by omega) (by omega)
 .have⟨a,y,e,l1,l2,p1,p2⟩:=Mq h (s:=zm p.h13<|yY af p) (v:=(yY af p,p.h12)) (t:=af.bJ p.h13.2.1.2 p.h4.2.1.2.2.2.2.2.1)<|(f k).ltr h.dly;unfold lX NV Fw Fv;rw[e];exact ah (gh<|by omega)<|ah a<|ah (fv h.i)<|ah (by rw[l2];exact gh<|by omega)<|ah p1<|ah (by rw[show y.2.2.2.2.2.2.1=y.2.2.2.2.2.2.1 from rfl];exact fv (i:=i) (by have:=h.i;omega))<|ay p2
def Zc{p:Lx}(e:p.f0=(i:Int))(f:p.f3=x)(H:SgH p.f4 p.f5 p.f6 100 p.f7):Go (lX af) (lX af<|.c5 p) λr=>pM x r.1 2 1:=by
 subst f;have⟨a,b,d⟩:=h.Xc (c:=p.f8) H;rw[<-e] at a b d;exact ah a<|ah (fv h.i)<|aP<|alP h b d
def alN{p:Lu}(hK:K+1<=800010)(f:p.d0=(i:Int))(q:p.d4=x)(o:p.d2=true->Km p.QO)(H:SgH p.d5 p.d6 p.d7 100 p.d8):Go (lX af) (lX af<|.c3 p) λr=>pM x r.1 3 1:=by
 subst q;have u:=h.c;refine cX (λ_=>aP<|(Zc h f rfl H).mono λ_ k=>k.mono (by omega)<|by omega) λk=>?_;have⟨j,a,l,n⟩:=al6 (x:=p.d4) (s:=zm p.QO<|adP af p) h.q.made (by omega)<|(o k).ltr h.dly;have e:=pM.chan (a:=a) (b:=p.d4.i) h.q l t7.rfl;exact ah (gh<|by omega)<|ah j<|ah (fv h.i)<|aP<|(Zc (h.Zg e hK) f n H).mono λ_ k=>e.trans k
def Za{p:FL}(hK:K+1<=800010)(e:p.b0=(i:Int))(f:p.b3=x)(H:SgH p.b4 p.b5 p.b6 100 p.b7):Go (lX af) (lX af<|.c1 p) λr=>pM x r.1 3 1:=by
 subst f;have⟨a,b,d⟩:=h.Xc (c:=p.b8) H;rw[<-e] at a b d;exact ah a<|ah (fv h.i)<|aP<|alN h hK e b d H
end
def Fz(x:Net)(i:Nat)(c:fB)(r:Net×Unit):Prop:=pM x r.1 6 2/\((dV (jF x (),10,(i:Int),c)).2=false->pM x r.1 6 1)
def Gq{l o:Bool}{q:FL}{f:Int}(z:f=(i:Int))(h:zu y i K)(hK:K+1<=800010)(a:pM x y 3 1)(G:jF y ()=jF x ())(D:q.b0=(i:Int))(F:q.b3=y){k:Int}(C:k=(i:Int))(I:0<=(aH y i).2.1.1/\(aH y i).2.1.1<=1000000000000)(p:q.b4=(i:Int))(j:q.b5=(af.k vA (y.2.1,(af.n bS y.2.2.2.2.2.2.1 k:cN).2.1)).1)(u:bsG (q.b6,q.b7)=true):
  Go (lX af) (.ao (af.k jy (jF y (),10,f,c))<|.br (af.not (af.k dV (jF y (),10,f,c)).2) (.ret (y,()))<|.br l (.ret (y,()))<|.br o (.ret (y,()))<|.ak<|.c1 q) (Fz x i c):=by
 subst z;have H:SgH q.b4 q.b5 q.b6 100 q.b7:=by
  rw[C,nR] at j;have A:=h.at I;exact h.frm (e:=((q.b6,q.b7),0)) p (by rw[j];exact⟨A.1,bP A.2<|by decide⟩) (by decide) u
 have one:Fz x i c (y,()):=⟨a.mono (by omega)<|by omega,λ_=>a.mono (by omega)<|by omega⟩;refine ah (sF (v:=(jF y (),10,(i:Int),c)) h.f).1<|cX (λ_=>ay one) λg=>du (λ_=>ay one) λ_=>du (λ_=>ay one) λ_=>aP<|(Za h hK D F H).mono λr k=>⟨(a.trans k).mono (by omega)<|by omega,λn=>?_⟩;rw[G] at g;exact absurd (g.symm.trans n) (by decide)
def pM.lp{k:Nat}(e:pM x y k j):jF y ()=jF x ():=by
 obtain⟨a,b,s,l,n,f,rfl,_⟩:=e;rfl
def alO{l:Net}{p:pR}(h:zu x i K)(hK:K+3<=800010)(z:0<=(aH l i).2.1.1/\(aH l i).2.1.1<=1000000000000)(j:pM l x 1 0)(f:p.g5=(i:Int))(q:p.g3=(i:Int))(D:p.g4=x)(C:p.g2=true->Km p.g12):Go (lX af) (lX af<|.c6 p)<|Fz l i p.g13:=by
 subst D;have F:=h.c;refine cX (λ_=>du (λ_=>?_) λ_=>Gq f h (by omega) (j.mono (by omega)<|by omega) j.lp f rfl q (by rw[j.aH];omega) f rfl xB) λk=>?_
 .have⟨p1,p2⟩:=Nk (v:=((p.g9,p.g10),p.g11)) (t:=p.g10) h.q (by omega);have n:=j.trans p2;have a:=z;rw[<-n.aH] at a;have u:=h.Zg p2 (by omega);exact ah (gh<|by omega)<|ah p1<|ah (fv h.i)<|Gq f u (by omega) (n.mono (by omega)<|by omega) n.lp f rfl q a f rfl xB
 .have⟨A,y,e,l1,l2,p1,p2⟩:=Mq h (s:=zm p.g12<|yX af p) (v:=(yX af p,p.g11)) (t:=af.bJ p.g12.2.1.2 p.g4.2.1.2.2.2.2.2.1)<|(C k).ltr h.dly;have o:=j.trans p2;have a:=z;rw[<-o.aH] at a;have u:=h.Zg p2 (by omega);unfold lX NU Fu rh S9 uM;rw[e];exact ah (gh<|by omega)<|ah A<|ah (fv h.i)<|ah (by rw[l2];exact gh<|by omega)<|ah p1<|ah (by rw[show y.2.2.2.2.2.2.1=y.2.2.2.2.2.2.1 from rfl];exact fv (i:=i) (by have:=h.i;omega))<|Gq f u (by omega) (o.mono (by omega)<|by omega) o.lp f rfl q a f rfl xB
def Zb{e:Net}{p:Lv}(h:zu x i K)(hK:K+3<=800010)(q:0<=(aH e i).2.1.1/\(aH e i).2.1.1<=1000000000000)(l:pM e x 1 0)(n:p.e0=(i:Int))(f:p.e4=(i:Int))(j:p.e2=(i:Int))(o:p.e3=x)(H:SgB p.e4 p.e5 p.e6.2.2.2.2.2.2):Go (lX af) (lX af<|.c4 p)<|Fz e i p.e11:=by
 subst o;have⟨a,b,d⟩:=h.Xc (c:=p.e7) H;rw[<-n] at a b d;exact ah a<|ah (fv h.i)<|aP<|alO h hK q l f j b d
def alM{p:Lt}(h:zu x i K)(hK:K+4<=800010)(n:0<=(aH x i).2.1.1/\(aH x i).2.1.1<=1000000000000)(l:p.c0=(i:Int))(e:p.c5=(i:Int))(j:p.c3=(i:Int))(z:p.c4=x)(v:p.c2=true->Km p.c12)(H:SgB p.c5 p.c6 p.c7.2.2.2.2.2.2):Go (lX af) (lX af<|.c2 p)<|Fz x i p.c13:=by
 subst z;have A:=h.c;refine cX (λ_=>aP<|Zb h (by omega) n ((pM.id h.q).mono (by omega)<|by omega) l e j rfl H) λk=>?_;have⟨o,a,q,u⟩:=al6 (x:=p.c4) (s:=zm p.c12<|adO af p) h.q.made (by omega)<|(v k).ltr h.dly;have f:=pM.chan (a:=a) (b:=p.c4.i) h.q q t7.rfl;exact ah (gh<|by omega)<|ah o<|ah (fv h.i)<|aP<|Zb (h.Zg f<|by omega) (by omega) n f l e j u H
def alL{p:Ls}(h:zu x i K)(hK:K+4<=800010)(n:0<=(aH x i).2.1.1/\(aH x i).2.1.1<=1000000000000)(f:p.a0=(i:Int))(e:p.a4=(i:Int))(j:p.a2=(i:Int))(l:p.a3=x)(H:SgB p.a4 p.a5 p.a6.2.2.2.2.2.2):Go (lX af) (lX af<|.c0 p)<|Fz x i p.lq:=by
 subst l;have⟨a,b,d⟩:=h.Xc (c:=p.a7) H;rw[<-f] at a b d;refine ah a<|ah (fv h.i)<|aP ?_;have q:=alM (p:=⟨p.a0,(gq (p.a3,p.a0,p.a7,p.a4,(p.a5,af.bJ p.a5 p.a6.F),100,0,([]:List Int))).2.2,p.a2,p.a3,p.a4,p.a5,p.a6,p.a7,p.jd,(gq (p.a3,p.a0,p.a7,p.a4,(p.a5,af.bJ p.a5 p.a6.F),100,0,([]:List Int))).2.1,p.lq⟩) h hK n f e j rfl d H;show Go (lX af) (lX af<|.c2 ⟨_,_,_,(gq (p.a3,p.a0,p.a7,p.a4,(p.a5,af.bJ p.a5 p.a6.F),100,0,([]:List Int))).1,_,_,_,_,_,_,_⟩) _;rw[b];exact q
theorem zu.bab(h:zu x i K)(o:0<=(aH x i).2.1.1/\(aH x i).2.1.1<=1000000000000)(k:(af.k dV (jF x (),9,(i:Int),c)).2=true):Km ((i:Int),(af.bJ (af.n bS x.2.2.2.2.2.2.1 (i:Int):cN).2.1.1 (af.k dV (jF x (),9,(i:Int),c)).1.2.2.2.2.2.1,af.bJ (af.bJ (af.n bS x.2.2.2.2.2.2.1 (i:Int):cN).2.1.1 (af.k dV (jF x (),9,(i:Int),c)).1.2.2.2.2.2.1) (af.k dV (jF x (),9,(i:Int),c)).1.2.2.2.2.2.2),100,0,[]):=by
 have n:=w7 h.ml;have p:=h.n;have j:=h.i;have⟨a,b,_⟩:=(sF (v:=(jF x (),9,(i:Int),c)) h.f).2 k;have q:=Bm<|h.fl _ a;rw[b] at q;have e:=Mt (l:=(0,af.fD x.2.1.2.1 1)) q.1;have f:=Mt (l:=(1,x.2.1.2.1)) q.2.1;rw[kX<|by omega] at e;rw[nR];have e:0<=(af.k dV (jF x (),9,(i:Int),c)).1.2.2.2.2.2.1/\(af.k dV (jF x (),9,(i:Int),c)).1.2.2.2.2.2.1<=x.2.1.2.1-1:=e;have f:1<=(af.k dV (jF x (),9,(i:Int),c)).1.2.2.2.2.2.2/\(af.k dV (jF x (),9,(i:Int),c)).1.2.2.2.2.2.2<=x.2.1.2.1:=f;generalize (af.k dV (jF x (),9,(i:Int),c)).1.2.2.2.2.2.1=A at *;rw[dq (x:=(aH x i).2.1.1) (y:=A)<|by omega,dq<|by omega];exact⟨by omega,by grind,show(0:Int)<=100/\(100:Int)<=200 by decide,Vn⟩
def QP(h:zu x i K)(hK:K+4<=800010)(a:0<=(aH x i).2.1.1/\(aH x i).2.1.1<=1000000000000):Il (x,(i:Int),c)=true/\Fz x i c (tG (x,(i:Int),c)):=by
 refine kF (s:=lX af) (t:=NB af x i c) (P:=Fz x i c) ?_ λr ⟨⟨_,_,_,_,_,_,j,_⟩,_⟩=>by rw[j];rfl
 have id:Fz x i c (x,()):=⟨(pM.id h.q).mono (by omega)<|by omega,λ_=>(pM.id h.q).mono (by omega)<|by omega⟩;have g:=λk=>sF (v:=(jF x (),k,(i:Int),c)) h.f;have A:0<=(af.k vA (x.2.1,(af.n bS x.2.2.2.2.2.2.1 (i:Int):cN).2.1)).1/\(af.k vA (x.2.1,(af.n bS x.2.2.2.2.2.2.1 (i:Int):cN).2.1)).1<=1000001048576:=by
  exact h.at a
 have M:=h.frm (nd:=(i:Int)) (e:=NR af x i c) (l:=100) rfl ⟨A.1,bP A.2<|by decide⟩ (by decide) xB;refine ah (bM (l:=x.2.2.2.2.2.2.1) (by have:=h.i;omega))<|ah (g 9).1<|du (λk=>aP<|alL h hK a rfl rfl rfl rfl<|h.bab a k) λ_=>ah (g 10).1<|cX (λ_=>ay id) λf=>dD (λ_=>ay id) λ_=>dD (λ_=>ay id) λ_=>aP<|(Za h (by omega) rfl rfl M).mono λr k=>⟨k.mono (by omega)<|by omega,λn=>absurd (f.symm.trans n)<|by decide⟩
def gM(n:Node)(y:cN):cN:=(n,y.2)
variable{e:jr}
def tc.aH{a:Net}(h:tc x e a)(j:Nat):aH a j=aH x j:=by
 obtain⟨f,l,rfl,_⟩:=h;rfl
variable{f:cN->cN}
def fE(h:i<x.2.2.2.2.2.2.1.length):aH (cO x<|bA x.2.2.2.2.2.2.1 i f) i=f (aH x i):=uF h
def tc.snd{a:Net}(h:zu x i K)(p:tc x e a):zu a i K:=by
 obtain⟨f,j,rfl,a1,a2,_⟩:=p;exact⟨h.k,⟨h.q.made,a1,a2⟩,h.i,h.f,h.g,h.c,h.ml,h.n,h.fl⟩
def zu.mod(h:zu x i K):zu (cO x<|bA x.2.2.2.2.2.2.1 j f) i K:=
 ⟨h.k,⟨h.q.made,h.q.len,h.q.heap⟩,by show i<(bA _ _ _).length;rw[bO];exact h.i,h.f,by show(bA _ _ _).length<=_;rw[bO];exact h.g,h.c,h.ml,by show(bA _ _ _).length<=_;rw[bO];exact h.n,h.fl⟩
def Spk(x:Net)(i:Nat)(r:Net×Bool):Prop:=
 let o:=rH x.2.1 (aH x i).1
 (o.2.2.2≠0/\r=(x,true))\/(o.2.2.2=0/\∃y,(o.1.2.1=1/\Lst (cO x<|bA x.2.2.2.2.2.2.1 i<|gM o.1) i y\/o.1.2.1≠1/\y=cO x (bA x.2.2.2.2.2.2.1 i<|gM o.1))/\(o.2.2.1=false/\r=(y,lh o.1)\/o.2.2.1=true/\r.2=true/\pM y r.1 3 1))
def pM.len{k:Nat}(e:pM x y k j):y.2.2.2.2.2.2.1.length=x.2.2.2.2.2.2.1.length:=by
 obtain⟨a,b,s,l,n,f,rfl,_⟩:=e;rfl
variable{r:Net×Bool}
def Spk.len(h:Spk x i r):r.1.2.2.2.2.2.2.1.length=x.2.2.2.2.2.2.1.length:=by
 rcases h with ⟨_,rfl⟩|⟨_,y,f,a⟩
 .rfl
 .have e:y.g.length=x.g.length:=by
   rcases f with ⟨_,f⟩|⟨_,rfl⟩
   .rw[f.len];exact bO
   .exact bO
  rcases a with ⟨_,rfl⟩|⟨_,_,a⟩
  .exact e
  .rw[a.len];exact e
def acP(h:zu x i K)(hK:K+1<=800010)(D:dP x.2.1=true)(H:0<=(aH x i).2.2.2.2.1/\(aH x i).2.2.2.2.1<=900000000000)(G:0<=x.2.2.2.2.2.1.2.2/\x.2.2.2.2.2.1.2.2<=2199023255552)(C:0<=(aH x i).2.1.1/\(aH x i).2.1.1<=1000000000000):MU (x,(i:Int),c)=true/\Spk x i (wW (x,(i:Int),c)):=by
 have p:=h.i;refine kF (s:=Empty.elim) (t:=SH af x i c) (P:=Spk x i) ?_ λr F=>F.len;have z:qy af x (i:Int)=rH x.2.1 (aH x i).1:=by
  unfold qy;rw[nR];rfl
 have v:vk af x (i:Int)=bA x.2.2.2.2.2.2.1 i (gM (rH x.2.1 (aH x i).1).1):=by
  unfold vk;rw[z,nR];exact Fp
 have n:aH (cO x<|bA x.2.2.2.2.2.2.1 i<|gM (rH x.2.1 (aH x i).1).1) i=gM (rH x.2.1 (aH x i).1).1 (aH x i):=uF p;have hs:=h.mod (j:=i) (f:=gM (rH x.2.1 (aH x i).1).1);unfold SH;rw[z,v];refine ah (bM (l:=x.2.2.2.2.2.2.1)<|by omega)<|dD (λg=>ay<|.inl ⟨g,rfl⟩) λg=>cv (λe=>?_) λe=>cX (λa=>ay<|.inr ⟨g,_,.inr ⟨e,rfl⟩,.inl ⟨a,rfl⟩⟩) λa=>?_
 .have⟨p1,p2⟩:=Ho (x:=cO x<|bA x.2.2.2.2.2.2.1 i<|gM (rH x.2.1 (aH x i).1).1) hs.q hs.i D (by rw[n];show 0<=(aH x i).2.2.2.2.1/\(aH x i).2.2.2.2.1<=_;omega) G;have o:wO af x (i:Int)=(GU (cO x<|bA x.2.2.2.2.2.2.1 i<|gM (rH x.2.1 (aH x i).1).1,(i:Int))).1:=by
   unfold wO;rw[v];rfl
  have A:zu (wO af x i) i K:=by rw[o];exact p2.snd<|hs.mod
  have p3:Lst (cO x<|bA x.2.2.2.2.2.2.1 i<|gM (rH x.2.1 (aH x i).1).1) i<|wO af x i:=by rw[o];exact p2
  have⟨q,u⟩:=Nn (f:=(rH x.2.1 (aH x i).1).2.1) (c:=c) A hK (by rw[o,tc.aH p2,fE hs.i,n];exact C);exact ah p1<|ah (qa p)<|cX (λa=>ay<|.inr ⟨g,_,.inl ⟨e,p3⟩,.inl ⟨a,rfl⟩⟩) λa=>ah q<|ah (fv A.i)<|ay<|.inr ⟨g,_,.inl ⟨e,p3⟩,.inr ⟨a,rfl,u⟩⟩
 .have⟨q,u⟩:=Nn (f:=(rH x.2.1 (aH x i).1).2.1) (c:=c) hs hK (by rw[n];exact C);exact ah q<|ah (qa p)<|ay<|.inr ⟨g,_,.inr ⟨e,rfl⟩,.inr ⟨a,rfl,u⟩⟩
def ama(n:Node)(c:qB)(y:cN):cN:=(n,c,y.2.2)
def ajd(c a:qB):Prop:=a.1=c.1/\a.2.1=c.2.1/\(c.2.2.length<=8->a.2.2.length<=8)
def ajd.id{c:qB}:ajd c c:=⟨rfl,rfl,λh=>h⟩
def Xl(x:Net)(i:Nat)(a:Net):Prop:=a=x\/∃l c,(oG x.2.1 (aH x i).1 l).2.2=0/\ajd (aH x i).2.1 c/\a=cO x (bA x.2.2.2.2.2.2.1 i<|ama (oG x.2.1 (aH x i).1 l).1 c)
def Xl.len{a:Net}(h:Xl x i a):(a.2.2.2.2.2.2.1).length=x.2.2.2.2.2.2.1.length:=by
 rcases h with rfl|⟨_,_,_,_,rfl⟩
 .rfl
 .exact bO
variable{l:List Seen}
def aat{L:List cN}{a b:List fC}{o:qC×Int}(f:i<x.2.2.2.2.2.2.1.length)(p:a=x.2.2.2.2.2.2.2.1)(q:b=x.2.2.2.2.2.2.2.2.1)(n:L=bA x.2.2.2.2.2.2.1 i (gM (oG x.2.1 (aH x i).1 l).1))(u:o=(oG x.2.1 (aH x i).1 l).2)(A:(aH x i).2.1.2.2.length<=8):
  Go Empty.elim (.br (af.cm o.2 0) (.ret (yZ (CH x a) b,())) (.br (af.cm o.1.1 3) (.ret (yZ (CH (qK x L) a) b,()))<|.ao (af.k Im (x.2.1,(af.n bS L (i:Int):cN).2.1,t))<|.br (af.bq (af.k wY (x.2.1,(af.n bS L (i:Int):cN).2.1,t)).2 0) (.ret (yZ (CH (qK x<|md af bS L i λ(e:cN)=>zm e (af.k wY (x.2.1,(af.n bS L (i:Int):cN).2.1,t)).1) a) b,()))<|.ret (yZ (CH (qK x L) a) b,())):LT (Net×Unit) Empty) λr=>Xl x i r.1:=by
 subst p q n u;have en:(af.n bS (bA x.g i<|gM (oG x.2.1 (aH x i).1 l).1) (i:Int):cN).2.1=(aH x i).2.1:=by rw[BO f];rfl
 rw[en];have⟨v,z⟩:=anK (m:=x.2.1) (c:=(aH x i).2.1) (t:=t) (by omega);have same:(oG x.2.1 (aH x i).1 l).2.2=0->Xl x i (cO x<|bA x.g i<|gM (oG x.2.1 (aH x i).1 l).1):=λg=>.inr ⟨l,(aH x i).2.1,g,.id,rfl⟩;refine dD (λ_=>ay<|.inl rfl) λg=>dD (λ_=>ay<|same g) λ_=>ah v<|cv (λj=>ay<|.inr ⟨l,_,g,z j,?_⟩) λ_=>ay<|same g;show cO x (md af bS (bA x.g i<|gM (oG x.2.1 (aH x i).1 l).1) i λ(e:cN)=>zm e (af.k wY (x.2.1,(aH x i).2.1,t)).1)=_;exact congrArg (cO x)<|kG.trans<|mod_mod f
theorem xU{l:List α}(h:(l.length:Int)<=N):af.bE (af.l l) N=true:=by
 rw[aB,dW];simp_all
def afB(h:zu x i K)(H:x.2.2.2.2.2.2.1.length<=x.2.2.1.2.2.2.1.length)(j:(aH x i).2.1.2.2.length<=8):MS (x,(i:Int))=true/\Xl x i (uz (x,(i:Int))).1:=by
 have n:=h.i;have I:=h.k;have G:=h.c;refine kF (s:=Empty.elim) (t:=WZ af x i) (P:=λr=>Xl x i r.1) ?_ λr z=>z.len;have⟨A,C,_⟩:=Bz (l:=x.2.2.2.2.2.2.2.1) (a:=(af.k KI (x.2.1,(af.n bS x.2.2.2.2.2.2.1 (i:Int):cN).2.1)).1) (w:=(af.k zB (x.2.1,(af.n bS x.2.2.2.2.2.2.1 (i:Int):cN).2.1)).1) (th:=(af.n yI x.2.2.1.2.2.2.1 (i:Int):Int)) (by omega);have⟨D,F,_⟩:=Bz (l:=x.2.2.2.2.2.2.2.2.1) (a:=(af.k KI (x.2.1,(af.n bS x.2.2.2.2.2.2.1 (i:Int):cN).2.1)).1) (w:=(af.k zB (x.2.1,(af.n bS x.2.2.2.2.2.2.1 (i:Int):cN).2.1)).1) (th:=(af.n yI x.2.2.1.2.2.2.1 (i:Int):Int)) (by omega);have g:=(sF (v:=(jF x (),6,(i:Int),(af.n bS x.2.2.2.2.2.2.1 (i:Int):cN).1.2.2.1)) h.f).1;have e:(pg af x i).1=x.2.2.2.2.2.2.2.1:=C;have f:(qx af x i).1=x.2.2.2.2.2.2.2.2.1:=F;have o:DU af x (i:Int)=bA x.2.2.2.2.2.2.1 i (gM (oG x.2.1 (aH x i).1<|af.r 2 (Ty.gy qA:Seen)).1):=by rfl
 have p:DV af x (i:Int)=bA x.2.2.2.2.2.2.1 i (gM (oG x.2.1 (aH x i).1<|af.p ([(pg af x i).2]:List Seen) ([(qx af x i).2]:List Seen)).1):=by rfl
 have q:Jc af x (i:Int)=(oG x.2.1 (aH x i).1<|af.r 2 (Ty.gy qA:Seen)).2:=by rfl
 have u:(DT af x i).2=(oG x.2.1 (aH x i).1<|af.p ([(pg af x i).2]:List Seen) ([(qx af x i).2]:List Seen)).2:=by rfl
 refine ah (bM (l:=x.2.2.2.2.2.2.1)<|by omega)<|dD (λ_=>ay<|.inl rfl) λ_=>dD (λ_=>ay<|.inl rfl) λ_=>ah (bM (l:=x.2.2.1.2.2.2.1)<|by omega)<|ah A<|ah ?_<|ah D<|ah ?_<|ah g<|du (λ_=>ah (by decide)<|aat n e f o q j) λ_=>aat n e f p u j
 .rfl
 .exact xU (by show(2:Int)<=_;omega)
def Sw1(k:Nat)(x y:Net):Prop:=y=x\/∃on,lh (aH x k).1=false/\(on=true↔(aH x k).1.2.1=0)/\Pwr x k on y
def W_:Nat->Nat->Net->Net->Prop
 | 0,_,x,x'=>x'=x
 | f+1,k,x,x'=>∃y,Sw1 k x y/\W_ f (k+1) y x'
def Swt(x:Net)(i:Nat)(a:Net):Prop:=a=x\/((aH x i).2.2.2.2.2.2.1=true/\(aH x i).1.2.1=4/\W_ x.2.2.2.2.2.2.1.length 0 x a)
structure Swo(x:Net)(k:Nat):Prop where
 q:y9 x
 m:dP x.2.1=true
 f:x.2.2.1.2.2.2.2.2.2.2.length<=1000000
 w:0<=x.2.2.2.2.2.1.2.2/\x.2.2.2.2.2.1.2.2<=2199023255552
 t:∀j,k<=j->j<x.2.2.2.2.2.2.1.length->0<=(aH x j).2.2.2.2.1/\(aH x j).2.2.2.2.1<=900000000000
def ij(h:j≠i):aH (cO x<|bA x.2.2.2.2.2.2.1 i f) j=aH x j:=afY h
def tc.same{f:Net}(h:tc x e f):f.2.2.2.2.2.2.1=x.2.2.2.2.2.2.1/\f.2.1=x.2.1/\f.2.2.1=x.2.2.1/\f.2.2.2.2.2.1.2.2=x.2.2.2.2.2.1.2.2/\(f.2.2.2.2.2.1).1=x.2.2.2.2.2.1.1/\f.1=x.1/\f.2.2.2.2.2.2.2=x.2.2.2.2.2.2.2/\(f.2.2.2.2.2.1.2.1).length<=16384/\Lk (f.2.2.2.2.2.1.2.1):=by
 obtain⟨j,l,rfl,a,b,_⟩:=h;exact⟨rfl,rfl,rfl,rfl,rfl,rfl,rfl,a,b⟩
theorem Swo.sw1{k:Nat}(h:Swo x k)(A:k<x.2.2.2.2.2.2.1.length)(s:Sw1 k x y):Swo y (k+1)/\y.2.2.2.2.2.2.1.length=x.2.2.2.2.2.2.1.length:=by
 have up:Swo x<|k+1:=⟨h.q,h.m,h.f,h.w,λj f a=>h.t j (by omega) a⟩;rcases s with rfl|⟨on,_,_,p⟩
 .simp_all
 .rcases p with ⟨_,rfl⟩|⟨_,⟨_,rfl⟩|⟨_,p⟩⟩
  .simp_all
  .refine⟨⟨⟨h.q.made,h.q.len,h.q.heap⟩,h.m,h.f,h.w,λj f a=>?_⟩,bO⟩;rw[ij<|by omega];exact h.t j (by omega) (by have a:j<(bA _ _ _).length:=a;rwa [bO] at a)
  .have e:=p.len;have l:y.2.2.2.2.2.2.1.length=x.2.2.2.2.2.2.1.length:=e.trans bO;have⟨C,n,o,q,u,_,_,v,z⟩:=tc.same p;refine⟨⟨⟨u.trans h.q.made,v,z⟩,by rw[n];exact h.m,by rw[o];exact h.f,by rw[q];exact h.w,λj f a=>?_⟩,l⟩;rw[tc.aH p,ij<|by omega,ij<|by omega];exact h.t j (by omega) (by omega)
theorem an4{n:Nat}:∀(f k:Nat) (x:Net),n-k<=f->k<=n->x.2.2.2.2.2.2.1.length=n->1<=n->n<=1000->Swo x k->Go (yg af) (yg af<|.c1 ⟨(n:Int),c⟩ k x) λr=>W_ (n-k) k x r.1:=by
 have p:∀(k:Nat) (x:Net),¬k<n->k<=n->Go (yg af) (yg af<|.c1 ⟨(n:Int),c⟩ k x) λr=>W_ (n-k) k x r.1:=λk x u W=>by
  refine aW (λg=>absurd g<|by grind) λ_=>ay ?_;rw[show n-k=0 from by omega];rfl
 intro f
 induction f with
 | zero=>grind
 | succ f ih=>
   intro k x S u V I J h;by_cases g:k<n
   .have o:k<x.2.2.2.2.2.2.1.length:=by omega
    have z:∀y,Sw1 k x y->Go (yg af) (.ak<|.c1 ⟨(n:Int),c⟩ (ot af k) y) λr=>W_ (n-k) k x r.1:=λy s=>by
     have⟨O,X⟩:=h.sw1 o s;rw[show ot af (k:Int)=((k+1:Nat):Int) from by unfold ot;rw[dq<|by omega];omega,show n-k=(n-(k+1))+1 from by omega];exact aP<|(ih (k+1) y (by omega) (by omega) (by omega) I J O).mono λr N=>⟨y,s,N⟩
    have q:∀m,af.k jy (jF x (),m,(k:Int),c)=true:=λm=>(sF (v:=(jF x (),m,(k:Int),c)) h.f).1;have G:(af.n bS x.2.2.2.2.2.2.1 (k:Int):cN)=aH x k:=nR;have j:=z x<|.inl rfl;have A:∀on,lh (aH x k).1=false->(on=true↔(aH x k).1.2.1=0)->Go (yg af) (.ao (af.k tQ (x,(k:Int),on))<|.ao (af.cm (af.l x.2.2.2.2.2.2.1) 0)<|.ak<|.c1 ⟨(n:Int),c⟩ (ot af k) (wV (x,(k:Int),on)).1) λr=>W_ (n-k) k x r.1:=λon a b=>by
     have⟨p1,p2⟩:=H_ (on:=on) h.q o h.m (h.t k (ai _) o) h.w;exact ah p1<|ah (fv o)<|z _<|.inr ⟨on,a,b,p2⟩
    have off:Go (yg af) (.br (af.cm (af.n bS x.2.2.2.2.2.2.1 (k:Int):cN).1.2.1 0) (.br (af.not<|af.k mG (af.n bS x.2.2.2.2.2.2.1 (k:Int):cN).1) (.ao (af.k tQ (x,(k:Int),false))<|.ao (af.cm (af.l x.2.2.2.2.2.2.1) 0)<|.ak<|.c1 ⟨(n:Int),c⟩ (ot af k) (wV (x,(k:Int),false)).1)<|.ak<|.c1 ⟨(n:Int),c⟩ (ot af k) x)<|.ak<|.c1 ⟨(n:Int),c⟩ (ot af k) x) λr=>W_ (n-k) k x r.1:=by
     exact dD (λe=>cX (λD=>A false D ⟨nofun,λF=>absurd F e⟩) λ_=>j) λ_=>j
    refine aW (λ_=>ah (bM (l:=x.2.2.2.2.2.2.1)<|by omega)<|ah (q 2)<|ah (q 1)<|du (λ_=>cv (λe=>?_) λ_=>du (λ_=>off) λ_=>j) λ_=>du (λ_=>off) λ_=>j) λH=>absurd H (by grind);have e:(aH x k).1.2.1=0:=by rw[<-G];exact e
    have C:lh (aH x k).1=false:=by unfold lh;grind
    exact A true C ⟨λ_=>e,λ_=>rfl⟩
   .exact p k x g u
theorem W_.len:∀{f k:Nat} {x y:Net},W_ f k x y->Swo x k->k+f<=x.2.2.2.2.2.2.1.length->y.2.2.2.2.2.2.1.length=x.2.2.2.2.2.2.1.length
 | 0,_,_,_,h,_,_=>by rw[h]
 | f+1,k,x,_,h,hs,hk=>by
   have⟨z,a,e⟩:=h;have⟨j,l⟩:=hs.sw1 (by omega) a;rw[W_.len e j<|by omega];omega
theorem Qh(h:Swo x 0)(A:i<x.2.2.2.2.2.2.1.length)(q:x.2.2.2.2.2.2.1.length<=1000):Au (x,(i:Int),c)=true/\Swt x i (Ej (x,(i:Int),c)).1:=by
 refine kF (s:=yg af) (t:=SE af x i c) (P:=λr=>Swt x i r.1) ?_ λr j=>?_
 .have v:(af.n bS x.2.2.2.2.2.2.1 (i:Int):cN)=aH x i:=nR;unfold SE;refine ah (bM (l:=x.2.2.2.2.2.2.1)<|by omega)<|cX (λ_=>ay<|.inl rfl) λa=>dD (λ_=>ay<|.inl rfl) λb=>aP ?_;have lp:∀(f k:Nat),i-k<=f->k<=i->Go (yg af) (yg af<|.c0 ⟨(i:Int),x,c⟩ k) λr=>Swt x i r.1:=by
   have u:∀k,¬k<i->Go (yg af) (yg af<|.c0 ⟨(i:Int),x,c⟩ ((k:Nat):Int)) λr=>Swt x i r.1:=λk p=>
    aW (λg=>absurd g<|by grind) λ_=>aP<|(an4 (n:=x.2.2.2.2.2.2.1.length) (c:=c) _ 0 x (ai _) (aM _) rfl (by omega) q h).mono λr j=>.inr ⟨a,b,j⟩
   intro f
   induction f with
   | zero=>grind
   | succ f ih=>
     intro k z p;by_cases g:k<i
     .refine aW (λ_=>ah (bM (l:=x.2.2.2.2.2.2.1)<|by omega)<|cv (λ_=>ay<|.inl rfl) λ_=>?_) λo=>absurd o (by grind);rw[dq<|by omega,show(k:Int)+1=((k+1:Nat):Int) from by omega];exact aP<|ih (k+1) (by omega) (by omega)
     simp_all
  exact lp i 0 (ai _)<|aM _
 .rcases j with e|⟨_,_,e⟩
  .rw[e]
  .exact e.len h (by omega)
def ze(y:cN):cN:=(y.1,y.2.1,y.2.2.1,y.2.2.2.1,y.2.2.2.2.1,false,y.2.2.2.2.2.2)
def edY(n:Node)(y:cN):cN:=(n,y.2.1,y.2.2.1,y.2.2.2.1,y.2.2.2.2.1,y.2.2.2.2.2.1,y.2.2.2.2.2.2.1,true)
def nxY(n:Node)(c:qB)(y:cN):cN:=(n,c,IntKind.i64.wrap<|y.2.2.1+1,y.2.2.2)
def WL(x:Net)(s:List eX):Net:=(x.1,x.2.1,x.2.2.1,x.2.2.2.1,x.2.2.2.2.1,x.2.2.2.2.2.1,x.2.2.2.2.2.2.1,x.2.2.2.2.2.2.2.1,x.2.2.2.2.2.2.2.2.1,x.2.2.2.2.2.2.2.2.2.1,s)
def Ev2(x:Net)(i:Nat)(a:Net):Prop:=
 a=x/\(lh (aH x i).1=false\/(jI x.2.1 (aH x i).1).2≠0)\/
 lh (aH x i).1=true/\(jI x.2.1 (aH x i).1).2=0/\(a=cO x (bA x.2.2.2.2.2.2.1 i<|edY (jI x.2.1 (aH x i).1).1)\/
  ∃d c s,FE x.2.1 (aH x i).2.1 d c/\s.length<=x.2.2.2.2.2.2.2.2.2.2.length+1/\(∀z∈s,z∈x.2.2.2.2.2.2.2.2.2.2\/z.2=(jI x.2.1 (aH x i).1).1)/\
   tc (WL (cO x<|bA x.2.2.2.2.2.2.1 i<|nxY (jI x.2.1 (aH x i).1).1 c) s) (v8 x c.1,4,(i:Int),(aH x i).2.2.2.2.1) a)
structure Evo(x:Net)(i:Nat):Prop where
 q:y9 x
 m:dP x.2.1=true
 lt:i<x.2.2.2.2.2.2.1.length
 d:∀v∈x.2.2.1.2.2.2.2.2.1, -x.2.1.2.2.2.2.1<=v/\v<=x.2.1.2.2.2.2.1
 l:x.2.2.1.2.2.2.2.2.1.length<=1000000
 s:x.2.2.2.2.2.2.2.2.2.2.length<=800000
 b:∀n,(jI x.2.1 (aH x i).1).2=0->n=(jI x.2.1 (aH x i).1).1->afb n=true
def nxC(x:Net)(i:Nat):qB×Int:=KF (x.2.1,(aH x i).2.1,uA (x.2.2.1,x.2.1.1,(aH x i).2.2.1,(i:Int)))
theorem alR(h:Evo x i):Go (Ni af) (Ni af<|.c0 ⟨(i:Int),(i:Int),x⟩) λr=>Ev2 x i r.1:=by
 have⟨f,V,e,O,S,hs,I⟩:=h;have H:(af.n bS x.2.2.2.2.2.2.1 (i:Int):cN)=aH x i:=nR;have D:yp af ⟨(i:Int),(i:Int),x⟩=jI x.2.1 (aH x i).1:=by rfl
 have o:wK af ⟨(i:Int),(i:Int),x⟩=bA x.2.2.2.2.2.2.1 i (gM (jI x.2.1 (aH x i).1).1):=by rfl
 have en:(af.n bS (bA x.2.2.2.2.2.2.1 i<|gM (jI x.2.1 (aH x i).1).1) (i:Int):cN)=gM (jI x.2.1 (aH x i).1).1 (aH x i):=BO e;have p:wL af ⟨(i:Int),(i:Int),x⟩=nxC x i:=by
  unfold wL;show KF (x.2.1,(af.n bS (bA x.2.2.2.2.2.2.1 i<|gM (jI x.2.1 (aH x i).1).1) (i:Int):cN).2.1,uA (x.2.2.1,x.2.1.1,(af.n bS (bA x.2.2.2.2.2.2.1 i<|gM (jI x.2.1 (aH x i).1).1) (i:Int):cN).2.2.1,(i:Int)))=_;rw[en];rfl
 have F:wM af ⟨(i:Int),(i:Int),x⟩=bA x.2.2.2.2.2.2.1 i (nxY (jI x.2.1 (aH x i).1).1 (nxC x i).1):=by
  unfold wM SP;rw[o,p];exact(congrArg (λl=>md af bS l i λ(j:cN)=>up2 j<|af.bJ j.2.2.1 1)<|kG.trans<|mod_mod e).trans (kG.trans<|mod_mod e)
 have G:I9 af ⟨(i:Int),(i:Int),x⟩=x.2.2.2.2.2.2.2.2.2.2 ++ [((jI x.2.1 (aH x i).1).1.2.2.1.1,(jI x.2.1 (aH x i).1).1)]:=by rfl
 have J:=w7 V;have⟨C,Z,d3⟩:=Y7 (s:=x.2.2.1) (n:=x.2.1.1) (k:=(aH x i).2.2.1) (i:=(i:Int)) (d:=x.2.1.2.2.2.2.1) (by omega) O S;have⟨n1,X⟩:=amV (m:=x.2.1) (c:=(aH x i).2.1) (d:=uA (x.2.2.1,x.2.1.1,(aH x i).2.2.1,(i:Int)));have W:(x.2.2.2.2.2.2.2.2.2.2.length:Int)+1<=651562446089:=by omega
 have A:af.cm (af.l<|bA x.2.2.2.2.2.2.1 i<|nxY (jI x.2.1 (aH x i).1).1 (nxC x i).1) 0=true:=qa e;have P:=λs=>Ir (x:=WL (cO x<|bA x.2.2.2.2.2.2.1 i<|nxY (jI x.2.1 (aH x i).1).1 (nxC x i).1) s) (t:=(nxC x i).1.1) (k:=4) (i:=i) ⟨f.made,f.len,f.heap⟩ (by show i<(bA _ _ _).length;rw[bO];omega) (by decide);have q:∀s,(aH (WL (cO x<|bA x.2.2.2.2.2.2.1 i<|nxY (jI x.2.1 (aH x i).1).1 (nxC x i).1) s) i).2.2.2.2.1=(aH x i).2.2.2.2.1:=λs=>by
  show((bA x.2.2.2.2.2.2.1 i _).getD i dS).2.2.2.2.1=_;rw[uF e];rfl
 refine cX (λg=>ay<|.inl ⟨rfl,.inl ?_⟩) λg=>?_
 .rw[<-H];exact g
 rw[D,o,en,p,F,G];refine dD (λa=>ay<|.inl ⟨rfl,.inr a⟩) λa=>ah C<|ah n1<|dD (λu=>ay<|.inr ⟨g,a,.inl ?_⟩) λu=>?_
 .exact congrArg (cO x)<|kG.trans<|mod_mod e
 .have N:=X u;refine cv (λ_=>ah (I _ a rfl)<|ah (gh W)<|ah (P _).1<|ah A<|ay<|.inr ⟨g,a,.inr ⟨_,_,x.2.2.2.2.2.2.2.2.2.2 ++ [((jI x.2.1 (aH x i).1).1.2.2.1.1,(jI x.2.1 (aH x i).1).1)],N,?_,λz v=>?_,?_⟩⟩) λ_=>ah (P x.2.2.2.2.2.2.2.2.2.2).1<|ah A<|ay<|.inr ⟨g,a,.inr ⟨_,_,x.2.2.2.2.2.2.2.2.2.2,N,jb _,λz v=>.inl v,?_⟩⟩
  .simp_all
  .grind
  .have:=(P<|x.2.2.2.2.2.2.2.2.2.2 ++ [((jI x.2.1 (aH x i).1).1.2.2.1.1,(jI x.2.1 (aH x i).1).1)]).2;rw[q] at this;exact this
  .have:=(P x.2.2.2.2.2.2.2.2.2.2).2;rw[q] at this;exact this
def Evl(x:Net)(i:Nat)(a:Net):Prop:=
 (lh (aH x i).1=false/\a=x)\/(lh (aH x i).1=true/\∃y z,Xl x i y/\((aH x i).2.2.2.2.2.1=true\/(aH x i).1.2.2.1.2.1=(i:Int)->y=x)/\Swt (cO y<|bA y.2.2.2.2.2.2.1 i ze) i z/\Ev2 z i a)
def Ev2.len{a:Net}(h:Ev2 x i a):(a.2.2.2.2.2.2.1).length=x.2.2.2.2.2.2.1.length:=by
 rcases h with ⟨rfl,_⟩|⟨_,_,rfl|⟨_,_,_,_,_,_,p⟩⟩
 .rfl
 .exact bO
 .rw[(tc.same p).1];exact bO
structure Evi(x:Net)(i K:Nat):Prop where
 s:zu x i K
 m:dP x.2.1=true
 w:0<=x.2.2.2.2.2.1.2.2/\x.2.2.2.2.2.1.2.2<=2199023255552
 n:x.2.2.2.2.2.2.1.length<=1000
 g:x.2.2.2.2.2.2.1.length<=x.2.2.1.2.2.2.1.length
 c:(aH x i).2.1.2.2.length<=8
 t:∀j,j<x.2.2.2.2.2.2.1.length->0<=(aH x j).2.2.2.2.1/\(aH x j).2.2.2.2.1<=900000000000
 e:∀y z,Xl x i y->Swt (cO y (bA y.2.2.2.2.2.2.1 i ze)) i z->Evo z i
theorem afn(h:Evi x i K):MN (x,(i:Int))=true/\Evl x i (OQ (x,(i:Int))).1:=by
 have n:=h.s.i;have Z:AI af x (i:Int)=aH x i:=by rfl
 have u:∀y,Xl x i y->Swo (cO y<|bA y.2.2.2.2.2.2.1 i ze) 0/\i<(cO y<|bA y.2.2.2.2.2.2.1 i ze).2.2.2.2.2.2.1.length/\(cO y<|bA y.2.2.2.2.2.2.1 i ze).2.2.2.2.2.2.1.length=x.2.2.2.2.2.2.1.length:=λy a=>by
  have f:y.2.2.2.2.2.2.1.length=x.2.2.2.2.2.2.1.length:=a.len;have G:(cO y<|bA y.2.2.2.2.2.2.1 i ze).2.2.2.2.2.2.1.length=x.2.2.2.2.2.2.1.length:=bO.trans f;have W:∀j,j<x.2.2.2.2.2.2.1.length->0<=(aH y j).2.2.2.2.1/\(aH y j).2.2.2.2.1<=900000000000:=λj o=>by
   rcases a with rfl|⟨l,c,_,_,rfl⟩
   .exact h.t j o
   .by_cases e:j=i
    .rw[e,fE n];exact h.t i n
    .rw[ij e];exact h.t j o
  have p:∀j,j<x.2.2.2.2.2.2.1.length->0<=(aH (cO y<|bA y.2.2.2.2.2.2.1 i ze) j).2.2.2.2.1/\(aH (cO y<|bA y.2.2.2.2.2.2.1 i ze) j).2.2.2.2.1<=900000000000:=λj o=>by
   by_cases e:j=i
   .rw[e,fE<|by omega];exact W i n
   .rw[ij e];simp_all
  refine⟨?_,by omega,G⟩;rcases a with rfl|⟨l,c,_,_,rfl⟩
  .exact⟨⟨h.s.q.made,h.s.q.len,h.s.q.heap⟩,h.m,h.s.f,h.w,λj _ o=>p j<|by omega⟩
  .exact⟨⟨h.s.q.made,h.s.q.len,h.s.q.heap⟩,h.m,h.s.f,h.w,λj _ o=>p j<|by omega⟩
 refine kF (s:=Ni af) (t:=Sy af x i) (P:=λr=>Evl x i r.1) ?_ λr v=>?_
 .unfold Sy Vi;have q:∀y:Net,i<y.2.2.2.2.2.2.1.length->md af bS y.2.2.2.2.2.2.1 i (λ(f:cN)=>vn f false)=bA y.2.2.2.2.2.2.1 i ze:=λy a=>kG;have tail:∀(y:Net) (c:fB),lh (aH x i).1=true->Xl x i y->((aH x i).2.2.2.2.2.1=true\/(aH x i).1.2.2.1.2.1=(i:Int)->y=x)->Au (cO y<|bA y.2.2.2.2.2.2.1 i ze,(i:Int),c)=true/\Go (Ni af) (.ak<|.c0 ⟨(i:Int),(i:Int),(Ej (cO y<|bA y.2.2.2.2.2.2.1 i ze,(i:Int),c)).1⟩) λr=>Evl x i r.1:=λy c g a V=>by
   have⟨F,I,J⟩:=u y a;have⟨p1,p2⟩:=Qh (c:=c) F I (by rw[J];exact h.n);exact⟨p1,aP<|(alR<|h.e y _ a p2).mono λr v=>.inr ⟨g,y,_,a,V,p2,v⟩⟩
  have⟨X,H⟩:=afB h.s h.g h.c;have hY:x.2.2.2.2.2.2.1.length=(uz (x,(i:Int))).1.2.2.2.2.2.2.1.length:=H.len.symm;have G:NL af x (i:Int)=(cO (uz (x,(i:Int))).1<|bA (uz (x,(i:Int))).1.2.2.2.2.2.2.1 i ze,(i:Int),(aH x i).1.2.2.1):=by rfl
  have f:NK af x (i:Int)=(cO x<|bA x.2.2.2.2.2.2.1 i ze,(i:Int),(aH x i).1.2.2.1):=by rfl
  have B:lh (aH x i).1=true->Go (Ni af) (.ao (af.k Au (cO x<|bA x.2.2.2.2.2.2.1 i ze,(i:Int),(aH x i).1.2.2.1))<|.ao (af.cm (af.l<|md af bS x.2.2.2.2.2.2.1 i λ(f:cN)=>vn f false) 0)<|.ak<|.c0 ⟨(i:Int),(i:Int),(Ej (cO x<|bA x.2.2.2.2.2.2.1 i ze,(i:Int),(aH x i).1.2.2.1)).1⟩) λr=>Evl x i r.1:=λg=>by
   have⟨C,D⟩:=tail x (aH x i).1.2.2.1 g (.inl rfl) λ_=>rfl;exact ah C<|ah (by rw[q x n];exact qa n) D
  refine ah (bM (l:=x.2.2.2.2.2.2.1)<|by omega)<|cX (λg=>ay<|.inl ⟨g,rfl⟩) λg=>cX (λN=>dD (λO=>?_) λ_=>B g) λ_=>B g;have⟨C,D⟩:=tail (uz (x,(i:Int))).1 (aH x i).1.2.2.1 g H λk=>k.elim (λk=>absurd (N.symm.trans k)<|by decide) λk=>absurd k O;refine ah X<|ah (fv n)<|ah C<|ah ?_ D;rw[show md af bS (af.k uz (x,(i:Int))).1.2.2.2.2.2.2.1 i (λ(f:cN)=>vn f false)=bA (uz (x,(i:Int))).1.2.2.2.2.2.2.1 i ze from q (uz (x,(i:Int))).1<|by omega];exact qa (by omega)
 .rcases v with ⟨_,e⟩|⟨_,y,z,a,_,A,S⟩
  .rw[e]
  .have⟨F,I,J⟩:=u y a;rw[S.len];rcases A with rfl|⟨_,_,A⟩
   .omega
   .rw[A.len F<|by omega];omega
inductive Vp (m:aA) (n:Node):Node->Prop where
 | rfl:Vp m n n
 | step {k:Node} {o:cq}:Vp m n k->(zf m k o).2=0->Vp m n (zf m k o).1
def Bg2(x:Net)(i:Nat)(a:Net):Prop:=∃y,Fz x i (aH x i).1.2.2.1 (y,())/\
 ((aH x i).1.2.2.1.2.1=(i:Int)/\(∃r:Net×Bool,Spk y i r/\(r.2=false/\a=r.1\/r.2=true/\tc r.1 (v8 r.1<|ovT x.2.1 (aH r.1 i).2.1.1,1,(i:Int),(aH r.1 i).2.2.2.2.1) a))\/
   (aH x i).1.2.2.1.2.1≠(i:Int)/\tc y (v8 y<|ovT x.2.1 (aH y i).2.1.1,1,(i:Int),(aH y i).2.2.2.2.1) a)
structure Bgo(x:Net)(i K:Nat):Prop where
 s:zu x i K
 k:K+8<=800010
 m:dP x.2.1=true
 w:0<=x.2.2.2.2.2.1.2.2/\x.2.2.2.2.2.1.2.2<=2199023255552
 t:0<=(aH x i).2.2.2.2.1/\(aH x i).2.2.2.2.1<=900000000000
 c:0<=(aH x i).2.1.1/\(aH x i).2.1.1<=1000000000000
 o:x.2.2.1.2.2.2.2.2.2.1.length<=1000000
def pM.same{k:Nat}(e:pM x y k j):y.2.1=x.2.1/\y.2.2.2.2.2.1.2.2=x.2.2.2.2.2.1.2.2:=by
 obtain⟨a,b,s,l,n,f,rfl,_⟩:=e;exact⟨rfl,rfl⟩
theorem Spk.clk(h:Spk x i r)(j:i<x.2.2.2.2.2.2.1.length):(aH r.1 i).2.1=(aH x i).2.1/\r.1.2.1=x.2.1:=by
 rcases h with ⟨_,rfl⟩|⟨_,y,f,a⟩
 .simp_all
 .have e:(aH y i).2.1=(aH x i).2.1/\y.2.1=x.2.1:=by
   rcases f with ⟨_,f⟩|⟨_,rfl⟩
   .refine⟨?_,(tc.same f).2.1⟩;have l:i<(cO x<|bA x.g i<|gM (rH x.2.1 (aH x i).1).1).g.length:=by show i<(bA _ _ _).length;rw[bO];omega
    rw[tc.aH f,fE l,fE j];rfl
   .exact⟨by rw[fE j];rfl,rfl⟩
  rcases a with ⟨_,rfl⟩|⟨_,_,a⟩
  .exact e
  .exact⟨by rw[a.aH];grind,by rw[a.same.1];exact e.2⟩
def Spk.qok(h:Spk x i r)(a:y9 x):y9 r.1:=by
 rcases h with ⟨_,rfl⟩|⟨_,y,j,f⟩
 .omega
 .have e:y9 y:=by
   rcases j with ⟨_,j⟩|⟨_,rfl⟩
   .have⟨_,_,_,_,l,_,_,n,o⟩:=tc.same j;exact⟨l.trans a.made,n,o⟩
   .exact⟨a.made,a.len,a.heap⟩
  rcases f with ⟨_,rfl⟩|⟨_,_,f⟩
  .exact e
  .exact f.ok e.made
variable{p:CJ}
theorem akc{k:Nat}(h:Bgo x i K)(J:p.b1<=(k:Int))(v:p.b3=(i:Int)):Go (ye af) (ye af<|.c1 p k x) λr=>Bg2 x i r.1:=by
 have H:=h.s.i;have N:=h.k;have A:rW af p x=aH x i:=by
  unfold rW;rw[v];rfl
 have G:vh af p x=(tG (x,(i:Int),(aH x i).1.2.2.1)).1:=by
  unfold vh;rw[A,v];rfl
 have F:vg af p x=(vh af p x,(i:Int),(aH x i).1.2.2.1):=by
  unfold vg
  simp_all
 refine aW (λg=>absurd g<|by omega) λ_=>?_;rw[F,A,G,v,show af.k wW ((tG (x,(i:Int),(aH x i).1.2.2.1)).1,(i:Int),(aH x i).1.2.2.1)=wW ((tG (x,(i:Int),(aH x i).1.2.2.1)).1,(i:Int),(aH x i).1.2.2.1) from rfl];have⟨D,n⟩:=QP (c:=(aH x i).1.2.2.1) h.s (by omega) h.c;have a:zu (tG (x,(i:Int),(aH x i).1.2.2.1)).1 i<|K+6:=h.s.Zg n.1 (by omega);have o:=n.1.aH;have f:=n.1.same;have q:Fz x i (aH x i).1.2.2.1 ((tG (x,(i:Int),(aH x i).1.2.2.1)).1,()):=n;generalize (tG (x,(i:Int),(aH x i).1.2.2.1)).1=y at *;refine ah D<|ah (fv H)<|cv (λg=>?_) λg=>?_
 .have⟨I,l⟩:=acP (c:=(aH x i).1.2.2.1) a (by omega) (by rw[f.1];exact h.m) (by rw[o];exact h.t) (by rw[f.2];exact h.w) (by rw[o];exact h.c);generalize wW (y,(i:Int),(aH x i).1.2.2.1)=r at *;have O:r.1.2.2.2.2.2.2.1.length=y.2.2.2.2.2.2.1.length:=l.len;have C:=l.clk a.i;have⟨z,j⟩:=Fh (x:=r.1) (i:=i) (l.qok a.q) (by have:=a.i;omega) (by rw[C.2,f.1];exact h.m) (by rw[C.1,o];exact⟨h.c.1,bP h.c.2<|by decide⟩);have e:r.1.2.1=x.2.1:=by simp_all
  rw[e] at j;exact ah I<|ah (fv a.i)<|cX (λu=>ay ⟨y,q,.inl ⟨g,r,l,.inl ⟨u,rfl⟩⟩⟩) λu=>ah z<|ah (fv (i:=i) (by have:=a.i;omega))<|ay ⟨y,q,.inl ⟨g,r,l,.inr ⟨u,j⟩⟩⟩
 .have⟨z,j⟩:=Fh (x:=y) a.q a.i (by rw[f.1];exact h.m) (by rw[o];exact⟨h.c.1,bP h.c.2<|by decide⟩);rw[f.1] at j;exact ah z<|ah (fv a.i)<|ay ⟨y,q,.inr ⟨g,j⟩⟩
theorem V5{l:List cN}(h:i<l.length):bA l i (gM (l.getD i dS).1)=l:=by
 have e:gM (l.getD i dS).1 (l.getD i dS)=l.getD i dS:=rfl;unfold bA
 simp_all
theorem YG{l:List cq}{a:Node}(u:i<x.2.2.2.2.2.2.1.length)(C:p.b0=l)(H:p.b1=(l.length:Int))(o:p.b3=(i:Int))(N:l.length<=1000000)(D:∀n,Vp x.2.1 a n->Bgo (cO x<|bA x.2.2.2.2.2.2.1 i<|gM n) i K):∀(f k:Nat) (n:Node),l.length-k<=f->Vp x.2.1 a n->Go (ye af) (ye af<|.c1 p k<|cO x<|bA x.2.2.2.2.2.2.1 i<|gM n) λr=>∃n,Vp x.2.1 a n/\Bg2 (cO x<|bA x.2.2.2.2.2.2.1 i<|gM n) i r.1:=by
 have G:∀(k:Nat) (n:Node),¬k<l.length->Vp x.2.1 a n->Go (ye af) (ye af<|.c1 p k<|cO x<|bA x.g i<|gM n) λr=>∃n,Vp x.2.1 a n/\Bg2 (cO x<|bA x.g i<|gM n) i r.1:=λk n J e=>(akc (D n e) (by omega) o).mono λr F=>⟨n,e,F⟩;intro f
 induction f with
 | zero=>grind
 | succ f ih=>
   intro k n I e;by_cases g:k<l.length
   .have en:rW af p (cO x<|bA x.g i<|gM n)=gM n (aH x i):=by
     unfold rW;rw[o];exact BO u
    have j:Go (ye af) (.ak<|.c1 p (af.bJ k 1)<|cO x<|bA x.g i<|gM n) λr=>∃n,Vp x.2.1 a n/\Bg2 (cO x<|bA x.g i<|gM n) i r.1:=by
     rw[dq<|by omega,show(k:Int)+1=((k+1:Nat):Int) from by omega];exact aP<|ih (k+1) n (by omega) e
    refine aW (λ_=>ah (by rw[C];exact bM (l:=l)<|by omega)<|cv (λ_=>cv (λ_=>cv (λ_=>?_) λ_=>j) λ_=>j) λ_=>j) λz=>absurd z (by omega);rw[en];refine cv (λA=>?_) λ_=>j;have v:af.set (bA x.g i<|gM n) p.b3 ((af.k TQ (x.2.1,(gM n<|aH x i).1,(af.n dE p.b0 (k:Int):cq))).1,(gM n<|aH x i).2)=bA x.g i (gM (zf x.2.1 n (af.n dE p.b0 (k:Int):cq)).1):=by
     rw[o];exact Fp.trans<|mod_mod u
    rw[dq<|by omega,show(k:Int)+1=((k+1:Nat):Int) from by omega];have q:=ih (k+1) _ (by omega)<|.step e A;rw[<-v] at q;exact aP q
   grind
def Qs(y:cN):cN:=(y.1,y.2.1,y.2.2.1,y.2.2.2.1,y.2.2.2.2.1,y.2.2.2.2.2.1,y.1.2.1==4,y.2.2.2.2.2.2.2)
def ovY(y:cN):cN:=(y.1,y.2.1,y.2.2.1,y.2.2.2.1,y.2.2.2.2.1,y.2.2.2.2.2.1,y.2.2.2.2.2.2.1,true)
def zn(x:Net)(i:Nat):Net:=cO x<|bA x.2.2.2.2.2.2.1 i Qs
def O4(x:Net)(i:Nat)(n:Node):Net:=cO (zn x i)<|bA (zn x i).2.2.2.2.2.2.1 i<|gM n
def Bgn(x:Net)(i:Nat)(a:Net):Prop:=
 (lh (aH x i).1=false/\a=x)\/(lh (aH x i).1=true/\(a=cO x (bA x.2.2.2.2.2.2.1 i ovY)\/Pwr x i false a\/∃n,Vp x.2.1 (aH x i).1 n/\Bg2 (O4 x i n) i a))
structure Bgi(x:Net)(i K:Nat):Prop where
 q:y9 x
 lt:i<x.2.2.2.2.2.2.1.length
 f:x.2.2.1.2.2.2.2.2.2.2.length<=1000000
 o:x.2.2.1.2.2.2.2.2.2.1.length<=1000000
 m:dP x.2.1=true
 w:0<=x.2.2.2.2.2.1.2.2/\x.2.2.2.2.2.1.2.2<=2199023255552
 t:0<=(aH x i).2.2.2.2.1/\(aH x i).2.2.2.2.1<=900000000000
 b:∀n,Vp x.2.1 (aH x i).1 n->Bgo (O4 x i n) i K
def Bg2.len{a:Net}(h:Bg2 x i a):(a.2.2.2.2.2.2.1).length=x.2.2.2.2.2.2.1.length:=by
 obtain⟨y,⟨d,_⟩,⟨_,r,s,⟨_,rfl⟩|⟨_,p⟩⟩|⟨_,p⟩⟩:=h
 .rw[s.len,d.len]
 .rw[(tc.same p).1,s.len,d.len]
 .rw[(tc.same p).1,d.len]
theorem YF(h:Bgi x i K):MQ (x,(i:Int))=true/\Bgn x i (OT (x,(i:Int))).1:=by
 have j:=h.lt;have D:AN af x (i:Int)=aH x i:=by rfl
 refine kF (s:=ye af) (t:=SB af x i) (P:=λr=>Bgn x i r.1) ?_ λr C=>?_
 .unfold SB Vj;have A:af.k jy (jF x (),1,(i:Int),(aH x i).1.2.2.1)=true:=(sF (v:=(jF x (),1,(i:Int),(aH x i).1.2.2.1)) h.f).1;have⟨p1,p2⟩:=H_ (on:=false) h.q j h.m h.t h.w;have u:af.k RN x.2.2.1.2.2.2.2.2.2.1=true:=cr (by have:=h.o;omega);have o:i<(zn x i).2.2.2.2.2.2.1.length:=by show i<(bA _ _ _).length;rw[bO];omega
  have b:(aH x i).1=((zn x i).2.2.2.2.2.2.1.getD i dS).1:=by
   show _=((bA x.2.2.2.2.2.2.1 i Qs).getD i dS).1;rw[uF j];rfl
  have z:zn x i=cO (zn x i) (bA (zn x i).2.2.2.2.2.2.1 i<|gM (aH x i).1):=by
   rw[b];exact congrArg (cO<|zn x i) (V5 o).symm
  have L:∀(s:gH) (c d:Int),Go (ye af) (ye af<|.c1 ⟨x.2.2.1.2.2.2.2.2.2.1,(x.2.2.1.2.2.2.2.2.2.1.length:Int),(i:Int),s,c,d⟩ ((0:Nat):Int)<|zn x i) λr=>∃n,Vp x.2.1 (aH x i).1 n/\Bg2 (O4 x i n) i r.1:=λs c d=>by
   have q:=YG (x:=zn x i) (l:=x.2.2.1.2.2.2.2.2.2.1) (p:=⟨x.2.2.1.2.2.2.2.2.2.1,(x.2.2.1.2.2.2.2.2.2.1.length:Int),(i:Int),s,c,d⟩) o rfl rfl rfl h.o h.b _ 0 _ (ai _) .rfl;rw[<-z] at q;exact q
  have f:lh (aH x i).1=true->Go (ye af) (.ao (af.k jy (jF x (),1,(i:Int),(aH x i).1.2.2.1))<|.br (af.k dV (jF x (),1,(i:Int),(aH x i).1.2.2.1)).2 (.ao (af.k tQ (x,(i:Int),false))<|.ao (af.cm (af.l x.2.2.2.2.2.2.1) 0)<|.ret ((af.k wV (x,(i:Int),false)).1,()))<|.ak<|.c0 ⟨(i:Int),zn x i⟩) (λr=>Bgn x i r.1):=λg=>ah A<|du (λ_=>ah p1<|ah (fv j)<|ay<|.inr ⟨g,.inr<|.inl p2⟩) λ_=>aP<|ah u<|aP<|(L _ _ _).mono λr ⟨n,a,b⟩=>.inr ⟨g,.inr<|.inr ⟨n,a,b⟩⟩;exact ah (bM (l:=x.2.2.2.2.2.2.1)<|by omega)<|cX (λg=>ay<|.inl ⟨g,rfl⟩) λg=>cv (λ_=>cv (λ_=>ay<|.inr ⟨g,.inl<|congrArg (cO x) kG⟩) λ_=>f g) λ_=>f g
 .rcases C with ⟨_,e⟩|⟨_,e|p|⟨n,_,p⟩⟩
  .rw[e]
  .rw[e];exact bO
  .rcases p with ⟨_,e⟩|⟨_,⟨_,e⟩|⟨k,_⟩⟩
   .rw[e]
   .rw[e];exact bO
   simp_all
  .rw[p.len];show(bA (bA _ _ _) _ _).length=_;rw[bO,bO]
def IZ(n:Node)(y:cN):cN:=(n,y.2.1,IntKind.i64.wrap<|y.2.2.1+1,y.2.2.2)
def za(n:Node)(c:qB)(y:cN):cN:=(n,c,IntKind.i64.wrap<|y.2.2.1+1,y.2.2.2.1,y.2.2.2.2.1+1,true,false,y.2.2.2.2.2.2.2)
def Tck(x:Net)(i:Nat)(a:Net):Prop:=
 let o:=iL x.2.1 (aH x i).1
 (o.2.2.2≠0/\a=x)\/(o.2.2.2=0/\(o.2.2.1=false/\(∃d,(-x.2.1.2.2.2.2.1<=d/\d<=x.2.1.2.2.2.2.1)/\tc (cO x<|bA x.2.2.2.2.2.2.1 i<|IZ o.1) (v8 x<|x.2.2.2.2.2.1.2.2+(x.2.1.2.1+d),2,(i:Int),(aH x i).2.2.2.2.1) a)\/
   o.2.2.1=true/\∃y,pM (cO x<|bA x.2.2.2.2.2.2.1 i<|za o.1 (x.2.2.2.2.2.1.2.2,(i:Int),[])) y 3 1/\tc y (v8 y<|ovT x.2.1 x.2.2.2.2.2.1.2.2,1,(i:Int),(aH x i).2.2.2.2.1+1) a))
structure Tki(x:Net)(i K:Nat):Prop where
 s:zu x i K
 k:K+1<=800010
 m:dP x.2.1=true
 w:0<=x.2.2.2.2.2.1.2.2/\x.2.2.2.2.2.1.2.2<=1000000000000
 t:0<=(aH x i).2.2.2.2.1/\(aH x i).2.2.2.2.1<=900000000000
 d:∀v∈x.2.2.1.2.2.2.2.2.1, -x.2.1.2.2.2.2.1<=v/\v<=x.2.1.2.2.2.2.1
 l:x.2.2.1.2.2.2.2.2.1.length<=1000000
def ahD(h:Tki x i K):MO (x,(i:Int))=true/\Tck x i (OR (x,(i:Int))).1:=by
 have a:=h.s.i;have hm:=w7 h.m;have hs:=h.s.mod (j:=i) (f:=za (iL x.2.1 (aH x i).1).1 (x.2.2.2.2.2.1.2.2,(i:Int),[]));have Z:=h.s.mod (j:=i) (f:=IZ (iL x.2.1 (aH x i).1).1);refine kF (s:=Empty.elim) (t:=Sz af x i) (P:=λr=>Tck x i r.1) ?_ λr hr=>?_
 .have⟨w1,w2⟩:=Aq h.s.q.made;have F:af.k gL (x.2.2.2.2.2.1,())=(x.2.2.2.2.2.1,x.2.2.2.2.2.1.2.2):=w2;have J:af.k GJ (x.2.1,(af.n bS x.2.2.2.2.2.2.1 (i:Int):cN).1)=iL x.2.1 (aH x i).1:=by rw[nR];rfl
  have W:AJ af x (i:Int)=bA x.2.2.2.2.2.2.1 i (gM (iL x.2.1 (aH x i).1).1):=by
   unfold AJ;rw[J,nR];exact Fp
  have en:(af.n bS (AJ af x i) (i:Int):cN).2.2.1=(aH x i).2.2.1:=by rw[W,BO a];rfl
  have N:DR af x (i:Int)=bA x.2.2.2.2.2.2.1 i (IZ (iL x.2.1 (aH x i).1).1):=by
   unfold DR;rw[W];exact kG.trans<|mod_mod a
  have X:md af bS (md af bS (I_ af x i) (i:Int) λ(G:cN)=>vn G true) (i:Int) (λ(H:cN)=>qK H false)=bA x.2.2.2.2.2.2.1 i (za (iL x.2.1 (aH x i).1).1 (x.2.2.2.2.2.1.2.2,(i:Int),[])):=by
   unfold I_;rw[N,F];refine(congrArg (λl=>md af bS l i λ(H:cN)=>qK H false)<|(congrArg (λl=>md af bS l i λ(G:cN)=>vn G true)<|(congrArg (λl=>md af bS l i λ(e3:cN)=>zm e3 (x.2.2.2.2.2.1.2.2,(i:Int),([]:List Int)))<|kG.trans<|mod_mod (g:=λV:cN=>QA V<|af.bJ V.2.2.2.2.1 1) a).trans<|kG.trans<|mod_mod a).trans<|kG.trans<|mod_mod a).trans (kG.trans<|(mod_mod a).trans ?_);unfold bA;congr 1;show qK (vn (zm (QA (IZ (iL x.2.1 (aH x i).1).1<|aH x i)<|af.bJ (aH x i).2.2.2.2.1 1) (x.2.2.2.2.2.1.2.2,(i:Int),([]:List Int))) true) false=za _ _ (aH x i);rw[dq (by have:=h.t;omega)];rfl
  have⟨d1,C,D⟩:=Y7 (s:=x.2.2.1) (n:=x.2.1.1) (k:=(aH x i).2.2.1) (i:=(i:Int)) (d:=x.2.1.2.2.2.2.1) (by omega) h.d h.l;have hw:=h.w;obtain⟨d,I⟩:∃d,af.k uA (x.2.2.1,x.2.1.1,(aH x i).2.2.1,(i:Int))=d:=⟨_,rfl⟩;have C:-x.2.1.2.2.2.2.1<=d:=by rw[<-I];exact C
  have D:d<=x.2.1.2.2.2.2.1:=by rw[<-I];exact D
  have f4:Ja af x (i:Int)=(cO x<|bA x.2.2.2.2.2.2.1 i<|IZ (iL x.2.1 (aH x i).1).1,x.2.2.2.2.2.1.2.2+(x.2.1.2.1+d),2,(i:Int)):=by
   unfold Ja;rw[N,F,en,I,dq (x:=x.2.1.2.1)<|by omega,dq<|by omega];rfl
  have⟨p1,p2⟩:=Ir (x:=cO x<|bA x.2.2.2.2.2.2.1 i<|IZ (iL x.2.1 (aH x i).1).1) (t:=x.2.2.2.2.2.1.2.2+(x.2.1.2.1+d)) (k:=2) Z.q Z.i (by decide);rw[fE a] at p2;have⟨s1,o⟩:=Nn (f:=(iL x.2.1 (aH x i).1).2.1) (c:=(iL x.2.1 (aH x i).1).1.2.2.1) hs h.k (by rw[fE a];exact h.w);have f5:AL af x (i:Int)=(cO x<|bA x.2.2.2.2.2.2.1 i<|za (iL x.2.1 (aH x i).1).1 (x.2.2.2.2.2.1.2.2,(i:Int),[]),(i:Int),(iL x.2.1 (aH x i).1).2.1,(iL x.2.1 (aH x i).1).1.2.2.1):=by
   unfold AL;rw[X,F,J];rfl
  have S:=o.ok hs.q.made;have hl:(xK (cO x<|bA x.2.2.2.2.2.2.1 i<|za (iL x.2.1 (aH x i).1).1 (x.2.2.2.2.2.1.2.2,(i:Int),[]),(i:Int),(iL x.2.1 (aH x i).1).2.1,(iL x.2.1 (aH x i).1).1.2.2.1)).1.2.2.2.2.2.2.1.length=(bA x.2.2.2.2.2.2.1 i<|za (iL x.2.1 (aH x i).1).1 (x.2.2.2.2.2.1.2.2,(i:Int),[])).length:=o.len;have u:=hl.trans bO;have q:=o.aH i;have A:=o.same;rw[fE a] at q;unfold Sz;rw[J,en,f4,N,X,f5];generalize v:(af.k xK (cO x<|bA x.2.2.2.2.2.2.1 i<|za (iL x.2.1 (aH x i).1).1 (x.2.2.2.2.2.1.2.2,(i:Int),[]),(i:Int),(iL x.2.1 (aH x i).1).2.1,(iL x.2.1 (aH x i).1).1.2.2.1)).1=z at *;have o:pM (cO x<|bA x.2.2.2.2.2.2.1 i<|za (iL x.2.1 (aH x i).1).1 (x.2.2.2.2.2.1.2.2,(i:Int),[])) z 3 1:=by rw[<-v];exact o
  have S:y9 z:=by rw[<-v];exact S
  have u:z.2.2.2.2.2.2.1.length=x.2.2.2.2.2.2.1.length:=by rw[<-v];exact u
  have q:aH z i=za (iL x.2.1 (aH x i).1).1 (x.2.2.2.2.2.1.2.2,(i:Int),[]) (aH x i):=by rw[<-v];exact q
  have A:z.2.1=x.2.1:=by rw[<-v];exact A.1
  have⟨o1,o2⟩:=Fh (x:=z) (i:=i) S (by omega) (by rw[A];exact h.m) (by rw[q];show 0<=x.2.2.2.2.2.1.2.2/\x.2.2.2.2.2.1.2.2<=_;omega);rw[q,A] at o2;exact ah (bM (l:=x.2.2.2.2.2.2.1)<|by omega)<|dD (λg=>ay<|.inl ⟨g,rfl⟩) λg=>ah d1<|cX (λO=>ah w1<|ah p1<|ah (qa a)<|ay<|.inr ⟨g,.inl ⟨O,d,⟨C,D⟩,p2⟩⟩) λO=>ah w1<|ah s1<|ah (qa a)<|ah o1<|ah (fv (i:=i)<|by omega)<|ay<|.inr ⟨g,.inr ⟨O,z,o,o2⟩⟩
 .rcases hr with ⟨_,e⟩|⟨_,⟨_,_,_,p⟩|⟨_,y,e,p⟩⟩
  .rw[e]
  .rw[(tc.same p).1];exact bO
  .rw[(tc.same p).1,e.len];exact bO
def Sn1(s:tg)(k:Nat)(x y:Net):Prop:=y=x\/((aH x k).1.2.1=1/\(aH x k).2.2.2.1<=s.1.1/\∃l:List Seen,(∀v∈l,v.1=2->s.1.1<=v.2.1/\v.2.1<af.bJ s.1.1 1)/\(my x.2.1 (aH x k).1 l true).2.2.2=0/\
 ((my x.2.1 (aH x k).1 l true).2.2.1=false/\y=cO x (bA x.2.2.2.2.2.2.1 k<|gM (my x.2.1 (aH x k).1 l true).1)\/(my x.2.1 (aH x k).1 l true).2.2.1=true/\Jns x k (my x.2.1 (aH x k).1 l true).1 (my x.2.1 (aH x k).1 l true).2.1 y))
def Yn(s:tg):Nat->Nat->Net->Net->Prop
 | 0,_,x,x'=>x'=x
 | f+1,k,x,x'=>∃y,Sn1 s k x y/\Yn s f (k+1) y x'
structure Sno(x:Net)(k K:Nat):Prop where
 q:y9 x
 g:x.2.2.2.2.2.2.1.length<=x.2.2.1.2.2.2.1.length
 c:x.2.2.2.2.2.2.2.1.length<=900000/\x.2.2.2.2.2.2.2.2.1.length<=900000
 t:∀j,k<=j->j<x.2.2.2.2.2.2.1.length->0<=(aH x j).2.2.2.2.1/\(aH x j).2.2.2.2.1<=900000000000
variable{n:Node}
def Jns.len(h:Jns x i n t y):y.2.2.2.2.2.2.1.length=x.2.2.2.2.2.2.1.length:=by
 rcases h with rfl|⟨_,p⟩
 .rfl
 .rw[(tc.same p).1];exact bO
variable{s:tg}
theorem Sno.sn1{k:Nat}(h:Sno x k K)(D:k<x.2.2.2.2.2.2.1.length)(p:Sn1 s k x y):Sno y (k+1) K/\y.2.2.2.2.2.2.1.length=x.2.2.2.2.2.2.1.length:=by
 have up:Sno x (k+1) K:=⟨h.q,h.g,h.c,λj n a=>h.t j (by omega) a⟩;have o:∀f j,k+1<=j->j<x.2.2.2.2.2.2.1.length->0<=(aH (cO x<|bA x.2.2.2.2.2.2.1 k f) j).2.2.2.2.1/\(aH (cO x<|bA x.2.2.2.2.2.2.1 k f) j).2.2.2.2.1<=900000000000:=λf j n a=>by
  rw[ij<|by omega];exact h.t j (by omega) a
 rcases p with rfl|⟨_,_,l,_,_,⟨_,rfl⟩|⟨_,rfl|⟨_,p⟩⟩⟩
 .simp_all
 .refine⟨⟨⟨h.q.made,h.q.len,h.q.heap⟩,by show(bA _ _ _).length<=_;rw[bO];exact h.g,h.c,λj n a=>o _ j n (by have a:j<(bA _ _ _).length:=a;rwa [bO] at a)⟩,bO⟩
 .simp_all
 .have⟨q,F,u,G,v,_,z,A,C⟩:=tc.same p;have e:y.2.2.2.2.2.2.1.length=x.2.2.2.2.2.2.1.length:=by rw[q];exact bO
  refine⟨⟨⟨v.trans h.q.made,A,C⟩,by rw[e,u];exact h.g,by rw[z];exact h.c,λj n a=>?_⟩,e⟩;rw[tc.aH p]
  simp_all
theorem anO{n:Nat}:∀(f k:Nat) (x:Net),n-k<=f->k<=n->x.2.2.2.2.2.2.1.length=n->n<=1000->Sno x k K->Go (J7 af) (J7 af<|.c0 ⟨(n:Int),s.1.1,s.1.2,s.2⟩ k x) λr=>Yn s (n-k) k x r.1:=by
 have Z:∀(k:Nat) (x:Net),¬k<n->k<=n->Go (J7 af) (J7 af<|.c0 ⟨(n:Int),s.1.1,s.1.2,s.2⟩ k x) λr=>Yn s (n-k) k x r.1:=λk x I hn=>by
  refine aW (λg=>absurd g<|by grind) λ_=>ay ?_;rw[show n-k=0 from by omega];rfl
 intro f
 induction f with
 | zero=>grind
 | succ f ih=>
   intro k x hf I hl H h;by_cases g:k<n
   .have j:k<x.2.2.2.2.2.2.1.length:=by omega
    have hc:=h.c;have p:∀y,Sn1 s k x y->Go (J7 af) (.ak<|.c0 ⟨(n:Int),s.1.1,s.1.2,s.2⟩ (af.bJ k 1) y) λr=>Yn s (n-k) k x r.1:=λy q=>by
     have⟨s1,s2⟩:=h.sn1 j q;rw[dq<|by omega,show(k:Int)+1=((k+1:Nat):Int) from by omega,show n-k=(n-(k+1))+1 from by omega];exact aP<|(ih (k+1) y (by omega) (by omega) (by omega) H s1).mono λr J=>⟨y,q,J⟩
    have⟨N,O,S⟩:=Bz (l:=x.2.2.2.2.2.2.2.1) (a:=(s.1.1,s.1.2)) (w:=(s.1.1,af.bJ s.1.1 1)) (th:=(af.n yI x.2.2.1.2.2.2.1 (k:Int):Int)) (by omega);have⟨V,W,X⟩:=Bz (l:=x.2.2.2.2.2.2.2.2.1) (a:=(s.1.1,s.1.2)) (w:=(s.1.1,af.bJ s.1.1 1)) (th:=(af.n yI x.2.2.1.2.2.2.1 (k:Int):Int)) (by omega);have u:(af.k n_<|vf af ⟨(n:Int),s.1.1,s.1.2,s.2⟩ k x).1=x.2.2.2.2.2.2.2.1:=O;have z:(af.k n_<|wJ af ⟨(n:Int),s.1.1,s.1.2,s.2⟩ k x).1=x.2.2.2.2.2.2.2.2.1:=W;have hs:∀v∈(af.p ([(af.k n_<|vf af ⟨(n:Int),s.1.1,s.1.2,s.2⟩ k x).2]:List Seen) ([(af.k n_<|wJ af ⟨(n:Int),s.1.1,s.1.2,s.2⟩ k x).2]:List Seen)),v.1=2->s.1.1<=v.2.1/\v.2.1<af.bJ s.1.1 1:=λv o=>by
     rcases pP.1 o with o|o
     .rw[aO.1 o];exact S
     .rw[aO.1 o];exact X
    have F:(af.n bS x.2.2.2.2.2.2.1 (k:Int):cN)=aH x k:=nR;generalize A:af.p ([(af.k n_<|vf af ⟨(n:Int),s.1.1,s.1.2,s.2⟩ k x).2]:List Seen) ([(af.k n_<|wJ af ⟨(n:Int),s.1.1,s.1.2,s.2⟩ k x).2]:List Seen)=L at hs;have eh:af.k ZH (x.2.1,(aH x k).1,L)=my x.2.1 (aH x k).1 L true:=rfl;have C:ve af ⟨(n:Int),s.1.1,s.1.2,s.2⟩ k x=my x.2.1 (aH x k).1 L true:=by
     unfold ve
     grind
    have D:DO af ⟨(n:Int),s.1.1,s.1.2,s.2⟩ k x=x:=by
     unfold DO;rw[u,z]
    have⟨q1,q2⟩:=aaF (n:=(my x.2.1 (aH x k).1 L true).1) (t:=(my x.2.1 (aH x k).1 L true).2.1) h.q j<|h.t k (ai _) j;have e:=p x<|.inl rfl;refine aW (λ_=>ah (bM (l:=x.2.2.2.2.2.2.1)<|by omega) ?_) λG=>absurd G (by show ¬(n:Int)<=(k:Int);omega);rw[C,D,u,z,F,A];refine dD (λ_=>e) λa=>kY (λ_=>e) λb=>cv (λ_=>e) λ_=>ah (bM (l:=x.2.2.1.2.2.2.1) (by have:=h.g;omega))<|ah N<|ah (xU (by show(1:Int)<=_;omega))<|ah V<|ah (by rw[<-A];exact xU (by show(2:Int)<=_;omega))<|dD (λ_=>e) λc=>cX (λd=>?_) λd=>ah q1<|ah (fv j)<|p _<|.inr ⟨a,b,L,hs,c,.inr ⟨d,q2⟩⟩;exact p (cO x<|bA x.2.2.2.2.2.2.1 k<|gM (my x.2.1 (aH x k).1 L true).1)<|.inr ⟨a,b,L,hs,c,.inl ⟨d,rfl⟩⟩
   grind
theorem Yn.len{s:tg}{K:Nat}:∀{f k:Nat} {x y:Net},Yn s f k x y->Sno x k K->k+f<=x.2.2.2.2.2.2.1.length->y.2.2.2.2.2.2.1.length=x.2.2.2.2.2.2.1.length
 | 0,_,_,_,h,_,_=>by rw[h]
 | f+1,k,x,_,h,hs,hk=>by
   have⟨z,a,e⟩:=h;have⟨j,l⟩:=hs.sn1 (by omega) a;rw[Yn.len e j<|by omega];omega
def acz(hs:(af.n Ki x.2.2.2.2.2.2.2.2.2.1 (j:Int):tg)=s)(h:Sno x 0 K)(f:j<x.2.2.2.2.2.2.2.2.2.1.length)(a:x.2.2.2.2.2.2.1.length<=1000):MM (x,(j:Int))=true/\Yn s x.2.2.2.2.2.2.1.length 0 x (OP (x,(j:Int))).1:=by
 refine kF (s:=J7 af) (t:=Sx af x j) (P:=λr=>Yn s x.2.2.2.2.2.2.1.length 0 x r.1) ?_ λr e=>e.len h (by omega);unfold Sx;rw[hs];exact ah (bM (l:=x.2.2.2.2.2.2.2.2.2.1)<|by omega)<|aP<|anO (s:=s) (n:=x.2.2.2.2.2.2.1.length) _ 0 x (ai _) (aM _) rfl a h
theorem RB(h:y9 x)(a:i<x.2.2.2.2.2.2.1.length)(f:dP x.2.1=true)(l:0<=(aH x i).2.2.2.2.1/\(aH x i).2.2.2.2.1<=900000000000)(n:0<=x.2.2.2.2.2.1.2.2/\x.2.2.2.2.2.1.2.2<=2199023255552):MP (x,(i:Int))=true/\Pwr x i true (OS (x,(i:Int))).1:=by
 have⟨p1,p2⟩:=H_ (on:=true) h a f l n;refine kF (s:=Empty.elim) (t:=SA af x i) (P:=λr=>Pwr x i true r.1) ?_ λr j=>?_
 .unfold SA;exact ah p1<|ah (fv a)<|ay p2
 .rcases j with ⟨_,e⟩|⟨_,⟨_,e⟩|⟨_,e⟩⟩
  .rw[e]
  .simp_all
  .rw[e.len];exact bO
def sK(x:Net)(l:List jr)(t:Int):Net:=(x.1,x.2.1,x.2.2.1,x.2.2.2.1,x.2.2.2.2.1,(x.2.2.2.2.2.1.1,l,t),x.2.2.2.2.2.2)
def Act(e:jr)(x a:Net):Prop:=
 (e.2.1=3/\Yn (af.n Ki x.2.2.2.2.2.2.2.2.2.1 e.2.2.2:tg) x.2.2.2.2.2.2.1.length 0 x a)\/
 (e.2.1≠3/\(((aH x e.2.2.1.toNat).2.2.2.2.1≠e.2.2.2\/(aH x e.2.2.1.toNat).2.2.2.2.2.2.2=true)/\a=x\/
   (aH x e.2.2.1.toNat).2.2.2.2.1=e.2.2.2/\(aH x e.2.2.1.toNat).2.2.2.2.2.2.2=false/\
     (e.2.1=1/\Evl x e.2.2.1.toNat a\/e.2.1=2/\Tck x e.2.2.1.toNat a\/e.2.1=5/\Pwr x e.2.2.1.toNat true a\/e.2.1≠1/\e.2.1≠2/\e.2.1≠5/\Bgn x e.2.2.1.toNat a)))
def Stp(x a:Net):Prop:=
 x.2.2.2.2.2.1.2.1=[]/\a=x\/∃e l,(e::l).Perm x.2.2.2.2.2.1.2.1/\Lk l/\(∀y∈x.2.2.2.2.2.1.2.1,e.1<=y.1)/\Act e (sK x l e.1) a
structure Aci(e:jr)(x:Net)(K:Nat):Prop where
 n:x.2.2.2.2.2.2.1.length<=1000
 p:0<x.2.2.2.2.2.2.1.length
 s:e.2.1=3->Sno x 0 K/\∃j:Nat,e.2.2.2=(j:Int)/\j<x.2.2.2.2.2.2.2.2.2.1.length
 i:e.2.1≠3->∃i:Nat,e.2.2.1=(i:Int)/\i<x.2.2.2.2.2.2.1.length/\Evi x i K/\Tki x i K/\((aH x i).2.2.2.2.1=e.2.2.2->(aH x i).2.2.2.2.2.2.2=false->e.2.1≠1->e.2.1≠2->e.2.1≠5->Bgi x i K)
def an0(h:y9 x)(ha:∀e l,(e::l).Perm x.2.2.2.2.2.1.2.1->Lk l->(∀y∈x.2.2.2.2.2.1.2.1,e.1<=y.1)->Aci e (sK x l e.1) K):Dl (x,())=true/\Stp x (wU (x,())).1:=by
 suffices hs:Dl (x,())=true/\(Stp x (wU (x,())).1/\(wU (x,())).1.2.2.2.2.2.2.1.length=x.2.2.2.2.2.2.1.length) from⟨hs.1,hs.2.1⟩
 refine kF (s:=Empty.elim) (t:=Qm af x) (P:=λr=>Stp x r.1/\r.1.2.2.2.2.2.2.1.length=x.2.2.2.2.2.2.1.length) ?_ λr G=>G.2;have⟨p1,p2⟩:=anf h.made h.len h.heap;obtain⟨⟨I,e,O⟩,G⟩:∃r,zI (x.2.2.2.2.2.1,())=r:=⟨_,rfl⟩;have A:ng af x=(I,e,O):=G;rw[G] at p2;unfold Qm;refine ah p1 ?_;rcases p2 with ⟨a,b,c⟩|⟨b,l,c,pm,S,Z⟩
 .have N:o_ af x=(x,()):=by
   unfold o_;rw[A];show(vn x I,())=_;rw[show I=x.2.2.2.2.2.1 from c]
  rw[N,A];exact dD (λ_=>ay ⟨.inl ⟨a,rfl⟩,rfl⟩) λg=>absurd g b
 .have c:I=(x.2.2.2.2.2.1.1,l,e.1):=c;have b:O=0:=b;subst c b;have D:=ha e l pm S Z;have done:∀y,Act e (sK x l e.1) y->y.2.2.2.2.2.2.1.length=x.2.2.2.2.2.2.1.length->Stp x y/\y.2.2.2.2.2.2.1.length=x.2.2.2.2.2.2.1.length:=λy a b=>⟨.inr ⟨e,l,pm,S,Z,a⟩,b⟩;have N:o_ af x=(sK x l e.1,()):=by unfold o_;rw[A];rfl
  have u3:rV af x=(sK x l e.1,e.2.2.1):=by unfold rV;rw[A];rfl
  have hn:0<x.2.2.2.2.2.2.1.length:=D.p;have C:(af.cm (af.l x.2.2.2.2.2.2.1) 0)=true:=fv (i:=0) hn;unfold DN DL AF AB;rw[N,u3,A];refine dD (λg=>absurd rfl g) λ_=>cv (λg=>?_) λg=>?_
  .have⟨s1,j,v,J⟩:=D.s g;have⟨f,n⟩:=acz (s:=(af.n Ki x.2.2.2.2.2.2.2.2.2.1 (j:Int):tg)) (x:=sK x l e.1) rfl s1 J D.n;have p:=vD.1<|of_decide_eq_true ((fZ _ _).mp f).2;rw[<-v] at f n p;exact ah f<|ah C<|ay<|done _ (.inl ⟨g,n⟩) p
  .have⟨i,v,J,v1,z,v3⟩:=D.i g;have F:e.2.2.1.toNat=i:=by rw[v];rfl
   have es:(af.n bS x.2.2.2.2.2.2.1 e.2.2.1:cN)=aH (sK x l e.1) i:=by rw[v];exact nR (x:=sK x l e.1)
   have H:af.and (af.bE 0 e.2.2.1) (af.bo e.2.2.1<|af.l x.2.2.2.2.2.2.1)=true:=bM (l:=x.2.2.2.2.2.2.1) (by have:i<x.2.2.2.2.2.2.1.length:=J;omega);have skip:∀{P:Prop},P->True:=λ_=>trivial;have u:((aH (sK x l e.1) i).2.2.2.2.1≠e.2.2.2\/(aH (sK x l e.1) i).2.2.2.2.2.2.2=true)->Go Empty.elim (.ret (sK x l e.1,())) λr=>Stp x r.1/\r.1.2.2.2.2.2.2.1.length=x.2.2.2.2.2.2.1.length:=λo=>ay<|done _ (.inr ⟨g,.inl ⟨by rw[F];exact o,rfl⟩⟩) rfl;have q:∀y,y.2.2.2.2.2.2.1.length=x.2.2.2.2.2.2.1.length->(aH (sK x l e.1) i).2.2.2.2.1=e.2.2.2->(aH (sK x l e.1) i).2.2.2.2.2.2.2=false->(e.2.1=1/\Evl (sK x l e.1) i y\/e.2.1=2/\Tck (sK x l e.1) i y\/e.2.1=5/\Pwr (sK x l e.1) i true y\/e.2.1≠1/\e.2.1≠2/\e.2.1≠5/\Bgn (sK x l e.1) i y)->Go Empty.elim (.ret (y,())) λr=>Stp x r.1/\r.1.2.2.2.2.2.2.1.length=x.2.2.2.2.2.2.1.length:=λy hl a b o=>ay<|done y (.inr ⟨g,.inr ⟨by rw[F];exact a,by rw[F];exact b,by rw[F];exact o⟩⟩) hl;rw[es];refine cv (λk=>?_) λV=>cv (λk=>?_) λW=>cv (λk=>?_) λX=>?_
   .have⟨f,n⟩:=afn v1;have p:=vD.1<|of_decide_eq_true ((fZ _ _).mp f).2;rw[<-v] at f n p;exact ah H<|cv (λa=>cX (λb=>ah f<|ah C<|q _ p a b<|.inl ⟨k,n⟩) λb=>u<|.inr b) λa=>u<|.inl a
   .have⟨f,n⟩:=ahD z;have p:=vD.1<|of_decide_eq_true ((fZ _ _).mp f).2;rw[<-v] at f n p;exact ah H<|cv (λa=>cX (λb=>ah f<|ah C<|q _ p a b<|.inr<|.inl ⟨k,n⟩) λb=>u<|.inr b) λa=>u<|.inl a
   .have⟨f,n⟩:=RB z.s.q z.s.i z.m z.t ⟨z.w.1,bP z.w.2<|by decide⟩;have p:=vD.1<|of_decide_eq_true ((fZ _ _).mp f).2;rw[<-v] at f n p;exact ah H<|cv (λa=>cX (λb=>ah f<|ah C<|q _ p a b<|.inr<|.inr<|.inl ⟨k,n⟩) λb=>u<|.inr b) λa=>u<|.inl a
   .exact ah H (cv (λa=>cX (λb=>by
     have⟨f,n⟩:=YF<|v3 a b V W X;have p:=vD.1<|of_decide_eq_true ((fZ _ _).mp f).2;rw[<-v] at f n p;exact ah f<|ah C<|q _ p a b<|.inr<|.inr<|.inr ⟨V,W,X,n⟩) λb=>u<|.inr b) λa=>u<|.inl a)
variable{m:aA}
theorem ME{on:Bool}(h:(jG m n on).2=0):(jG m n on).1.1=n.1:=by
 unfold jG at h ⊢;by_cases a:dp m n=0
 .rw[cr a,cond_true] at h ⊢;cases on
  .unfold r8 at h ⊢
   grind
  grind
 simp_all
theorem Mk{r:iG×Int}(h:(Aj n r).2=0):(Aj n r).1.1=n.1:=by
 unfold Aj at h ⊢
 grind
variable{o:cq}
theorem amh(h:(zf m n o).2=0):(zf m n o).1.1=n.1:=by
 unfold zf at h ⊢;by_cases a:dp m n=0
 .rw[cr a,cond_true] at h ⊢;cases hd:decide<|1<=o.d/\o.d<=3
  .simp_all
  rw[hd,cond_true] at h;cases hi:lh n
  .rfl
  rw[hi,cond_true] at h;cases h1:decide<|o.d=1
  .rw[h1,cond_false] at h;cases h2:decide<|o.d=2
   .rw[h2,cond_false] at h;exact Mk h
   .rw[h2,cond_true] at h;exact Mk h
  .rw[h1,cond_true] at h;exact Mk h
 simp_all
theorem Zh(h:(jI m n).2=0):(jI m n).1.1=n.1:=by
 unfold jI at h ⊢
 grind
theorem ady(h:(iL m n).2.2.2=0):(iL m n).1.1=n.1:=by
 unfold iL at h ⊢;by_cases a:dp m n=0
 .rw[cr a,cond_true] at h ⊢;cases hd:decide<|n.2.1=1
  .simp_all
  .rw[cond_true];cases decide (0<n.e-1)
   .rw[cond_false];cases (af.n .bool m.g n.1:Bool)<;>rfl
   .rfl
 simp_all
theorem am7:(Ar n).1=n.1:=by unfold Ar;grind
def akb{o:qC}:(QJ m n o).1=n.1:=by
 unfold QJ;rw[am7];cases decide (o.1=3)<;>rfl
variable{a:List Seen}
theorem am3(h:(oG m n a).2.2=0):(oG m n a).1.1=n.1:=by
 unfold oG at h ⊢;by_cases e:dp m n=0
 .rw[cr e,cond_true] at h ⊢;cases hi:lh n&&decide (¬n.2.2.1.2.1=n.1)
  .grind
  .rw[hi,cond_true] at h;by_cases f:(B7 n a).2=0
   .rw[cr f,cond_true];exact akb
   simp_all
 simp_all
def agM:(EA m n).1.1=n.1:=by
 unfold EA;cases decide ((qE n).2=2)
 .cases decide ((qE n).2=3)
  .cases decide ((qE n).2=4)<;>rfl
  .rfl
 .rfl
theorem ain(h:(rH m n).2.2.2=0):(rH m n).1.1=n.1:=by
 unfold rH at h ⊢;by_cases a:dp m n=0
 .rw[cr a,cond_true] at h ⊢;cases hi:lh n&&decide (n.c.2.1=n.1)
  .simp_all
  .exact agM
 simp_all
theorem aas{e:Bool}(h:(my m n a e).2.2.2=0):(my m n a e).1.1=n.1:=by
 unfold my at h ⊢;by_cases f:dp m n=0
 .rw[cr f,cond_true] at h ⊢;cases h1:decide<|n.2.1=1
  .simp_all
  cases h2:decide<|(a.length:Int)=2
  .simp_all
  cases (je m.1 a).2.2
  .rfl
  cases decide ((je m.1 a).1.1=1)
  .cases Uy m n (je m.1 a).1<;>rfl
  cases decide ((je m.1 a).1.d=n.1)
  .cases (e && !n.f)<;>rfl
  .rfl
 simp_all
theorem Qn{r:Int}:(qt m c r).2.1=c.2.1:=by
 unfold qt;by_cases h:(EZ m c r).2=0
 .rw[cr h,cond_true];unfold EZ at h ⊢
  grind
 simp_all
theorem alQ(h:dp m n=0)(a:lh n=true):(jI m n).2=0/\(jI m n).1.2.1=n.2.1/\(jI m n).1.2.2.1.2.1=if n.2.2.1.2.1+1=m.1 then 0 else n.2.2.1.2.1+1:=by
 have hs:=step_ok h a;unfold jI;have e:(qs n.2.2.1 m.1).1.2.1=if n.2.2.1.2.1+1=m.1 then 0 else n.2.2.1.2.1+1:=by
  unfold qs at hs ⊢
  grind
 grind
theorem abx{n:Node}:(Ar n).2.2=n.2.2/\((Ar n).2.1=n.2.1\/n.2.1=4/\(Ar n).2.1=3):=by
 unfold Ar
 grind
theorem am4(h:(oG m n l).2.2=0):lh n=true/\(oG m n l).1.2.2.1.2.1=n.2.2.1.2.1/\((oG m n l).1.2.1=n.2.1\/n.2.1=4/\(oG m n l).1.2.1=3):=by
 unfold oG at h ⊢;by_cases e:dp m n=0
 .rw[cr e,cond_true] at h ⊢;cases hi:lh n&&decide (¬n.2.2.1.2.1=n.1)
  .grind
  .rw[hi,cond_true] at h;by_cases f:(B7 n l).2=0
   .rw[cr f,cond_true];refine⟨((fZ _ _).mp hi).1,?_⟩;unfold QJ;cases decide ((BF m n (B7 n l).1).1=3)
    .obtain⟨a,b⟩:=@abx (Kh n (Oi n (BF m n (B7 n l).1)));exact⟨(congrArg (λz=>z.1.2.1) a),b⟩
    .obtain⟨a,b⟩:=@abx (Kt m (Kh n (Oi n (BF m n (B7 n l).1))) (BF m n (B7 n l).1).2.2.2.1);exact⟨(congrArg (λz=>z.1.2.1) a).trans Qn,b⟩
   simp_all
 simp_all
theorem arC(h:(rH m n).2.2.2=0):((rH m n).2.2.1=true->(rH m n).1.2.1=4/\(rH m n).1.2.2.1.2.1=n.2.2.1.2.1)/\((rH m n).2.2.1=false->(rH m n).1.2.1=1\/(rH m n).1.2.1=5):=by
 unfold rH at h ⊢;by_cases a:dp m n=0
 .rw[cr a,cond_true] at h ⊢;cases hi:lh n&&decide (n.c.2.1=n.1)
  .simp_all
  .rw[cond_true];unfold EA;cases decide ((qE n).2=2)
   .cases decide ((qE n).2=3)
    .cases decide ((qE n).2=4)
     .exact⟨λ_=>⟨rfl,Qn⟩,nofun⟩
     .exact⟨nofun,λ_=>.inl rfl⟩
    .exact⟨nofun,λ_=>.inl rfl⟩
   .exact⟨nofun,λ_=>.inr rfl⟩
 simp_all
def af0(h:dp m n=0)(a:lh n=true)(e:n.2.2.1.2.1=n.1):(rH m n).2.2.2=0:=by
 unfold rH;rw[cr h,cond_true,a,cr e];unfold EA;cases decide ((qE n).2=2)
 .cases decide ((qE n).2=3)
  .cases decide ((qE n).2=4)<;>rfl
  .rfl
 .rfl
theorem adz(h:(iL m n).2.2.2=0):n.2.1=1/\((iL m n).2.2.1=false->(iL m n).1.2.1=1)/\((iL m n).2.2.1=true->(iL m n).1.2.1=2/\(iL m n).1.2.2.1.2.1=n.1):=by
 unfold iL at h ⊢;by_cases a:dp m n=0
 .rw[cr a,cond_true] at h ⊢;cases hd:decide<|n.2.1=1
  .simp_all
  .have e:=of_decide_eq_true hd;cases decide (0<n.e-1)
   .rw[cond_false];cases (af.n .bool m.g n.1:Bool)
    all_goals simp_all
   simp_all
 simp_all
def adx(h:dp m n=0)(a:n.2.1=1):(iL m n).2.2.2=0:=by
 unfold iL;rw[cr h,cond_true,cr a,cond_true];cases decide (0<n.e-1)
 .rw[cond_false];cases (af.n .bool m.g n.1:Bool)<;>rfl
 .rfl
theorem RA{on:Bool}(h:(jG m n on).2=0):(on=true->n.2.1=0/\(jG m n on).1.2.1=1)/\(on=false->(jG m n on).1.2.1=0):=by
 unfold jG at h ⊢;by_cases a:dp m n=0
 .rw[cr a,cond_true] at h ⊢;cases on
  .refine⟨nofun,λ_=>?_⟩;unfold r8 at h ⊢
   grind
  grind
 simp_all
theorem Ml{r:iG×Int}(h:(Aj n r).2=0):(Aj n r).1.2.1=n.2.1/\(Aj n r).1.2.2.1=n.2.2.1:=by
 unfold Aj at h ⊢
 grind
theorem ami(h:(zf m n o).2=0):(zf m n o).1.2.1=n.2.1/\(zf m n o).1.2.2.1=n.2.2.1:=by
 unfold zf at h ⊢;by_cases a:dp m n=0
 .rw[cr a,cond_true] at h ⊢;cases hd:decide<|1<=o.d/\o.d<=3
  .simp_all
  rw[hd,cond_true] at h;cases hi:lh n
  .simp_all
  rw[hi,cond_true] at h;cases h1:decide<|o.d=1
  .rw[h1,cond_false] at h;cases h2:decide<|o.d=2
   .rw[h2,cond_false] at h;exact Ml h
   .rw[h2,cond_true] at h;exact Ml h
  .rw[h1,cond_true] at h;exact Ml h
 simp_all
theorem alT{n:Int}(h:(je n l).2.2=true):∃v∈l,(je n l).2.1=v.2.1/\Db n v=true:=by
 induction l with
 | nil=>exact absurd h (by simp[je])
 | cons s l ih=>
   rw[je] at h ⊢
   grind
theorem amf{a:Bool}(h:(my m n l a).2.2.2=0):n.2.1=1/\((my m n l a).2.2.1=false->(my m n l a).1.2.1=1)/\((my m n l a).2.2.1=true->(my m n l a).1.2.1=3/\∃v∈l,(my m n l a).2.1=v.2.1/\Db m.1 v=true):=by
 unfold my at h ⊢;by_cases f:dp m n=0
 .rw[cr f,cond_true] at h ⊢;cases h1:decide<|n.2.1=1
  .simp_all
  have hs:=of_decide_eq_true h1;refine⟨hs,?_⟩;cases h2:decide<|(l.length:Int)=2
  .simp_all
  cases h3:(je m.1 l).2.2
  .simp_all
  have e:=alT h3;cases decide ((je m.1 l).1.1=1)
  .cases Uy m n (je m.1 l).1
   .simp_all
   .exact⟨nofun,λ_=>⟨rfl,e⟩⟩
  cases decide ((je m.1 l).1.d=n.1)
  .cases (a && !n.f)
   .exact⟨nofun,λ_=>⟨rfl,e⟩⟩
   simp_all
  simp_all
 simp_all
structure Mc where(n S G W D L E:Int)
structure y8(c:Mc):Prop where
 n:c.n=4\/c.n=5\/c.n=6\/c.n=7\/c.n=8
 D:0<=c.D/\c.D<=64
 L:0<=c.L/\c.L<=64
 W:16*c.n*c.D+16<=c.W
 G:2*c.W+2*c.L+4<=c.G
 S:2*c.G+30<=c.S
namespace Mc
variable (c:Mc)
def k(i:Nat):Int:=if i=0 then 17 else 13
def w(i:Nat):Int:=if i=0 then c.W else 0
def kw(i:Nat):(i=0/\k i=17/\c.w i=c.W)\/(i≠0/\k i=13/\c.w i=0):=by
 unfold k w;omega
def M:Int:=c.n*c.S
def bs(t:Int):Int:=c.n*(c.E+2*c.S-t)
def U:Int:=c.n*(c.S-c.D)-c.W
def R:Int:=(c.n-1)*(c.n*c.S+(c.n+1)*c.D)
def VA(i:Nat)(a om:Int):Int:=k i*(c.bs a+om)
def Qw(i:Nat)(a om:Int)(b:Bool):Int:=max 0 (k i*(c.bs a+om-c.U))+c.M+(bif b then c.R else 0)
def VP(i:Nat)(a q:Int):Int:=k i*(c.bs a-c.n*(if q=0 then c.W-c.w i else 0))
def Qx(i:Nat)(a:Int):Int:=max 0 (k i*(c.bs a-c.n*(c.S-c.D-c.w i)))+c.M
def VL(i:Nat)(t:Int):Int:=max (max 0 (k i*(c.bs t+c.n*(c.G+c.L)-c.n*(c.S-c.D-c.w i)))+2*c.M) (max 0 (k i*(c.bs t-c.n*(c.S-c.D-c.w i)))+3*c.M)+(c.n+1)*c.D
def tT(e t:Int):Int:=(c.n+1)*max (e-t) 0
end Mc
variable{a:Int}{b:Bool}{d q st t:Int}
section
variable {c:Mc} (h:y8 c) {i:Nat}
include h
theorem y8.a1{om:Int}(hs:a<=c.E)(p:0<=om):3*c.M+c.Qw i a om b<=c.VA i a om:=by
 have⟨o,e,j,n,f,l⟩:=h;have kw:=c.kw i;simp[Mc.VA,Mc.Qw,Mc.M,Mc.bs,Mc.U,Mc.R] at *
 grind
theorem y8.a2{f om e:Int}(hs:a<=c.E)(q:om=c.W*(c.n-1)/\e=0/\f+c.S-c.D-c.W<=a\/e=om+c.W/\0<=om/\f+c.S-c.D<=a):c.M+(bif b then c.R else 0)+c.VA i a e<=c.Qw i f om b:=by
 have⟨u,j,n,p,l,o⟩:=h;have kw:=c.kw i;simp[Mc.VA,Mc.Qw,Mc.bs,Mc.U] at *
 grind
theorem y8.pa{om:Int}(o:0<=om):c.VP i st q<=c.VA i st om:=by
 have⟨n,a,f,l,e,j⟩:=h;have kw:=c.kw i;simp[Mc.VA,Mc.VP] at *
 grind
theorem y8.p1(hs:st<=c.E):3*c.M+c.Qx i st<=c.VP i st q:=by
 have⟨n,a,f,l,e,j⟩:=h;have kw:=c.kw i;simp[Mc.Qx,Mc.VP,Mc.M,Mc.bs] at *
 grind
theorem y8.p2(hs:a<=c.E)(p:q=0/\st+c.S-c.D-c.W<=a\/q≠0/\st+c.S-c.D<=a):c.M+c.VP i a q<=c.Qx i st:=by
 have⟨o,e,j,n,f,l⟩:=h;have kw:=c.kw i;simp[Mc.Qx,Mc.VP,Mc.bs] at *
 grind
theorem y8.p3(hs:a<=c.E)(p:a<=t):2*c.M+c.VL i t<=c.VP i a i:=by
 have⟨o,e,j,n,f,l⟩:=h;have kw:=c.kw i;simp[Mc.VL,Mc.VP,Mc.M,Mc.bs] at *
 grind
theorem y8.p4(hs:a<=c.E)(p:a<=t):c.VL i t<=c.VP i a q:=by
 have⟨o,e,j,n,f,l⟩:=h;have kw:=c.kw i;simp[Mc.VL,Mc.VP,Mc.M,Mc.bs] at *
 grind
theorem y8.p5{om:Int}(hs:a<=c.E)(p:0<=om/\om<=c.W*(c.n-1)):3*c.M+c.Qw i a om false<=c.VP i a i:=by
 have⟨o,e,j,n,f,l⟩:=h;have kw:=c.kw i;simp[Mc.Qw,Mc.VP,Mc.M,Mc.bs,Mc.U] at *
 grind
def y8.l1(hs:t-(c.G+c.L)<=st):c.M+c.Qx i st+(c.n+1)*c.D<=c.VL i t:=by
 have⟨j,l,p,u,o,q⟩:=h;have kw:=c.kw i;have⟨n,S,G,W,D,L,E⟩:=c;simp only[Mc.VL,Mc.Qx,Mc.M,Mc.bs] at *;rcases kw with ⟨f,a,e⟩|⟨f,a,e⟩<;>rw[a]<;>(try rw[e])<;>rcases j with rfl|rfl|rfl|rfl|rfl<;>omega
def y8.l2{f:Int}(hs:t<=f):2*c.M+c.Qx i f+(c.n+1)*c.D<=c.VL i t:=by
 have⟨l,o,q,v,p,u⟩:=h;have kw:=c.kw i;have⟨n,S,G,W,D,L,E⟩:=c;simp only[Mc.VL,Mc.Qx,Mc.M,Mc.bs] at *;rcases kw with ⟨j,a,e⟩|⟨j,a,e⟩<;>rw[a]<;>(try rw[e])<;>rcases l with rfl|rfl|rfl|rfl|rfl<;>omega
def y8.l3{e:Int}(q:-c.D<=d)(u:t+(c.S+d)<=e):c.M+c.tT e (t+(c.S+d))<=c.tT e t:=by
 have⟨a,f,l,p,j,o⟩:=h;have⟨n,S,G,W,D,L,E⟩:=c;simp only[Mc.tT,Mc.M] at *;rcases a with rfl|rfl|rfl|rfl|rfl<;>omega
def y8.tm{e e' t':Int}(q:e'<=e)(u:t<=t'):c.tT e' t'<=c.tT e t:=by
 have⟨a,f,l,p,j,o⟩:=h;have⟨n,S,G,W,D,L,E⟩:=c;simp only[Mc.tT] at *;rcases a with rfl|rfl|rfl|rfl|rfl<;>omega
def y8.td{e:Int}(u:a<=t+c.S+c.D):c.tT e (t+c.S)<=c.tT e a+(c.n+1)*c.D:=by
 have⟨f,j,o,q,l,p⟩:=h;have⟨n,S,G,W,D,L,E⟩:=c;simp only[Mc.tT] at *;rcases f with rfl|rfl|rfl|rfl|rfl<;>omega
def y8.t0{e:Int}(q:e<=t+c.S+c.D):c.tT e (t+c.S)<=(c.n+1)*c.D:=by
 have⟨a,f,l,p,j,o⟩:=h;have⟨n,S,G,W,D,L,E⟩:=c;simp only[Mc.tT] at *;rcases a with rfl|rfl|rfl|rfl|rfl<;>omega
def y8.lm{f:Int}(z:t<=f):c.VL i f<=c.VL i t:=by
 have⟨l,o,q,v,p,u⟩:=h;have kw:=c.kw i;have⟨n,S,G,W,D,L,E⟩:=c;simp only[Mc.VL,Mc.M,Mc.bs] at *;rcases kw with ⟨j,a,e⟩|⟨j,a,e⟩<;>rw[a]<;>(try rw[e])<;>rcases l with rfl|rfl|rfl|rfl|rfl<;>omega
def y8.n1(hs:c.S<=st):c.VA i st 0+c.M<=c.VL i 0:=by
 have⟨j,l,p,u,o,q⟩:=h;have kw:=c.kw i;have⟨n,S,G,W,D,L,E⟩:=c;simp only[Mc.VA,Mc.VL,Mc.M,Mc.bs] at *;rcases kw with ⟨f,a,e⟩|⟨f,a,e⟩<;>rw[a]<;>(try rw[e])<;>rcases j with rfl|rfl|rfl|rfl|rfl<;>omega
def y8.nn{e:Int}:0<=c.M/\0<=c.tT e t/\0<=c.VL i t/\0<=(c.n+1)*c.D/\0<=c.R:=by
 have⟨l,o,q,v,p,u⟩:=h;have kw:=c.kw i;have⟨n,S,G,W,D,L,E⟩:=c;simp only[Mc.VL,Mc.M,Mc.bs,Mc.tT,Mc.R] at *;rcases kw with ⟨j,a,f⟩|⟨j,a,f⟩<;>rw[a]<;>(try rw[f])<;>rcases l with rfl|rfl|rfl|rfl|rfl<;>omega
def y8.na{om:Int}:c.M<=c.Qw i st om b/\c.M<=c.Qx i st:=by
 have⟨j,l,p,u,o,q⟩:=h;have kw:=c.kw i;have⟨n,S,G,W,D,L,E⟩:=c;simp only[Mc.Qw,Mc.Qx,Mc.M,Mc.bs,Mc.U,Mc.R] at *;cases b<;>simp only[cond_true,cond_false]<;>rcases kw with ⟨f,a,e⟩|⟨f,a,e⟩<;>rw[a]<;>(try rw[e])<;>rcases j with rfl|rfl|rfl|rfl|rfl<;>omega
def y8.nw:0<=c.W/\0<=c.S/\0<=c.G/\c.D<=c.S:=by
 have⟨a,e,j,o,f,l⟩:=h;have⟨n,S,G,W,D,L,E⟩:=c;rcases a with rfl|rfl|rfl|rfl|rfl<;>simp only at * <;> omega
end
def lv(h:List jr)(i:Nat)(t:Int):List jr:=h.filter λe=>decide (e.2.1≠3)&&(decide (e.2.2.1=(i:Int))&&decide (e.2.2.2=t))
variable{i:Nat}
def sI{h a:List jr}(p:h.Perm a):(lv h i t).Perm<|lv a i t:=p.filter _
def amI{l h:List jr}:lv (l++h) i t=lv l i t++lv h i t:=mX ..
theorem aaU{h:List jr}(f:∀e∈h,e.2.1≠3->e.2.2.1=(i:Int)->e.2.2.2≠t):lv h i t=[]:=List.filter_eq_nil_iff.2 λe a=>by grind
variable{e:jr}
def Mv{h:List jr}(a:e.2.1≠3)(b:e.2.2.1=(i:Int))(d:e.2.2.2=t):lv (e::h) i t=e::lv h i t:=
 ia (by simp only[fZ,uR];exact⟨a,b,d⟩)
def Mw{h:List jr}(a:¬(e.2.1≠3/\e.2.2.1=(i:Int)/\e.2.2.2=t)):lv (e::h) i t=lv h i t:=
 List.filter_cons_of_neg (by simp only[fZ,uR];exact a)
inductive zt (c:Mc) (i:Nat) (w eo:Int) (y:cN) (l:List jr) (v:Int):Prop
 | a_ (a:lh y.1=true) (b:l=[]) (d:0<=v)
 | beg (t:Int) (a:lh y.1=true) (e:y.2.2.2.2.2.2.2=false) (b:l=[(t,4,(i:Int),y.2.2.2.2.1)]) (s:y.2.1.1<=t) (u:t<=c.E) (p:y.1.2.2.1.2.1=y.2.1.2.1%c.n) (d:(bif decide (y.1.2.1=4) then c.VA i y.2.1.1 (c.W*(y.2.1.2.1%c.n)) else c.VP i y.2.1.1 y.1.2.2.1.2.1)+c.tT eo (w+c.S)<=v)
 | Jr (t:Int) (a:lh y.1=true) (e:y.2.2.2.2.2.2.2=false) (b:l=[(t,1,(i:Int),y.2.2.2.2.1)]) (p:y.1.2.2.1.2.1=y.2.1.2.1%c.n) (d:(bif decide (y.1.2.1=4) then c.Qw i y.2.1.1 (c.W*(y.2.1.2.1%c.n)) y.2.2.2.2.2.2.1 else c.Qx i y.2.1.1)+c.tT eo (w+c.S)<=v)
 | xh (a:y.1.2.1=1) (e:y.2.2.2.2.2.2.2=false) (s:y.2.2.2.1<=w) (b:l=[]) (u:eo<=w+c.S+c.D) (d:c.VL i y.2.2.2.1<=v)
 | Ju (t:Int) (a:y.1.2.1=1) (e:y.2.2.2.2.2.2.2=false) (s:y.2.2.2.1<=w) (b:l=[(t,2,(i:Int),y.2.2.2.2.1)]) (u:t<=w+c.S+c.D) (d:c.VL i y.2.2.2.1+c.tT eo t<=v)
 | off (a:y.1.2.1=0\/y.1.2.1=5) (b:l=[]) (d:c.VL i w+c.tT eo (w+c.S)<=v)
 | pow (t:Int) (a:y.1.2.1=0) (e:y.2.2.2.2.2.2.2=false) (b:l=[(t,5,(i:Int),y.2.2.2.2.1)]) (d:c.VL i w+c.tT eo (w+c.S)+(c.M+(c.n+1)*c.D)<=v)
variable{c:Mc}
theorem zt.mono{w j w' f v:Int}{y:cN}{l:List jr}(n:y8 c)(z:w<=w')(o:f<=j)(C:v<=q)(h:zt c i w j y l v):zt c i w' f y l q:=by
 have T:=n.tm (e:=j) (t:=w+c.S) (e':=f) (t':=w'+c.S) o (by omega);have V:=n.lm (i:=i) z;cases h with
 | a_ a b d=>exact .a_ a b (by omega)
 | beg t a e b s u p d=>exact .beg t a e b s u p (by omega)
 | Jr t a e b p d=>exact .Jr t a e b p (by omega)
 | xh a e s b u d=>exact .xh a e (by omega) b (by omega) (by omega)
 | Ju t a e s b u d=>
   have A:=n.tm (e:=j) (t:=t) (e':=f) (t':=t) o<|aj _;exact .Ju t a e (by omega) b (by omega) (by omega)
 | off a b d=>exact .off a b (by omega)
 | pow t a e b d=>exact .pow t a e b (by omega)
theorem zt.short{w f v:Int}{y:cN}{l:List jr}(h:zt c i w f y l v):l=[]\/∃e,l=[e]:=by
 cases h with
 | a_ a b d=>simp_all
 | beg t a e b s u p d=>simp_all
 | Jr t a e b p d=>simp_all
 | xh a e s b u d=>simp_all
 | Ju t a e s b u d=>simp_all
 | off a b d=>simp_all
 | pow t a e b d=>simp_all
theorem zt.perm{w f v:Int}{y:cN}{l a:List jr}(h:zt c i w f y l v)(p:a.Perm l):zt c i w f y a v:=by
 have e:a=l:=by
  rcases h.short with rfl|⟨e,rfl⟩
  all_goals simp_all
 simp_all
theorem zt.nn{w j v:Int}{y:cN}{l:List jr}(f:y8 c)(o:0<=y.2.1.2.1%c.n)(h:zt c i w j y l v):0<=v:=by
 obtain⟨n1,z,_,A,_⟩:=f.nn (i:=i) (e:=j) (t:=w+c.S);have n:0<=c.W*(y.2.1.2.1%c.n):=gE f.nw.1 o;cases h with
 | a_ a b d=>exact d
 | beg t a e b s u p d=>
   have p1:=f.p1 (i:=i) (st:=y.2.1.1) (q:=y.1.2.2.1.2.1) (by omega);have pa:=f.pa (i:=i) (st:=y.2.1.1) (q:=y.1.2.2.1.2.1) n;have na:=(f.na (i:=i) (st:=y.2.1.1) (om:=0) (b:=false)).2
   grind
 | Jr t a e b p d=>
   have na:=f.na (i:=i) (st:=y.2.1.1) (om:=c.W*(y.2.1.2.1%c.n)) (b:=y.2.2.2.2.2.2.1)
   grind
 | xh a e s b u d=>have:=(f.nn (i:=i) (e:=j) (t:=y.2.2.2.1)).2.2.1;omega
 | Ju t a e s b u d=>have:=f.nn (i:=i) (e:=j) (t:=y.2.2.2.1);have:=f.nn (i:=i) (e:=j) (t:=t);omega
 | off a b d=>have:=f.nn (i:=i) (e:=j) (t:=w);omega
 | pow t a e b d=>have:=f.nn (i:=i) (e:=j) (t:=w);omega
def Dz(v:Nat->Int):Nat->Int
 | 0=>0
 | n+1=>Dz v n+v n
def Vm(v:Nat->Int)(i:Nat)(a:Int):Nat->Int:=λj=>if j=i then a else v j
def wP{v:Nat->Int}:Vm v i a i=a:=if_pos rfl
variable{j:Nat}
def qz{v:Nat->Int}(h:j≠i):Vm v i a j=v j:=if_neg h
theorem Fq{v:Nat->Int}{i:Nat}{a:Int}:∀{n},n<=i->Dz (Vm v i a) n=Dz v n
 | 0,_=>rfl
 | n+1,h=>by rw[Dz,Dz,Fq<|by omega,qz<|by omega]
theorem qY{v:Nat->Int}{i:Nat}{a:Int}:∀{n},i<n->Dz (Vm v i a) n=Dz v n-v i+a
 | n+1,h=>by
   by_cases e:i=n
   .subst e;rw[Dz,Dz,Fq<|ai _,wP];omega
   .rw[Dz,Dz,qY<|by omega,qz<|by omega];omega
theorem acv{v:Nat->Int}:∀{n},(∀i,i<n->0<=v i)->0<=Dz v n
 | 0,_=>aj _
 | n+1,h=>Int.add_nonneg (acv λi a=>h i<|by omega)<|h n (by omega)
structure Env(c:Mc)(m:aA)(s:gH):Prop where
 ml:dP m=true
 ok:y8 c
 n:c.n=m.1
 S:c.S=m.2.1
 G:c.G=m.2.2.1
 W:c.W=m.2.2.2.1
 D:c.D=m.2.2.2.2.1
 L:c.L=m.2.2.2.2.2.1
 E:0<=c.E/\c.E<=1000000000000
 fl:s.2.2.2.2.2.2.2.length<=1000000
 fm:∀f∈s.2.2.2.2.2.2.2,ko (m,f)=true
 gt:m.1<=(s.2.2.2.1.length:Int)
 gd:m.1<=(s.2.2.2.2.1.length:Int)
 dl:s.2.2.2.2.2.1.length<=1000000
 dd:∀v∈s.2.2.2.2.2.1, -m.2.2.2.2.1<=v/\v<=m.2.2.2.2.1
 op:s.2.2.2.2.2.2.1.length<=1000000
structure Cv(m:aA)(i:Nat)(τ:Int)(y:cN):Prop where
 zM:dp m y.1=0
 id:y.1.1=(i:Int)
 t:0<=y.2.2.2.2.1/\y.2.2.2.2.1<=τ
 c:0<=y.2.1.1/\y.2.1.1<=2199023255552
 l:0<=y.2.1.2.1
 d:y.2.1.2.2.length<=8
variable{m:aA}{τ:Int}
theorem Cv.mono{y:cN}(h:Cv m i τ y)(k:τ<=a):Cv m i a y:=⟨h.zM,h.id,⟨h.t.1,by have:=h.t.2;omega⟩,h.c,h.l,h.d⟩
def W8(K:Nat)(l:List fC):Prop:=l.length<=K/\∀s∈l,SgO s
theorem W8.mono{K a:Nat}{l:List fC}(h:W8 K l)(k:K<=a):W8 a l:=⟨bd h.1 k,h.2⟩
def W8.app{K k:Nat}{l a:List fC}(h:W8 K l)(g:t7 l a k):W8 (K+k) a:=⟨bd g.1<|Nat.add_le_add_right h.1 _,λs hs=>(g.2 s hs).elim (h.2 s) id⟩
structure Inv(c:Mc)(m:aA)(s:gH)(B t K:Nat)(τ:Int)(ex:Nat)(b:Int)(x:Net):Prop where
 q:y9 x
 mad:x.1=true
 em:x.2.1=m
 es:x.2.2.1=s
 en:(x.2.2.2.2.2.2.1.length:Int)=m.1
 now:0<=x.2.2.2.2.2.1.2.2/\x.2.2.2.2.2.1.2.2<=c.E
 ee:x.2.2.2.2.1<=c.E
 hw:∀e∈x.2.2.2.2.2.1.2.1,x.2.2.2.2.2.1.2.2<=e.1/\e.1<=c.E
 h3:∀e∈x.2.2.2.2.2.1.2.1,e.2.1=3->0<=e.2.2.2/\e.2.2.2<(x.2.2.2.2.2.2.2.2.2.1.length:Int)
 hi:∀e∈x.2.2.2.2.2.1.2.1,e.2.1≠3->∃i:Nat,e.2.2.1=(i:Int)/\i<x.2.2.2.2.2.2.1.length/\e.2.2.2<=(aH x i).2.2.2.2.1
 ch:W8 K x.2.2.2.2.2.2.2.1/\W8 K x.2.2.2.2.2.2.2.2.1/\x.2.2.2.2.2.2.2.2.2.1.length<=K
 sn:x.2.2.2.2.2.2.2.2.2.2.length<=K/\∀z∈x.2.2.2.2.2.2.2.2.2.2,dp m z.2=0
 nd:∀i,i<x.2.2.2.2.2.2.1.length->Cv m i τ (aH x i)
 lx:ex<x.2.2.2.2.2.2.1.length->lv x.2.2.2.2.2.1.2.1 ex ((aH x ex).2.2.2.2.1)=[]
 vs:∃v:Nat->Int,(ex<x.2.2.2.2.2.2.1.length->b<=v ex)/\(∀i,i<x.2.2.2.2.2.2.1.length->i≠ex->zt c i x.2.2.2.2.2.1.2.2 x.2.2.2.2.1 (aH x i) (lv x.2.2.2.2.2.1.2.1 i ((aH x i).2.2.2.2.1)) (v i))/\Dz v x.2.2.2.2.2.2.1.length+c.M*((x.2.2.2.2.2.1.2.1.length+t:Nat):Int)<=c.M*(B:Int)
variable{o:Int}{y:Net}
section
variable {c:Mc} {m:aA} {s:gH} {B t K:Nat} {τ:Int} {ex:Nat} {b:Int} {x:Net} (h:Inv c m s B t K τ ex b x)
include h
def Inv.apK{dB:Nat}{l:Nat}{F:Int}{a:Nat}{C:Int}{f:List jr}(V:y9 y)(G:y.1=x.1)(H:y.2.1=x.2.1)(I:y.2.2.1=x.2.2.1)(n:y.2.2.2.2.2.2.1.length=x.2.2.2.2.2.2.1.length)(u:y.2.2.2.2.2.1.2.2=x.2.2.2.2.2.1.2.2)(J:y.2.2.2.2.1<=x.2.2.2.2.1)
  (e6:x.2.2.2.2.2.2.2.2.2.1.length<=y.2.2.2.2.2.2.2.2.2.1.length) (N:W8 l y.2.2.2.2.2.2.2.1/\W8 l y.2.2.2.2.2.2.2.2.1/\y.2.2.2.2.2.2.2.2.2.1.length<=l) (O:y.2.2.2.2.2.2.2.2.2.2.length<=l/\∀z∈y.2.2.2.2.2.2.2.2.2.2,dp m z.2=0)
  (D:y.2.2.2.2.2.1.2.1.Perm<|f++x.2.2.2.2.2.1.2.1) (A:∀e∈f,(x.2.2.2.2.2.1.2.2<=e.1/\e.1<=c.E)/\(e.2.1=3->0<=e.2.2.2/\e.2.2.2<(y.2.2.2.2.2.2.2.2.2.1.length:Int))/\(e.2.1≠3->∃i:Nat,e.2.2.1=(i:Int)/\i<x.2.2.2.2.2.2.1.length/\e.2.2.2<=(aH y i).2.2.2.2.1))
  (W:∀i,i<x.2.2.2.2.2.2.1.length->(aH x i).2.2.2.2.1<=(aH y i).2.2.2.2.1) (S:∀i,i<x.2.2.2.2.2.2.1.length->Cv m i F (aH y i)) (q:a<x.2.2.2.2.2.2.1.length->lv y.2.2.2.2.2.1.2.1 a ((aH y a).2.2.2.2.1)=[])
  (X:∀v:Nat->Int,(ex<x.2.2.2.2.2.2.1.length->b<=v ex)->(∀i,i<x.2.2.2.2.2.2.1.length->i≠ex->zt c i x.2.2.2.2.2.1.2.2 x.2.2.2.2.1 (aH x i) (lv x.2.2.2.2.2.1.2.1 i<|(aH x i).2.2.2.2.1) (v i))->∃p:Nat->Int,(a<x.2.2.2.2.2.2.1.length->C<=p a)/\(∀i,i<x.2.2.2.2.2.2.1.length->i≠a->zt c i x.2.2.2.2.2.1.2.2 y.2.2.2.2.1 (aH y i) (lv y.2.2.2.2.2.1.2.1 i<|(aH y i).2.2.2.2.1) (p i))/\Dz p x.2.2.2.2.2.2.1.length+c.M*(f.length:Int)<=Dz v x.2.2.2.2.2.2.1.length+c.M*(dB:Int)):Inv c m s (B+dB) t l F a C y:=by
 have j:∀e∈y.2.2.2.2.2.1.2.1,e∈f\/e∈x.2.2.2.2.2.1.2.1:=λe k=>pP.1<|D.mem_iff.1 k;refine⟨V,G.trans h.mad,H.trans h.em,I.trans h.es,by rw[n];exact h.en,by rw[u];exact h.now,bP J h.ee,λe k=>?_,λe k o=>?_,λe k o=>?_,N,O,by rw[n];exact S,by rw[n];exact q,?_⟩
 .rw[u];rcases j e k with k|k
  .exact(A e k).1
  .exact h.hw e k
 .rcases j e k with k|k
  .exact(A e k).2.1 o
  .have:=h.h3 e k o;omega
 .rw[n];rcases j e k with k|k
  .exact(A e k).2.2 o
  .have⟨i,a1,a2,a3⟩:=h.hi e k o;have:=W i a2;exact⟨i,a1,a2,by omega⟩
 .have⟨v,Z,v2,v3⟩:=h.vs;have⟨p,w1,w2,w3⟩:=X v Z v2;rw[n,u];refine⟨p,w1,w2,?_⟩;have q:=D.length_eq;rw[t_] at q;rw[q,show((f.length+x.2.2.2.2.2.1.2.1.length+t:Nat):Int)=(f.length:Int)+((x.2.2.2.2.2.1.2.1.length+t:Nat):Int) from by omega,Int.mul_add,show((B+dB:Nat):Int)=(B:Int)+(dB:Int) from by omega,Int.mul_add];omega
def Inv.core{f:Nat}{n:Int}{evs:List jr}(V:y9 y)(p:y.1=x.1)(u:y.2.1=x.2.1)(A:y.2.2.1=x.2.2.1)(C:y.2.2.2.2.2.2.1.length=x.2.2.2.2.2.2.1.length)(D:y.2.2.2.2.2.1.2.2=x.2.2.2.2.2.1.2.2)(F:y.2.2.2.2.1<=x.2.2.2.2.1)
  (G:x.2.2.2.2.2.2.2.2.2.1.length<=y.2.2.2.2.2.2.2.2.2.1.length) (H:W8 j y.2.2.2.2.2.2.2.1/\W8 j y.2.2.2.2.2.2.2.2.1/\y.2.2.2.2.2.2.2.2.2.1.length<=j) (I:y.2.2.2.2.2.2.2.2.2.2.length<=j/\∀z∈y.2.2.2.2.2.2.2.2.2.2,dp m z.2=0)
  (S:y.2.2.2.2.2.1.2.1.Perm<|evs++x.2.2.2.2.2.1.2.1) (J:∀e∈evs,(x.2.2.2.2.2.1.2.2<=e.1/\e.1<=c.E)/\(e.2.1=3->0<=e.2.2.2/\e.2.2.2<(y.2.2.2.2.2.2.2.2.2.1.length:Int))/\(e.2.1≠3->∃i:Nat,e.2.2.1=(i:Int)/\i<x.2.2.2.2.2.2.1.length/\e.2.2.2<=(aH y i).2.2.2.2.1))
  (W:∀i,i<x.2.2.2.2.2.2.1.length->(aH x i).2.2.2.2.1<=(aH y i).2.2.2.2.1) (O:∀i,i<x.2.2.2.2.2.2.1.length->Cv m i o (aH y i)) (N:f<x.2.2.2.2.2.2.1.length->lv y.2.2.2.2.2.1.2.1 f ((aH y f).2.2.2.2.1)=[])
  (X:∀v:Nat->Int,(ex<x.2.2.2.2.2.2.1.length->b<=v ex)->(∀i,i<x.2.2.2.2.2.2.1.length->i≠ex->zt c i x.2.2.2.2.2.1.2.2 x.2.2.2.2.1 (aH x i) (lv x.2.2.2.2.2.1.2.1 i<|(aH x i).2.2.2.2.1) (v i))->∃l:Nat->Int,(f<x.2.2.2.2.2.2.1.length->n<=l f)/\(∀i,i<x.2.2.2.2.2.2.1.length->i≠f->zt c i x.2.2.2.2.2.1.2.2 y.2.2.2.2.1 (aH y i) (lv y.2.2.2.2.2.1.2.1 i<|(aH y i).2.2.2.2.1) (l i))/\Dz l x.2.2.2.2.2.2.1.length+c.M*(evs.length:Int)<=Dz v x.2.2.2.2.2.2.1.length):Inv c m s B t j o f n y:=
 h.apK (dB:=0) V p u A C D F G H I S J W O N λv a b=>(X v a b).imp λl q=>⟨q.1,q.2.1,by have:=q.2.2;show _<=_+c.M*0;omega⟩
theorem Inv.none{u:Int}(n:i<x.2.2.2.2.2.2.1.length)(o:(aH x i).2.2.2.2.1<u):lv x.2.2.2.2.2.1.2.1 i u=[]:=aaU λe f a b d=>by
 obtain⟨j,a1,a2,l⟩:=h.hi e f a
 grind
def Inv.Zg(z:y8 c){k:Nat}(n:ex<x.2.2.2.2.2.2.1.length)(e:pM x y k j):Inv c m s B t (K+k) τ ex (b-c.M*(j:Int)) y:=by
 obtain⟨a,b',W,e',H,f,rfl,l1,l2,l3,N,O,C,l7,D,F⟩:=e;have I:=(z.nn (i:=0) (e:=0) (t:=0)).1;have J:=h.ch.2.2;have o:∀i u,(lv H i u).Perm<|lv x.f.2.1 i u:=λi u=>by
  refine(sI D).trans ?_;rw[amI,aaU (h:=f) λe p a _=>absurd (F e p).1 a];exact .refl _
 refine h.core (evs:=f) ⟨h.q.made,N,O⟩ rfl rfl rfl rfl rfl C l3.1 ⟨h.ch.1.app l1,h.ch.2.1.app l2,by show W.length<=_;omega⟩ ⟨bd h.sn.1<|Nat.le_add_right _ _,h.sn.2⟩ D (λe p=>?_) (λi A=>aj _) h.nd (λn=>?_) λv X Z=>?_
 .have⟨S,G,V⟩:=F e p;exact⟨⟨G.1,bP G.2 h.ee⟩,λ_=>V,λq=>absurd S q⟩
 .have:=o ex<|(aH x ex).e;rw[h.lx n] at this;exact this.eq_nil
 .refine⟨Vm v ex<|v ex-c.M*(j:Int),λn=>?_,λi A l=>?_,?_⟩
  .rw[wP];have:=X n;omega
  .rw[qz l];exact((Z i A l).mono z (aj _) C<|aj _).perm (o i _)
  .rw[qY n];have:=f_ (a:=(f.length:Int)) (b:=(j:Int)) (c:=c.M) (by omega) I;omega
theorem Inv.mod{f:cN->cN}{n:Int}(l:ex<x.2.2.2.2.2.2.1.length)(hτ:τ<=n)(z:Cv m ex n (f (aH x ex)))(A:(aH x ex).2.2.2.2.1<=(f (aH x ex)).2.2.2.2.1):Inv c m s B t K n ex b (cO x (bA x.2.2.2.2.2.2.1 ex f)):=by
 have p:aH (cO x (bA x.2.2.2.2.2.2.1 ex f)) ex=f (aH x ex):=fE l;have o:∀i,i≠ex->aH (cO x (bA x.2.2.2.2.2.2.1 ex f)) i=aH x i:=λi a=>ij a;refine h.core (evs:=[]) ⟨h.q.made,h.q.len,h.q.heap⟩ rfl rfl rfl bO rfl (aj _) (ai _) h.ch h.sn (.refl _) nofun (λi a=>?_) (λi a=>?_) (λ_=>?_) λv q u=>⟨v,q,λi a j=>?_,by simp_all⟩
 .grind
 .by_cases e:i=ex
  .simp_all
  .rw[o i e];exact(h.nd i a).mono hτ
 .rw[p];by_cases e:(aH x ex).2.2.2.2.1=(f (aH x ex)).2.2.2.2.1
  .rw[<-e];exact h.lx l
  .exact h.none l (by omega)
 .rw[o i j];exact u i a j
theorem Inv.cl(f:y8 c)(a:ex<x.2.2.2.2.2.2.1.length)(l:zt c ex x.2.2.2.2.2.1.2.2 x.2.2.2.2.1 (aH x ex) [] b):Inv c m s B t K τ x.2.2.2.2.2.2.1.length 0 x:=by
 refine h.core (evs:=[]) h.q rfl rfl rfl rfl rfl (aj _) (ai _) h.ch h.sn (.refl _) nofun (λi j=>aj _) h.nd (λk=>absurd k<|eZ _) λv n o=>⟨v,λk=>absurd k<|eZ _,λi j _=>?_,by simp_all⟩;by_cases e:i=ex
 .subst e;rw[h.lx a];exact l.mono f (aj _) (aj _)<|n a
 simp_all
theorem Inv.cp(H:y8 c)(n:ex<x.2.2.2.2.2.2.1.length)(p:tc x e y)(D:e.2.1≠3)(F:e.2.2.1=(ex:Int))(G:e.2.2.2=(aH x ex).2.2.2.2.1)(J:x.2.2.2.2.2.1.2.2<=e.1)(S:e.1<=x.2.2.2.2.1->zt c ex x.2.2.2.2.2.1.2.2 x.2.2.2.2.1 (aH x ex) [e] (b-c.M))(V:∀z,z<=x.2.2.2.2.1->z<=e.1->zt c ex x.2.2.2.2.2.1.2.2 z (aH x ex) [] b):Inv c m s B t K τ x.2.2.2.2.2.2.1.length 0 y:=by
 obtain⟨C,O,rfl,l1,l2,⟨rfl,f,j⟩|⟨N,f,j⟩⟩:=p
 .have o:∀(i:Nat) (u:Int),¬(e.2.2.1=(i:Int)/\e.2.2.2=u)->(lv O i u).Perm (lv x.2.2.2.2.2.1.2.1 i u):=λi u k=>by
   have:=sI (i:=i) (t:=u) j
   rwa [Mw λa=>k a.2] at this
  refine h.core (evs:=[e]) ⟨h.q.made,l1,l2⟩ rfl rfl rfl rfl rfl (aj _) (ai _) h.ch h.sn j (λz W=>?_) (λi l=>aj _) h.nd (λk=>absurd k<|eZ _) λv I A=>⟨Vm v ex<|b-c.M,λk=>absurd k<|eZ _,λi l _=>?_,?_⟩
  .rw[aO.1 W];exact⟨⟨J,bP f h.ee⟩,λq=>absurd q D,λ_=>⟨ex,F,n,Int.le_of_eq G⟩⟩
  .by_cases k:i=ex
   .subst k;rw[wP];refine(S f).perm ?_;have:=sI (i:=i) (t:=(aH x i).2.2.2.2.1) j
    rwa [Mv D F G,h.lx n] at this
   .rw[qz k];exact(A i l k).perm (o i _ λq=>k<|by omega)
  .rw[qY n,bU];omega
 .subst N;refine h.core (evs:=[]) ⟨h.q.made,l1,l2⟩ rfl rfl rfl rfl rfl f (ai _) h.ch h.sn (.refl _) nofun (λi l=>aj _) h.nd (λk=>absurd k<|eZ _) λv I A=>⟨v,λk=>absurd k<|eZ _,λi l _=>?_,by simp_all⟩;by_cases k:i=ex
  .subst k;show zt c i _ C _ (lv x.2.2.2.2.2.1.2.1 i<|(aH x i).2.2.2.2.1) _;rw[h.lx n];exact(V C f j).mono H (aj _) (aj _) (I n)
  .exact(A i l k).mono H (aj _) f (aj _)
theorem Inv.oth{f:cN->cN}{k:Nat}{p:Int}(F:0<=d)(o:ex<x.2.2.2.2.2.2.1.length\/d=0)(n:k<x.2.2.2.2.2.2.1.length)(l:k≠ex)(hτ:τ<=p)(C:Cv m k p (f (aH x k)))(G:(aH x k).2.2.2.2.1<=(f (aH x k)).2.2.2.2.1)(D:y8 c)
  (A:∀v,zt c k x.2.2.2.2.2.1.2.2 x.2.2.2.2.1 (aH x k) (lv x.2.2.2.2.2.1.2.1 k ((aH x k).2.2.2.2.1)) v->zt c k x.2.2.2.2.2.1.2.2 x.2.2.2.2.1 (f (aH x k)) (lv x.2.2.2.2.2.1.2.1 k ((f (aH x k)).2.2.2.2.1)) (v+d)):Inv c m s B t K p ex (b-d) (cO x (bA x.2.2.2.2.2.2.1 k f)):=by
 have z:aH (cO x (bA x.2.2.2.2.2.2.1 k f)) k=f (aH x k):=fE n;have hs:∀i,i≠k->aH (cO x (bA x.2.2.2.2.2.2.1 k f)) i=aH x i:=λi j=>ij j;refine h.core (evs:=[]) ⟨h.q.made,h.q.len,h.q.heap⟩ rfl rfl rfl bO rfl (aj _) (ai _) h.ch h.sn (.refl _) nofun (λi j=>?_) (λi j=>?_) (λq=>?_) λv H u=>⟨Vm (Vm v k (v k+d)) ex (v ex-d),λq=>?_,λi j a=>?_,?_⟩
 .grind
 .by_cases e:i=k
  .simp_all
  .rw[hs i e];exact(h.nd i j).mono hτ
 .rw[hs ex (ig l)];exact h.lx q
 .rw[wP];omega
 .rw[qz a];by_cases e:i=k
  .subst e;rw[z,wP];exact A _ (u i j a)
  .rw[hs i e,qz e];exact u i j a
 .show _+c.M*0<=_;rcases o with o|rfl
  .rw[qY o,qY n,qz (ig l)];omega
  .by_cases q:ex<x.2.2.2.2.2.2.1.length
   .rw[qY q,qY n,qz (ig l)];omega
   .rw[Fq (by omega),qY n];omega
theorem Inv.mp{f:cN->cN}{k:Nat}{G:Int}(hd:0<=d)(J:ex<x.2.2.2.2.2.2.1.length\/d=0)(C:k<x.2.2.2.2.2.2.1.length)(l:k≠ex)(hτ:τ<=G)(hB:Cv m k G<|f<|aH x k)(ht:(aH x k).2.2.2.2.1<=(f<|aH x k).2.2.2.2.1)(X:lv x.2.2.2.2.2.1.2.1 k ((f<|aH x k).2.2.2.2.1)=[])(hc:y8 c)(p:tc (cO x<|bA x.2.2.2.2.2.2.1 k f) e y)(O:e.2.1≠3)(S:e.2.2.1=(k:Int))(V:e.2.2.2=(f<|aH x k).2.2.2.2.1)(ew:x.2.2.2.2.2.1.2.2<=e.1)
  (W:∀v,zt c k x.2.2.2.2.2.1.2.2 x.2.2.2.2.1 (aH x k) (lv x.2.2.2.2.2.1.2.1 k<|(aH x k).2.2.2.2.1) v->(e.1<=x.2.2.2.2.1->zt c k x.2.2.2.2.2.1.2.2 x.2.2.2.2.1 (f<|aH x k) [e] (v+d-c.M))/\∀z,z<=x.2.2.2.2.1->z<=e.1->zt c k x.2.2.2.2.2.1.2.2 z (f<|aH x k) [] (v+d)):Inv c m s B t K G ex (b-d) y:=by
 have H:aH (cO x<|bA x.2.2.2.2.2.2.1 k f) k=f (aH x k):=fE C;have hs:∀i,i≠k->aH (cO x<|bA x.2.2.2.2.2.2.1 k f) i=aH x i:=λi n=>ij n;have tt:∀i,i<x.2.2.2.2.2.2.1.length->(aH x i).2.2.2.2.1<=(aH (cO x<|bA x.2.2.2.2.2.2.1 k f) i).2.2.2.2.1:=λi n=>by grind
 have nn:∀i,i<x.2.2.2.2.2.2.1.length->Cv m i G (aH (cO x<|bA x.2.2.2.2.2.2.1 k f) i):=λi n=>by
  by_cases e:i=k
  .simp_all
  .rw[hs i e];exact(h.nd i n).mono hτ
 have sm:∀(v:Nat->Int) (a:Int),Dz (Vm (Vm v k<|v k+d-a) ex<|v ex-d) x.2.2.2.2.2.2.1.length+a<=Dz v x.2.2.2.2.2.2.1.length:=λv a=>by
  rcases J with J|rfl
  .rw[qY J,qY C,qz<|ig l];omega
  .by_cases q:ex<x.2.2.2.2.2.2.1.length
   .rw[qY q,qY C,qz<|ig l];omega
   .rw[Fq<|by omega,qY C];omega
 obtain⟨N,I,rfl,l1,l2,⟨rfl,o,A⟩|⟨g1,o,A⟩⟩:=p
 .have D:∀(i:Nat) (u:Int),¬(e.2.2.1=(i:Int)/\e.2.2.2=u)->(lv I i u).Perm (lv x.2.2.2.2.2.1.2.1 i u):=λi u k=>by
   have:=sI (i:=i) (t:=u) A
   rwa [Mw λa=>k a.2] at this
  refine h.core (evs:=[e]) ⟨h.q.made,l1,l2⟩ rfl rfl rfl bO rfl (aj _) (ai _) h.ch h.sn A (λz hz=>?_) tt nn (λq=>?_) λv Z F=>⟨Vm (Vm v k<|v k+d-c.M) ex<|v ex-d,λq=>?_,λi n j=>?_,?_⟩
  .rw[aO.1 hz];exact⟨⟨ew,bP o h.ee⟩,λq=>absurd q O,λ_=>⟨k,S,C,Int.le_of_eq<|V.trans (congrArg (λz:cN=>z.2.2.2.2.1) H).symm⟩⟩
  .have:=D ex ((aH x ex).2.2.2.2.1) λq=>l (by omega);rw[h.lx q] at this;show lv I ex ((aH (cO x<|bA x.2.2.2.2.2.2.1 k f) ex).2.2.2.2.1)=[];rw[hs ex<|ig l];exact this.eq_nil
  .rw[wP];omega
  .rw[qz j];show zt c i _ _ (aH (cO x<|bA x.2.2.2.2.2.2.1 k f) i) (lv I i<|(aH (cO x<|bA x.2.2.2.2.2.2.1 k f) i).2.2.2.2.1) _;by_cases q:i=k
   .subst q;rw[H,wP];refine((W _<|F i n j).1 o).perm ?_;have:=sI (i:=i) (t:=(f<|aH x i).2.2.2.2.1) A
    rwa [Mv O S V,show lv (cO x<|bA x.2.2.2.2.2.2.1 i f).2.2.2.2.2.1.2.1 i ((f<|aH x i).2.2.2.2.1)=[] from X] at this
   .rw[hs i q,qz q];exact(F i n j).perm (D i _ λr=>q<|by omega)
  simp_all
 .subst g1;refine h.core (evs:=[]) ⟨h.q.made,l1,l2⟩ rfl rfl rfl bO rfl o (ai _) h.ch h.sn (.refl _) nofun tt nn (λq=>?_) λv Z F=>⟨Vm (Vm v k<|v k+d-0) ex<|v ex-d,λq=>?_,λi n j=>?_,?_⟩
  .show lv x.2.2.2.2.2.1.2.1 ex ((aH (cO x<|bA x.2.2.2.2.2.2.1 k f) ex).2.2.2.2.1)=[];rw[hs ex<|ig l];exact h.lx q
  .rw[wP];have:=Z q;omega
  .rw[qz j];show zt c i _ N (aH (cO x<|bA x.2.2.2.2.2.2.1 k f) i) (lv x.2.2.2.2.2.1.2.1 i<|(aH (cO x<|bA x.2.2.2.2.2.2.1 k f) i).2.2.2.2.1) _;by_cases q:i=k
   .subst q;rw[H,wP,X,Int.sub_zero];exact(W _<|F i n j).2 N o A
   .rw[hs i q,qz q];exact(F i n j).mono hc (aj _) o (aj _)
  .have:=sm v 0;show _+c.M*0<=_;omega
end
structure Kp(x y:Net):Prop where
 len:y.2.2.2.2.2.2.1.length=x.2.2.2.2.2.2.1.length
 w:y.2.2.2.2.2.1.2.2=x.2.2.2.2.2.1.2.2
 e:y.2.2.2.2.1<=x.2.2.2.2.1
variable{x:Net}
def Kp.id:Kp x x:=⟨rfl,rfl,aj _⟩
def Kp.mod{f:cN->cN}:Kp x<|cO x<|bA x.2.2.2.2.2.2.1 i f:=⟨bO,rfl,aj _⟩
def Kp.trans{z:Net}(a:Kp x y)(b:Kp y z):Kp x z:=⟨b.len.trans a.len,b.w.trans a.w,bP b.e a.e⟩
def tc.kp(p:tc x e y):Kp x y:=by
 obtain⟨a,f,rfl,_,_,⟨rfl,_⟩|⟨_,g,_⟩⟩:=p
 .exact⟨rfl,rfl,aj _⟩
 .exact⟨rfl,rfl,g⟩
def pM.kp{k:Nat}(p:pM x y k j):Kp x y:=by
 obtain⟨a,b,n,f,l,e,rfl,_,_,_,_,_,g,_⟩:=p;exact⟨rfl,rfl,g⟩
variable{n:Node}
def kZ:lh n=true↔2<=n.2.1/\n.2.1<=4:=decide_eq_true_iff
variable{B:Nat}{s:gH}
def Inv.weak{t K a:Nat}{f:Int}{ex:Nat}{b e:Int}(h:Inv c m s B t K τ ex b x)(hK:K<=a)(hτ:τ<=f)(j:e<=b):Inv c m s B t a f ex e x:=by
 have⟨v,n,o,p⟩:=h.vs;exact⟨h.q,h.mad,h.em,h.es,h.en,h.now,h.ee,h.hw,h.h3,h.hi,⟨h.ch.1.mono hK,h.ch.2.1.mono hK,bd h.ch.2.2 hK⟩,⟨bd h.sn.1 hK,h.sn.2⟩,λi l=>(h.nd i l).mono hτ,h.lx,⟨v,λq=>bP j<|n q,o,p⟩⟩
section
variable {c:Mc} {m:aA} {s:gH} {B t K:Nat} {τ:Int} {ex:Nat} {b:Int} {x:Net} (E:Env c m s) (h:Inv c m s B t K τ ex b x)
include E h
theorem Inv.sw1{k:Nat}(F:ex<x.2.2.2.2.2.2.1.length)(o:k<x.2.2.2.2.2.2.1.length)(Z:lh (aH x ex).1=true)(p:Sw1 k x y):Inv c m s B t K (τ+2) ex (b-(if k=ex then 0 else c.M+(c.n+1)*c.D)) y/\aH y ex=aH x ex/\Kp x y:=by
 have l:=E.ok;have N:=l.nn (i:=k) (e:=x.2.2.2.2.1) (t:=x.2.2.2.2.2.1.2.2+c.S);have G:Inv c m s B t K (τ+2) ex (b-(if k=ex then 0 else c.M+(c.n+1)*c.D)) x:=h.weak (ai _) (by omega) (by omega);rcases p with rfl|⟨on,a1,a2,p⟩
 .exact⟨G,rfl,.id⟩
 have n:k≠ex:=λe=>by simp_all
 rcases p with ⟨_,rfl⟩|⟨g,p⟩
 .exact⟨G,rfl,.id⟩
 rw[if_neg n];have j:=h.nd k o;rw[h.em] at g p;have C:=RA g;have no:¬(2<=(aH x k).1.2.1/\(aH x k).1.2.1<=4):=λq=>by rw[kZ.2 q] at a1;grind
 rcases p with ⟨rfl,rfl⟩|⟨rfl,p⟩
 .have D:Cv m k (τ+2)<|o4 (jG m (aH x k).1 false).1<|aH x k:=⟨BU j.zM g,(ME g).trans j.id,⟨by show 0<=(aH x k).2.2.2.2.1+1;have:=j.t;omega,by show(aH x k).2.2.2.2.1+1<=_;have:=j.t;omega⟩,j.c,j.l,j.d⟩;refine⟨h.oth (f:=o4 (jG m (aH x k).1 false).1) (d:=c.M+(c.n+1)*c.D) (by omega) (.inl F) o n (by omega) D (by show(aH x k).2.2.2.2.1<=(aH x k).2.2.2.2.1+1;omega) l λv A=>?_,ij<|ig n,.mod⟩;rw[show lv x.2.2.2.2.2.1.2.1 k ((o4 (jG m (aH x k).1 false).1<|aH x k).2.2.2.2.1)=[] from h.none o (by show(aH x k).2.2.2.2.1<(aH x k).2.2.2.2.1+1;omega)];refine .off (.inl<|C.2 rfl) rfl ?_;cases A with
  | a_ a b d=>simp_all
  | beg t a e b s u p d=>simp_all
  | Jr t a e b p d=>exact absurd (kZ.1 a) no
  | xh a e s b u d=>
    have:=l.lm (i:=k) s;have:=l.t0 (e:=x.2.2.2.2.1) (t:=x.2.2.2.2.2.1.2.2) u;omega
  | Ju t a e s b u d=>
    have:=l.lm (i:=k) s;have:=l.td (e:=x.2.2.2.2.1) (t:=x.2.2.2.2.2.1.2.2) u;omega
  | off a b d=>omega
  | pow t a e b d=>omega
 .have J:(cO x<|bA x.2.2.2.2.2.2.1 k<|o4 (jG m (aH x k).1 true).1).2.1=m:=h.em;have O:aH (cO x<|bA x.2.2.2.2.2.2.1 k<|o4 (jG m (aH x k).1 true).1) k=o4 (jG m (aH x k).1 true).1 (aH x k):=fE o;have s0:=a2.1 rfl;unfold Lst at p;rw[O,J] at p;have I:cO (cO x<|bA x.2.2.2.2.2.2.1 k<|o4 (jG m (aH x k).1 true).1) (bA (cO x<|bA x.2.2.2.2.2.2.1 k<|o4 (jG m (aH x k).1 true).1).2.2.2.2.2.2.1 k<|rG x.2.2.2.2.2.1.2.2)=cO x (bA x.2.2.2.2.2.2.1 k λy=>rG x.2.2.2.2.2.1.2.2<|o4 (jG m (aH x k).1 true).1 y):=congrArg (cO x)<|mod_mod o;have p:tc (cO x<|bA x.2.2.2.2.2.2.1 k λy=>rG x.2.2.2.2.2.1.2.2<|o4 (jG m (aH x k).1 true).1 y) (x.2.2.2.2.2.1.2.2+m.2.1,2,(k:Int),(aH x k).2.2.2.2.1+1+1) y:=by rw[<-I];exact p
  have D:Cv m k (τ+2)<|rG x.2.2.2.2.2.1.2.2<|o4 (jG m (aH x k).1 true).1<|aH x k:=⟨BU j.zM g,(ME g).trans j.id,⟨by show 0<=(aH x k).2.2.2.2.1+1+1;have:=j.t;omega,by show(aH x k).2.2.2.2.1+1+1<=_;have:=j.t;omega⟩,j.c,j.l,j.d⟩;have S:=E.S;have W:=l.S;have hG:=l.G;have hL:=l.L;have X:=l.W;have hD:=l.D;have V:0<=c.S:=by rcases l.n with k|k|k|k|k<;>rw[k] at X<;>omega
  refine⟨h.mp (f:=λy=>rG x.2.2.2.2.2.1.2.2<|o4 (jG m (aH x k).1 true).1 y) (d:=c.M+(c.n+1)*c.D) (by omega) (.inl F) o n (by omega) D (by show(aH x k).2.2.2.2.1<=(aH x k).2.2.2.2.1+1+1;omega) (h.none o (by show(aH x k).2.2.2.2.1<(aH x k).2.2.2.2.1+1+1;omega)) l p (by simp_all) rfl rfl (by omega) λv A=>⟨λ_=>?_,λz z1 H=>?_⟩,?_,?_⟩
  .refine .Ju _ (C.1 rfl).2 rfl (aj _) rfl (by show x.2.2.2.2.2.1.2.2+m.2.1<=_;omega) ?_;show c.VL k x.2.2.2.2.2.1.2.2+c.tT x.2.2.2.2.1 (x.2.2.2.2.2.1.2.2+m.2.1)<=_;rw[<-S];cases A with
   | a_ a b d=>simp_all
   | beg t a e b s u p d=>simp_all
   | Jr t a e b p d=>simp_all
   | xh a e s b u d=>omega
   | Ju t a e s b u d=>omega
   | off a b d=>omega
   | pow t a e b d=>omega
  .refine .xh (C.1 rfl).2 rfl (aj _) rfl (by have H:z<=x.2.2.2.2.2.1.2.2+m.2.1:=H;omega) ?_;show c.VL k x.2.2.2.2.2.1.2.2<=_;cases A with
   | a_ a b d=>simp_all
   | beg t a e b s u p d=>simp_all
   | Jr t a e b p d=>simp_all
   | xh a e s b u d=>omega
   | Ju t a e s b u d=>omega
   | off a b d=>omega
   | pow t a e b d=>omega
  .rw[tc.aH p,ij<|ig n]
  .exact Kp.mod.trans p.kp
end
def VE(ex:Nat)(C:Int):Nat->Nat->Int
 | 0,_=>0
 | f+1,k=>(if k=ex then 0 else C)+VE ex C f (k+1)
theorem Tz{ex:Nat}{C:Int}:∀{f k:Nat},VE ex C f k=C*(f:Int)-(if k<=ex/\ex<k+f then C else 0)
 | 0,k=>by rw[VE,if_neg<|by omega];omega
 | f+1,k=>by
   rw[VE,Tz,show((f+1:Nat):Int)=(f:Int)+1 from by omega,Int.mul_add,Int.mul_one];omega
section
variable {c:Mc} {m:aA} {s:gH} {B t K:Nat} (E:Env c m s)
include E
theorem Inv.sws:∀{f k:Nat} {τ:Int} {ex:Nat} {b:Int} {x y:Net},Inv c m s B t K τ ex b x->ex<x.2.2.2.2.2.2.1.length->k+f<=x.2.2.2.2.2.2.1.length->lh (aH x ex).1=true->W_ f k x y->Inv c m s B t K (τ+2*(f:Int)) ex (b-VE ex (c.M+(c.n+1)*c.D) f k) y/\aH y ex=aH x ex/\Kp x y
 | 0,k,τ,ex,b,x,y,h,hx,hk,hi,p=>by
   rw[show y=x from p];refine⟨h.weak (ai _) (by omega) ?_,rfl,.id⟩;show b-0<=b;omega
 | f+1,k,τ,ex,b,x,y,h,hx,hk,hi,⟨z,p,q⟩=>by
   have⟨a,j,l1⟩:=h.sw1 E hx (by omega) hi p;have⟨e,l,l2⟩:=Inv.sws (f:=f) (k:=k+1) a (by have:=l1.len;omega) (by have:=l1.len;omega) (by simp_all) q;refine⟨e.weak (ai _) (by omega) ?_,l.trans j,l1.trans l2⟩;rw[VE];omega
end
section
variable {c:Mc} {m:aA} {s:gH} {B t K:Nat} {τ:Int} {i:Nat} {b:Int} {x:Net} (E:Env c m s) (h:Inv c m s B t K τ i b x)
include E h
theorem Inv.swt(o:i<x.2.2.2.2.2.2.1.length)(j:lh (aH x i).1=true)(p:Swt x i y):∃a,Inv c m s B t K (τ+16) i a y/\aH y i=aH x i/\Kp x y/\(a=b\/(aH x i).2.2.2.2.2.2.1=true/\(aH x i).1.2.1=4/\a=b-c.R):=by
 have n:=h.en;have f:=E.n;rcases p with rfl|⟨a1,a2,p⟩
 .exact⟨b,h.weak (ai _) (by omega)<|aj _,rfl,.id,.inl rfl⟩
 .have⟨l,q,l1⟩:=Inv.sws E h o (by omega) j p;refine⟨_,l.weak (ai _) (by have:=w7 E.ml;omega)<|aj _,q,l1,.inr ⟨a1,a2,?_⟩⟩;rw[Tz,if_pos<|by omega,n,<-f];have e:c.R=(c.n-1)*(c.M+(c.n+1)*c.D):=rfl
  grind
def Inv.her(n:i<x.2.2.2.2.2.2.1.length)(j:lh (aH x i).1=true)(p:Xl x i y):Inv c m s B t K τ i b y/\Kp x y/\lh (aH y i).1=true/\((aH y i).1.2.1=(aH x i).1.2.1\/(aH x i).1.2.1=4/\(aH y i).1.2.1=3)/\(aH y i).1.2.2.1.2.1=(aH x i).1.2.2.1.2.1/\(aH y i).2.1.1=(aH x i).2.1.1/\(aH y i).2.1.2.1=(aH x i).2.1.2.1/\(aH y i).2.2=(aH x i).2.2:=by
 have _:=E;rcases p with rfl|⟨l,cl,g,⟨c1,c2,c3⟩,rfl⟩
 .exact⟨h,.id,j,.inl rfl,rfl,rfl,rfl,rfl⟩
 .rw[h.em] at g ⊢;have⟨u,q,e⟩:=am4 g;have a:=h.nd i n;have o:Cv m i τ<|ama (oG m (aH x i).1 l).1 cl<|aH x i:=⟨UI a.zM g,(am3 g).trans a.id,a.t,by show 0<=cl.1/\cl.1<=_;rw[c1];exact a.c,by show 0<=cl.2.1;rw[c2];exact a.l,c3 a.d⟩;rw[fE n];refine⟨h.mod (f:=ama (oG m (aH x i).1 l).1 cl) n (aj _) o<|aj _,.mod,?_,e,q,c1,c2,rfl⟩;refine kZ.2 ?_;have:=kZ.1 j;rcases e with e|⟨_,e⟩
  .show 2<=(oG m (aH x i).1 l).1.2.1/\(oG m (aH x i).1 l).1.2.1<=4;rw[e];exact this
  .show 2<=(oG m (aH x i).1 l).1.2.1/\(oG m (aH x i).1 l).1.2.1<=4;rw[e];omega
def Inv.ayK{l:List eX}(a:l.length<=K+1)(e:∀z∈l,dp m z.2=0):Inv c m s B t (K+1) τ i b<|WL x l:=
 have _:=E
 h.core (evs:=[]) ⟨h.q.made,h.q.len,h.q.heap⟩ rfl rfl rfl rfl rfl (aj _) (ai _) ⟨h.ch.1.mono<|jb _,h.ch.2.1.mono<|jb _,bd h.ch.2.2<|jb _⟩ ⟨a,e⟩ (.refl _) nofun (λ_ _=>aj _) h.nd h.lx λv f j=>⟨v,f,j,by show _+c.M*0<=_;omega⟩
end
theorem Pk{n:Int}(j:4<=n)(l:0<=q):(q%n+1=n↔(q+1)%n=0)/\(q+1)%n=if q%n+1=n then 0 else q%n+1:=by
 have a:=jY q (b:=n) (by omega);have b:=mW q (b:=n) (by omega);have e:(q+1)%n=(q%n+1)%n:=by simp_all
 by_cases k:q%n+1=n
 .simp_all
 .have f:(q%n+1)%n=q%n+1:=nH (by omega) (by omega);omega
section
variable {c:Mc} {m:aA} {s:gH} {B t K:Nat} {τ:Int} {i:Nat} {b:Int} {x:Net} (E:Env c m s) (h:Inv c m s B t K τ i b x)
include E h
theorem Inv.ev2(j:i<x.2.2.2.2.2.2.1.length)(o:lh (aH x i).1=true)(hf:(aH x i).2.2.2.2.2.2.2=false)(hp:(aH x i).1.2.2.1.2.1=(aH x i).2.1.2.1%c.n)(F:0<=b)
  (hv:∀A sl t',FE m (aH x i).2.1 t' (A,sl)->A<=c.E->(bif decide ((aH x i).1.2.1=4) then c.VA i A (c.W*(sl.1%c.n)) else c.VP i A (sl.1%c.n))+c.tT x.2.2.2.2.1 (x.2.2.2.2.2.1.2.2+c.S)<=b-c.M) (p:Ev2 x i y):Inv c m s B t (K+1) τ x.2.2.2.2.2.2.1.length 0 y:=by
 have a:=h.nd i j;rcases p with ⟨rfl,p|p⟩|⟨_,g,p⟩
 .simp_all
 .exact(h.cl E.ok j<|.a_ o rfl F).weak (jb _) (aj _) (aj _)
 .rw[h.em] at g p;have⟨_,O,W⟩:=alQ a.zM o;have e:lh (jI m (aH x i).1).1=true:=by rw[kZ,O];exact kZ.1 o
  rcases p with rfl|⟨d,cl,I,N,s1,s2,p⟩
  .have H:Cv m i τ<|edY (jI m (aH x i).1).1<|aH x i:=⟨E7 a.zM g,(Zh g).trans a.id,a.t,a.c,a.l,a.d⟩;have D:=h.mod (f:=edY (jI m (aH x i).1).1) j (aj _) H<|aj _;have l1:(cO x<|bA x.2.2.2.2.2.2.1 i<|edY (jI m (aH x i).1).1).2.2.2.2.2.2.1.length=x.2.2.2.2.2.2.1.length:=bO;have:=D.cl E.ok (by omega)<|.a_ (by rw[fE j];exact e) rfl F;rw[l1] at this;exact this.weak (jb _) (aj _)<|aj _
  .have Z:=w7 E.ml;have⟨J,S,V,b4⟩:=(A7<|by omega).1 N.ck';have H:Cv m i τ<|nxY (jI m (aH x i).1).1 cl<|aH x i:=⟨E7 a.zM g,(Zh g).trans a.id,a.t,⟨J.1,by have:=J.2;show cl.1<=_;omega⟩,S.1,V⟩;have D:=h.mod (f:=nxY (jI m (aH x i).1).1 cl) j (aj _) H<|aj _;have l1:(cO x<|bA x.2.2.2.2.2.2.1 i<|nxY (jI m (aH x i).1).1 cl).2.2.2.2.2.2.1.length=x.2.2.2.2.2.2.1.length:=bO;have X:=D.ayK E (l:=I) (bd s1<|Nat.succ_le_succ h.sn.1) λz u=>by
    rcases s2 z u with u|u
    .exact h.sn.2 z u
    .rw[u];exact E7 a.zM g
   have C:aH (WL (cO x<|bA x.2.2.2.2.2.2.1 i<|nxY (jI m (aH x i).1).1 cl) I) i=nxY (jI m (aH x i).1).1 cl (aH x i):=fE j;have G:=E.n;have ms:=Pk (n:=c.n) (q:=(aH x i).2.1.2.1) (by omega) a.l;have v:(jI m (aH x i).1).1.2.2.1.2.1=cl.2.1%c.n:=by
    rw[W,N.sl,ms.2,hp,G]
   have:=X.cp E.ok (y:=y) (by rw[<-l1] at j;exact j) p (by grind) rfl (by rw[C];rfl) (by show x.2.2.2.2.2.1.2.2<=v8 x cl.1;unfold v8;omega) (λq=>?_) λz z1 z2=>?_
   .rw[show(WL (cO x<|bA x.2.2.2.2.2.2.1 i<|nxY (jI m (aH x i).1).1 cl) I).2.2.2.2.2.2.1.length=x.2.2.2.2.2.2.1.length from l1] at this;omega
   .have q:v8 x cl.1<=x.2.2.2.2.1:=q;have q2:cl.1<=v8 x cl.1:=by unfold v8;omega
    have hE:=h.ee;rw[C];refine .beg _ e hf rfl q2 (by omega) v ?_;show(bif decide ((jI m (aH x i).1).1.2.1=4) then c.VA i cl.1 (c.W*(cl.2.1%c.n)) else c.VP i cl.1 (jI m (aH x i).1).1.2.2.1.2.1)+_<=_;rw[v,O];exact hv cl.1 cl.2 d N (by omega)
   .rw[C];exact .a_ e rfl F
end
theorem Env.nxt(E:Env c m s){k r:qB}(N:FE m k d r)(j:0<=k.2.1):(r.2.1%c.n=0/\c.W*(k.2.1%c.n)=c.W*(c.n-1)/\c.W*(r.2.1%c.n)=0/\k.1+c.S-c.D-c.W<=r.1)\/(r.2.1%c.n≠0/\c.W*(r.2.1%c.n)=c.W*(k.2.1%c.n)+c.W/\0<=c.W*(k.2.1%c.n)/\k.1+c.S-c.D<=r.1):=by
 have D:=w7 E.ml;have l:=E.n;have f:=Pk (n:=c.n) (q:=k.2.1) (by omega) j;have C:=E.W;have A:=E.S;have z:=E.D;have v:=N.dr;rw[N.sl,f.2];rcases N.st with ⟨a,o,u⟩|⟨a,b⟩
 .grind
 .rw[<-l] at a;have e:¬k.2.1%c.n+1=c.n:=λq=>a<|f.1.1 q;have p:=jY k.2.1 (b:=c.n) (by omega);exact .inr ⟨by omega,by grind,gE (by omega) p,by omega⟩
def aab{y:cN}:(ze y).1=y.1:=rfl
def apY{y:cN}:(ze y).2.2.2.2.2.2=y.2.2.2.2.2.2:=rfl
def al5{y:cN}:(ze y).2.1=y.2.1:=rfl
theorem Env.evv(E:Env c m s){y z:cN}{b f X Y:Int}(H:0<=y.2.1.2.1)(d:(bif decide (y.1.2.1=4) then c.Qw i y.2.1.1 (c.W*(y.2.1.2.1%c.n)) y.2.2.2.2.2.2.1 else c.Qx i y.2.1.1)+X<=b)(C:0<=Y/\Y<=X)(c1:z.2.1.1=y.2.1.1)(l:z.2.1.2.1=y.2.1.2.1)(sz:z.1.2.1=y.1.2.1\/y.1.2.1=4/\z.1.2.1=3)(o:f=b\/y.2.2.2.2.2.2.1=true/\z.1.2.1=4/\f=b-c.R):
  0<=f/\∀{r:qB} {n:Int},FE m z.2.1 n r->r.1<=c.E->(bif decide (z.1.2.1=4) then c.VA i r.1 (c.W*(r.2.1%c.n)) else c.VP i r.1 (r.2.1%c.n))+Y<=f-c.M:=by
 have a:=E.ok;have p:=a.nn (i:=i) (e:=0) (t:=0);refine⟨?_,λ{r n} N hs=>?_⟩
 .have na:=a.na (i:=i) (st:=y.2.1.1) (om:=c.W*(y.2.1.2.1%c.n)) (b:=false);have v:c.Qw i y.2.1.1 (c.W*(y.2.1.2.1%c.n)) true=c.Qw i y.2.1.1 (c.W*(y.2.1.2.1%c.n)) false+c.R:=by
   show _+c.R=_+0+c.R;omega
  rcases o with rfl|⟨F,G,rfl⟩
  .have D:=a.na (i:=i) (st:=y.2.1.1) (om:=c.W*(y.2.1.2.1%c.n)) (b:=y.2.2.2.2.2.2.1)
   grind
  grind
 .have X:=E.nxt N (by omega);rw[c1,l] at X;by_cases k:y.1.2.1=4
  .rw[cr k,cond_true] at d;have A:=a.a2 (i:=i) (b:=y.2.2.2.2.2.2.1) hs (X.imp (λz=>z.2) λz=>z.2);have u:0<=(bif y.2.2.2.2.2.2.1 then c.R else 0):=by grind
   by_cases j:z.1.2.1=4
   .grind
   .rw[gw j,cond_false];have P:=a.pa (i:=i) (st:=r.1) (om:=c.W*(r.2.1%c.n)) (q:=r.2.1%c.n) (by have:=a.nw.1;omega);omega
  .have j:¬z.1.2.1=4:=by omega
   rw[gw k,cond_false] at d;rw[gw j,cond_false];have A:=a.p2 (i:=i) (st:=y.2.1.1) hs (q:=r.2.1%c.n) (X.imp (λz=>⟨z.1,z.2.2.2⟩) λz=>⟨z.1,z.2.2.2⟩);omega
section
variable {c:Mc} {m:aA} {s:gH} {B t K:Nat} {τ:Int} {i:Nat} {b:Int} {x:Net} (E:Env c m s) (h:Inv c m s B t K τ i b x)
include E h
theorem Inv.Jr(G:i<x.2.2.2.2.2.2.1.length)(he:e.2.1=1)(X:zt c i x.2.2.2.2.2.1.2.2 x.2.2.2.2.1 (aH x i) [e] b)(p:Evl x i y):Inv c m s B t (K+1) (τ+16) x.2.2.2.2.2.2.1.length 0 y:=by
 have F:=E.ok;cases X with
 | a_ a q d=>cases q
 | beg t a e q s u p d=>simp_all
 | xh a e s q u d=>cases q
 | Ju t a e s q u d=>simp_all
 | off a q d=>cases q
 | pow t a e q d=>simp_all
 | Jr t a f q hp d=>
   rcases p with ⟨k,_⟩|⟨_,u,w,pu,_,pw,p⟩
   .simp_all
   .have⟨D,l1,i1,a6,a0,c1,a5,H⟩:=h.her E G a pu;have j:i<u.2.2.2.2.2.2.1.length:=by have:=l1.len;omega
    have Z:Cv m i τ<|ze<|aH u i:=by
     have:=D.nd i j;exact⟨this.zM,this.id,this.t,this.c,this.l,this.d⟩
    have V:=D.mod (f:=ze) j (aj _) Z<|aj _;have o:aH (cO u<|bA u.2.2.2.2.2.2.1 i ze) i=ze (aH u i):=fE j;have l2:Kp u<|cO u<|bA u.2.2.2.2.2.2.1 i ze:=.mod;have⟨b',W,S,l3,A⟩:=V.swt E (by rw[l2.len];omega) (by rw[o,aab];omega) pw;have n:aH w i=ze (aH u i):=S.trans o;have L:=(l1.trans l2).trans l3;have T:=F.tm (e:=x.2.2.2.2.1) (t:=x.2.2.2.2.2.1.2.2+c.S) (e':=w.2.2.2.2.1) (t':=w.2.2.2.2.2.1.2.2+c.S) L.e (by have:=L.w;omega);rw[o] at A;have wz:(ze<|aH u i).2.2.2.2.2.2.1=(aH x i).2.2.2.2.2.2.1:=by rw[apY,H]
    have sz:(ze<|aH u i).1.2.1=(aH x i).1.2.1\/(aH x i).1.2.1=4/\(ze<|aH u i).1.2.1=3:=by rw[aab];omega
    rw[wz] at A;have⟨O,v⟩:=E.evv (z:=ze<|aH u i) (Y:=c.tT w.2.2.2.2.1<|w.2.2.2.2.2.1.2.2+c.S) (h.nd i G).l d ⟨(F.nn (i:=i) (e:=w.2.2.2.2.1) (t:=w.2.2.2.2.2.1.2.2+c.S)).2.1,T⟩ (by rw[al5];omega) (by rw[al5];omega) sz A;have C:(aH u i).1.2.2.1.2.1=(aH u i).2.1.2.1%c.n:=by simp_all
    have l:=W.ev2 E (by rw[l3.len,l2.len];omega) (by rw[n,aab];omega) (by rw[n,apY,H];exact f) (by rw[n,aab,al5];exact C) O (λI sl t' N hs=>by
     rw[n] at N ⊢;have J:FE m (ze<|aH u i).2.1 t' (I,sl):=N;have z:=v (r:=(I,sl)) J hs;exact z) p
    rw[L.len] at l;exact l
end
variable{l:List bK}
def agL{p:FK}(n:p.a0=l)(z:p.a1=(l.length:Int))(u:p.N9=q)(A:l.length<=1000000):∀(f i:Nat),l.length-i<=f->Go (zk af) (zk af<|.c0 p i) λr=>r.2=true->r.1.1=10->r.1.2.2.2.2.1=q:=by
 intro f
 induction f with
 | zero=>intro i o;exact aW (λg=>absurd g<|by omega) λ_=>ay nofun
 | succ f ih=>
   intro i o;refine aW (λg=>?_) λ_=>ay nofun
   have j:Go (zk af) (.ak<|.c0 p<|af.bJ i 1) λr=>r.2=true->r.1.1=10->r.1.e=q:=by
    rw[dq<|by omega,show(i:Int)+1=((i+1:Nat):Int) from by omega];exact aP<|ih (i+1) (by omega)
   have v:∀k:Int,zD k=false->k≠10:=λk a b=>by
    subst b;exact absurd (a.symm.trans<|show zD 10=true by rfl) (by decide)
   refine ah (by rw[n];exact bM (l:=l)<|by omega)<|cv (λ_=>cv (λe=>cv (λ_=>cv (λ_=>ay λ_ _=>e.trans u) λ_=>j) λ_=>j) λ_=>cX (λa=>cv (λ_=>cv (λ_=>ay λ_ k=>absurd k<|v _ a) λ_=>j) λ_=>j) λ_=>j) λ_=>j
variable{v:(Bool×aA×gH×Unit)×(Int×Int×fB)}
def al9(G:∀f∈v.1.2.2.1.2.2.2.2.2.2.2,f.1=10->f.2.2.2.2.1≠f.2.1)(j:v.1.2.2.1.2.2.2.2.2.2.2.length<=1000000)(u:v.2.1=10)(H:v.2.2.1=v.2.2.2.2.1):(dV v).2=false:=by
 have⟨I,D⟩:=sF j;have⟨⟨A,C,o,⟨⟩⟩,k,n,p⟩:=v;have j:o.2.2.2.2.2.2.2.length<=1000000:=j;have F:=(fQ (s:=zk af) (t:=W1 af A C o k n p) (d:=Ty.aR [bQ,.bool])<|ah (cr<|by omega)<|aP<|agL (l:=o.2.2.2.2.2.2.2) (q:=p.2.1) rfl rfl rfl j _ 0<|ai _).2;cases e:(dV ((A,C,o,()),k,n,p)).2
 .rfl
 .have⟨a,b,d,_⟩:=D e;have z:=F e<|b.trans u;exact absurd (z.trans<|H.symm.trans d.symm)<|G _ a<|b.trans u
theorem aav{k:Node}(p:Vp m n k)(h:dp m n=0):dp m k=0/\k.1=n.1/\k.2.1=n.2.1/\k.2.2.1=n.2.2.1:=by
 induction p with
 | rfl=>simp_all
 | step _ g ih=>
   have⟨a1,a2,a,e⟩:=ih;have s:=ami g;exact⟨afC a1 g,(amh g).trans a2,s.1.trans a,s.2.trans e⟩
section
variable {c:Mc} {m:aA} {s:gH} {B t K:Nat} {τ:Int} {i:Nat} {b:Int} {x:Net} (E:Env c m s) (h:Inv c m s B t K τ i b x)
include E h
def Inv.om(l:i<x.2.2.2.2.2.2.1.length):0<=c.W*((aH x i).2.1.2.1%c.n)/\c.W*((aH x i).2.1.2.1%c.n)<=c.W*(c.n-1):=by
 have _:=h;have f:=w7 E.ml;have j:=E.n;have e:=E.W;have a:=jY ((aH x i).2.1.2.1) (b:=c.n) (by omega);have b:=mW ((aH x i).2.1.2.1) (b:=c.n) (by omega);exact⟨gE (by omega) a,f_ (by omega)<|by omega⟩
theorem Inv.xh{f:cN->cN}(o:i<x.2.2.2.2.2.2.1.length)(A:f (aH x i)=rG x.2.2.2.2.2.1.2.2 (n,(aH x i).2.1,(f<|aH x i).2.2.1,(aH x i).2.2.2.1,(f<|aH x i).2.2.2.2.1-1,(f<|aH x i).2.2.2.2.2))(W:dp m n=0)(C:n.1=(i:Int))(hs:n.2.1=1)(F:(f<|aH x i).2.2.2.2.2.2.2=false)(J:(aH x i).2.2.2.2.1<=(f<|aH x i).2.2.2.2.1/\(f<|aH x i).2.2.2.2.1<=(aH x i).2.2.2.2.1+2)(I:c.VL i x.2.2.2.2.2.1.2.2+c.tT x.2.2.2.2.1 (x.2.2.2.2.2.1.2.2+c.S)<=b-c.M)(p:tc (cO x<|bA x.2.2.2.2.2.2.1 i f) (x.2.2.2.2.2.1.2.2+m.2.1,2,(i:Int),(f<|aH x i).2.2.2.2.1) y):Inv c m s B t K (τ+2) x.2.2.2.2.2.2.1.length 0 y:=by
 have v:=E.ok;have l:=h.nd i o;have u:=E.S;have V:=w7 E.ml;have S:=v.D;have O:=v.nn (i:=i) (e:=x.2.2.2.2.1) (t:=x.2.2.2.2.2.1.2.2+c.S);have fn:(f<|aH x i).1=n:=by rw[A];rfl
 have D:(f<|aH x i).1.2.1=1:=by rw[fn];exact hs
 have fc:(f<|aH x i).2.1=(aH x i).2.1:=by rw[A];rfl
 have j:(f<|aH x i).2.2.2.1=x.2.2.2.2.2.1.2.2:=by rw[A];rfl
 have N:Cv m i (τ+2)<|f<|aH x i:=⟨by grind,by rw[fn];exact C,by have:=l.t;omega,by rw[fc];exact l.c,by rw[fc];exact l.l,by rw[fc];exact l.d⟩;have H:=h.mod (f:=f) o (by omega) N J.1;have q:aH (cO x<|bA x.2.2.2.2.2.2.1 i f) i=f (aH x i):=fE o;have l1:(cO x<|bA x.2.2.2.2.2.2.1 i f).2.2.2.2.2.2.1.length=x.2.2.2.2.2.2.1.length:=bO;have a:=H.cp v (by rw[l1];exact o) p (by show ¬(2:Int)=3;decide) rfl (by rw[q]) (by show x.2.2.2.2.2.1.2.2<=x.2.2.2.2.2.1.2.2+m.2.1;omega) (λ_=>?_) λz X G=>?_
 .rw[l1] at a;exact a
 .rw[q];refine .Ju _ D F (by rw[j];exact aj _) rfl (by show x.2.2.2.2.2.1.2.2+m.2.1<=x.2.2.2.2.2.1.2.2+_+_;omega) ?_;rw[j,<-u];exact I
 .rw[q];refine .xh D F (by rw[j];exact aj _) rfl (by have G:z<=x.2.2.2.2.2.1.2.2+m.2.1:=G;show z<=x.2.2.2.2.2.1.2.2+_+_;omega) ?_;rw[j];omega
def Inv.bgn(C:i<x.2.2.2.2.2.2.1.length)(he:e.2.1≠1/\e.2.1≠2/\e.2.1≠5)(hw:e.1=x.2.2.2.2.2.1.2.2)(hv:zt c i x.2.2.2.2.2.1.2.2 x.2.2.2.2.1 (aH x i) [e] b)(p:Bgn x i y):Inv c m s B t (K+9) (τ+2) x.2.2.2.2.2.2.1.length 0 y:=by
 have o:=E.ok;have j:=h.nd i C;have om:=h.om E C;cases hv with
 | a_ a q d=>cases q
 | Jr t a f q p d=>injection q with q _;subst q;exact absurd rfl he.1
 | xh a e s q u d=>cases q
 | Ju t a e s q u d=>injection q with q _;subst q;exact absurd rfl he.2.1
 | off a q d=>cases q
 | pow t a e q d=>injection q with q _;subst q;exact absurd rfl he.2.2
 | beg t a f q sx u hp d=>
   injection q with q _;have b0:t=x.2.2.2.2.2.1.2.2:=by rw[<-hw,q]
   subst b0;have D:(aH x i).2.1.1<=c.E:=bP sx u;have M0:=o.nn (i:=i) (e:=x.2.2.2.2.1) (t:=x.2.2.2.2.2.1.2.2+c.S);have pa:=o.pa (i:=i) (st:=(aH x i).2.1.1) (q:=(aH x i).1.2.2.1.2.1) om.1;have p4:=o.p4 (i:=i) (t:=x.2.2.2.2.2.1.2.2) (q:=(aH x i).1.2.2.1.2.1) D sx;have L0:=(o.nn (i:=i) (e:=x.2.2.2.2.1) (t:=x.2.2.2.2.2.1.2.2)).2.2.1;have vp:c.VP i ((aH x i).2.1.1) ((aH x i).1.2.2.1.2.1)+c.tT x.2.2.2.2.1 (x.2.2.2.2.2.1.2.2+c.S)<=b:=by
    cases k:decide ((aH x i).1.2.1=4)<;>rw[k] at d<;>simp only[cond_true,cond_false] at d<;>omega
   have wk:∀{z:Net} {S:Nat} {τ':Int},S<=K+9->τ'<=τ+2->z.2.2.2.2.2.2.1.length=x.2.2.2.2.2.2.1.length->Inv c m s B t S τ' z.2.2.2.2.2.2.1.length 0 z->Inv c m s B t (K+9) (τ+2) x.2.2.2.2.2.2.1.length 0 z:=λk1 k2 l g=>by rw[<-l];exact g.weak k1 k2<|aj _
   rcases p with ⟨k,_⟩|⟨_,rfl|p|⟨n,hn,p⟩⟩
   .rw[a] at k;cases k
   .have nb:Cv m i τ<|ovY<|aH x i:=⟨j.zM,j.id,j.t,j.c,j.l,j.d⟩;have h1:=h.mod (f:=ovY) C (aj _) nb<|aj _;exact wk (by omega) (by omega) bO<|h1.cl o (by rw[show(cO x<|bA x.2.2.2.2.2.2.1 i ovY).2.2.2.2.2.2.1.length=x.2.2.2.2.2.2.1.length from bO];exact C)<|.a_ (by rw[fE C];exact a) rfl (by omega)
   .rcases p with ⟨_,rfl⟩|⟨g,⟨_,rfl⟩|⟨k,_⟩⟩
    .exact wk (by omega) (by omega) rfl<|h.cl o C<|.a_ a rfl (by omega)
    .rw[h.em] at g ⊢;have nb:Cv m i (τ+2)<|o4 (jG m (aH x i).1 false).1<|aH x i:=⟨BU j.zM g,(ME g).trans j.id,⟨by show 0<=(aH x i).2.2.2.2.1+1;have:=j.t;omega,by show(aH x i).2.2.2.2.1+1<=_;have:=j.t;omega⟩,j.c,j.l,j.d⟩;have h1:=h.mod (f:=o4 (jG m (aH x i).1 false).1) C (by omega) nb (by show(aH x i).2.2.2.2.1<=(aH x i).2.2.2.2.1+1;omega);exact wk (by omega) (by omega) bO<|h1.cl o (by rw[show(cO x<|bA x.2.2.2.2.2.2.1 i<|o4 (jG m (aH x i).1 false).1).2.2.2.2.2.2.1.length=x.2.2.2.2.2.2.1.length from bO];exact C)<|.off (.inl (by rw[fE C];exact(RA g).2 rfl)) rfl (by show c.VL i x.2.2.2.2.2.1.2.2+c.tT x.2.2.2.2.1 (x.2.2.2.2.2.1.2.2+c.S)<=b;omega)
    .cases k
   .rw[h.em] at hn;have⟨n1,n2,n3,n4⟩:=aav hn j.zM;have nb:Cv m i τ<|Qs<|aH x i:=⟨j.zM,j.id,j.t,j.c,j.l,j.d⟩;have h1:Inv c m s B t K τ i b<|zn x i:=h.mod (f:=Qs) C (aj _) nb<|aj _;have lw:Kp x<|zn x i:=.mod;have ew:aH (zn x i) i=Qs (aH x i):=fE C;have b4:Cv m i τ<|gM n<|aH (zn x i) i:=by rw[ew];exact⟨n1,n2.trans j.id,j.t,j.c,j.l,j.d⟩
    have h2:=Inv.mod (f:=gM n) h1 (by rw[lw.len];exact C) (aj _) b4 (by rw[ew];exact aj _);have lz:Kp x<|O4 x i n:=lw.trans .mod;have ez:aH (O4 x i n) i=gM n (Qs<|aH x i):=by rw[<-ew];exact fE (by rw[lw.len];exact C)
    have h2:Inv c m s B t K τ i b<|O4 x i n:=h2;generalize O4 x i n=z at *;have ad:i<z.2.2.2.2.2.2.1.length:=by rw[lz.len];exact C
    have⟨u,pd,p⟩:=p;have bb:(aH z i).1.2.1=(aH x i).1.2.1:=by rw[ez];exact n3
    have H:(aH z i).1.2.2.1.2.1=(aH x i).1.2.2.1.2.1:=by rw[ez];exact congrArg (λz:fB=>z.2.1) n4
    have a7:lh ((aH z i).1)=true:=by rw[ez];exact kZ.2 (by show 2<=n.2.1/\n.2.1<=4;rw[n3];exact kZ.1 a)
    have O:(aH z i).2.1=(aH x i).2.1/\(aH z i).2.2.2.2.2.2.2=false/\(aH z i).2.2.2.2.2.2.1=((aH x i).1.2.1==4):=by rw[ez];exact⟨rfl,f,rfl⟩
    -- what a node that goes on needs
    have go:∀{r:Net} {S:Nat} {T:Int} {y':Net} {b':Int},S<=K+9->Inv c m s B t S τ i b' r->Kp x r->aH r i=aH z i->3*c.M+c.tT x.2.2.2.2.1 (x.2.2.2.2.2.1.2.2+c.S)+(bif decide ((aH x i).1.2.1=4) then c.Qw i ((aH x i).2.1.1) (c.W*((aH x i).2.1.2.1%c.n)) ((aH z i).2.2.2.2.2.2.1) else c.Qx i ((aH x i).2.1.1))<=b'+2*c.M->r.2.2.2.2.2.1.2.2<=T->tc r (T,1,(i:Int),(aH r i).2.2.2.2.1) y'->Inv c m s B t (K+9) (τ+2) x.2.2.2.2.2.2.1.length 0 y':=λ{r S T y' b'} hK hr J er hb hT I=>by
     have T1:=o.tm (e:=x.2.2.2.2.1) (t:=x.2.2.2.2.2.1.2.2+c.S) (e':=r.2.2.2.2.1) (t':=r.2.2.2.2.2.1.2.2+c.S) J.e (by have:=J.w;omega);have Z:i<r.2.2.2.2.2.2.1.length:=by rw[J.len];exact C
     refine @wk _ S τ hK (by omega) (I.kp.len.trans J.len) ?_;have G:=hr.cp o Z I (by show ¬(1:Int)=3;decide) rfl rfl hT (λ_=>?_) λz' z1 z2=>?_
     .rw[I.kp.len];exact G
     .rw[er];refine .Jr _ a7 O.2.1 rfl (by rw[H,O.1];exact hp) ?_;rw[bb,O.1];omega
     .rw[er];refine .a_ a7 rfl ?_;have na:=o.na (i:=i) (st:=(aH x i).2.1.1) (om:=c.W*((aH x i).2.1.2.1%c.n)) (b:=(aH z i).2.2.2.2.2.2.1);cases k:decide ((aH x i).1.2.1=4)<;>rw[k] at hb<;>simp only[cond_true,cond_false] at hb<;>omega
    have base:3*c.M+c.tT x.2.2.2.2.1 (x.2.2.2.2.2.1.2.2+c.S)+(bif decide ((aH x i).1.2.1=4) then c.Qw i ((aH x i).2.1.1) (c.W*((aH x i).2.1.2.1%c.n)) ((aH z i).2.2.2.2.2.2.1) else c.Qx i ((aH x i).2.1.1))<=b:=by
     have a1:=o.a1 (i:=i) (b:=(aH z i).2.2.2.2.2.2.1) D om.1;have p1:=o.p1 (i:=i) (q:=(aH x i).1.2.2.1.2.1) D;cases k:decide ((aH x i).1.2.1=4)<;>rw[k] at d<;>simp only[cond_true,cond_false] at d ⊢ <;> omega
    have mx:∀(r:Net) (T:Int),r.2.2.2.2.2.1.2.2<=v8 r T:=λr T=>by unfold v8;split<;>omega
    rcases p with ⟨own,r,ps,p⟩|⟨_,p⟩
    .have a5:(aH x i).1.2.2.1.2.1=(i:Int):=by rw[<-H];exact own
     have X:(dV (jF z (),10,(i:Int),(aH z i).1.2.2.1)).2=false:=by
      refine al9 ?_ ?_ rfl ?_
      .show ∀f∈z.2.2.1.2.2.2.2.2.2.2,_;rw[h2.es];exact λf hf=>(Bm<|E.fm f hf).2.2
      .show(z.2.2.1).2.2.2.2.2.2.2.length<=_;rw[h2.es];exact E.fl
      .show(i:Int)=(aH z i).1.2.2.1.2.1;rw[H,a5]
     have pe:pM z u 6 1:=pd.2 X;have W:=h2.Zg o ad pe;have N:Kp x u:=lz.trans pe.kp;have F:i<u.2.2.2.2.2.2.1.length:=by rw[N.len];exact C
     have V:aH u i=aH z i:=pe.aH i;have A:=W.nd i F;have ou:dp m (aH u i).1=0:=A.zM;have v:(rH m (aH u i).1).2.2.2=0:=af0 ou (by rw[V];exact a7) (by rw[A.id,V];exact(H.trans a5));unfold Spk at ps;rw[W.em] at ps;dsimp only at ps;rcases ps with ⟨k,_⟩|⟨_,w,pw,I⟩
     .exact absurd v k
     have st:=arC v;have p3:=o.p3 (i:=i) (t:=x.2.2.2.2.2.1.2.2) D sx;rw[a5] at vp;have T1:=o.tm (e:=x.2.2.2.2.1) (t:=x.2.2.2.2.2.1.2.2+c.S) (e':=u.2.2.2.2.1) (t':=u.2.2.2.2.2.1.2.2+c.S) N.e (by have:=N.w;omega);have b5:Cv m i τ<|gM (rH m (aH u i).1).1<|aH u i:=⟨abn ou v,(ain v).trans A.id,A.t,A.c,A.l,A.d⟩;have lo:Kp u<|cO u<|bA u.2.2.2.2.2.2.1 i<|gM (rH m (aH u i).1).1:=.mod;have eo:aH (cO u<|bA u.2.2.2.2.2.2.1 i<|gM (rH m (aH u i).1).1) i=gM (rH m (aH u i).1).1 (aH u i):=fE F;rcases pw with ⟨s1,pl⟩|⟨s1,rfl⟩
     .-- it listens
      have no:lh (rH m (aH u i).1).1=false:=by
       cases k:lh (rH m (aH u i).1).1
       .rfl
       .have:=kZ.1 k;omega
      rcases I with ⟨o1,rfl⟩|⟨o1,_⟩
      .rcases p with ⟨_,rfl⟩|⟨k,_⟩
       .unfold Lst at pl;rw[eo,show(cO u<|bA u.2.2.2.2.2.2.1 i<|gM (rH m (aH u i).1).1).2.1=m from W.em] at pl;have ee:cO (cO u<|bA u.2.2.2.2.2.2.1 i<|gM (rH m (aH u i).1).1) (bA (cO u<|bA u.2.2.2.2.2.2.1 i<|gM (rH m (aH u i).1).1).2.2.2.2.2.2.1 i<|rG u.2.2.2.2.2.1.2.2)=cO u (bA u.2.2.2.2.2.2.1 i λy=>rG u.2.2.2.2.2.1.2.2<|gM (rH m (aH u i).1).1 y):=congrArg (cO u)<|mod_mod F;have pl:tc (cO u<|bA u.2.2.2.2.2.2.1 i λy=>rG u.2.2.2.2.2.1.2.2<|gM (rH m (aH u i).1).1 y) (u.2.2.2.2.2.1.2.2+m.2.1,2,(i:Int),(aH u i).2.2.2.2.1+1) y:=by rw[<-ee];exact pl
        have a9:c.VL i u.2.2.2.2.2.1.2.2=c.VL i x.2.2.2.2.2.1.2.2:=by rw[N.w]
        have G:=W.xh E (f:=λy=>rG u.2.2.2.2.2.1.2.2<|gM (rH m (aH u i).1).1 y) F (n:=(rH m (aH u i).1).1) (by
         show(_,_,_,u.2.2.2.2.2.1.2.2,(aH u i).2.2.2.2.1+1,_)=(_,_,_,u.2.2.2.2.2.1.2.2,(aH u i).2.2.2.2.1+1-1+1,_);rw[Int.sub_add_cancel];try rfl) (abn ou v) ((ain v).trans A.id) s1 (by show(aH u i).2.2.2.2.2.2.2=false;rw[V];exact O.2.1) ⟨by show(aH u i).2.2.2.2.1<=(aH u i).2.2.2.2.1+1;omega,by show(aH u i).2.2.2.2.1+1<=(aH u i).2.2.2.2.1+2;omega⟩ (by rw[a9];omega) pl
        refine @wk _ (K+6) (τ+2) (by omega) (by omega) (pl.kp.len.trans<|Kp.mod.len.trans N.len) ?_;rw[pl.kp.len.trans Kp.mod.len];exact G
       .rw[no] at k;cases k
      .exact absurd (st.1 o1).1 (by omega)
     .have h4:=W.mod (f:=gM (rH m (aH u i).1).1) F (aj _) b5<|aj _;have ac:i<(cO u<|bA u.2.2.2.2.2.2.1 i<|gM (rH m (aH u i).1).1).2.2.2.2.2.2.1.length:=by rw[lo.len];exact F
      rcases I with ⟨o1,rfl⟩|⟨o1,o2,I⟩
      .-- it stops
       have s5:=(st.2 o1).resolve_left s1;have no:lh (rH m (aH u i).1).1=false:=by
        cases k:lh (rH m (aH u i).1).1
        .rfl
        .have:=kZ.1 k;omega
       rcases p with ⟨_,rfl⟩|⟨k,_⟩
       .have a9:c.VL i u.2.2.2.2.2.1.2.2=c.VL i x.2.2.2.2.2.1.2.2:=by rw[N.w]
        exact wk (by omega) (by omega) (lo.len.trans N.len)<|h4.cl o ac<|.off (.inr (by rw[eo];exact s5)) rfl (by show c.VL i u.2.2.2.2.2.1.2.2+c.tT u.2.2.2.2.1 (u.2.2.2.2.2.1.2.2+c.S)<=_;omega)
       .rw[no] at k;cases k
      .-- it sends
       have h5:=h4.Zg o ac I;rcases p with ⟨k,_⟩|⟨_,p⟩
       .rw[o2] at k;cases k
       .have J:Kp x r.1:=(N.trans lo).trans I.kp;have Z:i<r.1.2.2.2.2.2.2.1.length:=by rw[J.len];exact C
        have er:aH r.1 i=gM (rH m (aH u i).1).1 (aH u i):=(I.aH i).trans eo;have T2:=o.tm (e:=x.2.2.2.2.1) (t:=x.2.2.2.2.2.1.2.2+c.S) (e':=r.1.2.2.2.2.1) (t':=r.1.2.2.2.2.2.1.2.2+c.S) J.e (by have:=J.w;omega);have p5:=o.p5 (i:=i) D om;have a1:=o.a1 (i:=i) (b:=(aH u i).2.2.2.2.2.2.1) D om.1;have b9:=(st.1 o1).1;have ae:lh (rH m (aH u i).1).1=true:=kZ.2 (by omega);have val:3*c.M+c.Qw i ((aH x i).2.1.1) (c.W*((aH x i).2.1.2.1%c.n)) ((aH u i).2.2.2.2.2.2.1)+c.tT x.2.2.2.2.1 (x.2.2.2.2.2.1.2.2+c.S)<=b:=by
         by_cases k:(aH x i).1.2.1=4
         .rw[cr k,cond_true] at d;omega
         .have:(aH u i).2.2.2.2.2.2.1=false:=by rw[V,O.2.2];exact beq_false_of_ne k
          rw[this];omega
        have na:=o.na (i:=i) (st:=(aH x i).2.1.1) (om:=c.W*((aH x i).2.1.2.1%c.n)) (b:=(aH u i).2.2.2.2.2.2.1);refine @wk _ (K+6+3) τ (by omega) (by omega) (p.kp.len.trans J.len) ?_;have G:=h5.cp o Z p (by show ¬(1:Int)=3;decide) rfl rfl (mx _ _) (λ_=>?_) λz' z1 z2=>?_
        .rw[p.kp.len];exact G
        .rw[er];refine .Jr _ ae (by show(aH u i).2.2.2.2.2.2.2=false;rw[V];exact O.2.1) rfl ?_ ?_
         .show(rH m (aH u i).1).1.2.2.1.2.1=(aH u i).2.1.2.1%c.n;rw[(st.1 o1).2,V,O.1,H];exact hp
         .show(bif decide ((rH m (aH u i).1).1.2.1=4) then c.Qw i (aH u i).2.1.1 (c.W*((aH u i).2.1.2.1%c.n)) ((aH u i).2.2.2.2.2.2.1) else _)+_<=_;rw[cr b9,cond_true,show(aH u i).2.1=(aH x i).2.1 from(congrArg (λz:cN=>z.2.1) V).trans O.1];omega
        .rw[er];exact .a_ ae rfl (by omega)
    .have pe:pM z u 6 2:=pd.1;have W:=h2.Zg o ad pe;exact go (by omega) W (lz.trans pe.kp) (pe.aH i) (by omega) (mx _ _) p
theorem Inv.Ju(v:i<x.2.2.2.2.2.2.1.length)(he:e.2.1=2)(hw:e.1=x.2.2.2.2.2.1.2.2)(hv:zt c i x.2.2.2.2.2.1.2.2 x.2.2.2.2.1 (aH x i) [e] b)(p:Tck x i y):Inv c m s B t (K+3) (τ+2) x.2.2.2.2.2.2.1.length 0 y:=by
 have n:=E.ok;have j:=h.nd i v;have a0:=E.S;have Z:=E.D;have hn:=E.n;have hm:=w7 E.ml;have hD:=n.D;have nw:=n.nw;cases hv with
 | a_ a q d=>cases q
 | beg t a e q s u p d=>simp_all
 | Jr t a f q p d=>simp_all
 | xh a e s q u d=>cases q
 | off a q d=>cases q
 | pow t a e q d=>simp_all
 | Ju t a f S q u d=>
   injection q with q _;have I:t=x.2.2.2.2.2.1.2.2:=by simp_all
   subst I;have M0:=n.nn (i:=i) (e:=x.2.2.2.2.1) (t:=x.2.2.2.2.2.1.2.2);have mx:∀(r:Net) (T:Int),r.2.2.2.2.2.1.2.2<=v8 r T:=λr T=>by unfold v8;omega
   unfold Tck at p;rw[h.em] at p;rcases p with ⟨k,_⟩|⟨g,⟨G,o,hd,p⟩|⟨G,w,O,p⟩⟩
   .exact absurd (adx j.zM a) k
   .have A:=(adz g).2.1 G;have N:Cv m i τ<|IZ (iL m (aH x i).1).1<|aH x i:=⟨Vk j.zM g,(ady g).trans j.id,j.t,j.c,j.l,j.d⟩;have H:=h.mod (f:=IZ (iL m (aH x i).1).1) v (aj _) N<|aj _;have C:aH (cO x<|bA x.2.2.2.2.2.2.1 i<|IZ (iL m (aH x i).1).1) i=IZ (iL m (aH x i).1).1 (aH x i):=fE v;have l1:(cO x<|bA x.2.2.2.2.2.2.1 i<|IZ (iL m (aH x i).1).1).2.2.2.2.2.2.1.length=x.2.2.2.2.2.2.1.length:=bO;have W:v8 x (x.2.2.2.2.2.1.2.2+(m.2.1+o))=x.2.2.2.2.2.1.2.2+(c.S+o):=by unfold v8;omega
    rw[W] at p;have l:=H.cp n (by omega) p (by grind) rfl (by rw[C];rfl) (by show x.2.2.2.2.2.1.2.2<=x.2.2.2.2.2.1.2.2+(c.S+o);omega) (λq=>?_) λz z1 V=>?_
    .rw[l1] at l;exact l.weak (by omega) (by omega)<|aj _
    .rw[C];have l3:=n.l3 (t:=x.2.2.2.2.2.1.2.2) (d:=o) (by omega) (e:=x.2.2.2.2.1) q;refine .Ju _ A f S rfl (by show x.2.2.2.2.2.1.2.2+(c.S+o)<=x.2.2.2.2.2.1.2.2+_+_;omega) ?_;show c.VL i ((aH x i).2.2.2.1)+c.tT x.2.2.2.2.1 (x.2.2.2.2.2.1.2.2+(c.S+o))<=_;omega
    .rw[C];refine .xh A f S rfl (by have V:z<=x.2.2.2.2.2.1.2.2+(c.S+o):=V;show z<=x.2.2.2.2.2.1.2.2+_+_;omega) ?_;show c.VL i ((aH x i).2.2.2.1)<=_;omega
   .have A:=(adz g).2.2 G;have N:Cv m i (τ+2)<|za (iL m (aH x i).1).1 (x.2.2.2.2.2.1.2.2,(i:Int),[])<|aH x i:=⟨Vk j.zM g,(ady g).trans j.id,⟨by show 0<=(aH x i).2.2.2.2.1+1;have:=j.t;omega,by show(aH x i).2.2.2.2.1+1<=_;have:=j.t;omega⟩,⟨h.now.1,by show x.2.2.2.2.2.1.2.2<=_;have:=h.now.2;have:=E.E;omega⟩,by show 0<=(i:Int);omega,by show([]:List Int).length<=8;decide⟩;have H:=h.mod (f:=za (iL m (aH x i).1).1 (x.2.2.2.2.2.1.2.2,(i:Int),[])) v (by omega) N (by show(aH x i).2.2.2.2.1<=(aH x i).2.2.2.2.1+1;omega);have C:aH (cO x<|bA x.2.2.2.2.2.2.1 i<|za (iL m (aH x i).1).1 (x.2.2.2.2.2.1.2.2,(i:Int),[])) i=za (iL m (aH x i).1).1 (x.2.2.2.2.2.1.2.2,(i:Int),[]) (aH x i):=fE v;have l1:Kp x<|cO x<|bA x.2.2.2.2.2.2.1 i<|za (iL m (aH x i).1).1 (x.2.2.2.2.2.1.2.2,(i:Int),[]):=.mod;have X:=H.Zg n (by rw[l1.len];exact v) O;have kw:=l1.trans O.kp;have F:aH w i=za (iL m (aH x i).1).1 (x.2.2.2.2.2.1.2.2,(i:Int),[]) (aH x i):=(O.aH i).trans C;have J:i<w.2.2.2.2.2.2.1.length:=by rw[kw.len];exact v
    have l2:=n.l2 (i:=i) S;have T1:=n.tm (e:=x.2.2.2.2.1) (t:=x.2.2.2.2.2.1.2.2) (e':=w.2.2.2.2.1) (t':=w.2.2.2.2.2.1.2.2+c.S) kw.e (by have:=kw.w;omega);have na:=n.na (i:=i) (st:=x.2.2.2.2.2.1.2.2) (om:=0) (b:=false);have D:lh (iL m (aH x i).1).1=true:=kZ.2 (by rw[A.1];decide);have l:=X.cp n J p (by show ¬(1:Int)=3;decide) rfl (by rw[F];rfl) (mx _ _) (λq=>?_) λz z1 V=>?_
    .rw[kw.len] at l;exact l
    .rw[F];refine .Jr _ D f rfl ?_ ?_
     .show(iL m (aH x i).1).1.2.2.1.2.1=(i:Int)%c.n;rw[A.2,j.id,nH (by omega) (by have:=h.en;omega)]
     .show(bif decide ((iL m (aH x i).1).1.2.1=4) then _ else c.Qx i x.2.2.2.2.2.1.2.2)+_<=_;rw[A.1,show decide ((2:Int)=4)=false from rfl,cond_false];omega
    .rw[F];exact .a_ D rfl (by omega)
theorem Inv.pow(j:i<x.2.2.2.2.2.2.1.length)(F:e.2.1=5)(C:zt c i x.2.2.2.2.2.1.2.2 x.2.2.2.2.1 (aH x i) [e] b)(p:Pwr x i true y):Inv c m s B t K (τ+2) x.2.2.2.2.2.2.1.length 0 y:=by
 have o:=E.ok;have l:=h.nd i j;cases C with
 | a_ a q d=>cases q
 | beg t a e q s u p d=>simp_all
 | Jr t a f q p d=>simp_all
 | xh a e s q u d=>cases q
 | Ju t a f G q u d=>simp_all
 | off a q d=>cases q
 | pow t a f q d=>
   have D:=o.nn (i:=i) (e:=x.e) (t:=x.f.2.2);rcases p with ⟨_,rfl⟩|⟨g,⟨k,_⟩|⟨_,p⟩⟩
   .exact(h.cl o j<|.off (.inl a) rfl<|by omega).weak (ai _) (by omega) (aj _)
   .cases k
   .rw[h.em] at g p;have z:(cO x<|bA x.g i<|o4 (jG m (aH x i).1 true).1).2.1=m:=h.em;have A:aH (cO x<|bA x.g i<|o4 (jG m (aH x i).1 true).1) i=o4 (jG m (aH x i).1 true).1 (aH x i):=fE j;unfold Lst at p;rw[A,z] at p;have v:cO (cO x<|bA x.g i<|o4 (jG m (aH x i).1 true).1) (bA (cO x<|bA x.g i<|o4 (jG m (aH x i).1 true).1).g i<|rG x.f.2.2)=cO x (bA x.g i λy=>rG x.f.2.2<|o4 (jG m (aH x i).1 true).1 y):=congrArg (cO x)<|mod_mod j;have p:tc (cO x<|bA x.g i λy=>rG x.f.2.2<|o4 (jG m (aH x i).1 true).1 y) (x.f.2.2+m.2.1,2,(i:Int),(aH x i).e+1+1) y:=by rw[<-v];exact p
    exact h.xh E (f:=λy=>rG x.f.2.2<|o4 (jG m (aH x i).1 true).1 y) j (n:=(jG m (aH x i).1 true).1) (by
     show(_,_,_,x.f.2.2,(aH x i).e+1+1,_)=(_,_,_,x.f.2.2,(aH x i).e+1+1-1+1,_);rw[Int.sub_add_cancel];try rfl) (BU l.zM g) ((ME g).trans l.id) ((RA g).1 rfl).2 rfl ⟨by show(aH x i).e<=(aH x i).e+1+1;omega,by show(aH x i).e+1+1<=(aH x i).e+2;omega⟩ (by omega) p
end
section
variable {c:Mc} {m:aA} {s:gH} {B t K:Nat} (E:Env c m s)
include E
theorem Inv.sn1{b:Int}{ex k:Nat}{sa:tg}(h:Inv c m s B t K τ ex b x)(W:¬ex<x.2.2.2.2.2.2.1.length)(F:k<x.2.2.2.2.2.2.1.length)(p:Sn1 sa k x y):Inv c m s B t K (τ+1) ex b y/\Kp x y:=by
 have o:=E.ok;have n:=h.nd k F;have hn:=E.n;have hG:=E.G;have hL:=E.L;have hm:=w7 E.ml;have C:k≠ex:=by omega
 have mx:∀(r:Net) (T:Int),r.2.2.2.2.2.1.2.2<=v8 r T:=λr T=>by unfold v8;omega
 rcases p with rfl|⟨a1,a2,l,V,g,p⟩
 .exact⟨h.weak (ai _) (by omega)<|aj _,.id⟩
 rw[h.em] at g p;have S:=amf g;rcases p with ⟨G,rfl⟩|⟨G,p⟩
 .have I:Cv m k τ<|gM (my m (aH x k).1 l true).1<|aH x k:=⟨Uo n.zM g,(aas g).trans n.id,n.t,n.c,n.l,n.d⟩;have O:=S.2.1 G;have q:¬(2<=(aH x k).1.2.1/\(aH x k).1.2.1<=4):=by omega
  refine⟨(h.oth (f:=gM (my m (aH x k).1 l true).1) (d:=0) (aj _) (.inr rfl) F C (aj _) I (aj _) o λv J=>?_).weak (ai _) (by omega)<|by omega,.mod⟩;rw[Int.add_zero];cases J with
  | a_ a b d=>exact absurd (kZ.1 a) q
  | beg t a e b s u p d=>exact absurd (kZ.1 a) q
  | Jr t a e b p d=>exact absurd (kZ.1 a) q
  | xh a e s b u d=>exact .xh O e s b u d
  | Ju t a e s b u d=>exact .Ju t O e s b u d
  | off a b d=>omega
  | pow t a e b d=>omega
 .have⟨s3,v,H,v1,v2⟩:=S.2.2 G;rcases p with rfl|⟨j,p⟩
  .exact⟨h.weak (ai _) (by omega)<|aj _,.id⟩
  rw[h.em] at j p;have⟨j1,j2,N,Z,j5⟩:=YR j;rw[Z] at p;have D:=(A7 (w:=m.2.2.2.1)<|by omega).1 j5;have X:v.1=2:=by
   simp[Db,fZ,uR] at v2;omega
  have v3:=(V v H X).1;have A:lh (my m (aH x k).1 l true).1=true:=kZ.2 (by omega);have I:Cv m k (τ+1)<|jnY (my m (aH x k).1 l true).1 ((my m (aH x k).1 l true).2.1-(m.2.2.1+m.2.2.2.2.2.1),(my m (aH x k).1 l true).1.2.2.1.2.1,[])<|aH x k:=⟨Uo n.zM g,(aas g).trans n.id,⟨by show 0<=(aH x k).2.2.2.2.1+1;have:=n.t;omega,by show(aH x k).2.2.2.2.1+1<=_;have:=n.t;omega⟩,⟨D.1.1,bP D.1.2<|by decide⟩,N.1,by show([]:List Int).length<=8;decide⟩;have q:¬(2<=(aH x k).1.2.1/\(aH x k).1.2.1<=4):=by omega
  have l1:=o.l1 (i:=k) (t:=(aH x k).2.2.2.1) (st:=(my m (aH x k).1 l true).2.1-(m.2.2.1+m.2.2.2.2.2.1)) (by omega);have na:=o.na (i:=k) (st:=(my m (aH x k).1 l true).2.1-(m.2.2.1+m.2.2.2.2.2.1)) (om:=0) (b:=false);have M0:=o.nn (i:=k) (e:=x.2.2.2.2.1) (t:=x.2.2.2.2.2.1.2.2+c.S);refine⟨(h.mp (d:=0) (aj _) (.inr rfl) F C (by omega) I (by show(aH x k).2.2.2.2.1<=(aH x k).2.2.2.2.1+1;omega) (h.none F (by show(aH x k).2.2.2.2.1<(aH x k).2.2.2.2.1+1;omega)) o p (by grind) rfl rfl (mx _ _) λv J=>?_).weak (ai _) (aj _)<|by omega,Kp.mod.trans p.kp⟩;have H:c.VL k ((aH x k).2.2.2.1)+c.tT x.2.2.2.2.1 (x.2.2.2.2.2.1.2.2+c.S)<=v+(c.n+1)*c.D/\(aH x k).2.2.2.2.2.2.2=false:=by
   cases J with
   | a_ a b d=>exact absurd (kZ.1 a) q
   | beg t a e b s u p d=>exact absurd (kZ.1 a) q
   | Jr t a e b p d=>exact absurd (kZ.1 a) q
   | xh a e s b u d=>have:=o.t0 (e:=x.2.2.2.2.1) (t:=x.2.2.2.2.2.1.2.2) u;grind
   | Ju t a e s b u d=>have:=o.td (e:=x.2.2.2.2.1) (t:=x.2.2.2.2.2.1.2.2) u;exact⟨by omega,e⟩
   | off a b d=>omega
   | pow t a e b d=>omega
  refine⟨λ_=>.Jr _ A H.2 rfl ?_ ?_,λz _ _=>.a_ A rfl<|by omega⟩
  .show(my m (aH x k).1 l true).1.2.2.1.2.1=(my m (aH x k).1 l true).1.2.2.1.2.1%c.n;rw[nH N.1<|by omega]
  .show(bif decide ((my m (aH x k).1 l true).1.2.1=4) then _ else c.Qx k ((my m (aH x k).1 l true).2.1-(m.2.2.1+m.2.2.2.2.2.1)))+_<=_;rw[s3,show decide ((3:Int)=4)=false from rfl,cond_false];omega
theorem Inv.sns{j:tg}:∀{f k ex:Nat} {τ b:Int} {x y:Net},Inv c m s B t K τ ex b x->¬ex<x.2.2.2.2.2.2.1.length->k+f<=x.2.2.2.2.2.2.1.length->Yn j f k x y->Inv c m s B t K (τ+(f:Int)) ex b y/\Kp x y
 | 0,k,ex,τ,b,x,y,h,_,_,p=>by
   rw[show y=x from p];exact⟨h.weak (ai _) (by omega)<|aj _,.id⟩
 | f+1,k,ex,τ,b,x,y,h,he,hk,⟨z,p,q⟩=>by
   have⟨a,l1⟩:=h.sn1 E he (by omega) p;have⟨e,l2⟩:=Inv.sns (f:=f) (k:=k+1) a (by rw[l1.len];omega) (by rw[l1.len];omega) q;exact⟨e.weak (ai _) (by omega)<|aj _,l1.trans l2⟩
end
section
variable {c:Mc} {m:aA} {s:gH} {B t K:Nat} {τ:Int} {b:Int} {x:Net} (E:Env c m s) (h:Inv c m s B t K τ x.2.2.2.2.2.2.1.length b x)
include E h
theorem Inv.pop{l:List jr}(n:(e::l).Perm x.2.2.2.2.2.1.2.1)(S:Lk l)(V:∀z∈x.2.2.2.2.2.1.2.1,e.1<=z.1):
  ((e.2.1=3\/∀i,i<x.2.2.2.2.2.2.1.length->e.2.2.1=(i:Int)->e.2.2.2≠(aH x i).2.2.2.2.1)->Inv c m s B (t+1) K τ x.2.2.2.2.2.2.1.length b (sK x l e.1))/\
  ∀i,i<x.2.2.2.2.2.2.1.length->e.2.1≠3->e.2.2.1=(i:Int)->e.2.2.2=(aH x i).2.2.2.2.1->∃o,Inv c m s B (t+1) K τ i o (sK x l e.1)/\zt c i e.1 x.2.2.2.2.1 (aH x i) [e] o:=by
 have G:=E.ok;have C:∀z∈l,z∈x.2.2.2.2.2.1.2.1:=λz k=>n.mem_iff.1<|.tail _ k;have p:=h.hw e<|n.mem_iff.1<|.head _;have A:=n.length_eq;rw[bp] at A;have W:y9<|sK x l e.1:=⟨h.q.made,by have:=h.q.len;show l.length<=_;omega,S⟩;have F:(((x.2.2.2.2.2.1.2.1.length+t:Nat):Int))=((l.length+(t+1):Nat):Int):=by omega
 have⟨v,v1,D,v3⟩:=h.vs
 have f:∀(ex:Nat) (o:Int),(ex<x.2.2.2.2.2.2.1.length->lv l ex ((aH x ex).2.2.2.2.1)=[])->(∃v:Nat->Int,(ex<x.2.2.2.2.2.2.1.length->o<=v ex)/\(∀i,i<x.2.2.2.2.2.2.1.length->i≠ex->zt c i e.1 x.2.2.2.2.1 (aH x i) (lv l i<|(aH x i).2.2.2.2.1) (v i))/\Dz v x.2.2.2.2.2.2.1.length+c.M*((l.length+(t+1):Nat):Int)<=c.M*(B:Int))->Inv c m s B (t+1) K τ ex o (sK x l e.1):=λex o X Z=>
  ⟨W,h.mad,h.em,h.es,h.en,⟨bP h.now.1 p.1,p.2⟩,h.ee,λz k=>⟨V z<|C z k,(h.hw z<|C z k).2⟩,λz k=>h.h3 z<|C z k,λz k=>h.hi z<|C z k,h.ch,h.sn,h.nd,X,Z⟩
 refine⟨λk=>f _ _ (λq=>absurd q<|eZ _) ⟨v,λq=>absurd q<|eZ _,λi u _=>?_,by simp_all⟩,λi u I J N=>⟨v i,f i (v i) (λ_=>?_) ⟨v,λ_=>aj _,λj O H=>?_,by rw[<-F];exact v3⟩,?_⟩⟩
 .have:=sI (i:=i) (t:=(aH x i).2.2.2.2.1) n;rw[Mw λa=>k.elim (λq=>a.1 q) λq=>q i u a.2.1 a.2.2] at this;exact((D i u<|by omega).mono G p.1 (aj _)<|aj _).perm this
 .have q:=D i u (by omega);have:=sI (i:=i) (t:=(aH x i).2.2.2.2.1) n;rw[Mv I J N] at this;have l2:=this.length_eq;rw[bp] at l2;rcases q.short with q|⟨z,q⟩
  all_goals simp_all
 .have:=sI (i:=j) (t:=(aH x j).2.2.2.2.1) n;rw[Mw λa=>H (by have:=a.2.1;omega)] at this;exact((D j O<|by omega).mono G p.1 (aj _)<|aj _).perm this
 .have q:=D i u (by omega);have p2:=sI (i:=i) (t:=(aH x i).2.2.2.2.1) n;rw[Mv I J N] at p2;have l0:lv l i ((aH x i).2.2.2.2.1)=[]:=by
   have l2:=p2.length_eq;rw[bp] at l2;rcases q.short with q|⟨z,q⟩
   .rw[q] at l2;exact absurd l2 (by rw[tV];omega)
   .rw[q,bU] at l2;exact df.1 (by omega)
  rw[l0] at p2;exact(q.mono G p.1 (aj _)<|aj _).perm p2
def Inv.act{l:List jr}(J:(e::l).Perm x.2.2.2.2.2.1.2.1)(S:Lk l)(V:∀z∈x.2.2.2.2.2.1.2.1,e.1<=z.1)(p:Act e (sK x l e.1) y):Inv c m s B (t+1) (K+9) (τ+16) y.2.2.2.2.2.2.1.length 0 y:=by
 have hc:=E.ok;have⟨p1,p2⟩:=h.pop E J S V;have I:∀{A:Nat} {D:Int} {y:Net},Inv c m s B (t+1) A D x.2.2.2.2.2.2.1.length 0 y->A<=K+9->D<=τ+16->Inv c m s B (t+1) (K+9) (τ+16) y.2.2.2.2.2.2.1.length 0 y:=λ{A D y} g n G=>by
  have e:y.2.2.2.2.2.2.1.length=x.2.2.2.2.2.2.1.length:=by have:=g.en;have:=h.en;omega
  rw[e];exact g.weak n G<|aj _
 have any:∀{A:Nat} {D:Int} {y:Net},Inv c m s B (t+1) A D x.2.2.2.2.2.2.1.length b y->A<=K+9->D<=τ+16->Inv c m s B (t+1) (K+9) (τ+16) y.2.2.2.2.2.2.1.length 0 y:=λ{A D y} g n G=>by
  have e:y.2.2.2.2.2.2.1.length=x.2.2.2.2.2.2.1.length:=by have:=g.en;have:=h.en;omega
  have⟨v,v1,v2,v3⟩:=g.vs;refine @I _ _ y ⟨g.q,g.mad,g.em,g.es,g.en,g.now,g.ee,g.hw,g.h3,g.hi,g.ch,g.sn,g.nd,λq=>absurd q<|by omega,⟨v,λq=>absurd q<|by omega,λi o Z=>v2 i o Z,v3⟩⟩ n G
 have W:(x.2.2.2.2.2.2.1.length:Int)<=8:=by have:=h.en;have:=w7 E.ml;omega
 rcases p with ⟨k,p⟩|⟨k,⟨j,rfl⟩|⟨tt,nf,p⟩⟩
 .have⟨g,_⟩:=Inv.sns E (p1<|.inl k) (eZ _) (kK<|iy _) p;exact any (g.weak (ai _) (by show τ+(x.2.2.2.2.2.2.1.length:Int)<=τ+16;omega)<|aj _) (by omega) (by omega)
 .refine any (p1<|.inr λi o H N=>?_) (by omega) (by omega);have C:e.2.2.1.toNat=i:=by rw[H];rfl
  rw[C] at j;rcases j with j|j
  .exact j N.symm
  .have⟨O,g,F⟩:=p2 i o k H N;have j:(aH x i).2.2.2.2.2.2.2=true:=j;cases F with
   | a_ a q d=>cases q
   | beg t a e q s u p d=>rw[e] at j;cases j
   | Jr t a f q p d=>rw[f] at j;cases j
   | xh a e s q u d=>cases q
   | Ju t a f si q u d=>rw[f] at j;cases j
   | off a q d=>cases q
   | pow t a f q d=>rw[f] at j;cases j
 .have⟨i,H,o,_⟩:=h.hi e (J.mem_iff.1<|.head _) k;have C:e.2.2.1.toNat=i:=by rw[H];rfl
  rw[C] at tt p;have⟨O,g,F⟩:=p2 i o k H tt.symm;rcases p with ⟨n,p⟩|⟨n,p⟩|⟨n,p⟩|⟨n,G,X,p⟩
  .have q:=g.Jr E o n F p;exact I q (by omega) (by omega)
  .have q:=g.Ju E o n rfl F p;exact I q (by omega) (by omega)
  .have q:=g.pow E o n F p;exact I q (by omega) (by omega)
  .have q:=g.bgn E o ⟨n,G,X⟩ rfl F p;exact I q (by omega) (by omega)
end
def Vy{e x:Int}(h:e<=a):e<=vR e a x/\vR e a x<=a:=by
 unfold vR;rw[mZ,tX];omega
theorem BY{l:List Int}{n:Nat}{e f:Int}:(rowP l n e a f).length=n:=by
 unfold rowP
 grind
theorem UU{l:List Int}{n:Nat}{lo hi ms:Int}(h:lo<=hi)(e:lo<=ms/\ms<=hi):∀x∈rowP l n lo hi ms,lo<=x/\x<=hi:=λx a=>by
 rcases pP.1 a with a|a
 .obtain⟨y,_,rfl⟩:=dG.1 a;exact Vy h
 simp_all
theorem apf{b:Int}{x:Int×Bool}:b<=Co b x:=by
 unfold Co;cases decide (0<xc (tA (x.2,x.1),x.1))
 .simp_all
 .rw[cond_true,tX];omega
theorem GZ{α:Type}{f:Int->α->Int}(h:∀b x,b<=f b x):∀(l:List α) (b:Int),b<=l.foldl f b
 | [],_=>aj _
 | x::l,b=>bP (h b x)<|GZ h l<|f b x
def ae2:30<=jh m:=by
 exact bP (show(30:Int)<=mF (xc (1,0)) by decide +kernel)<|GZ (λb x=>GZ (λ_ _=>apf) _ b) _ _
def Ux(m:aA)(E:Int):Mc:=⟨m.1,m.2.1,m.2.2.1,m.2.2.2.1,m.2.2.2.2.1,m.2.2.2.2.2.1,E⟩
def aqH{E:Int}(h:dP m=true):y8<|Ux m E:=by
 have a:=w7 h;have e:=ae2 (m:=m);exact⟨by show m.1=4\/m.1=5\/m.1=6\/m.1=7\/m.1=8;omega,a.2.1,a.2.2.1,a.2.2.2.1.1,a.2.2.2.2.1.1,by show 2*m.2.2.1+30<=m.2.1;omega⟩
theorem YX{x:bK}:∀{a:bK},x∈rM a l->x∈l:=by
 induction l with
 | nil=>intro a h;cases h
 | cons b l ih=>
   intro a h;unfold rM at h
   grind
theorem Zx{f:bK}(h:f∈nC m l):ko (m,f)=true:=by
 unfold nC at h;cases k:decide<|jN m=0
 .simp_all
 .rw[k,cond_true] at h;have:f∈(l.filter λf=>ko (m,f)).mergeSort λa b=>!(iw b a):=by
   revert h;generalize (l.filter λf=>ko (m,f)).mergeSort (λa b=>!(iw b a))=L;intro h;cases L with
   | nil=>cases h
   | cons a L=>
     rcases aF.1 h with rfl|h
     .simp_all
     .exact .tail _<|YX h
  simp_all
def amR(h:0<=d/\d<=1048576):af.u .neg .i64 d = -d:=by
 show IntKind.i64.wrap (0-d)=_;rw[lZ (by omega)<|by omega];omega
def Zi{E:Int}(h:dP m=true)(a:0<=E/\E<=1000000000000):Env (Ux m E) m<|dL m s:=by
 have n:=w7 h;have j:((m.1.toNat:Nat):Int)=m.1:=by omega
 refine⟨h,aqH h,rfl,rfl,rfl,rfl,rfl,rfl,a,?_,λf e=>?_,?_,?_,?_,?_,?_⟩
 .show(List.take 256 _).length<=_;rw[dh];omega
 .exact Zx<|List.mem_of_mem_take e
 .show m.1<=((rowP _ _ _ _ _).length:Int);rw[BY];omega
 .show m.1<=((rowP _ _ _ _ _).length:Int);rw[BY];omega
 .show(rowP _ _ _ _ _).length<=_;rw[BY];omega
 .show ∀v∈rowP _ _ _ _ _,_;rw[amR<|by omega];exact UU (by omega) (by omega)
 .show(WU _).length<=_;have:∀l,(WU l).length=l.length:=λl=>qU;rw[this,arJ,dh];omega
theorem y8.vl(h:y8 c)(e:0<=c.E):c.VL i 0+c.tT c.E c.S<=Mc.k i*(c.n*(c.E+2*c.S))+(4*c.M+(c.n+1)*c.E):=by
 obtain⟨o,a,j,n,f,l⟩:=h;have kw:=c.kw i;simp[Mc.VL,Mc.M,Mc.bs,Mc.tT] at *
 grind
theorem acu{v:Nat->Int}{X Y:Int}(f:0<=X)(h:∀i,v i<=Mc.k i*X+Y):∀n:Nat,Dz v (n+1)<=(13*((n+1:Nat):Int)+4)*X+((n+1:Nat):Int)*Y
 | 0=>by
   have:=h 0;show 0+v 0<=17*X+1*Y;have e:Mc.k 0=17:=rfl
   simp_all
 | n+1=>by
   have a:=acu f h n;have b:=h<|n+1;have e:Mc.k (n+1)=13:=rfl;rw[Dz]
   grind
variable{N:Nat}
theorem y8.sum(h:y8 c)(o:(N:Int)=c.n)(f:0<=c.E):(c.E<=c.S*(18*c.n+1)+64*c.W->Dz (λi=>c.VL i 0+c.tT c.E c.S) N<=c.M*19999)/\(c.E<=c.S*(40*c.n+1)->Dz (λi=>c.VL i 0+c.tT c.E c.S) N<=c.M*40000):=by
 have u:0<=c.n*(c.E+2*c.S):=by
  obtain⟨a,e,l,q,j,p⟩:=h
  grind
 obtain⟨n,rfl⟩:∃n,N=n+1:=⟨N-1,by rcases h.n with h|h|h|h|h<;>omega⟩;have s:=acu u (λi=>h.vl (i:=i) f) n;rw[o] at s;obtain⟨a,e,l,q,j,p⟩:=h;obtain⟨n,S,G,W,D,L,E⟩:=c;simp only[Mc.M] at *;rcases a with rfl|rfl|rfl|rfl|rfl<;>constructor<;>intro v<;>omega
def ae3:Nat->(List Bool->Bool)->Bool
 | 0,p=>p []
 | n+1,p=>ae3 n (λl=>p<|true::l)&&ae3 n λl=>p<|false::l
theorem LC:∀{n:Nat} {p:List Bool->Bool} {l:List Bool},ae3 n p=true->l.length=n->p l=true
 | 0,p,l,h,hl=>by rw[df.1 hl];exact h
 | n+1,p,true::l,h,hl=>LC (p:=λl=>p<|true::l) ((fZ _ _).mp h).1<|Nat.succ.inj hl
 | n+1,p,false::l,h,hl=>LC (p:=λl=>p<|false::l) ((fZ _ _).mp h).2<|Nat.succ.inj hl
def ub:List Bool->Nat->Int->Int
 | [],_,s=>s
 | u::l,i,s=>ub l (i+1)<|bif u then af.b .or .i64 s (af.b .shl .i64 1 i) else s
def ait(l:List Bool):Bool:=decide (0<=ub l 0 0/\ub l 0 0<=af.b .shl .i64 1 (l.length:Int)-1)&&(List.range l.length).all λi=>!l.getD i false||rv (ub l 0 0) i
theorem Si{l:List Bool}(h:4<=l.length/\l.length<=8):ait l=true:=by
 have a:∀n:Fin 5,ae3 (n.val+4) ait=true:=by decide +kernel
 exact LC (a ⟨l.length-4,by omega⟩) (by simp_all)
structure Bas(m:aA)(s:gH)(K:Nat)(τ:Int)(x:Net):Prop where
 q:y9 x
 em:x.2.1=m
 es:x.2.2.1=s
 en:(x.2.2.2.2.2.2.1.length:Int)=m.1
 now:0<=x.2.2.2.2.2.1.2.2/\x.2.2.2.2.2.1.2.2<=1000000000000
 ch:x.2.2.2.2.2.2.2.1.length<=K/\x.2.2.2.2.2.2.2.2.1.length<=K/\x.2.2.2.2.2.2.2.2.2.1.length<=K
 sn:x.2.2.2.2.2.2.2.2.2.2.length<=K
 nd:∀i,i<x.2.2.2.2.2.2.1.length->Cv m i τ (aH x i)
def UD(h:dp m n=0):afb n=true:=by
 have a:=dw h;have b:=(fS.1 a.2).f;have e:=w7 a.1;exact cr ⟨by omega,by omega⟩
section
variable {c:Mc} {m:aA} {s:gH} {K:Nat} {τ:Int} {x:Net} (E:Env c m s) (h:Bas m s K τ x) (hK:K<=800000) (hτ:τ<=800000000000)
include E h hK hτ
def Bas.snd(e:i<x.2.2.2.2.2.2.1.length):zu x i K:=by
 have _:=hτ;have a:=h.es;have f:=w7 E.ml;have en:=h.en;refine⟨by omega,h.q,e,?_,?_,h.ch,by rw[h.em];exact E.ml,by omega,by rw[h.em,a];exact E.fm⟩
 .rw[a];exact E.fl
 .rw[a];have:=E.gd;have:=h.en;omega
def Bas.evi(O:i<x.2.2.2.2.2.2.1.length):Evi x i K:=by
 have en:=h.en;have hm:=w7 E.ml;have N:=h.nd i O;have ag:=h.now;have X:=h.sn;have gt:=E.gt;refine⟨h.snd E hK hτ O,by rw[h.em];exact E.ml,by omega,by omega,by rw[h.es];omega,N.d,λj hj=>by have:=(h.nd j hj).t;omega,λy z py pz=>?_⟩;have V:y9 y/\y.2.1=m/\y.2.2.1=s/\y.2.2.2.2.2.2.1.length=x.2.2.2.2.2.2.1.length/\y.2.2.2.2.2.2.2.2.2.2.length<=K/\dp m (aH y i).1=0:=by
  rcases py with rfl|⟨l,cl,g,_,rfl⟩
  .exact⟨h.q,h.em,h.es,rfl,X,N.zM⟩
  .rw[h.em] at g ⊢;exact⟨⟨h.q.made,h.q.len,h.q.heap⟩,h.em,h.es,bO,X,by rw[fE O];exact UI N.zM g⟩
 have⟨S,k2,k3,k4,k5,k6⟩:=V;have hy:i<y.2.2.2.2.2.2.1.length:=by omega
 have C:∀(f k:Nat) (u w:Net),y9 u/\u.2.1=m/\u.2.2.1=s/\u.2.2.2.2.2.2.1.length=x.2.2.2.2.2.2.1.length/\u.2.2.2.2.2.2.2.2.2.2.length<=K/\dp m (aH u i).1=0->W_ f k u w->y9 w/\w.2.1=m/\w.2.2.1=s/\w.2.2.2.2.2.2.1.length=x.2.2.2.2.2.2.1.length/\w.2.2.2.2.2.2.2.2.2.2.length<=K/\dp m (aH w i).1=0:=by
  intro f
  induction f with
  | zero=>intro k u w a p;rw[show w=u from p];exact a
  | succ f ih=>
    intro k u w a p;have⟨v,p,q⟩:=p;refine ih (k+1) v w ?_ q;have⟨a1,a2,D,F,G,H⟩:=a;rcases p with rfl|⟨on,_,_,p⟩
    .exact⟨a1,a2,D,F,G,H⟩
    have hu:i<u.2.2.2.2.2.2.1.length:=by omega
    have o:∀n,(jG m (aH u k).1 on).2=0->n=(jG m (aH u k).1 on).1->dp m (aH (cO u<|bA u.2.2.2.2.2.2.1 k<|o4 n) i).1=0:=λn g e=>by
     by_cases A:i=k
     .subst A;rw[fE hu,e];exact BU H g
     .rw[ij A];omega
    rcases p with ⟨_,rfl⟩|⟨g,⟨_,rfl⟩|⟨_,p⟩⟩
    .exact⟨a1,a2,D,F,G,H⟩
    .rw[a2] at g ⊢;exact⟨⟨a1.made,a1.len,a1.heap⟩,a2,D,bO.trans F,G,o _ g rfl⟩
    .rw[a2] at g p;have sm:=tc.same p;have⟨s1,s2,s3,s4,s5,s6,s7,s8,s9⟩:=sm;refine⟨⟨s5.trans a1.made,s8,s9⟩,s2.trans a2,s3.trans D,?_,?_,?_⟩
     .rw[s1];exact bO.trans<|bO.trans F
     .rw[show v.2.2.2.2.2.2.2.2.2.2=u.2.2.2.2.2.2.2.2.2.2 from congrArg (λz:List fC×List fC×List tg×List eX=>z.2.2.2) s7];omega
     .rw[tc.aH p];by_cases A:i=k
      .subst A;rw[fE (by show i<(bA _ _ _).length;rw[bO];omega)];exact o _ g rfl
      .rw[ij A];exact o _ g rfl
 have J:y9 z/\z.2.1=m/\z.2.2.1=s/\z.2.2.2.2.2.2.1.length=x.2.2.2.2.2.2.1.length/\z.2.2.2.2.2.2.2.2.2.2.length<=K/\dp m (aH z i).1=0:=by
  have Z:y9 (cO y<|bA y.2.2.2.2.2.2.1 i ze)/\y.2.1=m/\y.2.2.1=s/\(cO y<|bA y.2.2.2.2.2.2.1 i ze).2.2.2.2.2.2.1.length=x.2.2.2.2.2.2.1.length/\y.2.2.2.2.2.2.2.2.2.2.length<=K/\dp m (aH (cO y<|bA y.2.2.2.2.2.2.1 i ze) i).1=0:=⟨⟨S.made,S.len,S.heap⟩,k2,k3,bO.trans k4,k5,by rw[fE hy,aab];omega⟩;rcases pz with rfl|⟨_,_,p⟩
  .exact Z
  .exact C _ 0 _ z Z p
 have⟨f1,I,W,f4,f5,f6⟩:=J;refine⟨f1,by rw[I];exact E.ml,by omega,?_,?_,by omega,λn g e=>?_⟩
 .rw[I,W];exact E.dd
 .rw[W];exact E.dl
 .rw[I] at g e;rw[e];exact UD<|E7 f6 g
def Bas.tki(a:i<x.2.2.2.2.2.2.1.length):Tki x i K:=by
 have e:=h.nd i a;have f:=h.now;refine⟨h.snd E hK hτ a,by omega,by rw[h.em];exact E.ml,by omega,by have:=e.t;omega,?_,?_⟩
 .rw[h.em,h.es];exact E.dd
 .rw[h.es];exact E.dl
def Bas.bgi(a:i<x.2.2.2.2.2.2.1.length)(p:(aH x i).2.1.1<=1000000000000):Bgi x i K:=by
 have l:=h.nd i a;have q:=h.now;refine⟨h.q,a,by rw[h.es];exact E.fl,by rw[h.es];exact E.op,by rw[h.em];exact E.ml,by omega,by have:=l.t;omega,λn _=>?_⟩;have o:i<(zn x i).2.2.2.2.2.2.1.length:=by show i<(bA _ _ _).length;rw[bO];exact a
 have e:aH (O4 x i n) i=gM n (Qs<|aH x i):=(fE o).trans<|congrArg (gM n)<|fE a;refine⟨((h.snd E hK hτ a).mod (j:=i) (f:=Qs)).mod (j:=i) (f:=gM n),by omega,by show dP x.2.1=true;rw[h.em];exact E.ml,by show 0<=x.2.2.2.2.2.1.2.2/\x.2.2.2.2.2.1.2.2<=_;omega,?_,?_,by show(x.2.2.1).2.2.2.2.2.2.1.length<=_;rw[h.es];exact E.op⟩
 .rw[e];have:=l.t;show 0<=(aH x i).2.2.2.2.1/\(aH x i).2.2.2.2.1<=_;omega
 .rw[e];exact⟨l.c.1,p⟩
end
section
variable {c:Mc} {m:aA} {s:gH} {B t K:Nat} {τ:Int} {b:Int} {x:Net} (E:Env c m s) (h:Inv c m s B t K τ x.2.2.2.2.2.2.1.length b x)
include E h
def Inv.tb:x.2.2.2.2.2.1.2.1.length+t<=B:=by
 have⟨v,_,l,u⟩:=h.vs;have e:0<c.M:=by
  have j:=E.ok.n;have o:=E.ok.S;have n:=E.ok.nw.2.2;have:0<c.n*c.S:=Int.mul_pos (by omega) (by omega);exact this
 have j:=E.n;have p:=w7 E.ml;have q:0<=Dz v x.2.2.2.2.2.2.1.length:=acv λi f=>(l i f<|by omega).nn E.ok<|jY _ (by omega);have:=Int.le_of_mul_le_mul_left (a:=c.M) (b:=((x.2.2.2.2.2.1.2.1.length+t:Nat):Int)) (c:=(B:Int)) (by omega) e;omega
def Inv.aci{l:List jr}(hK:K<=800000)(hτ:τ<=800000000000)(A:(e::l).Perm x.2.2.2.2.2.1.2.1)(C:Lk l)(v:∀z∈x.2.2.2.2.2.1.2.1,e.1<=z.1):Aci e (sK x l e.1) K:=by
 have O:=h.hw e<|A.mem_iff.1<|.head _;have V:=w7 E.ml;have en:=h.en;have F:=E.E;have o:=A.length_eq;rw[bp] at o;have X:=h.now;have n:Bas m s K τ<|sK x l e.1:=⟨⟨h.q.made,by have:=h.q.len;show l.length<=_;omega,C⟩,h.em,h.es,h.en,⟨by show 0<=e.1;omega,by show e.1<=_;omega⟩,⟨h.ch.1.1,h.ch.2.1.1,h.ch.2.2⟩,h.sn.1,h.nd⟩;refine⟨by show(x.2.2.2.2.2.2.1).length<=_;omega,by show 0<x.2.2.2.2.2.2.1.length;omega,λk=>?_,λk=>?_⟩
 .have W:=h.h3 e (A.mem_iff.1<|.head _) k;refine⟨⟨n.q,?_,?_,λj _ G=>?_⟩,e.2.2.2.toNat,by omega,by show e.2.2.2.toNat<x.2.2.2.2.2.2.2.2.2.1.length;omega⟩
  .show(x.2.2.2.2.2.2.1).length<=x.2.2.1.2.2.2.1.length;rw[h.es];have:=E.gt;omega
  .have:=h.ch.1.1;have:=h.ch.2.1.1;exact⟨by show x.2.2.2.2.2.2.2.1.length<=_;omega,by show x.2.2.2.2.2.2.2.2.1.length<=_;omega⟩
  .have:=(h.nd j G).t;show 0<=(aH x j).2.2.2.2.1/\(aH x j).2.2.2.2.1<=_;omega
 .have⟨i,a,b,_⟩:=h.hi e (A.mem_iff.1<|.head _) k;refine⟨i,a,b,n.evi E hK hτ b,n.tki E hK hτ b,λD S H I J=>n.bgi E hK hτ b ?_⟩;have⟨_,_,N⟩:=(h.pop E A C v).2 i b k a D.symm;show(aH x i).2.1.1<=_;cases N with
  | a_ a q d=>cases q
  | beg t a e q s u p d=>injection q with q _;subst q;exact bP s<|bP u F.2
  | Jr t a f q p d=>injection q with q _;subst q;exact absurd rfl H
  | xh a e s q u d=>cases q
  | Ju t a f Z q u d=>injection q with q _;subst q;exact absurd rfl I
  | off a q d=>cases q
  | pow t a f q d=>injection q with q _;subst q;exact absurd rfl J
def Inv.step(hK:K<=800000)(hτ:τ<=800000000000):Dl (x,())=true/\(x.2.2.2.2.2.1.2.1≠ []->Inv c m s B (t+1) (K+9) (τ+16) (wU (x,())).1.2.2.2.2.2.2.1.length 0 (wU (x,())).1):=by
 have⟨p1,p2⟩:=an0 h.q λe l n a f=>h.aci E hK hτ n a f;refine⟨p1,λj=>?_⟩;rcases p2 with ⟨k,_⟩|⟨e,l,n,a,f,p⟩
 .exact absurd k j
 .exact h.act E n a f p
end
def alV(h:ZY s=true):s.2.2.2.2.2.2.1.length<=300/\s.2.2.2.2.2.2.2.length<=300/\s.2.2.2.2.2.1.length<=1100:=by
 revert h;refine vL (t:=ao0 af s) (P:=λr=>r=true->s.2.2.2.2.2.2.1.length<=300/\s.2.2.2.2.2.2.2.length<=300/\s.2.2.2.2.2.1.length<=1100) ?_ (LT.gI<|by rfl)<|LT.jg (by rfl);refine xQ (λa=>xQ (λb=>ay λd=>?_) λ_=>ay nofun) λ_=>ay nofun
 have d:=of_decide_eq_true d;rw[dW] at a b d;omega
theorem ahG{l:List Bool}:(ahF l N).length=N:=by
 unfold ahF;rw[nU,dW,dW,v7,jc,AT,Ht]
 grind
def Wd(h:jN m=0):(oC m).2=0:=by
 show(LT.val (Ty.aR [yI,yI])<|Sr af m).2=_;simp[Sr,b_,h];rfl
def afd(h:dP m=true):Gh m s=(dL m s,0):=by
 unfold Gh;rw[cr<|Wd<|Bn.trans<|vY.2 h];rfl
def ini(m:aA)(i:Nat):cN:=((r8 m i).1,(0,0,[]),0,0,0,false,false,false)
def sG(m:aA)(k:Nat):List cN:=(List.range k).map<|ini m
def By{k:Nat}:(sG m k).length=k:=by rw[sG,cy,List.length_range]
def VW{k:Nat}:sG m (k+1)=sG m k ++ [ini m k]:=by rw[sG,List.range_succ,gk];rfl
def afD{k:Nat}(h:i<k):(sG m k).getD i dS=ini m i:=by
 rw[sG,Jt,c_,List.getElem?_range h];rfl
theorem yL(h:dP m=true)(a:(i:Int)<m.1):(r8 m (i:Int)).2=0/\(r8 m (i:Int)).1.1=(i:Int)/\(r8 m (i:Int)).1.2.1=0:=by
 unfold r8
 grind
def Pp(m:aA)(s:gH)(r e:Int)(l:List cN):Net:=(true,m,s,r,e,(true,[],0),l,[],[],[],[])
def On(m:aA)(s:gH):Int:=m.2.1*((s.1+2)*m.1+1)+4*(s.1*m.2.2.2.1)
def V6{x y:Int}(a:-9223372036854775808<=x*y)(e:x*y<=9223372036854775807):af.b .mul .i64 x y=x*y:=by rw[jq,lZ a e]
def Zf(h:dP m=true)(l:1<=s.1/\s.1<=16):af.bJ (af.b .mul .i64 m.2.1<|af.bJ (af.b .mul .i64 (af.bJ s.1 2) m.1) 1) (af.b .mul .i64 4<|af.b .mul .i64 s.1 m.2.2.2.1)=On m s/\0<=On m s/\On m s<=m.2.1*(18*m.1+1)+64*m.2.2.2.1/\On m s<=100000000000:=by
 have j:=w7 h;have a1:(s.1+2)*m.1<=18*m.1:=eQ (by omega) (by omega);have a:0<=(s.1+2)*m.1:=gE (by omega) (by omega);have f:s.1*m.2.2.2.1<=16*m.2.2.2.1:=eQ (by omega) (by omega);have e:0<=s.1*m.2.2.2.1:=gE (by omega) (by omega);have c1:m.2.1*((s.1+2)*m.1+1)<=m.2.1*(18*m.1+1):=f_ (by omega) (by omega);have c0:0<=m.2.1*((s.1+2)*m.1+1):=gE (by omega) (by omega);have c2:m.2.1*(18*m.1+1)<=16777216*(18*m.1+1):=eQ (by omega) (by omega);unfold On;refine⟨?_,by omega,by omega,by omega⟩;rw[dq (x:=s.1)<|by omega,V6 (x:=s.1+2) (by omega)<|by omega,dq (x:=(s.1+2)*m.1)<|by omega,V6 (x:=m.2.1) (by omega)<|by omega,V6 (x:=s.1) (by omega)<|by omega,V6 (x:=4) (by omega)<|by omega,dq<|by omega]
def Vs{l:List cN}{v:cN}(h:l.length<=1000):af.bE (af.l<|af.p l [v]) 502633886983=true:=gh (by omega)
def QR(h:dP m=true)(n:tO (m,s)=true):RS (m,s)=true/\pE (m,s)=(true,Pp m (dL m s) (dL m s).1 (On m<|dL m s)<|sG m m.1.toNat,0):=by
 have p:=w7 h;have o:1<=(dL m s).1/\(dL m s).1<=16:=by
  show 1<=af.mn (af.mx s.1 1) 16/\af.mn (af.mx s.1 1) 16<=16;rw[mZ,tX];split<;>split<;>omega
 have a:=(Zf (s:=dL m s) h o).1;refine fQ (s:=WE af) (t:=adm af m s) (d:=(false,Ty.gy jS,Ty.aR [yI])) (P:=λr=>r=(true,Pp m (dL m s) (dL m s).1 (On m<|dL m s)<|sG m m.1.toNat,0)) ?_;have e:af.k OG (m,s)=(dL m s,0):=afd h;unfold adm;rw[e];have lp:∀(f k:Nat),m.1.toNat-k<=f->k<=m.1.toNat->Go (WE af) (WE af<|.c3 ⟨m.1,m,m,dL m s,(dL m s).1,On m<|dL m s⟩ k<|sG m k) λr=>r=(true,Pp m (dL m s) (dL m s).1 (On m<|dL m s)<|sG m m.1.toNat,0):=by
  intro f
  induction f with
  | zero=>
    intro k j l;refine aW (λg=>absurd g (by show ¬(k:Int)<m.1;omega)) λ_=>ay ?_;rw[show k=m.1.toNat by omega];rfl
  | succ f ih=>
    intro k j l;refine aW (λg=>?_) λg=>ay ?_
    .have g:(k:Int)<m.1:=g;have⟨n1,_⟩:=yL h g;have en:af.k wR (m,(k:Int))=r8 m (k:Int):=rfl;rw[en,dq<|by omega,show(k:Int)+1=((k+1:Nat):Int) from by omega];refine dD (λq=>absurd n1 q) λ_=>ah (Vs (by rw[By];omega))<|aP ?_;have:=ih (k+1) (by omega) (by omega);rw[VW] at this;exact this
    .have g:m.1<=(k:Int):=g;rw[show k=m.1.toNat by omega];rfl
 refine ah n<|dD (λg=>absurd rfl g) λ_=>aP<|aW (λg=>absurd g<|by decide) λ_=>aP<|aW (λg=>absurd g<|by decide) λ_=>?_;show Go (WE af) (.ak<|.c2 ⟨m.1,m,m,dL m s,(dL m s).1,af.bJ (af.b .mul .i64 m.2.1<|af.bJ (af.b .mul .i64 (af.bJ (dL m s).1 2) m.1) 1)<|af.b .mul .i64 4<|af.b .mul .i64 (dL m s).1 m.d⟩) _;rw[a];have⟨n1,_⟩:=yL (i:=0) h (by omega);have en:af.k wR (m,0)=r8 m ((0:Nat):Int):=rfl;refine aP<|aW (λ_=>?_) λg=>absurd g (by show ¬m.1<=0;omega);show Go (WE af) (.br (af.cm (af.k wR (m,0)).2 0) _ _) _;rw[en];refine dD (λq=>absurd n1 q) λ_=>ah (xU (by show(1:Int)<=_;omega))<|aP ?_;exact lp _ 1 (ai _) (by omega)
def IL{r e:Int}{k:Nat}(h:i<k):aH (Pp m s r e<|sG m k) i=ini m i:=afD h
variable{α:Type}
def wh{P:α->Prop}:∀e∈([]:List α),P e:=λe k=>absurd k aC
def afm{r e:Int}(h:dP m=true)(l:0<=e)(hs:Dz (λi=>(Ux m e).VL i 0+(Ux m e).tT e m.2.1) m.1.toNat<=(Ux m e).M*(B:Int)):Inv (Ux m e) m s B 0 0 0 m.1.toNat 0<|Pp m s r e<|sG m m.1.toNat:=by
 have p:=w7 h;have o:(sG m m.1.toNat).length=m.1.toNat:=By;refine⟨⟨rfl,aM _,λj _ n=>absurd n<|Nat.not_lt_zero _⟩,rfl,rfl,rfl,by show((sG m m.1.toNat).length:Int)=m.1;omega,⟨aj _,l⟩,aj _,wh,wh,wh,⟨⟨ai _,wh⟩,⟨ai _,wh⟩,ai _⟩,⟨ai _,wh⟩,λi f=>?_,λ_=>rfl,λi=>(Ux m e).VL i 0+(Ux m e).tT e m.2.1,λq=>?_,λi f _=>?_,?_⟩
 .have f:i<(sG m m.1.toNat).length:=f;rw[IL<|by omega];have⟨a,b,d⟩:=yL (i:=i) h (by omega);exact⟨UA a,b,⟨aj _,aj _⟩,⟨aj _,by show(0:Int)<=_;omega⟩,aj _,by show([]:List Int).length<=8;decide⟩
 .have q:m.1.toNat<(sG m m.1.toNat).length:=q;omega
 .have f:i<(sG m m.1.toNat).length:=f;rw[IL<|by omega];have⟨a,b,d⟩:=yL (i:=i) h (by omega);refine .off (.inl d) rfl ?_;show(Ux m e).VL i 0+(Ux m e).tT e (0+m.2.1)<=_;rw[Int.zero_add];exact aj _
 .show Dz _ (sG m m.1.toNat).length+(Ux m e).M*0<=_;rw[o];omega
theorem ai8{S:Int}(h:dp m n=0)(a:n.2.1=0)(hs:0<=S/\S<=af.b .shl .i64 1 m.1-1)(e:rv S n.1=true):(Fx m n S).2=0/\(Fx m n S).1.1=n.1/\(Fx m n S).1.2.1=4/\(Fx m n S).1.2.2.1.2.1=0:=by
 unfold Fx
 simp_all
def upY(n:Node)(t:Int)(y:cN):cN:=(n,(t,0,[]),y.2.2)
structure NwI(c:Mc)(m:aA)(s:gH)(B k:Nat)(x:Net):Prop where
 inv:Inv c m s B 0 0 0 x.2.2.2.2.2.2.1.length 0 x
 w:x.2.2.2.2.2.1.2.2=0
 ev:∀e∈x.2.2.2.2.2.1.2.1,e.2.2.1<(k:Int)
 st:∀j,k<=j->j<x.2.2.2.2.2.2.1.length->aH x j=ini m j
theorem NwI.up{k:Nat}{S:Int}(E:Env c m s)(h:NwI c m s B k x)(F:k<x.2.2.2.2.2.2.1.length)(hs:0<=S/\S<=af.b .shl .i64 1 m.1-1)(hb:rv S (k:Int)=true)(ho:0<=o/\o<=1048576)
  (p:tc (cO x<|bA x.2.2.2.2.2.2.1 k<|upY (Fx m (aH x k).1 S).1<|m.2.1+o) (v8 x<|m.2.1+o,4,(k:Int),0) y):NwI c m s B (k+1) y:=by
 have A:=E.ok;have hm:=w7 E.ml;have W:=E.S;have D:=h.st k (ai _) F;have n:=h.inv.nd k F;have t0:(aH x k).2.2.2.2.1=0:=by rw[D];rfl
 have s0:(aH x k).1.2.1=0:=by
  rw[D];exact(yL E.ml (by have:=h.inv.en;omega)).2.2
 have N:(aH x k).2.2.2.2.2.2.2=false:=by rw[D];rfl
 have⟨u1,u2,u3,u4⟩:=ai8 n.zM s0 hs (by rw[n.id];omega);have X:lv x.2.2.2.2.2.1.2.1 k ((aH x k).2.2.2.2.1)=[]:=aaU λe l a b _=>by have:=h.ev e l;omega
 have H:m.2.1+o<=v8 x (m.2.1+o)/\x.2.2.2.2.2.1.2.2<=v8 x (m.2.1+o):=by unfold v8;omega
 have Z:Cv m k 0<|upY (Fx m (aH x k).1 S).1 (m.2.1+o)<|aH x k:=⟨apg n.zM u1,u2.trans n.id,n.t,⟨by show 0<=m.2.1+o;omega,by show m.2.1+o<=_;omega⟩,aj _,by show([]:List Int).length<=8;decide⟩;have C:lh (Fx m (aH x k).1 S).1=true:=kZ.2 (by omega);have I:(0:Int)%c.n=0:=Int.zero_emod _;have a4:=h.inv.mp (f:=upY (Fx m (aH x k).1 S).1<|m.2.1+o) (d:=0) (aj _) (.inr rfl) F (by omega) (aj _) Z (aj _) X A p (by simp_all) rfl t0.symm H.2 λv nv=>?_
 .have l2:y.2.2.2.2.2.2.1.length=x.2.2.2.2.2.2.1.length:=p.kp.len.trans bO;refine⟨by simp_all,p.kp.w.trans h.w,λe l=>?_,λj hj hl=>?_⟩
  .obtain⟨e',h',rfl,l1,l3,⟨rfl,V,G⟩|⟨O,V,G⟩⟩:=p
   .rcases aF.1 (G.mem_iff.1 l) with rfl|l
    .grind
    .have:=h.ev e l;omega
   .subst O;have:=h.ev e l;omega
  .rw[tc.aH p,ij<|by omega];exact h.st j (by omega) (by omega)
 .have v0:c.VL k x.2.2.2.2.2.1.2.2+c.tT x.2.2.2.2.1 (x.2.2.2.2.2.1.2.2+c.S)<=v:=by
   have no:¬(2<=(aH x k).1.2.1/\(aH x k).1.2.1<=4):=by omega
   have J:=A.nn (i:=k) (e:=x.2.2.2.2.1) (t:=x.2.2.2.2.2.1.2.2);cases nv with
   | a_ a b d=>exact absurd (kZ.1 a) no
   | beg t a e b s u p d=>simp_all
   | Jr t a e b p d=>simp_all
   | xh a e s b u d=>omega
   | Ju t a e s b u d=>omega
   | off a b d=>exact d
   | pow t a e b d=>omega
  rw[h.w] at v0;have n1:=A.n1 (i:=k) (st:=m.2.1+o) (by omega);have J:=A.nn (i:=k) (e:=x.2.2.2.2.1) (t:=0+c.S);have M1:=A.nn (i:=k) (e:=x.2.2.2.2.1) (t:=0);refine⟨λq=>.beg _ C N (by rw[<-t0];rfl) H.1 (bP q h.inv.ee) ?_ ?_,λz _ _=>.a_ C rfl<|by omega⟩
  .show(Fx m (aH x k).1 S).1.2.2.1.2.1=0%c.n;rw[u4,I]
  .show(bif decide ((Fx m (aH x k).1 S).1.2.1=4) then c.VA k (m.2.1+o) (c.W*(0%c.n)) else _)+c.tT x.2.2.2.2.1 (x.2.2.2.2.2.1.2.2+c.S)<=_;rw[u3,I,Int.mul_zero,h.w,show decide ((4:Int)=4)=true from rfl,cond_true];omega
theorem acn{l:List Bool}(h:4<=l.length/\l.length<=8):(0<=ub l 0 0/\ub l 0 0<=af.b .shl .i64 1 (l.length:Int)-1)/\∀i,i<l.length->l.getD i false=true->rv (ub l 0 0) (i:Int)=true:=by
 have a:=Si h;have⟨b,d⟩:=(fZ _ _).mp a
 grind
def P5{l:List Bool}(h:l.length<=i){s:Int}:ub (l.drop i) i s=s:=by rw[eU h];rfl
theorem amT{p:X9}{l:List Bool}{P:Bool×Net×Int->Prop}(j:p.a1=l)(n:p.a2=(l.length:Int))(u:l.length<=1000)
  (T:∀z,z=ub l 0 0->Go (B5 af) (.ak<|.c1 ⟨z,p.a5.2.2.1.2.1,af.l p.a5.2.2.1.2.1,p.a4⟩ 0 p.a5) P) :
  ∀(f i:Nat) (z:Int),l.length-i<=f->i<=l.length->ub (l.drop i) i z=ub l 0 0->Go (B5 af) (B5 af<|.c0 p z i) P:=by
 intro f
 induction f with
 | zero=>
   intro i z o q e;rw[P5 (by omega)] at e;exact aW (λg=>absurd g<|by omega) λ_=>T z e
 | succ f ih=>
   intro i z o q e;refine aW (λg=>?_) λg=>T z (by rw[P5 (by rw[n] at g;omega)] at e;omega);have a:i<l.length:=by omega
   rw[xx a,ub] at e;have en:(af.n .bool p.a1 (i:Int):Bool)=l[i]:=by rw[j];exact eO a _
   refine ah (by rw[j];exact bM (l:=l)<|by omega) ?_;rw[en,dq<|by omega,show(i:Int)+1=((i+1:Nat):Int) from by omega];refine du (λk=>ah (by rfl)<|aP<|ih (i+1) _ (by omega) (by omega) ?_) λk=>aP<|ih (i+1) z (by omega) (by omega) ?_
   all_goals simp_all
theorem amU{p:Lq}{l:List Bool}(E:Env c m s)(G:p.b0=ub l 0 0)(H:p.b1=l)(h2:p.b2=(l.length:Int))(u:p.b4=m)(z:(l.length:Int)=m.1)(ho:(s.2.2.1.length:Int)=m.1)(A:∀v∈s.2.2.1,0<=v/\v<=1048576):∀(f k:Nat) (x:Net),l.length-k<=f->k<=l.length->NwI c m s B k x->Go (B5 af) (B5 af<|.c1 p k x) λr=>r.1=true/\r.2.2=0/\NwI c m s B l.length r.2.1:=by
 have hm:=w7 E.ml;have J:=acn (l:=l) (by omega);intro f
 induction f with
 | zero=>
   intro k x X Z h;refine aW (λg=>absurd g<|by omega) λ_=>ay ⟨rfl,rfl,?_⟩
   grind
 | succ f ih=>
   intro k x X Z h;refine aW (λg=>?_) λg=>ay ⟨rfl,rfl,by grind⟩;have o:k<l.length:=by omega
   have en:=h.inv.en;have a:k<x.2.2.2.2.2.2.1.length:=by omega
   have nx:af.bJ k 1=((k+1:Nat):Int):=by rw[dq<|by omega];omega
   have V:(af.n .bool p.b1 (k:Int):Bool)=l[k]:=by rw[H];exact eO o _
   have F:(af.n bS x.2.2.2.2.2.2.1 (k:Int):cN)=aH x k:=nR;have N:NI af p k x=bA x.2.2.2.2.2.2.1 k (gM (Fx m (aH x k).1<|ub l 0 0).1):=by
    unfold NI;rw[F,u,G];rfl
   have n:(af.n yI x.2.2.1.2.2.1 (k:Int):Int)=s.2.2.1.getD k 0:=by
    rw[h.inv.es];rfl
   have C:0<=s.2.2.1.getD k 0/\s.2.2.1.getD k 0<=1048576:=by
    rw[Jt,KN<|by omega];exact A _<|cZ _
   have O:ym af p k x=bA x.2.2.2.2.2.2.1 k (upY (Fx m (aH x k).1<|ub l 0 0).1<|m.2.1+s.2.2.1.getD k 0):=by
    unfold ym;rw[N,n,u,dq<|by omega];exact kG.trans<|(mod_mod a).trans rfl
   have hq:y9<|cO x<|bA x.2.2.2.2.2.2.1 k<|upY (Fx m (aH x k).1<|ub l 0 0).1<|m.2.1+s.2.2.1.getD k 0:=⟨h.inv.q.made,h.inv.q.len,h.inv.q.heap⟩;have sk:aH (cO x<|bA x.2.2.2.2.2.2.1 k<|upY (Fx m (aH x k).1<|ub l 0 0).1<|m.2.1+s.2.2.1.getD k 0) k=upY (Fx m (aH x k).1<|ub l 0 0).1 (m.2.1+s.2.2.1.getD k 0) (aH x k):=fE a;have⟨q1,I⟩:=Ir (t:=m.2.1+s.2.2.1.getD k 0) (k:=4) (i:=k) hq (by show k<(bA _ _ _).length;rw[bO];omega) (by decide);rw[sk,show(upY (Fx m (aH x k).1<|ub l 0 0).1 (m.2.1+s.2.2.1.getD k 0)<|aH x k).2.2.2.2.1=(aH x k).2.2.2.2.1 from rfl,show(aH x k).2.2.2.2.1=0 by rw[h.st k (ai _) a];rfl] at I;rw[V,nx,O,F,u,G,show(af.n bS (bA x.2.2.2.2.2.2.1 k<|upY (Fx m (aH x k).1<|ub l 0 0).1<|m.2.1+s.2.2.1.getD k 0) (k:Int):cN).2.1.1=m.2.1+s.2.2.1.getD k 0 by rw[BO a];rfl];have hu:=ai8 (h.inv.nd k a).zM (by rw[h.st k (ai _) a];exact(yL E.ml<|by omega).2.2) (S:=ub l 0 0) (by grind);refine ah (by rw[H];exact bM (l:=l)<|by omega)<|cX (λ_=>aP<|ih (k+1) x (by omega) (by omega) ⟨h.inv,h.w,λe W=>by have:=h.ev e W;omega,λj hj z=>h.st j (by omega) z⟩) λb=>ah (bM (l:=x.2.2.2.2.2.2.1)<|by omega) ?_;have D:rv (ub l 0 0) (k:Int)=true:=J.2 k o (by grind);have u0:=(hu (by rw[(h.inv.nd k a).id];exact D)).1;refine dD (λq=>absurd u0 q) λ_=>ah ?_<|ah q1<|ah (qa a)<|aP<|ih (k+1) _ (by omega) (by omega) ?_
   .show af.and (af.bE 0 k) (af.bo k<|af.l x.2.2.1.2.2.1)=true;rw[h.inv.es];exact bM (l:=s.2.2.1) (by omega)
   .exact h.up E a (by rw[<-z];exact J.1) D C I
def abK(h:dP m=true):0<=(oC m).1/\(oC m).1<=1048576:=by
 have j:=w7 h;have f:=Bn.trans<|vY.2 h;have a:0<=m.1*m.2.2.2.2.1:=gE (by omega) (by omega);have e:m.1*m.2.2.2.2.1<=8*m.2.2.2.2.1:=eQ (by omega) (by omega);refine vL (t:=Sr af m) (P:=λr=>0<=r.1/\r.1<=1048576) ?_ (LT.gI<|by kernel_rfl)<|LT.jg (by kernel_rfl);refine dD (λg=>absurd f g) λ_=>ay ?_;show 0<=af.bJ (af.b .mul .i64 (af.b .mul .i64 14 m.1) m.2.2.2.2.1) 8/\af.bJ (af.b .mul .i64 (af.b .mul .i64 14 m.1) m.2.2.2.2.1) 8<=1048576;rw[V6 (x:=14) (by omega)<|by omega,V6 (x:=14*m.1) (by rw[Int.mul_assoc];omega) (by rw[Int.mul_assoc];omega),Int.mul_assoc,dq<|by omega];omega
def abb(h:dP m=true)(u:tO (m,s)=true):Ih (m,s)=true/\(nD (m,s)).1=true/\(nD (m,s)).2.2=0/\Inv (Ux m<|On m<|dL m s) m (dL m s) 19999 0 0 0 (nD (m,s)).2.1.2.2.2.2.2.2.1.length 0 (nD (m,s)).2.1:=by
 have H:=w7 h;have⟨F,G⟩:=QR h u;have A:1<=(dL m s).1/\(dL m s).1<=16:=by
  show 1<=af.mn (af.mx s.1 1) 16/\af.mn (af.mx s.1 1) 16<=16;rw[mZ,tX];omega
 have e:=(Zf (s:=dL m s) h A).2;have E:=Zi (E:=On m<|dL m s) (s:=s) h ⟨e.1,by omega⟩;have sm:=(E.ok.sum (N:=m.1.toNat) (by show((m.1.toNat:Nat):Int)=m.1;omega) e.1).1 e.2.1;have I:=afm (B:=19999) (s:=dL m s) (r:=(dL m s).1) h e.1 sm;refine fQ (s:=B5 af) (t:=NA af m s) (d:=(false,Ty.gy jS,Ty.aR [yI])) (P:=λr=>r.1=true/\r.2.2=0/\Inv (Ux m<|On m<|dL m s) m (dL m s) 19999 0 0 0 r.2.1.g.length 0 r.2.1) ?_;have q:af.k pE (m,s)=(true,Pp m (dL m s) (dL m s).1 (On m<|dL m s)<|sG m m.1.toNat,0):=G;unfold NA;rw[q];have J:(dL m s).2.1.length=m.1.toNat:=ahG;refine ah F<|du (λ_=>dD (λg=>absurd rfl g) λ_=>aP ?_) nofun;have nw:NwI (Ux m<|On m<|dL m s) m (dL m s) 19999 0<|Pp m (dL m s) (dL m s).1 (On m<|dL m s)<|sG m m.1.toNat:=by
  refine⟨?_,rfl,wh,λj _ f=>IL (by have f:j<(sG m m.1.toNat).length:=f;rwa [By] at f)⟩;show Inv _ _ _ _ _ _ _ (sG m m.1.toNat).length _ _;rw[By];exact I
 refine amT (l:=(dL m s).2.1) rfl rfl (by omega) (λz D=>aP ?_) _ 0 0 (ai _) (aM _) (by rfl);refine(amU (p:=⟨z,(dL m s).2.1,af.l (dL m s).2.1,m⟩) (l:=(dL m s).2.1) E D rfl rfl rfl (by omega) ?_ ?_ _ 0 (Pp m (dL m s) (dL m s).1 (On m<|dL m s)<|sG m m.1.toNat) (ai _) (aM _) nw).mono λr a=>⟨a.1,a.2.1,a.2.2.inv⟩
 .show((rowP s.c m.1.toNat 0 (oC m).1 0).length:Int)=m.1;rw[BY];omega
 .have o:=abK h;exact λv C=>by
   have:=UU (l:=s.c) (n:=m.1.toNat) (lo:=0) (hi:=(oC m).1) (ms:=0) o.1 ⟨aj _,o.1⟩ v C;omega
theorem af4(h:x.1=true)(f:x.2.2.2.2.2.1.1=true):ML (x,())=true/\wT (x,())=(x,decide<|x.2.2.2.2.2.1.2.1.length=0):=by
 have⟨j,l⟩:=afR f;refine kF (s:=Empty.elim) (t:=Sv af x) (d:=(Ty.aR [jS],Ty.aR [.bool])) (P:=λr=>r=(x,decide<|x.f.2.1.length=0)) ?_ λr e=>by rw[e]
 have a:af.k ON (x.f,())=(x.f,(x.f.2.1.length:Int)):=l;unfold Sv;rw[a];refine cX (λk=>absurd (h.symm.trans k)<|by decide) λ_=>ah j<|ay ?_;rw[bg];congr 1
 grind
def ae7:MK ()=true:=by kernel_rfl
def ae6:zG ()=true:=by kernel_rfl
theorem acw(h:x.1=true)(u:x.2.2.2.2.2.2.2.2.2.2.length<=900000)(q:∀z∈x.2.2.2.2.2.2.2.2.2.2,dp m z.2=0):Ii (x,())=true/\(GR (x,())).2.length<=900000:=by
 suffices hs:Ii (x,())=true/\(GR (x,())).1=x/\(GR (x,())).2.length<=900000 from⟨hs.1,hs.2.2⟩
 refine kF (s:=PZ af) (t:=WY af x) (d:=(Ty.aR [jS],Ty.aR [.slice gD])) (P:=λr=>r.1=x/\r.2.length<=900000) ?_ λr e=>by grind
 have cl:∀i,i<x.2.2.2.2.2.2.2.2.2.2.length->af.k Ij (af.n gD x.2.2.2.2.2.2.2.2.2.2 (i:Int):eX).2=true:=λi j=>by
  rw[show(af.n gD x.2.2.2.2.2.2.2.2.2.2 (i:Int):eX)=x.2.2.2.2.2.2.2.2.2.2[i] from eO j _];exact UD<|q _<|cZ j
 have sl:∀l:List eX,l.length<=900000->(af.k Z1 (l,())).1.length<=900000:=λl k=>bd (kK oZ) k;have a:∀l:List eX,l.length<=900001->af.k Ik (l,())=true:=λl k=>cr (by omega);have lp:∀(f k:Nat) (l:List eX),x.2.2.2.2.2.2.2.2.2.2.length-k<=f->k<=x.2.2.2.2.2.2.2.2.2.2.length->l.length=k->Go (PZ af) (PZ af<|.c1 ⟨af.l x.2.2.2.2.2.2.2.2.2.2,x⟩ k l) λr=>r.1=x/\r.2.length<=900000:=by
  intro f
  induction f with
  | zero=>
    intro k l o p n;exact aW (λg=>absurd g (by show ¬(k:Int)<(x.2.2.2.2.2.2.2.2.2.2.length:Int);omega)) λ_=>ah (a l<|by omega)<|ay ⟨rfl,sl l<|by omega⟩
  | succ f ih=>
    intro k l o p n;refine aW (λg=>?_) λg=>ah (a l<|by omega)<|ay ⟨rfl,sl l<|by omega⟩;have g:(k:Int)<(x.2.2.2.2.2.2.2.2.2.2.length:Int):=g;rw[dq<|by omega,show(k:Int)+1=((k+1:Nat):Int) from by omega];refine ah (bM (l:=x.2.2.2.2.2.2.2.2.2.2)<|by omega)<|ah (cl k<|by omega)<|ah (gh<|by omega)<|aP<|ih (k+1) _ (by omega) (by omega) ?_;show(l ++ [_]).length=_
    simp_all
 refine du (λ_=>aP<|aW (λg=>?_) λg=>ah (a _ (by show(0:Nat)<=_;omega))<|ay ⟨rfl,aM _⟩) λk=>absurd (h.symm.trans k) (by decide);have g:(0:Int)<(x.2.2.2.2.2.2.2.2.2.2.length:Int):=g;exact ah (bM (l:=x.2.2.2.2.2.2.2.2.2.2) (i:=0)<|by omega)<|ah (cl 0<|by omega)<|ah (xU (by show(1:Int)<=_;omega))<|aP<|lp _ 1 _ (ai _) (by omega) rfl
theorem run_go(E:Env c m s)(p:B<=45000):∀(f t:Nat) (x:Net),B-t<=f->Inv c m s B t (9*t) (16*(t:Int)) x.2.2.2.2.2.2.1.length 0 x->Go (zj af) (zj af<|.c0 x) λr=>r.2=0/\r.1.length<=900000:=by
 have o:∀(t:Nat) (x:Net),Inv c m s B t (9*t) (16*(t:Int)) x.2.2.2.2.2.2.1.length 0 x->(x.2.2.2.2.2.1.2.1.length≠0->Inv c m s B (t+1) (9*(t+1)) (16*((t+1:Nat):Int)) (wU (x,())).1.2.2.2.2.2.2.1.length 0 (wU (x,())).1->Go (zj af) (zj af<|.c0 (wU (x,())).1) λr=>r.2=0/\r.1.length<=900000)->Go (zj af) (zj af<|.c0 x) λr=>r.2=0/\r.1.length<=900000:=λt x h K=>by
  have tb:=h.tb E;have⟨n,e⟩:=af4 h.mad h.q.made;have e:af.k wT (x,())=(x,decide<|x.2.2.2.2.2.1.2.1.length=0):=e;have en:=h.en;have q:=w7 E.ml;have a:af.cm (af.l x.2.2.2.2.2.2.1) 0=true:=Hm (by omega);have j:=acw h.mad (by have:=h.sn.1;omega) h.sn.2;have⟨p1,p2⟩:=h.step E (by omega) (by omega);refine ah n<|ah a ?_;rw[e];refine cX (λk=>ah p1<|ah a<|aP ?_) λ_=>ah j.1<|ah a<|ay ⟨rfl,j.2⟩;have k:=of_decide_eq_false k;exact K k (by grind)
 intro f
 induction f with
 | zero=>
   intro t x l h;have tb:=h.tb E
   grind
 | succ f ih=>
   intro t x l h;exact o t x h λ_ I=>ih (t+1) _ (by omega) I
def abY(h:dP m=true)(e:tO (m,s)=true):Dk (m,s)=true/\(pY (m,s)).2=0/\(pY (m,s)).1.length<=900000:=by
 have⟨j,l,n,o⟩:=abb h e;have f:1<=(dL m s).1/\(dL m s).1<=16:=by
  show 1<=af.mn (af.mx s.1 1) 16/\af.mn (af.mx s.1 1) 16<=16;rw[mZ,tX];omega
 have a:=(Zf (s:=dL m s) h f).2;have E:=Zi (E:=On m<|dL m s) (s:=s) h ⟨a.1,by omega⟩;refine fQ (s:=zj af) (t:=adl af m s) (d:=Ty.aR [.slice gD,yI]) (P:=λr=>r.2=0/\r.1.length<=900000) ?_;refine ah j<|du (λ_=>dD (λg=>absurd n g) λ_=>aP ?_) λk=>absurd (l.symm.trans k) (by decide);exact run_go E (B:=19999) (by omega) _ 0 (nD (m,s)).2.1 (ai _) o
def _root_.Go.Ev.LT.mp{R R' Y Y':Type}(h:R->R')(g:Y->Y'):LT R Y->LT R' Y'
 | .ret r=>.ret<|h r
 | .ak y=>.ak<|g y
 | .br b t e=>.br b (t.mp h g)<|e.mp h g
 | .ao b t=>.ao b<|t.mp h g
 | .eqs p t=>.eqs p<|t.mp h g
 | .and a b=>.and (a.mp h g)<|b.mp h g
 | .bY n p=>.bY n p
def _root_.Go.Ev.LT.al{R Y:Type}(P:R->Prop)(Q:Y->Prop):LT R Y->Prop
 | .ret r=>P r
 | .ak y=>Q y
 | .br _ t e=>t.al P Q/\e.al P Q
 | .ao _ t=>t.al P Q
 | .eqs _ t=>t.al P Q
 | .and _ _=>False
 | .bY _ _=>True
variable{Y:Type}
theorem Fi{R:Type}{s:Y->LT R Y}{t:LT R Y}(h:fO s t=true):∃r,aV s t r:=by
 unfold fO at h;cases k:LT.ev s 5000 t with
 | some r=>exact⟨r,LT.Gz k⟩
 | none=>simp_all
theorem yR{R:Type}{s:Y->LT R Y}{t:LT R Y}{d:R}(h:¬∃r,aV s t r):fA s t d=d:=by
 unfold fA;cases k:LT.ev s 5000 t with
 | some r=>exact absurd ⟨r,LT.Gz k⟩ h
 | none=>simp_all
section
variable {R R' Y Y':Type} {h:R->R'} {g:Y->Y'} {s:Y->LT R Y} {s':Y'->LT R' Y'} {P:R->Prop} {Q:Y->Prop} (hs:∀y,Q y->s' (g y)=(s y).mp h g/\(s y).al P Q)
include hs
def Ff{t:LT R Y}{r:R}(k:aV s t r):t.al P Q->aV s' (t.mp h g) (h r)/\P r:=by
 induction k with
 | ret r=>exact λa=>⟨.ret _,a⟩
 | ak _ ih=>exact λa=>⟨.ak (by rw[(hs _ a).1];exact(ih (hs _ a).2).1),(ih (hs _ a).2).2⟩
 | @br b _ _ _ _ ih=>
   intro a;cases b
   .exact⟨.br (ih a.2).1,(ih a.2).2⟩
   .exact⟨.br (ih a.1).1,(ih a.1).2⟩
 | ao hb _ ih=>exact λa=>⟨.ao hb (ih a).1,(ih a).2⟩
 | eqs hp _ ih=>exact λa=>⟨.eqs hp (ih a).1,(ih a).2⟩
 | and _ _ _ _=>exact λa=>a.elim
def Uz{u:LT R' Y'}{f:R'}(k:aV s' u f):∀{t:LT R Y},u=t.mp h g->t.al P Q->∃r,aV s t r:=by
 induction k with
 | ret r=>intro t e _;cases t<;>cases e;exact⟨_,.ret _⟩
 | ak _ ih=>intro t e n;cases t<;>cases e;have⟨r,a⟩:=ih (hs _ n).1 (hs _ n).2;exact⟨r,.ak a⟩
 | @br b _ _ _ _ ih=>
   intro t e n;cases t<;>cases e;cases b
   .have⟨r,a⟩:=ih rfl n.2;exact⟨r,.br a⟩
   .have⟨r,a⟩:=ih rfl n.1;exact⟨r,.br a⟩
 | ao hb _ ih=>intro t e n;cases t<;>cases e;have⟨r,a⟩:=ih rfl n;exact⟨r,.ao hb a⟩
 | eqs hp _ ih=>intro t e n;cases t<;>cases e;have⟨r,a⟩:=ih rfl n;exact⟨r,.eqs hp a⟩
 | and _ _ _ _=>intro t e n;cases t<;>cases e;exact n.elim
def ayt{t:LT R Y}(e:t.al P Q):fO s' (t.mp h g)=fO s t:=
 iQ.2 ⟨λq=>(Fi q).elim λ_ a=>(Uz hs a rfl e).elim λ_=>rf,λq=>(Fi q).elim λ_ a=>rf (Ff hs a e).1⟩
theorem ayu{t:LT R Y}{d:R}(e:t.al P Q)(f:P d):fA s' (t.mp h g) (h d)=h (fA s t d)/\P (fA s t d):=by
 by_cases k:∃r,aV s t r
 .have⟨r,a⟩:=k;rw[nT a,nT (Ff hs a e).1];exact⟨rfl,(Ff hs a e).2⟩
 .rw[yR k,yR λ⟨_,a⟩=>k<|Uz hs a rfl e]
  simp_all
end
def Df(s:gH):gH:=(s.1,s.2.1,s.2.2.1,s.2.2.2.1,s.2.2.2.2.1,s.2.2.2.2.2.1,s.2.2.2.2.2.2.1,[])
def ny(x:Net):Net:=(x.1,x.2.1,Df x.2.2.1,x.2.2.2)
def V7{α:Type}(r:Net×α):Net×α:=(ny r.1,r.2)
def LdF(l:List bK):Prop:=l.length<=1000000/\∀f∈l,(f.1=9\/f.1=10)/\f.2.2.2.2.1≠f.2.1
def Ld(x:Net):Prop:=LdF x.2.2.1.2.2.2.2.2.2.2
def rO(x:Net):Ld<|ny x:=⟨aM _,λf h=>absurd (show f∈ [] from h) aC⟩
structure Lo{α β:Type}(f:Net×α->Net×β)(p:Net×α->Bool):Prop where
 e:∀{x:Net} {a:α},Ld x->f (ny x,a)=V7 (f (x,a))
 p:∀{x:Net} {a:α},Ld x->p (ny x,a)=p (x,a)
 k:∀{x:Net} {a:α},Ld x->Ld (f (x,a)).1
variable{β:Type}{f:Net×α->Net×β}{p:Net×α->Bool}
def Lo.Xd{s:Y->LT (Net×β) Y}{t:Net->α->LT (Net×β) Y}{d:β}(g:Y->Y)(Q:Y->Prop)(j:∀x a,Ld x->f (x,a)=fA s (t x a) (Ty.aR [jS],d))
  (l:∀x a,Ld x->p (x,a)=(fO s (t x a)&&decide (VF.lens [fJ] (f (x,a)).1=VF.lens [fJ] x))) (hs:∀y,Q y->s (g y)=(s y).mp V7 g/\(s y).al (λr=>Ld r.1) Q) (e:∀x a,Ld x->t (ny x) a=(t x a).mp V7 g/\(t x a).al (λr=>Ld r.1) Q):Lo f p:=by
 have A:∀{x:Net} {a:α},Ld x->f (ny x,a)=V7 (f (x,a))/\Ld (f (x,a)).1:=λ{x a} h=>by
  rw[j _ _<|rO x,j _ _ h,(e x a h).1];exact ayu (R:=Net×β) (P:=λr=>Ld r.1) (d:=(Ty.aR [jS],d)) hs (e x a h).2 ⟨aM _,λf h=>absurd (show f∈ [] from h) aC⟩
 refine⟨λh=>(A h).1,λ{x a} h=>?_,λh=>(A h).2⟩;rw[l _ _<|rO x,l _ _ h,(A h).1,(e x a h).1,ayt hs (e x a h).2];rfl
def Lo.O0{t:Net->α->LT (Net×β) Empty}{d:β}(e:∀x a,f (x,a)=fA Empty.elim (t x a) (Ty.aR [jS],d))
  (j:∀x a,p (x,a)=(fO Empty.elim (t x a)&&decide (VF.lens [fJ] (f (x,a)).1=VF.lens [fJ] x))) (l:∀x a,Ld x->t (ny x) a=(t x a).mp V7 id/\(t x a).al (λr=>Ld r.1) λ_=>True):Lo f p:=
 Lo.Xd (s:=Empty.elim) id (λ_=>True) (λx a _=>e x a) (λx a _=>j x a) nofun l
def LS:(∀(x:Net) (v:List bS.T),qK (ny x) v=ny (qK x v))/\(∀(x:Net) (v:List bS.T),Ld (qK x v)=Ld x)/\(∀x v,QA (ny x) v=ny (QA x v))/\(∀x v,vn (ny x) v=ny (vn x v))/\(∀x v,qK (ny x) v=ny (qK x v))/\(∀x v,CH (ny x) v=ny (CH x v))/\(∀x v,yZ (ny x) v=ny (yZ x v))/\(∀x v,Qq (ny x) v=ny (Qq x v))/\
  (∀x v,aaR (ny x) v=ny (aaR x v))/\(∀x v,Ld (QA x v)=Ld x)/\(∀x v,Ld (vn x v)=Ld x)/\(∀x v,Ld (qK x v)=Ld x)/\(∀x v,Ld (CH x v)=Ld x)/\(∀x v,Ld (yZ x v)=Ld x)/\(∀x v,Ld (Qq x v)=Ld x)/\(∀x v,Ld (aaR x v)=Ld x)/\
  (∀x,(ny x).1=x.1)/\(∀x,(ny x).2.1=x.2.1)/\(∀x,(ny x).2.2.1=Df x.2.2.1)/\(∀x,(ny x).2.2.2=x.2.2.2)/\(∀s,(Df s).1=s.1)/\(∀s,(Df s).2.1=s.2.1)/\(∀s,(Df s).2.2.1=s.2.2.1)/\(∀s,(Df s).2.2.2.1=s.2.2.2.1)/\(∀s,(Df s).2.2.2.2.1=s.2.2.2.2.1)/\
  (∀s,(Df s).2.2.2.2.2.1=s.2.2.2.2.2.1)/\(∀s,(Df s).2.2.2.2.2.2.1=s.2.2.2.2.2.2.1)/\(∀{α β:Type} (f:α->β) (a:α),af.k f a=f a)/\(∀{α:Type} (x:Net) (a:α),V7 (x,a)=(ny x,a))/\(∀{α:Type} (x:Net×α),(V7 x).1=ny x.1)/\∀{α:Type} (x:Net×α),(V7 x).2=x.2:=by
 refine⟨?_,?_,?_,?_,?_,?_,?_,?_,?_,?_,?_,?_,?_,?_,?_,?_,?_,?_,?_,?_,?_,?_,?_,?_,?_,?_,?_,?_,?_,?_,?_⟩<;>intros<;>rfl
def VX:Lo tF qf:=Lo.O0 (t:=λx a=>SC af x a.1 a.2.1 a.c a.C) (λ_ _=>rfl) (λ_ _=>rfl) λx a h=>by
 simp[SC,wN,LT.mp,LT.al,LS,h,and_self]
def Al:Lo zH wo:=Lo.O0 (t:=λx a=>Sw af x a.1 a.2.1 a.2.2) (λ_ _=>rfl) (λ_ _=>rfl) λx a h=>by
 simp[Sw,VX.e,VX.p,VX.k,LT.mp,LT.al,LS,h,and_self]
def VZ:Lo GU Ip:=Lo.O0 (t:=λx a=>SI af x a) (λ_ _=>rfl) (λ_ _=>rfl) λx a h=>by
 simp[SI,Jk,Jl,Al.e,Al.p,Al.k,LT.mp,LT.al,LS,h,and_self]
def Lo.ite{e:Net×α->Net×β}{j:Net×α->Bool}(A:Lo f p)(B:Lo e j)(c:α->Bool):Lo (λv=>bif c v.2 then f v else e v) (λv=>bif c v.2 then p v else j v):=by
 constructor<;>intro x a h<;>dsimp only<;>cases c a
 .exact B.e h
 .exact A.e h
 .exact B.p h
 .exact A.p h
 .exact B.k h
 .exact A.k h
theorem al8{p:FK}(j:p.a0=l)(q:p.a1=(l.length:Int))(v:l.length<=1000000)(u:∀f∈l,f.1≠p.Qy):∀(f i:Nat),l.length-i<=f->Go (zk af) (zk af<|.c0 p i) λr=>r=((0,0,0,0,0,0,0),false):=by
 intro f
 induction f with
 | zero=>intro i o;exact aW (λg=>absurd g<|by omega) λ_=>ay rfl
 | succ f ih=>
   intro i o;refine aW (λg=>?_) λ_=>ay rfl;have g:i<l.length:=by omega
   have a:Go (zk af) (.ak<|.c0 p<|af.bJ i 1) λr=>r=((0,0,0,0,0,0,0),false):=by
    rw[dq<|by omega,show(i:Int)+1=((i+1:Nat):Int) from by omega];exact aP<|ih (i+1) (by omega)
   have n:¬(mE af p i).1=p.Qy:=by
    rw[show mE af p (i:Int)=l[i] by unfold mE;rw[j];exact eO g _]
    grind
   exact ah (by rw[j];exact bM (l:=l)<|by omega)<|cv (λ_=>cv (λ_=>cv (λe=>absurd e n) λ_=>a) λ_=>cX (λ_=>cv (λe=>absurd e n) λ_=>a) λ_=>a) λ_=>a
def ap0{k n:Int}{c:fB}(j:x.2.2.1.2.2.2.2.2.2.2.length<=1000000)(e:∀f∈x.2.2.1.2.2.2.2.2.2.2,f.1≠k):dV (jF x (),k,n,c)=((0,0,0,0,0,0,0),false)/\jy (jF x (),k,n,c)=true:=by
 have⟨a,b⟩:=fQ (s:=zk af) (t:=W1 af x.1 x.2.1 x.2.2.1 k n c) (d:=Ty.aR [bQ,.bool]) (P:=λr=>r=((0,0,0,0,0,0,0),false))<|ah (cr<|by omega)<|aP<|al8 (l:=x.2.2.1.2.2.2.2.2.2.2) rfl rfl j e _ 0<|ai _;exact⟨b,a⟩
def Qz{k n:Int}{c:fB}(a:k≠9/\k≠10)(h:Ld x):dV (jF x (),k,n,c)=((0,0,0,0,0,0,0),false)/\jy (jF x (),k,n,c)=true:=
 ap0 h.1 λf q=>by have:=(h.2 f q).1;omega
theorem amH{p:QF}(j:p.a0=l)(v:p.a1=(l.length:Int))(n:LdF l):∀(f i:Nat),l.length-i<=f->Go (IC af) (IC af (.c0 p (i:Int))) λr=>r=false:=by
 intro f
 induction f with
 | zero=>intro i q;exact aW (λg=>absurd g (by omega)) λ_=>ay rfl
 | succ f ih=>
   intro i q;refine aW (λg=>?_) λ_=>ay rfl;have g:i<l.length:=by omega
   have u:=n.1;have a:Go (IC af) (.ak (.c0 p (af.bJ (i:Int) 1))) λr=>r=false:=by
    rw[dq (by omega),show(i:Int)+1=((i+1:Nat):Int) from by omega];exact aP (ih (i+1) (by omega))
   have o:¬(show Int from(af.n bQ p.a0 (i:Int):bK).1)=(5:Int):=by
    have:=(n.2 _ (cZ g)).1;rw[j,show(af.n bQ l (i:Int):bK)=l[i] from eO g _]
    grind
   exact ah (by rw[j];exact bM (l:=l) (by omega)) (cv (λ_=>cv (λ_=>cv (λe=>absurd e o) λ_=>a) λ_=>cX (λ_=>cv (λe=>absurd e o) λ_=>a) λ_=>a) λ_=>a)
def lno{k:Int}{c:fB}(h:Ld x):Ud (jF x (),k,c)=false/\Io (jF x (),k,c)=true:=by
 have⟨a,b⟩:=fQ (s:=IC af) (t:=adt af x.1 x.2.1 x.2.2.1 k c) (d:=false) (P:=λr=>r=false)<|ah (cr (by have:=h.1;omega))<|aP<|amH (l:=x.2.2.1.2.2.2.2.2.2.2) rfl rfl h _ 0<|ai _;exact⟨b,a⟩
def Hg:Lo Ek Av:=Lo.O0 (t:=λx a=>SF af x a) (λ_ _=>rfl) (λ_ _=>rfl) λx a h=>by
 simp[SF,Jg,Al.e,Al.p,Al.k,LT.mp,LT.al,LS,h,and_self]
def Mp:Lo wV tQ:=Lo.O0 (t:=λx a=>SG af x a.1 a.2) (λ_ _=>rfl) (λ_ _=>rfl) λx a h=>by
 simp[SG,AR,SZ,SY,SX,SV,VZ.e,VZ.p,VZ.k,LT.mp,LT.al,LS,h,and_self]
def amx:Lo OU MR:=Lo.O0 (t:=λx a=>SD af x a.1 a.2.1 a.2.2) (λ_ _=>rfl) (λ_ _=>rfl) λx a h=>by
 simp[SD,adM,adN,Jb,Hg.e,Hg.p,Hg.k,LT.mp,LT.al,LS,h,and_self]
def aqz:Lo C_ λv=>fO (vJ af) (IV af v.1 v.2)&&decide (VF.lens [fJ] (C_ v).1=VF.lens [fJ] v.1):=Lo.Xd (t:=λx a=>IV af x a) (fun | .c0 p a b=>.c0 p a (ny b) | .c1 a b c=>.c1 a b<|ny c) (fun | .c0 _ _ b=>Ld b | .c1 _ _ c=>Ld c) (λ_ _ _=>rfl) (λ_ _ _=>rfl) (fun
  | .c0 p a b,h=>by have h:Ld b:=h;simp[vJ,LT.mp,LT.al,LS,h,and_self]
  | .c1 a b c,h=>by have h:Ld c:=h;simp[vJ,nt,LT.mp,LT.al,LS,h,and_self]) λx a h=>by
 simp[IV,LT.mp,LT.al,LS,h,and_self]
def Lo.cnd{q:Net×α->Bool}(A:Lo f p)(c:α->Bool)(e:∀v,q v=(c v.2&&p v)):Lo f q:=
 ⟨A.e,λ{x a} h=>by rw[e,e,A.p h],A.k⟩
def aqA:Lo Da λv=>fO (vK af) (IW af v.1 v.2)&&decide (VF.lens [fJ] (Da v).1=VF.lens [fJ] v.1):=Lo.Xd (t:=λx a=>IW af x a) (fun | .c0 p a b=>.c0 p a (ny b) | .c1 a b c=>.c1 a b<|ny c) (fun | .c0 _ _ b=>Ld b | .c1 _ _ c=>Ld c) (λ_ _ _=>rfl) (λ_ _ _=>rfl) (fun
  | .c0 p a b,h=>by have h:Ld b:=h;simp[vK,LT.mp,LT.al,LS,h,and_self]
  | .c1 a b c,h=>by have h:Ld c:=h;simp[vK,nu,LT.mp,LT.al,LS,h,and_self]) λx a h=>by
 simp[IW,LT.mp,LT.al,LS,h,and_self]
def V1:Lo rD qV:=Lo.ite (aqz.cnd (λk=>decide<|k=0) λ_=>Bool.and_assoc ..) (aqA.cnd (λk=>decide<|k=1) λ_=>Bool.and_assoc ..) λk=>decide<|k=0
def run_eq{R:Type}{s:Y->LT R Y}{t u:LT R Y}{d:R}(h:∀r,aV s t r↔aV s u r):fA s t d=fA s u d/\fO s t=fO s u:=by
 refine⟨?_,iQ.2 ⟨λq=>(Fi q).elim λr a=>rf<|(h r).1 a,λq=>(Fi q).elim λr a=>rf<|(h r).2 a⟩⟩;by_cases k:∃r,aV s t r
 .have⟨r,a⟩:=k;rw[nT a,nT<|(h r).1 a]
 .rw[yR k,yR λ⟨r,a⟩=>k ⟨r,(h r).2 a⟩]
def aag(p:CL):LT (Net×(fC×Bool)) YA:=
 .ao (af.and (af.bE 0 p.a6)<|af.bo p.a6<|af.l p.a3.2.2.2.2.2.2.1) (.ao (af.and (af.bE 0 p.a6)<|af.bo p.a6<|af.l p.a3.2.2.1.2.2.2.2.1)<|.br (af.cm (tZ af p).2 0) (.ret (p.a3,(0,(0,0),0,0,([]:List Int)),false))<|.ret (p.a3,af.k Bu ((tZ af p).1,p.a8)))
theorem afx{p:CL}(a:p.a0=l)(u:p.a1=(l.length:Int))(e:LdF l)(r:Net×(fC×Bool)):∀(f i:Nat),l.length-i<=f->(aV (wC af) (wC af (.c0 p (i:Int))) r↔aV (wC af) (aag p) r):=by
 have j:∀i:Nat,l.length<=i->(aV (wC af) (wC af (.c0 p (i:Int))) r↔aV (wC af) (aag p) r):=λi n=>ap (by simp_all;exact gw (by omega));intro f
 induction f with
 | zero=>grind
 | succ f ih=>
   intro i n;by_cases g:i<l.length
   .have o:=e.1;have q:¬(show Int from(af.n bQ p.a0 (i:Int):bK).1)=(11:Int):=by
     have:=(e.2 _ (cZ g)).1;rw[a,show(af.n bQ l (i:Int):bK)=l[i] from eO g _];show ¬l[i].1=11;omega
    refine(ar (by simp_all;exact cr (by omega))).trans (au.trans ?_);rw[show(af.and (af.bE 0 (i:Int)) (af.bo (i:Int) (af.l p.a0)))=true by rw[a];exact bM (l:=l) (by omega)];refine(and_iff_right rfl).trans ((ap (dx.trans (gw q))).trans (aG.trans ?_));rw[dq (by omega),show(i:Int)+1=((i+1:Nat):Int) from by omega];exact ih (i+1) (by omega)
   grind
def abv(x:Net)(i:Int)(c:fB)(s:fC):CL:=⟨x.2.2.1.2.2.2.2.2.2.2,af.l x.2.2.1.2.2.2.2.2.2.2,x,c.1,i,c,s⟩
def Ri{a:Int×fB×fC}(h:Ld x):∀r,aV (wC af) (W3 af x a.1 a.2.1 a.2.2) r↔aV (wC af) (aag<|abv x a.1 a.2.1 a.2.2) r:=λr=>
 aG.trans (afx (l:=x.c.G) rfl rfl h r _ 0<|ai _)
def V0:Lo gq nG:=Lo.Xd (s:=wC af) (t:=λx a=>aag<|abv x a.1 a.2.1 a.2.2) id (λ_=>False) (λx a h=>(run_eq<|Ri h).1) (λx a h=>by
  show(fO (wC af) (W3 af x a.1 a.2.1 a.2.2)&&_)=_;rw[(run_eq (d:=default)<|Ri h).2]) (λ_ h=>h.elim) λx a h=>by
 simp[aag,abv,tZ,LT.mp,LT.al,LS,h,and_self]
def VY:Lo xK Dm:=Lo.Xd (t:=λx a=>W0 af x a.1 a.2.1 a.2.2) (fun | .c0 p=>.c0 {p with a2:=ny p.a2} | .c1 p=>.c1 {p with b3:=ny p.b3} | .c2 p=>.c2 {p with c2:=ny p.c2} | .c3 p=>.c3 {p with d3:=ny p.d3})
 (fun | .c0 p=>Ld p.a2 | .c1 p=>Ld p.b3 | .c2 p=>Ld p.c2 | .c3 p=>Ld p.d3) (λ_ _ _=>rfl) (λ_ _ _=>rfl) (fun
   | .c0 p,h=>by have h:Ld p.a2:=h;simp[u_,NO,Je,AO,V0.e,V0.p,V0.k,lno h,lno<|rO p.a2,LT.mp,LT.al,LS,h,and_self]
   | .c1 p,h=>by have h:Ld p.b3:=h;simp[u_,SU,NP,V1.e,V1.p,V1.k,LT.mp,LT.al,LS,h,and_self]
   | .c2 p,h=>by have h:Ld p.c2:=h;simp[u_,NQ,Jf,AP,V0.e,V0.p,V0.k,lno h,lno<|rO p.c2,LT.mp,LT.al,LS,h,and_self]
   | .c3 p,h=>by have h:Ld p.d3:=h;simp[u_,AQ,Cj,Ck,yW,Ft,V1.e,V1.p,V1.k,VX.e,VX.p,VX.k,LT.mp,LT.al,LS,h,and_self]) λx a h=>by
 simp[W0,q_,Qz (k:=3) (by decide) h,Qz (k:=3) (by decide)<|rO x,Qz (k:=7) (by decide) h,Qz (k:=7) (by decide)<|rO x,Qz (k:=8) (by decide) h,Qz (k:=8) (by decide)<|rO x,Qz (k:=4) (by decide) h,Qz (k:=4) (by decide)<|rO x,LT.mp,LT.al,LS,h,and_self]
def aaL:Lo wW MU:=Lo.O0 (t:=λx a=>SH af x a.1 a.2) (λ_ _=>rfl) (λ_ _=>rfl) λx a h=>by
 simp[SH,vk,qy,wO,VZ.e,VZ.p,VZ.k,VY.e,VY.p,VY.k,LT.mp,LT.al,LS,h,and_self]
def amu:Lo OR MO:=Lo.O0 (t:=λx a=>Sz af x a) (λ_ _=>rfl) (λ_ _=>rfl) λx a h=>by
 have e:∀v,uA (Df x.c,v)=uA (x.c,v)/\yb (Df x.c,v)=yb (x.c,v):=λ_=>⟨rfl,rfl⟩;simp[Sz,AJ,DR,I_,AL,Ja,Al.e,Al.p,Al.k,VY.e,VY.p,VY.k,Hg.e,Hg.p,Hg.k,e,LT.mp,LT.al,LS,h,and_self]
def amv:Lo OS MP:=Lo.O0 (t:=λx a=>SA af x a) (λ_ _=>rfl) (λ_ _=>rfl) λx a h=>by
 simp[SA,Mp.e,Mp.p,Mp.k,LT.mp,LT.al,LS,h,and_self]
def amy:Lo uz MS:=Lo.O0 (t:=λx a=>WZ af x a) (λ_ _=>rfl) (λ_ _=>rfl) λx a h=>by
 simp[WZ,DT,SQ,SS,DU,DV,Jc,pg,NM,qx,NN,Qz (k:=6) (c:=(af.n bS x.g a:cN).1.c) (by decide) h,Qz (k:=6) (c:=(af.n bS x.g a:cN).1.c) (by decide)<|rO x,LT.mp,LT.al,LS,h,and_self]
def amz:Lo Ej Au:=Lo.Xd (t:=λx a=>SE af x a.1 a.2) (fun | .c0 p b=>.c0 {p with a2:=ny p.a2} b | .c1 p b c=>.c1 p b<|ny c) (fun | .c0 p _=>Ld p.a2 | .c1 _ _ c=>Ld c) (λ_ _ _=>rfl) (λ_ _ _=>rfl) (fun
  | .c0 p b,h=>by have h:Ld p.a2:=h;simp[yg,LT.mp,LT.al,LS,h,and_self]
  | .c1 p b c,h=>by have h:Ld c:=h;simp[yg,DW,Qz (k:=1) (by decide) h,Qz (k:=1) (by decide)<|rO c,Qz (k:=2) (by decide) h,Qz (k:=2) (by decide)<|rO c,Mp.e,Mp.p,Mp.k,LT.mp,LT.al,LS,h,and_self]) λx a h=>by
 simp[SE,LT.mp,LT.al,LS,h,and_self]
def amt:Lo OQ MN:=Lo.Xd (t:=λx a=>Sy af x a) (fun | .c0 p=>.c0 {p with a2:=ny p.a2}) (fun | .c0 p=>Ld p.a2) (λ_ _ _=>rfl) (λ_ _ _=>rfl) (fun
  | .c0 p,h=>by
    have e:∀v,uA (Df p.a2.c,v)=uA (p.a2.c,v)/\yb (Df p.a2.c,v)=yb (p.a2.c,v):=λ_=>⟨rfl,rfl⟩;simp[Ni,wK,wL,SP,yp,wM,I9,Al.e,Al.p,Al.k,e,LT.mp,LT.al,LS,h,and_self]) λx a h=>by
 simp[Sy,Vi,NK,NL,AI,amy.e,amy.p,amy.k,amz.e,amz.p,amz.k,LT.mp,LT.al,LS,h,and_self]
def ams:Lo OP MM:=Lo.Xd (t:=λx a=>Sx af x a) (fun | .c0 p b c=>.c0 p b<|ny c) (fun | .c0 _ _ c=>Ld c) (λ_ _ _=>rfl) (λ_ _ _=>rfl) (fun
  | .c0 p b c,h=>by have h:Ld c:=h;simp[J7,ve,vf,wJ,DO,amx.e,amx.p,amx.k,LT.mp,LT.al,LS,h,and_self]) λx a h=>by
 simp[Sx,LT.mp,LT.al,LS,h,and_self]
def V9{c:qB}{i p:Int}(h:p≠i):(Ug (m,c,o,i,p)).2=0->(Ug (m,c,o,i,p)).1=(0,0):=
 vL (t:=ao8 af m c o i p) (P:=λr=>r.2=0->r.1=(0,0)) (dD (λ_=>ay λ_=>rfl) λ_=>aW (λ_=>ay λ_=>rfl) λ_=>nE (λ_=>ay λ_=>rfl) λ_=>aW (λ_=>ay λ_=>rfl) λ_=>nE (λ_=>ay λ_=>rfl) λ_=>aW (λ_=>ay λ_=>rfl) λ_=>kY (λ_=>ay λ_=>rfl) λ_=>dD (λ_=>ay λ_=>rfl) λe=>absurd e.symm h) (LT.gI<|by kernel_rfl) (LT.jg<|by kernel_rfl)
def Wb{s:fC}:(Bu ((0,0),s)).2=false:=
 vL (t:=ahy af (0,0) s) (P:=λr=>r.2=false) (dD (λ_=>ay rfl) λ_=>dD (λ_=>ay rfl) λ_=>cX (λ_=>ay rfl) λg=>absurd (Pe g).C<|by decide) (LT.gI<|by kernel_rfl) (LT.jg<|by kernel_rfl)
theorem shut{i:Int}{c:fB}{s:fC}(h:Ld x)(j:c.2.1≠i)(l:nG (x,i,c,s)=true):(gq (x,i,c,s)).1=x/\(gq (x,i,c,s)).2.2=false:=by
 have q:=(Ri (a:=(i,c,s)) h _).1<|dN (d:=(Ty.aR [jS],Ty.aR [iC,.bool])) ((fZ _ _).mp l).1;have hs:(tZ af<|abv x i c s).2=0->(tZ af<|abv x i c s).1=(0,0):=V9 (m:=x.2.1) (c:=(af.n bS x.g i:cN).2.1) (o:=(af.n yI x.c.e i:Int)) j;have f:∀(o:Span×Int) (a b:Bool) (r:Net×(fC×Bool)),(o.2=0->o.1=(0,0))->aV (wC af) (.ao a<|.ao b<|.br (af.cm o.2 0) (.ret (x,(0,(0,0),0,0,([]:List Int)),false))<|.ret (x,af.k Bu (o.1,s))) r->r.1=x/\r.2.2=false:=λo a b r hs k=>by
  have k:=(au.1 (au.1 k).2).2;rcases e:decide (o.2=0) with _|_
  .rw[<-lW.1<|(ar (by rw[bZ];simpa using e)).1 k]
   simp_all
  .have z:=of_decide_eq_true e;rw[<-lW.1<|(ap (by rw[bZ];simp_all)).1 k,hs z];exact⟨rfl,Wb⟩
 exact f _ _ _ _ hs q
def B4{R:Type}{s:Y->LT R Y}{t e:LT R Y}{r:R}(k:aV s (.br b t e) r):aV s t r\/aV s e r:=by
 cases b
 .exact .inr<|(ap rfl).1 k
 .exact .inl<|(ar rfl).1 k
section
variable {x:Net} (h:Ld x) {r:Net×Unit}
def dn7{p:xk}(a:p.h1=false)(e:p.h2=false)(k:aV (lX af) (lX af<|.c7 p) r):r=(p.h4,()):=
 (lW.1<|(ap a).1<|(ar (by rw[e];rfl)).1 k).symm
include h
def dn5{p:Lx}(l:p.f3=x)(j:p.f8.2.1≠p.f0)(f:p.f1=false)(k:aV (lX af) (lX af<|.c5 p) r):r=(x,()):=by
 subst l;have⟨e,k⟩:=au.1 k;have⟨a,b⟩:=shut h j e;rw[dn7 f b<|aG.1 (au.1 k).2];exact congrArg (·,()) a
def dn1{p:FL}(j:p.b3=x)(f:p.b8.2.1≠p.b0)(k:aV (lX af) (lX af<|.c1 p) r):r=(x,()):=by
 subst j;have⟨e,k⟩:=au.1 k;have⟨a,b⟩:=shut h f e;exact dn5 h a f rfl<|aG.1<|(ar (b:=af.not _) (by rw[show(af.k gq<|Ji af p).2.2=false from b];rfl)).1<|aG.1 (au.1 k).2
def dn6{p:pR}(j:p.g4=x)(f:p.g13.2.1≠p.g5)(a:p.g1=false)(e:p.g2=false)(k:aV (lX af) (lX af<|.c6 p) r):r=(x,()):=by
 subst j;rcases B4 (au.1 ((ap a).1 ((ar (by rw[e];rfl)).1 k))).2 with k|k
 .exact(lW.1 k).symm
 rcases B4 k with k|k
 .exact(lW.1 k).symm
 rcases B4 k with k|k
 .exact(lW.1 k).symm
 exact dn1 h rfl f<|aG.1 k
def dn4{p:Lv}(n:p.e3=x)(j:p.e7.2.1≠p.e0)(l:p.e11.2.1≠p.e4)(f:p.e1=false)(k:aV (lX af) (lX af<|.c4 p) r):r=(x,()):=by
 subst n;have⟨e,k⟩:=au.1 k;have⟨a,b⟩:=shut h j e;exact dn6 h a l f b<|aG.1 (au.1 k).2
def dn0{p:Ls}(l:p.a3=x)(f:p.a7.2.1≠p.a0)(j:p.lq.2.1≠p.a4)(k:aV (lX af) (lX af<|.c0 p) r):r=(x,()):=by
 subst l;have⟨e,k⟩:=au.1 k;have⟨a,b⟩:=shut h f e;exact dn4 h a f j rfl<|aG.1<|(ar (b:=af.not _) (by rw[show(af.k gq<|Jh af p).2.2=false from b];rfl)).1<|aG.1 (au.1 k).2
theorem slot_ne{k i:Int}{c:fB}(f:k=9\/k=10)(q:(dV (jF x (),k,i,c)).2=true):c.2.1≠i:=by
 have⟨a,b,d,e⟩:=(sF (v:=(jF x (),k,i,c)) h.1).2 q;have n:=(h.2 _ a).2;have e:(dV (jF x (),k,i,c)).1.e=c.2.1:=e.elim id λe=>by
  rw[show(dV (jF x (),k,i,c)).1.1=k from b] at e;rcases f with rfl|rfl<;>cases e
 simp_all
def Zd{i:Int}{c:fB}(k:aV (lX af) (NB af x i c) r):r=(x,())/\aV (lX af) (NB af (ny x) i c) (ny x,()):=by
 have⟨e,k⟩:=au.1 k;have g:=λk=>ap0 (x:=ny x) (k:=k) (n:=i) (c:=c) (aM _) λf q=>absurd (show f∈ [] from q) aC;refine⟨?_,au.2 ⟨e,au.2 ⟨(g 9).2,(ap<|congrArg Prod.snd (g 9).1).2<|au.2 ⟨(g 10).2,(ar<|congrArg (λv=>af.not v.2) (g 10).1).2<|.ret _⟩⟩⟩⟩;have k:=(au.1 k).2;cases q:(af.k dV (jF x (),9,i,c)).2
 .have k:=(au.1<|(ap q).1 k).2;cases q:(af.k dV (jF x (),10,i,c)).2
  .exact(lW.1<|(ar (by rw[q];rfl)).1 k).symm
  .rcases B4 ((ap (by rw[q];rfl)).1 k) with k|k
   .exact(lW.1 k).symm
   rcases B4 k with k|k
   .exact(lW.1 k).symm
   have n:=slot_ne h (.inr rfl) q;exact dn1 (p:=⟨i,i,x,i,_,_,_,c,i,c⟩) h rfl n<|aG.1 k
 .have n:=slot_ne h (.inl rfl) q;exact dn0 (p:=⟨i,i,x,i,_,_,c,i,c⟩) h rfl n n<|aG.1<|(ar q).1 k
end
def _root_.Go.Ev.LT.sm{R R' Y Y':Type}(h:R->R')(g:Y->Y'):LT R Y->LT R' Y'->Prop
 | .ret r,.ret r'=>r'=h r
 | .ak y,.ak a=>a=g y
 | .br b t e,.br b' t' e'=>b'=b/\t.sm h g t'/\e.sm h g e'
 | .ao b t,.ao b' t'=>b=true->b'=true/\t.sm h g t'
 | .bY _ _,_=>True
 | _,_=>False
def U1{R R' Y':Type}{h:R->R'}{g:Y->Y'}{s:Y->LT R Y}{s':Y'->LT R' Y'}{P:R->Prop}{Q:Y->Prop}(hs:∀y,Q y->(s y).sm h g (s'<|g y)/\(s y).al P Q){t:LT R Y}{r:R}(k:aV s t r):∀{u:LT R' Y'},t.sm h g u->t.al P Q->aV s' u (h r)/\P r:=by
 induction k with
 | ret r=>intro u m a;cases u<;>first|exact m.elim|(cases m;exact⟨.ret _,a⟩)
 | ak _ ih=>intro u m a;cases u<;>first|exact m.elim|(cases m;have⟨p,q⟩:=ih (hs _ a).1 (hs _ a).2;exact⟨.ak p,q⟩)
 | @br b _ _ _ _ ih=>
   intro u m a;cases u<;>first|exact m.elim|skip
   obtain⟨rfl,e,f⟩:=m;rename_i j _ _ _;cases j
   .exact⟨.br (ih f a.2).1,(ih f a.2).2⟩
   .exact⟨.br (ih e a.1).1,(ih e a.1).2⟩
 | ao hb _ ih=>
   intro u m a;cases u<;>first|exact m.elim|skip
   have⟨p,q⟩:=m hb;exact⟨.ao p (ih q a).1,(ih q a).2⟩
 | eqs _ _ _=>intro u m _;cases u<;>exact m.elim
 | and _ _ _ _=>intro u m _;cases u<;>exact m.elim
structure Lw{α β:Type}(f:Net×α->Net×β)(p:Net×α->Bool):Prop where
 e:∀{x:Net} {a:α},Ld x->p (x,a)=true->f (ny x,a)=V7 (f (x,a))
 p:∀{x:Net} {a:α},Ld x->p (x,a)=true->p (ny x,a)=true
 k:∀{x:Net} {a:α},Ld x->Ld (f (x,a)).1
theorem Lw.Xd{s:Y->LT (Net×β) Y}{t:Net->α->LT (Net×β) Y}{d:β}(g:Y->Y)(Q:Y->Prop)(j:∀x a,f (x,a)=fA s (t x a) (Ty.aR [jS],d))
  (l:∀x a,p (x,a)=(fO s (t x a)&&decide (VF.lens [fJ] (f (x,a)).1=VF.lens [fJ] x))) (hs:∀y,Q y->(s y).sm V7 g (s<|g y)/\(s y).al (λr=>Ld r.1) Q) (n:∀x a,Ld x->(t x a).sm V7 g (t (ny x) a)/\(t x a).al (λr=>Ld r.1) Q):Lw f p:=by
 have A:∀{x:Net} {a:α} {r:Net×β},Ld x->aV s (t x a) r->aV s (t (ny x) a) (V7 r)/\Ld r.1:=λ{x a r} h k=>U1 hs k (n x a h).1 (n x a h).2;have E:∀{x:Net} {a:α},Ld x->p (x,a)=true->f (ny x,a)=V7 (f (x,a)):=λ{x a} h q=>by
  rw[l] at q;rw[j,j];exact nT (A h<|dN ((fZ _ _).mp q).1).1
 refine⟨E,λ{x a} h q=>?_,λ{x a} h=>?_⟩
 .have e:=E h q;rw[l] at q ⊢;have⟨o,u⟩:=(fZ _ _).mp q;rw[e,rf (A h<|dN (d:=(Ty.aR [jS],d)) o).1];exact u
 .rw[j];by_cases k:∃r,aV s (t x a) r
  .have⟨r,k⟩:=k;rw[nT k]
   grind
  .rw[yR k];exact⟨aM _,λf h=>absurd (show f∈ [] from h) aC⟩
def aqw{a:Int×fB}(h:Ld x):Ld (tG (x,a)).1:=by
 show Ld (fA (lX af) (NB af x a.1 a.2) (Ty.aR [jS],Ty.aR [])).1;by_cases k:∃r,aV (lX af) (NB af x a.1 a.2) r
 .have⟨r,k⟩:=k;rw[nT k,(Zd h k).1];exact h
 .rw[yR k];exact⟨aM _,λf h=>absurd (show f∈ [] from h) aC⟩
theorem dstE{a:Int×fB}(h:Ld x)(q:Il (x,a)=true):tG (x,a)=(x,())/\Il (ny x,a)=true/\tG (ny x,a)=(ny x,()):=by
 have⟨e,k⟩:=Zd h<|dN (d:=(Ty.aR [jS],Ty.aR [])) ((fZ _ _).mp q).1;have f:tG (ny x,a)=(ny x,()):=nT k;refine⟨e,?_,f⟩;show(fO _ (NB af (ny x) a.1 a.2)&&decide (VF.lens [fJ] (tG (ny x,a)).1=VF.lens [fJ] (ny x)))=true;rw[rf k,f]
 simp_all
def amw:Lw OT MQ:=Lw.Xd (t:=λx a=>SB af x a) (fun | .c0 p=>.c0 {p with a1:=ny p.a1} | .c1 p b c=>.c1 {p with b6:=Df p.b6} b (ny c)) (fun | .c0 p=>Ld p.a1 | .c1 _ _ c=>Ld c) (λ_ _=>rfl) (λ_ _=>rfl) (fun
  | .c0 p,h=>by have h:Ld p.a1:=h;simp[ye,LT.sm,LT.al,LS,h,and_true,imp_self]
  | .c1 p b c,h=>by
    refine⟨?_,?_⟩
    .simp(config:={contextual:=true}) only[ye,vg,rW,vh,LT.sm,LS,h,dstE,aaL.e,aaL.p,aaL.k,Hg.e,Hg.p,Hg.k,and_self,implies_true,imp_self,true_and]
    .simp[ye,vg,vh,LT.al,LS,h,aqw,aaL.k,Hg.k,and_true,true_and];exact Hg.k<|aaL.k<|aqw h) λx a h=>by
 simp[SB,Vj,AN,Qz (k:=1) (by decide) h,Qz (k:=1) (by decide)<|rO x,Mp.e,Mp.p,Mp.k,LT.sm,LT.al,LS,h,and_true,imp_self]
def afN:Lw wU Dl:=Lw.Xd (s:=Empty.elim) (t:=λx _=>Qm af x) id (λ_=>True) (λ_ _=>rfl) (λ_ _=>rfl) nofun λx a h=>by
 refine⟨?_,?_⟩
 .simp(config:={contextual:=true}) only[Qm,ng,AB,DL,rV,o_,DN,AF,ams.e,ams.p,amt.e,amt.p,amu.e,amu.p,amv.e,amv.p,amw.e,amw.p,LT.sm,LS,h,and_self,and_true,implies_true,imp_self]
 .simp[Qm,rV,o_,ams.k,amt.k,amu.k,amv.k,amw.k,LT.al,LS,h,and_self]
def afM:Lo wT ML:=Lo.O0 (t:=λx _=>Sv af x) (λ_ _=>rfl) (λ_ _=>rfl) λx a h=>by
 simp[Sv,LT.mp,LT.al,LS,h,and_self]
def aqy:Lo GR Ii:=Lo.Xd (t:=λx _=>WY af x) (fun | .c0 p=>.c0 {p with a2:=ny p.a2} | .c1 p b c=>.c1 {p with b2:=ny p.b2} b c) (fun | .c0 p=>Ld p.a2 | .c1 p _ _=>Ld p.b2) (λ_ _ _=>rfl) (λ_ _ _=>rfl) (fun
  | .c0 p,h=>by have h:Ld p.a2:=h;simp[PZ,DJ,LT.mp,LT.al,LS,h,and_self]
  | .c1 p b c,h=>by have h:Ld p.b2:=h;simp[PZ,DK,LT.mp,LT.al,LS,h,and_self]) λx a h=>by
 simp[WY,LT.mp,LT.al,LS,h,and_self]
def Zz:nC m []=[]:=by
 unfold nC;cases decide (jN m=0)
 .rfl
 .rw[cond_true,mB,List.mergeSort_nil];rfl
def YS:dL m (Df s)=Df (dL m s):=by
 show(_,_,_,_,_,_,_,(nC m []).take 256)=_;rw[Zz];rfl
def JU(r:Bool×Net×Int):Bool×Net×Int:=(r.1,ny r.2.1,r.2.2)
def abd(h:dP m=true)(A:tO (m,s)=true)(u:tO (m,Df s)=true)(v:LdF (dL m s).2.2.2.2.2.2.2)(q:Ih (m,s)=true):
  Ih (m,Df s)=true/\nD (m,Df s)=JU (nD (m,s))/\Ld (nD (m,s)).2.1:=by
 have⟨a1,a2⟩:=QR h A;have⟨n,o⟩:=QR h u;have e:pE (m,Df s)=JU (pE (m,s)):=by rw[o,a2,YS];rfl
 have L:Ld (pE (m,s)).2.1:=by rw[a2];exact v
 have z:ny (Ty.gy jS)=(Ty.gy jS:Net)/\Ld (Ty.gy jS:Net):=⟨rfl,aM _,λf h=>absurd (show f∈ [] from h) aC⟩
 have hs:∀y:Yx,(match y with | .c0 p _ _=>Ld p.a5 | .c1 _ _ c=>Ld c)->B5 af (match y with | .c0 p a b=>.c0 {p with a5:=ny p.a5} a b | .c1 p b c=>.c1 p b<|ny c)=(B5 af y).mp JU (fun | .c0 p a b=>.c0 {p with a5:=ny p.a5} a b | .c1 p b c=>.c1 p b<|ny c)/\(B5 af y).al (λr=>Ld r.2.1) (fun | .c0 p _ _=>Ld p.a5 | .c1 _ _ c=>Ld c):=fun
  | .c0 p a b,h=>by have h:Ld p.a5:=h;simp[B5,LT.mp,LT.al,LS,h,and_self]
  | .c1 p b c,h=>by have h:Ld c:=h;simp[B5,NI,ym,JU,z,Al.e,Al.p,Al.k,LT.mp,LT.al,LS,h,and_self]
 have j:NA af m (Df s)=(NA af m s).mp JU (fun | .c0 p a b=>.c0 {p with a5:=ny p.a5} a b | .c1 p b c=>.c1 p b<|ny c)/\(NA af m s).al (λr=>Ld r.2.1) (fun | .c0 p _ _=>Ld p.a5 | .c1 _ _ c=>Ld c):=by
  have c1:(JU<|pE (m,s)).1=(pE (m,s)).1/\(JU<|pE (m,s)).2.1=ny (pE (m,s)).2.1/\(JU<|pE (m,s)).2.2=(pE (m,s)).2.2:=⟨rfl,rfl,rfl⟩;simp[NA,e,a1,n,L,JU,z,LT.mp,LT.al,LS,and_self]
 have⟨k,l⟩:=Ff hs (dN (d:=(false,Ty.gy jS,Ty.aR [yI])) q) j.2;rw[<-j.1] at k;exact⟨rf k,nT k,l⟩
def abZ(h:dP m=true)(e:tO (m,s)=true)(n:tO (m,Df s)=true)(o:LdF (dL m s).2.2.2.2.2.2.2):Dk (m,Df s)=true/\pY (m,Df s)=pY (m,s):=by
 have⟨q,j,u,_⟩:=abb h e;have⟨n1,p,f⟩:=abd h e n o q
 have hs:∀y:Yw,(match y with | .c0 a=>Ld a | .c1=>True)->(zj af y).sm id (fun | .c0 a=>.c0 (ny a) | .c1=>.c1) (zj af<|match y with | .c0 a=>.c0 (ny a) | .c1=>.c1)/\(zj af y).al (λ_=>True) (fun | .c0 a=>Ld a | .c1=>True):=fun
  | .c0 a,h=>by
    refine⟨?_,?_⟩
    .simp(config:={contextual:=true}) only[zj,afM.e,afM.p,afM.k,afN.e,afN.p,afN.k,aqy.e,aqy.p,LT.sm,LS,h,id,and_self,and_true,implies_true,imp_self]
    .simp[zj,afM.k,afN.k,LT.al,LS,h,and_self]
  | .c1,_=>⟨trivial,trivial⟩
 have R:=dN (d:=Ty.aR [.slice gD,yI]) (abY h e).1;have z:af.cm (af.k nD (m,s)).2.2 0=false:=by rw[show(af.k nD (m,s)).2.2=0 from u];rfl
 have l:=aG.1<|(ap z).1<|(ar j).1 (au.1 R).2;have K:=(U1 hs l (hs (.c0 (nD (m,s)).2.1) f).1 (hs (.c0 (nD (m,s)).2.1) f).2).1;have k:aV (zj af) (adl af m<|Df s)<|pY (m,s):=by
  refine au.2 ⟨n1,?_⟩;rw[show af.k nD (m,Df s)=JU (nD (m,s)) from p];exact(ar j).2 ((ap z).2<|.ak K)
 exact⟨rf k,nT k⟩
theorem Mx(h:nZ m=0):dP m=true:=by
 have h:(bif dP m then(0:Int) else 70)=0:=h
 grind
theorem zh(h:i<=4000000000000000000):af.bJ (i:Int) 1=((i+1:Nat):Int):=by
 rw[dq (by omega)];omega
def anB{p:XV}(q:p.b1<=1024):∀(f i:Nat) (a:List Int),1024-i<=f->a.length=i->i<=1025->Go (PY af) (PY af<|.c1 p i a) λ_=>True:=by
 intro f
 induction f with
 | zero=>exact λi a n e _=>aW (λg=>absurd g<|by omega) λ_=>ay trivial
 | succ f ih=>
   intro i a n e o;refine aW (λg=>?_) λ_=>ay trivial;have j:∀v:Int,Go (PY af) (.ao (af.bE (af.l<|af.p a [v]) 17592186044416)<|.ak<|.c1 p (af.bJ i 1)<|af.p a [v]) λ_=>True:=λv=>by
    rw[zh<|by omega];exact ah (gh<|by omega)<|aP<|ih (i+1) _ (by omega) (by rw[mC,t_,e];rfl) (by omega)
   exact aW (λk=>ah (bM (l:=p.b0) ⟨by omega,k⟩)<|j _) λ_=>j _
def M6{l:List Int}{n b:Int}(f:n<=1024):qe (l,n,a,b,d)=true:=by
 refine(fQ (s:=PY af) (t:=ahb af l n a b d) (d:=[]) (P:=λ_=>True)<|aP<|aW (λ_=>?_) λ_=>ay trivial).1;have e:∀v:Int,Go (PY af) (.ao (af.bE (af.l [v]) 17592186044416)<|.ak<|.c1 ⟨l,n,a,b,d⟩ (af.bJ 0 1) [v]) λ_=>True:=λv=>ah (cr<|show(1:Int)<=17592186044416 by decide)<|aP<|anB (p:=⟨l,n,a,b,d⟩) f _ 1 [v] (ai _) rfl (by decide);exact aW (λk=>ah (bM (l:=l) ⟨aj 0,k⟩)<|e _) λ_=>e _
theorem ani{p:Lp}{l:List cq}(u:p.b0=l)(F:l.length<=1000):∀(f i:Nat) (d:Bool) (a:List cq),l.length-i<=f->i<=l.length->a.length=i+d.toNat->Go (J6 af) (J6 af<|.c1 p d i a) λr=>r.length=l.length+1:=by
 have q:∀(i:Nat) (d:Bool) (a:List cq),l.length<=i->i<=l.length->a.length=i+d.toNat->Go (J6 af) (J6 af<|.c1 p d i a) λr=>r.length=l.length+1:=λi d a C z j=>by
  refine aW (λg=>absurd (show(i:Int)<(p.b0.length:Int) from g)<|by simp_all) λ_=>?_;cases d
  .have j:a.length=i:=j;exact cX (λ_=>ah (gh<|by omega)<|ay (by show(af.p a _).length=_;rw[mC,t_,j];grind)) nofun
  .have j:a.length=i+1:=j;exact cX nofun λ_=>ay (by omega)
 intro f
 induction f with
 | zero=>grind
 | succ f ih=>
   intro i d a D z j;by_cases g:i<l.length
   .have o:af.and (af.bE 0 i) (af.bo i<|af.l p.b0)=true:=by rw[u];exact bM (by omega)
    have al:∀(b:List cq) (v:cq),(af.p b [v]).length=b.length+1:=λb v=>by rw[mC,t_];rfl
    have G:a.length<=i+1:=by cases d<;>simp at j<;>omega
    refine aW (λ_=>?_) λk=>absurd (show(p.b0.length:Int)<=(i:Int) from k) (by simp_all);have n:∀(e:Bool) (b:List cq),b.length=i+1+e.toNat->Go (J6 af) (.ak<|.c1 p e (af.bJ i 1) b) λr=>r.length=l.length+1:=λe b A=>by
     rw[zh<|by omega];exact aP<|ih (i+1) e b (by omega) (by omega) A
    refine cX (λk=>ah o<|du (λ_=>ah (gh<|by omega)<|ah (gh (by show((af.p a [_]).length:Int)+1<=_;grind))<|n true _ ?_) λ_=>ah (gh<|by omega)<|n d _ ?_) λk=>ah o<|ah (gh<|by omega)<|n d _ ?_
    .have j:a.length=i:=by simp_all
     exact(al _ _).trans ((congrArg (· + 1)<|al _ _).trans<|by simp_all)
    .exact(al _ _).trans (by omega)
    .exact(al _ _).trans (by omega)
   grind
theorem abO{l:List cq}{o:cq}(n:l.length<=1000):ya (l,o)=true/\(Eh (l,o)).length=l.length+1:=by
 refine fQ (s:=J6 af) (t:=ahd af l o) (d:=[]) (P:=λr=>r.length=l.length+1) (aP ?_);have one:∀v:cq,af.bE (af.l [v]) 2199023255552=true:=λ_=>cr (show(1:Int)<=2199023255552 by decide);have e:∀v w:cq,af.bE (af.l (af.p [v] [w])) 2199023255552=true:=λv _=>gh (l:=[v]) (by simp_all);refine aW (λg=>?_) λg=>cX (λ_=>ah (one _) (ay ?_)) nofun
 .have g:0<l.length:=by have g:(0:Int)<(l.length:Int):=g;omega
  have q:af.and (af.bE 0 0) (af.bo 0 (af.l l))=true:=bM (by omega);have f:∀(d:Bool) (a:List cq),a.length=1+d.toNat->Go (J6 af) (.ak (.c1 ⟨l,(o.1,(o.2.1,o.2.2.1),o.2.2.2)⟩ d (af.bJ 0 1) a)) λr=>r.length=l.length+1:=λd a j=>aP (ani (p:=⟨l,(o.1,(o.2.1,o.2.2.1),o.2.2.2)⟩) rfl n _ 1 d a (ai _) g j);exact cX (λ_=>ah q (du (λ_=>ah (one _) (ah (e _ _) (f true _ rfl))) λ_=>ah (one _) (f false _ rfl))) nofun
 .have g:(l.length:Int)<=0:=g;show 1=_;omega
theorem Pd{o:cq}(h:T9 (m,o)=true):o.2.2.2.2.2.length<=8:=by
 revert h;have a:∀{P:Prop},Go Empty.elim (.ret false) λr=>r=true->P:=ay nofun
 have z:∀{n:Int},0<=n->n<=8->Go Empty.elim (.ret (af.bq (af.l o.2.2.2.2.2) 0)) λr=>r=true->o.2.2.2.2.2.length<=8:=λ_ _=>ay λk=>by
  have k:(o.2.2.2.2.2.length:Int)=0:=of_decide_eq_true k;omega
 exact vL (t:=aoU af m o) (P:=λr=>r=true->_) (aW (λ_=>a) λ_=>nE (λ_=>a) λ_=>aW (λ_=>a) λ_=>nE (λ_=>a) λ_=>aW (λ_=>a) λ_=>nE (λ_=>a) λ_=>
  cv (λ_=>cv (λ_=>ay λk=>by have k:(o.2.2.2.2.2.length:Int)<=8:=of_decide_eq_true k;omega) λ_=>a) λ_=>cv (λ_=>cv (λ_=>z (aj 0) (by decide)) λ_=>a) λ_=>cv (λ_=>nE (λ_=>aW (λ_=>z (aj 0) (by decide)) λ_=>a) λ_=>a) λ_=>a) (LT.gI (by rfl)) (LT.jg (by rfl))
theorem amX{p:Ln}{l:List cq}(A:p.b0=l)(I:l.length<=140737488355328):∀(f i n:Nat) (a:List cq),l.length-i<=f->i<=l.length->a.length=n->n<=256->Go (EX af) (EX af (.c1 p a (n:Int) (i:Int))) λr=>r.length<=256:=by
 intro f
 induction f with
 | zero=>exact λi n a D _ e j=>aW (λg=>absurd (show(i:Int)<(p.b0.length:Int) from g) (by grind)) λ_=>ay (by omega)
 | succ f ih=>
   intro i n a D H e j;refine aW (λg=>?_) λ_=>ay (by omega);have g:i<l.length:=by have g:(i:Int)<(p.b0.length:Int):=g;simp_all
   have u:∀(k:Nat) (b:List cq),b.length=k->k<=256->Go (EX af) (.ak (.c1 p b (k:Int) (af.bJ (i:Int) 1))) λr=>r.length<=256:=λk b C v=>by
    rw[zh (by omega)];exact aP (ih (i+1) k b (by omega) (by omega) C v)
   have z:∀o:cq,n<256->Go (EX af) (.ao (af.k ya (a,o)) (.ak (.c1 p (af.k Eh (a,o)) (af.bJ (n:Int) 1) (af.bJ (i:Int) 1)))) λr=>r.length<=256:=λo v=>by
    obtain⟨F,G⟩:=abO (l:=a) (o:=o) (by omega);rw[zh (i:=n) (by omega)];exact ah F (u (n+1) _ (G.trans (by rw[e])) (by omega))
   refine ah (by rw[A];exact bM (l:=l) (by omega)) (du (λk=>aW (λq=>cv (λ_=>z _ (by omega)) λ_=>ah ?_ (z _ (by omega))) λ_=>u n a e j) λ_=>u n a e j);exact cr (bP (Int.ofNat_le.2 (Pd k)) (by decide:((8:Nat):Int)<=140737488355328))
theorem af1{p:QD}{l:List cq}(a:p.a0=l)(q:l.length<=140737488355328):∀(f i:Nat),l.length-i<=f->i<=l.length->Go (EX af) (EX af<|.c0 p i) λr=>r.length<=256:=by
 intro f
 induction f with
 | zero=>exact λi n _=>aW (λg=>absurd (show(i:Int)<(p.a0.length:Int) from g)<|by grind) λ_=>ay<|aM _
 | succ f ih=>
   intro i n z;refine aW (λg=>?_) λ_=>ay<|aM _;have g:i<l.length:=by have g:(i:Int)<(p.a0.length:Int):=g;simp_all
   have e:Go (EX af) (.ak<|.c0 p<|af.bJ i 1) λr=>r.length<=256:=by
    rw[zh<|by omega];exact aP<|ih (i+1) (by omega) (by omega)
   have j:∀o:cq,Go (EX af) (.ao (af.k ya (([]:List cq),o))<|.ak<|.c1 ⟨p.a0,p.a3⟩ (af.k Eh (([]:List cq),o)) (af.bJ 0 1)<|af.bJ i 1) λr=>r.length<=256:=λo=>by
    have⟨u,v⟩:=abO (l:=[]) (o:=o)<|aM _;rw[zh<|by omega];exact ah u<|aP<|amX (p:=⟨p.a0,p.a3⟩) a q _ (i+1) 1 _ (ai _) (by omega) v (by decide)
   refine ah (by rw[a];exact bM (l:=l)<|by omega)<|du (λk=>du (λ_=>cv (λ_=>j _) λ_=>ah ?_<|j _) λ_=>e) λ_=>e;exact cr<|bP (Int.ofNat_le.2<|Pd k) (by decide:((8:Nat):Int)<=140737488355328)
def amY{l:List cq}(a:l.length<=140737488355328):Ib (m,l)=true/\(Eg (m,l)).length<=256:=
 fQ (s:=EX af) (t:=ahc af m l) (d:=[]) (P:=λr=>r.length<=256) (aP<|af1 (p:=⟨l,m⟩) rfl a _ 0 (ai _)<|aM _)
def Ob(m:aA)(l:List bK)(r:gH×Int):Prop:=r.2=0->nZ m=0/\r.1.2.2.2.2.2.2.2=(nO m l []).take 256/\r.1.2.2.2.2.2.2.1.length<=256/\r.1.2.1.length<=8
theorem Y_{s:Y->LT (gH×Int) Y}{c:gH}{u:List Bool}{w:Int}{v0 v1 v2 v3:List Int×Int×Int×Int×Int}(a:nZ m=0)(v:l.length<=2513169434916)(z:c.2.2.2.2.2.2.1.length<=140737488355328)(f:u.length<=8)(e:l=c.2.2.2.2.2.2.2)
  (n:v0.2.1<=1024) (o:v1.2.1<=1024) (p:v2.2.1<=1024) (q:v3.2.1<=1024) :
  Go s (.ao (af.k qe v0) (.ao (af.k qe v1) (.ao (af.k qe v2) (.ao (af.k qe v3) (.ao (af.k Ib (m,c.2.2.2.2.2.2.1)) (.ao (af.k Dj (m,c.2.2.2.2.2.2.2)) (.br (af.jD (af.l<|af.k Bs (m,c.2.2.2.2.2.2.2)) 256)
   (.ao (af.and (af.bE 0 0)<|af.and (af.bE 0 256)<|af.bE 256<|af.l<|af.k Bs (m,c.2.2.2.2.2.2.2))<|.ret ((w,u,af.k mH v0,af.k mH v1,af.k mH v2,af.k mH v3,af.k Eg (m,c.2.2.2.2.2.2.1),af.s (af.k Bs (m,c.2.2.2.2.2.2.2)) 0 256),0))
   (.ret ((w,u,af.k mH v0,af.k mH v1,af.k mH v2,af.k mH v3,af.k Eg (m,c.2.2.2.2.2.2.1),af.k Bs (m,c.2.2.2.2.2.2.2)),0))))))))) (Ob m l):=by
 subst e;have⟨A,j⟩:=amY (m:=m) z;refine ah (M6 n)<|ah (M6 o)<|ah (M6 p)<|ah (M6 q)<|ah A<|ah (cr v)<|kY (λg=>ah ?_<|ay λ_=>⟨a,?_,j,f⟩) λg=>ay λ_=>⟨a,?_,j,f⟩
 .have g:(256:Int)<((nO m c.G []).length:Int):=g;rw[bu,bu,aB,aB,aB,cr<|aj 0,cr<|show(0:Int)<=256 by decide]
  grind
 .rfl
 .have g:((nO m c.G []).length:Int)<=256:=g;exact(dI (l:=nO m c.G [])<|by omega).symm
theorem alK{p:FF}(n:nZ p.b2=0)(q:l.length<=2513169434916)(u:p.b3.2.2.2.2.2.2.1.length<=140737488355328)(e:l=p.b3.2.2.2.2.2.2.2):∀(f i:Nat) (a:List Bool),8-i<=f->i<=8->a.length=i->Go (J5 af) (J5 af<|.c1 p i a) (Ob p.b2 l):=by
 have C:=(w7<|Mx n).1;have D:∀(i:Int) (a:List Bool),a.length<=8->¬i<p.b2.1->Go (J5 af) (J5 af<|.c1 p i a) (Ob p.b2 l):=λi a j g=>by
  refine aW (λk=>absurd k g) λ_=>?_;exact Y_ (v0:=(p.b3.c,p.b2.1,0,p.b0,0)) (v1:=(p.b3.d,p.b2.1,40,60,50)) (v2:=NF af p) (v3:=NG af p) n q u j e (show p.b2.1<=1024 by omega) (show p.b2.1<=1024 by omega) (show p.b2.1<=1024 by omega) (show af.mn (af.l p.b3.f) 1024<=1024 by rw[mZ];omega)
 intro f
 induction f with
 | zero=>grind
 | succ f ih=>
   intro i a A z j;by_cases g:(i:Int)<p.b2.1
   .refine aW (λ_=>?_) λk=>absurd g<|iX.2 k;have o:∀v:Bool,Go (J5 af) (.ao (af.bE (af.l<|af.p a [v]) 140737488355328)<|.ak<|.c1 p (af.bJ i 1)<|af.p a [v])<|Ob p.b2 l:=λv=>by
     rw[zh<|by omega];exact ah (gh<|by omega)<|aP<|ih (i+1) _ (by omega) (by omega) (by rw[mC,t_,j];rfl)
    exact nE (λ_=>o _) λk=>ah (bM (l:=p.b3.2.1) ⟨by omega,k⟩)<|o _
   simp_all
def Y9(f:s.2.2.2.2.2.2.2.length<=2513169434916)(j:s.2.2.2.2.2.2.1.length<=140737488355328):Ia (m,s)=true/\Ob m s.2.2.2.2.2.2.2 (rZ (m,s)):=by
 refine fQ (s:=J5 af) (t:=ag8 af m s) (d:=Ty.aR [lD,yI]) (P:=Ob m s.G)<|dD (λg=>ay λk=>absurd k g) λa=>aP ?_;have n:=(w7<|Mx a).1;refine aW (λ_=>?_) λk=>absurd (show m.1<=0 from k) (by omega)
 have e:∀v:Bool,Go (J5 af) (.ao (af.bE (af.l [v]) 140737488355328)<|.ak<|.c1 ⟨(af.k T8 m).1,m,s,af.k Ef (s.1,1,16)⟩ (af.bJ 0 1) [v])<|Ob m s.G:=λv=>
  ah (cr<|show(1:Int)<=140737488355328 by decide) (aP<|alK (p:=⟨(af.k T8 m).1,m,s,af.k Ef (s.1,1,16)⟩) a f j rfl _ 1 [v] (ai _) (by decide) rfl)
 exact nE (λ_=>e _) λk=>ah (bM (l:=s.2.1) ⟨aj 0,k⟩)<|e _
theorem Gi{m:aA}:∀(l a:List bK),(nO m l a).length<=l.length+a.length
 | [],a=>by rw[nO];omega
 | f::l,a=>by
   have h:=Gi (m:=m) l<|bif decide (xJ (m,f)=0) then qh f false a else a;have k:=BV a f false;rw[nO,bp]
   grind
def amW{p:Yb}(o:p.a0=l)(G:l.length<=4000000000000):∀(f i:Nat),l.length-i<=f->i<=l.length->Go (Nh af) (Nh af<|.c0 p i) λr=>r=true->∀x∈l.drop i,x.1=p.a1\/x.1=p.a2:=by
 have a:∀i:Nat,l.length<=i->Go (Nh af) (Nh af<|.c0 p i) λr=>r=true->∀x∈l.drop i,x.1=p.a1\/x.1=p.a2:=λi u=>aW (λg=>absurd (show(i:Int)<(p.a0.length:Int) from g) (by rw[o];omega)) λ_=>ay λ_ x n=>by
  rw[eU u] at n;cases n
 intro f
 induction f with
 | zero=>exact λi u _=>a i (by omega)
 | succ f ih=>
   intro i u D;by_cases g:i<l.length
   .refine aW (λ_=>?_) λk=>absurd (show(p.a0.length:Int)<=(i:Int) from k) (by rw[o];omega);have v:∀j:Nat,j<l.length->af.and (af.bE 0 j) (af.bo j<|af.l p.a0)=true:=λj F=>by rw[o];exact bM (by omega)
    have z:(l[i].1=p.a1\/l[i].1=p.a2)->Go (Nh af) (.ak<|.c0 p<|af.bJ i 1) λr=>r=true->∀x∈l.drop i,x.1=p.a1\/x.1=p.a2:=λe=>by
     rw[zh<|by omega];refine aP<|(ih (i+1) (by omega)<|by omega).mono λr k C x n=>?_;rw[xx g] at n;exact(aF.1 n).elim (λq=>by rw[q];exact e) (k C x)
    have A:(af.n bQ p.a0 (i:Int):bK)=l[i]:=by rw[o];exact Rs g
    refine ah (v i g) ?_;rw[A];exact dD (λ_=>dD (λ_=>ay nofun) λe=>ah (v 0<|by omega)<|dD (λ_=>ay nofun) λ_=>z<|.inr e) λe=>ah (v 0<|by omega)<|dD (λ_=>ay nofun) λ_=>z<|.inl e
   .exact a i (by omega)
def afW(j:l.length<=1000):RQ (m,l)=true/\(ZZ (m,l)=true->nZ m=0->∀x∈nO m l [],x.1=9\/x.1=10):=by
 have n:(nO m l []).length<=1000:=bd (Gi l []) (by show l.length+0<=_;omega);have⟨e,f⟩:=fQ (s:=Nh af) (t:=ahk af m l 9 10) (d:=false) (P:=λr=>r=true->nZ m=0->∀x∈nO m l [],x.1=9\/x.1=10)<|dD (λ_=>ay nofun) λ_=>ah (cr<|by omega)<|aP<|(amW (p:=⟨nO m l [],9,10⟩) (l:=nO m l []) rfl (by omega) _ 0 (ai _)<|aM _).mono λr k a _=>k a;exact fQ (s:=Empty.elim) (t:=ahi af m l) (d:=false) (P:=λr=>r=true->nZ m=0->∀x∈nO m l [],x.1=9\/x.1=10)<|ah e<|ay f
def anj{p:X8}(o:p.a0=l)(u:p.a1=(l.length:Int))(D:l.length<=1000):∀(f i:Nat),l.length-i<=f->i<=l.length->Go (Ng af) (Ng af<|.c0 p i) λr=>r=true->∀x∈l.drop i,x.1=9->x.2.2.2.2.1≠x.2.1:=by
 have a:∀i:Nat,l.length<=i->Go (Ng af) (Ng af<|.c0 p i) λr=>r=true->∀x∈l.drop i,x.1=9->x.e≠x.2.1:=λi n=>aW (λg=>absurd g (by rw[u];omega)) λ_=>ay λ_ x j=>by
  rw[eU n] at j;cases j
 intro f
 induction f with
 | zero=>exact λi n _=>a i (by omega)
 | succ f ih=>
   intro i n C;by_cases g:i<l.length
   .refine aW (λ_=>?_) λk=>absurd k (by rw[u];omega);have v:(l[i].1=9->l[i].e≠l[i].2.1)->Go (Ng af) (.ak<|.c0 p<|af.bJ i 1) λr=>r=true->∀x∈l.drop i,x.1=9->x.e≠x.2.1:=λe=>by
     rw[zh<|by omega];refine aP<|(ih (i+1) (by omega)<|by omega).mono λr k A x j=>?_;rw[xx g] at j;exact(aF.1 j).elim (λq=>by rw[q];exact e) (k A x)
    have z:(af.n bQ p.a0 (i:Int):bK)=l[i]:=by rw[o];exact Rs g
    refine ah (by rw[o];exact bM<|by omega) ?_;rw[z];exact cv (λ_=>cv (λ_=>ay nofun) λe=>v λ_=>e) λe=>v λk=>absurd k e
   .exact a i (by omega)
def ank(a:l.length<=1000):RR l=true/\(Z0 l=true->∀x∈l,x.1=9->x.2.2.2.2.1≠x.2.1):=
 fQ (s:=Ng af) (t:=ahj af l) (d:=false) (P:=λr=>r=true->∀x∈l,x.1=9->x.e≠x.2.1) (aP<|anj (p:=⟨l,af.l l⟩) rfl rfl a _ 0 (ai _)<|aM _)
def ake{p:QC}(n:p.a0=l)(q:l.length<=4000000000000):∀(f i:Nat) (a b c d:Int),l.length-i<=f->Go (PX af) (PX af<|.c0 p a b c d i) λ_=>True:=by
 intro f
 induction f with
 | zero=>exact λi a b c d o=>aW (λg=>absurd (show(i:Int)<(p.a0.length:Int) from g) (by rw[n];omega)) λ_=>ay trivial
 | succ f ih=>
   intro i a b c d o;refine aW (λg=>?_) λ_=>ay trivial;have g:(i:Int)<(l.length:Int):=by rw[<-n];exact g
   have j:∀a b c d:Int,Go (PX af) (.ak<|.c0 p a b c d<|af.bJ i 1) λ_=>True:=λa b c d=>by
    rw[zh<|by omega];exact aP<|ih (i+1) a b c d (by omega)
   have e:Go (PX af) (.ret false) λ_=>True:=ay trivial;exact ah (by rw[n];exact bM<|by omega)<|du (λ_=>e) λ_=>du (λ_=>du (λ_=>e) λ_=>du (λ_=>e) λ_=>du (λ_=>e) λ_=>j ..) λ_=>du (λ_=>du (λ_=>e) λ_=>du (λ_=>e) λ_=>du (λ_=>e) λ_=>j ..) λ_=>du (λ_=>e) λ_=>du (λ_=>e) λ_=>du (λ_=>j ..) λ_=>du (λ_=>j ..) λ_=>j ..
def akf(a:l.length<=1000):RJ (m,l)=true:=by
 have e:(nO m l []).length<=1000:=bd (Gi l []) (by show l.length+0<=_;omega);exact(fQ (s:=PX af) (t:=ag9 af m l) (d:=false) (P:=λ_=>True)<|du (λ_=>ay trivial) λ_=>ah (cr<|by omega)<|aP<|ake (p:=⟨nO m l []⟩) (l:=nO m l []) rfl (by omega) _ 0 _ _ _ _<|ai _).1
def amK(o:s.2.2.2.2.2.2.1.length<=1000)(q:s.2.2.2.2.2.2.2.length<=1000):RL s=true:=by
 have B:∀(p:XR),p.b3=s->∀(f i:Nat) (b:Bool),s.2.2.2.2.2.2.2.length-i<=f->Go (EW af) (EW af<|.c1 p b i) λ_=>True:=λp n f=>by
  have z:Go (EW af) (.br p.b0 (.ret true)<|.ret false) λ_=>True:=du (λ_=>ay trivial) λ_=>ay trivial
  induction f with
  | zero=>exact λi b j=>aW (λg=>absurd (show(i:Int)<(p.b3.2.2.2.2.2.2.2.length:Int) from g) (by rw[n];omega)) λ_=>du (λ_=>ay trivial) λ_=>ay trivial
  | succ f ih=>
    intro i b j;refine aW (λg=>?_) λ_=>du (λ_=>ay trivial) λ_=>ay trivial;have g:(i:Int)<(s.2.2.2.2.2.2.2.length:Int):=by rw[<-n];exact g
    have e:∀b,Go (EW af) (.ak<|.c1 p b<|af.bJ i 1) λ_=>True:=λb=>by
     rw[zh<|by omega];exact aP<|ih (i+1) b (by omega)
    exact du (λ_=>e _) λ_=>ah (by rw[n];exact bM<|by omega)<|du (λ_=>e _) λ_=>e _
 have A:∀(f i:Nat) (a:Bool),s.2.2.2.2.2.2.1.length-i<=f->Go (EW af) (EW af<|.c0 ⟨s⟩ a i) λ_=>True:=λf=>by
  have en:∀a,Go (EW af) (.ak<|.c1 ⟨a,s⟩ false 0) λ_=>True:=λa=>aP<|B ⟨a,s⟩ rfl _ 0 false<|ai _
  induction f with
  | zero=>exact λi a j=>aW (λg=>absurd (show(i:Int)<(s.2.2.2.2.2.2.1.length:Int) from g)<|by omega) λ_=>en a
  | succ f ih=>
    intro i a j;refine aW (λg=>?_) λ_=>en a;have g:(i:Int)<(s.2.2.2.2.2.2.1.length:Int):=g;have e:∀a,Go (EW af) (.ak<|.c0 ⟨s⟩ a<|af.bJ i 1) λ_=>True:=λa=>by
     rw[zh<|by omega];exact aP<|ih (i+1) a (by omega)
    exact du (λ_=>e _) λ_=>ah (bM (l:=s.2.2.2.2.2.2.1)<|by omega)<|e _
 exact(fQ (s:=EW af) (t:=ag_ af s) (d:=false) (P:=λ_=>True)<|aP<|A _ 0 false<|ai _).1
def ae8(J:m.2.2.2.2.2.2.2.length<=140737488355328)(A:∀x∈m.2.2.2.2.2.2.2,x.2.1.length<=140737488355328)(H:s.2.2.2.2.2.2.2.length<=1000)(N:s.2.2.2.2.2.2.1.length<=1000):RI (m,s)=true:=by
 have M:∀(f i:Nat),m.2.2.2.2.2.2.2.length-i<=f->Go (EV af) (EV af<|.c1 ⟨(i:Int),m⟩) λ_=>True:=λf=>by
  induction f with
  | zero=>exact λi o=>aW (λg=>absurd (show(i:Int)<(m.2.2.2.2.2.2.2.length:Int) from g)<|by omega) λ_=>ay trivial
  | succ f ih=>
    intro i o;refine aW (λg=>aP ?_) λ_=>ay trivial;have g:(i:Int)<(m.2.2.2.2.2.2.2.length:Int):=g;have q:i<m.2.2.2.2.2.2.2.length:=by omega
    have v:Go (EV af) (.ak<|.c1 ⟨af.bJ i 1,m⟩) λ_=>True:=by
     rw[zh<|by omega];exact aP<|ih (i+1) (by omega)
    have G:(af.n eT m.2.2.2.2.2.2.2 (i:Int):Mode).2.1.length<=140737488355328:=by
     rw[show(af.n eT m.2.2.2.2.2.2.2 (i:Int):Mode)=m.2.2.2.2.2.2.2[i] from eO q _];exact A _<|cZ q
    have I:∀(e j:Nat),(af.n eT m.2.2.2.2.2.2.2 (i:Int):Mode).2.1.length-j<=e->Go (EV af) (EV af<|.c2 ⟨(i:Int),m⟩ j) λ_=>True:=λe=>by
     have u:=bM (l:=m.2.2.2.2.2.2.2) (i:=(i:Int)) (by omega)
     induction e with
     | zero=>exact λj z=>ah u<|aW (λg=>absurd (show(j:Int)<((af.n eT m.2.2.2.2.2.2.2 (i:Int):Mode).2.1.length:Int) from g)<|by omega) λ_=>v
     | succ e C=>
       intro j z;refine ah u (aW (λg=>?_) λ_=>v);have g:(j:Int)<((af.n eT m.2.2.2.2.2.2.2 (i:Int):Mode).2.1.length:Int):=g;refine ah (bM ⟨by omega,g⟩)<|du (λ_=>ay trivial) λ_=>?_;rw[zh<|by omega];exact aP<|C (j+1) (by omega)
    exact I _ 0<|ai _
 have⟨a,n⟩:=Y9 (m:=m) (s:=s) (by omega) (by omega);have n:Ob m s.2.2.2.2.2.2.2<|af.k rZ (m,s):=n;have a:af.k Ia (m,s)=true:=a;refine(fQ (s:=EV af) (t:=adb af m s) (d:=false) (P:=λ_=>True) ?_).1;unfold adb;refine ah a ?_;generalize af.k rZ (m,s)=r at *;refine dD (λ_=>ay trivial) λe=>?_;have⟨_,p,D,F⟩:=n e;have p:r.1.2.2.2.2.2.2.2.length<=256:=by rw[p];exact List.length_take_le ..
 have U:∀(f i:Nat),r.1.2.1.length-i<=f->Go (EV af) (EV af<|.c0 ⟨m,r.1⟩ i) λ_=>True:=λf=>by
  have en:Go (EV af) (.ak<|.c1 ⟨0,m⟩) λ_=>True:=aP<|M _ 0<|ai _
  induction f with
  | zero=>exact λi o=>aW (λg=>absurd (show(i:Int)<(r.1.2.1.length:Int) from g)<|by omega) λ_=>en
  | succ f ih=>
    intro i o;refine aW (λg=>?_) λ_=>en;have g:(i:Int)<(r.1.2.1.length:Int):=g;refine ah (bM (l:=r.1.2.1)<|by omega)<|du (λ_=>ay trivial) λ_=>?_;rw[zh<|by omega];exact aP<|ih (i+1) (by omega)
 exact ah (akf<|by omega)<|du (λ_=>ay trivial) λ_=>ah (amK (by omega)<|by omega)<|du (λ_=>ay trivial) λ_=>aP<|U _ 0<|ai _
theorem agB{p:XN}{l:List eX}(a:p.a0=l)(j:p.a1=l)(q:l.length<=1000000):∀(f i:Nat),l.length-i<=f->Go (Sb af) (Sb af<|.c0 p i) λr=>r=true:=by
 intro f
 induction f with
 | zero=>exact λi n=>aW (λg=>absurd (show(i:Int)<(p.a0.length:Int) from g)<|by grind) λ_=>ay rfl
 | succ f ih=>
   intro i n;refine aW (λg=>?_) λ_=>ay rfl;have g:(i:Int)<(l.length:Int):=by rw[<-a];exact g
   have o:Go (Sb af) (.ak<|.c0 p<|af.bJ i 1) λr=>r=true:=by
    rw[zh<|by omega];exact aP<|ih (i+1) (by omega)
   have u:=bM (l:=l) (i:=(i:Int)) (by omega);refine ah (by simp_all)<|ah (by simp_all) ?_;rw[a,j];have e:∀v:Node,af.k RE (v,v)=true:=λ_=>cr rfl;exact dD (λk=>absurd rfl k) λ_=>ah (e _)<|cX (λk=>Bool.noConfusion<|show true=false from k) λ_=>o
def agC{l:List eX}(a:l.length<=1000000):RH (l,l)=true/\ZQ (l,l)=true:=
 fQ (s:=Sb af) (t:=ag7 af l l) (d:=false) (P:=λr=>r=true) (dD (λk=>absurd rfl k) λ_=>aP<|agB (p:=⟨l,l⟩) rfl rfl a _ 0<|ai _)
def aqB(e:nZ m=0)(j:∀x∈nO m ((nO m s.2.2.2.2.2.2.2 []).take 256) [],x.1=9\/x.1=10)(l:∀x∈(nO m s.2.2.2.2.2.2.2 []).take 256,x.1=9->x.2.2.2.2.1≠x.2.1):LdF (dL m s).2.2.2.2.2.2.2:=by
 show LdF<|(nC m s.G).take 256;rw[<-afc (m:=m) e];refine⟨bd (List.length_take_le ..)<|by decide,λf a=>?_⟩;have ok:ko (m,f)=true:=(((vq e _ [] .nil).2 f).1<|List.mem_of_mem_take a).elim (λk=>absurd k aC) And.right;have k:=j f<|((vq e _ [] .nil).2 f).2<|.inr ⟨a,ok⟩;exact⟨k,k.elim (l f a) (Bm ok).2.2⟩
def aaQ(F:m.2.2.2.2.2.2.2.length<=140737488355328)(H:∀x∈m.2.2.2.2.2.2.2,x.2.1.length<=140737488355328)(D:s.2.2.2.2.2.2.2.length<=2513169434916)(G:s.2.2.2.2.2.2.1.length<=140737488355328):MJ (m,s)=true/\Ua (m,s)=true:=by
 refine fQ (s:=Empty.elim) (t:=Ss af m s) (d:=false) (P:=λr=>r=true) ?_;have q:af.k MK ()=true:=by rw[b_];exact ae7
 have u:af.k zG ()=true:=by rw[b_];exact ae6
 have a:Go Empty.elim (.ret true) λr=>r=true:=ay rfl;have⟨v,z⟩:=Y9 (m:=m) D G;unfold Ss;rw[q,u];refine ah v<|ah rfl<|cX nofun λ_=>cX (λ_=>a) λn=>dD (λ_=>a) λe=>?_;have⟨f,A,_,_⟩:=z e;have n:=alV n;have Z:((nO m s.2.2.2.2.2.2.2 []).take 256).length<=256:=List.length_take_le ..;rw[show(af.k rZ (m,s)).1.2.2.2.2.2.2.2=(nO m s.2.2.2.2.2.2.2 []).take 256 from A];have⟨l1,l2⟩:=afW (m:=m) (l:=(nO m s.2.2.2.2.2.2.2 []).take 256) (by omega);have⟨N,O⟩:=ank (l:=(nO m s.2.2.2.2.2.2.2 []).take 256) (by omega);refine ah l1<|cX (λ_=>a) λI=>ah N<|cX (λ_=>a) λJ=>ah (ae8 (s:=(s.1,s.2.1,[],[],[],[],[],[])) F H (aM _)<|aM _)<|cX (λ_=>a) λ_=>?_;have o:=Mx f;have p:tO (m,s)=true:=cr ⟨by omega,by omega,by omega⟩;have C:tO (m,Df s)=true:=cr ⟨aM _,by show s.2.2.2.2.2.2.1.length<=_;omega,by show s.2.2.2.2.2.1.length<=_;omega⟩;have⟨S,_,X⟩:=abY o p;have⟨n1,j⟩:=abZ o p C<|aqB f (l2 I f)<|O J;have j:af.k pY (I7 m s)=af.k pY (m,s):=j;have⟨V,W⟩:=agC (l:=(pY (m,s)).1) (by omega);rw[j];exact ah S<|ah n1<|cv (λ_=>ah V<|ay W) λk=>absurd rfl k
def amA(x:aA×gH)(h:Ty.lC [bD,lD] x)(k:Ty.fits [bD,lD] x):MJ x=true/\Ua x=true:=by
 have⟨m,s⟩:=x;have⟨n,sl,g,w,d,p,j,e⟩:=m;have⟨_,_,a,b⟩:=rE h.1;have o:s.2.2.2.2.2.2.1.length<=140737488355328:=h.2.2.2.2.2.2.2.1.1;have f:s.2.2.2.2.2.2.2.length*56<=fX:=k.2.2.2.2.2.2.2.2.1;have f:s.2.2.2.2.2.2.2.length*56<=140737488355328:=f;exact aaQ a (λx l=>(b x l).2.1) (by omega) o
end
end Go.Ev.M
