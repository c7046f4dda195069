/- PROVED: what functions compute, 4. Conditions: none. -/
import Derived.Test.YtalmcifclnbpmaaGreatM3
set_option linter.unusedVariables false
set_option linter.defProp false
set_option linter.unusedSimpArgs false
namespace Go.Ev.M
open Go.Proofs
set_option maxRecDepth 100000
open Go.Ev.Pl
noncomputable section
def setH(q:Bool)(x:Net)(h:rN)(t:Int)(a d:List dx)(sd:List A7):Net:=
 bif q then(x.1,h,x.2.2.1,t,x.2.2.2.2.1,a,x.2.2.2.2.2.2.1,x.m,x.s,x.r,x.e,x.q,x.n,x.a,d,sd,x.z)
 else(h,x.2.1,t,x.2.2.2.1,a,x.2.2.2.2.2.1,x.2.2.2.2.2.2.1,x.m,x.s,x.r,x.e,x.q,x.n,d,x.b,sd,x.z)
def Hb(q:Bool)(x:Net)(h:rN)(t:Int)(a d:List dx)(sd:List A7)(e:Int)(l:List gw):Net:=aa1 (setH q x h t a d sd) e l
section
variable {q:Bool} {x:Net} {h k:rN} {t u:Int} {a d b:List dx} {sd s2:List A7} {e z:Int} {l m:List gw}
def aeO:mP q (Hb q x h t a d sd e l)=h:=by cases q<;>rfl
def aww:Un q (Hb q x h t a d sd e l)=t:=by cases q<;>rfl
def ak5:pX q (Hb q x h t a d sd e l)=a:=by cases q<;>rfl
def ak6:xe q (Hb q x h t a d sd e l)=d:=by cases q<;>rfl
def aeP:(Hb q x h t a d sd e l).m=x.m:=by cases q<;>rfl
def aeQ:(Hb q x h t a d sd e l).n=x.n:=by cases q<;>rfl
def Ah:(Hb q x h t a d sd e l).q=(x.q.1,l,x.q.2.2):=by cases q<;>rfl
def aoR:(Hb q x h t a d sd e l).o=sd:=by cases q<;>rfl
def aoP:(Hb q x h t a d sd e l).e=e:=by cases q<;>rfl
def aoU:VT q (Hb q x h t a d sd e l) k=Hb q x k t a d sd e l:=by cases q<;>rfl
def aoV:utG q (Hb q x h t a d sd e l) u=Hb q x h u a d sd e l:=by cases q<;>rfl
def Zf:V4 q (Hb q x h t a d sd e l) b=Hb q x h t b d sd e l:=by cases q<;>rfl
def aoT:NB q (Hb q x h t a d sd e l) b=Hb q x h t a b sd e l:=by cases q<;>rfl
def awv:Qj q (Hb q x h t a d sd e l) b s2=Hb q x h t a b s2 e l:=by cases q<;>rfl
def aoQ:ahb q (Hb q x h t a d sd e l) b (x.q.1,l,x.q.2.2)=Hb q x h t b d sd e l:=by cases q<;>rfl
def Qm:vJ (Hb q x h t a d sd e l) (x.q.1,l,x.q.2.2)=Hb q x h t a d sd e l:=by cases q<;>rfl
def ahd:aa1 (Hb q x h t a d sd e l) z m=Hb q x h t a d sd z m:=by cases q<;>rfl
end
variable{x:Net}
def avT{q:Bool}:VT q x (mP q x)=x:=by cases q<;>rfl
def avQ{q:Bool}:V4 q x (pX q x)=x:=by cases q<;>rfl
def wh{m:au}{h:rN}:k_ (m,h)=true↔(0<=h.2.2/\h.2.2<m.1)/\(0<=h.2.1/\h.2.1<=1099494850560)/\(h.1=false->h=(false,0,0)):=by
 have⟨n,s,g,w,d,I,D,A⟩:=m;have⟨H,C,p⟩:=h;simp only[k_,amM,LT.val,ji,bf,bF,Ub,bl,kQ,gD];by_cases f:p<0
 .simp[f];omega
 by_cases j:n<=p
 .simp[f,j];omega
 by_cases v:C<0
 .simp[f,j,v];omega
 by_cases y:1099494850560<C
 .simp[f,j,v,y];omega
 cases H
 .by_cases F:C=0
  .by_cases G:p=0<;>simp[f,j,v,y,F,G]<;>omega
  .simp[f,j,v,y,F]
 .simp[f,j,v,y];omega
def Zm{m:au}{h:rN}(hm:df m=true)(G:k_ (m,h)=true)(I:h.1=true):((Gl (m,h)).2=0->k_ (m,(Gl (m,h)).1)=true/\(Gl (m,h)).1.1=true/\(Gl (m,h)).1.2.1=h.2.1+m.2.1)/\(h.2.1<=1000000000000->(Gl (m,h)).2=0):=by
 have hb:=uB hm;have J:=wh.1 G;have F:LC (m,h)=0:=by
  have⟨n,s,g,w,d,A,j,f⟩:=m;have⟨H,v,p⟩:=h;simp only[LC,t71,LT.val,bZ,ji,b_];rw[G,show iR (n,s,g,w,d,A,j,f)=0 from oZ.2 hm];rfl
 have⟨n,s,g,w,d,A,j,f⟩:=m;have⟨H,v,p⟩:=h;obtain rfl:H=true:=I;simp only at J hb;simp only[Gl,t72,LT.val,bZ,ji,b_,bf,F];rw[rV (a:=v)<|by omega,rV (a:=p)<|by omega];have y:∀C,0<=C->C<n->v<=1000000000000->k_ ((n,s,g,w,d,A,j,f),true,v+s,C)=true:=λC a b c=>wh.2 ⟨⟨a,b⟩,⟨by show 0<=v+s;omega,by show v+s<=_;omega⟩,nofun⟩;by_cases e:p+1=n
 .have y:=y 0 (by omega) (by omega);have D:(p+1==n)=true:=by simpa using e
  rw[D];cases hk:k_ ((n,s,g,w,d,A,j,f),true,v+s,0)
  .exact⟨λa=>by simp at a,λa=>absurd ((y a).symm.trans hk)<|by decide⟩
  .exact⟨λ_=>⟨hk,rfl,rfl⟩,λ_=>rfl⟩
 .have y:=y (p+1) (by omega) (by omega);have D:(p+1==n)=false:=by simpa using e
  rw[D];cases hk:k_ ((n,s,g,w,d,A,j,f),true,v+s,p+1)
  .exact⟨λa=>by simp at a,λa=>absurd ((y a).symm.trans hk)<|by decide⟩
  .exact⟨λ_=>⟨hk,rfl,rfl⟩,λ_=>rfl⟩
def akw{a:Int}(h:a≠0):af.cm a 0=true:=by rw[b_];simpa using h
def akB{q:Bool}{p:W_}(y:p.a1=(p.a0.length:Int))(A:p.a0.length<=1000000):∀(f i:Nat),p.a0.length-i<=f->Go (MI q af) (MI q af<|.c0 p i) λ_=>True:=by
 intro f
 induction f with
 | zero=>intro i v;exact bH (λg=>absurd g<|by omega) λ_=>ay trivial
 | succ f ih=>
   intro i v;refine bH (λg=>?_) λ_=>ay trivial;have j:Go (MI q af) (.ak<|.c0 p<|af.bT i 1) λ_=>True:=by
    rw[dw<|by omega,show(i:Int)+1=((i+1:Nat):Int) by omega];exact aP<|ih (i+1) (by omega)
   exact aj (cr (l:=p.a0)<|by omega)<|dO (λ_=>dO (λ_=>dO (λ_=>ay trivial) λ_=>j) λ_=>j) λ_=>j
def aez{q:Bool}(h:x.m.1≠0)(f:x.s.2.2.2.2.2.2.2.length<=1000000):Ml (wR q x)=true:=by
 have g:=(gm (d:=Ty.aO [.bool]) (s:=MI q af) (t:=acr q af [x.c,x.d] x.g x.m x.s<|kI q) (P:=λ_=>True)<|aj (akw h)<|aP<|akB rfl f _ 0<|ah _).1;have:Fe q (wR q x)=true:=by
  show(decide (kI q=kI q)&&gu (MI q af) _)=true;rw[bX rfl];exact g
 cases q<;>exact this
def alM{p:Wd}(h:p.b1=(p.b3.length:Int))(A:p.b3.length<=1000000):∀(f i:Nat) (b:Int) (v:dx),p.b3.length-i<=f->Go (Mz af) (Mz af<|.c1 p b i v) λr=>r.1=p.b3:=by
 intro f
 induction f with
 | zero=>intro i b v j;exact bH (λg=>absurd g<|by omega) λ_=>ay rfl
 | succ f ih=>
   intro i b v j;refine bH (λg=>aj (cr (l:=p.b3)<|by omega) ?_) λ_=>ay rfl;have y:∀b v,Go (Mz af) (.ak<|.c1 p b (af.bT i 1) v) λr=>r.1=p.b3:=λb v=>by
    rw[dw<|by omega,show(i:Int)+1=((i+1:Nat):Int) by omega];exact aP<|ih (i+1) b v (by omega)
   repeat' first|exact y _ _|refine dO (λ_=>?_) λ_=>?_
def alL{p:Wc}(h:p.a1=(p.a3.length:Int))(v:p.a3.length<=1000000):∀(f i:Nat),p.a3.length-i<=f->Go (Mz af) (Mz af<|.c0 p i) λr=>r.1=p.a3:=by
 intro f
 induction f with
 | zero=>intro i j;exact bH (λg=>absurd g<|by omega) λ_=>ay rfl
 | succ f ih=>
   intro i j;refine bH (λg=>aj (cr (l:=p.a3)<|by omega) ?_) λ_=>ay rfl;rw[dw (x:=(i:Int))<|by omega,show(i:Int)+1=((i+1:Nat):Int) by omega]
   repeat' first|exact aP (ih (i+1)<|by omega)|exact aP (alM (p:=⟨_,_,_,_,_,_,_,_⟩) h v _ (i+1) _ _<|ah _)|refine dO (λ_=>?_) λ_=>?_
def alN{l:List dx}{m:au}{h:rN}{w:Span}(j:l.length<=1000000):QF (l,m,h,w)=true/\(Ka (l,m,h,w)).1=l:=by
 have⟨f,g⟩:=gm (s:=Mz af) (t:=aga af l m h w) (d:=([],Ty.aO [aY,.bool])) (P:=λr=>r.1=l)<|aP<|alL (p:=⟨_,l,_,_,_,_,_,_⟩) rfl j _ 0<|ah _;have e:(Ka (l,m,h,w)).1=l:=g;refine⟨?_,e⟩;show(gu _ _&&decide ((Ka (l,m,h,w)).1.length=l.length))=true;rw[f,e,bX rfl];rfl
def ak0{p:PD}(h:p.b1=(p.b3.length:Int))(A:p.b3.length<=1000000):∀(f i:Nat) (v:dx),p.b3.length-i<=f->Go (MB af) (MB af<|.c1 p i v) λr=>r.1=p.b3:=by
 intro f
 induction f with
 | zero=>intro i v j;exact bH (λg=>absurd g<|by omega) λ_=>ay rfl
 | succ f ih=>
   intro i v j;refine bH (λg=>aj (cr (l:=p.b3)<|by omega) ?_) λ_=>ay rfl;have y:∀v,Go (MB af) (.ak<|.c1 p (af.bT i 1) v) λr=>r.1=p.b3:=λv=>by
    rw[dw<|by omega,show(i:Int)+1=((i+1:Nat):Int) by omega];exact aP<|ih (i+1) v (by omega)
   repeat' first|exact y _|refine dO (λ_=>?_) λ_=>?_
def akZ{p:Pz}(h:p.a1=(p.a3.length:Int))(v:p.a3.length<=1000000):∀(f i:Nat),p.a3.length-i<=f->Go (MB af) (MB af<|.c0 p i) λr=>r.1=p.a3:=by
 intro f
 induction f with
 | zero=>intro i j;exact bH (λg=>absurd g<|by omega) λ_=>ay rfl
 | succ f ih=>
   intro i j;refine bH (λg=>aj (cr (l:=p.a3)<|by omega) ?_) λ_=>ay rfl;rw[dw (x:=(i:Int))<|by omega,show(i:Int)+1=((i+1:Nat):Int) by omega]
   repeat' first|exact aP (ih (i+1)<|by omega)|exact aP (ak0 (p:=⟨_,_,_⟩) h v _ (i+1) _<|ah _)|refine dO (λ_=>?_) λ_=>?_
def ak1{l:List dx}{m:au}(j:l.length<=1000000):QG (l,m)=true/\(Kb (l,m)).1=l:=by
 have⟨f,g⟩:=gm (s:=MB af) (t:=agb af l m) (d:=([],Ty.aO [aY,.bool])) (P:=λr=>r.1=l)<|aP<|akZ (p:=⟨_,l,_⟩) rfl j _ 0<|ah _;have e:(Kb (l,m)).1=l:=g;refine⟨?_,e⟩;show(gu _ _&&decide ((Kb (l,m)).1.length=l.length))=true;rw[f,e,bX rfl];rfl
def aoe(m:au)(h:rN)(l:List dx)(r:List dx×(rN×dx×Bool×Int)):Prop:=
 r.1=l/\(r.2.2.2.2≠0\/(r.2.1=h\/h.1=false/\r.2.1.1=true/\k_ (m,r.2.1)=true)/\(r.2.2.2.1=true->r.2.1.1=true))
def akV{l:List dx}{m:au}{h:rN}(p:l.length<=1000000):aat (l,m,h)=true/\aoe m h l (LB (l,m,h)):=by
 have⟨D,F⟩:=alN (m:=m) (h:=h) (w:=(Es (m,h)).1) p;have⟨y,A⟩:=ak1 (m:=m) p;have f:(zR af l m h).1=l:=F;have v:(vI af l m h).1=l:=by unfold vI;rw[f];exact A
 have⟨C,j⟩:=gm (s:=Empty.elim) (t:=t69 af l m h) (d:=([],Ty.aO [d_,aY,.bool,yI])) (P:=aoe m h l) (by
  unfold t69;rw[f,v];exact dD (λg=>ay ⟨rfl,.inl g⟩) λ_=>aj D<|dG (λg=>aj y<|dG (λ_=>ay ⟨rfl,.inr ⟨.inl rfl,nofun⟩⟩) λ_=>dG (λ_=>ay ⟨rfl,.inr ⟨.inl rfl,nofun⟩⟩) λk=>dG (λ_=>ay ⟨rfl,.inr ⟨.inr ⟨g,rfl,k⟩,nofun⟩⟩) λ_=>ay ⟨rfl,.inr ⟨.inr ⟨g,rfl,k⟩,λ_=>rfl⟩⟩) λg=>dG (λ_=>ay ⟨rfl,.inr ⟨.inl rfl,nofun⟩⟩) λ_=>dG (λ_=>ay ⟨rfl,.inr ⟨.inl rfl,nofun⟩⟩) λ_=>dG (λ_=>ay ⟨rfl,.inr ⟨.inl rfl,nofun⟩⟩) λ_=>ay ⟨rfl,.inr ⟨.inl rfl,λ_=>g⟩⟩)
 have e:(LB (l,m,h)).1=l:=j.1;refine⟨?_,j⟩;show(gu _ _&&decide ((LB (l,m,h)).1.length=l.length))=true;rw[C,e,bX rfl];rfl
def adp(q:Bool)(x:Net)(r:Net×(dx×Bool)):Prop:=
 ∃h,r.1=VT q x h/\(h=mP q x\/(mP q x).1=false/\h.1=true/\k_ (x.m,h)=true)/\(r.2.2=true->h.1=true)
def anR{q:Bool}{p:W9}(h:p.b0=((pX q p.b2).length:Int))(v:(pX q p.b2).length<=1000000):∀(f i:Nat),(pX q p.b2).length-i<=f->Go (JG q af) (JG q af<|.c1 p i) λr=>r.1=p.b2:=by
 intro f
 induction f with
 | zero=>intro i j;exact bH (λg=>absurd g<|by omega) λ_=>ay rfl
 | succ f ih=>
   intro i j;refine bH (λg=>aj (cr (l:=pX q p.b2)<|by omega) ?_) λ_=>ay rfl;rw[dw (x:=(i:Int))<|by omega,show(i:Int)+1=((i+1:Nat):Int) by omega]
   repeat' first|exact aP (ih (i+1)<|by omega)|exact ay rfl|refine dO (λ_=>?_) λ_=>?_
def anQ{q:Bool}{p:Fy}{h:rN}(C:p.a3=x)(hh:(p.mA,p.pH,p.a12)=h)(f:p.a2≠0\/(h=mP q x\/(mP q x).1=false/\h.1=true/\k_ (x.m,h)=true)/\(p.a1=true->h.1=true))(F:(pX q x).length<=1000000):Go (JG q af) (JG q af<|.c0 p)<|adp q x:=by
 have y:IR q p=h:=hh;have D:IS q p=(VT q x h,(0,(0,0),0,0,[]),false):=by unfold IS;rw[y,C]
 have v:pX q (VT q x h)=pX q x:=by cases q<;>rfl
 dsimp only[JG];rw[D,y,C];refine dD (λ_=>ay ⟨mP q x,avT.symm,.inl rfl,nofun⟩) λg=>?_;rcases f with f|⟨f,A⟩
 .exact absurd g f
 have j:adp q x (VT q x h,(0,(0,0),0,0,[]),false):=⟨h,rfl,f,nofun⟩;exact dO (λ_=>ay j) λ_=>dO (λk=>ay ⟨h,rfl,f,A⟩) λk=>dG (λ_=>ay ⟨h,rfl,f,A⟩) λG=>dD (λ_=>ay j) λ_=>dD (λ_=>ay j) λ_=>aP<|(anR (q:=q) (p:=⟨_,VT q x h,_,_,_,_,_,_,_,_,_,_,_,_,_⟩) (by rw[v];rfl) (by rw[v];exact F) _ 0<|ah _).mono λr e=>⟨h,e,f,λ_=>by rw[<-hh];exact G⟩
def agK{q:Bool}{dd:Bool}(j:(pX q x).length<=1000000):Ho (x,x.m,kI q,dd)=true/\adp q x (Od (x,x.m,kI q,dd)):=by
 have⟨A,g⟩:=akV (m:=x.m) (h:=mP q x) j;have p:yt q af x x.m=LB (pX q x,x.m,mP q x):=rfl;have⟨f,C⟩:=jA (x:=x) (s:=JG q af) (t:=VS q af x x.m (kI q) dd) (d:=(Ty.aO [kX],Ty.aO [aY,.bool])) (P:=adp q x) (by
  unfold VS;rw[p];refine aj A<|aP<|anQ (h:=(LB (pX q x,x.m,mP q x)).2.1) ?_ rfl g.2 j;show V4 q x (LB (pX q x,x.m,mP q x)).1=x;rw[g.1,avQ]) λr ⟨h,e,_⟩=>by rw[e];cases q<;>rfl
 have y:Ho (x,x.m,kI q,dd)=Fc q (x,x.m,kI q,dd):=by cases q<;>rfl
 have v:Od (x,x.m,kI q,dd)=Gq q (x,x.m,kI q,dd):=by cases q<;>rfl
 rw[eH] at f;rw[y,v];refine⟨?_,C⟩;show(decide (kI q=kI q)&&gu _ _&&_)=true;rw[bX rfl,f.1];exact f.2
def Tk(m:au)(s:Int):Int:=s+(m.2.2.1+m.2.2.2.2.2.1+m.2.2.2.1+ig m)+1
variable{y:Net}
def look_ok{q:Bool}(h:wU y)(hm:df y.m=true)(hn:y.n.length≠0)(F:0<=(mP q y).2.1/\(mP q y).2.1<=1099494850560):qk (y,kI q)=true/\((mP q y).1=false/\(lL (y,kI q)).1=y\/(mP q y).1=true/\qK y (qH y<|Tk y.m (mP q y).2.1,4,kI q,0) (lL (y,kI q)).1):=by
 have hb:=uB hm;have G:=sI (m:=y.m);have e:M5 q af y=(y,Tk y.m (mP q y).2.1,4,kI q,0):=by
  unfold M5;rw[show af.k DK y.m=ig y.m from rfl,dw (x:=y.m.2.2.1)<|by omega,dw (y:=y.m.2.2.2.1)<|by omega,dw (y:=ig y.m)<|by omega,dw (x:=(mP q y).2.1)<|by omega,dw<|by omega];rfl
 have⟨p1,p2⟩:=Fg (t:=Tk y.m (mP q y).2.1) (k:=4) (nd:=kI q) (n:=0) h;have⟨f,v⟩:=jA (x:=y) (s:=Empty.elim) (t:=VO q af y<|kI q) (d:=(Ty.aO [kX],Ty.aO [])) (P:=λr=>(mP q y).1=false/\r.1=y\/(mP q y).1=true/\qK y (qH y<|Tk y.m (mP q y).2.1,4,kI q,0) r.1) (by
  unfold VO;rw[e];exact dO (λg=>aj p1<|aj (qi hn)<|ay<|.inr ⟨g,p2⟩) λg=>ay<|.inl ⟨g,rfl⟩) λr A=>by
   rcases A with ⟨_,e⟩|⟨_,C,D,e,_⟩<;>rw[e]<;>rfl
 have p:qk (y,kI q)=Fa q (y,kI q):=by cases q<;>rfl
 have j:lL (y,kI q)=Gn q (y,kI q):=by cases q<;>rfl
 rw[eH] at f;rw[p,j];refine⟨?_,v⟩;show(decide (kI q=kI q)&&gu _ _&&_)=true;rw[bX rfl,f.1];exact f.2
def V_(q:Bool)(x v:Net):Prop:=
 ∃(h:rN) (t:Int) (a d:List dx) (sd:List A7) (j g:List gw) (p:Int) (f:List gw),v=aa1 (setH q x h t a d sd) p f/\a.length<=(pX q x).length/\I9 (xe q x) d 1/\(x.o.length<=sd.length/\sd.length<=x.o.length+1)/\(f.length<=16384/\EY f)/\p<=x.e/\f.Perm (j++(g++x.q.2.1))/\
   (j.length<=1/\∀e∈j,e.2.1=3/\(x.q.2.2<=e.1/\e.1<=x.e)/\0<=e.2.2.2/\e.2.2.2<(sd.length:Int))/\(k_ (x.m,h)=true/\0<=h.2.1)/\
   (h.1=false/\(mP q x).1=false/\j=[]/\g=[]\/h.1=true/\((mP q x).1=true->(mP q x).2.1<=1000000000000->h.2.1=(mP q x).2.1+x.m.2.1)/\(g=[]\/∃z,g=[(z,4,kI q,0)]/\h.2.1<z/\x.q.2.2<=z/\z<=x.e))
def adm(q f:Bool)(x g:Net):Prop:=
 (f=true/\(mP q x).1=true/\g=x)\/¬(f=true/\(mP q x).1=true)/\V_ q x g
section
variable {q:Bool} {x:Net} {h:rN} {t:Int} {a d:List dx} {sd:List A7} {e:Int} {l:List gw}
def aeT{P:Net×Unit->Prop}(X:y=Hb q x h t a d sd e l)(F:x.q.1=true)(G:l.length<=16384/\EY l)(hm:df x.m=true)(hn:x.n.length≠0)(W:h.1=true)(V:0<=h.2.1/\h.2.1<=1099494850560)(S:d.length<=1000000)
  (H:∀(f:List dx) (C:Int) (l2 A:List gw),I9 d f 0->(l2.length<=16384/\EY l2)->C<=e->l2.Perm (A++l)->(A=[]\/∃z,A=[(z,4,kI q,0)]/\h.2.1<z/\x.q.2.2<=z/\z<=e)->P (Hb q x h t a f sd C l2,())) :
  Go (zm q af) (.ao (af.k qk (y,kI q))<|.ao (af.cm (af.l x.n) 0)<|.ao (af.k yb ((lL (y,kI q)).1,kI q))<|.ao (af.cm (af.l (lL (y,kI q)).1.n) 0)<|.ret ((DV ((lL (y,kI q)).1,kI q)).1,())) P:=by
 subst X;have⟨p1,p2⟩:=look_ok (q:=q) (y:=Hb q x h t a d sd e l) ⟨by rw[Ah];exact F,by rw[Ah];exact G.1,by rw[Ah];exact G.2⟩ (by rw[aeP];exact hm) (by rw[aeQ];exact hn) (by rw[aeO];exact V);rw[aeO] at p2;rcases p2 with ⟨g,_⟩|⟨_,j,l2,p3,p4,p5,I⟩
 .rw[W] at g;cases g
 have Y:qH (Hb q x h t a d sd e l) (Tk (Hb q x h t a d sd e l).m h.2.1)=qH x (Tk x.m h.2.1):=by unfold qH;rw[Ah,aeP]
 have hb:=uB hm;rw[ahd] at p3;rw[aoP,Ah,Y] at I;have⟨N,f,p,D⟩:=UK (q:=q) (x:=Hb q x h t a d sd j l2) (by rw[Ah];exact F) (by rw[ak6];exact S);rw[aoT] at D;rw[ak6] at p;rw[p3];refine aj p1<|aj (qi hn)<|aj N<|aj (by rw[aeQ];exact qi hn)<|ay ?_;rw[D];have J:h.2.1<qH x (Tk x.m h.2.1)/\x.q.2.2<=qH x (Tk x.m h.2.1):=by unfold qH Tk;split<;>omega
 rcases I with ⟨rfl,v,O⟩|⟨rfl,v,_⟩
 .exact H f j l2 [_] p ⟨p4,p5⟩ (ai _) O<|.inr ⟨_,rfl,J.1,J.2,v⟩
 .exact H f j _ [] p ⟨p4,p5⟩ v (.refl _)<|.inl rfl
section
variable (Q:wU x) (hm:df x.m=true) (hn:x.n.length≠0) (hb:k_ (x.m,mP q x)=true) (hh:h=mP q x\/(mP q x).1=false/\h.1=true/\k_ (x.m,h)=true) (cl:(pX q x).length<=1000000)
include Q hm hn hb hh cl
def Qn{p:Fx}{sn:List gw}(I:p.b1=Hb q x h (Un q x) (pX q x) d sd e l)(h0:p.b0=(mP q x).1)(V:l.length<=16384/\EY l)(he:e<=x.e)(S:I9 (xe q x) d 1)(dl:d.length<=1000000)(W:x.o.length<=sd.length/\sd.length<=x.o.length+1)(D:l.Perm<|sn++x.q.2.1)
  (X:sn.length<=1/\∀e∈sn,e.2.1=3/\(x.q.2.2<=e.1/\e.1<=x.e)/\0<=e.2.2.2/\e.2.2.2<(sd.length:Int)) (hz:h.1=false->sn=[]):Go (zm q af) (zm q af<|.c1 p) λr=>V_ q x r.1:=by
 have H:k_ (x.m,h)=true:=hh.elim (λe=>e▸hb) λe=>e.2.2
 have A:∀(k:rN) (t:Int) (y:Net),y=Hb q x k t [] d sd e l->k.1=true->k_ (x.m,k)=true->((mP q x).1=true->(mP q x).2.1<=1000000000000->k.2.1=(mP q x).2.1+x.m.2.1)->_:=λk t y hy Y v k3=>
  aeT (P:=λr=>V_ q x r.1) hy Q.made V hm hn Y (wh.1 v).2.1 dl λZ e2 l2 J c1 c2 c3 c4 c5=>⟨k,t,[],Z,sd,sn,J,e2,l2,rfl,aQ _,S.trans c1,W,c2,by omega,(c4.trans<|(List.Perm.refl J).append D).trans<|List.perm_append_comm_assoc J sn _,X,⟨v,(wh.1 v).2.1.1⟩,.inr ⟨Y,k3,c5.imp_right λ⟨z,a,b,c,f⟩=>⟨z,a,b,c,by omega⟩⟩⟩
 have e4:IL q af p=(Hb q x (Gl (x.m,h)).1 (af.bT (Un q x) 1) [] d sd e l,kI q):=by
  unfold IL;rw[I,aeP,aeO,aww,aoU,aoV,Zf];rfl
 have e7:V4 q p.b1 []=Hb q x h (Un q x) [] d sd e l:=by rw[I,Zf]
 dsimp only[zm];unfold AL AJ;rw[e4,e7,I,aeP,aeQ,aeO];refine dO (λg=>?_) λg0=>dO (λg=>?_) λg=>?c
 case c=>
  have G:=hh.resolve_right λk=>by rw[k.2.1] at g;cases g
  obtain rfl:=hz g;have⟨n1,N⟩:=CO (q:=(x.q.1,l,x.q.2.2)) Q.made;have O:af.k gF ((x.q.1,l,x.q.2.2),())=((x.q.1,l,x.q.2.2),x.q.2.2):=N;rw[ak5];refine aP ((X6 (s:=zm q af) (c:=λi j b=>.c3 i j<|Hb q x h (Un q x) b d sd e l) (d:=λi=>.c2 ⟨af.l<|pX q x⟩ i<|Hb q x h (Un q x) (pX q x) d sd e l) (P:=af.k nW ((x.q.1,l,x.q.2.2),())) (U:=λb=>Hb q x h (Un q x) b d sd e l) (C:=λz=>af.bQ z.2.1.2 x.q.2.2) (λi j b=>by
   dsimp only[zm,akC];rw[ak5,Ah,O,Qm,aoQ,Zf]) n1 (λi=>by
   dsimp only[zm];rw[ak5,Ah,O,Qm]) cl _ 0<|ah _).mono λr ⟨b,k,er⟩=>⟨h,Un q x,b,d,sd,[],[],e,l,er,k.1,S,W,V,he,D,X,⟨H,(wh.1 H).2.1.1⟩,.inl ⟨g,by rw[<-G];exact g,rfl,rfl⟩⟩)
 all_goals
  have F:h.1=true:=by first|exact g|exact hh.elim (λe=>by rw[e,<-h0];exact g) λe=>e.2.1
  have⟨n1,N⟩:=Zm hm H F;have G:(mP q x).1=true->h=mP q x:=λk=>hh.resolve_right λv=>by rw[k] at v;cases v.1
  exact dJ (λk=>A _ _ _ rfl (n1 k).2.1 (n1 k).1 λa b=>by rw[(n1 k).2.2,G a]) λk=>A _ _ _ rfl F H λa b=>absurd (N (by rw[G a];exact b)) k
def alb{p:PE}(A:p.a1=Hb q x h (Un q x) (pX q x) d sd x.e x.q.2.1)(j:p.a0=(mP q x).1)(I:h.1=true)(v:I9 (xe q x) d 1)(g:d.length<=1000000)(S:sd.length=x.o.length+1)(V:sd.length<=1000000):Go (zm q af) (zm q af<|.c0 p) λr=>V_ q x r.1:=by
 have⟨n1,O⟩:=CO Q.made;have D:af.k gF ((x.q.1,x.q.2.1,x.q.2.2),())=(x.q,x.q.2.2):=O;have F:af.k nW ((x.q.1,x.q.2.1,x.q.2.2),())=true:=n1;have G:M7 q af p=(Hb q x h (Un q x) (pX q x) d sd x.e x.q.2.1,x.q.2.2,3,kI q,(sd.length:Int)-1):=by
  unfold M7;rw[A,Ah,aoR,D,show af.f_ (af.l sd) 1=(sd.length:Int)-1 from lT (x:=(sd.length:Int))<|by omega];exact congrArg (λy=>(y,_)) Qm
 have⟨p1,P,l2,p3,p4,p5,C⟩:=Fg (x:=Hb q x h (Un q x) (pX q x) d sd x.e x.q.2.1) (t:=x.q.2.2) (k:=3) (nd:=kI q) (n:=(sd.length:Int)-1) ⟨by rw[Ah];exact Q.made,by rw[Ah];exact Q.len,by rw[Ah];exact Q.heap⟩;have N:qH (Hb q x h (Un q x) (pX q x) d sd x.e x.q.2.1) x.q.2.2=x.q.2.2:=by unfold qH;rw[Ah];split<;>rfl
 rw[ahd] at p3;rw[aoP,Ah,N] at C;dsimp only[zm];rw[G,A,Ah,aeQ,F];refine aj rfl<|aj p1<|aj (qi hn)<|aP ?_;have z:h.1=false->False:=λk=>by rw[I] at k;cases k
 rcases C with ⟨rfl,f,H⟩|⟨rfl,f,_⟩
 .exact Qn Q hm hn hb hh cl (sn:=[_]) p3 j ⟨p4,p5⟩ (ai _) v g ⟨by omega,by omega⟩ H ⟨ah _,λe J=>by
   rw[aG.1 J];exact⟨rfl,⟨ai _,f⟩,by show(0:Int)<=(sd.length:Int)-1;omega,by show(sd.length:Int)-1<_;omega⟩⟩ λk=>(z k).elim
 .exact Qn Q hm hn hb hh cl (sn:=[]) p3 j ⟨p4,p5⟩ f v g ⟨by omega,by omega⟩ (.refl _) ⟨aQ _,nofun⟩ λk=>(z k).elim
end
end
def aoS{q:Bool}{h:rN}:VT q x h=Hb q x h (Un q x) (pX q x) (xe q x) x.o x.e x.q.2.1:=by cases q<;>rfl
def alc{q f:Bool}(Q:wU x)(hm:df x.m=true)(hn:x.n.length≠0)(hb:k_ (x.m,mP q x)=true)(S:x.s.2.2.2.2.2.2.2.length<=1000000)(cl:(pX q x).length<=900000)(X:(xe q x).length<=900000)(ol:x.o.length<=900000):Mi (x,kI q,f)=true/\adm q f x (Oc (x,kI q,f)).1:=by
 have V:=uB hm;have⟨W,h,j,F,G⟩:=agK (q:=q) (x:=x) (dd:=af.k Km<|wR q x) (by omega);have I:pn q af x=Od (x,x.m,kI q,af.k Km<|wR q x):=rfl;rw[aoS] at j;rw[<-I] at j G;have H:=aez (q:=q) (x:=x) (by omega) S;have p:Go (zm q af) (.ao (af.k Ml<|wR q x)<|.ao (af.k Ho (x,x.m,kI q,af.k Km<|wR q x))<|.ao (af.cm (af.l x.n) 0)<|.br (pn q af x).2.2 (.ao (af.bQ (af.l<|Dh q af x) 2199023255552)<|.ao (af.bQ (af.l<|Dg q af x) 5864062014805)<|.ak<|.c0 ⟨(mP q x).1,Qj q (pn q af x).1 (Dh q af x)<|Dg q af x⟩)<|.ak<|.c1 ⟨(mP q x).1,(pn q af x).1⟩) λr=>V_ q x r.1:=by
  refine aj H<|aj W<|aj (qi hn)<|dO (λg=>?_) λ_=>aP<|Qn Q hm hn hb F (by omega) (sn:=[]) j rfl ⟨Q.len,Q.heap⟩ (ai _) I9.rfl (by omega) ⟨ah _,iq _⟩ (.refl _) ⟨aQ _,nofun⟩ λ_=>rfl;have C:Dh q af x=xe q x ++ [(pn q af x).2.1]:=by unfold Dh;rw[j,ak6];rfl
  have A:Dg q af x=x.o ++ [((pn q af x).2.1.2.1,(pn q af x).2.1.1)]:=by unfold Dg;rw[j,aoR];rfl
  refine aj (by rw[C];exact mB<|by omega)<|aj (by rw[A];exact mB<|by omega)<|aP<|alb Q hm hn hb F (by omega) (by rw[j,awv]) rfl (G g) (by rw[C];exact I9.app trivial) (by rw[C,uy];show _+1<=_;omega) (by rw[A,uy];rfl) (by rw[A,uy];show _+1<=_;omega)
 have⟨D,O⟩:=jA (x:=x) (s:=zm q af) (t:=VQ q af x (kI q) f) (d:=(Ty.aO [kX],Ty.aO [])) (P:=λr=>adm q f x r.1) (by
  unfold VQ ace;exact dO (λg=>dO (λy=>ay<|.inl ⟨y,g,rfl⟩) λy=>p.mono λr v=>.inr ⟨λa=>(by rw[a.1] at y;cases y),v⟩) λg=>p.mono λr v=>.inr ⟨λa=>(by rw[a.2] at g;cases g),v⟩) λr v=>by
   rcases v with ⟨_,_,e⟩|⟨_,h,t,a,d,sd,sn,lk,Y,Z,e,_⟩
   .rw[e]
   .rw[e];cases q<;>rfl
 have N:Mi (x,kI q,f)=Fb q (x,kI q,f):=by cases q<;>rfl
 have J:Oc (x,kI q,f)=Gp q (x,kI q,f):=by cases q<;>rfl
 rw[eH] at D;rw[N,J];refine⟨?_,O⟩;show(decide (kI q=kI q)&&gu _ _&&_)=true;rw[bX rfl,D.1];exact D.2
def QE{i:Nat}(h:wU x)(f:i<x.n.length)(hm:df x.m=true)(j:0<=(aD x i).2.2.2.2.1/\(aD x i).2.2.2.2.1<=900000000000)(p:0<=x.q.2.2/\x.q.2.2<=2199023255552):QU (x,(i:Int))=true/\Pwr x i true (SS (x,(i:Int))).1:=by
 have⟨p1,p2⟩:=Ha (on:=true) h f hm j p;refine jA (s:=Empty.elim) (t:=acj af x i) (P:=λr=>Pwr x i true r.1) ?_ λr g=>?_
 .unfold acj;exact aj p1<|aj (mg f)<|ay p2
 .rcases g with ⟨_,e⟩|⟨_,⟨_,e⟩|⟨_,e⟩⟩
  .rw[e]
  .rw[e];exact bO
  .rw[e.len];exact bO
def qt(x:Net)(l:List gw)(t:Int):Net:=(x.1,x.2.1,x.2.2.1,x.2.2.2.1,x.2.2.2.2.1,x.2.2.2.2.2.1,x.2.2.2.2.2.2.1,x.m,x.s,x.r,x.e,(x.q.1,l,t),x.2.2.2.2.2.2.2.2.2.2.2.2)
def Act(e:gw)(x f:Net):Prop:=
 (e.2.1=3/\Xo (af.n jJ x.o e.2.2.2:A7) x.n.length 0 x f)\/
 (e.2.1=4/\adm (decide<|e.2.2.1=1) (decide<|e.2.2.2=1) x f)\/
 (e.2.1≠3/\e.2.1≠4/\(((aD x e.2.2.1.toNat).2.2.2.2.1≠e.2.2.2\/(aD x e.2.2.1.toNat).2.2.2.2.2.2.2=true)/\f=x\/
   (aD x e.2.2.1.toNat).2.2.2.2.1=e.2.2.2/\(aD x e.2.2.1.toNat).2.2.2.2.2.2.2=false/\
     (e.2.1=1/\Evl x e.2.2.1.toNat f\/e.2.1=2/\Tck x e.2.2.1.toNat f\/e.2.1=6/\Pwr x e.2.2.1.toNat true f\/e.2.1≠1/\e.2.1≠2/\e.2.1≠6/\Bgn x e.2.2.1.toNat f)))
def Stp(x f:Net):Prop:=
 x.q.2.1=[]/\f=x\/∃e l,(e::l).Perm (x.q.2.1)/\EY l/\(∀y∈x.q.2.1,e.1<=y.1)/\Act e (qt x l e.1) f
structure Aci(e:gw)(x:Net)(K:Nat):Prop where
 n:x.n.length<=1000
 p:0<x.n.length
 s:e.2.1=3->Sno x 0 K/\∃j:Nat,e.2.2.2=(j:Int)/\j<x.o.length
 h:e.2.1=4->(e.2.2.1=0\/e.2.2.1=1)/\df x.m=true/\(∀q,k_ (x.m,mP q x)=true)/\x.s.2.2.2.2.2.2.2.length<=1000000/\(∀q,(pX q x).length<=900000/\(xe q x).length<=900000)/\x.o.length<=900000
 i:e.2.1≠3->e.2.1≠4->∃i:Nat,e.2.2.1=(i:Int)/\i<x.n.length/\Evi x i K/\Tki x i K/\((aD x i).2.2.2.2.1=e.2.2.2->(aD x i).2.2.2.2.2.2.2=false->e.2.1≠1->e.2.1≠2->e.2.1≠6->Bgi x i K)
def amG{K:Nat}(h:wU x)(ha:∀e l,(e::l).Perm (x.q.2.1)->EY l->(∀y∈x.q.2.1,e.1<=y.1)->Aci e (qt x l e.1) K):CU (x,())=true/\Stp x (ta (x,())).1:=by
 suffices hs:CU (x,())=true/\(Stp x (ta (x,())).1/\(ta (x,())).1.n.length=x.n.length) from⟨hs.1,hs.2.1⟩
 refine jA (s:=Empty.elim) (t:=ab9 af x) (P:=λr=>Stp x r.1/\r.1.n.length=x.n.length) ?_ λr S=>S.2;have⟨p1,p2⟩:=alU h.made h.len h.heap;obtain⟨⟨W,e,er⟩,S⟩:∃r,zB (x.q,())=r:=⟨_,rfl⟩;have J:mr af x=(W,e,er):=S;rw[S] at p2;unfold ab9 zO;refine aj p1 ?_;rcases p2 with ⟨a,b,c⟩|⟨b,l,c,Z,Y,mn⟩
 .have X:vc af x=x:=by
   unfold vc;rw[J];show vJ x W=x;rw[show W=x.q from c]
  rw[X,J];exact dD (λ_=>ay ⟨.inl ⟨a,rfl⟩,rfl⟩) λg=>absurd g b
 .have c:W=(x.q.1,l,e.1):=c;have b:er=0:=b;subst c b;have I:=ha e l Z Y mn;have qe:wU<|qt x l e.1:=⟨h.made,by have:=Z.length_eq;rw[bd] at this;have:=h.len;show l.length<=_;omega,Y⟩;have done:∀y,Act e (qt x l e.1) y->y.n.length=x.n.length->Stp x y/\y.n.length=x.n.length:=λy a b=>⟨.inr ⟨e,l,Z,Y,mn,a⟩,b⟩;have X:vc af x=qt x l e.1:=by unfold vc;rw[J];rfl
  have u3:u_ af x=(qt x l e.1,e.2.2.1):=by unfold u_;rw[X,J]
  have hn:0<x.n.length:=I.p;have H:(af.cm (af.l x.n) 0)=true:=mg (i:=0) hn;unfold AI IG II De;rw[X,u3,J];refine dD (λg=>absurd rfl g) λ_=>dJ (λg=>?_) λg=>dJ (λG=>?_) λG=>?_
  .have⟨s1,j,s2,N⟩:=I.s g;have⟨p,v⟩:=aba (s:=(af.n jJ x.o (j:Int):A7)) (x:=qt x l e.1) rfl s1 N I.n;have A:=vC.1<|of_decide_eq_true ((eH _ _).mp p).2;rw[<-s2] at p v A;exact aj p<|aj H<|ay<|done _ (.inl ⟨g,v⟩) A
  .have⟨s1,s2,N,s4,s5,s6⟩:=I.h G;have kq:e.2.2.1=kI (decide<|e.2.2.1=1):=by
    rcases s1 with s|s<;>rw[s]<;>rfl
   have⟨p,v⟩:=alc (q:=decide<|e.2.2.1=1) (f:=decide<|e.2.2.2=1) qe s2 (Nat.ne_of_gt hn) (N _) s4 (s5 _).1 (s5 _).2 s6;rw[<-kq] at p v;have A:x.n.length=(Oc (qt x l e.1,e.2.2.1,decide<|e.2.2.2=1)).1.n.length:=by
    rcases v with ⟨_,_,k⟩|⟨_,h,t,a,d,sd,sn,lk,e',h',k,_⟩
    .rw[k];rfl
    .rw[k];cases decide (e.2.2.1=1)<;>rfl
   exact aj p<|aj H<|ay<|done _ (.inr<|.inl ⟨G,v⟩) A.symm
  .have⟨i,s2,N,v1,F,v3⟩:=I.i g G;have O:e.2.2.1.toNat=i:=by rw[s2];rfl
   have es:(af.n bo x.n e.2.2.1:cB)=aD (qt x l e.1) i:=by rw[s2];exact iV (x:=qt x l e.1)
   have V:af.and (af.bQ 0 e.2.2.1) (af.bq e.2.2.1<|af.l x.n)=true:=cr (l:=x.n) (by have:i<x.n.length:=N;omega);have D:((aD (qt x l e.1) i).2.2.2.2.1≠e.2.2.2\/(aD (qt x l e.1) i).2.2.2.2.2.2.2=true)->Go Empty.elim (.ret (qt x l e.1,())) λr=>Stp x r.1/\r.1.n.length=x.n.length:=λo=>ay<|done _ (.inr<|.inr ⟨g,G,.inl ⟨by rw[O];exact o,rfl⟩⟩) rfl;have C:∀y,y.n.length=x.n.length->(aD (qt x l e.1) i).2.2.2.2.1=e.2.2.2->(aD (qt x l e.1) i).2.2.2.2.2.2.2=false->(e.2.1=1/\Evl (qt x l e.1) i y\/e.2.1=2/\Tck (qt x l e.1) i y\/e.2.1=6/\Pwr (qt x l e.1) i true y\/e.2.1≠1/\e.2.1≠2/\e.2.1≠6/\Bgn (qt x l e.1) i y)->Go Empty.elim (.ret (y,())) λr=>Stp x r.1/\r.1.n.length=x.n.length:=λy hl a b o=>ay<|done y (.inr<|.inr ⟨g,G,.inr ⟨by rw[O];exact a,by rw[O];exact b,by rw[O];exact o⟩⟩) hl;rw[es];refine dJ (λk=>?_) λk1=>dJ (λk=>?_) λk2=>dJ (λk=>?_) λk3=>?_
   .have⟨p,v⟩:=aeC v1;have A:=vC.1<|of_decide_eq_true ((eH _ _).mp p).2;rw[<-s2] at p v A;exact aj V<|dJ (λa=>dG (λb=>aj p<|aj H<|C _ A a b<|.inl ⟨k,v⟩) λb=>D<|.inr b) λa=>D<|.inl a
   .have⟨p,v⟩:=agL F;have A:=vC.1<|of_decide_eq_true ((eH _ _).mp p).2;rw[<-s2] at p v A;exact aj V<|dJ (λa=>dG (λb=>aj p<|aj H<|C _ A a b<|.inr<|.inl ⟨k,v⟩) λb=>D<|.inr b) λa=>D<|.inl a
   .have⟨p,v⟩:=QE F.s.q F.s.i F.m F.t ⟨F.w.1,bu F.w.2<|by decide⟩;have A:=vC.1<|of_decide_eq_true ((eH _ _).mp p).2;rw[<-s2] at p v A;exact aj V<|dJ (λa=>dG (λb=>aj p<|aj H<|C _ A a b<|.inr<|.inr<|.inl ⟨k,v⟩) λb=>D<|.inr b) λa=>D<|.inl a
   .exact aj V (dJ (λa=>dG (λb=>by
     have⟨p,v⟩:=XG<|v3 a b k1 k2 k3;have A:=vC.1<|of_decide_eq_true ((eH _ _).mp p).2;rw[<-s2] at p v A;exact aj p<|aj H<|C _ A a b<|.inr<|.inr<|.inr ⟨k1,k2,k3,v⟩) λb=>D<|.inr b) λa=>D<|.inl a)
theorem L8{m:au}{n:Node}{on:Bool}(h:(ju m n on).2=0):(ju m n on).1.1=n.1:=by
 unfold ju at h ⊢;by_cases f:dn m n=0
 .rw[bX f,cond_true] at h ⊢;cases on
  .unfold rX at h ⊢
   grind
  grind
 simp_all
theorem LL{n:Node}{r:jo×Int}(h:(Ai n r).2=0):(Ai n r).1.1=n.1:=by
 unfold Ai at h ⊢
 grind
theorem ak_{m:au}{n:Node}{o:dP}(h:(zh m n o).2=0):(zh m n o).1.1=n.1:=by
 unfold zh at h ⊢;by_cases f:dn m n=0
 .rw[bX f,cond_true] at h ⊢;cases hd:decide<|1<=o.d/\o.d<=3
  .simp_all
  rw[hd,cond_true] at h;cases hi:kT n
  .rfl
  rw[hi,cond_true] at h;cases h1:decide<|o.d=1
  .rw[h1,cond_false] at h;cases h2:decide<|o.d=2
   .rw[h2,cond_false] at h;exact LL h
   .rw[h2,cond_true] at h;exact LL h
  .rw[h1,cond_true] at h;exact LL h
 simp_all
theorem Ye{m:au}{n:Node}(h:(jq m n).2=0):(jq m n).1.1=n.1:=by
 unfold jq at h ⊢
 grind
theorem acI{m:au}{n:Node}(h:(iL m n).2.2.2=0):(iL m n).1.1=n.1:=by
 unfold iL at h ⊢;by_cases f:dn m n=0
 .rw[bX f,cond_true] at h ⊢;cases hd:decide<|n.2.1=1
  .simp_all
  .rw[cond_true];cases decide (0<n.e-1)
   .rw[cond_false];cases (af.n .bool m.g n.1:Bool)<;>rfl
   .rfl
 simp_all
theorem alQ{n:Node}:(x9 n).1=n.1:=by unfold x9;grind
def ajl{m:au}{n:Node}{o:pW}:(Jd m n o).1=n.1:=by
 unfold Jd;rw[alQ];cases decide (o.1=3)<;>rfl
variable{f:List Seen}
theorem alJ{m:au}{n:Node}(h:(oD m n f).2.2=0):(oD m n f).1.1=n.1:=by
 unfold oD at h ⊢;by_cases g:dn m n=0
 .rw[bX g,cond_true] at h ⊢;cases hi:kT n&&decide (¬n.2.2.1.2.1=n.1)
  .grind
  .rw[hi,cond_true] at h;by_cases j:(u9 n f).2=0
   .rw[bX j,cond_true];exact ajl
   simp_all
 simp_all
def afT{m:au}{n:Node}:(xa m n).1.1=n.1:=by
 unfold xa;cases decide ((qI n).2=2)
 .cases decide ((qI n).2=3)
  .cases decide ((qI n).2=4)<;>rfl
  .rfl
 .rfl
theorem ahw{m:au}{n:Node}(h:(rH m n).2.2.2=0):(rH m n).1.1=n.1:=by
 unfold rH at h ⊢;by_cases f:dn m n=0
 .rw[bX f,cond_true] at h ⊢;cases hi:kT n&&decide (n.c.2.1=n.1)
  .simp_all
  .exact afT
 simp_all
theorem Zg{m:au}{n:Node}{g:Bool}(h:(lb m n f g).2.2.2=0):(lb m n f g).1.1=n.1:=by
 unfold lb at h ⊢;by_cases j:dn m n=0
 .rw[bX j,cond_true] at h ⊢;cases h1:decide<|n.2.1=1
  .simp_all
  cases h2:decide<|(f.length:Int)=2
  .simp_all
  cases (jy m.1 f).2.2
  .rfl
  cases decide ((jy m.1 f).1.1=1)
  .cases UZ m n (jy m.1 f).1<;>rfl
  cases decide ((jy m.1 f).1.d=n.1)
  .cases (g && !n.f)<;>rfl
  .rfl
 simp_all
theorem Pk{m:au}{c:gE}{r:Int}:(qM m c r).2.1=c.2.1:=by
 unfold qM;by_cases h:(AB m c r).2=0
 .rw[bX h,cond_true];unfold AB at h ⊢
  grind
 simp_all
theorem akP{m:au}{n:Node}(h:dn m n=0)(f:kT n=true):(jq m n).2=0/\(jq m n).1.2.1=n.2.1/\(jq m n).1.2.2.1.2.1=if n.2.2.1.2.1+1=m.1 then 0 else n.2.2.1.2.1+1:=by
 have g:=step_ok h f;unfold jq;have j:(nC n.2.2.1 m.1).1.2.1=if n.2.2.1.2.1+1=m.1 then 0 else n.2.2.1.2.1+1:=by
  unfold nC at g ⊢
  grind
 grind
theorem aal{n:Node}:(x9 n).2.2=n.2.2/\((x9 n).2.1=n.2.1\/n.2.1=4/\(x9 n).2.1=3):=by
 unfold x9
 grind
variable{l:List Seen}
theorem alK{m:au}{n:Node}(h:(oD m n l).2.2=0):kT n=true/\(oD m n l).1.2.2.1.2.1=n.2.2.1.2.1/\((oD m n l).1.2.1=n.2.1\/n.2.1=4/\(oD m n l).1.2.1=3):=by
 unfold oD at h ⊢;by_cases f:dn m n=0
 .rw[bX f,cond_true] at h ⊢;cases hi:kT n&&decide (¬n.2.2.1.2.1=n.1)
  .grind
  .rw[hi,cond_true] at h;by_cases g:(u9 n l).2=0
   .rw[bX g,cond_true];refine⟨((eH _ _).mp hi).1,?_⟩;unfold Jd;cases decide ((vD m n (u9 n l).1).1=3)
    .obtain⟨a,b⟩:=@aal (AS n (XC n (vD m n (u9 n l).1)));exact⟨(congrArg (λz=>z.1.2.1) a),b⟩
    .obtain⟨a,b⟩:=@aal (J5 m (AS n (XC n (vD m n (u9 n l).1))) (vD m n (u9 n l).1).2.2.2.1);exact⟨(congrArg (λz=>z.1.2.1) a).trans Pk,b⟩
   simp_all
 simp_all
theorem aqt{m:au}{n:Node}(h:(rH m n).2.2.2=0):((rH m n).2.2.1=true->(rH m n).1.2.1=4/\(rH m n).1.2.2.1.2.1=n.2.2.1.2.1)/\((rH m n).2.2.1=false->(rH m n).1.2.1=1\/(rH m n).1.2.1=5):=by
 unfold rH at h ⊢;by_cases f:dn m n=0
 .rw[bX f,cond_true] at h ⊢;cases hi:kT n&&decide (n.c.2.1=n.1)
  .simp_all
  .rw[cond_true];unfold xa;cases decide ((qI n).2=2)
   .cases decide ((qI n).2=3)
    .cases decide ((qI n).2=4)
     .exact⟨λ_=>⟨rfl,Pk⟩,nofun⟩
     .exact⟨nofun,λ_=>.inl rfl⟩
    .exact⟨nofun,λ_=>.inl rfl⟩
   .exact⟨nofun,λ_=>.inr rfl⟩
 simp_all
def afe{m:au}{n:Node}(h:dn m n=0)(f:kT n=true)(g:n.2.2.1.2.1=n.1):(rH m n).2.2.2=0:=by
 unfold rH;rw[bX h,cond_true,f,bX g];unfold xa;cases decide ((qI n).2=2)
 .cases decide ((qI n).2=3)
  .cases decide ((qI n).2=4)<;>rfl
  .rfl
 .rfl
theorem acJ{m:au}{n:Node}(h:(iL m n).2.2.2=0):n.2.1=1/\((iL m n).2.2.1=false->(iL m n).1.2.1=1)/\((iL m n).2.2.1=true->(iL m n).1.2.1=2/\(iL m n).1.2.2.1.2.1=n.1):=by
 unfold iL at h ⊢;by_cases f:dn m n=0
 .rw[bX f,cond_true] at h ⊢;cases hd:decide<|n.2.1=1
  .simp_all
  .have g:=of_decide_eq_true hd;cases decide (0<n.e-1)
   .rw[cond_false];cases (af.n .bool m.g n.1:Bool)
    all_goals simp_all
   simp_all
 simp_all
def acH{m:au}{n:Node}(h:dn m n=0)(f:n.2.1=1):(iL m n).2.2.2=0:=by
 unfold iL;rw[bX h,cond_true,bX f,cond_true];cases decide (0<n.e-1)
 .rw[cond_false];cases (af.n .bool m.g n.1:Bool)<;>rfl
 .rfl
theorem QD{m:au}{n:Node}{on:Bool}(h:(ju m n on).2=0):(on=true->n.2.1=0/\(ju m n on).1.2.1=1)/\(on=false->(ju m n on).1.2.1=0):=by
 unfold ju at h ⊢;by_cases f:dn m n=0
 .rw[bX f,cond_true] at h ⊢;cases on
  .refine⟨nofun,λ_=>?_⟩;unfold rX at h ⊢
   grind
  grind
 simp_all
theorem LM{n:Node}{r:jo×Int}(h:(Ai n r).2=0):(Ai n r).1.2.1=n.2.1/\(Ai n r).1.2.2.1=n.2.2.1:=by
 unfold Ai at h ⊢
 grind
theorem ala{m:au}{n:Node}{o:dP}(h:(zh m n o).2=0):(zh m n o).1.2.1=n.2.1/\(zh m n o).1.2.2.1=n.2.2.1:=by
 unfold zh at h ⊢;by_cases f:dn m n=0
 .rw[bX f,cond_true] at h ⊢;cases hd:decide<|1<=o.d/\o.d<=3
  .simp_all
  rw[hd,cond_true] at h;cases hi:kT n
  .simp_all
  rw[hi,cond_true] at h;cases h1:decide<|o.d=1
  .rw[h1,cond_false] at h;cases h2:decide<|o.d=2
   .rw[h2,cond_false] at h;exact LM h
   .rw[h2,cond_true] at h;exact LM h
  .rw[h1,cond_true] at h;exact LM h
 simp_all
theorem akS{n:Int}(h:(jy n l).2.2=true):∃v∈l,(jy n l).2.1=v.2.1/\CH n v=true:=by
 induction l with
 | nil=>exact absurd h (by simp[jy])
 | cons s l ih=>
   rw[jy] at h ⊢
   grind
theorem ak8{m:au}{n:Node}{f:Bool}(h:(lb m n l f).2.2.2=0):n.2.1=1/\((lb m n l f).2.2.1=false->(lb m n l f).1.2.1=1)/\((lb m n l f).2.2.1=true->(lb m n l f).1.2.1=3/\∃v∈l,(lb m n l f).2.1=v.2.1/\CH m.1 v=true):=by
 unfold lb at h ⊢;by_cases j:dn m n=0
 .rw[bX j,cond_true] at h ⊢;cases h1:decide<|n.2.1=1
  .simp_all
  have p:=of_decide_eq_true h1;refine⟨p,?_⟩;cases h2:decide<|(l.length:Int)=2
  .simp_all
  cases h3:(jy m.1 l).2.2
  .simp_all
  have g:=akS h3;cases decide ((jy m.1 l).1.1=1)
  .cases UZ m n (jy m.1 l).1
   .simp_all
   .exact⟨nofun,λ_=>⟨rfl,g⟩⟩
  cases decide ((jy m.1 l).1.d=n.1)
  .cases (f && !n.f)
   .exact⟨nofun,λ_=>⟨rfl,g⟩⟩
   simp_all
  simp_all
 simp_all
structure Mc where
 (n S G W D L E:Int)
 q:Nat
structure vQ(c:Mc):Prop where
 n:c.n=4\/c.n=5\/c.n=6\/c.n=7\/c.n=8
 D:0<=c.D/\c.D<=64
 L:0<=c.L/\c.L<=64
 W:16*c.n*c.D+16<=c.W
 G:2*c.W+2*c.L+4<=c.G
 S:2*c.G+30<=c.S
 q:c.q=1\/c.q=4
namespace Mc
variable (c:Mc)
def k(i:Nat):Int:=if i=0 then 17 else 13
def w(i:Nat):Int:=if i=0 then c.W else 0
def kw(i:Nat):(i=0/\k i=17/\c.w i=c.W)\/(i≠0/\k i=13/\c.w i=0):=by
 unfold k w;omega
def M:Int:=c.n*c.S
def bs(t:Int):Int:=c.n*(c.E+2*c.S-t)
def U:Int:=c.n*(c.S-c.D)-c.W
def R:Int:=(c.n-1)*(c.n*c.S+(c.n+1)*c.D)
def VA(i:Nat)(f om:Int):Int:=k i*(c.bs f+om)
def Pw(i:Nat)(f om:Int)(b:Bool):Int:=max 0 (k i*(c.bs f+om-c.U))+c.M+(bif b then c.R else 0)
def VP(i:Nat)(f q:Int):Int:=k i*(c.bs f-c.n*(if q=0 then c.W-c.w i else 0))
def Px(i:Nat)(f:Int):Int:=max 0 (k i*(c.bs f-c.n*(c.S-c.D-c.w i)))+c.M
def VL(i:Nat)(t:Int):Int:=max (max 0 (k i*(c.bs t+c.n*(c.G+c.L)-c.n*(c.S-c.D-c.w i)))+2*c.M) (max 0 (k i*(c.bs t-c.n*(c.S-c.D-c.w i)))+3*c.M)+(c.n+1)*c.D
def tT(e t:Int):Int:=(c.n+1)*max (e-t) 0
end Mc
variable{d g st t:Int}
section
variable {c:Mc} (h:vQ c) {i:Nat}
include h
def vQ.a1{f om:Int}{b:Bool}(I:f<=c.E)(H:0<=om):3*c.M+c.Pw i f om b<=c.VA i f om:=by
 have⟨hn,v,A,F,y,C,_⟩:=h;have kw:=c.kw i;have⟨n,S,G,W,D,L,E,_⟩:=c;simp only[Mc.VA,Mc.Pw,Mc.M,Mc.bs,Mc.U,Mc.R] at *;cases b<;>simp only[cond_true,cond_false]<;>rcases kw with ⟨p,g,j⟩|⟨p,g,j⟩<;>rw[g]<;>(try rw[j])<;>rcases hn with rfl|rfl|rfl|rfl|rfl<;>omega
def vQ.a2{j om f:Int}{b:Bool}(J:f<=c.E)(hh:om=c.W*(c.n-1)/\g=0/\j+c.S-c.D-c.W<=f\/g=om+c.W/\0<=om/\j+c.S-c.D<=f):c.M+(bif b then c.R else 0)+c.VA i f g<=c.Pw i j om b:=by
 have⟨hn,A,F,I,C,H,_⟩:=h;have kw:=c.kw i;have⟨n,S,G,W,D,L,E,_⟩:=c;simp only[Mc.VA,Mc.Pw,Mc.M,Mc.bs,Mc.U] at *;rcases kw with ⟨y,p,v⟩|⟨y,p,v⟩<;>rw[p]<;>(try rw[v])<;>rcases hn with rfl|rfl|rfl|rfl|rfl<;>omega
def vQ.pa{om q:Int}(F:0<=om):c.VP i st q<=c.VA i st om:=by
 have⟨hn,p,y,C,v,A,_⟩:=h;have kw:=c.kw i;have⟨n,S,G,W,D,L,E,_⟩:=c;simp only[Mc.VA,Mc.VP,Mc.bs] at *;rcases kw with ⟨j,f,g⟩|⟨j,f,g⟩<;>rw[f]<;>(try rw[g])<;>rcases hn with rfl|rfl|rfl|rfl|rfl<;>split<;>omega
def vQ.p1{q:Int}(F:st<=c.E):3*c.M+c.Px i st<=c.VP i st q:=by
 have⟨hn,p,y,C,v,A,_⟩:=h;have kw:=c.kw i;have⟨n,S,G,W,D,L,E,_⟩:=c;simp only[Mc.Px,Mc.VP,Mc.M,Mc.bs] at *;rcases kw with ⟨j,f,g⟩|⟨j,f,g⟩<;>rw[f]<;>(try rw[g])<;>rcases hn with rfl|rfl|rfl|rfl|rfl<;>split<;>omega
def vQ.p2{f q:Int}(I:f<=c.E)(H:q=0/\st+c.S-c.D-c.W<=f\/q≠0/\st+c.S-c.D<=f):c.M+c.VP i f q<=c.Px i st:=by
 have⟨hn,v,A,F,y,C,_⟩:=h;have kw:=c.kw i;have⟨n,S,G,W,D,L,E,_⟩:=c;simp only[Mc.Px,Mc.VP,Mc.M,Mc.bs] at *;rcases kw with ⟨p,g,j⟩|⟨p,g,j⟩<;>rw[g]<;>(try rw[j])<;>rcases hn with rfl|rfl|rfl|rfl|rfl<;>split<;>omega
def vQ.p3{f:Int}(H:f<=c.E)(I:f<=t):2*c.M+c.VL i t<=c.VP i f i:=by
 have⟨hn,v,A,F,y,C,_⟩:=h;have kw:=c.kw i;have⟨n,S,G,W,D,L,E,_⟩:=c;simp only[Mc.VL,Mc.VP,Mc.M,Mc.bs] at *;rcases kw with ⟨p,g,j⟩|⟨p,g,j⟩<;>rw[g]<;>(try rw[j])<;>rcases hn with rfl|rfl|rfl|rfl|rfl<;>split<;>omega
def vQ.p4{f q:Int}(H:f<=c.E)(I:f<=t):c.VL i t<=c.VP i f q:=by
 have⟨hn,v,A,F,y,C,_⟩:=h;have kw:=c.kw i;have⟨n,S,G,W,D,L,E,_⟩:=c;simp only[Mc.VL,Mc.VP,Mc.M,Mc.bs] at *;rcases kw with ⟨p,g,j⟩|⟨p,g,j⟩<;>rw[g]<;>(try rw[j])<;>rcases hn with rfl|rfl|rfl|rfl|rfl<;>split<;>omega
def vQ.p5{f om:Int}(I:f<=c.E)(H:0<=om/\om<=c.W*(c.n-1)):3*c.M+c.Pw i f om false<=c.VP i f i:=by
 have⟨hn,v,A,F,y,C,_⟩:=h;have kw:=c.kw i;have⟨n,S,G,W,D,L,E,_⟩:=c;simp only[Mc.Pw,Mc.VP,Mc.M,Mc.bs,Mc.U,cond_false] at *;rcases kw with ⟨p,g,j⟩|⟨p,g,j⟩<;>rw[g]<;>(try rw[j])<;>rcases hn with rfl|rfl|rfl|rfl|rfl<;>split<;>omega
def vQ.l1(F:t-(c.G+c.L)<=st):c.M+c.Px i st+(c.n+1)*c.D<=c.VL i t:=by
 have⟨hn,p,y,C,v,A,_⟩:=h;have kw:=c.kw i;have⟨n,S,G,W,D,L,E,_⟩:=c;simp only[Mc.VL,Mc.Px,Mc.M,Mc.bs] at *;rcases kw with ⟨j,f,g⟩|⟨j,f,g⟩<;>rw[f]<;>(try rw[g])<;>rcases hn with rfl|rfl|rfl|rfl|rfl<;>omega
def vQ.l2{j:Int}(H:t<=j):2*c.M+c.Px i j+(c.n+1)*c.D<=c.VL i t:=by
 have⟨hn,v,A,F,y,C,_⟩:=h;have kw:=c.kw i;have⟨n,S,G,W,D,L,E,_⟩:=c;simp only[Mc.VL,Mc.Px,Mc.M,Mc.bs] at *;rcases kw with ⟨p,f,g⟩|⟨p,f,g⟩<;>rw[f]<;>(try rw[g])<;>rcases hn with rfl|rfl|rfl|rfl|rfl<;>omega
def vQ.l3{e:Int}(y:-c.D<=d)(A:t+(c.S+d)<=e):c.M+c.tT e (t+(c.S+d))<=c.tT e t:=by
 have⟨hn,f,j,v,g,p,_⟩:=h;have⟨n,S,G,W,D,L,E,_⟩:=c;simp only[Mc.tT,Mc.M] at *;rcases hn with rfl|rfl|rfl|rfl|rfl<;>omega
def vQ.tm{e e' t':Int}(y:e'<=e)(A:t<=t'):c.tT e' t'<=c.tT e t:=by
 have⟨hn,f,j,v,g,p,_⟩:=h;have⟨n,S,G,W,D,L,E,_⟩:=c;simp only[Mc.tT] at *;rcases hn with rfl|rfl|rfl|rfl|rfl<;>omega
def vQ.td{e a:Int}(y:a<=t+c.S+c.D):c.tT e (t+c.S)<=c.tT e a+(c.n+1)*c.D:=by
 have⟨hn,f,j,v,g,p,_⟩:=h;have⟨n,S,G,W,D,L,E,_⟩:=c;simp only[Mc.tT] at *;rcases hn with rfl|rfl|rfl|rfl|rfl<;>omega
def vQ.t0{e:Int}(y:e<=t+c.S+c.D):c.tT e (t+c.S)<=(c.n+1)*c.D:=by
 have⟨hn,f,j,v,g,p,_⟩:=h;have⟨n,S,G,W,D,L,E,_⟩:=c;simp only[Mc.tT] at *;rcases hn with rfl|rfl|rfl|rfl|rfl<;>omega
def vQ.lm{j:Int}(H:t<=j):c.VL i j<=c.VL i t:=by
 have⟨hn,v,A,F,y,C,_⟩:=h;have kw:=c.kw i;have⟨n,S,G,W,D,L,E,_⟩:=c;simp only[Mc.VL,Mc.M,Mc.bs] at *;rcases kw with ⟨p,f,g⟩|⟨p,f,g⟩<;>rw[f]<;>(try rw[g])<;>rcases hn with rfl|rfl|rfl|rfl|rfl<;>omega
def vQ.n1(F:c.S<=st):c.VA i st 0+c.M<=c.VL i 0:=by
 have⟨hn,p,y,C,v,A,_⟩:=h;have kw:=c.kw i;have⟨n,S,G,W,D,L,E,_⟩:=c;simp only[Mc.VA,Mc.VL,Mc.M,Mc.bs] at *;rcases kw with ⟨j,f,g⟩|⟨j,f,g⟩<;>rw[f]<;>(try rw[g])<;>rcases hn with rfl|rfl|rfl|rfl|rfl<;>omega
def vQ.nn{e:Int}:0<=c.M/\0<=c.tT e t/\0<=c.VL i t/\0<=(c.n+1)*c.D/\0<=c.R:=by
 have⟨hn,p,y,C,v,A,_⟩:=h;have kw:=c.kw i;have⟨n,S,G,W,D,L,E,_⟩:=c;simp only[Mc.VL,Mc.M,Mc.bs,Mc.tT,Mc.R] at *;rcases kw with ⟨j,f,g⟩|⟨j,f,g⟩<;>rw[f]<;>(try rw[g])<;>rcases hn with rfl|rfl|rfl|rfl|rfl<;>omega
def vQ.na{om:Int}{b:Bool}:c.M<=c.Pw i st om b/\c.M<=c.Px i st:=by
 have⟨hn,p,y,C,v,A,_⟩:=h;have kw:=c.kw i;have⟨n,S,G,W,D,L,E,_⟩:=c;simp only[Mc.Pw,Mc.Px,Mc.M,Mc.bs,Mc.U,Mc.R] at *;cases b<;>simp only[cond_true,cond_false]<;>rcases kw with ⟨j,f,g⟩|⟨j,f,g⟩<;>rw[f]<;>(try rw[g])<;>rcases hn with rfl|rfl|rfl|rfl|rfl<;>omega
def vQ.nw:0<=c.W/\0<=c.S/\0<=c.G/\c.D<=c.S:=by
 have⟨hn,f,j,v,g,p,_⟩:=h;have⟨n,S,G,W,D,L,E,_⟩:=c;rcases hn with rfl|rfl|rfl|rfl|rfl<;>simp only at * <;> omega
end
def nk(k:Int):Bool:=decide (k≠3)&&decide (k≠4)
def nk3{k:Int}(h:nk k=true):k≠3:=of_decide_eq_true ((eH _ _).mp h).1
def nk4{k:Int}(h:nk k=true):k≠4:=Cf h
def lv(h:List gw)(i:Nat)(t:Int):List gw:=h.filter λe=>nk e.2.1&&(decide (e.2.2.1=(i:Int))&&decide (e.2.2.2=t))
variable{i:Nat}
def mY{h f:List gw}(p:h.Perm f):(lv h i t).Perm<|lv f i t:=p.filter _
variable{l:List gw}
def Qt{h:List gw}:lv (l++h) i t=lv l i t++lv h i t:=jX ..
def KB{h:List gw}(hn:∀e∈h,nk e.2.1=true->e.2.2.1=(i:Int)->e.2.2.2≠t):lv h i t=[]:=List.filter_eq_nil_iff.2 λe f=>by
 simp only[eH,tP];exact λ⟨a,b,d⟩=>hn e f a b d
def GV{e:gw}{h:List gw}(a:nk e.2.1=true)(b:e.2.2.1=(i:Int))(d:e.2.2.2=t):lv (e::h) i t=e::lv h i t:=
 dY (by simp only[eH,tP];exact⟨a,b,d⟩)
def Al{e:gw}{h:List gw}(a:¬(nk e.2.1=true/\e.2.2.1=(i:Int)/\e.2.2.2=t)):lv (e::h) i t=lv h i t:=
 List.filter_cons_of_neg (by simp only[eH,tP];exact a)
inductive xc (c:Mc) (i:Nat) (w eo:Int) (y:cB) (l:List gw) (v:Int):Prop
 | aU (a:kT y.1=true) (b:l=[]) (d:0<=v)
 | beg (t:Int) (a:kT y.1=true) (e:y.2.2.2.2.2.2.2=false) (b:l=[(t,5,(i:Int),y.2.2.2.2.1)]) (s:y.2.1.1<=t) (u:t<=c.E) (p:y.1.2.2.1.2.1=y.2.1.2.1%c.n) (d:(bif decide (y.1.2.1=4) then c.VA i y.2.1.1 (c.W*(y.2.1.2.1%c.n)) else c.VP i y.2.1.1 y.1.2.2.1.2.1)+c.tT eo (w+c.S)<=v)
 | F6 (t:Int) (a:kT y.1=true) (e:y.2.2.2.2.2.2.2=false) (b:l=[(t,1,(i:Int),y.2.2.2.2.1)]) (p:y.1.2.2.1.2.1=y.2.1.2.1%c.n) (d:(bif decide (y.1.2.1=4) then c.Pw i y.2.1.1 (c.W*(y.2.1.2.1%c.n)) y.2.2.2.2.2.2.1 else c.Px i y.2.1.1)+c.tT eo (w+c.S)<=v)
 | xk (a:y.1.2.1=1) (e:y.2.2.2.2.2.2.2=false) (s:y.2.2.2.1<=w) (b:l=[]) (u:eo<=w+c.S+c.D) (d:c.VL i y.2.2.2.1<=v)
 | Iz (t:Int) (a:y.1.2.1=1) (e:y.2.2.2.2.2.2.2=false) (s:y.2.2.2.1<=w) (b:l=[(t,2,(i:Int),y.2.2.2.2.1)]) (u:t<=w+c.S+c.D) (d:c.VL i y.2.2.2.1+c.tT eo t<=v)
 | off (a:y.1.2.1=0\/y.1.2.1=5) (b:l=[]) (d:c.VL i w+c.tT eo (w+c.S)<=v)
 | pow (t:Int) (a:y.1.2.1=0) (e:y.2.2.2.2.2.2.2=false) (b:l=[(t,6,(i:Int),y.2.2.2.2.1)]) (d:c.VL i w+c.tT eo (w+c.S)+(c.M+(c.n+1)*c.D)<=v)
variable{C:Int}{c:Mc}
theorem xc.mono{w w' f v:Int}{y:cB}(j:vQ c)(D:w<=w')(A:f<=g)(G:v<=C)(h:xc c i w g y l v):xc c i w' f y l C:=by
 have T:=j.tm (e:=g) (t:=w+c.S) (e':=f) (t':=w'+c.S) A (by omega);have V:=j.lm (i:=i) D;cases h with
 | aU a b d=>exact .aU a b (by omega)
 | beg t a e b s u p d=>exact .beg t a e b s u p (by omega)
 | F6 t a e b p d=>exact .F6 t a e b p (by omega)
 | xk a e s b u d=>exact .xk a e (by omega) b (by omega) (by omega)
 | Iz t a e s b u d=>
   have F:=j.tm (e:=g) (t:=t) (e':=f) (t':=t) A<|ai _;exact .Iz t a e (by omega) b (by omega) (by omega)
 | off a b d=>exact .off a b (by omega)
 | pow t a e b d=>exact .pow t a e b (by omega)
theorem xc.short{w f v:Int}{y:cB}(h:xc c i w f y l v):l=[]\/∃e,l=[e]:=by
 cases h with
 | aU a b d=>simp_all
 | beg t a e b s u p d=>simp_all
 | F6 t a e b p d=>simp_all
 | xk a e s b u d=>simp_all
 | Iz t a e s b u d=>simp_all
 | off a b d=>simp_all
 | pow t a e b d=>simp_all
theorem xc.perm{w v:Int}{y:cB}{f:List gw}(h:xc c i w g y l v)(p:f.Perm l):xc c i w g y f v:=by
 have e:f=l:=by
  rcases h.short with rfl|⟨e,rfl⟩
  all_goals simp_all
 simp_all
theorem xc.nn{w v:Int}{y:cB}(f:vQ c)(A:0<=y.2.1.2.1%c.n)(h:xc c i w g y l v):0<=v:=by
 obtain⟨n1,C,_,D,_⟩:=f.nn (i:=i) (e:=g) (t:=w+c.S);have j:0<=c.W*(y.2.1.2.1%c.n):=cO f.nw.1 A;cases h with
 | aU a b d=>exact d
 | beg t a e b s u p d=>
   have p1:=f.p1 (i:=i) (st:=y.2.1.1) (q:=y.1.2.2.1.2.1) (by omega);have pa:=f.pa (i:=i) (st:=y.2.1.1) (q:=y.1.2.2.1.2.1) j;have na:=(f.na (i:=i) (st:=y.2.1.1) (om:=0) (b:=false)).2
   grind
 | F6 t a e b p d=>
   have na:=f.na (i:=i) (st:=y.2.1.1) (om:=c.W*(y.2.1.2.1%c.n)) (b:=y.2.2.2.2.2.2.1)
   grind
 | xk a e s b u d=>have:=(f.nn (i:=i) (e:=g) (t:=y.2.2.2.1)).2.2.1;omega
 | Iz t a e s b u d=>have:=f.nn (i:=i) (e:=g) (t:=y.2.2.2.1);have:=f.nn (i:=i) (e:=g) (t:=t);omega
 | off a b d=>have:=f.nn (i:=i) (e:=g) (t:=w);omega
 | pow t a e b d=>have:=f.nn (i:=i) (e:=g) (t:=w);omega
def vM(v:Nat->Int):Nat->Int
 | 0=>0
 | n+1=>vM v n+v n
def RQ(v:Nat->Int)(i:Nat)(a:Int):Nat->Int:=λj=>if j=i then a else v j
def vg{v:Nat->Int}{a:Int}:RQ v i a i=a:=if_pos rfl
variable{j:Nat}
def pE{v:Nat->Int}{a:Int}(h:j≠i):RQ v i a j=v j:=if_neg h
theorem Fi{v:Nat->Int}{i:Nat}{a:Int}:∀{n},n<=i->vM (RQ v i a) n=vM v n
 | 0,_=>rfl
 | n+1,h=>by rw[vM,vM,Fi<|by omega,pE<|by omega]
theorem qz{v:Nat->Int}{i:Nat}{a:Int}:∀{n},i<n->vM (RQ v i a) n=vM v n-v i+a
 | n+1,h=>by
   by_cases e:i=n
   .subst e;rw[vM,vM,Fi<|ah _,vg];omega
   .rw[vM,vM,qz<|by omega,pE<|by omega];omega
theorem aa6{v:Nat->Int}:∀{n},(∀i,i<n->0<=v i)->0<=vM v n
 | 0,_=>ai _
 | n+1,h=>Int.add_nonneg (aa6 λi f=>h i<|by omega)<|h n (by omega)
structure Env(c:Mc)(m:au)(s:gK):Prop where
 ml:df m=true
 ok:vQ c
 n:c.n=m.1
 S:c.S=m.2.1
 G:c.G=m.2.2.1
 W:c.W=m.2.2.2.1
 D:c.D=m.2.2.2.2.1
 L:c.L=m.2.2.2.2.2.1
 E:0<=c.E/\c.E<=1000000000000
 fl:s.2.2.2.2.2.2.2.length<=1000000
 fm:∀f∈s.2.2.2.2.2.2.2,ng (m,f)=true
 gt:m.1<=(s.2.2.2.1.length:Int)
 gd:m.1<=(s.2.2.2.2.1.length:Int)
 dl:s.2.2.2.2.2.1.length<=1000000
 dd:∀v∈s.2.2.2.2.2.1, -m.2.2.2.2.1<=v/\v<=m.2.2.2.2.1
 op:s.2.2.2.2.2.2.1.length<=1000000
structure AU(m:au)(i:Nat)(τ:Int)(y:cB):Prop where
 zk:dn m y.1=0
 id:y.1.1=(i:Int)
 t:0<=y.2.2.2.2.1/\y.2.2.2.2.1<=τ
 c:0<=y.2.1.1/\y.2.1.1<=2199023255552
 l:0<=y.2.1.2.1
 d:y.2.1.2.2.length<=8
variable{τ:Int}
theorem AU.mono{m:au}{f:Int}{y:cB}(h:AU m i τ y)(k:τ<=f):AU m i f y:=⟨h.zk,h.id,⟨h.t.1,by have:=h.t.2;omega⟩,h.c,h.l,h.d⟩
def Chq(K:Nat)(l:List dx):Prop:=l.length<=K/\∀s∈l,SgO s
variable{K:Nat}
theorem Chq.mono{f:Nat}{l:List dx}(h:Chq K l)(k:K<=f):Chq f l:=⟨aV h.1 k,h.2⟩
def Chq.app{k:Nat}{l a:List dx}(h:Chq K l)(g:I9 l a k):Chq (K+k) a:=⟨aV g.1<|Nat.add_le_add_right h.1 _,λs f=>(g.2 s f).elim (h.2 s) id⟩
def we(c:Mc)(e:gw):Nat:=bif nk e.2.1 then c.q else bif decide (e.2.1=4)&&decide (e.2.2.2=1) then 2 else 1
def wt(c:Mc):List gw->Nat
 | []=>0
 | e::l=>we c e+wt c l
def RU{h:List gw}:wt c (l++h)=wt c l+wt c h:=by
 induction l with
 | nil=>exact(gJ _).symm
 | cons e l ih=>rw[lu,wt,wt,ih,Nat.add_assoc]
def Cc{h:List gw}(p:l.Perm h):wt c l=wt c h:=by
 induction p with
 | nil=>rfl
 | cons _ _ ih=>rw[wt,wt,ih]
 | swap=>simp only[wt];omega
 | trans _ _ a b=>exact a.trans b
def No(f:vQ c){e:gw}:1<=we c e:=by
 unfold we;cases nk e.2.1
 .cases (decide (e.2.1=4)&&decide (e.C=1))<;>simp
 .have:=f.q;rw[cond_true];omega
def an5(f:vQ c):l.length<=wt c l:=by
 induction l with
 | nil=>exact ah _
 | cons e l ih=>have:=No f (e:=e);rw[bd,wt];omega
def av1(h:∀e∈l,nk e.2.1=true):wt c l=c.q*l.length:=by
 induction l with
 | nil=>rfl
 | cons e l ih=>rw[wt,ih λe k=>h e<|.tail _ k,we,h e<|.head _,cond_true,bd,Nat.mul_succ,ko]
def lw(h:List gw)(k:Int):List gw:=h.filter λe=>decide (e.2.1=4)&&(decide (e.2.2.1=k)&&decide (e.2.2.2≠1))
def v_{h f:List gw}{k:Int}(p:h.Perm f):(lw h k).Perm<|lw f k:=p.filter _
def Qu{h:List gw}{k:Int}:lw (l++h) k=lw l k++lw h k:=jX ..
def Tp{h:List gw}{k:Int}(hn:∀e∈h,e.2.1=4->e.2.2.1=k->e.2.2.2=1):lw h k=[]:=List.filter_eq_nil_iff.2 λe f=>by
 simp only[eH,tP];exact λ⟨a,b,d⟩=>d<|hn e f a b
inductive Nu (c:Mc) (h:rN) (l:List gw) (v:Int):Prop
 | uns (a:h.1=false) (b:l=[]) (d:2*(c.n*(c.E+2*c.S))+c.M<=v)
 | look (e:gw) (a:h.1=true) (b:l=[e]) (s:0<=h.2.1/\h.2.1<e.1) (d:2*(c.n*(c.E+c.S-h.2.1))<=v)
 | aU (a:h.1=true) (b:l=[]) (d:0<=v)
def Nu.perm{h:rN}{f:List gw}{v:Int}(q:Nu c h l v)(p:f.Perm l):Nu c h f v:=by
 have e:f=l:=by
  rcases q with ⟨a,rfl,d⟩|⟨e,a,rfl,s,d⟩|⟨a,rfl,d⟩
  .exact p.eq_nil
  .exact List.perm_singleton.1 p
  .exact p.eq_nil
 rw[e];exact q
def Chs(K:Nat)(x:Net):Prop:=(x.2.2.2.2.1.length<=K/\x.2.2.2.2.2.1.length<=K)/\(Chq K x.a/\Chq K x.b)/\x.o.length<=K
variable{x:Net}
theorem Chs.mono{f:Nat}(h:Chs K x)(k:K<=f):Chs f x:=⟨⟨aV h.1.1 k,aV h.1.2 k⟩,⟨h.2.1.1.mono k,h.2.1.2.mono k⟩,aV h.2.2 k⟩
structure Inv(c:Mc)(m:au)(s:gK)(B t K:Nat)(τ:Int)(ex:Nat)(b:Int)(x:Net):Prop where
 q:wU x
 UX:x.2.2.2.2.2.2.1=true
 em:x.m=m
 es:x.s=s
 en:(x.n.length:Int)=m.1
 now:0<=x.q.2.2/\x.q.2.2<=c.E
 ee:x.e<=c.E
 hw:∀e∈x.q.2.1,x.q.2.2<=e.1/\e.1<=c.E
 h3:∀e∈x.q.2.1,e.2.1=3->0<=e.2.2.2/\e.2.2.2<(x.o.length:Int)
 h4:∀e∈x.q.2.1,e.2.1=4->e.2.2.1=0\/e.2.2.1=1
 hi:∀e∈x.q.2.1,nk e.2.1=true->∃i:Nat,e.2.2.1=(i:Int)/\i<x.n.length/\e.2.2.2<=(aD x i).2.2.2.2.1
 ch:Chs K x
 sn:x.z.length<=K/\∀z∈x.z,dn m z.2=0
 hb:k_ (m,x.1)=true/\k_ (m,x.2.1)=true
 sy:c.q=1->x.1.1=true/\x.2.1.1=true
 nd:∀i,i<x.n.length->AU m i τ (aD x i)
 lx:ex<x.n.length->lv (x.q.2.1) ex ((aD x ex).2.2.2.2.1)=[]
 vs:∃(v:Nat->Int) (u w:Int),(ex<x.n.length->b<=v ex)/\(∀i,i<x.n.length->i≠ex->xc c i (x.q.2.2) x.e (aD x i) (lv (x.q.2.1) i ((aD x i).2.2.2.2.1)) (v i))/\(Nu c x.1 (lw x.q.2.1 0) u/\Nu c x.2.1 (lw x.q.2.1 1) w)/\c.q*vM v x.n.length+(u+w)+c.M*((wt c x.q.2.1+t:Nat):Int)<=c.M*(B:Int)
variable{A:Int}{dB:Nat}{evs:List gw}{f:cB->cB}{u:Int}{y:Net}
section
variable {c:Mc} {m:au} {s:gK} {B t K:Nat} {τ:Int} {ex:Nat} {b:Int} {x:Net} (h:Inv c m s B t K τ ex b x)
include h
def Inv.agX{G:Nat}{O:Int}{f:Nat}{J:Int}(hq:wU y)(P:y.2.2.2.2.2.2.1=x.2.2.2.2.2.2.1)(S:y.m=x.m)(V:y.s=x.s)(A:y.n.length=x.n.length)(H:y.q.2.2=x.q.2.2)(W:y.e<=x.e)
  (X:y.o=x.o) (Y:Chs G y) (Z:y.z.length<=G/\∀z∈y.z,dn m z.2=0) (p:y.1=x.1/\y.2.1=x.2.1)
  (I:(y.q.2.1).Perm<|evs++x.q.2.1) (C:∀e∈evs,(x.q.2.2<=e.1/\e.1<=c.E)/\e.2.1≠3/\(e.2.1=4->e.2.2.2=1/\(e.2.2.1=0\/e.2.2.1=1))/\(nk e.2.1=true->∃i:Nat,e.2.2.1=(i:Int)/\i<x.n.length/\e.2.2.2<=(aD y i).2.2.2.2.1))
  (ht:∀i,i<x.n.length->(aD x i).2.2.2.2.1<=(aD y i).2.2.2.2.1) (hn:∀i,i<x.n.length->AU m i O (aD y i)) (hl:f<x.n.length->lv (y.q.2.1) f ((aD y f).2.2.2.2.1)=[])
  (hv:∀v:Nat->Int,(ex<x.n.length->b<=v ex)->(∀i,i<x.n.length->i≠ex->xc c i (x.q.2.2) x.e (aD x i) (lv (x.q.2.1) i<|(aD x i).2.2.2.2.1) (v i))->∃F:Nat->Int,(f<x.n.length->J<=F f)/\(∀i,i<x.n.length->i≠f->xc c i (x.q.2.2) y.e (aD y i) (lv (y.q.2.1) i<|(aD y i).2.2.2.2.1) (F i))/\c.q*vM F x.n.length+c.M*(wt c evs:Int)<=c.q*vM v x.n.length+c.M*(dB:Int)):Inv c m s (B+dB) t G O f J y:=by
 have g:∀e∈y.q.2.1,e∈evs\/e∈x.q.2.1:=λe k=>oJ.1<|I.mem_iff.1 k;have D:∀k,(lw y.q.2.1 k).Perm<|lw x.q.2.1 k:=λk=>by
  refine(v_ I).trans ?_;rw[Qu,Tp (h:=evs) λe a b _=>((C e a).c b).1];exact .refl _
 refine⟨hq,P.trans h.UX,S.trans h.em,V.trans h.es,by rw[A];exact h.en,by rw[H];exact h.now,bu W h.ee,λe k=>?_,λe k j=>?_,λe k j=>?_,λe k j=>?_,Y,Z,by rw[p.1,p.2];exact h.hb,by rw[p.1,p.2];exact h.sy,by rw[A];exact hn,by rw[A];exact hl,?_⟩
 .rw[H];rcases g e k with k|k
  .exact(C e k).1
  .exact h.hw e k
 .rcases g e k with k|k
  .exact absurd j (C e k).2.1
  .rw[X];exact h.h3 e k j
 .rcases g e k with k|k
  .exact((C e k).c j).2
  .exact h.h4 e k j
 .rw[A];rcases g e k with k|k
  .exact(C e k).C j
  .have⟨i,a1,a2,a3⟩:=h.hi e k j;have:=ht i a2;exact⟨i,a1,a2,by omega⟩
 .have⟨v,u,w,v1,v2,N,v4⟩:=h.vs;have⟨F,w1,w2,w3⟩:=hv v v1 v2;rw[A,H,p.1,p.2];refine⟨F,u,w,w1,w2,⟨N.1.perm<|D 0,N.2.perm<|D 1⟩,?_⟩;rw[Cc I,RU,show((wt c evs+wt c x.q.2.1+t:Nat):Int)=(wt c evs:Int)+((wt c x.q.2.1+t:Nat):Int) from by omega,fC,show((B+dB:Nat):Int)=(B:Int)+(dB:Int) from by omega,fC];omega
def Inv.agY{p:Nat}{f:Nat}(X:wU y)(D:y.2.2.2.2.2.2.1=x.2.2.2.2.2.2.1)(F:y.m=x.m)(G:y.s=x.s)(H:y.n.length=x.n.length)(I:y.q.2.2=x.q.2.2)(J:y.e<=x.e)
  (N:y.o=x.o) (O:Chs p y) (P:y.z.length<=p/\∀z∈y.z,dn m z.2=0) (S:y.1=x.1/\y.2.1=x.2.1)
  (W:(y.q.2.1).Perm<|evs++x.q.2.1) (g:∀e∈evs,(x.q.2.2<=e.1/\e.1<=c.E)/\nk e.2.1=true/\∃i:Nat,e.2.2.1=(i:Int)/\i<x.n.length/\e.2.2.2<=(aD y i).2.2.2.2.1)
  (Y:∀i,i<x.n.length->(aD x i).2.2.2.2.1<=(aD y i).2.2.2.2.1) (hn:∀i,i<x.n.length->AU m i C (aD y i)) (V:f<x.n.length->lv (y.q.2.1) f ((aD y f).2.2.2.2.1)=[])
  (Z:∀v:Nat->Int,(ex<x.n.length->b<=v ex)->(∀i,i<x.n.length->i≠ex->xc c i (x.q.2.2) x.e (aD x i) (lv (x.q.2.1) i<|(aD x i).2.2.2.2.1) (v i))->∃j:Nat->Int,(f<x.n.length->A<=j f)/\(∀i,i<x.n.length->i≠f->xc c i (x.q.2.2) y.e (aD y i) (lv (y.q.2.1) i<|(aD y i).2.2.2.2.1) (j i))/\vM j x.n.length+c.M*(evs.length:Int)<=vM v x.n.length+c.M*(dB:Int)):Inv c m s (B+c.q*dB) t p C f A y:=
 h.agX X D F G H I J N O P S W (λe k=>⟨(g e k).1,nk3 (g e k).2.1,λq=>absurd q<|nk4 (g e k).2.1,λ_=>(g e k).2.2⟩) Y hn V λv a d=>(Z v a d).imp λj q=>⟨q.1,q.2.1,by
  have q:=bM (c:=(c.q:Int)) q.2.2 (by omega);rw[av1 λe k=>(g e k).2.1,Int.natCast_mul,Int.natCast_mul,Int.mul_left_comm,Int.mul_left_comm c.M,<-fC,<-fC];exact q⟩
def Inv.core{f:Nat}{p:Int}(X:wU y)(C:y.2.2.2.2.2.2.1=x.2.2.2.2.2.2.1)(D:y.m=x.m)(F:y.s=x.s)(G:y.n.length=x.n.length)(H:y.q.2.2=x.q.2.2)(I:y.e<=x.e)
  (J:y.o=x.o) (N:Chs j y) (O:y.z.length<=j/\∀z∈y.z,dn m z.2=0) (P:y.1=x.1/\y.2.1=x.2.1)
  (W:(y.q.2.1).Perm<|evs++x.q.2.1) (S:∀e∈evs,(x.q.2.2<=e.1/\e.1<=c.E)/\nk e.2.1=true/\∃i:Nat,e.2.2.1=(i:Int)/\i<x.n.length/\e.2.2.2<=(aD y i).2.2.2.2.1)
  (Y:∀i,i<x.n.length->(aD x i).2.2.2.2.1<=(aD y i).2.2.2.2.1) (hn:∀i,i<x.n.length->AU m i A (aD y i)) (V:f<x.n.length->lv (y.q.2.1) f ((aD y f).2.2.2.2.1)=[])
  (Z:∀v:Nat->Int,(ex<x.n.length->b<=v ex)->(∀i,i<x.n.length->i≠ex->xc c i (x.q.2.2) x.e (aD x i) (lv (x.q.2.1) i<|(aD x i).2.2.2.2.1) (v i))->∃g:Nat->Int,(f<x.n.length->p<=g f)/\(∀i,i<x.n.length->i≠f->xc c i (x.q.2.2) y.e (aD y i) (lv (y.q.2.1) i<|(aD y i).2.2.2.2.1) (g i))/\vM g x.n.length+c.M*(evs.length:Int)<=vM v x.n.length):Inv c m s B t j A f p y:=
 h.agY (dB:=0) X C D F G H I J N O P W S Y hn V λv a b=>(Z v a b).imp λg q=>⟨q.1,q.2.1,by have:=q.2.2;show _<=_+c.M*0;omega⟩
theorem Inv.none(p:i<x.n.length)(v:(aD x i).2.2.2.2.1<u):lv (x.q.2.1) i u=[]:=KB λe f a b d=>by
 obtain⟨j,a1,a2,g⟩:=h.hi e f a;have:j=i:=by omega
 subst this;omega
def Inv.V2(D:vQ c){k:Nat}(p:ex<x.n.length)(e:rv x y k k<|2*j):Inv c m s B t (K+k) τ ex (b-c.M*(j:Int)) y:=by
 obtain⟨a,b',e',S,f,rfl,l1,l2,X,Y,N,l7,W,O,G⟩:=e;have V:=(D.nn (i:=0) (e:=0) (t:=0)).1;have A:∀i u,(lv S i u).Perm<|lv (x.q.2.1) i u:=λi u=>by
  refine(mY O).trans ?_;rw[Qt,KB (h:=f) λe F a _=>absurd (G e F).1<|nk4 a];exact .refl _
 have wl:wt c f<=c.q*j:=by
  rcases D.q with q|q
  .rw[W<|h.sy q];exact aQ _
  .have:∀l:List gw,(∀e∈l,e∈f)->wt c l<=2*l.length:=λl=>by
    induction l with
    | nil=>exact λ_=>ah _
    | cons e l ih=>
      intro J;have i:=ih λz k=>J z<|.tail _ k;have⟨C,_,_,H⟩:=G e<|J e<|.head _;rw[wt,we,show nk e.2.1=false by rw[C];rfl,bX C,bX H,bd];show 2+_<=_;omega
   have:=this f λ_=>id;rw[q];omega
 refine h.agX (dB:=0) (evs:=f) ⟨h.q.made,X,Y⟩ rfl rfl rfl rfl rfl N rfl ⟨⟨aV l1<|Nat.add_le_add_right h.ch.1.1 _,aV l2<|Nat.add_le_add_right h.ch.1.2 _⟩,⟨h.ch.2.1.1.mono<|Nat.le_add_right _ _,h.ch.2.1.2.mono<|Nat.le_add_right _ _⟩,aV h.ch.2.2<|Nat.le_add_right _ _⟩ ⟨aV h.sn.1<|Nat.le_add_right _ _,h.sn.2⟩ ⟨rfl,rfl⟩ O (λe F=>?_) (λi I=>ai _) h.nd (λp=>?_) λv v1 v2=>?_
 .have⟨C,P,Z,H⟩:=G e F;exact⟨⟨P.1,bu P.2 h.ee⟩,by omega,λ_=>⟨H,Z⟩,λq=>absurd C<|nk4 q⟩
 .have:=A ex<|(aD x ex).e;rw[h.lx p] at this;exact this.eq_nil
 .refine⟨RQ v ex<|v ex-c.M*(j:Int),λp=>?_,λi I g=>?_,?_⟩
  .rw[vg];have:=v1 p;omega
  .rw[pE g];exact((v2 i I g).mono D (ai _) N<|ai _).perm (A i _)
  .rw[qz p];have:=bM (a:=(wt c f:Int)) (b:=((c.q*j:Nat):Int)) (c:=c.M) (by omega) V;rw[show vM v x.n.length-v ex+(v ex-c.M*(j:Int))=vM v x.n.length-c.M*(j:Int) by omega,Int.mul_sub,Int.mul_left_comm,<-Int.natCast_mul];show _<=_+c.M*0;omega
theorem Inv.mod(A:ex<x.n.length)(hτ:τ<=C)(D:AU m ex C (f (aD x ex)))(F:(aD x ex).2.2.2.2.1<=(f (aD x ex)).2.2.2.2.1):Inv c m s B t K C ex b (cJ x (bw x.n ex f)):=by
 have p:aD (cJ x (bw x.n ex f)) ex=f (aD x ex):=fP A;have y:∀i,i≠ex->aD (cJ x (bw x.n ex f)) i=aD x i:=λi g=>iv g;refine h.core (evs:=[]) ⟨h.q.made,h.q.len,h.q.heap⟩ rfl rfl rfl bO rfl (ai _) rfl h.ch h.sn ⟨rfl,rfl⟩ (.refl _) nofun (λi g=>?_) (λi g=>?_) (λ_=>?_) λv G H=>⟨v,G,λi g j=>?_,by show _+c.M*0<=_;omega⟩
 .by_cases e:i=ex
  .subst e;rw[p];exact F
  .rw[y i e];exact ai _
 .by_cases e:i=ex
  .subst e;rw[p];exact D
  .rw[y i e];exact(h.nd i g).mono hτ
 .rw[p];by_cases e:(aD x ex).2.2.2.2.1=(f (aD x ex)).2.2.2.2.1
  .rw[<-e];exact h.lx A
  .exact h.none A (by omega)
 .rw[y i j];exact H i g j
def Inv.cl(j:vQ c)(g:ex<x.n.length)(p:xc c ex (x.q.2.2) x.e (aD x ex) [] b):Inv c m s B t K τ x.n.length 0 x:=by
 refine h.core (evs:=[]) h.q rfl rfl rfl rfl rfl (ai _) rfl h.ch h.sn ⟨rfl,rfl⟩ (.refl _) nofun (λi f=>ai _) h.nd (λk=>absurd k<|bJ _) λv y A=>⟨v,λk=>absurd k<|bJ _,λi f _=>?_,by show _+c.M*0<=_;omega⟩;by_cases e:i=ex
 .subst e;rw[h.lx g];exact p.mono j (ai _) (ai _)<|y g
 .exact A i f e
def Inv.cp{e:gw}(N:vQ c)(g:ex<x.n.length)(p:qK x e y)(H:nk e.2.1=true)(I:e.2.2.1=(ex:Int))(J:e.2.2.2=(aD x ex).2.2.2.2.1)(O:x.q.2.2<=e.1)(V:e.1<=x.e->xc c ex (x.q.2.2) x.e (aD x ex) [e] (b-c.M))(W:∀z,z<=x.e->z<=e.1->xc c ex (x.q.2.2) z (aD x ex) [] b):Inv c m s B t K τ x.n.length 0 y:=by
 obtain⟨G,S,rfl,l1,l2,⟨rfl,f,j⟩|⟨P,f,j⟩⟩:=p
 .have C:∀(i:Nat) (u:Int),¬(e.2.2.1=(i:Int)/\e.2.2.2=u)->(lv S i u).Perm (lv (x.q.2.1) i u):=λi u k=>by
   have:=mY (i:=i) (t:=u) j
   rwa [Al λa=>k a.2] at this
  refine h.core (evs:=[e]) ⟨h.q.made,l1,l2⟩ rfl rfl rfl rfl rfl (ai _) rfl h.ch h.sn ⟨rfl,rfl⟩ j (λz X=>?_) (λi A=>ai _) h.nd (λk=>absurd k<|bJ _) λv D F=>⟨RQ v ex<|b-c.M,λk=>absurd k<|bJ _,λi A _=>?_,?_⟩
  .rw[aG.1 X];exact⟨⟨O,bu f h.ee⟩,H,⟨ex,I,g,oO J⟩⟩
  .by_cases k:i=ex
   .subst k;rw[vg];refine(V f).perm ?_;have:=mY (i:=i) (t:=(aD x i).2.2.2.2.1) j
    rwa [GV H I J,h.lx g] at this
   .rw[pE k];exact(F i A k).perm (C i _ λq=>k<|by omega)
  .rw[qz g,bP];have:=D g;show _+c.M*1<=_;omega
 .subst P;refine h.core (evs:=[]) ⟨h.q.made,l1,l2⟩ rfl rfl rfl rfl rfl f rfl h.ch h.sn ⟨rfl,rfl⟩ (.refl _) nofun (λi A=>ai _) h.nd (λk=>absurd k<|bJ _) λv D F=>⟨v,λk=>absurd k<|bJ _,λi A _=>?_,by show _+c.M*0<=_;omega⟩;by_cases k:i=ex
  .subst k;show xc c i _ G _ (lv (x.q.2.1) i<|(aD x i).2.2.2.2.1) _;rw[h.lx g];exact(W G f j).mono N (ai _) (ai _) (D g)
  .exact(F i A k).mono N (ai _) f (ai _)
theorem Inv.oth{k:Nat}{F:Int}(P:0<=d)(D:ex<x.n.length\/d=0)(y:k<x.n.length)(p:k≠ex)(hτ:τ<=F)(H:AU m k F (f (aD x k)))(I:(aD x k).2.2.2.2.1<=(f (aD x k)).2.2.2.2.1)(O:vQ c)
  (J:∀v,xc c k (x.q.2.2) x.e (aD x k) (lv (x.q.2.1) k ((aD x k).2.2.2.2.1)) v->xc c k (x.q.2.2) x.e (f (aD x k)) (lv (x.q.2.1) k ((f (aD x k)).2.2.2.2.1)) (v+d)):Inv c m s B t K F ex (b-d) (cJ x (bw x.n k f)):=by
 have C:aD (cJ x (bw x.n k f)) k=f (aD x k):=fP y;have A:∀i,i≠k->aD (cJ x (bw x.n k f)) i=aD x i:=λi j=>iv j;refine h.core (evs:=[]) ⟨h.q.made,h.q.len,h.q.heap⟩ rfl rfl rfl bO rfl (ai _) rfl h.ch h.sn ⟨rfl,rfl⟩ (.refl _) nofun (λi j=>?_) (λi j=>?_) (λq=>?_) λv N G=>⟨RQ (RQ v k (v k+d)) ex (v ex-d),λq=>?_,λi j g=>?_,?_⟩
 .by_cases e:i=k
  .subst e;rw[C];exact I
  .rw[A i e];exact ai _
 .by_cases e:i=k
  .subst e;rw[C];exact H
  .rw[A i e];exact(h.nd i j).mono hτ
 .rw[A ex (ir p)];exact h.lx q
 .rw[vg];have:=N q;omega
 .rw[pE g];by_cases e:i=k
  .subst e;rw[C,vg];exact J _ (G i j g)
  .rw[A i e,pE e];exact G i j g
 .show _+c.M*0<=_;rcases D with D|rfl
  .rw[qz D,qz y,pE (ir p)];omega
  .by_cases q:ex<x.n.length
   .rw[qz q,qz y,pE (ir p)];omega
   .rw[Fi (by omega),qz y];omega
def Inv.mp{e:gw}{k:Nat}{N:Int}(hd:0<=d)(P:ex<x.n.length\/d=0)(H:k<x.n.length)(j:k≠ex)(hτ:τ<=N)(hB:AU m k N<|f<|aD x k)(ht:(aD x k).2.2.2.2.1<=(f<|aD x k).2.2.2.2.1)(lk:lv (x.q.2.1) k ((f<|aD x k).2.2.2.2.1)=[])(hc:vQ c)(p:qK (cJ x<|bw x.n k f) e y)(W:nk e.2.1=true)(X:e.2.2.1=(k:Int))(Y:e.2.2.2=(f<|aD x k).2.2.2.2.1)(ew:x.q.2.2<=e.1)
  (Z:∀v,xc c k (x.q.2.2) x.e (aD x k) (lv (x.q.2.1) k<|(aD x k).2.2.2.2.1) v->(e.1<=x.e->xc c k (x.q.2.2) x.e (f<|aD x k) [e] (v+d-c.M))/\∀z,z<=x.e->z<=e.1->xc c k (x.q.2.2) z (f<|aD x k) [] (v+d)):Inv c m s B t K N ex (b-d) y:=by
 have F:aD (cJ x<|bw x.n k f) k=f (aD x k):=fP H;have D:∀i,i≠k->aD (cJ x<|bw x.n k f) i=aD x i:=λi A=>iv A;have tt:∀i,i<x.n.length->(aD x i).2.2.2.2.1<=(aD (cJ x<|bw x.n k f) i).2.2.2.2.1:=λi A=>by
  by_cases e:i=k
  .subst e;rw[F];exact ht
  .rw[D i e];exact ai _
 have nn:∀i,i<x.n.length->AU m i N (aD (cJ x<|bw x.n k f) i):=λi A=>by
  by_cases e:i=k
  .subst e;rw[F];exact hB
  .rw[D i e];exact(h.nd i A).mono hτ
 have sm:∀(v:Nat->Int) (a:Int),vM (RQ (RQ v k<|v k+d-a) ex<|v ex-d) x.n.length+a<=vM v x.n.length:=λv a=>by
  rcases P with P|rfl
  .rw[qz P,qz H,pE<|ir j];omega
  .by_cases q:ex<x.n.length
   .rw[qz q,qz H,pE<|ir j];omega
   .rw[Fi<|by omega,qz H];omega
 obtain⟨V,O,rfl,l1,l2,⟨rfl,C,G⟩|⟨g1,C,G⟩⟩:=p
 .have I:∀(i:Nat) (u:Int),¬(e.2.2.1=(i:Int)/\e.2.2.2=u)->(lv O i u).Perm (lv (x.q.2.1) i u):=λi u k=>by
   have:=mY (i:=i) (t:=u) G
   rwa [Al λa=>k a.2] at this
  refine h.core (evs:=[e]) ⟨h.q.made,l1,l2⟩ rfl rfl rfl bO rfl (ai _) rfl h.ch h.sn ⟨rfl,rfl⟩ G (λz hz=>?_) tt nn (λq=>?_) λv S J=>⟨RQ (RQ v k<|v k+d-c.M) ex<|v ex-d,λq=>?_,λi A g=>?_,?_⟩
  .rw[aG.1 hz];exact⟨⟨ew,bu C h.ee⟩,W,⟨k,X,H,oO<|Y.trans (congrArg (λz:cB=>z.2.2.2.2.1) F).symm⟩⟩
  .have:=I ex ((aD x ex).2.2.2.2.1) λq=>j (by omega);rw[h.lx q] at this;show lv O ex ((aD (cJ x<|bw x.n k f) ex).2.2.2.2.1)=[];rw[D ex<|ir j];exact this.eq_nil
  .rw[vg];have:=S q;omega
  .rw[pE g];show xc c i _ _ (aD (cJ x<|bw x.n k f) i) (lv O i<|(aD (cJ x<|bw x.n k f) i).2.2.2.2.1) _;by_cases q:i=k
   .subst q;rw[F,vg];refine((Z _<|J i A g).1 C).perm ?_;have:=mY (i:=i) (t:=(f<|aD x i).2.2.2.2.1) G
    rwa [GV W X Y,show lv (cJ x<|bw x.n i f).q.2.1 i ((f<|aD x i).2.2.2.2.1)=[] from lk] at this
   .rw[D i q,pE q];exact(J i A g).perm (I i _ λr=>q<|by omega)
  .have:=sm v c.M;show _+c.M*1<=_;omega
 .subst g1;refine h.core (evs:=[]) ⟨h.q.made,l1,l2⟩ rfl rfl rfl bO rfl C rfl h.ch h.sn ⟨rfl,rfl⟩ (.refl _) nofun tt nn (λq=>?_) λv S J=>⟨RQ (RQ v k<|v k+d-0) ex<|v ex-d,λq=>?_,λi A g=>?_,?_⟩
  .show lv (x.q.2.1) ex ((aD (cJ x<|bw x.n k f) ex).2.2.2.2.1)=[];rw[D ex<|ir j];exact h.lx q
  .rw[vg];have:=S q;omega
  .rw[pE g];show xc c i _ V (aD (cJ x<|bw x.n k f) i) (lv (x.q.2.1) i<|(aD (cJ x<|bw x.n k f) i).2.2.2.2.1) _;by_cases q:i=k
   .subst q;rw[F,vg,lk,Int.sub_zero];exact(Z _<|J i A g).2 V C G
   .rw[D i q,pE q];exact(J i A g).mono hc (ai _) C (ai _)
  .have:=sm v 0;show _+c.M*0<=_;omega
end
structure Kp(x y:Net):Prop where
 len:y.n.length=x.n.length
 w:y.q.2.2=x.q.2.2
 e:y.e<=x.e
def Kp.id:Kp x x:=⟨rfl,rfl,ai _⟩
def Kp.mod:Kp x<|cJ x<|bw x.n i f:=⟨bO,rfl,ai _⟩
def Kp.trans{z:Net}(a:Kp x y)(b:Kp y z):Kp x z:=⟨b.len.trans a.len,b.w.trans a.w,bu b.e a.e⟩
def qK.kp{e:gw}(p:qK x e y):Kp x y:=by
 obtain⟨f,j,rfl,_,_,⟨rfl,_⟩|⟨_,g,_⟩⟩:=p
 .exact⟨rfl,rfl,ai _⟩
 .exact⟨rfl,rfl,g⟩
def rv.kp{k l:Nat}(p:rv x y k l j):Kp x y:=by
 obtain⟨a,b,v,A,f,rfl,_,_,_,_,g,_⟩:=p;exact⟨rfl,rfl,g⟩
def gn{n:Node}:kT n=true↔2<=n.2.1/\n.2.1<=4:=decide_eq_true_iff
variable{B ex:Nat}
def Inv.weak{m:au}{s:gK}{t f:Nat}{j:Int}{b:Int}(h:Inv c m s B t K τ ex b x)(hK:K<=f)(hτ:τ<=j)(hb:g<=b):Inv c m s B t f j ex g x:=by
 have⟨v,u,w,y,A⟩:=h.vs;exact⟨h.q,h.UX,h.em,h.es,h.en,h.now,h.ee,h.hw,h.h3,h.h4,h.hi,h.ch.mono hK,⟨aV h.sn.1 hK,h.sn.2⟩,h.hb,h.sy,λi p=>(h.nd i p).mono hτ,h.lx,⟨v,u,w,λq=>bu hb<|y q,A⟩⟩
section
variable {c:Mc} {m:au} {s:gK} {B t K:Nat} {τ:Int} {ex:Nat} {b:Int} {x:Net} (E:Env c m s) (h:Inv c m s B t K τ ex b x)
include E h
def Inv.sw1{k:Nat}(O:ex<x.n.length)(F:k<x.n.length)(I:kT (aD x ex).1=true)(p:Sw1 k x y):Inv c m s B t K (τ+2) ex (b-(if k=ex then 0 else c.M+(c.n+1)*c.D)) y/\aD y ex=aD x ex/\Kp x y:=by
 have A:=E.ok;have N:=A.nn (i:=k) (e:=x.e) (t:=x.q.2.2+c.S);have P:Inv c m s B t K (τ+2) ex (b-(if k=ex then 0 else c.M+(c.n+1)*c.D)) x:=h.weak (ah _) (by omega) (by split<;>omega);rcases p with rfl|⟨on,a1,a2,p⟩
 .exact⟨P,rfl,.id⟩
 have C:k≠ex:=λe=>by subst e;rw[I] at a1;cases a1
 rcases p with ⟨_,rfl⟩|⟨g,p⟩
 .exact⟨P,rfl,.id⟩
 rw[if_neg C];have j:=h.nd k F;rw[h.em] at g p;have H:=QD g;have D:¬(2<=(aD x k).1.2.1/\(aD x k).1.2.1<=4):=λq=>by rw[gn.2 q] at a1;cases a1
 rcases p with ⟨rfl,rfl⟩|⟨rfl,p⟩
 .have J:AU m k (τ+2)<|o5 (ju m (aD x k).1 false).1<|aD x k:=⟨BN j.zk g,(L8 g).trans j.id,⟨by show 0<=(aD x k).2.2.2.2.1+1;have:=j.t;omega,by show(aD x k).2.2.2.2.1+1<=_;have:=j.t;omega⟩,j.c,j.l,j.d⟩;refine⟨h.oth (f:=o5 (ju m (aD x k).1 false).1) (d:=c.M+(c.n+1)*c.D) (by omega) (.inl O) F C (by omega) J (by show(aD x k).2.2.2.2.1<=(aD x k).2.2.2.2.1+1;omega) A λv G=>?_,iv<|ir C,.mod⟩;rw[show lv (x.q.2.1) k ((o5 (ju m (aD x k).1 false).1<|aD x k).2.2.2.2.1)=[] from h.none F (by show(aD x k).2.2.2.2.1<(aD x k).2.2.2.2.1+1;omega)];refine .off (.inl<|H.2 rfl) rfl ?_;cases G with
  | aU a b d=>exact absurd (gn.1 a) D
  | beg t a e b s u p d=>exact absurd (gn.1 a) D
  | F6 t a e b p d=>exact absurd (gn.1 a) D
  | xk a e s b u d=>
    have:=A.lm (i:=k) s;have:=A.t0 (e:=x.e) (t:=x.q.2.2) u;omega
  | Iz t a e s b u d=>
    have:=A.lm (i:=k) s;have:=A.td (e:=x.e) (t:=x.q.2.2) u;omega
  | off a b d=>omega
  | pow t a e b d=>omega
 .have W:(cJ x<|bw x.n k<|o5 (ju m (aD x k).1 true).1).m=m:=h.em;have X:aD (cJ x<|bw x.n k<|o5 (ju m (aD x k).1 true).1) k=o5 (ju m (aD x k).1 true).1 (aD x k):=fP F;have s0:=a2.1 rfl;unfold Lst at p;rw[X,W] at p;have V:cJ (cJ x<|bw x.n k<|o5 (ju m (aD x k).1 true).1) (bw (cJ x<|bw x.n k<|o5 (ju m (aD x k).1 true).1).n k<|qG<|x.q.2.2)=cJ x (bw x.n k λy=>qG (x.q.2.2)<|o5 (ju m (aD x k).1 true).1 y):=congrArg (cJ x)<|mod_mod F;have p:qK (cJ x<|bw x.n k λy=>qG (x.q.2.2)<|o5 (ju m (aD x k).1 true).1 y) (x.q.2.2+m.2.1,2,(k:Int),(aD x k).2.2.2.2.1+1+1) y:=by rw[<-V];exact p
  have J:AU m k (τ+2)<|qG (x.q.2.2)<|o5 (ju m (aD x k).1 true).1<|aD x k:=⟨BN j.zk g,(L8 g).trans j.id,⟨by show 0<=(aD x k).2.2.2.2.1+1+1;have:=j.t;omega,by show(aD x k).2.2.2.2.1+1+1<=_;have:=j.t;omega⟩,j.c,j.l,j.d⟩;have Y:=E.S;have a0:=A.S;have hG:=A.G;have hL:=A.L;have hW:=A.W;have hD:=A.D;have Z:0<=c.S:=by rcases A.n with k|k|k|k|k<;>rw[k] at hW<;>omega
  refine⟨h.mp (f:=λy=>qG (x.q.2.2)<|o5 (ju m (aD x k).1 true).1 y) (d:=c.M+(c.n+1)*c.D) (by omega) (.inl O) F C (by omega) J (by show(aD x k).2.2.2.2.1<=(aD x k).2.2.2.2.1+1+1;omega) (h.none F (by show(aD x k).2.2.2.2.1<(aD x k).2.2.2.2.1+1+1;omega)) A p rfl rfl rfl (by show x.q.2.2<=x.q.2.2+m.2.1;omega) λv G=>⟨λ_=>?_,λz z1 S=>?_⟩,?_,?_⟩
  .refine .Iz _ (H.1 rfl).2 rfl (ai _) rfl (by show x.q.2.2+m.2.1<=_;omega) ?_;show c.VL k (x.q.2.2)+c.tT x.e (x.q.2.2+m.2.1)<=_;rw[<-Y];cases G with
   | aU a b d=>exact absurd (gn.1 a) D
   | beg t a e b s u p d=>exact absurd (gn.1 a) D
   | F6 t a e b p d=>exact absurd (gn.1 a) D
   | xk a e s b u d=>omega
   | Iz t a e s b u d=>omega
   | off a b d=>omega
   | pow t a e b d=>omega
  .refine .xk (H.1 rfl).2 rfl (ai _) rfl (by have S:z<=x.q.2.2+m.2.1:=S;omega) ?_;show c.VL k (x.q.2.2)<=_;cases G with
   | aU a b d=>exact absurd (gn.1 a) D
   | beg t a e b s u p d=>exact absurd (gn.1 a) D
   | F6 t a e b p d=>exact absurd (gn.1 a) D
   | xk a e s b u d=>omega
   | Iz t a e s b u d=>omega
   | off a b d=>omega
   | pow t a e b d=>omega
  .rw[qK.aD p,iv<|ir C]
  .exact Kp.mod.trans p.kp
end
def UD(ex:Nat)(C:Int):Nat->Nat->Int
 | 0,_=>0
 | f+1,k=>(if k=ex then 0 else C)+UD ex C f (k+1)
theorem Sj{ex:Nat}{C:Int}:∀{f k:Nat},UD ex C f k=C*(f:Int)-(if k<=ex/\ex<k+f then C else 0)
 | 0,k=>by rw[UD,if_neg<|by omega];omega
 | f+1,k=>by
   rw[UD,Sj,show((f+1:Nat):Int)=(f:Int)+1 from by omega,fC,Int.mul_one];omega
section
variable {c:Mc} {m:au} {s:gK} {B t K:Nat} (E:Env c m s)
include E
theorem Inv.sws:∀{f k:Nat} {τ:Int} {ex:Nat} {b:Int} {x y:Net},Inv c m s B t K τ ex b x->ex<x.n.length->k+f<=x.n.length->kT (aD x ex).1=true->VZ f k x y->Inv c m s B t K (τ+2*(f:Int)) ex (b-UD ex (c.M+(c.n+1)*c.D) f k) y/\aD y ex=aD x ex/\Kp x y
 | 0,k,τ,ex,b,x,y,h,hx,hk,hi,p=>by
   rw[show y=x from p];refine⟨h.weak (ah _) (by omega) ?_,rfl,.id⟩;show b-0<=b;omega
 | f+1,k,τ,ex,b,x,y,h,hx,hk,hi,⟨z,p,q⟩=>by
   have⟨j,g,l1⟩:=h.sw1 E hx (by omega) hi p;have⟨v,s2,l2⟩:=Inv.sws (f:=f) (k:=k+1) j (by have:=l1.len;omega) (by have:=l1.len;omega) (by rw[g];exact hi) q;refine⟨v.weak (ah _) (by omega) ?_,s2.trans g,l1.trans l2⟩;rw[UD];omega
end
section
variable {c:Mc} {m:au} {s:gK} {B t K:Nat} {τ:Int} {i:Nat} {b:Int} {x:Net} (E:Env c m s) (h:Inv c m s B t K τ i b x)
include E h
def Inv.swt(A:i<x.n.length)(j:kT (aD x i).1=true)(p:Swt x i y):∃f,Inv c m s B t K (τ+16) i f y/\aD y i=aD x i/\Kp x y/\(f=b\/(aD x i).2.2.2.2.2.2.1=true/\(aD x i).1.2.1=4/\f=b-c.R):=by
 have hn:=h.en;have g:=E.n;rcases p with rfl|⟨a1,a2,p⟩
 .exact⟨b,h.weak (ah _) (by omega)<|ai _,rfl,.id,.inl rfl⟩
 .have⟨v,C,l1⟩:=Inv.sws E h A (by omega) j p;refine⟨_,v.weak (ah _) (by have:=uB E.ml;omega)<|ai _,C,l1,.inr ⟨a1,a2,?_⟩⟩;rw[Sj,if_pos<|by omega,hn,<-g];have e:c.R=(c.n-1)*(c.M+(c.n+1)*c.D):=rfl;rw[e,Int.sub_mul,Int.one_mul,Int.mul_comm c.n<|c.M+_]
def Inv.her(C:i<x.n.length)(A:kT (aD x i).1=true)(p:V9 x i y):Inv c m s B t K τ i b y/\Kp x y/\kT (aD y i).1=true/\((aD y i).1.2.1=(aD x i).1.2.1\/(aD x i).1.2.1=4/\(aD y i).1.2.1=3)/\(aD y i).1.2.2.1.2.1=(aD x i).1.2.2.1.2.1/\(aD y i).2.1.1=(aD x i).2.1.1/\(aD y i).2.1.2.1=(aD x i).2.1.2.1/\(aD y i).2.2=(aD x i).2.2:=by
 have _:=E;rcases p with rfl|⟨l,cl,g,⟨c1,c2,c3⟩,rfl⟩
 .exact⟨h,.id,A,.inl rfl,rfl,rfl,rfl,rfl⟩
 .rw[h.em] at g ⊢;have⟨G,F,v⟩:=alK g;have j:=h.nd i C;have D:AU m i τ<|ak7 (oD m (aD x i).1 l).1 cl<|aD x i:=⟨TA j.zk g,(alJ g).trans j.id,j.t,by show 0<=cl.1/\cl.1<=_;rw[c1];exact j.c,by show 0<=cl.2.1;rw[c2];exact j.l,c3 j.d⟩;rw[fP C];refine⟨h.mod (f:=ak7 (oD m (aD x i).1 l).1 cl) C (ai _) D<|ai _,.mod,?_,v,F,c1,c2,rfl⟩;refine gn.2 ?_;have:=gn.1 A;rcases v with v|⟨_,v⟩
  .show 2<=(oD m (aD x i).1 l).1.2.1/\(oD m (aD x i).1 l).1.2.1<=4;rw[v];exact this
  .show 2<=(oD m (aD x i).1 l).1.2.1/\(oD m (aD x i).1 l).1.2.1<=4;rw[v];omega
def Inv.awZ{l:List fB}(f:l.length<=K+1)(g:∀z∈l,dn m z.2=0):Inv c m s B t (K+1) τ i b<|Vx x l:=
 have _:=E
 h.core (evs:=[]) ⟨h.q.made,h.q.len,h.q.heap⟩ rfl rfl rfl rfl rfl (ai _) rfl (h.ch.mono<|iq _) ⟨f,g⟩ ⟨rfl,rfl⟩ (.refl _) nofun (λ_ _=>ai _) h.nd h.lx λv j p=>⟨v,j,p,by show _+c.M*0<=_;omega⟩
end
theorem Oy{n q:Int}(hn:4<=n)(g:0<=q):(q%n+1=n↔(q+1)%n=0)/\(q+1)%n=if q%n+1=n then 0 else q%n+1:=by
 have a:=jR q (b:=n) (by omega);have b:=mR q (b:=n) (by omega);have e:(q+1)%n=(q%n+1)%n:=by simp_all
 by_cases k:q%n+1=n
 .simp_all
 .have f:(q%n+1)%n=q%n+1:=np (by omega) (by omega);omega
section
variable {c:Mc} {m:au} {s:gK} {B t K:Nat} {τ:Int} {i:Nat} {b:Int} {x:Net} (E:Env c m s) (h:Inv c m s B t K τ i b x)
include E h
def Inv.ev2(C:i<x.n.length)(A:kT (aD x i).1=true)(hf:(aD x i).2.2.2.2.2.2.2=false)(hp:(aD x i).1.2.2.1.2.1=(aD x i).2.1.2.1%c.n)(hb:0<=b)
  (hv:∀G sl t',Fw m (aD x i).2.1 t' (G,sl)->G<=c.E->(bif decide ((aD x i).1.2.1=4) then c.VA i G (c.W*(sl.1%c.n)) else c.VP i G (sl.1%c.n))+c.tT x.e (x.q.2.2+c.S)<=b-c.M) (p:Ev2 x i y):Inv c m s B t (K+1) τ x.n.length 0 y:=by
 have hc:=E.ok;have j:=h.nd i C;rcases p with ⟨rfl,p|p⟩|⟨_,g,p⟩
 .rw[A] at p;cases p
 .exact(h.cl E.ok C<|.aU A rfl hb).weak (iq _) (ai _) (ai _)
 .rw[h.em] at g p;have⟨_,V,Y⟩:=akP j.zk A;have v:kT (jq m (aD x i).1).1=true:=by rw[gn,V];exact gn.1 A
  rcases p with rfl|⟨d,cl,P,N,s1,s2,p⟩
  .have O:AU m i τ<|edY (jq m (aD x i).1).1<|aD x i:=⟨E2 j.zk g,(Ye g).trans j.id,j.t,j.c,j.l,j.d⟩;have I:=h.mod (f:=edY (jq m (aD x i).1).1) C (ai _) O<|ai _;have l1:(cJ x<|bw x.n i<|edY (jq m (aD x i).1).1).n.length=x.n.length:=bO;have:=I.cl E.ok (by rw[l1];exact C)<|.aU (by rw[fP C];exact v) rfl hb;rw[l1] at this;exact this.weak (iq _) (ai _)<|ai _
  .have a0:=uB E.ml;have⟨S,W,X,b4⟩:=(Bb<|by omega).1 N.ck';have O:AU m i τ<|nxY (jq m (aD x i).1).1 cl<|aD x i:=⟨E2 j.zk g,(Ye g).trans j.id,j.t,⟨S.1,by have:=S.2;show cl.1<=_;omega⟩,W.1,X⟩;have I:=h.mod (f:=nxY (jq m (aD x i).1).1 cl) C (ai _) O<|ai _;have l1:(cJ x<|bw x.n i<|nxY (jq m (aD x i).1).1 cl).n.length=x.n.length:=bO;have Z:=I.awZ E (l:=P) (aV s1<|Nat.succ_le_succ h.sn.1) λz D=>by
    rcases s2 z D with D|D
    .exact h.sn.2 z D
    .rw[D];exact E2 j.zk g
   have H:aD (Vx (cJ x<|bw x.n i<|nxY (jq m (aD x i).1).1 cl) P) i=nxY (jq m (aD x i).1).1 cl (aD x i):=fP C;have J:=E.n;have ms:=Oy (n:=c.n) (q:=(aD x i).2.1.2.1) (by omega) j.l;have F:(jq m (aD x i).1).1.2.2.1.2.1=cl.2.1%c.n:=by
    rw[Y,N.sl,ms.2,hp,J]
   have:=Z.cp E.ok (y:=y) (by rw[<-l1] at C;exact C) p rfl rfl (by rw[H];rfl) (by show x.q.2.2<=qH x cl.1;unfold qH;split<;>omega) (λq=>?_) λz z1 z2=>?_
   .rw[show(Vx (cJ x<|bw x.n i<|nxY (jq m (aD x i).1).1 cl) P).n.length=x.n.length from l1] at this;exact this
   .have q:qH x cl.1<=x.e:=q;have q2:cl.1<=qH x cl.1:=by unfold qH;split<;>omega
    have hE:=h.ee;rw[H];refine .beg _ v hf rfl q2 (by omega) F ?_;show(bif decide ((jq m (aD x i).1).1.2.1=4) then c.VA i cl.1 (c.W*(cl.2.1%c.n)) else c.VP i cl.1 (jq m (aD x i).1).1.2.2.1.2.1)+_<=_;rw[F,V];exact hv cl.1 cl.2 d N (by omega)
   .rw[H];exact .aU v rfl hb
end
theorem Env.nxt{m:au}{s:gK}(E:Env c m s){k r:rh}(N:Fw m k d r)(g:0<=k.2.1):(r.2.1%c.n=0/\c.W*(k.2.1%c.n)=c.W*(c.n-1)/\c.W*(r.2.1%c.n)=0/\k.1+c.S-c.D-c.W<=r.1)\/(r.2.1%c.n≠0/\c.W*(r.2.1%c.n)=c.W*(k.2.1%c.n)+c.W/\0<=c.W*(k.2.1%c.n)/\k.1+c.S-c.D<=r.1):=by
 have hm:=uB E.ml;have hn:=E.n;have f:=Oy (n:=c.n) (q:=k.2.1) (by omega) g;have D:=E.W;have C:=E.S;have A:=E.D;have y:=N.dr;rw[N.sl,f.2];rcases N.st with ⟨a,j,v⟩|⟨a,b⟩
 .grind
 .rw[<-hn] at a;have e:¬k.2.1%c.n+1=c.n:=λq=>a<|f.1.1 q;have p:=jR k.2.1 (b:=c.n) (by omega);exact .inr ⟨by omega,by grind,cO (by omega) p,by omega⟩
def Y2{y:cB}:(zg y).1=y.1:=rfl
def aoH{y:cB}:(zg y).2.2.2.2.2.2=y.2.2.2.2.2.2:=rfl
def akY{y:cB}:(zg y).2.1=y.2.1:=rfl
theorem Env.evv{m:au}{s:gK}(E:Env c m s){y z:cB}{b X Y:Int}(S:0<=y.2.1.2.1)(d:(bif decide (y.1.2.1=4) then c.Pw i y.2.1.1 (c.W*(y.2.1.2.1%c.n)) y.2.2.2.2.2.2.1 else c.Px i y.2.1.1)+X<=b)(H:0<=Y/\Y<=X)(c1:z.2.1.1=y.2.1.1)(p:z.2.1.2.1=y.2.1.2.1)(sz:z.1.2.1=y.1.2.1\/y.1.2.1=4/\z.1.2.1=3)(hb:g=b\/y.2.2.2.2.2.2.1=true/\z.1.2.1=4/\g=b-c.R):
  0<=g/\∀{r:rh} {C:Int},Fw m z.2.1 C r->r.1<=c.E->(bif decide (z.1.2.1=4) then c.VA i r.1 (c.W*(r.2.1%c.n)) else c.VP i r.1 (r.2.1%c.n))+Y<=g-c.M:=by
 have f:=E.ok;have D:=f.nn (i:=i) (e:=0) (t:=0);refine⟨?_,λ{r C} N v=>?_⟩
 .have na:=f.na (i:=i) (st:=y.2.1.1) (om:=c.W*(y.2.1.2.1%c.n)) (b:=false);have G:c.Pw i y.2.1.1 (c.W*(y.2.1.2.1%c.n)) true=c.Pw i y.2.1.1 (c.W*(y.2.1.2.1%c.n)) false+c.R:=by
   show _+c.R=_+0+c.R;omega
  rcases hb with rfl|⟨J,O,rfl⟩
  .have I:=f.na (i:=i) (st:=y.2.1.1) (om:=c.W*(y.2.1.2.1%c.n)) (b:=y.2.2.2.2.2.2.1)
   grind
  grind
 .have X:=E.nxt N (by omega);rw[c1,p] at X;by_cases k:y.1.2.1=4
  .rw[bX k,cond_true] at d;have A:=f.a2 (i:=i) (b:=y.2.2.2.2.2.2.1) v (X.imp (λz=>z.2) λz=>z.2);have F:0<=(bif y.2.2.2.2.2.2.1 then c.R else 0):=by grind
   by_cases j:z.1.2.1=4
   .grind
   .rw[fQ j,cond_false];have P:=f.pa (i:=i) (st:=r.1) (om:=c.W*(r.2.1%c.n)) (q:=r.2.1%c.n) (by have:=f.nw.1;omega);omega
  .have j:¬z.1.2.1=4:=by omega
   rw[fQ k,cond_false] at d;rw[fQ j,cond_false];have A:=f.p2 (i:=i) (st:=y.2.1.1) v (q:=r.2.1%c.n) (X.imp (λz=>⟨z.1,z.2.2.2⟩) λz=>⟨z.1,z.2.2.2⟩);omega
section
variable {c:Mc} {m:au} {s:gK} {B t K:Nat} {τ:Int} {i:Nat} {b:Int} {x:Net} (E:Env c m s) (h:Inv c m s B t K τ i b x)
include E h
def Inv.F6{e:gw}(P:i<x.n.length)(G:e.2.1=1)(hv:xc c i (x.q.2.2) x.e (aD x i) [e] b)(p:Evl x i y):Inv c m s B t (K+1) (τ+16) x.n.length 0 y:=by
 have F:=E.ok;cases hv with
 | aU a q d=>cases q
 | beg t a e q s u p d=>injection q with q _;subst q;exact absurd G (by show ¬(5:Int)=1;decide)
 | xk a e s q u d=>cases q
 | Iz t a e s q u d=>injection q with q _;subst q;exact absurd G (by show ¬(2:Int)=1;decide)
 | off a q d=>cases q
 | pow t a e q d=>injection q with q _;subst q;exact absurd G (by show ¬(6:Int)=1;decide)
 | F6 t a f q hp d=>
   have M0:=F.nn (i:=i) (e:=x.e) (t:=x.q.2.2+c.S);rcases p with ⟨k,_⟩|⟨_,u,w,pu,_,pw,p⟩
   .rw[a] at k;cases k
   .have⟨O,l1,S,J,I,c1,v,V⟩:=h.her E P a pu;have g:i<u.n.length:=by have:=l1.len;omega
    have nb:AU m i τ<|zg<|aD u i:=by
     have:=O.nd i g;exact⟨this.zk,this.id,this.t,this.c,this.l,this.d⟩
    have h2:=O.mod (f:=zg) g (ai _) nb<|ai _;have C:aD (cJ u<|bw u.n i zg) i=zg (aD u i):=fP g;have l2:Kp u<|cJ u<|bw u.n i zg:=.mod;have⟨b',h3,e3,l3,hb⟩:=h2.swt E (by rw[l2.len];exact g) (by rw[C,Y2];exact S) pw;have A:aD w i=zg (aD u i):=e3.trans C;have L:=(l1.trans l2).trans l3;have T:=F.tm (e:=x.e) (t:=x.q.2.2+c.S) (e':=w.e) (t':=w.q.2.2+c.S) L.e (by have:=L.w;omega);rw[C] at hb;have wz:(zg<|aD u i).2.2.2.2.2.2.1=(aD x i).2.2.2.2.2.2.1:=by rw[aoH,V]
    have sz:(zg<|aD u i).1.2.1=(aD x i).1.2.1\/(aD x i).1.2.1=4/\(zg<|aD u i).1.2.1=3:=by rw[Y2];exact J
    rw[wz] at hb;have⟨Z,D⟩:=E.evv (z:=zg<|aD u i) (Y:=c.tT w.e<|w.q.2.2+c.S) (h.nd i P).l d ⟨(F.nn (i:=i) (e:=w.e) (t:=w.q.2.2+c.S)).2.1,T⟩ (by rw[akY];exact c1) (by rw[akY];exact v) sz hb;have H:(aD u i).1.2.2.1.2.1=(aD u i).2.1.2.1%c.n:=by rw[I,v];exact hp
    have j:=h3.ev2 E (by rw[l3.len,l2.len];exact g) (by rw[A,Y2];exact S) (by rw[A,aoH,V];exact f) (by rw[A,Y2,akY];exact H) Z (λW sl t' N hs=>by
     rw[A] at N ⊢;have X:Fw m (zg<|aD u i).2.1 t' (W,sl):=N;have z:=D (r:=(W,sl)) X hs;exact z) p
    rw[L.len] at j;exact j
end
def afS{p:K7}{l:List fX}{q:Int}(y:p.a0=l)(v:p.a1=(l.length:Int))(C:p.Nw=q)(F:l.length<=1000000):∀(f i:Nat),l.length-i<=f->Go (Ew af) (Ew af<|.c0 p i) λr=>r.2=true->r.1.1=10->r.1.2.2.2.2.1=q:=by
 intro f
 induction f with
 | zero=>intro i A;exact bH (λg=>absurd g (by rw[v];omega)) λ_=>ay nofun
 | succ f ih=>
   intro i A;refine bH (λg=>?_) λ_=>ay nofun
   have g:i<l.length:=by rw[v] at g;omega
   have j:Go (Ew af) (.ak<|.c0 p<|af.bT i 1) λr=>r.2=true->r.1.1=10->r.1.e=q:=by
    rw[dw<|by omega,show(i:Int)+1=((i+1:Nat):Int) from by omega];exact aP<|ih (i+1) (by omega)
   have D:∀k:Int,zA k=false->k≠10:=λk a b=>by
    subst b;exact absurd (a.symm.trans<|show zA 10=true by kernel_rfl) (by decide)
   refine aj (by rw[y];exact cr (l:=l)<|by omega)<|dJ (λ_=>dJ (λe=>dJ (λ_=>dJ (λ_=>ay λ_ _=>e.trans C) λ_=>j) λ_=>j) λ_=>dG (λa=>dJ (λ_=>dJ (λ_=>ay λ_ k=>absurd k<|D _ a) λ_=>j) λ_=>j) λ_=>j) λ_=>j
variable{v:(Unit×Bool×au×gK×Unit)×(Int×Int×gE)}
def ak3(hm:∀f∈v.1.2.2.2.1.2.2.2.2.2.2.2,f.1=10->f.2.2.2.2.1≠f.2.1)(y:v.1.2.2.2.1.2.2.2.2.2.2.2.length<=1000000)(p:v.2.1=10)(hn:v.2.2.1=v.2.2.2.2.1):(gM v).2=false:=by
 have⟨G,D⟩:=v7 y;have⟨⟨⟨⟩,A,C,j,⟨⟩⟩,k,n,g⟩:=v;have y:j.2.2.2.2.2.2.2.length<=1000000:=y;have F:=(gm (s:=Ew af) (t:=acx af A C j k n g) (d:=Ty.aO [fq,.bool])<|aj (bX<|by omega)<|aP<|afS (l:=j.2.2.2.2.2.2.2) (q:=g.2.1) rfl rfl rfl y _ 0<|ah _).2;cases e:(gM (((),A,C,j,()),k,n,g)).2
 .rfl
 .have⟨a,b,d,_⟩:=D e;have p:k=10:=p;have hn:n=g.2.1:=hn;have b:(gM (((),A,C,j,()),k,n,g)).1.1=k:=b;have d:(gM (((),A,C,j,()),k,n,g)).1.2.1=n:=d;have z:=F e<|b.trans p;exact absurd (z.trans<|hn.symm.trans d.symm)<|hm _ a<|b.trans p
theorem Zk{m:au}{n k:Node}(p:Up m n k)(h:dn m n=0):dn m k=0/\k.1=n.1/\k.2.1=n.2.1/\k.2.2.1=n.2.2.1:=by
 induction p with
 | rfl=>simp_all
 | step _ g ih=>
   have⟨a1,a2,f,j⟩:=ih;have s:=ala g;exact⟨aeS a1 g,(ak_ g).trans a2,s.1.trans f,s.2.trans j⟩
section
variable {c:Mc} {m:au} {s:gK} {B t K:Nat} {τ:Int} {i:Nat} {b:Int} {x:Net} (E:Env c m s) (h:Inv c m s B t K τ i b x)
include E h
def Inv.om(g:i<x.n.length):0<=c.W*((aD x i).2.1.2.1%c.n)/\c.W*((aD x i).2.1.2.1%c.n)<=c.W*(c.n-1):=by
 have _:=h;have hm:=uB E.ml;have hn:=E.n;have f:=E.W;have a:=jR ((aD x i).2.1.2.1) (b:=c.n) (by omega);have b:=mR ((aD x i).2.1.2.1) (b:=c.n) (by omega);exact⟨cO (by omega) a,bM (by omega)<|by omega⟩
def Inv.xk(A:i<x.n.length){n:Node}(G:f (aD x i)=qG (x.q.2.2) (n,(aD x i).2.1,(f<|aD x i).2.2.1,(aD x i).2.2.2.1,(f<|aD x i).2.2.2.2.1-1,(f<|aD x i).2.2.2.2.2))(hn:dn m n=0)(H:n.1=(i:Int))(P:n.2.1=1)(J:(f<|aD x i).2.2.2.2.2.2.2=false)(S:(aD x i).2.2.2.2.1<=(f<|aD x i).2.2.2.2.1/\(f<|aD x i).2.2.2.2.1<=(aD x i).2.2.2.2.1+2)(hb:c.VL i (x.q.2.2)+c.tT x.e (x.q.2.2+c.S)<=b-c.M)(p:qK (cJ x<|bw x.n i f) (x.q.2.2+m.2.1,2,(i:Int),(f<|aD x i).2.2.2.2.1) y):Inv c m s B t K (τ+2) x.n.length 0 y:=by
 have F:=E.ok;have v:=h.nd i A;have D:=E.S;have hm:=uB E.ml;have X:=F.D;have W:=F.nn (i:=i) (e:=x.e) (t:=x.q.2.2+c.S);have fn:(f<|aD x i).1=n:=by rw[G];rfl
 have I:(f<|aD x i).1.2.1=1:=by rw[fn];exact P
 have fc:(f<|aD x i).2.1=(aD x i).2.1:=by rw[G];rfl
 have j:(f<|aD x i).2.2.2.1=x.q.2.2:=by rw[G];rfl
 have V:AU m i (τ+2)<|f<|aD x i:=⟨by rw[fn];exact hn,by rw[fn];exact H,by have:=v.t;omega,by rw[fc];exact v.c,by rw[fc];exact v.l,by rw[fc];exact v.d⟩;have O:=h.mod (f:=f) A (by omega) V S.1;have C:aD (cJ x<|bw x.n i f) i=f (aD x i):=fP A;have l1:(cJ x<|bw x.n i f).n.length=x.n.length:=bO;have g:=O.cp F (by rw[l1];exact A) p rfl rfl (by rw[C]) (by show x.q.2.2<=x.q.2.2+m.2.1;omega) (λ_=>?_) λz Y N=>?_
 .rw[l1] at g;exact g
 .rw[C];refine .Iz _ I J (by rw[j];exact ai _) rfl (by show x.q.2.2+m.2.1<=x.q.2.2+_+_;omega) ?_;rw[j,<-D];exact hb
 .rw[C];refine .xk I J (by rw[j];exact ai _) rfl (by have N:z<=x.q.2.2+m.2.1:=N;show z<=x.q.2.2+_+_;omega) ?_;rw[j];omega
def Inv.bgn{e:gw}(F:i<x.n.length)(he:e.2.1≠1/\e.2.1≠2/\e.2.1≠6)(hw:e.1=x.q.2.2)(hv:xc c i (x.q.2.2) x.e (aD x i) [e] b)(p:Bgn x i y):Inv c m s B t (K+4) (τ+2) x.n.length 0 y:=by
 have A:=E.ok;have v:=h.nd i F;have om:=h.om E F;cases hv with
 | aU a q d=>cases q
 | F6 t a f q p d=>injection q with q _;subst q;exact absurd rfl he.1
 | xk a e s q u d=>cases q
 | Iz t a e s q u d=>injection q with q _;subst q;exact absurd rfl he.2.1
 | off a q d=>cases q
 | pow t a e q d=>injection q with q _;subst q;exact absurd rfl he.2.2
 | beg t a f q sx u hp d=>
   injection q with q _;have b1:t=x.q.2.2:=by rw[<-hw,q]
   subst b1;have G:(aD x i).2.1.1<=c.E:=bu sx u;have M0:=A.nn (i:=i) (e:=x.e) (t:=x.q.2.2+c.S);have pa:=A.pa (i:=i) (st:=(aD x i).2.1.1) (q:=(aD x i).1.2.2.1.2.1) om.1;have p4:=A.p4 (i:=i) (t:=x.q.2.2) (q:=(aD x i).1.2.2.1.2.1) G sx;have L0:=(A.nn (i:=i) (e:=x.e) (t:=x.q.2.2)).2.2.1;have vp:c.VP i ((aD x i).2.1.1) ((aD x i).1.2.2.1.2.1)+c.tT x.e (x.q.2.2+c.S)<=b:=by
    cases k:decide ((aD x i).1.2.1=4)<;>rw[k] at d<;>simp only[cond_true,cond_false] at d<;>omega
   have wk:∀{z:Net} {V:Nat} {τ':Int},V<=K+4->τ'<=τ+2->z.n.length=x.n.length->Inv c m s B t V τ' z.n.length 0 z->Inv c m s B t (K+4) (τ+2) x.n.length 0 z:=λk1 k2 l g=>by rw[<-l];exact g.weak k1 k2<|ai _
   rcases p with ⟨k,_⟩|⟨_,rfl|p|⟨n,hn,p⟩⟩
   .rw[a] at k;cases k
   .have nb:AU m i τ<|ovY<|aD x i:=⟨v.zk,v.id,v.t,v.c,v.l,v.d⟩;have h1:=h.mod (f:=ovY) F (ai _) nb<|ai _;exact wk (by omega) (by omega) bO<|h1.cl A (by rw[show(cJ x<|bw x.n i ovY).n.length=x.n.length from bO];exact F)<|.aU (by rw[fP F];exact a) rfl (by omega)
   .rcases p with ⟨_,rfl⟩|⟨g,⟨_,rfl⟩|⟨k,_⟩⟩
    .exact wk (by omega) (by omega) rfl<|h.cl A F<|.aU a rfl (by omega)
    .rw[h.em] at g ⊢;have nb:AU m i (τ+2)<|o5 (ju m (aD x i).1 false).1<|aD x i:=⟨BN v.zk g,(L8 g).trans v.id,⟨by show 0<=(aD x i).2.2.2.2.1+1;have:=v.t;omega,by show(aD x i).2.2.2.2.1+1<=_;have:=v.t;omega⟩,v.c,v.l,v.d⟩;have h1:=h.mod (f:=o5 (ju m (aD x i).1 false).1) F (by omega) nb (by show(aD x i).2.2.2.2.1<=(aD x i).2.2.2.2.1+1;omega);exact wk (by omega) (by omega) bO<|h1.cl A (by rw[show(cJ x<|bw x.n i<|o5 (ju m (aD x i).1 false).1).n.length=x.n.length from bO];exact F)<|.off (.inl (by rw[fP F];exact(QD g).2 rfl)) rfl (by show c.VL i (x.q.2.2)+c.tT x.e (x.q.2.2+c.S)<=b;omega)
    .cases k
   .rw[h.em] at hn;have⟨n1,n2,n3,n4⟩:=Zk hn v.zk;have nb:AU m i τ<|Pp<|aD x i:=⟨v.zk,v.id,v.t,v.c,v.l,v.d⟩;have h1:Inv c m s B t K τ i b<|yw x i:=h.mod (f:=Pp) F (ai _) nb<|ai _;have lw:Kp x<|yw x i:=.mod;have ew:aD (yw x i) i=Pp (aD x i):=fP F;have b4:AU m i τ<|gG n<|aD (yw x i) i:=by rw[ew];exact⟨n1,n2.trans v.id,v.t,v.c,v.l,v.d⟩
    have h2:=Inv.mod (f:=gG n) h1 (by rw[lw.len];exact F) (ai _) b4 (by rw[ew];exact ai _);have lz:Kp x<|On x i n:=lw.trans .mod;have ez:aD (On x i n) i=gG n (Pp<|aD x i):=by rw[<-ew];exact fP (by rw[lw.len];exact F)
    have h2:Inv c m s B t K τ i b<|On x i n:=h2;generalize On x i n=z at *;have ad:i<z.n.length:=by rw[lz.len];exact F
    have⟨u,pd,p⟩:=p;have bb:(aD z i).1.2.1=(aD x i).1.2.1:=by rw[ez];exact n3
    have J:(aD z i).1.2.2.1.2.1=(aD x i).1.2.2.1.2.1:=by rw[ez];exact congrArg (λz:gE=>z.2.1) n4
    have a7:kT ((aD z i).1)=true:=by rw[ez];exact gn.2 (by show 2<=n.2.1/\n.2.1<=4;rw[n3];exact gn.1 a)
    have S:(aD z i).2.1=(aD x i).2.1/\(aD z i).2.2.2.2.2.2.2=false/\(aD z i).2.2.2.2.2.2.1=((aD x i).1.2.1==4):=by rw[ez];exact⟨rfl,f,rfl⟩
    -- what a node that goes on needs
    have go:∀{r:Net} {V:Nat} {T:Int} {y':Net} {b':Int},V<=K+4->Inv c m s B t V τ i b' r->Kp x r->aD r i=aD z i->3*c.M+c.tT x.e (x.q.2.2+c.S)+(bif decide ((aD x i).1.2.1=4) then c.Pw i ((aD x i).2.1.1) (c.W*((aD x i).2.1.2.1%c.n)) ((aD z i).2.2.2.2.2.2.1) else c.Px i ((aD x i).2.1.1))<=b'+2*c.M->r.q.2.2<=T->qK r (T,1,(i:Int),(aD r i).2.2.2.2.1) y'->Inv c m s B t (K+4) (τ+2) x.n.length 0 y':=λ{r V T y' b'} hK hr O er hb hT N=>by
     have T1:=A.tm (e:=x.e) (t:=x.q.2.2+c.S) (e':=r.e) (t':=r.q.2.2+c.S) O.e (by have:=O.w;omega);have Z:i<r.n.length:=by rw[O.len];exact F
     refine @wk _ V τ hK (by omega) (N.kp.len.trans O.len) ?_;have I:=hr.cp A Z N rfl rfl rfl hT (λ_=>?_) λz' z1 z2=>?_
     .rw[N.kp.len];exact I
     .rw[er];refine .F6 _ a7 S.2.1 rfl (by rw[J,S.1];exact hp) ?_;rw[bb,S.1];omega
     .rw[er];refine .aU a7 rfl ?_;have na:=A.na (i:=i) (st:=(aD x i).2.1.1) (om:=c.W*((aD x i).2.1.2.1%c.n)) (b:=(aD z i).2.2.2.2.2.2.1);cases k:decide ((aD x i).1.2.1=4)<;>rw[k] at hb<;>simp only[cond_true,cond_false] at hb<;>omega
    have base:3*c.M+c.tT x.e (x.q.2.2+c.S)+(bif decide ((aD x i).1.2.1=4) then c.Pw i ((aD x i).2.1.1) (c.W*((aD x i).2.1.2.1%c.n)) ((aD z i).2.2.2.2.2.2.1) else c.Px i ((aD x i).2.1.1))<=b:=by
     have a1:=A.a1 (i:=i) (b:=(aD z i).2.2.2.2.2.2.1) G om.1;have p1:=A.p1 (i:=i) (q:=(aD x i).1.2.2.1.2.1) G;cases k:decide ((aD x i).1.2.1=4)<;>rw[k] at d<;>simp only[cond_true,cond_false] at d ⊢ <;> omega
    have mx:∀(r:Net) (T:Int),r.q.2.2<=qH r T:=λr T=>by unfold qH;split<;>omega
    rcases p with ⟨own,r,ps,p⟩|⟨_,p⟩
    .have a5:(aD x i).1.2.2.1.2.1=(i:Int):=by rw[<-J];exact own
     have Y:(gM (vw z,10,(i:Int),(aD z i).1.2.2.1)).2=false:=by
      refine ak3 ?_ ?_ rfl ?_
      .show ∀f∈z.s.2.2.2.2.2.2.2,_;rw[h2.es];exact λf hf=>(aeE<|E.fm f hf).2.2
      .show z.s.2.2.2.2.2.2.2.length<=_;rw[h2.es];exact E.fl
      .show(i:Int)=(aD z i).1.2.2.1.2.1;rw[J,a5]
     have pe:rv z u 2 2<|2*1:=(pd.2 Y).mono (by omega) (by omega) (by omega);have X:=h2.V2 A ad pe;have P:Kp x u:=lz.trans pe.kp;have H:i<u.n.length:=by rw[P.len];exact F
     have W:aD u i=aD z i:=pe.aD i;have D:=X.nd i H;have ou:dn m (aD u i).1=0:=D.zk;have C:(rH m (aD u i).1).2.2.2=0:=afe ou (by rw[W];exact a7) (by rw[D.id,W];exact(J.trans a5));unfold Spk at ps;rw[X.em] at ps;dsimp only at ps;rcases ps with ⟨k,_⟩|⟨_,w,pw,N⟩
     .exact absurd C k
     have st:=aqt C;have p3:=A.p3 (i:=i) (t:=x.q.2.2) G sx;rw[a5] at vp;have T1:=A.tm (e:=x.e) (t:=x.q.2.2+c.S) (e':=u.e) (t':=u.q.2.2+c.S) P.e (by have:=P.w;omega);have b5:AU m i τ<|gG (rH m (aD u i).1).1<|aD u i:=⟨aae ou C,(ahw C).trans D.id,D.t,D.c,D.l,D.d⟩;have lo:Kp u<|cJ u<|bw u.n i<|gG (rH m (aD u i).1).1:=.mod;have eo:aD (cJ u<|bw u.n i<|gG (rH m (aD u i).1).1) i=gG (rH m (aD u i).1).1 (aD u i):=fP H;rcases pw with ⟨s1,pl⟩|⟨s1,rfl⟩
     .-- it listens
      have no:kT (rH m (aD u i).1).1=false:=by
       cases k:kT (rH m (aD u i).1).1
       .rfl
       .have:=gn.1 k;omega
      rcases N with ⟨o1,rfl⟩|⟨o1,_⟩
      .rcases p with ⟨_,rfl⟩|⟨k,_⟩
       .unfold Lst at pl;rw[eo,show(cJ u<|bw u.n i<|gG (rH m (aD u i).1).1).m=m from X.em] at pl;have ee:cJ (cJ u<|bw u.n i<|gG (rH m (aD u i).1).1) (bw (cJ u<|bw u.n i<|gG (rH m (aD u i).1).1).n i<|qG<|u.q.2.2)=cJ u (bw u.n i λy=>qG (u.q.2.2)<|gG (rH m (aD u i).1).1 y):=congrArg (cJ u)<|mod_mod H;have pl:qK (cJ u<|bw u.n i λy=>qG (u.q.2.2)<|gG (rH m (aD u i).1).1 y) (u.q.2.2+m.2.1,2,(i:Int),(aD u i).2.2.2.2.1+1) y:=by rw[<-ee];exact pl
        have a9:c.VL i (u.q.2.2)=c.VL i (x.q.2.2):=by rw[P.w]
        have I:=X.xk E (f:=λy=>qG (u.q.2.2)<|gG (rH m (aD u i).1).1 y) H (n:=(rH m (aD u i).1).1) (by
         show(_,_,_,u.q.2.2,(aD u i).2.2.2.2.1+1,_)=(_,_,_,u.q.2.2,(aD u i).2.2.2.2.1+1-1+1,_);rw[Int.sub_add_cancel];try rfl) (aae ou C) ((ahw C).trans D.id) s1 (by show(aD u i).2.2.2.2.2.2.2=false;rw[W];exact S.2.1) ⟨by show(aD u i).2.2.2.2.1<=(aD u i).2.2.2.2.1+1;omega,by show(aD u i).2.2.2.2.1+1<=(aD u i).2.2.2.2.1+2;omega⟩ (by rw[a9];omega) pl
        refine @wk _ (K+2) (τ+2) (by omega) (by omega) (pl.kp.len.trans<|Kp.mod.len.trans P.len) ?_;rw[pl.kp.len.trans Kp.mod.len];exact I
       .rw[no] at k;cases k
      .exact absurd (st.1 o1).1 (by omega)
     .have h4:=X.mod (f:=gG (rH m (aD u i).1).1) H (ai _) b5<|ai _;have ac:i<(cJ u<|bw u.n i<|gG (rH m (aD u i).1).1).n.length:=by rw[lo.len];exact H
      rcases N with ⟨o1,rfl⟩|⟨o1,o2,N⟩
      .-- it stops
       have s5:=(st.2 o1).resolve_left s1;have no:kT (rH m (aD u i).1).1=false:=by
        cases k:kT (rH m (aD u i).1).1
        .rfl
        .have:=gn.1 k;omega
       rcases p with ⟨_,rfl⟩|⟨k,_⟩
       .have a9:c.VL i (u.q.2.2)=c.VL i (x.q.2.2):=by rw[P.w]
        exact wk (by omega) (by omega) (lo.len.trans P.len)<|h4.cl A ac<|.off (.inr (by rw[eo];exact s5)) rfl (by show c.VL i (u.q.2.2)+c.tT u.e (u.q.2.2+c.S)<=_;omega)
       .rw[no] at k;cases k
      .-- it sends
       have h5:=h4.V2 (k:=1) (j:=1) A ac N;rcases p with ⟨k,_⟩|⟨_,p⟩
       .rw[o2] at k;cases k
       .have O:Kp x r.1:=(P.trans lo).trans N.kp;have Z:i<(r.1.n).length:=by rw[O.len];exact F
        have er:aD r.1 i=gG (rH m (aD u i).1).1 (aD u i):=(N.aD i).trans eo;have T2:=A.tm (e:=x.e) (t:=x.q.2.2+c.S) (e':=r.1.e) (t':=r.1.q.2.2+c.S) O.e (by have:=O.w;omega);have p5:=A.p5 (i:=i) G om;have a1:=A.a1 (i:=i) (b:=(aD u i).2.2.2.2.2.2.1) G om.1;have b9:=(st.1 o1).1;have ae:kT (rH m (aD u i).1).1=true:=gn.2 (by omega);have val:3*c.M+c.Pw i ((aD x i).2.1.1) (c.W*((aD x i).2.1.2.1%c.n)) ((aD u i).2.2.2.2.2.2.1)+c.tT x.e (x.q.2.2+c.S)<=b:=by
         by_cases k:(aD x i).1.2.1=4
         .rw[bX k,cond_true] at d;omega
         .have:(aD u i).2.2.2.2.2.2.1=false:=by rw[W,S.2.2];exact beq_false_of_ne k
          rw[this];omega
        have na:=A.na (i:=i) (st:=(aD x i).2.1.1) (om:=c.W*((aD x i).2.1.2.1%c.n)) (b:=(aD u i).2.2.2.2.2.2.1);refine @wk _ (K+2+1) τ (by omega) (by omega) (p.kp.len.trans O.len) ?_;have I:=h5.cp A Z p rfl rfl rfl (mx _ _) (λ_=>?_) λz' z1 z2=>?_
        .rw[p.kp.len];exact I
        .rw[er];refine .F6 _ ae (by show(aD u i).2.2.2.2.2.2.2=false;rw[W];exact S.2.1) rfl ?_ ?_
         .show(rH m (aD u i).1).1.2.2.1.2.1=(aD u i).2.1.2.1%c.n;rw[(st.1 o1).2,W,S.1,J];exact hp
         .show(bif decide ((rH m (aD u i).1).1.2.1=4) then c.Pw i (aD u i).2.1.1 (c.W*((aD u i).2.1.2.1%c.n)) ((aD u i).2.2.2.2.2.2.1) else _)+_<=_;rw[bX b9,cond_true,show(aD u i).2.1=(aD x i).2.1 from(congrArg (λz:cB=>z.2.1) W).trans S.1];omega
        .rw[er];exact .aU ae rfl (by omega)
    .have pe:rv z u 2 2<|2*2:=pd.1;have X:=h2.V2 A ad pe;exact go (by omega) X (lz.trans pe.kp) (pe.aD i) (by omega) (mx _ _) p
def Inv.Iz{e:gw}(D:i<x.n.length)(S:e.2.1=2)(hw:e.1=x.q.2.2)(hv:xc c i (x.q.2.2) x.e (aD x i) [e] b)(p:Tck x i y):Inv c m s B t (K+1) (τ+2) x.n.length 0 y:=by
 have C:=E.ok;have v:=h.nd i D;have P:=E.S;have a5:=E.D;have hn:=E.n;have hm:=uB E.ml;have hD:=C.D;have nw:=C.nw;cases hv with
 | aU a q d=>cases q
 | beg t a e q s u p d=>injection q with q _;subst q;exact absurd S (by show ¬(5:Int)=2;decide)
 | F6 t a f q p d=>injection q with q _;subst q;exact absurd S (by show ¬(1:Int)=2;decide)
 | xk a e s q u d=>cases q
 | off a q d=>cases q
 | pow t a e q d=>injection q with q _;subst q;exact absurd S (by show ¬(6:Int)=2;decide)
 | Iz t a f Z q u d=>
   injection q with q _;have V:t=x.q.2.2:=by rw[<-hw,q]
   subst V;have M0:=C.nn (i:=i) (e:=x.e) (t:=x.q.2.2);have mx:∀(r:Net) (T:Int),r.q.2.2<=qH r T:=λr T=>by unfold qH;split<;>omega
   unfold Tck at p;rw[h.em] at p;dsimp only at p;rcases p with ⟨k,_⟩|⟨g,⟨N,F,hd,p⟩|⟨N,w,Y,p⟩⟩
   .exact absurd (acH v.zk a) k
   .have G:=(acJ g).2.1 N;have X:AU m i τ<|IA (iL m (aD x i).1).1<|aD x i:=⟨Um v.zk g,(acI g).trans v.id,v.t,v.c,v.l,v.d⟩;have O:=h.mod (f:=IA (iL m (aD x i).1).1) D (ai _) X<|ai _;have H:aD (cJ x<|bw x.n i<|IA (iL m (aD x i).1).1) i=IA (iL m (aD x i).1).1 (aD x i):=fP D;have l1:(cJ x<|bw x.n i<|IA (iL m (aD x i).1).1).n.length=x.n.length:=bO;have em:qH x (x.q.2.2+(m.2.1+F))=x.q.2.2+(c.S+F):=by unfold qH;rw[P];exact if_neg (by omega)
    rw[em] at p;have A:=O.cp C (by rw[l1];exact D) p rfl rfl (by rw[H];rfl) (by show x.q.2.2<=x.q.2.2+(c.S+F);omega) (λq=>?_) λz z1 z2=>?_
    .rw[l1] at A;exact A.weak (by omega) (by omega)<|ai _
    .rw[H];have l3:=C.l3 (t:=x.q.2.2) (d:=F) (by omega) (e:=x.e) q;refine .Iz _ G f Z rfl (by show x.q.2.2+(c.S+F)<=x.q.2.2+_+_;omega) ?_;show c.VL i ((aD x i).2.2.2.1)+c.tT x.e (x.q.2.2+(c.S+F))<=_;omega
    .rw[H];refine .xk G f Z rfl (by have z2:z<=x.q.2.2+(c.S+F):=z2;show z<=x.q.2.2+_+_;omega) ?_;show c.VL i ((aD x i).2.2.2.1)<=_;omega
   .have G:=(acJ g).2.2 N;have X:AU m i (τ+2)<|ze (iL m (aD x i).1).1 (x.q.2.2,(i:Int),[])<|aD x i:=⟨Um v.zk g,(acI g).trans v.id,⟨by show 0<=(aD x i).2.2.2.2.1+1;have:=v.t;omega,by show(aD x i).2.2.2.2.1+1<=_;have:=v.t;omega⟩,⟨h.now.1,by show x.q.2.2<=_;have:=h.now.2;have:=E.E;omega⟩,by show 0<=(i:Int);omega,by show([]:List Int).length<=8;decide⟩;have O:=h.mod (f:=ze (iL m (aD x i).1).1 (x.q.2.2,(i:Int),[])) D (by omega) X (by show(aD x i).2.2.2.2.1<=(aD x i).2.2.2.2.1+1;omega);have H:aD (cJ x<|bw x.n i<|ze (iL m (aD x i).1).1 (x.q.2.2,(i:Int),[])) i=ze (iL m (aD x i).1).1 (x.q.2.2,(i:Int),[]) (aD x i):=fP D;have l1:Kp x<|cJ x<|bw x.n i<|ze (iL m (aD x i).1).1 (x.q.2.2,(i:Int),[]):=.mod;have h2:=O.V2 (k:=1) (j:=1) C (by rw[l1.len];exact D) Y;have kw:=l1.trans Y.kp;have J:aD w i=ze (iL m (aD x i).1).1 (x.q.2.2,(i:Int),[]) (aD x i):=(Y.aD i).trans H;have W:i<w.n.length:=by rw[kw.len];exact D
    have l2:=C.l2 (i:=i) Z;have T1:=C.tm (e:=x.e) (t:=x.q.2.2) (e':=w.e) (t':=w.q.2.2+c.S) kw.e (by have:=kw.w;omega);have na:=C.na (i:=i) (st:=x.q.2.2) (om:=0) (b:=false);have I:kT (iL m (aD x i).1).1=true:=gn.2 (by rw[G.1];decide);have A:=h2.cp C W p rfl rfl (by rw[J];rfl) (mx _ _) (λq=>?_) λz z1 z2=>?_
    .rw[kw.len] at A;exact A
    .rw[J];refine .F6 _ I f rfl ?_ ?_
     .show(iL m (aD x i).1).1.2.2.1.2.1=(i:Int)%c.n;rw[G.2,v.id,np (by omega) (by have:=h.en;omega)]
     .show(bif decide ((iL m (aD x i).1).1.2.1=4) then _ else c.Px i (x.q.2.2))+_<=_;rw[G.1,show decide ((2:Int)=4)=false from rfl,cond_false];omega
    .rw[J];exact .aU I rfl (by omega)
def Inv.pow{e:gw}(j:i<x.n.length)(v:e.2.1=6)(H:xc c i (x.q.2.2) x.e (aD x i) [e] b)(p:Pwr x i true y):Inv c m s B t K (τ+2) x.n.length 0 y:=by
 have C:=E.ok;have A:=h.nd i j;cases H with
 | aU a q d=>cases q
 | beg t a e q s u p d=>injection q with q _;subst q;exact absurd v (by show ¬(5:Int)=6;decide)
 | F6 t a f q p d=>injection q with q _;subst q;exact absurd v (by show ¬(1:Int)=6;decide)
 | xk a e s q u d=>cases q
 | Iz t a f J q u d=>injection q with q _;subst q;exact absurd v (by show ¬(2:Int)=6;decide)
 | off a q d=>cases q
 | pow t a f q d=>
   have I:=C.nn (i:=i) (e:=x.e) (t:=x.q.2.2);rcases p with ⟨_,rfl⟩|⟨g,⟨k,_⟩|⟨_,p⟩⟩
   .exact(h.cl C j<|.off (.inl a) rfl<|by omega).weak (ah _) (by omega) (ai _)
   .cases k
   .rw[h.em] at g p;have F:(cJ x<|bw x.n i<|o5 (ju m (aD x i).1 true).1).m=m:=h.em;have G:aD (cJ x<|bw x.n i<|o5 (ju m (aD x i).1 true).1) i=o5 (ju m (aD x i).1 true).1 (aD x i):=fP j;unfold Lst at p;rw[G,F] at p;have D:cJ (cJ x<|bw x.n i<|o5 (ju m (aD x i).1 true).1) (bw (cJ x<|bw x.n i<|o5 (ju m (aD x i).1 true).1).n i<|qG<|x.q.2.2)=cJ x (bw x.n i λy=>qG (x.q.2.2)<|o5 (ju m (aD x i).1 true).1 y):=congrArg (cJ x)<|mod_mod j;have p:qK (cJ x<|bw x.n i λy=>qG (x.q.2.2)<|o5 (ju m (aD x i).1 true).1 y) (x.q.2.2+m.2.1,2,(i:Int),(aD x i).e+1+1) y:=by rw[<-D];exact p
    exact h.xk E (f:=λy=>qG (x.q.2.2)<|o5 (ju m (aD x i).1 true).1 y) j (n:=(ju m (aD x i).1 true).1) (by
     show(_,_,_,x.q.2.2,(aD x i).e+1+1,_)=(_,_,_,x.q.2.2,(aD x i).e+1+1-1+1,_);rw[Int.sub_add_cancel];try rfl) (BN A.zk g) ((L8 g).trans A.id) ((QD g).1 rfl).2 rfl ⟨by show(aD x i).e<=(aD x i).e+1+1;omega,by show(aD x i).e+1+1<=(aD x i).e+2;omega⟩ (by omega) p
end
section
variable {c:Mc} {m:au} {s:gK} {B t K:Nat} (E:Env c m s)
include E
def Inv.sn1{b:Int}{k:Nat}{sa:A7}(h:Inv c m s B t K τ ex b x)(a0:¬ex<x.n.length)(I:k<x.n.length)(p:Sn1 sa k x y):Inv c m s B t K (τ+1) ex b y/\Kp x y:=by
 have C:=E.ok;have A:=h.nd k I;have hn:=E.n;have hG:=E.G;have hL:=E.L;have hm:=uB E.ml;have G:k≠ex:=by omega
 have mx:∀(r:Net) (T:Int),r.q.2.2<=qH r T:=λr T=>by unfold qH;split<;>omega
 rcases p with rfl|⟨a1,a2,l,Z,g,p⟩
 .exact⟨h.weak (ah _) (by omega)<|ai _,.id⟩
 rw[h.em] at g p;have X:=ak8 g;rcases p with ⟨J,rfl⟩|⟨J,p⟩
 .have O:AU m k τ<|gG (lb m (aD x k).1 l false).1<|aD x k:=⟨Td A.zk g,(Zg g).trans A.id,A.t,A.c,A.l,A.d⟩;have V:=X.2.1 J;have D:¬(2<=(aD x k).1.2.1/\(aD x k).1.2.1<=4):=by omega
  refine⟨(h.oth (f:=gG (lb m (aD x k).1 l false).1) (d:=0) (ai _) (.inr rfl) I G (ai _) O (ai _) C λv P=>?_).weak (ah _) (by omega)<|by omega,.mod⟩;rw[Int.add_zero];cases P with
  | aU a b d=>exact absurd (gn.1 a) D
  | beg t a e b s u p d=>exact absurd (gn.1 a) D
  | F6 t a e b p d=>exact absurd (gn.1 a) D
  | xk a e s b u d=>exact .xk V e s b u d
  | Iz t a e s b u d=>exact .Iz t V e s b u d
  | off a b d=>omega
  | pow t a e b d=>omega
 .have⟨W,v,N,v1,Y⟩:=X.2.2 J;rcases p with rfl|⟨j,p⟩
  .exact⟨h.weak (ah _) (by omega)<|ai _,.id⟩
  rw[h.em] at j p;have⟨j1,j2,S,j4,j5⟩:=XV j;rw[j4] at p;have H:=(Bb (w:=m.2.2.2.1)<|by omega).1 j5;have hh:v.1=2:=by
   simp only[CH,eH,tP] at Y;exact Y.1
  have v3:=(Z v N hh).1;have v3:(aD x k).2.2.2.1<=(lb m (aD x k).1 l false).2.1:=by rw[v1];omega
  have F:kT (lb m (aD x k).1 l false).1=true:=gn.2 (by rw[W];decide);have O:AU m k (τ+1)<|jnY (lb m (aD x k).1 l false).1 ((lb m (aD x k).1 l false).2.1-(m.2.2.1+m.2.2.2.2.2.1),(lb m (aD x k).1 l false).1.2.2.1.2.1,[])<|aD x k:=⟨Td A.zk g,(Zg g).trans A.id,⟨by show 0<=(aD x k).2.2.2.2.1+1;have:=A.t;omega,by show(aD x k).2.2.2.2.1+1<=_;have:=A.t;omega⟩,⟨H.1.1,bu H.1.2<|by decide⟩,S.1,by show([]:List Int).length<=8;decide⟩;have D:¬(2<=(aD x k).1.2.1/\(aD x k).1.2.1<=4):=by omega
  have l1:=C.l1 (i:=k) (t:=(aD x k).2.2.2.1) (st:=(lb m (aD x k).1 l false).2.1-(m.2.2.1+m.2.2.2.2.2.1)) (by omega);have na:=C.na (i:=k) (st:=(lb m (aD x k).1 l false).2.1-(m.2.2.1+m.2.2.2.2.2.1)) (om:=0) (b:=false);have M0:=C.nn (i:=k) (e:=x.e) (t:=x.q.2.2+c.S);refine⟨(h.mp (d:=0) (ai _) (.inr rfl) I G (by omega) O (by show(aD x k).2.2.2.2.1<=(aD x k).2.2.2.2.1+1;omega) (h.none I (by show(aD x k).2.2.2.2.1<(aD x k).2.2.2.2.1+1;omega)) C p rfl rfl rfl (mx _ _) λv P=>?_).weak (ah _) (ai _)<|by omega,Kp.mod.trans p.kp⟩;have N:c.VL k ((aD x k).2.2.2.1)+c.tT x.e (x.q.2.2+c.S)<=v+(c.n+1)*c.D/\(aD x k).2.2.2.2.2.2.2=false:=by
   cases P with
   | aU a b d=>exact absurd (gn.1 a) D
   | beg t a e b s u p d=>exact absurd (gn.1 a) D
   | F6 t a e b p d=>exact absurd (gn.1 a) D
   | xk a e s b u d=>have:=C.t0 (e:=x.e) (t:=x.q.2.2) u;exact⟨by omega,e⟩
   | Iz t a e s b u d=>have:=C.td (e:=x.e) (t:=x.q.2.2) u;exact⟨by omega,e⟩
   | off a b d=>omega
   | pow t a e b d=>omega
  refine⟨λ_=>.F6 _ F N.2 rfl ?_ ?_,λz _ _=>.aU F rfl<|by omega⟩
  .show(lb m (aD x k).1 l false).1.2.2.1.2.1=(lb m (aD x k).1 l false).1.2.2.1.2.1%c.n;rw[np S.1<|by omega]
  .show(bif decide ((lb m (aD x k).1 l false).1.2.1=4) then _ else c.Px k ((lb m (aD x k).1 l false).2.1-(m.2.2.1+m.2.2.2.2.2.1)))+_<=_;rw[W,show decide ((3:Int)=4)=false from rfl,cond_false];omega
theorem Inv.sns{v:A7}:∀{f k ex:Nat} {τ b:Int} {x y:Net},Inv c m s B t K τ ex b x->¬ex<x.n.length->k+f<=x.n.length->Xo v f k x y->Inv c m s B t K (τ+(f:Int)) ex b y/\Kp x y
 | 0,k,ex,τ,b,x,y,h,_,_,p=>by
   rw[show y=x from p];exact⟨h.weak (ah _) (by omega)<|ai _,.id⟩
 | f+1,k,ex,τ,b,x,y,h,he,hk,⟨z,p,q⟩=>by
   have⟨g,l1⟩:=h.sn1 E he (by omega) p;have⟨j,l2⟩:=Inv.sns (f:=f) (k:=k+1) g (by rw[l1.len];exact he) (by rw[l1.len];omega) q;exact⟨j.weak (ah _) (by omega)<|ai _,l1.trans l2⟩
end
def Nu.step(f:vQ c){k h:rN}{L L' j:List gw}{e:gw}{q:Int}(p:Nu c k L u)(X:e.1<=c.E)(W:0<=c.E/\c.E<=1000000000000)(D:k.1=true->(e::L').Perm L)(hb:L=[]->L'=[]/\we c e=2)(C:0<=h.2.1)
  (hh:h.1=false/\k.1=false/\j=[]\/h.1=true/\(k.1=true->k.2.1<=1000000000000->h.2.1=k.2.1+c.S)/\(j=[]\/∃z,j=[(z,4,q,0)]/\h.2.1<z)):L'=[]/\∃F,Nu c h j F/\F+c.M*((bif h.1 then 1 else 0)+(wt c j:Int))+c.M<=u+c.M*(we c e:Int):=by
 have Z:=No f (e:=e);have N:=(f.nn (i:=0) (e:=0) (t:=0)).1;have Y:=bM (a:=1) (b:=(we c e:Int)) (c:=c.M) (by omega) N;have I:c.M=c.n*c.S:=rfl;have H:∀z,(wt c [((z,4,q,0):gw)]:Int)=1:=λ_=>rfl;rcases p with ⟨a,rfl,d⟩|⟨V,a,rfl,s,d⟩|⟨a,rfl,d⟩
 .have⟨O,G⟩:=hb rfl;refine⟨O,?_⟩;rcases hh with ⟨g,_,rfl⟩|⟨g,_,rfl|⟨z,rfl,y⟩⟩
  .refine⟨u,.uns g rfl d,?_⟩;rw[g];show u+c.M*0+c.M<=_;omega
  .refine⟨0,.aU g rfl<|ai _,?_⟩;rw[g,G];show 0+c.M*(1+0)+c.M<=u+c.M*2;have:=f.nw;have:=f.n;have:0<=c.n*(c.E+2*c.S):=cO (by omega) (by omega);omega
  .refine⟨2*(c.n*(c.E+c.S-h.2.1)),.look _ g rfl ⟨C,y⟩<|ai _,?_⟩;rw[g,G,H];show _+c.M*(1+1)+c.M<=u+c.M*2;have:=f.nw;have:=f.n;have:=bM (a:=c.E+c.S-h.2.1) (b:=c.E+2*c.S) (c:=c.n) (by omega) (by omega);omega
 .have A:=List.perm_singleton.1<|D a;injection A with A P;subst A P;refine⟨rfl,?_⟩;rcases hh with ⟨_,g,_⟩|⟨g,v,J⟩
  .rw[a] at g;cases g
  .have v:=v a (by omega);have:=f.nw;have hn:=f.n;have ex:c.n*(c.E+c.S-k.2.1)=c.n*(c.E+c.S-h.2.1)+c.M:=by rw[I,<-fC,v];congr 1;omega
   have S:0<=c.n*(c.E+c.S-h.2.1):=cO (by omega) (by omega);rcases J with rfl|⟨z,rfl,y⟩
   .refine⟨0,.aU g rfl<|ai _,?_⟩;rw[g];show 0+c.M*(1+0)+c.M<=_;omega
   .refine⟨2*(c.n*(c.E+c.S-h.2.1)),.look _ g rfl ⟨C,y⟩<|ai _,?_⟩;rw[g,H];show _+c.M*(1+1)+c.M<=_;omega
 .exact absurd (D a).length_eq (by simp)
section
variable {c:Mc} {m:au} {s:gK} {B t K:Nat} {τ:Int} {b:Int} {x:Net} (E:Env c m s) (h:Inv c m s B t K τ x.n.length b x)
include E h
def Inv.pop{e:gw}(f:(e::l).Perm x.q.2.1)(X:EY l)(hm:∀z∈x.q.2.1,e.1<=z.1):
  (e.2.1≠4->(e.2.1=3\/∀i,i<x.n.length->e.2.2.1=(i:Int)->e.2.2.2≠(aD x i).2.2.2.2.1)->Inv c m s B (t+1) K τ x.n.length b (qt x l e.1))/\
  ∀i,i<x.n.length->nk e.2.1=true->e.2.2.1=(i:Int)->e.2.2.2=(aD x i).2.2.2.2.1->∃p,Inv c m s B (t+1) K τ i p (qt x l e.1)/\xc c i e.1 x.e (aD x i) [e] p:=by
 have A:=E.ok;have H:∀z∈l,z∈x.q.2.1:=λz k=>f.mem_iff.1<|.tail _ k;have y:=h.hw e<|f.mem_iff.1<|.head _;have D:=f.length_eq;rw[bd] at D;have Y:wU<|qt x l e.1:=⟨h.q.made,by have:=h.q.len;show l.length<=_;omega,X⟩;have wp:=No A (e:=e);have V:=(A.nn (i:=0) (e:=0) (t:=0)).1;have S:=bM (a:=((wt c l+(t+1):Nat):Int)) (b:=((wt c x.q.2.1+t:Nat):Int)) (c:=c.M) (by rw[<-Cc f,wt];omega) V;have⟨v,u,w,v1,I,⟨u1,u2⟩,v3⟩:=h.vs;have g:e.2.1≠4->∀(ex:Nat) (p:Int),(ex<x.n.length->lv l ex ((aD x ex).2.2.2.2.1)=[])->(ex<x.n.length->p<=v ex)->(∀i,i<x.n.length->i≠ex->xc c i e.1 x.e (aD x i) (lv l i<|(aD x i).2.2.2.2.1) (v i))->Inv c m s B (t+1) K τ ex p (qt x l e.1):=λN ex p Z k2 F=>by
  have G:∀k,(lw l k).Perm<|lw x.q.2.1 k:=λk=>by
   have:=v_ (k:=k) f
   rwa [show lw (e::l) k=lw l k from List.filter_cons_of_neg<|by simp[N]] at this
  exact⟨Y,h.UX,h.em,h.es,h.en,⟨bu h.now.1 y.1,y.2⟩,h.ee,λz k=>⟨hm z<|H z k,(h.hw z<|H z k).2⟩,λz k=>h.h3 z<|H z k,λz k=>h.h4 z<|H z k,λz k=>h.hi z<|H z k,h.ch,h.sn,h.hb,h.sy,h.nd,Z,⟨v,u,w,k2,F,⟨u1.perm<|G 0,u2.perm<|G 1⟩,by show c.q*vM v x.n.length+(u+w)+c.M*((wt c l+(t+1):Nat):Int)<=c.M*(B:Int);omega⟩⟩
 refine⟨λN k=>g N _ _ (λq=>absurd q<|bJ _) (λq=>absurd q<|bJ _) λi C _=>?_,λi C F O P=>⟨v i,g (nk4 F) i (v i) (λ_=>?_) (λ_=>ai _) λj W J=>?_,?_⟩⟩
 .have:=mY (i:=i) (t:=(aD x i).2.2.2.2.1) f;rw[Al λa=>k.elim (λq=>nk3 a.1 q) λq=>q i C a.2.1 a.2.2] at this;exact((I i C<|by omega).mono A y.1 (ai _)<|ai _).perm this
 .have q:=I i C (by omega);have:=mY (i:=i) (t:=(aD x i).2.2.2.2.1) f;rw[GV F O P] at this;have l2:=this.length_eq;rw[bd] at l2;rcases q.short with q|⟨z,q⟩
  .rw[q] at l2;exact absurd l2 (by rw[o9];omega)
  .rw[q,bP] at l2;exact cu.1 (by omega)
 .have:=mY (i:=j) (t:=(aD x j).2.2.2.2.1) f;rw[Al λa=>J (by have:=a.2.1;omega)] at this;exact((I j W<|by omega).mono A y.1 (ai _)<|ai _).perm this
 .have q:=I i C (by omega);have p2:=mY (i:=i) (t:=(aD x i).2.2.2.2.1) f;rw[GV F O P] at p2;have l0:lv l i ((aD x i).2.2.2.2.1)=[]:=by
   have l2:=p2.length_eq;rw[bd] at l2;rcases q.short with q|⟨z,q⟩
   .rw[q] at l2;exact absurd l2 (by rw[o9];omega)
   .rw[q,bP] at l2;exact cu.1 (by omega)
  rw[l0] at p2;exact(q.mono A y.1 (ai _)<|ai _).perm p2
def Inv.hub{e:gw}(O:(e::l).Perm x.q.2.1)(hl:EY l)(hm:∀z∈x.q.2.1,e.1<=z.1)(k4:e.2.1=4)(p:adm (decide<|e.2.2.1=1) (decide<|e.2.2.2=1) (qt x l e.1) y):Inv c m s B (t+1) (K+1) τ x.n.length b y:=by
 have hc:=E.ok;obtain⟨q,hq⟩:∃q,decide (e.2.2.1=1)=q:=⟨_,rfl⟩;rw[hq] at p;have kq:e.2.2.1=kI q:=by
  rcases h.h4 e (O.mem_iff.1 (.head _)) k4 with X|X
  .rw[X] at hq ⊢;rw[<-hq];rfl
  .rw[X] at hq ⊢;rw[<-hq];rfl
 have an:mP q (qt x l e.1)=mP q x:=by cases q<;>rfl
 have G:∀z∈l,z∈x.q.2.1:=λz k=>O.mem_iff.1<|.tail _ k;have N:=h.hw e<|O.mem_iff.1<|.head _;have wx:wt c x.q.2.1=we c e+wt c l:=by rw[<-Cc O];rfl
 have wp:=No hc (e:=e);have hM:=(hc.nn (i:=0) (e:=0) (t:=0)).1;have av:¬nk e.2.1=true:=λa=>nk4 a k4;have a4:=O.length_eq;rw[bd] at a4;have⟨v,u,w,v1,v2,⟨u1,u2⟩,v3⟩:=h.vs;have nv:∀i,i<x.n.length->i≠x.n.length->xc c i e.1 x.e (aD x i) (lv l i<|(aD x i).2.2.2.2.1) (v i):=λi hi S=>by
  have:=mY (i:=i) (t:=(aD x i).2.2.2.2.1) O;rw[Al λa=>av a.1] at this;exact((v2 i hi S).mono hc N.1 (ai _)<|ai _).perm this
 have I:∀k,e.2.2.1≠k\/e.2.2.2=1->(lw l k).Perm (lw x.q.2.1 k):=λk g=>by
  have:=v_ (k:=k) O
  rwa [show lw (e::l) k=lw l k from List.filter_cons_of_neg (by simp only[eH,tP];rcases g with g|g<;>simp[g])] at this
 rcases p with ⟨f,sy,rfl⟩|⟨nf,D,t2,a,d,sd,Y,j,e',hh,rfl,a1,d1,o1,q1,q2,q3,F,f1,Z⟩
 .have f:=of_decide_eq_true f;have:=bM (a:=((wt c l+(t+1):Nat):Int)) (b:=((wt c x.q.2.1+t:Nat):Int)) (c:=c.M) (by rw[wx];omega) hM;exact⟨⟨h.q.made,by have:=h.q.len;show l.length<=_;omega,hl⟩,h.UX,h.em,h.es,h.en,⟨bu h.now.1 N.1,N.2⟩,h.ee,λz k=>⟨hm z<|G z k,(h.hw z<|G z k).2⟩,λz k=>h.h3 z<|G z k,λz k=>h.h4 z<|G z k,λz k=>h.hi z<|G z k,h.ch.mono<|iq _,⟨Nat.le_succ_of_le h.sn.1,h.sn.2⟩,h.hb,h.sy,h.nd,λq=>absurd q<|bJ _,⟨v,u,w,λq=>absurd q<|bJ _,nv,⟨u1.perm<|I 0<|.inr f,u2.perm<|I 1<|.inr f⟩,by show c.q*vM v x.n.length+(u+w)+c.M*((wt c l+(t+1):Nat):Int)<=c.M*(B:Int);omega⟩⟩
 .have ex:(qt x l e.1).m=m:=h.em;rw[ex] at f1 Z;have ws:(wt c Y:Int)<=bif D.1 then 1 else 0:=by
   rcases Z with ⟨g,_,rfl,_⟩|⟨g,_⟩
   .rw[g];exact ai _
   .rw[g]
    match Y,F with
    | [],_=>simp[wt]
    | [z],F=>rw[wt,wt,we,show nk z.2.1=false by rw[(F.2 z<|.head _).1];rfl,fQ (by have:=(F.2 z<|.head _).1;omega)];exact ai _
    | _::_::_,F=>exact absurd F.1 (by simp)
  have a6:∀(q:Bool) (uq:Int),e.2.2.1=kI q->Nu c (mP q x) (lw x.q.2.1<|kI q) uq->¬(e.2.2.2=1/\(mP q x).1=true)->(D.1=false/\(mP q x).1=false/\j=[]\/D.1=true/\((mP q x).1=true->(mP q x).2.1<=1000000000000->D.2.1=(mP q x).2.1+c.S)/\(j=[]\/∃z,j=[(z,4,kI q,0)]/\D.2.1<z))->_:=λq uq kq pq nf Z=>by
   have P:=v_ (k:=kI q) O;exact Nu.step hc (e:=e) (L':=lw l<|kI q) pq N.2 E.E (λk=>by
    rwa [show lw (e::l) (kI q)=e::lw l (kI q) from dY (by simp only[eH,tP];exact⟨k4,kq,λa=>nf ⟨a,k⟩⟩)] at P) (λk=>by
    rw[k] at P;have P:=P.eq_nil;by_cases n1:e.2.2.2=1
    .rw[show lw (e::l) (kI q)=lw l (kI q) from List.filter_cons_of_neg<|by simp[n1]] at P;exact⟨P,by rw[we,show nk e.2.1=false by rw[k4];rfl,bX k4,bX n1];rfl⟩
    .rw[show lw (e::l) (kI q)=e::lw l (kI q) from dY (by simp only[eH,tP];exact⟨k4,kq,n1⟩)] at P;cases P) f1.2 Z
  have b0:∀k,lw (Y++(j++l)) k=lw j k++lw l k:=λk=>by
   rw[Qu,Qu,Tp λz a b _=>by have:=(F.2 z a).1;omega];rfl
  have wn:wt c hh=wt c Y+(wt c j+wt c l):=by rw[Cc q3,RU,RU];rfl
  have ee:=h.ee;have A:∀z∈j,z.2.1=4/\(z.2.2.1=0\/z.2.2.1=1)/\e.1<=z.1/\z.1<=c.E/\z.2.2.1=kI (q)/\z.2.2.2=0:=λz V=>by
   rcases Z with ⟨_,_,_,rfl⟩|⟨_,_,rfl|⟨y,rfl,_,y2,y3⟩⟩
   .cases V
   .cases V
   .rw[aG.1 V];exact⟨rfl,by show kI _=0\/kI _=1;cases q<;>simp[kI],y2,by have y3:y<=x.e:=y3;omega,rfl,rfl⟩
  have J:∀z∈hh,z∈Y\/z∈j\/z∈l:=λz k=>(oJ.1<|q3.mem_iff.1 k).imp_right λk=>oJ.1 k;have az:∀i u,(lv hh i u).Perm<|lv l i u:=λi u=>by
   refine(mY q3).trans ?_;rw[Qt,Qt,KB λz a b _=>absurd (F.2 z a).1<|nk3 b,KB λz a b _=>absurd (A z a).1<|nk4 b];exact .refl _
  have H:=Z.imp (λg=>(⟨g.1,g.2.1,g.2.2.2⟩:D.1=false/\_/\j=[])) λg=>(⟨g.1,g.2.1,g.2.2.imp_right λ⟨z,a,b,_⟩=>⟨z,a,b⟩⟩:D.1=true/\_/\(j=[]\/∃z,j=[(z,4,kI<|q,0)]/\D.2.1<z));rw[<-E.S] at H;have aa:c.q=1->(mP (q) x).1=true->D.1=true:=λ_ a=>by
   rcases H with ⟨_,b,_⟩|⟨b,_⟩
   .rw[an,a] at b;cases b
   .exact b
  have bz:=h.ch.2.2;have o2:x.o.length<=sd.length/\sd.length<=x.o.length+1:=o1;have LW:∀k,(lw hh k).Perm<|lw j k++lw l k:=λk=>by rw[<-b0];exact v_ q3
  have a8:lw j (kI<|q)=j:=List.filter_eq_self.2 λz V=>by
   have⟨z1,_,_,_,z5,z6⟩:=A z V;simp[z1,z5,z6]
  have a9:∀k,kI (q)≠k->lw j k=[]:=λk g=>Tp λz V _ z2=>absurd ((A z V).2.2.2.2.1.symm.trans z2) g;have A1:∀z∈hh,e.1<=z.1/\z.1<=c.E:=λz k=>by
   rcases J z k with k|k|k
   .have⟨_,z2,_⟩:=F.2 z k;exact⟨z2.1,bu z2.2 h.ee⟩
   .exact⟨(A z k).2.2.1,(A z k).2.2.2.1⟩
   .exact⟨hm z<|G z k,(h.hw z<|G z k).2⟩
  have A2:∀z∈hh,z.2.1=3->0<=z.2.2.2/\z.2.2.2<(sd.length:Int):=λz k W=>by
   rcases J z k with k|k|k
   .exact(F.2 z k).2.2
   .have:=(A z k).1;omega
   .have:=h.h3 z (G z k) W;omega
  have A3:∀z∈hh,z.2.1=4->z.2.2.1=0\/z.2.2.1=1:=λz k W=>by
   rcases J z k with k|k|k
   .have:=(F.2 z k).1;omega
   .exact(A z k).2.1
   .exact h.h4 z (G z k) W
  have A4:∀z∈hh,nk z.2.1=true->∃i:Nat,z.2.2.1=(i:Int)/\i<x.n.length/\z.2.2.2<=(aD x i).2.2.2.2.1:=λz k W=>by
   rcases J z k with k|k|k
   .exact absurd (F.2 z k).1<|nk3 W
   .exact absurd (A z k).1<|nk4 W
   .exact h.hi z (G z k) W
  have A5:∀i,i<x.n.length->i≠x.n.length->xc c i e.1 e' (aD x i) (lv hh i<|(aD x i).2.2.2.2.1) (v i):=λi hi S=>((nv i hi S).mono hc (ai _) q2<|ai _).perm<|az i _;have A6:∀C:Int,C+c.M*((bif D.1 then 1 else 0)+(wt c j:Int))+c.M<=C+(c.M*((bif D.1 then 1 else 0)+(wt c j:Int))+c.M):=λC=>by omega
  have JS:∀C U R:Int,C+c.M*((bif D.1 then 1 else 0)+(wt c j:Int))+c.M<=U+c.M*(we c e:Int)->R+U+c.M*((wt c x.q.2.1+t:Nat):Int)<=c.M*(B:Int)->R+C+c.M*((wt c hh+(t+1):Nat):Int)<=c.M*(B:Int):=λC U R g1 g2=>by
   have w1:=bM (c:=c.M) ws hM;rw[fC] at g1;rw[wx,show((we c e+wt c l+t:Nat):Int)=(we c e:Int)+((wt c l+t:Nat):Int) by omega,fC] at g2;rw[wn,show((wt c Y+(wt c j+wt c l)+(t+1):Nat):Int)=(wt c Y:Int)+(wt c j:Int)+((wt c l+t:Nat):Int)+1 by omega,fC,fC,fC];omega
  cases q
  .have X:e.2.2.1=0:=kq;have⟨l0,C,p1,p2⟩:=a6 false u X u1 (λa=>nf ⟨bX a.1,a.2⟩) H;exact⟨⟨h.q.made,q1.1,q1.2⟩,h.UX,h.em,h.es,h.en,⟨bu h.now.1 N.1,N.2⟩,bu q2 h.ee,A1,A2,A3,A4,⟨⟨Nat.le_succ_of_le<|aV a1 h.ch.1.1,Nat.le_succ_of_le h.ch.1.2⟩,⟨h.ch.2.1.1.app d1,h.ch.2.1.2.mono<|iq _⟩,by show sd.length<=_;omega⟩,⟨Nat.le_succ_of_le h.sn.1,h.sn.2⟩,⟨f1.1,h.hb.2⟩,λg=>⟨aa g (h.sy g).1,(h.sy g).2⟩,h.nd,λq=>absurd q<|bJ _,v,C,w,λq=>absurd q<|bJ _,A5,⟨p1.perm<|(LW 0).trans<|by rw[show lw j 0=j from a8,show lw l 0=[] from l0,aJ],u2.perm<|(LW 1).trans (by rw[a9 1<|by decide];exact I 1<|.inl<|by omega)⟩,by
    have:=JS C u (c.q*vM v x.n.length+w) p2 (by omega);show c.q*vM v x.n.length+(C+w)+c.M*((wt c hh+(t+1):Nat):Int)<=c.M*(B:Int);omega⟩
  .have X:e.2.2.1=1:=kq;have⟨l0,C,p1,p2⟩:=a6 true w X u2 (λa=>nf ⟨bX a.1,a.2⟩) H;exact⟨⟨h.q.made,q1.1,q1.2⟩,h.UX,h.em,h.es,h.en,⟨bu h.now.1 N.1,N.2⟩,bu q2 h.ee,A1,A2,A3,A4,⟨⟨Nat.le_succ_of_le h.ch.1.1,Nat.le_succ_of_le<|aV a1 h.ch.1.2⟩,⟨h.ch.2.1.1.mono<|iq _,h.ch.2.1.2.app d1⟩,by show sd.length<=_;omega⟩,⟨Nat.le_succ_of_le h.sn.1,h.sn.2⟩,⟨h.hb.1,f1.1⟩,λg=>⟨(h.sy g).1,aa g (h.sy g).2⟩,h.nd,λq=>absurd q<|bJ _,v,u,C,λq=>absurd q<|bJ _,A5,⟨u1.perm<|(LW 0).trans (by rw[a9 0<|by decide];exact I 0<|.inl<|by omega),p1.perm<|(LW 1).trans<|by rw[show lw j 1=j from a8,show lw l 1=[] from l0,aJ]⟩,by
    have:=JS C w (c.q*vM v x.n.length+u) p2 (by omega);show c.q*vM v x.n.length+(u+C)+c.M*((wt c hh+(t+1):Nat):Int)<=c.M*(B:Int);omega⟩
def Inv.act{e:gw}(O:(e::l).Perm<|x.q.2.1)(S:EY l)(hm:∀z∈x.q.2.1,e.1<=z.1)(p:Act e (qt x l e.1) y):Inv c m s B (t+1) (K+4) (τ+16) y.n.length 0 y:=by
 have hc:=E.ok;have⟨p1,p2⟩:=h.pop E O S hm;have N:∀{C:Nat} {G:Int} {y:Net},Inv c m s B (t+1) C G x.n.length 0 y->C<=K+4->G<=τ+16->Inv c m s B (t+1) (K+4) (τ+16) y.n.length 0 y:=λ{C G y} g A I=>by
  have e:y.n.length=x.n.length:=by have:=g.en;have:=h.en;omega
  rw[e];exact g.weak A I<|ai _
 have any:∀{C:Nat} {G:Int} {y:Net},Inv c m s B (t+1) C G x.n.length b y->C<=K+4->G<=τ+16->Inv c m s B (t+1) (K+4) (τ+16) y.n.length 0 y:=λ{C G y} g A I=>by
  have e:y.n.length=x.n.length:=by have:=g.en;have:=h.en;omega
  have⟨v,u,w,v1,Z⟩:=g.vs;refine @N _ _ y ⟨g.q,g.UX,g.em,g.es,g.en,g.now,g.ee,g.hw,g.h3,g.h4,g.hi,g.ch,g.sn,g.hb,g.sy,g.nd,λq=>absurd q<|by omega,⟨v,u,w,λq=>absurd q<|by omega,Z⟩⟩ A I
 have Y:(x.n.length:Int)<=8:=by have:=h.en;have:=uB E.ml;omega
 rcases p with ⟨k,p⟩|⟨k,p⟩|⟨P,V,p⟩
 .have⟨g,_⟩:=Inv.sns E (p1 (by omega)<|.inl k) (bJ _) (iC<|gJ _) p;exact any (g.weak (ah _) (by show τ+(x.n.length:Int)<=τ+16;omega)<|ai _) (by omega) (by omega)
 .exact any (h.hub E O S hm k p) (by omega) (by omega)
 have k:nk e.2.1=true:=by simp[nk,P,V]
 rcases p with ⟨j,rfl⟩|⟨tt,nf,p⟩
 .refine any (p1 V<|.inr λi D J W=>?_) (by omega) (by omega);have F:e.2.2.1.toNat=i:=by rw[J];rfl
  rw[F] at j;rcases j with j|j
  .exact j W.symm
  .have⟨X,g,H⟩:=p2 i D k J W;have j:(aD x i).2.2.2.2.2.2.2=true:=j;cases H with
   | aU a q d=>cases q
   | beg t a e q s u p d=>rw[e] at j;cases j
   | F6 t a f q p d=>rw[f] at j;cases j
   | xk a e s q u d=>cases q
   | Iz t a f si q u d=>rw[f] at j;cases j
   | off a q d=>cases q
   | pow t a f q d=>rw[f] at j;cases j
 .have⟨i,J,D,_⟩:=h.hi e (O.mem_iff.1<|.head _) k;have F:e.2.2.1.toNat=i:=by rw[J];rfl
  rw[F] at tt p;have⟨X,g,H⟩:=p2 i D k J tt.symm;rcases p with ⟨A,p⟩|⟨A,p⟩|⟨A,p⟩|⟨A,I,P,p⟩
  .have q:=g.F6 E D A H p;exact N q (by omega) (by omega)
  .have q:=g.Iz E D A rfl H p;exact N q (by omega) (by omega)
  .have q:=g.pow E D A H p;exact N q (by omega) (by omega)
  .have q:=g.bgn E D ⟨A,I,P⟩ rfl H p;exact N q (by omega) (by omega)
end
def UA{f x:Int}(h:g<=f):g<=vU g f x/\vU g f x<=f:=by
 unfold vU;rw[n_,wN];omega
theorem BQ{l:List Int}{n:Nat}{f j:Int}:(rowP l n g f j).length=n:=by
 unfold rowP
 grind
theorem TM{l:List Int}{n:Nat}{lo hi ms:Int}(h:lo<=hi)(hm:lo<=ms/\ms<=hi):∀x∈rowP l n lo hi ms,lo<=x/\x<=hi:=λx f=>by
 rcases oJ.1 f with f|f
 .obtain⟨y,_,rfl⟩:=dE.1 f;exact UA h
 simp_all
theorem anY{b:Int}{x:Int×Bool}:b<=B_ b x:=by
 unfold B_;cases decide (0<xh (rC (x.2,x.1),x.1))
 .simp_all
 .rw[cond_true,wN];omega
theorem Gu{α:Type}{f:Int->α->Int}(h:∀b x,b<=f b x):∀(l:List α) (b:Int),b<=l.foldl f b
 | [],_=>ai _
 | x::l,b=>bu (h b x)<|Gu h l<|f b x
def aei{m:au}:30<=ig m:=by
 exact bu (show(30:Int)<=nP (xh (1,0)) by decide +kernel)<|Gu (λb x=>Gu (λ_ _=>anY) _ b) _ _
def KC(m:au)(E:Int)(q:Nat):Mc:=⟨m.1,m.2.1,m.2.2.1,m.2.2.2.1,m.2.2.2.2.1,m.2.2.2.2.2.1,E,q⟩
def apw{m:au}{E:Int}{q:Nat}(h:df m=true)(f:q=1\/q=4):vQ<|KC m E q:=by
 have hm:=uB h;have g:=aei (m:=m);exact⟨by show m.1=4\/m.1=5\/m.1=6\/m.1=7\/m.1=8;omega,hm.2.1,hm.2.2.1,hm.2.2.2.1.1,hm.2.2.2.2.1.1,by show 2*m.2.2.1+30<=m.2.1;omega,f⟩
theorem X1{x:fX}{l:List fX}:∀{a:fX},x∈vV a l->x∈l:=by
 induction l with
 | nil=>intro a h;cases h
 | cons b l ih=>
   intro a h;unfold vV at h
   grind
theorem Yt{m:au}{l:List fX}{f:fX}(h:f∈uh m l):ng (m,f)=true:=by
 unfold uh at h;cases k:decide<|iR m=0
 .simp_all
 .rw[k,cond_true] at h;have:f∈(l.filter λf=>ng (m,f)).mergeSort λa b=>!(uz b a):=by
   revert h;generalize (l.filter λf=>ng (m,f)).mergeSort (λa b=>!(uz b a))=L;intro h;cases L with
   | nil=>cases h
   | cons a L=>
     rcases aC.1 h with rfl|h
     .simp_all
     .exact .tail _<|X1 h
  simp_all
def alA(h:0<=d/\d<=1048576):af.u .neg .i64 d = -d:=by
 show IntKind.i64.wrap (0-d)=_;rw[my (by omega)<|by omega];omega
def PV{m:au}{E:Int}{q:Nat}{s:gK}(h:df m=true)(g:0<=E/\E<=1000000000000)(p:q=1\/q=4):Env (KC m E q) m<|dp m s:=by
 have hm:=uB h;have y:((m.1.toNat:Nat):Int)=m.1:=by omega
 refine⟨h,apw h p,rfl,rfl,rfl,rfl,rfl,rfl,g,?_,λf j=>?_,?_,?_,?_,?_,?_⟩
 .show(List.take 256 _).length<=_;rw[c_];omega
 .exact Yt<|List.mem_of_mem_take j
 .show m.1<=((rowP _ _ _ _ _).length:Int);rw[BQ];omega
 .show m.1<=((rowP _ _ _ _ _).length:Int);rw[BQ];omega
 .show(rowP _ _ _ _ _).length<=_;rw[BQ];omega
 .show ∀v∈rowP _ _ _ _ _,_;rw[alA<|by omega];exact TM (by omega) (by omega)
 .show(VE _).length<=_;have:∀l,(VE l).length=l.length:=λl=>qW;rw[this,aqz,c_];omega
theorem vQ.vl(h:vQ c)(v:0<=c.E):c.VL i 0+c.tT c.E c.S<=Mc.k i*(c.n*(c.E+2*c.S))+(4*c.M+(c.n+1)*c.E):=by
 obtain⟨hn,p,A,F,y,C,_⟩:=h;have kw:=c.kw i;obtain⟨n,S,G,W,D,L,E,_⟩:=c;simp only[Mc.VL,Mc.M,Mc.bs,Mc.tT] at *;rcases kw with ⟨j,f,g⟩|⟨j,f,g⟩<;>rw[f,g]<;>rcases hn with rfl|rfl|rfl|rfl|rfl<;>omega
theorem aa5{v:Nat->Int}{X Y:Int}(f:0<=X)(h:∀i,v i<=Mc.k i*X+Y):∀n:Nat,vM v (n+1)<=(13*((n+1:Nat):Int)+4)*X+((n+1:Nat):Int)*Y
 | 0=>by
   have:=h 0;show 0+v 0<=17*X+1*Y;have e:Mc.k 0=17:=rfl
   simp_all
 | n+1=>by
   have a:=aa5 f h n;have b:=h<|n+1;have e:Mc.k (n+1)=13:=rfl;rw[vM]
   grind
variable{N:Nat}
theorem vQ.sum(h:vQ c)(y:(N:Int)=c.n)(j:0<=c.E):(c.E<=c.S*(18*c.n+1)+64*c.W->vM (λi=>c.VL i 0+c.tT c.E c.S) N<=c.M*19339)/\(c.E<=c.S*(40*c.n+1)->vM (λi=>c.VL i 0+c.tT c.E c.S) N<=c.M*40000):=by
 have C:0<=c.n*(c.E+2*c.S):=by
  obtain⟨hn,g,v,f,p,A,_⟩:=h;exact cO (by omega) (by rcases hn with h|h|h|h|h<;>rw[h] at f<;>omega)
 obtain⟨n,rfl⟩:∃n,N=n+1:=⟨N-1,by rcases h.n with h|h|h|h|h<;>omega⟩;have s:=aa5 C (λi=>h.vl (i:=i) j) n;rw[y] at s;obtain⟨hn,g,v,f,p,A,_⟩:=h;obtain⟨n,S,G,W,D,L,E,_⟩:=c;simp only[Mc.M] at *;generalize vM _ _=z at s ⊢;rcases hn with rfl|rfl|rfl|rfl|rfl<;>constructor<;>intro hh<;>omega
def aej:Nat->(List Bool->Bool)->Bool
 | 0,p=>p []
 | n+1,p=>aej n (λl=>p<|true::l)&&aej n λl=>p<|false::l
theorem Lb:∀{n:Nat} {p:List Bool->Bool} {l:List Bool},aej n p=true->l.length=n->p l=true
 | 0,p,l,h,hl=>by rw[cu.1 hl];exact h
 | n+1,p,true::l,h,hl=>Lb (p:=λl=>p<|true::l) ((eH _ _).mp h).1<|Nat.succ.inj hl
 | n+1,p,false::l,h,hl=>Lb (p:=λl=>p<|false::l) ((eH _ _).mp h).2<|Nat.succ.inj hl
def tY:List Bool->Nat->Int->Int
 | [],_,s=>s
 | u::l,i,s=>tY l (i+1)<|bif u then af.b .or .i64 s (af.b .shl .i64 1 i) else s
def ahE(l:List Bool):Bool:=decide (0<=tY l 0 0/\tY l 0 0<=af.b .shl .i64 1 (l.length:Int)-1)&&(List.range l.length).all λi=>!l.getD i false||qC (tY l 0 0) i
theorem Ro{l:List Bool}(h:4<=l.length/\l.length<=8):ahE l=true:=by
 have a:∀n:Fin 5,aej (n.val+4) ahE=true:=by decide +kernel
 exact Lb (a ⟨l.length-4,by omega⟩) (by simp_all)
def vQ.hbs(h:vQ c)(g:0<=c.E):(c.E<=c.S*(18*c.n+1)+64*c.W->2*(c.n*(c.E+c.S-c.S))+c.M<=c.M*330)/\(c.E<=c.S*(40*c.n+1)->2*(c.n*(c.E+2*c.S))+c.M<=c.M*660):=by
 have⟨hn,f,p,y,j,v,_⟩:=h;have⟨n,S,G,W,D,L,E,_⟩:=c;simp only[Mc.M] at *;rcases hn with rfl|rfl|rfl|rfl|rfl<;>constructor<;>intro hh<;>omega
structure Bas(m:au)(s:gK)(K:Nat)(τ:Int)(x:Net):Prop where
 q:wU x
 em:x.m=m
 es:x.s=s
 en:(x.n.length:Int)=m.1
 now:0<=x.q.2.2/\x.q.2.2<=1000000000000
 ch:x.a.length<=K/\x.b.length<=K/\x.o.length<=K
 ca:x.2.2.2.2.1.length<=K/\x.2.2.2.2.2.1.length<=K
 sn:x.z.length<=K
 nd:∀i,i<x.n.length->AU m i τ (aD x i)
def LV{m:au}{n:Node}(h:dn m n=0):aer n=true:=by
 have a:=du h;have b:=(fR.1 a.2).f;have hm:=uB a.1;exact bX ⟨by omega,by omega⟩
def Nu.nn(f:vQ c)(j:0<=c.E/\c.E<=1000000000000){h:rN}{v:Int}(p:Nu c h l v)(g:∀e∈l,e.1<=c.E):0<=v:=by
 have y:=(f.nn (i:=0) (e:=0) (t:=0)).1;have:=f.nw;have:=f.n;rcases p with ⟨_,_,d⟩|⟨e,_,rfl,s,d⟩|⟨_,_,d⟩
 .have:0<=c.n*(c.E+2*c.S):=cO (by omega) (by omega);omega
 .have:=g e<|.head _;have:0<=c.n*(c.E+c.S-h.2.1):=cO (by omega) (by omega);omega
 .exact d
section
variable {c:Mc} {m:au} {s:gK} {K:Nat} {τ:Int} {x:Net} (E:Env c m s) (h:Bas m s K τ x) (hK:K<=800000) (hτ:τ<=800000000000)
include E h hK hτ
def Bas.snd(g:i<x.n.length):xt x i K:=by
 have _:=hτ;have f:=h.es;have hm:=uB E.ml;have en:=h.en;exact⟨by omega,h.q,g,by rw[f];exact E.fl,h.ch,h.ca⟩
def Bas.evi(P:i<x.n.length):Evi x i K:=by
 have en:=h.en;have hm:=uB E.ml;have O:=h.nd i P;have ag:=h.now;have Y:=h.sn;have gt:=E.gt;refine⟨h.snd E hK hτ P,by rw[h.em];exact E.ml,by omega,by omega,by rw[h.es];omega,O.d,λj hj=>by have:=(h.nd j hj).t;omega,λy z py pz=>?_⟩;have V:wU y/\y.m=m/\y.s=s/\y.n.length=x.n.length/\y.z.length<=K/\dn m (aD y i).1=0:=by
  rcases py with rfl|⟨l,cl,g,_,rfl⟩
  .exact⟨h.q,h.em,h.es,rfl,Y,O.zk⟩
  .rw[h.em] at g ⊢;exact⟨⟨h.q.made,h.q.len,h.q.heap⟩,h.em,h.es,bO,Y,by rw[fP P];exact TA O.zk g⟩
 have⟨S,k2,k3,k4,k5,k6⟩:=V;have hy:i<y.n.length:=by omega
 have D:∀(f k:Nat) (u w:Net),wU u/\u.m=m/\u.s=s/\u.n.length=x.n.length/\u.z.length<=K/\dn m (aD u i).1=0->VZ f k u w->wU w/\w.m=m/\w.s=s/\w.n.length=x.n.length/\w.z.length<=K/\dn m (aD w i).1=0:=by
  intro f
  induction f with
  | zero=>intro k u w a p;rw[show w=u from p];exact a
  | succ f ih=>
    intro k u w a p;have⟨v,p,q⟩:=p;refine ih (k+1) v w ?_ q;have⟨a1,a2,F,G,H,I⟩:=a;rcases p with rfl|⟨on,_,_,p⟩
    .exact⟨a1,a2,F,G,H,I⟩
    have X:i<u.n.length:=by omega
    have A:∀n,(ju m (aD u k).1 on).2=0->n=(ju m (aD u k).1 on).1->dn m (aD (cJ u<|bw u.n k<|o5 n) i).1=0:=λn g e=>by
     by_cases C:i=k
     .subst C;rw[fP X,e];exact BN I g
     .rw[iv C];exact I
    rcases p with ⟨_,rfl⟩|⟨g,⟨_,rfl⟩|⟨_,p⟩⟩
    .exact⟨a1,a2,F,G,H,I⟩
    .rw[a2] at g ⊢;exact⟨⟨a1.made,a1.len,a1.heap⟩,a2,F,bO.trans G,H,A _ g rfl⟩
    .rw[a2] at g p;have sm:=qK.same p;have⟨s1,s2,s3,s4,s5,s6,s7,s8,s9⟩:=sm;refine⟨⟨s5.trans a1.made,s8,s9⟩,s2.trans a2,s3.trans F,?_,?_,?_⟩
     .rw[s1];exact bO.trans<|bO.trans G
     .rw[show v.z=u.z from congrArg (λz:List dx×List dx×List A7×List fB=>z.2.2.2) s7];exact H
     .rw[qK.aD p];have e:∀(l:List cB) (j:Nat),(bw l k<|qG<|u.q.2.2).getD j dS=(bw l k<|qG<|u.q.2.2).getD j dS:=λ_ _=>rfl;by_cases C:i=k
      .subst C;rw[fP (by show i<(bw _ _ _).length;rw[bO];exact X)];exact A _ g rfl
      .rw[iv C];exact A _ g rfl
 have N:wU z/\z.m=m/\z.s=s/\z.n.length=x.n.length/\z.z.length<=K/\dn m (aD z i).1=0:=by
  have Z:wU (cJ y<|bw y.n i zg)/\y.m=m/\y.s=s/\(cJ y<|bw y.n i zg).n.length=x.n.length/\y.z.length<=K/\dn m (aD (cJ y<|bw y.n i zg) i).1=0:=⟨⟨S.made,S.len,S.heap⟩,k2,k3,bO.trans k4,k5,by rw[fP hy,Y2];exact k6⟩;rcases pz with rfl|⟨_,_,p⟩
  .exact Z
  .exact D _ 0 _ z Z p
 have⟨f1,J,W,f4,f5,f6⟩:=N;refine⟨f1,by rw[J];exact E.ml,by omega,?_,?_,by omega,λn g e=>?_⟩
 .rw[J,W];exact E.dd
 .rw[W];exact E.dl
 .rw[J] at g e;rw[e];exact LV<|E2 f6 g
def Bas.tki(f:i<x.n.length):Tki x i K:=by
 have g:=h.nd i f;have j:=h.now;refine⟨h.snd E hK hτ f,by omega,by rw[h.em];exact E.ml,by omega,by have:=g.t;omega,?_,?_⟩
 .rw[h.em,h.es];exact E.dd
 .rw[h.es];exact E.dl
def Bas.bgi(g:i<x.n.length)(y:(aD x i).2.1.1<=1000000000000):Bgi x i K:=by
 have p:=h.nd i g;have A:=h.now;refine⟨h.q,g,by rw[h.es];exact E.fl,by rw[h.es];exact E.op,by rw[h.em];exact E.ml,by omega,by have:=p.t;omega,λn _=>?_⟩;have v:i<(yw x i).n.length:=by show i<(bw _ _ _).length;rw[bO];exact g
 have e:aD (On x i n) i=gG n (Pp<|aD x i):=(fP v).trans<|congrArg (gG n)<|fP g;refine⟨((h.snd E hK hτ g).mod (j:=i) (f:=Pp)).mod (j:=i) (f:=gG n),by omega,by show df x.m=true;rw[h.em];exact E.ml,by show 0<=x.q.2.2/\x.q.2.2<=_;omega,?_,?_,by show x.s.2.2.2.2.2.2.1.length<=_;rw[h.es];exact E.op⟩
 .rw[e];have:=p.t;show 0<=(aD x i).2.2.2.2.1/\(aD x i).2.2.2.2.1<=_;omega
 .rw[e];exact⟨p.c.1,y⟩
end
section
variable {c:Mc} {m:au} {s:gK} {B t K:Nat} {τ:Int} {b:Int} {x:Net} (E:Env c m s) (h:Inv c m s B t K τ x.n.length b x)
include E h
def Inv.tb:(x.q.2.1).length+t<=B:=by
 have⟨v,u,w,_,C,⟨D,F⟩,N⟩:=h.vs;have f:=E.ok;have j:0<c.M:=by
  have hn:=f.n;have H:=f.S;have G:=f.nw.2.2;have:0<c.n*c.S:=Int.mul_pos (by omega) (by omega);exact this
 have hn:=E.n;have hm:=uB E.ml;have A:0<=vM v x.n.length:=aa6 λi y=>(C i y<|by omega).nn E.ok<|jR _ (by omega);have I:=cO (a:=(c.q:Int)) (by omega) A;have g:∀k,∀e∈lw x.q.2.1 k,e.1<=c.E:=λk e p=>(h.hw e (gh.1 p).1).2;have J:=D.nn f E.E<|g 0;have O:=F.nn f E.E<|g 1;have P:=an5 f (l:=x.q.2.1);have:=Int.le_of_mul_le_mul_left (a:=c.M) (b:=((wt c x.q.2.1+t:Nat):Int)) (c:=(B:Int)) (by omega) j;omega
def Inv.aci{e:gw}(hK:K<=800000)(hτ:τ<=800000000000)(v:(e::l).Perm<|x.q.2.1)(D:EY l)(A:∀z∈x.q.2.1,e.1<=z.1):Aci e (qt x l e.1) K:=by
 have P:=h.hw e<|v.mem_iff.1<|.head _;have hm:=uB E.ml;have en:=h.en;have G:=E.E;have y:=v.length_eq;rw[bd] at y;have W:=h.now;have g:Bas m s K τ<|qt x l e.1:=⟨⟨h.q.made,by have:=h.q.len;show l.length<=_;omega,D⟩,h.em,h.es,h.en,⟨by show 0<=e.1;omega,by show e.1<=_;omega⟩,⟨h.ch.2.1.1.1,h.ch.2.1.2.1,h.ch.2.2⟩,h.ch.1,h.sn.1,h.nd⟩;refine⟨by show x.n.length<=_;omega,by show 0<x.n.length;omega,λk=>?_,λk=>⟨h.h4 e (v.mem_iff.1<|.head _) k,by rw[g.em];exact E.ml,λq=>by rw[g.em];cases q;exact h.hb.1;exact h.hb.2,by rw[g.es];exact E.fl,λq=>?_,by have:=g.ch;omega⟩,λC N=>?_⟩
 .have V:=h.h3 e (v.mem_iff.1<|.head _) k;refine⟨⟨g.q,?_,?_,λj _ H=>?_⟩,e.2.2.2.toNat,by omega,by show e.2.2.2.toNat<x.o.length;omega⟩
  .show x.n.length<=x.s.2.2.2.1.length;rw[h.es];have:=E.gt;omega
  .have:=h.ch.2.1.1.1;have:=h.ch.2.1.2.1;exact⟨by show x.a.length<=_;omega,by show x.b.length<=_;omega⟩
  .have:=(h.nd j H).t;show 0<=(aD x j).2.2.2.2.1/\(aD x j).2.2.2.2.1<=_;omega
 .have:=h.ch.1;have:=h.ch.2.1.1.1;have:=h.ch.2.1.2.1;cases q
  .exact⟨by show x.2.2.2.2.1.length<=_;omega,by show x.a.length<=_;omega⟩
  .exact⟨by show x.2.2.2.2.2.1.length<=_;omega,by show x.b.length<=_;omega⟩
 .have k:nk e.2.1=true:=by simp[nk,C,N]
  have⟨i,a,b,_⟩:=h.hi e (v.mem_iff.1<|.head _) k;refine⟨i,a,b,g.evi E hK hτ b,g.tki E hK hτ b,λF S I J C=>g.bgi E hK hτ b ?_⟩;have⟨_,_,O⟩:=(h.pop E v D A).2 i b k a F.symm;show(aD x i).2.1.1<=_;cases O with
  | aU a q d=>cases q
  | beg t a e q s u p d=>injection q with q _;subst q;exact bu s<|bu u G.2
  | F6 t a f q p d=>injection q with q _;subst q;exact absurd rfl I
  | xk a e s q u d=>cases q
  | Iz t a f X q u d=>injection q with q _;subst q;exact absurd rfl J
  | off a q d=>cases q
  | pow t a f q d=>injection q with q _;subst q;exact absurd rfl C
def Inv.step(hK:K<=800000)(hτ:τ<=800000000000):CU (x,())=true/\(x.q.2.1≠ []->Inv c m s B (t+1) (K+4) (τ+16) (ta (x,())).1.n.length 0 (ta (x,())).1):=by
 have⟨p1,p2⟩:=amG h.q λe l j f hm=>h.aci E hK hτ j f hm;refine⟨p1,λg=>?_⟩;rcases p2 with ⟨k,_⟩|⟨e,l,j,f,hm,p⟩
 .exact absurd k g
 .exact h.act E j f hm p
end
def akU{s:gK}(h:YO s=true):s.2.2.2.2.2.2.1.length<=300/\s.2.2.2.2.2.2.2.length<=300/\s.2.2.2.2.2.1.length<=1100:=by
 revert h;refine K0 (t:=anG af s) (P:=λr=>r=true->s.2.2.2.2.2.2.1.length<=300/\s.2.2.2.2.2.2.2.length<=300/\s.2.2.2.2.2.1.length<=1100) ?_ (LT.kG<|by kernel_rfl)<|LT.nG (by kernel_rfl);refine Ag (λa=>Ag (λb=>ay λd=>?_) λ_=>ay nofun) λ_=>ay nofun
 rw[ax] at d;have d:=of_decide_eq_true d;rw[eG] at a b d;omega
theorem agO{l:List Bool}:(agN l N).length=N:=by
 unfold agN;rw[oQ,eG,eG,wi,jU,y7,GU]
 grind
def U5{m:au}(h:iR m=0):(ox m).2=0:=by
 show(LT.val (Ty.aO [yI,yI])<|RA af m).2=_;simp[RA,bZ,h];rfl
def aet{m:au}{s:gK}(h:df m=true):zZ m s=(dp m s,0):=by
 unfold zZ;rw[bX<|U5<|sZ.trans<|oZ.2 h];rfl
theorem aes{m:au}{s:gK}(h:df m=false):(zZ m s).2=70:=by
 have e:iR m=70:=by rw[sZ,nh,h];rfl
 have p:=OL (m:=m) (by omega);unfold zZ
 simp_all
def ini(m:au)(i:Nat):cB:=((rX m i).1,(0,0,[]),0,0,0,false,false,false)
def qF(m:au)(k:Nat):List cB:=(List.range k).map<|ini m
def vB{m:au}{k:Nat}:(qF m k).length=k:=by rw[qF,cy,List.length_range]
def UR{m:au}{k:Nat}:qF m (k+1)=qF m k ++ [ini m k]:=by rw[qF,List.range_succ,fN];rfl
def aeU{m:au}{k:Nat}(h:i<k):(qF m k).getD i dS=ini m i:=by
 rw[qF,GB,da,List.getElem?_range h];rfl
theorem wm{m:au}(h:df m=true)(f:(i:Int)<m.1):(rX m (i:Int)).2=0/\(rX m (i:Int)).1.1=(i:Int)/\(rX m (i:Int)).1.2.1=0:=by
 unfold rX
 grind
def Jx(hb:rN)(m:au)(s:gK)(r e:Int)(l:List cB):Net:=(hb,hb,0,0,[],[],true,m,s,r,e,(true,[],0),l,[],[],[],[])
def Jf(m:au)(s:gK):Int:=m.2.1*((s.1+2)*m.1+1)+4*(s.1*m.2.2.2.1)
def Jw{x y:Int}(f:-9223372036854775808<=x*y)(g:x*y<=9223372036854775807):af.b .mul .i64 x y=x*y:=by rw[jh,my f g]
def Yb{m:au}{s:gK}(h:df m=true)(p:1<=s.1/\s.1<=16):af.bT (af.b .mul .i64 m.2.1<|af.bT (af.b .mul .i64 (af.bT s.1 2) m.1) 1) (af.b .mul .i64 4<|af.b .mul .i64 s.1 m.2.2.2.1)=Jf m s/\0<=Jf m s/\Jf m s<=m.2.1*(18*m.1+1)+64*m.2.2.2.1/\Jf m s<=100000000000:=by
 have hm:=uB h;have a1:(s.1+2)*m.1<=18*m.1:=cY (by omega) (by omega);have f:0<=(s.1+2)*m.1:=cO (by omega) (by omega);have j:s.1*m.2.2.2.1<=16*m.2.2.2.1:=cY (by omega) (by omega);have g:0<=s.1*m.2.2.2.1:=cO (by omega) (by omega);have c1:m.2.1*((s.1+2)*m.1+1)<=m.2.1*(18*m.1+1):=bM (by omega) (by omega);have c0:0<=m.2.1*((s.1+2)*m.1+1):=cO (by omega) (by omega);have c2:m.2.1*(18*m.1+1)<=16777216*(18*m.1+1):=cY (by omega) (by omega);unfold Jf;refine⟨?_,by omega,by omega,by omega⟩;rw[dw (x:=s.1)<|by omega,Jw (x:=s.1+2) (by omega)<|by omega,dw (x:=(s.1+2)*m.1)<|by omega,Jw (x:=m.2.1) (by omega)<|by omega,Jw (x:=s.1) (by omega)<|by omega,Jw (x:=4) (by omega)<|by omega,dw<|by omega]
def Uu{l:List cB}{v:cB}(h:l.length<=1000):af.bQ (af.l<|af.p l [v]) 502633886983=true:=mB (by omega)
def Yd{m:au}{s:gK}(h:df m=true)(A:rR (m,s)=true):Hm (m,s)=true/\mC (m,s)=(true,Jx (false,0,0) m (dp m s) (dp m s).1 (Jf m<|dp m s)<|qF m m.1.toNat,0):=by
 have hm:=uB h;have C:1<=(dp m s).1/\(dp m s).1<=16:=by
  show 1<=af.mn (af.mx s.1 1) 16/\af.mn (af.mx s.1 1) 16<=16;rw[n_,wN];split<;>split<;>omega
 have j:=(Yb (s:=dp m s) h C).1;refine gm (s:=MG af) (t:=VN af m s) (d:=(false,Ty.gH kX,Ty.aO [yI])) (P:=λr=>r=(true,Jx (false,0,0) m (dp m s) (dp m s).1 (Jf m<|dp m s)<|qF m m.1.toNat,0)) ?_;have p:af.k Kh (m,s)=(dp m s,0):=aet h;unfold VN;rw[p];have D:∀(f k:Nat),m.1.toNat-k<=f->k<=m.1.toNat->Go (MG af) (MG af<|.c3 ⟨m.1,m,m,dp m s,(dp m s).1,Jf m<|dp m s⟩ k<|qF m k) λr=>r=(true,Jx (false,0,0) m (dp m s) (dp m s).1 (Jf m<|dp m s)<|qF m m.1.toNat,0):=by
  intro f
  induction f with
  | zero=>
    intro k v y;refine bH (λg=>absurd g (by show ¬(k:Int)<m.1;omega)) λ_=>ay ?_;rw[show k=m.1.toNat by omega];rfl
  | succ f ih=>
    intro k v y;refine bH (λg=>?_) λg=>ay ?_
    .have g:(k:Int)<m.1:=g;have⟨n1,_⟩:=wm h g;have en:af.k uj (m,(k:Int))=rX m (k:Int):=rfl;rw[en,dw<|by omega,show(k:Int)+1=((k+1:Nat):Int) from by omega];refine dD (λq=>absurd n1 q) λ_=>aj (Uu (by rw[vB];omega))<|aP ?_;have:=ih (k+1) (by omega) (by omega);rw[UR] at this;exact this
    .have g:m.1<=(k:Int):=g;rw[show k=m.1.toNat by omega];rfl
 refine aj A<|dD (λg=>absurd rfl g) λ_=>aP<|bH (λg=>absurd g<|by decide) λ_=>aP<|bH (λg=>absurd g<|by decide) λ_=>?_;show Go (MG af) (.ak<|.c2 ⟨m.1,m,m,dp m s,(dp m s).1,af.bT (af.b .mul .i64 m.2.1<|af.bT (af.b .mul .i64 (af.bT (dp m s).1 2) m.1) 1)<|af.b .mul .i64 4<|af.b .mul .i64 (dp m s).1 m.d⟩) _;rw[j];have⟨n1,_⟩:=wm (i:=0) h (by omega);have en:af.k uj (m,0)=rX m ((0:Nat):Int):=rfl;refine aP<|bH (λ_=>?_) λg=>absurd g (by show ¬m.1<=0;omega);show Go (MG af) (.br (af.cm (af.k uj (m,0)).2 0) _ _) _;rw[en];refine dD (λq=>absurd n1 q) λ_=>aj (tu (by show(1:Int)<=_;omega))<|aP ?_;exact D _ 1 (ah _) (by omega)
def Yc{m:au}{s:gK}(h:df m=false)(j:rR (m,s)=true):Hm (m,s)=true/\(mC (m,s)).1=false/\(mC (m,s)).2.2=70:=by
 refine gm (s:=MG af) (t:=VN af m s) (d:=(false,Ty.gH kX,Ty.aO [yI])) (P:=λr=>r.1=false/\r.2.2=70) ?_;have f:(af.k Kh (m,s)).2=70:=aes h;exact aj j<|dD (λ_=>ay ⟨rfl,f⟩) λg=>absurd (f.symm.trans g) (by decide)
def BY{hb:rN}{m:au}{s:gK}{r e:Int}{k:Nat}(h:i<k):aD (Jx hb m s r e<|qF m k) i=ini m i:=aeU h
def ru{α:Type}{P:α->Prop}:∀e∈([]:List α),P e:=λe k=>absurd k aF
def Sm{m:au}{s:gK}{q:Nat}{r e:Int}{hb:rN}(h:df m=true)(y:0<=e)(g:k_ (m,hb)=true)(p:q=1->hb.1=true)(v:Nu (KC m e q) hb [] u)(D:q*vM (λi=>(KC m e q).VL i 0+(KC m e q).tT e m.2.1) m.1.toNat+(u+u)<=(KC m e q).M*(B:Int)):Inv (KC m e q) m s B 0 0 0 m.1.toNat 0<|Jx hb m s r e<|qF m m.1.toNat:=by
 have hm:=uB h;have C:(qF m m.1.toNat).length=m.1.toNat:=vB;refine⟨⟨rfl,aQ _,λj _ A=>absurd A<|Nat.not_lt_zero _⟩,rfl,rfl,rfl,by show((qF m m.1.toNat).length:Int)=m.1;omega,⟨ai _,y⟩,ai _,ru,ru,ru,ru,⟨⟨ah _,ah _⟩,⟨⟨ah _,ru⟩,⟨ah _,ru⟩⟩,ah _⟩,⟨ah _,ru⟩,⟨g,g⟩,λa=>⟨p a,p a⟩,λi f=>?_,λ_=>rfl,λi=>(KC m e q).VL i 0+(KC m e q).tT e m.2.1,u,u,λq=>?_,λi f _=>?_,⟨v,v⟩,?_⟩
 .have f:i<(qF m m.1.toNat).length:=f;rw[BY<|by omega];have⟨a,b,d⟩:=wm (i:=i) h (by omega);exact⟨Tq a,b,⟨ai _,ai _⟩,⟨ai _,by show(0:Int)<=_;omega⟩,ai _,by show([]:List Int).length<=8;decide⟩
 .have q:m.1.toNat<(qF m m.1.toNat).length:=q;omega
 .have f:i<(qF m m.1.toNat).length:=f;rw[BY<|by omega];have⟨a,b,d⟩:=wm (i:=i) h (by omega);refine .off (.inl d) rfl ?_;show(KC m e q).VL i 0+(KC m e q).tT e (0+m.2.1)<=_;rw[Int.zero_add];exact ai _
 .show q*vM _ (qF m m.1.toNat).length+(u+u)+(KC m e q).M*0<=_;rw[C];omega
theorem aif{m:au}{n:Node}{S:Int}(h:dn m n=0)(f:n.2.1=0)(g:0<=S/\S<=af.b .shl .i64 1 m.1-1)(hb:qC S n.1=true):(Fp m n S).2=0/\(Fp m n S).1.1=n.1/\(Fp m n S).1.2.1=4/\(Fp m n S).1.2.2.1.2.1=0:=by
 unfold Fp
 simp_all
def upY(n:Node)(t:Int)(y:cB):cB:=(n,(t,0,[]),y.2.2)
structure NwI(c:Mc)(m:au)(s:gK)(B k:Nat)(x:Net):Prop where
 inv:Inv c m s B 0 0 0 x.n.length 0 x
 w:x.q.2.2=0
 ev:∀e∈x.q.2.1,e.2.2.1<(k:Int)
 st:∀j,k<=j->j<x.n.length->aD x j=ini m j
 nl:∀e∈x.q.2.1,e.2.1=5
def NwI.up{m:au}{s:gK}{k:Nat}{S o:Int}(E:Env c m s)(h:NwI c m s B k x)(J:k<x.n.length)(hs:0<=S/\S<=af.b .shl .i64 1 m.1-1)(hb:qC S (k:Int)=true)(ho:0<=o/\o<=1048576)
  (p:qK (cJ x<|bw x.n k<|upY (Fp m (aD x k).1 S).1<|m.2.1+o) (qH x<|m.2.1+o,5,(k:Int),0) y):NwI c m s B (k+1) y:=by
 have D:=E.ok;have hm:=uB E.ml;have a3:=E.S;have hn:=E.n;have G:=h.st k (ah _) J;have C:=h.inv.nd k J;have t0:(aD x k).2.2.2.2.1=0:=by rw[G];rfl
 have s0:(aD x k).1.2.1=0:=by
  rw[G];exact(wm E.ml (by have:=h.inv.en;omega)).2.2
 have Z:(aD x k).2.2.2.2.2.2.2=false:=by rw[G];rfl
 have⟨u1,u2,V,u4⟩:=aif C.zk s0 hs (by rw[C.id];exact hb);have lk:lv (x.q.2.1) k ((aD x k).2.2.2.2.1)=[]:=KB λe g a b _=>by have:=h.ev e g;omega
 have P:m.2.1+o<=qH x (m.2.1+o)/\x.q.2.2<=qH x (m.2.1+o):=by unfold qH;split<;>omega
 have nb:AU m k 0<|upY (Fp m (aD x k).1 S).1 (m.2.1+o)<|aD x k:=⟨anZ C.zk u1,u2.trans C.id,C.t,⟨by show 0<=m.2.1+o;omega,by show m.2.1+o<=_;omega⟩,ai _,by show([]:List Int).length<=8;decide⟩;have F:kT (Fp m (aD x k).1 S).1=true:=gn.2 (by rw[V];decide);have W:(0:Int)%c.n=0:=Int.zero_emod _;have O:=h.inv.mp (f:=upY (Fp m (aD x k).1 S).1<|m.2.1+o) (d:=0) (ai _) (.inr rfl) J (by omega) (ai _) nb (ai _) lk D p rfl rfl t0.symm P.2 λv nv=>?_
 .have l2:y.n.length=x.n.length:=p.kp.len.trans bO;refine⟨by rw[l2];exact O.weak (ah _) (ai _)<|by omega,p.kp.w.trans h.w,λe g=>?_,λj hj hl=>?_,λe g=>?_⟩
  .obtain⟨Y,h',rfl,l1,l3,⟨rfl,I,A⟩|⟨H,I,A⟩⟩:=p
   .rcases aC.1 (A.mem_iff.1 g) with rfl|g
    .show(k:Int)<((k+1:Nat):Int);omega
    .have:=h.ev e g;omega
   .subst H;have:=h.ev e g;omega
  .rw[qK.aD p,iv<|by omega];exact h.st j (by omega) (by omega)
  .obtain⟨Y,h',rfl,l1,l3,⟨rfl,I,A⟩|⟨H,I,A⟩⟩:=p
   .rcases aC.1 (A.mem_iff.1 g) with rfl|g
    .rfl
    .exact h.nl e g
   .subst H;exact h.nl e g
 .have v0:c.VL k (x.q.2.2)+c.tT x.e (x.q.2.2+c.S)<=v:=by
   have N:¬(2<=(aD x k).1.2.1/\(aD x k).1.2.1<=4):=by omega
   have X:=D.nn (i:=k) (e:=x.e) (t:=x.q.2.2);cases nv with
   | aU a b d=>exact absurd (gn.1 a) N
   | beg t a e b s u p d=>exact absurd (gn.1 a) N
   | F6 t a e b p d=>exact absurd (gn.1 a) N
   | xk a e s b u d=>omega
   | Iz t a e s b u d=>omega
   | off a b d=>exact d
   | pow t a e b d=>omega
  rw[h.w] at v0;have n1:=D.n1 (i:=k) (st:=m.2.1+o) (by omega);have X:=D.nn (i:=k) (e:=x.e) (t:=0+c.S);have M1:=D.nn (i:=k) (e:=x.e) (t:=0);refine⟨λq=>.beg _ F Z (by rw[<-t0];rfl) P.1 (bu q h.inv.ee) ?_ ?_,λz _ _=>.aU F rfl<|by omega⟩
  .show(Fp m (aD x k).1 S).1.2.2.1.2.1=0%c.n;rw[u4,W]
  .show(bif decide ((Fp m (aD x k).1 S).1.2.1=4) then c.VA k (m.2.1+o) (c.W*(0%c.n)) else _)+c.tT x.e (x.q.2.2+c.S)<=_;rw[V,W,Int.mul_zero,h.w,show decide ((4:Int)=4)=true from rfl,cond_true];omega
theorem aa0{l:List Bool}(h:4<=l.length/\l.length<=8):(0<=tY l 0 0/\tY l 0 0<=af.b .shl .i64 1 (l.length:Int)-1)/\∀i,i<l.length->l.getD i false=true->qC (tY l 0 0) (i:Int)=true:=by
 have a:=Ro h;have⟨b,d⟩:=(eH _ _).mp a
 grind
def O3{l:List Bool}(h:l.length<=i){s:Int}:tY (l.drop i) i s=s:=by rw[kg h];rfl
variable{P:Bool×Net×Int->Prop}
def alE{p:WY}{l:List Bool}(A:p.a1=l)(y:p.a2=(l.length:Int))(F:l.length<=1000)
  (T:∀z,z=tY l 0 0->Go (Eu af) (.ak<|.c1 ⟨z,p.a5.s.2.1,af.l p.a5.s.2.1,p.a4⟩ 0 p.a5) P) :
  ∀(f i:Nat) (z:Int),l.length-i<=f->i<=l.length->tY (l.drop i) i z=tY l 0 0->Go (Eu af) (Eu af<|.c0 p z i) P:=by
 intro f
 induction f with
 | zero=>
   intro i z C D j;rw[O3 (by omega)] at j;exact bH (λg=>absurd g (by rw[y];omega)) λ_=>T z j
 | succ f ih=>
   intro i z C D j;refine bH (λg=>?_) λg=>T z (by rw[O3 (by rw[y] at g;omega)] at j;exact j);have v:i<l.length:=by rw[y] at g;omega
   rw[AX v,tY] at j;have en:(af.n .bool p.a1 (i:Int):Bool)=l[i]:=by rw[A];exact fF v _
   refine aj (by rw[A];exact cr (l:=l)<|by omega) ?_;rw[en,dw<|by omega,show(i:Int)+1=((i+1:Nat):Int) from by omega];refine dO (λk=>aj (by rw[ax];exact bX<|by omega)<|aP<|ih (i+1) _ (by omega) (by omega) ?_) λk=>aP<|ih (i+1) z (by omega) (by omega) ?_
   .rw[k] at j;exact j
   .rw[k] at j;exact j
def Ql(m:au):rN:=(true,m.2.1,0)
def Ey(m:au)(x:Net):Net:=(Ql m,Ql m,x.2.2)
def qK.Ey{m:au}{e:gw}(p:qK x e y):qK (Ey m x) e<|Ey m y:=by
 obtain⟨f,g,rfl,p⟩:=p;exact⟨f,g,rfl,p⟩
def Inv.wB{m:au}{s:gK}{B' t:Nat}{b:Int}(E:Env c m s)(h:Inv c m s B t K τ ex b x)(k:B<=B'):Inv c m s B' t K τ ex b x:=by
 have⟨v,u,w,g,j,p,y⟩:=h.vs;have f:=(E.ok.nn (i:=0) (e:=0) (t:=0)).1;have:=bM (a:=(B:Int)) (b:=(B':Int)) (c:=c.M) (by omega) f;exact⟨h.q,h.UX,h.em,h.es,h.en,h.now,h.ee,h.hw,h.h3,h.h4,h.hi,h.ch,h.sn,h.hb,h.sy,h.nd,h.lx,⟨v,u,w,g,j,p,by omega⟩⟩
def Inv.look{m:au}{s:gK}{t:Nat}{b:Int}{q:Bool}{T:Int}(E:Env c m s)(h:Inv c m s B t K τ x.n.length b x)(I:(mP q x).1=true)(Z:0<=(mP q x).2.1/\(mP q x).2.1<T)(hE:(mP q x).2.1<=c.E+c.S)(N:lw x.q.2.1 (kI q)=[])(hT:x.q.2.2<=T)(hd:2*(c.n*(c.E+c.S-(mP q x).2.1))+c.M<=c.M*(dB:Int))(p:qK x (T,4,kI q,0) y):Inv c m s (B+dB) t K τ y.n.length b y:=by
 have hc:=E.ok;have e:y.n.length=x.n.length:=p.kp.len;rw[e];obtain⟨e',j,rfl,l1,l2,⟨rfl,H,C⟩|⟨g1,H,C⟩⟩:=p
 .have S:∀(i:Nat) (u:Int),(lv j i u).Perm<|lv x.q.2.1 i u:=λi u=>by
   have:=mY (i:=i) (t:=u) C
   rwa [Al λa=>nk4 a.1 rfl] at this
  have f:∀e∈j,e=(T,4,kI q,0)\/e∈x.q.2.1:=λe k=>aC.1<|C.mem_iff.1 k;have kq:kI q=0\/kI q=1:=by cases q<;>simp[kI]
  have Y:wt c j=1+wt c x.q.2.1:=Cc C;have X0:0<=2*(c.n*(c.E+c.S-(mP q x).2.1)):=by
   have:=hc.n;have:=cO (a:=c.n) (b:=c.E+c.S-(mP q x).2.1) (by omega) (by omega);omega
  have same:∀k,kI q≠k->(lw j k).Perm (lw x.q.2.1 k):=λk g=>by
   have:=v_ (k:=k) C
   rwa [show lw ((T,4,kI q,0)::x.q.2.1) k=lw x.q.2.1 k from List.filter_cons_of_neg<|by simp[g]] at this
  have one:(lw j<|kI q).Perm [(T,4,kI q,0)]:=by
   have:=v_ (k:=kI q) C
   rwa [show lw ((T,4,kI q,0)::x.q.2.1) (kI q)=(T,4,kI q,0)::lw x.q.2.1 (kI q) from dY<|by simp,N] at this
  have⟨v,u,w,v1,X,⟨V,W⟩,v4⟩:=h.vs;have P:∃F G,(Nu c x.1 (lw j 0) F/\Nu c x.2.1 (lw j 1) G)/\F+G=u+w+2*(c.n*(c.E+c.S-(mP q x).2.1)):=by
   have D:∀{k:rN} {u:Int},k.1=true->Nu c k [] u->0<=u:=λa b=>by
    rcases b with ⟨b,_,_⟩|⟨_,_,b,_,_⟩|⟨_,_,b⟩
    .rw[a] at b;cases b
    .cases b
    .exact b
   cases q
   .rw[show lw x.q.2.1 0=[] from N] at V;have:=D I V;exact⟨_,w,⟨Nu.perm (.look (T,4,kI false,0) I rfl Z (v:=u+2*(c.n*(c.E+c.S-(mP false x).2.1))) (by show _<=_+2*(c.n*(c.E+c.S-x.1.2.1));omega)) one,W.perm<|same 1<|by decide⟩,by omega⟩
   .rw[show lw x.q.2.1 1=[] from N] at W;have:=D I W;exact⟨u,_,⟨V.perm<|same 0<|by decide,Nu.perm (.look (T,4,kI true,0) I rfl Z (v:=w+2*(c.n*(c.E+c.S-(mP true x).2.1))) (by show _<=_+2*(c.n*(c.E+c.S-x.2.1.2.1));omega)) one⟩,by omega⟩
  have⟨F,G,P,hs⟩:=P;refine⟨⟨h.q.made,l1,l2⟩,h.UX,h.em,h.es,h.en,h.now,h.ee,λe k=>?_,λe k A=>?_,λe k A=>?_,λe k A=>?_,h.ch,h.sn,h.hb,h.sy,h.nd,λq=>absurd q<|bJ _,v,F,G,v1,λi J O=>(X i J O).perm<|S i _,P,?_⟩
  .rcases f e k with rfl|k
   .exact⟨hT,bu H h.ee⟩
   .exact h.hw e k
  .rcases f e k with rfl|k
   .exact absurd A (by show ¬(4:Int)=3;decide)
   .exact h.h3 e k A
  .rcases f e k with rfl|k
   .exact kq
   .exact h.h4 e k A
  .rcases f e k with rfl|k
   .exact absurd rfl<|nk4 A
   .exact h.hi e k A
  .show c.q*vM v x.n.length+(F+G)+c.M*((wt c j+t:Nat):Int)<=_;rw[Y,show((1+wt c x.q.2.1+t:Nat):Int)=1+((wt c x.q.2.1+t:Nat):Int) by omega,fC,show((B+dB:Nat):Int)=(B:Int)+(dB:Int) by omega,fC];omega
 .subst g1;refine Inv.wB E (B:=B) ?_ (by omega);exact h.core (evs:=[]) ⟨h.q.made,l1,l2⟩ rfl rfl rfl rfl rfl H rfl h.ch h.sn ⟨rfl,rfl⟩ (.refl _) nofun (λi J=>ai _) h.nd (λq=>absurd q<|bJ _) λv v1 X=>⟨v,λq=>absurd q<|bJ _,λi J ne=>(X i J ne).mono hc (ai _) H<|ai _,by show _+c.M*0<=_;omega⟩
def ZL{m:au}(h:df m=true):k_ (m,Ql m)=true:=by
 have hm:=uB h;exact wh.2 ⟨⟨ai _,by show 0<m.1;omega⟩,⟨by show 0<=m.2.1;omega,by show m.2.1<=_;omega⟩,nofun⟩
def ZK{m:au}(h:df m=true):k_ (m,(false,0,0))=true:=by
 have hm:=uB h;exact wh.2 ⟨⟨ai _,by show 0<m.1;omega⟩,⟨ai _,by show(0:Int)<=_;decide⟩,λ_=>rfl⟩
variable{p:Ci}
def Z4{m:au}{s:gK}{k:Nat}(E:Env c m s)(I:p.b4=m)(h:NwI c m s B k<|Ey m x)(N:2*(c.n*(c.E+c.S-c.S))+c.M<=c.M*(dB:Int)):
  Go (Eu af) (.ao (af.k qk<|qA p x)<|.ao (af.cm (af.l x.n) 0)<|.ao (af.k qk (Dq (af.k lL<|qA p x).1 (true,p.b4.2.1,(0:Int)),1))<|.ao (af.cm (af.l (af.k lL<|qA p x).1.n) 0)<|.ret (true,(af.k lL (Dq (af.k lL<|qA p x).1 (true,p.b4.2.1,(0:Int)),1)).1,0)) λr=>r.1=true/\r.2.2=0/\Inv c m s (B+dB+dB) 0 0 0 r.2.1.n.length 0 r.2.1:=by
 have hm:=uB E.ml;have J:=E.S;have hE:=E.E;have hn:x.n.length≠0:=by have:(x.n.length:Int)=m.1:=h.inv.en;omega
 have H:x.m=m:=h.inv.em;have A:∀y:Net,m.2.1<qH y (Tk m m.2.1)/\y.q.2.2<=qH y (Tk m m.2.1):=λy=>by unfold qH Tk;split<;>omega
 have V:qA p x=(VU x<|Ql m,kI false):=by unfold qA;rw[I];rfl
 have O:∀(G:Int) (l:List gw),(∀e∈l,e.2.1=5\/e.2.2.1≠G)->lw l G=[]:=λG l k=>Tp λe f a b=>by rcases k e f with q|q<;>omega
 rw[V,I];have⟨p1,p2⟩:=look_ok (q:=false) (y:=VU x<|Ql m) ⟨h.inv.q.made,h.inv.q.len,h.inv.q.heap⟩ (by show df x.m=true;rw[H];exact E.ml) hn ⟨by show 0<=m.2.1;omega,by show m.2.1<=_;omega⟩;have p2:=p2.resolve_left λk=>by cases k.1
 have p2:qK (VU x<|Ql m) (qH x<|Tk x.m m.2.1,4,kI false,0) (lL (VU x<|Ql m,kI false)).1:=p2.2;rw[H] at p2;have v:=h.inv.look E (q:=false) (x:=Ey m x) (dB:=dB) rfl ⟨by show 0<=m.2.1;omega,(A _).1⟩ (by show m.2.1<=_;omega) (O _ _ λe f=>.inl<|h.nl e f) (A _).2 (by show 2*(c.n*(c.E+c.S-m.2.1))+_<=_;rw[<-J];exact N)<|p2.Ey (m:=m);generalize Y:(lL (VU x<|Ql m,kI false)).1=y at p2 v;have W:af.k lL (VU x<|Ql m,kI false)=(y,()):=Prod.ext Y rfl;have ny:y.n.length=x.n.length:=p2.kp.len;have P:y.m=m:=v.em;have⟨q1,j⟩:=look_ok (q:=true) (y:=Dq y<|Ql m) ⟨v.q.made,v.q.len,v.q.heap⟩ (by show df y.m=true;rw[P];exact E.ml) (by show y.n.length≠0;omega) ⟨by show 0<=m.2.1;omega,by show m.2.1<=_;omega⟩;have j:=j.resolve_left λk=>by cases k.1
 have j:qK (Dq y<|Ql m) (qH y<|Tk y.m m.2.1,4,kI true,0) (lL (Dq y<|Ql m,kI true)).1:=j.2;rw[P] at j;have F:=v.look E (q:=true) (x:=Ey m y) (dB:=dB) rfl ⟨by show 0<=m.2.1;omega,(A _).1⟩ (by show m.2.1<=_;omega) (O _ _ λe f=>by
  obtain⟨S,D,C,_,_,⟨_,_,g⟩|⟨g,_⟩⟩:=p2
  .have f:e∈D:=by rw[C] at f;exact f
   rcases aC.1 (g.mem_iff.1 f) with rfl|f
   .exact .inr (by show(0:Int)≠1;decide)
   .exact .inl<|h.nl e f
  .have f:e∈D:=by rw[C] at f;exact f
   rw[g] at f;exact .inl<|h.nl e f) (A _).2 (by show 2*(c.n*(c.E+c.S-m.2.1))+_<=_;rw[<-J];exact N)<|j.Ey (m:=m)
 generalize Z:(lL (Dq y<|Ql m,kI true)).1=z at j F;rw[W];have X:af.k lL (Dq y (true,m.2.1,(0:Int)),1)=(z,()):=Prod.ext Z rfl;refine aj p1<|aj (qi hn)<|aj q1<|aj (qi (by show y.n.length≠0;omega)) ?_;dsimp only;rw[X];refine ay ⟨rfl,rfl,?_⟩;have zs:Ey m z=z:=by
  have⟨S,D,C,_⟩:=p2;have⟨e2,h2,k2,_⟩:=j;rw[k2,C];rfl
 rw[zs] at F;exact F
def alF{m:au}{s:gK}{l:List Bool}(E:Env c m s)(X:p.b0=tY l 0 0)(Y:p.b1=l)(H:p.b2=(l.length:Int))(I:p.b4=m)(G:(l.length:Int)=m.1)(ho:(s.2.2.1.length:Int)=m.1)(J:∀v∈s.2.2.1,0<=v/\v<=1048576)
  (T:∀x,NwI c m s B l.length (Ey m x)->Go (Eu af) (.ao (af.k qk<|qA p x)<|.ao (af.cm (af.l x.n) 0)<|.ao (af.k qk (Dq (af.k lL<|qA p x).1 (true,p.b4.2.1,(0:Int)),1))<|.ao (af.cm (af.l (af.k lL<|qA p x).1.n) 0)<|.ret (true,(af.k lL (Dq (af.k lL<|qA p x).1 (true,p.b4.2.1,(0:Int)),1)).1,0)) P):∀(f k:Nat) (x:Net),l.length-k<=f->k<=l.length->NwI c m s B k (Ey m x)->Go (Eu af) (Eu af<|.c1 p k x) P:=by
 have hm:=uB E.ml;have O:=aa0 (l:=l) (by omega);intro f
 induction f with
 | zero=>
   intro k x hf hk h;refine bH (λg=>absurd g (by rw[H];omega)) λ_=>T x ?_;rw[show l.length=k by omega];exact h
 | succ f ih=>
   intro k x hf hk h;refine bH (λg=>?_) λg=>T x (by rw[show l.length=k by rw[H] at g;omega];exact h);have A:k<l.length:=by rw[H] at g;omega
   have en:(x.n.length:Int)=m.1:=h.inv.en;have F:∀j,k<=j->j<x.n.length->aD x j=ini m j:=h.st;have D:k<x.n.length->AU m k 0 (aD x k):=h.inv.nd k;have y:k<x.n.length:=by omega
   have nx:af.bT k 1=((k+1:Nat):Int):=by rw[dw<|by omega];omega
   have eb:(af.n .bool p.b1 (k:Int):Bool)=l[k]:=by rw[Y];exact fF A _
   have W:(af.n bo x.n (k:Int):cB)=aD x k:=iV;have e0:RG af p k x=bw x.n k (gG (Fp m (aD x k).1<|tY l 0 0).1):=by
    unfold RG;rw[W,I,X];exact uI
   have C:(af.n yI x.s.2.2.1 (k:Int):Int)=s.2.2.1.getD k 0:=by
    rw[show x.s=s from h.inv.es];show(s.2.2.1).getD (k:Int).toNat _=_;rw[y7];rfl
   have N:0<=s.2.2.1.getD k 0/\s.2.2.1.getD k 0<=1048576:=by
    rw[GB,Jv<|by omega];exact J _<|dQ _
   have e1:AF af p k x=bw x.n k (upY (Fp m (aD x k).1<|tY l 0 0).1<|m.2.1+s.2.2.1.getD k 0):=by
    unfold AF;rw[e0,C,I,dw<|by omega];exact jk.trans<|(mod_mod y).trans rfl
   have hq:wU<|cJ x<|bw x.n k<|upY (Fp m (aD x k).1<|tY l 0 0).1<|m.2.1+s.2.2.1.getD k 0:=⟨h.inv.q.made,h.inv.q.len,h.inv.q.heap⟩;have sk:aD (cJ x<|bw x.n k<|upY (Fp m (aD x k).1<|tY l 0 0).1<|m.2.1+s.2.2.1.getD k 0) k=upY (Fp m (aD x k).1<|tY l 0 0).1 (m.2.1+s.2.2.1.getD k 0) (aD x k):=fP y;have⟨q1,Z⟩:=CY (t:=m.2.1+s.2.2.1.getD k 0) (k:=5) (i:=k) hq (by show k<(bw _ _ _).length;rw[bO];exact y) (by decide);rw[sk,show(upY (Fp m (aD x k).1<|tY l 0 0).1 (m.2.1+s.2.2.1.getD k 0)<|aD x k).2.2.2.2.1=(aD x k).2.2.2.2.1 from rfl,show(aD x k).2.2.2.2.1=0 by rw[F k (ah _) y];rfl] at Z;rw[eb,nx,e1,W,I,X,show(af.n bo (bw x.n k<|upY (Fp m (aD x k).1<|tY l 0 0).1<|m.2.1+s.2.2.1.getD k 0) (k:Int):cB).2.1.1=m.2.1+s.2.2.1.getD k 0 by rw[BH y];rfl];have hu:=aif (D y).zk (by rw[F k (ah _) y];exact(wm E.ml<|by omega).2.2) (S:=tY l 0 0) (by rw[<-G];exact O.1);refine aj (by rw[Y];exact cr (l:=l)<|by omega)<|dG (λ_=>aP<|ih (k+1) x (by omega) (by omega) ⟨h.inv,h.w,λe he=>by have:=h.ev e he;omega,λj hj G=>h.st j (by omega) G,h.nl⟩) λb=>aj (cr (l:=x.n)<|by omega) ?_;have V:qC (tY l 0 0) (k:Int)=true:=O.2 k A (by rw[GB,Jv A];exact b);have u0:=(hu (by rw[(D y).id];exact V)).1;refine dD (λq=>absurd u0 q) λ_=>aj ?_<|aj q1<|aj (qg y)<|aP<|ih (k+1) _ (by omega) (by omega) ?_
   .show af.and (af.bQ 0 k) (af.bq k<|af.l x.s.2.2.1)=true;rw[show x.s=s from h.inv.es];exact cr (l:=s.2.2.1) (by omega)
   .exact h.up E y (by rw[<-G];exact O.1) V N<|Z.Ey (m:=m)
def aav{m:au}(h:df m=true):0<=(ox m).1/\(ox m).1<=1048576:=by
 have hm:=uB h;have f:=sZ.trans<|oZ.2 h;have j:0<=m.1*m.2.2.2.2.1:=cO (by omega) (by omega);have p:m.1*m.2.2.2.2.1<=8*m.2.2.2.2.1:=cY (by omega) (by omega);refine K0 (t:=RA af m) (P:=λr=>0<=r.1/\r.1<=1048576) ?_ (LT.kG<|by kernel_rfl)<|LT.nG (by kernel_rfl);refine dD (λg=>absurd f g) λ_=>ay ?_;show 0<=af.bT (af.b .mul .i64 (af.b .mul .i64 14 m.1) m.2.2.2.2.1) 8/\af.bT (af.b .mul .i64 (af.b .mul .i64 14 m.1) m.2.2.2.2.1) 8<=1048576;rw[Jw (x:=14) (by omega)<|by omega,Jw (x:=14*m.1) (by rw[Int.mul_assoc];omega) (by rw[Int.mul_assoc];omega),Int.mul_assoc,dw<|by omega];omega
def alC{m:au}{s:gK}(h:df m=true)(F:rR (m,s)=true):Mf (m,s)=true/\(qa (m,s)).1=true/\(qa (m,s)).2.2=0/\Inv (KC m (Jf m<|dp m s) 1) m (dp m s) 19999 0 0 0 (qa (m,s)).2.1.n.length 0 (qa (m,s)).2.1:=by
 have hm:=uB h;have⟨O,S⟩:=Yd h F;have G:1<=(dp m s).1/\(dp m s).1<=16:=by
  show 1<=af.mn (af.mx s.1 1) 16/\af.mn (af.mx s.1 1) 16<=16;rw[n_,wN];split<;>split<;>omega
 have f:=(Yb (s:=dp m s) h G).2;have E:=PV (E:=Jf m<|dp m s) (s:=s) (q:=1) h ⟨f.1,by omega⟩<|.inl rfl;have C:=(E.ok.sum (N:=m.1.toNat) (by show((m.1.toNat:Nat):Int)=m.1;omega) f.1).1 f.2.1;have hb:=(E.ok.hbs f.1).1 f.2.1;have I:=Sm (B:=19339) (q:=1) (s:=dp m s) (r:=(dp m s).1) (hb:=Ql m) h f.1 (ZL h) (λ_=>rfl) (.aU rfl rfl<|ai _) (by
  have C:vM (λi=>(KC m (Jf m<|dp m s) 1).VL i 0+(KC m (Jf m<|dp m s) 1).tT (Jf m<|dp m s) m.2.1) m.1.toNat<=_:=C;show 1*_+_<=_*19339;omega)
 refine gm (s:=Eu af) (t:=VK af m s) (d:=(false,Ty.gH kX,Ty.aO [yI])) (P:=λr=>r.1=true/\r.2.2=0/\Inv (KC m (Jf m<|dp m s) 1) m (dp m s) 19999 0 0 0 r.2.1.n.length 0 r.2.1) ?_;have D:af.k mC (m,s)=(true,Jx (false,0,0) m (dp m s) (dp m s).1 (Jf m<|dp m s)<|qF m m.1.toNat,0):=S;unfold VK;rw[D];have V:(dp m s).2.1.length=m.1.toNat:=agO;refine aj O<|dO (λ_=>dD (λg=>absurd rfl g) λ_=>aP ?_) nofun;have nw:NwI (KC m (Jf m<|dp m s) 1) m (dp m s) 19339 0<|Jx (Ql m) m (dp m s) (dp m s).1 (Jf m<|dp m s)<|qF m m.1.toNat:=by
  refine⟨?_,rfl,ru,λj _ y=>BY (by have y:j<(qF m m.1.toNat).length:=y;rwa [vB] at y),ru⟩;show Inv _ _ _ _ _ _ _ (qF m m.1.toNat).length _ _;rw[vB];exact I
 refine alE (l:=(dp m s).2.1) rfl rfl (by omega) (λz J=>aP ?_) _ 0 0 (ah _) (aQ _) (by rw[ik]);refine alF (p:=⟨z,(dp m s).2.1,af.l (dp m s).2.1,m⟩) (l:=(dp m s).2.1) E J rfl rfl rfl (by omega) ?_ ?_ (λx nw=>Z4 (dB:=330) E rfl nw (by show _<=_*330;exact hb)) _ 0 (Jx (false,0,0) m (dp m s) (dp m s).1 (Jf m<|dp m s)<|qF m m.1.toNat) (ah _) (aQ _) nw
 .show((rowP s.c m.1.toNat 0 (ox m).1 0).length:Int)=m.1;rw[BQ];omega
 .have A:=aav h;exact λv H=>by
   have:=TM (l:=s.c) (n:=m.1.toNat) (lo:=0) (hi:=(ox m).1) (ms:=0) A.1 ⟨ai _,A.1⟩ v H;omega
def alB{m:au}{s:gK}(h:df m=false)(p:rR (m,s)=true):Mf (m,s)=true/\(qa (m,s)).1=false/\(qa (m,s)).2.2=70:=by
 have⟨v,j,f⟩:=Yc h p;refine gm (s:=Eu af) (t:=VK af m s) (d:=(false,Ty.gH kX,Ty.aO [yI])) (P:=λr=>r.1=false/\r.2.2=70) ?_;have j:(af.k mC (m,s)).1=false:=j;have f:(af.k mC (m,s)).2.2=70:=f;refine aj v<|dO (λk=>absurd (j.symm.trans k)<|by decide) λ_=>dD (λ_=>ay ⟨rfl,f⟩) λg=>absurd (f.symm.trans g) (by decide)
def TB(h:x.2.2.2.2.2.2.1=true)(g:x.q.1=true):Mg (x,())=true/\qb (x,())=(x,decide<|(x.q.2.1).length=0):=by
 have⟨j,p⟩:=ae5 g;refine jA (s:=Empty.elim) (t:=ab8 af x) (d:=(Ty.aO [kX],Ty.aO [.bool])) (P:=λr=>r=(x,decide<|(x.q.2.1).length=0)) ?_ λr e=>by rw[e]
 have f:af.k Oa (x.q,())=(x.q,((x.q.2.1).length:Int)):=p;unfold ab8;rw[f];refine dG (λk=>absurd (h.symm.trans k)<|by decide) λ_=>aj j<|ay ?_;show(x,af.bG ((x.q.2.1).length:Int) 0)=_;rw[bf];congr 1;exact decide_eq_decide.2 (by omega)
def Z7{m:au}(h:x.2.2.2.2.2.2.1=true)(D:x.n.length<=1000)(hn:∀i,i<x.n.length->dn m (aD x i).1=0):QO (x,())=true/\N_ (x,())=(x,x.n.map Prod.fst):=by
 refine jA (s:=Vr af) (t:=agn af x) (d:=(Ty.aO [kX],Ty.aO [.slice fE])) (P:=λr=>r=(x,x.n.map Prod.fst)) ?_ λr e=>by rw[e]
 have cl:∀i,i<x.n.length->af.k ya (af.n bo x.n (i:Int):cB).1=true:=λi y=>by rw[iV];exact LV<|hn i y
 have id:∀n:Node,af.k xL n=n:=λ_=>rfl;have C:∀(f k:Nat),x.n.length-k<=f->k<=x.n.length->Go (Vr af) (Vr af<|.c1 ⟨af.l x.n,x⟩ k<|(x.n.take k).map Prod.fst) λr=>r=(x,x.n.map Prod.fst):=by
  intro f
  induction f with
  | zero=>
    intro k v A;refine bH (λg=>absurd g (by show ¬(k:Int)<(x.n.length:Int);omega)) λ_=>ay ?_;rw[show k=x.n.length by omega,jv]
  | succ f ih=>
    intro k v A;refine bH (λg=>?_) λg=>ay ?_
    .have g:(k:Int)<(x.n.length:Int):=g;have j:k<x.n.length:=by omega
     have e:af.p ((x.n.take k).map Prod.fst) [(af.n bo x.n (k:Int):cB).1]=(x.n.take<|k+1).map Prod.fst:=by
      rw[show(af.n bo x.n (k:Int):cB)=x.n[k] from fF j _,bK j,fN];rfl
     have p:=ih (k+1) (by omega) (by omega);rw[<-e,show((k+1:Nat):Int)=af.bT k 1 from by rw[dw<|by omega];omega] at p;exact aj (cr (l:=x.n)<|by omega)<|aj (cl k j)<|aj (mB (by rw[cy,c_];omega))<|aP p
    .have g:(x.n.length:Int)<=(k:Int):=g;rw[show k=x.n.length by omega,jv]
 refine dO (λ_=>aP<|bH (λg=>?_) λg=>ay ?_) λk=>absurd (h.symm.trans k) (by decide)
 .have g:(0:Int)<(x.n.length:Int):=g;have e:([(af.n bo x.n ((0:Nat):Int):cB).1]:List Node)=(x.n.take 1).map Prod.fst:=by
   rw[show(af.n bo x.n ((0:Nat):Int):cB)=x.n[0] from fF (i:=0) (show 0<x.n.length by omega) _,bK<|show 0<x.n.length by omega];rfl
  have:=C _ 1 (ah _) (by omega);rw[<-e] at this;exact aj (cr (l:=x.n) (i:=0)<|by omega)<|aj (cl 0<|by omega)<|aj (tu (by show(1:Int)<=_;omega))<|aP this
 .have g:(x.n.length:Int)<=0:=g;have e:x.n.map Prod.fst=[]:=by rw[cu.1<|show x.n.length=0 by omega];rfl
  rw[e]
def aa7{m:au}(h:x.2.2.2.2.2.2.1=true)(F:x.z.length<=900000)(hn:∀z∈x.z,dn m z.2=0):Mh (x,())=true/\(Kj (x,())).2.length<=900000:=by
 suffices y:Mh (x,())=true/\(Kj (x,())).1=x/\(Kj (x,())).2.length<=900000 from⟨y.1,y.2.2⟩
 refine jA (s:=Vs af) (t:=ago af x) (d:=(Ty.aO [kX],Ty.aO [.slice eB])) (P:=λr=>r.1=x/\r.2.length<=900000) ?_ λr e=>by rw[e.1]
 have cl:∀i,i<x.z.length->af.k ya (af.n eB x.z (i:Int):fB).2=true:=λi v=>by
  rw[show(af.n eB x.z (i:Int):fB)=x.z[i] from fF v _];exact LV<|hn _<|dQ v
 have sl:∀l:List fB,l.length<=900000->(af.k YP (l,())).1.length<=900000:=λl k=>aV (iC o4) k;have j:∀l:List fB,l.length<=900001->af.k CS (l,())=true:=λl k=>bX (by omega);have D:∀(f k:Nat) (l:List fB),x.z.length-k<=f->k<=x.z.length->l.length=k->Go (Vs af) (Vs af<|.c1 ⟨af.l x.z,x⟩ k l) λr=>r.1=x/\r.2.length<=900000:=by
  intro f
  induction f with
  | zero=>
    intro k l A C p;exact bH (λg=>absurd g (by show ¬(k:Int)<(x.z.length:Int);omega)) λ_=>aj (j l<|by omega)<|ay ⟨rfl,sl l<|by omega⟩
  | succ f ih=>
    intro k l A C p;refine bH (λg=>?_) λg=>aj (j l<|by omega)<|ay ⟨rfl,sl l<|by omega⟩;have g:(k:Int)<(x.z.length:Int):=g;rw[dw<|by omega,show(k:Int)+1=((k+1:Nat):Int) from by omega];refine aj (cr (l:=x.z)<|by omega)<|aj (cl k<|by omega)<|aj (mB<|by omega)<|aP<|ih (k+1) _ (by omega) (by omega) ?_;show(l ++ [_]).length=_;rw[uy,bP,p]
 refine dO (λ_=>aP<|bH (λg=>?_) λg=>aj (j _ (by show(0:Nat)<=_;omega))<|ay ⟨rfl,aQ _⟩) λk=>absurd (h.symm.trans k) (by decide);have g:(0:Int)<(x.z.length:Int):=g;exact aj (cr (l:=x.z) (i:=0)<|by omega)<|aj (cl 0<|by omega)<|aj (tu (by show(1:Int)<=_;omega))<|aP<|D _ 1 _ (ah _) (by omega) rfl
def run_go{m:au}{s:gK}(E:Env c m s)(C:B<=170000):∀(f t:Nat) (x:Net),B-t<=f->Inv c m s B t (4*t) (16*(t:Int)) x.n.length 0 x->Go (H7 af) (H7 af<|.c0 x) λr=>r.2=0/\r.1.length<=900000:=by
 have v:∀(t:Nat) (x:Net),Inv c m s B t (4*t) (16*(t:Int)) x.n.length 0 x->((x.q.2.1).length≠0->Inv c m s B (t+1) (4*(t+1)) (16*((t+1:Nat):Int)) (ta (x,())).1.n.length 0 (ta (x,())).1->Go (H7 af) (H7 af<|.c0 (ta (x,())).1) λr=>r.2=0/\r.1.length<=900000)->Go (H7 af) (H7 af<|.c0 x) λr=>r.2=0/\r.1.length<=900000:=λt x h K=>by
  have tb:=h.tb E;have⟨A,j⟩:=TB h.UX h.q.made;have j:af.k qb (x,())=(x,decide<|(x.q.2.1).length=0):=j;have en:=h.en;have hm:=uB E.ml;have g:af.cm (af.l x.n) 0=true:=CK (by omega);have p:=aa7 h.UX (by have:=h.sn.1;omega) h.sn.2;have⟨p1,p2⟩:=h.step E (by omega) (by omega);refine aj A<|aj g ?_;rw[j];refine dG (λk=>aj p1<|aj g<|aP ?_) λ_=>aj p.1<|aj g<|ay ⟨rfl,p.2⟩;have k:=of_decide_eq_false k;have I:=p2 λe=>k (by rw[e];rfl);exact K k (by rw[show 4*(t+1)=4*t+4 from rfl,show 16*((t+1:Nat):Int)=16*(t:Int)+16 from by omega];exact I)
 intro f
 induction f with
 | zero=>
   intro t x y h;have tb:=h.tb E;exact v t x h λk=>absurd (by omega) k
 | succ f ih=>
   intro t x y h;exact v t x h λ_ I=>ih (t+1) _ (by omega) I
def amf{m:au}{s:gK}(h:df m=true)(v:rR (m,s)=true):Hg (m,s)=true/\(vx (m,s)).2=0/\(vx (m,s)).1.length<=900000:=by
 have hm:=uB h;have⟨A,f,j,C⟩:=alC h v;have y:1<=(dp m s).1/\(dp m s).1<=16:=by
  show 1<=af.mn (af.mx s.1 1) 16/\af.mn (af.mx s.1 1) 16<=16;rw[n_,wN];split<;>split<;>omega
 have p:=(Yb (s:=dp m s) h y).2;have E:=PV (E:=Jf m<|dp m s) (s:=s) (q:=1) h ⟨p.1,by omega⟩<|.inl rfl;refine gm (s:=H7 af) (t:=ab7 af m s) (d:=Ty.aO [.slice eB,yI]) (P:=λr=>r.2=0/\r.1.length<=900000) ?_;have f:(af.k qa (m,s)).1=true:=f;have j:(af.k qa (m,s)).2.2=0:=j;refine aj A<|dO (λ_=>dD (λg=>absurd j g) λ_=>aP ?_) λk=>absurd (f.symm.trans k) (by decide);exact run_go E (B:=19999) (by omega) _ 0 (qa (m,s)).2.1 (ah _) C
def ame{m:au}{s:gK}(h:df m=false)(p:rR (m,s)=true):Hg (m,s)=true/\vx (m,s)=([],70):=by
 have⟨v,j,f⟩:=alB h p;refine gm (s:=H7 af) (t:=ab7 af m s) (d:=Ty.aO [.slice eB,yI]) (P:=λr=>r=([],70)) ?_;have j:(af.k qa (m,s)).1=false:=j;have f:(af.k qa (m,s)).2.2=70:=f;refine aj v<|dO (λk=>absurd (j.symm.trans k)<|by decide) λ_=>dD (λ_=>ay ?_) λg=>absurd (f.symm.trans g) (by decide);show([],(af.k qa (m,s)).2.2)=_;rw[f]
def Inv.pwr{m:au}{s:gK}{t:Nat}{b:Int}{k:Nat}{T:Int}(E:Env c m s)(h:Inv c m s B t K τ x.n.length b x)(G:k<x.n.length)(Z:(aD x k).1.2.1=0)(N:(aD x k).2.2.2.2.2.2.2=false)(H:lv (x.q.2.1) k ((aD x k).2.2.2.2.1)=[])(V:x.q.2.2<=T)(p:qK x (T,6,(k:Int),(aD x k).2.2.2.2.1) y):Inv c m s (B+c.q*3) t K τ y.n.length b y:=by
 have f:=E.ok;have M0:=f.nn (i:=k) (e:=x.e) (t:=x.q.2.2);have nS:=f.nw;have S:(c.n+1)*c.D<=c.M:=by
  have hn:=f.n;have S:=f.D;have W:=f.W;have hG:=f.G;have hS:=f.S;have hL:=f.L;have:c.M=c.n*c.S:=rfl;rw[this];rcases hn with k|k|k|k|k<;>rw[k] at W ⊢ <;> omega
 have e:y.n.length=x.n.length:=p.kp.len;rw[e];obtain⟨e',P,rfl,l1,l2,⟨rfl,j,A⟩|⟨O,j,A⟩⟩:=p
 .have D:∀(i:Nat) (u:Int),¬((k:Int)=(i:Int)/\(aD x k).e=u)->(lv P i u).Perm (lv (x.q.2.1) i u):=λi u q=>by
   have:=mY (i:=i) (t:=u) A
   rwa [Al λa=>q a.2] at this
  refine h.agY (dB:=3) (evs:=[(T,6,(k:Int),(aD x k).e)]) ⟨h.q.made,l1,l2⟩ rfl rfl rfl rfl rfl (ai _) rfl h.ch h.sn ⟨rfl,rfl⟩ A (λz X=>?_) (λi g=>ai _) h.nd (λq=>absurd q<|bJ _) λv v1 C=>⟨RQ v k<|v k+2*c.M,λq=>absurd q<|bJ _,λi g _=>?_,?_⟩
  .rw[aG.1 X];exact⟨⟨V,bu j h.ee⟩,rfl,k,rfl,G,ai _⟩
  .by_cases q:i=k
   .subst q;rw[vg];have J:=C i g (by omega);rw[H] at J;have F:¬(2<=(aD x i).1.2.1/\(aD x i).1.2.1<=4):=by omega
    have I:=mY (i:=i) (t:=(aD x i).e) A;rw[GV rfl rfl rfl,H] at I;refine xc.perm (l:=[(T,6,(i:Int),(aD x i).e)]) (.pow T Z N rfl ?_) I;show c.VL i (x.q.2.2)+c.tT x.e (x.q.2.2+c.S)+(c.M+(c.n+1)*c.D)<=v i+2*c.M;cases J with
    | aU a b d=>exact absurd (gn.1 a) F
    | beg t a e b s u p d=>exact absurd (gn.1 a) F
    | F6 t a e b p d=>exact absurd (gn.1 a) F
    | xk a e s b u d=>omega
    | Iz t a e s b u d=>omega
    | off a b d=>omega
    | pow t a e b d=>cases b
   .rw[pE q];exact(C i g<|by omega).perm (D i _ λr=>q<|by omega)
  .rw[qz G];show _+c.M*1<=_+c.M*3;omega
 .subst O;refine Inv.wB E (B:=B) ?_ (by omega);exact h.core (evs:=[]) ⟨h.q.made,l1,l2⟩ rfl rfl rfl rfl rfl j rfl h.ch h.sn ⟨rfl,rfl⟩ (.refl _) nofun (λi g=>ai _) h.nd (λq=>absurd q<|bJ _) λv v1 C=>⟨v,λq=>absurd q<|bJ _,λi g Y=>(C i g Y).mono f (ai _) j<|ai _,by show _+c.M*0<=_;omega⟩
structure BtI(c:Mc)(m:au)(s:gK)(B k:Nat)(x:Net):Prop where
 inv:Inv c m s (B+c.q*(3*k)) 0 0 0 x.n.length 0 x
 ev:∀e∈x.q.2.1,e.2.2.1<(k:Int)
 st:∀j,k<=j->j<x.n.length->aD x j=ini m j
def aeo{m:au}{s:gK}(E:Env c m s)(D:B<=170000):∀(f t:Nat) (x:Net),B-t<=f->Inv c m s B t (4*t) (16*(t:Int)) x.n.length 0 x->Go (Au af) (Au af<|.c1 x) λr=>r.2=0/\0<r.1.length:=by
 have p:∀(t:Nat) (x:Net),Inv c m s B t (4*t) (16*(t:Int)) x.n.length 0 x->((x.q.2.1).length≠0->Inv c m s B (t+1) (4*(t+1)) (16*((t+1:Nat):Int)) (ta (x,())).1.n.length 0 (ta (x,())).1->Go (Au af) (Au af<|.c1 (ta (x,())).1) λr=>r.2=0/\0<r.1.length)->Go (Au af) (Au af<|.c1 x) λr=>r.2=0/\0<r.1.length:=λt x h K=>by
  have tb:=h.tb E;have⟨C,j⟩:=TB h.UX h.q.made;have j:af.k qb (x,())=(x,decide<|(x.q.2.1).length=0):=j;have en:=h.en;have hm:=uB E.ml;have g:af.cm (af.l x.n) 0=true:=CK (by omega);have⟨n1,A⟩:=Z7 h.UX (by omega) λi y=>(h.nd i y).zk;have⟨p1,p2⟩:=h.step E (by omega) (by omega);refine aj C<|aj g ?_;rw[j];refine dG (λk=>aj p1<|aj g<|aP ?_) λ_=>aj n1<|aj g<|ay ⟨rfl,?_⟩
  .have k:=of_decide_eq_false k;have I:=p2 λe=>k (by rw[e];rfl);exact K k (by rw[show 4*(t+1)=4*t+4 from rfl,show 16*((t+1:Nat):Int)=16*(t:Int)+16 from by omega];exact I)
  .show 0<(N_ (x,())).2.length;rw[A,cy];omega
 intro f
 induction f with
 | zero=>
   intro t x v h;have tb:=h.tb E;exact p t x h λk=>absurd (by omega) k
 | succ f ih=>
   intro t x v h;exact p t x h λ_ I=>ih (t+1) _ (by omega) I
def vF(m:au)(l:List Int):Bool:=l.all λo=>decide<|-1<=o/\o<=m.1*m.2.1
def alH{m:au}{s:gK}{p:WZ}{l:List Int}(E:Env c m s)(hB:B<=169000)(P:p.a0=l)(S:p.a1=(l.length:Int))(V:p.a3=m)(A:(l.length:Int)=m.1):∀(f k:Nat) (x:Net),l.length-k<=f->k<=l.length->BtI c m s B k x->Go (Au af) (Au af (.c0 p (k:Int) x)) λr=>(vF m (l.drop k)=true->r.2=0/\0<r.1.length)/\(vF m (l.drop k)=false->r=([],2)):=by
 have hm:=uB E.ml;have nS:0<=m.1*m.2.1:=cO (by omega) (by omega);have a4:m.1*m.2.1<=8*m.2.1:=cY (by omega) (by omega);have D:∀(k:Nat) (x:Net),¬k<l.length->k<=l.length->BtI c m s B k x->Go (Au af) (Au af (.c0 p (k:Int) x)) λr=>(vF m (l.drop k)=true->r.2=0/\0<r.1.length)/\(vF m (l.drop k)=false->r=([],2)):=λk x F a3 h=>by
  refine bH (λg=>absurd g (by show ¬(k:Int)<p.a1;rw[S];omega)) λ_=>aP ?_;have I:=Inv.wB E h.inv (B':=B+96) (by have:=E.ok.q;have:c.q*(3*k)<=4*(3*8):=Nat.mul_le_mul (by omega) (by omega);omega);refine(aeo E (by omega) _ 0 x (ah _) I).mono λr q=>⟨λ_=>q,λe=>?_⟩;rw[kg (by omega)] at e;cases e
 intro f
 induction f with
 | zero=>intro k x Z F h;exact D k x (by omega) F h
 | succ f ih=>
   intro k x Z F h;by_cases y:k<l.length
   .have en:=h.inv.en;have C:k<x.n.length:=by omega
    have nx:af.bT (k:Int) 1=((k+1:Nat):Int):=by rw[dw (by omega)];omega
    have Y:(af.n yI p.a0 (k:Int):Int)=l[k]:=by rw[P];exact fF y _
    have W:=AX y;have X:af.b .mul .i64 p.a3.1 p.a3.2.1=m.1*m.2.1:=by rw[V];exact Jw (by omega) (by omega)
    refine bH (λ_=>aj (by rw[P];exact cr (l:=l) (by omega)) ?_) λg=>absurd g (by rw[S];omega);rw[Y,X,nx,V,W];have bU:¬(-1<=l[k]/\l[k]<=m.1*m.2.1)->(vF m (l[k]::l.drop (k+1))=true->(([]:List Node),(2:Int)).2=0/\0<(([]:List Node),(2:Int)).1.length)/\(vF m (l[k]::l.drop (k+1))=false->(([]:List Node),(2:Int))=([],2)):=λq=>by
     refine⟨λe=>?_,λ_=>rfl⟩;unfold vF at e;rw[fT,fQ q] at e;cases e
    refine bH (λg=>ay (bU (by omega))) λN=>lM (λg=>ay (bU (by omega))) λO=>?_;have same:vF m (l[k]::l.drop (k+1))=vF m (l.drop (k+1)):=by
     unfold vF;rw[fT,bX (by omega)];rfl
    rw[same];refine xS (λH=>?_) λ_=>aP (ih (k+1) x (by omega) (by omega) ⟨Inv.wB E h.inv (fO (Nat.mul_le_mul_left _ (by omega)) _),λe v=>by have:=h.ev e v;omega,λj hj A=>h.st j (by omega) A⟩);rw[dw (by omega)];have z0:(aD x k).2.2.2.2.1=0:=by rw[h.st k (ah _) C];rfl
    obtain⟨q1,G⟩:=CY (t:=m.2.1+l[k]) (k:=6) (i:=k) h.inv.q C (by decide);refine aj q1 (aj (mg C) (aP (ih (k+1) _ (by omega) (by omega) ⟨?_,λe v=>?_,λj hj A=>?_⟩)))
    .rw[show 3*(k+1)=3*k+3 from rfl,Nat.mul_add,<-Nat.add_assoc];refine h.inv.pwr E C ?_ ?_ (KB λe v a b _=>by have:=h.ev e v;omega) (by unfold qH;split<;>omega) G
     .rw[h.st k (ah _) C];exact(wm E.ml (by omega)).2.2
     .rw[h.st k (ah _) C];rfl
    .obtain⟨e',h',J,l1,l3,⟨rfl,O,H⟩|⟨N,O,H⟩⟩:=G
     .have v:e∈(uo (x,m.2.1+l[k],6,(k:Int))).1.q.2.1:=v;rw[J] at v;rcases aC.1 (H.mem_iff.1 v) with rfl|v
      .show(k:Int)<((k+1:Nat):Int);omega
      .have:=h.ev e v;omega
     .have v:e∈(uo (x,m.2.1+l[k],6,(k:Int))).1.q.2.1:=v;rw[J] at v;subst N;have:=h.ev e v;omega
    .have A:j<(uo (x,m.2.1+l[k],6,(k:Int))).1.n.length:=A;rw[show aD (af.k uo (x,m.2.1+l[k],6,(k:Int))).1 j=aD x j from qK.aD G j];exact h.st j (by omega) (by rw[<-G.kp.len];exact A)
   .exact D k x y F h
def aen:Me ()=true:=by kernel_rfl
def aem:Gi ()=true:=by kernel_rfl
def Jc(s:gK):gK:=(s.1,[],[],s.2.2.2.1,s.2.2.2.2.1,s.2.2.2.2.2.1,[],[])
def XN{m:au}(h:df m=true):DU m=(40*m.1,0):=by
 have hm:=uB h;have f:=sZ.trans<|oZ.2 h;refine K0 (t:=anH af m) (P:=λr=>r=(40*m.1,0)) ?_ (LT.kG<|by rfl)<|LT.nG (by rfl);refine dD (λg=>absurd f g) λ_=>ay ?_;rw[Jw (by omega)<|by omega]
variable{ons:List Int}
def aeq{m:au}{s:gK}(h:df m=true)(H:rR (m,Jc s)=true):Hl (m,s,ons)=true/\(((ons.length:Int)≠m.1\/vF m ons=false)/\qc (m,s,ons)=([],2)\/((ons.length:Int)=m.1/\vF m ons=true)/\(qc (m,s,ons)).2=0/\0<(qc (m,s,ons)).1.length):=by
 have hm:=uB h;have⟨J,O⟩:=Yd h H;refine gm (s:=Au af) (t:=VM af m s ons) (d:=Ty.aO [.slice fE,yI]) (P:=λr=>((ons.length:Int)≠m.1\/vF m ons=false)/\r=([],2)\/((ons.length:Int)=m.1/\vF m ons=true)/\r.2=0/\0<r.1.length) ?_;have G:af.k mC (tH m s)=(true,Jx (false,0,0) m (dp m<|Jc s) (dp m<|Jc s).1 (Jf m<|dp m<|Jc s)<|qF m m.1.toNat,0):=O;have F:af.k DU m=(40*m.1,0):=XN h;have S:m.2.1*(40*m.1+1)<=16777216*(40*m.1+1):=cY (by omega) (by omega);have f:0<=m.2.1*(40*m.1+1):=cO (by omega) (by omega);have E:=PV (E:=m.2.1*(40*m.1+1)) (s:=Jc s) (q:=4) h ⟨f,by omega⟩<|.inr rfl;have A:=(E.ok.sum (N:=m.1.toNat) (by show((m.1.toNat:Nat):Int)=m.1;omega) f).2<|ai _;have hb:=(E.ok.hbs f).2<|ai _;have V:=(E.ok.nn (i:=0) (e:=0) (t:=0)).1;have I:=Sm (B:=161400) (q:=4) (s:=dp m<|Jc s) (r:=1048576) (hb:=(false,0,0)) h f (ZK h) (λa=>absurd a<|by decide) (.uns rfl rfl<|ai _) (by
  have A:vM (λi=>(KC m (m.2.1*(40*m.1+1)) 4).VL i 0+(KC m (m.2.1*(40*m.1+1)) 4).tT (m.2.1*(40*m.1+1)) m.2.1) m.1.toNat<=_:=A;show 4*_+_<=_*161400;omega)
 unfold VM;rw[G,F];refine aj J<|dO (λ_=>dD (λg=>absurd rfl g) λ_=>dD (λg=>ay<|.inl ⟨.inl g,rfl⟩) λv=>dD (λg=>absurd rfl g) λ_=>aP ?_) nofun;have v:(ons.length:Int)=m.1:=v;have C:BtI (KC m (m.2.1*(40*m.1+1)) 4) m (dp m<|Jc s) 161400 0<|Jx (false,0,0) m (dp m<|Jc s) 1048576 (m.2.1*(40*m.1+1))<|qF m m.1.toNat:=by
  refine⟨?_,ru,λj _ y=>BY (by have y:j<(qF m m.1.toNat).length:=y;rwa [vB] at y)⟩;show Inv _ _ _ _ _ _ _ (qF m m.1.toNat).length _ _;rw[vB];exact I
 have D:af.b .mul .i64 m.2.1 (af.bT (40*m.1) 1)=m.2.1*(40*m.1+1):=by rw[dw<|by omega,Jw (by omega)<|by omega]
 rw[D];refine(alH E (by omega) (p:=⟨ons,(ons.length:Int),m⟩) (l:=ons) rfl rfl rfl v _ 0 _ (ah _) (aQ _) C).mono λr q=>?_;rw[ik] at q;cases k:vF m ons
 .exact .inl ⟨.inr rfl,q.2 k⟩
 .exact .inr ⟨⟨v,rfl⟩,q.1 k⟩
def aep{m:au}{s:gK}(h:df m=false)(p:rR (m,Jc s)=true):Hl (m,s,ons)=true/\qc (m,s,ons)=([],70):=by
 have⟨v,j,f⟩:=Yc h p;refine gm (s:=Au af) (t:=VM af m s ons) (d:=Ty.aO [.slice fE,yI]) (P:=λr=>r=([],70)) ?_;have j:(af.k mC<|tH m s).1=false:=j;have f:(af.k mC<|tH m s).2.2=70:=f;refine aj v<|dO (λk=>absurd (j.symm.trans k)<|by decide) λ_=>dD (λ_=>ay ?_) λg=>absurd (f.symm.trans g) (by decide);show([],(af.k mC<|tH m s).2.2)=_;rw[f]
def LY{m:au}{s:gK}{l:List Int}(h:df m=true->(l.length:Int)=m.1\/True)(O:Hl (m,s,l)=true)(D:(qc (m,s,l)).2=0↔0<(qc (m,s,l)).1.length)(C:0<=m.1*m.2.1/\m.1*m.2.1<=4611686018427387904\/¬df m=true):∀(f k:Nat) (w:Int),l.length-k<=f->k<=l.length->l.length<=1000->(w=0->df m=true)->(qc (m,s,l)).2=(if w=0 then(bif vF m (l.drop k) then 0 else 2) else w)->Go (H6 af) (H6 af<|.c0 ⟨l,l,(l.length:Int),m,s⟩ w k) λr=>r=true:=by
 have p:∀(k:Nat) (w:Int),¬k<l.length->k<=l.length->(qc (m,s,l)).2=(if w=0 then(bif vF m (l.drop k) then 0 else 2) else w)->Go (H6 af) (H6 af<|.c0 ⟨l,l,(l.length:Int),m,s⟩ w k) λr=>r=true:=λk w y N e=>by
  rw[kg<|by omega] at e;have e:(qc (m,s,l)).2=w:=by
   rw[e];split
   .rename_i q;rw[q];rfl
   .rfl
  refine bH (λg=>absurd g (by show ¬(k:Int)<(l.length:Int);omega)) λ_=>aj O<|dJ (λ_=>ay ?_) λg=>absurd e g;show af.q (af.bG (qc (m,s,l)).2 0) (af.jr ((qc (m,s,l)).1.length:Int) 0)=true;rw[Ub,dq,gD];by_cases q:(qc (m,s,l)).2=0
  .rw[bX q,bX (by have:=D.1 q;omega)];rfl
  .rw[fQ q,fQ<|λk=>q<|D.2<|by omega];rfl
 intro f
 induction f with
 | zero=>intro k w J y v A e;exact p k w (by omega) y e
 | succ f ih=>
   intro k w J y v A e;by_cases j:k<l.length
   .have G:(af.n yI l (k:Int):Int)=l[k]:=fF j _;have P:af.bT k 1=((k+1:Nat):Int):=by rw[dw<|by omega];omega
    have F:=AX j;show Go (H6 af) (.br (af.bq (k:Int) (l.length:Int)) (.ao (af.and (af.bQ 0 k)<|af.bq k<|af.l l)<|.br (af.bG w 0) (.br (af.bq (af.n yI l (k:Int):Int)<|-1) (.ak<|.c0 ⟨l,l,(l.length:Int),m,s⟩ 2<|af.bT k 1)<|.br (af.jr (af.n yI l (k:Int):Int)<|af.b .mul .i64 m.1 m.2.1) (.ak<|.c0 ⟨l,l,(l.length:Int),m,s⟩ 2<|af.bT k 1)<|.ak<|.c0 ⟨l,l,(l.length:Int),m,s⟩ w<|af.bT k 1)<|.ak<|.c0 ⟨l,l,(l.length:Int),m,s⟩ w<|af.bT k 1) _) _;rw[G,P];refine bH (λ_=>aj (cr (l:=l)<|by omega)<|dJ (λg=>?_) λg=>aP<|ih (k+1) w (by omega) (by omega) v A<|by rw[e,if_neg g,if_neg g]) λg=>absurd g (by omega);have hb:=A g;have C:=C.resolve_right λq=>q hb;rw[if_pos g,F] at e;rw[Jw (by omega)<|by omega];have bU:¬(-1<=l[k]/\l[k]<=m.1*m.2.1)->(qc (m,s,l)).2=(if (2:Int)=0 then(bif vF m (l.drop<|k+1) then 0 else 2) else 2):=λq=>by
     rw[e,if_neg<|by decide];unfold vF;rw[fT,fQ q];rfl
    refine bH (λH=>aP<|ih (k+1) 2 (by omega) (by omega) v nofun<|bU<|by omega) λH=>lM (λI=>aP<|ih (k+1) 2 (by omega) (by omega) v nofun<|bU<|by omega) λI=>aP<|ih (k+1) w (by omega) (by omega) v A ?_;rw[e,if_pos g];unfold vF;rw[fT,bX<|by omega];rfl
   .exact p k w j y e
def afa{m:au}{s:gK}{f:List Int}:Mb (m,s,f,C)=true/\SN (m,s,f,C)=true:=by
 refine gm (s:=H6 af) (t:=RB af m s f C) (d:=Ty.aO [.bool]) (P:=λr=>r=true) ?_;have O:af.k Me ()=true:=by rw[bZ];exact aen
 have S:af.k Gi ()=true:=by rw[bZ];exact aem
 have v:af.k Gd m=nh m:=by rw[bZ,YD];exact sZ
 unfold RB ab6;rw[O,S,v];refine aj (show decide (([]:List fB).length<=1000000)=true from rfl)<|aj rfl<|dG nofun λ_=>dG (λ_=>ay rfl) λG=>lM (λ_=>ay rfl) λJ=>?_;have G:=akU G;have J:(f.length:Int)<=20:=J;have H:rR (m,s)=true:=bX ⟨by omega,by omega,by omega⟩;have y:rR (m,Jc s)=true:=bX ⟨by show(0:Nat)<=_;omega,by show(0:Nat)<=_;omega,by show s.2.2.2.2.2.1.length<=_;omega⟩;cases hm:df m
 .have D:nh m=70:=by unfold nh;rw[hm];rfl
  have⟨F,j⟩:=ame hm H;have j:af.k vx (m,s)=([],70):=j;have⟨A,p⟩:=aep (ons:=f) hm y;have X:=LY (m:=m) (s:=s) (l:=f) (λ_=>.inr trivial) A (by rw[p];exact⟨nofun,nofun⟩) (.inr (by rw[hm];exact nofun)) _ 0 70 (ah _) (aQ _) (by omega) nofun (by rw[p,if_neg<|by decide]);rw[j,D];exact aj F<|dD (λg=>absurd rfl g) λ_=>dD (λ_=>dD (λg=>absurd rfl g) λ_=>dJ nofun λ_=>aP X) λg=>absurd g (by decide)
 .have D:nh m=0:=oZ.2 hm;have hb:=uB hm;have N:0<=m.1*m.2.1:=cO (by omega) (by omega);have Y:m.1*m.2.1<=8*m.2.1:=cY (by omega) (by omega);have⟨F,j,_⟩:=amf hm H;have j:(af.k vx (m,s)).2=0:=j;have⟨A,p⟩:=aeq (ons:=f) hm y;have I:(qc (m,s,f)).2=0↔0<(qc (m,s,f)).1.length:=by
   rcases p with ⟨_,e⟩|⟨_,V,W⟩
   .rw[e];exact⟨nofun,nofun⟩
   .exact⟨λ_=>W,λ_=>V⟩
  rw[D];refine aj F<|dD (λg=>absurd j g) λ_=>dD (λg=>absurd j g) λ_=>dJ (λ_=>dD (λg=>aP ?_) λg=>aP ?_) λg=>absurd rfl g
  .have g:¬(f.length:Int)=m.1:=g;refine LY (λ_=>.inr trivial) A I (.inl ⟨N,by omega⟩) _ 0 2 (ah _) (aQ _) (by omega) nofun ?_;rcases p with ⟨_,e⟩|⟨e,_⟩
   .rw[e,if_neg<|by decide]
   .exact absurd e.1 g
  .have g:(f.length:Int)=m.1:=g;refine LY (λ_=>.inr trivial) A I (.inl ⟨N,by omega⟩) _ 0 0 (ah _) (aQ _) (by omega) (λ_=>hm) ?_;rw[ik,if_pos rfl];rcases p with ⟨q|q,e⟩|⟨q,e,_⟩
   .exact absurd g q
   .rw[e,q];rfl
   .rw[e,q.2];rfl
def aln(x:au×gK×List Int×Int)(h:Ty.kS [aW,gb,Ce,yI] x):Mb x=true/\SN x=true:=afa
end
end Go.Ev.M
