/- PROVED: what functions compute, 2. Conditions: none. -/
import Derived.Test.YtalmcifclnbpmaaGreatM1
import Derived.Shelf.SlicesE.Clone
import Derived.Shelf.SlSortCmp.NoneTotal
set_option linter.unusedVariables false
set_option linter.defProp false
set_option linter.unusedSimpArgs false
namespace Go.Ev.M
open Go.Proofs Go.Proofs.Tryz
set_option maxRecDepth 100000
open Go.Ev.Pl
noncomputable section
structure WE where(a0:Int)(a1:List Seen)(a2:Int)(a4:uO)(a5:Int)
inductive adE where|c0(p:WE)(a3:Int)
noncomputable def ajJ:adE->iF
 | .c0 p a3=>⟨[iN 138 45 [(0,vi p.a0),(4,pZ 0),(11,.sl pV p.a1),(12,vi p.a2),(13,vi a3)] f138 52],[gZ<|dc re p.a4 ++ [vi p.a5,.eT true],.aU]⟩
def au0(A:aS)(n:Int)(c:List Seen):LT (vP×Int×Bool) adE:=.ak<|.c0 ⟨n,c,A.l c,(0,0,0,0,0,0,0),0⟩ 0
def Vn(A:aS):adE->LT (vP×Int×Bool) adE
 | .c0 p a3=>.br (A.bq a3 p.a2) (.ao (A.and (A.bQ 0 a3)<|A.bq a3<|A.l p.a1)<|.br (A.cm (A.n pV p.a1 a3:Seen).1 2) (.ak<|.c0 p<|A.b .add .i64 a3 1)<|.br (A.k Gg (A.n pV p.a1 a3:Seen).2.2).2 (.br (A.bG (A.k vy ((A.k Gg (A.n pV p.a1 a3:Seen).2.2).1.2.2.1,p.a0)) 0) (.br (A.bq (A.k Gg (A.n pV p.a1 a3:Seen).2.2).1.2.2.2.1 p.a0) (.ret ((A.k Gg (A.n pV p.a1 a3:Seen).2.2).1,(A.n pV p.a1 a3:Seen).2.1,true))<|.ak<|.c0 p<|A.b .add .i64 a3 1)<|.ak<|.c0 p<|A.b .add .i64 a3 1)<|.ak<|.c0 p<|A.b .add .i64 a3 1)<|.ret ((0,0,(0,0,0,0,0),0,([]:List Int)),0,false)
def CH(n:Int)(s:Seen):Bool:=decide (s.1=2)&&(decide ((uf s.2.2).2=true)&&(decide (rz ((uf s.2.2).1.2.2.1,n)=0)&&decide ((uf s.2.2).1.2.2.2.1<n)))
def jy(n:Int):List Seen->vP×Int×Bool
 | []=>((0,0,(0,0,0,0,0),0,([]:List Int)),0,false)
 | s::l=>bif CH n s then((uf s.2.2).1,s.2.1,true) else jy n l
theorem Ym{n:Int}{l:List Seen}(h:(jy n l).2.2=true):rz ((jy n l).1.2.2.1,n)=0/\(jy n l).1.2.2.2.1<n/\Ae (jy n l).1=true:=by
 induction l with
 | nil=>exact absurd h (by simp[jy])
 | cons s l ih=>
   rw[jy] at h ⊢;cases hx:CH n s
   .simp_all
   .simp[CH,eH,tP] at hx;exact⟨hx.c,hx.C,aeD hx.2.1⟩
theorem aoi{b:Bool}:b=decide (b=true):=by simp_all
theorem U4{p:WE}{n:Int}{c:List Seen}(B:p.a0=n)(C:p.a1=c)(l:p.a2=(c.length:Int))(G:c.length<=140737488355328):∀(j i:Nat),c.length-i=j->i<=c.length->bi (Vn af) (.ak<|.c0 p i) (jy n<|c.drop i):=by
 intro j
 induction j with
 | zero=>
   intro i E D;have:i=c.length:=by omega
   subst this;rw[aI,Vn,l,cZ];exact(al (by rw[bl];simp)).2 (.ret _)
 | succ j ih=>
   intro i E D;have f:i<c.length:=by omega
   have u:=ih (i+1) (by omega) (by omega);rw[aI,Vn,B,C,l];refine(ap (by simp_all;exact bX<|by omega)).2 (aA.2 ⟨dA f,?_⟩);rw[show(af.n pV c (i:Int):Seen)=c[i] from fF f _,AX f,jy,jN (i:=i)<|by omega];generalize c[i]=s;generalize jy n (c.drop<|i+1)=r at u ⊢;have g:CH n s=false->bi (Vn af) (.ak<|.c0 p ((i+1:Nat):Int)) (bif CH n s then((uf s.2.2).1,s.2.1,true) else r):=λh=>aT (by simp_all) u;rw[show af.k Gg s.2.2=uf s.2.2 from aeF];refine aX (p:=¬s.1=2) dU (λh=>g (by rw[CH,fQ h];rfl)) λv=>?_;refine aX (p:=(uf s.2.2).2=true) aoi (λx=>?_) λh=>g (by rw[CH,fQ h,fG,cq]);refine aX (p:=rz ((uf s.2.2).1.c,n)=0) dq (λy=>?_) λh=>g (by rw[CH,fQ h,fG,cq,cq]);refine aX (p:=(uf s.2.2).1.d<n) rfl (λA=>?_) λh=>g (by rw[CH,fQ h,cq,cq,cq]);exact aT (by rw[CH,bX<|bY.1 v,bX x,bX y,bX A];rfl)<|.ret _
def aqC{n:Int}{c:List Seen}(f:c.length<=140737488355328):bi (Vn af) (au0 af n c)<|jy n c:=
 U4 (p:=⟨n,c,(c.length:Int),(0,0,0,0,0,0,0),0⟩) rfl rfl rfl f c.length 0 rfl (by omega)
def DL:(Int×List Seen)->(vP×Int×Bool):=λ(m,n)=>jy m n
def ath:aL:=.all [yI,.slice pV] [JU,yI,.bool] DL
def arv:Sd 138 ath:=fa<|bE ar dK sl 21 [⟨138,2,[[0,4,11,12,13]]⟩] [] (λA (n,c)=>au0 A n c) Vn ajJ (kz (fc func138 fz) (sc arR (sc JJ sz))) (λA y=>match y with |.c0 p f=>⟨70,sl,by kernel_rfl⟩) λ(n,c) g h=>aqC h.2.1
def Ak(m:au)(c:gE)(f:vP):Bool:=decide ((iY m c.2.2.1 c.2.1).2=0)&&(decide (f.1=(iY m c.2.2.1 c.2.1).1)&&decide ((f.2.2.2.2.length:Int)=bif decide ((iY m c.2.2.1 c.2.1).1=3) then(0:Int) else(af.n (.int .i64) (af.n eQ m.2.2.2.2.2.2.2 c.2.2.1:Mode).1 c.2.1:Int)))
theorem yO{m:au}{k n:Int}(h:(iY m k n).2=0):df m=true/\(0<=n/\n<=m.1-1)/\(0<=k/\k<iy m):=by
 unfold iY at h;by_cases c:pN m n=0
 .have⟨a,b⟩:=KG c
  grind
 simp_all
def UZ(m:au)(n:Node)(f:vP):Bool:=kZ m f.2.2.1&&(decide (¬f.2.2.1.2.1=n.1)&&(UN f.2.2.1 f.2.2.1.2.1&&Ak m f.2.2.1 f))
def qM(m:au)(c:gE)(r:Int):gE:=bif decide ((AB m c r).2=0) then(AB m c r).1 else c
def Bv(m:au)(n:Node)(c:gE)(f:vP):Node:=(n.1,3,qM m c f.2.1,(n.1,m.1,c.2.2.2.2,1,0,0,0),0,false,0,bif decide (f.1=4) then(sS n.2.2.2.2.2.2.2 c.2.1 f.2.2.2.2).1 else n.2.2.2.2.2.2.2)
def lb(m:au)(n:Node)(c:List Seen)(f:Bool):Node×Int×Bool×Int:=
 bif decide (dn m n=0) then
  bif decide (n.2.1=1) then
   bif decide ((c.length:Int)=2) then
    bif (jy m.1 c).2.2 then
     bif decide ((jy m.1 c).1.1=1) then
      bif decide ((jy m.1 c).1.2.2.2.1=n.1) then(n,0,false,0)
      else bif f && !n.2.2.2.2.2.1 then((n.1,n.2.1,n.2.2.1,n.2.2.2.1,(tW m n.1).1,true,n.2.2.2.2.2.2),(jy m.1 c).2.1,false,0)
      else(Bv m n (0,(jy m.1 c).1.2.2.2.1,0,0,af.b .shl .i64 1 (jy m.1 c).1.2.2.2.1) (jy m.1 c).1,(jy m.1 c).2.1,true,0)
     else bif UZ m n (jy m.1 c).1 then(Bv m n (jy m.1 c).1.2.2.1 (jy m.1 c).1,(jy m.1 c).2.1,true,0)
     else(n,0,false,0)
    else(n,0,false,0)
   else(lU,0,false,2)
  else(lU,0,false,181)
 else(lU,0,false,dn m n)
def X_{m:au}{n:Node}{f:vP}(l:dn m n=0)(i:Ae f=true)(g:UZ m n f=true):(sS n.2.2.2.2.2.2.2 f.2.2.1.2.1 f.2.2.2.2).2=0:=by
 have c:=fR.1 (du l).2;simp[UZ,eH,Ak,tP] at g;have j:=yO g.2.2.2.1;simp[Ae,eH,tP] at i;have h:=c.2.2.2.2.2.1;rw[sS,c.2.2.2.1,bX (show 0<=f.2.2.1.2.1/\f.2.2.1.2.1<=(n.2.2.2.2.2.2.2.2.2.1.length:Int)-1 by rw[h];exact j.2.1),fQ<|show ¬8<(f.2.2.2.2.length:Int) by omega];rfl
instance:DecidableEq gY:=inferInstanceAs (DecidableEq (List Int×Int))
instance:DecidableEq gE:=inferInstanceAs (DecidableEq (Int×Int×Int×Int×Int))
instance:DecidableEq uO:=inferInstanceAs (DecidableEq (Int×Int×Int×Int×Int×Int×Int))
instance:DecidableEq jo:=inferInstanceAs (DecidableEq (Int×List Int×List gY×Int×Int))
def aoA:DecidableEq<|Int×Bool×Int×jo:=inferInstance
def aoB:DecidableEq<|gE×uO×Int×Bool×Int×jo:=have:=aoA;inferInstance
instance:DecidableEq Node:=have:=aoB;inferInstanceAs (DecidableEq (Int×Int×(gE×uO×Int×Bool×Int×jo)))
def amU(A:aS)(m:au)(id:Int):LT (Node×Int) Empty:=.br (A.cm (A.k iR m) 0) (.ret ((0,0,(0,0,0,0,0),(0,0,0,0,0,0,0),0,false,0,0,([]:List Int),([]:List gY),0,0),A.k iR m))<|.br (A.bG (A.k SE (id,m.1)).2 0) (.ret ((id,0,(0,0,0,0,0),(0,0,0,0,0,0,0),0,false,0,(A.k SE (id,m.1)).1),0))<|.ret ((0,0,(0,0,0,0,0),(0,0,0,0,0,0,0),0,false,0,0,([]:List Int),([]:List gY),0,0),2)
def alS{m:au}{id:Int}:bi Empty.elim (amU af m id)<|rX m id:=by
 unfold amU rX;refine ?_;rw[show af.k iR m=nh m from rfl,nh];cases hm:df m
 .exact(ap rfl).2 (.ret _)
 refine(al rfl).2 (?_);rw[show af.k SE (id,m.1)=Z3 id m.1 from rfl,Z3,bX (jc hm).1,cond_true,cond_true];cases decide (0<=id/\id<=m.1-1)
 .exact(al rfl).2 (.ret _)
 .exact(ap rfl).2 (.ret _)
def uj:(au×Int)->(Node×Int):=λ(m,n)=>rX m n
def as7:aL:=.all [aW,yI] [fE,yI] uj
def ahP:Sd 45 as7:=fa<|cK ar dK sl 54 [] (λA (m,id)=>amU A m id) (kz (fc func45 fz) (sc yd (sc arx sz))) λ(m,id) c h=>alS
def amW(A:aS)(n:Node):LT Bool Empty:=.br (A.bG n.2.1 2) (.ret true)<|.br (A.bG n.2.1 3) (.ret true)<|.br (A.bG n.2.1 4) (.ret true)<|.ret false
def awX{n:Node}:bi Empty.elim (amW af n)<|kT n:=by
 unfold amW kT;refine aX (p:=n.2.1=2) dq (λh=>aT (bX<|by omega).symm<|.ret _) λc=>aX (p:=n.2.1=3) dq (λh=>aT (bX<|by omega).symm<|.ret _) λf=>aX (p:=n.2.1=4) dq (λh=>aT (bX<|by omega).symm<|.ret _) λg=>aT (fQ<|by omega).symm<|.ret _
def ot:Node->Bool:=kT
def as9:aL:=.all [fE] [.bool] ot
def BW:Sd 99 as9:=fa<|cK ar dK sl 51 [] (λA n=>amW A n) (kz (fc func99 fz) sz) λn c h=>awX
def am_(A:aS)(s:Span)(n:Int):LT Bool Empty:=.br (A.qE n s.1) (.ret<|A.bQ n s.2)<|.ret false
def ak4(s:Span)(n:Int):Bool:=decide<|s.1<=n/\n<=s.2
def awu{s:Span}{n:Int}:bi Empty.elim (am_ af s n)<|ak4 s n:=by
 unfold am_ ak4;refine aX (p:=s.1<=n) rfl (λh=>?_) λh=>aT (fQ<|λk=>h k.1).symm<|.ret _;exact aT (by rw[ax,iP];simp[h])<|.ret _
def DN:(Span×Int)->Bool:=λ(m,n)=>ak4 m n
def ato:aL:=.all [jV,yI] [.bool] DN
def abk:Sd 47 ato:=fa<|cK ar dK sl 25 [] (λA (s,n)=>am_ A s n) (kz (fc func47 fz) sz) λ(s,n) c h=>awu
def ana(A:aS)(m:au)(n:Node):LT Bool Empty:=.br (A.bG n.2.1 1) (.br (A.bG (A.k Ge (m,n.1)).2 0) (.ret<|A.k DN ((1,(A.k Ge (m,n.1)).1),n.2.2.2.2.1))<|.ret false)<|.br (A.bG n.2.2.2.2.1 0) (.br (A.not n.2.2.2.2.2.1) (.ret true)<|.ret<|A.bG n.2.1 2)<|.ret false
def ae7{m:au}{n:Int}(h:¬(tW m n).2=0):(tW m n).1=0:=by
 unfold tW at h ⊢;by_cases c:pN m n=0
 .rw[bX c] at h;exact absurd rfl h
 .rw[fQ c];rfl
def anU{m:au}{n:Node}:bi Empty.elim (ana af m n)<|IB m n&&Lf n:=by
 unfold ana IB Lf;refine aX (p:=n.2.1=1) dq (λh=>?_) λh=>aX (p:=n.2.2.2.2.1=0) dq (λc=>?_) λc=>?_
 .rw[show af.k Ge (m,n.1)=tW m n.1 from rfl,bX h,bX<|show n.2.1=1\/n.2.1=2 from .inl h];have e:(bif n.2.2.2.2.2.1 then true else true)=true:=by cases n.2.2.2.2.2.1<;>rfl
  rw[e,nK,cond_true];refine aX (p:=(tW m n.1).2=0) dq (λf=>.ret _) λf=>aT (fQ ?_).symm<|.ret _;have:=ae7 f;omega
 .rw[fQ h,bX c];cases n.2.2.2.2.2.1
  .exact(ap rfl).2 (.ret _)
  .refine(al rfl).2 (aT ?_<|.ret _);rw[dq,iP];simp;omega
 .rw[fQ h,fQ c];exact .ret _
def ag3:(au×Node)->Bool:=λ(m,n)=>IB m n&&Lf n
def atp:aL:=.all [aW,fE] [.bool] ag3
def arA:Sd 134 atp:=fa<|cK ar dK sl 45 [] (λA (m,n)=>ana A m n) (kz (fc func134 fz) (sc abk (sc T7 sz))) λ(m,n) c h=>anU
abbrev abU(A:aS)(n:Node):LT Bool Empty:=(.br (A.bG (A.k qQ n.2.2.2.1) 0) (.br (A.bG n.2.2.2.1.1 n.1) (.ret false)<|.ret false)<|.ret false)
def anb(A:aS)(m:au)(n:Node):LT Bool Empty:=.br (A.bG (A.k vy (n.2.2.1,m.1)) 0) (.br (A.bq n.2.2.1.2.2.1<|A.l m.2.2.2.2.2.2.2) (.br (A.bG (A.k qQ n.2.2.2.1) 0) (.br (A.bG n.2.2.2.1.1 n.1) (.br (A.bQ n.2.2.1.2.2.2.1<|A.l m.2.2.2.2.2.2.2) (.br (A.bG n.2.2.2.1.2.1 m.1) (.br (A.bG n.2.2.1.2.2.2.2 n.2.2.2.1.2.2.1) (.br (A.cm n.2.1 2) (.ret true)<|.ao (A.and (A.bQ 0 n.1)<|A.bq n.1<|A.l m.2.2.2.2.2.2.1)<|.ret (A.n .bool m.2.2.2.2.2.2.1 n.1:Bool))<|.ret false)<|.ret false)<|.ret false)<|.br (A.bQ n.2.2.1.2.2.2.1<|A.l m.2.2.2.2.2.2.2) (.ret false)<|.ret false)<|.br (A.bQ n.2.2.1.2.2.2.1<|A.l m.2.2.2.2.2.2.2) (.ret false)<|.ret false)<|abU A n)<|abU A n
def US(m:au)(n:Node):Bool:=kZ m n.2.2.1&&(decide (tQ n.2.2.2.1=0)&&(decide (n.2.2.2.1.1=n.1)&&(decide (n.2.2.2.1.2.1=m.1)&&(decide (n.2.2.1.2.2.2.2=n.2.2.2.1.2.2.1)&&Li m n))))
variable{Y:Type}
def KQ{R:Type}{step:Y->LT R Y}{b:Bool}{t e:LT R Y}{r:R}(c:bi step t r)(f:bi step e r):bi step (.br b t e) r:=by
 cases b
 .exact(al rfl).2 f
 .exact(ap rfl).2 c
def awx{m:au}{n:Node}(x:0<=n.1)(y:n.1<(m.2.2.2.2.2.2.1.length:Int)):bi Empty.elim (anb af m n)<|US m n:=by
 unfold anb abU US kZ Li;refine ?_;rw[show af.k vy (n.c,m.1)=rz (n.c,m.1) from rfl,show af.k qQ n.d=tQ n.d from chk];refine aX (p:=rz (n.c,m.1)=0) dq (λf=>aX (p:=n.c.c<iy m) rfl (λh=>aX (p:=tQ n.d=0) dq (λi=>aX (p:=n.d.1=n.1) dq (λj=>aX (p:=n.c.d<=iy m) rfl (λl=>aX (p:=n.d.2.1=m.1) dq (λu=>aX (p:=n.c.D=n.d.c) dq (λv=>aX (p:=¬n.2.1=2) dU (λc=>?_) λc=>aA.2 ⟨uE x y,?_⟩) λg=>?_) λg=>?_) λg=>?_) λg=>?_) λg=>?_) λg=>?_) λg=>?_
 .exact aT (by rw[bX f,bX h,bX i,bX j,bX l,bX u,bX v,fQ c];rfl)<|.ret _
 .exact aT (by rw[bX f,bX h,bX i,bX j,bX l,bX u,bX v,bX<|bY.1 c];rfl)<|.ret _
 all_goals
  rw[fQ g];simp only[fG,cq]
  repeat' (first|exact bi.ret _|refine KQ ?_ ?_)
def ag4:(au×Node)->Bool:=λ(m,n)=>US m n
def QI:(au×Node)->Bool:=λ(m,n)=>decide (0<=n.1)&&decide (n.1<(m.2.2.2.2.2.2.1.length:Int))
def atq:aL:=⟨[aW,fE],[.bool],QI,ag4,false⟩
def arB:Sd 135 atq:=cK ar dK sl 94 [] (λA (m,n)=>anb A m n) (kz (fc func135 fz) (sc Rs (sc JJ sz))) λ((m,n):au×Node) c h=>awx (of_decide_eq_true (eH _ _▸c).1)<|of_decide_eq_true (eH _ _▸c).2
def anc(A:aS)(n:Node):LT Bool Empty:=.br (A.and (A.bG n.2.2.1.1 0)<|A.and (A.bG n.2.2.1.2.1 0)<|A.and (A.bG n.2.2.1.2.2.1 0)<|A.and (A.bG n.2.2.1.2.2.2.1 0)<|A.and (A.bG n.2.2.1.2.2.2.2 0) true) (.ret<|A.and (A.bG n.2.2.2.1.1 0)<|A.and (A.bG n.2.2.2.1.2.1 0)<|A.and (A.bG n.2.2.2.1.2.2.1 0)<|A.and (A.bG n.2.2.2.1.2.2.2.1 0)<|A.and (A.bG n.2.2.2.1.2.2.2.2.1 0)<|A.and (A.bG n.2.2.2.1.2.2.2.2.2.1 0)<|A.and (A.bG n.2.2.2.1.2.2.2.2.2.2 0) true)<|.ret false
def afh(n:Node):Bool:=Pv n.2.2.1&&zeroV n.2.2.2.1
def aqA{n:Node}:bi Empty.elim (anc af n)<|afh n:=by
 unfold anc afh;cases hz:Pv n.c
 .exact(al hz).2 (.ret _)
 .exact(ap hz).2 (.ret _)
def ag5:Node->Bool:=afh
def atr:aL:=.all [fE] [.bool] ag5
def arC:Sd 136 atr:=fa<|cK ar dK sl 25 [] (λA n=>anc A n) (kz (fc func136 fz) sz) λn c h=>aqA
abbrev abP(A:aS)(n:Node):LT Int Empty:=(.br (A.not<|A.k ot n) (.br (A.not<|A.k ag5 n) (.ret 180)<|.ret 0)<|.ret 0)
def amV(A:aS)(m:au)(n:Node):LT Int Empty:=.br (A.cm (A.k iR m) 0) (.ret<|A.k iR m)<|.br (A.not<|A.k DN ((0,A.b .sub .i64 m.1 1),n.1)) (.ret 180)<|.br (A.not<|A.k DN ((0,5),n.2.1)) (.ret 180)<|.br (A.not<|A.k DN ((0,2),n.2.2.2.2.2.2.1)) (.ret 180)<|.br (A.cm (A.k rD n.2.2.2.2.2.2.2) 0) (.ret 180)<|.br (A.cm n.2.2.2.2.2.2.2.1 n.1) (.ret 180)<|.br (A.cm (A.l n.2.2.2.2.2.2.2.2.2.1) m.1) (.ret 180)<|.br (A.not<|A.k ag3 (m,n)) (.ret 180)<|.br (A.k ot n) (.ao (A.k QI (m,n))<|.br (A.not<|A.k ag4 (m,n)) (.ret 180)<|abP A n)<|abP A n
def amj{m:au}{n:Node}:bi Empty.elim (amV af m n)<|dn m n:=by
 unfold amV abP dn;refine ?_;rw[show af.k iR m=nh m from rfl,nh];cases hm:df m
 .exact(ap rfl).2 (.ret _)
 have c:=@fR m n;have A:=jc hm;rw[cond_true,ia,my (by omega)<|by omega];generalize U1 m n=G at c ⊢;refine(al rfl).2 (y1 (b:=decide<|0<=n.1/\n.1<=m.1-1) (λg=>bX (c.1 g).1) λj=>y1 (b:=decide<|0<=n.2.1/\n.2.1<=5) (λg=>bX (c.1 g).2.1) λl=>y1 (b:=decide<|0<=n.2.2.2.2.2.2.1/\n.2.2.2.2.2.2.1<=2) (λg=>bX (c.1 g).2.2.1) λu=>?_);have j:=of_decide_eq_true j;have l:=of_decide_eq_true l;have u:=of_decide_eq_true u;refine Ri (p:=¬z7 n.2.2.2.2.2.2.2=0) dU (λg=>not_not_intro<|J9.2 (c.1 g).2.2.2.1) λx=>?_;refine Ri (p:=¬n.2.2.2.2.2.2.2.1=n.1) dU (λg=>by have:=c.1 g;omega) λB=>?_;refine Ri (p:=¬(n.2.2.2.2.2.2.2.2.2.1.length:Int)=m.1) dU (λg=>by have:=c.1 g;omega) λC=>?_;refine y1 (b:=IB m n&&Lf n) (λg=>by rw[(c.1 g).2.2.2.2.2.2.2.2.1,(c.1 g).2.2.2.2.2.2.2.2.2];rfl) λv=>?_;rw[eH] at v;have f:Li m n=true->FO m n=true->G=true:=λa b=>c.2 ⟨j,l,u,J9.1<|bY.1 x,by omega,by omega,a,b,v.1,v.2⟩;rw[show af.k ot n=kT n from rfl];have h:=λg=>(c.1 g).2.2.2.2.2.2.2.1;have y:=λg=>(c.1 g).2.2.2.2.2.2.1;unfold FO at h f;cases hn:kT n
 .rw[hn,cond_false] at h f;have i:Li m n=true:=by
   have:¬(2<=n.2.1/\n.2.1<=4):=of_decide_eq_false hn;rw[Li,fQ<|show ¬n.2.1=2 by omega];rfl
  exact(al rfl).2 ((ap rfl).2<|y1 (b:=afh n) h λk=>TO<|f i k)
 .rw[hn,cond_true] at h f;refine(ap rfl).2 (aA.2 ⟨?_,y1 (b:=US m n) (λg=>?_) λk=>(al rfl).2<|TO ?_⟩)
  .rw[bZ,QI,bX j.1,bX (show n.1<(m.2.2.2.2.2.2.1.length:Int) by rw[A.2.2.1];omega)];rfl
  .have a:=h g;simp only[eH] at a;rw[US,a.1,a.2.1,a.2.2.1,a.2.2.2.1,a.2.2.2.2,y g];rfl
  .simp only[US,eH] at k;exact f k.2.2.2.2.2 (by rw[k.1,k.2.1,k.2.2.1,k.2.2.2.1,k.2.2.2.2.1];rfl)
def iT:(au×Node)->Int:=λ(m,n)=>dn m n
def as8:aL:=.all [aW,fE] [yI] iT
def Eb:Sd 80 as8:=fa<|cK ar dK sl 123 [] (λA (m,n)=>amV A m n) (kz (fc func80 fz) (sc yd (sc BW (sc KV (sc abk (sc arA (sc arB (sc arC sz)))))))) λ(m,n) c h=>amj
abbrev abR(A:aS)(m:au)(n:Node)(on:Bool):LT (Node×Int) Empty:=(.br (A.cm (A.k nc (n.2.2.2.2.2.2.2,n.2.2.2.2.2.2.2.2.1)).2 0) (.br (A.cm (A.k nc (n.2.2.2.2.2.2.2,n.2.2.2.2.2.2.2.2.1)).2 0) (.ret ((0,0,(0,0,0,0,0),(0,0,0,0,0,0,0),0,false,0,0,([]:List Int),([]:List gY),0,0),(A.k nc (n.2.2.2.2.2.2.2,n.2.2.2.2.2.2.2.2.1)).2))<|.br on (.bU 73 "starctl.go:108")<|.ret<|A.k uj (m,n.1))<|.br on (.ret ((n.1,1,(0,0,0,0,0),(0,0,0,0,0,0,0),(A.k Ge (m,n.1)).1,n.2.2.2.2.2.1,n.2.2.2.2.2.2.1,(A.k nc (n.2.2.2.2.2.2.2,n.2.2.2.2.2.2.2.2.1)).1),0))<|.ret<|A.k uj (m,n.1))
abbrev abS(A:aS)(m:au)(n:Node)(on:Bool):LT (Node×Int) Empty:=(.br (A.cm (A.k iT (m,n)) 0) (.ret ((0,0,(0,0,0,0,0),(0,0,0,0,0,0,0),0,false,0,0,([]:List Int),([]:List gY),0,0),A.k iT (m,n)))<|.br on (.bU 73 "starctl.go:108")<|.ret<|A.k uj (m,n.1))
def amY(A:aS)(m:au)(n:Node)(on:Bool):LT (Node×Int) Empty:=.br (A.bG n.2.1 0) (.br (A.cm (A.k iT (m,n)) 0) (abS A m n on)<|abR A m n on)<|.br (A.cm (A.k iT (m,n)) 0) (abS A m n on)<|.br (A.not<|A.not on) (.ret ((0,0,(0,0,0,0,0),(0,0,0,0,0,0,0),0,false,0,0,([]:List Int),([]:List gY),0,0),181))<|abR A m n on
def yy{m:au}{n:Node}(h:dn m n=0):K1 n.2.2.2.2.2.2.2 n.2.2.2.2.2.2.2.2.1=(n.2.2.2.2.2.2.2,0):=by
 rw[K1,E9 h,fQ<|aev<|E9 h];rfl
def auF{m:au}{n:Node}{on:Bool}:bi Empty.elim (amY af m n on)<|ju m n on:=by
 unfold amY abS abR ju;rw[show af.k iT (m,n)=dn m n from rfl,show af.k nc (n.G,n.i)=K1 n.G n.i from rfl];by_cases h:dn m n=0
 .rw[bX h,yy h];refine aX (p:=n.2.1=0) dq (λc=>(al<|xf h).2<|(al rfl).2 ?_) λc=>(al<|xf h).2 ?_
  .rw[bX c];cases on
   .exact(al rfl).2 (.ret _)
   .exact(ap rfl).2 (.ret _)
  .rw[fQ c];cases on
   .exact(al rfl).2 ((al rfl).2<|(al rfl).2<|.ret _)
   .exact(ap rfl).2 (.ret _)
 .rw[fQ h];exact KQ ((ap<|qD h).2<|(ap<|qD h).2<|.ret _)<|(ap<|qD h).2<|(ap<|qD h).2<|.ret _
def SB:(au×Node×Bool)->(Node×Int):=λ(m,c,k)=>ju m c k
def ata:aL:=.all [aW,fE,.bool] [fE,yI] SB
def arn:Sd 168 ata:=fa<|cK ar dK sl 182 [] (λA (m,n,on)=>amY A m n on) (kz (fc func168 (fc func46 (fc func161 fz))) (sc ahP (sc Eb (sc Ec (sc T7 sz))))) λ(m,n,on) c h=>auF
structure aiw where(a0:Int)(a1:Bool)(a2 a3:uO)(a4:Int)(a5:Bool)(a6 a7 a8 a9:Int)(mA:vP)
structure Wq where(b0:Int)(b1:Bool)(b2 b3:uO)(b4:Int)(b5:Bool)(b6 b7 b8 b9:Int)(b10:au)(b11:Node)(b12:vP)
structure Ws where(c0:Int)(c1 c2:uO)(c3:Int)(c4:Bool)(c5 c6 c7 c8:Int)(c9:au)(c10:Node)(c11:vP)(c12:gE)
structure Wt where(d0:Int)(d1 d2:uO)(d3:Int)(d4:Bool)(d5 d6 d7 d8:Int)(d9:au)(Nz:Node)(NA:vP)
inductive Xt where|c0(p:aiw)|c1(p:Wq)|c2(p:Ws)|c3(p:Wt)
noncomputable def ajF:Xt->iF
 | .c0 p=>⟨[vh 90 85 [(6,pZ 0),(10,.gN),(12,pZ 1),(13,vi p.a0),(14,vb p.a1)] f90 252],[gZ<|dc re p.a2++dc re p.a3 ++ [vi p.a4,vb p.a5,vi p.a6,vi p.a7,.eT true,.eT true,vi p.a8,vi p.a9],dZ JU p.mA,.aU]⟩
 | .c1 p=>⟨[vh 90 85 [(6,pZ 0),(10,pZ 1),(12,pZ 2),(13,vi p.b0),(14,vb p.b1)] f90 252],[gZ<|dc re p.b2++dc re p.b3 ++ [vi p.b4,vb p.b5,vi p.b6,vi p.b7,.eT true,.eT true,vi p.b8,vi p.b9],gZ<|dc aW p.b10++dc fE p.b11,dZ JU p.b12,.aU]⟩
 | .c2 p=>⟨[vh 90 85 [(6,pZ 0),(10,pZ 1),(12,pZ 2),(13,vi p.c0),(15,pZ 3)] f90 1022],[gZ<|dc re p.c1++dc re p.c2 ++ [vi p.c3,vb p.c4,vi p.c5,vi p.c6,.eT true,.eT true,vi p.c7,vi p.c8],gZ<|dc aW p.c9++dc fE p.c10,dZ JU p.c11,dZ lf p.c12,.aU]⟩
 | .c3 p=>⟨[vh 90 85 [(6,pZ 0),(10,pZ 1),(12,pZ 2),(13,vi p.d0)] f90 8190],[gZ<|dc re p.d1++dc re p.d2 ++ [vi p.d3,vb p.d4,vi p.d5,vi p.d6,.eT true,.eT true,vi p.d7,vi p.d8],gZ<|dc aW p.d9++dc fE p.Nz,dZ JU p.NA,.aU]⟩
abbrev abO(A:aS)(m:au)(c:List Seen):LT (Node×Int×Bool×Int) Xt:=(.br (A.cm (A.l c) 2) (.ret ((0,0,(0,0,0,0,0),(0,0,0,0,0,0,0),0,false,0,0,([]:List Int),([]:List gY),0,0),0,false,2))<|.ak<|.c0 ⟨(A.k DL (m.1,c)).2.1,(A.k DL (m.1,c)).2.2,(0,0,0,0,0,0,0),(0,0,0,0,0,0,0),0,false,0,0,0,0,(A.k DL (m.1,c)).1⟩)
abbrev Pg(A:aS)(n:Node):=(A.k nc (n.2.2.2.2.2.2.2,n.2.2.2.2.2.2.2.2.1))
def amT(A:aS)(m:au)(n:Node)(c:List Seen):LT (Node×Int×Bool×Int) Xt:=.br (A.cm (A.k iT (m,n)) 0) (.br (A.cm (A.k iT (m,n)) 0) (.ret ((0,0,(0,0,0,0,0),(0,0,0,0,0,0,0),0,false,0,0,([]:List Int),([]:List gY),0,0),0,false,A.k iT (m,n)))<|abO A m c)<|.br (A.not<|A.bG n.2.1 1) (.ret ((0,0,(0,0,0,0,0),(0,0,0,0,0,0,0),0,false,0,0,([]:List Int),([]:List gY),0,0),0,false,181))<|.br (A.cm (Pg A n).2 0) (.br (A.cm (Pg A n).2 0) (.ret ((0,0,(0,0,0,0,0),(0,0,0,0,0,0,0),0,false,0,0,([]:List Int),([]:List gY),0,0),0,false,(Pg A n).2))<|abO A m c)<|.br (A.cm (A.l c) 2) (.ret ((0,0,(0,0,0,0,0),(0,0,0,0,0,0,0),0,false,0,0,([]:List Int),([]:List gY),0,0),0,false,2))<|.ak<|.c1 ⟨(A.k DL (m.1,c)).2.1,(A.k DL (m.1,c)).2.2,(0,0,0,0,0,0,0),(0,0,0,0,0,0,0),0,false,0,0,0,0,m,(n.1,n.2.1,n.2.2.1,n.2.2.2.1,n.2.2.2.2.1,n.2.2.2.2.2.1,n.2.2.2.2.2.2.1,(Pg A n).1),(A.k DL (m.1,c)).1⟩
def H5(A:aS):Xt->LT (Node×Int×Bool×Int) Xt
 | .c0 p=>.br (A.not p.a1) (.bU 73 "starctl.go:347")<|.br (A.bG p.mA.1 1) (.ao (A.bQ 0 p.mA.2.2.2.1)<|.bU 73 "starctl.go:329")<|.bU 73 "starctl.go:332"
 | .c1 p=>.br (A.not p.b1) (.ret (p.b11,0,false,0))<|.br (A.bG p.b12.1 1) (.ao (A.bQ 0 p.b12.2.2.2.1)<|.br (A.not<|A.cm p.b12.2.2.2.1 p.b11.1) (.ret (p.b11,0,false,0))<|.ak<|.c2 ⟨p.b0,p.b2,p.b3,p.b4,p.b5,p.b6,p.b7,p.b8,p.b9,p.b10,p.b11,p.b12,(0,p.b12.2.2.2.1,0,0,A.b .shl .i64 1 p.b12.2.2.2.1)⟩)<|.br (A.bG (A.k vy (p.b12.2.2.1,p.b10.1)) 0) (.br (A.bq p.b12.2.2.1.2.2.1<|A.l p.b10.2.2.2.2.2.2.2) (.br (A.bQ p.b12.2.2.1.2.2.2.1<|A.l p.b10.2.2.2.2.2.2.2) (.br (A.cm p.b12.2.2.1.2.1 p.b11.1) (.br (A.k SJ (p.b12.2.2.1,p.b12.2.2.1.2.1)) (.br (A.cm (A.k nR (p.b10,p.b12.2.2.1.2.2.1,p.b12.2.2.1.2.1)).2 0) (.ret (p.b11,0,false,0))<|.br (A.bG (A.k nR (p.b10,p.b12.2.2.1.2.2.1,p.b12.2.2.1.2.1)).1 3) (.br (A.cm (A.k nR (p.b10,p.b12.2.2.1.2.2.1,p.b12.2.2.1.2.1)).1 0) (.br (A.bG (A.k nR (p.b10,p.b12.2.2.1.2.2.1,p.b12.2.2.1.2.1)).1 p.b12.1) (.br (A.not<|A.bG 0<|A.l p.b12.2.2.2.2) (.ret (p.b11,0,false,0))<|.ak<|.c2 ⟨p.b0,p.b2,p.b3,p.b4,p.b5,p.b6,p.b7,p.b8,p.b9,p.b10,p.b11,p.b12,p.b12.2.2.1⟩)<|.ret (p.b11,0,false,0))<|.ret (p.b11,0,false,0))<|.ao (A.and (A.bQ 0 p.b12.2.2.1.2.2.1)<|A.bq p.b12.2.2.1.2.2.1<|A.l p.b10.2.2.2.2.2.2.2)<|.ao (A.and (A.bQ 0 p.b12.2.2.1.2.1)<|A.bq p.b12.2.2.1.2.1<|A.l (A.n eQ p.b10.2.2.2.2.2.2.2 p.b12.2.2.1.2.2.1:Mode).1)<|.br (A.cm (A.k nR (p.b10,p.b12.2.2.1.2.2.1,p.b12.2.2.1.2.1)).1 0) (.br (A.bG (A.k nR (p.b10,p.b12.2.2.1.2.2.1,p.b12.2.2.1.2.1)).1 p.b12.1) (.br (A.not<|A.bG (A.n yI (A.n eQ p.b10.2.2.2.2.2.2.2 p.b12.2.2.1.2.2.1:Mode).1 p.b12.2.2.1.2.1:Int)<|A.l p.b12.2.2.2.2) (.ret (p.b11,0,false,0))<|.ak<|.c2 ⟨p.b0,p.b2,p.b3,p.b4,p.b5,p.b6,p.b7,p.b8,p.b9,p.b10,p.b11,p.b12,p.b12.2.2.1⟩)<|.ret (p.b11,0,false,0))<|.ret (p.b11,0,false,0))<|.ret (p.b11,0,false,0))<|.ret (p.b11,0,false,0))<|.ret (p.b11,0,false,0))<|.ret (p.b11,0,false,0))<|.ret (p.b11,0,false,0)
 | .c2 p=>.br (A.bG p.c11.1 4) (.br (A.bG (A.k Gf (p.c10.2.2.2.2.2.2.2,p.c12.2.1,p.c11.2.2.2.2)).2 0) (.ak<|.c3 ⟨p.c0,p.c1,p.c2,p.c3,p.c4,p.c5,p.c6,p.c7,p.c8,p.c9,(p.c10.1,3,p.c12,(p.c10.1,p.c9.1,p.c12.2.2.2.2,1,0,0,0),0,false,0,(A.k Gf (p.c10.2.2.2.2.2.2.2,p.c12.2.1,p.c11.2.2.2.2)).1),p.c11⟩)<|.ak<|.c3 ⟨p.c0,p.c1,p.c2,p.c3,p.c4,p.c5,p.c6,p.c7,p.c8,p.c9,(p.c10.1,3,p.c12,(p.c10.1,p.c9.1,p.c12.2.2.2.2,1,0,0,0),0,false,0,p.c10.2.2.2.2.2.2.2),p.c11⟩)<|.ak<|.c3 ⟨p.c0,p.c1,p.c2,p.c3,p.c4,p.c5,p.c6,p.c7,p.c8,p.c9,(p.c10.1,3,p.c12,(p.c10.1,p.c9.1,p.c12.2.2.2.2,1,0,0,0),0,false,0,p.c10.2.2.2.2.2.2.2),p.c11⟩
 | .c3 p=>.br (A.bG (A.k uk (p.d9,p.Nz.2.2.1,p.NA.2.1)).2 0) (.ret ((p.Nz.1,p.Nz.2.1,(A.k uk (p.d9,p.Nz.2.2.1,p.NA.2.1)).1,p.Nz.2.2.2),p.d0,true,0))<|.ret (p.Nz,p.d0,true,0)
def afc{v l:Int}(h:l=v):af.not (af.bG v l)=false:=by rw[dq,bX h.symm];rfl
def afb{v l:Int}(h:¬l=v):af.not (af.bG v l)=true:=by rw[dq,fQ<|λk=>h k.symm];rfl
def TT{p:Wt}:bi (H5 af) (.ak<|.c3 p) ((p.Nz.1,p.Nz.2.1,qM p.d9 p.Nz.2.2.1 p.NA.2.1,p.Nz.2.2.2),p.d0,true,0):=by
 rw[aI,H5];refine ?_
 repeat' (refine ?_)
 refine aX (p:=(AB p.d9 p.Nz.c p.NA.2.1).2=0) dq (λh=>?_) λh=>?_
 .exact aT (by rw[qM,bX h];rfl)<|.ret _
 .exact aT (by rw[qM,fQ h];rfl)<|.ret _
def TS{p:Ws}(h:p.c11.1=4->(sS p.c10.2.2.2.2.2.2.2 p.c12.2.1 p.c11.2.2.2.2).2=0):bi (H5 af) (.ak<|.c2 p) (Bv p.c9 p.c10 p.c12 p.c11,p.c0,true,0):=by
 rw[aI,H5];refine aX (p:=p.c11.1=4) dq (λg=>?_) λg=>aT (by rw[Bv,fQ g];rfl) TT
 repeat' (refine ?_)
 exact(ap<|ajp<|h g).2 (aT (by rw[Bv,bX g];rfl) TT)
def KA{m:au}{k n:Int}(h:(iY m k n).2=0):¬(iY m k n).1=0:=by
 unfold iY at h ⊢;by_cases c:pN m n=0
 .by_cases f:0<=k/\k<=iy m-1
  .rw[bX c,bX f,cond_true,cond_true];generalize (af.n .bool (af.n eQ m.G k:Mode).2.1 n:Bool)=a;generalize (af.n (.int .i64) (af.n eQ m.G k:Mode).1 n:Int)=b;show ¬rC (a,b)=0;simp only[rC,t183,LT.val,Bool.cond_eq_ite]
   repeat' split
   all_goals decide
  .rw[bX c,fQ f,cond_true,cond_false] at h;exact absurd h (by decide)
 .rw[fQ c,cond_false] at h;exact absurd h c
variable{t:Int}
def afM{p:Wq}{m:au}{n:Node}{f:vP}(I:p.b0=t)(Q:p.b1=true)(J:p.b10=m)(K:p.b11=n)(P:p.b12=f)(S:0<=f.2.2.2.1)(O:UZ m n f=true->(sS n.2.2.2.2.2.2.2 f.2.2.1.2.1 f.2.2.2.2).2=0)(V:df m=true):bi (H5 af) (.ak<|.c1 p)<|bif decide (f.1=1) then(bif decide (f.2.2.2.1=n.1) then(n,0,false,0) else(Bv m n (0,f.2.2.2.1,0,0,af.b .shl .i64 1 f.2.2.2.1) f,t,true,0)) else bif UZ m n f then(Bv m n f.2.2.1 f,t,true,0) else(n,0,false,0):=by
 rw[aI,H5,I,Q,J,K,P];refine(al rfl).2 (aX (p:=f.1=1) dq (λh=>aA.2 ⟨bX S,?_⟩) λh=>?_)
 .rw[bX h,cond_true];by_cases g:f.2.2.2.1=n.1
  .rw[bX g];exact(ap (by rw[dU,fQ<|not_not_intro g];rfl)).2 (.ret _)
  .rw[fQ g];exact(al (by rw[dU,bX g];rfl)).2 (TS λk=>by
    have:f.1=4:=k;omega)
 rw[fQ h,cond_false];rw[show af.k vy (f.2.2.1,m.1)=rz (f.2.2.1,m.1) from rfl,show af.k nR (m,f.2.2.1.2.2.1,f.2.2.1.2.1)=iY m f.2.2.1.2.2.1 f.2.2.1.2.1 from rfl,show af.k SJ (f.2.2.1,f.2.2.1.2.1)=UN f.2.2.1 f.2.2.1.2.1 from rfl];obtain⟨R,B⟩:∃R:Node×Int×Bool×Int,R=bif UZ m n f then(Bv m n f.2.2.1 f,t,true,0) else(n,0,false,0):=⟨_,rfl⟩
 rw[<-B];have u:UZ m n f=false->bi (H5 af) (.ret (n,0,false,0)) R:=λe=>aT (by rw[B,e];rfl)<|.ret _;have l:∀{a b c d e g i j},UZ m n f=true->bi (H5 af) (.ak<|.c2 ⟨t,a,b,c,d,e,g,i,j,m,n,f,f.2.2.1⟩) R:=λe=>aT (by rw[B,e];rfl)<|TS λ_=>O e;unfold UZ kZ at u l;refine aX (p:=rz (f.2.2.1,m.1)=0) dq (λD=>aX (p:=f.2.2.1.2.2.1<iy m) rfl (λE=>aX (p:=f.2.2.1.2.2.2.1<=iy m) rfl (λG=>aX (p:=¬f.2.2.1.2.1=n.1) dU (λH=>?_) λg=>u ?_) λg=>u ?_) λg=>u ?_) λg=>(u ?_)
 .rw[bX D,bX E,bX G,bX H] at u l;cases hh:UN f.2.2.1 f.2.2.1.2.1
  .exact(al rfl).2 (u (by rw[hh];rfl))
  rw[hh] at u l;have Z:=(uR D).2.2.2.1;refine(ap rfl).2 (?_);unfold Ak at u l;refine aX (p:=¬(iY m f.2.2.1.2.2.1 f.2.2.1.2.1).2=0) dU (λx=>u (by rw[fQ x];rfl)) λx=>?_;have x:=bY.1 x;have kn:=KA x;have⟨_,W,A⟩:=yO x;have X:=(sJ<|yR V A.1 A.2).1;rw[bX x] at u l;refine aX (p:=(iY m f.2.2.1.2.2.1 f.2.2.1.2.1).1=3) dq (λC=>(ap (by rw[dU];exact bX kn)).2<|aX (p:=(iY m f.2.2.1.2.2.1 f.2.2.1.2.1).1=f.1) dq (λy=>?_) λy=>u ?_) λC=>aA.2 ⟨uE A.1 A.2,aA.2 ⟨yS X W.1<|by omega,(ap (by rw[dU];exact bX kn)).2<|aX (p:=(iY m f.2.2.1.2.2.1 f.2.2.1.2.1).1=f.1) dq (λy=>?_) λy=>u ?_⟩⟩
  .rw[bX C,bX y.symm] at u l;by_cases v:(f.2.2.2.2.length:Int)=0
   .exact(al (by rw[eG,dq,bX v.symm];rfl)).2 (l<|bX v)
   .exact(ap (by rw[eG,dq,fQ<|λk=>v k.symm];rfl)).2 (u<|fQ v)
  .rw[fQ<|λk=>y k.symm];rfl
  .rw[fQ C,bX y.symm] at u l;by_cases v:(f.2.2.2.2.length:Int)=(af.n (.int .i64) (af.n eQ m.2.2.2.2.2.2.2 f.2.2.1.2.2.1:Mode).1 f.2.2.1.2.1:Int)
   .exact(al<|afc v).2 (l<|bX v)
   .exact(ap<|afb v).2 (u<|fQ v)
  .rw[fQ<|λk=>y k.symm];rfl
 .rw[fQ g,fG,cq]
 .rw[fQ g,cq,cq];rfl
 .rw[fQ g,fG,cq];rfl
 .rw[fQ g,fG];rfl
def aqX{m:au}{n:Node}{c:List Seen}:bi (H5 af) (amT af m n c)<|lb m n c false:=by
 unfold amT Pg abO lb;refine ?_;rw[show af.k iT (m,n)=dn m n from rfl,show af.k nc (n.G,n.i)=K1 n.G n.i from rfl];by_cases h:dn m n=0
 .rw[bX h,yy h,dq];refine(al<|xf h).2 ?_;cases decide (n.2.1=1)
  .exact(ap rfl).2 (.ret _)
  refine(al rfl).2 ((al rfl).2<|aX (p:=¬(c.length:Int)=2) dU (λg=>aT (by rw[fQ g];rfl)<|.ret _) λg=>?_);rw[bX<|bY.1 g,show af.k DL (m.1,c)=jy m.1 c from rfl];cases he:(jy m.1 c).2.2
  .rw[aI,H5];exact(ap rfl).2 (.ret _)
  have⟨l,u,i⟩:=Ym he;have j:=Y3 i;exact afM (m:=m) (n:=n) (f:=(jy m.1 c).1) (t:=(jy m.1 c).2.1) rfl rfl rfl rfl rfl j.1 (X_ h i) (du h).1
 .rw[fQ h];exact(ap<|qD h).2 ((ap<|qD h).2<|.ret _)
def ag1:(au×Node×List Seen)->(Node×Int×Bool×Int):=λ(m,n,s)=>lb m n s false
def as6:aL:=.all [aW,fE,.slice pV] [fE,yI,.bool,yI] ag1
def arl:Sd 90 as6:=fa<|bE ar dK sl 132 [] [⟨90,7,[[6,10,12,13,14]]⟩,⟨90,12,[[6,10,12,13,15]]⟩,⟨90,16,[[6,10,12,13]]⟩] (λA (m,n,c)=>amT A m n c) H5 ajF (kz (fc func90 (fc func46 (fc func48 (fc func139 (fc func140 (fc func141 (fc func198 (fc func251 fz)))))))) (sc JJ (sc Eb (sc arv (sc Ec (sc ahR (sc ahS (sc abl (sc abn sz))))))))) (λA y=>match y with |.c0 p=>⟨42,sl,by kernel_rfl⟩|.c1 p=>⟨226,sl,by kernel_rfl⟩|.c2 p=>⟨124,sl,by kernel_rfl⟩|.c3 p=>⟨58,sl,by kernel_rfl⟩) λ(m,n,c) f h=>aqX
def EW:vP:=(0,0,(0,0,0,0,0),0,([]:List Int))
def iL(m:au)(n:Node):Node×vP×Bool×Int:=
 bif decide (dn m n=0) then
  bif decide (n.2.1=1) then
   bif decide (0<n.2.2.2.2.1-1) then((n.1,n.2.1,n.2.2.1,n.2.2.2.1,n.2.2.2.2.1-1,n.2.2.2.2.2),EW,false,0)
   else bif (af.n .bool m.2.2.2.2.2.2.1 n.1:Bool) then((n.1,2,(0,n.1,0,0,af.b .shl .i64 1 n.1),(n.1,m.1,af.b .shl .i64 1 n.1,1,0,0,0),0,n.2.2.2.2.2),(1,0,(0,0,0,0,0),n.1,([]:List Int)),true,0)
   else((n.1,n.2.1,n.2.2.1,n.2.2.2.1,(tW m n.1).1,n.2.2.2.2.2),EW,false,0)
  else(lU,EW,false,181)
 else(lU,EW,false,dn m n)
theorem ae6{m:au}{n:Int}:(tW m n).1<=9223372036854775807:=by
 unfold tW;cases decide (pN m n=0)
 .simp_all
 .rw[cond_true,gB,IntKind.wrap_i64];omega
def agM{m:au}{n:Node}(h:dn m n=0)(f:n.2.1=1):1<=n.2.2.2.2.1/\af.b .sub .i64 n.2.2.2.2.1 1=n.2.2.2.2.1-1:=by
 have c:=(fR.1 (du h).2).i;rw[IB,bX f,cond_true,tP] at c;have:=@ae6 m n.1;exact⟨c.1,by rw[ia,my (by omega)<|by omega]⟩
def jq(m:au)(n:Node):Node×Int:=
 bif decide (dn m n=0) then
  bif kT n then
   bif decide ((nC n.2.2.1 m.1).1.2.1=0) then((n.1,n.2.1,(nC n.2.2.1 m.1).1,n.2.2.2.1,n.2.2.2.2.1,n.2.2.2.2.2.1,n.2.2.2.2.2.2.1,(JB n.2.2.2.2.2.2.2).1),0)
   else((n.1,n.2.1,(nC n.2.2.1 m.1).1,n.2.2.2),0)
  else(lU,181)
 else(lU,dn m n)
theorem step_ok{m:au}{n:Node}(h:dn m n=0)(g:kT n=true):(nC n.2.2.1 m.1).2=0:=by
 have c:=(fR.1 (du h).2).h;rw[FO,g,cond_true,eH] at c;have f:=c.1;simp[kZ,eH,tP] at f;rw[nC,bX f.1]
 grind
def al7{m:au}{n:Node}(h:dn m n=0):(JB n.2.2.2.2.2.2.2).2=0:=by
 rw[JB,E9 h];rfl
def t23(A:aS)(j:Int)(l:Int)(i:Int)(h:Int)(c:Int)(g:Int)(f:Int):LT (uO×Int×Int) Empty:=.br (A.cm (A.k qQ (j,l,i,h,c,g,f)) 0) (.ret ((0,0,0,0,0,0,0),0,A.k qQ (j,l,i,h,c,g,f)))<|.br (A.bQ h c) (.ret ((j,l,i,h,c,g,f),2,0))<|.ao (A.bQ 0 j)<|.ret ((j,l,A.b .or .i64 i<|A.b .shl .i64 1 j,1,0,1,0),1,0)
def oq:uO->(uO×Int×Int):=λ(j,l,i,h,g,f,c)=>(t23 af j l i h g f c).val<|Ty.aO [re,yI,yI]
def axc:aL:=.all [re] [re,yI,yI] oq
def ark:Sd 279 axc:=fa (aN ar dK sl 67 [] (λA (l,p,j,i,g,f,c)=>t23 A l p j i g f c) (kz (fc func279 fz) (sc Rs sz)) (λ((l,p,j,i,g,f,c):uO) v h=>by
 show(t23 af l p j i g f c).pre=true;simp only[t23,LT.pre,STD,bne_iff_ne,beq_iff_eq,bne_eq_false_iff_eq,beq_eq_false_iff_ne];simp only[Ty.kS,Ty.has,Kw] at h
 (repeat' (first|intro _|constructor))<;>(try (have u:=iw.1 (by assumption);unfold oC at u;omega))))
def t27(A:aS)(j:Int)(l:Int)(i:Int)(h:Int)(g:Int)(f:Int)(c:Int):LT (uO×Int×Int) Empty:=.br (A.bG (A.k qQ (j,l,i,h,g,f,c)) 0) (.br (A.bG h 0) (.br (A.bG g 0) (.ret ((j,l,i,h,g,f,c),3,0))<|.ret<|A.k oq (j,l,i,h,g,f,c))<|.ret<|A.k oq (j,l,i,h,g,f,c))<|.ret<|A.k oq (j,l,i,h,g,f,c)
def uT:uO->(uO×Int×Int):=λ(j,l,i,h,g,f,c)=>(t27 af j l i h g f c).val<|Ty.aO [re,yI,yI]
def axf:aL:=.all [re] [re,yI,yI] uT
def aw4:Sd 278 axf:=fa<|aN ar dK sl 43 [] (λA (j,l,i,h,g,f,c)=>t27 A j l i h g f c)<|kz (fc func278 fz)<|sc ark<|sc Rs sz
def qI(n:Node):uO×Int:=bif decide (n.2.1=2)&&(decide (n.2.2.2.1.2.2.2.1<2)||decide (n.2.2.2.1.2.2.2.1<=n.2.2.2.1.2.2.2.2.1)) then(n.2.2.2.1,4) else bif decide (n.2.1=3) then((uT n.2.2.2.1).1,(uT n.2.2.2.1).2.1) else((oq n.2.2.2.1).1,(oq n.2.2.2.1).2.1)
theorem L5{v:uO}(h:tQ v=0):(oq v).2.2=0:=by
 simp[oq,t23,LT.val,bZ,chk]
 grind
def NJ(m:au)(k n:Int):Int:=af.n yI (af.n eQ m.2.2.2.2.2.2.2 k:Mode).1 n
def awo(m:au)(n:Node):Int:=NJ m n.2.2.1.2.2.1 n.1
def awQ(m:au)(n:Node):Int:=bif decide ((xv m n.2.2.1 n.2.2.2.2.2.2.2.2.2.2.2).2=0) then(xv m n.2.2.1 n.2.2.2.2.2.2.2.2.2.2.2).1 else 0
def afV(m:au)(n:Node):vP:=((iY m n.2.2.1.2.2.1 n.1).1,awQ m n,n.2.2.1,0,bif decide ((iY m n.2.2.1.2.2.1 n.1).1=3) then([]:List Int) else(Rq n.2.2.2.2.2.2.2<|awo m n).1)
theorem aew{m:au}{n:Int}(g:df m=true)(h:0<=n/\n<=m.1-1)(x:Mode)(c:pM m x=true):0<=x.1.getD n.toNat 0/\x.1.getD n.toNat 0<=8:=by
 have l:=sJ c;have i:=(jc g).2.2.1;simp[pM,eH] at c;have f:=c.2;have l1:m.2.2.2.2.2.2.1.length=x.1.length:=by omega
 have l2:x.2.1.length=x.1.length:=by omega
 rw[Ap l1 l2,eH] at f;have j:n.toNat<x.1.length:=by omega
 simp_all
def akA{m:au}{k n:Int}(f:df m=true)(g:0<=n/\n<=m.1-1)(c:0<=k/\k<iy m):0<=NJ m k n/\NJ m k n<=8:=aew f g _<|yR f c.1 c.2
def aoN(n:Node)(v:uO):Node:=(n.1,4,(n.2.2.1.1,n.2.2.1.2.1,n.2.2.1.2.2.1,n.2.2.1.2.2.2.1,v.2.2.1),v,n.2.2.2.2.1,false,n.2.2.2.2.2.2)
def alo(n:Node)(s t:Int)(b:Bool)(c:Int):Node:=(n.1,s,(0,0,0,0,0),(0,0,0,0,0,0,0),t,b,c,n.2.2.2.2.2.2.2)
def Rc(m:au)(n:Node):Node×vP×Bool×Int:=((n.1,n.2.1,qM m n.2.2.1 (afV m n).2.1,n.2.2.2),afV m n,true,0)
def xa(m:au)(n:Node):Node×vP×Bool×Int:=bif decide ((qI n).2=2) then(alo n 5 0 false 1,EW,false,0) else bif decide ((qI n).2=3) then(alo n 1 (tW m n.1).1 n.2.2.2.2.2.1 2,EW,false,0) else bif decide ((qI n).2=4) then(alo n 1 (Mv m n.1).1 n.2.2.2.2.2.1 n.2.2.2.2.2.2.1,EW,false,0) else Rc m (aoN n (qI n).1)
def rH(m:au)(n:Node):Node×vP×Bool×Int:=bif decide (dn m n=0) then(bif kT n&&decide (n.2.2.1.2.1=n.1) then xa m n else(lU,EW,false,181)) else(lU,EW,false,dn m n)
theorem oL{m:au}{n:Node}(h:dn m n=0)(c:kT n=true):kZ m n.2.2.1=true/\tQ n.2.2.2.1=0/\n.2.2.2.1.1=n.1/\n.2.2.2.1.2.1=m.1/\n.2.2.1.2.2.2.2=n.2.2.2.1.2.2.1:=by
 have f:=(fR.1 (du h).2).h;rw[FO,c,cond_true] at f
 simp_all
def yG{m:au}{c:gE}(h:kZ m c=true):rz (c,m.1)=0/\(0<=c.2.2.1/\c.2.2.1<iy m)/\c.2.2.2.1<=iy m:=by
 simp[kZ,eH,tP] at h;exact⟨h.1,⟨(uR h.1).d.1,h.2.1⟩,h.2.2⟩
def aai{a b c d e f g:Int}(h:oC a b c d e f g)(i:e<d):oq (a,b,c,d,e,f,g)=((a,b,pY c a,1,0,1,0),1,0):=by
 simp[oq,t23,LT.val,bZ,b_,ax,iw.2 h,pY,show ¬d<=e from by omega]
def aaj{a b c d e f g:Int}(h:oC a b c d e f g)(i:d<=e):oq (a,b,c,d,e,f,g)=((a,b,c,d,e,f,g),2,0):=by
 simp[oq,t23,LT.val,bZ,b_,ax,iw.2 h,i]
def inc_le{d:Int}(c:0<=d)(f:d<=1048576):0<=inc d/\inc d<=1048576:=by
 unfold inc;omega
def aad{a b c d e f g i j l:Int}(h:oC a b c d e f g)(p:0<=i/\i<((2^b.toNat:Nat):Int))(u:0<=j/\j<=1048576)(v:0<=l/\l<=1048576):oC a b i j l 0 0:=by
 unfold oC at h ⊢;omega
theorem Zb{a b c d e f g s k:Int}(h:oC a b c d e f g)(j:0<=s)(u:s<b)(x:s≠a)(X:k=0\/k=1)(S:(vu ((a,b,c,d,e,f,g),s,k)).2=0):
  ∃E K O P Q,(vu ((a,b,c,d,e,f,g),s,k)).1=(a,b,E,K,O,P,Q)/\oC a b E K O P Q/\qC E s=true:=by
 have Z:=h;unfold oC at Z;have hp:=Ar (n:=b.toNat) (by omega);have id:=inc_le (d:=d) (by omega) (by omega);have V:=inc_le (d:=e) (by omega) (by omega);have I:=λ{c s:Int} (h:0<=c/\c<((2^b.toNat:Nat):Int)) (y:0<=s/\s<b)=>Zq (c:=c) (s:=s) (n:=b) h.1 (by omega) h.2 y.1 y.2;have D:=λ{c s:Int} (h:0<=c/\c<((2^b.toNat:Nat):Int)) (y:0<=s/\s<b)=>X7 (c:=c) (s:=s) (n:=b) h.1 (by omega) h.2 y.1 (by omega);have B:=λ{c s:Int} (h:0<=c/\c<((2^b.toNat:Nat):Int)) (y:0<=s/\s<b) {i:Int} (G:0<=i)=>Sg (c:=c) (s:=s) (i:=i) h.1 (by omega) y.1 (by omega) G;have J:=λ{c s:Int} (h:0<=c/\c<((2^b.toNat:Nat):Int)) (y:0<=s/\s<b) {i:Int} (G:0<=i)=>Le (c:=c) (s:=s) (i:=i) h.1 (by omega) y.1 (by omega) G;have l:0<=c/\c<((2^b.toNat:Nat):Int):=⟨by omega,by omega⟩;have A:0<=a/\a<b:=⟨by omega,by omega⟩;have p:0<=s/\s<b:=⟨j,u⟩;have C:0<=g/\g<b:=⟨by omega,by omega⟩;have W:f=0\/f=1\/f=2:=by omega
 rcases W with rfl|rfl|rfl<;>rcases X with rfl|rfl
 .rw[Y9 h j u x];exact⟨_,_,_,_,_,rfl,aad h (I l p) id<|by omega,by simp_all⟩
 .exfalso;revert S;simp[vu,t25,It,LT.val,bZ,b_,bf,ji,jI.2 ⟨h,j,u,x⟩,uu h j u x,Qc]
 .rw[Y_ h j u x];exact⟨_,_,_,_,_,rfl,aad h (I (I l p) A) id<|by omega,by simp_all⟩
 .rw[S_ h j u x];refine⟨_,_,_,_,_,rfl,?_,by simp_all⟩;have:=I l p;unfold oC
  simp_all
 .by_cases v:s=g
  .subst v;rw[Ta h j u x];exact⟨_,_,_,_,_,rfl,aad h (I (I l p) A) id<|by omega,by rw[B (I l p) A j,B l p j];simp⟩
  .rw[Tb h j u x v];exact⟨_,_,_,_,_,rfl,aad h (D (I (I l p) A) C) id V,by
    have H:(g != s)=true:=by simp;omega
    rw[J (I (I l p) A) C j,B (I l p) A j,B l p j,H];simp⟩
 .by_cases v:s=g
  .subst v;exfalso;revert S;simp[vu,t25,It,LT.val,bZ,b_,bf,ji,jI.2 ⟨h,j,u,x⟩,uu h j u x,LF]
  .rw[Tc h j u x v];exact⟨_,_,_,_,_,rfl,aad h (D (I (I l p) C) A) id V,by
    have H:(a != s)=true:=by simp;omega
    rw[J (I (I l p) C) A j,B (I l p) C j,B l p j,H];simp⟩
theorem aac{a b c d e f g s:Int}(h:oC a b c d e f g)(j:0<=s)(y:s<b)(p:s≠a):
  ∃u v x,uU ((a,b,c,d,e,f,g),s)=((a,b,u,d,e,v,x),0)/\oC a b u d e v x:=by
 have A:=h;unfold oC at A;have D:=Ar (n:=b.toNat) (by omega);have C:=X7 (c:=c) (s:=s) (n:=b) (by omega) (by omega) (by omega) j (by omega);have B:f≠0->qC (xg c s) a=true:=λl=>by
  rw[Le (by omega) (by omega) j (by omega)<|by omega,A.2.2.2.2.2.j l]
  simp_all
 by_cases l:f=2
 .subst l;by_cases i:g=s
  .subst i;refine⟨_,_,_,aab h p,?_⟩;unfold oC
   grind
  .refine⟨_,_,_,aaa h j y p i,?_⟩;unfold oC
   simp_all
 .refine⟨_,_,_,Z_ h j y p l,?_⟩;unfold oC
  simp_all
theorem aqs{a b c d e f g i:Int}(h:oC a b c d e f g)(j:0<=i/\i<=1048576):oC a b c d i f g:=by
 unfold oC at h ⊢
 simp_all
theorem TC{a b c d e f g:Int}(h:oC a b c d e f g):∃i l p u x v,oq (a,b,c,d,e,f,g)=((a,b,i,l,p,u,x),v,0)/\oC a b i l p u x/\(v==1)=decide (e<d)/\(v=1->qC i a=true):=by
 have A:=h;unfold oC at A;have C:=Ar (n:=b.toNat) (by omega);have B:=Zq (c:=c) (s:=a) (n:=b) (by omega) (by omega) (by omega) (by omega) (by omega);have y:qC (pY c a) a=true:=by rw[Sg (by omega) (by omega) (by omega) (by omega)<|by omega];simp
 by_cases j:e<d
 .refine⟨_,_,_,_,_,_,aai h j,?_,by simp_all,λ_=>y⟩;unfold oC
  grind
 .exact⟨_,_,_,_,_,_,aaj h<|by omega,h,by simp_all,λh=>by omega⟩
theorem Zv{a b c d e f g:Int}(h:oC a b c d e f g):∃i j l p u v,uT (a,b,c,d,e,f,g)=((a,b,i,j,l,p,u),v,0)/\oC a b i j l p u/\(v==1)=decide (e<d):=by
 have⟨i,j,l,p,u,v,A,B,C,_⟩:=TC h;by_cases x:d=0/\e=0
 .refine⟨c,d,e,f,g,3,?_,h,?_⟩
  .obtain⟨rfl,rfl⟩:=x;simp[uT,t27,LT.val,bZ,bf,iw.2 h]
  simp_all
 .refine⟨i,j,l,p,u,v,?_,B,C⟩;rw[<-A];by_cases y:d=0
  .have E:(e==0)=false:=by simp_all
   simp[uT,t27,LT.val,bZ,bf,iw.2 h,y,E]
  .have D:(d==0)=false:=by simp_all
   simp[uT,t27,LT.val,bZ,bf,iw.2 h,D]
theorem O5{c:Int×Int×Int×Int×Int}{w:Int}{o:Int×Int×Int×(Int×Int×(Int×Int×Int×Int×Int)×Int×List Int)×Int}:∀{l:List<|Int×Int×(Int×List Int)} {k:Nat},wH c w k l=some o->o.1=3/\∃s∈l,s.1=2:=by
 intro l
 induction l with
 | nil=>intro k h;cases h
 | cons s l ih=>
   intro k h;rw[wH] at h
   grind
variable{c:List (Int×Int×(Int×List Int))}
def MO{p m n:Int}{o:Int×Int×Int×(Int×Int×(Int×Int×Int×Int×Int)×Int×List Int)×Int}:∀{l:List Int} {i:Nat},uJ t p m n c i l=some o->o.1=3/\∃s∈c,s.1=2:=by
 intro l
 induction l with
 | nil=>intro i h;cases h
 | cons v l ih=>
   intro i h;rw[uJ] at h;split at h
   rotate_left
   exact ih h;rename_i g f;cases h;exact O5 f
theorem MN{c:Int×Int×Int×Int×Int}{w:Int}{o:Int×Int×Int×(Int×Int×(Int×Int×Int×Int×Int)×Int×List Int)×Int}:∀{l:List<|Int×Int×(Int×List Int)} {k:Nat},wH c w k l=some o->o.2.1=w:=by
 intro l
 induction l with
 | nil=>intro k h;cases h
 | cons s l ih=>
   intro k h;rw[wH] at h
   grind
theorem JI{p m n:Int}{o:Int×Int×Int×(Int×Int×(Int×Int×Int×Int×Int)×Int×List Int)×Int}:∀{l:List Int} {i:Nat},uJ t p m n c i l=some o->∃k,k<l.length/\o.2.1=((i+k:Nat):Int):=by
 intro l
 induction l with
 | nil=>intro i h;cases h
 | cons v l ih=>
   intro i h;rw[uJ] at h;cases hs:wH (t,p,m,n,v) i 0 c with
   | none=>
     rw[hs] at h;have⟨k,f,g⟩:=ih h;exact⟨k+1,by simp_all,by omega⟩
   | some j=>
     rw[hs] at h;cases h;exact⟨0,by simp_all,by rw[MN hs];rfl⟩
variable{v:Int×Int×Int×Int×Int×Int×Int}
theorem Aw{p m n s c:Int}{f:List (Int×Int×(Int×List Int))}(h:(qy ((t,p,m,n,s),v,c,f)).2=0):
  qQ v=0/\0<=c/\c<v.2.1/\c≠v.1/\((∃k,k<(vws (v,c)).length/\(qy ((t,p,m,n,s),v,c,f)).1.1=3/\(qy ((t,p,m,n,s),v,c,f)).1.2.1=(k:Int))\/(qy ((t,p,m,n,s),v,c,f)).1.1=1\/(qy ((t,p,m,n,s),v,c,f)).1.1=2):=by
 rw[qy] at h ⊢;cases h1:(qQ v != 0||rz ((t,p,m,n,s),v.2.1) != 0)
 .rw[h1] at h;cases h2:(decide (c<0)||decide (v.2.1<=c)||c==v.1||f.length != 2)
  .rw[cond_false];simp at h1 h2;refine⟨h1.1,by omega,by omega,h2.1.2,?_⟩;rw[KT];cases h3:uJ t p m n f 0 (vws (v,c)) with
   | some o=>
     obtain⟨k,g,i⟩:=JI h3;exact .inl ⟨k,g,(MO h3).1,by simp_all⟩
   | none=>
     right;rw[BV]
     grind
  simp_all
 simp_all
theorem BJ{a b c d e f g s:Int}(h:oC a b c d e f g)(j:0<=s)(y:s<b)(x:s≠a):
  ∃i u v,uU ((a,b,c,d,e,f,g),s)=((a,b,i,d,e,u,v),0)/\oC a b i d e u v/\qC i s=false:=by
 have⟨i,u,v,p,B⟩:=aac h j y x;refine⟨i,u,v,p,B,?_⟩;have C:=aqr h;have D:=h;unfold oC at D;have:i=xg c s:=by
  by_cases A:f=2
  .subst A;by_cases l:g=s
   .subst l;rw[aab h x] at p
    simp_all
   .rw[aaa h j y x l] at p
    simp_all
  .rw[Z_ h j y x A] at p
   simp_all
 rw[this,Le (by omega) C j (by omega) j,bne_self_eq_false,cq]
theorem Za{a b c d e f g s:Int}{k:Nat}(h:oC a b c d e f g)(l:0<=s)(p:s<b)(u:s≠a)(j:k<(vws ((a,b,c,d,e,f,g),s)).length):(vu ((a,b,c,d,e,f,g),s,(k:Int))).2=0/\((k:Int)=0\/(k:Int)=1):=by
 have x:=h;unfold oC at x;have v:f=0\/f=1\/f=2:=by omega
 rw[vws] at j;rcases v with rfl|rfl|rfl
 .rw[Qc] at j;have:k=0:=by simp_all
  subst this;exact⟨by rw[show((0:Nat):Int)=0 from rfl,Y9 h l p u],.inl rfl⟩
 .rw[Qd] at j;have:k<2:=j;have:k=0\/k=1:=by omega
  rcases this with rfl|rfl
  .exact⟨by rw[show((0:Nat):Int)=0 from rfl,Y_ h l p u],.inl rfl⟩
  .exact⟨by rw[show((1:Nat):Int)=1 from rfl,S_ h l p u],.inr rfl⟩
 .by_cases i:s=g
  .subst i;rw[LF] at j;have:k=0:=by simp_all
   subst this;exact⟨by rw[show((0:Nat):Int)=0 from rfl,Ta h l p u],.inl rfl⟩
  .rw[LG i] at j;have:k<2:=j;have:k=0\/k=1:=by omega
   rcases this with rfl|rfl
   .exact⟨by rw[show((0:Nat):Int)=0 from rfl,Tb h l p u i],.inl rfl⟩
   .exact⟨by rw[show((1:Nat):Int)=1 from rfl,Tc h l p u i],.inr rfl⟩
def aek{s:Int}{o:Int×Int×Int×(Int×Int×(Int×Int×Int×Int×Int)×Int×List Int)×Int}(h:o.1=1):oY (v,s,o)=uU (v,s):=by
 have⟨k,w,f,⟨i,j,⟨t,p,m,n,x⟩,g,fd⟩,c⟩:=o;subst h;rfl
def Lc{s:Int}{o:Int×Int×Int×(Int×Int×(Int×Int×Int×Int×Int)×Int×List Int)×Int}(h:o.1=2):oY (v,s,o)=YE (v,s):=by
 have⟨k,w,f,⟨i,j,⟨t,p,m,n,x⟩,g,fd⟩,c⟩:=o;subst h;rfl
def ael{s:Int}{o:Int×Int×Int×(Int×Int×(Int×Int×Int×Int×Int)×Int×List Int)×Int}(h:o.1=3):oY (v,s,o)=vu (v,s,o.2.1):=by
 have⟨k,w,f,⟨i,j,⟨t,p,m,n,x⟩,g,fd⟩,c⟩:=o;subst h;rfl
theorem J0{p m n x s a b c d e f g:Int}{j:List<|Int×Int×(Int×List Int)}(h:(qy ((t,p,m,n,x),(a,b,c,d,e,f,g),s,j)).2=0):
  ∃l E G u v,oY ((a,b,c,d,e,f,g),s,(qy ((t,p,m,n,x),(a,b,c,d,e,f,g),s,j)).1)=((a,b,l,E,G,u,v),0)/\oC a b l E G u v/\qC l s=((qy ((t,p,m,n,x),(a,b,c,d,e,f,g),s,j)).1.1==3)/\0<=s/\s<b:=by
 have⟨K,y,A,D,O⟩:=Aw h;have i:=iw.1 K;rcases O with ⟨k,S,B,P⟩|B|B
 .have⟨Q,I⟩:=Za i y A D S;have⟨l,E,G,u,v,H,C,J⟩:=Zb i y A D I Q;rw[ael B,P]
  grind
 .have⟨l,u,v,H,C,J⟩:=BJ i y A D;exact⟨l,d,e,u,v,by rw[aek B];omega,C,by simp_all,y,A⟩
 .have⟨l,u,v,H,C,J⟩:=BJ i y A D;have V:=i;unfold oC at V;refine⟨l,d,inc e,u,v,?_,aqs C<|inc_le (by omega)<|by omega,by simp_all,y,A⟩;rw[Lc B];exact PL H (show 0<=e by omega) (show e<=1048576 by omega)
def t24(A:aS)(i:Int)(l:Int)(g:Int)(j:Int)(h:Int)(f:Int)(c:Int):LT Bool Empty:=.br (A.bG (A.k qQ (i,l,g,j,h,f,c)) 0) (.ao (A.bQ 0 i)<|.ret<|A.bG (A.b .and .i64 (A.b .shr .i64 g i) 1) 1)<|.ret false
def UI:uO->Bool:=λ(j,l,i,h,g,f,c)=>(t24 af j l i h g f c).val<|Ty.aO [.bool]
def axd:aL:=.all [re] [.bool] UI
def aw2:Sd 217 axd:=fa (aN ar dK sl 27 [] (λA (l,p,j,i,g,f,c)=>t24 A l p j i g f c) (kz (fc func217 fz) (sc Rs sz)) (λ((l,p,j,i,g,f,c):uO) v h=>by
 show(t24 af l p j i g f c).pre=true;simp only[t24,LT.pre,STD,bne_iff_ne,beq_iff_eq,bne_eq_false_iff_eq,beq_eq_false_iff_ne];simp only[Ty.kS,Ty.has,Kw] at h
 (repeat' (first|intro _|constructor))<;>(try (have u:=iw.1 (by assumption);unfold oC at u;omega))))
def FI:pW:=(2,0,0,EW,0)
def adh:pW:=(0,0,0,EW,0)
def u9(n:Node)(c:List Seen):pW×Int:=qy (n.2.2.1,n.2.2.2.1,n.2.2.1.2.1,c)
def vD(m:au)(n:Node)(o:pW):pW:=bif decide (o.1=3) && !(Ak m n.2.2.1 o.2.2.2.1) then FI else o
def AS(n:Node)(v:uO):Node:=(n.1,n.2.1,(n.2.2.1.1,n.2.2.1.2.1,n.2.2.1.2.2.1,n.2.2.1.2.2.2.1,v.2.2.1),v,n.2.2.2.2)
def XC(n:Node)(o:pW):uO:=(oY (n.2.2.2.1,n.2.2.1.2.1,o)).1
def J5(m:au)(n:Node)(f:vP):Node:=(n.1,n.2.1,qM m n.2.2.1 f.2.1,n.2.2.2.1,n.2.2.2.2.1,n.2.2.2.2.2.1,n.2.2.2.2.2.2.1,bif decide (f.1=3) then n.2.2.2.2.2.2.2 else(sS n.2.2.2.2.2.2.2 n.2.2.1.2.1 f.2.2.2.2).1)
def x9(n:Node):Node:=bif decide (n.2.1=4) && !(UI n.2.2.2.1) then(n.1,3,n.2.2) else n
def Jd(m:au)(n:Node)(o:pW):Node:=x9<|bif decide (o.1=3) then J5 m (AS n<|XC n o) o.2.2.2.1 else AS n (XC n o)
def oD(m:au)(n:Node)(c:List Seen):Node×pW×Int:=bif decide (dn m n=0) then(bif kT n&&decide (¬n.2.2.1.2.1=n.1) then(bif decide ((u9 n c).2=0) then(Jd m n<|vD m n (u9 n c).1,vD m n (u9 n c).1,0) else(lU,adh,(u9 n c).2)) else(lU,adh,181)) else(lU,adh,dn m n)
variable{seen:List Seen}
def ajk{c:gE}{v:uO}{s:Int}(h:(qy (c,v,s,seen)).2=0):(oY (v,s,(qy (c,v,s,seen)).1)).2=0/\(oY (v,s,FI)).2=0:=by
 have⟨a,b,c,d,e,f,g⟩:=v;refine⟨?_,?_⟩
 .have⟨l,D,E,p,u,j,_⟩:=J0 h;rw[j]
 .have⟨x,y,A,B,_⟩:=Aw h;have i:=iw.1 x;have⟨l,p,u,j,_⟩:=BJ i y A B;have C:=i;unfold oC at C;rw[Lc rfl,PL j (show 0<=e by omega)<|show e<=1048576 by omega]
theorem Sk{m:au}{n:Node}{f:vP}(l:dn m n=0)(h:Ak m n.2.2.1 f=true):(sS n.2.2.2.2.2.2.2 n.2.2.1.2.1 f.2.2.2.2).2=0:=by
 have i:=fR.1 (du l).2;simp[Ak,eH,tP] at h;have c:=yO h.1;have p:=akA c.1 c.2.1 c.2.2;have u:(f.D.length:Int)<=8:=by
  rw[h.2.2];by_cases g:(iY m n.c.c n.c.2.1).1=3
  .rw[bX g];grind
  .rw[fQ g];exact p.2
 have j:=i.f;rw[sS,i.d,bX (show 0<=n.c.2.1/\n.c.2.1<=(n.j.length:Int)-1 by rw[j];exact c.2.1),fQ<|show ¬8<(f.D.length:Int) by omega];rfl
def Tn{m:au}{n:Node}{o:pW}(h:o.1=3)(c:Ak m n.2.2.1 o.2.2.2.1=false):vD m n o=FI:=by rw[vD,bX h,c];rfl
def Ov{m:au}{n:Node}{o:pW}(c:Ak m n.2.2.1 o.2.2.2.1=true):vD m n o=o:=by rw[vD,c,Bool.not_true,cq];rfl
def ZG{m:au}{n:Node}{o:pW}(h:¬o.1=3):vD m n o=o:=by rw[vD,fQ h];rfl
theorem ahy{step:Y->LT (Node×pW×Int) Y}{n:Node}{o:pW}{b:Bool}(c:b=UI n.2.2.2.1):bi step (.br (af.bG n.2.1 4) (.br (af.not b) (.ret ((n.1,3,n.2.2),o,0))<|.ret (n,o,0))<|.ret (n,o,0)) (x9 n,o,0):=by
 rw[x9];refine aX (p:=n.2.1=4) dq (λh=>?_) λh=>aT (by simp_all)<|.ret _;rw[bX h,dC,<-c];cases b
 .exact(ap rfl).2 (.ret _)
 .exact(al rfl).2 (.ret _)
def on4(x:Node):Node:=(x.1,4,x.2.2.1,x.2.2.2.1,x.2.2.2.2.1,false,x.2.2.2.2.2.2)
def LZ{a b:Int}:af.not (af.bG a b)=decide (¬a=b):=by rw[dq,ji,iP];simp
def Zj{step:Y->LT (Node×Int) Y}{n:Node}{t:LT (Node×Int) Y}{r:Node×Int}(h:bi step t r):bi step (.br (af.not<|af.k ot n) (.ret (n,0)) t)<|bif kT n then r else(n,0):=by
 rw[show af.k ot n=kT n from rfl];cases kT n
 .exact(ap rfl).2 (.ret _)
 .exact(al rfl).2 h
def step_pos{m:au}{n:Node}(h:dn m n=0)(f:kT n=true):0<=(nC n.2.2.1 m.1).1.2.1:=by
 have c:=yG (oL h f).1;have i:=(uR c.1).2.2.1;rw[nC,bX c.1,cond_true];by_cases g:n.2.2.1.2.1+1=m.1
 .rw[bX g,cond_true];cases decide (n.2.2.1.2.2.2.1=0)<;>exact ai 0
 .rw[fQ g];exact(by omega:(0:Int)<=n.2.2.1.2.1+1)
abbrev Ph:LT (Node×Int) Empty:=(.ret ((0,0,(0,0,0,0,0),(0,0,0,0,0,0,0),0,false,0,0,([]:List Int),([]:List gY),0,0),2))
abbrev abQ(A:aS)(m:au)(n:Node)(c:Int):LT (Node×Int) Empty:=(.ao (A.bQ 0 m.1)<|.br (A.not<|A.k DN ((0,A.b .sub .i64 (A.b .shl .i64 1 m.1) 1),c)) (Ph)<|.ao (A.bQ 0 n.1)<|.br (A.bG (A.b .and .i64 c<|A.b .shl .i64 1 n.1) 0) (Ph)<|.bU 73 "starctl.go:102")
abbrev Pj(A:aS)(n:Node):=(A.k nc (n.2.2.2.2.2.2.2,n.2.2.2.2.2.2.2.2.1))
def amX(A:aS)(m:au)(n:Node)(c:Int):LT (Node×Int) Empty:=.br (A.cm (A.k iT (m,n)) 0) (.br (A.cm (A.k iT (m,n)) 0) (.ret ((0,0,(0,0,0,0,0),(0,0,0,0,0,0,0),0,false,0,0,([]:List Int),([]:List gY),0,0),A.k iT (m,n)))<|abQ A m n c)<|.br (A.not<|A.bG n.2.1 0) (.ret ((0,0,(0,0,0,0,0),(0,0,0,0,0,0,0),0,false,0,0,([]:List Int),([]:List gY),0,0),181))<|.br (A.cm (Pj A n).2 0) (.br (A.cm (Pj A n).2 0) (.ret ((0,0,(0,0,0,0,0),(0,0,0,0,0,0,0),0,false,0,0,([]:List Int),([]:List gY),0,0),(Pj A n).2))<|abQ A m n c)<|.ao (A.bQ 0 m.1)<|.br (A.not<|A.k DN ((0,A.b .sub .i64 (A.b .shl .i64 1 m.1) 1),c)) (Ph)<|.ao (A.bQ 0 n.1)<|.br (A.bG (A.b .and .i64 c<|A.b .shl .i64 1 n.1) 0) (Ph)<|.ret ((n.1,4,(0,0,0,0,c),(n.1,m.1,c,1,0,0,0),0,n.2.2.2.2.2.1,n.2.2.2.2.2.2.1,(Pj A n).1),0)
def axD{m:au}{n:Node}{s:Int}:bi Empty.elim (amX af m n s)<|Fp m n s:=by
 unfold amX Pj abQ Ph Fp;refine ?_;rw[show af.k iT (m,n)=dn m n from rfl,show af.k nc (n.G,n.i)=K1 n.G n.i from rfl];by_cases h:dn m n=0
 .rw[bX h,yy h,cond_true];have u:=(jc (du h).1).1;have v:=Vy u;have l:=(fR.1 (du h).2).1;refine(al<|xf h).2 (aX (p:=¬n.2.1=0) LZ (λf=>aT (by rw[fQ f];rfl)<|.ret _) λf=>(al rfl).2<|aA.2 ⟨bX<|by omega,?_⟩);rw[bX<|bY.1 f,cond_true,ia,my (by omega)<|by omega];rw[show af.k DN ((0,af.b .shl .i64 1 m.1-1),s)=decide (0<=s/\s<=af.b .shl .i64 1 m.1-1) from rfl];by_cases i:0<=s/\s<=af.b .shl .i64 1 m.1-1
  .rw[bX i];have j:=agW (c:=s) (a:=n.1) i.1 (by omega) l.1 (by omega);refine(al rfl).2 (aA.2 ⟨bX<|show 0<=n.1 from l.1,aX (p:=af.b .and .i64 s (af.b .shl .i64 1 n.1)=0) dq (λg=>?_) λg=>?_⟩)
   .exact aT (by rw[j.1 g];rfl)<|.ret _
   .exact aT (by rw[show qC s n.1=true from by cases hx:qC s n.1;exact absurd (j.2 hx) g;rfl];rfl)<|.ret _
  .rw[fQ i];exact(ap rfl).2 (.ret _)
 .rw[fQ h];exact(ap<|qD h).2 ((ap<|qD h).2<|.ret _)
def SA:(au×Node×Int)->(Node×Int):=λ(m,c,k)=>Fp m c k
def as_:aL:=.all [aW,fE,yI] [fE,yI] SA
def arm:Sd 21 as_:=fa<|cK ar dK sl 193 [] (λA (m,n,c)=>amX A m n c) (kz (fc func21 (fc func46 (fc func48 fz))) (sc Eb (sc Ec (sc abk sz)))) λ(m,n,c) f h=>axD
abbrev Iv(A:aS)(n:Node):=(A.k nc (n.2.2.2.2.2.2.2,n.2.2.2.2.2.2.2.2.1))
def am2(A:aS)(m:au)(n:Node):LT (Node×vP×Bool×Int) Empty:=.br (A.cm (A.k iT (m,n)) 0) (.br (A.cm (A.k iT (m,n)) 0) (.ret ((0,0,(0,0,0,0,0),(0,0,0,0,0,0,0),0,false,0,0,([]:List Int),([]:List gY),0,0),(0,0,(0,0,0,0,0),0,([]:List Int)),false,A.k iT (m,n)))<|.bU 73 "starctl.go:315")<|.br (A.not<|A.bG n.2.1 1) (.ret ((0,0,(0,0,0,0,0),(0,0,0,0,0,0,0),0,false,0,0,([]:List Int),([]:List gY),0,0),(0,0,(0,0,0,0,0),0,([]:List Int)),false,181))<|.br (A.cm (Iv A n).2 0) (.br (A.cm (Iv A n).2 0) (.ret ((0,0,(0,0,0,0,0),(0,0,0,0,0,0,0),0,false,0,0,([]:List Int),([]:List gY),0,0),(0,0,(0,0,0,0,0),0,([]:List Int)),false,(Iv A n).2))<|.bU 73 "starctl.go:315")<|.br (A.jr (A.b .sub .i64 n.2.2.2.2.1 1) 0) (.ret ((n.1,n.2.1,n.2.2.1,n.2.2.2.1,A.b .sub .i64 n.2.2.2.2.1 1,n.2.2.2.2.2.1,n.2.2.2.2.2.2.1,(Iv A n).1),(0,0,(0,0,0,0,0),0,([]:List Int)),false,0))<|.ao (A.and (A.bQ 0 n.1)<|A.bq n.1<|A.l m.2.2.2.2.2.2.1)<|.br (A.not (A.n .bool m.2.2.2.2.2.2.1 n.1:Bool)) (.ret ((n.1,1,(0,0,0,0,0),(0,0,0,0,0,0,0),(A.k Ge (m,n.1)).1,n.2.2.2.2.2.1,n.2.2.2.2.2.2.1,(Iv A n).1),(0,0,(0,0,0,0,0),0,([]:List Int)),false,0))<|.ao (A.bQ 0 n.1)<|.ret ((n.1,2,(0,n.1,0,0,A.b .shl .i64 1 n.1),(n.1,m.1,A.b .shl .i64 1 n.1,1,0,0,0),0,n.2.2.2.2.2.1,n.2.2.2.2.2.2.1,(Iv A n).1),(1,0,(0,0,0,0,0),n.1,([]:List Int)),true,0)
def auH{m:au}{n:Node}:bi Empty.elim (am2 af m n)<|iL m n:=by
 unfold am2 Iv iL;refine ?_;rw[show af.k iT (m,n)=dn m n from rfl,show af.k nc (n.G,n.i)=K1 n.G n.i from rfl];by_cases h:dn m n=0
 .rw[bX h,yy h,cond_true];refine(al<|xf h).2 (aX (p:=¬n.2.1=1) LZ (λc=>aT (by rw[fQ c];rfl)<|.ret _) λc=>(al rfl).2 ?_);have c:=bY.1 c;have⟨u,j⟩:=agM h c;have g:=(fR.1 (du h).2).1;have l:=jc (du h).1;have i:=LX h (by omega);rw[bX c,cond_true,j];refine aX (p:=0<n.e-1) rfl (λf=>aT (by rw[bX f];rfl)<|.ret _) λf=>aA.2 ⟨yS l.c g.1<|show n.1<m.1 by omega,?_⟩;rw[fQ f,cond_false];cases (af.n .bool m.g n.1:Bool)
  .refine(ap rfl).2 (aT ?_<|.ret _);rw[i.1,i.2,c];rfl
  .exact(al rfl).2 (aA.2 ⟨bX<|show 0<=n.1 from g.1,.ret _⟩)
 .rw[fQ h];exact(ap<|qD h).2 ((ap<|qD h).2<|.ret _)
def Gc:(au×Node)->(Node×vP×Bool×Int):=λ(m,n)=>iL m n
def ate:aL:=.all [aW,fE] [fE,JU,.bool,yI] Gc
def ars:Sd 105 ate:=fa<|cK ar dK sl 214 [] (λA (m,n)=>am2 A m n) (kz (fc func105 (fc func46 (fc func48 (fc func161 fz)))) (sc Eb (sc Ec (sc T7 sz)))) λ(m,n) c h=>auH
abbrev Iu(A:aS)(n:Node):=(A.k nc (n.2.2.2.2.2.2.2,n.2.2.2.2.2.2.2.2.1))
abbrev Ui(A:aS)(m:au)(n:Node):LT (Node×Int) Empty:=(.ret ((0,0,(0,0,0,0,0),(0,0,0,0,0,0,0),0,false,0,0,([]:List Int),([]:List gY),0,0),(A.k DO (n.2.2.1,m.1)).2))
def am1(A:aS)(m:au)(n:Node):LT (Node×Int) Empty:=.br (A.cm (A.k iT (m,n)) 0) (.br (A.cm (A.k iT (m,n)) 0) (.ret ((0,0,(0,0,0,0,0),(0,0,0,0,0,0,0),0,false,0,0,([]:List Int),([]:List gY),0,0),A.k iT (m,n)))<|.br (A.cm (A.k DO (n.2.2.1,m.1)).2 0) (Ui A m n)<|.bU 73 "starctl.go:301")<|.br (A.not<|A.k ot n) (.ret ((0,0,(0,0,0,0,0),(0,0,0,0,0,0,0),0,false,0,0,([]:List Int),([]:List gY),0,0),181))<|.br (A.cm (Iu A n).2 0) (.br (A.cm (Iu A n).2 0) (.ret ((0,0,(0,0,0,0,0),(0,0,0,0,0,0,0),0,false,0,0,([]:List Int),([]:List gY),0,0),(Iu A n).2))<|.br (A.cm (A.k DO (n.2.2.1,m.1)).2 0) (Ui A m n)<|.bU 73 "starctl.go:301")<|.br (A.cm (A.k DO (n.2.2.1,m.1)).2 0) (Ui A m n)<|.br (A.jr (A.k DO (n.2.2.1,m.1)).1.2.1 0) (.ret ((n.1,n.2.1,(A.k DO (n.2.2.1,m.1)).1,n.2.2.2.1,n.2.2.2.2.1,n.2.2.2.2.2.1,n.2.2.2.2.2.2.1,(Iu A n).1),0))<|.ret ((n.1,n.2.1,(A.k DO (n.2.2.1,m.1)).1,n.2.2.2.1,n.2.2.2.2.1,n.2.2.2.2.2.1,n.2.2.2.2.2.2.1,(A.k YF (Iu A n).1).1),(A.k YF (Iu A n).1).2)
def aqW{m:au}{n:Node}:bi Empty.elim (am1 af m n)<|jq m n:=by
 unfold am1 Ui Iu jq;refine ?_;rw[show af.k iT (m,n)=dn m n from rfl,show af.k nc (n.2.2.2.2.2.2.2,n.2.2.2.2.2.2.2.2.1)=K1 n.2.2.2.2.2.2.2 n.2.2.2.2.2.2.2.2.1 from rfl,show af.k ot n=kT n from rfl];by_cases h:dn m n=0
 .rw[bX h,yy h,cond_true];refine(al<|xf h).2 ?_;cases h1:kT n
  .exact(ap rfl).2 (.ret _)
  have g:=step_ok h h1;have f:=al7 h;have i:=step_pos h h1;rw[cond_true];refine(al rfl).2 ((al rfl).2<|(al<|xf g).2<|aX (p:=0<(nC n.2.2.1 m.1).1.2.1) rfl (λc=>aT ?_<|.ret _) λc=>aT ?_<|.ret _)
  .rw[fQ<|show ¬(nC n.2.2.1 m.1).1.2.1=0 by omega];rfl
  .rw[bX<|show(nC n.2.2.1 m.1).1.2.1=0 by omega];exact congrArg (Prod.mk _) f
 .rw[fQ h];exact(ap<|qD h).2 ((ap<|qD h).2<|.ret _)
def YC:(au×Node)->(Node×Int):=λ(m,n)=>jq m n
def atd:aL:=.all [aW,fE] [fE,yI] YC
def arq:Sd 102 atd:=fa<|cK ar dK sl 171 [] (λA (m,n)=>am1 A m n) (kz (fc func102 (fc func46 fz)) (sc Eb (sc BW (sc Ec (sc arD (sc arE sz)))))) λ(m,n) c h=>aqW
abbrev tG(A:aS)(n:Node):=(A.k nc (n.2.2.2.2.2.2.2,n.2.2.2.2.2.2.2.2.1))
abbrev abT(A:aS)(o:dP):LT (Node×Int) Empty:=(.br (A.bG o.2.2.2.1 1) (.bU 73 "starctl.go:158")<|.br (A.bG o.2.2.2.1 2) (.bU 73 "starctl.go:158")<|.br (A.bG o.2.2.2.1 3) (.bU 73 "starctl.go:158")<|.ret ((0,0,(0,0,0,0,0),(0,0,0,0,0,0,0),0,false,0,0,([]:List Int),([]:List gY),0,0),2))
abbrev Uf(A:aS)(n:Node):=(A.not<|A.k ot (n.1,n.2.1,n.2.2.1,n.2.2.2.1,n.2.2.2.2.1,n.2.2.2.2.2.1,n.2.2.2.2.2.2.1,(tG A n).1))
abbrev Ug(A:aS)(n:Node):LT (Node×Int) Empty:=(.ret ((n.1,n.2.1,n.2.2.1,n.2.2.2.1,n.2.2.2.2.1,n.2.2.2.2.2.1,n.2.2.2.2.2.2.1,(tG A n).1),0))
def amZ(A:aS)(m:au)(n:Node)(o:dP):LT (Node×Int) Empty:=.br (A.cm (A.k iT (m,n)) 0) (.br (A.cm (A.k iT (m,n)) 0) (.ret ((0,0,(0,0,0,0,0),(0,0,0,0,0,0,0),0,false,0,0,([]:List Int),([]:List gY),0,0),A.k iT (m,n)))<|abT A o)<|.br (A.cm (tG A n).2 0) (.br (A.cm (tG A n).2 0) (.ret ((0,0,(0,0,0,0,0),(0,0,0,0,0,0,0),0,false,0,0,([]:List Int),([]:List gY),0,0),(tG A n).2))<|abT A o)<|.br (A.bG o.2.2.2.1 1) (.br (Uf A n) (Ug A n)<|.br (A.cm (A.k nc ((tG A n).1,o.2.2.2.2.2)).2 0) (.ret ((0,0,(0,0,0,0,0),(0,0,0,0,0,0,0),0,false,0,0,([]:List Int),([]:List gY),0,0),(A.k nc ((tG A n).1,o.2.2.2.2.2)).2))<|.ret ((n.1,n.2.1,n.2.2.1,n.2.2.2.1,n.2.2.2.2.1,n.2.2.2.2.2.1,n.2.2.2.2.2.2.1,(A.k nc ((tG A n).1,o.2.2.2.2.2)).1),0))<|.br (A.bG o.2.2.2.1 2) (.br (Uf A n) (Ug A n)<|.br (A.cm (A.k SF (tG A n).1).2 0) (.ret ((0,0,(0,0,0,0,0),(0,0,0,0,0,0,0),0,false,0,0,([]:List Int),([]:List gY),0,0),(A.k SF (tG A n).1).2))<|.ret ((n.1,n.2.1,n.2.2.1,n.2.2.2.1,n.2.2.2.2.1,n.2.2.2.2.2.1,n.2.2.2.2.2.2.1,(A.k SF (tG A n).1).1),0))<|.br (A.bG o.2.2.2.1 3) (.br (Uf A n) (Ug A n)<|.br (A.cm (A.k SG ((tG A n).1,o.2.2.2.2.1)).2 0) (.ret ((0,0,(0,0,0,0,0),(0,0,0,0,0,0,0),0,false,0,0,([]:List Int),([]:List gY),0,0),(A.k SG ((tG A n).1,o.2.2.2.2.1)).2))<|.ret ((n.1,n.2.1,n.2.2.1,n.2.2.2.1,n.2.2.2.2.1,n.2.2.2.2.2.1,n.2.2.2.2.2.2.1,(A.k SG ((tG A n).1,o.2.2.2.2.1)).1),0))<|.ret ((0,0,(0,0,0,0,0),(0,0,0,0,0,0,0),0,false,0,0,([]:List Int),([]:List gY),0,0),2)
def aq2{m:au}{n:Node}{o:dP}:bi Empty.elim (amZ af m n o)<|zh m n o:=by
 unfold amZ Ug Uf abT tG zh;refine ?_;rw[show af.k iT (m,n)=dn m n from rfl,show af.k nc (n.G,n.i)=K1 n.G n.i from rfl];by_cases h:dn m n=0
 .rw[bX h,yy h,cond_true];refine(al<|xf h).2 ((al rfl).2<|aX (p:=o.d=1) dq (λk=>?_) λk=>aX (p:=o.d=2) dq (λc=>?_) λc=>aX (p:=o.d=3) dq (λf=>?_) λf=>?_)
  .rw[bX<|show 1<=o.d/\o.d<=3 by omega,bX k];exact Zj (n:=n)<|Zl (r:=K1 n.G o.E)<|λh=>rfl
  .rw[bX<|show 1<=o.d/\o.d<=3 by omega,fQ k,bX c];exact Zj (n:=n)<|Zl (r:=btS n.G)<|λh=>rfl
  .rw[bX<|show 1<=o.d/\o.d<=3 by omega,fQ k,fQ c];exact Zj (n:=n)<|Zl (r:=Jb n.G o.e)<|λh=>rfl
  .exact aT (by rw[fQ<|show ¬(1<=o.d/\o.d<=3) by omega];rfl)<|.ret _
 .rw[fQ h];exact(ap<|qD h).2 ((ap<|qD h).2<|.ret _)
def SC:(au×Node×dP)->(Node×Int):=λ(m,c,k)=>zh m c k
def atb:aL:=.all [aW,fE,fv] [fE,yI] SC
def aro:Sd 111 atb:=fa<|cK ar dK sl 208 [] (λA (m,n,o)=>amZ A m n o) (kz (fc func111 (fc func46 (fc func174 (fc func175 (fc func177 fz))))) (sc Eb (sc BW (sc Ec (sc ary (sc arz sz)))))) λ(m,n,o) c h=>aq2
variable{x:Node}
def abd{m:au}{r:Int}{d:List Int}(f:(bif decide ((xv m x.2.2.1 x.2.2.2.2.2.2.2.2.2.2.2).2=0) then(xv m x.2.2.1 x.2.2.2.2.2.2.2.2.2.2.2).1 else 0)=r)(c:(bif decide ((iY m x.2.2.1.2.2.1 x.1).1=3) then([]:List Int) else(Rq x.2.2.2.2.2.2.2<|NJ m x.2.2.1.2.2.1 x.1).1)=d):afV m (on4 x)=((iY m x.2.2.1.2.2.1 x.1).1,r,x.2.2.1,0,d):=by subst f c;rfl
def L6{v:uO}(h:tQ v=0):(oq v).2.1=1\/(oq v).2.1=2:=by
 have⟨a,b,c,d,e,f,g⟩:=v;simp only[oq,t23,LT.val,bZ,chk,h];cases af.bQ d e
 .exact .inl rfl
 .exact .inr rfl
def Zw{v:uO}(h:tQ v=0):(uT v).2.1=1\/(uT v).2.1=2\/(uT v).2.1=3:=by
 have⟨a,b,c,d,e,f,g⟩:=v;have i:=L6 h;simp only[uT,t27,LT.val,bZ,chk,h];cases af.bG d 0
 .rcases i with h|h
  .exact .inl h
  .exact .inr<|.inl h
 .cases af.bG e 0
  .rcases i with h|h
   .exact .inl h
   .exact .inr<|.inl h
  .exact .inr<|.inr rfl
def Zu{v:uO}(h:tQ v=0):(uT v).2.2=0:=by
 have i:=L5 h;have⟨a,b,c,d,e,f,g⟩:=v;simp only[uT,t27,LT.val,bZ,chk,h];cases af.bG d 0
 .exact i
 .cases af.bG e 0
  .exact i
  .rfl
structure Wu where(a0:Int)
structure Wv where(b11:au)(b12:Node)
structure aix where(c0:Int)(c11:au)(c12:Node)
structure Ww where(Nz:au)(NA:Node)(X4:vP)
structure Wx where(e10:au)(e11:Node)(e12:uO)
inductive adB where|c0(p:Wu)|c1(p:Wv)|c2(p:aix)|c3(p:Ww)|c4(p:Wx)
noncomputable def ajG:adB->iF
 | .c0 p=>⟨[vh 181 82 [(4,pZ 0),(5,pZ 1),(8,.gN),(9,vi p.a0)] f181 28],[gZ [vi 0,vi 0,vi 0,vi 0,vi 0,vi 0,vi 0,vi 0,vi 0,vi 0,vi 0,vi 0,vi 0,vi 0,vi 0,vb false,vi 0,vi 0,.eT true,.eT true,vi 0,vi 0],gZ [vi 0,vi 0,vi 0,vi 0,vi 0,vi 0,vi 0,vi 0,.eT true],.aU]⟩
 | .c1 p=>⟨[vh 181 82 [(4,pZ 0),(5,pZ 1),(8,pZ 2),(9,vi 0)] f181 28],[gZ [vi 0,vi 0,vi 0,vi 0,vi 0,vi 0,vi 0,vi 0,vi 0,vi 0,vi 0,vi 0,vi 0,vi 0,vi 0,vb false,vi 0,vi 0,.eT true,.eT true,vi 0,vi 0],gZ [vi 0,vi 0,vi 0,vi 0,vi 0,vi 0,vi 0,vi 0,.eT true],gZ<|dc aW p.b11++dc fE p.b12,.aU]⟩
 | .c2 p=>⟨[vh 181 82 [(4,pZ 0),(5,pZ 1),(8,pZ 2),(33,vi p.c0)] f181 244],[gZ [vi 0,vi 0,vi 0,vi 0,vi 0,vi 0,vi 0,vi 0,vi 0,vi 0,vi 0,vi 0,vi 0,vi 0,vi 0,vb false,vi 0,vi 0,.eT true,.eT true,vi 0,vi 0],gZ [vi 0,vi 0,vi 0,vi 0,vi 0,vi 0,vi 0,vi 0,.eT true],gZ<|dc aW p.c11++dc fE p.c12,.aU]⟩
 | .c3 p=>⟨[vh 181 82 [(4,pZ 0),(5,pZ 1),(8,pZ 2),(10,pZ 3)] f181 3926],[gZ [vi 0,vi 0,vi 0,vi 0,vi 0,vi 0,vi 0,vi 0,vi 0,vi 0,vi 0,vi 0,vi 0,vi 0,vi 0,vb false,vi 0,vi 0,.eT true,.eT true,vi 0,vi 0],gZ [vi 0,vi 0,vi 0,vi 0,vi 0,vi 0,vi 0,vi 0,.eT true],gZ<|dc aW p.Nz++dc fE p.NA,dZ JU p.X4,.aU]⟩
 | .c4 p=>⟨[vh 181 82 [(4,pZ 0),(5,pZ 1),(8,pZ 2),(10,pZ 3)] f181 3926],[gZ [vi 0,vi 0,vi 0,vi 0,vi 0,vi 0,vi 0,vi 0,vi 0,vi 0,vi 0,vi 0,vi 0,vi 0,vi 0,vb false,vi 0,vi 0,.eT true,.eT true,vi 0,vi 0],gZ [vi 0,vi 0,vi 0,vi 0,vi 0,vi 0,vi 0,vi 0,.eT true],gZ<|dc aW p.e10++dc fE p.e11,gZ<|dc re p.e12 ++ [vi 0,.eT true],.aU]⟩
abbrev Uh(A:aS)(n:Node):=(A.k nc (n.2.2.2.2.2.2.2,n.2.2.2.2.2.2.2.2.1))
def am0(A:aS)(m:au)(n:Node):LT (Node×vP×Bool×Int) adB:=.br (A.k ot n) (.br (A.cm (A.k iT (m,n)) 0) (.ak<|.c0 ⟨A.k iT (m,n)⟩)<|.br (A.not<|A.bG n.2.2.1.2.1 n.1) (.ak<|.c0 ⟨181⟩)<|.br (A.cm (Uh A n).2 0) (.ak<|.c0 ⟨(Uh A n).2⟩)<|.ak<|.c1 ⟨m,(n.1,n.2.1,n.2.2.1,n.2.2.2.1,n.2.2.2.2.1,n.2.2.2.2.2.1,n.2.2.2.2.2.2.1,(Uh A n).1)⟩)<|.br (A.cm (A.k iT (m,n)) 0) (.ak<|.c0 ⟨A.k iT (m,n)⟩)<|.ak<|.c0 ⟨181⟩
def zl(A:aS):adB->LT (Node×vP×Bool×Int) adB
 | .c0 p=>.br (A.cm p.a0 0) (.ret ((0,0,(0,0,0,0,0),(0,0,0,0,0,0,0),0,false,0,0,([]:List Int),([]:List gY),0,0),(0,0,(0,0,0,0,0),0,([]:List Int)),false,p.a0))<|.bU 73 "starctl.go:171"
 | .c1 p=>.br (A.cm 0 0) (.ret ((0,0,(0,0,0,0,0),(0,0,0,0,0,0,0),0,false,0,0,([]:List Int),([]:List gY),0,0),(0,0,(0,0,0,0,0),0,([]:List Int)),false,0))<|.br (A.bG p.b12.2.1 3) (.br (A.bG (A.k uT p.b12.2.2.2.1).2.2 0) (.br (A.bG (A.k uT p.b12.2.2.2.1).2.1 1) (.ak<|.c2 ⟨(A.k uT p.b12.2.2.2.1).2.1,p.b11,(p.b12.1,p.b12.2.1,(p.b12.2.2.1.1,p.b12.2.2.1.2.1,p.b12.2.2.1.2.2.1,p.b12.2.2.1.2.2.2.1,(A.k uT p.b12.2.2.2.1).1.2.2.1),(A.k uT p.b12.2.2.2.1).1,p.b12.2.2.2.2)⟩)<|.ak<|.c2 ⟨(A.k uT p.b12.2.2.2.1).2.1,p.b11,p.b12⟩)<|.ak<|.c2 ⟨(A.k uT p.b12.2.2.2.1).2.1,p.b11,p.b12⟩)<|.br (A.bG p.b12.2.1 2) (.br (A.bq p.b12.2.2.2.1.2.2.2.1 2) (.ak<|.c2 ⟨4,p.b11,p.b12⟩)<|.br (A.bQ p.b12.2.2.2.1.2.2.2.1 p.b12.2.2.2.1.2.2.2.2.1) (.ak<|.c2 ⟨4,p.b11,p.b12⟩)<|.br (A.bG (A.k oq p.b12.2.2.2.1).2.2 0) (.br (A.bG (A.k oq p.b12.2.2.2.1).2.1 1) (.ak<|.c2 ⟨(A.k oq p.b12.2.2.2.1).2.1,p.b11,(p.b12.1,p.b12.2.1,(p.b12.2.2.1.1,p.b12.2.2.1.2.1,p.b12.2.2.1.2.2.1,p.b12.2.2.1.2.2.2.1,(A.k oq p.b12.2.2.2.1).1.2.2.1),(A.k oq p.b12.2.2.2.1).1,p.b12.2.2.2.2)⟩)<|.ak<|.c2 ⟨(A.k oq p.b12.2.2.2.1).2.1,p.b11,p.b12⟩)<|.ak<|.c2 ⟨(A.k oq p.b12.2.2.2.1).2.1,p.b11,p.b12⟩)<|.br (A.bG (A.k oq p.b12.2.2.2.1).2.2 0) (.br (A.bG (A.k oq p.b12.2.2.2.1).2.1 1) (.ak<|.c2 ⟨(A.k oq p.b12.2.2.2.1).2.1,p.b11,(p.b12.1,p.b12.2.1,(p.b12.2.2.1.1,p.b12.2.2.1.2.1,p.b12.2.2.1.2.2.1,p.b12.2.2.1.2.2.2.1,(A.k oq p.b12.2.2.2.1).1.2.2.1),(A.k oq p.b12.2.2.2.1).1,p.b12.2.2.2.2)⟩)<|.ak<|.c2 ⟨(A.k oq p.b12.2.2.2.1).2.1,p.b11,p.b12⟩)<|.ak<|.c2 ⟨(A.k oq p.b12.2.2.2.1).2.1,p.b11,p.b12⟩
 | .c2 p=>.br (A.bG p.c0 1) (.br (A.bG (A.k N3 (p.c11,p.c12.2.2.1,p.c12.2.2.2.2.2.2.2.2.2.2.2)).2 0) (.br (A.cm (A.k nR (p.c11,p.c12.2.2.1.2.2.1,p.c12.1)).1 3) (.ao (A.and (A.bQ 0 p.c12.2.2.1.2.2.1)<|A.bq p.c12.2.2.1.2.2.1<|A.l p.c11.2.2.2.2.2.2.2)<|.ao (A.and (A.bQ 0 p.c12.1)<|A.bq p.c12.1<|A.l (A.n eQ p.c11.2.2.2.2.2.2.2 p.c12.2.2.1.2.2.1:Mode).1)<|.ak<|.c3 ⟨p.c11,(p.c12.1,4,p.c12.2.2.1,p.c12.2.2.2.1,p.c12.2.2.2.2.1,false,p.c12.2.2.2.2.2.2),((A.k nR (p.c11,p.c12.2.2.1.2.2.1,p.c12.1)).1,(A.k N3 (p.c11,p.c12.2.2.1,p.c12.2.2.2.2.2.2.2.2.2.2.2)).1,p.c12.2.2.1,0,(A.k SK (p.c12.2.2.2.2.2.2.2,(A.n yI (A.n eQ p.c11.2.2.2.2.2.2.2 p.c12.2.2.1.2.2.1:Mode).1 p.c12.1:Int))).1)⟩)<|.ak<|.c4 ⟨p.c11,(p.c12.1,4,p.c12.2.2.1,p.c12.2.2.2.1,p.c12.2.2.2.2.1,false,p.c12.2.2.2.2.2.2),((A.k nR (p.c11,p.c12.2.2.1.2.2.1,p.c12.1)).1,(A.k N3 (p.c11,p.c12.2.2.1,p.c12.2.2.2.2.2.2.2.2.2.2.2)).1,p.c12.2.2.1)⟩)<|.br (A.cm (A.k nR (p.c11,p.c12.2.2.1.2.2.1,p.c12.1)).1 3) (.ao (A.and (A.bQ 0 p.c12.2.2.1.2.2.1)<|A.bq p.c12.2.2.1.2.2.1<|A.l p.c11.2.2.2.2.2.2.2)<|.ao (A.and (A.bQ 0 p.c12.1)<|A.bq p.c12.1<|A.l (A.n eQ p.c11.2.2.2.2.2.2.2 p.c12.2.2.1.2.2.1:Mode).1)<|.ak<|.c3 ⟨p.c11,(p.c12.1,4,p.c12.2.2.1,p.c12.2.2.2.1,p.c12.2.2.2.2.1,false,p.c12.2.2.2.2.2.2),((A.k nR (p.c11,p.c12.2.2.1.2.2.1,p.c12.1)).1,0,p.c12.2.2.1,0,(A.k SK (p.c12.2.2.2.2.2.2.2,(A.n yI (A.n eQ p.c11.2.2.2.2.2.2.2 p.c12.2.2.1.2.2.1:Mode).1 p.c12.1:Int))).1)⟩)<|.ak<|.c4 ⟨p.c11,(p.c12.1,4,p.c12.2.2.1,p.c12.2.2.2.1,p.c12.2.2.2.2.1,false,p.c12.2.2.2.2.2.2),((A.k nR (p.c11,p.c12.2.2.1.2.2.1,p.c12.1)).1,0,p.c12.2.2.1)⟩)<|.br (A.bG p.c0 2) (.ret ((p.c12.1,5,(0,0,0,0,0),(0,0,0,0,0,0,0),0,false,1,p.c12.2.2.2.2.2.2.2),(0,0,(0,0,0,0,0),0,([]:List Int)),false,0))<|.br (A.bG p.c0 3) (.ret ((p.c12.1,1,(0,0,0,0,0),(0,0,0,0,0,0,0),(A.k Ge (p.c11,p.c12.1)).1,p.c12.2.2.2.2.2.1,2,p.c12.2.2.2.2.2.2.2),(0,0,(0,0,0,0,0),0,([]:List Int)),false,0))<|.ret ((p.c12.1,1,(0,0,0,0,0),(0,0,0,0,0,0,0),(A.k Ke (p.c11,p.c12.1)).1,p.c12.2.2.2.2.2),(0,0,(0,0,0,0,0),0,([]:List Int)),false,0)
 | .c3 p=>.br (A.bG (A.k uk (p.Nz,p.NA.2.2.1,p.X4.2.1)).2 0) (.ret ((p.NA.1,p.NA.2.1,(A.k uk (p.Nz,p.NA.2.2.1,p.X4.2.1)).1,p.NA.2.2.2),p.X4,true,0))<|.ret (p.NA,p.X4,true,0)
 | .c4 p=>.br (A.bG (A.k uk (p.e10,p.e11.2.2.1,p.e12.2.1)).2 0) (.ret ((p.e11.1,p.e11.2.1,(A.k uk (p.e10,p.e11.2.2.1,p.e12.2.1)).1,p.e11.2.2.2),(p.e12.1,p.e12.2.1,p.e12.2.2,0,([]:List Int)),true,0))<|.ret (p.e11,(p.e12.1,p.e12.2.1,p.e12.2.2,0,([]:List Int)),true,0)
def amv{p:Ww}:bi (zl af) (.ak<|.c3 p) ((p.NA.1,p.NA.2.1,qM p.Nz p.NA.2.2.1 p.X4.2.1,p.NA.2.2.2),p.X4,true,0):=by
 rw[aI,zl,qM];rw[show ∀x,af.k uk x=AB x.1 x.2.1 x.2.2 from λ_=>rfl];refine aX (p:=(AB p.Nz p.NA.c p.X4.2.1).2=0) dq (λg=>?_) λg=>?_
 .exact aT (by rw[bX g];rfl)<|.ret _
 .exact aT (by rw[fQ g];rfl)<|.ret _
def amw{p:Wx}:bi (zl af) (.ak<|.c4 p) ((p.e11.1,p.e11.2.1,qM p.e10 p.e11.2.2.1 p.e12.2.1,p.e11.2.2.2),(p.e12.1,p.e12.2.1,p.e12.2.2,0,([]:List Int)),true,0):=by
 rw[aI,zl,qM];rw[show ∀x,af.k uk x=AB x.1 x.2.1 x.2.2 from λ_=>rfl];refine aX (p:=(AB p.e10 p.e11.c p.e12.2.1).2=0) dq (λg=>?_) λg=>?_
 .exact aT (by rw[bX g];rfl)<|.ret _
 .exact aT (by rw[fQ g];rfl)<|.ret _
def abx{m:au}(j:df m=true)(i:0<=x.1/\x.1<=m.1-1)(f:0<=x.2.2.1.2.2.1/\x.2.2.1.2.2.1<iy m):bi (zl af) (.ak<|.c2 ⟨1,m,x⟩)<|Rc m<|on4 x:=by
 have l:=sJ<|yR j f.1 f.2;rw[aI,zl];simp only;rw[show af.k nR (m,x.c.c,x.1)=iY m x.c.c x.1 from rfl,show af.k N3 (m,x.c,x.2.J)=xv m x.c x.2.J from rfl,show af.k SK (x.G,(af.n yI (af.n eQ m.G x.c.c:Mode).1 x.1:Int))=Rq x.G (NJ m x.c.c x.1) from rfl]
 have c:∀r:Int,(bif decide ((xv m x.c x.2.J).2=0) then(xv m x.c x.2.J).1 else 0)=r->bi (zl af) (.br (af.cm (iY m x.c.c x.1).1 3) (.ao (af.and (af.bQ 0 x.c.c)<|af.bq x.c.c<|af.l m.G)<|.ao (af.and (af.bQ 0 x.1)<|af.bq x.1<|af.l (af.n eQ m.G x.c.c:Mode).1)<|.ak<|.c3 ⟨m,on4 x,((iY m x.c.c x.1).1,r,x.c,0,(Rq x.G<|NJ m x.c.c x.1).1)⟩)<|.ak<|.c4 ⟨m,on4 x,((iY m x.c.c x.1).1,r,x.c)⟩) (Rc m<|on4 x):=λr h=>
  aX (p:=¬(iY m x.c.c x.1).1=3) dU (λk=>aA.2 ⟨uE f.1 f.2,aA.2 ⟨yS l.1 i.1<|by omega,by rw[Rc,abd h<|by rw[fQ k]];exact amv⟩⟩) λk=>by rw[Rc,abd h<|by rw[bX<|bY.1 k]];exact amw
 refine(ap rfl).2 (aX (p:=(xv m x.c x.2.J).2=0) dq (λg=>?_) λg=>?_)
 .exact c _ (by rw[bX g];rfl)
 .exact c _ (by rw[fQ g];rfl)
def Ru{m:au}{n:Node}{w:Int}(f:w=2\/w=3\/w=4)(c:(qI n).2=w):bi (zl af) (.ak<|.c2 ⟨w,m,n⟩)<|xa m n:=by
 rw[aI,zl,xa,c];simp only;rcases f with rfl|rfl|rfl
 .exact(al rfl).2 ((ap rfl).2<|.ret _)
 .exact(al rfl).2 ((al rfl).2<|(ap rfl).2<|.ret _)
 .exact(al rfl).2 ((al rfl).2<|(al rfl).2<|.ret _)
def Rv{m:au}{n:Node}{r:uO×Int×Int}(h:dn m n=0)(i:kT n=true)(c:qI n=(r.1,r.2.1))(f:r.2.2=0)(j:r.2.1=1\/r.2.1=2\/r.2.1=3):bi (zl af) (.br (af.bG r.2.2 0) (.br (af.bG r.2.1 1) (.ak<|.c2 ⟨r.2.1,m,AS n r.1⟩)<|.ak<|.c2 ⟨r.2.1,m,n⟩)<|.ak<|.c2 ⟨r.2.1,m,n⟩)<|xa m n:=by
 refine(ap<|ajp f).2 (aX (p:=r.2.1=1) dq (λg=>?_) λg=>Ru (by omega)<|by rw[c]);have e:xa m n=Rc m (on4<|AS n r.1):=by rw[xa,c,g];rfl
 rw[e,g];exact abx (du h).1 (fR.1 (du h).2).1 (yG (oL h i).1).2.1
def amu{p:Wv}{m:au}{n:Node}(l:p.b11=m)(u:p.b12=n)(h:dn m n=0)(i:kT n=true):bi (zl af) (.ak<|.c1 p)<|xa m n:=by
 subst l u;have c:=(oL h i).2.1;rw[aI,zl];refine(al rfl).2 (aX (p:=p.b12.2.1=3) dq (λg=>?_) λg=>aX (p:=p.b12.2.1=2) dq (λf=>aX (p:=p.b12.d.d<2) rfl (λk=>?_) λk=>aX (p:=p.b12.d.d<=p.b12.d.e) rfl (λj=>?_) λj=>?_) λf=>?_)
 .exact Rv (r:=uT p.b12.d) h i (by rw[qI,fQ<|show ¬p.b12.2.1=2 by omega,bX g];rfl) (Zu c)<|Zw c
 .exact Ru (.inr<|.inr rfl) (by rw[qI,bX f,bX k];rfl)
 .exact Ru (.inr<|.inr rfl) (by rw[qI,bX f,bX j,mF];rfl)
 .exact Rv (r:=oq p.b12.d) h i (by rw[qI,bX f,fQ k,fQ j,fQ g];rfl) (L5 c)<|(L6 c).elim .inl λx=>.inr<|.inl x
 .exact Rv (r:=oq p.b12.d) h i (by rw[qI,fQ f,fQ g];rfl) (L5 c)<|(L6 c).elim .inl λx=>.inr<|.inl x
def MS{p:Wu}(h:¬p.a0=0):bi (zl af) (.ak<|.c0 p) (lU,EW,false,p.a0):=by
 rw[aI,zl];exact(ap<|qD h).2 (.ret _)
def axb{m:au}{n:Node}:bi (zl af) (am0 af m n)<|rH m n:=by
 unfold am0 Uh rH;rw[show af.k ot n=kT n from rfl,show af.k iT (m,n)=dn m n from rfl,show af.k nc (n.G,n.i)=K1 n.G n.i from rfl];refine ?_;by_cases h:dn m n=0
 .rw[bX h,yy h,cond_true];cases hi:kT n
  .exact(al rfl).2 ((al<|xf h).2<|MS<|by decide)
  refine(ap rfl).2 ((al<|xf h).2<|aX (p:=¬n.c.2.1=n.1) LZ (λc=>?_) λc=>(al rfl).2 ?_)
  .rw[fQ c];exact MS (by decide)
  .rw[bX<|bY.1 c];exact amu rfl rfl h hi
 .rw[fQ h];cases kT n
  .exact(al rfl).2 ((ap<|qD h).2<|MS h)
  .exact(ap rfl).2 ((ap<|qD h).2<|MS h)
def ag2:(au×Node)->(Node×vP×Bool×Int):=λ(m,n)=>rH m n
def atc:aL:=.all [aW,fE] [fE,JU,.bool,yI] ag2
def arp:Sd 181 atc:=fa<|bE ar dK sl 107 [] [⟨181,2,[[4,5,8,9]]⟩,⟨181,6,[[4,5,8,33]]⟩,⟨181,9,[[4,5,8,10]]⟩] (λA (m,n)=>am0 A m n) zl ajG (kz (fc func181 (fc func46 (fc func141 (fc func161 (fc func232 (fc func233 fz)))))) (sc ark (sc aw4 (sc Eb (sc BW (sc Ec (sc T7 (sc ahQ (sc abl (sc abn (sc arI (sc arJ sz)))))))))))) (λA y=>match y with |.c0 p=>⟨23,sl,by kernel_rfl⟩|.c1 p=>⟨145,sl,by kernel_rfl⟩|.c2 p=>⟨145,sl,by kernel_rfl⟩|.c3 p=>⟨58,sl,by kernel_rfl⟩|.c4 p=>⟨58,sl,by kernel_rfl⟩) λ(m,n) c h=>axb
structure Wy where(a0:List Seen)(a1:Int)(a2:Node)
structure aiy where(b0:List Seen)(b2:Node)(za:au)(I7:Node)
structure aiz where(c0:Int)(c2:Node)(PR:pW)
structure aiA where(d0:Int)(d1:Bool)(d2:Node)(d17:au)(V1:Node)(d19:pW)
structure aiB where(e0:Int)(e22:uO)
structure aiC where(f0:Int)(f16:pW)(f17:uO)
structure Wz where(g0:Int)(g1:Bool)(g16:au)(g17:Node)(g24:uO)
structure WA where(h0:Int)(h1:Bool)(h16:au)(rM:Node)(h18:pW)(I8:uO)
structure WB where(z80:Bool)(VW:au)(JV:Node)(adf:uO)
structure WC where(z90:Bool)(Pt:au)(AT:Node)(Ns:pW)(adg:uO)
structure R4 where(av2:au)(Ej:Node)(adb:uO)
structure R5 where(av3:au)(Ek:Node)(Ps:pW)(ade:uO)
inductive adC where|c0(p:Wy)|c1(p:aiy)|c2(p:aiz)|c3(p:aiA)|c4(p:aiB)|c5(p:aiC)|c6(p:Wz)|c7(p:WA)|c8(p:WB)|c9(p:WC)|c10(p:R4)|c11(p:R5)
noncomputable def ajH:adC->iF
 | .c0 p=>⟨[vh 154 135 [(2,.sl pV p.a0),(4,pZ 0),(6,pZ 1),(7,pZ 2),(9,.gN),(10,vi p.a1)] f154 28],[dZ fE p.a2,gZ [vi 0,vi 0,vi 0,vi 0,vi 0,vi 0,vi 0,vi 0,vi 0,vi 0,vi 0,vi 0,vi 0,vi 0,vi 0,vb false,vi 0,vi 0,.eT true,.eT true,vi 0,vi 0],gZ [vi 0,vi 0,vi 0,vi 0,vi 0,vi 0,vi 0,vi 0,vi 0,vi 0,vi 0,.eT true,vi 0],.aU]⟩
 | .c1 p=>⟨[vh 154 135 [(2,.sl pV p.b0),(4,pZ 0),(6,pZ 1),(7,pZ 2),(9,pZ 3),(10,vi 0)] f154 28],[dZ fE p.b2,gZ [vi 0,vi 0,vi 0,vi 0,vi 0,vi 0,vi 0,vi 0,vi 0,vi 0,vi 0,vi 0,vi 0,vi 0,vi 0,vb false,vi 0,vi 0,.eT true,.eT true,vi 0,vi 0],gZ [vi 0,vi 0,vi 0,vi 0,vi 0,vi 0,vi 0,vi 0,vi 0,vi 0,vi 0,.eT true,vi 0],gZ<|dc aW p.za++dc fE p.I7,.aU]⟩
 | .c2 p=>⟨[vh 154 135 [(4,pZ 0),(6,pZ 1),(7,pZ 2),(9,.gN),(11,vi p.c0),(12,pZ 3),(13,vb false)] f154 1020],[dZ fE p.c2,gZ [vi 0,vi 0,vi 0,vi 0,vi 0,vi 0,vi 0,vi 0,vi 0,vi 0,vi 0,vi 0,vi 0,vi 0,vi 0,vb false,vi 0,vi 0,.eT true,.eT true,vi 0,vi 0],gZ [vi 0,vi 0,vi 0,vi 0,vi 0,vi 0,vi 0,vi 0,vi 0,vi 0,vi 0,.eT true,vi 0],dZ I4 p.PR,.aU]⟩
 | .c3 p=>⟨[vh 154 135 [(4,pZ 0),(6,pZ 1),(7,pZ 2),(9,pZ 3),(11,vi p.d0),(12,pZ 4),(13,vb p.d1)] f154 1020],[dZ fE p.d2,gZ [vi 0,vi 0,vi 0,vi 0,vi 0,vi 0,vi 0,vi 0,vi 0,vi 0,vi 0,vi 0,vi 0,vi 0,vi 0,vb false,vi 0,vi 0,.eT true,.eT true,vi 0,vi 0],gZ [vi 0,vi 0,vi 0,vi 0,vi 0,vi 0,vi 0,vi 0,vi 0,vi 0,vi 0,.eT true,vi 0],gZ<|dc aW p.d17++dc fE p.V1,dZ I4 p.d19,.aU]⟩
 | .c4 p=>⟨[vh 154 135 [(6,pZ 0),(7,pZ 1),(9,.gN),(10,vi p.e0),(12,pZ 2),(13,vb false),(14,pZ 3)] f154 4092],[gZ [vi 0,vi 0,vi 0,vi 0,vi 0,vi 0,vi 0,vi 0,vi 0,vi 0,vi 0,vi 0,vi 0,vi 0,vi 0,vb false,vi 0,vi 0,.eT true,.eT true,vi 0,vi 0],gZ [vi 0,vi 0,vi 0,vi 0,vi 0,vi 0,vi 0,vi 0,vi 0,vi 0,vi 0,.eT true,vi 0],gZ [vi 2,vi 0,vi 0,vi 0,vi 0,vi 0,vi 0,vi 0,vi 0,vi 0,vi 0,.eT true,vi 0],dZ re p.e22,.aU]⟩
 | .c5 p=>⟨[vh 154 135 [(6,pZ 0),(7,pZ 1),(9,.gN),(10,vi p.f0),(12,pZ 2),(13,vb false),(14,pZ 3)] f154 4092],[gZ [vi 0,vi 0,vi 0,vi 0,vi 0,vi 0,vi 0,vi 0,vi 0,vi 0,vi 0,vi 0,vi 0,vi 0,vi 0,vb false,vi 0,vi 0,.eT true,.eT true,vi 0,vi 0],gZ [vi 0,vi 0,vi 0,vi 0,vi 0,vi 0,vi 0,vi 0,vi 0,vi 0,vi 0,.eT true,vi 0],dZ I4 p.f16,dZ re p.f17,.aU]⟩
 | .c6 p=>⟨[vh 154 135 [(6,pZ 0),(7,pZ 1),(9,pZ 2),(10,vi p.g0),(12,pZ 3),(13,vb p.g1),(14,pZ 4)] f154 4092],[gZ [vi 0,vi 0,vi 0,vi 0,vi 0,vi 0,vi 0,vi 0,vi 0,vi 0,vi 0,vi 0,vi 0,vi 0,vi 0,vb false,vi 0,vi 0,.eT true,.eT true,vi 0,vi 0],gZ [vi 0,vi 0,vi 0,vi 0,vi 0,vi 0,vi 0,vi 0,vi 0,vi 0,vi 0,.eT true,vi 0],gZ<|dc aW p.g16++dc fE p.g17,gZ [vi 2,vi 0,vi 0,vi 0,vi 0,vi 0,vi 0,vi 0,vi 0,vi 0,vi 0,.eT true,vi 0],dZ re p.g24,.aU]⟩
 | .c7 p=>⟨[vh 154 135 [(6,pZ 0),(7,pZ 1),(9,pZ 2),(10,vi p.h0),(12,pZ 3),(13,vb p.h1),(14,pZ 4)] f154 4092],[gZ [vi 0,vi 0,vi 0,vi 0,vi 0,vi 0,vi 0,vi 0,vi 0,vi 0,vi 0,vi 0,vi 0,vi 0,vi 0,vb false,vi 0,vi 0,.eT true,.eT true,vi 0,vi 0],gZ [vi 0,vi 0,vi 0,vi 0,vi 0,vi 0,vi 0,vi 0,vi 0,vi 0,vi 0,.eT true,vi 0],gZ<|dc aW p.h16++dc fE p.rM,dZ I4 p.h18,dZ re p.I8,.aU]⟩
 | .c8 p=>⟨[vh 154 135 [(6,pZ 0),(7,pZ 1),(9,pZ 2),(12,pZ 3),(13,vb p.z80),(14,pZ 4)] f154 32764],[gZ [vi 0,vi 0,vi 0,vi 0,vi 0,vi 0,vi 0,vi 0,vi 0,vi 0,vi 0,vi 0,vi 0,vi 0,vi 0,vb false,vi 0,vi 0,.eT true,.eT true,vi 0,vi 0],gZ [vi 0,vi 0,vi 0,vi 0,vi 0,vi 0,vi 0,vi 0,vi 0,vi 0,vi 0,.eT true,vi 0],gZ<|dc aW p.VW++dc fE p.JV,gZ [vi 2,vi 0,vi 0,vi 0,vi 0,vi 0,vi 0,vi 0,vi 0,vi 0,vi 0,.eT true,vi 0],dZ re p.adf,.aU]⟩
 | .c9 p=>⟨[vh 154 135 [(6,pZ 0),(7,pZ 1),(9,pZ 2),(12,pZ 3),(13,vb p.z90),(14,pZ 4)] f154 32764],[gZ [vi 0,vi 0,vi 0,vi 0,vi 0,vi 0,vi 0,vi 0,vi 0,vi 0,vi 0,vi 0,vi 0,vi 0,vi 0,vb false,vi 0,vi 0,.eT true,.eT true,vi 0,vi 0],gZ [vi 0,vi 0,vi 0,vi 0,vi 0,vi 0,vi 0,vi 0,vi 0,vi 0,vi 0,.eT true,vi 0],gZ<|dc aW p.Pt++dc fE p.AT,dZ I4 p.Ns,dZ re p.adg,.aU]⟩
 | .c10 p=>⟨[vh 154 135 [(6,pZ 0),(7,pZ 1),(9,pZ 2),(12,pZ 3),(14,pZ 4)] f154 65532],[gZ [vi 0,vi 0,vi 0,vi 0,vi 0,vi 0,vi 0,vi 0,vi 0,vi 0,vi 0,vi 0,vi 0,vi 0,vi 0,vb false,vi 0,vi 0,.eT true,.eT true,vi 0,vi 0],gZ [vi 0,vi 0,vi 0,vi 0,vi 0,vi 0,vi 0,vi 0,vi 0,vi 0,vi 0,.eT true,vi 0],gZ<|dc aW p.av2++dc fE p.Ej,gZ [vi 2,vi 0,vi 0,vi 0,vi 0,vi 0,vi 0,vi 0,vi 0,vi 0,vi 0,.eT true,vi 0],dZ re p.adb,.aU]⟩
 | .c11 p=>⟨[vh 154 135 [(6,pZ 0),(7,pZ 1),(9,pZ 2),(12,pZ 3),(14,pZ 4)] f154 65532],[gZ [vi 0,vi 0,vi 0,vi 0,vi 0,vi 0,vi 0,vi 0,vi 0,vi 0,vi 0,vi 0,vi 0,vi 0,vi 0,vb false,vi 0,vi 0,.eT true,.eT true,vi 0,vi 0],gZ [vi 0,vi 0,vi 0,vi 0,vi 0,vi 0,vi 0,vi 0,vi 0,vi 0,vi 0,.eT true,vi 0],gZ<|dc aW p.av3++dc fE p.Ek,dZ I4 p.Ps,dZ re p.ade,.aU]⟩
abbrev Uj(A:aS)(n:Node):=(A.k nc (n.2.2.2.2.2.2.2,n.2.2.2.2.2.2.2.2.1))
def am3(A:aS)(m:au)(n:Node)(c:List Seen):LT (Node×pW×Int) adC:=.br (A.k ot n) (.br (A.cm (A.k iT (m,n)) 0) (.ak<|.c0 ⟨c,A.k iT (m,n),n⟩)<|.br (A.not<|A.cm n.2.2.1.2.1 n.1) (.ak<|.c0 ⟨c,181,n⟩)<|.br (A.cm (Uj A n).2 0) (.ak<|.c0 ⟨c,(Uj A n).2,n⟩)<|.ak<|.c1 ⟨c,n,m,(n.1,n.2.1,n.2.2.1,n.2.2.2.1,n.2.2.2.2.1,n.2.2.2.2.2.1,n.2.2.2.2.2.2.1,(Uj A n).1)⟩)<|.br (A.cm (A.k iT (m,n)) 0) (.ak<|.c0 ⟨c,A.k iT (m,n),n⟩)<|.ak<|.c0 ⟨c,181,n⟩
def tX(A:aS):adC->LT (Node×pW×Int) adC
 | .c0 p=>.br (A.cm p.a1 0) (.ret ((0,0,(0,0,0,0,0),(0,0,0,0,0,0,0),0,false,0,0,([]:List Int),([]:List gY),0,0),(0,0,0,(0,0,(0,0,0,0,0),0,([]:List Int)),0),p.a1))<|.br (A.cm (A.k uV (p.a2.2.2.1,p.a2.2.2.2.1,p.a2.2.2.1.2.1,p.a0)).2 0) (.ret ((0,0,(0,0,0,0,0),(0,0,0,0,0,0,0),0,false,0,0,([]:List Int),([]:List gY),0,0),(0,0,0,(0,0,(0,0,0,0,0),0,([]:List Int)),0),(A.k uV (p.a2.2.2.1,p.a2.2.2.2.1,p.a2.2.2.1.2.1,p.a0)).2))<|.br (A.bG (A.k uV (p.a2.2.2.1,p.a2.2.2.2.1,p.a2.2.2.1.2.1,p.a0)).1.1 3) (.bU 73 "starctl.go:235")<|.ak<|.c2 ⟨p.a2.2.2.1.2.1,p.a2,(A.k uV (p.a2.2.2.1,p.a2.2.2.2.1,p.a2.2.2.1.2.1,p.a0)).1⟩
 | .c1 p=>.br (A.cm 0 0) (.ret ((0,0,(0,0,0,0,0),(0,0,0,0,0,0,0),0,false,0,0,([]:List Int),([]:List gY),0,0),(0,0,0,(0,0,(0,0,0,0,0),0,([]:List Int)),0),0))<|.br (A.cm (A.k uV (p.b2.2.2.1,p.b2.2.2.2.1,p.b2.2.2.1.2.1,p.b0)).2 0) (.ret ((0,0,(0,0,0,0,0),(0,0,0,0,0,0,0),0,false,0,0,([]:List Int),([]:List gY),0,0),(0,0,0,(0,0,(0,0,0,0,0),0,([]:List Int)),0),(A.k uV (p.b2.2.2.1,p.b2.2.2.2.1,p.b2.2.2.1.2.1,p.b0)).2))<|.br (A.bG (A.k uV (p.b2.2.2.1,p.b2.2.2.2.1,p.b2.2.2.1.2.1,p.b0)).1.1 3) (.br (A.cm (A.k nR (p.za,p.b2.2.2.1.2.2.1,p.b2.2.2.1.2.1)).2 0) (.ak<|.c3 ⟨p.b2.2.2.1.2.1,false,p.b2,p.za,p.I7,(A.k uV (p.b2.2.2.1,p.b2.2.2.2.1,p.b2.2.2.1.2.1,p.b0)).1⟩)<|.br (A.bG (A.k nR (p.za,p.b2.2.2.1.2.2.1,p.b2.2.2.1.2.1)).1 3) (.br (A.cm (A.k nR (p.za,p.b2.2.2.1.2.2.1,p.b2.2.2.1.2.1)).1 0) (.br (A.bG (A.k nR (p.za,p.b2.2.2.1.2.2.1,p.b2.2.2.1.2.1)).1 (A.k uV (p.b2.2.2.1,p.b2.2.2.2.1,p.b2.2.2.1.2.1,p.b0)).1.2.2.2.1.1) (.ak<|.c3 ⟨p.b2.2.2.1.2.1,A.bG 0<|A.l (A.k uV (p.b2.2.2.1,p.b2.2.2.2.1,p.b2.2.2.1.2.1,p.b0)).1.2.2.2.1.2.2.2.2,p.b2,p.za,p.I7,(A.k uV (p.b2.2.2.1,p.b2.2.2.2.1,p.b2.2.2.1.2.1,p.b0)).1⟩)<|.ak<|.c3 ⟨p.b2.2.2.1.2.1,false,p.b2,p.za,p.I7,(A.k uV (p.b2.2.2.1,p.b2.2.2.2.1,p.b2.2.2.1.2.1,p.b0)).1⟩)<|.ak<|.c3 ⟨p.b2.2.2.1.2.1,false,p.b2,p.za,p.I7,(A.k uV (p.b2.2.2.1,p.b2.2.2.2.1,p.b2.2.2.1.2.1,p.b0)).1⟩)<|.ao (A.and (A.bQ 0 p.b2.2.2.1.2.2.1)<|A.bq p.b2.2.2.1.2.2.1<|A.l p.za.2.2.2.2.2.2.2)<|.ao (A.and (A.bQ 0 p.b2.2.2.1.2.1)<|A.bq p.b2.2.2.1.2.1<|A.l (A.n eQ p.za.2.2.2.2.2.2.2 p.b2.2.2.1.2.2.1:Mode).1)<|.br (A.cm (A.k nR (p.za,p.b2.2.2.1.2.2.1,p.b2.2.2.1.2.1)).1 0) (.br (A.bG (A.k nR (p.za,p.b2.2.2.1.2.2.1,p.b2.2.2.1.2.1)).1 (A.k uV (p.b2.2.2.1,p.b2.2.2.2.1,p.b2.2.2.1.2.1,p.b0)).1.2.2.2.1.1) (.ak<|.c3 ⟨p.b2.2.2.1.2.1,A.bG (A.n yI (A.n eQ p.za.2.2.2.2.2.2.2 p.b2.2.2.1.2.2.1:Mode).1 p.b2.2.2.1.2.1:Int)<|A.l (A.k uV (p.b2.2.2.1,p.b2.2.2.2.1,p.b2.2.2.1.2.1,p.b0)).1.2.2.2.1.2.2.2.2,p.b2,p.za,p.I7,(A.k uV (p.b2.2.2.1,p.b2.2.2.2.1,p.b2.2.2.1.2.1,p.b0)).1⟩)<|.ak<|.c3 ⟨p.b2.2.2.1.2.1,false,p.b2,p.za,p.I7,(A.k uV (p.b2.2.2.1,p.b2.2.2.2.1,p.b2.2.2.1.2.1,p.b0)).1⟩)<|.ak<|.c3 ⟨p.b2.2.2.1.2.1,false,p.b2,p.za,p.I7,(A.k uV (p.b2.2.2.1,p.b2.2.2.2.1,p.b2.2.2.1.2.1,p.b0)).1⟩)<|.ak<|.c3 ⟨p.b2.2.2.1.2.1,false,p.b2,p.za,p.I7,(A.k uV (p.b2.2.2.1,p.b2.2.2.2.1,p.b2.2.2.1.2.1,p.b0)).1⟩
 | .c2 p=>.br (A.bG p.PR.1 3) (.br (A.not false) (.ak<|.c4 ⟨(A.k oY (p.c2.2.2.2.1,p.c0,2,0,0,(0,0,(0,0,0,0,0),0,([]:List Int)),0)).2,(A.k oY (p.c2.2.2.2.1,p.c0,2,0,0,(0,0,(0,0,0,0,0),0,([]:List Int)),0)).1⟩)<|.ak<|.c5 ⟨(A.k oY (p.c2.2.2.2.1,p.c0,p.PR)).2,p.PR,(A.k oY (p.c2.2.2.2.1,p.c0,p.PR)).1⟩)<|.ak<|.c5 ⟨(A.k oY (p.c2.2.2.2.1,p.c0,p.PR)).2,p.PR,(A.k oY (p.c2.2.2.2.1,p.c0,p.PR)).1⟩
 | .c3 p=>.br (A.bG p.d19.1 3) (.br (A.not p.d1) (.ak<|.c6 ⟨(A.k oY (p.d2.2.2.2.1,p.d0,2,0,0,(0,0,(0,0,0,0,0),0,([]:List Int)),0)).2,p.d1,p.d17,p.V1,(A.k oY (p.d2.2.2.2.1,p.d0,2,0,0,(0,0,(0,0,0,0,0),0,([]:List Int)),0)).1⟩)<|.ak<|.c7 ⟨(A.k oY (p.d2.2.2.2.1,p.d0,p.d19)).2,p.d1,p.d17,p.V1,p.d19,(A.k oY (p.d2.2.2.2.1,p.d0,p.d19)).1⟩)<|.ak<|.c7 ⟨(A.k oY (p.d2.2.2.2.1,p.d0,p.d19)).2,p.d1,p.d17,p.V1,p.d19,(A.k oY (p.d2.2.2.2.1,p.d0,p.d19)).1⟩
 | .c4 p=>.br (A.cm p.e0 0) (.ret ((0,0,(0,0,0,0,0),(0,0,0,0,0,0,0),0,false,0,0,([]:List Int),([]:List gY),0,0),(0,0,0,(0,0,(0,0,0,0,0),0,([]:List Int)),0),p.e0))<|.bU 73 "starctl.go:278"
 | .c5 p=>.br (A.cm p.f0 0) (.ret ((0,0,(0,0,0,0,0),(0,0,0,0,0,0,0),0,false,0,0,([]:List Int),([]:List gY),0,0),(0,0,0,(0,0,(0,0,0,0,0),0,([]:List Int)),0),p.f0))<|.bU 73 "starctl.go:278"
 | .c6 p=>.br (A.cm p.g0 0) (.ret ((0,0,(0,0,0,0,0),(0,0,0,0,0,0,0),0,false,0,0,([]:List Int),([]:List gY),0,0),(0,0,0,(0,0,(0,0,0,0,0),0,([]:List Int)),0),p.g0))<|.br p.g1 (.br (A.cm 0 3) (.br (A.bG (A.k Gf (p.g17.2.2.2.2.2.2.2,p.g17.2.2.1.2.1,([]:List Int))).2 0) (.ak<|.c8 ⟨p.g1,p.g16,(p.g17.1,p.g17.2.1,(p.g17.2.2.1.1,p.g17.2.2.1.2.1,p.g17.2.2.1.2.2.1,p.g17.2.2.1.2.2.2.1,p.g24.2.2.1),p.g24,p.g17.2.2.2.2.1,p.g17.2.2.2.2.2.1,p.g17.2.2.2.2.2.2.1,(A.k Gf (p.g17.2.2.2.2.2.2.2,p.g17.2.2.1.2.1,([]:List Int))).1),p.g24⟩)<|.ak<|.c8 ⟨p.g1,p.g16,(p.g17.1,p.g17.2.1,(p.g17.2.2.1.1,p.g17.2.2.1.2.1,p.g17.2.2.1.2.2.1,p.g17.2.2.1.2.2.2.1,p.g24.2.2.1),p.g24,p.g17.2.2.2.2),p.g24⟩)<|.ak<|.c8 ⟨p.g1,p.g16,(p.g17.1,p.g17.2.1,(p.g17.2.2.1.1,p.g17.2.2.1.2.1,p.g17.2.2.1.2.2.1,p.g17.2.2.1.2.2.2.1,p.g24.2.2.1),p.g24,p.g17.2.2.2.2),p.g24⟩)<|.ak<|.c8 ⟨p.g1,p.g16,(p.g17.1,p.g17.2.1,(p.g17.2.2.1.1,p.g17.2.2.1.2.1,p.g17.2.2.1.2.2.1,p.g17.2.2.1.2.2.2.1,p.g24.2.2.1),p.g24,p.g17.2.2.2.2),p.g24⟩
 | .c7 p=>.br (A.cm p.h0 0) (.ret ((0,0,(0,0,0,0,0),(0,0,0,0,0,0,0),0,false,0,0,([]:List Int),([]:List gY),0,0),(0,0,0,(0,0,(0,0,0,0,0),0,([]:List Int)),0),p.h0))<|.br p.h1 (.br (A.cm p.h18.2.2.2.1.1 3) (.br (A.bG (A.k Gf (p.rM.2.2.2.2.2.2.2,p.rM.2.2.1.2.1,p.h18.2.2.2.1.2.2.2.2)).2 0) (.ak<|.c9 ⟨p.h1,p.h16,(p.rM.1,p.rM.2.1,(p.rM.2.2.1.1,p.rM.2.2.1.2.1,p.rM.2.2.1.2.2.1,p.rM.2.2.1.2.2.2.1,p.I8.2.2.1),p.I8,p.rM.2.2.2.2.1,p.rM.2.2.2.2.2.1,p.rM.2.2.2.2.2.2.1,(A.k Gf (p.rM.2.2.2.2.2.2.2,p.rM.2.2.1.2.1,p.h18.2.2.2.1.2.2.2.2)).1),p.h18,p.I8⟩)<|.ak<|.c9 ⟨p.h1,p.h16,(p.rM.1,p.rM.2.1,(p.rM.2.2.1.1,p.rM.2.2.1.2.1,p.rM.2.2.1.2.2.1,p.rM.2.2.1.2.2.2.1,p.I8.2.2.1),p.I8,p.rM.2.2.2.2),p.h18,p.I8⟩)<|.ak<|.c9 ⟨p.h1,p.h16,(p.rM.1,p.rM.2.1,(p.rM.2.2.1.1,p.rM.2.2.1.2.1,p.rM.2.2.1.2.2.1,p.rM.2.2.1.2.2.2.1,p.I8.2.2.1),p.I8,p.rM.2.2.2.2),p.h18,p.I8⟩)<|.ak<|.c9 ⟨p.h1,p.h16,(p.rM.1,p.rM.2.1,(p.rM.2.2.1.1,p.rM.2.2.1.2.1,p.rM.2.2.1.2.2.1,p.rM.2.2.1.2.2.2.1,p.I8.2.2.1),p.I8,p.rM.2.2.2.2),p.h18,p.I8⟩
 | .c8 p=>.br p.z80 (.br (A.bG (A.k uk (p.VW,p.JV.2.2.1,0)).2 0) (.ak<|.c10 ⟨p.VW,(p.JV.1,p.JV.2.1,(A.k uk (p.VW,p.JV.2.2.1,0)).1,p.JV.2.2.2),p.adf⟩)<|.ak<|.c10 ⟨p.VW,p.JV,p.adf⟩)<|.ak<|.c10 ⟨p.VW,p.JV,p.adf⟩
 | .c9 p=>.br p.z90 (.br (A.bG (A.k uk (p.Pt,p.AT.2.2.1,p.Ns.2.2.2.1.2.1)).2 0) (.ak<|.c11 ⟨p.Pt,(p.AT.1,p.AT.2.1,(A.k uk (p.Pt,p.AT.2.2.1,p.Ns.2.2.2.1.2.1)).1,p.AT.2.2.2),p.Ns,p.adg⟩)<|.ak<|.c11 ⟨p.Pt,p.AT,p.Ns,p.adg⟩)<|.ak<|.c11 ⟨p.Pt,p.AT,p.Ns,p.adg⟩
 | .c10 p=>.br (A.bG p.Ej.2.1 4) (.br (A.not<|A.k UI p.adb) (.ret ((p.Ej.1,3,p.Ej.2.2),(2,0,0,(0,0,(0,0,0,0,0),0,([]:List Int)),0),0))<|.ret (p.Ej,(2,0,0,(0,0,(0,0,0,0,0),0,([]:List Int)),0),0))<|.ret (p.Ej,(2,0,0,(0,0,(0,0,0,0,0),0,([]:List Int)),0),0)
 | .c11 p=>.br (A.bG p.Ek.2.1 4) (.br (A.not<|A.k UI p.ade) (.ret ((p.Ek.1,3,p.Ek.2.2),p.Ps,0))<|.ret (p.Ek,p.Ps,0))<|.ret (p.Ek,p.Ps,0)
def Ia{p:R5}(h:p.ade=p.Ek.2.2.2.1):bi (tX af) (.ak<|.c11 p) (x9 p.Ek,p.Ps,0):=by
 rw[aI,tX,h];exact ahy rfl
def abw{p:R4}(h:p.adb=p.Ej.2.2.2.1):bi (tX af) (.ak<|.c10 p) (x9 p.Ej,FI,0):=by
 rw[aI,tX,h];exact ahy rfl
def MQ{p:WC}(h:p.adg=p.AT.2.2.2.1):bi (tX af) (.ak<|.c9 p) (x9<|bif p.z90 then(p.AT.1,p.AT.2.1,qM p.Pt p.AT.2.2.1 p.Ns.2.2.2.1.2.1,p.AT.2.2.2) else p.AT,p.Ns,0):=by
 rw[aI,tX,qM];rw[show ∀x,af.k uk x=AB x.1 x.2.1 x.2.2 from λ_=>rfl];cases p.z90
 .exact(al rfl).2 (Ia h)
 .refine(ap rfl).2 (aX (p:=(AB p.Pt p.AT.c p.Ns.d.2.1).2=0) dq (λg=>?_) λg=>?_)
  .rw[bX g];exact Ia h
  .rw[fQ g];exact Ia h
def afY{p:WB}(c:p.z80=false)(h:p.adf=p.JV.2.2.2.1):bi (tX af) (.ak<|.c8 p) (x9 p.JV,FI,0):=by
 rw[aI,tX,c];exact(al rfl).2 (abw h)
def T8{p:WA}(c:p.h0=0)(f:p.h1=true->(sS p.rM.2.2.2.2.2.2.2 p.rM.2.2.1.2.1 p.h18.2.2.2.1.2.2.2.2).2=0):bi (tX af) (.ak<|.c7 p) (x9<|bif p.h1 then J5 p.h16 (AS p.rM p.I8) p.h18.2.2.2.1 else AS p.rM p.I8,p.h18,0):=by
 rw[aI,tX,c];refine(al rfl).2 ?_;cases hb:p.h1
 .exact(al rfl).2 (MQ (p:=⟨false,p.h16,AS p.rM p.I8,p.h18,p.I8⟩) rfl)
 .rw[cond_true,J5];refine(ap rfl).2 (aX (p:=¬p.h18.d.1=3) dU (λk=>(ap<|ajp<|f hb).2 ?_) λk=>?_)
  .rw[fQ k];exact MQ (p:=⟨true,p.h16,(p.rM.1,p.rM.2.1,(p.rM.c.1,p.rM.c.2.1,p.rM.c.c,p.rM.c.d,p.I8.c),p.I8,p.rM.e,p.rM.f,p.rM.g,(sS p.rM.G p.rM.c.2.1 p.h18.d.D).1),p.h18,p.I8⟩) rfl
  .rw[bX<|bY.1 k];exact MQ (p:=⟨true,p.h16,AS p.rM p.I8,p.h18,p.I8⟩) rfl
def afX{p:Wz}(c:p.g0=0)(f:p.g1=false):bi (tX af) (.ak<|.c6 p) (x9<|AS p.g17 p.g24,FI,0):=by
 rw[aI,tX,c,f];exact(al rfl).2 ((al rfl).2<|afY (p:=⟨false,p.g16,AS p.g17 p.g24,p.g24⟩) rfl rfl)
def MP{m:au}{n:Node}{o:pW}{g:Bool}(f:dn m n=0)(a1:(oY (n.2.2.2.1,n.2.2.1.2.1,o)).2=0)(a2:(oY (n.2.2.2.1,n.2.2.1.2.1,FI)).2=0)(c:g=(decide (o.1=3)&&Ak m n.2.2.1 o.2.2.2.1)):bi (tX af) (.ak<|.c3 ⟨n.2.2.1.2.1,g,n,m,n,o⟩) (Jd m n<|vD m n o,vD m n o,0):=by
 rw[aI,tX];simp only;refine aX (p:=o.1=3) dq (λk=>?_) λk=>?_
 .rw[bX k,dC] at c;subst c;cases hl:Ak m n.c o.d
  .refine(ap rfl).2 (?_);rw[Tn k hl];exact afX (p:=⟨(oY (n.d,n.c.2.1,FI)).2,false,m,n,(oY (n.d,n.c.2.1,FI)).1⟩) a2 rfl
  .refine(al rfl).2 (?_);have i:=Sk f hl;rw[Ov hl,Jd,bX k];exact T8 (p:=⟨(oY (n.d,n.c.2.1,o)).2,true,m,n,o,(oY (n.d,n.c.2.1,o)).1⟩) a1 λ_=>i
 .rw[ZG k,Jd,fQ k];have e:g=false:=by rw[c,fQ k];rfl
  subst e;exact T8 (p:=⟨(oY (n.d,n.c.2.1,o)).2,false,m,n,o,(oY (n.d,n.c.2.1,o)).1⟩) a1 (λh=>by cases h)
def afW{m:au}{n:Node}{f:List Seen}(u:dn m n=0):bi (tX af) (.ak<|.c1 ⟨f,n,m,n⟩)<|bif decide ((u9 n f).2=0) then(Jd m n<|vD m n (u9 n f).1,vD m n (u9 n f).1,0) else(lU,adh,(u9 n f).2):=by
 have l:(u9 n f).2=0->_:=λg=>ajk (c:=n.2.2.1) (v:=n.2.2.2.1) (s:=n.2.2.1.2.1) (seen:=f) g;rw[show qy (n.2.2.1,n.2.2.2.1,n.2.2.1.2.1,f)=u9 n f from rfl] at l;rw[aI,tX];simp only;rw[show af.k uV (n.2.2.1,n.2.2.2.1,n.2.2.1.2.1,f)=u9 n f from rfl,show af.k nR (m,n.2.2.1.2.2.1,n.2.2.1.2.1)=iY m n.2.2.1.2.2.1 n.2.2.1.2.1 from rfl];generalize u9 n f=S at l ⊢;refine(al rfl).2 (aX (p:=¬S.2=0) dU (λg=>aT (by rw[fQ g];rfl)<|.ret _) λg=>?_);have g:=bY.1 g;have⟨a1,a2⟩:=l g;rw[bX g,cond_true];have B:Ak m n.2.2.1 S.1.2.2.2.1=false->bi (tX af) (.ak<|.c3 ⟨n.2.2.1.2.1,false,n,m,n,S.1⟩) (Jd m n<|vD m n S.1,vD m n S.1,0):=λh=>MP u a1 a2 (by rw[h,cq]);refine aX (p:=S.1.1=3) dq (λk=>aX (p:=¬(iY m n.2.2.1.2.2.1 n.2.2.1.2.1).2=0) dU (λi=>B (by rw[Ak,fQ i];rfl)) λi=>?_) λk=>MP u a1 a2 (by rw[fQ k];rfl);have i:=bY.1 i;have kn:=KA i;have j:=yO i;have E:=sJ<|yR j.1 j.2.2.1 j.2.2.2;have C:∀w:Int,(bif decide ((iY m n.2.2.1.2.2.1 n.2.2.1.2.1).1=3) then(0:Int) else NJ m n.2.2.1.2.2.1 n.2.2.1.2.1)=w->bi (tX af) (.br (af.cm (iY m n.2.2.1.2.2.1 n.2.2.1.2.1).1 0) (.br (af.bG (iY m n.2.2.1.2.2.1 n.2.2.1.2.1).1 S.1.2.2.2.1.1) (.ak<|.c3 ⟨n.2.2.1.2.1,af.bG w<|af.l S.1.2.2.2.1.2.2.2.2,n,m,n,S.1⟩)<|.ak<|.c3 ⟨n.2.2.1.2.1,false,n,m,n,S.1⟩)<|.ak<|.c3 ⟨n.2.2.1.2.1,false,n,m,n,S.1⟩) (Jd m n<|vD m n S.1,vD m n S.1,0):=λw D=>by
  refine(ap<|qD kn).2 (aX (p:=(iY m n.2.2.1.2.2.1 n.2.2.1.2.1).1=S.1.2.2.2.1.1) dq (λA=>MP u a1 a2 ?_) λA=>B ?_)
  .rw[bX k,dC,Ak,bX i,bX A.symm,dC,dC,dq];show decide (w=(S.1.2.2.2.1.2.2.2.2.length:Int))=decide ((S.1.2.2.2.1.2.2.2.2.length:Int)=bif decide ((iY m n.2.2.1.2.2.1 n.2.2.1.2.1).1=3) then(0:Int) else NJ m n.2.2.1.2.2.1 n.2.2.1.2.1);rw[D];exact decide_eq_decide.2 ⟨Eq.symm,Eq.symm⟩
  .rw[Ak,fQ<|show ¬S.1.2.2.2.1.1=(iY m n.2.2.1.2.2.1 n.2.2.1.2.1).1 from λx=>A x.symm,fG,cq]
 refine aX (p:=(iY m n.2.2.1.2.2.1 n.2.2.1.2.1).1=3) dq (λy=>C 0 (by rw[bX y];rfl)) λy=>aA.2 ⟨uE j.2.2.1 j.2.2.2,aA.2 ⟨yS E.1 j.2.1.1<|by omega,C _ (by rw[fQ y];rfl)⟩⟩
def Fj{p:Wy}(h:¬p.a1=0):bi (tX af) (.ak<|.c0 p) (lU,adh,p.a1):=by
 rw[aI,tX];exact(ap<|qD h).2 (.ret _)
def asp{m:au}{n:Node}{c:List Seen}:bi (tX af) (am3 af m n c)<|oD m n c:=by
 unfold am3 Uj oD;rw[show af.k ot n=kT n from rfl,show af.k iT (m,n)=dn m n from rfl,show af.k nc (n.G,n.i)=K1 n.G n.i from rfl];refine ?_;by_cases h:dn m n=0
 .rw[bX h,yy h,cond_true];cases hi:kT n
  .exact(al rfl).2 ((al<|xf h).2<|Fj<|show ¬(181:Int)=0 by decide)
  refine(ap rfl).2 ((al<|xf h).2 ?_);by_cases f:n.c.2.1=n.1
  .rw[fQ<|show ¬¬n.c.2.1=n.1 from λk=>k f];exact(ap (by rw[dU,fQ<|show ¬¬n.c.2.1=n.1 from λk=>k f];rfl)).2 (Fj<|show ¬(181:Int)=0 by decide)
  .rw[bX f];exact(al (by rw[dU,bX f];rfl)).2 ((al rfl).2<|afW h)
 .rw[fQ h];cases kT n
  .exact(al rfl).2 ((ap<|qD h).2<|Fj h)
  .exact(ap rfl).2 ((ap<|qD h).2<|Fj h)
def SD:(au×Node×List Seen)->(Node×pW×Int):=λ(m,c,k)=>oD m c k
def atf:aL:=.all [aW,fE,.slice pV] [fE,I4,yI] SD
def art:Sd 154 atf:=fa<|bE ar dK sl 106 [] [⟨154,2,[[2,4,6,7,9,10]]⟩,⟨154,9,[[4,6,7,9,11,12,13]]⟩,⟨154,12,[[6,7,9,10,12,13,14]]⟩,⟨154,17,[[6,7,9,12,13,14]]⟩,⟨154,19,[[6,7,9,12,14]]⟩] (λA (m,n,c)=>am3 A m n c) tX ajH (kz (fc func154 (fc func46 (fc func140 (fc func141 (fc func198 (fc func251 fz)))))) (sc aw2 (sc aw6 (sc aw_ (sc Eb (sc BW (sc Ec (sc ahS (sc abl (sc abn sz)))))))))) (λA y=>match y with |.c0 p=>⟨74,sl,by kernel_rfl⟩|.c1 p=>⟨158,sl,by kernel_rfl⟩|.c2 p=>⟨35,sl,by kernel_rfl⟩|.c3 p=>⟨35,sl,by kernel_rfl⟩|.c4 p=>⟨19,sl,by kernel_rfl⟩|.c5 p=>⟨19,sl,by kernel_rfl⟩|.c6 p=>⟨90,sl,by kernel_rfl⟩|.c7 p=>⟨90,sl,by kernel_rfl⟩|.c8 p=>⟨53,sl,by kernel_rfl⟩|.c9 p=>⟨53,sl,by kernel_rfl⟩|.c10 p=>⟨37,sl,by kernel_rfl⟩|.c11 p=>⟨37,sl,by kernel_rfl⟩) λ(m,n,c) f h=>asp
def xx{c:gE}{k:Int}(l:4<=k/\k<=8)(f:0<=c.1/\c.1<=255)(g:0<=c.2.1/\c.2.1<=k-1)(h:0<=c.2.2.1/\c.2.2.1<=3)(i:0<=c.2.2.2.1/\c.2.2.2.1<=4)(j:0<=c.2.2.2.2/\c.2.2.2.2<=2^k.toNat-1):rz (c,k)=0:=by
 rw[rz,fQ<|show ¬k<4 by omega,fQ<|show ¬8<k by omega,bX f.1,bX f.2,bX g.1,bX g.2,bX h.1,bX h.2,bX i.1,bX i.2,bX j.1,bX j.2];rfl
def ug{m:au}{c:gE}(h:rz (c,m.1)=0)(f:c.2.2.1<iy m)(g:c.2.2.2.1<=iy m):kZ m c=true:=by
 rw[kZ,bX h,bX f,bX g];rfl
def G3{m:au}(c:df m=true)(h:U1 m x=true):dn m x=0:=by rw[dn,c,h];rfl
theorem GY{m:au}(A:df m=true)(c:0<=x.1/\x.1<=m.1-1)(f:2<=x.2.1/\x.2.1<=4)(g:0<=x.2.2.2.2.2.2.1/\x.2.2.2.2.2.2.1<=2)(h:ja x.2.2.2.2.2.2.2=true)(i:x.2.2.2.2.2.2.2.1=x.1)(j:(x.2.2.2.2.2.2.2.2.2.1.length:Int)=m.1)
  (B:x.2.1=2->(af.n .bool m.2.2.2.2.2.2.1 x.1:Bool)=true) (l:kZ m x.2.2.1=true) (p:tQ x.2.2.2.1=0) (u:x.2.2.2.1.1=x.1) (v:x.2.2.2.1.2.1=m.1) (y:x.2.2.1.2.2.2.2=x.2.2.2.1.2.2.1) (C:x.2.2.2.2.1=0) (D:x.2.2.2.2.2.1=true->x.2.1=2):dn m x=0:=by
 refine G3 A (fR.2 ⟨c,by omega,g,h,i,j,?_,?_,?_,?_⟩)
 .rw[Li];by_cases k:x.2.1=2
  .simp_all
  .rw[fQ k];rfl
 .rw[FO,kT,bX f,cond_true,l,bX p,bX u,bX v,bX y];rfl
 .rw[IB,fQ (show ¬x.2.1=1 by omega)];simp_all
 .rw[Lf]
  grind
theorem uA{m:au}(u:df m=true)(c:0<=x.1/\x.1<=m.1-1)(v:x.2.1=0\/x.2.1=1\/x.2.1=5)(f:0<=x.2.2.2.2.2.2.1/\x.2.2.2.2.2.2.1<=2)(g:ja x.2.2.2.2.2.2.2=true)(h:x.2.2.2.2.2.2.2.1=x.1)(i:(x.2.2.2.2.2.2.2.2.2.1.length:Int)=m.1)
  (j:x.2.2.1=(0,0,0,0,0)) (l:x.2.2.2.1=(0,0,0,0,0,0,0)) (y:x.2.1=1->1<=x.2.2.2.2.1/\x.2.2.2.2.1<=(tW m x.1).1) (p:¬x.2.1=1->x.2.2.2.2.1=0) (A:x.2.2.2.2.2.1=true->x.2.1=1):dn m x=0:=by
 refine G3 u (fR.2 ⟨c,by omega,f,g,h,i,?_,?_,?_,?_⟩)
 .rw[Li,fQ (show ¬x.2.1=2 by omega)];rfl
 .rw[FO,kT,fQ (show ¬(2<=x.2.1/\x.2.1<=4) by omega),cond_false,j,l];rfl
 .rw[IB]
  simp_all
 .rw[Lf]
  grind
theorem Tv{m:au}{n:Node}(h:dn m n=0)(c:n.2.2.2.2.2.1=true):n.2.1=1\/n.2.1=2:=by
 have f:=(fR.1 (du h).2).I;rw[Lf,c] at f
 simp_all
def afm{k:Int}(h:4<=k/\k<=8):af.b .shl .i64 1 k=2^k.toNat:=by
 have:k=4\/k=5\/k=6\/k=7\/k=8:=by omega
 rcases this with rfl|rfl|rfl|rfl|rfl<;>decide
theorem Qz{a b c:Int}(g:4<=b/\b<=8)(f:0<=a/\a<=b-1)(h:0<=c/\c<=2^b.toNat-1):tQ (a,b,c,1,0,0,0)=0:=by
 refine nF.2 ?_;unfold oC
 grind
def E7{m:au}{n:Int}(c:df m=true)(h:0<=n/\n<=m.1-1):1<=(tW m n).1:=by
 have f:=(jc c).1;rw[tW,pN,c,cond_true,bX h];simp[cond_true,decide_true,gB];rw[jh,jh];rw[my (a:=4*m.1) (by omega)<|by omega,my (a:=n+1) (by omega)<|by omega,my (a:=2*(n+1)) (by omega)<|by omega,my (by omega)<|by omega];omega
def amd{m:au}{n:Int}(c:df m=true)(h:0<=n/\n<=m.1-1):1<=(Mv m n).1/\(Mv m n).1<=(tW m n).1:=by
 have f:=(jc c).1;rw[tW,Mv,pN,c,cond_true,bX h];simp[cond_true,decide_true,gB];rw[jh,jh];rw[my (a:=4*m.1) (by omega)<|by omega,my (a:=n+1) (by omega)<|by omega,my (a:=2*(n+1)) (by omega)<|by omega,my (a:=4*m.1+2*(n+1)) (by omega)<|by omega];omega
theorem M3{m:au}{c:gE}{r:Int}(j:df m=true)(h:kZ m c=true):kZ m (qM m c r)=true/\(qM m c r).2.1=c.2.1/\(qM m c r).2.2.2.2=c.2.2.2.2:=by
 rw[qM,AB,bX (XF j h),cond_true];by_cases g:0<=r/\r<=iy m
 .rw[bX g,cond_true];by_cases l:0<r
  .cases h3:zj m c (r-1)
   .simp_all
   .rw[bX l,Bool.and_self,cond_true];have i:=yG h;have f:=uR i.1;have p:=(jc j).2.1;refine⟨ug (xx f.1 f.2.1 f.2.2.1 f.2.2.2.1 (show 0<=r/\r<=4 by omega) f.2.2.2.2.2) i.2.1.2 g.2,rfl,rfl⟩
  grind
 grind
theorem anZ{m:au}{n:Node}{s:Int}(h:dn m n=0)(i:(Fp m n s).2=0):dn m (Fp m n s).1=0:=by
 have f:=fR.1 (du h).2;have l:=(du h).1;have j:=(jc l);rw[Fp,bX h,cond_true] at i ⊢;by_cases p:n.2.1=0
 .rw[bX p,cond_true] at i ⊢;by_cases g:0<=s/\s<=af.b .shl .i64 1 m.1-1
  .rw[bX g,cond_true] at i ⊢;cases h3:qC s n.1
   .simp_all
   .rw[afm j.1] at g;exact GY l f.1 (show(2:Int)<=4/\(4:Int)<=4 by omega) f.c f.d f.e f.f (λk=>absurd k<|show ¬(4:Int)=2 by omega) (ug (xx (c:=(0,0,0,0,s)) j.1 (show(0:Int)<=0/\(0:Int)<=255 by omega) (show(0:Int)<=0/\(0:Int)<=m.1-1 by omega) (show(0:Int)<=0/\(0:Int)<=3 by omega) (show(0:Int)<=0/\(0:Int)<=4 by omega) g) (show(0:Int)<iy m by omega)<|show(0:Int)<=iy m by omega) (Qz j.1 f.1 g) rfl rfl rfl rfl (λk=>by have:=Tv h k;omega)
  simp_all
 simp_all
theorem Tq{m:au}{id:Int}(f:(rX m id).2=0):dn m (rX m id).1=0:=by
 rw[rX] at f ⊢;cases hm:df m
 .simp_all
 .rw[hm,cond_true] at f;have j:=jc hm;by_cases c:0<=id/\id<=m.1-1
  .rw[bX c,cond_true,cond_true];have h:((List.replicate m.1.toNat G5).length:Int)=m.1:=by grind
   refine uA hm c (.inl rfl) (show(0:Int)<=0/\(0:Int)<=2 by omega) ?_ rfl h rfl rfl (λk=>absurd k<|show ¬(0:Int)=1 by omega) (λ_=>rfl) (λk=>by cases k);have g:(List.replicate m.1.toNat G5).all Oz=true:=by rw[cv];intro x i;rw[List.eq_of_mem_replicate i];decide
   simp only[ja,g]
   simp_all
  simp_all
theorem BN{m:au}{n:Node}{on:Bool}(h:dn m n=0)(f:(ju m n on).2=0):dn m (ju m n on).1=0:=by
 have c:=fR.1 (du h).2;have g:=(du h).1;rw[ju,bX h,cond_true] at f ⊢;cases on
 .exact Tq f
 .rw[cond_true] at f ⊢;by_cases i:n.2.1=0
  .rw[bX i,cond_true];exact uA g c.1 (.inr<|.inl rfl) c.c c.d c.e c.f rfl rfl (λ_=>⟨E7 g c.1,ai _⟩) (λk=>absurd rfl k)<|λk=>rfl
  simp_all
def Z6{m:au}{n:Node}{c:jo}(h:dn m n=0)(g:ja c=true)(i:c.1=n.2.2.2.2.2.2.2.1)(j:c.2.2.1.length=n.2.2.2.2.2.2.2.2.2.1.length):dn m (n.1,n.2.1,n.2.2.1,n.2.2.2.1,n.2.2.2.2.1,n.2.2.2.2.2.1,n.2.2.2.2.2.2.1,c)=0:=by
 have f:=fR.1 (du h).2;exact G3 (du h).1<|fR.2 ⟨f.1,f.2.1,f.c,g,i.trans f.e,(congrArg Int.ofNat j).trans f.f,f.F⟩
theorem an4{c:jo}{d:List Int}(f:(K1 c d).2=0):ja (K1 c d).1=true/\(K1 c d).1.1=c.1/\(K1 c d).1.2.2.1.length=c.2.2.1.length:=by
 rw[K1] at f ⊢;cases h:ja c
 .simp_all
 .rw[h,cond_true] at f;by_cases g:8<(d.length:Int)
  .simp_all
  .rw[fQ g,cond_false];simp only[ja] at h ⊢
   simp_all
theorem ajn{c:jo}(f:(btS c).2=0):ja (btS c).1=true/\(btS c).1.1=c.1/\(btS c).1.2.2.1.length=c.2.2.1.length:=by
 rw[btS] at f ⊢;cases h:ja c
 .simp_all
 .rw[cond_true];simp only[ja] at h ⊢
  simp_all
theorem XE{c:jo}{w:Int}(f:(Jb c w).2=0):ja (Jb c w).1=true/\(Jb c w).1.1=c.1/\(Jb c w).1.2.2.1.length=c.2.2.1.length:=by
 rw[Jb] at f ⊢;cases h:ja c
 .simp_all
 .rw[h,cond_true] at f;by_cases g:-1<=w/\w<=3
  .rw[bX g,cond_true];simp only[ja] at h ⊢
   simp_all
  simp_all
def afx{c:jo}(h:ja c=true):ja (JB c).1=true/\(JB c).1.1=c.1/\(JB c).1.2.2.1.length=c.2.2.1.length:=by
 rw[JB,h,cond_true];have i:(c.2.2.1.map La).length=c.2.2.1.length:=cy ..;simp only[ja,eH,tP] at h ⊢;refine⟨⟨by omega,by omega,h.2.2.1,?_,h.2.2.2.2.1,?_⟩,trivial,i⟩
 .have p:=h.2.2.2.1;rw[ia,my (by omega)<|by omega,wN];omega
 .rw[cv];intro x j;obtain⟨y,l,rfl⟩:=dE.1 j;have g:=cv.1 h.2.2.2.2.2 y l;simp only[Oz,eH,tP] at g;have f:0<=(La y).2/\(La y).2<=255:=by
   show 0<=af.mn (af.b .add .i64 y.2 1) 255/\af.mn (af.b .add .i64 y.2 1) 255<=255;rw[gB,my (by omega)<|by omega,n_];omega
  rw[Oz,eH];exact⟨bX g.1,bX f⟩
theorem Sl{c:jo}{s:Int}{d:List Int}(f:(sS c s d).2=0):ja (sS c s d).1=true/\(sS c s d).1.1=c.1/\(sS c s d).1.2.2.1.length=c.2.2.1.length:=by
 rw[sS] at f ⊢;cases h:ja c
 .simp_all
 rw[cond_true];by_cases i:0<=s/\s<=(c.2.2.1.length:Int)-1
 .rw[bX i,cond_true] at f ⊢;by_cases j:8<(d.length:Int)
  .simp_all
  rw[fQ j,cond_false];have l:(c.2.2.1.set s.toNat (d,0)).length=c.2.2.1.length:=cd ..;simp only[ja,eH,tP] at h ⊢;refine⟨⟨by omega,by omega,h.2.2.1,h.2.2.2.1,h.2.2.2.2.1,?_⟩,trivial,l⟩;rw[cv];intro x g;rcases List.mem_or_eq_of_mem_set g with g|rfl
  .simp_all
  .simp[Oz,eH,tP];omega
 simp_all
theorem GJ{m:au}{n:Node}{r:jo×Int}(h:dn m n=0)(g:r.2=0->ja r.1=true/\r.1.1=n.2.2.2.2.2.2.2.1/\r.1.2.2.1.length=n.2.2.2.2.2.2.2.2.2.1.length)(f:(Ai n r).2=0):dn m (Ai n r).1=0:=by
 rw[Ai] at f ⊢;by_cases k:r.2=0
 .rw[bX k,cond_true];have⟨a,b,c⟩:=g k;exact Z6 h a b c
 simp_all
theorem aeS{m:au}{n:Node}{o:dP}(h:dn m n=0)(c:(zh m n o).2=0):dn m (zh m n o).1=0:=by
 rw[zh,bX h,cond_true] at c ⊢;by_cases g:1<=o.d/\o.d<=3
 .rw[bX g,cond_true] at c ⊢;cases hi:kT n
  .exact h
  rw[hi,cond_true] at c;by_cases k:o.d=1
  .rw[bX k,cond_true] at c ⊢;exact GJ h an4 c
  rw[fQ k,cond_false] at c ⊢;by_cases f:o.d=2
  .rw[bX f,cond_true] at c ⊢;exact GJ h ajn c
  rw[fQ f,cond_false] at c ⊢;exact GJ h XE c
 simp_all
theorem Z5{m:au}{n:Node}{c:gE}(h:dn m n=0)(g:kT n=true)(i:kZ m c=true)(j:c.2.2.2.2=n.2.2.1.2.2.2.2):dn m (n.1,n.2.1,c,n.2.2.2)=0:=by
 have f:=fR.1 (du h).2;have l:=oL h g;refine G3 (du h).1<|fR.2 ⟨f.1,f.2.1,f.c,f.d,f.e,f.f,f.g,?_,f.H⟩;rw[FO,show kT (n.1,n.2.1,c,n.C)=true from g,cond_true]
 simp_all
theorem abL{m:au}{c:gE}(p:df m=true)(h:kZ m c=true):kZ m (nC c m.1).1=true/\(nC c m.1).1.2.2.2.2=c.2.2.2.2:=by
 have i:=yG h;have f:=uR i.1;rw[nC,bX i.1,cond_true];have l:0<=(c.1+1).tmod 256/\(c.1+1).tmod 256<=255:=by grind
 by_cases g:c.2.1+1=m.1
 .rw[bX g,cond_true];by_cases j:c.2.2.2.1=0
  .rw[bX j,cond_true];exact⟨ug (xx (c:=((c.1+1).tmod 256,0,c.2.2)) f.1 l (show(0:Int)<=0/\(0:Int)<=m.1-1 by omega) f.2.2.2.1 f.2.2.2.2.1 f.2.2.2.2.2) i.2.1.2 i.2.2,rfl⟩
  .rw[fQ j,cond_false];exact⟨ug (xx (c:=((c.1+1).tmod 256,0,c.2.2.2.1-1,0,c.2.2.2.2)) f.1 l (show(0:Int)<=0/\(0:Int)<=m.1-1 by omega) (show 0<=c.2.2.2.1-1/\c.2.2.2.1-1<=3 by omega) (show(0:Int)<=0/\(0:Int)<=4 by omega) f.2.2.2.2.2) (show c.2.2.2.1-1<iy m by omega)<|show(0:Int)<=iy m by omega,rfl⟩
 .rw[fQ g,cond_false];exact⟨ug (xx (c:=(c.1,c.2.1+1,c.2.2)) f.1 f.2.1 (show 0<=c.2.1+1/\c.2.1+1<=m.1-1 by omega) f.2.2.2.1 f.2.2.2.2.1 f.2.2.2.2.2) i.2.1.2 i.2.2,rfl⟩
theorem E2{m:au}{n:Node}(h:dn m n=0)(g:(jq m n).2=0):dn m (jq m n).1=0:=by
 rw[jq,bX h,cond_true] at g ⊢;cases hi:kT n
 .simp_all
 have⟨a,b⟩:=abL (du h).1 (oL h hi).1;have f:=Z5 (c:=(nC n.c m.1).1) h hi a b;cases decide ((nC n.c m.1).1.2.1=0)
 .grind
 .have⟨c,d,e⟩:=afx<|E9 h;exact Z6 f c d e
def aa3{k n:Int}(g:4<=k/\k<=8)(h:0<=n/\n<=k-1):0<=af.b .shl .i64 1 n/\af.b .shl .i64 1 n<=2^k.toNat-1:=by
 have c:k=4\/k=5\/k=6\/k=7\/k=8:=by omega
 have f:n=0\/n=1\/n=2\/n=3\/n=4\/n=5\/n=6\/n=7:=by omega
 rcases c with rfl|rfl|rfl|rfl|rfl<;>rcases f with rfl|rfl|rfl|rfl|rfl|rfl|rfl|rfl<;>first|decide|omega
theorem Um{m:au}{n:Node}(h:dn m n=0)(y:(iL m n).2.2.2=0):dn m (iL m n).1=0:=by
 have f:=fR.1 (du h).2;have i:=(du h).1;have l:=jc i;rw[iL,bX h,cond_true] at y ⊢;by_cases g:n.2.1=1
 .have⟨u,x⟩:=LX h (by omega);have A:1<=n.e/\n.e<=(tW m n.1).1:=by
   have j:=f.i;rw[IB,bX g,cond_true,tP] at j;omega
  rw[bX g,cond_true];by_cases p:0<n.e-1
  .rw[bX p,cond_true];exact uA i f.1 (.inr<|.inl g) f.c f.d f.e f.f u x (λ_=>show 1<=n.e-1/\n.e-1<=(tW m n.1).1 by omega) (λk=>absurd g k)<|λ_=>g
  .rw[fQ p,cond_false];cases j:(af.n .bool m.g n.1:Bool)
   .rw[cond_false];exact uA i f.1 (.inr<|.inl g) f.c f.d f.e f.f u x (λ_=>⟨E7 i f.1,ai _⟩) (λk=>absurd g k)<|λ_=>g
   .rw[cond_true];have v:=aa3 l.1 f.1;exact GY i f.1 (show(2:Int)<=2/\(2:Int)<=4 by omega) f.c f.d f.e f.f (λ_=>j) (ug (xx (c:=(0,n.1,0,0,af.b .shl .i64 1 n.1)) l.1 (show(0:Int)<=0/\(0:Int)<=255 by omega) f.1 (show(0:Int)<=0/\(0:Int)<=3 by omega) (show(0:Int)<=0/\(0:Int)<=4 by omega) v) (show(0:Int)<iy m by omega)<|show(0:Int)<=iy m by omega) (Qz l.1 f.1 v) rfl rfl rfl rfl<|λ_=>rfl
 simp_all
theorem Kz{m:au}{n:Node}{c:gE}{f:vP}(h:dn m n=0)(l:kZ m c=true)(p:f.1=4->(sS n.2.2.2.2.2.2.2 c.2.1 f.2.2.2.2).2=0):dn m (Bv m n c f)=0:=by
 have g:=fR.1 (du h).2;have j:=(du h).1;have⟨v,y,x⟩:=M3 (r:=f.2.1) j l;have u:=(uR (yG l).1).E;have i:ja (bif decide (f.1=4) then(sS n.G c.2.1 f.D).1 else n.G)=true/\(bif decide (f.1=4) then(sS n.G c.2.1 f.D).1 else n.G).1=n.h/\(bif decide (f.1=4) then(sS n.G c.2.1 f.D).1 else n.G).c.length=n.j.length:=by
  by_cases k:f.1=4
  .rw[bX k];exact Sl<|p k
  simp_all
 exact GY j g.1 (show(2:Int)<=3/\(3:Int)<=4 by omega) (show(0:Int)<=0/\(0:Int)<=2 by omega) i.1 (i.2.1.trans g.e) ((congrArg Int.ofNat i.2.2).trans g.f) (λk=>absurd k<|show ¬(3:Int)=2 by omega) v (Qz (jc j).1 g.1 u) rfl rfl x rfl (λk=>by cases k)
theorem Td{m:au}{n:Node}{s:List Seen}{o:Bool}(h:dn m n=0)(p:(lb m n s o).2.2.2=0):dn m (lb m n s o).1=0:=by
 have f:=fR.1 (du h).2;have i:=(du h).1;have u:=jc i;rw[lb,bX h,cond_true] at p ⊢;by_cases g:n.2.1=1
 .rw[bX g,cond_true] at p ⊢;by_cases v:(s.length:Int)=2
  .rw[bX v,cond_true];cases hx:(jy m.1 s).2.2
   .exact h
   have⟨D,E,j⟩:=Ym hx;have G:=Y3 j;by_cases l:(jy m.1 s).1.1=1
   .rw[bX l,cond_true];by_cases x:(jy m.1 s).1.2.2.2.1=n.1
    .simp_all
    .rw[fQ x,cond_false];cases o && !n.2.2.2.2.2.1
     .rw[cond_false];exact Kz h (ug (xx (c:=(0,(jy m.1 s).1.2.2.2.1,0,0,af.b .shl .i64 1 (jy m.1 s).1.2.2.2.1)) u.1 (show(0:Int)<=0/\(0:Int)<=255 by omega) (show 0<=(jy m.1 s).1.2.2.2.1/\(jy m.1 s).1.2.2.2.1<=m.1-1 by omega) (show(0:Int)<=0/\(0:Int)<=3 by omega) (show(0:Int)<=0/\(0:Int)<=4 by omega)<|aa3 u.1<|by omega) (show(0:Int)<iy m by omega)<|show(0:Int)<=iy m by omega) (λk=>by omega)
     .rw[cond_true];have⟨B,C⟩:=LX h (by omega);exact uA i f.1 (.inr<|.inl g) f.2.2.1 f.2.2.2.1 f.2.2.2.2.1 f.2.2.2.2.2.1 B C (λ_=>⟨E7 i f.1,ai _⟩) (λk=>absurd g k)<|λ_=>g
   .rw[fQ l,cond_false];cases hj:UZ m n (jy m.1 s).1
    .exact h
    .rw[cond_true];have y:=X_ h j hj;have A:kZ m (jy m.1 s).1.2.2.1=true:=by rw[UZ,eH] at hj;simp_all
     exact Kz h A λ_=>y
  simp_all
 simp_all
def Yp{m:au}{c:gE}{s:Int}(h:kZ m c=true)(i:0<=s/\s<=2^m.1.toNat-1):kZ m (c.1,c.2.1,c.2.2.1,c.2.2.2.1,s)=true:=by
 have g:=yG h;have f:=uR g.1;exact ug (xx (c:=(c.1,c.2.1,c.c,c.d,s)) f.1 f.2.1 f.c f.d f.e i) g.2.1.2 g.2.2
theorem ac6{v:uO}(h:tQ v=0):0<=v.2.2.1/\v.2.2.1<=2^v.2.1.toNat-1:=by
 have c:=nF.1 h;unfold oC at c
 grind
def OD{m:au}{n:Node}{v:uO}(h:dn m n=0)(g:kT n=true)(j:tQ v=0)(l:v.1=n.1)(f:v.2.1=m.1):dn m (AS n v)=0:=by
 have c:=fR.1 (du h).2;have p:=oL h g;have i:=ac6 j;rw[f] at i;refine G3 (du h).1<|fR.2 ⟨c.1,c.2.1,c.c,c.d,c.e,c.f,c.g,?_,c.H⟩;rw[FO,show kT (AS n v)=true from g,cond_true];show(kZ m (n.c.1,n.c.2.1,n.c.c,n.c.d,v.c)&&(decide (tQ v=0)&&(decide (v.1=n.1)&&(decide (v.2.1=m.1)&&decide (v.c=v.c)))))=true;rw[Yp p.1 i,bX j,bX l,bX f,bX rfl];rfl
def Zo{n:Node}(c:kT n=true):2<=n.2.1/\n.2.1<=4:=of_decide_eq_true c
def afd{m:au}(h:dn m x=0)(g:kT x=true):dn m (on4 x)=0:=by
 have f:=fR.1 (du h).2;have c:=oL h g;have j:=Zo g;have i:=Tw h (show ¬x.2.1=1 by omega);exact GY (du h).1 f.1 (show(2:Int)<=4/\(4:Int)<=4 by omega) f.c f.d f.e f.f (λk=>absurd k<|show ¬(4:Int)=2 by omega) c.1 c.2.1 c.c c.d c.D i (λk=>by cases k)
theorem agQ{n:Node}(h:tQ n.2.2.2.1=0):tQ (qI n).1=0/\(qI n).1.1=n.2.2.2.1.1/\(qI n).1.2.1=n.2.2.2.1.2.1:=by
 rw[qI];cases decide (n.2.1=2)&&(decide (n.d.d<2)||decide (n.d.d<=n.d.e))
 .rw[cond_false];generalize n.d=V at h ⊢;cases decide (n.2.1=3)
  .have⟨g,i,j,l,p,w,c,f,_⟩:=TC<|nF.1 h;rw[cond_false,c];exact⟨nF.2 f,rfl,rfl⟩
  .have⟨g,i,j,l,p,w,c,f,_⟩:=Zv<|nF.1 h;rw[cond_true,c];exact⟨nF.2 f,rfl,rfl⟩
 simp_all
def aft{m:au}(h:dn m x=0)(c:kT x=true):dn m (Rc m x).1=0:=by
 have⟨f,i,g⟩:=M3 (r:=(afV m x).2.1) (du h).1 (oL h c).1;exact Z5 h c f g
def aeK{m:au}{n:Node}(h:dn m n=0)(f:kT n=true):dn m (aoN n (qI n).1)=0:=by
 have c:=oL h f;have⟨g,i,j⟩:=agQ c.2.1;exact afd (OD h f g (i.trans c.c)<|j.trans c.d) f
theorem aae{m:au}{n:Node}(h:dn m n=0)(g:(rH m n).2.2.2=0):dn m (rH m n).1=0:=by
 have c:=fR.1 (du h).2;have f:=(du h).1;rw[rH,bX h,cond_true] at g ⊢;cases hi:kT n&&decide (n.c.2.1=n.1)
 .simp_all
 rw[eH] at hi;rw[cond_true,xa];cases decide ((qI n).2=2)
 .rw[cond_false];cases decide ((qI n).2=3)
  .rw[cond_false];cases decide ((qI n).2=4)
   .rw[cond_false];exact aft (aeK h hi.1) rfl
   .rw[cond_true];have i:=amd f c.1;exact uA f c.1 (.inr<|.inl rfl) c.c c.d c.e c.f rfl rfl (λ_=>i) (λk=>absurd rfl k)<|λ_=>rfl
  .rw[cond_true];exact uA f c.1 (.inr<|.inl rfl) (show(0:Int)<=2/\(2:Int)<=2 by omega) c.d c.e c.f rfl rfl (λ_=>⟨E7 f c.1,ai _⟩) (λk=>absurd rfl k)<|λ_=>rfl
 .rw[cond_true];exact uA f c.1 (.inr<|.inr rfl) (show(0:Int)<=1/\(1:Int)<=2 by omega) c.d c.e c.f rfl rfl (λk=>absurd k<|show ¬(5:Int)=1 by omega) (λ_=>rfl) (λk=>by cases k)
def XD{c:gE}{v:uO}{s:Int}{o:pW}(h:(qy (c,v,s,seen)).2=0)(E:o=(qy (c,v,s,seen)).1\/o=FI):tQ (oY (v,s,o)).1=0/\(oY (v,s,o)).1.1=v.1/\(oY (v,s,o)).1.2.1=v.2.1:=by
 have⟨a,b,c,d,e,f,g⟩:=v;rcases E with rfl|rfl
 .have⟨p,G,H,u,x,j,l,_⟩:=J0 h;rw[j];exact⟨nF.2 l,rfl,rfl⟩
 .have⟨y,A,B,C,_⟩:=Aw h;have i:=iw.1 y;have⟨p,u,x,j,l,_⟩:=BJ i A B C;have D:=i;unfold oC at D;rw[Lc rfl,PL j (show 0<=e by omega)<|show e<=1048576 by omega];exact⟨nF.2<|aqs l<|inc_le (d:=e) (show 0<=e by omega)<|show e<=1048576 by omega,rfl,rfl⟩
theorem afl{m:au}(h:dn m x=0):dn m (x9 x)=0:=by
 rw[x9];by_cases k:x.2.1=4
 .cases UI x.d
  .rw[bX k,Bool.not_false,Bool.and_self,cond_true];have f:=fR.1 (du h).2;have g:kT x=true:=bX (by omega);have c:=oL h g;have i:=Tw h (show ¬x.2.1=1 by omega);exact GY (du h).1 f.1 (show(2:Int)<=3/\(3:Int)<=4 by omega) f.c f.d f.e f.f (λk=>absurd k<|show ¬(3:Int)=2 by omega) c.1 c.2.1 c.c c.d c.D i (λj=>by have:=Tv h j;omega)
  simp_all
 simp_all
theorem XP{m:au}{f:vP}(h:dn m x=0)(g:kT x=true)(j:(sS x.2.2.2.2.2.2.2 x.2.2.1.2.1 f.2.2.2.2).2=0):dn m (J5 m x f)=0:=by
 have⟨l,u,p⟩:=M3 (r:=f.2.1) (du h).1 (oL h g).1;have i:=Z5 h g l p;rw[J5];by_cases k:f.1=3
 .simp_all
 .rw[fQ k];have⟨a,b,c⟩:=Sl j;exact Z6 i a b c
theorem TA{m:au}{n:Node}{s:List Seen}(h:dn m n=0)(j:(oD m n s).2.2=0):dn m (oD m n s).1=0:=by
 rw[oD,bX h,cond_true] at j ⊢;cases hi:kT n&&decide (¬n.2.2.1.2.1=n.1)
 .grind
 rw[eH] at hi;have f:=λ(o:pW) (g:(u9 n s).2=0)=>XD (c:=n.2.2.1) (v:=n.2.2.2.1) (s:=n.2.2.1.2.1) (seen:=s) (o:=o) g;have u:qy (n.2.2.1,n.2.2.2.1,n.2.2.1.2.1,s)=u9 n s:=rfl;rw[u] at f;generalize u9 n s=S at f j ⊢;by_cases g:S.2=0
 .rw[bX g,cond_true];have i:=oL h hi.1;have vw:∀o:pW,o=S.1\/o=FI->dn m (AS n (XC n o))=0:=λo p=>by
   obtain⟨a,b,c⟩:=f o g p;exact OD h hi.1 a (b.trans i.2.2.1) (c.trans i.2.2.2.1)
  refine afl ?_;by_cases k:S.1.1=3
  .cases hl:Ak m n.2.2.1 S.1.2.2.2.1
   .rw[Tn k hl];exact vw _ (.inr rfl)
   .rw[Ov hl,bX k];have l:=Sk h hl;exact XP (vw _ (.inl rfl)) hi.1 l
  .rw[ZG k,fQ k];simp_all
 simp_all
abbrev fq:Ty:=re
abbrev fX:Type:=uO
abbrev gb:Ty:=(.struct [yI,.slice .bool,Ce,Ce,Ce,Ce,.slice fv,.slice fq])
abbrev gK:Type:=Int×List Bool×List Int×List Int×List Int×List Int×List dP×List fX
abbrev eB:Ty:=(.struct [yI,fE])
abbrev fB:Type:=Int×Node
abbrev gv:Ty:=(.struct [yI,yI,yI,yI])
abbrev gw:Type:=Int×Int×Int×Int
abbrev bo:Ty:=(.struct [fE,yA,yI,yI,yI,.bool,.bool,.bool])
abbrev cB:Type:=Node×rh×Int×Int×Int×Bool×Bool×Bool
abbrev jJ:Ty:=(.struct [jV,yI])
abbrev A7:Type:=Span×Int
variable{P:Program}
open Go.Lib Go.RowKit Go.Shelf in
set_option maxHeartbeats 2000000 in
theorem aeu{ρ:Shelf.Ren}(L:SlLaysE0.n41 P ρ){l:TypeInfo}{z:Value}{size g:Nat}(V:P.info? (ρ.t 23)=some l)(B:l.zero=some z)(C:l.size=size)(D:l.bytes=g)(E:z.cells.size=size)(y:0<size)
  (a6:∀w,(Go.sizeOf<|ρ.t 23).run P w=.ok size w) (a:Addr) (n c:Nat) (f:List Value) (w:World) (hl:f.length=n*size) (hn:n<=maxLen) (I:n*g<=140737488355328)
  (S:∀j u,f[j]? = some u->w.cell? (a.add j)=some u) (h1:∀u∈f,u.oneCell'=true) :
  Calls P (ρ.f 41) #[.slice (some a) n c] w λe K=>∃v,e=.returned v/\K.ownsRow w.heap.size (ρ.t 23) size v n f/\v≠.slice none 0 0/\Below w.heap.size w K:=by
 have G:=L.mixed;have t4:=L.t4;have a4:=L.a4;have z4:=L.z4;have v4:=L.v4;have p:=L.t22;have Q:=L.a22;have a5:=L.z22;have a3:=L.v22;have Z:∀(w:World) (a:Option Addr) (n c H x:Nat),(binOp .eql (ρ.t 22) (.slice a n c)<|.slice none H x).run P w=.ok (.bool a.isNone) w:=λw a n c H x=>Lib.run_eql_slice_nil w _ _ a n c H x L.t22;have a0:∀w,Sem.run P (underlying<|ρ.t 22) w=.ok (TypeDesc.slice<|ρ.t 23) w:=run_underlying p;have A:Aside (∀j u,f[j]? = some u->w.cell? (a.add j)=some u):=S;have⟨_,_,O⟩:=L.f41
 go_enter O,SlBodyN.n41_ntmps ρ
 go_wp2_with (at_builtin;refine wpList_append_own _ rfl _ _ (ρ.t 22) rfl w.heap.size (ρ.t 23) l z size g p V B C D E y _ _ _ rfl (World.ownsRow_made w #[] 0 (ah _) (aQ _) (by simp)) a n c f rfl ?qc1 ?qc2 ?qc3 ?qc4 ?qc5 ?qc6 ?_)
 case qc1=>omega
 case qc2=>exact λj u W=>Lib.cell?_alloc_some _<|A.out j u W
 case qc3=>omega
 case qc4=>omega
 case qc5=>simp_all
 case qc6=>simp
 intro v w1 J h i
 go_wp2
 go_ret
 refine⟨v,rfl,by omega,i,((Below.refl _ w).alloc (ah _) _).grown h (by simp) (by intro k X;simp[Value.ownBlock] at X;omega)⟩
open Go.Lib Go.RowKit Go.Shelf in
theorem FN{P:Program}{ρ:Shelf.Ren}(L:SlLaysE0.n41 P ρ)(t:Ty){i0:TypeInfo}{z:Value}{bytes:Nat}(hi:P.info? (ρ.t 23)=some i0)(hz0:i0.zero=some z)(hz1:i0.size=t.size)(hz2:i0.bytes=bytes)(hzs:z.cells.size=t.size)(hsz:0<t.size)(hso:t.r7=true)
  (z23:∀w,(Go.sizeOf (ρ.t 23)).run P w=.ok t.size w) {F:Func} (hF:P.funcs[ρ.f 41]? = some F) (hb:F.body.isSome=true) (hn:(F.name == "runtime.NumGoroutine")=false) :
  aL.bp P (ρ.f 41) ⟨[.slice t],[.slice t],λx=>decide (((show List t.T from x).length:Int)*bytes<=140737488355328),λx=>x,false⟩:=by
 refine⟨λw I x aa hI hrep hp=>?_,nofun,⟨F,hF,hb,hn⟩⟩;obtain⟨l⟩:=aa;obtain⟨v,rfl,hv⟩:∃v,l=[v]/\mO w I (.slice t) v x:=hrep;have hbig:(show List t.T from x).length*bytes<=140737488355328:=by grind
 obtain⟨a,cap,us,rfl,h2,h3,h4,h5,h6,h7⟩:=I_.Qx hv;cases a with
 | none=>
   have hx0:x=([]:List t.T):=bg (by simp_all);subst hx0;refine(AnyE.slices_Clone_nil L 0 cap w).mono ?_
   rintro e w' ⟨rfl,rfl⟩
   exact⟨_,rfl,rfl,rfl,rfl,ah _,λ_ _=>rfl,I,λb h=>.inl h,eP.2 ⟨none,0,rfl,ah _,aQ _,(λ_=>rfl),λi y h=>by cases h⟩⟩
 | some a=>
   refine(aeu L hi hz0 hz1 hz2 hzs hsz z23 a (show List t.T from x).length cap us w h3 (aV h2 (by decide)) hbig (λj u hj=>?_) λu hu=>?_).mono ?_
   .obtain⟨hj1,_⟩:=aR.1 hj;obtain⟨b,off,e,hr⟩:=h4 (λk=>by simp_all);cases e;rw[kl];exact hr j u hj
   .obtain⟨i,hi1,hi2⟩:=yP h3 hu;exact bW.oneCell t hso (h7 i _ (Jv hi1)) u hi2
   .rintro e w' ⟨v',rfl,⟨hn,hrow⟩,hnil,hb⟩
    rcases hrow with ⟨hz,_⟩|⟨g,cap',cur,rfl,hbase,hg,hcap,hml,hsz',htk⟩
    .simp_all
    refine⟨_,rfl,hb.os,hb.tape,hb.output,hb.size,hb.block,λb=>b<w.heap.size/\I b\/w.heap.size<=b/\b<w'.heap.size,λb h=>h.elim (λh=>.inl h.2) .inr,eP.2 ⟨_,cap',rfl,hcap,h2,(λh=>by cases h),λi y hy=>?_⟩⟩;have hi:i<(show List t.T from x).length:=(aR.1 hy).1;have hI':∀b,I b->(b<w.heap.size/\I b\/w.heap.size<=b/\b<w'.heap.size)/\w'.heap[b]? = w.heap[b]? :=λb hb'=>⟨.inl ⟨hI b hb',hb'⟩,hb.block b (hI b hb')⟩;refine⟨g,0,(us.drop (i*t.size)).take t.size,rfl,.inr ⟨hbase,(dy.1 hg).1⟩,?_,?_,(h7 i y hy).mono hI' t⟩
    .have:(i+1)*t.size<=(show List t.T from x).length*t.size:=aH _ hi
     grind
    .have hrw:=jm (w:=w') hg (0+i*t.size) t.size;have h8:(cur.toList.drop (0+i*t.size)).take t.size=(us.drop (i*t.size)).take t.size:=by
      have:(i+1)*t.size<=(show List t.T from x).length*t.size:=aH _ hi;rw[<-htk,gJ,kH,kK]
      grind
     simp_all
def al5:Shelf.Ren:=⟨λx=>match x with|41=>171|n=>n,λx=>match x with|22=>27|4=>4|23=>154|n=>n,λx=>x⟩
def ae3:SlLaysE0.n41 prog al5:=
 {mixed:=by kernel_rfl,f41:=⟨f171.name,by kernel_rfl,func171.trans (congrArg some (by kernel_rfl))⟩,t4:=Tryz.underlying4,a4:=Tryz.isAgg4,z4:=Tryz.sizeOf4,v4:=Tryz.zeroValue4,t22:=Tryz.underlying27,a22:=Tryz.isAgg27,z22:=Tryz.sizeOf27,v22:=Tryz.zeroValue27}
def YN:List dP->List dP:=λx=>x
def QL:List dP->Bool:=λx=>decide<|(x.length:Int)*(64:Nat)<=140737488355328
def atZ:aL:=⟨[.slice fv],[.slice fv],QL,YN,false⟩
def arX:Sd 171 atZ:=by
 have⟨j,h,c,f,g⟩:=info_parts (show(prog.info? 154).map (λi=>(i.zero,i.size,i.bytes))=some (some<|.agg #[.int .i64 0,.int .i64 0,.int .i64 0,.int .i64 0,.int .i64 0,.slice none 0 0],6,64) by kernel_rfl);exact FN ae3 fv h c f g (by kernel_rfl) (by decide) (by kernel_rfl) Tryz.sizeOf154 func171 (by kernel_rfl) (by kernel_rfl)
def al6:Shelf.Ren:=⟨λx=>match x with|41=>229|n=>n,λx=>match x with|22=>28|4=>4|23=>186|n=>n,λx=>x⟩
def ae4:SlLaysE0.n41 prog al6:=
 {mixed:=by kernel_rfl,f41:=⟨f229.name,by kernel_rfl,func229.trans (congrArg some (by kernel_rfl))⟩,t4:=Tryz.underlying4,a4:=Tryz.isAgg4,z4:=Tryz.sizeOf4,v4:=Tryz.zeroValue4,t22:=Tryz.underlying28,a22:=Tryz.isAgg28,z22:=Tryz.sizeOf28,v22:=Tryz.zeroValue28}
def Gh:List fX->List fX:=λx=>x
def QM:List fX->Bool:=λx=>decide<|(x.length:Int)*(56:Nat)<=140737488355328
def aua:aL:=⟨[.slice fq],[.slice fq],QM,Gh,false⟩
def ahX:Sd 229 aua:=by
 have⟨j,h,c,f,g⟩:=info_parts (show(prog.info? 186).map (λi=>(i.zero,i.size,i.bytes))=some (some<|.agg #[.int .i64 0,.int .i64 0,.int .i64 0,.int .i64 0,.int .i64 0,.int .i64 0,.int .i64 0],7,56) by kernel_rfl);exact FN ae4 fq h c f g (by kernel_rfl) (by decide) (by kernel_rfl) Tryz.sizeOf186 func229 (by kernel_rfl) (by kernel_rfl)
def ave(A:aS)(c:Int):LT Bool Empty:=.br (A.bG c 1) (.ret true)<|.br (A.bG c 2) (.ret true)<|.br (A.bG c 6) (.ret true)<|.br (A.bG c 5) (.ret true)<|.br (A.bG c 9) (.ret true)<|.br (A.bG c 10) (.ret true)<|.ret false
def zA:Int->Bool:=λc=>(ave af c).val<|Ty.aO [.bool]
def aub:aL:=.all [yI] [.bool] zA
def ahY:Sd 231 aub:=fa<|aN ar dK (.kP [0,1,0,1,0,1,0,1,0,1]) 58 [] (λA c=>ave A c)<|kz (fc func231 fz) sz
variable{α:Type}
def cr{l:List α}{i:Int}(h:0<=i/\i<(l.length:Int)):af.and (af.bQ 0 i) (af.bq i<|af.l l)=true:=by
 rw[bF,ax,bl,eG,bX h.1,bX h.2];rfl
def h_{l:List α}{i:Int}{v:α}:(af.set l i v).length=l.length:=cd ..
def vn(a b:Int):Int:=bif decide (a<b) then -1 else bif decide (b<a) then 1 else 0
def orF:List Int->Int
 | []=>0
 | a::l=>bif decide (a=0) then orF l else a
def avb(A:aS)(c:Int):LT Bool Empty:=.ret<|A.cm c c
def N8:Int->Bool:=λc=>(avb af c).val<|Ty.aO [.bool]
def ah7:aL:=.all [yI] [.bool] N8
def aqV:aL.oT prog 69 ah7/\Sd 69 ah7:=fd<|r_ ar dK sl 17 [] [] (λA c=>avb A c) (λ_=>Empty.elim) Empty.elim (fc func69 fz) szD (λ_ y=>y.elim) λ(c:Int) f h=>LT.runs (d:=Ty.aO [.bool]) (LT.kG<|by kernel_rfl)<|LT.nG (by kernel_rfl)
def au_(A:aS)(f:Int)(c:Int):LT Int Empty:=.br (A.k N8 f) (.br (A.k N8 c) (.ret 0)<|.ret<|-1)<|.br (A.k N8 c) (.ret 1)<|.br (A.bq f c) (.ret<|-1)<|.br (A.jr f c) (.ret 1)<|.ret 0
theorem ZX{x:Int}:af.k N8 x=false:=by
 show af.cm x x=false;rw[dU];simp_all
theorem awm{a b:Int}:bi Empty.elim (au_ af a b)<|vn a b:=by
 refine(al ZX).2 ((al ZX).2 ?_);unfold vn;by_cases f:a<b
 .rw[bX f];exact(ap (by rw[bl];simp_all)).2 (.ret _)
 .rw[fQ f];refine(al (by rw[bl];simp_all)).2 ?_;by_cases c:b<a
  .rw[bX c];exact(ap<|show af.jr a b=true from bX c).2 (.ret _)
  .rw[fQ c];exact(al<|show af.jr a b=false from fQ c).2 (.ret _)
def rE:(Int×Int)->Int:=λ(a,b)=>vn a b
def abz:aL:=.all [yI,yI] [yI] rE
def ahD:aL.oT prog 41 abz/\Sd 41 abz:=fd<|r_ ar dK sl 58 [] [] (λA (c,f)=>au_ A c f) (λ_=>Empty.elim) Empty.elim (fc func41 fz) (scD aqV szD) (λ_ y=>y.elim) λ(c,f) g h=>awm
def abr:Sd 41 abz:=ahD.2
structure WS where(a1:List Int)(a2:Int)
inductive adN where|c0(p:WS)(a3:Int)
noncomputable def ajW:adN->iF
 | .c0 p a3=>⟨[iN 40 18 [(3,vi 0),(6,.sl yI p.a1),(7,vi p.a2),(8,vi a3)] f40 116],[.aU]⟩
def au9(A:aS)(c:List Int):LT Int adN:=.ak<|.c0 ⟨c,A.l c⟩ 0
def aaR(A:aS):adN->LT Int adN
 | .c0 p a3=>.br (A.bq a3 p.a2) (.g_ A a3 p.a1<|.br (A.cm (A.n yI p.a1 a3:Int) 0) (.ret (A.n yI p.a1 a3:Int))<|.ak<|.c0 p<|A.b .add .i64 a3 1)<|.ret 0
variable{l:List Int}
theorem aff{p:WS}(g:p.a1=l)(f:p.a2=(l.length:Int))(y:l.length<=140737488355328):
  ∀(j i:Nat),l.length-i=j->i<=l.length->bi (aaR af) (.ak<|.c0 p i) (orF<|l.drop i):=by
 intro j
 induction j with
 | zero=>
   intro i v u;have:i=l.length:=by omega
   subst this;rw[aI,aaR,f,cZ];exact(al (by rw[bl];simp)).2 (.ret _)
 | succ j ih=>
   intro i v u;have c:i<l.length:=by omega
   have x:=ih (i+1) (by omega) (by omega);rw[aI,aaR,g,f];refine(ap (by simp_all;exact bX<|by omega)).2 (aA.2 ⟨dA c,?_⟩);rw[show(af.n yI l (i:Int):Int)=l[i] from fF c _,AX c,orF,jN (i:=i)<|by omega];by_cases h:l[i]=0
   .rw[bX h];exact(al (by rw[dU];simp_all)).2 x
   .rw[fQ h];exact(ap (by rw[dU];simp_all)).2 (.ret _)
def or1(h:Ty.kS [.slice<|.int .i64] l):bi (aaR af) (au9 af l)<|orF l:=
 aff (l:=l) rfl rfl h.1 l.length 0 rfl (by omega)
def N7:(List Int)->Int:=λl=>orF l
def aby:aL:=.all [Ce] [yI] N7
def ahC:aL.oT prog 40 aby/\Sd 40 aby:=fd<|r_ ar dK sl 23 [⟨40,3,[[3,6,7,8]]⟩] [] (λA c=>au9 A c) aaR ajW (fc func40 fz) szD (λA y=>match y with |.c0 p f=>⟨34,sl,by kernel_rfl⟩) λc g h=>or1 h
def abq:Sd 40 aby:=ahC.2
def ava(A:aS)(a:fX)(b:fX):LT Int Empty:=.ret<|A.k N7 [(A.k rE (a.2.2.2.1,b.2.2.2.1)),A.k rE (a.2.2.2.2.1,b.2.2.2.2.1),A.k rE (a.1,b.1),A.k rE (a.2.1,b.2.1),A.k rE (a.2.2.1,b.2.2.1),A.k rE (a.2.2.2.2.2.1,b.2.2.2.2.2.1),A.k rE (a.2.2.2.2.2.2,b.2.2.2.2.2.2)]
def YL:(fX×fX)->Int:=λ(a,b)=>(ava af a b).val<|Ty.aO [yI]
def ah6:aL:=.all [fq,fq] [yI] YL
def aqU:aL.oT prog 126 ah6/\Sd 126 ah6:=fd<|r_ ar dK sl 53 [] [] (λA (a,b)=>ava A a b) (λ_=>Empty.elim) Empty.elim (fc func126 fz) (scD ahC (scD ahD szD)) (λ_ y=>y.elim) λ((a,b):fX×fX) c h=>LT.runs (d:=Ty.aO [yI]) (LT.kG<|by kernel_rfl)<|LT.nG (by kernel_rfl)
variable{g:Array Obj}{i off:Nat}
section
open Go.Sort
theorem DZ(w:World)(b:Nat)(f:Array Value->Array Value)(c:Nat):(mapBlock w b f).heap[c]? = if b=c then w.heap[c]?.map (onCells f) else w.heap[c]? :=by
 unfold mapBlock
 grind
variable {α:Type} [Inhabited α] {enc:α->List Value} {k:Nat}
def ye{w:World}{b n:Nat}{d:Array α}{c:Nat}(h:c<w.heap.size)(f:c≠b):(sortWorldK enc k w b off n d g).heap[c]? = w.heap[c]? :=by
 show((mapBlock (Sort.ahead w n) b<|Sort.putCells id off<|flatK enc k d).heap++g)[c]? = _;rw[lX<|by simpa [mapBlock,Sort.ahead] using h,DZ,if_neg<|ir f];rfl
def H_{w:World}{b n:Nat}{d:Array α}{i:Array Value}{T:TypeId}{f:Nat×Nat}(h:w.heap[b]? = some (.cells i T f)):
  (sortWorldK enc k w b off n d g).heap[b]? = some (.cells (Sort.putCells id off (flatK enc k d) i) T f):=by
 have c:=(dy.1 h).1;show((mapBlock (Sort.ahead w n) b<|Sort.putCells id off<|flatK enc k d).heap++g)[b]? = _;rw[lX<|by simpa [mapBlock,Sort.ahead] using c,DZ,if_pos rfl];show(w.heap[b]?).map _=_;rw[h];rfl
def C_{F c:Array Value}:(Sort.putCells id off F c).size=c.size:=by simp[Sort.putCells]
theorem afI{j:Nat}{F c:Array Value}(f:off<=j)(g:j<off+F.size)(h:j<c.size):(Sort.putCells id off F c).toList[j]? = some F[j-off]! :=by
 have i:j<(Sort.putCells id off F c).size:=by rw[C_];omega
 simp only[Sort.putCells]
 simp_all
theorem Sp{d:Array α}{r:Nat}(j:i<d.size)(c:r<k):(flatK enc k d)[i*k+r]! = (enc d[i]!)[r]! :=by
 have f:(i*k+r)/k=i:=by rw[rS,Nat.mul_add_div<|by omega,Nat.div_eq_of_lt c,kv]
 have g:(i*k+r)%k=r:=by rw[rS,Nat.mul_add_mod,lC c]
 have h:i*k+r<d.size*k:=by
  have:=aH k (show i+1<=d.size from j)
  grind
 rw[get_flatK _ _ _ _ h,f,g]
theorem VB(l:∀x,(enc x).length=k){d:Array α}{g:Array Value}(h:off+d.size*k<=g.size)(c:i<d.size):
  ((Sort.putCells id off (flatK enc k d) g).toList.drop<|off+i*k).take k=enc d[i]! :=by
 have j:i*k+k<=d.size*k:=by
  have:=aH k (show i+1<=d.size from c)
  grind
 apply dL;intro r;by_cases f:r<k
 .rw[List.getElem?_take_of_lt f,dh,afI (by omega) (by rw[size_flatK];omega)<|by omega,show off+i*k+r-off=i*k+r by omega,Sp c f]
  simp_all
 grind
theorem UQ(B:∀x,(enc x).length=k){w:World}{b:Nat}{d:Array α}{f:Array Value}{T:TypeId}(p:w.heap[b]? = some (.cells f T (0,0)))(h:off+d.size*k<=f.size)
  (A:∀i,i<d.size->(f.toList.drop<|off+i*k).take k=enc d[i]!):HoldsK enc k w b off d:=by
 intro j g;rw[size_flatK] at g;have c:0<k:=by grind
 have u:j/k<d.size:=(Nat.div_lt_iff_lt_mul c).2 g;have v:j%k<k:=Nat.mod_lt _ c;have e:j/k*k+j%k=j:=Nat.div_add_mod' j k;refine⟨?_,?_⟩
 .unfold World.cell?;simp only[p];have l:off+j<f.size:=by omega
  rw[Option.isSome_none,if_neg<|by decide,eU l];congr 1;have y:(flatK enc k d)[j]! = (enc d[j/k]!)[j%k]! :=by rw[<-Sp u v,e]
  grind
 .unfold World.frozen?
  grind
end
section
open Go.Lib Go.RowKit Go.Shelf Go.Sort
def Vz{P:Program}{ρ:Shelf.Ren}(L:SlLaysF0.n6 P ρ)(t:Ty){c:FuncId}{fn:Ty.Ts [t,t]->Ty.Ts [.int .i64]}(hc:aL.oT P c ⟨[t,t],[.int .i64],λ_=>true,fn,true⟩)(eg:∀args w,(callFunc c args).run P w=.ok (.enter c args) w)
  (aE:∀w,(isAgg<|ρ.t 24).run P w=.ok true w) (zE:∀w,(Go.sizeOf<|ρ.t 24).run P w=.ok t.size w) (hso:t.r7=true) (hag:t.isAgg=true)
  {lt:t.T->t.T->Bool} (hlt:∀x y,lt x y=decide ((show Int from fn (x,y))<0)) (hO:SWO lt) (hT:∀x y,lt x y=false->lt y x=false->x=y) {F:Func} (hF:P.funcs[ρ.f 6]? = some F) (hb:F.body.isSome=true) (hn:(F.name == "runtime.NumGoroutine")=false) :
  fH.bp P (ρ.f 6) ⟨t,[],[c],[],λ_=>true,λx=>(x.1.mergeSort λa b=>!(lt b a),()),false⟩:=by
 refine⟨λw I x y v aa B hI hv hB hy _=>?_,F,hF,hb,hn⟩;have haa:aa=[]:=hy;subst haa;rcases nT.1 hv with ⟨rfl,rfl,a,e⟩|⟨b,dl,cap,rfl,e,h1,h2,vs,T,fr,h3,h4,h5,h6⟩
 .cases e;refine(AnyF.slices_SortFunc_none L a 0 (.func (.func c) #[] #[]) w).mono ?_
  rintro e w' ⟨rfl,rfl⟩
  exact⟨_,rfl,rfl,rfl,rfl,ah _,λ_ _ _=>rfl,I,λb hb=>⟨.inl hb,hI b hb⟩,λb us T fr h=>⟨us,T,fr,h,rfl⟩,nT.2<|.inl ⟨by simp,rfl,a,rfl⟩,rfl⟩
 .cases e;by_cases hne:x=[]
  .subst hne;refine(AnyF.slices_SortFunc_none L (some ⟨b,dl,none⟩) cap (.func (.func c) #[] #[]) w).mono ?_
   rintro e w' ⟨rfl,rfl⟩
   exact⟨_,rfl,rfl,rfl,rfl,ah _,λ_ _ _=>rfl,I,λb hb=>⟨.inl hb,hI b hb⟩,λb us T fr h=>⟨us,T,fr,h,rfl⟩,nT.2<|.inr ⟨b,dl,cap,rfl,by simp,by simp,by simp,vs,T,fr,h3,h4,h5,by simp⟩,rfl⟩
  have h4:fr=(0,0):=h4;subst h4;have hbl:b<w.heap.size:=(dy.1 h3).1;have hx0:0<x.length:=List.length_pos_iff.2 hne
  let α:Type:={p:List Value×t.T // bW w I t p.1 p.2}
  let el:(i:Nat)->i<x.length->α:=λi hi=>⟨((vs.toList.drop<|dl+i*t.size).take t.size,x[i]),h6 i _<|Jv hi⟩
  haveI:Inhabited α:=⟨el 0 hx0⟩
  let enc:α->List Value:=λp=>p.1.1
  let cf:α->α->Int:=λp q=>fn (p.1.2,q.1.2)
  have hk:∀p,(enc p).length=t.size:=λp=>bW.length t p.2;have h1c:∀p,∀v∈enc p,v.oneCell'=true:=λp=>bW.oneCell t hso p.2;have hlo:∀p q,ltOf cf p q=lt p.1.2 q.1.2:=λp q=>(hlt _ _).symm;have hO':SWO<|ltOf cf:=⟨λp=>by rw[hlo];exact hO.irrefl _,λp q r a b=>by rw[hlo] at a b ⊢;exact hO.trans _ _ _ a b,λp q r a b=>by rw[hlo] at a b ⊢;exact hO.ntrans _ _ _ a b⟩
  let d:Array α:=Array.ofFn (n:=x.length) λi=>el i.1 i.2
  have hds:d.size=x.length:=Array.size_ofFn;have hdi:∀i (hi:i<x.length),d[i]! = el i hi:=λi hi=>by
   rw[getElem!_pos d i (by rw[hds];exact hi)];exact Array.getElem_ofFn _
  have hfit:dl+d.size*t.size<=vs.size:=by
   have h7:=aH t.size h1;rw[hds];exact aV (fO h7 dl) h5
  have hH:HoldsK enc t.size w b dl d:=UQ hk h3 hfit λi hi=>by rw[hds] at hi;rw[hdi i hi]
  have hIb:¬I b:=hB b<|aG.2 rfl;have keepI:∀(n:Nat) (dk:Array α) (os:Array Obj) (b':Nat),I b'->I b'/\(sortWorldK enc t.size w b dl n dk os).heap[b']? = w.heap[b']? :=λn dk os b' hb'=>⟨hb',ye (hI b' hb') λe=>hIb<|e▸hb'⟩;have hcmp:CmpLays P c #[] enc t.size cf b dl d.size w:=by
   intro m os dk hdk p q;have hag':∀p:α,mO (sortWorldK enc t.size w b dl m dk os) I t (.agg (enc p).toArray) p.1.2:=λp=>by
    unfold mO;rw[if_pos hag];exact⟨_,rfl,bW.mono (keepI m dk os) t p.2⟩
   refine(hc (sortWorldK enc t.size w b dl m dk os) I (p.1.2,q.1.2) #[.agg (enc p).toArray,.agg (enc q).toArray] (λb' hb'=>bD (hI b' hb')<|size_sortWorldK_c enc t.size w b dl m dk os) ⟨_,_,rfl,hag' p,_,rfl,hag' q⟩ rfl).mono ?_
   rintro e w' ⟨g0,v,rfl,g1,g2,g3,g4,g5,I',_,g7⟩
   have g7:mO w' I' (.int .i64) v<|cf p q:=g7;have g7:v=.int .i64 (cf p q):=by
    unfold mO at g7;rw[if_neg<|by decide] at g7;have:=g7.1;simpa using this
   refine⟨by rw[g7],w'.drawn-(sortWorldK enc t.size w b dl m dk os).drawn,w'.heap.extract (sortWorldK enc t.size w b dl m dk os).heap.size w'.heap.size,?_⟩;generalize sortWorldK enc t.size w b dl m dk os=W at *;cases w' with
   | mk hp tp dr o out=>
     cases W with
     | mk hp2 tp2 dr2 o2 out2=>
       simp only at g0 g1 g2 g3 g4 g5;subst g1;subst g2;subst g3;unfold Sort.grow World.drewN;simp only[World.mk.injEq,true_and,and_true];refine⟨?_,by omega⟩;apply Array.ext
       .simp;omega
       .intro i i1 i2;by_cases hi:i<hp2.size
        .rw[Array.getElem_append_left hi];have:=g5 i hi;rw[eU i1,eU hi] at this;exact Option.some.inj this
        .rw[Array.getElem_append_right<|by omega,Array.getElem_extract];congr 1;omega
  have hsz:d.size<4611686018427387904:=by
   rw[hds];exact Nat.lt_of_le_of_lt h2 (by decide)
  have call:=AnyQ.slices_SortFunc L t.size aE zE enc hk h1c cf hO' c #[] b dl cap d w eg hcmp hH hbl hsz;rw[hds] at call;refine call.mono ?_
  rintro e w' ⟨rfl,d',n,os,hp,hs,rfl⟩
  have⟨p1,_,p3⟩:=hp;have p1:d'.size=x.length:=p1.trans hds;have e1:d'.extract 0 x.length=d':=by rw[<-p1];exact Array.extract_size
  have e2:d.extract 0 x.length=d:=by rw[<-hds];exact Array.extract_size
  rw[e1,e2] at p3;have hdx:d.toList.map (λp=>p.1.2)=x:=by
   apply List.ext_getElem
   .rw[cy,bC,hds]
   .intro i i1 i2;rw[List.getElem_map,Array.getElem_toList];exact congrArg (λp:α=>p.1.2) (Array.getElem_ofFn (f:=λi:Fin x.length=>el i.1 i.2) (by rw[cy,bC] at i1;exact i1))
  have hsorted:d'.toList.map (λp=>p.1.2)=x.mergeSort λa b=>!(lt b a):=by
   haveI:Inhabited t.T:=⟨x[0]⟩;have perm:(d'.toList.map λp=>p.1.2).Perm x:=by
    have:=p3.map (λp:α=>p.1.2)
    rwa [hdx] at this
   have hl:=perm.length_eq;have:=sorted_unique_holds (lt:=lt) hO hT x.toArray (d'.toList.map λp=>p.1.2).toArray ⟨by simp[p1],λi hi=>by
     have:x.length<=i:=by
      rcases hi with h|h
      .omega
      .simpa using h
     simp[p1,this],by simpa [p1,dH] using perm⟩ λi j _ hij hj=>by
     have hj:j<x.length:=by simpa using hj
     have:=hs i j (aQ _) hij hj;rw[hlo] at this;rw[getElem!_pos _ j (by simp[p1];exact hj),getElem!_pos _ i (by simp[p1];omega)];rw[getElem!_pos d' j (by rw[p1];exact hj),getElem!_pos d' i (by rw[p1];omega)] at this;simpa using this
   simpa using this
  have hlen:(x.mergeSort λa b=>!(lt b a)).length=x.length:=List.length_mergeSort _;refine⟨_,rfl,rfl,rfl,rfl,size_sortWorldK_c enc t.size w b dl n d' os,λb' hb' hne'=>ye hb' λe=>hne'<|aG.2 e,I,λb' hb'=>⟨.inl hb',bD (hI b' hb')<|size_sortWorldK_c enc t.size w b dl n d' os⟩,λb' us T' iU hb'=>?_,nT.2<|.inr ⟨b,dl,cap,rfl,?_,?_,?_,_,T,(0,0),H_ h3,rfl,?_,λi z hz=>?_⟩,rfl⟩
  .by_cases e:b'=b
   .subst e;rw[h3] at hb';cases hb';exact⟨_,_,_,H_ h3,C_⟩
   .exact⟨us,T',iU,by rw[ye (dy.1 hb').1 e];exact hb',rfl⟩
  .show[_]=[Value.slice _ (x.mergeSort λa b=>!(lt b a)).length _];rw[hlen]
  .show(x.mergeSort λa b=>!(lt b a)).length<=_;rw[hlen];exact h1
  .show(x.mergeSort λa b=>!(lt b a)).length<=_;rw[hlen];exact h2
  .rw[C_];exact h5
  .have hz:(x.mergeSort λa b=>!(lt b a))[i]? = some z:=hz;rw[<-hsorted,da,Option.map_eq_some_iff] at hz;obtain⟨p,hp,rfl⟩:=hz;have⟨hi,hp⟩:=aR.1 hp;rw[bC] at hi;rw[Array.getElem_toList] at hp;rw[VB hk (by rw[p1,<-hds];exact hfit) hi,getElem!_pos d' i hi,hp];exact bW.mono (keepI n d' os) t p.2
end
def P7(f:fX):List Int:=[f.2.2.2.1,f.2.2.2.2.1,f.1,f.2.1,f.2.2.1,f.2.2.2.2.2.1,f.2.2.2.2.2.2]
def lexB:List Int->List Int->Bool
 | a::l,b::m=>decide (a<b)||(decide (a=b)&&lexB l m)
 | _,_=>false
theorem aag:∀(l m:List Int),l.length=m.length->decide (orF (List.zipWith vn l m)<0)=lexB l m
 | [],[],_=>rfl
 | a::l,b::m,h=>by
   have g:=aag l m (by simp_all);rw[List.zipWith_cons_cons,orF,lexB];unfold vn;by_cases c:a<b
   .simp_all
   .rw[fQ c,cond_false,Bool.false_or];by_cases f:b<a
    .grind
    .rw[fQ f,bX<|show a=b by omega,dC];exact g
theorem Tj:∀l:List Int,lexB l l=false
 | []=>rfl
 | a::l=>by rw[lexB,Tj l,fQ<|Int.lt_irrefl a,cq];rfl
theorem LQ:∀(l m:List Int),l.length=m.length->lexB l m=false->lexB m l=false->l=m
 | [],[],_,_,_=>rfl
 | a::l,b::m,h,h1,h2=>by
   rw[lexB,Bool.or_eq_false_iff] at h1 h2;have e:a=b:=by grind
   subst e;rw[bX rfl,dC] at h1 h2;rw[LQ l m (by simpa using h) h1.2 h2.2]
theorem lex_trans:∀(l m n:List Int),lexB l m=true->lexB m n=true->lexB l n=true
 | [],_,_,h,_=>by simp[lexB] at h
 | _::_,[],_,h,_=>by simp[lexB] at h
 | _::_,_::_,[],_,h=>by simp[lexB] at h
 | a::l,b::m,c::n,f,g=>by
   rw[lexB,o6,eH,tP,tP] at f g ⊢;rcases f with f|⟨f,i⟩<;>rcases g with g|⟨g,j⟩
   .omega
   .omega
   .omega
   .exact .inr ⟨by omega,lex_trans l m n i j⟩
theorem Qr(l m n:List Int)(g:l.length=m.length)(h:m.length=n.length)(f:lexB l m=false)(c:lexB m n=false):lexB l n=false:=by
 cases h3:lexB l n with
 | false=>rfl
 | true=>
   cases h4:lexB m l with
   | true=>rw[lex_trans m l n h4 h3] at c;grind
   | false=>rw[LQ l m g f h4,c] at h3;grind
def uz(a b:fX):Bool:=lexB (P7 a)<|P7 b
def ZH(a b:fX):uz a b=decide ((show Int from YL (a,b))<0):=(aag (P7 a) (P7 b) rfl).symm
theorem Yq{a b:fX}(h:P7 a=P7 b):a=b:=by
 have⟨a1,a2,c,f,g,i,j⟩:=a;simp only[P7] at h
 simp_all
def UU:Sort.SWO uz:=⟨λa=>Tj _,λa b c=>lex_trans _ _ _,λa b c=>Qr _ _ _ rfl rfl⟩
def UW(a b:fX)(c:uz a b=false)(f:uz b a=false):a=b:=Yq<|LQ _ _ rfl c f
def al4:Shelf.Ren:=⟨λx=>match x with|6=>125|14=>188|15=>189|20=>235|21=>236|22=>237|23=>238|24=>239|25=>240|26=>241|27=>242|28=>243|29=>244|46=>283|47=>284|48=>285|49=>286|50=>287|57=>315|n=>n,λx=>match x with|0=>0|3=>3|4=>4|5=>5|9=>9|22=>28|24=>186|25=>209|39=>194|45=>318|46=>319|50=>323|53=>261|55=>264|66=>365|70=>369|76=>397|77=>333|n=>n,λx=>x⟩
def ae2:SlLaysF0.n6 prog al4:=
 {mixed:=by kernel_rfl,f6:=⟨f125.name,by kernel_rfl,func125.trans (congrArg some (by kernel_rfl))⟩,f14:=⟨f188.name,by kernel_rfl,func188.trans (congrArg some (by kernel_rfl))⟩,f15:=func189.trans (congrArg some (by kernel_rfl)),f20:=⟨f235.name,by kernel_rfl,func235.trans (congrArg some (by kernel_rfl))⟩,f21:=⟨f236.name,by kernel_rfl,func236.trans (congrArg some (by kernel_rfl))⟩,f22:=⟨f237.name,by kernel_rfl,func237.trans (congrArg some (by kernel_rfl))⟩,f23:=⟨f238.name,by kernel_rfl,func238.trans (congrArg some (by kernel_rfl))⟩,f24:=⟨f239.name,by kernel_rfl,func239.trans (congrArg some (by kernel_rfl))⟩,f25:=⟨f240.name,by kernel_rfl,func240.trans (congrArg some (by kernel_rfl))⟩,f26:=⟨f241.name,by kernel_rfl,func241.trans (congrArg some (by kernel_rfl))⟩,f27:=⟨f242.name,by kernel_rfl,func242.trans (congrArg some (by kernel_rfl))⟩,f28:=func243.trans (congrArg some (by kernel_rfl)),f29:=func244.trans (congrArg some (by kernel_rfl)),f46:=⟨f283.name,by kernel_rfl,func283.trans (congrArg some (by kernel_rfl))⟩,f47:=func284.trans (congrArg some (by kernel_rfl)),f48:=func285.trans (congrArg some (by kernel_rfl)),f49:=⟨f286.name,by kernel_rfl,func286.trans (congrArg some (by kernel_rfl))⟩,f50:=⟨f287.name,by kernel_rfl,func287.trans (congrArg some (by kernel_rfl))⟩,f57:=⟨f315.name,by kernel_rfl,func315.trans (congrArg some (by kernel_rfl))⟩,t0:=Tryz.underlying0,a0:=Tryz.isAgg0,z0:=Tryz.sizeOf0,v0:=Tryz.zeroValue0,t3:=Tryz.underlying3,a3:=Tryz.isAgg3,z3:=Tryz.sizeOf3,v3:=Tryz.zeroValue3,t4:=Tryz.underlying4,a4:=Tryz.isAgg4,z4:=Tryz.sizeOf4,v4:=Tryz.zeroValue4,t5:=Tryz.underlying5,a5:=Tryz.isAgg5,z5:=Tryz.sizeOf5,v5:=Tryz.zeroValue5,t9:=Tryz.underlying9,a9:=Tryz.isAgg9,z9:=Tryz.sizeOf9,v9:=Tryz.zeroValue9,t22:=Tryz.underlying28,a22:=Tryz.isAgg28,z22:=Tryz.sizeOf28,v22:=Tryz.zeroValue28,t25:=Tryz.underlying209,a25:=Tryz.isAgg209,z25:=Tryz.sizeOf209,v25:=Tryz.zeroValue209,t39:=Tryz.underlying194,a39:=Tryz.isAgg194,z39:=Tryz.sizeOf194,v39:=Tryz.zeroValue194,t45:=Tryz.underlying318,a45:=Tryz.isAgg318,z45:=Tryz.sizeOf318,v45:=Tryz.zeroValue318,t46:=Tryz.underlying319,a46:=Tryz.isAgg319,z46:=Tryz.sizeOf319,v46:=Tryz.zeroValue319,t50:=Tryz.underlying323,a50:=Tryz.isAgg323,z50:=Tryz.sizeOf323,v50:=Tryz.zeroValue323,t53:=Tryz.underlying261,a53:=Tryz.isAgg261,z53:=Tryz.sizeOf261,v53:=Tryz.zeroValue261,t55:=Tryz.underlying264,a55:=Tryz.isAgg264,z55:=Tryz.sizeOf264,v55:=Tryz.zeroValue264,t66:=Tryz.underlying365,a66:=Tryz.isAgg365,z66:=Tryz.sizeOf365,v66:=Tryz.zeroValue365,t70:=Tryz.underlying369,a70:=Tryz.isAgg369,z70:=Tryz.sizeOf369,v70:=Tryz.zeroValue369,t76:=Tryz.underlying397,a76:=Tryz.isAgg397,z76:=Tryz.sizeOf397,v76:=Tryz.zeroValue397,t77:=Tryz.underlying333,a77:=Tryz.isAgg333,z77:=Tryz.sizeOf333,v77:=Tryz.zeroValue333}
def DR:List fX×Unit->List fX×Unit:=λx=>(x.1.mergeSort λa b=>!(uz b a),())
def apb:fH:=⟨fq,[],[126],[],λ_=>true,DR,false⟩
def aoZ:fH.bp prog 125 apb:=
 Vz ae2 fq (fn:=YL) aqU.1 (enters_of func126 (by kernel_rfl) rfl) Tryz.isAgg186 Tryz.sizeOf186 (by kernel_rfl) (by kernel_rfl) ZH UU UW func125 (by kernel_rfl) (by kernel_rfl)
abbrev ah9(A:aS)(c:Int)(f:Int):=(A.b .add .u64 (A.b .mul .u64 (A.b .shr .u64 c 32)<|A.b .and .u64 f 4294967295)<|A.b .shr .u64 (A.b .mul .u64 (A.b .and .u64 c 4294967295)<|A.b .and .u64 f 4294967295) 32)
def au6(A:aS)(c:Int)(f:Int):LT (Int×Int) Empty:=.ret (A.b .add .u64 (A.b .add .u64 (A.b .mul .u64 (A.b .shr .u64 c 32)<|A.b .shr .u64 f 32)<|A.b .shr .u64 (ah9 A c f) 32)<|A.b .shr .u64 (A.b .add .u64 (A.b .and .u64 (ah9 A c f) 4294967295)<|A.b .mul .u64 (A.b .and .u64 c 4294967295)<|A.b .shr .u64 f 32) 32,A.b .mul .u64 c f)
def ag7:(Int×Int)->(Int×Int):=λ(c,f)=>(au6 af c f).val<|Ty.aO [(.int .u64),.int .u64]
def atP:aL:=.all [(.int .u64),.int .u64] [(.int .u64),.int .u64] ag7
def arN:Sd 185 atP:=fa<|aN ar dK sl 92 [] (λA (c,f)=>au6 A c f)<|kz (fc func185 fz) sz
def au4(A:aS)(c:Int)(f:Int):LT (Int×Int) Empty:=.ret<|A.k ag7 (c,f)
def Bq:(Int×Int)->(Int×Int):=λ(c,f)=>(au4 af c f).val<|Ty.aO [(.int .u64),.int .u64]
def atM:aL:=.all [(.int .u64),.int .u64] [(.int .u64),.int .u64] Bq
def ahV:Sd 122 atM:=fa<|aN ar dK sl 32 [] (λA (c,f)=>au4 A c f)<|kz (fc func122 fz)<|sc arN sz
structure WK where(a1:List Int)(a2 a3 a4:Int)
structure WL where(b0:List Int)(b1 b2 b3:Int)
inductive adL where|c0(p:WK)(a0:Int)(a5:List Int)|c1(p:WL)(b4:Int)(b5:List Int)
noncomputable def ajU:adL->iF
 | .c0 p a0 a5=>⟨[iN 123 48 [(7,.own 0),(8,vi a0)] f123 1016,Jr 73 37 [(0,.sl yI p.a1),(1,vi p.a2),(2,vi p.a3),(3,vi p.a4)] f73 6 3],[aZ yI a5,.aU]⟩
 | .c1 p b4 c=>⟨[iN 73 37 [(0,.sl yI p.b0),(2,vi p.b1),(3,vi p.b2),(11,.own 0),(20,vi p.b3),(21,vi b4)] f73 116],[aZ yI c,.aU]⟩
abbrev Eg(A:aS)(n:Int):=(A.v .i64 (A.k Bq (1,A.v .u64 n)).2)
def anx(A:aS)(l:List Int)(n:Int)(f:Int)(g:Int)(c:Int):LT (List Int) adL:=.br (A.bq n 0) (.bU 117 "slices.go:516")<|.br (A.jr (A.k Bq (1,A.v .u64 n)).1 0) (.bU 117 "slices.go:522")<|.br (A.jr (A.k Bq (1,A.v .u64 n)).2 9223372036854775807) (.bU 117 "slices.go:522")<|.ao (A.and (A.bG (Eg A n)<|Eg A n)<|A.and (A.bQ 0<|Eg A n)<|A.bQ (Eg A n) 17592186044416)<|.ak<|.c0 ⟨l,n,f,g⟩ (A.mn (A.l [c])<|A.l<|A.r (Eg A n) (0:Int))<|A.spl (A.r (Eg A n) (0:Int)) 0<|A.s [c] 0<|A.mn (A.l [c])<|A.l<|A.r (Eg A n) (0:Int)
def Vp(A:aS):adL->LT (List Int) adL
 | .c0 p a0 a5=>.br (A.bq a0<|A.l a5) (.ao (A.and (A.bQ 0 a0)<|A.and (A.bQ a0<|A.l a5)<|A.bQ (A.l a5)<|A.l a5)<|.ao (A.and (A.bQ 0 0)<|A.and (A.bQ 0 a0)<|A.bQ a0<|A.l a5)<|.ak<|.c0 p (A.b .add .i64 a0<|A.mn (A.l<|A.s a5 0<|A.b .add .i64 0<|A.b .sub .i64 a0 0)<|A.b .sub .i64 (A.l a5) a0)<|A.spl a5 a0<|A.s (A.s a5 0<|A.b .add .i64 0<|A.b .sub .i64 a0 0) 0<|A.mn (A.l<|A.s a5 0<|A.b .add .i64 0<|A.b .sub .i64 a0 0)<|A.b .sub .i64 (A.l a5) a0)<|.ak<|.c1 ⟨p.a1,p.a3,p.a4,A.mn p.a2<|A.l p.a1⟩ 0 a5
 | .c1 p b4 c=>.br (A.bq b4 p.b3) (.g_ A b4 p.b0<|.g_ A b4 c<|.ak<|.c1 p (A.b .add .i64 b4 1)<|A.set c b4<|A.mn (A.mx (A.n yI p.b0 b4:Int) p.b1) p.b2)<|.ret c
def ZW:∀n:Fin 1025,af.k Bq (1,af.v .u64 (n.val:Int))=((0,(n.val:Int)):Int×Int):=by decide +kernel
def M2{j:Nat}(h:j<=i)(c:i<4611686018427387904):af.b .sub .i64 (i:Int) (j:Int)=((i-j:Nat):Int):=by
 rw[ia,my (by omega)<|by omega];omega
def wi{j:Nat}:af.mn (i:Int) (j:Int)=((min i j:Nat):Int):=by
 rw[n_];omega
variable{N:Nat}
theorem aaC{p:WK}{v:Int}{r:List Int}(B:N<=1024)(x:bi (Vp af) (.ak<|.c1 ⟨p.a1,p.a3,p.a4,af.mn p.a2<|af.l p.a1⟩ 0<|List.replicate N v) r):∀(j k:Nat),N-k<=j->(N≠0->1<=k)->k<=N->
  bi (Vp af) (.ak<|.c0 p k<|List.replicate k v++List.replicate (N-k) 0) r:=by
 have l:∀k,k=N->bi (Vp af) (.ak<|.c0 p k<|List.replicate k v++List.replicate (N-k) 0) r:=by
  rintro k rfl
  rw[mH,jE,aJ];refine aI.2<|(al ?_).2 x;rw[eG,bR];simp
 intro j
 induction j with
 | zero=>grind
 | succ j ih=>
   intro k y A u;by_cases C:k=N
   .simp_all
   have c:(List.replicate k v++List.replicate (N-k) (0:Int)).length=N:=by simp_all
   have f:af.b .add .i64 0 (af.b .sub .i64 k 0)=(k:Int):=by
    rw[show(0:Int)=((0:Nat):Int) from rfl,M2 (aQ _)<|by omega,t_<|by omega];omega
   have g:af.s (List.replicate k v++List.replicate (N-k) (0:Int)) 0 (k:Int)=List.replicate k v:=by
    rw[jU,y7,gQ<|by rw[GU]];rfl
   have h:af.b .sub .i64 (N:Int) (k:Int)=((N-k:Nat):Int):=M2 u (by omega);refine aI.2<|(ap ?_).2<|aA.2 ⟨?_,aA.2 ⟨?_,?_⟩⟩
   .rw[eG,bR,c];grind
   .rw[eG,c,bF,bF,ax,ax,ax];simp_all
   .rw[eG,c,bF,bF,ax,ax,ax];simp_all
   .rw[f,g,eG,eG,c,GU,h,wi,t_<|by omega,jU,y7];have i:af.spl (List.replicate k v++List.replicate (N-k) (0:Int)) (k:Int) (((List.replicate k v).take<|min k<|N-k).drop (0:Int).toNat)=List.replicate (k+min k (N-k)) v++List.replicate (N-(k+min k (N-k))) 0:=by
     rw[oQ,y7,gQ<|by simp_all,List.take_replicate];show List.replicate k v++List.replicate _ v++List.drop (k+(List.replicate _ v).length) _=_;rw[GU,List.drop_append,jD,jD,GU,Nat.min_assoc,gP];rw[show k-(k+min k (min (N-k) k))=0 by omega,jE,iQ];congr 2<;>omega
    rw[i];exact ih (k+min k (N-k)) (by omega) (λ_=>by omega) (by omega)
def vU(f c x:Int):Int:=af.mn (af.mx x f) c
def rowP(l:List Int)(n:Nat)(f c g:Int):List Int:=(l.take n).map (vU f c)++List.replicate (n-l.length) g
theorem aaE{p:WL}{f c ms:Int}(h:p.b0=l)(x:p.b1=f)(y:p.b2=c)(u:p.b3=((min N l.length:Nat):Int))(D:N<=1024):
  ∀(j i:Nat),min N l.length-i=j->i<=min N l.length->bi (Vp af) (.ak<|.c1 p i<|(l.take i).map (vU f c)++List.replicate (N-i) ms) (rowP l N f c ms):=by
 intro j
 induction j with
 | zero=>
   intro i B c;refine aI.2<|(al ?_).2<|aT ?_<|.ret _
   .rw[u,bR];grind
   .unfold rowP
    grind
 | succ j ih=>
   intro i B A;have g:i<l.length:=by omega
   have v:((l.take i).map (vU f c)++List.replicate (N-i) ms).length=N:=by
    rw[uy,cy,c_,GU];omega
   refine aI.2<|(ap ?_).2<|aA.2 ⟨?_,aA.2 ⟨?_,?_⟩⟩
   .rw[u,bR];grind
   .rw[h];exact dA g
   .exact dA (by omega)
   .rw[h,x,y,show(af.n yI l (i:Int):Int)=l[i] from fF g _,jN<|by omega,MY,y7];have e:((l.take i).map (vU f c)++List.replicate (N-i) ms).set i (af.mn (af.mx l[i] f) c)=(l.take<|i+1).map (vU f c)++List.replicate (N-(i+1)) ms:=by
     have C:((l.take i).map<|vU f c).length=i:=by grind
     rw[List.set_append,C,if_neg<|bJ _,mH,show N-i=N-(i+1)+1 by omega,List.replicate_succ,mV,bK g,fN,e_];rfl
    rw[e];exact ih (i+1) (by omega) (by omega)
theorem ama{n g f c:Int}(h:0<=n/\n<=1024):bi (Vp af) (anx af l n g f c)<|rowP l n.toNat g f c:=by
 obtain⟨N,rfl⟩:=a_ h.1;have i:N<=1024:=by omega
 have row:=aaE (p:=⟨l,g,f,af.mn N<|af.l l⟩) (l:=l) (ms:=c) rfl rfl rfl (by rw[eG,wi]) i (min N l.length) 0 (by omega) (by omega);have x:=aaC (p:=⟨l,(N:Int),g,f⟩) (v:=c) i row N (min 1 N) (by omega) (λh=>by omega) (by omega);have u:=ZW ⟨N,by omega⟩;have j:af.v .i64 (N:Int)=(N:Int):=my (by omega) (by omega);unfold anx Eg;rw[u,j];refine(al ?_).2 ((al rfl).2<|(al ?_).2<|aA.2 ⟨?_,?_⟩)
 .rfl
 .show decide ((N:Int) > 9223372036854775807)=false;grind
 .rw[bF,bF,bf,ax,ax];grind
 .have e:af.r (N:Int) (0:Int)=List.replicate N 0:=by rfl
  rw[e,eG,eG,GU,wi];have y:af.spl (List.replicate N (0:Int)) 0 (af.s [c] 0 ((min [c].length N:Nat):Int))=List.replicate (min 1 N) c++List.replicate (N-min 1 N) 0:=by
   rcases Nat.eq_zero_or_pos N with rfl|i
   .rfl
   .obtain⟨M,rfl⟩:∃M,N=M+1:=⟨N-1,by omega⟩;rfl
  simp_all
def N5:(List Int×Int×Int×Int×Int)->(List Int):=λ(l,n,f,c,g)=>rowP l n.toNat f c g
def tF:(List Int×Int×Int×Int×Int)->Bool:=λ(_,n,_,_,_)=>decide<|0<=n/\n<=1024
def atU:aL:=⟨[Ce,yI,yI,yI,yI],[Ce],tF,N5,false⟩
def arT:Sd 73 atU:=bE ar dK sl 71 [⟨73,3,[[0,2,3,11,20,21]]⟩,⟨123,8,[[7,8],[0,1,2,3]]⟩] [] (λA (l,n,f,g,c)=>anx A l n f g c) Vp ajU (kz (fc func73 (fc func123 fz)) (sc ahV sz)) (λA y=>match y with |.c0 p j u=>⟨35,sl,by kernel_rfl⟩|.c1 p b4 v=>⟨39,sl,by kernel_rfl⟩) λ((l,n,f,g,c):List Int×Int×Int×Int×Int) i h=>ama<|of_decide_eq_true i
inductive adK where|c0(a0:Int)(a1:List Bool)
noncomputable def ajT:adK->iF
 | .c0 a0 a1=>⟨[iN 72 48 [(7,.own 0),(8,vi a0)] f72 1016],[aZ .bool a1,.aU]⟩
abbrev Ef(A:aS)(f:List Bool)(c:Int):=(A.v .i64 (A.k Bq (A.v .u64<|A.l f,A.v .u64 c)).2)
def anw(A:aS)(f:List Bool)(c:Int):LT (Bool×(List Bool)×Unit) adK:=.br (A.bq c 0) (.bU 117 "slices.go:516")<|.br (A.jr (A.k Bq (A.v .u64<|A.l f,A.v .u64 c)).1 0) (.bU 117 "slices.go:522")<|.br (A.jr (A.k Bq (A.v .u64<|A.l f,A.v .u64 c)).2 9223372036854775807) (.bU 117 "slices.go:522")<|.ao (A.and (A.bG (Ef A f c)<|Ef A f c)<|A.and (A.bQ 0<|Ef A f c)<|A.bQ (Ef A f c) 140737488355328)<|.ak<|.c0 (A.mn (A.l f)<|A.l<|A.r (Ef A f c) false)<|A.spl (A.r (Ef A f c) false) 0<|A.s f 0<|A.mn (A.l f)<|A.l<|A.r (Ef A f c) false
def afD(A:aS):adK->LT (Bool×(List Bool)×Unit) adK
 | .c0 a0 a1=>.br (A.bq a0<|A.l a1) (.ao (A.and (A.bQ 0 a0)<|A.and (A.bQ a0<|A.l a1)<|A.bQ (A.l a1)<|A.l a1)<|.ao (A.and (A.bQ 0 0)<|A.and (A.bQ 0 a0)<|A.bQ a0<|A.l a1)<|.ak<|.c0 (A.b .add .i64 a0<|A.mn (A.l<|A.s a1 0<|A.b .add .i64 0<|A.b .sub .i64 a0 0)<|A.b .sub .i64 (A.l a1) a0)<|A.spl a1 a0<|A.s (A.s a1 0<|A.b .add .i64 0<|A.b .sub .i64 a0 0) 0<|A.mn (A.l<|A.s a1 0<|A.b .add .i64 0<|A.b .sub .i64 a0 0)<|A.b .sub .i64 (A.l a1) a0)<|.ret (true,a1,())
theorem U_{v:Bool}(y:N<=1024):∀(j k:Nat),N-k<=j->(N≠0->1<=k)->k<=N->
  bi (afD af) (.ak<|.c0 k<|List.replicate k v++List.replicate (N-k) false) (true,List.replicate N v,()):=by
 have l:∀k,k=N->bi (afD af) (.ak<|.c0 k<|List.replicate k v++List.replicate (N-k) false) (true,List.replicate N v,()):=by
  rintro k rfl
  rw[mH,jE,aJ];refine aI.2<|(al ?_).2<|.ret _;rw[eG,bR];simp
 intro j
 induction j with
 | zero=>grind
 | succ j ih=>
   intro k u x p;by_cases A:k=N
   .simp_all
   have c:(List.replicate k v++List.replicate (N-k) false).length=N:=by simp_all
   have f:af.b .add .i64 0 (af.b .sub .i64 k 0)=(k:Int):=by
    rw[show(0:Int)=((0:Nat):Int) from rfl,M2 (aQ _)<|by omega,t_<|by omega];omega
   have g:af.s (List.replicate k v++List.replicate (N-k) false) 0 (k:Int)=List.replicate k v:=by
    rw[jU,y7,gQ<|by rw[GU]];rfl
   have h:af.b .sub .i64 (N:Int) (k:Int)=((N-k:Nat):Int):=M2 p (by omega);refine aI.2<|(ap ?_).2<|aA.2 ⟨?_,aA.2 ⟨?_,?_⟩⟩
   .rw[eG,bR,c];grind
   .rw[eG,c,bF,bF,ax,ax,ax];simp_all
   .rw[eG,c,bF,bF,ax,ax,ax];simp_all
   .rw[f,g,eG,eG,c,GU,h,wi,t_<|by omega,jU,y7];have i:af.spl (List.replicate k v++List.replicate (N-k) false) k (((List.replicate k v).take<|min k<|N-k).drop (0:Int).toNat)=List.replicate (k+min k (N-k)) v++List.replicate (N-(k+min k (N-k))) false:=by
     rw[oQ,y7,gQ<|by simp_all,List.take_replicate];show List.replicate k v++List.replicate _ v++List.drop (k+(List.replicate _ v).length) _=_;rw[GU,List.drop_append,jD,jD,GU,Nat.min_assoc,gP];rw[show k-(k+min k (min (N-k) k))=0 by omega,jE,iQ];congr 2<;>omega
    rw[i];exact ih (k+min k (N-k)) (by omega) (λ_=>by omega) (by omega)
theorem al1{l:List Bool}{n:Int}(h:l.length=1/\0<=n/\n<=1024):bi (afD af) (anw af l n) (true,List.replicate n.toNat<|l.getD 0 false,()):=by
 obtain⟨N,rfl⟩:=a_ h.2.1;obtain⟨v,rfl⟩:=kh.1 h.1;have f:N<=1024:=by omega
 have i:=U_ (v:=v) f N (min 1 N) (by omega) (λh=>by omega) (by omega);have c:=ZW ⟨N,by omega⟩;have c:af.k Bq (af.v .u64<|af.l [v],af.v .u64 N)=((0,(N:Int)):Int×Int):=c;have g:af.v .i64 (N:Int)=(N:Int):=my (by omega) (by omega);unfold anw Ef;rw[c,g];refine(al ?_).2 ((al rfl).2<|(al ?_).2<|aA.2 ⟨?_,?_⟩)
 .rfl
 .show decide ((N:Int) > 9223372036854775807)=false;grind
 .rw[bF,bF,bf,ax,ax];grind
 .have e:af.r N false=List.replicate N false:=by rfl
  rw[e,eG,eG,GU,wi];have j:af.spl (List.replicate N false) 0 (af.s [v] 0 ((min [v].length N:Nat):Int))=List.replicate (min 1 N) v++List.replicate (N-min 1 N) false:=by
   rcases Nat.eq_zero_or_pos N with rfl|f
   .rfl
   .obtain⟨M,rfl⟩:∃M,N=M+1:=⟨N-1,by omega⟩;rfl
  simp_all
def YJ:(List Bool×Int)->Bool×(List Bool)×Unit:=λ(l,n)=>(true,List.replicate n.toNat<|l.getD 0 false,())
def Hd:(List Bool×Int)->Bool:=λ(l,n)=>decide<|l.length=1/\0<=n/\n<=1024
def aqw:pG:=⟨[(.slice .bool),yI],.own .bool,false,[],Hd,YJ⟩
def aqu:pG.bp prog 72 aqw:=wI ar dK sl 61 [⟨72,8,[[7,8]]⟩] [] (λA (f,c)=>anw A f c) afD ajT (kz (fc func72 fz) (sc ahV sz)) (λA y=>match y with |.c0 i a1=>⟨30,sl,by kernel_rfl⟩) λ((f,c):(List Bool×Int)) g h=>al1<|of_decide_eq_true g
def au7(A:aS)(m:au)(o:dP):LT Bool Empty:=.br (A.qE o.1 0) (.br (A.not<|A.bq o.1 m.1) (.ret false)<|.br (A.qE o.2.2.1 0) (.br (A.not<|A.bq o.2.2.1 m.1) (.ret false)<|.br (A.bq o.2.1 0) (.ret false)<|.br (A.qE o.2.1 16) (.ret false)<|.br (A.bG o.2.2.2.1 1) (.br (A.bG o.2.2.2.2.1 0) (.ret<|A.bQ (A.l o.2.2.2.2.2) 8)<|.ret false)<|.br (A.bG o.2.2.2.1 2) (.br (A.bG o.2.2.2.2.1 0) (.ret<|A.bG (A.l o.2.2.2.2.2) 0)<|.ret false)<|.br (A.bG o.2.2.2.1 3) (.br (A.qE o.2.2.2.2.1<|-1) (.br (A.bq o.2.2.2.2.1<|A.l m.2.2.2.2.2.2.2) (.ret<|A.bG (A.l o.2.2.2.2.2) 0)<|.ret false)<|.ret false)<|.ret false)<|.ret false)<|.ret false
def um:(au×dP)->Bool:=λ(m,o)=>(au7 af m o).val<|Ty.aO [.bool]
def atW:aL:=.all [aW,fv] [.bool] um
def arV:Sd 75 atW:=fa<|aN ar dK sl 125 [] (λA (m,o)=>au7 A m o)<|kz (fc func75<|fc func128 fz) sz
abbrev ab2(A:aS)(m:au):LT (List Span×Bool) Empty:=(.ret (([(0,A.b .sub .i64 m.1 1),(0,0),(0,A.b .sub .i64 m.1 1),(0,0),(0,0)]:List Span),true))
abbrev ab3(A:aS)(m:au):LT (List Span×Bool) Empty:=(.ret (([(0,A.b .sub .i64 m.1 1),(0,0),(0,0),(0,0),(0,0)]:List Span),true))
def avc(A:aS)(m:au)(c:Int):LT (List Span×Bool) Empty:=.br (A.bG c 1) (ab2 A m)<|.br (A.bG c 2) (ab2 A m)<|.br (A.bG c 6) (ab2 A m)<|.br (A.bG c 3) (ab3 A m)<|.br (A.bG c 4) (ab3 A m)<|.br (A.bG c 11) (ab3 A m)<|.br (A.bG c 5) (.ret (([(0,0),(0,1),(0,A.b .sub .i64 m.1 1),(0,0),(0,0)]:List Span),true))<|.br (A.bG c 12) (.ret (([(0,0),(0,1),(0,0),(0,0),(0,0)]:List Span),true))<|.br (A.bG c 7) (.ret (([(0,A.b .sub .i64 m.1 1),(0,0),(0,0),(0,200),(0,0)]:List Span),true))<|.br (A.bG c 8) (.ret (([(0,A.b .sub .i64 m.1 1),(0,0),(0,0),(A.u .neg .i64 m.2.2.1,m.2.2.1),(0,0)]:List Span),true))<|.br (A.bG c 9) (.ret (([(0,A.b .sub .i64 m.1 1),(0,0),(0,A.b .sub .i64 m.1 1),(0,A.b .sub .i64 m.2.1 1),(1,m.2.1)]:List Span),true))<|.br (A.bG c 10) (.ret (([(0,A.b .sub .i64 m.1 1),(0,0),(0,A.b .sub .i64 m.1 1),(0,A.b .sub .i64 m.1 1),(0,0)]:List Span),true))<|.ret (([(0,0),(0,0),(0,0),(0,0),(0,0)]:List Span),false)
def Br:(au×Int)->(List Span×Bool):=λ(m,c)=>(avc af m c).val<|Ty.aO [(.arr 5 jV),.bool]
def at5:aL:=.all [aW,yI] [(.arr 5 jV),.bool] Br
def arY:Sd 186 at5:=fa<|aN ar dK (.kP [0,1,0,1,0,0,1,0,1]) 159 [] (λA (m,c)=>avc A m c)<|kz (fc func186 fz) sz
def avd(A:aS)(l:Span)(n:Int):LT Bool Empty:=.br (A.qE n l.1) (.ret<|A.bQ n l.2)<|.ret false
def DT:(Span×Int)->Bool:=λ(l,n)=>(avd af l n).val (Ty.aO [.bool])
def at6:aL:=.all [jV,yI] [.bool] DT
def arZ:Sd 187 at6:=fa<|aN ar dK sl 25 [] (λA (l,n)=>avd A l n)<|kz (fc func187 fz) sz
abbrev ah_(A:aS)(m:au)(f:fX):LT Bool Empty:=(.br (A.not<|A.k DT ((A.n jV (A.k Br (m,f.1)).1 0:Span),f.2.1)) (.ret false)<|.br (A.not<|A.k DT ((A.n jV (A.k Br (m,f.1)).1 1:Span),f.2.2.1)) (.ret false)<|.br (A.not<|A.k DT ((A.n jV (A.k Br (m,f.1)).1 2:Span),f.2.2.2.2.1)) (.ret false)<|.br (A.not<|A.k DT ((A.n jV (A.k Br (m,f.1)).1 3:Span),f.2.2.2.2.2.1)) (.ret false)<|.br (A.not<|A.k DT ((A.n jV (A.k Br (m,f.1)).1 4:Span),f.2.2.2.2.2.2)) (.ret false)<|.ret true)
def anB(A:aS)(m:au)(f:fX):LT Bool Empty:=.br (A.not (A.k Br (m,f.1)).2) (.ret false)<|.br (A.bq f.2.2.2.1 0) (.ret false)<|.br (A.qE f.2.2.2.1 16) (.ret false)<|.br (A.bG f.1 10) (.br (A.bG f.2.2.2.2.1 f.2.1) (.ret false)<|ah_ A m f)<|ah_ A m f
def ng:(au×fX)->Bool:=λ(m,f)=>(anB af m f).val<|Ty.aO [.bool]
def atY:aL:=.all [aW,fq] [.bool] ng
def arW:Sd 124 atY:=fa<|aN ar dK sl 250 [] (λA (m,f)=>anB A m f)<|kz (fc func124 fz)<|sc arY<|sc arZ sz
structure WM where(a0:List fX)(a1:Int)(a3:au)
structure WN where(b0:List fX)(b1:Int)(b3:au)
structure WO where(c1:List fX)
structure WQ where(d1 d2:Int)
inductive adM where|c0(p:WM)(a2:Int)|c1(p:WN)(b2:Int)(b4:List fX)|c2(p:WO)(c0:Int)|c3(p:WQ)(d0 d3:Int)(d4:List fX)
noncomputable def ajV:adM->iF
 | .c0 p a2=>⟨[iN 74 29 [(2,pZ 0),(5,.eT true),(11,.sl fq p.a0),(12,vi p.a1),(13,vi a2)] f74 244],[dZ aW p.a3,.aU]⟩
 | .c1 p b2 b4=>⟨[iN 74 29 [(2,pZ 0),(5,.own 1),(11,.sl fq p.b0),(12,vi p.b1),(13,vi b2)] f74 244],[dZ aW p.b3,aZ fq b4,.aU]⟩
 | .c2 p c0=>⟨[iN 127 61 [(0,.own 0),(3,vi c0)] f127 116,⟨74,29,.leaf,[.ops (ow f74 126)<|(ow f74 126).toList.drop 1,.code .ret],[],none⟩],[aZ fq p.c1,.aU]⟩
 | .c3 p d0 d3 d4=>⟨[iN 127 61 [(0,.own 0),(3,vi d0),(4,.wq 0 7 false p.d1 p.d2),(5,vi d3)] f127 119380,⟨74,29,.leaf,[.ops (ow f74 126)<|(ow f74 126).toList.drop 1,.code .ret],[],none⟩],[aZ fq d4,.aU]⟩
def anz(A:aS)(m:au)(l:List fX):LT (List fX) adM:=.br (A.cm (A.k iR m) 0) (.ret ([]:List fX))<|.ak<|.c0 ⟨l,A.l l,m⟩ 0
def Rj(A:aS):adM->LT (List fX) adM
 | .c0 p a2=>.br (A.bq a2 p.a1) (.g_ A a2 p.a0<|.br (A.k ng (p.a3,(A.n fq p.a0 a2:fX))) (.ao (A.bQ (A.l (([(A.n fq p.a0 a2:fX)]:List fX):List fX)) 2513169434916)<|.ak<|.c1 ⟨p.a0,p.a1,p.a3⟩ (A.b .add .i64 a2 1) ([(A.n fq p.a0 a2:fX)]:List fX))<|.ak<|.c0 p<|A.b .add .i64 a2 1)<|.ao (A.k (λ_=>true) (([]:List fX),()))<|.ret ([]:List fX)
 | .c1 p b2 b4=>.br (A.bq b2 p.b1) (.g_ A b2 p.b0<|.br (A.k ng (p.b3,(A.n fq p.b0 b2:fX))) (.ao (A.bQ (A.l<|A.p b4 ([(A.n fq p.b0 b2:fX)]:List fX)) 2513169434916)<|.ak<|.c1 p (A.b .add .i64 b2 1)<|A.p b4 ([(A.n fq p.b0 b2:fX)]:List fX))<|.ak<|.c1 p (A.b .add .i64 b2 1) b4)<|.ao (A.k (λ_=>true) (b4,()))<|.br (A.bq (A.l (A.k DR (b4,())).1) 2) (.ret (A.k DR (b4,())).1)<|.ak<|.c2 ⟨(A.k DR (b4,())).1⟩ 1
 | .c2 p c0=>.br (A.bq c0<|A.l p.c1) (.g_ A c0 p.c1<|.g_ A (A.b .sub .i64 c0 1) p.c1<|.br (A.and (A.bG (A.n fq p.c1 c0:fX).1 (A.n fq p.c1 (A.b .sub .i64 c0 1):fX).1)<|A.and (A.bG (A.n fq p.c1 c0:fX).2.1 (A.n fq p.c1 (A.b .sub .i64 c0 1):fX).2.1)<|A.and (A.bG (A.n fq p.c1 c0:fX).2.2.1 (A.n fq p.c1 (A.b .sub .i64 c0 1):fX).2.2.1)<|A.and (A.bG (A.n fq p.c1 c0:fX).2.2.2.1 (A.n fq p.c1 (A.b .sub .i64 c0 1):fX).2.2.2.1)<|A.and (A.bG (A.n fq p.c1 c0:fX).2.2.2.2.1 (A.n fq p.c1 (A.b .sub .i64 c0 1):fX).2.2.2.2.1)<|A.and (A.bG (A.n fq p.c1 c0:fX).2.2.2.2.2.1 (A.n fq p.c1 (A.b .sub .i64 c0 1):fX).2.2.2.2.2.1)<|A.and (A.bG (A.n fq p.c1 c0:fX).2.2.2.2.2.2 (A.n fq p.c1 (A.b .sub .i64 c0 1):fX).2.2.2.2.2.2) true) (.ao (A.and (A.bQ 0 c0)<|A.and (A.bQ c0<|A.l p.c1)<|A.bQ (A.l p.c1)<|A.l p.c1)<|.ak<|.c3 ⟨c0,A.b .sub .i64 (A.l p.c1) c0⟩ c0 1 p.c1)<|.ak<|.c2 p<|A.b .add .i64 c0 1)<|.ret p.c1
 | .c3 p d0 d3 d4=>.br (A.bq d3 p.d2) (.ao (A.and (A.bQ 0 d3)<|A.bq d3 p.d2)<|.ao (A.and (A.bQ 0<|A.b .sub .i64 d3 1)<|A.bq (A.b .sub .i64 d3 1) p.d2)<|.br (A.not<|A.and (A.bG (A.n fq d4 (A.b .add .i64 p.d1 d3):fX).1 (A.n fq d4 (A.b .add .i64 p.d1<|A.b .sub .i64 d3 1):fX).1)<|A.and (A.bG (A.n fq d4 (A.b .add .i64 p.d1 d3):fX).2.1 (A.n fq d4 (A.b .add .i64 p.d1<|A.b .sub .i64 d3 1):fX).2.1)<|A.and (A.bG (A.n fq d4 (A.b .add .i64 p.d1 d3):fX).2.2.1 (A.n fq d4 (A.b .add .i64 p.d1<|A.b .sub .i64 d3 1):fX).2.2.1)<|A.and (A.bG (A.n fq d4 (A.b .add .i64 p.d1 d3):fX).2.2.2.1 (A.n fq d4 (A.b .add .i64 p.d1<|A.b .sub .i64 d3 1):fX).2.2.2.1)<|A.and (A.bG (A.n fq d4 (A.b .add .i64 p.d1 d3):fX).2.2.2.2.1 (A.n fq d4 (A.b .add .i64 p.d1<|A.b .sub .i64 d3 1):fX).2.2.2.2.1)<|A.and (A.bG (A.n fq d4 (A.b .add .i64 p.d1 d3):fX).2.2.2.2.2.1 (A.n fq d4 (A.b .add .i64 p.d1<|A.b .sub .i64 d3 1):fX).2.2.2.2.2.1)<|A.and (A.bG (A.n fq d4 (A.b .add .i64 p.d1 d3):fX).2.2.2.2.2.2 (A.n fq d4 (A.b .add .i64 p.d1<|A.b .sub .i64 d3 1):fX).2.2.2.2.2.2) true) (.ao (A.and (A.bQ 0 d3)<|A.bq d3 p.d2)<|.g_ A d0 d4<|.ak<|.c3 p (A.b .add .i64 d0 1) (A.b .add .i64 d3 1)<|A.set d4 d0 (A.n fq d4 (A.b .add .i64 p.d1 d3):fX))<|.ak<|.c3 p d0 (A.b .add .i64 d3 1) d4)<|.ao (A.and (A.bQ 0 d0)<|A.and (A.bQ d0<|A.l d4)<|A.bQ (A.l d4)<|A.l d4)<|.ao (A.and (A.bQ 0 0)<|A.and (A.bQ 0 d0)<|A.bQ d0<|A.l<|A.spl d4 d0<|A.r (A.b .sub .i64 (A.l d4) d0) (Ty.gH fq:fX))<|.ret<|A.s (A.spl d4 d0<|A.r (A.b .sub .i64 (A.l d4) d0) (Ty.gH fq:fX)) 0<|A.b .add .i64 0<|A.b .sub .i64 d0 0
def vV(a:fX):List fX->List fX
 | []=>[]
 | b::l=>if b=a then vV a l else b::vV b l
def sQ:List fX->List fX
 | []=>[]
 | a::l=>a::vV a l
theorem J8:∀(l:List fX) (a x:fX),vV a (l ++ [x])=if x=(a::l).getLast (List.cons_ne_nil _ _) then vV a l else vV a l ++ [x]
 | [],a,x=>by rfl
 | b::l,a,x=>by
   have c:=J8 l b x;show(if b=a then vV a (l ++ [x]) else b::vV b (l ++ [x]))=_;by_cases h:b=a
   .subst h;show _=if _ then(if b=b then vV b l else _) else(if b=b then vV b l else _) ++ [x]
    simp_all
   .rw[if_neg h,c];show _=if _ then(if b=a then vV a l else b::vV b l) else(if b=a then vV a l else b::vV b l) ++ [x]
    grind
theorem FP{L:List fX}{n:Nat}(f:1<=n)(h:n<L.length):sQ (L.take<|n+1)=if L[n]=L[n-1]'(by omega) then sQ (L.take n) else sQ (L.take n) ++ [L[n]]:=by
 cases L with
 | nil=>grind
 | cons a l=>
   obtain⟨k,rfl⟩:∃k,n=k+1:=⟨n-1,by omega⟩;have c:k<l.length:=by simp_all
   rw[im,im,bK c];show a::vV a (l.take k ++ [l[k]])=if _ then a::vV a (l.take k) else a::vV a (l.take k) ++ [_]
   rw[J8]
   grind
def uh(m:au)(l:List fX):List fX:=bif decide (iR m=0) then sQ ((l.filter λf=>ng (m,f)).mergeSort λa b=>!(uz b a)) else[]
def Yr{a b:fX}:af.and (af.bG a.1 b.1) (af.and (af.bG a.2.1 b.2.1)<|af.and (af.bG a.2.2.1 b.2.2.1)<|af.and (af.bG a.2.2.2.1 b.2.2.2.1)<|af.and (af.bG a.2.2.2.2.1 b.2.2.2.2.1)<|af.and (af.bG a.2.2.2.2.2.1 b.2.2.2.2.2.1)<|af.and (af.bG a.2.2.2.2.2.2 b.2.2.2.2.2.2) true)=decide (a=b):=by
 have⟨a1,a2,c,f,g,h,i⟩:=a;have⟨j,l,p,u,v,x,y⟩:=b;simp[dq,bF,nK,Prod.mk.injEq,Bool.decide_and]
def afZ{d:List fX}{z:fX}{k n:Nat}(h:k+n=d.length):(af.spl d k<|af.r n z).length=d.length:=by
 rw[uL,oQ,y7,y7,uy,uy,c_,dR,GU];omega
def Z8{L:List fX}(h:i<L.length):(af.n fq L (i:Int):fX)=L[i]:=fF h _
theorem X2{p:WQ}{L:List fX}{k0:Nat}(I:p.d1=(k0:Int))(A:p.d2=((L.length-k0:Nat):Int))(X:k0<=L.length)(Z:L.length<=1000000):
  ∀(j k c:Nat) (d:List fX),L.length-k0-c=j->c<=L.length-k0->1<=c->1<=k->k+1<=k0+c->d.length=L.length->d.take k=sQ (L.take<|k0+c)->d.drop k=L.drop k->
   bi (Rj af) (.ak<|.c3 p (k:Int) (c:Int) d) (sQ L):=by
 intro j
 induction j with
 | zero=>
   intro k c d W D x J G h C _;have e:k0+c=L.length:=by omega
   have S:af.b .add .i64 0 (af.b .sub .i64 k 0)=(k:Int):=by
    rw[show(0:Int)=((0:Nat):Int) from rfl,M2 (aQ _)<|by omega,t_<|by omega];omega
   refine aI.2<|(al ?_).2<|aA.2 ⟨?_,aA.2 ⟨?_,aT ?_<|.ret _⟩⟩
   .rw[A,bR];grind
   .rw[eG,h,bF,bF,ax,ax,ax];grind
   .have K:(af.spl d k<|af.r (af.b .sub .i64 (af.l d) k) (Ty.gH fq:fX)).length=L.length:=by
     rw[eG,h,M2 (by omega)<|by omega];exact(afZ<|by omega).trans h
    rw[eG (l:=af.spl _ _ _),K,bF,bF,ax,ax,ax];grind
   .rw[S,jU,oQ,y7,e_,gQ (by rw[c_];omega),C,e,dH<|ah _];rfl
 | succ j ih=>
   intro k c d W D x J G h C f;have y:k0+c<L.length:=by omega
   have g:∀i,k<=i->(V:i<L.length)->(af.n fq d (i:Int):fX)=L[i]:=λi V K=>by
    rw[Z8<|by omega];have:=congrArg (λl=>l[i-k]?) f
    grind
   have P:af.b .add .i64 p.d1 (c:Int)=((k0+c:Nat):Int):=by rw[I,t_ (i:=k0) (j:=c)<|by omega]
   have H:af.b .sub .i64 c 1=((c-1:Nat):Int):=M2 (i:=c) (j:=1) (by omega) (by omega);have Q:af.b .add .i64 p.d1 ((c-1:Nat):Int)=((k0+c-1:Nat):Int):=by rw[I,t_ (i:=k0) (j:=c-1)<|by omega];congr 1;omega
   have a1:=g (k0+c) (by omega) y;have a2:=g (k0+c-1) (by omega) (by omega);have O:=FP (L:=L) (n:=k0+c) (by omega) y;have u:af.and (af.bQ 0 c) (af.bq c p.d2)=true:=by rw[A,bR,bF,ax];simp;omega
   have v:af.and (af.bQ 0 ((c-1:Nat):Int)) (af.bq ((c-1:Nat):Int) p.d2)=true:=by rw[A,bR,bF,ax];simp;omega
   refine aI.2<|(ap ?_).2<|aA.2 ⟨u,aA.2 ⟨by rw[H];exact v,?_⟩⟩
   .rw[A,bR];exact bX (by omega)
   rw[H,P,Q,a1,a2,Yr,jN (i:=c)<|by omega,jN (i:=k)<|by omega];by_cases B:L[k0+c]=L[k0+c-1]
   .rw[bX B];refine(al rfl).2 (ih k (c+1) d (by omega) (by omega) (by omega) J (by omega) h ?_ f);rw[show k0+(c+1)=k0+c+1 by omega,O,if_pos B];exact C
   .rw[fQ B];refine(ap rfl).2 (aA.2 ⟨u,aA.2 ⟨dA<|by omega,?_⟩⟩);rw[MY,y7];have E:k<d.length:=by omega
    refine ih (k+1) (c+1) _ (by omega) (by omega) (by omega) (by omega) (by omega) (by simp_all) ?_ ?_
    .rw[show k0+(c+1)=k0+c+1 by omega,O,if_neg B,<-C,bK (by rw[cd];exact E),List.getElem_set_self,List.take_set_of_le<|ah _]
    .rw[List.drop_set_of_lt<|Nat.lt_succ_self _];have:=congrArg (List.drop 1) f;rw[fe,fe] at this;exact this
theorem Ya{p:WO}{L:List fX}(f:p.c1=L)(v:L.length<=1000000):∀(j i:Nat),L.length-i=j->i<=L.length->1<=i->sQ (L.take i)=L.take i->
  bi (Rj af) (.ak<|.c2 p i) (sQ L):=by
 intro j
 induction j with
 | zero=>
   intro i y u g x;have:i=L.length:=by omega
   subst this;refine aI.2<|(al ?_).2<|aT ?_<|.ret _
   .rw[f,eG,bR];simp
   simp_all
 | succ j ih=>
   intro i y u g x;have c:i<L.length:=by omega
   have h:af.b .sub .i64 i 1=((i-1:Nat):Int):=M2 (i:=i) (j:=1) (by omega) (by omega);have A:=FP (L:=L) (n:=i) g c;refine aI.2<|(ap ?_).2<|aA.2 ⟨by rw[f];exact dA c,aA.2 ⟨by rw[f,h];exact dA<|by omega,?_⟩⟩
   .rw[f,eG,bR];simp_all
   rw[f,h,Z8 c,Z8<|show i-1<L.length by omega,Yr,jN<|by omega];by_cases l:L[i]=L[i-1]
   .rw[bX l];refine(ap rfl).2 (aA.2 ⟨?_,?_⟩)
    .rw[eG,bF,bF,ax,ax,ax];simp_all
    .rw[eG,M2 (by omega)<|by omega];have:=X2 (p:=⟨(i:Int),((L.length-i:Nat):Int)⟩) (L:=L) (k0:=i) rfl rfl u v _ i 1 L rfl (by omega) (ah _) g (ah _) rfl (by simp_all) rfl;omega
   .rw[fQ l];refine(al rfl).2 (ih (i+1) (by omega) (by omega) (by omega) ?_)
    simp_all
def Rt{L:List fX}:(L.mergeSort λa b=>!(uz b a)).length=L.length:=List.length_mergeSort _
theorem Ys{L:List fX}(f:L.length<=1000000):bi (Rj af) (.ao (af.k (λ_=>true) ((L,()):List fX×Unit))<|.br (af.bq (af.l (af.k DR (L,())).1) 2) (.ret (af.k DR (L,())).1)<|.ak<|.c2 ⟨(af.k DR (L,())).1⟩ 1)<|sQ (L.mergeSort λa b=>!(uz b a)):=by
 have e:(af.k DR (L,())).1=L.mergeSort λa b=>!(uz b a):=rfl;rw[e];have c:=Rt (L:=L);generalize L.mergeSort (λa b=>!(uz b a))=M at c ⊢;refine aA.2 ⟨rfl,?_⟩;by_cases h:M.length<2
 .refine(ap ?_).2 (aT ?_<|.ret _)
  .rw[eG,bl];grind
  .match M,h with
   | [],_=>rfl
   | [a],_=>rfl
   | _::_::_,h=>grind
 .refine(al ?_).2 ?_
  .rw[eG,bl];grind
  .refine Ya (L:=M) rfl (by omega) _ 1 rfl (by omega) (ah _) ?_
   match M,h with
   | [],h=>simp at h
   | a::l,_=>rfl
theorem UH{p:WN}{L:List fX}{m:au}(h:p.b0=L)(l:p.b1=(L.length:Int))(u:p.b3=m)(v:L.length<=1000000):
  ∀(j i:Nat),L.length-i=j->i<=L.length->bi (Rj af) (.ak<|.c1 p i<|(L.take i).filter λf=>ng (m,f)) (sQ<|(L.filter λf=>ng (m,f)).mergeSort λa b=>!(uz b a)):=by
 intro j
 induction j with
 | zero=>
   intro i y x;have:i=L.length:=by omega
   subst this;rw[dH<|ah _];refine aI.2<|(al ?_).2<|Ys<|aV (List.length_filter_le _ _) v;rw[l,bR];simp
 | succ j ih=>
   intro i y x;have c:i<L.length:=by omega
   refine aI.2<|(ap ?_).2<|aA.2 ⟨by rw[h];exact dA c,?_⟩
   .rw[l,bR];simp_all
   have g:=ih (i+1) (by omega) (by omega);rw[bK c,jX] at g;rw[h,u,Z8 c,jN<|by omega];cases hf:ng (m,L[i])
   .refine(al<|show af.k ng (m,L[i])=false from hf).2 ?_
    simp_all
   .refine(ap<|show af.k ng (m,L[i])=true from hf).2 (aA.2 ⟨?_,?_⟩)
    .have:=List.length_filter_le (λf=>ng (m,f))<|L.take i;rw[eG,wL,uy,bP,ax]
     grind
    .rw[dY (p:=λf=>ng (m,f)) hf,o8] at g;exact g
theorem P0{p:WM}{L:List fX}{m:au}(l:p.a0=L)(h:p.a1=(L.length:Int))(u:p.a3=m)(v:L.length<=1000000):
  ∀(j i:Nat),L.length-i=j->i<=L.length->(L.take i).filter (λf=>ng (m,f))=[]->bi (Rj af) (.ak<|.c0 p i) (sQ<|(L.filter λf=>ng (m,f)).mergeSort λa b=>!(uz b a)):=by
 intro j
 induction j with
 | zero=>
   intro i y x g;have:i=L.length:=by omega
   subst this;rw[dH<|ah _] at g;rw[g];refine aI.2<|(al ?_).2<|aA.2 ⟨rfl,aT ?_<|.ret _⟩
   .rw[h,bR];simp
   .rw[List.mergeSort_nil];rfl
 | succ j ih=>
   intro i y x A;have c:i<L.length:=by omega
   refine aI.2<|(ap ?_).2<|aA.2 ⟨by rw[l];exact dA c,?_⟩
   .rw[h,bR];simp_all
   rw[l,u,Z8 c,jN<|by omega];have B:(L.take<|i+1).filter (λf=>ng (m,f))=[L[i]].filter λf=>ng (m,f):=by
    rw[bK c,jX,A,iQ]
   cases g:ng (m,L[i])
   .refine(al<|show af.k ng (m,L[i])=false from g).2 (ih (i+1) (by omega) (by omega) ?_)
    simp_all
   .refine(ap<|show af.k ng (m,L[i])=true from g).2 (aA.2 ⟨by kernel_rfl,?_⟩);have C:=UH (p:=⟨L,p.a1,m⟩) (L:=L) (m:=m) rfl h rfl v _ (i+1) rfl (by omega)
    simp_all
def aoG{m:au}{l:List fX}(h:l.length<=1000000):bi (Rj af) (anz af m l)<|uh m l:=by
 unfold anz uh;by_cases c:iR m=0
 .rw[bX c];refine(al (by rw[dU];exact fQ λk=>k c)).2 ?_;exact P0 (p:=⟨l,(l.length:Int),m⟩) (L:=l) rfl rfl rfl h _ 0 rfl (aQ _) rfl
 .rw[fQ c];exact(ap (by rw[dU];exact bX c)).2 (.ret _)
def wX:(au×List fX)->(List fX):=λ(m,l)=>uh m l
def He:(au×List fX)->Bool:=λ(_,l)=>decide<|l.length<=1000000
def atV:aL:=⟨[aW,.slice fq],[(.slice fq)],He,wX,false⟩
def arU:Sd 74 atV:=bE ar dK sl 33 [⟨74,5,[[2,5,11,12,13]]⟩,⟨127,4,[[0,3],[]]⟩,⟨127,9,[[0,3,4,5],[]]⟩] [] (λA (m,l)=>anz A m l) Rj ajV ⟨fc func74 (fc func127 fz),(sc yd (sc arW sz)),oz,(ic aoZ iz),mz,pz⟩ (λA y=>match y with |.c0 p a2=>⟨42,sl,by kernel_rfl⟩|.c1 p b2 b4=>⟨42,sl,by kernel_rfl⟩|.c2 p c0=>⟨46,sl,by kernel_rfl⟩|.c3 p d0 d3 d4=>⟨54,sl,by kernel_rfl⟩) λ((m,l):au×List fX) c h=>aoG<|of_decide_eq_true c
def au8(A:aS)(a:dP)(b:dP):LT Int Empty:=.ret<|A.k N7 [(A.k rE (a.2.1,b.2.1)),A.k rE (a.2.2.1,b.2.2.1),A.k rE (a.1,b.1)]
def N6:(dP×dP)->Int:=λ(a,b)=>(au8 af a b).val<|Ty.aO [yI]
def atX:aL:=.all [fv,fv] [yI] N6
def ahW:Sd 77 atX:=fa<|aN ar dK sl 33 [] (λA (a,b)=>au8 A a b)<|kz (fc func77 fz)<|sc abq<|sc abr sz
def Ex{Y:Type}(s:Y->LT (List dP×Unit) Y)(N:Nat)(t:LT (List dP×Unit) Y):Prop:=∃r:List dP,r.length=N/\bi s t (r,())
section
variable {Y:Type} {s:Y->LT (List dP×Unit) Y} {N:Nat} {t e:LT (List dP×Unit) Y} {a b:Int}
def Ex.ret{r:List dP}(h:r.length=N):Ex s N<|.ret (r,()):=⟨r,h,.ret _⟩
def Ex.ak{y:Y}(h:Ex s N<|s y):Ex s N<|.ak y:=h.elim λr k=>⟨r,k.1,.ak k.2⟩
def Ex.ao{b:Bool}(c:b=true)(h:Ex s N t):Ex s N<|.ao b t:=h.elim λr k=>⟨r,k.1,.ao c k.2⟩
def Ex.br{b:Bool}(c:b=true->Ex s N t)(f:b=false->Ex s N e):Ex s N<|.br b t e:=by
 cases b
 .exact(f rfl).elim λr k=>⟨r,k.1,.br k.2⟩
 .exact(c rfl).elim λr k=>⟨r,k.1,.br k.2⟩
def Ex.lss(c:a<b->Ex s N t)(f:b<=a->Ex s N e):Ex s N<|.br (af.bq a b) t e:=
 Ex.br (λh=>c<|of_decide_eq_true (p:=a<b) h) λh=>f<|jG.1<|of_decide_eq_false (p:=a<b) h
def Ex.gtr(c:b<a->Ex s N t)(f:a<=b->Ex s N e):Ex s N<|.br (af.jr a b) t e:=
 Ex.br (λh=>c<|of_decide_eq_true (p:=b<a) h) λh=>f<|jG.1<|of_decide_eq_false (p:=b<a) h
def Ex.leq(c:a<=b->Ex s N t)(f:b<a->Ex s N e):Ex s N<|.br (af.bQ a b) t e:=
 Ex.br (λh=>c<|of_decide_eq_true (p:=a<=b) h) λh=>f<|Int.not_le.1<|of_decide_eq_false (p:=a<=b) h
def Ex.eql(c:a=b->Ex s N t)(f:¬a=b->Ex s N e):Ex s N<|.br (af.bG a b) t e:=by
 rw[dq];exact Ex.br (λh=>c<|of_decide_eq_true h) λh=>f<|of_decide_eq_false h
def Ex.neq(c:¬a=b->Ex s N t)(f:a=b->Ex s N e):Ex s N<|.br (af.cm a b) t e:=by
 rw[dU];exact Ex.br (λh=>c<|of_decide_eq_true h) λh=>f<|bY.1<|of_decide_eq_false h
end
def w8{Y:Type}(s:Y->LT (List dP×Unit) Y)(t:LT (List dP×Unit) Y)(d:List dP):List dP:=bif Nat.beq (gi s t (d,())).1.length d.length then(gi s t (d,())).1 else d
variable{d:List dP}
def qW{s:Y->LT (List dP×Unit) Y}{t:LT (List dP×Unit) Y}:(w8 s t d).length=d.length:=by
 unfold w8;cases h:Nat.beq (gi s t (d,())).1.length d.length
 .rfl
 .exact vL h
def vG{s:Y->LT (List dP×Unit) Y}{t:LT (List dP×Unit) Y}(h:Ex s d.length t):(w8 s t d).length=d.length/\bi s t (w8 s t d,()):=by
 refine⟨qW,?_⟩;have⟨r,f,c⟩:=h;rw[w8,Mw c,tA.2 f];exact c
def LO{l:List dP}{i j:Int}{v:dP}(h:0<=i/\i<(l.length:Int)):af.and (af.bQ 0 i) (af.bq i<|af.l<|af.set l j v)=true:=cr (by rw[h_];exact h)
def xu{x y:Int}(h:-4611686018427387904<=x+y/\x+y<4611686018427387904):af.b .add .i64 x y=x+y:=by rw[gB,my (by omega)<|by omega]
def wO{x y:Int}(h:-4611686018427387904<=x-y/\x-y<4611686018427387904):af.b .sub .i64 x y=x-y:=by rw[Go.Ev.ia,my (by omega)<|by omega]
structure WX where(a0 a1 a2:Int)
inductive adU where|c0(p:WX)(a3:Int)(a4:List dP)
noncomputable def aj2:adU->iF
 | .c0 p a3 a4=>⟨[iN 288 38 [(0,.own 0),(1,vi p.a0),(2,vi p.a1),(3,vi p.a2),(10,vi a3)] f288 12],[aZ fv a4,.aU]⟩
def anE(A:aS)(c:List dP)(a:Int)(b:Int)(n:Int):LT (List dP×Unit) adU:=.ak<|.c0 ⟨a,b,n⟩ 0 c
def afF(A:aS):adU->LT (List dP×Unit) adU
 | .c0 p a3 a4=>.br (A.bq a3 p.a2) (.g_ A (A.b .add .i64 p.a1 a3) a4<|.g_ A (A.b .add .i64 p.a0 a3) a4<|.g_ A (A.b .add .i64 p.a0 a3) a4<|.g_ A (A.b .add .i64 p.a1 a3) (A.set a4 (A.b .add .i64 p.a0 a3) (A.n fv a4 (A.b .add .i64 p.a1 a3):dP))<|.ak<|.c0 p (A.b .add .i64 a3 1)<|A.set (A.set a4 (A.b .add .i64 p.a0 a3) (A.n fv a4 (A.b .add .i64 p.a1 a3):dP)) (A.b .add .i64 p.a1 a3) (A.n fv a4 (A.b .add .i64 p.a0 a3):dP))<|.ret (a4,())
def amJ{p:WX}{N:Nat}(i:0<=p.a0)(l:0<=p.a1)(u:p.a0+p.a2<=N)(v:p.a1+p.a2<=N)(A:N<=1000000):∀(j:Nat) (k:Int) (d:List dP),(p.a2-k).toNat<=j->0<=k->d.length=N->Ex (afF af) N (.ak<|.c0 p k d):=by
 intro j
 induction j with
 | zero=>intro k d f g c;exact Ex.ak (Ex.lss (λh=>by omega) λ_=>Ex.ret c)
 | succ j ih=>
   intro k d f g c;refine Ex.ak (Ex.lss (λh=>?_) λ_=>Ex.ret c);rw[xu (x:=p.a1) (y:=k)<|by omega,xu (x:=p.a0) (y:=k)<|by omega,xu (x:=k) (y:=1)<|by omega];exact Ex.ao (cr<|by omega)<|Ex.ao (cr<|by omega)<|Ex.ao (cr<|by omega)<|Ex.ao (LO<|by omega)<|ih (k+1) _ (by omega) (by omega)<|h_.trans<|h_.trans c
def amH{a b n:Int}(h:0<=a/\0<=n/\a+n<=b/\b+n<=(d.length:Int)/\d.length<=1000000):Ex (afF af) d.length<|anE af d a b n:=
 amJ (p:=⟨a,b,n⟩) (by simp only;omega) (by simp only;omega) (by simp only;omega) (by simp only;omega) (by omega) _ 0 d (ah _) (ai 0) rfl
def N9:List dP×(Int×Int×Int)->List dP×Unit:=λ(d,a,b,n)=>(w8 (afF af) (anE af d a b n) d,())
def Hf:List dP×(Int×Int×Int)->Bool:=λ(d,a,b,n)=>decide<|0<=a/\0<=n/\a+n<=b/\b+n<=(d.length:Int)/\d.length<=1000000
def apf:fH:=⟨fv,[yI,yI,yI],[77],[],Hf,N9,false⟩
def ao3:fH.bp prog 288 apf:=fA ar dK sl 12 [⟨288,1,[[0,1,2,3,10]]⟩] [] (λA (c,(a,b,n))=>anE A c a b n) afF aj2 (kz (fc func288 fz) sz) (λA y=>match y with |.c0 p g i=>⟨49,sl,by kernel_rfl⟩) λ((c,(a,b,n)):List dP×(Int×Int×Int)) f j h=>vG<|amH<|of_decide_eq_true f
structure WW where(a0:Int)
inductive adT where|c0(p:WW)(a1 a2:Int)(a3:List dP)
noncomputable def aj1:adT->iF
 | .c0 p a1 a2 a3=>⟨[iN 245 58 [(0,.own 0),(2,vi p.a0),(4,.fn 77 [] []),(10,vi a1),(11,vi a2)] f245 56],[aZ fv a3,.aU]⟩
def agl(A:aS)(c:List dP)(a:Int)(m:Int)(b:Int):LT (List dP×Unit) adT:=.ak<|.c0 ⟨m⟩ (A.b .sub .i64 m a) (A.b .sub .i64 b m) c
def afE(A:aS):adT->LT (List dP×Unit) adT
 | .c0 p a1 a2 a3=>.br (A.cm a1 a2) (.br (A.jr a1 a2) (.ao (A.k Hf (a3,A.b .sub .i64 p.a0 a1,p.a0,a2))<|.ak<|.c0 p (A.b .sub .i64 a1 a2) a2 (A.k N9 (a3,A.b .sub .i64 p.a0 a1,p.a0,a2)).1)<|.ao (A.k Hf (a3,A.b .sub .i64 p.a0 a1,A.b .sub .i64 (A.b .add .i64 p.a0 a2) a1,a1))<|.ak<|.c0 p a1 (A.b .sub .i64 a2 a1) (A.k N9 (a3,A.b .sub .i64 p.a0 a1,A.b .sub .i64 (A.b .add .i64 p.a0 a2) a1,a1)).1)<|.ao (A.k Hf (a3,A.b .sub .i64 p.a0 a1,p.a0,a1))<|.ret ((A.k N9 (a3,A.b .sub .i64 p.a0 a1,p.a0,a1)).1,())
def Mp{a b n:Int}(h:0<=a/\0<=n/\a+n<=b/\b+n<=(d.length:Int)/\d.length<=1000000):af.k Hf (d,a,b,n)=true:=bX h
def Qp{a b n:Int}:(af.k N9 (d,a,b,n)).1.length=d.length:=qW
def al_{p:WW}{N:Nat}(C:N<=1000000):∀(f:Nat) (i j:Int) (d:List dP),(i+j).toNat<=f->1<=i->1<=j->i<=p.a0->p.a0+j<=N->d.length=N->Ex (afE af) N (.ak<|.c0 p i j d):=by
 intro f
 induction f with
 | zero=>omega
 | succ f ih=>
   intro i j d B l u v A c;refine Ex.ak (Ex.neq (λh=>Ex.gtr (λg=>?_) λg=>?_) λh=>?_)
   .rw[wO (x:=p.a0) (y:=i)<|by omega,wO (x:=i) (y:=j)<|by omega];exact Ex.ao (Mp<|by omega)<|ih (i-j) j _ (by omega) (by omega) u (by omega) A<|Qp.trans c
   .rw[xu (x:=p.a0) (y:=j)<|by omega,wO (x:=p.a0) (y:=i)<|by omega,wO (x:=p.a0+j) (y:=i)<|by omega,wO (x:=j) (y:=i)<|by omega];exact Ex.ao (Mp<|by omega)<|ih i (j-i) _ (by omega) l (by omega) v (by omega)<|Qp.trans c
   .rw[wO (x:=p.a0) (y:=i)<|by omega];exact Ex.ao (Mp<|by omega)<|Ex.ret<|Qp.trans c
theorem al8{a m b:Int}(h:0<=a/\a<m/\m<b/\b<=(d.length:Int)/\d.length<=1000000):Ex (afE af) d.length<|agl af d a m b:=by
 unfold agl;rw[wO (x:=m) (y:=a)<|by omega,wO (x:=b) (y:=m)<|by omega];exact al_ (p:=⟨m⟩) (by omega) _ (m-a) (b-m) d (ah _) (by omega) (by omega) (by grind) (by grind) rfl
def s_:List dP×(Int×Int×Int)->List dP×Unit:=λ(d,a,m,b)=>(w8 (afE af) (agl af d a m b) d,())
def QN:List dP×(Int×Int×Int)->Bool:=λ(d,a,m,b)=>decide<|0<=a/\a<m/\m<b/\b<=(d.length:Int)/\d.length<=1000000
def ape:fH:=⟨fv,[yI,yI,yI],[77],[],QN,s_,false⟩
def ao2:fH.bp prog 245 ape:=fA ar dK sl 23 [⟨245,2,[[0,2,4,10,11]]⟩] [] (λA (c,(a,m,b))=>agl A c a m b) afE aj1 ⟨fc func245 fz,sz,oz,(ic ao3 iz),mz,pz⟩ (λA y=>match y with |.c0 p a1 a2 g=>⟨45,sl,by kernel_rfl⟩) λ((c,(a,m,b)):List dP×(Int×Int×Int)) f i h=>vG<|al8<|of_decide_eq_true f
structure aiR where(a0 a1 a2:Int)(a3:List dP)
structure aiS where(b0 b1 b2:Int)
inductive adR where|c0(p:aiR)|c1(p:aiS)(b3:Int)(b4:List dP)
noncomputable def ajZ:adR->iF
 | .c0 p=>⟨[iN 190 53 [(0,.own 0),(1,vi p.a0),(2,vi p.a1),(3,.fn 77 [] []),(8,vi p.a2)] f190 12],[aZ fv p.a3,.aU]⟩
 | .c1 p b3 b4=>⟨[iN 190 53 [(0,.own 0),(1,vi p.b0),(2,vi p.b1),(3,.fn 77 [] []),(8,vi p.b2),(9,vi b3)] f190 804],[aZ fv b4,.aU]⟩
def agk(A:aS)(c:List dP)(a:Int)(b:Int):LT (List dP×Unit) adR:=.ak<|.c0 ⟨a,b,A.b .add .i64 a 1,c⟩
def Vq(A:aS):adR->LT (List dP×Unit) adR
 | .c0 p=>.br (A.bq p.a2 p.a1) (.ak<|.c1 ⟨p.a0,p.a1,p.a2⟩ p.a2 p.a3)<|.ret (p.a3,())
 | .c1 p b3 b4=>.br (A.jr b3 p.b0) (.g_ A b3 b4<|.g_ A (A.b .sub .i64 b3 1) b4<|.br (A.bq (A.k N6 ((A.n fv b4 b3:dP),(A.n fv b4 (A.b .sub .i64 b3 1):dP))) 0) (.g_ A (A.b .sub .i64 b3 1) b4<|.g_ A b3 b4<|.g_ A b3 b4<|.g_ A (A.b .sub .i64 b3 1) (A.set b4 b3 (A.n fv b4 (A.b .sub .i64 b3 1):dP))<|.ak<|.c1 p (A.b .sub .i64 b3 1)<|A.set (A.set b4 b3 (A.n fv b4 (A.b .sub .i64 b3 1):dP)) (A.b .sub .i64 b3 1) (A.n fv b4 b3:dP))<|.ak<|.c0 ⟨p.b0,p.b1,A.b .add .i64 p.b2 1,b4⟩)<|.ak<|.c0 ⟨p.b0,p.b1,A.b .add .i64 p.b2 1,b4⟩
theorem alg{N:Nat}(H:N<=1000000){a b:Int}(G:0<=a)(I:b<=N):∀(f:Nat) (i:Int) (d:List dP),(b-i).toNat<=f->a<i->d.length=N->Ex (Vq af) N (.ak<|.c0 ⟨a,b,i,d⟩):=by
 intro f
 induction f with
 | zero=>intro i d B D l;exact Ex.ak (Ex.lss (λh=>by grind) λ_=>Ex.ret l)
 | succ f ih=>
   intro i d B D l;refine Ex.ak (Ex.lss (λh=>?_) λ_=>Ex.ret l);have h:i<b:=h;have A:∀e:List dP,e.length=N->Ex (Vq af) N (.ak<|.c0 ⟨a,b,af.b .add .i64 i 1,e⟩):=λe c=>by
    rw[xu (x:=i) (y:=1)<|by omega]
    grind
   have v:∀(g:Nat) (j:Int) (e:List dP),(j-a).toNat<=g->a<=j->j<=i->e.length=N->Ex (Vq af) N (.ak<|.c1 ⟨a,b,i⟩ j e):=by
    intro g
    induction g with
    | zero=>intro j e C E p c;exact Ex.ak (Ex.gtr (λh=>by grind) λ_=>A e c)
    | succ g u=>
      intro j e C E p c;refine Ex.ak (Ex.gtr (λh=>?_) λ_=>A e c);have h:a<j:=h;rw[wO (x:=j) (y:=1)<|by omega];exact Ex.ao (cr<|by omega)<|Ex.ao (cr<|by omega)<|Ex.br (λ_=>Ex.ao (cr<|by omega)<|Ex.ao (cr<|by omega)<|Ex.ao (cr<|by omega)<|Ex.ao (LO<|by omega)<|u (j-1) _ (by omega) (by omega) (by omega)<|h_.trans<|h_.trans c) λ_=>A e c
   exact v _ i d (ah _) (by omega) (ai i) l
def ale{a b:Int}(h:0<=a/\a<=b/\b<=(d.length:Int)/\d.length<=1000000):Ex (Vq af) d.length<|agk af d a b:=by
 unfold agk;rw[xu (x:=a) (y:=1)<|by omega];exact alg (by omega) h.1 h.c _ (a+1) d (ah _) (by omega) rfl
def SL:List dP×(Int×Int)->List dP×Unit:=λ(d,a,b)=>(w8 (Vq af) (agk af d a b) d,())
def Ma:List dP×(Int×Int)->Bool:=λ(d,a,b)=>decide<|0<=a/\a<=b/\b<=(d.length:Int)/\d.length<=1000000
def apd:fH:=⟨fv,[yI,yI],[77],[],Ma,SL,false⟩
def ao1:fH.bp prog 190 apd:=fA ar dK sl 14 [⟨190,1,[[0,1,2,3,8]]⟩,⟨190,4,[[0,1,2,3,8,9]]⟩] [] (λA (c,(a,b))=>agk A c a b) Vq ajZ (kz (fc func190 fz) (sc ahW sz)) (λA y=>match y with |.c0 p=>⟨24,sl,by kernel_rfl⟩|.c1 p b3 b4=>⟨57,sl,by kernel_rfl⟩) λ((c,(a,b)):List dP×(Int×Int)) f g h=>vG<|ale<|of_decide_eq_true f
def ae9{j:Nat}(h:i+j<4611686018427387904):af.v .i64 (af.b .shr .u64 (af.v .u64<|af.b .add .i64 (i:Int) (j:Int)) 1)=(((i+j)/2:Nat):Int):=by
 rw[t_ h];have e:af.v .u64 ((i+j:Nat):Int)=((i+j:Nat):Int):=an7 (by omega) (by omega);rw[e];have:=aq1 (a:=((i+j:Nat):Int)) (n:=1) (by omega) (by omega);rw[show((1:Nat):Int)=1 from rfl] at this;rw[this,y7];exact my (by omega) (by omega)
def Ox{i j:Int}(f:0<=i)(g:0<=j)(h:i+j<=4000000):∃c:Int,af.v .i64 (af.b .shr .u64 (af.v .u64<|af.b .add .i64 i j) 1)=c/\2*c<=i+j/\i+j<=2*c+1:=by
 obtain⟨i,rfl⟩:=a_ f;obtain⟨j,rfl⟩:=a_ g;exact⟨_,ae9<|by omega,by omega,by omega⟩
abbrev V7:Type:=List dP×Int×Int×Int->List dP×Unit
def jB(k:Nat):List dP×Int×Int×Int->Bool:=λ(d,a,m,b)=>decide<|0<=a/\a<m/\m<b/\b<=(d.length:Int)/\d.length<=1000000/\b-a<=(k:Int)
def Zr(k:Nat)(F:V7):fH:=⟨fv,[yI,yI,yI],[77],[],jB k,F,false⟩
structure WT where(a0:Int)(a3:List dP)
structure WU where(b0:Int)(b3:List dP)
structure WV where(c0 c1 c2 c3 c4 c7:Int)(c8:List dP)
structure aiT where(d0:Int)
structure aiU where(e0:Int)
inductive adS where|c0(p:WT)(a1 a2:Int)|c1(p:WU)(b1 b2:Int)|c2(p:WV)(c5 c6:Int)|c3(p:aiT)(d1:Int)(d2:List dP)|c4(p:aiU)(e1:Int)(e2:List dP)
noncomputable def aj0:adS->iF
 | .c0 p a1 a2=>⟨[iN 191 220 [(0,.own 0),(1,vi p.a0),(4,.fn 77 [] []),(10,vi a1),(11,vi a2)] f191 344],[aZ fv p.a3,.aU]⟩
 | .c1 p b1 b2=>⟨[iN 191 220 [(0,.own 0),(2,vi p.b0),(4,.fn 77 [] []),(14,vi b1),(15,vi b2)] f191 856],[aZ fv p.b3,.aU]⟩
 | .c2 p c5 c6=>⟨[iN 191 220 [(0,.own 0),(1,vi p.c0),(2,vi p.c1),(3,vi p.c2),(4,.fn 77 [] []),(18,vi p.c3),(19,vi p.c4),(20,vi c5),(21,vi c6),(22,vi p.c7)] f191 2040],[aZ fv p.c8,.aU]⟩
 | .c3 p d1 d2=>⟨[iN 191 220 [(0,.own 0),(10,vi p.d0),(13,vi d1)] f191 1396],[aZ fv d2,.aU]⟩
 | .c4 p e1 e2=>⟨[iN 191 220 [(0,.own 0),(14,vi p.e0),(17,vi e1)] f191 3444],[aZ fv e2,.aU]⟩
abbrev zM(A:aS)(a:Int)(b:Int):=(A.v .i64<|A.b .shr .u64 (A.v .u64<|A.b .add .i64 a b) 1)
def ab4(A:aS)(c:List dP)(a:Int)(m:Int)(b:Int):LT (List dP×Unit) adS:=.br (A.bG (A.b .sub .i64 m a) 1) (.ak<|.c0 ⟨a,c⟩ m b)<|.br (A.bG (A.b .sub .i64 b m) 1) (.ak<|.c1 ⟨m,c⟩ a m)<|.br (A.jr m<|zM A a b) (.ak<|.c2 ⟨a,m,b,zM A a b,A.b .add .i64 (zM A a b) m,A.b .sub .i64 (A.b .add .i64 (zM A a b) m) 1,c⟩ (A.b .sub .i64 (A.b .add .i64 (zM A a b) m) b)<|zM A a b)<|.ak<|.c2 ⟨a,m,b,zM A a b,A.b .add .i64 (zM A a b) m,A.b .sub .i64 (A.b .add .i64 (zM A a b) m) 1,c⟩ a m
def xm(F:V7)(k:Nat)(A:aS):adS->LT (List dP×Unit) adS
 | .c0 p a1 a2=>.br (A.bq a1 a2) (.g_ A (A.v .i64<|A.b .shr .u64 (A.v .u64<|A.b .add .i64 a1 a2) 1) p.a3<|.g_ A p.a0 p.a3<|.br (A.bq (A.k N6 ((A.n fv p.a3 (A.v .i64<|A.b .shr .u64 (A.v .u64<|A.b .add .i64 a1 a2) 1):dP),(A.n fv p.a3 p.a0:dP))) 0) (.ak<|.c0 p (A.b .add .i64 (A.v .i64<|A.b .shr .u64 (A.v .u64<|A.b .add .i64 a1 a2) 1) 1) a2)<|.ak<|.c0 p a1<|A.v .i64<|A.b .shr .u64 (A.v .u64<|A.b .add .i64 a1 a2) 1)<|.ak<|.c3 ⟨a1⟩ p.a0 p.a3
 | .c1 p b1 b2=>.br (A.bq b1 b2) (.g_ A p.b0 p.b3<|.g_ A (A.v .i64<|A.b .shr .u64 (A.v .u64<|A.b .add .i64 b1 b2) 1) p.b3<|.br (A.not<|A.bq (A.k N6 ((A.n fv p.b3 p.b0:dP),(A.n fv p.b3 (A.v .i64<|A.b .shr .u64 (A.v .u64<|A.b .add .i64 b1 b2) 1):dP))) 0) (.ak<|.c1 p (A.b .add .i64 (A.v .i64<|A.b .shr .u64 (A.v .u64<|A.b .add .i64 b1 b2) 1) 1) b2)<|.ak<|.c1 p b1<|A.v .i64<|A.b .shr .u64 (A.v .u64<|A.b .add .i64 b1 b2) 1)<|.ak<|.c4 ⟨b1⟩ p.b0 p.b3
 | .c2 p c5 c6=>.br (A.bq c5 c6) (.g_ A (A.b .sub .i64 p.c7<|A.v .i64<|A.b .shr .u64 (A.v .u64<|A.b .add .i64 c5 c6) 1) p.c8<|.g_ A (A.v .i64<|A.b .shr .u64 (A.v .u64<|A.b .add .i64 c5 c6) 1) p.c8<|.br (A.not<|A.bq (A.k N6 ((A.n fv p.c8 (A.b .sub .i64 p.c7<|A.v .i64<|A.b .shr .u64 (A.v .u64<|A.b .add .i64 c5 c6) 1):dP),(A.n fv p.c8 (A.v .i64<|A.b .shr .u64 (A.v .u64<|A.b .add .i64 c5 c6) 1):dP))) 0) (.ak<|.c2 p (A.b .add .i64 (A.v .i64<|A.b .shr .u64 (A.v .u64<|A.b .add .i64 c5 c6) 1) 1) c6)<|.ak<|.c2 p c5<|A.v .i64<|A.b .shr .u64 (A.v .u64<|A.b .add .i64 c5 c6) 1)<|.br (A.bq c5 p.c1) (.br (A.bq p.c1<|A.b .sub .i64 p.c4 c5) (.ao (A.k QN (p.c8,c5,p.c1,A.b .sub .i64 p.c4 c5))<|.br (A.bq p.c0 c5) (.br (A.bq c5 p.c3) (.ao (A.k (jB k) ((A.k s_ (p.c8,c5,p.c1,A.b .sub .i64 p.c4 c5)).1,p.c0,c5,p.c3))<|.br (A.bq p.c3<|A.b .sub .i64 p.c4 c5) (.br (A.bq (A.b .sub .i64 p.c4 c5) p.c2) (.ao (A.k (jB k) ((A.k F ((A.k s_ (p.c8,c5,p.c1,A.b .sub .i64 p.c4 c5)).1,p.c0,c5,p.c3)).1,p.c3,A.b .sub .i64 p.c4 c5,p.c2))<|.ret ((A.k F ((A.k F ((A.k s_ (p.c8,c5,p.c1,A.b .sub .i64 p.c4 c5)).1,p.c0,c5,p.c3)).1,p.c3,A.b .sub .i64 p.c4 c5,p.c2)).1,()))<|.ret ((A.k F ((A.k s_ (p.c8,c5,p.c1,A.b .sub .i64 p.c4 c5)).1,p.c0,c5,p.c3)).1,()))<|.ret ((A.k F ((A.k s_ (p.c8,c5,p.c1,A.b .sub .i64 p.c4 c5)).1,p.c0,c5,p.c3)).1,()))<|.br (A.bq p.c3<|A.b .sub .i64 p.c4 c5) (.br (A.bq (A.b .sub .i64 p.c4 c5) p.c2) (.ao (A.k (jB k) ((A.k s_ (p.c8,c5,p.c1,A.b .sub .i64 p.c4 c5)).1,p.c3,A.b .sub .i64 p.c4 c5,p.c2))<|.ret ((A.k F ((A.k s_ (p.c8,c5,p.c1,A.b .sub .i64 p.c4 c5)).1,p.c3,A.b .sub .i64 p.c4 c5,p.c2)).1,()))<|.ret ((A.k s_ (p.c8,c5,p.c1,A.b .sub .i64 p.c4 c5)).1,()))<|.ret ((A.k s_ (p.c8,c5,p.c1,A.b .sub .i64 p.c4 c5)).1,()))<|.br (A.bq p.c3<|A.b .sub .i64 p.c4 c5) (.br (A.bq (A.b .sub .i64 p.c4 c5) p.c2) (.ao (A.k (jB k) ((A.k s_ (p.c8,c5,p.c1,A.b .sub .i64 p.c4 c5)).1,p.c3,A.b .sub .i64 p.c4 c5,p.c2))<|.ret ((A.k F ((A.k s_ (p.c8,c5,p.c1,A.b .sub .i64 p.c4 c5)).1,p.c3,A.b .sub .i64 p.c4 c5,p.c2)).1,()))<|.ret ((A.k s_ (p.c8,c5,p.c1,A.b .sub .i64 p.c4 c5)).1,()))<|.ret ((A.k s_ (p.c8,c5,p.c1,A.b .sub .i64 p.c4 c5)).1,()))<|.br (A.bq p.c0 c5) (.br (A.bq c5 p.c3) (.ao (A.k (jB k) (p.c8,p.c0,c5,p.c3))<|.br (A.bq p.c3<|A.b .sub .i64 p.c4 c5) (.br (A.bq (A.b .sub .i64 p.c4 c5) p.c2) (.ao (A.k (jB k) ((A.k F (p.c8,p.c0,c5,p.c3)).1,p.c3,A.b .sub .i64 p.c4 c5,p.c2))<|.ret ((A.k F ((A.k F (p.c8,p.c0,c5,p.c3)).1,p.c3,A.b .sub .i64 p.c4 c5,p.c2)).1,()))<|.ret ((A.k F (p.c8,p.c0,c5,p.c3)).1,()))<|.ret ((A.k F (p.c8,p.c0,c5,p.c3)).1,()))<|.br (A.bq p.c3<|A.b .sub .i64 p.c4 c5) (.br (A.bq (A.b .sub .i64 p.c4 c5) p.c2) (.ao (A.k (jB k) (p.c8,p.c3,A.b .sub .i64 p.c4 c5,p.c2))<|.ret ((A.k F (p.c8,p.c3,A.b .sub .i64 p.c4 c5,p.c2)).1,()))<|.ret (p.c8,()))<|.ret (p.c8,()))<|.br (A.bq p.c3<|A.b .sub .i64 p.c4 c5) (.br (A.bq (A.b .sub .i64 p.c4 c5) p.c2) (.ao (A.k (jB k) (p.c8,p.c3,A.b .sub .i64 p.c4 c5,p.c2))<|.ret ((A.k F (p.c8,p.c3,A.b .sub .i64 p.c4 c5,p.c2)).1,()))<|.ret (p.c8,()))<|.ret (p.c8,()))<|.br (A.bq p.c0 c5) (.br (A.bq c5 p.c3) (.ao (A.k (jB k) (p.c8,p.c0,c5,p.c3))<|.br (A.bq p.c3<|A.b .sub .i64 p.c4 c5) (.br (A.bq (A.b .sub .i64 p.c4 c5) p.c2) (.ao (A.k (jB k) ((A.k F (p.c8,p.c0,c5,p.c3)).1,p.c3,A.b .sub .i64 p.c4 c5,p.c2))<|.ret ((A.k F ((A.k F (p.c8,p.c0,c5,p.c3)).1,p.c3,A.b .sub .i64 p.c4 c5,p.c2)).1,()))<|.ret ((A.k F (p.c8,p.c0,c5,p.c3)).1,()))<|.ret ((A.k F (p.c8,p.c0,c5,p.c3)).1,()))<|.br (A.bq p.c3<|A.b .sub .i64 p.c4 c5) (.br (A.bq (A.b .sub .i64 p.c4 c5) p.c2) (.ao (A.k (jB k) (p.c8,p.c3,A.b .sub .i64 p.c4 c5,p.c2))<|.ret ((A.k F (p.c8,p.c3,A.b .sub .i64 p.c4 c5,p.c2)).1,()))<|.ret (p.c8,()))<|.ret (p.c8,()))<|.br (A.bq p.c3<|A.b .sub .i64 p.c4 c5) (.br (A.bq (A.b .sub .i64 p.c4 c5) p.c2) (.ao (A.k (jB k) (p.c8,p.c3,A.b .sub .i64 p.c4 c5,p.c2))<|.ret ((A.k F (p.c8,p.c3,A.b .sub .i64 p.c4 c5,p.c2)).1,()))<|.ret (p.c8,()))<|.ret (p.c8,())
 | .c3 p d1 d2=>.br (A.bq d1<|A.b .sub .i64 p.d0 1) (.g_ A (A.b .add .i64 d1 1) d2<|.g_ A d1 d2<|.g_ A d1 d2<|.g_ A (A.b .add .i64 d1 1) (A.set d2 d1 (A.n fv d2 (A.b .add .i64 d1 1):dP))<|.ak<|.c3 p (A.b .add .i64 d1 1)<|A.set (A.set d2 d1 (A.n fv d2 (A.b .add .i64 d1 1):dP)) (A.b .add .i64 d1 1) (A.n fv d2 d1:dP))<|.ret (d2,())
 | .c4 p e1 e2=>.br (A.jr e1 p.e0) (.g_ A (A.b .sub .i64 e1 1) e2<|.g_ A e1 e2<|.g_ A e1 e2<|.g_ A (A.b .sub .i64 e1 1) (A.set e2 e1 (A.n fv e2 (A.b .sub .i64 e1 1):dP))<|.ak<|.c4 p (A.b .sub .i64 e1 1)<|A.set (A.set e2 e1 (A.n fv e2 (A.b .sub .i64 e1 1):dP)) (A.b .sub .i64 e1 1) (A.n fv e2 e1:dP))<|.ret (e2,())
section
variable {k:Nat} {F:V7}
def afp{a m b:Int}(h:0<=a/\a<m/\m<b/\b<=(d.length:Int)/\d.length<=1000000):af.k QN (d,a,m,b)=true:=bX h
def alq{a m b:Int}:(af.k s_ (d,a,m,b)).1.length=d.length:=qW
def TD{a m b:Int}(h:0<=a/\a<m/\m<b/\b<=(d.length:Int)/\d.length<=1000000/\b-a<=(k:Int)):af.k (jB k) (d,a,m,b)=true:=bX h
def avU{N:Nat}(u:N<=1000000){i:Int}(p:0<=i)(v:i<=N):∀(f:Nat) (j:Int) (d:List dP),(i-j).toNat<=f->0<=j->d.length=N->Ex (xm F k af) N (.ak<|.c3 ⟨i⟩ j d):=by
 intro f
 induction f with
 | zero=>
   intro j d g l c;refine Ex.ak ?_;rw[xm,wO (x:=i) (y:=1) (by omega)];exact Ex.lss (λh=>by omega) λ_=>Ex.ret c
 | succ f ih=>
   intro j d g l c;refine Ex.ak ?_;rw[xm,wO (x:=i) (y:=1) (by omega)];refine Ex.lss (λh=>?_) λ_=>Ex.ret c;rw[xu (x:=j) (y:=1)<|by omega];exact Ex.ao (cr<|by omega)<|Ex.ao (cr<|by omega)<|Ex.ao (cr<|by omega)<|Ex.ao (LO<|by omega)<|ih (j+1) _ (by omega) (by omega)<|h_.trans<|h_.trans c
theorem aoF{N:Nat}(p:N<=1000000){i:Int}(u:0<=i):∀(f:Nat) (j:Int) (d:List dP),(j-i).toNat<=f->j<N->d.length=N->Ex (xm F k af) N (.ak<|.c4 ⟨i⟩ j d):=by
 intro f
 induction f with
 | zero=>intro j d g l c;exact Ex.ak (Ex.gtr (λh=>by grind) λ_=>Ex.ret c)
 | succ f ih=>
   intro j d g l c;refine Ex.ak (Ex.gtr (λh=>?_) λ_=>Ex.ret c);have h:i<j:=h;rw[wO (x:=j) (y:=1)<|by omega];exact Ex.ao (cr<|by omega)<|Ex.ao (cr<|by omega)<|Ex.ao (cr<|by omega)<|Ex.ao (LO<|by omega)<|ih (j-1) _ (by omega) (by omega)<|h_.trans<|h_.trans c
def aqQ{p:WT}{N:Nat}(B:N<=1000000)(C:p.a3.length=N)(A:0<=p.a0/\p.a0<N):∀(f:Nat) (i j:Int),(j-i).toNat<=f->0<=i->i<=j->j<=N->Ex (xm F k af) N (.ak<|.c0 p i j):=by
 intro f;have l:∀i:Int,0<=i->i<=N->Ex (xm F k af) N (.ak (.c3 ⟨i⟩ p.a0 p.a3)):=λi h g=>avU B h g _ p.a0 p.a3 (ah _) A.1 C
 induction f with
 | zero=>intro i j D g u v;exact Ex.ak (Ex.lss (λh=>by omega) λ_=>l i g<|by omega)
 | succ f ih=>
   intro i j D g u v;refine Ex.ak (Ex.lss (λh=>?_) λ_=>l i g<|by omega);have⟨c,e,c1,c2⟩:=Ox g (show 0<=j by omega) (by omega);rw[e,xu (x:=c) (y:=1)<|by omega];exact Ex.ao (cr<|by omega)<|Ex.ao (cr<|by omega)<|Ex.br (λ_=>ih (c+1) j (by omega) (by omega) (by omega) v) λ_=>ih i c (by omega) g (by omega) (by omega)
def aqS{p:WU}{N:Nat}(B:N<=1000000)(C:p.b3.length=N)(A:0<=p.b0/\p.b0<N):∀(f:Nat) (i j:Int),(j-i).toNat<=f->0<=i->i<=j->j<=N->Ex (xm F k af) N (.ak<|.c1 p i j):=by
 intro f;have l:∀i:Int,0<=i->Ex (xm F k af) N (.ak (.c4 ⟨i⟩ p.b0 p.b3)):=λi g=>aoF B g _ p.b0 p.b3 (ah _) A.2 C
 induction f with
 | zero=>intro i j D g u v;exact Ex.ak (Ex.lss (λh=>by omega) λ_=>l i g)
 | succ f ih=>
   intro i j D g u v;refine Ex.ak (Ex.lss (λh=>?_) λ_=>l i g);have⟨c,e,c1,c2⟩:=Ox g (show 0<=j by omega) (by omega);rw[e,xu (x:=c) (y:=1)<|by omega];exact Ex.ao (cr<|by omega)<|Ex.ao (cr<|by omega)<|Ex.br (λ_=>ih (c+1) j (by omega) (by omega) (by omega) v) λ_=>ih i c (by omega) g (by omega) (by omega)
theorem ahB(D:∀x,(F x).1.length=x.1.length){p:WV}{N:Nat}(Z:N<=1000000)(g:p.c8.length=N){lo:Int}(K:0<=p.c0/\p.c0<p.c1/\p.c1<p.c2/\p.c2<=N/\p.c2-p.c0<=(k:Int)+1)
  (O:2*p.c3<=p.c0+p.c2/\p.c0+p.c2<=2*p.c3+1) (P:p.c4=p.c3+p.c1) (Q:p.c7=p.c4-1) (S:p.c0<=lo/\p.c4-lo<=p.c2) :
  ∀(f:Nat) (i j:Int),(j-i).toNat<=f->lo<=i->i<=j->j<=p.c1->j<=p.c3\/p.c1<=p.c3->Ex (xm F k af) N (.ak<|.c2 p i j):=by
 have B:∀{d:List dP} {a m b:Int},(af.k F (d,a,m,b)).1.length=d.length:=D _;have J:∀i:Int,lo<=i->i<=p.c1->i<=p.c3\/p.c1<=p.c3->Ex (xm F k af) N (.ak<|.c2 p i i):=λi V W X=>by
  refine Ex.ak ?_;rw[xm,wO (x:=p.c4) (y:=i)<|by omega];refine Ex.lss (λh=>by omega) λ_=>?_;have C:∀{d:List dP},d.length=N->p.c3<p.c4-i->p.c4-i<p.c2->Ex (xm F k af) N (.ao (af.k (jB k) (d,p.c3,p.c4-i,p.c2))<|.ret ((af.k F (d,p.c3,p.c4-i,p.c2)).1,())):=λg l u=>Ex.ao (TD<|by omega)<|Ex.ret<|B.trans g
  have v:∀{d:List dP},d.length=N->Ex (xm F k af) N (.br (af.bq p.c3<|p.c4-i) (.br (af.bq (p.c4-i) p.c2) (.ao (af.k (jB k) (d,p.c3,p.c4-i,p.c2))<|.ret ((af.k F (d,p.c3,p.c4-i,p.c2)).1,()))<|.ret (d,()))<|.ret (d,())):=λg=>
   Ex.lss (λl=>Ex.lss (λu=>C g l u) λ_=>Ex.ret g) λ_=>Ex.ret g
  have A:∀{d:List dP},d.length=N->Ex (xm F k af) N (.br (af.bq p.c0 i) (.br (af.bq i p.c3) (.ao (af.k (jB k) (d,p.c0,i,p.c3))<|.br (af.bq p.c3<|p.c4-i) (.br (af.bq (p.c4-i) p.c2) (.ao (af.k (jB k) ((af.k F (d,p.c0,i,p.c3)).1,p.c3,p.c4-i,p.c2))<|.ret ((af.k F ((af.k F (d,p.c0,i,p.c3)).1,p.c3,p.c4-i,p.c2)).1,()))<|.ret ((af.k F (d,p.c0,i,p.c3)).1,()))<|.ret ((af.k F (d,p.c0,i,p.c3)).1,()))
    (.br (af.bq p.c3<|p.c4-i) (.br (af.bq (p.c4-i) p.c2) (.ao (af.k (jB k) (d,p.c3,p.c4-i,p.c2))<|.ret ((af.k F (d,p.c3,p.c4-i,p.c2)).1,()))<|.ret (d,()))<|.ret (d,())))
    (.br (af.bq p.c3<|p.c4-i) (.br (af.bq (p.c4-i) p.c2) (.ao (af.k (jB k) (d,p.c3,p.c4-i,p.c2))<|.ret ((af.k F (d,p.c3,p.c4-i,p.c2)).1,()))<|.ret (d,()))<|.ret (d,()))):=λg=>
   Ex.lss (λl=>Ex.lss (λu=>Ex.ao (TD<|by omega)<|v<|B.trans g) λ_=>v g) λ_=>v g
  refine Ex.lss (λl=>Ex.lss (λu=>Ex.ao (afp<|by omega)<|A<|alq.trans g) λ_=>A g) λ_=>A g
 intro f
 induction f with
 | zero=>grind
 | succ f ih=>
   intro i j hf G H I E;by_cases he:i=j
   .simp_all
   refine Ex.ak (Ex.lss (λh=>?_) λh=>by omega);have⟨c,e,c1,c2⟩:=Ox (i:=i) (j:=j) (by omega) (by omega) (by omega);rw[e,xu (x:=c) (y:=1)<|by omega,wO (x:=p.c7) (y:=c)<|by omega];exact Ex.ao (cr<|by omega)<|Ex.ao (cr<|by omega)<|Ex.br (λ_=>ih (c+1) j (by omega) (by omega) (by omega) I E) λ_=>ih i c (by omega) G (by omega) (by omega) (by omega)
theorem amL(l:∀x,(F x).1.length=x.1.length){a m b:Int}(h:0<=a/\a<m/\m<b/\b<=(d.length:Int)/\d.length<=1000000/\b-a<=((k+1:Nat):Int)):Ex (xm F k af) d.length<|ab4 af d a m b:=by
 have⟨u,A,B,v,f,C⟩:=h;unfold ab4 zM;have⟨c,e,c1,c2⟩:=Ox (i:=a) (j:=b) (by omega) (by omega) (by omega);rw[e,wO (x:=m) (y:=a)<|by omega,wO (x:=b) (y:=m)<|by omega,xu (x:=c) (y:=m)<|by omega,wO (x:=c+m) (y:=1)<|by omega,wO (x:=c+m) (y:=b)<|by omega];refine Ex.eql (λ_=>aqQ (p:=⟨a,d⟩) f rfl (by grind) _ m b (ah _) (by omega) (by omega) v) λ_=>Ex.eql (λ_=>aqS (p:=⟨m,d⟩) f rfl (by grind) _ a m (ah _) u (by omega)<|by omega) λ_=>Ex.gtr (λg=>?_) λg=>?_
 .exact ahB l (p:=⟨a,m,b,c,c+m,c+m-1,d⟩) (lo:=c+m-b) f rfl (by simp_all) (by simp_all) rfl rfl (by grind) _ (c+m-b) c (ah _) (ai _) (by omega) (by grind) (by simp_all)
 .exact ahB l (p:=⟨a,m,b,c,c+m,c+m-1,d⟩) (lo:=a) f rfl (by simp_all) (by simp_all) rfl rfl (by grind) _ a m (ah _) (ai _) (by omega) (by simp_all) (by simp_all)
end
def alh{k:Nat}{F:V7}(f:∀x,(F x).1.length=x.1.length)(i:fH.bp prog 191<|Zr k F):fH.bp prog 191 (Zr (k+1) λ(d,a,m,b)=>(w8 (xm F k af) (ab4 af d a m b) d,())):=fA ar dK sl 76 [⟨191,3,[[0,1,4,10,11]]⟩,⟨191,9,[[0,10,13]]⟩,⟨191,15,[[0,2,4,14,15]]⟩,⟨191,21,[[0,14,17]]⟩,⟨191,33,[[0,1,2,3,4,18,19,20,21,22]]⟩] [] (λA (c,(a,m,b))=>ab4 A c a m b) (xm F k) aj0 ⟨fc func191 fz,(sc ahW sz),oz,(ic i (ic ao2 iz)),mz,pz⟩ (λA y=>match y with |.c0 p a1 a2=>⟨47,sl,by kernel_rfl⟩|.c1 p b1 b2=>⟨48,sl,by kernel_rfl⟩|.c2 p c5 c6=>⟨84,sl,by kernel_rfl⟩|.c3 p d1 d2=>⟨44,sl,by kernel_rfl⟩|.c4 p e1 e2=>⟨43,sl,by kernel_rfl⟩) λ((c,(a,m,b)):List dP×(Int×Int×Int)) g j h=>vG<|amL f<|of_decide_eq_true g
def Ki:Nat->V7
 | 0=>λx=>(x.1,())
 | k+1=>λ(d,a,m,b)=>(w8 (xm (Ki k) k af) (ab4 af d a m b) d,())
theorem ZE:∀(k:Nat) (x:List dP×Int×Int×Int),(Ki k x).1.length=x.1.length
 | 0,_=>rfl
 | _+1,_=>qW
def aaq{x:List dP×Int×Int×Int}:jB 0 x=false:=by
 exact fQ (by omega)
theorem ahe:∀k,fH.bp prog 191<|Zr k<|Ki k
 | 0=>⟨λw I x y v f B _ _ _ _ c=>Bool.noConfusion<|(aaq (x:=(x,y))).symm.trans c,f191,func191,by kernel_rfl,by kernel_rfl⟩
 | k+1=>alh (ZE k)<|ahe k
structure aiN where(a0:Int)
structure aiO where(b0 b1:Int)(b2:List dP)
structure aiP where(c0 c1:Int)
inductive adO where|c0(p:aiN)(a2 a3:Int)(a4:List dP)|c1(p:aiO)|c2(p:aiP)(c2 c3:Int)(c4:List dP)
noncomputable def ajX:adO->iF
 | .c0 p a2 a3 a4=>⟨[iN 129 63 [(0,.own 0),(1,vi p.a0),(2,.fn 77 [] []),(6,vi 20),(7,vi a2),(8,vi a3)] f129 56],[aZ fv a4,.aU]⟩
 | .c1 p=>⟨[iN 129 63 [(0,.own 0),(1,vi p.b0),(2,.fn 77 [] []),(6,vi p.b1)] f129 124],[aZ fv p.b2,.aU]⟩
 | .c2 p c2 c3 c4=>⟨[iN 129 63 [(0,.own 0),(1,vi p.c0),(2,.fn 77 [] []),(6,vi p.c1),(7,vi c2),(8,vi c3)] f129 7976],[aZ fv c4,.aU]⟩
def anC(A:aS)(c:List dP)(n:Int):LT (List dP×Unit) adO:=.ak<|.c0 ⟨n⟩ 0 20 c
def Rk(A:aS):adO->LT (List dP×Unit) adO
 | .c0 p a2 a3 a4=>.br (A.bQ a3 p.a0) (.ao (A.k Ma (a4,a2,a3))<|.ak<|.c0 p a3 (A.b .add .i64 a3 20) (A.k SL (a4,a2,a3)).1)<|.ao (A.k Ma (a4,a2,p.a0))<|.ak<|.c1 ⟨p.a0,20,(A.k SL (a4,a2,p.a0)).1⟩
 | .c1 p=>.br (A.bq p.b1 p.b0) (.ak<|.c2 ⟨p.b0,p.b1⟩ 0 (A.b .mul .i64 2 p.b1) p.b2)<|.ret (p.b2,())
 | .c2 p c2 c3 c4=>.br (A.bQ c3 p.c0) (.ao (A.k (jB 1000000) (c4,c2,A.b .add .i64 c2 p.c1,c3))<|.ak<|.c2 p c3 (A.b .add .i64 c3<|A.b .mul .i64 2 p.c1) (A.k (Ki 1000000) (c4,c2,A.b .add .i64 c2 p.c1,c3)).1)<|.br (A.bq (A.b .add .i64 c2 p.c1) p.c0) (.ao (A.k (jB 1000000) (c4,c2,A.b .add .i64 c2 p.c1,p.c0))<|.ak<|.c1 ⟨p.c0,A.b .mul .i64 p.c1 2,(A.k (Ki 1000000) (c4,c2,A.b .add .i64 c2 p.c1,p.c0)).1⟩)<|.ak<|.c1 ⟨p.c0,A.b .mul .i64 p.c1 2,c4⟩
theorem amF(A:N<=1000000){bs:Int}(v:1<=bs/\bs<=1000000)(g:∀d:List dP,d.length=N->Ex (Rk af) N (.ak<|.c1 ⟨(N:Int),af.b .mul .i64 bs 2,d⟩)):∀(f:Nat) (a:Int) (d:List dP),(N-a).toNat<=f->0<=a->a<=N->d.length=N->Ex (Rk af) N (.ak<|.c2 ⟨(N:Int),bs⟩ a (a+2*bs) d):=by
 have e:af.b .mul .i64 2 bs=2*bs:=by rw[jh,my (by omega)<|by omega]
 have i:∀{d:List dP} {a m b:Int},(af.k (Ki 1000000) (d,a,m,b)).1.length=d.length:=ZE _ _;have j:∀{d:List dP} {a m b:Int},(0<=a/\a<m/\m<b/\b<=(d.length:Int)/\d.length<=1000000/\b-a<=((1000000:Nat):Int))->af.k (jB 1000000) (d,a,m,b)=true:=λh=>bX h;intro f
 induction f with
 | zero=>
   intro a d p l u c;refine Ex.ak (Ex.leq (λh=>by grind) λ_=>?_);rw[show af.b .add .i64 a bs=a+bs from xu<|by omega];exact Ex.lss (λh=>by grind) λ_=>g d c
 | succ f ih=>
   intro a d p l u c;refine Ex.ak (Ex.leq (λh=>?_) λ_=>?_)
   .have h:a+2*bs<=N:=h;rw[show af.b .add .i64 a bs=a+bs from xu<|by omega,show af.b .mul .i64 2 bs=2*bs from e,xu (x:=a+2*bs) (y:=2*bs)<|by omega];exact Ex.ao (j<|by omega)<|ih (a+2*bs) _ (by omega) (by omega) h<|i.trans c
   .rw[show af.b .add .i64 a bs=a+bs from xu<|by omega];exact Ex.lss (λh=>by have h:a+bs<N:=h;exact Ex.ao (j<|by grind)<|g _<|i.trans c) λ_=>g d c
theorem abJ(i:N<=1000000):∀(f:Nat) (bs:Int) (d:List dP),(N-bs).toNat<=f->1<=bs->d.length=N->Ex (Rk af) N (.ak<|.c1 ⟨(N:Int),bs,d⟩):=by
 intro f
 induction f with
 | zero=>intro bs d j g c;exact Ex.ak (Ex.lss (λh=>by grind) λ_=>Ex.ret c)
 | succ f ih=>
   intro bs d j g c;refine Ex.ak (Ex.lss (λh=>?_) λ_=>Ex.ret c);have h:bs<N:=h;rw[show af.b .mul .i64 2 bs=0+2*bs by rw[jh,my (by omega)<|by omega];omega];refine amF i ⟨g,by omega⟩ (λe l=>?_) _ 0 d (ah _) (ai 0) (by omega) c;rw[show af.b .mul .i64 bs 2=bs*2 by rw[jh,my (by omega)<|by omega]]
   grind
theorem amE(j:N<=1000000):∀(f:Nat) (a:Int) (d:List dP),(N-a).toNat<=f->0<=a->a<=N->d.length=N->Ex (Rk af) N (.ak<|.c0 ⟨(N:Int)⟩ a (a+20) d):=by
 have g:∀{d:List dP} {a b:Int},(af.k SL (d,a,b)).1.length=d.length:=qW;have i:∀{d:List dP} {a b:Int},(0<=a/\a<=b/\b<=(d.length:Int)/\d.length<=1000000)->af.k Ma (d,a,b)=true:=λh=>bX h;intro f
 induction f with
 | zero=>intro a d p l u c;exact Ex.ak (Ex.leq (λh=>by grind) λ_=>Ex.ao (i<|by simp_all)<|abJ j _ 20 _ (ah _) (by omega)<|g.trans c)
 | succ f ih=>
   intro a d p l u c;refine Ex.ak (Ex.leq (λh=>?_) λ_=>Ex.ao (i<|by simp_all)<|abJ j _ 20 _ (ah _) (by omega)<|g.trans c);have h:a+20<=N:=h;rw[xu (x:=a+20) (y:=20)<|by omega];exact Ex.ao (i<|by omega)<|ih (a+20) _ (by omega) (by omega) h<|g.trans c
def amB{n:Int}(h:n=(d.length:Int)/\d.length<=1000000):Ex (Rk af) d.length<|anC af d n:=by
 obtain⟨rfl,h⟩:=h;exact amE h _ 0 d (ah _) (ai 0) (by omega) rfl
def YM:List dP×Int->List dP×Unit:=λ(d,n)=>(w8 (Rk af) (anC af d n) d,())
def aap:List dP×Int->Bool:=λ(d,n)=>decide<|n=(d.length:Int)/\d.length<=1000000
def apc:fH:=⟨fv,[yI],[77],[],aap,YM,false⟩
def ao0:fH.bp prog 129 apc:=fA ar dK sl 19 [⟨129,2,[[0,1,2,6,7,8]]⟩,⟨129,7,[[0,1,2,6]]⟩,⟨129,9,[[0,1,2,6,7,8]]⟩] [] (λA (c,n)=>anC A c n) Rk ajX ⟨fc func129 fz,sz,oz,(ic ao1 (ic (ahe 1000000) iz)),mz,pz⟩ (λA y=>match y with |.c0 p a2 g i=>⟨36,sl,by kernel_rfl⟩|.c1 p=>⟨26,sl,by kernel_rfl⟩|.c2 p c2 c3 c4=>⟨44,sl,by kernel_rfl⟩) λ((c,n):List dP×Int) f j h=>vG<|amB<|of_decide_eq_true f
def anA(A:aS)(c:List dP):LT (List dP×Unit) Empty:=.ao (A.k aap (c,A.l c))<|.ret ((A.k YM (c,A.l c)).1,())
def amA(h:d.length<=1000000):Ex Empty.elim d.length<|anA af d:=
 Ex.ao (bX ⟨rfl,h⟩) (Ex.ret<|show(af.k YM (d,af.l d)).1.length=d.length from qW)
def YK:List dP×Unit->List dP×Unit:=λ(d,_)=>(w8 Empty.elim (anA af d) d,())
def L9:List dP×Unit->Bool:=λ(d,_)=>decide<|d.length<=1000000
def apa:fH:=⟨fv,[],[77],[],L9,YK,false⟩
def aoY:fH.bp prog 76 apa:=fA ar dK sl 13 [] [] (λA (c,())=>anA A c) (λ_=>Empty.elim) Empty.elim ⟨fc func76 fz,sz,oz,(ic ao0 iz),mz,pz⟩ (λ_ y=>y.elim) λ((c,()):List dP×Unit) f g h=>vG<|amA<|of_decide_eq_true f
def VE(l:List dP):List dP:=(YK (l,())).1
def RA(A:aS)(m:au):LT (Int×Int) Empty:=.br (A.cm (A.k iR m) 0) (.ret (0,A.k iR m))<|.ret (A.b .add .i64 (A.b .mul .i64 (A.b .mul .i64 14 m.1) m.2.2.2.2.1) 8,0)
def ox:au->(Int×Int):=λm=>(RA af m).val<|Ty.aO [yI,yI]
def atT:aL:=.all [aW] [yI,yI] ox
def arS:Sd 71 atT:=fa<|aN ar dK sl 38 [] (λA m=>RA A m)<|kz (fc func71 fz)<|sc yd sz
def OL{m:au}(h:¬iR m=0):(ox m).2=iR m:=by
 show(LT.val (Ty.aO [yI,yI])<|RA af m).2=_;simp[RA,bZ,b_,bne_iff_ne.2 h];rfl
def afr{m:au}(h:(ox m).2=0):iR m=0:=bY.1 λk=>k<|(OL k).symm.trans h
def agN(l:List Bool)(N:Nat):List Bool:=af.spl (List.replicate N true) 0<|af.s l 0<|af.mn (af.l l)<|af.l<|List.replicate N true
def opC(o:dP):dP:=(o.1,o.2.1,o.2.2.1,o.2.2.2.1,o.2.2.2.2.1,nQ o.2.2.2.2.2)
def aqz(m:au)(l:List dP):List dP:=((l.filter λo=>um (m,o)).map opC).take 256
def dp(m:au)(s:gK):gK:=
 (af.mn (af.mx s.1 1) 16,agN s.2.1 m.1.toNat,rowP s.2.2.1 m.1.toNat 0 (ox m).1 0,rowP s.2.2.2.1 m.1.toNat 40 60 50,rowP s.2.2.2.2.1 m.1.toNat (af.u .neg .i64<|af.b .quo .i64 m.2.2.2.1 2) (af.b .quo .i64 m.2.2.2.1 2) 0,
   rowP s.2.2.2.2.2.1 (min s.2.2.2.2.2.1.length 1024) (af.u .neg .i64 m.2.2.2.2.1) m.2.2.2.2.1 0,VE<|aqz m s.2.2.2.2.2.2.1,(uh m s.2.2.2.2.2.2.2).take 256)
def aqo:gK:=(0,[],[],[],[],[],[],[])
def zZ(m:au)(s:gK):gK×Int:=bif decide ((ox m).2=0) then(dp m s,0) else(aqo,(ox m).2)
structure WI where(a0:List dP)(a1:Int)(a3:au)(a5:Int)(a6 a7 a8 a9:List Int)(mA:List fX)(pH:List Bool)
structure WJ where(b0:List dP)(b1:Int)(b3:au)(b5:Int)(b6 b7 b8 b9:List Int)(b10:List fX)(b11:List Bool)
inductive Ur where|c0(p:WI)(a2:Int)|c1(p:WJ)(b2:Int)(b12:List dP)
noncomputable def ajS:Ur->iF
 | .c0 p a2=>⟨[iN 43 112 [(2,pZ 0),(4,pZ 1),(9,pZ 2),(82,.sl fv p.a0),(83,vi p.a1),(84,vi a2)] f43 4084],[dZ aW p.a3,gZ [vi 0,.eT true,.eT true,.eT true,.eT true,.eT true,.eT true,.eT true],gZ [vi p.a5,.own 3,.sl yI p.a6,.sl yI p.a7,.sl yI p.a8,.sl yI p.a9,.eT true,.sl fq p.mA],aZ .bool p.pH,.aU]⟩
 | .c1 p b2 b12=>⟨[iN 43 112 [(2,pZ 0),(4,pZ 1),(9,pZ 2),(82,.sl fv p.b0),(83,vi p.b1),(84,vi b2)] f43 4084],[dZ aW p.b3,gZ [vi 0,.eT true,.eT true,.eT true,.eT true,.eT true,.eT true,.eT true],gZ [vi p.b5,.own 3,.sl yI p.b6,.sl yI p.b7,.sl yI p.b8,.sl yI p.b9,.own 4,.sl fq p.b10],aZ .bool p.b11,aZ fv b12,.aU]⟩
abbrev abZ(A:aS)(m:au)(s:gK):LT (gK×Int) Ur:=(.ao (A.and (A.bQ 0 0)<|A.and (A.bQ 0<|A.mn (A.l<|A.k wX (m,s.2.2.2.2.2.2.2)) 256)<|A.bQ (A.mn (A.l<|A.k wX (m,s.2.2.2.2.2.2.2)) 256)<|A.l<|A.k wX (m,s.2.2.2.2.2.2.2))<|.ak<|.c0 ⟨s.2.2.2.2.2.2.1,A.l s.2.2.2.2.2.2.1,m,A.mn (A.mx s.1 1) 16,A.k N5 (s.2.2.1,m.1,0,(A.k ox m).1,0),A.k N5 (s.2.2.2.1,m.1,40,60,50),A.k N5 (s.2.2.2.2.1,m.1,A.u .neg .i64<|A.b .quo .i64 m.2.2.2.1 2,A.b .quo .i64 m.2.2.2.1 2,0),A.k N5 (s.2.2.2.2.2.1,A.mn (A.l s.2.2.2.2.2.1) 1024,A.u .neg .i64 m.2.2.2.2.1,m.2.2.2.2.1,0),A.s (A.k wX (m,s.2.2.2.2.2.2.2)) 0<|A.mn (A.l<|A.k wX (m,s.2.2.2.2.2.2.2)) 256,A.spl (A.k YJ ([true],m.1)).2.1 0<|A.s s.2.1 0<|A.mn (A.l s.2.1)<|A.l (A.k YJ ([true],m.1)).2.1⟩ 0)
abbrev Uk(A:aS)(m:au)(s:gK):=(A.k tF (s.2.2.2.2.1,m.1,A.u .neg .i64<|A.b .quo .i64 m.2.2.2.1 2,A.b .quo .i64 m.2.2.2.1 2,0))
abbrev Ul(A:aS)(m:au)(s:gK):=(A.k tF (s.2.2.2.2.2.1,A.mn (A.l s.2.2.2.2.2.1) 1024,A.u .neg .i64 m.2.2.2.2.1,m.2.2.2.2.1,0))
abbrev ab0(A:aS)(m:au)(s:gK):LT (gK×Int) Ur:=(.ao (A.k Hd ([true],m.1))<|.ao (A.k tF (s.2.2.1,m.1,0,(A.k ox m).1,0))<|.ao (A.k tF (s.2.2.2.1,m.1,40,60,50))<|.ao (Uk A m s)<|.ao (Ul A m s)<|.ao (A.k He (m,s.2.2.2.2.2.2.2))<|abZ A m s)
def anv(A:aS)(m:au)(s:gK):LT (gK×Int) Ur:=.br (A.cm (A.k ox m).2 0) (.ret ((0,([]:List Bool),([]:List Int),([]:List Int),([]:List Int),([]:List Int),([]:List dP),([]:List fX)),(A.k ox m).2))<|.and (.and (.ao (A.k Hd ([true],m.1))<|.ao (A.k tF (s.2.2.1,m.1,0,(A.k ox m).1,0))<|.ao (A.k tF (s.2.2.2.1,m.1,40,60,50))<|.ao (Uk A m s)<|.ao (Ul A m s)<|.ao (A.k He (m,s.2.2.2.2.2.2.2))<|.ao (A.k He (m,s.2.2.2.2.2.2.2))<|.ao (Ul A m s)<|.ao (Uk A m s)<|.ao (A.k tF (s.2.2.2.1,m.1,40,60,50))<|.ao (A.k tF (s.2.2.1,m.1,0,(A.k ox m).1,0))<|abZ A m s)<|ab0 A m s)<|ab0 A m s
def aaQ(A:aS):Ur->LT (gK×Int) Ur
 | .c0 p a2=>.br (A.bq a2 p.a1) (.g_ A a2 p.a0<|.br (A.k um (p.a3,(A.n fv p.a0 a2:dP))) (.ao (A.bQ (A.l (([((A.n fv p.a0 a2:dP).1,(A.n fv p.a0 a2:dP).2.1,(A.n fv p.a0 a2:dP).2.2.1,(A.n fv p.a0 a2:dP).2.2.2.1,(A.n fv p.a0 a2:dP).2.2.2.2.1,A.k nQ (A.n fv p.a0 a2:dP).2.2.2.2.2)]:List dP):List dP)) 2199023255552)<|.ak<|.c1 ⟨p.a0,p.a1,p.a3,p.a5,p.a6,p.a7,p.a8,p.a9,p.mA,p.pH⟩ (A.b .add .i64 a2 1) ([((A.n fv p.a0 a2:dP).1,(A.n fv p.a0 a2:dP).2.1,(A.n fv p.a0 a2:dP).2.2.1,(A.n fv p.a0 a2:dP).2.2.2.1,(A.n fv p.a0 a2:dP).2.2.2.2.1,A.k nQ (A.n fv p.a0 a2:dP).2.2.2.2.2)]:List dP))<|.ak<|.c0 p<|A.b .add .i64 a2 1)<|.ao (A.k L9 (([]:List dP),()))<|.ret ((p.a5,p.pH,p.a6,p.a7,p.a8,p.a9,([]:List dP),p.mA),0)
 | .c1 p b2 b12=>.br (A.bq b2 p.b1) (.g_ A b2 p.b0<|.br (A.k um (p.b3,(A.n fv p.b0 b2:dP))) (.br (A.bq (A.l b12) 256) (.ao (A.bQ (A.l<|A.p b12 ([((A.n fv p.b0 b2:dP).1,(A.n fv p.b0 b2:dP).2.1,(A.n fv p.b0 b2:dP).2.2.1,(A.n fv p.b0 b2:dP).2.2.2.1,(A.n fv p.b0 b2:dP).2.2.2.2.1,A.k nQ (A.n fv p.b0 b2:dP).2.2.2.2.2)]:List dP)) 2199023255552)<|.ak<|.c1 p (A.b .add .i64 b2 1)<|A.p b12 ([((A.n fv p.b0 b2:dP).1,(A.n fv p.b0 b2:dP).2.1,(A.n fv p.b0 b2:dP).2.2.1,(A.n fv p.b0 b2:dP).2.2.2.1,(A.n fv p.b0 b2:dP).2.2.2.2.1,A.k nQ (A.n fv p.b0 b2:dP).2.2.2.2.2)]:List dP))<|.ak<|.c1 p (A.b .add .i64 b2 1) b12)<|.ak<|.c1 p (A.b .add .i64 b2 1) b12)<|.ao (A.k L9 (b12,()))<|.ret ((p.b5,p.b11,p.b6,p.b7,p.b8,p.b9,(A.k YK (b12,())).1,p.b10),0)
def aqp{L:List dP}(h:i<L.length):(af.n fv L (i:Int):dP)=L[i]:=fF h _
def afo(h:d.length<=1000000):af.k L9 (d,())=true:=bX h
theorem aaf{p:WJ}{m:au}{L:List dP}(g:p.b0=L)(h:p.b1=(L.length:Int))(v:p.b3=m)(A:L.length<=1000000):∀(j i:Nat) (c:List dP),L.length-i=j->i<=L.length->c.length<=256->
  bi (aaQ af) (.ak<|.c1 p i c) ((p.b5,p.b11,p.b6,p.b7,p.b8,p.b9,VE<|(c++((L.drop i).filter λo=>um (m,o)).map opC).take 256,p.b10),0):=by
 intro j
 induction j with
 | zero=>
   intro i c y x l;have:i=L.length:=by omega
   subst this;refine aI.2<|(al ?_).2<|aA.2 ⟨afo<|by omega,aT ?_<|.ret _⟩
   .rw[h,bR];simp
   .rw[cZ,o8,mG,aJ,dH l];rfl
 | succ j ih=>
   intro i c y x l;have f:i<L.length:=by omega
   refine aI.2<|(ap ?_).2<|aA.2 ⟨by rw[g];exact dA f,?_⟩
   .rw[h,bR];simp_all
   rw[g,v,aqp f,jN<|by omega,AX f];cases hf:um (m,L[i])
   .refine(al<|show af.k um (m,L[i])=false from hf).2 ?_
    grind
   .refine(ap<|show af.k um (m,L[i])=true from hf).2 ?_;rw[dY (p:=λo=>um (m,o)) hf,eX];by_cases B:c.length<256
    .refine(ap (by rw[eG,bl];grind)).2 (aA.2 ⟨?_,?_⟩)
     .rw[eG,wL,uy,bP,ax];exact bX (by omega)
     .have u:=ih (i+1) (c ++ [opC L[i]]) (by omega) (by omega) (by rw[uy,bP];omega);rw[e_,kW] at u;exact u
    .refine(al (by rw[eG,bl];grind)).2 ?_
     grind
theorem U2{p:WI}{m:au}{L:List dP}(g:p.a0=L)(f:p.a1=(L.length:Int))(h:p.a3=m)(l:L.length<=1000000):∀(j i:Nat),L.length-i=j->i<=L.length->
  bi (aaQ af) (.ak<|.c0 p i) ((p.a5,p.pH,p.a6,p.a7,p.a8,p.a9,VE<|(((L.drop i).filter λo=>um (m,o)).map opC).take 256,p.mA),0):=by
 intro j
 induction j with
 | zero=>
   intro i v u;have:i=L.length:=by omega
   subst this;refine aI.2<|(al ?_).2<|aA.2 ⟨rfl,aT ?_<|.ret _⟩
   .rw[f,bR];simp
   .rw[cZ,o8,mG,List.take_nil,show VE ([]:List dP)=[] from rfl]
 | succ j ih=>
   intro i v u;have c:i<L.length:=by omega
   refine aI.2<|(ap ?_).2<|aA.2 ⟨by rw[g];exact dA c,?_⟩
   .rw[f,bR];simp_all
   rw[g,h,aqp c,jN<|by omega,AX c];cases hf:um (m,L[i])
   .refine(al<|show af.k um (m,L[i])=false from hf).2 ?_
    grind
   .refine(ap<|show af.k um (m,L[i])=true from hf).2 (aA.2 ⟨rfl,?_⟩);rw[dY (p:=λo=>um (m,o)) hf,eX];exact aaf (p:=⟨L,p.a1,m,p.a5,p.a6,p.a7,p.a8,p.a9,p.mA,p.pH⟩) (m:=m) (L:=L) rfl f rfl l _ (i+1) [opC L[i]] rfl (by omega) (by simp)
def afn(h:N<=1024):af.k Hd ([true],(N:Int))=true:=bX ⟨rfl,by omega,by omega⟩
theorem akv{m:au}{s:gK}(v:s.2.2.2.2.2.2.2.length<=1000000)(y:s.2.2.2.2.2.2.1.length<=1000000)(H:s.2.2.2.2.2.1.length<=140737488355328):bi (aaQ af) (anv af m s)<|zZ m s:=by
 unfold anv ab0 Ul Uk abZ zZ;by_cases h:(ox m).2=0
 .rw[bX h];refine(al (by show af.cm (ox m).2 0=false;rw[dU];simp_all)).2 ?_;have G:=(jc<|oZ.1<|sZ.symm.trans<|afr h).1;have⟨N,x⟩:=a_ (show 0<=m.1 by omega);have E:N<=8:=by omega
  have w:∀(l:List Int) (a b c:Int),af.k tF (l,m.1,a,b,c)=true:=λl a b c=>bX (by omega);have g:af.mn (af.l s.f) 1024=((min s.f.length 1024:Nat):Int):=wi (i:=s.f.length) (j:=1024);have A:∀(l:List Int) (a b c:Int),af.k tF (l,af.mn (af.l s.f) 1024,a,b,c)=true:=λl a b c=>bX (by omega);have B:af.k He (m,s.G)=true:=bX v;have C:af.and (af.bQ 0 0) (af.and (af.bQ 0<|af.mn (af.l<|af.k wX (m,s.G)) 256)<|af.bQ (af.mn (af.l<|af.k wX (m,s.G)) 256)<|af.l<|af.k wX (m,s.G))=true:=by
   have e:af.mn (af.l<|af.k wX (m,s.G)) 256=((min (af.k wX (m,s.G)).length 256:Nat):Int):=wi (i:=(af.k wX (m,s.G)).length) (j:=256);rw[e,eG,bF,bF,ax,ax,ax];grind
  have D:af.k Hd ([true],m.1)=true:=by rw[x];exact afn (by omega)
  have f:=U2 (p:=⟨s.g,(s.g.length:Int),m,af.mn (af.mx s.1 1) 16,rowP s.c m.1.toNat 0 (ox m).1 0,rowP s.d m.1.toNat 40 60 50,rowP s.e m.1.toNat (af.u .neg .i64<|af.b .quo .i64 m.d 2) (af.b .quo .i64 m.d 2) 0,rowP s.f (af.mn (af.l s.f) 1024).toNat (af.u .neg .i64 m.e) m.e 0,af.s (uh m s.G) 0<|af.mn (af.l<|uh m s.G) 256,agN s.2.1 m.1.toNat⟩) (m:=m) (L:=s.g) rfl rfl rfl y _ 0 rfl<|aQ _;have u:af.s (uh m s.G) 0 (af.mn (af.l<|uh m s.G) 256)=(uh m s.G).take 256:=by
   rw[show af.mn (af.l<|uh m s.G) 256=((min (uh m s.G).length 256:Nat):Int) from wi (i:=(uh m s.G).length) (j:=256),jU,y7]
   grind
  have f:bi (aaQ af) _ (dp m s,0):=aT (by unfold dp;rw[u,g,y7];rfl) f
  repeat' first
   | exact f
   | refine .and ?_ ?_
   | refine aA.2 ⟨D,?_⟩
   | refine aA.2 ⟨w _ _ _ _,?_⟩
   | refine aA.2 ⟨A _ _ _ _,?_⟩
   | refine aA.2 ⟨B,?_⟩
   | refine aA.2 ⟨C,?_⟩
 .rw[fQ h];exact(ap (by show af.cm (ox m).2 0=true;rw[dU];simp_all)).2 (.ret _)
def Kh:(au×gK)->(gK×Int):=λ(m,s)=>zZ m s
def rR:(au×gK)->Bool:=λ(_,s)=>decide<|s.2.2.2.2.2.2.2.length<=1000000/\s.2.2.2.2.2.2.1.length<=1000000/\s.2.2.2.2.2.1.length<=140737488355328
def atS:aL:=⟨[aW,gb],[gb,yI],rR,Kh,false⟩
def arP:Sd 43 atS:=bE ar dK .wide 119 [⟨43,9,[[2,4,9,82,83,84]]⟩] [] (λA (m,s)=>anv A m s) aaQ ajS ⟨fc func43 fz,(sc Ea (sc arS (sc arT (sc arU (sc arV sz))))),(oc aqu oz),(ic aoY iz),mz,pz⟩ (λA y=>match y with |.c0 p a2=>⟨57,sl,by kernel_rfl⟩|.c1 p b2 b12=>⟨57,sl,by kernel_rfl⟩) λ((m,s):au×gK) c h=>akv (of_decide_eq_true c).1 (of_decide_eq_true c).2.1 (of_decide_eq_true c).2.2
def dw{x y:Int}(h:-4611686018427387904<=x+y/\x+y<4611686018427387904):af.bT x y=x+y:=xu h
def lT{x y:Int}(h:-4611686018427387904<=x-y/\x-y<4611686018427387904):af.f_ x y=x-y:=wO h
def VI{a b:Int}:af.bT a b=IntKind.i64.wrap (a+b):=Go.Ev.gB
def y5{a b:Int}:af.f_ a b=IntKind.i64.wrap (a-b):=Go.Ev.ia
def ald(h:i<4611686018427387904):af.bT i 1=((i+1:Nat):Int):=jN h
abbrev VU{c β:Type}(x:c×β)(y:c):c×β:=(y,x.2)
abbrev Dq{f c β:Type}(x:f×c×β)(y:c):f×c×β:=(x.1,y,x.2.2)
abbrev up2{f g c β:Type}(x:f×g×c×β)(y:c):f×g×c×β:=(x.1,x.2.1,y,x.2.2.2)
abbrev up3{f g h c β:Type}(x:f×g×h×c×β)(y:c):f×g×h×c×β:=(x.1,x.2.1,x.2.2.1,y,x.2.2.2.2)
abbrev NC{f g h i c β:Type}(x:f×g×h×i×c×β)(y:c):f×g×h×i×c×β:=(x.1,x.2.1,x.2.2.1,x.2.2.2.1,y,x.2.2.2.2.2)
abbrev Fo{f g h i j c β:Type}(x:f×g×h×i×j×c×β)(y:c):f×g×h×i×j×c×β:=(x.1,x.2.1,x.2.2.1,x.2.2.2.1,x.2.2.2.2.1,y,x.2.2.2.2.2.2)
abbrev Py{f g h i j l c β:Type}(x:f×g×h×i×j×l×c×β)(y:c):f×g×h×i×j×l×c×β:=(x.1,x.2.1,x.2.2.1,x.2.2.2.1,x.2.2.2.2.1,x.2.2.2.2.2.1,y,x.2.2.2.2.2.2.2)
abbrev lp1{c β γ:Type}(x:c×β)(y:γ):c×γ:=(x.1,y)
abbrev lp2{c f β γ:Type}(x:c×f×β)(y:γ):c×f×γ:=(x.1,x.2.1,y)
abbrev lp7{c f g h i j l β γ:Type}(x:c×f×g×h×i×j×l×β)(y:γ):c×f×g×h×i×j×l×γ:=(x.1,x.2.1,x.2.2.1,x.2.2.2.1,x.2.2.2.2.1,x.2.2.2.2.2.1,x.2.2.2.2.2.2.1,y)
abbrev md(A:aS)(t:Ty)(v:List t.T)(i:Int)(f:t.T->t.T):List t.T:=A.set v i<|f<|A.n t v i
def _root_.Go.Ev.cn.bp.either{g:FuncId}{u:List VF}{i l:List Ty}{p q:Ty.Ts (VF.iA u)×Ty.Ts i->Bool}{f k:Ty.Ts (VF.iA u)×Ty.Ts i->Ty.Ts (VF.iA u)×Ty.Ts l}{v:Bool}{c:Ty.Ts (VF.iA u)×Ty.Ts i->Bool}
  (h:cn.bp P g ⟨u,i,l,p,f,v,false⟩) (J:cn.bp P g ⟨u,i,l,q,k,v,false⟩):cn.bp P g ⟨u,i,l,λx=>bif c x then p x else q x,λx=>bif c x then f x else k x,v,false⟩:=by
 refine⟨λw I D x y K H B a1 a2 A C E G j=>?_,λx y j=>?_,nofun,h.body⟩
 .simp only at j ⊢;cases e:c (x,y)<;>rw[e] at j
  .exact J.calls w I D x y K H B a1 a2 A C E G j
  .exact h.calls w I D x y K H B a1 a2 A C E G j
 .simp only at j ⊢;cases e:c (x,y)<;>rw[e] at j
  .exact J.keep x y j
  .exact h.keep x y j
def _root_.Go.Ev.lG.bp.either{g:FuncId}{v:Ty}{i j:List Ty}{p q:v.T×Ty.Ts i->Bool}{f k:v.T×Ty.Ts i->Ty.Ts j}{c:v.T×Ty.Ts i->Bool}
  (h:lG.bp P g ⟨v,i,j,p,f⟩) (E:lG.bp P g ⟨v,i,j,q,k⟩):lG.bp P g ⟨v,i,j,λx=>bif c x then p x else q x,λx=>bif c x then f x else k x⟩:=by
 refine⟨λw I x y b D T C B a1 a2 u A l=>?_,h.body⟩;simp only at l ⊢;cases e:c (x,y)<;>rw[e] at l
 .exact E.calls w I x y b D T C B a1 a2 u A l
 .exact h.calls w I x y b D T C B a1 a2 u A l
abbrev RV:Ty:=(.struct [.bool,.slice gv,yI])
abbrev oR:Type:=Bool×List gw×Int
abbrev Po:VF:=.ptr [.d .bool,.own gv,.d yI]
abbrev kX:Ty:=(.struct [d_,d_,yI,yI,.slice aY,.slice aY,.bool,aW,gb,yI,yI,RV,.slice bo,.slice aY,.slice aY,.slice jJ,.slice eB])
abbrev Net:Type:=rN×rN×Int×Int×List dx×List dx×Bool×au×gK×Int×Int×oR×List cB×List dx×List dx×List A7×List fB
abbrev fL:VF:=.ptr [.d d_,.d d_,.d yI,.d yI,.own aY,.own aY,.d .bool,.d aW,.d gb,.d yI,.d yI,Po,.fix 1 bo,.own aY,.own aY,.own jJ,.own eB]
abbrev avV:VF:=.ptr [.d d_,.d d_,.d yI,.d yI,.own aY,.own aY,.d .bool,.d aW,.d gb,.d yI,.d yI,Po,.own bo,.own aY,.own aY,.own jJ,.own eB]
abbrev Net.m(x:Net):au:=x.2.2.2.2.2.2.2.1
abbrev Net.s(x:Net):gK:=x.2.2.2.2.2.2.2.2.1
abbrev Net.r(x:Net):Int:=x.2.2.2.2.2.2.2.2.2.1
abbrev Net.e(x:Net):Int:=x.2.2.2.2.2.2.2.2.2.2.1
abbrev Net.q(x:Net):oR:=x.2.2.2.2.2.2.2.2.2.2.2.1
abbrev Net.n(x:Net):List cB:=x.2.2.2.2.2.2.2.2.2.2.2.2.1
abbrev Net.a(x:Net):List dx:=x.2.2.2.2.2.2.2.2.2.2.2.2.2.1
abbrev Net.b(x:Net):List dx:=x.2.2.2.2.2.2.2.2.2.2.2.2.2.2.1
abbrev Net.o(x:Net):List A7:=x.2.2.2.2.2.2.2.2.2.2.2.2.2.2.2.1
abbrev Net.z(x:Net):List fB:=x.2.2.2.2.2.2.2.2.2.2.2.2.2.2.2.2
def bxX (q:Net) (a b c d e f g h:Nat):iM:=.cH false (dc d_ q.1++dc d_ q.2.1++[vi q.2.2.1,vi q.2.2.2.1,.own a,.own b,vb q.2.2.2.2.2.2.1]++dc aW q.m++dc gb q.s++[vi q.r,vi q.e,.ptr c 0,.own d,.own e,.own f,.own g,.own h])
def bxQ (q:Net) (k:Nat):iM:=.cH false [vb q.q.1,.own k,vi q.q.2.2]
def bxN (q:Net):iM:=.arr false bo q.n
def bxA (q:Net):iM:=.arr false aY q.a
def bxB (q:Net):iM:=.arr false aY q.b
def bxS (q:Net):iM:=.arr false jJ q.o
def bxP (q:Net):iM:=.arr false eB q.z
def bxH (q:Net):iM:=.arr false gv q.q.2.1
def bxC (q:Net):iM:=.arr false aY q.2.2.2.2.1
def bxD (q:Net):iM:=.arr false aY q.2.2.2.2.2.1
abbrev vJ(x:Net)(y:oR):Net:=(x.1,x.2.1,x.2.2.1,x.2.2.2.1,x.2.2.2.2.1,x.2.2.2.2.2.1,x.2.2.2.2.2.2.1,x.m,x.s,x.r,x.e,y,x.2.2.2.2.2.2.2.2.2.2.2.2)
abbrev sC(x:Net)(y:List cB):Net:=(x.1,x.2.1,x.2.2.1,x.2.2.2.1,x.2.2.2.2.1,x.2.2.2.2.2.1,x.2.2.2.2.2.2.1,x.m,x.s,x.r,x.e,x.q,y,x.2.2.2.2.2.2.2.2.2.2.2.2.2)
abbrev Nm(x:Net)(y:List dx):Net:=(x.1,x.2.1,x.2.2.1,x.2.2.2.1,x.2.2.2.2.1,x.2.2.2.2.2.1,x.2.2.2.2.2.2.1,x.m,x.s,x.r,x.e,x.q,x.n,y,x.2.2.2.2.2.2.2.2.2.2.2.2.2.2)
abbrev Nn(x:Net)(y:List dx):Net:=(x.1,x.2.1,x.2.2.1,x.2.2.2.1,x.2.2.2.2.1,x.2.2.2.2.2.1,x.2.2.2.2.2.2.1,x.m,x.s,x.r,x.e,x.q,x.n,x.a,y,x.2.2.2.2.2.2.2.2.2.2.2.2.2.2.2)
abbrev vw(x:Net):Unit×Bool×au×gK×Unit:=((),x.2.2.2.2.2.2.1,x.2.2.2.2.2.2.2.1,x.2.2.2.2.2.2.2.2.1,())
abbrev avW(x:Net)(a:List dx)(b:oR):Net:=(x.1,x.2.1,x.2.2.1,x.2.2.2.1,a,x.2.2.2.2.2.1,x.2.2.2.2.2.2.1,x.m,x.s,x.r,x.e,b,x.n,x.a,x.b,x.o,x.z)
abbrev avX(x:Net)(a:List dx)(b:oR):Net:=(x.1,x.2.1,x.2.2.1,x.2.2.2.1,x.2.2.2.2.1,a,x.2.2.2.2.2.2.1,x.m,x.s,x.r,x.e,b,x.n,x.a,x.b,x.o,x.z)
abbrev avY(x:Net)(a:Int)(b:Int):Net:=(x.1,x.2.1,x.2.2.1,x.2.2.2.1,x.2.2.2.2.1,x.2.2.2.2.2.1,x.2.2.2.2.2.2.1,x.m,x.s,a,b,x.q,x.n,x.a,x.b,x.o,x.z)
abbrev an1(x:Net)(a:Int)(b:oR):Net:=(x.1,x.2.1,x.2.2.1,x.2.2.2.1,x.2.2.2.2.1,x.2.2.2.2.2.1,x.2.2.2.2.2.2.1,x.m,x.s,x.r,a,b,x.n,x.a,x.b,x.o,x.z)
abbrev RR(x:Net)(a:oR)(b:List cB):Net:=(x.1,x.2.1,x.2.2.1,x.2.2.2.1,x.2.2.2.2.1,x.2.2.2.2.2.1,x.2.2.2.2.2.2.1,x.m,x.s,x.r,x.e,a,b,x.a,x.b,x.o,x.z)
abbrev ac7(x:Net)(a:oR)(b:List dx):Net:=(x.1,x.2.1,x.2.2.1,x.2.2.2.1,x.2.2.2.2.1,x.2.2.2.2.2.1,x.2.2.2.2.2.2.1,x.m,x.s,x.r,x.e,a,x.n,b,x.b,x.o,x.z)
abbrev ac8(x:Net)(a:oR)(b:List dx):Net:=(x.1,x.2.1,x.2.2.1,x.2.2.2.1,x.2.2.2.2.1,x.2.2.2.2.2.1,x.2.2.2.2.2.2.1,x.m,x.s,x.r,x.e,a,x.n,x.a,b,x.o,x.z)
abbrev nM(x:Net)(a:List cB)(b:List dx)(c:List dx):Net:=(x.1,x.2.1,x.2.2.1,x.2.2.2.1,x.2.2.2.2.1,x.2.2.2.2.2.1,x.2.2.2.2.2.2.1,x.m,x.s,x.r,x.e,x.q,a,b,c,x.o,x.z)
abbrev ac9(x:Net)(a:List cB)(b:List fB):Net:=(x.1,x.2.1,x.2.2.1,x.2.2.2.1,x.2.2.2.2.1,x.2.2.2.2.2.1,x.2.2.2.2.2.2.1,x.m,x.s,x.r,x.e,x.q,a,x.a,x.b,x.o,b)
abbrev yv(x:Net)(a:List dx)(b:List dx):Net:=(x.1,x.2.1,x.2.2.1,x.2.2.2.1,x.2.2.2.2.1,x.2.2.2.2.2.1,x.2.2.2.2.2.2.1,x.m,x.s,x.r,x.e,x.q,x.n,a,b,x.o,x.z)
abbrev an2(x:Net)(a:List dx)(b:List A7):Net:=(x.1,x.2.1,x.2.2.1,x.2.2.2.1,x.2.2.2.2.1,x.2.2.2.2.2.1,x.2.2.2.2.2.2.1,x.m,x.s,x.r,x.e,x.q,x.n,a,x.b,b,x.z)
abbrev an3(x:Net)(a:List dx)(b:List A7):Net:=(x.1,x.2.1,x.2.2.1,x.2.2.2.1,x.2.2.2.2.1,x.2.2.2.2.2.1,x.2.2.2.2.2.2.1,x.m,x.s,x.r,x.e,x.q,x.n,x.a,a,b,x.z)
abbrev Y6(q:Bool)(x:Net)(a:oR)(b:List dx):Net:=bif q then ac8 x a b else ac7 x a b
abbrev Qj(q:Bool)(x:Net)(a:List dx)(b:List A7):Net:=bif q then an3 x a b else an2 x a b
abbrev ahb(q:Bool)(x:Net)(a:List dx)(b:oR):Net:=bif q then avX x a b else avW x a b
def kI(q:Bool):Int:=bif q then 1 else 0
def mP(q:Bool)(x:Net):rN:=bif q then x.2.1 else x.1
def Un(q:Bool)(x:Net):Int:=bif q then x.2.2.2.1 else x.2.2.1
def pX(q:Bool)(x:Net):List dx:=bif q then x.2.2.2.2.2.1 else x.2.2.2.2.1
def xe(q:Bool)(x:Net):List dx:=bif q then x.b else x.a
abbrev NB(q:Bool)(x:Net)(y:List dx):Net:=bif q then Nn x y else Nm x y
abbrev V4(q:Bool)(x:Net)(y:List dx):Net:=bif q then Fo x y else NC x y
abbrev utG(q:Bool)(x:Net)(y:Int):Net:=bif q then up3 x y else up2 x y
abbrev VT(q:Bool)(x:Net)(y:rN):Net:=bif q then Dq x y else VU x y
def avn(A:aS)(c:Int):LT Bool Empty:=.ret<|A.cm c c
def DX:Int->Bool:=λc=>(avn af c).val<|Ty.aO [.bool]
def auC:aL:=.all [yI] [.bool] DX
def ah4:Sd 289 auC:=fa<|aN ar dK sl 17 [] (λA c=>avn A c)<|kz (fc func289 fz) sz
def agF(A:aS)(f:Int)(c:Int):LT Int Empty:=.br (A.k DX f) (.br (A.k DX c) (.ret 0)<|.ret<|-1)<|.br (A.k DX c) (.ret 1)<|.br (A.bq f c) (.ret<|-1)<|.br (A.jr f c) (.ret 1)<|.ret 0
def Kr:(Int×Int)->Int:=λ(c,f)=>(agF af c f).val<|Ty.aO [yI]
def auw:aL:=.all [yI,yI] [yI] Kr
def ash:Sd 246 auw:=fa<|aN ar dK sl 58 [] (λA (c,f)=>agF A c f)<|kz (fc func246 fz)<|sc ah4 sz
def avj(A:aS)(a:gw)(b:gw):LT Int Empty:=.ret<|A.k N7 [(A.k Kr (a.1,b.1)),A.k rE (a.2.1,b.2.1),A.k rE (a.2.2.1,b.2.2.1),A.k Kr (a.2.2.2,b.2.2.2)]
def SZ:(gw×gw)->Int:=λ(a,b)=>(avj af a b).val<|Ty.aO [yI]
def aut:aL:=.all [gv,gv] [yI] SZ
def asc:Sd 192 aut:=fa<|aN ar dK sl 38 [] (λA (a,b)=>avj A a b)<|kz (fc func192 fz)<|sc abq<|sc abr<|sc ash sz
def avg(A:aS)(a:gw)(b:gw):LT Bool Empty:=.ret<|A.bq (A.k SZ (a,b)) 0
def Kn:(gw×gw)->Bool:=λ(a,b)=>(avg af a b).val<|Ty.aO [.bool]
def aum:aL:=.all [gv,gv] [.bool] Kn
def ah2:Sd 130 aum:=fa<|aN ar dK sl 20 [] (λA (a,b)=>avg A a b)<|kz (fc func130 fz)<|sc asc sz
structure W5 where(a1:Bool)(a2:Int)
inductive ad5 where|c0(p:W5)(a0:Int)(a3:List gw)
noncomputable def akf:ad5->iF
 | .c0 p a0 a3=>⟨[vh 78 54 [(0,pZ 0),(1,vi a0)] f78 10],[gZ [vb p.a1,.own 1,vi p.a2],aZ gv a3,.aU]⟩
def yr(A:aS)(c:Int):Int:=(A.b .quo .i64 (A.f_ c 1) 2)
def agu(A:aS)(q:oR)(i:Int):LT (oR×Unit) ad5:=.ak<|.c0 ⟨q.1,q.2.2⟩ i q.2.1
def aaT(A:aS):ad5->LT (oR×Unit) ad5
 | .c0 p a0 a3=>.br (A.jr a0 0) (.g_ A a0 a3<|.g_ A (yr A a0) a3<|.br (A.k Kn ((A.n gv a3 a0:gw),(A.n gv a3 (yr A a0):gw))) (.g_ A (yr A a0) (A.set a3 a0 (A.n gv a3 (yr A a0):gw))<|.ak<|.c0 p (yr A a0)<|A.set (A.set a3 a0 (A.n gv a3 (yr A a0):gw)) (yr A a0) (A.n gv a3 a0:gw))<|.ret ((p.a1,a3,p.a2),()))<|.ret ((p.a1,a3,p.a2),())
def YR:oR×Int->oR×Unit:=λ(q,i)=>gi (aaT af) (agu af q i) (Ty.aO [RV],Ty.aO [])
def QY:oR×Int->Bool:=λ(q,i)=>gu (aaT af)<|agu af q i
def aqb:cn:=⟨[Po],[yI],[],QY,YR,false,false⟩
def apJ:cn.bp prog 78 aqb:=bV ar dK sl 10 [] [⟨78,0,[[0,1]]⟩] (λA (q,i)=>agu A q i) aaT akf (kz (fc func78 fz) (sc ah2 sz)) (λA y=>match y with |.c0 p f g=>⟨74,.kP [0,0,0,0,2,3,3],by kernel_rfl⟩)<|λ((q,i):oR×Int) c j h=>eO c
structure K5 where(a5:Bool)(a6:Int)
inductive ad4 where|c0(p:K5)(a0 a1 a2 a3 a4:Int)(a7:List gw)
noncomputable def ake:ad4->iF
 | .c0 p a0 a1 a2 a3 a4 c=>⟨[iN 89 74 [(0,pZ 0),(1,vi a0),(4,vi a1),(15,.agg [vi a2,vi a3]),(16,vi a4)] f89 372],[gZ [vb p.a5,.own 1,vi p.a6],aZ gv c,.aU]⟩
def agr(A:aS)(q:oR)(i:Int):LT (oR×Unit) ad4:=.ak<|.c0 ⟨q.1,q.2.2⟩ i i (A.bT (A.b .mul .i64 2 i) 1) (A.bT (A.b .mul .i64 2 i) 2) 0 q.2.1
def JF(A:aS):ad4->LT (oR×Unit) ad4
 | .c0 p a0 a1 a2 a3 a4 c=>.br (A.bq a4 2) (.ao (A.and (A.bQ 0 a4)<|A.bq a4 2)<|.br (A.bq (A.n yI [a2,a3] a4:Int)<|A.l c) (.g_ A (A.n yI [a2,a3] a4:Int) c<|.g_ A a1 c<|.br (A.k Kn ((A.n gv c (A.n yI [a2,a3] a4:Int):gw),(A.n gv c a1:gw))) (.ak<|.c0 p a0 (A.n yI [a2,a3] a4:Int) a2 a3 (A.bT a4 1) c)<|.ak<|.c0 p a0 a1 a2 a3 (A.bT a4 1) c)<|.ak<|.c0 p a0 a1 a2 a3 (A.bT a4 1) c)<|.br (A.cm a1 a0) (.g_ A a1 c<|.g_ A a0 c<|.g_ A a1 (A.set c a0 (A.n gv c a1:gw))<|.ak<|.c0 p a1 a1 (A.bT (A.b .mul .i64 2 a1) 1) (A.bT (A.b .mul .i64 2 a1) 2) 0<|A.set (A.set c a0 (A.n gv c a1:gw)) a1 (A.n gv c a0:gw))<|.ret ((p.a5,c,p.a6),())
def SV:oR×Int->oR×Unit:=λ(q,i)=>gi (JF af) (agr af q i) (Ty.aO [RV],Ty.aO [])
def QW:oR×Int->Bool:=λ(q,i)=>gu (JF af)<|agr af q i
def aqa:cn:=⟨[Po],[yI],[],QW,SV,false,false⟩
def apI:cn.bp prog 89 aqa:=bV ar dK sl 33 [⟨89,3,[[0,1,4,15,16]]⟩] [] (λA (q,i)=>agr A q i) JF ake (kz (fc func89 fz) (sc ah2 sz)) (λA y=>match y with |.c0 p f a1 a2 g j l=>⟨73,.kP [0,0,0,0,0,0,0,0,0,1],by kernel_rfl⟩)<|λ((q,i):oR×Int) c u h=>eO c
def agq(A:aS)(q:oR):LT (oR×Int) Empty:=.br (A.not q.1) (.ret (q,0))<|.ret (q,q.2.2)
def gF:oR×Unit->oR×Int:=λ(q,())=>gi Empty.elim (agq af q) (Ty.aO [RV],Ty.aO [yI])
def nW:oR×Unit->Bool:=λ(q,())=>gu Empty.elim<|agq af q
def apZ:cn:=⟨[Po],[],[yI],nW,gF,false,false⟩
def GZ:cn.bp prog 34 apZ:=bV ar dK sl 44 [] [] (λA (q,())=>agq A q) (λ_=>Empty.elim) Empty.elim (kz (fc func34 (fc func59 fz)) sz) (λ_ y=>y.elim)<|λ((q,()):oR×Unit) c f h=>eO c
def agp(A:aS)(q:oR):LT (oR×Int) Empty:=.br (A.not q.1) (.ret (q,0))<|.ret (q,A.l q.2.1)
def Oa:oR×Unit->oR×Int:=λ(q,())=>gi Empty.elim (agp af q) (Ty.aO [RV],Ty.aO [yI])
def QP:oR×Unit->Bool:=λ(q,())=>gu Empty.elim<|agp af q
def apY:cn:=⟨[Po],[],[yI],QP,Oa,false,false⟩
def apA:cn.bp prog 32 apY:=bV ar dK sl 45 [] [] (λA (q,())=>agp A q) (λ_=>Empty.elim) Empty.elim (kz (fc func32 (fc func59 fz)) sz) (λ_ y=>y.elim)<|λ((q,()):oR×Unit) c f h=>eO c
def agv(A:aS)(q:oR)(e:gw):LT (oR×Int) Empty:=.br (A.not q.1) (.ret (q,1))<|.br (A.bq e.1 q.2.2) (.ret (q,140))<|.br (A.jr e.1 1099511627776) (.ret (q,140))<|.br (A.qE (A.l q.2.1) 16384) (.ret (q,3))<|.ao (A.bQ (A.l<|A.p q.2.1 ([e]:List gw)) 4398046511104)<|.ao (A.k QY (Dq q<|A.p q.2.1 ([e]:List gw),A.f_ (A.l<|A.p q.2.1 ([e]:List gw)) 1))<|.ret ((A.k YR (Dq q<|A.p q.2.1 ([e]:List gw),A.f_ (A.l<|A.p q.2.1 ([e]:List gw)) 1)).1,0)
def wY:oR×gw->oR×Int:=λ(q,e)=>gi Empty.elim (agv af q e) (Ty.aO [RV],Ty.aO [yI])
def QZ:oR×gw->Bool:=λ(q,e)=>gu Empty.elim<|agv af q e
def aqc:cn:=⟨[Po],[gv],[yI],QZ,wY,false,false⟩
def apK:cn.bp prog 82 aqc:=bV ar dK sl 97 [] [] (λA (q,e)=>agv A q e) (λ_=>Empty.elim) Empty.elim ⟨fc func82 (fc func59 fz),sz,oz,iz,(mc apJ mz),pz⟩ (λ_ y=>y.elim)<|λ((q,e):oR×gw) c f h=>eO c
def yh(A:aS)(q:oR):Int:=(A.f_ (A.l q.2.1) 1)
def M6(A:aS)(q:oR):oR×Int:=(Dq q<|A.s (A.set q.2.1 0 (A.n gv q.2.1 (yh A q):gw)) 0<|A.f_ (yh A q) 0,0)
def acb(A:aS)(q:oR):LT (oR×(gw×Int)) Empty:=.br (A.not q.1) (.ret (q,(0,0,0,0),1))<|.br (A.bq (yh A q) 0) (.ret (q,(0,0,0,0),4))<|.g_ A 0 q.2.1<|.g_ A (yh A q) q.2.1<|.ao (A.and (A.bQ 0 0)<|A.and (A.bQ 0<|yh A q)<|A.bQ (yh A q)<|A.l<|A.set q.2.1 0 (A.n gv q.2.1 (yh A q):gw))<|.ao (A.k QW<|M6 A q)<|.ret (lp2 (A.k SV<|M6 A q).1 (A.n gv q.2.1 0:gw).1,(A.n gv q.2.1 0:gw),0)
def zB:oR×Unit->oR×(gw×Int):=λ(q,())=>gi Empty.elim (acb af q) (Ty.aO [RV],Ty.aO [gv,yI])
def QQ:oR×Unit->Bool:=λ(q,())=>gu Empty.elim<|acb af q
def ap3:cn:=⟨[Po],[],[gv,yI],QQ,zB,false,false⟩
def apB:cn.bp prog 60 ap3:=bV ar dK (.kP [0,0,0,0,2]) 115 [⟨60,2000000,[]⟩] [] (λA (q,())=>acb A q) (λ_=>Empty.elim) Empty.elim ⟨fc func60 (fc func59 fz),sz,oz,iz,(mc apI mz),pz⟩ (λ_ y=>y.elim)<|λ((q,()):oR×Unit) c f h=>eO c
def avo(A:aS)(a:Span)(b:Span):LT Bool Empty:=.br (A.bG (A.k Kd a) 0) (.ret<|A.bG (A.k Kd b) 0)<|.ret false
def YX:(Span×Span)->Bool:=λ(a,b)=>(avo af a b).val<|Ty.aO [.bool]
def auD:aL:=.all [jV,jV] [.bool] YX
def ah5:Sd 299 auD:=fa<|aN ar dK sl 24 [] (λA (a,b)=>avo A a b)<|kz (fc func299 fz)<|sc T6 sz
def avl(A:aS)(a:Span)(b:Span):LT Bool Empty:=.br (A.k YX (a,b)) (.br (A.bq a.1 b.2) (.br (A.bq b.1 a.2) (.br (A.bq a.1 a.2) (.ret<|A.bq b.1 b.2)<|.ret false)<|.ret false)<|.ret false)<|.ret false
def YW:(Span×Span)->Bool:=λ(a,b)=>(avl af a b).val<|Ty.aO [.bool]
def auz:aL:=.all [jV,jV] [.bool] YW
def abv:Sd 256 auz:=fa<|aN ar dK sl 47 [] (λA (a,b)=>avl A a b)<|kz (fc func256 fz)<|sc ah5 sz
abbrev aib(A:aS)(a:Span)(b:Span):LT Bool Empty:=(.br (A.k YX (a,b)) (.br (A.qE a.1 b.1) (.ret<|A.bQ a.2 b.2)<|.ret false)<|.ret false)
def avm(A:aS)(a:Span)(b:Span):LT Bool Empty:=.br (A.and (A.bG a.1 b.1)<|A.and (A.bG a.2 b.2) true) (.br (A.bG (A.k Kd a) 0) (.ret true)<|aib A a b)<|aib A a b
def ag9:(Span×Span)->Bool:=λ(a,b)=>(avm af a b).val<|Ty.aO [.bool]
def auA:aL:=.all [jV,jV] [.bool] ag9
def asi:Sd 258 auA:=fa<|aN ar dK sl 43 [] (λA (a,b)=>avm A a b)<|kz (fc func258 fz)<|sc T6<|sc ah5 sz
def avk(A:aS)(s:dx)(c:Int):LT Bool Empty:=.br (A.qE s.2.2.1<|A.mx c 1) (.ret<|A.bG (A.k YB s) 0)<|.ret false
def YV:(dx×Int)->Bool:=λ(s,c)=>(avk af s c).val<|Ty.aO [.bool]
def auy:aL:=.all [aY,yI] [.bool] YV
def abu:Sd 255 auy:=fa<|aN ar dK sl 25 [] (λA (s,c)=>avk A s c)<|kz (fc func255 fz)<|sc ahL sz
def anL(A:aS)(s:dx)(f:Span)(c:Span):LT Bool Empty:=.br (A.k Sy s) (.br (A.k ag9 (s.2.1,f)) (.br (A.bG (A.k Kd c) 0) (.br (A.qE s.2.1.1 c.1) (.ret<|A.bq s.2.1.1 c.2)<|.ret false)<|.ret false)<|.ret false)<|.ret false
def YU:(dx×Span×Span)->Bool:=λ(s,f,c)=>(anL af s f c).val<|Ty.aO [.bool]
def auu:aL:=.all [aY,jV,jV] [.bool] YU
def ase:Sd 202 auu:=fa<|aN ar dK sl 46 [] (λA (s,f,c)=>anL A s f c)<|kz (fc func202 fz)<|sc abj<|sc T6<|sc asi sz
structure Xi where(a0:Int)(a2:List dx)(a3 a4 a5 a6 a7 a8 a9 mA pH a12 FD Nv Nw a16 a17:Int)
inductive aec where|c0(p:Xi)(a1 a21 a22:Int)
noncomputable def akm:aec->iF
 | .c0 p a1 a21 a22=>⟨[iN 254 30 [(0,.yield 1),(2,pZ 2),(3,pZ 3),(7,.own 0),(8,vi p.a0),(9,vi a1)] f254 12,⟨142,56,en [(0,.own 0),(5,pZ 4),(6,pZ 5),(8,pZ 6),(9,pZ 7),(10,pZ 8)],[.oA 1,.inBlock 0,.code<|cw f142 15],[9],none⟩],[aZ aY p.a2,.loop ⟨142,56,en [(0,.own 0),(1,.agg [vi p.a3,vi p.a4]),(2,.agg [vi p.a5,vi p.a6]),(3,vi p.a7),(5,pZ 4),(6,pZ 5),(8,pZ 6),(9,pZ 7),(10,pZ 8),(13,.own 0),(14,.agg [vi p.a8,vi p.a9]),(15,vi p.mA),(16,.fn 254 [] [pZ 10,pZ 2,pZ 3])],[17],cw f142 116,cw f142 117,0,none⟩,vZ p.pH,gZ [vi p.a12,vi p.FD],gZ [vi p.Nv,vi p.Nw],gZ [vi p.a16,vi p.a17],gZ [vi 0,vi 0,vi 0,.eT true],vZ a21,vZ a22,.FU,gZ [.own 0],.aU]⟩
def acz(A:aS)(l:List dx)(f:Span)(g:Span)(c:Int):LT (List dx×Seen) aec:=.ak<|.c0 ⟨A.l l,l,f.1,f.2,g.1,g.2,c,f.1,f.2,c,c,f.1,f.2,f.1,f.2,g.1,g.2⟩ 0 0 0
def JH(A:aS):aec->LT (List dx×Seen) aec
 | .c0 p a1 a21 a22=>.br (A.bq a1 p.a0) (.g_ A a1 p.a2<|.br (A.k YV ((A.n aY p.a2 a1:dx),p.pH)) (.br (A.k YW ((A.n aY p.a2 a1:dx).2.1,p.a12,p.FD)) (.br (A.bG (A.bT a21 1) 1) (.ak<|.c0 p (A.bT a1 1) (A.bT a21 1) a1)<|.ak<|.c0 p (A.bT a1 1) (A.bT a21 1) a22)<|.ak<|.c0 p (A.bT a1 1) a21 a22)<|.ak<|.c0 p (A.bT a1 1) a21 a22)<|.br (A.bG a21 0) (.ret (p.a2,0,0,0,([]:List Int)))<|.br (A.bG a21 1) (.g_ A a22 p.a2<|.br (A.k YU ((A.n aY p.a2 a22:dx),(p.Nv,p.Nw),p.a16,p.a17)) (.ret (p.a2,2,(A.n aY p.a2 a22:dx).2.1.1,(A.n aY p.a2 a22:dx).2.2.2.1,A.k nQ (A.n aY p.a2 a22:dx).2.2.2.2))<|.ret (p.a2,1,0,0,([]:List Int)))<|.ret (p.a2,1,0,0,([]:List Int))
def rW:List dx×(Span×Span×Int)->List dx×Seen:=λ(l,(g,f,c))=>gi (JH af) (acz af l g f c) ([],Ty.aO [pV])
def CX:List dx×(Span×Span×Int)->Bool:=λ(l,(g,f,c))=>gu (JH af) (acz af l g f c)&&decide ((rW (l,(g,f,c))).1.length=l.length)
def apj:fH:=⟨aY,[jV,jV,yI],[],[pV],CX,rW,false⟩
def ahh:fH.bp prog 142 apj:=fA ar dK sl 50 [⟨254,1,[[0,2,3,7,8,9],[0,5,6,8,9,10]]⟩] [] (λA (l,(g,f,c))=>acz A l g f c) JH akm (kz (fc func142 (fc func201 (fc func254 fz))) (sc Ea (sc ase (sc abu (sc abv sz))))) (λA y=>match y with |.c0 p a1 j u=>⟨72,.kP [0,0,0,0,0,0,0,0,0,2],by kernel_rfl⟩) λ((l,(g,f,c)):List dx×(Span×Span×Int)) i v h=>⟨of_decide_eq_true ((eH _ _).mp i).2,Fh i⟩
def agB(A:aS)(l:List Int)(ak:Int):LT (List Int) Empty:=.ao (A.and (A.bG (A.l l)<|A.bT (A.l l) ak)<|A.and (A.bQ 0<|A.l l)<|A.bQ (A.l l) 17592186044416)<|.ret<|A.spl (A.r (A.l l) (0:Int)) 0<|A.s l 0<|A.mn (A.l l)<|A.l<|A.r (A.l l) (0:Int)
def YS:(List Int×Int)->(List Int):=λ(l,ak)=>gi Empty.elim (agB af l ak)<|Ty.aO [Ce]
def aau:(List Int×Int)->Bool:=λ(l,ak)=>gu Empty.elim<|agB af l ak
def aur:aL:=⟨[Ce,yI],[Ce],aau,YS,false⟩
def asb:Sd 159 aur:=cK ar dK sl 32 [] (λA (l,ak)=>agB A l ak) (kz (fc func159 fz) sz) λ((l,ak):List Int×Int) c h=>eO c
def avi(A:aS)(m:au)(c:rh):LT (Int×Int) Empty:=.br (A.cm (A.k wW (m,c)) 0) (.ret (0,A.k wW (m,c)))<|.ret (A.bT c.1 m.2.2.1,0)
def DW:(au×rh)->(Int×Int):=λ(m,c)=>(avi af m c).val<|Ty.aO [yI,yI]
def aus:aL:=.all [aW,yA] [yI,yI] DW
def ah3:Sd 164 aus:=fa<|aN ar dK sl 38 [] (λA (m,c)=>avi A m c)<|kz (fc func164 fz)<|sc T4 sz
def avh(A:aS)(m:au)(c:rh):LT (Span×Int) Empty:=.br (A.cm (A.k wW (m,c)) 0) (.ret ((0,0),A.k wW (m,c)))<|.ret ((c.1,A.bT c.1 m.2.1),0)
def Ko:(au×rh)->(Span×Int):=λ(m,c)=>(avh af m c).val<|Ty.aO [jV,yI]
def auo:aL:=.all [aW,yA] [jV,yI] Ko
def ar9:Sd 152 auo:=fa<|aN ar dK sl 41 [] (λA (m,c)=>avh A m c)<|kz (fc func152 fz)<|sc T4 sz
def Ni(A:aS)(m:au)(c:rh)(f:Int):List Int:=(A.p (A.spl (A.r (A.l c.2.2) (0:Int)) 0<|A.s c.2.2 0<|A.mn (A.l c.2.2)<|A.l<|A.r (A.l c.2.2) (0:Int)) [(A.f_ f<|A.k NV (m,c))])
def acB(A:aS)(m:au)(c:rh)(f:Int):LT (rh×Int) Empty:=.br (A.cm (A.k xJ (m,c)).2 0) (.ret ((0,0,([]:List Int)),(A.k xJ (m,c)).2))<|.br (A.bG (A.l c.2.2) 8) (.ret ((0,0,([]:List Int)),2))<|.br (A.bq f (A.k xJ (m,c)).1.1) (.ret ((0,0,([]:List Int)),2))<|.br (A.qE f (A.k xJ (m,c)).1.2) (.ret ((0,0,([]:List Int)),2))<|.ao (A.and (A.bQ (A.l c.2.2)<|A.bT (A.l c.2.2) 1)<|A.and (A.bQ 0<|A.l c.2.2)<|A.bQ (A.bT (A.l c.2.2) 1) 17592186044416)<|.ao (A.bQ (A.l<|Ni A m c f) 17592186044416)<|.ret (lp2 c<|Ni A m c f,0)
def wZ:(au×rh×Int)->(rh×Int):=λ(m,c,f)=>gi Empty.elim (acB af m c f)<|Ty.aO [yA,yI]
def Hr:(au×rh×Int)->Bool:=λ(m,c,f)=>gu Empty.elim<|acB af m c f
def aup:aL:=⟨[aW,yA,yI],[yA,yI],Hr,wZ,false⟩
def ar_:Sd 155 aup:=bE ar dK sl 105 [⟨159,2000000,[]⟩] [] (λA (m,c,f)=>acB A m c f) (λ_=>Empty.elim) Empty.elim (kz (fc func155 (fc func159 fz)) (sc abe (sc ahG sz))) (λ_ y=>y.elim) λ((m,c,f):au×rh×Int) g h=>eO g
structure ajg where(a0:List Int)(a1 a3:Int)
inductive aeh where|c0(p:ajg)(a2:Int)
noncomputable def akr:aeh->iF
 | .c0 p a2=>⟨[iN 272 19 [(0,.sl yI p.a0),(1,.fn 322 [] [pZ 0]),(7,vi p.a1),(8,vi a2)] f272 52,⟨219,9,.leaf,[.ops (ow f219 6)<|(ow f219 6).toList.drop 2,.code .ret],[],none⟩,⟨307,8,.leaf,[.ops (ow f307 6)<|(ow f307 6).toList.drop 2,.code .ret],[],none⟩],[vZ p.a3,.aU]⟩
def agG(A:aS)(l:List Int)(bound:Int):LT Bool aeh:=.ak<|.c0 ⟨l,A.l l,bound⟩ 0
def Vu(A:aS):aeh->LT Bool aeh
 | .c0 p a2=>.br (A.bq a2 p.a1) (.g_ A a2 p.a0<|.br (A.bq (A.n yI p.a0 a2:Int)<|A.u .neg .i64 p.a3) (.ret<|A.qE a2 0)<|.br (A.jr (A.n yI p.a0 a2:Int) p.a3) (.ret<|A.qE a2 0)<|.ak<|.c0 p<|A.bT a2 1)<|.ret false
def YY:(List Int×Int)->Bool:=λ(l,bound)=>gi (Vu af) (agG af l bound)<|Ty.aO [.bool]
def Rb:(List Int×Int)->Bool:=λ(l,bound)=>gu (Vu af)<|agG af l bound
def auE:aL:=⟨[Ce,yI],[.bool],Rb,YY,false⟩
def asl:Sd 307 auE:=bE ar dK sl 38 [⟨272,2,[[0,1,7,8],[],[]]⟩] [] (λA (l,bound)=>agG A l bound) Vu akr (kz (fc func307 (fc func219 (fc func272 (fc func322 (fc func323 fz))))) sz) (λA y=>match y with |.c0 p a2=>⟨72,sl,by kernel_rfl⟩) λ((l,bound):List Int×Int) c h=>eO c
structure aiQ where(a0 a1:Int)
inductive adP where|c0(p:aiQ)
noncomputable def ajY:adP->iF
 | .c0 p=>⟨[fRZ 244 25 [(0,.int .u64 false p.a0),(2,vi p.a1)] [.code<|cw f244 62,.code .ret],⟨189,8,.leaf,[.ops (ow f189 14)<|(ow f189 14).toList.drop 1,.code .ret],[],none⟩],[.aU]⟩
def anD(A:aS)(c:Int):LT Int adP:=.br (A.qE c 4294967296) (.br (A.qE (A.b .shr .u64 c 32) 65536) (.br (A.qE (A.b .shr .u64 (A.b .shr .u64 c 32) 16) 256) (.ak<|.c0 ⟨A.b .shr .u64 (A.b .shr .u64 (A.b .shr .u64 c 32) 16) 8,56⟩)<|.ak<|.c0 ⟨A.b .shr .u64 (A.b .shr .u64 c 32) 16,48⟩)<|.br (A.qE (A.b .shr .u64 c 32) 256) (.ak<|.c0 ⟨A.b .shr .u64 (A.b .shr .u64 c 32) 8,40⟩)<|.ak<|.c0 ⟨A.b .shr .u64 c 32,32⟩)<|.br (A.qE c 65536) (.br (A.qE (A.b .shr .u64 c 16) 256) (.ak<|.c0 ⟨A.b .shr .u64 (A.b .shr .u64 c 16) 8,24⟩)<|.ak<|.c0 ⟨A.b .shr .u64 c 16,16⟩)<|.br (A.qE c 256) (.ak<|.c0 ⟨A.b .shr .u64 c 8,8⟩)<|.ak<|.c0 ⟨c,0⟩
abbrev t8L:List UInt8:=[0,1,2,2,3,3,3,3]++.replicate 8 4++.replicate 16 5++.replicate 32 6++.replicate 64 7++.replicate 128 8
def ami(A:aS):adP->LT Int adP
 | .c0 p=>.g_ A (A.v .u8 p.a0) t8L<|.ret<|A.bT p.a1<|A.v .i64<|A.byte t8L<|A.v .u8 p.a0
def ag8:Int->Int:=λc=>gi (ami af) (anD af c)<|Ty.aO [yI]
def L_:Int->Bool:=λc=>gu (ami af)<|anD af c
def at7:aL:=⟨[(.int .u64)],[yI],L_,ag8,false⟩
def ar0:Sd 189 at7:=bE ar dK sl 74 [] [⟨244,10,[[0,2],[]]⟩] (λA c=>anD A c) ami ajY (kz (fc func189 (fc func244 fz)) sz) (λA y=>match y with |.c0 p=>⟨17,sl,by kernel_rfl⟩) λ(c:Int) f h=>eO f
structure aje where(a1 a2:Int)(a5:List Int)
structure PI where(b1 b2:Int)(b3:List Int)
structure ajf where(c1 c2:Int)
inductive aeg where|c0(p:aje)|c1(p:PI)|c2(p:ajf)(c3:Int)(c4:List Int)
noncomputable def akq:aeg->iF
 | .c0 p=>⟨[iN 324 134 [(0,.own 0),(1,vi 0),(2,vi p.a1),(3,vi p.a2),(8,vb true),(9,vb true)] f324 28,⟨308,11,.leaf,[.ops (ow f308 3)<|(ow f308 3).toList.drop 5],[],none⟩,Jr 271 38 [(5,.own 0)] f271 62 1],[aZ yI p.a5,.aU]⟩
 | .c1 p=>⟨[iN 329 49 [(0,.own 0),(1,vi 0),(2,vi p.b1),(6,vi p.b2)] f329 12,⟨324,134,.leaf,(.ops (ow f324 1812) ((ow f324 1812).toList.drop 3)::sk f324 1812),[],none⟩,⟨308,11,.leaf,[.ops (ow f308 3)<|(ow f308 3).toList.drop 5],[],none⟩,Jr 271 38 [(5,.own 0)] f271 62 1],[aZ yI p.b3,.aU]⟩
 | .c2 p c3 c4=>⟨[iN 329 49 [(0,.own 0),(1,vi 0),(2,vi p.c1),(6,vi p.c2),(7,vi c3)] f329 804,⟨324,134,.leaf,(.ops (ow f324 1812) ((ow f324 1812).toList.drop 3)::sk f324 1812),[],none⟩,⟨308,11,.leaf,[.ops (ow f308 3)<|(ow f308 3).toList.drop 5],[],none⟩,Jr 271 38 [(5,.own 0)] f271 62 1],[aZ yI c4,.aU]⟩
def IZ(A:aS)(l:List Int):List Int:=(A.spl (A.r (A.l l) (0:Int)) 0<|A.s l 0<|A.mn (A.l l)<|A.l<|A.r (A.l l) (0:Int))
def AR(A:aS)(p:PI):Int:=(A.f_ (A.l p.b3) 1)
def Dn(A:aS)(p:PI):Int:=(A.f_ (AR A p) 1)
def Nk(A:aS)(c3:Int)(c4:List Int):Bool:=(A.and (A.bQ 0<|A.f_ c3 1)<|A.bq (A.f_ c3 1)<|A.l<|A.set c4 c3 (A.n yI c4 (A.f_ c3 1):Int))
def Nl(A:aS)(c3:Int)(c4:List Int):List Int:=(A.set (A.set c4 c3 (A.n yI c4 (A.f_ c3 1):Int)) (A.f_ c3 1) (A.n yI c4 c3:Int))
def acE(A:aS)(l:List Int):LT (Int×Int×Int) aeg:=.br (A.bG (A.l l) 0) (.ret (0,0,4))<|.ao (A.k Rb (l,1099511627776))<|.br (A.k YY (l,1099511627776)) (.ret (0,0,80))<|.ao (A.and (A.bG (A.l l)<|A.l l)<|A.and (A.bQ 0<|A.l l)<|A.bQ (A.l l) 17592186044416)<|.ao (A.k L_<|A.v .u64<|A.l<|IZ A l)<|.ak<|.c0 ⟨A.l<|IZ A l,A.k ag8<|A.v .u64<|A.l<|IZ A l,IZ A l⟩
def MJ(A:aS):aeg->LT (Int×Int×Int) aeg
 | .c0 p=>.br (A.bQ (A.f_ p.a1 0) 12) (.ak<|.c1 ⟨p.a1,A.bT 0 1,p.a5⟩)<|.br (A.bG p.a2 0) (.bU 163 "zsortordered.go:81")<|.br (A.not true) (.bU 163 "zsortordered.go:87")<|.bU 163 "zsortordered.go:91"
 | .c1 p=>.br (A.bq p.b2 p.b1) (.ak<|.c2 ⟨p.b1,p.b2⟩ p.b2 p.b3)<|.br (A.qE (A.l p.b3) 4) (.ao (A.and (A.bQ 0 1)<|A.and (A.bQ 1<|AR A p)<|A.bQ (AR A p)<|A.l p.b3)<|.ao (A.and (A.bQ 0 0)<|A.bq 0<|Dn A p)<|.ao (A.and (A.bQ 0<|A.f_ (Dn A p) 1)<|A.bq (A.f_ (Dn A p) 1)<|Dn A p)<|.ret ((A.n yI p.b3 (A.bT 1 0):Int),(A.n yI p.b3 (A.bT 1<|A.f_ (Dn A p) 1):Int),0))<|.g_ A 0 p.b3<|.g_ A (AR A p) p.b3<|.ret ((A.n yI p.b3 0:Int),(A.n yI p.b3 (AR A p):Int),0)
 | .c2 p c3 c4=>.br (A.jr c3 0) (.g_ A c3 c4<|.g_ A (A.f_ c3 1) c4<|.br (A.k DX (A.n yI c4 c3:Int)) (.br (A.not<|A.k DX (A.n yI c4 (A.f_ c3 1):Int)) (.ao (Nk A c3 c4)<|.ak<|.c2 p (A.f_ c3 1)<|Nl A c3 c4)<|.br (A.bq (A.n yI c4 c3:Int) (A.n yI c4 (A.f_ c3 1):Int)) (.ao (Nk A c3 c4)<|.ak<|.c2 p (A.f_ c3 1)<|Nl A c3 c4)<|.ak<|.c1 ⟨p.c1,A.bT p.c2 1,c4⟩)<|.br (A.bq (A.n yI c4 c3:Int) (A.n yI c4 (A.f_ c3 1):Int)) (.ao (Nk A c3 c4)<|.ak<|.c2 p (A.f_ c3 1)<|Nl A c3 c4)<|.ak<|.c1 ⟨p.c1,A.bT p.c2 1,c4⟩)<|.ak<|.c1 ⟨p.c1,A.bT p.c2 1,c4⟩
def Bs:(List Int)->(Int×Int×Int):=λl=>gi (MJ af) (acE af l)<|Ty.aO [yI,yI,yI]
def Ra:(List Int)->Bool:=λl=>gu (MJ af)<|acE af l
def auB:aL:=⟨[Ce],[yI,yI,yI],Ra,Bs,false⟩
def asj:Sd 271 auB:=bE ar dK sl 71 [⟨324,2,[[0,1,2,3,8,9],[],[5]]⟩,⟨329,1,[[0,1,2,6],[],[],[5]]⟩,⟨329,4,[[0,1,2,6,7],[],[],[5]]⟩] [] (λA l=>acE A l) MJ akq (kz (fc func271 (fc func308 (fc func324 (fc func329 (fc func335 fz))))) (sc ar0 (sc ah4 (sc asl sz)))) (λA y=>match y with |.c0 p=>⟨43,sl,by kernel_rfl⟩|.c1 p=>⟨52,sl,by kernel_rfl⟩|.c2 p c3 c4=>⟨76,.kP [0,0,0,0,0,3,4,4,0,0,4,5,5,0,0,3,4,4],by kernel_rfl⟩) λ(l:List Int) c h=>eO c
def agE(A:aS)(l:List Int):LT (Int×Int) Empty:=.ao (A.k Ra l)<|.ret (A.b .shr .i64 (A.bT (A.k Bs l).1 (A.k Bs l).2.1) 1,(A.k Bs l).2.2)
def Oe:(List Int)->(Int×Int):=λl=>gi Empty.elim (agE af l)<|Ty.aO [yI,yI]
def Q_:(List Int)->Bool:=λl=>gu Empty.elim<|agE af l
def auv:aL:=⟨[Ce],[yI,yI],Q_,Oe,false⟩
def asf:Sd 218 auv:=cK ar dK sl 33 [] (λA l=>agE A l) (kz (fc func218 fz) (sc asj sz)) λ(l:List Int) c h=>eO c
def IW(A:aS)(c:rh):List Int:=(A.p (A.spl (A.r (A.l c.2.2) (0:Int)) 0<|A.s c.2.2 0<|A.mn (A.l c.2.2)<|A.l<|A.r (A.l c.2.2) (0:Int)) ([0]:List Int))
def acC(A:aS)(m:au)(c:rh):LT (Int×Int) Empty:=.br (A.cm (A.k wW (m,c)) 0) (.ret (0,A.k wW (m,c)))<|.ao (A.and (A.bQ (A.l c.2.2)<|A.bT (A.l c.2.2) 1)<|A.and (A.bQ 0<|A.l c.2.2)<|A.bQ (A.bT (A.l c.2.2) 1) 17592186044416)<|.ao (A.bQ (A.l<|IW A c) 17592186044416)<|.ao (A.k Q_<|IW A c)<|.ret<|A.k Oe<|IW A c
def w6:(au×rh)->(Int×Int):=λ(m,c)=>gi Empty.elim (acC af m c)<|Ty.aO [yI,yI]
def Q8:(au×rh)->Bool:=λ(m,c)=>gu Empty.elim<|acC af m c
def auq:aL:=⟨[aW,yA],[yI,yI],Q8,w6,false⟩
def asa:Sd 158 auq:=bE ar dK sl 68 [⟨159,2000000,[]⟩] [] (λA (m,c)=>acC A m c) (λ_=>Empty.elim) Empty.elim (kz (fc func158 (fc func159 fz)) (sc T4 (sc asf sz))) (λ_ y=>y.elim) λ((m,c):au×rh) f h=>eO f
def IP:rh:=(0,0,([]:List Int))
def ags(A:aS)(m:au)(c:rh)(f:Int):LT (rh×Int) Empty:=.ao (A.k Q8 (m,c))<|.br (A.cm (A.k w6 (m,c)).2 0) (.ret (IP,(A.k w6 (m,c)).2))<|.br (A.bq f<|A.u .neg .i64 m.2.2.2.2.1) (.ret (IP,2))<|.br (A.jr f m.2.2.2.2.1) (.ret (IP,2))<|.ao (A.cm m.1 0)<|.br (A.bG (A.b .rem .i64 (A.bT c.2.1 1) m.1) 0) (.br (A.not<|A.k Gb (m,A.bT (A.bT c.1<|A.bT m.2.1 f) (A.k w6 (m,c)).1,A.bT c.2.1 1,([]:List Int))) (.ret (IP,130))<|.ret ((A.bT (A.bT c.1<|A.bT m.2.1 f) (A.k w6 (m,c)).1,A.bT c.2.1 1,([]:List Int)),0))<|.ao (A.k aau (c.2.2,0))<|.br (A.not<|A.k Gb (m,A.bT c.1<|A.bT m.2.1 f,A.bT c.2.1 1,A.k YS (c.2.2,0))) (.ret (IP,130))<|.ret ((A.bT c.1<|A.bT m.2.1 f,A.bT c.2.1 1,A.k YS (c.2.2,0)),0)
def Kk:(au×rh×Int)->(rh×Int):=λ(m,c,f)=>gi Empty.elim (ags af m c f)<|Ty.aO [yA,yI]
def QX:(au×rh×Int)->Bool:=λ(m,c,f)=>gu Empty.elim<|ags af m c f
def auk:aL:=⟨[aW,yA,yI],[yA,yI],QX,Kk,false⟩
def ar7:Sd 103 auk:=cK ar dK sl 102 [] (λA (m,c,f)=>ags A m c f) (kz (fc func103 fz) (sc abi (sc asa (sc asb sz)))) λ((m,c,f):au×rh×Int) g h=>eO g
def vf:List Int:=([]:List Int)
abbrev acA(A:aS)(m:au)(c:Int):LT (rh×Int) Empty:=(.br (A.not<|A.k Gb (m,-1,c,vf)) (.ret ((0,0,vf),130))<|.ret ((-1,c,vf),0))
def agA(A:aS)(m:au)(f:Int)(c:Int):LT (rh×Int) Empty:=.br (A.cm (A.k iR m) 0) (.ret ((0,0,vf),A.k iR m))<|.br (A.bq c 0) (.ret ((0,0,vf),2))<|.br (A.qE c m.1) (.ret ((0,0,vf),2))<|.br (A.qE f 0) (.br (A.bQ f 1099511627776) (.br (A.not<|A.k Gb (m,A.f_ f<|A.bT m.2.2.1 m.2.2.2.2.2.1,c,vf)) (.ret ((0,0,vf),130))<|.ret ((A.f_ f<|A.bT m.2.2.1 m.2.2.2.2.2.1,c,vf),0))<|acA A m c)<|acA A m c
def rF:(au×Int×Int)->(rh×Int):=λ(m,c,f)=>(agA af m c f).val<|Ty.aO [yA,yI]
def aun:aL:=.all [aW,yI,yI] [yA,yI] rF
def ar8:Sd 143 aun:=fa<|aN ar dK sl 85 [] (λA (m,c,f)=>agA A m c f)<|kz (fc func143 fz)<|sc yd<|sc abi sz
abbrev aia(A:aS)(s:gK)(c:Int)(f:Int)(node:Int):=(A.b .rem .i64 (A.bT (A.b .mul .i64 f c) node)<|A.l s.2.2.2.2.2.1)
def agt(A:aS)(s:gK)(c:Int)(f:Int)(node:Int):LT Int Empty:=.br (A.bG (A.l s.2.2.2.2.2.1) 0) (.ret 0)<|.br (A.bq f 0) (.ret 0)<|.br (A.bq node 0) (.ret 0)<|.br (A.bq c 1) (.ret 0)<|.br (A.jr (A.mx (A.mx f node) c) 1048576) (.ret 0)<|.qj A s.2.2.2.2.2.1<|.g_ A (aia A s c f node) s.2.2.2.2.2.1<|.ret (A.n yI s.2.2.2.2.2.1 (aia A s c f node):Int)
def zC:(gK×Int×Int×Int)->Int:=λ(s,c,f,node)=>gi Empty.elim (agt af s c f node)<|Ty.aO [yI]
def Mj:(gK×Int×Int×Int)->Bool:=λ(s,c,f,node)=>gu Empty.elim<|agt af s c f node
def aul:aL:=⟨[gb,yI,yI,yI],[yI],Mj,zC,false⟩
def ah1:Sd 104 aul:=cK ar dK sl 57 [] (λA (s,c,f,node)=>agt A s c f node) (kz (fc func104 fz) sz) λ((s,c,f,node):gK×Int×Int×Int) g h=>eO g
end
end Go.Ev.M
