/- PROVED: what functions compute, 2. Conditions: none. -/
import Derived.Test.YtdmeijjlkmmifaaGreatM1
import Derived.Shelf.SlicesE.Clone
import Derived.Shelf.SlSortCmp.NoneTotal
set_option linter.unusedVariables false
set_option linter.defProp false
set_option linter.unusedSimpArgs false
namespace Go.Ev.M
open Go.Proofs Go.Proofs.Tryz
set_option maxRecDepth 100000
open Go.Ev.Pl
noncomputable section
abbrev iP(m:aA):Int:=(m.2.2.2.2.2.2.2.length:Int)
variable{c:fB}
theorem xr{k:Int}(h:sC (c,k)=0):(4<=k/\k<=8)/\(0<=c.1/\c.1<=255)/\(0<=c.2.1/\c.2.1<=k-1)/\(0<=c.2.2.1/\c.2.2.1<=3)/\(0<=c.2.2.2.1/\c.2.2.2.1<=4)/\(0<=c.2.2.2.2/\c.2.2.2.2<=2^k.toNat-1):=by
 rw[sC] at h;cases h1:decide (k<4)||decide (8<k)
 all_goals grind
def jE(m:aA)(c:fB):Bool:=decide (sC (c,m.1)=0)&&(decide (c.2.2.1<iP m)&&decide (c.2.2.2.1<=iP m))
def nX(m:aA)(c:fB):Int:=bif dP m then(bif jE m c then 0 else 40) else 70
variable{m:aA}
theorem yx(h:nX m c=0):dP m=true/\sC (c,m.1)=0/\(0<=c.2.2.1/\c.2.2.1<iP m)/\c.2.2.2.1<=iP m:=by
 unfold nX at h;cases hm:dP m
 .simp_all
 .cases hf:jE m c
  .simp_all
  .simp[jE,fZ,uR] at hf;exact⟨rfl,hf.1,⟨(xr hf.1).d.1,hf.2.1⟩,hf.2.2⟩
def YE(h:dP m=true)(f:jE m c=true):nX m c=0:=by rw[nX,h,f];rfl
theorem iW(h:dP m=true):(4<=m.1/\m.1<=8)/\(1<=iP m/\iP m<=4)/\(m.2.2.2.2.2.2.1.length:Int)=m.1/\m.2.2.2.2.2.2.2.all (pH m)=true:=by
 have:=aaY h
 simp_all
variable{i:Int}
theorem BJ(h:dP m=true)(f:0<=i)(g:i<iP m):pH m (af.n eT m.2.2.2.2.2.2.2 i:Mode)=true:=by
 obtain⟨k,rfl⟩:∃k:Nat,i=k:=⟨i.toNat,by omega⟩;have c:k<m.G.length:=by simp_all
 rw[show(af.n eT m.G (k:Int):Mode)=m.G[k] from eO c _];exact cd.1 (iW h).C _<|cZ c
theorem vG{x:Mode}(h:pH m x=true):(x.1.length:Int)=m.1/\(x.2.1.length:Int)=m.1/\(x.2.2.length:Int)=iP m:=by
 simp only[pH] at h
 simp_all
variable{α:Type}
theorem yK{l:List α}(c:0<=i)(f:i<(l.length:Int)):af.and (af.bE 0 i) (af.bo i<|af.l l)=true:=by
 rw[dW,aB,bi,bu];simp_all
variable{x:Int}
def JF(h:x=0):af.cm x 0=false:=by rw[h];rfl
theorem xv(h:¬x=0):af.cm x 0=true:=by rw[bZ];simp_all
theorem apB(h:¬x=0):af.bq x 0=false:=by rw[bg];simp_all
def YO(h:x=0):af.bq x 0=true:=by rw[h];rfl
def awR(A:aS)(m:aA)(c:fB):LT Bool Empty:=.br (A.bq (A.k aye (c,m.1)) 0) (.br (A.bo c.2.2.1<|A.l m.2.2.2.2.2.2.2) (.ret<|A.bE c.2.2.2.1<|A.l m.2.2.2.2.2.2.2)<|.ret false)<|.ret false
theorem apW:aV Empty.elim (awR af m c)<|jE m c:=by
 unfold awR;by_cases h:sC (c,m.1)=0
 .rw[jE,cr h];refine(ar<|YO h).2 (bl (p:=c.c<iP m) rfl (λf=>?_) λf=>?_)
  .exact aT (by rw[cr f];rfl)<|.ret _
  .exact aT (by grind)<|.ret _
 .rw[jE,gw h];exact(ap<|apB h).2 (.ret _)
def awT(A:aS)(m:aA)(c:fB):LT Bool Empty:=.br (A.bq (A.k xM (c,m.1)) 0) (.br (A.bo c.2.2.1<|A.l m.2.2.2.2.2.2.2) (.ret<|A.bE c.2.2.2.1<|A.l m.2.2.2.2.2.2.2)<|.ret false)<|.ret false
def am9:aV Empty.elim (awT af m c)<|jE m c:=apW
def TU:(aA×fB)->Bool:=λ(m,c)=>jE m c
def au1:aK:=.all [bD,iB] [.bool] TU
def aiC:Sd 183 au1:=fa<|bX ax dJ sl 37 [] (λA (m,c)=>awT A m c) (kz (fc func183 fz) (sc Nq sz)) λ(m,c) f h=>am9
def aoM(A:aS)(m:aA)(n:Int):LT Bool Empty:=.br (A.ov n 0) (.ret<|A.bo n<|A.l m.2.2.2.2.2.2.2)<|.ret false
def isF(m:aA)(n:Int):Bool:=decide<|0<=n/\n<iP m
theorem is1{n:Int}:aV Empty.elim (aoM af m n)<|isF m n:=by
 unfold aoM isF;refine bl (p:=0<=n) rfl (λh=>?_) λh=>?_
 .exact aT (by rw[iQ,dW,bi];simp_all)<|.ret _
 .exact aT (gw<|by omega).symm<|.ret _
def KC:(aA×Int)->Bool:=λ(m,c)=>isF m c
def avs:aK:=.all [bD,yI] [.bool] KC
def acJ:Sd 312 avs:=fa<|bX ax dJ sl 24 [] (λA (m,n)=>aoM A m n) (kz (fc func312 fz) sz) λ(m,n) c h=>is1
def aoK(A:aS)(m:aA)(c:fB):LT Int Empty:=.br (A.cm (A.k jN m) 0) (.ret<|A.k jN m)<|.br (A.cm (A.k xM (c,m.1)) 0) (.ret 40)<|.br (A.not<|A.k KC (m,c.2.2.1)) (.ret 40)<|.br (A.jD c.2.2.2.1<|A.l m.2.2.2.2.2.2.2) (.ret 40)<|.ret 0
theorem apt:aV Empty.elim (aoK af m c)<|nX m c:=by
 unfold aoK nX;rw[show af.k jN m=qH m from rfl,qH];cases hm:dP m
 .exact(ar rfl).2 (.ret _)
 refine(ap rfl).2 (?_);by_cases h:sC (c,m.1)=0
 .have g:=(xr h).d.1;rw[jE,cr h];refine(ap<|JF h).2 (?_);rw[show af.k KC (m,c.c)=decide (0<=c.c/\c.c<iP m) from rfl];by_cases f:c.c<iP m
  .rw[cr<|show 0<=c.c/\c.c<iP m from⟨g,f⟩,cr f];refine(ap rfl).2 (bl (p:=iP m<c.d) rfl (λi=>?_) λi=>?_)
   .exact aT (by grind)<|.ret _
   .exact aT (by simp_all)<|.ret _
  .rw[gw<|show ¬(0<=c.c/\c.c<iP m) from λh=>f h.2,gw f];exact(ar rfl).2 (.ret _)
 .rw[jE,gw h];exact(ar<|xv h).2 (.ret _)
def Bq:(aA×fB)->Int:=λ(m,c)=>nX m c
def avp:aK:=.all [bD,iB] [yI] Bq
def acI:Sd 292 avp:=fa<|bX ax dJ sl 56 [] (λA (m,c)=>aoK A m c) (kz (fc func292 fz) (sc Nq (sc EB (sc acJ sz)))) λ(m,c) f h=>apt
def aoN(A:aS)(m:aA)(c:fB)(f:Int):LT Bool Empty:=.br (A.k KC (m,f)) (.br (A.cm f c.2.2.1) (.br (A.bq c.2.2.2.1 0) (.ao (A.and (A.bE 0 c.2.2.1)<|A.bo c.2.2.1<|A.l m.2.2.2.2.2.2.2)<|.ao (A.and (A.bE 0 f)<|A.bo f<|A.l (A.n eT m.2.2.2.2.2.2.2 c.2.2.1:Mode).2.2)<|.ret (A.n .bool (A.n eT m.2.2.2.2.2.2.2 c.2.2.1:Mode).2.2 f:Bool))<|.ret false)<|.ret false)<|.ret false
def zg(m:aA)(c:fB)(k:Int):Bool:=decide (0<=k/\k<iP m)&&(decide (¬k=c.2.2.1)&&(decide (c.2.2.2.1=0)&&(af.n .bool (af.n eT m.2.2.2.2.2.2.2 c.2.2.1:Mode).2.2 k:Bool)))
variable{a b:Int}
def dC:af.cm a b=decide (¬a=b):=by rw[bZ,iQ];simp
variable{Y:Type}
theorem aaX{R:Type}{step:Y->LT R Y}{k:Int}{e:LT R Y}{r:R}{f:Bool->R}(h:nX m c=0)(i:0<=k/\k<iP m)(q:f (zg m c k)=r)(j:f false=r->aV step e r):
  aV step (.br (af.cm k c.2.2.1) (.br (af.bq c.2.2.2.1 0) (.ao (af.and (af.bE 0 c.2.2.1)<|af.bo c.2.2.1<|af.l m.2.2.2.2.2.2.2)<|.ao (af.and (af.bE 0 k)<|af.bo k<|af.l (af.n eT m.2.2.2.2.2.2.2 c.2.2.1:Mode).2.2)<|.ret<|f (af.n .bool (af.n eT m.2.2.2.2.2.2.2 c.2.2.1:Mode).2.2 k:Bool)) e) e) r:=by
 have⟨o,_,g,_⟩:=yx h;rw[zg,cr i,dO] at q;refine bl (p:=¬k=c.c) dC (λl=>bl (p:=c.d=0) dx (λn=>au.2 ⟨yK g.1 g.2,au.2 ⟨yK i.1 ?_,?_⟩⟩) λn=>j ?_) λl=>j ?_
 .exact(vG<|BJ o g.1 g.2).2.2▸i.2
 .exact aT (by grind)<|.ret _
 all_goals grind
def arS{k:Int}(h:nX m c=0):aV Empty.elim (aoN af m c k)<|zg m c k:=by
 unfold aoN;by_cases g:0<=k/\k<iP m
 .exact(ar<|cr g).2 (aaX (f:=id) h g rfl λe=>aT e<|.ret _)
 .exact(ap<|gw g).2 (aT (by rw[zg,gw g];rfl)<|.ret _)
def ZP:(aA×fB×Int)->Bool:=λ(m,c,k)=>zg m c k
def abC:(aA×fB×Int)->Bool:=λ(m,c,_)=>decide<|nX m c=0
def avv:aK:=⟨[bD,iB,yI],[.bool],abC,ZP,false⟩
def as5:Sd 335 avv:=bX ax dJ sl 42 [] (λA (m,c,f)=>aoN A m c f) (kz (fc func335 fz) (sc acJ sz)) λ((m,c,f):aA×fB×Int) g h=>arS<|of_decide_eq_true g
structure XM where(a0:Int)(a2:aA)(a3:fB)(a4:Int)(a5:aA)(a6:fB)(a7:aA)(a8:fB)(a9:Int)(jd:aA)(lq:Int)(a12:fB)
inductive ael where|c0(p:XM)(a1:Int)
noncomputable def akI:ael->gY
 | .c0 p a1=>⟨[gW 334 26 [(0,.yield 0),(1,pZ 1),(2,pZ 2),(11,vi p.a0),(12,vi a1)] f334 28,⟨293,16,en [(6,pZ 3)],[.oY 0,.inBlock 0,.code<|cw f293 7],[4],none⟩],[.loop ⟨293,16,en [(0,.agg<|dc bD p.a2),(1,.agg<|dc iB p.a3),(2,vi p.a4),(3,pZ 5),(4,pZ 7),(5,pZ 6),(6,pZ 3),(8,.agg<|dc bD p.a5),(9,.agg<|dc iB p.a6),(10,.fn 334 [] [pZ 1,pZ 2])],[11],cw f293 52,cw f293 53,0,none⟩,dZ bD p.a7,dZ iB p.a8,vZ p.a9,.Jq,dZ bD p.jd,vZ p.lq,dZ iB p.a12,.a_]⟩
def aoL(A:aS)(m:aA)(c:fB)(f:Int):LT Int ael:=.br (A.cm (A.k Bq (m,c)) 0) (.ret<|-1)<|.ak<|.c0 ⟨A.l m.2.2.2.2.2.2.2,m,c,f,m,c,m,c,0,m,f,c⟩ 0
def ab8(A:aS):ael->LT Int ael
 | .c0 p a1=>.br (A.bo a1 p.a0) (.ao (A.k abC (p.a7,p.a8,a1))<|.br (A.k ZP (p.a7,p.a8,a1)) (.br (A.bq a1 p.lq) (.ret a1)<|.ak<|.c0 p<|A.b .add .i64 a1 1)<|.ak<|.c0 p<|A.b .add .i64 a1 1)<|.ret<|-1
def SK(m:aA)(c:fB)(k:Int):Int:=bif decide (nX m c=0)&&zg m c k then k else -1
theorem adA{p:XM}{k:Int}(f:p.a0=iP m)(o:p.a7=m)(q:p.a8=c)(g:p.lq=k)(h:nX m c=0):∀(j i:Nat),m.2.2.2.2.2.2.2.length-i=j->i<=m.2.2.2.2.2.2.2.length->aV (ab8 af) (.ak<|.c0 p i) (bif decide ((i:Int)<=k)&&zg m c k then k else -1):=by
 have v:=(iW (yx h).1).2.1;unfold iP at v f;intro j
 induction j with
 | zero=>
   intro i u r;rw[aG,ab8,f];refine(ap (by rw[bi];grind)).2 (aT ?_<|.ret _);by_cases l:(i:Int)<=k
   .rw[zg,gw (show ¬(0<=k/\k<iP m) by unfold iP;omega),jj,dU];rfl
   grind
 | succ j ih=>
   intro i u r;rw[aG,ab8,f,o,q,g];refine(ar (by rw[bi];grind)).2 (au.2 ⟨by rw[b_];exact cr h,?_⟩);rw[show af.k ZP (m,c,(i:Int))=zg m c i from rfl,jQ (i:=i) (by omega)];have n:=ih (i+1) (by omega) (by omega);cases hm:zg m c i
   .refine(ap rfl).2 (aT ?_ n)
    grind
   .refine(ar rfl).2 (bl (p:=(i:Int)=k) dx (λl=>?_) λl=>?_)
    .exact aT (by rw[<-l,hm,cr<|aj _];rfl)<|.ret _
    .exact aT (by rw[show decide (((i+1:Nat):Int)<=k)=decide ((i:Int)<=k) by rw[iQ];simp;omega]) n
theorem azO{k:Int}:aV (ab8 af) (aoL af m c k)<|SK m c k:=by
 unfold aoL SK;rw[show af.k Bq (m,c)=nX m c from rfl];by_cases h:nX m c=0
 .rw[cr h];refine(ap<|JF h).2 (aT ?_<|adA (p:=⟨iP m,m,c,k,m,c,m,c,0,m,k,c⟩) (k:=k) rfl rfl rfl rfl h m.G.length 0 rfl<|by omega);by_cases f:0<=k
  .simp_all
  .rw[zg,gw<|show ¬(0<=k/\k<iP m) by omega,jj,dU,dU]
 .rw[gw h];exact(ar<|xv h).2 (.ret _)
def KB:(aA×fB×Int)->Int:=λ(m,c,k)=>SK m c k
def avq:aK:=.all [bD,iB,yI] [yI] KB
def aiK:Sd 293 avq:=fa<|aX ax dJ sl 53 [⟨334,2,[[0,1,2,11,12],[6]]⟩] [] (λA (m,c,f)=>aoL A m c f) ab8 akI (kz (fc func293 (fc func324 (fc func334 fz))) (sc acI (sc as5 sz))) (λA y=>match y with |.c0 p a1=>⟨55,sl,by kernel_rfl⟩) λ(m,c,f) g h=>azO
def aoG(A:aS)(m:aA)(c:fB)(f:Int):LT (Int×Int) Empty:=.br (A.cm (A.k Bq (m,c)) 0) (.ret (0,A.k Bq (m,c)))<|.br (A.cm f<|-1) (.br (A.not<|A.k KC (m,f)) (.ret (0,100))<|.br (A.bo f 0) (.ret (0,0))<|.ret (A.b .add .i64 (A.k KB (m,c,f)) 1,0))<|.br (A.bo f 0) (.ret (0,0))<|.ret (A.b .add .i64 (A.k KB (m,c,f)) 1,0)
def FO(m:aA)(c:fB)(w:Int):Int×Int:=bif decide (nX m c=0) then(bif decide (-1<=w/\w<iP m) then(bif zg m c w then(w+1,0) else(0,0)) else(0,100)) else(0,nX m c)
theorem aps{w:Int}:aV Empty.elim (aoG af m c w)<|FO m c w:=by
 unfold aoG FO;rw[show af.k Bq (m,c)=nX m c from rfl,show af.k KC (m,w)=decide (0<=w/\w<iP m) from rfl,show af.k KB (m,c,w)=SK m c w from rfl];by_cases h:nX m c=0
 .have i:=(iW (yx h).1).2.1;rw[cr h];refine(ap<|JF h).2 (bl (p:=¬w = -1) dC (λg=>?_) λg=>?_)
  .by_cases f:0<=w/\w<iP m
   .rw[cr f,cr<|show -1<=w/\w<iP m by omega];refine(ap rfl).2 ((ap (by rw[bi];simp_all)).2<|aT ?_<|.ret _);rw[SK,cr h];cases zg m c w
    .rfl
    .rw[dO,cond_true,cond_true,cond_true,cond_true,gG,lZ (by omega)<|by omega]
   .rw[gw f,gw<|show ¬(-1<=w/\w<iP m) by omega];exact(ar rfl).2 (.ret _)
  .have f:w = -1:=by omega
   subst f;exact(ar rfl).2 (.ret _)
 .rw[gw h];exact(ar<|xv h).2 (.ret _)
def OE:(aA×fB×Int)->(Int×Int):=λ(m,c,k)=>FO m c k
def avl:aK:=.all [bD,iB,yI] [yI,yI] OE
def asZ:Sd 270 avl:=fa<|bX ax dJ sl 60 [] (λA (m,c,f)=>aoG A m c f) (kz (fc func270 fz) (sc acI (sc aiK (sc acJ sz)))) λ(m,c,f) g h=>aps
def aoD(A:aS)(m:aA)(c:fB)(f:Int):LT (fB×Int) Empty:=.br (A.cm (A.k Bq (m,c)) 0) (.ret ((0,0,0,0,0),A.k Bq (m,c)))<|.br (A.bo f 0) (.ret ((0,0,0,0,0),100))<|.br (A.jD f<|A.l m.2.2.2.2.2.2.2) (.ret ((0,0,0,0,0),100))<|.br (A.jD f 0) (.br (A.ov (A.k KB (m,c,A.b .sub .i64 f 1)) 0) (.ret ((c.1,c.2.1,c.2.2.1,f,c.2.2.2.2),0))<|.ret (c,0))<|.ret (c,0)
def EZ(m:aA)(c:fB)(r:Int):fB×Int:=bif decide (nX m c=0) then(bif decide (0<=r/\r<=iP m) then(bif decide (0<r)&&zg m c (r-1) then((c.1,c.2.1,c.2.2.1,r,c.2.2.2.2),0) else(c,0)) else((0,0,0,0,0),100)) else((0,0,0,0,0),nX m c)
theorem azl{r:Int}:aV Empty.elim (aoD af m c r)<|EZ m c r:=by
 unfold aoD EZ;rw[show af.k Bq (m,c)=nX m c from rfl,show af.k KB (m,c,af.b .sub .i64 r 1)=SK m c (af.b .sub .i64 r 1) from rfl];by_cases h:nX m c=0
 .have j:=(iW (yx h).1).2.1;refine(ap<|JF h).2 (bl (p:=r<0) rfl (λg=>?_) λg=>bl (p:=iP m<r) rfl (λi=>?_) λi=>?_)
  .exact aT (by grind)<|.ret _
  .exact aT (by grind)<|.ret _
  .rw[cr<|show 0<=r/\r<=iP m by omega,gX,lZ (by omega)<|by omega];refine bl (p:=0<r) rfl (λf=>?_) λf=>?_
   .rw[cr f,SK,cr h,dO];cases hm:zg m c<|r-1
    .exact(ap rfl).2 (.ret _)
    .exact(ar (by rw[cond_true,kW];grind)).2 (.ret _)
   .exact aT (by grind)<|.ret _
 .rw[gw h];exact(ar<|xv h).2 (.ret _)
def Bp:(aA×fB×Int)->(fB×Int):=λ(m,c,k)=>EZ m c k
def avg:aK:=.all [bD,iB,yI] [iB,yI] Bp
def acG:Sd 241 avg:=fa<|bX ax dJ sl 69 [] (λA (m,c,f)=>aoD A m c f) (kz (fc func241 fz) (sc acI (sc aiK sz))) λ(m,c,f) g h=>azl
def aoI(A:aS)(m:aA)(node:Int):LT Int Empty:=.br (A.cm (A.k jN m) 0) (.ret<|A.k jN m)<|.br (A.not<|A.k kP (node,0,A.b .sub .i64 m.1 1)) (.ret 2)<|.ret 0
def yJ{l:List α}{n:Int}(e:(l.length:Int)=n)(c:0<=i)(f:i<n):af.and (af.bE 0 i) (af.bo i<|af.l l)=true:=yK c<|e▸f
def qd(m:aA)(n:Int):Int:=bif dP m then(bif decide (0<=n/\n<=m.1-1) then 0 else 2) else 70
theorem KY{n:Int}(h:qd m n=0):dP m=true/\0<=n/\n<=m.1-1:=by
 unfold qd at h
 grind
theorem anb{n:Int}:aV Empty.elim (aoI af m n) (qd m n):=by
 unfold aoI qd;rw[show af.k jN m=qH m from rfl,qH];cases hm:dP m
 .exact(ar rfl).2 (.ret _)
 have c:=(iW hm).1;rw[gX,lZ (by omega) (by omega)];refine(ap rfl).2 (jo (λh=>?_) λh=>?_)
 .exact aT (by grind) (.ret _)
 .exact aT (by simp_all) (.ret _)
def OF:(aA×Int)->Int:=λ(m,n)=>qd m n
def avn:aK:=.all [bD,yI] [yI] OF
def aiJ:Sd 291 avn:=fa<|bX ax dJ sl 41 [] (λA (m,node)=>aoI A m node) (kz (fc func291 fz) (sc EB (sc P9 sz))) λ(m,node) c h=>anb
def aoA(A:aS)(m:aA)(node:Int):LT (Int×Int) Empty:=.br (A.cm (A.k OF (m,node)) 0) (.ret (0,A.k OF (m,node)))<|.ret (A.b .mul .i64 2<|A.b .add .i64 node 1,0)
def J0(m:aA)(n:Int):Int×Int:=bif decide (qd m n=0) then(af.b .mul .i64 2<|af.b .add .i64 n 1,0) else(0,qd m n)
theorem arZ{n:Int}:aV Empty.elim (aoA af m n)<|J0 m n:=by
 unfold aoA J0;refine bl (p:=¬qd m n=0) dC (λh=>?_) λh=>?_
 .exact aT (by rw[gw h];rfl)<|.ret _
 .exact aT (by simp_all)<|.ret _
def KA:(aA×Int)->(Int×Int):=λ(m,n)=>J0 m n
def avb:aK:=.all [bD,yI] [yI,yI] KA
def aiF:Sd 239 avb:=fa<|bX ax dJ sl 35 [] (λA (m,node)=>aoA A m node) (kz (fc func239 fz) (sc aiJ sz)) λ(m,node) c h=>arZ
def vX(m:aA)(n:Int):Int×Int:=bif decide (qd m n=0) then(af.b .add .i64 (af.b .mul .i64 4 m.1)<|af.b .mul .i64 2<|af.b .add .i64 n 1,0) else(0,qd m n)
def aou(A:aS)(m:aA)(node:Int):LT (Int×Int) Empty:=.br (A.cm (A.k KA (m,node)).2 0) (.ret (0,(A.k KA (m,node)).2))<|.ret (A.b .add .i64 (A.b .mul .i64 4 m.1) (A.k KA (m,node)).1,0)
def arQ{n:Int}:aV Empty.elim (aou af m n)<|vX m n:=by
 unfold aou vX;rw[show af.k KA (m,n)=J0 m n from rfl,J0];by_cases h:qd m n=0
 .rw[cr h];exact(ap rfl).2 (.ret _)
 .rw[gw h];exact(ar<|xv h).2 (.ret _)
def ahW:(aA×Int)->(Int×Int):=λ(m,n)=>vX m n
def au5:aK:=.all [bD,yI] [yI,yI] ahW
def asQ:Sd 191 au5:=fa<|bX ax dJ sl 41 [] (λA (m,node)=>aou A m node) (kz (fc func191 fz) (sc aiF sz)) λ(m,node) c h=>arQ
def aoF(A:aS)(m:aA)(c:Int)(node:Int):LT (Int×Int) Empty:=.br (A.cm (A.k OF (m,node)) 0) (.ret (0,A.k OF (m,node)))<|.br (A.not<|A.k kP (c,0,A.b .sub .i64 (A.l m.2.2.2.2.2.2.2) 1)) (.ret (0,2))<|.ao (A.and (A.bE 0 c)<|A.bo c<|A.l m.2.2.2.2.2.2.2)<|.ao (A.and (A.bE 0 node)<|A.bo node<|A.l (A.n eT m.2.2.2.2.2.2.2 c:Mode).2.1)<|.ao (A.and (A.bE 0 node)<|A.bo node<|A.l (A.n eT m.2.2.2.2.2.2.2 c:Mode).1)<|.ret (A.k tA ((A.n .bool (A.n eT m.2.2.2.2.2.2.2 c:Mode).2.1 node:Bool),(A.n yI (A.n eT m.2.2.2.2.2.2.2 c:Mode).1 node:Int)),0)
def ll(m:aA)(k n:Int):Int×Int:=bif decide (qd m n=0) then(bif decide (0<=k/\k<=iP m-1) then(tA ((af.n .bool (af.n eT m.2.2.2.2.2.2.2 k:Mode).2.1 n:Bool),(af.n (.int .i64) (af.n eT m.2.2.2.2.2.2.2 k:Mode).1 n:Int)),0) else(0,2)) else(0,qd m n)
theorem am_{k n:Int}:aV Empty.elim (aoF af m k n) (ll m k n):=by
 unfold aoF ll;by_cases h:qd m n=0
 .obtain⟨g,f,j⟩:=KY h;have l:=(iW g).2.1;rw[cr h];have e:af.b .sub .i64 (iP m) 1=iP m-1:=by rw[gX,lZ (by omega) (by omega)]
  rw[show af.b .sub .i64 (af.l m.2.2.2.2.2.2.2) 1=iP m-1 from e];refine(ap (JF h)).2 (jo (λc=>?_) λc=>?_)
  .exact aT (by grind) (.ret _)
  .have i:=vG (BJ g c.1 (show k<iP m by omega));refine au.2 ⟨yK c.1 (show k<iP m by omega),au.2 ⟨yJ i.2.1 f (by omega),au.2 ⟨yJ i.1 f (by omega),?_⟩⟩⟩;exact aT (by rw[cr c];rfl) (.ret _)
 .rw[gw h];exact(ar (xv h)).2 (.ret _)
def zC:(aA×Int×Int)->(Int×Int):=λ(m,c,k)=>ll m c k
def avk:aK:=.all [bD,yI,yI] [yI,yI] zC
def aiI:Sd 242 avk:=fa<|bX ax dJ sl 66 [] (λA (m,c,node)=>aoF A m c node) (kz (fc func242 fz) (sc P9 (sc aiz (sc aiJ sz)))) λ(m,c,node) f h=>am_
def aoy(A:aS)(c:fB)(n:Int):LT (fB×Int) Empty:=.br (A.cm (A.k xM (c,n)) 0) (.ret ((0,0,0,0,0),A.k xM (c,n)))<|.br (A.bq (A.b .add .i64 c.2.1 1) n) (.br (A.cm c.2.2.2.1 0) (.ret ((A.b .and .i64 (A.b .add .i64 c.1 1) 255,0,A.b .sub .i64 c.2.2.2.1 1,0,c.2.2.2.2),0))<|.ret ((A.b .and .i64 (A.b .add .i64 c.1 1) 255,0,c.2.2),0))<|.ret ((c.1,A.b .add .i64 c.2.1 1,c.2.2),0)
def aj_:∀k:Fin 256,af.b .and .i64 ((k.val:Int)+1) 255=((k.val:Int)+1).tmod 256:=by decide +kernel
def qs(c:fB)(n:Int):fB×Int:=bif decide (sC (c,n)=0) then(bif decide (c.2.1+1=n) then(bif decide (c.2.2.2.1=0) then(((c.1+1).tmod 256,0,c.2.2),0) else(((c.1+1).tmod 256,0,c.2.2.2.1-1,0,c.2.2.2.2),0)) else((c.1,c.2.1+1,c.2.2),0)) else((0,0,0,0,0),sC (c,n))
theorem ang{n:Int}:aV Empty.elim (aoy af c n) (qs c n):=by
 unfold aoy qs;by_cases h:sC (c,n)=0
 .obtain⟨m,o,q,r,u,v⟩:=xr h;have f:af.b .add .i64 c.1 1=c.1+1:=by rw[gG,lZ (by omega) (by omega)]
  have i:af.b .add .i64 c.2.1 1=c.2.1+1:=by rw[gG,lZ (by omega) (by omega)]
  have j:af.b .sub .i64 c.2.2.2.1 1=c.2.2.2.1-1:=by rw[gX,lZ (by omega) (by omega)]
  have l:af.b .and .i64 (c.1+1) 255=(c.1+1).tmod 256:=by
   have:=aj_ ⟨c.1.toNat,by omega⟩
   grind
  rw[cr h,f,i,j,l];refine(ap (JF h)).2 (bl (p:=c.2.1+1=n) dx (λh=>bl (p:=¬c.2.2.2.1=0) dC (λg=>?_) λg=>?_) λh=>?_)
  .exact aT (by simp_all) (.ret _)
  .exact aT (by simp_all) (.ret _)
  .exact aT (by simp_all) (.ret _)
 .rw[gw h];exact(ar (xv h)).2 (.ret _)
def ahX:(fB×Int)->(fB×Int):=λ(m,c)=>qs m c
def au_:aK:=.all [iB,yI] [iB,yI] ahX
def asU:Sd 150 au_:=fa<|bX ax dJ sl 80 [] (λA (c,n)=>aoy A c n) (kz (fc func150 fz) (sc Nq sz)) λ(c,n) f h=>ang
def aoJ(A:aS)(node:Int):LT Int Empty:=.br (A.bo node 0) (.ret 0)<|.br (A.ov node 8) (.ret 0)<|.ao (A.bE 0 node)<|.ret<|A.b .shl .i64 1 node
def YI(n:Int):Int:=bif decide (0<=n/\n<=7) then af.b .shl .i64 1 n else 0
theorem ax6{n:Int}:aV Empty.elim (aoJ af n)<|YI n:=by
 unfold aoJ YI;refine bl (p:=n<0) rfl (λh=>?_) λc=>bl (p:=8<=n) rfl (λh=>?_) λf=>au.2 ⟨cr<|by omega,?_⟩
 .exact aT (by grind)<|.ret _
 .exact aT (by grind)<|.ret _
 .exact aT (by grind)<|.ret _
def ZN:Int->Int:=YI
def avo:aK:=.all [yI] [yI] ZN
def as1:Sd 197 avo:=fa<|bX ax dJ sl 28 [] (λA node=>aoJ A node) (kz (fc func197 fz) sz) λnode c h=>ax6
def aoB(A:aS)(c:fB)(node:Int):LT Bool Empty:=.ret<|A.cm (A.b .and .i64 c.2.2.2.2<|A.k ZN node) 0
def ax3:af.b .and .i64 x 0=0:=by
 show IntKind.i64.wrap (((BitVec.ofInt 64 x &&& BitVec.ofInt 64 0).toNat:Nat):Int)=0;rw[show BitVec.ofInt 64 0=0#64 from rfl,BitVec.and_zero];rfl
def VS(c:fB)(n:Int):Bool:=bif decide (0<=n/\n<=7) then af.cm (af.b .and .i64 c.2.2.2.2<|af.b .shl .i64 1 n) 0 else false
def arN{n:Int}:aV Empty.elim (aoB af c n)<|VS c n:=by
 unfold aoB VS;refine aT ?_<|.ret _;rw[show af.k ZN n=YI n from rfl,YI];cases decide (0<=n/\n<=7)
 .rw[cond_false,cond_false,ax3];rfl
 .rfl
def T5:(fB×Int)->Bool:=λ(m,c)=>VS m c
def ave:aK:=.all [iB,yI] [.bool] T5
def aiG:Sd 145 ave:=fa<|bX ax dJ sl 21 [] (λA (c,node)=>aoB A c node) (kz (fc func145 fz) (sc as1 sz)) λ(c,node) f h=>arN
def awQ(A:aS)(m:aA)(id:Int):LT Int Empty:=.ret (A.k ahW (m,id)).1
def Ed:(aA×Int)->Int:=λ(m,id)=>(awQ af m id).val<|Ty.aR [yI]
def auW:aK:=.all [bD,yI] [yI] Ed
def Qb:Sd 140 auW:=fa<|aQ ax dJ sl 27 [] (λA (m,id)=>awQ A m id)<|kz (fc func140 fz)<|sc asQ sz
def awU(A:aS)(m:aA)(id:Int):LT Int Empty:=.ret (A.k KA (m,id)).1
def ZK:(aA×Int)->Int:=λ(m,id)=>(awU af m id).val<|Ty.aR [yI]
def au8:aK:=.all [bD,yI] [yI] ZK
def asS:Sd 222 au8:=fa<|aQ ax dJ sl 27 [] (λA (m,id)=>awU A m id)<|kz (fc func222 fz)<|sc aiF sz
def awS(A:aS)(n:Int)(c:Int)(f:Int):LT Bool Empty:=.br (A.ov n c) (.ret<|A.bE n f)<|.ret false
def Bo:(Int×Int×Int)->Bool:=λ(n,c,f)=>(awS af n c f).val<|Ty.aR [.bool]
def auZ:aK:=.all [yI,yI,yI] [.bool] Bo
def U7:Sd 79 auZ:=fa<|aQ ax dJ sl 22 [] (λA (n,c,f)=>awS A n c f)<|kz (fc func79 fz) sz
def aoe(A:aS)(n:Node):LT Bool Empty:=.ret<|A.k Bo (n.2.1,2,4)
def Up:Bo=kP:=rfl
def lh(n:Node):Bool:=decide<|2<=n.2.1/\n.2.1<=4
variable{n:Node}
def ayz:aV Empty.elim (aoe af n)<|lh n:=by
 unfold aoe lh;exact aT (by rw[Up,b_,sZ,iQ];simp)<|.ret _
def mG:Node->Bool:=lh
def auK:aK:=.all [gm] [.bool] mG
def B8:Sd 96 auK:=fa<|bX ax dJ sl 18 [] (λA n=>aoe A n) (kz (fc func96 fz) (sc U7 sz)) λn c h=>ayz
def Vo(c:fB):Bool:=af.and (af.bq c.1 0)<|af.and (af.bq c.2.1 0)<|af.and (af.bq c.2.2.1 0)<|af.and (af.bq c.2.2.2.1 0)<|af.and (af.bq c.2.2.2.2 0) true
def zeroV(v:vM):Bool:=af.and (af.bq v.1 0)<|af.and (af.bq v.2.1 0)<|af.and (af.bq v.2.2.1 0)<|af.and (af.bq v.2.2.2.1 0)<|af.and (af.bq v.2.2.2.2.1 0)<|af.and (af.bq v.2.2.2.2.2.1 0)<|af.and (af.bq v.2.2.2.2.2.2 0) true
def z8(m:aA)(n:Node):Bool:=bif lh n then(jE m n.2.2.1&&(decide (vT n.2.2.2.1=0)&&(decide (n.2.2.2.1.1=n.1)&&(decide (n.2.2.2.1.2.1=m.1)&&decide (n.2.2.1.2.2.2.2=n.2.2.2.1.2.2.1))))) else(Vo n.2.2.1&&zeroV n.2.2.2.1)
def DD(m:aA)(n:Node):Bool:=bif decide (n.2.1=1) then decide (1<=n.2.2.2.2.1/\n.2.2.2.2.1<=(vX m n.1).1) else decide (n.2.2.2.2.1=0)
def LN(m:aA)(n:Node):Bool:=bif decide (n.2.1=2) then(af.n .bool m.2.2.2.2.2.2.1 n.1:Bool) else true
def EM(n:Node):Bool:=bif n.2.2.2.2.2.1 then decide (n.2.1=1\/n.2.1=2) else true
def V8(m:aA)(n:Node):Bool:=decide (0<=n.1/\n.1<=m.1-1)&&(decide (0<=n.2.1/\n.2.1<=5)&&(decide (0<=n.2.2.2.2.2.2.1/\n.2.2.2.2.2.2.1<=2)&&(iO n.2.2.2.2.2.2.2&&(decide (n.2.2.2.2.2.2.2.1=n.1)&&(decide ((n.2.2.2.2.2.2.2.2.2.1.length:Int)=m.1)&&(LN m n&&(z8 m n&&(DD m n&&EM n))))))))
def dp(m:aA)(n:Node):Int:=bif dP m then(bif V8 m n then 0 else 180) else 70
theorem fS{m:aA}{n:Node}:V8 m n=true↔(0<=n.1/\n.1<=m.1-1)/\(0<=n.2.1/\n.2.1<=5)/\(0<=n.2.2.2.2.2.2.1/\n.2.2.2.2.2.2.1<=2)/\iO n.2.2.2.2.2.2.2=true/\n.2.2.2.2.2.2.2.1=n.1/\(n.2.2.2.2.2.2.2.2.2.1.length:Int)=m.1/\LN m n=true/\z8 m n=true/\DD m n=true/\EM n=true:=by
 unfold V8;simp_all
theorem dw(h:dp m n=0):dP m=true/\V8 m n=true:=by
 unfold dp at h
 grind
section
variable {R Y:Type} {step:Y->LT R Y} {e:LT R Y} {x y:R} {G:Bool}
theorem wB{p:Prop}[Decidable p]{b:Bool}(c:b=decide p)(h:G=true->¬p)(f:¬p->aV step e (bif G then x else y)):aV step (.br b (.ret y) e)<|bif G then x else y:=by
 refine bl c (λg=>?_) f;cases G
 .exact .ret _
 simp_all
theorem Fj{b:Bool}(h:G=true->b=true)(c:b=true->aV step e (bif G then x else y)):aV step (.br (af.not b) (.ret y) e)<|bif G then x else y:=by
 cases b
 .cases G
  .exact(ar rfl).2 (.ret _)
  simp_all
 .exact(ap rfl).2 (c rfl)
theorem Fo{u:Int}(h:G=true->a<=u/\u<=b)(c:a<=u/\u<=b->aV step e (bif G then x else y)):aV step (.br (af.not<|af.k kP (u,a,b)) (.ret y) e)<|bif G then x else y:=by
 refine jo (λf=>?_) c;cases G
 .exact .ret _
 simp_all
def M9(h:G=true):aV step (.ret x)<|bif G then x else y:=aT (by rw[h];rfl)<|.ret _
end
variable{G:Bool}
theorem apw{step:Y->LT Int Y}(f:G=true->EM n=true)(c:EM n=true->G=true):aV step (.br n.2.2.2.2.2.1 (.br (af.cm n.2.1 1) (.br (af.cm n.2.1 2) (.ret 180)<|.ret 0)<|.ret 0)<|.ret 0)<|bif G then 0 else 180:=by
 unfold EM at f c;cases hb:n.2.2.2.2.2.1
 .rw[hb] at f c;exact(ap rfl).2 (M9<|c rfl)
 .rw[hb] at f c;simp at f c;refine(ar rfl).2 (bl (p:=¬n.2.1=1) dC (λh=>wB (p:=¬n.2.1=2) dC (λg=>?_) λg=>?_) λh=>?_)
  .simp_all
  .exact M9<|c (by omega)
  .exact M9<|c (by omega)
theorem ahP{R:Type}{step:Y->LT R Y}{e:LT R Y}{x y:R}(i:dP m=true)(g:0<=n.1/\n.1<=m.1-1)(f:G=true->LN m n=true)(c:LN m n=true->aV step e (bif G then x else y)):
  aV step (.br (af.bq n.2.1 2) (.ao (af.and (af.bE 0 n.1)<|af.bo n.1<|af.l m.2.2.2.2.2.2.1)<|.br (af.not (af.n .bool m.2.2.2.2.2.2.1 n.1:Bool)) (.ret y) e) e) (bif G then x else y):=by
 unfold LN at f c;refine bl (p:=n.2.1=2) dx (λh=>au.2 ⟨yJ (iW i).c g.1<|by omega,?_⟩) λh=>?_
 .rw[cr h] at f c;exact Fj f c
 .rw[gw h] at c
  grind
structure XC where(a0:aA)(a1:Node)
structure ajp where(b0:aA)(b1:Node)
structure ajq where(c0:Node)
inductive aeb where|c0(p:XC)|c1(p:ajp)|c2(p:ajq)
noncomputable def akv:aeb->gY
 | .c0 p=>⟨[Ac 125 160 [(2,pZ 0),(3,pZ 1)] f125 61444],[dZ bD p.a0,dZ gm p.a1,.a_]⟩
 | .c1 p=>⟨[Ac 125 160 [(2,pZ 0),(3,pZ 1)] f125 245788],[dZ bD p.b0,dZ gm p.b1,.a_]⟩
 | .c2 p=>⟨[Ac 125 160 [(3,pZ 0)] f125 245790],[dZ gm p.c0,.a_]⟩
def aod(A:aS)(m:aA)(n:Node):LT Int aeb:=.br (A.cm (A.k jN m) 0) (.ret<|A.k jN m)<|.br (A.not<|A.k Bo (n.1,0,A.b .sub .i64 m.1 1)) (.ret 180)<|.br (A.not<|A.k Bo (n.2.1,0,5)) (.ret 180)<|.br (A.not<|A.k Bo (n.2.2.2.2.2.2.1,0,2)) (.ret 180)<|.br (A.cm (A.k rA n.2.2.2.2.2.2.2) 0) (.ret 180)<|.br (A.cm n.2.2.2.2.2.2.2.1 n.1) (.ret 180)<|.br (A.cm (A.l n.2.2.2.2.2.2.2.2.2.1) m.1) (.ret 180)<|.br (A.k mG n) (.br (A.not<|A.k TU (m,n.2.2.1)) (.ret 180)<|.br (A.cm (A.k rN n.2.2.2.1) 0) (.ret 180)<|.br (A.cm n.2.2.2.1.1 n.1) (.ret 180)<|.br (A.cm n.2.2.2.1.2.1 m.1) (.ret 180)<|.br (A.cm n.2.2.1.2.2.2.2 n.2.2.2.1.2.2.1) (.ret 180)<|.ak<|.c0 ⟨m,n⟩)<|.ak<|.c0 ⟨m,n⟩
def Nb(A:aS):aeb->LT Int aeb
 | .c0 p=>.br (A.not<|A.k mG p.a1) (.br (A.not<|A.and (A.bq p.a1.2.2.1.1 0)<|A.and (A.bq p.a1.2.2.1.2.1 0)<|A.and (A.bq p.a1.2.2.1.2.2.1 0)<|A.and (A.bq p.a1.2.2.1.2.2.2.1 0)<|A.and (A.bq p.a1.2.2.1.2.2.2.2 0) true) (.ret 180)<|.br (A.not<|A.and (A.bq p.a1.2.2.2.1.1 0)<|A.and (A.bq p.a1.2.2.2.1.2.1 0)<|A.and (A.bq p.a1.2.2.2.1.2.2.1 0)<|A.and (A.bq p.a1.2.2.2.1.2.2.2.1 0)<|A.and (A.bq p.a1.2.2.2.1.2.2.2.2.1 0)<|A.and (A.bq p.a1.2.2.2.1.2.2.2.2.2.1 0)<|A.and (A.bq p.a1.2.2.2.1.2.2.2.2.2.2 0) true) (.ret 180)<|.br (A.bq p.a1.2.1 2) (.ao (A.and (A.bE 0 p.a1.1)<|A.bo p.a1.1<|A.l p.a0.2.2.2.2.2.2.1)<|.br (A.not (A.n .bool p.a0.2.2.2.2.2.2.1 p.a1.1:Bool)) (.ret 180)<|.ak<|.c1 ⟨p.a0,p.a1⟩)<|.ak<|.c1 ⟨p.a0,p.a1⟩)<|.br (A.bq p.a1.2.1 2) (.ao (A.and (A.bE 0 p.a1.1)<|A.bo p.a1.1<|A.l p.a0.2.2.2.2.2.2.1)<|.br (A.not (A.n .bool p.a0.2.2.2.2.2.2.1 p.a1.1:Bool)) (.ret 180)<|.ak<|.c1 ⟨p.a0,p.a1⟩)<|.ak<|.c1 ⟨p.a0,p.a1⟩
 | .c1 p=>.br (A.bq p.b1.2.1 1) (.br (A.not<|A.k Bo (p.b1.2.2.2.2.1,1,A.k Ed (p.b0,p.b1.1))) (.ret 180)<|.br (A.cm p.b1.2.1 1) (.br (A.cm p.b1.2.2.2.2.1 0) (.ret 180)<|.ak<|.c2 ⟨p.b1⟩)<|.ak<|.c2 ⟨p.b1⟩)<|.br (A.cm p.b1.2.1 1) (.br (A.cm p.b1.2.2.2.2.1 0) (.ret 180)<|.ak<|.c2 ⟨p.b1⟩)<|.ak<|.c2 ⟨p.b1⟩
 | .c2 p=>.br p.c0.2.2.2.2.2.1 (.br (A.cm p.c0.2.1 1) (.br (A.cm p.c0.2.1 2) (.ret 180)<|.ret 0)<|.ret 0)<|.ret 0
def UK(j:G=true->DD m n=true/\EM n=true)(l:DD m n=true->EM n=true->G=true):aV (Nb af) (.ak<|.c1 ⟨m,n⟩)<|bif G then 0 else 180:=by
 have f:DD m n=true->aV (Nb af) (.ak<|.c2 ⟨n⟩) (bif G then 0 else 180):=λc=>by
  rw[aG,Nb];exact apw (λg=>(j g).2)<|l c
 rw[aG,Nb];have c:=λg=>(j g).1;unfold DD at c f;refine bl (p:=n.2.1=1) dx (λh=>?_) λh=>?_
 .rw[cr h,cond_true] at c f;refine Fo (λg=>of_decide_eq_true<|c g) λi=>?_;exact bl (p:=¬n.2.1=1) dC (λk=>absurd h k) λ_=>f<|cr i
 .rw[gw h,cond_false] at c f;exact bl (p:=¬n.2.1=1) dC (λ_=>wB (p:=¬n.e=0) dC (λg=>not_not_intro<|of_decide_eq_true<|c g) λi=>f<|cr<|dF.1 i) λk=>absurd h k
theorem aga(l:dP m=true)(j:0<=n.1/\n.1<=m.1-1)(h:lh n=true->z8 m n=true)(c:G=true->LN m n=true/\z8 m n=true/\DD m n=true/\EM n=true)(f:LN m n=true->z8 m n=true->DD m n=true->EM n=true->G=true):aV (Nb af) (.ak<|.c0 ⟨m,n⟩)<|bif G then 0 else 180:=by
 rw[aG,Nb];rw[show af.k mG (⟨m,n⟩:XC).a1=lh n from rfl];have i:=λg=>(c g).2.1;unfold z8 at i h f;cases hn:lh n
 .rw[hn,cond_false] at i f;refine(ar rfl).2 (Fj (b:=Vo n.c) (λg=>?_) λo=>Fj (b:=zeroV n.d) (λg=>?_) λp=>?_)
  .simp_all
  .simp_all
  .exact ahP l j (λg=>(c g).1) λk=>UK (λg=>(c g).2.2) λa b=>f k (by simp_all) a b
 .rw[hn,cond_true] at i h f;exact(ap rfl).2 (ahP l j (λg=>(c g).1) λk=>UK (λg=>(c g).2.2) λa b=>f k (h rfl) a b)
theorem am8:aV (Nb af) (aod af m n)<|dp m n:=by
 unfold aod dp;rw[show af.k jN m=qH m from rfl,qH];cases hm:dP m
 .exact(ar rfl).2 (.ret _)
 have f:=@fS m n;have z:=(iW hm).1;rw[cond_true,Up,gX,lZ (by omega)<|by omega];generalize V8 m n=G at f ⊢;refine(ap rfl).2 (Fo (λg=>(f.1 g).1) λl=>Fo (λg=>(f.1 g).2.1) λo=>Fo (λg=>(f.1 g).2.2.1) λq=>?_);refine wB (p:=¬z_ n.2.2.2.2.2.2.2=0) dC (λg=>not_not_intro<|Kx.2 (f.1 g).2.2.2.1) λr=>?_;refine wB (p:=¬n.2.2.2.2.2.2.2.1=n.1) dC (λg=>by simp_all) λu=>?_;refine wB (p:=¬(n.2.2.2.2.2.2.2.2.2.1.length:Int)=m.1) dC (λg=>by simp_all) λv=>?_;have j:(lh n=true->z8 m n=true)->aV (Nb af) (.ak<|.c0 ⟨m,n⟩) (bif G then 0 else 180):=λh=>aga hm l h (λg=>(f.1 g).2.2.2.2.2.2) λa b c d=>f.2 ⟨l,o,q,Kx.1<|dF.1 r,by omega,by omega,a,b,c,d⟩;rw[show af.k mG n=lh n from rfl];have i:=λg=>(f.1 g).2.2.2.2.2.2.2.1;unfold z8 at i j;cases hn:lh n
 .exact(ap rfl).2 (j λk=>absurd (hn.symm.trans k)<|by decide)
 .rw[hn,cond_true] at i;simp at i j;refine(ar rfl).2 (Fj (b:=jE m n.2.2.1) (λg=>(i g).1) λA=>?_);rw[b_,chk];refine wB (p:=¬vT n.2.2.2.1=0) dC (λg=>not_not_intro (i g).2.1) λB=>?_;refine wB (p:=¬n.2.2.2.1.1=n.1) dC (λg=>not_not_intro (i g).2.2.1) λC=>?_;refine wB (p:=¬n.2.2.2.1.2.1=m.1) dC (λg=>not_not_intro (i g).2.2.2.1) λD=>?_;refine wB (p:=¬n.2.2.1.2.2.2.2=n.2.2.2.1.2.2.1) dC (λg=>not_not_intro (i g).2.2.2.2) λE=>?_
  simp_all
def ZI:(aA×Node)->Int:=λ(m,n)=>dp m n
def auJ:aK:=.all [bD,gm] [yI] ZI
def asB:Sd 125 auJ:=fa<|aX ax dJ sl 151 [] [⟨125,8,[[2,3]]⟩,⟨125,10,[[2,3]]⟩,⟨125,11,[[3]]⟩] (λA (m,n)=>aod A m n) Nb akv (kz (fc func125 fz) (sc Sk (sc EB (sc B8 (sc Qb (sc U7 (sc Lb (sc aiC sz)))))))) (λA y=>match y with |.c0 p=>⟨51,sl,by kernel_rfl⟩|.c1 p=>⟨39,sl,by kernel_rfl⟩|.c2 p=>⟨27,sl,by kernel_rfl⟩) λ(m,n) c h=>am8
def aoc(A:aS)(m:aA)(id:Int):LT (Node×Int) Empty:=.br (A.cm (A.k jN m) 0) (.ret ((0,0,(0,0,0,0,0),(0,0,0,0,0,0,0),0,false,0,0,([]:List Int),([]:List iE),0,0),A.k jN m))<|.br (A.cm (A.k TT (id,m.1)).2 0) (.ret ((0,0,(0,0,0,0,0),(0,0,0,0,0,0,0),0,false,0,0,([]:List Int),([]:List iE),0,0),2))<|.ret ((id,0,(0,0,0,0,0),(0,0,0,0,0,0,0),0,false,0,(A.k TT (id,m.1)).1),0)
def j_:Node:=(0,0,(0,0,0,0,0),(0,0,0,0,0,0,0),0,false,0,0,([]:List Int),([]:List iE),0,0)
def r8(m:aA)(id:Int):Node×Int:=bif dP m then(bif decide (0<=id/\id<=m.1-1) then((id,0,(0,0,0,0,0),(0,0,0,0,0,0,0),0,false,0,id,([]:List Int),List.replicate m.1.toNat HZ,4,-1),0) else(j_,2)) else(j_,70)
def ana{id:Int}:aV Empty.elim (aoc af m id)<|r8 m id:=by
 unfold aoc r8;rw[show af.k jN m=qH m from rfl,qH];cases hm:dP m
 .exact(ar rfl).2 (.ret _)
 refine(ap rfl).2 (?_);rw[show af.k TT (id,m.1)=aba id m.1 from rfl,aba,cr (iW hm).1,cond_true,cond_true];cases decide (0<=id/\id<=m.1-1)
 .exact(ar rfl).2 (.ret _)
 .exact(ap rfl).2 (.ret _)
def wR:(aA×Int)->(Node×Int):=λ(m,n)=>r8 m n
def auI:aK:=.all [bD,yI] [gm,yI] wR
def aiB:Sd 77 auI:=fa<|bX ax dJ sl 55 [] (λA (m,id)=>aoc A m id) (kz (fc func77 fz) (sc EB (sc asN sz))) λ(m,id) c h=>ana
def aon(A:aS)(m:aA)(n:Node)(c:Bool):LT (Node×Int) Empty:=.br (A.cm (A.k ZI (m,n)) 0) (.ret ((0,0,(0,0,0,0,0),(0,0,0,0,0,0,0),0,false,0,0,([]:List Int),([]:List iE),0,0),A.k ZI (m,n)))<|.br (A.not c) (.ret ((0,0,(0,0,0,0,0),(0,0,0,0,0,0,0),0,false,0,0,([]:List Int),([]:List iE),0,0),181))<|.ret ((n.1,n.2.1,n.2.2.1,n.2.2.2.1,n.2.2.2.2.1,n.2.2.2.2.2.1,n.2.2.2.2.2.2.1,(A.k GL (n.2.2.2.2.2.2.2,n.2.2.2.2.2.2.2.2.1)).1),(A.k GL (n.2.2.2.2.2.2.2,n.2.2.2.2.2.2.2.2.1)).2)
def nF(m:aA)(n:Node)(w:Bool):Node×Int:=bif decide (dp m n=0) then(bif w then(n,0) else(j_,181)) else(j_,dp m n)
def BK(h:dp m n=0):iO n.2.2.2.2.2.2.2=true:=(fS.1 (dw h).2).d
def afg{c:iG}(h:iO c=true):¬8<(c.2.1.length:Int):=by
 simp[iO,fZ,uR] at h;omega
def arU{w:Bool}:aV Empty.elim (aon af m n w)<|nF m n w:=by
 unfold aon nF;by_cases h:dp m n=0
 .rw[cr h];refine(ap<|JF h).2 ?_;cases w
  .exact(ar rfl).2 (.ret _)
  .refine(ap rfl).2 (?_);rw[show af.k GL (n.G,n.i)=Xf n.G n.i from rfl,Xf,BK h,gw<|afg<|BK h];exact .ret _
 .rw[gw h];exact(ar<|xv h).2 (.ret _)
def kl:(aA×Node×Bool)->(Node×Int):=λ(m,c,k)=>nF m c k
def auU:aK:=.all [bD,gm,.bool] [gm,yI] kl
def ED:Sd 78 auU:=fa<|bX ax dJ sl 64 [] (λA (m,n,c)=>aon A m n c) (kz (fc func78 fz) (sc asB (sc aiD sz))) λ(m,n,c) f h=>arU
abbrev IT(A:aS)(m:aA)(n:Node):=(A.k kl (m,n,A.bq n.2.1 0))
def aog(A:aS)(m:aA)(n:Node)(on:Bool):LT (Node×Int) Empty:=.br (A.not on) (.br (A.cm (A.k kl (m,n,true)).2 0) (.ret ((0,0,(0,0,0,0,0),(0,0,0,0,0,0,0),0,false,0,0,([]:List Int),([]:List iE),0,0),(A.k kl (m,n,true)).2))<|.br (A.not on) (.ret<|A.k wR (m,(A.k kl (m,n,true)).1.1))<|.ret (((A.k kl (m,n,true)).1.1,1,(0,0,0,0,0),(0,0,0,0,0,0,0),A.k Ed (m,(A.k kl (m,n,true)).1.1),(A.k kl (m,n,true)).1.2.2.2.2.2),0))<|.br (A.cm (IT A m n).2 0) (.ret ((0,0,(0,0,0,0,0),(0,0,0,0,0,0,0),0,false,0,0,([]:List Int),([]:List iE),0,0),(IT A m n).2))<|.br (A.not on) (.ret<|A.k wR (m,(IT A m n).1.1))<|.ret (((IT A m n).1.1,1,(0,0,0,0,0),(0,0,0,0,0,0,0),A.k Ed (m,(IT A m n).1.1),(IT A m n).1.2.2.2.2.2),0)
theorem adW(h:Vo c=true):c=(0,0,0,0,0):=by
 have⟨a,b,d,e,f⟩:=c;simp[Vo,bu,bg] at h
 simp_all
theorem adX{c:vM}(h:zeroV c=true):c=(0,0,0,0,0,0,0):=by
 have⟨a,b,d,e,f,g,i⟩:=c;simp[zeroV,bu,bg] at h
 simp_all
def UE(h:dp m n=0)(f:¬(2<=n.2.1/\n.2.1<=4)):n.2.2.1=(0,0,0,0,0)/\n.2.2.2.1=(0,0,0,0,0,0,0):=by
 have c:=(fS.1 (dw h).2).h;rw[z8,lh,gw f,cond_false,fZ] at c;exact⟨adW c.1,adX c.2⟩
theorem UF(h:dp m n=0)(c:¬n.2.1=1):n.2.2.2.2.1=0:=by
 have f:=(fS.1 (dw h).2).i;rw[DD,gw c] at f
 simp_all
def jG(m:aA)(n:Node)(on:Bool):Node×Int:=bif decide (dp m n=0) then(bif on then(bif decide (n.2.1=0) then((n.1,1,(0,0,0,0,0),(0,0,0,0,0,0,0),(vX m n.1).1,n.2.2.2.2.2),0) else(j_,181)) else r8 m n.1) else(j_,dp m n)
def arX{on:Bool}:aV Empty.elim (aog af m n on)<|jG m n on:=by
 unfold aog IT jG;rw[show af.k kl (m,n,true)=nF m n true from rfl,show af.k kl (m,n,af.bq n.2.1 0)=nF m n (af.bq n.2.1 0) from rfl,dx,nF,nF];by_cases h:dp m n=0
 .rw[cr h];cases on
  .exact(ar rfl).2 ((ap rfl).2<|(ar rfl).2<|.ret _)
  .refine(ap rfl).2 (?_);cases decide (n.2.1=0)
   .exact(ar rfl).2 (.ret _)
   .exact(ap rfl).2 ((ap rfl).2<|.ret _)
 .rw[gw h];cases on
  .exact(ar rfl).2 ((ar<|xv h).2<|.ret _)
  .exact(ap rfl).2 ((ar<|xv h).2<|.ret _)
def TP:(aA×Node×Bool)->(Node×Int):=λ(m,c,k)=>jG m c k
def auM:aK:=.all [bD,gm,.bool] [gm,yI] TP
def asD:Sd 162 auM:=fa<|bX ax dJ sl 90 [] (λA (m,n,on)=>aog A m n on) (kz (fc func162 (fc func217 fz)) (sc aiB (sc ED (sc Qb sz)))) λ(m,n,on) c h=>arX
abbrev EG(A:aS)(m:aA)(n:Node):=(A.k kl (m,n,A.bq n.2.1 0))
abbrev ac2:LT (Node×Int) Empty:=(.ret ((0,0,(0,0,0,0,0),(0,0,0,0,0,0,0),0,false,0,0,([]:List Int),([]:List iE),0,0),2))
def aof(A:aS)(m:aA)(n:Node)(c:Int):LT (Node×Int) Empty:=.br (A.cm (EG A m n).2 0) (.ret ((0,0,(0,0,0,0,0),(0,0,0,0,0,0,0),0,false,0,0,([]:List Int),([]:List iE),0,0),(EG A m n).2))<|.ao (A.bE 0 m.1)<|.br (A.not<|A.k Bo (c,0,A.b .sub .i64 (A.b .shl .i64 1 m.1) 1)) (ac2)<|.ao (A.bE 0 (EG A m n).1.1)<|.br (A.bq (A.b .and .i64 (A.b .shr .i64 c (EG A m n).1.1) 1) 0) (ac2)<|.ret (((EG A m n).1.1,4,(0,0,0,0,c),((EG A m n).1.1,m.1,c,1,0,0,0),0,(EG A m n).1.2.2.2.2.2),0)
def WM{k:Int}(h:4<=k/\k<=8):16<=af.b .shl .i64 1 k/\af.b .shl .i64 1 k<=256:=by
 have:k=4\/k=5\/k=6\/k=7\/k=8:=by omega
 rcases this with rfl|rfl|rfl|rfl|rfl<;>decide
def Fx(m:aA)(n:Node)(s:Int):Node×Int:=bif decide (dp m n=0) then(bif decide (n.2.1=0) then(bif decide (0<=s/\s<=af.b .shl .i64 1 m.1-1) then(bif rv s n.1 then((n.1,4,(0,0,0,0,s),(n.1,m.1,s,1,0,0,0),0,n.2.2.2.2.2),0) else(j_,2)) else(j_,2)) else(j_,181)) else(j_,dp m n)
variable{s:Int}
theorem ayC:aV Empty.elim (aof af m n s)<|Fx m n s:=by
 unfold aof ac2 EG Fx;rw[show af.k kl (m,n,af.bq n.2.1 0)=nF m n (af.bq n.2.1 0) from rfl,dx,nF,Up];by_cases h:dp m n=0
 .rw[cr h];cases decide (n.2.1=0)
  .exact(ar rfl).2 (.ret _)
  have l:=(iW (dw h).1).1;have o:=WM l;have i:=(fS.1 (dw h).2).1;refine(ap rfl).2 (au.2 ⟨cr<|by omega,?_⟩);rw[gX,lZ (by omega)<|by omega];refine jo (λf=>?_) λf=>au.2 ⟨cr<|show 0<=n.1 from i.1,?_⟩
  .exact aT (by rw[gw f];rfl)<|.ret _
  .rw[cr f];have j:=ahO (c:=s) (a:=n.1) f.1 (by omega) i.1 (by omega);refine bl (p:=af.b .and .i64 (af.b .shr .i64 s n.1) 1=0) dx (λg=>?_) λg=>?_
   .exact aT (by rw[j.1 g];rfl)<|.ret _
   .exact aT (by simp_all)<|.ret _
 .rw[gw h];exact(ar<|xv h).2 (.ret _)
def TO:(aA×Node×Int)->(Node×Int):=λ(m,c,k)=>Fx m c k
def auL:aK:=.all [bD,gm,yI] [gm,yI] TO
def asC:Sd 41 auL:=fa<|bX ax dJ sl 110 [] (λA (m,n,c)=>aof A m n c) (kz (fc func41 (fc func80 fz)) (sc ED (sc U7 sz))) λ(m,n,c) f h=>ayC
abbrev iK(A:aS)(m:aA)(n:Node):=(A.k kl (m,n,true))
abbrev ac3(A:aS)(m:aA)(n:Node):LT (Node×Int) Empty:=(.ret ((0,0,(0,0,0,0,0),(0,0,0,0,0,0,0),0,false,0,0,([]:List Int),([]:List iE),0,0),(iK A m n).2))
def aoh(A:aS)(m:aA)(n:Node)(o:cq):LT (Node×Int) Empty:=.br (A.cm (iK A m n).2 0) (ac3 A m n)<|.br (A.not<|A.k Bo (o.2.2.2.1,1,3)) (.ret ((0,0,(0,0,0,0,0),(0,0,0,0,0,0,0),0,false,0,0,([]:List Int),([]:List iE),0,0),2))<|.br (A.not<|A.k mG (iK A m n).1) (.ret ((iK A m n).1,0))<|.br (A.bq o.2.2.2.1 1) (.br (A.cm (A.k GL ((iK A m n).1.2.2.2.2.2.2.2,o.2.2.2.2.2)).2 0) (.ret ((0,0,(0,0,0,0,0),(0,0,0,0,0,0,0),0,false,0,0,([]:List Int),([]:List iE),0,0),(A.k GL ((iK A m n).1.2.2.2.2.2.2.2,o.2.2.2.2.2)).2))<|.ret (((iK A m n).1.1,(iK A m n).1.2.1,(iK A m n).1.2.2.1,(iK A m n).1.2.2.2.1,(iK A m n).1.2.2.2.2.1,(iK A m n).1.2.2.2.2.2.1,(iK A m n).1.2.2.2.2.2.2.1,(A.k GL ((iK A m n).1.2.2.2.2.2.2.2,o.2.2.2.2.2)).1),0))<|.br (A.bq o.2.2.2.1 2) (.br (A.cm (A.k TW (iK A m n).1.2.2.2.2.2.2.2).2 0) (.ret ((0,0,(0,0,0,0,0),(0,0,0,0,0,0,0),0,false,0,0,([]:List Int),([]:List iE),0,0),(A.k TW (iK A m n).1.2.2.2.2.2.2.2).2))<|.ret (((iK A m n).1.1,(iK A m n).1.2.1,(iK A m n).1.2.2.1,(iK A m n).1.2.2.2.1,(iK A m n).1.2.2.2.2.1,(iK A m n).1.2.2.2.2.2.1,(iK A m n).1.2.2.2.2.2.2.1,(A.k TW (iK A m n).1.2.2.2.2.2.2.2).1),0))<|.br (A.bq o.2.2.2.1 3) (.br (A.cm (A.k TX ((iK A m n).1.2.2.2.2.2.2.2,o.2.2.2.2.1)).2 0) (.ret ((0,0,(0,0,0,0,0),(0,0,0,0,0,0,0),0,false,0,0,([]:List Int),([]:List iE),0,0),(A.k TX ((iK A m n).1.2.2.2.2.2.2.2,o.2.2.2.2.1)).2))<|.ret (((iK A m n).1.1,(iK A m n).1.2.1,(iK A m n).1.2.2.1,(iK A m n).1.2.2.2.1,(iK A m n).1.2.2.2.2.1,(iK A m n).1.2.2.2.2.2.1,(iK A m n).1.2.2.2.2.2.2.1,(A.k TX ((iK A m n).1.2.2.2.2.2.2.2,o.2.2.2.2.1)).1),0))<|.br (A.cm (iK A m n).2 0) (ac3 A m n)<|.ret ((iK A m n).1,0)
def Aj(n:Node)(r:iG×Int):Node×Int:=bif decide (r.2=0) then((n.1,n.2.1,n.2.2.1,n.2.2.2.1,n.2.2.2.2.1,n.2.2.2.2.2.1,n.2.2.2.2.2.2.1,r.1),0) else(j_,r.2)
def zf(m:aA)(n:Node)(o:cq):Node×Int:=bif decide (dp m n=0) then(bif decide (1<=o.2.2.2.1/\o.2.2.2.1<=3) then(bif lh n then(bif decide (o.2.2.2.1=1) then Aj n (Xf n.2.2.2.2.2.2.2 o.2.2.2.2.2) else bif decide (o.2.2.2.1=2) then Aj n (btS n.2.2.2.2.2.2.2) else Aj n (Jx n.2.2.2.2.2.2.2 o.2.2.2.2.1)) else(n,0)) else(j_,2)) else(j_,dp m n)
variable{r:iG×Int}
theorem aaw{step:Y->LT (Node×Int) Y}(c:r.2=0->x=0):aV step (.br (af.cm r.2 0) (.ret (j_,r.2))<|.ret ((n.1,n.2.1,n.2.2.1,n.2.2.2.1,n.2.2.2.2.1,n.2.2.2.2.2.1,n.2.2.2.2.2.2.1,r.1),x))<|Aj n r:=by
 unfold Aj;refine bl (p:=¬r.2=0) dC (λh=>?_) λh=>?_
 .exact aT (by simp_all)<|.ret _
 .have h:=dF.1 h;exact aT (by simp_all)<|.ret _
theorem arP{o:cq}:aV Empty.elim (aoh af m n o)<|zf m n o:=by
 unfold aoh ac3 iK zf;rw[show af.k kl (m,n,true)=nF m n true from rfl,nF,Up];by_cases h:dp m n=0
 .rw[cr h,cond_true,cond_true,cond_true];refine(ap rfl).2 (jo (λc=>?_) λc=>?_)
  .exact aT (by rw[gw c];rfl)<|.ret _
  rw[cr c,cond_true];rw[show af.k mG ((n,0):Node×Int).1=lh n from rfl];cases lh n
  .exact(ar rfl).2 (.ret _)
  refine(ap rfl).2 (bl (p:=o.d=1) dx (λk=>?_) λk=>bl (p:=o.d=2) dx (λf=>?_) λf=>(ar (by rw[dx];grind)).2<|?_)
  .rw[cr k];exact aaw (r:=Xf n.G o.E)<|λh=>rfl
  .rw[gw k,cr f];exact aaw (r:=btS n.G)<|λh=>rfl
  .rw[gw k,gw f];exact aaw (r:=Jx n.G o.e)<|λh=>rfl
 .rw[gw h];exact(ar<|xv h).2 (.ret _)
def TQ:(aA×Node×cq)->(Node×Int):=λ(m,c,k)=>zf m c k
def auN:aK:=.all [bD,gm,dE] [gm,yI] TQ
def asE:Sd 108 auN:=fa<|bX ax dJ sl 107 [] (λA (m,n,o)=>aoh A m n o) (kz (fc func108 fz) (sc B8 (sc ED (sc U7 (sc aiD (sc asO (sc asP sz))))))) λ(m,n,o) c h=>arP
structure XK where(a0:Int)(a1:List Seen)(a2:Int)(a4:vM)(a5:Int)
inductive aeg where|c0(p:XK)(a3:Int)
noncomputable def akA:aeg->gY
 | .c0 p a3=>⟨[gW 139 45 [(0,vi p.a0),(4,pZ 0),(11,.sl qA p.a1),(12,vi p.a2),(13,vi a3)] f139 52],[gZ<|dc re p.a4 ++ [vi p.a5,.fG true],.a_]⟩
def awP(A:aS)(n:Int)(c:List Seen):LT (sS×Int×Bool) aeg:=.ak<|.c0 ⟨n,c,A.l c,(0,0,0,0,0,0,0),0⟩ 0
def Wz(A:aS):aeg->LT (sS×Int×Bool) aeg
 | .c0 p a3=>.br (A.bo a3 p.a2) (.ao (A.and (A.bE 0 a3)<|A.bo a3<|A.l p.a1)<|.br (A.cm (A.n qA p.a1 a3:Seen).1 2) (.ak<|.c0 p<|A.b .add .i64 a3 1)<|.br (A.k Q7 (A.n qA p.a1 a3:Seen).2.2).2 (.br (A.bq (A.k xM ((A.k Q7 (A.n qA p.a1 a3:Seen).2.2).1.2.2.1,p.a0)) 0) (.br (A.bo (A.k Q7 (A.n qA p.a1 a3:Seen).2.2).1.2.2.2.1 p.a0) (.ret ((A.k Q7 (A.n qA p.a1 a3:Seen).2.2).1,(A.n qA p.a1 a3:Seen).2.1,true))<|.ak<|.c0 p<|A.b .add .i64 a3 1)<|.ak<|.c0 p<|A.b .add .i64 a3 1)<|.ak<|.c0 p<|A.b .add .i64 a3 1)<|.ret ((0,0,(0,0,0,0,0),0,([]:List Int)),0,false)
def Db(n:Int)(s:Seen):Bool:=decide (s.1=2)&&(decide ((uq s.2.2).2=true)&&(decide (sC ((uq s.2.2).1.2.2.1,n)=0)&&decide ((uq s.2.2).1.2.2.2.1<n)))
def je(n:Int):List Seen->sS×Int×Bool
 | []=>((0,0,(0,0,0,0,0),0,([]:List Int)),0,false)
 | s::l=>bif Db n s then((uq s.2.2).1,s.2.1,true) else je n l
theorem Zq{n:Int}{l:List Seen}(h:(je n l).2.2=true):sC ((je n l).1.2.2.1,n)=0/\(je n l).1.2.2.2.1<n/\Ah (je n l).1=true:=by
 induction l with
 | nil=>exact absurd h (by simp[je])
 | cons s l ih=>
   rw[je] at h ⊢;cases hx:Db n s
   .simp_all
   .simp[Db,fZ,uR] at hx;exact⟨hx.c,hx.C,afo hx.2.1⟩
theorem apu{b:Bool}:b=decide (b=true):=by simp_all
theorem Wc{p:XK}{n:Int}{c:List Seen}(z:p.a0=n)(A:p.a1=c)(l:p.a2=(c.length:Int))(D:c.length<=140737488355328):∀(j i:Nat),c.length-i=j->i<=c.length->aV (Wz af) (.ak<|.c0 p i) (je n<|c.drop i):=by
 intro j
 induction j with
 | zero=>
   intro i C B;have:i=c.length:=by omega
   subst this;rw[aG,Wz,l,cY];exact(ap (by rw[bi];simp)).2 (.ret _)
 | succ j ih=>
   intro i C B;have f:i<c.length:=by omega
   have m:=ih (i+1) (by omega) (by omega);rw[aG,Wz,z,A,l];refine(ar (by simp_all;exact cr<|by omega)).2 (au.2 ⟨cJ f,?_⟩);rw[show(af.n qA c (i:Int):Seen)=c[i] from eO f _,xx f,je,jQ (i:=i)<|by omega];generalize c[i]=s;generalize je n (c.drop<|i+1)=r at m ⊢;have g:Db n s=false->aV (Wz af) (.ak<|.c0 p ((i+1:Nat):Int)) (bif Db n s then((uq s.2.2).1,s.2.1,true) else r):=λh=>aT (by simp_all) m;rw[show af.k Q7 s.2.2=uq s.2.2 from afp];refine bl (p:=¬s.1=2) dC (λh=>g (by rw[Db,gw h];rfl)) λo=>?_;refine bl (p:=(uq s.2.2).2=true) apu (λq=>?_) λh=>g (by rw[Db,gw h,jj,dU]);refine bl (p:=sC ((uq s.2.2).1.c,n)=0) dx (λu=>?_) λh=>g (by rw[Db,gw h,jj,dU,dU]);refine bl (p:=(uq s.2.2).1.d<n) rfl (λv=>?_) λh=>g (by rw[Db,gw h,dU,dU,dU]);exact aT (by rw[Db,cr<|dF.1 o,cr q,cr u,cr v];rfl)<|.ret _
def arM{n:Int}{c:List Seen}(f:c.length<=140737488355328):aV (Wz af) (awP af n c)<|je n c:=
 Wc (p:=⟨n,c,(c.length:Int),(0,0,0,0,0,0,0),0⟩) rfl rfl rfl f c.length 0 rfl (by omega)
def GK:(Int×List Seen)->(sS×Int×Bool):=λ(m,n)=>je m n
def auV:aK:=.all [yI,.slice qA] [Jn,yI,.bool] GK
def asK:Sd 139 auV:=fa<|aX ax dJ sl 21 [⟨139,2,[[0,4,11,12,13]]⟩] [] (λA (n,c)=>awP A n c) Wz akA (kz (fc func139 fz) (sc ayS (sc Nq sz))) (λA y=>match y with |.c0 p f=>⟨70,sl,by kernel_rfl⟩) λ(n,c) g h=>arM h.2.1
abbrev ac5(A:aS)(m:aA)(c:fB)(f:sS):LT Bool Empty:=(.br (A.bq (A.k zC (m,c.2.2.1,c.2.1)).2 0) (.br (A.bq f.1 (A.k zC (m,c.2.2.1,c.2.1)).1) (.ret<|A.bq (A.l f.2.2.2.2) 0)<|.ret false)<|.ret false)
def aov(A:aS)(m:aA)(c:fB)(f:sS):LT Bool Empty:=.br (A.bq (A.k zC (m,c.2.2.1,c.2.1)).2 0) (.br (A.cm (A.k zC (m,c.2.2.1,c.2.1)).1 3) (.ao (A.and (A.bE 0 c.2.2.1)<|A.bo c.2.2.1<|A.l m.2.2.2.2.2.2.2)<|.ao (A.and (A.bE 0 c.2.1)<|A.bo c.2.1<|A.l (A.n eT m.2.2.2.2.2.2.2 c.2.2.1:Mode).1)<|.br (A.bq (A.k zC (m,c.2.2.1,c.2.1)).2 0) (.br (A.bq f.1 (A.k zC (m,c.2.2.1,c.2.1)).1) (.ret<|A.bq (A.l f.2.2.2.2) (A.n yI (A.n eT m.2.2.2.2.2.2.2 c.2.2.1:Mode).1 c.2.1:Int))<|.ret false)<|.ret false)<|ac5 A m c f)<|ac5 A m c f
def BE(m:aA)(c:fB)(f:sS):Bool:=decide ((ll m c.2.2.1 c.2.1).2=0)&&(decide (f.1=(ll m c.2.2.1 c.2.1).1)&&decide ((f.2.2.2.2.length:Int)=bif decide ((ll m c.2.2.1 c.2.1).1=3) then(0:Int) else(af.n (.int .i64) (af.n eT m.2.2.2.2.2.2.2 c.2.2.1:Mode).1 c.2.1:Int)))
theorem yF{k n:Int}(h:(ll m k n).2=0):dP m=true/\(0<=n/\n<=m.1-1)/\(0<=k/\k<iP m):=by
 unfold ll at h;by_cases c:qd m n=0
 .have⟨a,b⟩:=KY c
  grind
 simp_all
variable{f:sS}
theorem arR:aV Empty.elim (aov af m c f)<|BE m c f:=by
 unfold aov ac5;rw[show af.k zC (m,c.c,c.2.1)=ll m c.c c.2.1 from rfl];by_cases h:(ll m c.c c.2.1).2=0
 .have⟨j,l,i⟩:=yF h;have n:=(vG<|BJ j i.1 i.2).1;have e:af.bq (ll m c.c c.2.1).2 0=true:=YO h;rw[e,BE,cr h,dO];refine(ar rfl).2 (bl (p:=¬(ll m c.c c.2.1).1=3) dC (λg=>au.2 ⟨yK i.1 i.2,au.2 ⟨yJ n l.1<|by omega,(ar rfl).2 ?_⟩⟩) λg=>(ar rfl).2 ?_)
  .rw[gw g];refine bl (p:=f.1=(ll m c.c c.2.1).1) dx (λk=>?_) λk=>?_
   .exact aT (by rw[cr k,dW];rfl)<|.ret _
   .exact aT (by simp_all)<|.ret _
  .rw[cr<|dF.1 g];refine bl (p:=f.1=(ll m c.c c.2.1).1) dx (λk=>?_) λk=>?_
   .exact aT (by rw[cr k,dW];rfl)<|.ret _
   .exact aT (by simp_all)<|.ret _
 .have e:af.bq (ll m c.c c.2.1).2 0=false:=apB h;rw[e,BE,gw h];exact(ap rfl).2 ((ap rfl).2<|.ret _)
def TY:(aA×fB×sS)->Bool:=λ(m,c,k)=>BE m c k
def au6:aK:=.all [bD,iB,Jn] [.bool] TY
def aiE:Sd 194 au6:=fa<|bX ax dJ sl 75 [] (λA (m,c,f)=>aov A m c f) (kz (fc func194 fz) (sc aiI sz)) λ(m,c,f) g h=>arR
def aoo(A:aS)(m:aA)(n:Node)(f:sS):LT Bool Empty:=.br (A.k TU (m,f.2.2.1)) (.br (A.cm f.2.2.1.2.1 n.1) (.br (A.k T5 (f.2.2.1,f.2.2.1.2.1)) (.ret<|A.k TY (m,f.2.2.1,f))<|.ret false)<|.ret false)<|.ret false
def Uy(m:aA)(n:Node)(f:sS):Bool:=jE m f.2.2.1&&(decide (¬f.2.2.1.2.1=n.1)&&(VS f.2.2.1 f.2.2.1.2.1&&BE m f.2.2.1 f))
theorem ayA:aV Empty.elim (aoo af m n f)<|Uy m n f:=by
 unfold aoo Uy;rw[show af.k TU (m,f.c)=jE m f.c from rfl];cases jE m f.c
 .exact(ap rfl).2 (.ret _)
 refine(ar rfl).2 (bl (p:=¬f.c.2.1=n.1) dC (λh=>?_) λh=>aT (by simp_all)<|.ret _);rw[cr h,show af.k T5 (f.c,f.c.2.1)=VS f.c f.c.2.1 from rfl];cases VS f.c f.c.2.1
 .exact(ap rfl).2 (.ret _)
 .exact(ar rfl).2 (.ret _)
def TS:(aA×Node×sS)->Bool:=λ(m,c,k)=>Uy m c k
def auX:aK:=.all [bD,gm,Jn] [.bool] TS
def asL:Sd 142 auX:=fa<|bX ax dJ sl 44 [] (λA (m,n,f)=>aoo A m n f) (kz (fc func142 fz) (sc aiC (sc aiE (sc aiG sz)))) λ(m,n,f) c h=>ayA
def qt(m:aA)(c:fB)(r:Int):fB:=bif decide ((EZ m c r).2=0) then(EZ m c r).1 else c
def zK(m:aA)(n:Node)(c:fB)(f:sS):Node:=(n.1,3,qt m c f.2.1,(n.1,m.1,c.2.2.2.2,1,0,0,0),0,false,0,bif decide (f.1=4) then(tq n.2.2.2.2.2.2.2 c.2.1 f.2.2.2.2).1 else n.2.2.2.2.2.2.2)
def my(m:aA)(n:Node)(c:List Seen)(f:Bool):Node×Int×Bool×Int:=
 bif decide (dp m n=0) then
  bif decide (n.2.1=1) then
   bif decide ((c.length:Int)=2) then
    bif (je m.1 c).2.2 then
     bif decide ((je m.1 c).1.1=1) then
      bif decide ((je m.1 c).1.2.2.2.1=n.1) then(n,0,false,0)
      else bif f && !n.2.2.2.2.2.1 then((n.1,n.2.1,n.2.2.1,n.2.2.2.1,(vX m n.1).1,true,n.2.2.2.2.2.2),(je m.1 c).2.1,false,0)
      else(zK m n (0,(je m.1 c).1.2.2.2.1,0,0,af.b .shl .i64 1 (je m.1 c).1.2.2.2.1) (je m.1 c).1,(je m.1 c).2.1,true,0)
     else bif Uy m n (je m.1 c).1 then(zK m n (je m.1 c).1.2.2.1 (je m.1 c).1,(je m.1 c).2.1,true,0)
     else(n,0,false,0)
    else(n,0,false,0)
   else(j_,0,false,2)
  else(j_,0,false,181)
 else(j_,0,false,dp m n)
structure Xx where(a0:Int)(a1:aA)(a2 a3:vM)(a4:Int)(a5:Bool)(a6 a7 a8 a9:Int)(jd:Node)(lq:sS)
structure Xy where(b0:aA)(b1:sS)(b2:fB)(b3:Int)(b4:Node)(b5 b6:vM)(b7:Int)(b8:Bool)(b9 b10 b11 b12:Int)
structure Xz where(c0:aA)(c1:sS)(c2:fB)(c3:Int)(c4:Node)(c5 c6:vM)(c7:Int)(c8:Bool)(c9 c10 c11 c12:Int)
structure XA where(d0:aA)(d1 d2:Int)(d3:Node)(d4 d5:vM)(d6:Int)(d7:Bool)(d8 d9 Y1 d11:Int)
structure XB where(e0:aA)(e1 e2:Int)(e3:Node)(e4 e5:vM)(e6:Int)(e7:Bool)(e8 e9 e10 e11:Int)
inductive Ys where|c0(p:Xx)|c1(p:Xy)|c2(p:Xz)|c3(p:XA)|c4(p:XB)
noncomputable def aku:Ys->gY
 | .c0 p=>⟨[Ac 93 101 [(3,pZ 0),(6,pZ 1),(10,pZ 2),(12,pZ 3),(13,vi p.a0)] f93 998],[dZ bD p.a1,gZ<|dc re p.a2++dc re p.a3 ++ [vi p.a4,vb p.a5,vi p.a6,vi p.a7,.fG true,.fG true,vi p.a8,vi p.a9],dZ gm p.jd,dZ Jn p.lq,.a_]⟩
 | .c1 p=>⟨[Ac 141 29 [(0,.agg<|dc bD p.b0),(1,pZ 0),(2,.agg<|dc Jn p.b1),(3,.agg<|dc iB p.b2)] f141 2,Zr 93 101 [(6,pZ 1),(10,pZ 0),(13,vi p.b3)]<|.sD (ow f93 7998) [0,0,0,4,0,16,48,124,255] 8 [] []::sk f93 7998],[dZ gm p.b4,gZ<|dc re p.b5++dc re p.b6 ++ [vi p.b7,vb p.b8,vi p.b9,vi p.b10,.fG true,.fG true,vi p.b11,vi p.b12],.a_]⟩
 | .c2 p=>⟨[Ac 141 29 [(0,.agg<|dc bD p.c0),(1,pZ 0),(2,.agg<|dc Jn p.c1),(3,.agg<|dc iB p.c2)] f141 2,E8 93 101 [(6,pZ 1),(10,pZ 0),(13,vi p.c3)] f93 31998 4],[dZ gm p.c4,gZ<|dc re p.c5++dc re p.c6 ++ [vi p.c7,vb p.c8,vi p.c9,vi p.c10,.fG true,.fG true,vi p.c11,vi p.c12],.a_]⟩
 | .c3 p=>⟨[Ac 193 24 [(0,.agg<|dc bD p.d0),(1,pZ 0),(2,vi p.d1)] f193 2,⟨141,29,.leaf,[.ops (ow f141 31)<|(ow f141 31).toList.drop 4],[],none⟩,Zr 93 101 [(6,pZ 1),(10,pZ 0),(13,vi p.d2)]<|.sD (ow f93 7998) [0,0,0,4,0,16,48,124,255] 8 [] []::sk f93 7998],[dZ gm p.d3,gZ<|dc re p.d4++dc re p.d5 ++ [vi p.d6,vb p.d7,vi p.d8,vi p.d9,.fG true,.fG true,vi p.Y1,vi p.d11],.a_]⟩
 | .c4 p=>⟨[Ac 193 24 [(0,.agg<|dc bD p.e0),(1,pZ 0),(2,vi p.e1)] f193 2,⟨141,29,.leaf,[.ops (ow f141 31)<|(ow f141 31).toList.drop 4],[],none⟩,E8 93 101 [(6,pZ 1),(10,pZ 0),(13,vi p.e2)] f93 31998 4],[dZ gm p.e3,gZ<|dc re p.e4++dc re p.e5 ++ [vi p.e6,vb p.e7,vi p.e8,vi p.e9,.fG true,.fG true,vi p.e10,vi p.e11],.a_]⟩
abbrev IS(A:aS)(m:aA)(n:Node):=(A.k kl (m,n,A.bq n.2.1 1))
abbrev ac1(A:aS)(m:aA)(n:Node)(c:List Seen):LT (Node×Int×Bool×Int) Ys:=(.ak<|.c0 ⟨(A.k GK (m.1,c)).2.1,m,(0,0,0,0,0,0,0),(0,0,0,0,0,0,0),0,false,0,0,0,0,(IS A m n).1,(A.k GK (m.1,c)).1⟩)
def aob(A:aS)(m:aA)(n:Node)(c:List Seen):LT (Node×Int×Bool×Int) Ys:=.br (A.cm (IS A m n).2 0) (.ret ((0,0,(0,0,0,0,0),(0,0,0,0,0,0,0),0,false,0,0,([]:List Int),([]:List iE),0,0),0,false,(IS A m n).2))<|.br (A.cm (A.l c) 2) (.ret ((0,0,(0,0,0,0,0),(0,0,0,0,0,0,0),0,false,0,0,([]:List Int),([]:List iE),0,0),0,false,2))<|.br (A.not (A.k GK (m.1,c)).2.2) (.ret ((IS A m n).1,0,false,0))<|.br (A.bq (A.k GK (m.1,c)).1.1 1) (.br (A.bq (A.k GK (m.1,c)).1.2.2.2.1 (IS A m n).1.1) (.ret ((IS A m n).1,0,false,0))<|ac1 A m n c)<|ac1 A m n c
def EU(A:aS):Ys->LT (Node×Int×Bool×Int) Ys
 | .c0 p=>.br (A.bq p.lq.1 1) (.br (A.not p.jd.2.2.2.2.2.1) (.ret ((p.jd.1,p.jd.2.1,p.jd.2.2.1,p.jd.2.2.2.1,A.k Ed (p.a1,p.jd.1),true,p.jd.2.2.2.2.2.2),p.a0,false,0))<|.br (A.bq p.lq.1 1) (.ao (A.bE 0 p.lq.2.2.2.1)<|.ak<|.c1 ⟨p.a1,p.lq,(0,p.lq.2.2.2.1,0,0,A.b .shl .i64 1 p.lq.2.2.2.1),p.a0,p.jd,p.a2,p.a3,p.a4,p.a5,p.a6,p.a7,p.a8,p.a9⟩)<|.br (A.k TS (p.a1,p.jd,p.lq)) (.ak<|.c2 ⟨p.a1,p.lq,p.lq.2.2.1,p.a0,p.jd,p.a2,p.a3,p.a4,p.a5,p.a6,p.a7,p.a8,p.a9⟩)<|.ret (p.jd,0,false,0))<|.br (A.bq p.lq.1 1) (.ao (A.bE 0 p.lq.2.2.2.1)<|.ak<|.c1 ⟨p.a1,p.lq,(0,p.lq.2.2.2.1,0,0,A.b .shl .i64 1 p.lq.2.2.2.1),p.a0,p.jd,p.a2,p.a3,p.a4,p.a5,p.a6,p.a7,p.a8,p.a9⟩)<|.br (A.k TS (p.a1,p.jd,p.lq)) (.ak<|.c2 ⟨p.a1,p.lq,p.lq.2.2.1,p.a0,p.jd,p.a2,p.a3,p.a4,p.a5,p.a6,p.a7,p.a8,p.a9⟩)<|.ret (p.jd,0,false,0)
 | .c1 p=>.br (A.bq p.b1.1 4) (.br (A.bq (A.k Ee (p.b4.2.2.2.2.2.2.2,p.b2.2.1,p.b1.2.2.2.2)).2 0) (.ak<|.c3 ⟨p.b0,p.b1.2.1,p.b3,(p.b4.1,3,p.b2,(p.b4.1,p.b0.1,p.b2.2.2.2.2,1,0,0,0),0,false,0,(A.k Ee (p.b4.2.2.2.2.2.2.2,p.b2.2.1,p.b1.2.2.2.2)).1),p.b5,p.b6,p.b7,p.b8,p.b9,p.b10,p.b11,p.b12⟩)<|.ak<|.c3 ⟨p.b0,p.b1.2.1,p.b3,(p.b4.1,3,p.b2,(p.b4.1,p.b0.1,p.b2.2.2.2.2,1,0,0,0),0,false,0,p.b4.2.2.2.2.2.2.2),p.b5,p.b6,p.b7,p.b8,p.b9,p.b10,p.b11,p.b12⟩)<|.ak<|.c3 ⟨p.b0,p.b1.2.1,p.b3,(p.b4.1,3,p.b2,(p.b4.1,p.b0.1,p.b2.2.2.2.2,1,0,0,0),0,false,0,p.b4.2.2.2.2.2.2.2),p.b5,p.b6,p.b7,p.b8,p.b9,p.b10,p.b11,p.b12⟩
 | .c2 p=>.br (A.bq p.c1.1 4) (.br (A.bq (A.k Ee (p.c4.2.2.2.2.2.2.2,p.c2.2.1,p.c1.2.2.2.2)).2 0) (.ak<|.c4 ⟨p.c0,p.c1.2.1,p.c3,(p.c4.1,3,p.c2,(p.c4.1,p.c0.1,p.c2.2.2.2.2,1,0,0,0),0,false,0,(A.k Ee (p.c4.2.2.2.2.2.2.2,p.c2.2.1,p.c1.2.2.2.2)).1),p.c5,p.c6,p.c7,p.c8,p.c9,p.c10,p.c11,p.c12⟩)<|.ak<|.c4 ⟨p.c0,p.c1.2.1,p.c3,(p.c4.1,3,p.c2,(p.c4.1,p.c0.1,p.c2.2.2.2.2,1,0,0,0),0,false,0,p.c4.2.2.2.2.2.2.2),p.c5,p.c6,p.c7,p.c8,p.c9,p.c10,p.c11,p.c12⟩)<|.ak<|.c4 ⟨p.c0,p.c1.2.1,p.c3,(p.c4.1,3,p.c2,(p.c4.1,p.c0.1,p.c2.2.2.2.2,1,0,0,0),0,false,0,p.c4.2.2.2.2.2.2.2),p.c5,p.c6,p.c7,p.c8,p.c9,p.c10,p.c11,p.c12⟩
 | .c3 p=>.br (A.bq (A.k Bp (p.d0,p.d3.2.2.1,p.d1)).2 0) (.ret ((p.d3.1,p.d3.2.1,(A.k Bp (p.d0,p.d3.2.2.1,p.d1)).1,p.d3.2.2.2),p.d2,true,0))<|.ret (p.d3,p.d2,true,0)
 | .c4 p=>.br (A.bq (A.k Bp (p.e0,p.e3.2.2.1,p.e1)).2 0) (.ret ((p.e3.1,p.e3.2.1,(A.k Bp (p.e0,p.e3.2.2.1,p.e1)).1,p.e3.2.2.2),p.e2,true,0))<|.ret (p.e3,p.e2,true,0)
def Y8(l:dp m n=0)(i:Ah f=true)(g:Uy m n f=true):(tq n.2.2.2.2.2.2.2 f.2.2.1.2.1 f.2.2.2.2).2=0:=by
 have c:=fS.1 (dw l).2;simp[Uy,fZ,BE,uR] at g;have j:=yF g.2.2.2.1;simp[Ah,fZ,uR] at i;have h:=c.2.2.2.2.2.1;rw[tq,c.2.2.2.1,cr (show 0<=f.2.2.1.2.1/\f.2.2.1.2.1<=(n.2.2.2.2.2.2.2.2.2.1.length:Int)-1 by rw[h];exact j.2.1),gw<|show ¬8<(f.2.2.2.2.length:Int) by omega];rfl
def ame{p:XA}:aV (EU af) (.ak<|.c3 p) ((p.d3.1,p.d3.2.1,qt p.d0 p.d3.2.2.1 p.d1,p.d3.2.2.2),p.d2,true,0):=by
 rw[aG,EU];refine bl (p:=(EZ p.d0 p.d3.c p.d1).2=0) dx (λh=>?_) λh=>?_
 .exact aT (by rw[qt,cr h];rfl)<|.ret _
 .exact aT (by rw[qt,gw h];rfl)<|.ret _
def aar{p:XB}:aV (EU af) (.ak<|.c4 p) ((p.e3.1,p.e3.2.1,qt p.e0 p.e3.2.2.1 p.e1,p.e3.2.2.2),p.e2,true,0):=by
 rw[aG,EU];refine bl (p:=(EZ p.e0 p.e3.c p.e1).2=0) dx (λh=>?_) λh=>?_
 .exact aT (by rw[qt,cr h];rfl)<|.ret _
 .exact aT (by rw[qt,gw h];rfl)<|.ret _
theorem amc{p:Xy}(h:p.b1.1=1):aV (EU af) (.ak<|.c1 p) (zK p.b0 p.b4 p.b2 p.b1,p.b3,true,0):=by
 rw[aG,EU];refine(ap (by rw[dx];simp_all)).2 (aT ?_ ame);rw[zK,gw<|show ¬p.b1.1=4 by omega];rfl
def amd{p:Xz}(h:p.c1.1=4->(tq p.c4.2.2.2.2.2.2.2 p.c2.2.1 p.c1.2.2.2.2).2=0):aV (EU af) (.ak<|.c2 p) (zK p.c0 p.c4 p.c2 p.c1,p.c3,true,0):=by
 rw[aG,EU];refine bl (p:=p.c1.1=4) dx (λg=>?_) λg=>aT (by rw[zK,gw g];rfl) aar;exact(ar<|YO<|h g).2 (aT (by rw[zK,cr g];rfl) aar)
variable{t:Int}
theorem amb{p:Xx}(c:p.a0=t)(g:p.a1=m)(i:p.jd=n)(l:p.lq=f)(o:0<=f.2.2.2.1)(j:Uy m n f=true->(tq n.2.2.2.2.2.2.2 f.2.2.1.2.1 f.2.2.2.2).2=0):aV (EU af) (.ak<|.c0 p)<|bif decide (f.1=1) then(bif !n.2.2.2.2.2.1 then((n.1,n.2.1,n.2.2.1,n.2.2.2.1,(vX m n.1).1,true,n.2.2.2.2.2.2),t,false,0) else(zK m n (0,f.2.2.2.1,0,0,af.b .shl .i64 1 f.2.2.2.1) f,t,true,0)) else bif Uy m n f then(zK m n f.2.2.1 f,t,true,0) else(n,0,false,0):=by
 rw[aG,EU,c,g,i,l];refine bl (p:=f.1=1) dx (λh=>?_) λh=>?_
 .rw[cr h,cond_true];cases hb:n.2.2.2.2.2.1
  .exact(ar rfl).2 (.ret _)
  .exact(ap rfl).2 ((ar (by rw[dx];simp_all)).2<|au.2 ⟨cr o,amc h⟩)
 .rw[gw h,cond_false];refine(ap (by rw[dx];simp_all)).2 (?_);rw[show af.k TS (m,n,f)=Uy m n f from rfl];cases hj:Uy m n f
  .exact(ap rfl).2 (.ret _)
  .exact(ar rfl).2 (amd λ_=>j hj)
theorem arO{l:List Seen}:aV (EU af) (aob af m n l)<|my m n l true:=by
 unfold aob ac1 IS my;refine ?_;rw[show af.k kl (m,n,af.bq n.2.1 1)=nF m n (af.bq n.2.1 1) from rfl,dx,nF];by_cases h:dp m n=0
 .rw[cr h,cond_true,cond_true];cases decide (n.2.1=1)
  .exact(ar rfl).2 (.ret _)
  rw[cond_true,cond_true];refine(ap rfl).2 (bl (p:=¬(l.length:Int)=2) dC (λo=>aT (by rw[gw o];rfl)<|.ret _) λo=>?_);rw[cr<|dF.1 o,cond_true,show af.k GK (m.1,l)=je m.1 l from rfl];cases he:(je m.1 l).2.2
  .exact(ar rfl).2 (.ret _)
  have⟨z,A,q⟩:=Zq he;have v:=aac q;have B:=λ{a b c d e g i j}=>amb (p:=⟨(je m.1 l).2.1,m,a,b,c,d,e,g,i,j,n,(je m.1 l).1⟩) (m:=m) (n:=n) (f:=(je m.1 l).1) (t:=(je m.1 l).2.1) rfl rfl rfl rfl v.1<|Y8 h q;generalize je m.1 l=x at *;refine(ap rfl).2 (bl (p:=x.1.1=1) dx (λr=>bl (p:=x.1.d=n.1) dx (λu=>?_) λu=>?_) λr=>?_)
  .exact aT (by simp_all)<|.ret _
  all_goals simp_all
 .rw[gw h];exact(ar<|xv h).2 (.ret _)
def ZH:(aA×Node×List Seen)->(Node×Int×Bool×Int):=λ(m,n,s)=>my m n s true
def auG:aK:=.all [bD,gm,.slice qA] [gm,yI,.bool,yI] ZH
def asz:Sd 93 auG:=fa<|aX ax dJ sl 93 [] [⟨93,10,[[3,6,10,12,13]]⟩,⟨141,0,[[0,1,2,3],[6,10,13]]⟩,⟨193,0,[[0,1,2],[],[6,10,13]]⟩] (λA (m,n,c)=>aob A m n c) EU aku (kz (fc func93 (fc func80 (fc func141 (fc func192 (fc func193 fz))))) (sc ED (sc asK (sc Qb (sc asL (sc aiH (sc acG sz))))))) (λA y=>match y with |.c0 p=>⟨42,sl,by kernel_rfl⟩|.c1 p=>⟨125,sl,by kernel_rfl⟩|.c2 p=>⟨125,sl,by kernel_rfl⟩|.c3 p=>⟨51,sl,by kernel_rfl⟩|.c4 p=>⟨51,sl,by kernel_rfl⟩) λ(m,n,c) f h=>arO
def K9{x:List UInt8}:af.z .neq x x=false:=by show(!(x==x))=false;simp
def YZ:af.cm x x=false:=by rw[dC];simp
instance:DecidableEq iE:=inferInstanceAs (DecidableEq (List Int×Int))
instance:DecidableEq fB:=inferInstanceAs (DecidableEq (Int×Int×Int×Int×Int))
instance:DecidableEq vM:=inferInstanceAs (DecidableEq (Int×Int×Int×Int×Int×Int×Int))
instance:DecidableEq iG:=inferInstanceAs (DecidableEq (Int×List Int×List iE×Int×Int))
def apP:DecidableEq<|Int×Bool×Int×iG:=inferInstance
def apQ:DecidableEq<|fB×vM×Int×Bool×Int×iG:=have:=apP;inferInstance
instance:DecidableEq Node:=have:=apQ;inferInstanceAs (DecidableEq (Int×Int×(fB×vM×Int×Bool×Int×iG)))
structure ajr where(a1 a2:iG)
inductive aec where|c0(p:ajr)(a0:Int)
noncomputable def akw:aec->gY
 | .c0 p a0=>⟨[gW 74 80 [(2,pZ 0),(3,pZ 1),(5,vi a0)] f74 116],[dZ rc p.a1,dZ rc p.a2,.a_]⟩
def awO(A:aS)(a:iG)(b:iG):LT Bool aec:=.br (A.cm a.1 b.1) (.ret false)<|.br (A.z .neq (A.bytes a.2.1)<|A.bytes b.2.1) (.ret false)<|.br (A.cm a.2.2.2.1 b.2.2.2.1) (.ret false)<|.br (A.cm a.2.2.2.2 b.2.2.2.2) (.ret false)<|.br (A.cm (A.l a.2.2.1)<|A.l b.2.2.1) (.ret false)<|.ak<|.c0 ⟨a,b⟩ 0
def ab4(A:aS):aec->LT Bool aec
 | .c0 p a0=>.br (A.bo a0<|A.l p.a1.2.2.1) (.ao (A.and (A.bE 0 a0)<|A.bo a0<|A.l p.a1.2.2.1)<|.ao (A.and (A.bE 0 a0)<|A.bo a0<|A.l p.a2.2.2.1)<|.br (A.z .neq (A.bytes (A.n kj p.a1.2.2.1 a0:iE).1)<|A.bytes (A.n kj p.a2.2.2.1 a0:iE).1) (.ret false)<|.ao (A.and (A.bE 0 a0)<|A.bo a0<|A.l p.a1.2.2.1)<|.ao (A.and (A.bE 0 a0)<|A.bo a0<|A.l p.a2.2.2.1)<|.br (A.cm (A.n kj p.a1.2.2.1 a0:iE).2 (A.n kj p.a2.2.2.1 a0:iE).2) (.ret false)<|.ak<|.c0 p<|A.b .add .i64 a0 1)<|.ret true
theorem WJ{c:iG}(l:c.2.2.1.length<=140737488355328):∀(j i:Nat),c.2.2.1.length-i=j->i<=c.2.2.1.length->aV (ab4 af) (.ak<|.c0 ⟨c,c⟩ i) true:=by
 intro j
 induction j with
 | zero=>
   intro i h g;rw[aG,ab4];exact(ap (by rw[Uv];grind)).2 (.ret _)
 | succ j ih=>
   intro i h g;have f:i<c.2.2.1.length:=by omega
   rw[aG,ab4];refine(ar (by rw[Uv];simp_all)).2 (au.2 ⟨cJ f,au.2 ⟨cJ f,(ap K9).2<|au.2 ⟨cJ f,au.2 ⟨cJ f,(ap YZ).2 ?_⟩⟩⟩⟩);rw[jQ (i:=i)<|by omega]
   grind
def anJ{a b:iG}(c:a.2.2.1.length<=140737488355328)(h:a=b):aV (ab4 af) (awO af a b) true:=by
 subst h;refine(ap (by rw[dC];simp)).2 ((ap K9).2<|(ap (by rw[dC];simp)).2<|(ap (by rw[dC];simp)).2<|(ap (by rw[dC];simp)).2<|WJ c _ 0 rfl<|by omega)
def ahT:(iG×iG)->Bool:=λ_=>true
def abz:(iG×iG)->Bool:=λ(a,b)=>decide<|a=b
def auO:aK:=⟨[rc,rc],[.bool],abz,ahT,false⟩
def asF:Sd 74 auO:=aX ax dJ sl 62 [⟨74,4,[[2,3,5]]⟩] [] (λA (a,b)=>awO A a b) ab4 akw (kz (fc func74 fz) sz) (λA y=>match y with |.c0 p f=>⟨60,sl,by kernel_rfl⟩) λ((a,b):iG×iG) c h=>anJ h.1.c.1<|of_decide_eq_true c
def awN(A:aS)(a:Node)(b:Node):LT Bool Empty:=.br (A.bq a.1 b.1) (.br (A.bq a.2.1 b.2.1) (.br (A.and (A.bq a.2.2.1.1 b.2.2.1.1)<|A.and (A.bq a.2.2.1.2.1 b.2.2.1.2.1)<|A.and (A.bq a.2.2.1.2.2.1 b.2.2.1.2.2.1)<|A.and (A.bq a.2.2.1.2.2.2.1 b.2.2.1.2.2.2.1)<|A.and (A.bq a.2.2.1.2.2.2.2 b.2.2.1.2.2.2.2) true) (.br (A.and (A.bq a.2.2.2.1.1 b.2.2.2.1.1)<|A.and (A.bq a.2.2.2.1.2.1 b.2.2.2.1.2.1)<|A.and (A.bq a.2.2.2.1.2.2.1 b.2.2.2.1.2.2.1)<|A.and (A.bq a.2.2.2.1.2.2.2.1 b.2.2.2.1.2.2.2.1)<|A.and (A.bq a.2.2.2.1.2.2.2.2.1 b.2.2.2.1.2.2.2.2.1)<|A.and (A.bq a.2.2.2.1.2.2.2.2.2.1 b.2.2.2.1.2.2.2.2.2.1)<|A.and (A.bq a.2.2.2.1.2.2.2.2.2.2 b.2.2.2.1.2.2.2.2.2.2) true) (.br (A.bq a.2.2.2.2.1 b.2.2.2.2.1) (.br (A.q a.2.2.2.2.2.1 b.2.2.2.2.2.1) (.br (A.bq a.2.2.2.2.2.2.1 b.2.2.2.2.2.2.1) (.ao (A.k abz (a.2.2.2.2.2.2.2,b.2.2.2.2.2.2.2))<|.ret<|A.k ahT (a.2.2.2.2.2.2.2,b.2.2.2.2.2.2.2))<|.ret false)<|.ret false)<|.ret false)<|.ret false)<|.ret false)<|.ret false)<|.ret false
def amS{a b:Node}(h:a=b):aV Empty.elim (awN af a b) true:=by
 subst h;have e:∀x:Int,af.bq x x=true:=λx=>by rw[dx];simp
 refine(ar<|e _).2 ((ar<|e _).2<|(ar (by rw[e,e,e,e,e];rfl)).2<|(ar (by rw[e,e,e,e,e,e,e];rfl)).2<|(ar<|e _).2<|(ar (by rw[agY];simp)).2<|(ar<|e _).2<|au.2 ⟨cr rfl,.ret _⟩)
def ahS:(Node×Node)->Bool:=λ_=>true
def RE:(Node×Node)->Bool:=λ(a,b)=>decide<|a=b
def auH:aK:=⟨[gm,gm],[.bool],RE,ahS,false⟩
def asA:Sd 39 auH:=bX ax dJ sl 70 [] (λA (a,b)=>awN A a b) (kz (fc func39 fz) (sc asF sz)) λ((a,b):Node×Node) c h=>amS<|of_decide_eq_true c
abbrev lY(A:aS)(m:aA)(n:Node):=(A.k kl (m,n,A.bq n.2.1 1))
def aol(A:aS)(m:aA)(n:Node):LT (Node×sS×Bool×Int) Empty:=.br (A.cm (lY A m n).2 0) (.ret ((0,0,(0,0,0,0,0),(0,0,0,0,0,0,0),0,false,0,0,([]:List Int),([]:List iE),0,0),(0,0,(0,0,0,0,0),0,([]:List Int)),false,(lY A m n).2))<|.br (A.jD (A.b .sub .i64 (lY A m n).1.2.2.2.2.1 1) 0) (.ret (((lY A m n).1.1,(lY A m n).1.2.1,(lY A m n).1.2.2.1,(lY A m n).1.2.2.2.1,A.b .sub .i64 (lY A m n).1.2.2.2.2.1 1,(lY A m n).1.2.2.2.2.2),(0,0,(0,0,0,0,0),0,([]:List Int)),false,0))<|.ao (A.and (A.bE 0 (lY A m n).1.1)<|A.bo (lY A m n).1.1<|A.l m.2.2.2.2.2.2.1)<|.br (A.not (A.n .bool m.2.2.2.2.2.2.1 (lY A m n).1.1:Bool)) (.ret (((lY A m n).1.1,(lY A m n).1.2.1,(lY A m n).1.2.2.1,(lY A m n).1.2.2.2.1,A.k Ed (m,(lY A m n).1.1),(lY A m n).1.2.2.2.2.2),(0,0,(0,0,0,0,0),0,([]:List Int)),false,0))<|.ao (A.bE 0 (lY A m n).1.1)<|.ret (((lY A m n).1.1,2,(0,(lY A m n).1.1,0,0,A.b .shl .i64 1 (lY A m n).1.1),((lY A m n).1.1,m.1,A.b .shl .i64 1 (lY A m n).1.1,1,0,0,0),0,(lY A m n).1.2.2.2.2.2),(1,0,(0,0,0,0,0),(lY A m n).1.1,([]:List Int)),true,0)
def Cs:sS:=(0,0,(0,0,0,0,0),0,([]:List Int))
def iL(m:aA)(n:Node):Node×sS×Bool×Int:=
 bif decide (dp m n=0) then
  bif decide (n.2.1=1) then
   bif decide (0<n.2.2.2.2.1-1) then((n.1,n.2.1,n.2.2.1,n.2.2.2.1,n.2.2.2.2.1-1,n.2.2.2.2.2),Cs,false,0)
   else bif (af.n .bool m.2.2.2.2.2.2.1 n.1:Bool) then((n.1,2,(0,n.1,0,0,af.b .shl .i64 1 n.1),(n.1,m.1,af.b .shl .i64 1 n.1,1,0,0,0),0,n.2.2.2.2.2),(1,0,(0,0,0,0,0),n.1,([]:List Int)),true,0)
   else((n.1,n.2.1,n.2.2.1,n.2.2.2.1,(vX m n.1).1,n.2.2.2.2.2),Cs,false,0)
  else(j_,Cs,false,181)
 else(j_,Cs,false,dp m n)
theorem afU{m:aA}{n:Int}:(vX m n).1<=9223372036854775807:=by
 unfold vX;cases decide (qd m n=0)
 .simp_all
 .rw[cond_true,gG,IntKind.wrap_i64];omega
def ahE(h:dp m n=0)(f:n.2.1=1):1<=n.2.2.2.2.1/\af.b .sub .i64 n.2.2.2.2.1 1=n.2.2.2.2.1-1:=by
 have c:=(fS.1 (dw h).2).i;rw[DD,cr f,cond_true,uR] at c;have:=@afU m n.1;exact⟨c.1,by rw[gX,lZ (by omega)<|by omega]⟩
def ar0:aV Empty.elim (aol af m n)<|iL m n:=by
 unfold aol lY iL;rw[show af.k kl (m,n,af.bq n.2.1 1)=nF m n (af.bq n.2.1 1) from rfl,dx,nF];by_cases h:dp m n=0
 .rw[cr h,cond_true,cond_true];by_cases c:n.2.1=1
  .have⟨l,i⟩:=ahE h c;have g:=(fS.1 (dw h).2).1;have j:=iW (dw h).1;rw[cr c,cond_true,cond_true,i];refine(ap rfl).2 (bl (p:=0<n.e-1) rfl (λf=>?_) λf=>au.2 ⟨yJ j.c g.1<|show n.1<m.1 by omega,?_⟩)
   .exact aT (by rw[cr f];rfl)<|.ret _
   rw[gw f,cond_false];cases (af.n .bool m.g n.1:Bool)
   .exact(ar rfl).2 (.ret _)
   .refine(ap rfl).2 (au.2 ⟨cr<|show 0<=n.1 from g.1,?_⟩);exact .ret _
  .rw[gw c];exact(ar rfl).2 (.ret _)
 .rw[gw h];exact(ar<|xv h).2 (.ret _)
def GJ:(aA×Node)->(Node×sS×Bool×Int):=λ(m,n)=>iL m n
def auS:aK:=.all [bD,gm] [gm,Jn,.bool,yI] GJ
def asJ:Sd 102 auS:=fa<|bX ax dJ sl 130 [] (λA (m,n)=>aol A m n) (kz (fc func102 (fc func80 fz)) (sc ED (sc Qb sz))) λ(m,n) c h=>ar0
abbrev tY(A:aS)(m:aA)(n:Node):=(A.k kl (m,n,A.k mG n))
abbrev Li(A:aS)(m:aA)(n:Node):=(A.k ahX ((tY A m n).1.2.2.1,m.1))
abbrev ac4(A:aS)(m:aA)(n:Node):LT (Node×Int) Empty:=(.ret (((tY A m n).1.1,(tY A m n).1.2.1,(Li A m n).1,(tY A m n).1.2.2.2),(Li A m n).2))
def aok(A:aS)(m:aA)(n:Node):LT (Node×Int) Empty:=.br (A.cm (tY A m n).2 0) (.ret ((0,0,(0,0,0,0,0),(0,0,0,0,0,0,0),0,false,0,0,([]:List Int),([]:List iE),0,0),(tY A m n).2))<|.br (A.bq (Li A m n).2 0) (.br (A.bq (Li A m n).1.2.1 0) (.ret (((tY A m n).1.1,(tY A m n).1.2.1,(Li A m n).1,(tY A m n).1.2.2.2.1,(tY A m n).1.2.2.2.2.1,(tY A m n).1.2.2.2.2.2.1,(tY A m n).1.2.2.2.2.2.2.1,(A.k ZL (tY A m n).1.2.2.2.2.2.2.2).1),(A.k ZL (tY A m n).1.2.2.2.2.2.2.2).2))<|ac4 A m n)<|ac4 A m n
def jI(m:aA)(n:Node):Node×Int:=
 bif decide (dp m n=0) then
  bif lh n then
   bif decide ((qs n.2.2.1 m.1).1.2.1=0) then((n.1,n.2.1,(qs n.2.2.1 m.1).1,n.2.2.2.1,n.2.2.2.2.1,n.2.2.2.2.2.1,n.2.2.2.2.2.2.1,(JZ n.2.2.2.2.2.2.2).1),0)
   else((n.1,n.2.1,(qs n.2.2.1 m.1).1,n.2.2.2),0)
  else(j_,181)
 else(j_,dp m n)
theorem step_ok(h:dp m n=0)(g:lh n=true):(qs n.2.2.1 m.1).2=0:=by
 have c:=(fS.1 (dw h).2).h;rw[z8,g,cond_true,fZ] at c;have f:=c.1;simp[jE,fZ,uR] at f;rw[qs,cr f.1]
 grind
def anv(h:dp m n=0):(JZ n.2.2.2.2.2.2.2).2=0:=by
 rw[JZ,BK h];rfl
def arL:aV Empty.elim (aok af m n)<|jI m n:=by
 unfold aok ac4 Li tY jI;rw[show af.k kl (m,n,af.k mG n)=nF m n (lh n) from rfl,nF];by_cases h:dp m n=0
 .rw[cr h,cond_true,cond_true];cases h1:lh n
  .exact(ar rfl).2 (.ret _)
  have f:=step_ok h h1;have g:=anv h;refine(ap rfl).2 ((ar<|YO f).2<|bl (p:=(qs n.c m.1).1.2.1=0) dx (λc=>aT ?_<|.ret _) λc=>aT ?_<|.ret _)
  .rw[cr c];exact congrArg (Prod.mk _) g
  .rw[gw c];exact congrArg (Prod.mk _) f
 .rw[gw h];exact(ar<|xv h).2 (.ret _)
def ahV:(aA×Node)->(Node×Int):=λ(m,n)=>jI m n
def auR:aK:=.all [bD,gm] [gm,yI] ahV
def asI:Sd 99 auR:=fa<|bX ax dJ sl 80 [] (λA (m,n)=>aok A m n) (kz (fc func99 fz) (sc B8 (sc ED (sc asU (sc asV sz))))) λ(m,n) c h=>arL
def t23(A:aS)(j:Int)(l:Int)(i:Int)(h:Int)(c:Int)(g:Int)(f:Int):LT (vM×Int×Int) Empty:=.br (A.cm (A.k rN (j,l,i,h,c,g,f)) 0) (.ret ((0,0,0,0,0,0,0),0,A.k rN (j,l,i,h,c,g,f)))<|.br (A.bE h c) (.ret ((j,l,i,h,c,g,f),2,0))<|.ao (A.bE 0 j)<|.ret ((j,l,A.b .or .i64 i<|A.b .shl .i64 1 j,1,0,1,0),1,0)
def xI:vM->(vM×Int×Int):=λ(j,l,i,h,g,f,c)=>(t23 af j l i h g f c).val<|Ty.aR [re,yI,yI]
def ayY:aK:=.all [re] [re,yI,yI] xI
def asy:Sd 268 ayY:=fa (aQ ax dJ sl 67 [] (λA (l,m,j,i,g,f,c)=>t23 A l m j i g f c) (kz (fc func268 fz) (sc Sk sz)) (λ((l,m,j,i,g,f,c):vM) o h=>by
 show(t23 af l m j i g f c).pre=true;simp only[t23,LT.pre,STD,bne_iff_ne,beq_iff_eq,bne_eq_false_iff_eq,beq_eq_false_iff_ne];simp only[Ty.lC,Ty.has,KQ] at h
 (repeat' (first|intro _|constructor))<;>(try (have n:=ik.1 (by assumption);unfold oF at n;omega))))
def t27(A:aS)(j:Int)(l:Int)(i:Int)(h:Int)(g:Int)(f:Int)(c:Int):LT (vM×Int×Int) Empty:=.br (A.bq (A.k rN (j,l,i,h,g,f,c)) 0) (.br (A.bq h 0) (.br (A.bq g 0) (.ret ((j,l,i,h,g,f,c),3,0))<|.ret<|A.k xI (j,l,i,h,g,f,c))<|.ret<|A.k xI (j,l,i,h,g,f,c))<|.ret<|A.k xI (j,l,i,h,g,f,c)
def C8:vM->(vM×Int×Int):=λ(j,l,i,h,g,f,c)=>(t27 af j l i h g f c).val<|Ty.aR [re,yI,yI]
def ay1:aK:=.all [re] [re,yI,yI] C8
def ayP:Sd 269 ay1:=fa<|aQ ax dJ sl 43 [] (λA (j,l,i,h,g,f,c)=>t27 A j l i h g f c)<|kz (fc func269 fz)<|sc asy<|sc Sk sz
abbrev ac6(A:aS)(n:Node):LT (vM×Int) Empty:=(.br (A.bq n.2.1 3) (.br (A.cm (A.k C8 n.2.2.2.1).2.2 0) (.ret (n.2.2.2.1,4))<|.ret ((A.k C8 n.2.2.2.1).1,(A.k C8 n.2.2.2.1).2.1))<|.br (A.cm (A.k xI n.2.2.2.1).2.2 0) (.ret (n.2.2.2.1,4))<|.ret ((A.k xI n.2.2.2.1).1,(A.k xI n.2.2.2.1).2.1))
def aow(A:aS)(n:Node):LT (vM×Int) Empty:=.br (A.bq n.2.1 2) (.br (A.bo n.2.2.2.1.2.2.2.1 2) (.ret (n.2.2.2.1,4))<|.br (A.bE n.2.2.2.1.2.2.2.1 n.2.2.2.1.2.2.2.2.1) (.ret (n.2.2.2.1,4))<|ac6 A n)<|ac6 A n
def qE(n:Node):vM×Int:=bif decide (n.2.1=2)&&(decide (n.2.2.2.1.2.2.2.1<2)||decide (n.2.2.2.1.2.2.2.1<=n.2.2.2.1.2.2.2.2.1)) then(n.2.2.2.1,4) else bif decide (n.2.1=3) then((C8 n.2.2.2.1).1,(C8 n.2.2.2.1).2.1) else((xI n.2.2.2.1).1,(xI n.2.2.2.1).2.1)
theorem af5{v:vM}(h:vT v=0):(xI v).2.2=0:=by
 simp[xI,t23,LT.val,b_,chk]
 grind
theorem ar3(h:vT n.2.2.2.1=0):aV Empty.elim (aow af n) (qE n):=by
 unfold aow ac6 qE;have j:=af5 h;have l:(C8 n.2.2.2.1).2.2=0:=by
  generalize n.2.2.2.1=v at *;simp[C8,t27,LT.val,b_]
  grind
 have c:af.cm (af.k xI n.2.2.2.1).2.2 0=false:=JF j;have f:af.cm (af.k C8 n.2.2.2.1).2.2 0=false:=JF l;refine bl (p:=n.2.1=2) dx (λg=>bl (p:=n.2.2.2.1.2.2.2.1<2) rfl (λm=>aT ?_ (.ret _)) λm=>bl (p:=n.2.2.2.1.2.2.2.1<=n.2.2.2.1.2.2.2.2.1) rfl (λo=>aT ?_ (.ret _)) λo=>(ap (by rw[dx];simp_all)).2 ((ap c).2 (aT ?_ (.ret _)))) λg=>bl (p:=n.2.1=3) dx (λi=>(ap f).2 (aT ?_ (.ret _))) λi=>(ap c).2 (aT ?_ (.ret _))
 .simp_all
 .simp_all
 .rw[cr g,gw m,gw o,gw (show ¬n.2.1=3 by omega)];rfl
 .rw[gw g,cr i];rfl
 .rw[gw g,gw i];rfl
def GM:Node->(vM×Int):=qE
def abA:Node->Bool:=λn=>decide<|vT n.2.2.2.1=0
def au7:aK:=⟨[gm],[re,yI],abA,GM,false⟩
def asR:Sd 221 au7:=bX ax dJ sl 83 [] (λA n=>aow A n) (kz (fc func221 fz) (sc asy (sc ayP sz))) λ(n:Node) c h=>ar3<|of_decide_eq_true c
def alF(m:aA)(k n:Int):Int:=af.n yI (af.n eT m.2.2.2.2.2.2.2 k:Mode).1 n
def VG(m:aA)(n:Node):Int:=alF m n.2.2.1.2.2.1 n.1
def ar5(m:aA)(n:Node):Int:=bif decide ((FO m n.2.2.1 n.2.2.2.2.2.2.2.2.2.2.2).2=0) then(FO m n.2.2.1 n.2.2.2.2.2.2.2.2.2.2.2).1 else 0
def Sj(m:aA)(n:Node):sS:=((ll m n.2.2.1.2.2.1 n.1).1,ar5 m n,n.2.2.1,0,bif decide ((ll m n.2.2.1.2.2.1 n.1).1=3) then([]:List Int) else(IE n.2.2.2.2.2.2.2<|VG m n).1)
def WN(m:aA)(n:Node):Bool:=decide ((ll m n.2.2.1.2.2.1 n.1).2=0)&&iO n.2.2.2.2.2.2.2
theorem afh{n:Int}(g:dP m=true)(h:0<=n/\n<=m.1-1)(x:Mode)(c:pH m x=true):0<=x.1.getD n.toNat 0/\x.1.getD n.toNat 0<=8:=by
 have l:=vG c;have i:=(iW g).2.2.1;simp[pH,fZ] at c;have f:=c.2;have l1:m.2.2.2.2.2.2.1.length=x.1.length:=by omega
 have l2:x.2.1.length=x.1.length:=by omega
 rw[Ao l1 l2,fZ] at f;have j:n.toNat<x.1.length:=by omega
 simp_all
def Y3{k n:Int}(f:dP m=true)(g:0<=n/\n<=m.1-1)(c:0<=k/\k<iP m):0<=alF m k n/\alF m k n<=8:=afh f g _<|BJ f c.1 c.2
def acy{c:iG}{k:Int}(h:iO c=true)(f:0<=k/\k<=8):(IE c k).2=0:=by
 rw[IE,h,cond_true,cr f];rfl
abbrev Ql(A:aS)(m:aA)(n:Node):=(A.k ZM (n.2.2.2.2.2.2.2,(A.n yI (A.n eT m.2.2.2.2.2.2.2 n.2.2.1.2.2.1:Mode).1 n.1:Int)))
abbrev Cc(A:aS)(m:aA)(n:Node):=(A.k zC (m,n.2.2.1.2.2.1,n.1))
abbrev ac7(A:aS)(m:aA)(n:Node):=(A.and (A.bE 0 n.1)<|A.bo n.1<|A.l (A.n eT m.2.2.2.2.2.2.2 n.2.2.1.2.2.1:Mode).1)
def aox(A:aS)(m:aA)(n:Node):LT (sS×Int) Empty:=.br (A.cm (Cc A m n).2 0) (.ret ((0,0,(0,0,0,0,0),0,([]:List Int)),(Cc A m n).2))<|.br (A.bq (A.k OE (m,n.2.2.1,n.2.2.2.2.2.2.2.2.2.2.2)).2 0) (.br (A.bq (Cc A m n).1 3) (.ret (((Cc A m n).1,(A.k OE (m,n.2.2.1,n.2.2.2.2.2.2.2.2.2.2.2)).1,n.2.2.1,0,([]:List Int)),0))<|.ao (A.and (A.bE 0 n.2.2.1.2.2.1)<|A.bo n.2.2.1.2.2.1<|A.l m.2.2.2.2.2.2.2)<|.ao (ac7 A m n)<|.ret (((Cc A m n).1,(A.k OE (m,n.2.2.1,n.2.2.2.2.2.2.2.2.2.2.2)).1,n.2.2.1,0,(Ql A m n).1),(Ql A m n).2))<|.br (A.bq (Cc A m n).1 3) (.ret (((Cc A m n).1,0,n.2.2.1,0,([]:List Int)),0))<|.ao (A.and (A.bE 0 n.2.2.1.2.2.1)<|A.bo n.2.2.1.2.2.1<|A.l m.2.2.2.2.2.2.2)<|.ao (ac7 A m n)<|.ret (((Cc A m n).1,0,n.2.2.1,0,(Ql A m n).1),(Ql A m n).2)
theorem arY(h:WN m n=true):aV Empty.elim (aox af m n) (Sj m n,0):=by
 rw[WN,fZ,uR] at h;have⟨i,f,c⟩:=yF h.1;have j:=vG<|BJ i c.1 c.2;have l:=acy h.2<|Y3 i f c;unfold aox ac7 Cc Ql Sj ar5;rw[show af.k zC (m,n.c.c,n.1)=ll m n.c.c n.1 from rfl,show af.k OE (m,n.c,n.2.J)=FO m n.c n.2.J from rfl,show af.k ZM (n.G,(af.n yI (af.n eT m.G n.c.c:Mode).1 n.1:Int))=IE n.G (VG m n) from rfl]
 have o:∀q:Int,aV (R:=sS×Int) Empty.elim (.br (af.bq (ll m n.c.c n.1).1 3) (.ret (((ll m n.c.c n.1).1,q,n.c,0,([]:List Int)),0))<|.ao (af.and (af.bE 0 n.c.c)<|af.bo n.c.c<|af.l m.G)<|.ao (af.and (af.bE 0 n.1)<|af.bo n.1<|af.l (af.n eT m.G n.c.c:Mode).1)<|.ret (((ll m n.c.c n.1).1,q,n.c,0,(IE n.G<|VG m n).1),(IE n.G<|VG m n).2)) (((ll m n.c.c n.1).1,q,n.c,0,bif decide ((ll m n.c.c n.1).1=3) then([]:List Int) else(IE n.G<|VG m n).1),0):=λq=>
  bl (p:=(ll m n.c.c n.1).1=3) dx (λg=>aT (by simp_all)<|.ret _) λg=>au.2 ⟨yK c.1 c.2,au.2 ⟨yJ j.1 f.1<|by omega,aT (by rw[gw g,show(IE n.G<|VG m n).2=0 from l];rfl)<|.ret _⟩⟩
 refine(ap<|JF h.1).2 (bl (p:=(FO m n.c n.2.J).2=0) dx (λg=>?_) λg=>?_)
 all_goals simp_all
def GN:(aA×Node)->(sS×Int):=λ(m,n)=>(Sj m n,0)
def abB:(aA×Node)->Bool:=λ(m,n)=>WN m n
def au9:aK:=⟨[bD,gm],[Jn,yI],abB,GN,false⟩
def asT:Sd 223 au9:=bX ax dJ sl 111 [] (λA (m,n)=>aox A m n) (kz (fc func223 fz) (sc aiI (sc asZ (sc as0 sz)))) λ((m,n):aA×Node) c h=>arY c
def al_(n:Node)(v:vM):Node:=(n.1,4,(n.2.2.1.1,n.2.2.1.2.1,n.2.2.1.2.2.1,n.2.2.1.2.2.2.1,v.2.2.1),v,n.2.2.2.2.1,false,n.2.2.2.2.2.2)
def amB(n:Node)(s t:Int)(b:Bool)(c:Int):Node:=(n.1,s,(0,0,0,0,0),(0,0,0,0,0,0,0),t,b,c,n.2.2.2.2.2.2.2)
def agj(m:aA)(n:Node):Node×sS×Bool×Int:=((n.1,n.2.1,qt m n.2.2.1 (Sj m n).2.1,n.2.2.2),Sj m n,true,0)
def EA(m:aA)(n:Node):Node×sS×Bool×Int:=bif decide ((qE n).2=2) then(amB n 5 0 false 1,Cs,false,0) else bif decide ((qE n).2=3) then(amB n 1 (vX m n.1).1 n.2.2.2.2.2.1 2,Cs,false,0) else bif decide ((qE n).2=4) then(amB n 1 (J0 m n.1).1 n.2.2.2.2.2.1 n.2.2.2.2.2.2.1,Cs,false,0) else agj m (al_ n (qE n).1)
def rH(m:aA)(n:Node):Node×sS×Bool×Int:=bif decide (dp m n=0) then(bif lh n&&decide (n.2.2.1.2.1=n.1) then EA m n else(j_,Cs,false,181)) else(j_,Cs,false,dp m n)
theorem qc(h:dp m n=0)(c:lh n=true):jE m n.2.2.1=true/\vT n.2.2.2.1=0/\n.2.2.2.1.1=n.1/\n.2.2.2.1.2.1=m.1/\n.2.2.1.2.2.2.2=n.2.2.2.1.2.2.1:=by
 have f:=(fS.1 (dw h).2).h;rw[z8,c,cond_true] at f
 simp_all
def afJ{k n:Int}(f:dP m=true)(c:0<=n/\n<=m.1-1)(g:0<=k/\k<iP m):(ll m k n).2=0:=by
 rw[ll,qd,f,cond_true,cr c,cr<|show 0<=k/\k<=iP m-1 by omega];rfl
def Bl(h:jE m c=true):sC (c,m.1)=0/\(0<=c.2.2.1/\c.2.2.1<iP m)/\c.2.2.2.1<=iP m:=by
 simp[jE,fZ,uR] at h;exact⟨h.1,⟨(xr h.1).d.1,h.2.1⟩,h.2.2⟩
def anP{v:vM}(h:dp m n=0)(c:lh n=true):WN m (al_ n v)=true:=by
 have f:=fS.1 (dw h).2;rw[WN,fZ];exact⟨cr<|afJ (dw h).1 f.1 (Bl (qc h c).1).2.1,show iO n.G=true from BK h⟩
def amG:af.k Ed (m,i)=(vX m i).1:=rfl
def anE:af.k ZK (m,i)=(J0 m i).1:=rfl
structure QB where(a0:Int)(a1:aA)(a2 a3:vM)(a4:Int)(a5:Bool)(a6 a7 a8 a9:Int)(jd:vM)(lq:Int)(a12:Node)
structure XJ where(b0:aA)(b1 b2:vM)(b3:Int)(b4:Bool)(b5 b6 b7 b8:Int)(b9:vM)(b10:Int)(b11:Node)
inductive aee where|c0(p:QB)|c1(p:XJ)
noncomputable def aky:aee->gY
 | .c0 p=>⟨[Ac 171 91 [(2,pZ 0),(4,pZ 1),(5,pZ 2),(8,pZ 3),(9,vi p.a0)] f171 28],[dZ bD p.a1,gZ<|dc re p.a2++dc re p.a3 ++ [vi p.a4,vb p.a5,vi p.a6,vi p.a7,.fG true,.fG true,vi p.a8,vi p.a9],gZ<|dc re p.jd ++ [vi p.lq,.fG true],dZ gm p.a12,.a_]⟩
 | .c1 p=>⟨[Ac 171 91 [(2,pZ 0),(4,pZ 1),(5,pZ 2),(8,pZ 3)] f171 254],[dZ bD p.b0,gZ<|dc re p.b1++dc re p.b2 ++ [vi p.b3,vb p.b4,vi p.b5,vi p.b6,.fG true,.fG true,vi p.b7,vi p.b8],gZ<|dc re p.b9 ++ [vi p.b10,.fG true],dZ gm p.b11,.a_]⟩
def aoj(A:aS)(m:aA)(n:Node):LT (Node×sS×Bool×Int) aee:=.br (A.k mG n) (.eqs (((A.k mG n):Bool)=true)<|.ak<|.c0 ⟨(A.k kl (m,n,A.bq n.2.2.1.2.1 n.1)).2,m,(0,0,0,0,0,0,0),(0,0,0,0,0,0,0),0,false,0,0,0,0,(0,0,0,0,0,0,0),0,(A.k kl (m,n,A.bq n.2.2.1.2.1 n.1)).1⟩)<|.eqs (((A.k mG n):Bool)=false)<|.ak<|.c0 ⟨(A.k kl (m,n,false)).2,m,(0,0,0,0,0,0,0),(0,0,0,0,0,0,0),0,false,0,0,0,0,(0,0,0,0,0,0,0),0,(A.k kl (m,n,false)).1⟩
def PV(A:aS):aee->LT (Node×sS×Bool×Int) aee
 | .c0 p=>.br (A.cm p.a0 0) (.ret ((0,0,(0,0,0,0,0),(0,0,0,0,0,0,0),0,false,0,0,([]:List Int),([]:List iE),0,0),(0,0,(0,0,0,0,0),0,([]:List Int)),false,p.a0))<|.ao (A.k abA p.a12)<|.br (A.bq (A.k GM p.a12).2 2) (.ret ((p.a12.1,5,(0,0,0,0,0),(0,0,0,0,0,0,0),0,false,1,p.a12.2.2.2.2.2.2.2),(0,0,(0,0,0,0,0),0,([]:List Int)),false,0))<|.br (A.bq (A.k GM p.a12).2 3) (.ret ((p.a12.1,1,(0,0,0,0,0),(0,0,0,0,0,0,0),A.k Ed (p.a1,p.a12.1),p.a12.2.2.2.2.2.1,2,p.a12.2.2.2.2.2.2.2),(0,0,(0,0,0,0,0),0,([]:List Int)),false,0))<|.br (A.bq (A.k GM p.a12).2 4) (.ret ((p.a12.1,1,(0,0,0,0,0),(0,0,0,0,0,0,0),A.k ZK (p.a1,p.a12.1),p.a12.2.2.2.2.2),(0,0,(0,0,0,0,0),0,([]:List Int)),false,0))<|.ak<|.c1 ⟨p.a1,p.a2,p.a3,p.a4,p.a5,p.a6,p.a7,p.a8,p.a9,p.jd,p.lq,(p.a12.1,4,(p.a12.2.2.1.1,p.a12.2.2.1.2.1,p.a12.2.2.1.2.2.1,p.a12.2.2.1.2.2.2.1,(A.k GM p.a12).1.2.2.1),(A.k GM p.a12).1,p.a12.2.2.2.2.1,false,p.a12.2.2.2.2.2.2)⟩
 | .c1 p=>.ao (A.k abB (p.b0,p.b11))<|.br (A.cm (A.k GN (p.b0,p.b11)).2 0) (.ret ((0,0,(0,0,0,0,0),(0,0,0,0,0,0,0),0,false,0,0,([]:List Int),([]:List iE),0,0),(0,0,(0,0,0,0,0),0,([]:List Int)),false,(A.k GN (p.b0,p.b11)).2))<|.br (A.bq (A.k Bp (p.b0,p.b11.2.2.1,(A.k GN (p.b0,p.b11)).1.2.1)).2 0) (.ret ((p.b11.1,p.b11.2.1,(A.k Bp (p.b0,p.b11.2.2.1,(A.k GN (p.b0,p.b11)).1.2.1)).1,p.b11.2.2.2),(A.k GN (p.b0,p.b11)).1,true,0))<|.ret (p.b11,(A.k GN (p.b0,p.b11)).1,true,0)
def ane{p:XJ}(h:WN p.b0 p.b11=true):aV (PV af) (.ak<|.c1 p)<|agj p.b0 p.b11:=by
 rw[aG,PV,agj];refine au.2 ⟨h,(ap rfl).2<|bl (p:=(EZ p.b0 p.b11.c (Sj p.b0 p.b11).2.1).2=0) dx (λg=>aT ?_<|.ret _) λg=>aT ?_<|.ret _⟩
 .rw[qt,cr g];rfl
 .rw[qt,gw g];rfl
def anc{p:QB}(l:p.a0=0)(o:p.a1=m)(i:p.a12=n)(h:dp m n=0)(j:lh n=true):aV (PV af) (.ak<|.c0 p)<|EA m n:=by
 subst o i;rw[aG,PV,EA,l,amG,anE,show af.k GM p.a12=qE p.a12 from rfl];refine(ap rfl).2 (au.2 ⟨cr (qc h j).2.1,bl (p:=(qE p.a12).2=2) dx (λg=>aT ?_<|.ret _) λg=>bl (p:=(qE p.a12).2=3) dx (λc=>aT ?_<|.ret _) λc=>bl (p:=(qE p.a12).2=4) dx (λf=>aT ?_<|.ret _) λf=>?_⟩)
 .rw[cr g];rfl
 .rw[gw g,cr c];rfl
 .rw[gw g,gw c,cr f];rfl
 .rw[gw g,gw c,gw f];exact ane<|anP h j
theorem ayB:aV (PV af) (aoj af m n)<|rH m n:=by
 unfold aoj rH;rw[show af.k mG n=lh n from rfl];have c:∀q:QB,q.a0=(nF m n false).2->aV (PV af) (.ak<|.c0 q) (bif decide (dp m n=0) then(j_,Cs,false,181) else(j_,Cs,false,dp m n)):=λq g=>by
  rw[aG,PV,g,nF];by_cases h:dp m n=0
  .rw[cr h];exact(ar rfl).2 (.ret _)
  .rw[gw h];exact(ar<|xv h).2 (.ret _)
 cases hi:lh n
 .exact(ap rfl).2 (yd.2 ⟨rfl,c _ rfl⟩)
 .refine(ar rfl).2 (yd.2 ⟨rfl,?_⟩);rw[show ∀w,af.k kl (m,n,w)=nF m n w from λ_=>rfl,dx,dO];by_cases f:n.c.2.1=n.1
  .rw[cr f,cond_true];by_cases h:dp m n=0
   .have e:nF m n true=(n,0):=by rw[nF,cr h];rfl
    rw[cr h,e];exact anc rfl rfl rfl h hi
   .have:=c ⟨(nF m n true).2,m,(0,0,0,0,0,0,0),(0,0,0,0,0,0,0),0,false,0,0,0,0,(0,0,0,0,0,0,0),0,(nF m n true).1⟩ (by rw[nF,nF,gw h];rfl)
    simp_all
  simp_all
def ahU:(aA×Node)->(Node×sS×Bool×Int):=λ(m,n)=>rH m n
def auQ:aK:=.all [bD,gm] [gm,Jn,.bool,yI] ahU
def asH:Sd 171 auQ:=fa<|aX ax dJ sl 39 [] [⟨171,2,[[2,4,5,8,9]]⟩,⟨171,18,[[2,4,5,8]]⟩] (λA (m,n)=>aoj A m n) PV aky (kz (fc func171 (fc func193 (fc func217 fz))) (sc B8 (sc ED (sc Qb (sc asR (sc asS (sc asT (sc acG sz)))))))) (λA y=>match y with |.c0 p=>⟨89,sl,by kernel_rfl⟩|.c1 p=>⟨74,sl,by kernel_rfl⟩) λ(m,n) c h=>ayB
variable{e:Int}
def abt{c d f g:Int}(h:oF a b c d e f g)(i:e<d):xI (a,b,c,d,e,f,g)=((a,b,pN c a,1,0,1,0),1,0):=by
 simp[xI,t23,LT.val,b_,bZ,aB,ik.2 h,pN,show ¬d<=e from by omega]
def abu{c d f g:Int}(h:oF a b c d e f g)(i:d<=e):xI (a,b,c,d,e,f,g)=((a,b,c,d,e,f,g),2,0):=by
 simp[xI,t23,LT.val,b_,bZ,aB,ik.2 h,i]
def inc_le{d:Int}(c:0<=d)(f:d<=1048576):0<=inc d/\inc d<=1048576:=by
 unfold inc;omega
def abm{c d f g j l:Int}(h:oF a b c d e f g)(m:0<=i/\i<((2^b.toNat:Nat):Int))(n:0<=j/\j<=1048576)(o:0<=l/\l<=1048576):oF a b i j l 0 0:=by
 unfold oF at h ⊢;omega
theorem aam{c d f g k:Int}(h:oF a b c d e f g)(j:0<=s)(o:s<b)(q:s≠a)(V:k=0\/k=1)(P:(vy ((a,b,c,d,e,f,g),s,k)).2=0):
  ∃A H J K O,(vy ((a,b,c,d,e,f,g),s,k)).1=(a,b,A,H,J,K,O)/\oF a b A H J K O/\rv A s=true:=by
 have W:=h;unfold oF at W;have X:=As (n:=b.toNat) (by omega);have id:=inc_le (d:=d) (by omega) (by omega);have Q:=inc_le (d:=e) (by omega) (by omega);have I:=λ{c s:Int} (h:0<=c/\c<((2^b.toNat:Nat):Int)) (r:0<=s/\s<b)=>aaA (c:=c) (s:=s) (n:=b) h.1 (by omega) h.2 r.1 r.2;have D:=λ{c s:Int} (h:0<=c/\c<((2^b.toNat:Nat):Int)) (r:0<=s/\s<b)=>Y5 (c:=c) (s:=s) (n:=b) h.1 (by omega) h.2 r.1 (by omega);have v:=λ{c s:Int} (h:0<=c/\c<((2^b.toNat:Nat):Int)) (r:0<=s/\s<b) {i:Int} (B:0<=i)=>Tw (c:=c) (s:=s) (i:=i) h.1 (by omega) r.1 (by omega) B;have E:=λ{c s:Int} (h:0<=c/\c<((2^b.toNat:Nat):Int)) (r:0<=s/\s<b) {i:Int} (B:0<=i)=>LK (c:=c) (s:=s) (i:=i) h.1 (by omega) r.1 (by omega) B;have l:0<=c/\c<((2^b.toNat:Nat):Int):=⟨by omega,by omega⟩;have u:0<=a/\a<b:=⟨by omega,by omega⟩;have m:0<=s/\s<b:=⟨j,o⟩;have z:0<=g/\g<b:=⟨by omega,by omega⟩;have S:f=0\/f=1\/f=2:=by omega
 rcases S with rfl|rfl|rfl<;>rcases V with rfl|rfl
 .rw[aaj h j o q];exact⟨_,_,_,_,_,rfl,abm h (I l m) id<|by omega,by simp_all⟩
 .exfalso;revert P;simp[vy,t25,IR,LT.val,b_,bZ,bg,lJ,jP.2 ⟨h,j,o,q⟩,uB h j o q,Ra]
 .rw[aak h j o q];exact⟨_,_,_,_,_,rfl,abm h (I (I l m) u) id<|by omega,by simp_all⟩
 .rw[Uk h j o q];refine⟨_,_,_,_,_,rfl,?_,by simp_all⟩;have:=I l m;unfold oF
  simp_all
 .by_cases p:s=g
  .subst p;rw[Ul h j o q];exact⟨_,_,_,_,_,rfl,abm h (I (I l m) u) id<|by omega,by rw[v (I l m) u j,v l m j];simp⟩
  .rw[Um h j o q p];exact⟨_,_,_,_,_,rfl,abm h (D (I (I l m) u) z) id Q,by
    have C:(g != s)=true:=by simp;omega
    rw[E (I (I l m) u) z j,v (I l m) u j,v l m j,C];simp⟩
 .by_cases p:s=g
  .subst p;exfalso;revert P;simp[vy,t25,IR,LT.val,b_,bZ,bg,lJ,jP.2 ⟨h,j,o,q⟩,uB h j o q,Mf]
  .rw[Un h j o q p];exact⟨_,_,_,_,_,rfl,abm h (D (I (I l m) z) u) id Q,by
    have C:(a != s)=true:=by simp;omega
    rw[E (I (I l m) z) u j,v (I l m) z j,v l m j,C];simp⟩
theorem abl{c d f g:Int}(h:oF a b c d e f g)(j:0<=s)(r:s<b)(m:s≠a):
  ∃o p q,uT ((a,b,c,d,e,f,g),s)=((a,b,o,d,e,p,q),0)/\oF a b o d e p q:=by
 have u:=h;unfold oF at u;have A:=As (n:=b.toNat) (by omega);have z:=Y5 (c:=c) (s:=s) (n:=b) (by omega) (by omega) (by omega) j (by omega);have v:f≠0->rv (xb c s) a=true:=λl=>by
  rw[LK (by omega) (by omega) j (by omega)<|by omega,u.2.2.2.2.2.j l]
  simp_all
 by_cases l:f=2
 .subst l;by_cases i:g=s
  .subst i;refine⟨_,_,_,abk h m,?_⟩;unfold oF
   grind
  .refine⟨_,_,_,abj h j r m i,?_⟩;unfold oF
   simp_all
 .refine⟨_,_,_,abi h j r m l,?_⟩;unfold oF
  simp_all
theorem arB{c d f g:Int}(h:oF a b c d e f g)(j:0<=i/\i<=1048576):oF a b c d i f g:=by
 unfold oF at h ⊢
 simp_all
theorem UJ{c d f g:Int}(h:oF a b c d e f g):∃i l m o p v,xI (a,b,c,d,e,f,g)=((a,b,i,l,m,o,p),v,0)/\oF a b i l m o p/\(v==1)=decide (e<d)/\(v=1->rv i a=true):=by
 have r:=h;unfold oF at r;have z:=As (n:=b.toNat) (by omega);have u:=aaA (c:=c) (s:=a) (n:=b) (by omega) (by omega) (by omega) (by omega) (by omega);have q:rv (pN c a) a=true:=by rw[Tw (by omega) (by omega) (by omega) (by omega)<|by omega];simp
 by_cases j:e<d
 .refine⟨_,_,_,_,_,_,abt h j,?_,by simp_all,λ_=>q⟩;unfold oF
  grind
 .exact⟨_,_,_,_,_,_,abu h<|by omega,h,by simp_all,λh=>by omega⟩
theorem aaE{c d f g:Int}(h:oF a b c d e f g):∃i j l m n v,C8 (a,b,c,d,e,f,g)=((a,b,i,j,l,m,n),v,0)/\oF a b i j l m n/\(v==1)=decide (e<d):=by
 have⟨i,j,l,m,n,v,q,r,u,_⟩:=UJ h;by_cases o:d=0/\e=0
 .refine⟨c,d,e,f,g,3,?_,h,?_⟩
  .obtain⟨rfl,rfl⟩:=o;simp[C8,t27,LT.val,b_,bg,ik.2 h]
  simp_all
 .refine⟨i,j,l,m,n,v,?_,r,u⟩;rw[<-q];by_cases p:d=0
  .have A:(e==0)=false:=by simp_all
   simp[C8,t27,LT.val,b_,bg,ik.2 h,p,A]
  .have z:(d==0)=false:=by simp_all
   simp[C8,t27,LT.val,b_,bg,ik.2 h,z]
variable{o:Int×Int×Int×(Int×Int×(Int×Int×Int×Int×Int)×Int×List Int)×Int}
theorem P7{c:Int×Int×Int×Int×Int}{w:Int}:∀{l:List<|Int×Int×(Int×List Int)} {k:Nat},wE c w k l=some o->o.1=3/\∃s∈l,s.1=2:=by
 intro l
 induction l with
 | nil=>intro k h;cases h
 | cons s l ih=>
   intro k h;rw[wE] at h
   grind
def Np{p m n:Int}{c:List<|Int×Int×(Int×List Int)}:∀{l:List Int} {i:Nat},uI t p m n c i l=some o->o.1=3/\∃s∈c,s.1=2:=by
 intro l
 induction l with
 | nil=>intro i h;cases h
 | cons v l ih=>
   intro i h;rw[uI] at h;split at h
   rotate_left
   exact ih h;rename_i g f;cases h;exact P7 f
theorem No{c:Int×Int×Int×Int×Int}{w:Int}:∀{l:List<|Int×Int×(Int×List Int)} {k:Nat},wE c w k l=some o->o.2.1=w:=by
 intro l
 induction l with
 | nil=>intro k h;cases h
 | cons s l ih=>
   intro k h;rw[wE] at h
   grind
theorem J_{p m n:Int}{c:List<|Int×Int×(Int×List Int)}:∀{l:List Int} {i:Nat},uI t p m n c i l=some o->∃k,k<l.length/\o.2.1=((i+k:Nat):Int):=by
 intro l
 induction l with
 | nil=>intro i h;cases h
 | cons v l ih=>
   intro i h;rw[uI] at h;cases hs:wE (t,p,m,n,v) i 0 c with
   | none=>
     rw[hs] at h;have⟨k,f,g⟩:=ih h;exact⟨k+1,by simp_all,by omega⟩
   | some j=>
     rw[hs] at h;cases h;exact⟨0,by simp_all,by rw[No hs];rfl⟩
variable{v:Int×Int×Int×Int×Int×Int×Int}
theorem Ay{p m n c:Int}{f:List (Int×Int×(Int×List Int))}(h:(qJ ((t,p,m,n,s),v,c,f)).2=0):
  rN v=0/\0<=c/\c<v.2.1/\c≠v.1/\((∃k,k<(vws (v,c)).length/\(qJ ((t,p,m,n,s),v,c,f)).1.1=3/\(qJ ((t,p,m,n,s),v,c,f)).1.2.1=(k:Int))\/(qJ ((t,p,m,n,s),v,c,f)).1.1=1\/(qJ ((t,p,m,n,s),v,c,f)).1.1=2):=by
 rw[qJ] at h ⊢;cases h1:(rN v != 0||sC ((t,p,m,n,s),v.2.1) != 0)
 .rw[h1] at h;cases h2:(decide (c<0)||decide (v.2.1<=c)||c==v.1||f.length != 2)
  .rw[cond_false];simp at h1 h2;refine⟨h1.1,by omega,by omega,h2.1.2,?_⟩;rw[La];cases h3:uI t p m n f 0 (vws (v,c)) with
   | some o=>
     obtain⟨k,g,i⟩:=J_ h3;exact .inl ⟨k,g,(Np h3).1,by simp_all⟩
   | none=>
     right;rw[B6]
     grind
  simp_all
 simp_all
theorem BP{c d f g:Int}(h:oF a b c d e f g)(j:0<=s)(q:s<b)(p:s≠a):
  ∃i n o,uT ((a,b,c,d,e,f,g),s)=((a,b,i,d,e,n,o),0)/\oF a b i d e n o/\rv i s=false:=by
 have⟨i,n,o,m,u⟩:=abl h j q p;refine⟨i,n,o,m,u,?_⟩;have v:=arA h;have z:=h;unfold oF at z;have:i=xb c s:=by
  by_cases r:f=2
  .subst r;by_cases l:g=s
   .subst l;rw[abk h p] at m
    simp_all
   .rw[abj h j q p l] at m
    simp_all
  .rw[abi h j q p r] at m
   simp_all
 rw[this,LK (by omega) v j (by omega) j,bne_self_eq_false,dU]
theorem aal{c d f g:Int}{k:Nat}(h:oF a b c d e f g)(l:0<=s)(m:s<b)(n:s≠a)(j:k<(vws ((a,b,c,d,e,f,g),s)).length):(vy ((a,b,c,d,e,f,g),s,(k:Int))).2=0/\((k:Int)=0\/(k:Int)=1):=by
 have p:=h;unfold oF at p;have o:f=0\/f=1\/f=2:=by omega
 rw[vws] at j;rcases o with rfl|rfl|rfl
 .rw[Ra] at j;have:k=0:=by simp_all
  subst this;exact⟨by rw[show((0:Nat):Int)=0 from rfl,aaj h l m n],.inl rfl⟩
 .rw[Rb] at j;have:k<2:=j;have:k=0\/k=1:=by omega
  rcases this with rfl|rfl
  .exact⟨by rw[show((0:Nat):Int)=0 from rfl,aak h l m n],.inl rfl⟩
  .exact⟨by rw[show((1:Nat):Int)=1 from rfl,Uk h l m n],.inr rfl⟩
 .by_cases i:s=g
  .subst i;rw[Mf] at j;have:k=0:=by simp_all
   subst this;exact⟨by rw[show((0:Nat):Int)=0 from rfl,Ul h l m n],.inl rfl⟩
  .rw[Mg i] at j;have:k<2:=j;have:k=0\/k=1:=by omega
   rcases this with rfl|rfl
   .exact⟨by rw[show((0:Nat):Int)=0 from rfl,Um h l m n i],.inl rfl⟩
   .exact⟨by rw[show((1:Nat):Int)=1 from rfl,Un h l m n i],.inr rfl⟩
def ae4(h:o.1=1):oX (v,s,o)=uT (v,s):=by
 have⟨k,w,f,⟨i,j,⟨t,p,m,n,x⟩,g,fd⟩,c⟩:=o;subst h;rfl
def LD(h:o.1=2):oX (v,s,o)=ZJ (v,s):=by
 have⟨k,w,f,⟨i,j,⟨t,p,m,n,x⟩,g,fd⟩,c⟩:=o;subst h;rfl
def ae5(h:o.1=3):oX (v,s,o)=vy (v,s,o.2.1):=by
 have⟨k,w,f,⟨i,j,⟨t,p,m,n,x⟩,g,fd⟩,c⟩:=o;subst h;rfl
theorem Ko{p m n c d f g:Int}{j:List<|Int×Int×(Int×List Int)}(h:(qJ ((t,p,m,n,x),(a,b,c,d,e,f,g),s,j)).2=0):
  ∃l B C o q,oX ((a,b,c,d,e,f,g),s,(qJ ((t,p,m,n,x),(a,b,c,d,e,f,g),s,j)).1)=((a,b,l,B,C,o,q),0)/\oF a b l B C o q/\rv l s=((qJ ((t,p,m,n,x),(a,b,c,d,e,f,g),s,j)).1.1==3)/\0<=s/\s<b:=by
 have⟨I,r,u,A,J⟩:=Ay h;have i:=ik.1 I;rcases J with ⟨k,P,v,K⟩|v|v
 .have⟨O,E⟩:=aal i r u A P;have⟨l,B,C,o,q,D,z,H⟩:=aam i r u A E O;rw[ae5 v,K]
  grind
 .have⟨l,o,q,D,z,H⟩:=BP i r u A;exact⟨l,d,e,o,q,by rw[ae4 v];omega,z,by simp_all,r,u⟩
 .have⟨l,o,q,D,z,H⟩:=BP i r u A;have Q:=i;unfold oF at Q;refine⟨l,d,inc e,o,q,?_,arB z<|inc_le (by omega)<|by omega,by simp_all,r,u⟩;rw[LD v];exact QI D (show 0<=e by omega) (show e<=1048576 by omega)
def t24(A:aS)(i:Int)(l:Int)(g:Int)(j:Int)(h:Int)(f:Int)(c:Int):LT Bool Empty:=.br (A.bq (A.k rN (i,l,g,j,h,f,c)) 0) (.ao (A.bE 0 i)<|.ret<|A.bq (A.b .and .i64 (A.b .shr .i64 g i) 1) 1)<|.ret false
def VM:vM->Bool:=λ(j,l,i,h,g,f,c)=>(t24 af j l i h g f c).val<|Ty.aR [.bool]
def ayZ:aK:=.all [re] [.bool] VM
def ayN:Sd 202 ayZ:=fa (aQ ax dJ sl 27 [] (λA (l,m,j,i,g,f,c)=>t24 A l m j i g f c) (kz (fc func202 fz) (sc Sk sz)) (λ((l,m,j,i,g,f,c):vM) o h=>by
 show(t24 af l m j i g f c).pre=true;simp only[t24,LT.pre,STD,bne_iff_ne,beq_iff_eq,bne_eq_false_iff_eq,beq_eq_false_iff_ne];simp only[Ty.lC,Ty.has,KQ] at h
 (repeat' (first|intro _|constructor))<;>(try (have n:=ik.1 (by assumption);unfold oF at n;omega))))
def LJ:qC:=(2,0,0,Cs,0)
def W5:qC:=(0,0,0,Cs,0)
def B7(n:Node)(c:List Seen):qC×Int:=qJ (n.2.2.1,n.2.2.2.1,n.2.2.1.2.1,c)
def BF(m:aA)(n:Node)(o:qC):qC:=bif decide (o.1=3) && !(BE m n.2.2.1 o.2.2.2.1) then LJ else o
def Kh(n:Node)(v:vM):Node:=(n.1,n.2.1,(n.2.2.1.1,n.2.2.1.2.1,n.2.2.1.2.2.1,n.2.2.1.2.2.2.1,v.2.2.1),v,n.2.2.2.2)
def Oi(n:Node)(o:qC):vM:=(oX (n.2.2.2.1,n.2.2.1.2.1,o)).1
def Kt(m:aA)(n:Node)(f:sS):Node:=(n.1,n.2.1,qt m n.2.2.1 f.2.1,n.2.2.2.1,n.2.2.2.2.1,n.2.2.2.2.2.1,n.2.2.2.2.2.2.1,bif decide (f.1=3) then n.2.2.2.2.2.2.2 else(tq n.2.2.2.2.2.2.2 n.2.2.1.2.1 f.2.2.2.2).1)
def Ar(n:Node):Node:=bif decide (n.2.1=4) && !(VM n.2.2.2.1) then(n.1,3,n.2.2) else n
def QJ(m:aA)(n:Node)(o:qC):Node:=Ar<|bif decide (o.1=3) then Kt m (Kh n<|Oi n o) o.2.2.2.1 else Kh n (Oi n o)
def oG(m:aA)(n:Node)(c:List Seen):Node×qC×Int:=bif decide (dp m n=0) then(bif lh n&&decide (¬n.2.2.1.2.1=n.1) then(bif decide ((B7 n c).2=0) then(QJ m n<|BF m n (B7 n c).1,BF m n (B7 n c).1,0) else(j_,W5,(B7 n c).2)) else(j_,W5,181)) else(j_,W5,dp m n)
variable{seen:List Seen}
def aka{v:vM}(h:(qJ (c,v,s,seen)).2=0):(oX (v,s,(qJ (c,v,s,seen)).1)).2=0/\(oX (v,s,LJ)).2=0:=by
 have⟨a,b,c,d,e,f,g⟩:=v;refine⟨?_,?_⟩
 .have⟨l,z,A,m,n,j,_⟩:=Ko h;rw[j]
 .have⟨o,p,q,r,_⟩:=Ay h;have i:=ik.1 o;have⟨l,m,n,j,_⟩:=BP i p q r;have u:=i;unfold oF at u;rw[LD rfl,QI j (show 0<=e by omega)<|show e<=1048576 by omega]
theorem TA(l:dp m n=0)(h:BE m n.2.2.1 f=true):(tq n.2.2.2.2.2.2.2 n.2.2.1.2.1 f.2.2.2.2).2=0:=by
 have i:=fS.1 (dw l).2;simp[BE,fZ,uR] at h;have c:=yF h.1;have o:=Y3 c.1 c.2.1 c.2.2;have p:(f.D.length:Int)<=8:=by
  rw[h.2.2];by_cases g:(ll m n.c.c n.c.2.1).1=3
  .rw[cr g];grind
  .rw[gw g];exact o.2
 have j:=i.f;rw[tq,i.d,cr (show 0<=n.c.2.1/\n.c.2.1<=(n.j.length:Int)-1 by rw[j];exact c.2.1),gw<|show ¬8<(f.D.length:Int) by omega];rfl
def Uw{o:qC}(h:o.1=3)(c:BE m n.2.2.1 o.2.2.2.1=false):BF m n o=LJ:=by rw[BF,cr h,c];rfl
def O8{o:qC}(c:BE m n.2.2.1 o.2.2.2.1=true):BF m n o=o:=by rw[BF,c,Bool.not_true,dU];rfl
def aaS{o:qC}(h:¬o.1=3):BF m n o=o:=by rw[BF,gw h];rfl
theorem aio{step:Y->LT (Node×qC×Int) Y}{o:qC}{b:Bool}(c:b=VM n.2.2.2.1):aV step (.br (af.bq n.2.1 4) (.br (af.not b) (.ret ((n.1,3,n.2.2),o,0))<|.ret (n,o,0))<|.ret (n,o,0)) (Ar n,o,0):=by
 rw[Ar];refine bl (p:=n.2.1=4) dx (λh=>?_) λh=>aT (by simp_all)<|.ret _;rw[cr h,dO,<-c];cases b
 .exact(ar rfl).2 (.ret _)
 .exact(ap rfl).2 (.ret _)
def on4(x:Node):Node:=(x.1,4,x.2.2.1,x.2.2.2.1,x.2.2.2.2.1,false,x.2.2.2.2.2.2)
structure XD where(a0:List Seen)(a1:Int)(a2:aA)(a17:Node)
structure XE where(b0:Int)(b1:aA)(jC:Node)(w_:qC)
structure XF where(c14:Node)
structure XG where(d0:aA)(A_:Node)(Y2:qC)
structure XH where(e14:Node)(e15:qC)
structure XI where(f0:aA)(f15:Node)(f16:qC)
inductive aed where|c0(p:XD)|c1(p:XE)|c2(p:XF)|c3(p:XG)|c4(p:XH)|c5(p:XI)
noncomputable def akx:aed->gY
 | .c0 p=>⟨[Ac 148 111 [(2,.sl qA p.a0),(3,pZ 0),(6,pZ 1),(7,pZ 2),(9,pZ 3),(10,vi p.a1)] f148 28],[dZ bD p.a2,gZ [vi 0,vi 0,vi 0,vi 0,vi 0,vi 0,vi 0,vi 0,vi 0,vi 0,vi 0,vi 0,vi 0,vi 0,vi 0,vb false,vi 0,vi 0,.fG true,.fG true,vi 0,vi 0],gZ [vi 0,vi 0,vi 0,vi 0,vi 0,vi 0,vi 0,vi 0,vi 0,vi 0,vi 0,.fG true,vi 0],dZ gm p.a17,.a_]⟩
 | .c1 p=>⟨[Ac 148 111 [(3,pZ 0),(6,pZ 1),(7,pZ 2),(9,pZ 3),(10,vi p.b0),(11,pZ 4)] f148 124],[dZ bD p.b1,gZ [vi 0,vi 0,vi 0,vi 0,vi 0,vi 0,vi 0,vi 0,vi 0,vi 0,vi 0,vi 0,vi 0,vi 0,vi 0,vb false,vi 0,vi 0,.fG true,.fG true,vi 0,vi 0],gZ [vi 0,vi 0,vi 0,vi 0,vi 0,vi 0,vi 0,vi 0,vi 0,vi 0,vi 0,.fG true,vi 0],dZ gm p.jC,dZ Qt p.w_,.a_]⟩
 | .c2 p=>⟨[Ac 148 111 [(6,pZ 0),(7,pZ 1),(9,pZ 2),(11,pZ 3)] f148 4092],[gZ [vi 0,vi 0,vi 0,vi 0,vi 0,vi 0,vi 0,vi 0,vi 0,vi 0,vi 0,vi 0,vi 0,vi 0,vi 0,vb false,vi 0,vi 0,.fG true,.fG true,vi 0,vi 0],gZ [vi 0,vi 0,vi 0,vi 0,vi 0,vi 0,vi 0,vi 0,vi 0,vi 0,vi 0,.fG true,vi 0],dZ gm p.c14,gZ [vi 2,vi 0,vi 0,vi 0,vi 0,vi 0,vi 0,vi 0,vi 0,vi 0,vi 0,.fG true,vi 0],.a_]⟩
 | .c3 p=>⟨[Ac 148 111 [(3,pZ 0),(6,pZ 1),(7,pZ 2),(9,pZ 3),(11,pZ 4)] f148 16360],[dZ bD p.d0,gZ [vi 0,vi 0,vi 0,vi 0,vi 0,vi 0,vi 0,vi 0,vi 0,vi 0,vi 0,vi 0,vi 0,vi 0,vi 0,vb false,vi 0,vi 0,.fG true,.fG true,vi 0,vi 0],gZ [vi 0,vi 0,vi 0,vi 0,vi 0,vi 0,vi 0,vi 0,vi 0,vi 0,vi 0,.fG true,vi 0],dZ gm p.A_,dZ Qt p.Y2,.a_]⟩
 | .c4 p=>⟨[Ac 148 111 [(6,pZ 0),(7,pZ 1),(9,pZ 2),(11,pZ 3)] f148 4092],[gZ [vi 0,vi 0,vi 0,vi 0,vi 0,vi 0,vi 0,vi 0,vi 0,vi 0,vi 0,vi 0,vi 0,vi 0,vi 0,vb false,vi 0,vi 0,.fG true,.fG true,vi 0,vi 0],gZ [vi 0,vi 0,vi 0,vi 0,vi 0,vi 0,vi 0,vi 0,vi 0,vi 0,vi 0,.fG true,vi 0],dZ gm p.e14,dZ Qt p.e15,.a_]⟩
 | .c5 p=>⟨[Ac 148 111 [(3,pZ 0),(6,pZ 1),(7,pZ 2),(9,pZ 3),(11,pZ 4)] f148 8181],[dZ bD p.f0,gZ [vi 0,vi 0,vi 0,vi 0,vi 0,vi 0,vi 0,vi 0,vi 0,vi 0,vi 0,vi 0,vi 0,vi 0,vi 0,vb false,vi 0,vi 0,.fG true,.fG true,vi 0,vi 0],gZ [vi 0,vi 0,vi 0,vi 0,vi 0,vi 0,vi 0,vi 0,vi 0,vi 0,vi 0,.fG true,vi 0],dZ gm p.f15,dZ Qt p.f16,.a_]⟩
def aoi(A:aS)(m:aA)(n:Node)(c:List Seen):LT (Node×qC×Int) aed:=.br (A.k mG n) (.eqs (((A.k mG n):Bool)=true)<|.ak<|.c0 ⟨c,(A.k kl (m,n,A.cm n.2.2.1.2.1 n.1)).2,m,(A.k kl (m,n,A.cm n.2.2.1.2.1 n.1)).1⟩)<|.eqs (((A.k mG n):Bool)=false)<|.ak<|.c0 ⟨c,(A.k kl (m,n,false)).2,m,(A.k kl (m,n,false)).1⟩
def Ax(A:aS):aed->LT (Node×qC×Int) aed
 | .c0 p=>.br (A.cm p.a1 0) (.ret ((0,0,(0,0,0,0,0),(0,0,0,0,0,0,0),0,false,0,0,([]:List Int),([]:List iE),0,0),(0,0,0,(0,0,(0,0,0,0,0),0,([]:List Int)),0),p.a1))<|.ak<|.c1 ⟨(A.k al2 (p.a17.2.2.1,p.a17.2.2.2.1,p.a17.2.2.1.2.1,p.a0)).2,p.a2,p.a17,(A.k al2 (p.a17.2.2.1,p.a17.2.2.2.1,p.a17.2.2.1.2.1,p.a0)).1⟩
 | .c1 p=>.br (A.cm p.b0 0) (.ret ((0,0,(0,0,0,0,0),(0,0,0,0,0,0,0),0,false,0,0,([]:List Int),([]:List iE),0,0),(0,0,0,(0,0,(0,0,0,0,0),0,([]:List Int)),0),p.b0))<|.br (A.bq p.w_.1 3) (.br (A.not<|A.k TY (p.b1,p.jC.2.2.1,p.w_.2.2.2.1)) (.br (A.cm (A.k oX (p.jC.2.2.2.1,p.jC.2.2.1.2.1,2,0,0,(0,0,(0,0,0,0,0),0,([]:List Int)),0)).2 0) (.ret ((0,0,(0,0,0,0,0),(0,0,0,0,0,0,0),0,false,0,0,([]:List Int),([]:List iE),0,0),(0,0,0,(0,0,(0,0,0,0,0),0,([]:List Int)),0),(A.k oX (p.jC.2.2.2.1,p.jC.2.2.1.2.1,2,0,0,(0,0,(0,0,0,0,0),0,([]:List Int)),0)).2))<|.ak<|.c2 ⟨(p.jC.1,p.jC.2.1,(p.jC.2.2.1.1,p.jC.2.2.1.2.1,p.jC.2.2.1.2.2.1,p.jC.2.2.1.2.2.2.1,(A.k oX (p.jC.2.2.2.1,p.jC.2.2.1.2.1,2,0,0,(0,0,(0,0,0,0,0),0,([]:List Int)),0)).1.2.2.1),(A.k oX (p.jC.2.2.2.1,p.jC.2.2.1.2.1,2,0,0,(0,0,(0,0,0,0,0),0,([]:List Int)),0)).1,p.jC.2.2.2.2)⟩)<|.br (A.cm (A.k oX (p.jC.2.2.2.1,p.jC.2.2.1.2.1,p.w_)).2 0) (.ret ((0,0,(0,0,0,0,0),(0,0,0,0,0,0,0),0,false,0,0,([]:List Int),([]:List iE),0,0),(0,0,0,(0,0,(0,0,0,0,0),0,([]:List Int)),0),(A.k oX (p.jC.2.2.2.1,p.jC.2.2.1.2.1,p.w_)).2))<|.br (A.bq p.w_.1 3) (.ak<|.c3 ⟨p.b1,(p.jC.1,p.jC.2.1,(p.jC.2.2.1.1,p.jC.2.2.1.2.1,p.jC.2.2.1.2.2.1,p.jC.2.2.1.2.2.2.1,(A.k oX (p.jC.2.2.2.1,p.jC.2.2.1.2.1,p.w_)).1.2.2.1),(A.k oX (p.jC.2.2.2.1,p.jC.2.2.1.2.1,p.w_)).1,p.jC.2.2.2.2),p.w_⟩)<|.ak<|.c4 ⟨(p.jC.1,p.jC.2.1,(p.jC.2.2.1.1,p.jC.2.2.1.2.1,p.jC.2.2.1.2.2.1,p.jC.2.2.1.2.2.2.1,(A.k oX (p.jC.2.2.2.1,p.jC.2.2.1.2.1,p.w_)).1.2.2.1),(A.k oX (p.jC.2.2.2.1,p.jC.2.2.1.2.1,p.w_)).1,p.jC.2.2.2.2),p.w_⟩)<|.br (A.cm (A.k oX (p.jC.2.2.2.1,p.jC.2.2.1.2.1,p.w_)).2 0) (.ret ((0,0,(0,0,0,0,0),(0,0,0,0,0,0,0),0,false,0,0,([]:List Int),([]:List iE),0,0),(0,0,0,(0,0,(0,0,0,0,0),0,([]:List Int)),0),(A.k oX (p.jC.2.2.2.1,p.jC.2.2.1.2.1,p.w_)).2))<|.br (A.bq p.w_.1 3) (.ak<|.c3 ⟨p.b1,(p.jC.1,p.jC.2.1,(p.jC.2.2.1.1,p.jC.2.2.1.2.1,p.jC.2.2.1.2.2.1,p.jC.2.2.1.2.2.2.1,(A.k oX (p.jC.2.2.2.1,p.jC.2.2.1.2.1,p.w_)).1.2.2.1),(A.k oX (p.jC.2.2.2.1,p.jC.2.2.1.2.1,p.w_)).1,p.jC.2.2.2.2),p.w_⟩)<|.ak<|.c4 ⟨(p.jC.1,p.jC.2.1,(p.jC.2.2.1.1,p.jC.2.2.1.2.1,p.jC.2.2.1.2.2.1,p.jC.2.2.1.2.2.2.1,(A.k oX (p.jC.2.2.2.1,p.jC.2.2.1.2.1,p.w_)).1.2.2.1),(A.k oX (p.jC.2.2.2.1,p.jC.2.2.1.2.1,p.w_)).1,p.jC.2.2.2.2),p.w_⟩
 | .c2 p=>.br (A.bq p.c14.2.1 4) (.br (A.not<|A.k VM p.c14.2.2.2.1) (.ret ((p.c14.1,3,p.c14.2.2),(2,0,0,(0,0,(0,0,0,0,0),0,([]:List Int)),0),0))<|.ret (p.c14,(2,0,0,(0,0,(0,0,0,0,0),0,([]:List Int)),0),0))<|.ret (p.c14,(2,0,0,(0,0,(0,0,0,0,0),0,([]:List Int)),0),0)
 | .c3 p=>.br (A.cm p.Y2.2.2.2.1.1 3) (.br (A.bq (A.k Ee (p.A_.2.2.2.2.2.2.2,p.A_.2.2.1.2.1,p.Y2.2.2.2.1.2.2.2.2)).2 0) (.ak<|.c5 ⟨p.d0,(p.A_.1,p.A_.2.1,p.A_.2.2.1,p.A_.2.2.2.1,p.A_.2.2.2.2.1,p.A_.2.2.2.2.2.1,p.A_.2.2.2.2.2.2.1,(A.k Ee (p.A_.2.2.2.2.2.2.2,p.A_.2.2.1.2.1,p.Y2.2.2.2.1.2.2.2.2)).1),p.Y2⟩)<|.ak<|.c5 ⟨p.d0,p.A_,p.Y2⟩)<|.ak<|.c5 ⟨p.d0,p.A_,p.Y2⟩
 | .c4 p=>.br (A.bq p.e14.2.1 4) (.br (A.not<|A.k VM p.e14.2.2.2.1) (.ret ((p.e14.1,3,p.e14.2.2),p.e15,0))<|.ret (p.e14,p.e15,0))<|.ret (p.e14,p.e15,0)
 | .c5 p=>.br (A.bq (A.k Bp (p.f0,p.f15.2.2.1,p.f16.2.2.2.1.2.1)).2 0) (.ak<|.c4 ⟨(p.f15.1,p.f15.2.1,(A.k Bp (p.f0,p.f15.2.2.1,p.f16.2.2.2.1.2.1)).1,p.f15.2.2.2),p.f16⟩)<|.ak<|.c4 ⟨p.f15,p.f16⟩
def Rx{p:XH}:aV (Ax af) (.ak<|.c4 p) (Ar p.e14,p.e15,0):=by
 rw[aG,Ax];exact aio rfl
def am1{p:XF}:aV (Ax af) (.ak<|.c2 p) (Ar p.c14,LJ,0):=by
 rw[aG,Ax];exact aio rfl
def abr{p:XI}:aV (Ax af) (.ak<|.c5 p) (Ar (p.f15.1,p.f15.2.1,qt p.f0 p.f15.2.2.1 p.f16.2.2.2.1.2.1,p.f15.2.2.2),p.f16,0):=by
 rw[aG,Ax,qt];refine bl (p:=(EZ p.f0 p.f15.c p.f16.d.2.1).2=0) dx (λg=>?_) λg=>?_
 .rw[cr g];exact Rx
 .rw[gw g];exact Rx
def am2{p:XG}(h:(tq p.A_.2.2.2.2.2.2.2 p.A_.2.2.1.2.1 p.Y2.2.2.2.1.2.2.2.2).2=0):aV (Ax af) (.ak<|.c3 p) (Ar<|Kt p.d0 p.A_ p.Y2.2.2.2.1,p.Y2,0):=by
 rw[aG,Ax,Kt];refine bl (p:=¬p.Y2.d.1=3) dC (λg=>?_) λg=>?_
 .rw[gw g,show ∀x,af.k Ee x=tq x.1 x.2.1 x.2.2 from λ_=>rfl];exact(ar<|YO h).2 abr
 .rw[cr<|dF.1 g];exact abr
theorem am0{p:XE}{S:qC×Int}(h:p.b0=S.2)(i:p.b1=m)(j:p.jC=n)(l:p.w_=S.1)(q:dp m n=0)(o:S.2=0->(oX (n.2.2.2.1,n.2.2.1.2.1,S.1)).2=0/\(oX (n.2.2.2.1,n.2.2.1.2.1,LJ)).2=0):aV (Ax af) (.ak<|.c1 p)<|bif decide (S.2=0) then(QJ m n<|BF m n S.1,BF m n S.1,0) else(j_,W5,S.2):=by
 subst i j;rw[aG,Ax,h,l];refine bl (p:=¬S.2=0) dC (λg=>aT (by rw[gw g];rfl)<|.ret _) λg=>?_;have g:=dF.1 g;have⟨a1,a2⟩:=o g;rw[cr g,cond_true];rw[show af.k TY (p.b1,p.jC.c,S.1.d)=BE p.b1 p.jC.c S.1.d from rfl];have c:af.cm (af.k oX (p.jC.d,p.jC.c.2.1,S.1)).2 0=false:=by rw[b_,a1];rfl
 have f:af.cm (af.k oX (p.jC.d,p.jC.c.2.1,2,0,0,(0,0,(0,0,0,0,0),0,([]:List Int)),0)).2 0=false:=by rw[b_];unfold LJ Cs at a2;rw[a2];rfl
 refine bl (p:=S.1.1=3) dx (λk=>?_) λk=>(ap c).2<|(ap (by simp_all;exact gw k)).2 ?_
 .cases hl:BE p.b1 p.jC.c S.1.d
  .refine(ar rfl).2 ((ap f).2 ?_);rw[Uw k hl];exact am1 (p:=⟨Kh p.jC<|Oi p.jC LJ⟩)
  .refine(ap rfl).2 ((ap c).2<|(ar (by rw[dx];simp_all)).2 ?_);rw[O8 hl,QJ,cr k];have r:=TA q hl;exact am2 (p:=⟨p.b1,Kh p.jC<|Oi p.jC S.1,S.1⟩) r
 .rw[aaS k,QJ,gw k];exact Rx (p:=⟨Kh p.jC<|Oi p.jC S.1,S.1⟩)
theorem ayx{f:List Seen}:aV (Ax af) (aoi af m n f)<|oG m n f:=by
 unfold aoi oG;rw[show af.k mG n=lh n from rfl];have i:∀q:XD,q.a1=(nF m n false).2->aV (Ax af) (.ak<|.c0 q) (bif decide (dp m n=0) then(j_,W5,181) else(j_,W5,dp m n)):=λq l=>by
  rw[aG,Ax,l,nF];by_cases h:dp m n=0
  .rw[cr h];exact(ar rfl).2 (.ret _)
  .rw[gw h];exact(ar<|xv h).2 (.ret _)
 cases hi:lh n
 .exact(ap rfl).2 (yd.2 ⟨rfl,i _ rfl⟩)
 .refine(ar rfl).2 (yd.2 ⟨rfl,?_⟩);rw[show ∀w,af.k kl (m,n,w)=nF m n w from λ_=>rfl,dC,dO];by_cases j:n.c.2.1=n.1
  .simp_all
  .rw[cr j,cond_true];by_cases h:dp m n=0
   .have e:nF m n true=(n,0):=by rw[nF,cr h];rfl
    rw[cr h,e,cond_true,aG,Ax];exact(ap rfl).2 (am0 (S:=B7 n f) rfl rfl rfl rfl h λg=>aka (c:=n.c) (v:=n.d) (s:=n.c.2.1) (seen:=f) g)
   .have:=i ⟨f,(nF m n true).2,m,(nF m n true).1⟩ (by rw[nF,nF,gw h];rfl)
    simp_all
def TR:(aA×Node×List Seen)->(Node×qC×Int):=λ(m,c,k)=>oG m c k
def auP:aK:=.all [bD,gm,.slice qA] [gm,Qt,yI] TR
def asG:Sd 148 auP:=fa<|aX ax dJ sl 38 [] [⟨148,2,[[2,3,6,7,9,10]]⟩,⟨148,5,[[3,6,7,9,10,11]]⟩,⟨148,14,[[3,6,7,9,11]]⟩,⟨148,16,[[3,6,7,9,11]]⟩,⟨148,17,[[6,7,9,11]]⟩] (λA (m,n,c)=>aoi A m n c) Ax akx (kz (fc func148 (fc func192 (fc func193 fz))) (sc ayN (sc ayR (sc ayW (sc B8 (sc ED (sc aiE (sc aiH (sc acG sz))))))))) (λA y=>match y with |.c0 p=>⟨31,sl,by kernel_rfl⟩|.c1 p=>⟨76,sl,by kernel_rfl⟩|.c2 p=>⟨29,sl,by kernel_rfl⟩|.c3 p=>⟨56,sl,by kernel_rfl⟩|.c4 p=>⟨29,sl,by kernel_rfl⟩|.c5 p=>⟨48,sl,by kernel_rfl⟩) λ(m,n,c) f h=>ayx
def xt{k:Int}(l:4<=k/\k<=8)(f:0<=c.1/\c.1<=255)(g:0<=c.2.1/\c.2.1<=k-1)(h:0<=c.2.2.1/\c.2.2.1<=3)(i:0<=c.2.2.2.1/\c.2.2.2.1<=4)(j:0<=c.2.2.2.2/\c.2.2.2.2<=2^k.toNat-1):sC (c,k)=0:=by
 rw[sC,gw<|show ¬k<4 by omega,gw<|show ¬8<k by omega,cr f.1,cr f.2,cr g.1,cr g.2,cr h.1,cr h.2,cr i.1,cr i.2,cr j.1,cr j.2];rfl
def uu(h:sC (c,m.1)=0)(f:c.2.2.1<iP m)(g:c.2.2.2.1<=iP m):jE m c=true:=by
 rw[jE,cr h,cr f,cr g];rfl
def HV{x:Node}(c:dP m=true)(h:V8 m x=true):dp m x=0:=by rw[dp,c,h];rfl
theorem Hw{x:Node}(r:dP m=true)(c:0<=x.1/\x.1<=m.1-1)(f:2<=x.2.1/\x.2.1<=4)(g:0<=x.2.2.2.2.2.2.1/\x.2.2.2.2.2.2.1<=2)(h:iO x.2.2.2.2.2.2.2=true)(i:x.2.2.2.2.2.2.2.1=x.1)(j:(x.2.2.2.2.2.2.2.2.2.1.length:Int)=m.1)
  (u:x.2.1=2->(af.n .bool m.2.2.2.2.2.2.1 x.1:Bool)=true) (l:jE m x.2.2.1=true) (n:vT x.2.2.2.1=0) (o:x.2.2.2.1.1=x.1) (p:x.2.2.2.1.2.1=m.1) (q:x.2.2.1.2.2.2.2=x.2.2.2.1.2.2.1) (v:x.2.2.2.2.1=0) (z:x.2.2.2.2.2.1=true->x.2.1=2):dp m x=0:=by
 refine HV r (fS.2 ⟨c,by omega,g,h,i,j,?_,?_,?_,?_⟩)
 .rw[LN];by_cases k:x.2.1=2
  .simp_all
  .rw[gw k];rfl
 .rw[z8,lh,cr f,cond_true,l,cr n,cr o,cr p,cr q];rfl
 .rw[DD,gw (show ¬x.2.1=1 by omega)];simp_all
 .rw[EM]
  grind
theorem uD{x:Node}(o:dP m=true)(c:0<=x.1/\x.1<=m.1-1)(p:x.2.1=0\/x.2.1=1\/x.2.1=5)(f:0<=x.2.2.2.2.2.2.1/\x.2.2.2.2.2.2.1<=2)(g:iO x.2.2.2.2.2.2.2=true)(h:x.2.2.2.2.2.2.2.1=x.1)(i:(x.2.2.2.2.2.2.2.2.2.1.length:Int)=m.1)
  (j:x.2.2.1=(0,0,0,0,0)) (l:x.2.2.2.1=(0,0,0,0,0,0,0)) (q:x.2.1=1->1<=x.2.2.2.2.1/\x.2.2.2.2.1<=(vX m x.1).1) (n:¬x.2.1=1->x.2.2.2.2.1=0) (r:x.2.2.2.2.2.1=true->x.2.1=1):dp m x=0:=by
 refine HV o (fS.2 ⟨c,by omega,f,g,h,i,?_,?_,?_,?_⟩)
 .rw[LN,gw (show ¬x.2.1=2 by omega)];rfl
 .rw[z8,lh,gw (show ¬(2<=x.2.1/\x.2.1<=4) by omega),cond_false,j,l];rfl
 .rw[DD]
  simp_all
 .rw[EM]
  grind
theorem UC(h:dp m n=0)(c:n.2.2.2.2.2.1=true):n.2.1=1\/n.2.1=2:=by
 have f:=(fS.1 (dw h).2).I;rw[EM,c] at f
 simp_all
def agb{k:Int}(h:4<=k/\k<=8):af.b .shl .i64 1 k=2^k.toNat:=by
 have:k=4\/k=5\/k=6\/k=7\/k=8:=by omega
 rcases this with rfl|rfl|rfl|rfl|rfl<;>decide
theorem Rv{c:Int}(g:4<=b/\b<=8)(f:0<=a/\a<=b-1)(h:0<=c/\c<=2^b.toNat-1):vT (a,b,c,1,0,0,0)=0:=by
 refine nP.2 ?_;unfold oF
 grind
def Fe{n:Int}(c:dP m=true)(h:0<=n/\n<=m.1-1):1<=(vX m n).1:=by
 have f:=(iW c).1;rw[vX,qd,c,cond_true,cr h];simp[cond_true,decide_true,gG];rw[jq,jq];rw[lZ (a:=4*m.1) (by omega)<|by omega,lZ (a:=n+1) (by omega)<|by omega,lZ (a:=2*(n+1)) (by omega)<|by omega,lZ (by omega)<|by omega];omega
def anF{n:Int}(c:dP m=true)(h:0<=n/\n<=m.1-1):1<=(J0 m n).1/\(J0 m n).1<=(vX m n).1:=by
 have f:=(iW c).1;rw[vX,J0,qd,c,cond_true,cr h];simp[cond_true,decide_true,gG];rw[jq,jq];rw[lZ (a:=4*m.1) (by omega)<|by omega,lZ (a:=n+1) (by omega)<|by omega,lZ (a:=2*(n+1)) (by omega)<|by omega,lZ (a:=4*m.1+2*(n+1)) (by omega)<|by omega];omega
theorem NC{r:Int}(j:dP m=true)(h:jE m c=true):jE m (qt m c r)=true/\(qt m c r).2.1=c.2.1/\(qt m c r).2.2.2.2=c.2.2.2.2:=by
 rw[qt,EZ,cr (YE j h),cond_true];by_cases g:0<=r/\r<=iP m
 .rw[cr g,cond_true];by_cases l:0<r
  .cases h3:zg m c (r-1)
   .simp_all
   .rw[cr l,Bool.and_self,cond_true];have i:=Bl h;have f:=xr i.1;have n:=(iW j).2.1;refine⟨uu (xt f.1 f.2.1 f.2.2.1 f.2.2.2.1 (show 0<=r/\r<=4 by omega) f.2.2.2.2.2) i.2.1.2 g.2,rfl,rfl⟩
  grind
 grind
theorem apg(h:dp m n=0)(i:(Fx m n s).2=0):dp m (Fx m n s).1=0:=by
 have f:=fS.1 (dw h).2;have l:=(dw h).1;have j:=(iW l);rw[Fx,cr h,cond_true] at i ⊢;by_cases o:n.2.1=0
 .rw[cr o,cond_true] at i ⊢;by_cases g:0<=s/\s<=af.b .shl .i64 1 m.1-1
  .rw[cr g,cond_true] at i ⊢;cases h3:rv s n.1
   .simp_all
   .rw[agb j.1] at g;exact Hw l f.1 (show(2:Int)<=4/\(4:Int)<=4 by omega) f.c f.d f.e f.f (λk=>absurd k<|show ¬(4:Int)=2 by omega) (uu (xt (c:=(0,0,0,0,s)) j.1 (show(0:Int)<=0/\(0:Int)<=255 by omega) (show(0:Int)<=0/\(0:Int)<=m.1-1 by omega) (show(0:Int)<=0/\(0:Int)<=3 by omega) (show(0:Int)<=0/\(0:Int)<=4 by omega) g) (show(0:Int)<iP m by omega)<|show(0:Int)<=iP m by omega) (Rv j.1 f.1 g) rfl rfl rfl rfl (λk=>by have:=UC h k;omega)
  simp_all
 simp_all
theorem UA{id:Int}(f:(r8 m id).2=0):dp m (r8 m id).1=0:=by
 rw[r8] at f ⊢;cases hm:dP m
 .simp_all
 .rw[hm,cond_true] at f;have j:=iW hm;by_cases c:0<=id/\id<=m.1-1
  .rw[cr c,cond_true,cond_true];have h:((List.replicate m.1.toNat HZ).length:Int)=m.1:=by grind
   refine uD hm c (.inl rfl) (show(0:Int)<=0/\(0:Int)<=2 by omega) ?_ rfl h rfl rfl (λk=>absurd k<|show ¬(0:Int)=1 by omega) (λ_=>rfl) (λk=>by cases k);have g:(List.replicate m.1.toNat HZ).all Pm=true:=by rw[cd];intro x i;rw[List.eq_of_mem_replicate i];decide
   simp only[iO,g]
   simp_all
  simp_all
theorem BU{on:Bool}(h:dp m n=0)(f:(jG m n on).2=0):dp m (jG m n on).1=0:=by
 have c:=fS.1 (dw h).2;have g:=(dw h).1;rw[jG,cr h,cond_true] at f ⊢;cases on
 .exact UA f
 .rw[cond_true] at f ⊢;by_cases i:n.2.1=0
  .rw[cr i,cond_true];exact uD g c.1 (.inr<|.inl rfl) c.c c.d c.e c.f rfl rfl (λ_=>⟨Fe g c.1,aj _⟩) (λk=>absurd rfl k)<|λk=>rfl
  simp_all
def abf{c:iG}(h:dp m n=0)(g:iO c=true)(i:c.1=n.2.2.2.2.2.2.2.1)(j:c.2.2.1.length=n.2.2.2.2.2.2.2.2.2.1.length):dp m (n.1,n.2.1,n.2.2.1,n.2.2.2.1,n.2.2.2.2.1,n.2.2.2.2.2.1,n.2.2.2.2.2.2.1,c)=0:=by
 have f:=fS.1 (dw h).2;exact HV (dw h).1<|fS.2 ⟨f.1,f.2.1,f.c,g,i.trans f.e,(congrArg Int.ofNat j).trans f.f,f.F⟩
theorem api{c:iG}{d:List Int}(f:(Xf c d).2=0):iO (Xf c d).1=true/\(Xf c d).1.1=c.1/\(Xf c d).1.2.2.1.length=c.2.2.1.length:=by
 rw[Xf] at f ⊢;cases h:iO c
 .simp_all
 .rw[h,cond_true] at f;by_cases g:8<(d.length:Int)
  .simp_all
  .rw[gw g,cond_false];simp only[iO] at h ⊢
   simp_all
theorem akd{c:iG}(f:(btS c).2=0):iO (btS c).1=true/\(btS c).1.1=c.1/\(btS c).1.2.2.1.length=c.2.2.1.length:=by
 rw[btS] at f ⊢;cases h:iO c
 .simp_all
 .rw[cond_true];simp only[iO] at h ⊢
  simp_all
theorem YD{c:iG}{w:Int}(f:(Jx c w).2=0):iO (Jx c w).1=true/\(Jx c w).1.1=c.1/\(Jx c w).1.2.2.1.length=c.2.2.1.length:=by
 rw[Jx] at f ⊢;cases h:iO c
 .simp_all
 .rw[h,cond_true] at f;by_cases g:-1<=w/\w<=3
  .rw[cr g,cond_true];simp only[iO] at h ⊢
   simp_all
  simp_all
def ago{c:iG}(h:iO c=true):iO (JZ c).1=true/\(JZ c).1.1=c.1/\(JZ c).1.2.2.1.length=c.2.2.1.length:=by
 rw[JZ,h,cond_true];have i:(c.2.2.1.map LB).length=c.2.2.1.length:=cy ..;simp only[iO,fZ,uR] at h ⊢;refine⟨⟨by omega,by omega,h.2.2.1,?_,h.2.2.2.2.1,?_⟩,trivial,i⟩
 .have m:=h.2.2.2.1;rw[gX,lZ (by omega)<|by omega,tX];omega
 .rw[cd];intro x j;obtain⟨y,l,rfl⟩:=dG.1 j;have g:=cd.1 h.2.2.2.2.2 y l;simp only[Pm,fZ,uR] at g;have f:0<=(LB y).2/\(LB y).2<=255:=by
   show 0<=af.mn (af.b .add .i64 y.2 1) 255/\af.mn (af.b .add .i64 y.2 1) 255<=255;rw[gG,lZ (by omega)<|by omega,mZ];omega
  rw[Pm,fZ];exact⟨cr g.1,cr f⟩
theorem TB{c:iG}{d:List Int}(f:(tq c s d).2=0):iO (tq c s d).1=true/\(tq c s d).1.1=c.1/\(tq c s d).1.2.2.1.length=c.2.2.1.length:=by
 rw[tq] at f ⊢;cases h:iO c
 .simp_all
 rw[cond_true];by_cases i:0<=s/\s<=(c.2.2.1.length:Int)-1
 .rw[cr i,cond_true] at f ⊢;by_cases j:8<(d.length:Int)
  .simp_all
  rw[gw j,cond_false];have l:(c.2.2.1.set s.toNat (d,0)).length=c.2.2.1.length:=bW ..;simp only[iO,fZ,uR] at h ⊢;refine⟨⟨by omega,by omega,h.2.2.1,h.2.2.2.1,h.2.2.2.2.1,?_⟩,trivial,l⟩;rw[cd];intro x g;rcases List.mem_or_eq_of_mem_set g with g|rfl
  .simp_all
  .simp[Pm,fZ,uR];omega
 simp_all
theorem Ha(h:dp m n=0)(g:r.2=0->iO r.1=true/\r.1.1=n.2.2.2.2.2.2.2.1/\r.1.2.2.1.length=n.2.2.2.2.2.2.2.2.2.1.length)(f:(Aj n r).2=0):dp m (Aj n r).1=0:=by
 rw[Aj] at f ⊢;by_cases k:r.2=0
 .rw[cr k,cond_true];have⟨a,b,c⟩:=g k;exact abf h a b c
 simp_all
theorem afC{o:cq}(h:dp m n=0)(c:(zf m n o).2=0):dp m (zf m n o).1=0:=by
 rw[zf,cr h,cond_true] at c ⊢;by_cases g:1<=o.d/\o.d<=3
 .rw[cr g,cond_true] at c ⊢;cases hi:lh n
  .exact h
  rw[hi,cond_true] at c;by_cases k:o.d=1
  .rw[cr k,cond_true] at c ⊢;exact Ha h api c
  rw[gw k,cond_false] at c ⊢;by_cases f:o.d=2
  .rw[cr f,cond_true] at c ⊢;exact Ha h akd c
  rw[gw f,cond_false] at c ⊢;exact Ha h YD c
 simp_all
theorem abe(h:dp m n=0)(g:lh n=true)(i:jE m c=true)(j:c.2.2.2.2=n.2.2.1.2.2.2.2):dp m (n.1,n.2.1,c,n.2.2.2)=0:=by
 have f:=fS.1 (dw h).2;have l:=qc h g;refine HV (dw h).1<|fS.2 ⟨f.1,f.2.1,f.c,f.d,f.e,f.f,f.g,?_,f.H⟩;rw[z8,show lh (n.1,n.2.1,c,n.C)=true from g,cond_true]
 simp_all
theorem acZ(n:dP m=true)(h:jE m c=true):jE m (qs c m.1).1=true/\(qs c m.1).1.2.2.2.2=c.2.2.2.2:=by
 have i:=Bl h;have f:=xr i.1;rw[qs,cr i.1,cond_true];have l:0<=(c.1+1).tmod 256/\(c.1+1).tmod 256<=255:=by grind
 by_cases g:c.2.1+1=m.1
 .rw[cr g,cond_true];by_cases j:c.2.2.2.1=0
  .rw[cr j,cond_true];exact⟨uu (xt (c:=((c.1+1).tmod 256,0,c.2.2)) f.1 l (show(0:Int)<=0/\(0:Int)<=m.1-1 by omega) f.2.2.2.1 f.2.2.2.2.1 f.2.2.2.2.2) i.2.1.2 i.2.2,rfl⟩
  .rw[gw j,cond_false];exact⟨uu (xt (c:=((c.1+1).tmod 256,0,c.2.2.2.1-1,0,c.2.2.2.2)) f.1 l (show(0:Int)<=0/\(0:Int)<=m.1-1 by omega) (show 0<=c.2.2.2.1-1/\c.2.2.2.1-1<=3 by omega) (show(0:Int)<=0/\(0:Int)<=4 by omega) f.2.2.2.2.2) (show c.2.2.2.1-1<iP m by omega)<|show(0:Int)<=iP m by omega,rfl⟩
 .rw[gw g,cond_false];exact⟨uu (xt (c:=(c.1,c.2.1+1,c.2.2)) f.1 f.2.1 (show 0<=c.2.1+1/\c.2.1+1<=m.1-1 by omega) f.2.2.2.1 f.2.2.2.2.1 f.2.2.2.2.2) i.2.1.2 i.2.2,rfl⟩
theorem E7(h:dp m n=0)(g:(jI m n).2=0):dp m (jI m n).1=0:=by
 rw[jI,cr h,cond_true] at g ⊢;cases hi:lh n
 .simp_all
 have⟨a,b⟩:=acZ (dw h).1 (qc h hi).1;have f:=abe (c:=(qs n.c m.1).1) h hi a b;cases decide ((qs n.c m.1).1.2.1=0)
 .grind
 .have⟨c,d,e⟩:=ago<|BK h;exact abf f c d e
def acr{k n:Int}(g:4<=k/\k<=8)(h:0<=n/\n<=k-1):0<=af.b .shl .i64 1 n/\af.b .shl .i64 1 n<=2^k.toNat-1:=by
 have c:k=4\/k=5\/k=6\/k=7\/k=8:=by omega
 have f:n=0\/n=1\/n=2\/n=3\/n=4\/n=5\/n=6\/n=7:=by omega
 rcases c with rfl|rfl|rfl|rfl|rfl<;>rcases f with rfl|rfl|rfl|rfl|rfl|rfl|rfl|rfl<;>first|decide|omega
theorem Vk(h:dp m n=0)(u:(iL m n).2.2.2=0):dp m (iL m n).1=0:=by
 have f:=fS.1 (dw h).2;have i:=(dw h).1;have l:=iW i;rw[iL,cr h,cond_true] at u ⊢;by_cases g:n.2.1=1
 .have⟨p,r⟩:=UE h (by omega);have v:1<=n.e/\n.e<=(vX m n.1).1:=by
   have j:=f.i;rw[DD,cr g,cond_true,uR] at j;omega
  rw[cr g,cond_true];by_cases o:0<n.e-1
  .rw[cr o,cond_true];exact uD i f.1 (.inr<|.inl g) f.c f.d f.e f.f p r (λ_=>show 1<=n.e-1/\n.e-1<=(vX m n.1).1 by omega) (λk=>absurd g k)<|λ_=>g
  .rw[gw o,cond_false];cases j:(af.n .bool m.g n.1:Bool)
   .rw[cond_false];exact uD i f.1 (.inr<|.inl g) f.c f.d f.e f.f p r (λ_=>⟨Fe i f.1,aj _⟩) (λk=>absurd g k)<|λ_=>g
   .rw[cond_true];have q:=acr l.1 f.1;exact Hw i f.1 (show(2:Int)<=2/\(2:Int)<=4 by omega) f.c f.d f.e f.f (λ_=>j) (uu (xt (c:=(0,n.1,0,0,af.b .shl .i64 1 n.1)) l.1 (show(0:Int)<=0/\(0:Int)<=255 by omega) f.1 (show(0:Int)<=0/\(0:Int)<=3 by omega) (show(0:Int)<=0/\(0:Int)<=4 by omega) q) (show(0:Int)<iP m by omega)<|show(0:Int)<=iP m by omega) (Rv l.1 f.1 q) rfl rfl rfl rfl<|λ_=>rfl
 simp_all
theorem KU(h:dp m n=0)(l:jE m c=true)(o:f.1=4->(tq n.2.2.2.2.2.2.2 c.2.1 f.2.2.2.2).2=0):dp m (zK m n c f)=0:=by
 have g:=fS.1 (dw h).2;have j:=(dw h).1;have⟨q,v,u⟩:=NC (r:=f.2.1) j l;have p:=(xr (Bl l).1).E;have i:iO (bif decide (f.1=4) then(tq n.G c.2.1 f.D).1 else n.G)=true/\(bif decide (f.1=4) then(tq n.G c.2.1 f.D).1 else n.G).1=n.h/\(bif decide (f.1=4) then(tq n.G c.2.1 f.D).1 else n.G).c.length=n.j.length:=by
  by_cases k:f.1=4
  .rw[cr k];exact TB<|o k
  simp_all
 exact Hw j g.1 (show(2:Int)<=3/\(3:Int)<=4 by omega) (show(0:Int)<=0/\(0:Int)<=2 by omega) i.1 (i.2.1.trans g.e) ((congrArg Int.ofNat i.2.2).trans g.f) (λk=>absurd k<|show ¬(3:Int)=2 by omega) q (Rv (iW j).1 g.1 p) rfl rfl u rfl (λk=>by cases k)
theorem Uo{s:List Seen}{o:Bool}(h:dp m n=0)(p:(my m n s o).2.2.2=0):dp m (my m n s o).1=0:=by
 have f:=fS.1 (dw h).2;have i:=(dw h).1;have q:=iW i;rw[my,cr h,cond_true] at p ⊢;by_cases g:n.2.1=1
 .rw[cr g,cond_true] at p ⊢;by_cases r:(s.length:Int)=2
  .rw[cr r,cond_true];cases hx:(je m.1 s).2.2
   .exact h
   have⟨C,D,j⟩:=Zq hx;have E:=aac j;by_cases l:(je m.1 s).1.1=1
   .rw[cr l,cond_true];by_cases u:(je m.1 s).1.2.2.2.1=n.1
    .simp_all
    .rw[gw u,cond_false];cases o && !n.2.2.2.2.2.1
     .rw[cond_false];exact KU h (uu (xt (c:=(0,(je m.1 s).1.2.2.2.1,0,0,af.b .shl .i64 1 (je m.1 s).1.2.2.2.1)) q.1 (show(0:Int)<=0/\(0:Int)<=255 by omega) (show 0<=(je m.1 s).1.2.2.2.1/\(je m.1 s).1.2.2.2.1<=m.1-1 by omega) (show(0:Int)<=0/\(0:Int)<=3 by omega) (show(0:Int)<=0/\(0:Int)<=4 by omega)<|acr q.1<|by omega) (show(0:Int)<iP m by omega)<|show(0:Int)<=iP m by omega) (λk=>by omega)
     .rw[cond_true];have⟨A,B⟩:=UE h (by omega);exact uD i f.1 (.inr<|.inl g) f.2.2.1 f.2.2.2.1 f.2.2.2.2.1 f.2.2.2.2.2.1 A B (λ_=>⟨Fe i f.1,aj _⟩) (λk=>absurd g k)<|λ_=>g
   .rw[gw l,cond_false];cases hj:Uy m n (je m.1 s).1
    .exact h
    .rw[cond_true];have v:=Y8 h j hj;have z:jE m (je m.1 s).1.2.2.1=true:=by rw[Uy,fZ] at hj;simp_all
     exact KU h z λ_=>v
  simp_all
 simp_all
def Zu(h:jE m c=true)(i:0<=s/\s<=2^m.1.toNat-1):jE m (c.1,c.2.1,c.2.2.1,c.2.2.2.1,s)=true:=by
 have g:=Bl h;have f:=xr g.1;exact uu (xt (c:=(c.1,c.2.1,c.c,c.d,s)) f.1 f.2.1 f.c f.d f.e i) g.2.1.2 g.2.2
theorem adT{v:vM}(h:vT v=0):0<=v.2.2.1/\v.2.2.1<=2^v.2.1.toNat-1:=by
 have c:=nP.1 h;unfold oF at c
 grind
def Pr{v:vM}(h:dp m n=0)(g:lh n=true)(j:vT v=0)(l:v.1=n.1)(f:v.2.1=m.1):dp m (Kh n v)=0:=by
 have c:=fS.1 (dw h).2;have o:=qc h g;have i:=adT j;rw[f] at i;refine HV (dw h).1<|fS.2 ⟨c.1,c.2.1,c.c,c.d,c.e,c.f,c.g,?_,c.H⟩;rw[z8,show lh (Kh n v)=true from g,cond_true];show(jE m (n.c.1,n.c.2.1,n.c.c,n.c.d,v.c)&&(decide (vT v=0)&&(decide (v.1=n.1)&&(decide (v.2.1=m.1)&&decide (v.c=v.c)))))=true;rw[Zu o.1 i,cr j,cr l,cr f,cr rfl];rfl
def aay(c:lh n=true):2<=n.2.1/\n.2.1<=4:=of_decide_eq_true c
def afZ{x:Node}(h:dp m x=0)(g:lh x=true):dp m (on4 x)=0:=by
 have f:=fS.1 (dw h).2;have c:=qc h g;have j:=aay g;have i:=UF h (show ¬x.2.1=1 by omega);exact Hw (dw h).1 f.1 (show(2:Int)<=4/\(4:Int)<=4 by omega) f.c f.d f.e f.f (λk=>absurd k<|show ¬(4:Int)=2 by omega) c.1 c.2.1 c.c c.d c.D i (λk=>by cases k)
theorem ahI(h:vT n.2.2.2.1=0):vT (qE n).1=0/\(qE n).1.1=n.2.2.2.1.1/\(qE n).1.2.1=n.2.2.2.1.2.1:=by
 rw[qE];cases decide (n.2.1=2)&&(decide (n.d.d<2)||decide (n.d.d<=n.d.e))
 .rw[cond_false];generalize n.d=V at h ⊢;cases decide (n.2.1=3)
  .have⟨g,i,j,l,m,w,c,f,_⟩:=UJ<|nP.1 h;rw[cond_false,c];exact⟨nP.2 f,rfl,rfl⟩
  .have⟨g,i,j,l,m,w,c,f,_⟩:=aaE<|nP.1 h;rw[cond_true,c];exact⟨nP.2 f,rfl,rfl⟩
 simp_all
def agk{x:Node}(h:dp m x=0)(c:lh x=true):dp m (agj m x).1=0:=by
 have⟨f,i,g⟩:=NC (r:=(Sj m x).2.1) (dw h).1 (qc h c).1;exact abe h c f g
def afw(h:dp m n=0)(f:lh n=true):dp m (al_ n (qE n).1)=0:=by
 have c:=qc h f;have⟨g,i,j⟩:=ahI c.2.1;exact afZ (Pr h f g (i.trans c.c)<|j.trans c.d) f
theorem abn(h:dp m n=0)(g:(rH m n).2.2.2=0):dp m (rH m n).1=0:=by
 have c:=fS.1 (dw h).2;have f:=(dw h).1;rw[rH,cr h,cond_true] at g ⊢;cases hi:lh n&&decide (n.c.2.1=n.1)
 .simp_all
 rw[fZ] at hi;rw[cond_true,EA];cases decide ((qE n).2=2)
 .rw[cond_false];cases decide ((qE n).2=3)
  .rw[cond_false];cases decide ((qE n).2=4)
   .rw[cond_false];exact agk (afw h hi.1) rfl
   .rw[cond_true];have i:=anF f c.1;exact uD f c.1 (.inr<|.inl rfl) c.c c.d c.e c.f rfl rfl (λ_=>i) (λk=>absurd rfl k)<|λ_=>rfl
  .rw[cond_true];exact uD f c.1 (.inr<|.inl rfl) (show(0:Int)<=2/\(2:Int)<=2 by omega) c.d c.e c.f rfl rfl (λ_=>⟨Fe f c.1,aj _⟩) (λk=>absurd rfl k)<|λ_=>rfl
 .rw[cond_true];exact uD f c.1 (.inr<|.inr rfl) (show(0:Int)<=1/\(1:Int)<=2 by omega) c.d c.e c.f rfl rfl (λk=>absurd k<|show ¬(5:Int)=1 by omega) (λ_=>rfl) (λk=>by cases k)
def YC{v:vM}{o:qC}(h:(qJ (c,v,s,seen)).2=0)(B:o=(qJ (c,v,s,seen)).1\/o=LJ):vT (oX (v,s,o)).1=0/\(oX (v,s,o)).1.1=v.1/\(oX (v,s,o)).1.2.1=v.2.1:=by
 have⟨a,b,c,d,e,f,g⟩:=v;rcases B with rfl|rfl
 .have⟨m,C,D,n,p,j,l,_⟩:=Ko h;rw[j];exact⟨nP.2 l,rfl,rfl⟩
 .have⟨q,r,u,z,_⟩:=Ay h;have i:=ik.1 q;have⟨m,n,p,j,l,_⟩:=BP i r u z;have A:=i;unfold oF at A;rw[LD rfl,QI j (show 0<=e by omega)<|show e<=1048576 by omega];exact⟨nP.2<|arB l<|inc_le (d:=e) (show 0<=e by omega)<|show e<=1048576 by omega,rfl,rfl⟩
theorem af9{x:Node}(h:dp m x=0):dp m (Ar x)=0:=by
 rw[Ar];by_cases k:x.2.1=4
 .cases VM x.d
  .rw[cr k,Bool.not_false,Bool.and_self,cond_true];have f:=fS.1 (dw h).2;have g:lh x=true:=cr (by omega);have c:=qc h g;have i:=UF h (show ¬x.2.1=1 by omega);exact Hw (dw h).1 f.1 (show(2:Int)<=3/\(3:Int)<=4 by omega) f.c f.d f.e f.f (λk=>absurd k<|show ¬(3:Int)=2 by omega) c.1 c.2.1 c.c c.d c.D i (λj=>by have:=UC h j;omega)
  simp_all
 simp_all
theorem YN{x:Node}(h:dp m x=0)(g:lh x=true)(j:(tq x.2.2.2.2.2.2.2 x.2.2.1.2.1 f.2.2.2.2).2=0):dp m (Kt m x f)=0:=by
 have⟨l,o,n⟩:=NC (r:=f.2.1) (dw h).1 (qc h g).1;have i:=abe h g l n;rw[Kt];by_cases k:f.1=3
 .simp_all
 .rw[gw k];have⟨a,b,c⟩:=TB j;exact abf i a b c
theorem UI{s:List Seen}(h:dp m n=0)(j:(oG m n s).2.2=0):dp m (oG m n s).1=0:=by
 rw[oG,cr h,cond_true] at j ⊢;cases hi:lh n&&decide (¬n.2.2.1.2.1=n.1)
 .grind
 rw[fZ] at hi;have f:=λ(o:qC) (g:(B7 n s).2=0)=>YC (c:=n.2.2.1) (v:=n.2.2.2.1) (s:=n.2.2.1.2.1) (seen:=s) (o:=o) g;have r:qJ (n.2.2.1,n.2.2.2.1,n.2.2.1.2.1,s)=B7 n s:=rfl;rw[r] at f;generalize B7 n s=S at f j ⊢;by_cases g:S.2=0
 .rw[cr g,cond_true];have i:=qc h hi.1;have l:∀o:qC,o=S.1\/o=LJ->dp m (Kh n (Oi n o))=0:=λo q=>by
   obtain⟨a,b,c⟩:=f o g q;exact Pr h hi.1 a (b.trans i.2.2.1) (c.trans i.2.2.2.1)
  refine af9 ?_;by_cases k:S.1.1=3
  .cases hl:BE m n.2.2.1 S.1.2.2.2.1
   .rw[Uw k hl];exact l _ (.inr rfl)
   .rw[O8 hl,cr k];have p:=TA h hl;exact YN (l _ (.inl rfl)) hi.1 p
  .rw[aaS k,gw k];simp_all
 simp_all
abbrev bQ:Ty:=re
abbrev bK:Type:=vM
abbrev lD:Ty:=(.struct [yI,.slice .bool,Cr,Cr,Cr,Cr,.slice dE,.slice bQ])
abbrev gH:Type:=Int×List Bool×List Int×List Int×List Int×List Int×List cq×List bK
abbrev gD:Ty:=(.struct [yI,gm])
abbrev eX:Type:=Int×Node
abbrev pQ:Ty:=(.struct [yI,yI,yI,yI])
abbrev jr:Type:=Int×Int×Int×Int
abbrev bS:Ty:=(.struct [gm,xg,yI,yI,yI,.bool,.bool,.bool])
abbrev cN:Type:=Node×qB×Int×Int×Int×Bool×Bool×Bool
abbrev Ki:Ty:=(.struct [kv,yI])
abbrev tg:Type:=Span×Int
variable{P:Program}
open Go.Lib Go.RowKit Go.Shelf in
set_option maxHeartbeats 2000000 in
theorem aff{ρ:Shelf.Ren}(L:SlLaysE0.n41 P ρ){l:TypeInfo}{z:Value}{size g:Nat}(S:P.info? (ρ.t 23)=some l)(r:l.zero=some z)(v:l.size=size)(B:l.bytes=g)(C:z.cells.size=size)(q:0<size)
  (a5:∀w,(Go.sizeOf<|ρ.t 23).run P w=.ok size w) (a:Addr) (n c:Nat) (f:List Value) (w:World) (hl:f.length=n*size) (hn:n<=maxLen) (H:n*g<=140737488355328)
  (Q:∀j u,f[j]? = some u->w.cell? (a.add j)=some u) (h1:∀u∈f,u.oneCell'=true) :
  Calls P (ρ.f 41) #[.slice (some a) n c] w λe J=>∃o,e=.returned o/\J.ownsRow w.heap.size (ρ.t 23) size o n f/\o≠.slice none 0 0/\Below w.heap.size w J:=by
 have D:=L.mixed;have t4:=L.t4;have a4:=L.a4;have z4:=L.z4;have v4:=L.v4;have m:=L.t22;have O:=L.a22;have a3:=L.z22;have a0:=L.v22;have X:∀(w:World) (a:Option Addr) (n c E p:Nat),(binOp .eql (ρ.t 22) (.slice a n c)<|.slice none E p).run P w=.ok (.bool a.isNone) w:=λw a n c E p=>Lib.run_eql_slice_nil w _ _ a n c E p L.t22;have Z:∀w,Sem.run P (underlying<|ρ.t 22) w=.ok (TypeDesc.slice<|ρ.t 23) w:=run_underlying m;have A:Aside (∀j u,f[j]? = some u->w.cell? (a.add j)=some u):=Q;have⟨_,_,K⟩:=L.f41
 go_enter K,SlBodyN.n41_ntmps ρ
 go_wp2_with (at_builtin;refine wpList_append_own _ rfl _ _ (ρ.t 22) rfl w.heap.size (ρ.t 23) l z size g m S r v B C q _ _ _ rfl (World.ownsRow_made w #[] 0 (ai _) (aM _) (by simp)) a n c f rfl ?qc1 ?qc2 ?qc3 ?qc4 ?qc5 ?qc6 ?_)
 case qc1=>omega
 case qc2=>exact λj u V=>Lib.cell?_alloc_some _<|A.out j u V
 case qc3=>omega
 case qc4=>omega
 case qc5=>simp_all
 case qc6=>simp
 intro o w1 I h i
 go_wp2
 go_ret
 refine⟨o,rfl,by omega,i,((Below.refl _ w).alloc (ai _) _).grown h (by simp) (by intro k W;simp[Value.ownBlock] at W;omega)⟩
open Go.Lib Go.RowKit Go.Shelf in
theorem Gj{P:Program}{ρ:Shelf.Ren}(L:SlLaysE0.n41 P ρ)(t:Ty){i0:TypeInfo}{z:Value}{bytes:Nat}(hi:P.info? (ρ.t 23)=some i0)(hz0:i0.zero=some z)(hz1:i0.size=t.size)(hz2:i0.bytes=bytes)(hzs:z.cells.size=t.size)(hsz:0<t.size)(hso:t.sj=true)
  (z23:∀w,(Go.sizeOf (ρ.t 23)).run P w=.ok t.size w) {F:Func} (hF:P.funcs[ρ.f 41]? = some F) (hb:F.body.isSome=true) (hn:(F.name == "runtime.NumGoroutine")=false) :
  aK.bI P (ρ.f 41) ⟨[.slice t],[.slice t],λx=>decide (((show List t.T from x).length:Int)*bytes<=140737488355328),λx=>x,false⟩:=by
 refine⟨λw I x aa hI hrep hp=>?_,nofun,⟨F,hF,hb,hn⟩⟩;obtain⟨l⟩:=aa;obtain⟨v,rfl,hv⟩:∃v,l=[v]/\mU w I (.slice t) v x:=hrep;have hbig:(show List t.T from x).length*bytes<=140737488355328:=by grind
 obtain⟨a,cap,us,rfl,h2,h3,h4,h5,h6,h7⟩:=E4.Mz hv;cases a with
 | none=>
   have hx0:x=([]:List t.T):=aY (by simp_all);subst hx0;refine(AnyE.slices_Clone_nil L 0 cap w).mono ?_
   rintro e w' ⟨rfl,rfl⟩
   exact⟨_,rfl,rfl,rfl,rfl,ai _,λ_ _=>rfl,I,λb h=>.inl h,eF.2 ⟨none,0,rfl,ai _,aM _,(λ_=>rfl),λi y h=>by cases h⟩⟩
 | some a=>
   refine(aff L hi hz0 hz1 hz2 hzs hsz z23 a (show List t.T from x).length cap us w h3 (bd h2 (by decide)) hbig (λj u hj=>?_) λu hu=>?_).mono ?_
   .obtain⟨hj1,_⟩:=aU.1 hj;obtain⟨b,off,e,hr⟩:=h4 (λk=>by simp_all);cases e;rw[kI];exact hr j u hj
   .obtain⟨i,hi1,hi2⟩:=yG h3 hu;exact bT.oneCell t hso (h7 i _ (KN hi1)) u hi2
   .rintro e w' ⟨v',rfl,⟨hn,hrow⟩,hnil,hb⟩
    rcases hrow with ⟨hz,_⟩|⟨g,cap',cur,rfl,hbase,hg,hcap,hml,hsz',htk⟩
    .simp_all
    refine⟨_,rfl,hb.os,hb.tape,hb.output,hb.size,hb.block,λb=>b<w.heap.size/\I b\/w.heap.size<=b/\b<w'.heap.size,λb h=>h.elim (λh=>.inl h.2) .inr,eF.2 ⟨_,cap',rfl,hcap,h2,(λh=>by cases h),λi y hy=>?_⟩⟩;have hi:i<(show List t.T from x).length:=(aU.1 hy).1;have hI':∀b,I b->(b<w.heap.size/\I b\/w.heap.size<=b/\b<w'.heap.size)/\w'.heap[b]? = w.heap[b]? :=λb hb'=>⟨.inl ⟨hI b hb',hb'⟩,hb.block b (hI b hb')⟩;refine⟨g,0,(us.drop (i*t.size)).take t.size,rfl,.inr ⟨hbase,(dy.1 hg).1⟩,?_,?_,(h7 i y hy).mono hI' t⟩
    .have:(i+1)*t.size<=(show List t.T from x).length*t.size:=aI _ hi
     grind
    .have hrw:=iU (w:=w') hg (0+i*t.size) t.size;have h8:(cur.toList.drop (0+i*t.size)).take t.size=(us.drop (i*t.size)).take t.size:=by
      have:(i+1)*t.size<=(show List t.T from x).length*t.size:=aI _ hi;rw[<-htk,iy,kR,kT]
      grind
     simp_all
def ant:Shelf.Ren:=⟨λx=>match x with|41=>165|n=>n,λx=>match x with|22=>34|4=>4|23=>139|n=>n,λx=>x⟩
def afP:SlLaysE0.n41 prog ant:=
 {mixed:=by kernel_rfl,f41:=⟨f165.name,by kernel_rfl,func165.trans (congrArg some (by kernel_rfl))⟩,t4:=Tryz.underlying4,a4:=Tryz.isAgg4,z4:=Tryz.sizeOf4,v4:=Tryz.zeroValue4,t22:=Tryz.underlying34,a22:=Tryz.isAgg34,z22:=Tryz.sizeOf34,v22:=Tryz.zeroValue34}
def ZW:List cq->List cq:=λx=>x
def RN:List cq->Bool:=λx=>decide<|(x.length:Int)*(64:Nat)<=140737488355328
def avV:aK:=⟨[.slice dE],[.slice dE],RN,ZW,false⟩
def att:Sd 165 avV:=by
 have⟨j,h,c,f,g⟩:=info_parts (show(prog.info? 139).map (λi=>(i.zero,i.size,i.bytes))=some (some<|.agg #[.int .i64 0,.int .i64 0,.int .i64 0,.int .i64 0,.int .i64 0,.slice none 0 0],6,64) by kernel_rfl);exact Gj afP dE h c f g (by kernel_rfl) (by decide) (by kernel_rfl) Tryz.sizeOf139 func165 (by kernel_rfl) (by kernel_rfl)
def anu:Shelf.Ren:=⟨λx=>match x with|41=>218|n=>n,λx=>match x with|22=>32|4=>4|23=>31|n=>n,λx=>x⟩
def afQ:SlLaysE0.n41 prog anu:=
 {mixed:=by kernel_rfl,f41:=⟨f218.name,by kernel_rfl,func218.trans (congrArg some (by kernel_rfl))⟩,t4:=Tryz.underlying4,a4:=Tryz.isAgg4,z4:=Tryz.sizeOf4,v4:=Tryz.zeroValue4,t22:=Tryz.underlying32,a22:=Tryz.isAgg32,z22:=Tryz.sizeOf32,v22:=Tryz.zeroValue32}
def GQ:List bK->List bK:=λx=>x
def RO:List bK->Bool:=λx=>decide<|(x.length:Int)*(56:Nat)<=140737488355328
def av0:aK:=⟨[.slice bQ],[.slice bQ],RO,GQ,false⟩
def aiP:Sd 218 av0:=by
 have⟨j,h,c,f,g⟩:=info_parts (show(prog.info? 31).map (λi=>(i.zero,i.size,i.bytes))=some (some<|.agg #[.int .i64 0,.int .i64 0,.int .i64 0,.int .i64 0,.int .i64 0,.int .i64 0,.int .i64 0],7,56) by kernel_rfl);exact Gj afQ bQ h c f g (by kernel_rfl) (by decide) (by kernel_rfl) Tryz.sizeOf31 func218 (by kernel_rfl) (by kernel_rfl)
def axf(A:aS)(c:Int):LT Bool Empty:=.br (A.bq c 1) (.ret true)<|.br (A.bq c 2) (.ret true)<|.br (A.bq c 6) (.ret true)<|.br (A.bq c 5) (.ret true)<|.br (A.bq c 9) (.ret true)<|.br (A.bq c 10) (.ret true)<|.ret false
def zD:Int->Bool:=λc=>(axf af c).val<|Ty.aR [.bool]
def av1:aK:=.all [yI] [.bool] zD
def aiQ:Sd 220 av1:=fa<|aQ ax dJ (.jf [0,1,0,1,0,1,0,1,0,1]) 58 [] (λA c=>axf A c)<|kz (fc func220 fz) sz
def bM{l:List α}(h:0<=i/\i<(l.length:Int)):af.and (af.bE 0 i) (af.bo i<|af.l l)=true:=by
 rw[bu,aB,bi,dW,cr h.1,cr h.2];rfl
def gK{l:List α}{v:α}:(af.set l i v).length=l.length:=bW ..
def vt(a b:Int):Int:=bif decide (a<b) then -1 else bif decide (b<a) then 1 else 0
def orF:List Int->Int
 | []=>0
 | a::l=>bif decide (a=0) then orF l else a
def axd(A:aS)(c:Int):LT Bool Empty:=.ret<|A.cm c c
def OL:Int->Bool:=λc=>(axd af c).val<|Ty.aR [.bool]
def ai2:aK:=.all [yI] [.bool] OL
def asc:aK.oT prog 91 ai2/\Sd 91 ai2:=fd<|sL ax dJ sl 17 [] [] (λA c=>axd A c) (λ_=>Empty.elim) Empty.elim (fc func91 fz) szD (λ_ y=>y.elim) λ(c:Int) f h=>LT.runs (d:=Ty.aR [.bool]) (LT.gI<|by kernel_rfl)<|LT.jg (by kernel_rfl)
def axb(A:aS)(f:Int)(c:Int):LT Int Empty:=.br (A.k OL f) (.br (A.k OL c) (.ret 0)<|.ret<|-1)<|.br (A.k OL c) (.ret 1)<|.br (A.bo f c) (.ret<|-1)<|.br (A.jD f c) (.ret 1)<|.ret 0
theorem aa5:af.k OL x=false:=by
 show af.cm x x=false;rw[dC];simp_all
theorem ax9:aV Empty.elim (axb af a b)<|vt a b:=by
 refine(ap aa5).2 ((ap aa5).2 ?_);unfold vt;by_cases f:a<b
 .rw[cr f];exact(ar (by rw[bi];simp_all)).2 (.ret _)
 .rw[gw f];refine(ap (by rw[bi];simp_all)).2 ?_;by_cases c:b<a
  .rw[cr c];exact(ar<|show af.jD a b=true from cr c).2 (.ret _)
  .rw[gw c];exact(ap<|show af.jD a b=false from gw c).2 (.ret _)
def rB:(Int×Int)->Int:=λ(a,b)=>vt a b
def acO:aK:=.all [yI,yI] [yI] rB
def ais:aK.oT prog 60 acO/\Sd 60 acO:=fd<|sL ax dJ sl 58 [] [] (λA (c,f)=>axb A c f) (λ_=>Empty.elim) Empty.elim (fc func60 fz) (scD asc szD) (λ_ y=>y.elim) λ(c,f) g h=>ax9
def acM:Sd 60 acO:=ais.2
structure X2 where(a1:List Int)(a2:Int)
inductive aez where|c0(p:X2)(a3:Int)
noncomputable def akX:aez->gY
 | .c0 p a3=>⟨[gW 59 18 [(3,vi 0),(6,.sl yI p.a1),(7,vi p.a2),(8,vi a3)] f59 116],[.a_]⟩
def axa(A:aS)(c:List Int):LT Int aez:=.ak<|.c0 ⟨c,A.l c⟩ 0
def ab_(A:aS):aez->LT Int aez
 | .c0 p a3=>.br (A.bo a3 p.a2) (.fP A a3 p.a1<|.br (A.cm (A.n yI p.a1 a3:Int) 0) (.ret (A.n yI p.a1 a3:Int))<|.ak<|.c0 p<|A.b .add .i64 a3 1)<|.ret 0
variable{l:List Int}
theorem af2{p:X2}(g:p.a1=l)(f:p.a2=(l.length:Int))(q:l.length<=140737488355328):
  ∀(j i:Nat),l.length-i=j->i<=l.length->aV (ab_ af) (.ak<|.c0 p i) (orF<|l.drop i):=by
 intro j
 induction j with
 | zero=>
   intro i n m;have:i=l.length:=by omega
   subst this;rw[aG,ab_,f,cY];exact(ap (by rw[bi];simp)).2 (.ret _)
 | succ j ih=>
   intro i n m;have c:i<l.length:=by omega
   have o:=ih (i+1) (by omega) (by omega);rw[aG,ab_,g,f];refine(ar (by simp_all;exact cr<|by omega)).2 (au.2 ⟨cJ c,?_⟩);rw[show(af.n yI l (i:Int):Int)=l[i] from eO c _,xx c,orF,jQ (i:=i)<|by omega];by_cases h:l[i]=0
   .rw[cr h];exact(ap (by rw[dC];simp_all)).2 o
   .rw[gw h];exact(ar (by rw[dC];simp_all)).2 (.ret _)
def or1(h:Ty.lC [.slice<|.int .i64] l):aV (ab_ af) (axa af l)<|orF l:=
 af2 (l:=l) rfl rfl h.1 l.length 0 rfl (by omega)
def OJ:(List Int)->Int:=λl=>orF l
def acN:aK:=.all [Cr] [yI] OJ
def air:aK.oT prog 59 acN/\Sd 59 acN:=fd<|sL ax dJ sl 23 [⟨59,3,[[3,6,7,8]]⟩] [] (λA c=>axa A c) ab_ akX (fc func59 fz) szD (λA y=>match y with |.c0 p f=>⟨34,sl,by kernel_rfl⟩) λc g h=>or1 h
def acL:Sd 59 acN:=air.2
def axc(A:aS)(a:bK)(b:bK):LT Int Empty:=.ret<|A.k OJ [(A.k rB (a.2.2.2.1,b.2.2.2.1)),A.k rB (a.2.2.2.2.1,b.2.2.2.2.1),A.k rB (a.1,b.1),A.k rB (a.2.1,b.2.1),A.k rB (a.2.2.1,b.2.2.1),A.k rB (a.2.2.2.2.2.1,b.2.2.2.2.2.1),A.k rB (a.2.2.2.2.2.2,b.2.2.2.2.2.2)]
def ZU:(bK×bK)->Int:=λ(a,b)=>(axc af a b).val<|Ty.aR [yI]
def ai1:aK:=.all [bQ,bQ] [yI] ZU
def asb:aK.oT prog 176 ai1/\Sd 176 ai1:=fd<|sL ax dJ sl 53 [] [] (λA (a,b)=>axc A a b) (λ_=>Empty.elim) Empty.elim (fc func176 fz) (scD air (scD ais szD)) (λ_ y=>y.elim) λ((a,b):bK×bK) c h=>LT.runs (d:=Ty.aR [yI]) (LT.gI<|by kernel_rfl)<|LT.jg (by kernel_rfl)
variable{g:Array Obj}{off:Nat}
section
open Go.Sort
theorem En(w:World)(b:Nat)(f:Array Value->Array Value)(c:Nat):(mapBlock w b f).heap[c]? = if b=c then w.heap[c]?.map (onCells f) else w.heap[c]? :=by
 unfold mapBlock
 grind
variable {α:Type} [Inhabited α] {enc:α->List Value} {k:Nat}
def yh{w:World}{b n:Nat}{d:Array α}{c:Nat}(h:c<w.heap.size)(f:c≠b):(sortWorldK enc k w b off n d g).heap[c]? = w.heap[c]? :=by
 show((mapBlock (Sort.ahead w n) b<|Sort.putCells id off<|flatK enc k d).heap++g)[c]? = _;rw[mj<|by simpa [mapBlock,Sort.ahead] using h,En,if_neg<|ig f];rfl
def IG{w:World}{b n:Nat}{d:Array α}{i:Array Value}{T:TypeId}{f:Nat×Nat}(h:w.heap[b]? = some (.cells i T f)):
  (sortWorldK enc k w b off n d g).heap[b]? = some (.cells (Sort.putCells id off (flatK enc k d) i) T f):=by
 have c:=(dy.1 h).1;show((mapBlock (Sort.ahead w n) b<|Sort.putCells id off<|flatK enc k d).heap++g)[b]? = _;rw[mj<|by simpa [mapBlock,Sort.ahead] using c,En,if_pos rfl];show(w.heap[b]?).map _=_;rw[h];rfl
def Dy{F c:Array Value}:(Sort.putCells id off F c).size=c.size:=by simp[Sort.putCells]
theorem agA{j:Nat}{F c:Array Value}(f:off<=j)(g:j<off+F.size)(h:j<c.size):(Sort.putCells id off F c).toList[j]? = some F[j-off]! :=by
 have i:j<(Sort.putCells id off F c).size:=by rw[Dy];omega
 simp only[Sort.putCells]
 simp_all
theorem TD{d:Array α}{i r:Nat}(j:i<d.size)(c:r<k):(flatK enc k d)[i*k+r]! = (enc d[i]!)[r]! :=by
 have f:(i*k+r)/k=i:=by rw[rS,Nat.mul_add_div<|by omega,Nat.div_eq_of_lt c,kJ]
 have g:(i*k+r)%k=r:=by rw[rS,Nat.mul_add_mod,lG c]
 have h:i*k+r<d.size*k:=by
  have:=aI k (show i+1<=d.size from j)
  grind
 rw[get_flatK _ _ _ _ h,f,g]
theorem WQ(l:∀x,(enc x).length=k){d:Array α}{g:Array Value}(h:off+d.size*k<=g.size){i:Nat}(c:i<d.size):
  ((Sort.putCells id off (flatK enc k d) g).toList.drop<|off+i*k).take k=enc d[i]! :=by
 have j:i*k+k<=d.size*k:=by
  have:=aI k (show i+1<=d.size from c)
  grind
 apply dR;intro r;by_cases f:r<k
 .rw[List.getElem?_take_of_lt f,da,agA (by omega) (by rw[size_flatK];omega)<|by omega,show off+i*k+r-off=i*k+r by omega,TD c f]
  simp_all
 grind
theorem VV(r:∀x,(enc x).length=k){w:World}{b:Nat}{d:Array α}{f:Array Value}{T:TypeId}(m:w.heap[b]? = some (.cells f T (0,0)))(h:off+d.size*k<=f.size)
  (q:∀i,i<d.size->(f.toList.drop<|off+i*k).take k=enc d[i]!):HoldsK enc k w b off d:=by
 intro j g;rw[size_flatK] at g;have c:0<k:=by grind
 have n:j/k<d.size:=(Nat.div_lt_iff_lt_mul c).2 g;have o:j%k<k:=Nat.mod_lt _ c;have e:j/k*k+j%k=j:=Nat.div_add_mod' j k;refine⟨?_,?_⟩
 .unfold World.cell?;simp only[m];have l:off+j<f.size:=by omega
  rw[Option.isSome_none,if_neg<|by decide,eY l];congr 1;have p:(flatK enc k d)[j]! = (enc d[j/k]!)[j%k]! :=by rw[<-TD n o,e]
  grind
 .unfold World.frozen?
  grind
end
section
open Go.Lib Go.RowKit Go.Shelf Go.Sort
def WO{P:Program}{ρ:Shelf.Ren}(L:SlLaysF0.n6 P ρ)(t:Ty){c:FuncId}{fn:Ty.Ts [t,t]->Ty.Ts [.int .i64]}(hc:aK.oT P c ⟨[t,t],[.int .i64],λ_=>true,fn,true⟩)(eg:∀args w,(callFunc c args).run P w=.ok (.enter c args) w)
  (aE:∀w,(isAgg<|ρ.t 24).run P w=.ok true w) (zE:∀w,(Go.sizeOf<|ρ.t 24).run P w=.ok t.size w) (hso:t.sj=true) (hag:t.isAgg=true)
  {lt:t.T->t.T->Bool} (hlt:∀x y,lt x y=decide ((show Int from fn (x,y))<0)) (hO:SWO lt) (hT:∀x y,lt x y=false->lt y x=false->x=y) {F:Func} (hF:P.funcs[ρ.f 6]? = some F) (hb:F.body.isSome=true) (hn:(F.name == "runtime.NumGoroutine")=false) :
  gg.bI P (ρ.f 6) ⟨t,[],[c],[],λ_=>true,λx=>(x.1.mergeSort λa b=>!(lt b a),()),false⟩:=by
 refine⟨λw I x y v aa B hI hv hB hy _=>?_,F,hF,hb,hn⟩;have haa:aa=[]:=hy;subst haa;rcases ob.1 hv with ⟨rfl,rfl,a,e⟩|⟨b,dl,cap,rfl,e,h1,h2,vs,T,fr,h3,h4,h5,h6⟩
 .cases e;refine(AnyF.slices_SortFunc_none L a 0 (.func (.func c) #[] #[]) w).mono ?_
  rintro e w' ⟨rfl,rfl⟩
  exact⟨_,rfl,rfl,rfl,rfl,ai _,λ_ _ _=>rfl,I,λb hb=>⟨.inl hb,hI b hb⟩,λb us T fr h=>⟨us,T,fr,h,rfl⟩,ob.2<|.inl ⟨by simp,rfl,a,rfl⟩,rfl⟩
 .cases e;by_cases hne:x=[]
  .subst hne;refine(AnyF.slices_SortFunc_none L (some ⟨b,dl,none⟩) cap (.func (.func c) #[] #[]) w).mono ?_
   rintro e w' ⟨rfl,rfl⟩
   exact⟨_,rfl,rfl,rfl,rfl,ai _,λ_ _ _=>rfl,I,λb hb=>⟨.inl hb,hI b hb⟩,λb us T fr h=>⟨us,T,fr,h,rfl⟩,ob.2<|.inr ⟨b,dl,cap,rfl,by simp,by simp,by simp,vs,T,fr,h3,h4,h5,by simp⟩,rfl⟩
  have h4:fr=(0,0):=h4;subst h4;have hbl:b<w.heap.size:=(dy.1 h3).1;have hx0:0<x.length:=List.length_pos_iff.2 hne
  let α:Type:={p:List Value×t.T // bT w I t p.1 p.2}
  let el:(i:Nat)->i<x.length->α:=λi hi=>⟨((vs.toList.drop<|dl+i*t.size).take t.size,x[i]),h6 i _<|KN hi⟩
  haveI:Inhabited α:=⟨el 0 hx0⟩
  let enc:α->List Value:=λp=>p.1.1
  let cf:α->α->Int:=λp q=>fn (p.1.2,q.1.2)
  have hk:∀p,(enc p).length=t.size:=λp=>bT.length t p.2;have h1c:∀p,∀v∈enc p,v.oneCell'=true:=λp=>bT.oneCell t hso p.2;have hlo:∀p q,ltOf cf p q=lt p.1.2 q.1.2:=λp q=>(hlt _ _).symm;have hO':SWO<|ltOf cf:=⟨λp=>by rw[hlo];exact hO.irrefl _,λp q r a b=>by rw[hlo] at a b ⊢;exact hO.trans _ _ _ a b,λp q r a b=>by rw[hlo] at a b ⊢;exact hO.ntrans _ _ _ a b⟩
  let d:Array α:=Array.ofFn (n:=x.length) λi=>el i.1 i.2
  have hds:d.size=x.length:=Array.size_ofFn;have hdi:∀i (hi:i<x.length),d[i]! = el i hi:=λi hi=>by
   rw[getElem!_pos d i (by rw[hds];exact hi)];exact Array.getElem_ofFn _
  have hfit:dl+d.size*t.size<=vs.size:=by
   have h7:=aI t.size h1;rw[hds];exact bd (fN h7 dl) h5
  have hH:HoldsK enc t.size w b dl d:=VV hk h3 hfit λi hi=>by rw[hds] at hi;rw[hdi i hi]
  have hIb:¬I b:=hB b<|aO.2 rfl;have keepI:∀(n:Nat) (dk:Array α) (os:Array Obj) (b':Nat),I b'->I b'/\(sortWorldK enc t.size w b dl n dk os).heap[b']? = w.heap[b']? :=λn dk os b' hb'=>⟨hb',yh (hI b' hb') λe=>hIb<|e▸hb'⟩;have hcmp:CmpLays P c #[] enc t.size cf b dl d.size w:=by
   intro m os dk hdk p q;have hag':∀p:α,mU (sortWorldK enc t.size w b dl m dk os) I t (.agg (enc p).toArray) p.1.2:=λp=>by
    unfold mU;rw[if_pos hag];exact⟨_,rfl,bT.mono (keepI m dk os) t p.2⟩
   refine(hc (sortWorldK enc t.size w b dl m dk os) I (p.1.2,q.1.2) #[.agg (enc p).toArray,.agg (enc q).toArray] (λb' hb'=>bC (hI b' hb')<|size_sortWorldK_c enc t.size w b dl m dk os) ⟨_,_,rfl,hag' p,_,rfl,hag' q⟩ rfl).mono ?_
   rintro e w' ⟨g0,v,rfl,g1,g2,g3,g4,g5,I',_,g7⟩
   have g7:mU w' I' (.int .i64) v<|cf p q:=g7;have g7:v=.int .i64 (cf p q):=by
    unfold mU at g7;rw[if_neg<|by decide] at g7;have:=g7.1;simpa using this
   refine⟨by rw[g7],w'.drawn-(sortWorldK enc t.size w b dl m dk os).drawn,w'.heap.extract (sortWorldK enc t.size w b dl m dk os).heap.size w'.heap.size,?_⟩;generalize sortWorldK enc t.size w b dl m dk os=W at *;cases w' with
   | mk hp tp dr o out=>
     cases W with
     | mk hp2 tp2 dr2 o2 out2=>
       simp only at g0 g1 g2 g3 g4 g5;subst g1;subst g2;subst g3;unfold Sort.grow World.drewN;simp only[World.mk.injEq,true_and,and_true];refine⟨?_,by omega⟩;apply Array.ext
       .simp;omega
       .intro i i1 i2;by_cases hi:i<hp2.size
        .rw[Array.getElem_append_left hi];have:=g5 i hi;rw[eY i1,eY hi] at this;exact Option.some.inj this
        .rw[Array.getElem_append_right<|by omega,Array.getElem_extract];congr 1;omega
  have hsz:d.size<4611686018427387904:=by
   rw[hds];exact Nat.lt_of_le_of_lt h2 (by decide)
  have call:=AnyQ.slices_SortFunc L t.size aE zE enc hk h1c cf hO' c #[] b dl cap d w eg hcmp hH hbl hsz;rw[hds] at call;refine call.mono ?_
  rintro e w' ⟨rfl,d',n,os,hp,hs,rfl⟩
  have⟨p1,_,p3⟩:=hp;have p1:d'.size=x.length:=p1.trans hds;have e1:d'.extract 0 x.length=d':=by rw[<-p1];exact Array.extract_size
  have e2:d.extract 0 x.length=d:=by rw[<-hds];exact Array.extract_size
  rw[e1,e2] at p3;have hdx:d.toList.map (λp=>p.1.2)=x:=by
   apply List.ext_getElem
   .rw[cy,bF,hds]
   .intro i i1 i2;rw[List.getElem_map,Array.getElem_toList];exact congrArg (λp:α=>p.1.2) (Array.getElem_ofFn (f:=λi:Fin x.length=>el i.1 i.2) (by rw[cy,bF] at i1;exact i1))
  have hsorted:d'.toList.map (λp=>p.1.2)=x.mergeSort λa b=>!(lt b a):=by
   haveI:Inhabited t.T:=⟨x[0]⟩;have perm:(d'.toList.map λp=>p.1.2).Perm x:=by
    have:=p3.map (λp:α=>p.1.2)
    rwa [hdx] at this
   have hl:=perm.length_eq;have:=sorted_unique_holds (lt:=lt) hO hT x.toArray (d'.toList.map λp=>p.1.2).toArray ⟨by simp[p1],λi hi=>by
     have:x.length<=i:=by
      rcases hi with h|h
      .omega
      .simpa using h
     simp[p1,this],by simpa [p1,dI] using perm⟩ λi j _ hij hj=>by
     have hj:j<x.length:=by simpa using hj
     have:=hs i j (aM _) hij hj;rw[hlo] at this;rw[getElem!_pos _ j (by simp[p1];exact hj),getElem!_pos _ i (by simp[p1];omega)];rw[getElem!_pos d' j (by rw[p1];exact hj),getElem!_pos d' i (by rw[p1];omega)] at this;simpa using this
   simpa using this
  have hlen:(x.mergeSort λa b=>!(lt b a)).length=x.length:=List.length_mergeSort _;refine⟨_,rfl,rfl,rfl,rfl,size_sortWorldK_c enc t.size w b dl n d' os,λb' hb' hne'=>yh hb' λe=>hne'<|aO.2 e,I,λb' hb'=>⟨.inl hb',bC (hI b' hb')<|size_sortWorldK_c enc t.size w b dl n d' os⟩,λb' us T' iV hb'=>?_,ob.2<|.inr ⟨b,dl,cap,rfl,?_,?_,?_,_,T,(0,0),IG h3,rfl,?_,λi z hz=>?_⟩,rfl⟩
  .by_cases e:b'=b
   .subst e;rw[h3] at hb';cases hb';exact⟨_,_,_,IG h3,Dy⟩
   .exact⟨us,T',iV,by rw[yh (dy.1 hb').1 e];exact hb',rfl⟩
  .show[_]=[Value.slice _ (x.mergeSort λa b=>!(lt b a)).length _];rw[hlen]
  .show(x.mergeSort λa b=>!(lt b a)).length<=_;rw[hlen];exact h1
  .show(x.mergeSort λa b=>!(lt b a)).length<=_;rw[hlen];exact h2
  .rw[Dy];exact h5
  .have hz:(x.mergeSort λa b=>!(lt b a))[i]? = some z:=hz;rw[<-hsorted,c_,Option.map_eq_some_iff] at hz;obtain⟨p,hp,rfl⟩:=hz;have⟨hi,hp⟩:=aU.1 hp;rw[bF] at hi;rw[Array.getElem_toList] at hp;rw[WQ hk (by rw[p1,<-hds];exact hfit) hi,getElem!_pos d' i hi,hp];exact bT.mono (keepI n d' os) t p.2
end
def Q0(f:bK):List Int:=[f.2.2.2.1,f.2.2.2.2.1,f.1,f.2.1,f.2.2.1,f.2.2.2.2.2.1,f.2.2.2.2.2.2]
def lexB:List Int->List Int->Bool
 | a::l,b::m=>decide (a<b)||(decide (a=b)&&lexB l m)
 | _,_=>false
theorem abp:∀(l m:List Int),l.length=m.length->decide (orF (List.zipWith vt l m)<0)=lexB l m
 | [],[],_=>rfl
 | a::l,b::m,h=>by
   have g:=abp l m (by simp_all);rw[List.zipWith_cons_cons,orF,lexB];unfold vt;by_cases c:a<b
   .simp_all
   .rw[gw c,cond_false,Bool.false_or];by_cases f:b<a
    .grind
    .rw[gw f,cr<|show a=b by omega,dO];exact g
theorem Fc:∀l:List Int,lexB l l=false
 | []=>rfl
 | a::l=>by rw[lexB,Fc l,gw<|Int.lt_irrefl a,dU];rfl
theorem Ms:∀(l m:List Int),l.length=m.length->lexB l m=false->lexB m l=false->l=m
 | [],[],_,_,_=>rfl
 | a::l,b::m,h,h1,h2=>by
   rw[lexB,Bool.or_eq_false_iff] at h1 h2;have e:a=b:=by grind
   subst e;rw[cr rfl,dO] at h1 h2;rw[Ms l m (by simpa using h) h1.2 h2.2]
theorem lex_trans:∀(l m n:List Int),lexB l m=true->lexB m n=true->lexB l n=true
 | [],_,_,h,_=>by simp[lexB] at h
 | _::_,[],_,h,_=>by simp[lexB] at h
 | _::_,_::_,[],_,h=>by simp[lexB] at h
 | a::l,b::m,c::n,f,g=>by
   rw[lexB,o5,fZ,uR,uR] at f g ⊢;rcases f with f|⟨f,i⟩<;>rcases g with g|⟨g,j⟩
   .omega
   .omega
   .omega
   .exact .inr ⟨by omega,lex_trans l m n i j⟩
theorem Rn(l m n:List Int)(g:l.length=m.length)(h:m.length=n.length)(f:lexB l m=false)(c:lexB m n=false):lexB l n=false:=by
 cases h3:lexB l n with
 | false=>rfl
 | true=>
   cases h4:lexB m l with
   | true=>rw[lex_trans m l n h4 h3] at c;grind
   | false=>rw[Ms l m g f h4,c] at h3;grind
def iw(a b:bK):Bool:=lexB (Q0 a)<|Q0 b
def aaT(a b:bK):iw a b=decide ((show Int from ZU (a,b))<0):=(abp (Q0 a) (Q0 b) rfl).symm
theorem Zv{a b:bK}(h:Q0 a=Q0 b):a=b:=by
 have⟨a1,a2,c,f,g,i,j⟩:=a;simp only[Q0] at h
 simp_all
def KV:Sort.SWO iw:=⟨λa=>Fc _,λa b c=>lex_trans _ _ _,λa b c=>Rn _ _ _ rfl rfl⟩
def KW(a b:bK)(c:iw a b=false)(f:iw b a=false):a=b:=Zv<|Ms _ _ rfl c f
def ans:Shelf.Ren:=⟨λx=>match x with|6=>175|14=>228|15=>229|20=>272|21=>273|22=>274|23=>275|24=>276|25=>277|26=>278|27=>279|28=>280|29=>281|46=>314|47=>315|48=>316|49=>317|50=>318|57=>333|n=>n,λx=>match x with|0=>0|3=>3|4=>4|5=>5|9=>9|22=>32|24=>31|25=>255|39=>84|45=>350|46=>351|50=>82|53=>297|55=>300|66=>387|70=>391|76=>407|77=>193|n=>n,λx=>x⟩
def afO:SlLaysF0.n6 prog ans:=
 {mixed:=by kernel_rfl,f6:=⟨f175.name,by kernel_rfl,func175.trans (congrArg some (by kernel_rfl))⟩,f14:=⟨f228.name,by kernel_rfl,func228.trans (congrArg some (by kernel_rfl))⟩,f15:=func229.trans (congrArg some (by kernel_rfl)),f20:=⟨f272.name,by kernel_rfl,func272.trans (congrArg some (by kernel_rfl))⟩,f21:=⟨f273.name,by kernel_rfl,func273.trans (congrArg some (by kernel_rfl))⟩,f22:=⟨f274.name,by kernel_rfl,func274.trans (congrArg some (by kernel_rfl))⟩,f23:=⟨f275.name,by kernel_rfl,func275.trans (congrArg some (by kernel_rfl))⟩,f24:=⟨f276.name,by kernel_rfl,func276.trans (congrArg some (by kernel_rfl))⟩,f25:=⟨f277.name,by kernel_rfl,func277.trans (congrArg some (by kernel_rfl))⟩,f26:=⟨f278.name,by kernel_rfl,func278.trans (congrArg some (by kernel_rfl))⟩,f27:=⟨f279.name,by kernel_rfl,func279.trans (congrArg some (by kernel_rfl))⟩,f28:=func280.trans (congrArg some (by kernel_rfl)),f29:=func281.trans (congrArg some (by kernel_rfl)),f46:=⟨f314.name,by kernel_rfl,func314.trans (congrArg some (by kernel_rfl))⟩,f47:=func315.trans (congrArg some (by kernel_rfl)),f48:=func316.trans (congrArg some (by kernel_rfl)),f49:=⟨f317.name,by kernel_rfl,func317.trans (congrArg some (by kernel_rfl))⟩,f50:=⟨f318.name,by kernel_rfl,func318.trans (congrArg some (by kernel_rfl))⟩,f57:=⟨f333.name,by kernel_rfl,func333.trans (congrArg some (by kernel_rfl))⟩,t0:=Tryz.underlying0,a0:=Tryz.isAgg0,z0:=Tryz.sizeOf0,v0:=Tryz.zeroValue0,t3:=Tryz.underlying3,a3:=Tryz.isAgg3,z3:=Tryz.sizeOf3,v3:=Tryz.zeroValue3,t4:=Tryz.underlying4,a4:=Tryz.isAgg4,z4:=Tryz.sizeOf4,v4:=Tryz.zeroValue4,t5:=Tryz.underlying5,a5:=Tryz.isAgg5,z5:=Tryz.sizeOf5,v5:=Tryz.zeroValue5,t9:=Tryz.underlying9,a9:=Tryz.isAgg9,z9:=Tryz.sizeOf9,v9:=Tryz.zeroValue9,t22:=Tryz.underlying32,a22:=Tryz.isAgg32,z22:=Tryz.sizeOf32,v22:=Tryz.zeroValue32,t25:=Tryz.underlying255,a25:=Tryz.isAgg255,z25:=Tryz.sizeOf255,v25:=Tryz.zeroValue255,t39:=Tryz.underlying84,a39:=Tryz.isAgg84,z39:=Tryz.sizeOf84,v39:=Tryz.zeroValue84,t45:=Tryz.underlying350,a45:=Tryz.isAgg350,z45:=Tryz.sizeOf350,v45:=Tryz.zeroValue350,t46:=Tryz.underlying351,a46:=Tryz.isAgg351,z46:=Tryz.sizeOf351,v46:=Tryz.zeroValue351,t50:=Tryz.underlying82,a50:=Tryz.isAgg82,z50:=Tryz.sizeOf82,v50:=Tryz.zeroValue82,t53:=Tryz.underlying297,a53:=Tryz.isAgg297,z53:=Tryz.sizeOf297,v53:=Tryz.zeroValue297,t55:=Tryz.underlying300,a55:=Tryz.isAgg300,z55:=Tryz.sizeOf300,v55:=Tryz.zeroValue300,t66:=Tryz.underlying387,a66:=Tryz.isAgg387,z66:=Tryz.sizeOf387,v66:=Tryz.zeroValue387,t70:=Tryz.underlying391,a70:=Tryz.isAgg391,z70:=Tryz.sizeOf391,v70:=Tryz.zeroValue391,t76:=Tryz.underlying407,a76:=Tryz.isAgg407,z76:=Tryz.sizeOf407,v76:=Tryz.zeroValue407,t77:=Tryz.underlying193,a77:=Tryz.isAgg193,z77:=Tryz.sizeOf193,v77:=Tryz.zeroValue193}
def Ei:List bK×Unit->List bK×Unit:=λx=>(x.1.mergeSort λa b=>!(iw b a),())
def aqh:gg:=⟨bQ,[],[176],[],λ_=>true,Ei,false⟩
def ap7:gg.bI prog 175 aqh:=
 WO afO bQ (fn:=ZU) asb.1 (enters_of func176 (by kernel_rfl) rfl) Tryz.isAgg31 Tryz.sizeOf31 (by kernel_rfl) (by kernel_rfl) aaT KV KW func175 (by kernel_rfl) (by kernel_rfl)
abbrev ai4(A:aS)(c:Int)(f:Int):=(A.b .add .u64 (A.b .mul .u64 (A.b .shr .u64 c 32)<|A.b .and .u64 f 4294967295)<|A.b .shr .u64 (A.b .mul .u64 (A.b .and .u64 c 4294967295)<|A.b .and .u64 f 4294967295) 32)
def aw0(A:aS)(c:Int)(f:Int):LT (Int×Int) Empty:=.ret (A.b .add .u64 (A.b .add .u64 (A.b .mul .u64 (A.b .shr .u64 c 32)<|A.b .shr .u64 f 32)<|A.b .shr .u64 (ai4 A c f) 32)<|A.b .shr .u64 (A.b .add .u64 (A.b .and .u64 (ai4 A c f) 4294967295)<|A.b .mul .u64 (A.b .and .u64 c 4294967295)<|A.b .shr .u64 f 32) 32,A.b .mul .u64 c f)
def ahZ:(Int×Int)->(Int×Int):=λ(c,f)=>(aw0 af c f).val<|Ty.aR [(.int .u64),.int .u64]
def avu:aK:=.all [(.int .u64),.int .u64] [(.int .u64),.int .u64] ahZ
def as4:Sd 225 avu:=fa<|aQ ax dJ sl 92 [] (λA (c,f)=>aw0 A c f)<|kz (fc func225 fz) sz
def awY(A:aS)(c:Int)(f:Int):LT (Int×Int) Empty:=.ret<|A.k ahZ (c,f)
def Br:(Int×Int)->(Int×Int):=λ(c,f)=>(awY af c f).val<|Ty.aR [(.int .u64),.int .u64]
def avr:aK:=.all [(.int .u64),.int .u64] [(.int .u64),.int .u64] Br
def aiL:Sd 172 avr:=fa<|aQ ax dJ sl 32 [] (λA (c,f)=>awY A c f)<|kz (fc func172 fz)<|sc as4 sz
structure XW where(a1:List Int)(a2 a3 a4:Int)
structure XX where(b0:List Int)(b1 b2 b3:Int)
inductive aex where|c0(p:XW)(a0:Int)(a5:List Int)|c1(p:XX)(b4:Int)(b5:List Int)
noncomputable def akV:aex->gY
 | .c0 p a0 a5=>⟨[gW 173 48 [(7,.own 0),(8,vi a0)] f173 1016,E8 118 37 [(0,.sl yI p.a1),(1,vi p.a2),(2,vi p.a3),(3,vi p.a4)] f118 6 3],[aZ yI a5,.a_]⟩
 | .c1 p b4 c=>⟨[gW 118 37 [(0,.sl yI p.b0),(2,vi p.b1),(3,vi p.b2),(11,.own 0),(20,vi p.b3),(21,vi b4)] f118 116],[aZ yI c,.a_]⟩
abbrev EI(A:aS)(n:Int):=(A.v .i64 (A.k Br (1,A.v .u64 n)).2)
def aoR(A:aS)(l:List Int)(n:Int)(f:Int)(g:Int)(c:Int):LT (List Int) aex:=.br (A.bo n 0) (.bY 117 "slices.go:516")<|.br (A.jD (A.k Br (1,A.v .u64 n)).1 0) (.bY 117 "slices.go:522")<|.br (A.jD (A.k Br (1,A.v .u64 n)).2 9223372036854775807) (.bY 117 "slices.go:522")<|.ao (A.and (A.bq (EI A n)<|EI A n)<|A.and (A.bE 0<|EI A n)<|A.bE (EI A n) 17592186044416)<|.ak<|.c0 ⟨l,n,f,g⟩ (A.mn (A.l [c])<|A.l<|A.r (EI A n) (0:Int))<|A.spl (A.r (EI A n) (0:Int)) 0<|A.s [c] 0<|A.mn (A.l [c])<|A.l<|A.r (EI A n) (0:Int)
def WB(A:aS):aex->LT (List Int) aex
 | .c0 p a0 a5=>.br (A.bo a0<|A.l a5) (.ao (A.and (A.bE 0 a0)<|A.and (A.bE a0<|A.l a5)<|A.bE (A.l a5)<|A.l a5)<|.ao (A.and (A.bE 0 0)<|A.and (A.bE 0 a0)<|A.bE a0<|A.l a5)<|.ak<|.c0 p (A.b .add .i64 a0<|A.mn (A.l<|A.s a5 0<|A.b .add .i64 0<|A.b .sub .i64 a0 0)<|A.b .sub .i64 (A.l a5) a0)<|A.spl a5 a0<|A.s (A.s a5 0<|A.b .add .i64 0<|A.b .sub .i64 a0 0) 0<|A.mn (A.l<|A.s a5 0<|A.b .add .i64 0<|A.b .sub .i64 a0 0)<|A.b .sub .i64 (A.l a5) a0)<|.ak<|.c1 ⟨p.a1,p.a3,p.a4,A.mn p.a2<|A.l p.a1⟩ 0 a5
 | .c1 p b4 c=>.br (A.bo b4 p.b3) (.fP A b4 p.b0<|.fP A b4 c<|.ak<|.c1 p (A.b .add .i64 b4 1)<|A.set c b4<|A.mn (A.mx (A.n yI p.b0 b4:Int) p.b1) p.b2)<|.ret c
def aa4:∀n:Fin 1025,af.k Br (1,af.v .u64 (n.val:Int))=((0,(n.val:Int)):Int×Int):=by decide +kernel
def Nz{i j:Nat}(h:j<=i)(c:i<4611686018427387904):af.b .sub .i64 (i:Int) (j:Int)=((i-j:Nat):Int):=by
 rw[gX,lZ (by omega)<|by omega];omega
def v7{i j:Nat}:af.mn (i:Int) (j:Int)=((min i j:Nat):Int):=by
 rw[mZ];omega
variable{N:Nat}
theorem abT{p:XW}{v:Int}{r:List Int}(u:N<=1024)(n:aV (WB af) (.ak<|.c1 ⟨p.a1,p.a3,p.a4,af.mn p.a2<|af.l p.a1⟩ 0<|List.replicate N v) r):∀(j k:Nat),N-k<=j->(N≠0->1<=k)->k<=N->
  aV (WB af) (.ak<|.c0 p k<|List.replicate k v++List.replicate (N-k) 0) r:=by
 have l:∀k,k=N->aV (WB af) (.ak<|.c0 p k<|List.replicate k v++List.replicate (N-k) 0) r:=by
  rintro k rfl
  rw[mO,jM,aL];refine aG.2<|(ap ?_).2 n;rw[dW,bH];simp
 intro j
 induction j with
 | zero=>grind
 | succ j ih=>
   intro k o q m;by_cases z:k=N
   .simp_all
   have c:(List.replicate k v++List.replicate (N-k) (0:Int)).length=N:=by simp_all
   have f:af.b .add .i64 0 (af.b .sub .i64 k 0)=(k:Int):=by
    rw[show(0:Int)=((0:Nat):Int) from rfl,Nz (aM _)<|by omega,uk<|by omega];omega
   have g:af.s (List.replicate k v++List.replicate (N-k) (0:Int)) 0 (k:Int)=List.replicate k v:=by
    rw[jc,AT,iT<|by rw[Ht]];rfl
   have h:af.b .sub .i64 (N:Int) (k:Int)=((N-k:Nat):Int):=Nz m (by omega);refine aG.2<|(ar ?_).2<|au.2 ⟨?_,au.2 ⟨?_,?_⟩⟩
   .rw[dW,bH,c];grind
   .rw[dW,c,bu,bu,aB,aB,aB];simp_all
   .rw[dW,c,bu,bu,aB,aB,aB];simp_all
   .rw[f,g,dW,dW,c,Ht,h,v7,uk<|by omega,jc,AT];have i:af.spl (List.replicate k v++List.replicate (N-k) (0:Int)) (k:Int) (((List.replicate k v).take<|min k<|N-k).drop (0:Int).toNat)=List.replicate (k+min k (N-k)) v++List.replicate (N-(k+min k (N-k))) 0:=by
     rw[nU,AT,iT<|by simp_all,List.take_replicate];show List.replicate k v++List.replicate _ v++List.drop (k+(List.replicate _ v).length) _=_;rw[Ht,List.drop_append,jL,jL,Ht,Nat.min_assoc,gN];rw[show k-(k+min k (min (N-k) k))=0 by omega,jM,iR];congr 2<;>omega
    rw[i];exact ih (k+min k (N-k)) (by omega) (λ_=>by omega) (by omega)
def vR(f c x:Int):Int:=af.mn (af.mx x f) c
def rowP(l:List Int)(n:Nat)(f c g:Int):List Int:=(l.take n).map (vR f c)++List.replicate (n-l.length) g
theorem abV{p:XX}{f c ms:Int}(h:p.b0=l)(o:p.b1=f)(q:p.b2=c)(m:p.b3=((min N l.length:Nat):Int))(z:N<=1024):
  ∀(j i:Nat),min N l.length-i=j->i<=min N l.length->aV (WB af) (.ak<|.c1 p i<|(l.take i).map (vR f c)++List.replicate (N-i) ms) (rowP l N f c ms):=by
 intro j
 induction j with
 | zero=>
   intro i u c;refine aG.2<|(ap ?_).2<|aT ?_<|.ret _
   .rw[m,bH];grind
   .unfold rowP
    grind
 | succ j ih=>
   intro i u r;have g:i<l.length:=by omega
   have n:((l.take i).map (vR f c)++List.replicate (N-i) ms).length=N:=by
    rw[t_,cy,dh,Ht];omega
   refine aG.2<|(ar ?_).2<|au.2 ⟨?_,au.2 ⟨?_,?_⟩⟩
   .rw[m,bH];grind
   .rw[h];exact cJ g
   .exact cJ (by omega)
   .rw[h,o,q,show(af.n yI l (i:Int):Int)=l[i] from eO g _,jQ<|by omega,Nw,AT];have e:((l.take i).map (vR f c)++List.replicate (N-i) ms).set i (af.mn (af.mx l[i] f) c)=(l.take<|i+1).map (vR f c)++List.replicate (N-(i+1)) ms:=by
     have v:((l.take i).map<|vR f c).length=i:=by grind
     rw[List.set_append,v,if_neg<|eZ _,mO,show N-i=N-(i+1)+1 by omega,List.replicate_succ,mY,cn g,gk,fe];rfl
    rw[e];exact ih (i+1) (by omega) (by omega)
theorem anA{n g f c:Int}(h:0<=n/\n<=1024):aV (WB af) (aoR af l n g f c)<|rowP l n.toNat g f c:=by
 obtain⟨N,rfl⟩:=bf h.1;have i:N<=1024:=by omega
 have row:=abV (p:=⟨l,g,f,af.mn N<|af.l l⟩) (l:=l) (ms:=c) rfl rfl rfl (by rw[dW,v7]) i (min N l.length) 0 (by omega) (by omega);have o:=abT (p:=⟨l,(N:Int),g,f⟩) (v:=c) i row N (min 1 N) (by omega) (λh=>by omega) (by omega);have m:=aa4 ⟨N,by omega⟩;have j:af.v .i64 (N:Int)=(N:Int):=lZ (by omega) (by omega);unfold aoR EI;rw[m,j];refine(ap ?_).2 ((ap rfl).2<|(ap ?_).2<|au.2 ⟨?_,?_⟩)
 .rfl
 .show decide ((N:Int) > 9223372036854775807)=false;grind
 .rw[bu,bu,bg,aB,aB];grind
 .have e:af.r (N:Int) (0:Int)=List.replicate N 0:=by rfl
  rw[e,dW,dW,Ht,v7];have q:af.spl (List.replicate N (0:Int)) 0 (af.s [c] 0 ((min [c].length N:Nat):Int))=List.replicate (min 1 N) c++List.replicate (N-min 1 N) 0:=by
   rcases Nat.eq_zero_or_pos N with rfl|i
   .rfl
   .obtain⟨M,rfl⟩:∃M,N=M+1:=⟨N-1,by omega⟩;rfl
  simp_all
def OH:(List Int×Int×Int×Int×Int)->(List Int):=λ(l,n,f,c,g)=>rowP l n.toNat f c g
def tP:(List Int×Int×Int×Int×Int)->Bool:=λ(_,n,_,_,_)=>decide<|0<=n/\n<=1024
def avO:aK:=⟨[Cr,yI,yI,yI,yI],[Cr],tP,OH,false⟩
def atm:Sd 118 avO:=aX ax dJ sl 71 [⟨118,3,[[0,2,3,11,20,21]]⟩,⟨173,8,[[7,8],[0,1,2,3]]⟩] [] (λA (l,n,f,g,c)=>aoR A l n f g c) WB akV (kz (fc func118 (fc func173 fz)) (sc aiL sz)) (λA y=>match y with |.c0 p j m=>⟨35,sl,by kernel_rfl⟩|.c1 p b4 o=>⟨39,sl,by kernel_rfl⟩) λ((l,n,f,g,c):List Int×Int×Int×Int×Int) i h=>anA<|of_decide_eq_true i
inductive aew where|c0(a0:Int)(a1:List Bool)
noncomputable def akU:aew->gY
 | .c0 a0 a1=>⟨[gW 117 48 [(7,.own 0),(8,vi a0)] f117 1016],[aZ .bool a1,.a_]⟩
abbrev EH(A:aS)(f:List Bool)(c:Int):=(A.v .i64 (A.k Br (A.v .u64<|A.l f,A.v .u64 c)).2)
def aoQ(A:aS)(f:List Bool)(c:Int):LT (Bool×(List Bool)×Unit) aew:=.br (A.bo c 0) (.bY 117 "slices.go:516")<|.br (A.jD (A.k Br (A.v .u64<|A.l f,A.v .u64 c)).1 0) (.bY 117 "slices.go:522")<|.br (A.jD (A.k Br (A.v .u64<|A.l f,A.v .u64 c)).2 9223372036854775807) (.bY 117 "slices.go:522")<|.ao (A.and (A.bq (EH A f c)<|EH A f c)<|A.and (A.bE 0<|EH A f c)<|A.bE (EH A f c) 140737488355328)<|.ak<|.c0 (A.mn (A.l f)<|A.l<|A.r (EH A f c) false)<|A.spl (A.r (EH A f c) false) 0<|A.s f 0<|A.mn (A.l f)<|A.l<|A.r (EH A f c) false
def agv(A:aS):aew->LT (Bool×(List Bool)×Unit) aew
 | .c0 a0 a1=>.br (A.bo a0<|A.l a1) (.ao (A.and (A.bE 0 a0)<|A.and (A.bE a0<|A.l a1)<|A.bE (A.l a1)<|A.l a1)<|.ao (A.and (A.bE 0 0)<|A.and (A.bE 0 a0)<|A.bE a0<|A.l a1)<|.ak<|.c0 (A.b .add .i64 a0<|A.mn (A.l<|A.s a1 0<|A.b .add .i64 0<|A.b .sub .i64 a0 0)<|A.b .sub .i64 (A.l a1) a0)<|A.spl a1 a0<|A.s (A.s a1 0<|A.b .add .i64 0<|A.b .sub .i64 a0 0) 0<|A.mn (A.l<|A.s a1 0<|A.b .add .i64 0<|A.b .sub .i64 a0 0)<|A.b .sub .i64 (A.l a1) a0)<|.ret (true,a1,())
theorem Wl{v:Bool}(p:N<=1024):∀(j k:Nat),N-k<=j->(N≠0->1<=k)->k<=N->
  aV (agv af) (.ak<|.c0 k<|List.replicate k v++List.replicate (N-k) false) (true,List.replicate N v,()):=by
 have l:∀k,k=N->aV (agv af) (.ak<|.c0 k<|List.replicate k v++List.replicate (N-k) false) (true,List.replicate N v,()):=by
  rintro k rfl
  rw[mO,jM,aL];refine aG.2<|(ap ?_).2<|.ret _;rw[dW,bH];simp
 intro j
 induction j with
 | zero=>grind
 | succ j ih=>
   intro k n o m;by_cases q:k=N
   .simp_all
   have c:(List.replicate k v++List.replicate (N-k) false).length=N:=by simp_all
   have f:af.b .add .i64 0 (af.b .sub .i64 k 0)=(k:Int):=by
    rw[show(0:Int)=((0:Nat):Int) from rfl,Nz (aM _)<|by omega,uk<|by omega];omega
   have g:af.s (List.replicate k v++List.replicate (N-k) false) 0 (k:Int)=List.replicate k v:=by
    rw[jc,AT,iT<|by rw[Ht]];rfl
   have h:af.b .sub .i64 (N:Int) (k:Int)=((N-k:Nat):Int):=Nz m (by omega);refine aG.2<|(ar ?_).2<|au.2 ⟨?_,au.2 ⟨?_,?_⟩⟩
   .rw[dW,bH,c];grind
   .rw[dW,c,bu,bu,aB,aB,aB];simp_all
   .rw[dW,c,bu,bu,aB,aB,aB];simp_all
   .rw[f,g,dW,dW,c,Ht,h,v7,uk<|by omega,jc,AT];have i:af.spl (List.replicate k v++List.replicate (N-k) false) k (((List.replicate k v).take<|min k<|N-k).drop (0:Int).toNat)=List.replicate (k+min k (N-k)) v++List.replicate (N-(k+min k (N-k))) false:=by
     rw[nU,AT,iT<|by simp_all,List.take_replicate];show List.replicate k v++List.replicate _ v++List.drop (k+(List.replicate _ v).length) _=_;rw[Ht,List.drop_append,jL,jL,Ht,Nat.min_assoc,gN];rw[show k-(k+min k (min (N-k) k))=0 by omega,jM,iR];congr 2<;>omega
    rw[i];exact ih (k+min k (N-k)) (by omega) (λ_=>by omega) (by omega)
theorem anp{l:List Bool}{n:Int}(h:l.length=1/\0<=n/\n<=1024):aV (agv af) (aoQ af l n) (true,List.replicate n.toNat<|l.getD 0 false,()):=by
 obtain⟨N,rfl⟩:=bf h.2.1;obtain⟨v,rfl⟩:=kH.1 h.1;have f:N<=1024:=by omega
 have i:=Wl (v:=v) f N (min 1 N) (by omega) (λh=>by omega) (by omega);have c:=aa4 ⟨N,by omega⟩;have c:af.k Br (af.v .u64<|af.l [v],af.v .u64 N)=((0,(N:Int)):Int×Int):=c;have g:af.v .i64 (N:Int)=(N:Int):=lZ (by omega) (by omega);unfold aoQ EH;rw[c,g];refine(ap ?_).2 ((ap rfl).2<|(ap ?_).2<|au.2 ⟨?_,?_⟩)
 .rfl
 .show decide ((N:Int) > 9223372036854775807)=false;grind
 .rw[bu,bu,bg,aB,aB];grind
 .have e:af.r N false=List.replicate N false:=by rfl
  rw[e,dW,dW,Ht,v7];have j:af.spl (List.replicate N false) 0 (af.s [v] 0 ((min [v].length N:Nat):Int))=List.replicate (min 1 N) v++List.replicate (N-min 1 N) false:=by
   rcases Nat.eq_zero_or_pos N with rfl|f
   .rfl
   .obtain⟨M,rfl⟩:∃M,N=M+1:=⟨N-1,by omega⟩;rfl
  simp_all
def ZS:(List Bool×Int)->Bool×(List Bool)×Unit:=λ(l,n)=>(true,List.replicate n.toNat<|l.getD 0 false,())
def Ic:(List Bool×Int)->Bool:=λ(l,n)=>decide<|l.length=1/\0<=n/\n<=1024
def arG:pn:=⟨[(.slice .bool),yI],.own .bool,false,[],Ic,ZS⟩
def arD:pn.bI prog 117 arG:=wG ax dJ sl 61 [⟨117,8,[[7,8]]⟩] [] (λA (f,c)=>aoQ A f c) agv akU (kz (fc func117 fz) (sc aiL sz)) (λA y=>match y with |.c0 i a1=>⟨30,sl,by kernel_rfl⟩) λ((f,c):(List Bool×Int)) g h=>anp<|of_decide_eq_true g
def aw9(A:aS)(m:aA)(o:cq):LT Bool Empty:=.br (A.ov o.1 0) (.br (A.not<|A.bo o.1 m.1) (.ret false)<|.br (A.ov o.2.2.1 0) (.br (A.not<|A.bo o.2.2.1 m.1) (.ret false)<|.br (A.bo o.2.1 0) (.ret false)<|.br (A.ov o.2.1 16) (.ret false)<|.br (A.bq o.2.2.2.1 1) (.br (A.bq o.2.2.2.2.1 0) (.ret<|A.bE (A.l o.2.2.2.2.2) 8)<|.ret false)<|.br (A.bq o.2.2.2.1 2) (.br (A.bq o.2.2.2.2.1 0) (.ret<|A.bq (A.l o.2.2.2.2.2) 0)<|.ret false)<|.br (A.bq o.2.2.2.1 3) (.br (A.ov o.2.2.2.2.1<|-1) (.br (A.bo o.2.2.2.2.1<|A.l m.2.2.2.2.2.2.2) (.ret<|A.bq (A.l o.2.2.2.2.2) 0)<|.ret false)<|.ret false)<|.ret false)<|.ret false)<|.ret false
def uy:(aA×cq)->Bool:=λ(m,o)=>(aw9 af m o).val<|Ty.aR [.bool]
def avQ:aK:=.all [bD,dE] [.bool] uy
def ato:Sd 120 avQ:=fa<|aQ ax dJ sl 125 [] (λA (m,o)=>aw9 A m o)<|kz (fc func120<|fc func178 fz) sz
abbrev Vg(A:aS)(m:aA):LT (List Span×Bool) Empty:=(.ret (([(0,A.b .sub .i64 m.1 1),(0,0),(0,A.b .sub .i64 m.1 1),(0,0),(0,0)]:List Span),true))
abbrev Vh(A:aS)(m:aA):LT (List Span×Bool) Empty:=(.ret (([(0,A.b .sub .i64 m.1 1),(0,0),(0,0),(0,0),(0,0)]:List Span),true))
def ahe(A:aS)(m:aA)(c:Int):LT (List Span×Bool) Empty:=.br (A.bq c 1) (Vg A m)<|.br (A.bq c 2) (Vg A m)<|.br (A.bq c 6) (Vg A m)<|.br (A.bq c 3) (Vh A m)<|.br (A.bq c 4) (Vh A m)<|.br (A.bq c 11) (Vh A m)<|.br (A.bq c 5) (.ret (([(0,0),(0,1),(0,A.b .sub .i64 m.1 1),(0,0),(0,0)]:List Span),true))<|.br (A.bq c 12) (.ret (([(0,0),(0,1),(0,0),(0,0),(0,0)]:List Span),true))<|.br (A.bq c 7) (.ret (([(0,A.b .sub .i64 m.1 1),(0,0),(0,0),(0,200),(0,0)]:List Span),true))<|.br (A.bq c 8) (.ret (([(0,A.b .sub .i64 m.1 1),(0,0),(0,0),(A.u .neg .i64 m.2.2.1,m.2.2.1),(0,0)]:List Span),true))<|.br (A.bq c 9) (.ret (([(0,A.b .sub .i64 m.1 1),(0,0),(0,A.b .sub .i64 m.1 1),(0,A.b .sub .i64 m.2.1 1),(1,m.2.1)]:List Span),true))<|.br (A.bq c 10) (.ret (([(0,A.b .sub .i64 m.1 1),(0,0),(0,A.b .sub .i64 m.1 1),(0,A.b .sub .i64 m.1 1),(0,0)]:List Span),true))<|.ret (([(0,0),(0,0),(0,0),(0,0),(0,0)]:List Span),false)
def kQ:(aA×Int)->(List Span×Bool):=λ(m,c)=>(ahe af m c).val<|Ty.aR [(.arr 5 kv),.bool]
def avX:aK:=.all [bD,yI] [(.arr 5 kv),.bool] kQ
def atv:Sd 226 avX:=fa<|aQ ax dJ (.jf [0,1,0,1,0,0,1,0,1]) 159 [] (λA (m,c)=>ahe A m c)<|kz (fc func226 fz) sz
def aoW(A:aS)(l:Span)(n:Int):LT Bool Empty:=.br (A.ov n l.1) (.ret<|A.bE n l.2)<|.ret false
def lS:(Span×Int)->Bool:=λ(l,n)=>(aoW af l n).val (Ty.aR [.bool])
def avY:aK:=.all [kv,yI] [.bool] lS
def atw:Sd 227 avY:=fa<|aQ ax dJ sl 25 [] (λA (l,n)=>aoW A l n)<|kz (fc func227 fz) sz
abbrev adi(A:aS)(m:aA)(f:bK):LT Bool Empty:=(.br (A.not<|A.k lS ((A.n kv (A.k kQ (m,f.1)).1 0:Span),f.2.1)) (.ret false)<|.br (A.not<|A.k lS ((A.n kv (A.k kQ (m,f.1)).1 1:Span),f.2.2.1)) (.ret false)<|.br (A.not<|A.k lS ((A.n kv (A.k kQ (m,f.1)).1 2:Span),f.2.2.2.2.1)) (.ret false)<|.br (A.not<|A.k lS ((A.n kv (A.k kQ (m,f.1)).1 3:Span),f.2.2.2.2.2.1)) (.ret false)<|.br (A.not<|A.k lS ((A.n kv (A.k kQ (m,f.1)).1 4:Span),f.2.2.2.2.2.2)) (.ret false)<|.ret true)
def adh(A:aS)(m:aA)(f:bK):LT Bool Empty:=.br (A.not (A.k kQ (m,f.1)).2) (.ret false)<|.br (A.bo f.2.2.2.1 0) (.ret false)<|.br (A.ov f.2.2.2.1 16) (.ret false)<|.br (A.bq f.1 10) (.br (A.bq f.2.2.2.2.1 f.2.1) (.ret false)<|adi A m f)<|adi A m f
def ko:(aA×bK)->Bool:=λ(m,f)=>(adh af m f).val<|Ty.aR [.bool]
def avU:aK:=.all [bD,bQ] [.bool] ko
def atr:Sd 174 avU:=fa<|aQ ax dJ sl 250 [] (λA (m,f)=>adh A m f)<|kz (fc func174 fz)<|sc atv<|sc atw sz
structure XY where(a0:List bK)(a1:Int)(a3:aA)
structure XZ where(b0:List bK)(b1:Int)(b3:aA)
structure X0 where(c1:List bK)
structure X1 where(d1 d2:Int)
inductive aey where|c0(p:XY)(a2:Int)|c1(p:XZ)(b2:Int)(b4:List bK)|c2(p:X0)(c0:Int)|c3(p:X1)(d0 d3:Int)(d4:List bK)
noncomputable def akW:aey->gY
 | .c0 p a2=>⟨[gW 119 29 [(2,pZ 0),(5,.fG true),(11,.sl bQ p.a0),(12,vi p.a1),(13,vi a2)] f119 244],[dZ bD p.a3,.a_]⟩
 | .c1 p b2 b4=>⟨[gW 119 29 [(2,pZ 0),(5,.own 1),(11,.sl bQ p.b0),(12,vi p.b1),(13,vi b2)] f119 244],[dZ bD p.b3,aZ bQ b4,.a_]⟩
 | .c2 p c0=>⟨[gW 177 61 [(0,.own 0),(3,vi c0)] f177 116,⟨119,29,.leaf,[.ops (ow f119 126)<|(ow f119 126).toList.drop 1,.code .ret],[],none⟩],[aZ bQ p.c1,.a_]⟩
 | .c3 p d0 d3 d4=>⟨[gW 177 61 [(0,.own 0),(3,vi d0),(4,.t6 0 7 false p.d1 p.d2),(5,vi d3)] f177 119380,⟨119,29,.leaf,[.ops (ow f119 126)<|(ow f119 126).toList.drop 1,.code .ret],[],none⟩],[aZ bQ d4,.a_]⟩
def aoS(A:aS)(m:aA)(l:List bK):LT (List bK) aey:=.br (A.cm (A.k jN m) 0) (.ret ([]:List bK))<|.ak<|.c0 ⟨l,A.l l,m⟩ 0
def Sc(A:aS):aey->LT (List bK) aey
 | .c0 p a2=>.br (A.bo a2 p.a1) (.fP A a2 p.a0<|.br (A.k ko (p.a3,(A.n bQ p.a0 a2:bK))) (.ao (A.bE (A.l (([(A.n bQ p.a0 a2:bK)]:List bK):List bK)) 2513169434916)<|.ak<|.c1 ⟨p.a0,p.a1,p.a3⟩ (A.b .add .i64 a2 1) ([(A.n bQ p.a0 a2:bK)]:List bK))<|.ak<|.c0 p<|A.b .add .i64 a2 1)<|.ao (A.k (λ_=>true) (([]:List bK),()))<|.ret ([]:List bK)
 | .c1 p b2 b4=>.br (A.bo b2 p.b1) (.fP A b2 p.b0<|.br (A.k ko (p.b3,(A.n bQ p.b0 b2:bK))) (.ao (A.bE (A.l<|A.p b4 ([(A.n bQ p.b0 b2:bK)]:List bK)) 2513169434916)<|.ak<|.c1 p (A.b .add .i64 b2 1)<|A.p b4 ([(A.n bQ p.b0 b2:bK)]:List bK))<|.ak<|.c1 p (A.b .add .i64 b2 1) b4)<|.ao (A.k (λ_=>true) (b4,()))<|.br (A.bo (A.l (A.k Ei (b4,())).1) 2) (.ret (A.k Ei (b4,())).1)<|.ak<|.c2 ⟨(A.k Ei (b4,())).1⟩ 1
 | .c2 p c0=>.br (A.bo c0<|A.l p.c1) (.fP A c0 p.c1<|.fP A (A.b .sub .i64 c0 1) p.c1<|.br (A.and (A.bq (A.n bQ p.c1 c0:bK).1 (A.n bQ p.c1 (A.b .sub .i64 c0 1):bK).1)<|A.and (A.bq (A.n bQ p.c1 c0:bK).2.1 (A.n bQ p.c1 (A.b .sub .i64 c0 1):bK).2.1)<|A.and (A.bq (A.n bQ p.c1 c0:bK).2.2.1 (A.n bQ p.c1 (A.b .sub .i64 c0 1):bK).2.2.1)<|A.and (A.bq (A.n bQ p.c1 c0:bK).2.2.2.1 (A.n bQ p.c1 (A.b .sub .i64 c0 1):bK).2.2.2.1)<|A.and (A.bq (A.n bQ p.c1 c0:bK).2.2.2.2.1 (A.n bQ p.c1 (A.b .sub .i64 c0 1):bK).2.2.2.2.1)<|A.and (A.bq (A.n bQ p.c1 c0:bK).2.2.2.2.2.1 (A.n bQ p.c1 (A.b .sub .i64 c0 1):bK).2.2.2.2.2.1)<|A.and (A.bq (A.n bQ p.c1 c0:bK).2.2.2.2.2.2 (A.n bQ p.c1 (A.b .sub .i64 c0 1):bK).2.2.2.2.2.2) true) (.ao (A.and (A.bE 0 c0)<|A.and (A.bE c0<|A.l p.c1)<|A.bE (A.l p.c1)<|A.l p.c1)<|.ak<|.c3 ⟨c0,A.b .sub .i64 (A.l p.c1) c0⟩ c0 1 p.c1)<|.ak<|.c2 p<|A.b .add .i64 c0 1)<|.ret p.c1
 | .c3 p d0 d3 d4=>.br (A.bo d3 p.d2) (.ao (A.and (A.bE 0 d3)<|A.bo d3 p.d2)<|.ao (A.and (A.bE 0<|A.b .sub .i64 d3 1)<|A.bo (A.b .sub .i64 d3 1) p.d2)<|.br (A.not<|A.and (A.bq (A.n bQ d4 (A.b .add .i64 p.d1 d3):bK).1 (A.n bQ d4 (A.b .add .i64 p.d1<|A.b .sub .i64 d3 1):bK).1)<|A.and (A.bq (A.n bQ d4 (A.b .add .i64 p.d1 d3):bK).2.1 (A.n bQ d4 (A.b .add .i64 p.d1<|A.b .sub .i64 d3 1):bK).2.1)<|A.and (A.bq (A.n bQ d4 (A.b .add .i64 p.d1 d3):bK).2.2.1 (A.n bQ d4 (A.b .add .i64 p.d1<|A.b .sub .i64 d3 1):bK).2.2.1)<|A.and (A.bq (A.n bQ d4 (A.b .add .i64 p.d1 d3):bK).2.2.2.1 (A.n bQ d4 (A.b .add .i64 p.d1<|A.b .sub .i64 d3 1):bK).2.2.2.1)<|A.and (A.bq (A.n bQ d4 (A.b .add .i64 p.d1 d3):bK).2.2.2.2.1 (A.n bQ d4 (A.b .add .i64 p.d1<|A.b .sub .i64 d3 1):bK).2.2.2.2.1)<|A.and (A.bq (A.n bQ d4 (A.b .add .i64 p.d1 d3):bK).2.2.2.2.2.1 (A.n bQ d4 (A.b .add .i64 p.d1<|A.b .sub .i64 d3 1):bK).2.2.2.2.2.1)<|A.and (A.bq (A.n bQ d4 (A.b .add .i64 p.d1 d3):bK).2.2.2.2.2.2 (A.n bQ d4 (A.b .add .i64 p.d1<|A.b .sub .i64 d3 1):bK).2.2.2.2.2.2) true) (.ao (A.and (A.bE 0 d3)<|A.bo d3 p.d2)<|.fP A d0 d4<|.ak<|.c3 p (A.b .add .i64 d0 1) (A.b .add .i64 d3 1)<|A.set d4 d0 (A.n bQ d4 (A.b .add .i64 p.d1 d3):bK))<|.ak<|.c3 p d0 (A.b .add .i64 d3 1) d4)<|.ao (A.and (A.bE 0 d0)<|A.and (A.bE d0<|A.l d4)<|A.bE (A.l d4)<|A.l d4)<|.ao (A.and (A.bE 0 0)<|A.and (A.bE 0 d0)<|A.bE d0<|A.l<|A.spl d4 d0<|A.r (A.b .sub .i64 (A.l d4) d0) (Ty.gy bQ:bK))<|.ret<|A.s (A.spl d4 d0<|A.r (A.b .sub .i64 (A.l d4) d0) (Ty.gy bQ:bK)) 0<|A.b .add .i64 0<|A.b .sub .i64 d0 0
def rM(a:bK):List bK->List bK
 | []=>[]
 | b::l=>if b=a then rM a l else b::rM b l
def qM:List bK->List bK
 | []=>[]
 | a::l=>a::rM a l
theorem Kw:∀(l:List bK) (a x:bK),rM a (l ++ [x])=if x=(a::l).getLast (List.cons_ne_nil _ _) then rM a l else rM a l ++ [x]
 | [],a,x=>by rfl
 | b::l,a,x=>by
   have c:=Kw l b x;show(if b=a then rM a (l ++ [x]) else b::rM b (l ++ [x]))=_;by_cases h:b=a
   .subst h;show _=if _ then(if b=b then rM b l else _) else(if b=b then rM b l else _) ++ [x]
    simp_all
   .rw[if_neg h,c];show _=if _ then(if b=a then rM a l else b::rM b l) else(if b=a then rM a l else b::rM b l) ++ [x]
    grind
theorem Gm{L:List bK}{n:Nat}(f:1<=n)(h:n<L.length):qM (L.take<|n+1)=if L[n]=L[n-1]'(by omega) then qM (L.take n) else qM (L.take n) ++ [L[n]]:=by
 cases L with
 | nil=>grind
 | cons a l=>
   obtain⟨k,rfl⟩:∃k,n=k+1:=⟨n-1,by omega⟩;have c:k<l.length:=by simp_all
   rw[ib,ib,cn c];show a::rM a (l.take k ++ [l[k]])=if _ then a::rM a (l.take k) else a::rM a (l.take k) ++ [_]
   rw[Kw]
   grind
def nC(m:aA)(l:List bK):List bK:=bif decide (jN m=0) then qM ((l.filter λf=>ko (m,f)).mergeSort λa b=>!(iw b a)) else[]
def Mb{a b:bK}:af.and (af.bq a.1 b.1) (af.and (af.bq a.2.1 b.2.1)<|af.and (af.bq a.2.2.1 b.2.2.1)<|af.and (af.bq a.2.2.2.1 b.2.2.2.1)<|af.and (af.bq a.2.2.2.2.1 b.2.2.2.2.1)<|af.and (af.bq a.2.2.2.2.2.1 b.2.2.2.2.2.1)<|af.and (af.bq a.2.2.2.2.2.2 b.2.2.2.2.2.2) true)=decide (a=b):=by
 have⟨a1,a2,c,f,g,h,i⟩:=a;have⟨j,l,m,n,o,p,q⟩:=b;simp[dx,bu,Bool.and_true,Prod.mk.injEq,Bool.decide_and]
def agO{d:List bK}{z:bK}{k n:Nat}(h:k+n=d.length):(af.spl d k<|af.r n z).length=d.length:=by
 rw[uK,nU,AT,AT,t_,t_,dh,dQ,Ht];omega
def Rs{L:List bK}{i:Nat}(h:i<L.length):(af.n bQ L (i:Int):bK)=L[i]:=eO h _
theorem YY{p:X1}{L:List bK}{k0:Nat}(E:p.d1=(k0:Int))(u:p.d2=((L.length-k0:Nat):Int))(V:k0<=L.length)(W:L.length<=1000000):
  ∀(j k c:Nat) (d:List bK),L.length-k0-c=j->c<=L.length-k0->1<=c->1<=k->k+1<=k0+c->d.length=L.length->d.take k=qM (L.take<|k0+c)->d.drop k=L.drop k->
   aV (Sc af) (.ak<|.c3 p (k:Int) (c:Int) d) (qM L):=by
 intro j
 induction j with
 | zero=>
   intro k c d S A q H C h z _;have e:k0+c=L.length:=by omega
   have P:af.b .add .i64 0 (af.b .sub .i64 k 0)=(k:Int):=by
    rw[show(0:Int)=((0:Nat):Int) from rfl,Nz (aM _)<|by omega,uk<|by omega];omega
   refine aG.2<|(ap ?_).2<|au.2 ⟨?_,au.2 ⟨?_,aT ?_<|.ret _⟩⟩
   .rw[u,bH];grind
   .rw[dW,h,bu,bu,aB,aB,aB];grind
   .have I:(af.spl d k<|af.r (af.b .sub .i64 (af.l d) k) (Ty.gy bQ:bK)).length=L.length:=by
     rw[dW,h,Nz (by omega)<|by omega];exact(agO<|by omega).trans h
    rw[dW (l:=af.spl _ _ _),I,bu,bu,aB,aB,aB];grind
   .rw[P,jc,nU,AT,fe,iT (by rw[dh];omega),z,e,dI<|ai _];rfl
 | succ j ih=>
   intro k c d S A q H C h z f;have r:k0+c<L.length:=by omega
   have g:∀i,k<=i->(Q:i<L.length)->(af.n bQ d (i:Int):bK)=L[i]:=λi Q I=>by
    rw[Rs<|by omega];have:=congrArg (λl=>l[i-k]?) f
    grind
   have K:af.b .add .i64 p.d1 (c:Int)=((k0+c:Nat):Int):=by rw[E,uk (i:=k0) (j:=c)<|by omega]
   have D:af.b .sub .i64 c 1=((c-1:Nat):Int):=Nz (i:=c) (j:=1) (by omega) (by omega);have O:af.b .add .i64 p.d1 ((c-1:Nat):Int)=((k0+c-1:Nat):Int):=by rw[E,uk (i:=k0) (j:=c-1)<|by omega];congr 1;omega
   have a1:=g (k0+c) (by omega) r;have a2:=g (k0+c-1) (by omega) (by omega);have J:=Gm (L:=L) (n:=k0+c) (by omega) r;have m:af.and (af.bE 0 c) (af.bo c p.d2)=true:=by rw[u,bH,bu,aB];simp;omega
   have o:af.and (af.bE 0 ((c-1:Nat):Int)) (af.bo ((c-1:Nat):Int) p.d2)=true:=by rw[u,bH,bu,aB];simp;omega
   refine aG.2<|(ar ?_).2<|au.2 ⟨m,au.2 ⟨by rw[D];exact o,?_⟩⟩
   .rw[u,bH];exact cr (by omega)
   rw[D,K,O,a1,a2,Mb,jQ (i:=c)<|by omega,jQ (i:=k)<|by omega];by_cases v:L[k0+c]=L[k0+c-1]
   .rw[cr v];refine(ap rfl).2 (ih k (c+1) d (by omega) (by omega) (by omega) H (by omega) h ?_ f);rw[show k0+(c+1)=k0+c+1 by omega,J,if_pos v];exact z
   .rw[gw v];refine(ar rfl).2 (au.2 ⟨m,au.2 ⟨cJ<|by omega,?_⟩⟩);rw[Nw,AT];have B:k<d.length:=by omega
    refine ih (k+1) (c+1) _ (by omega) (by omega) (by omega) (by omega) (by omega) (by simp_all) ?_ ?_
    .rw[show k0+(c+1)=k0+c+1 by omega,J,if_neg v,<-z,cn (by rw[bW];exact B),List.getElem_set_self,List.take_set_of_le<|ai _]
    .rw[List.drop_set_of_lt<|Nat.lt_succ_self _];have:=congrArg (List.drop 1) f;rw[fh,fh] at this;exact this
theorem Ze{p:X0}{L:List bK}(f:p.c1=L)(o:L.length<=1000000):∀(j i:Nat),L.length-i=j->i<=L.length->1<=i->qM (L.take i)=L.take i->
  aV (Sc af) (.ak<|.c2 p i) (qM L):=by
 intro j
 induction j with
 | zero=>
   intro i r m g q;have:i=L.length:=by omega
   subst this;refine aG.2<|(ap ?_).2<|aT ?_<|.ret _
   .rw[f,dW,bH];simp
   simp_all
 | succ j ih=>
   intro i r m g q;have c:i<L.length:=by omega
   have h:af.b .sub .i64 i 1=((i-1:Nat):Int):=Nz (i:=i) (j:=1) (by omega) (by omega);have u:=Gm (L:=L) (n:=i) g c;refine aG.2<|(ar ?_).2<|au.2 ⟨by rw[f];exact cJ c,au.2 ⟨by rw[f,h];exact cJ<|by omega,?_⟩⟩
   .rw[f,dW,bH];simp_all
   rw[f,h,Rs c,Rs<|show i-1<L.length by omega,Mb,jQ<|by omega];by_cases l:L[i]=L[i-1]
   .rw[cr l];refine(ar rfl).2 (au.2 ⟨?_,?_⟩)
    .rw[dW,bu,bu,aB,aB,aB];simp_all
    .rw[dW,Nz (by omega)<|by omega];have:=YY (p:=⟨(i:Int),((L.length-i:Nat):Int)⟩) (L:=L) (k0:=i) rfl rfl m o _ i 1 L rfl (by omega) (ai _) g (ai _) rfl (by simp_all) rfl;omega
   .rw[gw l];refine(ap rfl).2 (ih (i+1) (by omega) (by omega) (by omega) ?_)
    simp_all
def Sl{L:List bK}:(L.mergeSort λa b=>!(iw b a)).length=L.length:=List.length_mergeSort _
theorem Zw{L:List bK}(f:L.length<=1000000):aV (Sc af) (.ao (af.k (λ_=>true) ((L,()):List bK×Unit))<|.br (af.bo (af.l (af.k Ei (L,())).1) 2) (.ret (af.k Ei (L,())).1)<|.ak<|.c2 ⟨(af.k Ei (L,())).1⟩ 1)<|qM (L.mergeSort λa b=>!(iw b a)):=by
 have e:(af.k Ei (L,())).1=L.mergeSort λa b=>!(iw b a):=rfl;rw[e];have c:=Sl (L:=L);generalize L.mergeSort (λa b=>!(iw b a))=M at c ⊢;refine au.2 ⟨rfl,?_⟩;by_cases h:M.length<2
 .refine(ar ?_).2 (aT ?_<|.ret _)
  .rw[dW,bi];grind
  .match M,h with
   | [],_=>rfl
   | [a],_=>rfl
   | _::_::_,h=>grind
 .refine(ap ?_).2 ?_
  .rw[dW,bi];grind
  .refine Ze (L:=M) rfl (by omega) _ 1 rfl (by omega) (ai _) ?_
   match M,h with
   | [],h=>simp at h
   | a::l,_=>rfl
theorem VK{p:XZ}{L:List bK}(h:p.b0=L)(l:p.b1=(L.length:Int))(n:p.b3=m)(o:L.length<=1000000):
  ∀(j i:Nat),L.length-i=j->i<=L.length->aV (Sc af) (.ak<|.c1 p i<|(L.take i).filter λf=>ko (m,f)) (qM<|(L.filter λf=>ko (m,f)).mergeSort λa b=>!(iw b a)):=by
 intro j
 induction j with
 | zero=>
   intro i r q;have:i=L.length:=by omega
   subst this;rw[dI<|ai _];refine aG.2<|(ap ?_).2<|Zw<|bd (List.length_filter_le _ _) o;rw[l,bH];simp
 | succ j ih=>
   intro i r q;have c:i<L.length:=by omega
   refine aG.2<|(ar ?_).2<|au.2 ⟨by rw[h];exact cJ c,?_⟩
   .rw[l,bH];simp_all
   have g:=ih (i+1) (by omega) (by omega);rw[cn c,mX] at g;rw[h,n,Rs c,jQ<|by omega];cases hf:ko (m,L[i])
   .refine(ap<|show af.k ko (m,L[i])=false from hf).2 ?_
    simp_all
   .refine(ar<|show af.k ko (m,L[i])=true from hf).2 (au.2 ⟨?_,?_⟩)
    .have:=List.length_filter_le (λf=>ko (m,f))<|L.take i;rw[dW,mC,t_,bU,aB]
     grind
    .rw[ia (p:=λf=>ko (m,f)) hf,mB] at g;exact g
theorem QV{p:XY}{L:List bK}(l:p.a0=L)(h:p.a1=(L.length:Int))(n:p.a3=m)(o:L.length<=1000000):
  ∀(j i:Nat),L.length-i=j->i<=L.length->(L.take i).filter (λf=>ko (m,f))=[]->aV (Sc af) (.ak<|.c0 p i) (qM<|(L.filter λf=>ko (m,f)).mergeSort λa b=>!(iw b a)):=by
 intro j
 induction j with
 | zero=>
   intro i r q g;have:i=L.length:=by omega
   subst this;rw[dI<|ai _] at g;rw[g];refine aG.2<|(ap ?_).2<|au.2 ⟨rfl,aT ?_<|.ret _⟩
   .rw[h,bH];simp
   .rw[List.mergeSort_nil];rfl
 | succ j ih=>
   intro i r q u;have c:i<L.length:=by omega
   refine aG.2<|(ar ?_).2<|au.2 ⟨by rw[l];exact cJ c,?_⟩
   .rw[h,bH];simp_all
   rw[l,n,Rs c,jQ<|by omega];have v:(L.take<|i+1).filter (λf=>ko (m,f))=[L[i]].filter λf=>ko (m,f):=by
    rw[cn c,mX,u,iR]
   cases g:ko (m,L[i])
   .refine(ap<|show af.k ko (m,L[i])=false from g).2 (ih (i+1) (by omega) (by omega) ?_)
    simp_all
   .refine(ar<|show af.k ko (m,L[i])=true from g).2 (au.2 ⟨by kernel_rfl,?_⟩);have z:=VK (p:=⟨L,p.a1,m⟩) (L:=L) (m:=m) rfl h rfl o _ (i+1) rfl (by omega)
    simp_all
def apX{l:List bK}(h:l.length<=1000000):aV (Sc af) (aoS af m l)<|nC m l:=by
 unfold aoS nC;by_cases c:jN m=0
 .rw[cr c];refine(ap (by rw[dC];exact gw λk=>k c)).2 ?_;exact QV (p:=⟨l,(l.length:Int),m⟩) (L:=l) rfl rfl rfl h _ 0 rfl (aM _) rfl
 .rw[gw c];exact(ar (by rw[dC];exact cr c)).2 (.ret _)
def wS:(aA×List bK)->(List bK):=λ(m,l)=>nC m l
def Ie:(aA×List bK)->Bool:=λ(_,l)=>decide<|l.length<=1000000
def avP:aK:=⟨[bD,.slice bQ],[(.slice bQ)],Ie,wS,false⟩
def atn:Sd 119 avP:=aX ax dJ sl 33 [⟨119,5,[[2,5,11,12,13]]⟩,⟨177,4,[[0,3],[]]⟩,⟨177,9,[[0,3,4,5],[]]⟩] [] (λA (m,l)=>aoS A m l) Sc akW ⟨fc func119 (fc func177 fz),(sc EB (sc atr sz)),oz,(ic ap7 iz),mz,pz⟩ (λA y=>match y with |.c0 p a2=>⟨42,sl,by kernel_rfl⟩|.c1 p b2 b4=>⟨42,sl,by kernel_rfl⟩|.c2 p c0=>⟨46,sl,by kernel_rfl⟩|.c3 p d0 d3 d4=>⟨54,sl,by kernel_rfl⟩) λ((m,l):aA×List bK) c h=>apX<|of_decide_eq_true c
def aw_(A:aS)(a:cq)(b:cq):LT Int Empty:=.ret<|A.k OJ [(A.k rB (a.2.1,b.2.1)),A.k rB (a.2.2.1,b.2.2.1),A.k rB (a.1,b.1)]
def OI:(cq×cq)->Int:=λ(a,b)=>(aw_ af a b).val<|Ty.aR [yI]
def avR:aK:=.all [dE,dE] [yI] OI
def aiO:Sd 122 avR:=fa<|aQ ax dJ sl 33 [] (λA (a,b)=>aw_ A a b)<|kz (fc func122 fz)<|sc acL<|sc acM sz
def Ex{Y:Type}(s:Y->LT (List cq×Unit) Y)(N:Nat)(t:LT (List cq×Unit) Y):Prop:=∃r:List cq,r.length=N/\aV s t (r,())
section
variable {Y:Type} {s:Y->LT (List cq×Unit) Y} {N:Nat} {t e:LT (List cq×Unit) Y} {a b:Int}
def Ex.ret{r:List cq}(h:r.length=N):Ex s N<|.ret (r,()):=⟨r,h,.ret _⟩
def Ex.ak{y:Y}(h:Ex s N<|s y):Ex s N<|.ak y:=h.elim λr k=>⟨r,k.1,.ak k.2⟩
def Ex.ao{b:Bool}(c:b=true)(h:Ex s N t):Ex s N<|.ao b t:=h.elim λr k=>⟨r,k.1,.ao c k.2⟩
def Ex.br{b:Bool}(c:b=true->Ex s N t)(f:b=false->Ex s N e):Ex s N<|.br b t e:=by
 cases b
 .exact(f rfl).elim λr k=>⟨r,k.1,.br k.2⟩
 .exact(c rfl).elim λr k=>⟨r,k.1,.br k.2⟩
def Ex.lss(c:a<b->Ex s N t)(f:b<=a->Ex s N e):Ex s N<|.br (af.bo a b) t e:=
 Ex.br (λh=>c<|of_decide_eq_true (p:=a<b) h) λh=>f<|iX.1<|of_decide_eq_false (p:=a<b) h
def Ex.gtr(c:b<a->Ex s N t)(f:a<=b->Ex s N e):Ex s N<|.br (af.jD a b) t e:=
 Ex.br (λh=>c<|of_decide_eq_true (p:=b<a) h) λh=>f<|iX.1<|of_decide_eq_false (p:=b<a) h
def Ex.leq(c:a<=b->Ex s N t)(f:b<a->Ex s N e):Ex s N<|.br (af.bE a b) t e:=
 Ex.br (λh=>c<|of_decide_eq_true (p:=a<=b) h) λh=>f<|Int.not_le.1<|of_decide_eq_false (p:=a<=b) h
def Ex.eql(c:a=b->Ex s N t)(f:¬a=b->Ex s N e):Ex s N<|.br (af.bq a b) t e:=by
 rw[dx];exact Ex.br (λh=>c<|of_decide_eq_true h) λh=>f<|of_decide_eq_false h
def Ex.neq(c:¬a=b->Ex s N t)(f:a=b->Ex s N e):Ex s N<|.br (af.cm a b) t e:=by
 rw[dC];exact Ex.br (λh=>c<|of_decide_eq_true h) λh=>f<|dF.1<|of_decide_eq_false h
end
def w8{Y:Type}(s:Y->LT (List cq×Unit) Y)(t:LT (List cq×Unit) Y)(d:List cq):List cq:=bif Nat.beq (fA s t (d,())).1.length d.length then(fA s t (d,())).1 else d
variable{d:List cq}
def qU{s:Y->LT (List cq×Unit) Y}{t:LT (List cq×Unit) Y}:(w8 s t d).length=d.length:=by
 unfold w8;cases h:Nat.beq (fA s t (d,())).1.length d.length
 .rfl
 .exact vH h
def vI{s:Y->LT (List cq×Unit) Y}{t:LT (List cq×Unit) Y}(h:Ex s d.length t):(w8 s t d).length=d.length/\aV s t (w8 s t d,()):=by
 refine⟨qU,?_⟩;have⟨r,f,c⟩:=h;rw[w8,nT c,tM.2 f];exact c
def Mn{l:List cq}{j:Int}{v:cq}(h:0<=i/\i<(l.length:Int)):af.and (af.bE 0 i) (af.bo i<|af.l<|af.set l j v)=true:=bM (by rw[gK];exact h)
def xn{y:Int}(h:-4611686018427387904<=x+y/\x+y<4611686018427387904):af.b .add .i64 x y=x+y:=by rw[gG,lZ (by omega)<|by omega]
def wI{y:Int}(h:-4611686018427387904<=x-y/\x-y<4611686018427387904):af.b .sub .i64 x y=x-y:=by rw[Go.Ev.gX,lZ (by omega)<|by omega]
structure X7 where(a0 a1 a2:Int)
inductive aeG where|c0(p:X7)(a3:Int)(a4:List cq)
noncomputable def ak4:aeG->gY
 | .c0 p a3 a4=>⟨[gW 319 38 [(0,.own 0),(1,vi p.a0),(2,vi p.a1),(3,vi p.a2),(10,vi a3)] f319 12],[aZ dE a4,.a_]⟩
def aoY(A:aS)(c:List cq)(a:Int)(b:Int)(n:Int):LT (List cq×Unit) aeG:=.ak<|.c0 ⟨a,b,n⟩ 0 c
def agx(A:aS):aeG->LT (List cq×Unit) aeG
 | .c0 p a3 a4=>.br (A.bo a3 p.a2) (.fP A (A.b .add .i64 p.a1 a3) a4<|.fP A (A.b .add .i64 p.a0 a3) a4<|.fP A (A.b .add .i64 p.a0 a3) a4<|.fP A (A.b .add .i64 p.a1 a3) (A.set a4 (A.b .add .i64 p.a0 a3) (A.n dE a4 (A.b .add .i64 p.a1 a3):cq))<|.ak<|.c0 p (A.b .add .i64 a3 1)<|A.set (A.set a4 (A.b .add .i64 p.a0 a3) (A.n dE a4 (A.b .add .i64 p.a1 a3):cq)) (A.b .add .i64 p.a1 a3) (A.n dE a4 (A.b .add .i64 p.a0 a3):cq))<|.ret (a4,())
def an3{p:X7}{N:Nat}(i:0<=p.a0)(l:0<=p.a1)(m:p.a0+p.a2<=N)(n:p.a1+p.a2<=N)(o:N<=1000000):∀(j:Nat) (k:Int) (d:List cq),(p.a2-k).toNat<=j->0<=k->d.length=N->Ex (agx af) N (.ak<|.c0 p k d):=by
 intro j
 induction j with
 | zero=>intro k d f g c;exact Ex.ak (Ex.lss (λh=>by omega) λ_=>Ex.ret c)
 | succ j ih=>
   intro k d f g c;refine Ex.ak (Ex.lss (λh=>?_) λ_=>Ex.ret c);rw[xn (x:=p.a1) (y:=k)<|by omega,xn (x:=p.a0) (y:=k)<|by omega,xn (x:=k) (y:=1)<|by omega];exact Ex.ao (bM<|by omega)<|Ex.ao (bM<|by omega)<|Ex.ao (bM<|by omega)<|Ex.ao (Mn<|by omega)<|ih (k+1) _ (by omega) (by omega)<|gK.trans<|gK.trans c
def an1{n:Int}(h:0<=a/\0<=n/\a+n<=b/\b+n<=(d.length:Int)/\d.length<=1000000):Ex (agx af) d.length<|aoY af d a b n:=
 an3 (p:=⟨a,b,n⟩) (by simp only;omega) (by simp only;omega) (by simp only;omega) (by simp only;omega) (by omega) _ 0 d (ai _) (aj 0) rfl
def OM:List cq×(Int×Int×Int)->List cq×Unit:=λ(d,a,b,n)=>(w8 (agx af) (aoY af d a b n) d,())
def Ig:List cq×(Int×Int×Int)->Bool:=λ(d,a,b,n)=>decide<|0<=a/\0<=n/\a+n<=b/\b+n<=(d.length:Int)/\d.length<=1000000
def aql:gg:=⟨dE,[yI,yI,yI],[122],[],Ig,OM,false⟩
def aqa:gg.bI prog 319 aql:=gv ax dJ sl 12 [⟨319,1,[[0,1,2,3,10]]⟩] [] (λA (c,(a,b,n))=>aoY A c a b n) agx ak4 (kz (fc func319 fz) sz) (λA y=>match y with |.c0 p g i=>⟨49,sl,by kernel_rfl⟩) λ((c,(a,b,n)):List cq×(Int×Int×Int)) f j h=>vI<|an1<|of_decide_eq_true f
structure X6 where(a0:Int)
inductive aeF where|c0(p:X6)(a1 a2:Int)(a3:List cq)
noncomputable def ak3:aeF->gY
 | .c0 p a1 a2 a3=>⟨[gW 282 58 [(0,.own 0),(2,vi p.a0),(4,.fn 122 [] []),(10,vi a1),(11,vi a2)] f282 56],[aZ dE a3,.a_]⟩
def ahg(A:aS)(c:List cq)(a:Int)(m:Int)(b:Int):LT (List cq×Unit) aeF:=.ak<|.c0 ⟨m⟩ (A.b .sub .i64 m a) (A.b .sub .i64 b m) c
def agw(A:aS):aeF->LT (List cq×Unit) aeF
 | .c0 p a1 a2 a3=>.br (A.cm a1 a2) (.br (A.jD a1 a2) (.ao (A.k Ig (a3,A.b .sub .i64 p.a0 a1,p.a0,a2))<|.ak<|.c0 p (A.b .sub .i64 a1 a2) a2 (A.k OM (a3,A.b .sub .i64 p.a0 a1,p.a0,a2)).1)<|.ao (A.k Ig (a3,A.b .sub .i64 p.a0 a1,A.b .sub .i64 (A.b .add .i64 p.a0 a2) a1,a1))<|.ak<|.c0 p a1 (A.b .sub .i64 a2 a1) (A.k OM (a3,A.b .sub .i64 p.a0 a1,A.b .sub .i64 (A.b .add .i64 p.a0 a2) a1,a1)).1)<|.ao (A.k Ig (a3,A.b .sub .i64 p.a0 a1,p.a0,a1))<|.ret ((A.k OM (a3,A.b .sub .i64 p.a0 a1,p.a0,a1)).1,())
def MY{n:Int}(h:0<=a/\0<=n/\a+n<=b/\b+n<=(d.length:Int)/\d.length<=1000000):af.k Ig (d,a,b,n)=true:=cr h
def Rl{n:Int}:(af.k OM (d,a,b,n)).1.length=d.length:=qU
def anz{p:X6}{N:Nat}(r:N<=1000000):∀(f:Nat) (i j:Int) (d:List cq),(i+j).toNat<=f->1<=i->1<=j->i<=p.a0->p.a0+j<=N->d.length=N->Ex (agw af) N (.ak<|.c0 p i j d):=by
 intro f
 induction f with
 | zero=>omega
 | succ f ih=>
   intro i j d q l m n o c;refine Ex.ak (Ex.neq (λh=>Ex.gtr (λg=>?_) λg=>?_) λh=>?_)
   .rw[wI (x:=p.a0) (y:=i)<|by omega,wI (x:=i) (y:=j)<|by omega];exact Ex.ao (MY<|by omega)<|ih (i-j) j _ (by omega) (by omega) m (by omega) o<|Rl.trans c
   .rw[xn (x:=p.a0) (y:=j)<|by omega,wI (x:=p.a0) (y:=i)<|by omega,wI (x:=p.a0+j) (y:=i)<|by omega,wI (x:=j) (y:=i)<|by omega];exact Ex.ao (MY<|by omega)<|ih i (j-i) _ (by omega) l (by omega) n (by omega)<|Rl.trans c
   .rw[wI (x:=p.a0) (y:=i)<|by omega];exact Ex.ao (MY<|by omega)<|Ex.ret<|Rl.trans c
theorem anw{m:Int}(h:0<=a/\a<m/\m<b/\b<=(d.length:Int)/\d.length<=1000000):Ex (agw af) d.length<|ahg af d a m b:=by
 unfold ahg;rw[wI (x:=m) (y:=a)<|by omega,wI (x:=b) (y:=m)<|by omega];exact anz (p:=⟨m⟩) (by omega) _ (m-a) (b-m) d (ai _) (by omega) (by omega) (by grind) (by grind) rfl
def tC:List cq×(Int×Int×Int)->List cq×Unit:=λ(d,a,m,b)=>(w8 (agw af) (ahg af d a m b) d,())
def RP:List cq×(Int×Int×Int)->Bool:=λ(d,a,m,b)=>decide<|0<=a/\a<m/\m<b/\b<=(d.length:Int)/\d.length<=1000000
def aqk:gg:=⟨dE,[yI,yI,yI],[122],[],RP,tC,false⟩
def ap_:gg.bI prog 282 aqk:=gv ax dJ sl 23 [⟨282,2,[[0,2,4,10,11]]⟩] [] (λA (c,(a,m,b))=>ahg A c a m b) agw ak3 ⟨fc func282 fz,sz,oz,(ic aqa iz),mz,pz⟩ (λA y=>match y with |.c0 p a1 a2 g=>⟨45,sl,by kernel_rfl⟩) λ((c,(a,m,b)):List cq×(Int×Int×Int)) f i h=>vI<|anw<|of_decide_eq_true f
structure ajM where(a0 a1 a2:Int)(a3:List cq)
structure ajN where(b0 b1 b2:Int)
inductive aeD where|c0(p:ajM)|c1(p:ajN)(b3:Int)(b4:List cq)
noncomputable def ak1:aeD->gY
 | .c0 p=>⟨[gW 230 53 [(0,.own 0),(1,vi p.a0),(2,vi p.a1),(3,.fn 122 [] []),(8,vi p.a2)] f230 12],[aZ dE p.a3,.a_]⟩
 | .c1 p b3 b4=>⟨[gW 230 53 [(0,.own 0),(1,vi p.b0),(2,vi p.b1),(3,.fn 122 [] []),(8,vi p.b2),(9,vi b3)] f230 804],[aZ dE b4,.a_]⟩
def ahf(A:aS)(c:List cq)(a:Int)(b:Int):LT (List cq×Unit) aeD:=.ak<|.c0 ⟨a,b,A.b .add .i64 a 1,c⟩
def WC(A:aS):aeD->LT (List cq×Unit) aeD
 | .c0 p=>.br (A.bo p.a2 p.a1) (.ak<|.c1 ⟨p.a0,p.a1,p.a2⟩ p.a2 p.a3)<|.ret (p.a3,())
 | .c1 p b3 b4=>.br (A.jD b3 p.b0) (.fP A b3 b4<|.fP A (A.b .sub .i64 b3 1) b4<|.br (A.bo (A.k OI ((A.n dE b4 b3:cq),(A.n dE b4 (A.b .sub .i64 b3 1):cq))) 0) (.fP A (A.b .sub .i64 b3 1) b4<|.fP A b3 b4<|.fP A b3 b4<|.fP A (A.b .sub .i64 b3 1) (A.set b4 b3 (A.n dE b4 (A.b .sub .i64 b3 1):cq))<|.ak<|.c1 p (A.b .sub .i64 b3 1)<|A.set (A.set b4 b3 (A.n dE b4 (A.b .sub .i64 b3 1):cq)) (A.b .sub .i64 b3 1) (A.n dE b4 b3:cq))<|.ak<|.c0 ⟨p.b0,p.b1,A.b .add .i64 p.b2 1,b4⟩)<|.ak<|.c0 ⟨p.b0,p.b1,A.b .add .i64 p.b2 1,b4⟩
theorem aml{N:Nat}(A:N<=1000000){a b:Int}(z:0<=a)(B:b<=N):∀(f:Nat) (i:Int) (d:List cq),(b-i).toNat<=f->a<i->d.length=N->Ex (WC af) N (.ak<|.c0 ⟨a,b,i,d⟩):=by
 intro f
 induction f with
 | zero=>intro i d q u l;exact Ex.ak (Ex.lss (λh=>by grind) λ_=>Ex.ret l)
 | succ f ih=>
   intro i d q u l;refine Ex.ak (Ex.lss (λh=>?_) λ_=>Ex.ret l);have h:i<b:=h;have p:∀e:List cq,e.length=N->Ex (WC af) N (.ak<|.c0 ⟨a,b,af.b .add .i64 i 1,e⟩):=λe c=>by
    rw[xn (x:=i) (y:=1)<|by omega]
    grind
   have o:∀(g:Nat) (j:Int) (e:List cq),(j-a).toNat<=g->a<=j->j<=i->e.length=N->Ex (WC af) N (.ak<|.c1 ⟨a,b,i⟩ j e):=by
    intro g
    induction g with
    | zero=>intro j e r v m c;exact Ex.ak (Ex.gtr (λh=>by grind) λ_=>p e c)
    | succ g n=>
      intro j e r v m c;refine Ex.ak (Ex.gtr (λh=>?_) λ_=>p e c);have h:a<j:=h;rw[wI (x:=j) (y:=1)<|by omega];exact Ex.ao (bM<|by omega)<|Ex.ao (bM<|by omega)<|Ex.br (λ_=>Ex.ao (bM<|by omega)<|Ex.ao (bM<|by omega)<|Ex.ao (bM<|by omega)<|Ex.ao (Mn<|by omega)<|n (j-1) _ (by omega) (by omega) (by omega)<|gK.trans<|gK.trans c) λ_=>p e c
   exact o _ i d (ai _) (by omega) (aj i) l
def amj(h:0<=a/\a<=b/\b<=(d.length:Int)/\d.length<=1000000):Ex (WC af) d.length<|ahf af d a b:=by
 unfold ahf;rw[xn (x:=a) (y:=1)<|by omega];exact aml (by omega) h.1 h.c _ (a+1) d (ai _) (by omega) rfl
def T_:List cq×(Int×Int)->List cq×Unit:=λ(d,a,b)=>(w8 (WC af) (ahf af d a b) d,())
def MI:List cq×(Int×Int)->Bool:=λ(d,a,b)=>decide<|0<=a/\a<=b/\b<=(d.length:Int)/\d.length<=1000000
def aqj:gg:=⟨dE,[yI,yI],[122],[],MI,T_,false⟩
def ap9:gg.bI prog 230 aqj:=gv ax dJ sl 14 [⟨230,1,[[0,1,2,3,8]]⟩,⟨230,4,[[0,1,2,3,8,9]]⟩] [] (λA (c,(a,b))=>ahf A c a b) WC ak1 (kz (fc func230 fz) (sc aiO sz)) (λA y=>match y with |.c0 p=>⟨24,sl,by kernel_rfl⟩|.c1 p b3 b4=>⟨57,sl,by kernel_rfl⟩) λ((c,(a,b)):List cq×(Int×Int)) f g h=>vI<|amj<|of_decide_eq_true f
def afX{i j:Nat}(h:i+j<4611686018427387904):af.v .i64 (af.b .shr .u64 (af.v .u64<|af.b .add .i64 (i:Int) (j:Int)) 1)=(((i+j)/2:Nat):Int):=by
 rw[uk h];have e:af.v .u64 ((i+j:Nat):Int)=((i+j:Nat):Int):=apk (by omega) (by omega);rw[e];have:=ash (a:=((i+j:Nat):Int)) (n:=1) (by omega) (by omega);rw[show((1:Nat):Int)=1 from rfl] at this;rw[this,AT];exact lZ (by omega) (by omega)
def Pf{j:Int}(f:0<=i)(g:0<=j)(h:i+j<=4000000):∃c:Int,af.v .i64 (af.b .shr .u64 (af.v .u64<|af.b .add .i64 i j) 1)=c/\2*c<=i+j/\i+j<=2*c+1:=by
 obtain⟨i,rfl⟩:=bf f;obtain⟨j,rfl⟩:=bf g;exact⟨_,afX<|by omega,by omega,by omega⟩
abbrev Xi:Type:=List cq×Int×Int×Int->List cq×Unit
def jJ(k:Nat):List cq×Int×Int×Int->Bool:=λ(d,a,m,b)=>decide<|0<=a/\a<m/\m<b/\b<=(d.length:Int)/\d.length<=1000000/\b-a<=(k:Int)
def aaB(k:Nat)(F:Xi):gg:=⟨dE,[yI,yI,yI],[122],[],jJ k,F,false⟩
structure X3 where(a0:Int)(a3:List cq)
structure X4 where(b0:Int)(b3:List cq)
structure X5 where(c0 c1 c2 c3 c4 c7:Int)(c8:List cq)
structure ajO where(d0:Int)
structure ajP where(e0:Int)
inductive aeE where|c0(p:X3)(a1 a2:Int)|c1(p:X4)(b1 b2:Int)|c2(p:X5)(c5 c6:Int)|c3(p:ajO)(d1:Int)(d2:List cq)|c4(p:ajP)(e1:Int)(e2:List cq)
noncomputable def ak2:aeE->gY
 | .c0 p a1 a2=>⟨[gW 231 220 [(0,.own 0),(1,vi p.a0),(4,.fn 122 [] []),(10,vi a1),(11,vi a2)] f231 344],[aZ dE p.a3,.a_]⟩
 | .c1 p b1 b2=>⟨[gW 231 220 [(0,.own 0),(2,vi p.b0),(4,.fn 122 [] []),(14,vi b1),(15,vi b2)] f231 856],[aZ dE p.b3,.a_]⟩
 | .c2 p c5 c6=>⟨[gW 231 220 [(0,.own 0),(1,vi p.c0),(2,vi p.c1),(3,vi p.c2),(4,.fn 122 [] []),(18,vi p.c3),(19,vi p.c4),(20,vi c5),(21,vi c6),(22,vi p.c7)] f231 2040],[aZ dE p.c8,.a_]⟩
 | .c3 p d1 d2=>⟨[gW 231 220 [(0,.own 0),(10,vi p.d0),(13,vi d1)] f231 1396],[aZ dE d2,.a_]⟩
 | .c4 p e1 e2=>⟨[gW 231 220 [(0,.own 0),(14,vi p.e0),(17,vi e1)] f231 3444],[aZ dE e2,.a_]⟩
abbrev zR(A:aS)(a:Int)(b:Int):=(A.v .i64<|A.b .shr .u64 (A.v .u64<|A.b .add .i64 a b) 1)
def adj(A:aS)(c:List cq)(a:Int)(m:Int)(b:Int):LT (List cq×Unit) aeE:=.br (A.bq (A.b .sub .i64 m a) 1) (.ak<|.c0 ⟨a,c⟩ m b)<|.br (A.bq (A.b .sub .i64 b m) 1) (.ak<|.c1 ⟨m,c⟩ a m)<|.br (A.jD m<|zR A a b) (.ak<|.c2 ⟨a,m,b,zR A a b,A.b .add .i64 (zR A a b) m,A.b .sub .i64 (A.b .add .i64 (zR A a b) m) 1,c⟩ (A.b .sub .i64 (A.b .add .i64 (zR A a b) m) b)<|zR A a b)<|.ak<|.c2 ⟨a,m,b,zR A a b,A.b .add .i64 (zR A a b) m,A.b .sub .i64 (A.b .add .i64 (zR A a b) m) 1,c⟩ a m
def xe(F:Xi)(k:Nat)(A:aS):aeE->LT (List cq×Unit) aeE
 | .c0 p a1 a2=>.br (A.bo a1 a2) (.fP A (A.v .i64<|A.b .shr .u64 (A.v .u64<|A.b .add .i64 a1 a2) 1) p.a3<|.fP A p.a0 p.a3<|.br (A.bo (A.k OI ((A.n dE p.a3 (A.v .i64<|A.b .shr .u64 (A.v .u64<|A.b .add .i64 a1 a2) 1):cq),(A.n dE p.a3 p.a0:cq))) 0) (.ak<|.c0 p (A.b .add .i64 (A.v .i64<|A.b .shr .u64 (A.v .u64<|A.b .add .i64 a1 a2) 1) 1) a2)<|.ak<|.c0 p a1<|A.v .i64<|A.b .shr .u64 (A.v .u64<|A.b .add .i64 a1 a2) 1)<|.ak<|.c3 ⟨a1⟩ p.a0 p.a3
 | .c1 p b1 b2=>.br (A.bo b1 b2) (.fP A p.b0 p.b3<|.fP A (A.v .i64<|A.b .shr .u64 (A.v .u64<|A.b .add .i64 b1 b2) 1) p.b3<|.br (A.not<|A.bo (A.k OI ((A.n dE p.b3 p.b0:cq),(A.n dE p.b3 (A.v .i64<|A.b .shr .u64 (A.v .u64<|A.b .add .i64 b1 b2) 1):cq))) 0) (.ak<|.c1 p (A.b .add .i64 (A.v .i64<|A.b .shr .u64 (A.v .u64<|A.b .add .i64 b1 b2) 1) 1) b2)<|.ak<|.c1 p b1<|A.v .i64<|A.b .shr .u64 (A.v .u64<|A.b .add .i64 b1 b2) 1)<|.ak<|.c4 ⟨b1⟩ p.b0 p.b3
 | .c2 p c5 c6=>.br (A.bo c5 c6) (.fP A (A.b .sub .i64 p.c7<|A.v .i64<|A.b .shr .u64 (A.v .u64<|A.b .add .i64 c5 c6) 1) p.c8<|.fP A (A.v .i64<|A.b .shr .u64 (A.v .u64<|A.b .add .i64 c5 c6) 1) p.c8<|.br (A.not<|A.bo (A.k OI ((A.n dE p.c8 (A.b .sub .i64 p.c7<|A.v .i64<|A.b .shr .u64 (A.v .u64<|A.b .add .i64 c5 c6) 1):cq),(A.n dE p.c8 (A.v .i64<|A.b .shr .u64 (A.v .u64<|A.b .add .i64 c5 c6) 1):cq))) 0) (.ak<|.c2 p (A.b .add .i64 (A.v .i64<|A.b .shr .u64 (A.v .u64<|A.b .add .i64 c5 c6) 1) 1) c6)<|.ak<|.c2 p c5<|A.v .i64<|A.b .shr .u64 (A.v .u64<|A.b .add .i64 c5 c6) 1)<|.br (A.bo c5 p.c1) (.br (A.bo p.c1<|A.b .sub .i64 p.c4 c5) (.ao (A.k RP (p.c8,c5,p.c1,A.b .sub .i64 p.c4 c5))<|.br (A.bo p.c0 c5) (.br (A.bo c5 p.c3) (.ao (A.k (jJ k) ((A.k tC (p.c8,c5,p.c1,A.b .sub .i64 p.c4 c5)).1,p.c0,c5,p.c3))<|.br (A.bo p.c3<|A.b .sub .i64 p.c4 c5) (.br (A.bo (A.b .sub .i64 p.c4 c5) p.c2) (.ao (A.k (jJ k) ((A.k F ((A.k tC (p.c8,c5,p.c1,A.b .sub .i64 p.c4 c5)).1,p.c0,c5,p.c3)).1,p.c3,A.b .sub .i64 p.c4 c5,p.c2))<|.ret ((A.k F ((A.k F ((A.k tC (p.c8,c5,p.c1,A.b .sub .i64 p.c4 c5)).1,p.c0,c5,p.c3)).1,p.c3,A.b .sub .i64 p.c4 c5,p.c2)).1,()))<|.ret ((A.k F ((A.k tC (p.c8,c5,p.c1,A.b .sub .i64 p.c4 c5)).1,p.c0,c5,p.c3)).1,()))<|.ret ((A.k F ((A.k tC (p.c8,c5,p.c1,A.b .sub .i64 p.c4 c5)).1,p.c0,c5,p.c3)).1,()))<|.br (A.bo p.c3<|A.b .sub .i64 p.c4 c5) (.br (A.bo (A.b .sub .i64 p.c4 c5) p.c2) (.ao (A.k (jJ k) ((A.k tC (p.c8,c5,p.c1,A.b .sub .i64 p.c4 c5)).1,p.c3,A.b .sub .i64 p.c4 c5,p.c2))<|.ret ((A.k F ((A.k tC (p.c8,c5,p.c1,A.b .sub .i64 p.c4 c5)).1,p.c3,A.b .sub .i64 p.c4 c5,p.c2)).1,()))<|.ret ((A.k tC (p.c8,c5,p.c1,A.b .sub .i64 p.c4 c5)).1,()))<|.ret ((A.k tC (p.c8,c5,p.c1,A.b .sub .i64 p.c4 c5)).1,()))<|.br (A.bo p.c3<|A.b .sub .i64 p.c4 c5) (.br (A.bo (A.b .sub .i64 p.c4 c5) p.c2) (.ao (A.k (jJ k) ((A.k tC (p.c8,c5,p.c1,A.b .sub .i64 p.c4 c5)).1,p.c3,A.b .sub .i64 p.c4 c5,p.c2))<|.ret ((A.k F ((A.k tC (p.c8,c5,p.c1,A.b .sub .i64 p.c4 c5)).1,p.c3,A.b .sub .i64 p.c4 c5,p.c2)).1,()))<|.ret ((A.k tC (p.c8,c5,p.c1,A.b .sub .i64 p.c4 c5)).1,()))<|.ret ((A.k tC (p.c8,c5,p.c1,A.b .sub .i64 p.c4 c5)).1,()))<|.br (A.bo p.c0 c5) (.br (A.bo c5 p.c3) (.ao (A.k (jJ k) (p.c8,p.c0,c5,p.c3))<|.br (A.bo p.c3<|A.b .sub .i64 p.c4 c5) (.br (A.bo (A.b .sub .i64 p.c4 c5) p.c2) (.ao (A.k (jJ k) ((A.k F (p.c8,p.c0,c5,p.c3)).1,p.c3,A.b .sub .i64 p.c4 c5,p.c2))<|.ret ((A.k F ((A.k F (p.c8,p.c0,c5,p.c3)).1,p.c3,A.b .sub .i64 p.c4 c5,p.c2)).1,()))<|.ret ((A.k F (p.c8,p.c0,c5,p.c3)).1,()))<|.ret ((A.k F (p.c8,p.c0,c5,p.c3)).1,()))<|.br (A.bo p.c3<|A.b .sub .i64 p.c4 c5) (.br (A.bo (A.b .sub .i64 p.c4 c5) p.c2) (.ao (A.k (jJ k) (p.c8,p.c3,A.b .sub .i64 p.c4 c5,p.c2))<|.ret ((A.k F (p.c8,p.c3,A.b .sub .i64 p.c4 c5,p.c2)).1,()))<|.ret (p.c8,()))<|.ret (p.c8,()))<|.br (A.bo p.c3<|A.b .sub .i64 p.c4 c5) (.br (A.bo (A.b .sub .i64 p.c4 c5) p.c2) (.ao (A.k (jJ k) (p.c8,p.c3,A.b .sub .i64 p.c4 c5,p.c2))<|.ret ((A.k F (p.c8,p.c3,A.b .sub .i64 p.c4 c5,p.c2)).1,()))<|.ret (p.c8,()))<|.ret (p.c8,()))<|.br (A.bo p.c0 c5) (.br (A.bo c5 p.c3) (.ao (A.k (jJ k) (p.c8,p.c0,c5,p.c3))<|.br (A.bo p.c3<|A.b .sub .i64 p.c4 c5) (.br (A.bo (A.b .sub .i64 p.c4 c5) p.c2) (.ao (A.k (jJ k) ((A.k F (p.c8,p.c0,c5,p.c3)).1,p.c3,A.b .sub .i64 p.c4 c5,p.c2))<|.ret ((A.k F ((A.k F (p.c8,p.c0,c5,p.c3)).1,p.c3,A.b .sub .i64 p.c4 c5,p.c2)).1,()))<|.ret ((A.k F (p.c8,p.c0,c5,p.c3)).1,()))<|.ret ((A.k F (p.c8,p.c0,c5,p.c3)).1,()))<|.br (A.bo p.c3<|A.b .sub .i64 p.c4 c5) (.br (A.bo (A.b .sub .i64 p.c4 c5) p.c2) (.ao (A.k (jJ k) (p.c8,p.c3,A.b .sub .i64 p.c4 c5,p.c2))<|.ret ((A.k F (p.c8,p.c3,A.b .sub .i64 p.c4 c5,p.c2)).1,()))<|.ret (p.c8,()))<|.ret (p.c8,()))<|.br (A.bo p.c3<|A.b .sub .i64 p.c4 c5) (.br (A.bo (A.b .sub .i64 p.c4 c5) p.c2) (.ao (A.k (jJ k) (p.c8,p.c3,A.b .sub .i64 p.c4 c5,p.c2))<|.ret ((A.k F (p.c8,p.c3,A.b .sub .i64 p.c4 c5,p.c2)).1,()))<|.ret (p.c8,()))<|.ret (p.c8,())
 | .c3 p d1 d2=>.br (A.bo d1<|A.b .sub .i64 p.d0 1) (.fP A (A.b .add .i64 d1 1) d2<|.fP A d1 d2<|.fP A d1 d2<|.fP A (A.b .add .i64 d1 1) (A.set d2 d1 (A.n dE d2 (A.b .add .i64 d1 1):cq))<|.ak<|.c3 p (A.b .add .i64 d1 1)<|A.set (A.set d2 d1 (A.n dE d2 (A.b .add .i64 d1 1):cq)) (A.b .add .i64 d1 1) (A.n dE d2 d1:cq))<|.ret (d2,())
 | .c4 p e1 e2=>.br (A.jD e1 p.e0) (.fP A (A.b .sub .i64 e1 1) e2<|.fP A e1 e2<|.fP A e1 e2<|.fP A (A.b .sub .i64 e1 1) (A.set e2 e1 (A.n dE e2 (A.b .sub .i64 e1 1):cq))<|.ak<|.c4 p (A.b .sub .i64 e1 1)<|A.set (A.set e2 e1 (A.n dE e2 (A.b .sub .i64 e1 1):cq)) (A.b .sub .i64 e1 1) (A.n dE e2 e1:cq))<|.ret (e2,())
section
variable {k:Nat} {F:Xi}
def age{m:Int}(h:0<=a/\a<m/\m<b/\b<=(d.length:Int)/\d.length<=1000000):af.k RP (d,a,m,b)=true:=cr h
def amD{m:Int}:(af.k tC (d,a,m,b)).1.length=d.length:=qU
def UM{m:Int}(h:0<=a/\a<m/\m<b/\b<=(d.length:Int)/\d.length<=1000000/\b-a<=(k:Int)):af.k (jJ k) (d,a,m,b)=true:=cr h
def axQ{N:Nat}(n:N<=1000000){i:Int}(m:0<=i)(o:i<=N):∀(f:Nat) (j:Int) (d:List cq),(i-j).toNat<=f->0<=j->d.length=N->Ex (xe F k af) N (.ak<|.c3 ⟨i⟩ j d):=by
 intro f
 induction f with
 | zero=>
   intro j d g l c;refine Ex.ak ?_;rw[xe,wI (x:=i) (y:=1) (by omega)];exact Ex.lss (λh=>by omega) λ_=>Ex.ret c
 | succ f ih=>
   intro j d g l c;refine Ex.ak ?_;rw[xe,wI (x:=i) (y:=1) (by omega)];refine Ex.lss (λh=>?_) λ_=>Ex.ret c;rw[xn (x:=j) (y:=1)<|by omega];exact Ex.ao (bM<|by omega)<|Ex.ao (bM<|by omega)<|Ex.ao (bM<|by omega)<|Ex.ao (Mn<|by omega)<|ih (j+1) _ (by omega) (by omega)<|gK.trans<|gK.trans c
theorem apU{N:Nat}(m:N<=1000000){i:Int}(n:0<=i):∀(f:Nat) (j:Int) (d:List cq),(j-i).toNat<=f->j<N->d.length=N->Ex (xe F k af) N (.ak<|.c4 ⟨i⟩ j d):=by
 intro f
 induction f with
 | zero=>intro j d g l c;exact Ex.ak (Ex.gtr (λh=>by grind) λ_=>Ex.ret c)
 | succ f ih=>
   intro j d g l c;refine Ex.ak (Ex.gtr (λh=>?_) λ_=>Ex.ret c);have h:i<j:=h;rw[wI (x:=j) (y:=1)<|by omega];exact Ex.ao (bM<|by omega)<|Ex.ao (bM<|by omega)<|Ex.ao (bM<|by omega)<|Ex.ao (Mn<|by omega)<|ih (j-1) _ (by omega) (by omega)<|gK.trans<|gK.trans c
def ar8{p:X3}{N:Nat}(q:N<=1000000)(r:p.a3.length=N)(o:0<=p.a0/\p.a0<N):∀(f:Nat) (i j:Int),(j-i).toNat<=f->0<=i->i<=j->j<=N->Ex (xe F k af) N (.ak<|.c0 p i j):=by
 intro f;have l:∀i:Int,0<=i->i<=N->Ex (xe F k af) N (.ak (.c3 ⟨i⟩ p.a0 p.a3)):=λi h g=>axQ q h g _ p.a0 p.a3 (ai _) o.1 r
 induction f with
 | zero=>intro i j u g m n;exact Ex.ak (Ex.lss (λh=>by omega) λ_=>l i g<|by omega)
 | succ f ih=>
   intro i j u g m n;refine Ex.ak (Ex.lss (λh=>?_) λ_=>l i g<|by omega);have⟨c,e,c1,c2⟩:=Pf g (show 0<=j by omega) (by omega);rw[e,xn (x:=c) (y:=1)<|by omega];exact Ex.ao (bM<|by omega)<|Ex.ao (bM<|by omega)<|Ex.br (λ_=>ih (c+1) j (by omega) (by omega) (by omega) n) λ_=>ih i c (by omega) g (by omega) (by omega)
def ar_{p:X4}{N:Nat}(q:N<=1000000)(r:p.b3.length=N)(o:0<=p.b0/\p.b0<N):∀(f:Nat) (i j:Int),(j-i).toNat<=f->0<=i->i<=j->j<=N->Ex (xe F k af) N (.ak<|.c1 p i j):=by
 intro f;have l:∀i:Int,0<=i->Ex (xe F k af) N (.ak (.c4 ⟨i⟩ p.b0 p.b3)):=λi g=>apU q g _ p.b0 p.b3 (ai _) o.2 r
 induction f with
 | zero=>intro i j u g m n;exact Ex.ak (Ex.lss (λh=>by omega) λ_=>l i g)
 | succ f ih=>
   intro i j u g m n;refine Ex.ak (Ex.lss (λh=>?_) λ_=>l i g);have⟨c,e,c1,c2⟩:=Pf g (show 0<=j by omega) (by omega);rw[e,xn (x:=c) (y:=1)<|by omega];exact Ex.ao (bM<|by omega)<|Ex.ao (bM<|by omega)<|Ex.br (λ_=>ih (c+1) j (by omega) (by omega) (by omega) n) λ_=>ih i c (by omega) g (by omega) (by omega)
theorem aiq(v:∀x,(F x).1.length=x.1.length){p:X5}{N:Nat}(S:N<=1000000)(g:p.c8.length=N){lo:Int}(E:0<=p.c0/\p.c0<p.c1/\p.c1<p.c2/\p.c2<=N/\p.c2-p.c0<=(k:Int)+1)
  (H:2*p.c3<=p.c0+p.c2/\p.c0+p.c2<=2*p.c3+1) (I:p.c4=p.c3+p.c1) (J:p.c7=p.c4-1) (K:p.c0<=lo/\p.c4-lo<=p.c2) :
  ∀(f:Nat) (i j:Int),(j-i).toNat<=f->lo<=i->i<=j->j<=p.c1->j<=p.c3\/p.c1<=p.c3->Ex (xe F k af) N (.ak<|.c2 p i j):=by
 have r:∀{d:List cq} {a m b:Int},(af.k F (d,a,m,b)).1.length=d.length:=v _;have D:∀i:Int,lo<=i->i<=p.c1->i<=p.c3\/p.c1<=p.c3->Ex (xe F k af) N (.ak<|.c2 p i i):=λi O P Q=>by
  refine Ex.ak ?_;rw[xe,wI (x:=p.c4) (y:=i)<|by omega];refine Ex.lss (λh=>by omega) λ_=>?_;have u:∀{d:List cq},d.length=N->p.c3<p.c4-i->p.c4-i<p.c2->Ex (xe F k af) N (.ao (af.k (jJ k) (d,p.c3,p.c4-i,p.c2))<|.ret ((af.k F (d,p.c3,p.c4-i,p.c2)).1,())):=λg l n=>Ex.ao (UM<|by omega)<|Ex.ret<|r.trans g
  have o:∀{d:List cq},d.length=N->Ex (xe F k af) N (.br (af.bo p.c3<|p.c4-i) (.br (af.bo (p.c4-i) p.c2) (.ao (af.k (jJ k) (d,p.c3,p.c4-i,p.c2))<|.ret ((af.k F (d,p.c3,p.c4-i,p.c2)).1,()))<|.ret (d,()))<|.ret (d,())):=λg=>
   Ex.lss (λl=>Ex.lss (λn=>u g l n) λ_=>Ex.ret g) λ_=>Ex.ret g
  have q:∀{d:List cq},d.length=N->Ex (xe F k af) N (.br (af.bo p.c0 i) (.br (af.bo i p.c3) (.ao (af.k (jJ k) (d,p.c0,i,p.c3))<|.br (af.bo p.c3<|p.c4-i) (.br (af.bo (p.c4-i) p.c2) (.ao (af.k (jJ k) ((af.k F (d,p.c0,i,p.c3)).1,p.c3,p.c4-i,p.c2))<|.ret ((af.k F ((af.k F (d,p.c0,i,p.c3)).1,p.c3,p.c4-i,p.c2)).1,()))<|.ret ((af.k F (d,p.c0,i,p.c3)).1,()))<|.ret ((af.k F (d,p.c0,i,p.c3)).1,()))
    (.br (af.bo p.c3<|p.c4-i) (.br (af.bo (p.c4-i) p.c2) (.ao (af.k (jJ k) (d,p.c3,p.c4-i,p.c2))<|.ret ((af.k F (d,p.c3,p.c4-i,p.c2)).1,()))<|.ret (d,()))<|.ret (d,())))
    (.br (af.bo p.c3<|p.c4-i) (.br (af.bo (p.c4-i) p.c2) (.ao (af.k (jJ k) (d,p.c3,p.c4-i,p.c2))<|.ret ((af.k F (d,p.c3,p.c4-i,p.c2)).1,()))<|.ret (d,()))<|.ret (d,()))):=λg=>
   Ex.lss (λl=>Ex.lss (λn=>Ex.ao (UM<|by omega)<|o<|r.trans g) λ_=>o g) λ_=>o g
  refine Ex.lss (λl=>Ex.lss (λn=>Ex.ao (age<|by omega)<|q<|amD.trans g) λ_=>q g) λ_=>q g
 intro f
 induction f with
 | zero=>grind
 | succ f ih=>
   intro i j W A B C z;by_cases V:i=j
   .simp_all
   refine Ex.ak (Ex.lss (λh=>?_) λh=>by omega);have⟨c,e,c1,c2⟩:=Pf (i:=i) (j:=j) (by omega) (by omega) (by omega);rw[e,xn (x:=c) (y:=1)<|by omega,wI (x:=p.c7) (y:=c)<|by omega];exact Ex.ao (bM<|by omega)<|Ex.ao (bM<|by omega)<|Ex.br (λ_=>ih (c+1) j (by omega) (by omega) (by omega) C z) λ_=>ih i c (by omega) A (by omega) (by omega) (by omega)
theorem an5(l:∀x,(F x).1.length=x.1.length){m:Int}(h:0<=a/\a<m/\m<b/\b<=(d.length:Int)/\d.length<=1000000/\b-a<=((k+1:Nat):Int)):Ex (xe F k af) d.length<|adj af d a m b:=by
 have⟨n,q,r,o,f,u⟩:=h;unfold adj zR;have⟨c,e,c1,c2⟩:=Pf (i:=a) (j:=b) (by omega) (by omega) (by omega);rw[e,wI (x:=m) (y:=a)<|by omega,wI (x:=b) (y:=m)<|by omega,xn (x:=c) (y:=m)<|by omega,wI (x:=c+m) (y:=1)<|by omega,wI (x:=c+m) (y:=b)<|by omega];refine Ex.eql (λ_=>ar8 (p:=⟨a,d⟩) f rfl (by grind) _ m b (ai _) (by omega) (by omega) o) λ_=>Ex.eql (λ_=>ar_ (p:=⟨m,d⟩) f rfl (by grind) _ a m (ai _) n (by omega)<|by omega) λ_=>Ex.gtr (λg=>?_) λg=>?_
 .exact aiq l (p:=⟨a,m,b,c,c+m,c+m-1,d⟩) (lo:=c+m-b) f rfl (by simp_all) (by simp_all) rfl rfl (by grind) _ (c+m-b) c (ai _) (aj _) (by omega) (by grind) (by simp_all)
 .exact aiq l (p:=⟨a,m,b,c,c+m,c+m-1,d⟩) (lo:=a) f rfl (by simp_all) (by simp_all) rfl rfl (by grind) _ a m (ai _) (aj _) (by omega) (by simp_all) (by simp_all)
end
def amm{k:Nat}{F:Xi}(f:∀x,(F x).1.length=x.1.length)(i:gg.bI prog 231<|aaB k F):gg.bI prog 231 (aaB (k+1) λ(d,a,m,b)=>(w8 (xe F k af) (adj af d a m b) d,())):=gv ax dJ sl 76 [⟨231,3,[[0,1,4,10,11]]⟩,⟨231,9,[[0,10,13]]⟩,⟨231,15,[[0,2,4,14,15]]⟩,⟨231,21,[[0,14,17]]⟩,⟨231,33,[[0,1,2,3,4,18,19,20,21,22]]⟩] [] (λA (c,(a,m,b))=>adj A c a m b) (xe F k) ak2 ⟨fc func231 fz,(sc aiO sz),oz,(ic i (ic ap_ iz)),mz,pz⟩ (λA y=>match y with |.c0 p a1 a2=>⟨47,sl,by kernel_rfl⟩|.c1 p b1 b2=>⟨48,sl,by kernel_rfl⟩|.c2 p c5 c6=>⟨84,sl,by kernel_rfl⟩|.c3 p d1 d2=>⟨44,sl,by kernel_rfl⟩|.c4 p e1 e2=>⟨43,sl,by kernel_rfl⟩) λ((c,(a,m,b)):List cq×(Int×Int×Int)) g j h=>vI<|an5 f<|of_decide_eq_true g
def KD:Nat->Xi
 | 0=>λx=>(x.1,())
 | k+1=>λ(d,a,m,b)=>(w8 (xe (KD k) k af) (adj af d a m b) d,())
theorem aaO:∀(k:Nat) (x:List cq×Int×Int×Int),(KD k x).1.length=x.1.length
 | 0,_=>rfl
 | _+1,_=>qU
def abE{x:List cq×Int×Int×Int}:jJ 0 x=false:=by
 exact gw (by omega)
theorem ah9:∀k,gg.bI prog 231<|aaB k<|KD k
 | 0=>⟨λw I x y v f B _ _ _ _ c=>Bool.noConfusion<|(abE (x:=(x,y))).symm.trans c,f231,func231,by kernel_rfl,by kernel_rfl⟩
 | k+1=>amm (aaO k)<|ah9 k
structure ajI where(a0:Int)
structure ajJ where(b0 b1:Int)(b2:List cq)
structure ajK where(c0 c1:Int)
inductive aeB where|c0(p:ajI)(a2 a3:Int)(a4:List cq)|c1(p:ajJ)|c2(p:ajK)(c2 c3:Int)(c4:List cq)
noncomputable def akZ:aeB->gY
 | .c0 p a2 a3 a4=>⟨[gW 179 63 [(0,.own 0),(1,vi p.a0),(2,.fn 122 [] []),(6,vi 20),(7,vi a2),(8,vi a3)] f179 56],[aZ dE a4,.a_]⟩
 | .c1 p=>⟨[gW 179 63 [(0,.own 0),(1,vi p.b0),(2,.fn 122 [] []),(6,vi p.b1)] f179 124],[aZ dE p.b2,.a_]⟩
 | .c2 p c2 c3 c4=>⟨[gW 179 63 [(0,.own 0),(1,vi p.c0),(2,.fn 122 [] []),(6,vi p.c1),(7,vi c2),(8,vi c3)] f179 7976],[aZ dE c4,.a_]⟩
def aoV(A:aS)(c:List cq)(n:Int):LT (List cq×Unit) aeB:=.ak<|.c0 ⟨n⟩ 0 20 c
def Se(A:aS):aeB->LT (List cq×Unit) aeB
 | .c0 p a2 a3 a4=>.br (A.bE a3 p.a0) (.ao (A.k MI (a4,a2,a3))<|.ak<|.c0 p a3 (A.b .add .i64 a3 20) (A.k T_ (a4,a2,a3)).1)<|.ao (A.k MI (a4,a2,p.a0))<|.ak<|.c1 ⟨p.a0,20,(A.k T_ (a4,a2,p.a0)).1⟩
 | .c1 p=>.br (A.bo p.b1 p.b0) (.ak<|.c2 ⟨p.b0,p.b1⟩ 0 (A.b .mul .i64 2 p.b1) p.b2)<|.ret (p.b2,())
 | .c2 p c2 c3 c4=>.br (A.bE c3 p.c0) (.ao (A.k (jJ 1000000) (c4,c2,A.b .add .i64 c2 p.c1,c3))<|.ak<|.c2 p c3 (A.b .add .i64 c3<|A.b .mul .i64 2 p.c1) (A.k (KD 1000000) (c4,c2,A.b .add .i64 c2 p.c1,c3)).1)<|.br (A.bo (A.b .add .i64 c2 p.c1) p.c0) (.ao (A.k (jJ 1000000) (c4,c2,A.b .add .i64 c2 p.c1,p.c0))<|.ak<|.c1 ⟨p.c0,A.b .mul .i64 p.c1 2,(A.k (KD 1000000) (c4,c2,A.b .add .i64 c2 p.c1,p.c0)).1⟩)<|.ak<|.c1 ⟨p.c0,A.b .mul .i64 p.c1 2,c4⟩
theorem anZ(q:N<=1000000){bs:Int}(p:1<=bs/\bs<=1000000)(g:∀d:List cq,d.length=N->Ex (Se af) N (.ak<|.c1 ⟨(N:Int),af.b .mul .i64 bs 2,d⟩)):∀(f:Nat) (a:Int) (d:List cq),(N-a).toNat<=f->0<=a->a<=N->d.length=N->Ex (Se af) N (.ak<|.c2 ⟨(N:Int),bs⟩ a (a+2*bs) d):=by
 have e:af.b .mul .i64 2 bs=2*bs:=by rw[jq,lZ (by omega)<|by omega]
 have i:∀{d:List cq} {a m b:Int},(af.k (KD 1000000) (d,a,m,b)).1.length=d.length:=aaO _ _;have j:∀{d:List cq} {a m b:Int},(0<=a/\a<m/\m<b/\b<=(d.length:Int)/\d.length<=1000000/\b-a<=((1000000:Nat):Int))->af.k (jJ 1000000) (d,a,m,b)=true:=λh=>cr h;intro f
 induction f with
 | zero=>
   intro a d n l o c;refine Ex.ak (Ex.leq (λh=>by grind) λ_=>?_);rw[show af.b .add .i64 a bs=a+bs from xn<|by omega];exact Ex.lss (λh=>by grind) λ_=>g d c
 | succ f ih=>
   intro a d n l o c;refine Ex.ak (Ex.leq (λh=>?_) λ_=>?_)
   .have h:a+2*bs<=N:=h;rw[show af.b .add .i64 a bs=a+bs from xn<|by omega,show af.b .mul .i64 2 bs=2*bs from e,xn (x:=a+2*bs) (y:=2*bs)<|by omega];exact Ex.ao (j<|by omega)<|ih (a+2*bs) _ (by omega) (by omega) h<|i.trans c
   .rw[show af.b .add .i64 a bs=a+bs from xn<|by omega];exact Ex.lss (λh=>by have h:a+bs<N:=h;exact Ex.ao (j<|by grind)<|g _<|i.trans c) λ_=>g d c
theorem acX(i:N<=1000000):∀(f:Nat) (bs:Int) (d:List cq),(N-bs).toNat<=f->1<=bs->d.length=N->Ex (Se af) N (.ak<|.c1 ⟨(N:Int),bs,d⟩):=by
 intro f
 induction f with
 | zero=>intro bs d j g c;exact Ex.ak (Ex.lss (λh=>by grind) λ_=>Ex.ret c)
 | succ f ih=>
   intro bs d j g c;refine Ex.ak (Ex.lss (λh=>?_) λ_=>Ex.ret c);have h:bs<N:=h;rw[show af.b .mul .i64 2 bs=0+2*bs by rw[jq,lZ (by omega)<|by omega];omega];refine anZ i ⟨g,by omega⟩ (λe l=>?_) _ 0 d (ai _) (aj 0) (by omega) c;rw[show af.b .mul .i64 bs 2=bs*2 by rw[jq,lZ (by omega)<|by omega]]
   grind
theorem anY(j:N<=1000000):∀(f:Nat) (a:Int) (d:List cq),(N-a).toNat<=f->0<=a->a<=N->d.length=N->Ex (Se af) N (.ak<|.c0 ⟨(N:Int)⟩ a (a+20) d):=by
 have g:∀{d:List cq} {a b:Int},(af.k T_ (d,a,b)).1.length=d.length:=qU;have i:∀{d:List cq} {a b:Int},(0<=a/\a<=b/\b<=(d.length:Int)/\d.length<=1000000)->af.k MI (d,a,b)=true:=λh=>cr h;intro f
 induction f with
 | zero=>intro a d m l n c;exact Ex.ak (Ex.leq (λh=>by grind) λ_=>Ex.ao (i<|by simp_all)<|acX j _ 20 _ (ai _) (by omega)<|g.trans c)
 | succ f ih=>
   intro a d m l n c;refine Ex.ak (Ex.leq (λh=>?_) λ_=>Ex.ao (i<|by simp_all)<|acX j _ 20 _ (ai _) (by omega)<|g.trans c);have h:a+20<=N:=h;rw[xn (x:=a+20) (y:=20)<|by omega];exact Ex.ao (i<|by omega)<|ih (a+20) _ (by omega) (by omega) h<|g.trans c
def anV{n:Int}(h:n=(d.length:Int)/\d.length<=1000000):Ex (Se af) d.length<|aoV af d n:=by
 obtain⟨rfl,h⟩:=h;exact anY h _ 0 d (ai _) (aj 0) (by omega) rfl
def ZV:List cq×Int->List cq×Unit:=λ(d,n)=>(w8 (Se af) (aoV af d n) d,())
def abD:List cq×Int->Bool:=λ(d,n)=>decide<|n=(d.length:Int)/\d.length<=1000000
def aqi:gg:=⟨dE,[yI],[122],[],abD,ZV,false⟩
def ap8:gg.bI prog 179 aqi:=gv ax dJ sl 19 [⟨179,2,[[0,1,2,6,7,8]]⟩,⟨179,7,[[0,1,2,6]]⟩,⟨179,9,[[0,1,2,6,7,8]]⟩] [] (λA (c,n)=>aoV A c n) Se akZ ⟨fc func179 fz,sz,oz,(ic ap9 (ic (ah9 1000000) iz)),mz,pz⟩ (λA y=>match y with |.c0 p a2 g i=>⟨36,sl,by kernel_rfl⟩|.c1 p=>⟨26,sl,by kernel_rfl⟩|.c2 p c2 c3 c4=>⟨44,sl,by kernel_rfl⟩) λ((c,n):List cq×Int) f j h=>vI<|anV<|of_decide_eq_true f
def aoT(A:aS)(c:List cq):LT (List cq×Unit) Empty:=.ao (A.k abD (c,A.l c))<|.ret ((A.k ZV (c,A.l c)).1,())
def anU(h:d.length<=1000000):Ex Empty.elim d.length<|aoT af d:=
 Ex.ao (cr ⟨rfl,h⟩) (Ex.ret<|show(af.k ZV (d,af.l d)).1.length=d.length from qU)
def ZT:List cq×Unit->List cq×Unit:=λ(d,_)=>(w8 Empty.elim (aoT af d) d,())
def MG:List cq×Unit->Bool:=λ(d,_)=>decide<|d.length<=1000000
def aqg:gg:=⟨dE,[],[122],[],MG,ZT,false⟩
def ap6:gg.bI prog 121 aqg:=gv ax dJ sl 13 [] [] (λA (c,())=>aoT A c) (λ_=>Empty.elim) Empty.elim ⟨fc func121 fz,sz,oz,(ic ap8 iz),mz,pz⟩ (λ_ y=>y.elim) λ((c,()):List cq×Unit) f g h=>vI<|anU<|of_decide_eq_true f
def WU(l:List cq):List cq:=(ZT (l,())).1
def Sr(A:aS)(m:aA):LT (Int×Int) Empty:=.br (A.cm (A.k jN m) 0) (.ret (0,A.k jN m))<|.ret (A.b .add .i64 (A.b .mul .i64 (A.b .mul .i64 14 m.1) m.2.2.2.2.1) 8,0)
def oC:aA->(Int×Int):=λm=>(Sr af m).val<|Ty.aR [yI,yI]
def avN:aK:=.all [bD] [yI,yI] oC
def atl:Sd 116 avN:=fa<|aQ ax dJ sl 38 [] (λA m=>Sr A m)<|kz (fc func116 fz)<|sc EB sz
def abJ(h:¬jN m=0):(oC m).2=jN m:=by
 show(LT.val (Ty.aR [yI,yI])<|Sr af m).2=_;simp[Sr,b_,bZ,bne_iff_ne.2 h];rfl
def agh(h:(oC m).2=0):jN m=0:=dF.1 λk=>k<|(abJ k).symm.trans h
def ahF(l:List Bool)(N:Nat):List Bool:=af.spl (List.replicate N true) 0<|af.s l 0<|af.mn (af.l l)<|af.l<|List.replicate N true
def opC(o:cq):cq:=(o.1,o.2.1,o.2.2.1,o.2.2.2.1,o.2.2.2.2.1,nY o.2.2.2.2.2)
def arJ(m:aA)(l:List cq):List cq:=((l.filter λo=>uy (m,o)).map opC).take 256
def dL(m:aA)(s:gH):gH:=
 (af.mn (af.mx s.1 1) 16,ahF s.2.1 m.1.toNat,rowP s.2.2.1 m.1.toNat 0 (oC m).1 0,rowP s.2.2.2.1 m.1.toNat 40 60 50,rowP s.2.2.2.2.1 m.1.toNat (af.u .neg .i64<|af.b .quo .i64 m.2.2.2.1 2) (af.b .quo .i64 m.2.2.2.1 2) 0,
   rowP s.2.2.2.2.2.1 (min s.2.2.2.2.2.1.length 1024) (af.u .neg .i64 m.2.2.2.2.1) m.2.2.2.2.1 0,WU<|arJ m s.2.2.2.2.2.2.1,(nC m s.2.2.2.2.2.2.2).take 256)
def ary:gH:=(0,[],[],[],[],[],[],[])
def Gh(m:aA)(s:gH):gH×Int:=bif decide ((oC m).2=0) then(dL m s,0) else(ary,(oC m).2)
structure XS where(a0:List cq)(a1:Int)(a3:aA)(a5:Int)(a6 a7 a8 a9:List Int)(jd:List bK)(lq:List Bool)
structure XT where(b0:List cq)(b1:Int)(b3:aA)(b5:Int)(b6 b7 b8 b9:List Int)(b10:List bK)(b11:List Bool)
inductive Vr where|c0(p:XS)(a2:Int)|c1(p:XT)(b2:Int)(b12:List cq)
noncomputable def akQ:Vr->gY
 | .c0 p a2=>⟨[gW 75 112 [(2,pZ 0),(4,pZ 1),(9,pZ 2),(82,.sl dE p.a0),(83,vi p.a1),(84,vi a2)] f75 4084],[dZ bD p.a3,gZ [vi 0,.fG true,.fG true,.fG true,.fG true,.fG true,.fG true,.fG true],gZ [vi p.a5,.own 3,.sl yI p.a6,.sl yI p.a7,.sl yI p.a8,.sl yI p.a9,.fG true,.sl bQ p.jd],aZ .bool p.lq,.a_]⟩
 | .c1 p b2 b12=>⟨[gW 75 112 [(2,pZ 0),(4,pZ 1),(9,pZ 2),(82,.sl dE p.b0),(83,vi p.b1),(84,vi b2)] f75 4084],[dZ bD p.b3,gZ [vi 0,.fG true,.fG true,.fG true,.fG true,.fG true,.fG true,.fG true],gZ [vi p.b5,.own 3,.sl yI p.b6,.sl yI p.b7,.sl yI p.b8,.sl yI p.b9,.own 4,.sl bQ p.b10],aZ .bool p.b11,aZ dE b12,.a_]⟩
abbrev ade(A:aS)(m:aA)(s:gH):LT (gH×Int) Vr:=(.ao (A.and (A.bE 0 0)<|A.and (A.bE 0<|A.mn (A.l<|A.k wS (m,s.2.2.2.2.2.2.2)) 256)<|A.bE (A.mn (A.l<|A.k wS (m,s.2.2.2.2.2.2.2)) 256)<|A.l<|A.k wS (m,s.2.2.2.2.2.2.2))<|.ak<|.c0 ⟨s.2.2.2.2.2.2.1,A.l s.2.2.2.2.2.2.1,m,A.mn (A.mx s.1 1) 16,A.k OH (s.2.2.1,m.1,0,(A.k oC m).1,0),A.k OH (s.2.2.2.1,m.1,40,60,50),A.k OH (s.2.2.2.2.1,m.1,A.u .neg .i64<|A.b .quo .i64 m.2.2.2.1 2,A.b .quo .i64 m.2.2.2.1 2,0),A.k OH (s.2.2.2.2.2.1,A.mn (A.l s.2.2.2.2.2.1) 1024,A.u .neg .i64 m.2.2.2.2.1,m.2.2.2.2.1,0),A.s (A.k wS (m,s.2.2.2.2.2.2.2)) 0<|A.mn (A.l<|A.k wS (m,s.2.2.2.2.2.2.2)) 256,A.spl (A.k ZS ([true],m.1)).2.1 0<|A.s s.2.1 0<|A.mn (A.l s.2.1)<|A.l (A.k ZS ([true],m.1)).2.1⟩ 0)
abbrev Ve(A:aS)(m:aA)(s:gH):=(A.k tP (s.2.2.2.2.1,m.1,A.u .neg .i64<|A.b .quo .i64 m.2.2.2.1 2,A.b .quo .i64 m.2.2.2.1 2,0))
abbrev Vf(A:aS)(m:aA)(s:gH):=(A.k tP (s.2.2.2.2.2.1,A.mn (A.l s.2.2.2.2.2.1) 1024,A.u .neg .i64 m.2.2.2.2.1,m.2.2.2.2.1,0))
abbrev adf(A:aS)(m:aA)(s:gH):LT (gH×Int) Vr:=(.ao (A.k Ic ([true],m.1))<|.ao (A.k tP (s.2.2.1,m.1,0,(A.k oC m).1,0))<|.ao (A.k tP (s.2.2.2.1,m.1,40,60,50))<|.ao (Ve A m s)<|.ao (Vf A m s)<|.ao (A.k Ie (m,s.2.2.2.2.2.2.2))<|ade A m s)
def aoP(A:aS)(m:aA)(s:gH):LT (gH×Int) Vr:=.br (A.cm (A.k oC m).2 0) (.ret ((0,([]:List Bool),([]:List Int),([]:List Int),([]:List Int),([]:List Int),([]:List cq),([]:List bK)),(A.k oC m).2))<|.and (.and (.ao (A.k Ic ([true],m.1))<|.ao (A.k tP (s.2.2.1,m.1,0,(A.k oC m).1,0))<|.ao (A.k tP (s.2.2.2.1,m.1,40,60,50))<|.ao (Ve A m s)<|.ao (Vf A m s)<|.ao (A.k Ie (m,s.2.2.2.2.2.2.2))<|.ao (A.k Ie (m,s.2.2.2.2.2.2.2))<|.ao (Vf A m s)<|.ao (Ve A m s)<|.ao (A.k tP (s.2.2.2.1,m.1,40,60,50))<|.ao (A.k tP (s.2.2.1,m.1,0,(A.k oC m).1,0))<|ade A m s)<|adf A m s)<|adf A m s
def ab9(A:aS):Vr->LT (gH×Int) Vr
 | .c0 p a2=>.br (A.bo a2 p.a1) (.fP A a2 p.a0<|.br (A.k uy (p.a3,(A.n dE p.a0 a2:cq))) (.ao (A.bE (A.l (([((A.n dE p.a0 a2:cq).1,(A.n dE p.a0 a2:cq).2.1,(A.n dE p.a0 a2:cq).2.2.1,(A.n dE p.a0 a2:cq).2.2.2.1,(A.n dE p.a0 a2:cq).2.2.2.2.1,A.k nY (A.n dE p.a0 a2:cq).2.2.2.2.2)]:List cq):List cq)) 2199023255552)<|.ak<|.c1 ⟨p.a0,p.a1,p.a3,p.a5,p.a6,p.a7,p.a8,p.a9,p.jd,p.lq⟩ (A.b .add .i64 a2 1) ([((A.n dE p.a0 a2:cq).1,(A.n dE p.a0 a2:cq).2.1,(A.n dE p.a0 a2:cq).2.2.1,(A.n dE p.a0 a2:cq).2.2.2.1,(A.n dE p.a0 a2:cq).2.2.2.2.1,A.k nY (A.n dE p.a0 a2:cq).2.2.2.2.2)]:List cq))<|.ak<|.c0 p<|A.b .add .i64 a2 1)<|.ao (A.k MG (([]:List cq),()))<|.ret ((p.a5,p.lq,p.a6,p.a7,p.a8,p.a9,([]:List cq),p.jd),0)
 | .c1 p b2 b12=>.br (A.bo b2 p.b1) (.fP A b2 p.b0<|.br (A.k uy (p.b3,(A.n dE p.b0 b2:cq))) (.br (A.bo (A.l b12) 256) (.ao (A.bE (A.l<|A.p b12 ([((A.n dE p.b0 b2:cq).1,(A.n dE p.b0 b2:cq).2.1,(A.n dE p.b0 b2:cq).2.2.1,(A.n dE p.b0 b2:cq).2.2.2.1,(A.n dE p.b0 b2:cq).2.2.2.2.1,A.k nY (A.n dE p.b0 b2:cq).2.2.2.2.2)]:List cq)) 2199023255552)<|.ak<|.c1 p (A.b .add .i64 b2 1)<|A.p b12 ([((A.n dE p.b0 b2:cq).1,(A.n dE p.b0 b2:cq).2.1,(A.n dE p.b0 b2:cq).2.2.1,(A.n dE p.b0 b2:cq).2.2.2.1,(A.n dE p.b0 b2:cq).2.2.2.2.1,A.k nY (A.n dE p.b0 b2:cq).2.2.2.2.2)]:List cq))<|.ak<|.c1 p (A.b .add .i64 b2 1) b12)<|.ak<|.c1 p (A.b .add .i64 b2 1) b12)<|.ao (A.k MG (b12,()))<|.ret ((p.b5,p.b11,p.b6,p.b7,p.b8,p.b9,(A.k ZT (b12,())).1,p.b10),0)
def arz{L:List cq}{i:Nat}(h:i<L.length):(af.n dE L (i:Int):cq)=L[i]:=eO h _
def agd(h:d.length<=1000000):af.k MG (d,())=true:=cr h
theorem abo{p:XT}{L:List cq}(g:p.b0=L)(h:p.b1=(L.length:Int))(q:p.b3=m)(v:L.length<=1000000):∀(j i:Nat) (c:List cq),L.length-i=j->i<=L.length->c.length<=256->
  aV (ab9 af) (.ak<|.c1 p i c) ((p.b5,p.b11,p.b6,p.b7,p.b8,p.b9,WU<|(c++((L.drop i).filter λo=>uy (m,o)).map opC).take 256,p.b10),0):=by
 intro j
 induction j with
 | zero=>
   intro i c u r l;have:i=L.length:=by omega
   subst this;refine aG.2<|(ap ?_).2<|au.2 ⟨agd<|by omega,aT ?_<|.ret _⟩
   .rw[h,bH];simp
   .rw[cY,mB,mK,aL,dI l];rfl
 | succ j ih=>
   intro i c u r l;have f:i<L.length:=by omega
   refine aG.2<|(ar ?_).2<|au.2 ⟨by rw[g];exact cJ f,?_⟩
   .rw[h,bH];simp_all
   rw[g,q,arz f,jQ<|by omega,xx f];cases hf:uy (m,L[i])
   .refine(ap<|show af.k uy (m,L[i])=false from hf).2 ?_
    grind
   .refine(ar<|show af.k uy (m,L[i])=true from hf).2 ?_;rw[ia (p:=λo=>uy (m,o)) hf,eB];by_cases z:c.length<256
    .refine(ar (by rw[dW,bi];grind)).2 (au.2 ⟨?_,?_⟩)
     .rw[dW,mC,t_,bU,aB];exact cr (by omega)
     .have n:=ih (i+1) (c ++ [opC L[i]]) (by omega) (by omega) (by rw[t_,bU];omega);rw[fe,lf] at n;exact n
    .refine(ap (by rw[dW,bi];grind)).2 ?_
     grind
theorem V_{p:XS}{L:List cq}(g:p.a0=L)(f:p.a1=(L.length:Int))(h:p.a3=m)(l:L.length<=1000000):∀(j i:Nat),L.length-i=j->i<=L.length->
  aV (ab9 af) (.ak<|.c0 p i) ((p.a5,p.lq,p.a6,p.a7,p.a8,p.a9,WU<|(((L.drop i).filter λo=>uy (m,o)).map opC).take 256,p.jd),0):=by
 intro j
 induction j with
 | zero=>
   intro i q n;have:i=L.length:=by omega
   subst this;refine aG.2<|(ap ?_).2<|au.2 ⟨rfl,aT ?_<|.ret _⟩
   .rw[f,bH];simp
   .rw[cY,mB,mK,List.take_nil,show WU ([]:List cq)=[] from rfl]
 | succ j ih=>
   intro i q n;have c:i<L.length:=by omega
   refine aG.2<|(ar ?_).2<|au.2 ⟨by rw[g];exact cJ c,?_⟩
   .rw[f,bH];simp_all
   rw[g,h,arz c,jQ<|by omega,xx c];cases hf:uy (m,L[i])
   .refine(ap<|show af.k uy (m,L[i])=false from hf).2 ?_
    grind
   .refine(ar<|show af.k uy (m,L[i])=true from hf).2 (au.2 ⟨rfl,?_⟩);rw[ia (p:=λo=>uy (m,o)) hf,eB];exact abo (p:=⟨L,p.a1,m,p.a5,p.a6,p.a7,p.a8,p.a9,p.jd,p.lq⟩) (m:=m) (L:=L) rfl f rfl l _ (i+1) [opC L[i]] rfl (by omega) (by simp)
def agc(h:N<=1024):af.k Ic ([true],(N:Int))=true:=cr ⟨rfl,by omega,by omega⟩
theorem alA{s:gH}(o:s.2.2.2.2.2.2.2.length<=1000000)(r:s.2.2.2.2.2.2.1.length<=1000000)(D:s.2.2.2.2.2.1.length<=140737488355328):aV (ab9 af) (aoP af m s)<|Gh m s:=by
 unfold aoP adf Vf Ve ade Gh;by_cases h:(oC m).2=0
 .rw[cr h];refine(ap (by show af.cm (oC m).2 0=false;rw[dC];simp_all)).2 ?_;have C:=(iW<|vY.1<|Bn.symm.trans<|agh h).1;have⟨N,q⟩:=bf (show 0<=m.1 by omega);have B:N<=8:=by omega
  have w:∀(l:List Int) (a b c:Int),af.k tP (l,m.1,a,b,c)=true:=λl a b c=>cr (by omega);have g:af.mn (af.l s.f) 1024=((min s.f.length 1024:Nat):Int):=v7 (i:=s.f.length) (j:=1024);have u:∀(l:List Int) (a b c:Int),af.k tP (l,af.mn (af.l s.f) 1024,a,b,c)=true:=λl a b c=>cr (by omega);have v:af.k Ie (m,s.G)=true:=cr o;have z:af.and (af.bE 0 0) (af.and (af.bE 0<|af.mn (af.l<|af.k wS (m,s.G)) 256)<|af.bE (af.mn (af.l<|af.k wS (m,s.G)) 256)<|af.l<|af.k wS (m,s.G))=true:=by
   have e:af.mn (af.l<|af.k wS (m,s.G)) 256=((min (af.k wS (m,s.G)).length 256:Nat):Int):=v7 (i:=(af.k wS (m,s.G)).length) (j:=256);rw[e,dW,bu,bu,aB,aB,aB];grind
  have A:af.k Ic ([true],m.1)=true:=by rw[q];exact agc (by omega)
  have f:=V_ (p:=⟨s.g,(s.g.length:Int),m,af.mn (af.mx s.1 1) 16,rowP s.c m.1.toNat 0 (oC m).1 0,rowP s.d m.1.toNat 40 60 50,rowP s.e m.1.toNat (af.u .neg .i64<|af.b .quo .i64 m.d 2) (af.b .quo .i64 m.d 2) 0,rowP s.f (af.mn (af.l s.f) 1024).toNat (af.u .neg .i64 m.e) m.e 0,af.s (nC m s.G) 0<|af.mn (af.l<|nC m s.G) 256,ahF s.2.1 m.1.toNat⟩) (m:=m) (L:=s.g) rfl rfl rfl r _ 0 rfl<|aM _;have n:af.s (nC m s.G) 0 (af.mn (af.l<|nC m s.G) 256)=(nC m s.G).take 256:=by
   rw[show af.mn (af.l<|nC m s.G) 256=((min (nC m s.G).length 256:Nat):Int) from v7 (i:=(nC m s.G).length) (j:=256),jc,AT]
   grind
  have f:aV (ab9 af) _ (dL m s,0):=aT (by unfold dL;rw[n,g,AT];rfl) f
  repeat' first
   | exact f
   | refine .and ?_ ?_
   | refine au.2 ⟨A,?_⟩
   | refine au.2 ⟨w _ _ _ _,?_⟩
   | refine au.2 ⟨u _ _ _ _,?_⟩
   | refine au.2 ⟨v,?_⟩
   | refine au.2 ⟨z,?_⟩
 .rw[gw h];exact(ar (by show af.cm (oC m).2 0=true;rw[dC];simp_all)).2 (.ret _)
def OG:(aA×gH)->(gH×Int):=λ(m,s)=>Gh m s
def tO:(aA×gH)->Bool:=λ(_,s)=>decide<|s.2.2.2.2.2.2.2.length<=1000000/\s.2.2.2.2.2.2.1.length<=1000000/\s.2.2.2.2.2.1.length<=140737488355328
def avE:aK:=⟨[bD,lD],[lD,yI],tO,OG,false⟩
def atb:Sd 75 avE:=aX ax dJ .wide 119 [⟨75,9,[[2,4,9,82,83,84]]⟩] [] (λA (m,s)=>aoP A m s) ab9 akQ ⟨fc func75 fz,(sc EC (sc atl (sc atm (sc atn (sc ato sz))))),(oc arD oz),(ic ap6 iz),mz,pz⟩ (λA y=>match y with |.c0 p a2=>⟨57,sl,by kernel_rfl⟩|.c1 p b2 b12=>⟨57,sl,by kernel_rfl⟩) λ((m,s):aA×gH) c h=>alA (of_decide_eq_true c).1 (of_decide_eq_true c).2.1 (of_decide_eq_true c).2.2
def dq{y:Int}(h:-4611686018427387904<=x+y/\x+y<4611686018427387904):af.bJ x y=x+y:=xn h
def kX{y:Int}(h:-4611686018427387904<=x-y/\x-y<4611686018427387904):af.fD x y=x-y:=wI h
def Lg:af.bJ a b=IntKind.i64.wrap (a+b):=Go.Ev.gG
def yT:af.fD a b=IntKind.i64.wrap (a-b):=Go.Ev.gX
def Hd{i:Nat}(h:i<4611686018427387904):af.bJ i 1=((i+1:Nat):Int):=jQ h
abbrev up0{c β:Type}(x:c×β)(y:c):c×β:=(y,x.2)
abbrev zm{f c β:Type}(x:f×c×β)(y:c):f×c×β:=(x.1,y,x.2.2)
abbrev up2{f g c β:Type}(x:f×g×c×β)(y:c):f×g×c×β:=(x.1,x.2.1,y,x.2.2.2)
abbrev up3{f g h c β:Type}(x:f×g×h×c×β)(y:c):f×g×h×c×β:=(x.1,x.2.1,x.2.2.1,y,x.2.2.2.2)
abbrev QA{f g h i c β:Type}(x:f×g×h×i×c×β)(y:c):f×g×h×i×c×β:=(x.1,x.2.1,x.2.2.1,x.2.2.2.1,y,x.2.2.2.2.2)
abbrev vn{f g h i j c β:Type}(x:f×g×h×i×j×c×β)(y:c):f×g×h×i×j×c×β:=(x.1,x.2.1,x.2.2.1,x.2.2.2.1,x.2.2.2.2.1,y,x.2.2.2.2.2.2)
abbrev qK{f g h i j l c β:Type}(x:f×g×h×i×j×l×c×β)(y:c):f×g×h×i×j×l×c×β:=(x.1,x.2.1,x.2.2.1,x.2.2.2.1,x.2.2.2.2.1,x.2.2.2.2.2.1,y,x.2.2.2.2.2.2.2)
abbrev CH{f g h i j l m c β:Type}(x:f×g×h×i×j×l×m×c×β)(y:c):f×g×h×i×j×l×m×c×β:=(x.1,x.2.1,x.2.2.1,x.2.2.2.1,x.2.2.2.2.1,x.2.2.2.2.2.1,x.2.2.2.2.2.2.1,y,x.2.2.2.2.2.2.2.2)
abbrev yZ{f g h i j l m n c β:Type}(x:f×g×h×i×j×l×m×n×c×β)(y:c):f×g×h×i×j×l×m×n×c×β:=(x.1,x.2.1,x.2.2.1,x.2.2.2.1,x.2.2.2.2.1,x.2.2.2.2.2.1,x.2.2.2.2.2.2.1,x.2.2.2.2.2.2.2.1,y,x.2.2.2.2.2.2.2.2.2)
abbrev Qq{f g h i j l m n o c β:Type}(x:f×g×h×i×j×l×m×n×o×c×β)(y:c):f×g×h×i×j×l×m×n×o×c×β:=(x.1,x.2.1,x.2.2.1,x.2.2.2.1,x.2.2.2.2.1,x.2.2.2.2.2.1,x.2.2.2.2.2.2.1,x.2.2.2.2.2.2.2.1,x.2.2.2.2.2.2.2.2.1,y,x.2.2.2.2.2.2.2.2.2.2)
abbrev lp1{c β γ:Type}(x:c×β)(y:γ):c×γ:=(x.1,y)
abbrev lp2{c f β γ:Type}(x:c×f×β)(y:γ):c×f×γ:=(x.1,x.2.1,y)
abbrev jF{c f g β γ:Type}(x:c×f×g×β)(y:γ):c×f×g×γ:=(x.1,x.2.1,x.2.2.1,y)
abbrev lp4{c f g h β γ:Type}(x:c×f×g×h×β)(y:γ):c×f×g×h×γ:=(x.1,x.2.1,x.2.2.1,x.2.2.2.1,y)
abbrev lp7{c f g h i j l β γ:Type}(x:c×f×g×h×i×j×l×β)(y:γ):c×f×g×h×i×j×l×γ:=(x.1,x.2.1,x.2.2.1,x.2.2.2.1,x.2.2.2.2.1,x.2.2.2.2.2.1,x.2.2.2.2.2.2.1,y)
abbrev aaR{c f g h i j l m n o β γ:Type}(x:c×f×g×h×i×j×l×m×n×o×β)(y:γ):c×f×g×h×i×j×l×m×n×o×γ:=(x.1,x.2.1,x.2.2.1,x.2.2.2.1,x.2.2.2.2.1,x.2.2.2.2.2.1,x.2.2.2.2.2.2.1,x.2.2.2.2.2.2.2.1,x.2.2.2.2.2.2.2.2.1,x.2.2.2.2.2.2.2.2.2.1,y)
abbrev md(A:aS)(t:Ty)(v:List t.T)(i:Int)(f:t.T->t.T):List t.T:=A.set v i<|f<|A.n t v i
def _root_.Go.Ev.cH.bI.either{g:FuncId}{m:List VF}{i l:List Ty}{p q:Ty.Ts (VF.iq m)×Ty.Ts i->Bool}{f k:Ty.Ts (VF.iq m)×Ty.Ts i->Ty.Ts (VF.iq m)×Ty.Ts l}{n:Bool}{c:Ty.Ts (VF.iq m)×Ty.Ts i->Bool}
  (h:cH.bI P g ⟨m,i,l,p,f,n,false⟩) (A:cH.bI P g ⟨m,i,l,q,k,n,false⟩):cH.bI P g ⟨m,i,l,λx=>bif c x then p x else q x,λx=>bif c x then f x else k x,n,false⟩:=by
 refine⟨λw I D x y C z B a1 a2 o r u v j=>?_,λx y j=>?_,nofun,h.body⟩
 .simp only at j ⊢;cases e:c (x,y)<;>rw[e] at j
  .exact A.calls w I D x y C z B a1 a2 o r u v j
  .exact h.calls w I D x y C z B a1 a2 o r u v j
 .simp only at j ⊢;cases e:c (x,y)<;>rw[e] at j
  .exact A.keep x y j
  .exact h.keep x y j
abbrev Ta:Ty:=(.struct [.bool,.slice pQ,yI])
abbrev rq:Type:=Bool×List jr×Int
abbrev Qr:VF:=.ptr [.d .bool,.own pQ,.d yI]
abbrev jS:Ty:=(.struct [.bool,bD,lD,yI,yI,Ta,.slice bS,.slice iC,.slice iC,.slice Ki,.slice gD])
abbrev Net:Type:=Bool×aA×gH×Int×Int×rq×List cN×List fC×List fC×List tg×List eX
abbrev fJ:VF:=.ptr [.d .bool,.d bD,.d lD,.d yI,.d yI,Qr,.fix 1 bS,.own iC,.own iC,.own Ki,.own gD]
def CG (q:Net) (a b c d e f:Nat):iN:=.cu false<|[vb q.1]++dc bD q.2.1++dc lD q.2.2.1++[vi q.2.2.2.1,vi q.2.2.2.2.1,.ptr a 0,.own b,.own c,.own d,.own e,.own f]
def CB (q:Net) (k:Nat):iN:=.cu false [vb q.2.2.2.2.2.1.1,.own k,vi q.2.2.2.2.2.1.2.2]
def Cy (q:Net):iN:=.arr false bS q.2.2.2.2.2.2.1
def Cw (q:Net):iN:=.arr false iC q.2.2.2.2.2.2.2.1
def bxB (q:Net):iN:=.arr false iC q.2.2.2.2.2.2.2.2.1
def CF (q:Net):iN:=.arr false Ki q.2.2.2.2.2.2.2.2.2.1
def Cz (q:Net):iN:=.arr false gD q.2.2.2.2.2.2.2.2.2.2
def Cx (q:Net):iN:=.arr false pQ q.2.2.2.2.2.1.2.1
abbrev axR:VF:=.ptr [.d .bool,.d bD,.d lD,.d yI,.d yI,Qr,.own bS,.own iC,.own iC,.own Ki,.own gD]
def axm(A:aS)(c:Int):LT Bool Empty:=.ret<|A.cm c c
def El:Int->Bool:=λc=>(axm af c).val<|Ty.aR [.bool]
def awu:aK:=.all [yI] [.bool] El
def aiZ:Sd 284 awu:=fa<|aQ ax dJ sl 17 [] (λA c=>axm A c)<|kz (fc func284 fz) sz
def ahx(A:aS)(f:Int)(c:Int):LT Int Empty:=.br (A.k El f) (.br (A.k El c) (.ret 0)<|.ret<|-1)<|.br (A.k El c) (.ret 1)<|.br (A.bo f c) (.ret<|-1)<|.br (A.jD f c) (.ret 1)<|.ret 0
def KJ:(Int×Int)->Int:=λ(c,f)=>(ahx af c f).val<|Ty.aR [yI]
def awn:aK:=.all [yI,yI] [yI] KJ
def atP:Sd 236 awn:=fa<|aQ ax dJ sl 58 [] (λA (c,f)=>ahx A c f)<|kz (fc func236 fz)<|sc aiZ sz
def axj(A:aS)(a:jr)(b:jr):LT Int Empty:=.ret<|A.k OJ [(A.k KJ (a.1,b.1)),A.k rB (a.2.1,b.2.1),A.k rB (a.2.2.1,b.2.2.1),A.k KJ (a.2.2.2,b.2.2.2)]
def Ue:(jr×jr)->Int:=λ(a,b)=>(axj af a b).val<|Ty.aR [yI]
def awk:aK:=.all [pQ,pQ] [yI] Ue
def atL:Sd 188 awk:=fa<|aQ ax dJ sl 38 [] (λA (a,b)=>axj A a b)<|kz (fc func188 fz)<|sc acL<|sc acM<|sc atP sz
def axh(A:aS)(a:jr)(b:jr):LT Bool Empty:=.ret<|A.bo (A.k Ue (a,b)) 0
def KH:(jr×jr)->Bool:=λ(a,b)=>(axh af a b).val<|Ty.aR [.bool]
def awd:aK:=.all [pQ,pQ] [.bool] KH
def aiV:Sd 138 awd:=fa<|aQ ax dJ sl 20 [] (λA (a,b)=>axh A a b)<|kz (fc func138 fz)<|sc atL sz
structure Ye where(a1:Bool)(a2:Int)
inductive aeT where|c0(p:Ye)(a0:Int)(a3:List jr)
noncomputable def alk:aeT->gY
 | .c0 p a0 a3=>⟨[Ac 123 54 [(0,pZ 0),(1,vi a0)] f123 10],[gZ [vb p.a1,.own 1,vi p.a2],aZ pQ a3,.a_]⟩
def yq(A:aS)(c:Int):Int:=(A.b .quo .i64 (A.fD c 1) 2)
def ahq(A:aS)(q:rq)(i:Int):LT (rq×Unit) aeT:=.ak<|.c0 ⟨q.1,q.2.2⟩ i q.2.1
def acd(A:aS):aeT->LT (rq×Unit) aeT
 | .c0 p a0 a3=>.br (A.jD a0 0) (.fP A a0 a3<|.fP A (yq A a0) a3<|.br (A.k KH ((A.n pQ a3 a0:jr),(A.n pQ a3 (yq A a0):jr))) (.fP A (yq A a0) (A.set a3 a0 (A.n pQ a3 (yq A a0):jr))<|.ak<|.c0 p (yq A a0)<|A.set (A.set a3 a0 (A.n pQ a3 (yq A a0):jr)) (yq A a0) (A.n pQ a3 a0:jr))<|.ret ((p.a1,a3,p.a2),()))<|.ret ((p.a1,a3,p.a2),())
def Z3:rq×Int->rq×Unit:=λ(q,i)=>fA (acd af) (ahq af q i) (Ty.aR [Ta],Ty.aR [])
def RZ:rq×Int->Bool:=λ(q,i)=>fO (acd af)<|ahq af q i
def art:cH:=⟨[Qr],[yI],[],RZ,Z3,false,false⟩
def aqZ:cH.bI prog 123 art:=bV ax dJ sl 10 [] [⟨123,0,[[0,1]]⟩] (λA (q,i)=>ahq A q i) acd alk (kz (fc func123 fz) (sc aiV sz)) (λA y=>match y with |.c0 p f g=>⟨74,.jf [0,0,0,0,2,3,3],by kernel_rfl⟩)<|λ((q,i):rq×Int) c j h=>dN c
structure Lr where(a5:Bool)(a6:Int)
inductive aeO where|c0(p:Lr)(a0 a1 a2 a3 a4:Int)(a7:List jr)
noncomputable def alf:aeO->gY
 | .c0 p a0 a1 a2 a3 a4 c=>⟨[gW 92 74 [(0,pZ 0),(1,vi a0),(4,vi a1),(15,.agg [vi a2,vi a3]),(16,vi a4)] f92 372],[gZ [vb p.a5,.own 1,vi p.a6],aZ pQ c,.a_]⟩
def ahn(A:aS)(q:rq)(i:Int):LT (rq×Unit) aeO:=.ak<|.c0 ⟨q.1,q.2.2⟩ i i (A.bJ (A.b .mul .i64 2 i) 1) (A.bJ (A.b .mul .i64 2 i) 2) 0 q.2.1
def J8(A:aS):aeO->LT (rq×Unit) aeO
 | .c0 p a0 a1 a2 a3 a4 c=>.br (A.bo a4 2) (.ao (A.and (A.bE 0 a4)<|A.bo a4 2)<|.br (A.bo (A.n yI [a2,a3] a4:Int)<|A.l c) (.fP A (A.n yI [a2,a3] a4:Int) c<|.fP A a1 c<|.br (A.k KH ((A.n pQ c (A.n yI [a2,a3] a4:Int):jr),(A.n pQ c a1:jr))) (.ak<|.c0 p a0 (A.n yI [a2,a3] a4:Int) a2 a3 (A.bJ a4 1) c)<|.ak<|.c0 p a0 a1 a2 a3 (A.bJ a4 1) c)<|.ak<|.c0 p a0 a1 a2 a3 (A.bJ a4 1) c)<|.br (A.cm a1 a0) (.fP A a1 c<|.fP A a0 c<|.fP A a1 (A.set c a0 (A.n pQ c a1:jr))<|.ak<|.c0 p a1 a1 (A.bJ (A.b .mul .i64 2 a1) 1) (A.bJ (A.b .mul .i64 2 a1) 2) 0<|A.set (A.set c a0 (A.n pQ c a1:jr)) a1 (A.n pQ c a0:jr))<|.ret ((p.a5,c,p.a6),())
def Ub:rq×Int->rq×Unit:=λ(q,i)=>fA (J8 af) (ahn af q i) (Ty.aR [Ta],Ty.aR [])
def RX:rq×Int->Bool:=λ(q,i)=>fO (J8 af)<|ahn af q i
def arj:cH:=⟨[Qr],[yI],[],RX,Ub,false,false⟩
def aqT:cH.bI prog 92 arj:=bV ax dJ sl 33 [⟨92,3,[[0,1,4,15,16]]⟩] [] (λA (q,i)=>ahn A q i) J8 alf (kz (fc func92 fz) (sc aiV sz)) (λA y=>match y with |.c0 p f a1 a2 g j l=>⟨73,.jf [0,0,0,0,0,0,0,0,0,1],by kernel_rfl⟩)<|λ((q,i):rq×Int) c m h=>dN c
def ahm(A:aS)(q:rq):LT (rq×Int) Empty:=.br (A.not q.1) (.ret (q,0))<|.ret (q,q.2.2)
def gL:rq×Unit->rq×Int:=λ(q,())=>fA Empty.elim (ahm af q) (Ty.aR [Ta],Ty.aR [yI])
def rR:rq×Unit->Bool:=λ(q,())=>fO Empty.elim<|ahm af q
def ara:cH:=⟨[Qr],[],[yI],rR,gL,false,false⟩
def Pj:cH.bI prog 51 ara:=bV ax dJ sl 44 [] [] (λA (q,())=>ahm A q) (λ_=>Empty.elim) Empty.elim (kz (fc func51 (fc func86 fz)) sz) (λ_ y=>y.elim)<|λ((q,()):rq×Unit) c f h=>dN c
def ahl(A:aS)(q:rq):LT (rq×Int) Empty:=.br (A.not q.1) (.ret (q,0))<|.ret (q,A.l q.2.1)
def ON:rq×Unit->rq×Int:=λ(q,())=>fA Empty.elim (ahl af q) (Ty.aR [Ta],Ty.aR [yI])
def RU:rq×Unit->Bool:=λ(q,())=>fO Empty.elim<|ahl af q
def aq_:cH:=⟨[Qr],[],[yI],RU,ON,false,false⟩
def aqM:cH.bI prog 50 aq_:=bV ax dJ sl 45 [] [] (λA (q,())=>ahl A q) (λ_=>Empty.elim) Empty.elim (kz (fc func50 (fc func86 fz)) sz) (λ_ y=>y.elim)<|λ((q,()):rq×Unit) c f h=>dN c
def ahr(A:aS)(q:rq)(e:jr):LT (rq×Int) Empty:=.br (A.not q.1) (.ret (q,1))<|.br (A.bo e.1 q.2.2) (.ret (q,140))<|.br (A.jD e.1 1099511627776) (.ret (q,140))<|.br (A.ov (A.l q.2.1) 16384) (.ret (q,3))<|.ao (A.bE (A.l<|A.p q.2.1 ([e]:List jr)) 4398046511104)<|.ao (A.k RZ (zm q<|A.p q.2.1 ([e]:List jr),A.fD (A.l<|A.p q.2.1 ([e]:List jr)) 1))<|.ret ((A.k Z3 (zm q<|A.p q.2.1 ([e]:List jr),A.fD (A.l<|A.p q.2.1 ([e]:List jr)) 1)).1,0)
def wX:rq×jr->rq×Int:=λ(q,e)=>fA Empty.elim (ahr af q e) (Ty.aR [Ta],Ty.aR [yI])
def R1:rq×jr->Bool:=λ(q,e)=>fO Empty.elim<|ahr af q e
def aru:cH:=⟨[Qr],[pQ],[yI],R1,wX,false,false⟩
def aq0:cH.bI prog 127 aru:=bV ax dJ sl 97 [] [] (λA (q,e)=>ahr A q e) (λ_=>Empty.elim) Empty.elim ⟨fc func127 (fc func86 fz),sz,oz,iz,(mc aqZ mz),pz⟩ (λ_ y=>y.elim)<|λ((q,e):rq×jr) c f h=>dN c
def yn(A:aS)(q:rq):Int:=(A.fD (A.l q.2.1) 1)
def NJ(A:aS)(q:rq):rq×Int:=(zm q<|A.s (A.set q.2.1 0 (A.n pQ q.2.1 (yn A q):jr)) 0<|A.fD (yn A q) 0,0)
def adn(A:aS)(q:rq):LT (rq×(jr×Int)) Empty:=.br (A.not q.1) (.ret (q,(0,0,0,0),1))<|.br (A.bo (yn A q) 0) (.ret (q,(0,0,0,0),4))<|.fP A 0 q.2.1<|.fP A (yn A q) q.2.1<|.ao (A.and (A.bE 0 0)<|A.and (A.bE 0<|yn A q)<|A.bE (yn A q)<|A.l<|A.set q.2.1 0 (A.n pQ q.2.1 (yn A q):jr))<|.ao (A.k RX<|NJ A q)<|.ret (lp2 (A.k Ub<|NJ A q).1 (A.n pQ q.2.1 0:jr).1,(A.n pQ q.2.1 0:jr),0)
def zI:rq×Unit->rq×(jr×Int):=λ(q,())=>fA Empty.elim (adn af q) (Ty.aR [Ta],Ty.aR [pQ,yI])
def RV:rq×Unit->Bool:=λ(q,())=>fO Empty.elim<|adn af q
def arb:cH:=⟨[Qr],[],[pQ,yI],RV,zI,false,false⟩
def aqN:cH.bI prog 64 arb:=bV ax dJ (.jf [0,0,0,0,2]) 115 [⟨64,2000000,[]⟩] [] (λA (q,())=>adn A q) (λ_=>Empty.elim) Empty.elim ⟨fc func64 (fc func86 fz),sz,oz,iz,(mc aqT mz),pz⟩ (λ_ y=>y.elim)<|λ((q,()):rq×Unit) c f h=>dN c
end
end Go.Ev.M
