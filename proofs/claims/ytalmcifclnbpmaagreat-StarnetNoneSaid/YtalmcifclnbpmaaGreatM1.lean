/- PROVED: what functions compute, 1. Conditions: none. -/
import Derived.Test.YtalmcifclnbpmaaGreatTy
import Derived.Test.YtalmcifclnbpmaaGreatPl
import Derived.Shelf.Bytes.SlClone
set_option linter.unusedVariables false
set_option linter.defProp false
set_option linter.unusedSimpArgs false
namespace Go.Ev.M
open Go.Proofs Go.Proofs.Tryz
set_option maxRecDepth 100000
open Go.Ev.Pl
noncomputable section
def STD:(∀b x y:Bool,(bif b then x else y)=true↔(b=true->x=true)/\(b=false->y=true))/\(∀a b:Int,af.c .eql a b=(a==b))/\(∀a b:Int,af.c .neq a b=(a != b))/\(∀a b:Int,af.c .lss a b=decide (a<b))/\(∀a b:Int,af.c .leq a b=decide (a<=b))/\(∀a b:Int,af.c .gtr a b=decide (b<a))/\(∀a b:Int,af.c .geq a b=decide (b<=a))/\(∀x y:Bool,af.and x y=(x&&y))/\(∀x:Bool,af.not x=!x)/\(∀x y:Bool,af.q x y=(x==y))/\(∀(α β:Type)(f:α->β)(x:α),af.k f x=f x)/\(∀k (a b:Int),af.b .add k a b=k.wrap (a+b))/\(∀k (a b:Int),af.b .sub k a b=k.wrap (a-b))/\(∀k (a:Int),af.v k a=k.wrap a)/\(∀(α:Type)(l:List α),af.l l=(l.length:Int))/\(∀(α:Type)(x:α),tt x=true)/\(∀a b:Bool,((a&&b)=true)=(a=true/\b=true))/\(∀a b:Bool,((a||b)=true)=(a=true\/b=true))/\(∀a b:Bool,((a&&b)=false)↔(a=false\/b=false))/\(∀a b:Bool,((a||b)=false)↔(a=false/\b=false))/\(∀b:Bool,((!b)=true)=(b=false))/\(∀b:Bool,((!b)=false)=(b=true))/\(∀(p:Prop)[Decidable p],(decide p=true)=p)/\(∀(p:Prop)[Decidable p],(decide p=false)↔¬p):=⟨λ_ _ _=>FQ,λ_ _=>rfl,λ_ _=>rfl,λ_ _=>rfl,λ_ _=>rfl,λ_ _=>rfl,λ_ _=>rfl,λ_ _=>rfl,λ_=>rfl,λ_ _=>rfl,λ_ _ _ _=>rfl,λ_ _ _=>rfl,λ_ _ _=>rfl,λ_ _=>rfl,λ_ _=>rfl,λ_ _=>rfl,λ_ _=>Bool.and_eq_true ..,λ_ _=>Bool.or_eq_true ..,λ_ _=>Bool.and_eq_false_iff,λ_ _=>Bool.or_eq_false_iff,λ_=>by simp,λ_=>by simp,λ_ _=>decide_eq_true_eq,λ_ _=>decide_eq_false_iff_not⟩
def alX{i:Int}(h:0<=i)(j:i<=4611686018427387904):af.b .quo .i64 i 8=((i.toNat/8:Nat):Int):=by
 rw[MW,lY h,my (by omega)<|by omega];omega
def alY{i:Int}(h:0<=i):af.b .rem .i64 i 8=((i.toNat%8:Nat):Int):=by
 rw[MX,i_ h];omega
def GG{n:Int}{b:List Int}(h:Ty.has (.struct [(.int .i64),.slice<|.int .u8]) (n,b)):(-9223372036854775808<=n/\n<=9223372036854775807)/\b.length<=gg/\oH b:=by
 exact⟨h.1,h.2.1,λx i=>h.2.2 x i⟩
def rq{n:Int}{b:List Int}(h:Ty.has (.struct [(.int .i64),.slice<|.int .u8]) (n,b)):b.length<=140737488355328:=(GG h).2.1
def amO(A:aS)(n:Int):LT Int Empty:=.ret<|A.b .quo .i64 (A.b .add .i64 n 7) 8
def lJ:Int->Int:=λn=>(amO af n).val<|Ty.aO [yI]
def asC:aL:=.all [yI] [yI] lJ
def TY:Sd 316 asC:=fa<|aN ar dK sl 17 [] (λA n=>amO A n)<|kz (fc func316 fz) sz
def agf(A:aS)(i:Int):LT Int Empty:=.ao (A.bQ 0<|A.b .rem .i64 i 8)<|.ret<|A.b .shr .u8 128<|A.b .rem .i64 i 8
def N0:Int->Int:=λi=>(agf af i).val<|Ty.aO [yU]
def x_:Int->Bool:=λi=>decide<|0<=i
def asZ:aL:=⟨[yI],[yU],x_,N0,false⟩
def T5:Sd 325 asZ:=aN ar dK sl 17 [] (λA i=>agf A i) (kz (fc func325 fz) sz) (λ(i:Int) j h=>by
 show(agf af i).pre=true;simp only[agf,LT.pre,STD,bne_iff_ne,beq_iff_eq,bne_eq_false_iff_eq,beq_eq_false_iff_ne];simp only[x_,tP] at j;rw[alY j];exact⟨by omega,trivial⟩)
def NU{n:Int}(h:0<=n)(i:n<=4611686018427387000):lJ n=(((n.toNat+7)/8:Nat):Int):=by
 simp[lJ,amO,LT.val];rw[gB,my (by omega)<|by omega,alX (by omega)<|by omega];omega
def age(A:aS)(j:Int)(h:List Int)(i:Int):LT Bool Empty:=.ao (A.and (A.bQ 0<|A.b .quo .i64 i 8)<|A.bq (A.b .quo .i64 i 8)<|A.l h)<|.ao (A.k x_ i)<|.ret<|A.cm (A.b .and .u8 (A.n yU h (A.b .quo .i64 i 8):Int)<|A.k N0 i) 0
def Sw:((Int×List Int)×Int)->Bool:=λ((j,h),i)=>(age af j h i).val<|Ty.aO [.bool]
def CQ:((Int×List Int)×Int)->Bool:=λ((n,b),i)=>decide (0<=i)&&decide (i<8*(b.length:Int))
def asR:aL:=⟨[(.struct [yI,yB]),yI],[.bool],CQ,Sw,false⟩
def abh:Sd 328 asR:=aN ar dK sl 25 [] (λA ((l,j),i)=>age A l j i) (kz (fc func328 fz) (sc T5 sz)) (λ(((l,j),i):(Int×List Int)×Int) p h=>by
 show(age af l j i).pre=true;simp only[CQ,eH,tP] at p;have u:=rq h.1;simp only[age,LT.pre,bZ,bF,ax,bl,x_,eH,tP,su];rw[alX p.1<|by omega];refine⟨⟨by omega,by omega⟩,p.1,trivial⟩)
def t99(A:aS)(i:Int)(h:List Int):LT Int Empty:=.br (A.bq i 0) (.ret 10)<|.br (A.jr i 4096) (.ret 10)<|.br (A.cm (A.l h)<|A.k lJ i) (.ret 10)<|.br (A.cm (A.b .rem .i64 i 8) 0) (.ao (A.and (A.bQ 0<|A.b .sub .i64 (A.l h) 1)<|A.bq (A.b .sub .i64 (A.l h) 1)<|A.l h)<|.ao (A.bQ 0<|A.b .rem .i64 i 8)<|.br (A.cm (A.b .and .u8 (A.n yU h (A.b .sub .i64 (A.l h) 1):Int)<|A.b .shr .u8 255<|A.b .rem .i64 i 8) 0) (.ret 10)<|.ret 0)<|.ret 0
def tV:(Int×List Int)->Int:=λ(i,h)=>(t99 af i h).val<|Ty.aO [yI]
def axC:aL:=.all [(.struct [yI,yB])] [yI] tV
def JK:Sd 290 axC:=fa (aN ar dK sl 67 [] (λA (j,i)=>t99 A j i) (kz (fc func290 fz) (sc TY sz)) (λ((j,i):(Int×List Int)) C h=>by
 show(t99 af j i).pre=true;have B:=rq h;simp only[t99,LT.pre,bZ,b_,bl,gD,ax,bF,acN,dC,su,FQ,tP,decide_eq_false_iff_not,eH,bne_iff_ne,bne_eq_false_iff_eq,ne_eq,implies_true,and_true,true_and];intro u v l p;rw[NU (by omega)<|by omega] at l;rw[alY<|by omega] at p;rw[ia,my (by omega)<|by omega,alY<|by omega];omega))
def jN{i:Nat}(h:i<4611686018427387904):af.b .add .i64 i 1=((i+1:Nat):Int):=by
 rw[gB,my (by omega)<|by omega];rfl
def t_{i j:Nat}(h:i+j<4611686018427387904):af.b .add .i64 (i:Int) (j:Int)=((i+j:Nat):Int):=by
 rw[gB,my (by omega)<|by omega];rfl
theorem bR{i j:Nat}:af.bq (i:Int) (j:Int)=decide (i<j):=by
 rw[bl];simp_all
def ahn{i:Nat}:af.bQ 0 (i:Int)=true:=by rfl
variable{v:Int}
theorem aop{u:Int}(h:u=v):af.bG u v=true:=by simp_all;exact beq_self_eq_true _
theorem aoo{u:Int}(h:u≠v):af.bG u v=false:=by simp_all;exact beq_eq_false_iff_ne.2 h
theorem zv{u:Int}(h:u=v):af.cm u v=false:=by simp_all;exact bne_self_eq_false _
theorem zw{u:Int}(h:u≠v):af.cm u v=true:=by simp_all;exact bne_iff_ne.2 h
variable{Y:Type}
def Go.run{R:Type}{s:Y->LT R Y}{t:LT R Y}{P:R->Prop}{d:R}(h:Go s t P):bi s t<|gi s t d:=eO (gm (d:=d) h).1
def rV{a b:Int}(h:-4611686018427387904<=a+b/\a+b<=4611686018427387904):af.b .add .i64 a b=a+b:=by rw[gB,my (by omega)<|by omega]
def Ed{a b:Int}(h:-4611686018427387904<=a-b/\a-b<=4611686018427387904):af.b .sub .i64 a b=a-b:=by rw[ia,my (by omega)<|by omega]
def aay{a:Int}(h:0<=a/\a<=4611686018427387904):af.b .quo .i64 a 8=a/8:=by rw[alX h.1 h.2];omega
def E3{n:Int}(h:0<=n/\n<=100000):af.k lJ n=(n+7)/8:=by rw[bZ,NU h.1<|by omega];omega
def Gm{n:Int}{b:List Int}(h:af.k tV (n,b)=0):0<=n/\n<=4096/\(b.length:Int)=(n+7)/8:=by
 simp only[bZ,tV,t99,LT.val,b_,bl,gD] at h;by_cases i:n<0
 .simp[i] at h
 by_cases j:4096<n
 .simp[i,j] at h
 refine⟨by omega,by omega,?_⟩;rw[show lJ n=(n+7)/8 from E3<|by omega,fQ i,fQ j] at h;by_cases l:(b.length:Int)=(n+7)/8
 .exact l
 .rw[show(af.l b != (n+7)/8)=true from bne_iff_ne.2 l] at h;cases h
variable{B:List Int}
def ix8{x:Int}(h:0<=x/\x<8*(B.length:Int)/\x<=100000):af.and (af.bQ 0<|af.b .quo .i64 x 8) (af.bq (af.b .quo .i64 x 8)<|af.l B)=true:=by
 rw[aay<|by omega,bF,ax,bl];show(decide _&&decide (_<(B.length:Int)))=true;rw[bX<|by omega,bX<|by omega];rfl
def alP{x:Int}(h:0<=x):af.k x_ x=true:=bX h
def alO{n i:Int}{b:List Int}(h:0<=i/\i<8*(b.length:Int)):af.k CQ ((n,b),i)=true:=by
 show(decide _&&decide _)=true;rw[bX h.1,bX h.2];rfl
def Zc{k:Int}{b:List Int}:(af.spl (af.r k (0:Int)) 0<|af.s b 0<|af.mn (af.l b)<|af.l<|af.r k (0:Int)).length=k.toNat:=by
 rw[uL,n_,jU,oQ];show((List.replicate k.toNat (0:Int)).take 0++_++_).length=_;simp only[List.take_zero,iQ,uy,dR,GU,c_,show(0:Int).toNat=0 from rfl];have h:af.l b=(b.length:Int):=rfl;have i:af.l (List.replicate k.toNat (0:Int))=(k.toNat:Int):=by show((List.replicate k.toNat (0:Int)).length:Int)=_;rw[GU]
 rw[h,i];split<;>omega
def ZO{k:Int}(h:0<=k/\k<=100000):af.and (af.bG k k) (af.and (af.bQ 0 k)<|af.bQ k 140737488355328)=true:=by
 rw[bF,bF,bf,ax,ax,bX h.1,bX<|by omega,beq_self_eq_true];rfl
def u7{R:Type}{step:Y->LT R Y}{t i:LT R Y}{r:R}(h:t=i)(j:bi step i r):bi step t r:=h▸j
theorem aq1{a:Int}{n:Nat}(h:0<=a)(i:n<=64):af.b .shr .u64 a (n:Int)=((a.toNat/2^n:Nat):Int):=by
 show a.fdiv (2^min (n:Int).toNat 64)=_
 grind
theorem aq0{a:Int}{n:Nat}(h:0<=a)(i:n<=32):af.b .shr .u32 a (n:Int)=((a.toNat/2^n:Nat):Int):=by
 show a.fdiv (2^min (n:Int).toNat 32)=_
 grind
structure Wi where(a0 a1 a2 a4:Int)(a5:List Int)(a6 a7:Int)
inductive Xr where|c0(p:Wi)(a3:Int)(a8:List Int)
noncomputable def aju:Xr->iF
 | .c0 p a3 a8=>⟨[iN 275 63 [(1,.int .u64 false p.a0),(2,vi p.a1),(3,pZ 0),(6,pZ 1),(8,pZ 2),(43,vi p.a2),(44,vi a3)] f275 244],[gZ [vi p.a4,.sl yU p.a5],gZ [vi p.a6,.eT true],gZ [vi p.a7,.own 3],aZ yU a8,.aU]⟩
abbrev abM(A:aS)(i:Int)(j:List Int)(v:Int)(h:Int):LT ((Int×List Int)×Int) Xr:=(.br (A.jr h<|A.b .sub .i64 4096 i) (.ret ((0,([]:List Int)),3))<|.ao (A.and (A.bG (A.k lJ<|A.b .add .i64 i h)<|A.k lJ<|A.b .add .i64 i h)<|A.and (A.bQ 0<|A.k lJ<|A.b .add .i64 i h)<|A.bQ (A.k lJ<|A.b .add .i64 i h) 140737488355328)<|.ak<|.c0 ⟨v,h,h,i,j,0,A.b .add .i64 i h⟩ 0<|A.spl (A.r (A.k lJ<|A.b .add .i64 i h) (0:Int)) 0<|A.s j 0<|A.mn (A.l j)<|A.l<|A.r (A.k lJ<|A.b .add .i64 i h) (0:Int))
def agc(A:aS)(j:Int)(i:List Int)(v:Int)(h:Int):LT ((Int×List Int)×Int) Xr:=.br (A.cm (A.k tV (j,i)) 0) (.ret ((0,([]:List Int)),10))<|.br (A.bq h 0) (.ret ((0,([]:List Int)),2))<|.br (A.jr h 64) (.ret ((0,([]:List Int)),2))<|.br (A.bq h 64) (.ao (A.bQ 0 h)<|.br (A.cm (A.b .shr .u64 v h) 0) (.ret ((0,([]:List Int)),2))<|abM A j i v h)<|abM A j i v h
def afB(A:aS):Xr->LT ((Int×List Int)×Int) Xr
 | .c0 p a3 a8=>.br (A.bq a3 p.a2) (.ao (A.bQ 0<|A.b .sub .i64 (A.b .sub .i64 p.a1 1) a3)<|.br (A.bG (A.b .and .u64 (A.b .shr .u64 p.a0<|A.b .sub .i64 (A.b .sub .i64 p.a1 1) a3) 1) 1) (.ao (A.and (A.bQ 0<|A.b .quo .i64 (A.b .add .i64 p.a4 a3) 8)<|A.bq (A.b .quo .i64 (A.b .add .i64 p.a4 a3) 8)<|A.l a8)<|.ao (A.k x_<|A.b .add .i64 p.a4 a3)<|.ao (A.and (A.bQ 0<|A.b .quo .i64 (A.b .add .i64 p.a4 a3) 8)<|A.bq (A.b .quo .i64 (A.b .add .i64 p.a4 a3) 8)<|A.l a8)<|.ak<|.c0 p (A.b .add .i64 a3 1)<|A.set a8 (A.b .quo .i64 (A.b .add .i64 p.a4 a3) 8)<|A.b .or .u8 (A.n yU a8 (A.b .quo .i64 (A.b .add .i64 p.a4 a3) 8):Int)<|A.k N0<|A.b .add .i64 p.a4 a3)<|.ak<|.c0 p (A.b .add .i64 a3 1) a8)<|.ret ((p.a7,a8),0)
def aqM{p:Wi}{m:Nat}(v:p.a1=p.a2)(A:p.a2<=64)(C:0<=p.a4)(E:p.a4+p.a2<=8*(m:Int))(u:(m:Int)<=600):
  ∀(j:Nat) (i:Int) (B:List Int),p.a2-i<=(j:Int)->0<=i->B.length=m->Go (afB af) (.ak<|.c0 p i B) λ_=>True:=by
 intro j
 induction j with
 | zero=>exact λi B l _ _=>aP<|bH (λg=>by omega) λ_=>ay trivial
 | succ j ih=>
   intro i B l D h;refine aP (bH (λg=>aj ?_<|dO (λ_=>?_) λ_=>?_) λ_=>ay trivial)
   .rw[v,Ed (b:=1)<|by omega,Ed<|by omega,ax];exact bX (by omega)
   .rw[rV (a:=p.a4)<|by omega];have n1:=ix8 (x:=p.a4+i) (B:=B) (by omega);refine aj n1<|aj (alP<|by omega)<|aj n1 ?_;rw[rV (a:=i)<|by omega];exact ih (i+1) _ (by omega) (by omega)<|(cd ..).trans h
   .rw[rV (a:=i)<|by omega];exact ih (i+1) B (by omega) (by omega) h
def aoJ{n w:Int}{b:List Int}:Go (afB af) (agc af n b v w) λ_=>True:=by
 unfold agc abM;refine dD (λ_=>ay trivial) λh=>bH (λ_=>ay trivial) λi=>lM (λ_=>ay trivial) λj=>?_;have⟨a,c,e⟩:=Gm h;have p:af.bQ 0 w=true:=bX i;refine bH (λ_=>aj p<|dD (λ_=>ay trivial) λ_=>?_) λ_=>?_
 all_goals
  refine lM (λ_=>ay trivial) λl=>?_;rw[Ed<|by omega] at l;rw[rV (a:=n)<|by omega,E3<|by omega];exact aj (ZO<|by omega)<|aqM (m:=((n+w+7)/8).toNat) rfl j a (by show n+w<=_;omega) (by omega) w.toNat 0 _ (by show w-0<=_;omega) (by omega) Zc
def ui:((Int×List Int)×Int×Int)->((Int×List Int)×Int):=λ((n,b),v,w)=>gi (afB af) (agc af n b v w) ((0,[]),0)
def asz:aL:=.all [(.struct [yI,yB]),.int .u64,yI] [(.struct [yI,yB]),yI] ui
def abg:Sd 275 asz:=fa<|bE ar dK sl 114 [⟨275,9,[[1,2,3,6,8,43,44]]⟩] [] (λA ((l,j),v,i)=>agc A l j v i) afB aju (kz (fc func275 (fc func309 (fc func310 (fc func312 fz)))) (sc JK (sc TY (sc T5 sz)))) (λA y=>match y with |.c0 p u B=>⟨63,sl,by kernel_rfl⟩) λ((l,j),v,i) C h=>Go.run aoJ
structure Wl where(a0 a2 a4:Int)(a5:List Int)
inductive adu where|c0(p:Wl)(a1 a3:Int)
noncomputable def ajw:adu->iF
 | .c0 p a1 a3=>⟨[iN 317 54 [(1,vi p.a0),(3,pZ 0),(8,.int .u64 false a1),(39,vi p.a2),(40,vi a3)] f317 244],[gZ [vi p.a4,.sl yU p.a5],.aU]⟩
def t138(A:aS)(j:Int)(l:List Int)(i:Int)(h:Int):LT (Int×Int) adu:=.br (A.cm (A.k tV (j,l)) 0) (.ret (0,10))<|.br (A.bq h 0) (.ret (0,2))<|.br (A.jr h 64) (.ret (0,2))<|.br (A.bq i 0) (.ret (0,2))<|.br (A.jr i j) (.ret (0,2))<|.br (A.jr h<|A.b .sub .i64 j i) (.ret (0,2))<|.ak<|.c0 ⟨i,h,j,l⟩ 0 0
def afC(A:aS):adu->LT (Int×Int) adu
 | .c0 p a1 a3=>.br (A.bq a3 p.a2) (.ao (A.k CQ ((p.a4,p.a5),A.b .add .i64 p.a0 a3))<|.br (A.k Sw ((p.a4,p.a5),A.b .add .i64 p.a0 a3)) (.ak<|.c0 p (A.b .or .u64 (A.b .shl .u64 a1 1) 1)<|A.b .add .i64 a3 1)<|.ak<|.c0 p (A.b .shl .u64 a1 1)<|A.b .add .i64 a3 1)<|.ret (a1,0)
def X5{x:Nat}(h:2*x<18446744073709551616):af.b .shl .u64 x 1=((2*x:Nat):Int):=by
 show IntKind.u64.wrap ((x:Int)*2^min (1:Int).toNat 64)=_;rw[show(2:Int)^min (1:Int).toNat 64=2 from rfl,an7 (by omega)<|by omega];omega
def afg{x:Nat}(h:2*x<18446744073709551616):af.b .or .u64 ((2*x:Nat):Int) 1=((2*x+1:Nat):Int):=by
 show IntKind.u64.wrap ((BitVec.ofInt 64 ((2*x:Nat):Int) ||| BitVec.ofInt 64 1).toNat:Int)=_;rw[jd,show BitVec.ofInt 64 1=BitVec.ofNat 64 1 from rfl,BitVec.toNat_or,iK,iK,show 1%2^64=1 from rfl,lC<|by omega];have:=Nat.shiftLeft_add_eq_or_of_lt (i:=1) (b:=1) (by decide) x;rw[Nat.shiftLeft_eq,Nat.pow_one,rS x 2] at this;rw[<-this,an7 (by omega)<|by omega]
def aoI{p:Wl}(A:0<=p.a0)(B:p.a2<=64)(C:p.a0+p.a2<=8*(p.a5.length:Int))(D:p.a0<=100000):
  ∀(j k v:Nat),p.a2-(k:Int)<=(j:Int)->(k:Int)<=p.a2->v<2^k->Go (afC af) (.ak<|.c0 p (v:Int) (k:Int)) λr=>0<=r.1/\r.1<2^p.a2.toNat:=by
 intro j
 induction j with
 | zero=>
   refine λk v h i u=>aP<|bH (λg=>by omega) λ_=>ay ⟨Int.natCast_nonneg v,?_⟩;rw[show p.a2.toNat=k by omega];show(v:Int)<2^k;rw[show(2:Int)^k=((2^k:Nat):Int) by simp];omega
 | succ j ih=>
   intro k v h i u;refine aP (bH (λg=>?_) λg=>ay ⟨Int.natCast_nonneg v,?_⟩)
   .have l:2^(k+1)<=18446744073709551616:=aV (fZ (by decide)<|show k+1<=64 by omega) (by decide);rw[Nat.pow_succ] at l;rw[rV (a:=p.a0)<|by omega,X5 (x:=v)<|by omega,jN<|by omega];refine aj (alO<|by omega)<|dO (λ_=>?_) λ_=>?_
    .rw[afg (x:=v)<|by omega];exact ih (k+1) (2*v+1) (by omega) (by omega) (by rw[Nat.pow_succ];omega)
    .exact ih (k+1) (2*v) (by omega) (by omega) (by rw[Nat.pow_succ];omega)
   .rw[show p.a2.toNat=k by omega];show(v:Int)<2^k;rw[show(2:Int)^k=((2^k:Nat):Int) by simp];omega
def ahc{n a w:Int}{b:List Int}:Go (afC af) (t138 af n b a w) λr=>0<=r.1/\r.1<2^w.toNat:=by
 have z:∀e:Int,0<=((0,e):Int×Int).1/\((0,e):Int×Int).1<2^w.toNat:=λe=>⟨ai 0,Int.pow_pos<|by decide⟩;unfold t138;refine dD (λ_=>ay<|z _) λh=>bH (λ_=>ay<|z _) λl=>lM (λ_=>ay<|z _) λi=>bH (λ_=>ay<|z _) λj=>lM (λ_=>ay<|z _) λu=>?_;have⟨c,d,e⟩:=Gm h;rw[Ed<|by omega];refine lM (λ_=>ay<|z _) λv=>?_;exact aoI (p:=⟨a,w,n,b⟩) j i (by show a+w<=8*(b.length:Int);omega) (by show a<=_;omega) w.toNat 0 0 (by show w-_<=_;omega) (by show _<=w;omega) (by decide)
def iB:((Int×List Int)×Int×Int)->(Int×Int):=λ((n,b),a,w)=>gi (afC af) (t138 af n b a w) (0,0)
def asD:aL:=.all [(.struct [yI,yB]),yI,yI] [(.int .u64),yI] iB
def T3:Sd 317 asD:=fa<|bE ar dK sl 65 [⟨317,7,[[1,3,8,39,40]]⟩] [] (λA ((u,l),j,i)=>t138 A u l j i) afC ajw (kz (fc func317 fz) (sc JK (sc abh sz))) (λA y=>match y with |.c0 p a1 v=>⟨45,sl,by kernel_rfl⟩) λ((u,l),j,i) B h=>Go.run ahc
structure Wm where(a0 a1 a2 a4 a5:Int)(a6:List Int)(a7 a8:Int)
inductive adv where|c0(p:Wm)(a3:Int)(a9:List Int)
noncomputable def ajx:adv->iF
 | .c0 p a3 a9=>⟨[iN 313 52 [(1,vi p.a0),(3,vi p.a1),(4,vi p.a2),(5,pZ 0),(7,pZ 1),(10,vi a3)] f313 60,Jr 319 39 [(6,pZ 2),(8,pZ 3)] f319 30 4],[gZ [vi p.a4,.own 4],gZ [vi p.a5,.sl yU p.a6],gZ [vi p.a7,.eT true],gZ [vi p.a8,.own 4],aZ yU a9,.aU]⟩
abbrev Ee(A:aS)(h:Int)(i:Int):=(A.r (A.k lJ<|A.b .sub .i64 i h) (0:Int))
def agd(A:aS)(l:Int)(j:List Int)(h:Int)(i:Int):LT ((Int×List Int)×Int) adv:=.br (A.cm (A.k tV (l,j)) 0) (.ret ((0,([]:List Int)),10))<|.br (A.bq h 0) (.ret ((0,([]:List Int)),2))<|.br (A.bq i h) (.ret ((0,([]:List Int)),2))<|.br (A.jr i l) (.ret ((0,([]:List Int)),2))<|.ao (A.and (A.bG (A.k lJ<|A.b .sub .i64 i h)<|A.k lJ<|A.b .sub .i64 i h)<|A.and (A.bQ 0<|A.k lJ<|A.b .sub .i64 i h)<|A.bQ (A.k lJ<|A.b .sub .i64 i h) 140737488355328)<|.br (A.bG (A.b .rem .i64 h 8) 0) (.br (A.bG i l) (.ao (A.and (A.bQ 0 0)<|A.and (A.bQ 0<|A.l<|Ee A h i)<|A.bQ (A.l<|Ee A h i)<|A.l<|Ee A h i)<|.ao (A.and (A.bQ 0<|A.b .quo .i64 h 8)<|A.and (A.bQ (A.b .quo .i64 h 8)<|A.l j)<|A.bQ (A.l j)<|A.l j)<|.ret ((A.b .sub .i64 i h,A.spl (Ee A h i) 0<|A.s (A.s j (A.b .quo .i64 h 8)<|A.l j) 0<|A.mn (A.l<|A.s j (A.b .quo .i64 h 8)<|A.l j)<|A.b .sub .i64 (A.l<|Ee A h i) 0),0))<|.ak<|.c0 ⟨0,h,i,A.b .sub .i64 i h,l,j,0,A.b .sub .i64 i h⟩ h<|Ee A h i)<|.ak<|.c0 ⟨0,h,i,A.b .sub .i64 i h,l,j,0,A.b .sub .i64 i h⟩ h<|Ee A h i
def aaI(A:aS):adv->LT ((Int×List Int)×Int) adv
 | .c0 p a3 a9=>.br (A.bq a3 p.a2) (.ao (A.k CQ ((p.a5,p.a6),a3))<|.br (A.k Sw ((p.a5,p.a6),a3)) (.ao (A.and (A.bQ 0<|A.b .quo .i64 (A.b .sub .i64 (A.b .add .i64 p.a0 a3) p.a1) 8)<|A.bq (A.b .quo .i64 (A.b .sub .i64 (A.b .add .i64 p.a0 a3) p.a1) 8)<|A.l a9)<|.ao (A.k x_<|A.b .sub .i64 (A.b .add .i64 p.a0 a3) p.a1)<|.ao (A.and (A.bQ 0<|A.b .quo .i64 (A.b .sub .i64 (A.b .add .i64 p.a0 a3) p.a1) 8)<|A.bq (A.b .quo .i64 (A.b .sub .i64 (A.b .add .i64 p.a0 a3) p.a1) 8)<|A.l a9)<|.ak<|.c0 p (A.b .add .i64 a3 1)<|A.set a9 (A.b .quo .i64 (A.b .sub .i64 (A.b .add .i64 p.a0 a3) p.a1) 8)<|A.b .or .u8 (A.n yU a9 (A.b .quo .i64 (A.b .sub .i64 (A.b .add .i64 p.a0 a3) p.a1) 8):Int)<|A.k N0<|A.b .sub .i64 (A.b .add .i64 p.a0 a3) p.a1)<|.ak<|.c0 p (A.b .add .i64 a3 1) a9)<|.ret ((p.a8,a9),0)
def awY{p:Wm}{m:Nat}(l:p.a0=0)(v:0<=p.a1)(A:p.a2<=8*(p.a6.length:Int))(C:p.a2<=100000)(E:p.a2-p.a1<=8*(m:Int)):
  ∀(j:Nat) (i:Int) (B:List Int),p.a2-i<=(j:Int)->p.a1<=i->B.length=m->Go (aaI af) (.ak<|.c0 p i B) λ_=>True:=by
 intro j
 induction j with
 | zero=>exact λi B u _ _=>aP<|bH (λg=>by omega) λ_=>ay trivial
 | succ j ih=>
   intro i B u D h;refine aP (bH (λg=>aj (alO<|by omega)<|dO (λ_=>?_) λ_=>?_) λ_=>ay trivial)
   .rw[l,rV (a:=0)<|by omega,Ed (a:=0+i)<|by omega];have n1:=ix8 (x:=0+i-p.a1) (B:=B) (by omega);refine aj n1<|aj (alP<|by omega)<|aj n1 ?_;rw[rV (a:=i)<|by omega];exact ih (i+1) _ (by omega) (by omega)<|(cd ..).trans h
   .rw[rV (a:=i)<|by omega];exact ih (i+1) B (by omega) (by omega) h
def aoL{n a e:Int}{b:List Int}:Go (aaI af) (agd af n b a e) λ_=>True:=by
 unfold agd Ee;refine dD (λ_=>ay trivial) λh=>bH (λ_=>ay trivial) λj=>bH (λ_=>ay trivial) λl=>lM (λ_=>ay trivial) λp=>?_;have⟨c,d,f⟩:=Gm h;rw[Ed (a:=e)<|by omega,E3<|by omega,aay<|by omega]
 have i:∀x:Int,Go (aaI af) (.ak<|.c0 ⟨0,a,e,e-a,n,b,0,e-a⟩ a<|af.r ((e-a+7)/8) (0:Int)) λ_=>True:=λ_=>
  awY (m:=((e-a+7)/8).toNat) rfl j (by show e<=8*(b.length:Int);omega) (by show e<=_;omega) (by show e-a<=_;omega) (e-a).toNat a _ (by show e-a<=_;omega) (ai a) (by rw[uL,GU])
 refine aj (ZO<|by omega)<|dO (λ_=>dO (λ_=>aj ?_<|aj ?_<|ay trivial) λ_=>i 0) λ_=>i 0
 .rw[uL,bF,bF,ax,ax,ax];show(decide _&&(decide (_<=((List.replicate _ (0:Int)).length:Int))&&decide _))=true;simp;omega
 .rw[bF,bF,ax,ax,ax];show(decide _&&(decide (_<=(b.length:Int))&&decide _))=true;rw[bX<|by omega,bX<|by omega,bX<|ai _];rfl
def xK:((Int×List Int)×Int×Int)->((Int×List Int)×Int):=λ((n,b),a,e)=>gi (aaI af) (agd af n b a e) ((0,[]),0)
def asF:aL:=.all [(.struct [yI,yB]),yI,yI] [(.struct [yI,yB]),yI] xK
def ahF:Sd 319 asF:=fa<|bE ar dK sl 118 [⟨313,4,[[1,3,4,5,7,10],[6,8]]⟩] [] (λA ((l,j),i,u)=>agd A l j i u) aaI ajx (kz (fc func319 (fc func310 (fc func312 (fc func313 fz)))) (sc JK (sc TY (sc abh (sc T5 sz))))) (λA y=>match y with |.c0 p v B=>⟨57,sl,by kernel_rfl⟩) λ((l,j),i,u) C h=>Go.run aoL
variable{l:List (Int×List Int)}
def Ol(h:Ty.kS [(.slice<|.struct [(.int .i64),.slice<|.int .u8])] l):l.length<=140737488355328/\∀x∈l,oH x.2/\x.2.length<=140737488355328:=by
 have i:l.length<=gg/\∀x∈l,Ty.has (.struct [(.int .i64),.slice<|.int .u8]) x:=h;exact⟨i.1,λx j=>⟨(GG (n:=x.1) (b:=x.2)<|i.2 x j).2.2,(GG (n:=x.1) (b:=x.2)<|i.2 x j).2.1⟩⟩
variable{α:Type}
theorem fF{l:List α}{i:Nat}(h:i<l.length)(d:α):l.getD (i:Int).toNat d=l[i]:=by simp_all
theorem dA{l:List α}{i:Nat}(h:i<l.length):af.and (af.bQ 0 i) (af.bq i<|af.l l)=true:=by
 have:af.l l=(l.length:Int):=rfl;rw[this,ahn,bR,bF];simp_all
def auX(A:aS)(r:Int):LT Int Empty:=.br (A.bG (A.b .shr .u32 r 23) 1) (.ret<|A.b .xor .u32 (A.b .and .u32 (A.b .shl .u32 r 1) 16777215) 6122955)<|.ret<|A.b .and .u32 (A.b .shl .u32 r 1) 16777215
def Sz:Int->Int:=λr=>(auX af r).val<|Ty.aO [(.int .u32)]
def as3:aL:=.all [(.int .u32)] [(.int .u32)] Sz
def ahN:Sd 338 as3:=fa<|aN ar dK sl 35 [] (λA r=>auX A r)<|kz (fc func338 fz) sz
def an6{a:Int}(h:0<=a)(i:a<=4294967295):IntKind.u32.wrap a=a:=IntWalk.u32_in a ⟨h,i⟩
def aii{a b:Nat}(h:a<4294967296)(i:b<4294967296):af.b .xor .u32 (a:Int) (b:Int)=((a ^^^ b:Nat):Int):=by
 show IntKind.u32.wrap ((BitVec.ofInt 32 (a:Int) ^^^ BitVec.ofInt 32 b).toNat:Int)=_;rw[jd,jd,BitVec.toNat_xor,iK,iK,lC h,lC i];have:a ^^^ b<2^32:=Nat.xor_lt_two_pow h i;rw[an6 (by omega)<|by omega]
structure aiv where(a0 a1 a2 a3 a4 a5 a6 a7 a8 a9 mA pH a12 FD Nv Nw a16 a17 R9 R_ a20 a21 a22 a23 a24 a25 a26 a27 a28 a29 a30 a31 a32:Int)
structure Wp where(b0 b2 b4 b5 b6 b7 b8 b9 b10 b11 b12 b13 Nx E0 Ny za I7 Co V0 Dw Sf b23 b24 b25 b26 b27 b28 b29 b30 b31 b32 b33 b34 b35:Int)
inductive adA where|c0(p:aiv)|c1(p:Wp)(b1 b3:Int)
noncomputable def ajE:adA->iF
 | .c0 p=>⟨[iN 326 20 [(0,pZ 0),(1,pZ 1),(4,vi p.a0)] f326 116],[gZ [uZ p.a1,uZ p.a2,uZ p.a3,uZ p.a4,uZ p.a5,uZ p.a6,uZ p.a7,uZ p.a8,uZ p.a9,uZ p.mA,uZ p.pH,uZ p.a12,uZ p.FD,uZ p.Nv,uZ p.Nw,uZ p.a16],gZ [uZ p.a17,uZ p.R9,uZ p.R_,uZ p.a20,uZ p.a21,uZ p.a22,uZ p.a23,uZ p.a24,uZ p.a25,uZ p.a26,uZ p.a27,uZ p.a28,uZ p.a29,uZ p.a30,uZ p.a31,uZ p.a32],.aU]⟩
 | .c1 p b1 b3=>⟨[iN 326 20 [(0,pZ 0),(1,pZ 1),(2,vi p.b0),(3,uZ b1),(4,vi p.b2),(10,vi b3)] f326 119604],[gZ [uZ p.b4,uZ p.b5,uZ p.b6,uZ p.b7,uZ p.b8,uZ p.b9,uZ p.b10,uZ p.b11,uZ p.b12,uZ p.b13,uZ p.Nx,uZ p.E0,uZ p.Ny,uZ p.za,uZ p.I7,uZ p.Co],gZ [uZ p.V0,uZ p.Dw,uZ p.Sf,uZ p.b23,uZ p.b24,uZ p.b25,uZ p.b26,uZ p.b27,uZ p.b28,uZ p.b29,uZ p.b30,uZ p.b31,uZ p.b32,uZ p.b33,uZ p.b34,uZ p.b35],.aU]⟩
def auW(A:aS):LT (List Int) adA:=.ak<|.c0 ⟨0,0,0,0,0,0,0,0,0,0,0,0,0,0,0,0,0,0,0,0,0,0,0,0,0,0,0,0,0,0,0,0,0⟩
abbrev lF(A:aS)(p:Wp)(h:Int):=(A.set [p.V0,p.Dw,p.Sf,p.b23,p.b24,p.b25,p.b26,p.b27,p.b28,p.b29,p.b30,p.b31,p.b32,p.b33,p.b34,p.b35] p.b0 h)
def aqR(A:aS):adA->LT (List Int) adA
 | .c0 p=>.br (A.bq p.a0 16) (.ak<|.c1 ⟨p.a0,p.a0,p.a1,p.a2,p.a3,p.a4,p.a5,p.a6,p.a7,p.a8,p.a9,p.mA,p.pH,p.a12,p.FD,p.Nv,p.Nw,p.a16,p.a17,p.R9,p.R_,p.a20,p.a21,p.a22,p.a23,p.a24,p.a25,p.a26,p.a27,p.a28,p.a29,p.a30,p.a31,p.a32⟩ (A.b .shl .u32 (A.v .u32 p.a0) 20) 0)<|.ret [p.a17,p.R9,p.R_,p.a20,p.a21,p.a22,p.a23,p.a24,p.a25,p.a26,p.a27,p.a28,p.a29,p.a30,p.a31,p.a32]
 | .c1 p b1 b3=>.br (A.bq b3 4) (.ak<|.c1 p (A.k Sz b1)<|A.b .add .i64 b3 1)<|.ao (A.and (A.bQ 0 p.b0)<|A.bq p.b0 16)<|.ak<|.c0 ⟨A.b .add .i64 p.b2 1,p.b4,p.b5,p.b6,p.b7,p.b8,p.b9,p.b10,p.b11,p.b12,p.b13,p.Nx,p.E0,p.Ny,p.za,p.I7,p.Co,(A.n (.int .u32) (lF A p b1) 0:Int),(A.n (.int .u32) (lF A p b1) 1:Int),(A.n (.int .u32) (lF A p b1) 2:Int),(A.n (.int .u32) (lF A p b1) 3:Int),(A.n (.int .u32) (lF A p b1) 4:Int),(A.n (.int .u32) (lF A p b1) 5:Int),(A.n (.int .u32) (lF A p b1) 6:Int),(A.n (.int .u32) (lF A p b1) 7:Int),(A.n (.int .u32) (lF A p b1) 8:Int),(A.n (.int .u32) (lF A p b1) 9:Int),(A.n (.int .u32) (lF A p b1) 10:Int),(A.n (.int .u32) (lF A p b1) 11:Int),(A.n (.int .u32) (lF A p b1) 12:Int),(A.n (.int .u32) (lF A p b1) 13:Int),(A.n (.int .u32) (lF A p b1) 14:Int),(A.n (.int .u32) (lF A p b1) 15:Int)⟩
def goT{R Y:Type}(step:Y->LT R Y):Nat->LT R Y->Option R
 | 0,_=>none
 | _+1,.ret r=>some r
 | n+1,.ak y=>goT step n<|step y
 | n+1,.br b t e=>bif b then goT step n t else goT step n e
 | n+1,.ao b t=>bif b then goT step n t else none
 | _+1,_=>none
def Y8{R:Type}{step:Y->LT R Y}:∀{n:Nat} {t:LT R Y} {r:R},goT step n t=some r->bi step t r:=by
 intro n
 induction n with
 | zero=>intro t r h;cases h
 | succ n ih=>
   intro t r h;cases t with
   | ret x=>cases h;exact .ret _
   | ak y=>exact .ak<|ih h
   | br b t e=>
     cases b
     .exact(al rfl).2 (ih h)
     .exact(ap rfl).2 (ih h)
   | ao b t=>
     cases b
     .cases h
     .exact aA.2 ⟨rfl,ih h⟩
   | eqs p t=>cases h
   | and a b=>cases h
   | bU m s=>cases h
def RD:List Int:=[0,6122955,12245910,15185501,2677479,7714604,9568625,13593786,5354958,841733,15429208,11928467,7958313,2360034,12825791,10410356]
def anP:bi (aqR af) (auW af) RD:=Y8 (n:=400) (by kernel_rfl)
def rB:Unit->(List Int):=λ_=>[0,6122955,12245910,15185501,2677479,7714604,9568625,13593786,5354958,841733,15429208,11928467,7958313,2360034,12825791,10410356]
def as0:aL:=.all [] [(.arr 16<|.int .u32)] rB
def arj:Sd 326 as0:=fa<|bE ar dK sl 21 [⟨326,3,[[0,1,4]]⟩,⟨326,7,[[0,1,2,3,4,10]]⟩] [] (λA _=>auW A) aqR ajE (kz (fc func326 fz) (sc ahN sz)) (λA y=>match y with |.c0 p=>⟨34,sl,by kernel_rfl⟩|.c1 p b1 b3=>⟨25,sl,by kernel_rfl⟩) λ_ i h=>anP
structure air where(a0:Int)(a1:List (Int×List Int))(a2 a3 a4 a5 a6 a7 a8 a9 mA pH a12 FD Nv Nw a16 a17 R9 R_:Int)
structure Wn where(b2:List (Int×List Int))(b3 b4 b5 b6 b7 b8 b9 b10 b11 b12 b13 Nx E0 Ny za I7 Co V0 Dw:Int)(Sf:List Int)
structure Wo where(c2:List (Int×List Int))(c3 c4 c5:Int)(c6:List Int)(c7 c8 c9 c10 c11 c12 c13 c14 Je c16 PR c18 c19 c20 c21 c22:Int)
inductive adx where|c0(p:air)|c1(p:Wn)(b0 b1:Int)|c2(p:Wo)(c0 c1:Int)
noncomputable def ajB:adx->iF
 | .c0 p=>⟨[iN 311 26 [(4,pZ 0),(5,uZ p.a0),(10,.sl (.struct [yI,yB]) p.a1),(11,vi p.a2),(12,vi p.a3)] f311 244],[gZ [uZ p.a4,uZ p.a5,uZ p.a6,uZ p.a7,uZ p.a8,uZ p.a9,uZ p.mA,uZ p.pH,uZ p.a12,uZ p.FD,uZ p.Nv,uZ p.Nw,uZ p.a16,uZ p.a17,uZ p.R9,uZ p.R_],.aU]⟩
 | .c1 p b0 b1=>⟨[iN 327 57 [(0,uZ b0),(2,pZ 0),(4,pZ 1),(7,vi b1)] f327 56,Jr 311 26 [(4,pZ 0),(10,.sl (.struct [yI,yB]) p.b2),(11,vi p.b3),(12,vi p.b4)] f311 15667 2],[gZ [uZ p.b5,uZ p.b6,uZ p.b7,uZ p.b8,uZ p.b9,uZ p.b10,uZ p.b11,uZ p.b12,uZ p.b13,uZ p.Nx,uZ p.E0,uZ p.Ny,uZ p.za,uZ p.I7,uZ p.Co,uZ p.V0],gZ [vi p.Dw,.sl yU p.Sf],.aU]⟩
 | .c2 p c0 c1=>⟨[iN 327 57 [(0,uZ c0),(4,pZ 0),(7,vi c1)] f327 120,Jr 311 26 [(4,pZ 1),(10,.sl (.struct [yI,yB]) p.c2),(11,vi p.c3),(12,vi p.c4)] f311 15667 2],[gZ [vi p.c5,.sl yU p.c6],gZ [uZ p.c7,uZ p.c8,uZ p.c9,uZ p.c10,uZ p.c11,uZ p.c12,uZ p.c13,uZ p.c14,uZ p.Je,uZ p.c16,uZ p.PR,uZ p.c18,uZ p.c19,uZ p.c20,uZ p.c21,uZ p.c22],.aU]⟩
def amS(A:aS)(l:List<|Int×List Int):LT (Int×Int) adx:=.ak<|.c0 ⟨0,l,A.l l,0,(A.n (.int .u32) (A.k rB ()) 0:Int),(A.n (.int .u32) (A.k rB ()) 1:Int),(A.n (.int .u32) (A.k rB ()) 2:Int),(A.n (.int .u32) (A.k rB ()) 3:Int),(A.n (.int .u32) (A.k rB ()) 4:Int),(A.n (.int .u32) (A.k rB ()) 5:Int),(A.n (.int .u32) (A.k rB ()) 6:Int),(A.n (.int .u32) (A.k rB ()) 7:Int),(A.n (.int .u32) (A.k rB ()) 8:Int),(A.n (.int .u32) (A.k rB ()) 9:Int),(A.n (.int .u32) (A.k rB ()) 10:Int),(A.n (.int .u32) (A.k rB ()) 11:Int),(A.n (.int .u32) (A.k rB ()) 12:Int),(A.n (.int .u32) (A.k rB ()) 13:Int),(A.n (.int .u32) (A.k rB ()) 14:Int),(A.n (.int .u32) (A.k rB ()) 15:Int)⟩
def HZ(A:aS):adx->LT (Int×Int) adx
 | .c0 p=>.br (A.bq p.a3 p.a2) (.ao (A.and (A.bQ 0 p.a3)<|A.bq p.a3<|A.l p.a1)<|.br (A.cm (A.k tV (A.n (.struct [yI,yB]) p.a1 p.a3:Int×List Int)) 0) (.ret (0,A.k tV (A.n (.struct [yI,yB]) p.a1 p.a3:Int×List Int)))<|.ak<|.c1 ⟨p.a1,p.a2,p.a3,p.a4,p.a5,p.a6,p.a7,p.a8,p.a9,p.mA,p.pH,p.a12,p.FD,p.Nv,p.Nw,p.a16,p.a17,p.R9,p.R_,(A.n (.struct [yI,yB]) p.a1 p.a3:Int×List Int).1,(A.n (.struct [yI,yB]) p.a1 p.a3:Int×List Int).2⟩ p.a0 0)<|.ret (p.a0,0)
 | .c1 p b0 b1=>.br (A.bQ (A.b .add .i64 b1 4) p.Dw) (.ao (A.and (A.bQ 0<|A.b .xor .u32 (A.b .shr .u32 b0 20)<|A.v .u32 (A.k iB ((p.Dw,p.Sf),b1,4)).1)<|A.bq (A.b .xor .u32 (A.b .shr .u32 b0 20)<|A.v .u32 (A.k iB ((p.Dw,p.Sf),b1,4)).1) 16)<|.ak<|.c1 p (A.b .xor .u32 (A.b .and .u32 (A.b .shl .u32 b0 4) 16777215) (A.n (.int .u32) [p.b5,p.b6,p.b7,p.b8,p.b9,p.b10,p.b11,p.b12,p.b13,p.Nx,p.E0,p.Ny,p.za,p.I7,p.Co,p.V0] (A.b .xor .u32 (A.b .shr .u32 b0 20)<|A.v .u32 (A.k iB ((p.Dw,p.Sf),b1,4)).1):Int))<|A.b .add .i64 b1 4)<|.ak<|.c2 ⟨p.b2,p.b3,p.b4,p.Dw,p.Sf,p.b5,p.b6,p.b7,p.b8,p.b9,p.b10,p.b11,p.b12,p.b13,p.Nx,p.E0,p.Ny,p.za,p.I7,p.Co,p.V0⟩ b0 b1
 | .c2 p c0 c1=>.br (A.bq c1 p.c5) (.ak<|.c2 p (A.k Sz<|A.b .xor .u32 c0<|A.b .shl .u32 (A.v .u32 (A.k iB ((p.c5,p.c6),c1,1)).1) 23)<|A.b .add .i64 c1 1)<|.ak<|.c0 ⟨c0,p.c2,p.c3,A.b .add .i64 p.c4 1,p.c7,p.c8,p.c9,p.c10,p.c11,p.c12,p.c13,p.c14,p.Je,p.c16,p.PR,p.c18,p.c19,p.c20,p.c21,p.c22⟩
abbrev Rg(r:Int):Prop:=0<=r/\r<16777216
def ada{a b:Int}(h:Rg a)(i:Rg b):Rg<|af.b .xor .u32 a b:=by
 obtain⟨a,rfl⟩:=a_ h.1;obtain⟨b,rfl⟩:=a_ i.1;have:a ^^^ b<2^24:=Nat.xor_lt_two_pow (by have:=h.2;omega) (by have:=i.2;omega);rw[aii (by have:=h.2;omega) (by have:=i.2;omega)];exact⟨Int.natCast_nonneg _,by omega⟩
def PK{a:Int}:Rg<|af.b .and .u32 a 16777215:=by
 show Rg<|IntKind.u32.wrap ((BitVec.ofInt 32 a &&& BitVec.ofInt 32 ((16777215:Nat):Int)).toNat:Int);rw[jd,BitVec.toNat_and,iK];have:(BitVec.ofInt 32 a).toNat &&& (16777215%2^32)<=16777215:=Nat.and_le_right;rw[an6 (by omega)<|by omega];exact⟨Int.natCast_nonneg _,by omega⟩
def aqO{r:Int}:Rg<|af.k Sz r:=by
 show Rg<|bif af.bG (af.b .shr .u32 r 23) 1 then _ else _;cases af.bG (af.b .shr .u32 r 23) 1
 .exact PK
 .exact ada PK ⟨by decide,by decide⟩
def anO{i:Int}:Rg (af.n (.int .u32) RD i:Int):=by
 show Rg<|RD.getD i.toNat 0;by_cases h:i.toNat<16
 .exact(by decide +kernel:∀k:Fin 16,Rg<|RD.getD k.val 0) ⟨i.toNat,h⟩
 .rw[GB,kU<|show RD.length<=_ from(by show 16<=_;omega)];exact⟨by decide,by decide⟩
def agH{L:List Int}{i:Int}(h:L=RD):Rg (af.n (.int .u32) L i:Int):=by rw[h];exact anO
def awt{n a w:Int}{b:List Int}:0<=(af.k iB ((n,b),a,w)).1/\(af.k iB ((n,b),a,w)).1<2^w.toNat:=(gm (d:=(0,0))<|ahc (n:=n) (a:=a) (w:=w) (b:=b)).2
def aoy{p:Wo}(v:p.c5<=10000)(l:∀r,Rg r->Go (HZ af) (.ak<|.c0 ⟨r,p.c2,p.c3,af.b .add .i64 p.c4 1,p.c7,p.c8,p.c9,p.c10,p.c11,p.c12,p.c13,p.c14,p.Je,p.c16,p.PR,p.c18,p.c19,p.c20,p.c21,p.c22⟩) λ_=>True):
  ∀(j:Nat) (x i:Int),p.c5-i<=(j:Int)->0<=i->Rg x->Go (HZ af) (.ak<|.c2 p x i) λ_=>True:=by
 intro j
 induction j with
 | zero=>exact λx i u _ h=>aP<|bH (λg=>by omega) λ_=>l x h
 | succ j ih=>
   intro x i u A h;refine aP (bH (λg=>?_) λ_=>l x h);rw[rV (a:=i)<|by omega];exact ih _ (i+1) (by omega) (by omega) aqO
def aox{p:Wn}(F:[p.b5,p.b6,p.b7,p.b8,p.b9,p.b10,p.b11,p.b12,p.b13,p.Nx,p.E0,p.Ny,p.za,p.I7,p.Co,p.V0]=RD)(D:p.Dw<=10000)(C:∀r,Rg r->Go (HZ af) (.ak<|.c0 ⟨r,p.b2,p.b3,af.b .add .i64 p.b4 1,p.b5,p.b6,p.b7,p.b8,p.b9,p.b10,p.b11,p.b12,p.b13,p.Nx,p.E0,p.Ny,p.za,p.I7,p.Co,p.V0⟩) λ_=>True):
  ∀(j:Nat) (x i:Int),p.Dw-i<=(j:Int)->0<=i->i<=20000->Rg x->Go (HZ af) (.ak<|.c1 p x i) λ_=>True:=by
 intro j
 have u:∀x i:Int,0<=i->Rg x->Go (HZ af) (.ak<|.c2 ⟨p.b2,p.b3,p.b4,p.Dw,p.Sf,p.b5,p.b6,p.b7,p.b8,p.b9,p.b10,p.b11,p.b12,p.b13,p.Nx,p.E0,p.Ny,p.za,p.I7,p.Co,p.V0⟩ x i) λ_=>True:=λx i l h=>
  aoy D C (p.Dw-i).toNat x i (by show p.Dw-i<=_;omega) l h
 induction j with
 | zero=>
   refine λx i E l B h=>aP ?_;rw[HZ,rV (a:=i)<|by omega];exact Ag (λg=>by omega) λ_=>u x i l h
 | succ j ih=>
   intro x i E l B h;refine aP ?_;rw[HZ,rV (a:=i) (by omega)];refine Ag (λg=>aj ?_ ?_) λ_=>u x i l h
   .have⟨J,A⟩:=awt (n:=p.Dw) (b:=p.Sf) (a:=i) (w:=4);have A:(af.k iB ((p.Dw,p.Sf),i,4)).1<16:=A;have⟨v,H⟩:=a_ J;obtain⟨x,rfl⟩:=a_ h.1;have I:x<16777216:=by have:=h.2;omega
    rw[H,abK,an6 (by omega)<|by omega,show af.b .shr .u32 x 20=((x/2^20:Nat):Int) from aq0 (n:=20) (by omega)<|by decide,aii (by omega)<|by omega];have:x/2^20 ^^^ v<2^4:=Nat.xor_lt_two_pow (by omega) (by omega);rw[bF,ax,bl,bX<|by omega,bX<|by omega];rfl
   .refine ih _ (i+4) (by omega) (by omega) (by omega)<|ada PK ?_;exact agH F
def aow(C:l.length<=140737488355328):∀(j i:Nat) (r:Int),l.length-i=j->i<=l.length->Rg r->
  Go (HZ af) (.ak<|.c0 ⟨r,l,af.l l,(i:Int),0,6122955,12245910,15185501,2677479,7714604,9568625,13593786,5354958,841733,15429208,11928467,7958313,2360034,12825791,10410356⟩) λ_=>True:=by
 intro j
 induction j with
 | zero=>exact λi r v u _=>aP<|bH (λg=>by have g:(i:Int)<(l.length:Int):=g;omega) λ_=>ay trivial
 | succ j ih=>
   intro i r v u B;have p:i<l.length:=by omega
   refine aP<|bH (λ_=>aj (dA p)<|dD (λ_=>ay trivial) λh=>?_) λ_=>ay trivial;rw[show(af.n (.struct [(.int .i64),.slice<|.int .u8]) l (i:Int):Int×List Int)=l[i] from fF p _] at h ⊢;generalize l[i]=x at h ⊢;have⟨n,b⟩:=x;have⟨a,c,e⟩:=Gm h;refine aox rfl (by show n<=_;omega) (λq A=>?_) n.toNat r 0 (by show n-0<=_;omega) (ai 0) (by decide) B;rw[jN (i:=i)<|by omega];exact ih (i+1) q (by omega) (by omega) A
def aoM(h:l.length<=140737488355328):Go (HZ af) (amS af l) λ_=>True:=aow h l.length 0 0 rfl (aQ _) ⟨by decide,by decide⟩
def Ga:(List<|Int×List Int)->(Int×Int):=λl=>gi (HZ af) (amS af l) (0,0)
def asQ:aL:=.all [(.slice<|.struct [yI,yB])] [(.int .u32),yI] Ga
def ahK:Sd 311 asQ:=fa<|bE ar dK sl 30 [⟨311,4,[[4,5,10,11,12]]⟩,⟨327,2,[[0,2,4,7],[4,10,11,12]]⟩,⟨327,6,[[0,4,7],[4,10,11,12]]⟩] [] (λA l=>amS A l) HZ ajB (kz (fc func311 (fc func327 fz)) (sc JK (sc T3 (sc arj (sc ahN sz))))) (λA y=>match y with |.c0 p=>⟨52,sl,by kernel_rfl⟩|.c1 p b0 b1=>⟨52,sl,by kernel_rfl⟩|.c2 p c0 c1=>⟨44,sl,by kernel_rfl⟩) λl i h=>Go.run<|aoM (Ol h).1
abbrev Pf(A:aS)(h:Int)(i:List Int):=(A.k xK ((h,i),0,A.b .sub .i64 h 24))
def t139(A:aS)(j:Int)(l:List Int)(i:Int)(h:List Int):LT ((Int×List Int)×Int) Empty:=.br (A.cm (A.k tV (j,l)) 0) (.ret ((0,([]:List Int)),10))<|.br (A.cm (A.k tV (i,h)) 0) (.ret ((0,([]:List Int)),10))<|.br (A.bq j 24) (.ret ((0,([]:List Int)),20))<|.br (A.cm (A.k Ga [(i,h),(Pf A j l).1]).2 0) (.ret ((0,([]:List Int)),(A.k Ga [(i,h),(Pf A j l).1]).2))<|.br (A.cm (A.v .u64 (A.k Ga [(i,h),(Pf A j l).1]).1) (A.k iB ((j,l),(Pf A j l).1.1,24)).1) (.ret ((0,([]:List Int)),21))<|.ret ((Pf A j l).1,0)
def rA:((Int×List Int)×(Int×List Int))->((Int×List Int)×Int):=λ((l,j),i,h)=>(t139 af l j i h).val<|Ty.aO [(.struct [yI,yB]),yI]
def asE:aL:=.all [(.struct [yI,yB]),.struct [yI,yB]] [(.struct [yI,yB]),yI] rA
def arb:Sd 318 asE:=fa<|aN ar dK sl 100 [] (λA ((l,j),i,h)=>t139 A l j i h)<|kz (fc func318 fz)<|sc JK<|sc T3<|sc ahF<|sc ahK sz
def auP(A:aS)(l:Int)(p:Int)(i:Int)(j:Int)(h:Int):LT (List Int) Empty:=.ret [l,p,i,j,h]
def Kc:(Int×Int×Int×Int×Int)->(List Int):=λ(l,p,i,j,h)=>(auP af l p i j h).val<|Ty.aO [(.arr 5 yI)]
def asy:aL:=.all [(.struct [yI,yI,yI,yI,yI])] [(.arr 5 yI)] Kc
def aq9:Sd 248 asy:=fa<|aN ar dK sl 26 [] (λA (l,p,i,j,h)=>auP A l p i j h)<|kz (fc func248 fz) sz
structure agS where(a0 a1 a2 a3 a4 a6 a7 a8 a9 mA:Int)
inductive Y87 where|c0(p:agS)(a5:Int)
noncomputable def aos:Y87->iF
 | .c0 p a5=>⟨[iN 195 36 [(5,pZ 0),(21,.agg [vi p.a0,vi p.a1,vi p.a2,vi p.a3,vi p.a4]),(22,vi a5)] f195 244],[gZ [vi p.a6,vi p.a7,vi p.a8,vi p.a9,vi p.mA],.aU]⟩
def t87(A:aS)(l:Int)(p:Int)(i:Int)(j:Int)(h:Int)(n:Int):LT Int Y87:=.br (A.bq n 4) (.ret 2)<|.br (A.jr n 8) (.ret 2)<|.ao (A.bQ 0 n)<|.ak<|.c0 ⟨(A.n yI (A.k Kc (l,p,i,j,h)) 0:Int),(A.n yI (A.k Kc (l,p,i,j,h)) 1:Int),(A.n yI (A.k Kc (l,p,i,j,h)) 2:Int),(A.n yI (A.k Kc (l,p,i,j,h)) 3:Int),(A.n yI (A.k Kc (l,p,i,j,h)) 4:Int),255,A.b .sub .i64 n 1,3,4,A.b .sub .i64 (A.b .shl .i64 1 n) 1⟩ 0
def s87(A:aS):Y87->LT Int Y87
 | .c0 p a5=>.br (A.bq a5 5) (.ao (A.and (A.bQ 0 a5)<|A.bq a5 5)<|.br (A.bq (A.n yI [p.a0,p.a1,p.a2,p.a3,p.a4] a5:Int) 0) (.ret 40)<|.ao (A.and (A.bQ 0 a5)<|A.bq a5 5)<|.br (A.jr (A.n yI [p.a0,p.a1,p.a2,p.a3,p.a4] a5:Int) (A.n yI [p.a6,p.a7,p.a8,p.a9,p.mA] a5:Int)) (.ret 40)<|.ak<|.c0 p<|A.b .add .i64 a5 1)<|.ret 0
def aqZ{k:Nat}(h:k<=60):af.b .shl .i64 1 (k:Int)=((2^k:Nat):Int):=by
 show IntKind.i64.wrap ((1:Int)*2^min (k:Int).toNat 64)=_;have:2^k<=2^60:=fZ (by decide) h;have e:(2:Int)^k=((2^k:Nat):Int):=by simp
 rw[y7,jT<|by omega,Int.one_mul,e];generalize 2^k=q at this;rw[my (by omega)<|by omega]
def aov{u x:Int}(h:u=v):af.bq u x=decide (v<x):=by rw[h];rfl
def aou{u h i:Int}(j:u=h)(l:v=i):af.jr u v=decide (i<h):=by rw[j,l];rfl
theorem xA{p:agS}{i m r:Int}(A:0<=i)(E:i<5)(h:(af.n (.int .i64) [p.a0,p.a1,p.a2,p.a3,p.a4] i:Int)=v)(l:(af.n (.int .i64) [p.a6,p.a7,p.a8,p.a9,p.mA] i:Int)=m)
  (B:(decide (0<=v)&&decide (v<=m))=true->bi (s87 af) (.ak<|.c0 p<|i+1) r) (j:(decide (0<=v)&&decide (v<=m))=false->r=40):bi (s87 af) (.ak<|.c0 p i) r:=by
 rw[aI,s87];have u:af.and (af.bQ 0 i) (af.bq i 5)=true:=by rw[bF,ax,bl];simp_all
 refine(ap (by rw[bl];simp_all)).2 (aA.2 ⟨u,?_⟩);by_cases C:v<0
 .refine(ap<|(aov h).trans<|by simp_all).2 ?_;rw[j<|by grind];exact .ret _
 .refine(al<|(aov h).trans<|by simp_all).2 (aA.2 ⟨u,?_⟩);by_cases D:m<v
  .refine(ap<|(aou h l).trans<|by simp_all).2 ?_;rw[j<|by simp_all];exact .ret _
  .refine(al<|(aou h l).trans<|by simp_all).2 ?_;rw[gB,my (by omega)<|by omega]
   simp_all
variable{t:Int}
theorem awk{p m n s k:Int}:bi (s87 af) (t87 af t p m n s k)<|rz ((t,p,m,n,s),k):=by
 rw[rz];by_cases A:k<4
 .refine(ap (by rw[bl];simp_all)).2 ?_;rw[show decide (k<4)=true from by simp_all];exact .ret _
 refine(al (by rw[bl];simp_all)).2 ?_;by_cases B:8<k
 .refine(ap (by rw[gD];simp_all)).2 ?_;rw[show decide (8<k)=true from by simp_all,mF];exact .ret _
 refine(al (by rw[gD];simp_all)).2 (aA.2 ⟨by rw[ax];grind,?_⟩);rw[show decide (k<4)=false from by simp_all,show decide (8<k)=false from by simp_all,Bool.or_false,cond_false];have h:af.b .sub .i64 k 1=k-1:=by rw[ia,my (by omega)<|by omega]
 have l:af.b .sub .i64 (af.b .shl .i64 1 k) 1=2^k.toNat-1:=by
  obtain⟨j,rfl⟩:=a_ (show 0<=k by omega);have C:2^j<=2^60:=fZ (by decide) (by omega);have u:=Nat.two_pow_pos j;have e:(2:Int)^j=((2^j:Nat):Int):=by simp
  rw[aqZ<|by omega,y7,e];rw[ia,my (by omega)<|by omega]
 rw[h,l];refine xA (v:=t) (m:=255) (by decide) (by decide) rfl rfl (λg=>?_) (λg=>by grind);rw[g,Bool.true_and];refine xA (i:=1) (v:=p) (m:=k-1) (by decide) (by decide) rfl rfl (λg=>?_) (λg=>by grind);rw[g,Bool.true_and];refine xA (i:=2) (v:=m) (m:=3) (by decide) (by decide) rfl rfl (λg=>?_) (λg=>by grind);rw[g,Bool.true_and];refine xA (i:=3) (v:=n) (m:=4) (by decide) (by decide) rfl rfl (λg=>?_) (λg=>by rw[g];rfl);rw[g,dC];refine xA (i:=4) (v:=s) (m:=2^k.toNat-1) (by decide) (by decide) rfl rfl (λg=>?_) (λg=>by grind);rw[g,aI,s87];exact(al rfl).2 (.ret _)
def vy:((Int×Int×Int×Int×Int)×Int)->Int:=rz
def axA:aL:=.all [(.struct [yI,yI,yI,yI,yI]),yI] [yI] vy
def JJ:Sd 195 axA:=fa<|bE ar dK sl 43 [⟨195,5,[[5,21,22]]⟩] [] (λA ((u,v,j,l,i),n)=>t87 A u v j l i n) s87 aos (kz (fc func195 fz) (sc aq9 sz)) (λA y=>match y with |.c0 p B=>⟨41,sl,by kernel_rfl⟩) λ((u,v,j,l,i),n) C h=>awk
abbrev acF(A:aS)(h:Int):=(A.k ui ((0,([]:List Int)),A.v .u64 h,8))
abbrev anN(A:aS)(i:Int)(j:Int)(h:Int):=(A.k ui ((A.k ui ((acF A i).1,A.v .u64 j,3)).1,A.v .u64 h,2))
abbrev acG(A:aS)(j:Int)(l:Int)(h:Int)(i:Int):=(A.k ui ((anN A j l h).1,A.v .u64 i,3))
def t90(A:aS)(h:Int)(j:Int)(i:Int)(p:Int)(l:Int):LT ((Int×List Int)×Int) Empty:=.br (A.cm (A.k vy ((h,j,i,p,l),8)) 0) (.ret ((0,([]:List Int)),40))<|.br (A.cm (acF A h).2 0) (.ret ((0,([]:List Int)),(acF A h).2))<|.br (A.cm (A.k ui ((acF A h).1,A.v .u64 j,3)).2 0) (.ret ((0,([]:List Int)),(A.k ui ((acF A h).1,A.v .u64 j,3)).2))<|.br (A.cm (anN A h j i).2 0) (.ret ((0,([]:List Int)),(anN A h j i).2))<|.br (A.cm (acG A h j i p).2 0) (.ret ((0,([]:List Int)),(acG A h j i p).2))<|.br (A.cm (A.k ui ((acG A h j i p).1,A.v .u64 l,8)).2 0) (.ret ((0,([]:List Int)),(A.k ui ((acG A h j i p).1,A.v .u64 l,8)).2))<|.ret ((A.k ui ((acG A h j i p).1,A.v .u64 l,8)).1,0)
def Oh:(Int×Int×Int×Int×Int)->((Int×List Int)×Int):=λ(l,p,i,j,h)=>(t90 af l p i j h).val<|Ty.aO [(.struct [yI,yB]),yI]
def axB:aL:=.all [(.struct [yI,yI,yI,yI,yI])] [(.struct [yI,yB]),yI] Oh
def aso:Sd 223 axB:=fa<|aN ar dK sl 335 [] (λA (l,p,i,j,h)=>t90 A l p i j h)<|kz (fc func223<|fc func248<|fc func274 fz)<|sc JJ<|sc abg sz
def auM(A:aS)(h:Int)(i:List Int):LT ((Int×Int×Int×Int×Int)×Int) Empty:=.br (A.cm (A.k tV (h,i)) 0) (.ret ((0,0,0,0,0),10))<|.br (A.cm h 24) (.ret ((0,0,0,0,0),40))<|.br (A.cm (A.k iB ((h,i),0,8)).2 0) (.ret ((0,0,0,0,0),(A.k iB ((h,i),0,8)).2))<|.br (A.cm (A.k iB ((h,i),8,3)).2 0) (.ret ((0,0,0,0,0),(A.k iB ((h,i),8,3)).2))<|.br (A.cm (A.k iB ((h,i),11,2)).2 0) (.ret ((0,0,0,0,0),(A.k iB ((h,i),11,2)).2))<|.br (A.cm (A.k iB ((h,i),13,3)).2 0) (.ret ((0,0,0,0,0),(A.k iB ((h,i),13,3)).2))<|.br (A.cm (A.k iB ((h,i),16,8)).2 0) (.ret ((0,0,0,0,0),(A.k iB ((h,i),16,8)).2))<|.br (A.cm (A.k vy ((A.v .i64 (A.k iB ((h,i),0,8)).1,A.v .i64 (A.k iB ((h,i),8,3)).1,A.v .i64 (A.k iB ((h,i),11,2)).1,A.v .i64 (A.k iB ((h,i),13,3)).1,A.v .i64 (A.k iB ((h,i),16,8)).1),8)) 0) (.ret ((0,0,0,0,0),40))<|.ret ((A.v .i64 (A.k iB ((h,i),0,8)).1,A.v .i64 (A.k iB ((h,i),8,3)).1,A.v .i64 (A.k iB ((h,i),11,2)).1,A.v .i64 (A.k iB ((h,i),13,3)).1,A.v .i64 (A.k iB ((h,i),16,8)).1),0)
def DI:(Int×List Int)->((Int×Int×Int×Int×Int)×Int):=λ(i,h)=>(auM af i h).val<|Ty.aO [(.struct [yI,yI,yI,yI,yI]),yI]
def ass:aL:=.all [(.struct [yI,yB])] [(.struct [yI,yI,yI,yI,yI]),yI] DI
def aq6:Sd 295 ass:=fa<|aN ar dK sl 377 [] (λA (i,h)=>auM A i h)<|kz (fc func295<|fc func274 fz)<|sc JJ<|sc JK<|sc T3 sz
abbrev agm(A:aS)(h:Int):LT Int Empty:=(.br (A.not<|A.bG h 0) (.ret 50)<|.ret 0)
def t57(A:aS)(l:Int)(C:Int)(j:Int)(B:Int)(u:Int)(v:Int)(i:Int)(h:Int)(p:List Int):LT Int Empty:=.br (A.cm (A.k vy ((j,B,u,v,i),8)) 0) (.ret 50)<|.br (A.bq C 0) (.ret 50)<|.br (A.jr C 4) (.ret 50)<|.br (A.jr (A.l p) 8) (.ret 50)<|.br (A.bG l 1) (.br (A.bG C 0) (.br (A.bG (A.l p) 0) (.br (A.qE h 0) (.br (A.bq h 8) (.br (A.not<|A.and (A.bG j j)<|A.and (A.bG B 0)<|A.and (A.bG u 0)<|A.and (A.bG v 0)<|A.and (A.bG i 0) true) (.ret 50)<|.ret 0)<|.ret 50)<|.ret 50)<|.ret 50)<|.ret 50)<|.br (A.bG l 3) (.br (A.bG (A.l p) 0) (agm A h)<|.ret 50)<|.br (A.bG l 2) (agm A h)<|.br (A.bG l 4) (agm A h)<|.ret 50
def xj:(Int×Int×(Int×Int×Int×Int×Int)×Int×List Int)->Int:=λ(A,B,(l,p,i,j,h),v,u)=>(t57 af A B l p i j h v u).val<|Ty.aO [yI]
def axp:aL:=.all [(.struct [yI,yI,.struct [yI,yI,yI,yI,yI],yI,yB])] [yI] xj
def ar1:Sd 222 axp:=fa<|aN ar dK sl 109 [] (λA (B,C,(l,p,i,j,h),v,u)=>t57 A B C l p i j h v u)<|kz (fc func222 fz)<|sc JJ sz
abbrev ab5(A:aS)(i:Int)(h:Int):LT Int Empty:=(.br (A.bG i 2) (.ret<|A.b .add .i64 29<|A.b .mul .i64 8 h)<|.br (A.bG i 4) (.ret<|A.b .add .i64 79<|A.b .mul .i64 8 h)<|.ret 0)
def t56(A:aS)(i:Int)(h:Int):LT Int Empty:=.br (A.bq h 0) (.ret 0)<|.br (A.jr h 8) (.ret 0)<|.br (A.bG i 1) (.br (A.bG h 0) (.ret 40)<|.br (A.bG i 3) (ab5 A i h)<|ab5 A i h)<|.br (A.bG i 3) (.br (A.bG h 0) (.ret 54)<|ab5 A i h)<|ab5 A i h
def xh:(Int×Int)->Int:=λ(i,h)=>(t56 af i h).val<|Ty.aO [yI]
def axo:aL:=.all [yI,yI] [yI] xh
def aw8:Sd 84 axo:=fa<|aN ar dK (.kP [0,0,0,0,0,2]) 67 [] (λA (i,h)=>t56 A i h)<|kz (fc func84 fz) sz
def t59(A:aS)(i:Int)(h:Int):LT Int Empty:=.br (A.bq h 0) (.ret 0)<|.br (A.jr h 8) (.ret 0)<|.br (A.bG i 1) (.br (A.bG h 0) (.ret 40)<|.ret 0)<|.br (A.bG i 2) (.ret<|A.b .add .i64 29<|A.b .mul .i64 8 h)<|.br (A.bG i 3) (.br (A.bG h 0) (.ret 54)<|.ret 0)<|.br (A.bG i 4) (.ret<|A.b .add .i64 79<|A.b .mul .i64 8 h)<|.ret 0
def Qa:(Int×Int)->Int:=λ(i,h)=>(t59 af i h).val<|Ty.aO [yI]
def axq:aL:=.all [yI,yI] [yI] Qa
def aw9:Sd 52 axq:=fa<|aN ar dK sl 59 [] (λA (i,h)=>t59 A i h)<|kz (fc func52 fz) sz
theorem aeH{k r p m n s h:Int}{d:List Int}:xj (k,r,(t,p,m,n,s),h,d)=bif Ae (k,r,(t,p,m,n,s),h,d) then 0 else 50:=by
 have j:af.cm (af.k vy ((t,p,m,n,s),8)) 0=!Ie (t,p,m,n,s):=by
  rw[show af.k vy ((t,p,m,n,s),8)=bif Ie (t,p,m,n,s) then 0 else 40 from aku (t,p,m,n,s)];cases Ie (t,p,m,n,s)<;>rfl
 have l:af.l d=(d.length:Int):=rfl;have i:=Y1 (k:=k) (r:=r) (t:=t) (p:=p) (m:=m) (n:=n) (s:=s) (fr:=h) (d:=d);have u:(t==t&&(p==0&&(m==0&&(n==0&&(s==0&&true)))))=decide (p=0/\m=0/\n=0/\s=0):=by grind
 simp[xj,t57,agm,LT.val,bf,bl,gD,kQ,bF,ji]
 grind
variable{d:Int}
theorem O4{k:Int}:xh (k,d)=TU (k,d)/\Qa (k,d)=TU (k,d):=by
 have j:0<=d/\d<=8->∀c:Int,c=29\/c=79->af.b .add .i64 c (af.b .mul .i64 8 d)=c+8*d:=by
  intro h c i;rw[jh,my (by omega)<|by omega,gB,my (by omega)<|by omega]
 constructor
 .simp[xh,t56,ab5,LT.val,bf,bl,gD,TU]
  grind
 .simp[Qa,t59,LT.val,bf,bl,gD,TU]
  grind
def auJ(A:aS)(n:Int)(h:Int):LT Bool Empty:=.br (A.bG h 1) (.ret<|A.bG n 40)<|.br (A.bG h 3) (.ret<|A.bG n 54)<|.br (A.bG h 2) (.br (A.qE (A.b .sub .i64 n 29) 0) (.br (A.bQ (A.b .sub .i64 n 29) 64) (.ret<|A.bG (A.b .rem .i64 (A.b .sub .i64 n 29) 8) 0)<|.ret false)<|.ret false)<|.br (A.qE (A.b .sub .i64 n 79) 0) (.br (A.bQ (A.b .sub .i64 n 79) 64) (.ret<|A.bG (A.b .rem .i64 (A.b .sub .i64 n 79) 8) 0)<|.ret false)<|.ret false
def agZ:(Int×Int)->Bool:=λ(n,h)=>(auJ af n h).val<|Ty.aO [.bool]
def asq:aL:=.all [yI,yI] [.bool] agZ
def aq4:Sd 292 asq:=fa<|aN ar dK sl 54 [] (λA (n,h)=>auJ A n h)<|kz (fc func292 fz) sz
abbrev Pe(A:aS)(i:Int)(h:List Int):=(A.k xK ((A.k rA ((A.k xK ((i,h),0,55)).1,0,([]:List Int))).1,A.b .sub .i64 (A.k rA ((A.k xK ((i,h),0,55)).1,0,([]:List Int))).1.1 24,(A.k rA ((A.k xK ((i,h),0,55)).1,0,([]:List Int))).1.1))
def auK(A:aS)(l:Int)(j:List Int)(p:Int)(i:Int)(h:List Int):LT ((Int×List Int)×(Int×List Int)×Int) Empty:=.br (A.cm p 4) (.br (A.cm (A.k rA ((l,j),i,h)).2 0) (.ret ((A.k rA ((l,j),i,h)).1,(0,([]:List Int)),(A.k rA ((l,j),i,h)).2))<|.br (A.cm p 3) (.ret ((A.k rA ((l,j),i,h)).1,(0,([]:List Int)),(A.k rA ((l,j),i,h)).2))<|.ret ((A.k rA ((l,j),i,h)).1,A.k xK ((A.k rA ((l,j),i,h)).1,A.b .sub .i64 (A.k rA ((l,j),i,h)).1.1 24,(A.k rA ((l,j),i,h)).1.1)))<|.br (A.cm (A.k xK ((l,j),0,55)).2 0) (.ret ((0,([]:List Int)),(0,([]:List Int)),(A.k xK ((l,j),0,55)).2))<|.br (A.cm (A.k rA ((A.k xK ((l,j),0,55)).1,0,([]:List Int))).2 0) (.ret ((0,([]:List Int)),(0,([]:List Int)),(A.k rA ((A.k xK ((l,j),0,55)).1,0,([]:List Int))).2))<|.br (A.cm (Pe A l j).2 0) (.ret ((0,([]:List Int)),(0,([]:List Int)),(Pe A l j).2))<|.ret ((A.k rA ((l,j),(Pe A l j).1)).1,(Pe A l j).1,(A.k rA ((l,j),(Pe A l j).1)).2)
def Yu:((Int×List Int)×Int×(Int×List Int))->((Int×List Int)×(Int×List Int)×Int):=λ((p,l),j,i,h)=>(auK af p l j i h).val<|Ty.aO [(.struct [yI,yB]),.struct [yI,yB],yI]
def asr:aL:=.all [(.struct [yI,yB]),yI,.struct [yI,yB]] [(.struct [yI,yB]),.struct [yI,yB],yI] Yu
def aq5:Sd 293 asr:=fa<|aN ar dK sl 110 [] (λA ((p,l),j,i,h)=>auK A p l j i h)<|kz (fc func293 fz)<|sc arb<|sc ahF sz
def auI(A:aS)(i:Int)(j:List Int)(l:Int)(h:Int):LT (((Int×List Int)×Int)×Int) Empty:=.br (A.cm (A.k iB ((i,j),l,h)).2 0) (.ret (((i,j),l),0))<|.ret (((i,j),A.b .add .i64 l h),A.v .i64 (A.k iB ((i,j),l,h)).1)
theorem aqN{n a k:Int}{b:List Int}:bi Empty.elim (auI af n b a k)<|bif decide ((iB ((n,b),a,k)).2=0) then(((n,b),af.b .add .i64 a k),af.v .i64 (iB ((n,b),a,k)).1) else(((n,b),a),0):=by
 by_cases h:(iB ((n,b),a,k)).2=0
 .rw[bX h];exact(al (by show af.cm (iB ((n,b),a,k)).2 0=false;rw[b_,h];rfl)).2 (.ret _)
 .rw[fQ h];exact(ap (by show af.cm (iB ((n,b),a,k)).2 0=true;rw[b_];simp_all)).2 (.ret _)
def jL:((Int×List Int)×Int)×Int->((Int×List Int)×Int)×Int:=λ((b,a),k)=>(bif decide ((iB (b,a,k)).2=0) then((b,af.b .add .i64 a k),af.v .i64 (iB (b,a,k)).1) else((b,a),0))
def apT:cn:=.all [.ptr [.d<|.struct [yI,yB],.d yI]] [yI] [yI] jL false
def aho:cn.bp prog 291 apT:=ma<|bV ar dK sl 54 [] [] (λA (((j,l),p),i)=>auI A j l p i) (λ_=>Empty.elim) Empty.elim (kz (fc func291 fz) (sc T3 sz)) (λ_ y=>y.elim)<|λ((((j,l),p),i):(((Int×List Int)×Int))×Int) u v h=>aqN
inductive adq where|c0(a0 a1:Int)(a2:List Int)(a3 a4 a5 a6 a7 a8 a9 mA pH:Int)
noncomputable def ajq:adq->iF
 | .c0 a0 a1 a2 a3 a4 a5 h i a8 a9 j l=>⟨[iN 294 34 [(0,pZ 0),(3,pZ 1),(4,vi a0)] f294 120],[gZ [vi a1,.sl yU a2,vi a3],gZ [.int .u8 false a4,.int .u8 false a5,.int .u8 false h,.int .u8 false i,.int .u8 false a8,.int .u8 false a9,.int .u8 false j,.int .u8 false l],.aU]⟩
def auL(A:aS)(h:Int)(i:List Int)(j:Int):LT (((Int×List Int)×Int)×(List Int)) adq:=.ak<|.c0 0 h i j 0 0 0 0 0 0 0 0
def Vj(A:aS):adq->LT (((Int×List Int)×Int)×(List Int)) adq
 | .c0 a0 a1 a2 a3 a4 a5 h i a8 a9 j l=>.br (A.bQ (A.b .add .i64 a3 8) a1) (.br (A.bq a0 8) (.ao (A.and (A.bQ 0 a0)<|A.bq a0 8)<|.ak<|.c0 (A.b .add .i64 a0 1) (A.k jL (((a1,a2),a3),8)).1.1.1 (A.k jL (((a1,a2),a3),8)).1.1.2 (A.k jL (((a1,a2),a3),8)).1.2 (A.n yU (A.set [a4,a5,h,i,a8,a9,j,l] a0<|A.v .u8 (A.k jL (((a1,a2),a3),8)).2) 0:Int) (A.n yU (A.set [a4,a5,h,i,a8,a9,j,l] a0<|A.v .u8 (A.k jL (((a1,a2),a3),8)).2) 1:Int) (A.n yU (A.set [a4,a5,h,i,a8,a9,j,l] a0<|A.v .u8 (A.k jL (((a1,a2),a3),8)).2) 2:Int) (A.n yU (A.set [a4,a5,h,i,a8,a9,j,l] a0<|A.v .u8 (A.k jL (((a1,a2),a3),8)).2) 3:Int) (A.n yU (A.set [a4,a5,h,i,a8,a9,j,l] a0<|A.v .u8 (A.k jL (((a1,a2),a3),8)).2) 4:Int) (A.n yU (A.set [a4,a5,h,i,a8,a9,j,l] a0<|A.v .u8 (A.k jL (((a1,a2),a3),8)).2) 5:Int) (A.n yU (A.set [a4,a5,h,i,a8,a9,j,l] a0<|A.v .u8 (A.k jL (((a1,a2),a3),8)).2) 6:Int) (A.n yU (A.set [a4,a5,h,i,a8,a9,j,l] a0<|A.v .u8 (A.k jL (((a1,a2),a3),8)).2) 7:Int))<|.ao (A.and (A.bG a0 a0)<|A.and (A.bQ 0 a0)<|A.bQ a0 140737488355328)<|.ret (((a1,a2),a3),A.spl (A.r a0 (0:Int)) 0<|A.s [a4,a5,h,i,a8,a9,j,l] 0<|A.mn (A.l [a4,a5,h,i,a8,a9,j,l])<|A.l<|A.r a0 (0:Int)))<|.ao (A.and (A.bG a0 a0)<|A.and (A.bQ 0 a0)<|A.bQ a0 140737488355328)<|.ret (((a1,a2),a3),A.spl (A.r a0 (0:Int)) 0<|A.s [a4,a5,h,i,a8,a9,j,l] 0<|A.mn (A.l [a4,a5,h,i,a8,a9,j,l])<|A.l<|A.r a0 (0:Int))
def amc(n:Nat)(room:List Int):List Int:=af.spl (af.r (n:Int) (0:Int)) 0<|af.s room 0<|af.mn (af.l room)<|af.l<|af.r (n:Int) (0:Int)
def Ve:Nat->Nat->List Int->(Int×List Int)×Int->((Int×List Int)×Int)×List Int
 | 0,n,room,s=>(s,amc n room)
 | k+1,n,room,s=>bif af.bQ (af.b .add .i64 s.2 8) s.1.1 then Ve k (n+1) (af.set room n<|af.v .u8 (jL (s,8)).2) (jL (s,8)).1 else(s,amc n room)
theorem aaF:∀(k n:Nat) (room:List Int) (s:(Int×List Int)×Int),n+k=8->room.length=8->
  bi (Vj af) (.ak<|.c0 n s.1.1 s.1.2 s.2 (room.getD 0 0) (room.getD 1 0) (room.getD 2 0) (room.getD 3 0) (room.getD 4 0) (room.getD 5 0) (room.getD 6 0)<|room.getD 7 0) (Ve k n room s):=by
 intro k
 induction k with
 | zero=>
   intro n room s l j
   have h:bi (Vj af) (.ao (af.and (af.bG (n:Int) (n:Int))<|af.and (af.bQ 0 n)<|af.bQ n 140737488355328)<|.ret (s,amc n room))<|Ve 0 n room s:=
    aA.2 ⟨by rw[bF,bF,bf,ax,ax];simp_all,.ret _⟩
   match room,j with
   | [x0,p,x2,u,v,A,B,C],_=>
   rw[aI,Vj];cases af.bQ (af.b .add .i64 s.2 8) s.1.1
   .exact(al rfl).2 h
   .exact(ap rfl).2 ((al (by rw[bl];simp_all)).2 h)
 | succ k ih=>
   intro n room s l j;have e:=ih (n+1) (af.set room n<|af.v .u8 (jL (s,8)).2) (jL (s,8)).1 (by omega) (by rw[MY,cd];omega);rw[aI,Vj,Ve]
   match room,j with
   | [x0,p,x2,u,v,A,B,C],_=>
     cases af.bQ (af.b .add .i64 s.2 8) s.1.1
     .exact(al rfl).2 (aA.2 ⟨by rw[bF,bF,bf,ax,ax];simp;omega,.ret _⟩)
     .refine(ap rfl).2 ((ap (by rw[bl];grind)).2<|aA.2 ⟨by rw[bF,ax,bl];simp;omega,?_⟩);rw[jN (i:=n)<|by omega,show af.k jL (((s.1.1,s.1.2),s.2),8)=jL (s,8) from rfl];generalize jL (s,8)=q at e ⊢;exact e
def amb{n a:Int}{b:List Int}:bi (Vj af) (auL af n b a)<|Ve 8 0 [0,0,0,0,0,0,0,0] ((n,b),a):=
 aaF 8 0 [0,0,0,0,0,0,0,0] ((n,b),a) rfl rfl
def vt:((Int×List Int)×Int)×Unit->((Int×List Int)×Int)×(List Int):=λ(s,_)=>Ve 8 0 [0,0,0,0,0,0,0,0] s
def apU:cn:=.all [.ptr [.d<|.struct [yI,yB],.d yI]] [] [yB] vt false
def apx:cn.bp prog 294 apU:=ma<|bV ar dK sl 21 [⟨294,3,[[0,3,4]]⟩] [] (λA (((i,j),l),())=>auL A i j l) Vj ajq ⟨fc func294 fz,sz,oz,iz,(mc aho mz),pz⟩ (λA y=>match y with |.c0 p a1 a2 u v B C D E F J K=>⟨44,sl,by kernel_rfl⟩)<|λ((((i,j),l),()):(((Int×List Int)×Int))×Unit) H I h=>amb
def aT{R:Type}{step:Y->LT R Y}{t:LT R Y}{r i:R}(h:r=i)(j:bi step t r):bi step t i:=h▸j
def xT{R Y:Type}(p:R->Prop):LT R Y->Prop
 | .ret r=>p r
 | .ak _=>False
 | .br b t e=>(b=true->xT p t)/\(b=false->xT p e)
 | .ao b t=>b=true->xT p t
 | .eqs _ t=>xT p t
 | .and a _=>xT p a
 | .bU _ _=>True
theorem tq{R Y:Type}{d:R}{p:R->Prop}:∀{t:LT R Y},t.pre=true->xT p t->p (t.val d)
 | .ret _,_,h=>h
 | .ak _,_,h=>h.elim
 | .br b t e,h1,h2=>by
   cases b with
   | true=>exact tq (t:=t) h1<|h2.1 rfl
   | false=>exact tq (t:=e) h1<|h2.2 rfl
 | .ao b t,h1,h2=>by
   rw[LT.pre,eH] at h1;exact tq (t:=t) h1.2<|h2 h1.1
 | .eqs _ t,h1,h2=>tq (t:=t) h1 h2
 | .and _ _,h,_=>by cases h
 | .bU _ _,h,_=>by cases h
abbrev mq(A:aS)(i:Int)(h:List Int):=(A.b .add .i64 (A.k jL (((i,h),0),2)).2 1)
abbrev oG(A:aS)(i:Int)(h:List Int):=(A.k jL ((A.k jL (((i,h),0),2)).1,3))
abbrev AA(A:aS)(i:Int)(h:List Int):=(A.k Yu ((i,h),mq A i h,0,([]:List Int)))
abbrev tZ:LT ((Int×Int×(Int×Int×Int×Int×Int)×Int×List Int)×Int) Empty:=(.ret ((0,0,(0,0,0,0,0),0,([]:List Int)),51))
abbrev B6(A:aS)(v:Int)(u:List Int)(l:Int)(p:Int)(i:Int)(j:Int)(h:Int):=(A.k Yu ((v,u),mq A v u,(A.k Oh (l,p,i,j,h)).1))
abbrev B7(A:aS)(i:Int)(h:List Int):=(A.k DI (AA A i h).2.1)
abbrev agj(A:aS)(i:Int)(h:List Int):LT ((Int×Int×(Int×Int×Int×Int×Int)×Int×List Int)×Int) Empty:=(.br (A.cm (A.k xj (mq A i h,(oG A i h).2,(0,0,0,0,0),0,([]:List Int))) 0) (tZ)<|.ret ((mq A i h,(oG A i h).2,(0,0,0,0,0),0,([]:List Int)),0))
abbrev ab1(A:aS)(i:Int)(h:List Int):=(A.k jL ((oG A i h).1,A.b .sub .i64 (mq A i h) 2))
def t50(A:aS)(i:Int)(j:List Int)(u:Int)(v:Int)(l:Int)(p:Int)(h:Int):LT ((Int×Int×(Int×Int×Int×Int×Int)×Int×List Int)×Int) Empty:=.br (A.cm (A.k tV (i,j)) 0) (.ret ((0,0,(0,0,0,0,0),0,([]:List Int)),A.k tV (i,j)))<|.br (A.cm (A.k vy ((u,v,l,p,h),8)) 0) (.ret ((0,0,(0,0,0,0,0),0,([]:List Int)),40))<|.br (A.not<|A.k agZ (i,mq A i j)) (tZ)<|.br (A.bG (mq A i j) 1) (.br (A.cm (A.k jL ((A.k jL ((oG A i j).1,8)).1,3)).2 0) (tZ)<|.br (A.cm (AA A i j).2.2 0) (.ret ((0,0,(0,0,0,0,0),0,([]:List Int)),(AA A i j).2.2))<|.br (A.bG (mq A i j) 2) (.br (A.cm (A.k xj (mq A i j,0,(u,v,l,p,h),(oG A i j).2,(A.k vt (((AA A i j).1,(A.k jL ((A.k jL ((oG A i j).1,8)).1,3)).1.2),())).2)) 0) (tZ)<|.ret ((mq A i j,0,(u,v,l,p,h),(oG A i j).2,(A.k vt (((AA A i j).1,(A.k jL ((A.k jL ((oG A i j).1,8)).1,3)).1.2),())).2),0))<|.br (A.bG (mq A i j) 4) (.br (A.cm (B7 A i j).2 0) (tZ)<|.br (A.cm (A.k xj (mq A i j,0,(B7 A i j).1,(oG A i j).2,(A.k vt (((AA A i j).1,55),())).2)) 0) (tZ)<|.ret ((mq A i j,0,(B7 A i j).1,(oG A i j).2,(A.k vt (((AA A i j).1,55),())).2),0))<|.br (A.bG (mq A i j) 3) (.br (A.cm (B7 A i j).2 0) (tZ)<|.br (A.cm (A.k xj (mq A i j,0,(B7 A i j).1,(oG A i j).2,([]:List Int))) 0) (tZ)<|.ret ((mq A i j,0,(B7 A i j).1,(oG A i j).2,([]:List Int)),0))<|.br (A.cm (A.k xj (mq A i j,0,((A.k jL ((oG A i j).1,8)).2,0,0,0,0),(oG A i j).2,([]:List Int))) 0) (tZ)<|.ret ((mq A i j,0,((A.k jL ((oG A i j).1,8)).2,0,0,0,0),(oG A i j).2,([]:List Int)),0))<|.br (A.bG (mq A i j) 2) (.br (A.cm (B6 A i j u v l p h).2.2 0) (.ret ((0,0,(0,0,0,0,0),0,([]:List Int)),(B6 A i j u v l p h).2.2))<|.br (A.bG (mq A i j) 2) (.br (A.cm (A.k xj (mq A i j,(oG A i j).2,(u,v,l,p,h),0,(A.k vt (((B6 A i j u v l p h).1,(oG A i j).1.2),())).2)) 0) (tZ)<|.ret ((mq A i j,(oG A i j).2,(u,v,l,p,h),0,(A.k vt (((B6 A i j u v l p h).1,(oG A i j).1.2),())).2),0))<|.br (A.bG (mq A i j) 4) (.br (A.cm (A.k DI (B6 A i j u v l p h).2.1).2 0) (tZ)<|.br (A.cm (A.k xj (mq A i j,(oG A i j).2,(A.k DI (B6 A i j u v l p h).2.1).1,0,(A.k vt (((B6 A i j u v l p h).1,55),())).2)) 0) (tZ)<|.ret ((mq A i j,(oG A i j).2,(A.k DI (B6 A i j u v l p h).2.1).1,0,(A.k vt (((B6 A i j u v l p h).1,55),())).2),0))<|.br (A.bG (mq A i j) 3) (.br (A.cm (A.k DI (B6 A i j u v l p h).2.1).2 0) (tZ)<|.br (A.cm (A.k xj (mq A i j,(oG A i j).2,(A.k DI (B6 A i j u v l p h).2.1).1,0,([]:List Int))) 0) (tZ)<|.ret ((mq A i j,(oG A i j).2,(A.k DI (B6 A i j u v l p h).2.1).1,0,([]:List Int)),0))<|agj A i j)<|.br (A.cm (ab1 A i j).2 0) (tZ)<|.br (A.cm (AA A i j).2.2 0) (.ret ((0,0,(0,0,0,0,0),0,([]:List Int)),(AA A i j).2.2))<|.br (A.bG (mq A i j) 2) (.br (A.cm (A.k xj (mq A i j,(oG A i j).2,(u,v,l,p,h),0,(A.k vt (((AA A i j).1,(ab1 A i j).1.2),())).2)) 0) (tZ)<|.ret ((mq A i j,(oG A i j).2,(u,v,l,p,h),0,(A.k vt (((AA A i j).1,(ab1 A i j).1.2),())).2),0))<|.br (A.bG (mq A i j) 4) (.br (A.cm (B7 A i j).2 0) (tZ)<|.br (A.cm (A.k xj (mq A i j,(oG A i j).2,(B7 A i j).1,0,(A.k vt (((AA A i j).1,55),())).2)) 0) (tZ)<|.ret ((mq A i j,(oG A i j).2,(B7 A i j).1,0,(A.k vt (((AA A i j).1,55),())).2),0))<|.br (A.bG (mq A i j) 3) (.br (A.cm (B7 A i j).2 0) (tZ)<|.br (A.cm (A.k xj (mq A i j,(oG A i j).2,(B7 A i j).1,0,([]:List Int))) 0) (tZ)<|.ret ((mq A i j,(oG A i j).2,(B7 A i j).1,0,([]:List Int)),0))<|agj A i j
variable{p:Prop}
theorem apr{k:Int}(i:(k==0)=false):k=0->p:=λh=>by simp_all
def apu{x:Int}(h:af.cm x 0=true)(e:x=0):p:=by rw[e] at h;cases h
def aps{x:Int}{q:Prop}(h:q):(af.cm x 0=true->(x=0->p))/\(af.cm x 0=false->q):=⟨apu,λ_=>h⟩
def apt{x:Int}{r:Prop}(h:af.cm x 0=false)(_:r):x=0:=by rw[b_] at h;simpa using h
def wv:(Int×List Int)×(Int×Int×Int×Int×Int)->(Int×Int×(Int×Int×Int×Int×Int)×Int×List Int)×Int:=λ((n,b),(t,p,m,x,s))=>(t50 af n b t p m x s).val<|Ty.aO [.struct [.int .i64,.int .i64,.struct [.int .i64,.int .i64,.int .i64,.int .i64,.int .i64],.int .i64,.slice<|.int .u8],.int .i64]
def OI{n p m x s:Int}{b:List Int}:(t50 af n b t p m x s).pre=true:=by
 simp[t50,ab1,agj,B7,B6,tZ,AA,oG,mq,LT.pre,bZ,acN,FQ,dC,implies_true,and_self]
def U3{n p m x s:Int}{b:List Int}:xT (λr=>r.2=0->af.k xj r.1=0)<|t50 af n b t p m x s:=by
 simp only[t50,ab1,agj,B7,B6,tZ,AA,oG,mq,xT]
 repeat' first
  | refine aps ?_
  | refine⟨λ_=>?_,λ_=>?_⟩
  | exact apr rfl
  | exact apt (by assumption)
theorem afk{b:Int×List Int}{c:Int×Int×Int×Int×Int}(h:(wv (b,c)).2=0):Ae (wv (b,c)).1=true:=by
 have⟨n,b⟩:=b;have⟨t,p,m,x,s⟩:=c;have k:=tq (d:=Ty.aO [.struct [.int .i64,.int .i64,.struct [.int .i64,.int .i64,.int .i64,.int .i64,.int .i64],.int .i64,.slice<|.int .u8],.int .i64]) OI U3 h;have k:xj (wv ((n,b),(t,p,m,x,s))).1=0:=k;generalize (wv ((n,b),(t,p,m,x,s))).1=f at k;rw[aeH] at k
 grind
def Kv:(Int×List Int)×(Int×Int×Int×Int×Int)->(Int×Int×(Int×Int×Int×Int×Int)×Int×List Int)×Bool:=λ(b,c)=>
 bif (wv (b,c)).2 != 0||(wv (b,c)).1.1==1||(wv (b,c)).1.2.2.1 != c then(I5,false) else((wv (b,c)).1,true)
def uf(b:Int×List Int):(Int×Int×(Int×Int×Int×Int×Int)×Int×List Int)×Bool:=
 bif (wv (b,zS)).2 != 0||(wv (b,zS)).1.1==2 then(I5,false) else((wv (b,zS)).1,true)
def CG:((Int×List Int)×(Int×Int×Int×Int×Int))->((Int×Int×(Int×Int×Int×Int×Int)×Int×List Int)×Int):=wv
def axl:aL:=.all [(.struct [yI,yB]),.struct [yI,yI,yI,yI,yI]] [(.struct [yI,yI,.struct [yI,yI,yI,yI,yI],yI,yB]),yI] CG
def arQ:Sd 250 axl:=fa<|bE ar dK sl 227 [] [] (λA ((C,B),u,v,j,l,i)=>t50 A C B u v j l i) (λ_=>Empty.elim) Empty.elim ⟨fc func250 fz,(sc ar1 (sc JJ (sc aso (sc JK (sc aq4 (sc aq5 (sc aq6 sz))))))),oz,iz,(mc aho (mc apx mz)),pz⟩ (λ_ y=>y.elim) λ((n,b),(t,p,m,x,s)) D h=>LT.runs (LT.kG<|by kernel_rfl) OI
def t53(A:aS)(v:Int)(u:List Int)(l:Int)(p:Int)(i:Int)(j:Int)(h:Int):LT ((Int×Int×(Int×Int×Int×Int×Int)×Int×List Int)×Bool) Empty:=.br (A.cm (A.k CG ((v,u),l,p,i,j,h)).2 0) (.ret ((0,0,(0,0,0,0,0),0,([]:List Int)),false))<|.br (A.bG (A.k CG ((v,u),l,p,i,j,h)).1.1 1) (.ret ((0,0,(0,0,0,0,0),0,([]:List Int)),false))<|.br (A.not<|A.and (A.bG (A.k CG ((v,u),l,p,i,j,h)).1.2.2.1.1 l)<|A.and (A.bG (A.k CG ((v,u),l,p,i,j,h)).1.2.2.1.2.1 p)<|A.and (A.bG (A.k CG ((v,u),l,p,i,j,h)).1.2.2.1.2.2.1 i)<|A.and (A.bG (A.k CG ((v,u),l,p,i,j,h)).1.2.2.1.2.2.2.1 j)<|A.and (A.bG (A.k CG ((v,u),l,p,i,j,h)).1.2.2.1.2.2.2.2 h) true) (.ret ((0,0,(0,0,0,0,0),0,([]:List Int)),false))<|.ret ((A.k CG ((v,u),l,p,i,j,h)).1,true)
def P_:((Int×List Int)×(Int×Int×Int×Int×Int))->((Int×Int×(Int×Int×Int×Int×Int)×Int×List Int)×Bool):=λ((v,u),l,p,i,j,h)=>(t53 af v u l p i j h).val<|Ty.aO [(.struct [yI,yI,.struct [yI,yI,yI,yI,yI],yI,yB]),.bool]
def axn:aL:=.all [(.struct [yI,yB]),.struct [yI,yI,yI,yI,yI]] [(.struct [yI,yI,.struct [yI,yI,yI,yI,yI],yI,yB]),.bool] P_
def aw7:Sd 265 axn:=fa<|aN ar dK sl 50 [] (λA ((v,u),l,p,i,j,h)=>t53 A v u l p i j h)<|kz (fc func265 fz)<|sc arQ sz
def t51(A:aS)(i:Int)(h:List Int):LT ((Int×Int×(Int×Int×Int×Int×Int)×Int×List Int)×Bool) Empty:=.br (A.cm (A.k CG ((i,h),0,0,0,0,0)).2 0) (.ret ((0,0,(0,0,0,0,0),0,([]:List Int)),false))<|.br (A.bG (A.k CG ((i,h),0,0,0,0,0)).1.1 2) (.ret ((0,0,(0,0,0,0,0),0,([]:List Int)),false))<|.ret ((A.k CG ((i,h),0,0,0,0,0)).1,true)
def Gg:(Int×List Int)->((Int×Int×(Int×Int×Int×Int×Int)×Int×List Int)×Bool):=λ(i,h)=>(t51 af i h).val<|Ty.aO [(.struct [yI,yI,.struct [yI,yI,yI,yI,yI],yI,yB]),.bool]
def axm:aL:=.all [(.struct [yI,yB])] [(.struct [yI,yI,.struct [yI,yI,yI,yI,yI],yI,yB]),.bool] Gg
def arR:Sd 197 axm:=fa<|aN ar dK sl 43 [] (λA (i,h)=>t51 A i h)<|kz (fc func197 fz)<|sc arQ sz
def aeG{b:Int×List Int}{p m n s:Int}:P_ (b,(t,p,m,n,s))=Kv (b,(t,p,m,n,s)):=by
 have⟨A,v⟩:=b;simp[P_,t53,Kv,bZ,b_,bf,bF,CG,nK];generalize wv ((A,v),(t,p,m,n,s))=q;have⟨⟨k,r,⟨u,j,h,i,l⟩,C,d⟩,e⟩:=q;have B:((u,j,h,i,l) != (t,p,m,n,s))=!(u==t&&(j==p&&(h==m&&(i==n&&l==s)))):=by rfl
 rw[B];cases e != 0<;>cases k==1<;>cases (u==t&&(j==p&&(h==m&&(i==n&&l==s))))<;>rfl
theorem aeF{b:Int×List Int}:Gg b=uf b:=by
 have⟨i,h⟩:=b;simp only[uf];show(bif (wv ((i,h),zS)).2 != 0 then(I5,false) else bif (wv ((i,h),zS)).1.1==2 then(I5,false) else((wv ((i,h),zS)).1,true))=_
 grind
structure aim where(a0 a2:List (Int×List Int))(a3 a5:Int)
structure Wj where(b1:List (Int×List Int))(b2 b4 b5:Int)
structure Wk where(c0 c1 c2 c4:Int)(c5:List (Int×List Int))(c6 c7 c8 c9:Int)(c10:List Int)(c11 c12 c13:Int)(c14:List Int)
inductive adt where|c0(p:aim)(a1 a4:Int)|c1(p:Wj)(b0 b3:Int)(b6:List Int)|c2(p:Wk)(c3:Int)(Je:List Int)
noncomputable def ajv:adt->iF
 | .c0 p a1 a4=>⟨[iN 277 53 [(0,.sl (.struct [yI,yB]) p.a0),(2,pZ 0),(4,vi a1),(12,.sl (.struct [yI,yB]) p.a2),(13,vi p.a3),(14,vi a4)] f277 116],[gZ [vi p.a5,.eT true],.aU]⟩
 | .c1 p b0 b3 i=>⟨[iN 277 53 [(2,pZ 0),(8,pZ 1),(9,vi b0),(35,.sl (.struct [yI,yB]) p.b1),(36,vi p.b2),(37,vi b3)] f277 2036],[gZ [vi p.b4,.eT true],gZ [vi p.b5,.own 2],aZ yU i,.aU]⟩
 | .c2 p c3 h=>⟨[iN 313 52 [(1,vi p.c0),(3,vi p.c1),(4,vi p.c2),(5,pZ 0),(7,pZ 1),(10,vi c3)] f313 60,Jr 277 53 [(2,pZ 2),(8,pZ 3),(9,vi p.c4),(11,pZ 4),(35,.sl (.struct [yI,yB]) p.c5),(36,vi p.c6),(37,vi p.c7)] f277 130354 5],[gZ [vi p.c8,.own 5],gZ [vi p.c9,.sl yU p.c10],gZ [vi p.c11,.eT true],gZ [vi p.c12,.own 5],gZ [vi p.c13,.sl yU p.c14],aZ yU h,.aU]⟩
def amN(A:aS)(l:List<|Int×List Int):LT ((Int×List Int)×Int) adt:=.ak<|.c0 ⟨l,l,A.l l,0⟩ 0 0
def C9(A:aS):adt->LT ((Int×List Int)×Int) adt
 | .c0 p a1 a4=>.br (A.bq a4 p.a3) (.ao (A.and (A.bQ 0 a4)<|A.bq a4<|A.l p.a2)<|.br (A.cm (A.k tV (A.n (.struct [yI,yB]) p.a2 a4:Int×List Int)) 0) (.ret ((0,([]:List Int)),A.k tV (A.n (.struct [yI,yB]) p.a2 a4:Int×List Int)))<|.ak<|.c0 p (A.mn (A.b .add .i64 a1 (A.n (.struct [yI,yB]) p.a2 a4:Int×List Int).1) 4097)<|A.b .add .i64 a4 1)<|.br (A.jr a1 4096) (.ret ((0,([]:List Int)),3))<|.ao (A.and (A.bG (A.k lJ a1)<|A.k lJ a1)<|A.and (A.bQ 0<|A.k lJ a1)<|A.bQ (A.k lJ a1) 140737488355328)<|.ak<|.c1 ⟨p.a0,A.l p.a0,p.a5,a1⟩ 0 0<|A.r (A.k lJ a1) (0:Int)
 | .c1 p b0 b3 h=>.br (A.bq b3 p.b2) (.ao (A.and (A.bQ 0 b3)<|A.bq b3<|A.l p.b1)<|.br (A.bG (A.b .rem .i64 b0 8) 0) (.br (A.bG (A.n (.struct [yI,yB]) p.b1 b3:Int×List Int).1 (A.n (.struct [yI,yB]) p.b1 b3:Int×List Int).1) (.ao (A.and (A.bQ 0<|A.b .quo .i64 b0 8)<|A.and (A.bQ (A.b .quo .i64 b0 8)<|A.l h)<|A.bQ (A.l h)<|A.l h)<|.ao (A.and (A.bQ 0 0)<|A.and (A.bQ 0<|A.l (A.n (.struct [yI,yB]) p.b1 b3:Int×List Int).2)<|A.bQ (A.l (A.n (.struct [yI,yB]) p.b1 b3:Int×List Int).2)<|A.l (A.n (.struct [yI,yB]) p.b1 b3:Int×List Int).2)<|.ak<|.c1 p (A.b .add .i64 b0 (A.n (.struct [yI,yB]) p.b1 b3:Int×List Int).1) (A.b .add .i64 b3 1)<|A.spl h (A.b .quo .i64 b0 8)<|A.s (A.s (A.n (.struct [yI,yB]) p.b1 b3:Int×List Int).2 0<|A.l (A.n (.struct [yI,yB]) p.b1 b3:Int×List Int).2) 0<|A.mn (A.l<|A.s (A.n (.struct [yI,yB]) p.b1 b3:Int×List Int).2 0<|A.l (A.n (.struct [yI,yB]) p.b1 b3:Int×List Int).2)<|A.b .sub .i64 (A.l h)<|A.b .quo .i64 b0 8)<|.ak<|.c2 ⟨b0,0,(A.n (.struct [yI,yB]) p.b1 b3:Int×List Int).1,b0,p.b1,p.b2,b3,p.b5,(A.n (.struct [yI,yB]) p.b1 b3:Int×List Int).1,(A.n (.struct [yI,yB]) p.b1 b3:Int×List Int).2,p.b4,p.b5,(A.n (.struct [yI,yB]) p.b1 b3:Int×List Int).1,(A.n (.struct [yI,yB]) p.b1 b3:Int×List Int).2⟩ 0 h)<|.ak<|.c2 ⟨b0,0,(A.n (.struct [yI,yB]) p.b1 b3:Int×List Int).1,b0,p.b1,p.b2,b3,p.b5,(A.n (.struct [yI,yB]) p.b1 b3:Int×List Int).1,(A.n (.struct [yI,yB]) p.b1 b3:Int×List Int).2,p.b4,p.b5,(A.n (.struct [yI,yB]) p.b1 b3:Int×List Int).1,(A.n (.struct [yI,yB]) p.b1 b3:Int×List Int).2⟩ 0 h)<|.ret ((p.b5,h),0)
 | .c2 p c3 i=>.br (A.bq c3 p.c2) (.ao (A.k CQ ((p.c9,p.c10),c3))<|.br (A.k Sw ((p.c9,p.c10),c3)) (.ao (A.and (A.bQ 0<|A.b .quo .i64 (A.b .sub .i64 (A.b .add .i64 p.c0 c3) p.c1) 8)<|A.bq (A.b .quo .i64 (A.b .sub .i64 (A.b .add .i64 p.c0 c3) p.c1) 8)<|A.l i)<|.ao (A.k x_<|A.b .sub .i64 (A.b .add .i64 p.c0 c3) p.c1)<|.ao (A.and (A.bQ 0<|A.b .quo .i64 (A.b .sub .i64 (A.b .add .i64 p.c0 c3) p.c1) 8)<|A.bq (A.b .quo .i64 (A.b .sub .i64 (A.b .add .i64 p.c0 c3) p.c1) 8)<|A.l i)<|.ak<|.c2 p (A.b .add .i64 c3 1)<|A.set i (A.b .quo .i64 (A.b .sub .i64 (A.b .add .i64 p.c0 c3) p.c1) 8)<|A.b .or .u8 (A.n yU i (A.b .quo .i64 (A.b .sub .i64 (A.b .add .i64 p.c0 c3) p.c1) 8):Int)<|A.k N0<|A.b .sub .i64 (A.b .add .i64 p.c0 c3) p.c1)<|.ak<|.c2 p (A.b .add .i64 c3 1) i)<|.ak<|.c1 ⟨p.c5,p.c6,p.c11,p.c12⟩ (A.b .add .i64 p.c4 p.c13) (A.b .add .i64 p.c7 1) i
def apo{p:Wk}{m:Nat}(l:∀B:List Int,B.length=m->Go (C9 af) (.ak<|.c1 ⟨p.c5,p.c6,p.c11,p.c12⟩ (af.b .add .i64 p.c4 p.c13) (af.b .add .i64 p.c7 1) B) λ_=>True)(A:0<=p.c0/\p.c0<=10000)(u:p.c1=0)(C:p.c2<=8*(p.c10.length:Int))(D:p.c2<=10000)(F:p.c0+p.c2<=8*(m:Int)):
  ∀(j:Nat) (i:Int) (B:List Int),p.c2-i<=(j:Int)->0<=i->B.length=m->Go (C9 af) (.ak<|.c2 p i B) λ_=>True:=by
 intro j
 induction j with
 | zero=>exact λi B v _ h=>aP<|bH (λg=>by omega) λ_=>l B h
 | succ j ih=>
   intro i B v E h;refine aP (bH (λg=>aj (alO<|by omega)<|dO (λ_=>?_) λ_=>?_) λ_=>l B h)
   .rw[u,rV (a:=p.c0)<|by omega,Ed (a:=p.c0+i)<|by omega];have n1:=ix8 (x:=p.c0+i-0) (B:=B) (by omega);refine aj n1<|aj (alP<|by omega)<|aj n1 ?_;rw[rV (a:=i)<|by omega];exact ih (i+1) _ (by omega) (by omega)<|(cd ..).trans h
   .rw[rV (a:=i)<|by omega];exact ih (i+1) B (by omega) (by omega) h
def Qe{x:Int×List Int}(h:af.k tV x=0):0<=x.1/\x.1<=4096/\(x.2.length:Int)=(x.1+7)/8:=by
 have⟨n,b⟩:=x;exact Gm h
def zn:List (Int×List Int)->Int
 | []=>0
 | x::l=>x.1+zn l
theorem B5:∀{l:List<|Int×List Int},(∀x∈l,af.k tV x=0)->0<=zn l
 | [],_=>ai 0
 | x::l,h=>by
   have j:=Qe<|h x aM;have p:=B5 λy i=>h y<|aB _ i;rw[zn];omega
theorem O9:∀{l:List<|Int×List Int} {x:Int×List Int},zn (l ++ [x])=zn l+x.1
 | [],x=>Int.add_comm ..
 | y::l,x=>by
   show y.1+zn (l ++ [x])=y.1+zn l+x.1;rw[O9];omega
def abC{y:List Int}{k a:Int}(h:0<=k/\k<=(B.length:Int)):(af.spl B k<|af.s y 0<|af.mn a<|(B.length:Int)-k).length=B.length:=by
 have:(af.s y 0<|af.mn a<|(B.length:Int)-k).length<=B.length-k.toNat:=by
  rw[jU,n_];simp only[dR,c_];split<;>omega
 rw[oQ,uy,uy,c_,dR];omega
def apn{p:Wj}{m:Nat}(E:p.b1=l)(A:p.b2=(l.length:Int))(C:∀x∈l,af.k tV x=0)(X:p.b5<=8*(m:Int))(Z:p.b5<=4096)(hm:m<=1000)(hl:l.length<=140737488355328):
  ∀(j i:Nat) (o:Int) (B:List Int),l.length-i=j->i<=l.length->0<=o->o+zn (l.drop i)<=p.b5->B.length=m->Go (C9 af) (.ak<|.c1 p o i B) λ_=>True:=by
 intro j
 induction j with
 | zero=>
   intro i o B Q P I D F;refine aP ?_;rw[C9,A];exact bH (λg=>by omega) λ_=>ay trivial
 | succ j ih=>
   intro i o B Q P I D F;have h:i<l.length:=by omega
   have hq:=B5 (l:=l.drop<|i+1) λx S=>C x<|List.mem_of_mem_drop S;refine aP ?_;rw[C9,E,A];refine bH (λ_=>aj (dA h) ?_) λ_=>ay trivial;rw[show(af.n (.struct [(.int .i64),.slice<|.int .u8]) l (i:Int):Int×List Int)=l[i] from fF h _];have⟨a,c,e⟩:=Qe<|C _<|dQ h;rw[AX h,zn] at D;generalize l[i]=x at a c e D;have⟨n,b⟩:=x;have a:0<=n:=a;have c:n<=4096:=c;have e:(b.length:Int)=(n+7)/8:=e;have D:o+(n+zn (l.drop<|i+1))<=p.b5:=D;have K:∀v:List Int,v.length=m->Go (C9 af) (.ak<|.c1 p (af.b .add .i64 o n) (af.b .add .i64 i 1) v) λ_=>True:=λv u=>by
    rw[rV (a:=o)<|by omega,jN (i:=i)<|by omega];exact ih (i+1) (o+n) v (by omega) (by omega) (by omega) (by omega) u
   have J:Go (C9 af) (.ak<|.c2 ⟨o,0,n,o,l,(l.length:Int),(i:Int),p.b5,n,b,p.b4,p.b5,n,b⟩ 0 B) λ_=>True:=by
    refine apo (m:=m) (λv u=>?_) ⟨I,by show o<=_;omega⟩ rfl (by show n<=8*(b.length:Int);omega) (by show n<=_;omega) (by show o+n<=_;omega) n.toNat 0 B (by show n-0<=_;omega) (ai 0) F;have:=K v u;have⟨N,O,V,W⟩:=p;have E:N=l:=E;have A:O=(l.length:Int):=A;subst E;subst A;exact this
   refine dO (λ_=>dO (λ_=>?_) λ_=>J) λ_=>J;have H:0<=o/8/\o/8<=(B.length:Int):=by omega
   rw[aay<|by omega,show af.b .sub .i64 (af.l B) (o/8)=(B.length:Int)-o/8 from Ed (a:=(B.length:Int))<|by omega];refine aj ?_<|aj ?_<|K _<|(abC H).trans F
   .rw[bF,bF,ax,ax,ax];show(decide _&&(decide (_<=(B.length:Int))&&decide _))=true;rw[bX H.1,bX H.2,bX<|ai _];rfl
   .rw[bF,bF,ax,ax,ax];show(decide _&&(decide (_<=(b.length:Int))&&decide _))=true;simp
def apm(H:l.length<=140737488355328):
  ∀(j i:Nat) (o:Int),l.length-i=j->i<=l.length->(∀x∈l.take i,af.k tV x=0)->o=zn (l.take i)\/o=4097->o<=4097->Go (C9 af) (.ak<|.c0 ⟨l,l,af.l l,0⟩ o i) λ_=>True:=by
 intro j;have A:∀o:Int,(∀x∈l,af.k tV x=0)->o=zn l\/o=4097->Go (C9 af) (.br (af.jr o 4096) (.ret ((0,([]:List Int)),3)) (.ao (af.and (af.bG (af.k lJ o) (af.k lJ o)) (af.and (af.bQ 0 (af.k lJ o)) (af.bQ (af.k lJ o) 140737488355328))) (.ak (.c1 ⟨l,af.l l,0,o⟩ 0 0 (af.r (af.k lJ o) (0:Int)))))) λ_=>True:=λo p v=>by
  refine lM (λ_=>ay trivial) λg=>?_;have J:=B5 p;have v:o=zn l:=v.elim id λk=>by omega
  rw[E3<|by omega];exact aj (ZO<|by omega)<|apn (m:=((o+7)/8).toNat) rfl rfl p (by show o<=_;omega) (by show o<=_;omega) (by omega) H l.length 0 0 _ rfl (aQ _) (ai 0) (by show 0+zn l<=o;omega) (by rw[uL,GU])
 induction j with
 | zero=>
   intro i o F E p v D;rw[dH (by omega)] at p v;exact aP (bH (λg=>by have g:(i:Int)<(l.length:Int):=g;omega) λ_=>A o p v)
 | succ j ih=>
   intro i o F E p v D;have u:i<l.length:=by omega
   refine aP (bH (λ_=>aj (dA u)<|dD (λ_=>ay trivial) λh=>?_) λg=>by have g:(l.length:Int)<=(i:Int):=g;omega);rw[show(af.n (.struct [(.int .i64),.slice<|.int .u8]) l (i:Int):Int×List Int)=l[i] from fF u _] at h ⊢;have⟨a,c,_⟩:=Qe h;have K:=B5 p;have B:=bK u;generalize l[i]=x at *;have⟨n,b⟩:=x;have a:0<=n:=a;have c:n<=4096:=c;show Go (C9 af) (.ak<|.c0 _ (af.mn (af.b .add .i64 o n) 4097) _) _;rw[rV (a:=o)<|by omega,jN (i:=i)<|by omega];have I:zn (l.take<|i+1)=zn (l.take i)+n:=by rw[B,O9]
   refine ih (i+1) _ (by omega) (by omega) (λx C=>?_) ?_ ?_
   .rw[B] at C;exact(oJ.1 C).elim (p x) λk=>by rw[aG.1 k];exact h
   .rw[I,n_];split<;>omega
   .rw[n_];split<;>omega
def aoK(h:l.length<=140737488355328):Go (C9 af) (amN af l) λ_=>True:=apm h l.length 0 0 rfl (aQ _) (λx i=>by cases i) (.inl rfl) (by decide)
def Ss:(List<|Int×List Int)->((Int×List Int)×Int):=λl=>gi (C9 af) (amN af l) ((0,[]),0)
def asB:aL:=.all [(.slice<|.struct [yI,yB])] [(.struct [yI,yB]),yI] Ss
def ara:Sd 277 asB:=fa<|bE ar dK sl 24 [⟨277,3,[[0,2,4,12,13,14]]⟩,⟨277,15,[[2,8,9,35,36,37]]⟩,⟨313,4,[[1,3,4,5,7,10],[2,8,9,11,35,36,37]]⟩] [] (λA l=>amN A l) C9 ajv (kz (fc func277 (fc func310 (fc func312 (fc func313 fz)))) (sc JK (sc TY (sc abh (sc T5 sz))))) (λA y=>match y with |.c0 p a1 j=>⟨55,sl,by kernel_rfl⟩|.c1 p b0 b3 u=>⟨82,sl,by kernel_rfl⟩|.c2 p c3 i=>⟨57,sl,by kernel_rfl⟩) λl v h=>Go.run<|aoK (Ol h).1
def auQ(A:aS)(l:Int)(j:List Int)(i:Int)(h:List Int):LT ((Int×List Int)×Int) Empty:=.br (A.cm (A.k Ga [(i,h),(l,j)]).2 0) (.ret ((0,([]:List Int)),(A.k Ga [(i,h),(l,j)]).2))<|.ret<|A.k ui ((l,j),A.v .u64 (A.k Ga [(i,h),(l,j)]).1,24)
def Sr:((Int×List Int)×(Int×List Int))->((Int×List Int)×Int):=λ((l,j),i,h)=>(auQ af l j i h).val<|Ty.aO [(.struct [yI,yB]),yI]
def asA:aL:=.all [(.struct [yI,yB]),.struct [yI,yB]] [(.struct [yI,yB]),yI] Sr
def aq_:Sd 276 asA:=fa<|aN ar dK sl 44 [] (λA ((l,j),i,h)=>auQ A l j i h)<|kz (fc func276 fz)<|sc abg<|sc ahK sz
def t91(A:aS)(i:Int)(j:List Int)(l:Int)(v:Int)(h:Int):LT (((Int×List Int)×Int)×Unit) Empty:=.br (A.bG l 0) (.ret (A.k ui ((i,j),A.v .u64 v,h),()))<|.ret (((i,j),l),())
theorem ayk{n e k:Int}{b:List Int}:bi Empty.elim (t91 af n b e v k) (bif decide (e=0) then ui ((n,b),af.v .u64 v,k) else((n,b),e),()):=by
 by_cases h:e=0
 .rw[bX h];exact(ap (by rw[bf,h];rfl)).2 (.ret _)
 .rw[fQ h];exact(al (by rw[bf];simp_all)).2 (.ret _)
def Ac:((Int×List Int)×Int)×(Int×Int)->((Int×List Int)×Int)×Unit:=λ((s,e),v,n)=>(bif decide (e=0) then ui (s,af.v .u64 v,n) else(s,e),())
def awI:cn:=.all [.ptr [.d<|.struct [yI,yB],.d yI]] [yI,yI] [] Ac true
def apQ:cn.bp prog 224 awI:=ma<|bV ar dK sl 46 [] [] (λA (((j,l),p),(v,i))=>t91 A j l p v i) (λ_=>Empty.elim) Empty.elim (kz (fc func224 fz) (sc abg sz)) (λ_ y=>y.elim)<|λ((((j,l),p),(v,i)):(((Int×List Int)×Int))×(Int×Int)) u B h=>ayk
def t94(A:aS)(h:Int)(i:List Int)(j:Int)(p:Int)(l:List Int):LT (((Int×List Int)×Int)×Unit) Empty:=.br (A.bG j 0) (.ret (A.k Ss [(h,i),(p,l)],()))<|.ret (((h,i),j),())
theorem ayn{n e k:Int}{b c:List Int}:bi Empty.elim (t94 af n b e k c) (bif decide (e=0) then Ss [(n,b),(k,c)] else((n,b),e),()):=by
 by_cases h:e=0
 .rw[bX h];exact(ap (by rw[bf,h];rfl)).2 (.ret _)
 .rw[fQ h];exact(al (by rw[bf];simp_all)).2 (.ret _)
def akX:((Int×List Int)×Int)×(Int×List Int)->((Int×List Int)×Int)×Unit:=λ((s,e),b)=>(bif decide (e=0) then Ss [s,b] else(s,e),())
def awL:cn:=.all [.ptr [.d<|.struct [yI,yB],.d yI]] [(.struct [yI,yB])] [] akX true
def awH:cn.bp prog 227 awL:=ma<|bV ar dK sl 46 [] [] (λA (((i,j),u),(p,l))=>t94 A i j u p l) (λ_=>Empty.elim) Empty.elim (kz (fc func227 fz) (sc ara sz)) (λ_ y=>y.elim)<|λ((((i,j),u),(p,l)):(((Int×List Int)×Int))×((Int×List Int))) v B h=>ayn
def t92(A:aS)(j:Int)(l:List Int)(p:Int)(i:Int)(h:List Int):LT (((Int×List Int)×Int)×Unit) Empty:=.br (A.bG p 0) (.ret (A.k Sr ((j,l),i,h),()))<|.ret (((j,l),p),())
theorem ayl{n e k:Int}{b c:List Int}:bi Empty.elim (t92 af n b e k c) (bif decide (e=0) then Sr ((n,b),k,c) else((n,b),e),()):=by
 by_cases h:e=0
 .rw[bX h];exact(ap (by rw[bf,h];rfl)).2 (.ret _)
 .rw[fQ h];exact(al (by rw[bf];simp_all)).2 (.ret _)
def UJ:((Int×List Int)×Int)×(Int×List Int)->((Int×List Int)×Int)×Unit:=λ((s,e),b)=>(bif decide (e=0) then Sr (s,b) else(s,e),())
def awJ:cn:=.all [.ptr [.d<|.struct [yI,yB],.d yI]] [(.struct [yI,yB])] [] UJ true
def awF:cn.bp prog 225 awJ:=ma<|bV ar dK sl 45 [] [] (λA (((l,p),u),(j,i))=>t92 A l p u j i) (λ_=>Empty.elim) Empty.elim (kz (fc func225 fz) (sc aq_ sz)) (λ_ y=>y.elim)<|λ((((l,p),u),(j,i)):(((Int×List Int)×Int))×((Int×List Int))) v B h=>ayl
structure agT where(a0:List Int)(a1:Int)
inductive Y93 where|c0(p:agT)(a2 a3:Int)(a4:List Int)(a5:Int)
noncomputable def aot:Y93->iF
 | .c0 p a2 a3 a4 a5=>⟨[iN 226 19 [(0,pZ 0),(7,.sl yU p.a0),(8,vi p.a1),(9,vi a2)] f226 52],[gZ [vi a3,.sl yU a4,vi a5],.aU]⟩
def t93(A:aS)(h:Int)(i:List Int)(j:Int)(l:List Int):LT (((Int×List Int)×Int)×Unit) Y93:=.ak<|.c0 ⟨l,A.l l⟩ 0 h i j
def s93(A:aS):Y93->LT (((Int×List Int)×Int)×Unit) Y93
 | .c0 p a2 a3 a4 a5=>.br (A.bq a2 p.a1) (.ao (A.and (A.bQ 0 a2)<|A.bq a2<|A.l p.a0)<|.ak<|.c0 p (A.b .add .i64 a2 1) (A.k Ac (((a3,a4),a5),A.v .i64 (A.n yU p.a0 a2:Int),8)).1.1.1 (A.k Ac (((a3,a4),a5),A.v .i64 (A.n yU p.a0 a2:Int),8)).1.1.2 (A.k Ac (((a3,a4),a5),A.v .i64 (A.n yU p.a0 a2:Int),8)).1.2)<|.ret (((a3,a4),a5),())
def ajo(l:List Int)(s:(Int×List Int)×Int):(Int×List Int)×Int:=l.foldl (λs c=>(Ac (s,af.v .i64 c,8)).1) s
theorem aym{l:List Int}(C:l.length<=140737488355328){p:agT}(v:p.a0=l)(u:p.a1=(l.length:Int)):∀(j i:Nat) (s:(Int×List Int)×Int),l.length-i=j->i<=l.length->
  bi (s93 af) (.ak<|.c0 p i s.1.1 s.1.2 s.2) (ajo (l.drop i) s,()):=by
 intro j
 induction j with
 | zero=>
   intro i s B A;have:i=l.length:=by omega
   subst this;rw[aI,s93,u,cZ];exact(al (by rw[bl];simp)).2 (.ret _)
 | succ j ih=>
   intro i s B A;have h:i<l.length:=by omega
   rw[aI,s93,v,u];refine(ap (by simp_all;exact bX<|by omega)).2 (aA.2 ⟨dA h,?_⟩);rw[show(af.n (.int .u8) l (i:Int):Int)=l[i] from fF h _,AX h,jN (i:=i)<|by omega];exact ih (i+1) (Ac (s,af.v .i64 l[i],8)).1 (by omega) (by omega)
def avZ{n e:Int}{b l:List Int}(h:l.length<=140737488355328):bi (s93 af) (t93 af n b e l) (ajo l ((n,b),e),()):=
 aym h rfl rfl l.length 0 ((n,b),e) rfl (aQ _)
def akW:((Int×List Int)×Int)×(List Int)->((Int×List Int)×Int)×Unit:=λ(s,l)=>(ajo l s,())
def awK:cn:=.all [.ptr [.d<|.struct [yI,yB],.d yI]] [yB] [] akW true
def awG:cn.bp prog 226 awK:=ma<|bV ar dK sl 19 [⟨226,2,[[0,7,8,9]]⟩] [] (λA (((i,j),u),l)=>t93 A i j u l) s93 aot ⟨fc func226 fz,sz,oz,iz,(mc apQ mz),pz⟩ (λA y=>match y with |.c0 p a2 v B C=>⟨32,sl,by kernel_rfl⟩)<|λ((((i,j),u),l):(((Int×List Int)×Int))×(List Int)) D E h=>avZ h.1
abbrev abY(A:aS)(h:Int):=(A.k Ac (((0,([]:List Int)),0),A.b .sub .i64 h 1,2))
def t46(A:aS)(j:Int)(B:Int)(i:Int)(u:Int)(l:Int)(p:Int)(h:Int)(C:Int)(v:List Int):LT ((Int×List Int)×Int) Empty:=.br (A.cm (A.k xj (j,B,(i,u,l,p,h),C,v)) 0) (.ret ((0,([]:List Int)),A.k xj (j,B,(i,u,l,p,h),C,v)))<|.br (A.cm (A.k Oh (i,u,l,p,h)).2 0) (.ret ((0,([]:List Int)),(A.k Oh (i,u,l,p,h)).2))<|.br (A.bG j 1) (.ret (A.k UJ ((A.k Ac ((A.k Ac ((A.k Ac ((abY A j).1,C,3)).1,i,8)).1,0,3)).1,0,([]:List Int))).1)<|.br (A.bG j 2) (.ret (A.k UJ ((A.k akW ((A.k Ac ((abY A j).1,B,3)).1,v)).1,(A.k Oh (i,u,l,p,h)).1)).1)<|.br (A.bG j 3) (.ret (A.k UJ ((A.k akX ((A.k Ac ((A.k Ac ((abY A j).1,B,3)).1,0,1)).1,(A.k Oh (i,u,l,p,h)).1)).1,0,([]:List Int))).1)<|.br (A.bG j 4) (.ret (A.k UJ ((A.k akW ((A.k UJ ((A.k akX ((A.k Ac ((A.k Ac ((abY A j).1,B,3)).1,0,2)).1,(A.k Oh (i,u,l,p,h)).1)).1,0,([]:List Int))).1,v)).1,(A.k Oh (i,u,l,p,h)).1)).1)<|.ret (abY A j).1
def CF:(Int×Int×(Int×Int×Int×Int×Int)×Int×List Int)->((Int×List Int)×Int):=λ(A,B,(l,p,i,j,h),v,u)=>(t46 af A B l p i j h v u).val<|Ty.aO [(.struct [yI,yB]),yI]
def axk:aL:=.all [(.struct [yI,yI,.struct [yI,yI,yI,yI,yI],yI,yB])] [(.struct [yI,yB]),yI] CF
def arL:Sd 163 axk:=fa<|bE ar dK sl 120 [] [] (λA (C,D,(p,u,j,l,i),B,v)=>t46 A C D p u j l i B v) (λ_=>Empty.elim) Empty.elim ⟨fc func163 fz,(sc ar1 (sc aso sz)),oz,iz,(mc apQ (mc awF (mc awG (mc awH mz)))),pz⟩ (λ_ y=>y.elim) λ((C,D,(p,u,j,l,i),B,v):(Int×Int×(Int×Int×Int×Int×Int)×Int×List Int)) E h=>LT.runs (d:=Ty.aO [(.struct [yI,yB]),yI]) (LT.kG<|by kernel_rfl)<|LT.nG (by kernel_rfl)
def aqY{n:Int}(h:0<=n)(i:n<=8):af.b .shl .i64 1 n=((2^n.toNat:Nat):Int):=by
 have:n=0\/n=1\/n=2\/n=3\/n=4\/n=5\/n=6\/n=7\/n=8:=by omega
 rcases this with rfl|rfl|rfl|rfl|rfl|rfl|rfl|rfl|rfl<;>decide
def Ar{n:Nat}(h:n<=8):2^n<=256:=fZ (by decide) h
def qC(c a:Int):Bool:=c.toNat.testBit a.toNat
def pY(c s:Int):Int:=af.b .or .i64 c<|af.b .shl .i64 1 s
def xg(c s:Int):Int:=af.b .andNot .i64 c<|af.b .shl .i64 1 s
def aeV:∀c:Fin 256,∀a:Fin 8,af.b .or .i64 (c.val:Int) (af.b .shl .i64 1 (a.val:Int))=((c.val ||| 2^a.val:Nat):Int):=by decide +kernel
def aeA:∀c:Fin 256,∀a:Fin 8,af.b .andNot .i64 (c.val:Int) (af.b .shl .i64 1 (a.val:Int))=((c.val &&& (255 ^^^ 2^a.val):Nat):Int):=by decide +kernel
def Zp{c s:Int}(h:0<=c)(j:c<256)(i:0<=s)(l:s<8):pY c s=((c.toNat ||| 2^s.toNat:Nat):Int):=by
 obtain⟨c,rfl⟩:=a_ h;obtain⟨s,rfl⟩:=a_ i;exact aeV ⟨c,by omega⟩ ⟨s,by omega⟩
def del_eq{c s:Int}(h:0<=c)(j:c<256)(i:0<=s)(l:s<8):xg c s=((c.toNat &&& (255 ^^^ 2^s.toNat):Nat):Int):=by
 obtain⟨c,rfl⟩:=a_ h;obtain⟨s,rfl⟩:=a_ i;exact aeA ⟨c,by omega⟩ ⟨s,by omega⟩
def Zq{c s n:Int}(h:0<=c)(u:n<=8)(l:c<((2^n.toNat:Nat):Int))(i:0<=s)(p:s<n):0<=pY c s/\pY c s<((2^n.toNat:Nat):Int):=by
 have v:=Ar (n:=n.toNat) (by omega);rw[Zp h (by omega) i<|by omega];have j:2^s.toNat<2^n.toNat:=Nat.pow_lt_pow_right (by decide) (by omega);have:=Nat.or_lt_two_pow (x:=c.toNat) (y:=2^s.toNat) (n:=n.toNat) (by omega) j;omega
def X7{c s n:Int}(h:0<=c)(p:n<=8)(j:c<((2^n.toNat:Nat):Int))(i:0<=s)(l:s<8):0<=xg c s/\xg c s<((2^n.toNat:Nat):Int):=by
 have u:2^n.toNat<=2^8:=fZ (by decide) (by omega);rw[del_eq h (by omega) i<|by omega];have:c.toNat &&& (255 ^^^ 2^s.toNat)<=c.toNat:=Nat.and_le_left;omega
theorem Sg{c s i:Int}(h:0<=c)(j:c<256)(l:0<=s)(p:s<8)(u:0<=i):qC (pY c s) i=(qC c i||s==i):=by
 rw[Zp h j l p,qC,qC,y7,Nat.testBit_or,Nat.testBit_two_pow]
 grind
theorem Le{c s i:Int}(h:0<=c)(j:c<256)(l:0<=s)(p:s<8)(u:0<=i):qC (xg c s) i=(qC c i&&s != i):=by
 rw[del_eq h j l p,qC,qC,y7,Nat.testBit_and,Nat.testBit_xor,Nat.testBit_two_pow];by_cases v:i<8
 .have e:Nat.testBit 255 i.toNat=true:=by
   have:i.toNat=0\/i.toNat=1\/i.toNat=2\/i.toNat=3\/i.toNat=4\/i.toNat=5\/i.toNat=6\/i.toNat=7:=by omega
   grind
  grind
 .have:c.toNat.testBit i.toNat=false:=Nat.testBit_lt_two_pow<|bD (by omega:c.toNat<2^8)<|fZ (by decide) (by omega)
  simp_all
def XK:∀c:Fin 256,∀a:Fin 8,(af.b .and .i64 (af.b .shr .i64 (c.val:Int) (a.val:Int)) 1==0)=!(c.val.testBit a.val):=by decide +kernel
def XL:∀c:Fin 256,∀a:Fin 8,(af.b .and .i64 (c.val:Int) (af.b .shl .i64 1 (a.val:Int))==0)=!(c.val.testBit a.val):=by decide +kernel
def aoj{c a:Int}(h:0<=c)(j:c<256)(i:0<=a)(l:a<8):af.b .and .i64 (af.b .shr .i64 c a) 1=0↔qC c a=false:=by
 obtain⟨c,rfl⟩:=a_ h;obtain⟨a,rfl⟩:=a_ i;have:=XK ⟨c,by omega⟩ ⟨a,by omega⟩;rw[<-beq_iff_eq,this];simp[qC]
def agW{c a:Int}(h:0<=c)(j:c<256)(i:0<=a)(l:a<8):af.b .and .i64 c (af.b .shl .i64 1 a)=0↔qC c a=false:=by
 obtain⟨c,rfl⟩:=a_ h;obtain⟨a,rfl⟩:=a_ i;have:=XL ⟨c,by omega⟩ ⟨a,by omega⟩;rw[<-beq_iff_eq,this];simp[qC]
def oC(a b c d e f g:Int):Prop:=4<=b/\b<=8/\0<=a/\a<b/\0<=g/\g<b/\0<=c/\c<((2^b.toNat:Nat):Int)/\0<=d/\d<=1048576/\0<=e/\e<=1048576/\0<=f/\f<=2/\(f≠0->qC c a=true)/\(f=2->g≠a)
variable{f g:Int}
def aqr{a b c e:Int}(h:oC a b c d e f g):c<256:=by
 have⟨i,j,_,_,_,_,_,l,_⟩:=h;have:=Ar (n:=b.toNat) (by omega);omega
def t81(A:aS)(n:Int)(h:Int):LT Bool Empty:=.br (A.qE n 0) (.ret<|A.bQ n h)<|.ret false
def Jt:(Int×Int)->Bool:=λ(n,h)=>(t81 af n h).val<|Ty.aO [.bool]
def axz:aL:=.all [yI,yI] [.bool] Jt
def asn:Sd 249 axz:=fa<|aN ar dK sl 21 [] (λA (n,h)=>t81 A n h)<|kz (fc func249 fz) sz
theorem LH{n m:Int}:Jt (n,m)=(decide (0<=n)&&decide (n<=m)):=by
 simp only[Jt,t81,LT.val,kQ,ax]
 simp_all
def t34(A:aS)(j:Int)(u:Int)(l:Int)(v:Int)(p:Int)(h:Int)(i:Int):LT Int Empty:=.br (A.bq u 4) (.ret 90)<|.br (A.jr u 8) (.ret 90)<|.br (A.not<|A.k Jt (j,A.b .sub .i64 u 1)) (.ret 90)<|.br (A.not<|A.k Jt (i,A.b .sub .i64 u 1)) (.ret 90)<|.br (A.not<|A.k Jt (v,1048576)) (.ret 90)<|.br (A.not<|A.k Jt (p,1048576)) (.ret 90)<|.br (A.not<|A.k Jt (h,2)) (.ret 90)<|.ao (A.bQ 0 u)<|.br (A.not<|A.k Jt (l,A.b .sub .i64 (A.b .shl .i64 1 u) 1)) (.ret 90)<|.br (A.cm h 0) (.ao (A.bQ 0 j)<|.br (A.bG (A.b .and .i64 (A.b .shr .i64 l j) 1) 0) (.ret 90)<|.br (A.bG h 2) (.br (A.bG i j) (.ret 90)<|.ret 0)<|.ret 0)<|.br (A.bG h 2) (.br (A.bG i j) (.ret 90)<|.ret 0)<|.ret 0
def qQ:(Int×Int×Int×Int×Int×Int×Int)->Int:=λ(u,v,p,l,j,i,h)=>(t34 af u v p l j i h).val<|Ty.aO [yI]
def axg:aL:=.all [(.struct [yI,yI,yI,yI,yI,yI,yI])] [yI] qQ
def Rs:Sd 196 axg:=fa (aN ar dK sl 123 [] (λA (v,B,u,p,l,j,i)=>t34 A v B u p l j i) (kz (fc func196 fz) (sc asn sz)) (λ((v,B,u,p,l,j,i):(Int×Int×Int×Int×Int×Int×Int)) C h=>by
 show(t34 af v B u p l j i).pre=true;simp only[t34,LT.pre,STD,bne_iff_ne,beq_iff_eq,bne_eq_false_iff_eq,beq_eq_false_iff_ne,LH];simp only[Ty.kS,Ty.has,Kw,aoO] at h
 (repeat' (first|intro _|constructor))<;>(try omega)))
variable{x:Int×Int×Int×Int×Int×Int×Int}
def P8:qQ x=0\/qQ x=90:=by
 exact LT.sD (p:=λy=>y=0\/y=90) (.inl rfl) (by simp[t34,LT.all])
theorem iw{a b c e:Int}:qQ (a,b,c,d,e,f,g)=0↔oC a b c d e f g:=by
 simp only[qQ,t34,LT.val,z8,bf,b_,bl,gD,ji,bZ,ia,fK,Bool.not_eq_false',tP,decide_eq_false_iff_not,bne_iff_ne,beq_iff_eq,bne_eq_false_iff_eq,beq_eq_false_iff_ne,LH];simp;unfold oC;by_cases j:4<=b/\b<=8
 .rw[my (by omega) (by omega),aqY (by omega) j.2];have p:=Ar (n:=b.toNat) (by omega);have l:1<=2^b.toNat:=Nat.one_le_two_pow;rw[my (by omega) (by omega)];by_cases i:0<=c/\c<256/\0<=a/\a<8
  .have h:=aoj i.1 i.2.1 i.2.2.1 i.2.2.2
   grind
  omega
 omega
def t80(A:aS)(n:Int):LT Int Empty:=.ao (A.bQ 0<|A.v .u64 n)<|.ret<|A.b .shl .i64 1<|A.v .u64 n
def aeJ:Int->Int:=λn=>(t80 af n).val<|Ty.aO [yI]
def S7{n:Int}(h:0<=n)(i:n<=8):aeJ n=((2^n.toNat:Nat):Int):=by
 have:n=0\/n=1\/n=2\/n=3\/n=4\/n=5\/n=6\/n=7\/n=8:=by omega
 rcases this with rfl|rfl|rfl|rfl|rfl|rfl|rfl|rfl|rfl<;>decide
def Y0{n:Int}(h:0<=n)(i:n<=8):aeJ n=af.b .shl .i64 1 n:=by rw[S7 h i,aqY h i]
def t35(A:aS)(l:Int)(v:Int)(p:Int)(u:Int)(j:Int)(h:Int)(i:Int):LT Int Empty:=.br (A.bq v 4) (.ret 90)<|.br (A.jr v 8) (.ret 90)<|.br (A.bq l 0) (.ret 90)<|.br (A.qE l v) (.ret 90)<|.br (A.bq i 0) (.ret 90)<|.br (A.qE i v) (.ret 90)<|.br (A.bq p 0) (.ret 90)<|.br (A.qE p<|A.k aeJ v) (.ret 90)<|.br (A.bq u 0) (.ret 90)<|.br (A.jr u 1048576) (.ret 90)<|.br (A.bq j 0) (.ret 90)<|.br (A.jr j 1048576) (.ret 90)<|.br (A.bq h 0) (.ret 90)<|.br (A.jr h 2) (.ret 90)<|.br (A.cm h 0) (.br (A.bG (A.b .and .i64 p<|A.k aeJ l) 0) (.ret 90)<|.br (A.bG h 2) (.br (A.bG i l) (.ret 90)<|.ret 0)<|.ret 0)<|.br (A.bG h 2) (.br (A.bG i l) (.ret 90)<|.ret 0)<|.ret 0
def tQ:(Int×Int×Int×Int×Int×Int×Int)->Int:=λ(u,v,p,l,j,i,h)=>(t35 af u v p l j i h).val<|Ty.aO [yI]
def P9:tQ x=0\/tQ x=90:=by
 exact LT.sD (p:=λy=>y=0\/y=90) (.inl rfl) (by simp[t35,LT.all])
theorem nF{a b c e:Int}:tQ (a,b,c,d,e,f,g)=0↔oC a b c d e f g:=by
 simp only[tQ,t35,LT.val,z8,bf,b_,bl,gD,kQ,bZ,decide_eq_false_iff_not,bne_iff_ne,beq_iff_eq,bne_eq_false_iff_eq,beq_eq_false_iff_ne];simp;unfold oC;by_cases j:4<=b/\b<=8/\0<=a/\a<b
 .rw[S7 (by omega) j.2.1,Y0 (n:=a) (by omega) (by omega)];have l:=Ar (n:=b.toNat) (by omega);by_cases i:0<=c/\c<256
  .have h:=agW (a:=a) i.1 i.2 (by omega) (by omega)
   grind
  omega
 omega
theorem chk:qQ x=tQ x:=by
 have h:=P8 (x:=x);have i:=P9 (x:=x);have⟨a,b,c,d,e,f,g⟩:=x;have j:=iw (a:=a) (b:=b) (c:=c) (d:=d) (e:=e) (f:=f) (g:=g);have l:=nF (a:=a) (b:=b) (c:=c) (d:=d) (e:=e) (f:=f) (g:=g)
 grind
def t77(A:aS)(l:Int)(v:Int)(u:Int)(p:Int)(j:Int)(i:Int)(h:Int)(node:Int):LT Bool Empty:=.br (A.k Jt (node,A.b .sub .i64 v 1)) (.ret<|A.cm node l)<|.ret false
def Js:((Int×Int×Int×Int×Int×Int×Int)×Int)->Bool:=λ((u,v,p,l,j,i,h),node)=>(t77 af u v p l j i h node).val<|Ty.aO [.bool]
def axx:aL:=.all [(.struct [yI,yI,yI,yI,yI,yI,yI]),yI] [.bool] Js
def amt:Sd 302 axx:=fa<|aN ar dK sl 26 [] (λA ((u,v,p,l,j,i,h),node)=>t77 A u v p l j i h node)<|kz (fc func302 fz)<|sc asn sz
def t73(A:aS)(v:Int)(B:Int)(p:Int)(l:Int)(j:Int)(i:Int)(h:Int)(u:Int):LT Int Empty:=.br (A.cm (A.k qQ (v,B,p,l,j,i,h)) 0) (.ret<|A.k qQ (v,B,p,l,j,i,h))<|.br (A.not<|A.k Js ((v,B,p,l,j,i,h),u)) (.ret 2)<|.ret 0
def Qb:((Int×Int×Int×Int×Int×Int×Int)×Int)->Int:=λ((v,A,u,p,l,i,h),j)=>(t73 af v A u p l i h j).val<|Ty.aO [yI]
def axv:aL:=.all [(.struct [yI,yI,yI,yI,yI,yI,yI]),yI] [yI] Qb
def asg:Sd 305 axv:=fa<|aN ar dK sl 39 [] (λA ((v,B,u,p,l,i,h),j)=>t73 A v B u p l i h j)<|kz (fc func305 fz)<|sc Rs<|sc amt sz
abbrev Ix(A:aS)(i:Int)(h:Int):=(A.b .or .i64 i<|A.b .shl .i64 1 h)
def t78(A:aS)(p:Int)(B:Int)(j:Int)(v:Int)(u:Int)(l:Int)(i:Int)(h:Int):LT (List Int×Int) Empty:=.ao (A.bQ 0 p)<|.ao (A.bQ 0 i)<|.ao (A.bQ 0 h)<|.br (A.bG l 0) (.ret ([(Ix A j h),0],1))<|.br (A.bG l 1) (.ret ([(A.b .or .i64 (Ix A j h)<|A.b .shl .i64 1 p),A.b .andNot .i64 (Ix A j h)<|A.b .shl .i64 1 p],2))<|.br (A.bG h i) (.ret ([(A.b .or .i64 (Ix A j h)<|A.b .shl .i64 1 p),0],1))<|.ret ([(A.b .andNot .i64 (A.b .or .i64 (Ix A j h)<|A.b .shl .i64 1 p)<|A.b .shl .i64 1 i),A.b .andNot .i64 (A.b .or .i64 (Ix A j h)<|A.b .shl .i64 1 i)<|A.b .shl .i64 1 p],2)
def oy:((Int×Int×Int×Int×Int×Int×Int)×Int)->(List Int×Int):=λ((v,A,u,p,l,i,h),j)=>(t78 af v A u p l i h j).val<|Ty.aO [(.arr 2 yI),yI]
def KH:((Int×Int×Int×Int×Int×Int×Int)×Int)->Bool:=λ((a,b,c,d,e,f,g),s)=>decide (0<=a)&&(decide (0<=g)&&decide (0<=s))
def axy:aL:=⟨[(.struct [yI,yI,yI,yI,yI,yI,yI]),yI],[(.arr 2 yI),yI],KH,oy,false⟩
def asm:Sd 303 axy:=aN ar dK sl 77 [] (λA ((B,C,v,u,p,j,i),l)=>t78 A B C v u p j i l) (kz (fc func303 fz) sz) (λ(((B,C,v,u,p,j,i),l):(Int×Int×Int×Int×Int×Int×Int)×Int) D h=>by
 show(t78 af B C v u p j i l).pre=true;simp only[t78,Ix,LT.pre,STD,bne_iff_ne,beq_iff_eq,bne_eq_false_iff_eq,beq_eq_false_iff_ne];simp only[KH,eH,tP] at D;simp only[Ty.kS,Ty.has,Kw,aoO] at h
 (repeat' (first|intro _|constructor))<;>(try omega))
def xO{a b c e s:Int}(h:4<=b)(i:b<=8):Js ((a,b,c,d,e,f,g),s)=true↔0<=s/\s<b/\s≠a:=by
 simp only[Js,t77,LT.val,b_,bZ,ia,LH];simp;rw[my (by omega)<|by omega];omega
def Og{x:(Int×Int×Int×Int×Int×Int×Int)×Int}:0<=(oy x).2/\(oy x).2<=2:=by
 exact LT.sD (p:=λy:List Int×Int=>0<=y.2/\y.2<=2) (by decide) (by simp[t78,Ix,LT.all])
structure aof where(a0 a1 a2 a4 a5 a6 a7 a8 a9 mA pH a12 FD Nv Nw a16 a17 R9 R_ a20 a21 a22 a23:Int)(a24:Bool)(a25 a26 a27 a28 a29 a30 a31 a32 a33 a34 a35 a36 a37 a38 a39 a40:Int)
inductive Y74 where|c0(p:aof)(a3:Int)
noncomputable def aor:Y74->iF
 | .c0 p a3=>⟨[iN 301 37 [(0,.yield 0),(24,.wq 1 1 false p.a0 p.a1),(25,vi p.a2),(26,vi a3)] f301 60,⟨306,19,en [(6,pZ 2),(7,pZ 3)],[.oA 0,.inBlock 0,.code<|cw f306 7],[4],none⟩],[.loop ⟨306,19,en [(0,.agg [vi p.a4,vi p.a5,vi p.a6,vi p.a7,vi p.a8,vi p.a9,vi p.mA]),(1,vi p.pH),(2,vi p.a12),(3,pZ 5),(5,pZ 6),(6,pZ 2),(7,pZ 3),(10,.agg [vi p.FD,vi p.Nv,vi p.Nw,vi p.a16,vi p.a17,vi p.R9,vi p.R_]),(11,vi p.a20),(12,.fn 301 [] [pZ 7,pZ 8])],[13,14],cw f306 52,cw f306 53,0,none⟩,gZ [vi p.a21,vi p.a22],vZ p.a23,gZ [vb p.a24],.FU,gZ [vi p.a25,vi p.a26,vi p.a27,vi p.a28,vi p.a29,vi p.a30,vi p.a31],vZ p.a32,gZ [vi p.a33,vi p.a34,vi p.a35,vi p.a36,vi p.a37,vi p.a38,vi p.a39],vZ p.a40,.aU]⟩
def t74(A:aS)(v:Int)(B:Int)(u:Int)(p:Int)(l:Int)(i:Int)(h:Int)(j:Int)(C:Int):LT (Int×Bool) Y74:=.br (A.cm (A.k qQ (v,B,u,p,l,i,h)) 0) (.ret (0,false))<|.br (A.not<|A.k Js ((v,B,u,p,l,i,h),j)) (.ret (0,false))<|.ao (A.k KH ((v,B,u,p,l,i,h),j))<|.ao (A.and (A.bQ 0 0)<|A.and (A.bQ 0 (A.k oy ((v,B,u,p,l,i,h),j)).2)<|A.bQ (A.k oy ((v,B,u,p,l,i,h),j)).2 2)<|.ak<|.c0 ⟨A.b .add .i64 0 0,A.b .sub .i64 (A.k oy ((v,B,u,p,l,i,h),j)).2 0,A.b .sub .i64 (A.k oy ((v,B,u,p,l,i,h),j)).2 0,v,B,u,p,l,i,h,j,C,v,B,u,p,l,i,h,j,(A.n yI (A.k oy ((v,B,u,p,l,i,h),j)).1 0:Int),(A.n yI (A.k oy ((v,B,u,p,l,i,h),j)).1 1:Int),0,false,v,B,u,p,l,i,h,C,v,B,u,p,l,i,h,j⟩ 0
def s74(A:aS):Y74->LT (Int×Bool) Y74
 | .c0 p a3=>.br (A.bq a3 p.a2) (.ao (A.and (A.bQ 0 a3)<|A.bq a3 p.a1)<|.br (A.bG a3 p.a32) (.ret ((A.n yI [p.a21,p.a22] (A.b .add .i64 p.a0 a3):Int),true))<|.ak<|.c0 p<|A.b .add .i64 a3 1)<|.ret (0,false)
def LD:((Int×Int×Int×Int×Int×Int×Int)×Int×Int)->(Int×Bool):=λ(m,s,k)=>bif qQ m != 0 then(0,false) else bif !Js (m,s) then(0,false) else bif decide (0<=k)&&decide (k<(oy (m,s)).2) then((oy (m,s)).1.getD k.toNat 0,true) else(0,false)
def axw:aL:=.all [(.struct [yI,yI,yI,yI,yI,yI,yI]),yI,yI] [yI,.bool] LD
def axa:Sd 306 axw:=fa (bE ar dK sl 70 [⟨301,3,[[0,24,25,26],[6,7]]⟩] [] (λA ((E,F,D,C,B,u,j),v,i)=>t74 A E F D C B u j v i) s74 aor (kz (fc func306 (fc func264 (fc func301 fz))) (sc Rs (sc amt (sc asm sz)))) (λA y=>match y with |.c0 p V=>⟨57,sl,by kernel_rfl⟩) λ(((E,F,D,C,B,u,j),v,i):(Int×Int×Int×Int×Int×Int×Int)×Int×Int) X h=>by
 show bi (s74 af) (t74 af E F D C B u j v i)<|LD ((E,F,D,C,B,u,j),v,i);unfold t74 LD;refine .br ?_;simp only[bZ,b_,ji];cases h1:qQ (E,F,D,C,B,u,j) != 0
 .simp only[cond_false];rw[bne_eq_false_iff_eq] at h1;have P:=iw.1 h1;unfold oC at P;refine .br ?_;cases h2:Js ((E,F,D,C,B,u,j),v)
  .exact .ret _
  .simp only[Bool.not_true,cond_false];have W:=(xO (by omega)<|by omega).1 h2;have S:=Og (x:=((E,F,D,C,B,u,j),v));refine .ao (by simp[KH];omega) ?_;generalize oy ((E,F,D,C,B,u,j),v)=q at *;have⟨l,n⟩:=q;simp only at S;refine .ao (by simp only[bF,ax,eH,tP];omega) ?_;have Q:n=0\/n=1\/n=2:=by omega
   have O:i=0\/i=1\/(i≠0/\i≠1):=by omega
   have H:IntKind.i64.wrap 0=0:=by decide
   have I:IntKind.i64.wrap 1=1:=by decide
   have J:IntKind.i64.wrap 2=2:=by decide
   rcases Q with rfl|rfl|rfl<;>rcases O with rfl|rfl|⟨Z,k1⟩
   all_goals first
    | (simp[aI,s74,yZ,aA,BS,bl,ax,bf,bF,gB,ia,Ud,H,I,J,Ty.gH];done)
    | (simp[aI,s74,yZ,aA,BS,bl,ax,bf,bF,gB,ia,H,I,J];rfl)
    | (have K:(0==i)=false:=by simp<;>omega
       have N:(1==i)=false:=by simp<;>omega
       have c0:(decide (0<=i)&&decide (i<0))=false:=by simp<;>omega
       have c1:(decide (0<=i)&&decide (i<1))=false:=by simp<;>omega
       have c2:(decide (0<=i)&&decide (i<2))=false:=by simp<;>omega
       simp only[c0,c1,c2];simp[aI,s74,yZ,aA,BS,bl,ax,bf,bF,gB,ia,Ud,H,I,J,K,N])
 .exact .ret _)
def jI{a b c e s:Int}:Qb ((a,b,c,d,e,f,g),s)=0↔oC a b c d e f g/\0<=s/\s<b/\s≠a:=by
 simp only[Qb,t73,LT.val,z8,b_,ji,bZ,Bool.not_eq_false',bne_iff_ne,bne_eq_false_iff_eq];constructor
 .intro h;rcases h with ⟨p,j⟩|⟨p,j⟩
  .omega
  .have l:=iw.1 p;have i:=l;unfold oC at i;rcases j with ⟨j,v⟩|⟨j,_⟩
   .omega
   .exact⟨l,(xO (by omega)<|by omega).1 j⟩
 .rintro ⟨l,u⟩
  have i:=l;unfold oC at i;exact .inr ⟨iw.2 l,.inr ⟨(xO (by omega)<|by omega).2 u,trivial⟩⟩
abbrev It(A:aS)(v:Int)(C:Int)(B:Int)(p:Int)(h:Int)(j:Int)(i:Int)(l:Int)(u:Int):LT ((Int×Int×Int×Int×Int×Int×Int)×Int) Empty:=(.br (A.bG j 2) (.br (A.cm l i) (.ret ((v,C,(A.k LD ((v,C,B,p,h,j,i),l,u)).1,A.mn (A.b .add .i64 p 1) 1048576,A.mn (A.b .add .i64 h 1) 1048576,0,0),0))<|.ret ((v,C,(A.k LD ((v,C,B,p,h,j,i),l,u)).1,A.mn (A.b .add .i64 p 1) 1048576,h,0,0),0))<|.ret ((v,C,(A.k LD ((v,C,B,p,h,j,i),l,u)).1,A.mn (A.b .add .i64 p 1) 1048576,h,0,0),0))
def t25(A:aS)(B:Int)(C:Int)(u:Int)(p:Int)(l:Int)(i:Int)(j:Int)(h:Int)(v:Int):LT ((Int×Int×Int×Int×Int×Int×Int)×Int) Empty:=.br (A.cm (A.k Qb ((B,C,u,p,l,i,j),h)) 0) (.ret ((0,0,0,0,0,0,0),A.k Qb ((B,C,u,p,l,i,j),h)))<|.br (A.not (A.k LD ((B,C,u,p,l,i,j),h,v)).2) (.ret ((0,0,0,0,0,0,0),2))<|.br (A.bG i 1) (.br (A.bG v 1) (.ao (A.bQ 0 h)<|.ret ((B,C,A.b .or .i64 u<|A.b .shl .i64 1 h,p,l,2,h),0))<|It A B C u p l i j h v)<|It A B C u p l i j h v
def vu:((Int×Int×Int×Int×Int×Int×Int)×Int×Int)->((Int×Int×Int×Int×Int×Int×Int)×Int):=λ((A,B,v,u,l,i,h),j,p)=>(t25 af A B v u l i h j p).val<|Ty.aO [(.struct [yI,yI,yI,yI,yI,yI,yI]),yI]
def axe:aL:=.all [(.struct [yI,yI,yI,yI,yI,yI,yI]),yI,yI] [(.struct [yI,yI,yI,yI,yI,yI,yI]),yI] vu
def aw3:Sd 270 axe:=fa (aN ar dK sl 107 [] (λA ((C,D,B,v,p,j,i),l,u)=>t25 A C D B v p j i l u) (kz (fc func270 fz) (sc asg (sc axa sz))) (λ(((C,D,B,v,p,j,i),l,u):(Int×Int×Int×Int×Int×Int×Int)×Int×Int) F h=>by
 show(t25 af C D B v p j i l u).pre=true;simp only[t25,It,LT.pre,STD,bne_iff_ne,beq_iff_eq,bne_eq_false_iff_eq,beq_eq_false_iff_ne];simp only[Ty.kS,Ty.has,Kw] at h
 (repeat' (first|intro _|constructor))<;>(try (have E:=(jI.1<|by assumption);unfold oC at E;omega))))
def t38(A:aS)(v:Int)(B:Int)(u:Int)(p:Int)(l:Int)(j:Int)(i:Int)(h:Int):LT ((Int×Int×Int×Int×Int×Int×Int)×Int) Empty:=.br (A.cm (A.k Qb ((v,B,u,p,l,j,i),h)) 0) (.ret ((0,0,0,0,0,0,0),A.k Qb ((v,B,u,p,l,j,i),h)))<|.ao (A.bQ 0 h)<|.br (A.bG j 2) (.br (A.bG i h) (.ret ((v,B,A.b .andNot .i64 u<|A.b .shl .i64 1 h,p,l,1,0),0))<|.ret ((v,B,A.b .andNot .i64 u<|A.b .shl .i64 1 h,p,l,j,i),0))<|.ret ((v,B,A.b .andNot .i64 u<|A.b .shl .i64 1 h,p,l,j,i),0)
def uU:((Int×Int×Int×Int×Int×Int×Int)×Int)->((Int×Int×Int×Int×Int×Int×Int)×Int):=λ((v,A,u,p,l,i,h),j)=>(t38 af v A u p l i h j).val<|Ty.aO [(.struct [yI,yI,yI,yI,yI,yI,yI]),yI]
def axh:aL:=.all [(.struct [yI,yI,yI,yI,yI,yI,yI]),yI] [(.struct [yI,yI,yI,yI,yI,yI,yI]),yI] uU
def arw:Sd 268 axh:=fa (aN ar dK sl 63 [] (λA ((B,C,v,u,p,j,i),l)=>t38 A B C v u p j i l) (kz (fc func268 fz) (sc asg sz)) (λ(((B,C,v,u,p,j,i),l):(Int×Int×Int×Int×Int×Int×Int)×Int) E h=>by
 show(t38 af B C v u p j i l).pre=true;simp only[t38,LT.pre,STD,bne_iff_ne,beq_iff_eq,bne_eq_false_iff_eq,beq_eq_false_iff_ne];simp only[Ty.kS,Ty.has,Kw] at h
 (repeat' (first|intro _|constructor))<;>(try (have D:=(jI.1<|by assumption);unfold oC at D;omega))))
def t39(A:aS)(v:Int)(B:Int)(u:Int)(p:Int)(l:Int)(i:Int)(h:Int)(j:Int):LT ((Int×Int×Int×Int×Int×Int×Int)×Int) Empty:=.br (A.bG (A.k uU ((v,B,u,p,l,i,h),j)).2 0) (.ret (((A.k uU ((v,B,u,p,l,i,h),j)).1.1,(A.k uU ((v,B,u,p,l,i,h),j)).1.2.1,(A.k uU ((v,B,u,p,l,i,h),j)).1.2.2.1,(A.k uU ((v,B,u,p,l,i,h),j)).1.2.2.2.1,A.mn (A.b .add .i64 (A.k uU ((v,B,u,p,l,i,h),j)).1.2.2.2.2.1 1) 1048576,(A.k uU ((v,B,u,p,l,i,h),j)).1.2.2.2.2.2),(A.k uU ((v,B,u,p,l,i,h),j)).2))<|.ret<|A.k uU ((v,B,u,p,l,i,h),j)
def YE:((Int×Int×Int×Int×Int×Int×Int)×Int)->((Int×Int×Int×Int×Int×Int×Int)×Int):=λ((v,A,u,p,l,i,h),j)=>(t39 af v A u p l i h j).val<|Ty.aO [(.struct [yI,yI,yI,yI,yI,yI,yI]),yI]
def axi:aL:=.all [(.struct [yI,yI,yI,yI,yI,yI,yI]),yI] [(.struct [yI,yI,yI,yI,yI,yI,yI]),yI] YE
def aw5:Sd 269 axi:=fa<|aN ar dK sl 45 [] (λA ((v,B,u,p,l,i,h),j)=>t39 A v B u p l i h j)<|kz (fc func269 fz)<|sc arw sz
def inc(d:Int):Int:=if d<1048576 then d+1 else 1048576
def xY(h:0<=d)(i:d<=1048576):af.mn (af.b .add .i64 d 1) 1048576=inc d:=by
 rw[n_,gB,my (by omega)<|by omega,inc];omega
section
variable {a b c d e f g s:Int}
def Qc:oy ((a,b,c,d,e,0,g),s)=([pY c s,0],1):=rfl
def Qd:oy ((a,b,c,d,e,1,g),s)=([pY (pY c s) a,xg (pY c s) a],2):=rfl
def LF:oy ((a,b,c,d,e,2,g),g)=([pY (pY c g) a,0],1):=by
 simp[oy,t78,Ix,LT.val,bf,pY]
theorem LG(h:s≠g):oy ((a,b,c,d,e,2,g),s)=([xg (pY (pY c s) a) g,xg (pY (pY c s) g) a],2):=by
 have i:(s==g)=false:=by simp_all
 simp[oy,t78,Ix,LT.val,bf,pY,xg,i]
def uu(h:oC a b c d e f g)(i:0<=s)(j:s<b)(l:s≠a)(k:Int):LD ((a,b,c,d,e,f,g),s,k) =
  bif decide (0<=k)&&decide (k<(oy ((a,b,c,d,e,f,g),s)).2) then((oy ((a,b,c,d,e,f,g),s)).1.getD k.toNat 0,true) else(0,false):=by
 have p:=h;unfold oC at p;simp[LD,iw.2 h,(xO (by omega)<|by omega).2 ⟨i,j,l⟩,bne_self_eq_false,Bool.not_true,cond_false]
def Y9(h:oC a b c d e 0 g)(i:0<=s)(j:s<b)(l:s≠a):vu ((a,b,c,d,e,0,g),s,0)=((a,b,pY c s,inc d,e,0,0),0):=by
 have p:=h;unfold oC at p;simp[vu,t25,It,LT.val,bZ,b_,bf,ji,jI.2 ⟨h,i,j,l⟩,uu h i j l,Qc,xY (d:=d) (by omega)<|by omega]
def Y_(h:oC a b c d e 1 g)(i:0<=s)(j:s<b)(l:s≠a):vu ((a,b,c,d,e,1,g),s,0)=((a,b,pY (pY c s) a,inc d,e,0,0),0):=by
 have p:=h;unfold oC at p;simp[vu,t25,It,LT.val,bZ,b_,bf,ji,jI.2 ⟨h,i,j,l⟩,uu h i j l,Qd,xY (d:=d) (by omega)<|by omega]
def S_(h:oC a b c d e 1 g)(i:0<=s)(j:s<b)(l:s≠a):vu ((a,b,c,d,e,1,g),s,1)=((a,b,pY c s,d,e,2,s),0):=by
 simp[vu,t25,It,LT.val,bZ,b_,bf,ji,jI.2 ⟨h,i,j,l⟩,uu h i j l,Qd,pY]
def Ta(h:oC a b c d e 2 g)(i:0<=g)(j:g<b)(l:g≠a):vu ((a,b,c,d,e,2,g),g,0)=((a,b,pY (pY c g) a,inc d,e,0,0),0):=by
 have p:=h;unfold oC at p;simp[vu,t25,It,LT.val,bZ,b_,bf,ji,jI.2 ⟨h,i,j,l⟩,uu h i j l,LF,xY (d:=d) (by omega)<|by omega]
theorem Tb(h:oC a b c d e 2 g)(i:0<=s)(j:s<b)(l:s≠a)(p:s≠g):vu ((a,b,c,d,e,2,g),s,0)=((a,b,xg (pY (pY c s) a) g,inc d,inc e,0,0),0):=by
 have u:=h;unfold oC at u;simp[vu,t25,It,LT.val,bZ,b_,bf,ji,jI.2 ⟨h,i,j,l⟩,uu h i j l,LG p,show(s != g)=true from by simp_all,xY (d:=d) (by omega)<|by omega,xY (d:=e) (by omega)<|by omega]
theorem Tc(h:oC a b c d e 2 g)(i:0<=s)(j:s<b)(l:s≠a)(p:s≠g):vu ((a,b,c,d,e,2,g),s,1)=((a,b,xg (pY (pY c s) g) a,inc d,inc e,0,0),0):=by
 have u:=h;unfold oC at u;simp[vu,t25,It,LT.val,bZ,b_,bf,ji,jI.2 ⟨h,i,j,l⟩,uu h i j l,LG p,show(s != g)=true from by simp_all,xY (d:=d) (by omega)<|by omega,xY (d:=e) (by omega)<|by omega]
theorem Z_(h:oC a b c d e f g)(i:0<=s)(j:s<b)(l:s≠a)(u:f≠2):uU ((a,b,c,d,e,f,g),s)=((a,b,xg c s,d,e,f,g),0):=by
 have p:(f==2)=false:=by simp_all
 simp[uU,t38,LT.val,bZ,b_,bf,jI.2 ⟨h,i,j,l⟩,xg,p]
theorem aaa(h:oC a b c d e 2 g)(i:0<=s)(j:s<b)(l:s≠a)(u:g≠s):uU ((a,b,c,d,e,2,g),s)=((a,b,xg c s,d,e,2,g),0):=by
 have p:(g==s)=false:=by simp_all
 simp[uU,t38,LT.val,bZ,b_,bf,jI.2 ⟨h,i,j,l⟩,xg,p]
def aab(h:oC a b c d e 2 g)(j:g≠a):uU ((a,b,c,d,e,2,g),g)=((a,b,xg c g,d,e,1,0),0):=by
 have i:=h;simp[uU,t38,LT.val,bZ,b_,bf,jI.2 ⟨h,i.e,i.f,j⟩,xg]
def PL{m i:Int×Int×Int×Int×Int×Int×Int}(h:uU (m,s)=(i,0))(j:0<=i.2.2.2.2.1)(l:i.2.2.2.2.1<=1048576):YE (m,s)=((i.1,i.2.1,i.2.2.1,i.2.2.2.1,inc i.2.2.2.2.1,i.2.2.2.2.2),0):=by
 simp[YE,t39,LT.val,bZ,bf,h,xY j l]
end
structure agR where(a0:List (Int×Int×(Int×List Int)))(a1 a3 a4 a5 a6 a7 a8 a9 mA pH a12 FD Nv Nw:Int)
structure R6 where(b0 b1 b2 b3 b4 b5 b6 b7 b8 b9 b10 b11 b12 b13 Nx E0 Ny:Int)(za:List (Int×Int×(Int×List Int)))(I7:Bool)(Co V0 Dw Sf b23 b24 b25 b26:Int)(b27 b28:Bool)(b29 b30 b31 b32 b33 b34 b35:Int)(b36 b37 b38:Bool)(b39:Int)(b40 b41:Bool)(b42 b43:Int)(b44 b45 b46:Bool)(b47 b48:Int)(b49 b50 b51:Bool)(b52:List (Int×Int×(Int×List Int)))(b53:Int)(b54 b55:Bool)(b56 b57 b58 b59 b60 b61 b62 b63 b64 b65:Int)(b66:List (Int×Int×(Int×List Int)))(b67 b68 b69 b70 b71 b72 b73 b74 b75 b76 b77 b78 b79 b80 b81 b82 b83 b84 b85 b86 b87 b88 b89 b90 b91 b92 b93 b94 b95 b96 b97 b98 b99:Int)
structure WG where(c0:Int)(c1:List (Int×Int×(Int×List Int)))(c2 c4 c5 c6 c7 c8 c9 c10 c11 c12 c13 c14 Je c16 PR c18 c19 c20 c21 c22 c23 c24 c25 c26 c27 c28 c29 c30 c31 c32 c33 c34 c35 c36 c37 c38:Int)(c39:List (Int×Int×(Int×List Int)))(c40:Bool)(c41 c42 c43 c44 c45 c46 c47 c48:Int)(c49 c50:Bool)(c51 c52 c53 c54 c55 c56 c57:Int)(c58 c59 c60:Bool)(c61:Int)(c62 c63:Bool)(c64 c65:Int)(c66 c67 c68:Bool)(c69 c70:Int)(c71 c72 c73:Bool)(c74:List (Int×Int×(Int×List Int)))(c75:Int)(c76 c77:Bool)(c78 c79 c80 c81 c82 c83 c84 c85 c86 c87:Int)(c88:List (Int×Int×(Int×List Int)))(c89 c90 c91 c92 c93 c94 c95 c96 c97 c98 c99 aok aol aom aon:Int)
inductive Y43 where|c0(p:agR)(a2:Int)|c1(p:R6)|c2(p:WG)(c3:Int)
noncomputable def aoq:Y43->iF
 | .c0 p a2=>⟨[iN 304 19 [(0,.sl (.struct [yI,yI,.struct [yI,yB]]) p.a0),(1,.fn 267 [] []),(7,vi p.a1),(8,vi a2)] f304 52,⟨266,9,.leaf,[.ops (ow f266 6)<|(ow f266 6).toList.drop 2,.code .ret],[],none⟩,⟨215,85,en [(8,pZ 0),(9,pZ 1)],(.ops (ow f215 60) ((ow f215 60).toList.drop 1)::sk f215 60),[2],none⟩],[gZ [vi p.a3,vi p.a4,vi p.a5,vi p.a6,vi p.a7,vi p.a8,vi p.a9,vi p.mA,vi p.pH,vi p.a12,vi p.FD,.eT true,vi p.Nv],vZ p.Nw,.FU,.aU]⟩
 | .c1 p=>⟨[iN 301 37 [(0,.yield 0),(24,.wq 1 1 false p.b0 p.b1),(25,vi p.b2),(26,vi p.b3)] f301 60,⟨215,85,en [(7,pZ 2),(8,pZ 3),(9,pZ 4)],[.oA 0,.inBlock 1,.code<|cw f215 15],[5],none⟩],[.loop ⟨215,85,en [(0,.agg [vi p.b4,vi p.b5,vi p.b6,vi p.b7,vi p.b8]),(1,.agg [vi p.b9,vi p.b10,vi p.b11,vi p.b12,vi p.b13,vi p.Nx,vi p.E0]),(2,vi p.Ny),(3,.sl (.struct [yI,yI,.struct [yI,yB]]) p.za),(4,pZ 9),(5,pZ 6),(7,pZ 2),(8,pZ 3),(9,pZ 4),(16,vb p.I7),(17,.agg [vi p.Co,vi p.V0,vi p.Dw,vi p.Sf,vi p.b23,vi p.b24,vi p.b25]),(18,vi p.b26),(19,vb p.b27),(20,vb p.b28),(21,.agg [vi p.b29,vi p.b30,vi p.b31,vi p.b32,vi p.b33]),(22,.ptr 6 1),(23,vi p.b34),(24,vi p.b35),(25,vb p.b36),(26,vb p.b37),(28,vb p.b38),(29,vi p.b39),(30,vb p.b40),(31,vb p.b41),(32,vi p.b42),(33,.ptr 6 1),(34,vi p.b43),(35,vb p.b44),(36,vb p.b45),(37,vb p.b46),(38,vi p.b47),(39,pZ 6),(40,vi p.b48),(41,vb p.b49),(42,vb p.b50),(43,vb p.b51),(44,.sl (.struct [yI,yI,.struct [yI,yB]]) p.b52),(45,vi p.b53),(46,vb p.b54),(47,vb p.b55),(49,.agg [vi p.b56,vi p.b57,vi p.b58,vi p.b59,vi p.b60,vi p.b61,vi p.b62]),(50,vi p.b63),(51,.fn 301 [] [pZ 7,pZ 8])],[52,53],cw f215 116,cw f215 117,0,none⟩,gZ [vi p.b64,vi p.b65],gZ [.sl (.struct [yI,yI,.struct [yI,yB]]) p.b66],gZ [vi p.b67,vi p.b68,vi p.b69,vi p.b70,vi p.b71,vi p.b72,vi p.b73,vi p.b74,vi p.b75,vi p.b76,vi p.b77,.eT true,vi p.b78],vZ p.b79,.FU,gZ [vi p.b80,vi p.b81,vi p.b82,vi p.b83,vi p.b84,vi p.b85,vi p.b86],gZ [vi p.b87,vi p.b88,vi p.b89,vi p.b90,vi p.b91,vi p.b92,vi p.b93],vZ p.b94,gZ [vi p.b95,vi p.b96,vi p.b97,vi p.b98,vi p.b99],.aU]⟩
 | .c2 p c3=>⟨[⟨215,85,en [(4,pZ 0),(8,pZ 1),(9,pZ 2),(10,vi p.c0),(56,.sl (.struct [yI,yI,.struct [yI,yB]]) p.c1),(57,vi p.c2),(58,vi c3)],[.inLoop<|cw f215 3756,.inBlock 3,.inBlock 2],[],some 3⟩,Jr 301 37 [(0,.yield 3),(24,.wq 4 1 false p.c4 p.c5),(25,vi p.c6),(26,vi p.c7)] f301 3890 3,⟨215,85,en [(7,pZ 5),(8,pZ 1),(9,pZ 2)],[.oA 3,.inBlock 1,.code<|cw f215 15],[6],none⟩],[gZ [vi p.c8,vi p.c9,vi p.c10,vi p.c11,vi p.c12],gZ [vi p.c13,vi p.c14,vi p.Je,vi p.c16,vi p.PR,vi p.c18,vi p.c19,vi p.c20,vi p.c21,vi p.c22,vi p.c23,.eT true,vi p.c24],vZ p.c25,.loop ⟨215,85,en [(0,.agg [vi p.c26,vi p.c27,vi p.c28,vi p.c29,vi p.c30]),(1,.agg [vi p.c31,vi p.c32,vi p.c33,vi p.c34,vi p.c35,vi p.c36,vi p.c37]),(2,vi p.c38),(3,.sl (.struct [yI,yI,.struct [yI,yB]]) p.c39),(4,pZ 0),(5,pZ 7),(7,pZ 5),(8,pZ 1),(9,pZ 2),(16,vb p.c40),(17,.agg [vi p.c41,vi p.c42,vi p.c43,vi p.c44,vi p.c45,vi p.c46,vi p.c47]),(18,vi p.c48),(19,vb p.c49),(20,vb p.c50),(21,.agg [vi p.c51,vi p.c52,vi p.c53,vi p.c54,vi p.c55]),(22,.ptr 7 1),(23,vi p.c56),(24,vi p.c57),(25,vb p.c58),(26,vb p.c59),(28,vb p.c60),(29,vi p.c61),(30,vb p.c62),(31,vb p.c63),(32,vi p.c64),(33,.ptr 7 1),(34,vi p.c65),(35,vb p.c66),(36,vb p.c67),(37,vb p.c68),(38,vi p.c69),(39,pZ 7),(40,vi p.c70),(41,vb p.c71),(42,vb p.c72),(43,vb p.c73),(44,.sl (.struct [yI,yI,.struct [yI,yB]]) p.c74),(45,vi p.c75),(46,vb p.c76),(47,vb p.c77),(49,.agg [vi p.c78,vi p.c79,vi p.c80,vi p.c81,vi p.c82,vi p.c83,vi p.c84]),(50,vi p.c85),(51,.fn 301 [] [pZ 8,pZ 9])],[52,53],cw f215 116,cw f215 117,1,none⟩,gZ [vi p.c86,vi p.c87],gZ [.sl (.struct [yI,yI,.struct [yI,yB]]) p.c88],.FU,gZ [vi p.c89,vi p.c90,vi p.c91,vi p.c92,vi p.c93,vi p.c94,vi p.c95],gZ [vi p.c96,vi p.c97,vi p.c98,vi p.c99,vi p.aok,vi p.aol,vi p.aom],vZ p.aon,.aU]⟩
abbrev agi:LT ((Int×Int×Int×(Int×Int×(Int×Int×Int×Int×Int)×Int×List Int)×Int)×Int) Y43:=(.ret ((0,0,0,(0,0,(0,0,0,0,0),0,([]:List Int)),0),2))
def t43(A:aS)(F:Int)(I:Int)(D:Int)(E:Int)(p:Int)(B:Int)(H:Int)(v:Int)(u:Int)(l:Int)(j:Int)(i:Int)(h:Int)(C:List<|Int×Int×(Int×List Int)):LT ((Int×Int×Int×(Int×Int×(Int×Int×Int×Int×Int)×Int×List Int)×Int)×Int) Y43:=.br (A.cm (A.k qQ (B,H,v,u,l,j,i)) 0) (.ret ((0,0,0,(0,0,(0,0,0,0,0),0,([]:List Int)),0),170))<|.br (A.cm (A.k vy ((F,I,D,E,p),H)) 0) (.ret ((0,0,0,(0,0,(0,0,0,0,0),0,([]:List Int)),0),170))<|.br (A.bq h 0) (agi)<|.br (A.qE h H) (agi)<|.br (A.bG h B) (agi)<|.br (A.cm (A.l C) 2) (agi)<|.br (A.cm (A.k qQ (B,H,v,u,l,j,i)) 0) (.ak<|.c0 ⟨C,A.l C,0,0,0,0,0,0,0,0,0,0,0,0,0⟩ 0)<|.br (A.not<|A.k Js ((B,H,v,u,l,j,i),h)) (.ak<|.c0 ⟨C,A.l C,0,0,0,0,0,0,0,0,0,0,0,0,0⟩ 0)<|.ao (A.k KH ((B,H,v,u,l,j,i),h))<|.ao (A.and (A.bQ 0 0)<|A.and (A.bQ 0 (A.k oy ((B,H,v,u,l,j,i),h)).2)<|A.bQ (A.k oy ((B,H,v,u,l,j,i),h)).2 2)<|.ak<|.c1 ⟨A.b .add .i64 0 0,A.b .sub .i64 (A.k oy ((B,H,v,u,l,j,i),h)).2 0,A.b .sub .i64 (A.k oy ((B,H,v,u,l,j,i),h)).2 0,0,F,I,D,E,p,B,H,v,u,l,j,i,h,C,A.cm (A.k vy ((F,I,D,E,p),H)) 0,B,H,v,u,l,j,i,A.k qQ (B,H,v,u,l,j,i),A.cm (A.k qQ (B,H,v,u,l,j,i)) 0,false,F,I,D,E,p,H,A.k vy ((F,I,D,E,p),H),A.cm (A.k vy ((F,I,D,E,p),H)) 0,A.cm (A.k vy ((F,I,D,E,p),H)) 0,A.cm (A.l C) 2,h,A.bq h 0,false,h,H,A.qE h H,A.qE h H,false,h,B,A.bG h B,A.bG h B,false,C,A.l C,A.cm (A.l C) 2,A.cm (A.l C) 2,B,H,v,u,l,j,i,h,(A.n yI (A.k oy ((B,H,v,u,l,j,i),h)).1 0:Int),(A.n yI (A.k oy ((B,H,v,u,l,j,i),h)).1 1:Int),C,0,0,0,0,0,0,0,0,0,0,0,0,0,B,H,v,u,l,j,i,B,H,v,u,l,j,i,h,F,I,D,E,p⟩
def V3(A:aS):Y43->LT ((Int×Int×Int×(Int×Int×(Int×Int×Int×Int×Int)×Int×List Int)×Int)×Int) Y43
 | .c0 p a2=>.br (A.bq a2 p.a1) (.ao (A.and (A.bQ 0 a2)<|A.bq a2<|A.l p.a0)<|.br (A.cm (A.n (.struct [yI,yI,.struct [yI,yB]]) p.a0 a2:Int×Int×(Int×List Int)).1 0) (.br (A.qE a2 0) (.ret ((2,0,0,(0,0,(0,0,0,0,0),0,([]:List Int)),0),0))<|.ret ((1,0,0,(0,0,(0,0,0,0,0),0,([]:List Int)),0),0))<|.ak<|.c0 p<|A.b .add .i64 a2 1)<|.ret ((1,0,0,(0,0,(0,0,0,0,0),0,([]:List Int)),0),0)
 | .c1 p=>.br (A.bq p.b3 p.b2) (.ao (A.and (A.bQ 0 p.b3)<|A.bq p.b3 p.b1)<|.ak<|.c2 ⟨p.b3,p.b66,A.l p.b66,p.b0,p.b1,p.b2,p.b3,p.b95,p.b96,p.b97,p.b98,(A.n yI [p.b64,p.b65] (A.b .add .i64 p.b0 p.b3):Int),p.b67,p.b68,p.b69,p.b70,p.b71,p.b72,p.b73,p.b74,p.b75,p.b76,p.b77,p.b78,p.b79,p.b4,p.b5,p.b6,p.b7,p.b8,p.b9,p.b10,p.b11,p.b12,p.b13,p.Nx,p.E0,p.Ny,p.za,p.I7,p.Co,p.V0,p.Dw,p.Sf,p.b23,p.b24,p.b25,p.b26,p.b27,p.b28,p.b29,p.b30,p.b31,p.b32,p.b33,p.b34,p.b35,p.b36,p.b37,p.b38,p.b39,p.b40,p.b41,p.b42,p.b43,p.b44,p.b45,p.b46,p.b47,p.b48,p.b49,p.b50,p.b51,p.b52,p.b53,p.b54,p.b55,p.b56,p.b57,p.b58,p.b59,p.b60,p.b61,p.b62,p.b63,p.b64,p.b65,p.b66,p.b80,p.b81,p.b82,p.b83,p.b84,p.b85,p.b86,p.b87,p.b88,p.b89,p.b90,p.b91,p.b92,p.b93,p.b94⟩ 0)<|.ak<|.c0 ⟨p.b66,A.l p.b66,p.b67,p.b68,p.b69,p.b70,p.b71,p.b72,p.b73,p.b74,p.b75,p.b76,p.b77,p.b78,p.b79⟩ 0
 | .c2 p c3=>.br (A.bq c3 p.c2) (.ao (A.and (A.bQ 0 c3)<|A.bq c3<|A.l p.c1)<|.br (A.cm (A.n (.struct [yI,yI,.struct [yI,yB]]) p.c1 c3:Int×Int×(Int×List Int)).1 2) (.ak<|.c2 p<|A.b .add .i64 c3 1)<|.br (A.k P_ ((A.n (.struct [yI,yI,.struct [yI,yB]]) p.c1 c3:Int×Int×(Int×List Int)).2.2,p.c8,p.c9,p.c10,p.c11,p.c12)).2 (.ret ((3,p.c0,c3,(A.k P_ ((A.n (.struct [yI,yI,.struct [yI,yB]]) p.c1 c3:Int×Int×(Int×List Int)).2.2,p.c8,p.c9,p.c10,p.c11,p.c12)).1,(A.n (.struct [yI,yI,.struct [yI,yB]]) p.c1 c3:Int×Int×(Int×List Int)).2.1),0))<|.ak<|.c2 p<|A.b .add .i64 c3 1)<|.ak<|.c1 ⟨p.c4,p.c5,p.c6,A.b .add .i64 p.c7 1,p.c26,p.c27,p.c28,p.c29,p.c30,p.c31,p.c32,p.c33,p.c34,p.c35,p.c36,p.c37,p.c38,p.c39,p.c40,p.c41,p.c42,p.c43,p.c44,p.c45,p.c46,p.c47,p.c48,p.c49,p.c50,p.c51,p.c52,p.c53,p.c54,p.c55,p.c56,p.c57,p.c58,p.c59,p.c60,p.c61,p.c62,p.c63,p.c64,p.c65,p.c66,p.c67,p.c68,p.c69,p.c70,p.c71,p.c72,p.c73,p.c74,p.c75,p.c76,p.c77,p.c78,p.c79,p.c80,p.c81,p.c82,p.c83,p.c84,p.c85,p.c86,p.c87,p.c88,p.c13,p.c14,p.Je,p.c16,p.PR,p.c18,p.c19,p.c20,p.c21,p.c22,p.c23,p.c24,p.c25,p.c89,p.c90,p.c91,p.c92,p.c93,p.c94,p.c95,p.c96,p.c97,p.c98,p.c99,p.aok,p.aol,p.aom,p.aon,p.c8,p.c9,p.c10,p.c11,p.c12⟩
def wH(c:Int×Int×Int×Int×Int)(w:Int):Nat->List (Int×Int×(Int×List Int))->Option (Int×Int×Int×(Int×Int×(Int×Int×Int×Int×Int)×Int×List Int)×Int)
 | _,[]=>none
 | k,s::l=>bif s.1==2&&(Kv (s.2.2,c)).2 then some (3,w,(k:Int),(Kv (s.2.2,c)).1,s.2.1) else wH c w (k+1) l
def uJ(t p m n:Int)(h:List<|Int×Int×(Int×List Int)):Nat->List Int->Option (Int×Int×Int×(Int×Int×(Int×Int×Int×Int×Int)×Int×List Int)×Int)
 | _,[]=>none
 | i,v::l=>match wH (t,p,m,n,v) i 0 h with
   | some o=>some o
   | none=>uJ t p m n h (i+1) l
def aij:Int×Int×Int×(Int×Int×(Int×Int×Int×Int×Int)×Int×List Int)×Int:=(0,0,0,I5,0)
def BV(h:List<|Int×Int×(Int×List Int)):Int×Int×Int×(Int×Int×(Int×Int×Int×Int×Int)×Int×List Int)×Int:=bif h.any λs=>s.1 != 0 then(2,0,0,I5,0) else(1,0,0,I5,0)
def KT(t p m n:Int)(h:List<|Int×Int×(Int×List Int))(i:Nat)(j:List Int):(Int×Int×Int×(Int×Int×(Int×Int×Int×Int×Int)×Int×List Int)×Int)×Int:=
 match uJ t p m n h i j with
 | some o=>(o,0)
 | none=>(BV h,0)
def vws(x:(Int×Int×Int×Int×Int×Int×Int)×Int):List Int:=(oy x).1.take (oy x).2.toNat
def qy:(Int×Int×Int×Int×Int)×(Int×Int×Int×Int×Int×Int×Int)×Int×List (Int×Int×(Int×List Int))->(Int×Int×Int×(Int×Int×(Int×Int×Int×Int×Int)×Int×List Int)×Int)×Int:=λ((t,p,m,n,s),v,h,i)=>
 bif qQ v != 0||rz ((t,p,m,n,s),v.2.1) != 0 then(aij,170)
 else bif decide (h<0)||decide (v.2.1<=h)||h==v.1||i.length != 2 then(aij,2)
 else KT t p m n i 0 (vws (v,h))
def YZ{x:(Int×Int×Int×Int×Int×Int×Int)×Int}:(oy x).1.length=2:=by
 exact LT.sD (p:=λy:List Int×Int=>y.1.length=2) rfl (by simp[t78,Ix,LT.all])
def OE{l:List<|Int×Int×(Int×List Int)}{i:Nat}(h:i<l.length):(af.n (.struct [(.int .i64),.int .i64,.struct [(.int .i64),.slice<|.int .u8]]) l (i:Int):Int×Int×(Int×List Int))=l[i]:=fF h _
theorem afP{l:List<|Int×Int×(Int×List Int)}(I:l.length<=140737488355328):∀(j i:Nat) (p:agR),p.a0=l->p.a1=(l.length:Int)->l.length-i=j->i<=l.length->(l.take i).any (λs=>s.1 != 0)=false->bi (V3 af) (.ak<|.c0 p i) (BV l,0):=by
 intro j
 induction j with
 | zero=>
   intro i p v A F E B;have:i=l.length:=by omega
   subst this;rw[jv] at B;rw[aI,V3];refine(al (by rw[A,bR];simp)).2 ?_;rw[BV,B];exact .ret _
 | succ j ih=>
   intro i p v A F E B;have u:i<l.length:=by omega
   rw[aI,V3];refine(ap (by rw[A,bR];simp_all)).2 (aA.2 ⟨by rw[v];exact dA u,?_⟩);have D:(af.n (.struct [(.int .i64),.int .i64,.struct [(.int .i64),.slice<|.int .u8]]) p.a0 (i:Int):Int×Int×(Int×List Int)).1=l[i].1:=congrArg (λz=>z.1)<|(congrArg (λz=>(af.n (.struct [(.int .i64),.int .i64,.struct [(.int .i64),.slice<|.int .u8]]) z (i:Int):Int×Int×(Int×List Int))) v).trans<|OE u;have H:=bK u;by_cases C:l[i].1=0
   .refine(al<|zv<|D.trans C).2 ?_;refine u7 (congrArg LT.ak<|congrArg (Y43.c0 p)<|jN<|by omega)<|ih (i+1) p v A (by omega) (by omega) ?_
    grind
   .refine(ap<|zw<|λh=>C<|D.symm.trans h).2 ((ap<|by rfl).2 ?_);have:l.any (λs=>s.1 != 0)=true:=List.any_eq_true.2 ⟨l[i],dQ u,by simp_all⟩;rw[BV,this];exact .ret _
def I1(p:R6)(j:List<|Int×Int×(Int×List Int))(u:List Int)(h i t l m n:Int):Prop:=p.b0=0/\p.b1=h/\p.b2=h/\p.b3=i/\p.b66=j/\ [p.b64,p.b65]=u/\p.b95=t/\p.b96=l/\p.b97=m/\p.b98=n
def I2(p:WG)(h:List<|Int×Int×(Int×List Int))(u:List Int)(j i t l m n v:Int):Prop:=p.c0=i/\p.c1=h/\p.c2=(h.length:Int)/\p.c4=0/\p.c5=j/\p.c6=j/\p.c7=i/\p.c88=h/\ [p.c86,p.c87]=u/\p.c8=t/\p.c9=l/\p.c10=m/\p.c11=n/\p.c12=v
variable{vs:List Int}
theorem afR{seen:List (Int×Int×(Int×List Int))}{cnt po m n:Int}{i:Nat}(hi:i<4)(hl:seen.length<=140737488355328){R:(Int×Int×Int×(Int×Int×(Int×Int×Int×Int×Int)×Int×List Int)×Int)×Int}(B:∀p':R6,I1 p' seen vs cnt ((i+1:Nat):Int) t po m n->bi (V3 af) (.ak (.c1 p')) R):
  ∀(j k:Nat) (p:WG),I2 p seen vs cnt (i:Int) t po m n v->seen.length-k=j->k<=seen.length->bi (V3 af) (.ak (.c2 p (k:Int))) (match wH (t,po,m,n,v) (i:Int) k (seen.drop k) with|some o=>(o,0)|none=>R):=by
 intro j
 induction j with
 | zero=>
   intro k p F hj hk;have:k=seen.length:=by omega
   subst this;obtain⟨P,I,J,Q,S,V,W,D,Z,K,N,l,u,C⟩:=F;rw[aI,V3];refine(al (by rw[J,bR];simp)).2 ?_;rw[cZ];exact B _ ⟨Q,S,V,by show af.b .add .i64 p.c7 1=_;rw[W,jN (by omega)],D,Z,K,N,l,u⟩
 | succ j ih=>
   intro k p F hj hk;have A:k<seen.length:=by omega
   have X:=ih (k+1) p F (by omega) (by omega);obtain⟨P,I,J,Q,S,V,W,D,Z,K,N,l,u,C⟩:=F;rw[aI,V3];have H:(af.n (.struct [(.int .i64),(.int .i64),(.struct [(.int .i64),(.slice (.int .u8))])]) p.c1 (k:Int):Int×Int×(Int×List Int))=seen[k]:=(congrArg (λz=>(af.n (.struct [(.int .i64),(.int .i64),(.struct [(.int .i64),(.slice (.int .u8))])]) z (k:Int):Int×Int×(Int×List Int))) I).trans (OE A);have hd:seen.drop k=seen[k]::seen.drop (k+1):=AX A;have O:af.k P_ ((af.n (.struct [(.int .i64),(.int .i64),(.struct [(.int .i64),(.slice (.int .u8))])]) p.c1 (k:Int):Int×Int×(Int×List Int)).2.2,p.c8,p.c9,p.c10,p.c11,p.c12)=Kv (seen[k].2.2,(t,po,m,n,v)):=by
    refine(congrArg (λz:Int×Int×(Int×List Int)=>P_ (z.2.2,p.c8,p.c9,p.c10,p.c11,p.c12)) H).trans ?_;rw[K,N,l,u,C];exact aeG
   refine(ap (by rw[J,bR];simp_all)).2 (aA.2 ⟨by rw[I];exact dA A,?_⟩);rw[hd,wH];by_cases E:seen[k].1=2
   .refine(al (zv ((congrArg (λz=>z.1) H).trans E))).2 (?_);rw[show(seen[k].1==2)=true from by simp_all,dC];cases hgd:(Kv (seen[k].2.2,(t,po,m,n,v))).2
    .refine(al ((congrArg (λz=>z.2) O).trans hgd)).2 ?_;exact u7 (congrArg LT.ak (congrArg (Y43.c2 p) (jN (by omega)))) X
    .refine(ap ((congrArg (λz=>z.2) O).trans hgd)).2 ?_;have e:=congr (congr (congrArg (λ(x:Int) (y:Int×Int×(Int×Int×Int×Int×Int)×Int×List Int) (z:Int)=>(LT.ret (((3:Int),x,(k:Int),y,z),(0:Int)):LT ((Int×Int×Int×(Int×Int×(Int×Int×Int×Int×Int)×Int×List Int)×Int)×Int) Y43)) P) (congrArg (λz=>z.1) O)) (congrArg (λz=>z.2.1) H);exact u7 e (.ret _)
   .refine(ap (zw (λh=>E ((congrArg (λz=>z.1) H).symm.trans h)))).2 ?_;rw[show(seen[k].1==2)=false from by simp_all,fG];exact u7 (congrArg LT.ak (congrArg (Y43.c2 p) (jN (by omega)))) X
theorem afQ{u:List (Int×Int×(Int×List Int))}{h:Nat}{I m n:Int}(V:u.length<=140737488355328)(a0:vs.length=2)(hc:h<=2):∀(j i:Nat) (p:R6),I1 p u vs (h:Int) (i:Int) t I m n->h-i=j->i<=h->bi (V3 af) (.ak (.c1 p)) (KT t I m n u i ((vs.take h).drop i)):=by
 intro j
 induction j with
 | zero=>
   intro i p N X W;have:i=h:=by omega
   subst this;obtain⟨J,K,H,B,A,S,C,D,E,F⟩:=N;rw[aI,V3];refine(al (by rw[H,B,bR];simp)).2 ?_;rw[gq (by simp_all)];exact afP V u.length 0 _ A (by show af.l p.b66=_;rw[A];rfl) rfl (by omega) rfl
 | succ j ih=>
   intro i p N X W;obtain⟨J,K,H,B,A,S,C,D,E,F⟩:=N;have O:i<(vs.take h).length:=by grind
   rw[aI,V3];refine(ap (by rw[H,B,bR];simp_all)).2 (aA.2 ⟨by rw[K,B,ahn,bR,bF];simp_all,?_⟩);have P:(af.n (.int .i64) [p.b64,p.b65] (af.b .add .i64 p.b0 p.b3):Int)=(vs.take h)[i]:=by
    have e:af.b .add .i64 p.b0 p.b3=(i:Int):=by rw[J,B,gB,my (by omega) (by omega)];omega
    refine((congrArg (λz=>(af.n (.int .i64) [p.b64,p.b65] z:Int)) e).trans ((congrArg (λz=>(af.n (.int .i64) z (i:Int):Int)) S).trans (fF (l:=vs) (by omega) _))).trans ?_
    grind
   have Z:=afR (seen:=u) (vs:=vs) (cnt:=(h:Int)) (t:=t) (po:=I) (m:=m) (n:=n) (v:=(vs.take h)[i]) (i:=i) (by omega) V (R:=KT t I m n u (i+1) ((vs.take h).drop (i+1))) (λp' Q=>ih (i+1) p' Q (by omega) (by omega)) u.length 0;refine aT ?_ (Z _ ⟨B,A,?_,J,K,H,B,A,S,C,D,E,F,P⟩ rfl (by omega))
   rotate_left
   .show af.l p.b66=_;rw[A];rfl
   rw[KT,KT,AX O,uJ,ik]
   grind
def Zd{l m n s a b c e i:Int}{j:List<|Int×Int×(Int×List Int)}(h:Ty.kS [(.struct [(.int .i64),.int .i64,.int .i64,.int .i64,.int .i64]),.struct [(.int .i64),.int .i64,.int .i64,.int .i64,.int .i64,.int .i64,.int .i64],.int .i64,.slice<|.struct [(.int .i64),.int .i64,.struct [(.int .i64),.slice<|.int .u8]]] ((t,l,m,n,s),(a,b,c,d,e,f,g),i,j)):j.length<=140737488355328:=h.d
theorem aq3{B m n s a b c e i:Int}{j:List<|Int×Int×(Int×List Int)}(h:Ty.kS [(.struct [(.int .i64),.int .i64,.int .i64,.int .i64,.int .i64]),.struct [(.int .i64),.int .i64,.int .i64,.int .i64,.int .i64,.int .i64,.int .i64],.int .i64,.slice<|.struct [(.int .i64),.int .i64,.struct [(.int .i64),.slice<|.int .u8]]] ((t,B,m,n,s),(a,b,c,d,e,f,g),i,j)):
  bi (V3 af) (t43 af t B m n s a b c d e f g i j) (qy ((t,B,m,n,s),(a,b,c,d,e,f,g),i,j)):=by
 have I:=Zd h;rw[qy];by_cases p:(qQ (a,b,c,d,e,f,g) != 0)=true
 .rw[p];exact(ap p).2 (.ret _)
 rw[Bool.not_eq_true] at p;rw[p];refine(al p).2 (?_);rw[Bool.false_or];by_cases v:(rz ((t,B,m,n,s),b) != 0)=true
 .rw[v];exact(ap v).2 (.ret _)
 rw[Bool.not_eq_true] at v;rw[v];refine(al v).2 ?_;have K:qQ (a,b,c,d,e,f,g)=0:=by simp_all
 have D:=iw.1 K;unfold oC at D;by_cases N:i<0
 .refine(ap (by rw[bl];simp_all)).2 ?_;rw[show decide (i<0)=true from by simp_all];exact .ret _
 refine(al (by rw[bl];simp_all)).2 ?_;by_cases H:b<=i
 .refine(ap (by rw[kQ];simp_all)).2 ?_;rw[show decide (b<=i)=true from by simp_all,mF];exact .ret _
 refine(al (by rw[kQ];simp_all)).2 ?_;by_cases E:i=a
 .refine(ap<|aop E).2 ?_;rw[show(i==a)=true from by simp_all,mF];exact .ret _
 refine(al<|aoo E).2 ?_;by_cases O:¬j.length=2
 .refine(ap<|zw<|show(j.length:Int)≠2 by omega).2 ?_;rw[show(j.length != 2)=true from by simp_all,mF];exact .ret _
 refine(al<|zv<|show(j.length:Int)=2 by omega).2 ((al p).2<|?_);rw[show decide (i<0)=false from by simp_all,show decide (b<=i)=false from by simpa using H,show(i==a)=false from by simp_all,show(j.length != 2)=false from by simp_all];have C:Js ((a,b,c,d,e,f,g),i)=true:=(xO (by omega)<|by omega).2 ⟨by omega,by omega,by omega⟩;have J:=Og (x:=((a,b,c,d,e,f,g),i));have A:=YZ (x:=((a,b,c,d,e,f,g),i));refine(al (show af.not (af.k Js ((a,b,c,d,e,f,g),i))=false by rw[ji,bZ,C];rfl)).2 (aA.2 ⟨by rw[bZ];simp[KH];omega,aA.2 ⟨?_,?_⟩⟩)
 .rw[bZ,bF,bF,ax,ax,ax];simp_all
 .have⟨u,l⟩:=a_ J.1;rw[vws,l,y7];have F:af.b .sub .i64 (af.k oy ((a,b,c,d,e,f,g),i)).2 0=(u:Int):=by
   rw[bZ,l,ia,my (by omega)<|by omega];omega
  refine afQ (vs:=(oy ((a,b,c,d,e,f,g),i)).1) I A (by omega) u 0 _ ⟨rfl,F,F,rfl,rfl,?_,rfl,rfl,rfl,rfl⟩ (by omega) (by omega)
  match (oy ((a,b,c,d,e,f,g),i)).1,A with
  | [_,_],_=>rfl
def uV:((Int×Int×Int×Int×Int)×(Int×Int×Int×Int×Int×Int×Int)×Int×List (Int×Int×(Int×List Int)))->((Int×Int×Int×(Int×Int×(Int×Int×Int×Int×Int)×Int×List Int)×Int)×Int):=qy
def axj:aL:=.all [(.struct [yI,yI,yI,yI,yI]),.struct [yI,yI,yI,yI,yI,yI,yI],yI,.slice<|.struct [yI,yI,.struct [yI,yB]]] [(.struct [yI,yI,yI,.struct [yI,yI,.struct [yI,yI,yI,yI,yI],yI,yB],yI]),yI] uV
def aw6:Sd 215 axj:=fa<|bE ar dK sl 122 [⟨215,10,[[4,8,9,10,56,57,58],[0,24,25,26],[7,8,9]]⟩,⟨301,3,[[0,24,25,26],[7,8,9]]⟩,⟨304,2,[[0,1,7,8],[],[8,9]]⟩] [] (λA ((C,E,v,B,i),(J,K,I,H,D,u,l),j,F)=>t43 A C E v B i J K I H D u l j F) V3 aoq (kz (fc func215 (fc func264 (fc func266 (fc func267 (fc func301 (fc func304 fz)))))) (sc Rs (sc aw7 (sc amt (sc asm (sc JJ sz)))))) (λA y=>match y with |.c0 p a2=>⟨62,sl,by kernel_rfl⟩|.c1 p=>⟨52,sl,by kernel_rfl⟩|.c2 p c3=>⟨68,sl,by kernel_rfl⟩) λ((C,E,v,B,i),(J,K,I,H,D,u,l),j,F) N h=>aq3 h
def t61(A:aS)(D:Int)(Q:Int)(v:Int)(u:Int)(p:Int)(j:Int)(i:Int)(h:Int)(l:Int)(B:Int)(O:Int)(N:Int)(P:Int)(H:Int)(I:Int)(E:Int)(F:Int)(C:Int)(K:Int)(J:List Int)(S:Int):LT ((Int×Int×Int×Int×Int×Int×Int)×Int) Empty:=.br (A.bG l 1) (.ret<|A.k uU ((D,Q,v,u,p,j,i),h))<|.br (A.bG l 2) (.ret<|A.k YE ((D,Q,v,u,p,j,i),h))<|.br (A.bG l 3) (.ret<|A.k vu ((D,Q,v,u,p,j,i),h,B))<|.ret ((0,0,0,0,0,0,0),2)
def oY:((Int×Int×Int×Int×Int×Int×Int)×Int×(Int×Int×Int×(Int×Int×(Int×Int×Int×Int×Int)×Int×List Int)×Int))->((Int×Int×Int×Int×Int×Int×Int)×Int):=λ((P,Q,N,K,J,E,D),C,I,B,F,(A,H,(l,p,i,j,h),v,u),O)=>(t61 af P Q N K J E D C I B F A H l p i j h v u O).val<|Ty.aO [(.struct [yI,yI,yI,yI,yI,yI,yI]),yI]
def axr:aL:=.all [(.struct [yI,yI,yI,yI,yI,yI,yI]),yI,.struct [yI,yI,yI,.struct [yI,yI,.struct [yI,yI,yI,yI,yI],yI,yB],yI]] [(.struct [yI,yI,yI,yI,yI,yI,yI]),yI] oY
def aw_:Sd 216 axr:=fa<|aN ar dK sl 50 [] (λA ((Q,S,O,N,K,F,E),D,J,C,H,(B,I,(l,p,i,j,h),v,u),P)=>t61 A Q S O N K F E D J C H B I l p i j h v u P)<|kz (fc func216 fz)<|sc aw3<|sc arw<|sc aw5 sz
abbrev lf:Ty:=(.struct [yI,yI,yI,yI,yI])
abbrev gE:Type:=Int×Int×Int×Int×Int
abbrev re:Ty:=(.struct [yI,yI,yI,yI,yI,yI,yI])
abbrev uO:Type:=Int×Int×Int×Int×Int×Int×Int
abbrev Pq:Ty:=(.struct [yI,yB])
abbrev Bits:Type:=Int×List Int
abbrev JU:Ty:=(.struct [yI,yI,lf,yI,yB])
abbrev vP:Type:=Int×Int×gE×Int×List Int
abbrev pV:Ty:=(.struct [yI,yI,Pq])
abbrev Seen:Type:=Int×Int×Bits
abbrev I4:Ty:=(.struct [yI,yI,yI,JU,yI])
abbrev pW:Type:=Int×Int×Int×vP×Int
abbrev jV:Ty:=(.struct [yI,yI])
abbrev Span:Type:=Int×Int
abbrev aY:Ty:=(.struct [yI,jV,yI,Pq])
abbrev dx:Type:=Int×Span×Int×Bits
abbrev eQ:Ty:=(.struct [Ce,.slice .bool,.slice .bool])
abbrev Mode:Type:=List Int×List Bool×List Bool
abbrev aW:Ty:=(.struct [yI,yI,yI,yI,yI,yI,.slice .bool,.slice eQ])
abbrev au:Type:=Int×Int×Int×Int×Int×Int×List Bool×List Mode
abbrev d_:Ty:=(.struct [.bool,yI,yI])
abbrev rN:Type:=Bool×Int×Int
abbrev yA:Ty:=(.struct [yI,yI,Ce])
abbrev rh:Type:=Int×Int×List Int
abbrev lg:Ty:=(.struct [yB,yI])
abbrev gY:Type:=List Int×Int
abbrev tL:Ty:=(.struct [yI,yB,.slice lg,yI,yI])
abbrev jo:Type:=Int×List Int×List gY×Int×Int
abbrev fE:Ty:=(.struct [yI,yI,lf,re,yI,.bool,yI,tL])
abbrev Node:Type:=Int×Int×gE×uO×Int×Bool×Int×jo
abbrev fv:Ty:=(.struct [yI,yI,yI,yI,yI,yB])
abbrev dP:Type:=Int×Int×Int×Int×Int×List Int
def amR(A:aS)(n:Int)(h:Int)(i:Int):LT Bool Empty:=.br (A.qE n h) (.ret<|A.bQ n i)<|.ret false
def lK:(Int×Int×Int)->Bool:=λ(n,h,i)=>(amR af n h i).val<|Ty.aO [.bool]
def asO:aL:=.all [yI,yI,yI] [.bool] lK
def O6:Sd 120 asO:=fa<|aN ar dK sl 22 [] (λA (n,h,i)=>amR A n h i)<|kz (fc func120 fz) sz
theorem vK{x a b:Int}:lK (x,a,b)=(decide (a<=x)&&decide (x<=b)):=by
 simp only[lK,amR,LT.val,kQ,ax]
 simp_all
def aoz{x y:α}:(bif true then x else y)=x:=rfl
def BG{l:List Bool}{i:Nat}(h:i<l.length):(af.n .bool l (i:Int):Bool)=l[i]:=fF h _
def Z9{l:List Int}{i:Nat}(h:i<l.length):(af.n (.int .i64) l (i:Int):Int)=l[i]:=fF h _
def eG{l:List α}:af.l l=(l.length:Int):=rfl
variable{i:List Mode}{j:List Bool}
def tj{n s w u:Int}(h:Ty.has aW (n,s,g,w,d,u,j,i)):(-9223372036854775808<=n/\n<=9223372036854775807)/\j.length<=140737488355328/\i.length<=140737488355328/\∀x∈i,x.1.length<=140737488355328/\x.2.1.length<=140737488355328/\∀d∈x.1,IntKind.i64.has d:=by
 have⟨v,_,_,_,_,_,A,l⟩:=h;exact⟨v,A.1,l.1,λx p=>⟨(l.2 x p).1.1,(l.2 x p).2.1.1,(l.2 x p).1.2⟩⟩
structure aip where(a1:List Bool)(a2 a4 a5 a6 a7 a8 a9:Int)(mA:List Bool)(pH:List Mode)
inductive Xs where|c0(p:aip)(a0 a3:Int)
noncomputable def ajz:Xs->iF
 | .c0 p a0 a3=>⟨[iN 116 38 [(1,pZ 0),(3,vi a0),(7,.sl .bool p.a1),(8,vi p.a2),(9,vi a3)] f116 116],[gZ [vi p.a4,vi p.a5,vi p.a6,vi p.a7,vi p.a8,vi p.a9,.sl .bool p.mA,.sl eQ p.pH],.aU]⟩
def t154(A:aS)(u:Int)(v:Int)(B:Int)(i:Int)(l:Int)(j:Int)(h:List Bool)(p:List Mode):LT Bool Xs:=.ak<|.c0 ⟨h,A.l h,u,v,B,i,l,j,h,p⟩ 0 0
def aaJ(A:aS):Xs->LT Bool Xs
 | .c0 p a0 a3=>.br (A.bq a3 p.a2) (.ao (A.and (A.bQ 0 a3)<|A.bq a3<|A.l p.a1)<|.br (A.n .bool p.a1 a3:Bool) (.ak<|.c0 p (A.b .add .i64 a0 1)<|A.b .add .i64 a3 1)<|.ak<|.c0 p a0<|A.b .add .i64 a3 1)<|.br (A.k lK (p.a4,4,8)) (.br (A.k lK (A.l p.pH,1,4)) (.br (A.bG (A.l p.mA) p.a4) (.ret<|A.qE a0 2)<|.ret false)<|.ret false)<|.ret false
def countB(m:au):Bool:=lK (m.1,4,8)&&lK ((m.2.2.2.2.2.2.2.length:Int),1,4)&&((m.2.2.2.2.2.2.1.length:Int)==m.1)&&decide (2<=(m.2.2.2.2.2.2.1.count true:Int))
theorem aky{n s w u:Int}{h:List Bool}{l:List Mode}(C:h.length<=140737488355328):∀(j i c:Nat),h.length-i=j->i<=h.length->c<=i->
  bi (aaJ af) (.ak<|.c0 ⟨h,(h.length:Int),n,s,g,w,d,u,h,l⟩ (c:Int) (i:Int)) (lK (n,4,8)&&lK ((l.length:Int),1,4)&&((h.length:Int)==n)&&decide (2<=((c+(h.drop i).count true:Nat):Int))):=by
 intro j
 induction j with
 | zero=>
   intro i c B A v;have:i=h.length:=by omega
   subst this;rw[aI,aaJ];refine(al (by rw[bR];simp)).2 ?_;rw[cZ];simp[aA,bZ,acN,true_and];cases lK (n,4,8)
   .exact(al rfl).2 (.ret _)
   refine(ap rfl).2 ?_;simp[aA,true_and,eG];cases lK ((l.length:Int),1,4)
   .exact(al rfl).2 (.ret _)
   refine(ap rfl).2 ?_;rw[bf];cases ((h.length:Int)==n)
   .exact(al rfl).2 (.ret _)
   refine(ap rfl).2 ?_;exact .ret _
 | succ j ih=>
   intro i c B A v;have p:i<h.length:=by omega
   rw[aI,aaJ];refine(ap (by rw[bR];simp_all)).2 (aA.2 ⟨dA p,?_⟩);rw[AX p,List.count_cons];cases hb:h[i]
   .refine(al<|(BG p).trans hb).2 ?_;refine u7 (congrArg (λz=>LT.ak<|Xs.c0 _ _ z)<|jN<|by omega)<|aT ?_<|ih (i+1) c (by omega) (by omega) (by omega);simp
   .refine(ap<|(BG p).trans hb).2 ?_;rw[jN (i:=c)<|by omega,jN (i:=i)<|by omega];refine aT ?_<|ih (i+1) (c+1) (by omega) (by omega) (by omega)
    grind
def akz{n s w l:Int}(h:Ty.has aW (n,s,g,w,d,l,j,i)):bi (aaJ af) (t154 af n s g w d l j i)<|countB (n,s,g,w,d,l,j,i):=
 aT (by simp[countB]) (aky (tj h).2.1 j.length 0 0 rfl (by omega)<|by omega)
def Yy:au->Bool:=countB
def asM:aL:=.all [aW] [.bool] Yy
def ard:Sd 116 asM:=fa<|bE ar dK sl 25 [⟨116,3,[[1,3,7,8,9]]⟩] [] (λA (v,C,D,i,l,j,B,u)=>t154 A v C D i l j B u) aaJ ajz (kz (fc func116 fz) (sc O6 sz)) (λA y=>match y with |.c0 p E F=>⟨38,sl,by kernel_rfl⟩) λ(v,C,D,i,l,j,B,u) H h=>akz h
structure aiq where(a0:List Int)(a1 a3 a4 a5 a6 a7 a8:Int)(a9:List Bool)(mA:List Mode)(pH:List Int)(a12 FD:List Bool)
inductive Uq where|c0(p:aiq)(a2:Int)
noncomputable def ajA:Uq->iF
 | .c0 p a2=>⟨[iN 119 57 [(2,pZ 0),(3,pZ 1),(31,.sl yI p.a0),(32,vi p.a1),(33,vi a2)] f119 116],[gZ [vi p.a3,vi p.a4,vi p.a5,vi p.a6,vi p.a7,vi p.a8,.sl .bool p.a9,.sl eQ p.mA],gZ [.sl yI p.pH,.sl .bool p.a12,.sl .bool p.FD],.aU]⟩
def t157(A:aS)(i:Int)(D:Int)(E:Int)(p:Int)(B:Int)(v:Int)(C:List Bool)(l:List Mode)(j:List Int)(h:List Bool)(u:List Bool):LT Bool Uq:=.br (A.cm (A.l j) i) (.ret false)<|.br (A.cm (A.l h) i) (.ret false)<|.br (A.cm (A.l u)<|A.l l) (.ret false)<|.ak<|.c0 ⟨j,A.l j,i,D,E,p,B,v,C,l,j,h,u⟩ 0
def Vl(A:aS):Uq->LT Bool Uq
 | .c0 p a2=>.br (A.bq a2 p.a1) (.ao (A.and (A.bQ 0 a2)<|A.bq a2<|A.l p.a0)<|.br (A.not<|A.k lK ((A.n yI p.a0 a2:Int),0,8)) (.ret false)<|.ao (A.and (A.bQ 0 a2)<|A.bq a2<|A.l p.a9)<|.br (A.n .bool p.a9 a2:Bool) (.ao (A.and (A.bQ 0 a2)<|A.bq a2<|A.l p.a12)<|.br (A.not (A.n .bool p.a12 a2:Bool)) (.ret false)<|.ak<|.c0 p<|A.b .add .i64 a2 1)<|.ak<|.c0 p<|A.b .add .i64 a2 1)<|.ret true
def yQ:List Int->List Bool->List Bool->Bool
 | d::ds,c::cs,e::es=>(decide (0<=d)&&decide (d<=8))&&(!c||e)&&yQ ds cs es
 | _,_,_=>true
def pM(m:au)(x:Mode):Bool:=((x.1.length:Int)==m.1)&&((x.2.1.length:Int)==m.1)&&(x.2.2.length==m.2.2.2.2.2.2.2.length)&&yQ x.1 m.2.2.2.2.2.2.1 x.2.1
variable{h:List Int}
theorem apR{n s w C:Int}{l p next:List Bool}{v:List Mode}(I:h.length<=140737488355328)(F:l.length=h.length)(H:p.length=h.length):∀(j i:Nat),h.length-i=j->i<=h.length->
  bi (Vl af) (.ak<|.c0 ⟨h,(h.length:Int),n,s,g,w,d,C,l,v,h,p,next⟩ i) (yQ (h.drop i) (l.drop i)<|p.drop i):=by
 intro j
 induction j with
 | zero=>
   intro i E D;have:i=h.length:=by omega
   subst this;rw[aI,Vl];refine(al (by rw[bR];simp)).2 ?_;rw[cZ];exact .ret _
 | succ j ih=>
   intro i E D;have u:i<h.length:=by omega
   rw[aI,Vl];refine(ap (by rw[bR];simp_all)).2 (aA.2 ⟨dA u,?_⟩);rw[AX u,AX<|show i<l.length by omega,AX<|show i<p.length by omega,yQ];have A:=ih (i+1) (by omega) (by omega);have B:af.k lK ((af.n (.int .i64) h (i:Int):Int),0,8)=(decide (0<=h[i])&&decide (h[i]<=8)):=by
    rw[bZ,Z9 u,vK]
   cases hw':(decide (0<=h[i])&&decide (h[i]<=8))
   .exact(ap (by rw[B,hw'];rfl)).2 (.ret _)
   refine(al (by rw[B,hw'];rfl)).2 (aA.2 ⟨dA<|show i<l.length by omega,?_⟩);cases hcb:l[i]
   .refine(al<|(BG<|show i<l.length by omega).trans hcb).2 ?_;exact u7 (congrArg (λz=>LT.ak<|Uq.c0 _ z)<|jN<|by omega) A
   .refine(ap<|(BG<|show i<l.length by omega).trans hcb).2 (aA.2 ⟨dA<|show i<p.length by omega,?_⟩);cases heb:p[i]
    .exact(ap (by rw[BG<|show i<p.length by omega,heb];rfl)).2 (.ret _)
    .refine(al (by rw[BG<|show i<p.length by omega,heb];rfl)).2 ?_;exact u7 (congrArg (λz=>LT.ak<|Uq.c0 _ z)<|jN<|by omega) A
theorem apS{n s w p:Int}{l next:List Bool}(B:h.length<=140737488355328)(C:(j.length:Int)=n):
  bi (Vl af) (t157 af n s g w d p j i h l next) (pM (n,s,g,w,d,p,j,i) (h,l,next)):=by
 unfold t157 pM;by_cases u:(h.length:Int)=n
 .refine(al<|zv u).2 ?_;by_cases v:(l.length:Int)=n
  .refine(al<|zv v).2 ?_;by_cases A:(next.length:Int)=i.length
   .refine(al<|zv A).2 (aT ?_<|apR B (by omega) (by omega) h.length 0 rfl<|by omega)
    grind
   .refine(ap<|zw A).2 (aT ?_<|.ret _)
    grind
  .refine(ap<|zw v).2 (aT ?_<|.ret _)
   simp_all
 .refine(ap<|zw u).2 (aT ?_<|.ret _)
  simp_all
def Sv:(au×Mode)->Bool:=λ(m,x)=>pM m x
def QH:(au×Mode)->Bool:=λ(m,_)=>(m.2.2.2.2.2.2.1.length:Int)==m.1
def asN:aL:=⟨[aW,eQ],[.bool],QH,Sv,false⟩
def are:Sd 119 asN:=bE ar dK sl 51 [⟨119,4,[[2,3,31,32,33]]⟩] [] (λA ((B,D,H,j,u,l,C,v),E,i,F)=>t157 A B D H j u l C v E i F) Vl ajA (kz (fc func119 fz) (sc O6 sz)) (λA y=>match y with |.c0 p a2=>⟨51,sl,by kernel_rfl⟩) λ(((B,D,H,j,u,l,C,v),E,i,F):au×Mode) I h=>by
 show bi (Vl af) (t157 af B D H j u l C v E i F)<|Sv ((B,D,H,j,u,l,C,v),E,i,F);exact apS h.2.1.1 (by simpa [QH] using I)
def t183(A:aS)(h:Bool)(i:Int):LT Int Empty:=.br (A.not h) (.ret 2)<|.br (A.jr i 0) (.ret 4)<|.ret 3
def rC:(Bool×Int)->Int:=λ(h,i)=>(t183 af h i).val<|Ty.aO [yI]
def as2:aL:=.all [.bool,yI] [yI] rC
def ahM:Sd 85 as2:=fa<|aN ar dK sl 32 [] (λA (h,i)=>t183 A h i)<|kz (fc func85 fz) sz
def t173(A:aS)(n:Int):LT Int Empty:=.br (A.bq n 0) (.ret 0)<|.br (A.jr n 4095) (.ret 0)<|.ret<|A.b .add .i64 14<|A.b .quo .i64 (A.b .add .i64 n 1) 2
def nP:Int->Int:=λn=>(t173 af n).val<|Ty.aO [yI]
def asW:aL:=.all [yI] [yI] nP
def O7:Sd 83 asW:=fa<|aN ar dK sl 30 [] (λA n=>t173 A n)<|kz (fc func83 fz) sz
structure ait where(a0:Int)(a1:List Mode)(a2 a3 a4 a5 a6 a7 a8 a9:Int)(mA:List Bool)(pH:List Mode)
structure aiu where(b1:List Mode)(b2 b3:Int)(b4:List Int)(b5 b7 b8 b9 b10 b11 b12:Int)(b13:List Bool)(Nx:List Mode)(E0:List Int)(Ny za:List Bool)
inductive adz where|c0(p:ait)|c1(p:aiu)(b0 b6:Int)
noncomputable def ajD:adz->iF
 | .c0 p=>⟨[iN 50 55 [(1,pZ 0),(3,vi p.a0),(12,.sl eQ p.a1),(13,vi p.a2),(14,vi p.a3)] f50 116],[gZ [vi p.a4,vi p.a5,vi p.a6,vi p.a7,vi p.a8,vi p.a9,.sl .bool p.mA,.sl eQ p.pH],.aU]⟩
 | .c1 p b0 h=>⟨[iN 50 55 [(1,pZ 0),(3,vi b0),(5,pZ 1),(12,.sl eQ p.b1),(13,vi p.b2),(14,vi p.b3),(19,.sl yI p.b4),(20,vi p.b5),(21,vi h)] f50 29900],[gZ [vi p.b7,vi p.b8,vi p.b9,vi p.b10,vi p.b11,vi p.b12,.sl .bool p.b13,.sl eQ p.Nx],gZ [.sl yI p.E0,.sl .bool p.Ny,.sl .bool p.za],.aU]⟩
def auV(A:aS)(p:Int)(v:Int)(B:Int)(i:Int)(l:Int)(j:Int)(u:List Bool)(h:List Mode):LT Int adz:=.ak<|.c0 ⟨A.k nP<|A.k xh (1,0),h,A.l h,0,p,v,B,i,l,j,u,h⟩
def ME(A:aS):adz->LT Int adz
 | .c0 p=>.br (A.bq p.a3 p.a2) (.ao (A.and (A.bQ 0 p.a3)<|A.bq p.a3<|A.l p.a1)<|.ak<|.c1 ⟨p.a1,p.a2,p.a3,(A.n eQ p.a1 p.a3:Mode).1,A.l (A.n eQ p.a1 p.a3:Mode).1,p.a4,p.a5,p.a6,p.a7,p.a8,p.a9,p.mA,p.pH,(A.n eQ p.a1 p.a3:Mode).1,(A.n eQ p.a1 p.a3:Mode).2.1,(A.n eQ p.a1 p.a3:Mode).2.2⟩ p.a0 0)<|.ret p.a0
 | .c1 p b0 h=>.br (A.bq h p.b5) (.ao (A.and (A.bQ 0 h)<|A.bq h<|A.l p.b4)<|.br (A.bq h p.b7) (.br (A.bq h<|A.l p.Ny) (.ao (A.and (A.bQ 0 h)<|A.bq h<|A.l p.Ny)<|.br (A.jr (A.k xh (A.k rC ((A.n .bool p.Ny h:Bool),(A.n yI p.b4 h:Int)),(A.n yI p.b4 h:Int))) 0) (.ak<|.c1 p (A.mx b0<|A.k nP<|A.k xh (A.k rC ((A.n .bool p.Ny h:Bool),(A.n yI p.b4 h:Int)),(A.n yI p.b4 h:Int)))<|A.b .add .i64 h 1)<|.ak<|.c1 p b0<|A.b .add .i64 h 1)<|.ak<|.c1 p b0<|A.b .add .i64 h 1)<|.ak<|.c1 p b0<|A.b .add .i64 h 1)<|.ak<|.c0 ⟨b0,p.b1,p.b2,A.b .add .i64 p.b3 1,p.b7,p.b8,p.b9,p.b10,p.b11,p.b12,p.b13,p.Nx⟩
def B_(b:Int)(x:Int×Bool):Int:=bif decide (0<xh (rC (x.2,x.1),x.1)) then af.mx b (nP<|xh (rC (x.2,x.1),x.1)) else b
def BA(n:Nat)(b:Int)(x:Mode):Int:=((x.1.zip x.2.1).take n).foldl B_ b
def ig(m:au):Int:=m.2.2.2.2.2.2.2.foldl (BA m.1.toNat)<|nP<|xh (1,0)
theorem adk{n:Int}{i:Nat}(p:i<h.length)(u:i<j.length)(v:(i:Int)<n):((h.zip j).take n.toNat).drop i=(h[i],j[i])::((h.zip j).take n.toNat).drop (i+1):=by
 have l:i<((h.zip j).take n.toNat).length:=by grind
 rw[AX l,List.getElem_take,List.getElem_zip]
theorem Du{j:List Int}{l:List Bool}{n:Int}{i:Nat}(h:l.length<=i\/n<=(i:Int)\/j.length<=i):((j.zip l).take n.toNat).drop i=[]:=by
 apply gq
 grind
def Tm{i:Nat}{n:Int}:af.bq i n=decide ((i:Int)<n):=rfl
def ac5{b:Int}{e:Bool}:B_ b (d,e)=bif af.jr (af.k xh (af.k rC (e,d),d)) 0 then af.mx b (af.k nP<|af.k xh (af.k rC (e,d),d)) else b:=rfl
variable{F:Int->Int}
theorem awC{n s w D:Int}{u l next:List Bool}{p H:List Mode}{L k E:Int}(O:h.length<=140737488355328)(N:af.b .add .i64 k 1=E)(C:∀b,bi (ME af) (.ak<|.c0 ⟨b,H,L,E,n,s,g,w,d,D,u,p⟩)<|F b):
  ∀(j i:Nat) (b:Int),h.length-i=j->i<=h.length->bi (ME af) (.ak<|.c1 ⟨H,L,k,h,(h.length:Int),n,s,g,w,d,D,u,p,h,l,next⟩ b i) (F<|(((h.zip l).take n.toNat).drop i).foldl B_ b):=by
 intro j
 induction j with
 | zero=>
   intro i b K J;have:i=h.length:=by omega
   subst this;rw[aI,ME];refine(al (by rw[bR];simp)).2 ?_;rw[Du<|.inr<|.inr<|ah _,N]
   simp_all
 | succ j ih=>
   intro i b K J;have v:i<h.length:=by omega
   rw[aI,ME];refine(ap (by rw[bR];simp_all)).2 (aA.2 ⟨dA v,?_⟩);have A:=λb=>ih (i+1) b (by omega) (by omega);by_cases I:(i:Int)<n
   .refine(ap (by rw[Tm];simp_all)).2 ?_;by_cases B:i<l.length
    .refine(ap (by rw[eG,bR];simp_all)).2 (aA.2 ⟨dA<|show i<l.length from B,?_⟩);rw[adk v B I,jS,ac5,<-Z9 v,<-BG B,jN (i:=i)<|by omega];cases hb:af.jr (af.k xh (af.k rC ((af.n .bool l (i:Int):Bool),(af.n (.int .i64) h (i:Int):Int)),(af.n (.int .i64) h (i:Int):Int))) 0
     .exact(al rfl).2 (A _)
     .exact(ap rfl).2 (A _)
    .refine(al (by rw[eG,bR];simp_all)).2 ?_;rw[jN (i:=i)<|by omega];have:=A b;rw[Du<|.inl<|by omega] at this ⊢;omega
   .refine(al (by rw[Tm];simp_all)).2 ?_;rw[jN (i:=i)<|by omega];have:=A b;rw[Du<|.inr<|.inl<|by omega] at this ⊢;omega
theorem awz{n s w u:Int}{p:List Bool}{l h:List Mode}(C:h.length<=140737488355328)(v:∀x∈h,x.1.length<=140737488355328):
  ∀(j k:Nat) (b:Int),h.length-k=j->k<=h.length->bi (ME af) (.ak<|.c0 ⟨b,h,(h.length:Int),(k:Int),n,s,g,w,d,u,p,l⟩) ((h.drop k).foldl (BA n.toNat) b):=by
 intro j
 induction j with
 | zero=>
   intro k b A B;have:k=h.length:=by omega
   subst this;rw[aI,ME];refine(al (by rw[bR];simp)).2 ?_;rw[cZ];exact .ret _
 | succ j ih=>
   intro k b A B;have i:k<h.length:=by omega
   rw[aI,ME];refine(ap (by rw[bR];simp_all)).2 (aA.2 ⟨dA i,?_⟩);rw[show(af.n eQ h (k:Int):Mode)=h[k] from fF i _,AX i,jS];exact awC (F:=λb=>(h.drop<|k+1).foldl (BA n.toNat) b) (v _<|dQ i) (jN<|by omega) (λb=>ih (k+1) b (by omega)<|by omega) h[k].1.length 0 b rfl (by omega)
def max2{n s w l:Int}(h:Ty.has aW (n,s,g,w,d,l,j,i)):bi (ME af) (auV af n s g w d l j i)<|ig (n,s,g,w,d,l,j,i):=
 (awz (tj h).c (λx p=>((tj h).C x p).1) i.length 0 _ rfl<|by omega)
def DK:au->Int:=ig
def asY:aL:=.all [aW] [yI] DK
def KU:Sd 50 asY:=fa<|bE ar dK sl 27 [⟨50,3,[[1,3,12,13,14]]⟩,⟨50,6,[[1,3,5,12,13,14,19,20,21]]⟩] [] (λA (v,C,D,i,l,j,B,u)=>auV A v C D i l j B u) ME ajD (kz (fc func50 fz) (sc aw8 (sc O7 (sc ahM sz)))) (λA y=>match y with |.c0 p=>⟨31,sl,by kernel_rfl⟩|.c1 p b0 E=>⟨69,sl,by kernel_rfl⟩) λ(v,C,D,i,l,j,B,u) F h=>max2 h
def t159(A:aS)(l:Int)(B:Int)(u:Int)(h:Int)(j:Int)(i:Int)(v:List Bool)(p:List Mode):LT (Int×Int×Int) Empty:=.ret (A.b .add .i64 (A.b .mul .i64 (A.b .mul .i64 16 l) j) 16,A.b .add .i64 (A.b .add .i64 (A.b .mul .i64 2 h)<|A.b .mul .i64 2 i) 4,A.b .add .i64 (A.b .mul .i64 2 u)<|A.k DK (l,B,u,h,j,i,v,p))
def DJ:au->(Int×Int×Int):=λ(p,v,A,h,j,i,u,l)=>(t159 af p v A h j i u l).val<|Ty.aO [yI,yI,yI]
def asP:aL:=.all [aW] [yI,yI,yI] DJ
def arf:Sd 121 asP:=fa<|aN ar dK sl 50 [] (λA (p,v,B,h,j,i,u,l)=>t159 A p v B h j i u l)<|kz (fc func121 fz)<|sc KU sz
theorem aX{R:Type}{step:Y->LT R Y}{t e:LT R Y}{r:R}[Decidable p]{b:Bool}(l:b=decide p)(j:p->bi step t r)(i:¬p->bi step e r):bi step (.br b t e) r:=by
 by_cases h:p
 .exact(ap<|by simp_all).2 (j h)
 .exact(al<|by simp_all).2 (i h)
def kM{R:Type}{step:Y->LT R Y}{t e:LT R Y}{r:R}{x a b:Int}(j:¬(a<=x/\x<=b)->bi step t r)(i:a<=x/\x<=b->bi step e r):bi step (.br (af.not<|af.k lK (x,a,b)) t e) r:=by
 refine aX (p:=¬(a<=x/\x<=b)) ?_ j<|λh=>i<|bY.1 h;rw[ji,bZ,vK,<-Bool.decide_and,<-decide_not]
def JZ{n:Int}:0<=nP n/\nP n<=2062:=by
 simp[nP,t173,LT.val,bl,gD,Bool.cond_eq_ite,tP];split
 .omega
 .split
  .omega
  .rw[gB,MW,gB,my (a:=n+1) (by omega)<|by omega];have:(n+1).tdiv 2=(n+1)/2:=lY (by omega);rw[this,my (a:=(n+1)/2) (by omega)<|by omega,my (by omega)<|by omega];omega
def ac4{b:Int}{x:Int×Bool}(h:0<=b/\b<=2062):0<=B_ b x/\B_ b x<=2062:=by
 have:=JZ (n:=xh (rC (x.2,x.1),x.1));unfold B_;cases decide (0<xh (rC (x.2,x.1),x.1))
 .exact h
 .rw[aoz,wN];omega
theorem Ad{α:Type}{f:Int->α->Int}(i:∀b x,0<=b/\b<=2062->0<=f b x/\f b x<=2062):∀{l:List α} {b:Int},0<=b/\b<=2062->0<=l.foldl f b/\l.foldl f b<=2062
 | [],_,h=>h
 | x::l,b,h=>Ad i (l:=l)<|i b x h
def sI{m:au}:0<=ig m/\ig m<=2062:=Ad (λ_ _ h=>Ad (λ_ _ h=>ac4 h) h) JZ
def qU(n s g w d h i:Int):Bool:=decide<|0<=d/\d<=64/\0<=h/\h<=64/\16*n*d+16<=w/\w<=1048576/\2*w+2*h+4<=g/\g<=1048576/\2*g+i<=s/\s<=16777216
def df(m:au):Bool:=countB m&&m.2.2.2.2.2.2.2.all (pM m)&&qU m.1 m.2.1 m.2.2.1 m.2.2.2.1 m.2.2.2.2.1 m.2.2.2.2.2.1 (ig m)
def nh(m:au):Int:=bif df m then 0 else 70
theorem ac_{n:Int}(h:4<=n/\n<=8)(i:0<=d/\d<=64):af.b .add .i64 (af.b .mul .i64 (af.b .mul .i64 16 n) d) 16=16*n*d+16:=by
 have j:0<=16*n*d/\16*n*d<=8192:=by
  have:n=4\/n=5\/n=6\/n=7\/n=8:=by omega
  grind
 rw[gB,jh,jh,my (a:=16*n) (by omega) (by omega),my (a:=16*n*d) (by omega) (by omega),my (by omega) (by omega)]
theorem y8{n:Int}(h:4<=n/\n<=8)(i:0<=d/\d<=64):0<=16*n*d:=by
 have:n=4\/n=5\/n=6\/n=7\/n=8:=by omega
 grind
theorem Y7{w i:Int}(h:0<=w/\w<=1048576)(j:0<=i/\i<=64):af.b .add .i64 (af.b .add .i64 (af.b .mul .i64 2 w) (af.b .mul .i64 2 i)) 4=2*w+2*i+4:=by
 rw[gB,gB,jh,jh,my (a:=2*w) (by omega) (by omega),my (a:=2*i) (by omega) (by omega),my (a:=2*w+2*i) (by omega) (by omega),my (by omega) (by omega)]
theorem TW{i:Int}(h:0<=g/\g<=1048576)(j:0<=i/\i<=2062):af.b .add .i64 (af.b .mul .i64 2 g) i=2*g+i:=by
 rw[gB,jh,my (a:=2*g) (by omega) (by omega),my (by omega) (by omega)]
theorem Yz{n s w j:Int}{i:List Bool}{h:List Mode}:DJ (n,s,g,w,d,j,i,h)=(af.b .add .i64 (af.b .mul .i64 (af.b .mul .i64 16 n) d) 16,af.b .add .i64 (af.b .add .i64 (af.b .mul .i64 2 w) (af.b .mul .i64 2 j)) 4,af.b .add .i64 (af.b .mul .i64 2 g) (ig (n,s,g,w,d,j,i,h))):=rfl
structure Wh where(a0:List Mode)(a1 a3 a4 a5 a6 a7 a8:Int)(a9:List Bool)(mA:List Mode)
inductive Xq where|c0(p:Wh)(a2:Int)
noncomputable def ajt:Xq->iF
 | .c0 p a2=>⟨[iN 183 19 [(0,.sl eQ p.a0),(1,.fn 118 [] [pZ 0]),(7,vi p.a1),(8,vi a2)] f183 52,⟨117,9,.leaf,[.ops (ow f117 6)<|(ow f117 6).toList.drop 2,.code .ret],[],none⟩,Jr 70 65 [(1,pZ 0)] f70 6148 3],[gZ [vi p.a3,vi p.a4,vi p.a5,vi p.a6,vi p.a7,vi p.a8,.sl .bool p.a9,.sl eQ p.mA],.aU]⟩
def t124(A:aS)(p:Int)(v:Int)(B:Int)(i:Int)(l:Int)(j:Int)(u:List Bool)(h:List Mode):LT Int Xq:=.br (A.not<|A.k Yy (p,v,B,i,l,j,u,h)) (.ret 70)<|.ak<|.c0 ⟨h,A.l h,p,v,B,i,l,j,u,h⟩ 0
abbrev TP(A:aS)(p:Wh):LT Int Xq:=(.br (A.not<|A.k lK (p.a7,0,64)) (.ret 70)<|.br (A.not<|A.k lK (p.a8,0,64)) (.ret 70)<|.br (A.not<|A.k lK (p.a6,0,1048576)) (.ret 70)<|.br (A.not<|A.k lK (p.a5,0,1048576)) (.ret 70)<|.br (A.not<|A.k lK (p.a4,0,16777216)) (.ret 70)<|.br (A.bq p.a6 (A.k DJ (p.a3,p.a4,p.a5,p.a6,p.a7,p.a8,p.a9,p.mA)).1) (.ret 70)<|.br (A.bq p.a5 (A.k DJ (p.a3,p.a4,p.a5,p.a6,p.a7,p.a8,p.a9,p.mA)).2.1) (.ret 70)<|.br (A.bq p.a4 (A.k DJ (p.a3,p.a4,p.a5,p.a6,p.a7,p.a8,p.a9,p.mA)).2.2) (.ret 70)<|.ret 0)
def Vk(A:aS):Xq->LT Int Xq
 | .c0 p a2=>.br (A.bq a2 p.a1) (.ao (A.and (A.bQ 0 a2)<|A.bq a2<|A.l p.a0)<|.ao (A.k QH ((p.a3,p.a4,p.a5,p.a6,p.a7,p.a8,p.a9,p.mA),(A.n eQ p.a0 a2:Mode)))<|.br (A.not<|A.k Sv ((p.a3,p.a4,p.a5,p.a6,p.a7,p.a8,p.a9,p.mA),(A.n eQ p.a0 a2:Mode))) (.br (A.qE a2 0) (.ret 70)<|TP A p)<|.ak<|.c0 p<|A.b .add .i64 a2 1)<|TP A p
theorem agI{n s w l:Int}{R:Int}(v:4<=n/\n<=8)(E:R=bif qU n s g w d l (ig (n,s,g,w,d,l,j,i)) then 0 else 70):
  bi (Vk af) (.br (af.not<|af.k lK (d,0,64)) (.ret 70)<|.br (af.not<|af.k lK (l,0,64)) (.ret 70)<|.br (af.not<|af.k lK (w,0,1048576)) (.ret 70)<|.br (af.not<|af.k lK (g,0,1048576)) (.ret 70)<|.br (af.not<|af.k lK (s,0,16777216)) (.ret 70)<|.br (af.bq w (af.k DJ (n,s,g,w,d,l,j,i)).1) (.ret 70)<|.br (af.bq g (af.k DJ (n,s,g,w,d,l,j,i)).2.1) (.ret 70)<|.br (af.bq s (af.k DJ (n,s,g,w,d,l,j,i)).2.2) (.ret 70)<|.ret 0) R:=by
 have F:=sI (m:=(n,s,g,w,d,l,j,i));have u:∀{p:Prop} [Decidable p],¬p->decide p=false:=λh=>by simp_all
 rw[E];refine kM (λh=>aT ?_<|.ret _) λA=>kM (λh=>aT ?_<|.ret _) λB=>kM (λh=>aT ?_<|.ret _) λC=>kM (λh=>aT ?_<|.ret _) λD=>kM (λh=>aT ?_<|.ret _) λH=>?_
 .rw[qU,u<|by omega];rfl
 .rw[qU,u<|by omega];rfl
 .have:=λh=>y8 (n:=n) (d:=d) v h;rw[qU,u<|by omega];rfl
 .have:=λh=>y8 (n:=n) (d:=d) v h;rw[qU,u<|by omega];rfl
 .have:=λh=>y8 (n:=n) (d:=d) v h;rw[qU,u<|by omega];rfl
 .have:=y8 (n:=n) (d:=d) v A;rw[bZ,Yz,ac_ v A,Y7 C B,TW D F];refine aX (p:=w<16*n*d+16) rfl (λh=>aT ?_<|.ret _) λI=>aX (p:=g<2*w+2*l+4) rfl (λh=>aT ?_<|.ret _) λJ=>aX (p:=s<2*g+ig (n,s,g,w,d,l,j,i)) rfl (λh=>aT ?_<|.ret _) λK=>aT ?_<|.ret _
  .rw[qU,u<|by omega];rfl
  .rw[qU,u<|by omega];rfl
  .rw[qU,u<|by omega];rfl
  .rw[qU,bX<|by omega];rfl
theorem aks{n s w p:Int}{l:List Bool}{h:List Mode}(E:h.length<=140737488355328)(D:(l.length:Int)=n)(C:4<=n/\n<=8):∀(j i:Nat),h.length-i=j->i<=h.length->
  bi (Vk af) (.ak<|.c0 ⟨h,(h.length:Int),n,s,g,w,d,p,l,h⟩ i) (bif (h.drop i).all (pM (n,s,g,w,d,p,l,h))&&qU n s g w d p (ig (n,s,g,w,d,p,l,h)) then 0 else 70):=by
 intro j
 induction j with
 | zero=>
   intro i B A;have:i=h.length:=by omega
   subst this;rw[aI,Vk];refine(al (by rw[bR];simp)).2 (agI C ?_)
   simp_all
 | succ j ih=>
   intro i B A;have u:i<h.length:=by omega
   rw[aI,Vk];refine(ap (by rw[bR];simp_all)).2 (aA.2 ⟨dA u,?_⟩);have e:(af.n eQ h (i:Int):Mode)=h[i]:=fF u _;rw[e,AX u,fT];refine aA.2 ⟨by show((l.length:Int)==n)=true;simp_all,?_⟩;have v:af.k Sv ((n,s,g,w,d,p,l,h),h[i])=pM (n,s,g,w,d,p,l,h) h[i]:=rfl;rw[v];cases pM (n,s,g,w,d,p,l,h) h[i]
   .refine(ap rfl).2 ((ap<|by rfl).2<|.ret _)
   .refine(al rfl).2 ?_;rw[jN (i:=i)<|by omega,dC]
    grind
def akt{n s w l:Int}(h:Ty.has aW (n,s,g,w,d,l,j,i)):bi (Vk af) (t124 af n s g w d l j i)<|nh (n,s,g,w,d,l,j,i):=by
 unfold t124 nh df;rw[show af.k Yy (n,s,g,w,d,l,j,i)=countB (n,s,g,w,d,l,j,i) from rfl];cases hc:countB (n,s,g,w,d,l,j,i)
 .exact(ap rfl).2 (.ret _)
 .refine(al rfl).2 ?_;simp[countB,vK,eH,tP,beq_iff_eq] at hc;exact aks (tj h).c hc.1.2 hc.1.1.1 i.length 0 rfl (by omega)
def iR:au->Int:=nh
def asx:aL:=.all [aW] [yI] iR
def yd:Sd 70 asx:=fa<|bE ar dK sl 58 [⟨183,2,[[0,1,7,8],[],[1]]⟩] [] (λA (v,C,D,i,l,j,B,u)=>t124 A v C D i l j B u) Vk ajt (kz (fc func70 (fc func117 (fc func118 (fc func183 fz)))) (sc ard (sc are (sc O6 (sc arf sz))))) (λA y=>match y with |.c0 p a2=>⟨136,sl,by kernel_rfl⟩) λ(v,C,D,i,l,j,B,u) E h=>akt h
def sZ{m:au}:iR m=nh m:=rfl
theorem oZ{m:au}:nh m=0↔df m=true:=by
 unfold nh;grind
def auT(A:aS)(h:Bool)(i:Int):LT Int Empty:=.br (A.not h) (.ret 2)<|.br (A.jr i 0) (.ret 4)<|.ret 3
def Sx:(Bool×Int)->Int:=λ(h,i)=>(auT af h i).val<|Ty.aO [yI]
def asT:aL:=.all [.bool,yI] [yI] Sx
def arh:Sd 53 asT:=fa<|aN ar dK sl 30 [] (λA (h,i)=>auT A h i)<|kz (fc func53 fz) sz
def auN(A:aS)(n:Int):LT Int Empty:=.br (A.bq n 0) (.ret 0)<|.br (A.jr n 4095) (.ret 0)<|.ret<|A.b .add .i64 14<|A.b .quo .i64 (A.b .add .i64 n 1) 2
def Sq:Int->Int:=λn=>(auN af n).val<|Ty.aO [yI]
def asu:aL:=.all [yI] [yI] Sq
def aq7:Sd 51 asu:=fa<|aN ar dK sl 30 [] (λA n=>auN A n)<|kz (fc func51 fz) sz
structure aiI where(a0:List Bool)
inductive adG where|c0(p:aiI)(a1 a2:Int)
noncomputable def ajM:adG->iF
 | .c0 p a1 a2=>⟨[iN 24 18 [(0,.sl .bool p.a0),(3,vi a1),(4,vi a2)] f24 116],[.aU]⟩
def au1(A:aS)(l:List Bool):LT Int adG:=.ak<|.c0 ⟨l⟩ 0 0
def aaN(A:aS):adG->LT Int adG
 | .c0 p a1 a2=>.br (A.bq a2<|A.l p.a0) (.ao (A.and (A.bQ 0 a2)<|A.bq a2<|A.l p.a0)<|.br (A.n .bool p.a0 a2:Bool) (.ak<|.c0 p (A.b .add .i64 a1 1)<|A.b .add .i64 a2 1)<|.ak<|.c0 p a1<|A.b .add .i64 a2 1)<|.ret a1
theorem anV{l:List Bool}(A:l.length<=140737488355328):∀(j i c:Nat),l.length-i=j->i<=l.length->c<=i->bi (aaN af) (.ak<|.c0 ⟨l⟩ (c:Int) (i:Int)) ((c+(l.drop i).count true:Nat):Int):=by
 intro j
 induction j with
 | zero=>
   intro i c v u p;have:i=l.length:=by omega
   subst this;rw[aI,aaN];refine(al (by rw[eG,bR];simp)).2 ?_;rw[cZ];exact .ret _
 | succ j ih=>
   intro i c v u p;have h:i<l.length:=by omega
   rw[aI,aaN];refine(ap (by rw[eG,bR];simp_all)).2 (aA.2 ⟨dA h,?_⟩);rw[AX h,List.count_cons];cases hb:l[i]
   .refine(al<|(BG h).trans hb).2 ?_;rw[jN (i:=i)<|by omega];refine aT ?_<|ih (i+1) c (by omega) (by omega) (by omega);simp
   .refine(ap<|(BG h).trans hb).2 ?_;rw[jN (i:=c)<|by omega,jN (i:=i)<|by omega];refine aT ?_<|ih (i+1) (c+1) (by omega) (by omega) (by omega)
    grind
def SH:(List Bool)->Int:=λl=>(l.count true:Int)
def atx:aL:=.all [(.slice .bool)] [yI] SH
def arF:Sd 24 atx:=fa (bE ar dK sl 21 [⟨24,3,[[0,3,4]]⟩] [] (λA l=>au1 A l) aaN ajM (kz (fc func24 fz) sz) (λA y=>match y with |.c0 p a1 a2=>⟨37,sl,by kernel_rfl⟩) λ(l:List Bool) i h=>by
 show bi (aaN af) (au1 af l)<|SH l;exact aT (by simp[SH])<|anV h.1 l.length 0 0 rfl (by omega)<|by omega)
structure aiJ where(a1:List Int)(a2 a3:List Bool)(a4 a5 a6 a7 a8 a9:Int)(mA:List Bool)(pH:List Mode)
structure aiK where(b1:List Int)(b2 b3:List Bool)(b4 b5 b6 b7 b8 b9:Int)(b10:List Bool)(b11:List Mode)
inductive adH where|c0(p:aiJ)(a0:Int)|c1(p:aiK)(b0:Int)
noncomputable def ajN:adH->iF
 | .c0 p a0=>⟨[iN 25 78 [(2,pZ 0),(3,pZ 1),(5,vi a0)] f25 116],[gZ [.sl yI p.a1,.sl .bool p.a2,.sl .bool p.a3],gZ [vi p.a4,vi p.a5,vi p.a6,vi p.a7,vi p.a8,vi p.a9,.sl .bool p.mA,.sl eQ p.pH],.aU]⟩
 | .c1 p b0=>⟨[iN 25 78 [(2,pZ 0),(3,pZ 1),(6,vi b0)] f25 244],[gZ [.sl yI p.b1,.sl .bool p.b2,.sl .bool p.b3],gZ [vi p.b4,vi p.b5,vi p.b6,vi p.b7,vi p.b8,vi p.b9,.sl .bool p.b10,.sl eQ p.b11],.aU]⟩
def agh(A:aS)(p:List Int)(h:List Bool)(u:List Bool)(i:Int)(D:Int)(E:Int)(l:Int)(B:Int)(v:Int)(C:List Bool)(j:List Mode):LT Bool adH:=.br (A.cm (A.l p) i) (.ret false)<|.br (A.cm (A.l h) i) (.ret false)<|.br (A.cm (A.l u)<|A.l j) (.ret false)<|.ak<|.c0 ⟨p,h,u,i,D,E,l,B,v,C,j⟩ 0
def JE(A:aS):adH->LT Bool adH
 | .c0 p a0=>.br (A.bq a0<|A.l p.a1) (.ao (A.and (A.bQ 0 a0)<|A.bq a0<|A.l p.a1)<|.br (A.bq (A.n yI p.a1 a0:Int) 0) (.ret false)<|.ao (A.and (A.bQ 0 a0)<|A.bq a0<|A.l p.a1)<|.br (A.jr (A.n yI p.a1 a0:Int) 8) (.ret false)<|.ak<|.c0 p<|A.b .add .i64 a0 1)<|.ak<|.c1 ⟨p.a1,p.a2,p.a3,p.a4,p.a5,p.a6,p.a7,p.a8,p.a9,p.mA,p.pH⟩ 0
 | .c1 p b0=>.br (A.bq b0<|A.l p.b2) (.br (A.bq b0<|A.l p.b10) (.ao (A.and (A.bQ 0 b0)<|A.bq b0<|A.l p.b10)<|.br (A.n .bool p.b10 b0:Bool) (.ao (A.and (A.bQ 0 b0)<|A.bq b0<|A.l p.b2)<|.br (A.not (A.n .bool p.b2 b0:Bool)) (.ret false)<|.ak<|.c1 p<|A.b .add .i64 b0 1)<|.ak<|.c1 p<|A.b .add .i64 b0 1)<|.ret true)<|.ret true
def XQ:List Bool->List Bool->Bool
 | c::cs,e::es=>(!c||e)&&XQ cs es
 | _,_=>true
theorem Ap:∀{ds:List Int} {i j:List Bool},i.length=ds.length->j.length=ds.length->yQ ds i j=(ds.all (λd=>decide (0<=d)&&decide (d<=8))&&XQ i j)
 | [],[],[],_,_=>rfl
 | d::ds,c::i,e::j,h1,h2=>by
   rw[yQ,Ap (ds:=ds) (by simpa using h1)<|by simpa using h2,fT,XQ]
   grind
 | [],_::_,_,h,_=>by cases h
 | [],[],_::_,_,h=>by cases h
 | _::_,[],_,h,_=>by cases h
 | _::_,_::_,[],_,h=>by cases h
theorem akF{n s w B:Int}{l h next:List Bool}{v:List Mode}{A:List Int}(F:h.length<=140737488355328)(E:l.length=h.length):∀(j i:Nat),h.length-i=j->i<=h.length->
  bi (JE af) (.ak<|.c1 ⟨A,h,next,n,s,g,w,d,B,l,v⟩ i) (XQ (l.drop i)<|h.drop i):=by
 intro j
 induction j with
 | zero=>
   intro i D C;have:i=h.length:=by omega
   subst this;rw[aI,JE];refine(al (by rw[eG,bR];simp)).2 ?_;rw[cZ,gq<|by omega];exact .ret _
 | succ j ih=>
   intro i D C;have p:i<h.length:=by omega
   have u:i<l.length:=by omega
   rw[aI,JE];refine(ap (by rw[eG,bR];simp_all)).2 ((ap (by rw[eG,bR];simp_all)).2<|aA.2 ⟨dA u,?_⟩);rw[AX p,AX u,XQ];cases hcb:l[i]
   .refine(al<|(BG u).trans hcb).2 ?_;rw[jN (i:=i)<|by omega];grind
   .refine(ap<|(BG u).trans hcb).2 (aA.2 ⟨dA p,?_⟩);cases heb:h[i]
    .exact(ap (by rw[BG p,heb];rfl)).2 (.ret _)
    .refine(al (by rw[BG p,heb];rfl)).2 ?_;rw[jN (i:=i)<|by omega];grind
theorem akE{n s w C:Int}{A B next:List Bool}{u:List Mode}{l:List Int}{R:Bool}(J:l.length<=140737488355328)(I:bi (JE af) (.ak<|.c1 ⟨l,B,next,n,s,g,w,d,C,A,u⟩ 0) R):∀(j i:Nat),l.length-i=j->i<=l.length->
  bi (JE af) (.ak<|.c0 ⟨l,B,next,n,s,g,w,d,C,A,u⟩ i) ((l.drop i).all (λd=>decide (0<=d)&&decide (d<=8))&&R):=by
 intro j
 induction j with
 | zero=>
   intro i E D;have:i=l.length:=by omega
   subst this;rw[aI,JE];refine(al (by rw[eG,bR];simp)).2 ?_
   simp_all
 | succ j ih=>
   intro i E D;have v:i<l.length:=by omega
   rw[aI,JE];rw[AX v,fT];refine(ap (by rw[eG,bR];simp_all)).2 (aA.2 ⟨dA v,?_⟩);rw[Z9 v];refine aX (p:=l[i]<0) rfl (λh=>aT ?_<|.ret _) λF=>aA.2 ⟨dA v,aX (p:=8<l[i]) rfl (λh=>aT ?_<|.ret _) λH=>?_⟩
   .grind
   .grind
   .rw[jN (i:=i)<|by omega,bX<|show 0<=l[i] by omega,bX<|show l[i]<=8 by omega]
    grind
theorem akG{n s w A:Int}{l i next:List Bool}{j:List Mode}(C:h.length<=140737488355328)(v:i.length<=140737488355328)(D:(l.length:Int)=n):
  bi (JE af) (agh af h i next n s g w d A l j) (pM (n,s,g,w,d,A,l,j) (h,i,next)):=by
 unfold agh pM;by_cases p:(h.length:Int)=n
 .refine(al<|zv p).2 ?_;by_cases u:(i.length:Int)=n
  .refine(al<|zv u).2 ?_;by_cases B:(next.length:Int)=j.length
   .refine(al<|zv B).2 (aT ?_<|akE C (akF v (by omega) i.length 0 rfl<|by omega) h.length 0 rfl<|by omega);rw[beq_iff_eq.2 p,beq_iff_eq.2 u,beq_iff_eq.2<|show next.length=j.length by omega,Ap (show l.length=h.length by omega)<|show i.length=h.length by omega];rfl
   .refine(ap<|zw B).2 (aT ?_<|.ret _)
    grind
  .refine(ap<|zw u).2 (aT ?_<|.ret _)
   simp_all
 .refine(ap<|zw p).2 (aT ?_<|.ret _)
  simp_all
def SI:(Mode×au)->Bool:=λ(x,m)=>pM m x
def QJ:(Mode×au)->Bool:=λ(_,m)=>(m.2.2.2.2.2.2.1.length:Int)==m.1
def aty:aL:=⟨[eQ,aW],[.bool],QJ,SI,false⟩
def arG:Sd 25 aty:=bE ar dK sl 48 [⟨25,4,[[2,3,5]]⟩,⟨25,9,[[2,3,6]]⟩] [] (λA ((E,i,F),B,D,H,j,u,l,C,v)=>agh A E i F B D H j u l C v) JE ajN (kz (fc func25 fz) sz) (λA y=>match y with |.c0 p J=>⟨44,sl,by kernel_rfl⟩|.c1 p b0=>⟨50,sl,by kernel_rfl⟩) λ(((E,i,F),B,D,H,j,u,l,C,v):Mode×au) I h=>by
 show bi (JE af) (agh af E i F B D H j u l C v)<|SI ((E,i,F),B,D,H,j,u,l,C,v);exact akG h.1.1.1 h.1.2.1.1 (by simpa [QJ] using I)
structure ain where(a0 a1 a2 a3 a4 a5 a6 a7:Int)(a8:List Bool)(a9:List Mode)
structure aio where(b1 b3 b4 b5 b6 b7 b8:Int)(b9:List Bool)(b10:List Mode)(b11:List Int)(b12 b13:List Bool)
inductive adw where|c0(p:ain)|c1(p:aio)(b0 b2:Int)
noncomputable def ajy:adw->iF
 | .c0 p=>⟨[iN 26 66 [(1,pZ 0),(3,vi p.a0),(4,vi p.a1)] f26 116],[gZ [vi p.a2,vi p.a3,vi p.a4,vi p.a5,vi p.a6,vi p.a7,.sl .bool p.a8,.sl eQ p.a9],.aU]⟩
 | .c1 p b0 b2=>⟨[iN 26 66 [(1,pZ 0),(3,vi b0),(4,vi p.b1),(5,pZ 1),(6,vi b2)] f26 14924],[gZ [vi p.b3,vi p.b4,vi p.b5,vi p.b6,vi p.b7,vi p.b8,.sl .bool p.b9,.sl eQ p.b10],gZ [.sl yI p.b11,.sl .bool p.b12,.sl .bool p.b13],.aU]⟩
def amQ(A:aS)(p:Int)(v:Int)(B:Int)(h:Int)(j:Int)(i:Int)(u:List Bool)(l:List Mode):LT Int adw:=.ak<|.c0 ⟨A.k Sq<|A.k Qa (1,0),0,p,v,B,h,j,i,u,l⟩
def MC(A:aS):adw->LT Int adw
 | .c0 p=>.br (A.bq p.a1<|A.l p.a9) (.ao (A.and (A.bQ 0 p.a1)<|A.bq p.a1<|A.l p.a9)<|.ak<|.c1 ⟨p.a1,p.a2,p.a3,p.a4,p.a5,p.a6,p.a7,p.a8,p.a9,(A.n eQ p.a9 p.a1:Mode).1,(A.n eQ p.a9 p.a1:Mode).2.1,(A.n eQ p.a9 p.a1:Mode).2.2⟩ p.a0 0)<|.ret p.a0
 | .c1 p b0 b2=>.br (A.bq b2<|A.l p.b11) (.br (A.bq b2<|A.l p.b12) (.br (A.bq b2 p.b3) (.ao (A.and (A.bQ 0 b2)<|A.bq b2<|A.l p.b12)<|.ao (A.and (A.bQ 0 b2)<|A.bq b2<|A.l p.b11)<|.ao (A.and (A.bQ 0 b2)<|A.bq b2<|A.l p.b11)<|.br (A.jr (A.k Qa (A.k Sx ((A.n .bool p.b12 b2:Bool),(A.n yI p.b11 b2:Int)),(A.n yI p.b11 b2:Int))) 0) (.ak<|.c1 p (A.mx b0<|A.k Sq<|A.k Qa (A.k Sx ((A.n .bool p.b12 b2:Bool),(A.n yI p.b11 b2:Int)),(A.n yI p.b11 b2:Int)))<|A.b .add .i64 b2 1)<|.ak<|.c1 p b0<|A.b .add .i64 b2 1)<|.ak<|.c0 ⟨b0,A.b .add .i64 p.b1 1,p.b3,p.b4,p.b5,p.b6,p.b7,p.b8,p.b9,p.b10⟩)<|.ak<|.c0 ⟨b0,A.b .add .i64 p.b1 1,p.b3,p.b4,p.b5,p.b6,p.b7,p.b8,p.b9,p.b10⟩)<|.ak<|.c0 ⟨b0,A.b .add .i64 p.b1 1,p.b3,p.b4,p.b5,p.b6,p.b7,p.b8,p.b9,p.b10⟩
def YA:Sx=rC:=rfl
def Yv:Sq=nP:=rfl
def aeI:Qa=xh:=funext λ⟨k,d⟩=>by rw[O4.1,O4.2]
theorem aoD{n s w D:Int}{v l next:List Bool}{p:List Mode}{k H:Int}(N:h.length<=140737488355328)(B:af.b .add .i64 k 1=H)(C:∀b,bi (MC af) (.ak<|.c0 ⟨b,H,n,s,g,w,d,D,v,p⟩)<|F b):
  ∀(j i:Nat) (b:Int),h.length-i=j->i<=h.length->bi (MC af) (.ak<|.c1 ⟨k,n,s,g,w,d,D,v,p,h,l,next⟩ b i) (F<|(((h.zip l).take n.toNat).drop i).foldl B_ b):=by
 intro j
 induction j with
 | zero=>
   intro i b K J;have:i=h.length:=by omega
   subst this;rw[aI,MC];refine(al (by rw[eG,bR];simp)).2 ?_;rw[Du<|.inr<|.inr<|ah _,B]
   simp_all
 | succ j ih=>
   intro i b K J;have u:i<h.length:=by omega
   rw[aI,MC];refine(ap (by rw[eG,bR];simp_all)).2 ?_;have E:=λb=>ih (i+1) b (by omega) (by omega);by_cases A:i<l.length
   .refine(ap (by rw[eG,bR];simp_all)).2 ?_;by_cases I:(i:Int)<n
    .refine(ap (by rw[Tm];simp_all)).2 (aA.2 ⟨dA<|show i<l.length from A,aA.2 ⟨dA u,aA.2 ⟨dA u,?_⟩⟩⟩);rw[adk u A I,jS,ac5,<-Z9 u,<-BG A,jN (i:=i)<|by omega,YA,aeI,Yv];cases hb:af.jr (af.k xh (af.k rC ((af.n .bool l (i:Int):Bool),(af.n (.int .i64) h (i:Int):Int)),(af.n (.int .i64) h (i:Int):Int))) 0
     .exact(al rfl).2 (E _)
     .exact(ap rfl).2 (E _)
    .refine(al (by rw[Tm];simp_all)).2 ?_;rw[Du<|.inr<|.inl<|by omega,B];simp_all
   .refine(al (by rw[eG,bR];simpa using A)).2 ?_;rw[Du<|.inl<|by omega,B];simp_all
theorem aoC{n s w p:Int}{l:List Bool}{h:List Mode}(B:h.length<=140737488355328)(u:∀x∈h,x.1.length<=140737488355328):
  ∀(j k:Nat) (b:Int),h.length-k=j->k<=h.length->bi (MC af) (.ak<|.c0 ⟨b,(k:Int),n,s,g,w,d,p,l,h⟩) ((h.drop k).foldl (BA n.toNat) b):=by
 intro j
 induction j with
 | zero=>
   intro k b v A;have:k=h.length:=by omega
   subst this;rw[aI,MC];refine(al (by rw[eG,bR];simp)).2 ?_;rw[cZ];exact .ret _
 | succ j ih=>
   intro k b v A;have i:k<h.length:=by omega
   rw[aI,MC];refine(ap (by rw[eG,bR];simp_all)).2 (aA.2 ⟨dA i,?_⟩);rw[show(af.n eQ h (k:Int):Mode)=h[k] from fF i _,AX i,jS];exact aoD (F:=λb=>(h.drop<|k+1).foldl (BA n.toNat) b) (u _<|dQ i) (jN<|by omega) (λb=>ih (k+1) b (by omega)<|by omega) h[k].1.length 0 b rfl (by omega)
def aoE{n s w l:Int}(h:Ty.has aW (n,s,g,w,d,l,j,i)):bi (MC af) (amQ af n s g w d l j i)<|ig (n,s,g,w,d,l,j,i):=by
 unfold amQ;exact aoC (tj h).c (λx p=>((tj h).C x p).1) i.length 0 _ rfl (by omega)
def NW:au->Int:=ig
def asI:aL:=.all [aW] [yI] NW
def ahH:Sd 26 asI:=fa<|bE ar dK sl 24 [⟨26,3,[[1,3,4]]⟩,⟨26,7,[[1,3,4,5,6]]⟩] [] (λA (v,C,D,i,l,j,B,u)=>amQ A v C D i l j B u) MC ajy (kz (fc func26 fz) (sc aw9 (sc aq7 (sc arh sz)))) (λA y=>match y with |.c0 p=>⟨35,sl,by kernel_rfl⟩|.c1 p b0 b2=>⟨72,sl,by kernel_rfl⟩) λ(v,C,D,i,l,j,B,u) E h=>aoE h
structure aiD where(a1 a2 a3 a4 a5 a6:Int)(a7:List Bool)(a8:List Mode)
inductive adD where|c0(p:aiD)(a0:Int)
noncomputable def ajI:adD->iF
 | .c0 p a0=>⟨[iN 8 120 [(1,pZ 0),(3,vi a0)] f8 116],[gZ [vi p.a1,vi p.a2,vi p.a3,vi p.a4,vi p.a5,vi p.a6,.sl .bool p.a7,.sl eQ p.a8],.aU]⟩
def am4(A:aS)(h:Int)(v:Int)(B:Int)(l:Int)(u:Int)(p:Int)(j:List Bool)(i:List Mode):LT Int adD:=.br (A.bq h 4) (.ret 70)<|.br (A.jr h 8) (.ret 70)<|.br (A.bq (A.l i) 1) (.ret 70)<|.br (A.jr (A.l i) 4) (.ret 70)<|.br (A.cm (A.l j) h) (.ret 70)<|.br (A.bq (A.k SH j) 2) (.ret 70)<|.ak<|.c0 ⟨h,v,B,l,u,p,j,i⟩ 0
def Vm(A:aS):adD->LT Int adD
 | .c0 p a0=>.br (A.bq a0<|A.l p.a8) (.ao (A.and (A.bQ 0 a0)<|A.bq a0<|A.l p.a8)<|.ao (A.k QJ ((A.n eQ p.a8 a0:Mode),p.a1,p.a2,p.a3,p.a4,p.a5,p.a6,p.a7,p.a8))<|.br (A.not<|A.k SI ((A.n eQ p.a8 a0:Mode),p.a1,p.a2,p.a3,p.a4,p.a5,p.a6,p.a7,p.a8)) (.ret 70)<|.ak<|.c0 p<|A.b .add .i64 a0 1)<|.br (A.bq p.a5 0) (.ret 70)<|.br (A.jr p.a5 64) (.ret 70)<|.br (A.bq p.a6 0) (.ret 70)<|.br (A.jr p.a6 64) (.ret 70)<|.br (A.bq p.a4<|A.b .add .i64 (A.b .mul .i64 (A.b .mul .i64 16 p.a1) p.a5) 16) (.ret 70)<|.br (A.jr p.a4 1048576) (.ret 70)<|.br (A.bq p.a3<|A.b .add .i64 (A.b .add .i64 (A.b .mul .i64 2 p.a4)<|A.b .mul .i64 2 p.a6) 4) (.ret 70)<|.br (A.jr p.a3 1048576) (.ret 70)<|.br (A.bq p.a2<|A.b .add .i64 (A.b .mul .i64 2 p.a3)<|A.k NW (p.a1,p.a2,p.a3,p.a4,p.a5,p.a6,p.a7,p.a8)) (.ret 70)<|.br (A.jr p.a2 16777216) (.ret 70)<|.ret 0
theorem agJ{n s w l:Int}{R:Int}(v:4<=n/\n<=8)(B:R=bif qU n s g w d l (ig (n,s,g,w,d,l,j,i)) then 0 else 70):
  bi (Vm af) (.br (af.bq d 0) (.ret 70)<|.br (af.jr d 64) (.ret 70)<|.br (af.bq l 0) (.ret 70)<|.br (af.jr l 64) (.ret 70)<|.br (af.bq w<|af.b .add .i64 (af.b .mul .i64 (af.b .mul .i64 16 n) d) 16) (.ret 70)<|.br (af.jr w 1048576) (.ret 70)<|.br (af.bq g<|af.b .add .i64 (af.b .add .i64 (af.b .mul .i64 2 w)<|af.b .mul .i64 2 l) 4) (.ret 70)<|.br (af.jr g 1048576) (.ret 70)<|.br (af.bq s<|af.b .add .i64 (af.b .mul .i64 2 g)<|af.k NW (n,s,g,w,d,l,j,i)) (.ret 70)<|.br (af.jr s 16777216) (.ret 70)<|.ret 0) R:=by
 have C:=sI (m:=(n,s,g,w,d,l,j,i));have u:∀{p:Prop} [Decidable p],¬p->decide p=false:=λh=>by simp_all
 rw[B];refine aX (p:=d<0) rfl (λh=>aT ?_<|.ret _) λD=>aX (p:=64<d) rfl (λh=>aT ?_<|.ret _) λE=>aX (p:=l<0) rfl (λh=>aT ?_<|.ret _) λF=>aX (p:=64<l) rfl (λh=>aT ?_<|.ret _) λH=>?_
 .rw[qU,u<|by omega];rfl
 .rw[qU,u<|by omega];rfl
 .rw[qU,u<|by omega];rfl
 .rw[qU,u<|by omega];rfl
 have:=y8 (n:=n) (d:=d) v (by omega);rw[ac_ v<|by omega];refine aX (p:=w<16*n*d+16) rfl (λh=>aT ?_<|.ret _) λI=>aX (p:=1048576<w) rfl (λh=>aT ?_<|.ret _) λJ=>?_
 .rw[qU,u<|by omega];rfl
 .rw[qU,u<|by omega];rfl
 rw[Y7 (by omega)<|by omega];refine aX (p:=g<2*w+2*l+4) rfl (λh=>aT ?_<|.ret _) λK=>aX (p:=1048576<g) rfl (λh=>aT ?_<|.ret _) λN=>?_
 .rw[qU,u<|by omega];rfl
 .rw[qU,u<|by omega];rfl
 rw[show af.k NW (n,s,g,w,d,l,j,i)=ig (n,s,g,w,d,l,j,i) from rfl,TW (by omega) C];refine aX (p:=s<2*g+ig (n,s,g,w,d,l,j,i)) rfl (λh=>aT ?_<|.ret _) λO=>aX (p:=16777216<s) rfl (λh=>aT ?_<|.ret _) λA=>aT ?_<|.ret _
 .rw[qU,u<|by omega];rfl
 .rw[qU,u<|by omega];rfl
 .rw[qU,bX<|by omega];rfl
theorem aex{n s w p:Int}{l:List Bool}{h:List Mode}(E:h.length<=140737488355328)(D:(l.length:Int)=n)(C:4<=n/\n<=8):∀(j i:Nat),h.length-i=j->i<=h.length->
  bi (Vm af) (.ak<|.c0 ⟨n,s,g,w,d,p,l,h⟩ i) (bif (h.drop i).all (pM (n,s,g,w,d,p,l,h))&&qU n s g w d p (ig (n,s,g,w,d,p,l,h)) then 0 else 70):=by
 intro j
 induction j with
 | zero=>
   intro i B A;have:i=h.length:=by omega
   subst this;rw[aI,Vm];refine(al (by rw[eG,bR];simp)).2 (agJ C ?_)
   simp_all
 | succ j ih=>
   intro i B A;have u:i<h.length:=by omega
   rw[aI,Vm];refine(ap (by rw[eG,bR];simp_all)).2 (aA.2 ⟨dA u,?_⟩);have e:(af.n eQ h (i:Int):Mode)=h[i]:=fF u _;rw[e,AX u,fT];refine aA.2 ⟨by show((l.length:Int)==n)=true;simp_all,?_⟩;have v:af.k SI (h[i],n,s,g,w,d,p,l,h)=pM (n,s,g,w,d,p,l,h) h[i]:=rfl;rw[v];cases pM (n,s,g,w,d,p,l,h) h[i]
   .exact(ap rfl).2 (.ret _)
   .refine(al rfl).2 ?_;rw[jN (i:=i)<|by omega,dC]
    grind
theorem aey{n s w l:Int}(h:Ty.has aW (n,s,g,w,d,l,j,i)):bi (Vm af) (am4 af n s g w d l j i) (nh (n,s,g,w,d,l,j,i)):=by
 unfold am4 nh df countB;simp[vK];refine aX (p:=n<4) rfl (λh=>aT ?_ (.ret _)) λv=>aX (p:=8<n) rfl (λh=>aT ?_ (.ret _)) λA=>aX (p:=(i.length:Int)<1) rfl (λh=>aT ?_ (.ret _)) λB=>aX (p:=4<(i.length:Int)) rfl (λh=>aT ?_ (.ret _)) λC=>?_
 .grind
 .grind
 .grind
 .grind
 by_cases u:(j.length:Int)=n
 .refine(al (zv u)).2 (?_);refine aX (p:=(j.count true:Int)<2) rfl (λh=>aT ?_ (.ret _)) λD=>aT ?_ (aex (tj h).2.2.1 u (by omega) i.length 0 rfl (by omega))
  all_goals grind
 .refine(ap (zw u)).2 (aT ?_ (.ret _))
  grind
def Gd:au->Int:=nh
def atg:aL:=.all [aW] [yI] Gd
def aru:Sd 8 atg:=fa<|bE ar dK sl 58 [⟨8,4,[[1,3]]⟩] [] (λA (v,C,D,i,l,j,B,u)=>am4 A v C D i l j B u) Vm ajI (kz (fc func8 fz) (sc ahH (sc arF (sc arG sz)))) (λA y=>match y with |.c0 p E=>⟨100,sl,by kernel_rfl⟩) λ(v,C,D,i,l,j,B,u) F h=>aey h
def YD:Gd=iR:=rfl
def rhoC:Shelf.Ren:=⟨λx=>match x with|4=>35|n=>n,λx=>match x with|22=>44|4=>4|5=>5|n=>n,λx=>x⟩
def ahm:SlLaysK.n4 prog rhoC:=
 {mixed:=by kernel_rfl,f4:=func35.trans (congrArg some (by kernel_rfl)),t4:=Tryz.underlying4,a4:=Tryz.isAgg4,z4:=Tryz.sizeOf4,v4:=Tryz.zeroValue4,t22:=Tryz.underlying44,a22:=Tryz.isAgg44,z22:=Tryz.sizeOf44,v22:=Tryz.zeroValue44,t5:=Tryz.underlying5,i5:=by kernel_rfl}
def nQ:List Int->List Int:=λx=>x
def asX:aL:=.all [.slice<|.int .u8] [.slice<|.int .u8] nQ
def UC{w:World}{I:Nat->Prop}{x:List Int}{v:Value}(W:bW w I (.slice (.int .u8)) [v] x):Calls prog 35 #[v] w λe j=>∃v,e=.returned v/\j.os=w.os/\j.tape=w.tape/\j.output=w.output/\w.heap.size<=j.heap.size/\(∀b,b<w.heap.size->j.heap[b]? = w.heap[b]?)/\
   ∃P,(∀b,P b->I b\/(w.heap.size<=b/\b<j.heap.size))/\bW j P (.slice (.int .u8)) [v] x:=by
 have hx:x.length<=gg/\∀y∈x,IntKind.u8.has y:=bW.has _ W;obtain⟨a,l,e,Z,Q,h3,h4⟩:=eP.1 W;cases e;cases a with
 | none=>
   have O:x=[]:=bg (by have a4:l=0:=h3 rfl;have a0:x.length<=l:=Z;omega);subst O;refine(Any.bytes_Clone_nil ahm 0 l w).mono ?_
   rintro e j ⟨rfl,rfl⟩
   exact⟨_,rfl,rfl,rfl,rfl,ah _,λ_ _=>rfl,I,λb h=>.inl h,eP.2 ⟨none,0,rfl,ah _,aQ _,(λ_=>rfl),λi y h=>by cases h⟩⟩
 | some a=>
   refine(Any.bytes_Clone_at ahm a x.length l x w rfl Q λi J=>?_).mono ?_
   .obtain⟨b,off,us,X,_,hl,hr,hc⟩:=h4 i x[i] (Jv J);cases X;have N:=(vm.1 hc).1;subst N;have:=hr 0 _ rfl;rw[kl,GB,Jv J];simpa [Ty.size] using this
   .rintro e j ⟨v',rfl,⟨hn,E⟩,D,B⟩
    rcases E with ⟨hz,_⟩|⟨g,u,A,rfl,p,V,C,a9,ab,K⟩
    .exact absurd hz D
    refine⟨_,rfl,B.os,B.tape,B.output,B.size,B.block,λb=>w.heap.size<=b/\b<j.heap.size,λb h=>.inr h,eP.2 ⟨_,u,rfl,C,Q,(λh=>by cases h),λi y H=>?_⟩⟩;have H:x[i]? = some y:=H;have J:i<x.length:=(aR.1 H).1;refine⟨g,0,[.int .u8 y],rfl,⟨p,(dy.1 V).1⟩,rfl,?_,vm.2 ⟨rfl,hx.2 y (jf H)⟩⟩;have F:=jm (w:=j) V i 1;have:(A.toList.drop i).take 1=[Value.int .u8 y]:=by
     have S:(A.toList.take (x.length*1))[i]? = some (Value.int .u8 y):=by
      rw[K,da,H];rfl
     rw[List.getElem?_take_of_lt (by omega)] at S;obtain⟨h6,h7⟩:=aR.1 S;rw[AX h6,h7];rfl
    rw[this] at F;simpa [Ty.size] using F
def Ea:aL.bp prog 35 asX:=by
 refine⟨λw I x j u i _=>?_,λ_ _=>rfl,⟨f35,func35,by kernel_rfl,by kernel_rfl⟩⟩;have⟨l⟩:=j;obtain⟨v,rfl,p⟩:∃v,l=[v]/\mO w I (.slice (.int .u8)) v x:=by
  have h:=i;exact h
 exact UC p
def auY(A:aS)(h:Int)(i:Int):LT Int Empty:=.br (A.bq h 0) (.ret 60)<|.br (A.bq i h) (.ret 60)<|.br (A.jr i 1099511627776) (.ret 60)<|.ret 0
def Kd:Span->Int:=λ(h,i)=>(auY af h i).val<|Ty.aO [yI]
def as4:aL:=.all [jV] [yI] Kd
def T6:Sd 259 as4:=fa<|aN ar dK sl 36 [] (λA (h,i)=>auY A h i)<|kz (fc func259 fz) sz
def t182(A:aS)(j:Int)(h:Int)(l:Int)(i:Int)(u:Int)(p:List Int):LT Int Empty:=.br (A.bq j<|-1) (.ret 110)<|.br (A.qE j 8) (.ret 110)<|.br (A.bq i 0) (.ret 110)<|.br (A.jr i 200) (.ret 110)<|.br (A.cm (A.k Kd (h,l)) 0) (.ret 110)<|.br (A.cm (A.k tV (u,p)) 0) (.ret 110)<|.ret 0
def YB:dx->Int:=λ(l,(h,i),j,u,p)=>(t182 af l h i j u p).val<|Ty.aO [yI]
def as1:aL:=.all [aY] [yI] YB
def ahL:Sd 298 as1:=fa<|aN ar dK sl 69 [] (λA (l,(h,i),j,u,p)=>t182 A l h i j u p)<|kz (fc func298 fz)<|sc JK<|sc T6 sz
def t171(A:aS)(p:Int)(h:Int)(i:Int)(l:Int)(j:Int)(u:List Int):LT Bool Empty:=.br (A.bG (A.k YB (p,(h,i),l,j,u)) 0) (.br (A.jr j 0) (.br (A.bQ j 4095) (.ret<|A.bG (A.b .sub .i64 i h)<|A.k nP j)<|.ret false)<|.ret false)<|.ret false
def Sy:dx->Bool:=λ(l,(h,i),j,u,p)=>(t171 af l h i j u p).val<|Ty.aO [.bool]
def asU:aL:=.all [aY] [.bool] Sy
def abj:Sd 257 asU:=fa<|aN ar dK sl 44 [] (λA (l,(h,i),j,u,p)=>t171 A l h i j u p)<|kz (fc func257 fz)<|sc O7<|sc ahL sz
abbrev abN:LT (dx×Int) Empty:=(.ret ((0,(0,0),0,0,([]:List Int)),110))
def auS(A:aS)(i:Int)(h:Int)(j:Int)(l:Int)(p:List Int):LT (dx×Int) Empty:=.br (A.bq h 0) (abN)<|.br (A.jr h 1099511627776) (abN)<|.br (A.not<|A.k Sy (i,(h,A.b .add .i64 h<|A.k nP l),j,l,p)) (abN)<|.ret ((i,(h,A.b .add .i64 h<|A.k nP l),j,l,A.k nQ p),0)
def Yx:(Int×Int×Int×Bits)->(dx×Int):=λ(h,j,i,p,l)=>(auS af h j i p l).val<|Ty.aO [aY,yI]
def asL:aL:=.all [yI,yI,yI,Pq] [aY,yI] Yx
def arc:Sd 262 asL:=fa<|aN ar dK sl 64 [] (λA (h,j,i,p,l)=>auS A h j i p l)<|kz (fc func262 fz)<|sc abj<|sc O7<|sc Ea sz
structure ais where(a0:List Int)(a1 a3:Int)
inductive ady where|c0(p:ais)(a2:Int)
noncomputable def ajC:ady->iF
 | .c0 p a2=>⟨[iN 272 19 [(0,.sl yI p.a0),(1,.fn 220 [] [pZ 0]),(7,vi p.a1),(8,vi a2)] f272 52,⟨219,9,.leaf,[.ops (ow f219 6)<|(ow f219 6).toList.drop 2,.code .ret],[],none⟩,⟨160,36,.leaf,[.ops (ow f160 30)<|(ow f160 30).toList.drop 3,.code .ret],[],none⟩],[vZ p.a3,.aU]⟩
def t168(A:aS)(B:Int)(D:Int)(E:Int)(l:Int)(u:Int)(p:Int)(C:List Bool)(v:List Mode)(i:Int)(j:Int)(h:List Int):LT Bool ady:=.br (A.bq i 0) (.ret false)<|.br (A.jr i 1099494850560) (.ret false)<|.br (A.bq j 0) (.ret false)<|.br (A.jr j 1048576) (.ret false)<|.br (A.jr (A.l h) 8) (.ret false)<|.ak<|.c0 ⟨h,A.l h,l⟩ 0
def aaK(A:aS):ady->LT Bool ady
 | .c0 p a2=>.br (A.bq a2 p.a1) (.ao (A.and (A.bQ 0 a2)<|A.bq a2<|A.l p.a0)<|.br (A.bq (A.n yI p.a0 a2:Int)<|A.u .neg .i64 p.a3) (.ret<|A.not<|A.qE a2 0)<|.br (A.jr (A.n yI p.a0 a2:Int) p.a3) (.ret<|A.not<|A.qE a2 0)<|.ak<|.c0 p<|A.b .add .i64 a2 1)<|.ret true
def X8(w x:Int):Bool:=!af.bq x (af.u .neg .i64 w) && !af.jr x w
def zf(w:Int)(c:rh):Bool:=!decide (c.1<0)&&(!decide (1099494850560<c.1)&&(!decide (c.2.1<0)&&(!decide (1048576<c.2.1)&&(!decide (8<(c.2.2.length:Int))&&c.2.2.all (X8 w)))))
def awD{l:List Int}{w:Int}(A:l.length<=140737488355328):∀(j i:Nat),l.length-i=j->i<=l.length->bi (aaK af) (.ak<|.c0 ⟨l,(l.length:Int),w⟩ i) ((l.drop i).all<|X8 w):=by
 intro j
 induction j with
 | zero=>
   intro i v u;have:i=l.length:=by omega
   subst this;rw[aI,aaK];refine(al (by rw[bR];simp)).2 ?_;rw[cZ];exact .ret _
 | succ j ih=>
   intro i v u;have h:i<l.length:=by omega
   rw[aI,aaK];refine(ap (by rw[bR];simp;omega)).2 (aA.2 ⟨dA h,?_⟩);rw[Z9 h,AX h,fT,X8];have p:af.not (af.qE i 0)=false:=by rw[ji,kQ];simp
   rw[p];cases af.bq l[i] (af.u .neg .i64 w)
   .refine(al rfl).2 ?_;cases af.jr l[i] w
    .refine(al rfl).2 ?_;rw[jN (i:=i)<|by omega];exact ih (i+1) (by omega) (by omega)
    .exact(ap rfl).2 (.ret _)
   .exact(ap rfl).2 (.ret _)
def awE{n s w u p j:Int}{i:List Bool}{h:List Mode}{l:List Int}(v:l.length<=140737488355328):bi (aaK af) (t168 af n s g w d u i h p j l)<|zf w (p,j,l):=by
 unfold t168 zf;simp only[eG,bl,gD];cases decide (p<0)
 .refine(al rfl).2 ?_;cases decide (1099494850560<p)
  .refine(al rfl).2 ?_;cases decide (j<0)
   .refine(al rfl).2 ?_;cases decide (1048576<j)
    .refine(al rfl).2 ?_;cases decide (8<(l.length:Int))
     .exact(al rfl).2 (awD v l.length 0 rfl<|by omega)
     .exact(ap rfl).2 (.ret _)
    .exact(ap rfl).2 (.ret _)
   .exact(ap rfl).2 (.ret _)
  .exact(ap rfl).2 (.ret _)
 .exact(ap rfl).2 (.ret _)
def aeL{n s w u p:Int}{l:List Int}(h:Ty.kS [aW,yA] ((n,s,g,w,d,v,j,i),u,p,l)):l.length<=140737488355328:=h.d
def XX(x:au×rh):Int:=bif df x.1 then(bif zf x.1.2.2.2.1 x.2 then 0 else 130) else 70
def Gb:(au×rh)->Bool:=λ(m,c)=>zf m.2.2.2.1 c
def asS:aL:=.all [aW,yA] [.bool] Gb
def abi:Sd 160 asS:=fa<|bE ar dK sl 95 [⟨272,2,[[0,1,7,8],[],[]]⟩] [] (λA ((B,F,H,i,u,l,E,v),j,D,C)=>t168 A B F H i u l E v j D C) aaK ajC (kz (fc func160 (fc func219 (fc func220 (fc func272 fz)))) sz) (λA y=>match y with |.c0 p a2=>⟨61,sl,by kernel_rfl⟩) λ((B,F,H,i,u,l,E,v),j,D,C) I h=>awE<|aeL h
def amP(A:aS)(p:Int)(v:Int)(B:Int)(h:Int)(j:Int)(i:Int)(u:List Bool)(l:List Mode)(C:Int)(E:Int)(D:List Int):LT Int Empty:=.br (A.cm (A.k iR (p,v,B,h,j,i,u,l)) 0) (.ret<|A.k iR (p,v,B,h,j,i,u,l))<|.br (A.not<|A.k Gb ((p,v,B,h,j,i,u,l),C,E,D)) (.ret 130)<|.ret 0
def wW:(au×rh)->Int:=λ((u,C,D,h,l,j,B,p),i,A,v)=>(amP af u C D h l j B p i A v).val<|Ty.aO [yI]
def asG:aL:=.all [aW,yA] [yI] wW
def T4:Sd 213 asG:=fa<|aN ar dK sl 40 [] (λA ((u,D,E,h,l,j,C,p),i,B,v)=>amP A u D E h l j C p i B v)<|kz (fc func213 fz)<|sc yd<|sc abi sz
def t148(A:aS)(v:Int)(E:Int)(j:Int)(l:Int)(p:Int)(i:Int)(D:List Bool)(u:List Mode)(h:Int)(C:Int)(B:List Int):LT Int Empty:=.ret<|A.b .add .i64 h<|A.b .add .i64 j i
def NV:(au×rh)->Int:=λ((u,C,D,h,l,j,B,p),i,A,v)=>(t148 af u C D h l j B p i A v).val<|Ty.aO [yI]
def asH:aL:=.all [aW,yA] [yI] NV
def ahG:Sd 214 asH:=fa<|aN ar dK sl 24 [] (λA ((u,D,E,h,l,j,C,p),i,B,v)=>t148 A u D E h l j C p i B v)<|kz (fc func214 fz) sz
def t116(A:aS)(u:Int)(D:Int)(E:Int)(h:Int)(l:Int)(j:Int)(C:List Bool)(p:List Mode)(i:Int)(B:Int)(v:List Int):LT (Span×Int) Empty:=.br (A.cm (A.k wW ((u,D,E,h,l,j,C,p),i,B,v)) 0) (.ret ((0,0),A.k wW ((u,D,E,h,l,j,C,p),i,B,v)))<|.ret ((A.mx (A.b .sub .i64 (A.k NV ((u,D,E,h,l,j,C,p),i,B,v)) h) 0,A.b .add .i64 (A.b .add .i64 (A.k NV ((u,D,E,h,l,j,C,p),i,B,v)) h) 1),0)
def xJ:(au×rh)->(Span×Int):=λ((u,C,D,h,l,j,B,p),i,A,v)=>(t116 af u C D h l j B p i A v).val<|Ty.aO [jV,yI]
def ast:aL:=.all [aW,yA] [jV,yI] xJ
def abe:Sd 153 ast:=fa<|aN ar dK sl 52 [] (λA ((u,D,E,h,l,j,C,p),i,B,v)=>t116 A u D E h l j C p i B v)<|kz (fc func153 fz)<|sc T4<|sc ahG sz
def Yw{m:au}{c:rh}:wW (m,c)=XX (m,c):=by
 have⟨n,s,g,w,d,u,i,h⟩:=m;have⟨p,j,l⟩:=c;simp only[wW,amP,LT.val,bZ,sZ,nh,XX,ji];rw[show Gb ((n,s,g,w,d,u,i,h),p,j,l)=zf w (p,j,l) from rfl];cases df (n,s,g,w,d,u,i,h)<;>cases zf w (p,j,l)<;>rfl
def wrap_i64(n:Int):IntKind.i64.wrap n=if n%18446744073709551616 >= 9223372036854775808 then n%18446744073709551616-18446744073709551616 else n%18446744073709551616:=by
 simp[IntKind.wrap,IntKind.signed,IntKind.bits]
theorem ZN{n s w l:Int}(h:df (n,s,g,w,d,l,j,i)=true):(4<=n/\n<=8)/\((1:Int)<=i.length/\(i.length:Int)<=4)/\(j.length:Int)=n/\i.all (pM (n,s,g,w,d,l,j,i))=true/\(0<=d/\d<=64/\0<=l/\l<=64/\16<=w/\w<=1048576/\36<=g/\g<=1048576/\72<=s/\s<=16777216):=by
 simp[df,countB,vK,qU,eH,tP] at h;have⟨⟨⟨⟨⟨p,u⟩,v⟩,_⟩,A⟩,B⟩:=h;have:=y8 p (d:=d) (by omega);have C:=sI (m:=(n,s,g,w,d,l,j,i))
 grind
theorem aeD{b:Int×List Int}(h:(uf b).2=true):Ae (uf b).1=true:=by
 rw[uf] at h ⊢;cases hp:((wv (b,zS)).2 != 0||(wv (b,zS)).1.1==2)
 .rw[Bool.or_eq_false_iff] at hp;have i:(wv (b,zS)).2=0:=by simp_all
  exact afk i
 simp_all
theorem Y3{f:vP}(h:Ae f=true):0<=f.2.2.2.1/\f.2.2.2.1<=7/\0<=f.2.2.1.2.1/\f.2.2.1.2.1<=7:=by
 simp[Ae,eH] at h;have i:=abI.1 h.1.1.1
 grind
def amM(A:aS)(l:Int)(D:Int)(E:Int)(p:Int)(v:Int)(u:Int)(C:List Bool)(B:List Mode)(j:Bool)(h:Int)(i:Int):LT Bool Empty:=.br (A.bq i 0) (.ret false)<|.br (A.qE i l) (.ret false)<|.br (A.bq h 0) (.ret false)<|.br (A.jr h 1099494850560) (.ret false)<|.br (A.not j) (.br (A.not<|A.and (A.q j false)<|A.and (A.bG h 0)<|A.and (A.bG i 0) true) (.ret false)<|.ret true)<|.ret true
def k_:(au×rN)->Bool:=λ((u,B,D,h,l,j,A,p),v,i,C)=>(amM af u B D h l j A p v i C).val<|Ty.aO [.bool]
def asv:aL:=.all [aW,d_] [.bool] k_
def abf:Sd 207 asv:=fa<|aN ar dK sl 70 [] (λA ((u,C,E,h,l,j,B,p),v,i,D)=>amM A u C E h l j B p v i D)<|kz (fc func207 fz) sz
def t71(A:aS)(p:Int)(v:Int)(B:Int)(h:Int)(j:Int)(i:Int)(u:List Bool)(l:List Mode)(D:Bool)(C:Int)(E:Int):LT Int Empty:=.br (A.cm (A.k iR (p,v,B,h,j,i,u,l)) 0) (.ret<|A.k iR (p,v,B,h,j,i,u,l))<|.br (A.not<|A.k k_ ((p,v,B,h,j,i,u,l),D,C,E)) (.ret 210)<|.ret 0
def LC:(au×rN)->Int:=λ((u,B,D,h,l,j,A,p),v,i,C)=>(t71 af u B D h l j A p v i C).val<|Ty.aO [yI]
def axt:aL:=.all [aW,d_] [yI] LC
def ams:Sd 212 axt:=fa<|aN ar dK sl 40 [] (λA ((u,C,E,h,l,j,B,p),v,i,D)=>t71 A u C E h l j B p v i D)<|kz (fc func212 fz)<|sc abf<|sc yd sz
def t66(A:aS)(u:Int)(B:Int)(D:Int)(h:Int)(l:Int)(j:Int)(v:List Bool)(p:List Mode)(C:Bool)(i:Int)(E:Int):LT (Span×Int) Empty:=.br (A.cm (A.k LC ((u,B,D,h,l,j,v,p),C,i,E)) 0) (.ret ((0,0),A.k LC ((u,B,D,h,l,j,v,p),C,i,E)))<|.ret<|A.k xJ ((u,B,D,h,l,j,v,p),i,0,([]:List Int))
def Es:(au×rN)->(Span×Int):=λ((u,B,D,h,l,j,A,p),v,i,C)=>(t66 af u B D h l j A p v i C).val<|Ty.aO [jV,yI]
def axs:aL:=.all [aW,d_] [jV,yI] Es
def amr:Sd 204 axs:=fa<|aN ar dK sl 40 [] (λA ((u,C,E,h,l,j,B,p),v,i,D)=>t66 A u C E h l j B p v i D)<|kz (fc func204 fz)<|sc ams<|sc abe sz
def t72(A:aS)(l:Int)(j:Int)(E:Int)(p:Int)(v:Int)(u:Int)(D:List Bool)(B:List Mode)(i:Bool)(h:Int)(C:Int):LT (rN×Int) Empty:=.br (A.cm (A.k LC ((l,j,E,p,v,u,D,B),i,h,C)) 0) (.ret ((false,0,0),A.k LC ((l,j,E,p,v,u,D,B),i,h,C)))<|.br (A.not i) (.ret ((i,h,C),0))<|.br (A.bG (A.b .add .i64 C 1) l) (.br (A.not<|A.k k_ ((l,j,E,p,v,u,D,B),i,A.b .add .i64 h j,0)) (.ret ((false,0,0),210))<|.ret ((i,A.b .add .i64 h j,0),0))<|.br (A.not<|A.k k_ ((l,j,E,p,v,u,D,B),i,A.b .add .i64 h j,A.b .add .i64 C 1)) (.ret ((false,0,0),210))<|.ret ((i,A.b .add .i64 h j,A.b .add .i64 C 1),0)
def Gl:(au×rN)->(rN×Int):=λ((u,B,D,h,l,j,A,p),v,i,C)=>(t72 af u B D h l j A p v i C).val<|Ty.aO [d_,yI]
def axu:aL:=.all [aW,d_] [d_,yI] Gl
def asd:Sd 149 axu:=fa<|aN ar dK sl 85 [] (λA ((u,C,E,h,l,j,B,p),v,i,D)=>t72 A u C E h l j B p v i D)<|kz (fc func149 fz)<|sc ams<|sc abf sz
def auZ(A:aS)(u:Int)(D:Int)(C:Int)(j:Int)(l:Int)(i:Int)(B:List Bool)(p:List Mode)(v:Bool)(h:Int)(E:Int):LT (Int×Int) Empty:=.br (A.cm (A.k LC ((u,D,C,j,l,i,B,p),v,h,E)) 0) (.ret (0,A.k LC ((u,D,C,j,l,i,B,p),v,h,E)))<|.ret (A.b .add .i64 h<|A.b .add .i64 C i,0)
def N1:(au×rN)->(Int×Int):=λ((u,B,D,h,l,j,A,p),v,i,C)=>(auZ af u B D h l j A p v i C).val<|Ty.aO [yI,yI]
def as5:aL:=.all [aW,d_] [yI,yI] N1
def ahO:Sd 209 as5:=fa<|aN ar dK sl 41 [] (λA ((u,C,E,h,l,j,B,p),v,i,D)=>auZ A u C E h l j B p v i D)<|kz (fc func209 fz)<|sc ams sz
def t152(A:aS)(i:Int)(h:List Int):LT (Int×Bool) Empty:=.br (A.not (A.k Gg (i,h)).2) (.ret (-1,false))<|.br (A.bG (A.k Gg (i,h)).1.1 1) (.ret ((A.k Gg (i,h)).1.2.2.2.1,true))<|.ret ((A.k Gg (i,h)).1.2.2.1.2.1,false)
def NZ:Bits->(Int×Bool):=λ(i,h)=>(t152 af i h).val<|Ty.aO [yI,.bool]
def asK:aL:=.all [Pq] [yI,.bool] NZ
def ahJ:Sd 261 asK:=fa<|aN ar dK sl 50 [] (λA (i,h)=>t152 A i h)<|kz (fc func261 fz)<|sc arR sz
def auU(A:aS)(h:Int)(B:Int)(C:Int)(i:Int)(p:Int)(l:Int)(v:List Bool)(u:List Mode)(j:Int)(E:Int)(D:List Int):LT Bool Empty:=.br (A.cm (A.k iR (h,B,C,i,p,l,v,u)) 0) (.ret false)<|.br (A.bq j 0) (.ret false)<|.br (A.qE j h) (.ret false)<|.br (A.cm (A.k tV (E,D)) 0) (.ret false)<|.br (A.bq (A.k NZ (E,D)).1 0) (.ret true)<|.ret<|A.bG (A.k NZ (E,D)).1 j
def ag0:(au×Int×Bits)->Bool:=λ((p,v,A,h,j,i,u,l),B,D,C)=>(auU af p v A h j i u l B D C).val<|Ty.aO [.bool]
def asV:aL:=.all [aW,yI,Pq] [.bool] ag0
def ari:Sd 300 asV:=fa<|aN ar dK sl 57 [] (λA ((p,v,B,h,j,i,u,l),C,E,D)=>auU A p v B h j i u l C E D)<|kz (fc func300 fz)<|sc JK<|sc yd<|sc ahJ sz
def auR(A:aS)(C:Int)(E:Int)(F:Int)(j:Int)(v:Int)(u:Int)(D:List Bool)(B:List Mode)(l:Int)(h:Int)(p:Int)(i:Int)(I:Int)(H:List Int):LT Bool Empty:=.br (A.k Sy (l,(h,p),i,I,H)) (.br (A.qE i 40) (.ret<|A.k ag0 ((C,E,F,j,v,u,D,B),l,I,H))<|.ret false)<|.ret false
def NY:(au×dx)->Bool:=λ((v,C,E,i,p,l,B,u),D,(h,j),A,H,F)=>(auR af v C E i p l B u D h j A H F).val<|Ty.aO [.bool]
def asJ:aL:=.all [aW,aY] [.bool] NY
def ahI:Sd 260 asJ:=fa<|aN ar dK sl 31 [] (λA ((v,D,F,i,p,l,C,u),E,(h,j),B,I,H)=>auR A v D F i p l C u E h j B I H)<|kz (fc func260 fz)<|sc abj<|sc ari sz
def auO(A:aS)(F:Int)(K:Int)(l:Int)(u:Int)(D:Int)(i:Int)(J:List Bool)(E:List Mode)(I:Bool)(h:Int)(N:Int)(j:Int)(p:Int)(C:Int)(H:Int)(B:Int)(v:List Int):LT (dx×Bool) Empty:=.ret ((A.k Yx (j,A.b .add .i64 h<|A.b .add .i64 l i,100,B,v)).1,A.bG (A.k Yx (j,A.b .add .i64 h<|A.b .add .i64 l i,100,B,v)).2 0)
def NT:(au×rN×dx)->(dx×Bool):=λ((A,E,I,i,u,p,D,v),(C,l,H),F,(h,j),B,K,J)=>(auO af A E I i u p D v C l H F h j B K J).val<|Ty.aO [aY,.bool]
def asw:aL:=.all [aW,d_,aY] [aY,.bool] NT
def aq8:Sd 208 asw:=fa<|aN ar dK sl 44 [] (λA ((B,F,J,i,u,p,E,v),(D,l,I),H,(h,j),C,N,K)=>auO A B F J i u p E v D l I H h j C N K)<|kz (fc func208 fz)<|sc arc sz
abbrev eqB(b:Bool):Prop:=b=b
section
variable {R Y:Type} {step:Y->LT R Y} {t:LT R Y} {r:R}
end
theorem FJ{b:Bool}{x y:α}(h:b=false):y=bif b then x else y:=by simp_all
theorem FE[Decidable p]{b:Bool}(h:¬p):(decide p&&b)=false:=by simp_all
theorem lZ[Decidable p]{b:Bool}(h:p):(decide p&&b)=b:=by simp_all
def au2(A:aS)(n:Int)(h:Int)(i:Int):LT Bool Empty:=.br (A.qE n h) (.ret<|A.bQ n i)<|.ret false
def vv:(Int×Int×Int)->Bool:=λ(n,h,i)=>(au2 af n h i).val<|Ty.aO [.bool]
def atC:aL:=.all [yI,yI,yI] [.bool] vv
def O8:Sd 131 atC:=fa<|aN ar dK sl 22 [] (λA (n,h,i)=>au2 A n h i)<|kz (fc func131 fz) sz
structure aiE where(a0:List gY)(a1:Int)(a3:Bool)
inductive adF where|c0(p:aiE)(a2:Int)
noncomputable def ajK:adF->iF
 | .c0 p a2=>⟨[iN 247 19 [(0,.sl lg p.a0),(1,.fn 193 [] []),(7,vi p.a1),(8,vi a2)] f247 52,⟨194,9,.leaf,[.ops (ow f194 6)<|(ow f194 6).toList.drop 2,.code .ret],[],none⟩,Jr 133 43 [(37,vb p.a3)] f133 28 37],[.aU]⟩
def am6(A:aS)(c:jo):LT Int adF:=.br (A.not<|A.k vv (A.l c.2.2.1,4,8)) (.ret 120)<|.br (A.not<|A.k vv (c.1,0,A.b .sub .i64 (A.l c.2.2.1) 1)) (.ret 120)<|.br (A.jr (A.l c.2.1) 8) (.ret 120)<|.br (A.not<|A.k vv (c.2.2.2.1,0,4)) (.ret 120)<|.br (A.not<|A.k vv (c.2.2.2.2,-1,3)) (.ret 120)<|.ak<|.c0 ⟨c.2.2.1,A.l c.2.2.1,false⟩ 0
def aaM(A:aS):adF->LT Int adF
 | .c0 p a2=>.br (A.bq a2 p.a1) (.ao (A.and (A.bQ 0 a2)<|A.bq a2<|A.l p.a0)<|.br (A.jr (A.l (A.n lg p.a0 a2:gY).1) 8) (.br p.a3 (.ret 120)<|.br (A.qE a2 0) (.ret 120)<|.ret 0)<|.br (A.not<|A.k vv ((A.n lg p.a0 a2:gY).2,0,255)) (.br p.a3 (.ret 120)<|.br (A.qE a2 0) (.ret 120)<|.ret 0)<|.ak<|.c0 p<|A.b .add .i64 a2 1)<|.br p.a3 (.ret 120)<|.ret 0
def av0:vv=lK:=rfl
def Oz(m:gY):Bool:=decide (¬8<(m.1.length:Int))&&decide (0<=m.2/\m.2<=255)
def ja(c:jo):Bool:=decide (4<=(c.2.2.1.length:Int)/\(c.2.2.1.length:Int)<=8)&&(decide (0<=c.1/\c.1<=(c.2.2.1.length:Int)-1)&&(decide (¬8<(c.2.1.length:Int))&&(decide (0<=c.2.2.2.1/\c.2.2.2.1<=4)&&(decide (-1<=c.2.2.2.2/\c.2.2.2.2<=3)&&c.2.2.1.all Oz))))
def z7(c:jo):Int:=bif ja c then 0 else 120
variable{c:jo}
theorem J9:z7 c=0↔ja c=true:=by unfold z7;grind
theorem awM{l:List gY}(D:l.length<=140737488355328):∀(j i:Nat),l.length-i=j->i<=l.length->bi (aaM af) (.ak<|.c0 ⟨l,(l.length:Int),false⟩ i) (bif (l.drop i).all Oz then 0 else 120):=by
 intro j
 induction j with
 | zero=>
   intro i C B;have:i=l.length:=by omega
   subst this;rw[aI,aaM];refine(al (by rw[bR];simp)).2 ((al rfl).2 ?_);rw[cZ];exact .ret _
 | succ j ih=>
   intro i C B;have u:i<l.length:=by omega
   rw[aI,aaM];refine(ap (by rw[bR];simp_all)).2 (aA.2 ⟨dA u,?_⟩);rw[show(af.n lg l (i:Int):gY)=l[i] from fF u _,AX u,fT,Oz,av0];refine aX (p:=8<(l[i].1.length:Int)) rfl (λh=>?_) λv=>kM (λh=>?_) λA=>?_
   .rw[fQ<|show ¬¬8<(l[i].1.length:Int) by omega];exact(al rfl).2 ((ap<|by rfl).2<|.ret _)
   .rw[fQ h,cq];exact(al rfl).2 ((ap<|by rfl).2<|.ret _)
   .rw[bX v,bX A,jN (i:=i)<|by omega]
    grind
def aeM(h:Ty.has tL c):c.2.1.length<=140737488355328/\c.2.2.1.length<=140737488355328/\∀x∈c.2.2.1,x.1.length<=140737488355328:=by
 have⟨_,j,i,_⟩:=h;exact⟨j.1,i.1,λx l=>(i.2 x l).1.1⟩
def awn(h:Ty.has tL c):bi (aaM af) (am6 af c)<|z7 c:=by
 have A:=(aeM h).2.1;unfold am6 z7;simp only[eG];have B:af.b .sub .i64 (c.2.2.1.length:Int) 1=(c.2.2.1.length:Int)-1:=by rw[ia,my (by omega)<|by omega]
 rw[B];refine kM (λh=>?_) λi=>kM (λh=>?_) λj=>aX (p:=8<(c.2.1.length:Int)) rfl (λh=>?_) λl=>kM (λh=>?_) λu=>kM (λh=>?_) λv=>?_
 .exact aT (FJ<|by rw[ja,FE h])<|.ret _
 .exact aT (FJ<|by rw[ja,lZ i,FE h])<|.ret _
 .exact aT (FJ<|by rw[ja,lZ i,lZ j,FE<|λk=>k h])<|.ret _
 .exact aT (FJ<|by rw[ja,lZ i,lZ j,lZ l,FE h])<|.ret _
 .exact aT (FJ<|by rw[ja,lZ i,lZ j,lZ l,lZ u,FE h])<|.ret _
 .rw[ja,lZ i,lZ j,lZ l,lZ u,lZ v];exact awM A c.2.2.1.length 0 rfl (by omega)
def rD:jo->Int:=z7
def atj:aL:=.all [tL] [yI] rD
def KV:Sd 133 atj:=fa<|bE ar dK sl 78 [⟨247,2,[[0,1,7,8],[],[37]]⟩] [] (λA c=>am6 A c) aaM ajK (kz (fc func133 (fc func193 (fc func194 (fc func247 fz)))) (sc O8 sz)) (λA y=>match y with |.c0 p a2=>⟨68,sl,by kernel_rfl⟩) λc i h=>awn h
structure aiM where(a0:Int)(a2:jo)(a3 a4 a5:Int)
inductive Xw where|c0(p:aiM)(a1:Int)(a6:List gY)
noncomputable def ajQ:Xw->iF
 | .c0 p a1 h=>⟨[iN 137 44 [(1,pZ 0),(2,pZ 1),(5,.own 2),(22,vi p.a0),(23,vi a1)] f137 500],[dZ tL p.a2,gZ [vi p.a3,.eT true,.eT true,vi p.a4,vi p.a5],aZ lg h,.aU]⟩
abbrev abX(A:aS)(c:jo):=(A.spl (A.r (A.l c.2.2.1) (Ty.gH lg:gY)) 0<|A.s c.2.2.1 0<|A.mn (A.l c.2.2.1)<|A.l<|A.r (A.l c.2.2.1) (Ty.gH lg:gY))
def anl(A:aS)(c:jo):LT (jo×Int) Xw:=.br (A.cm (A.k rD c) 0) (.ret ((0,([]:List Int),([]:List gY),0,0),A.k rD c))<|.ao (A.and (A.bG (A.l c.2.2.1)<|A.l c.2.2.1)<|A.and (A.bQ 0<|A.l c.2.2.1)<|A.bQ (A.l c.2.2.1) 4398046511104)<|.ak<|.c0 ⟨A.l<|abX A c,c,0,0,0⟩ 0<|abX A c
def aaO(A:aS):Xw->LT (jo×Int) Xw
 | .c0 p a1 h=>.br (A.bq a1 p.a0) (.ao (A.and (A.bQ 0 a1)<|A.bq a1<|A.l h)<|.ao (A.and (A.bQ 0 a1)<|A.bq a1<|A.l h)<|.ak<|.c0 p (A.b .add .i64 a1 1)<|A.set h a1 (A.k nQ (A.n lg h a1:gY).1,(A.n lg h a1:gY).2))<|.ret ((p.a2.1,A.k nQ p.a2.2.1,h,p.a2.2.2.2),0)
def EV:jo:=(0,([]:List Int),([]:List gY),0,0)
def L3(c:jo):jo×Int:=bif ja c then(c,0) else(EV,120)
theorem awO{L B C D:Int}{l:List gY}(E:l.length<=140737488355328)(u:L=(l.length:Int)):∀(j i:Nat),l.length-i=j->i<=l.length->bi (aaO af) (.ak<|.c0 ⟨L,c,B,C,D⟩ i l) ((c.1,c.2.1,l,c.2.2.2),0):=by
 subst u;intro j
 induction j with
 | zero=>
   intro i A v;have:i=l.length:=by omega
   subst this;rw[aI,aaO];exact(al (by rw[bR];simp)).2 (.ret _)
 | succ j ih=>
   intro i A v;have h:i<l.length:=by omega
   rw[aI,aaO];refine(ap (by rw[bR];simp_all)).2 (aA.2 ⟨dA h,aA.2 ⟨dA h,?_⟩⟩);have e:(af.n lg l (i:Int):gY)=l[i]:=fF h _;have p:af.set l i (af.k nQ (af.n lg l (i:Int):gY).1,(af.n lg l (i:Int):gY).2)=l:=by
    rw[e];show l.set (i:Int).toNat l[i]=l
    simp_all
   rw[p,jN (i:=i)<|by omega]
   grind
def MU{l:List α}{d:α}:af.spl (af.r (af.l l) d) 0 (af.s l 0<|af.mn (af.l l)<|af.l<|af.r (af.l l) d)=l:=by
 simp[oQ,uL,jU,n_,eG]
theorem aqB:bi (aaO af) (anl af c)<|L3 c:=by
 unfold anl abX L3;rw[show af.k rD c=z7 c from rfl,z7];cases hc:ja c
 .exact(ap rfl).2 (.ret _)
 .refine(al rfl).2 ?_;simp[ja,eH,tP] at hc;have h:af.and (af.bG (af.l c.c)<|af.l c.c) (af.and (af.bQ 0<|af.l c.c)<|af.bQ (af.l c.c) 4398046511104)=true:=by
   rw[eG,bf,ax,ax,bF,bF];grind
  refine aA.2 ⟨h,?_⟩;exact u7 (congrArg (λz:List gY=>LT.ak<|Xw.c0 ⟨af.l z,c,0,0,0⟩ 0 z) MU)<|awO (by omega) rfl c.c.length 0 rfl (by omega)
def ov:jo->(jo×Int):=L3
def atE:aL:=.all [tL] [tL,yI] ov
def abm:Sd 137 atE:=fa<|bE ar dK sl 50 [⟨137,7,[[1,2,5,22,23]]⟩] [] (λA c=>anl A c) aaO ajQ (kz (fc func137 fz) (sc Ea (sc KV sz))) (λA y=>match y with |.c0 p a1 i=>⟨38,sl,by kernel_rfl⟩) λc j h=>aqB
def dq{a b:Int}:af.bG a b=decide (a=b):=by rfl
structure aiL where(a0 a2:Int)(a3:List Int)(a4:jo)(a5 a6 a7:Int)(a9:jo)(mA pH a12:Int)
inductive Xv where|c0(p:aiL)(a1:Int)(a8:List gY)
noncomputable def ajO:Xv->iF
 | .c0 p a1 a8=>⟨[iN 137 44 [(1,pZ 0),(2,pZ 1),(5,.own 2),(22,vi p.a0),(23,vi a1)] f137 500,Jr 199 42 [(1,vi p.a2),(2,.sl yU p.a3),(3,pZ 3),(6,pZ 4)] f199 6 1],[dZ tL p.a4,gZ [vi p.a5,.eT true,.eT true,vi p.a6,vi p.a7],aZ lg a8,dZ tL p.a9,gZ [vi p.mA,.eT true,.eT true,vi p.pH,vi p.a12],.aU]⟩
abbrev abW(A:aS)(c:jo):=(A.spl (A.r (A.l c.2.2.1) (Ty.gH lg:gY)) 0<|A.s c.2.2.1 0<|A.mn (A.l c.2.2.1)<|A.l<|A.r (A.l c.2.2.1) (Ty.gH lg:gY))
def anj(A:aS)(c:jo)(i:Int)(h:List Int):LT (jo×Int) Xv:=.br (A.cm (A.k rD c) 0) (.br (A.cm (A.k rD c) 0) (.ret ((0,([]:List Int),([]:List gY),0,0),A.k rD c))<|.br (A.not<|A.k vv (i,0,A.b .sub .i64 (A.l c.2.2.1) 1)) (.ret ((0,([]:List Int),([]:List gY),0,0),2))<|.br (A.jr (A.l h) 8) (.ret ((0,([]:List Int),([]:List gY),0,0),3))<|.bU 37 "cni.go:107")<|.ao (A.and (A.bG (A.l c.2.2.1)<|A.l c.2.2.1)<|A.and (A.bQ 0<|A.l c.2.2.1)<|A.bQ (A.l c.2.2.1) 4398046511104)<|.ak<|.c0 ⟨A.l<|abW A c,i,h,c,0,0,0,c,0,0,0⟩ 0<|abW A c
def Vo(A:aS):Xv->LT (jo×Int) Xv
 | .c0 p a1 a8=>.br (A.bq a1 p.a0) (.ao (A.and (A.bQ 0 a1)<|A.bq a1<|A.l a8)<|.ao (A.and (A.bQ 0 a1)<|A.bq a1<|A.l a8)<|.ak<|.c0 p (A.b .add .i64 a1 1)<|A.set a8 a1 (A.k nQ (A.n lg a8 a1:gY).1,(A.n lg a8 a1:gY).2))<|.br (A.not<|A.k vv (p.a2,0,A.b .sub .i64 (A.l p.a9.2.2.1) 1)) (.ret ((0,([]:List Int),([]:List gY),0,0),2))<|.br (A.jr (A.l p.a3) 8) (.ret ((0,([]:List Int),([]:List gY),0,0),3))<|.ao (A.and (A.bQ 0 p.a2)<|A.bq p.a2<|A.l a8)<|.ret ((p.a4.1,A.k nQ p.a4.2.1,A.set a8 p.a2 (A.k nQ p.a3,0),p.a4.2.2.2),0)
def sS(c:jo)(h:Int)(i:List Int):jo×Int:=
 bif ja c then(bif decide (0<=h/\h<=(c.2.2.1.length:Int)-1) then(bif decide (8<(i.length:Int)) then(EV,3) else((c.1,c.2.1,c.2.2.1.set h.toNat (i,0),c.2.2.2),0)) else(EV,2)) else(EV,120)
def awr:jo×Int×List Int->jo×Int:=λ(c,i,h)=>sS c i h
theorem Lh(h:ja c=true):4<=c.2.2.1.length/\c.2.2.1.length<=8/\c.2.1.length<=8/\∀x∈c.2.2.1,x.1.length<=8/\0<=x.2/\x.2<=255:=by
 simp[ja,eH,cv,Oz] at h
 grind
theorem OG(h:ja c=true):af.and (af.bG (af.l c.2.2.1)<|af.l c.2.2.1) (af.and (af.bQ 0<|af.l c.2.2.1)<|af.bQ (af.l c.2.2.1) 4398046511104)=true:=by
 have:=Lh h;rw[eG,bf,ax,ax,bF,bF];grind
theorem O2{l:List gY}{i:Nat}(h:i<l.length):af.set l i (af.k nQ (af.n lg l (i:Int):gY).1,(af.n lg l (i:Int):gY).2)=l:=by
 rw[show(af.n lg l (i:Int):gY)=l[i] from fF h _];show l.set (i:Int).toNat l[i]=l
 simp_all
theorem awp{L l u A B C D:Int}{R:jo×Int}(J:c.2.2.1.length<=8)(E:L=(c.2.2.1.length:Int))(F:bi (Vo af) (.ak<|.c0 ⟨L,l,h,c,u,v,A,c,B,C,D⟩ (c.2.2.1.length:Int) c.2.2.1) R):
  ∀(j i:Nat),c.2.2.1.length-i=j->i<=c.2.2.1.length->bi (Vo af) (.ak<|.c0 ⟨L,l,h,c,u,v,A,c,B,C,D⟩ i c.2.2.1) R:=by
 subst E;intro j
 induction j with
 | zero=>
   grind
 | succ j ih=>
   intro i I H;have p:i<c.2.2.1.length:=by omega
   rw[aI,Vo];refine(ap (by rw[bR];simp_all)).2 (aA.2 ⟨dA p,aA.2 ⟨dA p,?_⟩⟩);rw[O2 p,jN (i:=i)<|by omega]
   grind
theorem awq{j:Int}{i:List Int}:bi (Vo af) (anj af c j i)<|sS c j i:=by
 unfold anj abW sS;rw[show af.k rD c=z7 c from rfl,z7];cases hc:ja c
 .exact(ap rfl).2 ((ap rfl).2<|.ret _)
 .have⟨B,u,_,_⟩:=Lh hc;refine(al rfl).2 (aA.2 ⟨OG hc,u7 (congrArg (λz:List gY=>LT.ak<|Xv.c0 ⟨af.l z,j,i,c,0,0,0,c,0,0,0⟩ 0 z) MU)<|awp u rfl ?_ c.2.2.1.length 0 rfl<|by omega⟩);rw[aI,Vo];have A:af.b .sub .i64 (c.2.2.1.length:Int) 1=(c.2.2.1.length:Int)-1:=by rw[ia,my (by omega)<|by omega]
  refine(al (by rw[bR];simp)).2 (?_);simp only[eG,A];refine kM (λh=>?_) λl=>aX (p:=8<(i.length:Int)) rfl (λh=>?_) λv=>aA.2 ⟨?_,?_⟩
  .rw[fQ h];exact .ret _
  .rw[bX l,bX h];exact .ret _
  .rw[ax,bl,bF];grind
  .rw[bX l,fQ v];exact .ret _
def Gf:(jo×Int×List Int)->(jo×Int):=awr
def atA:aL:=.all [tL,yI,yB] [tL,yI] Gf
def ahS:Sd 199 atA:=fa<|bE ar dK sl 89 [⟨137,7,[[1,2,5,22,23],[1,2,3,6]]⟩] [] (λA (c,j,i)=>anj A c j i) Vo ajO (kz (fc func199 (fc func137 fz)) (sc Ea (sc KV (sc O8 sz)))) (λA y=>match y with |.c0 p a1 l=>⟨86,sl,by kernel_rfl⟩) λ(c,j,i) u h=>awq
structure aiF where(a0 a1 a2 a3 a4 a5 a6 a7:Int)
structure aiG where(b0:Int)(b2:jo)(b3 b4 b5 b7 b8 b9:Int)
structure aiH where(c0 c2 c3 c4 c5:Int)(c6:List Int)(c7 c8:Int)
inductive Xu where|c0(p:aiF)|c1(p:aiG)(b1:Int)(b6:List gY)|c2(p:aiH)(c1:Int)(c9:List gY)
noncomputable def ajL:Xu->iF
 | .c0 p=>⟨[iN 157 42 [(2,pZ 0),(4,pZ 1),(18,vi p.a0),(19,vi p.a1)] f157 244],[gZ [vi p.a2,.eT true,.eT true,vi p.a3,vi p.a4],gZ [vi p.a5,.eT true,.eT true,vi p.a6,vi p.a7],.aU]⟩
 | .c1 p b1 h=>⟨[iN 137 44 [(1,pZ 0),(2,pZ 1),(5,.own 2),(22,vi p.b0),(23,vi b1)] f137 500,Jr 157 42 [(2,pZ 3)] f157 6 1],[dZ tL p.b2,gZ [vi p.b3,.eT true,.eT true,vi p.b4,vi p.b5],aZ lg h,gZ [vi p.b7,.eT true,.eT true,vi p.b8,vi p.b9],.aU]⟩
 | .c2 p c1 c9=>⟨[iN 157 42 [(2,pZ 0),(4,pZ 1),(18,vi p.c0),(19,vi c1)] f157 244],[gZ [vi p.c2,.eT true,.eT true,vi p.c3,vi p.c4],gZ [vi p.c5,.sl yU p.c6,.own 2,vi p.c7,vi p.c8],aZ lg c9,.aU]⟩
abbrev abV(A:aS)(c:jo):=(A.spl (A.r (A.l c.2.2.1) (Ty.gH lg:gY)) 0<|A.s c.2.2.1 0<|A.mn (A.l c.2.2.1)<|A.l<|A.r (A.l c.2.2.1) (Ty.gH lg:gY))
def ang(A:aS)(c:jo):LT (jo×Int) Xu:=.br (A.cm (A.k rD c) 0) (.br (A.cm (A.k rD c) 0) (.ret ((0,([]:List Int),([]:List gY),0,0),A.k rD c))<|.ak<|.c0 ⟨0,0,0,0,0,0,0,0⟩)<|.ao (A.and (A.bG (A.l c.2.2.1)<|A.l c.2.2.1)<|A.and (A.bQ 0<|A.l c.2.2.1)<|A.bQ (A.l c.2.2.1) 4398046511104)<|.ak<|.c1 ⟨A.l<|abV A c,c,0,0,0,0,0,0⟩ 0<|abV A c
def MF(A:aS):Xu->LT (jo×Int) Xu
 | .c0 p=>.br (A.bq p.a1 p.a0) (.bU 37 "cni.go:118")<|.ret ((p.a5,([]:List Int),([]:List gY),A.mx (A.b .sub .i64 p.a6 1) 0,p.a7),0)
 | .c1 p b1 h=>.br (A.bq b1 p.b0) (.ao (A.and (A.bQ 0 b1)<|A.bq b1<|A.l h)<|.ao (A.and (A.bQ 0 b1)<|A.bq b1<|A.l h)<|.ak<|.c1 p (A.b .add .i64 b1 1)<|A.set h b1 (A.k nQ (A.n lg h b1:gY).1,(A.n lg h b1:gY).2))<|.ak<|.c2 ⟨A.l h,p.b7,p.b8,p.b9,p.b2.1,A.k nQ p.b2.2.1,p.b2.2.2.2.1,p.b2.2.2.2.2⟩ 0 h
 | .c2 p c1 c9=>.br (A.bq c1 p.c0) (.ao (A.and (A.bQ 0 c1)<|A.bq c1<|A.l c9)<|.ao (A.and (A.bQ 0 c1)<|A.bq c1<|A.l c9)<|.ak<|.c2 p (A.b .add .i64 c1 1)<|A.set c9 c1 ((A.n lg c9 c1:gY).1,A.mn (A.b .add .i64 (A.n lg c9 c1:gY).2 1) 255))<|.ret ((p.c5,p.c6,c9,A.mx (A.b .sub .i64 p.c7 1) 0,p.c8),0)
def La(m:gY):gY:=(m.1,af.mn (af.b .add .i64 m.2 1) 255)
def JB(c:jo):jo×Int:=bif ja c then((c.1,c.2.1,c.2.2.1.map La,af.mx (af.b .sub .i64 c.2.2.2.1 1) 0,c.2.2.2.2),0) else(EV,120)
theorem aji{f:gY->gY}{l:List gY}{i:Nat}(p:i<l.length):(af.n lg ((l.take i).map f++l.drop i) (i:Int):gY)=l[i]/\af.set ((l.take i).map f++l.drop i) i (f l[i])=(l.take<|i+1).map f++l.drop (i+1):=by
 have h:i<((l.take i).map f++l.drop i).length:=by grind
 have j:((l.take i).map f).length=i:=by grind
 constructor
 .refine(fF h _).trans ?_
  simp_all
 .show List.set _ (i:Int).toNat _=_;rw[y7,List.set_append_right _ _ (by rw[j];exact ah _),j,mH,AX p,mV,bK p,fN,e_];rfl
theorem awS{L l p u A B:Int}{R:jo×Int}(H:c.2.2.1.length<=8)(C:L=(c.2.2.1.length:Int))(D:bi (MF af) (.ak<|.c1 ⟨L,c,l,p,u,v,A,B⟩ (c.2.2.1.length:Int) c.2.2.1) R):
  ∀(j i:Nat),c.2.2.1.length-i=j->i<=c.2.2.1.length->bi (MF af) (.ak<|.c1 ⟨L,c,l,p,u,v,A,B⟩ i c.2.2.1) R:=by
 subst C;intro j
 induction j with
 | zero=>
   grind
 | succ j ih=>
   intro i F E;have h:i<c.2.2.1.length:=by omega
   rw[aI,MF];refine(ap (by rw[bR];simp_all)).2 (aA.2 ⟨dA h,aA.2 ⟨dA h,?_⟩⟩);rw[O2 h,jN (i:=i)<|by omega]
   grind
theorem awT{l:List gY}{L D E F id h p:Int}{out:List Int}(H:l.length<=8)(A:L=(l.length:Int)):∀(j i:Nat),l.length-i=j->i<=l.length->
  bi (MF af) (.ak<|.c2 ⟨L,D,E,F,id,out,h,p⟩ i<|(l.take i).map La++l.drop i) ((id,out,l.map La,af.mx (af.b .sub .i64 h 1) 0,p),0):=by
 subst A;intro j
 induction j with
 | zero=>
   intro i C B;have:i=l.length:=by omega
   subst this;rw[aI,MF,jv,cZ,aJ];exact(al (by rw[bR];simp)).2 (.ret _)
 | succ j ih=>
   intro i C B;have u:i<l.length:=by omega
   have v:i<((l.take i).map La++l.drop i).length:=by simp_all
   have⟨a1,a2⟩:=aji (f:=La) u;rw[aI,MF];refine(ap (by rw[bR];simp_all)).2 (aA.2 ⟨dA v,aA.2 ⟨dA v,?_⟩⟩);rw[a1,jN (i:=i)<|by omega];rw[show(l[i].1,af.mn (af.b .add .i64 l[i].2 1) 255)=La l[i] from rfl,a2]
   grind
def awU:bi (MF af) (ang af c)<|JB c:=by
 unfold ang abV JB;rw[show af.k rD c=z7 c from rfl,z7];cases hc:ja c
 .exact(ap rfl).2 ((ap rfl).2<|.ret _)
 .have⟨i,h,_,_⟩:=Lh hc;refine(al rfl).2 (aA.2 ⟨OG hc,u7 (congrArg (λz:List gY=>LT.ak<|Xu.c1 ⟨af.l z,c,0,0,0,0,0,0⟩ 0 z) MU)<|awS h rfl ?_ c.c.length 0 rfl<|by omega⟩);rw[aI,MF];exact(al (by rw[bR];simp)).2 (awT (l:=c.c) (out:=c.2.1) h rfl c.c.length 0 rfl<|by omega)
def YF:jo->(jo×Int):=JB
def atv:aL:=.all [tL] [tL,yI] YF
def arE:Sd 157 atv:=fa<|bE ar dK sl 68 [⟨137,7,[[1,2,5,22,23],[2]]⟩,⟨157,5,[[2,4,18,19]]⟩] [] (λA c=>ang A c) MF ajL (kz (fc func157 (fc func137 fz)) (sc Ea (sc KV sz))) (λA y=>match y with |.c0 p=>⟨28,sl,by kernel_rfl⟩|.c1 p b1 i=>⟨56,sl,by kernel_rfl⟩|.c2 p c1 c9=>⟨41,sl,by kernel_rfl⟩) λc j h=>awU
inductive adI where|c0(a0:Int)(a1:List gY)
noncomputable def ajP:adI->iF
 | .c0 a0 a1=>⟨[iN 132 48 [(7,.own 0),(8,vi a0)] f132 1016],[aZ lg a1,.aU]⟩
abbrev Iw(A:aS)(i:List gY)(h:Int):=(A.v .i64<|A.b .mul .u64 (A.v .u64<|A.l i)<|A.v .u64 h)
abbrev ah8(A:aS)(i:List gY)(h:Int):=(A.b .add .u64 (A.b .mul .u64 (A.b .shr .u64 (A.v .u64<|A.l i) 32)<|A.b .and .u64 (A.v .u64 h) 4294967295)<|A.b .shr .u64 (A.b .mul .u64 (A.b .and .u64 (A.v .u64<|A.l i) 4294967295)<|A.b .and .u64 (A.v .u64 h) 4294967295) 32)
def au3(A:aS)(i:List gY)(h:Int):LT (List gY) adI:=.br (A.bq h 0) (.bU 117 "slices.go:516")<|.br (A.jr (A.b .add .u64 (A.b .add .u64 (A.b .mul .u64 (A.b .shr .u64 (A.v .u64<|A.l i) 32)<|A.b .shr .u64 (A.v .u64 h) 32)<|A.b .shr .u64 (ah8 A i h) 32)<|A.b .shr .u64 (A.b .add .u64 (A.b .and .u64 (ah8 A i h) 4294967295)<|A.b .mul .u64 (A.b .and .u64 (A.v .u64<|A.l i) 4294967295)<|A.b .shr .u64 (A.v .u64 h) 32) 32) 0) (.bU 117 "slices.go:522")<|.br (A.jr (A.b .mul .u64 (A.v .u64<|A.l i)<|A.v .u64 h) 9223372036854775807) (.bU 117 "slices.go:522")<|.ao (A.and (A.bG (Iw A i h)<|Iw A i h)<|A.and (A.bQ 0<|Iw A i h)<|A.bQ (Iw A i h) 4398046511104)<|.ak<|.c0 (A.mn (A.l i)<|A.l<|A.r (Iw A i h) (Ty.gH lg:gY))<|A.spl (A.r (Iw A i h) (Ty.gH lg:gY)) 0<|A.s i 0<|A.mn (A.l i)<|A.l<|A.r (Iw A i h) (Ty.gH lg:gY)
def aqT(A:aS):adI->LT (List gY) adI
 | .c0 a0 a1=>.br (A.bq a0<|A.l a1) (.ao (A.and (A.bQ 0 a0)<|A.and (A.bQ a0<|A.l a1)<|A.bQ (A.l a1)<|A.l a1)<|.ao (A.and (A.bQ 0 0)<|A.and (A.bQ 0 a0)<|A.bQ a0<|A.l a1)<|.ak<|.c0 (A.b .add .i64 a0<|A.mn (A.l<|A.s a1 0<|A.b .add .i64 0<|A.b .sub .i64 a0 0)<|A.b .sub .i64 (A.l a1) a0)<|A.spl a1 a0<|A.s (A.s a1 0<|A.b .add .i64 0<|A.b .sub .i64 a0 0) 0<|A.mn (A.l<|A.s a1 0<|A.b .add .i64 0<|A.b .sub .i64 a0 0)<|A.b .sub .i64 (A.l a1) a0)<|.ret a1
def G5:gY:=(([]:List Int),255)
def awP{l:List gY}{n:Int}(h:(decide (l=[(([]:List Int),255)])&&decide (4<=n)&&decide (n<=8))=true):bi (aqT af) (au3 af l n)<|List.replicate n.toNat G5:=by
 simp at h;obtain⟨⟨rfl,j⟩,p⟩:=h;have i:n=4\/n=5\/n=6\/n=7\/n=8:=by omega
 rcases i with rfl|rfl|rfl|rfl|rfl <;>
  (refine(al<|by rfl).2 ((al<|by rfl).2<|(al<|by rfl).2<|aA.2 ⟨by rfl,?_⟩)
   refine aI.2<|(ap<|by rfl).2<|aA.2 ⟨by rfl,aA.2 ⟨by rfl,aI.2 ?_⟩⟩;refine(ap<|by rfl).2 (aA.2 ⟨by rfl,aA.2 ⟨by rfl,aI.2 ?_⟩⟩))
 .exact(al<|by rfl).2 (aT (by rfl)<|.ret _)
 all_goals exact(ap<|by rfl).2 (aA.2 ⟨by rfl,aA.2 ⟨by rfl,aI.2<|(al<|by rfl).2<|aT (by rfl)<|.ret _⟩⟩)
def ag6:(List gY×Int)->(List gY):=λ(_,n)=>List.replicate n.toNat (([]:List Int),255)
def QK:(List gY×Int)->Bool:=λ(l,n)=>decide (l=[(([]:List Int),255)])&&decide (4<=n)&&decide (n<=8)
def atD:aL:=⟨[(.slice lg),yI],[(.slice lg)],QK,ag6,false⟩
def arH:Sd 132 atD:=bE ar dK sl 175 [⟨132,8,[[7,8]]⟩] [] (λA (j,i)=>au3 A j i) aqT ajP (kz (fc func132 (fc func122 (fc func185 fz))) sz) (λA y=>match y with |.c0 p a1=>⟨30,sl,by kernel_rfl⟩) λ((j,i):List gY×Int) l h=>awP l
def am5(A:aS)(id:Int)(n:Int):LT (jo×Int) Empty:=.br (A.not<|A.k vv (n,4,8)) (.ret ((0,([]:List Int),([]:List gY),0,0),120))<|.br (A.not<|A.k vv (id,0,A.b .sub .i64 n 1)) (.ret ((0,([]:List Int),([]:List gY),0,0),120))<|.ao (A.k QK (([(([]:List Int),255)]:List gY),n))<|.ret ((id,([]:List Int),A.k ag6 (([(([]:List Int),255)]:List gY),n),4,-1),0)
def Z3(id n:Int):jo×Int:=bif decide (4<=n/\n<=8) then(bif decide (0<=id/\id<=n-1) then((id,([]:List Int),List.replicate n.toNat G5,4,-1),0) else(EV,120)) else(EV,120)
def awN:Int×Int->jo×Int:=λ(id,n)=>Z3 id n
def Z2{id n:Int}:bi Empty.elim (am5 af id n)<|Z3 id n:=by
 unfold am5 Z3;refine kM (λh=>?_) λi=>?_
 .exact aT (by rw[fQ h];rfl)<|.ret _
 .have e:af.b .sub .i64 n 1=n-1:=by rw[ia,my (by omega)<|by omega]
  rw[e];refine kM (λh=>?_) λj=>aA.2 ⟨?_,?_⟩
  .exact aT (by rw[bX i,fQ h];rfl)<|.ret _
  .rw[bZ,QK,bX i.1,bX i.2];rfl
  .exact aT (by rw[bX i,bX j];rfl)<|.ret _
def SE:(Int×Int)->(jo×Int):=awN
def ati:aL:=.all [yI,yI] [tL,yI] SE
def arx:Sd 79 ati:=fa<|cK ar dK sl 38 [] (λA (id,n)=>am5 A id n) (kz (fc func79 fz) (sc O8 (sc arH sz))) λ(id,n) i h=>Z2
def au5(A:aS)(c:jo):LT Bool Empty:=.br (A.bG (A.k rD c) 0) (.ret<|A.jr c.2.2.2.1 0)<|.ret false
def YH:jo->Bool:=λc=>(au5 af c).val<|Ty.aO [.bool]
def atO:aL:=.all [tL] [.bool] YH
def arM:Sd 314 atO:=fa<|aN ar dK sl 23 [] (λA c=>au5 A c)<|kz (fc func314 fz)<|sc KV sz
def ano(A:aS)(c:jo)(h:Int):LT (List Int×Int) Empty:=.br (A.cm (A.k rD c) 0) (.ret (([]:List Int),A.k rD c))<|.br (A.not<|A.k vv (h,0,8)) (.ret (([]:List Int),2))<|.ao (A.and (A.bG h h)<|A.and (A.bQ 0 h)<|A.bQ h 140737488355328)<|.br (A.k YH c) (.ret (A.spl (A.r h (0:Int)) 0<|A.s c.2.1 0<|A.mn (A.l c.2.1)<|A.l<|A.r h (0:Int),0))<|.ret (A.r h (0:Int),0)
def Rq(c:jo)(k:Int):List Int×Int:=bif ja c then(bif decide (0<=k/\k<=8) then(bif decide (0<c.2.2.2.1) then c.2.1.take k.toNat++List.replicate (k.toNat-c.2.1.length) 0 else List.replicate k.toNat 0,0) else([],2)) else([],120)
def aw1:jo×Int->List Int×Int:=λ(c,k)=>Rq c k
theorem afU{k:Int}(h:0<=k/\k<=8):af.and (af.bG k k) (af.and (af.bQ 0 k)<|af.bQ k 140737488355328)=true:=by
 rw[bf,ax,ax,bF,bF];grind
theorem aw0{k:Int}:bi Empty.elim (ano af c k)<|Rq c k:=by
 unfold ano Rq;rw[show af.k rD c=z7 c from rfl,show af.k YH c=(bif z7 c==0 then decide (0<c.d) else false) from rfl,z7];cases hc:ja c
 .exact(ap rfl).2 (.ret _)
 .refine(al rfl).2 (kM (λh=>?_) λh=>aA.2 ⟨afU h,aX (p:=0<c.d) rfl (λi=>?_) λi=>?_⟩)
  .exact aT (by grind)<|.ret _
  .refine aT ?_<|.ret _;simp[oQ,uL,jU,n_,eG,Int.toNat_zero,List.take_zero,iQ,ik]
   grind
  .exact aT (by rw[bX h,fQ i];rfl)<|.ret _
def SK:(jo×Int)->(List Int×Int):=aw1
def atH:aL:=.all [tL,yI] [yB,yI] SK
def arJ:Sd 282 atH:=fa<|cK ar dK sl 60 [] (λA (c,i)=>ano A c i) (kz (fc func282 fz) (sc KV (sc O8 (sc arM sz)))) λ(c,i) j h=>aw0
def am7(A:aS)(c:jo)(h:List Int):LT (jo×Int) Empty:=.br (A.cm (A.k ov c).2 0) (.ret ((0,([]:List Int),([]:List gY),0,0),(A.k ov c).2))<|.br (A.jr (A.l h) 8) (.ret ((0,([]:List Int),([]:List gY),0,0),3))<|.ret (((A.k ov c).1.1,A.k nQ h,(A.k ov c).1.2.2),0)
def K1(c:jo)(d:List Int):jo×Int:=bif ja c then(bif decide (8<(d.length:Int)) then(EV,3) else((c.1,d,c.2.2),0)) else(EV,120)
def wrS:jo×List Int->jo×Int:=λ(c,d)=>K1 c d
def wr1{d:List Int}:bi Empty.elim (am7 af c d)<|K1 c d:=by
 unfold am7 K1;rw[show af.k ov c=L3 c from rfl,L3];cases ja c
 .exact(ap rfl).2 (.ret _)
 .refine(al rfl).2 (aX (p:=8<(d.length:Int)) rfl (λh=>?_) λh=>?_)
  .exact aT (by rw[bX h];rfl)<|.ret _
  .exact aT (by rw[fQ h];rfl)<|.ret _
def nc:(jo×List Int)->(jo×Int):=wrS
def atl:aL:=.all [tL,yB] [tL,yI] nc
def Ec:Sd 81 atl:=fa<|cK ar dK sl 55 [] (λA (c,i)=>am7 A c i) (kz (fc func81 fz) (sc Ea (sc abm sz))) λ(c,i) j h=>wr1
def am8(A:aS)(c:jo):LT (jo×Int) Empty:=.br (A.bG (A.k ov c).2 0) (.ret (((A.k ov c).1.1,(A.k ov c).1.2.1,(A.k ov c).1.2.2.1,4,(A.k ov c).1.2.2.2.2),(A.k ov c).2))<|.ret<|A.k ov c
def btS:jo->jo×Int:=λc=>bif ja c then((c.1,c.2.1,c.2.2.1,4,c.2.2.2.2),0) else(EV,120)
def bt1:bi Empty.elim (am8 af c)<|btS c:=by
 unfold am8 btS;rw[show af.k ov c=L3 c from rfl,L3];cases ja c
 .exact(al rfl).2 (.ret _)
 .exact(ap rfl).2 (.ret _)
def SF:jo->(jo×Int):=btS
def atm:aL:=.all [tL] [tL,yI] SF
def ary:Sd 176 atm:=fa<|cK ar dK sl 41 [] (λA c=>am8 A c) (kz (fc func176 fz) (sc abm sz)) λc i h=>bt1
def am9(A:aS)(c:jo)(h:Int):LT (jo×Int) Empty:=.br (A.cm (A.k ov c).2 0) (.ret ((0,([]:List Int),([]:List gY),0,0),(A.k ov c).2))<|.br (A.not<|A.k vv (h,-1,3)) (.ret ((0,([]:List Int),([]:List gY),0,0),2))<|.ret (((A.k ov c).1.1,(A.k ov c).1.2.1,(A.k ov c).1.2.2.1,(A.k ov c).1.2.2.2.1,h),0)
def Jb(c:jo)(m:Int):jo×Int:=bif ja c then(bif decide (-1<=m/\m<=3) then((c.1,c.2.1,c.2.2.1,c.2.2.2.1,m),0) else(EV,2)) else(EV,120)
def awi:jo×Int->jo×Int:=λ(c,m)=>Jb c m
theorem awh{m:Int}:bi Empty.elim (am9 af c m)<|Jb c m:=by
 unfold am9 Jb;rw[show af.k ov c=L3 c from rfl,L3];cases ja c
 .exact(ap rfl).2 (.ret _)
 .refine(al rfl).2 (kM (λh=>?_) λh=>?_)
  .exact aT (by rw[fQ h];rfl)<|.ret _
  .exact aT (by simp_all)<|.ret _
def SG:(jo×Int)->(jo×Int):=awi
def atn:aL:=.all [tL,yI] [tL,yI] SG
def arz:Sd 178 atn:=fa<|cK ar dK sl 54 [] (λA (c,i)=>am9 A c i) (kz (fc func178 fz) (sc O8 (sc abm sz))) λ(c,i) j h=>awh
abbrev iy(m:au):Int:=(m.2.2.2.2.2.2.2.length:Int)
theorem uR{c:gE}{k:Int}(h:rz (c,k)=0):(4<=k/\k<=8)/\(0<=c.1/\c.1<=255)/\(0<=c.2.1/\c.2.1<=k-1)/\(0<=c.2.2.1/\c.2.2.1<=3)/\(0<=c.2.2.2.1/\c.2.2.2.1<=4)/\(0<=c.2.2.2.2/\c.2.2.2.2<=2^k.toNat-1):=by
 rw[rz] at h;cases h1:decide (k<4)||decide (8<k)
 all_goals grind
def kZ(m:au)(c:gE):Bool:=decide (rz (c,m.1)=0)&&(decide (c.2.2.1<iy m)&&decide (c.2.2.2.1<=iy m))
def nO(m:au)(c:gE):Int:=bif df m then(bif kZ m c then 0 else 40) else 70
theorem yF{m:au}{c:gE}(h:nO m c=0):df m=true/\rz (c,m.1)=0/\(0<=c.2.2.1/\c.2.2.1<iy m)/\c.2.2.2.1<=iy m:=by
 unfold nO at h;cases hm:df m
 .simp_all
 .cases hf:kZ m c
  .simp_all
  .simp[kZ,eH,tP] at hf;exact⟨rfl,hf.1,⟨(uR hf.1).d.1,hf.2.1⟩,hf.2.2⟩
def XF{m:au}{c:gE}(h:df m=true)(i:kZ m c=true):nO m c=0:=by rw[nO,h,i];rfl
theorem jc{m:au}(h:df m=true):(4<=m.1/\m.1<=8)/\(1<=iy m/\iy m<=4)/\(m.2.2.2.2.2.2.1.length:Int)=m.1/\m.2.2.2.2.2.2.2.all (pM m)=true:=by
 have:=ZN h
 simp_all
theorem yR{m:au}(h:df m=true){i:Int}(l:0<=i)(p:i<iy m):pM m (af.n eQ m.2.2.2.2.2.2.2 i:Mode)=true:=by
 obtain⟨k,rfl⟩:∃k:Nat,i=k:=⟨i.toNat,by omega⟩;have j:k<m.G.length:=by simp_all
 rw[show(af.n eQ m.G (k:Int):Mode)=m.G[k] from fF j _];exact cv.1 (jc h).C _<|dQ j
theorem sJ{m:au}{x:Mode}(h:pM m x=true):(x.1.length:Int)=m.1/\(x.2.1.length:Int)=m.1/\(x.2.2.length:Int)=iy m:=by
 simp only[pM] at h
 simp_all
theorem uE{l:List α}{i:Int}(h:0<=i)(j:i<(l.length:Int)):af.and (af.bQ 0 i) (af.bq i<|af.l l)=true:=by
 rw[eG,ax,bl,bF];simp_all
def xf{x:Int}(h:x=0):af.cm x 0=false:=by rw[h];rfl
theorem qD{x:Int}(h:¬x=0):af.cm x 0=true:=by rw[b_];simp_all
def ajp{x:Int}(h:x=0):af.bG x 0=true:=by rw[h];rfl
def ant(A:aS)(m:au)(n:Int):LT Bool Empty:=.br (A.qE n 0) (.ret<|A.bq n<|A.l m.2.2.2.2.2.2.2)<|.ret false
def isF(m:au)(n:Int):Bool:=decide<|0<=n/\n<iy m
theorem is1{m:au}{n:Int}:bi Empty.elim (ant af m n)<|isF m n:=by
 unfold ant isF;refine aX (p:=0<=n) rfl (λh=>?_) λh=>?_
 .exact aT (by rw[iP,eG,bl];simp_all)<|.ret _
 .exact aT (fQ<|by omega).symm<|.ret _
def Kg:(au×Int)->Bool:=λ(m,c)=>isF m c
def atN:aL:=.all [aW,yI] [.bool] Kg
def abp:Sd 296 atN:=fa<|cK ar dK sl 24 [] (λA (m,n)=>ant A m n) (kz (fc func296 fz) sz) λ(m,n) i h=>is1
def anr(A:aS)(m:au)(c:gE):LT Int Empty:=.br (A.cm (A.k iR m) 0) (.ret<|A.k iR m)<|.br (A.cm (A.k vy (c,m.1)) 0) (.ret 40)<|.br (A.not<|A.k Kg (m,c.2.2.1)) (.ret 40)<|.br (A.jr c.2.2.2.1<|A.l m.2.2.2.2.2.2.2) (.ret 40)<|.ret 0
theorem aoh{m:au}{c:gE}:bi Empty.elim (anr af m c)<|nO m c:=by
 unfold anr nO;rw[show af.k iR m=nh m from rfl,nh];cases hm:df m
 .exact(ap rfl).2 (.ret _)
 refine(al rfl).2 (?_);by_cases h:rz (c,m.1)=0
 .have j:=(uR h).d.1;rw[kZ,bX h];refine(al<|xf h).2 (?_);rw[show af.k Kg (m,c.c)=decide (0<=c.c/\c.c<iy m) from rfl];by_cases i:c.c<iy m
  .rw[bX<|show 0<=c.c/\c.c<iy m from⟨j,i⟩,bX i];refine(al rfl).2 (aX (p:=iy m<c.d) rfl (λl=>?_) λl=>?_)
   .exact aT (by grind)<|.ret _
   .exact aT (by simp_all)<|.ret _
  .rw[fQ<|show ¬(0<=c.c/\c.c<iy m) from λh=>i h.2,fQ i];exact(ap rfl).2 (.ret _)
 .rw[kZ,fQ h];exact(ap<|qD h).2 (.ret _)
def Bp:(au×gE)->Int:=λ(m,c)=>nO m c
def atK:aL:=.all [aW,lf] [yI] Bp
def abo:Sd 252 atK:=fa<|cK ar dK sl 56 [] (λA (m,c)=>anr A m c) (kz (fc func252 fz) (sc JJ (sc yd (sc abp sz)))) λ(m,c) i h=>aoh
def anu(A:aS)(m:au)(c:gE)(h:Int):LT Bool Empty:=.br (A.k Kg (m,h)) (.br (A.cm h c.2.2.1) (.br (A.bG c.2.2.2.1 0) (.ao (A.and (A.bQ 0 c.2.2.1)<|A.bq c.2.2.1<|A.l m.2.2.2.2.2.2.2)<|.ao (A.and (A.bQ 0 h)<|A.bq h<|A.l (A.n eQ m.2.2.2.2.2.2.2 c.2.2.1:Mode).2.2)<|.ret (A.n .bool (A.n eQ m.2.2.2.2.2.2.2 c.2.2.1:Mode).2.2 h:Bool))<|.ret false)<|.ret false)<|.ret false
def zj(m:au)(c:gE)(k:Int):Bool:=decide (0<=k/\k<iy m)&&(decide (¬k=c.2.2.1)&&(decide (c.2.2.2.1=0)&&(af.n .bool (af.n eQ m.2.2.2.2.2.2.2 c.2.2.1:Mode).2.2 k:Bool)))
def dU{a b:Int}:af.cm a b=decide (¬a=b):=by rw[b_,iP];simp
theorem ZM{R:Type}{step:Y->LT R Y}{m:au}{c:gE}{k:Int}{e:LT R Y}{r:R}{f:Bool->R}(h:nO m c=0)(j:0<=k/\k<iy m)(B:f (zj m c k)=r)(l:f false=r->bi step e r):
  bi step (.br (af.cm k c.2.2.1) (.br (af.bG c.2.2.2.1 0) (.ao (af.and (af.bQ 0 c.2.2.1)<|af.bq c.2.2.1<|af.l m.2.2.2.2.2.2.2)<|.ao (af.and (af.bQ 0 k)<|af.bq k<|af.l (af.n eQ m.2.2.2.2.2.2.2 c.2.2.1:Mode).2.2)<|.ret<|f (af.n .bool (af.n eQ m.2.2.2.2.2.2.2 c.2.2.1:Mode).2.2 k:Bool)) e) e) r:=by
 have⟨A,_,i,_⟩:=yF h;rw[zj,bX j,dC] at B;refine aX (p:=¬k=c.c) dU (λu=>aX (p:=c.d=0) dq (λv=>aA.2 ⟨uE i.1 i.2,aA.2 ⟨uE j.1 ?_,?_⟩⟩) λv=>l ?_) λu=>l ?_
 .exact(sJ<|yR A i.1 i.2).2.2▸j.2
 .exact aT (by grind)<|.ret _
 all_goals grind
def aqF{m:au}{c:gE}{k:Int}(h:nO m c=0):bi Empty.elim (anu af m c k)<|zj m c k:=by
 unfold anu;by_cases i:0<=k/\k<iy m
 .exact(ap<|bX i).2 (ZM (f:=id) h i rfl λe=>aT e<|.ret _)
 .exact(al<|fQ i).2 (aT (by rw[zj,fQ i];rfl)<|.ret _)
def YI:(au×gE×Int)->Bool:=λ(m,c,k)=>zj m c k
def aao:(au×gE×Int)->Bool:=λ(m,c,_)=>decide<|nO m c=0
def atQ:aL:=⟨[aW,lf,yI],[.bool],aao,YI,false⟩
def arO:Sd 321 atQ:=cK ar dK sl 42 [] (λA (m,c,i)=>anu A m c i) (kz (fc func321 fz) (sc abp sz)) λ((m,c,i):au×gE×Int) j h=>aqF<|of_decide_eq_true j
structure WH where(a0:Int)(a2:au)(a3:gE)(a4:Int)(a5:au)(a6:gE)(a7:au)(a8:gE)(a9:Int)(mA:au)(pH:Int)(a12:gE)
inductive adJ where|c0(p:WH)(a1:Int)
noncomputable def ajR:adJ->iF
 | .c0 p a1=>⟨[iN 320 26 [(0,.yield 0),(1,pZ 1),(2,pZ 2),(11,vi p.a0),(12,vi a1)] f320 28,⟨253,16,en [(6,pZ 3)],[.oA 0,.inBlock 0,.code<|cw f253 7],[4],none⟩],[.loop ⟨253,16,en [(0,.agg<|dc aW p.a2),(1,.agg<|dc lf p.a3),(2,vi p.a4),(3,pZ 5),(4,pZ 7),(5,pZ 6),(6,pZ 3),(8,.agg<|dc aW p.a5),(9,.agg<|dc lf p.a6),(10,.fn 320 [] [pZ 1,pZ 2])],[11],cw f253 52,cw f253 53,0,none⟩,dZ aW p.a7,dZ lf p.a8,vZ p.a9,.FU,dZ aW p.mA,vZ p.pH,dZ lf p.a12,.aU]⟩
def ans(A:aS)(m:au)(c:gE)(h:Int):LT Int adJ:=.br (A.cm (A.k Bp (m,c)) 0) (.ret<|-1)<|.ak<|.c0 ⟨A.l m.2.2.2.2.2.2.2,m,c,h,m,c,m,c,0,m,h,c⟩ 0
def aaP(A:aS):adJ->LT Int adJ
 | .c0 p a1=>.br (A.bq a1 p.a0) (.ao (A.k aao (p.a7,p.a8,a1))<|.br (A.k YI (p.a7,p.a8,a1)) (.br (A.bG a1 p.pH) (.ret a1)<|.ak<|.c0 p<|A.b .add .i64 a1 1)<|.ak<|.c0 p<|A.b .add .i64 a1 1)<|.ret<|-1
def RE(m:au)(c:gE)(k:Int):Int:=bif decide (nO m c=0)&&zj m c k then k else -1
theorem acK{p:WH}{m:au}{c:gE}{k:Int}(l:p.a0=iy m)(B:p.a7=m)(C:p.a8=c)(u:p.pH=k)(h:nO m c=0):∀(j i:Nat),m.2.2.2.2.2.2.2.length-i=j->i<=m.2.2.2.2.2.2.2.length->bi (aaP af) (.ak<|.c0 p i) (bif decide ((i:Int)<=k)&&zj m c k then k else -1):=by
 have F:=(jc (yF h).1).2.1;unfold iy at F l;intro j
 induction j with
 | zero=>
   intro i E D;rw[aI,aaP,l];refine(al (by rw[bl];grind)).2 (aT ?_<|.ret _);by_cases v:(i:Int)<=k
   .rw[zj,fQ (show ¬(0<=k/\k<iy m) by unfold iy;omega),fG,cq];rfl
   grind
 | succ j ih=>
   intro i E D;rw[aI,aaP,l,B,C,u];refine(ap (by rw[bl];grind)).2 (aA.2 ⟨by rw[bZ];exact bX h,?_⟩);rw[show af.k YI (m,c,(i:Int))=zj m c i from rfl,jN (i:=i) (by omega)];have A:=ih (i+1) (by omega) (by omega);cases hm:zj m c i
   .refine(al rfl).2 (aT ?_ A)
    grind
   .refine(ap rfl).2 (aX (p:=(i:Int)=k) dq (λv=>?_) λv=>?_)
    .exact aT (by rw[<-v,hm,bX<|ai _];rfl)<|.ret _
    .exact aT (by rw[show decide (((i+1:Nat):Int)<=k)=decide ((i:Int)<=k) by rw[iP];simp;omega]) A
theorem ayc{m:au}{c:gE}{k:Int}:bi (aaP af) (ans af m c k)<|RE m c k:=by
 unfold ans RE;rw[show af.k Bp (m,c)=nO m c from rfl];by_cases h:nO m c=0
 .rw[bX h];refine(al<|xf h).2 (aT ?_<|acK (p:=⟨iy m,m,c,k,m,c,m,c,0,m,k,c⟩) (k:=k) rfl rfl rfl rfl h m.G.length 0 rfl<|by omega);by_cases i:0<=k
  .simp_all
  .rw[zj,fQ<|show ¬(0<=k/\k<iy m) by omega,fG,cq,cq]
 .rw[fQ h];exact(ap<|qD h).2 (.ret _)
def Kf:(au×gE×Int)->Int:=λ(m,c,k)=>RE m c k
def atL:aL:=.all [aW,lf,yI] [yI] Kf
def ahU:Sd 253 atL:=fa<|bE ar dK sl 53 [⟨320,2,[[0,1,2,11,12],[6]]⟩] [] (λA (m,c,i)=>ans A m c i) aaP ajR (kz (fc func253 (fc func297 (fc func320 fz))) (sc abo (sc arO sz))) (λA y=>match y with |.c0 p a1=>⟨55,sl,by kernel_rfl⟩) λ(m,c,i) j h=>ayc
def ann(A:aS)(m:au)(c:gE)(h:Int):LT (Int×Int) Empty:=.br (A.cm (A.k Bp (m,c)) 0) (.ret (0,A.k Bp (m,c)))<|.br (A.cm h<|-1) (.br (A.not<|A.k Kg (m,h)) (.ret (0,100))<|.br (A.bq h 0) (.ret (0,0))<|.ret (A.b .add .i64 (A.k Kf (m,c,h)) 1,0))<|.br (A.bq h 0) (.ret (0,0))<|.ret (A.b .add .i64 (A.k Kf (m,c,h)) 1,0)
def xv(m:au)(c:gE)(w:Int):Int×Int:=bif decide (nO m c=0) then(bif decide (-1<=w/\w<iy m) then(bif zj m c w then(w+1,0) else(0,0)) else(0,100)) else(0,nO m c)
theorem aog{m:au}{c:gE}{w:Int}:bi Empty.elim (ann af m c w)<|xv m c w:=by
 unfold ann xv;rw[show af.k Bp (m,c)=nO m c from rfl,show af.k Kg (m,w)=decide (0<=w/\w<iy m) from rfl,show af.k Kf (m,c,w)=RE m c w from rfl];by_cases h:nO m c=0
 .have l:=(jc (yF h).1).2.1;rw[bX h];refine(al<|xf h).2 (aX (p:=¬w = -1) dU (λj=>?_) λj=>?_)
  .by_cases i:0<=w/\w<iy m
   .rw[bX i,bX<|show -1<=w/\w<iy m by omega];refine(al rfl).2 ((al (by rw[bl];simp_all)).2<|aT ?_<|.ret _);rw[RE,bX h];cases zj m c w
    .rfl
    .rw[dC,cond_true,cond_true,cond_true,cond_true,gB,my (by omega)<|by omega]
   .rw[fQ i,fQ<|show ¬(-1<=w/\w<iy m) by omega];exact(ap rfl).2 (.ret _)
  .have i:w = -1:=by omega
   subst i;exact(ap rfl).2 (.ret _)
 .rw[fQ h];exact(ap<|qD h).2 (.ret _)
def N3:(au×gE×Int)->(Int×Int):=λ(m,c,k)=>xv m c k
def atG:aL:=.all [aW,lf,yI] [yI,yI] N3
def arI:Sd 281 atG:=fa<|cK ar dK sl 60 [] (λA (m,c,i)=>ann A m c i) (kz (fc func281 fz) (sc abo (sc ahU (sc abp sz)))) λ(m,c,i) j h=>aog
def ank(A:aS)(m:au)(c:gE)(h:Int):LT (gE×Int) Empty:=.br (A.cm (A.k Bp (m,c)) 0) (.ret ((0,0,0,0,0),A.k Bp (m,c)))<|.br (A.bq h 0) (.ret ((0,0,0,0,0),100))<|.br (A.jr h<|A.l m.2.2.2.2.2.2.2) (.ret ((0,0,0,0,0),100))<|.br (A.jr h 0) (.br (A.qE (A.k Kf (m,c,A.b .sub .i64 h 1)) 0) (.ret ((c.1,c.2.1,c.2.2.1,h,c.2.2.2.2),0))<|.ret (c,0))<|.ret (c,0)
def AB(m:au)(c:gE)(r:Int):gE×Int:=bif decide (nO m c=0) then(bif decide (0<=r/\r<=iy m) then(bif decide (0<r)&&zj m c (r-1) then((c.1,c.2.1,c.2.2.1,r,c.2.2.2.2),0) else(c,0)) else((0,0,0,0,0),100)) else((0,0,0,0,0),nO m c)
theorem axE{m:au}{c:gE}{r:Int}:bi Empty.elim (ank af m c r)<|AB m c r:=by
 unfold ank AB;rw[show af.k Bp (m,c)=nO m c from rfl,show af.k Kf (m,c,af.b .sub .i64 r 1)=RE m c (af.b .sub .i64 r 1) from rfl];by_cases h:nO m c=0
 .have u:=(jc (yF h).1).2.1;refine(al<|xf h).2 (aX (p:=r<0) rfl (λj=>?_) λj=>aX (p:=iy m<r) rfl (λl=>?_) λl=>?_)
  .exact aT (by grind)<|.ret _
  .exact aT (by grind)<|.ret _
  .rw[bX<|show 0<=r/\r<=iy m by omega,ia,my (by omega)<|by omega];refine aX (p:=0<r) rfl (λi=>?_) λi=>?_
   .rw[bX i,RE,bX h,dC];cases hm:zj m c<|r-1
    .exact(al rfl).2 (.ret _)
    .exact(ap (by rw[cond_true,kQ];grind)).2 (.ret _)
   .exact aT (by grind)<|.ret _
 .rw[fQ h];exact(ap<|qD h).2 (.ret _)
def uk:(au×gE×Int)->(gE×Int):=λ(m,c,k)=>AB m c k
def atB:aL:=.all [aW,lf,yI] [lf,yI] uk
def abl:Sd 200 atB:=fa<|cK ar dK sl 69 [] (λA (m,c,i)=>ank A m c i) (kz (fc func200 fz) (sc abo (sc ahU sz))) λ(m,c,i) j h=>axE
def anp(A:aS)(m:au)(node:Int):LT Int Empty:=.br (A.cm (A.k iR m) 0) (.ret<|A.k iR m)<|.br (A.not<|A.k lK (node,0,A.b .sub .i64 m.1 1)) (.ret 2)<|.ret 0
def yS{l:List α}{i n:Int}(e:(l.length:Int)=n)(h:0<=i)(j:i<n):af.and (af.bQ 0 i) (af.bq i<|af.l l)=true:=uE h<|e▸j
def pN(m:au)(n:Int):Int:=bif df m then(bif decide (0<=n/\n<=m.1-1) then 0 else 2) else 70
theorem KG{m:au}{n:Int}(h:pN m n=0):df m=true/\0<=n/\n<=m.1-1:=by
 unfold pN at h
 grind
theorem alT{m:au}{n:Int}:bi Empty.elim (anp af m n) (pN m n):=by
 unfold anp pN;rw[show af.k iR m=nh m from rfl,nh];cases hm:df m
 .exact(ap rfl).2 (.ret _)
 have i:=(jc hm).1;rw[ia,my (by omega) (by omega)];refine(al rfl).2 (kM (λh=>?_) λh=>?_)
 .exact aT (by grind) (.ret _)
 .exact aT (by simp_all) (.ret _)
def N4:(au×Int)->Int:=λ(m,n)=>pN m n
def atI:aL:=.all [aW,yI] [yI] N4
def ahT:Sd 273 atI:=fa<|cK ar dK sl 41 [] (λA (m,node)=>anp A m node) (kz (fc func273 fz) (sc yd (sc O6 sz))) λ(m,node) i h=>alT
def anh(A:aS)(m:au)(node:Int):LT (Int×Int) Empty:=.br (A.cm (A.k N4 (m,node)) 0) (.ret (0,A.k N4 (m,node)))<|.ret (A.b .mul .i64 2<|A.b .add .i64 node 1,0)
def Mv(m:au)(n:Int):Int×Int:=bif decide (pN m n=0) then(af.b .mul .i64 2<|af.b .add .i64 n 1,0) else(0,pN m n)
theorem aqK{m:au}{n:Int}:bi Empty.elim (anh af m n)<|Mv m n:=by
 unfold anh Mv;refine aX (p:=¬pN m n=0) dU (λh=>?_) λh=>?_
 .exact aT (by rw[fQ h];rfl)<|.ret _
 .exact aT (by simp_all)<|.ret _
def Ke:(au×Int)->(Int×Int):=λ(m,n)=>Mv m n
def atw:aL:=.all [aW,yI] [yI,yI] Ke
def ahQ:Sd 221 atw:=fa<|cK ar dK sl 35 [] (λA (m,node)=>anh A m node) (kz (fc func221 fz) (sc ahT sz)) λ(m,node) i h=>aqK
def tW(m:au)(n:Int):Int×Int:=bif decide (pN m n=0) then(af.b .add .i64 (af.b .mul .i64 4 m.1)<|af.b .mul .i64 2<|af.b .add .i64 n 1,0) else(0,pN m n)
def ane(A:aS)(m:au)(node:Int):LT (Int×Int) Empty:=.br (A.cm (A.k Ke (m,node)).2 0) (.ret (0,(A.k Ke (m,node)).2))<|.ret (A.b .add .i64 (A.b .mul .i64 4 m.1) (A.k Ke (m,node)).1,0)
def aqE{m:au}{n:Int}:bi Empty.elim (ane af m n)<|tW m n:=by
 unfold ane tW;rw[show af.k Ke (m,n)=Mv m n from rfl,Mv];by_cases h:pN m n=0
 .rw[bX h];exact(al rfl).2 (.ret _)
 .rw[fQ h];exact(ap<|qD h).2 (.ret _)
def Ge:(au×Int)->(Int×Int):=λ(m,n)=>tW m n
def att:aL:=.all [aW,yI] [yI,yI] Ge
def T7:Sd 162 att:=fa<|cK ar dK sl 41 [] (λA (m,node)=>ane A m node) (kz (fc func162 fz) (sc ahQ sz)) λ(m,node) i h=>aqE
def anm(A:aS)(m:au)(h:Int)(node:Int):LT (Int×Int) Empty:=.br (A.cm (A.k N4 (m,node)) 0) (.ret (0,A.k N4 (m,node)))<|.br (A.not<|A.k lK (h,0,A.b .sub .i64 (A.l m.2.2.2.2.2.2.2) 1)) (.ret (0,2))<|.ao (A.and (A.bQ 0 h)<|A.bq h<|A.l m.2.2.2.2.2.2.2)<|.ao (A.and (A.bQ 0 node)<|A.bq node<|A.l (A.n eQ m.2.2.2.2.2.2.2 h:Mode).2.1)<|.ao (A.and (A.bQ 0 node)<|A.bq node<|A.l (A.n eQ m.2.2.2.2.2.2.2 h:Mode).1)<|.ret (A.k rC ((A.n .bool (A.n eQ m.2.2.2.2.2.2.2 h:Mode).2.1 node:Bool),(A.n yI (A.n eQ m.2.2.2.2.2.2.2 h:Mode).1 node:Int)),0)
def iY(m:au)(k n:Int):Int×Int:=bif decide (pN m n=0) then(bif decide (0<=k/\k<=iy m-1) then(rC ((af.n .bool (af.n eQ m.2.2.2.2.2.2.2 k:Mode).2.1 n:Bool),(af.n (.int .i64) (af.n eQ m.2.2.2.2.2.2.2 k:Mode).1 n:Int)),0) else(0,2)) else(0,pN m n)
theorem alR{m:au}{k n:Int}:bi Empty.elim (anm af m k n) (iY m k n):=by
 unfold anm iY;by_cases h:pN m n=0
 .obtain⟨l,j,u⟩:=KG h;have v:=(jc l).2.1;rw[bX h];have e:af.b .sub .i64 (iy m) 1=iy m-1:=by rw[ia,my (by omega) (by omega)]
  rw[show af.b .sub .i64 (af.l m.2.2.2.2.2.2.2) 1=iy m-1 from e];refine(al (xf h)).2 (kM (λi=>?_) λi=>?_)
  .exact aT (by grind) (.ret _)
  .have p:=sJ (yR l i.1 (show k<iy m by omega));refine aA.2 ⟨uE i.1 (show k<iy m by omega),aA.2 ⟨yS p.2.1 j (by omega),aA.2 ⟨yS p.1 j (by omega),?_⟩⟩⟩;exact aT (by rw[bX i];rfl) (.ret _)
 .rw[fQ h];exact(ap (qD h)).2 (.ret _)
def nR:(au×Int×Int)->(Int×Int):=λ(m,c,k)=>iY m c k
def atF:aL:=.all [aW,yI,yI] [yI,yI] nR
def abn:Sd 280 atF:=fa<|cK ar dK sl 66 [] (λA (m,i,node)=>anm A m i node) (kz (fc func280 fz) (sc O6 (sc ahM (sc ahT sz)))) λ(m,i,node) j h=>alR
def anf(A:aS)(c:gE)(n:Int):LT (gE×Int) Empty:=.br (A.cm (A.k vy (c,n)) 0) (.ret ((0,0,0,0,0),A.k vy (c,n)))<|.br (A.bG (A.b .add .i64 c.2.1 1) n) (.br (A.cm c.2.2.2.1 0) (.ret ((A.b .and .i64 (A.b .add .i64 c.1 1) 255,0,A.b .sub .i64 c.2.2.2.1 1,0,c.2.2.2.2),0))<|.ret ((A.b .and .i64 (A.b .add .i64 c.1 1) 255,0,c.2.2),0))<|.ret ((c.1,A.b .add .i64 c.2.1 1,c.2.2),0)
def ajj:∀k:Fin 256,af.b .and .i64 ((k.val:Int)+1) 255=((k.val:Int)+1).tmod 256:=by decide +kernel
def nC(c:gE)(n:Int):gE×Int:=bif decide (rz (c,n)=0) then(bif decide (c.2.1+1=n) then(bif decide (c.2.2.2.1=0) then(((c.1+1).tmod 256,0,c.2.2),0) else(((c.1+1).tmod 256,0,c.2.2.2.1-1,0,c.2.2.2.2),0)) else((c.1,c.2.1+1,c.2.2),0)) else((0,0,0,0,0),rz (c,n))
theorem alW{c:gE}{n:Int}:bi Empty.elim (anf af c n) (nC c n):=by
 unfold anf nC;by_cases h:rz (c,n)=0
 .obtain⟨v,A,B,C,D,E⟩:=uR h;have i:af.b .add .i64 c.1 1=c.1+1:=by rw[gB,my (by omega) (by omega)]
  have j:af.b .add .i64 c.2.1 1=c.2.1+1:=by rw[gB,my (by omega) (by omega)]
  have l:af.b .sub .i64 c.2.2.2.1 1=c.2.2.2.1-1:=by rw[ia,my (by omega) (by omega)]
  have u:af.b .and .i64 (c.1+1) 255=(c.1+1).tmod 256:=by
   have:=ajj ⟨c.1.toNat,by omega⟩
   grind
  rw[bX h,i,j,l,u];refine(al (xf h)).2 (aX (p:=c.2.1+1=n) dq (λh=>aX (p:=¬c.2.2.2.1=0) dU (λg=>?_) λg=>?_) λh=>?_)
  .exact aT (by simp_all) (.ret _)
  .exact aT (by simp_all) (.ret _)
  .exact aT (by simp_all) (.ret _)
 .rw[fQ h];exact(ap (qD h)).2 (.ret _)
def DO:(gE×Int)->(gE×Int):=λ(m,c)=>nC m c
def atu:aL:=.all [lf,yI] [lf,yI] DO
def arD:Sd 156 atu:=fa<|cK ar dK sl 80 [] (λA (c,n)=>anf A c n) (kz (fc func156 fz) (sc JJ sz)) λ(c,n) i h=>alW
def anq(A:aS)(node:Int):LT Int Empty:=.br (A.bq node 0) (.ret 0)<|.br (A.qE node 8) (.ret 0)<|.ao (A.bQ 0 node)<|.ret<|A.b .shl .i64 1 node
def XJ(n:Int):Int:=bif decide (0<=n/\n<=7) then af.b .shl .i64 1 n else 0
theorem awj{n:Int}:bi Empty.elim (anq af n)<|XJ n:=by
 unfold anq XJ;refine aX (p:=n<0) rfl (λh=>?_) λi=>aX (p:=8<=n) rfl (λh=>?_) λj=>aA.2 ⟨bX<|by omega,?_⟩
 .exact aT (by grind)<|.ret _
 .exact aT (by grind)<|.ret _
 .exact aT (by grind)<|.ret _
def YG:Int->Int:=XJ
def atJ:aL:=.all [yI] [yI] YG
def arK:Sd 203 atJ:=fa<|cK ar dK sl 28 [] (λA node=>anq A node) (kz (fc func203 fz) sz) λnode i h=>awj
def ani(A:aS)(c:gE)(node:Int):LT Bool Empty:=.ret<|A.cm (A.b .and .i64 c.2.2.2.2<|A.k YG node) 0
def awg{x:Int}:af.b .and .i64 x 0=0:=by
 show IntKind.i64.wrap (((BitVec.ofInt 64 x &&& BitVec.ofInt 64 0).toNat:Nat):Int)=0;rw[show BitVec.ofInt 64 0=0#64 from rfl,BitVec.and_zero];rfl
def UN(c:gE)(n:Int):Bool:=bif decide (0<=n/\n<=7) then af.cm (af.b .and .i64 c.2.2.2.2<|af.b .shl .i64 1 n) 0 else false
def aqD{c:gE}{n:Int}:bi Empty.elim (ani af c n)<|UN c n:=by
 unfold ani UN;refine aT ?_<|.ret _;rw[show af.k YG n=XJ n from rfl,XJ];cases decide (0<=n/\n<=7)
 .rw[cond_false,cond_false,awg];rfl
 .rfl
def SJ:(gE×Int)->Bool:=λ(m,c)=>UN m c
def atz:aL:=.all [lf,yI] [.bool] SJ
def ahR:Sd 144 atz:=fa<|cK ar dK sl 21 [] (λA (c,node)=>ani A c node) (kz (fc func144 fz) (sc arK sz)) λ(c,node) i h=>aqD
def kT(n:Node):Bool:=decide<|2<=n.2.1/\n.2.1<=4
def Pv(c:gE):Bool:=af.and (af.bG c.1 0)<|af.and (af.bG c.2.1 0)<|af.and (af.bG c.2.2.1 0)<|af.and (af.bG c.2.2.2.1 0)<|af.and (af.bG c.2.2.2.2 0) true
def zeroV(v:uO):Bool:=af.and (af.bG v.1 0)<|af.and (af.bG v.2.1 0)<|af.and (af.bG v.2.2.1 0)<|af.and (af.bG v.2.2.2.1 0)<|af.and (af.bG v.2.2.2.2.1 0)<|af.and (af.bG v.2.2.2.2.2.1 0)<|af.and (af.bG v.2.2.2.2.2.2 0) true
def FO(m:au)(n:Node):Bool:=bif kT n then(kZ m n.2.2.1&&(decide (tQ n.2.2.2.1=0)&&(decide (n.2.2.2.1.1=n.1)&&(decide (n.2.2.2.1.2.1=m.1)&&decide (n.2.2.1.2.2.2.2=n.2.2.2.1.2.2.1))))) else(Pv n.2.2.1&&zeroV n.2.2.2.1)
def IB(m:au)(n:Node):Bool:=bif decide (n.2.1=1) then decide (1<=n.2.2.2.2.1/\n.2.2.2.2.1<=(tW m n.1).1) else decide (n.2.2.2.2.1=0)
def Li(m:au)(n:Node):Bool:=bif decide (n.2.1=2) then(af.n .bool m.2.2.2.2.2.2.1 n.1:Bool) else true
def Lf(n:Node):Bool:=bif n.2.2.2.2.2.1 then decide (n.2.1=1\/n.2.1=2) else true
def U1(m:au)(n:Node):Bool:=decide (0<=n.1/\n.1<=m.1-1)&&(decide (0<=n.2.1/\n.2.1<=5)&&(decide (0<=n.2.2.2.2.2.2.1/\n.2.2.2.2.2.2.1<=2)&&(ja n.2.2.2.2.2.2.2&&(decide (n.2.2.2.2.2.2.2.1=n.1)&&(decide ((n.2.2.2.2.2.2.2.2.2.1.length:Int)=m.1)&&(Li m n&&(FO m n&&(IB m n&&Lf n))))))))
def dn(m:au)(n:Node):Int:=bif df m then(bif U1 m n then 0 else 180) else 70
theorem fR{m:au}{n:Node}:U1 m n=true↔(0<=n.1/\n.1<=m.1-1)/\(0<=n.2.1/\n.2.1<=5)/\(0<=n.2.2.2.2.2.2.1/\n.2.2.2.2.2.2.1<=2)/\ja n.2.2.2.2.2.2.2=true/\n.2.2.2.2.2.2.2.1=n.1/\(n.2.2.2.2.2.2.2.2.2.1.length:Int)=m.1/\Li m n=true/\FO m n=true/\IB m n=true/\Lf n=true:=by
 unfold U1;simp_all
theorem du{m:au}{n:Node}(h:dn m n=0):df m=true/\U1 m n=true:=by
 unfold dn at h
 grind
section
variable {R Y:Type} {step:Y->LT R Y} {e:LT R Y} {x y:R} {G:Bool}
theorem Ri[Decidable p]{b:Bool}(i:b=decide p)(h:G=true->¬p)(j:¬p->bi step e (bif G then x else y)):bi step (.br b (.ret y) e)<|bif G then x else y:=by
 refine aX i (λl=>?_) j;cases G
 .exact .ret _
 simp_all
theorem y1{b:Bool}(h:G=true->b=true)(i:b=true->bi step e (bif G then x else y)):bi step (.br (af.not b) (.ret y) e)<|bif G then x else y:=by
 cases b
 .cases G
  .exact(ap rfl).2 (.ret _)
  simp_all
 .exact(al rfl).2 (i rfl)
def TO(h:G=true):bi step (.ret x)<|bif G then x else y:=aT (by rw[h];rfl)<|.ret _
end
def lU:Node:=(0,0,(0,0,0,0,0),(0,0,0,0,0,0,0),0,false,0,0,([]:List Int),([]:List gY),0,0)
def rX(m:au)(id:Int):Node×Int:=bif df m then(bif decide (0<=id/\id<=m.1-1) then((id,0,(0,0,0,0,0),(0,0,0,0,0,0,0),0,false,0,id,([]:List Int),List.replicate m.1.toNat G5,4,-1),0) else(lU,2)) else(lU,70)
def E9{m:au}{n:Node}(h:dn m n=0):ja n.2.2.2.2.2.2.2=true:=(fR.1 (du h).2).d
def aev(h:ja c=true):¬8<(c.2.1.length:Int):=by
 simp[ja,eH,tP] at h;omega
theorem adi{c:gE}(h:Pv c=true):c=(0,0,0,0,0):=by
 have⟨a,b,d,e,f⟩:=c;simp[Pv,bF,bf] at h
 simp_all
theorem adj{c:uO}(h:zeroV c=true):c=(0,0,0,0,0,0,0):=by
 have⟨a,b,d,e,f,g,i⟩:=c;simp[zeroV,bF,bf] at h
 simp_all
def LX{m:au}{n:Node}(h:dn m n=0)(j:¬(2<=n.2.1/\n.2.1<=4)):n.2.2.1=(0,0,0,0,0)/\n.2.2.2.1=(0,0,0,0,0,0,0):=by
 have i:=(fR.1 (du h).2).h;rw[FO,kT,fQ j,cond_false,eH] at i;exact⟨adi i.1,adj i.2⟩
theorem Tw{m:au}{n:Node}(h:dn m n=0)(i:¬n.2.1=1):n.2.2.2.2.1=0:=by
 have j:=(fR.1 (du h).2).i;rw[IB,fQ i] at j
 simp_all
def ju(m:au)(n:Node)(on:Bool):Node×Int:=bif decide (dn m n=0) then(bif on then(bif decide (n.2.1=0) then((n.1,1,(0,0,0,0,0),(0,0,0,0,0,0,0),(tW m n.1).1,n.2.2.2.2.2),0) else(lU,181)) else rX m n.1) else(lU,dn m n)
def Vy{k:Int}(h:4<=k/\k<=8):16<=af.b .shl .i64 1 k/\af.b .shl .i64 1 k<=256:=by
 have:k=4\/k=5\/k=6\/k=7\/k=8:=by omega
 rcases this with rfl|rfl|rfl|rfl|rfl<;>decide
def Fp(m:au)(n:Node)(s:Int):Node×Int:=bif decide (dn m n=0) then(bif decide (n.2.1=0) then(bif decide (0<=s/\s<=af.b .shl .i64 1 m.1-1) then(bif qC s n.1 then((n.1,4,(0,0,0,0,s),(n.1,m.1,s,1,0,0,0),0,n.2.2.2.2.2),0) else(lU,2)) else(lU,2)) else(lU,181)) else(lU,dn m n)
def Ai(n:Node)(r:jo×Int):Node×Int:=bif decide (r.2=0) then((n.1,n.2.1,n.2.2.1,n.2.2.2.1,n.2.2.2.2.1,n.2.2.2.2.2.1,n.2.2.2.2.2.2.1,r.1),0) else(lU,r.2)
def zh(m:au)(n:Node)(o:dP):Node×Int:=bif decide (dn m n=0) then(bif decide (1<=o.2.2.2.1/\o.2.2.2.1<=3) then(bif kT n then(bif decide (o.2.2.2.1=1) then Ai n (K1 n.2.2.2.2.2.2.2 o.2.2.2.2.2) else bif decide (o.2.2.2.1=2) then Ai n (btS n.2.2.2.2.2.2.2) else Ai n (Jb n.2.2.2.2.2.2.2 o.2.2.2.2.1)) else(n,0)) else(lU,2)) else(lU,dn m n)
theorem Zl{step:Y->LT (Node×Int) Y}{n:Node}{r:jo×Int}{x:Int}(i:r.2=0->x=0):bi step (.br (af.cm r.2 0) (.ret (lU,r.2))<|.ret ((n.1,n.2.1,n.2.2.1,n.2.2.2.1,n.2.2.2.2.1,n.2.2.2.2.2.1,n.2.2.2.2.2.2.1,r.1),x))<|Ai n r:=by
 unfold Ai;refine aX (p:=¬r.2=0) dU (λh=>?_) λh=>?_
 .exact aT (by simp_all)<|.ret _
 .have h:=bY.1 h;exact aT (by simp_all)<|.ret _
end
end Go.Ev.M
