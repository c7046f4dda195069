/- PROVED: what functions compute, 1. Conditions: none. -/
import Derived.Test.YtdmeijjlkmmifaaGreatTy
import Derived.Test.YtdmeijjlkmmifaaGreatPl
import Derived.Shelf.Bytes.SlClone
set_option linter.unusedVariables false
set_option linter.defProp false
set_option linter.unusedSimpArgs false
namespace Go.Ev.M
open Go.Proofs Go.Proofs.Tryz
set_option maxRecDepth 100000
open Go.Ev.Pl
noncomputable section
def STD:(∀b x y:Bool,(bif b then x else y)=true↔(b=true->x=true)/\(b=false->y=true))/\(∀a b:Int,af.c .eql a b=(a==b))/\(∀a b:Int,af.c .neq a b=(a != b))/\(∀a b:Int,af.c .lss a b=decide (a<b))/\(∀a b:Int,af.c .leq a b=decide (a<=b))/\(∀a b:Int,af.c .gtr a b=decide (b<a))/\(∀a b:Int,af.c .geq a b=decide (b<=a))/\(∀x y:Bool,af.and x y=(x&&y))/\(∀x:Bool,af.not x=!x)/\(∀x y:Bool,af.q x y=(x==y))/\(∀(α β:Type)(f:α->β)(x:α),af.k f x=f x)/\(∀k (a b:Int),af.b .add k a b=k.wrap (a+b))/\(∀k (a b:Int),af.b .sub k a b=k.wrap (a-b))/\(∀k (a:Int),af.v k a=k.wrap a)/\(∀(α:Type)(l:List α),af.l l=(l.length:Int))/\(∀(α:Type)(x:α),tt x=true)/\(∀a b:Bool,((a&&b)=true)=(a=true/\b=true))/\(∀a b:Bool,((a||b)=true)=(a=true\/b=true))/\(∀a b:Bool,((a&&b)=false)↔(a=false\/b=false))/\(∀a b:Bool,((a||b)=false)↔(a=false/\b=false))/\(∀b:Bool,((!b)=true)=(b=false))/\(∀b:Bool,((!b)=false)=(b=true))/\(∀(p:Prop)[Decidable p],(decide p=true)=p)/\(∀(p:Prop)[Decidable p],(decide p=false)↔¬p):=⟨λ_ _ _=>Gn,λ_ _=>rfl,λ_ _=>rfl,λ_ _=>rfl,λ_ _=>rfl,λ_ _=>rfl,λ_ _=>rfl,λ_ _=>rfl,λ_=>rfl,λ_ _=>rfl,λ_ _ _ _=>rfl,λ_ _ _=>rfl,λ_ _ _=>rfl,λ_ _=>rfl,λ_ _=>rfl,λ_ _=>rfl,λ_ _=>Bool.and_eq_true ..,λ_ _=>Bool.or_eq_true ..,λ_ _=>Bool.and_eq_false_iff,λ_ _=>Bool.or_eq_false_iff,λ_=>by simp,λ_=>by simp,λ_ _=>decide_eq_true_eq,λ_ _=>decide_eq_false_iff_not⟩
def anl{i:Int}(h:0<=i)(j:i<=4611686018427387904):af.b .quo .i64 i 8=((i.toNat/8:Nat):Int):=by
 rw[Fs,i_ h,lZ (by omega)<|by omega];omega
def anm{i:Int}(h:0<=i):af.b .rem .i64 i 8=((i.toNat%8:Nat):Int):=by
 rw[Nv,ja h];omega
variable{b:List Int}{n:Int}
def G8(h:Ty.has (.struct [(.int .i64),.slice<|.int .u8]) (n,b)):(-9223372036854775808<=n/\n<=9223372036854775807)/\b.length<=fX/\oL b:=by
 exact⟨h.1,h.2.1,λx i=>h.2.2 x i⟩
def p9(h:Ty.has (.struct [(.int .i64),.slice<|.int .u8]) (n,b)):b.length<=140737488355328:=(G8 h).2.1
def an7(A:aS)(n:Int):LT Int Empty:=.ret<|A.b .quo .i64 (A.b .add .i64 n 7) 8
def lQ:Int->Int:=λn=>(an7 af n).val<|Ty.aR [yI]
def aug:aK:=.all [yI] [yI] lQ
def U3:Sd 320 aug:=fa<|aQ ax dJ sl 17 [] (λA n=>an7 A n)<|kz (fc func320 fz) sz
def ag4(A:aS)(i:Int):LT Int Empty:=.ao (A.bE 0<|A.b .rem .i64 i 8)<|.ret<|A.b .shr .u8 128<|A.b .rem .i64 i 8
def OD:Int->Int:=λi=>(ag4 af i).val<|Ty.aR [yU]
def x_:Int->Bool:=λi=>decide<|0<=i
def auA:aK:=⟨[yI],[yU],x_,OD,false⟩
def U6:Sd 328 auA:=aQ ax dJ sl 17 [] (λA i=>ag4 A i) (kz (fc func328 fz) sz) (λ(i:Int) j h=>by
 show(ag4 af i).pre=true;simp only[ag4,LT.pre,STD,bne_iff_ne,beq_iff_eq,bne_eq_false_iff_eq,beq_eq_false_iff_ne];simp only[x_,uR] at j;rw[anm j];exact⟨by omega,trivial⟩)
def Oz(h:0<=n)(i:n<=4611686018427387000):lQ n=(((n.toNat+7)/8:Nat):Int):=by
 simp[lQ,an7,LT.val];rw[gG,lZ (by omega)<|by omega,anl (by omega)<|by omega];omega
def ag3(A:aS)(j:Int)(h:List Int)(i:Int):LT Bool Empty:=.ao (A.and (A.bE 0<|A.b .quo .i64 i 8)<|A.bo (A.b .quo .i64 i 8)<|A.l h)<|.ao (A.k x_ i)<|.ret<|A.cm (A.b .and .u8 (A.n yU h (A.b .quo .i64 i 8):Int)<|A.k OD i) 0
def TJ:((Int×List Int)×Int)->Bool:=λ((j,h),i)=>(ag3 af j h i).val<|Ty.aR [.bool]
def Di:((Int×List Int)×Int)->Bool:=λ((n,b),i)=>decide (0<=i)&&decide (i<8*(b.length:Int))
def aus:aK:=⟨[(.struct [yI,yB]),yI],[.bool],Di,TJ,false⟩
def acC:Sd 331 aus:=aQ ax dJ sl 25 [] (λA ((l,j),i)=>ag3 A l j i) (kz (fc func331 fz) (sc U6 sz)) (λ(((l,j),i):(Int×List Int)×Int) m h=>by
 show(ag3 af l j i).pre=true;simp only[Di,fZ,uR] at m;have n:=p9 h.1;simp only[ag3,LT.pre,b_,bu,aB,bi,x_,fZ,uR,sO];rw[anl m.1<|by omega];refine⟨⟨by omega,by omega⟩,m.1,trivial⟩)
def t99(A:aS)(i:Int)(h:List Int):LT Int Empty:=.br (A.bo i 0) (.ret 10)<|.br (A.jD i 4096) (.ret 10)<|.br (A.cm (A.l h)<|A.k lQ i) (.ret 10)<|.br (A.cm (A.b .rem .i64 i 8) 0) (.ao (A.and (A.bE 0<|A.b .sub .i64 (A.l h) 1)<|A.bo (A.b .sub .i64 (A.l h) 1)<|A.l h)<|.ao (A.bE 0<|A.b .rem .i64 i 8)<|.br (A.cm (A.b .and .u8 (A.n yU h (A.b .sub .i64 (A.l h) 1):Int)<|A.b .shr .u8 255<|A.b .rem .i64 i 8) 0) (.ret 10)<|.ret 0)<|.ret 0
def uU:(Int×List Int)->Int:=λ(i,h)=>(t99 af i h).val<|Ty.aR [yI]
def azk:aK:=.all [(.struct [yI,yB])] [yI] uU
def Nr:Sd 285 azk:=fa (aQ ax dJ sl 67 [] (λA (j,i)=>t99 A j i) (kz (fc func285 fz) (sc U3 sz)) (λ((j,i):(Int×List Int)) q h=>by
 show(t99 af j i).pre=true;have p:=p9 h;simp only[t99,LT.pre,b_,bZ,bi,iA,aB,bu,adD,dO,sO,Gn,uR,decide_eq_false_iff_not,fZ,bne_iff_ne,bne_eq_false_iff_eq,ne_eq,implies_true,and_true,true_and];intro n o l m;rw[Oz (by omega)<|by omega] at l;rw[anm<|by omega] at m;rw[gX,lZ (by omega)<|by omega,anm<|by omega];omega))
def jQ{i:Nat}(h:i<4611686018427387904):af.b .add .i64 i 1=((i+1:Nat):Int):=by
 rw[gG,lZ (by omega)<|by omega];rfl
def uk{i j:Nat}(h:i+j<4611686018427387904):af.b .add .i64 (i:Int) (j:Int)=((i+j:Nat):Int):=by
 rw[gG,lZ (by omega)<|by omega];rfl
theorem bH{i j:Nat}:af.bo (i:Int) (j:Int)=decide (i<j):=by
 rw[bi];simp_all
def aif{i:Nat}:af.bE 0 (i:Int)=true:=by rfl
variable{u v:Int}
theorem apD(h:u=v):af.bq u v=true:=by simp_all;exact beq_self_eq_true _
theorem apC(h:u≠v):af.bq u v=false:=by simp_all;exact beq_eq_false_iff_ne.2 h
theorem zw(h:u=v):af.cm u v=false:=by simp_all;exact bne_self_eq_false _
theorem zx(h:u≠v):af.cm u v=true:=by simp_all;exact bne_iff_ne.2 h
variable{Y:Type}
def Go.run{R:Type}{s:Y->LT R Y}{t:LT R Y}{P:R->Prop}{d:R}(h:Go s t P):aV s t<|fA s t d:=dN (fQ (d:=d) h).1
variable{a:Int}
def rY{b:Int}(h:-4611686018427387904<=a+b/\a+b<=4611686018427387904):af.b .add .i64 a b=a+b:=by rw[gG,lZ (by omega)<|by omega]
def EE{b:Int}(h:-4611686018427387904<=a-b/\a-b<=4611686018427387904):af.b .sub .i64 a b=a-b:=by rw[gX,lZ (by omega)<|by omega]
def abP(h:0<=a/\a<=4611686018427387904):af.b .quo .i64 a 8=a/8:=by rw[anl h.1 h.2];omega
def E9(h:0<=n/\n<=100000):af.k lQ n=(n+7)/8:=by rw[b_,Oz h.1<|by omega];omega
def GV(h:af.k uU (n,b)=0):0<=n/\n<=4096/\(b.length:Int)=(n+7)/8:=by
 simp only[b_,uU,t99,LT.val,bZ,bi,iA] at h;by_cases i:n<0
 .simp[i] at h
 by_cases j:4096<n
 .simp[i,j] at h
 refine⟨by omega,by omega,?_⟩;rw[show lQ n=(n+7)/8 from E9<|by omega,gw i,gw j] at h;by_cases l:(b.length:Int)=(n+7)/8
 .exact l
 .rw[show(af.l b != (n+7)/8)=true from bne_iff_ne.2 l] at h;cases h
variable{B:List Int}
def ix8{x:Int}(h:0<=x/\x<8*(B.length:Int)/\x<=100000):af.and (af.bE 0<|af.b .quo .i64 x 8) (af.bo (af.b .quo .i64 x 8)<|af.l B)=true:=by
 rw[abP<|by omega,bu,aB,bi];show(decide _&&decide (_<(B.length:Int)))=true;rw[cr<|by omega,cr<|by omega];rfl
def am6{x:Int}(h:0<=x):af.k x_ x=true:=cr h
def am5{i:Int}(h:0<=i/\i<8*(b.length:Int)):af.k Di ((n,b),i)=true:=by
 show(decide _&&decide _)=true;rw[cr h.1,cr h.2];rfl
def aan{k:Int}:(af.spl (af.r k (0:Int)) 0<|af.s b 0<|af.mn (af.l b)<|af.l<|af.r k (0:Int)).length=k.toNat:=by
 rw[uK,mZ,jc,nU];show((List.replicate k.toNat (0:Int)).take 0++_++_).length=_;simp only[List.take_zero,iR,t_,dQ,Ht,dh,show(0:Int).toNat=0 from rfl];have h:af.l b=(b.length:Int):=rfl;have i:af.l (List.replicate k.toNat (0:Int))=(k.toNat:Int):=by show((List.replicate k.toNat (0:Int)).length:Int)=_;rw[Ht]
 rw[h,i];split<;>omega
def aa0{k:Int}(h:0<=k/\k<=100000):af.and (af.bq k k) (af.and (af.bE 0 k)<|af.bE k 140737488355328)=true:=by
 rw[bu,bu,bg,aB,aB,cr h.1,cr<|by omega,beq_self_eq_true];rfl
def u9{R:Type}{step:Y->LT R Y}{t i:LT R Y}{r:R}(h:t=i)(j:aV step i r):aV step t r:=h▸j
theorem ash{n:Nat}(h:0<=a)(i:n<=64):af.b .shr .u64 a (n:Int)=((a.toNat/2^n:Nat):Int):=by
 show a.fdiv (2^min (n:Int).toNat 64)=_
 grind
theorem asg{n:Nat}(h:0<=a)(i:n<=32):af.b .shr .u32 a (n:Int)=((a.toNat/2^n:Nat):Int):=by
 show a.fdiv (2^min (n:Int).toNat 32)=_
 grind
structure Xp where(a0 a1 a2 a4:Int)(a5:List Int)(a6 a7:Int)
inductive Yq where|c0(p:Xp)(a3:Int)(a8:List Int)
noncomputable def akj:Yq->gY
 | .c0 p a3 a8=>⟨[gW 259 63 [(1,.int .u64 false p.a0),(2,vi p.a1),(3,pZ 0),(6,pZ 1),(8,pZ 2),(43,vi p.a2),(44,vi a3)] f259 244],[gZ [vi p.a4,.sl yU p.a5],gZ [vi p.a6,.fG true],gZ [vi p.a7,.own 3],aZ yU a8,.a_]⟩
abbrev ac0(A:aS)(i:Int)(j:List Int)(v:Int)(h:Int):LT ((Int×List Int)×Int) Yq:=(.br (A.jD h<|A.b .sub .i64 4096 i) (.ret ((0,([]:List Int)),3))<|.ao (A.and (A.bq (A.k lQ<|A.b .add .i64 i h)<|A.k lQ<|A.b .add .i64 i h)<|A.and (A.bE 0<|A.k lQ<|A.b .add .i64 i h)<|A.bE (A.k lQ<|A.b .add .i64 i h) 140737488355328)<|.ak<|.c0 ⟨v,h,h,i,j,0,A.b .add .i64 i h⟩ 0<|A.spl (A.r (A.k lQ<|A.b .add .i64 i h) (0:Int)) 0<|A.s j 0<|A.mn (A.l j)<|A.l<|A.r (A.k lQ<|A.b .add .i64 i h) (0:Int))
def ag1(A:aS)(j:Int)(i:List Int)(v:Int)(h:Int):LT ((Int×List Int)×Int) Yq:=.br (A.cm (A.k uU (j,i)) 0) (.ret ((0,([]:List Int)),10))<|.br (A.bo h 0) (.ret ((0,([]:List Int)),2))<|.br (A.jD h 64) (.ret ((0,([]:List Int)),2))<|.br (A.bo h 64) (.ao (A.bE 0 h)<|.br (A.cm (A.b .shr .u64 v h) 0) (.ret ((0,([]:List Int)),2))<|ac0 A j i v h)<|ac0 A j i v h
def ags(A:aS):Yq->LT ((Int×List Int)×Int) Yq
 | .c0 p a3 a8=>.br (A.bo a3 p.a2) (.ao (A.bE 0<|A.b .sub .i64 (A.b .sub .i64 p.a1 1) a3)<|.br (A.bq (A.b .and .u64 (A.b .shr .u64 p.a0<|A.b .sub .i64 (A.b .sub .i64 p.a1 1) a3) 1) 1) (.ao (A.and (A.bE 0<|A.b .quo .i64 (A.b .add .i64 p.a4 a3) 8)<|A.bo (A.b .quo .i64 (A.b .add .i64 p.a4 a3) 8)<|A.l a8)<|.ao (A.k x_<|A.b .add .i64 p.a4 a3)<|.ao (A.and (A.bE 0<|A.b .quo .i64 (A.b .add .i64 p.a4 a3) 8)<|A.bo (A.b .quo .i64 (A.b .add .i64 p.a4 a3) 8)<|A.l a8)<|.ak<|.c0 p (A.b .add .i64 a3 1)<|A.set a8 (A.b .quo .i64 (A.b .add .i64 p.a4 a3) 8)<|A.b .or .u8 (A.n yU a8 (A.b .quo .i64 (A.b .add .i64 p.a4 a3) 8):Int)<|A.k OD<|A.b .add .i64 p.a4 a3)<|.ak<|.c0 p (A.b .add .i64 a3 1) a8)<|.ret ((p.a7,a8),0)
def ar2{p:Xp}{m:Nat}(o:p.a1=p.a2)(q:p.a2<=64)(u:0<=p.a4)(y:p.a4+p.a2<=8*(m:Int))(n:(m:Int)<=600):
  ∀(j:Nat) (i:Int) (B:List Int),p.a2-i<=(j:Int)->0<=i->B.length=m->Go (ags af) (.ak<|.c0 p i B) λ_=>True:=by
 intro j
 induction j with
 | zero=>exact λi B l _ _=>aP<|aW (λg=>by omega) λ_=>ay trivial
 | succ j ih=>
   intro i B l v h;refine aP (aW (λg=>ah ?_<|du (λ_=>?_) λ_=>?_) λ_=>ay trivial)
   .rw[o,EE (b:=1)<|by omega,EE<|by omega,aB];exact cr (by omega)
   .rw[rY (a:=p.a4)<|by omega];have n1:=ix8 (x:=p.a4+i) (B:=B) (by omega);refine ah n1<|ah (am6<|by omega)<|ah n1 ?_;rw[rY (a:=i)<|by omega];exact ih (i+1) _ (by omega) (by omega)<|(bW ..).trans h
   .rw[rY (a:=i)<|by omega];exact ih (i+1) B (by omega) (by omega) h
def ap1{w:Int}:Go (ags af) (ag1 af n b v w) λ_=>True:=by
 unfold ag1 ac0;refine dD (λ_=>ay trivial) λh=>aW (λ_=>ay trivial) λi=>kY (λ_=>ay trivial) λj=>?_;have⟨a,c,e⟩:=GV h;have o:af.bE 0 w=true:=cr i;refine aW (λ_=>ah o<|dD (λ_=>ay trivial) λ_=>?_) λ_=>?_
 all_goals
  refine kY (λ_=>ay trivial) λl=>?_;rw[EE<|by omega] at l;rw[rY (a:=n)<|by omega,E9<|by omega];exact ah (aa0<|by omega)<|ar2 (m:=((n+w+7)/8).toNat) rfl j a (by show n+w<=_;omega) (by omega) w.toNat 0 _ (by show w-0<=_;omega) (by omega) aan
def uv:((Int×List Int)×Int×Int)->((Int×List Int)×Int):=λ((n,b),v,w)=>fA (ags af) (ag1 af n b v w) ((0,[]),0)
def aud:aK:=.all [(.struct [yI,yB]),.int .u64,yI] [(.struct [yI,yB]),yI] uv
def acB:Sd 259 aud:=fa<|aX ax dJ sl 114 [⟨259,9,[[1,2,3,6,8,43,44]]⟩] [] (λA ((l,j),v,i)=>ag1 A l j v i) ags akj (kz (fc func259 (fc func304 (fc func305 (fc func307 fz)))) (sc Nr (sc U3 (sc U6 sz)))) (λA y=>match y with |.c0 p m n=>⟨63,sl,by kernel_rfl⟩) λ((l,j),v,i) o h=>Go.run ap1
structure Xs where(a0 a2 a4:Int)(a5:List Int)
inductive ad5 where|c0(p:Xs)(a1 a3:Int)
noncomputable def akl:ad5->gY
 | .c0 p a1 a3=>⟨[gW 321 54 [(1,vi p.a0),(3,pZ 0),(8,.int .u64 false a1),(39,vi p.a2),(40,vi a3)] f321 244],[gZ [vi p.a4,.sl yU p.a5],.a_]⟩
def t138(A:aS)(j:Int)(l:List Int)(i:Int)(h:Int):LT (Int×Int) ad5:=.br (A.cm (A.k uU (j,l)) 0) (.ret (0,10))<|.br (A.bo h 0) (.ret (0,2))<|.br (A.jD h 64) (.ret (0,2))<|.br (A.bo i 0) (.ret (0,2))<|.br (A.jD i j) (.ret (0,2))<|.br (A.jD h<|A.b .sub .i64 j i) (.ret (0,2))<|.ak<|.c0 ⟨i,h,j,l⟩ 0 0
def agt(A:aS):ad5->LT (Int×Int) ad5
 | .c0 p a1 a3=>.br (A.bo a3 p.a2) (.ao (A.k Di ((p.a4,p.a5),A.b .add .i64 p.a0 a3))<|.br (A.k TJ ((p.a4,p.a5),A.b .add .i64 p.a0 a3)) (.ak<|.c0 p (A.b .or .u64 (A.b .shl .u64 a1 1) 1)<|A.b .add .i64 a3 1)<|.ak<|.c0 p (A.b .shl .u64 a1 1)<|A.b .add .i64 a3 1)<|.ret (a1,0)
def Y4{x:Nat}(h:2*x<18446744073709551616):af.b .shl .u64 x 1=((2*x:Nat):Int):=by
 show IntKind.u64.wrap ((x:Int)*2^min (1:Int).toNat 64)=_;rw[show(2:Int)^min (1:Int).toNat 64=2 from rfl,apk (by omega)<|by omega];omega
def af3{x:Nat}(h:2*x<18446744073709551616):af.b .or .u64 ((2*x:Nat):Int) 1=((2*x+1:Nat):Int):=by
 show IntKind.u64.wrap ((BitVec.ofInt 64 ((2*x:Nat):Int) ||| BitVec.ofInt 64 1).toNat:Int)=_;rw[ji,show BitVec.ofInt 64 1=BitVec.ofNat 64 1 from rfl,BitVec.toNat_or,iJ,iJ,show 1%2^64=1 from rfl,lG<|by omega];have:=Nat.shiftLeft_add_eq_or_of_lt (i:=1) (b:=1) (by decide) x;rw[Nat.shiftLeft_eq,Nat.pow_one,rS x 2] at this;rw[<-this,apk (by omega)<|by omega]
def apZ{p:Xs}(n:0<=p.a0)(o:p.a2<=64)(q:p.a0+p.a2<=8*(p.a5.length:Int))(u:p.a0<=100000):
  ∀(j k v:Nat),p.a2-(k:Int)<=(j:Int)->(k:Int)<=p.a2->v<2^k->Go (agt af) (.ak<|.c0 p (v:Int) (k:Int)) λr=>0<=r.1/\r.1<2^p.a2.toNat:=by
 intro j
 induction j with
 | zero=>
   refine λk v h i m=>aP<|aW (λg=>by omega) λ_=>ay ⟨Int.natCast_nonneg v,?_⟩;rw[show p.a2.toNat=k by omega];show(v:Int)<2^k;rw[show(2:Int)^k=((2^k:Nat):Int) by simp];omega
 | succ j ih=>
   intro k v h i m;refine aP (aW (λg=>?_) λg=>ay ⟨Int.natCast_nonneg v,?_⟩)
   .have l:2^(k+1)<=18446744073709551616:=bd (gf (by decide)<|show k+1<=64 by omega) (by decide);rw[Nat.pow_succ] at l;rw[rY (a:=p.a0)<|by omega,Y4 (x:=v)<|by omega,jQ<|by omega];refine ah (am5<|by omega)<|du (λ_=>?_) λ_=>?_
    .rw[af3 (x:=v)<|by omega];exact ih (k+1) (2*v+1) (by omega) (by omega) (by rw[Nat.pow_succ];omega)
    .exact ih (k+1) (2*v) (by omega) (by omega) (by rw[Nat.pow_succ];omega)
   .rw[show p.a2.toNat=k by omega];show(v:Int)<2^k;rw[show(2:Int)^k=((2^k:Nat):Int) by simp];omega
def ah8{w:Int}:Go (agt af) (t138 af n b a w) λr=>0<=r.1/\r.1<2^w.toNat:=by
 have z:∀e:Int,0<=((0,e):Int×Int).1/\((0,e):Int×Int).1<2^w.toNat:=λe=>⟨aj 0,Int.pow_pos<|by decide⟩;unfold t138;refine dD (λ_=>ay<|z _) λh=>aW (λ_=>ay<|z _) λl=>kY (λ_=>ay<|z _) λi=>aW (λ_=>ay<|z _) λj=>kY (λ_=>ay<|z _) λm=>?_;have⟨c,d,e⟩:=GV h;rw[EE<|by omega];refine kY (λ_=>ay<|z _) λo=>?_;exact apZ (p:=⟨a,w,n,b⟩) j i (by show a+w<=8*(b.length:Int);omega) (by show a<=_;omega) w.toNat 0 0 (by show w-_<=_;omega) (by show _<=w;omega) (by decide)
def iv:((Int×List Int)×Int×Int)->(Int×Int):=λ((n,b),a,w)=>fA (agt af) (t138 af n b a w) (0,0)
def auh:aK:=.all [(.struct [yI,yB]),yI,yI] [(.int .u64),yI] iv
def U4:Sd 321 auh:=fa<|aX ax dJ sl 65 [⟨321,7,[[1,3,8,39,40]]⟩] [] (λA ((m,l),j,i)=>t138 A m l j i) agt akl (kz (fc func321 fz) (sc Nr (sc acC sz))) (λA y=>match y with |.c0 p a1 n=>⟨45,sl,by kernel_rfl⟩) λ((m,l),j,i) o h=>Go.run ah8
structure Xt where(a0 a1 a2 a4 a5:Int)(a6:List Int)(a7 a8:Int)
inductive ad6 where|c0(p:Xt)(a3:Int)(a9:List Int)
noncomputable def akm:ad6->gY
 | .c0 p a3 a9=>⟨[gW 308 52 [(1,vi p.a0),(3,vi p.a1),(4,vi p.a2),(5,pZ 0),(7,pZ 1),(10,vi a3)] f308 60,E8 323 39 [(6,pZ 2),(8,pZ 3)] f323 30 4],[gZ [vi p.a4,.own 4],gZ [vi p.a5,.sl yU p.a6],gZ [vi p.a7,.fG true],gZ [vi p.a8,.own 4],aZ yU a9,.a_]⟩
abbrev EF(A:aS)(h:Int)(i:Int):=(A.r (A.k lQ<|A.b .sub .i64 i h) (0:Int))
def ag2(A:aS)(l:Int)(j:List Int)(h:Int)(i:Int):LT ((Int×List Int)×Int) ad6:=.br (A.cm (A.k uU (l,j)) 0) (.ret ((0,([]:List Int)),10))<|.br (A.bo h 0) (.ret ((0,([]:List Int)),2))<|.br (A.bo i h) (.ret ((0,([]:List Int)),2))<|.br (A.jD i l) (.ret ((0,([]:List Int)),2))<|.ao (A.and (A.bq (A.k lQ<|A.b .sub .i64 i h)<|A.k lQ<|A.b .sub .i64 i h)<|A.and (A.bE 0<|A.k lQ<|A.b .sub .i64 i h)<|A.bE (A.k lQ<|A.b .sub .i64 i h) 140737488355328)<|.br (A.bq (A.b .rem .i64 h 8) 0) (.br (A.bq i l) (.ao (A.and (A.bE 0 0)<|A.and (A.bE 0<|A.l<|EF A h i)<|A.bE (A.l<|EF A h i)<|A.l<|EF A h i)<|.ao (A.and (A.bE 0<|A.b .quo .i64 h 8)<|A.and (A.bE (A.b .quo .i64 h 8)<|A.l j)<|A.bE (A.l j)<|A.l j)<|.ret ((A.b .sub .i64 i h,A.spl (EF A h i) 0<|A.s (A.s j (A.b .quo .i64 h 8)<|A.l j) 0<|A.mn (A.l<|A.s j (A.b .quo .i64 h 8)<|A.l j)<|A.b .sub .i64 (A.l<|EF A h i) 0),0))<|.ak<|.c0 ⟨0,h,i,A.b .sub .i64 i h,l,j,0,A.b .sub .i64 i h⟩ h<|EF A h i)<|.ak<|.c0 ⟨0,h,i,A.b .sub .i64 i h,l,j,0,A.b .sub .i64 i h⟩ h<|EF A h i
def ab0(A:aS):ad6->LT ((Int×List Int)×Int) ad6
 | .c0 p a3 a9=>.br (A.bo a3 p.a2) (.ao (A.k Di ((p.a5,p.a6),a3))<|.br (A.k TJ ((p.a5,p.a6),a3)) (.ao (A.and (A.bE 0<|A.b .quo .i64 (A.b .sub .i64 (A.b .add .i64 p.a0 a3) p.a1) 8)<|A.bo (A.b .quo .i64 (A.b .sub .i64 (A.b .add .i64 p.a0 a3) p.a1) 8)<|A.l a9)<|.ao (A.k x_<|A.b .sub .i64 (A.b .add .i64 p.a0 a3) p.a1)<|.ao (A.and (A.bE 0<|A.b .quo .i64 (A.b .sub .i64 (A.b .add .i64 p.a0 a3) p.a1) 8)<|A.bo (A.b .quo .i64 (A.b .sub .i64 (A.b .add .i64 p.a0 a3) p.a1) 8)<|A.l a9)<|.ak<|.c0 p (A.b .add .i64 a3 1)<|A.set a9 (A.b .quo .i64 (A.b .sub .i64 (A.b .add .i64 p.a0 a3) p.a1) 8)<|A.b .or .u8 (A.n yU a9 (A.b .quo .i64 (A.b .sub .i64 (A.b .add .i64 p.a0 a3) p.a1) 8):Int)<|A.k OD<|A.b .sub .i64 (A.b .add .i64 p.a0 a3) p.a1)<|.ak<|.c0 p (A.b .add .i64 a3 1) a9)<|.ret ((p.a8,a9),0)
def ayJ{p:Xt}{m:Nat}(l:p.a0=0)(o:0<=p.a1)(q:p.a2<=8*(p.a6.length:Int))(u:p.a2<=100000)(y:p.a2-p.a1<=8*(m:Int)):
  ∀(j:Nat) (i:Int) (B:List Int),p.a2-i<=(j:Int)->p.a1<=i->B.length=m->Go (ab0 af) (.ak<|.c0 p i B) λ_=>True:=by
 intro j
 induction j with
 | zero=>exact λi B n _ _=>aP<|aW (λg=>by omega) λ_=>ay trivial
 | succ j ih=>
   intro i B n v h;refine aP (aW (λg=>ah (am5<|by omega)<|du (λ_=>?_) λ_=>?_) λ_=>ay trivial)
   .rw[l,rY (a:=0)<|by omega,EE (a:=0+i)<|by omega];have n1:=ix8 (x:=0+i-p.a1) (B:=B) (by omega);refine ah n1<|ah (am6<|by omega)<|ah n1 ?_;rw[rY (a:=i)<|by omega];exact ih (i+1) _ (by omega) (by omega)<|(bW ..).trans h
   .rw[rY (a:=i)<|by omega];exact ih (i+1) B (by omega) (by omega) h
variable{e:Int}
def ap3:Go (ab0 af) (ag2 af n b a e) λ_=>True:=by
 unfold ag2 EF;refine dD (λ_=>ay trivial) λh=>aW (λ_=>ay trivial) λi=>aW (λ_=>ay trivial) λj=>kY (λ_=>ay trivial) λl=>?_;have⟨c,d,f⟩:=GV h;rw[EE (a:=e)<|by omega,E9<|by omega,abP<|by omega]
 have lp:∀x:Int,Go (ab0 af) (.ak<|.c0 ⟨0,a,e,e-a,n,b,0,e-a⟩ a<|af.r ((e-a+7)/8) (0:Int)) λ_=>True:=λ_=>
  ayJ (m:=((e-a+7)/8).toNat) rfl i (by show e<=8*(b.length:Int);omega) (by show e<=_;omega) (by show e-a<=_;omega) (e-a).toNat a _ (by show e-a<=_;omega) (aj a) (by rw[uK,Ht])
 refine ah (aa0<|by omega)<|du (λ_=>du (λ_=>ah ?_<|ah ?_<|ay trivial) λ_=>lp 0) λ_=>lp 0
 .rw[uK,bu,bu,aB,aB,aB];show(decide _&&(decide (_<=((List.replicate _ (0:Int)).length:Int))&&decide _))=true;simp;omega
 .rw[bu,bu,aB,aB,aB];show(decide _&&(decide (_<=(b.length:Int))&&decide _))=true;rw[cr<|by omega,cr<|by omega,cr<|aj _];rfl
def xH:((Int×List Int)×Int×Int)->((Int×List Int)×Int):=λ((n,b),a,e)=>fA (ab0 af) (ag2 af n b a e) ((0,[]),0)
def auj:aK:=.all [(.struct [yI,yB]),yI,yI] [(.struct [yI,yB]),yI] xH
def aiv:Sd 323 auj:=fa<|aX ax dJ sl 118 [⟨308,4,[[1,3,4,5,7,10],[6,8]]⟩] [] (λA ((l,j),i,m)=>ag2 A l j i m) ab0 akm (kz (fc func323 (fc func305 (fc func307 (fc func308 fz)))) (sc Nr (sc U3 (sc acC (sc U6 sz))))) (λA y=>match y with |.c0 p n o=>⟨57,sl,by kernel_rfl⟩) λ((l,j),i,m) q h=>Go.run ap3
variable{l:List (Int×List Int)}
def O2(h:Ty.lC [(.slice<|.struct [(.int .i64),.slice<|.int .u8])] l):l.length<=140737488355328/\∀x∈l,oL x.2/\x.2.length<=140737488355328:=by
 have i:l.length<=fX/\∀x∈l,Ty.has (.struct [(.int .i64),.slice<|.int .u8]) x:=h;exact⟨i.1,λx j=>⟨(G8 (n:=x.1) (b:=x.2)<|i.2 x j).2.2,(G8 (n:=x.1) (b:=x.2)<|i.2 x j).2.1⟩⟩
variable{α:Type}
theorem eO{l:List α}{i:Nat}(h:i<l.length)(d:α):l.getD (i:Int).toNat d=l[i]:=by simp_all
theorem cJ{l:List α}{i:Nat}(h:i<l.length):af.and (af.bE 0 i) (af.bo i<|af.l l)=true:=by
 have:af.l l=(l.length:Int):=rfl;rw[this,aif,bH,bu];simp_all
def awL(A:aS)(r:Int):LT Int Empty:=.br (A.bq (A.b .shr .u32 r 23) 1) (.ret<|A.b .xor .u32 (A.b .and .u32 (A.b .shl .u32 r 1) 16777215) 6122955)<|.ret<|A.b .and .u32 (A.b .shl .u32 r 1) 16777215
def TN:Int->Int:=λr=>(awL af r).val<|Ty.aR [(.int .u32)]
def auE:aK:=.all [(.int .u32)] [(.int .u32)] TN
def aiA:Sd 345 auE:=fa<|aQ ax dJ sl 35 [] (λA r=>awL A r)<|kz (fc func345 fz) sz
def apj(h:0<=a)(i:a<=4294967295):IntKind.u32.wrap a=a:=IntWalk.u32_in a ⟨h,i⟩
def ai_{a b:Nat}(h:a<4294967296)(i:b<4294967296):af.b .xor .u32 (a:Int) (b:Int)=((a ^^^ b:Nat):Int):=by
 show IntKind.u32.wrap ((BitVec.ofInt 32 (a:Int) ^^^ BitVec.ofInt 32 b).toNat:Int)=_;rw[ji,ji,BitVec.toNat_xor,iJ,iJ,lG h,lG i];have:a ^^^ b<2^32:=Nat.xor_lt_two_pow h i;rw[apj (by omega)<|by omega]
structure ajo where(a0 a1 a2 a3 a4 a5 a6 a7 a8 a9 jd lq a12 E5 N8 N9 a16 a17 Tn Qy a20 a21 a22 a23 a24 a25 a26 a27 a28 a29 a30 a31 a32:Int)
structure Xw where(b0 b2 b4 b5 b6 b7 b8 b9 b10 b11 b12 b13 LG E6 jC w_ Xa CQ Xb LH Tv b23 b24 b25 b26 b27 b28 b29 b30 b31 b32 b33 b34 b35:Int)
inductive aea where|c0(p:ajo)|c1(p:Xw)(b1 b3:Int)
noncomputable def akt:aea->gY
 | .c0 p=>⟨[gW 329 20 [(0,pZ 0),(1,pZ 1),(4,vi p.a0)] f329 116],[gZ [uZ p.a1,uZ p.a2,uZ p.a3,uZ p.a4,uZ p.a5,uZ p.a6,uZ p.a7,uZ p.a8,uZ p.a9,uZ p.jd,uZ p.lq,uZ p.a12,uZ p.E5,uZ p.N8,uZ p.N9,uZ p.a16],gZ [uZ p.a17,uZ p.Tn,uZ p.Qy,uZ p.a20,uZ p.a21,uZ p.a22,uZ p.a23,uZ p.a24,uZ p.a25,uZ p.a26,uZ p.a27,uZ p.a28,uZ p.a29,uZ p.a30,uZ p.a31,uZ p.a32],.a_]⟩
 | .c1 p b1 b3=>⟨[gW 329 20 [(0,pZ 0),(1,pZ 1),(2,vi p.b0),(3,uZ b1),(4,vi p.b2),(10,vi b3)] f329 119604],[gZ [uZ p.b4,uZ p.b5,uZ p.b6,uZ p.b7,uZ p.b8,uZ p.b9,uZ p.b10,uZ p.b11,uZ p.b12,uZ p.b13,uZ p.LG,uZ p.E6,uZ p.jC,uZ p.w_,uZ p.Xa,uZ p.CQ],gZ [uZ p.Xb,uZ p.LH,uZ p.Tv,uZ p.b23,uZ p.b24,uZ p.b25,uZ p.b26,uZ p.b27,uZ p.b28,uZ p.b29,uZ p.b30,uZ p.b31,uZ p.b32,uZ p.b33,uZ p.b34,uZ p.b35],.a_]⟩
def awK(A:aS):LT (List Int) aea:=.ak<|.c0 ⟨0,0,0,0,0,0,0,0,0,0,0,0,0,0,0,0,0,0,0,0,0,0,0,0,0,0,0,0,0,0,0,0,0⟩
abbrev lI(A:aS)(p:Xw)(h:Int):=(A.set [p.Xb,p.LH,p.Tv,p.b23,p.b24,p.b25,p.b26,p.b27,p.b28,p.b29,p.b30,p.b31,p.b32,p.b33,p.b34,p.b35] p.b0 h)
def ar9(A:aS):aea->LT (List Int) aea
 | .c0 p=>.br (A.bo p.a0 16) (.ak<|.c1 ⟨p.a0,p.a0,p.a1,p.a2,p.a3,p.a4,p.a5,p.a6,p.a7,p.a8,p.a9,p.jd,p.lq,p.a12,p.E5,p.N8,p.N9,p.a16,p.a17,p.Tn,p.Qy,p.a20,p.a21,p.a22,p.a23,p.a24,p.a25,p.a26,p.a27,p.a28,p.a29,p.a30,p.a31,p.a32⟩ (A.b .shl .u32 (A.v .u32 p.a0) 20) 0)<|.ret [p.a17,p.Tn,p.Qy,p.a20,p.a21,p.a22,p.a23,p.a24,p.a25,p.a26,p.a27,p.a28,p.a29,p.a30,p.a31,p.a32]
 | .c1 p b1 b3=>.br (A.bo b3 4) (.ak<|.c1 p (A.k TN b1)<|A.b .add .i64 b3 1)<|.ao (A.and (A.bE 0 p.b0)<|A.bo p.b0 16)<|.ak<|.c0 ⟨A.b .add .i64 p.b2 1,p.b4,p.b5,p.b6,p.b7,p.b8,p.b9,p.b10,p.b11,p.b12,p.b13,p.LG,p.E6,p.jC,p.w_,p.Xa,p.CQ,(A.n (.int .u32) (lI A p b1) 0:Int),(A.n (.int .u32) (lI A p b1) 1:Int),(A.n (.int .u32) (lI A p b1) 2:Int),(A.n (.int .u32) (lI A p b1) 3:Int),(A.n (.int .u32) (lI A p b1) 4:Int),(A.n (.int .u32) (lI A p b1) 5:Int),(A.n (.int .u32) (lI A p b1) 6:Int),(A.n (.int .u32) (lI A p b1) 7:Int),(A.n (.int .u32) (lI A p b1) 8:Int),(A.n (.int .u32) (lI A p b1) 9:Int),(A.n (.int .u32) (lI A p b1) 10:Int),(A.n (.int .u32) (lI A p b1) 11:Int),(A.n (.int .u32) (lI A p b1) 12:Int),(A.n (.int .u32) (lI A p b1) 13:Int),(A.n (.int .u32) (lI A p b1) 14:Int),(A.n (.int .u32) (lI A p b1) 15:Int)⟩
def goT{R Y:Type}(step:Y->LT R Y):Nat->LT R Y->Option R
 | 0,_=>none
 | _+1,.ret r=>some r
 | n+1,.ak y=>goT step n<|step y
 | n+1,.br b t e=>bif b then goT step n t else goT step n e
 | n+1,.ao b t=>bif b then goT step n t else none
 | _+1,_=>none
def aai{R:Type}{step:Y->LT R Y}:∀{n:Nat} {t:LT R Y} {r:R},goT step n t=some r->aV step t r:=by
 intro n
 induction n with
 | zero=>intro t r h;cases h
 | succ n ih=>
   intro t r h;cases t with
   | ret x=>cases h;exact .ret _
   | ak y=>exact .ak<|ih h
   | br b t e=>
     cases b
     .exact(ap rfl).2 (ih h)
     .exact(ar rfl).2 (ih h)
   | ao b t=>
     cases b
     .cases h
     .exact au.2 ⟨rfl,ih h⟩
   | eqs p t=>cases h
   | and a b=>cases h
   | bY m s=>cases h
def SJ:List Int:=[0,6122955,12245910,15185501,2677479,7714604,9568625,13593786,5354958,841733,15429208,11928467,7958313,2360034,12825791,10410356]
def apa:aV (ar9 af) (awK af) SJ:=aai (n:=400) (by kernel_rfl)
def rz:Unit->(List Int):=λ_=>[0,6122955,12245910,15185501,2677479,7714604,9568625,13593786,5354958,841733,15429208,11928467,7958313,2360034,12825791,10410356]
def auB:aK:=.all [] [(.arr 16<|.int .u32)] rz
def asx:Sd 329 auB:=fa<|aX ax dJ sl 21 [⟨329,3,[[0,1,4]]⟩,⟨329,7,[[0,1,2,3,4,10]]⟩] [] (λA _=>awK A) ar9 akt (kz (fc func329 fz) (sc aiA sz)) (λA y=>match y with |.c0 p=>⟨34,sl,by kernel_rfl⟩|.c1 p b1 b3=>⟨25,sl,by kernel_rfl⟩) λ_ i h=>apa
structure ajk where(a0:Int)(a1:List (Int×List Int))(a2 a3 a4 a5 a6 a7 a8 a9 jd lq a12 E5 N8 N9 a16 a17 Tn Qy:Int)
structure Xu where(b2:List (Int×List Int))(b3 b4 b5 b6 b7 b8 b9 b10 b11 b12 b13 LG E6 jC w_ Xa CQ Xb LH:Int)(Tv:List Int)
structure Xv where(c2:List (Int×List Int))(c3 c4 c5:Int)(c6:List Int)(c7 c8 c9 c10 c11 c12 c13 c14 Oj c16 c17 c18 c19 c20 c21 c22:Int)
inductive ad8 where|c0(p:ajk)|c1(p:Xu)(b0 b1:Int)|c2(p:Xv)(c0 c1:Int)
noncomputable def akq:ad8->gY
 | .c0 p=>⟨[gW 306 26 [(4,pZ 0),(5,uZ p.a0),(10,.sl (.struct [yI,yB]) p.a1),(11,vi p.a2),(12,vi p.a3)] f306 244],[gZ [uZ p.a4,uZ p.a5,uZ p.a6,uZ p.a7,uZ p.a8,uZ p.a9,uZ p.jd,uZ p.lq,uZ p.a12,uZ p.E5,uZ p.N8,uZ p.N9,uZ p.a16,uZ p.a17,uZ p.Tn,uZ p.Qy],.a_]⟩
 | .c1 p b0 b1=>⟨[gW 330 57 [(0,uZ b0),(2,pZ 0),(4,pZ 1),(7,vi b1)] f330 56,E8 306 26 [(4,pZ 0),(10,.sl (.struct [yI,yB]) p.b2),(11,vi p.b3),(12,vi p.b4)] f306 15667 2],[gZ [uZ p.b5,uZ p.b6,uZ p.b7,uZ p.b8,uZ p.b9,uZ p.b10,uZ p.b11,uZ p.b12,uZ p.b13,uZ p.LG,uZ p.E6,uZ p.jC,uZ p.w_,uZ p.Xa,uZ p.CQ,uZ p.Xb],gZ [vi p.LH,.sl yU p.Tv],.a_]⟩
 | .c2 p c0 c1=>⟨[gW 330 57 [(0,uZ c0),(4,pZ 0),(7,vi c1)] f330 120,E8 306 26 [(4,pZ 1),(10,.sl (.struct [yI,yB]) p.c2),(11,vi p.c3),(12,vi p.c4)] f306 15667 2],[gZ [vi p.c5,.sl yU p.c6],gZ [uZ p.c7,uZ p.c8,uZ p.c9,uZ p.c10,uZ p.c11,uZ p.c12,uZ p.c13,uZ p.c14,uZ p.Oj,uZ p.c16,uZ p.c17,uZ p.c18,uZ p.c19,uZ p.c20,uZ p.c21,uZ p.c22],.a_]⟩
def aoa(A:aS)(l:List<|Int×List Int):LT (Int×Int) ad8:=.ak<|.c0 ⟨0,l,A.l l,0,(A.n (.int .u32) (A.k rz ()) 0:Int),(A.n (.int .u32) (A.k rz ()) 1:Int),(A.n (.int .u32) (A.k rz ()) 2:Int),(A.n (.int .u32) (A.k rz ()) 3:Int),(A.n (.int .u32) (A.k rz ()) 4:Int),(A.n (.int .u32) (A.k rz ()) 5:Int),(A.n (.int .u32) (A.k rz ()) 6:Int),(A.n (.int .u32) (A.k rz ()) 7:Int),(A.n (.int .u32) (A.k rz ()) 8:Int),(A.n (.int .u32) (A.k rz ()) 9:Int),(A.n (.int .u32) (A.k rz ()) 10:Int),(A.n (.int .u32) (A.k rz ()) 11:Int),(A.n (.int .u32) (A.k rz ()) 12:Int),(A.n (.int .u32) (A.k rz ()) 13:Int),(A.n (.int .u32) (A.k rz ()) 14:Int),(A.n (.int .u32) (A.k rz ()) 15:Int)⟩
def IB(A:aS):ad8->LT (Int×Int) ad8
 | .c0 p=>.br (A.bo p.a3 p.a2) (.ao (A.and (A.bE 0 p.a3)<|A.bo p.a3<|A.l p.a1)<|.br (A.cm (A.k uU (A.n (.struct [yI,yB]) p.a1 p.a3:Int×List Int)) 0) (.ret (0,A.k uU (A.n (.struct [yI,yB]) p.a1 p.a3:Int×List Int)))<|.ak<|.c1 ⟨p.a1,p.a2,p.a3,p.a4,p.a5,p.a6,p.a7,p.a8,p.a9,p.jd,p.lq,p.a12,p.E5,p.N8,p.N9,p.a16,p.a17,p.Tn,p.Qy,(A.n (.struct [yI,yB]) p.a1 p.a3:Int×List Int).1,(A.n (.struct [yI,yB]) p.a1 p.a3:Int×List Int).2⟩ p.a0 0)<|.ret (p.a0,0)
 | .c1 p b0 b1=>.br (A.bE (A.b .add .i64 b1 4) p.LH) (.ao (A.and (A.bE 0<|A.b .xor .u32 (A.b .shr .u32 b0 20)<|A.v .u32 (A.k iv ((p.LH,p.Tv),b1,4)).1)<|A.bo (A.b .xor .u32 (A.b .shr .u32 b0 20)<|A.v .u32 (A.k iv ((p.LH,p.Tv),b1,4)).1) 16)<|.ak<|.c1 p (A.b .xor .u32 (A.b .and .u32 (A.b .shl .u32 b0 4) 16777215) (A.n (.int .u32) [p.b5,p.b6,p.b7,p.b8,p.b9,p.b10,p.b11,p.b12,p.b13,p.LG,p.E6,p.jC,p.w_,p.Xa,p.CQ,p.Xb] (A.b .xor .u32 (A.b .shr .u32 b0 20)<|A.v .u32 (A.k iv ((p.LH,p.Tv),b1,4)).1):Int))<|A.b .add .i64 b1 4)<|.ak<|.c2 ⟨p.b2,p.b3,p.b4,p.LH,p.Tv,p.b5,p.b6,p.b7,p.b8,p.b9,p.b10,p.b11,p.b12,p.b13,p.LG,p.E6,p.jC,p.w_,p.Xa,p.CQ,p.Xb⟩ b0 b1
 | .c2 p c0 c1=>.br (A.bo c1 p.c5) (.ak<|.c2 p (A.k TN<|A.b .xor .u32 c0<|A.b .shl .u32 (A.v .u32 (A.k iv ((p.c5,p.c6),c1,1)).1) 23)<|A.b .add .i64 c1 1)<|.ak<|.c0 ⟨c0,p.c2,p.c3,A.b .add .i64 p.c4 1,p.c7,p.c8,p.c9,p.c10,p.c11,p.c12,p.c13,p.c14,p.Oj,p.c16,p.c17,p.c18,p.c19,p.c20,p.c21,p.c22⟩
abbrev Rg(r:Int):Prop:=0<=r/\r<16777216
def adV{b:Int}(h:Rg a)(i:Rg b):Rg<|af.b .xor .u32 a b:=by
 obtain⟨a,rfl⟩:=bf h.1;obtain⟨b,rfl⟩:=bf i.1;have:a ^^^ b<2^24:=Nat.xor_lt_two_pow (by have:=h.2;omega) (by have:=i.2;omega);rw[ai_ (by have:=h.2;omega) (by have:=i.2;omega)];exact⟨Int.natCast_nonneg _,by omega⟩
def QH:Rg<|af.b .and .u32 a 16777215:=by
 show Rg<|IntKind.u32.wrap ((BitVec.ofInt 32 a &&& BitVec.ofInt 32 ((16777215:Nat):Int)).toNat:Int);rw[ji,BitVec.toNat_and,iJ];have:(BitVec.ofInt 32 a).toNat &&& (16777215%2^32)<=16777215:=Nat.and_le_right;rw[apj (by omega)<|by omega];exact⟨Int.natCast_nonneg _,by omega⟩
def ar6{r:Int}:Rg<|af.k TN r:=by
 show Rg<|bif af.bq (af.b .shr .u32 r 23) 1 then _ else _;cases af.bq (af.b .shr .u32 r 23) 1
 .exact QH
 .exact adV QH ⟨by decide,by decide⟩
def ao_{i:Int}:Rg (af.n (.int .u32) SJ i:Int):=by
 show Rg<|SJ.getD i.toNat 0;by_cases h:i.toNat<16
 .exact(by decide +kernel:∀k:Fin 16,Rg<|SJ.getD k.val 0) ⟨i.toNat,h⟩
 .rw[Jt,k_<|show SJ.length<=_ from(by show 16<=_;omega)];exact⟨by decide,by decide⟩
def ahA{L:List Int}{i:Int}(h:L=SJ):Rg (af.n (.int .u32) L i:Int):=by rw[h];exact ao_
def ayh{w:Int}:0<=(af.k iv ((n,b),a,w)).1/\(af.k iv ((n,b),a,w)).1<2^w.toNat:=(fQ (d:=(0,0))<|ah8 (n:=n) (a:=a) (w:=w) (b:=b)).2
def apN{p:Xv}(n:p.c5<=10000)(l:∀r,Rg r->Go (IB af) (.ak<|.c0 ⟨r,p.c2,p.c3,af.b .add .i64 p.c4 1,p.c7,p.c8,p.c9,p.c10,p.c11,p.c12,p.c13,p.c14,p.Oj,p.c16,p.c17,p.c18,p.c19,p.c20,p.c21,p.c22⟩) λ_=>True):
  ∀(j:Nat) (x i:Int),p.c5-i<=(j:Int)->0<=i->Rg x->Go (IB af) (.ak<|.c2 p x i) λ_=>True:=by
 intro j
 induction j with
 | zero=>exact λx i m _ h=>aP<|aW (λg=>by omega) λ_=>l x h
 | succ j ih=>
   intro x i m o h;refine aP (aW (λg=>?_) λ_=>l x h);rw[rY (a:=i)<|by omega];exact ih _ (i+1) (by omega) (by omega) ar6
def apM{p:Xu}(A:[p.b5,p.b6,p.b7,p.b8,p.b9,p.b10,p.b11,p.b12,p.b13,p.LG,p.E6,p.jC,p.w_,p.Xa,p.CQ,p.Xb]=SJ)(y:p.LH<=10000)(u:∀r,Rg r->Go (IB af) (.ak<|.c0 ⟨r,p.b2,p.b3,af.b .add .i64 p.b4 1,p.b5,p.b6,p.b7,p.b8,p.b9,p.b10,p.b11,p.b12,p.b13,p.LG,p.E6,p.jC,p.w_,p.Xa,p.CQ,p.Xb⟩) λ_=>True):
  ∀(j:Nat) (x i:Int),p.LH-i<=(j:Int)->0<=i->i<=20000->Rg x->Go (IB af) (.ak<|.c1 p x i) λ_=>True:=by
 intro j
 have m:∀x i:Int,0<=i->Rg x->Go (IB af) (.ak<|.c2 ⟨p.b2,p.b3,p.b4,p.LH,p.Tv,p.b5,p.b6,p.b7,p.b8,p.b9,p.b10,p.b11,p.b12,p.b13,p.LG,p.E6,p.jC,p.w_,p.Xa,p.CQ,p.Xb⟩ x i) λ_=>True:=λx i l h=>
  apN y u (p.LH-i).toNat x i (by show p.LH-i<=_;omega) l h
 induction j with
 | zero=>
   refine λx i z l q h=>aP ?_;rw[IB,rY (a:=i)<|by omega];exact xQ (λg=>by omega) λ_=>m x i l h
 | succ j ih=>
   intro x i z l q h;refine aP ?_;rw[IB,rY (a:=i) (by omega)];refine xQ (λg=>ah ?_ ?_) λ_=>m x i l h
   .have⟨D,o⟩:=ayh (n:=p.LH) (b:=p.Tv) (a:=i) (w:=4);have o:(af.k iv ((p.LH,p.Tv),i,4)).1<16:=o;have⟨v,B⟩:=bf D;obtain⟨x,rfl⟩:=bf h.1;have C:x<16777216:=by have:=h.2;omega
    rw[B,acY,apj (by omega)<|by omega,show af.b .shr .u32 x 20=((x/2^20:Nat):Int) from asg (n:=20) (by omega)<|by decide,ai_ (by omega)<|by omega];have:x/2^20 ^^^ v<2^4:=Nat.xor_lt_two_pow (by omega) (by omega);rw[bu,aB,bi,cr<|by omega,cr<|by omega];rfl
   .refine ih _ (i+4) (by omega) (by omega) (by omega)<|adV QH ?_;exact ahA A
def apL(y:l.length<=140737488355328):∀(j i:Nat) (r:Int),l.length-i=j->i<=l.length->Rg r->
  Go (IB af) (.ak<|.c0 ⟨r,l,af.l l,(i:Int),0,6122955,12245910,15185501,2677479,7714604,9568625,13593786,5354958,841733,15429208,11928467,7958313,2360034,12825791,10410356⟩) λ_=>True:=by
 intro j
 induction j with
 | zero=>exact λi r p o _=>aP<|aW (λg=>by have g:(i:Int)<(l.length:Int):=g;omega) λ_=>ay trivial
 | succ j ih=>
   intro i r p o v;have m:i<l.length:=by omega
   refine aP<|aW (λ_=>ah (cJ m)<|dD (λ_=>ay trivial) λh=>?_) λ_=>ay trivial;rw[show(af.n (.struct [(.int .i64),.slice<|.int .u8]) l (i:Int):Int×List Int)=l[i] from eO m _] at h ⊢;generalize l[i]=x at h ⊢;have⟨n,b⟩:=x;have⟨a,c,e⟩:=GV h;refine apM rfl (by show n<=_;omega) (λq u=>?_) n.toNat r 0 (by show n-0<=_;omega) (aj 0) (by decide) v;rw[jQ (i:=i)<|by omega];exact ih (i+1) q (by omega) (by omega) u
def ap4(h:l.length<=140737488355328):Go (IB af) (aoa af l) λ_=>True:=apL h l.length 0 0 rfl (aM _) ⟨by decide,by decide⟩
def GG:(List<|Int×List Int)->(Int×Int):=λl=>fA (IB af) (aoa af l) (0,0)
def aur:aK:=.all [(.slice<|.struct [yI,yB])] [(.int .u32),yI] GG
def aiy:Sd 306 aur:=fa<|aX ax dJ sl 30 [⟨306,4,[[4,5,10,11,12]]⟩,⟨330,2,[[0,2,4,7],[4,10,11,12]]⟩,⟨330,6,[[0,4,7],[4,10,11,12]]⟩] [] (λA l=>aoa A l) IB akq (kz (fc func306 (fc func330 fz)) (sc Nr (sc U4 (sc asx (sc aiA sz))))) (λA y=>match y with |.c0 p=>⟨52,sl,by kernel_rfl⟩|.c1 p b0 b1=>⟨52,sl,by kernel_rfl⟩|.c2 p c0 c1=>⟨44,sl,by kernel_rfl⟩) λl i h=>Go.run<|ap4 (O2 h).1
abbrev Qk(A:aS)(h:Int)(i:List Int):=(A.k xH ((h,i),0,A.b .sub .i64 h 24))
def t139(A:aS)(j:Int)(l:List Int)(i:Int)(h:List Int):LT ((Int×List Int)×Int) Empty:=.br (A.cm (A.k uU (j,l)) 0) (.ret ((0,([]:List Int)),10))<|.br (A.cm (A.k uU (i,h)) 0) (.ret ((0,([]:List Int)),10))<|.br (A.bo j 24) (.ret ((0,([]:List Int)),20))<|.br (A.cm (A.k GG [(i,h),(Qk A j l).1]).2 0) (.ret ((0,([]:List Int)),(A.k GG [(i,h),(Qk A j l).1]).2))<|.br (A.cm (A.v .u64 (A.k GG [(i,h),(Qk A j l).1]).1) (A.k iv ((j,l),(Qk A j l).1.1,24)).1) (.ret ((0,([]:List Int)),21))<|.ret ((Qk A j l).1,0)
def ry:((Int×List Int)×(Int×List Int))->((Int×List Int)×Int):=λ((l,j),i,h)=>(t139 af l j i h).val<|Ty.aR [(.struct [yI,yB]),yI]
def aui:aK:=.all [(.struct [yI,yB]),.struct [yI,yB]] [(.struct [yI,yB]),yI] ry
def asr:Sd 322 aui:=fa<|aQ ax dJ sl 100 [] (λA ((l,j),i,h)=>t139 A l j i h)<|kz (fc func322 fz)<|sc Nr<|sc U4<|sc aiv<|sc aiy sz
def awG(A:aS)(l:Int)(m:Int)(i:Int)(j:Int)(h:Int):LT (List Int) Empty:=.ret [l,m,i,j,h]
def Kz:(Int×Int×Int×Int×Int)->(List Int):=λ(l,m,i,j,h)=>(awG af l m i j h).val<|Ty.aR [(.arr 5 yI)]
def auc:aK:=.all [(.struct [yI,yI,yI,yI,yI])] [(.arr 5 yI)] Kz
def aso:Sd 238 auc:=fa<|aQ ax dJ sl 26 [] (λA (l,m,i,j,h)=>awG A l m i j h)<|kz (fc func238 fz) sz
structure ahK where(a0 a1 a2 a3 a4 a6 a7 a8 a9 jd:Int)
inductive Y87 where|c0(p:ahK)(a5:Int)
noncomputable def apG:Y87->gY
 | .c0 p a5=>⟨[gW 190 36 [(5,pZ 0),(21,.agg [vi p.a0,vi p.a1,vi p.a2,vi p.a3,vi p.a4]),(22,vi a5)] f190 244],[gZ [vi p.a6,vi p.a7,vi p.a8,vi p.a9,vi p.jd],.a_]⟩
def t87(A:aS)(l:Int)(m:Int)(i:Int)(j:Int)(h:Int)(n:Int):LT Int Y87:=.br (A.bo n 4) (.ret 2)<|.br (A.jD n 8) (.ret 2)<|.ao (A.bE 0 n)<|.ak<|.c0 ⟨(A.n yI (A.k Kz (l,m,i,j,h)) 0:Int),(A.n yI (A.k Kz (l,m,i,j,h)) 1:Int),(A.n yI (A.k Kz (l,m,i,j,h)) 2:Int),(A.n yI (A.k Kz (l,m,i,j,h)) 3:Int),(A.n yI (A.k Kz (l,m,i,j,h)) 4:Int),255,A.b .sub .i64 n 1,3,4,A.b .sub .i64 (A.b .shl .i64 1 n) 1⟩ 0
def s87(A:aS):Y87->LT Int Y87
 | .c0 p a5=>.br (A.bo a5 5) (.ao (A.and (A.bE 0 a5)<|A.bo a5 5)<|.br (A.bo (A.n yI [p.a0,p.a1,p.a2,p.a3,p.a4] a5:Int) 0) (.ret 40)<|.ao (A.and (A.bE 0 a5)<|A.bo a5 5)<|.br (A.jD (A.n yI [p.a0,p.a1,p.a2,p.a3,p.a4] a5:Int) (A.n yI [p.a6,p.a7,p.a8,p.a9,p.jd] a5:Int)) (.ret 40)<|.ak<|.c0 p<|A.b .add .i64 a5 1)<|.ret 0
def asf{k:Nat}(h:k<=60):af.b .shl .i64 1 (k:Int)=((2^k:Nat):Int):=by
 show IntKind.i64.wrap ((1:Int)*2^min (k:Int).toNat 64)=_;have:2^k<=2^60:=gf (by decide) h;have e:(2:Int)^k=((2^k:Nat):Int):=by simp
 rw[AT,j6<|by omega,Int.one_mul,e];generalize 2^k=q at this;rw[lZ (by omega)<|by omega]
def apJ{x:Int}(h:u=v):af.bo u x=decide (v<x):=by rw[h];rfl
def apI{h i:Int}(j:u=h)(l:v=i):af.jD u v=decide (i<h):=by rw[j,l];rfl
variable{m:Int}
theorem xu{p:ahK}{i r:Int}(o:0<=i)(y:i<5)(h:(af.n (.int .i64) [p.a0,p.a1,p.a2,p.a3,p.a4] i:Int)=v)(l:(af.n (.int .i64) [p.a6,p.a7,p.a8,p.a9,p.jd] i:Int)=m)
  (q:(decide (0<=v)&&decide (v<=m))=true->aV (s87 af) (.ak<|.c0 p<|i+1) r) (j:(decide (0<=v)&&decide (v<=m))=false->r=40):aV (s87 af) (.ak<|.c0 p i) r:=by
 rw[aG,s87];have n:af.and (af.bE 0 i) (af.bo i 5)=true:=by rw[bu,aB,bi];simp_all
 refine(ar (by rw[bi];simp_all)).2 (au.2 ⟨n,?_⟩);by_cases u:v<0
 .refine(ar<|(apJ h).trans<|by simp_all).2 ?_;rw[j<|by grind];exact .ret _
 .refine(ap<|(apJ h).trans<|by simp_all).2 (au.2 ⟨n,?_⟩);by_cases x:m<v
  .refine(ar<|(apI h l).trans<|by simp_all).2 ?_;rw[j<|by simp_all];exact .ret _
  .refine(ap<|(apI h l).trans<|by simp_all).2 ?_;rw[gG,lZ (by omega)<|by omega]
   simp_all
variable{s t:Int}
theorem ax7{o k:Int}:aV (s87 af) (t87 af t o m n s k)<|sC ((t,o,m,n,s),k):=by
 rw[sC];by_cases q:k<4
 .refine(ar (by rw[bi];simp_all)).2 ?_;rw[show decide (k<4)=true from by simp_all];exact .ret _
 refine(ap (by rw[bi];simp_all)).2 ?_;by_cases u:8<k
 .refine(ar (by rw[iA];simp_all)).2 ?_;rw[show decide (8<k)=true from by simp_all,oQ];exact .ret _
 refine(ap (by rw[iA];simp_all)).2 (au.2 ⟨by rw[aB];grind,?_⟩);rw[show decide (k<4)=false from by simp_all,show decide (8<k)=false from by simp_all,Bool.or_false,cond_false];have h:af.b .sub .i64 k 1=k-1:=by rw[gX,lZ (by omega)<|by omega]
 have l:af.b .sub .i64 (af.b .shl .i64 1 k) 1=2^k.toNat-1:=by
  obtain⟨j,rfl⟩:=bf (show 0<=k by omega);have x:2^j<=2^60:=gf (by decide) (by omega);have p:=Nat.two_pow_pos j;have e:(2:Int)^j=((2^j:Nat):Int):=by simp
  rw[asf<|by omega,AT,e];rw[gX,lZ (by omega)<|by omega]
 rw[h,l];refine xu (v:=t) (m:=255) (by decide) (by decide) rfl rfl (λg=>?_) (λg=>by grind);rw[g,Bool.true_and];refine xu (i:=1) (v:=o) (m:=k-1) (by decide) (by decide) rfl rfl (λg=>?_) (λg=>by grind);rw[g,Bool.true_and];refine xu (i:=2) (v:=m) (m:=3) (by decide) (by decide) rfl rfl (λg=>?_) (λg=>by grind);rw[g,Bool.true_and];refine xu (i:=3) (v:=n) (m:=4) (by decide) (by decide) rfl rfl (λg=>?_) (λg=>by rw[g];rfl);rw[g,dO];refine xu (i:=4) (v:=s) (m:=2^k.toNat-1) (by decide) (by decide) rfl rfl (λg=>?_) (λg=>by grind);rw[g,aG,s87];exact(ap rfl).2 (.ret _)
def xM:((Int×Int×Int×Int×Int)×Int)->Int:=sC
def azi:aK:=.all [(.struct [yI,yI,yI,yI,yI]),yI] [yI] xM
def Nq:Sd 190 azi:=fa<|aX ax dJ sl 43 [⟨190,5,[[5,21,22]]⟩] [] (λA ((m,o,j,l,i),n)=>t87 A m o j l i n) s87 apG (kz (fc func190 fz) (sc aso sz)) (λA y=>match y with |.c0 p q=>⟨41,sl,by kernel_rfl⟩) λ((m,o,j,l,i),n) u h=>ax7
def aye:((Int×Int×Int×Int×Int)×Int)->Int:=sC
abbrev adv(A:aS)(h:Int):=(A.k uv ((0,([]:List Int)),A.v .u64 h,8))
abbrev ao9(A:aS)(i:Int)(j:Int)(h:Int):=(A.k uv ((A.k uv ((adv A i).1,A.v .u64 j,3)).1,A.v .u64 h,2))
abbrev adw(A:aS)(j:Int)(l:Int)(h:Int)(i:Int):=(A.k uv ((ao9 A j l h).1,A.v .u64 i,3))
def t90(A:aS)(h:Int)(j:Int)(i:Int)(m:Int)(l:Int):LT ((Int×List Int)×Int) Empty:=.br (A.cm (A.k xM ((h,j,i,m,l),8)) 0) (.ret ((0,([]:List Int)),40))<|.br (A.cm (adv A h).2 0) (.ret ((0,([]:List Int)),(adv A h).2))<|.br (A.cm (A.k uv ((adv A h).1,A.v .u64 j,3)).2 0) (.ret ((0,([]:List Int)),(A.k uv ((adv A h).1,A.v .u64 j,3)).2))<|.br (A.cm (ao9 A h j i).2 0) (.ret ((0,([]:List Int)),(ao9 A h j i).2))<|.br (A.cm (adw A h j i m).2 0) (.ret ((0,([]:List Int)),(adw A h j i m).2))<|.br (A.cm (A.k uv ((adw A h j i m).1,A.v .u64 l,8)).2 0) (.ret ((0,([]:List Int)),(A.k uv ((adw A h j i m).1,A.v .u64 l,8)).2))<|.ret ((A.k uv ((adw A h j i m).1,A.v .u64 l,8)).1,0)
def OY:(Int×Int×Int×Int×Int)->((Int×List Int)×Int):=λ(l,m,i,j,h)=>(t90 af l m i j h).val<|Ty.aR [(.struct [yI,yB]),yI]
def azj:aK:=.all [(.struct [yI,yI,yI,yI,yI])] [(.struct [yI,yB]),yI] OY
def atY:Sd 207 azj:=fa<|aQ ax dJ sl 335 [] (λA (l,m,i,j,h)=>t90 A l m i j h)<|kz (fc func207<|fc func238<|fc func258 fz)<|sc Nq<|sc acB sz
def awE(A:aS)(h:Int)(i:List Int):LT ((Int×Int×Int×Int×Int)×Int) Empty:=.br (A.cm (A.k uU (h,i)) 0) (.ret ((0,0,0,0,0),10))<|.br (A.cm h 24) (.ret ((0,0,0,0,0),40))<|.br (A.cm (A.k iv ((h,i),0,8)).2 0) (.ret ((0,0,0,0,0),(A.k iv ((h,i),0,8)).2))<|.br (A.cm (A.k iv ((h,i),8,3)).2 0) (.ret ((0,0,0,0,0),(A.k iv ((h,i),8,3)).2))<|.br (A.cm (A.k iv ((h,i),11,2)).2 0) (.ret ((0,0,0,0,0),(A.k iv ((h,i),11,2)).2))<|.br (A.cm (A.k iv ((h,i),13,3)).2 0) (.ret ((0,0,0,0,0),(A.k iv ((h,i),13,3)).2))<|.br (A.cm (A.k iv ((h,i),16,8)).2 0) (.ret ((0,0,0,0,0),(A.k iv ((h,i),16,8)).2))<|.br (A.cm (A.k xM ((A.v .i64 (A.k iv ((h,i),0,8)).1,A.v .i64 (A.k iv ((h,i),8,3)).1,A.v .i64 (A.k iv ((h,i),11,2)).1,A.v .i64 (A.k iv ((h,i),13,3)).1,A.v .i64 (A.k iv ((h,i),16,8)).1),8)) 0) (.ret ((0,0,0,0,0),40))<|.ret ((A.v .i64 (A.k iv ((h,i),0,8)).1,A.v .i64 (A.k iv ((h,i),8,3)).1,A.v .i64 (A.k iv ((h,i),11,2)).1,A.v .i64 (A.k iv ((h,i),13,3)).1,A.v .i64 (A.k iv ((h,i),16,8)).1),0)
def Eb:(Int×List Int)->((Int×Int×Int×Int×Int)×Int):=λ(i,h)=>(awE af i h).val<|Ty.aR [(.struct [yI,yI,yI,yI,yI]),yI]
def at6:aK:=.all [(.struct [yI,yB])] [(.struct [yI,yI,yI,yI,yI]),yI] Eb
def asm:Sd 290 at6:=fa<|aQ ax dJ sl 377 [] (λA (i,h)=>awE A i h)<|kz (fc func290<|fc func258 fz)<|sc Nq<|sc Nr<|sc U4 sz
abbrev ahh(A:aS)(h:Int):LT Int Empty:=(.br (A.not<|A.bq h 0) (.ret 50)<|.ret 0)
def t57(A:aS)(l:Int)(q:Int)(j:Int)(p:Int)(n:Int)(o:Int)(i:Int)(h:Int)(m:List Int):LT Int Empty:=.br (A.cm (A.k xM ((j,p,n,o,i),8)) 0) (.ret 50)<|.br (A.bo q 0) (.ret 50)<|.br (A.jD q 4) (.ret 50)<|.br (A.jD (A.l m) 8) (.ret 50)<|.br (A.bq l 1) (.br (A.bq q 0) (.br (A.bq (A.l m) 0) (.br (A.ov h 0) (.br (A.bo h 8) (.br (A.not<|A.and (A.bq j j)<|A.and (A.bq p 0)<|A.and (A.bq n 0)<|A.and (A.bq o 0)<|A.and (A.bq i 0) true) (.ret 50)<|.ret 0)<|.ret 50)<|.ret 50)<|.ret 50)<|.ret 50)<|.br (A.bq l 3) (.br (A.bq (A.l m) 0) (ahh A h)<|.ret 50)<|.br (A.bq l 2) (ahh A h)<|.br (A.bq l 4) (ahh A h)<|.ret 50
def xd:(Int×Int×(Int×Int×Int×Int×Int)×Int×List Int)->Int:=λ(p,q,(l,m,i,j,h),o,n)=>(t57 af p q l m i j h o n).val<|Ty.aR [yI]
def aza:aK:=.all [(.struct [yI,yI,.struct [yI,yI,yI,yI,yI],yI,yB])] [yI] xd
def aty:Sd 206 aza:=fa<|aQ ax dJ sl 109 [] (λA (p,q,(l,m,i,j,h),o,n)=>t57 A p q l m i j h o n)<|kz (fc func206 fz)<|sc Nq sz
abbrev adk(A:aS)(i:Int)(h:Int):LT Int Empty:=(.br (A.bq i 2) (.ret<|A.b .add .i64 29<|A.b .mul .i64 8 h)<|.br (A.bq i 4) (.ret<|A.b .add .i64 79<|A.b .mul .i64 8 h)<|.ret 0)
def t56(A:aS)(i:Int)(h:Int):LT Int Empty:=.br (A.bo h 0) (.ret 0)<|.br (A.jD h 8) (.ret 0)<|.br (A.bq i 1) (.br (A.bq h 0) (.ret 40)<|.br (A.bq i 3) (adk A i h)<|adk A i h)<|.br (A.bq i 3) (.br (A.bq h 0) (.ret 54)<|adk A i h)<|adk A i h
def xc:(Int×Int)->Int:=λ(i,h)=>(t56 af i h).val<|Ty.aR [yI]
def ay_:aK:=.all [yI,yI] [yI] xc
def ayU:Sd 215 ay_:=fa<|aQ ax dJ (.jf [0,0,0,0,0,2]) 67 [] (λA (i,h)=>t56 A i h)<|kz (fc func215 fz) sz
def t59(A:aS)(i:Int)(h:Int):LT Int Empty:=.br (A.bo h 0) (.ret 0)<|.br (A.jD h 8) (.ret 0)<|.br (A.bq i 1) (.br (A.bq h 0) (.ret 40)<|.ret 0)<|.br (A.bq i 2) (.ret<|A.b .add .i64 29<|A.b .mul .i64 8 h)<|.br (A.bq i 3) (.br (A.bq h 0) (.ret 54)<|.ret 0)<|.br (A.bq i 4) (.ret<|A.b .add .i64 79<|A.b .mul .i64 8 h)<|.ret 0
def Q9:(Int×Int)->Int:=λ(i,h)=>(t59 af i h).val<|Ty.aR [yI]
def azb:aK:=.all [yI,yI] [yI] Q9
def ayV:Sd 62 azb:=fa<|aQ ax dJ sl 59 [] (λA (i,h)=>t59 A i h)<|kz (fc func62 fz) sz
theorem afr{k r p h:Int}{d:List Int}:xd (k,r,(t,p,m,n,s),h,d)=bif Ah (k,r,(t,p,m,n,s),h,d) then 0 else 50:=by
 have j:af.cm (af.k xM ((t,p,m,n,s),8)) 0=!IK (t,p,m,n,s):=by
  rw[show af.k xM ((t,p,m,n,s),8)=bif IK (t,p,m,n,s) then 0 else 40 from aly (t,p,m,n,s)];cases IK (t,p,m,n,s)<;>rfl
 have l:af.l d=(d.length:Int):=rfl;have i:=aaa (k:=k) (r:=r) (t:=t) (p:=p) (m:=m) (n:=n) (s:=s) (fr:=h) (d:=d);have o:(t==t&&(p==0&&(m==0&&(n==0&&(s==0&&true)))))=decide (p=0/\m=0/\n=0/\s=0):=by grind
 simp[xd,t57,ahh,LT.val,bg,bi,iA,kW,bu,lJ]
 grind
variable{d:Int}
theorem P6{k:Int}:xc (k,d)=UZ (k,d)/\Q9 (k,d)=UZ (k,d):=by
 have j:0<=d/\d<=8->∀c:Int,c=29\/c=79->af.b .add .i64 c (af.b .mul .i64 8 d)=c+8*d:=by
  intro h c i;rw[jq,lZ (by omega)<|by omega,gG,lZ (by omega)<|by omega]
 constructor
 .simp[xc,t56,adk,LT.val,bg,bi,iA,UZ]
  grind
 .simp[Q9,t59,LT.val,bg,bi,iA,UZ]
  grind
def awz(A:aS)(n:Int)(h:Int):LT Bool Empty:=.br (A.bq h 1) (.ret<|A.bq n 40)<|.br (A.bq h 3) (.ret<|A.bq n 54)<|.br (A.bq h 2) (.br (A.ov (A.b .sub .i64 n 29) 0) (.br (A.bE (A.b .sub .i64 n 29) 64) (.ret<|A.bq (A.b .rem .i64 (A.b .sub .i64 n 29) 8) 0)<|.ret false)<|.ret false)<|.br (A.ov (A.b .sub .i64 n 79) 0) (.br (A.bE (A.b .sub .i64 n 79) 64) (.ret<|A.bq (A.b .rem .i64 (A.b .sub .i64 n 79) 8) 0)<|.ret false)<|.ret false
def ahQ:(Int×Int)->Bool:=λ(n,h)=>(awz af n h).val<|Ty.aR [.bool]
def atZ:aK:=.all [yI,yI] [.bool] ahQ
def asj:Sd 287 atZ:=fa<|aQ ax dJ sl 54 [] (λA (n,h)=>awz A n h)<|kz (fc func287 fz) sz
abbrev Qj(A:aS)(i:Int)(h:List Int):=(A.k xH ((A.k ry ((A.k xH ((i,h),0,55)).1,0,([]:List Int))).1,A.b .sub .i64 (A.k ry ((A.k xH ((i,h),0,55)).1,0,([]:List Int))).1.1 24,(A.k ry ((A.k xH ((i,h),0,55)).1,0,([]:List Int))).1.1))
def awC(A:aS)(l:Int)(j:List Int)(m:Int)(i:Int)(h:List Int):LT ((Int×List Int)×(Int×List Int)×Int) Empty:=.br (A.cm m 4) (.br (A.cm (A.k ry ((l,j),i,h)).2 0) (.ret ((A.k ry ((l,j),i,h)).1,(0,([]:List Int)),(A.k ry ((l,j),i,h)).2))<|.br (A.cm m 3) (.ret ((A.k ry ((l,j),i,h)).1,(0,([]:List Int)),(A.k ry ((l,j),i,h)).2))<|.ret ((A.k ry ((l,j),i,h)).1,A.k xH ((A.k ry ((l,j),i,h)).1,A.b .sub .i64 (A.k ry ((l,j),i,h)).1.1 24,(A.k ry ((l,j),i,h)).1.1)))<|.br (A.cm (A.k xH ((l,j),0,55)).2 0) (.ret ((0,([]:List Int)),(0,([]:List Int)),(A.k xH ((l,j),0,55)).2))<|.br (A.cm (A.k ry ((A.k xH ((l,j),0,55)).1,0,([]:List Int))).2 0) (.ret ((0,([]:List Int)),(0,([]:List Int)),(A.k ry ((A.k xH ((l,j),0,55)).1,0,([]:List Int))).2))<|.br (A.cm (Qj A l j).2 0) (.ret ((0,([]:List Int)),(0,([]:List Int)),(Qj A l j).2))<|.ret ((A.k ry ((l,j),(Qj A l j).1)).1,(Qj A l j).1,(A.k ry ((l,j),(Qj A l j).1)).2)
def ZB:((Int×List Int)×Int×(Int×List Int))->((Int×List Int)×(Int×List Int)×Int):=λ((m,l),j,i,h)=>(awC af m l j i h).val<|Ty.aR [(.struct [yI,yB]),.struct [yI,yB],yI]
def at5:aK:=.all [(.struct [yI,yB]),yI,.struct [yI,yB]] [(.struct [yI,yB]),.struct [yI,yB],yI] ZB
def asl:Sd 288 at5:=fa<|aQ ax dJ sl 110 [] (λA ((m,l),j,i,h)=>awC A m l j i h)<|kz (fc func288 fz)<|sc asr<|sc aiv sz
def awy(A:aS)(i:Int)(j:List Int)(l:Int)(h:Int):LT (((Int×List Int)×Int)×Int) Empty:=.br (A.cm (A.k iv ((i,j),l,h)).2 0) (.ret (((i,j),l),0))<|.ret (((i,j),A.b .add .i64 l h),A.v .i64 (A.k iv ((i,j),l,h)).1)
theorem ar4{k:Int}:aV Empty.elim (awy af n b a k)<|bif decide ((iv ((n,b),a,k)).2=0) then(((n,b),af.b .add .i64 a k),af.v .i64 (iv ((n,b),a,k)).1) else(((n,b),a),0):=by
 by_cases h:(iv ((n,b),a,k)).2=0
 .rw[cr h];exact(ap (by show af.cm (iv ((n,b),a,k)).2 0=false;rw[bZ,h];rfl)).2 (.ret _)
 .rw[gw h];exact(ar (by show af.cm (iv ((n,b),a,k)).2 0=true;rw[bZ];simp_all)).2 (.ret _)
def jT:((Int×List Int)×Int)×Int->((Int×List Int)×Int)×Int:=λ((b,a),k)=>(bif decide ((iv (b,a,k)).2=0) then((b,af.b .add .i64 a k),af.v .i64 (iv (b,a,k)).1) else((b,a),0))
def aq4:cH:=.all [.ptr [.d<|.struct [yI,yB],.d yI]] [yI] [yI] jT false
def aih:cH.bI prog 286 aq4:=ma<|bV ax dJ sl 54 [] [] (λA (((j,l),m),i)=>awy A j l m i) (λ_=>Empty.elim) Empty.elim (kz (fc func286 fz) (sc U4 sz)) (λ_ y=>y.elim)<|λ((((j,l),m),i):(((Int×List Int)×Int))×Int) n o h=>ar4
inductive ad3 where|c0(a0 a1:Int)(a2:List Int)(a3 a4 a5 a6 a7 a8 a9 jd lq:Int)
noncomputable def akh:ad3->gY
 | .c0 a0 a1 a2 a3 a4 a5 h i a8 a9 j l=>⟨[gW 289 34 [(0,pZ 0),(3,pZ 1),(4,vi a0)] f289 120],[gZ [vi a1,.sl yU a2,vi a3],gZ [.int .u8 false a4,.int .u8 false a5,.int .u8 false h,.int .u8 false i,.int .u8 false a8,.int .u8 false a9,.int .u8 false j,.int .u8 false l],.a_]⟩
def awD(A:aS)(h:Int)(i:List Int)(j:Int):LT (((Int×List Int)×Int)×(List Int)) ad3:=.ak<|.c0 0 h i j 0 0 0 0 0 0 0 0
def Wv(A:aS):ad3->LT (((Int×List Int)×Int)×(List Int)) ad3
 | .c0 a0 a1 a2 a3 a4 a5 h i a8 a9 j l=>.br (A.bE (A.b .add .i64 a3 8) a1) (.br (A.bo a0 8) (.ao (A.and (A.bE 0 a0)<|A.bo a0 8)<|.ak<|.c0 (A.b .add .i64 a0 1) (A.k jT (((a1,a2),a3),8)).1.1.1 (A.k jT (((a1,a2),a3),8)).1.1.2 (A.k jT (((a1,a2),a3),8)).1.2 (A.n yU (A.set [a4,a5,h,i,a8,a9,j,l] a0<|A.v .u8 (A.k jT (((a1,a2),a3),8)).2) 0:Int) (A.n yU (A.set [a4,a5,h,i,a8,a9,j,l] a0<|A.v .u8 (A.k jT (((a1,a2),a3),8)).2) 1:Int) (A.n yU (A.set [a4,a5,h,i,a8,a9,j,l] a0<|A.v .u8 (A.k jT (((a1,a2),a3),8)).2) 2:Int) (A.n yU (A.set [a4,a5,h,i,a8,a9,j,l] a0<|A.v .u8 (A.k jT (((a1,a2),a3),8)).2) 3:Int) (A.n yU (A.set [a4,a5,h,i,a8,a9,j,l] a0<|A.v .u8 (A.k jT (((a1,a2),a3),8)).2) 4:Int) (A.n yU (A.set [a4,a5,h,i,a8,a9,j,l] a0<|A.v .u8 (A.k jT (((a1,a2),a3),8)).2) 5:Int) (A.n yU (A.set [a4,a5,h,i,a8,a9,j,l] a0<|A.v .u8 (A.k jT (((a1,a2),a3),8)).2) 6:Int) (A.n yU (A.set [a4,a5,h,i,a8,a9,j,l] a0<|A.v .u8 (A.k jT (((a1,a2),a3),8)).2) 7:Int))<|.ao (A.and (A.bq a0 a0)<|A.and (A.bE 0 a0)<|A.bE a0 140737488355328)<|.ret (((a1,a2),a3),A.spl (A.r a0 (0:Int)) 0<|A.s [a4,a5,h,i,a8,a9,j,l] 0<|A.mn (A.l [a4,a5,h,i,a8,a9,j,l])<|A.l<|A.r a0 (0:Int)))<|.ao (A.and (A.bq a0 a0)<|A.and (A.bE 0 a0)<|A.bE a0 140737488355328)<|.ret (((a1,a2),a3),A.spl (A.r a0 (0:Int)) 0<|A.s [a4,a5,h,i,a8,a9,j,l] 0<|A.mn (A.l [a4,a5,h,i,a8,a9,j,l])<|A.l<|A.r a0 (0:Int))
def anD(n:Nat)(room:List Int):List Int:=af.spl (af.r (n:Int) (0:Int)) 0<|af.s room 0<|af.mn (af.l room)<|af.l<|af.r (n:Int) (0:Int)
def Wp:Nat->Nat->List Int->(Int×List Int)×Int->((Int×List Int)×Int)×List Int
 | 0,n,room,s=>(s,anD n room)
 | k+1,n,room,s=>bif af.bE (af.b .add .i64 s.2 8) s.1.1 then Wp k (n+1) (af.set room n<|af.v .u8 (jT (s,8)).2) (jT (s,8)).1 else(s,anD n room)
theorem abW:∀(k n:Nat) (room:List Int) (s:(Int×List Int)×Int),n+k=8->room.length=8->
  aV (Wv af) (.ak<|.c0 n s.1.1 s.1.2 s.2 (room.getD 0 0) (room.getD 1 0) (room.getD 2 0) (room.getD 3 0) (room.getD 4 0) (room.getD 5 0) (room.getD 6 0)<|room.getD 7 0) (Wp k n room s):=by
 intro k
 induction k with
 | zero=>
   intro n room s l j
   have h:aV (Wv af) (.ao (af.and (af.bq (n:Int) (n:Int))<|af.and (af.bE 0 n)<|af.bE n 140737488355328)<|.ret (s,anD n room))<|Wp 0 n room s:=
    au.2 ⟨by rw[bu,bu,bg,aB,aB];simp_all,.ret _⟩
   match room,j with
   | [x0,m,x2,o,p,u,v,x],_=>
   rw[aG,Wv];cases af.bE (af.b .add .i64 s.2 8) s.1.1
   .exact(ap rfl).2 h
   .exact(ar rfl).2 ((ap (by rw[bi];simp_all)).2 h)
 | succ k ih=>
   intro n room s l j;have e:=ih (n+1) (af.set room n<|af.v .u8 (jT (s,8)).2) (jT (s,8)).1 (by omega) (by rw[Nw,bW];omega);rw[aG,Wv,Wp]
   match room,j with
   | [x0,m,x2,o,p,u,v,x],_=>
     cases af.bE (af.b .add .i64 s.2 8) s.1.1
     .exact(ap rfl).2 (au.2 ⟨by rw[bu,bu,bg,aB,aB];simp;omega,.ret _⟩)
     .refine(ar rfl).2 ((ar (by rw[bi];grind)).2<|au.2 ⟨by rw[bu,aB,bi];simp;omega,?_⟩);rw[jQ (i:=n)<|by omega,show af.k jT (((s.1.1,s.1.2),s.2),8)=jT (s,8) from rfl];generalize jT (s,8)=q at e ⊢;exact e
def anC:aV (Wv af) (awD af n b a)<|Wp 8 0 [0,0,0,0,0,0,0,0] ((n,b),a):=
 abW 8 0 [0,0,0,0,0,0,0,0] ((n,b),a) rfl rfl
def vx:((Int×List Int)×Int)×Unit->((Int×List Int)×Int)×(List Int):=λ(s,_)=>Wp 8 0 [0,0,0,0,0,0,0,0] s
def aq5:cH:=.all [.ptr [.d<|.struct [yI,yB],.d yI]] [] [yB] vx false
def aqI:cH.bI prog 289 aq5:=ma<|bV ax dJ sl 21 [⟨289,3,[[0,3,4]]⟩] [] (λA (((i,j),l),())=>awD A i j l) Wv akh ⟨fc func289 fz,sz,oz,iz,(mc aih mz),pz⟩ (λA y=>match y with |.c0 m a1 a2 n o p q u v x C D=>⟨44,sl,by kernel_rfl⟩)<|λ((((i,j),l),()):(((Int×List Int)×Int))×Unit) z B h=>anC
def aT{R:Type}{step:Y->LT R Y}{t:LT R Y}{r i:R}(h:r=i)(j:aV step t r):aV step t i:=h▸j
def xR{R Y:Type}(p:R->Prop):LT R Y->Prop
 | .ret r=>p r
 | .ak _=>False
 | .br b t e=>(b=true->xR p t)/\(b=false->xR p e)
 | .ao b t=>b=true->xR p t
 | .eqs _ t=>xR p t
 | .and a _=>xR p a
 | .bY _ _=>True
theorem tK{R Y:Type}{d:R}{p:R->Prop}:∀{t:LT R Y},t.pre=true->xR p t->p (t.val d)
 | .ret _,_,h=>h
 | .ak _,_,h=>h.elim
 | .br b t e,h1,h2=>by
   cases b with
   | true=>exact tK (t:=t) h1<|h2.1 rfl
   | false=>exact tK (t:=e) h1<|h2.2 rfl
 | .ao b t,h1,h2=>by
   rw[LT.pre,fZ] at h1;exact tK (t:=t) h1.2<|h2 h1.1
 | .eqs _ t,h1,h2=>tK (t:=t) h1 h2
 | .and _ _,h,_=>by cases h
 | .bY _ _,h,_=>by cases h
abbrev mD(A:aS)(i:Int)(h:List Int):=(A.b .add .i64 (A.k jT (((i,h),0),2)).2 1)
abbrev oK(A:aS)(i:Int)(h:List Int):=(A.k jT ((A.k jT (((i,h),0),2)).1,3))
abbrev AA(A:aS)(i:Int)(h:List Int):=(A.k ZB ((i,h),mD A i h,0,([]:List Int)))
abbrev uf:LT ((Int×Int×(Int×Int×Int×Int×Int)×Int×List Int)×Int) Empty:=(.ret ((0,0,(0,0,0,0,0),0,([]:List Int)),51))
abbrev Ce(A:aS)(o:Int)(n:List Int)(l:Int)(m:Int)(i:Int)(j:Int)(h:Int):=(A.k ZB ((o,n),mD A o n,(A.k OY (l,m,i,j,h)).1))
abbrev Cf(A:aS)(i:Int)(h:List Int):=(A.k Eb (AA A i h).2.1)
abbrev aha(A:aS)(i:Int)(h:List Int):LT ((Int×Int×(Int×Int×Int×Int×Int)×Int×List Int)×Int) Empty:=(.br (A.cm (A.k xd (mD A i h,(oK A i h).2,(0,0,0,0,0),0,([]:List Int))) 0) (uf)<|.ret ((mD A i h,(oK A i h).2,(0,0,0,0,0),0,([]:List Int)),0))
abbrev adg(A:aS)(i:Int)(h:List Int):=(A.k jT ((oK A i h).1,A.b .sub .i64 (mD A i h) 2))
def t50(A:aS)(i:Int)(j:List Int)(n:Int)(o:Int)(l:Int)(m:Int)(h:Int):LT ((Int×Int×(Int×Int×Int×Int×Int)×Int×List Int)×Int) Empty:=.br (A.cm (A.k uU (i,j)) 0) (.ret ((0,0,(0,0,0,0,0),0,([]:List Int)),A.k uU (i,j)))<|.br (A.cm (A.k xM ((n,o,l,m,h),8)) 0) (.ret ((0,0,(0,0,0,0,0),0,([]:List Int)),40))<|.br (A.not<|A.k ahQ (i,mD A i j)) (uf)<|.br (A.bq (mD A i j) 1) (.br (A.cm (A.k jT ((A.k jT ((oK A i j).1,8)).1,3)).2 0) (uf)<|.br (A.cm (AA A i j).2.2 0) (.ret ((0,0,(0,0,0,0,0),0,([]:List Int)),(AA A i j).2.2))<|.br (A.bq (mD A i j) 2) (.br (A.cm (A.k xd (mD A i j,0,(n,o,l,m,h),(oK A i j).2,(A.k vx (((AA A i j).1,(A.k jT ((A.k jT ((oK A i j).1,8)).1,3)).1.2),())).2)) 0) (uf)<|.ret ((mD A i j,0,(n,o,l,m,h),(oK A i j).2,(A.k vx (((AA A i j).1,(A.k jT ((A.k jT ((oK A i j).1,8)).1,3)).1.2),())).2),0))<|.br (A.bq (mD A i j) 4) (.br (A.cm (Cf A i j).2 0) (uf)<|.br (A.cm (A.k xd (mD A i j,0,(Cf A i j).1,(oK A i j).2,(A.k vx (((AA A i j).1,55),())).2)) 0) (uf)<|.ret ((mD A i j,0,(Cf A i j).1,(oK A i j).2,(A.k vx (((AA A i j).1,55),())).2),0))<|.br (A.bq (mD A i j) 3) (.br (A.cm (Cf A i j).2 0) (uf)<|.br (A.cm (A.k xd (mD A i j,0,(Cf A i j).1,(oK A i j).2,([]:List Int))) 0) (uf)<|.ret ((mD A i j,0,(Cf A i j).1,(oK A i j).2,([]:List Int)),0))<|.br (A.cm (A.k xd (mD A i j,0,((A.k jT ((oK A i j).1,8)).2,0,0,0,0),(oK A i j).2,([]:List Int))) 0) (uf)<|.ret ((mD A i j,0,((A.k jT ((oK A i j).1,8)).2,0,0,0,0),(oK A i j).2,([]:List Int)),0))<|.br (A.bq (mD A i j) 2) (.br (A.cm (Ce A i j n o l m h).2.2 0) (.ret ((0,0,(0,0,0,0,0),0,([]:List Int)),(Ce A i j n o l m h).2.2))<|.br (A.bq (mD A i j) 2) (.br (A.cm (A.k xd (mD A i j,(oK A i j).2,(n,o,l,m,h),0,(A.k vx (((Ce A i j n o l m h).1,(oK A i j).1.2),())).2)) 0) (uf)<|.ret ((mD A i j,(oK A i j).2,(n,o,l,m,h),0,(A.k vx (((Ce A i j n o l m h).1,(oK A i j).1.2),())).2),0))<|.br (A.bq (mD A i j) 4) (.br (A.cm (A.k Eb (Ce A i j n o l m h).2.1).2 0) (uf)<|.br (A.cm (A.k xd (mD A i j,(oK A i j).2,(A.k Eb (Ce A i j n o l m h).2.1).1,0,(A.k vx (((Ce A i j n o l m h).1,55),())).2)) 0) (uf)<|.ret ((mD A i j,(oK A i j).2,(A.k Eb (Ce A i j n o l m h).2.1).1,0,(A.k vx (((Ce A i j n o l m h).1,55),())).2),0))<|.br (A.bq (mD A i j) 3) (.br (A.cm (A.k Eb (Ce A i j n o l m h).2.1).2 0) (uf)<|.br (A.cm (A.k xd (mD A i j,(oK A i j).2,(A.k Eb (Ce A i j n o l m h).2.1).1,0,([]:List Int))) 0) (uf)<|.ret ((mD A i j,(oK A i j).2,(A.k Eb (Ce A i j n o l m h).2.1).1,0,([]:List Int)),0))<|aha A i j)<|.br (A.cm (adg A i j).2 0) (uf)<|.br (A.cm (AA A i j).2.2 0) (.ret ((0,0,(0,0,0,0,0),0,([]:List Int)),(AA A i j).2.2))<|.br (A.bq (mD A i j) 2) (.br (A.cm (A.k xd (mD A i j,(oK A i j).2,(n,o,l,m,h),0,(A.k vx (((AA A i j).1,(adg A i j).1.2),())).2)) 0) (uf)<|.ret ((mD A i j,(oK A i j).2,(n,o,l,m,h),0,(A.k vx (((AA A i j).1,(adg A i j).1.2),())).2),0))<|.br (A.bq (mD A i j) 4) (.br (A.cm (Cf A i j).2 0) (uf)<|.br (A.cm (A.k xd (mD A i j,(oK A i j).2,(Cf A i j).1,0,(A.k vx (((AA A i j).1,55),())).2)) 0) (uf)<|.ret ((mD A i j,(oK A i j).2,(Cf A i j).1,0,(A.k vx (((AA A i j).1,55),())).2),0))<|.br (A.bq (mD A i j) 3) (.br (A.cm (Cf A i j).2 0) (uf)<|.br (A.cm (A.k xd (mD A i j,(oK A i j).2,(Cf A i j).1,0,([]:List Int))) 0) (uf)<|.ret ((mD A i j,(oK A i j).2,(Cf A i j).1,0,([]:List Int)),0))<|aha A i j
variable{p:Prop}
theorem aqC{k:Int}(i:(k==0)=false):k=0->p:=λh=>by simp_all
def aqF{x:Int}(h:af.cm x 0=true)(e:x=0):p:=by rw[e] at h;cases h
def aqD{x:Int}{q:Prop}(h:q):(af.cm x 0=true->(x=0->p))/\(af.cm x 0=false->q):=⟨aqF,λ_=>h⟩
def aqE{x:Int}{r:Prop}(h:af.cm x 0=false)(_:r):x=0:=by rw[bZ] at h;simpa using h
def wm:(Int×List Int)×(Int×Int×Int×Int×Int)->(Int×Int×(Int×Int×Int×Int×Int)×Int×List Int)×Int:=λ((n,b),(t,p,m,x,s))=>(t50 af n b t p m x s).val<|Ty.aR [.struct [.int .i64,.int .i64,.struct [.int .i64,.int .i64,.int .i64,.int .i64,.int .i64],.int .i64,.slice<|.int .u8],.int .i64]
def Py{p x:Int}:(t50 af n b t p m x s).pre=true:=by
 simp[t50,adg,aha,Cf,Ce,uf,AA,oK,mD,LT.pre,b_,adD,Gn,dO,implies_true,and_self]
def Wa{p x:Int}:xR (λr=>r.2=0->af.k xd r.1=0)<|t50 af n b t p m x s:=by
 simp only[t50,adg,aha,Cf,Ce,uf,AA,oK,mD,xR]
 repeat' first
  | refine aqD ?_
  | refine⟨λ_=>?_,λ_=>?_⟩
  | exact aqC rfl
  | exact aqE (by assumption)
theorem af8{b:Int×List Int}{c:Int×Int×Int×Int×Int}(h:(wm (b,c)).2=0):Ah (wm (b,c)).1=true:=by
 have⟨n,b⟩:=b;have⟨t,p,m,x,s⟩:=c;have k:=tK (d:=Ty.aR [.struct [.int .i64,.int .i64,.struct [.int .i64,.int .i64,.int .i64,.int .i64,.int .i64],.int .i64,.slice<|.int .u8],.int .i64]) Py Wa h;have k:xd (wm ((n,b),(t,p,m,x,s))).1=0:=k;generalize (wm ((n,b),(t,p,m,x,s))).1=f at k;rw[afr] at k
 grind
def KP:(Int×List Int)×(Int×Int×Int×Int×Int)->(Int×Int×(Int×Int×Int×Int×Int)×Int×List Int)×Bool:=λ(b,c)=>
 bif (wm (b,c)).2 != 0||(wm (b,c)).1.1==1||(wm (b,c)).1.2.2.1 != c then(Jo,false) else((wm (b,c)).1,true)
def uq(b:Int×List Int):(Int×Int×(Int×Int×Int×Int×Int)×Int×List Int)×Bool:=
 bif (wm (b,zS)).2 != 0||(wm (b,zS)).1.1==2 then(Jo,false) else((wm (b,zS)).1,true)
def C9:((Int×List Int)×(Int×Int×Int×Int×Int))->((Int×Int×(Int×Int×Int×Int×Int)×Int×List Int)×Int):=wm
def ay7:aK:=.all [(.struct [yI,yB]),.struct [yI,yI,yI,yI,yI]] [(.struct [yI,yI,.struct [yI,yI,yI,yI,yI],yI,yB]),yI] C9
def atc:Sd 237 ay7:=fa<|aX ax dJ sl 227 [] [] (λA ((v,u),o,q,j,l,i)=>t50 A v u o q j l i) (λ_=>Empty.elim) Empty.elim ⟨fc func237 fz,(sc aty (sc Nq (sc atY (sc Nr (sc asj (sc asl (sc asm sz))))))),oz,iz,(mc aih (mc aqI mz)),pz⟩ (λ_ y=>y.elim) λ((n,b),(t,p,m,x,s)) z h=>LT.runs (LT.gI<|by kernel_rfl) Py
def t53(A:aS)(o:Int)(n:List Int)(l:Int)(m:Int)(i:Int)(j:Int)(h:Int):LT ((Int×Int×(Int×Int×Int×Int×Int)×Int×List Int)×Bool) Empty:=.br (A.cm (A.k C9 ((o,n),l,m,i,j,h)).2 0) (.ret ((0,0,(0,0,0,0,0),0,([]:List Int)),false))<|.br (A.bq (A.k C9 ((o,n),l,m,i,j,h)).1.1 1) (.ret ((0,0,(0,0,0,0,0),0,([]:List Int)),false))<|.br (A.not<|A.and (A.bq (A.k C9 ((o,n),l,m,i,j,h)).1.2.2.1.1 l)<|A.and (A.bq (A.k C9 ((o,n),l,m,i,j,h)).1.2.2.1.2.1 m)<|A.and (A.bq (A.k C9 ((o,n),l,m,i,j,h)).1.2.2.1.2.2.1 i)<|A.and (A.bq (A.k C9 ((o,n),l,m,i,j,h)).1.2.2.1.2.2.2.1 j)<|A.and (A.bq (A.k C9 ((o,n),l,m,i,j,h)).1.2.2.1.2.2.2.2 h) true) (.ret ((0,0,(0,0,0,0,0),0,([]:List Int)),false))<|.ret ((A.k C9 ((o,n),l,m,i,j,h)).1,true)
def Q8:((Int×List Int)×(Int×Int×Int×Int×Int))->((Int×Int×(Int×Int×Int×Int×Int)×Int×List Int)×Bool):=λ((o,n),l,m,i,j,h)=>(t53 af o n l m i j h).val<|Ty.aR [(.struct [yI,yI,.struct [yI,yI,yI,yI,yI],yI,yB]),.bool]
def ay9:aK:=.all [(.struct [yI,yB]),.struct [yI,yI,yI,yI,yI]] [(.struct [yI,yI,.struct [yI,yI,yI,yI,yI],yI,yB]),.bool] Q8
def ayT:Sd 250 ay9:=fa<|aQ ax dJ sl 50 [] (λA ((o,n),l,m,i,j,h)=>t53 A o n l m i j h)<|kz (fc func250 fz)<|sc atc sz
def t51(A:aS)(i:Int)(h:List Int):LT ((Int×Int×(Int×Int×Int×Int×Int)×Int×List Int)×Bool) Empty:=.br (A.cm (A.k C9 ((i,h),0,0,0,0,0)).2 0) (.ret ((0,0,(0,0,0,0,0),0,([]:List Int)),false))<|.br (A.bq (A.k C9 ((i,h),0,0,0,0,0)).1.1 2) (.ret ((0,0,(0,0,0,0,0),0,([]:List Int)),false))<|.ret ((A.k C9 ((i,h),0,0,0,0,0)).1,true)
def Q7:(Int×List Int)->((Int×Int×(Int×Int×Int×Int×Int)×Int×List Int)×Bool):=λ(i,h)=>(t51 af i h).val<|Ty.aR [(.struct [yI,yI,.struct [yI,yI,yI,yI,yI],yI,yB]),.bool]
def ay8:aK:=.all [(.struct [yI,yB])] [(.struct [yI,yI,.struct [yI,yI,yI,yI,yI],yI,yB]),.bool] Q7
def ayS:Sd 189 ay8:=fa<|aQ ax dJ sl 43 [] (λA (i,h)=>t51 A i h)<|kz (fc func189 fz)<|sc atc sz
def afq{b:Int×List Int}{p:Int}:Q8 (b,(t,p,m,n,s))=KP (b,(t,p,m,n,s)):=by
 have⟨v,u⟩:=b;simp[Q8,t53,KP,b_,bZ,bg,bu,C9,Bool.and_true];generalize wm ((v,u),(t,p,m,n,s))=q;have⟨⟨k,r,⟨o,j,h,i,l⟩,y,d⟩,e⟩:=q;have x:((o,j,h,i,l) != (t,p,m,n,s))=!(o==t&&(j==p&&(h==m&&(i==n&&l==s)))):=by rfl
 rw[x];cases e != 0<;>cases k==1<;>cases (o==t&&(j==p&&(h==m&&(i==n&&l==s))))<;>rfl
theorem afp{b:Int×List Int}:Q7 b=uq b:=by
 have⟨i,h⟩:=b;simp only[uq];show(bif (wm ((i,h),zS)).2 != 0 then(Jo,false) else bif (wm ((i,h),zS)).1.1==2 then(Jo,false) else((wm ((i,h),zS)).1,true))=_
 grind
structure ajf where(a0 a2:List (Int×List Int))(a3 a5:Int)
structure Xq where(b1:List (Int×List Int))(b2 b4 b5:Int)
structure Xr where(c0 c1 c2 c4:Int)(c5:List (Int×List Int))(c6 c7 c8 c9:Int)(c10:List Int)(c11 c12 c13:Int)(c14:List Int)
inductive ad4 where|c0(p:ajf)(a1 a4:Int)|c1(p:Xq)(b0 b3:Int)(b6:List Int)|c2(p:Xr)(c3:Int)(Oj:List Int)
noncomputable def akk:ad4->gY
 | .c0 p a1 a4=>⟨[gW 261 53 [(0,.sl (.struct [yI,yB]) p.a0),(2,pZ 0),(4,vi a1),(12,.sl (.struct [yI,yB]) p.a2),(13,vi p.a3),(14,vi a4)] f261 116],[gZ [vi p.a5,.fG true],.a_]⟩
 | .c1 p b0 b3 i=>⟨[gW 261 53 [(2,pZ 0),(8,pZ 1),(9,vi b0),(35,.sl (.struct [yI,yB]) p.b1),(36,vi p.b2),(37,vi b3)] f261 2036],[gZ [vi p.b4,.fG true],gZ [vi p.b5,.own 2],aZ yU i,.a_]⟩
 | .c2 p c3 h=>⟨[gW 308 52 [(1,vi p.c0),(3,vi p.c1),(4,vi p.c2),(5,pZ 0),(7,pZ 1),(10,vi c3)] f308 60,E8 261 53 [(2,pZ 2),(8,pZ 3),(9,vi p.c4),(11,pZ 4),(35,.sl (.struct [yI,yB]) p.c5),(36,vi p.c6),(37,vi p.c7)] f261 130354 5],[gZ [vi p.c8,.own 5],gZ [vi p.c9,.sl yU p.c10],gZ [vi p.c11,.fG true],gZ [vi p.c12,.own 5],gZ [vi p.c13,.sl yU p.c14],aZ yU h,.a_]⟩
def an6(A:aS)(l:List<|Int×List Int):LT ((Int×List Int)×Int) ad4:=.ak<|.c0 ⟨l,l,A.l l,0⟩ 0 0
def Dx(A:aS):ad4->LT ((Int×List Int)×Int) ad4
 | .c0 p a1 a4=>.br (A.bo a4 p.a3) (.ao (A.and (A.bE 0 a4)<|A.bo a4<|A.l p.a2)<|.br (A.cm (A.k uU (A.n (.struct [yI,yB]) p.a2 a4:Int×List Int)) 0) (.ret ((0,([]:List Int)),A.k uU (A.n (.struct [yI,yB]) p.a2 a4:Int×List Int)))<|.ak<|.c0 p (A.mn (A.b .add .i64 a1 (A.n (.struct [yI,yB]) p.a2 a4:Int×List Int).1) 4097)<|A.b .add .i64 a4 1)<|.br (A.jD a1 4096) (.ret ((0,([]:List Int)),3))<|.ao (A.and (A.bq (A.k lQ a1)<|A.k lQ a1)<|A.and (A.bE 0<|A.k lQ a1)<|A.bE (A.k lQ a1) 140737488355328)<|.ak<|.c1 ⟨p.a0,A.l p.a0,p.a5,a1⟩ 0 0<|A.r (A.k lQ a1) (0:Int)
 | .c1 p b0 b3 h=>.br (A.bo b3 p.b2) (.ao (A.and (A.bE 0 b3)<|A.bo b3<|A.l p.b1)<|.br (A.bq (A.b .rem .i64 b0 8) 0) (.br (A.bq (A.n (.struct [yI,yB]) p.b1 b3:Int×List Int).1 (A.n (.struct [yI,yB]) p.b1 b3:Int×List Int).1) (.ao (A.and (A.bE 0<|A.b .quo .i64 b0 8)<|A.and (A.bE (A.b .quo .i64 b0 8)<|A.l h)<|A.bE (A.l h)<|A.l h)<|.ao (A.and (A.bE 0 0)<|A.and (A.bE 0<|A.l (A.n (.struct [yI,yB]) p.b1 b3:Int×List Int).2)<|A.bE (A.l (A.n (.struct [yI,yB]) p.b1 b3:Int×List Int).2)<|A.l (A.n (.struct [yI,yB]) p.b1 b3:Int×List Int).2)<|.ak<|.c1 p (A.b .add .i64 b0 (A.n (.struct [yI,yB]) p.b1 b3:Int×List Int).1) (A.b .add .i64 b3 1)<|A.spl h (A.b .quo .i64 b0 8)<|A.s (A.s (A.n (.struct [yI,yB]) p.b1 b3:Int×List Int).2 0<|A.l (A.n (.struct [yI,yB]) p.b1 b3:Int×List Int).2) 0<|A.mn (A.l<|A.s (A.n (.struct [yI,yB]) p.b1 b3:Int×List Int).2 0<|A.l (A.n (.struct [yI,yB]) p.b1 b3:Int×List Int).2)<|A.b .sub .i64 (A.l h)<|A.b .quo .i64 b0 8)<|.ak<|.c2 ⟨b0,0,(A.n (.struct [yI,yB]) p.b1 b3:Int×List Int).1,b0,p.b1,p.b2,b3,p.b5,(A.n (.struct [yI,yB]) p.b1 b3:Int×List Int).1,(A.n (.struct [yI,yB]) p.b1 b3:Int×List Int).2,p.b4,p.b5,(A.n (.struct [yI,yB]) p.b1 b3:Int×List Int).1,(A.n (.struct [yI,yB]) p.b1 b3:Int×List Int).2⟩ 0 h)<|.ak<|.c2 ⟨b0,0,(A.n (.struct [yI,yB]) p.b1 b3:Int×List Int).1,b0,p.b1,p.b2,b3,p.b5,(A.n (.struct [yI,yB]) p.b1 b3:Int×List Int).1,(A.n (.struct [yI,yB]) p.b1 b3:Int×List Int).2,p.b4,p.b5,(A.n (.struct [yI,yB]) p.b1 b3:Int×List Int).1,(A.n (.struct [yI,yB]) p.b1 b3:Int×List Int).2⟩ 0 h)<|.ret ((p.b5,h),0)
 | .c2 p c3 i=>.br (A.bo c3 p.c2) (.ao (A.k Di ((p.c9,p.c10),c3))<|.br (A.k TJ ((p.c9,p.c10),c3)) (.ao (A.and (A.bE 0<|A.b .quo .i64 (A.b .sub .i64 (A.b .add .i64 p.c0 c3) p.c1) 8)<|A.bo (A.b .quo .i64 (A.b .sub .i64 (A.b .add .i64 p.c0 c3) p.c1) 8)<|A.l i)<|.ao (A.k x_<|A.b .sub .i64 (A.b .add .i64 p.c0 c3) p.c1)<|.ao (A.and (A.bE 0<|A.b .quo .i64 (A.b .sub .i64 (A.b .add .i64 p.c0 c3) p.c1) 8)<|A.bo (A.b .quo .i64 (A.b .sub .i64 (A.b .add .i64 p.c0 c3) p.c1) 8)<|A.l i)<|.ak<|.c2 p (A.b .add .i64 c3 1)<|A.set i (A.b .quo .i64 (A.b .sub .i64 (A.b .add .i64 p.c0 c3) p.c1) 8)<|A.b .or .u8 (A.n yU i (A.b .quo .i64 (A.b .sub .i64 (A.b .add .i64 p.c0 c3) p.c1) 8):Int)<|A.k OD<|A.b .sub .i64 (A.b .add .i64 p.c0 c3) p.c1)<|.ak<|.c2 p (A.b .add .i64 c3 1) i)<|.ak<|.c1 ⟨p.c5,p.c6,p.c11,p.c12⟩ (A.b .add .i64 p.c4 p.c13) (A.b .add .i64 p.c7 1) i
def aqv{p:Xr}{m:Nat}(l:∀B:List Int,B.length=m->Go (Dx af) (.ak<|.c1 ⟨p.c5,p.c6,p.c11,p.c12⟩ (af.b .add .i64 p.c4 p.c13) (af.b .add .i64 p.c7 1) B) λ_=>True)(q:0<=p.c0/\p.c0<=10000)(n:p.c1=0)(u:p.c2<=8*(p.c10.length:Int))(v:p.c2<=10000)(z:p.c0+p.c2<=8*(m:Int)):
  ∀(j:Nat) (i:Int) (B:List Int),p.c2-i<=(j:Int)->0<=i->B.length=m->Go (Dx af) (.ak<|.c2 p i B) λ_=>True:=by
 intro j
 induction j with
 | zero=>exact λi B o _ h=>aP<|aW (λg=>by omega) λ_=>l B h
 | succ j ih=>
   intro i B o y h;refine aP (aW (λg=>ah (am5<|by omega)<|du (λ_=>?_) λ_=>?_) λ_=>l B h)
   .rw[n,rY (a:=p.c0)<|by omega,EE (a:=p.c0+i)<|by omega];have n1:=ix8 (x:=p.c0+i-0) (B:=B) (by omega);refine ah n1<|ah (am6<|by omega)<|ah n1 ?_;rw[rY (a:=i)<|by omega];exact ih (i+1) _ (by omega) (by omega)<|(bW ..).trans h
   .rw[rY (a:=i)<|by omega];exact ih (i+1) B (by omega) (by omega) h
def Rc{x:Int×List Int}(h:af.k uU x=0):0<=x.1/\x.1<=4096/\(x.2.length:Int)=(x.1+7)/8:=by
 have⟨n,b⟩:=x;exact GV h
def zl:List (Int×List Int)->Int
 | []=>0
 | x::l=>x.1+zl l
theorem Cb:∀{l:List<|Int×List Int},(∀x∈l,af.k uU x=0)->0<=zl l
 | [],_=>aj 0
 | x::l,h=>by
   have j:=Rc<|h x aJ;have m:=Cb λy i=>h y<|aD _ i;rw[zl];omega
theorem Qf:∀{l:List<|Int×List Int} {x:Int×List Int},zl (l ++ [x])=zl l+x.1
 | [],x=>Int.add_comm ..
 | y::l,x=>by
   show y.1+zl (l ++ [x])=y.1+zl l+x.1;rw[Qf];omega
def acQ{y:List Int}{k:Int}(h:0<=k/\k<=(B.length:Int)):(af.spl B k<|af.s y 0<|af.mn a<|(B.length:Int)-k).length=B.length:=by
 have:(af.s y 0<|af.mn a<|(B.length:Int)-k).length<=B.length-k.toNat:=by
  rw[jc,mZ];simp only[dQ,dh];split<;>omega
 rw[nU,t_,t_,dh,dQ];omega
def aqu{p:Xq}{m:Nat}(A:p.b1=l)(v:p.b2=(l.length:Int))(y:∀x∈l,af.k uU x=0)(P:p.b5<=8*(m:Int))(Q:p.b5<=4096)(V:m<=1000)(S:l.length<=140737488355328):
  ∀(j i:Nat) (o:Int) (B:List Int),l.length-i=j->i<=l.length->0<=o->o+zl (l.drop i)<=p.b5->B.length=m->Go (Dx af) (.ak<|.c1 p o i B) λ_=>True:=by
 intro j
 induction j with
 | zero=>
   intro i o B J I E z C;refine aP ?_;rw[Dx,v];exact aW (λg=>by omega) λ_=>ay trivial
 | succ j ih=>
   intro i o B J I E z C;have h:i<l.length:=by omega
   have W:=Cb (l:=l.drop<|i+1) λx K=>y x<|List.mem_of_mem_drop K;refine aP ?_;rw[Dx,A,v];refine aW (λ_=>ah (cJ h) ?_) λ_=>ay trivial;rw[show(af.n (.struct [(.int .i64),.slice<|.int .u8]) l (i:Int):Int×List Int)=l[i] from eO h _];have⟨a,c,e⟩:=Rc<|y _<|cZ h;rw[xx h,zl] at z;generalize l[i]=x at a c e z;have⟨n,b⟩:=x;have a:0<=n:=a;have c:n<=4096:=c;have e:(b.length:Int)=(n+7)/8:=e;have z:o+(n+zl (l.drop<|i+1))<=p.b5:=z;have F:∀u:List Int,u.length=m->Go (Dx af) (.ak<|.c1 p (af.b .add .i64 o n) (af.b .add .i64 i 1) u) λ_=>True:=λu q=>by
    rw[rY (a:=o)<|by omega,jQ (i:=i)<|by omega];exact ih (i+1) (o+n) u (by omega) (by omega) (by omega) (by omega) q
   have lp:Go (Dx af) (.ak<|.c2 ⟨o,0,n,o,l,(l.length:Int),(i:Int),p.b5,n,b,p.b4,p.b5,n,b⟩ 0 B) λ_=>True:=by
    refine aqv (m:=m) (λu q=>?_) ⟨E,by show o<=_;omega⟩ rfl (by show n<=8*(b.length:Int);omega) (by show n<=_;omega) (by show o+n<=_;omega) n.toNat 0 B (by show n-0<=_;omega) (aj 0) C;have:=F u q;have⟨G,H,N,O⟩:=p;have A:G=l:=A;have v:H=(l.length:Int):=v;subst A;subst v;exact this
   refine du (λ_=>du (λ_=>?_) λ_=>lp) λ_=>lp;have D:0<=o/8/\o/8<=(B.length:Int):=by omega
   rw[abP<|by omega,show af.b .sub .i64 (af.l B) (o/8)=(B.length:Int)-o/8 from EE (a:=(B.length:Int))<|by omega];refine ah ?_<|ah ?_<|F _<|(acQ D).trans C
   .rw[bu,bu,aB,aB,aB];show(decide _&&(decide (_<=(B.length:Int))&&decide _))=true;rw[cr D.1,cr D.2,cr<|aj _];rfl
   .rw[bu,bu,aB,aB,aB];show(decide _&&(decide (_<=(b.length:Int))&&decide _))=true;simp
def aqt(D:l.length<=140737488355328):
  ∀(j i:Nat) (o:Int),l.length-i=j->i<=l.length->(∀x∈l.take i,af.k uU x=0)->o=zl (l.take i)\/o=4097->o<=4097->Go (Dx af) (.ak<|.c0 ⟨l,l,af.l l,0⟩ o i) λ_=>True:=by
 intro j;have v:∀o:Int,(∀x∈l,af.k uU x=0)->o=zl l\/o=4097->Go (Dx af) (.br (af.jD o 4096) (.ret ((0,([]:List Int)),3)) (.ao (af.and (af.bq (af.k lQ o) (af.k lQ o)) (af.and (af.bE 0 (af.k lQ o)) (af.bE (af.k lQ o) 140737488355328))) (.ak (.c1 ⟨l,af.l l,0,o⟩ 0 0 (af.r (af.k lQ o) (0:Int)))))) λ_=>True:=λo p u=>by
  refine kY (λ_=>ay trivial) λg=>?_;have F:=Cb p;have u:o=zl l:=u.elim id λk=>by omega
  rw[E9<|by omega];exact ah (aa0<|by omega)<|aqu (m:=((o+7)/8).toNat) rfl rfl p (by show o<=_;omega) (by show o<=_;omega) (by omega) D l.length 0 0 _ rfl (aM _) (aj 0) (by show 0+zl l<=o;omega) (by rw[uK,Ht])
 induction j with
 | zero=>
   intro i o C B p u A;rw[dI (by omega)] at p u;exact aP (aW (λg=>by have g:(i:Int)<(l.length:Int):=g;omega) λ_=>v o p u)
 | succ j ih=>
   intro i o C B p u A;have q:i<l.length:=by omega
   refine aP (aW (λ_=>ah (cJ q)<|dD (λ_=>ay trivial) λh=>?_) λg=>by have g:(l.length:Int)<=(i:Int):=g;omega);rw[show(af.n (.struct [(.int .i64),.slice<|.int .u8]) l (i:Int):Int×List Int)=l[i] from eO q _] at h ⊢;have⟨a,c,_⟩:=Rc h;have G:=Cb p;have y:=cn q;generalize l[i]=x at *;have⟨n,b⟩:=x;have a:0<=n:=a;have c:n<=4096:=c;show Go (Dx af) (.ak<|.c0 _ (af.mn (af.b .add .i64 o n) 4097) _) _;rw[rY (a:=o)<|by omega,jQ (i:=i)<|by omega];have E:zl (l.take<|i+1)=zl (l.take i)+n:=by rw[y,Qf]
   refine ih (i+1) _ (by omega) (by omega) (λx z=>?_) ?_ ?_
   .rw[y] at z;exact(pP.1 z).elim (p x) λk=>by rw[aO.1 k];exact h
   .rw[E,mZ];split<;>omega
   .rw[mZ];split<;>omega
def ap2(h:l.length<=140737488355328):Go (Dx af) (an6 af l) λ_=>True:=aqt h l.length 0 0 rfl (aM _) (λx i=>by cases i) (.inl rfl) (by decide)
def TG:(List<|Int×List Int)->((Int×List Int)×Int):=λl=>fA (Dx af) (an6 af l) ((0,[]),0)
def auf:aK:=.all [(.slice<|.struct [yI,yB])] [(.struct [yI,yB]),yI] TG
def asq:Sd 261 auf:=fa<|aX ax dJ sl 24 [⟨261,3,[[0,2,4,12,13,14]]⟩,⟨261,15,[[2,8,9,35,36,37]]⟩,⟨308,4,[[1,3,4,5,7,10],[2,8,9,11,35,36,37]]⟩] [] (λA l=>an6 A l) Dx akk (kz (fc func261 (fc func305 (fc func307 (fc func308 fz)))) (sc Nr (sc U3 (sc acC (sc U6 sz))))) (λA y=>match y with |.c0 p a1 j=>⟨55,sl,by kernel_rfl⟩|.c1 p b0 b3 m=>⟨82,sl,by kernel_rfl⟩|.c2 p c3 i=>⟨57,sl,by kernel_rfl⟩) λl n h=>Go.run<|ap2 (O2 h).1
def awH(A:aS)(l:Int)(j:List Int)(i:Int)(h:List Int):LT ((Int×List Int)×Int) Empty:=.br (A.cm (A.k GG [(i,h),(l,j)]).2 0) (.ret ((0,([]:List Int)),(A.k GG [(i,h),(l,j)]).2))<|.ret<|A.k uv ((l,j),A.v .u64 (A.k GG [(i,h),(l,j)]).1,24)
def TF:((Int×List Int)×(Int×List Int))->((Int×List Int)×Int):=λ((l,j),i,h)=>(awH af l j i h).val<|Ty.aR [(.struct [yI,yB]),yI]
def aue:aK:=.all [(.struct [yI,yB]),.struct [yI,yB]] [(.struct [yI,yB]),yI] TF
def asp:Sd 260 aue:=fa<|aQ ax dJ sl 44 [] (λA ((l,j),i,h)=>awH A l j i h)<|kz (fc func260 fz)<|sc acB<|sc aiy sz
def t91(A:aS)(i:Int)(j:List Int)(l:Int)(v:Int)(h:Int):LT (((Int×List Int)×Int)×Unit) Empty:=.br (A.bq l 0) (.ret (A.k uv ((i,j),A.v .u64 v,h),()))<|.ret (((i,j),l),())
theorem azQ{k:Int}:aV Empty.elim (t91 af n b e v k) (bif decide (e=0) then uv ((n,b),af.v .u64 v,k) else((n,b),e),()):=by
 by_cases h:e=0
 .rw[cr h];exact(ar (by rw[bg,h];rfl)).2 (.ret _)
 .rw[gw h];exact(ap (by rw[bg];simp_all)).2 (.ret _)
def Af:((Int×List Int)×Int)×(Int×Int)->((Int×List Int)×Int)×Unit:=λ((s,e),v,n)=>(bif decide (e=0) then uv (s,af.v .u64 v,n) else(s,e),())
def ayp:cH:=.all [.ptr [.d<|.struct [yI,yB],.d yI]] [yI,yI] [] Af true
def aq1:cH.bI prog 208 ayp:=ma<|bV ax dJ sl 46 [] [] (λA (((j,l),m),(v,i))=>t91 A j l m v i) (λ_=>Empty.elim) Empty.elim (kz (fc func208 fz) (sc acB sz)) (λ_ y=>y.elim)<|λ((((j,l),m),(v,i)):(((Int×List Int)×Int))×(Int×Int)) n o h=>azQ
def t94(A:aS)(h:Int)(i:List Int)(j:Int)(m:Int)(l:List Int):LT (((Int×List Int)×Int)×Unit) Empty:=.br (A.bq j 0) (.ret (A.k TG [(h,i),(m,l)],()))<|.ret (((h,i),j),())
theorem azT{k:Int}{c:List Int}:aV Empty.elim (t94 af n b e k c) (bif decide (e=0) then TG [(n,b),(k,c)] else((n,b),e),()):=by
 by_cases h:e=0
 .rw[cr h];exact(ar (by rw[bg,h];rfl)).2 (.ret _)
 .rw[gw h];exact(ap (by rw[bg];simp_all)).2 (.ret _)
def al4:((Int×List Int)×Int)×(Int×List Int)->((Int×List Int)×Int)×Unit:=λ((s,e),b)=>(bif decide (e=0) then TG [s,b] else(s,e),())
def ays:cH:=.all [.ptr [.d<|.struct [yI,yB],.d yI]] [(.struct [yI,yB])] [] al4 true
def ayo:cH.bI prog 211 ays:=ma<|bV ax dJ sl 46 [] [] (λA (((i,j),n),(m,l))=>t94 A i j n m l) (λ_=>Empty.elim) Empty.elim (kz (fc func211 fz) (sc asq sz)) (λ_ y=>y.elim)<|λ((((i,j),n),(m,l)):(((Int×List Int)×Int))×((Int×List Int))) o p h=>azT
def t92(A:aS)(j:Int)(l:List Int)(m:Int)(i:Int)(h:List Int):LT (((Int×List Int)×Int)×Unit) Empty:=.br (A.bq m 0) (.ret (A.k TF ((j,l),i,h),()))<|.ret (((j,l),m),())
theorem azR{k:Int}{c:List Int}:aV Empty.elim (t92 af n b e k c) (bif decide (e=0) then TF ((n,b),k,c) else((n,b),e),()):=by
 by_cases h:e=0
 .rw[cr h];exact(ar (by rw[bg,h];rfl)).2 (.ret _)
 .rw[gw h];exact(ap (by rw[bg];simp_all)).2 (.ret _)
def VN:((Int×List Int)×Int)×(Int×List Int)->((Int×List Int)×Int)×Unit:=λ((s,e),b)=>(bif decide (e=0) then TF (s,b) else(s,e),())
def ayq:cH:=.all [.ptr [.d<|.struct [yI,yB],.d yI]] [(.struct [yI,yB])] [] VN true
def aym:cH.bI prog 209 ayq:=ma<|bV ax dJ sl 45 [] [] (λA (((l,m),n),(j,i))=>t92 A l m n j i) (λ_=>Empty.elim) Empty.elim (kz (fc func209 fz) (sc asp sz)) (λ_ y=>y.elim)<|λ((((l,m),n),(j,i)):(((Int×List Int)×Int))×((Int×List Int))) o p h=>azR
structure ahL where(a0:List Int)(a1:Int)
inductive Y93 where|c0(p:ahL)(a2 a3:Int)(a4:List Int)(a5:Int)
noncomputable def apH:Y93->gY
 | .c0 p a2 a3 a4 a5=>⟨[gW 210 19 [(0,pZ 0),(7,.sl yU p.a0),(8,vi p.a1),(9,vi a2)] f210 52],[gZ [vi a3,.sl yU a4,vi a5],.a_]⟩
def t93(A:aS)(h:Int)(i:List Int)(j:Int)(l:List Int):LT (((Int×List Int)×Int)×Unit) Y93:=.ak<|.c0 ⟨l,A.l l⟩ 0 h i j
def s93(A:aS):Y93->LT (((Int×List Int)×Int)×Unit) Y93
 | .c0 p a2 a3 a4 a5=>.br (A.bo a2 p.a1) (.ao (A.and (A.bE 0 a2)<|A.bo a2<|A.l p.a0)<|.ak<|.c0 p (A.b .add .i64 a2 1) (A.k Af (((a3,a4),a5),A.v .i64 (A.n yU p.a0 a2:Int),8)).1.1.1 (A.k Af (((a3,a4),a5),A.v .i64 (A.n yU p.a0 a2:Int),8)).1.1.2 (A.k Af (((a3,a4),a5),A.v .i64 (A.n yU p.a0 a2:Int),8)).1.2)<|.ret (((a3,a4),a5),())
def akg(l:List Int)(s:(Int×List Int)×Int):(Int×List Int)×Int:=l.foldl (λs c=>(Af (s,af.v .i64 c,8)).1) s
theorem azS{l:List Int}(u:l.length<=140737488355328){p:ahL}(n:p.a0=l)(m:p.a1=(l.length:Int)):∀(j i:Nat) (s:(Int×List Int)×Int),l.length-i=j->i<=l.length->
  aV (s93 af) (.ak<|.c0 p i s.1.1 s.1.2 s.2) (akg (l.drop i) s,()):=by
 intro j
 induction j with
 | zero=>
   intro i s q o;have:i=l.length:=by omega
   subst this;rw[aG,s93,m,cY];exact(ap (by rw[bi];simp)).2 (.ret _)
 | succ j ih=>
   intro i s q o;have h:i<l.length:=by omega
   rw[aG,s93,n,m];refine(ar (by simp_all;exact cr<|by omega)).2 (au.2 ⟨cJ h,?_⟩);rw[show(af.n (.int .u8) l (i:Int):Int)=l[i] from eO h _,xx h,jQ (i:=i)<|by omega];exact ih (i+1) (Af (s,af.v .i64 l[i],8)).1 (by omega) (by omega)
def axS{l:List Int}(h:l.length<=140737488355328):aV (s93 af) (t93 af n b e l) (akg l ((n,b),e),()):=
 azS h rfl rfl l.length 0 ((n,b),e) rfl (aM _)
def al3:((Int×List Int)×Int)×(List Int)->((Int×List Int)×Int)×Unit:=λ(s,l)=>(akg l s,())
def ayr:cH:=.all [.ptr [.d<|.struct [yI,yB],.d yI]] [yB] [] al3 true
def ayn:cH.bI prog 210 ayr:=ma<|bV ax dJ sl 19 [⟨210,2,[[0,7,8,9]]⟩] [] (λA (((i,j),m),l)=>t93 A i j m l) s93 apH ⟨fc func210 fz,sz,oz,iz,(mc aq1 mz),pz⟩ (λA y=>match y with |.c0 p a2 n o q=>⟨32,sl,by kernel_rfl⟩)<|λ((((i,j),m),l):(((Int×List Int)×Int))×(List Int)) u v h=>axS h.1
abbrev ada(A:aS)(h:Int):=(A.k Af (((0,([]:List Int)),0),A.b .sub .i64 h 1,2))
def t46(A:aS)(j:Int)(p:Int)(i:Int)(n:Int)(l:Int)(m:Int)(h:Int)(q:Int)(o:List Int):LT ((Int×List Int)×Int) Empty:=.br (A.cm (A.k xd (j,p,(i,n,l,m,h),q,o)) 0) (.ret ((0,([]:List Int)),A.k xd (j,p,(i,n,l,m,h),q,o)))<|.br (A.cm (A.k OY (i,n,l,m,h)).2 0) (.ret ((0,([]:List Int)),(A.k OY (i,n,l,m,h)).2))<|.br (A.bq j 1) (.ret (A.k VN ((A.k Af ((A.k Af ((A.k Af ((ada A j).1,q,3)).1,i,8)).1,0,3)).1,0,([]:List Int))).1)<|.br (A.bq j 2) (.ret (A.k VN ((A.k al3 ((A.k Af ((ada A j).1,p,3)).1,o)).1,(A.k OY (i,n,l,m,h)).1)).1)<|.br (A.bq j 3) (.ret (A.k VN ((A.k al4 ((A.k Af ((A.k Af ((ada A j).1,p,3)).1,0,1)).1,(A.k OY (i,n,l,m,h)).1)).1,0,([]:List Int))).1)<|.br (A.bq j 4) (.ret (A.k VN ((A.k al3 ((A.k VN ((A.k al4 ((A.k Af ((A.k Af ((ada A j).1,p,3)).1,0,2)).1,(A.k OY (i,n,l,m,h)).1)).1,0,([]:List Int))).1,o)).1,(A.k OY (i,n,l,m,h)).1)).1)<|.ret (ada A j).1
def Ae:(Int×Int×(Int×Int×Int×Int×Int)×Int×List Int)->((Int×List Int)×Int):=λ(p,q,(l,m,i,j,h),o,n)=>(t46 af p q l m i j h o n).val<|Ty.aR [(.struct [yI,yB]),yI]
def ay6:aK:=.all [(.struct [yI,yI,.struct [yI,yI,yI,yI,yI],yI,yB])] [(.struct [yI,yB]),yI] Ae
def as2:Sd 155 ay6:=fa<|aX ax dJ sl 120 [] [] (λA (q,u,(m,n,j,l,i),p,o)=>t46 A q u m n j l i p o) (λ_=>Empty.elim) Empty.elim ⟨fc func155 fz,(sc aty (sc atY sz)),oz,iz,(mc aq1 (mc aym (mc ayn (mc ayo mz)))),pz⟩ (λ_ y=>y.elim) λ((q,u,(m,n,j,l,i),p,o):(Int×Int×(Int×Int×Int×Int×Int)×Int×List Int)) v h=>LT.runs (d:=Ty.aR [(.struct [yI,yB]),yI]) (LT.gI<|by kernel_rfl)<|LT.jg (by kernel_rfl)
def ase(h:0<=n)(i:n<=8):af.b .shl .i64 1 n=((2^n.toNat:Nat):Int):=by
 have:n=0\/n=1\/n=2\/n=3\/n=4\/n=5\/n=6\/n=7\/n=8:=by omega
 rcases this with rfl|rfl|rfl|rfl|rfl|rfl|rfl|rfl|rfl<;>decide
def As{n:Nat}(h:n<=8):2^n<=256:=gf (by decide) h
def rv(c a:Int):Bool:=c.toNat.testBit a.toNat
def pN(c s:Int):Int:=af.b .or .i64 c<|af.b .shl .i64 1 s
def xb(c s:Int):Int:=af.b .andNot .i64 c<|af.b .shl .i64 1 s
def afE:∀c:Fin 256,∀a:Fin 8,af.b .or .i64 (c.val:Int) (af.b .shl .i64 1 (a.val:Int))=((c.val ||| 2^a.val:Nat):Int):=by decide +kernel
def afk:∀c:Fin 256,∀a:Fin 8,af.b .andNot .i64 (c.val:Int) (af.b .shl .i64 1 (a.val:Int))=((c.val &&& (255 ^^^ 2^a.val):Nat):Int):=by decide +kernel
def aaz{c:Int}(h:0<=c)(j:c<256)(i:0<=s)(l:s<8):pN c s=((c.toNat ||| 2^s.toNat:Nat):Int):=by
 obtain⟨c,rfl⟩:=bf h;obtain⟨s,rfl⟩:=bf i;exact afE ⟨c,by omega⟩ ⟨s,by omega⟩
def del_eq{c:Int}(h:0<=c)(j:c<256)(i:0<=s)(l:s<8):xb c s=((c.toNat &&& (255 ^^^ 2^s.toNat):Nat):Int):=by
 obtain⟨c,rfl⟩:=bf h;obtain⟨s,rfl⟩:=bf i;exact afk ⟨c,by omega⟩ ⟨s,by omega⟩
def aaA{c:Int}(h:0<=c)(o:n<=8)(l:c<((2^n.toNat:Nat):Int))(i:0<=s)(m:s<n):0<=pN c s/\pN c s<((2^n.toNat:Nat):Int):=by
 have p:=As (n:=n.toNat) (by omega);rw[aaz h (by omega) i<|by omega];have j:2^s.toNat<2^n.toNat:=Nat.pow_lt_pow_right (by decide) (by omega);have:=Nat.or_lt_two_pow (x:=c.toNat) (y:=2^s.toNat) (n:=n.toNat) (by omega) j;omega
def Y5{c:Int}(h:0<=c)(m:n<=8)(j:c<((2^n.toNat:Nat):Int))(i:0<=s)(l:s<8):0<=xb c s/\xb c s<((2^n.toNat:Nat):Int):=by
 have o:2^n.toNat<=2^8:=gf (by decide) (by omega);rw[del_eq h (by omega) i<|by omega];have:c.toNat &&& (255 ^^^ 2^s.toNat)<=c.toNat:=Nat.and_le_left;omega
theorem Tw{c i:Int}(h:0<=c)(j:c<256)(l:0<=s)(m:s<8)(n:0<=i):rv (pN c s) i=(rv c i||s==i):=by
 rw[aaz h j l m,rv,rv,AT,Nat.testBit_or,Nat.testBit_two_pow]
 grind
theorem LK{c i:Int}(h:0<=c)(j:c<256)(l:0<=s)(m:s<8)(n:0<=i):rv (xb c s) i=(rv c i&&s != i):=by
 rw[del_eq h j l m,rv,rv,AT,Nat.testBit_and,Nat.testBit_xor,Nat.testBit_two_pow];by_cases o:i<8
 .have e:Nat.testBit 255 i.toNat=true:=by
   have:i.toNat=0\/i.toNat=1\/i.toNat=2\/i.toNat=3\/i.toNat=4\/i.toNat=5\/i.toNat=6\/i.toNat=7:=by omega
   grind
  grind
 .have:c.toNat.testBit i.toNat=false:=Nat.testBit_lt_two_pow<|bC (by omega:c.toNat<2^8)<|gf (by decide) (by omega)
  simp_all
def YJ:∀c:Fin 256,∀a:Fin 8,(af.b .and .i64 (af.b .shr .i64 (c.val:Int) (a.val:Int)) 1==0)=!(c.val.testBit a.val):=by decide +kernel
def YK:∀c:Fin 256,∀a:Fin 8,(af.b .and .i64 (c.val:Int) (af.b .shl .i64 1 (a.val:Int))==0)=!(c.val.testBit a.val):=by decide +kernel
def ahO{c:Int}(h:0<=c)(j:c<256)(i:0<=a)(l:a<8):af.b .and .i64 (af.b .shr .i64 c a) 1=0↔rv c a=false:=by
 obtain⟨c,rfl⟩:=bf h;obtain⟨a,rfl⟩:=bf i;have:=YJ ⟨c,by omega⟩ ⟨a,by omega⟩;rw[<-beq_iff_eq,this];simp[rv]
def apv{c:Int}(h:0<=c)(j:c<256)(i:0<=a)(l:a<8):af.b .and .i64 c (af.b .shl .i64 1 a)=0↔rv c a=false:=by
 obtain⟨c,rfl⟩:=bf h;obtain⟨a,rfl⟩:=bf i;have:=YK ⟨c,by omega⟩ ⟨a,by omega⟩;rw[<-beq_iff_eq,this];simp[rv]
def oF(a b c d e f g:Int):Prop:=4<=b/\b<=8/\0<=a/\a<b/\0<=g/\g<b/\0<=c/\c<((2^b.toNat:Nat):Int)/\0<=d/\d<=1048576/\0<=e/\e<=1048576/\0<=f/\f<=2/\(f≠0->rv c a=true)/\(f=2->g≠a)
variable{f g:Int}
def arA{b c:Int}(h:oF a b c d e f g):c<256:=by
 have⟨i,j,_,_,_,_,_,l,_⟩:=h;have:=As (n:=b.toNat) (by omega);omega
def t81(A:aS)(n:Int)(h:Int):LT Bool Empty:=.br (A.ov n 0) (.ret<|A.bE n h)<|.ret false
def JS:(Int×Int)->Bool:=λ(n,h)=>(t81 af n h).val<|Ty.aR [.bool]
def azh:aK:=.all [yI,yI] [.bool] JS
def atX:Sd 234 azh:=fa<|aQ ax dJ sl 21 [] (λA (n,h)=>t81 A n h)<|kz (fc func234 fz) sz
theorem Mh:JS (n,m)=(decide (0<=n)&&decide (n<=m)):=by
 simp only[JS,t81,LT.val,kW,aB]
 simp_all
def t34(A:aS)(j:Int)(n:Int)(l:Int)(o:Int)(m:Int)(h:Int)(i:Int):LT Int Empty:=.br (A.bo n 4) (.ret 90)<|.br (A.jD n 8) (.ret 90)<|.br (A.not<|A.k JS (j,A.b .sub .i64 n 1)) (.ret 90)<|.br (A.not<|A.k JS (i,A.b .sub .i64 n 1)) (.ret 90)<|.br (A.not<|A.k JS (o,1048576)) (.ret 90)<|.br (A.not<|A.k JS (m,1048576)) (.ret 90)<|.br (A.not<|A.k JS (h,2)) (.ret 90)<|.ao (A.bE 0 n)<|.br (A.not<|A.k JS (l,A.b .sub .i64 (A.b .shl .i64 1 n) 1)) (.ret 90)<|.br (A.cm h 0) (.ao (A.bE 0 j)<|.br (A.bq (A.b .and .i64 (A.b .shr .i64 l j) 1) 0) (.ret 90)<|.br (A.bq h 2) (.br (A.bq i j) (.ret 90)<|.ret 0)<|.ret 0)<|.br (A.bq h 2) (.br (A.bq i j) (.ret 90)<|.ret 0)<|.ret 0
def rN:(Int×Int×Int×Int×Int×Int×Int)->Int:=λ(n,o,m,l,j,i,h)=>(t34 af n o m l j i h).val<|Ty.aR [yI]
def ay2:aK:=.all [(.struct [yI,yI,yI,yI,yI,yI,yI])] [yI] rN
def Sk:Sd 184 ay2:=fa (aQ ax dJ sl 123 [] (λA (o,p,n,m,l,j,i)=>t34 A o p n m l j i) (kz (fc func184 fz) (sc atX sz)) (λ((o,p,n,m,l,j,i):(Int×Int×Int×Int×Int×Int×Int)) q h=>by
 show(t34 af o p n m l j i).pre=true;simp only[t34,LT.pre,STD,bne_iff_ne,beq_iff_eq,bne_eq_false_iff_eq,beq_eq_false_iff_ne,Mh];simp only[Ty.lC,Ty.has,KQ,ap5] at h
 (repeat' (first|intro _|constructor))<;>(try omega)))
variable{x:Int×Int×Int×Int×Int×Int×Int}
def Q5:rN x=0\/rN x=90:=by
 exact LT.sQ (p:=λy=>y=0\/y=90) (.inl rfl) (by simp[t34,LT.all])
theorem ik{b c:Int}:rN (a,b,c,d,e,f,g)=0↔oF a b c d e f g:=by
 simp only[rN,t34,LT.val,Aa,bg,bZ,bi,iA,lJ,b_,gX,fM,Bool.not_eq_false',uR,decide_eq_false_iff_not,bne_iff_ne,beq_iff_eq,bne_eq_false_iff_eq,beq_eq_false_iff_ne,Mh];simp;unfold oF;by_cases j:4<=b/\b<=8
 .rw[lZ (by omega) (by omega),ase (by omega) j.2];have m:=As (n:=b.toNat) (by omega);have l:1<=2^b.toNat:=Nat.one_le_two_pow;rw[lZ (by omega) (by omega)];by_cases i:0<=c/\c<256/\0<=a/\a<8
  .have h:=ahO i.1 i.2.1 i.2.2.1 i.2.2.2
   grind
  omega
 omega
def t80(A:aS)(n:Int):LT Int Empty:=.ao (A.bE 0<|A.v .u64 n)<|.ret<|A.b .shl .i64 1<|A.v .u64 n
def aft:Int->Int:=λn=>(t80 af n).val<|Ty.aR [yI]
def Uh(h:0<=n)(i:n<=8):aft n=((2^n.toNat:Nat):Int):=by
 have:n=0\/n=1\/n=2\/n=3\/n=4\/n=5\/n=6\/n=7\/n=8:=by omega
 rcases this with rfl|rfl|rfl|rfl|rfl|rfl|rfl|rfl|rfl<;>decide
def Z_(h:0<=n)(i:n<=8):aft n=af.b .shl .i64 1 n:=by rw[Uh h i,ase h i]
def t35(A:aS)(l:Int)(o:Int)(m:Int)(n:Int)(j:Int)(h:Int)(i:Int):LT Int Empty:=.br (A.bo o 4) (.ret 90)<|.br (A.jD o 8) (.ret 90)<|.br (A.bo l 0) (.ret 90)<|.br (A.ov l o) (.ret 90)<|.br (A.bo i 0) (.ret 90)<|.br (A.ov i o) (.ret 90)<|.br (A.bo m 0) (.ret 90)<|.br (A.ov m<|A.k aft o) (.ret 90)<|.br (A.bo n 0) (.ret 90)<|.br (A.jD n 1048576) (.ret 90)<|.br (A.bo j 0) (.ret 90)<|.br (A.jD j 1048576) (.ret 90)<|.br (A.bo h 0) (.ret 90)<|.br (A.jD h 2) (.ret 90)<|.br (A.cm h 0) (.br (A.bq (A.b .and .i64 m<|A.k aft l) 0) (.ret 90)<|.br (A.bq h 2) (.br (A.bq i l) (.ret 90)<|.ret 0)<|.ret 0)<|.br (A.bq h 2) (.br (A.bq i l) (.ret 90)<|.ret 0)<|.ret 0
def vT:(Int×Int×Int×Int×Int×Int×Int)->Int:=λ(n,o,m,l,j,i,h)=>(t35 af n o m l j i h).val<|Ty.aR [yI]
def Q6:vT x=0\/vT x=90:=by
 exact LT.sQ (p:=λy=>y=0\/y=90) (.inl rfl) (by simp[t35,LT.all])
theorem nP{b c:Int}:vT (a,b,c,d,e,f,g)=0↔oF a b c d e f g:=by
 simp only[vT,t35,LT.val,Aa,bg,bZ,bi,iA,kW,b_,decide_eq_false_iff_not,bne_iff_ne,beq_iff_eq,bne_eq_false_iff_eq,beq_eq_false_iff_ne];simp;unfold oF;by_cases j:4<=b/\b<=8/\0<=a/\a<b
 .rw[Uh (by omega) j.2.1,Z_ (n:=a) (by omega) (by omega)];have l:=As (n:=b.toNat) (by omega);by_cases i:0<=c/\c<256
  .have h:=apv (a:=a) i.1 i.2 (by omega) (by omega)
   grind
  omega
 omega
theorem chk:rN x=vT x:=by
 have h:=Q5 (x:=x);have i:=Q6 (x:=x);have⟨a,b,c,d,e,f,g⟩:=x;have j:=ik (a:=a) (b:=b) (c:=c) (d:=d) (e:=e) (f:=f) (g:=g);have l:=nP (a:=a) (b:=b) (c:=c) (d:=d) (e:=e) (f:=f) (g:=g)
 grind
def t77(A:aS)(l:Int)(o:Int)(n:Int)(m:Int)(j:Int)(i:Int)(h:Int)(node:Int):LT Bool Empty:=.br (A.k JS (node,A.b .sub .i64 o 1)) (.ret<|A.cm node l)<|.ret false
def JR:((Int×Int×Int×Int×Int×Int×Int)×Int)->Bool:=λ((n,o,m,l,j,i,h),node)=>(t77 af n o m l j i h node).val<|Ty.aR [.bool]
def azf:aK:=.all [(.struct [yI,yI,yI,yI,yI,yI,yI]),yI] [.bool] JR
def anQ:Sd 297 azf:=fa<|aQ ax dJ sl 26 [] (λA ((n,o,m,l,j,i,h),node)=>t77 A n o m l j i h node)<|kz (fc func297 fz)<|sc atX sz
def t73(A:aS)(o:Int)(p:Int)(m:Int)(l:Int)(j:Int)(i:Int)(h:Int)(n:Int):LT Int Empty:=.br (A.cm (A.k rN (o,p,m,l,j,i,h)) 0) (.ret<|A.k rN (o,p,m,l,j,i,h))<|.br (A.not<|A.k JR ((o,p,m,l,j,i,h),n)) (.ret 2)<|.ret 0
def Q_:((Int×Int×Int×Int×Int×Int×Int)×Int)->Int:=λ((o,p,n,m,l,i,h),j)=>(t73 af o p n m l i h j).val<|Ty.aR [yI]
def azd:aK:=.all [(.struct [yI,yI,yI,yI,yI,yI,yI]),yI] [yI] Q_
def atO:Sd 300 azd:=fa<|aQ ax dJ sl 39 [] (λA ((o,p,n,m,l,i,h),j)=>t73 A o p n m l i h j)<|kz (fc func300 fz)<|sc Sk<|sc anQ sz
abbrev IX(A:aS)(i:Int)(h:Int):=(A.b .or .i64 i<|A.b .shl .i64 1 h)
def t78(A:aS)(m:Int)(p:Int)(j:Int)(o:Int)(n:Int)(l:Int)(i:Int)(h:Int):LT (List Int×Int) Empty:=.ao (A.bE 0 m)<|.ao (A.bE 0 i)<|.ao (A.bE 0 h)<|.br (A.bq l 0) (.ret ([(IX A j h),0],1))<|.br (A.bq l 1) (.ret ([(A.b .or .i64 (IX A j h)<|A.b .shl .i64 1 m),A.b .andNot .i64 (IX A j h)<|A.b .shl .i64 1 m],2))<|.br (A.bq h i) (.ret ([(A.b .or .i64 (IX A j h)<|A.b .shl .i64 1 m),0],1))<|.ret ([(A.b .andNot .i64 (A.b .or .i64 (IX A j h)<|A.b .shl .i64 1 m)<|A.b .shl .i64 1 i),A.b .andNot .i64 (A.b .or .i64 (IX A j h)<|A.b .shl .i64 1 i)<|A.b .shl .i64 1 m],2)
def oD:((Int×Int×Int×Int×Int×Int×Int)×Int)->(List Int×Int):=λ((o,p,n,m,l,i,h),j)=>(t78 af o p n m l i h j).val<|Ty.aR [(.arr 2 yI),yI]
def KZ:((Int×Int×Int×Int×Int×Int×Int)×Int)->Bool:=λ((a,b,c,d,e,f,g),s)=>decide (0<=a)&&(decide (0<=g)&&decide (0<=s))
def azg:aK:=⟨[(.struct [yI,yI,yI,yI,yI,yI,yI]),yI],[(.arr 2 yI),yI],KZ,oD,false⟩
def atW:Sd 298 azg:=aQ ax dJ sl 77 [] (λA ((p,q,o,n,m,j,i),l)=>t78 A p q o n m j i l) (kz (fc func298 fz) sz) (λ(((p,q,o,n,m,j,i),l):(Int×Int×Int×Int×Int×Int×Int)×Int) u h=>by
 show(t78 af p q o n m j i l).pre=true;simp only[t78,IX,LT.pre,STD,bne_iff_ne,beq_iff_eq,bne_eq_false_iff_eq,beq_eq_false_iff_ne];simp only[KZ,fZ,uR] at u;simp only[Ty.lC,Ty.has,KQ,ap5] at h
 (repeat' (first|intro _|constructor))<;>(try omega))
def xL{b c:Int}(h:4<=b)(i:b<=8):JR ((a,b,c,d,e,f,g),s)=true↔0<=s/\s<b/\s≠a:=by
 simp only[JR,t77,LT.val,bZ,b_,gX,Mh];simp;rw[lZ (by omega)<|by omega];omega
def OX{x:(Int×Int×Int×Int×Int×Int×Int)×Int}:0<=(oD x).2/\(oD x).2<=2:=by
 exact LT.sQ (p:=λy:List Int×Int=>0<=y.2/\y.2<=2) (by decide) (by simp[t78,IX,LT.all])
structure apr where(a0 a1 a2 a4 a5 a6 a7 a8 a9 jd lq a12 E5 N8 N9 a16 a17 Tn Qy a20 a21 a22 a23:Int)(a24:Bool)(a25 a26 a27 a28 a29 a30 a31 a32 a33 a34 a35 a36 a37 a38 a39 a40:Int)
inductive Y74 where|c0(p:apr)(a3:Int)
noncomputable def apF:Y74->gY
 | .c0 p a3=>⟨[gW 296 37 [(0,.yield 0),(24,.t6 1 1 false p.a0 p.a1),(25,vi p.a2),(26,vi a3)] f296 60,⟨301,19,en [(6,pZ 2),(7,pZ 3)],[.oY 0,.inBlock 0,.code<|cw f301 7],[4],none⟩],[.loop ⟨301,19,en [(0,.agg [vi p.a4,vi p.a5,vi p.a6,vi p.a7,vi p.a8,vi p.a9,vi p.jd]),(1,vi p.lq),(2,vi p.a12),(3,pZ 5),(5,pZ 6),(6,pZ 2),(7,pZ 3),(10,.agg [vi p.E5,vi p.N8,vi p.N9,vi p.a16,vi p.a17,vi p.Tn,vi p.Qy]),(11,vi p.a20),(12,.fn 296 [] [pZ 7,pZ 8])],[13,14],cw f301 52,cw f301 53,0,none⟩,gZ [vi p.a21,vi p.a22],vZ p.a23,gZ [vb p.a24],.Jq,gZ [vi p.a25,vi p.a26,vi p.a27,vi p.a28,vi p.a29,vi p.a30,vi p.a31],vZ p.a32,gZ [vi p.a33,vi p.a34,vi p.a35,vi p.a36,vi p.a37,vi p.a38,vi p.a39],vZ p.a40,.a_]⟩
def t74(A:aS)(o:Int)(p:Int)(n:Int)(m:Int)(l:Int)(i:Int)(h:Int)(j:Int)(q:Int):LT (Int×Bool) Y74:=.br (A.cm (A.k rN (o,p,n,m,l,i,h)) 0) (.ret (0,false))<|.br (A.not<|A.k JR ((o,p,n,m,l,i,h),j)) (.ret (0,false))<|.ao (A.k KZ ((o,p,n,m,l,i,h),j))<|.ao (A.and (A.bE 0 0)<|A.and (A.bE 0 (A.k oD ((o,p,n,m,l,i,h),j)).2)<|A.bE (A.k oD ((o,p,n,m,l,i,h),j)).2 2)<|.ak<|.c0 ⟨A.b .add .i64 0 0,A.b .sub .i64 (A.k oD ((o,p,n,m,l,i,h),j)).2 0,A.b .sub .i64 (A.k oD ((o,p,n,m,l,i,h),j)).2 0,o,p,n,m,l,i,h,j,q,o,p,n,m,l,i,h,j,(A.n yI (A.k oD ((o,p,n,m,l,i,h),j)).1 0:Int),(A.n yI (A.k oD ((o,p,n,m,l,i,h),j)).1 1:Int),0,false,o,p,n,m,l,i,h,q,o,p,n,m,l,i,h,j⟩ 0
def s74(A:aS):Y74->LT (Int×Bool) Y74
 | .c0 p a3=>.br (A.bo a3 p.a2) (.ao (A.and (A.bE 0 a3)<|A.bo a3 p.a1)<|.br (A.bq a3 p.a32) (.ret ((A.n yI [p.a21,p.a22] (A.b .add .i64 p.a0 a3):Int),true))<|.ak<|.c0 p<|A.b .add .i64 a3 1)<|.ret (0,false)
def Me:((Int×Int×Int×Int×Int×Int×Int)×Int×Int)->(Int×Bool):=λ(m,s,k)=>bif rN m != 0 then(0,false) else bif !JR (m,s) then(0,false) else bif decide (0<=k)&&decide (k<(oD (m,s)).2) then((oD (m,s)).1.getD k.toNat 0,true) else(0,false)
def aze:aK:=.all [(.struct [yI,yI,yI,yI,yI,yI,yI]),yI,yI] [yI,.bool] Me
def ayX:Sd 301 aze:=fa (aX ax dJ sl 70 [⟨296,3,[[0,24,25,26],[6,7]]⟩] [] (λA ((B,C,z,v,u,m,j),o,i)=>t74 A B C z v u m j o i) s74 apF (kz (fc func301 (fc func249 (fc func296 fz))) (sc Sk (sc anQ (sc atW sz)))) (λA y=>match y with |.c0 p O=>⟨57,sl,by kernel_rfl⟩) λ(((B,C,z,v,u,m,j),o,i):(Int×Int×Int×Int×Int×Int×Int)×Int×Int) Q h=>by
 show aV (s74 af) (t74 af B C z v u m j o i)<|Me ((B,C,z,v,u,m,j),o,i);unfold t74 Me;refine .br ?_;simp only[b_,bZ,lJ];cases h1:rN (B,C,z,v,u,m,j) != 0
 .simp only[cond_false];rw[bne_eq_false_iff_eq] at h1;have J:=ik.1 h1;unfold oF at J;refine .br ?_;cases h2:JR ((B,C,z,v,u,m,j),o)
  .exact .ret _
  .simp only[Bool.not_true,cond_false];have P:=(xL (by omega)<|by omega).1 h2;have N:=OX (x:=((B,C,z,v,u,m,j),o));refine .ao (by simp[KZ];omega) ?_;generalize oD ((B,C,z,v,u,m,j),o)=q at *;have⟨l,n⟩:=q;simp only at N;refine .ao (by simp only[bu,aB,fZ,uR];omega) ?_;have K:n=0\/n=1\/n=2:=by omega
   have I:i=0\/i=1\/(i≠0/\i≠1):=by omega
   have D:IntKind.i64.wrap 0=0:=by decide
   have E:IntKind.i64.wrap 1=1:=by decide
   have F:IntKind.i64.wrap 2=2:=by decide
   rcases K with rfl|rfl|rfl<;>rcases I with rfl|rfl|⟨S,V⟩
   all_goals first
    | (simp[aG,s74,yS,au,lW,bi,aB,bg,bu,gG,gX,Vb,D,E,F,Ty.gy];done)
    | (simp[aG,s74,yS,au,lW,bi,aB,bg,bu,gG,gX,D,E,F];rfl)
    | (have G:(0==i)=false:=by simp<;>omega
       have H:(1==i)=false:=by simp<;>omega
       have c0:(decide (0<=i)&&decide (i<0))=false:=by simp<;>omega
       have c1:(decide (0<=i)&&decide (i<1))=false:=by simp<;>omega
       have c2:(decide (0<=i)&&decide (i<2))=false:=by simp<;>omega
       simp only[c0,c1,c2];simp[aG,s74,yS,au,lW,bi,aB,bg,bu,gG,gX,Vb,D,E,F,G,H])
 .exact .ret _)
def jP{b c:Int}:Q_ ((a,b,c,d,e,f,g),s)=0↔oF a b c d e f g/\0<=s/\s<b/\s≠a:=by
 simp only[Q_,t73,LT.val,Aa,bZ,lJ,b_,Bool.not_eq_false',bne_iff_ne,bne_eq_false_iff_eq];constructor
 .intro h;rcases h with ⟨m,j⟩|⟨m,j⟩
  .omega
  .have l:=ik.1 m;have i:=l;unfold oF at i;rcases j with ⟨j,o⟩|⟨j,_⟩
   .omega
   .exact⟨l,(xL (by omega)<|by omega).1 j⟩
 .rintro ⟨l,n⟩
  have i:=l;unfold oF at i;exact .inr ⟨ik.2 l,.inr ⟨(xL (by omega)<|by omega).2 n,trivial⟩⟩
abbrev IR(A:aS)(o:Int)(q:Int)(p:Int)(m:Int)(h:Int)(j:Int)(i:Int)(l:Int)(n:Int):LT ((Int×Int×Int×Int×Int×Int×Int)×Int) Empty:=(.br (A.bq j 2) (.br (A.cm l i) (.ret ((o,q,(A.k Me ((o,q,p,m,h,j,i),l,n)).1,A.mn (A.b .add .i64 m 1) 1048576,A.mn (A.b .add .i64 h 1) 1048576,0,0),0))<|.ret ((o,q,(A.k Me ((o,q,p,m,h,j,i),l,n)).1,A.mn (A.b .add .i64 m 1) 1048576,h,0,0),0))<|.ret ((o,q,(A.k Me ((o,q,p,m,h,j,i),l,n)).1,A.mn (A.b .add .i64 m 1) 1048576,h,0,0),0))
def t25(A:aS)(p:Int)(q:Int)(n:Int)(m:Int)(l:Int)(i:Int)(j:Int)(h:Int)(o:Int):LT ((Int×Int×Int×Int×Int×Int×Int)×Int) Empty:=.br (A.cm (A.k Q_ ((p,q,n,m,l,i,j),h)) 0) (.ret ((0,0,0,0,0,0,0),A.k Q_ ((p,q,n,m,l,i,j),h)))<|.br (A.not (A.k Me ((p,q,n,m,l,i,j),h,o)).2) (.ret ((0,0,0,0,0,0,0),2))<|.br (A.bq i 1) (.br (A.bq o 1) (.ao (A.bE 0 h)<|.ret ((p,q,A.b .or .i64 n<|A.b .shl .i64 1 h,m,l,2,h),0))<|IR A p q n m l i j h o)<|IR A p q n m l i j h o
def vy:((Int×Int×Int×Int×Int×Int×Int)×Int×Int)->((Int×Int×Int×Int×Int×Int×Int)×Int):=λ((p,q,o,n,l,i,h),j,m)=>(t25 af p q o n l i h j m).val<|Ty.aR [(.struct [yI,yI,yI,yI,yI,yI,yI]),yI]
def ay0:aK:=.all [(.struct [yI,yI,yI,yI,yI,yI,yI]),yI,yI] [(.struct [yI,yI,yI,yI,yI,yI,yI]),yI] vy
def ayO:Sd 255 ay0:=fa (aQ ax dJ sl 107 [] (λA ((q,u,p,o,m,j,i),l,n)=>t25 A q u p o m j i l n) (kz (fc func255 fz) (sc atO (sc ayX sz))) (λ(((q,u,p,o,m,j,i),l,n):(Int×Int×Int×Int×Int×Int×Int)×Int×Int) x h=>by
 show(t25 af q u p o m j i l n).pre=true;simp only[t25,IR,LT.pre,STD,bne_iff_ne,beq_iff_eq,bne_eq_false_iff_eq,beq_eq_false_iff_ne];simp only[Ty.lC,Ty.has,KQ] at h
 (repeat' (first|intro _|constructor))<;>(try (have v:=(jP.1<|by assumption);unfold oF at v;omega))))
def t38(A:aS)(o:Int)(p:Int)(n:Int)(m:Int)(l:Int)(j:Int)(i:Int)(h:Int):LT ((Int×Int×Int×Int×Int×Int×Int)×Int) Empty:=.br (A.cm (A.k Q_ ((o,p,n,m,l,j,i),h)) 0) (.ret ((0,0,0,0,0,0,0),A.k Q_ ((o,p,n,m,l,j,i),h)))<|.ao (A.bE 0 h)<|.br (A.bq j 2) (.br (A.bq i h) (.ret ((o,p,A.b .andNot .i64 n<|A.b .shl .i64 1 h,m,l,1,0),0))<|.ret ((o,p,A.b .andNot .i64 n<|A.b .shl .i64 1 h,m,l,j,i),0))<|.ret ((o,p,A.b .andNot .i64 n<|A.b .shl .i64 1 h,m,l,j,i),0)
def uT:((Int×Int×Int×Int×Int×Int×Int)×Int)->((Int×Int×Int×Int×Int×Int×Int)×Int):=λ((o,p,n,m,l,i,h),j)=>(t38 af o p n m l i h j).val<|Ty.aR [(.struct [yI,yI,yI,yI,yI,yI,yI]),yI]
def ay3:aK:=.all [(.struct [yI,yI,yI,yI,yI,yI,yI]),yI] [(.struct [yI,yI,yI,yI,yI,yI,yI]),yI] uT
def asM:Sd 253 ay3:=fa (aQ ax dJ sl 63 [] (λA ((p,q,o,n,m,j,i),l)=>t38 A p q o n m j i l) (kz (fc func253 fz) (sc atO sz)) (λ(((p,q,o,n,m,j,i),l):(Int×Int×Int×Int×Int×Int×Int)×Int) v h=>by
 show(t38 af p q o n m j i l).pre=true;simp only[t38,LT.pre,STD,bne_iff_ne,beq_iff_eq,bne_eq_false_iff_eq,beq_eq_false_iff_ne];simp only[Ty.lC,Ty.has,KQ] at h
 (repeat' (first|intro _|constructor))<;>(try (have u:=(jP.1<|by assumption);unfold oF at u;omega))))
def t39(A:aS)(o:Int)(p:Int)(n:Int)(m:Int)(l:Int)(i:Int)(h:Int)(j:Int):LT ((Int×Int×Int×Int×Int×Int×Int)×Int) Empty:=.br (A.bq (A.k uT ((o,p,n,m,l,i,h),j)).2 0) (.ret (((A.k uT ((o,p,n,m,l,i,h),j)).1.1,(A.k uT ((o,p,n,m,l,i,h),j)).1.2.1,(A.k uT ((o,p,n,m,l,i,h),j)).1.2.2.1,(A.k uT ((o,p,n,m,l,i,h),j)).1.2.2.2.1,A.mn (A.b .add .i64 (A.k uT ((o,p,n,m,l,i,h),j)).1.2.2.2.2.1 1) 1048576,(A.k uT ((o,p,n,m,l,i,h),j)).1.2.2.2.2.2),(A.k uT ((o,p,n,m,l,i,h),j)).2))<|.ret<|A.k uT ((o,p,n,m,l,i,h),j)
def ZJ:((Int×Int×Int×Int×Int×Int×Int)×Int)->((Int×Int×Int×Int×Int×Int×Int)×Int):=λ((o,p,n,m,l,i,h),j)=>(t39 af o p n m l i h j).val<|Ty.aR [(.struct [yI,yI,yI,yI,yI,yI,yI]),yI]
def ay4:aK:=.all [(.struct [yI,yI,yI,yI,yI,yI,yI]),yI] [(.struct [yI,yI,yI,yI,yI,yI,yI]),yI] ZJ
def ayQ:Sd 254 ay4:=fa<|aQ ax dJ sl 45 [] (λA ((o,p,n,m,l,i,h),j)=>t39 A o p n m l i h j)<|kz (fc func254 fz)<|sc asM sz
def inc(d:Int):Int:=if d<1048576 then d+1 else 1048576
def xY(h:0<=d)(i:d<=1048576):af.mn (af.b .add .i64 d 1) 1048576=inc d:=by
 rw[mZ,gG,lZ (by omega)<|by omega,inc];omega
section
variable {a b c d e f g s:Int}
def Ra:oD ((a,b,c,d,e,0,g),s)=([pN c s,0],1):=rfl
def Rb:oD ((a,b,c,d,e,1,g),s)=([pN (pN c s) a,xb (pN c s) a],2):=rfl
def Mf:oD ((a,b,c,d,e,2,g),g)=([pN (pN c g) a,0],1):=by
 simp[oD,t78,IX,LT.val,bg,pN]
theorem Mg(h:s≠g):oD ((a,b,c,d,e,2,g),s)=([xb (pN (pN c s) a) g,xb (pN (pN c s) g) a],2):=by
 have i:(s==g)=false:=by simp_all
 simp[oD,t78,IX,LT.val,bg,pN,xb,i]
def uB(h:oF a b c d e f g)(i:0<=s)(j:s<b)(l:s≠a)(k:Int):Me ((a,b,c,d,e,f,g),s,k) =
  bif decide (0<=k)&&decide (k<(oD ((a,b,c,d,e,f,g),s)).2) then((oD ((a,b,c,d,e,f,g),s)).1.getD k.toNat 0,true) else(0,false):=by
 have m:=h;unfold oF at m;simp[Me,ik.2 h,(xL (by omega)<|by omega).2 ⟨i,j,l⟩,bne_self_eq_false,Bool.not_true,cond_false]
def aaj(h:oF a b c d e 0 g)(i:0<=s)(j:s<b)(l:s≠a):vy ((a,b,c,d,e,0,g),s,0)=((a,b,pN c s,inc d,e,0,0),0):=by
 have m:=h;unfold oF at m;simp[vy,t25,IR,LT.val,b_,bZ,bg,lJ,jP.2 ⟨h,i,j,l⟩,uB h i j l,Ra,xY (d:=d) (by omega)<|by omega]
def aak(h:oF a b c d e 1 g)(i:0<=s)(j:s<b)(l:s≠a):vy ((a,b,c,d,e,1,g),s,0)=((a,b,pN (pN c s) a,inc d,e,0,0),0):=by
 have m:=h;unfold oF at m;simp[vy,t25,IR,LT.val,b_,bZ,bg,lJ,jP.2 ⟨h,i,j,l⟩,uB h i j l,Rb,xY (d:=d) (by omega)<|by omega]
def Uk(h:oF a b c d e 1 g)(i:0<=s)(j:s<b)(l:s≠a):vy ((a,b,c,d,e,1,g),s,1)=((a,b,pN c s,d,e,2,s),0):=by
 simp[vy,t25,IR,LT.val,b_,bZ,bg,lJ,jP.2 ⟨h,i,j,l⟩,uB h i j l,Rb,pN]
def Ul(h:oF a b c d e 2 g)(i:0<=g)(j:g<b)(l:g≠a):vy ((a,b,c,d,e,2,g),g,0)=((a,b,pN (pN c g) a,inc d,e,0,0),0):=by
 have m:=h;unfold oF at m;simp[vy,t25,IR,LT.val,b_,bZ,bg,lJ,jP.2 ⟨h,i,j,l⟩,uB h i j l,Mf,xY (d:=d) (by omega)<|by omega]
theorem Um(h:oF a b c d e 2 g)(i:0<=s)(j:s<b)(l:s≠a)(m:s≠g):vy ((a,b,c,d,e,2,g),s,0)=((a,b,xb (pN (pN c s) a) g,inc d,inc e,0,0),0):=by
 have n:=h;unfold oF at n;simp[vy,t25,IR,LT.val,b_,bZ,bg,lJ,jP.2 ⟨h,i,j,l⟩,uB h i j l,Mg m,show(s != g)=true from by simp_all,xY (d:=d) (by omega)<|by omega,xY (d:=e) (by omega)<|by omega]
theorem Un(h:oF a b c d e 2 g)(i:0<=s)(j:s<b)(l:s≠a)(m:s≠g):vy ((a,b,c,d,e,2,g),s,1)=((a,b,xb (pN (pN c s) g) a,inc d,inc e,0,0),0):=by
 have n:=h;unfold oF at n;simp[vy,t25,IR,LT.val,b_,bZ,bg,lJ,jP.2 ⟨h,i,j,l⟩,uB h i j l,Mg m,show(s != g)=true from by simp_all,xY (d:=d) (by omega)<|by omega,xY (d:=e) (by omega)<|by omega]
theorem abi(h:oF a b c d e f g)(i:0<=s)(j:s<b)(l:s≠a)(n:f≠2):uT ((a,b,c,d,e,f,g),s)=((a,b,xb c s,d,e,f,g),0):=by
 have m:(f==2)=false:=by simp_all
 simp[uT,t38,LT.val,b_,bZ,bg,jP.2 ⟨h,i,j,l⟩,xb,m]
theorem abj(h:oF a b c d e 2 g)(i:0<=s)(j:s<b)(l:s≠a)(n:g≠s):uT ((a,b,c,d,e,2,g),s)=((a,b,xb c s,d,e,2,g),0):=by
 have m:(g==s)=false:=by simp_all
 simp[uT,t38,LT.val,b_,bZ,bg,jP.2 ⟨h,i,j,l⟩,xb,m]
def abk(h:oF a b c d e 2 g)(j:g≠a):uT ((a,b,c,d,e,2,g),g)=((a,b,xb c g,d,e,1,0),0):=by
 have i:=h;simp[uT,t38,LT.val,b_,bZ,bg,jP.2 ⟨h,i.e,i.f,j⟩,xb]
def QI{m i:Int×Int×Int×Int×Int×Int×Int}(h:uT (m,s)=(i,0))(j:0<=i.2.2.2.2.1)(l:i.2.2.2.2.1<=1048576):ZJ (m,s)=((i.1,i.2.1,i.2.2.1,i.2.2.2.1,inc i.2.2.2.2.1,i.2.2.2.2.2),0):=by
 simp[ZJ,t39,LT.val,b_,bg,h,xY j l]
end
structure ahJ where(a0:List (Int×Int×(Int×List Int)))(a1 a3 a4 a5 a6 a7 a8 a9 jd lq a12 E5 N8 N9:Int)
structure Tf where(b0 b1 b2 b3 b4 b5 b6 b7 b8 b9 b10 b11 b12 b13 LG E6 jC:Int)(w_:List (Int×Int×(Int×List Int)))(Xa:Bool)(CQ Xb LH Tv b23 b24 b25 b26:Int)(b27 b28:Bool)(b29 b30 b31 b32 b33 b34 b35:Int)(b36 b37 b38:Bool)(b39:Int)(b40 b41:Bool)(b42 b43:Int)(b44 b45 b46:Bool)(b47 b48:Int)(b49 b50 b51:Bool)(b52:List (Int×Int×(Int×List Int)))(b53:Int)(b54 b55:Bool)(b56 b57 b58 b59 b60 b61 b62 b63 b64 b65:Int)(b66:List (Int×Int×(Int×List Int)))(b67 b68 b69 b70 b71 b72 b73 b74 b75 b76 b77 b78 b79 b80 b81 b82 b83 b84 b85 b86 b87 b88 b89 b90 b91 b92 b93 b94 b95 b96 b97 b98 b99:Int)
structure XL where(c0:Int)(c1:List (Int×Int×(Int×List Int)))(c2 c4 c5 c6 c7 c8 c9 c10 c11 c12 c13 c14 Oj c16 c17 c18 c19 c20 c21 c22 c23 c24 c25 c26 c27 c28 c29 c30 c31 c32 c33 c34 c35 c36 c37 c38:Int)(c39:List (Int×Int×(Int×List Int)))(c40:Bool)(c41 c42 c43 c44 c45 c46 c47 c48:Int)(c49 c50:Bool)(c51 c52 c53 c54 c55 c56 c57:Int)(c58 c59 c60:Bool)(c61:Int)(c62 c63:Bool)(c64 c65:Int)(c66 c67 c68:Bool)(c69 c70:Int)(c71 c72 c73:Bool)(c74:List (Int×Int×(Int×List Int)))(c75:Int)(c76 c77:Bool)(c78 c79 c80 c81 c82 c83 c84 c85 c86 c87:Int)(c88:List (Int×Int×(Int×List Int)))(c89 c90 c91 c92 c93 c94 c95 c96 c97 c98 c99 apx apy apz apA:Int)
inductive Y43 where|c0(p:ahJ)(a2:Int)|c1(p:Tf)|c2(p:XL)(c3:Int)
noncomputable def apE:Y43->gY
 | .c0 p a2=>⟨[gW 299 19 [(0,.sl (.struct [yI,yI,.struct [yI,yB]]) p.a0),(1,.fn 252 [] []),(7,vi p.a1),(8,vi a2)] f299 52,⟨251,9,.leaf,[.ops (ow f251 6)<|(ow f251 6).toList.drop 2,.code .ret],[],none⟩,⟨200,85,en [(8,pZ 0),(9,pZ 1)],(.ops (ow f200 60) ((ow f200 60).toList.drop 1)::sk f200 60),[2],none⟩],[gZ [vi p.a3,vi p.a4,vi p.a5,vi p.a6,vi p.a7,vi p.a8,vi p.a9,vi p.jd,vi p.lq,vi p.a12,vi p.E5,.fG true,vi p.N8],vZ p.N9,.Jq,.a_]⟩
 | .c1 p=>⟨[gW 296 37 [(0,.yield 0),(24,.t6 1 1 false p.b0 p.b1),(25,vi p.b2),(26,vi p.b3)] f296 60,⟨200,85,en [(7,pZ 2),(8,pZ 3),(9,pZ 4)],[.oY 0,.inBlock 1,.code<|cw f200 15],[5],none⟩],[.loop ⟨200,85,en [(0,.agg [vi p.b4,vi p.b5,vi p.b6,vi p.b7,vi p.b8]),(1,.agg [vi p.b9,vi p.b10,vi p.b11,vi p.b12,vi p.b13,vi p.LG,vi p.E6]),(2,vi p.jC),(3,.sl (.struct [yI,yI,.struct [yI,yB]]) p.w_),(4,pZ 9),(5,pZ 6),(7,pZ 2),(8,pZ 3),(9,pZ 4),(16,vb p.Xa),(17,.agg [vi p.CQ,vi p.Xb,vi p.LH,vi p.Tv,vi p.b23,vi p.b24,vi p.b25]),(18,vi p.b26),(19,vb p.b27),(20,vb p.b28),(21,.agg [vi p.b29,vi p.b30,vi p.b31,vi p.b32,vi p.b33]),(22,.ptr 6 1),(23,vi p.b34),(24,vi p.b35),(25,vb p.b36),(26,vb p.b37),(28,vb p.b38),(29,vi p.b39),(30,vb p.b40),(31,vb p.b41),(32,vi p.b42),(33,.ptr 6 1),(34,vi p.b43),(35,vb p.b44),(36,vb p.b45),(37,vb p.b46),(38,vi p.b47),(39,pZ 6),(40,vi p.b48),(41,vb p.b49),(42,vb p.b50),(43,vb p.b51),(44,.sl (.struct [yI,yI,.struct [yI,yB]]) p.b52),(45,vi p.b53),(46,vb p.b54),(47,vb p.b55),(49,.agg [vi p.b56,vi p.b57,vi p.b58,vi p.b59,vi p.b60,vi p.b61,vi p.b62]),(50,vi p.b63),(51,.fn 296 [] [pZ 7,pZ 8])],[52,53],cw f200 116,cw f200 117,0,none⟩,gZ [vi p.b64,vi p.b65],gZ [.sl (.struct [yI,yI,.struct [yI,yB]]) p.b66],gZ [vi p.b67,vi p.b68,vi p.b69,vi p.b70,vi p.b71,vi p.b72,vi p.b73,vi p.b74,vi p.b75,vi p.b76,vi p.b77,.fG true,vi p.b78],vZ p.b79,.Jq,gZ [vi p.b80,vi p.b81,vi p.b82,vi p.b83,vi p.b84,vi p.b85,vi p.b86],gZ [vi p.b87,vi p.b88,vi p.b89,vi p.b90,vi p.b91,vi p.b92,vi p.b93],vZ p.b94,gZ [vi p.b95,vi p.b96,vi p.b97,vi p.b98,vi p.b99],.a_]⟩
 | .c2 p c3=>⟨[⟨200,85,en [(4,pZ 0),(8,pZ 1),(9,pZ 2),(10,vi p.c0),(56,.sl (.struct [yI,yI,.struct [yI,yB]]) p.c1),(57,vi p.c2),(58,vi c3)],[.inLoop<|cw f200 3756,.inBlock 3,.inBlock 2],[],some 3⟩,E8 296 37 [(0,.yield 3),(24,.t6 4 1 false p.c4 p.c5),(25,vi p.c6),(26,vi p.c7)] f296 3890 3,⟨200,85,en [(7,pZ 5),(8,pZ 1),(9,pZ 2)],[.oY 3,.inBlock 1,.code<|cw f200 15],[6],none⟩],[gZ [vi p.c8,vi p.c9,vi p.c10,vi p.c11,vi p.c12],gZ [vi p.c13,vi p.c14,vi p.Oj,vi p.c16,vi p.c17,vi p.c18,vi p.c19,vi p.c20,vi p.c21,vi p.c22,vi p.c23,.fG true,vi p.c24],vZ p.c25,.loop ⟨200,85,en [(0,.agg [vi p.c26,vi p.c27,vi p.c28,vi p.c29,vi p.c30]),(1,.agg [vi p.c31,vi p.c32,vi p.c33,vi p.c34,vi p.c35,vi p.c36,vi p.c37]),(2,vi p.c38),(3,.sl (.struct [yI,yI,.struct [yI,yB]]) p.c39),(4,pZ 0),(5,pZ 7),(7,pZ 5),(8,pZ 1),(9,pZ 2),(16,vb p.c40),(17,.agg [vi p.c41,vi p.c42,vi p.c43,vi p.c44,vi p.c45,vi p.c46,vi p.c47]),(18,vi p.c48),(19,vb p.c49),(20,vb p.c50),(21,.agg [vi p.c51,vi p.c52,vi p.c53,vi p.c54,vi p.c55]),(22,.ptr 7 1),(23,vi p.c56),(24,vi p.c57),(25,vb p.c58),(26,vb p.c59),(28,vb p.c60),(29,vi p.c61),(30,vb p.c62),(31,vb p.c63),(32,vi p.c64),(33,.ptr 7 1),(34,vi p.c65),(35,vb p.c66),(36,vb p.c67),(37,vb p.c68),(38,vi p.c69),(39,pZ 7),(40,vi p.c70),(41,vb p.c71),(42,vb p.c72),(43,vb p.c73),(44,.sl (.struct [yI,yI,.struct [yI,yB]]) p.c74),(45,vi p.c75),(46,vb p.c76),(47,vb p.c77),(49,.agg [vi p.c78,vi p.c79,vi p.c80,vi p.c81,vi p.c82,vi p.c83,vi p.c84]),(50,vi p.c85),(51,.fn 296 [] [pZ 8,pZ 9])],[52,53],cw f200 116,cw f200 117,1,none⟩,gZ [vi p.c86,vi p.c87],gZ [.sl (.struct [yI,yI,.struct [yI,yB]]) p.c88],.Jq,gZ [vi p.c89,vi p.c90,vi p.c91,vi p.c92,vi p.c93,vi p.c94,vi p.c95],gZ [vi p.c96,vi p.c97,vi p.c98,vi p.c99,vi p.apx,vi p.apy,vi p.apz],vZ p.apA,.a_]⟩
abbrev ag6:LT ((Int×Int×Int×(Int×Int×(Int×Int×Int×Int×Int)×Int×List Int)×Int)×Int) Y43:=(.ret ((0,0,0,(0,0,(0,0,0,0,0),0,([]:List Int)),0),2))
def t43(A:aS)(x:Int)(z:Int)(u:Int)(v:Int)(m:Int)(p:Int)(y:Int)(o:Int)(n:Int)(l:Int)(j:Int)(i:Int)(h:Int)(q:List<|Int×Int×(Int×List Int)):LT ((Int×Int×Int×(Int×Int×(Int×Int×Int×Int×Int)×Int×List Int)×Int)×Int) Y43:=.br (A.cm (A.k rN (p,y,o,n,l,j,i)) 0) (.ret ((0,0,0,(0,0,(0,0,0,0,0),0,([]:List Int)),0),170))<|.br (A.cm (A.k xM ((x,z,u,v,m),y)) 0) (.ret ((0,0,0,(0,0,(0,0,0,0,0),0,([]:List Int)),0),170))<|.br (A.bo h 0) (ag6)<|.br (A.ov h y) (ag6)<|.br (A.bq h p) (ag6)<|.br (A.cm (A.l q) 2) (ag6)<|.br (A.cm (A.k rN (p,y,o,n,l,j,i)) 0) (.ak<|.c0 ⟨q,A.l q,0,0,0,0,0,0,0,0,0,0,0,0,0⟩ 0)<|.br (A.not<|A.k JR ((p,y,o,n,l,j,i),h)) (.ak<|.c0 ⟨q,A.l q,0,0,0,0,0,0,0,0,0,0,0,0,0⟩ 0)<|.ao (A.k KZ ((p,y,o,n,l,j,i),h))<|.ao (A.and (A.bE 0 0)<|A.and (A.bE 0 (A.k oD ((p,y,o,n,l,j,i),h)).2)<|A.bE (A.k oD ((p,y,o,n,l,j,i),h)).2 2)<|.ak<|.c1 ⟨A.b .add .i64 0 0,A.b .sub .i64 (A.k oD ((p,y,o,n,l,j,i),h)).2 0,A.b .sub .i64 (A.k oD ((p,y,o,n,l,j,i),h)).2 0,0,x,z,u,v,m,p,y,o,n,l,j,i,h,q,A.cm (A.k xM ((x,z,u,v,m),y)) 0,p,y,o,n,l,j,i,A.k rN (p,y,o,n,l,j,i),A.cm (A.k rN (p,y,o,n,l,j,i)) 0,false,x,z,u,v,m,y,A.k xM ((x,z,u,v,m),y),A.cm (A.k xM ((x,z,u,v,m),y)) 0,A.cm (A.k xM ((x,z,u,v,m),y)) 0,A.cm (A.l q) 2,h,A.bo h 0,false,h,y,A.ov h y,A.ov h y,false,h,p,A.bq h p,A.bq h p,false,q,A.l q,A.cm (A.l q) 2,A.cm (A.l q) 2,p,y,o,n,l,j,i,h,(A.n yI (A.k oD ((p,y,o,n,l,j,i),h)).1 0:Int),(A.n yI (A.k oD ((p,y,o,n,l,j,i),h)).1 1:Int),q,0,0,0,0,0,0,0,0,0,0,0,0,0,p,y,o,n,l,j,i,p,y,o,n,l,j,i,h,x,z,u,v,m⟩
def Xe(A:aS):Y43->LT ((Int×Int×Int×(Int×Int×(Int×Int×Int×Int×Int)×Int×List Int)×Int)×Int) Y43
 | .c0 p a2=>.br (A.bo a2 p.a1) (.ao (A.and (A.bE 0 a2)<|A.bo a2<|A.l p.a0)<|.br (A.cm (A.n (.struct [yI,yI,.struct [yI,yB]]) p.a0 a2:Int×Int×(Int×List Int)).1 0) (.br (A.ov a2 0) (.ret ((2,0,0,(0,0,(0,0,0,0,0),0,([]:List Int)),0),0))<|.ret ((1,0,0,(0,0,(0,0,0,0,0),0,([]:List Int)),0),0))<|.ak<|.c0 p<|A.b .add .i64 a2 1)<|.ret ((1,0,0,(0,0,(0,0,0,0,0),0,([]:List Int)),0),0)
 | .c1 p=>.br (A.bo p.b3 p.b2) (.ao (A.and (A.bE 0 p.b3)<|A.bo p.b3 p.b1)<|.ak<|.c2 ⟨p.b3,p.b66,A.l p.b66,p.b0,p.b1,p.b2,p.b3,p.b95,p.b96,p.b97,p.b98,(A.n yI [p.b64,p.b65] (A.b .add .i64 p.b0 p.b3):Int),p.b67,p.b68,p.b69,p.b70,p.b71,p.b72,p.b73,p.b74,p.b75,p.b76,p.b77,p.b78,p.b79,p.b4,p.b5,p.b6,p.b7,p.b8,p.b9,p.b10,p.b11,p.b12,p.b13,p.LG,p.E6,p.jC,p.w_,p.Xa,p.CQ,p.Xb,p.LH,p.Tv,p.b23,p.b24,p.b25,p.b26,p.b27,p.b28,p.b29,p.b30,p.b31,p.b32,p.b33,p.b34,p.b35,p.b36,p.b37,p.b38,p.b39,p.b40,p.b41,p.b42,p.b43,p.b44,p.b45,p.b46,p.b47,p.b48,p.b49,p.b50,p.b51,p.b52,p.b53,p.b54,p.b55,p.b56,p.b57,p.b58,p.b59,p.b60,p.b61,p.b62,p.b63,p.b64,p.b65,p.b66,p.b80,p.b81,p.b82,p.b83,p.b84,p.b85,p.b86,p.b87,p.b88,p.b89,p.b90,p.b91,p.b92,p.b93,p.b94⟩ 0)<|.ak<|.c0 ⟨p.b66,A.l p.b66,p.b67,p.b68,p.b69,p.b70,p.b71,p.b72,p.b73,p.b74,p.b75,p.b76,p.b77,p.b78,p.b79⟩ 0
 | .c2 p c3=>.br (A.bo c3 p.c2) (.ao (A.and (A.bE 0 c3)<|A.bo c3<|A.l p.c1)<|.br (A.cm (A.n (.struct [yI,yI,.struct [yI,yB]]) p.c1 c3:Int×Int×(Int×List Int)).1 2) (.ak<|.c2 p<|A.b .add .i64 c3 1)<|.br (A.k Q8 ((A.n (.struct [yI,yI,.struct [yI,yB]]) p.c1 c3:Int×Int×(Int×List Int)).2.2,p.c8,p.c9,p.c10,p.c11,p.c12)).2 (.ret ((3,p.c0,c3,(A.k Q8 ((A.n (.struct [yI,yI,.struct [yI,yB]]) p.c1 c3:Int×Int×(Int×List Int)).2.2,p.c8,p.c9,p.c10,p.c11,p.c12)).1,(A.n (.struct [yI,yI,.struct [yI,yB]]) p.c1 c3:Int×Int×(Int×List Int)).2.1),0))<|.ak<|.c2 p<|A.b .add .i64 c3 1)<|.ak<|.c1 ⟨p.c4,p.c5,p.c6,A.b .add .i64 p.c7 1,p.c26,p.c27,p.c28,p.c29,p.c30,p.c31,p.c32,p.c33,p.c34,p.c35,p.c36,p.c37,p.c38,p.c39,p.c40,p.c41,p.c42,p.c43,p.c44,p.c45,p.c46,p.c47,p.c48,p.c49,p.c50,p.c51,p.c52,p.c53,p.c54,p.c55,p.c56,p.c57,p.c58,p.c59,p.c60,p.c61,p.c62,p.c63,p.c64,p.c65,p.c66,p.c67,p.c68,p.c69,p.c70,p.c71,p.c72,p.c73,p.c74,p.c75,p.c76,p.c77,p.c78,p.c79,p.c80,p.c81,p.c82,p.c83,p.c84,p.c85,p.c86,p.c87,p.c88,p.c13,p.c14,p.Oj,p.c16,p.c17,p.c18,p.c19,p.c20,p.c21,p.c22,p.c23,p.c24,p.c25,p.c89,p.c90,p.c91,p.c92,p.c93,p.c94,p.c95,p.c96,p.c97,p.c98,p.c99,p.apx,p.apy,p.apz,p.apA,p.c8,p.c9,p.c10,p.c11,p.c12⟩
def wE(c:Int×Int×Int×Int×Int)(w:Int):Nat->List (Int×Int×(Int×List Int))->Option (Int×Int×Int×(Int×Int×(Int×Int×Int×Int×Int)×Int×List Int)×Int)
 | _,[]=>none
 | k,s::l=>bif s.1==2&&(KP (s.2.2,c)).2 then some (3,w,(k:Int),(KP (s.2.2,c)).1,s.2.1) else wE c w (k+1) l
def uI(t p m n:Int)(h:List<|Int×Int×(Int×List Int)):Nat->List Int->Option (Int×Int×Int×(Int×Int×(Int×Int×Int×Int×Int)×Int×List Int)×Int)
 | _,[]=>none
 | i,v::l=>match wE (t,p,m,n,v) i 0 h with
   | some o=>some o
   | none=>uI t p m n h (i+1) l
def ajb:Int×Int×Int×(Int×Int×(Int×Int×Int×Int×Int)×Int×List Int)×Int:=(0,0,0,Jo,0)
def B6(h:List<|Int×Int×(Int×List Int)):Int×Int×Int×(Int×Int×(Int×Int×Int×Int×Int)×Int×List Int)×Int:=bif h.any λs=>s.1 != 0 then(2,0,0,Jo,0) else(1,0,0,Jo,0)
def La(t p m n:Int)(h:List<|Int×Int×(Int×List Int))(i:Nat)(j:List Int):(Int×Int×Int×(Int×Int×(Int×Int×Int×Int×Int)×Int×List Int)×Int)×Int:=
 match uI t p m n h i j with
 | some o=>(o,0)
 | none=>(B6 h,0)
def vws(x:(Int×Int×Int×Int×Int×Int×Int)×Int):List Int:=(oD x).1.take (oD x).2.toNat
def qJ:(Int×Int×Int×Int×Int)×(Int×Int×Int×Int×Int×Int×Int)×Int×List (Int×Int×(Int×List Int))->(Int×Int×Int×(Int×Int×(Int×Int×Int×Int×Int)×Int×List Int)×Int)×Int:=λ((t,p,m,n,s),v,h,i)=>
 bif rN v != 0||sC ((t,p,m,n,s),v.2.1) != 0 then(ajb,170)
 else bif decide (h<0)||decide (v.2.1<=h)||h==v.1||i.length != 2 then(ajb,2)
 else La t p m n i 0 (vws (v,h))
def Z9{x:(Int×Int×Int×Int×Int×Int×Int)×Int}:(oD x).1.length=2:=by
 exact LT.sQ (p:=λy:List Int×Int=>y.1.length=2) rfl (by simp[t78,IX,LT.all])
def Pt{l:List<|Int×Int×(Int×List Int)}{i:Nat}(h:i<l.length):(af.n (.struct [(.int .i64),.int .i64,.struct [(.int .i64),.slice<|.int .u8]]) l (i:Int):Int×Int×(Int×List Int))=l[i]:=eO h _
theorem agI{l:List<|Int×Int×(Int×List Int)}(B:l.length<=140737488355328):∀(j i:Nat) (p:ahJ),p.a0=l->p.a1=(l.length:Int)->l.length-i=j->i<=l.length->(l.take i).any (λs=>s.1 != 0)=false->aV (Xe af) (.ak<|.c0 p i) (B6 l,0):=by
 intro j
 induction j with
 | zero=>
   intro i p n o y x q;have:i=l.length:=by omega
   subst this;rw[oo] at q;rw[aG,Xe];refine(ap (by rw[o,bH];simp)).2 ?_;rw[B6,q];exact .ret _
 | succ j ih=>
   intro i p n o y x q;have m:i<l.length:=by omega
   rw[aG,Xe];refine(ar (by rw[o,bH];simp_all)).2 (au.2 ⟨by rw[n];exact cJ m,?_⟩);have v:(af.n (.struct [(.int .i64),.int .i64,.struct [(.int .i64),.slice<|.int .u8]]) p.a0 (i:Int):Int×Int×(Int×List Int)).1=l[i].1:=congrArg (λz=>z.1)<|(congrArg (λz=>(af.n (.struct [(.int .i64),.int .i64,.struct [(.int .i64),.slice<|.int .u8]]) z (i:Int):Int×Int×(Int×List Int))) n).trans<|Pt m;have A:=cn m;by_cases u:l[i].1=0
   .refine(ap<|zw<|v.trans u).2 ?_;refine u9 (congrArg LT.ak<|congrArg (Y43.c0 p)<|jQ<|by omega)<|ih (i+1) p n o (by omega) (by omega) ?_
    grind
   .refine(ar<|zx<|λh=>u<|v.symm.trans h).2 ((ar<|by rfl).2 ?_);have:l.any (λs=>s.1 != 0)=true:=List.any_eq_true.2 ⟨l[i],cZ m,by simp_all⟩;rw[B6,this];exact .ret _
def I1(p:Tf)(j:List<|Int×Int×(Int×List Int))(o:List Int)(h i t l m n:Int):Prop:=p.b0=0/\p.b1=h/\p.b2=h/\p.b3=i/\p.b66=j/\ [p.b64,p.b65]=o/\p.b95=t/\p.b96=l/\p.b97=m/\p.b98=n
def I2(p:XL)(h:List<|Int×Int×(Int×List Int))(o:List Int)(j i t l m n v:Int):Prop:=p.c0=i/\p.c1=h/\p.c2=(h.length:Int)/\p.c4=0/\p.c5=j/\p.c6=j/\p.c7=i/\p.c88=h/\ [p.c86,p.c87]=o/\p.c8=t/\p.c9=l/\p.c10=m/\p.c11=n/\p.c12=v
variable{vs:List Int}
theorem agK{seen:List (Int×Int×(Int×List Int))}{cnt po:Int}{i:Nat}(hi:i<4)(hl:seen.length<=140737488355328){R:(Int×Int×Int×(Int×Int×(Int×Int×Int×Int×Int)×Int×List Int)×Int)×Int}(A:∀X:Tf,I1 X seen vs cnt ((i+1:Nat):Int) t po m n->aV (Xe af) (.ak (.c1 X)) R):
  ∀(j k:Nat) (p:XL),I2 p seen vs cnt (i:Int) t po m n v->seen.length-k=j->k<=seen.length->aV (Xe af) (.ak (.c2 p (k:Int))) (match wE (t,po,m,n,v) (i:Int) k (seen.drop k) with|some o=>(o,0)|none=>R):=by
 intro j
 induction j with
 | zero=>
   intro k p E hj hk;have:k=seen.length:=by omega
   subst this;obtain⟨N,G,H,O,P,Q,S,C,W,I,J,l,q,B⟩:=E;rw[aG,Xe];refine(ap (by rw[H,bH];simp)).2 ?_;rw[cY];exact A _ ⟨O,P,Q,by show af.b .add .i64 p.c7 1=_;rw[S,jQ (by omega)],C,W,I,J,l,q⟩
 | succ j ih=>
   intro k p E hj hk;have u:k<seen.length:=by omega
   have V:=ih (k+1) p E (by omega) (by omega);obtain⟨N,G,H,O,P,Q,S,C,W,I,J,l,q,B⟩:=E;rw[aG,Xe];have F:(af.n (.struct [(.int .i64),(.int .i64),(.struct [(.int .i64),(.slice (.int .u8))])]) p.c1 (k:Int):Int×Int×(Int×List Int))=seen[k]:=(congrArg (λz=>(af.n (.struct [(.int .i64),(.int .i64),(.struct [(.int .i64),(.slice (.int .u8))])]) z (k:Int):Int×Int×(Int×List Int))) G).trans (Pt u);have Z:seen.drop k=seen[k]::seen.drop (k+1):=xx u;have K:af.k Q8 ((af.n (.struct [(.int .i64),(.int .i64),(.struct [(.int .i64),(.slice (.int .u8))])]) p.c1 (k:Int):Int×Int×(Int×List Int)).2.2,p.c8,p.c9,p.c10,p.c11,p.c12)=KP (seen[k].2.2,(t,po,m,n,v)):=by
    refine(congrArg (λz:Int×Int×(Int×List Int)=>Q8 (z.2.2,p.c8,p.c9,p.c10,p.c11,p.c12)) F).trans ?_;rw[I,J,l,q,B];exact afq
   refine(ar (by rw[H,bH];simp_all)).2 (au.2 ⟨by rw[G];exact cJ u,?_⟩);rw[Z,wE];by_cases D:seen[k].1=2
   .refine(ap (zw ((congrArg (λz=>z.1) F).trans D))).2 (?_);rw[show(seen[k].1==2)=true from by simp_all,dO];cases hgd:(KP (seen[k].2.2,(t,po,m,n,v))).2
    .refine(ap ((congrArg (λz=>z.2) K).trans hgd)).2 ?_;exact u9 (congrArg LT.ak (congrArg (Y43.c2 p) (jQ (by omega)))) V
    .refine(ar ((congrArg (λz=>z.2) K).trans hgd)).2 ?_;have e:=congr (congr (congrArg (λ(x:Int) (y:Int×Int×(Int×Int×Int×Int×Int)×Int×List Int) (z:Int)=>(LT.ret (((3:Int),x,(k:Int),y,z),(0:Int)):LT ((Int×Int×Int×(Int×Int×(Int×Int×Int×Int×Int)×Int×List Int)×Int)×Int) Y43)) N) (congrArg (λz=>z.1) K)) (congrArg (λz=>z.2.1) F);exact u9 e (.ret _)
   .refine(ar (zx (λh=>D ((congrArg (λz=>z.1) F).symm.trans h)))).2 ?_;rw[show(seen[k].1==2)=false from by simp_all,jj];exact u9 (congrArg LT.ak (congrArg (Y43.c2 p) (jQ (by omega)))) V
theorem agJ{o:List (Int×Int×(Int×List Int))}{h:Nat}{D:Int}(N:o.length<=140737488355328)(S:vs.length=2)(W:h<=2):∀(j i:Nat) (p:Tf),I1 p o vs (h:Int) (i:Int) t D m n->h-i=j->i<=h->aV (Xe af) (.ak (.c1 p)) (La t D m n o i ((vs.take h).drop i)):=by
 intro j
 induction j with
 | zero=>
   intro i p G P O;have:i=h:=by omega
   subst this;obtain⟨E,F,C,u,q,K,x,y,A,B⟩:=G;rw[aG,Xe];refine(ap (by rw[C,u,bH];simp)).2 ?_;rw[gx (by simp_all)];exact agI N o.length 0 _ q (by show af.l p.b66=_;rw[q];rfl) rfl (by omega) rfl
 | succ j ih=>
   intro i p G P O;obtain⟨E,F,C,u,q,K,x,y,A,B⟩:=G;have H:i<(vs.take h).length:=by grind
   rw[aG,Xe];refine(ar (by rw[C,u,bH];simp_all)).2 (au.2 ⟨by rw[F,u,aif,bH,bu];simp_all,?_⟩);have I:(af.n (.int .i64) [p.b64,p.b65] (af.b .add .i64 p.b0 p.b3):Int)=(vs.take h)[i]:=by
    have e:af.b .add .i64 p.b0 p.b3=(i:Int):=by rw[E,u,gG,lZ (by omega) (by omega)];omega
    refine((congrArg (λz=>(af.n (.int .i64) [p.b64,p.b65] z:Int)) e).trans ((congrArg (λz=>(af.n (.int .i64) z (i:Int):Int)) K).trans (eO (l:=vs) (by omega) _))).trans ?_
    grind
   have Q:=agK (seen:=o) (vs:=vs) (cnt:=(h:Int)) (t:=t) (po:=D) (m:=m) (n:=n) (v:=(vs.take h)[i]) (i:=i) (by omega) N (R:=La t D m n o (i+1) ((vs.take h).drop (i+1))) (λV J=>ih (i+1) V J (by omega) (by omega)) o.length 0;refine aT ?_ (Q _ ⟨u,q,?_,E,F,C,u,q,K,x,y,A,B,I⟩ rfl (by omega))
   rotate_left
   .show af.l p.b66=_;rw[q];rfl
   rw[La,La,xx H,uI,qi]
   grind
def aap{l b c i:Int}{j:List<|Int×Int×(Int×List Int)}(h:Ty.lC [(.struct [(.int .i64),.int .i64,.int .i64,.int .i64,.int .i64]),.struct [(.int .i64),.int .i64,.int .i64,.int .i64,.int .i64,.int .i64,.int .i64],.int .i64,.slice<|.struct [(.int .i64),.int .i64,.struct [(.int .i64),.slice<|.int .u8]]] ((t,l,m,n,s),(a,b,c,d,e,f,g),i,j)):j.length<=140737488355328:=h.d
theorem asi{b c i:Int}{j:List<|Int×Int×(Int×List Int)}(h:Ty.lC [(.struct [(.int .i64),.int .i64,.int .i64,.int .i64,.int .i64]),.struct [(.int .i64),.int .i64,.int .i64,.int .i64,.int .i64,.int .i64,.int .i64],.int .i64,.slice<|.struct [(.int .i64),.int .i64,.struct [(.int .i64),.slice<|.int .u8]]] ((t,v,m,n,s),(a,b,c,d,e,f,g),i,j)):
  aV (Xe af) (t43 af t v m n s a b c d e f g i j) (qJ ((t,v,m,n,s),(a,b,c,d,e,f,g),i,j)):=by
 have D:=aap h;rw[qJ];by_cases o:(rN (a,b,c,d,e,f,g) != 0)=true
 .rw[o];exact(ar o).2 (.ret _)
 rw[Bool.not_eq_true] at o;rw[o];refine(ap o).2 (?_);rw[Bool.false_or];by_cases q:(sC ((t,v,m,n,s),b) != 0)=true
 .rw[q];exact(ar q).2 (.ret _)
 rw[Bool.not_eq_true] at q;rw[q];refine(ap q).2 ?_;have F:rN (a,b,c,d,e,f,g)=0:=by simp_all
 have z:=ik.1 F;unfold oF at z;by_cases G:i<0
 .refine(ar (by rw[bi];simp_all)).2 ?_;rw[show decide (i<0)=true from by simp_all];exact .ret _
 refine(ap (by rw[bi];simp_all)).2 ?_;by_cases C:b<=i
 .refine(ar (by rw[kW];simp_all)).2 ?_;rw[show decide (b<=i)=true from by simp_all,oQ];exact .ret _
 refine(ap (by rw[kW];simp_all)).2 ?_;by_cases A:i=a
 .refine(ar<|apD A).2 ?_;rw[show(i==a)=true from by simp_all,oQ];exact .ret _
 refine(ap<|apC A).2 ?_;by_cases H:¬j.length=2
 .refine(ar<|zx<|show(j.length:Int)≠2 by omega).2 ?_;rw[show(j.length != 2)=true from by simp_all,oQ];exact .ret _
 refine(ap<|zw<|show(j.length:Int)=2 by omega).2 ((ap o).2<|?_);rw[show decide (i<0)=false from by simp_all,show decide (b<=i)=false from by simpa using C,show(i==a)=false from by simp_all,show(j.length != 2)=false from by simp_all];have y:JR ((a,b,c,d,e,f,g),i)=true:=(xL (by omega)<|by omega).2 ⟨by omega,by omega,by omega⟩;have E:=OX (x:=((a,b,c,d,e,f,g),i));have u:=Z9 (x:=((a,b,c,d,e,f,g),i));refine(ap (show af.not (af.k JR ((a,b,c,d,e,f,g),i))=false by rw[lJ,b_,y];rfl)).2 (au.2 ⟨by rw[b_];simp[KZ];omega,au.2 ⟨?_,?_⟩⟩)
 .rw[b_,bu,bu,aB,aB,aB];simp_all
 .have⟨p,l⟩:=bf E.1;rw[vws,l,AT];have B:af.b .sub .i64 (af.k oD ((a,b,c,d,e,f,g),i)).2 0=(p:Int):=by
   rw[b_,l,gX,lZ (by omega)<|by omega];omega
  refine agJ (vs:=(oD ((a,b,c,d,e,f,g),i)).1) D u (by omega) p 0 _ ⟨rfl,B,B,rfl,rfl,?_,rfl,rfl,rfl,rfl⟩ (by omega) (by omega)
  match (oD ((a,b,c,d,e,f,g),i)).1,u with
  | [_,_],_=>rfl
def al2:((Int×Int×Int×Int×Int)×(Int×Int×Int×Int×Int×Int×Int)×Int×List (Int×Int×(Int×List Int)))->((Int×Int×Int×(Int×Int×(Int×Int×Int×Int×Int)×Int×List Int)×Int)×Int):=qJ
def ay5:aK:=.all [(.struct [yI,yI,yI,yI,yI]),.struct [yI,yI,yI,yI,yI,yI,yI],yI,.slice<|.struct [yI,yI,.struct [yI,yB]]] [(.struct [yI,yI,yI,.struct [yI,yI,.struct [yI,yI,yI,yI,yI],yI,yB],yI]),yI] al2
def ayR:Sd 200 ay5:=fa<|aX ax dJ sl 122 [⟨200,10,[[4,8,9,10,56,57,58],[0,24,25,26],[7,8,9]]⟩,⟨296,3,[[0,24,25,26],[7,8,9]]⟩,⟨299,2,[[0,1,7,8],[],[8,9]]⟩] [] (λA ((q,v,n,o,i),(C,D,B,z,u,m,l),j,x)=>t43 A q v n o i C D B z u m l j x) Xe apE (kz (fc func200 (fc func249 (fc func251 (fc func252 (fc func296 (fc func299 fz)))))) (sc Sk (sc ayT (sc anQ (sc atW (sc Nq sz)))))) (λA y=>match y with |.c0 p a2=>⟨62,sl,by kernel_rfl⟩|.c1 p=>⟨52,sl,by kernel_rfl⟩|.c2 p c3=>⟨68,sl,by kernel_rfl⟩) λ((q,v,n,o,i),(C,D,B,z,u,m,l),j,x) E h=>asi h
def t61(A:aS)(u:Int)(G:Int)(o:Int)(n:Int)(m:Int)(j:Int)(i:Int)(h:Int)(l:Int)(p:Int)(E:Int)(D:Int)(F:Int)(y:Int)(z:Int)(v:Int)(x:Int)(q:Int)(C:Int)(B:List Int)(H:Int):LT ((Int×Int×Int×Int×Int×Int×Int)×Int) Empty:=.br (A.bq l 1) (.ret<|A.k uT ((u,G,o,n,m,j,i),h))<|.br (A.bq l 2) (.ret<|A.k ZJ ((u,G,o,n,m,j,i),h))<|.br (A.bq l 3) (.ret<|A.k vy ((u,G,o,n,m,j,i),h,p))<|.ret ((0,0,0,0,0,0,0),2)
def oX:((Int×Int×Int×Int×Int×Int×Int)×Int×(Int×Int×Int×(Int×Int×(Int×Int×Int×Int×Int)×Int×List Int)×Int))->((Int×Int×Int×Int×Int×Int×Int)×Int):=λ((F,G,D,C,B,x,v),u,A,q,y,(p,z,(l,m,i,j,h),o,n),E)=>(t61 af F G D C B x v u A q y p z l m i j h o n E).val<|Ty.aR [(.struct [yI,yI,yI,yI,yI,yI,yI]),yI]
def azc:aK:=.all [(.struct [yI,yI,yI,yI,yI,yI,yI]),yI,.struct [yI,yI,yI,.struct [yI,yI,.struct [yI,yI,yI,yI,yI],yI,yB],yI]] [(.struct [yI,yI,yI,yI,yI,yI,yI]),yI] oX
def ayW:Sd 201 azc:=fa<|aQ ax dJ sl 50 [] (λA ((G,H,E,D,C,x,v),u,B,q,y,(p,z,(l,m,i,j,h),o,n),F)=>t61 A G H E D C x v u B q y p z l m i j h o n F)<|kz (fc func201 fz)<|sc ayO<|sc asM<|sc ayQ sz
abbrev iB:Ty:=(.struct [yI,yI,yI,yI,yI])
abbrev fB:Type:=Int×Int×Int×Int×Int
abbrev re:Ty:=(.struct [yI,yI,yI,yI,yI,yI,yI])
abbrev vM:Type:=Int×Int×Int×Int×Int×Int×Int
abbrev aja:Ty:=(.struct [yI,yB])
abbrev Bits:Type:=Int×List Int
abbrev Jn:Ty:=(.struct [yI,yI,iB,yI,yB])
abbrev sS:Type:=Int×Int×fB×Int×List Int
abbrev qA:Ty:=(.struct [yI,yI,aja])
abbrev Seen:Type:=Int×Int×Bits
abbrev Qt:Ty:=(.struct [yI,yI,yI,Jn,yI])
abbrev qC:Type:=Int×Int×Int×sS×Int
abbrev kv:Ty:=(.struct [yI,yI])
abbrev Span:Type:=Int×Int
abbrev iC:Ty:=(.struct [yI,kv,yI,aja])
abbrev fC:Type:=Int×Span×Int×Bits
abbrev eT:Ty:=(.struct [Cr,.slice .bool,.slice .bool])
abbrev Mode:Type:=List Int×List Bool×List Bool
abbrev bD:Ty:=(.struct [yI,yI,yI,yI,yI,yI,.slice .bool,.slice eT])
abbrev aA:Type:=Int×Int×Int×Int×Int×Int×List Bool×List Mode
abbrev xg:Ty:=(.struct [yI,yI,Cr])
abbrev qB:Type:=Int×Int×List Int
abbrev kj:Ty:=(.struct [yB,yI])
abbrev iE:Type:=List Int×Int
abbrev rc:Ty:=(.struct [yI,yB,.slice kj,yI,yI])
abbrev iG:Type:=Int×List Int×List iE×Int×Int
abbrev gm:Ty:=(.struct [yI,yI,iB,re,yI,.bool,yI,rc])
abbrev Node:Type:=Int×Int×fB×vM×Int×Bool×Int×iG
abbrev dE:Ty:=(.struct [yI,yI,yI,yI,yI,yB])
abbrev cq:Type:=Int×Int×Int×Int×Int×List Int
def an_(A:aS)(n:Int)(h:Int)(i:Int):LT Bool Empty:=.br (A.ov n h) (.ret<|A.bE n i)<|.ret false
def kP:(Int×Int×Int)->Bool:=λ(n,h,i)=>(an_ af n h i).val<|Ty.aR [.bool]
def aup:aK:=.all [yI,yI,yI] [.bool] kP
def P9:Sd 134 aup:=fa<|aQ ax dJ sl 22 [] (λA (n,h,i)=>an_ A n h i)<|kz (fc func134 fz) sz
theorem sZ{x b:Int}:kP (x,a,b)=(decide (a<=x)&&decide (x<=b)):=by
 simp only[kP,an_,LT.val,kW,aB]
 simp_all
def apO{x y:α}:(bif true then x else y)=x:=rfl
def BN{l:List Bool}{i:Nat}(h:i<l.length):(af.n .bool l (i:Int):Bool)=l[i]:=eO h _
def abg{l:List Int}{i:Nat}(h:i<l.length):(af.n (.int .i64) l (i:Int):Int)=l[i]:=eO h _
def dW{l:List α}:af.l l=(l.length:Int):=rfl
variable{i:List Mode}{j:List Bool}
def rE{w o:Int}(h:Ty.has bD (n,s,g,w,d,o,j,i)):(-9223372036854775808<=n/\n<=9223372036854775807)/\j.length<=140737488355328/\i.length<=140737488355328/\∀x∈i,x.1.length<=140737488355328/\x.2.1.length<=140737488355328/\∀d∈x.1,IntKind.i64.has d:=by
 have⟨p,_,_,_,_,_,q,l⟩:=h;exact⟨p,q.1,l.1,λx m=>⟨(l.2 x m).1.1,(l.2 x m).2.1.1,(l.2 x m).1.2⟩⟩
structure aji where(a1:List Bool)(a2 a4 a5 a6 a7 a8 a9:Int)(jd:List Bool)(lq:List Mode)
inductive Yr where|c0(p:aji)(a0 a3:Int)
noncomputable def ako:Yr->gY
 | .c0 p a0 a3=>⟨[gW 130 38 [(1,pZ 0),(3,vi a0),(7,.sl .bool p.a1),(8,vi p.a2),(9,vi a3)] f130 116],[gZ [vi p.a4,vi p.a5,vi p.a6,vi p.a7,vi p.a8,vi p.a9,.sl .bool p.jd,.sl eT p.lq],.a_]⟩
def t154(A:aS)(n:Int)(o:Int)(p:Int)(i:Int)(l:Int)(j:Int)(h:List Bool)(m:List Mode):LT Bool Yr:=.ak<|.c0 ⟨h,A.l h,n,o,p,i,l,j,h,m⟩ 0 0
def ab1(A:aS):Yr->LT Bool Yr
 | .c0 p a0 a3=>.br (A.bo a3 p.a2) (.ao (A.and (A.bE 0 a3)<|A.bo a3<|A.l p.a1)<|.br (A.n .bool p.a1 a3:Bool) (.ak<|.c0 p (A.b .add .i64 a0 1)<|A.b .add .i64 a3 1)<|.ak<|.c0 p a0<|A.b .add .i64 a3 1)<|.br (A.k kP (p.a4,4,8)) (.br (A.k kP (A.l p.lq,1,4)) (.br (A.bq (A.l p.jd) p.a4) (.ret<|A.ov a0 2)<|.ret false)<|.ret false)<|.ret false
def countB(m:aA):Bool:=kP (m.1,4,8)&&kP ((m.2.2.2.2.2.2.2.length:Int),1,4)&&((m.2.2.2.2.2.2.1.length:Int)==m.1)&&decide (2<=(m.2.2.2.2.2.2.1.count true:Int))
theorem alD{w o:Int}{h:List Bool}{l:List Mode}(v:h.length<=140737488355328):∀(j i c:Nat),h.length-i=j->i<=h.length->c<=i->
  aV (ab1 af) (.ak<|.c0 ⟨h,(h.length:Int),n,s,g,w,d,o,h,l⟩ (c:Int) (i:Int)) (kP (n,4,8)&&kP ((l.length:Int),1,4)&&((h.length:Int)==n)&&decide (2<=((c+(h.drop i).count true:Nat):Int))):=by
 intro j
 induction j with
 | zero=>
   intro i c u q p;have:i=h.length:=by omega
   subst this;rw[aG,ab1];refine(ap (by rw[bH];simp)).2 ?_;rw[cY];simp[au,b_,adD,true_and];cases kP (n,4,8)
   .exact(ap rfl).2 (.ret _)
   refine(ar rfl).2 ?_;simp[au,true_and,dW];cases kP ((l.length:Int),1,4)
   .exact(ap rfl).2 (.ret _)
   refine(ar rfl).2 ?_;rw[bg];cases ((h.length:Int)==n)
   .exact(ap rfl).2 (.ret _)
   refine(ar rfl).2 ?_;exact .ret _
 | succ j ih=>
   intro i c u q p;have m:i<h.length:=by omega
   rw[aG,ab1];refine(ar (by rw[bH];simp_all)).2 (au.2 ⟨cJ m,?_⟩);rw[xx m,List.count_cons];cases hb:h[i]
   .refine(ap<|(BN m).trans hb).2 ?_;refine u9 (congrArg (λz=>LT.ak<|Yr.c0 _ _ z)<|jQ<|by omega)<|aT ?_<|ih (i+1) c (by omega) (by omega) (by omega);simp
   .refine(ar<|(BN m).trans hb).2 ?_;rw[jQ (i:=c)<|by omega,jQ (i:=i)<|by omega];refine aT ?_<|ih (i+1) (c+1) (by omega) (by omega) (by omega)
    grind
def alE{w l:Int}(h:Ty.has bD (n,s,g,w,d,l,j,i)):aV (ab1 af) (t154 af n s g w d l j i)<|countB (n,s,g,w,d,l,j,i):=
 aT (by simp[countB]) (alD (rE h).2.1 j.length 0 0 rfl (by omega)<|by omega)
def ZE:aA->Bool:=countB
def aun:aK:=.all [bD] [.bool] ZE
def ass:Sd 130 aun:=fa<|aX ax dJ sl 25 [⟨130,3,[[1,3,7,8,9]]⟩] [] (λA (n,q,u,i,l,j,o,m)=>t154 A n q u i l j o m) ab1 ako (kz (fc func130 fz) (sc P9 sz)) (λA y=>match y with |.c0 p v x=>⟨38,sl,by kernel_rfl⟩) λ(n,q,u,i,l,j,o,m) z h=>alE h
structure ajj where(a0:List Int)(a1 a3 a4 a5 a6 a7 a8:Int)(a9:List Bool)(jd:List Mode)(lq:List Int)(a12 E5:List Bool)
inductive Vq where|c0(p:ajj)(a2:Int)
noncomputable def akp:Vq->gY
 | .c0 p a2=>⟨[gW 133 57 [(2,pZ 0),(3,pZ 1),(31,.sl yI p.a0),(32,vi p.a1),(33,vi a2)] f133 116],[gZ [vi p.a3,vi p.a4,vi p.a5,vi p.a6,vi p.a7,vi p.a8,.sl .bool p.a9,.sl eT p.jd],gZ [.sl yI p.lq,.sl .bool p.a12,.sl .bool p.E5],.a_]⟩
def t157(A:aS)(i:Int)(u:Int)(v:Int)(m:Int)(p:Int)(o:Int)(q:List Bool)(l:List Mode)(j:List Int)(h:List Bool)(n:List Bool):LT Bool Vq:=.br (A.cm (A.l j) i) (.ret false)<|.br (A.cm (A.l h) i) (.ret false)<|.br (A.cm (A.l n)<|A.l l) (.ret false)<|.ak<|.c0 ⟨j,A.l j,i,u,v,m,p,o,q,l,j,h,n⟩ 0
def Wx(A:aS):Vq->LT Bool Vq
 | .c0 p a2=>.br (A.bo a2 p.a1) (.ao (A.and (A.bE 0 a2)<|A.bo a2<|A.l p.a0)<|.br (A.not<|A.k kP ((A.n yI p.a0 a2:Int),0,8)) (.ret false)<|.ao (A.and (A.bE 0 a2)<|A.bo a2<|A.l p.a9)<|.br (A.n .bool p.a9 a2:Bool) (.ao (A.and (A.bE 0 a2)<|A.bo a2<|A.l p.a12)<|.br (A.not (A.n .bool p.a12 a2:Bool)) (.ret false)<|.ak<|.c0 p<|A.b .add .i64 a2 1)<|.ak<|.c0 p<|A.b .add .i64 a2 1)<|.ret true
def yH:List Int->List Bool->List Bool->Bool
 | d::ds,c::cs,e::es=>(decide (0<=d)&&decide (d<=8))&&(!c||e)&&yH ds cs es
 | _,_,_=>true
def pH(m:aA)(x:Mode):Bool:=((x.1.length:Int)==m.1)&&((x.2.1.length:Int)==m.1)&&(x.2.2.length==m.2.2.2.2.2.2.2.length)&&yH x.1 m.2.2.2.2.2.2.1 x.2.1
variable{h:List Int}
theorem aq2{w:Int}{l m next:List Bool}{p:List Mode}(C:h.length<=140737488355328)(A:l.length=h.length)(B:m.length=h.length):∀(j i:Nat),h.length-i=j->i<=h.length->
  aV (Wx af) (.ak<|.c0 ⟨h,(h.length:Int),n,s,g,w,d,v,l,p,h,m,next⟩ i) (yH (h.drop i) (l.drop i)<|m.drop i):=by
 intro j
 induction j with
 | zero=>
   intro i y x;have:i=h.length:=by omega
   subst this;rw[aG,Wx];refine(ap (by rw[bH];simp)).2 ?_;rw[cY];exact .ret _
 | succ j ih=>
   intro i y x;have o:i<h.length:=by omega
   rw[aG,Wx];refine(ar (by rw[bH];simp_all)).2 (au.2 ⟨cJ o,?_⟩);rw[xx o,xx<|show i<l.length by omega,xx<|show i<m.length by omega,yH];have q:=ih (i+1) (by omega) (by omega);have u:af.k kP ((af.n (.int .i64) h (i:Int):Int),0,8)=(decide (0<=h[i])&&decide (h[i]<=8)):=by
    rw[b_,abg o,sZ]
   cases hw':(decide (0<=h[i])&&decide (h[i]<=8))
   .exact(ar (by rw[u,hw'];rfl)).2 (.ret _)
   refine(ap (by rw[u,hw'];rfl)).2 (au.2 ⟨cJ<|show i<l.length by omega,?_⟩);cases hcb:l[i]
   .refine(ap<|(BN<|show i<l.length by omega).trans hcb).2 ?_;exact u9 (congrArg (λz=>LT.ak<|Vq.c0 _ z)<|jQ<|by omega) q
   .refine(ar<|(BN<|show i<l.length by omega).trans hcb).2 (au.2 ⟨cJ<|show i<m.length by omega,?_⟩);cases heb:m[i]
    .exact(ar (by rw[BN<|show i<m.length by omega,heb];rfl)).2 (.ret _)
    .refine(ap (by rw[BN<|show i<m.length by omega,heb];rfl)).2 ?_;exact u9 (congrArg (λz=>LT.ak<|Vq.c0 _ z)<|jQ<|by omega) q
theorem aq3{w:Int}{l next:List Bool}(u:h.length<=140737488355328)(v:(j.length:Int)=n):
  aV (Wx af) (t157 af n s g w d m j i h l next) (pH (n,s,g,w,d,m,j,i) (h,l,next)):=by
 unfold t157 pH;by_cases o:(h.length:Int)=n
 .refine(ap<|zw o).2 ?_;by_cases p:(l.length:Int)=n
  .refine(ap<|zw p).2 ?_;by_cases q:(next.length:Int)=i.length
   .refine(ap<|zw q).2 (aT ?_<|aq2 u (by omega) (by omega) h.length 0 rfl<|by omega)
    grind
   .refine(ar<|zx q).2 (aT ?_<|.ret _)
    grind
  .refine(ar<|zx p).2 (aT ?_<|.ret _)
   simp_all
 .refine(ar<|zx o).2 (aT ?_<|.ret _)
  simp_all
def TH:(aA×Mode)->Bool:=λ(m,x)=>pH m x
def RD:(aA×Mode)->Bool:=λ(m,_)=>(m.2.2.2.2.2.2.1.length:Int)==m.1
def auo:aK:=⟨[bD,eT],[.bool],RD,TH,false⟩
def ast:Sd 133 auo:=aX ax dJ sl 51 [⟨133,4,[[2,3,31,32,33]]⟩] [] (λA ((o,u,z,j,m,l,q,n),v,i,x)=>t157 A o u z j m l q n v i x) Wx akp (kz (fc func133 fz) (sc P9 sz)) (λA y=>match y with |.c0 p a2=>⟨51,sl,by kernel_rfl⟩) λ(((o,u,z,j,m,l,q,n),v,i,x):aA×Mode) B h=>by
 show aV (Wx af) (t157 af o u z j m l q n v i x)<|TH ((o,u,z,j,m,l,q,n),v,i,x);exact aq3 h.2.1.1 (by simpa [RD] using B)
def t183(A:aS)(h:Bool)(i:Int):LT Int Empty:=.br (A.not h) (.ret 2)<|.br (A.jD i 0) (.ret 4)<|.ret 3
def tA:(Bool×Int)->Int:=λ(h,i)=>(t183 af h i).val<|Ty.aR [yI]
def auD:aK:=.all [.bool,yI] [yI] tA
def aiz:Sd 216 auD:=fa<|aQ ax dJ sl 32 [] (λA (h,i)=>t183 A h i)<|kz (fc func216 fz) sz
def t173(A:aS)(n:Int):LT Int Empty:=.br (A.bo n 0) (.ret 0)<|.br (A.jD n 4095) (.ret 0)<|.ret<|A.b .add .i64 14<|A.b .quo .i64 (A.b .add .i64 n 1) 2
def mF:Int->Int:=λn=>(t173 af n).val<|Ty.aR [yI]
def auw:aK:=.all [yI] [yI] mF
def U5:Sd 159 auw:=fa<|aQ ax dJ sl 30 [] (λA n=>t173 A n)<|kz (fc func159 fz) sz
structure ajm where(a0:Int)(a1:List Mode)(a2 a3 a4 a5 a6 a7 a8 a9:Int)(jd:List Bool)(lq:List Mode)
structure ajn where(b1:List Mode)(b2 b3:Int)(b4:List Int)(b5 b7 b8 b9 b10 b11 b12:Int)(b13:List Bool)(LG:List Mode)(E6:List Int)(jC w_:List Bool)
inductive ad_ where|c0(p:ajm)|c1(p:ajn)(b0 b6:Int)
noncomputable def aks:ad_->gY
 | .c0 p=>⟨[gW 161 55 [(1,pZ 0),(3,vi p.a0),(12,.sl eT p.a1),(13,vi p.a2),(14,vi p.a3)] f161 116],[gZ [vi p.a4,vi p.a5,vi p.a6,vi p.a7,vi p.a8,vi p.a9,.sl .bool p.jd,.sl eT p.lq],.a_]⟩
 | .c1 p b0 h=>⟨[gW 161 55 [(1,pZ 0),(3,vi b0),(5,pZ 1),(12,.sl eT p.b1),(13,vi p.b2),(14,vi p.b3),(19,.sl yI p.b4),(20,vi p.b5),(21,vi h)] f161 29900],[gZ [vi p.b7,vi p.b8,vi p.b9,vi p.b10,vi p.b11,vi p.b12,.sl .bool p.b13,.sl eT p.LG],gZ [.sl yI p.E6,.sl .bool p.jC,.sl .bool p.w_],.a_]⟩
def awJ(A:aS)(m:Int)(o:Int)(p:Int)(i:Int)(l:Int)(j:Int)(n:List Bool)(h:List Mode):LT Int ad_:=.ak<|.c0 ⟨A.k mF<|A.k xc (1,0),h,A.l h,0,m,o,p,i,l,j,n,h⟩
def Na(A:aS):ad_->LT Int ad_
 | .c0 p=>.br (A.bo p.a3 p.a2) (.ao (A.and (A.bE 0 p.a3)<|A.bo p.a3<|A.l p.a1)<|.ak<|.c1 ⟨p.a1,p.a2,p.a3,(A.n eT p.a1 p.a3:Mode).1,A.l (A.n eT p.a1 p.a3:Mode).1,p.a4,p.a5,p.a6,p.a7,p.a8,p.a9,p.jd,p.lq,(A.n eT p.a1 p.a3:Mode).1,(A.n eT p.a1 p.a3:Mode).2.1,(A.n eT p.a1 p.a3:Mode).2.2⟩ p.a0 0)<|.ret p.a0
 | .c1 p b0 h=>.br (A.bo h p.b5) (.ao (A.and (A.bE 0 h)<|A.bo h<|A.l p.b4)<|.br (A.bo h p.b7) (.br (A.bo h<|A.l p.jC) (.ao (A.and (A.bE 0 h)<|A.bo h<|A.l p.jC)<|.br (A.jD (A.k xc (A.k tA ((A.n .bool p.jC h:Bool),(A.n yI p.b4 h:Int)),(A.n yI p.b4 h:Int))) 0) (.ak<|.c1 p (A.mx b0<|A.k mF<|A.k xc (A.k tA ((A.n .bool p.jC h:Bool),(A.n yI p.b4 h:Int)),(A.n yI p.b4 h:Int)))<|A.b .add .i64 h 1)<|.ak<|.c1 p b0<|A.b .add .i64 h 1)<|.ak<|.c1 p b0<|A.b .add .i64 h 1)<|.ak<|.c1 p b0<|A.b .add .i64 h 1)<|.ak<|.c0 ⟨b0,p.b1,p.b2,A.b .add .i64 p.b3 1,p.b7,p.b8,p.b9,p.b10,p.b11,p.b12,p.b13,p.LG⟩
def Co(b:Int)(x:Int×Bool):Int:=bif decide (0<xc (tA (x.2,x.1),x.1)) then af.mx b (mF<|xc (tA (x.2,x.1),x.1)) else b
def BH(n:Nat)(b:Int)(x:Mode):Int:=((x.1.zip x.2.1).take n).foldl Co b
def jh(m:aA):Int:=m.2.2.2.2.2.2.2.foldl (BH m.1.toNat)<|mF<|xc (1,0)
theorem adY{i:Nat}(m:i<h.length)(o:i<j.length)(p:(i:Int)<n):((h.zip j).take n.toNat).drop i=(h[i],j[i])::((h.zip j).take n.toNat).drop (i+1):=by
 have l:i<((h.zip j).take n.toNat).length:=by grind
 rw[xx l,List.getElem_take,List.getElem_zip]
theorem D3{j:List Int}{l:List Bool}{i:Nat}(h:l.length<=i\/n<=(i:Int)\/j.length<=i):((j.zip l).take n.toNat).drop i=[]:=by
 apply gx
 grind
def Uu{i:Nat}:af.bo i n=decide ((i:Int)<n):=rfl
def adS{b:Int}{e:Bool}:Co b (d,e)=bif af.jD (af.k xc (af.k tA (e,d),d)) 0 then af.mx b (af.k mF<|af.k xc (af.k tA (e,d),d)) else b:=rfl
variable{F:Int->Int}
theorem ayj{w x:Int}{o l next:List Bool}{m z:List Mode}{L k y:Int}(E:h.length<=140737488355328)(D:af.b .add .i64 k 1=y)(v:∀b,aV (Na af) (.ak<|.c0 ⟨b,z,L,y,n,s,g,w,d,x,o,m⟩)<|F b):
  ∀(j i:Nat) (b:Int),h.length-i=j->i<=h.length->aV (Na af) (.ak<|.c1 ⟨z,L,k,h,(h.length:Int),n,s,g,w,d,x,o,m,h,l,next⟩ b i) (F<|(((h.zip l).take n.toNat).drop i).foldl Co b):=by
 intro j
 induction j with
 | zero=>
   intro i b C B;have:i=h.length:=by omega
   subst this;rw[aG,Na];refine(ap (by rw[bH];simp)).2 ?_;rw[D3<|.inr<|.inr<|ai _,D]
   simp_all
 | succ j ih=>
   intro i b C B;have p:i<h.length:=by omega
   rw[aG,Na];refine(ar (by rw[bH];simp_all)).2 (au.2 ⟨cJ p,?_⟩);have q:=λb=>ih (i+1) b (by omega) (by omega);by_cases A:(i:Int)<n
   .refine(ar (by rw[Uu];simp_all)).2 ?_;by_cases u:i<l.length
    .refine(ar (by rw[dW,bH];simp_all)).2 (au.2 ⟨cJ<|show i<l.length from u,?_⟩);rw[adY p u A,jZ,adS,<-abg p,<-BN u,jQ (i:=i)<|by omega];cases hb:af.jD (af.k xc (af.k tA ((af.n .bool l (i:Int):Bool),(af.n (.int .i64) h (i:Int):Int)),(af.n (.int .i64) h (i:Int):Int))) 0
     .exact(ap rfl).2 (q _)
     .exact(ar rfl).2 (q _)
    .refine(ap (by rw[dW,bH];simp_all)).2 ?_;rw[jQ (i:=i)<|by omega];have:=q b;rw[D3<|.inl<|by omega] at this ⊢;omega
   .refine(ap (by rw[Uu];simp_all)).2 ?_;rw[jQ (i:=i)<|by omega];have:=q b;rw[D3<|.inr<|.inl<|by omega] at this ⊢;omega
theorem ayi{w o:Int}{m:List Bool}{l h:List Mode}(v:h.length<=140737488355328)(p:∀x∈h,x.1.length<=140737488355328):
  ∀(j k:Nat) (b:Int),h.length-k=j->k<=h.length->aV (Na af) (.ak<|.c0 ⟨b,h,(h.length:Int),(k:Int),n,s,g,w,d,o,m,l⟩) ((h.drop k).foldl (BH n.toNat) b):=by
 intro j
 induction j with
 | zero=>
   intro k b q u;have:k=h.length:=by omega
   subst this;rw[aG,Na];refine(ap (by rw[bH];simp)).2 ?_;rw[cY];exact .ret _
 | succ j ih=>
   intro k b q u;have i:k<h.length:=by omega
   rw[aG,Na];refine(ar (by rw[bH];simp_all)).2 (au.2 ⟨cJ i,?_⟩);rw[show(af.n eT h (k:Int):Mode)=h[k] from eO i _,xx i,jZ];exact ayj (F:=λb=>(h.drop<|k+1).foldl (BH n.toNat) b) (p _<|cZ i) (jQ<|by omega) (λb=>ih (k+1) b (by omega)<|by omega) h[k].1.length 0 b rfl (by omega)
def max2{w l:Int}(h:Ty.has bD (n,s,g,w,d,l,j,i)):aV (Na af) (awJ af n s g w d l j i)<|jh (n,s,g,w,d,l,j,i):=
 (ayi (rE h).c (λx m=>((rE h).C x m).1) i.length 0 _ rfl<|by omega)
def OC:aA->Int:=jh
def auz:aK:=.all [bD] [yI] OC
def acE:Sd 161 auz:=fa<|aX ax dJ sl 27 [⟨161,3,[[1,3,12,13,14]]⟩,⟨161,6,[[1,3,5,12,13,14,19,20,21]]⟩] [] (λA (n,q,u,i,l,j,o,m)=>awJ A n q u i l j o m) Na aks (kz (fc func161 fz) (sc ayU (sc U5 (sc aiz sz)))) (λA y=>match y with |.c0 p=>⟨31,sl,by kernel_rfl⟩|.c1 p b0 v=>⟨69,sl,by kernel_rfl⟩) λ(n,q,u,i,l,j,o,m) x h=>max2 h
def t159(A:aS)(l:Int)(p:Int)(n:Int)(h:Int)(j:Int)(i:Int)(o:List Bool)(m:List Mode):LT (Int×Int×Int) Empty:=.ret (A.b .add .i64 (A.b .mul .i64 (A.b .mul .i64 16 l) j) 16,A.b .add .i64 (A.b .add .i64 (A.b .mul .i64 2 h)<|A.b .mul .i64 2 i) 4,A.b .add .i64 (A.b .mul .i64 2 n)<|A.k OC (l,p,n,h,j,i,o,m))
def Ec:aA->(Int×Int×Int):=λ(m,o,p,h,j,i,n,l)=>(t159 af m o p h j i n l).val<|Ty.aR [yI,yI,yI]
def auq:aK:=.all [bD] [yI,yI,yI] Ec
def asu:Sd 135 auq:=fa<|aQ ax dJ sl 50 [] (λA (m,o,p,h,j,i,n,l)=>t159 A m o p h j i n l)<|kz (fc func135 fz)<|sc acE sz
theorem bl{R:Type}{step:Y->LT R Y}{t e:LT R Y}{r:R}[Decidable p]{b:Bool}(l:b=decide p)(j:p->aV step t r)(i:¬p->aV step e r):aV step (.br b t e) r:=by
 by_cases h:p
 .exact(ar<|by simp_all).2 (j h)
 .exact(ap<|by simp_all).2 (i h)
def jo{R:Type}{step:Y->LT R Y}{t e:LT R Y}{r:R}{x b:Int}(j:¬(a<=x/\x<=b)->aV step t r)(i:a<=x/\x<=b->aV step e r):aV step (.br (af.not<|af.k kP (x,a,b)) t e) r:=by
 refine bl (p:=¬(a<=x/\x<=b)) ?_ j<|λh=>i<|dF.1 h;rw[lJ,b_,sZ,<-Bool.decide_and,<-decide_not]
def Kn:0<=mF n/\mF n<=2062:=by
 simp[mF,t173,LT.val,bi,iA,Bool.cond_eq_ite,uR];split
 .omega
 .split
  .omega
  .rw[gG,Fs,gG,lZ (a:=n+1) (by omega)<|by omega];have:(n+1).tdiv 2=(n+1)/2:=i_ (by omega);rw[this,lZ (a:=(n+1)/2) (by omega)<|by omega,lZ (by omega)<|by omega];omega
def adR{b:Int}{x:Int×Bool}(h:0<=b/\b<=2062):0<=Co b x/\Co b x<=2062:=by
 have:=Kn (n:=xc (tA (x.2,x.1),x.1));unfold Co;cases decide (0<xc (tA (x.2,x.1),x.1))
 .exact h
 .rw[apO,tX];omega
theorem Ag{α:Type}{f:Int->α->Int}(i:∀b x,0<=b/\b<=2062->0<=f b x/\f b x<=2062):∀{l:List α} {b:Int},0<=b/\b<=2062->0<=l.foldl f b/\l.foldl f b<=2062
 | [],_,h=>h
 | x::l,b,h=>Ag i (l:=l)<|i b x h
def vF{m:aA}:0<=jh m/\jh m<=2062:=Ag (λ_ _ h=>Ag (λ_ _ h=>adR h) h) Kn
def qS(n s g w d h i:Int):Bool:=decide<|0<=d/\d<=64/\0<=h/\h<=64/\16*n*d+16<=w/\w<=1048576/\2*w+2*h+4<=g/\g<=1048576/\2*g+i<=s/\s<=16777216
def dP(m:aA):Bool:=countB m&&m.2.2.2.2.2.2.2.all (pH m)&&qS m.1 m.2.1 m.2.2.1 m.2.2.2.1 m.2.2.2.2.1 m.2.2.2.2.2.1 (jh m)
def qH(m:aA):Int:=bif dP m then 0 else 70
theorem adU(h:4<=n/\n<=8)(i:0<=d/\d<=64):af.b .add .i64 (af.b .mul .i64 (af.b .mul .i64 16 n) d) 16=16*n*d+16:=by
 have j:0<=16*n*d/\16*n*d<=8192:=by
  have:n=4\/n=5\/n=6\/n=7\/n=8:=by omega
  grind
 rw[gG,jq,jq,lZ (a:=16*n) (by omega) (by omega),lZ (a:=16*n*d) (by omega) (by omega),lZ (by omega) (by omega)]
theorem y1(h:4<=n/\n<=8)(i:0<=d/\d<=64):0<=16*n*d:=by
 have:n=4\/n=5\/n=6\/n=7\/n=8:=by omega
 grind
theorem aah{w i:Int}(h:0<=w/\w<=1048576)(j:0<=i/\i<=64):af.b .add .i64 (af.b .add .i64 (af.b .mul .i64 2 w) (af.b .mul .i64 2 i)) 4=2*w+2*i+4:=by
 rw[gG,gG,jq,jq,lZ (a:=2*w) (by omega) (by omega),lZ (a:=2*i) (by omega) (by omega),lZ (a:=2*w+2*i) (by omega) (by omega),lZ (by omega) (by omega)]
theorem U0{i:Int}(h:0<=g/\g<=1048576)(j:0<=i/\i<=2062):af.b .add .i64 (af.b .mul .i64 2 g) i=2*g+i:=by
 rw[gG,jq,lZ (a:=2*g) (by omega) (by omega),lZ (by omega) (by omega)]
theorem ZF{w j:Int}{i:List Bool}{h:List Mode}:Ec (n,s,g,w,d,j,i,h)=(af.b .add .i64 (af.b .mul .i64 (af.b .mul .i64 16 n) d) 16,af.b .add .i64 (af.b .add .i64 (af.b .mul .i64 2 w) (af.b .mul .i64 2 j)) 4,af.b .add .i64 (af.b .mul .i64 2 g) (jh (n,s,g,w,d,j,i,h))):=rfl
structure Xo where(a0:List Mode)(a1 a3 a4 a5 a6 a7 a8:Int)(a9:List Bool)(jd:List Mode)
inductive Yp where|c0(p:Xo)(a2:Int)
noncomputable def aki:Yp->gY
 | .c0 p a2=>⟨[gW 186 19 [(0,.sl eT p.a0),(1,.fn 132 [] [pZ 0]),(7,vi p.a1),(8,vi a2)] f186 52,⟨131,9,.leaf,[.ops (ow f131 6)<|(ow f131 6).toList.drop 2,.code .ret],[],none⟩,E8 88 65 [(1,pZ 0)] f88 6148 3],[gZ [vi p.a3,vi p.a4,vi p.a5,vi p.a6,vi p.a7,vi p.a8,.sl .bool p.a9,.sl eT p.jd],.a_]⟩
def t124(A:aS)(m:Int)(o:Int)(p:Int)(i:Int)(l:Int)(j:Int)(n:List Bool)(h:List Mode):LT Int Yp:=.br (A.not<|A.k ZE (m,o,p,i,l,j,n,h)) (.ret 70)<|.ak<|.c0 ⟨h,A.l h,m,o,p,i,l,j,n,h⟩ 0
abbrev UW(A:aS)(p:Xo):LT Int Yp:=(.br (A.not<|A.k kP (p.a7,0,64)) (.ret 70)<|.br (A.not<|A.k kP (p.a8,0,64)) (.ret 70)<|.br (A.not<|A.k kP (p.a6,0,1048576)) (.ret 70)<|.br (A.not<|A.k kP (p.a5,0,1048576)) (.ret 70)<|.br (A.not<|A.k kP (p.a4,0,16777216)) (.ret 70)<|.br (A.bo p.a6 (A.k Ec (p.a3,p.a4,p.a5,p.a6,p.a7,p.a8,p.a9,p.jd)).1) (.ret 70)<|.br (A.bo p.a5 (A.k Ec (p.a3,p.a4,p.a5,p.a6,p.a7,p.a8,p.a9,p.jd)).2.1) (.ret 70)<|.br (A.bo p.a4 (A.k Ec (p.a3,p.a4,p.a5,p.a6,p.a7,p.a8,p.a9,p.jd)).2.2) (.ret 70)<|.ret 0)
def Ww(A:aS):Yp->LT Int Yp
 | .c0 p a2=>.br (A.bo a2 p.a1) (.ao (A.and (A.bE 0 a2)<|A.bo a2<|A.l p.a0)<|.ao (A.k RD ((p.a3,p.a4,p.a5,p.a6,p.a7,p.a8,p.a9,p.jd),(A.n eT p.a0 a2:Mode)))<|.br (A.not<|A.k TH ((p.a3,p.a4,p.a5,p.a6,p.a7,p.a8,p.a9,p.jd),(A.n eT p.a0 a2:Mode))) (.br (A.ov a2 0) (.ret 70)<|UW A p)<|.ak<|.c0 p<|A.b .add .i64 a2 1)<|UW A p
theorem ahB{w l:Int}{R:Int}(q:4<=n/\n<=8)(z:R=bif qS n s g w d l (jh (n,s,g,w,d,l,j,i)) then 0 else 70):
  aV (Ww af) (.br (af.not<|af.k kP (d,0,64)) (.ret 70)<|.br (af.not<|af.k kP (l,0,64)) (.ret 70)<|.br (af.not<|af.k kP (w,0,1048576)) (.ret 70)<|.br (af.not<|af.k kP (g,0,1048576)) (.ret 70)<|.br (af.not<|af.k kP (s,0,16777216)) (.ret 70)<|.br (af.bo w (af.k Ec (n,s,g,w,d,l,j,i)).1) (.ret 70)<|.br (af.bo g (af.k Ec (n,s,g,w,d,l,j,i)).2.1) (.ret 70)<|.br (af.bo s (af.k Ec (n,s,g,w,d,l,j,i)).2.2) (.ret 70)<|.ret 0) R:=by
 have A:=vF (m:=(n,s,g,w,d,l,j,i));have o:∀{p:Prop} [Decidable p],¬p->decide p=false:=λh=>by simp_all
 rw[z];refine jo (λh=>aT ?_<|.ret _) λu=>jo (λh=>aT ?_<|.ret _) λv=>jo (λh=>aT ?_<|.ret _) λx=>jo (λh=>aT ?_<|.ret _) λy=>jo (λh=>aT ?_<|.ret _) λB=>?_
 .rw[qS,o<|by omega];rfl
 .rw[qS,o<|by omega];rfl
 .have:=λh=>y1 (n:=n) (d:=d) q h;rw[qS,o<|by omega];rfl
 .have:=λh=>y1 (n:=n) (d:=d) q h;rw[qS,o<|by omega];rfl
 .have:=λh=>y1 (n:=n) (d:=d) q h;rw[qS,o<|by omega];rfl
 .have:=y1 (n:=n) (d:=d) q u;rw[b_,ZF,adU q u,aah x v,U0 y A];refine bl (p:=w<16*n*d+16) rfl (λh=>aT ?_<|.ret _) λC=>bl (p:=g<2*w+2*l+4) rfl (λh=>aT ?_<|.ret _) λD=>bl (p:=s<2*g+jh (n,s,g,w,d,l,j,i)) rfl (λh=>aT ?_<|.ret _) λE=>aT ?_<|.ret _
  .rw[qS,o<|by omega];rfl
  .rw[qS,o<|by omega];rfl
  .rw[qS,o<|by omega];rfl
  .rw[qS,cr<|by omega];rfl
theorem alv{w:Int}{l:List Bool}{h:List Mode}(y:h.length<=140737488355328)(x:(l.length:Int)=n)(v:4<=n/\n<=8):∀(j i:Nat),h.length-i=j->i<=h.length->
  aV (Ww af) (.ak<|.c0 ⟨h,(h.length:Int),n,s,g,w,d,m,l,h⟩ i) (bif (h.drop i).all (pH (n,s,g,w,d,m,l,h))&&qS n s g w d m (jh (n,s,g,w,d,m,l,h)) then 0 else 70):=by
 intro j
 induction j with
 | zero=>
   intro i u q;have:i=h.length:=by omega
   subst this;rw[aG,Ww];refine(ap (by rw[bH];simp)).2 (ahB v ?_)
   simp_all
 | succ j ih=>
   intro i u q;have o:i<h.length:=by omega
   rw[aG,Ww];refine(ar (by rw[bH];simp_all)).2 (au.2 ⟨cJ o,?_⟩);have e:(af.n eT h (i:Int):Mode)=h[i]:=eO o _;rw[e,xx o,jR];refine au.2 ⟨by show((l.length:Int)==n)=true;simp_all,?_⟩;have p:af.k TH ((n,s,g,w,d,m,l,h),h[i])=pH (n,s,g,w,d,m,l,h) h[i]:=rfl;rw[p];cases pH (n,s,g,w,d,m,l,h) h[i]
   .refine(ar rfl).2 ((ar<|by rfl).2<|.ret _)
   .refine(ap rfl).2 ?_;rw[jQ (i:=i)<|by omega,dO]
    grind
def alx{w l:Int}(h:Ty.has bD (n,s,g,w,d,l,j,i)):aV (Ww af) (t124 af n s g w d l j i)<|qH (n,s,g,w,d,l,j,i):=by
 unfold t124 qH dP;rw[show af.k ZE (n,s,g,w,d,l,j,i)=countB (n,s,g,w,d,l,j,i) from rfl];cases hc:countB (n,s,g,w,d,l,j,i)
 .exact(ar rfl).2 (.ret _)
 .refine(ap rfl).2 ?_;simp[countB,sZ,fZ,uR,beq_iff_eq] at hc;exact alv (rE h).c hc.1.2 hc.1.1.1 i.length 0 rfl (by omega)
def jN:aA->Int:=qH
def aub:aK:=.all [bD] [yI] jN
def EB:Sd 88 aub:=fa<|aX ax dJ sl 58 [⟨186,2,[[0,1,7,8],[],[1]]⟩] [] (λA (n,q,u,i,l,j,o,m)=>t124 A n q u i l j o m) Ww aki (kz (fc func88 (fc func131 (fc func132 (fc func186 fz)))) (sc ass (sc ast (sc P9 (sc asu sz))))) (λA y=>match y with |.c0 p a2=>⟨136,sl,by kernel_rfl⟩) λ(n,q,u,i,l,j,o,m) v h=>alx h
def Bn{m:aA}:jN m=qH m:=rfl
theorem vY{m:aA}:qH m=0↔dP m=true:=by
 unfold qH;grind
def awI(A:aS)(h:Bool)(i:Int):LT Int Empty:=.br (A.not h) (.ret 2)<|.br (A.jD i 0) (.ret 4)<|.ret 3
def TL:(Bool×Int)->Int:=λ(h,i)=>(awI af h i).val<|Ty.aR [yI]
def auu:aK:=.all [.bool,yI] [yI] TL
def asv:Sd 63 auu:=fa<|aQ ax dJ sl 30 [] (λA (h,i)=>awI A h i)<|kz (fc func63 fz) sz
def awF(A:aS)(n:Int):LT Int Empty:=.br (A.bo n 0) (.ret 0)<|.br (A.jD n 4095) (.ret 0)<|.ret<|A.b .add .i64 14<|A.b .quo .i64 (A.b .add .i64 n 1) 2
def TE:Int->Int:=λn=>(awF af n).val<|Ty.aR [yI]
def aua:aK:=.all [yI] [yI] TE
def asn:Sd 61 aua:=fa<|aQ ax dJ sl 30 [] (λA n=>awF A n)<|kz (fc func61 fz) sz
structure ajx where(a0:List Bool)
inductive aei where|c0(p:ajx)(a1 a2:Int)
noncomputable def akD:aei->gY
 | .c0 p a1 a2=>⟨[gW 43 18 [(0,.sl .bool p.a0),(3,vi a1),(4,vi a2)] f43 116],[.a_]⟩
def awV(A:aS)(l:List Bool):LT Int aei:=.ak<|.c0 ⟨l⟩ 0 0
def ab6(A:aS):aei->LT Int aei
 | .c0 p a1 a2=>.br (A.bo a2<|A.l p.a0) (.ao (A.and (A.bE 0 a2)<|A.bo a2<|A.l p.a0)<|.br (A.n .bool p.a0 a2:Bool) (.ak<|.c0 p (A.b .add .i64 a1 1)<|A.b .add .i64 a2 1)<|.ak<|.c0 p a1<|A.b .add .i64 a2 1)<|.ret a1
theorem apc{l:List Bool}(p:l.length<=140737488355328):∀(j i c:Nat),l.length-i=j->i<=l.length->c<=i->aV (ab6 af) (.ak<|.c0 ⟨l⟩ (c:Int) (i:Int)) ((c+(l.drop i).count true:Nat):Int):=by
 intro j
 induction j with
 | zero=>
   intro i c o n m;have:i=l.length:=by omega
   subst this;rw[aG,ab6];refine(ap (by rw[dW,bH];simp)).2 ?_;rw[cY];exact .ret _
 | succ j ih=>
   intro i c o n m;have h:i<l.length:=by omega
   rw[aG,ab6];refine(ar (by rw[dW,bH];simp_all)).2 (au.2 ⟨cJ h,?_⟩);rw[xx h,List.count_cons];cases hb:l[i]
   .refine(ap<|(BN h).trans hb).2 ?_;rw[jQ (i:=i)<|by omega];refine aT ?_<|ih (i+1) c (by omega) (by omega) (by omega);simp
   .refine(ar<|(BN h).trans hb).2 ?_;rw[jQ (i:=c)<|by omega,jQ (i:=i)<|by omega];refine aT ?_<|ih (i+1) (c+1) (by omega) (by omega) (by omega)
    grind
def T3:(List Bool)->Int:=λl=>(l.count true:Int)
def avc:aK:=.all [(.slice .bool)] [yI] T3
def asW:Sd 43 avc:=fa (aX ax dJ sl 21 [⟨43,3,[[0,3,4]]⟩] [] (λA l=>awV A l) ab6 akD (kz (fc func43 fz) sz) (λA y=>match y with |.c0 p a1 a2=>⟨37,sl,by kernel_rfl⟩) λ(l:List Bool) i h=>by
 show aV (ab6 af) (awV af l)<|T3 l;exact aT (by simp[T3])<|apc h.1 l.length 0 0 rfl (by omega)<|by omega)
structure ajy where(a1:List Int)(a2 a3:List Bool)(a4 a5 a6 a7 a8 a9:Int)(jd:List Bool)(lq:List Mode)
structure ajz where(b1:List Int)(b2 b3:List Bool)(b4 b5 b6 b7 b8 b9:Int)(b10:List Bool)(b11:List Mode)
inductive aej where|c0(p:ajy)(a0:Int)|c1(p:ajz)(b0:Int)
noncomputable def akE:aej->gY
 | .c0 p a0=>⟨[gW 44 78 [(2,pZ 0),(3,pZ 1),(5,vi a0)] f44 116],[gZ [.sl yI p.a1,.sl .bool p.a2,.sl .bool p.a3],gZ [vi p.a4,vi p.a5,vi p.a6,vi p.a7,vi p.a8,vi p.a9,.sl .bool p.jd,.sl eT p.lq],.a_]⟩
 | .c1 p b0=>⟨[gW 44 78 [(2,pZ 0),(3,pZ 1),(6,vi b0)] f44 244],[gZ [.sl yI p.b1,.sl .bool p.b2,.sl .bool p.b3],gZ [vi p.b4,vi p.b5,vi p.b6,vi p.b7,vi p.b8,vi p.b9,.sl .bool p.b10,.sl eT p.b11],.a_]⟩
def ag5(A:aS)(m:List Int)(h:List Bool)(n:List Bool)(i:Int)(u:Int)(v:Int)(l:Int)(p:Int)(o:Int)(q:List Bool)(j:List Mode):LT Bool aej:=.br (A.cm (A.l m) i) (.ret false)<|.br (A.cm (A.l h) i) (.ret false)<|.br (A.cm (A.l n)<|A.l j) (.ret false)<|.ak<|.c0 ⟨m,h,n,i,u,v,l,p,o,q,j⟩ 0
def J4(A:aS):aej->LT Bool aej
 | .c0 p a0=>.br (A.bo a0<|A.l p.a1) (.ao (A.and (A.bE 0 a0)<|A.bo a0<|A.l p.a1)<|.br (A.bo (A.n yI p.a1 a0:Int) 0) (.ret false)<|.ao (A.and (A.bE 0 a0)<|A.bo a0<|A.l p.a1)<|.br (A.jD (A.n yI p.a1 a0:Int) 8) (.ret false)<|.ak<|.c0 p<|A.b .add .i64 a0 1)<|.ak<|.c1 ⟨p.a1,p.a2,p.a3,p.a4,p.a5,p.a6,p.a7,p.a8,p.a9,p.jd,p.lq⟩ 0
 | .c1 p b0=>.br (A.bo b0<|A.l p.b2) (.br (A.bo b0<|A.l p.b10) (.ao (A.and (A.bE 0 b0)<|A.bo b0<|A.l p.b10)<|.br (A.n .bool p.b10 b0:Bool) (.ao (A.and (A.bE 0 b0)<|A.bo b0<|A.l p.b2)<|.br (A.not (A.n .bool p.b2 b0:Bool)) (.ret false)<|.ak<|.c1 p<|A.b .add .i64 b0 1)<|.ak<|.c1 p<|A.b .add .i64 b0 1)<|.ret true)<|.ret true
def YP:List Bool->List Bool->Bool
 | c::cs,e::es=>(!c||e)&&YP cs es
 | _,_=>true
theorem Ao:∀{ds:List Int} {i j:List Bool},i.length=ds.length->j.length=ds.length->yH ds i j=(ds.all (λd=>decide (0<=d)&&decide (d<=8))&&YP i j)
 | [],[],[],_,_=>rfl
 | d::ds,c::i,e::j,h1,h2=>by
   rw[yH,Ao (ds:=ds) (by simpa using h1)<|by simpa using h2,jR,YP]
   grind
 | [],_::_,_,h,_=>by cases h
 | [],[],_::_,_,h=>by cases h
 | _::_,[],_,h,_=>by cases h
 | _::_,_::_,[],_,h=>by cases h
theorem alH{w:Int}{l h next:List Bool}{p:List Mode}{q:List Int}(z:h.length<=140737488355328)(y:l.length=h.length):∀(j i:Nat),h.length-i=j->i<=h.length->
  aV (J4 af) (.ak<|.c1 ⟨q,h,next,n,s,g,w,d,u,l,p⟩ i) (YP (l.drop i)<|h.drop i):=by
 intro j
 induction j with
 | zero=>
   intro i x v;have:i=h.length:=by omega
   subst this;rw[aG,J4];refine(ap (by rw[dW,bH];simp)).2 ?_;rw[cY,gx<|by omega];exact .ret _
 | succ j ih=>
   intro i x v;have m:i<h.length:=by omega
   have o:i<l.length:=by omega
   rw[aG,J4];refine(ar (by rw[dW,bH];simp_all)).2 ((ar (by rw[dW,bH];simp_all)).2<|au.2 ⟨cJ o,?_⟩);rw[xx m,xx o,YP];cases hcb:l[i]
   .refine(ap<|(BN o).trans hcb).2 ?_;rw[jQ (i:=i)<|by omega];grind
   .refine(ar<|(BN o).trans hcb).2 (au.2 ⟨cJ m,?_⟩);cases heb:h[i]
    .exact(ar (by rw[BN m,heb];rfl)).2 (.ret _)
    .refine(ap (by rw[BN m,heb];rfl)).2 ?_;rw[jQ (i:=i)<|by omega];grind
theorem alG{w:Int}{q u next:List Bool}{m:List Mode}{l:List Int}{R:Bool}(C:l.length<=140737488355328)(B:aV (J4 af) (.ak<|.c1 ⟨l,u,next,n,s,g,w,d,v,q,m⟩ 0) R):∀(j i:Nat),l.length-i=j->i<=l.length->
  aV (J4 af) (.ak<|.c0 ⟨l,u,next,n,s,g,w,d,v,q,m⟩ i) ((l.drop i).all (λd=>decide (0<=d)&&decide (d<=8))&&R):=by
 intro j
 induction j with
 | zero=>
   intro i y x;have:i=l.length:=by omega
   subst this;rw[aG,J4];refine(ap (by rw[dW,bH];simp)).2 ?_
   simp_all
 | succ j ih=>
   intro i y x;have o:i<l.length:=by omega
   rw[aG,J4];rw[xx o,jR];refine(ar (by rw[dW,bH];simp_all)).2 (au.2 ⟨cJ o,?_⟩);rw[abg o];refine bl (p:=l[i]<0) rfl (λh=>aT ?_<|.ret _) λz=>au.2 ⟨cJ o,bl (p:=8<l[i]) rfl (λh=>aT ?_<|.ret _) λA=>?_⟩
   .grind
   .grind
   .rw[jQ (i:=i)<|by omega,cr<|show 0<=l[i] by omega,cr<|show l[i]<=8 by omega]
    grind
theorem alI{w q:Int}{l i next:List Bool}{j:List Mode}(v:h.length<=140737488355328)(p:i.length<=140737488355328)(x:(l.length:Int)=n):
  aV (J4 af) (ag5 af h i next n s g w d q l j) (pH (n,s,g,w,d,q,l,j) (h,i,next)):=by
 unfold ag5 pH;by_cases m:(h.length:Int)=n
 .refine(ap<|zw m).2 ?_;by_cases o:(i.length:Int)=n
  .refine(ap<|zw o).2 ?_;by_cases u:(next.length:Int)=j.length
   .refine(ap<|zw u).2 (aT ?_<|alG v (alH p (by omega) i.length 0 rfl<|by omega) h.length 0 rfl<|by omega);rw[beq_iff_eq.2 m,beq_iff_eq.2 o,beq_iff_eq.2<|show next.length=j.length by omega,Ao (show l.length=h.length by omega)<|show i.length=h.length by omega];rfl
   .refine(ar<|zx u).2 (aT ?_<|.ret _)
    grind
  .refine(ar<|zx o).2 (aT ?_<|.ret _)
   simp_all
 .refine(ar<|zx m).2 (aT ?_<|.ret _)
  simp_all
def T4:(Mode×aA)->Bool:=λ(x,m)=>pH m x
def RF:(Mode×aA)->Bool:=λ(_,m)=>(m.2.2.2.2.2.2.1.length:Int)==m.1
def avd:aK:=⟨[eT,bD],[.bool],RF,T4,false⟩
def asX:Sd 44 avd:=aX ax dJ sl 48 [⟨44,4,[[2,3,5]]⟩,⟨44,9,[[2,3,6]]⟩] [] (λA ((v,i,x),o,u,z,j,m,l,q,n)=>ag5 A v i x o u z j m l q n) J4 akE (kz (fc func44 fz) sz) (λA y=>match y with |.c0 p C=>⟨44,sl,by kernel_rfl⟩|.c1 p b0=>⟨50,sl,by kernel_rfl⟩) λ(((v,i,x),o,u,z,j,m,l,q,n):Mode×aA) B h=>by
 show aV (J4 af) (ag5 af v i x o u z j m l q n)<|T4 ((v,i,x),o,u,z,j,m,l,q,n);exact alI h.1.1.1 h.1.2.1.1 (by simpa [RF] using B)
structure ajg where(a0 a1 a2 a3 a4 a5 a6 a7:Int)(a8:List Bool)(a9:List Mode)
structure ajh where(b1 b3 b4 b5 b6 b7 b8:Int)(b9:List Bool)(b10:List Mode)(b11:List Int)(b12 b13:List Bool)
inductive ad7 where|c0(p:ajg)|c1(p:ajh)(b0 b2:Int)
noncomputable def akn:ad7->gY
 | .c0 p=>⟨[gW 29 66 [(1,pZ 0),(3,vi p.a0),(4,vi p.a1)] f29 116],[gZ [vi p.a2,vi p.a3,vi p.a4,vi p.a5,vi p.a6,vi p.a7,.sl .bool p.a8,.sl eT p.a9],.a_]⟩
 | .c1 p b0 b2=>⟨[gW 29 66 [(1,pZ 0),(3,vi b0),(4,vi p.b1),(5,pZ 1),(6,vi b2)] f29 14924],[gZ [vi p.b3,vi p.b4,vi p.b5,vi p.b6,vi p.b7,vi p.b8,.sl .bool p.b9,.sl eT p.b10],gZ [.sl yI p.b11,.sl .bool p.b12,.sl .bool p.b13],.a_]⟩
def an9(A:aS)(m:Int)(o:Int)(p:Int)(h:Int)(j:Int)(i:Int)(n:List Bool)(l:List Mode):LT Int ad7:=.ak<|.c0 ⟨A.k TE<|A.k Q9 (1,0),0,m,o,p,h,j,i,n,l⟩
def M_(A:aS):ad7->LT Int ad7
 | .c0 p=>.br (A.bo p.a1<|A.l p.a9) (.ao (A.and (A.bE 0 p.a1)<|A.bo p.a1<|A.l p.a9)<|.ak<|.c1 ⟨p.a1,p.a2,p.a3,p.a4,p.a5,p.a6,p.a7,p.a8,p.a9,(A.n eT p.a9 p.a1:Mode).1,(A.n eT p.a9 p.a1:Mode).2.1,(A.n eT p.a9 p.a1:Mode).2.2⟩ p.a0 0)<|.ret p.a0
 | .c1 p b0 b2=>.br (A.bo b2<|A.l p.b11) (.br (A.bo b2<|A.l p.b12) (.br (A.bo b2 p.b3) (.ao (A.and (A.bE 0 b2)<|A.bo b2<|A.l p.b12)<|.ao (A.and (A.bE 0 b2)<|A.bo b2<|A.l p.b11)<|.ao (A.and (A.bE 0 b2)<|A.bo b2<|A.l p.b11)<|.br (A.jD (A.k Q9 (A.k TL ((A.n .bool p.b12 b2:Bool),(A.n yI p.b11 b2:Int)),(A.n yI p.b11 b2:Int))) 0) (.ak<|.c1 p (A.mx b0<|A.k TE<|A.k Q9 (A.k TL ((A.n .bool p.b12 b2:Bool),(A.n yI p.b11 b2:Int)),(A.n yI p.b11 b2:Int)))<|A.b .add .i64 b2 1)<|.ak<|.c1 p b0<|A.b .add .i64 b2 1)<|.ak<|.c0 ⟨b0,A.b .add .i64 p.b1 1,p.b3,p.b4,p.b5,p.b6,p.b7,p.b8,p.b9,p.b10⟩)<|.ak<|.c0 ⟨b0,A.b .add .i64 p.b1 1,p.b3,p.b4,p.b5,p.b6,p.b7,p.b8,p.b9,p.b10⟩)<|.ak<|.c0 ⟨b0,A.b .add .i64 p.b1 1,p.b3,p.b4,p.b5,p.b6,p.b7,p.b8,p.b9,p.b10⟩
def ZG:TL=tA:=rfl
def ZC:TE=mF:=rfl
def afs:Q9=xc:=funext λ⟨k,d⟩=>by rw[P6.1,P6.2]
theorem apS{w x:Int}{p l next:List Bool}{m:List Mode}{k z:Int}(D:h.length<=140737488355328)(u:af.b .add .i64 k 1=z)(v:∀b,aV (M_ af) (.ak<|.c0 ⟨b,z,n,s,g,w,d,x,p,m⟩)<|F b):
  ∀(j i:Nat) (b:Int),h.length-i=j->i<=h.length->aV (M_ af) (.ak<|.c1 ⟨k,n,s,g,w,d,x,p,m,h,l,next⟩ b i) (F<|(((h.zip l).take n.toNat).drop i).foldl Co b):=by
 intro j
 induction j with
 | zero=>
   intro i b C B;have:i=h.length:=by omega
   subst this;rw[aG,M_];refine(ap (by rw[dW,bH];simp)).2 ?_;rw[D3<|.inr<|.inr<|ai _,u]
   simp_all
 | succ j ih=>
   intro i b C B;have o:i<h.length:=by omega
   rw[aG,M_];refine(ar (by rw[dW,bH];simp_all)).2 ?_;have y:=λb=>ih (i+1) b (by omega) (by omega);by_cases q:i<l.length
   .refine(ar (by rw[dW,bH];simp_all)).2 ?_;by_cases A:(i:Int)<n
    .refine(ar (by rw[Uu];simp_all)).2 (au.2 ⟨cJ<|show i<l.length from q,au.2 ⟨cJ o,au.2 ⟨cJ o,?_⟩⟩⟩);rw[adY o q A,jZ,adS,<-abg o,<-BN q,jQ (i:=i)<|by omega,ZG,afs,ZC];cases hb:af.jD (af.k xc (af.k tA ((af.n .bool l (i:Int):Bool),(af.n (.int .i64) h (i:Int):Int)),(af.n (.int .i64) h (i:Int):Int))) 0
     .exact(ap rfl).2 (y _)
     .exact(ar rfl).2 (y _)
    .refine(ap (by rw[Uu];simp_all)).2 ?_;rw[D3<|.inr<|.inl<|by omega,u];simp_all
   .refine(ap (by rw[dW,bH];simpa using q)).2 ?_;rw[D3<|.inl<|by omega,u];simp_all
theorem apR{w:Int}{l:List Bool}{h:List Mode}(u:h.length<=140737488355328)(o:∀x∈h,x.1.length<=140737488355328):
  ∀(j k:Nat) (b:Int),h.length-k=j->k<=h.length->aV (M_ af) (.ak<|.c0 ⟨b,(k:Int),n,s,g,w,d,m,l,h⟩) ((h.drop k).foldl (BH n.toNat) b):=by
 intro j
 induction j with
 | zero=>
   intro k b p q;have:k=h.length:=by omega
   subst this;rw[aG,M_];refine(ap (by rw[dW,bH];simp)).2 ?_;rw[cY];exact .ret _
 | succ j ih=>
   intro k b p q;have i:k<h.length:=by omega
   rw[aG,M_];refine(ar (by rw[dW,bH];simp_all)).2 (au.2 ⟨cJ i,?_⟩);rw[show(af.n eT h (k:Int):Mode)=h[k] from eO i _,xx i,jZ];exact apS (F:=λb=>(h.drop<|k+1).foldl (BH n.toNat) b) (o _<|cZ i) (jQ<|by omega) (λb=>ih (k+1) b (by omega)<|by omega) h[k].1.length 0 b rfl (by omega)
def apT{w l:Int}(h:Ty.has bD (n,s,g,w,d,l,j,i)):aV (M_ af) (an9 af n s g w d l j i)<|jh (n,s,g,w,d,l,j,i):=by
 unfold an9;exact apR (rE h).c (λx m=>((rE h).C x m).1) i.length 0 _ rfl (by omega)
def OB:aA->Int:=jh
def aum:aK:=.all [bD] [yI] OB
def aix:Sd 29 aum:=fa<|aX ax dJ sl 24 [⟨29,3,[[1,3,4]]⟩,⟨29,7,[[1,3,4,5,6]]⟩] [] (λA (n,q,u,i,l,j,o,m)=>an9 A n q u i l j o m) M_ akn (kz (fc func29 fz) (sc ayV (sc asn (sc asv sz)))) (λA y=>match y with |.c0 p=>⟨35,sl,by kernel_rfl⟩|.c1 p b0 b2=>⟨72,sl,by kernel_rfl⟩) λ(n,q,u,i,l,j,o,m) v h=>apT h
structure ajs where(a1 a2 a3 a4 a5 a6:Int)(a7:List Bool)(a8:List Mode)
inductive aef where|c0(p:ajs)(a0:Int)
noncomputable def akz:aef->gY
 | .c0 p a0=>⟨[gW 18 120 [(1,pZ 0),(3,vi a0)] f18 116],[gZ [vi p.a1,vi p.a2,vi p.a3,vi p.a4,vi p.a5,vi p.a6,.sl .bool p.a7,.sl eT p.a8],.a_]⟩
def aom(A:aS)(h:Int)(o:Int)(p:Int)(l:Int)(n:Int)(m:Int)(j:List Bool)(i:List Mode):LT Int aef:=.br (A.bo h 4) (.ret 70)<|.br (A.jD h 8) (.ret 70)<|.br (A.bo (A.l i) 1) (.ret 70)<|.br (A.jD (A.l i) 4) (.ret 70)<|.br (A.cm (A.l j) h) (.ret 70)<|.br (A.bo (A.k T3 j) 2) (.ret 70)<|.ak<|.c0 ⟨h,o,p,l,n,m,j,i⟩ 0
def Wy(A:aS):aef->LT Int aef
 | .c0 p a0=>.br (A.bo a0<|A.l p.a8) (.ao (A.and (A.bE 0 a0)<|A.bo a0<|A.l p.a8)<|.ao (A.k RF ((A.n eT p.a8 a0:Mode),p.a1,p.a2,p.a3,p.a4,p.a5,p.a6,p.a7,p.a8))<|.br (A.not<|A.k T4 ((A.n eT p.a8 a0:Mode),p.a1,p.a2,p.a3,p.a4,p.a5,p.a6,p.a7,p.a8)) (.ret 70)<|.ak<|.c0 p<|A.b .add .i64 a0 1)<|.br (A.bo p.a5 0) (.ret 70)<|.br (A.jD p.a5 64) (.ret 70)<|.br (A.bo p.a6 0) (.ret 70)<|.br (A.jD p.a6 64) (.ret 70)<|.br (A.bo p.a4<|A.b .add .i64 (A.b .mul .i64 (A.b .mul .i64 16 p.a1) p.a5) 16) (.ret 70)<|.br (A.jD p.a4 1048576) (.ret 70)<|.br (A.bo p.a3<|A.b .add .i64 (A.b .add .i64 (A.b .mul .i64 2 p.a4)<|A.b .mul .i64 2 p.a6) 4) (.ret 70)<|.br (A.jD p.a3 1048576) (.ret 70)<|.br (A.bo p.a2<|A.b .add .i64 (A.b .mul .i64 2 p.a3)<|A.k OB (p.a1,p.a2,p.a3,p.a4,p.a5,p.a6,p.a7,p.a8)) (.ret 70)<|.br (A.jD p.a2 16777216) (.ret 70)<|.ret 0
theorem ahC{w l:Int}{R:Int}(q:4<=n/\n<=8)(v:R=bif qS n s g w d l (jh (n,s,g,w,d,l,j,i)) then 0 else 70):
  aV (Wy af) (.br (af.bo d 0) (.ret 70)<|.br (af.jD d 64) (.ret 70)<|.br (af.bo l 0) (.ret 70)<|.br (af.jD l 64) (.ret 70)<|.br (af.bo w<|af.b .add .i64 (af.b .mul .i64 (af.b .mul .i64 16 n) d) 16) (.ret 70)<|.br (af.jD w 1048576) (.ret 70)<|.br (af.bo g<|af.b .add .i64 (af.b .add .i64 (af.b .mul .i64 2 w)<|af.b .mul .i64 2 l) 4) (.ret 70)<|.br (af.jD g 1048576) (.ret 70)<|.br (af.bo s<|af.b .add .i64 (af.b .mul .i64 2 g)<|af.k OB (n,s,g,w,d,l,j,i)) (.ret 70)<|.br (af.jD s 16777216) (.ret 70)<|.ret 0) R:=by
 have x:=vF (m:=(n,s,g,w,d,l,j,i));have o:∀{p:Prop} [Decidable p],¬p->decide p=false:=λh=>by simp_all
 rw[v];refine bl (p:=d<0) rfl (λh=>aT ?_<|.ret _) λy=>bl (p:=64<d) rfl (λh=>aT ?_<|.ret _) λz=>bl (p:=l<0) rfl (λh=>aT ?_<|.ret _) λA=>bl (p:=64<l) rfl (λh=>aT ?_<|.ret _) λB=>?_
 .rw[qS,o<|by omega];rfl
 .rw[qS,o<|by omega];rfl
 .rw[qS,o<|by omega];rfl
 .rw[qS,o<|by omega];rfl
 have:=y1 (n:=n) (d:=d) q (by omega);rw[adU q<|by omega];refine bl (p:=w<16*n*d+16) rfl (λh=>aT ?_<|.ret _) λC=>bl (p:=1048576<w) rfl (λh=>aT ?_<|.ret _) λD=>?_
 .rw[qS,o<|by omega];rfl
 .rw[qS,o<|by omega];rfl
 rw[aah (by omega)<|by omega];refine bl (p:=g<2*w+2*l+4) rfl (λh=>aT ?_<|.ret _) λE=>bl (p:=1048576<g) rfl (λh=>aT ?_<|.ret _) λF=>?_
 .rw[qS,o<|by omega];rfl
 .rw[qS,o<|by omega];rfl
 rw[show af.k OB (n,s,g,w,d,l,j,i)=jh (n,s,g,w,d,l,j,i) from rfl,U0 (by omega) x];refine bl (p:=s<2*g+jh (n,s,g,w,d,l,j,i)) rfl (λh=>aT ?_<|.ret _) λG=>bl (p:=16777216<s) rfl (λh=>aT ?_<|.ret _) λu=>aT ?_<|.ret _
 .rw[qS,o<|by omega];rfl
 .rw[qS,o<|by omega];rfl
 .rw[qS,cr<|by omega];rfl
theorem afi{w:Int}{l:List Bool}{h:List Mode}(y:h.length<=140737488355328)(x:(l.length:Int)=n)(v:4<=n/\n<=8):∀(j i:Nat),h.length-i=j->i<=h.length->
  aV (Wy af) (.ak<|.c0 ⟨n,s,g,w,d,m,l,h⟩ i) (bif (h.drop i).all (pH (n,s,g,w,d,m,l,h))&&qS n s g w d m (jh (n,s,g,w,d,m,l,h)) then 0 else 70):=by
 intro j
 induction j with
 | zero=>
   intro i u q;have:i=h.length:=by omega
   subst this;rw[aG,Wy];refine(ap (by rw[dW,bH];simp)).2 (ahC v ?_)
   simp_all
 | succ j ih=>
   intro i u q;have o:i<h.length:=by omega
   rw[aG,Wy];refine(ar (by rw[dW,bH];simp_all)).2 (au.2 ⟨cJ o,?_⟩);have e:(af.n eT h (i:Int):Mode)=h[i]:=eO o _;rw[e,xx o,jR];refine au.2 ⟨by show((l.length:Int)==n)=true;simp_all,?_⟩;have p:af.k T4 (h[i],n,s,g,w,d,m,l,h)=pH (n,s,g,w,d,m,l,h) h[i]:=rfl;rw[p];cases pH (n,s,g,w,d,m,l,h) h[i]
   .exact(ar rfl).2 (.ret _)
   .refine(ap rfl).2 ?_;rw[jQ (i:=i)<|by omega,dO]
    grind
theorem afj{w l:Int}(h:Ty.has bD (n,s,g,w,d,l,j,i)):aV (Wy af) (aom af n s g w d l j i) (qH (n,s,g,w,d,l,j,i)):=by
 unfold aom qH dP countB;simp[sZ];refine bl (p:=n<4) rfl (λh=>aT ?_ (.ret _)) λo=>bl (p:=8<n) rfl (λh=>aT ?_ (.ret _)) λq=>bl (p:=(i.length:Int)<1) rfl (λh=>aT ?_ (.ret _)) λu=>bl (p:=4<(i.length:Int)) rfl (λh=>aT ?_ (.ret _)) λv=>?_
 .grind
 .grind
 .grind
 .grind
 by_cases m:(j.length:Int)=n
 .refine(ap (zw m)).2 (?_);refine bl (p:=(j.count true:Int)<2) rfl (λh=>aT ?_ (.ret _)) λx=>aT ?_ (afi (rE h).2.2.1 m (by omega) i.length 0 rfl (by omega))
  all_goals grind
 .refine(ar (zx m)).2 (aT ?_ (.ret _))
  grind
def nZ:aA->Int:=qH
def auT:aK:=.all [bD] [yI] nZ
def Qa:Sd 18 auT:=fa<|aX ax dJ sl 58 [⟨18,4,[[1,3]]⟩] [] (λA (n,q,u,i,l,j,o,m)=>aom A n q u i l j o m) Wy akz (kz (fc func18 fz) (sc aix (sc asW (sc asX sz)))) (λA y=>match y with |.c0 p v=>⟨100,sl,by kernel_rfl⟩) λ(n,q,u,i,l,j,o,m) x h=>afj h
def rhoC:Shelf.Ren:=⟨λx=>match x with|4=>52|n=>n,λx=>match x with|22=>45|4=>4|5=>5|n=>n,λx=>x⟩
def aie:SlLaysK.n4 prog rhoC:=
 {mixed:=by kernel_rfl,f4:=func52.trans (congrArg some (by kernel_rfl)),t4:=Tryz.underlying4,a4:=Tryz.isAgg4,z4:=Tryz.sizeOf4,v4:=Tryz.zeroValue4,t22:=Tryz.underlying45,a22:=Tryz.isAgg45,z22:=Tryz.sizeOf45,v22:=Tryz.zeroValue45,t5:=Tryz.underlying5,i5:=by kernel_rfl}
def nY:List Int->List Int:=λx=>x
def auy:aK:=.all [.slice<|.int .u8] [.slice<|.int .u8] nY
def VB{w:World}{I:Nat->Prop}{x:List Int}{v:Value}(N:bT w I (.slice (.int .u8)) [v] x):Calls prog 52 #[v] w λe j=>∃v,e=.returned v/\j.os=w.os/\j.tape=w.tape/\j.output=w.output/\w.heap.size<=j.heap.size/\(∀b,b<w.heap.size->j.heap[b]? = w.heap[b]?)/\
   ∃G,(∀b,G b->I b\/(w.heap.size<=b/\b<j.heap.size))/\bT j G (.slice (.int .u8)) [v] x:=by
 have hx:x.length<=fX/\∀y∈x,IntKind.u8.has y:=bT.has _ N;obtain⟨a,l,e,P,H,S,W⟩:=eF.1 N;cases e;cases a with
 | none=>
   have F:x=[]:=aY (by have V:l=0:=S rfl;have Q:x.length<=l:=P;omega);subst F;refine(Any.bytes_Clone_nil aie 0 l w).mono ?_
   rintro e j ⟨rfl,rfl⟩
   exact⟨_,rfl,rfl,rfl,rfl,ai _,λ_ _=>rfl,I,λb h=>.inl h,eF.2 ⟨none,0,rfl,ai _,aM _,(λ_=>rfl),λi y h=>by cases h⟩⟩
 | some a=>
   refine(Any.bytes_Clone_at aie a x.length l x w rfl H λi C=>?_).mono ?_
   .obtain⟨b,off,us,O,_,hl,hr,hc⟩:=W i x[i] (KN C);cases O;have E:=(tf.1 hc).1;subst E;have:=hr 0 _ rfl;rw[kI,Jt,KN C];simpa [Ty.size] using this
   .rintro e j ⟨v',rfl,⟨hn,z⟩,u,p⟩
    rcases z with ⟨hz,_⟩|⟨g,n,o,rfl,m,K,q,a3,a5,D⟩
    .exact absurd hz u
    refine⟨_,rfl,p.os,p.tape,p.output,p.size,p.block,λb=>w.heap.size<=b/\b<j.heap.size,λb h=>.inr h,eF.2 ⟨_,n,rfl,q,H,(λh=>by cases h),λi y B=>?_⟩⟩;have B:x[i]? = some y:=B;have C:i<x.length:=(aU.1 B).1;refine⟨g,0,[.int .u8 y],rfl,⟨m,(dy.1 K).1⟩,rfl,?_,tf.2 ⟨rfl,hx.2 y (jl B)⟩⟩;have A:=iU (w:=j) K i 1;have:(o.toList.drop i).take 1=[Value.int .u8 y]:=by
     have J:(o.toList.take (x.length*1))[i]? = some (Value.int .u8 y):=by
      rw[D,c_,B];rfl
     rw[List.getElem?_take_of_lt (by omega)] at J;obtain⟨X,Z⟩:=aU.1 J;rw[xx X,Z];rfl
    rw[this] at A;simpa [Ty.size] using A
def EC:aK.bI prog 52 auy:=by
 refine⟨λw I x j n i _=>?_,λ_ _=>rfl,⟨f52,func52,by kernel_rfl,by kernel_rfl⟩⟩;have⟨l⟩:=j;obtain⟨v,rfl,m⟩:∃v,l=[v]/\mU w I (.slice (.int .u8)) v x:=by
  have h:=i;exact h
 exact VB m
def awM(A:aS)(h:Int)(i:Int):LT Int Empty:=.br (A.bo h 0) (.ret 60)<|.br (A.bo i h) (.ret 60)<|.br (A.jD i 1099511627776) (.ret 60)<|.ret 0
def GI:Span->Int:=λ(h,i)=>(awM af h i).val<|Ty.aR [yI]
def auF:aK:=.all [kv] [yI] GI
def P_:Sd 248 auF:=fa<|aQ ax dJ sl 36 [] (λA (h,i)=>awM A h i)<|kz (fc func248 fz) sz
def t182(A:aS)(j:Int)(h:Int)(l:Int)(i:Int)(n:Int)(m:List Int):LT Int Empty:=.br (A.bo j<|-1) (.ret 110)<|.br (A.ov j 8) (.ret 110)<|.br (A.bo i 0) (.ret 110)<|.br (A.jD i 200) (.ret 110)<|.br (A.cm (A.k GI (h,l)) 0) (.ret 110)<|.br (A.cm (A.k uU (n,m)) 0) (.ret 110)<|.ret 0
def TM:fC->Int:=λ(l,(h,i),j,n,m)=>(t182 af l h i j n m).val<|Ty.aR [yI]
def auC:aK:=.all [iC] [yI] TM
def acF:Sd 294 auC:=fa<|aQ ax dJ sl 69 [] (λA (l,(h,i),j,n,m)=>t182 A l h i j n m)<|kz (fc func294 fz)<|sc Nr<|sc P_ sz
def t171(A:aS)(m:Int)(h:Int)(i:Int)(l:Int)(j:Int)(n:List Int):LT Bool Empty:=.br (A.bq (A.k TM (m,(h,i),l,j,n)) 0) (.br (A.jD j 0) (.br (A.bE j 4095) (.ret<|A.bq (A.b .sub .i64 i h)<|A.k mF j)<|.ret false)<|.ret false)<|.ret false
def ahR:fC->Bool:=λ(l,(h,i),j,n,m)=>(t171 af l h i j n m).val<|Ty.aR [.bool]
def auv:aK:=.all [iC] [.bool] ahR
def asw:Sd 246 auv:=fa<|aQ ax dJ sl 44 [] (λA (l,(h,i),j,n,m)=>t171 A l h i j n m)<|kz (fc func246 fz)<|sc U5<|sc acF sz
structure ajl where(a0:List Int)(a1 a3:Int)
inductive ad9 where|c0(p:ajl)(a2:Int)
noncomputable def akr:ad9->gY
 | .c0 p a2=>⟨[gW 257 19 [(0,.sl yI p.a0),(1,.fn 205 [] [pZ 0]),(7,vi p.a1),(8,vi a2)] f257 52,⟨204,9,.leaf,[.ops (ow f204 6)<|(ow f204 6).toList.drop 2,.code .ret],[],none⟩,⟨154,36,.leaf,[.ops (ow f154 30)<|(ow f154 30).toList.drop 3,.code .ret],[],none⟩],[vZ p.a3,.a_]⟩
def t168(A:aS)(p:Int)(u:Int)(v:Int)(l:Int)(n:Int)(m:Int)(q:List Bool)(o:List Mode)(i:Int)(j:Int)(h:List Int):LT Bool ad9:=.br (A.bo i 0) (.ret false)<|.br (A.jD i 1099494850560) (.ret false)<|.br (A.bo j 0) (.ret false)<|.br (A.jD j 1048576) (.ret false)<|.br (A.jD (A.l h) 8) (.ret false)<|.ak<|.c0 ⟨h,A.l h,l⟩ 0
def ab2(A:aS):ad9->LT Bool ad9
 | .c0 p a2=>.br (A.bo a2 p.a1) (.ao (A.and (A.bE 0 a2)<|A.bo a2<|A.l p.a0)<|.br (A.bo (A.n yI p.a0 a2:Int)<|A.u .neg .i64 p.a3) (.ret<|A.not<|A.ov a2 0)<|.br (A.jD (A.n yI p.a0 a2:Int) p.a3) (.ret<|A.not<|A.ov a2 0)<|.ak<|.c0 p<|A.b .add .i64 a2 1)<|.ret true
def Y6(w x:Int):Bool:=!af.bo x (af.u .neg .i64 w) && !af.jD x w
def zd(w:Int)(c:qB):Bool:=!decide (c.1<0)&&(!decide (1099494850560<c.1)&&(!decide (c.2.1<0)&&(!decide (1048576<c.2.1)&&(!decide (8<(c.2.2.length:Int))&&c.2.2.all (Y6 w)))))
def ayk{l:List Int}{w:Int}(p:l.length<=140737488355328):∀(j i:Nat),l.length-i=j->i<=l.length->aV (ab2 af) (.ak<|.c0 ⟨l,(l.length:Int),w⟩ i) ((l.drop i).all<|Y6 w):=by
 intro j
 induction j with
 | zero=>
   intro i o n;have:i=l.length:=by omega
   subst this;rw[aG,ab2];refine(ap (by rw[bH];simp)).2 ?_;rw[cY];exact .ret _
 | succ j ih=>
   intro i o n;have h:i<l.length:=by omega
   rw[aG,ab2];refine(ar (by rw[bH];simp;omega)).2 (au.2 ⟨cJ h,?_⟩);rw[abg h,xx h,jR,Y6];have m:af.not (af.ov i 0)=false:=by rw[lJ,kW];simp
   rw[m];cases af.bo l[i] (af.u .neg .i64 w)
   .refine(ap rfl).2 ?_;cases af.jD l[i] w
    .refine(ap rfl).2 ?_;rw[jQ (i:=i)<|by omega];exact ih (i+1) (by omega) (by omega)
    .exact(ar rfl).2 (.ret _)
   .exact(ar rfl).2 (.ret _)
def ayl{w o j:Int}{i:List Bool}{h:List Mode}{l:List Int}(p:l.length<=140737488355328):aV (ab2 af) (t168 af n s g w d o i h m j l)<|zd w (m,j,l):=by
 unfold t168 zd;simp only[dW,bi,iA];cases decide (m<0)
 .refine(ap rfl).2 ?_;cases decide (1099494850560<m)
  .refine(ap rfl).2 ?_;cases decide (j<0)
   .refine(ap rfl).2 ?_;cases decide (1048576<j)
    .refine(ap rfl).2 ?_;cases decide (8<(l.length:Int))
     .exact(ap rfl).2 (ayk p l.length 0 rfl<|by omega)
     .exact(ar rfl).2 (.ret _)
    .exact(ar rfl).2 (.ret _)
   .exact(ar rfl).2 (.ret _)
  .exact(ar rfl).2 (.ret _)
 .exact(ar rfl).2 (.ret _)
def afy{w p o:Int}{l:List Int}(h:Ty.lC [bD,xg] ((n,s,g,w,d,p,j,i),o,m,l)):l.length<=140737488355328:=h.d
def YU(x:aA×qB):Int:=bif dP x.1 then(bif zd x.1.2.2.2.1 x.2 then 0 else 130) else 70
def GH:(aA×qB)->Bool:=λ(m,c)=>zd m.2.2.2.1 c
def aut:aK:=.all [bD,xg] [.bool] GH
def acD:Sd 154 aut:=fa<|aX ax dJ sl 95 [⟨257,2,[[0,1,7,8],[],[]]⟩] [] (λA ((o,x,z,i,m,l,v,n),j,u,q)=>t168 A o x z i m l v n j u q) ab2 akr (kz (fc func154 (fc func204 (fc func205 (fc func257 fz)))) sz) (λA y=>match y with |.c0 p a2=>⟨61,sl,by kernel_rfl⟩) λ((o,x,z,i,m,l,v,n),j,u,q) B h=>ayl<|afy h
def an8(A:aS)(m:Int)(o:Int)(p:Int)(h:Int)(j:Int)(i:Int)(n:List Bool)(l:List Mode)(q:Int)(v:Int)(u:List Int):LT Int Empty:=.br (A.cm (A.k jN (m,o,p,h,j,i,n,l)) 0) (.ret<|A.k jN (m,o,p,h,j,i,n,l))<|.br (A.not<|A.k GH ((m,o,p,h,j,i,n,l),q,v,u)) (.ret 130)<|.ret 0
def uw:(aA×qB)->Int:=λ((n,u,v,h,l,j,q,m),i,p,o)=>(an8 af n u v h l j q m i p o).val<|Ty.aR [yI]
def auk:aK:=.all [bD,xg] [yI] uw
def P8:Sd 198 auk:=fa<|aQ ax dJ sl 40 [] (λA ((n,u,v,h,l,j,q,m),i,p,o)=>an8 A n u v h l j q m i p o)<|kz (fc func198 fz)<|sc EB<|sc acD sz
def t148(A:aS)(o:Int)(v:Int)(j:Int)(l:Int)(m:Int)(i:Int)(u:List Bool)(n:List Mode)(h:Int)(q:Int)(p:List Int):LT Int Empty:=.ret<|A.b .add .i64 h<|A.b .add .i64 j i
def OA:(aA×qB)->Int:=λ((n,u,v,h,l,j,q,m),i,p,o)=>(t148 af n u v h l j q m i p o).val<|Ty.aR [yI]
def aul:aK:=.all [bD,xg] [yI] OA
def aiw:Sd 199 aul:=fa<|aQ ax dJ sl 24 [] (λA ((n,u,v,h,l,j,q,m),i,p,o)=>t148 A n u v h l j q m i p o)<|kz (fc func199 fz) sz
def t116(A:aS)(n:Int)(u:Int)(v:Int)(h:Int)(l:Int)(j:Int)(q:List Bool)(m:List Mode)(i:Int)(p:Int)(o:List Int):LT (Span×Int) Empty:=.br (A.cm (A.k uw ((n,u,v,h,l,j,q,m),i,p,o)) 0) (.ret ((0,0),A.k uw ((n,u,v,h,l,j,q,m),i,p,o)))<|.ret ((A.mx (A.b .sub .i64 (A.k OA ((n,u,v,h,l,j,q,m),i,p,o)) h) 0,A.b .add .i64 (A.b .add .i64 (A.k OA ((n,u,v,h,l,j,q,m),i,p,o)) h) 1),0)
def zB:(aA×qB)->(Span×Int):=λ((n,u,v,h,l,j,q,m),i,p,o)=>(t116 af n u v h l j q m i p o).val<|Ty.aR [kv,yI]
def at7:aK:=.all [bD,xg] [kv,yI] zB
def aiu:Sd 147 at7:=fa<|aQ ax dJ sl 52 [] (λA ((n,u,v,h,l,j,q,m),i,p,o)=>t116 A n u v h l j q m i p o)<|kz (fc func147 fz)<|sc P8<|sc aiw sz
def ZD{m:aA}{c:qB}:uw (m,c)=YU (m,c):=by
 have⟨n,s,g,w,d,p,i,h⟩:=m;have⟨o,j,l⟩:=c;simp only[uw,an8,LT.val,b_,Bn,qH,YU,lJ];rw[show GH ((n,s,g,w,d,p,i,h),o,j,l)=zd w (o,j,l) from rfl];cases dP (n,s,g,w,d,p,i,h)<;>cases zd w (o,j,l)<;>rfl
def wrap_i64(n:Int):IntKind.i64.wrap n=if n%18446744073709551616 >= 9223372036854775808 then n%18446744073709551616-18446744073709551616 else n%18446744073709551616:=by
 simp[IntKind.wrap,IntKind.signed,IntKind.bits]
theorem aaY{w l:Int}(h:dP (n,s,g,w,d,l,j,i)=true):(4<=n/\n<=8)/\((1:Int)<=i.length/\(i.length:Int)<=4)/\(j.length:Int)=n/\i.all (pH (n,s,g,w,d,l,j,i))=true/\(0<=d/\d<=64/\0<=l/\l<=64/\16<=w/\w<=1048576/\36<=g/\g<=1048576/\72<=s/\s<=16777216):=by
 simp[dP,countB,sZ,qS,fZ,uR] at h;have⟨⟨⟨⟨⟨o,p⟩,q⟩,_⟩,u⟩,v⟩:=h;have:=y1 o (d:=d) (by omega);have x:=vF (m:=(n,s,g,w,d,l,j,i))
 grind
theorem afo{b:Int×List Int}(h:(uq b).2=true):Ah (uq b).1=true:=by
 rw[uq] at h ⊢;cases hp:((wm (b,zS)).2 != 0||(wm (b,zS)).1.1==2)
 .rw[Bool.or_eq_false_iff] at hp;have i:(wm (b,zS)).2=0:=by simp_all
  exact af8 i
 simp_all
theorem aac{f:sS}(h:Ah f=true):0<=f.2.2.2.1/\f.2.2.2.1<=7/\0<=f.2.2.1.2.1/\f.2.2.1.2.1<=7:=by
 simp[Ah,fZ] at h;have i:=acW.1 h.1.1.1
 grind
abbrev eqB(b:Bool):Prop:=b=b
section
variable {R Y:Type} {step:Y->LT R Y} {t:LT R Y} {r:R}
end
theorem FT{b:Bool}{x y:α}(h:b=false):y=bif b then x else y:=by simp_all
theorem FN[Decidable p]{b:Bool}(h:¬p):(decide p&&b)=false:=by simp_all
theorem mq[Decidable p]{b:Bool}(h:p):(decide p&&b)=b:=by simp_all
def Uv{l:List α}{i:Nat}:af.bo i (af.l l)=decide (i<l.length):=bH
def awW(A:aS)(n:Int)(h:Int)(i:Int):LT Bool Empty:=.br (A.ov n h) (.ret<|A.bE n i)<|.ret false
def vz:(Int×Int×Int)->Bool:=λ(n,h,i)=>(awW af n h i).val<|Ty.aR [.bool]
def avh:aK:=.all [yI,yI,yI] [.bool] vz
def Qc:Sd 180 avh:=fa<|aQ ax dJ sl 22 [] (λA (n,h,i)=>awW A n h i)<|kz (fc func180 fz) sz
structure ajt where(a0:List iE)(a1:Int)(a3:Bool)
inductive aeh where|c0(p:ajt)(a2:Int)
noncomputable def akB:aeh->gY
 | .c0 p a2=>⟨[gW 283 19 [(0,.sl kj p.a0),(1,.fn 232 [] []),(7,vi p.a1),(8,vi a2)] f283 52,⟨233,9,.leaf,[.ops (ow f233 6)<|(ow f233 6).toList.drop 2,.code .ret],[],none⟩,E8 182 43 [(37,vb p.a3)] f182 28 37],[.a_]⟩
def aoq(A:aS)(c:iG):LT Int aeh:=.br (A.not<|A.k vz (A.l c.2.2.1,4,8)) (.ret 120)<|.br (A.not<|A.k vz (c.1,0,A.b .sub .i64 (A.l c.2.2.1) 1)) (.ret 120)<|.br (A.jD (A.l c.2.1) 8) (.ret 120)<|.br (A.not<|A.k vz (c.2.2.2.1,0,4)) (.ret 120)<|.br (A.not<|A.k vz (c.2.2.2.2,-1,3)) (.ret 120)<|.ak<|.c0 ⟨c.2.2.1,A.l c.2.2.1,false⟩ 0
def ab5(A:aS):aeh->LT Int aeh
 | .c0 p a2=>.br (A.bo a2 p.a1) (.ao (A.and (A.bE 0 a2)<|A.bo a2<|A.l p.a0)<|.br (A.jD (A.l (A.n kj p.a0 a2:iE).1) 8) (.br p.a3 (.ret 120)<|.br (A.ov a2 0) (.ret 120)<|.ret 0)<|.br (A.not<|A.k vz ((A.n kj p.a0 a2:iE).2,0,255)) (.br p.a3 (.ret 120)<|.br (A.ov a2 0) (.ret 120)<|.ret 0)<|.ak<|.c0 p<|A.b .add .i64 a2 1)<|.br p.a3 (.ret 120)<|.ret 0
def axT:vz=kP:=rfl
def Pm(m:iE):Bool:=decide (¬8<(m.1.length:Int))&&decide (0<=m.2/\m.2<=255)
def iO(c:iG):Bool:=decide (4<=(c.2.2.1.length:Int)/\(c.2.2.1.length:Int)<=8)&&(decide (0<=c.1/\c.1<=(c.2.2.1.length:Int)-1)&&(decide (¬8<(c.2.1.length:Int))&&(decide (0<=c.2.2.2.1/\c.2.2.2.1<=4)&&(decide (-1<=c.2.2.2.2/\c.2.2.2.2<=3)&&c.2.2.1.all Pm))))
def z_(c:iG):Int:=bif iO c then 0 else 120
variable{c:iG}
theorem Kx:z_ c=0↔iO c=true:=by unfold z_;grind
theorem ayv{l:List iE}(v:l.length<=140737488355328):∀(j i:Nat),l.length-i=j->i<=l.length->aV (ab5 af) (.ak<|.c0 ⟨l,(l.length:Int),false⟩ i) (bif (l.drop i).all Pm then 0 else 120):=by
 intro j
 induction j with
 | zero=>
   intro i u q;have:i=l.length:=by omega
   subst this;rw[aG,ab5];refine(ap (by rw[bH];simp)).2 ((ap rfl).2 ?_);rw[cY];exact .ret _
 | succ j ih=>
   intro i u q;have m:i<l.length:=by omega
   rw[aG,ab5];refine(ar (by rw[bH];simp_all)).2 (au.2 ⟨cJ m,?_⟩);rw[show(af.n kj l (i:Int):iE)=l[i] from eO m _,xx m,jR,Pm,axT];refine bl (p:=8<(l[i].1.length:Int)) rfl (λh=>?_) λn=>jo (λh=>?_) λo=>?_
   .rw[gw<|show ¬¬8<(l[i].1.length:Int) by omega];exact(ap rfl).2 ((ar<|by rfl).2<|.ret _)
   .rw[gw h,dU];exact(ap rfl).2 ((ar<|by rfl).2<|.ret _)
   .rw[cr n,cr o,jQ (i:=i)<|by omega]
    grind
def afz(h:Ty.has rc c):c.2.1.length<=140737488355328/\c.2.2.1.length<=140737488355328/\∀x∈c.2.2.1,x.1.length<=140737488355328:=by
 have⟨_,j,i,_⟩:=h;exact⟨j.1,i.1,λx l=>(i.2 x l).1.1⟩
def ax_(h:Ty.has rc c):aV (ab5 af) (aoq af c)<|z_ c:=by
 have o:=(afz h).2.1;unfold aoq z_;simp only[dW];have q:af.b .sub .i64 (c.2.2.1.length:Int) 1=(c.2.2.1.length:Int)-1:=by rw[gX,lZ (by omega)<|by omega]
 rw[q];refine jo (λh=>?_) λi=>jo (λh=>?_) λj=>bl (p:=8<(c.2.1.length:Int)) rfl (λh=>?_) λl=>jo (λh=>?_) λm=>jo (λh=>?_) λn=>?_
 .exact aT (FT<|by rw[iO,FN h])<|.ret _
 .exact aT (FT<|by rw[iO,mq i,FN h])<|.ret _
 .exact aT (FT<|by rw[iO,mq i,mq j,FN<|λk=>k h])<|.ret _
 .exact aT (FT<|by rw[iO,mq i,mq j,mq l,FN h])<|.ret _
 .exact aT (FT<|by rw[iO,mq i,mq j,mq l,mq m,FN h])<|.ret _
 .rw[iO,mq i,mq j,mq l,mq m,mq n];exact ayv o c.2.2.1.length 0 rfl (by omega)
def rA:iG->Int:=z_
def au0:aK:=.all [rc] [yI] rA
def Lb:Sd 182 au0:=fa<|aX ax dJ sl 78 [⟨283,2,[[0,1,7,8],[],[37]]⟩] [] (λA c=>aoq A c) ab5 akB (kz (fc func182 (fc func232 (fc func233 (fc func283 fz)))) (sc Qc sz)) (λA y=>match y with |.c0 p a2=>⟨68,sl,by kernel_rfl⟩) λc i h=>ax_ h
structure ajB where(a0:Int)(a2:iG)(a3 a4 a5:Int)
inductive Yv where|c0(p:ajB)(a1:Int)(a6:List iE)
noncomputable def akH:Yv->gY
 | .c0 p a1 h=>⟨[gW 185 44 [(1,pZ 0),(2,pZ 1),(5,.own 2),(22,vi p.a0),(23,vi a1)] f185 500],[dZ rc p.a2,gZ [vi p.a3,.fG true,.fG true,vi p.a4,vi p.a5],aZ kj h,.a_]⟩
abbrev ac_(A:aS)(c:iG):=(A.spl (A.r (A.l c.2.2.1) (Ty.gy kj:iE)) 0<|A.s c.2.2.1 0<|A.mn (A.l c.2.2.1)<|A.l<|A.r (A.l c.2.2.1) (Ty.gy kj:iE))
def aoE(A:aS)(c:iG):LT (iG×Int) Yv:=.br (A.cm (A.k rA c) 0) (.ret ((0,([]:List Int),([]:List iE),0,0),A.k rA c))<|.ao (A.and (A.bq (A.l c.2.2.1)<|A.l c.2.2.1)<|A.and (A.bE 0<|A.l c.2.2.1)<|A.bE (A.l c.2.2.1) 4398046511104)<|.ak<|.c0 ⟨A.l<|ac_ A c,c,0,0,0⟩ 0<|ac_ A c
def ab7(A:aS):Yv->LT (iG×Int) Yv
 | .c0 p a1 h=>.br (A.bo a1 p.a0) (.ao (A.and (A.bE 0 a1)<|A.bo a1<|A.l h)<|.ao (A.and (A.bE 0 a1)<|A.bo a1<|A.l h)<|.ak<|.c0 p (A.b .add .i64 a1 1)<|A.set h a1 (A.k nY (A.n kj h a1:iE).1,(A.n kj h a1:iE).2))<|.ret ((p.a2.1,A.k nY p.a2.2.1,h,p.a2.2.2.2),0)
def E2:iG:=(0,([]:List Int),([]:List iE),0,0)
def MB(c:iG):iG×Int:=bif iO c then(c,0) else(E2,120)
theorem ayy{L q:Int}{l:List iE}(x:l.length<=140737488355328)(n:L=(l.length:Int)):∀(j i:Nat),l.length-i=j->i<=l.length->aV (ab7 af) (.ak<|.c0 ⟨L,c,q,u,v⟩ i l) ((c.1,c.2.1,l,c.2.2.2),0):=by
 subst n;intro j
 induction j with
 | zero=>
   intro i p o;have:i=l.length:=by omega
   subst this;rw[aG,ab7];exact(ap (by rw[bH];simp)).2 (.ret _)
 | succ j ih=>
   intro i p o;have h:i<l.length:=by omega
   rw[aG,ab7];refine(ar (by rw[bH];simp_all)).2 (au.2 ⟨cJ h,au.2 ⟨cJ h,?_⟩⟩);have e:(af.n kj l (i:Int):iE)=l[i]:=eO h _;have m:af.set l i (af.k nY (af.n kj l (i:Int):iE).1,(af.n kj l (i:Int):iE).2)=l:=by
    rw[e];show l.set (i:Int).toNat l[i]=l
    simp_all
   rw[m,jQ (i:=i)<|by omega]
   grind
def Nt{l:List α}{d:α}:af.spl (af.r (af.l l) d) 0 (af.s l 0<|af.mn (af.l l)<|af.l<|af.r (af.l l) d)=l:=by
 simp[nU,uK,jc,mZ,dW]
theorem arK:aV (ab7 af) (aoE af c)<|MB c:=by
 unfold aoE ac_ MB;rw[show af.k rA c=z_ c from rfl,z_];cases hc:iO c
 .exact(ar rfl).2 (.ret _)
 .refine(ap rfl).2 ?_;simp[iO,fZ,uR] at hc;have h:af.and (af.bq (af.l c.c)<|af.l c.c) (af.and (af.bE 0<|af.l c.c)<|af.bE (af.l c.c) 4398046511104)=true:=by
   rw[dW,bg,aB,aB,bu,bu];grind
  refine au.2 ⟨h,?_⟩;exact u9 (congrArg (λz:List iE=>LT.ak<|Yv.c0 ⟨af.l z,c,0,0,0⟩ 0 z) Nt)<|ayy (by omega) rfl c.c.length 0 rfl (by omega)
def oB:iG->(iG×Int):=MB
def avj:aK:=.all [rc] [rc,yI] oB
def acH:Sd 185 avj:=fa<|aX ax dJ sl 50 [⟨185,7,[[1,2,5,22,23]]⟩] [] (λA c=>aoE A c) ab7 akH (kz (fc func185 fz) (sc EC (sc Lb sz))) (λA y=>match y with |.c0 p a1 i=>⟨38,sl,by kernel_rfl⟩) λc j h=>arK
def dx{b:Int}:af.bq a b=decide (a=b):=by rfl
structure ajA where(a0 a2:Int)(a3:List Int)(a4:iG)(a5 a6 a7:Int)(a9:iG)(jd lq a12:Int)
inductive Yu where|c0(p:ajA)(a1:Int)(a8:List iE)
noncomputable def akF:Yu->gY
 | .c0 p a1 a8=>⟨[gW 185 44 [(1,pZ 0),(2,pZ 1),(5,.own 2),(22,vi p.a0),(23,vi a1)] f185 500,E8 240 42 [(1,vi p.a2),(2,.sl yU p.a3),(3,pZ 3),(6,pZ 4)] f240 6 1],[dZ rc p.a4,gZ [vi p.a5,.fG true,.fG true,vi p.a6,vi p.a7],aZ kj a8,dZ rc p.a9,gZ [vi p.jd,.fG true,.fG true,vi p.lq,vi p.a12],.a_]⟩
abbrev ac9(A:aS)(c:iG):=(A.spl (A.r (A.l c.2.2.1) (Ty.gy kj:iE)) 0<|A.s c.2.2.1 0<|A.mn (A.l c.2.2.1)<|A.l<|A.r (A.l c.2.2.1) (Ty.gy kj:iE))
def aoC(A:aS)(c:iG)(i:Int)(h:List Int):LT (iG×Int) Yu:=.br (A.cm (A.k rA c) 0) (.br (A.cm (A.k rA c) 0) (.ret ((0,([]:List Int),([]:List iE),0,0),A.k rA c))<|.br (A.not<|A.k vz (i,0,A.b .sub .i64 (A.l c.2.2.1) 1)) (.ret ((0,([]:List Int),([]:List iE),0,0),2))<|.br (A.jD (A.l h) 8) (.ret ((0,([]:List Int),([]:List iE),0,0),3))<|.bY 37 "cni.go:107")<|.ao (A.and (A.bq (A.l c.2.2.1)<|A.l c.2.2.1)<|A.and (A.bE 0<|A.l c.2.2.1)<|A.bE (A.l c.2.2.1) 4398046511104)<|.ak<|.c0 ⟨A.l<|ac9 A c,i,h,c,0,0,0,c,0,0,0⟩ 0<|ac9 A c
def WA(A:aS):Yu->LT (iG×Int) Yu
 | .c0 p a1 a8=>.br (A.bo a1 p.a0) (.ao (A.and (A.bE 0 a1)<|A.bo a1<|A.l a8)<|.ao (A.and (A.bE 0 a1)<|A.bo a1<|A.l a8)<|.ak<|.c0 p (A.b .add .i64 a1 1)<|A.set a8 a1 (A.k nY (A.n kj a8 a1:iE).1,(A.n kj a8 a1:iE).2))<|.br (A.not<|A.k vz (p.a2,0,A.b .sub .i64 (A.l p.a9.2.2.1) 1)) (.ret ((0,([]:List Int),([]:List iE),0,0),2))<|.br (A.jD (A.l p.a3) 8) (.ret ((0,([]:List Int),([]:List iE),0,0),3))<|.ao (A.and (A.bE 0 p.a2)<|A.bo p.a2<|A.l a8)<|.ret ((p.a4.1,A.k nY p.a4.2.1,A.set a8 p.a2 (A.k nY p.a3,0),p.a4.2.2.2),0)
def tq(c:iG)(h:Int)(i:List Int):iG×Int:=
 bif iO c then(bif decide (0<=h/\h<=(c.2.2.1.length:Int)-1) then(bif decide (8<(i.length:Int)) then(E2,3) else((c.1,c.2.1,c.2.2.1.set h.toNat (i,0),c.2.2.2),0)) else(E2,2)) else(E2,120)
def ayc:iG×Int×List Int->iG×Int:=λ(c,i,h)=>tq c i h
theorem LM(h:iO c=true):4<=c.2.2.1.length/\c.2.2.1.length<=8/\c.2.1.length<=8/\∀x∈c.2.2.1,x.1.length<=8/\0<=x.2/\x.2<=255:=by
 simp[iO,fZ,cd,Pm] at h
 grind
theorem Pw(h:iO c=true):af.and (af.bq (af.l c.2.2.1)<|af.l c.2.2.1) (af.and (af.bE 0<|af.l c.2.2.1)<|af.bE (af.l c.2.2.1) 4398046511104)=true:=by
 have:=LM h;rw[dW,bg,aB,aB,bu,bu];grind
theorem P4{l:List iE}{i:Nat}(h:i<l.length):af.set l i (af.k nY (af.n kj l (i:Int):iE).1,(af.n kj l (i:Int):iE).2)=l:=by
 rw[show(af.n kj l (i:Int):iE)=l[i] from eO h _];show l.set (i:Int).toNat l[i]=l
 simp_all
theorem aya{L l o p q:Int}{R:iG×Int}(B:c.2.2.1.length<=8)(x:L=(c.2.2.1.length:Int))(y:aV (WA af) (.ak<|.c0 ⟨L,l,h,c,n,o,p,c,q,u,v⟩ (c.2.2.1.length:Int) c.2.2.1) R):
  ∀(j i:Nat),c.2.2.1.length-i=j->i<=c.2.2.1.length->aV (WA af) (.ak<|.c0 ⟨L,l,h,c,n,o,p,c,q,u,v⟩ i c.2.2.1) R:=by
 subst x;intro j
 induction j with
 | zero=>
   grind
 | succ j ih=>
   intro i A z;have m:i<c.2.2.1.length:=by omega
   rw[aG,WA];refine(ar (by rw[bH];simp_all)).2 (au.2 ⟨cJ m,au.2 ⟨cJ m,?_⟩⟩);rw[P4 m,jQ (i:=i)<|by omega]
   grind
theorem ayb{j:Int}{i:List Int}:aV (WA af) (aoC af c j i)<|tq c j i:=by
 unfold aoC ac9 tq;rw[show af.k rA c=z_ c from rfl,z_];cases hc:iO c
 .exact(ar rfl).2 ((ar rfl).2<|.ret _)
 .have⟨q,m,_,_⟩:=LM hc;refine(ap rfl).2 (au.2 ⟨Pw hc,u9 (congrArg (λz:List iE=>LT.ak<|Yu.c0 ⟨af.l z,j,i,c,0,0,0,c,0,0,0⟩ 0 z) Nt)<|aya m rfl ?_ c.2.2.1.length 0 rfl<|by omega⟩);rw[aG,WA];have o:af.b .sub .i64 (c.2.2.1.length:Int) 1=(c.2.2.1.length:Int)-1:=by rw[gX,lZ (by omega)<|by omega]
  refine(ap (by rw[bH];simp)).2 (?_);simp only[dW,o];refine jo (λh=>?_) λl=>bl (p:=8<(i.length:Int)) rfl (λh=>?_) λn=>au.2 ⟨?_,?_⟩
  .rw[gw h];exact .ret _
  .rw[cr l,cr h];exact .ret _
  .rw[aB,bi,bu];grind
  .rw[cr l,gw n];exact .ret _
def Ee:(iG×Int×List Int)->(iG×Int):=ayc
def avf:aK:=.all [rc,yI,yB] [rc,yI] Ee
def aiH:Sd 240 avf:=fa<|aX ax dJ sl 89 [⟨185,7,[[1,2,5,22,23],[1,2,3,6]]⟩] [] (λA (c,j,i)=>aoC A c j i) WA akF (kz (fc func240 (fc func185 fz)) (sc EC (sc Lb (sc Qc sz)))) (λA y=>match y with |.c0 p a1 l=>⟨86,sl,by kernel_rfl⟩) λ(c,j,i) m h=>ayb
structure aju where(a0 a1 a2 a3 a4 a5 a6 a7:Int)
structure ajv where(b0:Int)(b2:iG)(b3 b4 b5 b7 b8 b9:Int)
structure ajw where(c0 c2 c3 c4 c5:Int)(c6:List Int)(c7 c8:Int)
inductive Yt where|c0(p:aju)|c1(p:ajv)(b1:Int)(b6:List iE)|c2(p:ajw)(c1:Int)(c9:List iE)
noncomputable def akC:Yt->gY
 | .c0 p=>⟨[gW 151 42 [(2,pZ 0),(4,pZ 1),(18,vi p.a0),(19,vi p.a1)] f151 244],[gZ [vi p.a2,.fG true,.fG true,vi p.a3,vi p.a4],gZ [vi p.a5,.fG true,.fG true,vi p.a6,vi p.a7],.a_]⟩
 | .c1 p b1 h=>⟨[gW 185 44 [(1,pZ 0),(2,pZ 1),(5,.own 2),(22,vi p.b0),(23,vi b1)] f185 500,E8 151 42 [(2,pZ 3)] f151 6 1],[dZ rc p.b2,gZ [vi p.b3,.fG true,.fG true,vi p.b4,vi p.b5],aZ kj h,gZ [vi p.b7,.fG true,.fG true,vi p.b8,vi p.b9],.a_]⟩
 | .c2 p c1 c9=>⟨[gW 151 42 [(2,pZ 0),(4,pZ 1),(18,vi p.c0),(19,vi c1)] f151 244],[gZ [vi p.c2,.fG true,.fG true,vi p.c3,vi p.c4],gZ [vi p.c5,.sl yU p.c6,.own 2,vi p.c7,vi p.c8],aZ kj c9,.a_]⟩
abbrev ac8(A:aS)(c:iG):=(A.spl (A.r (A.l c.2.2.1) (Ty.gy kj:iE)) 0<|A.s c.2.2.1 0<|A.mn (A.l c.2.2.1)<|A.l<|A.r (A.l c.2.2.1) (Ty.gy kj:iE))
def aoz(A:aS)(c:iG):LT (iG×Int) Yt:=.br (A.cm (A.k rA c) 0) (.br (A.cm (A.k rA c) 0) (.ret ((0,([]:List Int),([]:List iE),0,0),A.k rA c))<|.ak<|.c0 ⟨0,0,0,0,0,0,0,0⟩)<|.ao (A.and (A.bq (A.l c.2.2.1)<|A.l c.2.2.1)<|A.and (A.bE 0<|A.l c.2.2.1)<|A.bE (A.l c.2.2.1) 4398046511104)<|.ak<|.c1 ⟨A.l<|ac8 A c,c,0,0,0,0,0,0⟩ 0<|ac8 A c
def Nc(A:aS):Yt->LT (iG×Int) Yt
 | .c0 p=>.br (A.bo p.a1 p.a0) (.bY 37 "cni.go:118")<|.ret ((p.a5,([]:List Int),([]:List iE),A.mx (A.b .sub .i64 p.a6 1) 0,p.a7),0)
 | .c1 p b1 h=>.br (A.bo b1 p.b0) (.ao (A.and (A.bE 0 b1)<|A.bo b1<|A.l h)<|.ao (A.and (A.bE 0 b1)<|A.bo b1<|A.l h)<|.ak<|.c1 p (A.b .add .i64 b1 1)<|A.set h b1 (A.k nY (A.n kj h b1:iE).1,(A.n kj h b1:iE).2))<|.ak<|.c2 ⟨A.l h,p.b7,p.b8,p.b9,p.b2.1,A.k nY p.b2.2.1,p.b2.2.2.2.1,p.b2.2.2.2.2⟩ 0 h
 | .c2 p c1 c9=>.br (A.bo c1 p.c0) (.ao (A.and (A.bE 0 c1)<|A.bo c1<|A.l c9)<|.ao (A.and (A.bE 0 c1)<|A.bo c1<|A.l c9)<|.ak<|.c2 p (A.b .add .i64 c1 1)<|A.set c9 c1 ((A.n kj c9 c1:iE).1,A.mn (A.b .add .i64 (A.n kj c9 c1:iE).2 1) 255))<|.ret ((p.c5,p.c6,c9,A.mx (A.b .sub .i64 p.c7 1) 0,p.c8),0)
def LB(m:iE):iE:=(m.1,af.mn (af.b .add .i64 m.2 1) 255)
def JZ(c:iG):iG×Int:=bif iO c then((c.1,c.2.1,c.2.2.1.map LB,af.mx (af.b .sub .i64 c.2.2.2.1 1) 0,c.2.2.2.2),0) else(E2,120)
theorem aj8{f:iE->iE}{l:List iE}{i:Nat}(m:i<l.length):(af.n kj ((l.take i).map f++l.drop i) (i:Int):iE)=l[i]/\af.set ((l.take i).map f++l.drop i) i (f l[i])=(l.take<|i+1).map f++l.drop (i+1):=by
 have h:i<((l.take i).map f++l.drop i).length:=by grind
 have j:((l.take i).map f).length=i:=by grind
 constructor
 .refine(eO h _).trans ?_
  simp_all
 .show List.set _ (i:Int).toNat _=_;rw[AT,List.set_append_right _ _ (by rw[j];exact ai _),j,mO,xx m,mY,cn m,gk,fe];rfl
theorem ayF{L l o p q:Int}{R:iG×Int}(z:c.2.2.1.length<=8)(u:L=(c.2.2.1.length:Int))(v:aV (Nc af) (.ak<|.c1 ⟨L,c,l,m,n,o,p,q⟩ (c.2.2.1.length:Int) c.2.2.1) R):
  ∀(j i:Nat),c.2.2.1.length-i=j->i<=c.2.2.1.length->aV (Nc af) (.ak<|.c1 ⟨L,c,l,m,n,o,p,q⟩ i c.2.2.1) R:=by
 subst u;intro j
 induction j with
 | zero=>
   grind
 | succ j ih=>
   intro i y x;have h:i<c.2.2.1.length:=by omega
   rw[aG,Nc];refine(ar (by rw[bH];simp_all)).2 (au.2 ⟨cJ h,au.2 ⟨cJ h,?_⟩⟩);rw[P4 h,jQ (i:=i)<|by omega]
   grind
theorem ayG{l:List iE}{L x y id h:Int}{out:List Int}(z:l.length<=8)(p:L=(l.length:Int)):∀(j i:Nat),l.length-i=j->i<=l.length->
  aV (Nc af) (.ak<|.c2 ⟨L,v,x,y,id,out,h,m⟩ i<|(l.take i).map LB++l.drop i) ((id,out,l.map LB,af.mx (af.b .sub .i64 h 1) 0,m),0):=by
 subst p;intro j
 induction j with
 | zero=>
   intro i u q;have:i=l.length:=by omega
   subst this;rw[aG,Nc,oo,cY,aL];exact(ap (by rw[bH];simp)).2 (.ret _)
 | succ j ih=>
   intro i u q;have n:i<l.length:=by omega
   have o:i<((l.take i).map LB++l.drop i).length:=by simp_all
   have⟨a1,a2⟩:=aj8 (f:=LB) n;rw[aG,Nc];refine(ar (by rw[bH];simp_all)).2 (au.2 ⟨cJ o,au.2 ⟨cJ o,?_⟩⟩);rw[a1,jQ (i:=i)<|by omega];rw[show(l[i].1,af.mn (af.b .add .i64 l[i].2 1) 255)=LB l[i] from rfl,a2]
   grind
def ayH:aV (Nc af) (aoz af c)<|JZ c:=by
 unfold aoz ac8 JZ;rw[show af.k rA c=z_ c from rfl,z_];cases hc:iO c
 .exact(ar rfl).2 ((ar rfl).2<|.ret _)
 .have⟨i,h,_,_⟩:=LM hc;refine(ap rfl).2 (au.2 ⟨Pw hc,u9 (congrArg (λz:List iE=>LT.ak<|Yt.c1 ⟨af.l z,c,0,0,0,0,0,0⟩ 0 z) Nt)<|ayF h rfl ?_ c.c.length 0 rfl<|by omega⟩);rw[aG,Nc];exact(ap (by rw[bH];simp)).2 (ayG (l:=c.c) (out:=c.2.1) h rfl c.c.length 0 rfl<|by omega)
def ZL:iG->(iG×Int):=JZ
def ava:aK:=.all [rc] [rc,yI] ZL
def asV:Sd 151 ava:=fa<|aX ax dJ sl 68 [⟨151,5,[[2,4,18,19]]⟩,⟨185,7,[[1,2,5,22,23],[2]]⟩] [] (λA c=>aoz A c) Nc akC (kz (fc func151 (fc func185 fz)) (sc EC (sc Lb sz))) (λA y=>match y with |.c0 p=>⟨28,sl,by kernel_rfl⟩|.c1 p b1 i=>⟨56,sl,by kernel_rfl⟩|.c2 p c1 c9=>⟨41,sl,by kernel_rfl⟩) λc j h=>ayH
inductive aek where|c0(a0:Int)(a1:List iE)
noncomputable def akG:aek->gY
 | .c0 a0 a1=>⟨[gW 181 48 [(7,.own 0),(8,vi a0)] f181 1016],[aZ kj a1,.a_]⟩
abbrev IU(A:aS)(i:List iE)(h:Int):=(A.v .i64<|A.b .mul .u64 (A.v .u64<|A.l i)<|A.v .u64 h)
abbrev ai3(A:aS)(i:List iE)(h:Int):=(A.b .add .u64 (A.b .mul .u64 (A.b .shr .u64 (A.v .u64<|A.l i) 32)<|A.b .and .u64 (A.v .u64 h) 4294967295)<|A.b .shr .u64 (A.b .mul .u64 (A.b .and .u64 (A.v .u64<|A.l i) 4294967295)<|A.b .and .u64 (A.v .u64 h) 4294967295) 32)
def awX(A:aS)(i:List iE)(h:Int):LT (List iE) aek:=.br (A.bo h 0) (.bY 117 "slices.go:516")<|.br (A.jD (A.b .add .u64 (A.b .add .u64 (A.b .mul .u64 (A.b .shr .u64 (A.v .u64<|A.l i) 32)<|A.b .shr .u64 (A.v .u64 h) 32)<|A.b .shr .u64 (ai3 A i h) 32)<|A.b .shr .u64 (A.b .add .u64 (A.b .and .u64 (ai3 A i h) 4294967295)<|A.b .mul .u64 (A.b .and .u64 (A.v .u64<|A.l i) 4294967295)<|A.b .shr .u64 (A.v .u64 h) 32) 32) 0) (.bY 117 "slices.go:522")<|.br (A.jD (A.b .mul .u64 (A.v .u64<|A.l i)<|A.v .u64 h) 9223372036854775807) (.bY 117 "slices.go:522")<|.ao (A.and (A.bq (IU A i h)<|IU A i h)<|A.and (A.bE 0<|IU A i h)<|A.bE (IU A i h) 4398046511104)<|.ak<|.c0 (A.mn (A.l i)<|A.l<|A.r (IU A i h) (Ty.gy kj:iE))<|A.spl (A.r (IU A i h) (Ty.gy kj:iE)) 0<|A.s i 0<|A.mn (A.l i)<|A.l<|A.r (IU A i h) (Ty.gy kj:iE)
def asa(A:aS):aek->LT (List iE) aek
 | .c0 a0 a1=>.br (A.bo a0<|A.l a1) (.ao (A.and (A.bE 0 a0)<|A.and (A.bE a0<|A.l a1)<|A.bE (A.l a1)<|A.l a1)<|.ao (A.and (A.bE 0 0)<|A.and (A.bE 0 a0)<|A.bE a0<|A.l a1)<|.ak<|.c0 (A.b .add .i64 a0<|A.mn (A.l<|A.s a1 0<|A.b .add .i64 0<|A.b .sub .i64 a0 0)<|A.b .sub .i64 (A.l a1) a0)<|A.spl a1 a0<|A.s (A.s a1 0<|A.b .add .i64 0<|A.b .sub .i64 a0 0) 0<|A.mn (A.l<|A.s a1 0<|A.b .add .i64 0<|A.b .sub .i64 a0 0)<|A.b .sub .i64 (A.l a1) a0)<|.ret a1
def HZ:iE:=(([]:List Int),255)
def ayD{l:List iE}(h:(decide (l=[(([]:List Int),255)])&&decide (4<=n)&&decide (n<=8))=true):aV (asa af) (awX af l n)<|List.replicate n.toNat HZ:=by
 simp at h;obtain⟨⟨rfl,j⟩,m⟩:=h;have i:n=4\/n=5\/n=6\/n=7\/n=8:=by omega
 rcases i with rfl|rfl|rfl|rfl|rfl <;>
  (refine(ap<|by rfl).2 ((ap<|by rfl).2<|(ap<|by rfl).2<|au.2 ⟨by rfl,?_⟩)
   refine aG.2<|(ar<|by rfl).2<|au.2 ⟨by rfl,au.2 ⟨by rfl,aG.2 ?_⟩⟩;refine(ar<|by rfl).2 (au.2 ⟨by rfl,au.2 ⟨by rfl,aG.2 ?_⟩⟩))
 .exact(ap<|by rfl).2 (aT (by rfl)<|.ret _)
 all_goals exact(ar<|by rfl).2 (au.2 ⟨by rfl,au.2 ⟨by rfl,aG.2<|(ap<|by rfl).2<|aT (by rfl)<|.ret _⟩⟩)
def ahY:(List iE×Int)->(List iE):=λ(_,n)=>List.replicate n.toNat (([]:List Int),255)
def RG:(List iE×Int)->Bool:=λ(l,n)=>decide (l=[(([]:List Int),255)])&&decide (4<=n)&&decide (n<=8)
def avi:aK:=⟨[(.slice kj),yI],[(.slice kj)],RG,ahY,false⟩
def asY:Sd 181 avi:=aX ax dJ sl 175 [⟨181,8,[[7,8]]⟩] [] (λA (j,i)=>awX A j i) asa akG (kz (fc func181 (fc func172 (fc func225 fz))) sz) (λA y=>match y with |.c0 m a1=>⟨30,sl,by kernel_rfl⟩) λ((j,i):List iE×Int) l h=>ayD l
def aop(A:aS)(id:Int)(n:Int):LT (iG×Int) Empty:=.br (A.not<|A.k vz (n,4,8)) (.ret ((0,([]:List Int),([]:List iE),0,0),120))<|.br (A.not<|A.k vz (id,0,A.b .sub .i64 n 1)) (.ret ((0,([]:List Int),([]:List iE),0,0),120))<|.ao (A.k RG (([(([]:List Int),255)]:List iE),n))<|.ret ((id,([]:List Int),A.k ahY (([(([]:List Int),255)]:List iE),n),4,-1),0)
def aba(id n:Int):iG×Int:=bif decide (4<=n/\n<=8) then(bif decide (0<=id/\id<=n-1) then((id,([]:List Int),List.replicate n.toNat HZ,4,-1),0) else(E2,120)) else(E2,120)
def ayw:Int×Int->iG×Int:=λ(id,n)=>aba id n
def aa_{id:Int}:aV Empty.elim (aop af id n)<|aba id n:=by
 unfold aop aba;refine jo (λh=>?_) λi=>?_
 .exact aT (by rw[gw h];rfl)<|.ret _
 .have e:af.b .sub .i64 n 1=n-1:=by rw[gX,lZ (by omega)<|by omega]
  rw[e];refine jo (λh=>?_) λj=>au.2 ⟨?_,?_⟩
  .exact aT (by rw[cr i,gw h];rfl)<|.ret _
  .rw[b_,RG,cr i.1,cr i.2];rfl
  .exact aT (by rw[cr i,cr j];rfl)<|.ret _
def TT:(Int×Int)->(iG×Int):=ayw
def auY:aK:=.all [yI,yI] [rc,yI] TT
def asN:Sd 124 auY:=fa<|bX ax dJ sl 38 [] (λA (id,n)=>aop A id n) (kz (fc func124 fz) (sc Qc (sc asY sz))) λ(id,n) i h=>aa_
def awZ(A:aS)(c:iG):LT Bool Empty:=.br (A.bq (A.k rA c) 0) (.ret<|A.jD c.2.2.2.1 0)<|.ret false
def ZO:iG->Bool:=λc=>(awZ af c).val<|Ty.aR [.bool]
def avt:aK:=.all [rc] [.bool] ZO
def as3:Sd 313 avt:=fa<|aQ ax dJ sl 23 [] (λA c=>awZ A c)<|kz (fc func313 fz)<|sc Lb sz
def aoH(A:aS)(c:iG)(h:Int):LT (List Int×Int) Empty:=.br (A.cm (A.k rA c) 0) (.ret (([]:List Int),A.k rA c))<|.br (A.not<|A.k vz (h,0,8)) (.ret (([]:List Int),2))<|.ao (A.and (A.bq h h)<|A.and (A.bE 0 h)<|A.bE h 140737488355328)<|.br (A.k ZO c) (.ret (A.spl (A.r h (0:Int)) 0<|A.s c.2.1 0<|A.mn (A.l c.2.1)<|A.l<|A.r h (0:Int),0))<|.ret (A.r h (0:Int),0)
def IE(c:iG)(k:Int):List Int×Int:=bif iO c then(bif decide (0<=k/\k<=8) then(bif decide (0<c.2.2.2.1) then c.2.1.take k.toNat++List.replicate (k.toNat-c.2.1.length) 0 else List.replicate k.toNat 0,0) else([],2)) else([],120)
def ayM:iG×Int->List Int×Int:=λ(c,k)=>IE c k
theorem agN{k:Int}(h:0<=k/\k<=8):af.and (af.bq k k) (af.and (af.bE 0 k)<|af.bE k 140737488355328)=true:=by
 rw[bg,aB,aB,bu,bu];grind
theorem ayL{k:Int}:aV Empty.elim (aoH af c k)<|IE c k:=by
 unfold aoH IE;rw[show af.k rA c=z_ c from rfl,show af.k ZO c=(bif z_ c==0 then decide (0<c.d) else false) from rfl,z_];cases hc:iO c
 .exact(ar rfl).2 (.ret _)
 .refine(ap rfl).2 (jo (λh=>?_) λh=>au.2 ⟨agN h,bl (p:=0<c.d) rfl (λi=>?_) λi=>?_⟩)
  .exact aT (by grind)<|.ret _
  .refine aT ?_<|.ret _;simp[nU,uK,jc,mZ,dW,Int.toNat_zero,List.take_zero,iR,qi]
   grind
  .exact aT (by rw[cr h,gw i];rfl)<|.ret _
def ZM:(iG×Int)->(List Int×Int):=ayM
def avm:aK:=.all [rc,yI] [yB,yI] ZM
def as0:Sd 271 avm:=fa<|bX ax dJ sl 60 [] (λA (c,i)=>aoH A c i) (kz (fc func271 fz) (sc Lb (sc Qc (sc as3 sz)))) λ(c,i) j h=>ayL
def aor(A:aS)(c:iG)(h:List Int):LT (iG×Int) Empty:=.br (A.cm (A.k oB c).2 0) (.ret ((0,([]:List Int),([]:List iE),0,0),(A.k oB c).2))<|.br (A.jD (A.l h) 8) (.ret ((0,([]:List Int),([]:List iE),0,0),3))<|.ret (((A.k oB c).1.1,A.k nY h,(A.k oB c).1.2.2),0)
def Xf(c:iG)(d:List Int):iG×Int:=bif iO c then(bif decide (8<(d.length:Int)) then(E2,3) else((c.1,d,c.2.2),0)) else(E2,120)
def wrS:iG×List Int->iG×Int:=λ(c,d)=>Xf c d
def wr1{d:List Int}:aV Empty.elim (aor af c d)<|Xf c d:=by
 unfold aor Xf;rw[show af.k oB c=MB c from rfl,MB];cases iO c
 .exact(ar rfl).2 (.ret _)
 .refine(ap rfl).2 (bl (p:=8<(d.length:Int)) rfl (λh=>?_) λh=>?_)
  .exact aT (by rw[cr h];rfl)<|.ret _
  .exact aT (by rw[gw h];rfl)<|.ret _
def GL:(iG×List Int)->(iG×Int):=wrS
def au2:aK:=.all [rc,yB] [rc,yI] GL
def aiD:Sd 126 au2:=fa<|bX ax dJ sl 55 [] (λA (c,i)=>aor A c i) (kz (fc func126 fz) (sc EC (sc acH sz))) λ(c,i) j h=>wr1
def aos(A:aS)(c:iG):LT (iG×Int) Empty:=.br (A.bq (A.k oB c).2 0) (.ret (((A.k oB c).1.1,(A.k oB c).1.2.1,(A.k oB c).1.2.2.1,4,(A.k oB c).1.2.2.2.2),(A.k oB c).2))<|.ret<|A.k oB c
def btS:iG->iG×Int:=λc=>bif iO c then((c.1,c.2.1,c.2.2.1,4,c.2.2.2.2),0) else(E2,120)
def bt1:aV Empty.elim (aos af c)<|btS c:=by
 unfold aos btS;rw[show af.k oB c=MB c from rfl,MB];cases iO c
 .exact(ap rfl).2 (.ret _)
 .exact(ar rfl).2 (.ret _)
def TW:iG->(iG×Int):=btS
def au3:aK:=.all [rc] [rc,yI] TW
def asO:Sd 167 au3:=fa<|bX ax dJ sl 41 [] (λA c=>aos A c) (kz (fc func167 fz) (sc acH sz)) λc i h=>bt1
def aot(A:aS)(c:iG)(h:Int):LT (iG×Int) Empty:=.br (A.cm (A.k oB c).2 0) (.ret ((0,([]:List Int),([]:List iE),0,0),(A.k oB c).2))<|.br (A.not<|A.k vz (h,-1,3)) (.ret ((0,([]:List Int),([]:List iE),0,0),2))<|.ret (((A.k oB c).1.1,(A.k oB c).1.2.1,(A.k oB c).1.2.2.1,(A.k oB c).1.2.2.2.1,h),0)
def Jx(c:iG)(m:Int):iG×Int:=bif iO c then(bif decide (-1<=m/\m<=3) then((c.1,c.2.1,c.2.2.1,c.2.2.2.1,m),0) else(E2,2)) else(E2,120)
def ax5:iG×Int->iG×Int:=λ(c,m)=>Jx c m
theorem ax4:aV Empty.elim (aot af c m)<|Jx c m:=by
 unfold aot Jx;rw[show af.k oB c=MB c from rfl,MB];cases iO c
 .exact(ar rfl).2 (.ret _)
 .refine(ap rfl).2 (jo (λh=>?_) λh=>?_)
  .exact aT (by rw[gw h];rfl)<|.ret _
  .exact aT (by simp_all)<|.ret _
def TX:(iG×Int)->(iG×Int):=ax5
def au4:aK:=.all [rc,yI] [rc,yI] TX
def asP:Sd 168 au4:=fa<|bX ax dJ sl 54 [] (λA (c,i)=>aot A c i) (kz (fc func168 fz) (sc Qc (sc acH sz))) λ(c,i) j h=>ax4
end
end Go.Ev.M
