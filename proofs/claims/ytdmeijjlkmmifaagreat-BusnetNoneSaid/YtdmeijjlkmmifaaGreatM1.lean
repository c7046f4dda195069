/-
  PROVED: what functions of the program compute, part 1. Conditions: none.
-/
import Derived.Test.YtdmeijjlkmmifaaGreatTy
import Derived.Test.YtdmeijjlkmmifaaGreatPl
import Derived.Shelf.Bytes.SlClone
set_option linter.unusedVariables false
set_option linter.unusedSimpArgs false
namespace Go.Ev.M
open Go.Proofs
set_option maxRecDepth 100000
open Go.Ev.Pl
noncomputable section
theorem STD:(∀b x y:Bool,(bif b then x else y)=true↔(b=true->x=true)/\(b=false->y=true))/\(∀a b:Int,af.c .eql a b=(a==b))/\(∀a b:Int,af.c .neq a b=(a != b))/\(∀a b:Int,af.c .lss a b=decide (a<b))/\(∀a b:Int,af.c .leq a b=decide (a<=b))/\(∀a b:Int,af.c .gtr a b=decide (b<a))/\(∀a b:Int,af.c .geq a b=decide (b<=a))/\(∀x y:Bool,af.and x y=(x&&y))/\(∀x:Bool,af.not x=!x)/\(∀x y:Bool,af.q x y=(x==y))/\(∀(α β:Type)(f:α->β)(x:α),af.k f x=f x)/\(∀k (a b:Int),af.b .add k a b=k.wrap (a+b))/\(∀k (a b:Int),af.b .sub k a b=k.wrap (a-b))/\(∀k (a:Int),af.v k a=k.wrap a)/\(∀(α:Type)(l:List α),af.l l=(l.length:Int))/\(∀(α:Type)(x:α),tt x=true)/\(∀a b:Bool,((a&&b)=true)=(a=true/\b=true))/\(∀a b:Bool,((a||b)=true)=(a=true\/b=true))/\(∀a b:Bool,((a&&b)=false)↔(a=false\/b=false))/\(∀a b:Bool,((a||b)=false)↔(a=false/\b=false))/\(∀b:Bool,((!b)=true)=(b=false))/\(∀b:Bool,((!b)=false)=(b=true))/\(∀(p:Prop)[Decidable p],(decide p=true)=p)/\(∀(p:Prop)[Decidable p],(decide p=false)↔¬p):=⟨λ_ _ _=>Fy,λ_ _=>rfl,λ_ _=>rfl,λ_ _=>rfl,λ_ _=>rfl,λ_ _=>rfl,λ_ _=>rfl,λ_ _=>rfl,λ_=>rfl,λ_ _=>rfl,λ_ _ _ _=>rfl,λ_ _ _=>rfl,λ_ _ _=>rfl,λ_ _=>rfl,λ_ _=>rfl,λ_ _=>rfl,λ_ _=>Bool.and_eq_true ..,λ_ _=>Bool.or_eq_true ..,λ_ _=>Bool.and_eq_false_iff,λ_ _=>Bool.or_eq_false_iff,λ_=>by simp,λ_=>by simp,λ_ _=>decide_eq_true_eq,λ_ _=>decide_eq_false_iff_not⟩
theorem aeA{i:Int}(h:0<=i)(j:i<=4611686018427387904):af.b .quo .i64 i 8=((i.toNat/8:Nat):Int):=by
 rw[Ml,lK h,lC (by omega) (by omega)];omega
theorem ZV{i:Int}(h:0<=i):af.b .rem .i64 i 8=((i.toNat%8:Nat):Int):=by
 rw[Mm,iX h];omega
variable{b:List Int}{n:Int}
theorem u5(h:Ty.has (.struct [(.int .i64),(.slice (.int .u8))]) (n,b)):(-9223372036854775808<=n/\n<=9223372036854775807)/\b.length<=gj/\gT b:=by
 exact⟨h.1,h.2.1,λx i=>h.2.2 x i⟩
theorem mQ(h:Ty.has (.struct [(.int .i64),(.slice (.int .u8))]) (n,b)):b.length<=140737488355328:=(u5 h).2.1
def alB(A:aS)(n:Int):LT Int Empty:=.ret (A.b .quo .i64 (A.b .add .i64 n 7) 8)
def ju:Int->Int:=λn=>(alB af n).val (Ty.aR [yI])
def aqS:aM:=.all [yI] [yI] ju
theorem TA:Sd 320 aqS:=fa (aP ar dK sl 17 [] (λA n=>alB A n) (kz (fc Tryz.func320 fz) sz) (λ_ _ _=>LT.bE (by kernel_rfl)))
def aa0(A:aS)(i:Int):LT Int Empty:=.ap (A.bU 0 (A.b .rem .i64 i 8)) (.ret (A.b .shr .u8 128 (A.b .rem .i64 i 8)))
def DC:Int->Int:=λi=>(aa0 af i).val (Ty.aR [yU])
def xE:Int->Bool:=λi=>decide (0<=i)
def ara:aM:=⟨[yI], [yU],xE,DC,false⟩
theorem TD:Sd 328 ara:=aP ar dK sl 17 [] (λA i=>aa0 A i) (kz (fc Tryz.func328 fz) sz) (λ(i:Int) j h=>by
 show(aa0 af i).pre=true;simp only[aa0,LT.pre,STD,bne_iff_ne,beq_iff_eq,bne_eq_false_iff_eq,beq_eq_false_iff_ne];simp only[xE,sK] at j;rw[ZV j];exact⟨by omega,trivial⟩)
theorem uV(h:0<=n)(i:n<=4611686018427387000):ju n=(((n.toNat+7)/8:Nat):Int):=by
 simp[ju,alB,LT.val];rw[gz,lC (by omega) (by omega),aeA (by omega) (by omega)];omega
theorem Y7:∀k:Fin 8,af.b .shr .u8 128 (k.val:Int)=((128 >>> k.val:Nat):Int):=by decide +kernel
theorem Nw{i:Int}(h:0<=i):DC i=((128 >>> (i.toNat%8):Nat):Int):=by
 simp[DC,aa0];rw[ZV h];exact Y7 ⟨i.toNat%8,mC _ (by decide)⟩
theorem adi:∀c:Fin 256,∀k:Fin 8,(af.b .and .u8 (c.val:Int) ((128 >>> k.val:Nat):Int) != 0)=c.val.testBit (7-k.val):=by decide +kernel
theorem Qa{l:List Int}(h:gT l)(i:Nat):0<=l.getD i 0/\l.getD i 0<=255:=by
 rw[yb];by_cases j:i<l.length
 ·rw[Gd j];exact h _ (dF j)
 simp_all
theorem adO{l:List Int}(h:gT l)(i:Nat):(af.b .and .u8 (l.getD (i/8) 0) ((128 >>> (i%8):Nat):Int) != 0)=kl l i:=by
 have m:=Qa h (i/8);have j:=adi ⟨(l.getD (i/8) 0).toNat,by omega⟩ ⟨i%8,mC _ (by decide)⟩;rw[show(((l.getD (i/8) 0).toNat:Nat):Int)=l.getD (i/8) 0 from by omega] at j;exact j
def aaZ(A:aS)(j:Int)(h:List Int)(i:Int):LT Bool Empty:=.ap (A.and (A.bU 0 (A.b .quo .i64 i 8)) (A.bD (A.b .quo .i64 i 8) (A.l h))) (.ap (A.k xE i) (.ret (A.cr (A.b .and .u8 (A.n yU h (A.b .quo .i64 i 8):Int) (A.k DC i)) 0)))
def AT:((Int×List Int)×Int)->Bool:=λ((j,h),i)=>(aaZ af j h i).val (Ty.aR [.bool])
def xD:((Int×List Int)×Int)->Bool:=λ((n,b),i)=>decide (0<=i)&&decide (i<8*(b.length:Int))
def aq4:aM:=⟨[(.struct [yI,yB]),yI], [.bool],xD,AT,false⟩
theorem aaA:Sd 331 aq4:=aP ar dK sl 25 [] (λA ((l,j),i)=>aaZ A l j i) (kz (fc Tryz.func331 fz) (sc TD sz)) (λ(((l,j),i):(Int×List Int)×Int) m h=>by
 show(aaZ af l j i).pre=true;simp only[xD,fQ,sK] at m;have n:=mQ h.1;simp only[aaZ,LT.pre,bo,bl,aC,aV,xE,fQ,sK,rY];rw[aeA m.1 (by omega)];refine⟨⟨by omega,by omega⟩,m.1,trivial⟩)
theorem FT{i:Int}(j:gT b)(h:0<=i)(l:i<8*(b.length:Int))(m:b.length<=140737488355328):AT ((n,b),i)=kl b i.toNat:=by
 simp[AT,aaZ,bo];rw[aeA h (by omega),Nw h];exact adO j i.toNat
def t99(A:aS)(i:Int)(h:List Int):LT Int Empty:=.br (A.bD i 0) (.ret 10) (.br (A.jw i 4096) (.ret 10) (.br (A.cr (A.l h) (A.k ju i)) (.ret 10) (.br (A.cr (A.b .rem .i64 i 8) 0) (.ap (A.and (A.bU 0 (A.b .sub .i64 (A.l h) 1)) (A.bD (A.b .sub .i64 (A.l h) 1) (A.l h))) (.ap (A.bU 0 (A.b .rem .i64 i 8)) (.br (A.cr (A.b .and .u8 (A.n yU h (A.b .sub .i64 (A.l h) 1):Int) (A.b .shr .u8 255 (A.b .rem .i64 i 8))) 0) (.ret 10) (.ret 0)))) (.ret 0))))
def rS:((Int×List Int))->Int:=λ(i,h)=>(t99 af i h).val (Ty.aR [yI])
def avF:aM:=.all [(.struct [yI,yB])] [yI] rS
theorem Mh:Sd 285 avF:=fa (aP ar dK sl 67 [] (λA (j,i)=>t99 A j i) (kz (fc Tryz.func285 fz) (sc TA sz)) (λ((j,i):(Int×List Int)) q h=>by
 show(t99 af j i).pre=true;have p:=mQ h;simp only[t99,LT.pre,bo,bZ,aV,dh,aC,bl,abU,cY,rY,Fy,sK,decide_eq_false_iff_not,fQ,bne_iff_ne,bne_eq_false_iff_eq,ne_eq,implies_true,and_true,true_and];intro n o l m;rw[uV (by omega) (by omega)] at l;rw[ZV (by omega)] at m;rw[gg,lC (by omega) (by omega),ZV (by omega)];omega))
theorem ZZ:∀c:Fin 256,∀r:Fin 8,(af.b .and .u8 (c.val:Int) (af.b .shr .u8 255 (r.val:Int)) != 0)=!((List.range 8).all λk=>decide (k<r.val) || !c.val.testBit (7-k)):=by decide +kernel
theorem Uq(m:gT b)(B:b.length<=140737488355328):rS (n,b)=0↔0<=n/\n<=4096/\okB n.toNat b:=by
 simp[rS,t99,LT.val,bo,bZ,aV,dh];by_cases q:n<0
 ·grind
 ·simp only[q]
  by_cases u:4096<n
  ·grind
  ·simp[u,decide_false,cond_false]
   rw[uV (by omega) (by omega)];have j:af.l b=(b.length:Int):=rfl;rw[j];by_cases l:b.length=(n.toNat+7)/8
   ·rw[show((b.length:Int) != (((n.toNat+7)/8:Nat):Int))=false from by simp_all,cond_false,ZV (by omega)]
    by_cases v:n.toNat%8=0
    ·rw[v]
     simp;exact⟨by omega,by omega,l,m,λi x y=>by omega⟩
    ·rw[show(((n.toNat%8:Nat):Int) != 0)=true from by grind,cond_true]
     have e:(af.n (.int .u8) b (af.b .sub .i64 (b.length:Int) 1):Int)=b.getD (n.toNat/8) 0:=by
      show b.getD (af.b .sub .i64 (b.length:Int) 1).toNat 0=_;rw[gg,lC (by omega) (by omega)];congr 1;omega
     have C:=Qa m (n.toNat/8);have o:=ZZ ⟨(b.getD (n.toNat/8) 0).toNat,by omega⟩ ⟨n.toNat%8,mC _ (by decide)⟩;rw[show(((b.getD (n.toNat/8) 0).toNat:Nat):Int)=b.getD (n.toNat/8) 0 from by omega] at o;refine Iff.trans (b:=((List.range 8).all λk=>decide (k<n.toNat%8) || !(b.getD (n.toNat/8) 0).toNat.testBit (7-k))=true) ?_ ?_
     ·grind
     ·rw[bG]
      constructor
      ·intro h
       refine⟨by omega,by omega,l,m,λi x y=>?_⟩;have z:i/8=n.toNat/8:=by omega
       rw[kl,z]
       grind
      ·intro ⟨_,_,_,_,h⟩ k p
       have p:=gY.1 p;by_cases A:k<n.toNat%8
       ·grind
       ·have:=h (8*(n.toNat/8)+k) (by omega) (by omega)
        rw[kl,show(8*(n.toNat/8)+k)/8=n.toNat/8 from by omega,show(8*(n.toNat/8)+k)%8=k from by omega] at this
        simp_all
   ·rw[show((b.length:Int) != (((n.toNat+7)/8:Nat):Int))=true from bne_iff_ne.2 (by omega),cond_true]
    constructor
    ·omega
    ·intro h;exact absurd h.2.2.1 l
theorem PV{x:Int×List Int}:rS x=0\/rS x=10:=by
 exact LT.qS (p:=λy=>y=0\/y=10) (.inl rfl) (by simp[t99,LT.all])
theorem A5(h:gT b)(l:b.length<=140737488355328):rS (n,b)=bif nW (n,b) then 0 else 10:=by
 have i:=Uq (n:=n) h l;rw[<-uP h] at i;rcases PV (x:=(n,b)) with j|j
 all_goals simp_all
variable{i:Nat}
theorem iC(h:i<4611686018427387904):af.b .add .i64 (i:Int) 1=((i+1:Nat):Int):=by
 rw[gz,lC (by omega) (by omega)];rfl
theorem jA{j:Nat}(h:i+j<4611686018427387904):af.b .add .i64 (i:Int) (j:Int)=((i+j:Nat):Int):=by
 rw[gz,lC (by omega) (by omega)];rfl
theorem bg{j:Nat}:af.bD (i:Int) (j:Int)=decide (i<j):=by
 rw[aV];simp_all
theorem t_{j:Nat}:af.bU (i:Int) (j:Int)=decide (i<=j):=by
 rw[aC];simp_all
theorem u_:af.bU 0 (i:Int)=true:=by rfl
theorem vR(h:i<=4611686018427387904):af.b .quo .i64 (i:Int) 8=((i/8:Nat):Int):=by
 rw[aeA (by omega) (by omega)];rfl
theorem EC:af.b .rem .i64 (i:Int) 8=((i%8:Nat):Int):=by rfl
variable{u v:Int}
theorem Dp(h:u=v):af.bK u v=true:=by simp_all;exact beq_self_eq_true _
theorem RL(h:u≠v):af.bK u v=false:=by simp_all;exact beq_eq_false_iff_ne.2 h
theorem yZ(h:u=v):af.cr u v=false:=by simp_all;exact bne_self_eq_false _
theorem y1(h:u≠v):af.cr u v=true:=by simp_all;exact bne_iff_ne.2 h
variable{Y:Type}
theorem lW{R:Type}{step:Y->LT R Y}{t i:LT R Y}{r:R}(h:t=i)(j:aW step i r):aW step t r:=h▸j
theorem aei:∀c:Fin 256,∀k:Fin 8,af.b .or .u8 (c.val:Int) ((128 >>> k.val:Nat):Int)=((c.val ||| 128 >>> k.val:Nat):Int):=by decide +kernel
variable{B:List Int}
theorem G9{l:List Bool}{m:Nat}(h:lX B l m)(n:l.length=i)(o:i<8*m)(p:m<=100000):
  lX (af.set B (af.b .quo .i64 (i:Int) 8) (af.b .or .u8 (af.n (.int .u8) B (af.b .quo .i64 (i:Int) 8):Int) (af.k DC (i:Int)))) (l ++ [true]) m:=by
 rw[vR (by omega),bo,Nw (by omega),rO];have j:=aei ⟨(B.getD (i/8) 0).toNat,Ge h.2.1 _⟩ ⟨i%8,mC _ (by decide)⟩;rw[show(((B.getD (i/8) 0).toNat:Nat):Int)=B.getD (i/8) 0 from Int.toNat_of_nonneg (Qa h.2.1 _).1] at j;have:=h.set (by omega);rw[n] at this;rw[<-j] at this;exact this
theorem C6{l:List Bool}(h:i<l.length):l.take (i+1)=l.take i ++ [l.getD i false]:=by simp_all
variable{a:Int}
theorem aaq{n:Nat}(h:0<=a)(i:n<=64):af.b .shr .u64 a (n:Int)=((a.toNat/2^n:Nat):Int):=by
 show a.fdiv (2^min (n:Int).toNat 64)=_
 grind
theorem agC{n:Nat}(h:0<=a)(i:n<=32):af.b .shr .u32 a (n:Int)=((a.toNat/2^n:Nat):Int):=by
 show a.fdiv (2^min (n:Int).toNat 32)=_
 grind
theorem WW{m:Nat}:af.bK (af.b .and .u64 (m:Int) 1) 1=decide (m%2=1):=by
 show(IntKind.u64.wrap ((BitVec.ofInt 64 (m:Int) &&& BitVec.ofInt 64 1).toNat:Int)==1)=_;rw[fR,show BitVec.ofInt 64 1=BitVec.ofNat 64 1 from rfl,BitVec.toNat_and,e_,e_,show 1%2^64=1 from rfl,Nat.and_one_is_mod,afO (by omega) (by omega),gE]
 grind
theorem W7{k:Nat}(h:0<=v)(i:k<=64):af.bK (af.b .and .u64 (af.b .shr .u64 v (k:Int)) 1) 1=v.toNat.testBit k:=by
 rw[aaq h i,WW,Nat.testBit_eq_decide_div_mod_eq]
theorem wj{j:Nat}(h:j<=i)(l:i<4611686018427387904):af.b .sub .i64 (i:Int) (j:Int)=((i-j:Nat):Int):=by
 rw[gg,lC (by omega) (by omega)];omega
theorem aeq{w:Nat}(h:0<=v):decide ((2:Int)^w<=v)=(((v.toNat/2^w:Nat):Int) != 0):=by
 obtain⟨m,rfl⟩:=aO h;rw[rO,gE];have l:(2:Int)^w=((2^w:Nat):Int):=by simp
 rw[l,sK,bne_iff_ne];have j:=Nat.two_pow_pos w;constructor
 ·intro i
  have:1<=m/2^w:=(iQ j).2 (by omega);omega
 ·intro i
  have:1<=m/2^w:=Nat.pos_of_ne_zero λh=>i (by omega);have:=(iQ j).1 this;omega
theorem adS{w:Int}(h:Ty.jK [(.struct [(.int .i64),(.slice (.int .u8))]),(.int .u64),(.int .i64)] ((n,b),v,w)):Ty.has (.struct [(.int .i64),(.slice (.int .u8))]) (n,b)/\(0<=v/\v<=18446744073709551615)/\(-9223372036854775808<=w/\w<=9223372036854775807):=h
structure VK where
 (a0 a1 a2 a4:Int) (a5:List Int) (a6 a7:Int)
inductive M9 where
 | c0 (p:VK) (a3:Int) (a8:List Int)
noncomputable def aii:M9->iH
 | .c0 p a3 a8=>⟨[⟨259,63,(en [(1,.int .u64 false p.a0),(2,vi p.a1),(3,.ptr 0 0),(6,.ptr 1 0),(8,.ptr 2 0),(43,vi p.a2),(44,vi a3)]),sk Tryz.f259 [1,1,1,0,1,0,0],[],none⟩],[.ay false [vi p.a4,.sl yU p.a5],.ay false [vi p.a6,.gi true],.ay false [vi p.a7,.own 3],.arr false yU a8,.aZ]⟩
abbrev aaY(A:aS)(i:Int)(j:List Int)(v:Int)(h:Int):LT ((Int×List Int)×Int) M9:=(.br (A.jw h (A.b .sub .i64 4096 i)) (.ret ((0,([]:List Int)),3)) (.ap (A.and (A.bK (A.k ju (A.b .add .i64 i h)) (A.k ju (A.b .add .i64 i h))) (A.and (A.bU 0 (A.k ju (A.b .add .i64 i h))) (A.bU (A.k ju (A.b .add .i64 i h)) 140737488355328))) (.ao (.c0 ⟨v,h,h,i,j,0,(A.b .add .i64 i h)⟩ 0 (A.spl (A.r (A.k ju (A.b .add .i64 i h)) (0:Int)) 0 (A.s j 0 (A.mn (A.l j) (A.l (A.r (A.k ju (A.b .add .i64 i h)) (0:Int))))))))))
def alA(A:aS)(j:Int)(i:List Int)(v:Int)(h:Int):LT ((Int×List Int)×Int) M9:=.br (A.cr (A.k rS (j,i)) 0) (.ret ((0,([]:List Int)),10)) (.br (A.bD h 0) (.ret ((0,([]:List Int)),2)) (.br (A.jw h 64) (.ret ((0,([]:List Int)),2)) (.br (A.bD h 64) (.ap (A.bU 0 h) (.br (A.cr (A.b .shr .u64 v h) 0) (.ret ((0,([]:List Int)),2)) (aaY A j i v h))) (aaY A j i v h))))
def aeI(A:aS):M9->LT ((Int×List Int)×Int) M9
 | .c0 p a3 a8=>.br (A.bD a3 p.a2) (.ap (A.bU 0 (A.b .sub .i64 (A.b .sub .i64 p.a1 1) a3)) (.br (A.bK (A.b .and .u64 (A.b .shr .u64 p.a0 (A.b .sub .i64 (A.b .sub .i64 p.a1 1) a3)) 1) 1) (.ap (A.and (A.bU 0 (A.b .quo .i64 (A.b .add .i64 p.a4 a3) 8)) (A.bD (A.b .quo .i64 (A.b .add .i64 p.a4 a3) 8) (A.l a8))) (.ap (A.k xE (A.b .add .i64 p.a4 a3)) (.ap (A.and (A.bU 0 (A.b .quo .i64 (A.b .add .i64 p.a4 a3) 8)) (A.bD (A.b .quo .i64 (A.b .add .i64 p.a4 a3) 8) (A.l a8))) (.ao (.c0 p (A.b .add .i64 a3 1) (A.set a8 (A.b .quo .i64 (A.b .add .i64 p.a4 a3) 8) (A.b .or .u8 (A.n yU a8 (A.b .quo .i64 (A.b .add .i64 p.a4 a3) 8):Int) (A.k DC (A.b .add .i64 p.a4 a3))))))))) (.ao (.c0 p (A.b .add .i64 a3 1) a8)))) (.ret ((p.a7,a8),0))
theorem Nc{v w k:Nat}(h:k<w):(bitsOf v w).getD k false=v.testBit (w-1-k):=by
 rw[yb,bitsOf,cn,pU h];rfl
theorem vm{m:Nat}(j:B.length=m)(l:i<8*m)(n:m<=100000):(af.and (af.bU 0 (af.b .quo .i64 (i:Int) 8)) (af.bD (af.b .quo .i64 (i:Int) 8) (af.l B)))=true:=by
 have h:af.l B=(m:Int):=by rw[<-j];rfl
 rw[vR (by omega),h,u_,bg,bl];grind
theorem CB:af.k xE (i:Int)=true:=by rfl
theorem ao8{n w:Nat}(G:0<=v)(H:n+w<=4096)(I:w<=64):∀(j k:Nat) (p:VK) (B:List Int),p.a0=v->p.a1=(w:Int)->p.a2=(w:Int)->p.a4=(n:Int)->p.a7=((n+w:Nat):Int)->w-k=j->k<=w->lX B (unpack n b++(bitsOf v.toNat w).take k) ((n+w+7)/8)->aW (aeI af) (.ao (.c0 p (k:Int) B)) (O5 (unpack n b++bitsOf v.toNat w),0):=by
 intro j
 induction j with
 | zero=>
   intro k p B x y o z A E F m;have:k=w:=by omega
   subst this;simp[aB];refine(ak (by rw[o,bg];simp)).2 ?_;rw[cH (by rw[my];omega)] at m;have D:(unpack n b++bitsOf v.toNat k).length=n+k:=by rw[ru,eX,my]
   rw[A,m.done (by rw[D])];rw[show O5 (unpack n b++bitsOf v.toNat k)=(((n+k:Nat):Int),pack (unpack n b++bitsOf v.toNat k)) from by rw[O5,D]];exact .ret _
 | succ j ih=>
   intro k p B x y o z A E F m;simp[aB];have u:af.b .sub .i64 (af.b .sub .i64 p.a1 1) (k:Int)=((w-1-k:Nat):Int):=by
    rw[y,show af.b .sub .i64 (w:Int) 1=((w-1:Nat):Int) from wj (j:=1) (by omega) (by omega),wj (by omega) (by omega)]
   have C:af.b .add .i64 p.a4 (k:Int)=((n+k:Nat):Int):=by rw[z,jA (by omega)]
   have q:(unpack n b++(bitsOf v.toNat w).take k).length=n+k:=by rw[ru,eX,c_,my];omega
   have h:=C6 (l:=bitsOf v.toNat w) (i:=k) (by rw[my];omega);rw[Nc (by omega)] at h;refine(al (by rw[o,bg];grind)).2 (au.2 ⟨by rw[u,u_],?_⟩);rw[u,x,W7 G (by omega),C];cases hx:v.toNat.testBit (w-1-k)
   ·rw[hx] at h
    refine(ak rfl).2 ?_;refine lW (congrArg LT.ao (congr (congrArg (M9.c0 p) (iC (by omega))) rfl)) (ih (k+1) p B x y o z A (by omega) (by omega) ?_);rw[h,<-cX];exact m.skip
   ·rw[hx] at h
    refine(al rfl).2 (au.2 ⟨vm m.1 (by omega) (by omega),au.2 ⟨CB,au.2 ⟨vm m.1 (by omega) (by omega),?_⟩⟩⟩);refine lW (congrArg LT.ao (congr (congrArg (M9.c0 p) (iC (by omega))) rfl)) (ih (k+1) p _ x y o z A (by omega) (by omega) ?_);rw[h,<-cX];exact G9 m q (by omega) (by omega)
theorem grow{n w:Nat}(h:okB n b)(p:n+w<=100000):lX (af.spl (af.r (af.k ju ((n+w:Nat):Int)) (0:Int)) 0 (af.s b 0 (af.mn (af.l b) (af.l (af.r (af.k ju ((n+w:Nat):Int)) (0:Int)))))) (unpack n b) ((n+w+7)/8):=by
 have o:=h.1;rw[bo,uV (by omega) (by omega),rO];have i:af.r ((((n+w+7)/8:Nat):Nat):Int) (0:Int)=List.replicate ((n+w+7)/8) 0:=by rfl
 rw[i];have j:af.mn (af.l b) (af.l (List.replicate ((n+w+7)/8) (0:Int)))=(b.length:Int):=by
  show(if ((List.replicate ((n+w+7)/8) (0:Int)).length:Int)<(b.length:Int) then _ else(b.length:Int))=_
  grind
 rw[j,jX,oB];have l:(b.take (b.length:Int).toNat).drop (0:Int).toNat=b:=by
  rw[rO,eB];rfl
 have:=lX.grown (m:=(n+w+7)/8) h (by omega)
 simp_all
theorem auY{w:Int}(h:Ty.jK [(.struct [(.int .i64),(.slice (.int .u8))]),(.int .u64),(.int .i64)] ((n,b),v,w)):aW (aeI af) (alA af n b v w) (akL ((n,b),v,w)):=by
 obtain⟨y,x,K⟩:=adS h;have z:=(u5 y).2.2;have D:=mQ y;unfold alA aaY;rw[akL];have C:af.cr (af.k rS (n,b)) 0=!nW (n,b):=by
  rw[bo,A5 z D];cases nW (n,b)<;>rfl
 rw[C];cases hok:nW (n,b)
 ·exact(al rfl).2 (.ret _)
 ·refine(ak rfl).2 ?_
  obtain⟨A,F,u⟩:=(uP z).1 hok;have B:=u.1;by_cases G:w<0
  ·refine(al (by rw[aV];simp_all)).2 ?_
   rw[show decide (w<0)=true from by simp_all];exact .ret _
  ·refine(ak (by rw[aV];simp_all)).2 ?_
   by_cases H:64<w
   ·refine(al (by rw[dh];simp_all)).2 ?_
    rw[show decide (64<w)=true from by simp_all,mh,Bool.true_or];exact .ret _
   ·refine(ak (by rw[dh];simp_all)).2 ?_
    rw[show decide (w<0)=false from by simp_all,show decide (64<w)=false from by simp_all,nC,nC,aeq x.1];obtain⟨k,rfl⟩:=aO (show 0<=w by omega);obtain⟨m,rfl⟩:=aO A;rw[rO] at u B ⊢;have l:af.b .add .i64 (m:Int) (k:Int)=((m+k:Nat):Int):=jA (by omega);have j:af.k ju ((m+k:Nat):Int)=(((m+k+7)/8:Nat):Int):=by rw[bo,uV (by omega) (by omega),rO]
    have p:(oW ((m:Int),b)++bitsOf v.toNat k).length=m+k:=by rw[ru,zC,my,rO]
    have o:(((v.toNat/2^k:Nat):Int) != 0)=false->∀t,t=(LT.br (af.jw (k:Int) (af.b .sub .i64 4096 (m:Int))) (.ret ((0,([]:List Int)),3)) (.ap (af.and (af.bK (af.k ju (af.b .add .i64 (m:Int) (k:Int))) (af.k ju (af.b .add .i64 (m:Int) (k:Int)))) (af.and (af.bU 0 (af.k ju (af.b .add .i64 (m:Int) (k:Int)))) (af.bU (af.k ju (af.b .add .i64 (m:Int) (k:Int))) 140737488355328))) (.ao (.c0 ⟨v,(k:Int),(k:Int),(m:Int),b,0,(af.b .add .i64 (m:Int) (k:Int))⟩ 0 (af.spl (af.r (af.k ju (af.b .add .i64 (m:Int) (k:Int))) (0:Int)) 0 (af.s b 0 (af.mn (af.l b) (af.l (af.r (af.k ju (af.b .add .i64 (m:Int) (k:Int))) (0:Int))))))))):LT ((Int×List Int)×Int) M9)->aW (aeI af) t (bif ((v.toNat/2^k:Nat):Int) != 0 then(zB,2) else ofS (oW ((m:Int),b)++bitsOf v.toNat k)):=by
     intro q t E;rw[q,cond_false,E,ofS,p,l,show af.b .sub .i64 (4096:Int) (m:Int)=((4096-m:Nat):Int) from wj (i:=4096) (by omega) (by omega)];by_cases J:4096<m+k
     ·rw[show decide (4096<m+k)=true from by simp_all]
      refine(al (by rw[dh];grind)).2 (.ret _)
     ·rw[show decide (4096<m+k)=false from by simp_all]
      refine(ak (by rw[dh];grind)).2 (au.2 ⟨?_,?_⟩)
      ·rw[j,u_,Dp rfl,aC,bl,bl];grind
      ·refine ao8 x.1 (by omega) (by omega) k 0 _ _ rfl rfl rfl rfl rfl rfl (by omega) ?_
       rw[mT,aI];exact grow u (by omega)
    by_cases I:k<64
    ·refine(al (by rw[aV];grind)).2 (au.2 ⟨u_,?_⟩)
     rw[aaq x.1 (by omega)];cases q:(((v.toNat/2^k:Nat):Int) != 0)
     ·refine(ak q).2 ?_
      simp_all
     ·exact(al q).2 (.ret _)
    ·refine(ak (by rw[aV];grind)).2 (o ?_ _ rfl)
     grind
def tP:((Int×List Int)×Int×Int)->((Int×List Int)×Int):=akL
def aqP:aM:=.all [(.struct [yI,yB]),(.int .u64),yI] [(.struct [yI,yB]),yI] tP
theorem aaz:Sd 259 aqP:=fa (bp ar dK sl 114 [⟨259,9, [[1,2,3,6,8,43,44]]⟩] [] (λA ((l,j),v,i)=>alA A l j v i) aeI aii (kz (fc Tryz.func259 (fc Tryz.func304 (fc Tryz.func305 (fc Tryz.func307 fz)))) (sc Mh (sc TA (sc TD sz)))) (λA y=>match y with |.c0 p m n=>⟨63,sl,by kernel_rfl⟩) λ((l,j),v,i) o h=>auY h)
structure VO where
 (a0 a2 a4:Int) (a5:List Int)
inductive acp where
 | c0 (p:VO) (a1:Int) (a3:Int)
noncomputable def aik:acp->iH
 | .c0 p a1 a3=>⟨[⟨321,54,(en [(1,vi p.a0),(3,.ptr 0 0),(8,.int .u64 false a1),(39,vi p.a2),(40,vi a3)]),sk Tryz.f321 [1,1,1,0,1,0,0],[],none⟩],[.ay false [vi p.a4,.sl yU p.a5],.aZ]⟩
def t138(A:aS)(j:Int)(l:List Int)(i:Int)(h:Int):LT (Int×Int) acp:=.br (A.cr (A.k rS (j,l)) 0) (.ret (0,10)) (.br (A.bD h 0) (.ret (0,2)) (.br (A.jw h 64) (.ret (0,2)) (.br (A.bD i 0) (.ret (0,2)) (.br (A.jw i j) (.ret (0,2)) (.br (A.jw h (A.b .sub .i64 j i)) (.ret (0,2)) (.ao (.c0 ⟨i,h,j,l⟩ 0 0)))))))
def ak6(A:aS):acp->LT (Int×Int) acp
 | .c0 p a1 a3=>.br (A.bD a3 p.a2) (.ap (A.k xD ((p.a4,p.a5),(A.b .add .i64 p.a0 a3))) (.br (A.k AT ((p.a4,p.a5),(A.b .add .i64 p.a0 a3))) (.ao (.c0 p (A.b .or .u64 (A.b .shl .u64 a1 1) 1) (A.b .add .i64 a3 1))) (.ao (.c0 p (A.b .shl .u64 a1 1) (A.b .add .i64 a3 1))))) (.ret (a1,0))
theorem XO{l:List Bool}{a k:Nat}(h:a+k<l.length):IW l a (k+1)=2*IW l a k+(l.getD (a+k) false).toNat:=by
 rw[IW,IW,C6 (by grind),zY,getD_drop]
theorem aoZ{k:Nat}(h:k<=64):2^k<=18446744073709551616:=aU (fS (by decide) h) (by decide)
theorem Ni{x:Nat}(h:2*x<18446744073709551616):af.b .shl .u64 (x:Int) 1=((2*x:Nat):Int):=by
 show IntKind.u64.wrap ((x:Int)*2^min (1:Int).toNat 64)=_;rw[show(2:Int)^min (1:Int).toNat 64=2 from rfl,afO (by omega) (by omega)];omega
theorem aek{x:Nat}(h:2*x<18446744073709551616):af.b .or .u64 ((2*x:Nat):Int) 1=((2*x+1:Nat):Int):=by
 show IntKind.u64.wrap ((BitVec.ofInt 64 ((2*x:Nat):Int) ||| BitVec.ofInt 64 1).toNat:Int)=_;rw[fR,show BitVec.ofInt 64 1=BitVec.ofNat 64 1 from rfl,BitVec.toNat_or,e_,e_,show 1%2^64=1 from rfl,ij (by omega)];have:=Nat.shiftLeft_add_eq_or_of_lt (i:=1) (b:=1) (by decide) x;rw[Nat.shiftLeft_eq,Nat.pow_one,mo x 2] at this;rw[<-this,afO (by omega) (by omega)]
theorem SF{w:Int}(h:Ty.jK [(.struct [(.int .i64),(.slice (.int .u8))]),(.int .i64),(.int .i64)] ((n,b),a,w)):Ty.has (.struct [(.int .i64),(.slice (.int .u8))]) (n,b)/\(-9223372036854775808<=a/\a<=9223372036854775807)/\(-9223372036854775808<=w/\w<=9223372036854775807):=h
theorem anl{n a w:Nat}(y:gT b)(C:b.length<=100000)(D:n<=8*b.length)(x:a+w<=n)(F:w<=64):∀(j k:Nat) (p:VO),p.a0=(a:Int)->p.a2=(w:Int)->p.a5=b->w-k=j->k<=w->aW (ak6 af) (.ao (.c0 p ((IW (unpack n b) a k:Nat):Int) (k:Int))) (((IW (unpack n b) a w:Nat):Int),0):=by
 intro j
 induction j with
 | zero=>
   intro k p q m o z A;have:k=w:=by omega
   subst this;simp[aB];exact(ak (by rw[m,bg];simp)).2 (.ret _)
 | succ j ih=>
   intro k p q m o z A;simp[aB];have h:af.b .add .i64 p.a0 (k:Int)=((a+k:Nat):Int):=by rw[q,jA (by omega)]
   have B:=PI (unpack n b) a k;have E:=aoZ (k:=k+1) (by omega);have i:=XO (l:=unpack n b) (a:=a) (k:=k) (by rw[eX];omega);rw[rq,show decide (a+k<n)=true from by grind,cY] at i;refine(al (by rw[m,bg];grind)).2 (au.2 ⟨by rw[h,o,bo];simp[xD];omega,?_⟩);have u:af.k AT ((p.a4,p.a5),af.b .add .i64 p.a0 (k:Int))=kl b (a+k):=by
    rw[h,o,bo,FT y (by omega) (by omega) (by omega),rO]
   have v:=ih (k+1) p q m o (by omega) (by omega);cases hx:kl b (a+k)
   ·rw[hx] at i
    refine(ak (u.trans hx)).2 ?_;rw[i,show 2*IW (unpack n b) a k+false.toNat=2*IW (unpack n b) a k from rfl,<-Ni (by omega),<-iC (by omega)] at v;omega
   ·rw[hx] at i
    refine(al (u.trans hx)).2 ?_;rw[i,show 2*IW (unpack n b) a k+true.toNat=2*IW (unpack n b) a k+1 from rfl,<-aek (by omega),<-Ni (by omega),<-iC (by omega)] at v;omega
theorem auE{w:Int}(h:Ty.jK [(.struct [(.int .i64),(.slice (.int .u8))]),(.int .i64),(.int .i64)] ((n,b),a,w)):aW (ak6 af) (t138 af n b a w) (adM ((n,b),a,w)):=by
 obtain⟨p,C,D⟩:=SF h;have o:=(u5 p).2.2;have x:=mQ p;unfold t138;rw[adM];have v:af.cr (af.k rS (n,b)) 0=!nW (n,b):=by
  rw[bo,A5 o x];cases nW (n,b)<;>rfl
 rw[v];cases hok:nW (n,b)
 ·exact(al rfl).2 (.ret _)
 ·refine(ak rfl).2 ?_
  obtain⟨y,z,q⟩:=(uP o).1 hok;have A:=q.1;by_cases l:w<0
  ·refine(al (by rw[aV];simpa using l)).2 ?_
   rw[show decide (w<0)=true from by simpa using l];exact .ret _
  refine(ak (by rw[aV];simpa using l)).2 ?_;by_cases B:64<w
  ·refine(al (by rw[dh];simp_all)).2 ?_
   rw[show decide (64<w)=true from by simp_all];simp;exact .ret _
  refine(ak (by rw[dh];simp_all)).2 ?_;by_cases m:a<0
  ·refine(al (by rw[aV];simpa using m)).2 ?_
   rw[show decide (a<0)=true from by simpa using m];simp;exact .ret _
  refine(ak (by rw[aV];simpa using m)).2 ?_;rw[show decide (w<0)=false from by simp_all,show decide (64<w)=false from by simp_all,show decide (a<0)=false from by simp_all];by_cases u:n<a
  ·refine(al (by rw[dh];simp_all)).2 ?_
   rw[show decide (n<a+w)=true from by grind];exact .ret _
  refine(ak (by rw[dh];simpa using u)).2 ?_;rw[gg,lC (by omega) (by omega)];by_cases j:n<a+w
  ·refine(al (by rw[dh];grind)).2 ?_
   rw[show decide (n<a+w)=true from by simp_all];exact .ret _
  refine(ak (by rw[dh];simp;omega)).2 ?_;rw[show decide (n<a+w)=false from by simpa using j];obtain⟨k,rfl⟩:=aO (show 0<=w by omega);obtain⟨i,rfl⟩:=aO (show 0<=a by omega);exact anl (n:=n.toNat) o (by omega) (by omega) (by omega) (by omega) k 0 _ rfl rfl rfl (by omega) (by omega)
def gq:((Int×List Int)×Int×Int)->(Int×Int):=adM
def aqT:aM:=.all [(.struct [yI,yB]),yI,yI] [(.int .u64),yI] gq
theorem TB:Sd 321 aqT:=fa (bp ar dK sl 65 [⟨321,7, [[1,3,8,39,40]]⟩] [] (λA ((m,l),j,i)=>t138 A m l j i) ak6 aik (kz (fc Tryz.func321 fz) (sc Mh (sc aaA sz))) (λA y=>match y with |.c0 p a1 n=>⟨45,sl,by kernel_rfl⟩) λ((m,l),j,i) o h=>auE h)
structure VQ where
 (a0 a1 a2 a4 a5:Int) (a6:List Int) (a7 a8:Int)
inductive T4 where
 | c0 (p:VQ) (a3:Int) (a9:List Int)
noncomputable def ail:T4->iH
 | .c0 p a3 a9=>⟨[⟨308,52,(en [(1,vi p.a0),(3,vi p.a1),(4,vi p.a2),(5,.ptr 0 0),(7,.ptr 1 0),(10,vi a3)]),sk Tryz.f308 [1,1,1,0,0],[],none⟩,⟨323,39,(en [(6,.ptr 2 0),(8,.ptr 3 0)]),(.ops (ow Tryz.f323 [1,1,1,0]) ((ow Tryz.f323 [1,1,1,0]).toList.drop 4)::sk Tryz.f323 [1,1,1,0]),[],none⟩],[.ay false [vi p.a4,.own 4],.ay false [vi p.a5,.sl yU p.a6],.ay false [vi p.a7,.gi true],.ay false [vi p.a8,.own 4],.arr false yU a9,.aZ]⟩
abbrev D5(A:aS)(h:Int)(i:Int):=(A.r (A.k ju (A.b .sub .i64 i h)) (0:Int))
def alC(A:aS)(l:Int)(j:List Int)(h:Int)(i:Int):LT ((Int×List Int)×Int) T4:=.br (A.cr (A.k rS (l,j)) 0) (.ret ((0,([]:List Int)),10)) (.br (A.bD h 0) (.ret ((0,([]:List Int)),2)) (.br (A.bD i h) (.ret ((0,([]:List Int)),2)) (.br (A.jw i l) (.ret ((0,([]:List Int)),2)) (.ap (A.and (A.bK (A.k ju (A.b .sub .i64 i h)) (A.k ju (A.b .sub .i64 i h))) (A.and (A.bU 0 (A.k ju (A.b .sub .i64 i h))) (A.bU (A.k ju (A.b .sub .i64 i h)) 140737488355328))) (.br (A.bK (A.b .rem .i64 h 8) 0) (.br (A.bK i l) (.ap (A.and (A.bU 0 0) (A.and (A.bU 0 (A.l (D5 A h i))) (A.bU (A.l (D5 A h i)) (A.l (D5 A h i))))) (.ap (A.and (A.bU 0 (A.b .quo .i64 h 8)) (A.and (A.bU (A.b .quo .i64 h 8) (A.l j)) (A.bU (A.l j) (A.l j)))) (.ret (((A.b .sub .i64 i h),(A.spl (D5 A h i) 0 (A.s (A.s j (A.b .quo .i64 h 8) (A.l j)) 0 (A.mn (A.l (A.s j (A.b .quo .i64 h 8) (A.l j))) (A.b .sub .i64 (A.l (D5 A h i)) 0))))),0)))) (.ao (.c0 ⟨0,h,i,(A.b .sub .i64 i h),l,j,0,(A.b .sub .i64 i h)⟩ h (D5 A h i)))) (.ao (.c0 ⟨0,h,i,(A.b .sub .i64 i h),l,j,0,(A.b .sub .i64 i h)⟩ h (D5 A h i))))))))
def Z4(A:aS):T4->LT ((Int×List Int)×Int) T4
 | .c0 p a3 a9=>.br (A.bD a3 p.a2) (.ap (A.k xD ((p.a5,p.a6),a3)) (.br (A.k AT ((p.a5,p.a6),a3)) (.ap (A.and (A.bU 0 (A.b .quo .i64 (A.b .sub .i64 (A.b .add .i64 p.a0 a3) p.a1) 8)) (A.bD (A.b .quo .i64 (A.b .sub .i64 (A.b .add .i64 p.a0 a3) p.a1) 8) (A.l a9))) (.ap (A.k xE (A.b .sub .i64 (A.b .add .i64 p.a0 a3) p.a1)) (.ap (A.and (A.bU 0 (A.b .quo .i64 (A.b .sub .i64 (A.b .add .i64 p.a0 a3) p.a1) 8)) (A.bD (A.b .quo .i64 (A.b .sub .i64 (A.b .add .i64 p.a0 a3) p.a1) 8) (A.l a9))) (.ao (.c0 p (A.b .add .i64 a3 1) (A.set a9 (A.b .quo .i64 (A.b .sub .i64 (A.b .add .i64 p.a0 a3) p.a1) 8) (A.b .or .u8 (A.n yU a9 (A.b .quo .i64 (A.b .sub .i64 (A.b .add .i64 p.a0 a3) p.a1) 8):Int) (A.k DC (A.b .sub .i64 (A.b .add .i64 p.a0 a3) p.a1))))))))) (.ao (.c0 p (A.b .add .i64 a3 1) a9)))) (.ret ((p.a8,a9),0))
theorem aeU{n a c:Nat}(F:gT b)(I:b.length<=100000)(J:n<=8*b.length)(E:a<=c)(A:c<=n):∀(j i:Nat) (p:VQ) (B:List Int),p.a0=0->p.a1=(a:Int)->p.a2=(c:Int)->p.a6=b->p.a8=((c-a:Nat):Int)->c-i=j->a<=i->i<=c->lX B ((((unpack n b).take c).drop a).take (i-a)) ((c-a+7)/8)->aW (Z4 af) (.ao (.c0 p (i:Int) B)) (O5 (((unpack n b).take c).drop a),0):=by
 have D:(((unpack n b).take c).drop a).length=c-a:=by rw[cN,c_,eX];omega
 intro j
 induction j with
 | zero=>
   intro i p B v x o q y H G C m;have:i=c:=by omega
   subst this;simp[aB];refine(ak (by rw[o,bg];simp)).2 ?_;rw[cH (by omega)] at m;rw[y,m.done (by rw[D]),show O5 (((unpack n b).take i).drop a)=(((i-a:Nat):Int),pack (((unpack n b).take i).drop a)) from by rw[O5,D]];exact .ret _
 | succ j ih=>
   intro i p B v x o q y H G C m;simp[aB];have z:af.b .sub .i64 (af.b .add .i64 p.a0 (i:Int)) p.a1=((i-a:Nat):Int):=by
    rw[v,x,show af.b .add .i64 (0:Int) (i:Int)=((0+i:Nat):Int) from jA (i:=0) (by omega),wj (by omega) (by omega),gx]
   have h:=C6 (l:=((unpack n b).take c).drop a) (i:=i-a) (by omega);rw[getD_drop,getD_take,rq,show a+(i-a)=i from by omega,show decide (i<c)=true from by grind,show decide (i<n)=true from by grind,cY,cY] at h;have u:((((unpack n b).take c).drop a).take (i-a)).length=i-a:=by simp_all
   refine(al (by rw[o,bg];grind)).2 (au.2 ⟨by rw[q,bo];simp[xD];omega,?_⟩);have A:af.k AT ((p.a5,p.a6),(i:Int))=kl b i:=by
    rw[q,bo,FT F (by omega) (by omega) (by omega),rO]
   rw[z];cases hx:kl b i
   ·rw[hx] at h
    refine(ak (A.trans hx)).2 ?_;refine lW (congrArg LT.ao (congr (congrArg (T4.c0 p) (iC (by omega))) rfl)) (ih (i+1) p B v x o q y (by omega) (by omega) (by omega) ?_);rw[show i+1-a=i-a+1 from by omega,h];exact m.skip
   ·rw[hx] at h
    refine(al (A.trans hx)).2 (au.2 ⟨vm m.1 (by omega) (by omega),au.2 ⟨CB,au.2 ⟨vm m.1 (by omega) (by omega),?_⟩⟩⟩);refine lW (congrArg LT.ao (congr (congrArg (T4.c0 p) (iC (by omega))) rfl)) (ih (i+1) p _ v x o q y (by omega) (by omega) (by omega) ?_);rw[show i+1-a=i-a+1 from by omega,h];exact G9 m u (by omega) (by omega)
theorem Ub(b:List Int)(i j:Nat):kl (b.drop i) j=kl b (8*i+j):=by
 rw[kl,kl,yb,yb,bX,show(8*i+j)/8=i+j/8 from by omega,show(8*i+j)%8=j%8 from by omega]
theorem UI{n:Nat}(h:okB n b)(q:8*i<=n):b.drop i=pack ((unpack n b).drop (8*i)):=by
 have o:=h.1;apply Tc
 ·rw[cN,cN,eX];omega
 ·exact λx m=>h.2.1 x (List.mem_of_mem_drop m)
 ·intro j l
  rw[cN] at l;rw[Ub,getD_drop,rq];by_cases p:8*i+j<n
  ·simp_all
  ·rw[show decide (8*i+j<n)=false from by simp_all,gn]
   exact h.2.2 _ (by omega) (by omega)
theorem TM:af.s b (i:Int) (af.l b)=b.drop i:=by
 show(b.take (b.length:Int).toNat).drop (i:Int).toNat=_
 simp_all
theorem ak_{c:Int}(h:Ty.jK [(.struct [(.int .i64),(.slice (.int .u8))]),(.int .i64),(.int .i64)] ((n,b),a,c)):aW (Z4 af) (alC af n b a c) (QW ((n,b),a,c)):=by
 obtain⟨x,N,O⟩:=SF h;have v:=(u5 x).2.2;have G:=mQ x;unfold alC D5;rw[QW];have F:af.cr (af.k rS (n,b)) 0=!nW (n,b):=by
  rw[bo,A5 v G];cases nW (n,b)<;>rfl
 rw[F];cases hok:nW (n,b)
 ·exact(al rfl).2 (.ret _)
 ·refine(ak rfl).2 ?_
  obtain⟨B,H,u⟩:=(uP v).1 hok;have C:=u.1;by_cases I:a<0
  ·refine(al (by rw[aV];simp_all)).2 ?_
   rw[show decide (a<0)=true from by simp_all];exact .ret _
  refine(ak (by rw[aV];simp_all)).2 ?_;by_cases J:c<a
  ·refine(al (by rw[aV];simp_all)).2 ?_
   rw[show decide (c<a)=true from by simp_all];simp;exact .ret _
  refine(ak (by rw[aV];simp_all)).2 ?_;by_cases K:n<c
  ·refine(al (by rw[dh];simp_all)).2 ?_
   rw[show decide (n<c)=true from by simp_all];simp;exact .ret _
  refine(ak (by rw[dh];simp_all)).2 ?_;rw[show decide (a<0)=false from by simp_all,show decide (c<a)=false from by simp_all,show decide (n<c)=false from by simp_all];obtain⟨k,rfl⟩:=aO (show 0<=c by omega);obtain⟨i,rfl⟩:=aO (show 0<=a by omega);obtain⟨m,rfl⟩:=aO B;rw[rO] at u C;have p:af.b .sub .i64 (k:Int) (i:Int)=((k-i:Nat):Int):=wj (by omega) (by omega);have l:af.k ju ((k-i:Nat):Int)=(((k-i+7)/8:Nat):Int):=by rw[bo,uV (by omega) (by omega),rO]
  show aW (Z4 af) _ (O5 (((unpack m b).take k).drop i),0);rw[p];have o:af.r (af.k ju ((k-i:Nat):Int)) (0:Int)=List.replicate ((k-i+7)/8) 0:=by rw[l,yv,rO]
  have j:aW (Z4 af) (.ao (.c0 ⟨0,(i:Int),(k:Int),((k-i:Nat):Int),(m:Int),b,0,((k-i:Nat):Int)⟩ (i:Int) (af.r (af.k ju ((k-i:Nat):Int)) (0:Int)))) (O5 (((unpack m b).take k).drop i),0):=by
   refine aeU v (by omega) (by omega) (by omega) (by omega) (k-i) i _ _ rfl rfl rfl rfl rfl (by omega) (by omega) (by omega) ?_;rw[kx,mT,o];exact lX.blank _
  refine au.2 ⟨by rw[l,u_,Dp rfl,aC,bl,bl];grind,?_⟩;by_cases D:i%8=0
  ·refine(al (Dp (by rw[EC,D];rfl))).2 ?_
   by_cases q:k=m
   ·subst q
    refine(al (Dp rfl)).2 (au.2 ⟨?_,au.2 ⟨?_,?_⟩⟩)
    ·rw[o]
     have:af.l (List.replicate ((k-i+7)/8) (0:Int))=(((k-i+7)/8:Nat):Int):=by show((List.replicate ((k-i+7)/8) (0:Int)).length:Int)=_;simp_all
     rw[this,u_,t_,bl,bl];simp[aC]
    ·have:af.l b=((b.length:Nat):Int):=rfl
     rw[vR (by omega),this,u_,t_,t_,bl,bl];grind
    ·have y:=UI u (i:=i/8) (by omega)
     rw[show 8*(i/8)=i from by omega] at y;have E:((unpack k b).drop i).length=k-i:=by rw[cN,eX]
     rw[o,vR (by omega),TM];have z:af.mn (af.l (b.drop (i/8))) (af.b .sub .i64 (af.l (List.replicate ((k-i+7)/8) (0:Int))) 0)=((b.drop (i/8)).length:Int):=by
      show af.mn ((b.drop (i/8)).length:Int) (af.b .sub .i64 ((List.replicate ((k-i+7)/8) (0:Int)).length:Int) 0)=_;rw[IZ,gg,lC (by omega) (by omega),oR,if_neg (by rw[cN];omega)]
     rw[z,jX,oB,rO,eB];have A:(List.replicate ((k-i+7)/8) (0:Int)).take (0:Int).toNat++(b.drop (i/8)).drop (0:Int).toNat++(List.replicate ((k-i+7)/8) (0:Int)).drop ((0:Int).toNat+((b.drop (i/8)).drop (0:Int).toNat).length)=b.drop (i/8):=by grind
     rw[A,y,cH (by grind),show O5 ((unpack k b).drop i)=(((k-i:Nat):Int),pack ((unpack k b).drop i)) from by rw[O5,E]];exact .ret _
   ·exact(ak (RL (by omega))).2 j
  ·exact(ak (RL (by rw[EC];omega))).2 j
def xb:((Int×List Int)×Int×Int)->((Int×List Int)×Int):=QW
def aqV:aM:=.all [(.struct [yI,yB]),yI,yI] [(.struct [yI,yB]),yI] xb
theorem agE:Sd 323 aqV:=fa (bp ar dK sl 118 [⟨308,4, [[1,3,4,5,7,10], [6,8]]⟩] [] (λA ((l,j),i,m)=>alC A l j i m) Z4 ail (kz (fc Tryz.func323 (fc Tryz.func305 (fc Tryz.func307 (fc Tryz.func308 fz)))) (sc Mh (sc TA (sc aaA (sc TD sz))))) (λA y=>match y with |.c0 p n o=>⟨57,sl,by kernel_rfl⟩) λ((l,j),i,m) q h=>ak_ h)
variable{l:List (Int×List Int)}
theorem A7(h:Ty.jK [(.slice (.struct [(.int .i64),(.slice (.int .u8))]))] l):l.length<=140737488355328/\∀x∈l,gT x.2/\x.2.length<=140737488355328:=by
 have i:l.length<=gj/\∀x∈l,Ty.has (.struct [(.int .i64),(.slice (.int .u8))]) x:=h;exact⟨i.1,λx j=>⟨(u5 (n:=x.1) (b:=x.2) (i.2 x j)).2.2,(u5 (n:=x.1) (b:=x.2) (i.2 x j)).2.1⟩⟩
variable{α:Type}
theorem fL{l:List α}(h:i<l.length)(d:α):l.getD (i:Int).toNat d=l[i]:=by simp_all
theorem Gz(h:i<l.length):(af.n (.struct [(.int .i64),(.slice (.int .u8))]) l (i:Int):Int×List Int)=l[i]:=by
 exact fL h _
theorem du{l:List α}(h:i<l.length):af.and (af.bU 0 (i:Int)) (af.bD (i:Int) (af.l l))=true:=by
 have:af.l l=(l.length:Int):=rfl;rw[this,u_,bg,bl];simp_all
theorem aic{x:Int×List Int}(h:nW x=true):(oW x).length<=4096:=by
 rw[zC];simp[nW,fQ,sK] at h;omega
theorem Zv{l:List Bool}(h:4096<l.length):ofS l=(zB,3):=by
 rw[ofS,show decide (4096<l.length)=true from by simpa using h];rfl
theorem yx(h:i<l.length):(l.take (i+1)).flatMap oW=(l.take i).flatMap oW++oW l[i]:=by
 rw[bf h,lV];simp
theorem UF{l:List Bool}(h:l.length<=4096):ofS l=(O5 l,0):=by
 rw[ofS,show decide (4096<l.length)=false from by simpa using h];rfl
def alG(A:aS)(r:Int):LT Int Empty:=.br (A.bK (A.b .shr .u32 r 23) 1) (.ret (A.b .xor .u32 (A.b .and .u32 (A.b .shl .u32 r 1) 16777215) 6122955)) (.ret (A.b .and .u32 (A.b .shl .u32 r 1) 16777215))
def JI:Int->Int:=λr=>(alG af r).val (Ty.aR [(.int .u32)])
def are:aM:=.all [(.int .u32)] [(.int .u32)] JI
theorem agJ:Sd 345 are:=fa (aP ar dK sl 35 [] (λA r=>alG A r) (kz (fc Tryz.func345 fz) sz) (λ_ _ _=>LT.bE (by kernel_rfl)))
theorem afN(h:0<=a)(i:a<=4294967295):IntKind.u32.wrap a=a:=IntWalk.u32_in a ⟨h,i⟩
theorem TX{a b:Nat}(h:a<4294967296)(i:b<4294967296):af.b .xor .u32 (a:Int) (b:Int)=((a ^^^ b:Nat):Int):=by
 show IntKind.u32.wrap ((BitVec.ofInt 32 (a:Int) ^^^ BitVec.ofInt 32 (b:Int)).toNat:Int)=_;rw[fR,fR,BitVec.toNat_xor,e_,e_,ij h,ij i];have:a ^^^ b<2^32:=Nat.xor_lt_two_pow h i;rw[afN (by omega) (by omega)]
theorem afZ{a:Nat}(h:a<4294967296):af.b .and .u32 (a:Int) 16777215=((a%16777216:Nat):Int):=by
 show IntKind.u32.wrap ((BitVec.ofInt 32 (a:Int) &&& BitVec.ofInt 32 ((16777215:Nat):Int)).toNat:Int)=_;rw[fR,fR,BitVec.toNat_and,e_,e_,ij h,show 16777215%2^32=2^24-1 from rfl,Nat.and_two_pow_sub_one_eq_mod,afN (by omega) (by omega)]
theorem aao{a k:Nat}(i:k<=32)(h:a*2^k<4294967296):af.b .shl .u32 (a:Int) (k:Int)=((a*2^k:Nat):Int):=by
 show IntKind.u32.wrap ((a:Int)*2^min (k:Int).toNat 32)=_;rw[rO,iL i,show(a:Int)*2^k=((a*2^k:Nat):Int) from by simp,afN (by omega) (by omega)]
theorem XZ{r:Nat}(m:r<16777216):JI (r:Int)=((step1 r false:Nat):Int):=by
 simp[JI,alG,LT.val];have h:af.b .shr .u32 (r:Int) 23=((r/2^23:Nat):Int):=agC (n:=23) (by omega) (by decide);have i:af.b .and .u32 (af.b .shl .u32 (r:Int) 1) 16777215=((2*r%16777216:Nat):Int):=by
  have j:af.b .shl .u32 (r:Int) 1=((r*2^1:Nat):Int):=aao (k:=1) (by decide) (by omega);rw[j,afZ (by omega),Nat.pow_one,mo]
 rw[h,i,step1,Bool.bne_false];have l:af.bK ((r/2^23:Nat):Int) 1=decide (8388608<=r):=by
  rw[bd,gE,sK,beq_iff_eq];omega
 rw[l];cases decide (8388608<=r)
 ·rfl
 ·have:af.b .xor .u32 ((2*r%16777216:Nat):Int) 6122955=((2*r%16777216 ^^^ 6122955:Nat):Int):=TX (b:=6122955) (by omega) (by decide)
  simp_all
structure ahs where
 (a0 a1 a2 a3 a4 a5 a6 a7 a8 a9 jd kU a12 Dl Ju MZ a16 a17 O2 O3 a20 a21 a22 a23 a24 a25 a26 a27 a28 a29 a30 a31 a32:Int)
structure VS where
 (b0 b2 b4 b5 b6 b7 b8 b9 b10 b11 b12 b13 Jx EZ je wv T9 B7 T_ O4 Ph b23 b24 b25 b26 b27 b28 b29 b30 b31 b32 b33 b34 b35:Int)
inductive acv where
 | c0 (p:ahs)
 | c1 (p:VS) (b1:Int) (b3:Int)
noncomputable def ais:acv->iH
 | .c0 p=>⟨[⟨329,20,(en [(0,.ptr 0 0),(1,.ptr 1 0),(4,vi p.a0)]),sk Tryz.f329 [1,1,0,1,0,0],[],none⟩],[.ay false [.int .u32 false p.a1,.int .u32 false p.a2,.int .u32 false p.a3,.int .u32 false p.a4,.int .u32 false p.a5,.int .u32 false p.a6,.int .u32 false p.a7,.int .u32 false p.a8,.int .u32 false p.a9,.int .u32 false p.jd,.int .u32 false p.kU,.int .u32 false p.a12,.int .u32 false p.Dl,.int .u32 false p.Ju,.int .u32 false p.MZ,.int .u32 false p.a16],.ay false [.int .u32 false p.a17,.int .u32 false p.O2,.int .u32 false p.O3,.int .u32 false p.a20,.int .u32 false p.a21,.int .u32 false p.a22,.int .u32 false p.a23,.int .u32 false p.a24,.int .u32 false p.a25,.int .u32 false p.a26,.int .u32 false p.a27,.int .u32 false p.a28,.int .u32 false p.a29,.int .u32 false p.a30,.int .u32 false p.a31,.int .u32 false p.a32],.aZ]⟩
 | .c1 p b1 b3=>⟨[⟨329,20,(en [(0,.ptr 0 0),(1,.ptr 1 0),(2,vi p.b0),(3,.int .u32 false b1),(4,vi p.b2),(10,vi b3)]),sk Tryz.f329 [1,1,0,1,0,0,1,1,0,0,1,1,0,1,0,0],[],none⟩],[.ay false [.int .u32 false p.b4,.int .u32 false p.b5,.int .u32 false p.b6,.int .u32 false p.b7,.int .u32 false p.b8,.int .u32 false p.b9,.int .u32 false p.b10,.int .u32 false p.b11,.int .u32 false p.b12,.int .u32 false p.b13,.int .u32 false p.Jx,.int .u32 false p.EZ,.int .u32 false p.je,.int .u32 false p.wv,.int .u32 false p.T9,.int .u32 false p.B7],.ay false [.int .u32 false p.T_,.int .u32 false p.O4,.int .u32 false p.Ph,.int .u32 false p.b23,.int .u32 false p.b24,.int .u32 false p.b25,.int .u32 false p.b26,.int .u32 false p.b27,.int .u32 false p.b28,.int .u32 false p.b29,.int .u32 false p.b30,.int .u32 false p.b31,.int .u32 false p.b32,.int .u32 false p.b33,.int .u32 false p.b34,.int .u32 false p.b35],.aZ]⟩
def as1(A:aS):LT (List Int) acv:=.ao (.c0 ⟨0,0,0,0,0,0,0,0,0,0,0,0,0,0,0,0,0,0,0,0,0,0,0,0,0,0,0,0,0,0,0,0,0⟩)
abbrev kZ(A:aS)(p:VS)(h:Int):=(A.set [p.T_,p.O4,p.Ph,p.b23,p.b24,p.b25,p.b26,p.b27,p.b28,p.b29,p.b30,p.b31,p.b32,p.b33,p.b34,p.b35] p.b0 h)
def apd(A:aS):acv->LT (List Int) acv
 | .c0 p=>.br (A.bD p.a0 16) (.ao (.c1 ⟨p.a0,p.a0,p.a1,p.a2,p.a3,p.a4,p.a5,p.a6,p.a7,p.a8,p.a9,p.jd,p.kU,p.a12,p.Dl,p.Ju,p.MZ,p.a16,p.a17,p.O2,p.O3,p.a20,p.a21,p.a22,p.a23,p.a24,p.a25,p.a26,p.a27,p.a28,p.a29,p.a30,p.a31,p.a32⟩ (A.b .shl .u32 (A.v .u32 p.a0) 20) 0)) (.ret [p.a17,p.O2,p.O3,p.a20,p.a21,p.a22,p.a23,p.a24,p.a25,p.a26,p.a27,p.a28,p.a29,p.a30,p.a31,p.a32])
 | .c1 p b1 b3=>.br (A.bD b3 4) (.ao (.c1 p (A.k JI b1) (A.b .add .i64 b3 1))) (.ap (A.and (A.bU 0 p.b0) (A.bD p.b0 16)) (.ao (.c0 ⟨(A.b .add .i64 p.b2 1),p.b4,p.b5,p.b6,p.b7,p.b8,p.b9,p.b10,p.b11,p.b12,p.b13,p.Jx,p.EZ,p.je,p.wv,p.T9,p.B7,(A.n (.int .u32) (kZ A p b1) 0:Int),(A.n (.int .u32) (kZ A p b1) 1:Int),(A.n (.int .u32) (kZ A p b1) 2:Int),(A.n (.int .u32) (kZ A p b1) 3:Int),(A.n (.int .u32) (kZ A p b1) 4:Int),(A.n (.int .u32) (kZ A p b1) 5:Int),(A.n (.int .u32) (kZ A p b1) 6:Int),(A.n (.int .u32) (kZ A p b1) 7:Int),(A.n (.int .u32) (kZ A p b1) 8:Int),(A.n (.int .u32) (kZ A p b1) 9:Int),(A.n (.int .u32) (kZ A p b1) 10:Int),(A.n (.int .u32) (kZ A p b1) 11:Int),(A.n (.int .u32) (kZ A p b1) 12:Int),(A.n (.int .u32) (kZ A p b1) 13:Int),(A.n (.int .u32) (kZ A p b1) 14:Int),(A.n (.int .u32) (kZ A p b1) 15:Int)⟩)))
def goT{R Y:Type}(step:Y->LT R Y):Nat->LT R Y->Option R
 | 0,_=>none
 | _+1,.ret r=>some r
 | n+1,.ao y=>goT step n (step y)
 | n+1,.br b t e=>bif b then goT step n t else goT step n e
 | n+1,.ap b t=>bif b then goT step n t else none
 | _+1,_=>none
theorem Yz{R:Type}{step:Y->LT R Y}:∀{n:Nat} {t:LT R Y} {r:R},goT step n t=some r->aW step t r:=by
 intro n
 induction n with
 | zero=>intro t r h;cases h
 | succ n ih=>
   intro t r h;cases t with
   | ret x=>cases h;exact .ret _
   | ao y=>exact .ao (ih h)
   | br b t e=>
     cases b
     ·exact(ak rfl).2 (ih h)
     ·exact(al rfl).2 (ih h)
   | ap b t=>
     cases b
     ·cases h
     ·exact au.2 ⟨rfl,ih h⟩
   | eqs p t=>cases h
   | and a b=>cases h
   | bT m s=>cases h
def atB:List Int:=[0,6122955,12245910,15185501,2677479,7714604,9568625,13593786,5354958,841733,15429208,11928467,7958313,2360034,12825791,10410356]
theorem abN:∀i:Fin 16,atB.getD i.val 0=((OQ.getD i.val 0:Nat):Int):=by decide +kernel
theorem abM:∀i:Fin 16,OQ.getD i.val 0<16777216:=by decide +kernel
theorem amD:aW (apd af) (as1 af) atB:=Yz (n:=400) (by kernel_rfl)
def qY:Unit->(List Int):=λ_=>[0,6122955,12245910,15185501,2677479,7714604,9568625,13593786,5354958,841733,15429208,11928467,7958313,2360034,12825791,10410356]
def arb:aM:=.all [] [(.arr 16 (.int .u32))] qY
theorem apA:Sd 329 arb:=fa (bp ar dK sl 21 [⟨329,3, [[0,1,4]]⟩,⟨329,7, [[0,1,2,3,4,10]]⟩] [] (λA _=>as1 A) apd ais (kz (fc Tryz.func329 fz) (sc agJ sz)) (λA y=>match y with |.c0 p=>⟨34,sl,by kernel_rfl⟩|.c1 p b1 b3=>⟨25,sl,by kernel_rfl⟩) λ_ i h=>amD)
structure ES where
 (a0:Int) (a1:List (Int×List Int)) (a2 a3 a4 a5 a6 a7 a8 a9 jd kU a12 Dl Ju MZ a16 a17 O2 O3:Int)
structure O7 where
 (b2:List (Int×List Int)) (b3 b4 b5 b6 b7 b8 b9 b10 b11 b12 b13 Jx EZ je wv T9 B7 T_ O4:Int) (Ph:List Int)
structure O8 where
 (c2:List (Int×List Int)) (c3 c4 c5:Int) (c6:List Int) (c7 c8 c9 c10 c11 c12 c13 c14 Nf c16 c17 c18 c19 c20 c21 c22:Int)
inductive T6 where
 | c0 (p:ES)
 | c1 (p:O7) (b0:Int) (b1:Int)
 | c2 (p:O8) (c0:Int) (c1:Int)
noncomputable def aip:T6->iH
 | .c0 p=>⟨[⟨306,26,(en [(4,.ptr 0 0),(5,.int .u32 false p.a0),(10,.sl (.struct [yI,yB]) p.a1),(11,vi p.a2),(12,vi p.a3)]),sk Tryz.f306 [1,1,1,0,1,0,0],[],none⟩],[.ay false [.int .u32 false p.a4,.int .u32 false p.a5,.int .u32 false p.a6,.int .u32 false p.a7,.int .u32 false p.a8,.int .u32 false p.a9,.int .u32 false p.jd,.int .u32 false p.kU,.int .u32 false p.a12,.int .u32 false p.Dl,.int .u32 false p.Ju,.int .u32 false p.MZ,.int .u32 false p.a16,.int .u32 false p.a17,.int .u32 false p.O2,.int .u32 false p.O3],.aZ]⟩
 | .c1 p b0 b1=>⟨[⟨330,57,(en [(0,.int .u32 false b0),(2,.ptr 0 0),(4,.ptr 1 0),(7,vi b1)]),sk Tryz.f330 [1,1,0,0,0],[],none⟩,⟨306,26,(en [(4,.ptr 0 0),(10,.sl (.struct [yI,yB]) p.b2),(11,vi p.b3),(12,vi p.b4)]),(.ops (ow Tryz.f306 [1,1,1,0,1,0,0,1,1,0,0,1,1]) ((ow Tryz.f306 [1,1,1,0,1,0,0,1,1,0,0,1,1]).toList.drop 2)::sk Tryz.f306 [1,1,1,0,1,0,0,1,1,0,0,1,1]),[],none⟩],[.ay false [.int .u32 false p.b5,.int .u32 false p.b6,.int .u32 false p.b7,.int .u32 false p.b8,.int .u32 false p.b9,.int .u32 false p.b10,.int .u32 false p.b11,.int .u32 false p.b12,.int .u32 false p.b13,.int .u32 false p.Jx,.int .u32 false p.EZ,.int .u32 false p.je,.int .u32 false p.wv,.int .u32 false p.T9,.int .u32 false p.B7,.int .u32 false p.T_],.ay false [vi p.O4,.sl yU p.Ph],.aZ]⟩
 | .c2 p c0 c1=>⟨[⟨330,57,(en [(0,.int .u32 false c0),(4,.ptr 0 0),(7,vi c1)]),sk Tryz.f330 [1,1,1,0,0,0],[],none⟩,⟨306,26,(en [(4,.ptr 1 0),(10,.sl (.struct [yI,yB]) p.c2),(11,vi p.c3),(12,vi p.c4)]),(.ops (ow Tryz.f306 [1,1,1,0,1,0,0,1,1,0,0,1,1]) ((ow Tryz.f306 [1,1,1,0,1,0,0,1,1,0,0,1,1]).toList.drop 2)::sk Tryz.f306 [1,1,1,0,1,0,0,1,1,0,0,1,1]),[],none⟩],[.ay false [vi p.c5,.sl yU p.c6],.ay false [.int .u32 false p.c7,.int .u32 false p.c8,.int .u32 false p.c9,.int .u32 false p.c10,.int .u32 false p.c11,.int .u32 false p.c12,.int .u32 false p.c13,.int .u32 false p.c14,.int .u32 false p.Nf,.int .u32 false p.c16,.int .u32 false p.c17,.int .u32 false p.c18,.int .u32 false p.c19,.int .u32 false p.c20,.int .u32 false p.c21,.int .u32 false p.c22],.aZ]⟩
def asY(A:aS)(l:List (Int×List Int)):LT (Int×Int) T6:=.ao (.c0 ⟨0,l,(A.l l),0,(A.n (.int .u32) (A.k qY ()) 0:Int),(A.n (.int .u32) (A.k qY ()) 1:Int),(A.n (.int .u32) (A.k qY ()) 2:Int),(A.n (.int .u32) (A.k qY ()) 3:Int),(A.n (.int .u32) (A.k qY ()) 4:Int),(A.n (.int .u32) (A.k qY ()) 5:Int),(A.n (.int .u32) (A.k qY ()) 6:Int),(A.n (.int .u32) (A.k qY ()) 7:Int),(A.n (.int .u32) (A.k qY ()) 8:Int),(A.n (.int .u32) (A.k qY ()) 9:Int),(A.n (.int .u32) (A.k qY ()) 10:Int),(A.n (.int .u32) (A.k qY ()) 11:Int),(A.n (.int .u32) (A.k qY ()) 12:Int),(A.n (.int .u32) (A.k qY ()) 13:Int),(A.n (.int .u32) (A.k qY ()) 14:Int),(A.n (.int .u32) (A.k qY ()) 15:Int)⟩)
def Jc(A:aS):T6->LT (Int×Int) T6
 | .c0 p=>.br (A.bD p.a3 p.a2) (.ap (A.and (A.bU 0 p.a3) (A.bD p.a3 (A.l p.a1))) (.br (A.cr (A.k rS (A.n (.struct [yI,yB]) p.a1 p.a3:Int×List Int)) 0) (.ret (0,(A.k rS (A.n (.struct [yI,yB]) p.a1 p.a3:Int×List Int)))) (.ao (.c1 ⟨p.a1,p.a2,p.a3,p.a4,p.a5,p.a6,p.a7,p.a8,p.a9,p.jd,p.kU,p.a12,p.Dl,p.Ju,p.MZ,p.a16,p.a17,p.O2,p.O3,(A.n (.struct [yI,yB]) p.a1 p.a3:Int×List Int).1,(A.n (.struct [yI,yB]) p.a1 p.a3:Int×List Int).2⟩ p.a0 0)))) (.ret (p.a0,0))
 | .c1 p b0 b1=>.br (A.bU (A.b .add .i64 b1 4) p.O4) (.ap (A.and (A.bU 0 (A.b .xor .u32 (A.b .shr .u32 b0 20) (A.v .u32 (A.k gq ((p.O4,p.Ph),b1,4)).1))) (A.bD (A.b .xor .u32 (A.b .shr .u32 b0 20) (A.v .u32 (A.k gq ((p.O4,p.Ph),b1,4)).1)) 16)) (.ao (.c1 p (A.b .xor .u32 (A.b .and .u32 (A.b .shl .u32 b0 4) 16777215) (A.n (.int .u32) [p.b5,p.b6,p.b7,p.b8,p.b9,p.b10,p.b11,p.b12,p.b13,p.Jx,p.EZ,p.je,p.wv,p.T9,p.B7,p.T_] (A.b .xor .u32 (A.b .shr .u32 b0 20) (A.v .u32 (A.k gq ((p.O4,p.Ph),b1,4)).1)):Int)) (A.b .add .i64 b1 4)))) (.ao (.c2 ⟨p.b2,p.b3,p.b4,p.O4,p.Ph,p.b5,p.b6,p.b7,p.b8,p.b9,p.b10,p.b11,p.b12,p.b13,p.Jx,p.EZ,p.je,p.wv,p.T9,p.B7,p.T_⟩ b0 b1))
 | .c2 p c0 c1=>.br (A.bD c1 p.c5) (.ao (.c2 p (A.k JI (A.b .xor .u32 c0 (A.b .shl .u32 (A.v .u32 (A.k gq ((p.c5,p.c6),c1,1)).1) 23))) (A.b .add .i64 c1 1))) (.ao (.c0 ⟨c0,p.c2,p.c3,(A.b .add .i64 p.c4 1),p.c7,p.c8,p.c9,p.c10,p.c11,p.c12,p.c13,p.c14,p.Nf,p.c16,p.c17,p.c18,p.c19,p.c20,p.c21,p.c22⟩))
theorem Pp{β γ:Type}(f:α->β->γ){a h:α}{b i:β}(j:a=h)(l:b=i):f a b=f h i:=by simp_all
def tbA(p:ES):Prop:=p.a4=0/\p.a5=6122955/\p.a6=12245910/\p.a7=15185501/\p.a8=2677479/\p.a9=7714604/\p.jd=9568625/\p.kU=13593786/\p.a12=5354958/\p.Dl=841733/\p.Ju=15429208/\p.MZ=11928467/\p.a16=7958313/\p.a17=2360034/\p.O2=12825791/\p.O3=10410356
def tbB(p:O7):Prop:=p.b5=0/\p.b6=6122955/\p.b7=12245910/\p.b8=15185501/\p.b9=2677479/\p.b10=7714604/\p.b11=9568625/\p.b12=13593786/\p.b13=5354958/\p.Jx=841733/\p.EZ=15429208/\p.je=11928467/\p.wv=7958313/\p.T9=2360034/\p.B7=12825791/\p.T_=10410356
def tbC(p:O8):Prop:=p.c7=0/\p.c8=6122955/\p.c9=12245910/\p.c10=15185501/\p.c11=2677479/\p.c12=7714604/\p.c13=9568625/\p.c14=13593786/\p.Nf=5354958/\p.c16=841733/\p.c17=15429208/\p.c18=11928467/\p.c19=7958313/\p.c20=2360034/\p.c21=12825791/\p.c22=10410356
theorem Yy{n a w:Nat}(i:nW ((n:Int),b)=true)(h:a+w<=n)(l:w<=64)(j:n<=4096):af.k gq (((n:Int),b),(a:Int),(w:Int))=(((IW (unpack n b) a w:Nat):Int),0):=by
 rw[bo,gq,adM];simp only[i];rw[show decide ((w:Int)<0)=false from by simp,show decide (64<(w:Int))=false from by simp;omega,show decide ((a:Int)<0)=false from by simp,show decide ((n:Int)<(a:Int)+(w:Int))=false from by simp;omega];rfl
theorem OR{l:List Bool}{a w:Nat}(h:a+w<=l.length):l.take (a+w)=l.take a++bitsOf (IW l a w) w:=by
 rw[XN h,List.take_add]
theorem Xk{n:Nat}(h:n<4294967296):af.v .u32 (n:Int)=(n:Int):=by rw[aaV,afN (by omega) (by omega)]
theorem alt{n:Nat}{R:Int×Int}{h:Nat}(D:h<16777216)(C:nW ((n:Int),b)=true)(P:n<=4096)(O:l.length<=140737488355328)(V:i<l.length)
  (m:∀(p:ES),tbA p->p.a1=l->p.a2=(l.length:Int)->p.a3=((i+1:Nat):Int)->p.a0=((over h (unpack n b):Nat):Int)->aW (Jc af) (.ao (.c0 p)) R) :
  ∀(j k:Nat) (p:O8),tbC p->p.c2=l->p.c3=(l.length:Int)->p.c4=(i:Int)->p.c5=(n:Int)->p.c6=b->n-k=j->k<=n->aW (Jc af) (.ao (.c2 p ((over h ((unpack n b).take k):Nat):Int) (k:Int))) R:=by
 intro j
 induction j with
 | zero=>
   intro k p F v y z o A K N;have:k=n:=by omega
   subst this;simp[aB];refine(ak (by rw[o,bg];simp)).2 ?_;rw[cH (by rw[eX];omega)];exact m _ F v y (by show af.b .add .i64 p.c4 1=_;rw[z,iC (by omega)]) rfl
 | succ j ih=>
   intro k p F v y z o A K N;simp[aB];have J:af.k gq ((p.c5,p.c6),(k:Int),1)=(((IW (unpack n b) k 1:Nat):Int),0):=by
    rw[o,A];exact Yy C (w:=1) (by omega) (by decide) P
   have q:=Lu D ((unpack n b).take k);have S:=PI (unpack n b) k 1;have u:=OR (l:=unpack n b) (a:=k) (w:=1) (by rw[eX];omega);obtain⟨x,H⟩:∃x:Bool,IW (unpack n b) k 1=x.toNat:=by
    by_cases Q:IW (unpack n b) k 1=0
    ·simp_all
    ·exact⟨true,by grind⟩
   have B:bitsOf x.toNat 1=[x]:=by cases x<;>rfl
   rw[H,B] at u;have E:af.b .xor .u32 ((over h ((unpack n b).take k):Nat):Int) (af.b .shl .u32 (af.v .u32 (af.k gq ((p.c5,p.c6),(k:Int),1)).1) 23)=((over h ((unpack n b).take k) ^^^ (x.toNat*8388608):Nat):Int):=by
    rw[J,H,Xk (by omega),show af.b .shl .u32 ((x.toNat:Nat):Int) 23=((x.toNat*2^23:Nat):Int) from aao (k:=23) (by decide) (by omega)];exact TX (by omega) (by omega)
   have G:over h ((unpack n b).take k) ^^^ (x.toNat*8388608)<16777216:=Nat.xor_lt_two_pow (n:=24) q (by omega);have I:af.k JI (af.b .xor .u32 ((over h ((unpack n b).take k):Nat):Int) (af.b .shl .u32 (af.v .u32 (af.k gq ((p.c5,p.c6),(k:Int),1)).1) 23))=((over h ((unpack n b).take (k+1)):Nat):Int):=by
    rw[E,bo,XZ G,aaX q,u,xB,o6,GF]
   refine(al (by rw[o,bg];grind)).2 (?_);exact lW (congrArg LT.ao (congr (congrArg (T6.c2 p) I) (iC (by omega)))) (ih (k+1) p F v y z o A (by omega) (by omega))
theorem als{n:Nat}{R:Int×Int}{A:Nat}(x:A<16777216)(u:nW ((n:Int),b)=true)(V:n<=4096)(G:l.length<=140737488355328)(hi:i<l.length)
  (h:∀(p:ES),tbA p->p.a1=l->p.a2=(l.length:Int)->p.a3=((i+1:Nat):Int)->p.a0=((over A (unpack n b):Nat):Int)->aW (Jc af) (.ao (.c0 p)) R) :
  ∀(j k:Nat) (p:O7),tbB p->p.b2=l->p.b3=(l.length:Int)->p.b4=(i:Int)->p.O4=(n:Int)->p.Ph=b->(n-k)/4=j->k<=n->aW (Jc af) (.ao (.c1 p ((over A ((unpack n b).take k):Nat):Int) (k:Int))) R:=by
 intro j
 induction j with
 | zero=>
   intro k p C D E F m B hj S;simp[aB,Jc];refine(ak (by rw[show af.b .add .i64 (k:Int) 4=((k+4:Nat):Int) from jA (j:=4) (by omega),m,t_];simp;omega)).2 ?_;exact alt x u V G hi h (n-k) k _ C D E F m B rfl S
 | succ j ih=>
   intro k p C D E F m B hj S;simp only[aB,Jc];have hg:af.k gq ((p.O4,p.Ph),(k:Int),4)=(((IW (unpack n b) k 4:Nat):Int),0):=by
    rw[m,B];exact Yy u (w:=4) (by omega) (by decide) V
   have H:=Lu x ((unpack n b).take k);have Z:=PI (unpack n b) k 4;have I:=OR (l:=unpack n b) (a:=k) (w:=4) (by rw[eX];omega);have o:=UH H (l:=bitsOf (IW (unpack n b) k 4) 4) (my _ _);rw[Lp,ij Z,<-xB,<-I] at o;generalize hr:over A ((unpack n b).take k)=r at *;generalize hv:IW (unpack n b) k 4=v at *;have q:af.b .xor .u32 (af.b .shr .u32 (r:Int) 20) (af.v .u32 (af.k gq ((p.O4,p.Ph),(k:Int),4)).1)=((r/1048576 ^^^ v:Nat):Int):=by
    rw[hg,Xk (by omega),show af.b .shr .u32 (r:Int) 20=((r/2^20:Nat):Int) from agC (n:=20) (by omega) (by decide)];exact TX (by omega) (by omega)
   have z:r/1048576 ^^^ v<16:=Vt ⟨r/1048576,by omega⟩ ⟨v,by omega⟩;have y:(af.n (.int .u32) [p.b5,p.b6,p.b7,p.b8,p.b9,p.b10,p.b11,p.b12,p.b13,p.Jx,p.EZ,p.je,p.wv,p.T9,p.B7,p.T_] (((r/1048576 ^^^ v:Nat):Int)):Int)=((OQ.getD (r/1048576 ^^^ v) 0:Nat):Int):=by
    rw[<-abN ⟨r/1048576 ^^^ v,z⟩];obtain⟨t0,t1,t2,t3,t4,t5,t6,t7,t8,t9,J,K,N,O,P,Q⟩:=C;show List.getD [p.b5,p.b6,p.b7,p.b8,p.b9,p.b10,p.b11,p.b12,p.b13,p.Jx,p.EZ,p.je,p.wv,p.T9,p.B7,p.T_] ((r/1048576 ^^^ v:Nat):Int).toNat 0=_;rw[rO,t0,t1,t2,t3,t4,t5,t6,t7,t8,t9,J,K,N,O,P,Q];rfl
   have X:af.b .xor .u32 (af.b .and .u32 (af.b .shl .u32 (r:Int) 4) 16777215) (af.n (.int .u32) [p.b5,p.b6,p.b7,p.b8,p.b9,p.b10,p.b11,p.b12,p.b13,p.Jx,p.EZ,p.je,p.wv,p.T9,p.B7,p.T_] (af.b .xor .u32 (af.b .shr .u32 (r:Int) 20) (af.v .u32 (af.k gq ((p.O4,p.Ph),(k:Int),4)).1)):Int)=((over A ((unpack n b).take (k+4)):Nat):Int):=by
    rw[q];have W:af.b .and .u32 (af.b .shl .u32 (r:Int) 4) 16777215=((16*r%16777216:Nat):Int):=by
     rw[show af.b .shl .u32 (r:Int) 4=((r*2^4:Nat):Int) from aao (k:=4) (by decide) (by omega),afZ (by omega),mo]
    refine(Pp (af.b .xor .u32) W y).trans ?_;rw[o];exact TX (by omega) (by have:=abM ⟨_,z⟩;grind)
   refine(al (by rw[show af.b .add .i64 (k:Int) 4=((k+4:Nat):Int) from jA (j:=4) (by omega),m,t_];simp;omega)).2 (au.2 ⟨?_,?_⟩)
   ·rw[q,u_,bl,aV];simp;omega
   ·have:=ih (k+4) p C D E F m B (by omega) (by omega)
    exact lW (congrArg LT.ao (congr (congrArg (T6.c1 p) X) (show af.b .add .i64 (k:Int) 4=((k+4:Nat):Int) from jA (j:=4) (by omega)))) this
theorem alr(F:l.length<=140737488355328)(E:∀x∈l,gT x.2/\x.2.length<=140737488355328):∀(j i:Nat) (p:ES),tbA p->p.a1=l->p.a2=(l.length:Int)->p.a3=(i:Int)->p.a0=((over 0 ((l.take i).flatMap oW):Nat):Int)->l.length-i=j->i<=l.length->(∀x∈l.take i,nW x=true)->aW (Jc af) (.ao (.c0 p)) (Vo l):=by
 intro j
 induction j with
 | zero=>
   intro i p I z A C y W V o;have:i=l.length:=by omega
   subst this;rw[eB] at o y;simp[aB];refine(ak (by rw[A,C,bg];simp)).2 ?_;rw[Vo,bG.2 o,y];exact .ret _
 | succ j ih=>
   intro i p I z A C y W V o;have m:i<l.length:=by omega
   have q:=dF m;simp[aB,Jc];rw[C];refine(al (by rw[A,bg];simp_all)).2 (au.2 ⟨by rw[z];exact du m,?_⟩);obtain⟨u,b,B⟩:∃u b,l[i]=(u,b):=⟨_,_,rfl⟩;have h:=E _ q;rw[B] at h;have H:(af.n (.struct [(.int .i64),(.slice (.int .u8))]) p.a1 (i:Int):Int×List Int)=(u,b):=by rw[z,Gz m,B]
   rw[H];have S:af.k rS (u,b)=bif nW (u,b) then 0 else 10:=A5 h.1 h.2
   rw[S];cases hb:nW (u,b)
   ·refine(al rfl).2 ?_
    rw[Vo,show l.all nW=false from List.all_eq_false.2 ⟨l[i],q,by simp_all⟩];exact .ret _
   ·refine(ak rfl).2 ?_
    obtain⟨Q,h5,h6⟩:=(uP h.1).1 hb;obtain⟨n,rfl⟩:=aO Q;have G:=Lu (r:=0) (by decide) ((l.take i).flatMap oW);have X:=als G hb (by omega) F m (R:=Vo l) (λZ J K N O P=>ih (i+1) Z J K N O (by rw[P,yx m,xB,B];rfl) (by omega) (by omega) (by
     intro x v;rw[bf m] at v;rcases oJ.1 v with D|D
     ·exact o x D
     ·rw[aJ.1 D,B];exact hb)) (n/4) 0 ⟨p.a1,p.a2,(i:Int),p.a4,p.a5,p.a6,p.a7,p.a8,p.a9,p.jd,p.kU,p.a12,p.Dl,p.Ju,p.MZ,p.a16,p.a17,p.O2,p.O3,(n:Int),b⟩ I z A rfl rfl rfl (by omega) (by omega)
    rw[mT,GF,<-y] at X;omega
theorem avG(h:Ty.jK [(.slice (.struct [(.int .i64),(.slice (.int .u8))]))] l):aW (Jc af) (asY af l) (Vo l):=by
 exact alr (A7 h).1 (A7 h).2 l.length 0 _ ⟨rfl,rfl,rfl,rfl,rfl,rfl,rfl,rfl,rfl,rfl,rfl,rfl,rfl,rfl,rfl,rfl⟩ rfl rfl rfl rfl (by omega) (by omega) (by simp_all)
def FQ:(List (Int×List Int))->(Int×Int):=Vo
def aq3:aM:=.all [(.slice (.struct [yI,yB]))] [(.int .u32),yI] FQ
theorem agH:Sd 306 aq3:=fa (bp ar dK sl 30 [⟨306,4, [[4,5,10,11,12]]⟩,⟨330,2, [[0,2,4,7], [4,10,11,12]]⟩,⟨330,6, [[0,4,7], [4,10,11,12]]⟩] [] (λA l=>asY A l) Jc aip (kz (fc Tryz.func306 (fc Tryz.func330 fz)) (sc Mh (sc TB (sc apA (sc agJ sz))))) (λA y=>match y with |.c0 p=>⟨52,sl,by kernel_rfl⟩|.c1 p b0 b1=>⟨52,sl,by kernel_rfl⟩|.c2 p c0 c1=>⟨44,sl,by kernel_rfl⟩) λl i h=>avG h)
abbrev OO(A:aS)(h:Int)(i:List Int):=(A.k xb ((h,i),0,(A.b .sub .i64 h 24)))
def t139(A:aS)(j:Int)(l:List Int)(i:Int)(h:List Int):LT ((Int×List Int)×Int) Empty:=.br (A.cr (A.k rS (j,l)) 0) (.ret ((0,([]:List Int)),10)) (.br (A.cr (A.k rS (i,h)) 0) (.ret ((0,([]:List Int)),10)) (.br (A.bD j 24) (.ret ((0,([]:List Int)),20)) (.br (A.cr (A.k FQ [(i,h),(OO A j l).1]).2 0) (.ret ((0,([]:List Int)),(A.k FQ [(i,h),(OO A j l).1]).2)) (.br (A.cr (A.v .u64 (A.k FQ [(i,h),(OO A j l).1]).1) (A.k gq ((j,l),(OO A j l).1.1,24)).1) (.ret ((0,([]:List Int)),21)) (.ret ((OO A j l).1,0))))))
def qX:((Int×List Int)×(Int×List Int))->((Int×List Int)×Int):=λ((l,j),i,h)=>(t139 af l j i h).val (Ty.aR [(.struct [yI,yB]),yI])
def aqU:aM:=.all [(.struct [yI,yB]),(.struct [yI,yB])] [(.struct [yI,yB]),yI] qX
theorem apu:Sd 322 aqU:=fa (aP ar dK sl 100 [] (λA ((l,j),i,h)=>t139 A l j i h) (kz (fc Tryz.func322 fz) (sc Mh (sc TB (sc agE (sc agH sz))))) (λ_ _ _=>LT.bE (by kernel_rfl)))
def asV(A:aS)(l:Int)(m:Int)(i:Int)(j:Int)(h:Int):LT (List Int) Empty:=.ret [l,m,i,j,h]
def JH:((Int×Int×Int×Int×Int))->(List Int):=λ(l,m,i,j,h)=>(asV af l m i j h).val (Ty.aR [(.arr 5 yI)])
def aqO:aM:=.all [(.struct [yI,yI,yI,yI,yI])] [(.arr 5 yI)] JH
theorem apr:Sd 238 aqO:=fa (aP ar dK sl 26 [] (λA (l,m,i,j,h)=>asV A l m i j h) (kz (fc Tryz.func238 fz) sz) (λ_ _ _=>LT.bE (by kernel_rfl)))
structure afS where
 (a0 a1 a2 a3 a4 a6 a7 a8 a9 jd:Int)
inductive Y87 where
 | c0 (p:afS) (a5:Int)
noncomputable def am7:Y87->iH
 | .c0 p a5=>⟨[⟨190,36,(en [(5,.ptr 0 0),(21,.agg [vi p.a0,vi p.a1,vi p.a2,vi p.a3,vi p.a4]),(22,vi a5)]),sk Tryz.f190 [1,1,1,0,1,0,0],[],none⟩],[.ay false [vi p.a6,vi p.a7,vi p.a8,vi p.a9,vi p.jd],.aZ]⟩
def t87(A:aS)(l:Int)(m:Int)(i:Int)(j:Int)(h:Int)(n:Int):LT Int Y87:=.br (A.bD n 4) (.ret 2) (.br (A.jw n 8) (.ret 2) (.ap (A.bU 0 n) (.ao (.c0 ⟨(A.n yI (A.k JH (l,m,i,j,h)) 0:Int),(A.n yI (A.k JH (l,m,i,j,h)) 1:Int),(A.n yI (A.k JH (l,m,i,j,h)) 2:Int),(A.n yI (A.k JH (l,m,i,j,h)) 3:Int),(A.n yI (A.k JH (l,m,i,j,h)) 4:Int),255,(A.b .sub .i64 n 1),3,4,(A.b .sub .i64 (A.b .shl .i64 1 n) 1)⟩ 0))))
def s87(A:aS):Y87->LT Int Y87
 | .c0 p a5=>.br (A.bD a5 5) (.ap (A.and (A.bU 0 a5) (A.bD a5 5)) (.br (A.bD (A.n yI [p.a0,p.a1,p.a2,p.a3,p.a4] a5:Int) 0) (.ret 40) (.ap (A.and (A.bU 0 a5) (A.bD a5 5)) (.br (A.jw (A.n yI [p.a0,p.a1,p.a2,p.a3,p.a4] a5:Int) (A.n yI [p.a6,p.a7,p.a8,p.a9,p.jd] a5:Int)) (.ret 40) (.ao (.c0 p (A.b .add .i64 a5 1))))))) (.ret 0)
theorem apk{k:Nat}(h:k<=60):af.b .shl .i64 1 (k:Int)=((2^k:Nat):Int):=by
 show IntKind.i64.wrap ((1:Int)*2^min (k:Int).toNat 64)=_;have:2^k<=2^60:=fS (by decide) h;have e:(2:Int)^k=((2^k:Nat):Int):=by simp
 rw[rO,iL (by omega),Int.one_mul,e];generalize 2^k=q at this;rw[lC (by omega) (by omega)]
theorem am_{x:Int}(h:u=v):af.bD u x=decide (v<x):=by rw[h];rfl
theorem am9{h i:Int}(j:u=h)(l:v=i):af.jw u v=decide (i<h):=by rw[j,l];rfl
variable{m:Int}
theorem wX{p:afS}{i r:Int}(o:0<=i)(y:i<5)(h:(af.n (.int .i64) [p.a0,p.a1,p.a2,p.a3,p.a4] i:Int)=v)(l:(af.n (.int .i64) [p.a6,p.a7,p.a8,p.a9,p.jd] i:Int)=m)
  (q:(decide (0<=v)&&decide (v<=m))=true->aW (s87 af) (.ao (.c0 p (i+1))) r) (j:(decide (0<=v)&&decide (v<=m))=false->r=40):aW (s87 af) (.ao (.c0 p i)) r:=by
 rw[aB,s87];have n:af.and (af.bU 0 i) (af.bD i 5)=true:=by rw[bl,aC,aV];simp_all
 refine(al (by rw[aV];simp_all)).2 (au.2 ⟨n,?_⟩);by_cases u:v<0
 ·refine(al ((am_ h).trans (by simp_all))).2 ?_
  rw[j (by grind)];exact .ret _
 ·refine(ak ((am_ h).trans (by simp_all))).2 (au.2 ⟨n,?_⟩)
  by_cases x:m<v
  ·refine(al ((am9 h l).trans (by simp_all))).2 ?_
   rw[j (by simp_all)];exact .ret _
  ·refine(ak ((am9 h l).trans (by simp_all))).2 ?_
   rw[gz,lC (by omega) (by omega)]
   simp_all
variable{s t:Int}
theorem aut{o k:Int}:aW (s87 af) (t87 af t o m n s k) (rQ ((t,o,m,n,s),k)):=by
 rw[rQ];by_cases q:k<4
 ·refine(al (by rw[aV];simp_all)).2 ?_
  rw[show decide (k<4)=true from by simp_all];exact .ret _
 refine(ak (by rw[aV];simp_all)).2 ?_;by_cases u:8<k
 ·refine(al (by rw[dh];simp_all)).2 ?_
  rw[show decide (8<k)=true from by simp_all,mh];exact .ret _
 refine(ak (by rw[dh];simp_all)).2 (au.2 ⟨by rw[aC];grind,?_⟩);rw[show decide (k<4)=false from by simp_all,show decide (8<k)=false from by simp_all,Bool.or_false,cond_false];have h:af.b .sub .i64 k 1=k-1:=by rw[gg,lC (by omega) (by omega)]
 have l:af.b .sub .i64 (af.b .shl .i64 1 k) 1=2^k.toNat-1:=by
  obtain⟨j,rfl⟩:=aO (show 0<=k by omega);have x:2^j<=2^60:=fS (by decide) (by omega);have p:=Nat.two_pow_pos j;have e:(2:Int)^j=((2^j:Nat):Int):=by simp
  rw[apk (by omega),rO,e];rw[gg,lC (by omega) (by omega)]
 rw[h,l];refine wX (v:=t) (m:=255) (by decide) (by decide) rfl rfl (λg=>?_) (λg=>by grind);rw[g,Bool.true_and];refine wX (i:=1) (v:=o) (m:=k-1) (by decide) (by decide) rfl rfl (λg=>?_) (λg=>by grind);rw[g,Bool.true_and];refine wX (i:=2) (v:=m) (m:=3) (by decide) (by decide) rfl rfl (λg=>?_) (λg=>by grind);rw[g,Bool.true_and];refine wX (i:=3) (v:=n) (m:=4) (by decide) (by decide) rfl rfl (λg=>?_) (λg=>by rw[g];rfl);rw[g,cY];refine wX (i:=4) (v:=s) (m:=2^k.toNat-1) (by decide) (by decide) rfl rfl (λg=>?_) (λg=>by grind);rw[g,aB,s87];exact(ak rfl).2 (.ret _)
def xj:((Int×Int×Int×Int×Int)×Int)->Int:=rQ
def avD:aM:=.all [(.struct [yI,yI,yI,yI,yI]),yI] [yI] xj
theorem Mg:Sd 190 avD:=fa (bp ar dK sl 43 [⟨190,5, [[5,21,22]]⟩] [] (λA ((m,o,j,l,i),n)=>t87 A m o j l i n) s87 am7 (kz (fc Tryz.func190 fz) (sc apr sz)) (λA y=>match y with |.c0 p q=>⟨41,sl,by kernel_rfl⟩) λ((m,o,j,l,i),n) u h=>aut)
def auB:((Int×Int×Int×Int×Int)×Int)->Int:=rQ
abbrev abK(A:aS)(h:Int):=(A.k tP ((0,([]:List Int)),(A.v .u64 h),8))
abbrev amC(A:aS)(i:Int)(j:Int)(h:Int):=(A.k tP ((A.k tP ((abK A i).1,(A.v .u64 j),3)).1,(A.v .u64 h),2))
abbrev abL(A:aS)(j:Int)(l:Int)(h:Int)(i:Int):=(A.k tP ((amC A j l h).1,(A.v .u64 i),3))
def t90(A:aS)(h:Int)(j:Int)(i:Int)(m:Int)(l:Int):LT ((Int×List Int)×Int) Empty:=.br (A.cr (A.k xj ((h,j,i,m,l),8)) 0) (.ret ((0,([]:List Int)),40)) (.br (A.cr (abK A h).2 0) (.ret ((0,([]:List Int)),(abK A h).2)) (.br (A.cr (A.k tP ((abK A h).1,(A.v .u64 j),3)).2 0) (.ret ((0,([]:List Int)),(A.k tP ((abK A h).1,(A.v .u64 j),3)).2)) (.br (A.cr (amC A h j i).2 0) (.ret ((0,([]:List Int)),(amC A h j i).2)) (.br (A.cr (abL A h j i m).2 0) (.ret ((0,([]:List Int)),(abL A h j i m).2)) (.br (A.cr (A.k tP ((abL A h j i m).1,(A.v .u64 l),8)).2 0) (.ret ((0,([]:List Int)),(A.k tP ((abL A h j i m).1,(A.v .u64 l),8)).2)) (.ret ((A.k tP ((abL A h j i m).1,(A.v .u64 l),8)).1,0)))))))
def NL:((Int×Int×Int×Int×Int))->((Int×List Int)×Int):=λ(l,m,i,j,h)=>(t90 af l m i j h).val (Ty.aR [(.struct [yI,yB]),yI])
def avE:aM:=.all [(.struct [yI,yI,yI,yI,yI])] [(.struct [yI,yB]),yI] NL
theorem aqH:Sd 207 avE:=fa (aP ar dK sl 335 [] (λA (l,m,i,j,h)=>t90 A l m i j h) (kz (fc Tryz.func207 (fc Tryz.func238 (fc Tryz.func258 fz))) (sc Mg (sc aaz sz))) (λ_ _ _=>LT.bE (by kernel_rfl)))
def asT(A:aS)(h:Int)(i:List Int):LT ((Int×Int×Int×Int×Int)×Int) Empty:=.br (A.cr (A.k rS (h,i)) 0) (.ret ((0,0,0,0,0),10)) (.br (A.cr h 24) (.ret ((0,0,0,0,0),40)) (.br (A.cr (A.k gq ((h,i),0,8)).2 0) (.ret ((0,0,0,0,0),(A.k gq ((h,i),0,8)).2)) (.br (A.cr (A.k gq ((h,i),8,3)).2 0) (.ret ((0,0,0,0,0),(A.k gq ((h,i),8,3)).2)) (.br (A.cr (A.k gq ((h,i),11,2)).2 0) (.ret ((0,0,0,0,0),(A.k gq ((h,i),11,2)).2)) (.br (A.cr (A.k gq ((h,i),13,3)).2 0) (.ret ((0,0,0,0,0),(A.k gq ((h,i),13,3)).2)) (.br (A.cr (A.k gq ((h,i),16,8)).2 0) (.ret ((0,0,0,0,0),(A.k gq ((h,i),16,8)).2)) (.br (A.cr (A.k xj (((A.v .i64 (A.k gq ((h,i),0,8)).1),(A.v .i64 (A.k gq ((h,i),8,3)).1),(A.v .i64 (A.k gq ((h,i),11,2)).1),(A.v .i64 (A.k gq ((h,i),13,3)).1),(A.v .i64 (A.k gq ((h,i),16,8)).1)),8)) 0) (.ret ((0,0,0,0,0),40)) (.ret (((A.v .i64 (A.k gq ((h,i),0,8)).1),(A.v .i64 (A.k gq ((h,i),8,3)).1),(A.v .i64 (A.k gq ((h,i),11,2)).1),(A.v .i64 (A.k gq ((h,i),13,3)).1),(A.v .i64 (A.k gq ((h,i),16,8)).1)),0)))))))))
def Dy:((Int×List Int))->((Int×Int×Int×Int×Int)×Int):=λ(i,h)=>(asT af i h).val (Ty.aR [(.struct [yI,yI,yI,yI,yI]),yI])
def aqK:aM:=.all [(.struct [yI,yB])] [(.struct [yI,yI,yI,yI,yI]),yI] Dy
theorem apo:Sd 290 aqK:=fa (aP ar dK sl 377 [] (λA (i,h)=>asT A i h) (kz (fc Tryz.func290 (fc Tryz.func258 fz)) (sc Mg (sc Mh (sc TB sz)))) (λ_ _ _=>LT.bE (by kernel_rfl)))
abbrev afj(A:aS)(h:Int):LT Int Empty:=(.br (A.not (A.bK h 0)) (.ret 50) (.ret 0))
def t57(A:aS)(l:Int)(q:Int)(j:Int)(p:Int)(n:Int)(o:Int)(i:Int)(h:Int)(m:List Int):LT Int Empty:=.br (A.cr (A.k xj ((j,p,n,o,i),8)) 0) (.ret 50) (.br (A.bD q 0) (.ret 50) (.br (A.jw q 4) (.ret 50) (.br (A.jw (A.l m) 8) (.ret 50) (.br (A.bK l 1) (.br (A.bK q 0) (.br (A.bK (A.l m) 0) (.br (A.qP h 0) (.br (A.bD h 8) (.br (A.not (A.and (A.bK j j) (A.and (A.bK p 0) (A.and (A.bK n 0) (A.and (A.bK o 0) (A.and (A.bK i 0) true)))))) (.ret 50) (.ret 0)) (.ret 50)) (.ret 50)) (.ret 50)) (.ret 50)) (.br (A.bK l 3) (.br (A.bK (A.l m) 0) (afj A h) (.ret 50)) (.br (A.bK l 2) (afj A h) (.br (A.bK l 4) (afj A h) (.ret 50))))))))
def wM:((Int×Int×(Int×Int×Int×Int×Int)×Int×List Int))->Int:=λ(p,q,(l,m,i,j,h),o,n)=>(t57 af p q l m i j h o n).val (Ty.aR [yI])
def avv:aM:=.all [(.struct [yI,yI,(.struct [yI,yI,yI,yI,yI]),yI,yB])] [yI] wM
theorem aqi:Sd 206 avv:=fa (aP ar dK sl 109 [] (λA (p,q,(l,m,i,j,h),o,n)=>t57 A p q l m i j h o n) (kz (fc Tryz.func206 fz) (sc Mg sz)) (λ_ _ _=>LT.bE (by kernel_rfl)))
abbrev abh(A:aS)(i:Int)(h:Int):LT Int Empty:=(.br (A.bK i 2) (.ret (A.b .add .i64 29 (A.b .mul .i64 8 h))) (.br (A.bK i 4) (.ret (A.b .add .i64 79 (A.b .mul .i64 8 h))) (.ret 0)))
def t56(A:aS)(i:Int)(h:Int):LT Int Empty:=.br (A.bD h 0) (.ret 0) (.br (A.jw h 8) (.ret 0) (.br (A.bK i 1) (.br (A.bK h 0) (.ret 40) (.br (A.bK i 3) (abh A i h) (abh A i h))) (.br (A.bK i 3) (.br (A.bK h 0) (.ret 54) (abh A i h)) (abh A i h))))
def wL:(Int×Int)->Int:=λ(i,h)=>(t56 af i h).val (Ty.aR [yI])
def avu:aM:=.all [yI,yI] [yI] wL
theorem ave:Sd 215 avu:=fa (aP ar dK (.kQ [0,0,0,0,0,2]) 67 [] (λA (i,h)=>t56 A i h) (kz (fc Tryz.func215 fz) sz) (λ_ _ _=>LT.bE (by kernel_rfl)))
def t59(A:aS)(i:Int)(h:Int):LT Int Empty:=.br (A.bD h 0) (.ret 0) (.br (A.jw h 8) (.ret 0) (.br (A.bK i 1) (.br (A.bK h 0) (.ret 40) (.ret 0)) (.br (A.bK i 2) (.ret (A.b .add .i64 29 (A.b .mul .i64 8 h))) (.br (A.bK i 3) (.br (A.bK h 0) (.ret 54) (.ret 0)) (.br (A.bK i 4) (.ret (A.b .add .i64 79 (A.b .mul .i64 8 h))) (.ret 0))))))
def PQ:(Int×Int)->Int:=λ(i,h)=>(t59 af i h).val (Ty.aR [yI])
def avw:aM:=.all [yI,yI] [yI] PQ
theorem avf:Sd 62 avw:=fa (aP ar dK sl 59 [] (λA (i,h)=>t59 A i h) (kz (fc Tryz.func62 fz) sz) (λ_ _ _=>LT.bE (by kernel_rfl)))
theorem adH{k r p h:Int}{d:List Int}:wM (k,r,(t,p,m,n,s),h,d)=bif zP (k,r,(t,p,m,n,s),h,d) then 0 else 50:=by
 have j:af.cr (af.k xj ((t,p,m,n,s),8)) 0=!Hl (t,p,m,n,s):=by
  rw[show af.k xj ((t,p,m,n,s),8)=bif Hl (t,p,m,n,s) then 0 else 40 from ajk (t,p,m,n,s)];cases Hl (t,p,m,n,s)<;>rfl
 have l:af.l d=(d.length:Int):=rfl;have i:=Yq (k:=k) (r:=r) (t:=t) (p:=p) (m:=m) (n:=n) (s:=s) (fr:=h) (d:=d);have o:(t==t&&(p==0&&(m==0&&(n==0&&(s==0&&true)))))=decide (p=0/\m=0/\n=0/\s=0):=by grind
 simp[wM,t57,afj,LT.val,bd,aV,dh,lM,bl,k_]
 grind
variable{d:Int}
theorem OC{k:Int}:wL (k,d)=Tw (k,d)/\PQ (k,d)=Tw (k,d):=by
 have j:0<=d/\d<=8->∀c:Int,c=29\/c=79->af.b .add .i64 c (af.b .mul .i64 8 d)=c+8*d:=by
  intro h c i;rw[jb,lC (by omega) (by omega),gz,lC (by omega) (by omega)]
 constructor
 ·simp[wL,t56,abh,LT.val,bd,aV,dh,Tw]
  grind
 ·simp[PQ,t59,LT.val,bd,aV,dh,Tw]
  grind
def asQ(A:aS)(n:Int)(h:Int):LT Bool Empty:=.br (A.bK h 1) (.ret (A.bK n 40)) (.br (A.bK h 3) (.ret (A.bK n 54)) (.br (A.bK h 2) (.br (A.qP (A.b .sub .i64 n 29) 0) (.br (A.bU (A.b .sub .i64 n 29) 64) (.ret (A.bK (A.b .rem .i64 (A.b .sub .i64 n 29) 8) 0)) (.ret false)) (.ret false)) (.br (A.qP (A.b .sub .i64 n 79) 0) (.br (A.bU (A.b .sub .i64 n 79) 64) (.ret (A.bK (A.b .rem .i64 (A.b .sub .i64 n 79) 8) 0)) (.ret false)) (.ret false))))
def af0:(Int×Int)->Bool:=λ(n,h)=>(asQ af n h).val (Ty.aR [.bool])
def aqI:aM:=.all [yI,yI] [.bool] af0
theorem apm:Sd 287 aqI:=fa (aP ar dK sl 54 [] (λA (n,h)=>asQ A n h) (kz (fc Tryz.func287 fz) sz) (λ_ _ _=>LT.bE (by kernel_rfl)))
abbrev ON(A:aS)(i:Int)(h:List Int):=(A.k xb ((A.k qX ((A.k xb ((i,h),0,55)).1,0,([]:List Int))).1,(A.b .sub .i64 (A.k qX ((A.k xb ((i,h),0,55)).1,0,([]:List Int))).1.1 24),(A.k qX ((A.k xb ((i,h),0,55)).1,0,([]:List Int))).1.1))
def asR(A:aS)(l:Int)(j:List Int)(m:Int)(i:Int)(h:List Int):LT ((Int×List Int)×(Int×List Int)×Int) Empty:=.br (A.cr m 4) (.br (A.cr (A.k qX ((l,j),i,h)).2 0) (.ret ((A.k qX ((l,j),i,h)).1,(0,([]:List Int)),(A.k qX ((l,j),i,h)).2)) (.br (A.cr m 3) (.ret ((A.k qX ((l,j),i,h)).1,(0,([]:List Int)),(A.k qX ((l,j),i,h)).2)) (.ret ((A.k qX ((l,j),i,h)).1,(A.k xb ((A.k qX ((l,j),i,h)).1,(A.b .sub .i64 (A.k qX ((l,j),i,h)).1.1 24),(A.k qX ((l,j),i,h)).1.1)))))) (.br (A.cr (A.k xb ((l,j),0,55)).2 0) (.ret ((0,([]:List Int)),(0,([]:List Int)),(A.k xb ((l,j),0,55)).2)) (.br (A.cr (A.k qX ((A.k xb ((l,j),0,55)).1,0,([]:List Int))).2 0) (.ret ((0,([]:List Int)),(0,([]:List Int)),(A.k qX ((A.k xb ((l,j),0,55)).1,0,([]:List Int))).2)) (.br (A.cr (ON A l j).2 0) (.ret ((0,([]:List Int)),(0,([]:List Int)),(ON A l j).2)) (.ret ((A.k qX ((l,j),(ON A l j).1)).1,(ON A l j).1,(A.k qX ((l,j),(ON A l j).1)).2)))))
def XT:((Int×List Int)×Int×(Int×List Int))->((Int×List Int)×(Int×List Int)×Int):=λ((m,l),j,i,h)=>(asR af m l j i h).val (Ty.aR [(.struct [yI,yB]),(.struct [yI,yB]),yI])
def aqJ:aM:=.all [(.struct [yI,yB]),yI,(.struct [yI,yB])] [(.struct [yI,yB]),(.struct [yI,yB]),yI] XT
theorem apn:Sd 288 aqJ:=fa (aP ar dK sl 110 [] (λA ((m,l),j,i,h)=>asR A m l j i h) (kz (fc Tryz.func288 fz) (sc apu (sc agE sz))) (λ_ _ _=>LT.bE (by kernel_rfl)))
def asP(A:aS)(i:Int)(j:List Int)(l:Int)(h:Int):LT ((((Int×List Int)×Int))×Int) Empty:=.br (A.cr (A.k gq ((i,j),l,h)).2 0) (.ret (((i,j),l),0)) (.ret (((i,j),(A.b .add .i64 l h)),(A.v .i64 (A.k gq ((i,j),l,h)).1)))
theorem ao_{k:Int}:aW Empty.elim (asP af n b a k) (bif decide ((gq ((n,b),a,k)).2=0) then(((n,b),af.b .add .i64 a k),af.v .i64 (gq ((n,b),a,k)).1) else(((n,b),a),0)):=by
 by_cases h:(gq ((n,b),a,k)).2=0
 ·rw[da h];exact(ak (by show af.cr (gq ((n,b),a,k)).2 0=false;rw[bZ,h];rfl)).2 (.ret _)
 ·rw[gI h];exact(al (by show af.cr (gq ((n,b),a,k)).2 0=true;rw[bZ];simp_all)).2 (.ret _)
def jL:(((Int×List Int)×Int))×Int->(((Int×List Int)×Int))×Int:=λ((b,a),k)=>(bif decide ((gq (b,a,k)).2=0) then((b,af.b .add .i64 a k),af.v .i64 (gq (b,a,k)).1) else((b,a),0))
def aoa:cd:=.all [.ptr [.d (.struct [yI,yB]),.d yI]] [yI] [yI] jL false
theorem agm:cd.bH Tryz.prog 286 aoa:=ma (bP ar dK sl 54 [] [] (λA (((j,l),m),i)=>asP A j l m i) (λ_=>Empty.elim) Empty.elim (kz (fc Tryz.func286 fz) (sc TB sz)) (λ_ y=>y.elim) (λ((((j,l),m),i):(((Int×List Int)×Int))×Int) n o h=>ao_))
inductive aco where
 | c0 (a0:Int) (a1:Int) (a2:List Int) (a3:Int) (a4:Int) (a5:Int) (a6:Int) (a7:Int) (a8:Int) (a9:Int) (jd:Int) (kU:Int)
noncomputable def aif:aco->iH
 | .c0 a0 a1 a2 a3 a4 a5 h i a8 a9 j l=>⟨[⟨289,34,(en [(0,.ptr 0 0),(3,.ptr 1 0),(4,vi a0)]),sk Tryz.f289 [1,1,1,0,0,0],[],none⟩],[.ay false [vi a1,.sl yU a2,vi a3],.ay false [.int .u8 false a4,.int .u8 false a5,.int .u8 false h,.int .u8 false i,.int .u8 false a8,.int .u8 false a9,.int .u8 false j,.int .u8 false l],.aZ]⟩
def asS(A:aS)(h:Int)(i:List Int)(j:Int):LT ((((Int×List Int)×Int))×(List Int)) aco:=.ao (.c0 0 h i j 0 0 0 0 0 0 0 0)
def UZ(A:aS):aco->LT ((((Int×List Int)×Int))×(List Int)) aco
 | .c0 a0 a1 a2 a3 a4 a5 h i a8 a9 j l=>.br (A.bU (A.b .add .i64 a3 8) a1) (.br (A.bD a0 8) (.ap (A.and (A.bU 0 a0) (A.bD a0 8)) (.ao (.c0 (A.b .add .i64 a0 1) (A.k jL (((a1,a2),a3),8)).1.1.1 (A.k jL (((a1,a2),a3),8)).1.1.2 (A.k jL (((a1,a2),a3),8)).1.2 (A.n yU (A.set [a4,a5,h,i,a8,a9,j,l] a0 (A.v .u8 (A.k jL (((a1,a2),a3),8)).2)) 0:Int) (A.n yU (A.set [a4,a5,h,i,a8,a9,j,l] a0 (A.v .u8 (A.k jL (((a1,a2),a3),8)).2)) 1:Int) (A.n yU (A.set [a4,a5,h,i,a8,a9,j,l] a0 (A.v .u8 (A.k jL (((a1,a2),a3),8)).2)) 2:Int) (A.n yU (A.set [a4,a5,h,i,a8,a9,j,l] a0 (A.v .u8 (A.k jL (((a1,a2),a3),8)).2)) 3:Int) (A.n yU (A.set [a4,a5,h,i,a8,a9,j,l] a0 (A.v .u8 (A.k jL (((a1,a2),a3),8)).2)) 4:Int) (A.n yU (A.set [a4,a5,h,i,a8,a9,j,l] a0 (A.v .u8 (A.k jL (((a1,a2),a3),8)).2)) 5:Int) (A.n yU (A.set [a4,a5,h,i,a8,a9,j,l] a0 (A.v .u8 (A.k jL (((a1,a2),a3),8)).2)) 6:Int) (A.n yU (A.set [a4,a5,h,i,a8,a9,j,l] a0 (A.v .u8 (A.k jL (((a1,a2),a3),8)).2)) 7:Int)))) (.ap (A.and (A.bK a0 a0) (A.and (A.bU 0 a0) (A.bU a0 140737488355328))) (.ret (((a1,a2),a3),(A.spl (A.r a0 (0:Int)) 0 (A.s [a4,a5,h,i,a8,a9,j,l] 0 (A.mn (A.l [a4,a5,h,i,a8,a9,j,l]) (A.l (A.r a0 (0:Int)))))))))) (.ap (A.and (A.bK a0 a0) (A.and (A.bU 0 a0) (A.bU a0 140737488355328))) (.ret (((a1,a2),a3),(A.spl (A.r a0 (0:Int)) 0 (A.s [a4,a5,h,i,a8,a9,j,l] 0 (A.mn (A.l [a4,a5,h,i,a8,a9,j,l]) (A.l (A.r a0 (0:Int)))))))))
def ak0(n:Nat)(room:List Int):List Int:=af.spl (af.r (n:Int) (0:Int)) 0 (af.s room 0 (af.mn (af.l room) (af.l (af.r (n:Int) (0:Int)))))
def UT:Nat->Nat->List Int->(Int×List Int)×Int->((Int×List Int)×Int)×List Int
 | 0,n,room,s=>(s,ak0 n room)
 | k+1,n,room,s=>bif af.bU (af.b .add .i64 s.2 8) s.1.1 then UT k (n+1) (af.set room (n:Int) (af.v .u8 (jL (s,8)).2)) (jL (s,8)).1 else(s,ak0 n room)
theorem Z2:∀(k n:Nat) (room:List Int) (s:(Int×List Int)×Int),n+k=8->room.length=8->
  aW (UZ af) (.ao (.c0 (n:Int) s.1.1 s.1.2 s.2 (room.getD 0 0) (room.getD 1 0) (room.getD 2 0) (room.getD 3 0) (room.getD 4 0) (room.getD 5 0) (room.getD 6 0) (room.getD 7 0))) (UT k n room s):=by
 intro k
 induction k with
 | zero=>
   intro n room s l j
   have h:aW (UZ af) (.ap (af.and (af.bK (n:Int) (n:Int)) (af.and (af.bU 0 (n:Int)) (af.bU (n:Int) 140737488355328))) (.ret (s,ak0 n room))) (UT 0 n room s):=
    au.2 ⟨by rw[bl,bl,bd,aC,aC];simp_all,.ret _⟩
   match room,j with
   | [x0,m,x2,o,p,u,v,x],_=>
   rw[aB,UZ];cases af.bU (af.b .add .i64 s.2 8) s.1.1
   ·exact(ak rfl).2 h
   ·exact(al rfl).2 ((ak (by rw[aV];simp_all)).2 h)
 | succ k ih=>
   intro n room s l j;have e:=ih (n+1) (af.set room (n:Int) (af.v .u8 (jL (s,8)).2)) (jL (s,8)).1 (by omega) (by rw[Mn,cO];omega);rw[aB,UZ,UT]
   match room,j with
   | [x0,m,x2,o,p,u,v,x],_=>
     cases af.bU (af.b .add .i64 s.2 8) s.1.1
     ·exact(ak rfl).2 (au.2 ⟨by rw[bl,bl,bd,aC,aC];simp;omega,.ret _⟩)
     ·refine(al rfl).2 ((al (by rw[aV];grind)).2 (au.2 ⟨by rw[bl,aC,aV];simp;omega,?_⟩))
      rw[iC (i:=n) (by omega),show af.k jL (((s.1.1,s.1.2),s.2),8)=jL (s,8) from rfl];generalize jL (s,8)=q at e ⊢;exact e
theorem akZ:aW (UZ af) (asS af n b a) (UT 8 0 [0,0,0,0,0,0,0,0] ((n,b),a)):=
 Z2 8 0 [0,0,0,0,0,0,0,0] ((n,b),a) rfl rfl
def uT:(((Int×List Int)×Int))×Unit->(((Int×List Int)×Int))×(List Int):=λ(s,_)=>UT 8 0 [0,0,0,0,0,0,0,0] s
def aob:cd:=.all [.ptr [.d (.struct [yI,yB]),.d yI]] [] [yB] uT false
theorem anQ:cd.bH Tryz.prog 289 aob:=ma (bP ar dK sl 21 [⟨289,3, [[0,3,4]]⟩] [] (λA (((i,j),l),())=>asS A i j l) UZ aif ⟨(fc Tryz.func289 fz),sz,oz,iz,(mc agm mz),pz⟩ (λA y=>match y with |.c0 m a1 a2 n o p q u v x C D=>⟨44,sl,by kernel_rfl⟩) (λ((((i,j),l),()):(((Int×List Int)×Int))×Unit) z B h=>akZ))
theorem aQ{R:Type}{step:Y->LT R Y}{t:LT R Y}{r i:R}(h:r=i)(j:aW step t r):aW step t i:=h▸j
def zR{R Y:Type}(p:R->Prop):LT R Y->Prop
 | .ret r=>p r
 | .ao _=>False
 | .br b t e=>(b=true->zR p t)/\(b=false->zR p e)
 | .ap b t=>b=true->zR p t
 | .eqs _ t=>zR p t
 | .and a _=>zR p a
 | .bT _ _=>True
theorem sV{R Y:Type}{d:R}{p:R->Prop}:∀{t:LT R Y},t.pre=true->zR p t->p (t.val d)
 | .ret _,_,h=>h
 | .ao _,_,h=>h.elim
 | .br b t e,h1,h2=>by
   cases b with
   | true=>exact sV (t:=t) h1 (h2.1 rfl)
   | false=>exact sV (t:=e) h1 (h2.2 rfl)
 | .ap b t,h1,h2=>by
   rw[LT.pre,fQ] at h1;exact sV (t:=t) h1.2 (h2 h1.1)
 | .eqs _ t,h1,h2=>sV (t:=t) h1 h2
 | .and _ _,h,_=>by cases h
 | .bT _ _,h,_=>by cases h
abbrev mr(A:aS)(i:Int)(h:List Int):=(A.b .add .i64 (A.k jL (((i,h),0),2)).2 1)
abbrev oS(A:aS)(i:Int)(h:List Int):=(A.k jL ((A.k jL (((i,h),0),2)).1,3))
abbrev BN(A:aS)(i:Int)(h:List Int):=(A.k XT ((i,h),(mr A i h),0,([]:List Int)))
abbrev uJ:LT ((Int×Int×(Int×Int×Int×Int×Int)×Int×List Int)×Int) Empty:=(.ret ((0,0,(0,0,0,0,0),0,([]:List Int)),51))
abbrev C4(A:aS)(o:Int)(n:List Int)(l:Int)(m:Int)(i:Int)(j:Int)(h:Int):=(A.k XT ((o,n),(mr A o n),(A.k NL (l,m,i,j,h)).1))
abbrev C5(A:aS)(i:Int)(h:List Int):=(A.k Dy (BN A i h).2.1)
abbrev amk(A:aS)(i:Int)(h:List Int):LT ((Int×Int×(Int×Int×Int×Int×Int)×Int×List Int)×Int) Empty:=(.br (A.cr (A.k wM ((mr A i h),(oS A i h).2,(0,0,0,0,0),0,([]:List Int))) 0) (uJ) (.ret (((mr A i h),(oS A i h).2,(0,0,0,0,0),0,([]:List Int)),0)))
abbrev afg(A:aS)(i:Int)(h:List Int):=(A.k jL ((oS A i h).1,(A.b .sub .i64 (mr A i h) 2)))
def t50(A:aS)(i:Int)(j:List Int)(n:Int)(o:Int)(l:Int)(m:Int)(h:Int):LT ((Int×Int×(Int×Int×Int×Int×Int)×Int×List Int)×Int) Empty:=.br (A.cr (A.k rS (i,j)) 0) (.ret ((0,0,(0,0,0,0,0),0,([]:List Int)),(A.k rS (i,j)))) (.br (A.cr (A.k xj ((n,o,l,m,h),8)) 0) (.ret ((0,0,(0,0,0,0,0),0,([]:List Int)),40)) (.br (A.not (A.k af0 (i,(mr A i j)))) (uJ) (.br (A.bK (mr A i j) 1) (.br (A.cr (A.k jL ((A.k jL ((oS A i j).1,8)).1,3)).2 0) (uJ) (.br (A.cr (BN A i j).2.2 0) (.ret ((0,0,(0,0,0,0,0),0,([]:List Int)),(BN A i j).2.2)) (.br (A.bK (mr A i j) 2) (.br (A.cr (A.k wM ((mr A i j),0,(n,o,l,m,h),(oS A i j).2,(A.k uT (((BN A i j).1,(A.k jL ((A.k jL ((oS A i j).1,8)).1,3)).1.2),())).2)) 0) (uJ) (.ret (((mr A i j),0,(n,o,l,m,h),(oS A i j).2,(A.k uT (((BN A i j).1,(A.k jL ((A.k jL ((oS A i j).1,8)).1,3)).1.2),())).2),0))) (.br (A.bK (mr A i j) 4) (.br (A.cr (C5 A i j).2 0) (uJ) (.br (A.cr (A.k wM ((mr A i j),0,(C5 A i j).1,(oS A i j).2,(A.k uT (((BN A i j).1,55),())).2)) 0) (uJ) (.ret (((mr A i j),0,(C5 A i j).1,(oS A i j).2,(A.k uT (((BN A i j).1,55),())).2),0)))) (.br (A.bK (mr A i j) 3) (.br (A.cr (C5 A i j).2 0) (uJ) (.br (A.cr (A.k wM ((mr A i j),0,(C5 A i j).1,(oS A i j).2,([]:List Int))) 0) (uJ) (.ret (((mr A i j),0,(C5 A i j).1,(oS A i j).2,([]:List Int)),0)))) (.br (A.cr (A.k wM ((mr A i j),0,((A.k jL ((oS A i j).1,8)).2,0,0,0,0),(oS A i j).2,([]:List Int))) 0) (uJ) (.ret (((mr A i j),0,((A.k jL ((oS A i j).1,8)).2,0,0,0,0),(oS A i j).2,([]:List Int)),0)))))))) (.br (A.bK (mr A i j) 2) (.br (A.cr (C4 A i j n o l m h).2.2 0) (.ret ((0,0,(0,0,0,0,0),0,([]:List Int)),(C4 A i j n o l m h).2.2)) (.br (A.bK (mr A i j) 2) (.br (A.cr (A.k wM ((mr A i j),(oS A i j).2,(n,o,l,m,h),0,(A.k uT (((C4 A i j n o l m h).1,(oS A i j).1.2),())).2)) 0) (uJ) (.ret (((mr A i j),(oS A i j).2,(n,o,l,m,h),0,(A.k uT (((C4 A i j n o l m h).1,(oS A i j).1.2),())).2),0))) (.br (A.bK (mr A i j) 4) (.br (A.cr (A.k Dy (C4 A i j n o l m h).2.1).2 0) (uJ) (.br (A.cr (A.k wM ((mr A i j),(oS A i j).2,(A.k Dy (C4 A i j n o l m h).2.1).1,0,(A.k uT (((C4 A i j n o l m h).1,55),())).2)) 0) (uJ) (.ret (((mr A i j),(oS A i j).2,(A.k Dy (C4 A i j n o l m h).2.1).1,0,(A.k uT (((C4 A i j n o l m h).1,55),())).2),0)))) (.br (A.bK (mr A i j) 3) (.br (A.cr (A.k Dy (C4 A i j n o l m h).2.1).2 0) (uJ) (.br (A.cr (A.k wM ((mr A i j),(oS A i j).2,(A.k Dy (C4 A i j n o l m h).2.1).1,0,([]:List Int))) 0) (uJ) (.ret (((mr A i j),(oS A i j).2,(A.k Dy (C4 A i j n o l m h).2.1).1,0,([]:List Int)),0)))) (amk A i j))))) (.br (A.cr (afg A i j).2 0) (uJ) (.br (A.cr (BN A i j).2.2 0) (.ret ((0,0,(0,0,0,0,0),0,([]:List Int)),(BN A i j).2.2)) (.br (A.bK (mr A i j) 2) (.br (A.cr (A.k wM ((mr A i j),(oS A i j).2,(n,o,l,m,h),0,(A.k uT (((BN A i j).1,(afg A i j).1.2),())).2)) 0) (uJ) (.ret (((mr A i j),(oS A i j).2,(n,o,l,m,h),0,(A.k uT (((BN A i j).1,(afg A i j).1.2),())).2),0))) (.br (A.bK (mr A i j) 4) (.br (A.cr (C5 A i j).2 0) (uJ) (.br (A.cr (A.k wM ((mr A i j),(oS A i j).2,(C5 A i j).1,0,(A.k uT (((BN A i j).1,55),())).2)) 0) (uJ) (.ret (((mr A i j),(oS A i j).2,(C5 A i j).1,0,(A.k uT (((BN A i j).1,55),())).2),0)))) (.br (A.bK (mr A i j) 3) (.br (A.cr (C5 A i j).2 0) (uJ) (.br (A.cr (A.k wM ((mr A i j),(oS A i j).2,(C5 A i j).1,0,([]:List Int))) 0) (uJ) (.ret (((mr A i j),(oS A i j).2,(C5 A i j).1,0,([]:List Int)),0)))) (amk A i j))))))))))
variable{p:Prop}
theorem anL{k:Int}(i:(k==0)=false):k=0->p:=λh=>by simp_all
theorem anM{x:Int}(h:af.cr x 0=true):x=0->p:=λe=>by rw[e] at h;cases h
theorem agl{x y:Int}(h:af.cr x 0=false):y=0->x=0:=λ_=>by
 rw[bZ] at h
 simp_all
theorem anN{x:Int}(h:af.cr x 0=false):x=0:=agl (y:=0) h rfl
def vM:(Int×List Int)×(Int×Int×Int×Int×Int)->(Int×Int×(Int×Int×Int×Int×Int)×Int×List Int)×Int:=λ((n,b),(t,p,m,x,s))=>(t50 af n b t p m x s).val (Ty.aR [.struct [.int .i64,.int .i64,.struct [.int .i64,.int .i64,.int .i64,.int .i64,.int .i64],.int .i64,.slice (.int .u8)],.int .i64])
theorem Oc{p x:Int}:(t50 af n b t p m x s).pre=true:=by
 simp[t50,afg,amk,C5,C4,uJ,BN,oS,mr,LT.pre,bo,abU,Fy,cY,implies_true,and_self]
theorem UJ{p x:Int}:zR (λr=>r.2=0->af.k wM r.1=0) (t50 af n b t p m x s):=by
 repeat' first
  | exact anM (by assumption)
  | exact agl (by assumption)
  | refine⟨λh=>?_,λh=>?_⟩
  | exact anL rfl
  | exact anN (by assumption)
  | intro h
theorem aen{b:Int×List Int}{c:Int×Int×Int×Int×Int}(h:(vM (b,c)).2=0):zP (vM (b,c)).1=true:=by
 obtain⟨n,b⟩:=b;obtain⟨t,p,m,x,s⟩:=c;have k:=sV (d:=Ty.aR [.struct [.int .i64,.int .i64,.struct [.int .i64,.int .i64,.int .i64,.int .i64,.int .i64],.int .i64,.slice (.int .u8)],.int .i64]) Oc UJ h;have k:wM (vM ((n,b),(t,p,m,x,s))).1=0:=k;generalize (vM ((n,b),(t,p,m,x,s))).1=f at k;rw[adH] at k
 grind
def J0:(Int×List Int)×(Int×Int×Int×Int×Int)->(Int×Int×(Int×Int×Int×Int×Int)×Int×List Int)×Bool:=λ(b,c)=>
 bif (vM (b,c)).2 != 0||(vM (b,c)).1.1==1||(vM (b,c)).1.2.2.1 != c then(Iq,false) else((vM (b,c)).1,true)
def tM(b:Int×List Int):(Int×Int×(Int×Int×Int×Int×Int)×Int×List Int)×Bool:=
 bif (vM (b,zS)).2 != 0||(vM (b,zS)).1.1==2 then(Iq,false) else((vM (b,zS)).1,true)
def Ct:((Int×List Int)×(Int×Int×Int×Int×Int))->((Int×Int×(Int×Int×Int×Int×Int)×Int×List Int)×Int):=vM
def avr:aM:=.all [(.struct [yI,yB]),(.struct [yI,yI,yI,yI,yI])] [(.struct [yI,yI,(.struct [yI,yI,yI,yI,yI]),yI,yB]),yI] Ct
theorem ap9:Sd 237 avr:=fa (bp ar dK sl 227 [] [] (λA ((v,u),o,q,j,l,i)=>t50 A v u o q j l i) (λ_=>Empty.elim) Empty.elim ⟨(fc Tryz.func237 fz),(sc aqi (sc Mg (sc aqH (sc Mh (sc apm (sc apn (sc apo sz))))))),oz,iz,(mc agm (mc anQ mz)),pz⟩ (λ_ y=>y.elim) λ((n,b),(t,p,m,x,s)) z h=>LT.runs (LT.kF (by kernel_rfl)) Oc)
def t53(A:aS)(o:Int)(n:List Int)(l:Int)(m:Int)(i:Int)(j:Int)(h:Int):LT ((Int×Int×(Int×Int×Int×Int×Int)×Int×List Int)×Bool) Empty:=.br (A.cr (A.k Ct ((o,n),l,m,i,j,h)).2 0) (.ret ((0,0,(0,0,0,0,0),0,([]:List Int)),false)) (.br (A.bK (A.k Ct ((o,n),l,m,i,j,h)).1.1 1) (.ret ((0,0,(0,0,0,0,0),0,([]:List Int)),false)) (.br (A.not (A.and (A.bK (A.k Ct ((o,n),l,m,i,j,h)).1.2.2.1.1 l) (A.and (A.bK (A.k Ct ((o,n),l,m,i,j,h)).1.2.2.1.2.1 m) (A.and (A.bK (A.k Ct ((o,n),l,m,i,j,h)).1.2.2.1.2.2.1 i) (A.and (A.bK (A.k Ct ((o,n),l,m,i,j,h)).1.2.2.1.2.2.2.1 j) (A.and (A.bK (A.k Ct ((o,n),l,m,i,j,h)).1.2.2.1.2.2.2.2 h) true)))))) (.ret ((0,0,(0,0,0,0,0),0,([]:List Int)),false)) (.ret ((A.k Ct ((o,n),l,m,i,j,h)).1,true))))
def PO:((Int×List Int)×(Int×Int×Int×Int×Int))->((Int×Int×(Int×Int×Int×Int×Int)×Int×List Int)×Bool):=λ((o,n),l,m,i,j,h)=>(t53 af o n l m i j h).val (Ty.aR [(.struct [yI,yI,(.struct [yI,yI,yI,yI,yI]),yI,yB]),.bool])
def avt:aM:=.all [(.struct [yI,yB]),(.struct [yI,yI,yI,yI,yI])] [(.struct [yI,yI,(.struct [yI,yI,yI,yI,yI]),yI,yB]),.bool] PO
theorem avd:Sd 250 avt:=fa (aP ar dK sl 50 [] (λA ((o,n),l,m,i,j,h)=>t53 A o n l m i j h) (kz (fc Tryz.func250 fz) (sc ap9 sz)) (λ_ _ _=>LT.bE (by kernel_rfl)))
def t51(A:aS)(i:Int)(h:List Int):LT ((Int×Int×(Int×Int×Int×Int×Int)×Int×List Int)×Bool) Empty:=.br (A.cr (A.k Ct ((i,h),0,0,0,0,0)).2 0) (.ret ((0,0,(0,0,0,0,0),0,([]:List Int)),false)) (.br (A.bK (A.k Ct ((i,h),0,0,0,0,0)).1.1 2) (.ret ((0,0,(0,0,0,0,0),0,([]:List Int)),false)) (.ret ((A.k Ct ((i,h),0,0,0,0,0)).1,true)))
def PN:((Int×List Int))->((Int×Int×(Int×Int×Int×Int×Int)×Int×List Int)×Bool):=λ(i,h)=>(t51 af i h).val (Ty.aR [(.struct [yI,yI,(.struct [yI,yI,yI,yI,yI]),yI,yB]),.bool])
def avs:aM:=.all [(.struct [yI,yB])] [(.struct [yI,yI,(.struct [yI,yI,yI,yI,yI]),yI,yB]),.bool] PN
theorem avc:Sd 189 avs:=fa (aP ar dK sl 43 [] (λA (i,h)=>t51 A i h) (kz (fc Tryz.func189 fz) (sc ap9 sz)) (λ_ _ _=>LT.bE (by kernel_rfl)))
theorem adG{b:Int×List Int}{p:Int}:PO (b,(t,p,m,n,s))=J0 (b,(t,p,m,n,s)):=by
 obtain⟨v,u⟩:=b;simp[PO,t53,J0,bo,bZ,bd,bl,Ct,Bool.and_true];generalize vM ((v,u),(t,p,m,n,s))=q;obtain⟨⟨k,r,⟨o,j,h,i,l⟩,y,d⟩,e⟩:=q;have x:((o,j,h,i,l) != (t,p,m,n,s))=!(o==t&&(j==p&&(h==m&&(i==n&&l==s)))):=by rfl
 rw[x];cases e != 0<;>cases k==1<;>cases (o==t&&(j==p&&(h==m&&(i==n&&l==s))))<;>rfl
theorem adF{b:Int×List Int}:PN b=tM b:=by
 obtain⟨i,h⟩:=b;simp only[tM];show(bif (vM ((i,h),zS)).2 != 0 then(Iq,false) else bif (vM ((i,h),zS)).1.1==2 then(Iq,false) else((vM ((i,h),zS)).1,true))=_
 grind
structure VM where
 (a0 a2:List (Int×List Int)) (a3 a5:Int)
structure O6 where
 (b1:List (Int×List Int)) (b2 b4 b5:Int)
structure VN where
 (c0 c1 c2 c4:Int) (c5:List (Int×List Int)) (c6 c7 c8 c9:Int) (c10:List Int) (c11 c12 c13:Int) (c14:List Int)
inductive Pg where
 | c0 (p:VM) (a1:Int) (a4:Int)
 | c1 (p:O6) (b0:Int) (b3:Int) (b6:List Int)
 | c2 (p:VN) (c3:Int) (Nf:List Int)
noncomputable def aij:Pg->iH
 | .c0 p a1 a4=>⟨[⟨261,53,(en [(0,.sl (.struct [yI,yB]) p.a0),(2,.ptr 0 0),(4,vi a1),(12,.sl (.struct [yI,yB]) p.a2),(13,vi p.a3),(14,vi a4)]),sk Tryz.f261 [1,1,0,1,0,0],[],none⟩],[.ay false [vi p.a5,.gi true],.aZ]⟩
 | .c1 p b0 b3 i=>⟨[⟨261,53,(en [(2,.ptr 0 0),(8,.ptr 1 0),(9,vi b0),(35,.sl (.struct [yI,yB]) p.b1),(36,vi p.b2),(37,vi b3)]),sk Tryz.f261 [1,1,1,1,1,1,0,1,0,0],[],none⟩],[.ay false [vi p.b4,.gi true],.ay false [vi p.b5,.own 2],.arr false yU i,.aZ]⟩
 | .c2 p c3 h=>⟨[⟨308,52,(en [(1,vi p.c0),(3,vi p.c1),(4,vi p.c2),(5,.ptr 0 0),(7,.ptr 1 0),(10,vi c3)]),sk Tryz.f308 [1,1,1,0,0],[],none⟩,⟨261,53,(en [(2,.ptr 2 0),(8,.ptr 3 0),(9,vi p.c4),(11,.ptr 4 0),(35,.sl (.struct [yI,yB]) p.c5),(36,vi p.c6),(37,vi p.c7)]),(.ops (ow Tryz.f261 [1,1,1,1,1,1,0,1,0,0,1,1,0,0,1,0]) ((ow Tryz.f261 [1,1,1,1,1,1,0,1,0,0,1,1,0,0,1,0]).toList.drop 5)::sk Tryz.f261 [1,1,1,1,1,1,0,1,0,0,1,1,0,0,1,0]),[],none⟩],[.ay false [vi p.c8,.own 5],.ay false [vi p.c9,.sl yU p.c10],.ay false [vi p.c11,.gi true],.ay false [vi p.c12,.own 5],.ay false [vi p.c13,.sl yU p.c14],.arr false yU h,.aZ]⟩
def asX(A:aS)(l:List (Int×List Int)):LT ((Int×List Int)×Int) Pg:=.ao (.c0 ⟨l,l,(A.l l),0⟩ 0 0)
def Ou(A:aS):Pg->LT ((Int×List Int)×Int) Pg
 | .c0 p a1 a4=>.br (A.bD a4 p.a3) (.ap (A.and (A.bU 0 a4) (A.bD a4 (A.l p.a2))) (.br (A.cr (A.k rS (A.n (.struct [yI,yB]) p.a2 a4:Int×List Int)) 0) (.ret ((0,([]:List Int)),(A.k rS (A.n (.struct [yI,yB]) p.a2 a4:Int×List Int)))) (.ao (.c0 p (A.mn (A.b .add .i64 a1 (A.n (.struct [yI,yB]) p.a2 a4:Int×List Int).1) 4097) (A.b .add .i64 a4 1))))) (.br (A.jw a1 4096) (.ret ((0,([]:List Int)),3)) (.ap (A.and (A.bK (A.k ju a1) (A.k ju a1)) (A.and (A.bU 0 (A.k ju a1)) (A.bU (A.k ju a1) 140737488355328))) (.ao (.c1 ⟨p.a0,(A.l p.a0),p.a5,a1⟩ 0 0 (A.r (A.k ju a1) (0:Int))))))
 | .c1 p b0 b3 h=>.br (A.bD b3 p.b2) (.ap (A.and (A.bU 0 b3) (A.bD b3 (A.l p.b1))) (.br (A.bK (A.b .rem .i64 b0 8) 0) (.br (A.bK (A.n (.struct [yI,yB]) p.b1 b3:Int×List Int).1 (A.n (.struct [yI,yB]) p.b1 b3:Int×List Int).1) (.ap (A.and (A.bU 0 (A.b .quo .i64 b0 8)) (A.and (A.bU (A.b .quo .i64 b0 8) (A.l h)) (A.bU (A.l h) (A.l h)))) (.ap (A.and (A.bU 0 0) (A.and (A.bU 0 (A.l (A.n (.struct [yI,yB]) p.b1 b3:Int×List Int).2)) (A.bU (A.l (A.n (.struct [yI,yB]) p.b1 b3:Int×List Int).2) (A.l (A.n (.struct [yI,yB]) p.b1 b3:Int×List Int).2)))) (.ao (.c1 p (A.b .add .i64 b0 (A.n (.struct [yI,yB]) p.b1 b3:Int×List Int).1) (A.b .add .i64 b3 1) (A.spl h (A.b .quo .i64 b0 8) (A.s (A.s (A.n (.struct [yI,yB]) p.b1 b3:Int×List Int).2 0 (A.l (A.n (.struct [yI,yB]) p.b1 b3:Int×List Int).2)) 0 (A.mn (A.l (A.s (A.n (.struct [yI,yB]) p.b1 b3:Int×List Int).2 0 (A.l (A.n (.struct [yI,yB]) p.b1 b3:Int×List Int).2))) (A.b .sub .i64 (A.l h) (A.b .quo .i64 b0 8))))))))) (.ao (.c2 ⟨b0,0,(A.n (.struct [yI,yB]) p.b1 b3:Int×List Int).1,b0,p.b1,p.b2,b3,p.b5,(A.n (.struct [yI,yB]) p.b1 b3:Int×List Int).1,(A.n (.struct [yI,yB]) p.b1 b3:Int×List Int).2,p.b4,p.b5,(A.n (.struct [yI,yB]) p.b1 b3:Int×List Int).1,(A.n (.struct [yI,yB]) p.b1 b3:Int×List Int).2⟩ 0 h))) (.ao (.c2 ⟨b0,0,(A.n (.struct [yI,yB]) p.b1 b3:Int×List Int).1,b0,p.b1,p.b2,b3,p.b5,(A.n (.struct [yI,yB]) p.b1 b3:Int×List Int).1,(A.n (.struct [yI,yB]) p.b1 b3:Int×List Int).2,p.b4,p.b5,(A.n (.struct [yI,yB]) p.b1 b3:Int×List Int).1,(A.n (.struct [yI,yB]) p.b1 b3:Int×List Int).2⟩ 0 h)))) (.ret ((p.b5,h),0))
 | .c2 p c3 i=>.br (A.bD c3 p.c2) (.ap (A.k xD ((p.c9,p.c10),c3)) (.br (A.k AT ((p.c9,p.c10),c3)) (.ap (A.and (A.bU 0 (A.b .quo .i64 (A.b .sub .i64 (A.b .add .i64 p.c0 c3) p.c1) 8)) (A.bD (A.b .quo .i64 (A.b .sub .i64 (A.b .add .i64 p.c0 c3) p.c1) 8) (A.l i))) (.ap (A.k xE (A.b .sub .i64 (A.b .add .i64 p.c0 c3) p.c1)) (.ap (A.and (A.bU 0 (A.b .quo .i64 (A.b .sub .i64 (A.b .add .i64 p.c0 c3) p.c1) 8)) (A.bD (A.b .quo .i64 (A.b .sub .i64 (A.b .add .i64 p.c0 c3) p.c1) 8) (A.l i))) (.ao (.c2 p (A.b .add .i64 c3 1) (A.set i (A.b .quo .i64 (A.b .sub .i64 (A.b .add .i64 p.c0 c3) p.c1) 8) (A.b .or .u8 (A.n yU i (A.b .quo .i64 (A.b .sub .i64 (A.b .add .i64 p.c0 c3) p.c1) 8):Int) (A.k DC (A.b .sub .i64 (A.b .add .i64 p.c0 c3) p.c1))))))))) (.ao (.c2 p (A.b .add .i64 c3 1) i)))) (.ao (.c1 ⟨p.c5,p.c6,p.c11,p.c12⟩ (A.b .add .i64 p.c4 p.c13) (A.b .add .i64 p.c7 1) i))
theorem Yx(l m:List Bool)(i:Nat):(l++m).getD i false=if i<l.length then l.getD i false else m.getD (i-l.length) false:=by grind
theorem P0{L:List Bool}{n m q:Nat}(h:lX B L m)(y:L.length=8*q)(p:okB n b)(C:q+b.length<=m):lX (B.take q++b++B.drop (q+b.length)) (L++unpack n b) m:=by
 have A:=h.1;have D:=p.1;refine⟨?_,λx z=>?_,λi u=>?_⟩
 ·grind
 ·rcases oJ.1 z with l|l
  ·rcases oJ.1 l with o|o
   ·exact h.2.1 x (List.mem_of_mem_take o)
   ·exact p.2.1 x o
  ·exact h.2.1 x (List.mem_of_mem_drop l)
 ·have j:(B.take q).length=q:=by grind
  rw[Yx,y,rq];by_cases v:i/8<q
  ·have e:kl (B.take q++b++B.drop (q+b.length)) i=kl B i:=by
    rw[kl,kl,yb,yb,cX,bQ (by omega),jE v]
   rw[e,if_pos (by omega)];exact h.2.2 i u
  ·rw[if_neg (by omega)]
   by_cases l:i/8<q+b.length
   ·have e:kl (B.take q++b++B.drop (q+b.length)) i=kl b (i-8*q):=by
     rw[kl,kl,yb,yb,cX,bY (by omega),j,bQ (by omega),show(i-8*q)/8=i/8-q from by omega,show(i-8*q)%8=i%8 from by omega]
    rw[e];by_cases o:i-8*q<n
    ·simp_all
    ·rw[show decide (i-8*q<n)=false from by simp_all,gn]
     exact p.2.2 _ (by omega) (by omega)
   ·have e:kl (B.take q++b++B.drop (q+b.length)) i=kl B i:=by
     rw[kl,kl,yb,yb,bY (by simp_all),ru,j,bX,show q+b.length+(i/8-(q+b.length))=i/8 from by omega]
    rw[e,h.2.2 i u,show decide (i-8*q<n)=false from by simp[-List.length_flatMap];omega,gn,yb,kN (by omega)];rfl
theorem adE(i:Nat):((l.take i).flatMap oW).length<=(l.flatMap oW).length:=by
 conv=>rhs;rw[<-eU i l,lV,ru]
 omega
theorem ad2{n m:Nat}(Q:i<l.length)(W:l.length<=140737488355328)(hx:l[i]=((n:Int),b))(K:okB n b)(hn:n<=4096)(X:((l.take (i+1)).flatMap oW).length<=8*m)(Z:m<=5000){R:(Int×List Int)×Int}
  (J:∀(p:O6) (B:List Int),p.b1=l->p.b2=(l.length:Int)->p.b5=((l.flatMap oW).length:Int)->lX B ((l.take (i+1)).flatMap oW) m->aW (Ou af) (.ao (.c1 p ((((l.take (i+1)).flatMap oW).length:Nat):Int) ((i+1:Nat):Int) B)) R) :
  ∀(j k:Nat) (p:VN) (B:List Int),p.c0=((((l.take i).flatMap oW).length:Nat):Int)->p.c1=0->p.c2=(n:Int)->p.c4=((((l.take i).flatMap oW).length:Nat):Int)->p.c5=l->p.c6=(l.length:Int)->p.c7=(i:Int)->p.c10=b->p.c12=((l.flatMap oW).length:Int)->p.c13=(n:Int)->n-k=j->k<=n->lX B ((l.take i).flatMap oW++unpack k b) m->aW (Ou af) (.ao (.c2 p (k:Int) B)) R:=by
 have P:=K.1;have q:=yx Q;have O:oW l[i]=unpack n b:=by rw[hx,oW];rfl
 rw[O] at q;intro j
 induction j with
 | zero=>
   intro k p B z A u C F G D h o y S V v;have:k=n:=by omega
   subst this;simp[aB];refine(ak (by rw[u,bg];simp)).2 ?_;have e1:af.b .add .i64 p.c4 p.c13=((((l.take (i+1)).flatMap oW).length:Nat):Int):=by
    rw[C,y,jA (by grind),q,ru,eX]
   have e2:af.b .add .i64 p.c7 1=((i+1:Nat):Int):=by rw[D,iC (by omega)]
   simp_all
 | succ j ih=>
   intro k p B z A u C F G D h o y S V v;have I:=X;rw[q,ru,eX] at I;simp[aB];have H:af.b .sub .i64 (af.b .add .i64 p.c0 (k:Int)) p.c1=(((((l.take i).flatMap oW).length+k:Nat)):Int):=by
    rw[z,A,jA (by omega),show af.b .sub .i64 ((((l.take i).flatMap oW).length+k:Nat):Int) 0=((((l.take i).flatMap oW).length+k-0:Nat):Int) from wj (j:=0) (by omega) (by omega)];rfl
   have x:((l.take i).flatMap oW++unpack k b).length=((l.take i).flatMap oW).length+k:=by rw[ru,eX]
   refine(al (by rw[u,bg];grind)).2 (au.2 ⟨by rw[h,bo];simp[xD];omega,?_⟩);have N:af.k AT ((p.c9,p.c10),(k:Int))=kl b k:=by
    rw[h,bo,FT K.2.1 (by omega) (by omega) (by omega),rO]
   rw[H];have E:=OU k b;cases hbit:kl b k
   ·rw[hbit] at E
    refine(ak (N.trans hbit)).2 ?_;refine lW (congrArg LT.ao (congr (congrArg (Pg.c2 p) (iC (by omega))) rfl)) (ih (k+1) p B z A u C F G D h o y (by omega) (by omega) ?_);rw[E,<-cX];exact v.skip
   ·rw[hbit] at E
    refine(al (N.trans hbit)).2 (au.2 ⟨vm v.1 (by omega) (by omega),au.2 ⟨CB,au.2 ⟨vm v.1 (by omega) (by omega),?_⟩⟩⟩);refine lW (congrArg LT.ao (congr (congrArg (Pg.c2 p) (iC (by omega))) rfl)) (ih (k+1) p _ z A u C F G D h o y (by omega) (by omega) ?_);rw[E,<-cX];exact G9 v x (by omega) (by omega)
theorem ad1(P:l.length<=140737488355328)(K:∀x∈l,gT x.2)(S:∀x∈l,nW x=true)(hT:(l.flatMap oW).length<=4096):∀(j i:Nat) (p:O6) (B:List Int),p.b1=l->p.b2=(l.length:Int)->p.b5=((l.flatMap oW).length:Int)->l.length-i=j->i<=l.length->lX B ((l.take i).flatMap oW) (((l.flatMap oW).length+7)/8)->aW (Ou af) (.ao (.c1 p ((((l.take i).flatMap oW).length:Nat):Int) (i:Int) B)) (O5 (l.flatMap oW),0):=by
 intro j
 induction j with
 | zero=>
   intro i p B F G J hj hi z;have:i=l.length:=by omega
   subst this;rw[eB] at z ⊢;simp[aB];refine(ak (by rw[G,bg];simp)).2 ?_;rw[J,z.done rfl];exact .ret _
 | succ j ih=>
   intro i p B F G J hj hi z;have h:i<l.length:=by omega
   have u:=dF h;have E:=S _ u;obtain⟨X,b,H⟩:∃X b,l[i]=(X,b):=⟨_,_,rfl⟩;have o:=K _ u;rw[H] at E o;obtain⟨h3,h4,A⟩:=(uP o).1 E;obtain⟨n,rfl⟩:=aO h3;have A:okB n b:=A;have ac:b.length=(n+7)/8:=A.1;have y:=yx h;have hL:oW l[i]=unpack n b:=by rw[H,oW];rfl
   rw[hL] at y;have O:=adE (l:=l) (i+1);have D:=O;rw[y,ru,eX] at D;have Q:(af.n (.struct [(.int .i64),(.slice (.int .u8))]) p.b1 (i:Int):Int×List Int)=((n:Int),b):=by rw[F,Gz h,H]
   simp only[aB];refine(al (by rw[G,bg];simp_all)).2 (au.2 ⟨by rw[F];exact du h,?_⟩);rw[Q];have v:aW (Ou af) (.ao (.c2 ⟨((((l.take i).flatMap oW).length:Nat):Int),0,(n:Int),((((l.take i).flatMap oW).length:Nat):Int),p.b1,p.b2,(i:Int),p.b5,(n:Int),b,p.b4,p.b5,(n:Int),b⟩ 0 B)) (O5 (l.flatMap oW),0):=by
    refine ad2 h P H A (by omega) (m:=((l.flatMap oW).length+7)/8) (by omega) (by omega) (λp' Z g1 g2 g3 g4=>ih (i+1) p' Z g1 g2 g3 (by omega) (by omega) g4) n 0 _ B rfl rfl rfl rfl F G rfl rfl J rfl (by omega) (by omega) ?_;rw[show unpack 0 b=[] from rfl,aI];omega
   by_cases h8:((l.take i).flatMap oW).length%8=0
   ·refine(al (Dp (by rw[EC,h8];rfl))).2 ((al (Dp rfl)).2 ?_)
    have C:af.l B=((((l.flatMap oW).length+7)/8:Nat):Int):=by rw[<-z.1];rfl
    have N:af.l b=(b.length:Int):=rfl;refine au.2 ⟨by rw[vR (by omega),C,u_,t_,t_,bl,bl];grind,au.2 ⟨by show af.and (af.bU 0 0) (af.and (af.bU 0 (b.length:Int)) (af.bU (b.length:Int) (b.length:Int)))=true;rw[u_,t_,bl,bl];simp[aC],?_⟩⟩;have V:af.s b 0 (af.l b)=b:=TM (i:=0);have e1:af.mn (af.l b) (af.b .sub .i64 (af.l B) (af.b .quo .i64 ((((l.take i).flatMap oW).length:Nat):Int) 8))=(b.length:Int):=by
     rw[C,vR (by omega),wj (by omega) (by omega),N,oR,if_neg (by omega)]
    have e2:af.s b 0 (b.length:Int)=b:=V;have e3:af.spl B (af.b .quo .i64 ((((l.take i).flatMap oW).length:Nat):Int) 8) b=B.take (((l.take i).flatMap oW).length/8)++b++B.drop (((l.take i).flatMap oW).length/8+b.length):=by
     rw[vR (by omega),oB,rO]
    have W:=P0 z (q:=((l.take i).flatMap oW).length/8) (by omega) A (by omega);have e4:af.b .add .i64 ((((l.take i).flatMap oW).length:Nat):Int) (n:Int)=((((l.take (i+1)).flatMap oW).length:Nat):Int):=by
     rw[jA (by omega),y,ru,eX]
    have I:aW (Ou af) (.ao (.c1 p (af.b .add .i64 ((((l.take i).flatMap oW).length:Nat):Int) (n:Int)) (af.b .add .i64 (i:Int) 1) (af.spl B (af.b .quo .i64 ((((l.take i).flatMap oW).length:Nat):Int) 8) (af.s (af.s b 0 (af.l b)) 0 (af.mn (af.l (af.s b 0 (af.l b))) (af.b .sub .i64 (af.l B) (af.b .quo .i64 ((((l.take i).flatMap oW).length:Nat):Int) 8))))))) (O5 (l.flatMap oW),0):=by
     rw[V,e1,e2,e4,iC (by omega)]
     grind
    exact I
   ·exact(ak (RL (by rw[EC];omega))).2 v
theorem ad0(C:l.length<=140737488355328)(u:∀x∈l,gT x.2/\x.2.length<=140737488355328):∀(j i:Nat) (p:VM) (t:Int),p.a0=l->p.a2=l->p.a3=(l.length:Int)->t=((min ((l.take i).flatMap oW).length 4097:Nat):Int)->l.length-i=j->i<=l.length->(∀x∈l.take i,nW x=true)->aW (Ou af) (.ao (.c0 p t (i:Int))) (SJ l):=by
 intro j
 induction j with
 | zero=>
   intro i p t z A B v K J n;have:i=l.length:=by omega
   subst this;rw[eB] at n v;simp only[aB];refine(ak (by rw[B,bg];simp)).2 ?_;rw[SJ,bG.2 n,cond_true];by_cases G:4096<(l.flatMap oW).length
   ·refine(al (by rw[dh,v];grind)).2 ?_
    rw[Zv G];exact .ret _
   ·refine(ak (by rw[dh,v];grind)).2 ?_
    have y:t=(((l.flatMap oW).length:Nat):Int):=by omega
    have m:af.k ju t=((((l.flatMap oW).length+7)/8:Nat):Int):=by rw[bo,y,uV (by omega) (by omega),rO]
    refine au.2 ⟨by rw[m,u_,Dp rfl,aC,bl,bl];grind,?_⟩;rw[UF (by omega),m,yv,rO];exact ad1 C (λx q=>(u x q).1) n (by omega) l.length 0 _ _ z (by show af.l p.a0=_;rw[z];rfl) y (by omega) (by omega) (lX.blank _)
 | succ j ih=>
   intro i p t z A B v K J n;have h:i<l.length:=by omega
   have o:=dF h;simp[aB];refine(al (by rw[B,bg];simp_all)).2 (au.2 ⟨by rw[A];exact du h,?_⟩);have D:(af.n (.struct [(.int .i64),(.slice (.int .u8))]) p.a2 (i:Int):Int×List Int)=l[i]:=by rw[A,Gz h]
   rw[D];have I:af.k rS l[i]=bif nW l[i] then 0 else 10:=by
    obtain⟨F,b,q⟩:∃F b,l[i]=(F,b):=⟨_,_,rfl⟩;have:=u _ o;rw[q] at this ⊢;exact A5 this.1 this.2
   rw[I];cases q:nW l[i]
   ·refine(al rfl).2 ?_
    rw[SJ,show l.all nW=false from List.all_eq_false.2 ⟨l[i],o,by simp_all⟩];exact .ret _
   ·refine(ak rfl).2 ?_
    have N:=aic q;have H:l[i].1=(((oW l[i]).length:Nat):Int):=by
     rw[zC];simp[nW,fQ,sK] at q;omega
    refine lW (congrArg LT.ao (congr (congrArg (Pg.c0 p) rfl) (iC (by omega)))) (ih (i+1) p _ z A B ?_ (by omega) (by omega) ?_)
    ·rw[H,v,jA (by omega),oR,yx h,ru]
     omega
    ·intro x E
     rw[bf h] at E
     grind
def Ns:(List (Int×List Int))->((Int×List Int)×Int):=SJ
def aqR:aM:=.all [(.slice (.struct [yI,yB]))] [(.struct [yI,yB]),yI] Ns
theorem apt:Sd 261 aqR:=fa (bp ar dK sl 24 [⟨261,3, [[0,2,4,12,13,14]]⟩,⟨261,15, [[2,8,9,35,36,37]]⟩,⟨308,4, [[1,3,4,5,7,10], [2,8,9,11,35,36,37]]⟩] [] (λA l=>asX A l) Ou aij (kz (fc Tryz.func261 (fc Tryz.func305 (fc Tryz.func307 (fc Tryz.func308 fz)))) (sc Mh (sc TA (sc aaA (sc TD sz))))) (λA y=>match y with |.c0 p a1 m=>⟨55,sl,by kernel_rfl⟩|.c1 p b0 b3 n=>⟨82,sl,by kernel_rfl⟩|.c2 p c3 j=>⟨57,sl,by kernel_rfl⟩) λ(l:List (Int×List Int)) o h=>by
 show aW (Ou af) (asX af l) (Ns l);exact ad0 (A7 h).1 (A7 h).2 l.length 0 _ 0 rfl rfl rfl rfl rfl (by omega) (by intro x i;cases i))
def asW(A:aS)(l:Int)(j:List Int)(i:Int)(h:List Int):LT ((Int×List Int)×Int) Empty:=.br (A.cr (A.k FQ [(i,h),(l,j)]).2 0) (.ret ((0,([]:List Int)),(A.k FQ [(i,h),(l,j)]).2)) (.ret (A.k tP ((l,j),(A.v .u64 (A.k FQ [(i,h),(l,j)]).1),24)))
def RX:((Int×List Int)×(Int×List Int))->((Int×List Int)×Int):=λ((l,j),i,h)=>(asW af l j i h).val (Ty.aR [(.struct [yI,yB]),yI])
def aqQ:aM:=.all [(.struct [yI,yB]),(.struct [yI,yB])] [(.struct [yI,yB]),yI] RX
theorem aps:Sd 260 aqQ:=fa (aP ar dK sl 44 [] (λA ((l,j),i,h)=>asW A l j i h) (kz (fc Tryz.func260 fz) (sc aaz (sc agH sz))) (λ_ _ _=>LT.bE (by kernel_rfl)))
def t91(A:aS)(i:Int)(j:List Int)(l:Int)(v:Int)(h:Int):LT ((((Int×List Int)×Int))×Unit) Empty:=.br (A.bK l 0) (.ret ((A.k tP ((i,j),(A.v .u64 v),h)),())) (.ret (((i,j),l),()))
variable{e:Int}
theorem awc{k:Int}:aW Empty.elim (t91 af n b e v k) (bif decide (e=0) then tP ((n,b),af.v .u64 v,k) else((n,b),e),()):=by
 by_cases h:e=0
 ·rw[da h];exact(al (by rw[bd,h];rfl)).2 (.ret _)
 ·rw[gI h];exact(ak (by rw[bd];simp_all)).2 (.ret _)
def zM:(((Int×List Int)×Int))×(Int×Int)->(((Int×List Int)×Int))×Unit:=λ((s,e),v,n)=>(bif decide (e=0) then tP (s,af.v .u64 v,n) else(s,e),())
def auM:cd:=.all [.ptr [.d (.struct [yI,yB]),.d yI]] [yI,yI] [] zM true
theorem an8:cd.bH Tryz.prog 208 auM:=ma (bP ar dK sl 46 [] [] (λA (((j,l),m),(v,i))=>t91 A j l m v i) (λ_=>Empty.elim) Empty.elim (kz (fc Tryz.func208 fz) (sc aaz sz)) (λ_ y=>y.elim) (λ((((j,l),m),(v,i)):(((Int×List Int)×Int))×(Int×Int)) n o h=>awc))
def t94(A:aS)(h:Int)(i:List Int)(j:Int)(m:Int)(l:List Int):LT ((((Int×List Int)×Int))×Unit) Empty:=.br (A.bK j 0) (.ret ((A.k Ns [(h,i),(m,l)]),())) (.ret (((h,i),j),()))
theorem awf{k:Int}{c:List Int}:aW Empty.elim (t94 af n b e k c) (bif decide (e=0) then Ns [(n,b),(k,c)] else((n,b),e),()):=by
 by_cases h:e=0
 ·rw[da h];exact(al (by rw[bd,h];rfl)).2 (.ret _)
 ·rw[gI h];exact(ak (by rw[bd];simp_all)).2 (.ret _)
def ajN:(((Int×List Int)×Int))×((Int×List Int))->(((Int×List Int)×Int))×Unit:=λ((s,e),b)=>(bif decide (e=0) then Ns [s,b] else(s,e),())
def auP:cd:=.all [.ptr [.d (.struct [yI,yB]),.d yI]] [(.struct [yI,yB])] [] ajN true
theorem auL:cd.bH Tryz.prog 211 auP:=ma (bP ar dK sl 46 [] [] (λA (((i,j),n),(m,l))=>t94 A i j n m l) (λ_=>Empty.elim) Empty.elim (kz (fc Tryz.func211 fz) (sc apt sz)) (λ_ y=>y.elim) (λ((((i,j),n),(m,l)):(((Int×List Int)×Int))×((Int×List Int))) o p h=>awf))
def t92(A:aS)(j:Int)(l:List Int)(m:Int)(i:Int)(h:List Int):LT ((((Int×List Int)×Int))×Unit) Empty:=.br (A.bK m 0) (.ret ((A.k RX ((j,l),i,h)),())) (.ret (((j,l),m),()))
theorem awd{k:Int}{c:List Int}:aW Empty.elim (t92 af n b e k c) (bif decide (e=0) then RX ((n,b),k,c) else((n,b),e),()):=by
 by_cases h:e=0
 ·rw[da h];exact(al (by rw[bd,h];rfl)).2 (.ret _)
 ·rw[gI h];exact(ak (by rw[bd];simp_all)).2 (.ret _)
def Up:(((Int×List Int)×Int))×((Int×List Int))->(((Int×List Int)×Int))×Unit:=λ((s,e),b)=>(bif decide (e=0) then RX (s,b) else(s,e),())
def auN:cd:=.all [.ptr [.d (.struct [yI,yB]),.d yI]] [(.struct [yI,yB])] [] Up true
theorem auJ:cd.bH Tryz.prog 209 auN:=ma (bP ar dK sl 45 [] [] (λA (((l,m),n),(j,i))=>t92 A l m n j i) (λ_=>Empty.elim) Empty.elim (kz (fc Tryz.func209 fz) (sc aps sz)) (λ_ y=>y.elim) (λ((((l,m),n),(j,i)):(((Int×List Int)×Int))×((Int×List Int))) o p h=>awd))
structure afT where
 (a0:List Int) (a1:Int)
inductive Y93 where
 | c0 (p:afT) (a2:Int) (a3:Int) (a4:List Int) (a5:Int)
noncomputable def am8:Y93->iH
 | .c0 p a2 a3 a4 a5=>⟨[⟨210,19,(en [(0,.ptr 0 0),(7,.sl yU p.a0),(8,vi p.a1),(9,vi a2)]),sk Tryz.f210 [1,0,1,0,0],[],none⟩],[.ay false [vi a3,.sl yU a4,vi a5],.aZ]⟩
def t93(A:aS)(h:Int)(i:List Int)(j:Int)(l:List Int):LT ((((Int×List Int)×Int))×Unit) Y93:=.ao (.c0 ⟨l,(A.l l)⟩ 0 h i j)
def s93(A:aS):Y93->LT ((((Int×List Int)×Int))×Unit) Y93
 | .c0 p a2 a3 a4 a5=>.br (A.bD a2 p.a1) (.ap (A.and (A.bU 0 a2) (A.bD a2 (A.l p.a0))) (.ao (.c0 p (A.b .add .i64 a2 1) (A.k zM (((a3,a4),a5),(A.v .i64 (A.n yU p.a0 a2:Int)),8)).1.1.1 (A.k zM (((a3,a4),a5),(A.v .i64 (A.n yU p.a0 a2:Int)),8)).1.1.2 (A.k zM (((a3,a4),a5),(A.v .i64 (A.n yU p.a0 a2:Int)),8)).1.2))) (.ret (((a3,a4),a5),()))
def aie(l:List Int)(s:(Int×List Int)×Int):(Int×List Int)×Int:=l.foldl (λs c=>(zM (s,af.v .i64 c,8)).1) s
theorem awe{l:List Int}(u:l.length<=140737488355328){p:afT}(n:p.a0=l)(m:p.a1=(l.length:Int)):∀(j i:Nat) (s:(Int×List Int)×Int),l.length-i=j->i<=l.length->
  aW (s93 af) (.ao (.c0 p (i:Int) s.1.1 s.1.2 s.2)) (aie (l.drop i) s,()):=by
 intro j
 induction j with
 | zero=>
   intro i s q o;have:i=l.length:=by omega
   subst this;rw[aB,s93,m,cK];exact(ak (by rw[aV];simp)).2 (.ret _)
 | succ j ih=>
   intro i s q o;have h:i<l.length:=by omega
   rw[aB,s93,n,m];refine(al (by simp_all;exact da (by omega))).2 (au.2 ⟨du h,?_⟩);rw[show(af.n (.int .u8) l (i:Int):Int)=l[i] from fL h _,AB h,iC (i:=i) (by omega)];exact ih (i+1) (zM (s,af.v .i64 l[i],8)).1 (by omega) (by omega)
theorem aue{l:List Int}(h:l.length<=140737488355328):aW (s93 af) (t93 af n b e l) (aie l ((n,b),e),()):=
 awe h rfl rfl l.length 0 ((n,b),e) rfl (aX _)
def ajM:(((Int×List Int)×Int))×(List Int)->(((Int×List Int)×Int))×Unit:=λ(s,l)=>(aie l s,())
def auO:cd:=.all [.ptr [.d (.struct [yI,yB]),.d yI]] [yB] [] ajM true
theorem auK:cd.bH Tryz.prog 210 auO:=ma (bP ar dK sl 19 [⟨210,2, [[0,7,8,9]]⟩] [] (λA (((i,j),m),l)=>t93 A i j m l) s93 am8 ⟨(fc Tryz.func210 fz),sz,oz,iz,(mc an8 mz),pz⟩ (λA y=>match y with |.c0 p a2 n o q=>⟨32,sl,by kernel_rfl⟩) (λ((((i,j),m),l):(((Int×List Int)×Int))×(List Int)) u v h=>aue h.1))
abbrev aba(A:aS)(h:Int):=(A.k zM (((0,([]:List Int)),0),(A.b .sub .i64 h 1),2))
def t46(A:aS)(j:Int)(p:Int)(i:Int)(n:Int)(l:Int)(m:Int)(h:Int)(q:Int)(o:List Int):LT ((Int×List Int)×Int) Empty:=.br (A.cr (A.k wM (j,p,(i,n,l,m,h),q,o)) 0) (.ret ((0,([]:List Int)),(A.k wM (j,p,(i,n,l,m,h),q,o)))) (.br (A.cr (A.k NL (i,n,l,m,h)).2 0) (.ret ((0,([]:List Int)),(A.k NL (i,n,l,m,h)).2)) (.br (A.bK j 1) (.ret (A.k Up ((A.k zM ((A.k zM ((A.k zM ((aba A j).1,q,3)).1,i,8)).1,0,3)).1,0,([]:List Int))).1) (.br (A.bK j 2) (.ret (A.k Up ((A.k ajM ((A.k zM ((aba A j).1,p,3)).1,o)).1,(A.k NL (i,n,l,m,h)).1)).1) (.br (A.bK j 3) (.ret (A.k Up ((A.k ajN ((A.k zM ((A.k zM ((aba A j).1,p,3)).1,0,1)).1,(A.k NL (i,n,l,m,h)).1)).1,0,([]:List Int))).1) (.br (A.bK j 4) (.ret (A.k Up ((A.k ajM ((A.k Up ((A.k ajN ((A.k zM ((A.k zM ((aba A j).1,p,3)).1,0,2)).1,(A.k NL (i,n,l,m,h)).1)).1,0,([]:List Int))).1,o)).1,(A.k NL (i,n,l,m,h)).1)).1) (.ret (aba A j).1))))))
def A1:((Int×Int×(Int×Int×Int×Int×Int)×Int×List Int))->((Int×List Int)×Int):=λ(p,q,(l,m,i,j,h),o,n)=>(t46 af p q l m i j h o n).val (Ty.aR [(.struct [yI,yB]),yI])
def avq:aM:=.all [(.struct [yI,yI,(.struct [yI,yI,yI,yI,yI]),yI,yB])] [(.struct [yI,yB]),yI] A1
theorem ap4:Sd 155 avq:=fa (bp ar dK sl 120 [] [] (λA (q,u,(m,n,j,l,i),p,o)=>t46 A q u m n j l i p o) (λ_=>Empty.elim) Empty.elim ⟨(fc Tryz.func155 fz),(sc aqi (sc aqH sz)),oz,iz,(mc an8 (mc auJ (mc auK (mc auL mz)))),pz⟩ (λ_ y=>y.elim) λ((q,u,(m,n,j,l,i),p,o):(Int×Int×(Int×Int×Int×Int×Int)×Int×List Int)) v h=>LT.runs (d:=Ty.aR [(.struct [yI,yB]),yI]) (LT.kF (by kernel_rfl)) (LT.bE (by kernel_rfl)))
theorem apj(h:0<=n)(i:n<=8):af.b .shl .i64 1 n=((2^n.toNat:Nat):Int):=by
 have:n=0\/n=1\/n=2\/n=3\/n=4\/n=5\/n=6\/n=7\/n=8:=by omega
 rcases this with rfl|rfl|rfl|rfl|rfl|rfl|rfl|rfl|rfl<;>decide
theorem z_{n:Nat}(h:n<=8):2^n<=256:=fS (by decide) h
def qW(c a:Int):Bool:=c.toNat.testBit a.toNat
def pg(c s:Int):Int:=af.b .or .i64 c (af.b .shl .i64 1 s)
def wK(c s:Int):Int:=af.b .andNot .i64 c (af.b .shl .i64 1 s)
theorem adX:∀c:Fin 256,∀a:Fin 8,af.b .or .i64 (c.val:Int) (af.b .shl .i64 1 (a.val:Int))=((c.val ||| 2^a.val:Nat):Int):=by decide +kernel
theorem adA:∀c:Fin 256,∀a:Fin 8,af.b .andNot .i64 (c.val:Int) (af.b .shl .i64 1 (a.val:Int))=((c.val &&& (255 ^^^ 2^a.val):Nat):Int):=by decide +kernel
theorem YO{c:Int}(h:0<=c)(j:c<256)(i:0<=s)(l:s<8):pg c s=((c.toNat ||| 2^s.toNat:Nat):Int):=by
 obtain⟨c,rfl⟩:=aO h;obtain⟨s,rfl⟩:=aO i;exact adX ⟨c,by omega⟩ ⟨s,by omega⟩
theorem del_eq{c:Int}(h:0<=c)(j:c<256)(i:0<=s)(l:s<8):wK c s=((c.toNat &&& (255 ^^^ 2^s.toNat):Nat):Int):=by
 obtain⟨c,rfl⟩:=aO h;obtain⟨s,rfl⟩:=aO i;exact adA ⟨c,by omega⟩ ⟨s,by omega⟩
theorem YP{c:Int}(h:0<=c)(o:n<=8)(l:c<((2^n.toNat:Nat):Int))(i:0<=s)(m:s<n):0<=pg c s/\pg c s<((2^n.toNat:Nat):Int):=by
 have p:=z_ (n:=n.toNat) (by omega);rw[YO h (by omega) i (by omega)];have j:2^s.toNat<2^n.toNat:=Nat.pow_lt_pow_right (by decide) (by omega);have:=Nat.or_lt_two_pow (x:=c.toNat) (y:=2^s.toNat) (n:=n.toNat) (by omega) j;omega
theorem Xp{c:Int}(h:0<=c)(m:n<=8)(j:c<((2^n.toNat:Nat):Int))(i:0<=s)(l:s<8):0<=wK c s/\wK c s<((2^n.toNat:Nat):Int):=by
 have o:2^n.toNat<=2^8:=fS (by decide) (by omega);rw[del_eq h (by omega) i (by omega)];have:c.toNat &&& (255 ^^^ 2^s.toNat)<=c.toNat:=Nat.and_le_left;omega
theorem RI{c i:Int}(h:0<=c)(j:c<256)(l:0<=s)(m:s<8)(n:0<=i):qW (pg c s) i=(qW c i||s==i):=by
 rw[YO h j l m,qW,qW,rO,Nat.testBit_or,Nat.testBit_two_pow]
 grind
theorem KJ{c i:Int}(h:0<=c)(j:c<256)(l:0<=s)(m:s<8)(n:0<=i):qW (wK c s) i=(qW c i&&s != i):=by
 rw[del_eq h j l m,qW,qW,rO,Nat.testBit_and,Nat.testBit_xor,Nat.testBit_two_pow];by_cases o:i<8
 ·have e:Nat.testBit 255 i.toNat=true:=by
   have:i.toNat=0\/i.toNat=1\/i.toNat=2\/i.toNat=3\/i.toNat=4\/i.toNat=5\/i.toNat=6\/i.toNat=7:=by omega
   grind
  grind
 ·have:c.toNat.testBit i.toNat=false:=Nat.testBit_lt_two_pow (bu (by omega:c.toNat<2^8) (fS (by decide) (by omega)))
  simp_all
theorem W5:∀c:Fin 256,∀a:Fin 8,(af.b .and .i64 (af.b .shr .i64 (c.val:Int) (a.val:Int)) 1==0)=!(c.val.testBit a.val):=by decide +kernel
theorem W6:∀c:Fin 256,∀a:Fin 8,(af.b .and .i64 (c.val:Int) (af.b .shl .i64 1 (a.val:Int))==0)=!(c.val.testBit a.val):=by decide +kernel
theorem afW{c:Int}(h:0<=c)(j:c<256)(i:0<=a)(l:a<8):af.b .and .i64 (af.b .shr .i64 c a) 1=0↔qW c a=false:=by
 obtain⟨c,rfl⟩:=aO h;obtain⟨a,rfl⟩:=aO i;have:=W5 ⟨c,by omega⟩ ⟨a,by omega⟩;rw[<-beq_iff_eq,this];simp[qW]
theorem amY{c:Int}(h:0<=c)(j:c<256)(i:0<=a)(l:a<8):af.b .and .i64 c (af.b .shl .i64 1 a)=0↔qW c a=false:=by
 obtain⟨c,rfl⟩:=aO h;obtain⟨a,rfl⟩:=aO i;have:=W6 ⟨c,by omega⟩ ⟨a,by omega⟩;rw[<-beq_iff_eq,this];simp[qW]
def og(a b c d e f g:Int):Prop:=4<=b/\b<=8/\0<=a/\a<b/\0<=g/\g<b/\0<=c/\c<((2^b.toNat:Nat):Int)/\0<=d/\d<=1048576/\0<=e/\e<=1048576/\0<=f/\f<=2/\(f≠0->qW c a=true)/\(f=2->g≠a)
variable{f g:Int}
theorem aoG{b c:Int}(h:og a b c d e f g):c<256:=by
 obtain⟨i,j,_,_,_,_,_,l,_⟩:=h;have:=z_ (n:=b.toNat) (by omega);omega
def t81(A:aS)(n:Int)(h:Int):LT Bool Empty:=.br (A.qP n 0) (.ret (A.bU n h)) (.ret false)
def IY:(Int×Int)->Bool:=λ(n,h)=>(t81 af n h).val (Ty.aR [.bool])
def avC:aM:=.all [yI,yI] [.bool] IY
theorem aqG:Sd 234 avC:=fa (aP ar dK sl 21 [] (λA (n,h)=>t81 A n h) (kz (fc Tryz.func234 fz) sz) (λ_ _ _=>LT.bE (by kernel_rfl)))
theorem La:IY (n,m)=(decide (0<=n)&&decide (n<=m)):=by
 simp only[IY,t81,LT.val,lM,aC]
 simp_all
def t34(A:aS)(j:Int)(n:Int)(l:Int)(o:Int)(m:Int)(h:Int)(i:Int):LT Int Empty:=.br (A.bD n 4) (.ret 90) (.br (A.jw n 8) (.ret 90) (.br (A.not (A.k IY (j,(A.b .sub .i64 n 1)))) (.ret 90) (.br (A.not (A.k IY (i,(A.b .sub .i64 n 1)))) (.ret 90) (.br (A.not (A.k IY (o,1048576))) (.ret 90) (.br (A.not (A.k IY (m,1048576))) (.ret 90) (.br (A.not (A.k IY (h,2))) (.ret 90) (.ap (A.bU 0 n) (.br (A.not (A.k IY (l,(A.b .sub .i64 (A.b .shl .i64 1 n) 1)))) (.ret 90) (.br (A.cr h 0) (.ap (A.bU 0 j) (.br (A.bK (A.b .and .i64 (A.b .shr .i64 l j) 1) 0) (.ret 90) (.br (A.bK h 2) (.br (A.bK i j) (.ret 90) (.ret 0)) (.ret 0)))) (.br (A.bK h 2) (.br (A.bK i j) (.ret 90) (.ret 0)) (.ret 0)))))))))))
def rz:((Int×Int×Int×Int×Int×Int×Int))->Int:=λ(n,o,m,l,j,i,h)=>(t34 af n o m l j i h).val (Ty.aR [yI])
def avm:aM:=.all [(.struct [yI,yI,yI,yI,yI,yI,yI])] [yI] rz
theorem QY:Sd 184 avm:=fa (aP ar dK sl 123 [] (λA (o,p,n,m,l,j,i)=>t34 A o p n m l j i) (kz (fc Tryz.func184 fz) (sc aqG sz)) (λ((o,p,n,m,l,j,i):(Int×Int×Int×Int×Int×Int×Int)) q h=>by
 show(t34 af o p n m l j i).pre=true;simp only[t34,LT.pre,STD,bne_iff_ne,beq_iff_eq,bne_eq_false_iff_eq,beq_eq_false_iff_ne,La];simp only[Ty.jK,Ty.has,J2,anm] at h
 (repeat' (first|intro _|constructor))<;>(try omega)))
variable{x:Int×Int×Int×Int×Int×Int×Int}
theorem PK:rz x=0\/rz x=90:=by
 exact LT.qS (p:=λy=>y=0\/y=90) (.inl rfl) (by simp[t34,LT.all])
theorem ib{b c:Int}:rz (a,b,c,d,e,f,g)=0↔og a b c d e f g:=by
 simp only[rz,t34,LT.val,zI,bd,bZ,aV,dh,k_,bo,gg,fu,Bool.not_eq_false',sK,decide_eq_false_iff_not,bne_iff_ne,beq_iff_eq,bne_eq_false_iff_eq,beq_eq_false_iff_ne,La];simp;unfold og;by_cases j:4<=b/\b<=8
 ·rw[lC (by omega) (by omega),apj (by omega) j.2]
  have m:=z_ (n:=b.toNat) (by omega);have l:1<=2^b.toNat:=Nat.one_le_two_pow;rw[lC (by omega) (by omega)];by_cases i:0<=c/\c<256/\0<=a/\a<8
  ·have h:=afW i.1 i.2.1 i.2.2.1 i.2.2.2
   grind
  omega
 omega
def t80(A:aS)(n:Int):LT Int Empty:=.ap (A.bU 0 (A.v .u64 n)) (.ret (A.b .shl .i64 1 (A.v .u64 n)))
def adJ:Int->Int:=λn=>(t80 af n).val (Ty.aR [yI])
theorem Sx(h:0<=n)(i:n<=8):adJ n=((2^n.toNat:Nat):Int):=by
 have:n=0\/n=1\/n=2\/n=3\/n=4\/n=5\/n=6\/n=7\/n=8:=by omega
 rcases this with rfl|rfl|rfl|rfl|rfl|rfl|rfl|rfl|rfl<;>decide
theorem Yp(h:0<=n)(i:n<=8):adJ n=af.b .shl .i64 1 n:=by rw[Sx h i,apj h i]
def t35(A:aS)(l:Int)(o:Int)(m:Int)(n:Int)(j:Int)(h:Int)(i:Int):LT Int Empty:=.br (A.bD o 4) (.ret 90) (.br (A.jw o 8) (.ret 90) (.br (A.bD l 0) (.ret 90) (.br (A.qP l o) (.ret 90) (.br (A.bD i 0) (.ret 90) (.br (A.qP i o) (.ret 90) (.br (A.bD m 0) (.ret 90) (.br (A.qP m (A.k adJ o)) (.ret 90) (.br (A.bD n 0) (.ret 90) (.br (A.jw n 1048576) (.ret 90) (.br (A.bD j 0) (.ret 90) (.br (A.jw j 1048576) (.ret 90) (.br (A.bD h 0) (.ret 90) (.br (A.jw h 2) (.ret 90) (.br (A.cr h 0) (.br (A.bK (A.b .and .i64 m (A.k adJ l)) 0) (.ret 90) (.br (A.bK h 2) (.br (A.bK i l) (.ret 90) (.ret 0)) (.ret 0))) (.br (A.bK h 2) (.br (A.bK i l) (.ret 90) (.ret 0)) (.ret 0))))))))))))))))
def vA:((Int×Int×Int×Int×Int×Int×Int))->Int:=λ(n,o,m,l,j,i,h)=>(t35 af n o m l j i h).val (Ty.aR [yI])
theorem PL:vA x=0\/vA x=90:=by
 exact LT.qS (p:=λy=>y=0\/y=90) (.inl rfl) (by simp[t35,LT.all])
theorem nu{b c:Int}:vA (a,b,c,d,e,f,g)=0↔og a b c d e f g:=by
 simp only[vA,t35,LT.val,zI,bd,bZ,aV,dh,lM,bo,decide_eq_false_iff_not,bne_iff_ne,beq_iff_eq,bne_eq_false_iff_eq,beq_eq_false_iff_ne];simp;unfold og;by_cases j:4<=b/\b<=8/\0<=a/\a<b
 ·rw[Sx (by omega) j.2.1,Yp (n:=a) (by omega) (by omega)]
  have l:=z_ (n:=b.toNat) (by omega);by_cases i:0<=c/\c<256
  ·have h:=amY (a:=a) i.1 i.2 (by omega) (by omega)
   grind
  omega
 omega
theorem chk:rz x=vA x:=by
 have h:=PK (x:=x);have i:=PL (x:=x);obtain⟨a,b,c,d,e,f,g⟩:=x;have j:=ib (a:=a) (b:=b) (c:=c) (d:=d) (e:=e) (f:=f) (g:=g);have l:=nu (a:=a) (b:=b) (c:=c) (d:=d) (e:=e) (f:=f) (g:=g)
 grind
def t77(A:aS)(l:Int)(o:Int)(n:Int)(m:Int)(j:Int)(i:Int)(h:Int)(node:Int):LT Bool Empty:=.br (A.k IY (node,(A.b .sub .i64 o 1))) (.ret (A.cr node l)) (.ret false)
def IX:((Int×Int×Int×Int×Int×Int×Int)×Int)->Bool:=λ((n,o,m,l,j,i,h),node)=>(t77 af n o m l j i h node).val (Ty.aR [.bool])
def avA:aM:=.all [(.struct [yI,yI,yI,yI,yI,yI,yI]),yI] [.bool] IX
theorem alf:Sd 297 avA:=fa (aP ar dK sl 26 [] (λA ((n,o,m,l,j,i,h),node)=>t77 A n o m l j i h node) (kz (fc Tryz.func297 fz) (sc aqG sz)) (λ_ _ _=>LT.bE (by kernel_rfl)))
def t73(A:aS)(o:Int)(p:Int)(m:Int)(l:Int)(j:Int)(i:Int)(h:Int)(n:Int):LT Int Empty:=.br (A.cr (A.k rz (o,p,m,l,j,i,h)) 0) (.ret (A.k rz (o,p,m,l,j,i,h))) (.br (A.not (A.k IX ((o,p,m,l,j,i,h),n))) (.ret 2) (.ret 0))
def PR:((Int×Int×Int×Int×Int×Int×Int)×Int)->Int:=λ((o,p,n,m,l,i,h),j)=>(t73 af o p n m l i h j).val (Ty.aR [yI])
def avy:aM:=.all [(.struct [yI,yI,yI,yI,yI,yI,yI]),yI] [yI] PR
theorem aqy:Sd 300 avy:=fa (aP ar dK sl 39 [] (λA ((o,p,n,m,l,i,h),j)=>t73 A o p n m l i h j) (kz (fc Tryz.func300 fz) (sc QY (sc alf sz))) (λ_ _ _=>LT.bE (by kernel_rfl)))
abbrev HE(A:aS)(i:Int)(h:Int):=(A.b .or .i64 i (A.b .shl .i64 1 h))
def t78(A:aS)(m:Int)(p:Int)(j:Int)(o:Int)(n:Int)(l:Int)(i:Int)(h:Int):LT (List Int×Int) Empty:=.ap (A.bU 0 m) (.ap (A.bU 0 i) (.ap (A.bU 0 h) (.br (A.bK l 0) (.ret ([(HE A j h),0],1)) (.br (A.bK l 1) (.ret ([(A.b .or .i64 (HE A j h) (A.b .shl .i64 1 m)),(A.b .andNot .i64 (HE A j h) (A.b .shl .i64 1 m))],2)) (.br (A.bK h i) (.ret ([(A.b .or .i64 (HE A j h) (A.b .shl .i64 1 m)),0],1)) (.ret ([(A.b .andNot .i64 (A.b .or .i64 (HE A j h) (A.b .shl .i64 1 m)) (A.b .shl .i64 1 i)),(A.b .andNot .i64 (A.b .or .i64 (HE A j h) (A.b .shl .i64 1 i)) (A.b .shl .i64 1 m))],2)))))))
def ob:((Int×Int×Int×Int×Int×Int×Int)×Int)->(List Int×Int):=λ((o,p,n,m,l,i,h),j)=>(t78 af o p n m l i h j).val (Ty.aR [(.arr 2 yI),yI])
def J_:((Int×Int×Int×Int×Int×Int×Int)×Int)->Bool:=λ((a,b,c,d,e,f,g),s)=>decide (0<=a)&&(decide (0<=g)&&decide (0<=s))
def avB:aM:=⟨[(.struct [yI,yI,yI,yI,yI,yI,yI]),yI], [(.arr 2 yI),yI],J_,ob,false⟩
theorem aqF:Sd 298 avB:=aP ar dK sl 77 [] (λA ((p,q,o,n,m,j,i),l)=>t78 A p q o n m j i l) (kz (fc Tryz.func298 fz) sz) (λ(((p,q,o,n,m,j,i),l):(Int×Int×Int×Int×Int×Int×Int)×Int) u h=>by
 show(t78 af p q o n m j i l).pre=true;simp only[t78,HE,LT.pre,STD,bne_iff_ne,beq_iff_eq,bne_eq_false_iff_eq,beq_eq_false_iff_ne];simp only[J_,fQ,sK] at u;simp only[Ty.jK,Ty.has,J2,anm] at h
 (repeat' (first|intro _|constructor))<;>(try omega))
theorem xh{b c:Int}(h:4<=b)(i:b<=8):IX ((a,b,c,d,e,f,g),s)=true↔0<=s/\s<b/\s≠a:=by
 simp only[IX,t77,LT.val,bZ,bo,gg,La];simp;rw[lC (by omega) (by omega)];omega
theorem NK{x:(Int×Int×Int×Int×Int×Int×Int)×Int}:0<=(ob x).2/\(ob x).2<=2:=by
 exact LT.qS (p:=λy:List Int×Int=>0<=y.2/\y.2<=2) (by decide) (by simp[t78,HE,LT.all])
structure amU where
 (a0 a1 a2 a4 a5 a6 a7 a8 a9 jd kU a12 Dl Ju MZ a16 a17 O2 O3 a20 a21 a22 a23:Int) (a24:Bool) (a25 a26 a27 a28 a29 a30 a31 a32 a33 a34 a35 a36 a37 a38 a39 a40:Int)
inductive Y74 where
 | c0 (p:amU) (a3:Int)
noncomputable def am6:Y74->iH
 | .c0 p a3=>⟨[⟨296,37,(en [(0,.yield 0),(24,.uh 1 1 false p.a0 p.a1),(25,vi p.a2),(26,vi a3)]),sk Tryz.f296 [1,1,1,0,0],[],none⟩,⟨301,19,(en [(6,.ptr 2 0),(7,.ptr 3 0)]),[.oI 0,.inBlock 0,.code (cw Tryz.f301 [1,1])],[4],none⟩],[.loop ⟨301,19,(en [(0,.agg [vi p.a4,vi p.a5,vi p.a6,vi p.a7,vi p.a8,vi p.a9,vi p.jd]),(1,vi p.kU),(2,vi p.a12),(3,.ptr 5 0),(5,.ptr 6 0),(6,.ptr 2 0),(7,.ptr 3 0),(10,.agg [vi p.Dl,vi p.Ju,vi p.MZ,vi p.a16,vi p.a17,vi p.O2,vi p.O3]),(11,vi p.a20),(12,.fn 296 [] [.ptr 7 0,.ptr 8 0])]),[13,14],(cw Tryz.f301 [1,0,1,0,0]),(cw Tryz.f301 [1,0,1,0,1]),0,none⟩,.ay false [vi p.a21,vi p.a22],.ay false [vi p.a23],.ay false [vb p.a24],.It,.ay false [vi p.a25,vi p.a26,vi p.a27,vi p.a28,vi p.a29,vi p.a30,vi p.a31],.ay false [vi p.a32],.ay false [vi p.a33,vi p.a34,vi p.a35,vi p.a36,vi p.a37,vi p.a38,vi p.a39],.ay false [vi p.a40],.aZ]⟩
def t74(A:aS)(o:Int)(p:Int)(n:Int)(m:Int)(l:Int)(i:Int)(h:Int)(j:Int)(q:Int):LT (Int×Bool) Y74:=.br (A.cr (A.k rz (o,p,n,m,l,i,h)) 0) (.ret (0,false)) (.br (A.not (A.k IX ((o,p,n,m,l,i,h),j))) (.ret (0,false)) (.ap (A.k J_ ((o,p,n,m,l,i,h),j)) (.ap (A.and (A.bU 0 0) (A.and (A.bU 0 (A.k ob ((o,p,n,m,l,i,h),j)).2) (A.bU (A.k ob ((o,p,n,m,l,i,h),j)).2 2))) (.ao (.c0 ⟨(A.b .add .i64 0 0),(A.b .sub .i64 (A.k ob ((o,p,n,m,l,i,h),j)).2 0),(A.b .sub .i64 (A.k ob ((o,p,n,m,l,i,h),j)).2 0),o,p,n,m,l,i,h,j,q,o,p,n,m,l,i,h,j,(A.n yI (A.k ob ((o,p,n,m,l,i,h),j)).1 0:Int),(A.n yI (A.k ob ((o,p,n,m,l,i,h),j)).1 1:Int),0,false,o,p,n,m,l,i,h,q,o,p,n,m,l,i,h,j⟩ 0)))))
def s74(A:aS):Y74->LT (Int×Bool) Y74
 | .c0 p a3=>.br (A.bD a3 p.a2) (.ap (A.and (A.bU 0 a3) (A.bD a3 p.a1)) (.br (A.bK a3 p.a32) (.ret ((A.n yI [p.a21,p.a22] (A.b .add .i64 p.a0 a3):Int),true)) (.ao (.c0 p (A.b .add .i64 a3 1))))) (.ret (0,false))
def K8:((Int×Int×Int×Int×Int×Int×Int)×Int×Int)->(Int×Bool):=λ(m,s,k)=>bif rz m != 0 then(0,false) else bif !IX (m,s) then(0,false) else bif decide (0<=k)&&decide (k<(ob (m,s)).2) then((ob (m,s)).1.getD k.toNat 0,true) else(0,false)
def avz:aM:=.all [(.struct [yI,yI,yI,yI,yI,yI,yI]),yI,yI] [yI,.bool] K8
theorem avh:Sd 301 avz:=fa (bp ar dK sl 70 [⟨296,3, [[0,24,25,26], [6,7]]⟩] [] (λA ((B,C,z,v,u,m,j),o,i)=>t74 A B C z v u m j o i) s74 am6 (kz (fc Tryz.func301 (fc Tryz.func249 (fc Tryz.func296 fz))) (sc QY (sc alf (sc aqF sz)))) (λA y=>match y with |.c0 p O=>⟨57,sl,by kernel_rfl⟩) λ(((B,C,z,v,u,m,j),o,i):(Int×Int×Int×Int×Int×Int×Int)×Int×Int) Q h=>by
 show aW (s74 af) (t74 af B C z v u m j o i) (K8 ((B,C,z,v,u,m,j),o,i));unfold t74 K8;refine .br ?_;simp only[bo,bZ,k_];cases h1:rz (B,C,z,v,u,m,j) != 0
 ·simp only[cond_false]
  rw[bne_eq_false_iff_eq] at h1;have J:=ib.1 h1;unfold og at J;refine .br ?_;cases h2:IX ((B,C,z,v,u,m,j),o)
  ·exact .ret _
  ·simp only[Bool.not_true,cond_false]
   have P:=(xh (by omega) (by omega)).1 h2;have N:=NK (x:=((B,C,z,v,u,m,j),o));refine .ap (by simp[J_];omega) ?_;generalize ob ((B,C,z,v,u,m,j),o)=q at *;obtain⟨l,n⟩:=q;simp only at N;refine .ap (by simp only[bl,aC,fQ,sK];omega) ?_;have K:n=0\/n=1\/n=2:=by omega
   have I:i=0\/i=1\/(i≠0/\i≠1):=by omega
   have D:IntKind.i64.wrap 0=0:=by decide
   have E:IntKind.i64.wrap 1=1:=by decide
   have F:IntKind.i64.wrap 2=2:=by decide
   rcases K with rfl|rfl|rfl<;>rcases I with rfl|rfl|⟨S,V⟩
   all_goals first
    | (simp[aB,s74,yu,au,By,aV,aC,bd,bl,gz,gg,TL,D,E,F,Ty.gD];done)
    | (simp[aB,s74,yu,au,By,aV,aC,bd,bl,gz,gg,D,E,F];rfl)
    | (have G:(0==i)=false:=by simp<;>omega
       have H:(1==i)=false:=by simp<;>omega
       have c0:(decide (0<=i)&&decide (i<0))=false:=by simp<;>omega
       have c1:(decide (0<=i)&&decide (i<1))=false:=by simp<;>omega
       have c2:(decide (0<=i)&&decide (i<2))=false:=by simp<;>omega
       simp only[c0,c1,c2];simp[aB,s74,yu,au,By,aV,aC,bd,bl,gz,gg,TL,D,E,F,G,H])
 ·exact .ret _)
theorem jJ{b c:Int}:PR ((a,b,c,d,e,f,g),s)=0↔og a b c d e f g/\0<=s/\s<b/\s≠a:=by
 simp only[PR,t73,LT.val,zI,bZ,k_,bo,Bool.not_eq_false',bne_iff_ne,bne_eq_false_iff_eq];constructor
 ·intro h
  rcases h with ⟨m,j⟩|⟨m,j⟩
  ·omega
  ·have l:=ib.1 m
   have i:=l;unfold og at i;rcases j with ⟨j,o⟩|⟨j,_⟩
   ·omega
   ·exact⟨l,(xh (by omega) (by omega)).1 j⟩
 ·rintro ⟨l,n⟩
  have i:=l;unfold og at i;exact .inr ⟨ib.2 l,.inr ⟨(xh (by omega) (by omega)).2 n,trivial⟩⟩
abbrev Hu(A:aS)(o:Int)(q:Int)(p:Int)(m:Int)(h:Int)(j:Int)(i:Int)(l:Int)(n:Int):LT ((Int×Int×Int×Int×Int×Int×Int)×Int) Empty:=(.br (A.bK j 2) (.br (A.cr l i) (.ret ((o,q,(A.k K8 ((o,q,p,m,h,j,i),l,n)).1,(A.mn (A.b .add .i64 m 1) 1048576),(A.mn (A.b .add .i64 h 1) 1048576),0,0),0)) (.ret ((o,q,(A.k K8 ((o,q,p,m,h,j,i),l,n)).1,(A.mn (A.b .add .i64 m 1) 1048576),h,0,0),0))) (.ret ((o,q,(A.k K8 ((o,q,p,m,h,j,i),l,n)).1,(A.mn (A.b .add .i64 m 1) 1048576),h,0,0),0)))
def t25(A:aS)(p:Int)(q:Int)(n:Int)(m:Int)(l:Int)(i:Int)(j:Int)(h:Int)(o:Int):LT ((Int×Int×Int×Int×Int×Int×Int)×Int) Empty:=.br (A.cr (A.k PR ((p,q,n,m,l,i,j),h)) 0) (.ret ((0,0,0,0,0,0,0),(A.k PR ((p,q,n,m,l,i,j),h)))) (.br (A.not (A.k K8 ((p,q,n,m,l,i,j),h,o)).2) (.ret ((0,0,0,0,0,0,0),2)) (.br (A.bK i 1) (.br (A.bK o 1) (.ap (A.bU 0 h) (.ret ((p,q,(A.b .or .i64 n (A.b .shl .i64 1 h)),m,l,2,h),0))) (Hu A p q n m l i j h o)) (Hu A p q n m l i j h o)))
def uW:((Int×Int×Int×Int×Int×Int×Int)×Int×Int)->((Int×Int×Int×Int×Int×Int×Int)×Int):=λ((p,q,o,n,l,i,h),j,m)=>(t25 af p q o n l i h j m).val (Ty.aR [(.struct [yI,yI,yI,yI,yI,yI,yI]),yI])
def avk:aM:=.all [(.struct [yI,yI,yI,yI,yI,yI,yI]),yI,yI] [(.struct [yI,yI,yI,yI,yI,yI,yI]),yI] uW
theorem au9:Sd 255 avk:=fa (aP ar dK sl 107 [] (λA ((q,u,p,o,m,j,i),l,n)=>t25 A q u p o m j i l n) (kz (fc Tryz.func255 fz) (sc aqy (sc avh sz))) (λ(((q,u,p,o,m,j,i),l,n):(Int×Int×Int×Int×Int×Int×Int)×Int×Int) x h=>by
 show(t25 af q u p o m j i l n).pre=true;simp only[t25,Hu,LT.pre,STD,bne_iff_ne,beq_iff_eq,bne_eq_false_iff_eq,beq_eq_false_iff_ne];simp only[Ty.jK,Ty.has,J2] at h
 (repeat' (first|intro _|constructor))<;>(try (have v:=(jJ.1 (by assumption));unfold og at v;omega))))
def t38(A:aS)(o:Int)(p:Int)(n:Int)(m:Int)(l:Int)(j:Int)(i:Int)(h:Int):LT ((Int×Int×Int×Int×Int×Int×Int)×Int) Empty:=.br (A.cr (A.k PR ((o,p,n,m,l,j,i),h)) 0) (.ret ((0,0,0,0,0,0,0),(A.k PR ((o,p,n,m,l,j,i),h)))) (.ap (A.bU 0 h) (.br (A.bK j 2) (.br (A.bK i h) (.ret ((o,p,(A.b .andNot .i64 n (A.b .shl .i64 1 h)),m,l,1,0),0)) (.ret ((o,p,(A.b .andNot .i64 n (A.b .shl .i64 1 h)),m,l,j,i),0))) (.ret ((o,p,(A.b .andNot .i64 n (A.b .shl .i64 1 h)),m,l,j,i),0))))
def uA:((Int×Int×Int×Int×Int×Int×Int)×Int)->((Int×Int×Int×Int×Int×Int×Int)×Int):=λ((o,p,n,m,l,i,h),j)=>(t38 af o p n m l i h j).val (Ty.aR [(.struct [yI,yI,yI,yI,yI,yI,yI]),yI])
def avn:aM:=.all [(.struct [yI,yI,yI,yI,yI,yI,yI]),yI] [(.struct [yI,yI,yI,yI,yI,yI,yI]),yI] uA
theorem apO:Sd 253 avn:=fa (aP ar dK sl 63 [] (λA ((p,q,o,n,m,j,i),l)=>t38 A p q o n m j i l) (kz (fc Tryz.func253 fz) (sc aqy sz)) (λ(((p,q,o,n,m,j,i),l):(Int×Int×Int×Int×Int×Int×Int)×Int) v h=>by
 show(t38 af p q o n m j i l).pre=true;simp only[t38,LT.pre,STD,bne_iff_ne,beq_iff_eq,bne_eq_false_iff_eq,beq_eq_false_iff_ne];simp only[Ty.jK,Ty.has,J2] at h
 (repeat' (first|intro _|constructor))<;>(try (have u:=(jJ.1 (by assumption));unfold og at u;omega))))
def t39(A:aS)(o:Int)(p:Int)(n:Int)(m:Int)(l:Int)(i:Int)(h:Int)(j:Int):LT ((Int×Int×Int×Int×Int×Int×Int)×Int) Empty:=.br (A.bK (A.k uA ((o,p,n,m,l,i,h),j)).2 0) (.ret (((A.k uA ((o,p,n,m,l,i,h),j)).1.1,(A.k uA ((o,p,n,m,l,i,h),j)).1.2.1,(A.k uA ((o,p,n,m,l,i,h),j)).1.2.2.1,(A.k uA ((o,p,n,m,l,i,h),j)).1.2.2.2.1,(A.mn (A.b .add .i64 (A.k uA ((o,p,n,m,l,i,h),j)).1.2.2.2.2.1 1) 1048576),(A.k uA ((o,p,n,m,l,i,h),j)).1.2.2.2.2.2),(A.k uA ((o,p,n,m,l,i,h),j)).2)) (.ret (A.k uA ((o,p,n,m,l,i,h),j)))
def X3:((Int×Int×Int×Int×Int×Int×Int)×Int)->((Int×Int×Int×Int×Int×Int×Int)×Int):=λ((o,p,n,m,l,i,h),j)=>(t39 af o p n m l i h j).val (Ty.aR [(.struct [yI,yI,yI,yI,yI,yI,yI]),yI])
def avo:aM:=.all [(.struct [yI,yI,yI,yI,yI,yI,yI]),yI] [(.struct [yI,yI,yI,yI,yI,yI,yI]),yI] X3
theorem ava:Sd 254 avo:=fa (aP ar dK sl 45 [] (λA ((o,p,n,m,l,i,h),j)=>t39 A o p n m l i h j) (kz (fc Tryz.func254 fz) (sc apO sz)) (λ_ _ _=>LT.bE (by kernel_rfl)))
def inc(d:Int):Int:=if d<1048576 then d+1 else 1048576
theorem xw(h:0<=d)(i:d<=1048576):af.mn (af.b .add .i64 d 1) 1048576=inc d:=by
 rw[oR,gz,lC (by omega) (by omega),inc];omega
section
variable {a b c d e f g s:Int}
theorem PS:ob ((a,b,c,d,e,0,g),s)=([pg c s,0],1):=rfl
theorem PU:ob ((a,b,c,d,e,1,g),s)=([pg (pg c s) a,wK (pg c s) a],2):=rfl
theorem K9:ob ((a,b,c,d,e,2,g),g)=([pg (pg c g) a,0],1):=by
 simp[ob,t78,HE,LT.val,bd,pg]
theorem K_(h:s≠g):ob ((a,b,c,d,e,2,g),s)=([wK (pg (pg c s) a) g,wK (pg (pg c s) g) a],2):=by
 have i:(s==g)=false:=by simp_all
 simp[ob,t78,HE,LT.val,bd,pg,wK,i]
theorem tY(h:og a b c d e f g)(i:0<=s)(j:s<b)(l:s≠a)(k:Int):K8 ((a,b,c,d,e,f,g),s,k) =
  bif decide (0<=k)&&decide (k<(ob ((a,b,c,d,e,f,g),s)).2) then((ob ((a,b,c,d,e,f,g),s)).1.getD k.toNat 0,true) else(0,false):=by
 have m:=h;unfold og at m;simp[K8,ib.2 h,(xh (by omega) (by omega)).2 ⟨i,j,l⟩,bne_self_eq_false,Bool.not_true,cond_false]
theorem YA(h:og a b c d e 0 g)(i:0<=s)(j:s<b)(l:s≠a):uW ((a,b,c,d,e,0,g),s,0)=((a,b,pg c s,inc d,e,0,0),0):=by
 have m:=h;unfold og at m;simp[uW,t25,Hu,LT.val,bo,bZ,bd,k_,jJ.2 ⟨h,i,j,l⟩,tY h i j l,PS,xw (d:=d) (by omega) (by omega)]
theorem YB(h:og a b c d e 1 g)(i:0<=s)(j:s<b)(l:s≠a):uW ((a,b,c,d,e,1,g),s,0)=((a,b,pg (pg c s) a,inc d,e,0,0),0):=by
 have m:=h;unfold og at m;simp[uW,t25,Hu,LT.val,bo,bZ,bd,k_,jJ.2 ⟨h,i,j,l⟩,tY h i j l,PU,xw (d:=d) (by omega) (by omega)]
theorem SA(h:og a b c d e 1 g)(i:0<=s)(j:s<b)(l:s≠a):uW ((a,b,c,d,e,1,g),s,1)=((a,b,pg c s,d,e,2,s),0):=by
 simp[uW,t25,Hu,LT.val,bo,bZ,bd,k_,jJ.2 ⟨h,i,j,l⟩,tY h i j l,PU,pg]
theorem SB(h:og a b c d e 2 g)(i:0<=g)(j:g<b)(l:g≠a):uW ((a,b,c,d,e,2,g),g,0)=((a,b,pg (pg c g) a,inc d,e,0,0),0):=by
 have m:=h;unfold og at m;simp[uW,t25,Hu,LT.val,bo,bZ,bd,k_,jJ.2 ⟨h,i,j,l⟩,tY h i j l,K9,xw (d:=d) (by omega) (by omega)]
theorem SC(h:og a b c d e 2 g)(i:0<=s)(j:s<b)(l:s≠a)(m:s≠g):uW ((a,b,c,d,e,2,g),s,0)=((a,b,wK (pg (pg c s) a) g,inc d,inc e,0,0),0):=by
 have n:=h;unfold og at n;simp[uW,t25,Hu,LT.val,bo,bZ,bd,k_,jJ.2 ⟨h,i,j,l⟩,tY h i j l,K_ m,show(s != g)=true from by simp_all,xw (d:=d) (by omega) (by omega),xw (d:=e) (by omega) (by omega)]
theorem SD(h:og a b c d e 2 g)(i:0<=s)(j:s<b)(l:s≠a)(m:s≠g):uW ((a,b,c,d,e,2,g),s,1)=((a,b,wK (pg (pg c s) g) a,inc d,inc e,0,0),0):=by
 have n:=h;unfold og at n;simp[uW,t25,Hu,LT.val,bo,bZ,bd,k_,jJ.2 ⟨h,i,j,l⟩,tY h i j l,K_ m,show(s != g)=true from by simp_all,xw (d:=d) (by omega) (by omega),xw (d:=e) (by omega) (by omega)]
theorem Zq(h:og a b c d e f g)(i:0<=s)(j:s<b)(l:s≠a)(n:f≠2):uA ((a,b,c,d,e,f,g),s)=((a,b,wK c s,d,e,f,g),0):=by
 have m:(f==2)=false:=by simp_all
 simp[uA,t38,LT.val,bo,bZ,bd,jJ.2 ⟨h,i,j,l⟩,wK,m]
theorem Zr(h:og a b c d e 2 g)(i:0<=s)(j:s<b)(l:s≠a)(n:g≠s):uA ((a,b,c,d,e,2,g),s)=((a,b,wK c s,d,e,2,g),0):=by
 have m:(g==s)=false:=by simp_all
 simp[uA,t38,LT.val,bo,bZ,bd,jJ.2 ⟨h,i,j,l⟩,wK,m]
theorem Zs(h:og a b c d e 2 g)(j:g≠a):uA ((a,b,c,d,e,2,g),g)=((a,b,wK c g,d,e,1,0),0):=by
 have i:=h;simp[uA,t38,LT.val,bo,bZ,bd,jJ.2 ⟨h,i.2.2.2.2.1,i.2.2.2.2.2.1,j⟩,wK]
theorem Pj{m i:Int×Int×Int×Int×Int×Int×Int}(h:uA (m,s)=(i,0))(j:0<=i.2.2.2.2.1)(l:i.2.2.2.2.1<=1048576):X3 (m,s)=((i.1,i.2.1,i.2.2.1,i.2.2.2.1,inc i.2.2.2.2.1,i.2.2.2.2.2),0):=by
 simp[X3,t39,LT.val,bo,bd,h,xw j l]
end
structure afR where
 (a0:List (Int×Int×(Int×List Int))) (a1 a3 a4 a5 a6 a7 a8 a9 jd kU a12 Dl Ju MZ:Int)
structure Rx where
 (b0 b1 b2 b3 b4 b5 b6 b7 b8 b9 b10 b11 b12 b13 Jx EZ je:Int) (wv:List (Int×Int×(Int×List Int))) (T9:Bool) (B7 T_ O4 Ph b23 b24 b25 b26:Int) (b27 b28:Bool) (b29 b30 b31 b32 b33 b34 b35:Int) (b36 b37 b38:Bool) (b39:Int) (b40 b41:Bool) (b42 b43:Int) (b44 b45 b46:Bool) (b47 b48:Int) (b49 b50 b51:Bool) (b52:List (Int×Int×(Int×List Int))) (b53:Int) (b54 b55:Bool) (b56 b57 b58 b59 b60 b61 b62 b63 b64 b65:Int) (b66:List (Int×Int×(Int×List Int))) (b67 b68 b69 b70 b71 b72 b73 b74 b75 b76 b77 b78 b79 b80 b81 b82 b83 b84 b85 b86 b87 b88 b89 b90 b91 b92 b93 b94 b95 b96 b97 b98 b99:Int)
structure V7 where
 (c0:Int) (c1:List (Int×Int×(Int×List Int))) (c2 c4 c5 c6 c7 c8 c9 c10 c11 c12 c13 c14 Nf c16 c17 c18 c19 c20 c21 c22 c23 c24 c25 c26 c27 c28 c29 c30 c31 c32 c33 c34 c35 c36 c37 c38:Int) (c39:List (Int×Int×(Int×List Int))) (c40:Bool) (c41 c42 c43 c44 c45 c46 c47 c48:Int) (c49 c50:Bool) (c51 c52 c53 c54 c55 c56 c57:Int) (c58 c59 c60:Bool) (c61:Int) (c62 c63:Bool) (c64 c65:Int) (c66 c67 c68:Bool) (c69 c70:Int) (c71 c72 c73:Bool) (c74:List (Int×Int×(Int×List Int))) (c75:Int) (c76 c77:Bool) (c78 c79 c80 c81 c82 c83 c84 c85 c86 c87:Int) (c88:List (Int×Int×(Int×List Int))) (c89 c90 c91 c92 c93 c94 c95 c96 c97 c98 c99 am0 am1 am2 am3:Int)
inductive Y43 where
 | c0 (p:afR) (a2:Int)
 | c1 (p:Rx)
 | c2 (p:V7) (c3:Int)
noncomputable def am5:Y43->iH
 | .c0 p a2=>⟨[⟨299,19,(en [(0,.sl (.struct [yI,yI,(.struct [yI,yB])]) p.a0),(1,.fn 252 [] []),(7,vi p.a1),(8,vi a2)]),sk Tryz.f299 [1,0,1,0,0],[],none⟩,⟨251,9,.leaf,[.ops (ow Tryz.f251 [1,0]) ((ow Tryz.f251 [1,0]).toList.drop 2),.code .ret],[],none⟩,⟨200,85,(en [(8,.ptr 0 0),(9,.ptr 1 0)]),(.ops (ow Tryz.f200 [1,1,1,0,0]) ((ow Tryz.f200 [1,1,1,0,0]).toList.drop 1)::sk Tryz.f200 [1,1,1,0,0]),[2],none⟩],[.ay false [vi p.a3,vi p.a4,vi p.a5,vi p.a6,vi p.a7,vi p.a8,vi p.a9,vi p.jd,vi p.kU,vi p.a12,vi p.Dl,.gi true,vi p.Ju],.ay false [vi p.MZ],.It,.aZ]⟩
 | .c1 p=>⟨[⟨296,37,(en [(0,.yield 0),(24,.uh 1 1 false p.b0 p.b1),(25,vi p.b2),(26,vi p.b3)]),sk Tryz.f296 [1,1,1,0,0],[],none⟩,⟨200,85,(en [(7,.ptr 2 0),(8,.ptr 3 0),(9,.ptr 4 0)]),[.oI 0,.inBlock 1,.code (cw Tryz.f200 [1,1,1])],[5],none⟩],[.loop ⟨200,85,(en [(0,.agg [vi p.b4,vi p.b5,vi p.b6,vi p.b7,vi p.b8]),(1,.agg [vi p.b9,vi p.b10,vi p.b11,vi p.b12,vi p.b13,vi p.Jx,vi p.EZ]),(2,vi p.je),(3,.sl (.struct [yI,yI,(.struct [yI,yB])]) p.wv),(4,.ptr 9 0),(5,.ptr 6 0),(7,.ptr 2 0),(8,.ptr 3 0),(9,.ptr 4 0),(16,vb p.T9),(17,.agg [vi p.B7,vi p.T_,vi p.O4,vi p.Ph,vi p.b23,vi p.b24,vi p.b25]),(18,vi p.b26),(19,vb p.b27),(20,vb p.b28),(21,.agg [vi p.b29,vi p.b30,vi p.b31,vi p.b32,vi p.b33]),(22,.ptr 6 1),(23,vi p.b34),(24,vi p.b35),(25,vb p.b36),(26,vb p.b37),(28,vb p.b38),(29,vi p.b39),(30,vb p.b40),(31,vb p.b41),(32,vi p.b42),(33,.ptr 6 1),(34,vi p.b43),(35,vb p.b44),(36,vb p.b45),(37,vb p.b46),(38,vi p.b47),(39,.ptr 6 0),(40,vi p.b48),(41,vb p.b49),(42,vb p.b50),(43,vb p.b51),(44,.sl (.struct [yI,yI,(.struct [yI,yB])]) p.b52),(45,vi p.b53),(46,vb p.b54),(47,vb p.b55),(49,.agg [vi p.b56,vi p.b57,vi p.b58,vi p.b59,vi p.b60,vi p.b61,vi p.b62]),(50,vi p.b63),(51,.fn 296 [] [.ptr 7 0,.ptr 8 0])]),[52,53],(cw Tryz.f200 [1,1,0,1,0,0]),(cw Tryz.f200 [1,1,0,1,0,1]),0,none⟩,.ay false [vi p.b64,vi p.b65],.ay false [.sl (.struct [yI,yI,(.struct [yI,yB])]) p.b66],.ay false [vi p.b67,vi p.b68,vi p.b69,vi p.b70,vi p.b71,vi p.b72,vi p.b73,vi p.b74,vi p.b75,vi p.b76,vi p.b77,.gi true,vi p.b78],.ay false [vi p.b79],.It,.ay false [vi p.b80,vi p.b81,vi p.b82,vi p.b83,vi p.b84,vi p.b85,vi p.b86],.ay false [vi p.b87,vi p.b88,vi p.b89,vi p.b90,vi p.b91,vi p.b92,vi p.b93],.ay false [vi p.b94],.ay false [vi p.b95,vi p.b96,vi p.b97,vi p.b98,vi p.b99],.aZ]⟩
 | .c2 p c3=>⟨[⟨200,85,(en [(4,.ptr 0 0),(8,.ptr 1 0),(9,.ptr 2 0),(10,vi p.c0),(56,.sl (.struct [yI,yI,(.struct [yI,yB])]) p.c1),(57,vi p.c2),(58,vi c3)]),[.inLoop (cw Tryz.f200 [1,1,0,1,0,1,0,1,1,0,0]),.inBlock 3,.inBlock 2],[],some 3⟩,⟨296,37,(en [(0,.yield 3),(24,.uh 4 1 false p.c4 p.c5),(25,vi p.c6),(26,vi p.c7)]),(.ops (ow Tryz.f296 [1,1,1,0,0,1,1,0,0,1,0]) ((ow Tryz.f296 [1,1,1,0,0,1,1,0,0,1,0]).toList.drop 3)::sk Tryz.f296 [1,1,1,0,0,1,1,0,0,1,0]),[],none⟩,⟨200,85,(en [(7,.ptr 5 0),(8,.ptr 1 0),(9,.ptr 2 0)]),[.oI 3,.inBlock 1,.code (cw Tryz.f200 [1,1,1])],[6],none⟩],[.ay false [vi p.c8,vi p.c9,vi p.c10,vi p.c11,vi p.c12],.ay false [vi p.c13,vi p.c14,vi p.Nf,vi p.c16,vi p.c17,vi p.c18,vi p.c19,vi p.c20,vi p.c21,vi p.c22,vi p.c23,.gi true,vi p.c24],.ay false [vi p.c25],.loop ⟨200,85,(en [(0,.agg [vi p.c26,vi p.c27,vi p.c28,vi p.c29,vi p.c30]),(1,.agg [vi p.c31,vi p.c32,vi p.c33,vi p.c34,vi p.c35,vi p.c36,vi p.c37]),(2,vi p.c38),(3,.sl (.struct [yI,yI,(.struct [yI,yB])]) p.c39),(4,.ptr 0 0),(5,.ptr 7 0),(7,.ptr 5 0),(8,.ptr 1 0),(9,.ptr 2 0),(16,vb p.c40),(17,.agg [vi p.c41,vi p.c42,vi p.c43,vi p.c44,vi p.c45,vi p.c46,vi p.c47]),(18,vi p.c48),(19,vb p.c49),(20,vb p.c50),(21,.agg [vi p.c51,vi p.c52,vi p.c53,vi p.c54,vi p.c55]),(22,.ptr 7 1),(23,vi p.c56),(24,vi p.c57),(25,vb p.c58),(26,vb p.c59),(28,vb p.c60),(29,vi p.c61),(30,vb p.c62),(31,vb p.c63),(32,vi p.c64),(33,.ptr 7 1),(34,vi p.c65),(35,vb p.c66),(36,vb p.c67),(37,vb p.c68),(38,vi p.c69),(39,.ptr 7 0),(40,vi p.c70),(41,vb p.c71),(42,vb p.c72),(43,vb p.c73),(44,.sl (.struct [yI,yI,(.struct [yI,yB])]) p.c74),(45,vi p.c75),(46,vb p.c76),(47,vb p.c77),(49,.agg [vi p.c78,vi p.c79,vi p.c80,vi p.c81,vi p.c82,vi p.c83,vi p.c84]),(50,vi p.c85),(51,.fn 296 [] [.ptr 8 0,.ptr 9 0])]),[52,53],(cw Tryz.f200 [1,1,0,1,0,0]),(cw Tryz.f200 [1,1,0,1,0,1]),1,none⟩,.ay false [vi p.c86,vi p.c87],.ay false [.sl (.struct [yI,yI,(.struct [yI,yB])]) p.c88],.It,.ay false [vi p.c89,vi p.c90,vi p.c91,vi p.c92,vi p.c93,vi p.c94,vi p.c95],.ay false [vi p.c96,vi p.c97,vi p.c98,vi p.c99,vi p.am0,vi p.am1,vi p.am2],.ay false [vi p.am3],.aZ]⟩
abbrev aff:LT ((Int×Int×Int×(Int×Int×(Int×Int×Int×Int×Int)×Int×List Int)×Int)×Int) Y43:=(.ret ((0,0,0,(0,0,(0,0,0,0,0),0,([]:List Int)),0),2))
def t43(A:aS)(x:Int)(z:Int)(u:Int)(v:Int)(m:Int)(p:Int)(y:Int)(o:Int)(n:Int)(l:Int)(j:Int)(i:Int)(h:Int)(q:List (Int×Int×(Int×List Int))):LT ((Int×Int×Int×(Int×Int×(Int×Int×Int×Int×Int)×Int×List Int)×Int)×Int) Y43:=.br (A.cr (A.k rz (p,y,o,n,l,j,i)) 0) (.ret ((0,0,0,(0,0,(0,0,0,0,0),0,([]:List Int)),0),170)) (.br (A.cr (A.k xj ((x,z,u,v,m),y)) 0) (.ret ((0,0,0,(0,0,(0,0,0,0,0),0,([]:List Int)),0),170)) (.br (A.bD h 0) (aff) (.br (A.qP h y) (aff) (.br (A.bK h p) (aff) (.br (A.cr (A.l q) 2) (aff) (.br (A.cr (A.k rz (p,y,o,n,l,j,i)) 0) (.ao (.c0 ⟨q,(A.l q),0,0,0,0,0,0,0,0,0,0,0,0,0⟩ 0)) (.br (A.not (A.k IX ((p,y,o,n,l,j,i),h))) (.ao (.c0 ⟨q,(A.l q),0,0,0,0,0,0,0,0,0,0,0,0,0⟩ 0)) (.ap (A.k J_ ((p,y,o,n,l,j,i),h)) (.ap (A.and (A.bU 0 0) (A.and (A.bU 0 (A.k ob ((p,y,o,n,l,j,i),h)).2) (A.bU (A.k ob ((p,y,o,n,l,j,i),h)).2 2))) (.ao (.c1 ⟨(A.b .add .i64 0 0),(A.b .sub .i64 (A.k ob ((p,y,o,n,l,j,i),h)).2 0),(A.b .sub .i64 (A.k ob ((p,y,o,n,l,j,i),h)).2 0),0,x,z,u,v,m,p,y,o,n,l,j,i,h,q,(A.cr (A.k xj ((x,z,u,v,m),y)) 0),p,y,o,n,l,j,i,(A.k rz (p,y,o,n,l,j,i)),(A.cr (A.k rz (p,y,o,n,l,j,i)) 0),false,x,z,u,v,m,y,(A.k xj ((x,z,u,v,m),y)),(A.cr (A.k xj ((x,z,u,v,m),y)) 0),(A.cr (A.k xj ((x,z,u,v,m),y)) 0),(A.cr (A.l q) 2),h,(A.bD h 0),false,h,y,(A.qP h y),(A.qP h y),false,h,p,(A.bK h p),(A.bK h p),false,q,(A.l q),(A.cr (A.l q) 2),(A.cr (A.l q) 2),p,y,o,n,l,j,i,h,(A.n yI (A.k ob ((p,y,o,n,l,j,i),h)).1 0:Int),(A.n yI (A.k ob ((p,y,o,n,l,j,i),h)).1 1:Int),q,0,0,0,0,0,0,0,0,0,0,0,0,0,p,y,o,n,l,j,i,p,y,o,n,l,j,i,h,x,z,u,v,m⟩)))))))))))
def VB(A:aS):Y43->LT ((Int×Int×Int×(Int×Int×(Int×Int×Int×Int×Int)×Int×List Int)×Int)×Int) Y43
 | .c0 p a2=>.br (A.bD a2 p.a1) (.ap (A.and (A.bU 0 a2) (A.bD a2 (A.l p.a0))) (.br (A.cr (A.n (.struct [yI,yI,(.struct [yI,yB])]) p.a0 a2:Int×Int×(Int×List Int)).1 0) (.br (A.qP a2 0) (.ret ((2,0,0,(0,0,(0,0,0,0,0),0,([]:List Int)),0),0)) (.ret ((1,0,0,(0,0,(0,0,0,0,0),0,([]:List Int)),0),0))) (.ao (.c0 p (A.b .add .i64 a2 1))))) (.ret ((1,0,0,(0,0,(0,0,0,0,0),0,([]:List Int)),0),0))
 | .c1 p=>.br (A.bD p.b3 p.b2) (.ap (A.and (A.bU 0 p.b3) (A.bD p.b3 p.b1)) (.ao (.c2 ⟨p.b3,p.b66,(A.l p.b66),p.b0,p.b1,p.b2,p.b3,p.b95,p.b96,p.b97,p.b98,(A.n yI [p.b64,p.b65] (A.b .add .i64 p.b0 p.b3):Int),p.b67,p.b68,p.b69,p.b70,p.b71,p.b72,p.b73,p.b74,p.b75,p.b76,p.b77,p.b78,p.b79,p.b4,p.b5,p.b6,p.b7,p.b8,p.b9,p.b10,p.b11,p.b12,p.b13,p.Jx,p.EZ,p.je,p.wv,p.T9,p.B7,p.T_,p.O4,p.Ph,p.b23,p.b24,p.b25,p.b26,p.b27,p.b28,p.b29,p.b30,p.b31,p.b32,p.b33,p.b34,p.b35,p.b36,p.b37,p.b38,p.b39,p.b40,p.b41,p.b42,p.b43,p.b44,p.b45,p.b46,p.b47,p.b48,p.b49,p.b50,p.b51,p.b52,p.b53,p.b54,p.b55,p.b56,p.b57,p.b58,p.b59,p.b60,p.b61,p.b62,p.b63,p.b64,p.b65,p.b66,p.b80,p.b81,p.b82,p.b83,p.b84,p.b85,p.b86,p.b87,p.b88,p.b89,p.b90,p.b91,p.b92,p.b93,p.b94⟩ 0))) (.ao (.c0 ⟨p.b66,(A.l p.b66),p.b67,p.b68,p.b69,p.b70,p.b71,p.b72,p.b73,p.b74,p.b75,p.b76,p.b77,p.b78,p.b79⟩ 0))
 | .c2 p c3=>.br (A.bD c3 p.c2) (.ap (A.and (A.bU 0 c3) (A.bD c3 (A.l p.c1))) (.br (A.cr (A.n (.struct [yI,yI,(.struct [yI,yB])]) p.c1 c3:Int×Int×(Int×List Int)).1 2) (.ao (.c2 p (A.b .add .i64 c3 1))) (.br (A.k PO ((A.n (.struct [yI,yI,(.struct [yI,yB])]) p.c1 c3:Int×Int×(Int×List Int)).2.2,p.c8,p.c9,p.c10,p.c11,p.c12)).2 (.ret ((3,p.c0,c3,(A.k PO ((A.n (.struct [yI,yI,(.struct [yI,yB])]) p.c1 c3:Int×Int×(Int×List Int)).2.2,p.c8,p.c9,p.c10,p.c11,p.c12)).1,(A.n (.struct [yI,yI,(.struct [yI,yB])]) p.c1 c3:Int×Int×(Int×List Int)).2.1),0)) (.ao (.c2 p (A.b .add .i64 c3 1)))))) (.ao (.c1 ⟨p.c4,p.c5,p.c6,(A.b .add .i64 p.c7 1),p.c26,p.c27,p.c28,p.c29,p.c30,p.c31,p.c32,p.c33,p.c34,p.c35,p.c36,p.c37,p.c38,p.c39,p.c40,p.c41,p.c42,p.c43,p.c44,p.c45,p.c46,p.c47,p.c48,p.c49,p.c50,p.c51,p.c52,p.c53,p.c54,p.c55,p.c56,p.c57,p.c58,p.c59,p.c60,p.c61,p.c62,p.c63,p.c64,p.c65,p.c66,p.c67,p.c68,p.c69,p.c70,p.c71,p.c72,p.c73,p.c74,p.c75,p.c76,p.c77,p.c78,p.c79,p.c80,p.c81,p.c82,p.c83,p.c84,p.c85,p.c86,p.c87,p.c88,p.c13,p.c14,p.Nf,p.c16,p.c17,p.c18,p.c19,p.c20,p.c21,p.c22,p.c23,p.c24,p.c25,p.c89,p.c90,p.c91,p.c92,p.c93,p.c94,p.c95,p.c96,p.c97,p.c98,p.c99,p.am0,p.am1,p.am2,p.am3,p.c8,p.c9,p.c10,p.c11,p.c12⟩))
def vX(c:Int×Int×Int×Int×Int)(w:Int):Nat->List (Int×Int×(Int×List Int))->Option (Int×Int×Int×(Int×Int×(Int×Int×Int×Int×Int)×Int×List Int)×Int)
 | _, []=>none
 | k,s::l=>bif s.1==2&&(J0 (s.2.2,c)).2 then some (3,w,(k:Int),(J0 (s.2.2,c)).1,s.2.1) else vX c w (k+1) l
def uk(t p m n:Int)(h:List (Int×Int×(Int×List Int))):Nat->List Int->Option (Int×Int×Int×(Int×Int×(Int×Int×Int×Int×Int)×Int×List Int)×Int)
 | _, []=>none
 | i,v::l=>match vX (t,p,m,n,v) (i:Int) 0 h with
   | some o=>some o
   | none=>uk t p m n h (i+1) l
def ahh:Int×Int×Int×(Int×Int×(Int×Int×Int×Int×Int)×Int×List Int)×Int:=(0,0,0,Iq,0)
def BB(h:List (Int×Int×(Int×List Int))):Int×Int×Int×(Int×Int×(Int×Int×Int×Int×Int)×Int×List Int)×Int:=bif h.any λs=>s.1 != 0 then(2,0,0,Iq,0) else(1,0,0,Iq,0)
def Kj(t p m n:Int)(h:List (Int×Int×(Int×List Int)))(i:Nat)(j:List Int):(Int×Int×Int×(Int×Int×(Int×Int×Int×Int×Int)×Int×List Int)×Int)×Int:=
 match uk t p m n h i j with
 | some o=>(o,0)
 | none=>(BB h,0)
def vws(x:(Int×Int×Int×Int×Int×Int×Int)×Int):List Int:=(ob x).1.take (ob x).2.toNat
def qq:(Int×Int×Int×Int×Int)×(Int×Int×Int×Int×Int×Int×Int)×Int×List (Int×Int×(Int×List Int))->(Int×Int×Int×(Int×Int×(Int×Int×Int×Int×Int)×Int×List Int)×Int)×Int:=λ((t,p,m,n,s),v,h,i)=>
 bif rz v != 0||rQ ((t,p,m,n,s),v.2.1) != 0 then(ahh,170)
 else bif decide (h<0)||decide (v.2.1<=h)||h==v.1||i.length != 2 then(ahh,2)
 else Kj t p m n i 0 (vws (v,h))
theorem Yo{x:(Int×Int×Int×Int×Int×Int×Int)×Int}:(ob x).1.length=2:=by
 exact LT.qS (p:=λy:List Int×Int=>y.1.length=2) rfl (by simp[t78,HE,LT.all])
theorem N9{l:List (Int×Int×(Int×List Int))}(h:i<l.length):(af.n (.struct [(.int .i64),(.int .i64),(.struct [(.int .i64),(.slice (.int .u8))])]) l (i:Int):Int×Int×(Int×List Int))=l[i]:=fL h _
theorem aeV{l:List (Int×Int×(Int×List Int))}(B:l.length<=140737488355328):∀(j i:Nat) (p:afR),p.a0=l->p.a1=(l.length:Int)->l.length-i=j->i<=l.length->(l.take i).any (λs=>s.1 != 0)=false->aW (VB af) (.ao (.c0 p (i:Int))) (BB l,0):=by
 intro j
 induction j with
 | zero=>
   intro i p n o y x q;have:i=l.length:=by omega
   subst this;rw[eB] at q;rw[aB,VB];refine(ak (by rw[o,bg];simp)).2 ?_;rw[BB,q];exact .ret _
 | succ j ih=>
   intro i p n o y x q;have m:i<l.length:=by omega
   rw[aB,VB];refine(al (by rw[o,bg];simp_all)).2 (au.2 ⟨by rw[n];exact du m,?_⟩);have v:(af.n (.struct [(.int .i64),(.int .i64),(.struct [(.int .i64),(.slice (.int .u8))])]) p.a0 (i:Int):Int×Int×(Int×List Int)).1=l[i].1:=congrArg (λz=>z.1) ((congrArg (λz=>(af.n (.struct [(.int .i64),(.int .i64),(.struct [(.int .i64),(.slice (.int .u8))])]) z (i:Int):Int×Int×(Int×List Int))) n).trans (N9 m));have A:=bf m;by_cases u:l[i].1=0
   ·refine(ak (yZ (v.trans u))).2 ?_
    refine lW (congrArg LT.ao (congrArg (Y43.c0 p) (iC (by omega)))) (ih (i+1) p n o (by omega) (by omega) ?_)
    grind
   ·refine(al (y1 (λh=>u (v.symm.trans h)))).2 ((al (by rfl)).2 ?_)
    have:l.any (λs=>s.1 != 0)=true:=List.any_eq_true.2 ⟨l[i],dF m,by simp_all⟩;rw[BB,this];exact .ret _
def I1(p:Rx)(j:List (Int×Int×(Int×List Int)))(o:List Int)(h i t l m n:Int):Prop:=p.b0=0/\p.b1=h/\p.b2=h/\p.b3=i/\p.b66=j/\ [p.b64,p.b65]=o/\p.b95=t/\p.b96=l/\p.b97=m/\p.b98=n
def I2(p:V7)(h:List (Int×Int×(Int×List Int)))(o:List Int)(j i t l m n v:Int):Prop:=p.c0=i/\p.c1=h/\p.c2=(h.length:Int)/\p.c4=0/\p.c5=j/\p.c6=j/\p.c7=i/\p.c88=h/\ [p.c86,p.c87]=o/\p.c8=t/\p.c9=l/\p.c10=m/\p.c11=n/\p.c12=v
variable{vs:List Int}
theorem aeX{seen:List (Int×Int×(Int×List Int))}{cnt po:Int}(hi:i<4)(hl:seen.length<=140737488355328){R:(Int×Int×Int×(Int×Int×(Int×Int×Int×Int×Int)×Int×List Int)×Int)×Int}(A:∀X:Rx,I1 X seen vs cnt ((i+1:Nat):Int) t po m n->aW (VB af) (.ao (.c1 X)) R):
  ∀(j k:Nat) (p:V7),I2 p seen vs cnt (i:Int) t po m n v->seen.length-k=j->k<=seen.length->aW (VB af) (.ao (.c2 p (k:Int))) (match vX (t,po,m,n,v) (i:Int) k (seen.drop k) with|some o=>(o,0)|none=>R):=by
 intro j
 induction j with
 | zero=>
   intro k p E hj hk;have:k=seen.length:=by omega
   subst this;obtain⟨N,G,H,O,P,Q,S,C,W,I,J,l,q,B⟩:=E;rw[aB,VB];refine(ak (by rw[H,bg];simp)).2 ?_;rw[cK];exact A _ ⟨O,P,Q,by show af.b .add .i64 p.c7 1=_;rw[S,iC (by omega)],C,W,I,J,l,q⟩
 | succ j ih=>
   intro k p E hj hk;have u:k<seen.length:=by omega
   have V:=ih (k+1) p E (by omega) (by omega);obtain⟨N,G,H,O,P,Q,S,C,W,I,J,l,q,B⟩:=E;rw[aB,VB];have F:(af.n (.struct [(.int .i64),(.int .i64),(.struct [(.int .i64),(.slice (.int .u8))])]) p.c1 (k:Int):Int×Int×(Int×List Int))=seen[k]:=(congrArg (λz=>(af.n (.struct [(.int .i64),(.int .i64),(.struct [(.int .i64),(.slice (.int .u8))])]) z (k:Int):Int×Int×(Int×List Int))) G).trans (N9 u);have Z:seen.drop k=seen[k]::seen.drop (k+1):=AB u;have K:af.k PO ((af.n (.struct [(.int .i64),(.int .i64),(.struct [(.int .i64),(.slice (.int .u8))])]) p.c1 (k:Int):Int×Int×(Int×List Int)).2.2,p.c8,p.c9,p.c10,p.c11,p.c12)=J0 (seen[k].2.2,(t,po,m,n,v)):=by
    refine(congrArg (λz:Int×Int×(Int×List Int)=>PO (z.2.2,p.c8,p.c9,p.c10,p.c11,p.c12)) F).trans ?_;rw[I,J,l,q,B];exact adG
   refine(al (by rw[H,bg];simp_all)).2 (au.2 ⟨by rw[G];exact du u,?_⟩);rw[Z,vX];by_cases D:seen[k].1=2
   ·refine(ak (yZ ((congrArg (λz=>z.1) F).trans D))).2 (?_)
    rw[show(seen[k].1==2)=true from by simp_all,cY];cases hgd:(J0 (seen[k].2.2,(t,po,m,n,v))).2
    ·refine(ak ((congrArg (λz=>z.2) K).trans hgd)).2 ?_
     exact lW (congrArg LT.ao (congrArg (Y43.c2 p) (iC (by omega)))) V
    ·refine(al ((congrArg (λz=>z.2) K).trans hgd)).2 ?_
     have e:=congr (congr (congrArg (λ(x:Int) (y:Int×Int×(Int×Int×Int×Int×Int)×Int×List Int) (z:Int)=>(LT.ret (((3:Int),x,(k:Int),y,z),(0:Int)):LT ((Int×Int×Int×(Int×Int×(Int×Int×Int×Int×Int)×Int×List Int)×Int)×Int) Y43)) N) (congrArg (λz=>z.1) K)) (congrArg (λz=>z.2.1) F);exact lW e (.ret _)
   ·refine(al (y1 (λh=>D ((congrArg (λz=>z.1) F).symm.trans h)))).2 ?_
    rw[show(seen[k].1==2)=false from by simp_all,gn];exact lW (congrArg LT.ao (congrArg (Y43.c2 p) (iC (by omega)))) V
theorem aeW{o:List (Int×Int×(Int×List Int))}{h:Nat}{D:Int}(N:o.length<=140737488355328)(S:vs.length=2)(W:h<=2):∀(j i:Nat) (p:Rx),I1 p o vs (h:Int) (i:Int) t D m n->h-i=j->i<=h->aW (VB af) (.ao (.c1 p)) (Kj t D m n o i ((vs.take h).drop i)):=by
 intro j
 induction j with
 | zero=>
   intro i p G P O;have:i=h:=by omega
   subst this;obtain⟨E,F,C,u,q,K,x,y,A,B⟩:=G;rw[aB,VB];refine(ak (by rw[C,u,bg];simp)).2 ?_;rw[gh (by simp_all)];exact aeV N o.length 0 _ q (by show af.l p.b66=_;rw[q];rfl) rfl (by omega) rfl
 | succ j ih=>
   intro i p G P O;obtain⟨E,F,C,u,q,K,x,y,A,B⟩:=G;have H:i<(vs.take h).length:=by grind
   rw[aB,VB];refine(al (by rw[C,u,bg];simp_all)).2 (au.2 ⟨by rw[F,u,u_,bg,bl];simp_all,?_⟩);have I:(af.n (.int .i64) [p.b64,p.b65] (af.b .add .i64 p.b0 p.b3):Int)=(vs.take h)[i]:=by
    have e:af.b .add .i64 p.b0 p.b3=(i:Int):=by rw[E,u,gz,lC (by omega) (by omega)];omega
    refine((congrArg (λz=>(af.n (.int .i64) [p.b64,p.b65] z:Int)) e).trans ((congrArg (λz=>(af.n (.int .i64) z (i:Int):Int)) K).trans (fL (l:=vs) (by omega) _))).trans ?_
    grind
   have Q:=aeX (seen:=o) (vs:=vs) (cnt:=(h:Int)) (t:=t) (po:=D) (m:=m) (n:=n) (v:=(vs.take h)[i]) (i:=i) (by omega) N (R:=Kj t D m n o (i+1) ((vs.take h).drop (i+1))) (λV J=>ih (i+1) V J (by omega) (by omega)) o.length 0;refine aQ ?_ (Q _ ⟨u,q,?_,E,F,C,u,q,K,x,y,A,B,I⟩ rfl (by omega))
   rotate_left
   ·show af.l p.b66=_;rw[q];rfl
   rw[Kj,Kj,AB H,uk,kH]
   grind
theorem YE{l b c i:Int}{j:List (Int×Int×(Int×List Int))}(h:Ty.jK [(.struct [(.int .i64),(.int .i64),(.int .i64),(.int .i64),(.int .i64)]),(.struct [(.int .i64),(.int .i64),(.int .i64),(.int .i64),(.int .i64),(.int .i64),(.int .i64)]),(.int .i64),(.slice (.struct [(.int .i64),(.int .i64),(.struct [(.int .i64),(.slice (.int .u8))])]))] ((t,l,m,n,s),(a,b,c,d,e,f,g),i,j)):j.length<=140737488355328:=h.2.2.2.1
theorem apl{b c i:Int}{j:List (Int×Int×(Int×List Int))}(h:Ty.jK [(.struct [(.int .i64),(.int .i64),(.int .i64),(.int .i64),(.int .i64)]),(.struct [(.int .i64),(.int .i64),(.int .i64),(.int .i64),(.int .i64),(.int .i64),(.int .i64)]),(.int .i64),(.slice (.struct [(.int .i64),(.int .i64),(.struct [(.int .i64),(.slice (.int .u8))])]))] ((t,v,m,n,s),(a,b,c,d,e,f,g),i,j)):
  aW (VB af) (t43 af t v m n s a b c d e f g i j) (qq ((t,v,m,n,s),(a,b,c,d,e,f,g),i,j)):=by
 have D:=YE h;rw[qq];by_cases o:(rz (a,b,c,d,e,f,g) != 0)=true
 ·rw[o]
  exact(al o).2 (.ret _)
 rw[Bool.not_eq_true] at o;rw[o];refine(ak o).2 (?_);rw[nC];by_cases q:(rQ ((t,v,m,n,s),b) != 0)=true
 ·rw[q]
  exact(al q).2 (.ret _)
 rw[Bool.not_eq_true] at q;rw[q];refine(ak q).2 ?_;have F:rz (a,b,c,d,e,f,g)=0:=by simp_all
 have z:=ib.1 F;unfold og at z;by_cases G:i<0
 ·refine(al (by rw[aV];simp_all)).2 ?_
  rw[show decide (i<0)=true from by simp_all];exact .ret _
 refine(ak (by rw[aV];simp_all)).2 ?_;by_cases C:b<=i
 ·refine(al (by rw[lM];simp_all)).2 ?_
  rw[show decide (b<=i)=true from by simp_all,mh];exact .ret _
 refine(ak (by rw[lM];simp_all)).2 ?_;by_cases A:i=a
 ·refine(al (Dp A)).2 ?_
  rw[show(i==a)=true from by simp_all,mh];exact .ret _
 refine(ak (RL A)).2 ?_;by_cases H:¬j.length=2
 ·refine(al (y1 (show(j.length:Int)≠2 by omega))).2 ?_
  rw[show(j.length != 2)=true from by simp_all,mh];exact .ret _
 refine(ak (yZ (show(j.length:Int)=2 by omega))).2 ((ak o).2 (?_));rw[show decide (i<0)=false from by simp_all,show decide (b<=i)=false from by simpa using C,show(i==a)=false from by simp_all,show(j.length != 2)=false from by simp_all];have y:IX ((a,b,c,d,e,f,g),i)=true:=(xh (by omega) (by omega)).2 ⟨by omega,by omega,by omega⟩;have E:=NK (x:=((a,b,c,d,e,f,g),i));have u:=Yo (x:=((a,b,c,d,e,f,g),i));refine(ak (show af.not (af.k IX ((a,b,c,d,e,f,g),i))=false by rw[k_,bo,y];rfl)).2 (au.2 ⟨by rw[bo];simp[J_];omega,au.2 ⟨?_,?_⟩⟩)
 ·rw[bo,bl,bl,aC,aC,aC];simp_all
 ·obtain⟨p,l⟩:=aO E.1
  rw[vws,l,rO];have B:af.b .sub .i64 (af.k ob ((a,b,c,d,e,f,g),i)).2 0=(p:Int):=by
   rw[bo,l,gg,lC (by omega) (by omega)];omega
  refine aeW (vs:=(ob ((a,b,c,d,e,f,g),i)).1) D u (by omega) p 0 _ ⟨rfl,B,B,rfl,rfl,?_,rfl,rfl,rfl,rfl⟩ (by omega) (by omega)
  match (ob ((a,b,c,d,e,f,g),i)).1,u with
  | [_,_],_=>rfl
def ajL:((Int×Int×Int×Int×Int)×(Int×Int×Int×Int×Int×Int×Int)×Int×List (Int×Int×(Int×List Int)))->((Int×Int×Int×(Int×Int×(Int×Int×Int×Int×Int)×Int×List Int)×Int)×Int):=qq
def avp:aM:=.all [(.struct [yI,yI,yI,yI,yI]),(.struct [yI,yI,yI,yI,yI,yI,yI]),yI,(.slice (.struct [yI,yI,(.struct [yI,yB])]))] [(.struct [yI,yI,yI,(.struct [yI,yI,(.struct [yI,yI,yI,yI,yI]),yI,yB]),yI]),yI] ajL
theorem avb:Sd 200 avp:=fa (bp ar dK sl 122 [⟨200,10, [[4,8,9,10,56,57,58], [0,24,25,26], [7,8,9]]⟩,⟨296,3, [[0,24,25,26], [7,8,9]]⟩,⟨299,2, [[0,1,7,8], [], [8,9]]⟩] [] (λA ((q,v,n,o,i),(C,D,B,z,u,m,l),j,x)=>t43 A q v n o i C D B z u m l j x) VB am5 (kz (fc Tryz.func200 (fc Tryz.func249 (fc Tryz.func251 (fc Tryz.func252 (fc Tryz.func296 (fc Tryz.func299 fz)))))) (sc QY (sc avd (sc alf (sc aqF (sc Mg sz)))))) (λA y=>match y with |.c0 p a2=>⟨62,sl,by kernel_rfl⟩|.c1 p=>⟨52,sl,by kernel_rfl⟩|.c2 p c3=>⟨68,sl,by kernel_rfl⟩) λ((q,v,n,o,i),(C,D,B,z,u,m,l),j,x) E h=>apl h)
def t61(A:aS)(u:Int)(G:Int)(o:Int)(n:Int)(m:Int)(j:Int)(i:Int)(h:Int)(l:Int)(p:Int)(E:Int)(D:Int)(F:Int)(y:Int)(z:Int)(v:Int)(x:Int)(q:Int)(C:Int)(B:List Int)(H:Int):LT ((Int×Int×Int×Int×Int×Int×Int)×Int) Empty:=.br (A.bK l 1) (.ret (A.k uA ((u,G,o,n,m,j,i),h))) (.br (A.bK l 2) (.ret (A.k X3 ((u,G,o,n,m,j,i),h))) (.br (A.bK l 3) (.ret (A.k uW ((u,G,o,n,m,j,i),h,p))) (.ret ((0,0,0,0,0,0,0),2))))
def oH:((Int×Int×Int×Int×Int×Int×Int)×Int×(Int×Int×Int×(Int×Int×(Int×Int×Int×Int×Int)×Int×List Int)×Int))->((Int×Int×Int×Int×Int×Int×Int)×Int):=λ((F,G,D,C,B,x,v),u,A,q,y,(p,z,(l,m,i,j,h),o,n),E)=>(t61 af F G D C B x v u A q y p z l m i j h o n E).val (Ty.aR [(.struct [yI,yI,yI,yI,yI,yI,yI]),yI])
def avx:aM:=.all [(.struct [yI,yI,yI,yI,yI,yI,yI]),yI,(.struct [yI,yI,yI,(.struct [yI,yI,(.struct [yI,yI,yI,yI,yI]),yI,yB]),yI])] [(.struct [yI,yI,yI,yI,yI,yI,yI]),yI] oH
theorem avg:Sd 201 avx:=fa (aP ar dK sl 50 [] (λA ((G,H,E,D,C,x,v),u,B,q,y,(p,z,(l,m,i,j,h),o,n),F)=>t61 A G H E D C x v u B q y p z l m i j h o n F) (kz (fc Tryz.func201 fz) (sc au9 (sc apO (sc ava sz)))) (λ_ _ _=>LT.bE (by kernel_rfl)))
abbrev ir:Ty:=(.struct [yI,yI,yI,yI,yI])
abbrev fB:Type:=Int×Int×Int×Int×Int
abbrev qO:Ty:=(.struct [yI,yI,yI,yI,yI,yI,yI])
abbrev vq:Type:=Int×Int×Int×Int×Int×Int×Int
abbrev ahg:Ty:=(.struct [yI,yB])
abbrev Bits:Type:=Int×List Int
abbrev Io:Ty:=(.struct [yI,yI,ir,yI,yB])
abbrev sF:Type:=Int×Int×fB×Int×List Int
abbrev qe:Ty:=(.struct [yI,yI,ahg])
abbrev Seen:Type:=Int×Int×Bits
abbrev OX:Ty:=(.struct [yI,yI,yI,Io,yI])
abbrev qf:Type:=Int×Int×Int×sF×Int
abbrev kT:Ty:=(.struct [yI,yI])
abbrev Span:Type:=Int×Int
abbrev jG:Ty:=(.struct [yI,kT,yI,ahg])
abbrev gm:Type:=Int×Span×Int×Bits
abbrev fv:Ty:=(.struct [BY,(.slice .bool),(.slice .bool)])
abbrev Mode:Type:=List Int×List Bool×List Bool
abbrev bM:Ty:=(.struct [yI,yI,yI,yI,yI,yI,(.slice .bool),(.slice fv)])
abbrev ax:Type:=Int×Int×Int×Int×Int×Int×List Bool×List Mode
abbrev wP:Ty:=(.struct [yI,yI,BY])
abbrev qk:Type:=Int×Int×List Int
abbrev kW:Ty:=(.struct [yB,yI])
abbrev iN:Type:=List Int×Int
abbrev tA:Ty:=(.struct [yI,yB,(.slice kW),yI,yI])
abbrev jm:Type:=Int×List Int×List iN×Int×Int
abbrev fA:Ty:=(.struct [yI,yI,ir,qO,yI,.bool,yI,tA])
abbrev Node:Type:=Int×Int×fB×vq×Int×Bool×Int×jm
abbrev eZ:Ty:=(.struct [yI,yI,yI,yI,yI,yB])
abbrev dL:Type:=Int×Int×Int×Int×Int×List Int
def alF(A:aS)(n:Int)(h:Int)(i:Int):LT Bool Empty:=.br (A.qP n h) (.ret (A.bU n i)) (.ret false)
def kE:(Int×Int×Int)->Bool:=λ(n,h,i)=>(alF af n h i).val (Ty.aR [.bool])
def aq1:aM:=.all [yI,yI,yI] [.bool] kE
theorem OF:Sd 134 aq1:=fa (aP ar dK sl 22 [] (λA (n,h,i)=>alF A n h i) (kz (fc Tryz.func134 fz) sz) (λ_ _ _=>LT.bE (by kernel_rfl)))
theorem su{x b:Int}:kE (x,a,b)=(decide (a<=x)&&decide (x<=b)):=by
 simp only[kE,alF,LT.val,lM,aC]
 simp_all
theorem ana{x y:α}:(bif true then x else y)=x:=rfl
theorem Bm{l:List Bool}(h:i<l.length):(af.n .bool l (i:Int):Bool)=l[i]:=fL h _
theorem Zp{l:List Int}(h:i<l.length):(af.n (.int .i64) l (i:Int):Int)=l[i]:=fL h _
theorem d_{l:List α}:af.l l=(l.length:Int):=rfl
variable{j:List Bool}
theorem sU{w o:Int}{i:List Mode}(h:Ty.has bM (n,s,g,w,d,o,j,i)):(-9223372036854775808<=n/\n<=9223372036854775807)/\j.length<=140737488355328/\i.length<=140737488355328/\∀x∈i,x.1.length<=140737488355328/\x.2.1.length<=140737488355328/\∀d∈x.1,IntKind.i64.has d:=by
 obtain⟨p,_,_,_,_,_,q,l⟩:=h;exact⟨p,q.1,l.1,λx m=>⟨(l.2 x m).1.1,(l.2 x m).2.1.1,(l.2 x m).1.2⟩⟩
structure ahn where
 (a1:List Bool) (a2 a4 a5 a6 a7 a8 a9:Int) (jd:List Bool) (kU:List Mode)
inductive WL where
 | c0 (p:ahn) (a0:Int) (a3:Int)
noncomputable def ain:WL->iH
 | .c0 p a0 a3=>⟨[⟨130,38,(en [(1,.ptr 0 0),(3,vi a0),(7,.sl .bool p.a1),(8,vi p.a2),(9,vi a3)]),sk Tryz.f130 [1,1,0,1,0,0],[],none⟩],[.ay false [vi p.a4,vi p.a5,vi p.a6,vi p.a7,vi p.a8,vi p.a9,.sl .bool p.jd,.sl fv p.kU],.aZ]⟩
def t154(A:aS)(n:Int)(o:Int)(p:Int)(i:Int)(l:Int)(j:Int)(h:List Bool)(m:List Mode):LT Bool WL:=.ao (.c0 ⟨h,(A.l h),n,o,p,i,l,j,h,m⟩ 0 0)
def Z5(A:aS):WL->LT Bool WL
 | .c0 p a0 a3=>.br (A.bD a3 p.a2) (.ap (A.and (A.bU 0 a3) (A.bD a3 (A.l p.a1))) (.br (A.n .bool p.a1 a3:Bool) (.ao (.c0 p (A.b .add .i64 a0 1) (A.b .add .i64 a3 1))) (.ao (.c0 p a0 (A.b .add .i64 a3 1))))) (.br (A.k kE (p.a4,4,8)) (.br (A.k kE ((A.l p.kU),1,4)) (.br (A.bK (A.l p.jd) p.a4) (.ret (A.qP a0 2)) (.ret false)) (.ret false)) (.ret false))
def countB(m:ax):Bool:=kE (m.1,4,8)&&kE ((m.2.2.2.2.2.2.2.length:Int),1,4)&&((m.2.2.2.2.2.2.1.length:Int)==m.1)&&decide (2<=(m.2.2.2.2.2.2.1.count true:Int))
theorem ajn{w o:Int}{h:List Bool}{l:List Mode}(v:h.length<=140737488355328):∀(j i c:Nat),h.length-i=j->i<=h.length->c<=i->
  aW (Z5 af) (.ao (.c0 ⟨h,(h.length:Int),n,s,g,w,d,o,h,l⟩ (c:Int) (i:Int))) (kE (n,4,8)&&kE ((l.length:Int),1,4)&&((h.length:Int)==n)&&decide (2<=((c+(h.drop i).count true:Nat):Int))):=by
 intro j
 induction j with
 | zero=>
   intro i c u q p;have:i=h.length:=by omega
   subst this;rw[aB,Z5];refine(ak (by rw[bg];simp)).2 ?_;rw[cK];simp[au,bo,abU,true_and];cases kE (n,4,8)
   ·exact(ak rfl).2 (.ret _)
   refine(al rfl).2 ?_;simp[au,true_and,d_];cases kE ((l.length:Int),1,4)
   ·exact(ak rfl).2 (.ret _)
   refine(al rfl).2 ?_;rw[bd];cases ((h.length:Int)==n)
   ·exact(ak rfl).2 (.ret _)
   refine(al rfl).2 ?_;exact .ret _
 | succ j ih=>
   intro i c u q p;have m:i<h.length:=by omega
   rw[aB,Z5];refine(al (by rw[bg];simp_all)).2 (au.2 ⟨du m,?_⟩);rw[AB m,List.count_cons];cases hb:h[i]
   ·refine(ak ((Bm m).trans hb)).2 ?_
    refine lW (congrArg (λz=>LT.ao (WL.c0 _ _ z)) (iC (by omega))) (aQ ?_ (ih (i+1) c (by omega) (by omega) (by omega)));simp
   ·refine(al ((Bm m).trans hb)).2 ?_
    rw[iC (i:=c) (by omega),iC (i:=i) (by omega)];refine aQ ?_ (ih (i+1) (c+1) (by omega) (by omega) (by omega))
    grind
theorem ajo{w l:Int}{i:List Mode}(h:Ty.has bM (n,s,g,w,d,l,j,i)):aW (Z5 af) (t154 af n s g w d l j i) (countB (n,s,g,w,d,l,j,i)):=
 aQ (by simp[countB]) (ajn (sU h).2.1 j.length 0 0 rfl (by omega) (by omega))
def XW:ax->Bool:=countB
def aqZ:aM:=.all [bM] [.bool] XW
theorem apv:Sd 130 aqZ:=fa (bp ar dK sl 25 [⟨130,3, [[1,3,7,8,9]]⟩] [] (λA (n,q,u,i,l,j,o,m)=>t154 A n q u i l j o m) Z5 ain (kz (fc Tryz.func130 fz) (sc OF sz)) (λA y=>match y with |.c0 p v x=>⟨38,sl,by kernel_rfl⟩) λ(n,q,u,i,l,j,o,m) z h=>ajo h)
structure aho where
 (a0:List Int) (a1 a3 a4 a5 a6 a7 a8:Int) (a9:List Bool) (jd:List Mode) (kU:List Int) (a12 Dl:List Bool)
inductive T5 where
 | c0 (p:aho) (a2:Int)
noncomputable def aio:T5->iH
 | .c0 p a2=>⟨[⟨133,57,(en [(2,.ptr 0 0),(3,.ptr 1 0),(31,.sl yI p.a0),(32,vi p.a1),(33,vi a2)]),sk Tryz.f133 [1,1,0,1,0,0],[],none⟩],[.ay false [vi p.a3,vi p.a4,vi p.a5,vi p.a6,vi p.a7,vi p.a8,.sl .bool p.a9,.sl fv p.jd],.ay false [.sl yI p.kU,.sl .bool p.a12,.sl .bool p.Dl],.aZ]⟩
def t157(A:aS)(i:Int)(u:Int)(v:Int)(m:Int)(p:Int)(o:Int)(q:List Bool)(l:List Mode)(j:List Int)(h:List Bool)(n:List Bool):LT Bool T5:=.br (A.cr (A.l j) i) (.ret false) (.br (A.cr (A.l h) i) (.ret false) (.br (A.cr (A.l n) (A.l l)) (.ret false) (.ao (.c0 ⟨j,(A.l j),i,u,v,m,p,o,q,l,j,h,n⟩ 0))))
def U1(A:aS):T5->LT Bool T5
 | .c0 p a2=>.br (A.bD a2 p.a1) (.ap (A.and (A.bU 0 a2) (A.bD a2 (A.l p.a0))) (.br (A.not (A.k kE ((A.n yI p.a0 a2:Int),0,8))) (.ret false) (.ap (A.and (A.bU 0 a2) (A.bD a2 (A.l p.a9))) (.br (A.n .bool p.a9 a2:Bool) (.ap (A.and (A.bU 0 a2) (A.bD a2 (A.l p.a12))) (.br (A.not (A.n .bool p.a12 a2:Bool)) (.ret false) (.ao (.c0 p (A.b .add .i64 a2 1))))) (.ao (.c0 p (A.b .add .i64 a2 1))))))) (.ret true)
def yh:List Int->List Bool->List Bool->Bool
 | d::ds,c::cs,e::es=>(decide (0<=d)&&decide (d<=8))&&(!c||e)&&yh ds cs es
 | _,_,_=>true
def o4(m:ax)(x:Mode):Bool:=((x.1.length:Int)==m.1)&&((x.2.1.length:Int)==m.1)&&(x.2.2.length==m.2.2.2.2.2.2.2.length)&&yh x.1 m.2.2.2.2.2.2.1 x.2.1
variable{h:List Int}
theorem an9{w:Int}{l m next:List Bool}{p:List Mode}(C:h.length<=140737488355328)(A:l.length=h.length)(B:m.length=h.length):∀(j i:Nat),h.length-i=j->i<=h.length->
  aW (U1 af) (.ao (.c0 ⟨h,(h.length:Int),n,s,g,w,d,v,l,p,h,m,next⟩ (i:Int))) (yh (h.drop i) (l.drop i) (m.drop i)):=by
 intro j
 induction j with
 | zero=>
   intro i y x;have:i=h.length:=by omega
   subst this;rw[aB,U1];refine(ak (by rw[bg];simp)).2 ?_;rw[cK];exact .ret _
 | succ j ih=>
   intro i y x;have o:i<h.length:=by omega
   rw[aB,U1];refine(al (by rw[bg];simp_all)).2 (au.2 ⟨du o,?_⟩);rw[AB o,AB (show i<l.length by omega),AB (show i<m.length by omega),yh];have q:=ih (i+1) (by omega) (by omega);have u:af.k kE ((af.n (.int .i64) h (i:Int):Int),0,8)=(decide (0<=h[i])&&decide (h[i]<=8)):=by
    rw[bo,Zp o,su]
   cases hw':(decide (0<=h[i])&&decide (h[i]<=8))
   ·exact(al (by rw[u,hw'];rfl)).2 (.ret _)
   refine(ak (by rw[u,hw'];rfl)).2 (au.2 ⟨du (show i<l.length by omega),?_⟩);cases hcb:l[i]
   ·refine(ak ((Bm (show i<l.length by omega)).trans hcb)).2 ?_
    exact lW (congrArg (λz=>LT.ao (T5.c0 _ z)) (iC (by omega))) q
   ·refine(al ((Bm (show i<l.length by omega)).trans hcb)).2 (au.2 ⟨du (show i<m.length by omega),?_⟩)
    cases heb:m[i]
    ·exact(al (by rw[Bm (show i<m.length by omega),heb];rfl)).2 (.ret _)
    ·refine(ak (by rw[Bm (show i<m.length by omega),heb];rfl)).2 ?_
     exact lW (congrArg (λz=>LT.ao (T5.c0 _ z)) (iC (by omega))) q
theorem an_{w:Int}{l next:List Bool}{i:List Mode}(u:h.length<=140737488355328)(v:(j.length:Int)=n):
  aW (U1 af) (t157 af n s g w d m j i h l next) (o4 (n,s,g,w,d,m,j,i) (h,l,next)):=by
 unfold t157 o4;by_cases o:(h.length:Int)=n
 ·refine(ak (yZ o)).2 ?_
  by_cases p:(l.length:Int)=n
  ·refine(ak (yZ p)).2 ?_
   by_cases q:(next.length:Int)=i.length
   ·refine(ak (yZ q)).2 (aQ ?_ (an9 u (by omega) (by omega) h.length 0 rfl (by omega)))
    grind
   ·refine(al (y1 q)).2 (aQ ?_ (.ret _))
    grind
  ·refine(al (y1 p)).2 (aQ ?_ (.ret _))
   simp_all
 ·refine(al (y1 o)).2 (aQ ?_ (.ret _))
  simp_all
def RY:(ax×Mode)->Bool:=λ(m,x)=>o4 m x
def Ql:(ax×Mode)->Bool:=λ(m,_)=>(m.2.2.2.2.2.2.1.length:Int)==m.1
def aq0:aM:=⟨[bM,fv], [.bool],Ql,RY,false⟩
theorem apw:Sd 133 aq0:=bp ar dK sl 51 [⟨133,4, [[2,3,31,32,33]]⟩] [] (λA ((o,u,z,j,m,l,q,n),v,i,x)=>t157 A o u z j m l q n v i x) U1 aio (kz (fc Tryz.func133 fz) (sc OF sz)) (λA y=>match y with |.c0 p a2=>⟨51,sl,by kernel_rfl⟩) λ(((o,u,z,j,m,l,q,n),v,i,x):ax×Mode) B h=>by
 show aW (U1 af) (t157 af o u z j m l q n v i x) (RY ((o,u,z,j,m,l,q,n),v,i,x));exact an_ h.2.1.1 (by simpa [Ql] using B)
def t183(A:aS)(h:Bool)(i:Int):LT Int Empty:=.br (A.not h) (.ret 2) (.br (A.jw i 0) (.ret 4) (.ret 3))
def sO:(Bool×Int)->Int:=λ(h,i)=>(t183 af h i).val (Ty.aR [yI])
def ard:aM:=.all [.bool,yI] [yI] sO
theorem agI:Sd 216 ard:=fa (aP ar dK sl 32 [] (λA (h,i)=>t183 A h i) (kz (fc Tryz.func216 fz) sz) (λ_ _ _=>LT.bE (by kernel_rfl)))
def t173(A:aS)(n:Int):LT Int Empty:=.br (A.bD n 0) (.ret 0) (.br (A.jw n 4095) (.ret 0) (.ret (A.b .add .i64 14 (A.b .quo .i64 (A.b .add .i64 n 1) 2))))
def qo:Int->Int:=λn=>(t173 af n).val (Ty.aR [yI])
def aq8:aM:=.all [yI] [yI] qo
theorem TC:Sd 159 aq8:=fa (aP ar dK sl 30 [] (λA n=>t173 A n) (kz (fc Tryz.func159 fz) sz) (λ_ _ _=>LT.bE (by kernel_rfl)))
structure ahq where
 (a0:Int) (a1:List Mode) (a2 a3 a4 a5 a6 a7 a8 a9:Int) (jd:List Bool) (kU:List Mode)
structure ahr where
 (b1:List Mode) (b2 b3:Int) (b4:List Int) (b5 b7 b8 b9 b10 b11 b12:Int) (b13:List Bool) (Jx:List Mode) (EZ:List Int) (je wv:List Bool)
inductive acu where
 | c0 (p:ahq)
 | c1 (p:ahr) (b0:Int) (b6:Int)
noncomputable def air:acu->iH
 | .c0 p=>⟨[⟨161,55,(en [(1,.ptr 0 0),(3,vi p.a0),(12,.sl fv p.a1),(13,vi p.a2),(14,vi p.a3)]),sk Tryz.f161 [1,1,0,1,0,0],[],none⟩],[.ay false [vi p.a4,vi p.a5,vi p.a6,vi p.a7,vi p.a8,vi p.a9,.sl .bool p.jd,.sl fv p.kU],.aZ]⟩
 | .c1 p b0 h=>⟨[⟨161,55,(en [(1,.ptr 0 0),(3,vi b0),(5,.ptr 1 0),(12,.sl fv p.b1),(13,vi p.b2),(14,vi p.b3),(19,.sl yI p.b4),(20,vi p.b5),(21,vi h)]),sk Tryz.f161 [1,1,0,1,0,0,1,1,0,0,1,1,0,0],[],none⟩],[.ay false [vi p.b7,vi p.b8,vi p.b9,vi p.b10,vi p.b11,vi p.b12,.sl .bool p.b13,.sl fv p.Jx],.ay false [.sl yI p.EZ,.sl .bool p.je,.sl .bool p.wv],.aZ]⟩
def as0(A:aS)(m:Int)(o:Int)(p:Int)(i:Int)(l:Int)(j:Int)(n:List Bool)(h:List Mode):LT Int acu:=.ao (.c0 ⟨(A.k qo (A.k wL (1,0))),h,(A.l h),0,m,o,p,i,l,j,n,h⟩)
def L3(A:aS):acu->LT Int acu
 | .c0 p=>.br (A.bD p.a3 p.a2) (.ap (A.and (A.bU 0 p.a3) (A.bD p.a3 (A.l p.a1))) (.ao (.c1 ⟨p.a1,p.a2,p.a3,(A.n fv p.a1 p.a3:Mode).1,(A.l (A.n fv p.a1 p.a3:Mode).1),p.a4,p.a5,p.a6,p.a7,p.a8,p.a9,p.jd,p.kU,(A.n fv p.a1 p.a3:Mode).1,(A.n fv p.a1 p.a3:Mode).2.1,(A.n fv p.a1 p.a3:Mode).2.2⟩ p.a0 0))) (.ret p.a0)
 | .c1 p b0 h=>.br (A.bD h p.b5) (.ap (A.and (A.bU 0 h) (A.bD h (A.l p.b4))) (.br (A.bD h p.b7) (.br (A.bD h (A.l p.je)) (.ap (A.and (A.bU 0 h) (A.bD h (A.l p.je))) (.br (A.jw (A.k wL ((A.k sO ((A.n .bool p.je h:Bool),(A.n yI p.b4 h:Int))),(A.n yI p.b4 h:Int))) 0) (.ao (.c1 p (A.mx b0 (A.k qo (A.k wL ((A.k sO ((A.n .bool p.je h:Bool),(A.n yI p.b4 h:Int))),(A.n yI p.b4 h:Int))))) (A.b .add .i64 h 1))) (.ao (.c1 p b0 (A.b .add .i64 h 1))))) (.ao (.c1 p b0 (A.b .add .i64 h 1)))) (.ao (.c1 p b0 (A.b .add .i64 h 1))))) (.ao (.c0 ⟨b0,p.b1,p.b2,(A.b .add .i64 p.b3 1),p.b7,p.b8,p.b9,p.b10,p.b11,p.b12,p.b13,p.Jx⟩))
def BV(b:Int)(x:Int×Bool):Int:=bif decide (0<wL (sO (x.2,x.1),x.1)) then af.mx b (qo (wL (sO (x.2,x.1),x.1))) else b
def Bf(n:Nat)(b:Int)(x:Mode):Int:=((x.1.zip x.2.1).take n).foldl BV b
def iZ(m:ax):Int:=m.2.2.2.2.2.2.2.foldl (Bf m.1.toNat) (qo (wL (1,0)))
theorem ach(m:i<h.length)(o:i<j.length)(p:(i:Int)<n):((h.zip j).take n.toNat).drop i=(h[i],j[i])::((h.zip j).take n.toNat).drop (i+1):=by
 have l:i<((h.zip j).take n.toNat).length:=by grind
 rw[AB l,List.getElem_take,List.getElem_zip]
theorem Dk{j:List Int}{l:List Bool}(h:l.length<=i\/n<=(i:Int)\/j.length<=i):((j.zip l).take n.toNat).drop i=[]:=by
 apply gh
 grind
theorem SP:af.bD (i:Int) n=decide ((i:Int)<n):=rfl
theorem acb{b:Int}{e:Bool}:BV b (d,e)=bif af.jw (af.k wL ((af.k sO (e,d)),d)) 0 then af.mx b (af.k qo (af.k wL ((af.k sO (e,d)),d))) else b:=rfl
variable{F:Int->Int}
theorem auG{w x:Int}{o l next:List Bool}{m z:List Mode}{L k y:Int}(E:h.length<=140737488355328)(D:af.b .add .i64 k 1=y)(v:∀b,aW (L3 af) (.ao (.c0 ⟨b,z,L,y,n,s,g,w,d,x,o,m⟩)) (F b)):
  ∀(j i:Nat) (b:Int),h.length-i=j->i<=h.length->aW (L3 af) (.ao (.c1 ⟨z,L,k,h,(h.length:Int),n,s,g,w,d,x,o,m,h,l,next⟩ b (i:Int))) (F ((((h.zip l).take n.toNat).drop i).foldl BV b)):=by
 intro j
 induction j with
 | zero=>
   intro i b C B;have:i=h.length:=by omega
   subst this;rw[aB,L3];refine(ak (by rw[bg];simp)).2 ?_;rw[Dk (.inr (.inr (ah _))),D]
   simp_all
 | succ j ih=>
   intro i b C B;have p:i<h.length:=by omega
   rw[aB,L3];refine(al (by rw[bg];simp_all)).2 (au.2 ⟨du p,?_⟩);have q:=λb=>ih (i+1) b (by omega) (by omega);by_cases A:(i:Int)<n
   ·refine(al (by rw[SP];simp_all)).2 ?_
    by_cases u:i<l.length
    ·refine(al (by rw[d_,bg];simp_all)).2 (au.2 ⟨du (show i<l.length from u),?_⟩)
     rw[ach p u A,jV,acb,<-Zp p,<-Bm u,iC (i:=i) (by omega)];cases hb:af.jw (af.k wL ((af.k sO ((af.n .bool l (i:Int):Bool),(af.n (.int .i64) h (i:Int):Int))),(af.n (.int .i64) h (i:Int):Int))) 0
     ·exact(ak rfl).2 (q _)
     ·exact(al rfl).2 (q _)
    ·refine(ak (by rw[d_,bg];simp_all)).2 ?_
     rw[iC (i:=i) (by omega)];have:=q b;rw[Dk (.inl (by omega))] at this ⊢;omega
   ·refine(ak (by rw[SP];simp_all)).2 ?_
    rw[iC (i:=i) (by omega)];have:=q b;rw[Dk (.inr (.inl (by omega)))] at this ⊢;omega
theorem auF{w o:Int}{m:List Bool}{l h:List Mode}(v:h.length<=140737488355328)(p:∀x∈h,x.1.length<=140737488355328):
  ∀(j k:Nat) (b:Int),h.length-k=j->k<=h.length->aW (L3 af) (.ao (.c0 ⟨b,h,(h.length:Int),(k:Int),n,s,g,w,d,o,m,l⟩)) ((h.drop k).foldl (Bf n.toNat) b):=by
 intro j
 induction j with
 | zero=>
   intro k b q u;have:k=h.length:=by omega
   subst this;rw[aB,L3];refine(ak (by rw[bg];simp)).2 ?_;rw[cK];exact .ret _
 | succ j ih=>
   intro k b q u;have i:k<h.length:=by omega
   rw[aB,L3];refine(al (by rw[bg];simp_all)).2 (au.2 ⟨du i,?_⟩);rw[show(af.n fv h (k:Int):Mode)=h[k] from fL i _,AB i,jV];exact auG (F:=λb=>(h.drop (k+1)).foldl (Bf n.toNat) b) (p _ (dF i)) (iC (by omega)) (λb=>ih (k+1) b (by omega) (by omega)) h[k].1.length 0 b rfl (by omega)
theorem max2{w l:Int}{i:List Mode}(h:Ty.has bM (n,s,g,w,d,l,j,i)):aW (L3 af) (as0 af n s g w d l j i) (iZ (n,s,g,w,d,l,j,i)):=
 (auF (sU h).2.2.1 (λx m=>((sU h).2.2.2 x m).1) i.length 0 _ rfl (by omega))
def Nv:ax->Int:=iZ
def aq_:aM:=.all [bM] [yI] Nv
theorem aaC:Sd 161 aq_:=fa (bp ar dK sl 27 [⟨161,3, [[1,3,12,13,14]]⟩,⟨161,6, [[1,3,5,12,13,14,19,20,21]]⟩] [] (λA (n,q,u,i,l,j,o,m)=>as0 A n q u i l j o m) L3 air (kz (fc Tryz.func161 fz) (sc ave (sc TC (sc agI sz)))) (λA y=>match y with |.c0 p=>⟨31,sl,by kernel_rfl⟩|.c1 p b0 v=>⟨69,sl,by kernel_rfl⟩) λ(n,q,u,i,l,j,o,m) x h=>max2 h)
def t159(A:aS)(l:Int)(p:Int)(n:Int)(h:Int)(j:Int)(i:Int)(o:List Bool)(m:List Mode):LT (Int×Int×Int) Empty:=.ret ((A.b .add .i64 (A.b .mul .i64 (A.b .mul .i64 16 l) j) 16),(A.b .add .i64 (A.b .add .i64 (A.b .mul .i64 2 h) (A.b .mul .i64 2 i)) 4),(A.b .add .i64 (A.b .mul .i64 2 n) (A.k Nv (l,p,n,h,j,i,o,m))))
def Dz:ax->(Int×Int×Int):=λ(m,o,p,h,j,i,n,l)=>(t159 af m o p h j i n l).val (Ty.aR [yI,yI,yI])
def aq2:aM:=.all [bM] [yI,yI,yI] Dz
theorem apx:Sd 135 aq2:=fa (aP ar dK sl 50 [] (λA (m,o,p,h,j,i,n,l)=>t159 A m o p h j i n l) (kz (fc Tryz.func135 fz) (sc aaC sz)) (λ_ _ _=>LT.bE (by kernel_rfl)))
theorem bi{R:Type}{step:Y->LT R Y}{t e:LT R Y}{r:R}[Decidable p]{b:Bool}(l:b=decide p)(j:p->aW step t r)(i:¬p->aW step e r):aW step (.br b t e) r:=by
 by_cases h:p
 ·exact(al (by simp_all)).2 (j h)
 ·exact(ak (by simp_all)).2 (i h)
theorem ja{R:Type}{step:Y->LT R Y}{t e:LT R Y}{r:R}{x b:Int}(j:¬(a<=x/\x<=b)->aW step t r)(i:a<=x/\x<=b->aW step e r):aW step (.br (af.not (af.k kE (x,a,b))) t e) r:=by
 refine bi (p:=¬(a<=x/\x<=b)) ?_ j (λh=>i (dx.1 h));rw[k_,bo,su,<-Bool.decide_and,<-decide_not]
theorem Jv:0<=qo n/\qo n<=2062:=by
 simp[qo,t173,LT.val,aV,dh,Bool.cond_eq_ite,sK];split
 ·omega
 ·split
  ·omega
  ·rw[gz,Ml,gz,lC (a:=n+1) (by omega) (by omega)]
   have:(n+1).tdiv 2=(n+1)/2:=lK (by omega);rw[this,lC (a:=(n+1)/2) (by omega) (by omega),lC (by omega) (by omega)];omega
theorem ab_{b:Int}{x:Int×Bool}(h:0<=b/\b<=2062):0<=BV b x/\BV b x<=2062:=by
 have:=Jv (n:=wL (sO (x.2,x.1),x.1));unfold BV;cases decide (0<wL (sO (x.2,x.1),x.1))
 ·exact h
 ·rw[ana,v_];omega
theorem zO{α:Type}{f:Int->α->Int}(i:∀b x,0<=b/\b<=2062->0<=f b x/\f b x<=2062):∀{l:List α} {b:Int},0<=b/\b<=2062->0<=l.foldl f b/\l.foldl f b<=2062
 | [],_,h=>h
 | x::l,b,h=>zO i (l:=l) (i b x h)
theorem vf{m:ax}:0<=iZ m/\iZ m<=2062:=zO (λ_ _ h=>zO (λ_ _ h=>ab_ h) h) Jv
def qB(n s g w d h i:Int):Bool:=decide (0<=d/\d<=64/\0<=h/\h<=64/\16*n*d+16<=w/\w<=1048576/\2*w+2*h+4<=g/\g<=1048576/\2*g+i<=s/\s<=16777216)
def dq(m:ax):Bool:=countB m&&m.2.2.2.2.2.2.2.all (o4 m)&&qB m.1 m.2.1 m.2.2.1 m.2.2.2.1 m.2.2.2.2.1 m.2.2.2.2.2.1 (iZ m)
def mZ(m:ax):Int:=bif dq m then 0 else 70
theorem ace(h:4<=n/\n<=8)(i:0<=d/\d<=64):af.b .add .i64 (af.b .mul .i64 (af.b .mul .i64 16 n) d) 16=16*n*d+16:=by
 have j:0<=16*n*d/\16*n*d<=8192:=by
  have:n=4\/n=5\/n=6\/n=7\/n=8:=by omega
  grind
 rw[gz,jb,jb,lC (a:=16*n) (by omega) (by omega),lC (a:=16*n*d) (by omega) (by omega),lC (by omega) (by omega)]
theorem yC(h:4<=n/\n<=8)(i:0<=d/\d<=64):0<=16*n*d:=by
 have:n=4\/n=5\/n=6\/n=7\/n=8:=by omega
 grind
theorem Yw{w i:Int}(h:0<=w/\w<=1048576)(j:0<=i/\i<=64):af.b .add .i64 (af.b .add .i64 (af.b .mul .i64 2 w) (af.b .mul .i64 2 i)) 4=2*w+2*i+4:=by
 rw[gz,gz,jb,jb,lC (a:=2*w) (by omega) (by omega),lC (a:=2*i) (by omega) (by omega),lC (a:=2*w+2*i) (by omega) (by omega),lC (by omega) (by omega)]
theorem Tx{i:Int}(h:0<=g/\g<=1048576)(j:0<=i/\i<=2062):af.b .add .i64 (af.b .mul .i64 2 g) i=2*g+i:=by
 rw[gz,jb,lC (a:=2*g) (by omega) (by omega),lC (by omega) (by omega)]
theorem XX{w j:Int}{i:List Bool}{h:List Mode}:Dz (n,s,g,w,d,j,i,h)=(af.b .add .i64 (af.b .mul .i64 (af.b .mul .i64 16 n) d) 16,af.b .add .i64 (af.b .add .i64 (af.b .mul .i64 2 w) (af.b .mul .i64 2 j)) 4,af.b .add .i64 (af.b .mul .i64 2 g) (iZ (n,s,g,w,d,j,i,h))):=rfl
structure VJ where
 (a0:List Mode) (a1 a3 a4 a5 a6 a7 a8:Int) (a9:List Bool) (jd:List Mode)
inductive WK where
 | c0 (p:VJ) (a2:Int)
noncomputable def aih:WK->iH
 | .c0 p a2=>⟨[⟨186,19,(en [(0,.sl fv p.a0),(1,.fn 132 [] [.ptr 0 0]),(7,vi p.a1),(8,vi a2)]),sk Tryz.f186 [1,0,1,0,0],[],none⟩,⟨131,9,.leaf,[.ops (ow Tryz.f131 [1,0]) ((ow Tryz.f131 [1,0]).toList.drop 2),.code .ret],[],none⟩,⟨88,65,(en [(1,.ptr 0 0)]),(.ops (ow Tryz.f88 [1,0,0,0,0,0,0,0,0,1,0,0]) ((ow Tryz.f88 [1,0,0,0,0,0,0,0,0,1,0,0]).toList.drop 3)::sk Tryz.f88 [1,0,0,0,0,0,0,0,0,1,0,0]),[],none⟩],[.ay false [vi p.a3,vi p.a4,vi p.a5,vi p.a6,vi p.a7,vi p.a8,.sl .bool p.a9,.sl fv p.jd],.aZ]⟩
def t124(A:aS)(m:Int)(o:Int)(p:Int)(i:Int)(l:Int)(j:Int)(n:List Bool)(h:List Mode):LT Int WK:=.br (A.not (A.k XW (m,o,p,i,l,j,n,h))) (.ret 70) (.ao (.c0 ⟨h,(A.l h),m,o,p,i,l,j,n,h⟩ 0))
abbrev Tq(A:aS)(p:VJ):LT Int WK:=(.br (A.not (A.k kE (p.a7,0,64))) (.ret 70) (.br (A.not (A.k kE (p.a8,0,64))) (.ret 70) (.br (A.not (A.k kE (p.a6,0,1048576))) (.ret 70) (.br (A.not (A.k kE (p.a5,0,1048576))) (.ret 70) (.br (A.not (A.k kE (p.a4,0,16777216))) (.ret 70) (.br (A.bD p.a6 (A.k Dz (p.a3,p.a4,p.a5,p.a6,p.a7,p.a8,p.a9,p.jd)).1) (.ret 70) (.br (A.bD p.a5 (A.k Dz (p.a3,p.a4,p.a5,p.a6,p.a7,p.a8,p.a9,p.jd)).2.1) (.ret 70) (.br (A.bD p.a4 (A.k Dz (p.a3,p.a4,p.a5,p.a6,p.a7,p.a8,p.a9,p.jd)).2.2) (.ret 70) (.ret 0)))))))))
def U0(A:aS):WK->LT Int WK
 | .c0 p a2=>.br (A.bD a2 p.a1) (.ap (A.and (A.bU 0 a2) (A.bD a2 (A.l p.a0))) (.ap (A.k Ql ((p.a3,p.a4,p.a5,p.a6,p.a7,p.a8,p.a9,p.jd),(A.n fv p.a0 a2:Mode))) (.br (A.not (A.k RY ((p.a3,p.a4,p.a5,p.a6,p.a7,p.a8,p.a9,p.jd),(A.n fv p.a0 a2:Mode)))) (.br (A.qP a2 0) (.ret 70) (Tq A p)) (.ao (.c0 p (A.b .add .i64 a2 1)))))) (Tq A p)
theorem afF{w l:Int}{i:List Mode}{R:Int}(q:4<=n/\n<=8)(z:R=bif qB n s g w d l (iZ (n,s,g,w,d,l,j,i)) then 0 else 70):
  aW (U0 af) (.br (af.not (af.k kE (d,0,64))) (.ret 70) (.br (af.not (af.k kE (l,0,64))) (.ret 70) (.br (af.not (af.k kE (w,0,1048576))) (.ret 70) (.br (af.not (af.k kE (g,0,1048576))) (.ret 70) (.br (af.not (af.k kE (s,0,16777216))) (.ret 70) (.br (af.bD w (af.k Dz (n,s,g,w,d,l,j,i)).1) (.ret 70) (.br (af.bD g (af.k Dz (n,s,g,w,d,l,j,i)).2.1) (.ret 70) (.br (af.bD s (af.k Dz (n,s,g,w,d,l,j,i)).2.2) (.ret 70) (.ret 0))))))))) R:=by
 have A:=vf (m:=(n,s,g,w,d,l,j,i));have o:∀{p:Prop} [Decidable p],¬p->decide p=false:=λh=>by simp_all
 rw[z];refine ja (λh=>aQ ?_ (.ret _)) λu=>ja (λh=>aQ ?_ (.ret _)) λv=>ja (λh=>aQ ?_ (.ret _)) λx=>ja (λh=>aQ ?_ (.ret _)) λy=>ja (λh=>aQ ?_ (.ret _)) λB=>?_
 ·rw[qB,o (by omega)];rfl
 ·rw[qB,o (by omega)];rfl
 ·have:=λh=>yC (n:=n) (d:=d) q h
  rw[qB,o (by omega)];rfl
 ·have:=λh=>yC (n:=n) (d:=d) q h
  rw[qB,o (by omega)];rfl
 ·have:=λh=>yC (n:=n) (d:=d) q h
  rw[qB,o (by omega)];rfl
 ·have:=yC (n:=n) (d:=d) q u
  rw[bo,XX,ace q u,Yw x v,Tx y A];refine bi (p:=w<16*n*d+16) rfl (λh=>aQ ?_ (.ret _)) λC=>bi (p:=g<2*w+2*l+4) rfl (λh=>aQ ?_ (.ret _)) λD=>bi (p:=s<2*g+iZ (n,s,g,w,d,l,j,i)) rfl (λh=>aQ ?_ (.ret _)) λE=>aQ ?_ (.ret _)
  ·rw[qB,o (by omega)];rfl
  ·rw[qB,o (by omega)];rfl
  ·rw[qB,o (by omega)];rfl
  ·rw[qB,da (by omega)];rfl
theorem aji{w:Int}{l:List Bool}{h:List Mode}(y:h.length<=140737488355328)(x:(l.length:Int)=n)(v:4<=n/\n<=8):∀(j i:Nat),h.length-i=j->i<=h.length->
  aW (U0 af) (.ao (.c0 ⟨h,(h.length:Int),n,s,g,w,d,m,l,h⟩ (i:Int))) (bif (h.drop i).all (o4 (n,s,g,w,d,m,l,h))&&qB n s g w d m (iZ (n,s,g,w,d,m,l,h)) then 0 else 70):=by
 intro j
 induction j with
 | zero=>
   intro i u q;have:i=h.length:=by omega
   subst this;rw[aB,U0];refine(ak (by rw[bg];simp)).2 (afF v ?_)
   simp_all
 | succ j ih=>
   intro i u q;have o:i<h.length:=by omega
   rw[aB,U0];refine(al (by rw[bg];simp_all)).2 (au.2 ⟨du o,?_⟩);have e:(af.n fv h (i:Int):Mode)=h[i]:=fL o _;rw[e,AB o,gN];refine au.2 ⟨by show((l.length:Int)==n)=true;simp_all,?_⟩;have p:af.k RY ((n,s,g,w,d,m,l,h),h[i])=o4 (n,s,g,w,d,m,l,h) h[i]:=rfl;rw[p];cases o4 (n,s,g,w,d,m,l,h) h[i]
   ·refine(al rfl).2 ((al (by rfl)).2 (.ret _))
   ·refine(ak rfl).2 ?_
    rw[iC (i:=i) (by omega),cY]
    grind
theorem ajj{w l:Int}{i:List Mode}(h:Ty.has bM (n,s,g,w,d,l,j,i)):aW (U0 af) (t124 af n s g w d l j i) (mZ (n,s,g,w,d,l,j,i)):=by
 unfold t124 mZ dq;rw[show af.k XW (n,s,g,w,d,l,j,i)=countB (n,s,g,w,d,l,j,i) from rfl];cases hc:countB (n,s,g,w,d,l,j,i)
 ·exact(al rfl).2 (.ret _)
 ·refine(ak rfl).2 ?_
  simp[countB,su,fQ,sK,beq_iff_eq] at hc;exact aji (sU h).2.2.1 hc.1.2 hc.1.1.1 i.length 0 rfl (by omega)
def jM:ax->Int:=mZ
def aqN:aM:=.all [bM] [yI] jM
theorem BF:Sd 88 aqN:=fa (bp ar dK sl 58 [⟨186,2, [[0,1,7,8], [], [1]]⟩] [] (λA (n,q,u,i,l,j,o,m)=>t124 A n q u i l j o m) U0 aih (kz (fc Tryz.func88 (fc Tryz.func131 (fc Tryz.func132 (fc Tryz.func186 fz)))) (sc apv (sc apw (sc OF (sc apx sz))))) (λA y=>match y with |.c0 p a2=>⟨136,sl,by kernel_rfl⟩) λ(n,q,u,i,l,j,o,m) v h=>ajj h)
theorem uU{m:ax}:jM m=mZ m:=rfl
theorem qC{m:ax}:mZ m=0↔dq m=true:=by
 unfold mZ;grind
def asZ(A:aS)(h:Bool)(i:Int):LT Int Empty:=.br (A.not h) (.ret 2) (.br (A.jw i 0) (.ret 4) (.ret 3))
def RZ:(Bool×Int)->Int:=λ(h,i)=>(asZ af h i).val (Ty.aR [yI])
def aq6:aM:=.all [.bool,yI] [yI] RZ
theorem apy:Sd 63 aq6:=fa (aP ar dK sl 30 [] (λA (h,i)=>asZ A h i) (kz (fc Tryz.func63 fz) sz) (λ_ _ _=>LT.bE (by kernel_rfl)))
def asU(A:aS)(n:Int):LT Int Empty:=.br (A.bD n 0) (.ret 0) (.br (A.jw n 4095) (.ret 0) (.ret (A.b .add .i64 14 (A.b .quo .i64 (A.b .add .i64 n 1) 2))))
def RV:Int->Int:=λn=>(asU af n).val (Ty.aR [yI])
def aqM:aM:=.all [yI] [yI] RV
theorem apq:Sd 61 aqM:=fa (aP ar dK sl 30 [] (λA n=>asU A n) (kz (fc Tryz.func61 fz) sz) (λ_ _ _=>LT.bE (by kernel_rfl)))
structure ahA where
 (a0:List Bool)
inductive acC where
 | c0 (p:ahA) (a1:Int) (a2:Int)
noncomputable def aiB:acC->iH
 | .c0 p a1 a2=>⟨[⟨43,18,(en [(0,.sl .bool p.a0),(3,vi a1),(4,vi a2)]),sk Tryz.f43 [1,1,0,1,0,0],[],none⟩],[.aZ]⟩
def as9(A:aS)(l:List Bool):LT Int acC:=.ao (.c0 ⟨l⟩ 0 0)
def Z9(A:aS):acC->LT Int acC
 | .c0 p a1 a2=>.br (A.bD a2 (A.l p.a0)) (.ap (A.and (A.bU 0 a2) (A.bD a2 (A.l p.a0))) (.br (A.n .bool p.a0 a2:Bool) (.ao (.c0 p (A.b .add .i64 a1 1) (A.b .add .i64 a2 1))) (.ao (.c0 p a1 (A.b .add .i64 a2 1))))) (.ret a1)
theorem amF{l:List Bool}(p:l.length<=140737488355328):∀(j i c:Nat),l.length-i=j->i<=l.length->c<=i->aW (Z9 af) (.ao (.c0 ⟨l⟩ (c:Int) (i:Int))) ((c+(l.drop i).count true:Nat):Int):=by
 intro j
 induction j with
 | zero=>
   intro i c o n m;have:i=l.length:=by omega
   subst this;rw[aB,Z9];refine(ak (by rw[d_,bg];simp)).2 ?_;rw[cK];exact .ret _
 | succ j ih=>
   intro i c o n m;have h:i<l.length:=by omega
   rw[aB,Z9];refine(al (by rw[d_,bg];simp_all)).2 (au.2 ⟨du h,?_⟩);rw[AB h,List.count_cons];cases hb:l[i]
   ·refine(ak ((Bm h).trans hb)).2 ?_
    rw[iC (i:=i) (by omega)];refine aQ ?_ (ih (i+1) c (by omega) (by omega) (by omega));simp
   ·refine(al ((Bm h).trans hb)).2 ?_
    rw[iC (i:=c) (by omega),iC (i:=i) (by omega)];refine aQ ?_ (ih (i+1) (c+1) (by omega) (by omega) (by omega))
    grind
def Sc:(List Bool)->Int:=λl=>(l.count true:Int)
def arN:aM:=.all [(.slice .bool)] [yI] Sc
theorem apY:Sd 43 arN:=fa (bp ar dK sl 21 [⟨43,3, [[0,3,4]]⟩] [] (λA l=>as9 A l) Z9 aiB (kz (fc Tryz.func43 fz) sz) (λA y=>match y with |.c0 p a1 a2=>⟨37,sl,by kernel_rfl⟩) λ(l:List Bool) i h=>by
 show aW (Z9 af) (as9 af l) (Sc l);exact aQ (by simp[Sc]) (amF h.1 l.length 0 0 rfl (by omega) (by omega)))
structure ahB where
 (a1:List Int) (a2 a3:List Bool) (a4 a5 a6 a7 a8 a9:Int) (jd:List Bool) (kU:List Mode)
structure ahC where
 (b1:List Int) (b2 b3:List Bool) (b4 b5 b6 b7 b8 b9:Int) (b10:List Bool) (b11:List Mode)
inductive acD where
 | c0 (p:ahB) (a0:Int)
 | c1 (p:ahC) (b0:Int)
noncomputable def aiC:acD->iH
 | .c0 p a0=>⟨[⟨44,78,(en [(2,.ptr 0 0),(3,.ptr 1 0),(5,vi a0)]),sk Tryz.f44 [1,1,0,1,0,0],[],none⟩],[.ay false [.sl yI p.a1,.sl .bool p.a2,.sl .bool p.a3],.ay false [vi p.a4,vi p.a5,vi p.a6,vi p.a7,vi p.a8,vi p.a9,.sl .bool p.jd,.sl fv p.kU],.aZ]⟩
 | .c1 p b0=>⟨[⟨44,78,(en [(2,.ptr 0 0),(3,.ptr 1 0),(6,vi b0)]),sk Tryz.f44 [1,1,1,0,1,0,0],[],none⟩],[.ay false [.sl yI p.b1,.sl .bool p.b2,.sl .bool p.b3],.ay false [vi p.b4,vi p.b5,vi p.b6,vi p.b7,vi p.b8,vi p.b9,.sl .bool p.b10,.sl fv p.b11],.aZ]⟩
def afe(A:aS)(m:List Int)(h:List Bool)(n:List Bool)(i:Int)(u:Int)(v:Int)(l:Int)(p:Int)(o:Int)(q:List Bool)(j:List Mode):LT Bool acD:=.br (A.cr (A.l m) i) (.ret false) (.br (A.cr (A.l h) i) (.ret false) (.br (A.cr (A.l n) (A.l j)) (.ret false) (.ao (.c0 ⟨m,h,n,i,u,v,l,p,o,q,j⟩ 0))))
def Jd(A:aS):acD->LT Bool acD
 | .c0 p a0=>.br (A.bD a0 (A.l p.a1)) (.ap (A.and (A.bU 0 a0) (A.bD a0 (A.l p.a1))) (.br (A.bD (A.n yI p.a1 a0:Int) 0) (.ret false) (.ap (A.and (A.bU 0 a0) (A.bD a0 (A.l p.a1))) (.br (A.jw (A.n yI p.a1 a0:Int) 8) (.ret false) (.ao (.c0 p (A.b .add .i64 a0 1))))))) (.ao (.c1 ⟨p.a1,p.a2,p.a3,p.a4,p.a5,p.a6,p.a7,p.a8,p.a9,p.jd,p.kU⟩ 0))
 | .c1 p b0=>.br (A.bD b0 (A.l p.b2)) (.br (A.bD b0 (A.l p.b10)) (.ap (A.and (A.bU 0 b0) (A.bD b0 (A.l p.b10))) (.br (A.n .bool p.b10 b0:Bool) (.ap (A.and (A.bU 0 b0) (A.bD b0 (A.l p.b2))) (.br (A.not (A.n .bool p.b2 b0:Bool)) (.ret false) (.ao (.c1 p (A.b .add .i64 b0 1))))) (.ao (.c1 p (A.b .add .i64 b0 1))))) (.ret true)) (.ret true)
def Xc:List Bool->List Bool->Bool
 | c::cs,e::es=>(!c||e)&&Xc cs es
 | _,_=>true
theorem zX:∀{ds:List Int} {i j:List Bool},i.length=ds.length->j.length=ds.length->yh ds i j=(ds.all (λd=>decide (0<=d)&&decide (d<=8))&&Xc i j)
 | [], [], [],_,_=>rfl
 | d::ds,c::i,e::j,h1,h2=>by
   rw[yh,zX (ds:=ds) (by simpa using h1) (by simpa using h2),gN,Xc]
   grind
 | [],_::_,_,h,_=>by cases h
 | [], [],_::_,_,h=>by cases h
 | _::_, [],_,h,_=>by cases h
 | _::_,_::_, [],_,h=>by cases h
theorem ajr{w:Int}{l h next:List Bool}{p:List Mode}{q:List Int}(z:h.length<=140737488355328)(y:l.length=h.length):∀(j i:Nat),h.length-i=j->i<=h.length->
  aW (Jd af) (.ao (.c1 ⟨q,h,next,n,s,g,w,d,u,l,p⟩ (i:Int))) (Xc (l.drop i) (h.drop i)):=by
 intro j
 induction j with
 | zero=>
   intro i x v;have:i=h.length:=by omega
   subst this;rw[aB,Jd];refine(ak (by rw[d_,bg];simp)).2 ?_;rw[cK,gh (by omega)];exact .ret _
 | succ j ih=>
   intro i x v;have m:i<h.length:=by omega
   have o:i<l.length:=by omega
   rw[aB,Jd];refine(al (by rw[d_,bg];simp_all)).2 ((al (by rw[d_,bg];simp_all)).2 (au.2 ⟨du o,?_⟩));rw[AB m,AB o,Xc];cases hcb:l[i]
   ·refine(ak ((Bm o).trans hcb)).2 ?_
    rw[iC (i:=i) (by omega)];grind
   ·refine(al ((Bm o).trans hcb)).2 (au.2 ⟨du m,?_⟩)
    cases heb:h[i]
    ·exact(al (by rw[Bm m,heb];rfl)).2 (.ret _)
    ·refine(ak (by rw[Bm m,heb];rfl)).2 ?_
     rw[iC (i:=i) (by omega)];grind
theorem ajq{w:Int}{q u next:List Bool}{m:List Mode}{l:List Int}{R:Bool}(C:l.length<=140737488355328)(B:aW (Jd af) (.ao (.c1 ⟨l,u,next,n,s,g,w,d,v,q,m⟩ 0)) R):∀(j i:Nat),l.length-i=j->i<=l.length->
  aW (Jd af) (.ao (.c0 ⟨l,u,next,n,s,g,w,d,v,q,m⟩ (i:Int))) ((l.drop i).all (λd=>decide (0<=d)&&decide (d<=8))&&R):=by
 intro j
 induction j with
 | zero=>
   intro i y x;have:i=l.length:=by omega
   subst this;rw[aB,Jd];refine(ak (by rw[d_,bg];simp)).2 ?_
   simp_all
 | succ j ih=>
   intro i y x;have o:i<l.length:=by omega
   rw[aB,Jd];rw[AB o,gN];refine(al (by rw[d_,bg];simp_all)).2 (au.2 ⟨du o,?_⟩);rw[Zp o];refine bi (p:=l[i]<0) rfl (λh=>aQ ?_ (.ret _)) λz=>au.2 ⟨du o,bi (p:=8<l[i]) rfl (λh=>aQ ?_ (.ret _)) λA=>?_⟩
   ·grind
   ·grind
   ·rw[iC (i:=i) (by omega),da (show 0<=l[i] by omega),da (show l[i]<=8 by omega)]
    grind
theorem ajs{w q:Int}{l i next:List Bool}{j:List Mode}(v:h.length<=140737488355328)(p:i.length<=140737488355328)(x:(l.length:Int)=n):
  aW (Jd af) (afe af h i next n s g w d q l j) (o4 (n,s,g,w,d,q,l,j) (h,i,next)):=by
 unfold afe o4;by_cases m:(h.length:Int)=n
 ·refine(ak (yZ m)).2 ?_
  by_cases o:(i.length:Int)=n
  ·refine(ak (yZ o)).2 ?_
   by_cases u:(next.length:Int)=j.length
   ·refine(ak (yZ u)).2 (aQ ?_ (ajq v (ajr p (by omega) i.length 0 rfl (by omega)) h.length 0 rfl (by omega)))
    rw[beq_iff_eq.2 m,beq_iff_eq.2 o,beq_iff_eq.2 (show next.length=j.length by omega),zX (show l.length=h.length by omega) (show i.length=h.length by omega)];rfl
   ·refine(al (y1 u)).2 (aQ ?_ (.ret _))
    grind
  ·refine(al (y1 o)).2 (aQ ?_ (.ret _))
   simp_all
 ·refine(al (y1 m)).2 (aQ ?_ (.ret _))
  simp_all
def Se:(Mode×ax)->Bool:=λ(x,m)=>o4 m x
def Qm:(Mode×ax)->Bool:=λ(_,m)=>(m.2.2.2.2.2.2.1.length:Int)==m.1
def arO:aM:=⟨[fv,bM], [.bool],Qm,Se,false⟩
theorem apZ:Sd 44 arO:=bp ar dK sl 48 [⟨44,4, [[2,3,5]]⟩,⟨44,9, [[2,3,6]]⟩] [] (λA ((v,i,x),o,u,z,j,m,l,q,n)=>afe A v i x o u z j m l q n) Jd aiC (kz (fc Tryz.func44 fz) sz) (λA y=>match y with |.c0 p C=>⟨44,sl,by kernel_rfl⟩|.c1 p b0=>⟨50,sl,by kernel_rfl⟩) λ(((v,i,x),o,u,z,j,m,l,q,n):Mode×ax) B h=>by
 show aW (Jd af) (afe af v i x o u z j m l q n) (Se ((v,i,x),o,u,z,j,m,l,q,n));exact ajs h.1.1.1 h.1.2.1.1 (by simpa [Qm] using B)
structure ahl where
 (a0 a1 a2 a3 a4 a5 a6 a7:Int) (a8:List Bool) (a9:List Mode)
structure ahm where
 (b1 b3 b4 b5 b6 b7 b8:Int) (b9:List Bool) (b10:List Mode) (b11:List Int) (b12 b13:List Bool)
inductive acr where
 | c0 (p:ahl)
 | c1 (p:ahm) (b0:Int) (b2:Int)
noncomputable def aim:acr->iH
 | .c0 p=>⟨[⟨29,66,(en [(1,.ptr 0 0),(3,vi p.a0),(4,vi p.a1)]),sk Tryz.f29 [1,1,0,1,0,0],[],none⟩],[.ay false [vi p.a2,vi p.a3,vi p.a4,vi p.a5,vi p.a6,vi p.a7,.sl .bool p.a8,.sl fv p.a9],.aZ]⟩
 | .c1 p b0 b2=>⟨[⟨29,66,(en [(1,.ptr 0 0),(3,vi b0),(4,vi p.b1),(5,.ptr 1 0),(6,vi b2)]),sk Tryz.f29 [1,1,0,1,0,0,1,0,0,1,1,0,0],[],none⟩],[.ay false [vi p.b3,vi p.b4,vi p.b5,vi p.b6,vi p.b7,vi p.b8,.sl .bool p.b9,.sl fv p.b10],.ay false [.sl yI p.b11,.sl .bool p.b12,.sl .bool p.b13],.aZ]⟩
def alE(A:aS)(m:Int)(o:Int)(p:Int)(h:Int)(j:Int)(i:Int)(n:List Bool)(l:List Mode):LT Int acr:=.ao (.c0 ⟨(A.k RV (A.k PQ (1,0))),0,m,o,p,h,j,i,n,l⟩)
def L1(A:aS):acr->LT Int acr
 | .c0 p=>.br (A.bD p.a1 (A.l p.a9)) (.ap (A.and (A.bU 0 p.a1) (A.bD p.a1 (A.l p.a9))) (.ao (.c1 ⟨p.a1,p.a2,p.a3,p.a4,p.a5,p.a6,p.a7,p.a8,p.a9,(A.n fv p.a9 p.a1:Mode).1,(A.n fv p.a9 p.a1:Mode).2.1,(A.n fv p.a9 p.a1:Mode).2.2⟩ p.a0 0))) (.ret p.a0)
 | .c1 p b0 b2=>.br (A.bD b2 (A.l p.b11)) (.br (A.bD b2 (A.l p.b12)) (.br (A.bD b2 p.b3) (.ap (A.and (A.bU 0 b2) (A.bD b2 (A.l p.b12))) (.ap (A.and (A.bU 0 b2) (A.bD b2 (A.l p.b11))) (.ap (A.and (A.bU 0 b2) (A.bD b2 (A.l p.b11))) (.br (A.jw (A.k PQ ((A.k RZ ((A.n .bool p.b12 b2:Bool),(A.n yI p.b11 b2:Int))),(A.n yI p.b11 b2:Int))) 0) (.ao (.c1 p (A.mx b0 (A.k RV (A.k PQ ((A.k RZ ((A.n .bool p.b12 b2:Bool),(A.n yI p.b11 b2:Int))),(A.n yI p.b11 b2:Int))))) (A.b .add .i64 b2 1))) (.ao (.c1 p b0 (A.b .add .i64 b2 1))))))) (.ao (.c0 ⟨b0,(A.b .add .i64 p.b1 1),p.b3,p.b4,p.b5,p.b6,p.b7,p.b8,p.b9,p.b10⟩))) (.ao (.c0 ⟨b0,(A.b .add .i64 p.b1 1),p.b3,p.b4,p.b5,p.b6,p.b7,p.b8,p.b9,p.b10⟩))) (.ao (.c0 ⟨b0,(A.b .add .i64 p.b1 1),p.b3,p.b4,p.b5,p.b6,p.b7,p.b8,p.b9,p.b10⟩))
theorem XY:RZ=sO:=rfl
theorem XU:RV=qo:=rfl
theorem adI:PQ=wL:=funext λ⟨k,d⟩=>by rw[OC.1,OC.2]
theorem anf{w x:Int}{p l next:List Bool}{m:List Mode}{k z:Int}(D:h.length<=140737488355328)(u:af.b .add .i64 k 1=z)(v:∀b,aW (L1 af) (.ao (.c0 ⟨b,z,n,s,g,w,d,x,p,m⟩)) (F b)):
  ∀(j i:Nat) (b:Int),h.length-i=j->i<=h.length->aW (L1 af) (.ao (.c1 ⟨k,n,s,g,w,d,x,p,m,h,l,next⟩ b (i:Int))) (F ((((h.zip l).take n.toNat).drop i).foldl BV b)):=by
 intro j
 induction j with
 | zero=>
   intro i b C B;have:i=h.length:=by omega
   subst this;rw[aB,L1];refine(ak (by rw[d_,bg];simp)).2 ?_;rw[Dk (.inr (.inr (ah _))),u]
   simp_all
 | succ j ih=>
   intro i b C B;have o:i<h.length:=by omega
   rw[aB,L1];refine(al (by rw[d_,bg];simp_all)).2 ?_;have y:=λb=>ih (i+1) b (by omega) (by omega);by_cases q:i<l.length
   ·refine(al (by rw[d_,bg];simp_all)).2 ?_
    by_cases A:(i:Int)<n
    ·refine(al (by rw[SP];simp_all)).2 (au.2 ⟨du (show i<l.length from q),au.2 ⟨du o,au.2 ⟨du o,?_⟩⟩⟩)
     rw[ach o q A,jV,acb,<-Zp o,<-Bm q,iC (i:=i) (by omega),XY,adI,XU];cases hb:af.jw (af.k wL ((af.k sO ((af.n .bool l (i:Int):Bool),(af.n (.int .i64) h (i:Int):Int))),(af.n (.int .i64) h (i:Int):Int))) 0
     ·exact(ak rfl).2 (y _)
     ·exact(al rfl).2 (y _)
    ·refine(ak (by rw[SP];simp_all)).2 ?_
     rw[Dk (.inr (.inl (by omega))),u];simp_all
   ·refine(ak (by rw[d_,bg];simpa using q)).2 ?_
    rw[Dk (.inl (by omega)),u];simp_all
theorem ane{w:Int}{l:List Bool}{h:List Mode}(u:h.length<=140737488355328)(o:∀x∈h,x.1.length<=140737488355328):
  ∀(j k:Nat) (b:Int),h.length-k=j->k<=h.length->aW (L1 af) (.ao (.c0 ⟨b,(k:Int),n,s,g,w,d,m,l,h⟩)) ((h.drop k).foldl (Bf n.toNat) b):=by
 intro j
 induction j with
 | zero=>
   intro k b p q;have:k=h.length:=by omega
   subst this;rw[aB,L1];refine(ak (by rw[d_,bg];simp)).2 ?_;rw[cK];exact .ret _
 | succ j ih=>
   intro k b p q;have i:k<h.length:=by omega
   rw[aB,L1];refine(al (by rw[d_,bg];simp_all)).2 (au.2 ⟨du i,?_⟩);rw[show(af.n fv h (k:Int):Mode)=h[k] from fL i _,AB i,jV];exact anf (F:=λb=>(h.drop (k+1)).foldl (Bf n.toNat) b) (o _ (dF i)) (iC (by omega)) (λb=>ih (k+1) b (by omega) (by omega)) h[k].1.length 0 b rfl (by omega)
theorem ang{w l:Int}{i:List Mode}(h:Ty.has bM (n,s,g,w,d,l,j,i)):aW (L1 af) (alE af n s g w d l j i) (iZ (n,s,g,w,d,l,j,i)):=by
 unfold alE;exact ane (sU h).2.2.1 (λx m=>((sU h).2.2.2 x m).1) i.length 0 _ rfl (by omega)
def Nu:ax->Int:=iZ
def aqY:aM:=.all [bM] [yI] Nu
theorem agG:Sd 29 aqY:=fa (bp ar dK sl 24 [⟨29,3, [[1,3,4]]⟩,⟨29,7, [[1,3,4,5,6]]⟩] [] (λA (n,q,u,i,l,j,o,m)=>alE A n q u i l j o m) L1 aim (kz (fc Tryz.func29 fz) (sc avf (sc apq (sc apy sz)))) (λA y=>match y with |.c0 p=>⟨35,sl,by kernel_rfl⟩|.c1 p b0 b2=>⟨72,sl,by kernel_rfl⟩) λ(n,q,u,i,l,j,o,m) v h=>ang h)
structure ahv where
 (a1 a2 a3 a4 a5 a6:Int) (a7:List Bool) (a8:List Mode)
inductive acz where
 | c0 (p:ahv) (a0:Int)
noncomputable def aix:acz->iH
 | .c0 p a0=>⟨[⟨18,120,(en [(1,.ptr 0 0),(3,vi a0)]),sk Tryz.f18 [1,1,0,1,0,0],[],none⟩],[.ay false [vi p.a1,vi p.a2,vi p.a3,vi p.a4,vi p.a5,vi p.a6,.sl .bool p.a7,.sl fv p.a8],.aZ]⟩
def alS(A:aS)(h:Int)(o:Int)(p:Int)(l:Int)(n:Int)(m:Int)(j:List Bool)(i:List Mode):LT Int acz:=.br (A.bD h 4) (.ret 70) (.br (A.jw h 8) (.ret 70) (.br (A.bD (A.l i) 1) (.ret 70) (.br (A.jw (A.l i) 4) (.ret 70) (.br (A.cr (A.l j) h) (.ret 70) (.br (A.bD (A.k Sc j) 2) (.ret 70) (.ao (.c0 ⟨h,o,p,l,n,m,j,i⟩ 0)))))))
def U2(A:aS):acz->LT Int acz
 | .c0 p a0=>.br (A.bD a0 (A.l p.a8)) (.ap (A.and (A.bU 0 a0) (A.bD a0 (A.l p.a8))) (.ap (A.k Qm ((A.n fv p.a8 a0:Mode),p.a1,p.a2,p.a3,p.a4,p.a5,p.a6,p.a7,p.a8)) (.br (A.not (A.k Se ((A.n fv p.a8 a0:Mode),p.a1,p.a2,p.a3,p.a4,p.a5,p.a6,p.a7,p.a8))) (.ret 70) (.ao (.c0 p (A.b .add .i64 a0 1)))))) (.br (A.bD p.a5 0) (.ret 70) (.br (A.jw p.a5 64) (.ret 70) (.br (A.bD p.a6 0) (.ret 70) (.br (A.jw p.a6 64) (.ret 70) (.br (A.bD p.a4 (A.b .add .i64 (A.b .mul .i64 (A.b .mul .i64 16 p.a1) p.a5) 16)) (.ret 70) (.br (A.jw p.a4 1048576) (.ret 70) (.br (A.bD p.a3 (A.b .add .i64 (A.b .add .i64 (A.b .mul .i64 2 p.a4) (A.b .mul .i64 2 p.a6)) 4)) (.ret 70) (.br (A.jw p.a3 1048576) (.ret 70) (.br (A.bD p.a2 (A.b .add .i64 (A.b .mul .i64 2 p.a3) (A.k Nu (p.a1,p.a2,p.a3,p.a4,p.a5,p.a6,p.a7,p.a8)))) (.ret 70) (.br (A.jw p.a2 16777216) (.ret 70) (.ret 0)))))))))))
theorem afG{w l:Int}{i:List Mode}{R:Int}(q:4<=n/\n<=8)(v:R=bif qB n s g w d l (iZ (n,s,g,w,d,l,j,i)) then 0 else 70):
  aW (U2 af) (.br (af.bD d 0) (.ret 70) (.br (af.jw d 64) (.ret 70) (.br (af.bD l 0) (.ret 70) (.br (af.jw l 64) (.ret 70) (.br (af.bD w (af.b .add .i64 (af.b .mul .i64 (af.b .mul .i64 16 n) d) 16)) (.ret 70) (.br (af.jw w 1048576) (.ret 70) (.br (af.bD g (af.b .add .i64 (af.b .add .i64 (af.b .mul .i64 2 w) (af.b .mul .i64 2 l)) 4)) (.ret 70) (.br (af.jw g 1048576) (.ret 70) (.br (af.bD s (af.b .add .i64 (af.b .mul .i64 2 g) (af.k Nu (n,s,g,w,d,l,j,i)))) (.ret 70) (.br (af.jw s 16777216) (.ret 70) (.ret 0))))))))))) R:=by
 have x:=vf (m:=(n,s,g,w,d,l,j,i));have o:∀{p:Prop} [Decidable p],¬p->decide p=false:=λh=>by simp_all
 rw[v];refine bi (p:=d<0) rfl (λh=>aQ ?_ (.ret _)) λy=>bi (p:=64<d) rfl (λh=>aQ ?_ (.ret _)) λz=>bi (p:=l<0) rfl (λh=>aQ ?_ (.ret _)) λA=>bi (p:=64<l) rfl (λh=>aQ ?_ (.ret _)) λB=>?_
 ·rw[qB,o (by omega)];rfl
 ·rw[qB,o (by omega)];rfl
 ·rw[qB,o (by omega)];rfl
 ·rw[qB,o (by omega)];rfl
 have:=yC (n:=n) (d:=d) q (by omega);rw[ace q (by omega)];refine bi (p:=w<16*n*d+16) rfl (λh=>aQ ?_ (.ret _)) λC=>bi (p:=1048576<w) rfl (λh=>aQ ?_ (.ret _)) λD=>?_
 ·rw[qB,o (by omega)];rfl
 ·rw[qB,o (by omega)];rfl
 rw[Yw (by omega) (by omega)];refine bi (p:=g<2*w+2*l+4) rfl (λh=>aQ ?_ (.ret _)) λE=>bi (p:=1048576<g) rfl (λh=>aQ ?_ (.ret _)) λF=>?_
 ·rw[qB,o (by omega)];rfl
 ·rw[qB,o (by omega)];rfl
 rw[show af.k Nu (n,s,g,w,d,l,j,i)=iZ (n,s,g,w,d,l,j,i) from rfl,Tx (by omega) x];refine bi (p:=s<2*g+iZ (n,s,g,w,d,l,j,i)) rfl (λh=>aQ ?_ (.ret _)) λG=>bi (p:=16777216<s) rfl (λh=>aQ ?_ (.ret _)) λu=>aQ ?_ (.ret _)
 ·rw[qB,o (by omega)];rfl
 ·rw[qB,o (by omega)];rfl
 ·rw[qB,da (by omega)];rfl
theorem ady{w:Int}{l:List Bool}{h:List Mode}(y:h.length<=140737488355328)(x:(l.length:Int)=n)(v:4<=n/\n<=8):∀(j i:Nat),h.length-i=j->i<=h.length->
  aW (U2 af) (.ao (.c0 ⟨n,s,g,w,d,m,l,h⟩ (i:Int))) (bif (h.drop i).all (o4 (n,s,g,w,d,m,l,h))&&qB n s g w d m (iZ (n,s,g,w,d,m,l,h)) then 0 else 70):=by
 intro j
 induction j with
 | zero=>
   intro i u q;have:i=h.length:=by omega
   subst this;rw[aB,U2];refine(ak (by rw[d_,bg];simp)).2 (afG v ?_)
   simp_all
 | succ j ih=>
   intro i u q;have o:i<h.length:=by omega
   rw[aB,U2];refine(al (by rw[d_,bg];simp_all)).2 (au.2 ⟨du o,?_⟩);have e:(af.n fv h (i:Int):Mode)=h[i]:=fL o _;rw[e,AB o,gN];refine au.2 ⟨by show((l.length:Int)==n)=true;simp_all,?_⟩;have p:af.k Se (h[i],n,s,g,w,d,m,l,h)=o4 (n,s,g,w,d,m,l,h) h[i]:=rfl;rw[p];cases o4 (n,s,g,w,d,m,l,h) h[i]
   ·exact(al rfl).2 (.ret _)
   ·refine(ak rfl).2 ?_
    rw[iC (i:=i) (by omega),cY]
    grind
theorem adz{w l:Int}{i:List Mode}(h:Ty.has bM (n,s,g,w,d,l,j,i)):aW (U2 af) (alS af n s g w d l j i) (mZ (n,s,g,w,d,l,j,i)):=by
 unfold alS mZ dq countB;simp[su];refine bi (p:=n<4) rfl (λh=>aQ ?_ (.ret _)) λo=>bi (p:=8<n) rfl (λh=>aQ ?_ (.ret _)) λq=>bi (p:=(i.length:Int)<1) rfl (λh=>aQ ?_ (.ret _)) λu=>bi (p:=4<(i.length:Int)) rfl (λh=>aQ ?_ (.ret _)) λv=>?_
 ·grind
 ·grind
 ·grind
 ·grind
 by_cases m:(j.length:Int)=n
 ·refine(ak (yZ m)).2 (?_)
  refine bi (p:=(j.count true:Int)<2) rfl (λh=>aQ ?_ (.ret _)) λx=>aQ ?_ (ady (sU h).2.2.1 m (by omega) i.length 0 rfl (by omega))
  all_goals grind
 ·refine(al (y1 m)).2 (aQ ?_ (.ret _))
  grind
def JJ:ax->Int:=mZ
def art:aM:=.all [bM] [yI] JJ
theorem apL:Sd 18 art:=fa (bp ar dK sl 58 [⟨18,4, [[1,3]]⟩] [] (λA (n,q,u,i,l,j,o,m)=>alS A n q u i l j o m) U2 aix (kz (fc Tryz.func18 fz) (sc agG (sc apY (sc apZ sz)))) (λA y=>match y with |.c0 p v=>⟨100,sl,by kernel_rfl⟩) λ(n,q,u,i,l,j,o,m) x h=>adz h)
def rhoC:Shelf.Ren:=⟨λx=>match x with|4=>52|n=>n,λx=>match x with|22=>45|4=>4|5=>5|n=>n,λx=>x⟩
theorem agk:SlLaysK.n4 Tryz.prog rhoC:=
 {mixed:=by kernel_rfl,f4:=Tryz.func52.trans (congrArg some (by kernel_rfl)),t4:=Tryz.underlying4,a4:=Tryz.isAgg4,z4:=Tryz.sizeOf4,v4:=Tryz.zeroValue4,t22:=Tryz.underlying45,a22:=Tryz.isAgg45,z22:=Tryz.sizeOf45,v22:=Tryz.zeroValue45,t5:=Tryz.underlying5,i5:=by kernel_rfl}
def nI:List Int->List Int:=λx=>x
def aq9:aM:=.all [.slice (.int .u8)] [.slice (.int .u8)] nI
theorem Uh{w:World}{I:Nat->Prop}{x:List Int}{v:Value}(N:bS w I (.slice (.int .u8)) [v] x):Calls Tryz.prog 52 #[v] w λe j=>∃v,e=.returned v/\j.os=w.os/\j.tape=w.tape/\j.output=w.output/\w.heap.size<=j.heap.size/\(∀b,b<w.heap.size->j.heap[b]? = w.heap[b]?)/\
   ∃G,(∀b,G b->I b\/(w.heap.size<=b/\b<j.heap.size))/\bS j G (.slice (.int .u8)) [v] x:=by
 have hx:x.length<=gj/\∀y∈x,IntKind.u8.has y:=bS.has _ N;obtain⟨a,l,e,P,H,S,W⟩:=dX.1 N;cases e;cases a with
 | none=>
   have F:x=[]:=a_ (by have V:l=0:=S rfl;have Q:x.length<=l:=P;omega);subst F;refine(Any.bytes_Clone_nil agk 0 l w).mono ?_
   rintro e j ⟨rfl,rfl⟩
   exact⟨_,rfl,rfl,rfl,rfl,ah _,λ_ _=>rfl,I,λb h=>.inl h,dX.2 ⟨none,0,rfl,ah _,aX _,(λ_=>rfl),λi y h=>by cases h⟩⟩
 | some a=>
   refine(Any.bytes_Clone_at agk a x.length l x w rfl H λi C=>?_).mono ?_
   ·obtain⟨b,off,us,O,_,hl,hr,hc⟩:=W i x[i] (Gd C)
    cases O;have E:=(sG.1 hc).1;subst E;have:=hr 0 _ rfl;rw[mf,yb,Gd C];simpa [Ty.size] using this
   ·rintro e j ⟨v',rfl,⟨hn,z⟩,u,p⟩
    rcases z with ⟨hz,_⟩|⟨g,n,o,rfl,m,K,q,a3,a5,D⟩
    ·exact absurd hz u
    refine⟨_,rfl,p.os,p.tape,p.output,p.size,p.block,λb=>w.heap.size<=b/\b<j.heap.size,λb h=>.inr h,dX.2 ⟨_,n,rfl,q,H,(λh=>by cases h),λi y B=>?_⟩⟩;have B:x[i]? = some y:=B;have C:i<x.length:=(aT.1 B).1;refine⟨g,0, [.int .u8 y],rfl,⟨m,(dp.1 K).1⟩,rfl,?_,sG.2 ⟨rfl,hx.2 y (i7 B)⟩⟩;have A:=iM (w:=j) K i 1;have:(o.toList.drop i).take 1=[Value.int .u8 y]:=by
     have J:(o.toList.take (x.length*1))[i]? = some (Value.int .u8 y):=by
      rw[D,cn,B];rfl
     rw[jE (by omega)] at J;obtain⟨X,Z⟩:=aT.1 J;rw[AB X,Z];rfl
    rw[this] at A;simpa [Ty.size] using A
theorem D3:aM.bH Tryz.prog 52 aq9:=by
 refine⟨λw I x j n i _=>?_,λ_ _=>rfl,⟨Tryz.f52,Tryz.func52,by kernel_rfl,by kernel_rfl⟩⟩;obtain⟨l⟩:=j;obtain⟨v,rfl,m⟩:∃v,l=[v]/\mE w I (.slice (.int .u8)) v x:=by
  have h:=i;exact h
 exact Uh m
def as2(A:aS)(h:Int)(i:Int):LT Int Empty:=.br (A.bD h 0) (.ret 60) (.br (A.bD i h) (.ret 60) (.br (A.jw i 1099511627776) (.ret 60) (.ret 0)))
def FV:Span->Int:=λ(h,i)=>(as2 af h i).val (Ty.aR [yI])
def arf:aM:=.all [kT] [yI] FV
theorem OG:Sd 248 arf:=fa (aP ar dK sl 36 [] (λA (h,i)=>as2 A h i) (kz (fc Tryz.func248 fz) sz) (λ_ _ _=>LT.bE (by kernel_rfl)))
def t182(A:aS)(j:Int)(h:Int)(l:Int)(i:Int)(n:Int)(m:List Int):LT Int Empty:=.br (A.bD j (-1)) (.ret 110) (.br (A.qP j 8) (.ret 110) (.br (A.bD i 0) (.ret 110) (.br (A.jw i 200) (.ret 110) (.br (A.cr (A.k FV (h,l)) 0) (.ret 110) (.br (A.cr (A.k rS (n,m)) 0) (.ret 110) (.ret 0))))))
def R1:gm->Int:=λ(l,(h,i),j,n,m)=>(t182 af l h i j n m).val (Ty.aR [yI])
def arc:aM:=.all [jG] [yI] R1
theorem aaD:Sd 294 arc:=fa (aP ar dK sl 69 [] (λA (l,(h,i),j,n,m)=>t182 A l h i j n m) (kz (fc Tryz.func294 fz) (sc Mh (sc OG sz))) (λ_ _ _=>LT.bE (by kernel_rfl)))
def t171(A:aS)(m:Int)(h:Int)(i:Int)(l:Int)(j:Int)(n:List Int):LT Bool Empty:=.br (A.bK (A.k R1 (m,(h,i),l,j,n)) 0) (.br (A.jw j 0) (.br (A.bU j 4095) (.ret (A.bK (A.b .sub .i64 i h) (A.k qo j))) (.ret false)) (.ret false)) (.ret false)
def af1:gm->Bool:=λ(l,(h,i),j,n,m)=>(t171 af l h i j n m).val (Ty.aR [.bool])
def aq7:aM:=.all [jG] [.bool] af1
theorem apz:Sd 246 aq7:=fa (aP ar dK sl 44 [] (λA (l,(h,i),j,n,m)=>t171 A l h i j n m) (kz (fc Tryz.func246 fz) (sc TC (sc aaD sz))) (λ_ _ _=>LT.bE (by kernel_rfl)))
structure ahp where
 (a0:List Int) (a1 a3:Int)
inductive acs where
 | c0 (p:ahp) (a2:Int)
noncomputable def aiq:acs->iH
 | .c0 p a2=>⟨[⟨257,19,(en [(0,.sl yI p.a0),(1,.fn 205 [] [.ptr 0 0]),(7,vi p.a1),(8,vi a2)]),sk Tryz.f257 [1,0,1,0,0],[],none⟩,⟨204,9,.leaf,[.ops (ow Tryz.f204 [1,0]) ((ow Tryz.f204 [1,0]).toList.drop 2),.code .ret],[],none⟩,⟨154,36,.leaf,[.ops (ow Tryz.f154 [1,1,1,0]) ((ow Tryz.f154 [1,1,1,0]).toList.drop 3),.code .ret],[],none⟩],[.ay false [vi p.a3],.aZ]⟩
def t168(A:aS)(p:Int)(u:Int)(v:Int)(l:Int)(n:Int)(m:Int)(q:List Bool)(o:List Mode)(i:Int)(j:Int)(h:List Int):LT Bool acs:=.br (A.bD i 0) (.ret false) (.br (A.jw i 1099494850560) (.ret false) (.br (A.bD j 0) (.ret false) (.br (A.jw j 1048576) (.ret false) (.br (A.jw (A.l h) 8) (.ret false) (.ao (.c0 ⟨h,(A.l h),l⟩ 0))))))
def Z6(A:aS):acs->LT Bool acs
 | .c0 p a2=>.br (A.bD a2 p.a1) (.ap (A.and (A.bU 0 a2) (A.bD a2 (A.l p.a0))) (.br (A.bD (A.n yI p.a0 a2:Int) (A.u .neg .i64 p.a3)) (.ret (A.not (A.qP a2 0))) (.br (A.jw (A.n yI p.a0 a2:Int) p.a3) (.ret (A.not (A.qP a2 0))) (.ao (.c0 p (A.b .add .i64 a2 1)))))) (.ret true)
def Xq(w x:Int):Bool:=!af.bD x (af.u .neg .i64 w) && !af.jw x w
def yK(w:Int)(c:qk):Bool:=!decide (c.1<0)&&(!decide (1099494850560<c.1)&&(!decide (c.2.1<0)&&(!decide (1048576<c.2.1)&&(!decide (8<(c.2.2.length:Int))&&c.2.2.all (Xq w)))))
theorem auH{l:List Int}{w:Int}(p:l.length<=140737488355328):∀(j i:Nat),l.length-i=j->i<=l.length->aW (Z6 af) (.ao (.c0 ⟨l,(l.length:Int),w⟩ (i:Int))) ((l.drop i).all (Xq w)):=by
 intro j
 induction j with
 | zero=>
   intro i o n;have:i=l.length:=by omega
   subst this;rw[aB,Z6];refine(ak (by rw[bg];simp)).2 ?_;rw[cK];exact .ret _
 | succ j ih=>
   intro i o n;have h:i<l.length:=by omega
   rw[aB,Z6];refine(al (by rw[bg];simp;omega)).2 (au.2 ⟨du h,?_⟩);rw[Zp h,AB h,gN,Xq];have m:af.not (af.qP (i:Int) 0)=false:=by rw[k_,lM];simp
   rw[m];cases af.bD l[i] (af.u .neg .i64 w)
   ·refine(ak rfl).2 ?_
    cases af.jw l[i] w
    ·refine(ak rfl).2 ?_
     rw[iC (i:=i) (by omega)];exact ih (i+1) (by omega) (by omega)
    ·exact(al rfl).2 (.ret _)
   ·exact(al rfl).2 (.ret _)
theorem auI{w o j:Int}{i:List Bool}{h:List Mode}{l:List Int}(p:l.length<=140737488355328):aW (Z6 af) (t168 af n s g w d o i h m j l) (yK w (m,j,l)):=by
 unfold t168 yK;simp only[d_,aV,dh];cases decide (m<0)
 ·refine(ak rfl).2 ?_
  cases decide (1099494850560<m)
  ·refine(ak rfl).2 ?_
   cases decide (j<0)
   ·refine(ak rfl).2 ?_
    cases decide (1048576<j)
    ·refine(ak rfl).2 ?_
     cases decide (8<(l.length:Int))
     ·exact(ak rfl).2 (auH p l.length 0 rfl (by omega))
     ·exact(al rfl).2 (.ret _)
    ·exact(al rfl).2 (.ret _)
   ·exact(al rfl).2 (.ret _)
  ·exact(al rfl).2 (.ret _)
 ·exact(al rfl).2 (.ret _)
theorem adP{w p o:Int}{i:List Mode}{l:List Int}(h:Ty.jK [bM,wP] ((n,s,g,w,d,p,j,i),o,m,l)):l.length<=140737488355328:=h.2.2.2.1
def Xf(x:ax×qk):Int:=bif dq x.1 then(bif yK x.1.2.2.2.1 x.2 then 0 else 130) else 70
def FU:(ax×qk)->Bool:=λ(m,c)=>yK m.2.2.2.1 c
def aq5:aM:=.all [bM,wP] [.bool] FU
theorem aaB:Sd 154 aq5:=fa (bp ar dK sl 95 [⟨257,2, [[0,1,7,8], [], []]⟩] [] (λA ((o,x,z,i,m,l,v,n),j,u,q)=>t168 A o x z i m l v n j u q) Z6 aiq (kz (fc Tryz.func154 (fc Tryz.func204 (fc Tryz.func205 (fc Tryz.func257 fz)))) sz) (λA y=>match y with |.c0 p a2=>⟨61,sl,by kernel_rfl⟩) λ((o,x,z,i,m,l,v,n),j,u,q) B h=>auI (adP h))
def alD(A:aS)(m:Int)(o:Int)(p:Int)(h:Int)(j:Int)(i:Int)(n:List Bool)(l:List Mode)(q:Int)(v:Int)(u:List Int):LT Int Empty:=.br (A.cr (A.k jM (m,o,p,h,j,i,n,l)) 0) (.ret (A.k jM (m,o,p,h,j,i,n,l))) (.br (A.not (A.k FU ((m,o,p,h,j,i,n,l),q,v,u))) (.ret 130) (.ret 0))
def tQ:(ax×qk)->Int:=λ((n,u,v,h,l,j,q,m),i,p,o)=>(alD af n u v h l j q m i p o).val (Ty.aR [yI])
def aqW:aM:=.all [bM,wP] [yI] tQ
theorem OE:Sd 198 aqW:=fa (aP ar dK sl 40 [] (λA ((n,u,v,h,l,j,q,m),i,p,o)=>alD A n u v h l j q m i p o) (kz (fc Tryz.func198 fz) (sc BF (sc aaB sz))) (λ_ _ _=>LT.bE (by kernel_rfl)))
def t148(A:aS)(o:Int)(v:Int)(j:Int)(l:Int)(m:Int)(i:Int)(u:List Bool)(n:List Mode)(h:Int)(q:Int)(p:List Int):LT Int Empty:=.ret (A.b .add .i64 h (A.b .add .i64 j i))
def Nt:(ax×qk)->Int:=λ((n,u,v,h,l,j,q,m),i,p,o)=>(t148 af n u v h l j q m i p o).val (Ty.aR [yI])
def aqX:aM:=.all [bM,wP] [yI] Nt
theorem agF:Sd 199 aqX:=fa (aP ar dK sl 24 [] (λA ((n,u,v,h,l,j,q,m),i,p,o)=>t148 A n u v h l j q m i p o) (kz (fc Tryz.func199 fz) sz) (λ_ _ _=>LT.bE (by kernel_rfl)))
def t116(A:aS)(n:Int)(u:Int)(v:Int)(h:Int)(l:Int)(j:Int)(q:List Bool)(m:List Mode)(i:Int)(p:Int)(o:List Int):LT (Span×Int) Empty:=.br (A.cr (A.k tQ ((n,u,v,h,l,j,q,m),i,p,o)) 0) (.ret ((0,0),(A.k tQ ((n,u,v,h,l,j,q,m),i,p,o)))) (.ret (((A.mx (A.b .sub .i64 (A.k Nt ((n,u,v,h,l,j,q,m),i,p,o)) h) 0),(A.b .add .i64 (A.b .add .i64 (A.k Nt ((n,u,v,h,l,j,q,m),i,p,o)) h) 1)),0))
def y9:(ax×qk)->(Span×Int):=λ((n,u,v,h,l,j,q,m),i,p,o)=>(t116 af n u v h l j q m i p o).val (Ty.aR [kT,yI])
def aqL:aM:=.all [bM,wP] [kT,yI] y9
theorem agD:Sd 147 aqL:=fa (aP ar dK sl 52 [] (λA ((n,u,v,h,l,j,q,m),i,p,o)=>t116 A n u v h l j q m i p o) (kz (fc Tryz.func147 fz) (sc OE (sc agF sz))) (λ_ _ _=>LT.bE (by kernel_rfl)))
theorem XV{m:ax}{c:qk}:tQ (m,c)=Xf (m,c):=by
 obtain⟨n,s,g,w,d,p,i,h⟩:=m;obtain⟨o,j,l⟩:=c;simp only[tQ,alD,LT.val,bo,uU,mZ,Xf,k_];rw[show FU ((n,s,g,w,d,p,i,h),o,j,l)=yK w (o,j,l) from rfl];cases dq (n,s,g,w,d,p,i,h)<;>cases yK w (o,j,l)<;>rfl
theorem wrap_i64(n:Int):IntKind.i64.wrap n=if n%18446744073709551616 >= 9223372036854775808 then n%18446744073709551616-18446744073709551616 else n%18446744073709551616:=by
 simp[IntKind.wrap,IntKind.signed,IntKind.bits]
theorem Y_{w l:Int}{i:List Mode}(h:dq (n,s,g,w,d,l,j,i)=true):(4<=n/\n<=8)/\((1:Int)<=i.length/\(i.length:Int)<=4)/\(j.length:Int)=n/\i.all (o4 (n,s,g,w,d,l,j,i))=true/\(0<=d/\d<=64/\0<=l/\l<=64/\16<=w/\w<=1048576/\36<=g/\g<=1048576/\72<=s/\s<=16777216):=by
 simp[dq,countB,su,qB,fQ,sK] at h;obtain⟨⟨⟨⟨⟨o,p⟩,q⟩,_⟩,u⟩,v⟩:=h;have:=yC o (d:=d) (by omega);have x:=vf (m:=(n,s,g,w,d,l,j,i))
 grind
theorem adD{b:Int×List Int}(h:(tM b).2=true):zP (tM b).1=true:=by
 rw[tM] at h ⊢;cases hp:((vM (b,zS)).2 != 0||(vM (b,zS)).1.1==2)
 ·rw[Bool.or_eq_false_iff] at hp
  have i:(vM (b,zS)).2=0:=by simp_all
  exact aen i
 simp_all
theorem Ys{f:sF}(h:zP f=true):0<=f.2.2.2.1/\f.2.2.2.1<=7/\0<=f.2.2.1.2.1/\f.2.2.1.2.1<=7:=by
 simp[zP,fQ] at h;have i:=aaT.1 h.1.1.1
 grind
abbrev eqB(b:Bool):Prop:=b=b
section
variable {R Y:Type} {step:Y->LT R Y} {t:LT R Y} {r:R}
end
theorem E3{b:Bool}{x y:α}(h:b=false):y=bif b then x else y:=by simp_all
theorem EX[Decidable p]{b:Bool}(h:¬p):(decide p&&b)=false:=by simp_all
theorem lS[Decidable p]{b:Bool}(h:p):(decide p&&b)=b:=by simp_all
def as_(A:aS)(n:Int)(h:Int)(i:Int):LT Bool Empty:=.br (A.qP n h) (.ret (A.bU n i)) (.ret false)
def uX:(Int×Int×Int)->Bool:=λ(n,h,i)=>(as_ af n h i).val (Ty.aR [.bool])
def arS:aM:=.all [yI,yI,yI] [.bool] uX
theorem OI:Sd 180 arS:=fa (aP ar dK sl 22 [] (λA (n,h,i)=>as_ A n h i) (kz (fc Tryz.func180 fz) sz) (λ_ _ _=>LT.bE (by kernel_rfl)))
structure ahw where
 (a0:List iN) (a1:Int) (a3:Bool)
inductive acB where
 | c0 (p:ahw) (a2:Int)
noncomputable def aiz:acB->iH
 | .c0 p a2=>⟨[⟨283,19,(en [(0,.sl kW p.a0),(1,.fn 232 [] []),(7,vi p.a1),(8,vi a2)]),sk Tryz.f283 [1,0,1,0,0],[],none⟩,⟨233,9,.leaf,[.ops (ow Tryz.f233 [1,0]) ((ow Tryz.f233 [1,0]).toList.drop 2),.code .ret],[],none⟩,⟨182,43,(en [(37,vb p.a3)]),(.ops (ow Tryz.f182 [1,1,0,0]) ((ow Tryz.f182 [1,1,0,0]).toList.drop 37)::sk Tryz.f182 [1,1,0,0]),[],none⟩],[.aZ]⟩
def alW(A:aS)(c:jm):LT Int acB:=.br (A.not (A.k uX ((A.l c.2.2.1),4,8))) (.ret 120) (.br (A.not (A.k uX (c.1,0,(A.b .sub .i64 (A.l c.2.2.1) 1)))) (.ret 120) (.br (A.jw (A.l c.2.1) 8) (.ret 120) (.br (A.not (A.k uX (c.2.2.2.1,0,4))) (.ret 120) (.br (A.not (A.k uX (c.2.2.2.2,(-1),3))) (.ret 120) (.ao (.c0 ⟨c.2.2.1,(A.l c.2.2.1),false⟩ 0))))))
def Z8(A:aS):acB->LT Int acB
 | .c0 p a2=>.br (A.bD a2 p.a1) (.ap (A.and (A.bU 0 a2) (A.bD a2 (A.l p.a0))) (.br (A.jw (A.l (A.n kW p.a0 a2:iN).1) 8) (.br p.a3 (.ret 120) (.br (A.qP a2 0) (.ret 120) (.ret 0))) (.br (A.not (A.k uX ((A.n kW p.a0 a2:iN).2,0,255))) (.br p.a3 (.ret 120) (.br (A.qP a2 0) (.ret 120) (.ret 0))) (.ao (.c0 p (A.b .add .i64 a2 1)))))) (.br p.a3 (.ret 120) (.ret 0))
theorem auf:uX=kE:=rfl
def N0(m:iN):Bool:=decide (¬8<(m.1.length:Int))&&decide (0<=m.2/\m.2<=255)
def iI(c:jm):Bool:=decide (4<=(c.2.2.1.length:Int)/\(c.2.2.1.length:Int)<=8)&&(decide (0<=c.1/\c.1<=(c.2.2.1.length:Int)-1)&&(decide (¬8<(c.2.1.length:Int))&&(decide (0<=c.2.2.2.1/\c.2.2.2.1<=4)&&(decide (-1<=c.2.2.2.2/\c.2.2.2.2<=3)&&c.2.2.1.all N0))))
def zH(c:jm):Int:=bif iI c then 0 else 120
variable{c:jm}
theorem JF:zH c=0↔iI c=true:=by unfold zH;grind
theorem auQ{l:List iN}(v:l.length<=140737488355328):∀(j i:Nat),l.length-i=j->i<=l.length->aW (Z8 af) (.ao (.c0 ⟨l,(l.length:Int),false⟩ (i:Int))) (bif (l.drop i).all N0 then 0 else 120):=by
 intro j
 induction j with
 | zero=>
   intro i u q;have:i=l.length:=by omega
   subst this;rw[aB,Z8];refine(ak (by rw[bg];simp)).2 ((ak rfl).2 ?_);rw[cK];exact .ret _
 | succ j ih=>
   intro i u q;have m:i<l.length:=by omega
   rw[aB,Z8];refine(al (by rw[bg];simp_all)).2 (au.2 ⟨du m,?_⟩);rw[show(af.n kW l (i:Int):iN)=l[i] from fL m _,AB m,gN,N0,auf];refine bi (p:=8<(l[i].1.length:Int)) rfl (λh=>?_) λn=>ja (λh=>?_) λo=>?_
   ·rw[gI (show ¬¬8<(l[i].1.length:Int) by omega)]
    exact(ak rfl).2 ((al (by rfl)).2 (.ret _))
   ·rw[gI h,dI]
    exact(ak rfl).2 ((al (by rfl)).2 (.ret _))
   ·rw[da n,da o,iC (i:=i) (by omega)]
    grind
theorem adR(h:Ty.has tA c):c.2.1.length<=140737488355328/\c.2.2.1.length<=140737488355328/\∀x∈c.2.2.1,x.1.length<=140737488355328:=by
 obtain⟨_,j,i,_⟩:=h;exact⟨j.1,i.1,λx l=>(i.2 x l).1.1⟩
theorem auw(h:Ty.has tA c):aW (Z8 af) (alW af c) (zH c):=by
 have o:=(adR h).2.1;unfold alW zH;simp only[d_];have q:af.b .sub .i64 (c.2.2.1.length:Int) 1=(c.2.2.1.length:Int)-1:=by rw[gg,lC (by omega) (by omega)]
 rw[q];refine ja (λh=>?_) λi=>ja (λh=>?_) λj=>bi (p:=8<(c.2.1.length:Int)) rfl (λh=>?_) λl=>ja (λh=>?_) λm=>ja (λh=>?_) λn=>?_
 ·exact aQ (E3 (by rw[iI,EX h])) (.ret _)
 ·exact aQ (E3 (by rw[iI,lS i,EX h])) (.ret _)
 ·exact aQ (E3 (by rw[iI,lS i,lS j,EX (λk=>k h)])) (.ret _)
 ·exact aQ (E3 (by rw[iI,lS i,lS j,lS l,EX h])) (.ret _)
 ·exact aQ (E3 (by rw[iI,lS i,lS j,lS l,lS m,EX h])) (.ret _)
 ·rw[iI,lS i,lS j,lS l,lS m,lS n]
  exact auQ o c.2.2.1.length 0 rfl (by omega)
def qZ:jm->Int:=zH
def arA:aM:=.all [tA] [yI] qZ
theorem Kk:Sd 182 arA:=fa (bp ar dK sl 78 [⟨283,2, [[0,1,7,8], [], [37]]⟩] [] (λA c=>alW A c) Z8 aiz (kz (fc Tryz.func182 (fc Tryz.func232 (fc Tryz.func233 (fc Tryz.func283 fz)))) (sc OI sz)) (λA y=>match y with |.c0 p a2=>⟨68,sl,by kernel_rfl⟩) λc i h=>auw h)
structure ahE where
 (a0:Int) (a2:jm) (a3 a4 a5:Int)
inductive WQ where
 | c0 (p:ahE) (a1:Int) (a6:List iN)
noncomputable def aiF:WQ->iH
 | .c0 p a1 h=>⟨[⟨185,44,(en [(1,.ptr 0 0),(2,.ptr 1 0),(5,.own 2),(22,vi p.a0),(23,vi a1)]),sk Tryz.f185 [1,1,1,1,0,1,0,0],[],none⟩],[.ay false (dc tA p.a2),.ay false [vi p.a3,.gi true,.gi true,vi p.a4,vi p.a5],.arr false kW h,.aZ]⟩
abbrev aa_(A:aS)(c:jm):=(A.spl (A.r (A.l c.2.2.1) (Ty.gD kW:iN)) 0 (A.s c.2.2.1 0 (A.mn (A.l c.2.2.1) (A.l (A.r (A.l c.2.2.1) (Ty.gD kW:iN))))))
def al_(A:aS)(c:jm):LT (jm×Int) WQ:=.br (A.cr (A.k qZ c) 0) (.ret ((0,([]:List Int),([]:List iN),0,0),(A.k qZ c))) (.ap (A.and (A.bK (A.l c.2.2.1) (A.l c.2.2.1)) (A.and (A.bU 0 (A.l c.2.2.1)) (A.bU (A.l c.2.2.1) 4398046511104))) (.ao (.c0 ⟨(A.l (aa_ A c)),c,0,0,0⟩ 0 (aa_ A c))))
def Z_(A:aS):WQ->LT (jm×Int) WQ
 | .c0 p a1 h=>.br (A.bD a1 p.a0) (.ap (A.and (A.bU 0 a1) (A.bD a1 (A.l h))) (.ap (A.and (A.bU 0 a1) (A.bD a1 (A.l h))) (.ao (.c0 p (A.b .add .i64 a1 1) (A.set h a1 ((A.k nI (A.n kW h a1:iN).1),(A.n kW h a1:iN).2)))))) (.ret ((p.a2.1,(A.k nI p.a2.2.1),h,p.a2.2.2.2),0))
def Ep:jm:=(0,([]:List Int),([]:List iN),0,0)
def Lv(c:jm):jm×Int:=bif iI c then(c,0) else(Ep,120)
theorem auT{L q:Int}{l:List iN}(x:l.length<=140737488355328)(n:L=(l.length:Int)):∀(j i:Nat),l.length-i=j->i<=l.length->aW (Z_ af) (.ao (.c0 ⟨L,c,q,u,v⟩ (i:Int) l)) ((c.1,c.2.1,l,c.2.2.2),0):=by
 subst n;intro j
 induction j with
 | zero=>
   intro i p o;have:i=l.length:=by omega
   subst this;rw[aB,Z_];exact(ak (by rw[bg];simp)).2 (.ret _)
 | succ j ih=>
   intro i p o;have h:i<l.length:=by omega
   rw[aB,Z_];refine(al (by rw[bg];simp_all)).2 (au.2 ⟨du h,au.2 ⟨du h,?_⟩⟩);have e:(af.n kW l (i:Int):iN)=l[i]:=fL h _;have m:af.set l (i:Int) ((af.k nI (af.n kW l (i:Int):iN).1),(af.n kW l (i:Int):iN).2)=l:=by
    rw[e];show l.set (i:Int).toNat l[i]=l
    simp_all
   rw[m,iC (i:=i) (by omega)]
   grind
theorem Mj{l:List α}{d:α}:af.spl (af.r (af.l l) d) 0 (af.s l 0 (af.mn (af.l l) (af.l (af.r (af.l l) d))))=l:=by
 simp[oB,yv,jX,oR,d_]
theorem aoP:aW (Z_ af) (al_ af c) (Lv c):=by
 unfold al_ aa_ Lv;rw[show af.k qZ c=zH c from rfl,zH];cases hc:iI c
 ·exact(al rfl).2 (.ret _)
 ·refine(ak rfl).2 ?_
  simp[iI,fQ,sK] at hc;have h:af.and (af.bK (af.l c.2.2.1) (af.l c.2.2.1)) (af.and (af.bU 0 (af.l c.2.2.1)) (af.bU (af.l c.2.2.1) 4398046511104))=true:=by
   rw[d_,bd,aC,aC,bl,bl];grind
  refine au.2 ⟨h,?_⟩;exact lW (congrArg (λz:List iN=>LT.ao (WQ.c0 ⟨af.l z,c,0,0,0⟩ 0 z)) Mj) (auT (by omega) rfl c.2.2.1.length 0 rfl (by omega))
def nZ:jm->(jm×Int):=Lv
def arU:aM:=.all [tA] [tA,yI] nZ
theorem aaF:Sd 185 arU:=fa (bp ar dK sl 50 [⟨185,7, [[1,2,5,22,23]]⟩] [] (λA c=>al_ A c) Z_ aiF (kz (fc Tryz.func185 fz) (sc D3 (sc Kk sz))) (λA y=>match y with |.c0 p a1 i=>⟨38,sl,by kernel_rfl⟩) λc j h=>aoP)
theorem dE{b:Int}:af.bK a b=decide (a=b):=by rfl
structure ahD where
 (a0 a2:Int) (a3:List Int) (a4:jm) (a5 a6 a7:Int) (a9:jm) (jd kU a12:Int)
inductive WO where
 | c0 (p:ahD) (a1:Int) (a8:List iN)
noncomputable def aiD:WO->iH
 | .c0 p a1 a8=>⟨[⟨185,44,(en [(1,.ptr 0 0),(2,.ptr 1 0),(5,.own 2),(22,vi p.a0),(23,vi a1)]),sk Tryz.f185 [1,1,1,1,0,1,0,0],[],none⟩,⟨240,42,(en [(1,vi p.a2),(2,.sl yU p.a3),(3,.ptr 3 0),(6,.ptr 4 0)]),(.ops (ow Tryz.f240 [1,0]) ((ow Tryz.f240 [1,0]).toList.drop 1)::sk Tryz.f240 [1,0]),[],none⟩],[.ay false (dc tA p.a4),.ay false [vi p.a5,.gi true,.gi true,vi p.a6,vi p.a7],.arr false kW a8,.ay false (dc tA p.a9),.ay false [vi p.jd,.gi true,.gi true,vi p.kU,vi p.a12],.aZ]⟩
abbrev aa9(A:aS)(c:jm):=(A.spl (A.r (A.l c.2.2.1) (Ty.gD kW:iN)) 0 (A.s c.2.2.1 0 (A.mn (A.l c.2.2.1) (A.l (A.r (A.l c.2.2.1) (Ty.gD kW:iN))))))
def al8(A:aS)(c:jm)(i:Int)(h:List Int):LT (jm×Int) WO:=.br (A.cr (A.k qZ c) 0) (.br (A.cr (A.k qZ c) 0) (.ret ((0,([]:List Int),([]:List iN),0,0),(A.k qZ c))) (.br (A.not (A.k uX (i,0,(A.b .sub .i64 (A.l c.2.2.1) 1)))) (.ret ((0,([]:List Int),([]:List iN),0,0),2)) (.br (A.jw (A.l h) 8) (.ret ((0,([]:List Int),([]:List iN),0,0),3)) (.bT 37 "cni.go:107")))) (.ap (A.and (A.bK (A.l c.2.2.1) (A.l c.2.2.1)) (A.and (A.bU 0 (A.l c.2.2.1)) (A.bU (A.l c.2.2.1) 4398046511104))) (.ao (.c0 ⟨(A.l (aa9 A c)),i,h,c,0,0,0,c,0,0,0⟩ 0 (aa9 A c))))
def U4(A:aS):WO->LT (jm×Int) WO
 | .c0 p a1 a8=>.br (A.bD a1 p.a0) (.ap (A.and (A.bU 0 a1) (A.bD a1 (A.l a8))) (.ap (A.and (A.bU 0 a1) (A.bD a1 (A.l a8))) (.ao (.c0 p (A.b .add .i64 a1 1) (A.set a8 a1 ((A.k nI (A.n kW a8 a1:iN).1),(A.n kW a8 a1:iN).2)))))) (.br (A.not (A.k uX (p.a2,0,(A.b .sub .i64 (A.l p.a9.2.2.1) 1)))) (.ret ((0,([]:List Int),([]:List iN),0,0),2)) (.br (A.jw (A.l p.a3) 8) (.ret ((0,([]:List Int),([]:List iN),0,0),3)) (.ap (A.and (A.bU 0 p.a2) (A.bD p.a2 (A.l a8))) (.ret ((p.a4.1,(A.k nI p.a4.2.1),(A.set a8 p.a2 ((A.k nI p.a3),0)),p.a4.2.2.2),0)))))
def sL(c:jm)(h:Int)(i:List Int):jm×Int:=
 bif iI c then(bif decide (0<=h/\h<=(c.2.2.1.length:Int)-1) then(bif decide (8<(i.length:Int)) then(Ep,3) else((c.1,c.2.1,c.2.2.1.set h.toNat (i,0),c.2.2.2),0)) else(Ep,2)) else(Ep,120)
def auA:jm×Int×List Int->jm×Int:=λ(c,i,h)=>sL c i h
theorem KM(h:iI c=true):4<=c.2.2.1.length/\c.2.2.1.length<=8/\c.2.1.length<=8/\∀x∈c.2.2.1,x.1.length<=8/\0<=x.2/\x.2<=255:=by
 simp[iI,fQ,bG,N0] at h
 grind
theorem Oa(h:iI c=true):af.and (af.bK (af.l c.2.2.1) (af.l c.2.2.1)) (af.and (af.bU 0 (af.l c.2.2.1)) (af.bU (af.l c.2.2.1) 4398046511104))=true:=by
 have:=KM h;rw[d_,bd,aC,aC,bl,bl];grind
theorem OA{l:List iN}(h:i<l.length):af.set l (i:Int) ((af.k nI (af.n kW l (i:Int):iN).1),(af.n kW l (i:Int):iN).2)=l:=by
 rw[show(af.n kW l (i:Int):iN)=l[i] from fL h _];show l.set (i:Int).toNat l[i]=l
 simp_all
theorem auy{L l o p q:Int}{R:jm×Int}(B:c.2.2.1.length<=8)(x:L=(c.2.2.1.length:Int))(y:aW (U4 af) (.ao (.c0 ⟨L,l,h,c,n,o,p,c,q,u,v⟩ (c.2.2.1.length:Int) c.2.2.1)) R):
  ∀(j i:Nat),c.2.2.1.length-i=j->i<=c.2.2.1.length->aW (U4 af) (.ao (.c0 ⟨L,l,h,c,n,o,p,c,q,u,v⟩ (i:Int) c.2.2.1)) R:=by
 subst x;intro j
 induction j with
 | zero=>
   grind
 | succ j ih=>
   intro i A z;have m:i<c.2.2.1.length:=by omega
   rw[aB,U4];refine(al (by rw[bg];simp_all)).2 (au.2 ⟨du m,au.2 ⟨du m,?_⟩⟩);rw[OA m,iC (i:=i) (by omega)]
   grind
theorem auz{j:Int}{i:List Int}:aW (U4 af) (al8 af c j i) (sL c j i):=by
 unfold al8 aa9 sL;rw[show af.k qZ c=zH c from rfl,zH];cases hc:iI c
 ·exact(al rfl).2 ((al rfl).2 (.ret _))
 ·obtain⟨q,m,_,_⟩:=KM hc
  refine(ak rfl).2 (au.2 ⟨Oa hc,lW (congrArg (λz:List iN=>LT.ao (WO.c0 ⟨af.l z,j,i,c,0,0,0,c,0,0,0⟩ 0 z)) Mj) (auy m rfl ?_ c.2.2.1.length 0 rfl (by omega))⟩);rw[aB,U4];have o:af.b .sub .i64 (c.2.2.1.length:Int) 1=(c.2.2.1.length:Int)-1:=by rw[gg,lC (by omega) (by omega)]
  refine(ak (by rw[bg];simp)).2 (?_);simp only[d_,o];refine ja (λh=>?_) λl=>bi (p:=8<(i.length:Int)) rfl (λh=>?_) λn=>au.2 ⟨?_,?_⟩
  ·rw[gI h];exact .ret _
  ·rw[da l,da h];exact .ret _
  ·rw[aC,aV,bl];grind
  ·rw[da l,gI n];exact .ret _
def DF:(jm×Int×List Int)->(jm×Int):=auA
def arQ:aM:=.all [tA,yI,yB] [tA,yI] DF
theorem agQ:Sd 240 arQ:=fa (bp ar dK sl 89 [⟨185,7, [[1,2,5,22,23], [1,2,3,6]]⟩] [] (λA (c,j,i)=>al8 A c j i) U4 aiD (kz (fc Tryz.func240 (fc Tryz.func185 fz)) (sc D3 (sc Kk (sc OI sz)))) (λA y=>match y with |.c0 p a1 l=>⟨86,sl,by kernel_rfl⟩) λ(c,j,i) m h=>auz)
structure ahx where
 (a0 a1 a2 a3 a4 a5 a6 a7:Int)
structure ahy where
 (b0:Int) (b2:jm) (b3 b4 b5 b7 b8 b9:Int)
structure ahz where
 (c0 c2 c3 c4 c5:Int) (c6:List Int) (c7 c8:Int)
inductive WN where
 | c0 (p:ahx)
 | c1 (p:ahy) (b1:Int) (b6:List iN)
 | c2 (p:ahz) (c1:Int) (c9:List iN)
noncomputable def aiA:WN->iH
 | .c0 p=>⟨[⟨151,42,(en [(2,.ptr 0 0),(4,.ptr 1 0),(18,vi p.a0),(19,vi p.a1)]),sk Tryz.f151 [1,1,1,0,1,0,0],[],none⟩],[.ay false [vi p.a2,.gi true,.gi true,vi p.a3,vi p.a4],.ay false [vi p.a5,.gi true,.gi true,vi p.a6,vi p.a7],.aZ]⟩
 | .c1 p b1 h=>⟨[⟨185,44,(en [(1,.ptr 0 0),(2,.ptr 1 0),(5,.own 2),(22,vi p.b0),(23,vi b1)]),sk Tryz.f185 [1,1,1,1,0,1,0,0],[],none⟩,⟨151,42,(en [(2,.ptr 3 0)]),(.ops (ow Tryz.f151 [1,0]) ((ow Tryz.f151 [1,0]).toList.drop 1)::sk Tryz.f151 [1,0]),[],none⟩],[.ay false (dc tA p.b2),.ay false [vi p.b3,.gi true,.gi true,vi p.b4,vi p.b5],.arr false kW h,.ay false [vi p.b7,.gi true,.gi true,vi p.b8,vi p.b9],.aZ]⟩
 | .c2 p c1 c9=>⟨[⟨151,42,(en [(2,.ptr 0 0),(4,.ptr 1 0),(18,vi p.c0),(19,vi c1)]),sk Tryz.f151 [1,1,1,0,1,0,0],[],none⟩],[.ay false [vi p.c2,.gi true,.gi true,vi p.c3,vi p.c4],.ay false [vi p.c5,.sl yU p.c6,.own 2,vi p.c7,vi p.c8],.arr false kW c9,.aZ]⟩
abbrev aa8(A:aS)(c:jm):=(A.spl (A.r (A.l c.2.2.1) (Ty.gD kW:iN)) 0 (A.s c.2.2.1 0 (A.mn (A.l c.2.2.1) (A.l (A.r (A.l c.2.2.1) (Ty.gD kW:iN))))))
def al5(A:aS)(c:jm):LT (jm×Int) WN:=.br (A.cr (A.k qZ c) 0) (.br (A.cr (A.k qZ c) 0) (.ret ((0,([]:List Int),([]:List iN),0,0),(A.k qZ c))) (.ao (.c0 ⟨0,0,0,0,0,0,0,0⟩))) (.ap (A.and (A.bK (A.l c.2.2.1) (A.l c.2.2.1)) (A.and (A.bU 0 (A.l c.2.2.1)) (A.bU (A.l c.2.2.1) 4398046511104))) (.ao (.c1 ⟨(A.l (aa8 A c)),c,0,0,0,0,0,0⟩ 0 (aa8 A c))))
def L5(A:aS):WN->LT (jm×Int) WN
 | .c0 p=>.br (A.bD p.a1 p.a0) (.bT 37 "cni.go:118") (.ret ((p.a5,([]:List Int),([]:List iN),(A.mx (A.b .sub .i64 p.a6 1) 0),p.a7),0))
 | .c1 p b1 h=>.br (A.bD b1 p.b0) (.ap (A.and (A.bU 0 b1) (A.bD b1 (A.l h))) (.ap (A.and (A.bU 0 b1) (A.bD b1 (A.l h))) (.ao (.c1 p (A.b .add .i64 b1 1) (A.set h b1 ((A.k nI (A.n kW h b1:iN).1),(A.n kW h b1:iN).2)))))) (.ao (.c2 ⟨(A.l h),p.b7,p.b8,p.b9,p.b2.1,(A.k nI p.b2.2.1),p.b2.2.2.2.1,p.b2.2.2.2.2⟩ 0 h))
 | .c2 p c1 c9=>.br (A.bD c1 p.c0) (.ap (A.and (A.bU 0 c1) (A.bD c1 (A.l c9))) (.ap (A.and (A.bU 0 c1) (A.bD c1 (A.l c9))) (.ao (.c2 p (A.b .add .i64 c1 1) (A.set c9 c1 ((A.n kW c9 c1:iN).1,(A.mn (A.b .add .i64 (A.n kW c9 c1:iN).2 1) 255))))))) (.ret ((p.c5,p.c6,c9,(A.mx (A.b .sub .i64 p.c7 1) 0),p.c8),0))
def KE(m:iN):iN:=(m.1,af.mn (af.b .add .i64 m.2 1) 255)
def I9(c:jm):jm×Int:=bif iI c then((c.1,c.2.1,c.2.2.1.map KE,af.mx (af.b .sub .i64 c.2.2.2.1 1) 0,c.2.2.2.2),0) else(Ep,120)
theorem ah8{f:iN->iN}{l:List iN}(m:i<l.length):(af.n kW ((l.take i).map f++l.drop i) (i:Int):iN)=l[i]/\af.set ((l.take i).map f++l.drop i) (i:Int) (f l[i])=(l.take (i+1)).map f++l.drop (i+1):=by
 have h:i<((l.take i).map f++l.drop i).length:=by grind
 have j:((l.take i).map f).length=i:=by grind
 constructor
 ·refine(fL h _).trans ?_
  simp_all
 ·show List.set _ (i:Int).toNat _=_
  rw[rO,List.set_append_right _ _ (by rw[j];exact ah _),j,kx,AB m,mK,bf m,fD,cX];rfl
theorem au1{L l o p q:Int}{R:jm×Int}(z:c.2.2.1.length<=8)(u:L=(c.2.2.1.length:Int))(v:aW (L5 af) (.ao (.c1 ⟨L,c,l,m,n,o,p,q⟩ (c.2.2.1.length:Int) c.2.2.1)) R):
  ∀(j i:Nat),c.2.2.1.length-i=j->i<=c.2.2.1.length->aW (L5 af) (.ao (.c1 ⟨L,c,l,m,n,o,p,q⟩ (i:Int) c.2.2.1)) R:=by
 subst u;intro j
 induction j with
 | zero=>
   grind
 | succ j ih=>
   intro i y x;have h:i<c.2.2.1.length:=by omega
   rw[aB,L5];refine(al (by rw[bg];simp_all)).2 (au.2 ⟨du h,au.2 ⟨du h,?_⟩⟩);rw[OA h,iC (i:=i) (by omega)]
   grind
theorem au2{l:List iN}{L x y id h:Int}{out:List Int}(z:l.length<=8)(p:L=(l.length:Int)):∀(j i:Nat),l.length-i=j->i<=l.length->
  aW (L5 af) (.ao (.c2 ⟨L,v,x,y,id,out,h,m⟩ (i:Int) ((l.take i).map KE++l.drop i))) ((id,out,l.map KE,af.mx (af.b .sub .i64 h 1) 0,m),0):=by
 subst p;intro j
 induction j with
 | zero=>
   intro i u q;have:i=l.length:=by omega
   subst this;rw[aB,L5,eB,cK,aI];exact(ak (by rw[bg];simp)).2 (.ret _)
 | succ j ih=>
   intro i u q;have n:i<l.length:=by omega
   have o:i<((l.take i).map KE++l.drop i).length:=by simp_all
   obtain⟨a1,a2⟩:=ah8 (f:=KE) n;rw[aB,L5];refine(al (by rw[bg];simp_all)).2 (au.2 ⟨du o,au.2 ⟨du o,?_⟩⟩);rw[a1,iC (i:=i) (by omega)];rw[show(l[i].1,af.mn (af.b .add .i64 l[i].2 1) 255)=KE l[i] from rfl,a2]
   grind
theorem au3:aW (L5 af) (al5 af c) (I9 c):=by
 unfold al5 aa8 I9;rw[show af.k qZ c=zH c from rfl,zH];cases hc:iI c
 ·exact(al rfl).2 ((al rfl).2 (.ret _))
 ·obtain⟨i,h,_,_⟩:=KM hc
  refine(ak rfl).2 (au.2 ⟨Oa hc,lW (congrArg (λz:List iN=>LT.ao (WN.c1 ⟨af.l z,c,0,0,0,0,0,0⟩ 0 z)) Mj) (au1 h rfl ?_ c.2.2.1.length 0 rfl (by omega))⟩);rw[aB,L5];exact(ak (by rw[bg];simp)).2 (au2 (l:=c.2.2.1) (out:=c.2.1) h rfl c.2.2.1.length 0 rfl (by omega))
def X5:jm->(jm×Int):=I9
def arL:aM:=.all [tA] [tA,yI] X5
theorem apX:Sd 151 arL:=fa (bp ar dK sl 68 [⟨151,5, [[2,4,18,19]]⟩,⟨185,7, [[1,2,5,22,23], [2]]⟩] [] (λA c=>al5 A c) L5 aiA (kz (fc Tryz.func151 (fc Tryz.func185 fz)) (sc D3 (sc Kk sz))) (λA y=>match y with |.c0 p=>⟨28,sl,by kernel_rfl⟩|.c1 p b1 i=>⟨56,sl,by kernel_rfl⟩|.c2 p c1 c9=>⟨41,sl,by kernel_rfl⟩) λc j h=>au3)
inductive acE where
 | c0 (a0:Int) (a1:List iN)
noncomputable def aiE:acE->iH
 | .c0 a0 a1=>⟨[⟨181,48,(en [(7,.own 0),(8,vi a0)]),sk Tryz.f181 [1,1,1,1,1,1,0,0,0],[],none⟩],[.arr false kW a1,.aZ]⟩
abbrev Hz(A:aS)(i:List iN)(h:Int):=(A.v .i64 (A.b .mul .u64 (A.v .u64 (A.l i)) (A.v .u64 h)))
abbrev ag9(A:aS)(i:List iN)(h:Int):=(A.b .add .u64 (A.b .mul .u64 (A.b .shr .u64 (A.v .u64 (A.l i)) 32) (A.b .and .u64 (A.v .u64 h) 4294967295)) (A.b .shr .u64 (A.b .mul .u64 (A.b .and .u64 (A.v .u64 (A.l i)) 4294967295) (A.b .and .u64 (A.v .u64 h) 4294967295)) 32))
def ata(A:aS)(i:List iN)(h:Int):LT (List iN) acE:=.br (A.bD h 0) (.bT 117 "slices.go:516") (.br (A.jw (A.b .add .u64 (A.b .add .u64 (A.b .mul .u64 (A.b .shr .u64 (A.v .u64 (A.l i)) 32) (A.b .shr .u64 (A.v .u64 h) 32)) (A.b .shr .u64 (ag9 A i h) 32)) (A.b .shr .u64 (A.b .add .u64 (A.b .and .u64 (ag9 A i h) 4294967295) (A.b .mul .u64 (A.b .and .u64 (A.v .u64 (A.l i)) 4294967295) (A.b .shr .u64 (A.v .u64 h) 32))) 32)) 0) (.bT 117 "slices.go:522") (.br (A.jw (A.b .mul .u64 (A.v .u64 (A.l i)) (A.v .u64 h)) 9223372036854775807) (.bT 117 "slices.go:522") (.ap (A.and (A.bK (Hz A i h) (Hz A i h)) (A.and (A.bU 0 (Hz A i h)) (A.bU (Hz A i h) 4398046511104))) (.ao (.c0 (A.mn (A.l i) (A.l (A.r (Hz A i h) (Ty.gD kW:iN)))) (A.spl (A.r (Hz A i h) (Ty.gD kW:iN)) 0 (A.s i 0 (A.mn (A.l i) (A.l (A.r (Hz A i h) (Ty.gD kW:iN)))))))))))
def apf(A:aS):acE->LT (List iN) acE
 | .c0 a0 a1=>.br (A.bD a0 (A.l a1)) (.ap (A.and (A.bU 0 a0) (A.and (A.bU a0 (A.l a1)) (A.bU (A.l a1) (A.l a1)))) (.ap (A.and (A.bU 0 0) (A.and (A.bU 0 a0) (A.bU a0 (A.l a1)))) (.ao (.c0 (A.b .add .i64 a0 (A.mn (A.l (A.s a1 0 (A.b .add .i64 0 (A.b .sub .i64 a0 0)))) (A.b .sub .i64 (A.l a1) a0))) (A.spl a1 a0 (A.s (A.s a1 0 (A.b .add .i64 0 (A.b .sub .i64 a0 0))) 0 (A.mn (A.l (A.s a1 0 (A.b .add .i64 0 (A.b .sub .i64 a0 0)))) (A.b .sub .i64 (A.l a1) a0)))))))) (.ret a1)
def GB:iN:=(([]:List Int),255)
theorem auZ{l:List iN}(h:(decide (l=[(([]:List Int),255)])&&decide (4<=n)&&decide (n<=8))=true):aW (apf af) (ata af l n) (List.replicate n.toNat GB):=by
 simp at h;obtain⟨⟨rfl,j⟩,m⟩:=h;have i:n=4\/n=5\/n=6\/n=7\/n=8:=by omega
 rcases i with rfl|rfl|rfl|rfl|rfl <;>
  (refine(ak (by rfl)).2 ((ak (by rfl)).2 ((ak (by rfl)).2 (au.2 ⟨by rfl,?_⟩)))
   refine aB.2 ((al (by rfl)).2 (au.2 ⟨by rfl,au.2 ⟨by rfl,(aB.2 ?_)⟩⟩));refine(al (by rfl)).2 (au.2 ⟨by rfl,au.2 ⟨by rfl,(aB.2 ?_)⟩⟩))
 ·exact(ak (by rfl)).2 (aQ (by rfl) (.ret _))
 all_goals exact(al (by rfl)).2 (au.2 ⟨by rfl,au.2 ⟨by rfl,(aB.2 ((ak (by rfl)).2 (aQ (by rfl) (.ret _))))⟩⟩)
def af5:(List iN×Int)->(List iN):=λ(_,n)=>List.replicate n.toNat (([]:List Int),255)
def Qn:(List iN×Int)->Bool:=λ(l,n)=>decide (l=[(([]:List Int),255)])&&decide (4<=n)&&decide (n<=8)
def arT:aM:=⟨[(.slice kW),yI], [(.slice kW)],Qn,af5,false⟩
theorem ap0:Sd 181 arT:=bp ar dK sl 175 [⟨181,8, [[7,8]]⟩] [] (λA (j,i)=>ata A j i) apf aiE (kz (fc Tryz.func181 (fc Tryz.func172 (fc Tryz.func225 fz))) sz) (λA y=>match y with |.c0 m a1=>⟨30,sl,by kernel_rfl⟩) λ((j,i):List iN×Int) l h=>auZ l
def alV(A:aS)(id:Int)(n:Int):LT (jm×Int) Empty:=.br (A.not (A.k uX (n,4,8))) (.ret ((0,([]:List Int),([]:List iN),0,0),120)) (.br (A.not (A.k uX (id,0,(A.b .sub .i64 n 1)))) (.ret ((0,([]:List Int),([]:List iN),0,0),120)) (.ap (A.k Qn (([(([]:List Int),255)]:List iN),n)) (.ret ((id,([]:List Int),(A.k af5 (([(([]:List Int),255)]:List iN),n)),4,(-1)),0))))
def Zk(id n:Int):jm×Int:=bif decide (4<=n/\n<=8) then(bif decide (0<=id/\id<=n-1) then((id,([]:List Int),List.replicate n.toNat GB,4,(-1)),0) else(Ep,120)) else(Ep,120)
def auR:Int×Int->jm×Int:=λ(id,n)=>Zk id n
theorem Zj{id:Int}:aW Empty.elim (alV af id n) (Zk id n):=by
 unfold alV Zk;refine ja (λh=>?_) λi=>?_
 ·exact aQ (by rw[gI h];rfl) (.ret _)
 ·have e:af.b .sub .i64 n 1=n-1:=by rw[gg,lC (by omega) (by omega)]
  rw[e];refine ja (λh=>?_) λj=>au.2 ⟨?_,?_⟩
  ·exact aQ (by rw[da i,gI h];rfl) (.ret _)
  ·rw[bo,Qn,da i.1,da i.2];rfl
  ·exact aQ (by rw[da i,da j];rfl) (.ret _)
def R7:(Int×Int)->(jm×Int):=auR
def ary:aM:=.all [yI,yI] [tA,yI] R7
theorem apP:Sd 124 ary:=fa (b_ ar dK sl 38 [] (λA (id,n)=>alV A id n) (kz (fc Tryz.func124 fz) (sc OI (sc ap0 sz))) λ(id,n) i h=>Zj)
def atc(A:aS)(c:jm):LT Bool Empty:=.br (A.bK (A.k qZ c) 0) (.ret (A.jw c.2.2.2.1 0)) (.ret false)
def X8:jm->Bool:=λc=>(atc af c).val (Ty.aR [.bool])
def ar4:aM:=.all [tA] [.bool] X8
theorem ap5:Sd 313 ar4:=fa (aP ar dK sl 23 [] (λA c=>atc A c) (kz (fc Tryz.func313 fz) (sc Kk sz)) (λ_ _ _=>LT.bE (by kernel_rfl)))
def amc(A:aS)(c:jm)(h:Int):LT (List Int×Int) Empty:=.br (A.cr (A.k qZ c) 0) (.ret (([]:List Int),(A.k qZ c))) (.br (A.not (A.k uX (h,0,8))) (.ret (([]:List Int),2)) (.ap (A.and (A.bK h h) (A.and (A.bU 0 h) (A.bU h 140737488355328))) (.br (A.k X8 c) (.ret ((A.spl (A.r h (0:Int)) 0 (A.s c.2.1 0 (A.mn (A.l c.2.1) (A.l (A.r h (0:Int)))))),0)) (.ret ((A.r h (0:Int)),0)))))
def Ha(c:jm)(k:Int):List Int×Int:=bif iI c then(bif decide (0<=k/\k<=8) then((bif decide (0<c.2.2.2.1) then c.2.1.take k.toNat++List.replicate (k.toNat-c.2.1.length) 0 else List.replicate k.toNat 0),0) else([],2)) else([],120)
def au7:jm×Int->List Int×Int:=λ(c,k)=>Ha c k
theorem ae0{k:Int}(h:0<=k/\k<=8):af.and (af.bK k k) (af.and (af.bU 0 k) (af.bU k 140737488355328))=true:=by
 rw[bd,aC,aC,bl,bl];grind
theorem au6{k:Int}:aW Empty.elim (amc af c k) (Ha c k):=by
 unfold amc Ha;rw[show af.k qZ c=zH c from rfl,show af.k X8 c=(bif zH c==0 then decide (0<c.2.2.2.1) else false) from rfl,zH];cases hc:iI c
 ·exact(al rfl).2 (.ret _)
 ·refine(ak rfl).2 (ja (λh=>?_) λh=>au.2 ⟨ae0 h,bi (p:=0<c.2.2.2.1) rfl (λi=>?_) λi=>?_⟩)
  ·exact aQ (by grind) (.ret _)
  ·refine aQ ?_ (.ret _)
   simp[oB,yv,jX,oR,d_,Int.toNat_zero,mT,jW,kH]
   grind
  ·exact aQ (by rw[da h,gI i];rfl) (.ret _)
def X6:(jm×Int)->(List Int×Int):=au7
def arX:aM:=.all [tA,yI] [yB,yI] X6
theorem ap2:Sd 271 arX:=fa (b_ ar dK sl 60 [] (λA (c,i)=>amc A c i) (kz (fc Tryz.func271 fz) (sc Kk (sc OI (sc ap5 sz)))) λ(c,i) j h=>au6)
def alX(A:aS)(c:jm)(h:List Int):LT (jm×Int) Empty:=.br (A.cr (A.k nZ c).2 0) (.ret ((0,([]:List Int),([]:List iN),0,0),(A.k nZ c).2)) (.br (A.jw (A.l h) 8) (.ret ((0,([]:List Int),([]:List iN),0,0),3)) (.ret (((A.k nZ c).1.1,(A.k nI h),(A.k nZ c).1.2.2),0)))
def VC(c:jm)(d:List Int):jm×Int:=bif iI c then(bif decide (8<(d.length:Int)) then(Ep,3) else((c.1,d,c.2.2),0)) else(Ep,120)
def wrS:jm×List Int->jm×Int:=λ(c,d)=>VC c d
theorem wr1{d:List Int}:aW Empty.elim (alX af c d) (VC c d):=by
 unfold alX VC;rw[show af.k nZ c=Lv c from rfl,Lv];cases iI c
 ·exact(al rfl).2 (.ret _)
 ·refine(ak rfl).2 (bi (p:=8<(d.length:Int)) rfl (λh=>?_) λh=>?_)
  ·exact aQ (by rw[da h];rfl) (.ret _)
  ·exact aQ (by rw[gI h];rfl) (.ret _)
def FY:(jm×List Int)->(jm×Int):=wrS
def arC:aM:=.all [tA,yB] [tA,yI] FY
theorem agM:Sd 126 arC:=fa (b_ ar dK sl 55 [] (λA (c,i)=>alX A c i) (kz (fc Tryz.func126 fz) (sc D3 (sc aaF sz))) λ(c,i) j h=>wr1)
def alY(A:aS)(c:jm):LT (jm×Int) Empty:=.br (A.bK (A.k nZ c).2 0) (.ret (((A.k nZ c).1.1,(A.k nZ c).1.2.1,(A.k nZ c).1.2.2.1,4,(A.k nZ c).1.2.2.2.2),(A.k nZ c).2)) (.ret (A.k nZ c))
def btS:jm->jm×Int:=λc=>bif iI c then((c.1,c.2.1,c.2.2.1,4,c.2.2.2.2),0) else(Ep,120)
theorem bt1:aW Empty.elim (alY af c) (btS c):=by
 unfold alY btS;rw[show af.k nZ c=Lv c from rfl,Lv];cases iI c
 ·exact(ak rfl).2 (.ret _)
 ·exact(al rfl).2 (.ret _)
def R9:jm->(jm×Int):=btS
def arD:aM:=.all [tA] [tA,yI] R9
theorem apQ:Sd 167 arD:=fa (b_ ar dK sl 41 [] (λA c=>alY A c) (kz (fc Tryz.func167 fz) (sc aaF sz)) λc i h=>bt1)
def alZ(A:aS)(c:jm)(h:Int):LT (jm×Int) Empty:=.br (A.cr (A.k nZ c).2 0) (.ret ((0,([]:List Int),([]:List iN),0,0),(A.k nZ c).2)) (.br (A.not (A.k uX (h,(-1),3))) (.ret ((0,([]:List Int),([]:List iN),0,0),2)) (.ret (((A.k nZ c).1.1,(A.k nZ c).1.2.1,(A.k nZ c).1.2.2.1,(A.k nZ c).1.2.2.2.1,h),0)))
def Iz(c:jm)(m:Int):jm×Int:=bif iI c then(bif decide (-1<=m/\m<=3) then((c.1,c.2.1,c.2.2.1,c.2.2.2.1,m),0) else(Ep,2)) else(Ep,120)
def aur:jm×Int->jm×Int:=λ(c,m)=>Iz c m
theorem auq:aW Empty.elim (alZ af c m) (Iz c m):=by
 unfold alZ Iz;rw[show af.k nZ c=Lv c from rfl,Lv];cases iI c
 ·exact(al rfl).2 (.ret _)
 ·refine(ak rfl).2 (ja (λh=>?_) λh=>?_)
  ·exact aQ (by rw[gI h];rfl) (.ret _)
  ·exact aQ (by simp_all) (.ret _)
def R_:(jm×Int)->(jm×Int):=aur
def arE:aM:=.all [tA,yI] [tA,yI] R_
theorem apR:Sd 168 arE:=fa (b_ ar dK sl 54 [] (λA (c,i)=>alZ A c i) (kz (fc Tryz.func168 fz) (sc OI (sc aaF sz))) λ(c,i) j h=>auq)
end
end Go.Ev.M
