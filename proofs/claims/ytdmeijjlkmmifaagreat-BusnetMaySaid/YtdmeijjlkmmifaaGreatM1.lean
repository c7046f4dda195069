/-
  PROVED: what functions of the program compute, part 1. Conditions: none.
-/
import Derived.Test.YtdmeijjlkmmifaaGreatTy
import Derived.Test.YtdmeijjlkmmifaaGreatPl
import Derived.Shelf.Bytes.SlClone
set_option linter.unusedVariables false
set_option linter.unusedSimpArgs false
namespace Go.Ev.M
open Go.Proofs Go.Proofs.Tryz
set_option maxRecDepth 100000
open Go.Ev.Pl
noncomputable section
theorem STD:(∀b x y:Bool,(bif b then x else y)=true↔(b=true->x=true)/\(b=false->y=true))/\(∀a b:Int,af.c .eql a b=(a==b))/\(∀a b:Int,af.c .neq a b=(a != b))/\(∀a b:Int,af.c .lss a b=decide (a<b))/\(∀a b:Int,af.c .leq a b=decide (a<=b))/\(∀a b:Int,af.c .gtr a b=decide (b<a))/\(∀a b:Int,af.c .geq a b=decide (b<=a))/\(∀x y:Bool,af.and x y=(x&&y))/\(∀x:Bool,af.not x=!x)/\(∀x y:Bool,af.q x y=(x==y))/\(∀(α β:Type)(f:α->β)(x:α),af.k f x=f x)/\(∀k (a b:Int),af.b .add k a b=k.wrap (a+b))/\(∀k (a b:Int),af.b .sub k a b=k.wrap (a-b))/\(∀k (a:Int),af.v k a=k.wrap a)/\(∀(α:Type)(l:List α),af.l l=(l.length:Int))/\(∀(α:Type)(x:α),tt x=true)/\(∀a b:Bool,((a&&b)=true)=(a=true/\b=true))/\(∀a b:Bool,((a||b)=true)=(a=true\/b=true))/\(∀a b:Bool,((a&&b)=false)↔(a=false\/b=false))/\(∀a b:Bool,((a||b)=false)↔(a=false/\b=false))/\(∀b:Bool,((!b)=true)=(b=false))/\(∀b:Bool,((!b)=false)=(b=true))/\(∀(p:Prop)[Decidable p],(decide p=true)=p)/\(∀(p:Prop)[Decidable p],(decide p=false)↔¬p):=⟨λ_ _ _=>Fp,λ_ _=>rfl,λ_ _=>rfl,λ_ _=>rfl,λ_ _=>rfl,λ_ _=>rfl,λ_ _=>rfl,λ_ _=>rfl,λ_=>rfl,λ_ _=>rfl,λ_ _ _ _=>rfl,λ_ _ _=>rfl,λ_ _ _=>rfl,λ_ _=>rfl,λ_ _=>rfl,λ_ _=>rfl,λ_ _=>Bool.and_eq_true ..,λ_ _=>Bool.or_eq_true ..,λ_ _=>Bool.and_eq_false_iff,λ_ _=>Bool.or_eq_false_iff,λ_=>by simp,λ_=>by simp,λ_ _=>decide_eq_true_eq,λ_ _=>decide_eq_false_iff_not⟩
theorem QT{i:Int}(h:0<=i)(j:i<=4611686018427387904):af.b .quo .i64 i 8=((i.toNat/8:Nat):Int):=by
 rw[ET,iV h,lg (by omega) (by omega)];omega
theorem QV{i:Int}(h:0<=i):af.b .rem .i64 i 8=((i.toNat%8:Nat):Int):=by
 rw[Mv,iW h];omega
variable{b:List Int}{n:Int}
theorem sV(h:Ty.has (.struct [(.int .i64),(.slice (.int .u8))]) (n,b)):(-9223372036854775808<=n/\n<=9223372036854775807)/\b.length<=gy/\gz b:=by
 exact⟨h.1,h.2.1,λx i=>h.2.2 x i⟩
theorem mP(h:Ty.has (.struct [(.int .i64),(.slice (.int .u8))]) (n,b)):b.length<=140737488355328:=(sV h).2.1
theorem Y2{i:Int}(h:Ty.jj [(.slice (.int .u8)),(.int .i64)] (b,i)):b.length<=140737488355328:=by
 exact h.1.1
def al9(A:aU)(n:Int):LT Int Empty:=.ret (A.b .quo .i64 (A.b .add .i64 n 7) 8)
def jr:Int->Int:=λn=>(al9 af n).val (Ty.aS [yI])
def arY:aK:=.all [yI] [yI] jr
theorem TU:Sd 320 arY:=fa (aR ap dE sl 17 [] (λA n=>al9 A n) (kz (fc func320 fz) sz))
def abv(A:aU)(i:Int):LT Int Empty:=.ar (A.bU 0 (A.b .rem .i64 i 8)) (.ret (A.b .shr .u8 128 (A.b .rem .i64 i 8)))
def DO:Int->Int:=λi=>(abv af i).val (Ty.aS [yU])
def xO:Int->Bool:=λi=>decide (0<=i)
def asi:aK:=⟨[yI], [yU],xO,DO,false⟩
theorem TY:Sd 328 asi:=aR ap dE sl 17 [] (λA i=>abv A i) (kz (fc func328 fz) sz) (λ(i:Int) j h=>by
 show(abv af i).pre=true;simp only[abv,LT.pre,STD,bne_iff_ne,beq_iff_eq,bne_eq_false_iff_eq,beq_eq_false_iff_ne];simp only[xO,rR] at j;rw[QV j];exact⟨by omega,trivial⟩)
theorem u6(h:0<=n)(i:n<=4611686018427387000):jr n=(((n.toNat+7)/8:Nat):Int):=by
 simp[jr,al9,LT.val];rw[gp,lg (by omega) (by omega),QT (by omega) (by omega)];omega
theorem Zu:∀k:Fin 8,af.b .shr .u8 128 (k.val:Int)=((128 >>> k.val:Nat):Int):=by decide +kernel
theorem NE{i:Int}(h:0<=i):DO i=((128 >>> (i.toNat%8):Nat):Int):=by
 simp[DO,abv];rw[QV h];exact Zu ⟨i.toNat%8,kT _ (by decide)⟩
theorem adK:∀c:Fin 256,∀k:Fin 8,(af.b .and .u8 (c.val:Int) ((128 >>> k.val:Nat):Int) != 0)=c.val.testBit (7-k.val):=by decide +kernel
theorem Lx{l:List Int}(h:gz l)(i:Nat):0<=l.getD i 0/\l.getD i 0<=255:=by
 rw[xB];by_cases j:i<l.length
 ·rw[EK j];exact h _ (cN j)
 simp_all
theorem aeh{l:List Int}(h:gz l)(i:Nat):(af.b .and .u8 (l.getD (i/8) 0) ((128 >>> (i%8):Nat):Int) != 0)=jo l i:=by
 have m:=Lx h (i/8);have j:=adK ⟨(l.getD (i/8) 0).toNat,by omega⟩ ⟨i%8,kT _ (by decide)⟩;rw[show(((l.getD (i/8) 0).toNat:Nat):Int)=l.getD (i/8) 0 from by omega] at j;exact j
def abu(A:aU)(j:Int)(h:List Int)(i:Int):LT Bool Empty:=.ar (A.and (A.bU 0 (A.b .quo .i64 i 8)) (A.bG (A.b .quo .i64 i 8) (A.l h))) (.ar (A.k xO i) (.ret (A.cu (A.b .and .u8 (A.n yU h (A.b .quo .i64 i 8):Int) (A.k DO i)) 0)))
def A7:((Int×List Int)×Int)->Bool:=λ((j,h),i)=>(abu af j h i).val (Ty.aS [.bool])
def xN:((Int×List Int)×Int)->Bool:=λ((n,b),i)=>decide (0<=i)&&decide (i<8*(b.length:Int))
def asa:aK:=⟨[(.struct [yI,yB]),yI], [.bool],xN,A7,false⟩
theorem aa2:Sd 331 asa:=aR ap dE sl 25 [] (λA ((l,j),i)=>abu A l j i) (kz (fc func331 fz) (sc TY sz)) (λ(((l,j),i):(Int×List Int)×Int) m h=>by
 show(abu af l j i).pre=true;simp only[xN,fv,rR] at m;have n:=mP h.1;simp only[abu,LT.pre,bo,bl,aB,aN,xO,fv,rR,qT];rw[QT m.1 (by omega)];refine⟨⟨by omega,by omega⟩,m.1,trivial⟩)
theorem FJ{i:Int}(j:gz b)(h:0<=i)(l:i<8*(b.length:Int))(m:b.length<=140737488355328):A7 ((n,b),i)=jo b i.toNat:=by
 simp[A7,abu,bo];rw[QT h (by omega),NE h];exact aeh j i.toNat
def t99(A:aU)(i:Int)(h:List Int):LT Int Empty:=.br (A.bG i 0) (.ret 10) (.br (A.ji i 4096) (.ret 10) (.br (A.cu (A.l h) (A.k jr i)) (.ret 10) (.br (A.cu (A.b .rem .i64 i 8) 0) (.ar (A.and (A.bU 0 (A.b .sub .i64 (A.l h) 1)) (A.bG (A.b .sub .i64 (A.l h) 1) (A.l h))) (.ar (A.bU 0 (A.b .rem .i64 i 8)) (.br (A.cu (A.b .and .u8 (A.n yU h (A.b .sub .i64 (A.l h) 1):Int) (A.b .shr .u8 255 (A.b .rem .i64 i 8))) 0) (.ret 10) (.ret 0)))) (.ret 0))))
def rT:((Int×List Int))->Int:=λ(i,h)=>(t99 af i h).val (Ty.aS [yI])
def awZ:aK:=.all [(.struct [yI,yB])] [yI] rT
theorem Mr:Sd 285 awZ:=fa (aR ap dE sl 67 [] (λA (j,i)=>t99 A j i) (kz (fc func285 fz) (sc TU sz)) (λ((j,i):(Int×List Int)) q h=>by
 show(t99 af j i).pre=true;have p:=mP h;simp only[t99,LT.pre,bo,cq,aN,bY,aB,bl,acr,cY,qT,Fp,rR,decide_eq_false_iff_not,fv,bne_iff_ne,bne_eq_false_iff_eq,ne_eq,implies_true,and_true,true_and];intro n o l m;rw[u6 (by omega) (by omega)] at l;rw[QV (by omega)] at m;rw[fO,lg (by omega) (by omega),QV (by omega)];omega))
theorem aar:∀c:Fin 256,∀r:Fin 8,(af.b .and .u8 (c.val:Int) (af.b .shr .u8 255 (r.val:Int)) != 0)=!((List.range 8).all λk=>decide (k<r.val) || !c.val.testBit (7-k)):=by decide +kernel
theorem UM(m:gz b)(z:b.length<=140737488355328):rT (n,b)=0↔0<=n/\n<=4096/\okB n.toNat b:=by
 simp[rT,t99,LT.val,bo,cq,aN,bY];by_cases q:n<0
 ·grind
 ·simp only[q]
  by_cases r:4096<n
  ·grind
  ·simp[r,decide_false,cond_false]
   rw[u6 (by omega) (by omega)];have j:af.l b=(b.length:Int):=rfl;rw[j];by_cases l:b.length=(n.toNat+7)/8
   ·rw[show((b.length:Int) != (((n.toNat+7)/8:Nat):Int))=false from by simp_all,cond_false,QV (by omega)]
    by_cases t:n.toNat%8=0
    ·rw[t]
     simp;exact⟨by omega,by omega,l,m,λi u v=>by omega⟩
    ·rw[show(((n.toNat%8:Nat):Int) != 0)=true from by grind,cond_true]
     have e:(af.n (.int .u8) b (af.b .sub .i64 (b.length:Int) 1):Int)=b.getD (n.toNat/8) 0:=by
      show b.getD (af.b .sub .i64 (b.length:Int) 1).toNat 0=_;rw[fO,lg (by omega) (by omega)];congr 1;omega
     have A:=Lx m (n.toNat/8);have o:=aar ⟨(b.getD (n.toNat/8) 0).toNat,by omega⟩ ⟨n.toNat%8,kT _ (by decide)⟩;rw[show(((b.getD (n.toNat/8) 0).toNat:Nat):Int)=b.getD (n.toNat/8) 0 from by omega] at o;refine Iff.trans (b:=((List.range 8).all λk=>decide (k<n.toNat%8) || !(b.getD (n.toNat/8) 0).toNat.testBit (7-k))=true) ?_ ?_
     ·grind
     ·rw[bH]
      constructor
      ·intro h
       refine⟨by omega,by omega,l,m,λi u v=>?_⟩;have x:i/8=n.toNat/8:=by omega
       rw[jo,x]
       grind
      ·intro ⟨_,_,_,_,h⟩ k p
       have p:=gm.1 p;by_cases y:k<n.toNat%8
       ·grind
       ·have:=h (8*(n.toNat/8)+k) (by omega) (by omega)
        rw[jo,show(8*(n.toNat/8)+k)/8=n.toNat/8 from by omega,show(8*(n.toNat/8)+k)%8=k from by omega] at this
        simp_all
   ·rw[show((b.length:Int) != (((n.toNat+7)/8:Nat):Int))=true from bne_iff_ne.2 (by omega),cond_true]
    constructor
    ·omega
    ·intro h;exact absurd h.2.2.1 l
theorem P4{x:Int×List Int}:rT x=0\/rT x=10:=by
 exact LT.qV (p:=λy=>y=0\/y=10) (.inl rfl) (by simp[t99,LT.all])
theorem Bg(h:gz b)(l:b.length<=140737488355328):rT (n,b)=bif jg (n,b) then 0 else 10:=by
 have i:=UM (n:=n) h l;rw[<-sJ h] at i;rcases P4 (x:=(n,b)) with j|j
 all_goals simp_all
variable{i:Nat}
theorem h_(h:i<4611686018427387904):af.b .add .i64 (i:Int) 1=((i+1:Nat):Int):=by
 rw[gp,lg (by omega) (by omega)];rfl
theorem jy{j:Nat}(h:i+j<4611686018427387904):af.b .add .i64 (i:Int) (j:Int)=((i+j:Nat):Int):=by
 rw[gp,lg (by omega) (by omega)];rfl
theorem bf{j:Nat}:af.bG (i:Int) (j:Int)=decide (i<j):=by
 rw[aN];simp_all
theorem uh{j:Nat}:af.bU (i:Int) (j:Int)=decide (i<=j):=by
 rw[aB];simp_all
theorem ug:af.bU 0 (i:Int)=true:=by rfl
theorem vR(h:i<=4611686018427387904):af.b .quo .i64 (i:Int) 8=((i/8:Nat):Int):=by
 rw[QT (by omega) (by omega)];rfl
theorem EQ:af.b .rem .i64 (i:Int) 8=((i%8:Nat):Int):=by rfl
variable{u v:Int}
theorem Dz(h:u=v):af.bK u v=true:=by simp_all;exact beq_self_eq_true _
theorem R4(h:u≠v):af.bK u v=false:=by simp_all;exact beq_eq_false_iff_ne.2 h
theorem xa(h:u=v):af.cu u v=false:=by simp_all;exact bne_self_eq_false _
theorem xb(h:u≠v):af.cu u v=true:=by simp_all;exact bne_iff_ne.2 h
def abt(A:aU)(b:List Int)(i:Int):LT Bool Empty:=.ar (A.and (A.bU 0 (A.b .quo .i64 i 8)) (A.bG (A.b .quo .i64 i 8) (A.l b))) (.ar (A.bU 0 (A.v .u64 (A.b .sub .i64 7 (A.b .rem .i64 i 8)))) (.ret (A.bK (A.b .rem .u8 (A.b .shr .u8 (A.n yU b (A.b .quo .i64 i 8):Int) (A.v .u64 (A.b .sub .i64 7 (A.b .rem .i64 i 8)))) 2) 1)))
def Sb:(List Int×Int)->Bool:=λ(b,i)=>(abt af b i).val (Ty.aS [.bool])
def LG:(List Int×Int)->Bool:=λ(b,i)=>decide (0<=i)&&decide (i<8*(b.length:Int))
def arX:aK:=⟨[yB,yI], [.bool],LG,Sb,false⟩
theorem aqn:Sd 87 arX:=aR ap dE sl 26 [] (λA (b,i)=>abt A b i) (kz (fc func87 fz) sz) (λ((b,i):List Int×Int) j h=>by
 show(abt af b i).pre=true;simp only[LG,fv,rR] at j;have l:=Y2 h;simp only[abt,LT.pre,bl,aB,aN,fv,rR,qT,G8,nE];rw[QT j.1 (by omega),QV j.1,fO,lg (by omega) (by omega),VS (by omega) (by omega)];refine⟨⟨by omega,by omega⟩,by omega⟩)
theorem aff:∀c:Fin 256,∀k:Fin 8,(af.b .rem .u8 (af.b .shr .u8 (c.val:Int) (IntKind.u64.wrap (7-(k.val:Int)))) 2==1)=c.val.testBit (7-k.val):=by decide +kernel
theorem X_{i:Int}(l:gz b)(j:0<=i)(m:i<4611686018427387904):Sb (b,i)=jo b i.toNat:=by
 simp[Sb,abt];rw[QT j (by omega),QV j,fO,lg (by omega) (by omega)];have n:=Lx l (i.toNat/8);have h:=aff ⟨(b.getD (i.toNat/8) 0).toNat,by omega⟩ ⟨i.toNat%8,kT _ (by decide)⟩;rw[show(((b.getD (i.toNat/8) 0).toNat:Nat):Int)=b.getD (i.toNat/8) 0 from by omega] at h;exact h
structure agc where
 (a1:Int) (a2:List Int)
inductive Y97 where
 | c0 (p:agc) (a0:Int)
noncomputable def anV:Y97->iB
 | .c0 p a0=>⟨[⟨54,36,(en [(1,.ptr 0 0),(3,vi a0)]),sk f54 [1,1,0,1,0,0],[],none⟩],[.ay false [vi p.a1,.sl yU p.a2],.a_]⟩
def t97(A:aU)(h:Int)(i:List Int):LT Int Y97:=.br (A.bG h 0) (.ret 10) (.br (A.ji h 4096) (.ret 10) (.br (A.cu (A.l i) (A.b .quo .i64 (A.b .add .i64 h 7) 8)) (.ret 10) (.ao (.c0 ⟨h,i⟩ h))))
def s97(A:aU):Y97->LT Int Y97
 | .c0 p a0=>.br (A.bG a0 (A.b .mul .i64 8 (A.l p.a2))) (.ar (A.k LG (p.a2,a0)) (.br (A.k Sb (p.a2,a0)) (.ret 10) (.ao (.c0 p (A.b .add .i64 a0 1))))) (.ret 0)
theorem aeH{n:Nat}(p:agc)(o:p.a2=b)(l:gz b)(q:b.length<=140737488355328):∀(j i:Nat),8*b.length-i=j->aY (s97 af) (.ao (.c0 p (i:Int))) (bif (List.range (8*b.length)).all (λk=>decide (k<i) || !jo b k) then 0 else 10):=by
 subst o;intro j;have h:af.b .mul .i64 8 (af.l p.a2)=((8*p.a2.length:Nat):Int):=by
  show IntKind.i64.wrap (8*(p.a2.length:Int))=_;rw[lg (by omega) (by omega)];omega
 induction j with
 | zero=>
   intro i m;rw[show((List.range (8*p.a2.length)).all λk=>decide (k<i) || !jo p.a2 k)=true from by
    grind]
   simp only[aA,s97,uv,h,bf];rw[show decide (i<8*p.a2.length)=false from by grind];exact .ret _
 | succ j ih=>
   intro i m;simp only[aA,s97,uv,h,bf];rw[show decide (i<8*p.a2.length)=true from by simp;omega];simp only[cond_true,au,bo];refine⟨by simp[LG];omega,?_⟩;rw[X_ l (by omega) (by omega),rz,h_ (by omega)];cases hbit:jo p.a2 i
   ·refine(ai rfl).2 ?_
    have:=ih (i+1) (by omega)
    grind
   ·refine(ak rfl).2 ?_
    rw[show((List.range (8*p.a2.length)).all λk=>decide (k<i) || !jo p.a2 k)=false from by
     rw[List.all_eq_false];exact⟨i,gm.2 (by omega),by simp[hbit]⟩]
    exact .ret _
theorem ajE(h:Ty.jj [(.struct [(.int .i64),(.slice (.int .u8))])] (n,b)):aY (s97 af) (t97 af n b) (bif jg (n,b) then 0 else 10):=by
 have m:=(sV h).2.2;have o:=mP h;rw[jg];by_cases i:n<0
 ·refine(ak (by simpa [aN] using i)).2 ?_
  rw[show decide (0<=n)=false from by simp_all];exact .ret _
 ·refine(ai (by simpa [aN] using i)).2 ?_
  by_cases j:4096<n
  ·refine(ak (by simpa [bY] using j)).2 ?_
   rw[show decide (n<=4096)=false from by simp_all,dD];exact .ret _
  ·refine(ai (by simpa [bY] using j)).2 ?_
   rw[show decide (0<=n)=true from by simp_all,show decide (n<=4096)=true from by simp_all,gp,lg (by omega) (by omega),QT (by omega) (by omega),show(n+7).toNat/8=(n.toNat+7)/8 from by omega];by_cases l:b.length=(n.toNat+7)/8
   ·refine(ai (xa (show(b.length:Int)=_ by rw[l]))).2 ?_
    have:=aeH (n:=n.toNat) ⟨n,b⟩ rfl m o (8*b.length-n.toNat) n.toNat rfl
    grind
   ·refine(ak (xb (show(b.length:Int)≠_ by omega))).2 ?_
    rw[show(b.length==(n.toNat+7)/8)=false from by simp_all];exact .ret _
def akb:((Int×List Int))->Int:=λx=>bif jg x then 0 else 10
def awY:aK:=.all [(.struct [yI,yB])] [yI] akb
theorem awv:Sd 54 awY:=fa (bp ap dE sl 44 [⟨54,4, [[1,3]]⟩] [] (λA (j,i)=>t97 A j i) s97 anV (kz (fc func54 fz) (sc aqn sz)) (λA y=>match y with |.c0 p l=>⟨35,sl,by kernel_rfl⟩) λ(j,i) m h=>ajE h)
variable{Y:Type}
theorem lV{R:Type}{step:Y->LT R Y}{t i:LT R Y}{r:R}(h:t=i)(j:aY step i r):aY step t r:=h▸j
theorem aeK:∀c:Fin 256,∀k:Fin 8,af.b .or .u8 (c.val:Int) ((128 >>> k.val:Nat):Int)=((c.val ||| 128 >>> k.val:Nat):Int):=by decide +kernel
variable{B:List Int}
theorem GV{l:List Bool}{m:Nat}(h:lW B l m)(n:l.length=i)(o:i<8*m)(p:m<=100000):
  lW (af.set B (af.b .quo .i64 (i:Int) 8) (af.b .or .u8 (af.n (.int .u8) B (af.b .quo .i64 (i:Int) 8):Int) (af.k DO (i:Int)))) (l ++ [true]) m:=by
 rw[vR (by omega),bo,NE (by omega),rz];have j:=aeK ⟨(B.getD (i/8) 0).toNat,F7 h.2.1 _⟩ ⟨i%8,kT _ (by decide)⟩;rw[show(((B.getD (i/8) 0).toNat:Nat):Int)=B.getD (i/8) 0 from Int.toNat_of_nonneg (Lx h.2.1 _).1] at j;have:=h.set (by omega);rw[n] at this;rw[<-j] at this;exact this
theorem Dd{l:List Bool}(h:i<l.length):l.take (i+1)=l.take i ++ [l.getD i false]:=by simp_all
variable{a:Int}
theorem aaT{n:Nat}(h:0<=a)(i:n<=64):af.b .shr .u64 a (n:Int)=((a.toNat/2^n:Nat):Int):=by
 show a.fdiv (2^min (n:Int).toNat 64)=_
 grind
theorem agZ{n:Nat}(h:0<=a)(i:n<=32):af.b .shr .u32 a (n:Int)=((a.toNat/2^n:Nat):Int):=by
 show a.fdiv (2^min (n:Int).toNat 32)=_
 grind
theorem XA{n:Nat}(h:n<4611686018427387904):af.v .u64 (n:Int)=(n:Int):=by rw[G8,VS (by omega) (by omega)]
theorem Xb{m:Nat}:af.bK (af.b .and .u64 (m:Int) 1) 1=decide (m%2=1):=by
 show(IntKind.u64.wrap ((BitVec.ofInt 64 (m:Int) &&& BitVec.ofInt 64 1).toNat:Int)==1)=_;rw[fQ,show BitVec.ofInt 64 1=BitVec.ofNat 64 1 from rfl,BitVec.toNat_and,fe,fe,show 1%2^64=1 from rfl,Nat.and_one_is_mod,VS (by omega) (by omega),fE]
 grind
theorem Xl{k:Nat}(h:0<=v)(i:k<=64):af.bK (af.b .and .u64 (af.b .shr .u64 v (k:Int)) 1) 1=v.toNat.testBit k:=by
 rw[aaT h i,Xb,Nat.testBit_eq_decide_div_mod_eq]
theorem wh{j:Nat}(h:j<=i)(l:i<4611686018427387904):af.b .sub .i64 (i:Int) (j:Int)=((i-j:Nat):Int):=by
 rw[fO,lg (by omega) (by omega)];omega
theorem aeS{w:Nat}(h:0<=v):decide ((2:Int)^w<=v)=(((v.toNat/2^w:Nat):Int) != 0):=by
 obtain⟨m,rfl⟩:=aP h;rw[rz,fE];have l:(2:Int)^w=((2^w:Nat):Int):=by simp
 rw[l,rR,bne_iff_ne];have j:=Nat.two_pow_pos w;constructor
 ·intro i
  have:1<=m/2^w:=(iK j).2 (by omega);omega
 ·intro i
  have:1<=m/2^w:=Nat.pos_of_ne_zero λh=>i (by omega);have:=(iK j).1 this;omega
theorem aej{w:Int}(h:Ty.jj [(.struct [(.int .i64),(.slice (.int .u8))]),(.int .u64),(.int .i64)] ((n,b),v,w)):Ty.has (.struct [(.int .i64),(.slice (.int .u8))]) (n,b)/\(0<=v/\v<=18446744073709551615)/\(-9223372036854775808<=w/\w<=9223372036854775807):=h
structure V9 where
 (a0 a1 a2 a4:Int) (a5:List Int) (a6 a7:Int)
inductive Ni where
 | c0 (p:V9) (a3:Int) (a8:List Int)
noncomputable def aiG:Ni->iB
 | .c0 p a3 a8=>⟨[⟨259,63,(en [(1,.int .u64 false p.a0),(2,vi p.a1),(3,.ptr 0 0),(6,.ptr 1 0),(8,.ptr 2 0),(43,vi p.a2),(44,vi a3)]),sk f259 [1,1,1,0,1,0,0],[],none⟩],[.ay false [vi p.a4,.sl yU p.a5],.ay false [vi p.a6,.gb true],.ay false [vi p.a7,.own 3],.arr false yU a8,.a_]⟩
abbrev abr(A:aU)(i:Int)(j:List Int)(v:Int)(h:Int):LT ((Int×List Int)×Int) Ni:=(.br (A.ji h (A.b .sub .i64 4096 i)) (.ret ((0,([]:List Int)),3)) (.ar (A.and (A.bK (A.k jr (A.b .add .i64 i h)) (A.k jr (A.b .add .i64 i h))) (A.and (A.bU 0 (A.k jr (A.b .add .i64 i h))) (A.bU (A.k jr (A.b .add .i64 i h)) 140737488355328))) (.ao (.c0 ⟨v,h,h,i,j,0,(A.b .add .i64 i h)⟩ 0 (A.spl (A.r (A.k jr (A.b .add .i64 i h)) (0:Int)) 0 (A.s j 0 (A.mn (A.l j) (A.l (A.r (A.k jr (A.b .add .i64 i h)) (0:Int))))))))))
def al7(A:aU)(j:Int)(i:List Int)(v:Int)(h:Int):LT ((Int×List Int)×Int) Ni:=.br (A.cu (A.k rT (j,i)) 0) (.ret ((0,([]:List Int)),10)) (.br (A.bG h 0) (.ret ((0,([]:List Int)),2)) (.br (A.ji h 64) (.ret ((0,([]:List Int)),2)) (.br (A.bG h 64) (.ar (A.bU 0 h) (.br (A.cu (A.b .shr .u64 v h) 0) (.ret ((0,([]:List Int)),2)) (abr A j i v h))) (abr A j i v h))))
def ae7(A:aU):Ni->LT ((Int×List Int)×Int) Ni
 | .c0 p a3 a8=>.br (A.bG a3 p.a2) (.ar (A.bU 0 (A.b .sub .i64 (A.b .sub .i64 p.a1 1) a3)) (.br (A.bK (A.b .and .u64 (A.b .shr .u64 p.a0 (A.b .sub .i64 (A.b .sub .i64 p.a1 1) a3)) 1) 1) (.ar (A.and (A.bU 0 (A.b .quo .i64 (A.b .add .i64 p.a4 a3) 8)) (A.bG (A.b .quo .i64 (A.b .add .i64 p.a4 a3) 8) (A.l a8))) (.ar (A.k xO (A.b .add .i64 p.a4 a3)) (.ar (A.and (A.bU 0 (A.b .quo .i64 (A.b .add .i64 p.a4 a3) 8)) (A.bG (A.b .quo .i64 (A.b .add .i64 p.a4 a3) 8) (A.l a8))) (.ao (.c0 p (A.b .add .i64 a3 1) (A.set a8 (A.b .quo .i64 (A.b .add .i64 p.a4 a3) 8) (A.b .or .u8 (A.n yU a8 (A.b .quo .i64 (A.b .add .i64 p.a4 a3) 8):Int) (A.k DO (A.b .add .i64 p.a4 a3))))))))) (.ao (.c0 p (A.b .add .i64 a3 1) a8)))) (.ret ((p.a7,a8),0))
theorem Nm{v w k:Nat}(h:k<w):(bitsOf v w).getD k false=v.testBit (w-1-k):=by
 rw[xB,bitsOf,cy,pX h];rfl
theorem vk{m:Nat}(j:B.length=m)(l:i<8*m)(n:m<=100000):(af.and (af.bU 0 (af.b .quo .i64 (i:Int) 8)) (af.bG (af.b .quo .i64 (i:Int) 8) (af.l B)))=true:=by
 have h:af.l B=(m:Int):=by rw[<-j];rfl
 rw[vR (by omega),h,ug,bf,bl];grind
theorem CQ:af.k xO (i:Int)=true:=by rfl
theorem ap3{n w:Nat}(E:0<=v)(F:n+w<=4096)(G:w<=64):∀(j k:Nat) (p:V9) (B:List Int),p.a0=v->p.a1=(w:Int)->p.a2=(w:Int)->p.a4=(n:Int)->p.a7=((n+w:Nat):Int)->w-k=j->k<=w->lW B (unpack n b++(bitsOf v.toNat w).take k) ((n+w+7)/8)->aY (ae7 af) (.ao (.c0 p (k:Int) B)) (M_ (unpack n b++bitsOf v.toNat w),0):=by
 intro j
 induction j with
 | zero=>
   intro k p B t u o x y C D m;have:k=w:=by omega
   subst this;simp[aA];refine(ai (by rw[o,bf];simp)).2 ?_;rw[cK (by rw[mo];omega)] at m;have A:(unpack n b++bitsOf v.toNat k).length=n+k:=by rw[qS,eY,mo]
   rw[y,m.done (by rw[A])];rw[show M_ (unpack n b++bitsOf v.toNat k)=(((n+k:Nat):Int),pack (unpack n b++bitsOf v.toNat k)) from by rw[M_,A]];exact .ret _
 | succ j ih=>
   intro k p B t u o x y C D m;simp[aA];have r:af.b .sub .i64 (af.b .sub .i64 p.a1 1) (k:Int)=((w-1-k:Nat):Int):=by
    rw[u,show af.b .sub .i64 (w:Int) 1=((w-1:Nat):Int) from wh (j:=1) (by omega) (by omega),wh (by omega) (by omega)]
   have z:af.b .add .i64 p.a4 (k:Int)=((n+k:Nat):Int):=by rw[x,jy (by omega)]
   have q:(unpack n b++(bitsOf v.toNat w).take k).length=n+k:=by rw[qS,eY,cd,mo];omega
   have h:=Dd (l:=bitsOf v.toNat w) (i:=k) (by rw[mo];omega);rw[Nm (by omega)] at h;refine(ak (by rw[o,bf];grind)).2 (au.2 ⟨by rw[r,ug],?_⟩);rw[r,t,Xl E (by omega),z];cases hx:v.toNat.testBit (w-1-k)
   ·rw[hx] at h
    refine(ai rfl).2 ?_;refine lV (congrArg LT.ao (congr (congrArg (Ni.c0 p) (h_ (by omega))) rfl)) (ih (k+1) p B t u o x y (by omega) (by omega) ?_);rw[h,<-b_];exact m.skip
   ·rw[hx] at h
    refine(ak rfl).2 (au.2 ⟨vk m.1 (by omega) (by omega),au.2 ⟨CQ,au.2 ⟨vk m.1 (by omega) (by omega),?_⟩⟩⟩);refine lV (congrArg LT.ao (congr (congrArg (Ni.c0 p) (h_ (by omega))) rfl)) (ih (k+1) p _ t u o x y (by omega) (by omega) ?_);rw[h,<-b_];exact GV m q (by omega) (by omega)
theorem grow{n w:Nat}(h:okB n b)(p:n+w<=100000):lW (af.spl (af.r (af.k jr ((n+w:Nat):Int)) (0:Int)) 0 (af.s b 0 (af.mn (af.l b) (af.l (af.r (af.k jr ((n+w:Nat):Int)) (0:Int)))))) (unpack n b) ((n+w+7)/8):=by
 have o:=h.1;rw[bo,u6 (by omega) (by omega),rz];have i:af.r ((((n+w+7)/8:Nat):Nat):Int) (0:Int)=List.replicate ((n+w+7)/8) 0:=by rfl
 rw[i];have j:af.mn (af.l b) (af.l (List.replicate ((n+w+7)/8) (0:Int)))=(b.length:Int):=by
  show(if ((List.replicate ((n+w+7)/8) (0:Int)).length:Int)<(b.length:Int) then _ else(b.length:Int))=_
  grind
 rw[j,iY,mW];have l:(b.take (b.length:Int).toNat).drop (0:Int).toNat=b:=by
  rw[rz,dW];rfl
 have:=lW.grown (m:=(n+w+7)/8) h (by omega)
 simp_all
theorem av7{w:Int}(h:Ty.jj [(.struct [(.int .i64),(.slice (.int .u8))]),(.int .u64),(.int .i64)] ((n,b),v,w)):aY (ae7 af) (al7 af n b v w) (aak ((n,b),v,w)):=by
 obtain⟨x,u,J⟩:=aej h;have y:=(sV x).2.2;have C:=mP x;unfold al7 abr;rw[aak];have B:af.cu (af.k rT (n,b)) 0=!jg (n,b):=by
  rw[bo,Bg y C];cases jg (n,b)<;>rfl
 rw[B];cases hok:jg (n,b)
 ·exact(ak rfl).2 (.ret _)
 ·refine(ai rfl).2 ?_
  obtain⟨z,E,r⟩:=(sJ y).1 hok;have A:=r.1;by_cases F:w<0
  ·refine(ak (by rw[aN];simp_all)).2 ?_
   rw[show decide (w<0)=true from by simp_all];exact .ret _
  ·refine(ai (by rw[aN];simp_all)).2 ?_
   by_cases G:64<w
   ·refine(ak (by rw[bY];simp_all)).2 ?_
    rw[show decide (64<w)=true from by simp_all,kx,Bool.true_or];exact .ret _
   ·refine(ai (by rw[bY];simp_all)).2 ?_
    rw[show decide (w<0)=false from by simp_all,show decide (64<w)=false from by simp_all,nF,nF,aeS u.1];obtain⟨k,rfl⟩:=aP (show 0<=w by omega);obtain⟨m,rfl⟩:=aP z;rw[rz] at r A ⊢;have l:af.b .add .i64 (m:Int) (k:Int)=((m+k:Nat):Int):=jy (by omega);have j:af.k jr ((m+k:Nat):Int)=(((m+k+7)/8:Nat):Int):=by rw[bo,u6 (by omega) (by omega),rz]
    have p:(o6 ((m:Int),b)++bitsOf v.toNat k).length=m+k:=by rw[qS,zP,mo,rz]
    have o:(((v.toNat/2^k:Nat):Int) != 0)=false->∀t,t=(LT.br (af.ji (k:Int) (af.b .sub .i64 4096 (m:Int))) (.ret ((0,([]:List Int)),3)) (.ar (af.and (af.bK (af.k jr (af.b .add .i64 (m:Int) (k:Int))) (af.k jr (af.b .add .i64 (m:Int) (k:Int)))) (af.and (af.bU 0 (af.k jr (af.b .add .i64 (m:Int) (k:Int)))) (af.bU (af.k jr (af.b .add .i64 (m:Int) (k:Int))) 140737488355328))) (.ao (.c0 ⟨v,(k:Int),(k:Int),(m:Int),b,0,(af.b .add .i64 (m:Int) (k:Int))⟩ 0 (af.spl (af.r (af.k jr (af.b .add .i64 (m:Int) (k:Int))) (0:Int)) 0 (af.s b 0 (af.mn (af.l b) (af.l (af.r (af.k jr (af.b .add .i64 (m:Int) (k:Int))) (0:Int))))))))):LT ((Int×List Int)×Int) Ni)->aY (ae7 af) t (bif ((v.toNat/2^k:Nat):Int) != 0 then(zB,2) else ofS (o6 ((m:Int),b)++bitsOf v.toNat k)):=by
     intro q t D;rw[q,cond_false,D,ofS,p,l,show af.b .sub .i64 (4096:Int) (m:Int)=((4096-m:Nat):Int) from wh (i:=4096) (by omega) (by omega)];by_cases I:4096<m+k
     ·rw[show decide (4096<m+k)=true from by simp_all]
      refine(ak (by rw[bY];grind)).2 (.ret _)
     ·rw[show decide (4096<m+k)=false from by simp_all]
      refine(ai (by rw[bY];grind)).2 (au.2 ⟨?_,?_⟩)
      ·rw[j,ug,Dz rfl,aB,bl,bl];grind
      ·refine ap3 u.1 (by omega) (by omega) k 0 _ _ rfl rfl rfl rfl rfl rfl (by omega) ?_
       rw[mT,aL];exact grow r (by omega)
    by_cases H:k<64
    ·refine(ak (by rw[aN];grind)).2 (au.2 ⟨ug,?_⟩)
     rw[aaT u.1 (by omega)];cases q:(((v.toNat/2^k:Nat):Int) != 0)
     ·refine(ai q).2 ?_
      simp_all
     ·exact(ak q).2 (.ret _)
    ·refine(ai (by rw[aN];grind)).2 (o ?_ _ rfl)
     grind
def tX:((Int×List Int)×Int×Int)->((Int×List Int)×Int):=aak
def arU:aK:=.all [(.struct [yI,yB]),(.int .u64),yI] [(.struct [yI,yB]),yI] tX
theorem aa1:Sd 259 arU:=fa (bp ap dE sl 114 [⟨259,9, [[1,2,3,6,8,43,44]]⟩] [] (λA ((l,j),v,i)=>al7 A l j v i) ae7 aiG (kz (fc func259 (fc func304 (fc func305 (fc func307 fz)))) (sc Mr (sc TU (sc TY sz)))) (λA y=>match y with |.c0 p m n=>⟨63,sl,by kernel_rfl⟩) λ((l,j),v,i) o h=>av7 h)
structure Wb where
 (a0 a2 a4:Int) (a5:List Int)
inductive acV where
 | c0 (p:Wb) (a1:Int) (a3:Int)
noncomputable def aiI:acV->iB
 | .c0 p a1 a3=>⟨[⟨321,54,(en [(1,vi p.a0),(3,.ptr 0 0),(8,.int .u64 false a1),(39,vi p.a2),(40,vi a3)]),sk f321 [1,1,1,0,1,0,0],[],none⟩],[.ay false [vi p.a4,.sl yU p.a5],.a_]⟩
def t138(A:aU)(j:Int)(l:List Int)(i:Int)(h:Int):LT (Int×Int) acV:=.br (A.cu (A.k rT (j,l)) 0) (.ret (0,10)) (.br (A.bG h 0) (.ret (0,2)) (.br (A.ji h 64) (.ret (0,2)) (.br (A.bG i 0) (.ret (0,2)) (.br (A.ji i j) (.ret (0,2)) (.br (A.ji h (A.b .sub .i64 j i)) (.ret (0,2)) (.ao (.c0 ⟨i,h,j,l⟩ 0 0)))))))
def alx(A:aU):acV->LT (Int×Int) acV
 | .c0 p a1 a3=>.br (A.bG a3 p.a2) (.ar (A.k xN ((p.a4,p.a5),(A.b .add .i64 p.a0 a3))) (.br (A.k A7 ((p.a4,p.a5),(A.b .add .i64 p.a0 a3))) (.ao (.c0 p (A.b .or .u64 (A.b .shl .u64 a1 1) 1) (A.b .add .i64 a3 1))) (.ao (.c0 p (A.b .shl .u64 a1 1) (A.b .add .i64 a3 1))))) (.ret (a1,0))
theorem X4{l:List Bool}{a k:Nat}(h:a+k<l.length):IW l a (k+1)=2*IW l a k+(l.getD (a+k) false).toNat:=by
 rw[IW,IW,Dd (by grind),Ae,getD_drop]
theorem apU{k:Nat}(h:k<=64):2^k<=18446744073709551616:=aW (fR (by decide) h) (by decide)
theorem No{x:Nat}(h:2*x<18446744073709551616):af.b .shl .u64 (x:Int) 1=((2*x:Nat):Int):=by
 show IntKind.u64.wrap ((x:Int)*2^min (1:Int).toNat 64)=_;rw[show(2:Int)^min (1:Int).toNat 64=2 from rfl,VS (by omega) (by omega)];omega
theorem aeM{x:Nat}(h:2*x<18446744073709551616):af.b .or .u64 ((2*x:Nat):Int) 1=((2*x+1:Nat):Int):=by
 show IntKind.u64.wrap ((BitVec.ofInt 64 ((2*x:Nat):Int) ||| BitVec.ofInt 64 1).toNat:Int)=_;rw[fQ,show BitVec.ofInt 64 1=BitVec.ofNat 64 1 from rfl,BitVec.toNat_or,fe,fe,show 1%2^64=1 from rfl,g_ (by omega)];have:=Nat.shiftLeft_add_eq_or_of_lt (i:=1) (b:=1) (by decide) x;rw[Nat.shiftLeft_eq,Nat.pow_one,mh x 2] at this;rw[<-this,VS (by omega) (by omega)]
theorem SX{w:Int}(h:Ty.jj [(.struct [(.int .i64),(.slice (.int .u8))]),(.int .i64),(.int .i64)] ((n,b),a,w)):Ty.has (.struct [(.int .i64),(.slice (.int .u8))]) (n,b)/\(-9223372036854775808<=a/\a<=9223372036854775807)/\(-9223372036854775808<=w/\w<=9223372036854775807):=h
theorem aob{n a w:Nat}(v:gz b)(A:b.length<=100000)(B:n<=8*b.length)(u:a+w<=n)(D:w<=64):∀(j k:Nat) (p:Wb),p.a0=(a:Int)->p.a2=(w:Int)->p.a5=b->w-k=j->k<=w->aY (alx af) (.ao (.c0 p ((IW (unpack n b) a k:Nat):Int) (k:Int))) (((IW (unpack n b) a w:Nat):Int),0):=by
 intro j
 induction j with
 | zero=>
   intro k p q m o x y;have:k=w:=by omega
   subst this;simp[aA];exact(ai (by rw[m,bf];simp)).2 (.ret _)
 | succ j ih=>
   intro k p q m o x y;simp[aA];have h:af.b .add .i64 p.a0 (k:Int)=((a+k:Nat):Int):=by rw[q,jy (by omega)]
   have z:=PR (unpack n b) a k;have C:=apU (k:=k+1) (by omega);have i:=X4 (l:=unpack n b) (a:=a) (k:=k) (by rw[eY];omega);rw[rA,show decide (a+k<n)=true from by grind,cY] at i;refine(ak (by rw[m,bf];grind)).2 (au.2 ⟨by rw[h,o,bo];simp[xN];omega,?_⟩);have r:af.k A7 ((p.a4,p.a5),af.b .add .i64 p.a0 (k:Int))=jo b (a+k):=by
    rw[h,o,bo,FJ v (by omega) (by omega) (by omega),rz]
   have t:=ih (k+1) p q m o (by omega) (by omega);cases hx:jo b (a+k)
   ·rw[hx] at i
    refine(ai (r.trans hx)).2 ?_;rw[i,show 2*IW (unpack n b) a k+false.toNat=2*IW (unpack n b) a k from rfl,<-No (by omega),<-h_ (by omega)] at t;omega
   ·rw[hx] at i
    refine(ak (r.trans hx)).2 ?_;rw[i,show 2*IW (unpack n b) a k+true.toNat=2*IW (unpack n b) a k+1 from rfl,<-aeM (by omega),<-No (by omega),<-h_ (by omega)] at t;omega
theorem avN{w:Int}(h:Ty.jj [(.struct [(.int .i64),(.slice (.int .u8))]),(.int .i64),(.int .i64)] ((n,b),a,w)):aY (alx af) (t138 af n b a w) (aef ((n,b),a,w)):=by
 obtain⟨p,A,B⟩:=SX h;have o:=(sV p).2.2;have u:=mP p;unfold t138;rw[aef];have t:af.cu (af.k rT (n,b)) 0=!jg (n,b):=by
  rw[bo,Bg o u];cases jg (n,b)<;>rfl
 rw[t];cases hok:jg (n,b)
 ·exact(ak rfl).2 (.ret _)
 ·refine(ai rfl).2 ?_
  obtain⟨v,x,q⟩:=(sJ o).1 hok;have y:=q.1;by_cases l:w<0
  ·refine(ak (by rw[aN];simpa using l)).2 ?_
   rw[show decide (w<0)=true from by simpa using l];exact .ret _
  refine(ai (by rw[aN];simpa using l)).2 ?_;by_cases z:64<w
  ·refine(ak (by rw[bY];simp_all)).2 ?_
   rw[show decide (64<w)=true from by simp_all];simp;exact .ret _
  refine(ai (by rw[bY];simp_all)).2 ?_;by_cases m:a<0
  ·refine(ak (by rw[aN];simpa using m)).2 ?_
   rw[show decide (a<0)=true from by simpa using m];simp;exact .ret _
  refine(ai (by rw[aN];simpa using m)).2 ?_;rw[show decide (w<0)=false from by simp_all,show decide (64<w)=false from by simp_all,show decide (a<0)=false from by simp_all];by_cases r:n<a
  ·refine(ak (by rw[bY];simp_all)).2 ?_
   rw[show decide (n<a+w)=true from by grind];exact .ret _
  refine(ai (by rw[bY];simpa using r)).2 ?_;rw[fO,lg (by omega) (by omega)];by_cases j:n<a+w
  ·refine(ak (by rw[bY];grind)).2 ?_
   rw[show decide (n<a+w)=true from by simp_all];exact .ret _
  refine(ai (by rw[bY];simp;omega)).2 ?_;rw[show decide (n<a+w)=false from by simpa using j];obtain⟨k,rfl⟩:=aP (show 0<=w by omega);obtain⟨i,rfl⟩:=aP (show 0<=a by omega);exact aob (n:=n.toNat) o (by omega) (by omega) (by omega) (by omega) k 0 _ rfl rfl rfl (by omega) (by omega)
def gx:((Int×List Int)×Int×Int)->(Int×Int):=aef
def arZ:aK:=.all [(.struct [yI,yB]),yI,yI] [(.int .u64),yI] gx
theorem TW:Sd 321 arZ:=fa (bp ap dE sl 65 [⟨321,7, [[1,3,8,39,40]]⟩] [] (λA ((m,l),j,i)=>t138 A m l j i) alx aiI (kz (fc func321 fz) (sc Mr (sc aa2 sz))) (λA y=>match y with |.c0 p a1 n=>⟨45,sl,by kernel_rfl⟩) λ((m,l),j,i) o h=>avN h)
structure Wc where
 (a0 a1 a2 a4 a5:Int) (a6:List Int) (a7 a8:Int)
inductive Uq where
 | c0 (p:Wc) (a3:Int) (a9:List Int)
noncomputable def aiJ:Uq->iB
 | .c0 p a3 a9=>⟨[⟨308,52,(en [(1,vi p.a0),(3,vi p.a1),(4,vi p.a2),(5,.ptr 0 0),(7,.ptr 1 0),(10,vi a3)]),sk f308 [1,1,1,0,0],[],none⟩,⟨323,39,(en [(6,.ptr 2 0),(8,.ptr 3 0)]),(.ops (ow f323 [1,1,1,0]) ((ow f323 [1,1,1,0]).toList.drop 4)::sk f323 [1,1,1,0]),[],none⟩],[.ay false [vi p.a4,.own 4],.ay false [vi p.a5,.sl yU p.a6],.ay false [vi p.a7,.gb true],.ay false [vi p.a8,.own 4],.arr false yU a9,.a_]⟩
abbrev Ef(A:aU)(h:Int)(i:Int):=(A.r (A.k jr (A.b .sub .i64 i h)) (0:Int))
def al_(A:aU)(l:Int)(j:List Int)(h:Int)(i:Int):LT ((Int×List Int)×Int) Uq:=.br (A.cu (A.k rT (l,j)) 0) (.ret ((0,([]:List Int)),10)) (.br (A.bG h 0) (.ret ((0,([]:List Int)),2)) (.br (A.bG i h) (.ret ((0,([]:List Int)),2)) (.br (A.ji i l) (.ret ((0,([]:List Int)),2)) (.ar (A.and (A.bK (A.k jr (A.b .sub .i64 i h)) (A.k jr (A.b .sub .i64 i h))) (A.and (A.bU 0 (A.k jr (A.b .sub .i64 i h))) (A.bU (A.k jr (A.b .sub .i64 i h)) 140737488355328))) (.br (A.bK (A.b .rem .i64 h 8) 0) (.br (A.bK i l) (.ar (A.and (A.bU 0 0) (A.and (A.bU 0 (A.l (Ef A h i))) (A.bU (A.l (Ef A h i)) (A.l (Ef A h i))))) (.ar (A.and (A.bU 0 (A.b .quo .i64 h 8)) (A.and (A.bU (A.b .quo .i64 h 8) (A.l j)) (A.bU (A.l j) (A.l j)))) (.ret (((A.b .sub .i64 i h),(A.spl (Ef A h i) 0 (A.s (A.s j (A.b .quo .i64 h 8) (A.l j)) 0 (A.mn (A.l (A.s j (A.b .quo .i64 h 8) (A.l j))) (A.b .sub .i64 (A.l (Ef A h i)) 0))))),0)))) (.ao (.c0 ⟨0,h,i,(A.b .sub .i64 i h),l,j,0,(A.b .sub .i64 i h)⟩ h (Ef A h i)))) (.ao (.c0 ⟨0,h,i,(A.b .sub .i64 i h),l,j,0,(A.b .sub .i64 i h)⟩ h (Ef A h i))))))))
def aaw(A:aU):Uq->LT ((Int×List Int)×Int) Uq
 | .c0 p a3 a9=>.br (A.bG a3 p.a2) (.ar (A.k xN ((p.a5,p.a6),a3)) (.br (A.k A7 ((p.a5,p.a6),a3)) (.ar (A.and (A.bU 0 (A.b .quo .i64 (A.b .sub .i64 (A.b .add .i64 p.a0 a3) p.a1) 8)) (A.bG (A.b .quo .i64 (A.b .sub .i64 (A.b .add .i64 p.a0 a3) p.a1) 8) (A.l a9))) (.ar (A.k xO (A.b .sub .i64 (A.b .add .i64 p.a0 a3) p.a1)) (.ar (A.and (A.bU 0 (A.b .quo .i64 (A.b .sub .i64 (A.b .add .i64 p.a0 a3) p.a1) 8)) (A.bG (A.b .quo .i64 (A.b .sub .i64 (A.b .add .i64 p.a0 a3) p.a1) 8) (A.l a9))) (.ao (.c0 p (A.b .add .i64 a3 1) (A.set a9 (A.b .quo .i64 (A.b .sub .i64 (A.b .add .i64 p.a0 a3) p.a1) 8) (A.b .or .u8 (A.n yU a9 (A.b .quo .i64 (A.b .sub .i64 (A.b .add .i64 p.a0 a3) p.a1) 8):Int) (A.k DO (A.b .sub .i64 (A.b .add .i64 p.a0 a3) p.a1))))))))) (.ao (.c0 p (A.b .add .i64 a3 1) a9)))) (.ret ((p.a8,a9),0))
theorem afk{n a c:Nat}(D:gz b)(G:b.length<=100000)(H:n<=8*b.length)(C:a<=c)(y:c<=n):∀(j i:Nat) (p:Wc) (B:List Int),p.a0=0->p.a1=(a:Int)->p.a2=(c:Int)->p.a6=b->p.a8=((c-a:Nat):Int)->c-i=j->a<=i->i<=c->lW B ((((unpack n b).take c).drop a).take (i-a)) ((c-a+7)/8)->aY (aaw af) (.ao (.c0 p (i:Int) B)) (M_ (((unpack n b).take c).drop a),0):=by
 have A:(((unpack n b).take c).drop a).length=c-a:=by rw[cO,cd,eY];omega
 intro j
 induction j with
 | zero=>
   intro i p B t u o q v F E z m;have:i=c:=by omega
   subst this;simp[aA];refine(ai (by rw[o,bf];simp)).2 ?_;rw[cK (by omega)] at m;rw[v,m.done (by rw[A]),show M_ (((unpack n b).take i).drop a)=(((i-a:Nat):Int),pack (((unpack n b).take i).drop a)) from by rw[M_,A]];exact .ret _
 | succ j ih=>
   intro i p B t u o q v F E z m;simp[aA];have x:af.b .sub .i64 (af.b .add .i64 p.a0 (i:Int)) p.a1=((i-a:Nat):Int):=by
    rw[t,u,show af.b .add .i64 (0:Int) (i:Int)=((0+i:Nat):Int) from jy (i:=0) (by omega),wh (by omega) (by omega),gF]
   have h:=Dd (l:=((unpack n b).take c).drop a) (i:=i-a) (by omega);rw[getD_drop,getD_take,rA,show a+(i-a)=i from by omega,show decide (i<c)=true from by grind,show decide (i<n)=true from by grind,cY,cY] at h;have r:((((unpack n b).take c).drop a).take (i-a)).length=i-a:=by simp_all
   refine(ak (by rw[o,bf];grind)).2 (au.2 ⟨by rw[q,bo];simp[xN];omega,?_⟩);have y:af.k A7 ((p.a5,p.a6),(i:Int))=jo b i:=by
    rw[q,bo,FJ D (by omega) (by omega) (by omega),rz]
   rw[x];cases hx:jo b i
   ·rw[hx] at h
    refine(ai (y.trans hx)).2 ?_;refine lV (congrArg LT.ao (congr (congrArg (Uq.c0 p) (h_ (by omega))) rfl)) (ih (i+1) p B t u o q v (by omega) (by omega) (by omega) ?_);rw[show i+1-a=i-a+1 from by omega,h];exact m.skip
   ·rw[hx] at h
    refine(ak (y.trans hx)).2 (au.2 ⟨vk m.1 (by omega) (by omega),au.2 ⟨CQ,au.2 ⟨vk m.1 (by omega) (by omega),?_⟩⟩⟩);refine lV (congrArg LT.ao (congr (congrArg (Uq.c0 p) (h_ (by omega))) rfl)) (ih (i+1) p _ t u o q v (by omega) (by omega) (by omega) ?_);rw[show i+1-a=i-a+1 from by omega,h];exact GV m r (by omega) (by omega)
theorem Uy(b:List Int)(i j:Nat):jo (b.drop i) j=jo b (8*i+j):=by
 rw[jo,jo,xB,xB,cm,show(8*i+j)/8=i+j/8 from by omega,show(8*i+j)%8=j%8 from by omega]
theorem U5{n:Nat}(h:okB n b)(q:8*i<=n):b.drop i=pack ((unpack n b).drop (8*i)):=by
 have o:=h.1;apply Tx
 ·rw[cO,cO,eY];omega
 ·exact λx m=>h.2.1 x (List.mem_of_mem_drop m)
 ·intro j l
  rw[cO] at l;rw[Uy,getD_drop,rA];by_cases p:8*i+j<n
  ·simp_all
  ·rw[show decide (8*i+j<n)=false from by simp_all,gk]
   exact h.2.2 _ (by omega) (by omega)
theorem T8:af.s b (i:Int) (af.l b)=b.drop i:=by
 show(b.take (b.length:Int).toNat).drop (i:Int).toNat=_
 simp_all
variable{c:Int}
theorem alL(h:Ty.jj [(.struct [(.int .i64),(.slice (.int .u8))]),(.int .i64),(.int .i64)] ((n,b),a,c)):aY (aaw af) (al_ af n b a c) (Q8 ((n,b),a,c)):=by
 obtain⟨u,J,K⟩:=SX h;have t:=(sV u).2.2;have E:=mP u;unfold al_ Ef;rw[Q8];have D:af.cu (af.k rT (n,b)) 0=!jg (n,b):=by
  rw[bo,Bg t E];cases jg (n,b)<;>rfl
 rw[D];cases hok:jg (n,b)
 ·exact(ak rfl).2 (.ret _)
 ·refine(ai rfl).2 ?_
  obtain⟨z,F,r⟩:=(sJ t).1 hok;have A:=r.1;by_cases G:a<0
  ·refine(ak (by rw[aN];simp_all)).2 ?_
   rw[show decide (a<0)=true from by simp_all];exact .ret _
  refine(ai (by rw[aN];simp_all)).2 ?_;by_cases H:c<a
  ·refine(ak (by rw[aN];simp_all)).2 ?_
   rw[show decide (c<a)=true from by simp_all];simp;exact .ret _
  refine(ai (by rw[aN];simp_all)).2 ?_;by_cases I:n<c
  ·refine(ak (by rw[bY];simp_all)).2 ?_
   rw[show decide (n<c)=true from by simp_all];simp;exact .ret _
  refine(ai (by rw[bY];simp_all)).2 ?_;rw[show decide (a<0)=false from by simp_all,show decide (c<a)=false from by simp_all,show decide (n<c)=false from by simp_all];obtain⟨k,rfl⟩:=aP (show 0<=c by omega);obtain⟨i,rfl⟩:=aP (show 0<=a by omega);obtain⟨m,rfl⟩:=aP z;rw[rz] at r A;have p:af.b .sub .i64 (k:Int) (i:Int)=((k-i:Nat):Int):=wh (by omega) (by omega);have l:af.k jr ((k-i:Nat):Int)=(((k-i+7)/8:Nat):Int):=by rw[bo,u6 (by omega) (by omega),rz]
  show aY (aaw af) _ (M_ (((unpack m b).take k).drop i),0);rw[p];have o:af.r (af.k jr ((k-i:Nat):Int)) (0:Int)=List.replicate ((k-i+7)/8) 0:=by rw[l,yJ,rz]
  have j:aY (aaw af) (.ao (.c0 ⟨0,(i:Int),(k:Int),((k-i:Nat):Int),(m:Int),b,0,((k-i:Nat):Int)⟩ (i:Int) (af.r (af.k jr ((k-i:Nat):Int)) (0:Int)))) (M_ (((unpack m b).take k).drop i),0):=by
   refine afk t (by omega) (by omega) (by omega) (by omega) (k-i) i _ _ rfl rfl rfl rfl rfl (by omega) (by omega) (by omega) ?_;rw[kD,mT,o];exact lW.blank _
  refine au.2 ⟨by rw[l,ug,Dz rfl,aB,bl,bl];grind,?_⟩;by_cases B:i%8=0
  ·refine(ak (Dz (by rw[EQ,B];rfl))).2 ?_
   by_cases q:k=m
   ·subst q
    refine(ak (Dz rfl)).2 (au.2 ⟨?_,au.2 ⟨?_,?_⟩⟩)
    ·rw[o]
     have:af.l (List.replicate ((k-i+7)/8) (0:Int))=(((k-i+7)/8:Nat):Int):=by show((List.replicate ((k-i+7)/8) (0:Int)).length:Int)=_;simp_all
     rw[this,ug,uh,bl,bl];simp[aB]
    ·have:af.l b=((b.length:Nat):Int):=rfl
     rw[vR (by omega),this,ug,uh,uh,bl,bl];grind
    ·have v:=U5 r (i:=i/8) (by omega)
     rw[show 8*(i/8)=i from by omega] at v;have C:((unpack k b).drop i).length=k-i:=by rw[cO,eY]
     rw[o,vR (by omega),T8];have x:af.mn (af.l (b.drop (i/8))) (af.b .sub .i64 (af.l (List.replicate ((k-i+7)/8) (0:Int))) 0)=((b.drop (i/8)).length:Int):=by
      show af.mn ((b.drop (i/8)).length:Int) (af.b .sub .i64 ((List.replicate ((k-i+7)/8) (0:Int)).length:Int) 0)=_;rw[I4,fO,lg (by omega) (by omega),nW,if_neg (by rw[cO];omega)]
     rw[x,iY,mW,rz,dW];have y:(List.replicate ((k-i+7)/8) (0:Int)).take (0:Int).toNat++(b.drop (i/8)).drop (0:Int).toNat++(List.replicate ((k-i+7)/8) (0:Int)).drop ((0:Int).toNat+((b.drop (i/8)).drop (0:Int).toNat).length)=b.drop (i/8):=by grind
     rw[y,v,cK (by grind),show M_ ((unpack k b).drop i)=(((k-i:Nat):Int),pack ((unpack k b).drop i)) from by rw[M_,C]];exact .ret _
   ·exact(ai (R4 (by omega))).2 j
  ·exact(ai (R4 (by rw[EQ];omega))).2 j
def xm:((Int×List Int)×Int×Int)->((Int×List Int)×Int):=Q8
def ar1:aK:=.all [(.struct [yI,yB]),yI,yI] [(.struct [yI,yB]),yI] xm
theorem ag1:Sd 323 ar1:=fa (bp ap dE sl 118 [⟨308,4, [[1,3,4,5,7,10], [6,8]]⟩] [] (λA ((l,j),i,m)=>al_ A l j i m) aaw aiJ (kz (fc func323 (fc func305 (fc func307 (fc func308 fz)))) (sc Mr (sc TU (sc aa2 (sc TY sz))))) (λA y=>match y with |.c0 p n o=>⟨57,sl,by kernel_rfl⟩) λ((l,j),i,m) q h=>alL h)
variable{l:List (Int×List Int)}
theorem Bi(h:Ty.jj [(.slice (.struct [(.int .i64),(.slice (.int .u8))]))] l):l.length<=140737488355328/\∀x∈l,gz x.2/\x.2.length<=140737488355328:=by
 have i:l.length<=gy/\∀x∈l,Ty.has (.struct [(.int .i64),(.slice (.int .u8))]) x:=h;exact⟨i.1,λx j=>⟨(sV (n:=x.1) (b:=x.2) (i.2 x j)).2.2,(sV (n:=x.1) (b:=x.2) (i.2 x j)).2.1⟩⟩
variable{α:Type}
theorem fM{l:List α}(h:i<l.length)(d:α):l.getD (i:Int).toNat d=l[i]:=by simp_all
theorem Gq(h:i<l.length):(af.n (.struct [(.int .i64),(.slice (.int .u8))]) l (i:Int):Int×List Int)=l[i]:=by
 exact fM h _
theorem df{l:List α}(h:i<l.length):af.and (af.bU 0 (i:Int)) (af.bG (i:Int) (af.l l))=true:=by
 have:af.l l=(l.length:Int):=rfl;rw[this,ug,bf,bl];simp_all
theorem aiA{x:Int×List Int}(h:jg x=true):(o6 x).length<=4096:=by
 rw[zP];simp[jg,fv,rR] at h;omega
theorem ZW{l:List Bool}(h:4096<l.length):ofS l=(zB,3):=by
 rw[ofS,show decide (4096<l.length)=true from by simpa using h];rfl
theorem yL(h:i<l.length):(l.take (i+1)).flatMap o6=(l.take i).flatMap o6++o6 l[i]:=by
 rw[bi h,lT];simp
theorem U2{l:List Bool}(h:l.length<=4096):ofS l=(M_ l,0):=by
 rw[ofS,show decide (4096<l.length)=false from by simpa using h];rfl
def amf(A:aU)(r:Int):LT Int Empty:=.br (A.bK (A.b .shr .u32 r 23) 1) (.ret (A.b .xor .u32 (A.b .and .u32 (A.b .shl .u32 r 1) 16777215) 6122955)) (.ret (A.b .and .u32 (A.b .shl .u32 r 1) 16777215))
def JI:Int->Int:=λr=>(amf af r).val (Ty.aS [(.int .u32)])
def asn:aK:=.all [(.int .u32)] [(.int .u32)] JI
theorem ag6:Sd 345 asn:=fa (aR ap dE sl 35 [] (λA r=>amf A r) (kz (fc func345 fz) sz))
theorem af7(h:0<=a)(i:a<=4294967295):IntKind.u32.wrap a=a:=IntWalk.u32_in a ⟨h,i⟩
theorem Uo{a b:Nat}(h:a<4294967296)(i:b<4294967296):af.b .xor .u32 (a:Int) (b:Int)=((a ^^^ b:Nat):Int):=by
 show IntKind.u32.wrap ((BitVec.ofInt 32 (a:Int) ^^^ BitVec.ofInt 32 (b:Int)).toNat:Int)=_;rw[fQ,fQ,BitVec.toNat_xor,fe,fe,g_ h,g_ i];have:a ^^^ b<2^32:=Nat.xor_lt_two_pow h i;rw[af7 (by omega) (by omega)]
theorem agi{a:Nat}(h:a<4294967296):af.b .and .u32 (a:Int) 16777215=((a%16777216:Nat):Int):=by
 show IntKind.u32.wrap ((BitVec.ofInt 32 (a:Int) &&& BitVec.ofInt 32 ((16777215:Nat):Int)).toNat:Int)=_;rw[fQ,fQ,BitVec.toNat_and,fe,fe,g_ h,show 16777215%2^32=2^24-1 from rfl,Nat.and_two_pow_sub_one_eq_mod,af7 (by omega) (by omega)]
theorem aaR{a k:Nat}(i:k<=32)(h:a*2^k<4294967296):af.b .shl .u32 (a:Int) (k:Int)=((a*2^k:Nat):Int):=by
 show IntKind.u32.wrap ((a:Int)*2^min (k:Int).toNat 32)=_;rw[rz,iF i,show(a:Int)*2^k=((a*2^k:Nat):Int) from by simp,af7 (by omega) (by omega)]
theorem Yf{r:Nat}(m:r<16777216):JI (r:Int)=((step1 r false:Nat):Int):=by
 simp[JI,amf,LT.val];have h:af.b .shr .u32 (r:Int) 23=((r/2^23:Nat):Int):=agZ (n:=23) (by omega) (by decide);have i:af.b .and .u32 (af.b .shl .u32 (r:Int) 1) 16777215=((2*r%16777216:Nat):Int):=by
  have j:af.b .shl .u32 (r:Int) 1=((r*2^1:Nat):Int):=aaR (k:=1) (by decide) (by omega);rw[j,agi (by omega),Nat.pow_one,mh]
 rw[h,i,step1,Bool.bne_false];have l:af.bK ((r/2^23:Nat):Int) 1=decide (8388608<=r):=by
  rw[bd,fE,rR,beq_iff_eq];omega
 rw[l];cases decide (8388608<=r)
 ·rfl
 ·have:af.b .xor .u32 ((2*r%16777216:Nat):Int) 6122955=((2*r%16777216 ^^^ 6122955:Nat):Int):=Uo (b:=6122955) (by omega) (by decide)
  simp_all
structure ahN where
 (a0 a1 a2 a3 a4 a5 a6 a7 a8 a9 iN kV a12 Dw Jv M9 a16 a17 O8 O9 a20 a21 a22 a23 a24 a25 a26 a27 a28 a29 a30 a31 a32:Int)
structure Wd where
 (b0 b2 b4 b5 b6 b7 b8 b9 b10 b11 b12 b13 Jy Em jf wu Uv Cf Uw O_ Pp b23 b24 b25 b26 b27 b28 b29 b30 b31 b32 b33 b34 b35:Int)
inductive acZ where
 | c0 (p:ahN)
 | c1 (p:Wd) (b1:Int) (b3:Int)
noncomputable def aiQ:acZ->iB
 | .c0 p=>⟨[⟨329,20,(en [(0,.ptr 0 0),(1,.ptr 1 0),(4,vi p.a0)]),sk f329 [1,1,0,1,0,0],[],none⟩],[.ay false [.int .u32 false p.a1,.int .u32 false p.a2,.int .u32 false p.a3,.int .u32 false p.a4,.int .u32 false p.a5,.int .u32 false p.a6,.int .u32 false p.a7,.int .u32 false p.a8,.int .u32 false p.a9,.int .u32 false p.iN,.int .u32 false p.kV,.int .u32 false p.a12,.int .u32 false p.Dw,.int .u32 false p.Jv,.int .u32 false p.M9,.int .u32 false p.a16],.ay false [.int .u32 false p.a17,.int .u32 false p.O8,.int .u32 false p.O9,.int .u32 false p.a20,.int .u32 false p.a21,.int .u32 false p.a22,.int .u32 false p.a23,.int .u32 false p.a24,.int .u32 false p.a25,.int .u32 false p.a26,.int .u32 false p.a27,.int .u32 false p.a28,.int .u32 false p.a29,.int .u32 false p.a30,.int .u32 false p.a31,.int .u32 false p.a32],.a_]⟩
 | .c1 p b1 b3=>⟨[⟨329,20,(en [(0,.ptr 0 0),(1,.ptr 1 0),(2,vi p.b0),(3,.int .u32 false b1),(4,vi p.b2),(10,vi b3)]),sk f329 [1,1,0,1,0,0,1,1,0,0,1,1,0,1,0,0],[],none⟩],[.ay false [.int .u32 false p.b4,.int .u32 false p.b5,.int .u32 false p.b6,.int .u32 false p.b7,.int .u32 false p.b8,.int .u32 false p.b9,.int .u32 false p.b10,.int .u32 false p.b11,.int .u32 false p.b12,.int .u32 false p.b13,.int .u32 false p.Jy,.int .u32 false p.Em,.int .u32 false p.jf,.int .u32 false p.wu,.int .u32 false p.Uv,.int .u32 false p.Cf],.ay false [.int .u32 false p.Uw,.int .u32 false p.O_,.int .u32 false p.Pp,.int .u32 false p.b23,.int .u32 false p.b24,.int .u32 false p.b25,.int .u32 false p.b26,.int .u32 false p.b27,.int .u32 false p.b28,.int .u32 false p.b29,.int .u32 false p.b30,.int .u32 false p.b31,.int .u32 false p.b32,.int .u32 false p.b33,.int .u32 false p.b34,.int .u32 false p.b35],.a_]⟩
def aum(A:aU):LT (List Int) acZ:=.ao (.c0 ⟨0,0,0,0,0,0,0,0,0,0,0,0,0,0,0,0,0,0,0,0,0,0,0,0,0,0,0,0,0,0,0,0,0⟩)
abbrev k_(A:aU)(p:Wd)(h:Int):=(A.set [p.Uw,p.O_,p.Pp,p.b23,p.b24,p.b25,p.b26,p.b27,p.b28,p.b29,p.b30,p.b31,p.b32,p.b33,p.b34,p.b35] p.b0 h)
def ap9(A:aU):acZ->LT (List Int) acZ
 | .c0 p=>.br (A.bG p.a0 16) (.ao (.c1 ⟨p.a0,p.a0,p.a1,p.a2,p.a3,p.a4,p.a5,p.a6,p.a7,p.a8,p.a9,p.iN,p.kV,p.a12,p.Dw,p.Jv,p.M9,p.a16,p.a17,p.O8,p.O9,p.a20,p.a21,p.a22,p.a23,p.a24,p.a25,p.a26,p.a27,p.a28,p.a29,p.a30,p.a31,p.a32⟩ (A.b .shl .u32 (A.v .u32 p.a0) 20) 0)) (.ret [p.a17,p.O8,p.O9,p.a20,p.a21,p.a22,p.a23,p.a24,p.a25,p.a26,p.a27,p.a28,p.a29,p.a30,p.a31,p.a32])
 | .c1 p b1 b3=>.br (A.bG b3 4) (.ao (.c1 p (A.k JI b1) (A.b .add .i64 b3 1))) (.ar (A.and (A.bU 0 p.b0) (A.bG p.b0 16)) (.ao (.c0 ⟨(A.b .add .i64 p.b2 1),p.b4,p.b5,p.b6,p.b7,p.b8,p.b9,p.b10,p.b11,p.b12,p.b13,p.Jy,p.Em,p.jf,p.wu,p.Uv,p.Cf,(A.n (.int .u32) (k_ A p b1) 0:Int),(A.n (.int .u32) (k_ A p b1) 1:Int),(A.n (.int .u32) (k_ A p b1) 2:Int),(A.n (.int .u32) (k_ A p b1) 3:Int),(A.n (.int .u32) (k_ A p b1) 4:Int),(A.n (.int .u32) (k_ A p b1) 5:Int),(A.n (.int .u32) (k_ A p b1) 6:Int),(A.n (.int .u32) (k_ A p b1) 7:Int),(A.n (.int .u32) (k_ A p b1) 8:Int),(A.n (.int .u32) (k_ A p b1) 9:Int),(A.n (.int .u32) (k_ A p b1) 10:Int),(A.n (.int .u32) (k_ A p b1) 11:Int),(A.n (.int .u32) (k_ A p b1) 12:Int),(A.n (.int .u32) (k_ A p b1) 13:Int),(A.n (.int .u32) (k_ A p b1) 14:Int),(A.n (.int .u32) (k_ A p b1) 15:Int)⟩)))
def goT{R Y:Type}(step:Y->LT R Y):Nat->LT R Y->Option R
 | 0,_=>none
 | _+1,.ret r=>some r
 | n+1,.ao y=>goT step n (step y)
 | n+1,.br b t e=>bif b then goT step n t else goT step n e
 | n+1,.ar b t=>bif b then goT step n t else none
 | _+1,_=>none
theorem YW{R:Type}{step:Y->LT R Y}:∀{n:Nat} {t:LT R Y} {r:R},goT step n t=some r->aY step t r:=by
 intro n
 induction n with
 | zero=>intro t r h;cases h
 | succ n ih=>
   intro t r h;cases t with
   | ret x=>cases h;exact .ret _
   | ao y=>exact .ao (ih h)
   | br b t e=>
     cases b
     ·exact(ai rfl).2 (ih h)
     ·exact(ak rfl).2 (ih h)
   | ar b t=>
     cases b
     ·cases h
     ·exact au.2 ⟨rfl,ih h⟩
   | eqs p t=>cases h
   | and a b=>cases h
   | bZ m s=>cases h
def auR:List Int:=[0,6122955,12245910,15185501,2677479,7714604,9568625,13593786,5354958,841733,15429208,11928467,7958313,2360034,12825791,10410356]
theorem ach:∀i:Fin 16,auR.getD i.val 0=((OU.getD i.val 0:Nat):Int):=by decide +kernel
theorem acg:∀i:Fin 16,OU.getD i.val 0<16777216:=by decide +kernel
theorem anq:aY (ap9 af) (aum af) auR:=YW (n:=400) (by kernel_rfl)
def q9:Unit->(List Int):=λ_=>[0,6122955,12245910,15185501,2677479,7714604,9568625,13593786,5354958,841733,15429208,11928467,7958313,2360034,12825791,10410356]
def asj:aK:=.all [] [(.arr 16 (.int .u32))] q9
theorem aqx:Sd 329 asj:=fa (bp ap dE sl 21 [⟨329,3, [[0,1,4]]⟩,⟨329,7, [[0,1,2,3,4,10]]⟩] [] (λA _=>aum A) ap9 aiQ (kz (fc func329 fz) (sc ag6 sz)) (λA y=>match y with |.c0 p=>⟨34,sl,by kernel_rfl⟩|.c1 p b1 b3=>⟨25,sl,by kernel_rfl⟩) λ_ i h=>anq)
structure E7 where
 (a0:Int) (a1:List (Int×List Int)) (a2 a3 a4 a5 a6 a7 a8 a9 iN kV a12 Dw Jv M9 a16 a17 O8 O9:Int)
structure Pd where
 (b2:List (Int×List Int)) (b3 b4 b5 b6 b7 b8 b9 b10 b11 b12 b13 Jy Em jf wu Uv Cf Uw O_:Int) (Pp:List Int)
structure Pe where
 (c2:List (Int×List Int)) (c3 c4 c5:Int) (c6:List Int) (c7 c8 c9 c10 c11 c12 c13 c14 Nn c16 c17 c18 c19 c20 c21 c22:Int)
inductive Us where
 | c0 (p:E7)
 | c1 (p:Pd) (b0:Int) (b1:Int)
 | c2 (p:Pe) (c0:Int) (c1:Int)
noncomputable def aiN:Us->iB
 | .c0 p=>⟨[⟨306,26,(en [(4,.ptr 0 0),(5,.int .u32 false p.a0),(10,.sl (.struct [yI,yB]) p.a1),(11,vi p.a2),(12,vi p.a3)]),sk f306 [1,1,1,0,1,0,0],[],none⟩],[.ay false [.int .u32 false p.a4,.int .u32 false p.a5,.int .u32 false p.a6,.int .u32 false p.a7,.int .u32 false p.a8,.int .u32 false p.a9,.int .u32 false p.iN,.int .u32 false p.kV,.int .u32 false p.a12,.int .u32 false p.Dw,.int .u32 false p.Jv,.int .u32 false p.M9,.int .u32 false p.a16,.int .u32 false p.a17,.int .u32 false p.O8,.int .u32 false p.O9],.a_]⟩
 | .c1 p b0 b1=>⟨[⟨330,57,(en [(0,.int .u32 false b0),(2,.ptr 0 0),(4,.ptr 1 0),(7,vi b1)]),sk f330 [1,1,0,0,0],[],none⟩,⟨306,26,(en [(4,.ptr 0 0),(10,.sl (.struct [yI,yB]) p.b2),(11,vi p.b3),(12,vi p.b4)]),(.ops (ow f306 [1,1,1,0,1,0,0,1,1,0,0,1,1]) ((ow f306 [1,1,1,0,1,0,0,1,1,0,0,1,1]).toList.drop 2)::sk f306 [1,1,1,0,1,0,0,1,1,0,0,1,1]),[],none⟩],[.ay false [.int .u32 false p.b5,.int .u32 false p.b6,.int .u32 false p.b7,.int .u32 false p.b8,.int .u32 false p.b9,.int .u32 false p.b10,.int .u32 false p.b11,.int .u32 false p.b12,.int .u32 false p.b13,.int .u32 false p.Jy,.int .u32 false p.Em,.int .u32 false p.jf,.int .u32 false p.wu,.int .u32 false p.Uv,.int .u32 false p.Cf,.int .u32 false p.Uw],.ay false [vi p.O_,.sl yU p.Pp],.a_]⟩
 | .c2 p c0 c1=>⟨[⟨330,57,(en [(0,.int .u32 false c0),(4,.ptr 0 0),(7,vi c1)]),sk f330 [1,1,1,0,0,0],[],none⟩,⟨306,26,(en [(4,.ptr 1 0),(10,.sl (.struct [yI,yB]) p.c2),(11,vi p.c3),(12,vi p.c4)]),(.ops (ow f306 [1,1,1,0,1,0,0,1,1,0,0,1,1]) ((ow f306 [1,1,1,0,1,0,0,1,1,0,0,1,1]).toList.drop 2)::sk f306 [1,1,1,0,1,0,0,1,1,0,0,1,1]),[],none⟩],[.ay false [vi p.c5,.sl yU p.c6],.ay false [.int .u32 false p.c7,.int .u32 false p.c8,.int .u32 false p.c9,.int .u32 false p.c10,.int .u32 false p.c11,.int .u32 false p.c12,.int .u32 false p.c13,.int .u32 false p.c14,.int .u32 false p.Nn,.int .u32 false p.c16,.int .u32 false p.c17,.int .u32 false p.c18,.int .u32 false p.c19,.int .u32 false p.c20,.int .u32 false p.c21,.int .u32 false p.c22],.a_]⟩
def auj(A:aU)(l:List (Int×List Int)):LT (Int×Int) Us:=.ao (.c0 ⟨0,l,(A.l l),0,(A.n (.int .u32) (A.k q9 ()) 0:Int),(A.n (.int .u32) (A.k q9 ()) 1:Int),(A.n (.int .u32) (A.k q9 ()) 2:Int),(A.n (.int .u32) (A.k q9 ()) 3:Int),(A.n (.int .u32) (A.k q9 ()) 4:Int),(A.n (.int .u32) (A.k q9 ()) 5:Int),(A.n (.int .u32) (A.k q9 ()) 6:Int),(A.n (.int .u32) (A.k q9 ()) 7:Int),(A.n (.int .u32) (A.k q9 ()) 8:Int),(A.n (.int .u32) (A.k q9 ()) 9:Int),(A.n (.int .u32) (A.k q9 ()) 10:Int),(A.n (.int .u32) (A.k q9 ()) 11:Int),(A.n (.int .u32) (A.k q9 ()) 12:Int),(A.n (.int .u32) (A.k q9 ()) 13:Int),(A.n (.int .u32) (A.k q9 ()) 14:Int),(A.n (.int .u32) (A.k q9 ()) 15:Int)⟩)
def Jc(A:aU):Us->LT (Int×Int) Us
 | .c0 p=>.br (A.bG p.a3 p.a2) (.ar (A.and (A.bU 0 p.a3) (A.bG p.a3 (A.l p.a1))) (.br (A.cu (A.k rT (A.n (.struct [yI,yB]) p.a1 p.a3:Int×List Int)) 0) (.ret (0,(A.k rT (A.n (.struct [yI,yB]) p.a1 p.a3:Int×List Int)))) (.ao (.c1 ⟨p.a1,p.a2,p.a3,p.a4,p.a5,p.a6,p.a7,p.a8,p.a9,p.iN,p.kV,p.a12,p.Dw,p.Jv,p.M9,p.a16,p.a17,p.O8,p.O9,(A.n (.struct [yI,yB]) p.a1 p.a3:Int×List Int).1,(A.n (.struct [yI,yB]) p.a1 p.a3:Int×List Int).2⟩ p.a0 0)))) (.ret (p.a0,0))
 | .c1 p b0 b1=>.br (A.bU (A.b .add .i64 b1 4) p.O_) (.ar (A.and (A.bU 0 (A.b .xor .u32 (A.b .shr .u32 b0 20) (A.v .u32 (A.k gx ((p.O_,p.Pp),b1,4)).1))) (A.bG (A.b .xor .u32 (A.b .shr .u32 b0 20) (A.v .u32 (A.k gx ((p.O_,p.Pp),b1,4)).1)) 16)) (.ao (.c1 p (A.b .xor .u32 (A.b .and .u32 (A.b .shl .u32 b0 4) 16777215) (A.n (.int .u32) [p.b5,p.b6,p.b7,p.b8,p.b9,p.b10,p.b11,p.b12,p.b13,p.Jy,p.Em,p.jf,p.wu,p.Uv,p.Cf,p.Uw] (A.b .xor .u32 (A.b .shr .u32 b0 20) (A.v .u32 (A.k gx ((p.O_,p.Pp),b1,4)).1)):Int)) (A.b .add .i64 b1 4)))) (.ao (.c2 ⟨p.b2,p.b3,p.b4,p.O_,p.Pp,p.b5,p.b6,p.b7,p.b8,p.b9,p.b10,p.b11,p.b12,p.b13,p.Jy,p.Em,p.jf,p.wu,p.Uv,p.Cf,p.Uw⟩ b0 b1))
 | .c2 p c0 c1=>.br (A.bG c1 p.c5) (.ao (.c2 p (A.k JI (A.b .xor .u32 c0 (A.b .shl .u32 (A.v .u32 (A.k gx ((p.c5,p.c6),c1,1)).1) 23))) (A.b .add .i64 c1 1))) (.ao (.c0 ⟨c0,p.c2,p.c3,(A.b .add .i64 p.c4 1),p.c7,p.c8,p.c9,p.c10,p.c11,p.c12,p.c13,p.c14,p.Nn,p.c16,p.c17,p.c18,p.c19,p.c20,p.c21,p.c22⟩))
theorem Pw{β γ:Type}(f:α->β->γ){a h:α}{b i:β}(j:a=h)(l:b=i):f a b=f h i:=by simp_all
def tbA(p:E7):Prop:=p.a4=0/\p.a5=6122955/\p.a6=12245910/\p.a7=15185501/\p.a8=2677479/\p.a9=7714604/\p.iN=9568625/\p.kV=13593786/\p.a12=5354958/\p.Dw=841733/\p.Jv=15429208/\p.M9=11928467/\p.a16=7958313/\p.a17=2360034/\p.O8=12825791/\p.O9=10410356
def tbB(p:Pd):Prop:=p.b5=0/\p.b6=6122955/\p.b7=12245910/\p.b8=15185501/\p.b9=2677479/\p.b10=7714604/\p.b11=9568625/\p.b12=13593786/\p.b13=5354958/\p.Jy=841733/\p.Em=15429208/\p.jf=11928467/\p.wu=7958313/\p.Uv=2360034/\p.Cf=12825791/\p.Uw=10410356
def tbC(p:Pe):Prop:=p.c7=0/\p.c8=6122955/\p.c9=12245910/\p.c10=15185501/\p.c11=2677479/\p.c12=7714604/\p.c13=9568625/\p.c14=13593786/\p.Nn=5354958/\p.c16=841733/\p.c17=15429208/\p.c18=11928467/\p.c19=7958313/\p.c20=2360034/\p.c21=12825791/\p.c22=10410356
theorem YV{n a w:Nat}(i:jg ((n:Int),b)=true)(h:a+w<=n)(l:w<=64)(j:n<=4096):af.k gx (((n:Int),b),(a:Int),(w:Int))=(((IW (unpack n b) a w:Nat):Int),0):=by
 rw[bo,gx,aef];simp only[i];rw[show decide ((w:Int)<0)=false from by simp,show decide (64<(w:Int))=false from by simp;omega,show decide ((a:Int)<0)=false from by simp,show decide ((n:Int)<(a:Int)+(w:Int))=false from by simp;omega];rfl
theorem OV{l:List Bool}{a w:Nat}(h:a+w<=l.length):l.take (a+w)=l.take a++bitsOf (IW l a w) w:=by
 rw[X3 h,List.take_add]
theorem Xz{n:Nat}(h:n<4294967296):af.v .u32 (n:Int)=(n:Int):=by rw[G8,af7 (by omega) (by omega)]
theorem al2{n:Nat}{R:Int×Int}{h:Nat}(B:h<16777216)(A:jg ((n:Int),b)=true)(N:n<=4096)(K:l.length<=140737488355328)(Q:i<l.length)
  (m:∀(p:E7),tbA p->p.a1=l->p.a2=(l.length:Int)->p.a3=((i+1:Nat):Int)->p.a0=((over h (unpack n b):Nat):Int)->aY (Jc af) (.ao (.c0 p)) R) :
  ∀(j k:Nat) (p:Pe),tbC p->p.c2=l->p.c3=(l.length:Int)->p.c4=(i:Int)->p.c5=(n:Int)->p.c6=b->n-k=j->k<=n->aY (Jc af) (.ao (.c2 p ((over h ((unpack n b).take k):Nat):Int) (k:Int))) R:=by
 intro j
 induction j with
 | zero=>
   intro k p D t u v o y I J;have:k=n:=by omega
   subst this;simp[aA];refine(ai (by rw[o,bf];simp)).2 ?_;rw[cK (by rw[eY];omega)];exact m _ D t u (by show af.b .add .i64 p.c4 1=_;rw[v,h_ (by omega)]) rfl
 | succ j ih=>
   intro k p D t u v o y I J;simp[aA];have H:af.k gx ((p.c5,p.c6),(k:Int),1)=(((IW (unpack n b) k 1:Nat):Int),0):=by
    rw[o,y];exact YV A (w:=1) (by omega) (by decide) N
   have q:=LA B ((unpack n b).take k);have P:=PR (unpack n b) k 1;have r:=OV (l:=unpack n b) (a:=k) (w:=1) (by rw[eY];omega);obtain⟨x,F⟩:∃x:Bool,IW (unpack n b) k 1=x.toNat:=by
    by_cases O:IW (unpack n b) k 1=0
    ·simp_all
    ·exact⟨true,by grind⟩
   have z:bitsOf x.toNat 1=[x]:=by cases x<;>rfl
   rw[F,z] at r;have C:af.b .xor .u32 ((over h ((unpack n b).take k):Nat):Int) (af.b .shl .u32 (af.v .u32 (af.k gx ((p.c5,p.c6),(k:Int),1)).1) 23)=((over h ((unpack n b).take k) ^^^ (x.toNat*8388608):Nat):Int):=by
    rw[H,F,Xz (by omega),show af.b .shl .u32 ((x.toNat:Nat):Int) 23=((x.toNat*2^23:Nat):Int) from aaR (k:=23) (by decide) (by omega)];exact Uo (by omega) (by omega)
   have E:over h ((unpack n b).take k) ^^^ (x.toNat*8388608)<16777216:=Nat.xor_lt_two_pow (n:=24) q (by omega);have G:af.k JI (af.b .xor .u32 ((over h ((unpack n b).take k):Nat):Int) (af.b .shl .u32 (af.v .u32 (af.k gx ((p.c5,p.c6),(k:Int),1)).1) 23))=((over h ((unpack n b).take (k+1)):Nat):Int):=by
    rw[C,bo,Yf E,abp q,r,xK,pj,Gu]
   refine(ak (by rw[o,bf];grind)).2 (?_);exact lV (congrArg LT.ao (congr (congrArg (Us.c2 p) G) (h_ (by omega)))) (ih (k+1) p D t u v o y (by omega) (by omega))
theorem al1{n:Nat}{R:Int×Int}{z:Nat}(u:z<16777216)(t:jg ((n:Int),b)=true)(S:n<=4096)(F:l.length<=140737488355328)(Z:i<l.length)
  (h:∀(p:E7),tbA p->p.a1=l->p.a2=(l.length:Int)->p.a3=((i+1:Nat):Int)->p.a0=((over z (unpack n b):Nat):Int)->aY (Jc af) (.ao (.c0 p)) R) :
  ∀(j k:Nat) (p:Pd),tbB p->p.b2=l->p.b3=(l.length:Int)->p.b4=(i:Int)->p.O_=(n:Int)->p.Pp=b->(n-k)/4=j->k<=n->aY (Jc af) (.ao (.c1 p ((over z ((unpack n b).take k):Nat):Int) (k:Int))) R:=by
 intro j
 induction j with
 | zero=>
   intro k p B C D E m A hj Q;simp[aA,Jc];refine(ai (by rw[show af.b .add .i64 (k:Int) 4=((k+4:Nat):Int) from jy (j:=4) (by omega),m,uh];simp;omega)).2 ?_;exact al2 u t S F Z h (n-k) k _ B C D E m A rfl Q
 | succ j ih=>
   intro k p B C D E m A hj Q;simp only[aA,Jc];have Y:af.k gx ((p.O_,p.Pp),(k:Int),4)=(((IW (unpack n b) k 4:Nat):Int),0):=by
    rw[m,A];exact YV t (w:=4) (by omega) (by decide) S
   have G:=LA u ((unpack n b).take k);have X:=PR (unpack n b) k 4;have H:=OV (l:=unpack n b) (a:=k) (w:=4) (by rw[eY];omega);have o:=U4 G (l:=bitsOf (IW (unpack n b) k 4) 4) (mo _ _);rw[Lv,g_ X,<-xK,<-H] at o;generalize hr:over z ((unpack n b).take k)=r at *;generalize hv:IW (unpack n b) k 4=v at *;have q:af.b .xor .u32 (af.b .shr .u32 (r:Int) 20) (af.v .u32 (af.k gx ((p.O_,p.Pp),(k:Int),4)).1)=((r/1048576 ^^^ v:Nat):Int):=by
    rw[Y,Xz (by omega),show af.b .shr .u32 (r:Int) 20=((r/2^20:Nat):Int) from agZ (n:=20) (by omega) (by decide)];exact Uo (by omega) (by omega)
   have y:r/1048576 ^^^ v<16:=VT ⟨r/1048576,by omega⟩ ⟨v,by omega⟩;have x:(af.n (.int .u32) [p.b5,p.b6,p.b7,p.b8,p.b9,p.b10,p.b11,p.b12,p.b13,p.Jy,p.Em,p.jf,p.wu,p.Uv,p.Cf,p.Uw] (((r/1048576 ^^^ v:Nat):Int)):Int)=((OU.getD (r/1048576 ^^^ v) 0:Nat):Int):=by
    rw[<-ach ⟨r/1048576 ^^^ v,y⟩];obtain⟨t0,t1,t2,t3,t4,t5,t6,t7,t8,t9,I,J,K,N,O,P⟩:=B;show List.getD [p.b5,p.b6,p.b7,p.b8,p.b9,p.b10,p.b11,p.b12,p.b13,p.Jy,p.Em,p.jf,p.wu,p.Uv,p.Cf,p.Uw] ((r/1048576 ^^^ v:Nat):Int).toNat 0=_;rw[rz,t0,t1,t2,t3,t4,t5,t6,t7,t8,t9,I,J,K,N,O,P];rfl
   have W:af.b .xor .u32 (af.b .and .u32 (af.b .shl .u32 (r:Int) 4) 16777215) (af.n (.int .u32) [p.b5,p.b6,p.b7,p.b8,p.b9,p.b10,p.b11,p.b12,p.b13,p.Jy,p.Em,p.jf,p.wu,p.Uv,p.Cf,p.Uw] (af.b .xor .u32 (af.b .shr .u32 (r:Int) 20) (af.v .u32 (af.k gx ((p.O_,p.Pp),(k:Int),4)).1)):Int)=((over z ((unpack n b).take (k+4)):Nat):Int):=by
    rw[q];have V:af.b .and .u32 (af.b .shl .u32 (r:Int) 4) 16777215=((16*r%16777216:Nat):Int):=by
     rw[show af.b .shl .u32 (r:Int) 4=((r*2^4:Nat):Int) from aaR (k:=4) (by decide) (by omega),agi (by omega),mh]
    refine(Pw (af.b .xor .u32) V x).trans ?_;rw[o];exact Uo (by omega) (by have:=acg ⟨_,y⟩;grind)
   refine(ak (by rw[show af.b .add .i64 (k:Int) 4=((k+4:Nat):Int) from jy (j:=4) (by omega),m,uh];simp;omega)).2 (au.2 ⟨?_,?_⟩)
   ·rw[q,ug,bl,aN];simp;omega
   ·have:=ih (k+4) p B C D E m A (by omega) (by omega)
    exact lV (congrArg LT.ao (congr (congrArg (Us.c1 p) W) (show af.b .add .i64 (k:Int) 4=((k+4:Nat):Int) from jy (j:=4) (by omega)))) this
theorem al0(E:l.length<=140737488355328)(D:∀x∈l,gz x.2/\x.2.length<=140737488355328):∀(j i:Nat) (p:E7),tbA p->p.a1=l->p.a2=(l.length:Int)->p.a3=(i:Int)->p.a0=((over 0 ((l.take i).flatMap o6):Nat):Int)->l.length-i=j->i<=l.length->(∀x∈l.take i,jg x=true)->aY (Jc af) (.ao (.c0 p)) (VK l):=by
 intro j
 induction j with
 | zero=>
   intro i p H y z B v V S o;have:i=l.length:=by omega
   subst this;rw[dW] at o v;simp[aA];refine(ai (by rw[z,B,bf];simp)).2 ?_;rw[VK,bH.2 o,v];exact .ret _
 | succ j ih=>
   intro i p H y z B v V S o;have m:i<l.length:=by omega
   have q:=cN m;simp[aA,Jc];rw[B];refine(ak (by rw[z,bf];simp_all)).2 (au.2 ⟨by rw[y];exact df m,?_⟩);obtain⟨t,b,A⟩:∃t b,l[i]=(t,b):=⟨_,_,rfl⟩;have h:=D _ q;rw[A] at h;have G:(af.n (.struct [(.int .i64),(.slice (.int .u8))]) p.a1 (i:Int):Int×List Int)=(t,b):=by rw[y,Gq m,A]
   rw[G];have Q:af.k rT (t,b)=bif jg (t,b) then 0 else 10:=Bg h.1 h.2
   rw[Q];cases hb:jg (t,b)
   ·refine(ak rfl).2 ?_
    rw[VK,show l.all jg=false from List.all_eq_false.2 ⟨l[i],q,by simp_all⟩];exact .ret _
   ·refine(ai rfl).2 ?_
    obtain⟨P,Y,Z⟩:=(sJ h.1).1 hb;obtain⟨n,rfl⟩:=aP P;have F:=LA (r:=0) (by decide) ((l.take i).flatMap o6);have W:=al1 F hb (by omega) E m (R:=VK l) (λX I J K N O=>ih (i+1) X I J K N (by rw[O,yL m,xK,A];rfl) (by omega) (by omega) (by
     intro x u;rw[bi m] at u;rcases nY.1 u with C|C
     ·exact o x C
     ·rw[aJ.1 C,A];exact hb)) (n/4) 0 ⟨p.a1,p.a2,(i:Int),p.a4,p.a5,p.a6,p.a7,p.a8,p.a9,p.iN,p.kV,p.a12,p.Dw,p.Jv,p.M9,p.a16,p.a17,p.O8,p.O9,(n:Int),b⟩ H y z rfl rfl rfl (by omega) (by omega)
    rw[mT,Gu,<-v] at W;omega
theorem aw0(h:Ty.jj [(.slice (.struct [(.int .i64),(.slice (.int .u8))]))] l):aY (Jc af) (auj af l) (VK l):=by
 exact al0 (Bi h).1 (Bi h).2 l.length 0 _ ⟨rfl,rfl,rfl,rfl,rfl,rfl,rfl,rfl,rfl,rfl,rfl,rfl,rfl,rfl,rfl,rfl⟩ rfl rfl rfl rfl (by omega) (by omega) (by simp_all)
def FI:(List (Int×List Int))->(Int×Int):=VK
def ar_:aK:=.all [(.slice (.struct [yI,yB]))] [(.int .u32),yI] FI
theorem ag4:Sd 306 ar_:=fa (bp ap dE sl 30 [⟨306,4, [[4,5,10,11,12]]⟩,⟨330,2, [[0,2,4,7], [4,10,11,12]]⟩,⟨330,6, [[0,4,7], [4,10,11,12]]⟩] [] (λA l=>auj A l) Jc aiN (kz (fc func306 (fc func330 fz)) (sc Mr (sc TW (sc aqx (sc ag6 sz))))) (λA y=>match y with |.c0 p=>⟨52,sl,by kernel_rfl⟩|.c1 p b0 b1=>⟨52,sl,by kernel_rfl⟩|.c2 p c0 c1=>⟨44,sl,by kernel_rfl⟩) λl i h=>aw0 h)
abbrev OS(A:aU)(h:Int)(i:List Int):=(A.k xm ((h,i),0,(A.b .sub .i64 h 24)))
def t139(A:aU)(j:Int)(l:List Int)(i:Int)(h:List Int):LT ((Int×List Int)×Int) Empty:=.br (A.cu (A.k rT (j,l)) 0) (.ret ((0,([]:List Int)),10)) (.br (A.cu (A.k rT (i,h)) 0) (.ret ((0,([]:List Int)),10)) (.br (A.bG j 24) (.ret ((0,([]:List Int)),20)) (.br (A.cu (A.k FI [(i,h),(OS A j l).1]).2 0) (.ret ((0,([]:List Int)),(A.k FI [(i,h),(OS A j l).1]).2)) (.br (A.cu (A.v .u64 (A.k FI [(i,h),(OS A j l).1]).1) (A.k gx ((j,l),(OS A j l).1.1,24)).1) (.ret ((0,([]:List Int)),21)) (.ret ((OS A j l).1,0))))))
def q8:((Int×List Int)×(Int×List Int))->((Int×List Int)×Int):=λ((l,j),i,h)=>(t139 af l j i h).val (Ty.aS [(.struct [yI,yB]),yI])
def ar0:aK:=.all [(.struct [yI,yB]),(.struct [yI,yB])] [(.struct [yI,yB]),yI] q8
theorem aqo:Sd 322 ar0:=fa (aR ap dE sl 100 [] (λA ((l,j),i,h)=>t139 A l j i h) (kz (fc func322 fz) (sc Mr (sc TW (sc ag1 (sc ag4 sz))))))
def auh(A:aU)(l:Int)(m:Int)(i:Int)(j:Int)(h:Int):LT (List Int) Empty:=.ret [l,m,i,j,h]
def JH:((Int×Int×Int×Int×Int))->(List Int):=λ(l,m,i,j,h)=>(auh af l m i j h).val (Ty.aS [(.arr 5 yI)])
def arT:aK:=.all [(.struct [yI,yI,yI,yI,yI])] [(.arr 5 yI)] JH
theorem aqk:Sd 238 arT:=fa (aR ap dE sl 26 [] (λA (l,m,i,j,h)=>auh A l m i j h) (kz (fc func238 fz) sz))
structure aga where
 (a0 a1 a2 a3 a4 a6 a7 a8 a9 iN:Int)
inductive Y87 where
 | c0 (p:aga) (a5:Int)
noncomputable def anT:Y87->iB
 | .c0 p a5=>⟨[⟨190,36,(en [(5,.ptr 0 0),(21,.agg [vi p.a0,vi p.a1,vi p.a2,vi p.a3,vi p.a4]),(22,vi a5)]),sk f190 [1,1,1,0,1,0,0],[],none⟩],[.ay false [vi p.a6,vi p.a7,vi p.a8,vi p.a9,vi p.iN],.a_]⟩
def t87(A:aU)(l:Int)(m:Int)(i:Int)(j:Int)(h:Int)(n:Int):LT Int Y87:=.br (A.bG n 4) (.ret 2) (.br (A.ji n 8) (.ret 2) (.ar (A.bU 0 n) (.ao (.c0 ⟨(A.n yI (A.k JH (l,m,i,j,h)) 0:Int),(A.n yI (A.k JH (l,m,i,j,h)) 1:Int),(A.n yI (A.k JH (l,m,i,j,h)) 2:Int),(A.n yI (A.k JH (l,m,i,j,h)) 3:Int),(A.n yI (A.k JH (l,m,i,j,h)) 4:Int),255,(A.b .sub .i64 n 1),3,4,(A.b .sub .i64 (A.b .shl .i64 1 n) 1)⟩ 0))))
def s87(A:aU):Y87->LT Int Y87
 | .c0 p a5=>.br (A.bG a5 5) (.ar (A.and (A.bU 0 a5) (A.bG a5 5)) (.br (A.bG (A.n yI [p.a0,p.a1,p.a2,p.a3,p.a4] a5:Int) 0) (.ret 40) (.ar (A.and (A.bU 0 a5) (A.bG a5 5)) (.br (A.ji (A.n yI [p.a0,p.a1,p.a2,p.a3,p.a4] a5:Int) (A.n yI [p.a6,p.a7,p.a8,p.a9,p.iN] a5:Int)) (.ret 40) (.ao (.c0 p (A.b .add .i64 a5 1))))))) (.ret 0)
theorem agY{k:Nat}(h:k<=60):af.b .shl .i64 1 (k:Int)=((2^k:Nat):Int):=by
 show IntKind.i64.wrap ((1:Int)*2^min (k:Int).toNat 64)=_;have:2^k<=2^60:=fR (by decide) h;have e:(2:Int)^k=((2^k:Nat):Int):=by simp
 rw[rz,iF (by omega),Int.one_mul,e];generalize 2^k=q at this;rw[lg (by omega) (by omega)]
theorem anX{x:Int}(h:u=v):af.bG u x=decide (v<x):=by rw[h];rfl
theorem anW{h i:Int}(j:u=h)(l:v=i):af.ji u v=decide (i<h):=by rw[j,l];rfl
variable{m:Int}
theorem w8{p:aga}{i r:Int}(o:0<=i)(x:i<5)(h:(af.n (.int .i64) [p.a0,p.a1,p.a2,p.a3,p.a4] i:Int)=v)(l:(af.n (.int .i64) [p.a6,p.a7,p.a8,p.a9,p.iN] i:Int)=m)
  (q:(decide (0<=v)&&decide (v<=m))=true->aY (s87 af) (.ao (.c0 p (i+1))) r) (j:(decide (0<=v)&&decide (v<=m))=false->r=40):aY (s87 af) (.ao (.c0 p i)) r:=by
 rw[aA,s87];have n:af.and (af.bU 0 i) (af.bG i 5)=true:=by rw[bl,aB,aN];simp_all
 refine(ak (by rw[aN];simp_all)).2 (au.2 ⟨n,?_⟩);by_cases t:v<0
 ·refine(ak ((anX h).trans (by simp_all))).2 ?_
  rw[j (by grind)];exact .ret _
 ·refine(ai ((anX h).trans (by simp_all))).2 (au.2 ⟨n,?_⟩)
  by_cases u:m<v
  ·refine(ak ((anW h l).trans (by simp_all))).2 ?_
   rw[j (by simp_all)];exact .ret _
  ·refine(ai ((anW h l).trans (by simp_all))).2 ?_
   rw[gp,lg (by omega) (by omega)]
   simp_all
variable{s:Int}
theorem avC{t o k:Int}:aY (s87 af) (t87 af t o m n s k) (qZ ((t,o,m,n,s),k)):=by
 rw[qZ];by_cases q:k<4
 ·refine(ak (by rw[aN];simp_all)).2 ?_
  rw[show decide (k<4)=true from by simp_all];exact .ret _
 refine(ai (by rw[aN];simp_all)).2 ?_;by_cases r:8<k
 ·refine(ak (by rw[bY];simp_all)).2 ?_
  rw[show decide (8<k)=true from by simp_all,kx];exact .ret _
 refine(ai (by rw[bY];simp_all)).2 (au.2 ⟨by rw[aB];grind,?_⟩);rw[show decide (k<4)=false from by simp_all,show decide (8<k)=false from by simp_all,Bool.or_false,cond_false];have h:af.b .sub .i64 k 1=k-1:=by rw[fO,lg (by omega) (by omega)]
 have l:af.b .sub .i64 (af.b .shl .i64 1 k) 1=2^k.toNat-1:=by
  obtain⟨j,rfl⟩:=aP (show 0<=k by omega);have u:2^j<=2^60:=fR (by decide) (by omega);have p:=Nat.two_pow_pos j;have e:(2:Int)^j=((2^j:Nat):Int):=by simp
  rw[agY (by omega),rz,e];rw[fO,lg (by omega) (by omega)]
 rw[h,l];refine w8 (v:=t) (m:=255) (by decide) (by decide) rfl rfl (λg=>?_) (λg=>by grind);rw[g,Bool.true_and];refine w8 (i:=1) (v:=o) (m:=k-1) (by decide) (by decide) rfl rfl (λg=>?_) (λg=>by grind);rw[g,Bool.true_and];refine w8 (i:=2) (v:=m) (m:=3) (by decide) (by decide) rfl rfl (λg=>?_) (λg=>by grind);rw[g,Bool.true_and];refine w8 (i:=3) (v:=n) (m:=4) (by decide) (by decide) rfl rfl (λg=>?_) (λg=>by rw[g];rfl);rw[g,cY];refine w8 (i:=4) (v:=s) (m:=2^k.toNat-1) (by decide) (by decide) rfl rfl (λg=>?_) (λg=>by grind);rw[g,aA,s87];exact(ai rfl).2 (.ret _)
def xw:((Int×Int×Int×Int×Int)×Int)->Int:=qZ
def awW:aK:=.all [(.struct [yI,yI,yI,yI,yI]),yI] [yI] xw
theorem Mq:Sd 190 awW:=fa (bp ap dE sl 43 [⟨190,5, [[5,21,22]]⟩] [] (λA ((m,o,j,l,i),n)=>t87 A m o j l i n) s87 anT (kz (fc func190 fz) (sc aqk sz)) (λA y=>match y with |.c0 p q=>⟨41,sl,by kernel_rfl⟩) λ((m,o,j,l,i),n) r h=>avC)
def t42(A:aU)(l:Int)(m:Int)(i:Int)(j:Int)(h:Int)(n:Int):LT Int Empty:=.br (A.bG n 4) (.ret 2) (.br (A.ji n 8) (.ret 2) (.br (A.bG l 0) (.ret 40) (.br (A.ji l 255) (.ret 40) (.br (A.bG m 0) (.ret 40) (.br (A.nM m n) (.ret 40) (.br (A.bG i 0) (.ret 40) (.br (A.nM i 4) (.ret 40) (.br (A.bG j 0) (.ret 40) (.br (A.ji j 4) (.ret 40) (.br (A.bG h 0) (.ret 40) (.ar (A.bU 0 (A.v .u64 n)) (.br (A.nM h (A.b .shl .i64 1 (A.v .u64 n))) (.ret 40) (.ret 0)))))))))))))
theorem avB{t l k:Int}:aY Empty.elim (t42 af t l m n s k) (qZ ((t,l,m,n,s),k)):=by
 rw[qZ];by_cases E:k<4
 ·refine(ak (by rw[aN];simp_all)).2 ?_
  rw[show decide (k<4)=true from by simp_all];exact .ret _
 refine(ai (by rw[aN];simp_all)).2 ?_;by_cases F:8<k
 ·refine(ak (by rw[bY];simp_all)).2 ?_
  rw[show decide (8<k)=true from by simp_all,kx];exact .ret _
 refine(ai (by rw[bY];simp_all)).2 ?_;rw[show decide (k<4)=false from by simp_all,show decide (8<k)=false from by simp_all,Bool.or_false,cond_false];obtain⟨j,rfl⟩:=aP (show 0<=k by omega);have e:(2:Int)^j=((2^j:Nat):Int):=by simp
 rw[XA (by omega),agY (by omega),rz,e];have i:∀{x:Bool},x=false->(40:Int)=bif x then 0 else 40:=λh=>by simp_all
 by_cases r:t<0
 ·refine(ak (by rw[aN];simp_all)).2 (jV.2 (i (by grind)))
 refine(ai (by rw[aN];simp_all)).2 ?_;by_cases u:255<t
 ·refine(ak (by rw[bY];simp_all)).2 (jV.2 (i (by grind)))
 refine(ai (by rw[bY];simp_all)).2 ?_;by_cases v:l<0
 ·refine(ak (by rw[aN];simp_all)).2 (jV.2 (i (by grind)))
 refine(ai (by rw[aN];simp_all)).2 ?_;by_cases y:(j:Int)<=l
 ·refine(ak (by rw[gq];simp_all)).2 (jV.2 (i (by grind)))
 refine(ai (by rw[gq];simp_all)).2 ?_;by_cases z:m<0
 ·refine(ak (by rw[aN];simp_all)).2 (jV.2 (i (by grind)))
 refine(ai (by rw[aN];simp_all)).2 ?_;by_cases A:4<=m
 ·refine(ak (by rw[gq];simp_all)).2 (jV.2 (i (by grind)))
 refine(ai (by rw[gq];simp_all)).2 ?_;by_cases B:n<0
 ·refine(ak (by rw[aN];simp_all)).2 (jV.2 (i (by grind)))
 refine(ai (by rw[aN];simp_all)).2 ?_;by_cases C:4<n
 ·refine(ak (by rw[bY];simp_all)).2 (jV.2 (i (by grind)))
 refine(ai (by rw[bY];simp_all)).2 ?_;by_cases D:s<0
 ·refine(ak (by rw[aN];simp_all)).2 (jV.2 (i (by grind)))
 refine(ai (by rw[aN];simp_all)).2 (au.2 ⟨ug,?_⟩);have p:∀{x:Bool},x=true->(0:Int)=bif x then 0 else 40:=λh=>by simp_all
 generalize ((2^j:Nat):Int)=q;by_cases o:q<=s
 ·refine(ak (by rw[gq];grind)).2 (jV.2 (i (by grind)))
 refine(ai (by rw[gq];grind)).2 (jV.2 (p (by grind)))
def an_:((Int×Int×Int×Int×Int)×Int)->Int:=qZ
def awG:aK:=.all [(.struct [yI,yI,yI,yI,yI]),yI] [yI] an_
theorem awm:Sd 128 awG:=fa (bM ap dE sl 85 [] (λA ((m,o,j,l,i),n)=>t42 A m o j l i n) (kz (fc func128 fz) sz) λ((m,o,j,l,i),n) p h=>avB)
abbrev ace(A:aU)(h:Int):=(A.k tX ((0,([]:List Int)),(A.v .u64 h),8))
abbrev anp(A:aU)(i:Int)(j:Int)(h:Int):=(A.k tX ((A.k tX ((ace A i).1,(A.v .u64 j),3)).1,(A.v .u64 h),2))
abbrev acf(A:aU)(j:Int)(l:Int)(h:Int)(i:Int):=(A.k tX ((anp A j l h).1,(A.v .u64 i),3))
def t90(A:aU)(h:Int)(j:Int)(i:Int)(m:Int)(l:Int):LT ((Int×List Int)×Int) Empty:=.br (A.cu (A.k xw ((h,j,i,m,l),8)) 0) (.ret ((0,([]:List Int)),40)) (.br (A.cu (ace A h).2 0) (.ret ((0,([]:List Int)),(ace A h).2)) (.br (A.cu (A.k tX ((ace A h).1,(A.v .u64 j),3)).2 0) (.ret ((0,([]:List Int)),(A.k tX ((ace A h).1,(A.v .u64 j),3)).2)) (.br (A.cu (anp A h j i).2 0) (.ret ((0,([]:List Int)),(anp A h j i).2)) (.br (A.cu (acf A h j i m).2 0) (.ret ((0,([]:List Int)),(acf A h j i m).2)) (.br (A.cu (A.k tX ((acf A h j i m).1,(A.v .u64 l),8)).2 0) (.ret ((0,([]:List Int)),(A.k tX ((acf A h j i m).1,(A.v .u64 l),8)).2)) (.ret ((A.k tX ((acf A h j i m).1,(A.v .u64 l),8)).1,0)))))))
def NR:((Int×Int×Int×Int×Int))->((Int×List Int)×Int):=λ(l,m,i,j,h)=>(t90 af l m i j h).val (Ty.aS [(.struct [yI,yB]),yI])
def awX:aK:=.all [(.struct [yI,yI,yI,yI,yI])] [(.struct [yI,yB]),yI] NR
theorem arM:Sd 207 awX:=fa (aR ap dE sl 335 [] (λA (l,m,i,j,h)=>t90 A l m i j h) (kz (fc func207 (fc func238 (fc func258 fz))) (sc Mq (sc aa1 sz))))
def auf(A:aU)(h:Int)(i:List Int):LT ((Int×Int×Int×Int×Int)×Int) Empty:=.br (A.cu (A.k rT (h,i)) 0) (.ret ((0,0,0,0,0),10)) (.br (A.cu h 24) (.ret ((0,0,0,0,0),40)) (.br (A.cu (A.k gx ((h,i),0,8)).2 0) (.ret ((0,0,0,0,0),(A.k gx ((h,i),0,8)).2)) (.br (A.cu (A.k gx ((h,i),8,3)).2 0) (.ret ((0,0,0,0,0),(A.k gx ((h,i),8,3)).2)) (.br (A.cu (A.k gx ((h,i),11,2)).2 0) (.ret ((0,0,0,0,0),(A.k gx ((h,i),11,2)).2)) (.br (A.cu (A.k gx ((h,i),13,3)).2 0) (.ret ((0,0,0,0,0),(A.k gx ((h,i),13,3)).2)) (.br (A.cu (A.k gx ((h,i),16,8)).2 0) (.ret ((0,0,0,0,0),(A.k gx ((h,i),16,8)).2)) (.br (A.cu (A.k xw (((A.v .i64 (A.k gx ((h,i),0,8)).1),(A.v .i64 (A.k gx ((h,i),8,3)).1),(A.v .i64 (A.k gx ((h,i),11,2)).1),(A.v .i64 (A.k gx ((h,i),13,3)).1),(A.v .i64 (A.k gx ((h,i),16,8)).1)),8)) 0) (.ret ((0,0,0,0,0),40)) (.ret (((A.v .i64 (A.k gx ((h,i),0,8)).1),(A.v .i64 (A.k gx ((h,i),8,3)).1),(A.v .i64 (A.k gx ((h,i),11,2)).1),(A.v .i64 (A.k gx ((h,i),13,3)).1),(A.v .i64 (A.k gx ((h,i),16,8)).1)),0)))))))))
def DL:((Int×List Int))->((Int×Int×Int×Int×Int)×Int):=λ(i,h)=>(auf af i h).val (Ty.aS [(.struct [yI,yI,yI,yI,yI]),yI])
def arP:aK:=.all [(.struct [yI,yB])] [(.struct [yI,yI,yI,yI,yI]),yI] DL
theorem aqi:Sd 290 arP:=fa (aR ap dE sl 377 [] (λA (i,h)=>auf A i h) (kz (fc func290 (fc func258 fz)) (sc Mq (sc Mr (sc TW sz)))))
abbrev afF(A:aU)(h:Int):LT Int Empty:=(.br (A.not (A.bK h 0)) (.ret 50) (.ret 0))
def t57(A:aU)(l:Int)(q:Int)(j:Int)(p:Int)(n:Int)(o:Int)(i:Int)(h:Int)(m:List Int):LT Int Empty:=.br (A.cu (A.k xw ((j,p,n,o,i),8)) 0) (.ret 50) (.br (A.bG q 0) (.ret 50) (.br (A.ji q 4) (.ret 50) (.br (A.ji (A.l m) 8) (.ret 50) (.br (A.bK l 1) (.br (A.bK q 0) (.br (A.bK (A.l m) 0) (.br (A.nM h 0) (.br (A.bG h 8) (.br (A.not (A.and (A.bK j j) (A.and (A.bK p 0) (A.and (A.bK n 0) (A.and (A.bK o 0) (A.and (A.bK i 0) true)))))) (.ret 50) (.ret 0)) (.ret 50)) (.ret 50)) (.ret 50)) (.ret 50)) (.br (A.bK l 3) (.br (A.bK (A.l m) 0) (afF A h) (.ret 50)) (.br (A.bK l 2) (afF A h) (.br (A.bK l 4) (afF A h) (.ret 50))))))))
def wS:((Int×Int×(Int×Int×Int×Int×Int)×Int×List Int))->Int:=λ(p,q,(l,m,i,j,h),o,n)=>(t57 af p q l m i j h o n).val (Ty.aS [yI])
def awN:aK:=.all [(.struct [yI,yI,(.struct [yI,yI,yI,yI,yI]),yI,yB])] [yI] wS
theorem arn:Sd 206 awN:=fa (aR ap dE sl 109 [] (λA (p,q,(l,m,i,j,h),o,n)=>t57 A p q l m i j h o n) (kz (fc func206 fz) (sc Mq sz)))
abbrev abN(A:aU)(i:Int)(h:Int):LT Int Empty:=(.br (A.bK i 2) (.ret (A.b .add .i64 29 (A.b .mul .i64 8 h))) (.br (A.bK i 4) (.ret (A.b .add .i64 79 (A.b .mul .i64 8 h))) (.ret 0)))
def t56(A:aU)(i:Int)(h:Int):LT Int Empty:=.br (A.bG h 0) (.ret 0) (.br (A.ji h 8) (.ret 0) (.br (A.bK i 1) (.br (A.bK h 0) (.ret 40) (.br (A.bK i 3) (abN A i h) (abN A i h))) (.br (A.bK i 3) (.br (A.bK h 0) (.ret 54) (abN A i h)) (abN A i h))))
def wR:(Int×Int)->Int:=λ(i,h)=>(t56 af i h).val (Ty.aS [yI])
def awM:aK:=.all [yI,yI] [yI] wR
theorem awq:Sd 215 awM:=fa (aR ap dE (.kN [0,0,0,0,0,2]) 67 [] (λA (i,h)=>t56 A i h) (kz (fc func215 fz) sz))
def t59(A:aU)(i:Int)(h:Int):LT Int Empty:=.br (A.bG h 0) (.ret 0) (.br (A.ji h 8) (.ret 0) (.br (A.bK i 1) (.br (A.bK h 0) (.ret 40) (.ret 0)) (.br (A.bK i 2) (.ret (A.b .add .i64 29 (A.b .mul .i64 8 h))) (.br (A.bK i 3) (.br (A.bK h 0) (.ret 54) (.ret 0)) (.br (A.bK i 4) (.ret (A.b .add .i64 79 (A.b .mul .i64 8 h))) (.ret 0))))))
def PX:(Int×Int)->Int:=λ(i,h)=>(t59 af i h).val (Ty.aS [yI])
def awO:aK:=.all [yI,yI] [yI] PX
theorem awr:Sd 62 awO:=fa (aR ap dE sl 59 [] (λA (i,h)=>t59 A i h) (kz (fc func62 fz) sz))
theorem ad_{k r t p h:Int}{d:List Int}:wS (k,r,(t,p,m,n,s),h,d)=bif zX (k,r,(t,p,m,n,s),h,d) then 0 else 50:=by
 have j:af.cu (af.k xw ((t,p,m,n,s),8)) 0=!G3 (t,p,m,n,s):=by
  rw[show af.k xw ((t,p,m,n,s),8)=bif G3 (t,p,m,n,s) then 0 else 40 from ajG (t,p,m,n,s)];cases G3 (t,p,m,n,s)<;>rfl
 have l:af.l d=(d.length:Int):=rfl;have i:=YO (k:=k) (r:=r) (t:=t) (p:=p) (m:=m) (n:=n) (s:=s) (fr:=h) (d:=d);have o:(t==t&&(p==0&&(m==0&&(n==0&&(s==0&&true)))))=decide (p=0/\m=0/\n=0/\s=0):=by grind
 simp[wS,t57,afF,LT.val,bd,aN,bY,gq,bl,lf]
 grind
variable{d:Int}
theorem OG{k:Int}:wR (k,d)=TR (k,d)/\PX (k,d)=TR (k,d):=by
 have j:0<=d/\d<=8->∀c:Int,c=29\/c=79->af.b .add .i64 c (af.b .mul .i64 8 d)=c+8*d:=by
  intro h c i;rw[kP,lg (by omega) (by omega),gp,lg (by omega) (by omega)]
 constructor
 ·simp[wR,t56,abN,LT.val,bd,aN,bY,TR]
  grind
 ·simp[PX,t59,LT.val,bd,aN,bY,TR]
  grind
def auc(A:aU)(n:Int)(h:Int):LT Bool Empty:=.br (A.bK h 1) (.ret (A.bK n 40)) (.br (A.bK h 3) (.ret (A.bK n 54)) (.br (A.bK h 2) (.br (A.nM (A.b .sub .i64 n 29) 0) (.br (A.bU (A.b .sub .i64 n 29) 64) (.ret (A.bK (A.b .rem .i64 (A.b .sub .i64 n 29) 8) 0)) (.ret false)) (.ret false)) (.br (A.nM (A.b .sub .i64 n 79) 0) (.br (A.bU (A.b .sub .i64 n 79) 64) (.ret (A.bK (A.b .rem .i64 (A.b .sub .i64 n 79) 8) 0)) (.ret false)) (.ret false))))
def agk:(Int×Int)->Bool:=λ(n,h)=>(auc af n h).val (Ty.aS [.bool])
def arN:aK:=.all [yI,yI] [.bool] agk
theorem aqg:Sd 287 arN:=fa (aR ap dE sl 54 [] (λA (n,h)=>auc A n h) (kz (fc func287 fz) sz))
abbrev OR(A:aU)(i:Int)(h:List Int):=(A.k xm ((A.k q8 ((A.k xm ((i,h),0,55)).1,0,([]:List Int))).1,(A.b .sub .i64 (A.k q8 ((A.k xm ((i,h),0,55)).1,0,([]:List Int))).1.1 24),(A.k q8 ((A.k xm ((i,h),0,55)).1,0,([]:List Int))).1.1))
def aud(A:aU)(l:Int)(j:List Int)(m:Int)(i:Int)(h:List Int):LT ((Int×List Int)×(Int×List Int)×Int) Empty:=.br (A.cu m 4) (.br (A.cu (A.k q8 ((l,j),i,h)).2 0) (.ret ((A.k q8 ((l,j),i,h)).1,(0,([]:List Int)),(A.k q8 ((l,j),i,h)).2)) (.br (A.cu m 3) (.ret ((A.k q8 ((l,j),i,h)).1,(0,([]:List Int)),(A.k q8 ((l,j),i,h)).2)) (.ret ((A.k q8 ((l,j),i,h)).1,(A.k xm ((A.k q8 ((l,j),i,h)).1,(A.b .sub .i64 (A.k q8 ((l,j),i,h)).1.1 24),(A.k q8 ((l,j),i,h)).1.1)))))) (.br (A.cu (A.k xm ((l,j),0,55)).2 0) (.ret ((0,([]:List Int)),(0,([]:List Int)),(A.k xm ((l,j),0,55)).2)) (.br (A.cu (A.k q8 ((A.k xm ((l,j),0,55)).1,0,([]:List Int))).2 0) (.ret ((0,([]:List Int)),(0,([]:List Int)),(A.k q8 ((A.k xm ((l,j),0,55)).1,0,([]:List Int))).2)) (.br (A.cu (OR A l j).2 0) (.ret ((0,([]:List Int)),(0,([]:List Int)),(OR A l j).2)) (.ret ((A.k q8 ((l,j),(OR A l j).1)).1,(OR A l j).1,(A.k q8 ((l,j),(OR A l j).1)).2)))))
def X8:((Int×List Int)×Int×(Int×List Int))->((Int×List Int)×(Int×List Int)×Int):=λ((m,l),j,i,h)=>(aud af m l j i h).val (Ty.aS [(.struct [yI,yB]),(.struct [yI,yB]),yI])
def arO:aK:=.all [(.struct [yI,yB]),yI,(.struct [yI,yB])] [(.struct [yI,yB]),(.struct [yI,yB]),yI] X8
theorem aqh:Sd 288 arO:=fa (aR ap dE sl 110 [] (λA ((m,l),j,i,h)=>aud A m l j i h) (kz (fc func288 fz) (sc aqo (sc ag1 sz))))
def aub(A:aU)(i:Int)(j:List Int)(l:Int)(h:Int):LT ((((Int×List Int)×Int))×Int) Empty:=.br (A.cu (A.k gx ((i,j),l,h)).2 0) (.ret (((i,j),l),0)) (.ret (((i,j),(A.b .add .i64 l h)),(A.v .i64 (A.k gx ((i,j),l,h)).1)))
theorem ap5{k:Int}:aY Empty.elim (aub af n b a k) (bif decide ((gx ((n,b),a,k)).2=0) then(((n,b),af.b .add .i64 a k),af.v .i64 (gx ((n,b),a,k)).1) else(((n,b),a),0)):=by
 by_cases h:(gx ((n,b),a,k)).2=0
 ·rw[dn h];exact(ai (by show af.cu (gx ((n,b),a,k)).2 0=false;rw[cq,h];rfl)).2 (.ret _)
 ·rw[gj h];exact(ak (by show af.cu (gx ((n,b),a,k)).2 0=true;rw[cq];simp_all)).2 (.ret _)
def jK:(((Int×List Int)×Int))×Int->(((Int×List Int)×Int))×Int:=λ((b,a),k)=>(bif decide ((gx (b,a,k)).2=0) then((b,af.b .add .i64 a k),af.v .i64 (gx (b,a,k)).1) else((b,a),0))
def ao2:bV:=.all [.ptr [.d (.struct [yI,yB]),.d yI]] [yI] [yI] jK false
theorem agJ:bV.bE prog 286 ao2:=ma (bI ap dE sl 54 [] [] (λA (((j,l),m),i)=>aub A j l m i) (λ_=>Empty.elim) Empty.elim (kz (fc func286 fz) (sc TW sz)) (λ_ y=>y.elim) (λ((((j,l),m),i):(((Int×List Int)×Int))×Int) n o h=>ap5))
inductive acU where
 | c0 (a0:Int) (a1:Int) (a2:List Int) (a3:Int) (a4:Int) (a5:Int) (a6:Int) (a7:Int) (a8:Int) (a9:Int) (iN:Int) (kV:Int)
noncomputable def aiE:acU->iB
 | .c0 a0 a1 a2 a3 a4 a5 h i a8 a9 j l=>⟨[⟨289,34,(en [(0,.ptr 0 0),(3,.ptr 1 0),(4,vi a0)]),sk f289 [1,1,1,0,0,0],[],none⟩],[.ay false [vi a1,.sl yU a2,vi a3],.ay false [.int .u8 false a4,.int .u8 false a5,.int .u8 false h,.int .u8 false i,.int .u8 false a8,.int .u8 false a9,.int .u8 false j,.int .u8 false l],.a_]⟩
def aue(A:aU)(h:Int)(i:List Int)(j:Int):LT ((((Int×List Int)×Int))×(List Int)) acU:=.ao (.c0 0 h i j 0 0 0 0 0 0 0 0)
def Vl(A:aU):acU->LT ((((Int×List Int)×Int))×(List Int)) acU
 | .c0 a0 a1 a2 a3 a4 a5 h i a8 a9 j l=>.br (A.bU (A.b .add .i64 a3 8) a1) (.br (A.bG a0 8) (.ar (A.and (A.bU 0 a0) (A.bG a0 8)) (.ao (.c0 (A.b .add .i64 a0 1) (A.k jK (((a1,a2),a3),8)).1.1.1 (A.k jK (((a1,a2),a3),8)).1.1.2 (A.k jK (((a1,a2),a3),8)).1.2 (A.n yU (A.set [a4,a5,h,i,a8,a9,j,l] a0 (A.v .u8 (A.k jK (((a1,a2),a3),8)).2)) 0:Int) (A.n yU (A.set [a4,a5,h,i,a8,a9,j,l] a0 (A.v .u8 (A.k jK (((a1,a2),a3),8)).2)) 1:Int) (A.n yU (A.set [a4,a5,h,i,a8,a9,j,l] a0 (A.v .u8 (A.k jK (((a1,a2),a3),8)).2)) 2:Int) (A.n yU (A.set [a4,a5,h,i,a8,a9,j,l] a0 (A.v .u8 (A.k jK (((a1,a2),a3),8)).2)) 3:Int) (A.n yU (A.set [a4,a5,h,i,a8,a9,j,l] a0 (A.v .u8 (A.k jK (((a1,a2),a3),8)).2)) 4:Int) (A.n yU (A.set [a4,a5,h,i,a8,a9,j,l] a0 (A.v .u8 (A.k jK (((a1,a2),a3),8)).2)) 5:Int) (A.n yU (A.set [a4,a5,h,i,a8,a9,j,l] a0 (A.v .u8 (A.k jK (((a1,a2),a3),8)).2)) 6:Int) (A.n yU (A.set [a4,a5,h,i,a8,a9,j,l] a0 (A.v .u8 (A.k jK (((a1,a2),a3),8)).2)) 7:Int)))) (.ar (A.and (A.bK a0 a0) (A.and (A.bU 0 a0) (A.bU a0 140737488355328))) (.ret (((a1,a2),a3),(A.spl (A.r a0 (0:Int)) 0 (A.s [a4,a5,h,i,a8,a9,j,l] 0 (A.mn (A.l [a4,a5,h,i,a8,a9,j,l]) (A.l (A.r a0 (0:Int)))))))))) (.ar (A.and (A.bK a0 a0) (A.and (A.bU 0 a0) (A.bU a0 140737488355328))) (.ret (((a1,a2),a3),(A.spl (A.r a0 (0:Int)) 0 (A.s [a4,a5,h,i,a8,a9,j,l] 0 (A.mn (A.l [a4,a5,h,i,a8,a9,j,l]) (A.l (A.r a0 (0:Int)))))))))
def alt(n:Nat)(room:List Int):List Int:=af.spl (af.r (n:Int) (0:Int)) 0 (af.s room 0 (af.mn (af.l room) (af.l (af.r (n:Int) (0:Int)))))
def Vg:Nat->Nat->List Int->(Int×List Int)×Int->((Int×List Int)×Int)×List Int
 | 0,n,room,s=>(s,alt n room)
 | k+1,n,room,s=>bif af.bU (af.b .add .i64 s.2 8) s.1.1 then Vg k (n+1) (af.set room (n:Int) (af.v .u8 (jK (s,8)).2)) (jK (s,8)).1 else(s,alt n room)
theorem aau:∀(k n:Nat) (room:List Int) (s:(Int×List Int)×Int),n+k=8->room.length=8->
  aY (Vl af) (.ao (.c0 (n:Int) s.1.1 s.1.2 s.2 (room.getD 0 0) (room.getD 1 0) (room.getD 2 0) (room.getD 3 0) (room.getD 4 0) (room.getD 5 0) (room.getD 6 0) (room.getD 7 0))) (Vg k n room s):=by
 intro k
 induction k with
 | zero=>
   intro n room s l j
   have h:aY (Vl af) (.ar (af.and (af.bK (n:Int) (n:Int)) (af.and (af.bU 0 (n:Int)) (af.bU (n:Int) 140737488355328))) (.ret (s,alt n room))) (Vg 0 n room s):=
    au.2 ⟨by rw[bl,bl,bd,aB,aB];simp_all,.ret _⟩
   match room,j with
   | [x0,m,x2,o,p,r,t,u],_=>
   rw[aA,Vl];cases af.bU (af.b .add .i64 s.2 8) s.1.1
   ·exact(ai rfl).2 h
   ·exact(ak rfl).2 ((ai (by rw[aN];simp_all)).2 h)
 | succ k ih=>
   intro n room s l j;have e:=ih (n+1) (af.set room (n:Int) (af.v .u8 (jK (s,8)).2)) (jK (s,8)).1 (by omega) (by rw[Mw,cX];omega);rw[aA,Vl,Vg]
   match room,j with
   | [x0,m,x2,o,p,r,t,u],_=>
     cases af.bU (af.b .add .i64 s.2 8) s.1.1
     ·exact(ai rfl).2 (au.2 ⟨by rw[bl,bl,bd,aB,aB];simp;omega,.ret _⟩)
     ·refine(ak rfl).2 ((ak (by rw[aN];grind)).2 (au.2 ⟨by rw[bl,aB,aN];simp;omega,?_⟩))
      rw[h_ (i:=n) (by omega),show af.k jK (((s.1.1,s.1.2),s.2),8)=jK (s,8) from rfl];generalize jK (s,8)=q at e ⊢;exact e
theorem als:aY (Vl af) (aue af n b a) (Vg 8 0 [0,0,0,0,0,0,0,0] ((n,b),a)):=
 aau 8 0 [0,0,0,0,0,0,0,0] ((n,b),a) rfl rfl
def uZ:(((Int×List Int)×Int))×Unit->(((Int×List Int)×Int))×(List Int):=λ(s,_)=>Vg 8 0 [0,0,0,0,0,0,0,0] s
def ao3:bV:=.all [.ptr [.d (.struct [yI,yB]),.d yI]] [] [yB] uZ false
theorem aoE:bV.bE prog 289 ao3:=ma (bI ap dE sl 21 [⟨289,3, [[0,3,4]]⟩] [] (λA (((i,j),l),())=>aue A i j l) Vl aiE ⟨(fc func289 fz),sz,oz,iz,(mc agJ mz),pz⟩ (λA y=>match y with |.c0 m a1 a2 n o p q r t u z B=>⟨44,sl,by kernel_rfl⟩) (λ((((i,j),l),()):(((Int×List Int)×Int))×Unit) v x h=>als))
theorem aO{R:Type}{step:Y->LT R Y}{t:LT R Y}{r i:R}(h:r=i)(j:aY step t r):aY step t i:=h▸j
def zZ{R Y:Type}(p:R->Prop):LT R Y->Prop
 | .ret r=>p r
 | .ao _=>False
 | .br b t e=>(b=true->zZ p t)/\(b=false->zZ p e)
 | .ar b t=>b=true->zZ p t
 | .eqs _ t=>zZ p t
 | .and a _=>zZ p a
 | .bZ _ _=>True
theorem sZ{R Y:Type}{d:R}{p:R->Prop}:∀{t:LT R Y},t.pre=true->zZ p t->p (t.val d)
 | .ret _,_,h=>h
 | .ao _,_,h=>h.elim
 | .br b t e,h1,h2=>by
   cases b with
   | true=>exact sZ (t:=t) h1 (h2.1 rfl)
   | false=>exact sZ (t:=e) h1 (h2.2 rfl)
 | .ar b t,h1,h2=>by
   rw[LT.pre,fv] at h1;exact sZ (t:=t) h1.2 (h2 h1.1)
 | .eqs _ t,h1,h2=>sZ (t:=t) h1 h2
 | .and _ _,h,_=>by cases h
 | .bZ _ _,h,_=>by cases h
abbrev mm(A:aU)(i:Int)(h:List Int):=(A.b .add .i64 (A.k jK (((i,h),0),2)).2 1)
abbrev oY(A:aU)(i:Int)(h:List Int):=(A.k jK ((A.k jK (((i,h),0),2)).1,3))
abbrev BY(A:aU)(i:Int)(h:List Int):=(A.k X8 ((i,h),(mm A i h),0,([]:List Int)))
abbrev uQ:LT ((Int×Int×(Int×Int×Int×Int×Int)×Int×List Int)×Int) Empty:=(.ret ((0,0,(0,0,0,0,0),0,([]:List Int)),51))
abbrev Db(A:aU)(o:Int)(n:List Int)(l:Int)(m:Int)(i:Int)(j:Int)(h:Int):=(A.k X8 ((o,n),(mm A o n),(A.k NR (l,m,i,j,h)).1))
abbrev Dc(A:aU)(i:Int)(h:List Int):=(A.k DL (BY A i h).2.1)
abbrev am3(A:aU)(i:Int)(h:List Int):LT ((Int×Int×(Int×Int×Int×Int×Int)×Int×List Int)×Int) Empty:=(.br (A.cu (A.k wS ((mm A i h),(oY A i h).2,(0,0,0,0,0),0,([]:List Int))) 0) (uQ) (.ret (((mm A i h),(oY A i h).2,(0,0,0,0,0),0,([]:List Int)),0)))
abbrev afC(A:aU)(i:Int)(h:List Int):=(A.k jK ((oY A i h).1,(A.b .sub .i64 (mm A i h) 2)))
def t50(A:aU)(i:Int)(j:List Int)(n:Int)(o:Int)(l:Int)(m:Int)(h:Int):LT ((Int×Int×(Int×Int×Int×Int×Int)×Int×List Int)×Int) Empty:=.br (A.cu (A.k rT (i,j)) 0) (.ret ((0,0,(0,0,0,0,0),0,([]:List Int)),(A.k rT (i,j)))) (.br (A.cu (A.k xw ((n,o,l,m,h),8)) 0) (.ret ((0,0,(0,0,0,0,0),0,([]:List Int)),40)) (.br (A.not (A.k agk (i,(mm A i j)))) (uQ) (.br (A.bK (mm A i j) 1) (.br (A.cu (A.k jK ((A.k jK ((oY A i j).1,8)).1,3)).2 0) (uQ) (.br (A.cu (BY A i j).2.2 0) (.ret ((0,0,(0,0,0,0,0),0,([]:List Int)),(BY A i j).2.2)) (.br (A.bK (mm A i j) 2) (.br (A.cu (A.k wS ((mm A i j),0,(n,o,l,m,h),(oY A i j).2,(A.k uZ (((BY A i j).1,(A.k jK ((A.k jK ((oY A i j).1,8)).1,3)).1.2),())).2)) 0) (uQ) (.ret (((mm A i j),0,(n,o,l,m,h),(oY A i j).2,(A.k uZ (((BY A i j).1,(A.k jK ((A.k jK ((oY A i j).1,8)).1,3)).1.2),())).2),0))) (.br (A.bK (mm A i j) 4) (.br (A.cu (Dc A i j).2 0) (uQ) (.br (A.cu (A.k wS ((mm A i j),0,(Dc A i j).1,(oY A i j).2,(A.k uZ (((BY A i j).1,55),())).2)) 0) (uQ) (.ret (((mm A i j),0,(Dc A i j).1,(oY A i j).2,(A.k uZ (((BY A i j).1,55),())).2),0)))) (.br (A.bK (mm A i j) 3) (.br (A.cu (Dc A i j).2 0) (uQ) (.br (A.cu (A.k wS ((mm A i j),0,(Dc A i j).1,(oY A i j).2,([]:List Int))) 0) (uQ) (.ret (((mm A i j),0,(Dc A i j).1,(oY A i j).2,([]:List Int)),0)))) (.br (A.cu (A.k wS ((mm A i j),0,((A.k jK ((oY A i j).1,8)).2,0,0,0,0),(oY A i j).2,([]:List Int))) 0) (uQ) (.ret (((mm A i j),0,((A.k jK ((oY A i j).1,8)).2,0,0,0,0),(oY A i j).2,([]:List Int)),0)))))))) (.br (A.bK (mm A i j) 2) (.br (A.cu (Db A i j n o l m h).2.2 0) (.ret ((0,0,(0,0,0,0,0),0,([]:List Int)),(Db A i j n o l m h).2.2)) (.br (A.bK (mm A i j) 2) (.br (A.cu (A.k wS ((mm A i j),(oY A i j).2,(n,o,l,m,h),0,(A.k uZ (((Db A i j n o l m h).1,(oY A i j).1.2),())).2)) 0) (uQ) (.ret (((mm A i j),(oY A i j).2,(n,o,l,m,h),0,(A.k uZ (((Db A i j n o l m h).1,(oY A i j).1.2),())).2),0))) (.br (A.bK (mm A i j) 4) (.br (A.cu (A.k DL (Db A i j n o l m h).2.1).2 0) (uQ) (.br (A.cu (A.k wS ((mm A i j),(oY A i j).2,(A.k DL (Db A i j n o l m h).2.1).1,0,(A.k uZ (((Db A i j n o l m h).1,55),())).2)) 0) (uQ) (.ret (((mm A i j),(oY A i j).2,(A.k DL (Db A i j n o l m h).2.1).1,0,(A.k uZ (((Db A i j n o l m h).1,55),())).2),0)))) (.br (A.bK (mm A i j) 3) (.br (A.cu (A.k DL (Db A i j n o l m h).2.1).2 0) (uQ) (.br (A.cu (A.k wS ((mm A i j),(oY A i j).2,(A.k DL (Db A i j n o l m h).2.1).1,0,([]:List Int))) 0) (uQ) (.ret (((mm A i j),(oY A i j).2,(A.k DL (Db A i j n o l m h).2.1).1,0,([]:List Int)),0)))) (am3 A i j))))) (.br (A.cu (afC A i j).2 0) (uQ) (.br (A.cu (BY A i j).2.2 0) (.ret ((0,0,(0,0,0,0,0),0,([]:List Int)),(BY A i j).2.2)) (.br (A.bK (mm A i j) 2) (.br (A.cu (A.k wS ((mm A i j),(oY A i j).2,(n,o,l,m,h),0,(A.k uZ (((BY A i j).1,(afC A i j).1.2),())).2)) 0) (uQ) (.ret (((mm A i j),(oY A i j).2,(n,o,l,m,h),0,(A.k uZ (((BY A i j).1,(afC A i j).1.2),())).2),0))) (.br (A.bK (mm A i j) 4) (.br (A.cu (Dc A i j).2 0) (uQ) (.br (A.cu (A.k wS ((mm A i j),(oY A i j).2,(Dc A i j).1,0,(A.k uZ (((BY A i j).1,55),())).2)) 0) (uQ) (.ret (((mm A i j),(oY A i j).2,(Dc A i j).1,0,(A.k uZ (((BY A i j).1,55),())).2),0)))) (.br (A.bK (mm A i j) 3) (.br (A.cu (Dc A i j).2 0) (uQ) (.br (A.cu (A.k wS ((mm A i j),(oY A i j).2,(Dc A i j).1,0,([]:List Int))) 0) (uQ) (.ret (((mm A i j),(oY A i j).2,(Dc A i j).1,0,([]:List Int)),0)))) (am3 A i j))))))))))
theorem aoz{k:Int}{p:Prop}(i:(k==0)=false):k=0->p:=λh=>by simp_all
theorem aoA{x:Int}{p:Prop}(h:af.cu x 0=true):x=0->p:=λe=>by rw[e] at h;cases h
theorem agI{x y:Int}(h:af.cu x 0=false):y=0->x=0:=λ_=>by
 rw[cq] at h
 simp_all
theorem aoB{x:Int}(h:af.cu x 0=false):x=0:=agI (y:=0) h rfl
def vO:(Int×List Int)×(Int×Int×Int×Int×Int)->(Int×Int×(Int×Int×Int×Int×Int)×Int×List Int)×Int:=λ((n,b),(t,p,m,x,s))=>(t50 af n b t p m x s).val (Ty.aS [.struct [.int .i64,.int .i64,.struct [.int .i64,.int .i64,.int .i64,.int .i64,.int .i64],.int .i64,.slice (.int .u8)],.int .i64])
theorem Og{t p x:Int}:(t50 af n b t p m x s).pre=true:=by
 simp[t50,afC,am3,Dc,Db,uQ,BY,oY,mm,LT.pre,bo,acr,Fp,cY,implies_true,and_self]
theorem U6{t p x:Int}:zZ (λr=>r.2=0->af.k wS r.1=0) (t50 af n b t p m x s):=by
 repeat' first
  | exact aoA (by assumption)
  | exact agI (by assumption)
  | refine⟨λh=>?_,λh=>?_⟩
  | exact aoz rfl
  | exact aoB (by assumption)
  | intro h
theorem aeO{b:Int×List Int}{c:Int×Int×Int×Int×Int}(h:(vO (b,c)).2=0):zX (vO (b,c)).1=true:=by
 obtain⟨n,b⟩:=b;obtain⟨t,p,m,x,s⟩:=c;have k:=sZ (d:=Ty.aS [.struct [.int .i64,.int .i64,.struct [.int .i64,.int .i64,.int .i64,.int .i64,.int .i64],.int .i64,.slice (.int .u8)],.int .i64]) Og U6 h;have k:wS (vO ((n,b),(t,p,m,x,s))).1=0:=k;generalize (vO ((n,b),(t,p,m,x,s))).1=f at k;rw[ad_] at k
 grind
def JZ:(Int×List Int)×(Int×Int×Int×Int×Int)->(Int×Int×(Int×Int×Int×Int×Int)×Int×List Int)×Bool:=λ(b,c)=>
 bif (vO (b,c)).2 != 0||(vO (b,c)).1.1==1||(vO (b,c)).1.2.2.1 != c then(Ib,false) else((vO (b,c)).1,true)
def tQ(b:Int×List Int):(Int×Int×(Int×Int×Int×Int×Int)×Int×List Int)×Bool:=
 bif (vO (b,zS)).2 != 0||(vO (b,zS)).1.1==2 then(Ib,false) else((vO (b,zS)).1,true)
def CL:((Int×List Int)×(Int×Int×Int×Int×Int))->((Int×Int×(Int×Int×Int×Int×Int)×Int×List Int)×Int):=vO
def awJ:aK:=.all [(.struct [yI,yB]),(.struct [yI,yI,yI,yI,yI])] [(.struct [yI,yI,(.struct [yI,yI,yI,yI,yI]),yI,yB]),yI] CL
theorem arc:Sd 237 awJ:=fa (bp ap dE sl 227 [] [] (λA ((u,r),o,q,j,l,i)=>t50 A u r o q j l i) (λ_=>Empty.elim) Empty.elim ⟨(fc func237 fz),(sc arn (sc Mq (sc arM (sc Mr (sc aqg (sc aqh (sc aqi sz))))))),oz,iz,(mc agJ (mc aoE mz)),pz⟩ (λ_ y=>y.elim) λ((n,b),(t,p,m,x,s)) v h=>LT.runs (LT.gf (by kernel_rfl)) Og)
def t53(A:aU)(o:Int)(n:List Int)(l:Int)(m:Int)(i:Int)(j:Int)(h:Int):LT ((Int×Int×(Int×Int×Int×Int×Int)×Int×List Int)×Bool) Empty:=.br (A.cu (A.k CL ((o,n),l,m,i,j,h)).2 0) (.ret ((0,0,(0,0,0,0,0),0,([]:List Int)),false)) (.br (A.bK (A.k CL ((o,n),l,m,i,j,h)).1.1 1) (.ret ((0,0,(0,0,0,0,0),0,([]:List Int)),false)) (.br (A.not (A.and (A.bK (A.k CL ((o,n),l,m,i,j,h)).1.2.2.1.1 l) (A.and (A.bK (A.k CL ((o,n),l,m,i,j,h)).1.2.2.1.2.1 m) (A.and (A.bK (A.k CL ((o,n),l,m,i,j,h)).1.2.2.1.2.2.1 i) (A.and (A.bK (A.k CL ((o,n),l,m,i,j,h)).1.2.2.1.2.2.2.1 j) (A.and (A.bK (A.k CL ((o,n),l,m,i,j,h)).1.2.2.1.2.2.2.2 h) true)))))) (.ret ((0,0,(0,0,0,0,0),0,([]:List Int)),false)) (.ret ((A.k CL ((o,n),l,m,i,j,h)).1,true))))
def PW:((Int×List Int)×(Int×Int×Int×Int×Int))->((Int×Int×(Int×Int×Int×Int×Int)×Int×List Int)×Bool):=λ((o,n),l,m,i,j,h)=>(t53 af o n l m i j h).val (Ty.aS [(.struct [yI,yI,(.struct [yI,yI,yI,yI,yI]),yI,yB]),.bool])
def awL:aK:=.all [(.struct [yI,yB]),(.struct [yI,yI,yI,yI,yI])] [(.struct [yI,yI,(.struct [yI,yI,yI,yI,yI]),yI,yB]),.bool] PW
theorem awp:Sd 250 awL:=fa (aR ap dE sl 50 [] (λA ((o,n),l,m,i,j,h)=>t53 A o n l m i j h) (kz (fc func250 fz) (sc arc sz)))
def t51(A:aU)(i:Int)(h:List Int):LT ((Int×Int×(Int×Int×Int×Int×Int)×Int×List Int)×Bool) Empty:=.br (A.cu (A.k CL ((i,h),0,0,0,0,0)).2 0) (.ret ((0,0,(0,0,0,0,0),0,([]:List Int)),false)) (.br (A.bK (A.k CL ((i,h),0,0,0,0,0)).1.1 2) (.ret ((0,0,(0,0,0,0,0),0,([]:List Int)),false)) (.ret ((A.k CL ((i,h),0,0,0,0,0)).1,true)))
def PV:((Int×List Int))->((Int×Int×(Int×Int×Int×Int×Int)×Int×List Int)×Bool):=λ(i,h)=>(t51 af i h).val (Ty.aS [(.struct [yI,yI,(.struct [yI,yI,yI,yI,yI]),yI,yB]),.bool])
def awK:aK:=.all [(.struct [yI,yB])] [(.struct [yI,yI,(.struct [yI,yI,yI,yI,yI]),yI,yB]),.bool] PV
theorem awo:Sd 189 awK:=fa (aR ap dE sl 43 [] (λA (i,h)=>t51 A i h) (kz (fc func189 fz) (sc arc sz)))
theorem ad9{b:Int×List Int}{t p:Int}:PW (b,(t,p,m,n,s))=JZ (b,(t,p,m,n,s)):=by
 obtain⟨v,u⟩:=b;simp[PW,t53,JZ,bo,cq,bd,bl,CL,nE];generalize vO ((v,u),(t,p,m,n,s))=q;obtain⟨⟨k,r,⟨o,j,h,i,l⟩,y,d⟩,e⟩:=q;have x:((o,j,h,i,l) != (t,p,m,n,s))=!(o==t&&(j==p&&(h==m&&(i==n&&l==s)))):=by rfl
 rw[x];cases e != 0<;>cases k==1<;>cases (o==t&&(j==p&&(h==m&&(i==n&&l==s))))<;>rfl
theorem ad8{b:Int×List Int}:PV b=tQ b:=by
 obtain⟨i,h⟩:=b;simp only[tQ];show(bif (vO ((i,h),zS)).2 != 0 then(Ib,false) else bif (vO ((i,h),zS)).1.1==2 then(Ib,false) else((vO ((i,h),zS)).1,true))=_
 grind
structure V_ where
 (a0 a2:List (Int×List Int)) (a3 a5:Int)
structure Pb where
 (b1:List (Int×List Int)) (b2 b4 b5:Int)
structure Wa where
 (c0 c1 c2 c4:Int) (c5:List (Int×List Int)) (c6 c7 c8 c9:Int) (c10:List Int) (c11 c12 c13:Int) (c14:List Int)
inductive Po where
 | c0 (p:V_) (a1:Int) (a4:Int)
 | c1 (p:Pb) (b0:Int) (b3:Int) (b6:List Int)
 | c2 (p:Wa) (c3:Int) (Nn:List Int)
noncomputable def aiH:Po->iB
 | .c0 p a1 a4=>⟨[⟨261,53,(en [(0,.sl (.struct [yI,yB]) p.a0),(2,.ptr 0 0),(4,vi a1),(12,.sl (.struct [yI,yB]) p.a2),(13,vi p.a3),(14,vi a4)]),sk f261 [1,1,0,1,0,0],[],none⟩],[.ay false [vi p.a5,.gb true],.a_]⟩
 | .c1 p b0 b3 i=>⟨[⟨261,53,(en [(2,.ptr 0 0),(8,.ptr 1 0),(9,vi b0),(35,.sl (.struct [yI,yB]) p.b1),(36,vi p.b2),(37,vi b3)]),sk f261 [1,1,1,1,1,1,0,1,0,0],[],none⟩],[.ay false [vi p.b4,.gb true],.ay false [vi p.b5,.own 2],.arr false yU i,.a_]⟩
 | .c2 p c3 h=>⟨[⟨308,52,(en [(1,vi p.c0),(3,vi p.c1),(4,vi p.c2),(5,.ptr 0 0),(7,.ptr 1 0),(10,vi c3)]),sk f308 [1,1,1,0,0],[],none⟩,⟨261,53,(en [(2,.ptr 2 0),(8,.ptr 3 0),(9,vi p.c4),(11,.ptr 4 0),(35,.sl (.struct [yI,yB]) p.c5),(36,vi p.c6),(37,vi p.c7)]),(.ops (ow f261 [1,1,1,1,1,1,0,1,0,0,1,1,0,0,1,0]) ((ow f261 [1,1,1,1,1,1,0,1,0,0,1,1,0,0,1,0]).toList.drop 5)::sk f261 [1,1,1,1,1,1,0,1,0,0,1,1,0,0,1,0]),[],none⟩],[.ay false [vi p.c8,.own 5],.ay false [vi p.c9,.sl yU p.c10],.ay false [vi p.c11,.gb true],.ay false [vi p.c12,.own 5],.ay false [vi p.c13,.sl yU p.c14],.arr false yU h,.a_]⟩
def aui(A:aU)(l:List (Int×List Int)):LT ((Int×List Int)×Int) Po:=.ao (.c0 ⟨l,l,(A.l l),0⟩ 0 0)
def Oy(A:aU):Po->LT ((Int×List Int)×Int) Po
 | .c0 p a1 a4=>.br (A.bG a4 p.a3) (.ar (A.and (A.bU 0 a4) (A.bG a4 (A.l p.a2))) (.br (A.cu (A.k rT (A.n (.struct [yI,yB]) p.a2 a4:Int×List Int)) 0) (.ret ((0,([]:List Int)),(A.k rT (A.n (.struct [yI,yB]) p.a2 a4:Int×List Int)))) (.ao (.c0 p (A.mn (A.b .add .i64 a1 (A.n (.struct [yI,yB]) p.a2 a4:Int×List Int).1) 4097) (A.b .add .i64 a4 1))))) (.br (A.ji a1 4096) (.ret ((0,([]:List Int)),3)) (.ar (A.and (A.bK (A.k jr a1) (A.k jr a1)) (A.and (A.bU 0 (A.k jr a1)) (A.bU (A.k jr a1) 140737488355328))) (.ao (.c1 ⟨p.a0,(A.l p.a0),p.a5,a1⟩ 0 0 (A.r (A.k jr a1) (0:Int))))))
 | .c1 p b0 b3 h=>.br (A.bG b3 p.b2) (.ar (A.and (A.bU 0 b3) (A.bG b3 (A.l p.b1))) (.br (A.bK (A.b .rem .i64 b0 8) 0) (.br (A.bK (A.n (.struct [yI,yB]) p.b1 b3:Int×List Int).1 (A.n (.struct [yI,yB]) p.b1 b3:Int×List Int).1) (.ar (A.and (A.bU 0 (A.b .quo .i64 b0 8)) (A.and (A.bU (A.b .quo .i64 b0 8) (A.l h)) (A.bU (A.l h) (A.l h)))) (.ar (A.and (A.bU 0 0) (A.and (A.bU 0 (A.l (A.n (.struct [yI,yB]) p.b1 b3:Int×List Int).2)) (A.bU (A.l (A.n (.struct [yI,yB]) p.b1 b3:Int×List Int).2) (A.l (A.n (.struct [yI,yB]) p.b1 b3:Int×List Int).2)))) (.ao (.c1 p (A.b .add .i64 b0 (A.n (.struct [yI,yB]) p.b1 b3:Int×List Int).1) (A.b .add .i64 b3 1) (A.spl h (A.b .quo .i64 b0 8) (A.s (A.s (A.n (.struct [yI,yB]) p.b1 b3:Int×List Int).2 0 (A.l (A.n (.struct [yI,yB]) p.b1 b3:Int×List Int).2)) 0 (A.mn (A.l (A.s (A.n (.struct [yI,yB]) p.b1 b3:Int×List Int).2 0 (A.l (A.n (.struct [yI,yB]) p.b1 b3:Int×List Int).2))) (A.b .sub .i64 (A.l h) (A.b .quo .i64 b0 8))))))))) (.ao (.c2 ⟨b0,0,(A.n (.struct [yI,yB]) p.b1 b3:Int×List Int).1,b0,p.b1,p.b2,b3,p.b5,(A.n (.struct [yI,yB]) p.b1 b3:Int×List Int).1,(A.n (.struct [yI,yB]) p.b1 b3:Int×List Int).2,p.b4,p.b5,(A.n (.struct [yI,yB]) p.b1 b3:Int×List Int).1,(A.n (.struct [yI,yB]) p.b1 b3:Int×List Int).2⟩ 0 h))) (.ao (.c2 ⟨b0,0,(A.n (.struct [yI,yB]) p.b1 b3:Int×List Int).1,b0,p.b1,p.b2,b3,p.b5,(A.n (.struct [yI,yB]) p.b1 b3:Int×List Int).1,(A.n (.struct [yI,yB]) p.b1 b3:Int×List Int).2,p.b4,p.b5,(A.n (.struct [yI,yB]) p.b1 b3:Int×List Int).1,(A.n (.struct [yI,yB]) p.b1 b3:Int×List Int).2⟩ 0 h)))) (.ret ((p.b5,h),0))
 | .c2 p c3 i=>.br (A.bG c3 p.c2) (.ar (A.k xN ((p.c9,p.c10),c3)) (.br (A.k A7 ((p.c9,p.c10),c3)) (.ar (A.and (A.bU 0 (A.b .quo .i64 (A.b .sub .i64 (A.b .add .i64 p.c0 c3) p.c1) 8)) (A.bG (A.b .quo .i64 (A.b .sub .i64 (A.b .add .i64 p.c0 c3) p.c1) 8) (A.l i))) (.ar (A.k xO (A.b .sub .i64 (A.b .add .i64 p.c0 c3) p.c1)) (.ar (A.and (A.bU 0 (A.b .quo .i64 (A.b .sub .i64 (A.b .add .i64 p.c0 c3) p.c1) 8)) (A.bG (A.b .quo .i64 (A.b .sub .i64 (A.b .add .i64 p.c0 c3) p.c1) 8) (A.l i))) (.ao (.c2 p (A.b .add .i64 c3 1) (A.set i (A.b .quo .i64 (A.b .sub .i64 (A.b .add .i64 p.c0 c3) p.c1) 8) (A.b .or .u8 (A.n yU i (A.b .quo .i64 (A.b .sub .i64 (A.b .add .i64 p.c0 c3) p.c1) 8):Int) (A.k DO (A.b .sub .i64 (A.b .add .i64 p.c0 c3) p.c1))))))))) (.ao (.c2 p (A.b .add .i64 c3 1) i)))) (.ao (.c1 ⟨p.c5,p.c6,p.c11,p.c12⟩ (A.b .add .i64 p.c4 p.c13) (A.b .add .i64 p.c7 1) i))
theorem YU(l m:List Bool)(i:Nat):(l++m).getD i false=if i<l.length then l.getD i false else m.getD (i-l.length) false:=by grind
theorem P_{L:List Bool}{n m q:Nat}(h:lW B L m)(u:L.length=8*q)(p:okB n b)(z:q+b.length<=m):lW (B.take q++b++B.drop (q+b.length)) (L++unpack n b) m:=by
 have y:=h.1;have A:=p.1;refine⟨?_,λx v=>?_,λi r=>?_⟩
 ·grind
 ·rcases nY.1 v with l|l
  ·rcases nY.1 l with o|o
   ·exact h.2.1 x (List.mem_of_mem_take o)
   ·exact p.2.1 x o
  ·exact h.2.1 x (List.mem_of_mem_drop l)
 ·have j:(B.take q).length=q:=by grind
  rw[YU,u,rA];by_cases t:i/8<q
  ·have e:jo (B.take q++b++B.drop (q+b.length)) i=jo B i:=by
    rw[jo,jo,xB,xB,b_,bR (by omega),jF t]
   rw[e,if_pos (by omega)];exact h.2.2 i r
  ·rw[if_neg (by omega)]
   by_cases l:i/8<q+b.length
   ·have e:jo (B.take q++b++B.drop (q+b.length)) i=jo b (i-8*q):=by
     rw[jo,jo,xB,xB,b_,cn (by omega),j,bR (by omega),show(i-8*q)/8=i/8-q from by omega,show(i-8*q)%8=i%8 from by omega]
    rw[e];by_cases o:i-8*q<n
    ·simp_all
    ·rw[show decide (i-8*q<n)=false from by simp_all,gk]
     exact p.2.2 _ (by omega) (by omega)
   ·have e:jo (B.take q++b++B.drop (q+b.length)) i=jo B i:=by
     rw[jo,jo,xB,xB,cn (by simp_all),qS,j,cm,show q+b.length+(i/8-(q+b.length))=i/8 from by omega]
    rw[e,h.2.2 i r,show decide (i-8*q<n)=false from by simp[-List.length_flatMap];omega,gk,xB,kR (by omega)];rfl
theorem ad7(i:Nat):((l.take i).flatMap o6).length<=(l.flatMap o6).length:=by
 conv=>rhs;rw[<-eX i l,lT,qS]
 omega
theorem aes{n m:Nat}(O:i<l.length)(S:l.length<=140737488355328)(X:l[i]=((n:Int),b))(I:okB n b)(hn:n<=4096)(V:((l.take (i+1)).flatMap o6).length<=8*m)(W:m<=5000){R:(Int×List Int)×Int}
  (H:∀(p:Pb) (B:List Int),p.b1=l->p.b2=(l.length:Int)->p.b5=((l.flatMap o6).length:Int)->lW B ((l.take (i+1)).flatMap o6) m->aY (Oy af) (.ao (.c1 p ((((l.take (i+1)).flatMap o6).length:Nat):Int) ((i+1:Nat):Int) B)) R) :
  ∀(j k:Nat) (p:Wa) (B:List Int),p.c0=((((l.take i).flatMap o6).length:Nat):Int)->p.c1=0->p.c2=(n:Int)->p.c4=((((l.take i).flatMap o6).length:Nat):Int)->p.c5=l->p.c6=(l.length:Int)->p.c7=(i:Int)->p.c10=b->p.c12=((l.flatMap o6).length:Int)->p.c13=(n:Int)->n-k=j->k<=n->lW B ((l.take i).flatMap o6++unpack k b) m->aY (Oy af) (.ao (.c2 p (k:Int) B)) R:=by
 have N:=I.1;have q:=yL O;have K:o6 l[i]=unpack n b:=by rw[X,o6];rfl
 rw[K] at q;intro j
 induction j with
 | zero=>
   intro k p B x y r z D E A h o v P Q t;have:k=n:=by omega
   subst this;simp[aA];refine(ai (by rw[r,bf];simp)).2 ?_;have Y:af.b .add .i64 p.c4 p.c13=((((l.take (i+1)).flatMap o6).length:Nat):Int):=by
    rw[z,v,jy (by grind),q,qS,eY]
   have Z:af.b .add .i64 p.c7 1=((i+1:Nat):Int):=by rw[A,h_ (by omega)]
   simp_all
 | succ j ih=>
   intro k p B x y r z D E A h o v P Q t;have G:=V;rw[q,qS,eY] at G;simp[aA];have F:af.b .sub .i64 (af.b .add .i64 p.c0 (k:Int)) p.c1=(((((l.take i).flatMap o6).length+k:Nat)):Int):=by
    rw[x,y,jy (by omega),show af.b .sub .i64 ((((l.take i).flatMap o6).length+k:Nat):Int) 0=((((l.take i).flatMap o6).length+k-0:Nat):Int) from wh (j:=0) (by omega) (by omega)];rfl
   have u:((l.take i).flatMap o6++unpack k b).length=((l.take i).flatMap o6).length+k:=by rw[qS,eY]
   refine(ak (by rw[r,bf];grind)).2 (au.2 ⟨by rw[h,bo];simp[xN];omega,?_⟩);have J:af.k A7 ((p.c9,p.c10),(k:Int))=jo b k:=by
    rw[h,bo,FJ I.2.1 (by omega) (by omega) (by omega),rz]
   rw[F];have C:=OY k b;cases hbit:jo b k
   ·rw[hbit] at C
    refine(ai (J.trans hbit)).2 ?_;refine lV (congrArg LT.ao (congr (congrArg (Po.c2 p) (h_ (by omega))) rfl)) (ih (k+1) p B x y r z D E A h o v (by omega) (by omega) ?_);rw[C,<-b_];exact t.skip
   ·rw[hbit] at C
    refine(ak (J.trans hbit)).2 (au.2 ⟨vk t.1 (by omega) (by omega),au.2 ⟨CQ,au.2 ⟨vk t.1 (by omega) (by omega),?_⟩⟩⟩);refine lV (congrArg LT.ao (congr (congrArg (Po.c2 p) (h_ (by omega))) rfl)) (ih (k+1) p _ x y r z D E A h o v (by omega) (by omega) ?_);rw[C,<-b_];exact GV t u (by omega) (by omega)
theorem aer(N:l.length<=140737488355328)(I:∀x∈l,gz x.2)(P:∀x∈l,jg x=true)(hT:(l.flatMap o6).length<=4096):∀(j i:Nat) (p:Pb) (B:List Int),p.b1=l->p.b2=(l.length:Int)->p.b5=((l.flatMap o6).length:Int)->l.length-i=j->i<=l.length->lW B ((l.take i).flatMap o6) (((l.flatMap o6).length+7)/8)->aY (Oy af) (.ao (.c1 p ((((l.take i).flatMap o6).length:Nat):Int) (i:Int) B)) (M_ (l.flatMap o6),0):=by
 intro j
 induction j with
 | zero=>
   intro i p B D E H hj hi v;have:i=l.length:=by omega
   subst this;rw[dW] at v ⊢;simp[aA];refine(ai (by rw[E,bf];simp)).2 ?_;rw[H,v.done rfl];exact .ret _
 | succ j ih=>
   intro i p B D E H hj hi v;have h:i<l.length:=by omega
   have r:=cN h;have C:=P _ r;obtain⟨V,b,F⟩:∃V b,l[i]=(V,b):=⟨_,_,rfl⟩;have o:=I _ r;rw[F] at C o;obtain⟨h3,h4,y⟩:=(sJ o).1 C;obtain⟨n,rfl⟩:=aP h3;have y:okB n b:=y;have a9:b.length=(n+7)/8:=y.1;have u:=yL h;have hL:o6 l[i]=unpack n b:=by rw[F,o6];rfl
   rw[hL] at u;have K:=ad7 (l:=l) (i+1);have A:=K;rw[u,qS,eY] at A;have O:(af.n (.struct [(.int .i64),(.slice (.int .u8))]) p.b1 (i:Int):Int×List Int)=((n:Int),b):=by rw[D,Gq h,F]
   simp only[aA];refine(ak (by rw[E,bf];simp_all)).2 (au.2 ⟨by rw[D];exact df h,?_⟩);rw[O];have t:aY (Oy af) (.ao (.c2 ⟨((((l.take i).flatMap o6).length:Nat):Int),0,(n:Int),((((l.take i).flatMap o6).length:Nat):Int),p.b1,p.b2,(i:Int),p.b5,(n:Int),b,p.b4,p.b5,(n:Int),b⟩ 0 B)) (M_ (l.flatMap o6),0):=by
    refine aes h N F y (by omega) (m:=((l.flatMap o6).length+7)/8) (by omega) (by omega) (λp' W g1 g2 g3 g4=>ih (i+1) p' W g1 g2 g3 (by omega) (by omega) g4) n 0 _ B rfl rfl rfl rfl D E rfl rfl H rfl (by omega) (by omega) ?_;rw[show unpack 0 b=[] from rfl,aL];omega
   by_cases h8:((l.take i).flatMap o6).length%8=0
   ·refine(ak (Dz (by rw[EQ,h8];rfl))).2 ((ak (Dz rfl)).2 ?_)
    have z:af.l B=((((l.flatMap o6).length+7)/8:Nat):Int):=by rw[<-v.1];rfl
    have J:af.l b=(b.length:Int):=rfl;refine au.2 ⟨by rw[vR (by omega),z,ug,uh,uh,bl,bl];grind,au.2 ⟨by show af.and (af.bU 0 0) (af.and (af.bU 0 (b.length:Int)) (af.bU (b.length:Int) (b.length:Int)))=true;rw[ug,uh,bl,bl];simp[aB],?_⟩⟩;have Q:af.s b 0 (af.l b)=b:=T8 (i:=0);have X:af.mn (af.l b) (af.b .sub .i64 (af.l B) (af.b .quo .i64 ((((l.take i).flatMap o6).length:Nat):Int) 8))=(b.length:Int):=by
     rw[z,vR (by omega),wh (by omega) (by omega),J,nW,if_neg (by omega)]
    have Y:af.s b 0 (b.length:Int)=b:=Q;have e3:af.spl B (af.b .quo .i64 ((((l.take i).flatMap o6).length:Nat):Int) 8) b=B.take (((l.take i).flatMap o6).length/8)++b++B.drop (((l.take i).flatMap o6).length/8+b.length):=by
     rw[vR (by omega),mW,rz]
    have S:=P_ v (q:=((l.take i).flatMap o6).length/8) (by omega) y (by omega);have Z:af.b .add .i64 ((((l.take i).flatMap o6).length:Nat):Int) (n:Int)=((((l.take (i+1)).flatMap o6).length:Nat):Int):=by
     rw[jy (by omega),u,qS,eY]
    have G:aY (Oy af) (.ao (.c1 p (af.b .add .i64 ((((l.take i).flatMap o6).length:Nat):Int) (n:Int)) (af.b .add .i64 (i:Int) 1) (af.spl B (af.b .quo .i64 ((((l.take i).flatMap o6).length:Nat):Int) 8) (af.s (af.s b 0 (af.l b)) 0 (af.mn (af.l (af.s b 0 (af.l b))) (af.b .sub .i64 (af.l B) (af.b .quo .i64 ((((l.take i).flatMap o6).length:Nat):Int) 8))))))) (M_ (l.flatMap o6),0):=by
     rw[Q,X,Y,Z,h_ (by omega)]
     grind
    exact G
   ·exact(ai (R4 (by rw[EQ];omega))).2 t
theorem aeq(B:l.length<=140737488355328)(r:∀x∈l,gz x.2/\x.2.length<=140737488355328):∀(j i:Nat) (p:V_) (t:Int),p.a0=l->p.a2=l->p.a3=(l.length:Int)->t=((min ((l.take i).flatMap o6).length 4097:Nat):Int)->l.length-i=j->i<=l.length->(∀x∈l.take i,jg x=true)->aY (Oy af) (.ao (.c0 p t (i:Int))) (S8 l):=by
 intro j
 induction j with
 | zero=>
   intro i p t y z A u J I n;have:i=l.length:=by omega
   subst this;rw[dW] at n u;simp only[aA];refine(ai (by rw[A,bf];simp)).2 ?_;rw[S8,bH.2 n,cond_true];by_cases F:4096<(l.flatMap o6).length
   ·refine(ak (by rw[bY,u];grind)).2 ?_
    rw[ZW F];exact .ret _
   ·refine(ai (by rw[bY,u];grind)).2 ?_
    have v:t=(((l.flatMap o6).length:Nat):Int):=by omega
    have m:af.k jr t=((((l.flatMap o6).length+7)/8:Nat):Int):=by rw[bo,v,u6 (by omega) (by omega),rz]
    refine au.2 ⟨by rw[m,ug,Dz rfl,aB,bl,bl];grind,?_⟩;rw[U2 (by omega),m,yJ,rz];exact aer B (λx q=>(r x q).1) n (by omega) l.length 0 _ _ y (by show af.l p.a0=_;rw[y];rfl) v (by omega) (by omega) (lW.blank _)
 | succ j ih=>
   intro i p t y z A u J I n;have h:i<l.length:=by omega
   have o:=cN h;simp[aA];refine(ak (by rw[A,bf];simp_all)).2 (au.2 ⟨by rw[z];exact df h,?_⟩);have C:(af.n (.struct [(.int .i64),(.slice (.int .u8))]) p.a2 (i:Int):Int×List Int)=l[i]:=by rw[z,Gq h]
   rw[C];have H:af.k rT l[i]=bif jg l[i] then 0 else 10:=by
    obtain⟨E,b,q⟩:∃E b,l[i]=(E,b):=⟨_,_,rfl⟩;have:=r _ o;rw[q] at this ⊢;exact Bg this.1 this.2
   rw[H];cases q:jg l[i]
   ·refine(ak rfl).2 ?_
    rw[S8,show l.all jg=false from List.all_eq_false.2 ⟨l[i],o,by simp_all⟩];exact .ret _
   ·refine(ai rfl).2 ?_
    have K:=aiA q;have G:l[i].1=(((o6 l[i]).length:Nat):Int):=by
     rw[zP];simp[jg,fv,rR] at q;omega
    refine lV (congrArg LT.ao (congr (congrArg (Po.c0 p) rfl) (h_ (by omega)))) (ih (i+1) p _ y z A ?_ (by omega) (by omega) ?_)
    ·rw[G,u,jy (by omega),nW,yL h,qS]
     omega
    ·intro x D
     rw[bi h] at D
     grind
def NA:(List (Int×List Int))->((Int×List Int)×Int):=S8
def arW:aK:=.all [(.slice (.struct [yI,yB]))] [(.struct [yI,yB]),yI] NA
theorem aqm:Sd 261 arW:=fa (bp ap dE sl 24 [⟨261,3, [[0,2,4,12,13,14]]⟩,⟨261,15, [[2,8,9,35,36,37]]⟩,⟨308,4, [[1,3,4,5,7,10], [2,8,9,11,35,36,37]]⟩] [] (λA l=>aui A l) Oy aiH (kz (fc func261 (fc func305 (fc func307 (fc func308 fz)))) (sc Mr (sc TU (sc aa2 (sc TY sz))))) (λA y=>match y with |.c0 p a1 m=>⟨55,sl,by kernel_rfl⟩|.c1 p b0 b3 n=>⟨82,sl,by kernel_rfl⟩|.c2 p c3 j=>⟨57,sl,by kernel_rfl⟩) λ(l:List (Int×List Int)) o h=>by
 show aY (Oy af) (aui af l) (NA l);exact aeq (Bi h).1 (Bi h).2 l.length 0 _ 0 rfl rfl rfl rfl rfl (by omega) (by intro x i;cases i))
def al8(A:aU)(l:Int)(j:List Int)(i:Int)(h:List Int):LT ((Int×List Int)×Int) Empty:=.br (A.cu (A.k FI [(i,h),(l,j)]).2 0) (.ret ((0,([]:List Int)),(A.k FI [(i,h),(l,j)]).2)) (.ret (A.k tX ((l,j),(A.v .u64 (A.k FI [(i,h),(l,j)]).1),24)))
def Nz:((Int×List Int)×(Int×List Int))->((Int×List Int)×Int):=λ((l,j),i,h)=>(al8 af l j i h).val (Ty.aS [(.struct [yI,yB]),yI])
def arV:aK:=.all [(.struct [yI,yB]),(.struct [yI,yB])] [(.struct [yI,yB]),yI] Nz
theorem aql:Sd 260 arV:=fa (aR ap dE sl 44 [] (λA ((l,j),i,h)=>al8 A l j i h) (kz (fc func260 fz) (sc aa1 (sc ag4 sz))))
def t91(A:aU)(i:Int)(j:List Int)(l:Int)(v:Int)(h:Int):LT ((((Int×List Int)×Int))×Unit) Empty:=.br (A.bK l 0) (.ret ((A.k tX ((i,j),(A.v .u64 v),h)),())) (.ret (((i,j),l),()))
variable{e:Int}
theorem axw{k:Int}:aY Empty.elim (t91 af n b e v k) (bif decide (e=0) then tX ((n,b),af.v .u64 v,k) else((n,b),e),()):=by
 by_cases h:e=0
 ·rw[dn h];exact(ak (by rw[bd,h];rfl)).2 (.ret _)
 ·rw[gj h];exact(ai (by rw[bd];simp_all)).2 (.ret _)
def yZ:(((Int×List Int)×Int))×(Int×Int)->(((Int×List Int)×Int))×Unit:=λ((s,e),v,n)=>(bif decide (e=0) then tX (s,af.v .u64 v,n) else(s,e),())
def avV:bV:=.all [.ptr [.d (.struct [yI,yB]),.d yI]] [yI,yI] [] yZ true
theorem aoZ:bV.bE prog 208 avV:=ma (bI ap dE sl 46 [] [] (λA (((j,l),m),(v,i))=>t91 A j l m v i) (λ_=>Empty.elim) Empty.elim (kz (fc func208 fz) (sc aa1 sz)) (λ_ y=>y.elim) (λ((((j,l),m),(v,i)):(((Int×List Int)×Int))×(Int×Int)) n o h=>axw))
def t94(A:aU)(h:Int)(i:List Int)(j:Int)(m:Int)(l:List Int):LT ((((Int×List Int)×Int))×Unit) Empty:=.br (A.bK j 0) (.ret ((A.k NA [(h,i),(m,l)]),())) (.ret (((h,i),j),()))
theorem axz{k:Int}{c:List Int}:aY Empty.elim (t94 af n b e k c) (bif decide (e=0) then NA [(n,b),(k,c)] else((n,b),e),()):=by
 by_cases h:e=0
 ·rw[dn h];exact(ak (by rw[bd,h];rfl)).2 (.ret _)
 ·rw[gj h];exact(ai (by rw[bd];simp_all)).2 (.ret _)
def aec:(((Int×List Int)×Int))×((Int×List Int))->(((Int×List Int)×Int))×Unit:=λ((s,e),b)=>(bif decide (e=0) then NA [s,b] else(s,e),())
def avY:bV:=.all [.ptr [.d (.struct [yI,yB]),.d yI]] [(.struct [yI,yB])] [] aec true
theorem avU:bV.bE prog 211 avY:=ma (bI ap dE sl 46 [] [] (λA (((i,j),n),(m,l))=>t94 A i j n m l) (λ_=>Empty.elim) Empty.elim (kz (fc func211 fz) (sc aqm sz)) (λ_ y=>y.elim) (λ((((i,j),n),(m,l)):(((Int×List Int)×Int))×((Int×List Int))) o p h=>axz))
def t92(A:aU)(j:Int)(l:List Int)(m:Int)(i:Int)(h:List Int):LT ((((Int×List Int)×Int))×Unit) Empty:=.br (A.bK m 0) (.ret ((A.k Nz ((j,l),i,h)),())) (.ret (((j,l),m),()))
theorem axx{k:Int}{c:List Int}:aY Empty.elim (t92 af n b e k c) (bif decide (e=0) then Nz ((n,b),k,c) else((n,b),e),()):=by
 by_cases h:e=0
 ·rw[dn h];exact(ak (by rw[bd,h];rfl)).2 (.ret _)
 ·rw[gj h];exact(ai (by rw[bd];simp_all)).2 (.ret _)
def P2:(((Int×List Int)×Int))×((Int×List Int))->(((Int×List Int)×Int))×Unit:=λ((s,e),b)=>(bif decide (e=0) then Nz (s,b) else(s,e),())
def avW:bV:=.all [.ptr [.d (.struct [yI,yB]),.d yI]] [(.struct [yI,yB])] [] P2 true
theorem avS:bV.bE prog 209 avW:=ma (bI ap dE sl 45 [] [] (λA (((l,m),n),(j,i))=>t92 A l m n j i) (λ_=>Empty.elim) Empty.elim (kz (fc func209 fz) (sc aql sz)) (λ_ y=>y.elim) (λ((((l,m),n),(j,i)):(((Int×List Int)×Int))×((Int×List Int))) o p h=>axx))
structure agb where
 (a0:List Int) (a1:Int)
inductive Y93 where
 | c0 (p:agb) (a2:Int) (a3:Int) (a4:List Int) (a5:Int)
noncomputable def anU:Y93->iB
 | .c0 p a2 a3 a4 a5=>⟨[⟨210,19,(en [(0,.ptr 0 0),(7,.sl yU p.a0),(8,vi p.a1),(9,vi a2)]),sk f210 [1,0,1,0,0],[],none⟩],[.ay false [vi a3,.sl yU a4,vi a5],.a_]⟩
def t93(A:aU)(h:Int)(i:List Int)(j:Int)(l:List Int):LT ((((Int×List Int)×Int))×Unit) Y93:=.ao (.c0 ⟨l,(A.l l)⟩ 0 h i j)
def s93(A:aU):Y93->LT ((((Int×List Int)×Int))×Unit) Y93
 | .c0 p a2 a3 a4 a5=>.br (A.bG a2 p.a1) (.ar (A.and (A.bU 0 a2) (A.bG a2 (A.l p.a0))) (.ao (.c0 p (A.b .add .i64 a2 1) (A.k yZ (((a3,a4),a5),(A.v .i64 (A.n yU p.a0 a2:Int)),8)).1.1.1 (A.k yZ (((a3,a4),a5),(A.v .i64 (A.n yU p.a0 a2:Int)),8)).1.1.2 (A.k yZ (((a3,a4),a5),(A.v .i64 (A.n yU p.a0 a2:Int)),8)).1.2))) (.ret (((a3,a4),a5),()))
def aiD(l:List Int)(s:(Int×List Int)×Int):(Int×List Int)×Int:=l.foldl (λs c=>(yZ (s,af.v .i64 c,8)).1) s
theorem axy{l:List Int}(r:l.length<=140737488355328){p:agb}(n:p.a0=l)(m:p.a1=(l.length:Int)):∀(j i:Nat) (s:(Int×List Int)×Int),l.length-i=j->i<=l.length->
  aY (s93 af) (.ao (.c0 p (i:Int) s.1.1 s.1.2 s.2)) (aiD (l.drop i) s,()):=by
 intro j
 induction j with
 | zero=>
   intro i s q o;have:i=l.length:=by omega
   subst this;rw[aA,s93,m,cv];exact(ai (by rw[aN];simp)).2 (.ret _)
 | succ j ih=>
   intro i s q o;have h:i<l.length:=by omega
   rw[aA,s93,n,m];refine(ak (by simp_all;exact dn (by omega))).2 (au.2 ⟨df h,?_⟩);rw[show(af.n (.int .u8) l (i:Int):Int)=l[i] from fM h _,Cg h,h_ (i:=i) (by omega)];exact ih (i+1) (yZ (s,af.v .i64 l[i],8)).1 (by omega) (by omega)
theorem avl{l:List Int}(h:l.length<=140737488355328):aY (s93 af) (t93 af n b e l) (aiD l ((n,b),e),()):=
 axy h rfl rfl l.length 0 ((n,b),e) rfl (aX _)
def aeb:(((Int×List Int)×Int))×(List Int)->(((Int×List Int)×Int))×Unit:=λ(s,l)=>(aiD l s,())
def avX:bV:=.all [.ptr [.d (.struct [yI,yB]),.d yI]] [yB] [] aeb true
theorem avT:bV.bE prog 210 avX:=ma (bI ap dE sl 19 [⟨210,2, [[0,7,8,9]]⟩] [] (λA (((i,j),m),l)=>t93 A i j m l) s93 anU ⟨(fc func210 fz),sz,oz,iz,(mc aoZ mz),pz⟩ (λA y=>match y with |.c0 p a2 n o q=>⟨32,sl,by kernel_rfl⟩) (λ((((i,j),m),l):(((Int×List Int)×Int))×(List Int)) r t h=>avl h.1))
abbrev abH(A:aU)(h:Int):=(A.k yZ (((0,([]:List Int)),0),(A.b .sub .i64 h 1),2))
def t46(A:aU)(j:Int)(p:Int)(i:Int)(n:Int)(l:Int)(m:Int)(h:Int)(q:Int)(o:List Int):LT ((Int×List Int)×Int) Empty:=.br (A.cu (A.k wS (j,p,(i,n,l,m,h),q,o)) 0) (.ret ((0,([]:List Int)),(A.k wS (j,p,(i,n,l,m,h),q,o)))) (.br (A.cu (A.k NR (i,n,l,m,h)).2 0) (.ret ((0,([]:List Int)),(A.k NR (i,n,l,m,h)).2)) (.br (A.bK j 1) (.ret (A.k P2 ((A.k yZ ((A.k yZ ((A.k yZ ((abH A j).1,q,3)).1,i,8)).1,0,3)).1,0,([]:List Int))).1) (.br (A.bK j 2) (.ret (A.k P2 ((A.k aeb ((A.k yZ ((abH A j).1,p,3)).1,o)).1,(A.k NR (i,n,l,m,h)).1)).1) (.br (A.bK j 3) (.ret (A.k P2 ((A.k aec ((A.k yZ ((A.k yZ ((abH A j).1,p,3)).1,0,1)).1,(A.k NR (i,n,l,m,h)).1)).1,0,([]:List Int))).1) (.br (A.bK j 4) (.ret (A.k P2 ((A.k aeb ((A.k P2 ((A.k aec ((A.k yZ ((A.k yZ ((abH A j).1,p,3)).1,0,2)).1,(A.k NR (i,n,l,m,h)).1)).1,0,([]:List Int))).1,o)).1,(A.k NR (i,n,l,m,h)).1)).1) (.ret (abH A j).1))))))
def zV:((Int×Int×(Int×Int×Int×Int×Int)×Int×List Int))->((Int×List Int)×Int):=λ(p,q,(l,m,i,j,h),o,n)=>(t46 af p q l m i j h o n).val (Ty.aS [(.struct [yI,yB]),yI])
def awI:aK:=.all [(.struct [yI,yI,(.struct [yI,yI,yI,yI,yI]),yI,yB])] [(.struct [yI,yB]),yI] zV
theorem aq8:Sd 155 awI:=fa (bp ap dE sl 120 [] [] (λA (q,r,(m,n,j,l,i),p,o)=>t46 A q r m n j l i p o) (λ_=>Empty.elim) Empty.elim ⟨(fc func155 fz),(sc arn (sc arM sz)),oz,iz,(mc aoZ (mc avS (mc avT (mc avU mz)))),pz⟩ (λ_ y=>y.elim) λ((q,r,(m,n,j,l,i),p,o):(Int×Int×(Int×Int×Int×Int×Int)×Int×List Int)) t h=>LT.runs (d:=Ty.aS [(.struct [yI,yB]),yI]) (LT.gf (by kernel_rfl)) (LT.iI (by kernel_rfl)))
theorem aqe(h:0<=n)(i:n<=8):af.b .shl .i64 1 n=((2^n.toNat:Nat):Int):=by
 have:n=0\/n=1\/n=2\/n=3\/n=4\/n=5\/n=6\/n=7\/n=8:=by omega
 rcases this with rfl|rfl|rfl|rfl|rfl|rfl|rfl|rfl|rfl<;>decide
theorem Ah{n:Nat}(h:n<=8):2^n<=256:=fR (by decide) h
def qY(c a:Int):Bool:=c.toNat.testBit a.toNat
def pH(c s:Int):Int:=af.b .or .i64 c (af.b .shl .i64 1 s)
def wQ(c s:Int):Int:=af.b .andNot .i64 c (af.b .shl .i64 1 s)
theorem aeo:∀c:Fin 256,∀a:Fin 8,af.b .or .i64 (c.val:Int) (af.b .shl .i64 1 (a.val:Int))=((c.val ||| 2^a.val:Nat):Int):=by decide +kernel
theorem ad2:∀c:Fin 256,∀a:Fin 8,af.b .andNot .i64 (c.val:Int) (af.b .shl .i64 1 (a.val:Int))=((c.val &&& (255 ^^^ 2^a.val):Nat):Int):=by decide +kernel
theorem Zc(h:0<=c)(j:c<256)(i:0<=s)(l:s<8):pH c s=((c.toNat ||| 2^s.toNat:Nat):Int):=by
 obtain⟨c,rfl⟩:=aP h;obtain⟨s,rfl⟩:=aP i;exact aeo ⟨c,by omega⟩ ⟨s,by omega⟩
theorem del_eq(h:0<=c)(j:c<256)(i:0<=s)(l:s<8):wQ c s=((c.toNat &&& (255 ^^^ 2^s.toNat):Nat):Int):=by
 obtain⟨c,rfl⟩:=aP h;obtain⟨s,rfl⟩:=aP i;exact ad2 ⟨c,by omega⟩ ⟨s,by omega⟩
theorem Zd(h:0<=c)(o:n<=8)(l:c<((2^n.toNat:Nat):Int))(i:0<=s)(m:s<n):0<=pH c s/\pH c s<((2^n.toNat:Nat):Int):=by
 have p:=Ah (n:=n.toNat) (by omega);rw[Zc h (by omega) i (by omega)];have j:2^s.toNat<2^n.toNat:=Nat.pow_lt_pow_right (by decide) (by omega);have:=Nat.or_lt_two_pow (x:=c.toNat) (y:=2^s.toNat) (n:=n.toNat) (by omega) j;omega
theorem XF(h:0<=c)(m:n<=8)(j:c<((2^n.toNat:Nat):Int))(i:0<=s)(l:s<8):0<=wQ c s/\wQ c s<((2^n.toNat:Nat):Int):=by
 have o:2^n.toNat<=2^8:=fR (by decide) (by omega);rw[del_eq h (by omega) i (by omega)];have:c.toNat &&& (255 ^^^ 2^s.toNat)<=c.toNat:=Nat.and_le_left;omega
theorem R2{i:Int}(h:0<=c)(j:c<256)(l:0<=s)(m:s<8)(n:0<=i):qY (pH c s) i=(qY c i||s==i):=by
 rw[Zc h j l m,qY,qY,rz,Nat.testBit_or,Nat.testBit_two_pow]
 grind
theorem KF{i:Int}(h:0<=c)(j:c<256)(l:0<=s)(m:s<8)(n:0<=i):qY (wQ c s) i=(qY c i&&s != i):=by
 rw[del_eq h j l m,qY,qY,rz,Nat.testBit_and,Nat.testBit_xor,Nat.testBit_two_pow];by_cases o:i<8
 ·have e:Nat.testBit 255 i.toNat=true:=by
   have:i.toNat=0\/i.toNat=1\/i.toNat=2\/i.toNat=3\/i.toNat=4\/i.toNat=5\/i.toNat=6\/i.toNat=7:=by omega
   grind
  grind
 ·have:c.toNat.testBit i.toNat=false:=Nat.testBit_lt_two_pow (bu (by omega:c.toNat<2^8) (fR (by decide) (by omega)))
  simp_all
theorem Xj:∀c:Fin 256,∀a:Fin 8,(af.b .and .i64 (af.b .shr .i64 (c.val:Int) (a.val:Int)) 1==0)=!(c.val.testBit a.val):=by decide +kernel
theorem Xk:∀c:Fin 256,∀a:Fin 8,(af.b .and .i64 (c.val:Int) (af.b .shl .i64 1 (a.val:Int))==0)=!(c.val.testBit a.val):=by decide +kernel
theorem agf(h:0<=c)(j:c<256)(i:0<=a)(l:a<8):af.b .and .i64 (af.b .shr .i64 c a) 1=0↔qY c a=false:=by
 obtain⟨c,rfl⟩:=aP h;obtain⟨a,rfl⟩:=aP i;have:=Xj ⟨c,by omega⟩ ⟨a,by omega⟩;rw[<-beq_iff_eq,this];simp[qY]
theorem anL(h:0<=c)(j:c<256)(i:0<=a)(l:a<8):af.b .and .i64 c (af.b .shl .i64 1 a)=0↔qY c a=false:=by
 obtain⟨c,rfl⟩:=aP h;obtain⟨a,rfl⟩:=aP i;have:=Xk ⟨c,by omega⟩ ⟨a,by omega⟩;rw[<-beq_iff_eq,this];simp[qY]
def oq(a b c d e f g:Int):Prop:=4<=b/\b<=8/\0<=a/\a<b/\0<=g/\g<b/\0<=c/\c<((2^b.toNat:Nat):Int)/\0<=d/\d<=1048576/\0<=e/\e<=1048576/\0<=f/\f<=2/\(f≠0->qY c a=true)/\(f=2->g≠a)
variable{f g:Int}
theorem apB{b:Int}(h:oq a b c d e f g):c<256:=by
 obtain⟨i,j,_,_,_,_,_,l,_⟩:=h;have:=Ah (n:=b.toNat) (by omega);omega
def t81(A:aU)(n:Int)(h:Int):LT Bool Empty:=.br (A.nM n 0) (.ret (A.bU n h)) (.ret false)
def IY:(Int×Int)->Bool:=λ(n,h)=>(t81 af n h).val (Ty.aS [.bool])
def awV:aK:=.all [yI,yI] [.bool] IY
theorem arL:Sd 234 awV:=fa (aR ap dE sl 21 [] (λA (n,h)=>t81 A n h) (kz (fc func234 fz) sz))
theorem Ld:IY (n,m)=(decide (0<=n)&&decide (n<=m)):=by
 simp only[IY,t81,LT.val,gq,aB]
 simp_all
def t34(A:aU)(j:Int)(n:Int)(l:Int)(o:Int)(m:Int)(h:Int)(i:Int):LT Int Empty:=.br (A.bG n 4) (.ret 90) (.br (A.ji n 8) (.ret 90) (.br (A.not (A.k IY (j,(A.b .sub .i64 n 1)))) (.ret 90) (.br (A.not (A.k IY (i,(A.b .sub .i64 n 1)))) (.ret 90) (.br (A.not (A.k IY (o,1048576))) (.ret 90) (.br (A.not (A.k IY (m,1048576))) (.ret 90) (.br (A.not (A.k IY (h,2))) (.ret 90) (.ar (A.bU 0 n) (.br (A.not (A.k IY (l,(A.b .sub .i64 (A.b .shl .i64 1 n) 1)))) (.ret 90) (.br (A.cu h 0) (.ar (A.bU 0 j) (.br (A.bK (A.b .and .i64 (A.b .shr .i64 l j) 1) 0) (.ret 90) (.br (A.bK h 2) (.br (A.bK i j) (.ret 90) (.ret 0)) (.ret 0)))) (.br (A.bK h 2) (.br (A.bK i j) (.ret 90) (.ret 0)) (.ret 0)))))))))))
def rE:((Int×Int×Int×Int×Int×Int×Int))->Int:=λ(n,o,m,l,j,i,h)=>(t34 af n o m l j i h).val (Ty.aS [yI])
def awC:aK:=.all [(.struct [yI,yI,yI,yI,yI,yI,yI])] [yI] rE
theorem Q_:Sd 184 awC:=fa (aR ap dE sl 123 [] (λA (o,p,n,m,l,j,i)=>t34 A o p n m l j i) (kz (fc func184 fz) (sc arL sz)) (λ((o,p,n,m,l,j,i):(Int×Int×Int×Int×Int×Int×Int)) q h=>by
 show(t34 af o p n m l j i).pre=true;simp only[t34,LT.pre,STD,bne_iff_ne,beq_iff_eq,bne_eq_false_iff_eq,beq_eq_false_iff_ne,Ld];simp only[Ty.jj,Ty.has,F_,aoc] at h
 (repeat' (first|intro _|constructor))<;>(try omega)))
variable{x:Int×Int×Int×Int×Int×Int×Int}
theorem PS:rE x=0\/rE x=90:=by
 exact LT.qV (p:=λy=>y=0\/y=90) (.inl rfl) (by simp[t34,LT.all])
theorem gZ{b:Int}:rE (a,b,c,d,e,f,g)=0↔oq a b c d e f g:=by
 simp only[rE,t34,LT.val,zR,bd,cq,aN,bY,lf,bo,fO,fB,Bool.not_eq_false',rR,decide_eq_false_iff_not,bne_iff_ne,beq_iff_eq,bne_eq_false_iff_eq,beq_eq_false_iff_ne,Ld];simp;unfold oq;by_cases j:4<=b/\b<=8
 ·rw[lg (by omega) (by omega),aqe (by omega) j.2]
  have m:=Ah (n:=b.toNat) (by omega);have l:1<=2^b.toNat:=Nat.one_le_two_pow;rw[lg (by omega) (by omega)];by_cases i:0<=c/\c<256/\0<=a/\a<8
  ·have h:=agf i.1 i.2.1 i.2.2.1 i.2.2.2
   grind
  omega
 omega
def t80(A:aU)(n:Int):LT Int Empty:=.ar (A.bU 0 (A.v .u64 n)) (.ret (A.b .shl .i64 1 (A.v .u64 n)))
def YM:Int->Int:=λn=>(t80 af n).val (Ty.aS [yI])
def awU:aK:=.all [yI] [yI] YM
theorem awu:Sd 129 awU:=fa (aR ap dE sl 17 [] (λA n=>t80 A n) (kz (fc func129 fz) sz) (λ(n:Int) i h=>by
 show(t80 af n).pre=true;simp only[t80,LT.pre,STD,bne_iff_ne,beq_iff_eq,bne_eq_false_iff_eq,beq_eq_false_iff_ne];simp only[Ty.jj,Ty.has,F_] at h;have:=lu .u64 n;exact⟨this.1,trivial⟩))
theorem SL(h:0<=n)(i:n<=8):YM n=((2^n.toNat:Nat):Int):=by
 have:n=0\/n=1\/n=2\/n=3\/n=4\/n=5\/n=6\/n=7\/n=8:=by omega
 rcases this with rfl|rfl|rfl|rfl|rfl|rfl|rfl|rfl|rfl<;>decide
theorem YN(h:0<=n)(i:n<=8):YM n=af.b .shl .i64 1 n:=by rw[SL h i,aqe h i]
def t35(A:aU)(l:Int)(o:Int)(m:Int)(n:Int)(j:Int)(h:Int)(i:Int):LT Int Empty:=.br (A.bG o 4) (.ret 90) (.br (A.ji o 8) (.ret 90) (.br (A.bG l 0) (.ret 90) (.br (A.nM l o) (.ret 90) (.br (A.bG i 0) (.ret 90) (.br (A.nM i o) (.ret 90) (.br (A.bG m 0) (.ret 90) (.br (A.nM m (A.k YM o)) (.ret 90) (.br (A.bG n 0) (.ret 90) (.br (A.ji n 1048576) (.ret 90) (.br (A.bG j 0) (.ret 90) (.br (A.ji j 1048576) (.ret 90) (.br (A.bG h 0) (.ret 90) (.br (A.ji h 2) (.ret 90) (.br (A.cu h 0) (.br (A.bK (A.b .and .i64 m (A.k YM l)) 0) (.ret 90) (.br (A.bK h 2) (.br (A.bK i l) (.ret 90) (.ret 0)) (.ret 0))) (.br (A.bK h 2) (.br (A.bK i l) (.ret 90) (.ret 0)) (.ret 0))))))))))))))))
def tG:((Int×Int×Int×Int×Int×Int×Int))->Int:=λ(n,o,m,l,j,i,h)=>(t35 af n o m l j i h).val (Ty.aS [yI])
def awD:aK:=.all [(.struct [yI,yI,yI,yI,yI,yI,yI])] [yI] tG
theorem awk:Sd 85 awD:=fa (aR ap dE sl 130 [] (λA (n,o,m,l,j,i,h)=>t35 A n o m l j i h) (kz (fc func85 fz) (sc awu sz)))
theorem PU:tG x=0\/tG x=90:=by
 exact LT.qV (p:=λy=>y=0\/y=90) (.inl rfl) (by simp[t35,LT.all])
theorem nA{b:Int}:tG (a,b,c,d,e,f,g)=0↔oq a b c d e f g:=by
 simp only[tG,t35,LT.val,zR,bd,cq,aN,bY,gq,bo,decide_eq_false_iff_not,bne_iff_ne,beq_iff_eq,bne_eq_false_iff_eq,beq_eq_false_iff_ne];simp;unfold oq;by_cases j:4<=b/\b<=8/\0<=a/\a<b
 ·rw[SL (by omega) j.2.1,YN (n:=a) (by omega) (by omega)]
  have l:=Ah (n:=b.toNat) (by omega);by_cases i:0<=c/\c<256
  ·have h:=anL (a:=a) i.1 i.2 (by omega) (by omega)
   grind
  omega
 omega
theorem chk:rE x=tG x:=by
 have h:=PS (x:=x);have i:=PU (x:=x);obtain⟨a,b,c,d,e,f,g⟩:=x;have j:=gZ (a:=a) (b:=b) (c:=c) (d:=d) (e:=e) (f:=f) (g:=g);have l:=nA (a:=a) (b:=b) (c:=c) (d:=d) (e:=e) (f:=f) (g:=g)
 grind
def t77(A:aU)(l:Int)(o:Int)(n:Int)(m:Int)(j:Int)(i:Int)(h:Int)(node:Int):LT Bool Empty:=.br (A.k IY (node,(A.b .sub .i64 o 1))) (.ret (A.cu node l)) (.ret false)
def IX:((Int×Int×Int×Int×Int×Int×Int)×Int)->Bool:=λ((n,o,m,l,j,i,h),node)=>(t77 af n o m l j i h node).val (Ty.aS [.bool])
def awS:aK:=.all [(.struct [yI,yI,yI,yI,yI,yI,yI]),yI] [.bool] IX
theorem alR:Sd 297 awS:=fa (aR ap dE sl 26 [] (λA ((n,o,m,l,j,i,h),node)=>t77 A n o m l j i h node) (kz (fc func297 fz) (sc arL sz)))
def t73(A:aU)(o:Int)(p:Int)(m:Int)(l:Int)(j:Int)(i:Int)(h:Int)(n:Int):LT Int Empty:=.br (A.cu (A.k rE (o,p,m,l,j,i,h)) 0) (.ret (A.k rE (o,p,m,l,j,i,h))) (.br (A.not (A.k IX ((o,p,m,l,j,i,h),n))) (.ret 2) (.ret 0))
def PY:((Int×Int×Int×Int×Int×Int×Int)×Int)->Int:=λ((o,p,n,m,l,i,h),j)=>(t73 af o p n m l i h j).val (Ty.aS [yI])
def awQ:aK:=.all [(.struct [yI,yI,yI,yI,yI,yI,yI]),yI] [yI] PY
theorem arD:Sd 300 awQ:=fa (aR ap dE sl 39 [] (λA ((o,p,n,m,l,i,h),j)=>t73 A o p n m l i h j) (kz (fc func300 fz) (sc Q_ (sc alR sz))))
abbrev Hg(A:aU)(i:Int)(h:Int):=(A.b .or .i64 i (A.b .shl .i64 1 h))
def t78(A:aU)(m:Int)(p:Int)(j:Int)(o:Int)(n:Int)(l:Int)(i:Int)(h:Int):LT (List Int×Int) Empty:=.ar (A.bU 0 m) (.ar (A.bU 0 i) (.ar (A.bU 0 h) (.br (A.bK l 0) (.ret ([(Hg A j h),0],1)) (.br (A.bK l 1) (.ret ([(A.b .or .i64 (Hg A j h) (A.b .shl .i64 1 m)),(A.b .andNot .i64 (Hg A j h) (A.b .shl .i64 1 m))],2)) (.br (A.bK h i) (.ret ([(A.b .or .i64 (Hg A j h) (A.b .shl .i64 1 m)),0],1)) (.ret ([(A.b .andNot .i64 (A.b .or .i64 (Hg A j h) (A.b .shl .i64 1 m)) (A.b .shl .i64 1 i)),(A.b .andNot .i64 (A.b .or .i64 (Hg A j h) (A.b .shl .i64 1 i)) (A.b .shl .i64 1 m))],2)))))))
def oi:((Int×Int×Int×Int×Int×Int×Int)×Int)->(List Int×Int):=λ((o,p,n,m,l,i,h),j)=>(t78 af o p n m l i h j).val (Ty.aS [(.arr 2 yI),yI])
def J7:((Int×Int×Int×Int×Int×Int×Int)×Int)->Bool:=λ((a,b,c,d,e,f,g),s)=>decide (0<=a)&&(decide (0<=g)&&decide (0<=s))
def awT:aK:=⟨[(.struct [yI,yI,yI,yI,yI,yI,yI]),yI], [(.arr 2 yI),yI],J7,oi,false⟩
theorem arK:Sd 298 awT:=aR ap dE sl 77 [] (λA ((p,q,o,n,m,j,i),l)=>t78 A p q o n m j i l) (kz (fc func298 fz) sz) (λ(((p,q,o,n,m,j,i),l):(Int×Int×Int×Int×Int×Int×Int)×Int) r h=>by
 show(t78 af p q o n m j i l).pre=true;simp only[t78,Hg,LT.pre,STD,bne_iff_ne,beq_iff_eq,bne_eq_false_iff_eq,beq_eq_false_iff_ne];simp only[J7,fv,rR] at r;simp only[Ty.jj,Ty.has,F_,aoc] at h
 (repeat' (first|intro _|constructor))<;>(try omega))
theorem xv{b:Int}(h:4<=b)(i:b<=8):IX ((a,b,c,d,e,f,g),s)=true↔0<=s/\s<b/\s≠a:=by
 simp only[IX,t77,LT.val,cq,bo,fO,Ld];simp;rw[lg (by omega) (by omega)];omega
theorem NQ{x:(Int×Int×Int×Int×Int×Int×Int)×Int}:0<=(oi x).2/\(oi x).2<=2:=by
 exact LT.qV (p:=λy:List Int×Int=>0<=y.2/\y.2<=2) (by decide) (by simp[t78,Hg,LT.all])
structure anH where
 (a0 a1 a2 a4 a5 a6 a7 a8 a9 iN kV a12 Dw Jv M9 a16 a17 O8 O9 a20 a21 a22 a23:Int) (a24:Bool) (a25 a26 a27 a28 a29 a30 a31 a32 a33 a34 a35 a36 a37 a38 a39 a40:Int)
inductive Y74 where
 | c0 (p:anH) (a3:Int)
noncomputable def anS:Y74->iB
 | .c0 p a3=>⟨[⟨296,37,(en [(0,.yield 0),(24,.vL 1 1 false p.a0 p.a1),(25,vi p.a2),(26,vi a3)]),sk f296 [1,1,1,0,0],[],none⟩,⟨301,19,(en [(6,.ptr 2 0),(7,.ptr 3 0)]),[.oP 0,.inBlock 0,.code (cw f301 [1,1])],[4],none⟩],[.loop ⟨301,19,(en [(0,.agg [vi p.a4,vi p.a5,vi p.a6,vi p.a7,vi p.a8,vi p.a9,vi p.iN]),(1,vi p.kV),(2,vi p.a12),(3,.ptr 5 0),(5,.ptr 6 0),(6,.ptr 2 0),(7,.ptr 3 0),(10,.agg [vi p.Dw,vi p.Jv,vi p.M9,vi p.a16,vi p.a17,vi p.O8,vi p.O9]),(11,vi p.a20),(12,.fn 296 [] [.ptr 7 0,.ptr 8 0])]),[13,14],(cw f301 [1,0,1,0,0]),(cw f301 [1,0,1,0,1]),0,none⟩,.ay false [vi p.a21,vi p.a22],.ay false [vi p.a23],.ay false [vb p.a24],.Ie,.ay false [vi p.a25,vi p.a26,vi p.a27,vi p.a28,vi p.a29,vi p.a30,vi p.a31],.ay false [vi p.a32],.ay false [vi p.a33,vi p.a34,vi p.a35,vi p.a36,vi p.a37,vi p.a38,vi p.a39],.ay false [vi p.a40],.a_]⟩
def t74(A:aU)(o:Int)(p:Int)(n:Int)(m:Int)(l:Int)(i:Int)(h:Int)(j:Int)(q:Int):LT (Int×Bool) Y74:=.br (A.cu (A.k rE (o,p,n,m,l,i,h)) 0) (.ret (0,false)) (.br (A.not (A.k IX ((o,p,n,m,l,i,h),j))) (.ret (0,false)) (.ar (A.k J7 ((o,p,n,m,l,i,h),j)) (.ar (A.and (A.bU 0 0) (A.and (A.bU 0 (A.k oi ((o,p,n,m,l,i,h),j)).2) (A.bU (A.k oi ((o,p,n,m,l,i,h),j)).2 2))) (.ao (.c0 ⟨(A.b .add .i64 0 0),(A.b .sub .i64 (A.k oi ((o,p,n,m,l,i,h),j)).2 0),(A.b .sub .i64 (A.k oi ((o,p,n,m,l,i,h),j)).2 0),o,p,n,m,l,i,h,j,q,o,p,n,m,l,i,h,j,(A.n yI (A.k oi ((o,p,n,m,l,i,h),j)).1 0:Int),(A.n yI (A.k oi ((o,p,n,m,l,i,h),j)).1 1:Int),0,false,o,p,n,m,l,i,h,q,o,p,n,m,l,i,h,j⟩ 0)))))
def s74(A:aU):Y74->LT (Int×Bool) Y74
 | .c0 p a3=>.br (A.bG a3 p.a2) (.ar (A.and (A.bU 0 a3) (A.bG a3 p.a1)) (.br (A.bK a3 p.a32) (.ret ((A.n yI [p.a21,p.a22] (A.b .add .i64 p.a0 a3):Int),true)) (.ao (.c0 p (A.b .add .i64 a3 1))))) (.ret (0,false))
def La:((Int×Int×Int×Int×Int×Int×Int)×Int×Int)->(Int×Bool):=λ(m,s,k)=>bif rE m != 0 then(0,false) else bif !IX (m,s) then(0,false) else bif decide (0<=k)&&decide (k<(oi (m,s)).2) then((oi (m,s)).1.getD k.toNat 0,true) else(0,false)
def awR:aK:=.all [(.struct [yI,yI,yI,yI,yI,yI,yI]),yI,yI] [yI,.bool] La
theorem awt:Sd 301 awR:=fa (bp ap dE sl 70 [⟨296,3, [[0,24,25,26], [6,7]]⟩] [] (λA ((v,z,u,t,r,m,j),o,i)=>t74 A v z u t r m j o i) s74 anS (kz (fc func301 (fc func249 (fc func296 fz))) (sc Q_ (sc alR (sc arK sz)))) (λA y=>match y with |.c0 p K=>⟨57,sl,by kernel_rfl⟩) λ(((v,z,u,t,r,m,j),o,i):(Int×Int×Int×Int×Int×Int×Int)×Int×Int) O h=>by
 show aY (s74 af) (t74 af v z u t r m j o i) (La ((v,z,u,t,r,m,j),o,i));unfold t74 La;refine .br ?_;simp only[bo,cq,lf];cases h1:rE (v,z,u,t,r,m,j) != 0
 ·simp only[cond_false]
  rw[bne_eq_false_iff_eq] at h1;have H:=gZ.1 h1;unfold oq at H;refine .br ?_;cases h2:IX ((v,z,u,t,r,m,j),o)
  ·exact .ret _
  ·simp only[Bool.not_true,cond_false]
   have N:=(xv (by omega) (by omega)).1 h2;have J:=NQ (x:=((v,z,u,t,r,m,j),o));refine .ar (by simp[J7];omega) ?_;generalize oi ((v,z,u,t,r,m,j),o)=q at *;obtain⟨l,n⟩:=q;simp only at J;refine .ar (by simp only[bl,aB,fv,rR];omega) ?_;have I:n=0\/n=1\/n=2:=by omega
   have G:i=0\/i=1\/(i≠0/\i≠1):=by omega
   have B:IntKind.i64.wrap 0=0:=by decide
   have C:IntKind.i64.wrap 1=1:=by decide
   have D:IntKind.i64.wrap 2=2:=by decide
   rcases I with rfl|rfl|rfl<;>rcases G with rfl|rfl|⟨P,Q⟩
   all_goals first
    | (simp[aA,s74,uv,au,jV,aN,aB,bd,bl,gp,fO,T7,B,C,D,Ty.gw];done)
    | (simp[aA,s74,uv,au,jV,aN,aB,bd,bl,gp,fO,B,C,D];rfl)
    | (have E:(0==i)=false:=by simp<;>omega
       have F:(1==i)=false:=by simp<;>omega
       have c0:(decide (0<=i)&&decide (i<0))=false:=by simp<;>omega
       have c1:(decide (0<=i)&&decide (i<1))=false:=by simp<;>omega
       have c2:(decide (0<=i)&&decide (i<2))=false:=by simp<;>omega
       simp only[c0,c1,c2];simp[aA,s74,uv,au,jV,aN,aB,bd,bl,gp,fO,T7,B,C,D,E,F])
 ·exact .ret _)
theorem jJ{b:Int}:PY ((a,b,c,d,e,f,g),s)=0↔oq a b c d e f g/\0<=s/\s<b/\s≠a:=by
 simp only[PY,t73,LT.val,zR,cq,lf,bo,Bool.not_eq_false',bne_iff_ne,bne_eq_false_iff_eq];constructor
 ·intro h
  rcases h with ⟨m,j⟩|⟨m,j⟩
  ·omega
  ·have l:=gZ.1 m
   have i:=l;unfold oq at i;rcases j with ⟨j,o⟩|⟨j,_⟩
   ·omega
   ·exact⟨l,(xv (by omega) (by omega)).1 j⟩
 ·rintro ⟨l,n⟩
  have i:=l;unfold oq at i;exact .inr ⟨gZ.2 l,.inr ⟨(xv (by omega) (by omega)).2 n,trivial⟩⟩
abbrev Ha(A:aU)(o:Int)(q:Int)(p:Int)(m:Int)(h:Int)(j:Int)(i:Int)(l:Int)(n:Int):LT ((Int×Int×Int×Int×Int×Int×Int)×Int) Empty:=(.br (A.bK j 2) (.br (A.cu l i) (.ret ((o,q,(A.k La ((o,q,p,m,h,j,i),l,n)).1,(A.mn (A.b .add .i64 m 1) 1048576),(A.mn (A.b .add .i64 h 1) 1048576),0,0),0)) (.ret ((o,q,(A.k La ((o,q,p,m,h,j,i),l,n)).1,(A.mn (A.b .add .i64 m 1) 1048576),h,0,0),0))) (.ret ((o,q,(A.k La ((o,q,p,m,h,j,i),l,n)).1,(A.mn (A.b .add .i64 m 1) 1048576),h,0,0),0)))
def t25(A:aU)(p:Int)(q:Int)(n:Int)(m:Int)(l:Int)(i:Int)(j:Int)(h:Int)(o:Int):LT ((Int×Int×Int×Int×Int×Int×Int)×Int) Empty:=.br (A.cu (A.k PY ((p,q,n,m,l,i,j),h)) 0) (.ret ((0,0,0,0,0,0,0),(A.k PY ((p,q,n,m,l,i,j),h)))) (.br (A.not (A.k La ((p,q,n,m,l,i,j),h,o)).2) (.ret ((0,0,0,0,0,0,0),2)) (.br (A.bK i 1) (.br (A.bK o 1) (.ar (A.bU 0 h) (.ret ((p,q,(A.b .or .i64 n (A.b .shl .i64 1 h)),m,l,2,h),0))) (Ha A p q n m l i j h o)) (Ha A p q n m l i j h o)))
def u7:((Int×Int×Int×Int×Int×Int×Int)×Int×Int)->((Int×Int×Int×Int×Int×Int×Int)×Int):=λ((p,q,o,n,l,i,h),j,m)=>(t25 af p q o n l i h j m).val (Ty.aS [(.struct [yI,yI,yI,yI,yI,yI,yI]),yI])
def awy:aK:=.all [(.struct [yI,yI,yI,yI,yI,yI,yI]),yI,yI] [(.struct [yI,yI,yI,yI,yI,yI,yI]),yI] u7
theorem awi:Sd 255 awy:=fa (aR ap dE sl 107 [] (λA ((q,r,p,o,m,j,i),l,n)=>t25 A q r p o m j i l n) (kz (fc func255 fz) (sc arD (sc awt sz))) (λ(((q,r,p,o,m,j,i),l,n):(Int×Int×Int×Int×Int×Int×Int)×Int×Int) u h=>by
 show(t25 af q r p o m j i l n).pre=true;simp only[t25,Ha,LT.pre,STD,bne_iff_ne,beq_iff_eq,bne_eq_false_iff_eq,beq_eq_false_iff_ne];simp only[Ty.jj,Ty.has,F_] at h
 (repeat' (first|intro _|constructor))<;>(try (have t:=(jJ.1 (by assumption));unfold oq at t;omega))))
def t38(A:aU)(o:Int)(p:Int)(n:Int)(m:Int)(l:Int)(j:Int)(i:Int)(h:Int):LT ((Int×Int×Int×Int×Int×Int×Int)×Int) Empty:=.br (A.cu (A.k PY ((o,p,n,m,l,j,i),h)) 0) (.ret ((0,0,0,0,0,0,0),(A.k PY ((o,p,n,m,l,j,i),h)))) (.ar (A.bU 0 h) (.br (A.bK j 2) (.br (A.bK i h) (.ret ((o,p,(A.b .andNot .i64 n (A.b .shl .i64 1 h)),m,l,1,0),0)) (.ret ((o,p,(A.b .andNot .i64 n (A.b .shl .i64 1 h)),m,l,j,i),0))) (.ret ((o,p,(A.b .andNot .i64 n (A.b .shl .i64 1 h)),m,l,j,i),0))))
def uH:((Int×Int×Int×Int×Int×Int×Int)×Int)->((Int×Int×Int×Int×Int×Int×Int)×Int):=λ((o,p,n,m,l,i,h),j)=>(t38 af o p n m l i h j).val (Ty.aS [(.struct [yI,yI,yI,yI,yI,yI,yI]),yI])
def awE:aK:=.all [(.struct [yI,yI,yI,yI,yI,yI,yI]),yI] [(.struct [yI,yI,yI,yI,yI,yI,yI]),yI] uH
theorem aqO:Sd 253 awE:=fa (aR ap dE sl 63 [] (λA ((p,q,o,n,m,j,i),l)=>t38 A p q o n m j i l) (kz (fc func253 fz) (sc arD sz)) (λ(((p,q,o,n,m,j,i),l):(Int×Int×Int×Int×Int×Int×Int)×Int) t h=>by
 show(t38 af p q o n m j i l).pre=true;simp only[t38,LT.pre,STD,bne_iff_ne,beq_iff_eq,bne_eq_false_iff_eq,beq_eq_false_iff_ne];simp only[Ty.jj,Ty.has,F_] at h
 (repeat' (first|intro _|constructor))<;>(try (have r:=(jJ.1 (by assumption));unfold oq at r;omega))))
def t39(A:aU)(o:Int)(p:Int)(n:Int)(m:Int)(l:Int)(i:Int)(h:Int)(j:Int):LT ((Int×Int×Int×Int×Int×Int×Int)×Int) Empty:=.br (A.bK (A.k uH ((o,p,n,m,l,i,h),j)).2 0) (.ret (((A.k uH ((o,p,n,m,l,i,h),j)).1.1,(A.k uH ((o,p,n,m,l,i,h),j)).1.2.1,(A.k uH ((o,p,n,m,l,i,h),j)).1.2.2.1,(A.k uH ((o,p,n,m,l,i,h),j)).1.2.2.2.1,(A.mn (A.b .add .i64 (A.k uH ((o,p,n,m,l,i,h),j)).1.2.2.2.2.1 1) 1048576),(A.k uH ((o,p,n,m,l,i,h),j)).1.2.2.2.2.2),(A.k uH ((o,p,n,m,l,i,h),j)).2)) (.ret (A.k uH ((o,p,n,m,l,i,h),j)))
def Yn:((Int×Int×Int×Int×Int×Int×Int)×Int)->((Int×Int×Int×Int×Int×Int×Int)×Int):=λ((o,p,n,m,l,i,h),j)=>(t39 af o p n m l i h j).val (Ty.aS [(.struct [yI,yI,yI,yI,yI,yI,yI]),yI])
def awF:aK:=.all [(.struct [yI,yI,yI,yI,yI,yI,yI]),yI] [(.struct [yI,yI,yI,yI,yI,yI,yI]),yI] Yn
theorem awl:Sd 254 awF:=fa (aR ap dE sl 45 [] (λA ((o,p,n,m,l,i,h),j)=>t39 A o p n m l i h j) (kz (fc func254 fz) (sc aqO sz)))
def inc(d:Int):Int:=if d<1048576 then d+1 else 1048576
theorem xI(h:0<=d)(i:d<=1048576):af.mn (af.b .add .i64 d 1) 1048576=inc d:=by
 rw[nW,gp,lg (by omega) (by omega),inc];omega
section
variable {a b c d e f g s:Int}
theorem PZ:oi ((a,b,c,d,e,0,g),s)=([pH c s,0],1):=rfl
theorem P0:oi ((a,b,c,d,e,1,g),s)=([pH (pH c s) a,wQ (pH c s) a],2):=rfl
theorem Lb:oi ((a,b,c,d,e,2,g),g)=([pH (pH c g) a,0],1):=by
 simp[oi,t78,Hg,LT.val,bd,pH]
theorem Lc(h:s≠g):oi ((a,b,c,d,e,2,g),s)=([wQ (pH (pH c s) a) g,wQ (pH (pH c s) g) a],2):=by
 have i:(s==g)=false:=by simp_all
 simp[oi,t78,Hg,LT.val,bd,pH,wQ,i]
theorem ua(h:oq a b c d e f g)(i:0<=s)(j:s<b)(l:s≠a)(k:Int):La ((a,b,c,d,e,f,g),s,k) =
  bif decide (0<=k)&&decide (k<(oi ((a,b,c,d,e,f,g),s)).2) then((oi ((a,b,c,d,e,f,g),s)).1.getD k.toNat 0,true) else(0,false):=by
 have m:=h;unfold oq at m;simp[La,gZ.2 h,(xv (by omega) (by omega)).2 ⟨i,j,l⟩,bne_self_eq_false,Bool.not_true,cond_false]
theorem YX(h:oq a b c d e 0 g)(i:0<=s)(j:s<b)(l:s≠a):u7 ((a,b,c,d,e,0,g),s,0)=((a,b,pH c s,inc d,e,0,0),0):=by
 have m:=h;unfold oq at m;simp[u7,t25,Ha,LT.val,bo,cq,bd,lf,jJ.2 ⟨h,i,j,l⟩,ua h i j l,PZ,xI (d:=d) (by omega) (by omega)]
theorem YY(h:oq a b c d e 1 g)(i:0<=s)(j:s<b)(l:s≠a):u7 ((a,b,c,d,e,1,g),s,0)=((a,b,pH (pH c s) a,inc d,e,0,0),0):=by
 have m:=h;unfold oq at m;simp[u7,t25,Ha,LT.val,bo,cq,bd,lf,jJ.2 ⟨h,i,j,l⟩,ua h i j l,P0,xI (d:=d) (by omega) (by omega)]
theorem SP(h:oq a b c d e 1 g)(i:0<=s)(j:s<b)(l:s≠a):u7 ((a,b,c,d,e,1,g),s,1)=((a,b,pH c s,d,e,2,s),0):=by
 simp[u7,t25,Ha,LT.val,bo,cq,bd,lf,jJ.2 ⟨h,i,j,l⟩,ua h i j l,P0,pH]
theorem SQ(h:oq a b c d e 2 g)(i:0<=g)(j:g<b)(l:g≠a):u7 ((a,b,c,d,e,2,g),g,0)=((a,b,pH (pH c g) a,inc d,e,0,0),0):=by
 have m:=h;unfold oq at m;simp[u7,t25,Ha,LT.val,bo,cq,bd,lf,jJ.2 ⟨h,i,j,l⟩,ua h i j l,Lb,xI (d:=d) (by omega) (by omega)]
theorem SS(h:oq a b c d e 2 g)(i:0<=s)(j:s<b)(l:s≠a)(m:s≠g):u7 ((a,b,c,d,e,2,g),s,0)=((a,b,wQ (pH (pH c s) a) g,inc d,inc e,0,0),0):=by
 have n:=h;unfold oq at n;simp[u7,t25,Ha,LT.val,bo,cq,bd,lf,jJ.2 ⟨h,i,j,l⟩,ua h i j l,Lc m,show(s != g)=true from by simp_all,xI (d:=d) (by omega) (by omega),xI (d:=e) (by omega) (by omega)]
theorem SU(h:oq a b c d e 2 g)(i:0<=s)(j:s<b)(l:s≠a)(m:s≠g):u7 ((a,b,c,d,e,2,g),s,1)=((a,b,wQ (pH (pH c s) g) a,inc d,inc e,0,0),0):=by
 have n:=h;unfold oq at n;simp[u7,t25,Ha,LT.val,bo,cq,bd,lf,jJ.2 ⟨h,i,j,l⟩,ua h i j l,Lc m,show(s != g)=true from by simp_all,xI (d:=d) (by omega) (by omega),xI (d:=e) (by omega) (by omega)]
theorem ZQ(h:oq a b c d e f g)(i:0<=s)(j:s<b)(l:s≠a)(n:f≠2):uH ((a,b,c,d,e,f,g),s)=((a,b,wQ c s,d,e,f,g),0):=by
 have m:(f==2)=false:=by simp_all
 simp[uH,t38,LT.val,bo,cq,bd,jJ.2 ⟨h,i,j,l⟩,wQ,m]
theorem ZR(h:oq a b c d e 2 g)(i:0<=s)(j:s<b)(l:s≠a)(n:g≠s):uH ((a,b,c,d,e,2,g),s)=((a,b,wQ c s,d,e,2,g),0):=by
 have m:(g==s)=false:=by simp_all
 simp[uH,t38,LT.val,bo,cq,bd,jJ.2 ⟨h,i,j,l⟩,wQ,m]
theorem ZS(h:oq a b c d e 2 g)(j:g≠a):uH ((a,b,c,d,e,2,g),g)=((a,b,wQ c g,d,e,1,0),0):=by
 have i:=h;simp[uH,t38,LT.val,bo,cq,bd,jJ.2 ⟨h,i.2.2.2.2.1,i.2.2.2.2.2.1,j⟩,wQ]
theorem Pq{m i:Int×Int×Int×Int×Int×Int×Int}(h:uH (m,s)=(i,0))(j:0<=i.2.2.2.2.1)(l:i.2.2.2.2.1<=1048576):Yn (m,s)=((i.1,i.2.1,i.2.2.1,i.2.2.2.1,inc i.2.2.2.2.1,i.2.2.2.2.2),0):=by
 simp[Yn,t39,LT.val,bo,bd,h,xI j l]
end
structure af_ where
 (a0:List (Int×Int×(Int×List Int))) (a1 a3 a4 a5 a6 a7 a8 a9 iN kV a12 Dw Jv M9:Int)
structure RF where
 (b0 b1 b2 b3 b4 b5 b6 b7 b8 b9 b10 b11 b12 b13 Jy Em jf:Int) (wu:List (Int×Int×(Int×List Int))) (Uv:Bool) (Cf Uw O_ Pp b23 b24 b25 b26:Int) (b27 b28:Bool) (b29 b30 b31 b32 b33 b34 b35:Int) (b36 b37 b38:Bool) (b39:Int) (b40 b41:Bool) (b42 b43:Int) (b44 b45 b46:Bool) (b47 b48:Int) (b49 b50 b51:Bool) (b52:List (Int×Int×(Int×List Int))) (b53:Int) (b54 b55:Bool) (b56 b57 b58 b59 b60 b61 b62 b63 b64 b65:Int) (b66:List (Int×Int×(Int×List Int))) (b67 b68 b69 b70 b71 b72 b73 b74 b75 b76 b77 b78 b79 b80 b81 b82 b83 b84 b85 b86 b87 b88 b89 b90 b91 b92 b93 b94 b95 b96 b97 b98 b99:Int)
structure Ww where
 (c0:Int) (c1:List (Int×Int×(Int×List Int))) (c2 c4 c5 c6 c7 c8 c9 c10 c11 c12 c13 c14 Nn c16 c17 c18 c19 c20 c21 c22 c23 c24 c25 c26 c27 c28 c29 c30 c31 c32 c33 c34 c35 c36 c37 c38:Int) (c39:List (Int×Int×(Int×List Int))) (c40:Bool) (c41 c42 c43 c44 c45 c46 c47 c48:Int) (c49 c50:Bool) (c51 c52 c53 c54 c55 c56 c57:Int) (c58 c59 c60:Bool) (c61:Int) (c62 c63:Bool) (c64 c65:Int) (c66 c67 c68:Bool) (c69 c70:Int) (c71 c72 c73:Bool) (c74:List (Int×Int×(Int×List Int))) (c75:Int) (c76 c77:Bool) (c78 c79 c80 c81 c82 c83 c84 c85 c86 c87:Int) (c88:List (Int×Int×(Int×List Int))) (c89 c90 c91 c92 c93 c94 c95 c96 c97 c98 c99 anM anN anO anP:Int)
inductive Y43 where
 | c0 (p:af_) (a2:Int)
 | c1 (p:RF)
 | c2 (p:Ww) (c3:Int)
noncomputable def anR:Y43->iB
 | .c0 p a2=>⟨[⟨299,19,(en [(0,.sl (.struct [yI,yI,(.struct [yI,yB])]) p.a0),(1,.fn 252 [] []),(7,vi p.a1),(8,vi a2)]),sk f299 [1,0,1,0,0],[],none⟩,⟨251,9,.leaf,[.ops (ow f251 [1,0]) ((ow f251 [1,0]).toList.drop 2),.code .ret],[],none⟩,⟨200,85,(en [(8,.ptr 0 0),(9,.ptr 1 0)]),(.ops (ow f200 [1,1,1,0,0]) ((ow f200 [1,1,1,0,0]).toList.drop 1)::sk f200 [1,1,1,0,0]),[2],none⟩],[.ay false [vi p.a3,vi p.a4,vi p.a5,vi p.a6,vi p.a7,vi p.a8,vi p.a9,vi p.iN,vi p.kV,vi p.a12,vi p.Dw,.gb true,vi p.Jv],.ay false [vi p.M9],.Ie,.a_]⟩
 | .c1 p=>⟨[⟨296,37,(en [(0,.yield 0),(24,.vL 1 1 false p.b0 p.b1),(25,vi p.b2),(26,vi p.b3)]),sk f296 [1,1,1,0,0],[],none⟩,⟨200,85,(en [(7,.ptr 2 0),(8,.ptr 3 0),(9,.ptr 4 0)]),[.oP 0,.inBlock 1,.code (cw f200 [1,1,1])],[5],none⟩],[.loop ⟨200,85,(en [(0,.agg [vi p.b4,vi p.b5,vi p.b6,vi p.b7,vi p.b8]),(1,.agg [vi p.b9,vi p.b10,vi p.b11,vi p.b12,vi p.b13,vi p.Jy,vi p.Em]),(2,vi p.jf),(3,.sl (.struct [yI,yI,(.struct [yI,yB])]) p.wu),(4,.ptr 9 0),(5,.ptr 6 0),(7,.ptr 2 0),(8,.ptr 3 0),(9,.ptr 4 0),(16,vb p.Uv),(17,.agg [vi p.Cf,vi p.Uw,vi p.O_,vi p.Pp,vi p.b23,vi p.b24,vi p.b25]),(18,vi p.b26),(19,vb p.b27),(20,vb p.b28),(21,.agg [vi p.b29,vi p.b30,vi p.b31,vi p.b32,vi p.b33]),(22,.ptr 6 1),(23,vi p.b34),(24,vi p.b35),(25,vb p.b36),(26,vb p.b37),(28,vb p.b38),(29,vi p.b39),(30,vb p.b40),(31,vb p.b41),(32,vi p.b42),(33,.ptr 6 1),(34,vi p.b43),(35,vb p.b44),(36,vb p.b45),(37,vb p.b46),(38,vi p.b47),(39,.ptr 6 0),(40,vi p.b48),(41,vb p.b49),(42,vb p.b50),(43,vb p.b51),(44,.sl (.struct [yI,yI,(.struct [yI,yB])]) p.b52),(45,vi p.b53),(46,vb p.b54),(47,vb p.b55),(49,.agg [vi p.b56,vi p.b57,vi p.b58,vi p.b59,vi p.b60,vi p.b61,vi p.b62]),(50,vi p.b63),(51,.fn 296 [] [.ptr 7 0,.ptr 8 0])]),[52,53],(cw f200 [1,1,0,1,0,0]),(cw f200 [1,1,0,1,0,1]),0,none⟩,.ay false [vi p.b64,vi p.b65],.ay false [.sl (.struct [yI,yI,(.struct [yI,yB])]) p.b66],.ay false [vi p.b67,vi p.b68,vi p.b69,vi p.b70,vi p.b71,vi p.b72,vi p.b73,vi p.b74,vi p.b75,vi p.b76,vi p.b77,.gb true,vi p.b78],.ay false [vi p.b79],.Ie,.ay false [vi p.b80,vi p.b81,vi p.b82,vi p.b83,vi p.b84,vi p.b85,vi p.b86],.ay false [vi p.b87,vi p.b88,vi p.b89,vi p.b90,vi p.b91,vi p.b92,vi p.b93],.ay false [vi p.b94],.ay false [vi p.b95,vi p.b96,vi p.b97,vi p.b98,vi p.b99],.a_]⟩
 | .c2 p c3=>⟨[⟨200,85,(en [(4,.ptr 0 0),(8,.ptr 1 0),(9,.ptr 2 0),(10,vi p.c0),(56,.sl (.struct [yI,yI,(.struct [yI,yB])]) p.c1),(57,vi p.c2),(58,vi c3)]),[.inLoop (cw f200 [1,1,0,1,0,1,0,1,1,0,0]),.inBlock 3,.inBlock 2],[],some 3⟩,⟨296,37,(en [(0,.yield 3),(24,.vL 4 1 false p.c4 p.c5),(25,vi p.c6),(26,vi p.c7)]),(.ops (ow f296 [1,1,1,0,0,1,1,0,0,1,0]) ((ow f296 [1,1,1,0,0,1,1,0,0,1,0]).toList.drop 3)::sk f296 [1,1,1,0,0,1,1,0,0,1,0]),[],none⟩,⟨200,85,(en [(7,.ptr 5 0),(8,.ptr 1 0),(9,.ptr 2 0)]),[.oP 3,.inBlock 1,.code (cw f200 [1,1,1])],[6],none⟩],[.ay false [vi p.c8,vi p.c9,vi p.c10,vi p.c11,vi p.c12],.ay false [vi p.c13,vi p.c14,vi p.Nn,vi p.c16,vi p.c17,vi p.c18,vi p.c19,vi p.c20,vi p.c21,vi p.c22,vi p.c23,.gb true,vi p.c24],.ay false [vi p.c25],.loop ⟨200,85,(en [(0,.agg [vi p.c26,vi p.c27,vi p.c28,vi p.c29,vi p.c30]),(1,.agg [vi p.c31,vi p.c32,vi p.c33,vi p.c34,vi p.c35,vi p.c36,vi p.c37]),(2,vi p.c38),(3,.sl (.struct [yI,yI,(.struct [yI,yB])]) p.c39),(4,.ptr 0 0),(5,.ptr 7 0),(7,.ptr 5 0),(8,.ptr 1 0),(9,.ptr 2 0),(16,vb p.c40),(17,.agg [vi p.c41,vi p.c42,vi p.c43,vi p.c44,vi p.c45,vi p.c46,vi p.c47]),(18,vi p.c48),(19,vb p.c49),(20,vb p.c50),(21,.agg [vi p.c51,vi p.c52,vi p.c53,vi p.c54,vi p.c55]),(22,.ptr 7 1),(23,vi p.c56),(24,vi p.c57),(25,vb p.c58),(26,vb p.c59),(28,vb p.c60),(29,vi p.c61),(30,vb p.c62),(31,vb p.c63),(32,vi p.c64),(33,.ptr 7 1),(34,vi p.c65),(35,vb p.c66),(36,vb p.c67),(37,vb p.c68),(38,vi p.c69),(39,.ptr 7 0),(40,vi p.c70),(41,vb p.c71),(42,vb p.c72),(43,vb p.c73),(44,.sl (.struct [yI,yI,(.struct [yI,yB])]) p.c74),(45,vi p.c75),(46,vb p.c76),(47,vb p.c77),(49,.agg [vi p.c78,vi p.c79,vi p.c80,vi p.c81,vi p.c82,vi p.c83,vi p.c84]),(50,vi p.c85),(51,.fn 296 [] [.ptr 8 0,.ptr 9 0])]),[52,53],(cw f200 [1,1,0,1,0,0]),(cw f200 [1,1,0,1,0,1]),1,none⟩,.ay false [vi p.c86,vi p.c87],.ay false [.sl (.struct [yI,yI,(.struct [yI,yB])]) p.c88],.Ie,.ay false [vi p.c89,vi p.c90,vi p.c91,vi p.c92,vi p.c93,vi p.c94,vi p.c95],.ay false [vi p.c96,vi p.c97,vi p.c98,vi p.c99,vi p.anM,vi p.anN,vi p.anO],.ay false [vi p.anP],.a_]⟩
abbrev afB:LT ((Int×Int×Int×(Int×Int×(Int×Int×Int×Int×Int)×Int×List Int)×Int)×Int) Y43:=(.ret ((0,0,0,(0,0,(0,0,0,0,0),0,([]:List Int)),0),2))
def t43(A:aU)(u:Int)(x:Int)(r:Int)(t:Int)(m:Int)(p:Int)(v:Int)(o:Int)(n:Int)(l:Int)(j:Int)(i:Int)(h:Int)(q:List (Int×Int×(Int×List Int))):LT ((Int×Int×Int×(Int×Int×(Int×Int×Int×Int×Int)×Int×List Int)×Int)×Int) Y43:=.br (A.cu (A.k rE (p,v,o,n,l,j,i)) 0) (.ret ((0,0,0,(0,0,(0,0,0,0,0),0,([]:List Int)),0),170)) (.br (A.cu (A.k xw ((u,x,r,t,m),v)) 0) (.ret ((0,0,0,(0,0,(0,0,0,0,0),0,([]:List Int)),0),170)) (.br (A.bG h 0) (afB) (.br (A.nM h v) (afB) (.br (A.bK h p) (afB) (.br (A.cu (A.l q) 2) (afB) (.br (A.cu (A.k rE (p,v,o,n,l,j,i)) 0) (.ao (.c0 ⟨q,(A.l q),0,0,0,0,0,0,0,0,0,0,0,0,0⟩ 0)) (.br (A.not (A.k IX ((p,v,o,n,l,j,i),h))) (.ao (.c0 ⟨q,(A.l q),0,0,0,0,0,0,0,0,0,0,0,0,0⟩ 0)) (.ar (A.k J7 ((p,v,o,n,l,j,i),h)) (.ar (A.and (A.bU 0 0) (A.and (A.bU 0 (A.k oi ((p,v,o,n,l,j,i),h)).2) (A.bU (A.k oi ((p,v,o,n,l,j,i),h)).2 2))) (.ao (.c1 ⟨(A.b .add .i64 0 0),(A.b .sub .i64 (A.k oi ((p,v,o,n,l,j,i),h)).2 0),(A.b .sub .i64 (A.k oi ((p,v,o,n,l,j,i),h)).2 0),0,u,x,r,t,m,p,v,o,n,l,j,i,h,q,(A.cu (A.k xw ((u,x,r,t,m),v)) 0),p,v,o,n,l,j,i,(A.k rE (p,v,o,n,l,j,i)),(A.cu (A.k rE (p,v,o,n,l,j,i)) 0),false,u,x,r,t,m,v,(A.k xw ((u,x,r,t,m),v)),(A.cu (A.k xw ((u,x,r,t,m),v)) 0),(A.cu (A.k xw ((u,x,r,t,m),v)) 0),(A.cu (A.l q) 2),h,(A.bG h 0),false,h,v,(A.nM h v),(A.nM h v),false,h,p,(A.bK h p),(A.bK h p),false,q,(A.l q),(A.cu (A.l q) 2),(A.cu (A.l q) 2),p,v,o,n,l,j,i,h,(A.n yI (A.k oi ((p,v,o,n,l,j,i),h)).1 0:Int),(A.n yI (A.k oi ((p,v,o,n,l,j,i),h)).1 1:Int),q,0,0,0,0,0,0,0,0,0,0,0,0,0,p,v,o,n,l,j,i,p,v,o,n,l,j,i,h,u,x,r,t,m⟩)))))))))))
def V1(A:aU):Y43->LT ((Int×Int×Int×(Int×Int×(Int×Int×Int×Int×Int)×Int×List Int)×Int)×Int) Y43
 | .c0 p a2=>.br (A.bG a2 p.a1) (.ar (A.and (A.bU 0 a2) (A.bG a2 (A.l p.a0))) (.br (A.cu (A.n (.struct [yI,yI,(.struct [yI,yB])]) p.a0 a2:Int×Int×(Int×List Int)).1 0) (.br (A.nM a2 0) (.ret ((2,0,0,(0,0,(0,0,0,0,0),0,([]:List Int)),0),0)) (.ret ((1,0,0,(0,0,(0,0,0,0,0),0,([]:List Int)),0),0))) (.ao (.c0 p (A.b .add .i64 a2 1))))) (.ret ((1,0,0,(0,0,(0,0,0,0,0),0,([]:List Int)),0),0))
 | .c1 p=>.br (A.bG p.b3 p.b2) (.ar (A.and (A.bU 0 p.b3) (A.bG p.b3 p.b1)) (.ao (.c2 ⟨p.b3,p.b66,(A.l p.b66),p.b0,p.b1,p.b2,p.b3,p.b95,p.b96,p.b97,p.b98,(A.n yI [p.b64,p.b65] (A.b .add .i64 p.b0 p.b3):Int),p.b67,p.b68,p.b69,p.b70,p.b71,p.b72,p.b73,p.b74,p.b75,p.b76,p.b77,p.b78,p.b79,p.b4,p.b5,p.b6,p.b7,p.b8,p.b9,p.b10,p.b11,p.b12,p.b13,p.Jy,p.Em,p.jf,p.wu,p.Uv,p.Cf,p.Uw,p.O_,p.Pp,p.b23,p.b24,p.b25,p.b26,p.b27,p.b28,p.b29,p.b30,p.b31,p.b32,p.b33,p.b34,p.b35,p.b36,p.b37,p.b38,p.b39,p.b40,p.b41,p.b42,p.b43,p.b44,p.b45,p.b46,p.b47,p.b48,p.b49,p.b50,p.b51,p.b52,p.b53,p.b54,p.b55,p.b56,p.b57,p.b58,p.b59,p.b60,p.b61,p.b62,p.b63,p.b64,p.b65,p.b66,p.b80,p.b81,p.b82,p.b83,p.b84,p.b85,p.b86,p.b87,p.b88,p.b89,p.b90,p.b91,p.b92,p.b93,p.b94⟩ 0))) (.ao (.c0 ⟨p.b66,(A.l p.b66),p.b67,p.b68,p.b69,p.b70,p.b71,p.b72,p.b73,p.b74,p.b75,p.b76,p.b77,p.b78,p.b79⟩ 0))
 | .c2 p c3=>.br (A.bG c3 p.c2) (.ar (A.and (A.bU 0 c3) (A.bG c3 (A.l p.c1))) (.br (A.cu (A.n (.struct [yI,yI,(.struct [yI,yB])]) p.c1 c3:Int×Int×(Int×List Int)).1 2) (.ao (.c2 p (A.b .add .i64 c3 1))) (.br (A.k PW ((A.n (.struct [yI,yI,(.struct [yI,yB])]) p.c1 c3:Int×Int×(Int×List Int)).2.2,p.c8,p.c9,p.c10,p.c11,p.c12)).2 (.ret ((3,p.c0,c3,(A.k PW ((A.n (.struct [yI,yI,(.struct [yI,yB])]) p.c1 c3:Int×Int×(Int×List Int)).2.2,p.c8,p.c9,p.c10,p.c11,p.c12)).1,(A.n (.struct [yI,yI,(.struct [yI,yB])]) p.c1 c3:Int×Int×(Int×List Int)).2.1),0)) (.ao (.c2 p (A.b .add .i64 c3 1)))))) (.ao (.c1 ⟨p.c4,p.c5,p.c6,(A.b .add .i64 p.c7 1),p.c26,p.c27,p.c28,p.c29,p.c30,p.c31,p.c32,p.c33,p.c34,p.c35,p.c36,p.c37,p.c38,p.c39,p.c40,p.c41,p.c42,p.c43,p.c44,p.c45,p.c46,p.c47,p.c48,p.c49,p.c50,p.c51,p.c52,p.c53,p.c54,p.c55,p.c56,p.c57,p.c58,p.c59,p.c60,p.c61,p.c62,p.c63,p.c64,p.c65,p.c66,p.c67,p.c68,p.c69,p.c70,p.c71,p.c72,p.c73,p.c74,p.c75,p.c76,p.c77,p.c78,p.c79,p.c80,p.c81,p.c82,p.c83,p.c84,p.c85,p.c86,p.c87,p.c88,p.c13,p.c14,p.Nn,p.c16,p.c17,p.c18,p.c19,p.c20,p.c21,p.c22,p.c23,p.c24,p.c25,p.c89,p.c90,p.c91,p.c92,p.c93,p.c94,p.c95,p.c96,p.c97,p.c98,p.c99,p.anM,p.anN,p.anO,p.anP,p.c8,p.c9,p.c10,p.c11,p.c12⟩))
def vX(c:Int×Int×Int×Int×Int)(w:Int):Nat->List (Int×Int×(Int×List Int))->Option (Int×Int×Int×(Int×Int×(Int×Int×Int×Int×Int)×Int×List Int)×Int)
 | _, []=>none
 | k,s::l=>bif s.1==2&&(JZ (s.2.2,c)).2 then some (3,w,(k:Int),(JZ (s.2.2,c)).1,s.2.1) else vX c w (k+1) l
def uw(t p m n:Int)(h:List (Int×Int×(Int×List Int))):Nat->List Int->Option (Int×Int×Int×(Int×Int×(Int×Int×Int×Int×Int)×Int×List Int)×Int)
 | _, []=>none
 | i,v::l=>match vX (t,p,m,n,v) (i:Int) 0 h with
   | some o=>some o
   | none=>uw t p m n h (i+1) l
def ahC:Int×Int×Int×(Int×Int×(Int×Int×Int×Int×Int)×Int×List Int)×Int:=(0,0,0,Ib,0)
def BQ(h:List (Int×Int×(Int×List Int))):Int×Int×Int×(Int×Int×(Int×Int×Int×Int×Int)×Int×List Int)×Int:=bif h.any λs=>s.1 != 0 then(2,0,0,Ib,0) else(1,0,0,Ib,0)
def Kg(t p m n:Int)(h:List (Int×Int×(Int×List Int)))(i:Nat)(j:List Int):(Int×Int×Int×(Int×Int×(Int×Int×Int×Int×Int)×Int×List Int)×Int)×Int:=
 match uw t p m n h i j with
 | some o=>(o,0)
 | none=>(BQ h,0)
def vws(x:(Int×Int×Int×Int×Int×Int×Int)×Int):List Int:=(oi x).1.take (oi x).2.toNat
def qt:(Int×Int×Int×Int×Int)×(Int×Int×Int×Int×Int×Int×Int)×Int×List (Int×Int×(Int×List Int))->(Int×Int×Int×(Int×Int×(Int×Int×Int×Int×Int)×Int×List Int)×Int)×Int:=λ((t,p,m,n,s),v,h,i)=>
 bif rE v != 0||qZ ((t,p,m,n,s),v.2.1) != 0 then(ahC,170)
 else bif decide (h<0)||decide (v.2.1<=h)||h==v.1||i.length != 2 then(ahC,2)
 else Kg t p m n i 0 (vws (v,h))
theorem YL{x:(Int×Int×Int×Int×Int×Int×Int)×Int}:(oi x).1.length=2:=by
 exact LT.qV (p:=λy:List Int×Int=>y.1.length=2) rfl (by simp[t78,Hg,LT.all])
theorem Oc{l:List (Int×Int×(Int×List Int))}(h:i<l.length):(af.n (.struct [(.int .i64),(.int .i64),(.struct [(.int .i64),(.slice (.int .u8))])]) l (i:Int):Int×Int×(Int×List Int))=l[i]:=fM h _
theorem afl{l:List (Int×Int×(Int×List Int))}(y:l.length<=140737488355328):∀(j i:Nat) (p:af_),p.a0=l->p.a1=(l.length:Int)->l.length-i=j->i<=l.length->(l.take i).any (λs=>s.1 != 0)=false->aY (V1 af) (.ao (.c0 p (i:Int))) (BQ l,0):=by
 intro j
 induction j with
 | zero=>
   intro i p n o v u q;have:i=l.length:=by omega
   subst this;rw[dW] at q;rw[aA,V1];refine(ai (by rw[o,bf];simp)).2 ?_;rw[BQ,q];exact .ret _
 | succ j ih=>
   intro i p n o v u q;have m:i<l.length:=by omega
   rw[aA,V1];refine(ak (by rw[o,bf];simp_all)).2 (au.2 ⟨by rw[n];exact df m,?_⟩);have t:(af.n (.struct [(.int .i64),(.int .i64),(.struct [(.int .i64),(.slice (.int .u8))])]) p.a0 (i:Int):Int×Int×(Int×List Int)).1=l[i].1:=congrArg (λz=>z.1) ((congrArg (λz=>(af.n (.struct [(.int .i64),(.int .i64),(.struct [(.int .i64),(.slice (.int .u8))])]) z (i:Int):Int×Int×(Int×List Int))) n).trans (Oc m));have x:=bi m;by_cases r:l[i].1=0
   ·refine(ai (xa (t.trans r))).2 ?_
    refine lV (congrArg LT.ao (congrArg (Y43.c0 p) (h_ (by omega)))) (ih (i+1) p n o (by omega) (by omega) ?_)
    grind
   ·refine(ak (xb (λh=>r (t.symm.trans h)))).2 ((ak (by rfl)).2 ?_)
    have:l.any (λs=>s.1 != 0)=true:=List.any_eq_true.2 ⟨l[i],cN m,by simp_all⟩;rw[BQ,this];exact .ret _
def I1(p:RF)(j:List (Int×Int×(Int×List Int)))(o:List Int)(h i t l m n:Int):Prop:=p.b0=0/\p.b1=h/\p.b2=h/\p.b3=i/\p.b66=j/\ [p.b64,p.b65]=o/\p.b95=t/\p.b96=l/\p.b97=m/\p.b98=n
def I2(p:Ww)(h:List (Int×Int×(Int×List Int)))(o:List Int)(j i t l m n v:Int):Prop:=p.c0=i/\p.c1=h/\p.c2=(h.length:Int)/\p.c4=0/\p.c5=j/\p.c6=j/\p.c7=i/\p.c88=h/\ [p.c86,p.c87]=o/\p.c8=t/\p.c9=l/\p.c10=m/\p.c11=n/\p.c12=v
variable{vs:List Int}
theorem afn{seen:List (Int×Int×(Int×List Int))}{cnt t po:Int}(hi:i<4)(hl:seen.length<=140737488355328){R:(Int×Int×Int×(Int×Int×(Int×Int×Int×Int×Int)×Int×List Int)×Int)×Int}(u:∀W:RF,I1 W seen vs cnt ((i+1:Nat):Int) t po m n->aY (V1 af) (.ao (.c1 W)) R):
  ∀(j k:Nat) (p:Ww),I2 p seen vs cnt (i:Int) t po m n v->seen.length-k=j->k<=seen.length->aY (V1 af) (.ao (.c2 p (k:Int))) (match vX (t,po,m,n,v) (i:Int) k (seen.drop k) with|some o=>(o,0)|none=>R):=by
 intro j
 induction j with
 | zero=>
   intro k p D Y Z;have:k=seen.length:=by omega
   subst this;obtain⟨K,F,G,N,O,P,Q,B,V,H,I,l,q,A⟩:=D;rw[aA,V1];refine(ai (by rw[G,bf];simp)).2 ?_;rw[cv];exact u _ ⟨N,O,P,by show af.b .add .i64 p.c7 1=_;rw[Q,h_ (by omega)],B,V,H,I,l,q⟩
 | succ j ih=>
   intro k p D Y Z;have r:k<seen.length:=by omega
   have S:=ih (k+1) p D (by omega) (by omega);obtain⟨K,F,G,N,O,P,Q,B,V,H,I,l,q,A⟩:=D;rw[aA,V1];have E:(af.n (.struct [(.int .i64),(.int .i64),(.struct [(.int .i64),(.slice (.int .u8))])]) p.c1 (k:Int):Int×Int×(Int×List Int))=seen[k]:=(congrArg (λz=>(af.n (.struct [(.int .i64),(.int .i64),(.struct [(.int .i64),(.slice (.int .u8))])]) z (k:Int):Int×Int×(Int×List Int))) F).trans (Oc r);have X:seen.drop k=seen[k]::seen.drop (k+1):=Cg r;have J:af.k PW ((af.n (.struct [(.int .i64),(.int .i64),(.struct [(.int .i64),(.slice (.int .u8))])]) p.c1 (k:Int):Int×Int×(Int×List Int)).2.2,p.c8,p.c9,p.c10,p.c11,p.c12)=JZ (seen[k].2.2,(t,po,m,n,v)):=by
    refine(congrArg (λz:Int×Int×(Int×List Int)=>PW (z.2.2,p.c8,p.c9,p.c10,p.c11,p.c12)) E).trans ?_;rw[H,I,l,q,A];exact ad9
   refine(ak (by rw[G,bf];simp_all)).2 (au.2 ⟨by rw[F];exact df r,?_⟩);rw[X,vX];by_cases C:seen[k].1=2
   ·refine(ai (xa ((congrArg (λz=>z.1) E).trans C))).2 (?_)
    rw[show(seen[k].1==2)=true from by simp_all,cY];cases hgd:(JZ (seen[k].2.2,(t,po,m,n,v))).2
    ·refine(ai ((congrArg (λz=>z.2) J).trans hgd)).2 ?_
     exact lV (congrArg LT.ao (congrArg (Y43.c2 p) (h_ (by omega)))) S
    ·refine(ak ((congrArg (λz=>z.2) J).trans hgd)).2 ?_
     have e:=congr (congr (congrArg (λ(x:Int) (y:Int×Int×(Int×Int×Int×Int×Int)×Int×List Int) (z:Int)=>(LT.ret (((3:Int),x,(k:Int),y,z),(0:Int)):LT ((Int×Int×Int×(Int×Int×(Int×Int×Int×Int×Int)×Int×List Int)×Int)×Int) Y43)) K) (congrArg (λz=>z.1) J)) (congrArg (λz=>z.2.1) E);exact lV e (.ret _)
   ·refine(ak (xb (λh=>C ((congrArg (λz=>z.1) E).symm.trans h)))).2 ?_
    rw[show(seen[k].1==2)=false from by simp_all,gk];exact lV (congrArg LT.ao (congrArg (Y43.c2 p) (h_ (by omega)))) S
theorem afm{o:List (Int×Int×(Int×List Int))}{h:Nat}{t C:Int}(K:o.length<=140737488355328)(Q:vs.length=2)(V:h<=2):∀(j i:Nat) (p:RF),I1 p o vs (h:Int) (i:Int) t C m n->h-i=j->i<=h->aY (V1 af) (.ao (.c1 p)) (Kg t C m n o i ((vs.take h).drop i)):=by
 intro j
 induction j with
 | zero=>
   intro i p F O N;have:i=h:=by omega
   subst this;obtain⟨D,E,B,r,q,J,u,x,y,A⟩:=F;rw[aA,V1];refine(ai (by rw[B,r,bf];simp)).2 ?_;rw[gg (by simp_all)];exact afl K o.length 0 _ q (by show af.l p.b66=_;rw[q];rfl) rfl (by omega) rfl
 | succ j ih=>
   intro i p F O N;obtain⟨D,E,B,r,q,J,u,x,y,A⟩:=F;have G:i<(vs.take h).length:=by grind
   rw[aA,V1];refine(ak (by rw[B,r,bf];simp_all)).2 (au.2 ⟨by rw[E,r,ug,bf,bl];simp_all,?_⟩);have H:(af.n (.int .i64) [p.b64,p.b65] (af.b .add .i64 p.b0 p.b3):Int)=(vs.take h)[i]:=by
    have e:af.b .add .i64 p.b0 p.b3=(i:Int):=by rw[D,r,gp,lg (by omega) (by omega)];omega
    refine((congrArg (λz=>(af.n (.int .i64) [p.b64,p.b65] z:Int)) e).trans ((congrArg (λz=>(af.n (.int .i64) z (i:Int):Int)) J).trans (fM (l:=vs) (by omega) _))).trans ?_
    grind
   have P:=afn (seen:=o) (vs:=vs) (cnt:=(h:Int)) (t:=t) (po:=C) (m:=m) (n:=n) (v:=(vs.take h)[i]) (i:=i) (by omega) K (R:=Kg t C m n o (i+1) ((vs.take h).drop (i+1))) (λS I=>ih (i+1) S I (by omega) (by omega)) o.length 0;refine aO ?_ (P _ ⟨r,q,?_,D,E,B,r,q,J,u,x,y,A,H⟩ rfl (by omega))
   rotate_left
   ·show af.l p.b66=_;rw[q];rfl
   rw[Kg,Kg,Cg G,uw,mR]
   grind
theorem Y3{t l b i:Int}{j:List (Int×Int×(Int×List Int))}(h:Ty.jj [(.struct [(.int .i64),(.int .i64),(.int .i64),(.int .i64),(.int .i64)]),(.struct [(.int .i64),(.int .i64),(.int .i64),(.int .i64),(.int .i64),(.int .i64),(.int .i64)]),(.int .i64),(.slice (.struct [(.int .i64),(.int .i64),(.struct [(.int .i64),(.slice (.int .u8))])]))] ((t,l,m,n,s),(a,b,c,d,e,f,g),i,j)):j.length<=140737488355328:=h.2.2.2.1
theorem aqf{t b i:Int}{j:List (Int×Int×(Int×List Int))}(h:Ty.jj [(.struct [(.int .i64),(.int .i64),(.int .i64),(.int .i64),(.int .i64)]),(.struct [(.int .i64),(.int .i64),(.int .i64),(.int .i64),(.int .i64),(.int .i64),(.int .i64)]),(.int .i64),(.slice (.struct [(.int .i64),(.int .i64),(.struct [(.int .i64),(.slice (.int .u8))])]))] ((t,u,m,n,s),(a,b,c,d,e,f,g),i,j)):
  aY (V1 af) (t43 af t u m n s a b c d e f g i j) (qt ((t,u,m,n,s),(a,b,c,d,e,f,g),i,j)):=by
 have C:=Y3 h;rw[qt];by_cases o:(rE (a,b,c,d,e,f,g) != 0)=true
 ·rw[o]
  exact(ak o).2 (.ret _)
 rw[Bool.not_eq_true] at o;rw[o];refine(ai o).2 (?_);rw[nF];by_cases q:(qZ ((t,u,m,n,s),b) != 0)=true
 ·rw[q]
  exact(ak q).2 (.ret _)
 rw[Bool.not_eq_true] at q;rw[q];refine(ai q).2 ?_;have E:rE (a,b,c,d,e,f,g)=0:=by simp_all
 have y:=gZ.1 E;unfold oq at y;by_cases F:i<0
 ·refine(ak (by rw[aN];simp_all)).2 ?_
  rw[show decide (i<0)=true from by simp_all];exact .ret _
 refine(ai (by rw[aN];simp_all)).2 ?_;by_cases B:b<=i
 ·refine(ak (by rw[gq];simp_all)).2 ?_
  rw[show decide (b<=i)=true from by simp_all,kx];exact .ret _
 refine(ai (by rw[gq];simp_all)).2 ?_;by_cases z:i=a
 ·refine(ak (Dz z)).2 ?_
  rw[show(i==a)=true from by simp_all,kx];exact .ret _
 refine(ai (R4 z)).2 ?_;by_cases G:¬j.length=2
 ·refine(ak (xb (show(j.length:Int)≠2 by omega))).2 ?_
  rw[show(j.length != 2)=true from by simp_all,kx];exact .ret _
 refine(ai (xa (show(j.length:Int)=2 by omega))).2 ((ai o).2 (?_));rw[show decide (i<0)=false from by simp_all,show decide (b<=i)=false from by simpa using B,show(i==a)=false from by simp_all,show(j.length != 2)=false from by simp_all];have v:IX ((a,b,c,d,e,f,g),i)=true:=(xv (by omega) (by omega)).2 ⟨by omega,by omega,by omega⟩;have D:=NQ (x:=((a,b,c,d,e,f,g),i));have r:=YL (x:=((a,b,c,d,e,f,g),i));refine(ai (show af.not (af.k IX ((a,b,c,d,e,f,g),i))=false by rw[lf,bo,v];rfl)).2 (au.2 ⟨by rw[bo];simp[J7];omega,au.2 ⟨?_,?_⟩⟩)
 ·rw[bo,bl,bl,aB,aB,aB];simp_all
 ·obtain⟨p,l⟩:=aP D.1
  rw[vws,l,rz];have A:af.b .sub .i64 (af.k oi ((a,b,c,d,e,f,g),i)).2 0=(p:Int):=by
   rw[bo,l,fO,lg (by omega) (by omega)];omega
  refine afm (vs:=(oi ((a,b,c,d,e,f,g),i)).1) C r (by omega) p 0 _ ⟨rfl,A,A,rfl,rfl,?_,rfl,rfl,rfl,rfl⟩ (by omega) (by omega)
  match (oi ((a,b,c,d,e,f,g),i)).1,r with
  | [_,_],_=>rfl
def aka:((Int×Int×Int×Int×Int)×(Int×Int×Int×Int×Int×Int×Int)×Int×List (Int×Int×(Int×List Int)))->((Int×Int×Int×(Int×Int×(Int×Int×Int×Int×Int)×Int×List Int)×Int)×Int):=qt
def awH:aK:=.all [(.struct [yI,yI,yI,yI,yI]),(.struct [yI,yI,yI,yI,yI,yI,yI]),yI,(.slice (.struct [yI,yI,(.struct [yI,yB])]))] [(.struct [yI,yI,yI,(.struct [yI,yI,(.struct [yI,yI,yI,yI,yI]),yI,yB]),yI]),yI] aka
theorem awn:Sd 200 awH:=fa (bp ap dE sl 122 [⟨200,10, [[4,8,9,10,56,57,58], [0,24,25,26], [7,8,9]]⟩,⟨296,3, [[0,24,25,26], [7,8,9]]⟩,⟨299,2, [[0,1,7,8], [], [8,9]]⟩] [] (λA ((q,t,n,o,i),(z,B,x,v,r,m,l),j,u)=>t43 A q t n o i z B x v r m l j u) V1 anR (kz (fc func200 (fc func249 (fc func251 (fc func252 (fc func296 (fc func299 fz)))))) (sc Q_ (sc awp (sc alR (sc arK (sc Mq sz)))))) (λA y=>match y with |.c0 p a2=>⟨62,sl,by kernel_rfl⟩|.c1 p=>⟨52,sl,by kernel_rfl⟩|.c2 p c3=>⟨68,sl,by kernel_rfl⟩) λ((q,t,n,o,i),(z,B,x,v,r,m,l),j,u) C h=>aqf h)
def t61(A:aU)(r:Int)(E:Int)(o:Int)(n:Int)(m:Int)(j:Int)(i:Int)(h:Int)(l:Int)(p:Int)(C:Int)(B:Int)(D:Int)(v:Int)(x:Int)(t:Int)(u:Int)(q:Int)(z:Int)(y:List Int)(F:Int):LT ((Int×Int×Int×Int×Int×Int×Int)×Int) Empty:=.br (A.bK l 1) (.ret (A.k uH ((r,E,o,n,m,j,i),h))) (.br (A.bK l 2) (.ret (A.k Yn ((r,E,o,n,m,j,i),h))) (.br (A.bK l 3) (.ret (A.k u7 ((r,E,o,n,m,j,i),h,p))) (.ret ((0,0,0,0,0,0,0),2))))
def oN:((Int×Int×Int×Int×Int×Int×Int)×Int×(Int×Int×Int×(Int×Int×(Int×Int×Int×Int×Int)×Int×List Int)×Int))->((Int×Int×Int×Int×Int×Int×Int)×Int):=λ((D,E,B,A,z,u,t),r,y,q,v,(p,x,(l,m,i,j,h),o,n),C)=>(t61 af D E B A z u t r y q v p x l m i j h o n C).val (Ty.aS [(.struct [yI,yI,yI,yI,yI,yI,yI]),yI])
def awP:aK:=.all [(.struct [yI,yI,yI,yI,yI,yI,yI]),yI,(.struct [yI,yI,yI,(.struct [yI,yI,(.struct [yI,yI,yI,yI,yI]),yI,yB]),yI])] [(.struct [yI,yI,yI,yI,yI,yI,yI]),yI] oN
theorem aws:Sd 201 awP:=fa (aR ap dE sl 50 [] (λA ((E,F,C,B,z,u,t),r,y,q,v,(p,x,(l,m,i,j,h),o,n),D)=>t61 A E F C B z u t r y q v p x l m i j h o n D) (kz (fc func201 fz) (sc awi (sc aqO (sc awl sz)))))
abbrev ia:Ty:=(.struct [yI,yI,yI,yI,yI])
abbrev fq:Type:=Int×Int×Int×Int×Int
abbrev qQ:Ty:=(.struct [yI,yI,yI,yI,yI,yI,yI])
abbrev vq:Type:=Int×Int×Int×Int×Int×Int×Int
abbrev ahB:Ty:=(.struct [yI,yB])
abbrev Bits:Type:=Int×List Int
abbrev Ia:Ty:=(.struct [yI,yI,ia,yI,yB])
abbrev sj:Type:=Int×Int×fq×Int×List Int
abbrev qi:Ty:=(.struct [yI,yI,ahB])
abbrev Seen:Type:=Int×Int×Bits
abbrev O1:Ty:=(.struct [yI,yI,yI,Ia,yI])
abbrev qk:Type:=Int×Int×Int×sj×Int
abbrev jW:Ty:=(.struct [yI,yI])
abbrev Span:Type:=Int×Int
abbrev eU:Ty:=(.struct [yI,jW,yI,ahB])
abbrev dF:Type:=Int×Span×Int×Bits
abbrev fC:Ty:=(.struct [El,(.slice .bool),(.slice .bool)])
abbrev Mode:Type:=List Int×List Bool×List Bool
abbrev bJ:Ty:=(.struct [yI,yI,yI,yI,yI,yI,(.slice .bool),(.slice fC)])
abbrev ax:Type:=Int×Int×Int×Int×Int×Int×List Bool×List Mode
abbrev wV:Ty:=(.struct [yI,yI,El])
abbrev qj:Type:=Int×Int×List Int
abbrev j6:Ty:=(.struct [yB,yI])
abbrev ik:Type:=List Int×Int
abbrev rB:Ty:=(.struct [yI,yB,(.slice j6),yI,yI])
abbrev iO:Type:=Int×List Int×List ik×Int×Int
abbrev eT:Ty:=(.struct [yI,yI,ia,qQ,yI,.bool,yI,rB])
abbrev Node:Type:=Int×Int×fq×vq×Int×Bool×Int×iO
abbrev e_:Ty:=(.struct [yI,yI,yI,yI,yI,yB])
abbrev dO:Type:=Int×Int×Int×Int×Int×List Int
def amd(A:aU)(n:Int)(h:Int)(i:Int):LT Bool Empty:=.br (A.nM n h) (.ret (A.bU n i)) (.ret false)
def kI:(Int×Int×Int)->Bool:=λ(n,h,i)=>(amd af n h i).val (Ty.aS [.bool])
def ar8:aK:=.all [yI,yI,yI] [.bool] kI
theorem OJ:Sd 134 ar8:=fa (aR ap dE sl 22 [] (λA (n,h,i)=>amd A n h i) (kz (fc func134 fz) sz))
theorem sF{x b:Int}:kI (x,a,b)=(decide (a<=x)&&decide (x<=b)):=by
 simp only[kI,amd,LT.val,gq,aB]
 simp_all
theorem anZ{x y:α}:(bif true then x else y)=x:=rfl
theorem BB{l:List Bool}(h:i<l.length):(af.n .bool l (i:Int):Bool)=l[i]:=fM h _
theorem ZP{l:List Int}(h:i<l.length):(af.n (.int .i64) l (i:Int):Int)=l[i]:=fM h _
theorem dV{l:List α}:af.l l=(l.length:Int):=rfl
variable{j:List Bool}
theorem sW{w o:Int}{i:List Mode}(h:Ty.has bJ (n,s,g,w,d,o,j,i)):(-9223372036854775808<=n/\n<=9223372036854775807)/\j.length<=140737488355328/\i.length<=140737488355328/\∀x∈i,x.1.length<=140737488355328/\x.2.1.length<=140737488355328/\∀d∈x.1,IntKind.i64.has d:=by
 obtain⟨p,_,_,_,_,_,q,l⟩:=h;exact⟨p,q.1,l.1,λx m=>⟨(l.2 x m).1.1,(l.2 x m).2.1.1,(l.2 x m).1.2⟩⟩
structure ahI where
 (a1:List Bool) (a2 a4 a5 a6 a7 a8 a9:Int) (iN:List Bool) (kV:List Mode)
inductive W4 where
 | c0 (p:ahI) (a0:Int) (a3:Int)
noncomputable def aiL:W4->iB
 | .c0 p a0 a3=>⟨[⟨130,38,(en [(1,.ptr 0 0),(3,vi a0),(7,.sl .bool p.a1),(8,vi p.a2),(9,vi a3)]),sk f130 [1,1,0,1,0,0],[],none⟩],[.ay false [vi p.a4,vi p.a5,vi p.a6,vi p.a7,vi p.a8,vi p.a9,.sl .bool p.iN,.sl fC p.kV],.a_]⟩
def t154(A:aU)(n:Int)(o:Int)(p:Int)(i:Int)(l:Int)(j:Int)(h:List Bool)(m:List Mode):LT Bool W4:=.ao (.c0 ⟨h,(A.l h),n,o,p,i,l,j,h,m⟩ 0 0)
def aax(A:aU):W4->LT Bool W4
 | .c0 p a0 a3=>.br (A.bG a3 p.a2) (.ar (A.and (A.bU 0 a3) (A.bG a3 (A.l p.a1))) (.br (A.n .bool p.a1 a3:Bool) (.ao (.c0 p (A.b .add .i64 a0 1) (A.b .add .i64 a3 1))) (.ao (.c0 p a0 (A.b .add .i64 a3 1))))) (.br (A.k kI (p.a4,4,8)) (.br (A.k kI ((A.l p.kV),1,4)) (.br (A.bK (A.l p.iN) p.a4) (.ret (A.nM a0 2)) (.ret false)) (.ret false)) (.ret false))
def countB(m:ax):Bool:=kI (m.1,4,8)&&kI ((m.2.2.2.2.2.2.2.length:Int),1,4)&&((m.2.2.2.2.2.2.1.length:Int)==m.1)&&decide (2<=(m.2.2.2.2.2.2.1.count true:Int))
theorem ajK{w o:Int}{h:List Bool}{l:List Mode}(t:h.length<=140737488355328):∀(j i c:Nat),h.length-i=j->i<=h.length->c<=i->
  aY (aax af) (.ao (.c0 ⟨h,(h.length:Int),n,s,g,w,d,o,h,l⟩ (c:Int) (i:Int))) (kI (n,4,8)&&kI ((l.length:Int),1,4)&&((h.length:Int)==n)&&decide (2<=((c+(h.drop i).count true:Nat):Int))):=by
 intro j
 induction j with
 | zero=>
   intro i c r q p;have:i=h.length:=by omega
   subst this;rw[aA,aax];refine(ai (by rw[bf];simp)).2 ?_;rw[cv];simp[au,bo,acr,true_and];cases kI (n,4,8)
   ·exact(ai rfl).2 (.ret _)
   refine(ak rfl).2 ?_;simp[au,true_and,dV];cases kI ((l.length:Int),1,4)
   ·exact(ai rfl).2 (.ret _)
   refine(ak rfl).2 ?_;rw[bd];cases ((h.length:Int)==n)
   ·exact(ai rfl).2 (.ret _)
   refine(ak rfl).2 ?_;exact .ret _
 | succ j ih=>
   intro i c r q p;have m:i<h.length:=by omega
   rw[aA,aax];refine(ak (by rw[bf];simp_all)).2 (au.2 ⟨df m,?_⟩);rw[Cg m,List.count_cons];cases hb:h[i]
   ·refine(ai ((BB m).trans hb)).2 ?_
    refine lV (congrArg (λz=>LT.ao (W4.c0 _ _ z)) (h_ (by omega))) (aO ?_ (ih (i+1) c (by omega) (by omega) (by omega)));simp
   ·refine(ak ((BB m).trans hb)).2 ?_
    rw[h_ (i:=c) (by omega),h_ (i:=i) (by omega)];refine aO ?_ (ih (i+1) (c+1) (by omega) (by omega) (by omega))
    grind
theorem ajL{w l:Int}{i:List Mode}(h:Ty.has bJ (n,s,g,w,d,l,j,i)):aY (aax af) (t154 af n s g w d l j i) (countB (n,s,g,w,d,l,j,i)):=
 aO (by simp[countB]) (ajK (sW h).2.1 j.length 0 0 rfl (by omega) (by omega))
def Yb:ax->Bool:=countB
def ar6:aK:=.all [bJ] [.bool] Yb
theorem aqr:Sd 130 ar6:=fa (bp ap dE sl 25 [⟨130,3, [[1,3,7,8,9]]⟩] [] (λA (n,q,r,i,l,j,o,m)=>t154 A n q r i l j o m) aax aiL (kz (fc func130 fz) (sc OJ sz)) (λA y=>match y with |.c0 p t u=>⟨38,sl,by kernel_rfl⟩) λ(n,q,r,i,l,j,o,m) v h=>ajL h)
structure ahJ where
 (a0:List Int) (a1 a3 a4 a5 a6 a7 a8:Int) (a9:List Bool) (iN:List Mode) (kV:List Int) (a12 Dw:List Bool)
inductive Ur where
 | c0 (p:ahJ) (a2:Int)
noncomputable def aiM:Ur->iB
 | .c0 p a2=>⟨[⟨133,57,(en [(2,.ptr 0 0),(3,.ptr 1 0),(31,.sl yI p.a0),(32,vi p.a1),(33,vi a2)]),sk f133 [1,1,0,1,0,0],[],none⟩],[.ay false [vi p.a3,vi p.a4,vi p.a5,vi p.a6,vi p.a7,vi p.a8,.sl .bool p.a9,.sl fC p.iN],.ay false [.sl yI p.kV,.sl .bool p.a12,.sl .bool p.Dw],.a_]⟩
def t157(A:aU)(i:Int)(r:Int)(t:Int)(m:Int)(p:Int)(o:Int)(q:List Bool)(l:List Mode)(j:List Int)(h:List Bool)(n:List Bool):LT Bool Ur:=.br (A.cu (A.l j) i) (.ret false) (.br (A.cu (A.l h) i) (.ret false) (.br (A.cu (A.l n) (A.l l)) (.ret false) (.ao (.c0 ⟨j,(A.l j),i,r,t,m,p,o,q,l,j,h,n⟩ 0))))
def Vn(A:aU):Ur->LT Bool Ur
 | .c0 p a2=>.br (A.bG a2 p.a1) (.ar (A.and (A.bU 0 a2) (A.bG a2 (A.l p.a0))) (.br (A.not (A.k kI ((A.n yI p.a0 a2:Int),0,8))) (.ret false) (.ar (A.and (A.bU 0 a2) (A.bG a2 (A.l p.a9))) (.br (A.n .bool p.a9 a2:Bool) (.ar (A.and (A.bU 0 a2) (A.bG a2 (A.l p.a12))) (.br (A.not (A.n .bool p.a12 a2:Bool)) (.ret false) (.ao (.c0 p (A.b .add .i64 a2 1))))) (.ao (.c0 p (A.b .add .i64 a2 1))))))) (.ret true)
def yw:List Int->List Bool->List Bool->Bool
 | d::ds,c::cs,e::es=>(decide (0<=d)&&decide (d<=8))&&(!c||e)&&yw ds cs es
 | _,_,_=>true
def o_(m:ax)(x:Mode):Bool:=((x.1.length:Int)==m.1)&&((x.2.1.length:Int)==m.1)&&(x.2.2.length==m.2.2.2.2.2.2.2.length)&&yw x.1 m.2.2.2.2.2.2.1 x.2.1
variable{h:List Int}{p:List Mode}
theorem ao0{w t:Int}{l m next:List Bool}(A:h.length<=140737488355328)(x:l.length=h.length)(y:m.length=h.length):∀(j i:Nat),h.length-i=j->i<=h.length->
  aY (Vn af) (.ao (.c0 ⟨h,(h.length:Int),n,s,g,w,d,t,l,p,h,m,next⟩ (i:Int))) (yw (h.drop i) (l.drop i) (m.drop i)):=by
 intro j
 induction j with
 | zero=>
   intro i v u;have:i=h.length:=by omega
   subst this;rw[aA,Vn];refine(ai (by rw[bf];simp)).2 ?_;rw[cv];exact .ret _
 | succ j ih=>
   intro i v u;have o:i<h.length:=by omega
   rw[aA,Vn];refine(ak (by rw[bf];simp_all)).2 (au.2 ⟨df o,?_⟩);rw[Cg o,Cg (show i<l.length by omega),Cg (show i<m.length by omega),yw];have q:=ih (i+1) (by omega) (by omega);have r:af.k kI ((af.n (.int .i64) h (i:Int):Int),0,8)=(decide (0<=h[i])&&decide (h[i]<=8)):=by
    rw[bo,ZP o,sF]
   cases hw':(decide (0<=h[i])&&decide (h[i]<=8))
   ·exact(ak (by rw[r,hw'];rfl)).2 (.ret _)
   refine(ai (by rw[r,hw'];rfl)).2 (au.2 ⟨df (show i<l.length by omega),?_⟩);cases hcb:l[i]
   ·refine(ai ((BB (show i<l.length by omega)).trans hcb)).2 ?_
    exact lV (congrArg (λz=>LT.ao (Ur.c0 _ z)) (h_ (by omega))) q
   ·refine(ak ((BB (show i<l.length by omega)).trans hcb)).2 (au.2 ⟨df (show i<m.length by omega),?_⟩)
    cases heb:m[i]
    ·exact(ak (by rw[BB (show i<m.length by omega),heb];rfl)).2 (.ret _)
    ·refine(ai (by rw[BB (show i<m.length by omega),heb];rfl)).2 ?_
     exact lV (congrArg (λz=>LT.ao (Ur.c0 _ z)) (h_ (by omega))) q
theorem ao1{w:Int}{l next:List Bool}{i:List Mode}(r:h.length<=140737488355328)(t:(j.length:Int)=n):
  aY (Vn af) (t157 af n s g w d m j i h l next) (o_ (n,s,g,w,d,m,j,i) (h,l,next)):=by
 unfold t157 o_;by_cases o:(h.length:Int)=n
 ·refine(ai (xa o)).2 ?_
  by_cases p:(l.length:Int)=n
  ·refine(ai (xa p)).2 ?_
   by_cases q:(next.length:Int)=i.length
   ·refine(ai (xa q)).2 (aO ?_ (ao0 r (by omega) (by omega) h.length 0 rfl (by omega)))
    grind
   ·refine(ak (xb q)).2 (aO ?_ (.ret _))
    grind
  ·refine(ak (xb p)).2 (aO ?_ (.ret _))
   simp_all
 ·refine(ak (xb o)).2 (aO ?_ (.ret _))
  simp_all
def Se:(ax×Mode)->Bool:=λ(m,x)=>o_ m x
def Qs:(ax×Mode)->Bool:=λ(m,_)=>(m.2.2.2.2.2.2.1.length:Int)==m.1
def ar7:aK:=⟨[bJ,fC], [.bool],Qs,Se,false⟩
theorem aqs:Sd 133 ar7:=bp ap dE sl 51 [⟨133,4, [[2,3,31,32,33]]⟩] [] (λA ((o,r,v,j,m,l,q,n),t,i,u)=>t157 A o r v j m l q n t i u) Vn aiM (kz (fc func133 fz) (sc OJ sz)) (λA y=>match y with |.c0 p a2=>⟨51,sl,by kernel_rfl⟩) λ(((o,r,v,j,m,l,q,n),t,i,u):ax×Mode) x h=>by
 show aY (Vn af) (t157 af o r v j m l q n t i u) (Se ((o,r,v,j,m,l,q,n),t,i,u));exact ao1 h.2.1.1 (by simpa [Qs] using x)
def t183(A:aU)(h:Bool)(i:Int):LT Int Empty:=.br (A.not h) (.ret 2) (.br (A.ji i 0) (.ret 4) (.ret 3))
def sQ:(Bool×Int)->Int:=λ(h,i)=>(t183 af h i).val (Ty.aS [yI])
def asm:aK:=.all [.bool,yI] [yI] sQ
theorem ag5:Sd 216 asm:=fa (aR ap dE sl 32 [] (λA (h,i)=>t183 A h i) (kz (fc func216 fz) sz))
def t173(A:aU)(n:Int):LT Int Empty:=.br (A.bG n 0) (.ret 0) (.br (A.ji n 4095) (.ret 0) (.ret (A.b .add .i64 14 (A.b .quo .i64 (A.b .add .i64 n 1) 2))))
def lX:Int->Int:=λn=>(t173 af n).val (Ty.aS [yI])
def asf:aK:=.all [yI] [yI] lX
theorem TX:Sd 159 asf:=fa (aR ap dE sl 30 [] (λA n=>t173 A n) (kz (fc func159 fz) sz))
structure ahL where
 (a0:Int) (a1:List Mode) (a2 a3 a4 a5 a6 a7 a8 a9:Int) (iN:List Bool) (kV:List Mode)
structure ahM where
 (b1:List Mode) (b2 b3:Int) (b4:List Int) (b5 b7 b8 b9 b10 b11 b12:Int) (b13:List Bool) (Jy:List Mode) (Em:List Int) (jf wu:List Bool)
inductive acY where
 | c0 (p:ahL)
 | c1 (p:ahM) (b0:Int) (b6:Int)
noncomputable def aiP:acY->iB
 | .c0 p=>⟨[⟨161,55,(en [(1,.ptr 0 0),(3,vi p.a0),(12,.sl fC p.a1),(13,vi p.a2),(14,vi p.a3)]),sk f161 [1,1,0,1,0,0],[],none⟩],[.ay false [vi p.a4,vi p.a5,vi p.a6,vi p.a7,vi p.a8,vi p.a9,.sl .bool p.iN,.sl fC p.kV],.a_]⟩
 | .c1 p b0 h=>⟨[⟨161,55,(en [(1,.ptr 0 0),(3,vi b0),(5,.ptr 1 0),(12,.sl fC p.b1),(13,vi p.b2),(14,vi p.b3),(19,.sl yI p.b4),(20,vi p.b5),(21,vi h)]),sk f161 [1,1,0,1,0,0,1,1,0,0,1,1,0,0],[],none⟩],[.ay false [vi p.b7,vi p.b8,vi p.b9,vi p.b10,vi p.b11,vi p.b12,.sl .bool p.b13,.sl fC p.Jy],.ay false [.sl yI p.Em,.sl .bool p.jf,.sl .bool p.wu],.a_]⟩
def aul(A:aU)(m:Int)(o:Int)(p:Int)(i:Int)(l:Int)(j:Int)(n:List Bool)(h:List Mode):LT Int acY:=.ao (.c0 ⟨(A.k lX (A.k wR (1,0))),h,(A.l h),0,m,o,p,i,l,j,n,h⟩)
def Me(A:aU):acY->LT Int acY
 | .c0 p=>.br (A.bG p.a3 p.a2) (.ar (A.and (A.bU 0 p.a3) (A.bG p.a3 (A.l p.a1))) (.ao (.c1 ⟨p.a1,p.a2,p.a3,(A.n fC p.a1 p.a3:Mode).1,(A.l (A.n fC p.a1 p.a3:Mode).1),p.a4,p.a5,p.a6,p.a7,p.a8,p.a9,p.iN,p.kV,(A.n fC p.a1 p.a3:Mode).1,(A.n fC p.a1 p.a3:Mode).2.1,(A.n fC p.a1 p.a3:Mode).2.2⟩ p.a0 0))) (.ret p.a0)
 | .c1 p b0 h=>.br (A.bG h p.b5) (.ar (A.and (A.bU 0 h) (A.bG h (A.l p.b4))) (.br (A.bG h p.b7) (.br (A.bG h (A.l p.jf)) (.ar (A.and (A.bU 0 h) (A.bG h (A.l p.jf))) (.br (A.ji (A.k wR ((A.k sQ ((A.n .bool p.jf h:Bool),(A.n yI p.b4 h:Int))),(A.n yI p.b4 h:Int))) 0) (.ao (.c1 p (A.mx b0 (A.k lX (A.k wR ((A.k sQ ((A.n .bool p.jf h:Bool),(A.n yI p.b4 h:Int))),(A.n yI p.b4 h:Int))))) (A.b .add .i64 h 1))) (.ao (.c1 p b0 (A.b .add .i64 h 1))))) (.ao (.c1 p b0 (A.b .add .i64 h 1)))) (.ao (.c1 p b0 (A.b .add .i64 h 1))))) (.ao (.c0 ⟨b0,p.b1,p.b2,(A.b .add .i64 p.b3 1),p.b7,p.b8,p.b9,p.b10,p.b11,p.b12,p.b13,p.Jy⟩))
def B8(b:Int)(x:Int×Bool):Int:=bif decide (0<wR (sQ (x.2,x.1),x.1)) then af.mx b (lX (wR (sQ (x.2,x.1),x.1))) else b
def Bt(n:Nat)(b:Int)(x:Mode):Int:=((x.1.zip x.2.1).take n).foldl B8 b
def i_(m:ax):Int:=m.2.2.2.2.2.2.2.foldl (Bt m.1.toNat) (lX (wR (1,0)))
theorem acP(m:i<h.length)(o:i<j.length)(p:(i:Int)<n):((h.zip j).take n.toNat).drop i=(h[i],j[i])::((h.zip j).take n.toNat).drop (i+1):=by
 have l:i<((h.zip j).take n.toNat).length:=by grind
 rw[Cg l,List.getElem_take,List.getElem_zip]
theorem Dv{j:List Int}{l:List Bool}(h:l.length<=i\/n<=(i:Int)\/j.length<=i):((j.zip l).take n.toNat).drop i=[]:=by
 apply gg
 grind
theorem Tc:af.bG (i:Int) n=decide ((i:Int)<n):=rfl
theorem acJ{b:Int}{e:Bool}:B8 b (d,e)=bif af.ji (af.k wR ((af.k sQ (e,d)),d)) 0 then af.mx b (af.k lX (af.k wR ((af.k sQ (e,d)),d))) else b:=rfl
variable{F:Int->Int}
theorem avP{w:Int}{o l next:List Bool}{m x:List Mode}{L k:Int}(C:h.length<=140737488355328)(B:af.b .add .i64 k 1=v)(t:∀b,aY (Me af) (.ao (.c0 ⟨b,x,L,v,n,s,g,w,d,u,o,m⟩)) (F b)):
  ∀(j i:Nat) (b:Int),h.length-i=j->i<=h.length->aY (Me af) (.ao (.c1 ⟨x,L,k,h,(h.length:Int),n,s,g,w,d,u,o,m,h,l,next⟩ b (i:Int))) (F ((((h.zip l).take n.toNat).drop i).foldl B8 b)):=by
 intro j
 induction j with
 | zero=>
   intro i b A z;have:i=h.length:=by omega
   subst this;rw[aA,Me];refine(ai (by rw[bf];simp)).2 ?_;rw[Dv (.inr (.inr (aj _))),B]
   simp_all
 | succ j ih=>
   intro i b A z;have p:i<h.length:=by omega
   rw[aA,Me];refine(ak (by rw[bf];simp_all)).2 (au.2 ⟨df p,?_⟩);have q:=λb=>ih (i+1) b (by omega) (by omega);by_cases y:(i:Int)<n
   ·refine(ak (by rw[Tc];simp_all)).2 ?_
    by_cases r:i<l.length
    ·refine(ak (by rw[dV,bf];simp_all)).2 (au.2 ⟨df (show i<l.length from r),?_⟩)
     rw[acP p r y,jT,acJ,<-ZP p,<-BB r,h_ (i:=i) (by omega)];cases hb:af.ji (af.k wR ((af.k sQ ((af.n .bool l (i:Int):Bool),(af.n (.int .i64) h (i:Int):Int))),(af.n (.int .i64) h (i:Int):Int))) 0
     ·exact(ai rfl).2 (q _)
     ·exact(ak rfl).2 (q _)
    ·refine(ai (by rw[dV,bf];simp_all)).2 ?_
     rw[h_ (i:=i) (by omega)];have:=q b;rw[Dv (.inl (by omega))] at this ⊢;omega
   ·refine(ai (by rw[Tc];simp_all)).2 ?_
    rw[h_ (i:=i) (by omega)];have:=q b;rw[Dv (.inr (.inl (by omega)))] at this ⊢;omega
theorem avO{w o:Int}{m:List Bool}{l h:List Mode}(t:h.length<=140737488355328)(p:∀x∈h,x.1.length<=140737488355328):
  ∀(j k:Nat) (b:Int),h.length-k=j->k<=h.length->aY (Me af) (.ao (.c0 ⟨b,h,(h.length:Int),(k:Int),n,s,g,w,d,o,m,l⟩)) ((h.drop k).foldl (Bt n.toNat) b):=by
 intro j
 induction j with
 | zero=>
   intro k b q r;have:k=h.length:=by omega
   subst this;rw[aA,Me];refine(ai (by rw[bf];simp)).2 ?_;rw[cv];exact .ret _
 | succ j ih=>
   intro k b q r;have i:k<h.length:=by omega
   rw[aA,Me];refine(ak (by rw[bf];simp_all)).2 (au.2 ⟨df i,?_⟩);rw[show(af.n fC h (k:Int):Mode)=h[k] from fM i _,Cg i,jT];exact avP (F:=λb=>(h.drop (k+1)).foldl (Bt n.toNat) b) (p _ (cN i)) (h_ (by omega)) (λb=>ih (k+1) b (by omega) (by omega)) h[k].1.length 0 b rfl (by omega)
theorem max2{w l:Int}{i:List Mode}(h:Ty.has bJ (n,s,g,w,d,l,j,i)):aY (Me af) (aul af n s g w d l j i) (i_ (n,s,g,w,d,l,j,i)):=
 (avO (sW h).2.2.1 (λx m=>((sW h).2.2.2 x m).1) i.length 0 _ rfl (by omega))
def ND:ax->Int:=i_
def ash:aK:=.all [bJ] [yI] ND
theorem aa4:Sd 161 ash:=fa (bp ap dE sl 27 [⟨161,3, [[1,3,12,13,14]]⟩,⟨161,6, [[1,3,5,12,13,14,19,20,21]]⟩] [] (λA (n,q,r,i,l,j,o,m)=>aul A n q r i l j o m) Me aiP (kz (fc func161 fz) (sc awq (sc TX (sc ag5 sz)))) (λA y=>match y with |.c0 p=>⟨31,sl,by kernel_rfl⟩|.c1 p b0 t=>⟨69,sl,by kernel_rfl⟩) λ(n,q,r,i,l,j,o,m) u h=>max2 h)
def t159(A:aU)(l:Int)(p:Int)(n:Int)(h:Int)(j:Int)(i:Int)(o:List Bool)(m:List Mode):LT (Int×Int×Int) Empty:=.ret ((A.b .add .i64 (A.b .mul .i64 (A.b .mul .i64 16 l) j) 16),(A.b .add .i64 (A.b .add .i64 (A.b .mul .i64 2 h) (A.b .mul .i64 2 i)) 4),(A.b .add .i64 (A.b .mul .i64 2 n) (A.k ND (l,p,n,h,j,i,o,m))))
def DN:ax->(Int×Int×Int):=λ(m,o,p,h,j,i,n,l)=>(t159 af m o p h j i n l).val (Ty.aS [yI,yI,yI])
def ar9:aK:=.all [bJ] [yI,yI,yI] DN
theorem aqt:Sd 135 ar9:=fa (aR ap dE sl 50 [] (λA (m,o,p,h,j,i,n,l)=>t159 A m o p h j i n l) (kz (fc func135 fz) (sc aa4 sz)))
theorem aV{R:Type}{step:Y->LT R Y}{t e:LT R Y}{r:R}{p:Prop}[Decidable p]{b:Bool}(l:b=decide p)(j:p->aY step t r)(i:¬p->aY step e r):aY step (.br b t e) r:=by
 by_cases h:p
 ·exact(ak (by simp_all)).2 (j h)
 ·exact(ai (by simp_all)).2 (i h)
theorem jd{R:Type}{step:Y->LT R Y}{t e:LT R Y}{r:R}{x b:Int}(j:¬(a<=x/\x<=b)->aY step t r)(i:a<=x/\x<=b->aY step e r):aY step (.br (af.not (af.k kI (x,a,b))) t e) r:=by
 refine aV (p:=¬(a<=x/\x<=b)) ?_ j (λh=>i (dx.1 h));rw[lf,bo,sF,<-Bool.decide_and,<-decide_not]
theorem Jw:0<=lX n/\lX n<=2062:=by
 simp[lX,t173,LT.val,aN,bY,Bool.cond_eq_ite,rR];split
 ·omega
 ·split
  ·omega
  ·rw[gp,ET,gp,lg (a:=n+1) (by omega) (by omega)]
   have:(n+1).tdiv 2=(n+1)/2:=iV (by omega);rw[this,lg (a:=(n+1)/2) (by omega) (by omega),lg (by omega) (by omega)];omega
theorem acI{b:Int}{x:Int×Bool}(h:0<=b/\b<=2062):0<=B8 b x/\B8 b x<=2062:=by
 have:=Jw (n:=wR (sQ (x.2,x.1),x.1));unfold B8;cases decide (0<wR (sQ (x.2,x.1),x.1))
 ·exact h
 ·rw[anZ,tx];omega
theorem zW{α:Type}{f:Int->α->Int}(i:∀b x,0<=b/\b<=2062->0<=f b x/\f b x<=2062):∀{l:List α} {b:Int},0<=b/\b<=2062->0<=l.foldl f b/\l.foldl f b<=2062
 | [],_,h=>h
 | x::l,b,h=>zW i (l:=l) (i b x h)
theorem vg{m:ax}:0<=i_ m/\i_ m<=2062:=zW (λ_ _ h=>zW (λ_ _ h=>acI h) h) Jw
def qD(n s g w d h i:Int):Bool:=decide (0<=d/\d<=64/\0<=h/\h<=64/\16*n*d+16<=w/\w<=1048576/\2*w+2*h+4<=g/\g<=1048576/\2*g+i<=s/\s<=16777216)
def dC(m:ax):Bool:=countB m&&m.2.2.2.2.2.2.2.all (o_ m)&&qD m.1 m.2.1 m.2.2.1 m.2.2.2.1 m.2.2.2.2.1 m.2.2.2.2.2.1 (i_ m)
def lM(m:ax):Int:=bif dC m then 0 else 70
theorem acM(h:4<=n/\n<=8)(i:0<=d/\d<=64):af.b .add .i64 (af.b .mul .i64 (af.b .mul .i64 16 n) d) 16=16*n*d+16:=by
 have j:0<=16*n*d/\16*n*d<=8192:=by
  have:n=4\/n=5\/n=6\/n=7\/n=8:=by omega
  grind
 rw[gp,kP,kP,lg (a:=16*n) (by omega) (by omega),lg (a:=16*n*d) (by omega) (by omega),lg (by omega) (by omega)]
theorem yR(h:4<=n/\n<=8)(i:0<=d/\d<=64):0<=16*n*d:=by
 have:n=4\/n=5\/n=6\/n=7\/n=8:=by omega
 grind
theorem YT{w i:Int}(h:0<=w/\w<=1048576)(j:0<=i/\i<=64):af.b .add .i64 (af.b .add .i64 (af.b .mul .i64 2 w) (af.b .mul .i64 2 i)) 4=2*w+2*i+4:=by
 rw[gp,gp,kP,kP,lg (a:=2*w) (by omega) (by omega),lg (a:=2*i) (by omega) (by omega),lg (a:=2*w+2*i) (by omega) (by omega),lg (by omega) (by omega)]
theorem TS{i:Int}(h:0<=g/\g<=1048576)(j:0<=i/\i<=2062):af.b .add .i64 (af.b .mul .i64 2 g) i=2*g+i:=by
 rw[gp,kP,lg (a:=2*g) (by omega) (by omega),lg (by omega) (by omega)]
theorem Yc{w j:Int}{i:List Bool}{h:List Mode}:DN (n,s,g,w,d,j,i,h)=(af.b .add .i64 (af.b .mul .i64 (af.b .mul .i64 16 n) d) 16,af.b .add .i64 (af.b .add .i64 (af.b .mul .i64 2 w) (af.b .mul .i64 2 j)) 4,af.b .add .i64 (af.b .mul .i64 2 g) (i_ (n,s,g,w,d,j,i,h))):=rfl
structure V8 where
 (a0:List Mode) (a1 a3 a4 a5 a6 a7 a8:Int) (a9:List Bool) (iN:List Mode)
inductive W3 where
 | c0 (p:V8) (a2:Int)
noncomputable def aiF:W3->iB
 | .c0 p a2=>⟨[⟨186,19,(en [(0,.sl fC p.a0),(1,.fn 132 [] [.ptr 0 0]),(7,vi p.a1),(8,vi a2)]),sk f186 [1,0,1,0,0],[],none⟩,⟨131,9,.leaf,[.ops (ow f131 [1,0]) ((ow f131 [1,0]).toList.drop 2),.code .ret],[],none⟩,⟨88,65,(en [(1,.ptr 0 0)]),(.ops (ow f88 [1,0,0,0,0,0,0,0,0,1,0,0]) ((ow f88 [1,0,0,0,0,0,0,0,0,1,0,0]).toList.drop 3)::sk f88 [1,0,0,0,0,0,0,0,0,1,0,0]),[],none⟩],[.ay false [vi p.a3,vi p.a4,vi p.a5,vi p.a6,vi p.a7,vi p.a8,.sl .bool p.a9,.sl fC p.iN],.a_]⟩
def t124(A:aU)(m:Int)(o:Int)(p:Int)(i:Int)(l:Int)(j:Int)(n:List Bool)(h:List Mode):LT Int W3:=.br (A.not (A.k Yb (m,o,p,i,l,j,n,h))) (.ret 70) (.ao (.c0 ⟨h,(A.l h),m,o,p,i,l,j,n,h⟩ 0))
abbrev TN(A:aU)(p:V8):LT Int W3:=(.br (A.not (A.k kI (p.a7,0,64))) (.ret 70) (.br (A.not (A.k kI (p.a8,0,64))) (.ret 70) (.br (A.not (A.k kI (p.a6,0,1048576))) (.ret 70) (.br (A.not (A.k kI (p.a5,0,1048576))) (.ret 70) (.br (A.not (A.k kI (p.a4,0,16777216))) (.ret 70) (.br (A.bG p.a6 (A.k DN (p.a3,p.a4,p.a5,p.a6,p.a7,p.a8,p.a9,p.iN)).1) (.ret 70) (.br (A.bG p.a5 (A.k DN (p.a3,p.a4,p.a5,p.a6,p.a7,p.a8,p.a9,p.iN)).2.1) (.ret 70) (.br (A.bG p.a4 (A.k DN (p.a3,p.a4,p.a5,p.a6,p.a7,p.a8,p.a9,p.iN)).2.2) (.ret 70) (.ret 0)))))))))
def Vm(A:aU):W3->LT Int W3
 | .c0 p a2=>.br (A.bG a2 p.a1) (.ar (A.and (A.bU 0 a2) (A.bG a2 (A.l p.a0))) (.ar (A.k Qs ((p.a3,p.a4,p.a5,p.a6,p.a7,p.a8,p.a9,p.iN),(A.n fC p.a0 a2:Mode))) (.br (A.not (A.k Se ((p.a3,p.a4,p.a5,p.a6,p.a7,p.a8,p.a9,p.iN),(A.n fC p.a0 a2:Mode)))) (.br (A.nM a2 0) (.ret 70) (TN A p)) (.ao (.c0 p (A.b .add .i64 a2 1)))))) (TN A p)
theorem afZ{w l:Int}{i:List Mode}{R:Int}(q:4<=n/\n<=8)(x:R=bif qD n s g w d l (i_ (n,s,g,w,d,l,j,i)) then 0 else 70):
  aY (Vm af) (.br (af.not (af.k kI (d,0,64))) (.ret 70) (.br (af.not (af.k kI (l,0,64))) (.ret 70) (.br (af.not (af.k kI (w,0,1048576))) (.ret 70) (.br (af.not (af.k kI (g,0,1048576))) (.ret 70) (.br (af.not (af.k kI (s,0,16777216))) (.ret 70) (.br (af.bG w (af.k DN (n,s,g,w,d,l,j,i)).1) (.ret 70) (.br (af.bG g (af.k DN (n,s,g,w,d,l,j,i)).2.1) (.ret 70) (.br (af.bG s (af.k DN (n,s,g,w,d,l,j,i)).2.2) (.ret 70) (.ret 0))))))))) R:=by
 have y:=vg (m:=(n,s,g,w,d,l,j,i));have o:∀{p:Prop} [Decidable p],¬p->decide p=false:=λh=>by simp_all
 rw[x];refine jd (λh=>aO ?_ (.ret _)) λr=>jd (λh=>aO ?_ (.ret _)) λt=>jd (λh=>aO ?_ (.ret _)) λu=>jd (λh=>aO ?_ (.ret _)) λv=>jd (λh=>aO ?_ (.ret _)) λz=>?_
 ·rw[qD,o (by omega)];rfl
 ·rw[qD,o (by omega)];rfl
 ·have:=λh=>yR (n:=n) (d:=d) q h
  rw[qD,o (by omega)];rfl
 ·have:=λh=>yR (n:=n) (d:=d) q h
  rw[qD,o (by omega)];rfl
 ·have:=λh=>yR (n:=n) (d:=d) q h
  rw[qD,o (by omega)];rfl
 ·have:=yR (n:=n) (d:=d) q r
  rw[bo,Yc,acM q r,YT u t,TS v y];refine aV (p:=w<16*n*d+16) rfl (λh=>aO ?_ (.ret _)) λA=>aV (p:=g<2*w+2*l+4) rfl (λh=>aO ?_ (.ret _)) λB=>aV (p:=s<2*g+i_ (n,s,g,w,d,l,j,i)) rfl (λh=>aO ?_ (.ret _)) λC=>aO ?_ (.ret _)
  ·rw[qD,o (by omega)];rfl
  ·rw[qD,o (by omega)];rfl
  ·rw[qD,o (by omega)];rfl
  ·rw[qD,dn (by omega)];rfl
theorem ajD{w:Int}{l:List Bool}{h:List Mode}(v:h.length<=140737488355328)(u:(l.length:Int)=n)(t:4<=n/\n<=8):∀(j i:Nat),h.length-i=j->i<=h.length->
  aY (Vm af) (.ao (.c0 ⟨h,(h.length:Int),n,s,g,w,d,m,l,h⟩ (i:Int))) (bif (h.drop i).all (o_ (n,s,g,w,d,m,l,h))&&qD n s g w d m (i_ (n,s,g,w,d,m,l,h)) then 0 else 70):=by
 intro j
 induction j with
 | zero=>
   intro i r q;have:i=h.length:=by omega
   subst this;rw[aA,Vm];refine(ai (by rw[bf];simp)).2 (afZ t ?_)
   simp_all
 | succ j ih=>
   intro i r q;have o:i<h.length:=by omega
   rw[aA,Vm];refine(ak (by rw[bf];simp_all)).2 (au.2 ⟨df o,?_⟩);have e:(af.n fC h (i:Int):Mode)=h[i]:=fM o _;rw[e,Cg o,iE];refine au.2 ⟨by show((l.length:Int)==n)=true;simp_all,?_⟩;have p:af.k Se ((n,s,g,w,d,m,l,h),h[i])=o_ (n,s,g,w,d,m,l,h) h[i]:=rfl;rw[p];cases o_ (n,s,g,w,d,m,l,h) h[i]
   ·refine(ak rfl).2 ((ak (by rfl)).2 (.ret _))
   ·refine(ai rfl).2 ?_
    rw[h_ (i:=i) (by omega),cY]
    grind
theorem ajF{w l:Int}{i:List Mode}(h:Ty.has bJ (n,s,g,w,d,l,j,i)):aY (Vm af) (t124 af n s g w d l j i) (lM (n,s,g,w,d,l,j,i)):=by
 unfold t124 lM dC;rw[show af.k Yb (n,s,g,w,d,l,j,i)=countB (n,s,g,w,d,l,j,i) from rfl];cases hc:countB (n,s,g,w,d,l,j,i)
 ·exact(ak rfl).2 (.ret _)
 ·refine(ai rfl).2 ?_
  simp[countB,sF,fv,rR,beq_iff_eq] at hc;exact ajD (sW h).2.2.1 hc.1.2 hc.1.1.1 i.length 0 rfl (by omega)
def j_:ax->Int:=lM
def arS:aK:=.all [bJ] [yI] j_
theorem Ed:Sd 88 arS:=fa (bp ap dE sl 58 [⟨186,2, [[0,1,7,8], [], [1]]⟩] [] (λA (n,q,r,i,l,j,o,m)=>t124 A n q r i l j o m) Vm aiF (kz (fc func88 (fc func131 (fc func132 (fc func186 fz)))) (sc aqr (sc aqs (sc OJ (sc aqt sz))))) (λA y=>match y with |.c0 p a2=>⟨136,sl,by kernel_rfl⟩) λ(n,q,r,i,l,j,o,m) t h=>ajF h)
theorem u5{m:ax}:j_ m=lM m:=rfl
theorem vF{m:ax}:lM m=0↔dC m=true:=by
 unfold lM;grind
def auk(A:aU)(h:Bool)(i:Int):LT Int Empty:=.br (A.not h) (.ret 2) (.br (A.ji i 0) (.ret 4) (.ret 3))
def Sf:(Bool×Int)->Int:=λ(h,i)=>(auk af h i).val (Ty.aS [yI])
def asc:aK:=.all [.bool,yI] [yI] Sf
theorem aqu:Sd 63 asc:=fa (aR ap dE sl 30 [] (λA (h,i)=>auk A h i) (kz (fc func63 fz) sz))
def aug(A:aU)(n:Int):LT Int Empty:=.br (A.bG n 0) (.ret 0) (.br (A.ji n 4095) (.ret 0) (.ret (A.b .add .i64 14 (A.b .quo .i64 (A.b .add .i64 n 1) 2))))
def R_:Int->Int:=λn=>(aug af n).val (Ty.aS [yI])
def arR:aK:=.all [yI] [yI] R_
theorem aqj:Sd 61 arR:=fa (aR ap dE sl 30 [] (λA n=>aug A n) (kz (fc func61 fz) sz))
structure ahW where
 (a0:List Bool)
inductive ac7 where
 | c0 (p:ahW) (a1:Int) (a2:Int)
noncomputable def ai0:ac7->iB
 | .c0 p a1 a2=>⟨[⟨43,18,(en [(0,.sl .bool p.a0),(3,vi a1),(4,vi a2)]),sk f43 [1,1,0,1,0,0],[],none⟩],[.a_]⟩
def aut(A:aU)(l:List Bool):LT Int ac7:=.ao (.c0 ⟨l⟩ 0 0)
def aaB(A:aU):ac7->LT Int ac7
 | .c0 p a1 a2=>.br (A.bG a2 (A.l p.a0)) (.ar (A.and (A.bU 0 a2) (A.bG a2 (A.l p.a0))) (.br (A.n .bool p.a0 a2:Bool) (.ao (.c0 p (A.b .add .i64 a1 1) (A.b .add .i64 a2 1))) (.ao (.c0 p a1 (A.b .add .i64 a2 1))))) (.ret a1)
theorem ans{l:List Bool}(p:l.length<=140737488355328):∀(j i c:Nat),l.length-i=j->i<=l.length->c<=i->aY (aaB af) (.ao (.c0 ⟨l⟩ (c:Int) (i:Int))) ((c+(l.drop i).count true:Nat):Int):=by
 intro j
 induction j with
 | zero=>
   intro i c o n m;have:i=l.length:=by omega
   subst this;rw[aA,aaB];refine(ai (by rw[dV,bf];simp)).2 ?_;rw[cv];exact .ret _
 | succ j ih=>
   intro i c o n m;have h:i<l.length:=by omega
   rw[aA,aaB];refine(ak (by rw[dV,bf];simp_all)).2 (au.2 ⟨df h,?_⟩);rw[Cg h,List.count_cons];cases hb:l[i]
   ·refine(ai ((BB h).trans hb)).2 ?_
    rw[h_ (i:=i) (by omega)];refine aO ?_ (ih (i+1) c (by omega) (by omega) (by omega));simp
   ·refine(ak ((BB h).trans hb)).2 ?_
    rw[h_ (i:=c) (by omega),h_ (i:=i) (by omega)];refine aO ?_ (ih (i+1) (c+1) (by omega) (by omega) (by omega))
    grind
def Sw:(List Bool)->Int:=λl=>(l.count true:Int)
def as1:aK:=.all [(.slice .bool)] [yI] Sw
theorem aq1:Sd 43 as1:=fa (bp ap dE sl 21 [⟨43,3, [[0,3,4]]⟩] [] (λA l=>aut A l) aaB ai0 (kz (fc func43 fz) sz) (λA y=>match y with |.c0 p a1 a2=>⟨37,sl,by kernel_rfl⟩) λ(l:List Bool) i h=>by
 show aY (aaB af) (aut af l) (Sw l);exact aO (by simp[Sw]) (ans h.1 l.length 0 0 rfl (by omega) (by omega)))
structure ahX where
 (a1:List Int) (a2 a3:List Bool) (a4 a5 a6 a7 a8 a9:Int) (iN:List Bool) (kV:List Mode)
structure ahY where
 (b1:List Int) (b2 b3:List Bool) (b4 b5 b6 b7 b8 b9:Int) (b10:List Bool) (b11:List Mode)
inductive ac8 where
 | c0 (p:ahX) (a0:Int)
 | c1 (p:ahY) (b0:Int)
noncomputable def ai1:ac8->iB
 | .c0 p a0=>⟨[⟨44,78,(en [(2,.ptr 0 0),(3,.ptr 1 0),(5,vi a0)]),sk f44 [1,1,0,1,0,0],[],none⟩],[.ay false [.sl yI p.a1,.sl .bool p.a2,.sl .bool p.a3],.ay false [vi p.a4,vi p.a5,vi p.a6,vi p.a7,vi p.a8,vi p.a9,.sl .bool p.iN,.sl fC p.kV],.a_]⟩
 | .c1 p b0=>⟨[⟨44,78,(en [(2,.ptr 0 0),(3,.ptr 1 0),(6,vi b0)]),sk f44 [1,1,1,0,1,0,0],[],none⟩],[.ay false [.sl yI p.b1,.sl .bool p.b2,.sl .bool p.b3],.ay false [vi p.b4,vi p.b5,vi p.b6,vi p.b7,vi p.b8,vi p.b9,.sl .bool p.b10,.sl fC p.b11],.a_]⟩
def afA(A:aU)(m:List Int)(h:List Bool)(n:List Bool)(i:Int)(r:Int)(t:Int)(l:Int)(p:Int)(o:Int)(q:List Bool)(j:List Mode):LT Bool ac8:=.br (A.cu (A.l m) i) (.ret false) (.br (A.cu (A.l h) i) (.ret false) (.br (A.cu (A.l n) (A.l j)) (.ret false) (.ao (.c0 ⟨m,h,n,i,r,t,l,p,o,q,j⟩ 0))))
def Jd(A:aU):ac8->LT Bool ac8
 | .c0 p a0=>.br (A.bG a0 (A.l p.a1)) (.ar (A.and (A.bU 0 a0) (A.bG a0 (A.l p.a1))) (.br (A.bG (A.n yI p.a1 a0:Int) 0) (.ret false) (.ar (A.and (A.bU 0 a0) (A.bG a0 (A.l p.a1))) (.br (A.ji (A.n yI p.a1 a0:Int) 8) (.ret false) (.ao (.c0 p (A.b .add .i64 a0 1))))))) (.ao (.c1 ⟨p.a1,p.a2,p.a3,p.a4,p.a5,p.a6,p.a7,p.a8,p.a9,p.iN,p.kV⟩ 0))
 | .c1 p b0=>.br (A.bG b0 (A.l p.b2)) (.br (A.bG b0 (A.l p.b10)) (.ar (A.and (A.bU 0 b0) (A.bG b0 (A.l p.b10))) (.br (A.n .bool p.b10 b0:Bool) (.ar (A.and (A.bU 0 b0) (A.bG b0 (A.l p.b2))) (.br (A.not (A.n .bool p.b2 b0:Bool)) (.ret false) (.ao (.c1 p (A.b .add .i64 b0 1))))) (.ao (.c1 p (A.b .add .i64 b0 1))))) (.ret true)) (.ret true)
def Xq:List Bool->List Bool->Bool
 | c::cs,e::es=>(!c||e)&&Xq cs es
 | _,_=>true
theorem Ad:∀{ds:List Int} {i j:List Bool},i.length=ds.length->j.length=ds.length->yw ds i j=(ds.all (λd=>decide (0<=d)&&decide (d<=8))&&Xq i j)
 | [], [], [],_,_=>rfl
 | d::ds,c::i,e::j,h1,h2=>by
   rw[yw,Ad (ds:=ds) (by simpa using h1) (by simpa using h2),iE,Xq]
   grind
 | [],_::_,_,h,_=>by cases h
 | [], [],_::_,_,h=>by cases h
 | _::_, [],_,h,_=>by cases h
 | _::_,_::_, [],_,h=>by cases h
theorem ajP{w r:Int}{l h next:List Bool}{q:List Int}(x:h.length<=140737488355328)(v:l.length=h.length):∀(j i:Nat),h.length-i=j->i<=h.length->
  aY (Jd af) (.ao (.c1 ⟨q,h,next,n,s,g,w,d,r,l,p⟩ (i:Int))) (Xq (l.drop i) (h.drop i)):=by
 intro j
 induction j with
 | zero=>
   intro i u t;have:i=h.length:=by omega
   subst this;rw[aA,Jd];refine(ai (by rw[dV,bf];simp)).2 ?_;rw[cv,gg (by omega)];exact .ret _
 | succ j ih=>
   intro i u t;have m:i<h.length:=by omega
   have o:i<l.length:=by omega
   rw[aA,Jd];refine(ak (by rw[dV,bf];simp_all)).2 ((ak (by rw[dV,bf];simp_all)).2 (au.2 ⟨df o,?_⟩));rw[Cg m,Cg o,Xq];cases hcb:l[i]
   ·refine(ai ((BB o).trans hcb)).2 ?_
    rw[h_ (i:=i) (by omega)];grind
   ·refine(ak ((BB o).trans hcb)).2 (au.2 ⟨df m,?_⟩)
    cases heb:h[i]
    ·exact(ak (by rw[BB m,heb];rfl)).2 (.ret _)
    ·refine(ai (by rw[BB m,heb];rfl)).2 ?_
     rw[h_ (i:=i) (by omega)];grind
theorem ajO{w t:Int}{q r next:List Bool}{m:List Mode}{l:List Int}{R:Bool}(A:l.length<=140737488355328)(z:aY (Jd af) (.ao (.c1 ⟨l,r,next,n,s,g,w,d,t,q,m⟩ 0)) R):∀(j i:Nat),l.length-i=j->i<=l.length->
  aY (Jd af) (.ao (.c0 ⟨l,r,next,n,s,g,w,d,t,q,m⟩ (i:Int))) ((l.drop i).all (λd=>decide (0<=d)&&decide (d<=8))&&R):=by
 intro j
 induction j with
 | zero=>
   intro i v u;have:i=l.length:=by omega
   subst this;rw[aA,Jd];refine(ai (by rw[dV,bf];simp)).2 ?_
   simp_all
 | succ j ih=>
   intro i v u;have o:i<l.length:=by omega
   rw[aA,Jd];rw[Cg o,iE];refine(ak (by rw[dV,bf];simp_all)).2 (au.2 ⟨df o,?_⟩);rw[ZP o];refine aV (p:=l[i]<0) rfl (λh=>aO ?_ (.ret _)) λx=>au.2 ⟨df o,aV (p:=8<l[i]) rfl (λh=>aO ?_ (.ret _)) λy=>?_⟩
   ·grind
   ·grind
   ·rw[h_ (i:=i) (by omega),dn (show 0<=l[i] by omega),dn (show l[i]<=8 by omega)]
    grind
theorem ajQ{w q:Int}{l i next:List Bool}{j:List Mode}(t:h.length<=140737488355328)(p:i.length<=140737488355328)(u:(l.length:Int)=n):
  aY (Jd af) (afA af h i next n s g w d q l j) (o_ (n,s,g,w,d,q,l,j) (h,i,next)):=by
 unfold afA o_;by_cases m:(h.length:Int)=n
 ·refine(ai (xa m)).2 ?_
  by_cases o:(i.length:Int)=n
  ·refine(ai (xa o)).2 ?_
   by_cases r:(next.length:Int)=j.length
   ·refine(ai (xa r)).2 (aO ?_ (ajO t (ajP p (by omega) i.length 0 rfl (by omega)) h.length 0 rfl (by omega)))
    rw[beq_iff_eq.2 m,beq_iff_eq.2 o,beq_iff_eq.2 (show next.length=j.length by omega),Ad (show l.length=h.length by omega) (show i.length=h.length by omega)];rfl
   ·refine(ak (xb r)).2 (aO ?_ (.ret _))
    grind
  ·refine(ak (xb o)).2 (aO ?_ (.ret _))
   simp_all
 ·refine(ak (xb m)).2 (aO ?_ (.ret _))
  simp_all
def Sx:(Mode×ax)->Bool:=λ(x,m)=>o_ m x
def Qt:(Mode×ax)->Bool:=λ(_,m)=>(m.2.2.2.2.2.2.1.length:Int)==m.1
def as2:aK:=⟨[fC,bJ], [.bool],Qt,Sx,false⟩
theorem aq2:Sd 44 as2:=bp ap dE sl 48 [⟨44,4, [[2,3,5]]⟩,⟨44,9, [[2,3,6]]⟩] [] (λA ((t,i,u),o,r,v,j,m,l,q,n)=>afA A t i u o r v j m l q n) Jd ai1 (kz (fc func44 fz) sz) (λA y=>match y with |.c0 p z=>⟨44,sl,by kernel_rfl⟩|.c1 p b0=>⟨50,sl,by kernel_rfl⟩) λ(((t,i,u),o,r,v,j,m,l,q,n):Mode×ax) x h=>by
 show aY (Jd af) (afA af t i u o r v j m l q n) (Sx ((t,i,u),o,r,v,j,m,l,q,n));exact ajQ h.1.1.1 h.1.2.1.1 (by simpa [Qt] using x)
structure ahG where
 (a0 a1 a2 a3 a4 a5 a6 a7:Int) (a8:List Bool) (a9:List Mode)
structure ahH where
 (b1 b3 b4 b5 b6 b7 b8:Int) (b9:List Bool) (b10:List Mode) (b11:List Int) (b12 b13:List Bool)
inductive acW where
 | c0 (p:ahG)
 | c1 (p:ahH) (b0:Int) (b2:Int)
noncomputable def aiK:acW->iB
 | .c0 p=>⟨[⟨29,66,(en [(1,.ptr 0 0),(3,vi p.a0),(4,vi p.a1)]),sk f29 [1,1,0,1,0,0],[],none⟩],[.ay false [vi p.a2,vi p.a3,vi p.a4,vi p.a5,vi p.a6,vi p.a7,.sl .bool p.a8,.sl fC p.a9],.a_]⟩
 | .c1 p b0 b2=>⟨[⟨29,66,(en [(1,.ptr 0 0),(3,vi b0),(4,vi p.b1),(5,.ptr 1 0),(6,vi b2)]),sk f29 [1,1,0,1,0,0,1,0,0,1,1,0,0],[],none⟩],[.ay false [vi p.b3,vi p.b4,vi p.b5,vi p.b6,vi p.b7,vi p.b8,.sl .bool p.b9,.sl fC p.b10],.ay false [.sl yI p.b11,.sl .bool p.b12,.sl .bool p.b13],.a_]⟩
def amb(A:aU)(m:Int)(o:Int)(p:Int)(h:Int)(j:Int)(i:Int)(n:List Bool)(l:List Mode):LT Int acW:=.ao (.c0 ⟨(A.k R_ (A.k PX (1,0))),0,m,o,p,h,j,i,n,l⟩)
def Mb(A:aU):acW->LT Int acW
 | .c0 p=>.br (A.bG p.a1 (A.l p.a9)) (.ar (A.and (A.bU 0 p.a1) (A.bG p.a1 (A.l p.a9))) (.ao (.c1 ⟨p.a1,p.a2,p.a3,p.a4,p.a5,p.a6,p.a7,p.a8,p.a9,(A.n fC p.a9 p.a1:Mode).1,(A.n fC p.a9 p.a1:Mode).2.1,(A.n fC p.a9 p.a1:Mode).2.2⟩ p.a0 0))) (.ret p.a0)
 | .c1 p b0 b2=>.br (A.bG b2 (A.l p.b11)) (.br (A.bG b2 (A.l p.b12)) (.br (A.bG b2 p.b3) (.ar (A.and (A.bU 0 b2) (A.bG b2 (A.l p.b12))) (.ar (A.and (A.bU 0 b2) (A.bG b2 (A.l p.b11))) (.ar (A.and (A.bU 0 b2) (A.bG b2 (A.l p.b11))) (.br (A.ji (A.k PX ((A.k Sf ((A.n .bool p.b12 b2:Bool),(A.n yI p.b11 b2:Int))),(A.n yI p.b11 b2:Int))) 0) (.ao (.c1 p (A.mx b0 (A.k R_ (A.k PX ((A.k Sf ((A.n .bool p.b12 b2:Bool),(A.n yI p.b11 b2:Int))),(A.n yI p.b11 b2:Int))))) (A.b .add .i64 b2 1))) (.ao (.c1 p b0 (A.b .add .i64 b2 1))))))) (.ao (.c0 ⟨b0,(A.b .add .i64 p.b1 1),p.b3,p.b4,p.b5,p.b6,p.b7,p.b8,p.b9,p.b10⟩))) (.ao (.c0 ⟨b0,(A.b .add .i64 p.b1 1),p.b3,p.b4,p.b5,p.b6,p.b7,p.b8,p.b9,p.b10⟩))) (.ao (.c0 ⟨b0,(A.b .add .i64 p.b1 1),p.b3,p.b4,p.b5,p.b6,p.b7,p.b8,p.b9,p.b10⟩))
theorem Yd:Sf=sQ:=rfl
theorem X9:R_=lX:=rfl
theorem aea:PX=wR:=funext λ⟨k,d⟩=>by rw[OG.1,OG.2]
theorem an5{w:Int}{p l next:List Bool}{m:List Mode}{k x:Int}(B:h.length<=140737488355328)(r:af.b .add .i64 k 1=x)(t:∀b,aY (Mb af) (.ao (.c0 ⟨b,x,n,s,g,w,d,u,p,m⟩)) (F b)):
  ∀(j i:Nat) (b:Int),h.length-i=j->i<=h.length->aY (Mb af) (.ao (.c1 ⟨k,n,s,g,w,d,u,p,m,h,l,next⟩ b (i:Int))) (F ((((h.zip l).take n.toNat).drop i).foldl B8 b)):=by
 intro j
 induction j with
 | zero=>
   intro i b A z;have:i=h.length:=by omega
   subst this;rw[aA,Mb];refine(ai (by rw[dV,bf];simp)).2 ?_;rw[Dv (.inr (.inr (aj _))),r]
   simp_all
 | succ j ih=>
   intro i b A z;have o:i<h.length:=by omega
   rw[aA,Mb];refine(ak (by rw[dV,bf];simp_all)).2 ?_;have v:=λb=>ih (i+1) b (by omega) (by omega);by_cases q:i<l.length
   ·refine(ak (by rw[dV,bf];simp_all)).2 ?_
    by_cases y:(i:Int)<n
    ·refine(ak (by rw[Tc];simp_all)).2 (au.2 ⟨df (show i<l.length from q),au.2 ⟨df o,au.2 ⟨df o,?_⟩⟩⟩)
     rw[acP o q y,jT,acJ,<-ZP o,<-BB q,h_ (i:=i) (by omega),Yd,aea,X9];cases hb:af.ji (af.k wR ((af.k sQ ((af.n .bool l (i:Int):Bool),(af.n (.int .i64) h (i:Int):Int))),(af.n (.int .i64) h (i:Int):Int))) 0
     ·exact(ai rfl).2 (v _)
     ·exact(ak rfl).2 (v _)
    ·refine(ai (by rw[Tc];simp_all)).2 ?_
     rw[Dv (.inr (.inl (by omega))),r];simp_all
   ·refine(ai (by rw[dV,bf];simpa using q)).2 ?_
    rw[Dv (.inl (by omega)),r];simp_all
theorem an4{w:Int}{l:List Bool}{h:List Mode}(r:h.length<=140737488355328)(o:∀x∈h,x.1.length<=140737488355328):
  ∀(j k:Nat) (b:Int),h.length-k=j->k<=h.length->aY (Mb af) (.ao (.c0 ⟨b,(k:Int),n,s,g,w,d,m,l,h⟩)) ((h.drop k).foldl (Bt n.toNat) b):=by
 intro j
 induction j with
 | zero=>
   intro k b p q;have:k=h.length:=by omega
   subst this;rw[aA,Mb];refine(ai (by rw[dV,bf];simp)).2 ?_;rw[cv];exact .ret _
 | succ j ih=>
   intro k b p q;have i:k<h.length:=by omega
   rw[aA,Mb];refine(ak (by rw[dV,bf];simp_all)).2 (au.2 ⟨df i,?_⟩);rw[show(af.n fC h (k:Int):Mode)=h[k] from fM i _,Cg i,jT];exact an5 (F:=λb=>(h.drop (k+1)).foldl (Bt n.toNat) b) (o _ (cN i)) (h_ (by omega)) (λb=>ih (k+1) b (by omega) (by omega)) h[k].1.length 0 b rfl (by omega)
theorem an6{w l:Int}{i:List Mode}(h:Ty.has bJ (n,s,g,w,d,l,j,i)):aY (Mb af) (amb af n s g w d l j i) (i_ (n,s,g,w,d,l,j,i)):=by
 unfold amb;exact an4 (sW h).2.2.1 (λx m=>((sW h).2.2.2 x m).1) i.length 0 _ rfl (by omega)
def NC:ax->Int:=i_
def ar4:aK:=.all [bJ] [yI] NC
theorem ag3:Sd 29 ar4:=fa (bp ap dE sl 24 [⟨29,3, [[1,3,4]]⟩,⟨29,7, [[1,3,4,5,6]]⟩] [] (λA (n,q,r,i,l,j,o,m)=>amb A n q r i l j o m) Mb aiK (kz (fc func29 fz) (sc awr (sc aqj (sc aqu sz)))) (λA y=>match y with |.c0 p=>⟨35,sl,by kernel_rfl⟩|.c1 p b0 b2=>⟨72,sl,by kernel_rfl⟩) λ(n,q,r,i,l,j,o,m) t h=>an6 h)
structure ahQ where
 (a1 a2 a3 a4 a5 a6:Int) (a7:List Bool) (a8:List Mode)
inductive ac3 where
 | c0 (p:ahQ) (a0:Int)
noncomputable def aiV:ac3->iB
 | .c0 p a0=>⟨[⟨18,120,(en [(1,.ptr 0 0),(3,vi a0)]),sk f18 [1,1,0,1,0,0],[],none⟩],[.ay false [vi p.a1,vi p.a2,vi p.a3,vi p.a4,vi p.a5,vi p.a6,.sl .bool p.a7,.sl fC p.a8],.a_]⟩
def amu(A:aU)(h:Int)(o:Int)(p:Int)(l:Int)(n:Int)(m:Int)(j:List Bool)(i:List Mode):LT Int ac3:=.br (A.bG h 4) (.ret 70) (.br (A.ji h 8) (.ret 70) (.br (A.bG (A.l i) 1) (.ret 70) (.br (A.ji (A.l i) 4) (.ret 70) (.br (A.cu (A.l j) h) (.ret 70) (.br (A.bG (A.k Sw j) 2) (.ret 70) (.ao (.c0 ⟨h,o,p,l,n,m,j,i⟩ 0)))))))
def Vo(A:aU):ac3->LT Int ac3
 | .c0 p a0=>.br (A.bG a0 (A.l p.a8)) (.ar (A.and (A.bU 0 a0) (A.bG a0 (A.l p.a8))) (.ar (A.k Qt ((A.n fC p.a8 a0:Mode),p.a1,p.a2,p.a3,p.a4,p.a5,p.a6,p.a7,p.a8)) (.br (A.not (A.k Sx ((A.n fC p.a8 a0:Mode),p.a1,p.a2,p.a3,p.a4,p.a5,p.a6,p.a7,p.a8))) (.ret 70) (.ao (.c0 p (A.b .add .i64 a0 1)))))) (.br (A.bG p.a5 0) (.ret 70) (.br (A.ji p.a5 64) (.ret 70) (.br (A.bG p.a6 0) (.ret 70) (.br (A.ji p.a6 64) (.ret 70) (.br (A.bG p.a4 (A.b .add .i64 (A.b .mul .i64 (A.b .mul .i64 16 p.a1) p.a5) 16)) (.ret 70) (.br (A.ji p.a4 1048576) (.ret 70) (.br (A.bG p.a3 (A.b .add .i64 (A.b .add .i64 (A.b .mul .i64 2 p.a4) (A.b .mul .i64 2 p.a6)) 4)) (.ret 70) (.br (A.ji p.a3 1048576) (.ret 70) (.br (A.bG p.a2 (A.b .add .i64 (A.b .mul .i64 2 p.a3) (A.k NC (p.a1,p.a2,p.a3,p.a4,p.a5,p.a6,p.a7,p.a8)))) (.ret 70) (.br (A.ji p.a2 16777216) (.ret 70) (.ret 0)))))))))))
theorem af0{w l:Int}{i:List Mode}{R:Int}(q:4<=n/\n<=8)(t:R=bif qD n s g w d l (i_ (n,s,g,w,d,l,j,i)) then 0 else 70):
  aY (Vo af) (.br (af.bG d 0) (.ret 70) (.br (af.ji d 64) (.ret 70) (.br (af.bG l 0) (.ret 70) (.br (af.ji l 64) (.ret 70) (.br (af.bG w (af.b .add .i64 (af.b .mul .i64 (af.b .mul .i64 16 n) d) 16)) (.ret 70) (.br (af.ji w 1048576) (.ret 70) (.br (af.bG g (af.b .add .i64 (af.b .add .i64 (af.b .mul .i64 2 w) (af.b .mul .i64 2 l)) 4)) (.ret 70) (.br (af.ji g 1048576) (.ret 70) (.br (af.bG s (af.b .add .i64 (af.b .mul .i64 2 g) (af.k NC (n,s,g,w,d,l,j,i)))) (.ret 70) (.br (af.ji s 16777216) (.ret 70) (.ret 0))))))))))) R:=by
 have u:=vg (m:=(n,s,g,w,d,l,j,i));have o:∀{p:Prop} [Decidable p],¬p->decide p=false:=λh=>by simp_all
 rw[t];refine aV (p:=d<0) rfl (λh=>aO ?_ (.ret _)) λv=>aV (p:=64<d) rfl (λh=>aO ?_ (.ret _)) λx=>aV (p:=l<0) rfl (λh=>aO ?_ (.ret _)) λy=>aV (p:=64<l) rfl (λh=>aO ?_ (.ret _)) λz=>?_
 ·rw[qD,o (by omega)];rfl
 ·rw[qD,o (by omega)];rfl
 ·rw[qD,o (by omega)];rfl
 ·rw[qD,o (by omega)];rfl
 have:=yR (n:=n) (d:=d) q (by omega);rw[acM q (by omega)];refine aV (p:=w<16*n*d+16) rfl (λh=>aO ?_ (.ret _)) λA=>aV (p:=1048576<w) rfl (λh=>aO ?_ (.ret _)) λB=>?_
 ·rw[qD,o (by omega)];rfl
 ·rw[qD,o (by omega)];rfl
 rw[YT (by omega) (by omega)];refine aV (p:=g<2*w+2*l+4) rfl (λh=>aO ?_ (.ret _)) λC=>aV (p:=1048576<g) rfl (λh=>aO ?_ (.ret _)) λD=>?_
 ·rw[qD,o (by omega)];rfl
 ·rw[qD,o (by omega)];rfl
 rw[show af.k NC (n,s,g,w,d,l,j,i)=i_ (n,s,g,w,d,l,j,i) from rfl,TS (by omega) u];refine aV (p:=s<2*g+i_ (n,s,g,w,d,l,j,i)) rfl (λh=>aO ?_ (.ret _)) λE=>aV (p:=16777216<s) rfl (λh=>aO ?_ (.ret _)) λr=>aO ?_ (.ret _)
 ·rw[qD,o (by omega)];rfl
 ·rw[qD,o (by omega)];rfl
 ·rw[qD,dn (by omega)];rfl
theorem ad0{w:Int}{l:List Bool}{h:List Mode}(v:h.length<=140737488355328)(u:(l.length:Int)=n)(t:4<=n/\n<=8):∀(j i:Nat),h.length-i=j->i<=h.length->
  aY (Vo af) (.ao (.c0 ⟨n,s,g,w,d,m,l,h⟩ (i:Int))) (bif (h.drop i).all (o_ (n,s,g,w,d,m,l,h))&&qD n s g w d m (i_ (n,s,g,w,d,m,l,h)) then 0 else 70):=by
 intro j
 induction j with
 | zero=>
   intro i r q;have:i=h.length:=by omega
   subst this;rw[aA,Vo];refine(ai (by rw[dV,bf];simp)).2 (af0 t ?_)
   simp_all
 | succ j ih=>
   intro i r q;have o:i<h.length:=by omega
   rw[aA,Vo];refine(ak (by rw[dV,bf];simp_all)).2 (au.2 ⟨df o,?_⟩);have e:(af.n fC h (i:Int):Mode)=h[i]:=fM o _;rw[e,Cg o,iE];refine au.2 ⟨by show((l.length:Int)==n)=true;simp_all,?_⟩;have p:af.k Sx (h[i],n,s,g,w,d,m,l,h)=o_ (n,s,g,w,d,m,l,h) h[i]:=rfl;rw[p];cases o_ (n,s,g,w,d,m,l,h) h[i]
   ·exact(ak rfl).2 (.ret _)
   ·refine(ai rfl).2 ?_
    rw[h_ (i:=i) (by omega),cY]
    grind
theorem ad1{w l:Int}{i:List Mode}(h:Ty.has bJ (n,s,g,w,d,l,j,i)):aY (Vo af) (amu af n s g w d l j i) (lM (n,s,g,w,d,l,j,i)):=by
 unfold amu lM dC countB;simp[sF];refine aV (p:=n<4) rfl (λh=>aO ?_ (.ret _)) λo=>aV (p:=8<n) rfl (λh=>aO ?_ (.ret _)) λq=>aV (p:=(i.length:Int)<1) rfl (λh=>aO ?_ (.ret _)) λr=>aV (p:=4<(i.length:Int)) rfl (λh=>aO ?_ (.ret _)) λt=>?_
 ·grind
 ·grind
 ·grind
 ·grind
 by_cases m:(j.length:Int)=n
 ·refine(ai (xa m)).2 (?_)
  refine aV (p:=(j.count true:Int)<2) rfl (λh=>aO ?_ (.ret _)) λu=>aO ?_ (ad0 (sW h).2.2.1 m (by omega) i.length 0 rfl (by omega))
  all_goals grind
 ·refine(ak (xb m)).2 (aO ?_ (.ret _))
  grind
def zk:ax->Int:=lM
def asC:aK:=.all [bJ] [yI] zk
theorem aa6:Sd 18 asC:=fa (bp ap dE sl 58 [⟨18,4, [[1,3]]⟩] [] (λA (n,q,r,i,l,j,o,m)=>amu A n q r i l j o m) Vo aiV (kz (fc func18 fz) (sc ag3 (sc aq1 (sc aq2 sz)))) (λA y=>match y with |.c0 p t=>⟨100,sl,by kernel_rfl⟩) λ(n,q,r,i,l,j,o,m) u h=>ad1 h)
theorem Yk:zk=j_:=rfl
def rhoC:Shelf.Ren:=⟨λx=>match x with|4=>52|n=>n,λx=>match x with|22=>45|4=>4|5=>5|n=>n,λx=>x⟩
theorem agH:SlLaysK.n4 prog rhoC:=
 {mixed:=by kernel_rfl,f4:=func52.trans (congrArg some (by kernel_rfl)),t4:=Tryz.underlying4,a4:=Tryz.isAgg4,z4:=Tryz.sizeOf4,v4:=Tryz.zeroValue4,t22:=Tryz.underlying45,a22:=Tryz.isAgg45,z22:=Tryz.sizeOf45,v22:=Tryz.zeroValue45,t5:=Tryz.underlying5,i5:=by kernel_rfl}
def lq:List Int->List Int:=λx=>x
def asg:aK:=.all [.slice (.int .u8)] [.slice (.int .u8)] lq
theorem UE{w:World}{I:Nat->Prop}{x:List Int}{v:Value}(J:bW w I (.slice (.int .u8)) [v] x):Calls prog 52 #[v] w λe j=>∃v,e=.returned v/\j.os=w.os/\j.tape=w.tape/\j.output=w.output/\w.heap.size<=j.heap.size/\(∀b,b<w.heap.size->j.heap[b]? = w.heap[b]?)/\
   ∃E,(∀b,E b->I b\/(w.heap.size<=b/\b<j.heap.size))/\bW j E (.slice (.int .u8)) [v] x:=by
 have hx:x.length<=gy/\∀y∈x,IntKind.u8.has y:=bW.has _ J;obtain⟨a,l,e,N,F,P,S⟩:=d_.1 J;cases e;cases a with
 | none=>
   have D:x=[]:=bA (by have Q:l=0:=P rfl;have O:x.length<=l:=N;omega);subst D;refine(Any.bytes_Clone_nil agH 0 l w).mono ?_
   rintro e j ⟨rfl,rfl⟩
   exact⟨_,rfl,rfl,rfl,rfl,aj _,λ_ _=>rfl,I,λb h=>.inl h,d_.2 ⟨none,0,rfl,aj _,aX _,(λ_=>rfl),λi y h=>by cases h⟩⟩
 | some a=>
   refine(Any.bytes_Clone_at agH a x.length l x w rfl F λi A=>?_).mono ?_
   ·obtain⟨b,off,us,K,_,hl,Z,X⟩:=S i x[i] (EK A)
    cases K;have C:=(uV.1 X).1;subst C;have:=Z 0 _ rfl;rw[lZ,xB,EK A];simpa [Ty.size] using this
   ·rintro e j ⟨v',rfl,⟨hn,t⟩,r,p⟩
    rcases t with ⟨hz,_⟩|⟨g,n,o,rfl,m,H,q,Y,a0,B⟩
    ·exact absurd hz r
    refine⟨_,rfl,p.os,p.tape,p.output,p.size,p.block,λb=>w.heap.size<=b/\b<j.heap.size,λb h=>.inr h,d_.2 ⟨_,n,rfl,q,F,(λh=>by cases h),λi y z=>?_⟩⟩;have z:x[i]? = some y:=z;have A:i<x.length:=(aT.1 z).1;refine⟨g,0, [.int .u8 y],rfl,⟨m,(dp.1 H).1⟩,rfl,?_,uV.2 ⟨rfl,hx.2 y (jb z)⟩⟩;have u:=jm (w:=j) H i 1;have:(o.toList.drop i).take 1=[Value.int .u8 y]:=by
     have G:(o.toList.take (x.length*1))[i]? = some (Value.int .u8 y):=by
      rw[B,cy,z];rfl
     rw[jF (by omega)] at G;obtain⟨V,W⟩:=aT.1 G;rw[Cg V,W];rfl
    rw[this] at u;simpa [Ty.size] using u
theorem zz:aK.bE prog 52 asg:=by
 refine⟨λw I x j n i _=>?_,λ_ _=>rfl,⟨f52,func52,by kernel_rfl,by kernel_rfl⟩⟩;obtain⟨l⟩:=j;obtain⟨v,rfl,m⟩:∃v,l=[v]/\mB w I (.slice (.int .u8)) v x:=by
  have h:=i;exact h
 exact UE m
def aun(A:aU)(h:Int)(i:Int):LT Int Empty:=.br (A.bG h 0) (.ret 60) (.br (A.bG i h) (.ret 60) (.br (A.ji i 1099511627776) (.ret 60) (.ret 0)))
def FL:Span->Int:=λ(h,i)=>(aun af h i).val (Ty.aS [yI])
def aso:aK:=.all [jW] [yI] FL
theorem OL:Sd 248 aso:=fa (aR ap dE sl 36 [] (λA (h,i)=>aun A h i) (kz (fc func248 fz) sz))
def t182(A:aU)(j:Int)(h:Int)(l:Int)(i:Int)(n:Int)(m:List Int):LT Int Empty:=.br (A.bG j (-1)) (.ret 110) (.br (A.nM j 8) (.ret 110) (.br (A.bG i 0) (.ret 110) (.br (A.ji i 200) (.ret 110) (.br (A.cu (A.k FL (h,l)) 0) (.ret 110) (.br (A.cu (A.k rT (n,m)) 0) (.ret 110) (.ret 0))))))
def Sg:dF->Int:=λ(l,(h,i),j,n,m)=>(t182 af l h i j n m).val (Ty.aS [yI])
def asl:aK:=.all [eU] [yI] Sg
theorem aa5:Sd 294 asl:=fa (aR ap dE sl 69 [] (λA (l,(h,i),j,n,m)=>t182 A l h i j n m) (kz (fc func294 fz) (sc Mr (sc OL sz))))
def t171(A:aU)(m:Int)(h:Int)(i:Int)(l:Int)(j:Int)(n:List Int):LT Bool Empty:=.br (A.bK (A.k Sg (m,(h,i),l,j,n)) 0) (.br (A.ji j 0) (.br (A.bU j 4095) (.ret (A.bK (A.b .sub .i64 i h) (A.k lX j))) (.ret false)) (.ret false)) (.ret false)
def agl:dF->Bool:=λ(l,(h,i),j,n,m)=>(t171 af l h i j n m).val (Ty.aS [.bool])
def ase:aK:=.all [eU] [.bool] agl
theorem aqw:Sd 246 ase:=fa (aR ap dE sl 44 [] (λA (l,(h,i),j,n,m)=>t171 A l h i j n m) (kz (fc func246 fz) (sc TX (sc aa5 sz))))
def ame(A:aU)(h:Int)(i:Int):LT Int Empty:=.br (A.bG h 0) (.ret 60) (.br (A.bG i h) (.ret 60) (.br (A.ji i 1099511627776) (.ret 60) (.ret 0)))
def Ye:Span->Int:=λ(h,i)=>(ame af h i).val (Ty.aS [yI])
def asd:aK:=.all [jW] [yI] Ye
theorem aqv:Sd 53 asd:=fa (aR ap dE sl 36 [] (λA (h,i)=>ame A h i) (kz (fc func53 fz) sz))
def amc(A:aU)(j:Int)(h:Int)(l:Int)(i:Int)(n:Int)(m:List Int):LT Int Empty:=.br (A.bG j (-1)) (.ret 110) (.br (A.nM j 8) (.ret 110) (.br (A.cu (A.k Ye (h,l)) 0) (.ret 110) (.br (A.bG i 0) (.ret 110) (.br (A.ji i 200) (.ret 110) (.br (A.cu (A.k akb (n,m)) 0) (.ret 110) (.ret 0))))))
def Sc:dF->Int:=λ(l,(h,i),j,n,m)=>(amc af l h i j n m).val (Ty.aS [yI])
def ar5:aK:=.all [eU] [yI] Sc
theorem aqp:Sd 25 ar5:=fa (aR ap dE sl 51 [] (λA (l,(h,i),j,n,m)=>amc A l h i j n m) (kz (fc func25 fz) (sc awv (sc aqv sz))))
structure ahK where
 (a0:List Int) (a1 a3:Int)
inductive acX where
 | c0 (p:ahK) (a2:Int)
noncomputable def aiO:acX->iB
 | .c0 p a2=>⟨[⟨257,19,(en [(0,.sl yI p.a0),(1,.fn 205 [] [.ptr 0 0]),(7,vi p.a1),(8,vi a2)]),sk f257 [1,0,1,0,0],[],none⟩,⟨204,9,.leaf,[.ops (ow f204 [1,0]) ((ow f204 [1,0]).toList.drop 2),.code .ret],[],none⟩,⟨154,36,.leaf,[.ops (ow f154 [1,1,1,0]) ((ow f154 [1,1,1,0]).toList.drop 3),.code .ret],[],none⟩],[.ay false [vi p.a3],.a_]⟩
def t168(A:aU)(p:Int)(r:Int)(t:Int)(l:Int)(n:Int)(m:Int)(q:List Bool)(o:List Mode)(i:Int)(j:Int)(h:List Int):LT Bool acX:=.br (A.bG i 0) (.ret false) (.br (A.ji i 1099494850560) (.ret false) (.br (A.bG j 0) (.ret false) (.br (A.ji j 1048576) (.ret false) (.br (A.ji (A.l h) 8) (.ret false) (.ao (.c0 ⟨h,(A.l h),l⟩ 0))))))
def aay(A:aU):acX->LT Bool acX
 | .c0 p a2=>.br (A.bG a2 p.a1) (.ar (A.and (A.bU 0 a2) (A.bG a2 (A.l p.a0))) (.br (A.bG (A.n yI p.a0 a2:Int) (A.u .neg .i64 p.a3)) (.ret (A.not (A.nM a2 0))) (.br (A.ji (A.n yI p.a0 a2:Int) p.a3) (.ret (A.not (A.nM a2 0))) (.ao (.c0 p (A.b .add .i64 a2 1)))))) (.ret true)
def XG(w x:Int):Bool:=!af.bG x (af.u .neg .i64 w) && !af.ji x w
def yY(w:Int)(c:qj):Bool:=!decide (c.1<0)&&(!decide (1099494850560<c.1)&&(!decide (c.2.1<0)&&(!decide (1048576<c.2.1)&&(!decide (8<(c.2.2.length:Int))&&c.2.2.all (XG w)))))
theorem avQ{l:List Int}{w:Int}(p:l.length<=140737488355328):∀(j i:Nat),l.length-i=j->i<=l.length->aY (aay af) (.ao (.c0 ⟨l,(l.length:Int),w⟩ (i:Int))) ((l.drop i).all (XG w)):=by
 intro j
 induction j with
 | zero=>
   intro i o n;have:i=l.length:=by omega
   subst this;rw[aA,aay];refine(ai (by rw[bf];simp)).2 ?_;rw[cv];exact .ret _
 | succ j ih=>
   intro i o n;have h:i<l.length:=by omega
   rw[aA,aay];refine(ak (by rw[bf];simp;omega)).2 (au.2 ⟨df h,?_⟩);rw[ZP h,Cg h,iE,XG];have m:af.not (af.nM (i:Int) 0)=false:=by rw[lf,gq];simp
   rw[m];cases af.bG l[i] (af.u .neg .i64 w)
   ·refine(ai rfl).2 ?_
    cases af.ji l[i] w
    ·refine(ai rfl).2 ?_
     rw[h_ (i:=i) (by omega)];exact ih (i+1) (by omega) (by omega)
    ·exact(ak rfl).2 (.ret _)
   ·exact(ak rfl).2 (.ret _)
theorem avR{w o j:Int}{i:List Bool}{h:List Mode}{l:List Int}(p:l.length<=140737488355328):aY (aay af) (t168 af n s g w d o i h m j l) (yY w (m,j,l)):=by
 unfold t168 yY;simp only[dV,aN,bY];cases decide (m<0)
 ·refine(ai rfl).2 ?_
  cases decide (1099494850560<m)
  ·refine(ai rfl).2 ?_
   cases decide (j<0)
   ·refine(ai rfl).2 ?_
    cases decide (1048576<j)
    ·refine(ai rfl).2 ?_
     cases decide (8<(l.length:Int))
     ·exact(ai rfl).2 (avQ p l.length 0 rfl (by omega))
     ·exact(ak rfl).2 (.ret _)
    ·exact(ak rfl).2 (.ret _)
   ·exact(ak rfl).2 (.ret _)
  ·exact(ak rfl).2 (.ret _)
 ·exact(ak rfl).2 (.ret _)
theorem aei{w p o:Int}{i:List Mode}{l:List Int}(h:Ty.jj [bJ,wV] ((n,s,g,w,d,p,j,i),o,m,l)):l.length<=140737488355328:=h.2.2.2.1
def Xt(x:ax×qj):Int:=bif dC x.1 then(bif yY x.1.2.2.2.1 x.2 then 0 else 130) else 70
def FK:(ax×qj)->Bool:=λ(m,c)=>yY m.2.2.2.1 c
def asb:aK:=.all [bJ,wV] [.bool] FK
theorem aa3:Sd 154 asb:=fa (bp ap dE sl 95 [⟨257,2, [[0,1,7,8], [], []]⟩] [] (λA ((o,u,v,i,m,l,t,n),j,r,q)=>t168 A o u v i m l t n j r q) aay aiO (kz (fc func154 (fc func204 (fc func205 (fc func257 fz)))) sz) (λA y=>match y with |.c0 p a2=>⟨61,sl,by kernel_rfl⟩) λ((o,u,v,i,m,l,t,n),j,r,q) x h=>avR (aei h))
def ama(A:aU)(m:Int)(o:Int)(p:Int)(h:Int)(j:Int)(i:Int)(n:List Bool)(l:List Mode)(q:Int)(t:Int)(r:List Int):LT Int Empty:=.br (A.cu (A.k j_ (m,o,p,h,j,i,n,l)) 0) (.ret (A.k j_ (m,o,p,h,j,i,n,l))) (.br (A.not (A.k FK ((m,o,p,h,j,i,n,l),q,t,r))) (.ret 130) (.ret 0))
def tY:(ax×qj)->Int:=λ((n,r,t,h,l,j,q,m),i,p,o)=>(ama af n r t h l j q m i p o).val (Ty.aS [yI])
def ar2:aK:=.all [bJ,wV] [yI] tY
theorem OI:Sd 198 ar2:=fa (aR ap dE sl 40 [] (λA ((n,r,t,h,l,j,q,m),i,p,o)=>ama A n r t h l j q m i p o) (kz (fc func198 fz) (sc Ed (sc aa3 sz))))
def t148(A:aU)(o:Int)(t:Int)(j:Int)(l:Int)(m:Int)(i:Int)(r:List Bool)(n:List Mode)(h:Int)(q:Int)(p:List Int):LT Int Empty:=.ret (A.b .add .i64 h (A.b .add .i64 j i))
def NB:(ax×qj)->Int:=λ((n,r,t,h,l,j,q,m),i,p,o)=>(t148 af n r t h l j q m i p o).val (Ty.aS [yI])
def ar3:aK:=.all [bJ,wV] [yI] NB
theorem ag2:Sd 199 ar3:=fa (aR ap dE sl 24 [] (λA ((n,r,t,h,l,j,q,m),i,p,o)=>t148 A n r t h l j q m i p o) (kz (fc func199 fz) sz))
def t116(A:aU)(n:Int)(r:Int)(t:Int)(h:Int)(l:Int)(j:Int)(q:List Bool)(m:List Mode)(i:Int)(p:Int)(o:List Int):LT (Span×Int) Empty:=.br (A.cu (A.k tY ((n,r,t,h,l,j,q,m),i,p,o)) 0) (.ret ((0,0),(A.k tY ((n,r,t,h,l,j,q,m),i,p,o)))) (.ret (((A.mx (A.b .sub .i64 (A.k NB ((n,r,t,h,l,j,q,m),i,p,o)) h) 0),(A.b .add .i64 (A.b .add .i64 (A.k NB ((n,r,t,h,l,j,q,m),i,p,o)) h) 1)),0))
def zj:(ax×qj)->(Span×Int):=λ((n,r,t,h,l,j,q,m),i,p,o)=>(t116 af n r t h l j q m i p o).val (Ty.aS [jW,yI])
def arQ:aK:=.all [bJ,wV] [jW,yI] zj
theorem ag0:Sd 147 arQ:=fa (aR ap dE sl 52 [] (λA ((n,r,t,h,l,j,q,m),i,p,o)=>t116 A n r t h l j q m i p o) (kz (fc func147 fz) (sc OI (sc ag2 sz))))
theorem Ya{m:ax}{c:qj}:tY (m,c)=Xt (m,c):=by
 obtain⟨n,s,g,w,d,p,i,h⟩:=m;obtain⟨o,j,l⟩:=c;simp only[tY,ama,LT.val,bo,u5,lM,Xt,lf];rw[show FK ((n,s,g,w,d,p,i,h),o,j,l)=yY w (o,j,l) from rfl];cases dC (n,s,g,w,d,p,i,h)<;>cases yY w (o,j,l)<;>rfl
theorem wrap_i64(n:Int):IntKind.i64.wrap n=if n%18446744073709551616 >= 9223372036854775808 then n%18446744073709551616-18446744073709551616 else n%18446744073709551616:=by
 simp[IntKind.wrap,IntKind.signed,IntKind.bits]
theorem Zx{w l:Int}{i:List Mode}(h:dC (n,s,g,w,d,l,j,i)=true):(4<=n/\n<=8)/\((1:Int)<=i.length/\(i.length:Int)<=4)/\(j.length:Int)=n/\i.all (o_ (n,s,g,w,d,l,j,i))=true/\(0<=d/\d<=64/\0<=l/\l<=64/\16<=w/\w<=1048576/\36<=g/\g<=1048576/\72<=s/\s<=16777216):=by
 simp[dC,countB,sF,qD,fv,rR] at h;obtain⟨⟨⟨⟨⟨o,p⟩,q⟩,_⟩,r⟩,t⟩:=h;have:=yR o (d:=d) (by omega);have u:=vg (m:=(n,s,g,w,d,l,j,i))
 grind
theorem ad6{b:Int×List Int}(h:(tQ b).2=true):zX (tQ b).1=true:=by
 rw[tQ] at h ⊢;cases hp:((vO (b,zS)).2 != 0||(vO (b,zS)).1.1==2)
 ·rw[Bool.or_eq_false_iff] at hp
  have i:(vO (b,zS)).2=0:=by simp_all
  exact aeO i
 simp_all
theorem YQ{f:sj}(h:zX f=true):0<=f.2.2.2.1/\f.2.2.2.1<=7/\0<=f.2.2.1.2.1/\f.2.2.1.2.1<=7:=by
 simp[zX,fv] at h;have i:=abm.1 h.1.1.1
 grind
end
end Go.Ev.M
