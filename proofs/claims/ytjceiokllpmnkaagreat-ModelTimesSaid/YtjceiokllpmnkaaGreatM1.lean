/-
  PROVED: what functions of the program compute, part 1. Conditions: none.
-/
import Derived.Test.YtjceiokllpmnkaaGreatTy
import Derived.Test.YtjceiokllpmnkaaGreatPl
import Derived.Shelf.Bytes.SlClone
set_option linter.unusedVariables false
set_option linter.unusedSimpArgs false
namespace Go.Ev.M
open Go.Proofs
set_option maxRecDepth 100000
open Go.Ev.Pl
noncomputable section
theorem Gk:(∀b x y:Bool,(bif b then x else y)=true↔(b=true→x=true)∧(b=false→y=true))∧(∀a b:Int,ah.c .eql a b=(a==b))∧(∀a b:Int,ah.c .neq a b=(a != b))∧(∀a b:Int,ah.c .lss a b=decide (a<b))∧(∀a b:Int,ah.c .leq a b=decide (a≤b))∧(∀a b:Int,ah.c .gtr a b=decide (b<a))∧(∀a b:Int,ah.c .geq a b=decide (b≤a))∧(∀x y:Bool,ah.and x y=(x&&y))∧(∀x:Bool,ah.not x=!x)∧(∀x y:Bool,ah.q x y=(x==y))∧(∀(α β:Type)(f:α→β)(x:α),ah.k f x=f x)∧(∀k (a b:Int),ah.b .add k a b=k.wrap (a+b))∧(∀k (a b:Int),ah.b .sub k a b=k.wrap (a-b))∧(∀k (a:Int),ah.v k a=k.wrap a)∧(∀(α:Type)(l:List α),ah.l l=(l.length:Int))∧(∀(α:Type)(x:α),tt x=true)∧(∀a b:Bool,((a&&b)=true)=(a=true∧b=true))∧(∀a b:Bool,((a||b)=true)=(a=true∨b=true))∧(∀a b:Bool,((a&&b)=false)↔(a=false∨b=false))∧(∀a b:Bool,((a||b)=false)↔(a=false∧b=false))∧(∀b:Bool,((!b)=true)=(b=false))∧(∀b:Bool,((!b)=false)=(b=true))∧(∀(p:Prop)[Decidable p],(decide p=true)=p)∧(∀(p:Prop)[Decidable p],(decide p=false)↔¬p):=⟨fun _ _ _=>jd,fun _ _=>rfl,fun _ _=>rfl,fun _ _=>rfl,fun _ _=>rfl,fun _ _=>rfl,fun _ _=>rfl,fun _ _=>rfl,fun _=>rfl,fun _ _=>rfl,fun _ _ _ _=>rfl,fun _ _ _=>rfl,fun _ _ _=>rfl,fun _ _=>rfl,fun _ _=>rfl,fun _ _=>rfl,fun _ _=>Bool.and_eq_true ..,fun _ _=>Bool.or_eq_true ..,fun _ _=>Bool.and_eq_false_iff,fun _ _=>Bool.or_eq_false_iff,fun _=>by simp,fun _=>by simp,fun _ _=>decide_eq_true_eq,fun _ _=>decide_eq_false_iff_not⟩
theorem T5{i:Int}(h:0≤i)(h2:i≤4611686018427387904):ah.b .quo .i64 i 8=((i.toNat/8:Nat):Int):=by
 rw[Kv,Int.tdiv_eq_ediv_of_nonneg h,iZ (by omega) (by omega)];omega
theorem LY{i:Int}(h:0≤i):ah.b .rem .i64 i 8=((i.toNat%8:Nat):Int):=by
 rw[VB,Int.tmod_eq_emod_of_nonneg h];omega
theorem oV{n:Int}{b:List Int}(h:Ty.has (.struct [(.int .i64),(.slice (.int .u8))]) (n,b)):(-9223372036854775808≤n∧n≤9223372036854775807)∧b.length≤dD∧dy b:=by
 simp only[Ty.has,Ty.cN] at h
 exact⟨h.1,h.2.1,fun x hx=>h.2.2 x hx⟩
theorem gX{n:Int}{b:List Int}(h:Ty.has (.struct [(.int .i64),(.slice (.int .u8))]) (n,b)):b.length≤140737488355328:=(oV h).2.1
def Ta(A:aI)(n:Int):LT Int Empty:=.ret (A.b .quo .i64 (A.b .add .i64 n 7) 8)
def eE:Int→Int:=fun n=>(Ta ah n).val (Ty.bi [yI])
def abV:ax:=⟨[yI], [yI],(@tt Int),eE⟩
theorem KH:Sd 283 abV:=aH ap bR true 17 [] (fun A n=>Ta A n) (fc Tryz.func283 fz) sz (fun(n:Int) hp h=>by
 show(Ta ah n).pre=true
 rfl)
def NP(A:aI)(i:Int):LT Int Empty:=.need (A.c .leq 0 (A.b .rem .i64 i 8)) (.ret (A.b .shr .u8 128 (A.b .rem .i64 i 8)))
def xf:Int→Int:=fun i=>(NP ah i).val (Ty.bi [yU])
def pL:Int→Bool:=fun i=>decide (0≤i)
def afN:ax:=⟨[yI], [yU],pL,xf⟩
theorem Jy:Sd 343 afN:=aH ap bR true 17 [] (fun A i=>NP A i) (fc Tryz.func343 fz) sz (fun(i:Int) hp h=>by
 show(NP ah i).pre=true
 simp only[NP,LT.pre,Gk,bne_iff_ne,beq_iff_eq,bne_eq_false_iff_eq,beq_eq_false_iff_ne]
 simp only[pL,jV] at hp
 rw[LY hp];exact⟨by omega,trivial⟩)
theorem oM{n:Int}(h:0≤n)(h2:n≤4611686018427387000):eE n=(((n.toNat+7)/8:Nat):Int):=by
 simp only[eE,Ta,LT.val]
 rw[ck,iZ (by omega) (by omega),T5 (by omega) (by omega)]
 omega
theorem ON:∀k:Fin 8,ah.b .shr .u8 128 (k.val:Int)=((128 >>> k.val:Nat):Int):=by decide +kernel
theorem FV{i:Int}(h:0≤i):xf i=((128 >>> (i.toNat%8):Nat):Int):=by
 simp only[xf,NP,LT.val]
 rw[LY h]
 exact ON ⟨i.toNat%8,Nat.mod_lt _ (by decide)⟩
theorem Us:∀c:Fin 256,∀k:Fin 8,(ah.b .and .u8 (c.val:Int) ((128 >>> k.val:Nat):Int) != 0)=c.val.testBit (7-k.val):=by decide +kernel
theorem IZ{l:List Int}(h:dy l)(i:Nat):0≤l.getD i 0∧l.getD i 0≤255:=by
 rw[nE]
 by_cases hi:i<l.length
 ·rw[uX hi];exact h _ (List.getElem_mem hi)
 ·rw[List.getElem?_eq_none (by omega)];decide
theorem T6{l:List Int}(h:dy l)(i:Nat):(ah.b .and .u8 (l.getD (i/8) 0) ((128 >>> (i%8):Nat):Int) != 0)=fG l i:=by
 have h1:=IZ h (i/8)
 have h2:=Us ⟨(l.getD (i/8) 0).toNat,by omega⟩ ⟨i%8,Nat.mod_lt _ (by decide)⟩
 simp only at h2
 rw[show(((l.getD (i/8) 0).toNat:Nat):Int)=l.getD (i/8) 0 from by omega] at h2
 exact h2
def RX(A:aI)(bN:Int)(bB:List Int)(i:Int):LT Bool Empty:=.need (A.and (A.c .leq 0 (A.b .quo .i64 i 8)) (A.c .lss (A.b .quo .i64 i 8) (A.l bB))) (.need (A.k pL i) (.ret (A.c .neq (A.b .and .u8 (A.n yU bB (A.b .quo .i64 i 8):Int) (A.k xf i)) 0)))
def ul:((Int×List Int)×Int)→Bool:=fun((bN,bB),i)=>(RX ah bN bB i).val (Ty.bi [.bool])
def qN:((Int×List Int)×Int)→Bool:=fun((n,b),i)=>decide (0≤i)&&decide (i<8*(b.length:Int))
def aez:ax:=⟨[(.struct [yI,yB]),yI], [.bool],qN,ul⟩
theorem RN:Sd 320 aez:=aH ap bR true 25 [] (fun A ((bN,bB),i)=>RX A bN bB i) (fc Tryz.func320 fz) (sc Jy sz) (fun(((bN,bB),i):(Int×List Int)×Int) hp h=>by
 show(RX ah bN bB i).pre=true
 simp only[qN,cd,jV] at hp
 have hl:=gX h.1
 simp only[RX,LT.pre,aA,aJ,ao,ar,pL,cd,jV,g_]
 rw[T5 hp.1 (by omega)]
 refine⟨⟨by omega,by omega⟩,hp.1,trivial⟩)
theorem zx{n:Int}{b:List Int}{i:Int}(hb:dy b)(h0:0≤i)(h1:i<8*(b.length:Int))(hl:b.length≤140737488355328):ul ((n,b),i)=fG b i.toNat:=by
 simp only[ul,RX,LT.val,aA,aT]
 rw[T5 h0 (by omega),FV h0]
 exact T6 hb i.toNat
def t99(A:aI)(bN:Int)(bB:List Int):LT Int Empty:=.br (A.c .lss bN 0) (.ret 10) (.br (A.c .gtr bN 4096) (.ret 10) (.need (A.k (@tt Int) bN) (.br (A.c .neq (A.l bB) (A.k eE bN)) (.ret 10) (.br (A.c .neq (A.b .rem .i64 bN 8) 0) (.need (A.and (A.c .leq 0 (A.b .sub .i64 (A.l bB) 1)) (A.c .lss (A.b .sub .i64 (A.l bB) 1) (A.l bB))) (.need (A.c .leq 0 (A.b .rem .i64 bN 8)) (.br (A.c .neq (A.b .and .u8 (A.n yU bB (A.b .sub .i64 (A.l bB) 1):Int) (A.b .shr .u8 255 (A.b .rem .i64 bN 8))) 0) (.ret 10) (.ret 0)))) (.ret 0)))))
def mX:((Int×List Int))→Int:=fun(bN,bB)=>(t99 ah bN bB).val (Ty.bi [yI])
def ah8:ax:=⟨[(.struct [yI,yB])], [yI],(@tt ((Int×List Int))),mX⟩
theorem F_:Sd 236 ah8:=aH ap bR true 67 [] (fun A (bN,bB)=>t99 A bN bB) (fc Tryz.func236 fz) (sc KH sz) (fun((bN,bB):(Int×List Int)) hp h=>by
 show(t99 ah bN bB).pre=true
 have hl:=gX h
 simp only[t99,LT.pre,aA,aT,ar,bg,ao,aJ,dU,Bool.true_and,g_,jd,jV,decide_eq_false_iff_not,cd,bne_iff_ne,bne_eq_false_iff_eq,ne_eq,implies_true,and_true,true_and]
 intro h0 h1 h2 h3
 rw[oM (by omega) (by omega)] at h2
 rw[LY (by omega)] at h3
 rw[cu,iZ (by omega) (by omega),LY (by omega)]
 omega)
theorem Nz:∀c:Fin 256,∀r:Fin 8,(ah.b .and .u8 (c.val:Int) (ah.b .shr .u8 255 (r.val:Int)) != 0)=!((List.range 8).all fun k=>decide (k<r.val) || !c.val.testBit (7-k)):=by decide +kernel
theorem Ma{n:Int}{b:List Int}(hb:dy b)(hl:b.length≤140737488355328):mX (n,b)=0↔0≤n∧n≤4096∧okB n.toNat b:=by
 simp only[mX,t99,LT.val,aA,aT,ar,bg]
 by_cases h0:n<0
 ·simp only[h0,decide_true,cond_true]
  constructor
  ·intro h;cases h
  ·intro h;omega
 ·simp only[h0,decide_false,cond_false]
  by_cases h1:4096<n
  ·simp only[h1,decide_true,cond_true]
   constructor
   ·intro h;cases h
   ·intro h;omega
  ·simp only[h1,decide_false,cond_false]
   rw[oM (by omega) (by omega)]
   have hlen:ah.l b=(b.length:Int):=rfl
   rw[hlen]
   by_cases h2:b.length=(n.toNat+7)/8
   ·rw[show((b.length:Int) != (((n.toNat+7)/8:Nat):Int))=false from by rw[h2];exact bne_self_eq_false _,cond_false,LY (by omega)]
    by_cases h3:n.toNat%8=0
    ·rw[h3]
     simp only[Int.natCast_zero,bne_self_eq_false,cond_false,true_iff]
     exact⟨by omega,by omega,h2,hb,fun i h4 h5=>by omega⟩
    ·rw[show(((n.toNat%8:Nat):Int) != 0)=true from by simp;omega,cond_true]
     have e:(ah.n (.int .u8) b (ah.b .sub .i64 (b.length:Int) 1):Int)=b.getD (n.toNat/8) 0:=by
      show b.getD (ah.b .sub .i64 (b.length:Int) 1).toNat 0=_
      rw[cu,iZ (by omega) (by omega)]
      congr 1
      omega
     have hx:=IZ hb (n.toNat/8)
     have key:=Nz ⟨(b.getD (n.toNat/8) 0).toNat,by omega⟩ ⟨n.toNat%8,Nat.mod_lt _ (by decide)⟩
     simp only at key
     rw[show(((b.getD (n.toNat/8) 0).toNat:Nat):Int)=b.getD (n.toNat/8) 0 from by omega] at key
     have e2:(ah.b .and .u8 (ah.n (.int .u8) b (ah.b .sub .i64 (b.length:Int) 1):Int) (ah.b .shr .u8 255 ((n.toNat%8:Nat):Int)) != 0)=!((List.range 8).all fun k=>decide (k<n.toNat%8) || !(b.getD (n.toNat/8) 0).toNat.testBit (7-k)):=by
      rw[←key]
      exact congrArg (fun z:Int=>(ah.b .and .u8 z (ah.b .shr .u8 255 ((n.toNat%8:Nat):Int)) != 0)) e
     refine Iff.trans (b:=((List.range 8).all fun k=>decide (k<n.toNat%8) || !(b.getD (n.toNat/8) 0).toNat.testBit (7-k))=true) ?_ ?_
     ·refine Iff.trans (b:=(bif !((List.range 8).all fun k=>decide (k<n.toNat%8) || !(b.getD (n.toNat/8) 0).toNat.testBit (7-k)) then(10:Int) else 0)=0) (by rw[←e2]) ?_
      cases (List.range 8).all fun k=>decide (k<n.toNat%8) || !(b.getD (n.toNat/8) 0).toNat.testBit (7-k)<;>simp
     ·rw[List.all_eq_true]
      constructor
      ·intro h
       refine⟨by omega,by omega,h2,hb,fun i h4 h5=>?_⟩
       have:=h (i%8) (List.mem_range.2 (Nat.mod_lt _ (by decide)))
       have hi:i/8=n.toNat/8:=by omega
       rw[fG,hi]
       simp only[Bool.or_eq_true,jV,Bool.not_eq_true'] at this
       rcases this with h6|h6
       ·omega
       ·exact h6
      ·intro ⟨_,_,_,_,h⟩ k hk
       have hk:=List.mem_range.1 hk
       by_cases h6:k<n.toNat%8
       ·simp[h6]
       ·have:=h (8*(n.toNat/8)+k) (by omega) (by omega)
        rw[fG,show(8*(n.toNat/8)+k)/8=n.toNat/8 from by omega,show(8*(n.toNat/8)+k)%8=k from by omega] at this
        rw[this];simp
   ·rw[show((b.length:Int) != (((n.toNat+7)/8:Nat):Int))=true from bne_iff_ne.2 (by omega),cond_true]
    constructor
    ·intro h;cases h
    ·intro h;exact absurd h.2.2.1 h2
theorem Jj{x:Int×List Int}:mX x=0∨mX x=10:=by
 obtain⟨n,b⟩:=x
 exact LT.lm (p:=fun y=>y=0∨y=10) (.inl rfl) (by simp[t99,LT.all])
theorem ui{n:Int}{b:List Int}(hb:dy b)(hl:b.length≤140737488355328):mX (n,b)=bif iW (n,b) then 0 else 10:=by
 have h1:=Ma (n:=n) hb hl
 rw[←oL hb] at h1
 rcases Jj (x:=(n,b)) with h2|h2
 ·rw[h2,h1.1 h2];rfl
 ·have:iW (n,b)=false:=by
   rw[←Bool.not_eq_true]
   intro h3
   rw[h1.2 h3] at h2
   cases h2
  rw[h2,this];rfl
theorem bU{i:Nat}(h:i<4611686018427387904):ah.b .add .i64 (i:Int) 1=((i+1:Nat):Int):=by
 rw[ck,iZ (by omega) (by omega)];rfl
theorem eH{i j:Nat}(h:i+j<4611686018427387904):ah.b .add .i64 (i:Int) (j:Int)=((i+j:Nat):Int):=by
 rw[ck,iZ (by omega) (by omega)];rfl
theorem aC{i j:Nat}:ah.c .lss (i:Int) (j:Int)=decide (i<j):=by
 rw[ar];exact decide_eq_decide.2 Int.ofNat_lt
theorem n_{i j:Nat}:ah.c .leq (i:Int) (j:Int)=decide (i≤j):=by
 rw[ao];exact decide_eq_decide.2 Int.ofNat_le
theorem oS{i:Nat}:ah.c .leq 0 (i:Int)=true:=by rw[ao];simp
theorem o7{i:Nat}(h:i≤4611686018427387904):ah.b .quo .i64 (i:Int) 8=((i/8:Nat):Int):=by
 rw[T5 (by omega) (by omega)];rfl
theorem yr{i:Nat}:ah.b .rem .i64 (i:Int) 8=((i%8:Nat):Int):=by
 rw[LY (by omega)];rfl
theorem xk{u v:Int}(h:u=v):ah.c .eql u v=true:=by rw[aD,h];exact beq_self_eq_true _
theorem Jv{u v:Int}(h:u≠v):ah.c .eql u v=false:=by rw[aD];exact beq_eq_false_iff_ne.2 h
theorem sI{u v:Int}(h:u=v):ah.c .neq u v=false:=by rw[aT,h];exact bne_self_eq_false _
theorem sO{u v:Int}(h:u≠v):ah.c .neq u v=true:=by rw[aT];exact bne_iff_ne.2 h
theorem gI{R Y:Type}{step:Y→LT R Y}{t t':LT R Y}{r:R}(h:t=t')(h2:au step t' r):au step t r:=h▸h2
theorem Vg:∀c:Fin 256,∀k:Fin 8,ah.b .or .u8 (c.val:Int) ((128 >>> k.val:Nat):Int)=((c.val ||| 128 >>> k.val:Nat):Int):=by decide +kernel
theorem AZ{B:List Int}{l:List Bool}{m i:Nat}(h:Holds B l m)(hi:l.length=i)(h1:i<8*m)(hm:m≤100000) :
  Holds (ah.set B (ah.b .quo .i64 (i:Int) 8) (ah.b .or .u8 (ah.n (.int .u8) B (ah.b .quo .i64 (i:Int) 8):Int) (ah.k xf (i:Int)))) (l ++ [true]) m:=by
 rw[o7 (by omega),aA,FV (by omega),gS]
 have key:=Vg ⟨(B.getD (i/8) 0).toNat,zn h.2.1 _⟩ ⟨i%8,Nat.mod_lt _ (by decide)⟩
 simp only at key
 rw[show(((B.getD (i/8) 0).toNat:Nat):Int)=B.getD (i/8) 0 from Int.toNat_of_nonneg (IZ h.2.1 _).1] at key
 have:=h.set (by omega)
 rw[hi] at this
 rw[←key] at this
 exact this
theorem vM{l:List Bool}{i:Nat}(h:i<l.length):l.take (i+1)=l.take i ++ [l.getD i false]:=by
 rw[List.take_succ_eq_append_getElem h,nE,uX h];rfl
theorem QQ{a:Int}{n:Nat}(h:0≤a)(hn:n≤64):ah.b .shr .u64 a (n:Int)=((a.toNat/2^n:Nat):Int):=by
 show a.fdiv (2^min (n:Int).toNat 64)=_
 obtain⟨m,rfl⟩:=Int.eq_ofNat_of_zero_le h
 rw[gS,Nat.min_eq_left hn,Int.fdiv_eq_ediv_of_nonneg _ (Int.pow_nonneg (by decide))]
 simp
theorem Wc{a:Int}{n:Nat}(h:0≤a)(hn:n≤32):ah.b .shr .u32 a (n:Int)=((a.toNat/2^n:Nat):Int):=by
 show a.fdiv (2^min (n:Int).toNat 32)=_
 obtain⟨m,rfl⟩:=Int.eq_ofNat_of_zero_le h
 rw[gS,Nat.min_eq_left hn,Int.fdiv_eq_ediv_of_nonneg _ (Int.pow_nonneg (by decide))]
 simp
theorem R7{m:Nat}:ah.c .eql (ah.b .and .u64 (m:Int) 1) 1=decide (m%2=1):=by
 show(IntKind.u64.wrap ((BitVec.ofInt 64 (m:Int) &&& BitVec.ofInt 64 1).toNat:Int)==1)=_
 rw[BitVec.ofInt_natCast,show BitVec.ofInt 64 1=BitVec.ofNat 64 1 from rfl,BitVec.toNat_and,BitVec.toNat_ofNat,BitVec.toNat_ofNat,show 1%2^64=1 from rfl,Nat.and_one_is_mod,Tl (by omega) (by omega),Bool.eq_iff_iff]
 simp only[beq_iff_eq,jV]
 omega
theorem NA{v:Int}{k:Nat}(h:0≤v)(hk:k≤64):ah.c .eql (ah.b .and .u64 (ah.b .shr .u64 v (k:Int)) 1) 1=v.toNat.testBit k:=by
 rw[QQ h hk,R7,Nat.testBit_eq_decide_div_mod_eq]
theorem pK{i j:Nat}(h:j≤i)(hi:i<4611686018427387904):ah.b .sub .i64 (i:Int) (j:Int)=((i-j:Nat):Int):=by
 rw[cu,iZ (by omega) (by omega)];omega
theorem SZ{v:Int}{w:Nat}(h:0≤v):decide ((2:Int)^w≤v)=(((v.toNat/2^w:Nat):Int) != 0):=by
 obtain⟨m,rfl⟩:=Int.eq_ofNat_of_zero_le h
 rw[gS,Bool.eq_iff_iff]
 have h2:(2:Int)^w=((2^w:Nat):Int):=by simp
 rw[h2,jV,bne_iff_ne]
 have hp:=Nat.two_pow_pos w
 constructor
 ·intro h3
  have:1≤m/2^w:=(Nat.le_div_iff_mul_le hp).2 (by omega)
  omega
 ·intro h3
  have:1≤m/2^w:=Nat.pos_of_ne_zero fun h=>h3 (by rw[h];rfl)
  have:=(Nat.le_div_iff_mul_le hp).1 this
  omega
theorem Vw{n v w:Int}{b:List Int}(h:Ty.cN [(.struct [(.int .i64),(.slice (.int .u8))]),(.int .u64),(.int .i64)] ((n,b),v,w)):Ty.has (.struct [(.int .i64),(.slice (.int .u8))]) (n,b)∧(0≤v∧v≤18446744073709551615)∧(-9223372036854775808≤w∧w≤9223372036854775807):=h
structure NY where
 (a0 a1 a2 a4:Int) (a5:List Int) (a6 a7:Int)
inductive Gu where
 | c0 (p:NY) (a3:Int) (a8:List Int)
noncomputable def abT:Gu→eD
 | .c0 p a3 a8=>⟨[⟨286,63,(en [(1,.int .u64 false p.a0),(2,vi p.a1),(3,.ptr 0 0),(6,.ptr 1 0),(8,.ptr 2 0),(43,vi p.a2),(44,vi a3)]),[.inLoop (cw Tryz.f286 [1,1,1,0,1,0,0]),.inBlock 1,.code (cw Tryz.f286 [1,1,1,1])],[],none⟩],[.flat false [vi p.a4,.sl yU p.a5],.flat false [vi p.a6,.dp true],.flat false [vi p.a7,.own 3],.arr false yU a8,.dead]⟩
abbrev Sg(A:aI)(bN:Int)(bB:List Int)(v:Int)(width:Int):LT ((Int×List Int)×Int) Gu:=(.br (A.c .gtr width (A.b .sub .i64 4096 bN)) (.ret ((0,([]:List Int)),3)) (.need (A.k (@tt Int) (A.b .add .i64 bN width)) (.need (A.and (A.c .eql (A.k eE (A.b .add .i64 bN width)) (A.k eE (A.b .add .i64 bN width))) (A.and (A.c .leq 0 (A.k eE (A.b .add .i64 bN width))) (A.c .leq (A.k eE (A.b .add .i64 bN width)) 140737488355328))) (.more (.c0 ⟨v,width,width,bN,bB,0,(A.b .add .i64 bN width)⟩ 0 (A.spl (A.r (A.k eE (A.b .add .i64 bN width)) (0:Int)) 0 (A.s bB 0 (A.mn (A.l bB) (A.l (A.r (A.k eE (A.b .add .i64 bN width)) (0:Int)))))))))))
def aab(A:aI)(bN:Int)(bB:List Int)(v:Int)(width:Int):LT ((Int×List Int)×Int) Gu:=.need (A.k (@tt ((Int×List Int))) (bN,bB)) (.br (A.c .neq (A.k mX (bN,bB)) 0) (.ret ((0,([]:List Int)),10)) (.br (A.c .lss width 0) (.ret ((0,([]:List Int)),2)) (.br (A.c .gtr width 64) (.ret ((0,([]:List Int)),2)) (.br (A.c .lss width 64) (.need (A.c .leq 0 width) (.br (A.c .neq (A.b .shr .u64 v width) 0) (.ret ((0,([]:List Int)),2)) (Sg A bN bB v width))) (Sg A bN bB v width)))))
def Lh(A:aI):Gu→LT ((Int×List Int)×Int) Gu
 | .c0 p a3 a8=>.br (A.c .lss a3 p.a2) (.need (A.c .leq 0 (A.b .sub .i64 (A.b .sub .i64 p.a1 1) a3)) (.br (A.c .eql (A.b .and .u64 (A.b .shr .u64 p.a0 (A.b .sub .i64 (A.b .sub .i64 p.a1 1) a3)) 1) 1) (.need (A.and (A.c .leq 0 (A.b .quo .i64 (A.b .add .i64 p.a4 a3) 8)) (A.c .lss (A.b .quo .i64 (A.b .add .i64 p.a4 a3) 8) (A.l a8))) (.need (A.k pL (A.b .add .i64 p.a4 a3)) (.need (A.and (A.c .leq 0 (A.b .quo .i64 (A.b .add .i64 p.a4 a3) 8)) (A.c .lss (A.b .quo .i64 (A.b .add .i64 p.a4 a3) 8) (A.l a8))) (.more (.c0 p (A.b .add .i64 a3 1) (A.set a8 (A.b .quo .i64 (A.b .add .i64 p.a4 a3) 8) (A.b .or .u8 (A.n yU a8 (A.b .quo .i64 (A.b .add .i64 p.a4 a3) 8):Int) (A.k xf (A.b .add .i64 p.a4 a3))))))))) (.more (.c0 p (A.b .add .i64 a3 1) a8)))) (.ret ((p.a7,a8),0))
theorem FH{v w k:Nat}(h:k<w):(bitsOf v w).getD k false=v.testBit (w-1-k):=by
 rw[nE,bitsOf,List.getElem?_map,List.getElem?_range h];rfl
theorem oW{B:List Int}{m i:Nat}(hB:B.length=m)(hi:i<8*m)(hm:m≤100000):(ah.and (ah.c .leq 0 (ah.b .quo .i64 (i:Int) 8)) (ah.c .lss (ah.b .quo .i64 (i:Int) 8) (ah.l B)))=true:=by
 have hlb:ah.l B=(m:Int):=by rw[←hB];rfl
 rw[o7 (by omega),hlb,oS,aC,aJ];simp;omega
theorem vO{i:Nat}:ah.k pL (i:Int)=true:=by rw[aA];simp[pL]
theorem agH{v:Int}{n w:Nat}{b:List Int}(hv:0≤v)(hn:n+w≤4096)(hw:w≤64):∀(j k:Nat) (p:NY) (B:List Int),p.a0=v→p.a1=(w:Int)→p.a2=(w:Int)→p.a4=(n:Int)→p.a7=((n+w:Nat):Int)→w-k=j→k≤w→Holds B (unpack n b++(bitsOf v.toNat w).take k) ((n+w+7)/8)→au (Lh ah) (.more (.c0 p (k:Int) B)) (Ho (unpack n b++bitsOf v.toNat w),0):=by
 intro j
 induction j with
 | zero=>
   intro k p B h1 h2 h3 h4 h5 hj hk hB
   have:k=w:=by omega
   subst this
   simp only[ak,Lh]
   refine(ai (by rw[h3,aC];simp)).2 ?_
   rw[List.take_of_length_le (by rw[gN];exact Nat.le_refl _)] at hB
   have hl:(unpack n b++bitsOf v.toNat k).length=n+k:=by rw[gm,bG,gN]
   rw[h5,hB.done (by rw[hl])]
   rw[show Ho (unpack n b++bitsOf v.toNat k)=(((n+k:Nat):Int),pack (unpack n b++bitsOf v.toNat k)) from by rw[Ho,hl]]
   exact .ret _
 | succ j ih=>
   intro k p B h1 h2 h3 h4 h5 hj hk hB
   simp only[ak,Lh]
   have hsh:ah.b .sub .i64 (ah.b .sub .i64 p.a1 1) (k:Int)=((w-1-k:Nat):Int):=by
    rw[h2,show ah.b .sub .i64 (w:Int) 1=((w-1:Nat):Int) from pK (j:=1) (by omega) (by omega),pK (by omega) (by omega)]
   have hat:ah.b .add .i64 p.a4 (k:Int)=((n+k:Nat):Int):=by rw[h4,eH (by omega)]
   have hlen:(unpack n b++(bitsOf v.toNat w).take k).length=n+k:=by rw[gm,bG,List.length_take,gN];omega
   have hts:=vM (l:=bitsOf v.toNat w) (i:=k) (by rw[gN];omega)
   rw[FH (by omega)] at hts
   refine(aj (by rw[h3,aC];simp;omega)).2 (af.2 ⟨by rw[hsh,oS],?_⟩)
   rw[hsh,h1,NA hv (by omega),hat]
   cases hx:v.toNat.testBit (w-1-k)
   ·rw[hx] at hts
    refine(ai rfl).2 ?_
    refine gI (congrArg LT.more (congr (congrArg (Gu.c0 p) (bU (by omega))) rfl)) (ih (k+1) p B h1 h2 h3 h4 h5 (by omega) (by omega) ?_)
    rw[hts,←List.append_assoc]
    exact hB.skip
   ·rw[hx] at hts
    refine(aj rfl).2 (af.2 ⟨oW hB.1 (by omega) (by omega),af.2 ⟨vO,af.2 ⟨oW hB.1 (by omega) (by omega),?_⟩⟩⟩)
    refine gI (congrArg LT.more (congr (congrArg (Gu.c0 p) (bU (by omega))) rfl)) (ih (k+1) p _ h1 h2 h3 h4 h5 (by omega) (by omega) ?_)
    rw[hts,←List.append_assoc]
    exact AZ hB hlen (by omega) (by omega)
theorem grow{n w:Nat}{b:List Int}(h:okB n b)(hw:n+w≤100000):Holds (ah.spl (ah.r (ah.k eE ((n+w:Nat):Int)) (0:Int)) 0 (ah.s b 0 (ah.mn (ah.l b) (ah.l (ah.r (ah.k eE ((n+w:Nat):Int)) (0:Int)))))) (unpack n b) ((n+w+7)/8):=by
 have h1:=h.1
 rw[aA,oM (by omega) (by omega),gS]
 have e1:ah.r ((((n+w+7)/8:Nat):Nat):Int) (0:Int)=List.replicate ((n+w+7)/8) 0:=by rw[nV,gS]
 rw[e1]
 have e2:ah.mn (ah.l b) (ah.l (List.replicate ((n+w+7)/8) (0:Int)))=(b.length:Int):=by
  rw[ov]
  show(if ((List.replicate ((n+w+7)/8) (0:Int)).length:Int)<(b.length:Int) then _ else(b.length:Int))=_
  rw[pQ,if_neg (by omega)]
 rw[e2,fP,jr]
 have e3:(b.take (b.length:Int).toNat).drop (0:Int).toNat=b:=by
  rw[gS,List.take_length];rfl
 rw[e3]
 have:=Holds.grown (m:=(n+w+7)/8) h (by omega)
 rw[show(0:Int).toNat=0 from rfl,List.take_zero,List.nil_append,Nat.zero_add,List.drop_replicate]
 exact this
theorem aip{n v w:Int}{b:List Int}(h:Ty.cN [(.struct [(.int .i64),(.slice (.int .u8))]),(.int .u64),(.int .i64)] ((n,b),v,w)):au (Lh ah) (aab ah n b v w) (Z7 ((n,b),v,w)):=by
 obtain⟨h1,hv,hw⟩:=Vw h
 have hb:=(oV h1).2.2
 have hl:=gX h1
 unfold aab Sg
 rw[Z7]
 refine af.2 ⟨rfl,?_⟩
 have hc:ah.c .neq (ah.k mX (n,b)) 0=!iW (n,b):=by
  rw[aA,ui hb hl];cases iW (n,b)<;>rfl
 rw[hc]
 cases hok:iW (n,b)
 ·exact(aj rfl).2 (.ret _)
 ·refine(ai rfl).2 ?_
  obtain⟨h2,h3,h4⟩:=(oL hb).1 hok
  have h5:=h4.1
  rw[Bool.not_true,cond_false]
  by_cases h6:w<0
  ·refine(aj (by rw[ar];simpa using h6)).2 ?_
   rw[show decide (w<0)=true from by simpa using h6]
   exact .ret _
  ·refine(ai (by rw[ar];simpa using h6)).2 ?_
   by_cases h7:64<w
   ·refine(aj (by rw[bg];simpa using h7)).2 ?_
    rw[show decide (64<w)=true from by simpa using h7,Bool.or_true,Bool.true_or]
    exact .ret _
   ·refine(ai (by rw[bg];simpa using h7)).2 ?_
    rw[show decide (w<0)=false from by simpa using h6,show decide (64<w)=false from by simpa using h7,Bool.false_or,Bool.false_or,SZ hv.1]
    obtain⟨k,rfl⟩:=Int.eq_ofNat_of_zero_le (show 0≤w by omega)
    obtain⟨m,rfl⟩:=Int.eq_ofNat_of_zero_le h2
    rw[gS] at h4 h5 ⊢
    have hadd:ah.b .add .i64 (m:Int) (k:Int)=((m+k:Nat):Int):=eH (by omega)
    have hneed:ah.k eE ((m+k:Nat):Int)=(((m+k+7)/8:Nat):Int):=by rw[aA,oM (by omega) (by omega),gS]
    have hlen:(ju ((m:Int),b)++bitsOf v.toNat k).length=m+k:=by rw[gm,tP,gN,gS]
    have hfin:(((v.toNat/2^k:Nat):Int) != 0)=false→∀t,t=(LT.br (ah.c .gtr (k:Int) (ah.b .sub .i64 4096 (m:Int))) (.ret ((0,([]:List Int)),3)) (.need (ah.k (@tt Int) (ah.b .add .i64 (m:Int) (k:Int))) (.need (ah.and (ah.c .eql (ah.k eE (ah.b .add .i64 (m:Int) (k:Int))) (ah.k eE (ah.b .add .i64 (m:Int) (k:Int)))) (ah.and (ah.c .leq 0 (ah.k eE (ah.b .add .i64 (m:Int) (k:Int)))) (ah.c .leq (ah.k eE (ah.b .add .i64 (m:Int) (k:Int))) 140737488355328))) (.more (.c0 ⟨v,(k:Int),(k:Int),(m:Int),b,0,(ah.b .add .i64 (m:Int) (k:Int))⟩ 0 (ah.spl (ah.r (ah.k eE (ah.b .add .i64 (m:Int) (k:Int))) (0:Int)) 0 (ah.s b 0 (ah.mn (ah.l b) (ah.l (ah.r (ah.k eE (ah.b .add .i64 (m:Int) (k:Int))) (0:Int)))))))))):LT ((Int×List Int)×Int) Gu)→au (Lh ah) t (bif ((v.toNat/2^k:Nat):Int) != 0 then(zB,2) else Wp (ju ((m:Int),b)++bitsOf v.toNat k)):=by
     intro hz t ht
     rw[hz,cond_false,ht,Wp,hlen,hadd,show ah.b .sub .i64 (4096:Int) (m:Int)=((4096-m:Nat):Int) from pK (i:=4096) (by omega) (by omega)]
     by_cases h9:4096<m+k
     ·rw[show decide (4096<m+k)=true from by simpa using h9]
      refine(aj (by rw[bg];simp;omega)).2 (.ret _)
     ·rw[show decide (4096<m+k)=false from by simpa using h9]
      refine(ai (by rw[bg];simp;omega)).2 (af.2 ⟨rfl,af.2 ⟨?_,?_⟩⟩)
      ·rw[hneed,oS,xk rfl,ao,aJ,aJ];simp;omega
      ·refine agH hv.1 (by omega) (by omega) k 0 _ _ rfl rfl rfl rfl rfl rfl (by omega) ?_
       rw[List.take_zero,List.append_nil]
       exact grow h4 (by omega)
    by_cases h8:k<64
    ·refine(aj (by rw[ar];simp;omega)).2 (af.2 ⟨oS,?_⟩)
     rw[QQ hv.1 (by omega)]
     cases hz:(((v.toNat/2^k:Nat):Int) != 0)
     ·refine(ai hz).2 ?_
      rw[←hz]
      exact hfin hz _ rfl
     ·exact(aj hz).2 (.ret _)
    ·refine(ai (by rw[ar];simp;omega)).2 (hfin ?_ _ rfl)
     have:k=64:=by omega
     subst this
     rw[Nat.div_eq_of_lt (by omega)];rfl
def p8:((Int×List Int)×Int×Int)→((Int×List Int)×Int):=Z7
def ab3:ax:=⟨[(.struct [yI,yB]),(.int .u64),yI], [(.struct [yI,yB]),yI],(@tt ((Int×List Int)×Int×Int)),p8⟩
theorem O1:Sd 286 ab3:=aP ap bR true 114 [⟨286,9, [[1,2,3,6,8,43,44]]⟩] [] (fun A ((bN,bB),v,width)=>aab A bN bB v width) Lh abT (fc Tryz.func286 (fc Tryz.func321 (fc Tryz.func322 (fc Tryz.func324 fz)))) (sc F_ (sc KH (sc Jy sz))) (fun A y=>match y with |.c0 p a3 a8=>⟨63,by kernel_rfl,by kernel_rfl⟩) fun((bN,bB),v,width) hp h=>aip h
structure Sq where
 (a0 a2 a4:Int) (a5:List Int)
inductive Vz where
 | c0 (p:Sq) (a1:Int) (a3:Int)
noncomputable def abG:Vz→eD
 | .c0 p a1 a3=>⟨[⟨284,54,(en [(1,vi p.a0),(3,.ptr 0 0),(8,.int .u64 false a1),(39,vi p.a2),(40,vi a3)]),[.inLoop (cw Tryz.f284 [1,1,1,0,1,0,0]),.inBlock 1,.code (cw Tryz.f284 [1,1,1,1])],[],none⟩],[.flat false [vi p.a4,.sl yU p.a5],.dead]⟩
def t138(A:aI)(bN:Int)(bB:List Int)(at1:Int)(width:Int):LT (Int×Int) Vz:=.need (A.k (@tt ((Int×List Int))) (bN,bB)) (.br (A.c .neq (A.k mX (bN,bB)) 0) (.ret (0,10)) (.br (A.c .lss width 0) (.ret (0,2)) (.br (A.c .gtr width 64) (.ret (0,2)) (.br (A.c .lss at1 0) (.ret (0,2)) (.br (A.c .gtr at1 bN) (.ret (0,2)) (.br (A.c .gtr width (A.b .sub .i64 bN at1)) (.ret (0,2)) (.more (.c0 ⟨at1,width,bN,bB⟩ 0 0))))))))
def Sf(A:aI):Vz→LT (Int×Int) Vz
 | .c0 p a1 a3=>.br (A.c .lss a3 p.a2) (.need (A.k qN ((p.a4,p.a5),(A.b .add .i64 p.a0 a3))) (.br (A.k ul ((p.a4,p.a5),(A.b .add .i64 p.a0 a3))) (.more (.c0 p (A.b .or .u64 (A.b .shl .u64 a1 1) 1) (A.b .add .i64 a3 1))) (.more (.c0 p (A.b .shl .u64 a1 1) (A.b .add .i64 a3 1))))) (.ret (a1,0))
theorem OY{l:List Bool}{a k:Nat}(h:a+k<l.length):BK l a (k+1)=2*BK l a k+(l.getD (a+k) false).toNat:=by
 rw[BK,BK,vM (by rw[List.length_drop];omega),sZ,getD_drop]
theorem ae8{k:Nat}(h:k≤64):2^k≤18446744073709551616:=Nat.le_trans (Nat.pow_le_pow_right (by decide) h) (by decide)
theorem Hl{x:Nat}(h:2*x<18446744073709551616):ah.b .shl .u64 (x:Int) 1=((2*x:Nat):Int):=by
 show IntKind.u64.wrap ((x:Int)*2^min (1:Int).toNat 64)=_
 rw[show(2:Int)^min (1:Int).toNat 64=2 from rfl,Tl (by omega) (by omega)];omega
theorem V3{x:Nat}(h:2*x<18446744073709551616):ah.b .or .u64 ((2*x:Nat):Int) 1=((2*x+1:Nat):Int):=by
 show IntKind.u64.wrap ((BitVec.ofInt 64 ((2*x:Nat):Int) ||| BitVec.ofInt 64 1).toNat:Int)=_
 rw[BitVec.ofInt_natCast,show BitVec.ofInt 64 1=BitVec.ofNat 64 1 from rfl,BitVec.toNat_or,BitVec.toNat_ofNat,BitVec.toNat_ofNat,show 1%2^64=1 from rfl,Nat.mod_eq_of_lt (by omega)]
 have:=Nat.shiftLeft_add_eq_or_of_lt (i:=1) (b:=1) (by decide) x
 rw[Nat.shiftLeft_eq,Nat.pow_one,Nat.mul_comm x 2] at this
 rw[←this,Tl (by omega) (by omega)]
theorem KY{n a w:Int}{b:List Int}(h:Ty.cN [(.struct [(.int .i64),(.slice (.int .u8))]),(.int .i64),(.int .i64)] ((n,b),a,w)):Ty.has (.struct [(.int .i64),(.slice (.int .u8))]) (n,b)∧(-9223372036854775808≤a∧a≤9223372036854775807)∧(-9223372036854775808≤w∧w≤9223372036854775807):=h
theorem ac7{n a w:Nat}{b:List Int}(hb:dy b)(hl:b.length≤100000)(hn:n≤8*b.length)(haw:a+w≤n)(hw:w≤64):∀(j k:Nat) (p:Sq),p.a0=(a:Int)→p.a2=(w:Int)→p.a5=b→w-k=j→k≤w→au (Sf ah) (.more (.c0 p ((BK (unpack n b) a k:Nat):Int) (k:Int))) (((BK (unpack n b) a w:Nat):Int),0):=by
 intro j
 induction j with
 | zero=>
   intro k p h1 h2 h3 hj hk
   have:k=w:=by omega
   subst this
   simp only[ak,Sf]
   exact(ai (by rw[h2,aC];simp)).2 (.ret _)
 | succ j ih=>
   intro k p h1 h2 h3 hj hk
   simp only[ak,Sf]
   have hat:ah.b .add .i64 p.a0 (k:Int)=((a+k:Nat):Int):=by rw[h1,eH (by omega)]
   have hf:=Ih (unpack n b) a k
   have hp:=ae8 (k:=k+1) (by omega)
   rw[Nat.pow_succ] at hp
   have hs:=OY (l:=unpack n b) (a:=a) (k:=k) (by rw[bG];omega)
   rw[lF,show decide (a+k<n)=true from by simp;omega,Bool.true_and] at hs
   refine(aj (by rw[h2,aC];simp;omega)).2 (af.2 ⟨by rw[hat,h3,aA];simp[qN];omega,?_⟩)
   have hc:ah.k ul ((p.a4,p.a5),ah.b .add .i64 p.a0 (k:Int))=fG b (a+k):=by
    rw[hat,h3,aA,zx hb (by omega) (by omega) (by omega),gS]
   have hm:=ih (k+1) p h1 h2 h3 (by omega) (by omega)
   cases hx:fG b (a+k)
   ·rw[hx] at hs
    refine(ai (hc.trans hx)).2 ?_
    rw[hs,show 2*BK (unpack n b) a k+false.toNat=2*BK (unpack n b) a k from rfl,←Hl (by omega),←bU (by omega)] at hm
    exact hm
   ·rw[hx] at hs
    refine(aj (hc.trans hx)).2 ?_
    rw[hs,show 2*BK (unpack n b) a k+true.toNat=2*BK (unpack n b) a k+1 from rfl,←V3 (by omega),←Hl (by omega),←bU (by omega)] at hm
    exact hm
theorem aje{n a w:Int}{b:List Int}(h:Ty.cN [(.struct [(.int .i64),(.slice (.int .u8))]),(.int .i64),(.int .i64)] ((n,b),a,w)):au (Sf ah) (t138 ah n b a w) (VS ((n,b),a,w)):=by
 obtain⟨h1,ha,hw⟩:=KY h
 have hb:=(oV h1).2.2
 have hl:=gX h1
 unfold t138
 rw[VS]
 refine af.2 ⟨rfl,?_⟩
 have hc:ah.c .neq (ah.k mX (n,b)) 0=!iW (n,b):=by
  rw[aA,ui hb hl];cases iW (n,b)<;>rfl
 rw[hc]
 cases hok:iW (n,b)
 ·exact(aj rfl).2 (.ret _)
 ·refine(ai rfl).2 ?_
  obtain⟨h2,h3,h4⟩:=(oL hb).1 hok
  have h5:=h4.1
  rw[Bool.not_true,cond_false]
  by_cases h6:w<0
  ·refine(aj (by rw[ar];simpa using h6)).2 ?_
   rw[show decide (w<0)=true from by simpa using h6]
   exact .ret _
  refine(ai (by rw[ar];simpa using h6)).2 ?_
  by_cases h7:64<w
  ·refine(aj (by rw[bg];simpa using h7)).2 ?_
   rw[show decide (64<w)=true from by simpa using h7]
   simp only[Bool.or_true,Bool.true_or]
   exact .ret _
  refine(ai (by rw[bg];simpa using h7)).2 ?_
  by_cases h8:a<0
  ·refine(aj (by rw[ar];simpa using h8)).2 ?_
   rw[show decide (a<0)=true from by simpa using h8]
   simp only[Bool.or_true,Bool.true_or]
   exact .ret _
  refine(ai (by rw[ar];simpa using h8)).2 ?_
  rw[show decide (w<0)=false from by simpa using h6,show decide (64<w)=false from by simpa using h7,show decide (a<0)=false from by simpa using h8]
  by_cases h9:n<a
  ·refine(aj (by rw[bg];simpa using h9)).2 ?_
   rw[show decide (n<a+w)=true from by simp;omega]
   exact .ret _
  refine(ai (by rw[bg];simpa using h9)).2 ?_
  rw[cu,iZ (by omega) (by omega)]
  by_cases h10:n<a+w
  ·refine(aj (by rw[bg];simp;omega)).2 ?_
   rw[show decide (n<a+w)=true from by simpa using h10]
   exact .ret _
  refine(ai (by rw[bg];simp;omega)).2 ?_
  rw[show decide (n<a+w)=false from by simpa using h10]
  obtain⟨k,rfl⟩:=Int.eq_ofNat_of_zero_le (show 0≤w by omega)
  obtain⟨i,rfl⟩:=Int.eq_ofNat_of_zero_le (show 0≤a by omega)
  exact ac7 (n:=n.toNat) hb (by omega) (by omega) (by omega) (by omega) k 0 _ rfl rfl rfl (by omega) (by omega)
def cm:((Int×List Int)×Int×Int)→(Int×Int):=VS
def afi:ax:=⟨[(.struct [yI,yB]),yI,yI], [(.int .u64),yI],(@tt ((Int×List Int)×Int×Int)),cm⟩
theorem Kg:Sd 284 afi:=aP ap bR true 65 [⟨284,7, [[1,3,8,39,40]]⟩] [] (fun A ((bN,bB),at1,width)=>t138 A bN bB at1 width) Sf abG (fc Tryz.func284 fz) (sc F_ (sc RN sz)) (fun A y=>match y with |.c0 p a1 a3=>⟨45,by kernel_rfl,by kernel_rfl⟩) fun((bN,bB),at1,width) hp h=>aje h
structure Ns where
 (a0 a1 a2 a4 a5:Int) (a6:List Int) (a7 a8:Int)
inductive La where
 | c0 (p:Ns) (a3:Int) (a9:List Int)
noncomputable def Yv:La→eD
 | .c0 p a3 a9=>⟨[⟨325,52,(en [(1,vi p.a0),(3,vi p.a1),(4,vi p.a2),(5,.ptr 0 0),(7,.ptr 1 0),(10,vi a3)]),[.inLoop (cw Tryz.f325 [1,1,1,0,0]),.inBlock 0],[],none⟩,⟨288,39,(en [(6,.ptr 2 0),(8,.ptr 3 0)]),[.ops (ow Tryz.f288 [1,1,1,0]) ((ow Tryz.f288 [1,1,1,0]).toList.drop 4),.code (cw Tryz.f288 [1,1,1,1])],[],none⟩],[.flat false [vi p.a4,.own 4],.flat false [vi p.a5,.sl yU p.a6],.flat false [vi p.a7,.dp true],.flat false [vi p.a8,.own 4],.arr false yU a9,.dead]⟩
abbrev xC(A:aI)(from1:Int)(to:Int):=(A.r (A.k eE (A.b .sub .i64 to from1)) (0:Int))
def aa7(A:aI)(bN:Int)(bB:List Int)(from1:Int)(to:Int):LT ((Int×List Int)×Int) La:=.need (A.k (@tt ((Int×List Int))) (bN,bB)) (.br (A.c .neq (A.k mX (bN,bB)) 0) (.ret ((0,([]:List Int)),10)) (.br (A.c .lss from1 0) (.ret ((0,([]:List Int)),2)) (.br (A.c .lss to from1) (.ret ((0,([]:List Int)),2)) (.br (A.c .gtr to bN) (.ret ((0,([]:List Int)),2)) (.need (A.k (@tt Int) (A.b .sub .i64 to from1)) (.need (A.and (A.c .eql (A.k eE (A.b .sub .i64 to from1)) (A.k eE (A.b .sub .i64 to from1))) (A.and (A.c .leq 0 (A.k eE (A.b .sub .i64 to from1))) (A.c .leq (A.k eE (A.b .sub .i64 to from1)) 140737488355328))) (.br (A.c .eql (A.b .rem .i64 from1 8) 0) (.br (A.c .eql to bN) (.need (A.and (A.c .leq 0 0) (A.and (A.c .leq 0 (A.l (xC A from1 to))) (A.c .leq (A.l (xC A from1 to)) (A.l (xC A from1 to))))) (.need (A.and (A.c .leq 0 (A.b .quo .i64 from1 8)) (A.and (A.c .leq (A.b .quo .i64 from1 8) (A.l bB)) (A.c .leq (A.l bB) (A.l bB)))) (.ret (((A.b .sub .i64 to from1),(A.spl (xC A from1 to) 0 (A.s (A.s bB (A.b .quo .i64 from1 8) (A.l bB)) 0 (A.mn (A.l (A.s bB (A.b .quo .i64 from1 8) (A.l bB))) (A.b .sub .i64 (A.l (xC A from1 to)) 0))))),0)))) (.more (.c0 ⟨0,from1,to,(A.b .sub .i64 to from1),bN,bB,0,(A.b .sub .i64 to from1)⟩ from1 (xC A from1 to)))) (.more (.c0 ⟨0,from1,to,(A.b .sub .i64 to from1),bN,bB,0,(A.b .sub .i64 to from1)⟩ from1 (xC A from1 to))))))))))
def Jn(A:aI):La→LT ((Int×List Int)×Int) La
 | .c0 p a3 a9=>.br (A.c .lss a3 p.a2) (.need (A.k qN ((p.a5,p.a6),a3)) (.br (A.k ul ((p.a5,p.a6),a3)) (.need (A.and (A.c .leq 0 (A.b .quo .i64 (A.b .sub .i64 (A.b .add .i64 p.a0 a3) p.a1) 8)) (A.c .lss (A.b .quo .i64 (A.b .sub .i64 (A.b .add .i64 p.a0 a3) p.a1) 8) (A.l a9))) (.need (A.k pL (A.b .sub .i64 (A.b .add .i64 p.a0 a3) p.a1)) (.need (A.and (A.c .leq 0 (A.b .quo .i64 (A.b .sub .i64 (A.b .add .i64 p.a0 a3) p.a1) 8)) (A.c .lss (A.b .quo .i64 (A.b .sub .i64 (A.b .add .i64 p.a0 a3) p.a1) 8) (A.l a9))) (.more (.c0 p (A.b .add .i64 a3 1) (A.set a9 (A.b .quo .i64 (A.b .sub .i64 (A.b .add .i64 p.a0 a3) p.a1) 8) (A.b .or .u8 (A.n yU a9 (A.b .quo .i64 (A.b .sub .i64 (A.b .add .i64 p.a0 a3) p.a1) 8):Int) (A.k xf (A.b .sub .i64 (A.b .add .i64 p.a0 a3) p.a1))))))))) (.more (.c0 p (A.b .add .i64 a3 1) a9)))) (.ret ((p.a8,a9),0))
theorem UX{n a c:Nat}{b:List Int}(hb:dy b)(hl:b.length≤100000)(hn:n≤8*b.length)(hac:a≤c)(hc:c≤n):∀(j i:Nat) (p:Ns) (B:List Int),p.a0=0→p.a1=(a:Int)→p.a2=(c:Int)→p.a6=b→p.a8=((c-a:Nat):Int)→c-i=j→a≤i→i≤c→Holds B ((((unpack n b).take c).drop a).take (i-a)) ((c-a+7)/8)→au (Jn ah) (.more (.c0 p (i:Int) B)) (Ho (((unpack n b).take c).drop a),0):=by
 have hL:(((unpack n b).take c).drop a).length=c-a:=by rw[List.length_drop,List.length_take,bG];omega
 intro j
 induction j with
 | zero=>
   intro i p B h0 h1 h2 h3 h4 hj hi hi2 hB
   have:i=c:=by omega
   subst this
   simp only[ak,Jn]
   refine(ai (by rw[h2,aC];simp)).2 ?_
   rw[List.take_of_length_le (by rw[hL];exact Nat.le_refl _)] at hB
   rw[h4,hB.done (by rw[hL]),show Ho (((unpack n b).take i).drop a)=(((i-a:Nat):Int),pack (((unpack n b).take i).drop a)) from by rw[Ho,hL]]
   exact .ret _
 | succ j ih=>
   intro i p B h0 h1 h2 h3 h4 hj hi hi2 hB
   simp only[ak,Jn]
   have hat:ah.b .sub .i64 (ah.b .add .i64 p.a0 (i:Int)) p.a1=((i-a:Nat):Int):=by
    rw[h0,h1,show ah.b .add .i64 (0:Int) (i:Int)=((0+i:Nat):Int) from eH (i:=0) (by omega),pK (by omega) (by omega),Nat.zero_add]
   have hts:=vM (l:=((unpack n b).take c).drop a) (i:=i-a) (by rw[hL];omega)
   rw[getD_drop,getD_take,lF,show a+(i-a)=i from by omega,show decide (i<c)=true from by simp;omega,show decide (i<n)=true from by simp;omega,Bool.true_and,Bool.true_and] at hts
   have hlen:((((unpack n b).take c).drop a).take (i-a)).length=i-a:=by rw[List.length_take,hL];omega
   refine(aj (by rw[h2,aC];simp;omega)).2 (af.2 ⟨by rw[h3,aA];simp[qN];omega,?_⟩)
   have hc:ah.k ul ((p.a5,p.a6),(i:Int))=fG b i:=by
    rw[h3,aA,zx hb (by omega) (by omega) (by omega),gS]
   rw[hat]
   cases hx:fG b i
   ·rw[hx] at hts
    refine(ai (hc.trans hx)).2 ?_
    refine gI (congrArg LT.more (congr (congrArg (La.c0 p) (bU (by omega))) rfl)) (ih (i+1) p B h0 h1 h2 h3 h4 (by omega) (by omega) (by omega) ?_)
    rw[show i+1-a=i-a+1 from by omega,hts]
    exact hB.skip
   ·rw[hx] at hts
    refine(aj (hc.trans hx)).2 (af.2 ⟨oW hB.1 (by omega) (by omega),af.2 ⟨vO,af.2 ⟨oW hB.1 (by omega) (by omega),?_⟩⟩⟩)
    refine gI (congrArg LT.more (congr (congrArg (La.c0 p) (bU (by omega))) rfl)) (ih (i+1) p _ h0 h1 h2 h3 h4 (by omega) (by omega) (by omega) ?_)
    rw[show i+1-a=i-a+1 from by omega,hts]
    exact AZ hB hlen (by omega) (by omega)
theorem L8(b:List Int)(i j:Nat):fG (b.drop i) j=fG b (8*i+j):=by
 rw[fG,fG,nE,nE,List.getElem?_drop,show(8*i+j)/8=i+j/8 from by omega,show(8*i+j)%8=j%8 from by omega]
theorem Mq{n i:Nat}{b:List Int}(h:okB n b)(hi:8*i≤n):b.drop i=pack ((unpack n b).drop (8*i)):=by
 have h1:=h.1
 apply Jw
 ·rw[List.length_drop,List.length_drop,bG];omega
 ·exact fun x hx=>h.2.1 x (List.mem_of_mem_drop hx)
 ·intro j hj
  rw[List.length_drop] at hj
  rw[L8,getD_drop,lF]
  by_cases h2:8*i+j<n
  ·rw[show decide (8*i+j<n)=true from by simpa using h2,Bool.true_and]
  ·rw[show decide (8*i+j<n)=false from by simpa using h2,Bool.false_and]
   exact h.2.2 _ (by omega) (by omega)
theorem Js{b:List Int}{i:Nat}:ah.s b (i:Int) (ah.l b)=b.drop i:=by
 show(b.take (b.length:Int).toNat).drop (i:Int).toNat=_
 rw[gS,gS,List.take_length]
theorem aa1{n a c:Int}{b:List Int}(h:Ty.cN [(.struct [(.int .i64),(.slice (.int .u8))]),(.int .i64),(.int .i64)] ((n,b),a,c)):au (Jn ah) (aa7 ah n b a c) (Ix ((n,b),a,c)):=by
 obtain⟨h1,ha,hw⟩:=KY h
 have hb:=(oV h1).2.2
 have hl:=gX h1
 unfold aa7 xC
 rw[Ix]
 refine af.2 ⟨rfl,?_⟩
 have hc:ah.c .neq (ah.k mX (n,b)) 0=!iW (n,b):=by
  rw[aA,ui hb hl];cases iW (n,b)<;>rfl
 rw[hc]
 cases hok:iW (n,b)
 ·exact(aj rfl).2 (.ret _)
 ·refine(ai rfl).2 ?_
  obtain⟨h2,h3,h4⟩:=(oL hb).1 hok
  have h5:=h4.1
  rw[Bool.not_true,cond_false]
  by_cases h6:a<0
  ·refine(aj (by rw[ar];simpa using h6)).2 ?_
   rw[show decide (a<0)=true from by simpa using h6]
   exact .ret _
  refine(ai (by rw[ar];simpa using h6)).2 ?_
  by_cases h7:c<a
  ·refine(aj (by rw[ar];simpa using h7)).2 ?_
   rw[show decide (c<a)=true from by simpa using h7]
   simp only[Bool.or_true,Bool.true_or]
   exact .ret _
  refine(ai (by rw[ar];simpa using h7)).2 ?_
  by_cases h8:n<c
  ·refine(aj (by rw[bg];simpa using h8)).2 ?_
   rw[show decide (n<c)=true from by simpa using h8]
   simp only[Bool.or_true,Bool.true_or]
   exact .ret _
  refine(ai (by rw[bg];simpa using h8)).2 ?_
  rw[show decide (a<0)=false from by simpa using h6,show decide (c<a)=false from by simpa using h7,show decide (n<c)=false from by simpa using h8]
  obtain⟨k,rfl⟩:=Int.eq_ofNat_of_zero_le (show 0≤c by omega)
  obtain⟨i,rfl⟩:=Int.eq_ofNat_of_zero_le (show 0≤a by omega)
  obtain⟨m,rfl⟩:=Int.eq_ofNat_of_zero_le h2
  rw[gS] at h4 h5
  have hsub:ah.b .sub .i64 (k:Int) (i:Int)=((k-i:Nat):Int):=pK (by omega) (by omega)
  have hneed:ah.k eE ((k-i:Nat):Int)=(((k-i+7)/8:Nat):Int):=by rw[aA,oM (by omega) (by omega),gS]
  show au (Jn ah) _ (Ho (((unpack m b).take k).drop i),0)
  rw[hsub]
  have hrep:ah.r (ah.k eE ((k-i:Nat):Int)) (0:Int)=List.replicate ((k-i+7)/8) 0:=by rw[hneed,nV,gS]
  have hmore:au (Jn ah) (.more (.c0 ⟨0,(i:Int),(k:Int),((k-i:Nat):Int),(m:Int),b,0,((k-i:Nat):Int)⟩ (i:Int) (ah.r (ah.k eE ((k-i:Nat):Int)) (0:Int)))) (Ho (((unpack m b).take k).drop i),0):=by
   refine UX hb (by omega) (by omega) (by omega) (by omega) (k-i) i _ _ rfl rfl rfl rfl rfl (by omega) (by omega) (by omega) ?_
   rw[Nat.sub_self,List.take_zero,hrep]
   exact Holds.blank _
  refine af.2 ⟨rfl,af.2 ⟨by rw[hneed,oS,xk rfl,ao,aJ,aJ];simp;omega,?_⟩⟩
  by_cases h9:i%8=0
  ·refine(aj (xk (by rw[yr,h9];rfl))).2 ?_
   by_cases h10:k=m
   ·subst h10
    refine(aj (xk rfl)).2 (af.2 ⟨?_,af.2 ⟨?_,?_⟩⟩)
    ·rw[hrep]
     have:ah.l (List.replicate ((k-i+7)/8) (0:Int))=(((k-i+7)/8:Nat):Int):=by show((List.replicate ((k-i+7)/8) (0:Int)).length:Int)=_;rw[pQ]
     rw[this,oS,n_,aJ,aJ];simp[ao]
    ·have:ah.l b=((b.length:Nat):Int):=rfl
     rw[o7 (by omega),this,oS,n_,n_,aJ,aJ];simp;omega
    ·have hd:=Mq h4 (i:=i/8) (by omega)
     rw[show 8*(i/8)=i from by omega] at hd
     have hL:((unpack k b).drop i).length=k-i:=by rw[List.length_drop,bG]
     rw[hrep,o7 (by omega),Js]
     have e1:ah.mn (ah.l (b.drop (i/8))) (ah.b .sub .i64 (ah.l (List.replicate ((k-i+7)/8) (0:Int))) 0)=((b.drop (i/8)).length:Int):=by
      show ah.mn ((b.drop (i/8)).length:Int) (ah.b .sub .i64 ((List.replicate ((k-i+7)/8) (0:Int)).length:Int) 0)=_
      rw[pQ,cu,iZ (by omega) (by omega),ov,if_neg (by rw[List.length_drop];omega)]
     rw[e1,fP,jr,gS,List.take_length]
     have e2:(List.replicate ((k-i+7)/8) (0:Int)).take (0:Int).toNat++(b.drop (i/8)).drop (0:Int).toNat++(List.replicate ((k-i+7)/8) (0:Int)).drop ((0:Int).toNat+((b.drop (i/8)).drop (0:Int).toNat).length)=b.drop (i/8):=by
      show[]++b.drop (i/8)++(List.replicate ((k-i+7)/8) (0:Int)).drop (0+(b.drop (i/8)).length)=_
      rw[List.drop_replicate,List.length_drop,show(k-i+7)/8-(0+(b.length-i/8))=0 from by omega,List.replicate_zero,List.append_nil,List.nil_append]
     rw[e2,hd,List.take_of_length_le (by rw[bG];exact Nat.le_refl _),show Ho ((unpack k b).drop i)=(((k-i:Nat):Int),pack ((unpack k b).drop i)) from by rw[Ho,hL]]
     exact .ret _
   ·exact(ai (Jv (by omega))).2 hmore
  ·exact(ai (Jv (by rw[yr];omega))).2 hmore
def xB:((Int×List Int)×Int×Int)→((Int×List Int)×Int):=Ix
def aci:ax:=⟨[(.struct [yI,yB]),yI,yI], [(.struct [yI,yB]),yI],(@tt ((Int×List Int)×Int×Int)),xB⟩
theorem Wk:Sd 288 aci:=aP ap bR true 118 [⟨325,4, [[1,3,4,5,7,10], [6,8]]⟩] [] (fun A ((bN,bB),from1,to)=>aa7 A bN bB from1 to) Jn Yv (fc Tryz.func288 (fc Tryz.func322 (fc Tryz.func324 (fc Tryz.func325 fz)))) (sc F_ (sc KH (sc RN (sc Jy sz)))) (fun A y=>match y with |.c0 p a3 a9=>⟨57,by kernel_rfl,by kernel_rfl⟩) fun((bN,bB),from1,to) hp h=>aa1 h
theorem vf{l:List (Int×List Int)}(h:Ty.cN [(.slice (.struct [(.int .i64),(.slice (.int .u8))]))] l):l.length≤140737488355328∧∀x∈l,dy x.2∧x.2.length≤140737488355328:=by
 have h1:l.length≤dD∧∀x∈l,Ty.has (.struct [(.int .i64),(.slice (.int .u8))]) x:=h
 exact⟨h1.1,fun x hx=>⟨(oV (n:=x.1) (b:=x.2) (h1.2 x hx)).2.2,(oV (n:=x.1) (b:=x.2) (h1.2 x hx)).2.1⟩⟩
theorem getD_in{α:Type}{l:List α}{i:Nat}(h:i<l.length)(d:α):l.getD (i:Int).toNat d=l[i]:=by
 rw[gS,nE,uX h];rfl
theorem Bq{l:List (Int×List Int)}{i:Nat}(h:i<l.length):(ah.n (.struct [(.int .i64),(.slice (.int .u8))]) l (i:Int):Int×List Int)=l[i]:=by
 exact getD_in h _
theorem aO{α:Type}{l:List α}{i:Nat}(h:i<l.length):ah.and (ah.c .leq 0 (i:Int)) (ah.c .lss (i:Int) (ah.l l))=true:=by
 have:ah.l l=(l.length:Int):=rfl
 rw[this,oS,aC,aJ];simpa using h
theorem abb{x:Int×List Int}(h:iW x=true):(ju x).length≤4096:=by
 obtain⟨n,b⟩:=x
 rw[tP]
 simp only[iW,cd,jV] at h
 show n.toNat≤4096
 omega
theorem P5{l:List Bool}(h:4096<l.length):Wp l=(zB,3):=by
 rw[Wp,show decide (4096<l.length)=true from by simpa using h];rfl
theorem rm{l:List (Int×List Int)}{i:Nat}(h:i<l.length):(l.take (i+1)).flatMap ju=(l.take i).flatMap ju++ju l[i]:=by
 rw[List.take_succ_eq_append_getElem h,List.flatMap_append]
 simp
theorem Lp{l:List Bool}(h:l.length≤4096):Wp l=(Ho l,0):=by
 rw[Wp,show decide (4096<l.length)=false from by simpa using h];rfl
def MS(A:aI)(r:Int):LT Int Empty:=.br (A.c .eql (A.b .shr .u32 r 23) 1) (.ret (A.b .xor .u32 (A.b .and .u32 (A.b .shl .u32 r 1) 16777215) 6122955)) (.ret (A.b .and .u32 (A.b .shl .u32 r 1) 16777215))
def CS:Int→Int:=fun r=>(MS ah r).val (Ty.bi [(.int .u32)])
def aeV:ax:=⟨[(.int .u32)], [(.int .u32)],(@tt Int),CS⟩
theorem Wy:Sd 351 aeV:=aH ap bR true 35 [] (fun A r=>MS A r) (fc Tryz.func351 fz) sz (fun(r:Int) hp h=>by
 show(MS ah r).pre=true
 simp[MS,LT.pre])
theorem S7{a:Int}(h1:0≤a)(h2:a≤4294967295):IntKind.u32.wrap a=a:=IntWalk.u32_in a ⟨h1,h2⟩
theorem JY{a b:Nat}(ha:a<4294967296)(hb:b<4294967296):ah.b .xor .u32 (a:Int) (b:Int)=((a ^^^ b:Nat):Int):=by
 show IntKind.u32.wrap ((BitVec.ofInt 32 (a:Int) ^^^ BitVec.ofInt 32 (b:Int)).toNat:Int)=_
 rw[BitVec.ofInt_natCast,BitVec.ofInt_natCast,BitVec.toNat_xor,BitVec.toNat_ofNat,BitVec.toNat_ofNat,Nat.mod_eq_of_lt ha,Nat.mod_eq_of_lt hb]
 have:a ^^^ b<2^32:=Nat.xor_lt_two_pow ha hb
 rw[S7 (by omega) (by omega)]
theorem WI{a:Nat}(ha:a<4294967296):ah.b .and .u32 (a:Int) 16777215=((a%16777216:Nat):Int):=by
 show IntKind.u32.wrap ((BitVec.ofInt 32 (a:Int) &&& BitVec.ofInt 32 ((16777215:Nat):Int)).toNat:Int)=_
 rw[BitVec.ofInt_natCast,BitVec.ofInt_natCast,BitVec.toNat_and,BitVec.toNat_ofNat,BitVec.toNat_ofNat,Nat.mod_eq_of_lt ha,show 16777215%2^32=2^24-1 from rfl,Nat.and_two_pow_sub_one_eq_mod,S7 (by omega) (by omega)]
theorem Nu{a k:Nat}(hk:k≤32)(h:a*2^k<4294967296):ah.b .shl .u32 (a:Int) (k:Int)=((a*2^k:Nat):Int):=by
 show IntKind.u32.wrap ((a:Int)*2^min (k:Int).toNat 32)=_
 rw[gS,Nat.min_eq_left hk,show(a:Int)*2^k=((a*2^k:Nat):Int) from by simp,S7 (by omega) (by omega)]
theorem MN{r:Nat}(hr:r<16777216):CS (r:Int)=((step1 r false:Nat):Int):=by
 simp only[CS,MS,LT.val]
 have h1:ah.b .shr .u32 (r:Int) 23=((r/2^23:Nat):Int):=Wc (n:=23) (by omega) (by decide)
 have h2:ah.b .and .u32 (ah.b .shl .u32 (r:Int) 1) 16777215=((2*r%16777216:Nat):Int):=by
  have h3:ah.b .shl .u32 (r:Int) 1=((r*2^1:Nat):Int):=Nu (k:=1) (by decide) (by omega)
  rw[h3,WI (by omega),Nat.pow_one,Nat.mul_comm]
 rw[h1,h2,step1,Bool.bne_false]
 have h4:ah.c .eql ((r/2^23:Nat):Int) 1=decide (8388608≤r):=by
  rw[aD,Bool.eq_iff_iff,jV,beq_iff_eq]
  omega
 rw[h4]
 cases decide (8388608≤r)
 ·rfl
 ·have:ah.b .xor .u32 ((2*r%16777216:Nat):Int) 6122955=((2*r%16777216 ^^^ 6122955:Nat):Int):=JY (b:=6122955) (by omega) (by decide)
  rw[cond_true,cond_true,this]
structure Ys where
 (a0 a1 a2 a3 a4 a5 a6 a7 a8 a9 cB da a12 kE jv lJ a16 a17 lK mh a20 a21 a22 a23 a24 a25 a26 a27 a28 a29 a30 a31 a32:Int)
structure OJ where
 (b0 b2 b4 b5 b6 b7 b8 b9 b10 b11 b12 b13 iq fe bI gT nc j6 mO zV Hq b23 b24 b25 b26 b27 b28 b29 b30 b31 b32 b33 b34 b35:Int)
inductive VE where
 | c0 (p:Ys)
 | c1 (p:OJ) (b1:Int) (b3:Int)
noncomputable def YQ:VE→eD
 | .c0 p=>⟨[⟨344,20,(en [(0,.ptr 0 0),(1,.ptr 1 0),(4,vi p.a0)]),[.inLoop (cw Tryz.f344 [1,1,0,1,0,0]),.inBlock 0,.code (cw Tryz.f344 [1,1,1])],[],none⟩],[.flat false [.int .u32 false p.a1,.int .u32 false p.a2,.int .u32 false p.a3,.int .u32 false p.a4,.int .u32 false p.a5,.int .u32 false p.a6,.int .u32 false p.a7,.int .u32 false p.a8,.int .u32 false p.a9,.int .u32 false p.cB,.int .u32 false p.da,.int .u32 false p.a12,.int .u32 false p.kE,.int .u32 false p.jv,.int .u32 false p.lJ,.int .u32 false p.a16],.flat false [.int .u32 false p.a17,.int .u32 false p.lK,.int .u32 false p.mh,.int .u32 false p.a20,.int .u32 false p.a21,.int .u32 false p.a22,.int .u32 false p.a23,.int .u32 false p.a24,.int .u32 false p.a25,.int .u32 false p.a26,.int .u32 false p.a27,.int .u32 false p.a28,.int .u32 false p.a29,.int .u32 false p.a30,.int .u32 false p.a31,.int .u32 false p.a32],.dead]⟩
 | .c1 p b1 b3=>⟨[⟨344,20,(en [(0,.ptr 0 0),(1,.ptr 1 0),(2,vi p.b0),(3,.int .u32 false b1),(4,vi p.b2),(10,vi b3)]),[.inLoop (cw Tryz.f344 [1,1,0,1,0,0,1,1,0,0,1,1,0,1,0,0]),.inBlock 2,.code (cw Tryz.f344 [1,1,0,1,0,0,1,1,0,0,1,1,1]),.inBlock 1,.code (cw Tryz.f344 [1,1,0,1,0,0,1,1,1]),.inLoop (cw Tryz.f344 [1,1,0,1,0,0]),.inBlock 0,.code (cw Tryz.f344 [1,1,1])],[],none⟩],[.flat false [.int .u32 false p.b4,.int .u32 false p.b5,.int .u32 false p.b6,.int .u32 false p.b7,.int .u32 false p.b8,.int .u32 false p.b9,.int .u32 false p.b10,.int .u32 false p.b11,.int .u32 false p.b12,.int .u32 false p.b13,.int .u32 false p.iq,.int .u32 false p.fe,.int .u32 false p.bI,.int .u32 false p.gT,.int .u32 false p.nc,.int .u32 false p.j6],.flat false [.int .u32 false p.mO,.int .u32 false p.zV,.int .u32 false p.Hq,.int .u32 false p.b23,.int .u32 false p.b24,.int .u32 false p.b25,.int .u32 false p.b26,.int .u32 false p.b27,.int .u32 false p.b28,.int .u32 false p.b29,.int .u32 false p.b30,.int .u32 false p.b31,.int .u32 false p.b32,.int .u32 false p.b33,.int .u32 false p.b34,.int .u32 false p.b35],.dead]⟩
def acL(A:aI):LT (List Int) VE:=.more (.c0 ⟨0,0,0,0,0,0,0,0,0,0,0,0,0,0,0,0,0,0,0,0,0,0,0,0,0,0,0,0,0,0,0,0,0⟩)
abbrev fZ(A:aI)(p:OJ)(b1:Int):=(A.set [p.mO,p.zV,p.Hq,p.b23,p.b24,p.b25,p.b26,p.b27,p.b28,p.b29,p.b30,p.b31,p.b32,p.b33,p.b34,p.b35] p.b0 b1)
def agr(A:aI):VE→LT (List Int) VE
 | .c0 p=>.br (A.c .lss p.a0 16) (.more (.c1 ⟨p.a0,p.a0,p.a1,p.a2,p.a3,p.a4,p.a5,p.a6,p.a7,p.a8,p.a9,p.cB,p.da,p.a12,p.kE,p.jv,p.lJ,p.a16,p.a17,p.lK,p.mh,p.a20,p.a21,p.a22,p.a23,p.a24,p.a25,p.a26,p.a27,p.a28,p.a29,p.a30,p.a31,p.a32⟩ (A.b .shl .u32 (A.v .u32 p.a0) 20) 0)) (.ret [p.a17,p.lK,p.mh,p.a20,p.a21,p.a22,p.a23,p.a24,p.a25,p.a26,p.a27,p.a28,p.a29,p.a30,p.a31,p.a32])
 | .c1 p b1 b3=>.br (A.c .lss b3 4) (.need (A.k (@tt Int) b1) (.more (.c1 p (A.k CS b1) (A.b .add .i64 b3 1)))) (.need (A.and (A.c .leq 0 p.b0) (A.c .lss p.b0 16)) (.more (.c0 ⟨(A.b .add .i64 p.b2 1),p.b4,p.b5,p.b6,p.b7,p.b8,p.b9,p.b10,p.b11,p.b12,p.b13,p.iq,p.fe,p.bI,p.gT,p.nc,p.j6,(A.n (.int .u32) (fZ A p b1) 0:Int),(A.n (.int .u32) (fZ A p b1) 1:Int),(A.n (.int .u32) (fZ A p b1) 2:Int),(A.n (.int .u32) (fZ A p b1) 3:Int),(A.n (.int .u32) (fZ A p b1) 4:Int),(A.n (.int .u32) (fZ A p b1) 5:Int),(A.n (.int .u32) (fZ A p b1) 6:Int),(A.n (.int .u32) (fZ A p b1) 7:Int),(A.n (.int .u32) (fZ A p b1) 8:Int),(A.n (.int .u32) (fZ A p b1) 9:Int),(A.n (.int .u32) (fZ A p b1) 10:Int),(A.n (.int .u32) (fZ A p b1) 11:Int),(A.n (.int .u32) (fZ A p b1) 12:Int),(A.n (.int .u32) (fZ A p b1) 13:Int),(A.n (.int .u32) (fZ A p b1) 14:Int),(A.n (.int .u32) (fZ A p b1) 15:Int)⟩)))
def goT{R Y:Type}(step:Y→LT R Y):Nat→LT R Y→Option R
 | 0,_=>none
 | _+1,.ret r=>some r
 | n+1,.more y=>goT step n (step y)
 | n+1,.br b t e=>bif b then goT step n t else goT step n e
 | n+1,.need b t=>bif b then goT step n t else none
 | _+1,_=>none
theorem RB{R Y:Type}{step:Y→LT R Y}:∀{n:Nat} {t:LT R Y} {r:R},goT step n t=some r→au step t r:=by
 intro n
 induction n with
 | zero=>intro t r h;cases h
 | succ n ih=>
   intro t r h
   cases t with
   | ret x=>cases h;exact .ret _
   | more y=>exact .more (ih h)
   | br b t e=>
     rw[goT] at h
     cases b
     ·exact(ai rfl).2 (ih h)
     ·exact(aj rfl).2 (ih h)
   | need b t=>
     rw[goT] at h
     cases b
     ·cases h
     ·exact af.2 ⟨rfl,ih h⟩
   | eqs p t=>cases h
   | and a b=>cases h
   | bad m s=>cases h
def agX:List Int:=[0,6122955,12245910,15185501,2677479,7714604,9568625,13593786,5354958,841733,15429208,11928467,7958313,2360034,12825791,10410356]
theorem QG:∀i:Fin 16,agX.getD i.val 0=((Hf.getD i.val 0:Nat):Int):=by decide +kernel
theorem Qf:∀i:Fin 16,Hf.getD i.val 0<16777216:=by decide +kernel
theorem ZU:au (agr ah) (acL ah) agX:=RB (n:=400) (by kernel_rfl)
def lH:Unit→(List Int):=fun _=>[0,6122955,12245910,15185501,2677479,7714604,9568625,13593786,5354958,841733,15429208,11928467,7958313,2360034,12825791,10410356]
def acX:ax:=⟨[], [(.arr 16 (.int .u32))],(@tt Unit),lH⟩
theorem agk:Sd 344 acX:=aP ap bR true 21 [⟨344,3, [[0,1,4]]⟩,⟨344,7, [[0,1,2,3,4,10]]⟩] [] (fun A _=>acL A) agr YQ (fc Tryz.func344 fz) (sc Wy sz) (fun A y=>match y with |.c0 p=>⟨34,by kernel_rfl,by kernel_rfl⟩|.c1 p b1 b3=>⟨25,by kernel_rfl,by kernel_rfl⟩) fun _ hp h=>ZU
structure AL where
 (a0:Int) (a1:List (Int×List Int)) (a2 a3 a4 a5 a6 a7 a8 a9 cB da a12 kE jv lJ a16 a17 lK mh:Int)
structure Je where
 (b2:List (Int×List Int)) (b3 b4 b5 b6 b7 b8 b9 b10 b11 b12 b13 iq fe bI gT nc j6 mO zV:Int) (Hq:List Int)
structure Iz where
 (c2:List (Int×List Int)) (c3 c4 c5:Int) (c6:List Int) (c7 c8 c9 c10 c11 c12 c13 c14 yG c16 MI MJ c19 c20 c21 c22:Int)
inductive MC where
 | c0 (p:AL)
 | c1 (p:Je) (b0:Int) (b1:Int)
 | c2 (p:Iz) (c0:Int) (c1:Int)
noncomputable def Y0:MC→eD
 | .c0 p=>⟨[⟨323,26,(en [(4,.ptr 0 0),(5,.int .u32 false p.a0),(10,.sl (.struct [yI,yB]) p.a1),(11,vi p.a2),(12,vi p.a3)]),[.inLoop (cw Tryz.f323 [1,1,1,0,1,0,0]),.inBlock 0,.code (cw Tryz.f323 [1,1,1,1])],[],none⟩],[.flat false [.int .u32 false p.a4,.int .u32 false p.a5,.int .u32 false p.a6,.int .u32 false p.a7,.int .u32 false p.a8,.int .u32 false p.a9,.int .u32 false p.cB,.int .u32 false p.da,.int .u32 false p.a12,.int .u32 false p.kE,.int .u32 false p.jv,.int .u32 false p.lJ,.int .u32 false p.a16,.int .u32 false p.a17,.int .u32 false p.lK,.int .u32 false p.mh],.dead]⟩
 | .c1 p b0 b1=>⟨[⟨345,57,(en [(0,.int .u32 false b0),(2,.ptr 0 0),(4,.ptr 1 0),(7,vi b1)]),[.inLoop (cw Tryz.f345 [1,1,0,0,0]),.inBlock 0,.code (cw Tryz.f345 [1,1,1])],[],none⟩,⟨323,26,(en [(4,.ptr 0 0),(10,.sl (.struct [yI,yB]) p.b2),(11,vi p.b3),(12,vi p.b4)]),[.ops (ow Tryz.f323 [1,1,1,0,1,0,0,1,1,0,0,1,1]) ((ow Tryz.f323 [1,1,1,0,1,0,0,1,1,0,0,1,1]).toList.drop 2),.inBlock 1,.code (cw Tryz.f323 [1,1,1,0,1,0,0,1,1,1]),.inLoop (cw Tryz.f323 [1,1,1,0,1,0,0]),.inBlock 0,.code (cw Tryz.f323 [1,1,1,1])],[],none⟩],[.flat false [.int .u32 false p.b5,.int .u32 false p.b6,.int .u32 false p.b7,.int .u32 false p.b8,.int .u32 false p.b9,.int .u32 false p.b10,.int .u32 false p.b11,.int .u32 false p.b12,.int .u32 false p.b13,.int .u32 false p.iq,.int .u32 false p.fe,.int .u32 false p.bI,.int .u32 false p.gT,.int .u32 false p.nc,.int .u32 false p.j6,.int .u32 false p.mO],.flat false [vi p.zV,.sl yU p.Hq],.dead]⟩
 | .c2 p c0 c1=>⟨[⟨345,57,(en [(0,.int .u32 false c0),(4,.ptr 0 0),(7,vi c1)]),[.inLoop (cw Tryz.f345 [1,1,1,0,0,0]),.inBlock 2,.code (cw Tryz.f345 [1,1,1,1])],[],none⟩,⟨323,26,(en [(4,.ptr 1 0),(10,.sl (.struct [yI,yB]) p.c2),(11,vi p.c3),(12,vi p.c4)]),[.ops (ow Tryz.f323 [1,1,1,0,1,0,0,1,1,0,0,1,1]) ((ow Tryz.f323 [1,1,1,0,1,0,0,1,1,0,0,1,1]).toList.drop 2),.inBlock 1,.code (cw Tryz.f323 [1,1,1,0,1,0,0,1,1,1]),.inLoop (cw Tryz.f323 [1,1,1,0,1,0,0]),.inBlock 0,.code (cw Tryz.f323 [1,1,1,1])],[],none⟩],[.flat false [vi p.c5,.sl yU p.c6],.flat false [.int .u32 false p.c7,.int .u32 false p.c8,.int .u32 false p.c9,.int .u32 false p.c10,.int .u32 false p.c11,.int .u32 false p.c12,.int .u32 false p.c13,.int .u32 false p.c14,.int .u32 false p.yG,.int .u32 false p.c16,.int .u32 false p.MI,.int .u32 false p.MJ,.int .u32 false p.c19,.int .u32 false p.c20,.int .u32 false p.c21,.int .u32 false p.c22],.dead]⟩
def ZG(A:aI)(l:List (Int×List Int)):LT (Int×Int) MC:=.need (A.k (@tt Unit) ()) (.more (.c0 ⟨0,l,(A.l l),0,(A.n (.int .u32) (A.k lH ()) 0:Int),(A.n (.int .u32) (A.k lH ()) 1:Int),(A.n (.int .u32) (A.k lH ()) 2:Int),(A.n (.int .u32) (A.k lH ()) 3:Int),(A.n (.int .u32) (A.k lH ()) 4:Int),(A.n (.int .u32) (A.k lH ()) 5:Int),(A.n (.int .u32) (A.k lH ()) 6:Int),(A.n (.int .u32) (A.k lH ()) 7:Int),(A.n (.int .u32) (A.k lH ()) 8:Int),(A.n (.int .u32) (A.k lH ()) 9:Int),(A.n (.int .u32) (A.k lH ()) 10:Int),(A.n (.int .u32) (A.k lH ()) 11:Int),(A.n (.int .u32) (A.k lH ()) 12:Int),(A.n (.int .u32) (A.k lH ()) 13:Int),(A.n (.int .u32) (A.k lH ()) 14:Int),(A.n (.int .u32) (A.k lH ()) 15:Int)⟩))
def wH(A:aI):MC→LT (Int×Int) MC
 | .c0 p=>.br (A.c .lss p.a3 p.a2) (.need (A.and (A.c .leq 0 p.a3) (A.c .lss p.a3 (A.l p.a1))) (.need (A.k (@tt ((Int×List Int))) (A.n (.struct [yI,yB]) p.a1 p.a3:Int×List Int)) (.br (A.c .neq (A.k mX (A.n (.struct [yI,yB]) p.a1 p.a3:Int×List Int)) 0) (.ret (0,(A.k mX (A.n (.struct [yI,yB]) p.a1 p.a3:Int×List Int)))) (.more (.c1 ⟨p.a1,p.a2,p.a3,p.a4,p.a5,p.a6,p.a7,p.a8,p.a9,p.cB,p.da,p.a12,p.kE,p.jv,p.lJ,p.a16,p.a17,p.lK,p.mh,(A.n (.struct [yI,yB]) p.a1 p.a3:Int×List Int).1,(A.n (.struct [yI,yB]) p.a1 p.a3:Int×List Int).2⟩ p.a0 0))))) (.ret (p.a0,0))
 | .c1 p b0 b1=>.br (A.c .leq (A.b .add .i64 b1 4) p.zV) (.need (A.k (@tt ((Int×List Int)×Int×Int)) ((p.zV,p.Hq),b1,4)) (.need (A.and (A.c .leq 0 (A.b .xor .u32 (A.b .shr .u32 b0 20) (A.v .u32 (A.k cm ((p.zV,p.Hq),b1,4)).1))) (A.c .lss (A.b .xor .u32 (A.b .shr .u32 b0 20) (A.v .u32 (A.k cm ((p.zV,p.Hq),b1,4)).1)) 16)) (.more (.c1 p (A.b .xor .u32 (A.b .and .u32 (A.b .shl .u32 b0 4) 16777215) (A.n (.int .u32) [p.b5,p.b6,p.b7,p.b8,p.b9,p.b10,p.b11,p.b12,p.b13,p.iq,p.fe,p.bI,p.gT,p.nc,p.j6,p.mO] (A.b .xor .u32 (A.b .shr .u32 b0 20) (A.v .u32 (A.k cm ((p.zV,p.Hq),b1,4)).1)):Int)) (A.b .add .i64 b1 4))))) (.more (.c2 ⟨p.b2,p.b3,p.b4,p.zV,p.Hq,p.b5,p.b6,p.b7,p.b8,p.b9,p.b10,p.b11,p.b12,p.b13,p.iq,p.fe,p.bI,p.gT,p.nc,p.j6,p.mO⟩ b0 b1))
 | .c2 p c0 c1=>.br (A.c .lss c1 p.c5) (.need (A.k (@tt ((Int×List Int)×Int×Int)) ((p.c5,p.c6),c1,1)) (.need (A.k (@tt Int) (A.b .xor .u32 c0 (A.b .shl .u32 (A.v .u32 (A.k cm ((p.c5,p.c6),c1,1)).1) 23))) (.more (.c2 p (A.k CS (A.b .xor .u32 c0 (A.b .shl .u32 (A.v .u32 (A.k cm ((p.c5,p.c6),c1,1)).1) 23))) (A.b .add .i64 c1 1))))) (.more (.c0 ⟨c0,p.c2,p.c3,(A.b .add .i64 p.c4 1),p.c7,p.c8,p.c9,p.c10,p.c11,p.c12,p.c13,p.c14,p.yG,p.c16,p.MI,p.MJ,p.c19,p.c20,p.c21,p.c22⟩))
theorem Ii{α β γ:Type}(f:α→β→γ){a a':α}{b b':β}(h1:a=a')(h2:b=b'):f a b=f a' b':=by rw[h1,h2]
def tbA(p:AL):Prop:=p.a4=0∧p.a5=6122955∧p.a6=12245910∧p.a7=15185501∧p.a8=2677479∧p.a9=7714604∧p.cB=9568625∧p.da=13593786∧p.a12=5354958∧p.kE=841733∧p.jv=15429208∧p.lJ=11928467∧p.a16=7958313∧p.a17=2360034∧p.lK=12825791∧p.mh=10410356
def tbB(p:Je):Prop:=p.b5=0∧p.b6=6122955∧p.b7=12245910∧p.b8=15185501∧p.b9=2677479∧p.b10=7714604∧p.b11=9568625∧p.b12=13593786∧p.b13=5354958∧p.iq=841733∧p.fe=15429208∧p.bI=11928467∧p.gT=7958313∧p.nc=2360034∧p.j6=12825791∧p.mO=10410356
def tbC(p:Iz):Prop:=p.c7=0∧p.c8=6122955∧p.c9=12245910∧p.c10=15185501∧p.c11=2677479∧p.c12=7714604∧p.c13=9568625∧p.c14=13593786∧p.yG=5354958∧p.c16=841733∧p.MI=15429208∧p.MJ=11928467∧p.c19=7958313∧p.c20=2360034∧p.c21=12825791∧p.c22=10410356
theorem RY{n a w:Nat}{b:List Int}(hok:iW ((n:Int),b)=true)(h:a+w≤n)(hw:w≤64)(hn:n≤4096):ah.k cm (((n:Int),b),(a:Int),(w:Int))=(((BK (unpack n b) a w:Nat):Int),0):=by
 rw[aA,cm,VS]
 simp only[hok,Bool.not_true,cond_false]
 rw[show decide ((w:Int)<0)=false from by simp,show decide (64<(w:Int))=false from by simp;omega,show decide ((a:Int)<0)=false from by simp,show decide ((n:Int)<(a:Int)+(w:Int))=false from by simp;omega]
 rfl
theorem GA{l:List Bool}{a w:Nat}(h:a+w≤l.length):l.take (a+w)=l.take a++bitsOf (BK l a w) w:=by
 rw[Sw h,List.take_add]
theorem Nf{n:Nat}(h:n<4294967296):ah.v .u32 (n:Int)=(n:Int):=by rw[qw,S7 (by omega) (by omega)]
theorem Yk{l:List (Int×List Int)}{i n:Nat}{b:List Int}{R:Int×Int}{r0:Nat}(hr0:r0<16777216)(hok:iW ((n:Int),b)=true)(hn:n≤4096)(hll:l.length≤140737488355328)(hi:i<l.length)
  (hnext:∀(p:AL),tbA p→p.a1=l→p.a2=(l.length:Int)→p.a3=((i+1:Nat):Int)→p.a0=((over r0 (unpack n b):Nat):Int)→au (wH ah) (.more (.c0 p)) R) :
  ∀(j k:Nat) (p:Iz),tbC p→p.c2=l→p.c3=(l.length:Int)→p.c4=(i:Int)→p.c5=(n:Int)→p.c6=b→n-k=j→k≤n→au (wH ah) (.more (.c2 p ((over r0 ((unpack n b).take k):Nat):Int) (k:Int))) R:=by
 intro j
 induction j with
 | zero=>
   intro k p ht h2 h3 h4 h5 h6 hj hk
   have:k=n:=by omega
   subst this
   simp only[ak,wH]
   refine(ai (by rw[h5,aC];simp)).2 ?_
   rw[List.take_of_length_le (by rw[bG];exact Nat.le_refl _)]
   exact hnext _ ht h2 h3 (by show ah.b .add .i64 p.c4 1=_;rw[h4,bU (by omega)]) rfl
 | succ j ih=>
   intro k p ht h2 h3 h4 h5 h6 hj hk
   simp only[ak,wH]
   have hg:ah.k cm ((p.c5,p.c6),(k:Int),1)=(((BK (unpack n b) k 1:Nat):Int),0):=by
    rw[h5,h6];exact RY hok (w:=1) (by omega) (by decide) hn
   have hlt:=EL hr0 ((unpack n b).take k)
   have hf:=Ih (unpack n b) k 1
   have hts:=GA (l:=unpack n b) (a:=k) (w:=1) (by rw[bG];omega)
   obtain⟨x,hx⟩:∃x:Bool,BK (unpack n b) k 1=x.toNat:=by
    by_cases h0:BK (unpack n b) k 1=0
    ·exact⟨false,h0⟩
    ·exact⟨true,by rw[show true.toNat=1 from rfl];omega⟩
   have hbx:bitsOf x.toNat 1=[x]:=by cases x<;>rfl
   rw[hx,hbx] at hts
   have hsh:ah.b .xor .u32 ((over r0 ((unpack n b).take k):Nat):Int) (ah.b .shl .u32 (ah.v .u32 (ah.k cm ((p.c5,p.c6),(k:Int),1)).1) 23)=((over r0 ((unpack n b).take k) ^^^ (x.toNat*8388608):Nat):Int):=by
    rw[hg,hx,Nf (by cases x<;>decide),show ah.b .shl .u32 ((x.toNat:Nat):Int) 23=((x.toNat*2^23:Nat):Int) from Nu (k:=23) (by decide) (by cases x<;>decide)]
    exact JY (by omega) (by cases x<;>decide)
   have hxl:over r0 ((unpack n b).take k) ^^^ (x.toNat*8388608)<16777216:=Nat.xor_lt_two_pow (n:=24) hlt (by cases x<;>decide)
   have hc:ah.k CS (ah.b .xor .u32 ((over r0 ((unpack n b).take k):Nat):Int) (ah.b .shl .u32 (ah.v .u32 (ah.k cm ((p.c5,p.c6),(k:Int),1)).1) 23))=((over r0 ((unpack n b).take (k+1)):Nat):Int):=by
    rw[hsh,aA,MN hxl,ND hlt,hts,qL,jM,ze]
   refine(aj (by rw[h5,aC];simp;omega)).2 (af.2 ⟨rfl,af.2 ⟨rfl,?_⟩⟩)
   exact gI (congrArg LT.more (congr (congrArg (MC.c2 p) hc) (bU (by omega)))) (ih (k+1) p ht h2 h3 h4 h5 h6 (by omega) (by omega))
theorem Z6{l:List (Int×List Int)}{i n:Nat}{b:List Int}{R:Int×Int}{r0:Nat}(hr0:r0<16777216)(hok:iW ((n:Int),b)=true)(hn:n≤4096)(hll:l.length≤140737488355328)(hi:i<l.length)
  (hnext:∀(p:AL),tbA p→p.a1=l→p.a2=(l.length:Int)→p.a3=((i+1:Nat):Int)→p.a0=((over r0 (unpack n b):Nat):Int)→au (wH ah) (.more (.c0 p)) R) :
  ∀(j k:Nat) (p:Je),tbB p→p.b2=l→p.b3=(l.length:Int)→p.b4=(i:Int)→p.zV=(n:Int)→p.Hq=b→(n-k)/4=j→k≤n→au (wH ah) (.more (.c1 p ((over r0 ((unpack n b).take k):Nat):Int) (k:Int))) R:=by
 intro j
 induction j with
 | zero=>
   intro k p ht h2 h3 h4 h5 h6 hj hk
   simp only[ak,wH]
   refine(ai (by rw[show ah.b .add .i64 (k:Int) 4=((k+4:Nat):Int) from eH (j:=4) (by omega),h5,n_];simp;omega)).2 ?_
   exact Yk hr0 hok hn hll hi hnext (n-k) k _ ht h2 h3 h4 h5 h6 rfl hk
 | succ j ih=>
   intro k p ht h2 h3 h4 h5 h6 hj hk
   simp only[ak,wH]
   have hg:ah.k cm ((p.zV,p.Hq),(k:Int),4)=(((BK (unpack n b) k 4:Nat):Int),0):=by
    rw[h5,h6];exact RY hok (w:=4) (by omega) (by decide) hn
   have hlt:=EL hr0 ((unpack n b).take k)
   have hf:=Ih (unpack n b) k 4
   have hts:=GA (l:=unpack n b) (a:=k) (w:=4) (by rw[bG];omega)
   have h4o:=LC hlt (l:=bitsOf (BK (unpack n b) k 4) 4) (gN _ _)
   rw[EC,Nat.mod_eq_of_lt hf,←qL,←hts] at h4o
   generalize hr:over r0 ((unpack n b).take k)=r at *
   generalize hv:BK (unpack n b) k 4=v at *
   have hix:ah.b .xor .u32 (ah.b .shr .u32 (r:Int) 20) (ah.v .u32 (ah.k cm ((p.zV,p.Hq),(k:Int),4)).1)=((r/1048576 ^^^ v:Nat):Int):=by
    rw[hg,Nf (by omega),show ah.b .shr .u32 (r:Int) 20=((r/2^20:Nat):Int) from Wc (n:=20) (by omega) (by decide)]
    exact JY (by omega) (by omega)
   have hxl:r/1048576 ^^^ v<16:=LD ⟨r/1048576,by omega⟩ ⟨v,by omega⟩
   have htab:(ah.n (.int .u32) [p.b5,p.b6,p.b7,p.b8,p.b9,p.b10,p.b11,p.b12,p.b13,p.iq,p.fe,p.bI,p.gT,p.nc,p.j6,p.mO] (((r/1048576 ^^^ v:Nat):Int)):Int)=((Hf.getD (r/1048576 ^^^ v) 0:Nat):Int):=by
    rw[←QG ⟨r/1048576 ^^^ v,hxl⟩]
    obtain⟨t0,t1,t2,t3,t4,t5,t6,t7,t8,t9,t10,t11,t12,t13,t14,t15⟩:=ht
    show List.getD [p.b5,p.b6,p.b7,p.b8,p.b9,p.b10,p.b11,p.b12,p.b13,p.iq,p.fe,p.bI,p.gT,p.nc,p.j6,p.mO] ((r/1048576 ^^^ v:Nat):Int).toNat 0=_
    rw[gS,t0,t1,t2,t3,t4,t5,t6,t7,t8,t9,t10,t11,t12,t13,t14,t15];rfl
   have hc:ah.b .xor .u32 (ah.b .and .u32 (ah.b .shl .u32 (r:Int) 4) 16777215) (ah.n (.int .u32) [p.b5,p.b6,p.b7,p.b8,p.b9,p.b10,p.b11,p.b12,p.b13,p.iq,p.fe,p.bI,p.gT,p.nc,p.j6,p.mO] (ah.b .xor .u32 (ah.b .shr .u32 (r:Int) 20) (ah.v .u32 (ah.k cm ((p.zV,p.Hq),(k:Int),4)).1)):Int)=((over r0 ((unpack n b).take (k+4)):Nat):Int):=by
    rw[hix]
    have e1:ah.b .and .u32 (ah.b .shl .u32 (r:Int) 4) 16777215=((16*r%16777216:Nat):Int):=by
     rw[show ah.b .shl .u32 (r:Int) 4=((r*2^4:Nat):Int) from Nu (k:=4) (by decide) (by omega),WI (by omega),Nat.mul_comm]
    refine(Ii (ah.b .xor .u32) e1 htab).trans ?_
    rw[h4o]
    exact JY (by omega) (by have:=Qf ⟨_,hxl⟩;simp only at this;omega)
   refine(aj (by rw[show ah.b .add .i64 (k:Int) 4=((k+4:Nat):Int) from eH (j:=4) (by omega),h5,n_];simp;omega)).2 (af.2 ⟨rfl,af.2 ⟨?_,?_⟩⟩)
   ·rw[hix,oS,aJ,ar];simp;omega
   ·have:=ih (k+4) p ht h2 h3 h4 h5 h6 (by omega) (by omega)
    exact gI (congrArg LT.more (congr (congrArg (MC.c1 p) hc) (show ah.b .add .i64 (k:Int) 4=((k+4:Nat):Int) from eH (j:=4) (by omega)))) this
theorem Ze{l:List (Int×List Int)}(hll:l.length≤140737488355328)(hby:∀x∈l,dy x.2∧x.2.length≤140737488355328):∀(j i:Nat) (p:AL),tbA p→p.a1=l→p.a2=(l.length:Int)→p.a3=(i:Int)→p.a0=((over 0 ((l.take i).flatMap ju):Nat):Int)→l.length-i=j→i≤l.length→(∀x∈l.take i,iW x=true)→au (wH ah) (.more (.c0 p)) (Mh l):=by
 intro j
 induction j with
 | zero=>
   intro i p ht h1 h2 h3 h0 hj hi hok
   have:i=l.length:=by omega
   subst this
   rw[List.take_length] at hok h0
   simp only[ak,wH]
   refine(ai (by rw[h2,h3,aC];simp)).2 ?_
   rw[Mh,List.all_eq_true.2 hok,h0]
   exact .ret _
 | succ j ih=>
   intro i p ht h1 h2 h3 h0 hj hi hok
   have hi':i<l.length:=by omega
   have hmem:=List.getElem_mem hi'
   simp only[ak,wH]
   rw[h3]
   refine(aj (by rw[h2,aC];simp;omega)).2 (af.2 ⟨by rw[h1];exact aO hi',af.2 ⟨rfl,?_⟩⟩)
   obtain⟨n0,b,hx⟩:∃n0 b,l[i]=(n0,b):=⟨_,_,rfl⟩
   have hby':=hby _ hmem
   rw[hx] at hby'
   have hn1:(ah.n (.struct [(.int .i64),(.slice (.int .u8))]) p.a1 (i:Int):Int×List Int)=(n0,b):=by rw[h1,Bq hi',hx]
   rw[hn1]
   have hc:ah.k mX (n0,b)=bif iW (n0,b) then 0 else 10:=ui hby'.1 hby'.2
   rw[hc]
   cases hb:iW (n0,b)
   ·refine(aj rfl).2 ?_
    rw[Mh,show l.all iW=false from List.all_eq_false.2 ⟨l[i],hmem,by rw[hx,hb];decide⟩]
    exact .ret _
   ·refine(ai rfl).2 ?_
    obtain⟨h4,h5,h6⟩:=(oL hby'.1).1 hb
    obtain⟨n,rfl⟩:=Int.eq_ofNat_of_zero_le h4
    have hlt:=EL (r:=0) (by decide) ((l.take i).flatMap ju)
    have hm:=Z6 hlt hb (by omega) hll hi' (R:=Mh l) (fun p' g1 g2 g3 g4 g5=>ih (i+1) p' g1 g2 g3 g4 (by rw[g5,rm hi',qL,hx];rfl) (by omega) (by omega) (by
     intro x hx2
     rw[List.take_succ_eq_append_getElem hi'] at hx2
     rcases ku.1 hx2 with h7|h7
     ·exact hok x h7
     ·rw[List.mem_singleton.1 h7,hx];exact hb)) (n/4) 0 ⟨p.a1,p.a2,(i:Int),p.a4,p.a5,p.a6,p.a7,p.a8,p.a9,p.cB,p.da,p.a12,p.kE,p.jv,p.lJ,p.a16,p.a17,p.lK,p.mh,(n:Int),b⟩ ht h1 h2 rfl rfl rfl (by omega) (by omega)
    rw[List.take_zero,ze,←h0] at hm
    exact hm
theorem ahH{l:List (Int×List Int)}(h:Ty.cN [(.slice (.struct [(.int .i64),(.slice (.int .u8))]))] l):au (wH ah) (ZG ah l) (Mh l):=by
 unfold ZG
 refine af.2 ⟨rfl,?_⟩
 exact Ze (vf h).1 (vf h).2 l.length 0 _ ⟨rfl,rfl,rfl,rfl,rfl,rfl,rfl,rfl,rfl,rfl,rfl,rfl,rfl,rfl,rfl,rfl⟩ rfl rfl rfl rfl (by omega) (by omega) (by intro x hx;cases hx)
def xg:(List (Int×List Int))→(Int×Int):=Mh
def adC:ax:=⟨[(.slice (.struct [yI,yB]))], [(.int .u32),yI],(@tt (List (Int×List Int))),xg⟩
theorem Wh:Sd 323 adC:=aP ap bR true 30 [⟨323,4, [[4,5,10,11,12]]⟩,⟨345,2, [[0,2,4,7], [4,10,11,12]]⟩,⟨345,6, [[0,4,7], [4,10,11,12]]⟩] [] (fun A l=>ZG A l) wH Y0 (fc Tryz.func323 (fc Tryz.func345 fz)) (sc F_ (sc Kg (sc agk (sc Wy sz)))) (fun A y=>match y with |.c0 p=>⟨52,by kernel_rfl,by kernel_rfl⟩|.c1 p b0 b1=>⟨52,by kernel_rfl,by kernel_rfl⟩|.c2 p c0 c1=>⟨44,by kernel_rfl,by kernel_rfl⟩) fun l hp h=>ahH h
abbrev xv(A:aI)(bN:Int)(bB:List Int):=(A.k xB ((bN,bB),0,(A.b .sub .i64 bN 24)))
def t139(A:aI)(bN:Int)(bB:List Int)(unsentN:Int)(unsentB:List Int):LT ((Int×List Int)×Int) Empty:=.need (A.k (@tt ((Int×List Int))) (bN,bB)) (.br (A.c .neq (A.k mX (bN,bB)) 0) (.ret ((0,([]:List Int)),10)) (.need (A.k (@tt ((Int×List Int))) (unsentN,unsentB)) (.br (A.c .neq (A.k mX (unsentN,unsentB)) 0) (.ret ((0,([]:List Int)),10)) (.br (A.c .lss bN 24) (.ret ((0,([]:List Int)),20)) (.need (A.k (@tt ((Int×List Int)×Int×Int)) ((bN,bB),0,(A.b .sub .i64 bN 24))) (.need (A.k (@tt ((Int×List Int)×Int×Int)) ((bN,bB),(xv A bN bB).1.1,24)) (.need (A.k (@tt (List (Int×List Int))) [(unsentN,unsentB),(xv A bN bB).1]) (.br (A.c .neq (A.k xg [(unsentN,unsentB),(xv A bN bB).1]).2 0) (.ret ((0,([]:List Int)),(A.k xg [(unsentN,unsentB),(xv A bN bB).1]).2)) (.br (A.c .neq (A.v .u64 (A.k xg [(unsentN,unsentB),(xv A bN bB).1]).1) (A.k cm ((bN,bB),(xv A bN bB).1.1,24)).1) (.ret ((0,([]:List Int)),21)) (.ret ((xv A bN bB).1,0)))))))))))
def mf:((Int×List Int)×(Int×List Int))→((Int×List Int)×Int):=fun((bN,bB),unsentN,unsentB)=>(t139 ah bN bB unsentN unsentB).val (Ty.bi [(.struct [yI,yB]),yI])
def adW:ax:=⟨[(.struct [yI,yB]),(.struct [yI,yB])], [(.struct [yI,yB]),yI],(@tt ((Int×List Int)×(Int×List Int))),mf⟩
theorem afF:Sd 287 adW:=aH ap bR true 100 [] (fun A ((bN,bB),unsentN,unsentB)=>t139 A bN bB unsentN unsentB) (fc Tryz.func287 fz) (sc F_ (sc Kg (sc Wk (sc Wh sz)))) (fun(((bN,bB),unsentN,unsentB):(Int×List Int)×(Int×List Int)) hp h=>by
 show(t139 ah bN bB unsentN unsentB).pre=true
 simp only[t139,xv,LT.pre,aA,dU,jd,Bool.true_and,implies_true,and_self])
def Yi(A:aI)(cTime:Int)(cPos:Int)(cMode:Int)(cNext:Int)(cMember:Int):LT (List Int) Empty:=.ret [cTime,cPos,cMode,cNext,cMember]
def C6:((Int×Int×Int×Int×Int))→(List Int):=fun(cTime,cPos,cMode,cNext,cMember)=>(Yi ah cTime cPos cMode cNext cMember).val (Ty.bi [(.arr 5 yI)])
def aeU:ax:=⟨[(.struct [yI,yI,yI,yI,yI])], [(.arr 5 yI)],(@tt ((Int×Int×Int×Int×Int))),C6⟩
theorem aeX:Sd 174 aeU:=aH ap bR true 26 [] (fun A (cTime,cPos,cMode,cNext,cMember)=>Yi A cTime cPos cMode cNext cMember) (fc Tryz.func174 fz) sz (fun((cTime,cPos,cMode,cNext,cMember):(Int×Int×Int×Int×Int)) hp h=>by
 show(Yi ah cTime cPos cMode cNext cMember).pre=true
 rfl)
structure Wu where
 (a0 a1 a2 a3 a4 a6 a7 a8 a9 cB:Int)
inductive Y87 where
 | c0 (p:Wu) (a5:Int)
noncomputable def ack:Y87→eD
 | .c0 p a5=>⟨[⟨98,36,(en [(5,.ptr 0 0),(21,.agg [vi p.a0,vi p.a1,vi p.a2,vi p.a3,vi p.a4]),(22,vi a5)]),[.inLoop (cw Tryz.f98 [1,1,1,0,1,0,0]),.inBlock 0,.code (cw Tryz.f98 [1,1,1,1])],[],none⟩],[.flat false [vi p.a6,vi p.a7,vi p.a8,vi p.a9,vi p.cB],.dead]⟩
def t87(A:aI)(cTime:Int)(cPos:Int)(cMode:Int)(cNext:Int)(cMember:Int)(n:Int):LT Int Y87:=.br (A.c .lss n 4) (.ret 2) (.br (A.c .gtr n 8) (.ret 2) (.need (A.c .leq 0 n) (.need (A.k (@tt ((Int×Int×Int×Int×Int))) (cTime,cPos,cMode,cNext,cMember)) (.more (.c0 ⟨(A.n yI (A.k C6 (cTime,cPos,cMode,cNext,cMember)) 0:Int),(A.n yI (A.k C6 (cTime,cPos,cMode,cNext,cMember)) 1:Int),(A.n yI (A.k C6 (cTime,cPos,cMode,cNext,cMember)) 2:Int),(A.n yI (A.k C6 (cTime,cPos,cMode,cNext,cMember)) 3:Int),(A.n yI (A.k C6 (cTime,cPos,cMode,cNext,cMember)) 4:Int),255,(A.b .sub .i64 n 1),3,4,(A.b .sub .i64 (A.b .shl .i64 1 n) 1)⟩ 0)))))
def s87(A:aI):Y87→LT Int Y87
 | .c0 p a5=>.br (A.c .lss a5 5) (.need (A.and (A.c .leq 0 a5) (A.c .lss a5 5)) (.br (A.c .lss (A.n yI [p.a0,p.a1,p.a2,p.a3,p.a4] a5:Int) 0) (.ret 40) (.need (A.and (A.c .leq 0 a5) (A.c .lss a5 5)) (.br (A.c .gtr (A.n yI [p.a0,p.a1,p.a2,p.a3,p.a4] a5:Int) (A.n yI [p.a6,p.a7,p.a8,p.a9,p.cB] a5:Int)) (.ret 40) (.more (.c0 p (A.b .add .i64 a5 1))))))) (.ret 0)
theorem adz{k:Nat}(hk:k≤60):ah.b .shl .i64 1 (k:Int)=((2^k:Nat):Int):=by
 show IntKind.i64.wrap ((1:Int)*2^min (k:Int).toNat 64)=_
 have:2^k≤2^60:=Nat.pow_le_pow_right (by decide) hk
 have e:(2:Int)^k=((2^k:Nat):Int):=by simp
 rw[gS,Nat.min_eq_left (by omega),Int.one_mul,e]
 generalize 2^k=q at this
 rw[iZ (by omega) (by omega)]
theorem agU{u v x:Int}(h:u=v):ah.c .lss u x=decide (v<x):=by rw[h];rfl
theorem aep{u u' v v':Int}(h1:u=u')(h2:v=v'):ah.c .gtr u v=decide (v'<u'):=by rw[h1,h2];rfl
theorem q_{p:Wu}{i v m r:Int}(h0:0≤i)(h5:i<5)(hv:(ah.n (.int .i64) [p.a0,p.a1,p.a2,p.a3,p.a4] i:Int)=v)(hm:(ah.n (.int .i64) [p.a6,p.a7,p.a8,p.a9,p.cB] i:Int)=m)
  (h1:(decide (0≤v)&&decide (v≤m))=true→au (s87 ah) (.more (.c0 p (i+1))) r) (h2:(decide (0≤v)&&decide (v≤m))=false→r=40):au (s87 ah) (.more (.c0 p i)) r:=by
 rw[ak,s87]
 have hn:ah.and (ah.c .leq 0 i) (ah.c .lss i 5)=true:=by rw[aJ,ao,ar];simp;omega
 refine(aj (by rw[ar];simpa using h5)).2 (af.2 ⟨hn,?_⟩)
 by_cases h3:v<0
 ·refine(aj ((agU hv).trans (by simpa using h3))).2 ?_
  rw[h2 (by rw[show decide (0≤v)=false from by simp;omega];rfl)]
  exact .ret _
 ·refine(ai ((agU hv).trans (by simpa using h3))).2 (af.2 ⟨hn,?_⟩)
  by_cases h4:m<v
  ·refine(aj ((aep hv hm).trans (by simpa using h4))).2 ?_
   rw[h2 (by rw[show decide (v≤m)=false from by simp;omega,Bool.and_false])]
   exact .ret _
  ·refine(ai ((aep hv hm).trans (by simpa using h4))).2 ?_
   rw[ck,iZ (by omega) (by omega)]
   exact h1 (by simp;omega)
theorem ahM{t po m n s k:Int}:au (s87 ah) (t87 ah t po m n s k) (kJ ((t,po,m,n,s),k)):=by
 unfold t87
 rw[kJ]
 by_cases h1:k<4
 ·refine(aj (by rw[ar];simpa using h1)).2 ?_
  rw[show decide (k<4)=true from by simpa using h1]
  exact .ret _
 refine(ai (by rw[ar];simpa using h1)).2 ?_
 by_cases h2:8<k
 ·refine(aj (by rw[bg];simpa using h2)).2 ?_
  rw[show decide (8<k)=true from by simpa using h2,Bool.or_true]
  exact .ret _
 refine(ai (by rw[bg];simpa using h2)).2 (af.2 ⟨by rw[ao];simp;omega,af.2 ⟨rfl,?_⟩⟩)
 rw[show decide (k<4)=false from by simpa using h1,show decide (8<k)=false from by simpa using h2,Bool.or_false,cond_false]
 have hk1:ah.b .sub .i64 k 1=k-1:=by rw[cu,iZ (by omega) (by omega)]
 have hk2:ah.b .sub .i64 (ah.b .shl .i64 1 k) 1=2^k.toNat-1:=by
  obtain⟨j,rfl⟩:=Int.eq_ofNat_of_zero_le (show 0≤k by omega)
  have hq:2^j≤2^60:=Nat.pow_le_pow_right (by decide) (by omega)
  have hq0:=Nat.two_pow_pos j
  have e:(2:Int)^j=((2^j:Nat):Int):=by simp
  rw[adz (by omega),gS,e]
  generalize 2^j=q at hq hq0
  rw[cu,iZ (by omega) (by omega)]
 rw[hk1,hk2]
 refine q_ (v:=t) (m:=255) (by decide) (by decide) rfl rfl (fun g=>?_) (fun g=>by rw[g];rfl)
 rw[g,Bool.true_and]
 refine q_ (i:=1) (v:=po) (m:=k-1) (by decide) (by decide) rfl rfl (fun g=>?_) (fun g=>by rw[g];rfl)
 rw[g,Bool.true_and]
 refine q_ (i:=2) (v:=m) (m:=3) (by decide) (by decide) rfl rfl (fun g=>?_) (fun g=>by rw[g];rfl)
 rw[g,Bool.true_and]
 refine q_ (i:=3) (v:=n) (m:=4) (by decide) (by decide) rfl rfl (fun g=>?_) (fun g=>by rw[g];rfl)
 rw[g,Bool.true_and]
 refine q_ (i:=4) (v:=s) (m:=2^k.toNat-1) (by decide) (by decide) rfl rfl (fun g=>?_) (fun g=>by rw[g];rfl)
 rw[g,ak,s87]
 exact(ai rfl).2 (.ret _)
def pF:((Int×Int×Int×Int×Int)×Int)→Int:=kJ
def ajh:ax:=⟨[(.struct [yI,yI,yI,yI,yI]),yI], [yI],(@tt ((Int×Int×Int×Int×Int)×Int)),pF⟩
theorem E7:Sd 98 ajh:=aP ap bR true 43 [⟨98,5, [[5,21,22]]⟩] [] (fun A ((cTime,cPos,cMode,cNext,cMember),n)=>t87 A cTime cPos cMode cNext cMember n) s87 ack (fc Tryz.func98 fz) (sc aeX sz) (fun A y=>match y with |.c0 p a5=>⟨41,by kernel_rfl,by kernel_rfl⟩) fun((cTime,cPos,cMode,cNext,cMember),n) hp h=>ahM
def adp:((Int×Int×Int×Int×Int)×Int)→Int:=kJ
abbrev K6(A:aI)(cTime:Int):=(A.k p8 ((0,([]:List Int)),(A.v .u64 cTime),8))
abbrev Mw(A:aI)(cTime:Int)(cPos:Int):=(A.k p8 ((K6 A cTime).1,(A.v .u64 cPos),3))
abbrev MB(A:aI)(cTime:Int)(cPos:Int)(cMode:Int):=(A.k p8 ((Mw A cTime cPos).1,(A.v .u64 cMode),2))
abbrev G2(A:aI)(cTime:Int)(cPos:Int)(cMode:Int)(cNext:Int):=(A.k p8 ((MB A cTime cPos cMode).1,(A.v .u64 cNext),3))
def t90(A:aI)(cTime:Int)(cPos:Int)(cMode:Int)(cNext:Int)(cMember:Int):LT ((Int×List Int)×Int) Empty:=.need (A.k (@tt ((Int×Int×Int×Int×Int)×Int)) ((cTime,cPos,cMode,cNext,cMember),8)) (.br (A.c .neq (A.k pF ((cTime,cPos,cMode,cNext,cMember),8)) 0) (.ret ((0,([]:List Int)),40)) (.need (A.k (@tt ((Int×List Int)×Int×Int)) ((0,([]:List Int)),(A.v .u64 cTime),8)) (.need (A.k (@tt ((Int×List Int)×Int×Int)) ((0,([]:List Int)),(A.v .u64 cTime),8)) (.br (A.c .neq (K6 A cTime).2 0) (.ret ((0,([]:List Int)),(K6 A cTime).2)) (.need (A.k (@tt ((Int×List Int)×Int×Int)) ((K6 A cTime).1,(A.v .u64 cPos),3)) (.need (A.k (@tt ((Int×List Int)×Int×Int)) ((K6 A cTime).1,(A.v .u64 cPos),3)) (.br (A.c .neq (Mw A cTime cPos).2 0) (.ret ((0,([]:List Int)),(Mw A cTime cPos).2)) (.need (A.k (@tt ((Int×List Int)×Int×Int)) ((Mw A cTime cPos).1,(A.v .u64 cMode),2)) (.need (A.k (@tt ((Int×List Int)×Int×Int)) ((Mw A cTime cPos).1,(A.v .u64 cMode),2)) (.br (A.c .neq (MB A cTime cPos cMode).2 0) (.ret ((0,([]:List Int)),(MB A cTime cPos cMode).2)) (.need (A.k (@tt ((Int×List Int)×Int×Int)) ((MB A cTime cPos cMode).1,(A.v .u64 cNext),3)) (.need (A.k (@tt ((Int×List Int)×Int×Int)) ((MB A cTime cPos cMode).1,(A.v .u64 cNext),3)) (.br (A.c .neq (G2 A cTime cPos cMode cNext).2 0) (.ret ((0,([]:List Int)),(G2 A cTime cPos cMode cNext).2)) (.need (A.k (@tt ((Int×List Int)×Int×Int)) ((G2 A cTime cPos cMode cNext).1,(A.v .u64 cMember),8)) (.need (A.k (@tt ((Int×List Int)×Int×Int)) ((G2 A cTime cPos cMode cNext).1,(A.v .u64 cMember),8)) (.br (A.c .neq (A.k p8 ((G2 A cTime cPos cMode cNext).1,(A.v .u64 cMember),8)).2 0) (.ret ((0,([]:List Int)),(A.k p8 ((G2 A cTime cPos cMode cNext).1,(A.v .u64 cMember),8)).2)) (.ret ((A.k p8 ((G2 A cTime cPos cMode cNext).1,(A.v .u64 cMember),8)).1,0))))))))))))))))))
def qm:((Int×Int×Int×Int×Int))→((Int×List Int)×Int):=fun(cTime,cPos,cMode,cNext,cMember)=>(t90 ah cTime cPos cMode cNext cMember).val (Ty.bi [(.struct [yI,yB]),yI])
def ahI:ax:=⟨[(.struct [yI,yI,yI,yI,yI])], [(.struct [yI,yB]),yI],(@tt ((Int×Int×Int×Int×Int))),qm⟩
theorem aga:Sd 239 ahI:=aH ap bR true 335 [] (fun A (cTime,cPos,cMode,cNext,cMember)=>t90 A cTime cPos cMode cNext cMember) (fc Tryz.func239 (fc Tryz.func174 (fc Tryz.func285 fz))) (sc E7 (sc O1 sz)) (fun((cTime,cPos,cMode,cNext,cMember):(Int×Int×Int×Int×Int)) hp h=>by
 show(t90 ah cTime cPos cMode cNext cMember).pre=true
 simp only[t90,G2,MB,Mw,K6,LT.pre,aA,dU,jd,Bool.true_and,implies_true,and_self])
def Vu(A:aI)(bN:Int)(bB:List Int):LT ((Int×Int×Int×Int×Int)×Int) Empty:=.need (A.k (@tt ((Int×List Int))) (bN,bB)) (.br (A.c .neq (A.k mX (bN,bB)) 0) (.ret ((0,0,0,0,0),10)) (.br (A.c .neq bN 24) (.ret ((0,0,0,0,0),40)) (.need (A.k (@tt ((Int×List Int)×Int×Int)) ((bN,bB),0,8)) (.br (A.c .neq (A.k cm ((bN,bB),0,8)).2 0) (.ret ((0,0,0,0,0),(A.k cm ((bN,bB),0,8)).2)) (.need (A.k (@tt ((Int×List Int)×Int×Int)) ((bN,bB),8,3)) (.br (A.c .neq (A.k cm ((bN,bB),8,3)).2 0) (.ret ((0,0,0,0,0),(A.k cm ((bN,bB),8,3)).2)) (.need (A.k (@tt ((Int×List Int)×Int×Int)) ((bN,bB),11,2)) (.br (A.c .neq (A.k cm ((bN,bB),11,2)).2 0) (.ret ((0,0,0,0,0),(A.k cm ((bN,bB),11,2)).2)) (.need (A.k (@tt ((Int×List Int)×Int×Int)) ((bN,bB),13,3)) (.br (A.c .neq (A.k cm ((bN,bB),13,3)).2 0) (.ret ((0,0,0,0,0),(A.k cm ((bN,bB),13,3)).2)) (.need (A.k (@tt ((Int×List Int)×Int×Int)) ((bN,bB),16,8)) (.br (A.c .neq (A.k cm ((bN,bB),16,8)).2 0) (.ret ((0,0,0,0,0),(A.k cm ((bN,bB),16,8)).2)) (.need (A.k (@tt ((Int×Int×Int×Int×Int)×Int)) (((A.v .i64 (A.k cm ((bN,bB),0,8)).1),(A.v .i64 (A.k cm ((bN,bB),8,3)).1),(A.v .i64 (A.k cm ((bN,bB),11,2)).1),(A.v .i64 (A.k cm ((bN,bB),13,3)).1),(A.v .i64 (A.k cm ((bN,bB),16,8)).1)),8)) (.br (A.c .neq (A.k pF (((A.v .i64 (A.k cm ((bN,bB),0,8)).1),(A.v .i64 (A.k cm ((bN,bB),8,3)).1),(A.v .i64 (A.k cm ((bN,bB),11,2)).1),(A.v .i64 (A.k cm ((bN,bB),13,3)).1),(A.v .i64 (A.k cm ((bN,bB),16,8)).1)),8)) 0) (.ret ((0,0,0,0,0),40)) (.ret (((A.v .i64 (A.k cm ((bN,bB),0,8)).1),(A.v .i64 (A.k cm ((bN,bB),8,3)).1),(A.v .i64 (A.k cm ((bN,bB),11,2)).1),(A.v .i64 (A.k cm ((bN,bB),13,3)).1),(A.v .i64 (A.k cm ((bN,bB),16,8)).1)),0))))))))))))))))
def sU:((Int×List Int))→((Int×Int×Int×Int×Int)×Int):=fun(bN,bB)=>(Vu ah bN bB).val (Ty.bi [(.struct [yI,yI,yI,yI,yI]),yI])
def adn:ax:=⟨[(.struct [yI,yB])], [(.struct [yI,yI,yI,yI,yI]),yI],(@tt ((Int×List Int))),sU⟩
theorem agb:Sd 242 adn:=aH ap bR true 377 [] (fun A (bN,bB)=>Vu A bN bB) (fc Tryz.func242 (fc Tryz.func285 fz)) (sc E7 (sc F_ (sc Kg sz))) (fun((bN,bB):(Int×List Int)) hp h=>by
 show(Vu ah bN bB).pre=true
 simp only[Vu,LT.pre,aA,dU,jd,Bool.true_and,implies_true,and_self])
abbrev P9(A:aI)(fFrom:Int):LT Int Empty:=(.br (A.not (A.c .eql fFrom 0)) (.ret 50) (.ret 0))
def t57(A:aI)(fKind:Int)(fReq:Int)(fCTime:Int)(fCPos:Int)(fCMode:Int)(fCNext:Int)(fCMember:Int)(fFrom:Int)(fData:List Int):LT Int Empty:=.need (A.k (@tt ((Int×Int×Int×Int×Int)×Int)) ((fCTime,fCPos,fCMode,fCNext,fCMember),8)) (.br (A.c .neq (A.k pF ((fCTime,fCPos,fCMode,fCNext,fCMember),8)) 0) (.ret 50) (.br (A.c .lss fReq 0) (.ret 50) (.br (A.c .gtr fReq 4) (.ret 50) (.br (A.c .gtr (A.l fData) 8) (.ret 50) (.br (A.c .eql fKind 1) (.br (A.c .eql fReq 0) (.br (A.c .eql (A.l fData) 0) (.br (A.c .geq fFrom 0) (.br (A.c .lss fFrom 8) (.br (A.not (A.and (A.c .eql fCTime fCTime) (A.and (A.c .eql fCPos 0) (A.and (A.c .eql fCMode 0) (A.and (A.c .eql fCNext 0) (A.and (A.c .eql fCMember 0) true)))))) (.ret 50) (.ret 0)) (.ret 50)) (.ret 50)) (.ret 50)) (.ret 50)) (.br (A.c .eql fKind 3) (.br (A.c .eql (A.l fData) 0) (P9 A fFrom) (.ret 50)) (.br (A.c .eql fKind 2) (P9 A fFrom) (.br (A.c .eql fKind 4) (P9 A fFrom) (.ret 50)))))))))
def qe:((Int×Int×(Int×Int×Int×Int×Int)×Int×List Int))→Int:=fun(fKind,fReq,(fCTime,fCPos,fCMode,fCNext,fCMember),fFrom,fData)=>(t57 ah fKind fReq fCTime fCPos fCMode fCNext fCMember fFrom fData).val (Ty.bi [yI])
def ah4:ax:=⟨[(.struct [yI,yI,(.struct [yI,yI,yI,yI,yI]),yI,yB])], [yI],(@tt ((Int×Int×(Int×Int×Int×Int×Int)×Int×List Int))),qe⟩
theorem aey:Sd 243 ah4:=aH ap bR true 109 [] (fun A (fKind,fReq,(fCTime,fCPos,fCMode,fCNext,fCMember),fFrom,fData)=>t57 A fKind fReq fCTime fCPos fCMode fCNext fCMember fFrom fData) (fc Tryz.func243 fz) (sc E7 sz) (fun((fKind,fReq,(fCTime,fCPos,fCMode,fCNext,fCMember),fFrom,fData):(Int×Int×(Int×Int×Int×Int×Int)×Int×List Int)) hp h=>by
 show(t57 ah fKind fReq fCTime fCPos fCMode fCNext fCMember fFrom fData).pre=true
 simp[t57,P9,LT.pre,aA,dU])
abbrev Mm(A:aI)(kind:Int)(data:Int):LT Int Empty:=(.br (A.c .eql kind 2) (.ret (A.b .add .i64 29 (A.b .mul .i64 8 data))) (.br (A.c .eql kind 4) (.ret (A.b .add .i64 79 (A.b .mul .i64 8 data))) (.ret 0)))
def t56(A:aI)(kind:Int)(data:Int):LT Int Empty:=.br (A.c .lss data 0) (.ret 0) (.br (A.c .gtr data 8) (.ret 0) (.br (A.c .eql kind 1) (.br (A.c .eql data 0) (.ret 40) (.br (A.c .eql kind 3) (.br (A.c .eql data 0) (.ret 54) (Mm A kind data)) (Mm A kind data))) (.br (A.c .eql kind 3) (.br (A.c .eql data 0) (.ret 54) (Mm A kind data)) (Mm A kind data))))
def qi:(Int×Int)→Int:=fun(kind,data)=>(t56 ah kind data).val (Ty.bi [yI])
def ahY:ax:=⟨[yI,yI], [yI],(@tt (Int×Int)),qi⟩
theorem aiq:Sd 235 ahY:=aH ap bR true 67 [] (fun A (kind,data)=>t56 A kind data) (fc Tryz.func235 fz) sz (fun((kind,data):Int×Int) hp h=>by
 show(t56 ah kind data).pre=true
 simp[t56,Mm,LT.pre,aA,dU])
def t59(A:aI)(kind:Int)(data:Int):LT Int Empty:=.br (A.c .lss data 0) (.ret 0) (.br (A.c .gtr data 8) (.ret 0) (.br (A.c .eql kind 1) (.br (A.c .eql data 0) (.ret 40) (.ret 0)) (.br (A.c .eql kind 2) (.ret (A.b .add .i64 29 (A.b .mul .i64 8 data))) (.br (A.c .eql kind 3) (.br (A.c .eql data 0) (.ret 54) (.ret 0)) (.br (A.c .eql kind 4) (.ret (A.b .add .i64 79 (A.b .mul .i64 8 data))) (.ret 0))))))
def Fh:(Int×Int)→Int:=fun(kind,data)=>(t59 ah kind data).val (Ty.bi [yI])
def ahS:ax:=⟨[yI,yI], [yI],(@tt (Int×Int)),Fh⟩
theorem ai2:Sd 160 ahS:=aH ap bR true 59 [] (fun A (kind,data)=>t59 A kind data) (fc Tryz.func160 fz) sz (fun((kind,data):Int×Int) hp h=>by
 show(t59 ah kind data).pre=true
 simp[t59,LT.pre,aA,dU])
theorem Vb{k r t p m n s fr:Int}{d:List Int}:qe (k,r,(t,p,m,n,s),fr,d)=bif rU (k,r,(t,p,m,n,s),fr,d) then 0 else 50:=by
 have hc:ah.c .neq (ah.k pF ((t,p,m,n,s),8)) 0=!ye (t,p,m,n,s):=by
  rw[show ah.k pF ((t,p,m,n,s),8)=bif ye (t,p,m,n,s) then 0 else 40 from aak (t,p,m,n,s)];cases ye (t,p,m,n,s)<;>rfl
 have hl:ah.l d=(d.length:Int):=rfl
 have hiff:=MX (k:=k) (r:=r) (t:=t) (p:=p) (m:=m) (n:=n) (s:=s) (fr:=fr) (d:=d)
 have hq:(t==t&&(p==0&&(m==0&&(n==0&&(s==0&&true)))))=decide (p=0∧m=0∧n=0∧s=0):=by
  rw[Bool.eq_iff_iff];simp
 simp only[qe,t57,P9,LT.val,hc,hl,aD,aT,ar,ao,bg,bZ,aJ,eY,hq,Bool.cond_eq_ite,hiff,cd,Bool.not_eq_true',jV,decide_eq_false_iff_not,beq_iff_eq,bne_iff_ne,ne_eq]
 cases ye (t,p,m,n,s)
 ·simp
 ·simp only[Bool.true_eq_false,if_false,true_and,Bool.not_true,Bool.false_eq_true,ite_false,reduceIte]
  generalize d.length=len
  repeat' split
  all_goals first|rfl|(exfalso;omega)|(exfalso;simp at *;omega)
theorem Ha{k d:Int}:qi (k,d)=Ks (k,d)∧Fh (k,d)=Ks (k,d):=by
 have hm:0≤d∧d≤8→∀c:Int,c=29∨c=79→ah.b .add .i64 c (ah.b .mul .i64 8 d)=c+8*d:=by
  intro h c hc
  rw[ib,iZ (by omega) (by omega),ck,iZ (by omega) (by omega)]
 constructor
 ·simp only[qi,t56,Mm,LT.val,aD,ar,bg,Bool.cond_eq_ite,jV,beq_iff_eq,Ks]
  by_cases h:0≤d∧d≤8
  ·rw[hm h 29 (.inl rfl),hm h 79 (.inr rfl),if_neg (show ¬d<0 by omega),if_neg (show ¬8<d by omega),if_pos h]
   repeat' split
   all_goals first|rfl|(exfalso;omega)
  ·rw[if_neg h]
   by_cases h1:d<0
   ·rw[if_pos h1]
   ·rw[if_neg h1,if_pos (show 8<d by omega)]
 ·simp only[Fh,t59,LT.val,aD,ar,bg,Bool.cond_eq_ite,jV,beq_iff_eq,Ks]
  by_cases h:0≤d∧d≤8
  ·rw[hm h 29 (.inl rfl),hm h 79 (.inr rfl),if_neg (show ¬d<0 by omega),if_neg (show ¬8<d by omega),if_pos h]
   repeat' split
   all_goals first|rfl|(exfalso;omega)
  ·rw[if_neg h]
   by_cases h1:d<0
   ·rw[if_pos h1]
   ·rw[if_neg h1,if_pos (show 8<d by omega)]
def SQ(A:aI)(n:Int)(kind:Int):LT Bool Empty:=.br (A.c .eql kind 1) (.ret (A.c .eql n 40)) (.br (A.c .eql kind 3) (.ret (A.c .eql n 54)) (.br (A.c .eql kind 2) (.br (A.c .geq (A.b .sub .i64 n 29) 0) (.br (A.c .leq (A.b .sub .i64 n 29) 64) (.ret (A.c .eql (A.b .rem .i64 (A.b .sub .i64 n 29) 8) 0)) (.ret false)) (.ret false)) (.br (A.c .geq (A.b .sub .i64 n 79) 0) (.br (A.c .leq (A.b .sub .i64 n 79) 64) (.ret (A.c .eql (A.b .rem .i64 (A.b .sub .i64 n 79) 8) 0)) (.ret false)) (.ret false))))
def W9:(Int×Int)→Bool:=fun(n,kind)=>(SQ ah n kind).val (Ty.bi [.bool])
def afM:ax:=⟨[yI,yI], [.bool],(@tt (Int×Int)),W9⟩
theorem ace:Sd 238 afM:=aH ap bR true 54 [] (fun A (n,kind)=>SQ A n kind) (fc Tryz.func238 fz) sz (fun((n,kind):Int×Int) hp h=>by
 show(SQ ah n kind).pre=true
 simp[SQ,LT.pre,aA,dU])
abbrev uP(A:aI)(bN:Int)(bB:List Int):=(A.k mf ((A.k xB ((bN,bB),0,55)).1,0,([]:List Int)))
abbrev AT(A:aI)(bN:Int)(bB:List Int):=(A.k xB ((uP A bN bB).1,(A.b .sub .i64 (uP A bN bB).1.1 24),(uP A bN bB).1.1))
def Ue(A:aI)(bN:Int)(bB:List Int)(kind:Int)(unsentN:Int)(unsentB:List Int):LT ((Int×List Int)×(Int×List Int)×Int) Empty:=.br (A.c .neq kind 4) (.need (A.k (@tt ((Int×List Int)×(Int×List Int))) ((bN,bB),unsentN,unsentB)) (.br (A.c .neq (A.k mf ((bN,bB),unsentN,unsentB)).2 0) (.ret ((A.k mf ((bN,bB),unsentN,unsentB)).1,(0,([]:List Int)),(A.k mf ((bN,bB),unsentN,unsentB)).2)) (.br (A.c .neq kind 3) (.ret ((A.k mf ((bN,bB),unsentN,unsentB)).1,(0,([]:List Int)),(A.k mf ((bN,bB),unsentN,unsentB)).2)) (.need (A.k (@tt ((Int×List Int)×Int×Int)) ((A.k mf ((bN,bB),unsentN,unsentB)).1,(A.b .sub .i64 (A.k mf ((bN,bB),unsentN,unsentB)).1.1 24),(A.k mf ((bN,bB),unsentN,unsentB)).1.1)) (.ret ((A.k mf ((bN,bB),unsentN,unsentB)).1,(A.k xB ((A.k mf ((bN,bB),unsentN,unsentB)).1,(A.b .sub .i64 (A.k mf ((bN,bB),unsentN,unsentB)).1.1 24),(A.k mf ((bN,bB),unsentN,unsentB)).1.1)))))))) (.need (A.k (@tt ((Int×List Int)×Int×Int)) ((bN,bB),0,55)) (.br (A.c .neq (A.k xB ((bN,bB),0,55)).2 0) (.ret ((0,([]:List Int)),(0,([]:List Int)),(A.k xB ((bN,bB),0,55)).2)) (.need (A.k (@tt ((Int×List Int)×(Int×List Int))) ((A.k xB ((bN,bB),0,55)).1,0,([]:List Int))) (.br (A.c .neq (uP A bN bB).2 0) (.ret ((0,([]:List Int)),(0,([]:List Int)),(uP A bN bB).2)) (.need (A.k (@tt ((Int×List Int)×Int×Int)) ((uP A bN bB).1,(A.b .sub .i64 (uP A bN bB).1.1 24),(uP A bN bB).1.1)) (.br (A.c .neq (AT A bN bB).2 0) (.ret ((0,([]:List Int)),(0,([]:List Int)),(AT A bN bB).2)) (.need (A.k (@tt ((Int×List Int)×(Int×List Int))) ((bN,bB),(AT A bN bB).1)) (.ret ((A.k mf ((bN,bB),(AT A bN bB).1)).1,(AT A bN bB).1,(A.k mf ((bN,bB),(AT A bN bB).1)).2)))))))))
def Qc:((Int×List Int)×Int×(Int×List Int))→((Int×List Int)×(Int×List Int)×Int):=fun((bN,bB),kind,unsentN,unsentB)=>(Ue ah bN bB kind unsentN unsentB).val (Ty.bi [(.struct [yI,yB]),(.struct [yI,yB]),yI])
def ag2:ax:=⟨[(.struct [yI,yB]),yI,(.struct [yI,yB])], [(.struct [yI,yB]),(.struct [yI,yB]),yI],(@tt ((Int×List Int)×Int×(Int×List Int))),Qc⟩
theorem ag5:Sd 240 ag2:=aH ap bR true 110 [] (fun A ((bN,bB),kind,unsentN,unsentB)=>Ue A bN bB kind unsentN unsentB) (fc Tryz.func240 fz) (sc afF (sc Wk sz)) (fun(((bN,bB),kind,unsentN,unsentB):(Int×List Int)×Int×(Int×List Int)) hp h=>by
 show(Ue ah bN bB kind unsentN unsentB).pre=true
 simp[Ue,AT,uP,LT.pre,aA,dU])
def Zp(A:aI)(r00:Int)(r01:List Int)(r1:Int)(width:Int):LT ((((Int×List Int)×Int))×Int) Empty:=.need (A.k (@tt ((Int×List Int)×Int×Int)) ((r00,r01),r1,width)) (.br (A.c .neq (A.k cm ((r00,r01),r1,width)).2 0) (.ret (((r00,r01),r1),0)) (.ret (((r00,r01),(A.b .add .i64 r1 width)),(A.v .i64 (A.k cm ((r00,r01),r1,width)).1))))
theorem aen{n a k:Int}{b:List Int}:au Empty.elim (Zp ah n b a k) (bif decide ((cm ((n,b),a,k)).2=0) then(((n,b),ah.b .add .i64 a k),ah.v .i64 (cm ((n,b),a,k)).1) else(((n,b),a),0)):=by
 unfold Zp
 refine af.2 ⟨rfl,?_⟩
 by_cases h:(cm ((n,b),a,k)).2=0
 ·rw[aK h];exact(ai (by show ah.c .neq (cm ((n,b),a,k)).2 0=false;rw[aT,h];rfl)).2 (.ret _)
 ·rw[aX h];exact(aj (by show ah.c .neq (cm ((n,b),a,k)).2 0=true;rw[aT];exact bne_iff_ne.2 h)).2 (.ret _)
def fY:(((Int×List Int)×Int))×Int→(((Int×List Int)×Int))×Int:=fun((b,a),k)=>(bif decide ((cm (b,a,k)).2=0) then((b,ah.b .add .i64 a k),ah.v .i64 (cm (b,a,k)).1) else((b,a),0))
def ahD:bL:=⟨[.ptr [.d (.struct [yI,yB]),.d yI]], [yI], [yI],(@tt ((((Int×List Int)×Int))×Int)),fY,false⟩
theorem Wi:bL.Sound Tryz.prog 237 ahD:=bQ ap bR true 54 iz mz pz [] [] (fun A (((r00,r01),r1),width)=>Zp A r00 r01 r1 width) (fun _=>Empty.elim) Empty.elim (fc Tryz.func237 fz) (sc Kg sz) (fun _ y=>y.elim) fun((((r00,r01),r1),width):(((Int×List Int)×Int))×Int) hp hv h=>aen
inductive TT where
 | c0 (a0:Int) (a1:Int) (a2:List Int) (a3:Int) (a4:Int) (a5:Int) (a6:Int) (a7:Int) (a8:Int) (a9:Int) (cB:Int) (da:Int)
noncomputable def YN:TT→eD
 | .c0 a0 a1 a2 a3 a4 a5 a6 a7 a8 a9 cB da=>⟨[⟨241,34,(en [(0,.ptr 0 0),(3,.ptr 1 0),(4,vi a0)]),[.inLoop (cw Tryz.f241 [1,1,1,0,0,0]),.inBlock 0,.code (cw Tryz.f241 [1,1,1,1])],[],none⟩],[.flat false [vi a1,.sl yU a2,vi a3],.flat false [.int .u8 false a4,.int .u8 false a5,.int .u8 false a6,.int .u8 false a7,.int .u8 false a8,.int .u8 false a9,.int .u8 false cB,.int .u8 false da],.dead]⟩
def ae2(A:aI)(r00:Int)(r01:List Int)(r1:Int):LT ((((Int×List Int)×Int))×(List Int)) TT:=.more (.c0 0 r00 r01 r1 0 0 0 0 0 0 0 0)
def Me(A:aI):TT→LT ((((Int×List Int)×Int))×(List Int)) TT
 | .c0 a0 a1 a2 a3 a4 a5 a6 a7 a8 a9 cB da=>.br (A.c .leq (A.b .add .i64 a3 8) a1) (.br (A.c .lss a0 8) (.need (A.k (@tt ((((Int×List Int)×Int))×Int)) (((a1,a2),a3),8)) (.need (A.and (A.c .leq 0 a0) (A.c .lss a0 8)) (.more (.c0 (A.b .add .i64 a0 1) (A.k fY (((a1,a2),a3),8)).1.1.1 (A.k fY (((a1,a2),a3),8)).1.1.2 (A.k fY (((a1,a2),a3),8)).1.2 (A.n yU (A.set [a4,a5,a6,a7,a8,a9,cB,da] a0 (A.v .u8 (A.k fY (((a1,a2),a3),8)).2)) 0:Int) (A.n yU (A.set [a4,a5,a6,a7,a8,a9,cB,da] a0 (A.v .u8 (A.k fY (((a1,a2),a3),8)).2)) 1:Int) (A.n yU (A.set [a4,a5,a6,a7,a8,a9,cB,da] a0 (A.v .u8 (A.k fY (((a1,a2),a3),8)).2)) 2:Int) (A.n yU (A.set [a4,a5,a6,a7,a8,a9,cB,da] a0 (A.v .u8 (A.k fY (((a1,a2),a3),8)).2)) 3:Int) (A.n yU (A.set [a4,a5,a6,a7,a8,a9,cB,da] a0 (A.v .u8 (A.k fY (((a1,a2),a3),8)).2)) 4:Int) (A.n yU (A.set [a4,a5,a6,a7,a8,a9,cB,da] a0 (A.v .u8 (A.k fY (((a1,a2),a3),8)).2)) 5:Int) (A.n yU (A.set [a4,a5,a6,a7,a8,a9,cB,da] a0 (A.v .u8 (A.k fY (((a1,a2),a3),8)).2)) 6:Int) (A.n yU (A.set [a4,a5,a6,a7,a8,a9,cB,da] a0 (A.v .u8 (A.k fY (((a1,a2),a3),8)).2)) 7:Int))))) (.need (A.and (A.c .eql a0 a0) (A.and (A.c .leq 0 a0) (A.c .leq a0 140737488355328))) (.ret (((a1,a2),a3),(A.spl (A.r a0 (0:Int)) 0 (A.s [a4,a5,a6,a7,a8,a9,cB,da] 0 (A.mn (A.l [a4,a5,a6,a7,a8,a9,cB,da]) (A.l (A.r a0 (0:Int)))))))))) (.need (A.and (A.c .eql a0 a0) (A.and (A.c .leq 0 a0) (A.c .leq a0 140737488355328))) (.ret (((a1,a2),a3),(A.spl (A.r a0 (0:Int)) 0 (A.s [a4,a5,a6,a7,a8,a9,cB,da] 0 (A.mn (A.l [a4,a5,a6,a7,a8,a9,cB,da]) (A.l (A.r a0 (0:Int)))))))))
def Zt(n:Nat)(room:List Int):List Int:=ah.spl (ah.r (n:Int) (0:Int)) 0 (ah.s room 0 (ah.mn (ah.l room) (ah.l (ah.r (n:Int) (0:Int)))))
def LZ:Nat→Nat→List Int→(Int×List Int)×Int→((Int×List Int)×Int)×List Int
 | 0,n,room,s=>(s,Zt n room)
 | k+1,n,room,s=>bif ah.c .leq (ah.b .add .i64 s.2 8) s.1.1 then LZ k (n+1) (ah.set room (n:Int) (ah.v .u8 (fY (s,8)).2)) (fY (s,8)).1 else(s,Zt n room)
theorem Qr:∀(k n:Nat) (room:List Int) (s:(Int×List Int)×Int),n+k=8→room.length=8→
  au (Me ah) (.more (.c0 (n:Int) s.1.1 s.1.2 s.2 (room.getD 0 0) (room.getD 1 0) (room.getD 2 0) (room.getD 3 0) (room.getD 4 0) (room.getD 5 0) (room.getD 6 0) (room.getD 7 0))) (LZ k n room s):=by
 intro k
 induction k with
 | zero=>
   intro n room s hn hr
   have out:au (Me ah) (.need (ah.and (ah.c .eql (n:Int) (n:Int)) (ah.and (ah.c .leq 0 (n:Int)) (ah.c .leq (n:Int) 140737488355328))) (.ret (s,Zt n room))) (LZ 0 n room s):=
    af.2 ⟨by rw[aJ,aJ,aD,ao,ao];simp;omega,.ret _⟩
   match room,hr with
   | [x0,x1,x2,x3,x4,x5,x6,x7],_=>
   rw[ak,Me]
   cases ah.c .leq (ah.b .add .i64 s.2 8) s.1.1
   ·exact(ai rfl).2 out
   ·exact(aj rfl).2 ((ai (by rw[ar];exact aX (by omega))).2 out)
 | succ k ih=>
   intro n room s hn hr
   have e:=ih (n+1) (ah.set room (n:Int) (ah.v .u8 (fY (s,8)).2)) (fY (s,8)).1 (by omega) (by rw[yp,List.length_set];exact hr)
   rw[ak,Me,LZ]
   match room,hr with
   | [x0,x1,x2,x3,x4,x5,x6,x7],_=>
     cases ah.c .leq (ah.b .add .i64 s.2 8) s.1.1
     ·exact(ai rfl).2 (af.2 ⟨by rw[aJ,aJ,aD,ao,ao];simp;omega,.ret _⟩)
     ·refine(aj rfl).2 ((aj (by rw[ar];exact aK (by omega))).2 (af.2 ⟨rfl,af.2 ⟨by rw[aJ,ao,ar];simp;omega,?_⟩⟩))
      rw[bU (i:=n) (by omega),show ah.k fY (((s.1.1,s.1.2),s.2),8)=fY (s,8) from rfl]
      generalize fY (s,8)=q at e ⊢
      generalize ah.v .u8 q.2=v at e ⊢
      exact e
theorem YU{n a:Int}{b:List Int}:au (Me ah) (ae2 ah n b a) (LZ 8 0 [0,0,0,0,0,0,0,0] ((n,b),a)):=
 Qr 8 0 [0,0,0,0,0,0,0,0] ((n,b),a) rfl rfl
def pU:(((Int×List Int)×Int))×Unit→(((Int×List Int)×Int))×(List Int):=fun(s,_)=>LZ 8 0 [0,0,0,0,0,0,0,0] s
def ahj:bL:=⟨[.ptr [.d (.struct [yI,yB]),.d yI]], [], [yB],(@tt ((((Int×List Int)×Int))×Unit)),pU,false⟩
theorem aeF:bL.Sound Tryz.prog 241 ahj:=bQ ap bR true 21 iz (mc Wi mz) pz [⟨241,3, [[0,3,4]]⟩] [] (fun A (((r00,r01),r1),())=>ae2 A r00 r01 r1) Me YN (fc Tryz.func241 fz) sz (fun A y=>match y with |.c0 a0 a1 a2 a3 a4 a5 a6 a7 a8 a9 cB da=>⟨44,by kernel_rfl,by kernel_rfl⟩) fun((((r00,r01),r1),()):(((Int×List Int)×Int))×Unit) hp hv h=>YU
theorem ay{R Y:Type}{step:Y→LT R Y}{t:LT R Y}{r r':R}(h:r=r')(h2:au step t r):au step t r':=h▸h2
def jF{R Y:Type}(p:R→Prop):LT R Y→Prop
 | .ret r=>p r
 | .more _=>False
 | .br b t e=>(b=true→jF p t)∧(b=false→jF p e)
 | .need b t=>b=true→jF p t
 | .eqs _ t=>jF p t
 | .and a _=>jF p a
 | .bad _ _=>True
theorem fv{R Y:Type}{d:R}{p:R→Prop}:∀{t:LT R Y},t.pre=true→jF p t→p (t.val d)
 | .ret _,_,h=>h
 | .more _,_,h=>h.elim
 | .br b t e,h1,h2=>by
   cases b with
   | true=>exact fv (t:=t) h1 (h2.1 rfl)
   | false=>exact fv (t:=e) h1 (h2.2 rfl)
 | .need b t,h1,h2=>by
   rw[LT.pre,cd] at h1
   exact fv (t:=t) h1.2 (h2 h1.1)
 | .eqs _ t,h1,h2=>fv (t:=t) h1 h2
 | .and _ _,h,_=>by cases h
 | .bad _ _,h,_=>by cases h
abbrev dR(A:aI)(bN:Int)(bB:List Int):=(A.b .add .i64 (A.k fY (((bN,bB),0),2)).2 1)
abbrev fR(A:aI)(bN:Int)(bB:List Int):=(A.k fY ((A.k fY (((bN,bB),0),2)).1,3))
abbrev qJ(A:aI)(bN:Int)(bB:List Int):=(A.k Qc ((bN,bB),(dR A bN bB),0,([]:List Int)))
abbrev nH:LT ((Int×Int×(Int×Int×Int×Int×Int)×Int×List Int)×Int) Empty:=(.ret ((0,0,(0,0,0,0,0),0,([]:List Int)),51))
abbrev nI(A:aI)(bN:Int)(bB:List Int)(cTime:Int)(cPos:Int)(cMode:Int)(cNext:Int)(cMember:Int):=(A.k Qc ((bN,bB),(dR A bN bB),(A.k qm (cTime,cPos,cMode,cNext,cMember)).1))
abbrev Ua(A:aI)(bN:Int)(bB:List Int):LT ((Int×Int×(Int×Int×Int×Int×Int)×Int×List Int)×Int) Empty:=(.need (A.k (@tt ((Int×Int×(Int×Int×Int×Int×Int)×Int×List Int))) ((dR A bN bB),(fR A bN bB).2,(0,0,0,0,0),0,([]:List Int))) (.br (A.c .neq (A.k qe ((dR A bN bB),(fR A bN bB).2,(0,0,0,0,0),0,([]:List Int))) 0) (nH) (.ret (((dR A bN bB),(fR A bN bB).2,(0,0,0,0,0),0,([]:List Int)),0))))
abbrev qa(A:aI)(bN:Int)(bB:List Int):=(A.k sU (qJ A bN bB).2.1)
abbrev IM(A:aI)(bN:Int)(bB:List Int):=(A.k fY ((fR A bN bB).1,(A.b .sub .i64 (dR A bN bB) 2)))
abbrev P_(A:aI)(bN:Int)(bB:List Int):=(A.k (@tt ((((Int×List Int)×Int))×Int)) ((A.k fY (((bN,bB),0),2)).1,3))
abbrev FX(A:aI)(bN:Int)(bB:List Int):=(A.k pU (((qJ A bN bB).1,55),()))
abbrev Lx(A:aI)(bN:Int)(bB:List Int):=(A.k (@tt ((Int×List Int))) (qJ A bN bB).2.1)
abbrev EI(A:aI)(bN:Int)(bB:List Int):=(A.k fY ((fR A bN bB).1,8))
abbrev Pv(A:aI)(bN:Int)(bB:List Int):=(A.k pU (((qJ A bN bB).1,(A.k fY ((EI A bN bB).1,3)).1.2),()))
def t50(A:aI)(bN:Int)(bB:List Int)(cTime:Int)(cPos:Int)(cMode:Int)(cNext:Int)(cMember:Int):LT ((Int×Int×(Int×Int×Int×Int×Int)×Int×List Int)×Int) Empty:=.need (A.k (@tt ((Int×List Int))) (bN,bB)) (.br (A.c .neq (A.k mX (bN,bB)) 0) (.ret ((0,0,(0,0,0,0,0),0,([]:List Int)),(A.k mX (bN,bB)))) (.need (A.k (@tt ((Int×Int×Int×Int×Int)×Int)) ((cTime,cPos,cMode,cNext,cMember),8)) (.br (A.c .neq (A.k pF ((cTime,cPos,cMode,cNext,cMember),8)) 0) (.ret ((0,0,(0,0,0,0,0),0,([]:List Int)),40)) (.need (A.k (@tt ((((Int×List Int)×Int))×Int)) (((bN,bB),0),2)) (.need (A.k (@tt (Int×Int)) (bN,(dR A bN bB))) (.br (A.not (A.k W9 (bN,(dR A bN bB)))) (nH) (.br (A.c .eql (dR A bN bB) 1) (.need (P_ A bN bB) (.need (A.k (@tt ((((Int×List Int)×Int))×Int)) ((fR A bN bB).1,8)) (.need (A.k (@tt ((((Int×List Int)×Int))×Int)) ((EI A bN bB).1,3)) (.br (A.c .neq (A.k fY ((EI A bN bB).1,3)).2 0) (nH) (.need (A.k (@tt ((Int×List Int)×Int×(Int×List Int))) ((bN,bB),(dR A bN bB),0,([]:List Int))) (.br (A.c .neq (qJ A bN bB).2.2 0) (.ret ((0,0,(0,0,0,0,0),0,([]:List Int)),(qJ A bN bB).2.2)) (.br (A.c .eql (dR A bN bB) 2) (.need (A.k (@tt ((((Int×List Int)×Int))×Unit)) (((qJ A bN bB).1,(A.k fY ((EI A bN bB).1,3)).1.2),())) (.need (A.k (@tt ((Int×Int×(Int×Int×Int×Int×Int)×Int×List Int))) ((dR A bN bB),0,(cTime,cPos,cMode,cNext,cMember),(fR A bN bB).2,(Pv A bN bB).2)) (.br (A.c .neq (A.k qe ((dR A bN bB),0,(cTime,cPos,cMode,cNext,cMember),(fR A bN bB).2,(Pv A bN bB).2)) 0) (nH) (.ret (((dR A bN bB),0,(cTime,cPos,cMode,cNext,cMember),(fR A bN bB).2,(Pv A bN bB).2),0))))) (.br (A.c .eql (dR A bN bB) 4) (.need (A.k (@tt ((((Int×List Int)×Int))×Unit)) (((qJ A bN bB).1,55),())) (.need (Lx A bN bB) (.br (A.c .neq (qa A bN bB).2 0) (nH) (.need (A.k (@tt ((Int×Int×(Int×Int×Int×Int×Int)×Int×List Int))) ((dR A bN bB),0,(qa A bN bB).1,(fR A bN bB).2,(FX A bN bB).2)) (.br (A.c .neq (A.k qe ((dR A bN bB),0,(qa A bN bB).1,(fR A bN bB).2,(FX A bN bB).2)) 0) (nH) (.ret (((dR A bN bB),0,(qa A bN bB).1,(fR A bN bB).2,(FX A bN bB).2),0))))))) (.br (A.c .eql (dR A bN bB) 3) (.need (Lx A bN bB) (.br (A.c .neq (qa A bN bB).2 0) (nH) (.need (A.k (@tt ((Int×Int×(Int×Int×Int×Int×Int)×Int×List Int))) ((dR A bN bB),0,(qa A bN bB).1,(fR A bN bB).2,([]:List Int))) (.br (A.c .neq (A.k qe ((dR A bN bB),0,(qa A bN bB).1,(fR A bN bB).2,([]:List Int))) 0) (nH) (.ret (((dR A bN bB),0,(qa A bN bB).1,(fR A bN bB).2,([]:List Int)),0)))))) (.need (A.k (@tt ((Int×Int×(Int×Int×Int×Int×Int)×Int×List Int))) ((dR A bN bB),0,((EI A bN bB).2,0,0,0,0),(fR A bN bB).2,([]:List Int))) (.br (A.c .neq (A.k qe ((dR A bN bB),0,((EI A bN bB).2,0,0,0,0),(fR A bN bB).2,([]:List Int))) 0) (nH) (.ret (((dR A bN bB),0,((EI A bN bB).2,0,0,0,0),(fR A bN bB).2,([]:List Int)),0))))))))))))) (.br (A.c .eql (dR A bN bB) 2) (.need (P_ A bN bB) (.need (A.k (@tt ((Int×Int×Int×Int×Int))) (cTime,cPos,cMode,cNext,cMember)) (.need (A.k (@tt ((Int×List Int)×Int×(Int×List Int))) ((bN,bB),(dR A bN bB),(A.k qm (cTime,cPos,cMode,cNext,cMember)).1)) (.br (A.c .neq (nI A bN bB cTime cPos cMode cNext cMember).2.2 0) (.ret ((0,0,(0,0,0,0,0),0,([]:List Int)),(nI A bN bB cTime cPos cMode cNext cMember).2.2)) (.br (A.c .eql (dR A bN bB) 2) (.need (A.k (@tt ((((Int×List Int)×Int))×Unit)) (((nI A bN bB cTime cPos cMode cNext cMember).1,(fR A bN bB).1.2),())) (.need (A.k (@tt ((Int×Int×(Int×Int×Int×Int×Int)×Int×List Int))) ((dR A bN bB),(fR A bN bB).2,(cTime,cPos,cMode,cNext,cMember),0,(A.k pU (((nI A bN bB cTime cPos cMode cNext cMember).1,(fR A bN bB).1.2),())).2)) (.br (A.c .neq (A.k qe ((dR A bN bB),(fR A bN bB).2,(cTime,cPos,cMode,cNext,cMember),0,(A.k pU (((nI A bN bB cTime cPos cMode cNext cMember).1,(fR A bN bB).1.2),())).2)) 0) (nH) (.ret (((dR A bN bB),(fR A bN bB).2,(cTime,cPos,cMode,cNext,cMember),0,(A.k pU (((nI A bN bB cTime cPos cMode cNext cMember).1,(fR A bN bB).1.2),())).2),0))))) (.br (A.c .eql (dR A bN bB) 4) (.need (A.k (@tt ((((Int×List Int)×Int))×Unit)) (((nI A bN bB cTime cPos cMode cNext cMember).1,55),())) (.need (A.k (@tt ((Int×List Int))) (nI A bN bB cTime cPos cMode cNext cMember).2.1) (.br (A.c .neq (A.k sU (nI A bN bB cTime cPos cMode cNext cMember).2.1).2 0) (nH) (.need (A.k (@tt ((Int×Int×(Int×Int×Int×Int×Int)×Int×List Int))) ((dR A bN bB),(fR A bN bB).2,(A.k sU (nI A bN bB cTime cPos cMode cNext cMember).2.1).1,0,(A.k pU (((nI A bN bB cTime cPos cMode cNext cMember).1,55),())).2)) (.br (A.c .neq (A.k qe ((dR A bN bB),(fR A bN bB).2,(A.k sU (nI A bN bB cTime cPos cMode cNext cMember).2.1).1,0,(A.k pU (((nI A bN bB cTime cPos cMode cNext cMember).1,55),())).2)) 0) (nH) (.ret (((dR A bN bB),(fR A bN bB).2,(A.k sU (nI A bN bB cTime cPos cMode cNext cMember).2.1).1,0,(A.k pU (((nI A bN bB cTime cPos cMode cNext cMember).1,55),())).2),0))))))) (.br (A.c .eql (dR A bN bB) 3) (.need (A.k (@tt ((Int×List Int))) (nI A bN bB cTime cPos cMode cNext cMember).2.1) (.br (A.c .neq (A.k sU (nI A bN bB cTime cPos cMode cNext cMember).2.1).2 0) (nH) (.need (A.k (@tt ((Int×Int×(Int×Int×Int×Int×Int)×Int×List Int))) ((dR A bN bB),(fR A bN bB).2,(A.k sU (nI A bN bB cTime cPos cMode cNext cMember).2.1).1,0,([]:List Int))) (.br (A.c .neq (A.k qe ((dR A bN bB),(fR A bN bB).2,(A.k sU (nI A bN bB cTime cPos cMode cNext cMember).2.1).1,0,([]:List Int))) 0) (nH) (.ret (((dR A bN bB),(fR A bN bB).2,(A.k sU (nI A bN bB cTime cPos cMode cNext cMember).2.1).1,0,([]:List Int)),0)))))) (Ua A bN bB)))))))) (.need (P_ A bN bB) (.need (A.k (@tt ((((Int×List Int)×Int))×Int)) ((fR A bN bB).1,(A.b .sub .i64 (dR A bN bB) 2))) (.br (A.c .neq (IM A bN bB).2 0) (nH) (.need (A.k (@tt ((Int×List Int)×Int×(Int×List Int))) ((bN,bB),(dR A bN bB),0,([]:List Int))) (.br (A.c .neq (qJ A bN bB).2.2 0) (.ret ((0,0,(0,0,0,0,0),0,([]:List Int)),(qJ A bN bB).2.2)) (.br (A.c .eql (dR A bN bB) 2) (.need (A.k (@tt ((((Int×List Int)×Int))×Unit)) (((qJ A bN bB).1,(IM A bN bB).1.2),())) (.need (A.k (@tt ((Int×Int×(Int×Int×Int×Int×Int)×Int×List Int))) ((dR A bN bB),(fR A bN bB).2,(cTime,cPos,cMode,cNext,cMember),0,(A.k pU (((qJ A bN bB).1,(IM A bN bB).1.2),())).2)) (.br (A.c .neq (A.k qe ((dR A bN bB),(fR A bN bB).2,(cTime,cPos,cMode,cNext,cMember),0,(A.k pU (((qJ A bN bB).1,(IM A bN bB).1.2),())).2)) 0) (nH) (.ret (((dR A bN bB),(fR A bN bB).2,(cTime,cPos,cMode,cNext,cMember),0,(A.k pU (((qJ A bN bB).1,(IM A bN bB).1.2),())).2),0))))) (.br (A.c .eql (dR A bN bB) 4) (.need (A.k (@tt ((((Int×List Int)×Int))×Unit)) (((qJ A bN bB).1,55),())) (.need (Lx A bN bB) (.br (A.c .neq (qa A bN bB).2 0) (nH) (.need (A.k (@tt ((Int×Int×(Int×Int×Int×Int×Int)×Int×List Int))) ((dR A bN bB),(fR A bN bB).2,(qa A bN bB).1,0,(FX A bN bB).2)) (.br (A.c .neq (A.k qe ((dR A bN bB),(fR A bN bB).2,(qa A bN bB).1,0,(FX A bN bB).2)) 0) (nH) (.ret (((dR A bN bB),(fR A bN bB).2,(qa A bN bB).1,0,(FX A bN bB).2),0))))))) (.br (A.c .eql (dR A bN bB) 3) (.need (Lx A bN bB) (.br (A.c .neq (qa A bN bB).2 0) (nH) (.need (A.k (@tt ((Int×Int×(Int×Int×Int×Int×Int)×Int×List Int))) ((dR A bN bB),(fR A bN bB).2,(qa A bN bB).1,0,([]:List Int))) (.br (A.c .neq (A.k qe ((dR A bN bB),(fR A bN bB).2,(qa A bN bB).1,0,([]:List Int))) 0) (nH) (.ret (((dR A bN bB),(fR A bN bB).2,(qa A bN bB).1,0,([]:List Int)),0)))))) (Ua A bN bB)))))))))))))))))
theorem agd{k:Int}{p:Prop}(hk:(k==0)=false):k=0→p:=fun h=>by rw[h] at hk;cases hk
theorem acJ{x:Int}{p:Prop}(h:ah.c .neq x 0=true):x=0→p:=fun e=>by rw[e] at h;cases h
theorem WO{x y:Int}(h:ah.c .neq x 0=false):y=0→x=0:=fun _=>by
 rw[aT] at h
 simpa using h
theorem agc{x:Int}(h:ah.c .neq x 0=false):x=0:=WO (y:=0) h rfl
def ot:(Int×List Int)×(Int×Int×Int×Int×Int)→(Int×Int×(Int×Int×Int×Int×Int)×Int×List Int)×Int:=fun((n,b),(t,p,m,x,s))=>(t50 ah n b t p m x s).val (Ty.bi [.struct [.int .i64,.int .i64,.struct [.int .i64,.int .i64,.int .i64,.int .i64,.int .i64],.int .i64,.slice (.int .u8)],.int .i64])
theorem GL{n t p m x s:Int}{b:List Int}:(t50 ah n b t p m x s).pre=true:=by
 simp only[t50,Pv,EI,Lx,FX,P_,IM,qa,Ua,nI,nH,qJ,fR,dR,LT.pre,aA,dU,jd,Bool.true_and,implies_true,and_self]
theorem LN{n t p m x s:Int}{b:List Int}:jF (fun r=>r.2=0→ah.k qe r.1=0) (t50 ah n b t p m x s):=by
 simp only[t50,Pv,EI,Lx,FX,P_,IM,qa,Ua,nI,nH,qJ,fR,dR,jF]
 repeat' first
  | exact acJ (by assumption)
  | exact WO (by assumption)
  | refine⟨fun h=>?_,fun h=>?_⟩
  | exact agd rfl
  | exact agc (by assumption)
  | intro h
theorem VJ{b:Int×List Int}{c:Int×Int×Int×Int×Int}(h:(ot (b,c)).2=0):rU (ot (b,c)).1=true:=by
 obtain⟨n,b⟩:=b
 obtain⟨t,p,m,x,s⟩:=c
 have k:=fv (d:=Ty.bi [.struct [.int .i64,.int .i64,.struct [.int .i64,.int .i64,.int .i64,.int .i64,.int .i64],.int .i64,.slice (.int .u8)],.int .i64]) GL LN h
 have k:qe (ot ((n,b),(t,p,m,x,s))).1=0:=k
 generalize (ot ((n,b),(t,p,m,x,s))).1=f at k
 obtain⟨k1,r,⟨t',p',m',n',s'⟩,fr,d⟩:=f
 rw[Vb] at k
 cases hf:rU (k1,r,(t',p',m',n',s'),fr,d)
 ·rw[hf] at k;cases k
 ·rfl
def xD:(Int×List Int)×(Int×Int×Int×Int×Int)→(Int×Int×(Int×Int×Int×Int×Int)×Int×List Int)×Bool:=fun(b,c)=>
 bif (ot (b,c)).2 != 0||(ot (b,c)).1.1==1||(ot (b,c)).1.2.2.1 != c then(Bv,false) else((ot (b,c)).1,true)
def nR(b:Int×List Int):(Int×Int×(Int×Int×Int×Int×Int)×Int×List Int)×Bool:=
 bif (ot (b,zS)).2 != 0||(ot (b,zS)).1.1==2 then(Bv,false) else((ot (b,zS)).1,true)
def uk:((Int×List Int)×(Int×Int×Int×Int×Int))→((Int×Int×(Int×Int×Int×Int×Int)×Int×List Int)×Int):=ot
def aiy:ax:=⟨[(.struct [yI,yB]),(.struct [yI,yI,yI,yI,yI])], [(.struct [yI,yI,(.struct [yI,yI,yI,yI,yI]),yI,yB]),yI],(@tt ((Int×List Int)×(Int×Int×Int×Int×Int))),uk⟩
theorem ahd:Sd 179 aiy:=pG ap bR true 227  iz (mc Wi (mc aeF mz)) pz [] [] (fun A ((bN,bB),cTime,cPos,cMode,cNext,cMember)=>t50 A bN bB cTime cPos cMode cNext cMember) (fun _=>Empty.elim) Empty.elim (fc Tryz.func179 fz) (sc aey (sc E7 (sc aga (sc F_ (sc ace (sc ag5 (sc agb sz))))))) (fun _ y=>y.elim) fun((n,b),(t,p,m,x,s)) hp h=>LT.runs (LT.gg (by kernel_rfl)) GL
def t53(A:aI)(bN:Int)(bB:List Int)(cTime:Int)(cPos:Int)(cMode:Int)(cNext:Int)(cMember:Int):LT ((Int×Int×(Int×Int×Int×Int×Int)×Int×List Int)×Bool) Empty:=.need (A.k (@tt ((Int×List Int)×(Int×Int×Int×Int×Int))) ((bN,bB),cTime,cPos,cMode,cNext,cMember)) (.br (A.c .neq (A.k uk ((bN,bB),cTime,cPos,cMode,cNext,cMember)).2 0) (.ret ((0,0,(0,0,0,0,0),0,([]:List Int)),false)) (.br (A.c .eql (A.k uk ((bN,bB),cTime,cPos,cMode,cNext,cMember)).1.1 1) (.ret ((0,0,(0,0,0,0,0),0,([]:List Int)),false)) (.br (A.not (A.and (A.c .eql (A.k uk ((bN,bB),cTime,cPos,cMode,cNext,cMember)).1.2.2.1.1 cTime) (A.and (A.c .eql (A.k uk ((bN,bB),cTime,cPos,cMode,cNext,cMember)).1.2.2.1.2.1 cPos) (A.and (A.c .eql (A.k uk ((bN,bB),cTime,cPos,cMode,cNext,cMember)).1.2.2.1.2.2.1 cMode) (A.and (A.c .eql (A.k uk ((bN,bB),cTime,cPos,cMode,cNext,cMember)).1.2.2.1.2.2.2.1 cNext) (A.and (A.c .eql (A.k uk ((bN,bB),cTime,cPos,cMode,cNext,cMember)).1.2.2.1.2.2.2.2 cMember) true)))))) (.ret ((0,0,(0,0,0,0,0),0,([]:List Int)),false)) (.ret ((A.k uk ((bN,bB),cTime,cPos,cMode,cNext,cMember)).1,true)))))
def H_:((Int×List Int)×(Int×Int×Int×Int×Int))→((Int×Int×(Int×Int×Int×Int×Int)×Int×List Int)×Bool):=fun((bN,bB),cTime,cPos,cMode,cNext,cMember)=>(t53 ah bN bB cTime cPos cMode cNext cMember).val (Ty.bi [(.struct [yI,yI,(.struct [yI,yI,yI,yI,yI]),yI,yB]),.bool])
def aiC:ax:=⟨[(.struct [yI,yB]),(.struct [yI,yI,yI,yI,yI])], [(.struct [yI,yI,(.struct [yI,yI,yI,yI,yI]),yI,yB]),.bool],(@tt ((Int×List Int)×(Int×Int×Int×Int×Int))),H_⟩
theorem ajb:Sd 103 aiC:=aH ap bR true 50 [] (fun A ((bN,bB),cTime,cPos,cMode,cNext,cMember)=>t53 A bN bB cTime cPos cMode cNext cMember) (fc Tryz.func103 fz) (sc ahd sz) (fun(((bN,bB),cTime,cPos,cMode,cNext,cMember):(Int×List Int)×(Int×Int×Int×Int×Int)) hp h=>by
 show(t53 ah bN bB cTime cPos cMode cNext cMember).pre=true
 simp[t53,LT.pre,aA,dU])
def t51(A:aI)(bN:Int)(bB:List Int):LT ((Int×Int×(Int×Int×Int×Int×Int)×Int×List Int)×Bool) Empty:=.need (A.k (@tt ((Int×List Int)×(Int×Int×Int×Int×Int))) ((bN,bB),0,0,0,0,0)) (.br (A.c .neq (A.k uk ((bN,bB),0,0,0,0,0)).2 0) (.ret ((0,0,(0,0,0,0,0),0,([]:List Int)),false)) (.br (A.c .eql (A.k uk ((bN,bB),0,0,0,0,0)).1.1 2) (.ret ((0,0,(0,0,0,0,0),0,([]:List Int)),false)) (.ret ((A.k uk ((bN,bB),0,0,0,0,0)).1,true))))
def EX:((Int×List Int))→((Int×Int×(Int×Int×Int×Int×Int)×Int×List Int)×Bool):=fun(bN,bB)=>(t51 ah bN bB).val (Ty.bi [(.struct [yI,yI,(.struct [yI,yI,yI,yI,yI]),yI,yB]),.bool])
def aio:ax:=⟨[(.struct [yI,yB])], [(.struct [yI,yI,(.struct [yI,yI,yI,yI,yI]),yI,yB]),.bool],(@tt ((Int×List Int))),EX⟩
theorem aiY:Sd 163 aio:=aH ap bR true 43 [] (fun A (bN,bB)=>t51 A bN bB) (fc Tryz.func163 fz) (sc ahd sz) (fun((bN,bB):(Int×List Int)) hp h=>by
 show(t51 ah bN bB).pre=true
 simp[t51,LT.pre,aA,dU])
theorem U5{b:Int×List Int}{t p m n s:Int}:H_ (b,(t,p,m,n,s))=xD (b,(t,p,m,n,s)):=by
 obtain⟨bn,bb⟩:=b
 simp only[H_,t53,LT.val,xD,aA,aT,aD,aJ,eY,uk,Bool.and_true]
 generalize ot ((bn,bb),(t,p,m,n,s))=q
 obtain⟨⟨k,r,⟨t',p',m',n',s'⟩,fr,d⟩,e⟩:=q
 simp only[]
 have hx:((t',p',m',n',s') != (t,p,m,n,s))=!(t'==t&&(p'==p&&(m'==m&&(n'==n&&s'==s)))):=by
  rw[Bool.eq_iff_iff]
  simp only[bne_iff_ne,ne_eq,Bool.not_eq_true',Prod.mk.injEq]
  rw[←Bool.not_eq_true]
  simp only[cd,beq_iff_eq]
 rw[hx]
 cases e != 0<;>cases k==1<;>cases (t'==t&&(p'==p&&(m'==m&&(n'==n&&s'==s))))<;>rfl
theorem UN{b:Int×List Int}:EX b=nR b:=by
 obtain⟨bn,bb⟩:=b
 simp only[EX,t51,LT.val,nR,aA,aT,aD,uk]
 show(bif (ot ((bn,bb),zS)).2 != 0 then(Bv,false) else bif (ot ((bn,bb),zS)).1.1==2 then(Bv,false) else((ot ((bn,bb),zS)).1,true))=_
 cases (ot ((bn,bb),zS)).2 != 0<;>cases (ot ((bn,bb),zS)).1.1==2<;>rfl
structure Si where
 (a0 a2:List (Int×List Int)) (a3 a5:Int)
structure IF where
 (b1:List (Int×List Int)) (b2 b4 b5:Int)
structure OC where
 (c0 c1 c2 c4:Int) (c5:List (Int×List Int)) (c6 c7 c8 c9:Int) (c10:List Int) (c11 c12 c13:Int) (c14:List Int)
inductive IW where
 | c0 (p:Si) (a1:Int) (a4:Int)
 | c1 (p:IF) (b0:Int) (b3:Int) (b6:List Int)
 | c2 (p:OC) (c3:Int) (yG:List Int)
noncomputable def Y2:IW→eD
 | .c0 p a1 a4=>⟨[⟨298,53,(en [(0,.sl (.struct [yI,yB]) p.a0),(2,.ptr 0 0),(4,vi a1),(12,.sl (.struct [yI,yB]) p.a2),(13,vi p.a3),(14,vi a4)]),[.inLoop (cw Tryz.f298 [1,1,0,1,0,0]),.inBlock 0,.code (cw Tryz.f298 [1,1,1])],[],none⟩],[.flat false [vi p.a5,.dp true],.dead]⟩
 | .c1 p b0 b3 b6=>⟨[⟨298,53,(en [(2,.ptr 0 0),(8,.ptr 1 0),(9,vi b0),(35,.sl (.struct [yI,yB]) p.b1),(36,vi p.b2),(37,vi b3)]),[.inLoop (cw Tryz.f298 [1,1,1,1,1,1,0,1,0,0]),.inBlock 2,.code (cw Tryz.f298 [1,1,1,1,1,1,1])],[],none⟩],[.flat false [vi p.b4,.dp true],.flat false [vi p.b5,.own 2],.arr false yU b6,.dead]⟩
 | .c2 p c3 yG=>⟨[⟨325,52,(en [(1,vi p.c0),(3,vi p.c1),(4,vi p.c2),(5,.ptr 0 0),(7,.ptr 1 0),(10,vi c3)]),[.inLoop (cw Tryz.f325 [1,1,1,0,0]),.inBlock 0],[],none⟩,⟨298,53,(en [(2,.ptr 2 0),(8,.ptr 3 0),(9,vi p.c4),(11,.ptr 4 0),(35,.sl (.struct [yI,yB]) p.c5),(36,vi p.c6),(37,vi p.c7)]),[.ops (ow Tryz.f298 [1,1,1,1,1,1,0,1,0,0,1,1,0,0,1,0]) ((ow Tryz.f298 [1,1,1,1,1,1,0,1,0,0,1,1,0,0,1,0]).toList.drop 5),.code (cw Tryz.f298 [1,1,1,1,1,1,0,1,0,0,1,1,0,0,1,1]),.inBlock 3,.code (cw Tryz.f298 [1,1,1,1,1,1,0,1,0,0,1,1,1]),.inLoop (cw Tryz.f298 [1,1,1,1,1,1,0,1,0,0]),.inBlock 2,.code (cw Tryz.f298 [1,1,1,1,1,1,1])],[],none⟩],[.flat false [vi p.c8,.own 5],.flat false [vi p.c9,.sl yU p.c10],.flat false [vi p.c11,.dp true],.flat false [vi p.c12,.own 5],.flat false [vi p.c13,.sl yU p.c14],.arr false yU yG,.dead]⟩
def acI(A:aI)(l:List (Int×List Int)):LT ((Int×List Int)×Int) IW:=.more (.c0 ⟨l,l,(A.l l),0⟩ 0 0)
def vk(A:aI):IW→LT ((Int×List Int)×Int) IW
 | .c0 p a1 a4=>.br (A.c .lss a4 p.a3) (.need (A.and (A.c .leq 0 a4) (A.c .lss a4 (A.l p.a2))) (.need (A.k (@tt ((Int×List Int))) (A.n (.struct [yI,yB]) p.a2 a4:Int×List Int)) (.br (A.c .neq (A.k mX (A.n (.struct [yI,yB]) p.a2 a4:Int×List Int)) 0) (.ret ((0,([]:List Int)),(A.k mX (A.n (.struct [yI,yB]) p.a2 a4:Int×List Int)))) (.more (.c0 p (A.mn (A.b .add .i64 a1 (A.n (.struct [yI,yB]) p.a2 a4:Int×List Int).1) 4097) (A.b .add .i64 a4 1)))))) (.br (A.c .gtr a1 4096) (.ret ((0,([]:List Int)),3)) (.need (A.k (@tt Int) a1) (.need (A.and (A.c .eql (A.k eE a1) (A.k eE a1)) (A.and (A.c .leq 0 (A.k eE a1)) (A.c .leq (A.k eE a1) 140737488355328))) (.more (.c1 ⟨p.a0,(A.l p.a0),p.a5,a1⟩ 0 0 (A.r (A.k eE a1) (0:Int)))))))
 | .c1 p b0 b3 b6=>.br (A.c .lss b3 p.b2) (.need (A.and (A.c .leq 0 b3) (A.c .lss b3 (A.l p.b1))) (.br (A.c .eql (A.b .rem .i64 b0 8) 0) (.br (A.c .eql (A.n (.struct [yI,yB]) p.b1 b3:Int×List Int).1 (A.n (.struct [yI,yB]) p.b1 b3:Int×List Int).1) (.need (A.and (A.c .leq 0 (A.b .quo .i64 b0 8)) (A.and (A.c .leq (A.b .quo .i64 b0 8) (A.l b6)) (A.c .leq (A.l b6) (A.l b6)))) (.need (A.and (A.c .leq 0 0) (A.and (A.c .leq 0 (A.l (A.n (.struct [yI,yB]) p.b1 b3:Int×List Int).2)) (A.c .leq (A.l (A.n (.struct [yI,yB]) p.b1 b3:Int×List Int).2) (A.l (A.n (.struct [yI,yB]) p.b1 b3:Int×List Int).2)))) (.more (.c1 p (A.b .add .i64 b0 (A.n (.struct [yI,yB]) p.b1 b3:Int×List Int).1) (A.b .add .i64 b3 1) (A.spl b6 (A.b .quo .i64 b0 8) (A.s (A.s (A.n (.struct [yI,yB]) p.b1 b3:Int×List Int).2 0 (A.l (A.n (.struct [yI,yB]) p.b1 b3:Int×List Int).2)) 0 (A.mn (A.l (A.s (A.n (.struct [yI,yB]) p.b1 b3:Int×List Int).2 0 (A.l (A.n (.struct [yI,yB]) p.b1 b3:Int×List Int).2))) (A.b .sub .i64 (A.l b6) (A.b .quo .i64 b0 8))))))))) (.more (.c2 ⟨b0,0,(A.n (.struct [yI,yB]) p.b1 b3:Int×List Int).1,b0,p.b1,p.b2,b3,p.b5,(A.n (.struct [yI,yB]) p.b1 b3:Int×List Int).1,(A.n (.struct [yI,yB]) p.b1 b3:Int×List Int).2,p.b4,p.b5,(A.n (.struct [yI,yB]) p.b1 b3:Int×List Int).1,(A.n (.struct [yI,yB]) p.b1 b3:Int×List Int).2⟩ 0 b6))) (.more (.c2 ⟨b0,0,(A.n (.struct [yI,yB]) p.b1 b3:Int×List Int).1,b0,p.b1,p.b2,b3,p.b5,(A.n (.struct [yI,yB]) p.b1 b3:Int×List Int).1,(A.n (.struct [yI,yB]) p.b1 b3:Int×List Int).2,p.b4,p.b5,(A.n (.struct [yI,yB]) p.b1 b3:Int×List Int).1,(A.n (.struct [yI,yB]) p.b1 b3:Int×List Int).2⟩ 0 b6)))) (.ret ((p.b5,b6),0))
 | .c2 p c3 yG=>.br (A.c .lss c3 p.c2) (.need (A.k qN ((p.c9,p.c10),c3)) (.br (A.k ul ((p.c9,p.c10),c3)) (.need (A.and (A.c .leq 0 (A.b .quo .i64 (A.b .sub .i64 (A.b .add .i64 p.c0 c3) p.c1) 8)) (A.c .lss (A.b .quo .i64 (A.b .sub .i64 (A.b .add .i64 p.c0 c3) p.c1) 8) (A.l yG))) (.need (A.k pL (A.b .sub .i64 (A.b .add .i64 p.c0 c3) p.c1)) (.need (A.and (A.c .leq 0 (A.b .quo .i64 (A.b .sub .i64 (A.b .add .i64 p.c0 c3) p.c1) 8)) (A.c .lss (A.b .quo .i64 (A.b .sub .i64 (A.b .add .i64 p.c0 c3) p.c1) 8) (A.l yG))) (.more (.c2 p (A.b .add .i64 c3 1) (A.set yG (A.b .quo .i64 (A.b .sub .i64 (A.b .add .i64 p.c0 c3) p.c1) 8) (A.b .or .u8 (A.n yU yG (A.b .quo .i64 (A.b .sub .i64 (A.b .add .i64 p.c0 c3) p.c1) 8):Int) (A.k xf (A.b .sub .i64 (A.b .add .i64 p.c0 c3) p.c1))))))))) (.more (.c2 p (A.b .add .i64 c3 1) yG)))) (.more (.c1 ⟨p.c5,p.c6,p.c11,p.c12⟩ (A.b .add .i64 p.c4 p.c13) (A.b .add .i64 p.c7 1) yG))
theorem NH(l m:List Bool)(i:Nat):(l++m).getD i false=if i<l.length then l.getD i false else m.getD (i-l.length) false:=by
 rw[nE,nE,nE,List.getElem?_append]
 split<;>rfl
theorem Iv{B b:List Int}{L:List Bool}{n m q:Nat}(h:Holds B L m)(hL:L.length=8*q)(hb:okB n b)(hm:q+b.length≤m):Holds (B.take q++b++B.drop (q+b.length)) (L++unpack n b) m:=by
 have hB:=h.1
 have hn:=hb.1
 refine⟨?_,fun x hx=>?_,fun i hi=>?_⟩
 ·rw[gm,gm,List.length_take,List.length_drop];omega
 ·rcases ku.1 hx with h2|h2
  ·rcases ku.1 h2 with h3|h3
   ·exact h.2.1 x (List.mem_of_mem_take h3)
   ·exact hb.2.1 x h3
  ·exact h.2.1 x (List.mem_of_mem_drop h2)
 ·have htl:(B.take q).length=q:=by rw[List.length_take];omega
  rw[NH,hL,lF]
  by_cases h1:i/8<q
  ·have e:fG (B.take q++b++B.drop (q+b.length)) i=fG B i:=by
    rw[fG,fG,nE,nE,List.append_assoc,List.getElem?_append_left (by omega),List.getElem?_take_of_lt h1]
   rw[e,if_pos (by omega)]
   exact h.2.2 i hi
  ·rw[if_neg (by omega)]
   by_cases h2:i/8<q+b.length
   ·have e:fG (B.take q++b++B.drop (q+b.length)) i=fG b (i-8*q):=by
     rw[fG,fG,nE,nE,List.append_assoc,List.getElem?_append_right (by omega),htl,List.getElem?_append_left (by omega),show(i-8*q)/8=i/8-q from by omega,show(i-8*q)%8=i%8 from by omega]
    rw[e]
    by_cases h3:i-8*q<n
    ·rw[show decide (i-8*q<n)=true from by simpa using h3,Bool.true_and]
    ·rw[show decide (i-8*q<n)=false from by simpa using h3,Bool.false_and]
     exact hb.2.2 _ (by omega) (by omega)
   ·have e:fG (B.take q++b++B.drop (q+b.length)) i=fG B i:=by
     rw[fG,fG,nE,nE,List.getElem?_append_right (by rw[gm];omega),gm,htl,List.getElem?_drop,show q+b.length+(i/8-(q+b.length))=i/8 from by omega]
    rw[e,h.2.2 i hi,show decide (i-8*q<n)=false from by simp[-List.length_flatMap];omega,Bool.false_and,nE,List.getElem?_eq_none (by omega)];rfl
theorem T4{l:List (Int×List Int)}(i:Nat):((l.take i).flatMap ju).length≤(l.flatMap ju).length:=by
 conv=>rhs;rw[←List.take_append_drop i l,List.flatMap_append,gm]
 omega
theorem Tk{l:List (Int×List Int)}{i n m:Nat}{b:List Int}(hi:i<l.length)(hll:l.length≤140737488355328)(hx:l[i]=((n:Int),b))(hb:okB n b)(hn:n≤4096)(hm:((l.take (i+1)).flatMap ju).length≤8*m)(hm2:m≤5000){R:(Int×List Int)×Int}
  (hnext:∀(p:IF) (B:List Int),p.b1=l→p.b2=(l.length:Int)→p.b5=((l.flatMap ju).length:Int)→Holds B ((l.take (i+1)).flatMap ju) m→au (vk ah) (.more (.c1 p ((((l.take (i+1)).flatMap ju).length:Nat):Int) ((i+1:Nat):Int) B)) R) :
  ∀(j k:Nat) (p:OC) (B:List Int),p.c0=((((l.take i).flatMap ju).length:Nat):Int)→p.c1=0→p.c2=(n:Int)→p.c4=((((l.take i).flatMap ju).length:Nat):Int)→p.c5=l→p.c6=(l.length:Int)→p.c7=(i:Int)→p.c10=b→p.c12=((l.flatMap ju).length:Int)→p.c13=(n:Int)→n-k=j→k≤n→Holds B ((l.take i).flatMap ju++unpack k b) m→au (vk ah) (.more (.c2 p (k:Int) B)) R:=by
 have hb0:=hb.1
 have htf:=rm hi
 have hL:ju l[i]=unpack n b:=by rw[hx,ju];rfl
 rw[hL] at htf
 intro j
 induction j with
 | zero=>
   intro k p B h0 h1 h2 h4 h5 h6 h7 h10 h12 h13 hj hk hB
   have:k=n:=by omega
   subst this
   simp only[ak,vk]
   refine(ai (by rw[h2,aC];simp)).2 ?_
   rw[←htf] at hB
   have e1:ah.b .add .i64 p.c4 p.c13=((((l.take (i+1)).flatMap ju).length:Nat):Int):=by
    rw[h4,h13,eH (by rw[htf,gm] at hm;omega),htf,gm,bG]
   have e2:ah.b .add .i64 p.c7 1=((i+1:Nat):Int):=by rw[h7,bU (by omega)]
   rw[e1,e2]
   exact hnext _ B h5 h6 h12 hB
 | succ j ih=>
   intro k p B h0 h1 h2 h4 h5 h6 h7 h10 h12 h13 hj hk hB
   have hm':=hm
   rw[htf,gm,bG] at hm'
   simp only[ak,vk]
   have hat:ah.b .sub .i64 (ah.b .add .i64 p.c0 (k:Int)) p.c1=(((((l.take i).flatMap ju).length+k:Nat)):Int):=by
    rw[h0,h1,eH (by omega),show ah.b .sub .i64 ((((l.take i).flatMap ju).length+k:Nat):Int) 0=((((l.take i).flatMap ju).length+k-0:Nat):Int) from pK (j:=0) (by omega) (by omega)];rfl
   have hlen:((l.take i).flatMap ju++unpack k b).length=((l.take i).flatMap ju).length+k:=by rw[gm,bG]
   refine(aj (by rw[h2,aC];simp[-List.length_flatMap];omega)).2 (af.2 ⟨by rw[h10,aA];simp[qN];omega,?_⟩)
   have hc:ah.k ul ((p.c9,p.c10),(k:Int))=fG b k:=by
    rw[h10,aA,zx hb.2.1 (by omega) (by omega) (by omega),gS]
   rw[hat]
   have hs:=Gn k b
   cases hbit:fG b k
   ·rw[hbit] at hs
    refine(ai (hc.trans hbit)).2 ?_
    refine gI (congrArg LT.more (congr (congrArg (IW.c2 p) (bU (by omega))) rfl)) (ih (k+1) p B h0 h1 h2 h4 h5 h6 h7 h10 h12 h13 (by omega) (by omega) ?_)
    rw[hs,←List.append_assoc]
    exact hB.skip
   ·rw[hbit] at hs
    refine(aj (hc.trans hbit)).2 (af.2 ⟨oW hB.1 (by omega) (by omega),af.2 ⟨vO,af.2 ⟨oW hB.1 (by omega) (by omega),?_⟩⟩⟩)
    refine gI (congrArg LT.more (congr (congrArg (IW.c2 p) (bU (by omega))) rfl)) (ih (k+1) p _ h0 h1 h2 h4 h5 h6 h7 h10 h12 h13 (by omega) (by omega) ?_)
    rw[hs,←List.append_assoc]
    exact AZ hB hlen (by omega) (by omega)
theorem TW{l:List (Int×List Int)}(hll:l.length≤140737488355328)(hby:∀x∈l,dy x.2)(hok:∀x∈l,iW x=true)(hT:(l.flatMap ju).length≤4096):∀(j i:Nat) (p:IF) (B:List Int),p.b1=l→p.b2=(l.length:Int)→p.b5=((l.flatMap ju).length:Int)→l.length-i=j→i≤l.length→Holds B ((l.take i).flatMap ju) (((l.flatMap ju).length+7)/8)→au (vk ah) (.more (.c1 p ((((l.take i).flatMap ju).length:Nat):Int) (i:Int) B)) (Ho (l.flatMap ju),0):=by
 intro j
 induction j with
 | zero=>
   intro i p B h1 h2 h5 hj hi hB
   have:i=l.length:=by omega
   subst this
   rw[List.take_length] at hB ⊢
   simp only[ak,vk]
   refine(ai (by rw[h2,aC];simp)).2 ?_
   rw[h5,hB.done rfl]
   exact .ret _
 | succ j ih=>
   intro i p B h1 h2 h5 hj hi hB
   have hi':i<l.length:=by omega
   have hmem:=List.getElem_mem hi'
   have hxo:=hok _ hmem
   obtain⟨n0,b,hx⟩:∃n0 b,l[i]=(n0,b):=⟨_,_,rfl⟩
   have hby':=hby _ hmem
   rw[hx] at hxo hby'
   obtain⟨h3,h4,hb⟩:=(oL hby').1 hxo
   obtain⟨n,rfl⟩:=Int.eq_ofNat_of_zero_le h3
   have hb:okB n b:=hb
   have hb0:b.length=(n+7)/8:=hb.1
   have htf:=rm hi'
   have hL:ju l[i]=unpack n b:=by rw[hx,ju];rfl
   rw[hL] at htf
   have hle:=T4 (l:=l) (i+1)
   have hle':=hle
   rw[htf,gm,bG] at hle'
   have hn1:(ah.n (.struct [(.int .i64),(.slice (.int .u8))]) p.b1 (i:Int):Int×List Int)=((n:Int),b):=by rw[h1,Bq hi',hx]
   simp only[ak,vk]
   refine(aj (by rw[h2,aC];simp[-List.length_flatMap];omega)).2 (af.2 ⟨by rw[h1];exact aO hi',?_⟩)
   rw[hn1]
   dsimp only
   have hmore:au (vk ah) (.more (.c2 ⟨((((l.take i).flatMap ju).length:Nat):Int),0,(n:Int),((((l.take i).flatMap ju).length:Nat):Int),p.b1,p.b2,(i:Int),p.b5,(n:Int),b,p.b4,p.b5,(n:Int),b⟩ 0 B)) (Ho (l.flatMap ju),0):=by
    refine Tk hi' hll hx hb (by omega) (m:=((l.flatMap ju).length+7)/8) (by omega) (by omega) (fun p' B' g1 g2 g3 g4=>ih (i+1) p' B' g1 g2 g3 (by omega) (by omega) g4) n 0 _ B rfl rfl rfl rfl h1 h2 rfl rfl h5 rfl (by omega) (by omega) ?_
    rw[show unpack 0 b=[] from rfl,List.append_nil]
    exact hB
   by_cases h8:((l.take i).flatMap ju).length%8=0
   ·refine(aj (xk (by rw[yr,h8];rfl))).2 ((aj (xk rfl)).2 ?_)
    have hlB:ah.l B=((((l.flatMap ju).length+7)/8:Nat):Int):=by rw[←hB.1];rfl
    have hlb:ah.l b=(b.length:Int):=rfl
    refine af.2 ⟨by rw[o7 (by omega),hlB,oS,n_,n_,aJ,aJ];simp[-List.length_flatMap];omega,af.2 ⟨by show ah.and (ah.c .leq 0 0) (ah.and (ah.c .leq 0 (b.length:Int)) (ah.c .leq (b.length:Int) (b.length:Int)))=true;rw[oS,n_,aJ,aJ];simp[ao],?_⟩⟩
    have e0:ah.s b 0 (ah.l b)=b:=Js (i:=0)
    have e1:ah.mn (ah.l b) (ah.b .sub .i64 (ah.l B) (ah.b .quo .i64 ((((l.take i).flatMap ju).length:Nat):Int) 8))=(b.length:Int):=by
     rw[hlB,o7 (by omega),pK (by omega) (by omega),hlb,ov,if_neg (by omega)]
    have e2:ah.s b 0 (b.length:Int)=b:=e0
    have e3:ah.spl B (ah.b .quo .i64 ((((l.take i).flatMap ju).length:Nat):Int) 8) b=B.take (((l.take i).flatMap ju).length/8)++b++B.drop (((l.take i).flatMap ju).length/8+b.length):=by
     rw[o7 (by omega),jr,gS]
    have hnew:=Iv hB (q:=((l.take i).flatMap ju).length/8) (by omega) hb (by omega)
    rw[←htf,←e3] at hnew
    have e4:ah.b .add .i64 ((((l.take i).flatMap ju).length:Nat):Int) (n:Int)=((((l.take (i+1)).flatMap ju).length:Nat):Int):=by
     rw[eH (by omega),htf,gm,bG]
    have fin:au (vk ah) (.more (.c1 p (ah.b .add .i64 ((((l.take i).flatMap ju).length:Nat):Int) (n:Int)) (ah.b .add .i64 (i:Int) 1) (ah.spl B (ah.b .quo .i64 ((((l.take i).flatMap ju).length:Nat):Int) 8) (ah.s (ah.s b 0 (ah.l b)) 0 (ah.mn (ah.l (ah.s b 0 (ah.l b))) (ah.b .sub .i64 (ah.l B) (ah.b .quo .i64 ((((l.take i).flatMap ju).length:Nat):Int) 8))))))) (Ho (l.flatMap ju),0):=by
     rw[e0,e1,e2,e4,bU (by omega)]
     exact ih (i+1) p _ h1 h2 h5 (by omega) (by omega) hnew
    exact fin
   ·exact(ai (Jv (by rw[yr];omega))).2 hmore
theorem Uq{l:List (Int×List Int)}(hll:l.length≤140737488355328)(hby:∀x∈l,dy x.2∧x.2.length≤140737488355328):∀(j i:Nat) (p:Si) (t:Int),p.a0=l→p.a2=l→p.a3=(l.length:Int)→t=((min ((l.take i).flatMap ju).length 4097:Nat):Int)→l.length-i=j→i≤l.length→(∀x∈l.take i,iW x=true)→au (vk ah) (.more (.c0 p t (i:Int))) (Kw l):=by
 intro j
 induction j with
 | zero=>
   intro i p t h0 h2 h3 ht hj hi hok
   have:i=l.length:=by omega
   subst this
   rw[List.take_length] at hok ht
   simp only[ak,vk]
   refine(ai (by rw[h3,aC];simp)).2 ?_
   rw[Kw,List.all_eq_true.2 hok,cond_true]
   by_cases h4:4096<(l.flatMap ju).length
   ·refine(aj (by rw[bg,ht];simp[-List.length_flatMap];omega)).2 ?_
    rw[P5 h4]
    exact .ret _
   ·refine(ai (by rw[bg,ht];simp[-List.length_flatMap];omega)).2 ?_
    have ht':t=(((l.flatMap ju).length:Nat):Int):=by omega
    have hneed:ah.k eE t=((((l.flatMap ju).length+7)/8:Nat):Int):=by rw[aA,ht',oM (by omega) (by omega),gS]
    refine af.2 ⟨rfl,af.2 ⟨by rw[hneed,oS,xk rfl,ao,aJ,aJ];simp[-List.length_flatMap];omega,?_⟩⟩
    rw[Lp (by omega),hneed,nV,gS]
    exact TW hll (fun x hx=>(hby x hx).1) hok (by omega) l.length 0 _ _ h0 (by show ah.l p.a0=_;rw[h0];rfl) ht' (by omega) (by omega) (Holds.blank _)
 | succ j ih=>
   intro i p t h0 h2 h3 ht hj hi hok
   have hi':i<l.length:=by omega
   have hmem:=List.getElem_mem hi'
   simp only[ak,vk]
   refine(aj (by rw[h3,aC];simp[-List.length_flatMap];omega)).2 (af.2 ⟨by rw[h2];exact aO hi',af.2 ⟨rfl,?_⟩⟩)
   have hn1:(ah.n (.struct [(.int .i64),(.slice (.int .u8))]) p.a2 (i:Int):Int×List Int)=l[i]:=by rw[h2,Bq hi']
   rw[hn1]
   have hc:ah.k mX l[i]=bif iW l[i] then 0 else 10:=by
    obtain⟨n0,b,hx⟩:∃n0 b,l[i]=(n0,b):=⟨_,_,rfl⟩
    have:=hby _ hmem
    rw[hx] at this ⊢
    exact ui this.1 this.2
   rw[hc]
   cases hx:iW l[i]
   ·refine(aj rfl).2 ?_
    rw[Kw,show l.all iW=false from List.all_eq_false.2 ⟨l[i],hmem,by rw[hx];decide⟩]
    exact .ret _
   ·refine(ai rfl).2 ?_
    have hle:=abb hx
    have hN:l[i].1=(((ju l[i]).length:Nat):Int):=by
     rw[tP]
     simp only[iW,cd,jV] at hx
     omega
    refine gI (congrArg LT.more (congr (congrArg (IW.c0 p) rfl) (bU (by omega)))) (ih (i+1) p _ h0 h2 h3 ?_ (by omega) (by omega) ?_)
    ·rw[hN,ht,eH (by omega),ov,rm hi',gm]
     by_cases h9:(4097:Int)<((min ((l.take i).flatMap ju).length 4097+(ju l[i]).length:Nat):Int)
     ·rw[if_pos h9];omega
     ·rw[if_neg h9];omega
    ·intro x hx2
     rw[List.take_succ_eq_append_getElem hi'] at hx2
     rcases ku.1 hx2 with h4|h4
     ·exact hok x h4
     ·rw[List.mem_singleton.1 h4];exact hx
def Gf:(List (Int×List Int))→((Int×List Int)×Int):=Kw
def agL:ax:=⟨[(.slice (.struct [yI,yB]))], [(.struct [yI,yB]),yI],(@tt (List (Int×List Int))),Gf⟩
theorem adU:Sd 298 agL:=aP ap bR true 24 [⟨298,3, [[0,2,4,12,13,14]]⟩,⟨298,15, [[2,8,9,35,36,37]]⟩,⟨325,4, [[1,3,4,5,7,10], [2,8,9,11,35,36,37]]⟩] [] (fun A l=>acI A l) vk Y2 (fc Tryz.func298 (fc Tryz.func322 (fc Tryz.func324 (fc Tryz.func325 fz)))) (sc F_ (sc KH (sc RN (sc Jy sz)))) (fun A y=>match y with |.c0 p a1 a4=>⟨55,by kernel_rfl,by kernel_rfl⟩|.c1 p b0 b3 b6=>⟨82,by kernel_rfl,by kernel_rfl⟩|.c2 p c3 yG=>⟨57,by kernel_rfl,by kernel_rfl⟩) fun(l:List (Int×List Int)) hp h=>by
 show au (vk ah) (acI ah l) (Gf l)
 exact Uq (vf h).1 (vf h).2 l.length 0 _ 0 rfl rfl rfl rfl rfl (by omega) (by intro x hx;cases hx)
def VQ(A:aI)(bN:Int)(bB:List Int)(unsentN:Int)(unsentB:List Int):LT ((Int×List Int)×Int) Empty:=.need (A.k (@tt (List (Int×List Int))) [(unsentN,unsentB),(bN,bB)]) (.br (A.c .neq (A.k xg [(unsentN,unsentB),(bN,bB)]).2 0) (.ret ((0,([]:List Int)),(A.k xg [(unsentN,unsentB),(bN,bB)]).2)) (.need (A.k (@tt ((Int×List Int)×Int×Int)) ((bN,bB),(A.v .u64 (A.k xg [(unsentN,unsentB),(bN,bB)]).1),24)) (.ret (A.k p8 ((bN,bB),(A.v .u64 (A.k xg [(unsentN,unsentB),(bN,bB)]).1),24)))))
def K2:((Int×List Int)×(Int×List Int))→((Int×List Int)×Int):=fun((bN,bB),unsentN,unsentB)=>(VQ ah bN bB unsentN unsentB).val (Ty.bi [(.struct [yI,yB]),yI])
def afX:ax:=⟨[(.struct [yI,yB]),(.struct [yI,yB])], [(.struct [yI,yB]),yI],(@tt ((Int×List Int)×(Int×List Int))),K2⟩
theorem aha:Sd 297 afX:=aH ap bR true 44 [] (fun A ((bN,bB),unsentN,unsentB)=>VQ A bN bB unsentN unsentB) (fc Tryz.func297 fz) (sc O1 (sc Wh sz)) (fun(((bN,bB),unsentN,unsentB):(Int×List Int)×(Int×List Int)) hp h=>by
 show(VQ ah bN bB unsentN unsentB).pre=true
 simp only[VQ,LT.pre,aA,dU,jd,Bool.true_and,implies_true,and_self])
def t91(A:aI)(w00:Int)(w01:List Int)(w1:Int)(v:Int)(width:Int):LT ((((Int×List Int)×Int))×Unit) Empty:=.br (A.c .eql w1 0) (.need (A.k (@tt ((Int×List Int)×Int×Int)) ((w00,w01),(A.v .u64 v),width)) (.ret ((A.k p8 ((w00,w01),(A.v .u64 v),width)),()))) (.ret (((w00,w01),w1),()))
theorem aib{n e v k:Int}{b:List Int}:au Empty.elim (t91 ah n b e v k) (bif decide (e=0) then p8 ((n,b),ah.v .u64 v,k) else((n,b),e),()):=by
 unfold t91
 by_cases h:e=0
 ·rw[aK h];exact(aj (by rw[aD,h];rfl)).2 (af.2 ⟨rfl,.ret _⟩)
 ·rw[aX h];exact(ai (by rw[aD];exact beq_eq_false_iff_ne.2 h)).2 (.ret _)
def l8:(((Int×List Int)×Int))×(Int×Int)→(((Int×List Int)×Int))×Unit:=fun((s,e),v,n)=>(bif decide (e=0) then p8 (s,ah.v .u64 v,n) else(s,e),())
def ahG:bL:=⟨[.ptr [.d (.struct [yI,yB]),.d yI]], [yI,yI], [],(@tt ((((Int×List Int)×Int))×(Int×Int))),l8,true⟩
theorem afO:bL.Sound Tryz.prog 252 ahG:=bQ ap bR true 46 iz mz pz [] [] (fun A (((w00,w01),w1),(v,width))=>t91 A w00 w01 w1 v width) (fun _=>Empty.elim) Empty.elim (fc Tryz.func252 fz) (sc O1 sz) (fun _ y=>y.elim) fun((((w00,w01),w1),(v,width)):(((Int×List Int)×Int))×(Int×Int)) hp hv h=>aib
def t94(A:aI)(w00:Int)(w01:List Int)(w1:Int)(bN:Int)(bB:List Int):LT ((((Int×List Int)×Int))×Unit) Empty:=.br (A.c .eql w1 0) (.need (A.k (@tt (List (Int×List Int))) [(w00,w01),(bN,bB)]) (.ret ((A.k Gf [(w00,w01),(bN,bB)]),()))) (.ret (((w00,w01),w1),()))
theorem ais{n e k:Int}{b c:List Int}:au Empty.elim (t94 ah n b e k c) (bif decide (e=0) then Gf [(n,b),(k,c)] else((n,b),e),()):=by
 unfold t94
 by_cases h:e=0
 ·rw[aK h];exact(aj (by rw[aD,h];rfl)).2 (af.2 ⟨rfl,.ret _⟩)
 ·rw[aX h];exact(ai (by rw[aD];exact beq_eq_false_iff_ne.2 h)).2 (.ret _)
def I9:(((Int×List Int)×Int))×((Int×List Int))→(((Int×List Int)×Int))×Unit:=fun((s,e),b)=>(bif decide (e=0) then Gf [s,b] else(s,e),())
def ai4:bL:=⟨[.ptr [.d (.struct [yI,yB]),.d yI]], [(.struct [yI,yB])], [],(@tt ((((Int×List Int)×Int))×((Int×List Int)))),I9,true⟩
theorem ajj:bL.Sound Tryz.prog 255 ai4:=bQ ap bR true 46 iz mz pz [] [] (fun A (((w00,w01),w1),(bN,bB))=>t94 A w00 w01 w1 bN bB) (fun _=>Empty.elim) Empty.elim (fc Tryz.func255 fz) (sc adU sz) (fun _ y=>y.elim) fun((((w00,w01),w1),(bN,bB)):(((Int×List Int)×Int))×((Int×List Int))) hp hv h=>ais
def t92(A:aI)(w00:Int)(w01:List Int)(w1:Int)(unsentN:Int)(unsentB:List Int):LT ((((Int×List Int)×Int))×Unit) Empty:=.br (A.c .eql w1 0) (.need (A.k (@tt ((Int×List Int)×(Int×List Int))) ((w00,w01),unsentN,unsentB)) (.ret ((A.k K2 ((w00,w01),unsentN,unsentB)),()))) (.ret (((w00,w01),w1),()))
theorem ahN{n e k:Int}{b c:List Int}:au Empty.elim (t92 ah n b e k c) (bif decide (e=0) then K2 ((n,b),k,c) else((n,b),e),()):=by
 unfold t92
 by_cases h:e=0
 ·rw[aK h];exact(aj (by rw[aD,h];rfl)).2 (af.2 ⟨rfl,.ret _⟩)
 ·rw[aX h];exact(ai (by rw[aD];exact beq_eq_false_iff_ne.2 h)).2 (.ret _)
def Fx:(((Int×List Int)×Int))×((Int×List Int))→(((Int×List Int)×Int))×Unit:=fun((s,e),b)=>(bif decide (e=0) then K2 (s,b) else(s,e),())
def aiX:bL:=⟨[.ptr [.d (.struct [yI,yB]),.d yI]], [(.struct [yI,yB])], [],(@tt ((((Int×List Int)×Int))×((Int×List Int)))),Fx,true⟩
theorem ah_:bL.Sound Tryz.prog 253 aiX:=bQ ap bR true 45 iz mz pz [] [] (fun A (((w00,w01),w1),(unsentN,unsentB))=>t92 A w00 w01 w1 unsentN unsentB) (fun _=>Empty.elim) Empty.elim (fc Tryz.func253 fz) (sc aha sz) (fun _ y=>y.elim) fun((((w00,w01),w1),(unsentN,unsentB)):(((Int×List Int)×Int))×((Int×List Int))) hp hv h=>ahN
structure Xa where
 (a0:List Int) (a1:Int)
inductive Y93 where
 | c0 (p:Xa) (a2:Int) (a3:Int) (a4:List Int) (a5:Int)
noncomputable def adY:Y93→eD
 | .c0 p a2 a3 a4 a5=>⟨[⟨254,19,(en [(0,.ptr 0 0),(7,.sl yU p.a0),(8,vi p.a1),(9,vi a2)]),[.inLoop (cw Tryz.f254 [1,0,1,0,0]),.inBlock 0,.code (cw Tryz.f254 [1,1])],[],none⟩],[.flat false [vi a3,.sl yU a4,vi a5],.dead]⟩
def t93(A:aI)(w00:Int)(w01:List Int)(w1:Int)(l:List Int):LT ((((Int×List Int)×Int))×Unit) Y93:=.more (.c0 ⟨l,(A.l l)⟩ 0 w00 w01 w1)
def s93(A:aI):Y93→LT ((((Int×List Int)×Int))×Unit) Y93
 | .c0 p a2 a3 a4 a5=>.br (A.c .lss a2 p.a1) (.need (A.and (A.c .leq 0 a2) (A.c .lss a2 (A.l p.a0))) (.need (A.k (@tt ((((Int×List Int)×Int))×(Int×Int))) (((a3,a4),a5),(A.v .i64 (A.n yU p.a0 a2:Int)),8)) (.more (.c0 p (A.b .add .i64 a2 1) (A.k l8 (((a3,a4),a5),(A.v .i64 (A.n yU p.a0 a2:Int)),8)).1.1.1 (A.k l8 (((a3,a4),a5),(A.v .i64 (A.n yU p.a0 a2:Int)),8)).1.1.2 (A.k l8 (((a3,a4),a5),(A.v .i64 (A.n yU p.a0 a2:Int)),8)).1.2)))) (.ret (((a3,a4),a5),()))
def aaT(l:List Int)(s:(Int×List Int)×Int):(Int×List Int)×Int:=l.foldl (fun s c=>(l8 (s,ah.v .i64 c,8)).1) s
theorem aix{l:List Int}(hl:l.length≤140737488355328){p:Xa}(h0:p.a0=l)(h1:p.a1=(l.length:Int)):∀(j i:Nat) (s:(Int×List Int)×Int),l.length-i=j→i≤l.length→
  au (s93 ah) (.more (.c0 p (i:Int) s.1.1 s.1.2 s.2)) (aaT (l.drop i) s,()):=by
 intro j
 induction j with
 | zero=>
   intro i s hj hi
   have:i=l.length:=by omega
   subst this
   rw[ak,s93,h1,List.drop_length]
   exact(ai (by rw[ar];simp)).2 (.ret _)
 | succ j ih=>
   intro i s hj hi
   have hi':i<l.length:=by omega
   rw[ak,s93,h0,h1]
   refine(aj (by rw[ar];exact aK (by omega))).2 (af.2 ⟨aO hi',af.2 ⟨rfl,?_⟩⟩)
   rw[show(ah.n (.int .u8) l (i:Int):Int)=l[i] from getD_in hi' _,pV hi',bU (i:=i) (by omega)]
   exact ih (i+1) (l8 (s,ah.v .i64 l[i],8)).1 (by omega) (by omega)
theorem afd{n e:Int}{b l:List Int}(hl:l.length≤140737488355328):au (s93 ah) (t93 ah n b e l) (aaT l ((n,b),e),()):=
 aix hl rfl rfl l.length 0 ((n,b),e) rfl (Nat.zero_le _)
def PG:(((Int×List Int)×Int))×(List Int)→(((Int×List Int)×Int))×Unit:=fun(s,l)=>(aaT l s,())
def aiJ:bL:=⟨[.ptr [.d (.struct [yI,yB]),.d yI]], [yB], [],(@tt ((((Int×List Int)×Int))×(List Int))),PG,true⟩
theorem aji:bL.Sound Tryz.prog 254 aiJ:=bQ ap bR true 19 iz (mc afO mz) pz [⟨254,2, [[0,7,8,9]]⟩] [] (fun A (((w00,w01),w1),l)=>t93 A w00 w01 w1 l) s93 adY (fc Tryz.func254 fz) sz (fun A y=>match y with |.c0 p a2 a3 a4 a5=>⟨32,by kernel_rfl,by kernel_rfl⟩) fun((((w00,w01),w1),l):(((Int×List Int)×Int))×(List Int)) hp hv h=>afd h.1
abbrev Ee(A:aI)(fKind:Int):=(A.k l8 (((0,([]:List Int)),0),(A.b .sub .i64 fKind 1),2))
abbrev uw(A:aI)(fKind:Int)(fReq:Int):=(A.k l8 ((Ee A fKind).1,fReq,3))
abbrev V8(A:aI)(fKind:Int)(fReq:Int):=(A.k (@tt ((((Int×List Int)×Int))×(Int×Int))) ((Ee A fKind).1,fReq,3))
def t46(A:aI)(fKind:Int)(fReq:Int)(fCTime:Int)(fCPos:Int)(fCMode:Int)(fCNext:Int)(fCMember:Int)(fFrom:Int)(fData:List Int):LT ((Int×List Int)×Int) Empty:=.need (A.k (@tt ((Int×Int×(Int×Int×Int×Int×Int)×Int×List Int))) (fKind,fReq,(fCTime,fCPos,fCMode,fCNext,fCMember),fFrom,fData)) (.br (A.c .neq (A.k qe (fKind,fReq,(fCTime,fCPos,fCMode,fCNext,fCMember),fFrom,fData)) 0) (.ret ((0,([]:List Int)),(A.k qe (fKind,fReq,(fCTime,fCPos,fCMode,fCNext,fCMember),fFrom,fData)))) (.need (A.k (@tt ((Int×Int×Int×Int×Int))) (fCTime,fCPos,fCMode,fCNext,fCMember)) (.br (A.c .neq (A.k qm (fCTime,fCPos,fCMode,fCNext,fCMember)).2 0) (.ret ((0,([]:List Int)),(A.k qm (fCTime,fCPos,fCMode,fCNext,fCMember)).2)) (.need (A.k (@tt ((((Int×List Int)×Int))×(Int×Int))) (((0,([]:List Int)),0),(A.b .sub .i64 fKind 1),2)) (.br (A.c .eql fKind 1) (.need (A.k (@tt ((((Int×List Int)×Int))×(Int×Int))) ((Ee A fKind).1,fFrom,3)) (.need (A.k (@tt ((((Int×List Int)×Int))×(Int×Int))) ((A.k l8 ((Ee A fKind).1,fFrom,3)).1,fCTime,8)) (.need (A.k (@tt ((((Int×List Int)×Int))×(Int×Int))) ((A.k l8 ((A.k l8 ((Ee A fKind).1,fFrom,3)).1,fCTime,8)).1,0,3)) (.need (A.k (@tt ((((Int×List Int)×Int))×((Int×List Int)))) ((A.k l8 ((A.k l8 ((A.k l8 ((Ee A fKind).1,fFrom,3)).1,fCTime,8)).1,0,3)).1,0,([]:List Int))) (.ret (A.k Fx ((A.k l8 ((A.k l8 ((A.k l8 ((Ee A fKind).1,fFrom,3)).1,fCTime,8)).1,0,3)).1,0,([]:List Int))).1))))) (.br (A.c .eql fKind 2) (.need (V8 A fKind fReq) (.need (A.k (@tt ((((Int×List Int)×Int))×(List Int))) ((uw A fKind fReq).1,fData)) (.need (A.k (@tt ((((Int×List Int)×Int))×((Int×List Int)))) ((A.k PG ((uw A fKind fReq).1,fData)).1,(A.k qm (fCTime,fCPos,fCMode,fCNext,fCMember)).1)) (.ret (A.k Fx ((A.k PG ((uw A fKind fReq).1,fData)).1,(A.k qm (fCTime,fCPos,fCMode,fCNext,fCMember)).1)).1)))) (.br (A.c .eql fKind 3) (.need (V8 A fKind fReq) (.need (A.k (@tt ((((Int×List Int)×Int))×(Int×Int))) ((uw A fKind fReq).1,0,1)) (.need (A.k (@tt ((((Int×List Int)×Int))×((Int×List Int)))) ((A.k l8 ((uw A fKind fReq).1,0,1)).1,(A.k qm (fCTime,fCPos,fCMode,fCNext,fCMember)).1)) (.need (A.k (@tt ((((Int×List Int)×Int))×((Int×List Int)))) ((A.k I9 ((A.k l8 ((uw A fKind fReq).1,0,1)).1,(A.k qm (fCTime,fCPos,fCMode,fCNext,fCMember)).1)).1,0,([]:List Int))) (.ret (A.k Fx ((A.k I9 ((A.k l8 ((uw A fKind fReq).1,0,1)).1,(A.k qm (fCTime,fCPos,fCMode,fCNext,fCMember)).1)).1,0,([]:List Int))).1))))) (.br (A.c .eql fKind 4) (.need (V8 A fKind fReq) (.need (A.k (@tt ((((Int×List Int)×Int))×(Int×Int))) ((uw A fKind fReq).1,0,2)) (.need (A.k (@tt ((((Int×List Int)×Int))×((Int×List Int)))) ((A.k l8 ((uw A fKind fReq).1,0,2)).1,(A.k qm (fCTime,fCPos,fCMode,fCNext,fCMember)).1)) (.need (A.k (@tt ((((Int×List Int)×Int))×((Int×List Int)))) ((A.k I9 ((A.k l8 ((uw A fKind fReq).1,0,2)).1,(A.k qm (fCTime,fCPos,fCMode,fCNext,fCMember)).1)).1,0,([]:List Int))) (.need (A.k (@tt ((((Int×List Int)×Int))×(List Int))) ((A.k Fx ((A.k I9 ((A.k l8 ((uw A fKind fReq).1,0,2)).1,(A.k qm (fCTime,fCPos,fCMode,fCNext,fCMember)).1)).1,0,([]:List Int))).1,fData)) (.need (A.k (@tt ((((Int×List Int)×Int))×((Int×List Int)))) ((A.k PG ((A.k Fx ((A.k I9 ((A.k l8 ((uw A fKind fReq).1,0,2)).1,(A.k qm (fCTime,fCPos,fCMode,fCNext,fCMember)).1)).1,0,([]:List Int))).1,fData)).1,(A.k qm (fCTime,fCPos,fCMode,fCNext,fCMember)).1)) (.ret (A.k Fx ((A.k PG ((A.k Fx ((A.k I9 ((A.k l8 ((uw A fKind fReq).1,0,2)).1,(A.k qm (fCTime,fCPos,fCMode,fCNext,fCMember)).1)).1,0,([]:List Int))).1,fData)).1,(A.k qm (fCTime,fCPos,fCMode,fCNext,fCMember)).1)).1))))))) (.ret (Ee A fKind).1)))))))))
def Gi:((Int×Int×(Int×Int×Int×Int×Int)×Int×List Int))→((Int×List Int)×Int):=fun(fKind,fReq,(fCTime,fCPos,fCMode,fCNext,fCMember),fFrom,fData)=>(t46 ah fKind fReq fCTime fCPos fCMode fCNext fCMember fFrom fData).val (Ty.bi [(.struct [yI,yB]),yI])
def aiL:ax:=⟨[(.struct [yI,yI,(.struct [yI,yI,yI,yI,yI]),yI,yB])], [(.struct [yI,yB]),yI],(@tt ((Int×Int×(Int×Int×Int×Int×Int)×Int×List Int))),Gi⟩
theorem aiT:Sd 191 aiL:=pG ap bR true 120  iz (mc afO (mc ah_ (mc aji (mc ajj mz)))) pz [] [] (fun A (fKind,fReq,(fCTime,fCPos,fCMode,fCNext,fCMember),fFrom,fData)=>t46 A fKind fReq fCTime fCPos fCMode fCNext fCMember fFrom fData) (fun _=>Empty.elim) Empty.elim (fc Tryz.func191 fz) (sc aey (sc aga sz)) (fun _ y=>y.elim) fun((fKind,fReq,(fCTime,fCPos,fCMode,fCNext,fCMember),fFrom,fData):(Int×Int×(Int×Int×Int×Int×Int)×Int×List Int)) hp h=>LT.runs (d:=Ty.bi [(.struct [yI,yB]),yI]) (LT.gg (by kernel_rfl)) (by
 show(t46 ah fKind fReq fCTime fCPos fCMode fCNext fCMember fFrom fData).pre=true
 simp only[t46,V8,uw,Ee,LT.pre,aA,dU,jd,Bool.true_and,implies_true,and_self])
theorem ag0{n:Int}(h0:0≤n)(h1:n≤8):ah.b .shl .i64 1 n=((2^n.toNat:Nat):Int):=by
 have:n=0∨n=1∨n=2∨n=3∨n=4∨n=5∨n=6∨n=7∨n=8:=by omega
 rcases this with rfl|rfl|rfl|rfl|rfl|rfl|rfl|rfl|rfl<;>decide
theorem tc{n:Nat}(h:n≤8):2^n≤256:=Nat.pow_le_pow_right (by decide) h
def lu(c a:Int):Bool:=c.toNat.testBit a.toNat
def jU(c s:Int):Int:=ah.b .or .i64 c (ah.b .shl .i64 1 s)
def qb(c s:Int):Int:=ah.b .andNot .i64 c (ah.b .shl .i64 1 s)
theorem UG:∀c:Fin 256,∀a:Fin 8,ah.b .or .i64 (c.val:Int) (ah.b .shl .i64 1 (a.val:Int))=((c.val ||| 2^a.val:Nat):Int):=by decide +kernel
theorem U0:∀c:Fin 256,∀a:Fin 8,ah.b .andNot .i64 (c.val:Int) (ah.b .shl .i64 1 (a.val:Int))=((c.val &&& (255 ^^^ 2^a.val):Nat):Int):=by decide +kernel
theorem Qb{c s:Int}(h0:0≤c)(h1:c<256)(h2:0≤s)(h3:s<8):jU c s=((c.toNat ||| 2^s.toNat:Nat):Int):=by
 obtain⟨c,rfl⟩:=Int.eq_ofNat_of_zero_le h0
 obtain⟨s,rfl⟩:=Int.eq_ofNat_of_zero_le h2
 exact UG ⟨c,by omega⟩ ⟨s,by omega⟩
theorem del_eq{c s:Int}(h0:0≤c)(h1:c<256)(h2:0≤s)(h3:s<8):qb c s=((c.toNat &&& (255 ^^^ 2^s.toNat):Nat):Int):=by
 obtain⟨c,rfl⟩:=Int.eq_ofNat_of_zero_le h0
 obtain⟨s,rfl⟩:=Int.eq_ofNat_of_zero_le h2
 exact U0 ⟨c,by omega⟩ ⟨s,by omega⟩
theorem OW{c s n:Int}(h0:0≤c)(hn:n≤8)(h1:c<((2^n.toNat:Nat):Int))(h2:0≤s)(h3:s<n):0≤jU c s∧jU c s<((2^n.toNat:Nat):Int):=by
 have hp:=tc (n:=n.toNat) (by omega)
 rw[Qb h0 (by omega) h2 (by omega)]
 have h4:2^s.toNat<2^n.toNat:=Nat.pow_lt_pow_right (by decide) (by omega)
 have:=Nat.or_lt_two_pow (x:=c.toNat) (y:=2^s.toNat) (n:=n.toNat) (by omega) h4
 omega
theorem N4{c s n:Int}(h0:0≤c)(hn:n≤8)(h1:c<((2^n.toNat:Nat):Int))(h2:0≤s)(h3:s<8):0≤qb c s∧qb c s<((2^n.toNat:Nat):Int):=by
 have hp:2^n.toNat≤2^8:=Nat.pow_le_pow_right (by decide) (by omega)
 rw[del_eq h0 (by omega) h2 (by omega)]
 have:c.toNat &&& (255 ^^^ 2^s.toNat)≤c.toNat:=Nat.and_le_left
 omega
theorem JW{c s i:Int}(h0:0≤c)(h1:c<256)(h2:0≤s)(h3:s<8)(h4:0≤i):lu (jU c s) i=(lu c i||s==i):=by
 rw[Qb h0 h1 h2 h3,lu,lu,gS,Nat.testBit_or,Nat.testBit_two_pow]
 congr 1
 rw[Bool.eq_iff_iff];simp;omega
theorem EZ{c s i:Int}(h0:0≤c)(h1:c<256)(h2:0≤s)(h3:s<8)(h4:0≤i):lu (qb c s) i=(lu c i&&s != i):=by
 rw[del_eq h0 h1 h2 h3,lu,lu,gS,Nat.testBit_and,Nat.testBit_xor,Nat.testBit_two_pow]
 by_cases hi:i<8
 ·have e:Nat.testBit 255 i.toNat=true:=by
   have:i.toNat=0∨i.toNat=1∨i.toNat=2∨i.toNat=3∨i.toNat=4∨i.toNat=5∨i.toNat=6∨i.toNat=7:=by omega
   rcases this with h|h|h|h|h|h|h|h<;>rw[h]<;>decide
  rw[e]
  congr 1
  rw[Bool.eq_iff_iff];simp;omega
 ·have:c.toNat.testBit i.toNat=false:=Nat.testBit_lt_two_pow (Nat.lt_of_lt_of_le (by omega:c.toNat<2^8) (Nat.pow_le_pow_right (by decide) (by omega)))
  rw[this];rfl
theorem NE:∀c:Fin 256,∀a:Fin 8,(ah.b .and .i64 (ah.b .shr .i64 (c.val:Int) (a.val:Int)) 1==0)=!(c.val.testBit a.val):=by decide +kernel
theorem P4:∀c:Fin 256,∀a:Fin 8,(ah.b .and .i64 (c.val:Int) (ah.b .shl .i64 1 (a.val:Int))==0)=!(c.val.testBit a.val):=by decide +kernel
theorem WK{c a:Int}(h0:0≤c)(h1:c<256)(h2:0≤a)(h3:a<8):ah.b .and .i64 (ah.b .shr .i64 c a) 1=0↔lu c a=false:=by
 obtain⟨c,rfl⟩:=Int.eq_ofNat_of_zero_le h0
 obtain⟨a,rfl⟩:=Int.eq_ofNat_of_zero_le h2
 have:=NE ⟨c,by omega⟩ ⟨a,by omega⟩
 simp only at this
 rw[←beq_iff_eq,this]
 simp[lu]
theorem acz{c a:Int}(h0:0≤c)(h1:c<256)(h2:0≤a)(h3:a<8):ah.b .and .i64 c (ah.b .shl .i64 1 a)=0↔lu c a=false:=by
 obtain⟨c,rfl⟩:=Int.eq_ofNat_of_zero_le h0
 obtain⟨a,rfl⟩:=Int.eq_ofNat_of_zero_le h2
 have:=P4 ⟨c,by omega⟩ ⟨a,by omega⟩
 simp only at this
 rw[←beq_iff_eq,this]
 simp[lu]
def iY(a b c d e f g:Int):Prop:=4≤b∧b≤8∧0≤a∧a<b∧0≤g∧g<b∧0≤c∧c<((2^b.toNat:Nat):Int)∧0≤d∧d≤1048576∧0≤e∧e≤1048576∧0≤f∧f≤2∧(f≠0→lu c a=true)∧(f=2→g≠a)
theorem aek{a b c d e f g:Int}(h:iY a b c d e f g):c<256:=by
 obtain⟨h1,h2,_,_,_,_,_,h3,_⟩:=h
 have:=tc (n:=b.toNat) (by omega)
 omega
def t81(A:aI)(n:Int)(most:Int):LT Bool Empty:=.br (A.c .geq n 0) (.ret (A.c .leq n most)) (.ret false)
def BS:(Int×Int)→Bool:=fun(n,most)=>(t81 ah n most).val (Ty.bi [.bool])
def ahE:ax:=⟨[yI,yI], [.bool],(@tt (Int×Int)),BS⟩
theorem af5:Sd 99 ahE:=aH ap bR true 21 [] (fun A (n,most)=>t81 A n most) (fc Tryz.func99 fz) sz (fun((n,most):Int×Int) hp h=>by
 show(t81 ah n most).pre=true
 simp only[t81,LT.pre,Gk,bne_iff_ne,beq_iff_eq,bne_eq_false_iff_eq,beq_eq_false_iff_ne]
 simp only[Ty.cN,Ty.has,ml,x_] at h
 (repeat' (first|intro _|constructor))<;>(try omega))
theorem EY{n m:Int}:BS (n,m)=(decide (0≤n)&&decide (n≤m)):=by
 simp only[BS,t81,LT.val,bZ,ao]
 cases decide (0≤n)<;>rfl
def t34(A:aI)(mId:Int)(mN:Int)(mSet:Int)(mAcc:Int)(mFail:Int)(mStage:Int)(mFirst:Int):LT Int Empty:=.br (A.c .lss mN 4) (.ret 90) (.br (A.c .gtr mN 8) (.ret 90) (.need (A.k (@tt (Int×Int)) (mId,(A.b .sub .i64 mN 1))) (.br (A.not (A.k BS (mId,(A.b .sub .i64 mN 1)))) (.ret 90) (.need (A.k (@tt (Int×Int)) (mFirst,(A.b .sub .i64 mN 1))) (.br (A.not (A.k BS (mFirst,(A.b .sub .i64 mN 1)))) (.ret 90) (.need (A.k (@tt (Int×Int)) (mAcc,1048576)) (.br (A.not (A.k BS (mAcc,1048576))) (.ret 90) (.need (A.k (@tt (Int×Int)) (mFail,1048576)) (.br (A.not (A.k BS (mFail,1048576))) (.ret 90) (.need (A.k (@tt (Int×Int)) (mStage,2)) (.br (A.not (A.k BS (mStage,2))) (.ret 90) (.need (A.c .leq 0 mN) (.need (A.k (@tt (Int×Int)) (mSet,(A.b .sub .i64 (A.b .shl .i64 1 mN) 1))) (.br (A.not (A.k BS (mSet,(A.b .sub .i64 (A.b .shl .i64 1 mN) 1)))) (.ret 90) (.br (A.c .neq mStage 0) (.need (A.c .leq 0 mId) (.br (A.c .eql (A.b .and .i64 (A.b .shr .i64 mSet mId) 1) 0) (.ret 90) (.br (A.c .eql mStage 2) (.br (A.c .eql mFirst mId) (.ret 90) (.ret 0)) (.ret 0)))) (.br (A.c .eql mStage 2) (.br (A.c .eql mFirst mId) (.ret 90) (.ret 0)) (.ret 0)))))))))))))))))
def lW:((Int×Int×Int×Int×Int×Int×Int))→Int:=fun(mId,mN,mSet,mAcc,mFail,mStage,mFirst)=>(t34 ah mId mN mSet mAcc mFail mStage mFirst).val (Ty.bi [yI])
def aiR:ax:=⟨[(.struct [yI,yI,yI,yI,yI,yI,yI])], [yI],(@tt ((Int×Int×Int×Int×Int×Int×Int))),lW⟩
theorem H8:Sd 46 aiR:=aH ap bR true 123 [] (fun A (mId,mN,mSet,mAcc,mFail,mStage,mFirst)=>t34 A mId mN mSet mAcc mFail mStage mFirst) (fc Tryz.func46 fz) (sc af5 sz) (fun((mId,mN,mSet,mAcc,mFail,mStage,mFirst):(Int×Int×Int×Int×Int×Int×Int)) hp h=>by
 show(t34 ah mId mN mSet mAcc mFail mStage mFirst).pre=true
 simp only[t34,LT.pre,Gk,bne_iff_ne,beq_iff_eq,bne_eq_false_iff_eq,beq_eq_false_iff_ne,EY]
 simp only[Ty.cN,Ty.has,ml,x_] at h
 (repeat' (first|intro _|constructor))<;>(try omega))
theorem Jb{x:Int×Int×Int×Int×Int×Int×Int}:lW x=0∨lW x=90:=by
 obtain⟨a,b,c,d,e,f,g⟩:=x
 exact LT.lm (p:=fun y=>y=0∨y=90) (.inl rfl) (by simp[t34,LT.all])
theorem dJ{a b c d e f g:Int}:lW (a,b,c,d,e,f,g)=0↔iY a b c d e f g:=by
 simp only[lW,t34,LT.val,pg,aD,aT,ar,ao,bg,bZ,aJ,eY,vA,aA,ck,cu,qw,g_,dU,cd,Bool.or_eq_true,Bool.and_eq_false_iff,Bool.or_eq_false_iff,Bool.not_eq_true',Bool.not_eq_false',jV,decide_eq_false_iff_not,bne_iff_ne,beq_iff_eq,bne_eq_false_iff_eq,beq_eq_false_iff_ne,EY]
 simp
 unfold iY
 by_cases hb:4≤b∧b≤8
 ·rw[iZ (by omega) (by omega),ag0 (by omega) hb.2]
  have hp:=tc (n:=b.toNat) (by omega)
  have hp1:1≤2^b.toNat:=Nat.one_le_two_pow
  rw[iZ (by omega) (by omega)]
  by_cases hc:0≤c∧c<256∧0≤a∧a<8
  ·have h:=WK hc.1 hc.2.1 hc.2.2.1 hc.2.2.2
   rw[h]
   cases lu c a<;>simp<;>omega
  ·constructor
   ·intro h;exfalso;omega
   ·intro h;exfalso;omega
 ·constructor
  ·intro h;exfalso;omega
  ·intro h;exfalso;omega
def t80(A:aI)(n:Int):LT Int Empty:=.need (A.c .leq 0 (A.v .u64 n)) (.ret (A.b .shl .i64 1 (A.v .u64 n)))
def SK:Int→Int:=fun n=>(t80 ah n).val (Ty.bi [yI])
theorem JG{n:Int}(h0:0≤n)(h1:n≤8):SK n=((2^n.toNat:Nat):Int):=by
 have:n=0∨n=1∨n=2∨n=3∨n=4∨n=5∨n=6∨n=7∨n=8:=by omega
 rcases this with rfl|rfl|rfl|rfl|rfl|rfl|rfl|rfl|rfl<;>decide
theorem N5{n:Int}(h0:0≤n)(h1:n≤8):SK n=ah.b .shl .i64 1 n:=by rw[JG h0 h1,ag0 h0 h1]
def t35(A:aI)(mId:Int)(mN:Int)(mSet:Int)(mAcc:Int)(mFail:Int)(mStage:Int)(mFirst:Int):LT Int Empty:=.br (A.c .lss mN 4) (.ret 90) (.br (A.c .gtr mN 8) (.ret 90) (.br (A.c .lss mId 0) (.ret 90) (.br (A.c .geq mId mN) (.ret 90) (.br (A.c .lss mFirst 0) (.ret 90) (.br (A.c .geq mFirst mN) (.ret 90) (.br (A.c .lss mSet 0) (.ret 90) (.need (A.k (@tt Int) mN) (.br (A.c .geq mSet (A.k SK mN)) (.ret 90) (.br (A.c .lss mAcc 0) (.ret 90) (.br (A.c .gtr mAcc 1048576) (.ret 90) (.br (A.c .lss mFail 0) (.ret 90) (.br (A.c .gtr mFail 1048576) (.ret 90) (.br (A.c .lss mStage 0) (.ret 90) (.br (A.c .gtr mStage 2) (.ret 90) (.br (A.c .neq mStage 0) (.need (A.k (@tt Int) mId) (.br (A.c .eql (A.b .and .i64 mSet (A.k SK mId)) 0) (.ret 90) (.br (A.c .eql mStage 2) (.br (A.c .eql mFirst mId) (.ret 90) (.ret 0)) (.ret 0)))) (.br (A.c .eql mStage 2) (.br (A.c .eql mFirst mId) (.ret 90) (.ret 0)) (.ret 0)))))))))))))))))
def oI:((Int×Int×Int×Int×Int×Int×Int))→Int:=fun(mId,mN,mSet,mAcc,mFail,mStage,mFirst)=>(t35 ah mId mN mSet mAcc mFail mStage mFirst).val (Ty.bi [yI])
theorem H9{x:Int×Int×Int×Int×Int×Int×Int}:oI x=0∨oI x=90:=by
 obtain⟨a,b,c,d,e,f,g⟩:=x
 exact LT.lm (p:=fun y=>y=0∨y=90) (.inl rfl) (by simp[t35,LT.all])
theorem iF{a b c d e f g:Int}:oI (a,b,c,d,e,f,g)=0↔iY a b c d e f g:=by
 simp only[oI,t35,LT.val,pg,aD,aT,ar,ao,bg,bZ,aJ,eY,vA,aA,ck,cu,qw,g_,dU,cd,Bool.or_eq_true,Bool.and_eq_false_iff,Bool.or_eq_false_iff,Bool.not_eq_true',Bool.not_eq_false',jV,decide_eq_false_iff_not,bne_iff_ne,beq_iff_eq,bne_eq_false_iff_eq,beq_eq_false_iff_ne]
 simp
 unfold iY
 by_cases hb:4≤b∧b≤8∧0≤a∧a<b
 ·rw[JG (by omega) hb.2.1,N5 (n:=a) (by omega) (by omega)]
  have hp:=tc (n:=b.toNat) (by omega)
  by_cases hc:0≤c∧c<256
  ·have h:=acz (a:=a) hc.1 hc.2 (by omega) (by omega)
   rw[h]
   cases lu c a<;>simp<;>omega
  ·constructor
   ·intro h;exfalso;omega
   ·intro h;exfalso;omega
 ·constructor
  ·intro h;exfalso;omega
  ·intro h;exfalso;omega
theorem chk{x:Int×Int×Int×Int×Int×Int×Int}:lW x=oI x:=by
 have h1:=Jb (x:=x)
 have h2:=H9 (x:=x)
 obtain⟨a,b,c,d,e,f,g⟩:=x
 have h3:=dJ (a:=a) (b:=b) (c:=c) (d:=d) (e:=e) (f:=f) (g:=g)
 have h4:=iF (a:=a) (b:=b) (c:=c) (d:=d) (e:=e) (f:=f) (g:=g)
 by_cases h:iY a b c d e f g
 ·rw[h3.2 h,h4.2 h]
 ·have:=mt h3.1 h;have:=mt h4.1 h;omega
def t77(A:aI)(mId:Int)(mN:Int)(mSet:Int)(mAcc:Int)(mFail:Int)(mStage:Int)(mFirst:Int)(node:Int):LT Bool Empty:=.need (A.k (@tt (Int×Int)) (node,(A.b .sub .i64 mN 1))) (.br (A.k BS (node,(A.b .sub .i64 mN 1))) (.ret (A.c .neq node mId)) (.ret false))
def Cs:((Int×Int×Int×Int×Int×Int×Int)×Int)→Bool:=fun((mId,mN,mSet,mAcc,mFail,mStage,mFirst),node)=>(t77 ah mId mN mSet mAcc mFail mStage mFirst node).val (Ty.bi [.bool])
def aie:ax:=⟨[(.struct [yI,yI,yI,yI,yI,yI,yI]),yI], [.bool],(@tt ((Int×Int×Int×Int×Int×Int×Int)×Int)),Cs⟩
theorem aaj:Sd 177 aie:=aH ap bR true 26 [] (fun A ((mId,mN,mSet,mAcc,mFail,mStage,mFirst),node)=>t77 A mId mN mSet mAcc mFail mStage mFirst node) (fc Tryz.func177 fz) (sc af5 sz) (fun(((mId,mN,mSet,mAcc,mFail,mStage,mFirst),node):(Int×Int×Int×Int×Int×Int×Int)×Int) hp h=>by
 show(t77 ah mId mN mSet mAcc mFail mStage mFirst node).pre=true
 simp only[t77,LT.pre,Gk,bne_iff_ne,beq_iff_eq,bne_eq_false_iff_eq,beq_eq_false_iff_ne]
 simp only[Ty.cN,Ty.has,ml,x_] at h
 (repeat' (first|intro _|constructor))<;>(try omega))
def t73(A:aI)(mId:Int)(mN:Int)(mSet:Int)(mAcc:Int)(mFail:Int)(mStage:Int)(mFirst:Int)(sender:Int):LT Int Empty:=.need (A.k (@tt ((Int×Int×Int×Int×Int×Int×Int))) (mId,mN,mSet,mAcc,mFail,mStage,mFirst)) (.br (A.c .neq (A.k lW (mId,mN,mSet,mAcc,mFail,mStage,mFirst)) 0) (.ret (A.k lW (mId,mN,mSet,mAcc,mFail,mStage,mFirst))) (.need (A.k (@tt ((Int×Int×Int×Int×Int×Int×Int)×Int)) ((mId,mN,mSet,mAcc,mFail,mStage,mFirst),sender)) (.br (A.not (A.k Cs ((mId,mN,mSet,mAcc,mFail,mStage,mFirst),sender))) (.ret 2) (.ret 0))))
def I7:((Int×Int×Int×Int×Int×Int×Int)×Int)→Int:=fun((mId,mN,mSet,mAcc,mFail,mStage,mFirst),sender)=>(t73 ah mId mN mSet mAcc mFail mStage mFirst sender).val (Ty.bi [yI])
def ajf:ax:=⟨[(.struct [yI,yI,yI,yI,yI,yI,yI]),yI], [yI],(@tt ((Int×Int×Int×Int×Int×Int×Int)×Int)),I7⟩
theorem acW:Sd 183 ajf:=aH ap bR true 39 [] (fun A ((mId,mN,mSet,mAcc,mFail,mStage,mFirst),sender)=>t73 A mId mN mSet mAcc mFail mStage mFirst sender) (fc Tryz.func183 fz) (sc H8 (sc aaj sz)) (fun(((mId,mN,mSet,mAcc,mFail,mStage,mFirst),sender):(Int×Int×Int×Int×Int×Int×Int)×Int) hp h=>by
 show(t73 ah mId mN mSet mAcc mFail mStage mFirst sender).pre=true
 simp only[t73,LT.pre,Gk,bne_iff_ne,beq_iff_eq,bne_eq_false_iff_eq,beq_eq_false_iff_ne]
 simp only[Ty.cN,Ty.has,ml,x_] at h
 (repeat' (first|intro _|constructor))<;>(try omega))
abbrev zg(A:aI)(mSet:Int)(sender:Int):=(A.b .or .i64 mSet (A.b .shl .i64 1 sender))
def t78(A:aI)(mId:Int)(mN:Int)(mSet:Int)(mAcc:Int)(mFail:Int)(mStage:Int)(mFirst:Int)(sender:Int):LT (List Int×Int) Empty:=.need (A.c .leq 0 mId) (.need (A.c .leq 0 mFirst) (.need (A.c .leq 0 sender) (.br (A.c .eql mStage 0) (.ret ([(zg A mSet sender),0],1)) (.br (A.c .eql mStage 1) (.ret ([(A.b .or .i64 (zg A mSet sender) (A.b .shl .i64 1 mId)),(A.b .andNot .i64 (zg A mSet sender) (A.b .shl .i64 1 mId))],2)) (.br (A.c .eql sender mFirst) (.ret ([(A.b .or .i64 (zg A mSet sender) (A.b .shl .i64 1 mId)),0],1)) (.ret ([(A.b .andNot .i64 (A.b .or .i64 (zg A mSet sender) (A.b .shl .i64 1 mId)) (A.b .shl .i64 1 mFirst)),(A.b .andNot .i64 (A.b .or .i64 (zg A mSet sender) (A.b .shl .i64 1 mFirst)) (A.b .shl .i64 1 mId))],2)))))))
def iO:((Int×Int×Int×Int×Int×Int×Int)×Int)→(List Int×Int):=fun((mId,mN,mSet,mAcc,mFail,mStage,mFirst),sender)=>(t78 ah mId mN mSet mAcc mFail mStage mFirst sender).val (Ty.bi [(.arr 2 yI),yI])
def DF:((Int×Int×Int×Int×Int×Int×Int)×Int)→Bool:=fun((a,b,c,d,e,f,g),s)=>decide (0≤a)&&(decide (0≤g)&&decide (0≤s))
def ain:ax:=⟨[(.struct [yI,yI,yI,yI,yI,yI,yI]),yI], [(.arr 2 yI),yI],DF,iO⟩
theorem ahc:Sd 178 ain:=aH ap bR true 77 [] (fun A ((mId,mN,mSet,mAcc,mFail,mStage,mFirst),sender)=>t78 A mId mN mSet mAcc mFail mStage mFirst sender) (fc Tryz.func178 fz) sz (fun(((mId,mN,mSet,mAcc,mFail,mStage,mFirst),sender):(Int×Int×Int×Int×Int×Int×Int)×Int) hp h=>by
 show(t78 ah mId mN mSet mAcc mFail mStage mFirst sender).pre=true
 simp only[t78,zg,LT.pre,Gk,bne_iff_ne,beq_iff_eq,bne_eq_false_iff_eq,beq_eq_false_iff_ne]
 simp only[DF,cd,jV] at hp
 simp only[Ty.cN,Ty.has,ml,x_] at h
 (repeat' (first|intro _|constructor))<;>(try omega))
theorem qW{a b c d e f g s:Int}(h0:4≤b)(h1:b≤8):Cs ((a,b,c,d,e,f,g),s)=true↔0≤s∧s<b∧s≠a:=by
 simp only[Cs,t77,LT.val,pg,aD,aT,ar,ao,bg,bZ,aJ,eY,vA,aA,ck,cu,qw,g_,dU,cd,Bool.or_eq_true,Bool.and_eq_false_iff,Bool.or_eq_false_iff,Bool.not_eq_true',Bool.not_eq_false',jV,decide_eq_false_iff_not,bne_iff_ne,beq_iff_eq,bne_eq_false_iff_eq,beq_eq_false_iff_ne,EY]
 simp
 rw[iZ (by omega) (by omega)]
 omega
theorem F8{x:(Int×Int×Int×Int×Int×Int×Int)×Int}:0≤(iO x).2∧(iO x).2≤2:=by
 obtain⟨⟨a,b,c,d,e,f,g⟩,s⟩:=x
 exact LT.lm (p:=fun y:List Int×Int=>0≤y.2∧y.2≤2) (by decide) (by simp[t78,zg,LT.all])
structure ac6 where
 (a0 a1 a2 a4 a5 a6 a7 a8 a9 cB da a12 kE jv lJ a16 a17 lK mh a20 a21 a22 a23:Int) (a24:Bool) (a25 a26 a27 a28 a29 a30 a31 a32 a33 a34 a35 a36 a37 a38 a39 a40:Int)
inductive Y74 where
 | c0 (p:ac6) (a3:Int)
noncomputable def afv:Y74→eD
 | .c0 p a3=>⟨[⟨176,37,(en [(0,.yield 0),(24,.nD 1 1 false p.a0 p.a1),(25,vi p.a2),(26,vi a3)]),[.inLoop (cw Tryz.f176 [1,1,1,0,0]),.inBlock 0],[],none⟩,⟨184,19,(en [(6,.ptr 2 0),(7,.ptr 3 0)]),[.kw 0,.inBlock 0,.code (cw Tryz.f184 [1,1])],[4],none⟩],[.loop ⟨184,19,(en [(0,.agg [vi p.a4,vi p.a5,vi p.a6,vi p.a7,vi p.a8,vi p.a9,vi p.cB]),(1,vi p.da),(2,vi p.a12),(3,.ptr 5 0),(5,.ptr 6 0),(6,.ptr 2 0),(7,.ptr 3 0),(10,.agg [vi p.kE,vi p.jv,vi p.lJ,vi p.a16,vi p.a17,vi p.lK,vi p.mh]),(11,vi p.a20),(12,.fn 176 [] [.ptr 7 0,.ptr 8 0])]),[13,14],(cw Tryz.f184 [1,0,1,0,0]),(cw Tryz.f184 [1,0,1,0,1]),0,none⟩,.flat false [vi p.a21,vi p.a22],.flat false [vi p.a23],.flat false [vb p.a24],.BZ,.flat false [vi p.a25,vi p.a26,vi p.a27,vi p.a28,vi p.a29,vi p.a30,vi p.a31],.flat false [vi p.a32],.flat false [vi p.a33,vi p.a34,vi p.a35,vi p.a36,vi p.a37,vi p.a38,vi p.a39],.flat false [vi p.a40],.dead]⟩
def t74(A:aI)(mId:Int)(mN:Int)(mSet:Int)(mAcc:Int)(mFail:Int)(mStage:Int)(mFirst:Int)(sender:Int)(which:Int):LT (Int×Bool) Y74:=.need (A.k (@tt ((Int×Int×Int×Int×Int×Int×Int))) (mId,mN,mSet,mAcc,mFail,mStage,mFirst)) (.br (A.c .neq (A.k lW (mId,mN,mSet,mAcc,mFail,mStage,mFirst)) 0) (.ret (0,false)) (.need (A.k (@tt ((Int×Int×Int×Int×Int×Int×Int)×Int)) ((mId,mN,mSet,mAcc,mFail,mStage,mFirst),sender)) (.br (A.not (A.k Cs ((mId,mN,mSet,mAcc,mFail,mStage,mFirst),sender))) (.ret (0,false)) (.need (A.k DF ((mId,mN,mSet,mAcc,mFail,mStage,mFirst),sender)) (.need (A.and (A.c .leq 0 0) (A.and (A.c .leq 0 (A.k iO ((mId,mN,mSet,mAcc,mFail,mStage,mFirst),sender)).2) (A.c .leq (A.k iO ((mId,mN,mSet,mAcc,mFail,mStage,mFirst),sender)).2 2))) (.more (.c0 ⟨(A.b .add .i64 0 0),(A.b .sub .i64 (A.k iO ((mId,mN,mSet,mAcc,mFail,mStage,mFirst),sender)).2 0),(A.b .sub .i64 (A.k iO ((mId,mN,mSet,mAcc,mFail,mStage,mFirst),sender)).2 0),mId,mN,mSet,mAcc,mFail,mStage,mFirst,sender,which,mId,mN,mSet,mAcc,mFail,mStage,mFirst,sender,(A.n yI (A.k iO ((mId,mN,mSet,mAcc,mFail,mStage,mFirst),sender)).1 0:Int),(A.n yI (A.k iO ((mId,mN,mSet,mAcc,mFail,mStage,mFirst),sender)).1 1:Int),0,false,mId,mN,mSet,mAcc,mFail,mStage,mFirst,which,mId,mN,mSet,mAcc,mFail,mStage,mFirst,sender⟩ 0)))))))
def s74(A:aI):Y74→LT (Int×Bool) Y74
 | .c0 p a3=>.br (A.c .lss a3 p.a2) (.need (A.and (A.c .leq 0 a3) (A.c .lss a3 p.a1)) (.br (A.c .eql a3 p.a32) (.ret ((A.n yI [p.a21,p.a22] (A.b .add .i64 p.a0 a3):Int),true)) (.more (.c0 p (A.b .add .i64 a3 1))))) (.ret (0,false))
def Ep:((Int×Int×Int×Int×Int×Int×Int)×Int×Int)→(Int×Bool):=fun(m,s,k)=>bif lW m != 0 then(0,false) else bif !Cs (m,s) then(0,false) else bif decide (0≤k)&&decide (k<(iO (m,s)).2) then((iO (m,s)).1.getD k.toNat 0,true) else(0,false)
def aiD:ax:=⟨[(.struct [yI,yI,yI,yI,yI,yI,yI]),yI,yI], [yI,.bool],(@tt ((Int×Int×Int×Int×Int×Int×Int)×Int×Int)),Ep⟩
theorem ai3:Sd 184 aiD:=aP ap bR true 70 [⟨176,3, [[0,24,25,26], [6,7]]⟩] [] (fun A ((mId,mN,mSet,mAcc,mFail,mStage,mFirst),sender,which)=>t74 A mId mN mSet mAcc mFail mStage mFirst sender which) s74 afv (fc Tryz.func184 (fc Tryz.func102 (fc Tryz.func176 fz))) (sc H8 (sc aaj (sc ahc sz))) (fun A y=>match y with |.c0 p a3=>⟨57,by kernel_rfl,by kernel_rfl⟩) fun(((mId,mN,mSet,mAcc,mFail,mStage,mFirst),sender,which):(Int×Int×Int×Int×Int×Int×Int)×Int×Int) hp h=>by
 show au (s74 ah) (t74 ah mId mN mSet mAcc mFail mStage mFirst sender which) (Ep ((mId,mN,mSet,mAcc,mFail,mStage,mFirst),sender,which))
 unfold t74 Ep
 refine .need rfl (.br ?_)
 simp only[aA,aT,eY]
 cases h1:lW (mId,mN,mSet,mAcc,mFail,mStage,mFirst) != 0
 ·simp only[cond_false]
  rw[bne_eq_false_iff_eq] at h1
  have hm:=dJ.1 h1
  unfold iY at hm
  refine .need rfl (.br ?_)
  cases h2:Cs ((mId,mN,mSet,mAcc,mFail,mStage,mFirst),sender)
  ·exact .ret _
  ·simp only[Bool.not_true,cond_false]
   have h3:=(qW (by omega) (by omega)).1 h2
   have hq:=F8 (x:=((mId,mN,mSet,mAcc,mFail,mStage,mFirst),sender))
   refine .need (by simp[DF];omega) ?_
   generalize iO ((mId,mN,mSet,mAcc,mFail,mStage,mFirst),sender)=q at *
   obtain⟨l,n⟩:=q
   simp only at hq
   refine .need (by simp only[aJ,ao,cd,jV];omega) ?_
   have hn:n=0∨n=1∨n=2:=by omega
   have hk:which=0∨which=1∨(which≠0∧which≠1):=by omega
   have e0:IntKind.i64.wrap 0=0:=by decide
   have e1:IntKind.i64.wrap 1=1:=by decide
   have e2:IntKind.i64.wrap 2=2:=by decide
   rcases hn with rfl|rfl|rfl<;>rcases hk with rfl|rfl|⟨k0,k1⟩
   all_goals first
    | (simp[ak,s74,uB,af,zl,ar,ao,aD,aJ,ck,cu,Ke,e0,e1,e2,Ty.dZ];done)
    | (simp[ak,s74,uB,af,zl,ar,ao,aD,aJ,ck,cu,e0,e1,e2];rfl)
    | (have b0:(0==which)=false:=by simp<;>omega
       have b1:(1==which)=false:=by simp<;>omega
       have c0:(decide (0≤which)&&decide (which<0))=false:=by simp<;>omega
       have c1:(decide (0≤which)&&decide (which<1))=false:=by simp<;>omega
       have c2:(decide (0≤which)&&decide (which<2))=false:=by simp<;>omega
       simp only[c0,c1,c2]
       simp[ak,s74,uB,af,zl,ar,ao,aD,aJ,ck,cu,Ke,e0,e1,e2,b0,b1])
 ·exact .ret _
theorem fh{a b c d e f g s:Int}:I7 ((a,b,c,d,e,f,g),s)=0↔iY a b c d e f g∧0≤s∧s<b∧s≠a:=by
 simp only[I7,t73,LT.val,pg,aD,aT,ar,ao,bg,bZ,aJ,eY,vA,aA,ck,cu,qw,g_,dU,cd,Bool.or_eq_true,Bool.and_eq_false_iff,Bool.or_eq_false_iff,Bool.not_eq_true',Bool.not_eq_false',jV,decide_eq_false_iff_not,bne_iff_ne,beq_iff_eq,bne_eq_false_iff_eq,beq_eq_false_iff_ne]
 constructor
 ·intro h
  rcases h with ⟨h1,h2⟩|⟨h1,h2⟩
  ·exact absurd h2 h1
  ·have hm:=dJ.1 h1
   have hm':=hm
   unfold iY at hm'
   rcases h2 with ⟨h2,h3⟩|⟨h2,_⟩
   ·cases h3
   ·exact⟨hm,(qW (by omega) (by omega)).1 h2⟩
 ·rintro ⟨hm,hs⟩
  have hm':=hm
  unfold iY at hm'
  exact .inr ⟨dJ.2 hm,.inr ⟨(qW (by omega) (by omega)).2 hs,trivial⟩⟩
abbrev Bi(A:aI)(mId:Int)(mN:Int)(mSet:Int)(mAcc:Int)(mFail:Int)(mStage:Int)(mFirst:Int)(sender:Int)(which:Int):LT ((Int×Int×Int×Int×Int×Int×Int)×Int) Empty:=(.br (A.c .eql mStage 2) (.br (A.c .neq sender mFirst) (.ret ((mId,mN,(A.k Ep ((mId,mN,mSet,mAcc,mFail,mStage,mFirst),sender,which)).1,(A.mn (A.b .add .i64 mAcc 1) 1048576),(A.mn (A.b .add .i64 mFail 1) 1048576),0,0),0)) (.ret ((mId,mN,(A.k Ep ((mId,mN,mSet,mAcc,mFail,mStage,mFirst),sender,which)).1,(A.mn (A.b .add .i64 mAcc 1) 1048576),mFail,0,0),0))) (.ret ((mId,mN,(A.k Ep ((mId,mN,mSet,mAcc,mFail,mStage,mFirst),sender,which)).1,(A.mn (A.b .add .i64 mAcc 1) 1048576),mFail,0,0),0)))
def t25(A:aI)(mId:Int)(mN:Int)(mSet:Int)(mAcc:Int)(mFail:Int)(mStage:Int)(mFirst:Int)(sender:Int)(which:Int):LT ((Int×Int×Int×Int×Int×Int×Int)×Int) Empty:=.need (A.k (@tt ((Int×Int×Int×Int×Int×Int×Int)×Int)) ((mId,mN,mSet,mAcc,mFail,mStage,mFirst),sender)) (.br (A.c .neq (A.k I7 ((mId,mN,mSet,mAcc,mFail,mStage,mFirst),sender)) 0) (.ret ((0,0,0,0,0,0,0),(A.k I7 ((mId,mN,mSet,mAcc,mFail,mStage,mFirst),sender)))) (.need (A.k (@tt ((Int×Int×Int×Int×Int×Int×Int)×Int×Int)) ((mId,mN,mSet,mAcc,mFail,mStage,mFirst),sender,which)) (.br (A.not (A.k Ep ((mId,mN,mSet,mAcc,mFail,mStage,mFirst),sender,which)).2) (.ret ((0,0,0,0,0,0,0),2)) (.br (A.c .eql mStage 1) (.br (A.c .eql which 1) (.need (A.c .leq 0 sender) (.ret ((mId,mN,(A.b .or .i64 mSet (A.b .shl .i64 1 sender)),mAcc,mFail,2,sender),0))) (Bi A mId mN mSet mAcc mFail mStage mFirst sender which)) (Bi A mId mN mSet mAcc mFail mStage mFirst sender which)))))
def oC:((Int×Int×Int×Int×Int×Int×Int)×Int×Int)→((Int×Int×Int×Int×Int×Int×Int)×Int):=fun((mId,mN,mSet,mAcc,mFail,mStage,mFirst),sender,which)=>(t25 ah mId mN mSet mAcc mFail mStage mFirst sender which).val (Ty.bi [(.struct [yI,yI,yI,yI,yI,yI,yI]),yI])
def ah1:ax:=⟨[(.struct [yI,yI,yI,yI,yI,yI,yI]),yI,yI], [(.struct [yI,yI,yI,yI,yI,yI,yI]),yI],(@tt ((Int×Int×Int×Int×Int×Int×Int)×Int×Int)),oC⟩
theorem ai5:Sd 109 ah1:=aH ap bR true 107 [] (fun A ((mId,mN,mSet,mAcc,mFail,mStage,mFirst),sender,which)=>t25 A mId mN mSet mAcc mFail mStage mFirst sender which) (fc Tryz.func109 fz) (sc acW (sc ai3 sz)) (fun(((mId,mN,mSet,mAcc,mFail,mStage,mFirst),sender,which):(Int×Int×Int×Int×Int×Int×Int)×Int×Int) hp h=>by
 show(t25 ah mId mN mSet mAcc mFail mStage mFirst sender which).pre=true
 simp only[t25,Bi,LT.pre,Gk,bne_iff_ne,beq_iff_eq,bne_eq_false_iff_eq,beq_eq_false_iff_ne]
 simp only[Ty.cN,Ty.has,ml] at h
 (repeat' (first|intro _|constructor))<;>(try (have hm:=(fh.1 (by assumption));unfold iY at hm;omega)))
def t38(A:aI)(mId:Int)(mN:Int)(mSet:Int)(mAcc:Int)(mFail:Int)(mStage:Int)(mFirst:Int)(sender:Int):LT ((Int×Int×Int×Int×Int×Int×Int)×Int) Empty:=.need (A.k (@tt ((Int×Int×Int×Int×Int×Int×Int)×Int)) ((mId,mN,mSet,mAcc,mFail,mStage,mFirst),sender)) (.br (A.c .neq (A.k I7 ((mId,mN,mSet,mAcc,mFail,mStage,mFirst),sender)) 0) (.ret ((0,0,0,0,0,0,0),(A.k I7 ((mId,mN,mSet,mAcc,mFail,mStage,mFirst),sender)))) (.need (A.c .leq 0 sender) (.br (A.c .eql mStage 2) (.br (A.c .eql mFirst sender) (.ret ((mId,mN,(A.b .andNot .i64 mSet (A.b .shl .i64 1 sender)),mAcc,mFail,1,0),0)) (.ret ((mId,mN,(A.b .andNot .i64 mSet (A.b .shl .i64 1 sender)),mAcc,mFail,mStage,mFirst),0))) (.ret ((mId,mN,(A.b .andNot .i64 mSet (A.b .shl .i64 1 sender)),mAcc,mFail,mStage,mFirst),0)))))
def om:((Int×Int×Int×Int×Int×Int×Int)×Int)→((Int×Int×Int×Int×Int×Int×Int)×Int):=fun((mId,mN,mSet,mAcc,mFail,mStage,mFirst),sender)=>(t38 ah mId mN mSet mAcc mFail mStage mFirst sender).val (Ty.bi [(.struct [yI,yI,yI,yI,yI,yI,yI]),yI])
def aiE:ax:=⟨[(.struct [yI,yI,yI,yI,yI,yI,yI]),yI], [(.struct [yI,yI,yI,yI,yI,yI,yI]),yI],(@tt ((Int×Int×Int×Int×Int×Int×Int)×Int)),om⟩
theorem ae0:Sd 107 aiE:=aH ap bR true 63 [] (fun A ((mId,mN,mSet,mAcc,mFail,mStage,mFirst),sender)=>t38 A mId mN mSet mAcc mFail mStage mFirst sender) (fc Tryz.func107 fz) (sc acW sz) (fun(((mId,mN,mSet,mAcc,mFail,mStage,mFirst),sender):(Int×Int×Int×Int×Int×Int×Int)×Int) hp h=>by
 show(t38 ah mId mN mSet mAcc mFail mStage mFirst sender).pre=true
 simp only[t38,LT.pre,Gk,bne_iff_ne,beq_iff_eq,bne_eq_false_iff_eq,beq_eq_false_iff_ne]
 simp only[Ty.cN,Ty.has,ml] at h
 (repeat' (first|intro _|constructor))<;>(try (have hm:=(fh.1 (by assumption));unfold iY at hm;omega)))
def t39(A:aI)(mId:Int)(mN:Int)(mSet:Int)(mAcc:Int)(mFail:Int)(mStage:Int)(mFirst:Int)(sender:Int):LT ((Int×Int×Int×Int×Int×Int×Int)×Int) Empty:=.need (A.k (@tt ((Int×Int×Int×Int×Int×Int×Int)×Int)) ((mId,mN,mSet,mAcc,mFail,mStage,mFirst),sender)) (.br (A.c .eql (A.k om ((mId,mN,mSet,mAcc,mFail,mStage,mFirst),sender)).2 0) (.ret (((A.k om ((mId,mN,mSet,mAcc,mFail,mStage,mFirst),sender)).1.1,(A.k om ((mId,mN,mSet,mAcc,mFail,mStage,mFirst),sender)).1.2.1,(A.k om ((mId,mN,mSet,mAcc,mFail,mStage,mFirst),sender)).1.2.2.1,(A.k om ((mId,mN,mSet,mAcc,mFail,mStage,mFirst),sender)).1.2.2.2.1,(A.mn (A.b .add .i64 (A.k om ((mId,mN,mSet,mAcc,mFail,mStage,mFirst),sender)).1.2.2.2.2.1 1) 1048576),(A.k om ((mId,mN,mSet,mAcc,mFail,mStage,mFirst),sender)).1.2.2.2.2.2),(A.k om ((mId,mN,mSet,mAcc,mFail,mStage,mFirst),sender)).2)) (.ret (A.k om ((mId,mN,mSet,mAcc,mFail,mStage,mFirst),sender))))
def O0:((Int×Int×Int×Int×Int×Int×Int)×Int)→((Int×Int×Int×Int×Int×Int×Int)×Int):=fun((mId,mN,mSet,mAcc,mFail,mStage,mFirst),sender)=>(t39 ah mId mN mSet mAcc mFail mStage mFirst sender).val (Ty.bi [(.struct [yI,yI,yI,yI,yI,yI,yI]),yI])
def ah6:ax:=⟨[(.struct [yI,yI,yI,yI,yI,yI,yI]),yI], [(.struct [yI,yI,yI,yI,yI,yI,yI]),yI],(@tt ((Int×Int×Int×Int×Int×Int×Int)×Int)),O0⟩
theorem ai7:Sd 108 ah6:=aH ap bR true 45 [] (fun A ((mId,mN,mSet,mAcc,mFail,mStage,mFirst),sender)=>t39 A mId mN mSet mAcc mFail mStage mFirst sender) (fc Tryz.func108 fz) (sc ae0 sz) (fun(((mId,mN,mSet,mAcc,mFail,mStage,mFirst),sender):(Int×Int×Int×Int×Int×Int×Int)×Int) hp h=>by
 show(t39 ah mId mN mSet mAcc mFail mStage mFirst sender).pre=true
 simp only[t39,LT.pre,Gk,bne_iff_ne,beq_iff_eq,bne_eq_false_iff_eq,beq_eq_false_iff_ne]
 simp only[Ty.cN,Ty.has,ml,x_] at h
 (repeat' (first|intro _|constructor))<;>(try omega))
def inc(d:Int):Int:=if d<1048576 then d+1 else 1048576
theorem qQ{d:Int}(h0:0≤d)(h1:d≤1048576):ah.mn (ah.b .add .i64 d 1) 1048576=inc d:=by
 rw[ov,ck,iZ (by omega) (by omega),inc]
 split<;>split<;>omega
section
variable {a b c d e f g s:Int}
theorem IQ:iO ((a,b,c,d,e,0,g),s)=([jU c s,0],1):=rfl
theorem Ie:iO ((a,b,c,d,e,1,g),s)=([jU (jU c s) a,qb (jU c s) a],2):=rfl
theorem Fi:iO ((a,b,c,d,e,2,g),g)=([jU (jU c g) a,0],1):=by
 simp[iO,t78,zg,LT.val,aD,jU]
theorem D4(h:s≠g):iO ((a,b,c,d,e,2,g),s)=([qb (jU (jU c s) a) g,qb (jU (jU c s) g) a],2):=by
 have hb:(s==g)=false:=by simpa using h
 simp[iO,t78,zg,LT.val,aD,jU,qb,hb]
theorem od(h:iY a b c d e f g)(h0:0≤s)(h1:s<b)(h2:s≠a)(k:Int):Ep ((a,b,c,d,e,f,g),s,k) =
  bif decide (0≤k)&&decide (k<(iO ((a,b,c,d,e,f,g),s)).2) then((iO ((a,b,c,d,e,f,g),s)).1.getD k.toNat 0,true) else(0,false):=by
 have hm:=h
 unfold iY at hm
 simp only[Ep,dJ.2 h,(qW (by omega) (by omega)).2 ⟨h0,h1,h2⟩,bne_self_eq_false,Bool.not_true,cond_false]
theorem Qo(h:iY a b c d e 0 g)(h0:0≤s)(h1:s<b)(h2:s≠a):oC ((a,b,c,d,e,0,g),s,0)=((a,b,jU c s,inc d,e,0,0),0):=by
 have hm:=h
 unfold iY at hm
 simp[oC,t25,Bi,LT.val,aA,aT,aD,eY,fh.2 ⟨h,h0,h1,h2⟩,od h h0 h1 h2,IQ,qQ (d:=d) (by omega) (by omega)]
theorem Qe(h:iY a b c d e 1 g)(h0:0≤s)(h1:s<b)(h2:s≠a):oC ((a,b,c,d,e,1,g),s,0)=((a,b,jU (jU c s) a,inc d,e,0,0),0):=by
 have hm:=h
 unfold iY at hm
 simp[oC,t25,Bi,LT.val,aA,aT,aD,eY,fh.2 ⟨h,h0,h1,h2⟩,od h h0 h1 h2,Ie,qQ (d:=d) (by omega) (by omega)]
theorem Kz(h:iY a b c d e 1 g)(h0:0≤s)(h1:s<b)(h2:s≠a):oC ((a,b,c,d,e,1,g),s,1)=((a,b,jU c s,d,e,2,s),0):=by
 simp[oC,t25,Bi,LT.val,aA,aT,aD,eY,fh.2 ⟨h,h0,h1,h2⟩,od h h0 h1 h2,Ie,jU]
theorem JV(h:iY a b c d e 2 g)(h0:0≤g)(h1:g<b)(h2:g≠a):oC ((a,b,c,d,e,2,g),g,0)=((a,b,jU (jU c g) a,inc d,e,0,0),0):=by
 have hm:=h
 unfold iY at hm
 simp[oC,t25,Bi,LT.val,aA,aT,aD,eY,fh.2 ⟨h,h0,h1,h2⟩,od h h0 h1 h2,Fi,qQ (d:=d) (by omega) (by omega)]
theorem JZ(h:iY a b c d e 2 g)(h0:0≤s)(h1:s<b)(h2:s≠a)(h3:s≠g):oC ((a,b,c,d,e,2,g),s,0)=((a,b,qb (jU (jU c s) a) g,inc d,inc e,0,0),0):=by
 have hm:=h
 unfold iY at hm
 simp[oC,t25,Bi,LT.val,aA,aT,aD,eY,fh.2 ⟨h,h0,h1,h2⟩,od h h0 h1 h2,D4 h3,show(s != g)=true from by simpa using h3,qQ (d:=d) (by omega) (by omega),qQ (d:=e) (by omega) (by omega)]
theorem J7(h:iY a b c d e 2 g)(h0:0≤s)(h1:s<b)(h2:s≠a)(h3:s≠g):oC ((a,b,c,d,e,2,g),s,1)=((a,b,qb (jU (jU c s) g) a,inc d,inc e,0,0),0):=by
 have hm:=h
 unfold iY at hm
 simp[oC,t25,Bi,LT.val,aA,aT,aD,eY,fh.2 ⟨h,h0,h1,h2⟩,od h h0 h1 h2,D4 h3,show(s != g)=true from by simpa using h3,qQ (d:=d) (by omega) (by omega),qQ (d:=e) (by omega) (by omega)]
theorem Oe(h:iY a b c d e f g)(h0:0≤s)(h1:s<b)(h2:s≠a)(h3:f≠2):om ((a,b,c,d,e,f,g),s)=((a,b,qb c s,d,e,f,g),0):=by
 have hb:(f==2)=false:=by simpa using h3
 simp[om,t38,LT.val,aA,aT,aD,fh.2 ⟨h,h0,h1,h2⟩,qb,hb]
theorem Rj(h:iY a b c d e 2 g)(h0:0≤s)(h1:s<b)(h2:s≠a)(h3:g≠s):om ((a,b,c,d,e,2,g),s)=((a,b,qb c s,d,e,2,g),0):=by
 have hb:(g==s)=false:=by simpa using h3
 simp[om,t38,LT.val,aA,aT,aD,fh.2 ⟨h,h0,h1,h2⟩,qb,hb]
theorem M2(h:iY a b c d e 2 g)(h2:g≠a):om ((a,b,c,d,e,2,g),g)=((a,b,qb c g,d,e,1,0),0):=by
 have hm:=h
 unfold iY at hm
 simp[om,t38,LT.val,aA,aT,aD,fh.2 ⟨h,hm.2.2.2.2.1,hm.2.2.2.2.2.1,h2⟩,qb]
theorem Jk{m m':Int×Int×Int×Int×Int×Int×Int}(h:om (m,s)=(m',0))(h0:0≤m'.2.2.2.2.1)(h1:m'.2.2.2.2.1≤1048576):O0 (m,s)=((m'.1,m'.2.1,m'.2.2.1,m'.2.2.2.1,inc m'.2.2.2.2.1,m'.2.2.2.2.2),0):=by
 obtain⟨a,b,c,d,e,f,g⟩:=m
 simp[O0,t39,LT.val,aA,aD,h,qQ h0 h1]
end
structure Xf where
 (a0:List (Int×Int×(Int×List Int))) (a1 a3 a4 a5 a6 a7 a8 a9 cB da a12 kE jv lJ:Int)
structure KT where
 (b0 b1 b2 b3 b4 b5 b6 b7 b8 b9 b10 b11 b12 b13 iq fe bI:Int) (gT:List (Int×Int×(Int×List Int))) (nc:Bool) (j6 mO zV Hq b23 b24 b25 b26:Int) (b27 b28:Bool) (b29 b30 b31 b32 b33 b34 b35:Int) (b36 b37 b38:Bool) (b39:Int) (b40 b41:Bool) (b42 b43:Int) (b44 b45 b46:Bool) (b47 b48:Int) (b49 b50 b51:Bool) (b52:List (Int×Int×(Int×List Int))) (b53:Int) (b54 b55:Bool) (b56 b57 b58 b59 b60 b61 b62 b63 b64 b65:Int) (Vp:List (Int×Int×(Int×List Int))) (b67 b68 b69 b70 b71 b72 b73 b74 b75 b76 b77 b78 b79 b80 b81 b82 b83 b84 b85 b86 b87 b88 b89 b90 b91 b92 b93 b94 b95 b96 b97 b98 b99:Int)
structure Ov where
 (c0:Int) (c1:List (Int×Int×(Int×List Int))) (c2 c4 c5 c6 c7 c8 c9 c10 c11 c12 c13 c14 yG c16 MI MJ c19 c20 c21 c22 c23 c24 c25 c26 c27 c28 c29 c30 c31 c32 c33 c34 c35 c36 c37 c38:Int) (c39:List (Int×Int×(Int×List Int))) (c40:Bool) (c41 c42 c43 c44 c45 c46 c47 c48:Int) (c49 c50:Bool) (c51 c52 c53 c54 c55 c56 c57:Int) (c58 c59 c60:Bool) (c61:Int) (c62 c63:Bool) (c64 c65:Int) (c66 c67 c68:Bool) (c69 c70:Int) (c71 c72 c73:Bool) (c74:List (Int×Int×(Int×List Int))) (c75:Int) (c76 c77:Bool) (c78 c79 c80 c81 c82 c83 c84 c85 c86 c87:Int) (c88:List (Int×Int×(Int×List Int))) (c89 c90 c91 c92 c93 c94 c95 c96 c97 c98 c99 ahB adD aej afr:Int)
inductive Tc where
 | c0 (p:Xf) (a2:Int)
 | c1 (p:KT)
 | c2 (p:Ov) (c3:Int)
noncomputable def adE:Tc→eD
 | .c0 p a2=>⟨[⟨180,19,(en [(0,.sl (.struct [yI,yI,(.struct [yI,yB])]) p.a0),(1,.fn 105 [] []),(7,vi p.a1),(8,vi a2)]),[.inLoop (cw Tryz.f180 [1,0,1,0,0]),.inBlock 0,.code (cw Tryz.f180 [1,1])],[],none⟩,⟨104,9,.leaf,[.ops (ow Tryz.f104 [1,0]) ((ow Tryz.f104 [1,0]).toList.drop 2),.code .ret],[],none⟩,⟨49,85,(en [(8,.ptr 0 0),(9,.ptr 1 0)]),[.ops (ow Tryz.f49 [1,1,1,0,0]) ((ow Tryz.f49 [1,1,1,0,0]).toList.drop 1),.code (cw Tryz.f49 [1,1,1,0,1]),.code (cw Tryz.f49 [1,1,1,1])],[2],none⟩],[.flat false [vi p.a3,vi p.a4,vi p.a5,vi p.a6,vi p.a7,vi p.a8,vi p.a9,vi p.cB,vi p.da,vi p.a12,vi p.kE,.dp true,vi p.jv],.flat false [vi p.lJ],.BZ,.dead]⟩
 | .c1 p=>⟨[⟨176,37,(en [(0,.yield 0),(24,.nD 1 1 false p.b0 p.b1),(25,vi p.b2),(26,vi p.b3)]),[.inLoop (cw Tryz.f176 [1,1,1,0,0]),.inBlock 0],[],none⟩,⟨49,85,(en [(7,.ptr 2 0),(8,.ptr 3 0),(9,.ptr 4 0)]),[.kw 0,.inBlock 1,.code (cw Tryz.f49 [1,1,1])],[5],none⟩],[.loop ⟨49,85,(en [(0,.agg [vi p.b4,vi p.b5,vi p.b6,vi p.b7,vi p.b8]),(1,.agg [vi p.b9,vi p.b10,vi p.b11,vi p.b12,vi p.b13,vi p.iq,vi p.fe]),(2,vi p.bI),(3,.sl (.struct [yI,yI,(.struct [yI,yB])]) p.gT),(4,.ptr 9 0),(5,.ptr 6 0),(7,.ptr 2 0),(8,.ptr 3 0),(9,.ptr 4 0),(16,vb p.nc),(17,.agg [vi p.j6,vi p.mO,vi p.zV,vi p.Hq,vi p.b23,vi p.b24,vi p.b25]),(18,vi p.b26),(19,vb p.b27),(20,vb p.b28),(21,.agg [vi p.b29,vi p.b30,vi p.b31,vi p.b32,vi p.b33]),(22,.ptr 6 1),(23,vi p.b34),(24,vi p.b35),(25,vb p.b36),(26,vb p.b37),(28,vb p.b38),(29,vi p.b39),(30,vb p.b40),(31,vb p.b41),(32,vi p.b42),(33,.ptr 6 1),(34,vi p.b43),(35,vb p.b44),(36,vb p.b45),(37,vb p.b46),(38,vi p.b47),(39,.ptr 6 0),(40,vi p.b48),(41,vb p.b49),(42,vb p.b50),(43,vb p.b51),(44,.sl (.struct [yI,yI,(.struct [yI,yB])]) p.b52),(45,vi p.b53),(46,vb p.b54),(47,vb p.b55),(49,.agg [vi p.b56,vi p.b57,vi p.b58,vi p.b59,vi p.b60,vi p.b61,vi p.b62]),(50,vi p.b63),(51,.fn 176 [] [.ptr 7 0,.ptr 8 0])]),[52,53],(cw Tryz.f49 [1,1,0,1,0,0]),(cw Tryz.f49 [1,1,0,1,0,1]),0,none⟩,.flat false [vi p.b64,vi p.b65],.flat false [.sl (.struct [yI,yI,(.struct [yI,yB])]) p.Vp],.flat false [vi p.b67,vi p.b68,vi p.b69,vi p.b70,vi p.b71,vi p.b72,vi p.b73,vi p.b74,vi p.b75,vi p.b76,vi p.b77,.dp true,vi p.b78],.flat false [vi p.b79],.BZ,.flat false [vi p.b80,vi p.b81,vi p.b82,vi p.b83,vi p.b84,vi p.b85,vi p.b86],.flat false [vi p.b87,vi p.b88,vi p.b89,vi p.b90,vi p.b91,vi p.b92,vi p.b93],.flat false [vi p.b94],.flat false [vi p.b95,vi p.b96,vi p.b97,vi p.b98,vi p.b99],.dead]⟩
 | .c2 p c3=>⟨[⟨49,85,(en [(4,.ptr 0 0),(8,.ptr 1 0),(9,.ptr 2 0),(10,vi p.c0),(56,.sl (.struct [yI,yI,(.struct [yI,yB])]) p.c1),(57,vi p.c2),(58,vi c3)]),[.inLoop (cw Tryz.f49 [1,1,0,1,0,1,0,1,1,0,0]),.inBlock 3,.inBlock 2],[],some 3⟩,⟨176,37,(en [(0,.yield 3),(24,.nD 4 1 false p.c4 p.c5),(25,vi p.c6),(26,vi p.c7)]),[.ops (ow Tryz.f176 [1,1,1,0,0,1,1,0,0,1,0]) ((ow Tryz.f176 [1,1,1,0,0,1,1,0,0,1,0]).toList.drop 3),.code (cw Tryz.f176 [1,1,1,0,0,1,1,0,0,1,1]),.inBlock 1,.code (cw Tryz.f176 [1,1,1,0,0,1,1,1]),.inLoop (cw Tryz.f176 [1,1,1,0,0]),.inBlock 0],[],none⟩,⟨49,85,(en [(7,.ptr 5 0),(8,.ptr 1 0),(9,.ptr 2 0)]),[.kw 3,.inBlock 1,.code (cw Tryz.f49 [1,1,1])],[6],none⟩],[.flat false [vi p.c8,vi p.c9,vi p.c10,vi p.c11,vi p.c12],.flat false [vi p.c13,vi p.c14,vi p.yG,vi p.c16,vi p.MI,vi p.MJ,vi p.c19,vi p.c20,vi p.c21,vi p.c22,vi p.c23,.dp true,vi p.c24],.flat false [vi p.c25],.loop ⟨49,85,(en [(0,.agg [vi p.c26,vi p.c27,vi p.c28,vi p.c29,vi p.c30]),(1,.agg [vi p.c31,vi p.c32,vi p.c33,vi p.c34,vi p.c35,vi p.c36,vi p.c37]),(2,vi p.c38),(3,.sl (.struct [yI,yI,(.struct [yI,yB])]) p.c39),(4,.ptr 0 0),(5,.ptr 7 0),(7,.ptr 5 0),(8,.ptr 1 0),(9,.ptr 2 0),(16,vb p.c40),(17,.agg [vi p.c41,vi p.c42,vi p.c43,vi p.c44,vi p.c45,vi p.c46,vi p.c47]),(18,vi p.c48),(19,vb p.c49),(20,vb p.c50),(21,.agg [vi p.c51,vi p.c52,vi p.c53,vi p.c54,vi p.c55]),(22,.ptr 7 1),(23,vi p.c56),(24,vi p.c57),(25,vb p.c58),(26,vb p.c59),(28,vb p.c60),(29,vi p.c61),(30,vb p.c62),(31,vb p.c63),(32,vi p.c64),(33,.ptr 7 1),(34,vi p.c65),(35,vb p.c66),(36,vb p.c67),(37,vb p.c68),(38,vi p.c69),(39,.ptr 7 0),(40,vi p.c70),(41,vb p.c71),(42,vb p.c72),(43,vb p.c73),(44,.sl (.struct [yI,yI,(.struct [yI,yB])]) p.c74),(45,vi p.c75),(46,vb p.c76),(47,vb p.c77),(49,.agg [vi p.c78,vi p.c79,vi p.c80,vi p.c81,vi p.c82,vi p.c83,vi p.c84]),(50,vi p.c85),(51,.fn 176 [] [.ptr 8 0,.ptr 9 0])]),[52,53],(cw Tryz.f49 [1,1,0,1,0,0]),(cw Tryz.f49 [1,1,0,1,0,1]),1,none⟩,.flat false [vi p.c86,vi p.c87],.flat false [.sl (.struct [yI,yI,(.struct [yI,yB])]) p.c88],.BZ,.flat false [vi p.c89,vi p.c90,vi p.c91,vi p.c92,vi p.c93,vi p.c94,vi p.c95],.flat false [vi p.c96,vi p.c97,vi p.c98,vi p.c99,vi p.ahB,vi p.adD,vi p.aej],.flat false [vi p.afr],.dead]⟩
abbrev Qi:LT ((Int×Int×Int×(Int×Int×(Int×Int×Int×Int×Int)×Int×List Int)×Int)×Int) Tc:=(.ret ((0,0,0,(0,0,(0,0,0,0,0),0,([]:List Int)),0),2))
def t43(A:aI)(cTime:Int)(cPos:Int)(cMode:Int)(cNext:Int)(cMember:Int)(vId:Int)(vN:Int)(vSet:Int)(vAcc:Int)(vFail:Int)(vStage:Int)(vFirst:Int)(sender:Int)(seen:List (Int×Int×(Int×List Int))):LT ((Int×Int×Int×(Int×Int×(Int×Int×Int×Int×Int)×Int×List Int)×Int)×Int) Tc:=.need (A.k (@tt ((Int×Int×Int×Int×Int×Int×Int))) (vId,vN,vSet,vAcc,vFail,vStage,vFirst)) (.br (A.c .neq (A.k lW (vId,vN,vSet,vAcc,vFail,vStage,vFirst)) 0) (.ret ((0,0,0,(0,0,(0,0,0,0,0),0,([]:List Int)),0),170)) (.need (A.k (@tt ((Int×Int×Int×Int×Int)×Int)) ((cTime,cPos,cMode,cNext,cMember),vN)) (.br (A.c .neq (A.k pF ((cTime,cPos,cMode,cNext,cMember),vN)) 0) (.ret ((0,0,0,(0,0,(0,0,0,0,0),0,([]:List Int)),0),170)) (.br (A.c .lss sender 0) (Qi) (.br (A.c .geq sender vN) (Qi) (.br (A.c .eql sender vId) (Qi) (.br (A.c .neq (A.l seen) 2) (Qi) (.need (A.k (@tt ((Int×Int×Int×Int×Int×Int×Int))) (vId,vN,vSet,vAcc,vFail,vStage,vFirst)) (.br (A.c .neq (A.k lW (vId,vN,vSet,vAcc,vFail,vStage,vFirst)) 0) (.more (.c0 ⟨seen,(A.l seen),0,0,0,0,0,0,0,0,0,0,0,0,0⟩ 0)) (.need (A.k (@tt ((Int×Int×Int×Int×Int×Int×Int)×Int)) ((vId,vN,vSet,vAcc,vFail,vStage,vFirst),sender)) (.br (A.not (A.k Cs ((vId,vN,vSet,vAcc,vFail,vStage,vFirst),sender))) (.more (.c0 ⟨seen,(A.l seen),0,0,0,0,0,0,0,0,0,0,0,0,0⟩ 0)) (.need (A.k DF ((vId,vN,vSet,vAcc,vFail,vStage,vFirst),sender)) (.need (A.and (A.c .leq 0 0) (A.and (A.c .leq 0 (A.k iO ((vId,vN,vSet,vAcc,vFail,vStage,vFirst),sender)).2) (A.c .leq (A.k iO ((vId,vN,vSet,vAcc,vFail,vStage,vFirst),sender)).2 2))) (.more (.c1 ⟨(A.b .add .i64 0 0),(A.b .sub .i64 (A.k iO ((vId,vN,vSet,vAcc,vFail,vStage,vFirst),sender)).2 0),(A.b .sub .i64 (A.k iO ((vId,vN,vSet,vAcc,vFail,vStage,vFirst),sender)).2 0),0,cTime,cPos,cMode,cNext,cMember,vId,vN,vSet,vAcc,vFail,vStage,vFirst,sender,seen,(A.c .neq (A.k pF ((cTime,cPos,cMode,cNext,cMember),vN)) 0),vId,vN,vSet,vAcc,vFail,vStage,vFirst,(A.k lW (vId,vN,vSet,vAcc,vFail,vStage,vFirst)),(A.c .neq (A.k lW (vId,vN,vSet,vAcc,vFail,vStage,vFirst)) 0),false,cTime,cPos,cMode,cNext,cMember,vN,(A.k pF ((cTime,cPos,cMode,cNext,cMember),vN)),(A.c .neq (A.k pF ((cTime,cPos,cMode,cNext,cMember),vN)) 0),(A.c .neq (A.k pF ((cTime,cPos,cMode,cNext,cMember),vN)) 0),(A.c .neq (A.l seen) 2),sender,(A.c .lss sender 0),false,sender,vN,(A.c .geq sender vN),(A.c .geq sender vN),false,sender,vId,(A.c .eql sender vId),(A.c .eql sender vId),false,seen,(A.l seen),(A.c .neq (A.l seen) 2),(A.c .neq (A.l seen) 2),vId,vN,vSet,vAcc,vFail,vStage,vFirst,sender,(A.n yI (A.k iO ((vId,vN,vSet,vAcc,vFail,vStage,vFirst),sender)).1 0:Int),(A.n yI (A.k iO ((vId,vN,vSet,vAcc,vFail,vStage,vFirst),sender)).1 1:Int),seen,0,0,0,0,0,0,0,0,0,0,0,0,0,vId,vN,vSet,vAcc,vFail,vStage,vFirst,vId,vN,vSet,vAcc,vFail,vStage,vFirst,sender,cTime,cPos,cMode,cNext,cMember⟩)))))))))))))))
def Mj(A:aI):Tc→LT ((Int×Int×Int×(Int×Int×(Int×Int×Int×Int×Int)×Int×List Int)×Int)×Int) Tc
 | .c0 p a2=>.br (A.c .lss a2 p.a1) (.need (A.and (A.c .leq 0 a2) (A.c .lss a2 (A.l p.a0))) (.br (A.c .neq (A.n (.struct [yI,yI,(.struct [yI,yB])]) p.a0 a2:Int×Int×(Int×List Int)).1 0) (.br (A.c .geq a2 0) (.ret ((2,0,0,(0,0,(0,0,0,0,0),0,([]:List Int)),0),0)) (.ret ((1,0,0,(0,0,(0,0,0,0,0),0,([]:List Int)),0),0))) (.more (.c0 p (A.b .add .i64 a2 1))))) (.ret ((1,0,0,(0,0,(0,0,0,0,0),0,([]:List Int)),0),0))
 | .c1 p=>.br (A.c .lss p.b3 p.b2) (.need (A.and (A.c .leq 0 p.b3) (A.c .lss p.b3 p.b1)) (.more (.c2 ⟨p.b3,p.Vp,(A.l p.Vp),p.b0,p.b1,p.b2,p.b3,p.b95,p.b96,p.b97,p.b98,(A.n yI [p.b64,p.b65] (A.b .add .i64 p.b0 p.b3):Int),p.b67,p.b68,p.b69,p.b70,p.b71,p.b72,p.b73,p.b74,p.b75,p.b76,p.b77,p.b78,p.b79,p.b4,p.b5,p.b6,p.b7,p.b8,p.b9,p.b10,p.b11,p.b12,p.b13,p.iq,p.fe,p.bI,p.gT,p.nc,p.j6,p.mO,p.zV,p.Hq,p.b23,p.b24,p.b25,p.b26,p.b27,p.b28,p.b29,p.b30,p.b31,p.b32,p.b33,p.b34,p.b35,p.b36,p.b37,p.b38,p.b39,p.b40,p.b41,p.b42,p.b43,p.b44,p.b45,p.b46,p.b47,p.b48,p.b49,p.b50,p.b51,p.b52,p.b53,p.b54,p.b55,p.b56,p.b57,p.b58,p.b59,p.b60,p.b61,p.b62,p.b63,p.b64,p.b65,p.Vp,p.b80,p.b81,p.b82,p.b83,p.b84,p.b85,p.b86,p.b87,p.b88,p.b89,p.b90,p.b91,p.b92,p.b93,p.b94⟩ 0))) (.more (.c0 ⟨p.Vp,(A.l p.Vp),p.b67,p.b68,p.b69,p.b70,p.b71,p.b72,p.b73,p.b74,p.b75,p.b76,p.b77,p.b78,p.b79⟩ 0))
 | .c2 p c3=>.br (A.c .lss c3 p.c2) (.need (A.and (A.c .leq 0 c3) (A.c .lss c3 (A.l p.c1))) (.br (A.c .neq (A.n (.struct [yI,yI,(.struct [yI,yB])]) p.c1 c3:Int×Int×(Int×List Int)).1 2) (.more (.c2 p (A.b .add .i64 c3 1))) (.need (A.k (@tt ((Int×List Int)×(Int×Int×Int×Int×Int))) ((A.n (.struct [yI,yI,(.struct [yI,yB])]) p.c1 c3:Int×Int×(Int×List Int)).2.2,p.c8,p.c9,p.c10,p.c11,p.c12)) (.br (A.k H_ ((A.n (.struct [yI,yI,(.struct [yI,yB])]) p.c1 c3:Int×Int×(Int×List Int)).2.2,p.c8,p.c9,p.c10,p.c11,p.c12)).2 (.ret ((3,p.c0,c3,(A.k H_ ((A.n (.struct [yI,yI,(.struct [yI,yB])]) p.c1 c3:Int×Int×(Int×List Int)).2.2,p.c8,p.c9,p.c10,p.c11,p.c12)).1,(A.n (.struct [yI,yI,(.struct [yI,yB])]) p.c1 c3:Int×Int×(Int×List Int)).2.1),0)) (.more (.c2 p (A.b .add .i64 c3 1))))))) (.more (.c1 ⟨p.c4,p.c5,p.c6,(A.b .add .i64 p.c7 1),p.c26,p.c27,p.c28,p.c29,p.c30,p.c31,p.c32,p.c33,p.c34,p.c35,p.c36,p.c37,p.c38,p.c39,p.c40,p.c41,p.c42,p.c43,p.c44,p.c45,p.c46,p.c47,p.c48,p.c49,p.c50,p.c51,p.c52,p.c53,p.c54,p.c55,p.c56,p.c57,p.c58,p.c59,p.c60,p.c61,p.c62,p.c63,p.c64,p.c65,p.c66,p.c67,p.c68,p.c69,p.c70,p.c71,p.c72,p.c73,p.c74,p.c75,p.c76,p.c77,p.c78,p.c79,p.c80,p.c81,p.c82,p.c83,p.c84,p.c85,p.c86,p.c87,p.c88,p.c13,p.c14,p.yG,p.c16,p.MI,p.MJ,p.c19,p.c20,p.c21,p.c22,p.c23,p.c24,p.c25,p.c89,p.c90,p.c91,p.c92,p.c93,p.c94,p.c95,p.c96,p.c97,p.c98,p.c99,p.ahB,p.adD,p.aej,p.afr,p.c8,p.c9,p.c10,p.c11,p.c12⟩))
def ni(c:Int×Int×Int×Int×Int)(w:Int):Nat→List (Int×Int×(Int×List Int))→Option (Int×Int×Int×(Int×Int×(Int×Int×Int×Int×Int)×Int×List Int)×Int)
 | _, []=>none
 | k,s::l=>bif s.1==2&&(xD (s.2.2,c)).2 then some (3,w,(k:Int),(xD (s.2.2,c)).1,s.2.1) else ni c w (k+1) l
def nT(t p m n:Int)(seen:List (Int×Int×(Int×List Int))):Nat→List Int→Option (Int×Int×Int×(Int×Int×(Int×Int×Int×Int×Int)×Int×List Int)×Int)
 | _, []=>none
 | i,v::l=>match ni (t,p,m,n,v) (i:Int) 0 seen with
   | some o=>some o
   | none=>nT t p m n seen (i+1) l
def WQ:Int×Int×Int×(Int×Int×(Int×Int×Int×Int×Int)×Int×List Int)×Int:=(0,0,0,Bv,0)
def pq(seen:List (Int×Int×(Int×List Int))):Int×Int×Int×(Int×Int×(Int×Int×Int×Int×Int)×Int×List Int)×Int:=bif seen.any fun s=>s.1 != 0 then(2,0,0,Bv,0) else(1,0,0,Bv,0)
def AF(t p m n:Int)(seen:List (Int×Int×(Int×List Int)))(i:Nat)(vs:List Int):(Int×Int×Int×(Int×Int×(Int×Int×Int×Int×Int)×Int×List Int)×Int)×Int:=
 match nT t p m n seen i vs with
 | some o=>(o,0)
 | none=>(pq seen,0)
def vws(x:(Int×Int×Int×Int×Int×Int×Int)×Int):List Int:=(iO x).1.take (iO x).2.toNat
def kH:(Int×Int×Int×Int×Int)×(Int×Int×Int×Int×Int×Int×Int)×Int×List (Int×Int×(Int×List Int))→(Int×Int×Int×(Int×Int×(Int×Int×Int×Int×Int)×Int×List Int)×Int)×Int:=fun((t,p,m,n,s),v,sender,seen)=>
 bif lW v != 0||kJ ((t,p,m,n,s),v.2.1) != 0 then(WQ,170)
 else bif decide (sender<0)||decide (v.2.1≤sender)||sender==v.1||seen.length != 2 then(WQ,2)
 else AF t p m n seen 0 (vws (v,sender))
theorem OP{x:(Int×Int×Int×Int×Int×Int×Int)×Int}:(iO x).1.length=2:=by
 obtain⟨⟨a,b,c,d,e,f,g⟩,s⟩:=x
 exact LT.lm (p:=fun y:List Int×Int=>y.1.length=2) rfl (by simp[t78,zg,LT.all])
theorem Gl{l:List (Int×Int×(Int×List Int))}{i:Nat}(h:i<l.length):(ah.n (.struct [(.int .i64),(.int .i64),(.struct [(.int .i64),(.slice (.int .u8))])]) l (i:Int):Int×Int×(Int×List Int))=l[i]:=getD_in h _
theorem Un{seen:List (Int×Int×(Int×List Int))}(hl:seen.length≤140737488355328):∀(j i:Nat) (p:Xf),p.a0=seen→p.a1=(seen.length:Int)→seen.length-i=j→i≤seen.length→(seen.take i).any (fun s=>s.1 != 0)=false→au (Mj ah) (.more (.c0 p (i:Int))) (pq seen,0):=by
 intro j
 induction j with
 | zero=>
   intro i p h0 h1 hj hi ha
   have:i=seen.length:=by omega
   subst this
   rw[List.take_length] at ha
   rw[ak,Mj]
   refine(ai (by rw[h1,aC];simp)).2 ?_
   rw[pq,ha]
   exact .ret _
 | succ j ih=>
   intro i p h0 h1 hj hi ha
   have hi':i<seen.length:=by omega
   rw[ak,Mj]
   refine(aj (by rw[h1,aC];simp;omega)).2 (af.2 ⟨by rw[h0];exact aO hi',?_⟩)
   have hn:(ah.n (.struct [(.int .i64),(.int .i64),(.struct [(.int .i64),(.slice (.int .u8))])]) p.a0 (i:Int):Int×Int×(Int×List Int)).1=seen[i].1:=congrArg (fun z=>z.1) ((congrArg (fun z=>(ah.n (.struct [(.int .i64),(.int .i64),(.struct [(.int .i64),(.slice (.int .u8))])]) z (i:Int):Int×Int×(Int×List Int))) h0).trans (Gl hi'))
   have htk:=List.take_succ_eq_append_getElem hi'
   by_cases hk:seen[i].1=0
   ·refine(ai (sI (hn.trans hk))).2 ?_
    refine gI (congrArg LT.more (congrArg (Tc.c0 p) (bU (by omega)))) (ih (i+1) p h0 h1 (by omega) (by omega) ?_)
    rw[htk,List.any_append,ha]
    simp[hk]
   ·refine(aj (sO (fun h=>hk (hn.symm.trans h)))).2 ((aj (by rw[bZ];simp)).2 ?_)
    have:seen.any (fun s=>s.1 != 0)=true:=List.any_eq_true.2 ⟨seen[i],List.getElem_mem hi',by simpa using hk⟩
    rw[pq,this]
    exact .ret _
def I1(p:KT)(seen:List (Int×Int×(Int×List Int)))(vs:List Int)(cnt i t po m n:Int):Prop:=p.b0=0∧p.b1=cnt∧p.b2=cnt∧p.b3=i∧p.Vp=seen∧ [p.b64,p.b65]=vs∧p.b95=t∧p.b96=po∧p.b97=m∧p.b98=n
def I2(p:Ov)(seen:List (Int×Int×(Int×List Int)))(vs:List Int)(cnt i t po m n v:Int):Prop:=p.c0=i∧p.c1=seen∧p.c2=(seen.length:Int)∧p.c4=0∧p.c5=cnt∧p.c6=cnt∧p.c7=i∧p.c88=seen∧ [p.c86,p.c87]=vs∧p.c8=t∧p.c9=po∧p.c10=m∧p.c11=n∧p.c12=v
theorem Vt{seen:List (Int×Int×(Int×List Int))}{vs:List Int}{cnt t po m n v:Int}{i:Nat}(hi:i<4)(hl:seen.length≤140737488355328){R:(Int×Int×Int×(Int×Int×(Int×Int×Int×Int×Int)×Int×List Int)×Int)×Int}(hnext:∀p':KT,I1 p' seen vs cnt ((i+1:Nat):Int) t po m n→au (Mj ah) (.more (.c1 p')) R) :
  ∀(j k:Nat) (p:Ov),I2 p seen vs cnt (i:Int) t po m n v→seen.length-k=j→k≤seen.length→au (Mj ah) (.more (.c2 p (k:Int))) (match ni (t,po,m,n,v) (i:Int) k (seen.drop k) with|some o=>(o,0)|none=>R):=by
 intro j
 induction j with
 | zero=>
   intro k p hI hj hk
   have:k=seen.length:=by omega
   subst this
   obtain⟨h0,h1,h2,h4,h5,h6,h7,h88,hv,h8,h9,h10,h11,h12⟩:=hI
   rw[ak,Mj]
   refine(ai (by rw[h2,aC];simp)).2 ?_
   rw[List.drop_length]
   exact hnext _ ⟨h4,h5,h6,by show ah.b .add .i64 p.c7 1=_;rw[h7,bU (by omega)],h88,hv,h8,h9,h10,h11⟩
 | succ j ih=>
   intro k p hI hj hk
   have hk':k<seen.length:=by omega
   have hm:=ih (k+1) p hI (by omega) (by omega)
   obtain⟨h0,h1,h2,h4,h5,h6,h7,h88,hv,h8,h9,h10,h11,h12⟩:=hI
   rw[ak,Mj]
   have hn:(ah.n (.struct [(.int .i64),(.int .i64),(.struct [(.int .i64),(.slice (.int .u8))])]) p.c1 (k:Int):Int×Int×(Int×List Int))=seen[k]:=(congrArg (fun z=>(ah.n (.struct [(.int .i64),(.int .i64),(.struct [(.int .i64),(.slice (.int .u8))])]) z (k:Int):Int×Int×(Int×List Int))) h1).trans (Gl hk')
   have hd:seen.drop k=seen[k]::seen.drop (k+1):=pV hk'
   have hg:ah.k H_ ((ah.n (.struct [(.int .i64),(.int .i64),(.struct [(.int .i64),(.slice (.int .u8))])]) p.c1 (k:Int):Int×Int×(Int×List Int)).2.2,p.c8,p.c9,p.c10,p.c11,p.c12)=xD (seen[k].2.2,(t,po,m,n,v)):=by
    refine(congrArg (fun z:Int×Int×(Int×List Int)=>H_ (z.2.2,p.c8,p.c9,p.c10,p.c11,p.c12)) hn).trans ?_
    rw[h8,h9,h10,h11,h12]
    exact U5
   refine(aj (by rw[h2,aC];simp;omega)).2 (af.2 ⟨by rw[h1];exact aO hk',?_⟩)
   rw[hd,ni]
   by_cases hkd:seen[k].1=2
   ·refine(ai (sI ((congrArg (fun z=>z.1) hn).trans hkd))).2 (af.2 ⟨rfl,?_⟩)
    rw[show(seen[k].1==2)=true from by simpa using hkd,Bool.true_and]
    cases hgd:(xD (seen[k].2.2,(t,po,m,n,v))).2
    ·refine(ai ((congrArg (fun z=>z.2) hg).trans hgd)).2 ?_
     exact gI (congrArg LT.more (congrArg (Tc.c2 p) (bU (by omega)))) hm
    ·refine(aj ((congrArg (fun z=>z.2) hg).trans hgd)).2 ?_
     have e:=congr (congr (congrArg (fun(x:Int) (y:Int×Int×(Int×Int×Int×Int×Int)×Int×List Int) (z:Int)=>(LT.ret (((3:Int),x,(k:Int),y,z),(0:Int)):LT ((Int×Int×Int×(Int×Int×(Int×Int×Int×Int×Int)×Int×List Int)×Int)×Int) Tc)) h0) (congrArg (fun z=>z.1) hg)) (congrArg (fun z=>z.2.1) hn)
     exact gI e (.ret _)
   ·refine(aj (sO (fun h=>hkd ((congrArg (fun z=>z.1) hn).symm.trans h)))).2 ?_
    rw[show(seen[k].1==2)=false from by simpa using hkd,Bool.false_and]
    exact gI (congrArg LT.more (congrArg (Tc.c2 p) (bU (by omega)))) hm
theorem TU{seen:List (Int×Int×(Int×List Int))}{vs:List Int}{cnt:Nat}{t po m n:Int}(hl:seen.length≤140737488355328)(hv2:vs.length=2)(hc:cnt≤2):∀(j i:Nat) (p:KT),I1 p seen vs (cnt:Int) (i:Int) t po m n→cnt-i=j→i≤cnt→au (Mj ah) (.more (.c1 p)) (AF t po m n seen i ((vs.take cnt).drop i)):=by
 intro j
 induction j with
 | zero=>
   intro i p hI hj hi
   have:i=cnt:=by omega
   subst this
   obtain⟨h0,h1,h2,h3,h66,hv,h95,h96,h97,h98⟩:=hI
   rw[ak,Mj]
   refine(ai (by rw[h2,h3,aC];simp)).2 ?_
   rw[List.drop_of_length_le (by rw[List.length_take];omega)]
   exact Un hl seen.length 0 _ h66 (by show ah.l p.Vp=_;rw[h66];rfl) rfl (by omega) rfl
 | succ j ih=>
   intro i p hI hj hi
   obtain⟨h0,h1,h2,h3,h66,hv,h95,h96,h97,h98⟩:=hI
   have hiv:i<(vs.take cnt).length:=by rw[List.length_take];omega
   rw[ak,Mj]
   refine(aj (by rw[h2,h3,aC];simp;omega)).2 (af.2 ⟨by rw[h1,h3,oS,aC,aJ];simp;omega,?_⟩)
   have hnv:(ah.n (.int .i64) [p.b64,p.b65] (ah.b .add .i64 p.b0 p.b3):Int)=(vs.take cnt)[i]:=by
    have e:ah.b .add .i64 p.b0 p.b3=(i:Int):=by rw[h0,h3,ck,iZ (by omega) (by omega)];omega
    refine((congrArg (fun z=>(ah.n (.int .i64) [p.b64,p.b65] z:Int)) e).trans ((congrArg (fun z=>(ah.n (.int .i64) z (i:Int):Int)) hv).trans (getD_in (l:=vs) (by omega) _))).trans ?_
    rw[List.getElem_take]
   have hm:=Vt (seen:=seen) (vs:=vs) (cnt:=(cnt:Int)) (t:=t) (po:=po) (m:=m) (n:=n) (v:=(vs.take cnt)[i]) (i:=i) (by omega) hl (R:=AF t po m n seen (i+1) ((vs.take cnt).drop (i+1))) (fun p' hp'=>ih (i+1) p' hp' (by omega) (by omega)) seen.length 0
   refine ay ?_ (hm _ ⟨h3,h66,?_,h0,h1,h2,h3,h66,hv,h95,h96,h97,h98,hnv⟩ rfl (by omega))
   rotate_left
   ·show ah.l p.Vp=_;rw[h66];rfl
   rw[AF,AF,pV hiv,nT,List.drop_zero]
   cases ni (t,po,m,n,(vs.take cnt)[i]) (i:Int) 0 seen<;>rfl
theorem N8{t po m n s a b c d e f g sender:Int}{seen:List (Int×Int×(Int×List Int))}(h:Ty.cN [(.struct [(.int .i64),(.int .i64),(.int .i64),(.int .i64),(.int .i64)]),(.struct [(.int .i64),(.int .i64),(.int .i64),(.int .i64),(.int .i64),(.int .i64),(.int .i64)]),(.int .i64),(.slice (.struct [(.int .i64),(.int .i64),(.struct [(.int .i64),(.slice (.int .u8))])]))] ((t,po,m,n,s),(a,b,c,d,e,f,g),sender,seen)):seen.length≤140737488355328:=h.2.2.2.1
theorem agB{t po m n s a b c d e f g sender:Int}{seen:List (Int×Int×(Int×List Int))}(h:Ty.cN [(.struct [(.int .i64),(.int .i64),(.int .i64),(.int .i64),(.int .i64)]),(.struct [(.int .i64),(.int .i64),(.int .i64),(.int .i64),(.int .i64),(.int .i64),(.int .i64)]),(.int .i64),(.slice (.struct [(.int .i64),(.int .i64),(.struct [(.int .i64),(.slice (.int .u8))])]))] ((t,po,m,n,s),(a,b,c,d,e,f,g),sender,seen)) :
  au (Mj ah) (t43 ah t po m n s a b c d e f g sender seen) (kH ((t,po,m,n,s),(a,b,c,d,e,f,g),sender,seen)):=by
 have hl:=N8 h
 unfold t43 Qi
 rw[kH]
 refine af.2 ⟨rfl,?_⟩
 by_cases h1:(lW (a,b,c,d,e,f,g) != 0)=true
 ·rw[h1]
  exact(aj h1).2 (.ret _)
 rw[Bool.not_eq_true] at h1
 rw[h1]
 refine(ai h1).2 (af.2 ⟨rfl,?_⟩)
 rw[Bool.false_or]
 by_cases h2:(kJ ((t,po,m,n,s),b) != 0)=true
 ·rw[h2]
  exact(aj h2).2 (.ret _)
 rw[Bool.not_eq_true] at h2
 rw[h2]
 refine(ai h2).2 ?_
 rw[cond_false]
 have hz:lW (a,b,c,d,e,f,g)=0:=by simpa using h1
 have hok:=dJ.1 hz
 unfold iY at hok
 by_cases h3:sender<0
 ·refine(aj (by rw[ar];simpa using h3)).2 ?_
  rw[show decide (sender<0)=true from by simpa using h3]
  exact .ret _
 refine(ai (by rw[ar];simpa using h3)).2 ?_
 by_cases h4:b≤sender
 ·refine(aj (by rw[bZ];simpa using h4)).2 ?_
  rw[show decide (b≤sender)=true from by simpa using h4,Bool.or_true]
  exact .ret _
 refine(ai (by rw[bZ];simpa using h4)).2 ?_
 by_cases h5:sender=a
 ·refine(aj (xk h5)).2 ?_
  rw[show(sender==a)=true from by simpa using h5,Bool.or_true]
  exact .ret _
 refine(ai (Jv h5)).2 ?_
 by_cases h6:¬seen.length=2
 ·refine(aj (sO (show(seen.length:Int)≠2 by omega))).2 ?_
  rw[show(seen.length != 2)=true from by simpa using h6,Bool.or_true]
  exact .ret _
 rw[Decidable.not_not] at h6
 refine(ai (sI (show(seen.length:Int)=2 by omega))).2 (af.2 ⟨rfl,(ai h1).2 (af.2 ⟨rfl,?_⟩)⟩)
 rw[show decide (sender<0)=false from by simpa using h3,show decide (b≤sender)=false from by simpa using h4,show(sender==a)=false from by simpa using h5,show(seen.length != 2)=false from by simpa using h6]
 have h77:Cs ((a,b,c,d,e,f,g),sender)=true:=(qW (by omega) (by omega)).2 ⟨by omega,by omega,by omega⟩
 have hq:=F8 (x:=((a,b,c,d,e,f,g),sender))
 have hq2:=OP (x:=((a,b,c,d,e,f,g),sender))
 refine(ai (show ah.not (ah.k Cs ((a,b,c,d,e,f,g),sender))=false by rw[eY,aA,h77];rfl)).2 (af.2 ⟨by rw[aA];simp[DF];omega,af.2 ⟨?_,?_⟩⟩)
 ·rw[aA,aJ,aJ,ao,ao,ao];simp;omega
 ·obtain⟨cnt,hcnt⟩:=Int.eq_ofNat_of_zero_le hq.1
  show au (Mj ah) _ (AF t po m n seen 0 (vws ((a,b,c,d,e,f,g),sender)))
  rw[vws,hcnt,gS]
  have hs:ah.b .sub .i64 (ah.k iO ((a,b,c,d,e,f,g),sender)).2 0=(cnt:Int):=by
   rw[aA,hcnt,cu,iZ (by omega) (by omega)];omega
  refine TU (vs:=(iO ((a,b,c,d,e,f,g),sender)).1) hl hq2 (by omega) cnt 0 _ ⟨rfl,hs,hs,rfl,rfl,?_,rfl,rfl,rfl,rfl⟩ (by omega) (by omega)
  show[(iO ((a,b,c,d,e,f,g),sender)).1.getD 0 0,(iO ((a,b,c,d,e,f,g),sender)).1.getD 1 0]=_
  match (iO ((a,b,c,d,e,f,g),sender)).1,hq2 with
  | [_,_],_=>rfl
def ZQ:((Int×Int×Int×Int×Int)×(Int×Int×Int×Int×Int×Int×Int)×Int×List (Int×Int×(Int×List Int)))→((Int×Int×Int×(Int×Int×(Int×Int×Int×Int×Int)×Int×List Int)×Int)×Int):=kH
def aim:ax:=⟨[(.struct [yI,yI,yI,yI,yI]),(.struct [yI,yI,yI,yI,yI,yI,yI]),yI,(.slice (.struct [yI,yI,(.struct [yI,yB])]))], [(.struct [yI,yI,yI,(.struct [yI,yI,(.struct [yI,yI,yI,yI,yI]),yI,yB]),yI]),yI],(@tt ((Int×Int×Int×Int×Int)×(Int×Int×Int×Int×Int×Int×Int)×Int×List (Int×Int×(Int×List Int)))),ZQ⟩
theorem ai1:Sd 49 aim:=aP ap bR true 122 [⟨49,10, [[4,8,9,10,56,57,58], [0,24,25,26], [7,8,9]]⟩,⟨176,3, [[0,24,25,26], [7,8,9]]⟩,⟨180,2, [[0,1,7,8], [], [8,9]]⟩] [] (fun A ((cTime,cPos,cMode,cNext,cMember),(vId,vN,vSet,vAcc,vFail,vStage,vFirst),sender,seen)=>t43 A cTime cPos cMode cNext cMember vId vN vSet vAcc vFail vStage vFirst sender seen) Mj adE (fc Tryz.func49 (fc Tryz.func102 (fc Tryz.func104 (fc Tryz.func105 (fc Tryz.func176 (fc Tryz.func180 fz)))))) (sc H8 (sc ajb (sc aaj (sc ahc (sc E7 sz))))) (fun A y=>match y with |.c0 p a2=>⟨62,by kernel_rfl,by kernel_rfl⟩|.c1 p=>⟨52,by kernel_rfl,by kernel_rfl⟩|.c2 p c3=>⟨68,by kernel_rfl,by kernel_rfl⟩) fun((cTime,cPos,cMode,cNext,cMember),(vId,vN,vSet,vAcc,vFail,vStage,vFirst),sender,seen) hp h=>agB h
def t61(A:aI)(vId:Int)(vN:Int)(vSet:Int)(vAcc:Int)(vFail:Int)(vStage:Int)(vFirst:Int)(sender:Int)(oKind:Int)(oWhich:Int)(oChan:Int)(oFKind:Int)(oFReq:Int)(oFCTime:Int)(oFCPos:Int)(oFCMode:Int)(oFCNext:Int)(oFCMember:Int)(oFFrom:Int)(oFData:List Int)(oAt:Int):LT ((Int×Int×Int×Int×Int×Int×Int)×Int) Empty:=.br (A.c .eql oKind 1) (.need (A.k (@tt ((Int×Int×Int×Int×Int×Int×Int)×Int)) ((vId,vN,vSet,vAcc,vFail,vStage,vFirst),sender)) (.ret (A.k om ((vId,vN,vSet,vAcc,vFail,vStage,vFirst),sender)))) (.br (A.c .eql oKind 2) (.need (A.k (@tt ((Int×Int×Int×Int×Int×Int×Int)×Int)) ((vId,vN,vSet,vAcc,vFail,vStage,vFirst),sender)) (.ret (A.k O0 ((vId,vN,vSet,vAcc,vFail,vStage,vFirst),sender)))) (.br (A.c .eql oKind 3) (.need (A.k (@tt ((Int×Int×Int×Int×Int×Int×Int)×Int×Int)) ((vId,vN,vSet,vAcc,vFail,vStage,vFirst),sender,oWhich)) (.ret (A.k oC ((vId,vN,vSet,vAcc,vFail,vStage,vFirst),sender,oWhich)))) (.ret ((0,0,0,0,0,0,0),2))))
def jw:((Int×Int×Int×Int×Int×Int×Int)×Int×(Int×Int×Int×(Int×Int×(Int×Int×Int×Int×Int)×Int×List Int)×Int))→((Int×Int×Int×Int×Int×Int×Int)×Int):=fun((vId,vN,vSet,vAcc,vFail,vStage,vFirst),sender,oKind,oWhich,oChan,(oFKind,oFReq,(oFCTime,oFCPos,oFCMode,oFCNext,oFCMember),oFFrom,oFData),oAt)=>(t61 ah vId vN vSet vAcc vFail vStage vFirst sender oKind oWhich oChan oFKind oFReq oFCTime oFCPos oFCMode oFCNext oFCMember oFFrom oFData oAt).val (Ty.bi [(.struct [yI,yI,yI,yI,yI,yI,yI]),yI])
def aic:ax:=⟨[(.struct [yI,yI,yI,yI,yI,yI,yI]),yI,(.struct [yI,yI,yI,(.struct [yI,yI,(.struct [yI,yI,yI,yI,yI]),yI,yB]),yI])], [(.struct [yI,yI,yI,yI,yI,yI,yI]),yI],(@tt ((Int×Int×Int×Int×Int×Int×Int)×Int×(Int×Int×Int×(Int×Int×(Int×Int×Int×Int×Int)×Int×List Int)×Int))),jw⟩
theorem aiw:Sd 51 aic:=aH ap bR true 50 [] (fun A ((vId,vN,vSet,vAcc,vFail,vStage,vFirst),sender,oKind,oWhich,oChan,(oFKind,oFReq,(oFCTime,oFCPos,oFCMode,oFCNext,oFCMember),oFFrom,oFData),oAt)=>t61 A vId vN vSet vAcc vFail vStage vFirst sender oKind oWhich oChan oFKind oFReq oFCTime oFCPos oFCMode oFCNext oFCMember oFFrom oFData oAt) (fc Tryz.func51 fz) (sc ai5 (sc ae0 (sc ai7 sz))) (fun(((vId,vN,vSet,vAcc,vFail,vStage,vFirst),sender,oKind,oWhich,oChan,(oFKind,oFReq,(oFCTime,oFCPos,oFCMode,oFCNext,oFCMember),oFFrom,oFData),oAt):(Int×Int×Int×Int×Int×Int×Int)×Int×(Int×Int×Int×(Int×Int×(Int×Int×Int×Int×Int)×Int×List Int)×Int)) hp h=>by
 show(t61 ah vId vN vSet vAcc vFail vStage vFirst sender oKind oWhich oChan oFKind oFReq oFCTime oFCPos oFCMode oFCNext oFCMember oFFrom oFData oAt).pre=true
 simp[t61,LT.pre,aA,dU])
abbrev kK:Ty:=(.struct [yI,yI,yI,yI,yI])
abbrev cy:Type:=Int×Int×Int×Int×Int
abbrev kX:Ty:=(.struct [yI,yI,yI,yI,yI,yI,yI])
abbrev mj:Type:=Int×Int×Int×Int×Int×Int×Int
abbrev afb:Ty:=(.struct [yI,yB])
abbrev Bits:Type:=Int×List Int
abbrev yb:Ty:=(.struct [yI,yI,kK,yI,yB])
abbrev mr:Type:=Int×Int×cy×Int×List Int
abbrev aG:Ty:=(.struct [yI,yI,afb])
abbrev Seen:Type:=Int×Int×Bits
abbrev Gb:Ty:=(.struct [yI,yI,yI,yb,yI])
abbrev lQ:Type:=Int×Int×Int×mr×Int
abbrev bW:Ty:=(.struct [DG,(.slice .bool),(.slice .bool)])
abbrev Mode:Type:=List Int×List Bool×List Bool
abbrev aR:Ty:=(.struct [yI,yI,yI,yI,yI,yI,(.slice .bool),(.slice bW)])
abbrev al:Type:=Int×Int×Int×Int×Int×Int×List Bool×List Mode
abbrev ei:Ty:=(.struct [yB,yI])
abbrev dq:Type:=List Int×Int
abbrev lb:Ty:=(.struct [yI,yB,(.slice ei),yI,yI])
abbrev cr:Type:=Int×List Int×List dq×Int×Int
abbrev aF:Ty:=(.struct [yI,yI,kK,kX,yI,.bool,yI,lb])
abbrev Node:Type:=Int×Int×cy×mj×Int×Bool×Int×cr
abbrev bA:Ty:=(.struct [yI,yI,yI,yI,yI,yB])
abbrev bl:Type:=Int×Int×Int×Int×Int×List Int
def Oj(A:aI)(n:Int)(least:Int)(most:Int):LT Bool Empty:=.br (A.c .geq n least) (.ret (A.c .leq n most)) (.ret false)
def fO:(Int×Int×Int)→Bool:=fun(n,least,most)=>(Oj ah n least most).val (Ty.bi [.bool])
def ahu:ax:=⟨[yI,yI,yI], [.bool],(@tt (Int×Int×Int)),fO⟩
theorem G1:Sd 93 ahu:=aH ap bR true 22 [] (fun A (n,least,most)=>Oj A n least most) (fc Tryz.func93 fz) sz (fun((n,least,most):Int×Int×Int) hp h=>by
 show(Oj ah n least most).pre=true
 simp[Oj,LT.pre,aA,dU])
theorem mH{x a b:Int}:fO (x,a,b)=(decide (a≤x)&&decide (x≤b)):=by
 simp only[fO,Oj,LT.val,bZ,ao]
 cases decide (a≤x)<;>rfl
theorem ac8{α:Type}{x y:α}:(bif true then x else y)=x:=rfl
theorem vE{l:List Bool}{i:Nat}(h:i<l.length):(ah.n .bool l (i:Int):Bool)=l[i]:=getD_in h _
theorem Td{l:List Int}{i:Nat}(h:i<l.length):(ah.n (.int .i64) l (i:Int):Int)=l[i]:=getD_in h _
theorem bF{α:Type}{l:List α}:ah.l l=(l.length:Int):=rfl
theorem mV{n s g w d de:Int}{aW:List Bool}{modes:List Mode}(h:Ty.has aR (n,s,g,w,d,de,aW,modes)):(-9223372036854775808≤n∧n≤9223372036854775807)∧aW.length≤140737488355328∧modes.length≤140737488355328∧∀x∈modes,x.1.length≤140737488355328∧x.2.1.length≤140737488355328∧∀d∈x.1,IntKind.i64.has d:=by
 obtain⟨h1,_,_,_,_,_,h2,h3⟩:=h
 exact⟨h1,h2.1,h3.1,fun x hx=>⟨(h3.2 x hx).1.1,(h3.2 x hx).2.1.1,(h3.2 x hx).1.2⟩⟩
structure X9 where
 (a1:List Bool) (a2 a4 a5 a6 a7 a8 a9:Int) (cB:List Bool) (da:List Mode)
inductive Ru where
 | c0 (p:X9) (a0:Int) (a3:Int)
noncomputable def YY:Ru→eD
 | .c0 p a0 a3=>⟨[⟨89,38,(en [(1,.ptr 0 0),(3,vi a0),(7,.sl .bool p.a1),(8,vi p.a2),(9,vi a3)]),[.inLoop (cw Tryz.f89 [1,1,0,1,0,0]),.inBlock 0,.code (cw Tryz.f89 [1,1,1])],[],none⟩],[.flat false [vi p.a4,vi p.a5,vi p.a6,vi p.a7,vi p.a8,vi p.a9,.sl .bool p.cB,.sl bW p.da],.dead]⟩
def t154(A:aI)(mNodes:Int)(mSlot:Int)(mGap:Int)(mWindow:Int)(mDrift:Int)(mDelay:Int)(mCold:List Bool)(mModes:List Mode):LT Bool Ru:=.more (.c0 ⟨mCold,(A.l mCold),mNodes,mSlot,mGap,mWindow,mDrift,mDelay,mCold,mModes⟩ 0 0)
def PH(A:aI):Ru→LT Bool Ru
 | .c0 p a0 a3=>.br (A.c .lss a3 p.a2) (.need (A.and (A.c .leq 0 a3) (A.c .lss a3 (A.l p.a1))) (.br (A.n .bool p.a1 a3:Bool) (.more (.c0 p (A.b .add .i64 a0 1) (A.b .add .i64 a3 1))) (.more (.c0 p a0 (A.b .add .i64 a3 1))))) (.need (A.k (@tt (Int×Int×Int)) (p.a4,4,8)) (.br (A.k fO (p.a4,4,8)) (.need (A.k (@tt (Int×Int×Int)) ((A.l p.da),1,4)) (.br (A.k fO ((A.l p.da),1,4)) (.br (A.c .eql (A.l p.cB) p.a4) (.ret (A.c .geq a0 2)) (.ret false)) (.ret false))) (.ret false)))
def countB(m:al):Bool:=fO (m.1,4,8)&&fO ((m.2.2.2.2.2.2.2.length:Int),1,4)&&((m.2.2.2.2.2.2.1.length:Int)==m.1)&&decide (2≤(m.2.2.2.2.2.2.1.count true:Int))
theorem Yj{n s g w d de:Int}{aW:List Bool}{modes:List Mode}(hl:aW.length≤140737488355328):∀(j i c:Nat),aW.length-i=j→i≤aW.length→c≤i→
  au (PH ah) (.more (.c0 ⟨aW,(aW.length:Int),n,s,g,w,d,de,aW,modes⟩ (c:Int) (i:Int))) (fO (n,4,8)&&fO ((modes.length:Int),1,4)&&((aW.length:Int)==n)&&decide (2≤((c+(aW.drop i).count true:Nat):Int))):=by
 intro j
 induction j with
 | zero=>
   intro i c hj hi hc
   have:i=aW.length:=by omega
   subst this
   rw[ak,PH]
   refine(ai (by rw[aC];simp)).2 ?_
   rw[List.drop_length]
   simp only[af,aA,dU,true_and]
   cases fO (n,4,8)
   ·exact(ai rfl).2 (.ret _)
   refine(aj rfl).2 ?_
   simp only[af,aA,dU,true_and,bF]
   cases fO ((modes.length:Int),1,4)
   ·exact(ai rfl).2 (.ret _)
   refine(aj rfl).2 ?_
   rw[aD]
   cases ((aW.length:Int)==n)
   ·exact(ai rfl).2 (.ret _)
   refine(aj rfl).2 ?_
   rw[bZ]
   exact .ret _
 | succ j ih=>
   intro i c hj hi hc
   have hi':i<aW.length:=by omega
   rw[ak,PH]
   refine(aj (by rw[aC];simp;omega)).2 (af.2 ⟨aO hi',?_⟩)
   rw[pV hi',List.count_cons]
   cases hb:aW[i]
   ·refine(ai ((vE hi').trans hb)).2 ?_
    refine gI (congrArg (fun z=>LT.more (Ru.c0 _ _ z)) (bU (by omega))) (ay ?_ (ih (i+1) c (by omega) (by omega) (by omega)))
    simp
   ·refine(aj ((vE hi').trans hb)).2 ?_
    rw[bU (i:=c) (by omega),bU (i:=i) (by omega)]
    refine ay ?_ (ih (i+1) (c+1) (by omega) (by omega) (by omega))
    simp[Nat.add_assoc,Nat.add_comm 1]
theorem aaf{n s g w d de:Int}{aW:List Bool}{modes:List Mode}(h:Ty.has aR (n,s,g,w,d,de,aW,modes)):au (PH ah) (t154 ah n s g w d de aW modes) (countB (n,s,g,w,d,de,aW,modes)):=
 ay (by simp[countB]) (Yj (mV h).2.1 aW.length 0 0 rfl (by omega) (by omega))
def Sj:al→Bool:=countB
def ahm:ax:=⟨[aR], [.bool],(@tt al),Sj⟩
theorem agT:Sd 89 ahm:=aP ap bR true 25 [⟨89,3, [[1,3,7,8,9]]⟩] [] (fun A (mNodes,mSlot,mGap,mWindow,mDrift,mDelay,mCold,mModes)=>t154 A mNodes mSlot mGap mWindow mDrift mDelay mCold mModes) PH YY (fc Tryz.func89 fz) (sc G1 sz) (fun A y=>match y with |.c0 p a0 a3=>⟨38,by kernel_rfl,by kernel_rfl⟩) fun(mNodes,mSlot,mGap,mWindow,mDrift,mDelay,mCold,mModes) hp h=>aaf h
structure YS where
 (a0:List Int) (a1 a3 a4 a5 a6 a7 a8:Int) (a9:List Bool) (cB:List Mode) (da:List Int) (a12 kE:List Bool)
inductive L6 where
 | c0 (p:YS) (a2:Int)
noncomputable def Zm:L6→eD
 | .c0 p a2=>⟨[⟨92,57,(en [(2,.ptr 0 0),(3,.ptr 1 0),(31,.sl yI p.a0),(32,vi p.a1),(33,vi a2)]),[.inLoop (cw Tryz.f92 [1,1,0,1,0,0]),.inBlock 0,.code (cw Tryz.f92 [1,1,1])],[],none⟩],[.flat false [vi p.a3,vi p.a4,vi p.a5,vi p.a6,vi p.a7,vi p.a8,.sl .bool p.a9,.sl bW p.cB],.flat false [.sl yI p.da,.sl .bool p.a12,.sl .bool p.kE],.dead]⟩
def t157(A:aI)(mNodes:Int)(mSlot:Int)(mGap:Int)(mWindow:Int)(mDrift:Int)(mDelay:Int)(mCold:List Bool)(mModes:List Mode)(xData:List Int)(xExplicit:List Bool)(xNext:List Bool):LT Bool L6:=.br (A.c .neq (A.l xData) mNodes) (.ret false) (.br (A.c .neq (A.l xExplicit) mNodes) (.ret false) (.br (A.c .neq (A.l xNext) (A.l mModes)) (.ret false) (.more (.c0 ⟨xData,(A.l xData),mNodes,mSlot,mGap,mWindow,mDrift,mDelay,mCold,mModes,xData,xExplicit,xNext⟩ 0))))
def Lk(A:aI):L6→LT Bool L6
 | .c0 p a2=>.br (A.c .lss a2 p.a1) (.need (A.and (A.c .leq 0 a2) (A.c .lss a2 (A.l p.a0))) (.need (A.k (@tt (Int×Int×Int)) ((A.n yI p.a0 a2:Int),0,8)) (.br (A.not (A.k fO ((A.n yI p.a0 a2:Int),0,8))) (.ret false) (.need (A.and (A.c .leq 0 a2) (A.c .lss a2 (A.l p.a9))) (.br (A.n .bool p.a9 a2:Bool) (.need (A.and (A.c .leq 0 a2) (A.c .lss a2 (A.l p.a12))) (.br (A.not (A.n .bool p.a12 a2:Bool)) (.ret false) (.more (.c0 p (A.b .add .i64 a2 1))))) (.more (.c0 p (A.b .add .i64 a2 1)))))))) (.ret true)
def rK:List Int→List Bool→List Bool→Bool
 | d::ds,c::cs,e::es=>(decide (0≤d)&&decide (d≤8))&&(!c||e)&&rK ds cs es
 | _,_,_=>true
def jO(m:al)(x:Mode):Bool:=((x.1.length:Int)==m.1)&&((x.2.1.length:Int)==m.1)&&(x.2.2.length==m.2.2.2.2.2.2.2.length)&&rK x.1 m.2.2.2.2.2.2.1 x.2.1
theorem adj{n s g w d de:Int}{aW expl next:List Bool}{modes:List Mode}{data:List Int}(hl:data.length≤140737488355328)(hc:aW.length=data.length)(he:expl.length=data.length):∀(j i:Nat),data.length-i=j→i≤data.length→
  au (Lk ah) (.more (.c0 ⟨data,(data.length:Int),n,s,g,w,d,de,aW,modes,data,expl,next⟩ (i:Int))) (rK (data.drop i) (aW.drop i) (expl.drop i)):=by
 intro j
 induction j with
 | zero=>
   intro i hj hi
   have:i=data.length:=by omega
   subst this
   rw[ak,Lk]
   refine(ai (by rw[aC];simp)).2 ?_
   rw[List.drop_length]
   exact .ret _
 | succ j ih=>
   intro i hj hi
   have hi':i<data.length:=by omega
   rw[ak,Lk]
   refine(aj (by rw[aC];simp;omega)).2 (af.2 ⟨aO hi',af.2 ⟨rfl,?_⟩⟩)
   rw[pV hi',pV (show i<aW.length by omega),pV (show i<expl.length by omega),rK]
   have hm:=ih (i+1) (by omega) (by omega)
   have hw:ah.k fO ((ah.n (.int .i64) data (i:Int):Int),0,8)=(decide (0≤data[i])&&decide (data[i]≤8)):=by
    rw[aA,Td hi',mH]
   cases hw':(decide (0≤data[i])&&decide (data[i]≤8))
   ·exact(aj (by rw[hw,hw'];rfl)).2 (.ret _)
   refine(ai (by rw[hw,hw'];rfl)).2 (af.2 ⟨aO (show i<aW.length by omega),?_⟩)
   cases hcb:aW[i]
   ·refine(ai ((vE (show i<aW.length by omega)).trans hcb)).2 ?_
    exact gI (congrArg (fun z=>LT.more (L6.c0 _ z)) (bU (by omega))) hm
   ·refine(aj ((vE (show i<aW.length by omega)).trans hcb)).2 (af.2 ⟨aO (show i<expl.length by omega),?_⟩)
    cases heb:expl[i]
    ·exact(aj (by rw[vE (show i<expl.length by omega),heb];rfl)).2 (.ret _)
    ·refine(ai (by rw[vE (show i<expl.length by omega),heb];rfl)).2 ?_
     exact gI (congrArg (fun z=>LT.more (L6.c0 _ z)) (bU (by omega))) hm
theorem aei{n s g w d de:Int}{aW expl next:List Bool}{modes:List Mode}{data:List Int}(hl:data.length≤140737488355328)(hc:(aW.length:Int)=n) :
  au (Lk ah) (t157 ah n s g w d de aW modes data expl next) (jO (n,s,g,w,d,de,aW,modes) (data,expl,next)):=by
 unfold t157 jO
 simp only[bF]
 by_cases h1:(data.length:Int)=n
 ·refine(ai (sI h1)).2 ?_
  by_cases h2:(expl.length:Int)=n
  ·refine(ai (sI h2)).2 ?_
   by_cases h3:(next.length:Int)=modes.length
   ·refine(ai (sI h3)).2 (ay ?_ (adj hl (by omega) (by omega) data.length 0 rfl (by omega)))
    rw[beq_iff_eq.2 h1,beq_iff_eq.2 h2,beq_iff_eq.2 (show next.length=modes.length by omega)];rfl
   ·refine(aj (sO h3)).2 (ay ?_ (.ret _))
    rw[beq_eq_false_iff_ne.2 (show next.length≠modes.length by omega),Bool.and_false,Bool.false_and]
  ·refine(aj (sO h2)).2 (ay ?_ (.ret _))
   rw[beq_eq_false_iff_ne.2 h2,Bool.and_false];rfl
 ·refine(aj (sO h1)).2 (ay ?_ (.ret _))
  rw[beq_eq_false_iff_ne.2 h1];rfl
def Kr:(al×Mode)→Bool:=fun(m,x)=>jO m x
def I6:(al×Mode)→Bool:=fun(m,_)=>(m.2.2.2.2.2.2.1.length:Int)==m.1
def acP:ax:=⟨[aR,bW], [.bool],I6,Kr⟩
theorem afz:Sd 92 acP:=aP ap bR true 51 [⟨92,4, [[2,3,31,32,33]]⟩] [] (fun A ((mNodes,mSlot,mGap,mWindow,mDrift,mDelay,mCold,mModes),xData,xExplicit,xNext)=>t157 A mNodes mSlot mGap mWindow mDrift mDelay mCold mModes xData xExplicit xNext) Lk Zm (fc Tryz.func92 fz) (sc G1 sz) (fun A y=>match y with |.c0 p a2=>⟨51,by kernel_rfl,by kernel_rfl⟩) fun(((mNodes,mSlot,mGap,mWindow,mDrift,mDelay,mCold,mModes),xData,xExplicit,xNext):al×Mode) hp h=>by
 show au (Lk ah) (t157 ah mNodes mSlot mGap mWindow mDrift mDelay mCold mModes xData xExplicit xNext) (Kr ((mNodes,mSlot,mGap,mWindow,mDrift,mDelay,mCold,mModes),xData,xExplicit,xNext))
 exact aei h.2.1.1 (by simpa [I6] using hp)
def t183(A:aI)(explicit:Bool)(data:Int):LT Int Empty:=.br (A.not explicit) (.ret 2) (.br (A.c .gtr data 0) (.ret 4) (.ret 3))
def mm:(Bool×Int)→Int:=fun(explicit,data)=>(t183 ah explicit data).val (Ty.bi [yI])
def acA:ax:=⟨[.bool,yI], [yI],(@tt (Bool×Int)),mm⟩
theorem V_:Sd 182 acA:=aH ap bR true 32 [] (fun A (explicit,data)=>t183 A explicit data) (fc Tryz.func182 fz) sz (fun((explicit,data):Bool×Int) hp h=>by
 show(t183 ah explicit data).pre=true
 simp[t183,LT.pre,aA,dU])
def t173(A:aI)(n:Int):LT Int Empty:=.br (A.c .lss n 0) (.ret 0) (.br (A.c .gtr n 4095) (.ret 0) (.ret (A.b .add .i64 14 (A.b .quo .i64 (A.b .add .i64 n 1) 2))))
def sH:Int→Int:=fun n=>(t173 ah n).val (Ty.bi [yI])
def adH:ax:=⟨[yI], [yI],(@tt Int),sH⟩
theorem aem:Sd 234 adH:=aH ap bR true 30 [] (fun A n=>t173 A n) (fc Tryz.func234 fz) sz (fun(n:Int) hp h=>by
 show(t173 ah n).pre=true
 simp[t173,LT.pre,aA,dU])
structure ZF where
 (a0:Int) (a1:List Mode) (a2 a3 a4 a5 a6 a7 a8 a9:Int) (cB:List Bool) (da:List Mode)
structure Zz where
 (b1:List Mode) (b2 b3:Int) (b4:List Int) (b5 b7 b8 b9 b10 b11 b12:Int) (b13:List Bool) (iq:List Mode) (fe:List Int) (bI gT:List Bool)
inductive U7 where
 | c0 (p:ZF)
 | c1 (p:Zz) (b0:Int) (b6:Int)
noncomputable def Xj:U7→eD
 | .c0 p=>⟨[⟨172,55,(en [(1,.ptr 0 0),(3,vi p.a0),(12,.sl bW p.a1),(13,vi p.a2),(14,vi p.a3)]),[.inLoop (cw Tryz.f172 [1,1,0,1,0,0]),.inBlock 0,.code (cw Tryz.f172 [1,1,1])],[],none⟩],[.flat false [vi p.a4,vi p.a5,vi p.a6,vi p.a7,vi p.a8,vi p.a9,.sl .bool p.cB,.sl bW p.da],.dead]⟩
 | .c1 p b0 b6=>⟨[⟨172,55,(en [(1,.ptr 0 0),(3,vi b0),(5,.ptr 1 0),(12,.sl bW p.b1),(13,vi p.b2),(14,vi p.b3),(19,.sl yI p.b4),(20,vi p.b5),(21,vi b6)]),[.inLoop (cw Tryz.f172 [1,1,0,1,0,0,1,1,0,0,1,1,0,0]),.inBlock 2,.inBlock 1,.code (cw Tryz.f172 [1,1,0,1,0,0,1,1,1]),.inLoop (cw Tryz.f172 [1,1,0,1,0,0]),.inBlock 0,.code (cw Tryz.f172 [1,1,1])],[],none⟩],[.flat false [vi p.b7,vi p.b8,vi p.b9,vi p.b10,vi p.b11,vi p.b12,.sl .bool p.b13,.sl bW p.iq],.flat false [.sl yI p.fe,.sl .bool p.bI,.sl .bool p.gT],.dead]⟩
def aco(A:aI)(mNodes:Int)(mSlot:Int)(mGap:Int)(mWindow:Int)(mDrift:Int)(mDelay:Int)(mCold:List Bool)(mModes:List Mode):LT Int U7:=.need (A.k (@tt (Int×Int)) (1,0)) (.need (A.k (@tt Int) (A.k qi (1,0))) (.more (.c0 ⟨(A.k sH (A.k qi (1,0))),mModes,(A.l mModes),0,mNodes,mSlot,mGap,mWindow,mDrift,mDelay,mCold,mModes⟩)))
def E_(A:aI):U7→LT Int U7
 | .c0 p=>.br (A.c .lss p.a3 p.a2) (.need (A.and (A.c .leq 0 p.a3) (A.c .lss p.a3 (A.l p.a1))) (.more (.c1 ⟨p.a1,p.a2,p.a3,(A.n bW p.a1 p.a3:Mode).1,(A.l (A.n bW p.a1 p.a3:Mode).1),p.a4,p.a5,p.a6,p.a7,p.a8,p.a9,p.cB,p.da,(A.n bW p.a1 p.a3:Mode).1,(A.n bW p.a1 p.a3:Mode).2.1,(A.n bW p.a1 p.a3:Mode).2.2⟩ p.a0 0))) (.ret p.a0)
 | .c1 p b0 b6=>.br (A.c .lss b6 p.b5) (.need (A.and (A.c .leq 0 b6) (A.c .lss b6 (A.l p.b4))) (.br (A.c .lss b6 p.b7) (.br (A.c .lss b6 (A.l p.bI)) (.need (A.and (A.c .leq 0 b6) (A.c .lss b6 (A.l p.bI))) (.need (A.k (@tt (Bool×Int)) ((A.n .bool p.bI b6:Bool),(A.n yI p.b4 b6:Int))) (.need (A.k (@tt (Int×Int)) ((A.k mm ((A.n .bool p.bI b6:Bool),(A.n yI p.b4 b6:Int))),(A.n yI p.b4 b6:Int))) (.br (A.c .gtr (A.k qi ((A.k mm ((A.n .bool p.bI b6:Bool),(A.n yI p.b4 b6:Int))),(A.n yI p.b4 b6:Int))) 0) (.need (A.k (@tt Int) (A.k qi ((A.k mm ((A.n .bool p.bI b6:Bool),(A.n yI p.b4 b6:Int))),(A.n yI p.b4 b6:Int)))) (.more (.c1 p (A.mx b0 (A.k sH (A.k qi ((A.k mm ((A.n .bool p.bI b6:Bool),(A.n yI p.b4 b6:Int))),(A.n yI p.b4 b6:Int))))) (A.b .add .i64 b6 1)))) (.more (.c1 p b0 (A.b .add .i64 b6 1))))))) (.more (.c1 p b0 (A.b .add .i64 b6 1)))) (.more (.c1 p b0 (A.b .add .i64 b6 1))))) (.more (.c0 ⟨b0,p.b1,p.b2,(A.b .add .i64 p.b3 1),p.b7,p.b8,p.b9,p.b10,p.b11,p.b12,p.b13,p.iq⟩))
def zH(b:Int)(x:Int×Bool):Int:=bif decide (0<qi (mm (x.2,x.1),x.1)) then ah.mx b (sH (qi (mm (x.2,x.1),x.1))) else b
def vy(n:Nat)(b:Int)(x:Mode):Int:=((x.1.zip x.2.1).take n).foldl zH b
def gF(m:al):Int:=m.2.2.2.2.2.2.2.foldl (vy m.1.toNat) (sH (qi (1,0)))
theorem NS{data:List Int}{expl:List Bool}{n:Int}{i:Nat}(h1:i<data.length)(h2:i<expl.length)(h3:(i:Int)<n):((data.zip expl).take n.toNat).drop i=(data[i],expl[i])::((data.zip expl).take n.toNat).drop (i+1):=by
 have hl:i<((data.zip expl).take n.toNat).length:=by simp[List.length_take,List.length_zip];omega
 rw[pV hl,List.getElem_take,List.getElem_zip]
theorem vY{data:List Int}{expl:List Bool}{n:Int}{i:Nat}(h:expl.length≤i∨n≤(i:Int)∨data.length≤i):((data.zip expl).take n.toNat).drop i=[]:=by
 apply List.drop_of_length_le
 simp[List.length_take,List.length_zip];omega
theorem J5{i:Nat}{n:Int}:ah.c .lss (i:Int) n=decide ((i:Int)<n):=rfl
theorem OX{b:Int}{d:Int}{e:Bool}:zH b (d,e)=bif ah.c .gtr (ah.k qi ((ah.k mm (e,d)),d)) 0 then ah.mx b (ah.k sH (ah.k qi ((ah.k mm (e,d)),d))) else b:=rfl
theorem ai_{n s g w d de:Int}{aW expl next:List Bool}{modes ms:List Mode}{data:List Int}{L k k1:Int}{F:Int→Int}(hl:data.length≤140737488355328)(hk:ah.b .add .i64 k 1=k1)(hnext:∀b,au (E_ ah) (.more (.c0 ⟨b,ms,L,k1,n,s,g,w,d,de,aW,modes⟩)) (F b)) :
  ∀(j i:Nat) (b:Int),data.length-i=j→i≤data.length→au (E_ ah) (.more (.c1 ⟨ms,L,k,data,(data.length:Int),n,s,g,w,d,de,aW,modes,data,expl,next⟩ b (i:Int))) (F ((((data.zip expl).take n.toNat).drop i).foldl zH b)):=by
 intro j
 induction j with
 | zero=>
   intro i b hj hi
   have:i=data.length:=by omega
   subst this
   rw[ak,E_]
   refine(ai (by rw[aC];simp)).2 ?_
   rw[vY (.inr (.inr (Nat.le_refl _))),hk]
   exact hnext b
 | succ j ih=>
   intro i b hj hi
   have hi':i<data.length:=by omega
   rw[ak,E_]
   refine(aj (by rw[aC];simp;omega)).2 (af.2 ⟨aO hi',?_⟩)
   have hm:=fun b=>ih (i+1) b (by omega) (by omega)
   by_cases h3:(i:Int)<n
   ·refine(aj (by rw[J5];simpa using h3)).2 ?_
    by_cases h2:i<expl.length
    ·refine(aj (by rw[bF,aC];simpa using h2)).2 (af.2 ⟨aO (show i<expl.length from h2),af.2 ⟨rfl,af.2 ⟨rfl,?_⟩⟩⟩)
     rw[NS hi' h2 h3,List.foldl_cons,OX,←Td hi',←vE h2,bU (i:=i) (by omega)]
     cases hb:ah.c .gtr (ah.k qi ((ah.k mm ((ah.n .bool expl (i:Int):Bool),(ah.n (.int .i64) data (i:Int):Int))),(ah.n (.int .i64) data (i:Int):Int))) 0
     ·exact(ai rfl).2 (hm _)
     ·exact(aj rfl).2 (af.2 ⟨rfl,hm _⟩)
    ·refine(ai (by rw[bF,aC];simpa using h2)).2 ?_
     rw[bU (i:=i) (by omega)]
     have:=hm b
     rw[vY (.inl (by omega))] at this ⊢
     exact this
   ·refine(ai (by rw[J5];simpa using h3)).2 ?_
    rw[bU (i:=i) (by omega)]
    have:=hm b
    rw[vY (.inr (.inl (by omega)))] at this ⊢
    exact this
theorem aiV{n s g w d de:Int}{aW:List Bool}{modes ms:List Mode}(hl:ms.length≤140737488355328)(hd:∀x∈ms,x.1.length≤140737488355328) :
  ∀(j k:Nat) (b:Int),ms.length-k=j→k≤ms.length→au (E_ ah) (.more (.c0 ⟨b,ms,(ms.length:Int),(k:Int),n,s,g,w,d,de,aW,modes⟩)) ((ms.drop k).foldl (vy n.toNat) b):=by
 intro j
 induction j with
 | zero=>
   intro k b hj hk
   have:k=ms.length:=by omega
   subst this
   rw[ak,E_]
   refine(ai (by rw[aC];simp)).2 ?_
   rw[List.drop_length]
   exact .ret _
 | succ j ih=>
   intro k b hj hk
   have hk':k<ms.length:=by omega
   rw[ak,E_]
   refine(aj (by rw[aC];simp;omega)).2 (af.2 ⟨aO hk',?_⟩)
   rw[show(ah.n bW ms (k:Int):Mode)=ms[k] from getD_in hk' _,pV hk',List.foldl_cons]
   exact ai_ (F:=fun b=>(ms.drop (k+1)).foldl (vy n.toNat) b) (hd _ (List.getElem_mem hk')) (bU (by omega)) (fun b=>ih (k+1) b (by omega) (by omega)) ms[k].1.length 0 b rfl (by omega)
theorem max2{n s g w d de:Int}{aW:List Bool}{modes:List Mode}(h:Ty.has aR (n,s,g,w,d,de,aW,modes)):au (E_ ah) (aco ah n s g w d de aW modes) (gF (n,s,g,w,d,de,aW,modes)):=
 af.2 ⟨rfl,af.2 ⟨rfl,aiV (mV h).2.2.1 (fun x hx=>((mV h).2.2.2 x hx).1) modes.length 0 _ rfl (by omega)⟩⟩
def Ws:al→Int:=gF
def agS:ax:=⟨[aR], [yI],(@tt al),Ws⟩
theorem ahw:Sd 172 agS:=aP ap bR true 27 [⟨172,3, [[1,3,12,13,14]]⟩,⟨172,6, [[1,3,5,12,13,14,19,20,21]]⟩] [] (fun A (mNodes,mSlot,mGap,mWindow,mDrift,mDelay,mCold,mModes)=>aco A mNodes mSlot mGap mWindow mDrift mDelay mCold mModes) E_ Xj (fc Tryz.func172 fz) (sc aiq (sc aem (sc V_ sz))) (fun A y=>match y with |.c0 p=>⟨31,by kernel_rfl,by kernel_rfl⟩|.c1 p b0 b6=>⟨69,by kernel_rfl,by kernel_rfl⟩) fun(mNodes,mSlot,mGap,mWindow,mDrift,mDelay,mCold,mModes) hp h=>max2 h
def t159(A:aI)(mNodes:Int)(mSlot:Int)(mGap:Int)(mWindow:Int)(mDrift:Int)(mDelay:Int)(mCold:List Bool)(mModes:List Mode):LT (Int×Int×Int) Empty:=.need (A.k (@tt al) (mNodes,mSlot,mGap,mWindow,mDrift,mDelay,mCold,mModes)) (.ret ((A.b .add .i64 (A.b .mul .i64 (A.b .mul .i64 16 mNodes) mDrift) 16),(A.b .add .i64 (A.b .add .i64 (A.b .mul .i64 2 mWindow) (A.b .mul .i64 2 mDelay)) 4),(A.b .add .i64 (A.b .mul .i64 2 mGap) (A.k Ws (mNodes,mSlot,mGap,mWindow,mDrift,mDelay,mCold,mModes)))))
def xj:al→(Int×Int×Int):=fun(mNodes,mSlot,mGap,mWindow,mDrift,mDelay,mCold,mModes)=>(t159 ah mNodes mSlot mGap mWindow mDrift mDelay mCold mModes).val (Ty.bi [yI,yI,yI])
def adR:ax:=⟨[aR], [yI,yI,yI],(@tt al),xj⟩
theorem ach:Sd 94 adR:=aH ap bR true 50 [] (fun A (mNodes,mSlot,mGap,mWindow,mDrift,mDelay,mCold,mModes)=>t159 A mNodes mSlot mGap mWindow mDrift mDelay mCold mModes) (fc Tryz.func94 fz) (sc ahw sz) (fun((mNodes,mSlot,mGap,mWindow,mDrift,mDelay,mCold,mModes):al) hp h=>by
 show(t159 ah mNodes mSlot mGap mWindow mDrift mDelay mCold mModes).pre=true
 simp[t159,LT.pre,aA,dU])
theorem aB{R Y:Type}{step:Y→LT R Y}{t e:LT R Y}{r:R}{p:Prop}[Decidable p]{b:Bool}(hb:b=decide p)(ht:p→au step t r)(he:¬p→au step e r):au step (.br b t e) r:=by
 by_cases h:p
 ·exact(aj (by rw[hb];simpa using h)).2 (ht h)
 ·exact(ai (by rw[hb];simpa using h)).2 (he h)
theorem dW{R Y:Type}{step:Y→LT R Y}{t e:LT R Y}{r:R}{x a b:Int}(ht:¬(a≤x∧x≤b)→au step t r)(he:a≤x∧x≤b→au step e r):au step (.br (ah.not (ah.k fO (x,a,b))) t e) r:=by
 refine aB (p:=¬(a≤x∧x≤b)) ?_ ht (fun h=>he (Decidable.not_not.1 h))
 rw[eY,aA,mH,←Bool.decide_and,←decide_not]
theorem CQ{n:Int}:0≤sH n∧sH n≤2062:=by
 simp only[sH,t173,LT.val,ar,bg,Bool.cond_eq_ite,jV]
 split
 ·omega
 ·split
  ·omega
  ·rw[ck,Kv,ck,iZ (a:=n+1) (by omega) (by omega)]
   have:(n+1).tdiv 2=(n+1)/2:=Int.tdiv_eq_ediv_of_nonneg (by omega)
   rw[this,iZ (a:=(n+1)/2) (by omega) (by omega),iZ (by omega) (by omega)]
   omega
theorem RZ{b:Int}{x:Int×Bool}(h:0≤b∧b≤2062):0≤zH b x∧zH b x≤2062:=by
 have:=CQ (n:=qi (mm (x.2,x.1),x.1))
 unfold zH
 cases decide (0<qi (mm (x.2,x.1),x.1))
 ·exact h
 ·rw[ac8,IU];split<;>omega
theorem tT{α:Type}{f:Int→α→Int}(hf:∀b x,0≤b∧b≤2062→0≤f b x∧f b x≤2062):∀{l:List α} {b:Int},0≤b∧b≤2062→0≤l.foldl f b∧l.foldl f b≤2062
 | [],_,h=>h
 | x::l,b,h=>tT hf (l:=l) (hf b x h)
theorem wA{m:al}:0≤gF m∧gF m≤2062:=tT (fun _ _ h=>tT (fun _ _ h=>RZ h) h) CQ
def lG(n s g w d de mx:Int):Bool:=decide (0≤d∧d≤64∧0≤de∧de≤64∧16*n*d+16≤w∧w≤1048576∧2*w+2*de+4≤g∧g≤1048576∧2*g+mx≤s∧s≤16777216)
def du(m:al):Bool:=countB m&&m.2.2.2.2.2.2.2.all (jO m)&&lG m.1 m.2.1 m.2.2.1 m.2.2.2.1 m.2.2.2.2.1 m.2.2.2.2.2.1 (gF m)
def lC(m:al):Int:=bif du m then 0 else 70
theorem SB{n d:Int}(h:4≤n∧n≤8)(h2:0≤d∧d≤64):ah.b .add .i64 (ah.b .mul .i64 (ah.b .mul .i64 16 n) d) 16=16*n*d+16:=by
 have h3:0≤16*n*d∧16*n*d≤8192:=by
  have:n=4∨n=5∨n=6∨n=7∨n=8:=by omega
  rcases this with rfl|rfl|rfl|rfl|rfl<;>omega
 rw[ck,ib,ib,iZ (a:=16*n) (by omega) (by omega),iZ (a:=16*n*d) (by omega) (by omega),iZ (by omega) (by omega)]
theorem rR{n d:Int}(h:4≤n∧n≤8)(h2:0≤d∧d≤64):0≤16*n*d:=by
 have:n=4∨n=5∨n=6∨n=7∨n=8:=by omega
 rcases this with rfl|rfl|rfl|rfl|rfl<;>omega
theorem R3{w de:Int}(h:0≤w∧w≤1048576)(h2:0≤de∧de≤64):ah.b .add .i64 (ah.b .add .i64 (ah.b .mul .i64 2 w) (ah.b .mul .i64 2 de)) 4=2*w+2*de+4:=by
 rw[ck,ck,ib,ib,iZ (a:=2*w) (by omega) (by omega),iZ (a:=2*de) (by omega) (by omega),iZ (a:=2*w+2*de) (by omega) (by omega),iZ (by omega) (by omega)]
theorem Kn{g mx:Int}(h:0≤g∧g≤1048576)(h2:0≤mx∧mx≤2062):ah.b .add .i64 (ah.b .mul .i64 2 g) mx=2*g+mx:=by
 rw[ck,ib,iZ (a:=2*g) (by omega) (by omega),iZ (by omega) (by omega)]
theorem NQ{n s g w d de:Int}{aW:List Bool}{modes:List Mode}:xj (n,s,g,w,d,de,aW,modes)=(ah.b .add .i64 (ah.b .mul .i64 (ah.b .mul .i64 16 n) d) 16,ah.b .add .i64 (ah.b .add .i64 (ah.b .mul .i64 2 w) (ah.b .mul .i64 2 de)) 4,ah.b .add .i64 (ah.b .mul .i64 2 g) (gF (n,s,g,w,d,de,aW,modes))):=rfl
structure Qm where
 (a0:List Mode) (a1 a3 a4 a5 a6 a7 a8:Int) (a9:List Bool) (cB:List Mode)
inductive OV where
 | c0 (p:Qm) (a2:Int)
noncomputable def Xz:OV→eD
 | .c0 p a2=>⟨[⟨171,19,(en [(0,.sl bW p.a0),(1,.fn 91 [] [.ptr 0 0]),(7,vi p.a1),(8,vi a2)]),[.inLoop (cw Tryz.f171 [1,0,1,0,0]),.inBlock 0,.code (cw Tryz.f171 [1,1])],[],none⟩,⟨90,9,.leaf,[.ops (ow Tryz.f90 [1,0]) ((ow Tryz.f90 [1,0]).toList.drop 2),.code .ret],[],none⟩,⟨42,65,(en [(1,.ptr 0 0)]),[.ops (ow Tryz.f42 [1,0,0,0,0,0,0,0,0,1,0,0]) ((ow Tryz.f42 [1,0,0,0,0,0,0,0,0,1,0,0]).toList.drop 3),.code (cw Tryz.f42 [1,0,0,0,0,0,0,0,0,1,0,1]),.code (cw Tryz.f42 [1,0,0,0,0,0,0,0,0,1,1]),.code (.exit 0),.inBlock 1,.inBlock 2,.inBlock 3,.inBlock 4,.code (cw Tryz.f42 [1,0,0,1]),.inBlock 0,.code (cw Tryz.f42 [1,1])],[],none⟩],[.flat false [vi p.a3,vi p.a4,vi p.a5,vi p.a6,vi p.a7,vi p.a8,.sl .bool p.a9,.sl bW p.cB],.dead]⟩
def t124(A:aI)(mNodes:Int)(mSlot:Int)(mGap:Int)(mWindow:Int)(mDrift:Int)(mDelay:Int)(mCold:List Bool)(mModes:List Mode):LT Int OV:=.need (A.k (@tt al) (mNodes,mSlot,mGap,mWindow,mDrift,mDelay,mCold,mModes)) (.br (A.not (A.k Sj (mNodes,mSlot,mGap,mWindow,mDrift,mDelay,mCold,mModes))) (.ret 70) (.more (.c0 ⟨mModes,(A.l mModes),mNodes,mSlot,mGap,mWindow,mDrift,mDelay,mCold,mModes⟩ 0)))
abbrev KA(A:aI)(p:Qm):LT Int OV:=(.need (A.k (@tt (Int×Int×Int)) (p.a7,0,64)) (.br (A.not (A.k fO (p.a7,0,64))) (.ret 70) (.need (A.k (@tt (Int×Int×Int)) (p.a8,0,64)) (.br (A.not (A.k fO (p.a8,0,64))) (.ret 70) (.need (A.k (@tt (Int×Int×Int)) (p.a6,0,1048576)) (.br (A.not (A.k fO (p.a6,0,1048576))) (.ret 70) (.need (A.k (@tt (Int×Int×Int)) (p.a5,0,1048576)) (.br (A.not (A.k fO (p.a5,0,1048576))) (.ret 70) (.need (A.k (@tt (Int×Int×Int)) (p.a4,0,16777216)) (.br (A.not (A.k fO (p.a4,0,16777216))) (.ret 70) (.need (A.k (@tt al) (p.a3,p.a4,p.a5,p.a6,p.a7,p.a8,p.a9,p.cB)) (.br (A.c .lss p.a6 (A.k xj (p.a3,p.a4,p.a5,p.a6,p.a7,p.a8,p.a9,p.cB)).1) (.ret 70) (.br (A.c .lss p.a5 (A.k xj (p.a3,p.a4,p.a5,p.a6,p.a7,p.a8,p.a9,p.cB)).2.1) (.ret 70) (.br (A.c .lss p.a4 (A.k xj (p.a3,p.a4,p.a5,p.a6,p.a7,p.a8,p.a9,p.cB)).2.2) (.ret 70) (.ret 0)))))))))))))))
def L0(A:aI):OV→LT Int OV
 | .c0 p a2=>.br (A.c .lss a2 p.a1) (.need (A.and (A.c .leq 0 a2) (A.c .lss a2 (A.l p.a0))) (.need (A.k I6 ((p.a3,p.a4,p.a5,p.a6,p.a7,p.a8,p.a9,p.cB),(A.n bW p.a0 a2:Mode))) (.br (A.not (A.k Kr ((p.a3,p.a4,p.a5,p.a6,p.a7,p.a8,p.a9,p.cB),(A.n bW p.a0 a2:Mode)))) (.br (A.c .geq a2 0) (.ret 70) (KA A p)) (.more (.c0 p (A.b .add .i64 a2 1)))))) (KA A p)
theorem Tg{n s g w d de:Int}{aW:List Bool}{modes:List Mode}{R:Int}(hn:4≤n∧n≤8)(hR:R=bif lG n s g w d de (gF (n,s,g,w,d,de,aW,modes)) then 0 else 70) :
  au (L0 ah) (.need (ah.k (@tt (Int×Int×Int)) (d,0,64)) (.br (ah.not (ah.k fO (d,0,64))) (.ret 70) (.need (ah.k (@tt (Int×Int×Int)) (de,0,64)) (.br (ah.not (ah.k fO (de,0,64))) (.ret 70) (.need (ah.k (@tt (Int×Int×Int)) (w,0,1048576)) (.br (ah.not (ah.k fO (w,0,1048576))) (.ret 70) (.need (ah.k (@tt (Int×Int×Int)) (g,0,1048576)) (.br (ah.not (ah.k fO (g,0,1048576))) (.ret 70) (.need (ah.k (@tt (Int×Int×Int)) (s,0,16777216)) (.br (ah.not (ah.k fO (s,0,16777216))) (.ret 70) (.need (ah.k (@tt al) (n,s,g,w,d,de,aW,modes)) (.br (ah.c .lss w (ah.k xj (n,s,g,w,d,de,aW,modes)).1) (.ret 70) (.br (ah.c .lss g (ah.k xj (n,s,g,w,d,de,aW,modes)).2.1) (.ret 70) (.br (ah.c .lss s (ah.k xj (n,s,g,w,d,de,aW,modes)).2.2) (.ret 70) (.ret 0))))))))))))))) R:=by
 have hm:=wA (m:=(n,s,g,w,d,de,aW,modes))
 have no:∀{p:Prop} [Decidable p],¬p→decide p=false:=fun h=>by simpa using h
 rw[hR]
 refine af.2 ⟨rfl,dW (fun h=>ay ?_ (.ret _)) fun h1=>af.2 ⟨rfl,dW (fun h=>ay ?_ (.ret _)) fun h2=>af.2 ⟨rfl,dW (fun h=>ay ?_ (.ret _)) fun h3=>af.2 ⟨rfl,dW (fun h=>ay ?_ (.ret _)) fun h4=>af.2 ⟨rfl,dW (fun h=>ay ?_ (.ret _)) fun h5=>af.2 ⟨rfl,?_⟩⟩⟩⟩⟩⟩
 ·rw[lG,no (by omega)];rfl
 ·rw[lG,no (by omega)];rfl
 ·have:=fun h=>rR (n:=n) (d:=d) hn h
  rw[lG,no (by omega)];rfl
 ·have:=fun h=>rR (n:=n) (d:=d) hn h
  rw[lG,no (by omega)];rfl
 ·have:=fun h=>rR (n:=n) (d:=d) hn h
  rw[lG,no (by omega)];rfl
 ·have:=rR (n:=n) (d:=d) hn h1
  rw[aA,NQ,SB hn h1,R3 h3 h2,Kn h4 hm]
  refine aB (p:=w<16*n*d+16) rfl (fun h=>ay ?_ (.ret _)) fun h6=>aB (p:=g<2*w+2*de+4) rfl (fun h=>ay ?_ (.ret _)) fun h7=>aB (p:=s<2*g+gF (n,s,g,w,d,de,aW,modes)) rfl (fun h=>ay ?_ (.ret _)) fun h8=>ay ?_ (.ret _)
  ·rw[lG,no (by omega)];rfl
  ·rw[lG,no (by omega)];rfl
  ·rw[lG,no (by omega)];rfl
  ·rw[lG,aK (by omega)];rfl
theorem Z8{n s g w d de:Int}{aW:List Bool}{modes:List Mode}(hl:modes.length≤140737488355328)(hc:(aW.length:Int)=n)(hn:4≤n∧n≤8):∀(j i:Nat),modes.length-i=j→i≤modes.length→
  au (L0 ah) (.more (.c0 ⟨modes,(modes.length:Int),n,s,g,w,d,de,aW,modes⟩ (i:Int))) (bif (modes.drop i).all (jO (n,s,g,w,d,de,aW,modes))&&lG n s g w d de (gF (n,s,g,w,d,de,aW,modes)) then 0 else 70):=by
 intro j
 induction j with
 | zero=>
   intro i hj hi
   have:i=modes.length:=by omega
   subst this
   rw[ak,L0]
   refine(ai (by rw[aC];simp)).2 (Tg hn ?_)
   rw[List.drop_length];rfl
 | succ j ih=>
   intro i hj hi
   have hi':i<modes.length:=by omega
   rw[ak,L0]
   refine(aj (by rw[aC];simp;omega)).2 (af.2 ⟨aO hi',?_⟩)
   have e:(ah.n bW modes (i:Int):Mode)=modes[i]:=getD_in hi' _
   rw[e,pV hi',List.all_cons]
   refine af.2 ⟨by show((aW.length:Int)==n)=true;simpa using hc,?_⟩
   have hf:ah.k Kr ((n,s,g,w,d,de,aW,modes),modes[i])=jO (n,s,g,w,d,de,aW,modes) modes[i]:=rfl
   rw[hf]
   cases jO (n,s,g,w,d,de,aW,modes) modes[i]
   ·refine(aj rfl).2 ((aj (by rw[bZ];simp)).2 (.ret _))
   ·refine(ai rfl).2 ?_
    rw[bU (i:=i) (by omega),Bool.true_and]
    exact ih (i+1) (by omega) (by omega)
theorem XG{n s g w d de:Int}{aW:List Bool}{modes:List Mode}(h:Ty.has aR (n,s,g,w,d,de,aW,modes)):au (L0 ah) (t124 ah n s g w d de aW modes) (lC (n,s,g,w,d,de,aW,modes)):=by
 unfold t124 lC du
 refine af.2 ⟨rfl,?_⟩
 rw[show ah.k Sj (n,s,g,w,d,de,aW,modes)=countB (n,s,g,w,d,de,aW,modes) from rfl]
 cases hc:countB (n,s,g,w,d,de,aW,modes)
 ·exact(aj rfl).2 (.ret _)
 ·refine(ai rfl).2 ?_
  simp only[countB,mH,cd,jV,beq_iff_eq] at hc
  exact Z8 (mV h).2.2.1 hc.1.2 hc.1.1.1 modes.length 0 rfl (by omega)
def fX:al→Int:=lC
def agR:ax:=⟨[aR], [yI],(@tt al),fX⟩
theorem CF:Sd 42 agR:=aP ap bR true 58 [⟨171,2, [[0,1,7,8], [], [1]]⟩] [] (fun A (mNodes,mSlot,mGap,mWindow,mDrift,mDelay,mCold,mModes)=>t124 A mNodes mSlot mGap mWindow mDrift mDelay mCold mModes) L0 Xz (fc Tryz.func42 (fc Tryz.func90 (fc Tryz.func91 (fc Tryz.func171 fz)))) (sc agT (sc afz (sc G1 (sc ach sz)))) (fun A y=>match y with |.c0 p a2=>⟨136,by kernel_rfl,by kernel_rfl⟩) fun(mNodes,mSlot,mGap,mWindow,mDrift,mDelay,mCold,mModes) hp h=>XG h
theorem Aj{m:al}:fX m=lC m:=rfl
theorem tM{m:al}:lC m=0↔du m=true:=by
 unfold lC;cases du m<;>decide
def VK(A:aI)(explicit:Bool)(data:Int):LT Int Empty:=.br (A.not explicit) (.ret 2) (.br (A.c .gtr data 0) (.ret 4) (.ret 3))
def CM:(Bool×Int)→Int:=fun(explicit,data)=>(VK ah explicit data).val (Ty.bi [yI])
def ag3:ax:=⟨[.bool,yI], [yI],(@tt (Bool×Int)),CM⟩
theorem adJ:Sd 161 ag3:=aH ap bR true 30 [] (fun A (explicit,data)=>VK A explicit data) (fc Tryz.func161 fz) sz (fun((explicit,data):Bool×Int) hp h=>by
 show(VK ah explicit data).pre=true
 simp[VK,LT.pre,aA,dU])
def TA(A:aI)(n:Int):LT Int Empty:=.br (A.c .lss n 0) (.ret 0) (.br (A.c .gtr n 4095) (.ret 0) (.ret (A.b .add .i64 14 (A.b .quo .i64 (A.b .add .i64 n 1) 2))))
def JA:Int→Int:=fun n=>(TA ah n).val (Ty.bi [yI])
def adK:ax:=⟨[yI], [yI],(@tt Int),JA⟩
theorem aeE:Sd 159 adK:=aH ap bR true 30 [] (fun A n=>TA A n) (fc Tryz.func159 fz) sz (fun(n:Int) hp h=>by
 show(TA ah n).pre=true
 simp[TA,LT.pre,aA,dU])
structure Yx where
 (a0:List Bool)
inductive VH where
 | c0 (p:Yx) (a1:Int) (a2:Int)
noncomputable def aaK:VH→eD
 | .c0 p a1 a2=>⟨[⟨141,18,(en [(0,.sl .bool p.a0),(3,vi a1),(4,vi a2)]),[.inLoop (cw Tryz.f141 [1,1,0,1,0,0]),.inBlock 0,.code (cw Tryz.f141 [1,1,1])],[],none⟩],[.dead]⟩
def afJ(A:aI)(l:List Bool):LT Int VH:=.more (.c0 ⟨l⟩ 0 0)
def O4(A:aI):VH→LT Int VH
 | .c0 p a1 a2=>.br (A.c .lss a2 (A.l p.a0)) (.need (A.and (A.c .leq 0 a2) (A.c .lss a2 (A.l p.a0))) (.br (A.n .bool p.a0 a2:Bool) (.more (.c0 p (A.b .add .i64 a1 1) (A.b .add .i64 a2 1))) (.more (.c0 p a1 (A.b .add .i64 a2 1))))) (.ret a1)
theorem abr{l:List Bool}(hl:l.length≤140737488355328):∀(j i c:Nat),l.length-i=j→i≤l.length→c≤i→au (O4 ah) (.more (.c0 ⟨l⟩ (c:Int) (i:Int))) ((c+(l.drop i).count true:Nat):Int):=by
 intro j
 induction j with
 | zero=>
   intro i c hj hi hc
   have:i=l.length:=by omega
   subst this
   rw[ak,O4]
   refine(ai (by rw[bF,aC];simp)).2 ?_
   rw[List.drop_length]
   exact .ret _
 | succ j ih=>
   intro i c hj hi hc
   have hi':i<l.length:=by omega
   rw[ak,O4]
   refine(aj (by rw[bF,aC];simp;omega)).2 (af.2 ⟨aO hi',?_⟩)
   rw[pV hi',List.count_cons]
   cases hb:l[i]
   ·refine(ai ((vE hi').trans hb)).2 ?_
    rw[bU (i:=i) (by omega)]
    refine ay ?_ (ih (i+1) c (by omega) (by omega) (by omega))
    simp
   ·refine(aj ((vE hi').trans hb)).2 ?_
    rw[bU (i:=c) (by omega),bU (i:=i) (by omega)]
    refine ay ?_ (ih (i+1) (c+1) (by omega) (by omega) (by omega))
    simp[Nat.add_assoc,Nat.add_comm 1]
def FI:(List Bool)→Int:=fun l=>(l.count true:Int)
def afs:ax:=⟨[(.slice .bool)], [yI],(@tt (List Bool)),FI⟩
theorem adI:Sd 141 afs:=aP ap bR true 21 [⟨141,3, [[0,3,4]]⟩] [] (fun A l=>afJ A l) O4 aaK (fc Tryz.func141 fz) sz (fun A y=>match y with |.c0 p a1 a2=>⟨37,by kernel_rfl,by kernel_rfl⟩) fun(l:List Bool) hp h=>by
 show au (O4 ah) (afJ ah l) (FI l)
 exact ay (by simp[FI]) (abr h.1 l.length 0 0 rfl (by omega) (by omega))
structure aaH where
 (a1:List Int) (a2 a3:List Bool) (a4 a5 a6 a7 a8 a9:Int) (cB:List Bool) (da:List Mode)
structure Xm where
 (b1:List Int) (b2 b3:List Bool) (b4 b5 b6 b7 b8 b9:Int) (b10:List Bool) (b11:List Mode)
inductive Ud where
 | c0 (p:aaH) (a0:Int)
 | c1 (p:Xm) (b0:Int)
noncomputable def Zf:Ud→eD
 | .c0 p a0=>⟨[⟨142,78,(en [(2,.ptr 0 0),(3,.ptr 1 0),(5,vi a0)]),[.inLoop (cw Tryz.f142 [1,1,0,1,0,0]),.inBlock 0,.code (cw Tryz.f142 [1,1,1])],[],none⟩],[.flat false [.sl yI p.a1,.sl .bool p.a2,.sl .bool p.a3],.flat false [vi p.a4,vi p.a5,vi p.a6,vi p.a7,vi p.a8,vi p.a9,.sl .bool p.cB,.sl bW p.da],.dead]⟩
 | .c1 p b0=>⟨[⟨142,78,(en [(2,.ptr 0 0),(3,.ptr 1 0),(6,vi b0)]),[.inLoop (cw Tryz.f142 [1,1,1,0,1,0,0]),.inBlock 2,.code (cw Tryz.f142 [1,1,1,1])],[],none⟩],[.flat false [.sl yI p.b1,.sl .bool p.b2,.sl .bool p.b3],.flat false [vi p.b4,vi p.b5,vi p.b6,vi p.b7,vi p.b8,vi p.b9,.sl .bool p.b10,.sl bW p.b11],.dead]⟩
def Uj(A:aI)(xData:List Int)(xExplicit:List Bool)(xNext:List Bool)(mNodes:Int)(mSlot:Int)(mGap:Int)(mWindow:Int)(mDrift:Int)(mDelay:Int)(mCold:List Bool)(mModes:List Mode):LT Bool Ud:=.br (A.c .neq (A.l xData) mNodes) (.ret false) (.br (A.c .neq (A.l xExplicit) mNodes) (.ret false) (.br (A.c .neq (A.l xNext) (A.l mModes)) (.ret false) (.more (.c0 ⟨xData,xExplicit,xNext,mNodes,mSlot,mGap,mWindow,mDrift,mDelay,mCold,mModes⟩ 0))))
def BF(A:aI):Ud→LT Bool Ud
 | .c0 p a0=>.br (A.c .lss a0 (A.l p.a1)) (.need (A.and (A.c .leq 0 a0) (A.c .lss a0 (A.l p.a1))) (.br (A.c .lss (A.n yI p.a1 a0:Int) 0) (.ret false) (.need (A.and (A.c .leq 0 a0) (A.c .lss a0 (A.l p.a1))) (.br (A.c .gtr (A.n yI p.a1 a0:Int) 8) (.ret false) (.more (.c0 p (A.b .add .i64 a0 1))))))) (.more (.c1 ⟨p.a1,p.a2,p.a3,p.a4,p.a5,p.a6,p.a7,p.a8,p.a9,p.cB,p.da⟩ 0))
 | .c1 p b0=>.br (A.c .lss b0 (A.l p.b2)) (.br (A.c .lss b0 (A.l p.b10)) (.need (A.and (A.c .leq 0 b0) (A.c .lss b0 (A.l p.b10))) (.br (A.n .bool p.b10 b0:Bool) (.need (A.and (A.c .leq 0 b0) (A.c .lss b0 (A.l p.b2))) (.br (A.not (A.n .bool p.b2 b0:Bool)) (.ret false) (.more (.c1 p (A.b .add .i64 b0 1))))) (.more (.c1 p (A.b .add .i64 b0 1))))) (.ret true)) (.ret true)
def O5:List Bool→List Bool→Bool
 | c::cs,e::es=>(!c||e)&&O5 cs es
 | _,_=>true
theorem tG:∀{ds:List Int} {cs es:List Bool},cs.length=ds.length→es.length=ds.length→rK ds cs es=(ds.all (fun d=>decide (0≤d)&&decide (d≤8))&&O5 cs es)
 | [], [], [],_,_=>rfl
 | d::ds,c::cs,e::es,h1,h2=>by
   rw[rK,tG (ds:=ds) (by simpa using h1) (by simpa using h2),List.all_cons,O5]
   cases (decide (0≤d)&&decide (d≤8))<;>cases (!c||e)<;>simp
 | [],_::_,_,h,_=>by cases h
 | [], [],_::_,_,h=>by cases h
 | _::_, [],_,h,_=>by cases h
 | _::_,_::_, [],_,h=>by cases h
theorem abk{n s g w d de:Int}{aW expl next:List Bool}{modes:List Mode}{data:List Int}(hl:expl.length≤140737488355328)(hc:aW.length=expl.length):∀(j i:Nat),expl.length-i=j→i≤expl.length→
  au (BF ah) (.more (.c1 ⟨data,expl,next,n,s,g,w,d,de,aW,modes⟩ (i:Int))) (O5 (aW.drop i) (expl.drop i)):=by
 intro j
 induction j with
 | zero=>
   intro i hj hi
   have:i=expl.length:=by omega
   subst this
   rw[ak,BF]
   refine(ai (by rw[bF,aC];simp)).2 ?_
   rw[List.drop_length,List.drop_of_length_le (by omega)]
   exact .ret _
 | succ j ih=>
   intro i hj hi
   have hi':i<expl.length:=by omega
   have hi2:i<aW.length:=by omega
   rw[ak,BF]
   refine(aj (by rw[bF,aC];simp;omega)).2 ((aj (by rw[bF,aC];simp;omega)).2 (af.2 ⟨aO hi2,?_⟩))
   have hm:=ih (i+1) (by omega) (by omega)
   rw[pV hi',pV hi2,O5]
   cases hcb:aW[i]
   ·refine(ai ((vE hi2).trans hcb)).2 ?_
    rw[bU (i:=i) (by omega)];exact hm
   ·refine(aj ((vE hi2).trans hcb)).2 (af.2 ⟨aO hi',?_⟩)
    cases heb:expl[i]
    ·exact(aj (by rw[vE hi',heb];rfl)).2 (.ret _)
    ·refine(ai (by rw[vE hi',heb];rfl)).2 ?_
     rw[bU (i:=i) (by omega)];exact hm
theorem abn{n s g w d de:Int}{aW expl next:List Bool}{modes:List Mode}{data:List Int}{R:Bool}(hl:data.length≤140737488355328)(hR:au (BF ah) (.more (.c1 ⟨data,expl,next,n,s,g,w,d,de,aW,modes⟩ 0)) R):∀(j i:Nat),data.length-i=j→i≤data.length→
  au (BF ah) (.more (.c0 ⟨data,expl,next,n,s,g,w,d,de,aW,modes⟩ (i:Int))) ((data.drop i).all (fun d=>decide (0≤d)&&decide (d≤8))&&R):=by
 intro j
 induction j with
 | zero=>
   intro i hj hi
   have:i=data.length:=by omega
   subst this
   rw[ak,BF]
   refine(ai (by rw[bF,aC];simp)).2 ?_
   rw[List.drop_length]
   exact ay (by simp) hR
 | succ j ih=>
   intro i hj hi
   have hi':i<data.length:=by omega
   rw[ak,BF]
   have hm:=ih (i+1) (by omega) (by omega)
   rw[pV hi',List.all_cons]
   refine(aj (by rw[bF,aC];simp;omega)).2 (af.2 ⟨aO hi',?_⟩)
   rw[Td hi']
   refine aB (p:=data[i]<0) rfl (fun h=>ay ?_ (.ret _)) fun h1=>af.2 ⟨aO hi',aB (p:=8<data[i]) rfl (fun h=>ay ?_ (.ret _)) fun h2=>?_⟩
   ·rw[aX (show ¬0≤data[i] by omega)];rfl
   ·rw[aX (show ¬data[i]≤8 by omega),Bool.and_false];rfl
   ·rw[bU (i:=i) (by omega),aK (show 0≤data[i] by omega),aK (show data[i]≤8 by omega)]
    exact hm
theorem Z9{n s g w d de:Int}{aW expl next:List Bool}{modes:List Mode}{data:List Int}(hl:data.length≤140737488355328)(hl2:expl.length≤140737488355328)(hc:(aW.length:Int)=n) :
  au (BF ah) (Uj ah data expl next n s g w d de aW modes) (jO (n,s,g,w,d,de,aW,modes) (data,expl,next)):=by
 unfold Uj jO
 simp only[bF]
 by_cases h1:(data.length:Int)=n
 ·refine(ai (sI h1)).2 ?_
  by_cases h2:(expl.length:Int)=n
  ·refine(ai (sI h2)).2 ?_
   by_cases h3:(next.length:Int)=modes.length
   ·refine(ai (sI h3)).2 (ay ?_ (abn hl (abk hl2 (by omega) expl.length 0 rfl (by omega)) data.length 0 rfl (by omega)))
    rw[beq_iff_eq.2 h1,beq_iff_eq.2 h2,beq_iff_eq.2 (show next.length=modes.length by omega),tG (show aW.length=data.length by omega) (show expl.length=data.length by omega)];rfl
   ·refine(aj (sO h3)).2 (ay ?_ (.ret _))
    rw[beq_eq_false_iff_ne.2 (show next.length≠modes.length by omega),Bool.and_false,Bool.false_and]
  ·refine(aj (sO h2)).2 (ay ?_ (.ret _))
   rw[beq_eq_false_iff_ne.2 h2,Bool.and_false];rfl
 ·refine(aj (sO h1)).2 (ay ?_ (.ret _))
  rw[beq_eq_false_iff_ne.2 h1];rfl
def Kd:(Mode×al)→Bool:=fun(x,m)=>jO m x
def Hr:(Mode×al)→Bool:=fun(_,m)=>(m.2.2.2.2.2.2.1.length:Int)==m.1
def afh:ax:=⟨[bW,aR], [.bool],Hr,Kd⟩
theorem agq:Sd 142 afh:=aP ap bR true 48 [⟨142,4, [[2,3,5]]⟩,⟨142,9, [[2,3,6]]⟩] [] (fun A ((xData,xExplicit,xNext),mNodes,mSlot,mGap,mWindow,mDrift,mDelay,mCold,mModes)=>Uj A xData xExplicit xNext mNodes mSlot mGap mWindow mDrift mDelay mCold mModes) BF Zf (fc Tryz.func142 fz) sz (fun A y=>match y with |.c0 p a0=>⟨44,by kernel_rfl,by kernel_rfl⟩|.c1 p b0=>⟨50,by kernel_rfl,by kernel_rfl⟩) fun(((xData,xExplicit,xNext),mNodes,mSlot,mGap,mWindow,mDrift,mDelay,mCold,mModes):Mode×al) hp h=>by
 show au (BF ah) (Uj ah xData xExplicit xNext mNodes mSlot mGap mWindow mDrift mDelay mCold mModes) (Kd ((xData,xExplicit,xNext),mNodes,mSlot,mGap,mWindow,mDrift,mDelay,mCold,mModes))
 exact Z9 h.1.1.1 h.1.2.1.1 (by simpa [Hr] using hp)
structure Zw where
 (a0 a1 a2 a3 a4 a5 a6 a7:Int) (a8:List Bool) (a9:List Mode)
structure aa2 where
 (b1 b3 b4 b5 b6 b7 b8:Int) (b9:List Bool) (b10:List Mode) (b11:List Int) (b12 b13:List Bool)
inductive UE where
 | c0 (p:Zw)
 | c1 (p:aa2) (b0:Int) (b2:Int)
noncomputable def abh:UE→eD
 | .c0 p=>⟨[⟨82,66,(en [(1,.ptr 0 0),(3,vi p.a0),(4,vi p.a1)]),[.inLoop (cw Tryz.f82 [1,1,0,1,0,0]),.inBlock 0,.code (cw Tryz.f82 [1,1,1])],[],none⟩],[.flat false [vi p.a2,vi p.a3,vi p.a4,vi p.a5,vi p.a6,vi p.a7,.sl .bool p.a8,.sl bW p.a9],.dead]⟩
 | .c1 p b0 b2=>⟨[⟨82,66,(en [(1,.ptr 0 0),(3,vi b0),(4,vi p.b1),(5,.ptr 1 0),(6,vi b2)]),[.inLoop (cw Tryz.f82 [1,1,0,1,0,0,1,0,0,1,1,0,0]),.inBlock 2,.inBlock 1,.code (cw Tryz.f82 [1,1,0,1,0,0,1,1]),.inLoop (cw Tryz.f82 [1,1,0,1,0,0]),.inBlock 0,.code (cw Tryz.f82 [1,1,1])],[],none⟩],[.flat false [vi p.b3,vi p.b4,vi p.b5,vi p.b6,vi p.b7,vi p.b8,.sl .bool p.b9,.sl bW p.b10],.flat false [.sl yI p.b11,.sl .bool p.b12,.sl .bool p.b13],.dead]⟩
def Yw(A:aI)(mNodes:Int)(mSlot:Int)(mGap:Int)(mWindow:Int)(mDrift:Int)(mDelay:Int)(mCold:List Bool)(mModes:List Mode):LT Int UE:=.need (A.k (@tt (Int×Int)) (1,0)) (.need (A.k (@tt Int) (A.k Fh (1,0))) (.more (.c0 ⟨(A.k JA (A.k Fh (1,0))),0,mNodes,mSlot,mGap,mWindow,mDrift,mDelay,mCold,mModes⟩)))
def DY(A:aI):UE→LT Int UE
 | .c0 p=>.br (A.c .lss p.a1 (A.l p.a9)) (.need (A.and (A.c .leq 0 p.a1) (A.c .lss p.a1 (A.l p.a9))) (.more (.c1 ⟨p.a1,p.a2,p.a3,p.a4,p.a5,p.a6,p.a7,p.a8,p.a9,(A.n bW p.a9 p.a1:Mode).1,(A.n bW p.a9 p.a1:Mode).2.1,(A.n bW p.a9 p.a1:Mode).2.2⟩ p.a0 0))) (.ret p.a0)
 | .c1 p b0 b2=>.br (A.c .lss b2 (A.l p.b11)) (.br (A.c .lss b2 (A.l p.b12)) (.br (A.c .lss b2 p.b3) (.need (A.and (A.c .leq 0 b2) (A.c .lss b2 (A.l p.b12))) (.need (A.and (A.c .leq 0 b2) (A.c .lss b2 (A.l p.b11))) (.need (A.k (@tt (Bool×Int)) ((A.n .bool p.b12 b2:Bool),(A.n yI p.b11 b2:Int))) (.need (A.and (A.c .leq 0 b2) (A.c .lss b2 (A.l p.b11))) (.need (A.k (@tt (Int×Int)) ((A.k CM ((A.n .bool p.b12 b2:Bool),(A.n yI p.b11 b2:Int))),(A.n yI p.b11 b2:Int))) (.br (A.c .gtr (A.k Fh ((A.k CM ((A.n .bool p.b12 b2:Bool),(A.n yI p.b11 b2:Int))),(A.n yI p.b11 b2:Int))) 0) (.need (A.k (@tt Int) (A.k Fh ((A.k CM ((A.n .bool p.b12 b2:Bool),(A.n yI p.b11 b2:Int))),(A.n yI p.b11 b2:Int)))) (.more (.c1 p (A.mx b0 (A.k JA (A.k Fh ((A.k CM ((A.n .bool p.b12 b2:Bool),(A.n yI p.b11 b2:Int))),(A.n yI p.b11 b2:Int))))) (A.b .add .i64 b2 1)))) (.more (.c1 p b0 (A.b .add .i64 b2 1))))))))) (.more (.c0 ⟨b0,(A.b .add .i64 p.b1 1),p.b3,p.b4,p.b5,p.b6,p.b7,p.b8,p.b9,p.b10⟩))) (.more (.c0 ⟨b0,(A.b .add .i64 p.b1 1),p.b3,p.b4,p.b5,p.b6,p.b7,p.b8,p.b9,p.b10⟩))) (.more (.c0 ⟨b0,(A.b .add .i64 p.b1 1),p.b3,p.b4,p.b5,p.b6,p.b7,p.b8,p.b9,p.b10⟩))
theorem NK:CM=mm:=rfl
theorem Fu:JA=sH:=rfl
theorem JK:Fh=qi:=funext fun⟨k,d⟩=>by rw[Ha.1,Ha.2]
theorem agz{n s g w d de:Int}{aW expl next:List Bool}{modes:List Mode}{data:List Int}{k k1:Int}{F:Int→Int}(hl:data.length≤140737488355328)(hk:ah.b .add .i64 k 1=k1)(hnext:∀b,au (DY ah) (.more (.c0 ⟨b,k1,n,s,g,w,d,de,aW,modes⟩)) (F b)) :
  ∀(j i:Nat) (b:Int),data.length-i=j→i≤data.length→au (DY ah) (.more (.c1 ⟨k,n,s,g,w,d,de,aW,modes,data,expl,next⟩ b (i:Int))) (F ((((data.zip expl).take n.toNat).drop i).foldl zH b)):=by
 intro j
 induction j with
 | zero=>
   intro i b hj hi
   have:i=data.length:=by omega
   subst this
   rw[ak,DY]
   refine(ai (by rw[bF,aC];simp)).2 ?_
   rw[vY (.inr (.inr (Nat.le_refl _))),hk]
   exact hnext b
 | succ j ih=>
   intro i b hj hi
   have hi':i<data.length:=by omega
   rw[ak,DY]
   refine(aj (by rw[bF,aC];simp;omega)).2 ?_
   have hm:=fun b=>ih (i+1) b (by omega) (by omega)
   by_cases h2:i<expl.length
   ·refine(aj (by rw[bF,aC];simpa using h2)).2 ?_
    by_cases h3:(i:Int)<n
    ·refine(aj (by rw[J5];simpa using h3)).2 (af.2 ⟨aO (show i<expl.length from h2),af.2 ⟨aO hi',af.2 ⟨rfl,af.2 ⟨aO hi',af.2 ⟨rfl,?_⟩⟩⟩⟩⟩)
     rw[NS hi' h2 h3,List.foldl_cons,OX,←Td hi',←vE h2,bU (i:=i) (by omega),NK,JK,Fu]
     cases hb:ah.c .gtr (ah.k qi ((ah.k mm ((ah.n .bool expl (i:Int):Bool),(ah.n (.int .i64) data (i:Int):Int))),(ah.n (.int .i64) data (i:Int):Int))) 0
     ·exact(ai rfl).2 (hm _)
     ·exact(aj rfl).2 (af.2 ⟨rfl,hm _⟩)
    ·refine(ai (by rw[J5];simpa using h3)).2 ?_
     rw[vY (.inr (.inl (by omega))),hk];exact hnext b
   ·refine(ai (by rw[bF,aC];simpa using h2)).2 ?_
    rw[vY (.inl (by omega)),hk];exact hnext b
theorem afZ{n s g w d de:Int}{aW:List Bool}{modes:List Mode}(hl:modes.length≤140737488355328)(hd:∀x∈modes,x.1.length≤140737488355328) :
  ∀(j k:Nat) (b:Int),modes.length-k=j→k≤modes.length→au (DY ah) (.more (.c0 ⟨b,(k:Int),n,s,g,w,d,de,aW,modes⟩)) ((modes.drop k).foldl (vy n.toNat) b):=by
 intro j
 induction j with
 | zero=>
   intro k b hj hk
   have:k=modes.length:=by omega
   subst this
   rw[ak,DY]
   refine(ai (by rw[bF,aC];simp)).2 ?_
   rw[List.drop_length]
   exact .ret _
 | succ j ih=>
   intro k b hj hk
   have hk':k<modes.length:=by omega
   rw[ak,DY]
   refine(aj (by rw[bF,aC];simp;omega)).2 (af.2 ⟨aO hk',?_⟩)
   rw[show(ah.n bW modes (k:Int):Mode)=modes[k] from getD_in hk' _,pV hk',List.foldl_cons]
   exact agz (F:=fun b=>(modes.drop (k+1)).foldl (vy n.toNat) b) (hd _ (List.getElem_mem hk')) (bU (by omega)) (fun b=>ih (k+1) b (by omega) (by omega)) modes[k].1.length 0 b rfl (by omega)
theorem ahz{n s g w d de:Int}{aW:List Bool}{modes:List Mode}(h:Ty.has aR (n,s,g,w,d,de,aW,modes)):au (DY ah) (Yw ah n s g w d de aW modes) (gF (n,s,g,w,d,de,aW,modes)):=by
 unfold Yw
 rw[JK,Fu]
 exact af.2 ⟨rfl,af.2 ⟨rfl,afZ (mV h).2.2.1 (fun x hx=>((mV h).2.2.2 x hx).1) modes.length 0 _ rfl (by omega)⟩⟩
def Dc:al→Int:=gF
def ahk:ax:=⟨[aR], [yI],(@tt al),Dc⟩
theorem W_:Sd 82 ahk:=aP ap bR true 24 [⟨82,3, [[1,3,4]]⟩,⟨82,7, [[1,3,4,5,6]]⟩] [] (fun A (mNodes,mSlot,mGap,mWindow,mDrift,mDelay,mCold,mModes)=>Yw A mNodes mSlot mGap mWindow mDrift mDelay mCold mModes) DY abh (fc Tryz.func82 fz) (sc ai2 (sc aeE (sc adJ sz))) (fun A y=>match y with |.c0 p=>⟨35,by kernel_rfl,by kernel_rfl⟩|.c1 p b0 b2=>⟨72,by kernel_rfl,by kernel_rfl⟩) fun(mNodes,mSlot,mGap,mWindow,mDrift,mDelay,mCold,mModes) hp h=>ahz h
structure abL where
 (a1 a2 a3 a4 a5 a6:Int) (a7:List Bool) (a8:List Mode)
inductive U8 where
 | c0 (p:abL) (a0:Int)
noncomputable def Yz:U8→eD
 | .c0 p a0=>⟨[⟨69,120,(en [(1,.ptr 0 0),(3,vi a0)]),[.inLoop (cw Tryz.f69 [1,1,0,1,0,0]),.inBlock 0,.code (cw Tryz.f69 [1,1,1])],[],none⟩],[.flat false [vi p.a1,vi p.a2,vi p.a3,vi p.a4,vi p.a5,vi p.a6,.sl .bool p.a7,.sl bW p.a8],.dead]⟩
def aaA(A:aI)(mNodes:Int)(mSlot:Int)(mGap:Int)(mWindow:Int)(mDrift:Int)(mDelay:Int)(mCold:List Bool)(mModes:List Mode):LT Int U8:=.br (A.c .lss mNodes 4) (.ret 70) (.br (A.c .gtr mNodes 8) (.ret 70) (.br (A.c .lss (A.l mModes) 1) (.ret 70) (.br (A.c .gtr (A.l mModes) 4) (.ret 70) (.br (A.c .neq (A.l mCold) mNodes) (.ret 70) (.need (A.k (@tt (List Bool)) mCold) (.br (A.c .lss (A.k FI mCold) 2) (.ret 70) (.more (.c0 ⟨mNodes,mSlot,mGap,mWindow,mDrift,mDelay,mCold,mModes⟩ 0))))))))
def MF(A:aI):U8→LT Int U8
 | .c0 p a0=>.br (A.c .lss a0 (A.l p.a8)) (.need (A.and (A.c .leq 0 a0) (A.c .lss a0 (A.l p.a8))) (.need (A.k Hr ((A.n bW p.a8 a0:Mode),p.a1,p.a2,p.a3,p.a4,p.a5,p.a6,p.a7,p.a8)) (.br (A.not (A.k Kd ((A.n bW p.a8 a0:Mode),p.a1,p.a2,p.a3,p.a4,p.a5,p.a6,p.a7,p.a8))) (.ret 70) (.more (.c0 p (A.b .add .i64 a0 1)))))) (.br (A.c .lss p.a5 0) (.ret 70) (.br (A.c .gtr p.a5 64) (.ret 70) (.br (A.c .lss p.a6 0) (.ret 70) (.br (A.c .gtr p.a6 64) (.ret 70) (.br (A.c .lss p.a4 (A.b .add .i64 (A.b .mul .i64 (A.b .mul .i64 16 p.a1) p.a5) 16)) (.ret 70) (.br (A.c .gtr p.a4 1048576) (.ret 70) (.br (A.c .lss p.a3 (A.b .add .i64 (A.b .add .i64 (A.b .mul .i64 2 p.a4) (A.b .mul .i64 2 p.a6)) 4)) (.ret 70) (.br (A.c .gtr p.a3 1048576) (.ret 70) (.need (A.k (@tt al) (p.a1,p.a2,p.a3,p.a4,p.a5,p.a6,p.a7,p.a8)) (.br (A.c .lss p.a2 (A.b .add .i64 (A.b .mul .i64 2 p.a3) (A.k Dc (p.a1,p.a2,p.a3,p.a4,p.a5,p.a6,p.a7,p.a8)))) (.ret 70) (.br (A.c .gtr p.a2 16777216) (.ret 70) (.ret 0))))))))))))
theorem T_{n s g w d de:Int}{aW:List Bool}{modes:List Mode}{R:Int}(hn:4≤n∧n≤8)(hR:R=bif lG n s g w d de (gF (n,s,g,w,d,de,aW,modes)) then 0 else 70) :
  au (MF ah) (.br (ah.c .lss d 0) (.ret 70) (.br (ah.c .gtr d 64) (.ret 70) (.br (ah.c .lss de 0) (.ret 70) (.br (ah.c .gtr de 64) (.ret 70) (.br (ah.c .lss w (ah.b .add .i64 (ah.b .mul .i64 (ah.b .mul .i64 16 n) d) 16)) (.ret 70) (.br (ah.c .gtr w 1048576) (.ret 70) (.br (ah.c .lss g (ah.b .add .i64 (ah.b .add .i64 (ah.b .mul .i64 2 w) (ah.b .mul .i64 2 de)) 4)) (.ret 70) (.br (ah.c .gtr g 1048576) (.ret 70) (.need (ah.k (@tt al) (n,s,g,w,d,de,aW,modes)) (.br (ah.c .lss s (ah.b .add .i64 (ah.b .mul .i64 2 g) (ah.k Dc (n,s,g,w,d,de,aW,modes)))) (.ret 70) (.br (ah.c .gtr s 16777216) (.ret 70) (.ret 0)))))))))))) R:=by
 have hm:=wA (m:=(n,s,g,w,d,de,aW,modes))
 have no:∀{p:Prop} [Decidable p],¬p→decide p=false:=fun h=>by simpa using h
 rw[hR]
 refine aB (p:=d<0) rfl (fun h=>ay ?_ (.ret _)) fun h1=>aB (p:=64<d) rfl (fun h=>ay ?_ (.ret _)) fun h2=>aB (p:=de<0) rfl (fun h=>ay ?_ (.ret _)) fun h3=>aB (p:=64<de) rfl (fun h=>ay ?_ (.ret _)) fun h4=>?_
 ·rw[lG,no (by omega)];rfl
 ·rw[lG,no (by omega)];rfl
 ·rw[lG,no (by omega)];rfl
 ·rw[lG,no (by omega)];rfl
 have:=rR (n:=n) (d:=d) hn (by omega)
 rw[SB hn (by omega)]
 refine aB (p:=w<16*n*d+16) rfl (fun h=>ay ?_ (.ret _)) fun h5=>aB (p:=1048576<w) rfl (fun h=>ay ?_ (.ret _)) fun h6=>?_
 ·rw[lG,no (by omega)];rfl
 ·rw[lG,no (by omega)];rfl
 rw[R3 (by omega) (by omega)]
 refine aB (p:=g<2*w+2*de+4) rfl (fun h=>ay ?_ (.ret _)) fun h7=>aB (p:=1048576<g) rfl (fun h=>ay ?_ (.ret _)) fun h8=>af.2 ⟨rfl,?_⟩
 ·rw[lG,no (by omega)];rfl
 ·rw[lG,no (by omega)];rfl
 rw[show ah.k Dc (n,s,g,w,d,de,aW,modes)=gF (n,s,g,w,d,de,aW,modes) from rfl,Kn (by omega) hm]
 refine aB (p:=s<2*g+gF (n,s,g,w,d,de,aW,modes)) rfl (fun h=>ay ?_ (.ret _)) fun h9=>aB (p:=16777216<s) rfl (fun h=>ay ?_ (.ret _)) fun h10=>ay ?_ (.ret _)
 ·rw[lG,no (by omega)];rfl
 ·rw[lG,no (by omega)];rfl
 ·rw[lG,aK (by omega)];rfl
theorem V5{n s g w d de:Int}{aW:List Bool}{modes:List Mode}(hl:modes.length≤140737488355328)(hc:(aW.length:Int)=n)(hn:4≤n∧n≤8):∀(j i:Nat),modes.length-i=j→i≤modes.length→
  au (MF ah) (.more (.c0 ⟨n,s,g,w,d,de,aW,modes⟩ (i:Int))) (bif (modes.drop i).all (jO (n,s,g,w,d,de,aW,modes))&&lG n s g w d de (gF (n,s,g,w,d,de,aW,modes)) then 0 else 70):=by
 intro j
 induction j with
 | zero=>
   intro i hj hi
   have:i=modes.length:=by omega
   subst this
   rw[ak,MF]
   refine(ai (by rw[bF,aC];simp)).2 (T_ hn ?_)
   rw[List.drop_length];rfl
 | succ j ih=>
   intro i hj hi
   have hi':i<modes.length:=by omega
   rw[ak,MF]
   refine(aj (by rw[bF,aC];simp;omega)).2 (af.2 ⟨aO hi',?_⟩)
   have e:(ah.n bW modes (i:Int):Mode)=modes[i]:=getD_in hi' _
   rw[e,pV hi',List.all_cons]
   refine af.2 ⟨by show((aW.length:Int)==n)=true;simpa using hc,?_⟩
   have hf:ah.k Kd (modes[i],n,s,g,w,d,de,aW,modes)=jO (n,s,g,w,d,de,aW,modes) modes[i]:=rfl
   rw[hf]
   cases jO (n,s,g,w,d,de,aW,modes) modes[i]
   ·exact(aj rfl).2 (.ret _)
   ·refine(ai rfl).2 ?_
    rw[bU (i:=i) (by omega),Bool.true_and]
    exact ih (i+1) (by omega) (by omega)
theorem SN{n s g w d de:Int}{aW:List Bool}{modes:List Mode}(h:Ty.has aR (n,s,g,w,d,de,aW,modes)):au (MF ah) (aaA ah n s g w d de aW modes) (lC (n,s,g,w,d,de,aW,modes)):=by
 unfold aaA lC du countB
 simp only[mH,bF]
 refine aB (p:=n<4) rfl (fun h=>ay ?_ (.ret _)) fun h1=>aB (p:=8<n) rfl (fun h=>ay ?_ (.ret _)) fun h2=>aB (p:=(modes.length:Int)<1) rfl (fun h=>ay ?_ (.ret _)) fun h3=>aB (p:=4<(modes.length:Int)) rfl (fun h=>ay ?_ (.ret _)) fun h4=>?_
 ·rw[aX (show ¬4≤n by omega)];rfl
 ·rw[aX (show ¬n≤8 by omega),Bool.and_false];rfl
 ·rw[aX (show ¬(1:Int)≤modes.length by omega),Bool.false_and,Bool.and_false];rfl
 ·rw[aX (show ¬(modes.length:Int)≤4 by omega),Bool.and_false,Bool.and_false];rfl
 rw[aK (show 4≤n by omega),aK (show n≤8 by omega),aK (show(1:Int)≤modes.length by omega),aK (show(modes.length:Int)≤4 by omega)]
 by_cases h5:(aW.length:Int)=n
 ·refine(ai (sI h5)).2 (af.2 ⟨rfl,?_⟩)
  rw[show ah.k FI aW=(aW.count true:Int) from rfl,beq_iff_eq.2 h5]
  refine aB (p:=(aW.count true:Int)<2) rfl (fun h=>ay ?_ (.ret _)) fun h6=>ay ?_ (V5 (mV h).2.2.1 h5 (by omega) modes.length 0 rfl (by omega))
  ·rw[aX (show ¬(2:Int)≤aW.count true by omega)];rfl
  ·rw[aK (show(2:Int)≤aW.count true by omega)];rfl
 ·refine(aj (sO h5)).2 (ay ?_ (.ret _))
  rw[beq_eq_false_iff_ne.2 h5];rfl
def xA:al→Int:=lC
def ae4:ax:=⟨[aR], [yI],(@tt al),xA⟩
theorem agO:Sd 69 ae4:=aP ap bR true 58 [⟨69,4, [[1,3]]⟩] [] (fun A (mNodes,mSlot,mGap,mWindow,mDrift,mDelay,mCold,mModes)=>aaA A mNodes mSlot mGap mWindow mDrift mDelay mCold mModes) MF Yz (fc Tryz.func69 fz) (sc W_ (sc adI (sc agq sz))) (fun A y=>match y with |.c0 p a0=>⟨100,by kernel_rfl,by kernel_rfl⟩) fun(mNodes,mSlot,mGap,mWindow,mDrift,mDelay,mCold,mModes) hp h=>SN h
def rhoC:Shelf.Ren:=⟨fun x=>match x with|4=>134|n=>n,fun x=>match x with|22=>30|4=>4|5=>5|n=>n,fun x=>x⟩
theorem W0:SlLaysK.n4 Tryz.prog rhoC:=
 {mixed:=by kernel_rfl,f4:=Tryz.func134.trans (congrArg some (by kernel_rfl)),t4:=Tryz.underlying4,a4:=Tryz.isAgg4,z4:=Tryz.sizeOf4,v4:=Tryz.zeroValue4,t22:=Tryz.underlying30,a22:=Tryz.isAgg30,z22:=Tryz.sizeOf30,v22:=Tryz.zeroValue30,t5:=Tryz.underlying5,i5:=by kernel_rfl}
def jG:List Int→List Int:=fun x=>x
def acg:ax:=⟨[.slice (.int .u8)], [.slice (.int .u8)],@tt (List Int),jG⟩
theorem Mu{w:World}{I:Nat→Prop}{x:List Int}{v:Value}(hv:aS w I (.slice (.int .u8)) [v] x):Calls Tryz.prog 134 #[v] w fun e w'=>∃v,e=.returned v∧w'.os=w.os∧w'.tape=w.tape∧w'.output=w.output∧w.heap.size≤w'.heap.size∧(∀b,b<w.heap.size→w'.heap[b]? = w.heap[b]?)∧
   ∃I',(∀b,I' b→I b∨(w.heap.size≤b∧b<w'.heap.size))∧aS w' I' (.slice (.int .u8)) [v] x:=by
 have hx:x.length≤dD∧∀y∈x,IntKind.u8.has y:=aS.has _ hv
 obtain⟨a,cap,e,h1,h2,h3,h4⟩:=bE.1 hv
 cases e
 cases a with
 | none=>
   have hx0:x=[]:=List.eq_nil_of_length_eq_zero (by have h3':cap=0:=h3 rfl;have h1':x.length≤cap:=h1;omega)
   subst hx0
   refine(Any.bytes_Clone_nil W0 0 cap w).mono ?_
   rintro e w' ⟨rfl,rfl⟩
   exact⟨_,rfl,rfl,rfl,rfl,Nat.le_refl _,fun _ _=>rfl,I,fun b h=>.inl h,bE.2 ⟨none,0,rfl,Nat.le_refl _,Nat.zero_le _,(fun _=>rfl),fun i y h=>by cases h⟩⟩
 | some a=>
   refine(Any.bytes_Clone_at W0 a x.length cap x w rfl h2 fun i hi=>?_).mono ?_
   ·obtain⟨b,off,us,ea,_,hl,hr,hc⟩:=h4 i x[i] (uX hi)
    cases ea
    have hus:=(nz.1 hc).1
    subst hus
    have:=hr 0 _ rfl
    rw[Addr.add_lit,nE,uX hi]
    simpa [Ty.size] using this
   ·rintro e w' ⟨v',rfl,⟨hn,hrow⟩,hnil,hb⟩
    rcases hrow with ⟨hz,_⟩|⟨g,cap',cur,rfl,hbase,hg,hcap,hml,hsz,htk⟩
    ·exact absurd hz hnil
    refine⟨_,rfl,hb.os,hb.tape,hb.output,hb.size,hb.block,fun b=>w.heap.size≤b∧b<w'.heap.size,fun b h=>.inr h,bE.2 ⟨_,cap',rfl,hcap,h2,(fun h=>by cases h),fun i y hy=>?_⟩⟩
    have hy:x[i]? = some y:=hy
    have hi:i<x.length:=(List.getElem?_eq_some_iff.1 hy).1
    refine⟨g,0, [.int .u8 y],rfl,⟨hbase,(Array.getElem?_eq_some_iff.1 hg).1⟩,rfl,?_,nz.2 ⟨rfl,hx.2 y (List.mem_of_getElem? hy)⟩⟩
    have hrw:=dQ (w:=w') hg i 1
    have:(cur.toList.drop i).take 1=[Value.int .u8 y]:=by
     have h5:(cur.toList.take (x.length*1))[i]? = some (Value.int .u8 y):=by
      rw[htk,List.getElem?_map,hy];rfl
     rw[List.getElem?_take_of_lt (by omega)] at h5
     obtain⟨h6,h7⟩:=List.getElem?_eq_some_iff.1 h5
     rw[pV h6,h7];rfl
    rw[this] at hrw
    simpa [Ty.size] using hrw
theorem Cz:ax.Sound Tryz.prog 134 acg:=by
 refine⟨fun w I x aa hI hrep _=>?_,⟨Tryz.f134,Tryz.func134,by kernel_rfl,by kernel_rfl⟩⟩
 obtain⟨l⟩:=aa
 obtain⟨v,rfl,hv⟩:∃v,l=[v]∧gJ w I (.slice (.int .u8)) v x:=by
  have h:=hrep
  exact h
 exact Mu hv
theorem wrap_i64(n:Int):IntKind.i64.wrap n=if n%18446744073709551616 ≥ 9223372036854775808 then n%18446744073709551616-18446744073709551616 else n%18446744073709551616:=by
 simp[IntKind.wrap,IntKind.signed,IntKind.bits]
theorem aax{n s g w d de:Int}{aW:List Bool}{modes:List Mode}(h:du (n,s,g,w,d,de,aW,modes)=true):(4≤n∧n≤8)∧((1:Int)≤modes.length∧(modes.length:Int)≤4)∧(aW.length:Int)=n∧modes.all (jO (n,s,g,w,d,de,aW,modes))=true∧(0≤d∧d≤64∧0≤de∧de≤64∧16≤w∧w≤1048576∧36≤g∧g≤1048576∧72≤s∧s≤16777216):=by
 simp only[du,countB,mH,lG,cd,jV,beq_iff_eq] at h
 obtain⟨⟨⟨⟨⟨h1,h2⟩,h3⟩,_⟩,h4⟩,h5⟩:=h
 have:=rR h1 (d:=d) (by omega)
 have hm:=wA (m:=(n,s,g,w,d,de,aW,modes))
 exact⟨h1,h2,h3,h4,by omega⟩
theorem Tf{b:Int×List Int}(h:(nR b).2=true):rU (nR b).1=true:=by
 rw[nR] at h ⊢
 cases hp:((ot (b,zS)).2 != 0||(ot (b,zS)).1.1==2)
 ·rw[Bool.or_eq_false_iff] at hp
  have h0:(ot (b,zS)).2=0:=by simpa using hp.1
  rw[cond_false]
  exact VJ h0
 ·rw[hp] at h;cases h
theorem Sz{f:mr}(h:rU f=true):0≤f.2.2.2.1∧f.2.2.2.1≤7∧0≤f.2.2.1.2.1∧f.2.2.1.2.1≤7:=by
 obtain⟨k,r,⟨t,p,m,n,s⟩,fr,d⟩:=f
 simp only[rU,cd] at h
 have hs:=N6.1 h.1.1.1
 have h2:=h.2
 cases hk:k==1
 ·rw[hk,cond_false] at h2
  have:fr=0:=by
   cases hk3:k==3
   ·rw[hk3] at h2;simp at h2;exact h2.2
   ·rw[hk3] at h2;simp at h2;exact h2.2
  subst this
  exact⟨show(0:Int)≤0 by omega,show(0:Int)≤7 by omega,hs.2.1.1,hs.2.1.2⟩
 ·rw[hk,cond_true] at h2
  simp only[cd,jV] at h2
  exact⟨h2.1.2.1,h2.1.2.2,hs.2.1.1,hs.2.1.2⟩
end
end Go.Ev.M
