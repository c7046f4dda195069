/-
  PROVED: what functions of the program compute, part 1. Conditions: none.
-/
import Derived.Test.YtjceiokllpmnkaaGreatTy
import Derived.Test.YtjceiokllpmnkaaGreatPl
set_option linter.unusedVariables false
set_option linter.unusedSimpArgs false
namespace Go.Ev.M
open Go.Proofs
set_option maxRecDepth 100000
open Go.Ev.Pl
noncomputable section
theorem Sp{i:Int}(h:0≤i)(h2:i≤4611686018427387904):ah.b .quo .i64 i 8=((i.toNat/8:Nat):Int):=by
 rw[Jb,Int.tdiv_eq_ediv_of_nonneg h,gZ (by omega) (by omega)];omega
theorem L3{i:Int}(h:0≤i):ah.b .rem .i64 i 8=((i.toNat%8:Nat):Int):=by
 rw[Ux,Int.tmod_eq_emod_of_nonneg h];omega
theorem jS{n:Int}{b:List Int}(h:Ty.has (.struct [(.int .i64),(.slice (.int .u8))]) (n,b)):(-9223372036854775808≤n∧n≤9223372036854775807)∧b.length≤dB∧dz b:=by
 simp only[Ty.has,Ty.cq] at h
 exact⟨h.1,h.2.1,fun x hx=>h.2.2 x hx⟩
theorem fH{n:Int}{b:List Int}(h:Ty.has (.struct [(.int .i64),(.slice (.int .u8))]) (n,b)):b.length≤140737488355328:=(jS h).2.1
def U0(A:aK)(n:Int):LT Int Empty:=.ret (A.b .quo .i64 (A.b .add .i64 n 7) 8)
def eB:Int→Int:=fun n=>(U0 ah n).val (Ty.bl [yI])
def aeS:aC:=⟨[yI], [yI],(@tt Int),eB⟩
theorem Je:Sd 283 aeS:=aL ar bU true 17 [] (fun A n=>U0 A n) (fc Tryz.func283 fz) sz (fun(n:Int) hp h=>by
 show(U0 ah n).pre=true
 rfl)
def Ro(A:aK)(i:Int):LT Int Empty:=.need (A.c .leq 0 (A.b .rem .i64 i 8)) (.ret (A.b .shr .u8 128 (A.b .rem .i64 i 8)))
def wZ:Int→Int:=fun i=>(Ro ah i).val (Ty.bl [yU])
def oR:Int→Bool:=fun i=>decide (0≤i)
def aeH:aC:=⟨[yI], [yU],oR,wZ⟩
theorem Ja:Sd 343 aeH:=aL ar bU true 17 [] (fun A i=>Ro A i) (fc Tryz.func343 fz) sz (fun(i:Int) hp h=>by
 show(Ro ah i).pre=true
 simp only[Ro,LT.pre,cy,ax,aD,al,ap,aH,aN,aG,bE,dC,au,bd,bf,bG,bM,cm,Bool.and_eq_true,Bool.or_eq_true,Bool.and_eq_false_iff,Bool.or_eq_false_iff,Bool.not_eq_true',Bool.not_eq_false',decide_eq_true_eq,decide_eq_false_iff_not,bne_iff_ne,beq_iff_eq,bne_eq_false_iff_eq,beq_eq_false_iff_ne]
 simp only[oR,decide_eq_true_eq] at hp
 rw[L3 hp];exact⟨by omega,trivial⟩)
theorem oo{n:Int}(h:0≤n)(h2:n≤4611686018427387000):eB n=(((n.toNat+7)/8:Nat):Int):=by
 simp only[eB,U0,LT.val]
 rw[bd,gZ (by omega) (by omega),Sp (by omega) (by omega)]
 omega
theorem NT:∀k:Fin 8,ah.b .shr .u8 128 (k.val:Int)=((128 >>> k.val:Nat):Int):=by decide +kernel
theorem Fv{i:Int}(h:0≤i):wZ i=((128 >>> (i.toNat%8):Nat):Int):=by
 simp only[wZ,Ro,LT.val]
 rw[L3 h]
 exact NT ⟨i.toNat%8,Nat.mod_lt _ (by decide)⟩
theorem U6:∀c:Fin 256,∀k:Fin 8,(ah.b .and .u8 (c.val:Int) ((128 >>> k.val:Nat):Int) != 0)=c.val.testBit (7-k.val):=by decide +kernel
theorem Ia{l:List Int}(h:dz l)(i:Nat):0≤l.getD i 0∧l.getD i 0≤255:=by
 rw[List.getD_eq_getElem?_getD]
 by_cases hi:i<l.length
 ·rw[List.getElem?_eq_getElem hi];exact h _ (List.getElem_mem hi)
 ·rw[List.getElem?_eq_none (by omega)];decide
theorem UQ{l:List Int}(h:dz l)(i:Nat):(ah.b .and .u8 (l.getD (i/8) 0) ((128 >>> (i%8):Nat):Int) != 0)=fA l i:=by
 have h1:=Ia h (i/8)
 have h2:=U6 ⟨(l.getD (i/8) 0).toNat,by omega⟩ ⟨i%8,Nat.mod_lt _ (by decide)⟩
 simp only at h2
 rw[show(((l.getD (i/8) 0).toNat:Nat):Int)=l.getD (i/8) 0 from by omega] at h2
 exact h2
def Q0(A:aK)(bN:Int)(bB:List Int)(i:Int):LT Bool Empty:=.need (A.and (A.c .leq 0 (A.b .quo .i64 i 8)) (A.c .lss (A.b .quo .i64 i 8) (A.l bB))) (.need (A.k oR i) (.ret (A.c .neq (A.b .and .u8 (A.n yU bB (A.b .quo .i64 i 8):Int) (A.k wZ i)) 0)))
def uu:((Int×List Int)×Int)→Bool:=fun((bN,bB),i)=>(Q0 ah bN bB i).val (Ty.bl [.bool])
def pX:((Int×List Int)×Int)→Bool:=fun((n,b),i)=>decide (0≤i)&&decide (i<8*(b.length:Int))
def adZ:aC:=⟨[(.struct [yI,yB]),yI], [.bool],pX,uu⟩
theorem Qx:Sd 320 adZ:=aL ar bU true 25 [] (fun A ((bN,bB),i)=>Q0 A bN bB i) (fc Tryz.func320 fz) (sc Ja sz) (fun(((bN,bB),i):(Int×List Int)×Int) hp h=>by
 show(Q0 ah bN bB i).pre=true
 simp only[pX,Bool.and_eq_true,decide_eq_true_eq] at hp
 have hl:=fH h.1
 simp only[Q0,LT.pre,au,aG,ap,al,oR,Bool.and_eq_true,decide_eq_true_eq,bM]
 rw[Sp hp.1 (by omega)]
 refine⟨⟨by omega,by omega⟩,hp.1,trivial⟩)
theorem xW{n:Int}{b:List Int}{i:Int}(hb:dz b)(h0:0≤i)(h1:i<8*(b.length:Int))(hl:b.length≤140737488355328):uu ((n,b),i)=fA b i.toNat:=by
 simp only[uu,Q0,LT.val,au,aD]
 rw[Sp h0 (by omega),Fv h0]
 exact UQ hb i.toNat
def t99(A:aK)(bN:Int)(bB:List Int):LT Int Empty:=.br (A.c .lss bN 0) (.ret 10) (.br (A.c .gtr bN 4096) (.ret 10) (.need (A.k (@tt Int) bN) (.br (A.c .neq (A.l bB) (A.k eB bN)) (.ret 10) (.br (A.c .neq (A.b .rem .i64 bN 8) 0) (.need (A.and (A.c .leq 0 (A.b .sub .i64 (A.l bB) 1)) (A.c .lss (A.b .sub .i64 (A.l bB) 1) (A.l bB))) (.need (A.c .leq 0 (A.b .rem .i64 bN 8)) (.br (A.c .neq (A.b .and .u8 (A.n yU bB (A.b .sub .i64 (A.l bB) 1):Int) (A.b .shr .u8 255 (A.b .rem .i64 bN 8))) 0) (.ret 10) (.ret 0)))) (.ret 0)))))
def lq:((Int×List Int))→Int:=fun(bN,bB)=>(t99 ah bN bB).val (Ty.bl [yI])
def aib:aC:=⟨[(.struct [yI,yB])], [yI],(@tt ((Int×List Int))),lq⟩
theorem F2:Sd 236 aib:=aL ar bU true 67 [] (fun A (bN,bB)=>t99 A bN bB) (fc Tryz.func236 fz) (sc Je sz) (fun((bN,bB):(Int×List Int)) hp h=>by
 show(t99 ah bN bB).pre=true
 have hl:=fH h
 simp only[t99,LT.pre,au,aD,al,aH,ap,aG,cm,Bool.true_and,bM,cy,decide_eq_true_eq,decide_eq_false_iff_not,Bool.and_eq_true,bne_iff_ne,bne_eq_false_iff_eq,ne_eq,implies_true,and_true,true_and]
 intro h0 h1 h2 h3
 rw[oo (by omega) (by omega)] at h2
 rw[L3 (by omega)] at h3
 rw[bf,gZ (by omega) (by omega),L3 (by omega)]
 omega)
theorem OW:∀c:Fin 256,∀r:Fin 8,(ah.b .and .u8 (c.val:Int) (ah.b .shr .u8 255 (r.val:Int)) != 0)=!((List.range 8).all fun k=>decide (k<r.val) || !c.val.testBit (7-k)):=by decide +kernel
theorem LJ{n:Int}{b:List Int}(hb:dz b)(hl:b.length≤140737488355328):lq (n,b)=0↔0≤n∧n≤4096∧okB n.toNat b:=by
 simp only[lq,t99,LT.val,au,aD,al,aH]
 by_cases h0:n<0
 ·simp only[h0,decide_true,cond_true]
  constructor
  ·intro h;cases h
  ·intro h;omega
 ·simp only[h0,decide_false,cond_false]
  by_cases h1:4096<n
  ·simp only[h1,decide_true,cond_true]
   constructor
   ·intro h;cases h
   ·intro h;omega
  ·simp only[h1,decide_false,cond_false]
   rw[oo (by omega) (by omega)]
   have hlen:ah.l b=(b.length:Int):=rfl
   rw[hlen]
   by_cases h2:b.length=(n.toNat+7)/8
   ·rw[show((b.length:Int) != (((n.toNat+7)/8:Nat):Int))=false from by rw[h2];exact bne_self_eq_false _,cond_false,L3 (by omega)]
    by_cases h3:n.toNat%8=0
    ·rw[h3]
     simp only[Int.natCast_zero,bne_self_eq_false,cond_false,true_iff]
     exact⟨by omega,by omega,h2,hb,fun i h4 h5=>by omega⟩
    ·rw[show(((n.toNat%8:Nat):Int) != 0)=true from by simp;omega,cond_true]
     have e:(ah.n (.int .u8) b (ah.b .sub .i64 (b.length:Int) 1):Int)=b.getD (n.toNat/8) 0:=by
      show b.getD (ah.b .sub .i64 (b.length:Int) 1).toNat 0=_
      rw[bf,gZ (by omega) (by omega)]
      congr 1
      omega
     have hx:=Ia hb (n.toNat/8)
     have key:=OW ⟨(b.getD (n.toNat/8) 0).toNat,by omega⟩ ⟨n.toNat%8,Nat.mod_lt _ (by decide)⟩
     simp only at key
     rw[show(((b.getD (n.toNat/8) 0).toNat:Nat):Int)=b.getD (n.toNat/8) 0 from by omega] at key
     have e2:(ah.b .and .u8 (ah.n (.int .u8) b (ah.b .sub .i64 (b.length:Int) 1):Int) (ah.b .shr .u8 255 ((n.toNat%8:Nat):Int)) != 0)=!((List.range 8).all fun k=>decide (k<n.toNat%8) || !(b.getD (n.toNat/8) 0).toNat.testBit (7-k)):=by
      rw[←key]
      exact congrArg (fun z:Int=>(ah.b .and .u8 z (ah.b .shr .u8 255 ((n.toNat%8:Nat):Int)) != 0)) e
     refine Iff.trans (b:=((List.range 8).all fun k=>decide (k<n.toNat%8) || !(b.getD (n.toNat/8) 0).toNat.testBit (7-k))=true) ?_ ?_
     ·refine Iff.trans (b:=(bif !((List.range 8).all fun k=>decide (k<n.toNat%8) || !(b.getD (n.toNat/8) 0).toNat.testBit (7-k)) then(10:Int) else 0)=0) (by rw[←e2]) ?_
      cases (List.range 8).all fun k=>decide (k<n.toNat%8) || !(b.getD (n.toNat/8) 0).toNat.testBit (7-k)<;>simp
     ·rw[List.all_eq_true]
      constructor
      ·intro h
       refine⟨by omega,by omega,h2,hb,fun i h4 h5=>?_⟩
       have:=h (i%8) (List.mem_range.2 (Nat.mod_lt _ (by decide)))
       have hi:i/8=n.toNat/8:=by omega
       rw[fA,hi]
       simp only[Bool.or_eq_true,decide_eq_true_eq,Bool.not_eq_true'] at this
       rcases this with h6|h6
       ·omega
       ·exact h6
      ·intro ⟨_,_,_,_,h⟩ k hk
       have hk:=List.mem_range.1 hk
       by_cases h6:k<n.toNat%8
       ·simp[h6]
       ·have:=h (8*(n.toNat/8)+k) (by omega) (by omega)
        rw[fA,show(8*(n.toNat/8)+k)/8=n.toNat/8 from by omega,show(8*(n.toNat/8)+k)%8=k from by omega] at this
        rw[this];simp
   ·rw[show((b.length:Int) != (((n.toNat+7)/8:Nat):Int))=true from bne_iff_ne.2 (by omega),cond_true]
    constructor
    ·intro h;cases h
    ·intro h;exact absurd h.2.2.1 h2
theorem H_{x:Int×List Int}:lq x=0∨lq x=10:=by
 obtain⟨n,b⟩:=x
 exact LT.kR (p:=fun y=>y=0∨y=10) (.inl rfl) (by simp[t99,LT.all])
theorem nG{n:Int}{b:List Int}(hb:dz b)(hl:b.length≤140737488355328):lq (n,b)=bif dS (n,b) then 0 else 10:=by
 have h1:=LJ (n:=n) hb hl
 rw[←lg hb] at h1
 rcases H_ (x:=(n,b)) with h2|h2
 ·rw[h2,h1.1 h2];rfl
 ·have:dS (n,b)=false:=by
   rw[←Bool.not_eq_true]
   intro h3
   rw[h1.2 h3] at h2
   cases h2
  rw[h2,this];rfl
theorem cu{i:Nat}(h:i<4611686018427387904):ah.b .add .i64 (i:Int) 1=((i+1:Nat):Int):=by
 rw[bd,gZ (by omega) (by omega)];rfl
theorem eH{i j:Nat}(h:i+j<4611686018427387904):ah.b .add .i64 (i:Int) (j:Int)=((i+j:Nat):Int):=by
 rw[bd,gZ (by omega) (by omega)];rfl
theorem aI{i j:Nat}:ah.c .lss (i:Int) (j:Int)=decide (i<j):=by
 rw[al];exact decide_eq_decide.2 Int.ofNat_lt
theorem nc{i j:Nat}:ah.c .leq (i:Int) (j:Int)=decide (i≤j):=by
 rw[ap];exact decide_eq_decide.2 Int.ofNat_le
theorem ng{i:Nat}:ah.c .leq 0 (i:Int)=true:=by rw[ap];simp
theorem oM{i:Nat}(h:i≤4611686018427387904):ah.b .quo .i64 (i:Int) 8=((i/8:Nat):Int):=by
 rw[Sp (by omega) (by omega)];rfl
theorem xV{i:Nat}:ah.b .rem .i64 (i:Int) 8=((i%8:Nat):Int):=by
 rw[L3 (by omega)];rfl
theorem wy{u v:Int}(h:u=v):ah.c .eql u v=true:=by rw[ax,h];exact beq_self_eq_true _
theorem J7{u v:Int}(h:u≠v):ah.c .eql u v=false:=by rw[ax];exact beq_eq_false_iff_ne.2 h
theorem jG{u v:Int}(h:u=v):ah.c .neq u v=false:=by rw[aD,h];exact bne_self_eq_false _
theorem oi{u v:Int}(h:u≠v):ah.c .neq u v=true:=by rw[aD];exact bne_iff_ne.2 h
theorem dJ{R Y:Type}{step:Y→LT R Y}{t t':LT R Y}{r:R}(h:t=t')(h2:aB step t' r):aB step t r:=h▸h2
theorem R8:∀c:Fin 256,∀k:Fin 8,ah.b .or .u8 (c.val:Int) ((128 >>> k.val:Nat):Int)=((c.val ||| 128 >>> k.val:Nat):Int):=by decide +kernel
theorem zR{B:List Int}{l:List Bool}{m i:Nat}(h:Holds B l m)(hi:l.length=i)(h1:i<8*m)(hm:m≤100000) :
  Holds (ah.set B (ah.b .quo .i64 (i:Int) 8) (ah.b .or .u8 (ah.n (.int .u8) B (ah.b .quo .i64 (i:Int) 8):Int) (ah.k wZ (i:Int)))) (l ++ [true]) m:=by
 rw[oM (by omega),au,Fv (by omega),Int.toNat_natCast]
 have key:=R8 ⟨(B.getD (i/8) 0).toNat,zu h.2.1 _⟩ ⟨i%8,Nat.mod_lt _ (by decide)⟩
 simp only at key
 rw[show(((B.getD (i/8) 0).toNat:Nat):Int)=B.getD (i/8) 0 from Int.toNat_of_nonneg (Ia h.2.1 _).1] at key
 have:=h.set (by omega)
 rw[hi] at this
 rw[←key] at this
 exact this
theorem vZ{l:List Bool}{i:Nat}(h:i<l.length):l.take (i+1)=l.take i ++ [l.getD i false]:=by
 rw[List.take_succ_eq_append_getElem h,List.getD_eq_getElem?_getD,List.getElem?_eq_getElem h];rfl
theorem Ny{a:Int}{n:Nat}(h:0≤a)(hn:n≤64):ah.b .shr .u64 a (n:Int)=((a.toNat/2^n:Nat):Int):=by
 show a.fdiv (2^min (n:Int).toNat 64)=_
 obtain⟨m,rfl⟩:=Int.eq_ofNat_of_zero_le h
 rw[Int.toNat_natCast,Nat.min_eq_left hn,Int.fdiv_eq_ediv_of_nonneg _ (Int.pow_nonneg (by decide))]
 simp
theorem Vp{a:Int}{n:Nat}(h:0≤a)(hn:n≤32):ah.b .shr .u32 a (n:Int)=((a.toNat/2^n:Nat):Int):=by
 show a.fdiv (2^min (n:Int).toNat 32)=_
 obtain⟨m,rfl⟩:=Int.eq_ofNat_of_zero_le h
 rw[Int.toNat_natCast,Nat.min_eq_left hn,Int.fdiv_eq_ediv_of_nonneg _ (Int.pow_nonneg (by decide))]
 simp
theorem qH{n:Nat}(h:n<4611686018427387904):ah.v .u64 (n:Int)=(n:Int):=by rw[bG,Q7 (by omega) (by omega)]
theorem Of{m:Nat}:ah.c .eql (ah.b .and .u64 (m:Int) 1) 1=decide (m%2=1):=by
 show(IntKind.u64.wrap ((BitVec.ofInt 64 (m:Int) &&& BitVec.ofInt 64 1).toNat:Int)==1)=_
 rw[BitVec.ofInt_natCast,show BitVec.ofInt 64 1=BitVec.ofNat 64 1 from rfl,BitVec.toNat_and,BitVec.toNat_ofNat,BitVec.toNat_ofNat,show 1%2^64=1 from rfl,Nat.and_one_is_mod,Q7 (by omega) (by omega),Bool.eq_iff_iff]
 simp only[beq_iff_eq,decide_eq_true_eq]
 omega
theorem NR{v:Int}{k:Nat}(h:0≤v)(hk:k≤64):ah.c .eql (ah.b .and .u64 (ah.b .shr .u64 v (k:Int)) 1) 1=v.toNat.testBit k:=by
 rw[Ny h hk,Of,Nat.testBit_eq_decide_div_mod_eq]
theorem nA{i j:Nat}(h:j≤i)(hi:i<4611686018427387904):ah.b .sub .i64 (i:Int) (j:Int)=((i-j:Nat):Int):=by
 rw[bf,gZ (by omega) (by omega)];omega
theorem Dp{v:Int}{w:Nat}(h:0≤v):decide ((2:Int)^w≤v)=(((v.toNat/2^w:Nat):Int) != 0):=by
 obtain⟨m,rfl⟩:=Int.eq_ofNat_of_zero_le h
 rw[Int.toNat_natCast,Bool.eq_iff_iff]
 have h2:(2:Int)^w=((2^w:Nat):Int):=by simp
 rw[h2,decide_eq_true_eq,bne_iff_ne]
 have hp:=Nat.two_pow_pos w
 constructor
 ·intro h3
  have:1≤m/2^w:=(Nat.le_div_iff_mul_le hp).2 (by omega)
  omega
 ·intro h3
  have:1≤m/2^w:=Nat.pos_of_ne_zero fun h=>h3 (by rw[h];rfl)
  have:=(Nat.le_div_iff_mul_le hp).1 this
  omega
theorem TO{n v w:Int}{b:List Int}(h:Ty.cq [(.struct [(.int .i64),(.slice (.int .u8))]),(.int .u64),(.int .i64)] ((n,b),v,w)):Ty.has (.struct [(.int .i64),(.slice (.int .u8))]) (n,b)∧(0≤v∧v≤18446744073709551615)∧(-9223372036854775808≤w∧w≤9223372036854775807):=h
structure Po where
 (a0 a1 a2 a4:Int) (a5:List Int) (a6 a7:Int)
inductive FY where
 | c0 (p:Po) (a3:Int) (a8:List Int)
noncomputable def aaN:FY→eF
 | .c0 p a3 a8=>⟨[⟨286,63,(en [(1,.int .u64 false p.a0),(2,vi p.a1),(3,.ptr 0 0),(6,.ptr 1 0),(8,.ptr 2 0),(43,vi p.a2),(44,vi a3)]),[.inLoop (cw Tryz.f286 [1,1,1,0,1,0,0]),.inBlock 1,.code (cw Tryz.f286 [1,1,1,1])],[],none⟩],[.flat false [vi p.a4,.sl yU p.a5],.flat false [vi p.a6,.dq true],.flat false [vi p.a7,.own 3],.arr false yU a8,.dead]⟩
abbrev NA(A:aK)(bN:Int)(bB:List Int)(v:Int)(width:Int):LT ((Int×List Int)×Int) FY:=(.br (A.c .gtr width (A.b .sub .i64 4096 bN)) (.ret ((0,([]:List Int)),3)) (.need (A.k (@tt Int) (A.b .add .i64 bN width)) (.need (A.and (A.c .eql (A.k eB (A.b .add .i64 bN width)) (A.k eB (A.b .add .i64 bN width))) (A.and (A.c .leq 0 (A.k eB (A.b .add .i64 bN width))) (A.c .leq (A.k eB (A.b .add .i64 bN width)) 140737488355328))) (.more (.c0 ⟨v,width,width,bN,bB,0,(A.b .add .i64 bN width)⟩ 0 (A.spl (A.r (A.k eB (A.b .add .i64 bN width)) (0:Int)) 0 (A.s bB 0 (A.mn (A.l bB) (A.l (A.r (A.k eB (A.b .add .i64 bN width)) (0:Int)))))))))))
def ZA(A:aK)(bN:Int)(bB:List Int)(v:Int)(width:Int):LT ((Int×List Int)×Int) FY:=.need (A.k (@tt ((Int×List Int))) (bN,bB)) (.br (A.c .neq (A.k lq (bN,bB)) 0) (.ret ((0,([]:List Int)),10)) (.br (A.c .lss width 0) (.ret ((0,([]:List Int)),2)) (.br (A.c .gtr width 64) (.ret ((0,([]:List Int)),2)) (.br (A.c .lss width 64) (.need (A.c .leq 0 width) (.br (A.c .neq (A.b .shr .u64 v width) 0) (.ret ((0,([]:List Int)),2)) (NA A bN bB v width))) (NA A bN bB v width)))))
def LH(A:aK):FY→LT ((Int×List Int)×Int) FY
 | .c0 p a3 a8=>.br (A.c .lss a3 p.a2) (.need (A.c .leq 0 (A.b .sub .i64 (A.b .sub .i64 p.a1 1) a3)) (.br (A.c .eql (A.b .and .u64 (A.b .shr .u64 p.a0 (A.b .sub .i64 (A.b .sub .i64 p.a1 1) a3)) 1) 1) (.need (A.and (A.c .leq 0 (A.b .quo .i64 (A.b .add .i64 p.a4 a3) 8)) (A.c .lss (A.b .quo .i64 (A.b .add .i64 p.a4 a3) 8) (A.l a8))) (.need (A.k oR (A.b .add .i64 p.a4 a3)) (.need (A.and (A.c .leq 0 (A.b .quo .i64 (A.b .add .i64 p.a4 a3) 8)) (A.c .lss (A.b .quo .i64 (A.b .add .i64 p.a4 a3) 8) (A.l a8))) (.more (.c0 p (A.b .add .i64 a3 1) (A.set a8 (A.b .quo .i64 (A.b .add .i64 p.a4 a3) 8) (A.b .or .u8 (A.n yU a8 (A.b .quo .i64 (A.b .add .i64 p.a4 a3) 8):Int) (A.k wZ (A.b .add .i64 p.a4 a3))))))))) (.more (.c0 p (A.b .add .i64 a3 1) a8)))) (.ret ((p.a7,a8),0))
theorem Gn{v w k:Nat}(h:k<w):(bitsOf v w).getD k false=v.testBit (w-1-k):=by
 rw[List.getD_eq_getElem?_getD,bitsOf,List.getElem?_map,List.getElem?_range h];rfl
theorem om{B:List Int}{m i:Nat}(hB:B.length=m)(hi:i<8*m)(hm:m≤100000):(ah.and (ah.c .leq 0 (ah.b .quo .i64 (i:Int) 8)) (ah.c .lss (ah.b .quo .i64 (i:Int) 8) (ah.l B)))=true:=by
 have hlb:ah.l B=(m:Int):=by rw[←hB];rfl
 rw[oM (by omega),hlb,ng,aI,aG];simp;omega
theorem v_{i:Nat}:ah.k oR (i:Int)=true:=by rw[au];simp[oR]
theorem adr{v:Int}{n w:Nat}{b:List Int}(hv:0≤v)(hn:n+w≤4096)(hw:w≤64):∀(j k:Nat) (p:Po) (B:List Int),p.a0=v→p.a1=(w:Int)→p.a2=(w:Int)→p.a4=(n:Int)→p.a7=((n+w:Nat):Int)→w-k=j→k≤w→Holds B (unpack n b++(bitsOf v.toNat w).take k) ((n+w+7)/8)→aB (LH ah) (.more (.c0 p (k:Int) B)) (pI (unpack n b++bitsOf v.toNat w),0):=by
 intro j
 induction j with
 | zero=>
   intro k p B h1 h2 h3 h4 h5 hj hk hB
   have:k=w:=by omega
   subst this
   simp only[ak,LH]
   refine(ai (by rw[h3,aI];simp)).2 ?_
   rw[List.take_of_length_le (by rw[cZ];exact Nat.le_refl _)] at hB
   have hl:(unpack n b++bitsOf v.toNat k).length=n+k:=by rw[List.length_append,bA,cZ]
   rw[h5,hB.done (by rw[hl])]
   rw[show pI (unpack n b++bitsOf v.toNat k)=(((n+k:Nat):Int),pack (unpack n b++bitsOf v.toNat k)) from by rw[pI,hl]]
   exact .ret _
 | succ j ih=>
   intro k p B h1 h2 h3 h4 h5 hj hk hB
   simp only[ak,LH]
   have hsh:ah.b .sub .i64 (ah.b .sub .i64 p.a1 1) (k:Int)=((w-1-k:Nat):Int):=by
    rw[h2,show ah.b .sub .i64 (w:Int) 1=((w-1:Nat):Int) from nA (j:=1) (by omega) (by omega),nA (by omega) (by omega)]
   have hat:ah.b .add .i64 p.a4 (k:Int)=((n+k:Nat):Int):=by rw[h4,eH (by omega)]
   have hlen:(unpack n b++(bitsOf v.toNat w).take k).length=n+k:=by rw[List.length_append,bA,List.length_take,cZ];omega
   have hts:=vZ (l:=bitsOf v.toNat w) (i:=k) (by rw[cZ];omega)
   rw[Gn (by omega)] at hts
   refine(aj (by rw[h3,aI];simp;omega)).2 (af.2 ⟨by rw[hsh,ng],?_⟩)
   rw[hsh,h1,NR hv (by omega),hat]
   cases hx:v.toNat.testBit (w-1-k)
   ·rw[hx] at hts
    refine(ai rfl).2 ?_
    refine dJ (congrArg LT.more (congr (congrArg (FY.c0 p) (cu (by omega))) rfl)) (ih (k+1) p B h1 h2 h3 h4 h5 (by omega) (by omega) ?_)
    rw[hts,←List.append_assoc]
    exact hB.skip
   ·rw[hx] at hts
    refine(aj rfl).2 (af.2 ⟨om hB.1 (by omega) (by omega),af.2 ⟨v_,af.2 ⟨om hB.1 (by omega) (by omega),?_⟩⟩⟩)
    refine dJ (congrArg LT.more (congr (congrArg (FY.c0 p) (cu (by omega))) rfl)) (ih (k+1) p _ h1 h2 h3 h4 h5 (by omega) (by omega) ?_)
    rw[hts,←List.append_assoc]
    exact zR hB hlen (by omega) (by omega)
theorem grow{n w:Nat}{b:List Int}(h:okB n b)(hw:n+w≤100000):Holds (ah.spl (ah.r (ah.k eB ((n+w:Nat):Int)) (0:Int)) 0 (ah.s b 0 (ah.mn (ah.l b) (ah.l (ah.r (ah.k eB ((n+w:Nat):Int)) (0:Int)))))) (unpack n b) ((n+w+7)/8):=by
 have h1:=h.1
 rw[au,oo (by omega) (by omega),Int.toNat_natCast]
 have e1:ah.r ((((n+w+7)/8:Nat):Nat):Int) (0:Int)=List.replicate ((n+w+7)/8) 0:=by rw[nD,Int.toNat_natCast]
 rw[e1]
 have e2:ah.mn (ah.l b) (ah.l (List.replicate ((n+w+7)/8) (0:Int)))=(b.length:Int):=by
  rw[nR]
  show(if ((List.replicate ((n+w+7)/8) (0:Int)).length:Int)<(b.length:Int) then _ else(b.length:Int))=_
  rw[List.length_replicate,if_neg (by omega)]
 rw[e2,fY,jf]
 have e3:(b.take (b.length:Int).toNat).drop (0:Int).toNat=b:=by
  rw[Int.toNat_natCast,List.take_length];rfl
 rw[e3]
 have:=Holds.grown (m:=(n+w+7)/8) h (by omega)
 rw[show(0:Int).toNat=0 from rfl,List.take_zero,List.nil_append,Nat.zero_add,List.drop_replicate]
 exact this
theorem ahl{n v w:Int}{b:List Int}(h:Ty.cq [(.struct [(.int .i64),(.slice (.int .u8))]),(.int .u64),(.int .i64)] ((n,b),v,w)):aB (LH ah) (ZA ah n b v w) (La ((n,b),v,w)):=by
 obtain⟨h1,hv,hw⟩:=TO h
 have hb:=(jS h1).2.2
 have hl:=fH h1
 unfold ZA NA
 rw[La]
 refine af.2 ⟨rfl,?_⟩
 have hc:ah.c .neq (ah.k lq (n,b)) 0=!dS (n,b):=by
  rw[au,nG hb hl];cases dS (n,b)<;>rfl
 rw[hc]
 cases hok:dS (n,b)
 ·exact(aj rfl).2 (.ret _)
 ·refine(ai rfl).2 ?_
  obtain⟨h2,h3,h4⟩:=(lg hb).1 hok
  have h5:=h4.1
  rw[Bool.not_true,cond_false]
  by_cases h6:w<0
  ·refine(aj (by rw[al];simpa using h6)).2 ?_
   rw[show decide (w<0)=true from by simpa using h6]
   exact .ret _
  ·refine(ai (by rw[al];simpa using h6)).2 ?_
   by_cases h7:64<w
   ·refine(aj (by rw[aH];simpa using h7)).2 ?_
    rw[show decide (64<w)=true from by simpa using h7,Bool.or_true,Bool.true_or]
    exact .ret _
   ·refine(ai (by rw[aH];simpa using h7)).2 ?_
    rw[show decide (w<0)=false from by simpa using h6,show decide (64<w)=false from by simpa using h7,Bool.false_or,Bool.false_or,Dp hv.1]
    obtain⟨k,rfl⟩:=Int.eq_ofNat_of_zero_le (show 0≤w by omega)
    obtain⟨m,rfl⟩:=Int.eq_ofNat_of_zero_le h2
    rw[Int.toNat_natCast] at h4 h5 ⊢
    have hadd:ah.b .add .i64 (m:Int) (k:Int)=((m+k:Nat):Int):=eH (by omega)
    have hneed:ah.k eB ((m+k:Nat):Int)=(((m+k+7)/8:Nat):Int):=by rw[au,oo (by omega) (by omega),Int.toNat_natCast]
    have hlen:(bJ ((m:Int),b)++bitsOf v.toNat k).length=m+k:=by rw[List.length_append,oV,cZ,Int.toNat_natCast]
    have hfin:(((v.toNat/2^k:Nat):Int) != 0)=false→∀t,t=(LT.br (ah.c .gtr (k:Int) (ah.b .sub .i64 4096 (m:Int))) (.ret ((0,([]:List Int)),3)) (.need (ah.k (@tt Int) (ah.b .add .i64 (m:Int) (k:Int))) (.need (ah.and (ah.c .eql (ah.k eB (ah.b .add .i64 (m:Int) (k:Int))) (ah.k eB (ah.b .add .i64 (m:Int) (k:Int)))) (ah.and (ah.c .leq 0 (ah.k eB (ah.b .add .i64 (m:Int) (k:Int)))) (ah.c .leq (ah.k eB (ah.b .add .i64 (m:Int) (k:Int))) 140737488355328))) (.more (.c0 ⟨v,(k:Int),(k:Int),(m:Int),b,0,(ah.b .add .i64 (m:Int) (k:Int))⟩ 0 (ah.spl (ah.r (ah.k eB (ah.b .add .i64 (m:Int) (k:Int))) (0:Int)) 0 (ah.s b 0 (ah.mn (ah.l b) (ah.l (ah.r (ah.k eB (ah.b .add .i64 (m:Int) (k:Int))) (0:Int)))))))))):LT ((Int×List Int)×Int) FY)→aB (LH ah) t (bif ((v.toNat/2^k:Nat):Int) != 0 then(zB,2) else R3 (bJ ((m:Int),b)++bitsOf v.toNat k)):=by
     intro hz t ht
     rw[hz,cond_false,ht,R3,hlen,hadd,show ah.b .sub .i64 (4096:Int) (m:Int)=((4096-m:Nat):Int) from nA (i:=4096) (by omega) (by omega)]
     by_cases h9:4096<m+k
     ·rw[show decide (4096<m+k)=true from by simpa using h9]
      refine(aj (by rw[aH];simp;omega)).2 (.ret _)
     ·rw[show decide (4096<m+k)=false from by simpa using h9]
      refine(ai (by rw[aH];simp;omega)).2 (af.2 ⟨rfl,af.2 ⟨?_,?_⟩⟩)
      ·rw[hneed,ng,wy rfl,ap,aG,aG];simp;omega
      ·refine adr hv.1 (by omega) (by omega) k 0 _ _ rfl rfl rfl rfl rfl rfl (by omega) ?_
       rw[List.take_zero,List.append_nil]
       exact grow h4 (by omega)
    by_cases h8:k<64
    ·refine(aj (by rw[al];simp;omega)).2 (af.2 ⟨ng,?_⟩)
     rw[Ny hv.1 (by omega)]
     cases hz:(((v.toNat/2^k:Nat):Int) != 0)
     ·refine(ai hz).2 ?_
      rw[←hz]
      exact hfin hz _ rfl
     ·exact(aj hz).2 (.ret _)
    ·refine(ai (by rw[al];simp;omega)).2 (hfin ?_ _ rfl)
     have:k=64:=by omega
     subst this
     rw[Nat.div_eq_of_lt (by omega)];rfl
def qO:((Int×List Int)×Int×Int)→((Int×List Int)×Int):=La
def acx:aC:=⟨[(.struct [yI,yB]),(.int .u64),yI], [(.struct [yI,yB]),yI],(@tt ((Int×List Int)×Int×Int)),qO⟩
theorem Ra:Sd 286 acx:=aU ar bU true 114 [⟨286,9, [[1,2,3,6,8,43,44]]⟩] [] (fun A ((bN,bB),v,width)=>ZA A bN bB v width) LH aaN (fc Tryz.func286 (fc Tryz.func321 (fc Tryz.func322 (fc Tryz.func324 fz)))) (sc F2 (sc Je (sc Ja sz))) (fun A y=>match y with |.c0 p a3 a8=>⟨63,by kernel_rfl,by kernel_rfl⟩) fun((bN,bB),v,width) hp h=>ahl h
structure MZ where
 (a0 a2 a4:Int) (a5:List Int)
inductive U2 where
 | c0 (p:MZ) (a1:Int) (a3:Int)
noncomputable def aay:U2→eF
 | .c0 p a1 a3=>⟨[⟨284,54,(en [(1,vi p.a0),(3,.ptr 0 0),(8,.int .u64 false a1),(39,vi p.a2),(40,vi a3)]),[.inLoop (cw Tryz.f284 [1,1,1,0,1,0,0]),.inBlock 1,.code (cw Tryz.f284 [1,1,1,1])],[],none⟩],[.flat false [vi p.a4,.sl yU p.a5],.dead]⟩
def t138(A:aK)(bN:Int)(bB:List Int)(at1:Int)(width:Int):LT (Int×Int) U2:=.need (A.k (@tt ((Int×List Int))) (bN,bB)) (.br (A.c .neq (A.k lq (bN,bB)) 0) (.ret (0,10)) (.br (A.c .lss width 0) (.ret (0,2)) (.br (A.c .gtr width 64) (.ret (0,2)) (.br (A.c .lss at1 0) (.ret (0,2)) (.br (A.c .gtr at1 bN) (.ret (0,2)) (.br (A.c .gtr width (A.b .sub .i64 bN at1)) (.ret (0,2)) (.more (.c0 ⟨at1,width,bN,bB⟩ 0 0))))))))
def M1(A:aK):U2→LT (Int×Int) U2
 | .c0 p a1 a3=>.br (A.c .lss a3 p.a2) (.need (A.k pX ((p.a4,p.a5),(A.b .add .i64 p.a0 a3))) (.br (A.k uu ((p.a4,p.a5),(A.b .add .i64 p.a0 a3))) (.more (.c0 p (A.b .or .u64 (A.b .shl .u64 a1 1) 1) (A.b .add .i64 a3 1))) (.more (.c0 p (A.b .shl .u64 a1 1) (A.b .add .i64 a3 1))))) (.ret (a1,0))
theorem MO{l:List Bool}{a k:Nat}(h:a+k<l.length):gw l a (k+1)=2*gw l a k+(l.getD (a+k) false).toNat:=by
 rw[gw,gw,vZ (by rw[List.length_drop];omega),sN,getD_drop]
theorem aeQ{k:Nat}(h:k≤64):2^k≤18446744073709551616:=Nat.le_trans (Nat.pow_le_pow_right (by decide) h) (by decide)
theorem E0{x:Nat}(h:2*x<18446744073709551616):ah.b .shl .u64 (x:Int) 1=((2*x:Nat):Int):=by
 show IntKind.u64.wrap ((x:Int)*2^min (1:Int).toNat 64)=_
 rw[show(2:Int)^min (1:Int).toNat 64=2 from rfl,Q7 (by omega) (by omega)];omega
theorem Um{x:Nat}(h:2*x<18446744073709551616):ah.b .or .u64 ((2*x:Nat):Int) 1=((2*x+1:Nat):Int):=by
 show IntKind.u64.wrap ((BitVec.ofInt 64 ((2*x:Nat):Int) ||| BitVec.ofInt 64 1).toNat:Int)=_
 rw[BitVec.ofInt_natCast,show BitVec.ofInt 64 1=BitVec.ofNat 64 1 from rfl,BitVec.toNat_or,BitVec.toNat_ofNat,BitVec.toNat_ofNat,show 1%2^64=1 from rfl,Nat.mod_eq_of_lt (by omega)]
 have:=Nat.shiftLeft_add_eq_or_of_lt (i:=1) (b:=1) (by decide) x
 rw[Nat.shiftLeft_eq,Nat.pow_one,Nat.mul_comm x 2] at this
 rw[←this,Q7 (by omega) (by omega)]
theorem Kw{n a w:Int}{b:List Int}(h:Ty.cq [(.struct [(.int .i64),(.slice (.int .u8))]),(.int .i64),(.int .i64)] ((n,b),a,w)):Ty.has (.struct [(.int .i64),(.slice (.int .u8))]) (n,b)∧(-9223372036854775808≤a∧a≤9223372036854775807)∧(-9223372036854775808≤w∧w≤9223372036854775807):=h
theorem acy{n a w:Nat}{b:List Int}(hb:dz b)(hl:b.length≤100000)(hn:n≤8*b.length)(haw:a+w≤n)(hw:w≤64):∀(j k:Nat) (p:MZ),p.a0=(a:Int)→p.a2=(w:Int)→p.a5=b→w-k=j→k≤w→aB (M1 ah) (.more (.c0 p ((gw (unpack n b) a k:Nat):Int) (k:Int))) (((gw (unpack n b) a w:Nat):Int),0):=by
 intro j
 induction j with
 | zero=>
   intro k p h1 h2 h3 hj hk
   have:k=w:=by omega
   subst this
   simp only[ak,M1]
   exact(ai (by rw[h2,aI];simp)).2 (.ret _)
 | succ j ih=>
   intro k p h1 h2 h3 hj hk
   simp only[ak,M1]
   have hat:ah.b .add .i64 p.a0 (k:Int)=((a+k:Nat):Int):=by rw[h1,eH (by omega)]
   have hf:=oX (unpack n b) a k
   have hp:=aeQ (k:=k+1) (by omega)
   rw[Nat.pow_succ] at hp
   have hs:=MO (l:=unpack n b) (a:=a) (k:=k) (by rw[bA];omega)
   rw[lk,show decide (a+k<n)=true from by simp;omega,Bool.true_and] at hs
   refine(aj (by rw[h2,aI];simp;omega)).2 (af.2 ⟨by rw[hat,h3,au];simp[pX];omega,?_⟩)
   have hc:ah.k uu ((p.a4,p.a5),ah.b .add .i64 p.a0 (k:Int))=fA b (a+k):=by
    rw[hat,h3,au,xW hb (by omega) (by omega) (by omega),Int.toNat_natCast]
   have hm:=ih (k+1) p h1 h2 h3 (by omega) (by omega)
   cases hx:fA b (a+k)
   ·rw[hx] at hs
    refine(ai (hc.trans hx)).2 ?_
    rw[hs,show 2*gw (unpack n b) a k+false.toNat=2*gw (unpack n b) a k from rfl,←E0 (by omega),←cu (by omega)] at hm
    exact hm
   ·rw[hx] at hs
    refine(aj (hc.trans hx)).2 ?_
    rw[hs,show 2*gw (unpack n b) a k+true.toNat=2*gw (unpack n b) a k+1 from rfl,←Um (by omega),←E0 (by omega),←cu (by omega)] at hm
    exact hm
theorem ahY{n a w:Int}{b:List Int}(h:Ty.cq [(.struct [(.int .i64),(.slice (.int .u8))]),(.int .i64),(.int .i64)] ((n,b),a,w)):aB (M1 ah) (t138 ah n b a w) (Rm ((n,b),a,w)):=by
 obtain⟨h1,ha,hw⟩:=Kw h
 have hb:=(jS h1).2.2
 have hl:=fH h1
 unfold t138
 rw[Rm]
 refine af.2 ⟨rfl,?_⟩
 have hc:ah.c .neq (ah.k lq (n,b)) 0=!dS (n,b):=by
  rw[au,nG hb hl];cases dS (n,b)<;>rfl
 rw[hc]
 cases hok:dS (n,b)
 ·exact(aj rfl).2 (.ret _)
 ·refine(ai rfl).2 ?_
  obtain⟨h2,h3,h4⟩:=(lg hb).1 hok
  have h5:=h4.1
  rw[Bool.not_true,cond_false]
  by_cases h6:w<0
  ·refine(aj (by rw[al];simpa using h6)).2 ?_
   rw[show decide (w<0)=true from by simpa using h6]
   exact .ret _
  refine(ai (by rw[al];simpa using h6)).2 ?_
  by_cases h7:64<w
  ·refine(aj (by rw[aH];simpa using h7)).2 ?_
   rw[show decide (64<w)=true from by simpa using h7]
   simp only[Bool.or_true,Bool.true_or]
   exact .ret _
  refine(ai (by rw[aH];simpa using h7)).2 ?_
  by_cases h8:a<0
  ·refine(aj (by rw[al];simpa using h8)).2 ?_
   rw[show decide (a<0)=true from by simpa using h8]
   simp only[Bool.or_true,Bool.true_or]
   exact .ret _
  refine(ai (by rw[al];simpa using h8)).2 ?_
  rw[show decide (w<0)=false from by simpa using h6,show decide (64<w)=false from by simpa using h7,show decide (a<0)=false from by simpa using h8]
  by_cases h9:n<a
  ·refine(aj (by rw[aH];simpa using h9)).2 ?_
   rw[show decide (n<a+w)=true from by simp;omega]
   exact .ret _
  refine(ai (by rw[aH];simpa using h9)).2 ?_
  rw[bf,gZ (by omega) (by omega)]
  by_cases h10:n<a+w
  ·refine(aj (by rw[aH];simp;omega)).2 ?_
   rw[show decide (n<a+w)=true from by simpa using h10]
   exact .ret _
  refine(ai (by rw[aH];simp;omega)).2 ?_
  rw[show decide (n<a+w)=false from by simpa using h10]
  obtain⟨k,rfl⟩:=Int.eq_ofNat_of_zero_le (show 0≤w by omega)
  obtain⟨i,rfl⟩:=Int.eq_ofNat_of_zero_le (show 0≤a by omega)
  exact acy (n:=n.toNat) hb (by omega) (by omega) (by omega) (by omega) k 0 _ rfl rfl rfl (by omega) (by omega)
def bO:((Int×List Int)×Int×Int)→(Int×Int):=Rm
def aew:aC:=⟨[(.struct [yI,yB]),yI,yI], [(.int .u64),yI],(@tt ((Int×List Int)×Int×Int)),bO⟩
theorem JN:Sd 284 aew:=aU ar bU true 65 [⟨284,7, [[1,3,8,39,40]]⟩] [] (fun A ((bN,bB),at1,width)=>t138 A bN bB at1 width) M1 aay (fc Tryz.func284 fz) (sc F2 (sc Qx sz)) (fun A y=>match y with |.c0 p a1 a3=>⟨45,by kernel_rfl,by kernel_rfl⟩) fun((bN,bB),at1,width) hp h=>ahY h
structure MG where
 (a0 a1 a2 a4 a5:Int) (a6:List Int) (a7 a8:Int)
inductive KR where
 | c0 (p:MG) (a3:Int) (a9:List Int)
noncomputable def WE:KR→eF
 | .c0 p a3 a9=>⟨[⟨325,52,(en [(1,vi p.a0),(3,vi p.a1),(4,vi p.a2),(5,.ptr 0 0),(7,.ptr 1 0),(10,vi a3)]),[.inLoop (cw Tryz.f325 [1,1,1,0,0]),.inBlock 0],[],none⟩,⟨288,39,(en [(6,.ptr 2 0),(8,.ptr 3 0)]),[.ops (ow Tryz.f288 [1,1,1,0]) ((ow Tryz.f288 [1,1,1,0]).toList.drop 4),.code (cw Tryz.f288 [1,1,1,1])],[],none⟩],[.flat false [vi p.a4,.own 4],.flat false [vi p.a5,.sl yU p.a6],.flat false [vi p.a7,.dq true],.flat false [vi p.a8,.own 4],.arr false yU a9,.dead]⟩
abbrev wW(A:aK)(from1:Int)(to:Int):=(A.r (A.k eB (A.b .sub .i64 to from1)) (0:Int))
def aaB(A:aK)(bN:Int)(bB:List Int)(from1:Int)(to:Int):LT ((Int×List Int)×Int) KR:=.need (A.k (@tt ((Int×List Int))) (bN,bB)) (.br (A.c .neq (A.k lq (bN,bB)) 0) (.ret ((0,([]:List Int)),10)) (.br (A.c .lss from1 0) (.ret ((0,([]:List Int)),2)) (.br (A.c .lss to from1) (.ret ((0,([]:List Int)),2)) (.br (A.c .gtr to bN) (.ret ((0,([]:List Int)),2)) (.need (A.k (@tt Int) (A.b .sub .i64 to from1)) (.need (A.and (A.c .eql (A.k eB (A.b .sub .i64 to from1)) (A.k eB (A.b .sub .i64 to from1))) (A.and (A.c .leq 0 (A.k eB (A.b .sub .i64 to from1))) (A.c .leq (A.k eB (A.b .sub .i64 to from1)) 140737488355328))) (.br (A.c .eql (A.b .rem .i64 from1 8) 0) (.br (A.c .eql to bN) (.need (A.and (A.c .leq 0 0) (A.and (A.c .leq 0 (A.l (wW A from1 to))) (A.c .leq (A.l (wW A from1 to)) (A.l (wW A from1 to))))) (.need (A.and (A.c .leq 0 (A.b .quo .i64 from1 8)) (A.and (A.c .leq (A.b .quo .i64 from1 8) (A.l bB)) (A.c .leq (A.l bB) (A.l bB)))) (.ret (((A.b .sub .i64 to from1),(A.spl (wW A from1 to) 0 (A.s (A.s bB (A.b .quo .i64 from1 8) (A.l bB)) 0 (A.mn (A.l (A.s bB (A.b .quo .i64 from1 8) (A.l bB))) (A.b .sub .i64 (A.l (wW A from1 to)) 0))))),0)))) (.more (.c0 ⟨0,from1,to,(A.b .sub .i64 to from1),bN,bB,0,(A.b .sub .i64 to from1)⟩ from1 (wW A from1 to)))) (.more (.c0 ⟨0,from1,to,(A.b .sub .i64 to from1),bN,bB,0,(A.b .sub .i64 to from1)⟩ from1 (wW A from1 to))))))))))
def Ik(A:aK):KR→LT ((Int×List Int)×Int) KR
 | .c0 p a3 a9=>.br (A.c .lss a3 p.a2) (.need (A.k pX ((p.a5,p.a6),a3)) (.br (A.k uu ((p.a5,p.a6),a3)) (.need (A.and (A.c .leq 0 (A.b .quo .i64 (A.b .sub .i64 (A.b .add .i64 p.a0 a3) p.a1) 8)) (A.c .lss (A.b .quo .i64 (A.b .sub .i64 (A.b .add .i64 p.a0 a3) p.a1) 8) (A.l a9))) (.need (A.k oR (A.b .sub .i64 (A.b .add .i64 p.a0 a3) p.a1)) (.need (A.and (A.c .leq 0 (A.b .quo .i64 (A.b .sub .i64 (A.b .add .i64 p.a0 a3) p.a1) 8)) (A.c .lss (A.b .quo .i64 (A.b .sub .i64 (A.b .add .i64 p.a0 a3) p.a1) 8) (A.l a9))) (.more (.c0 p (A.b .add .i64 a3 1) (A.set a9 (A.b .quo .i64 (A.b .sub .i64 (A.b .add .i64 p.a0 a3) p.a1) 8) (A.b .or .u8 (A.n yU a9 (A.b .quo .i64 (A.b .sub .i64 (A.b .add .i64 p.a0 a3) p.a1) 8):Int) (A.k wZ (A.b .sub .i64 (A.b .add .i64 p.a0 a3) p.a1))))))))) (.more (.c0 p (A.b .add .i64 a3 1) a9)))) (.ret ((p.a8,a9),0))
theorem SP{n a c:Nat}{b:List Int}(hb:dz b)(hl:b.length≤100000)(hn:n≤8*b.length)(hac:a≤c)(hc:c≤n):∀(j i:Nat) (p:MG) (B:List Int),p.a0=0→p.a1=(a:Int)→p.a2=(c:Int)→p.a6=b→p.a8=((c-a:Nat):Int)→c-i=j→a≤i→i≤c→Holds B ((((unpack n b).take c).drop a).take (i-a)) ((c-a+7)/8)→aB (Ik ah) (.more (.c0 p (i:Int) B)) (pI (((unpack n b).take c).drop a),0):=by
 have hL:(((unpack n b).take c).drop a).length=c-a:=by rw[List.length_drop,List.length_take,bA];omega
 intro j
 induction j with
 | zero=>
   intro i p B h0 h1 h2 h3 h4 hj hi hi2 hB
   have:i=c:=by omega
   subst this
   simp only[ak,Ik]
   refine(ai (by rw[h2,aI];simp)).2 ?_
   rw[List.take_of_length_le (by rw[hL];exact Nat.le_refl _)] at hB
   rw[h4,hB.done (by rw[hL]),show pI (((unpack n b).take i).drop a)=(((i-a:Nat):Int),pack (((unpack n b).take i).drop a)) from by rw[pI,hL]]
   exact .ret _
 | succ j ih=>
   intro i p B h0 h1 h2 h3 h4 hj hi hi2 hB
   simp only[ak,Ik]
   have hat:ah.b .sub .i64 (ah.b .add .i64 p.a0 (i:Int)) p.a1=((i-a:Nat):Int):=by
    rw[h0,h1,show ah.b .add .i64 (0:Int) (i:Int)=((0+i:Nat):Int) from eH (i:=0) (by omega),nA (by omega) (by omega),Nat.zero_add]
   have hts:=vZ (l:=((unpack n b).take c).drop a) (i:=i-a) (by rw[hL];omega)
   rw[getD_drop,getD_take,lk,show a+(i-a)=i from by omega,show decide (i<c)=true from by simp;omega,show decide (i<n)=true from by simp;omega,Bool.true_and,Bool.true_and] at hts
   have hlen:((((unpack n b).take c).drop a).take (i-a)).length=i-a:=by rw[List.length_take,hL];omega
   refine(aj (by rw[h2,aI];simp;omega)).2 (af.2 ⟨by rw[h3,au];simp[pX];omega,?_⟩)
   have hc:ah.k uu ((p.a5,p.a6),(i:Int))=fA b i:=by
    rw[h3,au,xW hb (by omega) (by omega) (by omega),Int.toNat_natCast]
   rw[hat]
   cases hx:fA b i
   ·rw[hx] at hts
    refine(ai (hc.trans hx)).2 ?_
    refine dJ (congrArg LT.more (congr (congrArg (KR.c0 p) (cu (by omega))) rfl)) (ih (i+1) p B h0 h1 h2 h3 h4 (by omega) (by omega) (by omega) ?_)
    rw[show i+1-a=i-a+1 from by omega,hts]
    exact hB.skip
   ·rw[hx] at hts
    refine(aj (hc.trans hx)).2 (af.2 ⟨om hB.1 (by omega) (by omega),af.2 ⟨v_,af.2 ⟨om hB.1 (by omega) (by omega),?_⟩⟩⟩)
    refine dJ (congrArg LT.more (congr (congrArg (KR.c0 p) (cu (by omega))) rfl)) (ih (i+1) p _ h0 h1 h2 h3 h4 (by omega) (by omega) (by omega) ?_)
    rw[show i+1-a=i-a+1 from by omega,hts]
    exact zR hB hlen (by omega) (by omega)
theorem K6(b:List Int)(i j:Nat):fA (b.drop i) j=fA b (8*i+j):=by
 rw[fA,fA,List.getD_eq_getElem?_getD,List.getD_eq_getElem?_getD,List.getElem?_drop,show(8*i+j)/8=i+j/8 from by omega,show(8*i+j)%8=j%8 from by omega]
theorem LW{n i:Nat}{b:List Int}(h:okB n b)(hi:8*i≤n):b.drop i=pack ((unpack n b).drop (8*i)):=by
 have h1:=h.1
 apply JF
 ·rw[List.length_drop,List.length_drop,bA];omega
 ·exact fun x hx=>h.2.1 x (List.mem_of_mem_drop hx)
 ·intro j hj
  rw[List.length_drop] at hj
  rw[K6,getD_drop,lk]
  by_cases h2:8*i+j<n
  ·rw[show decide (8*i+j<n)=true from by simpa using h2,Bool.true_and]
  ·rw[show decide (8*i+j<n)=false from by simpa using h2,Bool.false_and]
   exact h.2.2 _ (by omega) (by omega)
theorem JU{b:List Int}{i:Nat}:ah.s b (i:Int) (ah.l b)=b.drop i:=by
 show(b.take (b.length:Int).toNat).drop (i:Int).toNat=_
 rw[Int.toNat_natCast,Int.toNat_natCast,List.take_length]
theorem Z_{n a c:Int}{b:List Int}(h:Ty.cq [(.struct [(.int .i64),(.slice (.int .u8))]),(.int .i64),(.int .i64)] ((n,b),a,c)):aB (Ik ah) (aaB ah n b a c) (EE ((n,b),a,c)):=by
 obtain⟨h1,ha,hw⟩:=Kw h
 have hb:=(jS h1).2.2
 have hl:=fH h1
 unfold aaB wW
 rw[EE]
 refine af.2 ⟨rfl,?_⟩
 have hc:ah.c .neq (ah.k lq (n,b)) 0=!dS (n,b):=by
  rw[au,nG hb hl];cases dS (n,b)<;>rfl
 rw[hc]
 cases hok:dS (n,b)
 ·exact(aj rfl).2 (.ret _)
 ·refine(ai rfl).2 ?_
  obtain⟨h2,h3,h4⟩:=(lg hb).1 hok
  have h5:=h4.1
  rw[Bool.not_true,cond_false]
  by_cases h6:a<0
  ·refine(aj (by rw[al];simpa using h6)).2 ?_
   rw[show decide (a<0)=true from by simpa using h6]
   exact .ret _
  refine(ai (by rw[al];simpa using h6)).2 ?_
  by_cases h7:c<a
  ·refine(aj (by rw[al];simpa using h7)).2 ?_
   rw[show decide (c<a)=true from by simpa using h7]
   simp only[Bool.or_true,Bool.true_or]
   exact .ret _
  refine(ai (by rw[al];simpa using h7)).2 ?_
  by_cases h8:n<c
  ·refine(aj (by rw[aH];simpa using h8)).2 ?_
   rw[show decide (n<c)=true from by simpa using h8]
   simp only[Bool.or_true,Bool.true_or]
   exact .ret _
  refine(ai (by rw[aH];simpa using h8)).2 ?_
  rw[show decide (a<0)=false from by simpa using h6,show decide (c<a)=false from by simpa using h7,show decide (n<c)=false from by simpa using h8]
  obtain⟨k,rfl⟩:=Int.eq_ofNat_of_zero_le (show 0≤c by omega)
  obtain⟨i,rfl⟩:=Int.eq_ofNat_of_zero_le (show 0≤a by omega)
  obtain⟨m,rfl⟩:=Int.eq_ofNat_of_zero_le h2
  rw[Int.toNat_natCast] at h4 h5
  have hsub:ah.b .sub .i64 (k:Int) (i:Int)=((k-i:Nat):Int):=nA (by omega) (by omega)
  have hneed:ah.k eB ((k-i:Nat):Int)=(((k-i+7)/8:Nat):Int):=by rw[au,oo (by omega) (by omega),Int.toNat_natCast]
  show aB (Ik ah) _ (pI (((unpack m b).take k).drop i),0)
  rw[hsub]
  have hrep:ah.r (ah.k eB ((k-i:Nat):Int)) (0:Int)=List.replicate ((k-i+7)/8) 0:=by rw[hneed,nD,Int.toNat_natCast]
  have hmore:aB (Ik ah) (.more (.c0 ⟨0,(i:Int),(k:Int),((k-i:Nat):Int),(m:Int),b,0,((k-i:Nat):Int)⟩ (i:Int) (ah.r (ah.k eB ((k-i:Nat):Int)) (0:Int)))) (pI (((unpack m b).take k).drop i),0):=by
   refine SP hb (by omega) (by omega) (by omega) (by omega) (k-i) i _ _ rfl rfl rfl rfl rfl (by omega) (by omega) (by omega) ?_
   rw[Nat.sub_self,List.take_zero,hrep]
   exact Holds.blank _
  refine af.2 ⟨rfl,af.2 ⟨by rw[hneed,ng,wy rfl,ap,aG,aG];simp;omega,?_⟩⟩
  by_cases h9:i%8=0
  ·refine(aj (wy (by rw[xV,h9];rfl))).2 ?_
   by_cases h10:k=m
   ·subst h10
    refine(aj (wy rfl)).2 (af.2 ⟨?_,af.2 ⟨?_,?_⟩⟩)
    ·rw[hrep]
     have:ah.l (List.replicate ((k-i+7)/8) (0:Int))=(((k-i+7)/8:Nat):Int):=by show((List.replicate ((k-i+7)/8) (0:Int)).length:Int)=_;rw[List.length_replicate]
     rw[this,ng,nc,aG,aG];simp[ap]
    ·have:ah.l b=((b.length:Nat):Int):=rfl
     rw[oM (by omega),this,ng,nc,nc,aG,aG];simp;omega
    ·have hd:=LW h4 (i:=i/8) (by omega)
     rw[show 8*(i/8)=i from by omega] at hd
     have hL:((unpack k b).drop i).length=k-i:=by rw[List.length_drop,bA]
     rw[hrep,oM (by omega),JU]
     have e1:ah.mn (ah.l (b.drop (i/8))) (ah.b .sub .i64 (ah.l (List.replicate ((k-i+7)/8) (0:Int))) 0)=((b.drop (i/8)).length:Int):=by
      show ah.mn ((b.drop (i/8)).length:Int) (ah.b .sub .i64 ((List.replicate ((k-i+7)/8) (0:Int)).length:Int) 0)=_
      rw[List.length_replicate,bf,gZ (by omega) (by omega),nR,if_neg (by rw[List.length_drop];omega)]
     rw[e1,fY,jf,Int.toNat_natCast,List.take_length]
     have e2:(List.replicate ((k-i+7)/8) (0:Int)).take (0:Int).toNat++(b.drop (i/8)).drop (0:Int).toNat++(List.replicate ((k-i+7)/8) (0:Int)).drop ((0:Int).toNat+((b.drop (i/8)).drop (0:Int).toNat).length)=b.drop (i/8):=by
      show[]++b.drop (i/8)++(List.replicate ((k-i+7)/8) (0:Int)).drop (0+(b.drop (i/8)).length)=_
      rw[List.drop_replicate,List.length_drop,show(k-i+7)/8-(0+(b.length-i/8))=0 from by omega,List.replicate_zero,List.append_nil,List.nil_append]
     rw[e2,hd,List.take_of_length_le (by rw[bA];exact Nat.le_refl _),show pI ((unpack k b).drop i)=(((k-i:Nat):Int),pack ((unpack k b).drop i)) from by rw[pI,hL]]
     exact .ret _
   ·exact(ai (J7 (by omega))).2 hmore
  ·exact(ai (J7 (by rw[xV];omega))).2 hmore
def lQ:((Int×List Int)×Int×Int)→((Int×List Int)×Int):=EE
def af0:aC:=⟨[(.struct [yI,yB]),yI,yI], [(.struct [yI,yB]),yI],(@tt ((Int×List Int)×Int×Int)),lQ⟩
theorem Vq:Sd 288 af0:=aU ar bU true 118 [⟨325,4, [[1,3,4,5,7,10], [6,8]]⟩] [] (fun A ((bN,bB),from1,to)=>aaB A bN bB from1 to) Ik WE (fc Tryz.func288 (fc Tryz.func322 (fc Tryz.func324 (fc Tryz.func325 fz)))) (sc F2 (sc Je (sc Qx (sc Ja sz)))) (fun A y=>match y with |.c0 p a3 a9=>⟨57,by kernel_rfl,by kernel_rfl⟩) fun((bN,bB),from1,to) hp h=>Z_ h
theorem tj{l:List (Int×List Int)}(h:Ty.cq [(.slice (.struct [(.int .i64),(.slice (.int .u8))]))] l):l.length≤140737488355328∧∀x∈l,dz x.2∧x.2.length≤140737488355328:=by
 have h1:l.length≤dB∧∀x∈l,Ty.has (.struct [(.int .i64),(.slice (.int .u8))]) x:=h
 exact⟨h1.1,fun x hx=>⟨(jS (n:=x.1) (b:=x.2) (h1.2 x hx)).2.2,(jS (n:=x.1) (b:=x.2) (h1.2 x hx)).2.1⟩⟩
theorem getD_in{α:Type}{l:List α}{i:Nat}(h:i<l.length)(d:α):l.getD (i:Int).toNat d=l[i]:=by
 rw[Int.toNat_natCast,List.getD_eq_getElem?_getD,List.getElem?_eq_getElem h];rfl
theorem yz{l:List (Int×List Int)}{i:Nat}(h:i<l.length):(ah.n (.struct [(.int .i64),(.slice (.int .u8))]) l (i:Int):Int×List Int)=l[i]:=by
 exact getD_in h _
theorem aS{α:Type}{l:List α}{i:Nat}(h:i<l.length):ah.and (ah.c .leq 0 (i:Int)) (ah.c .lss (i:Int) (ah.l l))=true:=by
 have:ah.l l=(l.length:Int):=rfl
 rw[this,ng,aI,aG];simpa using h
theorem aaP{x:Int×List Int}(h:dS x=true):(bJ x).length≤4096:=by
 obtain⟨n,b⟩:=x
 rw[oV]
 simp only[dS,Bool.and_eq_true,decide_eq_true_eq] at h
 show n.toNat≤4096
 omega
theorem MP{l:List Bool}(h:4096<l.length):R3 l=(zB,3):=by
 rw[R3,show decide (4096<l.length)=true from by simpa using h];rfl
theorem q8{l:List (Int×List Int)}{i:Nat}(h:i<l.length):(l.take (i+1)).flatMap bJ=(l.take i).flatMap bJ++bJ l[i]:=by
 rw[List.take_succ_eq_append_getElem h,List.flatMap_append]
 simp
theorem Br{l:List Bool}(h:l.length≤4096):R3 l=(pI l,0):=by
 rw[R3,show decide (4096<l.length)=false from by simpa using h];rfl
def Mt(A:aK)(r:Int):LT Int Empty:=.br (A.c .eql (A.b .shr .u32 r 23) 1) (.ret (A.b .xor .u32 (A.b .and .u32 (A.b .shl .u32 r 1) 16777215) 6122955)) (.ret (A.b .and .u32 (A.b .shl .u32 r 1) 16777215))
def Be:Int→Int:=fun r=>(Mt ah r).val (Ty.bl [(.int .u32)])
def aeA:aC:=⟨[(.int .u32)], [(.int .u32)],(@tt Int),Be⟩
theorem VJ:Sd 351 aeA:=aL ar bU true 35 [] (fun A r=>Mt A r) (fc Tryz.func351 fz) sz (fun(r:Int) hp h=>by
 show(Mt ah r).pre=true
 simp[Mt,LT.pre])
theorem Te{a:Int}(h1:0≤a)(h2:a≤4294967295):IntKind.u32.wrap a=a:=IntWalk.u32_in a ⟨h1,h2⟩
theorem Jf{a b:Nat}(ha:a<4294967296)(hb:b<4294967296):ah.b .xor .u32 (a:Int) (b:Int)=((a ^^^ b:Nat):Int):=by
 show IntKind.u32.wrap ((BitVec.ofInt 32 (a:Int) ^^^ BitVec.ofInt 32 (b:Int)).toNat:Int)=_
 rw[BitVec.ofInt_natCast,BitVec.ofInt_natCast,BitVec.toNat_xor,BitVec.toNat_ofNat,BitVec.toNat_ofNat,Nat.mod_eq_of_lt ha,Nat.mod_eq_of_lt hb]
 have:a ^^^ b<2^32:=Nat.xor_lt_two_pow ha hb
 rw[Te (by omega) (by omega)]
theorem VN{a:Nat}(ha:a<4294967296):ah.b .and .u32 (a:Int) 16777215=((a%16777216:Nat):Int):=by
 show IntKind.u32.wrap ((BitVec.ofInt 32 (a:Int) &&& BitVec.ofInt 32 ((16777215:Nat):Int)).toNat:Int)=_
 rw[BitVec.ofInt_natCast,BitVec.ofInt_natCast,BitVec.toNat_and,BitVec.toNat_ofNat,BitVec.toNat_ofNat,Nat.mod_eq_of_lt ha,show 16777215%2^32=2^24-1 from rfl,Nat.and_two_pow_sub_one_eq_mod,Te (by omega) (by omega)]
theorem M3{a k:Nat}(hk:k≤32)(h:a*2^k<4294967296):ah.b .shl .u32 (a:Int) (k:Int)=((a*2^k:Nat):Int):=by
 show IntKind.u32.wrap ((a:Int)*2^min (k:Int).toNat 32)=_
 rw[Int.toNat_natCast,Nat.min_eq_left hk,show(a:Int)*2^k=((a*2^k:Nat):Int) from by simp,Te (by omega) (by omega)]
theorem Ns{r:Nat}(hr:r<16777216):Be (r:Int)=((step1 r false:Nat):Int):=by
 simp only[Be,Mt,LT.val]
 have h1:ah.b .shr .u32 (r:Int) 23=((r/2^23:Nat):Int):=Vp (n:=23) (by omega) (by decide)
 have h2:ah.b .and .u32 (ah.b .shl .u32 (r:Int) 1) 16777215=((2*r%16777216:Nat):Int):=by
  have h3:ah.b .shl .u32 (r:Int) 1=((r*2^1:Nat):Int):=M3 (k:=1) (by decide) (by omega)
  rw[h3,VN (by omega),Nat.pow_one,Nat.mul_comm]
 rw[h1,h2,step1,Bool.bne_false]
 have h4:ah.c .eql ((r/2^23:Nat):Int) 1=decide (8388608≤r):=by
  rw[ax,Bool.eq_iff_iff,decide_eq_true_eq,beq_iff_eq]
  omega
 rw[h4]
 cases decide (8388608≤r)
 ·rfl
 ·have:ah.b .xor .u32 ((2*r%16777216:Nat):Int) 6122955=((2*r%16777216 ^^^ 6122955:Nat):Int):=Jf (b:=6122955) (by omega) (by decide)
  rw[cond_true,cond_true,this]
structure Yp where
 (a0 a1 a2 a3 a4 a5 a6 a7 a8 a9 cX dN a12 kp gK jh a16 a17 je l_ a20 a21 a22 a23 a24 a25 a26 a27 a28 a29 a30 a31 a32:Int)
structure Rb where
 (b0 b2 b4 b5 b6 b7 b8 b9 b10 b11 b12 b13 jN fT cY iX my jO mm yP GA b23 b24 b25 b26 b27 b28 b29 b30 b31 b32 b33 b34 b35:Int)
inductive Uz where
 | c0 (p:Yp)
 | c1 (p:Rb) (b1:Int) (b3:Int)
noncomputable def WG:Uz→eF
 | .c0 p=>⟨[⟨344,20,(en [(0,.ptr 0 0),(1,.ptr 1 0),(4,vi p.a0)]),[.inLoop (cw Tryz.f344 [1,1,0,1,0,0]),.inBlock 0,.code (cw Tryz.f344 [1,1,1])],[],none⟩],[.flat false [.int .u32 false p.a1,.int .u32 false p.a2,.int .u32 false p.a3,.int .u32 false p.a4,.int .u32 false p.a5,.int .u32 false p.a6,.int .u32 false p.a7,.int .u32 false p.a8,.int .u32 false p.a9,.int .u32 false p.cX,.int .u32 false p.dN,.int .u32 false p.a12,.int .u32 false p.kp,.int .u32 false p.gK,.int .u32 false p.jh,.int .u32 false p.a16],.flat false [.int .u32 false p.a17,.int .u32 false p.je,.int .u32 false p.l_,.int .u32 false p.a20,.int .u32 false p.a21,.int .u32 false p.a22,.int .u32 false p.a23,.int .u32 false p.a24,.int .u32 false p.a25,.int .u32 false p.a26,.int .u32 false p.a27,.int .u32 false p.a28,.int .u32 false p.a29,.int .u32 false p.a30,.int .u32 false p.a31,.int .u32 false p.a32],.dead]⟩
 | .c1 p b1 b3=>⟨[⟨344,20,(en [(0,.ptr 0 0),(1,.ptr 1 0),(2,vi p.b0),(3,.int .u32 false b1),(4,vi p.b2),(10,vi b3)]),[.inLoop (cw Tryz.f344 [1,1,0,1,0,0,1,1,0,0,1,1,0,1,0,0]),.inBlock 2,.code (cw Tryz.f344 [1,1,0,1,0,0,1,1,0,0,1,1,1]),.inBlock 1,.code (cw Tryz.f344 [1,1,0,1,0,0,1,1,1]),.inLoop (cw Tryz.f344 [1,1,0,1,0,0]),.inBlock 0,.code (cw Tryz.f344 [1,1,1])],[],none⟩],[.flat false [.int .u32 false p.b4,.int .u32 false p.b5,.int .u32 false p.b6,.int .u32 false p.b7,.int .u32 false p.b8,.int .u32 false p.b9,.int .u32 false p.b10,.int .u32 false p.b11,.int .u32 false p.b12,.int .u32 false p.b13,.int .u32 false p.jN,.int .u32 false p.fT,.int .u32 false p.cY,.int .u32 false p.iX,.int .u32 false p.my,.int .u32 false p.jO],.flat false [.int .u32 false p.mm,.int .u32 false p.yP,.int .u32 false p.GA,.int .u32 false p.b23,.int .u32 false p.b24,.int .u32 false p.b25,.int .u32 false p.b26,.int .u32 false p.b27,.int .u32 false p.b28,.int .u32 false p.b29,.int .u32 false p.b30,.int .u32 false p.b31,.int .u32 false p.b32,.int .u32 false p.b33,.int .u32 false p.b34,.int .u32 false p.b35],.dead]⟩
def adE(A:aK):LT (List Int) Uz:=.more (.c0 ⟨0,0,0,0,0,0,0,0,0,0,0,0,0,0,0,0,0,0,0,0,0,0,0,0,0,0,0,0,0,0,0,0,0⟩)
abbrev fS(A:aK)(p:Rb)(b1:Int):=(A.set [p.mm,p.yP,p.GA,p.b23,p.b24,p.b25,p.b26,p.b27,p.b28,p.b29,p.b30,p.b31,p.b32,p.b33,p.b34,p.b35] p.b0 b1)
def acZ(A:aK):Uz→LT (List Int) Uz
 | .c0 p=>.br (A.c .lss p.a0 16) (.more (.c1 ⟨p.a0,p.a0,p.a1,p.a2,p.a3,p.a4,p.a5,p.a6,p.a7,p.a8,p.a9,p.cX,p.dN,p.a12,p.kp,p.gK,p.jh,p.a16,p.a17,p.je,p.l_,p.a20,p.a21,p.a22,p.a23,p.a24,p.a25,p.a26,p.a27,p.a28,p.a29,p.a30,p.a31,p.a32⟩ (A.b .shl .u32 (A.v .u32 p.a0) 20) 0)) (.ret [p.a17,p.je,p.l_,p.a20,p.a21,p.a22,p.a23,p.a24,p.a25,p.a26,p.a27,p.a28,p.a29,p.a30,p.a31,p.a32])
 | .c1 p b1 b3=>.br (A.c .lss b3 4) (.need (A.k (@tt Int) b1) (.more (.c1 p (A.k Be b1) (A.b .add .i64 b3 1)))) (.need (A.and (A.c .leq 0 p.b0) (A.c .lss p.b0 16)) (.more (.c0 ⟨(A.b .add .i64 p.b2 1),p.b4,p.b5,p.b6,p.b7,p.b8,p.b9,p.b10,p.b11,p.b12,p.b13,p.jN,p.fT,p.cY,p.iX,p.my,p.jO,(A.n (.int .u32) (fS A p b1) 0:Int),(A.n (.int .u32) (fS A p b1) 1:Int),(A.n (.int .u32) (fS A p b1) 2:Int),(A.n (.int .u32) (fS A p b1) 3:Int),(A.n (.int .u32) (fS A p b1) 4:Int),(A.n (.int .u32) (fS A p b1) 5:Int),(A.n (.int .u32) (fS A p b1) 6:Int),(A.n (.int .u32) (fS A p b1) 7:Int),(A.n (.int .u32) (fS A p b1) 8:Int),(A.n (.int .u32) (fS A p b1) 9:Int),(A.n (.int .u32) (fS A p b1) 10:Int),(A.n (.int .u32) (fS A p b1) 11:Int),(A.n (.int .u32) (fS A p b1) 12:Int),(A.n (.int .u32) (fS A p b1) 13:Int),(A.n (.int .u32) (fS A p b1) 14:Int),(A.n (.int .u32) (fS A p b1) 15:Int)⟩)))
def goT{R Y:Type}(step:Y→LT R Y):Nat→LT R Y→Option R
 | 0,_=>none
 | _+1,.ret r=>some r
 | n+1,.more y=>goT step n (step y)
 | n+1,.br b t e=>bif b then goT step n t else goT step n e
 | n+1,.need b t=>bif b then goT step n t else none
 | _+1,_=>none
theorem Ry{R Y:Type}{step:Y→LT R Y}:∀{n:Nat} {t:LT R Y} {r:R},goT step n t=some r→aB step t r:=by
 intro n
 induction n with
 | zero=>intro t r h;cases h
 | succ n ih=>
   intro t r h
   cases t with
   | ret x=>cases h;exact .ret _
   | more y=>exact .more (ih h)
   | br b t e=>
     rw[goT] at h
     cases b
     ·exact(ai rfl).2 (ih h)
     ·exact(aj rfl).2 (ih h)
   | need b t=>
     rw[goT] at h
     cases b
     ·cases h
     ·exact af.2 ⟨rfl,ih h⟩
   | eqs p t=>cases h
   | and a b=>cases h
   | bad m s=>cases h
def ac0:List Int:=[0,6122955,12245910,15185501,2677479,7714604,9568625,13593786,5354958,841733,15429208,11928467,7958313,2360034,12825791,10410356]
theorem PI:∀i:Fin 16,ac0.getD i.val 0=((FH.getD i.val 0:Nat):Int):=by decide +kernel
theorem Px:∀i:Fin 16,FH.getD i.val 0<16777216:=by decide +kernel
theorem XP:aB (acZ ah) (adE ah) ac0:=Ry (n:=400) (by kernel_rfl)
def k_:Unit→(List Int):=fun _=>[0,6122955,12245910,15185501,2677479,7714604,9568625,13593786,5354958,841733,15429208,11928467,7958313,2360034,12825791,10410356]
def agh:aC:=⟨[], [(.arr 16 (.int .u32))],(@tt Unit),k_⟩
theorem ada:Sd 344 agh:=aU ar bU true 21 [⟨344,3, [[0,1,4]]⟩,⟨344,7, [[0,1,2,3,4,10]]⟩] [] (fun A _=>adE A) acZ WG (fc Tryz.func344 fz) (sc VJ sz) (fun A y=>match y with |.c0 p=>⟨34,by kernel_rfl,by kernel_rfl⟩|.c1 p b1 b3=>⟨25,by kernel_rfl,by kernel_rfl⟩) fun _ hp h=>XP
structure zj where
 (a0:Int) (a1:List (Int×List Int)) (a2 a3 a4 a5 a6 a7 a8 a9 cX dN a12 kp gK jh a16 a17 je l_:Int)
structure Iq where
 (b2:List (Int×List Int)) (b3 b4 b5 b6 b7 b8 b9 b10 b11 b12 b13 jN fT cY iX my jO mm yP:Int) (GA:List Int)
structure Hu where
 (c2:List (Int×List Int)) (c3 c4 c5:Int) (c6:List Int) (c7 c8 c9 c10 c11 c12 c13 c14 Af c16 Mk Ml c19 c20 c21 c22:Int)
inductive Ll where
 | c0 (p:zj)
 | c1 (p:Iq) (b0:Int) (b1:Int)
 | c2 (p:Hu) (c0:Int) (c1:Int)
noncomputable def aaQ:Ll→eF
 | .c0 p=>⟨[⟨323,26,(en [(4,.ptr 0 0),(5,.int .u32 false p.a0),(10,.sl (.struct [yI,yB]) p.a1),(11,vi p.a2),(12,vi p.a3)]),[.inLoop (cw Tryz.f323 [1,1,1,0,1,0,0]),.inBlock 0,.code (cw Tryz.f323 [1,1,1,1])],[],none⟩],[.flat false [.int .u32 false p.a4,.int .u32 false p.a5,.int .u32 false p.a6,.int .u32 false p.a7,.int .u32 false p.a8,.int .u32 false p.a9,.int .u32 false p.cX,.int .u32 false p.dN,.int .u32 false p.a12,.int .u32 false p.kp,.int .u32 false p.gK,.int .u32 false p.jh,.int .u32 false p.a16,.int .u32 false p.a17,.int .u32 false p.je,.int .u32 false p.l_],.dead]⟩
 | .c1 p b0 b1=>⟨[⟨345,57,(en [(0,.int .u32 false b0),(2,.ptr 0 0),(4,.ptr 1 0),(7,vi b1)]),[.inLoop (cw Tryz.f345 [1,1,0,0,0]),.inBlock 0,.code (cw Tryz.f345 [1,1,1])],[],none⟩,⟨323,26,(en [(4,.ptr 0 0),(10,.sl (.struct [yI,yB]) p.b2),(11,vi p.b3),(12,vi p.b4)]),[.ops (ow Tryz.f323 [1,1,1,0,1,0,0,1,1,0,0,1,1]) ((ow Tryz.f323 [1,1,1,0,1,0,0,1,1,0,0,1,1]).toList.drop 2),.inBlock 1,.code (cw Tryz.f323 [1,1,1,0,1,0,0,1,1,1]),.inLoop (cw Tryz.f323 [1,1,1,0,1,0,0]),.inBlock 0,.code (cw Tryz.f323 [1,1,1,1])],[],none⟩],[.flat false [.int .u32 false p.b5,.int .u32 false p.b6,.int .u32 false p.b7,.int .u32 false p.b8,.int .u32 false p.b9,.int .u32 false p.b10,.int .u32 false p.b11,.int .u32 false p.b12,.int .u32 false p.b13,.int .u32 false p.jN,.int .u32 false p.fT,.int .u32 false p.cY,.int .u32 false p.iX,.int .u32 false p.my,.int .u32 false p.jO,.int .u32 false p.mm],.flat false [vi p.yP,.sl yU p.GA],.dead]⟩
 | .c2 p c0 c1=>⟨[⟨345,57,(en [(0,.int .u32 false c0),(4,.ptr 0 0),(7,vi c1)]),[.inLoop (cw Tryz.f345 [1,1,1,0,0,0]),.inBlock 2,.code (cw Tryz.f345 [1,1,1,1])],[],none⟩,⟨323,26,(en [(4,.ptr 1 0),(10,.sl (.struct [yI,yB]) p.c2),(11,vi p.c3),(12,vi p.c4)]),[.ops (ow Tryz.f323 [1,1,1,0,1,0,0,1,1,0,0,1,1]) ((ow Tryz.f323 [1,1,1,0,1,0,0,1,1,0,0,1,1]).toList.drop 2),.inBlock 1,.code (cw Tryz.f323 [1,1,1,0,1,0,0,1,1,1]),.inLoop (cw Tryz.f323 [1,1,1,0,1,0,0]),.inBlock 0,.code (cw Tryz.f323 [1,1,1,1])],[],none⟩],[.flat false [vi p.c5,.sl yU p.c6],.flat false [.int .u32 false p.c7,.int .u32 false p.c8,.int .u32 false p.c9,.int .u32 false p.c10,.int .u32 false p.c11,.int .u32 false p.c12,.int .u32 false p.c13,.int .u32 false p.c14,.int .u32 false p.Af,.int .u32 false p.c16,.int .u32 false p.Mk,.int .u32 false p.Ml,.int .u32 false p.c19,.int .u32 false p.c20,.int .u32 false p.c21,.int .u32 false p.c22],.dead]⟩
def aam(A:aK)(l:List (Int×List Int)):LT (Int×Int) Ll:=.need (A.k (@tt Unit) ()) (.more (.c0 ⟨0,l,(A.l l),0,(A.n (.int .u32) (A.k k_ ()) 0:Int),(A.n (.int .u32) (A.k k_ ()) 1:Int),(A.n (.int .u32) (A.k k_ ()) 2:Int),(A.n (.int .u32) (A.k k_ ()) 3:Int),(A.n (.int .u32) (A.k k_ ()) 4:Int),(A.n (.int .u32) (A.k k_ ()) 5:Int),(A.n (.int .u32) (A.k k_ ()) 6:Int),(A.n (.int .u32) (A.k k_ ()) 7:Int),(A.n (.int .u32) (A.k k_ ()) 8:Int),(A.n (.int .u32) (A.k k_ ()) 9:Int),(A.n (.int .u32) (A.k k_ ()) 10:Int),(A.n (.int .u32) (A.k k_ ()) 11:Int),(A.n (.int .u32) (A.k k_ ()) 12:Int),(A.n (.int .u32) (A.k k_ ()) 13:Int),(A.n (.int .u32) (A.k k_ ()) 14:Int),(A.n (.int .u32) (A.k k_ ()) 15:Int)⟩))
def vR(A:aK):Ll→LT (Int×Int) Ll
 | .c0 p=>.br (A.c .lss p.a3 p.a2) (.need (A.and (A.c .leq 0 p.a3) (A.c .lss p.a3 (A.l p.a1))) (.need (A.k (@tt ((Int×List Int))) (A.n (.struct [yI,yB]) p.a1 p.a3:Int×List Int)) (.br (A.c .neq (A.k lq (A.n (.struct [yI,yB]) p.a1 p.a3:Int×List Int)) 0) (.ret (0,(A.k lq (A.n (.struct [yI,yB]) p.a1 p.a3:Int×List Int)))) (.more (.c1 ⟨p.a1,p.a2,p.a3,p.a4,p.a5,p.a6,p.a7,p.a8,p.a9,p.cX,p.dN,p.a12,p.kp,p.gK,p.jh,p.a16,p.a17,p.je,p.l_,(A.n (.struct [yI,yB]) p.a1 p.a3:Int×List Int).1,(A.n (.struct [yI,yB]) p.a1 p.a3:Int×List Int).2⟩ p.a0 0))))) (.ret (p.a0,0))
 | .c1 p b0 b1=>.br (A.c .leq (A.b .add .i64 b1 4) p.yP) (.need (A.k (@tt ((Int×List Int)×Int×Int)) ((p.yP,p.GA),b1,4)) (.need (A.and (A.c .leq 0 (A.b .xor .u32 (A.b .shr .u32 b0 20) (A.v .u32 (A.k bO ((p.yP,p.GA),b1,4)).1))) (A.c .lss (A.b .xor .u32 (A.b .shr .u32 b0 20) (A.v .u32 (A.k bO ((p.yP,p.GA),b1,4)).1)) 16)) (.more (.c1 p (A.b .xor .u32 (A.b .and .u32 (A.b .shl .u32 b0 4) 16777215) (A.n (.int .u32) [p.b5,p.b6,p.b7,p.b8,p.b9,p.b10,p.b11,p.b12,p.b13,p.jN,p.fT,p.cY,p.iX,p.my,p.jO,p.mm] (A.b .xor .u32 (A.b .shr .u32 b0 20) (A.v .u32 (A.k bO ((p.yP,p.GA),b1,4)).1)):Int)) (A.b .add .i64 b1 4))))) (.more (.c2 ⟨p.b2,p.b3,p.b4,p.yP,p.GA,p.b5,p.b6,p.b7,p.b8,p.b9,p.b10,p.b11,p.b12,p.b13,p.jN,p.fT,p.cY,p.iX,p.my,p.jO,p.mm⟩ b0 b1))
 | .c2 p c0 c1=>.br (A.c .lss c1 p.c5) (.need (A.k (@tt ((Int×List Int)×Int×Int)) ((p.c5,p.c6),c1,1)) (.need (A.k (@tt Int) (A.b .xor .u32 c0 (A.b .shl .u32 (A.v .u32 (A.k bO ((p.c5,p.c6),c1,1)).1) 23))) (.more (.c2 p (A.k Be (A.b .xor .u32 c0 (A.b .shl .u32 (A.v .u32 (A.k bO ((p.c5,p.c6),c1,1)).1) 23))) (A.b .add .i64 c1 1))))) (.more (.c0 ⟨c0,p.c2,p.c3,(A.b .add .i64 p.c4 1),p.c7,p.c8,p.c9,p.c10,p.c11,p.c12,p.c13,p.c14,p.Af,p.c16,p.Mk,p.Ml,p.c19,p.c20,p.c21,p.c22⟩))
theorem HY{α β γ:Type}(f:α→β→γ){a a':α}{b b':β}(h1:a=a')(h2:b=b'):f a b=f a' b':=by rw[h1,h2]
def tbA(p:zj):Prop:=p.a4=0∧p.a5=6122955∧p.a6=12245910∧p.a7=15185501∧p.a8=2677479∧p.a9=7714604∧p.cX=9568625∧p.dN=13593786∧p.a12=5354958∧p.kp=841733∧p.gK=15429208∧p.jh=11928467∧p.a16=7958313∧p.a17=2360034∧p.je=12825791∧p.l_=10410356
def tbB(p:Iq):Prop:=p.b5=0∧p.b6=6122955∧p.b7=12245910∧p.b8=15185501∧p.b9=2677479∧p.b10=7714604∧p.b11=9568625∧p.b12=13593786∧p.b13=5354958∧p.jN=841733∧p.fT=15429208∧p.cY=11928467∧p.iX=7958313∧p.my=2360034∧p.jO=12825791∧p.mm=10410356
def tbC(p:Hu):Prop:=p.c7=0∧p.c8=6122955∧p.c9=12245910∧p.c10=15185501∧p.c11=2677479∧p.c12=7714604∧p.c13=9568625∧p.c14=13593786∧p.Af=5354958∧p.c16=841733∧p.Mk=15429208∧p.Ml=11928467∧p.c19=7958313∧p.c20=2360034∧p.c21=12825791∧p.c22=10410356
theorem sD{n a w:Nat}{b:List Int}(hok:dS ((n:Int),b)=true)(h:a+w≤n)(hw:w≤64)(hn:n≤4096):ah.k bO (((n:Int),b),(a:Int),(w:Int))=(((gw (unpack n b) a w:Nat):Int),0):=by
 rw[au,bO,Rm]
 simp only[hok,Bool.not_true,cond_false]
 rw[show decide ((w:Int)<0)=false from by simp,show decide (64<(w:Int))=false from by simp;omega,show decide ((a:Int)<0)=false from by simp,show decide ((n:Int)<(a:Int)+(w:Int))=false from by simp;omega]
 rfl
theorem Gl{l:List Bool}{a w:Nat}(h:a+w≤l.length):l.take (a+w)=l.take a++bitsOf (gw l a w) w:=by
 rw[O1 h,List.take_add]
theorem OF{n:Nat}(h:n<4294967296):ah.v .u32 (n:Int)=(n:Int):=by rw[bG,Te (by omega) (by omega)]
theorem Y3{l:List (Int×List Int)}{i n:Nat}{b:List Int}{R:Int×Int}{r0:Nat}(hr0:r0<16777216)(hok:dS ((n:Int),b)=true)(hn:n≤4096)(hll:l.length≤140737488355328)(hi:i<l.length)
  (hnext:∀(p:zj),tbA p→p.a1=l→p.a2=(l.length:Int)→p.a3=((i+1:Nat):Int)→p.a0=((over r0 (unpack n b):Nat):Int)→aB (vR ah) (.more (.c0 p)) R) :
  ∀(j k:Nat) (p:Hu),tbC p→p.c2=l→p.c3=(l.length:Int)→p.c4=(i:Int)→p.c5=(n:Int)→p.c6=b→n-k=j→k≤n→aB (vR ah) (.more (.c2 p ((over r0 ((unpack n b).take k):Nat):Int) (k:Int))) R:=by
 intro j
 induction j with
 | zero=>
   intro k p ht h2 h3 h4 h5 h6 hj hk
   have:k=n:=by omega
   subst this
   simp only[ak,vR]
   refine(ai (by rw[h5,aI];simp)).2 ?_
   rw[List.take_of_length_le (by rw[bA];exact Nat.le_refl _)]
   exact hnext _ ht h2 h3 (by show ah.b .add .i64 p.c4 1=_;rw[h4,cu (by omega)]) rfl
 | succ j ih=>
   intro k p ht h2 h3 h4 h5 h6 hj hk
   simp only[ak,vR]
   have hg:ah.k bO ((p.c5,p.c6),(k:Int),1)=(((gw (unpack n b) k 1:Nat):Int),0):=by
    rw[h5,h6];exact sD hok (w:=1) (by omega) (by decide) hn
   have hlt:=nq hr0 ((unpack n b).take k)
   have hf:=oX (unpack n b) k 1
   have hts:=Gl (l:=unpack n b) (a:=k) (w:=1) (by rw[bA];omega)
   obtain⟨x,hx⟩:∃x:Bool,gw (unpack n b) k 1=x.toNat:=by
    by_cases h0:gw (unpack n b) k 1=0
    ·exact⟨false,h0⟩
    ·exact⟨true,by rw[show true.toNat=1 from rfl];omega⟩
   have hbx:bitsOf x.toNat 1=[x]:=by cases x<;>rfl
   rw[hx,hbx] at hts
   have hsh:ah.b .xor .u32 ((over r0 ((unpack n b).take k):Nat):Int) (ah.b .shl .u32 (ah.v .u32 (ah.k bO ((p.c5,p.c6),(k:Int),1)).1) 23)=((over r0 ((unpack n b).take k) ^^^ (x.toNat*8388608):Nat):Int):=by
    rw[hg,hx,OF (by cases x<;>decide),show ah.b .shl .u32 ((x.toNat:Nat):Int) 23=((x.toNat*2^23:Nat):Int) from M3 (k:=23) (by decide) (by cases x<;>decide)]
    exact Jf (by omega) (by cases x<;>decide)
   have hxl:over r0 ((unpack n b).take k) ^^^ (x.toNat*8388608)<16777216:=Nat.xor_lt_two_pow (n:=24) hlt (by cases x<;>decide)
   have hc:ah.k Be (ah.b .xor .u32 ((over r0 ((unpack n b).take k):Nat):Int) (ah.b .shl .u32 (ah.v .u32 (ah.k bO ((p.c5,p.c6),(k:Int),1)).1) 23))=((over r0 ((unpack n b).take (k+1)):Nat):Int):=by
    rw[hsh,au,Ns hxl,Rl hlt,hts,jw,il,uY]
   refine(aj (by rw[h5,aI];simp;omega)).2 (af.2 ⟨rfl,af.2 ⟨rfl,?_⟩⟩)
   exact dJ (congrArg LT.more (congr (congrArg (Ll.c2 p) hc) (cu (by omega)))) (ih (k+1) p ht h2 h3 h4 h5 h6 (by omega) (by omega))
theorem aag{l:List (Int×List Int)}{i n:Nat}{b:List Int}{R:Int×Int}{r0:Nat}(hr0:r0<16777216)(hok:dS ((n:Int),b)=true)(hn:n≤4096)(hll:l.length≤140737488355328)(hi:i<l.length)
  (hnext:∀(p:zj),tbA p→p.a1=l→p.a2=(l.length:Int)→p.a3=((i+1:Nat):Int)→p.a0=((over r0 (unpack n b):Nat):Int)→aB (vR ah) (.more (.c0 p)) R) :
  ∀(j k:Nat) (p:Iq),tbB p→p.b2=l→p.b3=(l.length:Int)→p.b4=(i:Int)→p.yP=(n:Int)→p.GA=b→(n-k)/4=j→k≤n→aB (vR ah) (.more (.c1 p ((over r0 ((unpack n b).take k):Nat):Int) (k:Int))) R:=by
 intro j
 induction j with
 | zero=>
   intro k p ht h2 h3 h4 h5 h6 hj hk
   simp only[ak,vR]
   refine(ai (by rw[show ah.b .add .i64 (k:Int) 4=((k+4:Nat):Int) from eH (j:=4) (by omega),h5,nc];simp;omega)).2 ?_
   exact Y3 hr0 hok hn hll hi hnext (n-k) k _ ht h2 h3 h4 h5 h6 rfl hk
 | succ j ih=>
   intro k p ht h2 h3 h4 h5 h6 hj hk
   simp only[ak,vR]
   have hg:ah.k bO ((p.yP,p.GA),(k:Int),4)=(((gw (unpack n b) k 4:Nat):Int),0):=by
    rw[h5,h6];exact sD hok (w:=4) (by omega) (by decide) hn
   have hlt:=nq hr0 ((unpack n b).take k)
   have hf:=oX (unpack n b) k 4
   have hts:=Gl (l:=unpack n b) (a:=k) (w:=4) (by rw[bA];omega)
   have h4o:=Ly hlt (l:=bitsOf (gw (unpack n b) k 4) 4) (cZ _ _)
   rw[C4,Nat.mod_eq_of_lt hf,←jw,←hts] at h4o
   generalize hr:over r0 ((unpack n b).take k)=r at *
   generalize hv:gw (unpack n b) k 4=v at *
   have hix:ah.b .xor .u32 (ah.b .shr .u32 (r:Int) 20) (ah.v .u32 (ah.k bO ((p.yP,p.GA),(k:Int),4)).1)=((r/1048576 ^^^ v:Nat):Int):=by
    rw[hg,OF (by omega),show ah.b .shr .u32 (r:Int) 20=((r/2^20:Nat):Int) from Vp (n:=20) (by omega) (by decide)]
    exact Jf (by omega) (by omega)
   have hxl:r/1048576 ^^^ v<16:=KU ⟨r/1048576,by omega⟩ ⟨v,by omega⟩
   have htab:(ah.n (.int .u32) [p.b5,p.b6,p.b7,p.b8,p.b9,p.b10,p.b11,p.b12,p.b13,p.jN,p.fT,p.cY,p.iX,p.my,p.jO,p.mm] (((r/1048576 ^^^ v:Nat):Int)):Int)=((FH.getD (r/1048576 ^^^ v) 0:Nat):Int):=by
    rw[←PI ⟨r/1048576 ^^^ v,hxl⟩]
    obtain⟨t0,t1,t2,t3,t4,t5,t6,t7,t8,t9,t10,t11,t12,t13,t14,t15⟩:=ht
    show List.getD [p.b5,p.b6,p.b7,p.b8,p.b9,p.b10,p.b11,p.b12,p.b13,p.jN,p.fT,p.cY,p.iX,p.my,p.jO,p.mm] ((r/1048576 ^^^ v:Nat):Int).toNat 0=_
    rw[Int.toNat_natCast,t0,t1,t2,t3,t4,t5,t6,t7,t8,t9,t10,t11,t12,t13,t14,t15];rfl
   have hc:ah.b .xor .u32 (ah.b .and .u32 (ah.b .shl .u32 (r:Int) 4) 16777215) (ah.n (.int .u32) [p.b5,p.b6,p.b7,p.b8,p.b9,p.b10,p.b11,p.b12,p.b13,p.jN,p.fT,p.cY,p.iX,p.my,p.jO,p.mm] (ah.b .xor .u32 (ah.b .shr .u32 (r:Int) 20) (ah.v .u32 (ah.k bO ((p.yP,p.GA),(k:Int),4)).1)):Int)=((over r0 ((unpack n b).take (k+4)):Nat):Int):=by
    rw[hix]
    have e1:ah.b .and .u32 (ah.b .shl .u32 (r:Int) 4) 16777215=((16*r%16777216:Nat):Int):=by
     rw[show ah.b .shl .u32 (r:Int) 4=((r*2^4:Nat):Int) from M3 (k:=4) (by decide) (by omega),VN (by omega),Nat.mul_comm]
    refine(HY (ah.b .xor .u32) e1 htab).trans ?_
    rw[h4o]
    exact Jf (by omega) (by have:=Px ⟨_,hxl⟩;simp only at this;omega)
   refine(aj (by rw[show ah.b .add .i64 (k:Int) 4=((k+4:Nat):Int) from eH (j:=4) (by omega),h5,nc];simp;omega)).2 (af.2 ⟨rfl,af.2 ⟨?_,?_⟩⟩)
   ·rw[hix,ng,aG,al];simp;omega
   ·have:=ih (k+4) p ht h2 h3 h4 h5 h6 (by omega) (by omega)
    exact dJ (congrArg LT.more (congr (congrArg (Ll.c1 p) hc) (show ah.b .add .i64 (k:Int) 4=((k+4:Nat):Int) from eH (j:=4) (by omega)))) this
theorem aaX{l:List (Int×List Int)}(hll:l.length≤140737488355328)(hby:∀x∈l,dz x.2∧x.2.length≤140737488355328):∀(j i:Nat) (p:zj),tbA p→p.a1=l→p.a2=(l.length:Int)→p.a3=(i:Int)→p.a0=((over 0 ((l.take i).flatMap bJ):Nat):Int)→l.length-i=j→i≤l.length→(∀x∈l.take i,dS x=true)→aB (vR ah) (.more (.c0 p)) (Fi l):=by
 intro j
 induction j with
 | zero=>
   intro i p ht h1 h2 h3 h0 hj hi hok
   have:i=l.length:=by omega
   subst this
   rw[List.take_length] at hok h0
   simp only[ak,vR]
   refine(ai (by rw[h2,h3,aI];simp)).2 ?_
   rw[Fi,List.all_eq_true.2 hok,h0]
   exact .ret _
 | succ j ih=>
   intro i p ht h1 h2 h3 h0 hj hi hok
   have hi':i<l.length:=by omega
   have hmem:=List.getElem_mem hi'
   simp only[ak,vR]
   rw[h3]
   refine(aj (by rw[h2,aI];simp;omega)).2 (af.2 ⟨by rw[h1];exact aS hi',af.2 ⟨rfl,?_⟩⟩)
   obtain⟨n0,b,hx⟩:∃n0 b,l[i]=(n0,b):=⟨_,_,rfl⟩
   have hby':=hby _ hmem
   rw[hx] at hby'
   have hn1:(ah.n (.struct [(.int .i64),(.slice (.int .u8))]) p.a1 (i:Int):Int×List Int)=(n0,b):=by rw[h1,yz hi',hx]
   rw[hn1]
   have hc:ah.k lq (n0,b)=bif dS (n0,b) then 0 else 10:=nG hby'.1 hby'.2
   rw[hc]
   cases hb:dS (n0,b)
   ·refine(aj rfl).2 ?_
    rw[Fi,show l.all dS=false from List.all_eq_false.2 ⟨l[i],hmem,by rw[hx,hb];decide⟩]
    exact .ret _
   ·refine(ai rfl).2 ?_
    obtain⟨h4,h5,h6⟩:=(lg hby'.1).1 hb
    obtain⟨n,rfl⟩:=Int.eq_ofNat_of_zero_le h4
    have hlt:=nq (r:=0) (by decide) ((l.take i).flatMap bJ)
    have hm:=aag hlt hb (by omega) hll hi' (R:=Fi l) (fun p' g1 g2 g3 g4 g5=>ih (i+1) p' g1 g2 g3 g4 (by rw[g5,q8 hi',jw,hx];rfl) (by omega) (by omega) (by
     intro x hx2
     rw[List.take_succ_eq_append_getElem hi'] at hx2
     rcases List.mem_append.1 hx2 with h7|h7
     ·exact hok x h7
     ·rw[List.mem_singleton.1 h7,hx];exact hb)) (n/4) 0 ⟨p.a1,p.a2,(i:Int),p.a4,p.a5,p.a6,p.a7,p.a8,p.a9,p.cX,p.dN,p.a12,p.kp,p.gK,p.jh,p.a16,p.a17,p.je,p.l_,(n:Int),b⟩ ht h1 h2 rfl rfl rfl (by omega) (by omega)
    rw[List.take_zero,uY,←h0] at hm
    exact hm
theorem aiA{l:List (Int×List Int)}(h:Ty.cq [(.slice (.struct [(.int .i64),(.slice (.int .u8))]))] l):aB (vR ah) (aam ah l) (Fi l):=by
 unfold aam
 refine af.2 ⟨rfl,?_⟩
 exact aaX (tj h).1 (tj h).2 l.length 0 _ ⟨rfl,rfl,rfl,rfl,rfl,rfl,rfl,rfl,rfl,rfl,rfl,rfl,rfl,rfl,rfl,rfl⟩ rfl rfl rfl rfl (by omega) (by omega) (by intro x hx;cases hx)
def ky:(List (Int×List Int))→(Int×Int):=Fi
def afu:aC:=⟨[(.slice (.struct [yI,yB]))], [(.int .u32),yI],(@tt (List (Int×List Int))),ky⟩
theorem V7:Sd 323 afu:=aU ar bU true 30 [⟨323,4, [[4,5,10,11,12]]⟩,⟨345,2, [[0,2,4,7], [4,10,11,12]]⟩,⟨345,6, [[0,4,7], [4,10,11,12]]⟩] [] (fun A l=>aam A l) vR aaQ (fc Tryz.func323 (fc Tryz.func345 fz)) (sc F2 (sc JN (sc ada (sc VJ sz)))) (fun A y=>match y with |.c0 p=>⟨52,by kernel_rfl,by kernel_rfl⟩|.c1 p b0 b1=>⟨52,by kernel_rfl,by kernel_rfl⟩|.c2 p c0 c1=>⟨44,by kernel_rfl,by kernel_rfl⟩) fun l hp h=>aiA h
abbrev wD(A:aK)(bN:Int)(bB:List Int):=(A.k lQ ((bN,bB),0,(A.b .sub .i64 bN 24)))
def t139(A:aK)(bN:Int)(bB:List Int)(unsentN:Int)(unsentB:List Int):LT ((Int×List Int)×Int) Empty:=.need (A.k (@tt ((Int×List Int))) (bN,bB)) (.br (A.c .neq (A.k lq (bN,bB)) 0) (.ret ((0,([]:List Int)),10)) (.need (A.k (@tt ((Int×List Int))) (unsentN,unsentB)) (.br (A.c .neq (A.k lq (unsentN,unsentB)) 0) (.ret ((0,([]:List Int)),10)) (.br (A.c .lss bN 24) (.ret ((0,([]:List Int)),20)) (.need (A.k (@tt ((Int×List Int)×Int×Int)) ((bN,bB),0,(A.b .sub .i64 bN 24))) (.need (A.k (@tt ((Int×List Int)×Int×Int)) ((bN,bB),(wD A bN bB).1.1,24)) (.need (A.k (@tt (List (Int×List Int))) [(unsentN,unsentB),(wD A bN bB).1]) (.br (A.c .neq (A.k ky [(unsentN,unsentB),(wD A bN bB).1]).2 0) (.ret ((0,([]:List Int)),(A.k ky [(unsentN,unsentB),(wD A bN bB).1]).2)) (.br (A.c .neq (A.v .u64 (A.k ky [(unsentN,unsentB),(wD A bN bB).1]).1) (A.k bO ((bN,bB),(wD A bN bB).1.1,24)).1) (.ret ((0,([]:List Int)),21)) (.ret ((wD A bN bB).1,0)))))))))))
theorem Tk{n m:Int}{b u:List Int}(h:Ty.cq [(.struct [(.int .i64),(.slice (.int .u8))]),(.struct [(.int .i64),(.slice (.int .u8))])] ((n,b),(m,u))):aB Empty.elim (t139 ah n b m u) (RS ((n,b),(m,u))):=by
 have h1:Ty.has (.struct [(.int .i64),(.slice (.int .u8))]) (n,b):=h.1
 have h2:Ty.has (.struct [(.int .i64),(.slice (.int .u8))]) (m,u):=h.2
 have hb:=(jS h1).2.2
 have hl:=fH h1
 have hbu:=(jS h2).2.2
 have hlu:=fH h2
 unfold t139 wD
 rw[RS]
 have hc1:ah.c .neq (ah.k lq (n,b)) 0=!dS (n,b):=by rw[au,nG hb hl];cases dS (n,b)<;>rfl
 have hc2:ah.c .neq (ah.k lq (m,u)) 0=!dS (m,u):=by rw[au,nG hbu hlu];cases dS (m,u)<;>rfl
 refine af.2 ⟨rfl,?_⟩
 rw[hc1]
 cases ho1:dS (n,b)
 ·exact(aj rfl).2 (.ret _)
 refine(ai rfl).2 (af.2 ⟨rfl,?_⟩)
 rw[hc2]
 cases ho2:dS (m,u)
 ·exact(aj rfl).2 (.ret _)
 refine(ai rfl).2 ?_
 obtain⟨h3,h4,h5⟩:=(lg hb).1 ho1
 obtain⟨k,rfl⟩:=Int.eq_ofNat_of_zero_le h3
 by_cases h6:(k:Int)<24
 ·refine(aj (by rw[al];simp;omega)).2 ?_
  show aB _ _ (bif decide ((k:Int)<24) then(zB,20) else _)
  rw[show decide ((k:Int)<24)=true from by simpa using h6]
  exact .ret _
 refine(ai (by rw[al];simp;omega)).2 ?_
 show aB _ _ (bif decide ((k:Int)<24) then(zB,20) else _)
 rw[show decide ((k:Int)<24)=false from by simpa using h6,cond_false]
 have hkl:(bJ ((k:Int),b)).length=k:=by rw[oV];rfl
 have hsub:ah.b .sub .i64 (k:Int) 24=((k-24:Nat):Int):=nA (j:=24) (by omega) (by omega)
 have hfl:((bJ ((k:Int),b)).take (k-24)).length=k-24:=by rw[List.length_take,hkl];omega
 have hslice:ah.k lQ (((k:Int),b),0,ah.b .sub .i64 (k:Int) 24)=(pI ((bJ ((k:Int),b)).take (k-24)),0):=by
  rw[hsub,au,lQ,EE]
  simp only[ho1,Bool.not_true,cond_false]
  rw[show decide (((k-24:Nat):Int)<0)=false from by simp,show decide ((k:Int)<((k-24:Nat):Int))=false from by simp<;>omega]
  rfl
 have hP1:(pI ((bJ ((k:Int),b)).take (k-24))).1=((k-24:Nat):Int):=by show(((bJ ((k:Int),b)).take (k-24)).length:Int)=_;rw[hfl]
 have hget:ah.k bO (((k:Int),b),((k-24:Nat):Int),24)=(((gw (bJ ((k:Int),b)) (k-24) 24:Nat):Int),0):=by
  rw[au,bO,Rm]
  simp only[ho1,Bool.not_true,cond_false]
  rw[show decide (((k-24:Nat):Int)<0)=false from by simp,show decide ((k:Int)<((k-24:Nat):Int)+24)=false from by simp<;>omega]
  rfl
 have hsum:ah.k ky [(m,u),pI ((bJ ((k:Int),b)).take (k-24))]=(((over (over 0 (bJ (m,u))) ((bJ ((k:Int),b)).take (k-24)):Nat):Int),0):=by
  rw[au,ky,Fi]
  show(bif (dS (m,u)&&(dS (pI ((bJ ((k:Int),b)).take (k-24)))&&true)) then(((over 0 (bJ (m,u)++(bJ (pI ((bJ ((k:Int),b)).take (k-24))) ++ [])):Nat):Int),(0:Int)) else(0,10))=_
  rw[ho2,N5 (by rw[hfl];omega),KL,List.append_nil,jw]
  rfl
 have hu:=nq (r:=0) (by decide) (bJ (m,u))
 have hlt:=nq hu ((bJ ((k:Int),b)).take (k-24))
 have hfd:=oX (bJ ((k:Int),b)) (k-24) 24
 have hsplit:bJ ((k:Int),b)=(bJ ((k:Int),b)).take (k-24)++(bJ ((k:Int),b)).drop (k-24):=(List.take_append_drop _ _).symm
 have hd:((bJ ((k:Int),b)).drop (k-24)).length=24:=by rw[List.length_drop,hkl];omega
 have hfe:gw (bJ ((k:Int),b)) (k-24) 24=fh ((bJ ((k:Int),b)).drop (k-24)):=by rw[gw,List.take_of_length_le (by omega)]
 have hz:(over (over 0 (bJ (m,u))) (bJ ((k:Int),b)) != 0)=(((over (over 0 (bJ (m,u))) ((bJ ((k:Int),b)).take (k-24)):Nat):Int) != ((gw (bJ ((k:Int),b)) (k-24) 24:Nat):Int)):=by
  have:=QF (l:=(bJ ((k:Int),b)).take (k-24)) hu hd
  rw[←hsplit,←hfe] at this
  rw[Bool.eq_iff_iff,bne_iff_ne,bne_iff_ne,ne_eq,ne_eq,this]
  omega
 have e1:(ah.k lQ (((k:Int),b),0,ah.b .sub .i64 (k:Int) 24)).1.1=((k-24:Nat):Int):=by rw[hslice];exact hP1
 have e2:(ah.k ky [(m,u),(ah.k lQ (((k:Int),b),0,ah.b .sub .i64 (k:Int) 24)).1])=(((over (over 0 (bJ (m,u))) ((bJ ((k:Int),b)).take (k-24)):Nat):Int),0):=by rw[hslice];exact hsum
 have e3:(ah.k bO (((k:Int),b),(ah.k lQ (((k:Int),b),0,ah.b .sub .i64 (k:Int) 24)).1.1,24)).1=((gw (bJ ((k:Int),b)) (k-24) 24:Nat):Int):=by rw[e1,hget]
 refine af.2 ⟨rfl,af.2 ⟨rfl,af.2 ⟨rfl,?_⟩⟩⟩
 refine(ai (jG (congrArg Prod.snd e2))).2 ?_
 rw[hz,hkl]
 have hcmp:ah.c .neq (ah.v .u64 (ah.k ky [(m,u),(ah.k lQ (((k:Int),b),0,ah.b .sub .i64 (k:Int) 24)).1]).1) (ah.k bO (((k:Int),b),(ah.k lQ (((k:Int),b),0,ah.b .sub .i64 (k:Int) 24)).1.1,24)).1=(((over (over 0 (bJ (m,u))) ((bJ ((k:Int),b)).take (k-24)):Nat):Int) != ((gw (bJ ((k:Int),b)) (k-24) 24:Nat):Int)):=by
  rw[e3,e2,qH (by omega),aD]
 cases hx:(((over (over 0 (bJ (m,u))) ((bJ ((k:Int),b)).take (k-24)):Nat):Int) != ((gw (bJ ((k:Int),b)) (k-24) 24:Nat):Int))
 ·refine(ai (hcmp.trans hx)).2 ?_
  exact dJ (congrArg LT.ret (show((ah.k lQ (((k:Int),b),0,ah.b .sub .i64 (k:Int) 24)).1,0)=(pI ((bJ ((k:Int),b)).take (k-24)),0) by rw[hslice])) (.ret _)
 ·exact(aj (hcmp.trans hx)).2 (.ret _)
def lS:((Int×List Int)×(Int×List Int))→((Int×List Int)×Int):=RS
def abi:aC:=⟨[(.struct [yI,yB]),(.struct [yI,yB])], [(.struct [yI,yB]),yI],(@tt ((Int×List Int)×(Int×List Int))),lS⟩
theorem afa:Sd 287 abi:=aQ ar bU true 100 [] (fun A ((bN,bB),unsentN,unsentB)=>t139 A bN bB unsentN unsentB) (fc Tryz.func287 fz) (sc F2 (sc JN (sc Vq (sc V7 sz)))) fun((bN,bB),unsentN,unsentB) hp h=>Tk h
def Xp(A:aK)(cTime:Int)(cPos:Int)(cMode:Int)(cNext:Int)(cMember:Int):LT (List Int) Empty:=.ret [cTime,cPos,cMode,cNext,cMember]
def BG:((Int×Int×Int×Int×Int))→(List Int):=fun(cTime,cPos,cMode,cNext,cMember)=>(Xp ah cTime cPos cMode cNext cMember).val (Ty.bl [(.arr 5 yI)])
def abN:aC:=⟨[(.struct [yI,yI,yI,yI,yI])], [(.arr 5 yI)],(@tt ((Int×Int×Int×Int×Int))),BG⟩
theorem abW:Sd 174 abN:=aL ar bU true 26 [] (fun A (cTime,cPos,cMode,cNext,cMember)=>Xp A cTime cPos cMode cNext cMember) (fc Tryz.func174 fz) sz (fun((cTime,cPos,cMode,cNext,cMember):(Int×Int×Int×Int×Int)) hp h=>by
 show(Xp ah cTime cPos cMode cNext cMember).pre=true
 rfl)
structure Wp where
 (a0 a1 a2 a3 a4 a6 a7 a8 a9 cX:Int)
inductive Y87 where
 | c0 (p:Wp) (a5:Int)
noncomputable def agq:Y87→eF
 | .c0 p a5=>⟨[⟨98,36,(en [(5,.ptr 0 0),(21,.agg [vi p.a0,vi p.a1,vi p.a2,vi p.a3,vi p.a4]),(22,vi a5)]),[.inLoop (cw Tryz.f98 [1,1,1,0,1,0,0]),.inBlock 0,.code (cw Tryz.f98 [1,1,1,1])],[],none⟩],[.flat false [vi p.a6,vi p.a7,vi p.a8,vi p.a9,vi p.cX],.dead]⟩
def t87(A:aK)(cTime:Int)(cPos:Int)(cMode:Int)(cNext:Int)(cMember:Int)(n:Int):LT Int Y87:=.br (A.c .lss n 4) (.ret 2) (.br (A.c .gtr n 8) (.ret 2) (.need (A.c .leq 0 n) (.need (A.k (@tt ((Int×Int×Int×Int×Int))) (cTime,cPos,cMode,cNext,cMember)) (.more (.c0 ⟨(A.n yI (A.k BG (cTime,cPos,cMode,cNext,cMember)) 0:Int),(A.n yI (A.k BG (cTime,cPos,cMode,cNext,cMember)) 1:Int),(A.n yI (A.k BG (cTime,cPos,cMode,cNext,cMember)) 2:Int),(A.n yI (A.k BG (cTime,cPos,cMode,cNext,cMember)) 3:Int),(A.n yI (A.k BG (cTime,cPos,cMode,cNext,cMember)) 4:Int),255,(A.b .sub .i64 n 1),3,4,(A.b .sub .i64 (A.b .shl .i64 1 n) 1)⟩ 0)))))
def s87(A:aK):Y87→LT Int Y87
 | .c0 p a5=>.br (A.c .lss a5 5) (.need (A.and (A.c .leq 0 a5) (A.c .lss a5 5)) (.br (A.c .lss (A.n yI [p.a0,p.a1,p.a2,p.a3,p.a4] a5:Int) 0) (.ret 40) (.need (A.and (A.c .leq 0 a5) (A.c .lss a5 5)) (.br (A.c .gtr (A.n yI [p.a0,p.a1,p.a2,p.a3,p.a4] a5:Int) (A.n yI [p.a6,p.a7,p.a8,p.a9,p.cX] a5:Int)) (.ret 40) (.more (.c0 p (A.b .add .i64 a5 1))))))) (.ret 0)
theorem VL{k:Nat}(hk:k≤60):ah.b .shl .i64 1 (k:Int)=((2^k:Nat):Int):=by
 show IntKind.i64.wrap ((1:Int)*2^min (k:Int).toNat 64)=_
 have:2^k≤2^60:=Nat.pow_le_pow_right (by decide) hk
 have e:(2:Int)^k=((2^k:Nat):Int):=by simp
 rw[Int.toNat_natCast,Nat.min_eq_left (by omega),Int.one_mul,e]
 generalize 2^k=q at this
 rw[gZ (by omega) (by omega)]
theorem acC{u v x:Int}(h:u=v):ah.c .lss u x=decide (v<x):=by rw[h];rfl
theorem afo{u u' v v':Int}(h1:u=u')(h2:v=v'):ah.c .gtr u v=decide (v'<u'):=by rw[h1,h2];rfl
theorem qo{p:Wp}{i v m r:Int}(h0:0≤i)(h5:i<5)(hv:(ah.n (.int .i64) [p.a0,p.a1,p.a2,p.a3,p.a4] i:Int)=v)(hm:(ah.n (.int .i64) [p.a6,p.a7,p.a8,p.a9,p.cX] i:Int)=m)
  (h1:(decide (0≤v)&&decide (v≤m))=true→aB (s87 ah) (.more (.c0 p (i+1))) r) (h2:(decide (0≤v)&&decide (v≤m))=false→r=40):aB (s87 ah) (.more (.c0 p i)) r:=by
 rw[ak,s87]
 have hn:ah.and (ah.c .leq 0 i) (ah.c .lss i 5)=true:=by rw[aG,ap,al];simp;omega
 refine(aj (by rw[al];simpa using h5)).2 (af.2 ⟨hn,?_⟩)
 by_cases h3:v<0
 ·refine(aj ((acC hv).trans (by simpa using h3))).2 ?_
  rw[h2 (by rw[show decide (0≤v)=false from by simp;omega];rfl)]
  exact .ret _
 ·refine(ai ((acC hv).trans (by simpa using h3))).2 (af.2 ⟨hn,?_⟩)
  by_cases h4:m<v
  ·refine(aj ((afo hv hm).trans (by simpa using h4))).2 ?_
   rw[h2 (by rw[show decide (v≤m)=false from by simp;omega,Bool.and_false])]
   exact .ret _
  ·refine(ai ((afo hv hm).trans (by simpa using h4))).2 ?_
   rw[bd,gZ (by omega) (by omega)]
   exact h1 (by simp;omega)
theorem aiv{t po m n s k:Int}:aB (s87 ah) (t87 ah t po m n s k) (jW ((t,po,m,n,s),k)):=by
 unfold t87
 rw[jW]
 by_cases h1:k<4
 ·refine(aj (by rw[al];simpa using h1)).2 ?_
  rw[show decide (k<4)=true from by simpa using h1]
  exact .ret _
 refine(ai (by rw[al];simpa using h1)).2 ?_
 by_cases h2:8<k
 ·refine(aj (by rw[aH];simpa using h2)).2 ?_
  rw[show decide (8<k)=true from by simpa using h2,Bool.or_true]
  exact .ret _
 refine(ai (by rw[aH];simpa using h2)).2 (af.2 ⟨by rw[ap];simp;omega,af.2 ⟨rfl,?_⟩⟩)
 rw[show decide (k<4)=false from by simpa using h1,show decide (8<k)=false from by simpa using h2,Bool.or_false,cond_false]
 have hk1:ah.b .sub .i64 k 1=k-1:=by rw[bf,gZ (by omega) (by omega)]
 have hk2:ah.b .sub .i64 (ah.b .shl .i64 1 k) 1=2^k.toNat-1:=by
  obtain⟨j,rfl⟩:=Int.eq_ofNat_of_zero_le (show 0≤k by omega)
  have hq:2^j≤2^60:=Nat.pow_le_pow_right (by decide) (by omega)
  have hq0:=Nat.two_pow_pos j
  have e:(2:Int)^j=((2^j:Nat):Int):=by simp
  rw[VL (by omega),Int.toNat_natCast,e]
  generalize 2^j=q at hq hq0
  rw[bf,gZ (by omega) (by omega)]
 rw[hk1,hk2]
 refine qo (v:=t) (m:=255) (by decide) (by decide) rfl rfl (fun g=>?_) (fun g=>by rw[g];rfl)
 rw[g,Bool.true_and]
 refine qo (i:=1) (v:=po) (m:=k-1) (by decide) (by decide) rfl rfl (fun g=>?_) (fun g=>by rw[g];rfl)
 rw[g,Bool.true_and]
 refine qo (i:=2) (v:=m) (m:=3) (by decide) (by decide) rfl rfl (fun g=>?_) (fun g=>by rw[g];rfl)
 rw[g,Bool.true_and]
 refine qo (i:=3) (v:=n) (m:=4) (by decide) (by decide) rfl rfl (fun g=>?_) (fun g=>by rw[g];rfl)
 rw[g,Bool.true_and]
 refine qo (i:=4) (v:=s) (m:=2^k.toNat-1) (by decide) (by decide) rfl rfl (fun g=>?_) (fun g=>by rw[g];rfl)
 rw[g,ak,s87]
 exact(ai rfl).2 (.ret _)
def nQ:((Int×Int×Int×Int×Int)×Int)→Int:=jW
def ahg:aC:=⟨[(.struct [yI,yI,yI,yI,yI]),yI], [yI],(@tt ((Int×Int×Int×Int×Int)×Int)),nQ⟩
theorem CY:Sd 98 ahg:=aU ar bU true 43 [⟨98,5, [[5,21,22]]⟩] [] (fun A ((cTime,cPos,cMode,cNext,cMember),n)=>t87 A cTime cPos cMode cNext cMember n) s87 agq (fc Tryz.func98 fz) (sc abW sz) (fun A y=>match y with |.c0 p a5=>⟨41,by kernel_rfl,by kernel_rfl⟩) fun((cTime,cPos,cMode,cNext,cMember),n) hp h=>aiv
def t42(A:aK)(cTime:Int)(cPos:Int)(cMode:Int)(cNext:Int)(cMember:Int)(n:Int):LT Int Empty:=.br (A.c .lss n 4) (.ret 2) (.br (A.c .gtr n 8) (.ret 2) (.br (A.c .lss cTime 0) (.ret 40) (.br (A.c .gtr cTime 255) (.ret 40) (.br (A.c .lss cPos 0) (.ret 40) (.br (A.c .geq cPos n) (.ret 40) (.br (A.c .lss cMode 0) (.ret 40) (.br (A.c .geq cMode 4) (.ret 40) (.br (A.c .lss cNext 0) (.ret 40) (.br (A.c .gtr cNext 4) (.ret 40) (.br (A.c .lss cMember 0) (.ret 40) (.need (A.c .leq 0 (A.v .u64 n)) (.br (A.c .geq cMember (A.b .shl .i64 1 (A.v .u64 n))) (.ret 40) (.ret 0)))))))))))))
theorem agM{t po m n s k:Int}:aB Empty.elim (t42 ah t po m n s k) (jW ((t,po,m,n,s),k)):=by
 unfold t42
 rw[jW]
 by_cases h1:k<4
 ·refine(aj (by rw[al];simpa using h1)).2 ?_
  rw[show decide (k<4)=true from by simpa using h1]
  exact .ret _
 refine(ai (by rw[al];simpa using h1)).2 ?_
 by_cases h2:8<k
 ·refine(aj (by rw[aH];simpa using h2)).2 ?_
  rw[show decide (8<k)=true from by simpa using h2,Bool.or_true]
  exact .ret _
 refine(ai (by rw[aH];simpa using h2)).2 ?_
 rw[show decide (k<4)=false from by simpa using h1,show decide (8<k)=false from by simpa using h2,Bool.or_false,cond_false]
 obtain⟨j,rfl⟩:=Int.eq_ofNat_of_zero_le (show 0≤k by omega)
 have e:(2:Int)^j=((2^j:Nat):Int):=by simp
 rw[qH (by omega),VL (by omega),Int.toNat_natCast,e]
 have hx:∀{x:Bool},x=false→(40:Int)=bif x then 0 else 40:=fun h=>by rw[h];rfl
 by_cases g1:t<0
 ·refine(aj (by rw[al];simpa using g1)).2 (fE.2 (hx (by simp;omega)))
 refine(ai (by rw[al];simpa using g1)).2 ?_
 by_cases g2:255<t
 ·refine(aj (by rw[aH];simpa using g2)).2 (fE.2 (hx (by simp;omega)))
 refine(ai (by rw[aH];simpa using g2)).2 ?_
 by_cases g3:po<0
 ·refine(aj (by rw[al];simpa using g3)).2 (fE.2 (hx (by simp;omega)))
 refine(ai (by rw[al];simpa using g3)).2 ?_
 by_cases g4:(j:Int)≤po
 ·refine(aj (by rw[aN];simpa using g4)).2 (fE.2 (hx (by simp;omega)))
 refine(ai (by rw[aN];simpa using g4)).2 ?_
 by_cases g5:m<0
 ·refine(aj (by rw[al];simpa using g5)).2 (fE.2 (hx (by simp;omega)))
 refine(ai (by rw[al];simpa using g5)).2 ?_
 by_cases g6:4≤m
 ·refine(aj (by rw[aN];simpa using g6)).2 (fE.2 (hx (by simp;omega)))
 refine(ai (by rw[aN];simpa using g6)).2 ?_
 by_cases g7:n<0
 ·refine(aj (by rw[al];simpa using g7)).2 (fE.2 (hx (by simp;omega)))
 refine(ai (by rw[al];simpa using g7)).2 ?_
 by_cases g8:4<n
 ·refine(aj (by rw[aH];simpa using g8)).2 (fE.2 (hx (by simp;omega)))
 refine(ai (by rw[aH];simpa using g8)).2 ?_
 by_cases g9:s<0
 ·refine(aj (by rw[al];simpa using g9)).2 (fE.2 (hx (by simp;omega)))
 refine(ai (by rw[al];simpa using g9)).2 (af.2 ⟨ng,?_⟩)
 have hy:∀{x:Bool},x=true→(0:Int)=bif x then 0 else 40:=fun h=>by rw[h];rfl
 generalize ((2^j:Nat):Int)=q
 by_cases g10:q≤s
 ·refine(aj (by rw[aN];simpa using g10)).2 (fE.2 (hx (by simp;omega)))
 refine(ai (by rw[aN];simpa using g10)).2 (fE.2 (hy (by simp;omega)))
def Zq:((Int×Int×Int×Int×Int)×Int)→Int:=jW
def ahn:aC:=⟨[(.struct [yI,yI,yI,yI,yI]),yI], [yI],(@tt ((Int×Int×Int×Int×Int)×Int)),Zq⟩
theorem ahp:Sd 207 ahn:=aQ ar bU true 85 [] (fun A ((cTime,cPos,cMode,cNext,cMember),n)=>t42 A cTime cPos cMode cNext cMember n) (fc Tryz.func207 fz) sz fun((cTime,cPos,cMode,cNext,cMember),n) hp h=>agM
structure NF where
 (a0 a1 a2 a3 a4 a5 a6 a7 a8 a9 cX dN a12:Int)
structure JR where
 (b0 b1 b2 b3 b4 b6 b9 b10 b11 b12 b13:Int)
inductive Y90 where
 | c0 (p:NF)
 | c1 (p:JR) (b5:Int) (b7:Int) (b8:List Int)
noncomputable def aeJ:Y90→eF
 | .c0 p=>⟨[⟨239,38,(en [(2,.ptr 0 0),(4,.ptr 1 0),(5,.ptr 2 0),(16,.agg [vi p.a0,vi p.a1,vi p.a2,vi p.a3,vi p.a4]),(17,vi p.a5)]),[.inLoop (cw Tryz.f239 [1,1,1,1,0,1,0,0]),.inBlock 0,.code (cw Tryz.f239 [1,1,1,1,1])],[],none⟩],[.flat false [vi p.a6,.dq true],.flat false [vi p.a7,.dq true],.flat false [vi p.a8,vi p.a9,vi p.cX,vi p.dN,vi p.a12],.dead]⟩
 | .c1 p b5 b7 b8=>⟨[⟨239,38,(en [(2,.ptr 0 0),(4,.ptr 1 0),(5,.ptr 2 0),(16,.agg [vi p.b0,vi p.b1,vi p.b2,vi p.b3,vi p.b4]),(17,vi b5)]),[.inLoop (cw Tryz.f239 [1,1,1,1,0,1,0,0]),.inBlock 0,.code (cw Tryz.f239 [1,1,1,1,1])],[],none⟩],[.flat false [vi p.b6,.dq true],.flat false [vi b7,.sl yU b8],.flat false [vi p.b9,vi p.b10,vi p.b11,vi p.b12,vi p.b13],.dead]⟩
def t90(A:aK)(cTime:Int)(cPos:Int)(cMode:Int)(cNext:Int)(cMember:Int):LT ((Int×List Int)×Int) Y90:=.need (A.k (@tt ((Int×Int×Int×Int×Int)×Int)) ((cTime,cPos,cMode,cNext,cMember),8)) (.br (A.c .neq (A.k nQ ((cTime,cPos,cMode,cNext,cMember),8)) 0) (.ret ((0,([]:List Int)),40)) (.more (.c0 ⟨cTime,cPos,cMode,cNext,cMember,0,0,0,8,3,2,3,8⟩)))
abbrev Cx(A:aK)(p:NF):=(A.k qO ((p.a7,([]:List Int)),(A.v .u64 (A.n yI [p.a0,p.a1,p.a2,p.a3,p.a4] p.a5:Int)),(A.n yI [p.a8,p.a9,p.cX,p.dN,p.a12] p.a5:Int)))
abbrev QN(A:aK)(p:NF):=(A.k (@tt ((Int×List Int)×Int×Int)) ((p.a7,([]:List Int)),(A.v .u64 (A.n yI [p.a0,p.a1,p.a2,p.a3,p.a4] p.a5:Int)),(A.n yI [p.a8,p.a9,p.cX,p.dN,p.a12] p.a5:Int)))
abbrev D2(A:aK)(p:JR)(b5:Int)(b7:Int)(b8:List Int):=(A.k qO ((b7,b8),(A.v .u64 (A.n yI [p.b0,p.b1,p.b2,p.b3,p.b4] b5:Int)),(A.n yI [p.b9,p.b10,p.b11,p.b12,p.b13] b5:Int)))
abbrev ME(A:aK)(p:JR)(b5:Int)(b7:Int)(b8:List Int):=(A.k (@tt ((Int×List Int)×Int×Int)) ((b7,b8),(A.v .u64 (A.n yI [p.b0,p.b1,p.b2,p.b3,p.b4] b5:Int)),(A.n yI [p.b9,p.b10,p.b11,p.b12,p.b13] b5:Int)))
def X_(A:aK):Y90→LT ((Int×List Int)×Int) Y90
 | .c0 p=>.br (A.c .lss p.a5 5) (.need (A.and (A.c .leq 0 p.a5) (A.c .lss p.a5 5)) (.need (A.and (A.c .leq 0 p.a5) (A.c .lss p.a5 5)) (.need (QN A p) (.need (QN A p) (.need (A.and (A.c .leq 0 p.a5) (A.c .lss p.a5 5)) (.br (A.c .neq (Cx A p).2 0) (.ret ((0,([]:List Int)),(Cx A p).2)) (.more (.c1 ⟨p.a0,p.a1,p.a2,p.a3,p.a4,p.a6,p.a8,p.a9,p.cX,p.dN,p.a12⟩ (A.b .add .i64 p.a5 1) (Cx A p).1.1 (Cx A p).1.2)))))))) (.ret ((p.a7,([]:List Int)),0))
 | .c1 p b5 b7 b8=>.br (A.c .lss b5 5) (.need (A.and (A.c .leq 0 b5) (A.c .lss b5 5)) (.need (A.and (A.c .leq 0 b5) (A.c .lss b5 5)) (.need (ME A p b5 b7 b8) (.need (ME A p b5 b7 b8) (.need (A.and (A.c .leq 0 b5) (A.c .lss b5 5)) (.br (A.c .neq (D2 A p b5 b7 b8).2 0) (.ret ((0,([]:List Int)),(D2 A p b5 b7 b8).2)) (.more (.c1 p (A.b .add .i64 b5 1) (D2 A p b5 b7 b8).1.1 (D2 A p b5 b7 b8).1.2)))))))) (.ret ((b7,b8),0))
theorem ND{v w:Nat}{l:List Bool}(hv:v<2^w)(hw:w≤64)(hl:l.length+w≤4096):La (pI l,(v:Int),(w:Int))=(pI (l++bitsOf v w),0):=by
 rw[La]
 simp only[N5 (l:=l) (by omega),Bool.not_true,cond_false,KL,Int.toNat_natCast]
 rw[Dp (by omega),Int.toNat_natCast,Nat.div_eq_of_lt hv,show decide ((w:Int)<0)=false from by simp,show decide (64<(w:Int))=false from by simp;omega,Br (by rw[List.length_append,cZ];exact hl)]
 rfl
theorem xF{p:JR}{i:Int}{v w:Nat}{l:List Bool}{r:(Int×List Int)×Int}(h0:0≤i)(h5:i<5)(hv:(ah.n (.int .i64) [p.b0,p.b1,p.b2,p.b3,p.b4] i:Int)=(v:Int))(hw:(ah.n (.int .i64) [p.b9,p.b10,p.b11,p.b12,p.b13] i:Int)=(w:Int))(hvw:v<2^w)(hw8:w≤8)(hl:l.length≤100)
  (h:aB (X_ ah) (.more (.c1 p (i+1) (pI (l++bitsOf v w)).1 (pI (l++bitsOf v w)).2)) r):aB (X_ ah) (.more (.c1 p i (pI l).1 (pI l).2)) r:=by
 rw[ak,X_]
 have hn:ah.and (ah.c .leq 0 i) (ah.c .lss i 5)=true:=by rw[aG,ap,al];simp;omega
 have hp:=Nat.pow_le_pow_right (n:=2) (by decide) hw8
 have hc:ah.k qO (((pI l).1,(pI l).2),(ah.v .u64 (ah.n (.int .i64) [p.b0,p.b1,p.b2,p.b3,p.b4] i:Int)),(ah.n (.int .i64) [p.b9,p.b10,p.b11,p.b12,p.b13] i:Int))=(pI (l++bitsOf v w),0):=by
  rw[show(ah.v .u64 (ah.n (.int .i64) [p.b0,p.b1,p.b2,p.b3,p.b4] i:Int))=(v:Int) from(congrArg (ah.v .u64) hv).trans (qH (by omega)),hw]
  exact ND hvw (by omega) (by omega)
 refine(aj (by rw[al];simpa using h5)).2 (af.2 ⟨hn,af.2 ⟨hn,af.2 ⟨rfl,?_⟩⟩⟩)
 repeat (first|refine af.2 ⟨rfl,?_⟩|refine af.2 ⟨hn,?_⟩)
 refine(ai (jG (congrArg Prod.snd hc))).2 ?_
 refine dJ (congrArg LT.more (congr (congr (congrArg (Y90.c1 p) ?_) (congrArg (fun z=>z.1.1) hc)) (congrArg (fun z=>z.1.2) hc))) h
 rw[bd,gZ (by omega) (by omega)]
theorem TH{t po m n s:Int}:aB (X_ ah) (t90 ah t po m n s) (Dm (t,po,m,n,s)):=by
 unfold t90
 rw[Dm]
 refine af.2 ⟨rfl,?_⟩
 have hchk:ah.k nQ ((t,po,m,n,s),8)=bif pO (t,po,m,n,s) then 0 else 40:=G_ (t,po,m,n,s)
 cases hok:pO (t,po,m,n,s)
 ·rw[hok] at hchk
  exact(aj (oi (by rw[hchk];decide))).2 (.ret _)
 rw[hok] at hchk
 refine(ai (jG hchk)).2 ?_
 rw[Gc] at hok
 obtain⟨t,rfl⟩:=Int.eq_ofNat_of_zero_le hok.1.1
 obtain⟨po,rfl⟩:=Int.eq_ofNat_of_zero_le hok.2.1.1
 obtain⟨m,rfl⟩:=Int.eq_ofNat_of_zero_le hok.2.2.1.1
 obtain⟨n,rfl⟩:=Int.eq_ofNat_of_zero_le hok.2.2.2.1.1
 obtain⟨s,rfl⟩:=Int.eq_ofNat_of_zero_le hok.2.2.2.2.1
 have hc:ah.k qO (((0:Int),([]:List Int)),(ah.v .u64 (t:Int)),8)=(pI ([]++bitsOf t 8),0):=by
  rw[qH (by omega)]
  exact ND (l:=[]) (v:=t) (w:=8) (by omega) (by decide) (by decide)
 rw[ak,X_]
 refine(aj rfl).2 (af.2 ⟨rfl,af.2 ⟨rfl,af.2 ⟨rfl,?_⟩⟩⟩)
 repeat (refine af.2 ⟨rfl,?_⟩)
 refine(ai (jG (congrArg Prod.snd hc))).2 ?_
 refine dJ (congrArg LT.more (congr (congr (congrArg (Y90.c1 _) (show ah.b .add .i64 0 1=1 from rfl)) (congrArg (fun z=>z.1.1) hc)) (congrArg (fun z=>z.1.2) hc))) ?_
 refine xF (v:=po) (w:=3) (by decide) (by decide) rfl rfl (by omega) (by decide) (by simp[cZ]) ?_
 refine xF (i:=2) (v:=m) (w:=2) (by decide) (by decide) rfl rfl (by omega) (by decide) (by simp[cZ]) ?_
 refine xF (i:=3) (v:=n) (w:=3) (by decide) (by decide) rfl rfl (by omega) (by decide) (by simp[cZ]) ?_
 refine xF (i:=4) (v:=s) (w:=8) (by decide) (by decide) rfl rfl (by omega) (by decide) (by simp[cZ]) ?_
 rw[ak,X_]
 refine(ai rfl).2 ?_
 rw[show[]++bitsOf t 8++bitsOf po 3++bitsOf m 2++bitsOf n 3++bitsOf s 8=IG ((t:Int),(po:Int),(m:Int),(n:Int),(s:Int)) from by
  simp only[IG,Int.toNat_natCast,List.append_assoc,List.nil_append]]
 exact .ret _
def qq:((Int×Int×Int×Int×Int))→((Int×List Int)×Int):=Dm
def aiu:aC:=⟨[(.struct [yI,yI,yI,yI,yI])], [(.struct [yI,yB]),yI],(@tt ((Int×Int×Int×Int×Int))),qq⟩
theorem aga:Sd 239 aiu:=aU ar bU true 71 [⟨239,6, [[2,4,5,16,17]]⟩] [] (fun A (cTime,cPos,cMode,cNext,cMember)=>t90 A cTime cPos cMode cNext cMember) X_ aeJ (fc Tryz.func239 (fc Tryz.func174 (fc Tryz.func285 fz))) (sc CY (sc Ra sz)) (fun A y=>match y with |.c0 p=>⟨55,by kernel_rfl,by kernel_rfl⟩|.c1 p b5 b7 b8=>⟨55,by kernel_rfl,by kernel_rfl⟩) fun(cTime,cPos,cMode,cNext,cMember) hp h=>TH
structure XX where
 (a1 a2 a3 a4 a5 a7:Int) (a8:List Int) (a9 cX dN a12 kp:Int)
inductive DC where
 | c0 (p:XX) (a0:Int) (a6:Int) (gK:Int) (jh:Int) (a16:Int) (a17:Int) (je:Int)
noncomputable def aaH:DC→eF
 | .c0 p a0 a6 gK jh a16 a17 je=>⟨[⟨242,61,(en [(1,.ptr 0 0),(2,.ptr 1 0),(4,.ptr 2 0),(5,vi a0),(21,.agg [vi p.a1,vi p.a2,vi p.a3,vi p.a4,vi p.a5]),(22,vi a6)]),[.inLoop (cw Tryz.f242 [1,1,1,1,0,1,0,0]),.inBlock 1,.code (cw Tryz.f242 [1,1,1,1,1])],[],none⟩],[.flat false [vi p.a7,.sl yU p.a8],.flat false [vi p.a9,vi p.cX,vi p.dN,vi p.a12,vi p.kp],.flat false [vi gK,vi jh,vi a16,vi a17,vi je],.dead]⟩
def Xa(A:aK)(bN:Int)(bB:List Int):LT ((Int×Int×Int×Int×Int)×Int) DC:=.need (A.k (@tt ((Int×List Int))) (bN,bB)) (.br (A.c .neq (A.k lq (bN,bB)) 0) (.ret ((0,0,0,0,0),10)) (.br (A.c .neq bN 24) (.ret ((0,0,0,0,0),40)) (.more (.c0 ⟨8,3,2,3,8,bN,bB,0,0,0,0,0⟩ 0 0 0 0 0 0 0))))
def CU(A:aK):DC→LT ((Int×Int×Int×Int×Int)×Int) DC
 | .c0 p a0 a6 gK jh a16 a17 je=>.br (A.c .lss a6 5) (.need (A.and (A.c .leq 0 a6) (A.c .lss a6 5)) (.need (A.k (@tt ((Int×List Int)×Int×Int)) ((p.a7,p.a8),a0,(A.n yI [p.a1,p.a2,p.a3,p.a4,p.a5] a6:Int))) (.br (A.c .neq (A.k bO ((p.a7,p.a8),a0,(A.n yI [p.a1,p.a2,p.a3,p.a4,p.a5] a6:Int))).2 0) (.ret ((0,0,0,0,0),(A.k bO ((p.a7,p.a8),a0,(A.n yI [p.a1,p.a2,p.a3,p.a4,p.a5] a6:Int))).2)) (.need (A.and (A.c .leq 0 a6) (A.c .lss a6 5)) (.more (.c0 p (A.b .add .i64 a0 (A.n yI [p.a1,p.a2,p.a3,p.a4,p.a5] a6:Int)) (A.b .add .i64 a6 1) (A.n yI (A.set [gK,jh,a16,a17,je] a6 (A.v .i64 (A.k bO ((p.a7,p.a8),a0,(A.n yI [p.a1,p.a2,p.a3,p.a4,p.a5] a6:Int))).1)) 0:Int) (A.n yI (A.set [gK,jh,a16,a17,je] a6 (A.v .i64 (A.k bO ((p.a7,p.a8),a0,(A.n yI [p.a1,p.a2,p.a3,p.a4,p.a5] a6:Int))).1)) 1:Int) (A.n yI (A.set [gK,jh,a16,a17,je] a6 (A.v .i64 (A.k bO ((p.a7,p.a8),a0,(A.n yI [p.a1,p.a2,p.a3,p.a4,p.a5] a6:Int))).1)) 2:Int) (A.n yI (A.set [gK,jh,a16,a17,je] a6 (A.v .i64 (A.k bO ((p.a7,p.a8),a0,(A.n yI [p.a1,p.a2,p.a3,p.a4,p.a5] a6:Int))).1)) 3:Int) (A.n yI (A.set [gK,jh,a16,a17,je] a6 (A.v .i64 (A.k bO ((p.a7,p.a8),a0,(A.n yI [p.a1,p.a2,p.a3,p.a4,p.a5] a6:Int))).1)) 4:Int))))))) (.need (A.k (@tt ((Int×Int×Int×Int×Int)×Int)) ((gK,jh,a16,a17,je),8)) (.br (A.c .neq (A.k nQ ((gK,jh,a16,a17,je),8)) 0) (.ret ((0,0,0,0,0),40)) (.ret ((gK,jh,a16,a17,je),0))))
theorem QS{n:Int}{b:List Int}(h:Ty.cq [(.struct [(.int .i64),(.slice (.int .u8))])] (n,b)):aB (CU ah) (Xa ah n b) (yO (n,b)):=by
 have hb:=(jS h).2.2
 have hl:=fH h
 unfold Xa
 rw[yO]
 refine af.2 ⟨rfl,?_⟩
 have hc:ah.c .neq (ah.k lq (n,b)) 0=!dS (n,b):=by
  rw[au,nG hb hl];cases dS (n,b)<;>rfl
 rw[hc]
 cases hok:dS (n,b)
 ·exact(aj rfl).2 (.ret _)
 refine(ai rfl).2 ?_
 rw[Bool.not_true,cond_false]
 show aB (CU ah) _ (bif n != 24 then(zS,40) else _)
 by_cases h24:n=24
 ·subst h24
  refine(ai rfl).2 ?_
  rw[show((24:Int) != 24)=false from rfl,cond_false]
  have l0:=oX (bJ (24,b)) 0 8
  have g0:ah.k bO ((24,b),0,8)=(((gw (bJ (24,b)) 0 8:Nat):Int),0):=sD (n:=24) (a:=0) (w:=8) hok (by decide) (by decide) (by decide)
  have l1:=oX (bJ (24,b)) 8 3
  have g1:ah.k bO ((24,b),8,3)=(((gw (bJ (24,b)) 8 3:Nat):Int),0):=sD (n:=24) (a:=8) (w:=3) hok (by decide) (by decide) (by decide)
  have l2:=oX (bJ (24,b)) 11 2
  have g2:ah.k bO ((24,b),11,2)=(((gw (bJ (24,b)) 11 2:Nat):Int),0):=sD (n:=24) (a:=11) (w:=2) hok (by decide) (by decide) (by decide)
  have l3:=oX (bJ (24,b)) 13 3
  have g3:ah.k bO ((24,b),13,3)=(((gw (bJ (24,b)) 13 3:Nat):Int),0):=sD (n:=24) (a:=13) (w:=3) hok (by decide) (by decide) (by decide)
  have l4:=oX (bJ (24,b)) 16 8
  have g4:ah.k bO ((24,b),16,8)=(((gw (bJ (24,b)) 16 8:Nat):Int),0):=sD (n:=24) (a:=16) (w:=8) hok (by decide) (by decide) (by decide)
  rw[ak,CU]
  refine(aj rfl).2 (af.2 ⟨rfl,af.2 ⟨rfl,(ai (jG (congrArg Prod.snd (show ah.k bO ((24,b),0,8)=(((gw (bJ (24,b)) 0 8:Nat):Int),0) from g0)))).2 (af.2 ⟨rfl,?_⟩)⟩⟩)
  refine dJ (t':=.more (.c0 ⟨8,3,2,3,8,24,b,0,0,0,0,0⟩ 8 1 ((gw (bJ (24,b)) 0 8:Nat):Int) 0 0 0 0)) (congrArg LT.more (show DC.c0 ⟨8,3,2,3,8,24,b,0,0,0,0,0⟩ 8 1 (ah.v .i64 (ah.k bO ((24,b),0,8)).1) 0 0 0 0=_ from by rw[show(ah.v .i64 (ah.k bO ((24,b),0,8)).1)=((gw (bJ (24,b)) 0 8:Nat):Int) from by rw[g0,bG,gZ (by omega) (by omega)]])) ?_
  rw[ak,CU]
  refine(aj rfl).2 (af.2 ⟨rfl,af.2 ⟨rfl,(ai (jG (congrArg Prod.snd (show ah.k bO ((24,b),8,3)=(((gw (bJ (24,b)) 8 3:Nat):Int),0) from g1)))).2 (af.2 ⟨rfl,?_⟩)⟩⟩)
  refine dJ (t':=.more (.c0 ⟨8,3,2,3,8,24,b,0,0,0,0,0⟩ 11 2 ((gw (bJ (24,b)) 0 8:Nat):Int) ((gw (bJ (24,b)) 8 3:Nat):Int) 0 0 0)) (congrArg LT.more (show DC.c0 ⟨8,3,2,3,8,24,b,0,0,0,0,0⟩ 11 2 ((gw (bJ (24,b)) 0 8:Nat):Int) (ah.v .i64 (ah.k bO ((24,b),8,3)).1) 0 0 0=_ from by rw[show(ah.v .i64 (ah.k bO ((24,b),8,3)).1)=((gw (bJ (24,b)) 8 3:Nat):Int) from by rw[g1,bG,gZ (by omega) (by omega)]])) ?_
  rw[ak,CU]
  refine(aj rfl).2 (af.2 ⟨rfl,af.2 ⟨rfl,(ai (jG (congrArg Prod.snd (show ah.k bO ((24,b),11,2)=(((gw (bJ (24,b)) 11 2:Nat):Int),0) from g2)))).2 (af.2 ⟨rfl,?_⟩)⟩⟩)
  refine dJ (t':=.more (.c0 ⟨8,3,2,3,8,24,b,0,0,0,0,0⟩ 13 3 ((gw (bJ (24,b)) 0 8:Nat):Int) ((gw (bJ (24,b)) 8 3:Nat):Int) ((gw (bJ (24,b)) 11 2:Nat):Int) 0 0)) (congrArg LT.more (show DC.c0 ⟨8,3,2,3,8,24,b,0,0,0,0,0⟩ 13 3 ((gw (bJ (24,b)) 0 8:Nat):Int) ((gw (bJ (24,b)) 8 3:Nat):Int) (ah.v .i64 (ah.k bO ((24,b),11,2)).1) 0 0=_ from by rw[show(ah.v .i64 (ah.k bO ((24,b),11,2)).1)=((gw (bJ (24,b)) 11 2:Nat):Int) from by rw[g2,bG,gZ (by omega) (by omega)]])) ?_
  rw[ak,CU]
  refine(aj rfl).2 (af.2 ⟨rfl,af.2 ⟨rfl,(ai (jG (congrArg Prod.snd (show ah.k bO ((24,b),13,3)=(((gw (bJ (24,b)) 13 3:Nat):Int),0) from g3)))).2 (af.2 ⟨rfl,?_⟩)⟩⟩)
  refine dJ (t':=.more (.c0 ⟨8,3,2,3,8,24,b,0,0,0,0,0⟩ 16 4 ((gw (bJ (24,b)) 0 8:Nat):Int) ((gw (bJ (24,b)) 8 3:Nat):Int) ((gw (bJ (24,b)) 11 2:Nat):Int) ((gw (bJ (24,b)) 13 3:Nat):Int) 0)) (congrArg LT.more (show DC.c0 ⟨8,3,2,3,8,24,b,0,0,0,0,0⟩ 16 4 ((gw (bJ (24,b)) 0 8:Nat):Int) ((gw (bJ (24,b)) 8 3:Nat):Int) ((gw (bJ (24,b)) 11 2:Nat):Int) (ah.v .i64 (ah.k bO ((24,b),13,3)).1) 0=_ from by rw[show(ah.v .i64 (ah.k bO ((24,b),13,3)).1)=((gw (bJ (24,b)) 13 3:Nat):Int) from by rw[g3,bG,gZ (by omega) (by omega)]])) ?_
  rw[ak,CU]
  refine(aj rfl).2 (af.2 ⟨rfl,af.2 ⟨rfl,(ai (jG (congrArg Prod.snd (show ah.k bO ((24,b),16,8)=(((gw (bJ (24,b)) 16 8:Nat):Int),0) from g4)))).2 (af.2 ⟨rfl,?_⟩)⟩⟩)
  refine dJ (t':=.more (.c0 ⟨8,3,2,3,8,24,b,0,0,0,0,0⟩ 24 5 ((gw (bJ (24,b)) 0 8:Nat):Int) ((gw (bJ (24,b)) 8 3:Nat):Int) ((gw (bJ (24,b)) 11 2:Nat):Int) ((gw (bJ (24,b)) 13 3:Nat):Int) ((gw (bJ (24,b)) 16 8:Nat):Int))) (congrArg LT.more (show DC.c0 ⟨8,3,2,3,8,24,b,0,0,0,0,0⟩ 24 5 ((gw (bJ (24,b)) 0 8:Nat):Int) ((gw (bJ (24,b)) 8 3:Nat):Int) ((gw (bJ (24,b)) 11 2:Nat):Int) ((gw (bJ (24,b)) 13 3:Nat):Int) (ah.v .i64 (ah.k bO ((24,b),16,8)).1)=_ from by rw[show(ah.v .i64 (ah.k bO ((24,b),16,8)).1)=((gw (bJ (24,b)) 16 8:Nat):Int) from by rw[g4,bG,gZ (by omega) (by omega)]])) ?_
  have hchk:ah.k nQ ((((gw (bJ (24,b)) 0 8:Nat):Int),((gw (bJ (24,b)) 8 3:Nat):Int),((gw (bJ (24,b)) 11 2:Nat):Int),((gw (bJ (24,b)) 13 3:Nat):Int),((gw (bJ (24,b)) 16 8:Nat):Int)),8)=bif pO (QH (bJ (24,b))) then 0 else 40:=G_ (QH (bJ (24,b)))
  rw[ak,CU]
  refine(ai rfl).2 (af.2 ⟨rfl,?_⟩)
  cases ho:pO (QH (bJ (24,b)))
  ·rw[ho] at hchk
   exact(aj (oi (by rw[hchk];decide))).2 (.ret _)
  ·rw[ho] at hchk
   exact(ai (jG hchk)).2 (.ret _)
 ·refine(aj (oi h24)).2 ?_
  rw[show(n != 24)=true from bne_iff_ne.2 h24,cond_true]
  exact .ret _
def rM:((Int×List Int))→((Int×Int×Int×Int×Int)×Int):=yO
def abF:aC:=⟨[(.struct [yI,yB])], [(.struct [yI,yI,yI,yI,yI]),yI],(@tt ((Int×List Int))),rM⟩
theorem aeT:Sd 242 abF:=aU ar bU true 58 [⟨242,8, [[1,2,4,5,21,22]]⟩] [] (fun A (bN,bB)=>Xa A bN bB) CU aaH (fc Tryz.func242 (fc Tryz.func285 fz)) (sc CY (sc F2 (sc JN sz))) (fun A y=>match y with |.c0 p a0 a6 gK jh a16 a17 je=>⟨61,by kernel_rfl,by kernel_rfl⟩) fun(bN,bB) hp h=>QS h
abbrev NK(A:aK)(fFrom:Int):LT Int Empty:=(.br (A.not (A.c .eql fFrom 0)) (.ret 50) (.ret 0))
def t57(A:aK)(fKind:Int)(fReq:Int)(fCTime:Int)(fCPos:Int)(fCMode:Int)(fCNext:Int)(fCMember:Int)(fFrom:Int)(fData:List Int):LT Int Empty:=.need (A.k (@tt ((Int×Int×Int×Int×Int)×Int)) ((fCTime,fCPos,fCMode,fCNext,fCMember),8)) (.br (A.c .neq (A.k nQ ((fCTime,fCPos,fCMode,fCNext,fCMember),8)) 0) (.ret 50) (.br (A.c .lss fReq 0) (.ret 50) (.br (A.c .gtr fReq 4) (.ret 50) (.br (A.c .gtr (A.l fData) 8) (.ret 50) (.br (A.c .eql fKind 1) (.br (A.c .eql fReq 0) (.br (A.c .eql (A.l fData) 0) (.br (A.c .geq fFrom 0) (.br (A.c .lss fFrom 8) (.br (A.not (A.and (A.c .eql fCTime fCTime) (A.and (A.c .eql fCPos 0) (A.and (A.c .eql fCMode 0) (A.and (A.c .eql fCNext 0) (A.and (A.c .eql fCMember 0) true)))))) (.ret 50) (.ret 0)) (.ret 50)) (.ret 50)) (.ret 50)) (.ret 50)) (.br (A.c .eql fKind 3) (.br (A.c .eql (A.l fData) 0) (NK A fFrom) (.ret 50)) (.br (A.c .eql fKind 2) (NK A fFrom) (.br (A.c .eql fKind 4) (NK A fFrom) (.ret 50)))))))))
def pH:((Int×Int×(Int×Int×Int×Int×Int)×Int×List Int))→Int:=fun(fKind,fReq,(fCTime,fCPos,fCMode,fCNext,fCMember),fFrom,fData)=>(t57 ah fKind fReq fCTime fCPos fCMode fCNext fCMember fFrom fData).val (Ty.bl [yI])
def ahB:aC:=⟨[(.struct [yI,yI,(.struct [yI,yI,yI,yI,yI]),yI,yB])], [yI],(@tt ((Int×Int×(Int×Int×Int×Int×Int)×Int×List Int))),pH⟩
theorem abU:Sd 243 ahB:=aL ar bU true 109 [] (fun A (fKind,fReq,(fCTime,fCPos,fCMode,fCNext,fCMember),fFrom,fData)=>t57 A fKind fReq fCTime fCPos fCMode fCNext fCMember fFrom fData) (fc Tryz.func243 fz) (sc CY sz) (fun((fKind,fReq,(fCTime,fCPos,fCMode,fCNext,fCMember),fFrom,fData):(Int×Int×(Int×Int×Int×Int×Int)×Int×List Int)) hp h=>by
 show(t57 ah fKind fReq fCTime fCPos fCMode fCNext fCMember fFrom fData).pre=true
 simp[t57,NK,LT.pre,au,cm])
abbrev LV(A:aK)(kind:Int)(data:Int):LT Int Empty:=(.br (A.c .eql kind 2) (.ret (A.b .add .i64 29 (A.b .mul .i64 8 data))) (.br (A.c .eql kind 4) (.ret (A.b .add .i64 79 (A.b .mul .i64 8 data))) (.ret 0)))
def t56(A:aK)(kind:Int)(data:Int):LT Int Empty:=.br (A.c .lss data 0) (.ret 0) (.br (A.c .gtr data 8) (.ret 0) (.br (A.c .eql kind 1) (.br (A.c .eql data 0) (.ret 40) (.br (A.c .eql kind 3) (.br (A.c .eql data 0) (.ret 54) (LV A kind data)) (LV A kind data))) (.br (A.c .eql kind 3) (.br (A.c .eql data 0) (.ret 54) (LV A kind data)) (LV A kind data))))
def pK:(Int×Int)→Int:=fun(kind,data)=>(t56 ah kind data).val (Ty.bl [yI])
def ahN:aC:=⟨[yI,yI], [yI],(@tt (Int×Int)),pK⟩
theorem ag3:Sd 235 ahN:=aL ar bU true 67 [] (fun A (kind,data)=>t56 A kind data) (fc Tryz.func235 fz) sz (fun((kind,data):Int×Int) hp h=>by
 show(t56 ah kind data).pre=true
 simp[t56,LV,LT.pre,au,cm])
def t59(A:aK)(kind:Int)(data:Int):LT Int Empty:=.br (A.c .lss data 0) (.ret 0) (.br (A.c .gtr data 8) (.ret 0) (.br (A.c .eql kind 1) (.br (A.c .eql data 0) (.ret 40) (.ret 0)) (.br (A.c .eql kind 2) (.ret (A.b .add .i64 29 (A.b .mul .i64 8 data))) (.br (A.c .eql kind 3) (.br (A.c .eql data 0) (.ret 54) (.ret 0)) (.br (A.c .eql kind 4) (.ret (A.b .add .i64 79 (A.b .mul .i64 8 data))) (.ret 0))))))
def DY:(Int×Int)→Int:=fun(kind,data)=>(t59 ah kind data).val (Ty.bl [yI])
def ah2:aC:=⟨[yI,yI], [yI],(@tt (Int×Int)),DY⟩
theorem aij:Sd 160 ah2:=aL ar bU true 59 [] (fun A (kind,data)=>t59 A kind data) (fc Tryz.func160 fz) sz (fun((kind,data):Int×Int) hp h=>by
 show(t59 ah kind data).pre=true
 simp[t59,LT.pre,au,cm])
theorem TP{k r t p m n s fr:Int}{d:List Int}:pH (k,r,(t,p,m,n,s),fr,d)=bif rH (k,r,(t,p,m,n,s),fr,d) then 0 else 50:=by
 have hc:ah.c .neq (ah.k nQ ((t,p,m,n,s),8)) 0=!pO (t,p,m,n,s):=by
  rw[show ah.k nQ ((t,p,m,n,s),8)=bif pO (t,p,m,n,s) then 0 else 40 from G_ (t,p,m,n,s)];cases pO (t,p,m,n,s)<;>rfl
 have hl:ah.l d=(d.length:Int):=rfl
 have hiff:=Qo (k:=k) (r:=r) (t:=t) (p:=p) (m:=m) (n:=n) (s:=s) (fr:=fr) (d:=d)
 have hq:(t==t&&(p==0&&(m==0&&(n==0&&(s==0&&true)))))=decide (p=0∧m=0∧n=0∧s=0):=by
  rw[Bool.eq_iff_iff];simp
 simp only[pH,t57,NK,LT.val,hc,hl,ax,aD,al,ap,aH,aN,aG,bE,hq,Bool.cond_eq_ite,hiff,Bool.and_eq_true,Bool.not_eq_true',decide_eq_true_eq,decide_eq_false_iff_not,beq_iff_eq,bne_iff_ne,ne_eq]
 cases pO (t,p,m,n,s)
 ·simp
 ·simp only[Bool.true_eq_false,if_false,true_and,Bool.not_true,Bool.false_eq_true,ite_false,reduceIte]
  generalize d.length=len
  repeat' split
  all_goals first|rfl|(exfalso;omega)|(exfalso;simp at *;omega)
theorem FO{k d:Int}:pK (k,d)=J9 (k,d)∧DY (k,d)=J9 (k,d):=by
 have hm:0≤d∧d≤8→∀c:Int,c=29∨c=79→ah.b .add .i64 c (ah.b .mul .i64 8 d)=c+8*d:=by
  intro h c hc
  rw[gV,gZ (by omega) (by omega),bd,gZ (by omega) (by omega)]
 constructor
 ·simp only[pK,t56,LV,LT.val,ax,al,aH,Bool.cond_eq_ite,decide_eq_true_eq,beq_iff_eq,J9]
  by_cases h:0≤d∧d≤8
  ·rw[hm h 29 (.inl rfl),hm h 79 (.inr rfl),if_neg (show ¬d<0 by omega),if_neg (show ¬8<d by omega),if_pos h]
   repeat' split
   all_goals first|rfl|(exfalso;omega)
  ·rw[if_neg h]
   by_cases h1:d<0
   ·rw[if_pos h1]
   ·rw[if_neg h1,if_pos (show 8<d by omega)]
 ·simp only[DY,t59,LT.val,ax,al,aH,Bool.cond_eq_ite,decide_eq_true_eq,beq_iff_eq,J9]
  by_cases h:0≤d∧d≤8
  ·rw[hm h 29 (.inl rfl),hm h 79 (.inr rfl),if_neg (show ¬d<0 by omega),if_neg (show ¬8<d by omega),if_pos h]
   repeat' split
   all_goals first|rfl|(exfalso;omega)
  ·rw[if_neg h]
   by_cases h1:d<0
   ·rw[if_pos h1]
   ·rw[if_neg h1,if_pos (show 8<d by omega)]
def Uv(A:aK)(n:Int)(kind:Int):LT Bool Empty:=.br (A.c .eql kind 1) (.ret (A.c .eql n 40)) (.br (A.c .eql kind 3) (.ret (A.c .eql n 54)) (.br (A.c .eql kind 2) (.br (A.c .geq (A.b .sub .i64 n 29) 0) (.br (A.c .leq (A.b .sub .i64 n 29) 64) (.ret (A.c .eql (A.b .rem .i64 (A.b .sub .i64 n 29) 8) 0)) (.ret false)) (.ret false)) (.br (A.c .geq (A.b .sub .i64 n 79) 0) (.br (A.c .leq (A.b .sub .i64 n 79) 64) (.ret (A.c .eql (A.b .rem .i64 (A.b .sub .i64 n 79) 8) 0)) (.ret false)) (.ret false))))
def V3:(Int×Int)→Bool:=fun(n,kind)=>(Uv ah n kind).val (Ty.bl [.bool])
def abV:aC:=⟨[yI,yI], [.bool],(@tt (Int×Int)),V3⟩
theorem afN:Sd 238 abV:=aL ar bU true 54 [] (fun A (n,kind)=>Uv A n kind) (fc Tryz.func238 fz) sz (fun((n,kind):Int×Int) hp h=>by
 show(Uv ah n kind).pre=true
 simp[Uv,LT.pre,au,cm])
abbrev uh(A:aK)(bN:Int)(bB:List Int):=(A.k lS ((A.k lQ ((bN,bB),0,55)).1,0,([]:List Int)))
abbrev zl(A:aK)(bN:Int)(bB:List Int):=(A.k lQ ((uh A bN bB).1,(A.b .sub .i64 (uh A bN bB).1.1 24),(uh A bN bB).1.1))
def UG(A:aK)(bN:Int)(bB:List Int)(kind:Int)(unsentN:Int)(unsentB:List Int):LT ((Int×List Int)×(Int×List Int)×Int) Empty:=.br (A.c .neq kind 4) (.need (A.k (@tt ((Int×List Int)×(Int×List Int))) ((bN,bB),unsentN,unsentB)) (.br (A.c .neq (A.k lS ((bN,bB),unsentN,unsentB)).2 0) (.ret ((A.k lS ((bN,bB),unsentN,unsentB)).1,(0,([]:List Int)),(A.k lS ((bN,bB),unsentN,unsentB)).2)) (.br (A.c .neq kind 3) (.ret ((A.k lS ((bN,bB),unsentN,unsentB)).1,(0,([]:List Int)),(A.k lS ((bN,bB),unsentN,unsentB)).2)) (.need (A.k (@tt ((Int×List Int)×Int×Int)) ((A.k lS ((bN,bB),unsentN,unsentB)).1,(A.b .sub .i64 (A.k lS ((bN,bB),unsentN,unsentB)).1.1 24),(A.k lS ((bN,bB),unsentN,unsentB)).1.1)) (.ret ((A.k lS ((bN,bB),unsentN,unsentB)).1,(A.k lQ ((A.k lS ((bN,bB),unsentN,unsentB)).1,(A.b .sub .i64 (A.k lS ((bN,bB),unsentN,unsentB)).1.1 24),(A.k lS ((bN,bB),unsentN,unsentB)).1.1)))))))) (.need (A.k (@tt ((Int×List Int)×Int×Int)) ((bN,bB),0,55)) (.br (A.c .neq (A.k lQ ((bN,bB),0,55)).2 0) (.ret ((0,([]:List Int)),(0,([]:List Int)),(A.k lQ ((bN,bB),0,55)).2)) (.need (A.k (@tt ((Int×List Int)×(Int×List Int))) ((A.k lQ ((bN,bB),0,55)).1,0,([]:List Int))) (.br (A.c .neq (uh A bN bB).2 0) (.ret ((0,([]:List Int)),(0,([]:List Int)),(uh A bN bB).2)) (.need (A.k (@tt ((Int×List Int)×Int×Int)) ((uh A bN bB).1,(A.b .sub .i64 (uh A bN bB).1.1 24),(uh A bN bB).1.1)) (.br (A.c .neq (zl A bN bB).2 0) (.ret ((0,([]:List Int)),(0,([]:List Int)),(zl A bN bB).2)) (.need (A.k (@tt ((Int×List Int)×(Int×List Int))) ((bN,bB),(zl A bN bB).1)) (.ret ((A.k lS ((bN,bB),(zl A bN bB).1)).1,(zl A bN bB).1,(A.k lS ((bN,bB),(zl A bN bB).1)).2)))))))))
def Qv:((Int×List Int)×Int×(Int×List Int))→((Int×List Int)×(Int×List Int)×Int):=fun((bN,bB),kind,unsentN,unsentB)=>(UG ah bN bB kind unsentN unsentB).val (Ty.bl [(.struct [yI,yB]),(.struct [yI,yB]),yI])
def abX:aC:=⟨[(.struct [yI,yB]),yI,(.struct [yI,yB])], [(.struct [yI,yB]),(.struct [yI,yB]),yI],(@tt ((Int×List Int)×Int×(Int×List Int))),Qv⟩
theorem af4:Sd 240 abX:=aL ar bU true 110 [] (fun A ((bN,bB),kind,unsentN,unsentB)=>UG A bN bB kind unsentN unsentB) (fc Tryz.func240 fz) (sc afa (sc Vq sz)) (fun(((bN,bB),kind,unsentN,unsentB):(Int×List Int)×Int×(Int×List Int)) hp h=>by
 show(UG ah bN bB kind unsentN unsentB).pre=true
 simp[UG,zl,uh,LT.pre,au,cm])
def Ye(A:aK)(r00:Int)(r01:List Int)(r1:Int)(width:Int):LT ((((Int×List Int)×Int))×Int) Empty:=.need (A.k (@tt ((Int×List Int)×Int×Int)) ((r00,r01),r1,width)) (.br (A.c .neq (A.k bO ((r00,r01),r1,width)).2 0) (.ret (((r00,r01),r1),0)) (.ret (((r00,r01),(A.b .add .i64 r1 width)),(A.v .i64 (A.k bO ((r00,r01),r1,width)).1))))
theorem afM{n a k:Int}{b:List Int}:aB Empty.elim (Ye ah n b a k) (bif decide ((bO ((n,b),a,k)).2=0) then(((n,b),ah.b .add .i64 a k),ah.v .i64 (bO ((n,b),a,k)).1) else(((n,b),a),0)):=by
 unfold Ye
 refine af.2 ⟨rfl,?_⟩
 by_cases h:(bO ((n,b),a,k)).2=0
 ·rw[decide_eq_true h];exact(ai (by show ah.c .neq (bO ((n,b),a,k)).2 0=false;rw[aD,h];rfl)).2 (.ret _)
 ·rw[decide_eq_false h];exact(aj (by show ah.c .neq (bO ((n,b),a,k)).2 0=true;rw[aD];exact bne_iff_ne.2 h)).2 (.ret _)
def fP:(((Int×List Int)×Int))×Int→(((Int×List Int)×Int))×Int:=fun((b,a),k)=>(bif decide ((bO (b,a,k)).2=0) then((b,ah.b .add .i64 a k),ah.v .i64 (bO (b,a,k)).1) else((b,a),0))
def adI:bI:=⟨[.ptr [.d (.struct [yI,yB]),.d yI]], [yI], [yI],(@tt ((((Int×List Int)×Int))×Int)),fP,false⟩
theorem VB:bI.Sound Tryz.prog 237 adI:=bH ar bU true 54 iz mz pz [] [] (fun A (((r00,r01),r1),width)=>Ye A r00 r01 r1 width) (fun _=>Empty.elim) Empty.elim (fc Tryz.func237 fz) (sc JN sz) (fun _ y=>y.elim) fun((((r00,r01),r1),width):(((Int×List Int)×Int))×Int) hp hv h=>afM
inductive UU where
 | c0 (a0:Int) (a1:Int) (a2:List Int) (a3:Int) (a4:Int) (a5:Int) (a6:Int) (a7:Int) (a8:Int) (a9:Int) (cX:Int) (dN:Int)
noncomputable def Zz:UU→eF
 | .c0 a0 a1 a2 a3 a4 a5 a6 a7 a8 a9 cX dN=>⟨[⟨241,34,(en [(0,.ptr 0 0),(3,.ptr 1 0),(4,vi a0)]),[.inLoop (cw Tryz.f241 [1,1,1,0,0,0]),.inBlock 0,.code (cw Tryz.f241 [1,1,1,1])],[],none⟩],[.flat false [vi a1,.sl yU a2,vi a3],.flat false [.int .u8 false a4,.int .u8 false a5,.int .u8 false a6,.int .u8 false a7,.int .u8 false a8,.int .u8 false a9,.int .u8 false cX,.int .u8 false dN],.dead]⟩
def acO(A:aK)(r00:Int)(r01:List Int)(r1:Int):LT ((((Int×List Int)×Int))×(List Int)) UU:=.more (.c0 0 r00 r01 r1 0 0 0 0 0 0 0 0)
def Li(A:aK):UU→LT ((((Int×List Int)×Int))×(List Int)) UU
 | .c0 a0 a1 a2 a3 a4 a5 a6 a7 a8 a9 cX dN=>.br (A.c .leq (A.b .add .i64 a3 8) a1) (.br (A.c .lss a0 8) (.need (A.k (@tt ((((Int×List Int)×Int))×Int)) (((a1,a2),a3),8)) (.need (A.and (A.c .leq 0 a0) (A.c .lss a0 8)) (.more (.c0 (A.b .add .i64 a0 1) (A.k fP (((a1,a2),a3),8)).1.1.1 (A.k fP (((a1,a2),a3),8)).1.1.2 (A.k fP (((a1,a2),a3),8)).1.2 (A.n yU (A.set [a4,a5,a6,a7,a8,a9,cX,dN] a0 (A.v .u8 (A.k fP (((a1,a2),a3),8)).2)) 0:Int) (A.n yU (A.set [a4,a5,a6,a7,a8,a9,cX,dN] a0 (A.v .u8 (A.k fP (((a1,a2),a3),8)).2)) 1:Int) (A.n yU (A.set [a4,a5,a6,a7,a8,a9,cX,dN] a0 (A.v .u8 (A.k fP (((a1,a2),a3),8)).2)) 2:Int) (A.n yU (A.set [a4,a5,a6,a7,a8,a9,cX,dN] a0 (A.v .u8 (A.k fP (((a1,a2),a3),8)).2)) 3:Int) (A.n yU (A.set [a4,a5,a6,a7,a8,a9,cX,dN] a0 (A.v .u8 (A.k fP (((a1,a2),a3),8)).2)) 4:Int) (A.n yU (A.set [a4,a5,a6,a7,a8,a9,cX,dN] a0 (A.v .u8 (A.k fP (((a1,a2),a3),8)).2)) 5:Int) (A.n yU (A.set [a4,a5,a6,a7,a8,a9,cX,dN] a0 (A.v .u8 (A.k fP (((a1,a2),a3),8)).2)) 6:Int) (A.n yU (A.set [a4,a5,a6,a7,a8,a9,cX,dN] a0 (A.v .u8 (A.k fP (((a1,a2),a3),8)).2)) 7:Int))))) (.need (A.and (A.c .eql a0 a0) (A.and (A.c .leq 0 a0) (A.c .leq a0 140737488355328))) (.ret (((a1,a2),a3),(A.spl (A.r a0 (0:Int)) 0 (A.s [a4,a5,a6,a7,a8,a9,cX,dN] 0 (A.mn (A.l [a4,a5,a6,a7,a8,a9,cX,dN]) (A.l (A.r a0 (0:Int)))))))))) (.need (A.and (A.c .eql a0 a0) (A.and (A.c .leq 0 a0) (A.c .leq a0 140737488355328))) (.ret (((a1,a2),a3),(A.spl (A.r a0 (0:Int)) 0 (A.s [a4,a5,a6,a7,a8,a9,cX,dN] 0 (A.mn (A.l [a4,a5,a6,a7,a8,a9,cX,dN]) (A.l (A.r a0 (0:Int)))))))))
def Y2(n:Nat)(room:List Int):List Int:=ah.spl (ah.r (n:Int) (0:Int)) 0 (ah.s room 0 (ah.mn (ah.l room) (ah.l (ah.r (n:Int) (0:Int)))))
def Ln:Nat→Nat→List Int→(Int×List Int)×Int→((Int×List Int)×Int)×List Int
 | 0,n,room,s=>(s,Y2 n room)
 | k+1,n,room,s=>bif ah.c .leq (ah.b .add .i64 s.2 8) s.1.1 then Ln k (n+1) (ah.set room (n:Int) (ah.v .u8 (fP (s,8)).2)) (fP (s,8)).1 else(s,Y2 n room)
theorem NV:∀(k n:Nat) (room:List Int) (s:(Int×List Int)×Int),n+k=8→room.length=8→
  aB (Li ah) (.more (.c0 (n:Int) s.1.1 s.1.2 s.2 (room.getD 0 0) (room.getD 1 0) (room.getD 2 0) (room.getD 3 0) (room.getD 4 0) (room.getD 5 0) (room.getD 6 0) (room.getD 7 0))) (Ln k n room s):=by
 intro k
 induction k with
 | zero=>
   intro n room s hn hr
   have out:aB (Li ah) (.need (ah.and (ah.c .eql (n:Int) (n:Int)) (ah.and (ah.c .leq 0 (n:Int)) (ah.c .leq (n:Int) 140737488355328))) (.ret (s,Y2 n room))) (Ln 0 n room s):=
    af.2 ⟨by rw[aG,aG,ax,ap,ap];simp;omega,.ret _⟩
   match room,hr with
   | [x0,x1,x2,x3,x4,x5,x6,x7],_=>
   rw[ak,Li]
   cases ah.c .leq (ah.b .add .i64 s.2 8) s.1.1
   ·exact(ai rfl).2 out
   ·exact(aj rfl).2 ((ai (by rw[al];exact decide_eq_false (by omega))).2 out)
 | succ k ih=>
   intro n room s hn hr
   have e:=ih (n+1) (ah.set room (n:Int) (ah.v .u8 (fP (s,8)).2)) (fP (s,8)).1 (by omega) (by rw[xP,List.length_set];exact hr)
   rw[ak,Li,Ln]
   match room,hr with
   | [x0,x1,x2,x3,x4,x5,x6,x7],_=>
     cases ah.c .leq (ah.b .add .i64 s.2 8) s.1.1
     ·exact(ai rfl).2 (af.2 ⟨by rw[aG,aG,ax,ap,ap];simp;omega,.ret _⟩)
     ·refine(aj rfl).2 ((aj (by rw[al];exact decide_eq_true (by omega))).2 (af.2 ⟨rfl,af.2 ⟨by rw[aG,ap,al];simp;omega,?_⟩⟩))
      rw[cu (i:=n) (by omega),show ah.k fP (((s.1.1,s.1.2),s.2),8)=fP (s,8) from rfl]
      generalize fP (s,8)=q at e ⊢
      generalize ah.v .u8 q.2=v at e ⊢
      exact e
theorem Xu{n a:Int}{b:List Int}:aB (Li ah) (acO ah n b a) (Ln 8 0 [0,0,0,0,0,0,0,0] ((n,b),a)):=
 NV 8 0 [0,0,0,0,0,0,0,0] ((n,b),a) rfl rfl
def pu:(((Int×List Int)×Int))×Unit→(((Int×List Int)×Int))×(List Int):=fun(s,_)=>Ln 8 0 [0,0,0,0,0,0,0,0] s
def acd:bI:=⟨[.ptr [.d (.struct [yI,yB]),.d yI]], [], [yB],(@tt ((((Int×List Int)×Int))×Unit)),pu,false⟩
theorem af8:bI.Sound Tryz.prog 241 acd:=bH ar bU true 21 iz (mc VB mz) pz [⟨241,3, [[0,3,4]]⟩] [] (fun A (((r00,r01),r1),())=>acO A r00 r01 r1) Li Zz (fc Tryz.func241 fz) sz (fun A y=>match y with |.c0 a0 a1 a2 a3 a4 a5 a6 a7 a8 a9 cX dN=>⟨44,by kernel_rfl,by kernel_rfl⟩) fun((((r00,r01),r1),()):(((Int×List Int)×Int))×Unit) hp hv h=>Xu
theorem ay{R Y:Type}{step:Y→LT R Y}{t:LT R Y}{r r':R}(h:r=r')(h2:aB step t r):aB step t r':=h▸h2
def ji{R Y:Type}(p:R→Prop):LT R Y→Prop
 | .ret r=>p r
 | .more _=>False
 | .br b t e=>(b=true→ji p t)∧(b=false→ji p e)
 | .need b t=>b=true→ji p t
 | .eqs _ t=>ji p t
 | .and a _=>ji p a
 | .bad _ _=>True
theorem fe{R Y:Type}{d:R}{p:R→Prop}:∀{t:LT R Y},t.pre=true→ji p t→p (t.val d)
 | .ret _,_,h=>h
 | .more _,_,h=>h.elim
 | .br b t e,h1,h2=>by
   cases b with
   | true=>exact fe (t:=t) h1 (h2.1 rfl)
   | false=>exact fe (t:=e) h1 (h2.2 rfl)
 | .need b t,h1,h2=>by
   rw[LT.pre,Bool.and_eq_true] at h1
   exact fe (t:=t) h1.2 (h2 h1.1)
 | .eqs _ t,h1,h2=>fe (t:=t) h1 h2
 | .and _ _,h,_=>by cases h
 | .bad _ _,h,_=>by cases h
abbrev dU(A:aK)(bN:Int)(bB:List Int):=(A.b .add .i64 (A.k fP (((bN,bB),0),2)).2 1)
abbrev fL(A:aK)(bN:Int)(bB:List Int):=(A.k fP ((A.k fP (((bN,bB),0),2)).1,3))
abbrev pY(A:aK)(bN:Int)(bB:List Int):=(A.k Qv ((bN,bB),(dU A bN bB),0,([]:List Int)))
abbrev mX:LT ((Int×Int×(Int×Int×Int×Int×Int)×Int×List Int)×Int) Empty:=(.ret ((0,0,(0,0,0,0,0),0,([]:List Int)),51))
abbrev mW(A:aK)(bN:Int)(bB:List Int)(cTime:Int)(cPos:Int)(cMode:Int)(cNext:Int)(cMember:Int):=(A.k Qv ((bN,bB),(dU A bN bB),(A.k qq (cTime,cPos,cMode,cNext,cMember)).1))
abbrev Td(A:aK)(bN:Int)(bB:List Int):LT ((Int×Int×(Int×Int×Int×Int×Int)×Int×List Int)×Int) Empty:=(.need (A.k (@tt ((Int×Int×(Int×Int×Int×Int×Int)×Int×List Int))) ((dU A bN bB),(fL A bN bB).2,(0,0,0,0,0),0,([]:List Int))) (.br (A.c .neq (A.k pH ((dU A bN bB),(fL A bN bB).2,(0,0,0,0,0),0,([]:List Int))) 0) (mX) (.ret (((dU A bN bB),(fL A bN bB).2,(0,0,0,0,0),0,([]:List Int)),0))))
abbrev pN(A:aK)(bN:Int)(bB:List Int):=(A.k rM (pY A bN bB).2.1)
abbrev GL(A:aK)(bN:Int)(bB:List Int):=(A.k fP ((fL A bN bB).1,(A.b .sub .i64 (dU A bN bB) 2)))
abbrev RB(A:aK)(bN:Int)(bB:List Int):=(A.k (@tt ((((Int×List Int)×Int))×Int)) ((A.k fP (((bN,bB),0),2)).1,3))
abbrev ES(A:aK)(bN:Int)(bB:List Int):=(A.k pu (((pY A bN bB).1,55),()))
abbrev LX(A:aK)(bN:Int)(bB:List Int):=(A.k (@tt ((Int×List Int))) (pY A bN bB).2.1)
abbrev Dq(A:aK)(bN:Int)(bB:List Int):=(A.k fP ((fL A bN bB).1,8))
abbrev ON(A:aK)(bN:Int)(bB:List Int):=(A.k pu (((pY A bN bB).1,(A.k fP ((Dq A bN bB).1,3)).1.2),()))
def t50(A:aK)(bN:Int)(bB:List Int)(cTime:Int)(cPos:Int)(cMode:Int)(cNext:Int)(cMember:Int):LT ((Int×Int×(Int×Int×Int×Int×Int)×Int×List Int)×Int) Empty:=.need (A.k (@tt ((Int×List Int))) (bN,bB)) (.br (A.c .neq (A.k lq (bN,bB)) 0) (.ret ((0,0,(0,0,0,0,0),0,([]:List Int)),(A.k lq (bN,bB)))) (.need (A.k (@tt ((Int×Int×Int×Int×Int)×Int)) ((cTime,cPos,cMode,cNext,cMember),8)) (.br (A.c .neq (A.k nQ ((cTime,cPos,cMode,cNext,cMember),8)) 0) (.ret ((0,0,(0,0,0,0,0),0,([]:List Int)),40)) (.need (A.k (@tt ((((Int×List Int)×Int))×Int)) (((bN,bB),0),2)) (.need (A.k (@tt (Int×Int)) (bN,(dU A bN bB))) (.br (A.not (A.k V3 (bN,(dU A bN bB)))) (mX) (.br (A.c .eql (dU A bN bB) 1) (.need (RB A bN bB) (.need (A.k (@tt ((((Int×List Int)×Int))×Int)) ((fL A bN bB).1,8)) (.need (A.k (@tt ((((Int×List Int)×Int))×Int)) ((Dq A bN bB).1,3)) (.br (A.c .neq (A.k fP ((Dq A bN bB).1,3)).2 0) (mX) (.need (A.k (@tt ((Int×List Int)×Int×(Int×List Int))) ((bN,bB),(dU A bN bB),0,([]:List Int))) (.br (A.c .neq (pY A bN bB).2.2 0) (.ret ((0,0,(0,0,0,0,0),0,([]:List Int)),(pY A bN bB).2.2)) (.br (A.c .eql (dU A bN bB) 2) (.need (A.k (@tt ((((Int×List Int)×Int))×Unit)) (((pY A bN bB).1,(A.k fP ((Dq A bN bB).1,3)).1.2),())) (.need (A.k (@tt ((Int×Int×(Int×Int×Int×Int×Int)×Int×List Int))) ((dU A bN bB),0,(cTime,cPos,cMode,cNext,cMember),(fL A bN bB).2,(ON A bN bB).2)) (.br (A.c .neq (A.k pH ((dU A bN bB),0,(cTime,cPos,cMode,cNext,cMember),(fL A bN bB).2,(ON A bN bB).2)) 0) (mX) (.ret (((dU A bN bB),0,(cTime,cPos,cMode,cNext,cMember),(fL A bN bB).2,(ON A bN bB).2),0))))) (.br (A.c .eql (dU A bN bB) 4) (.need (A.k (@tt ((((Int×List Int)×Int))×Unit)) (((pY A bN bB).1,55),())) (.need (LX A bN bB) (.br (A.c .neq (pN A bN bB).2 0) (mX) (.need (A.k (@tt ((Int×Int×(Int×Int×Int×Int×Int)×Int×List Int))) ((dU A bN bB),0,(pN A bN bB).1,(fL A bN bB).2,(ES A bN bB).2)) (.br (A.c .neq (A.k pH ((dU A bN bB),0,(pN A bN bB).1,(fL A bN bB).2,(ES A bN bB).2)) 0) (mX) (.ret (((dU A bN bB),0,(pN A bN bB).1,(fL A bN bB).2,(ES A bN bB).2),0))))))) (.br (A.c .eql (dU A bN bB) 3) (.need (LX A bN bB) (.br (A.c .neq (pN A bN bB).2 0) (mX) (.need (A.k (@tt ((Int×Int×(Int×Int×Int×Int×Int)×Int×List Int))) ((dU A bN bB),0,(pN A bN bB).1,(fL A bN bB).2,([]:List Int))) (.br (A.c .neq (A.k pH ((dU A bN bB),0,(pN A bN bB).1,(fL A bN bB).2,([]:List Int))) 0) (mX) (.ret (((dU A bN bB),0,(pN A bN bB).1,(fL A bN bB).2,([]:List Int)),0)))))) (.need (A.k (@tt ((Int×Int×(Int×Int×Int×Int×Int)×Int×List Int))) ((dU A bN bB),0,((Dq A bN bB).2,0,0,0,0),(fL A bN bB).2,([]:List Int))) (.br (A.c .neq (A.k pH ((dU A bN bB),0,((Dq A bN bB).2,0,0,0,0),(fL A bN bB).2,([]:List Int))) 0) (mX) (.ret (((dU A bN bB),0,((Dq A bN bB).2,0,0,0,0),(fL A bN bB).2,([]:List Int)),0))))))))))))) (.br (A.c .eql (dU A bN bB) 2) (.need (RB A bN bB) (.need (A.k (@tt ((Int×Int×Int×Int×Int))) (cTime,cPos,cMode,cNext,cMember)) (.need (A.k (@tt ((Int×List Int)×Int×(Int×List Int))) ((bN,bB),(dU A bN bB),(A.k qq (cTime,cPos,cMode,cNext,cMember)).1)) (.br (A.c .neq (mW A bN bB cTime cPos cMode cNext cMember).2.2 0) (.ret ((0,0,(0,0,0,0,0),0,([]:List Int)),(mW A bN bB cTime cPos cMode cNext cMember).2.2)) (.br (A.c .eql (dU A bN bB) 2) (.need (A.k (@tt ((((Int×List Int)×Int))×Unit)) (((mW A bN bB cTime cPos cMode cNext cMember).1,(fL A bN bB).1.2),())) (.need (A.k (@tt ((Int×Int×(Int×Int×Int×Int×Int)×Int×List Int))) ((dU A bN bB),(fL A bN bB).2,(cTime,cPos,cMode,cNext,cMember),0,(A.k pu (((mW A bN bB cTime cPos cMode cNext cMember).1,(fL A bN bB).1.2),())).2)) (.br (A.c .neq (A.k pH ((dU A bN bB),(fL A bN bB).2,(cTime,cPos,cMode,cNext,cMember),0,(A.k pu (((mW A bN bB cTime cPos cMode cNext cMember).1,(fL A bN bB).1.2),())).2)) 0) (mX) (.ret (((dU A bN bB),(fL A bN bB).2,(cTime,cPos,cMode,cNext,cMember),0,(A.k pu (((mW A bN bB cTime cPos cMode cNext cMember).1,(fL A bN bB).1.2),())).2),0))))) (.br (A.c .eql (dU A bN bB) 4) (.need (A.k (@tt ((((Int×List Int)×Int))×Unit)) (((mW A bN bB cTime cPos cMode cNext cMember).1,55),())) (.need (A.k (@tt ((Int×List Int))) (mW A bN bB cTime cPos cMode cNext cMember).2.1) (.br (A.c .neq (A.k rM (mW A bN bB cTime cPos cMode cNext cMember).2.1).2 0) (mX) (.need (A.k (@tt ((Int×Int×(Int×Int×Int×Int×Int)×Int×List Int))) ((dU A bN bB),(fL A bN bB).2,(A.k rM (mW A bN bB cTime cPos cMode cNext cMember).2.1).1,0,(A.k pu (((mW A bN bB cTime cPos cMode cNext cMember).1,55),())).2)) (.br (A.c .neq (A.k pH ((dU A bN bB),(fL A bN bB).2,(A.k rM (mW A bN bB cTime cPos cMode cNext cMember).2.1).1,0,(A.k pu (((mW A bN bB cTime cPos cMode cNext cMember).1,55),())).2)) 0) (mX) (.ret (((dU A bN bB),(fL A bN bB).2,(A.k rM (mW A bN bB cTime cPos cMode cNext cMember).2.1).1,0,(A.k pu (((mW A bN bB cTime cPos cMode cNext cMember).1,55),())).2),0))))))) (.br (A.c .eql (dU A bN bB) 3) (.need (A.k (@tt ((Int×List Int))) (mW A bN bB cTime cPos cMode cNext cMember).2.1) (.br (A.c .neq (A.k rM (mW A bN bB cTime cPos cMode cNext cMember).2.1).2 0) (mX) (.need (A.k (@tt ((Int×Int×(Int×Int×Int×Int×Int)×Int×List Int))) ((dU A bN bB),(fL A bN bB).2,(A.k rM (mW A bN bB cTime cPos cMode cNext cMember).2.1).1,0,([]:List Int))) (.br (A.c .neq (A.k pH ((dU A bN bB),(fL A bN bB).2,(A.k rM (mW A bN bB cTime cPos cMode cNext cMember).2.1).1,0,([]:List Int))) 0) (mX) (.ret (((dU A bN bB),(fL A bN bB).2,(A.k rM (mW A bN bB cTime cPos cMode cNext cMember).2.1).1,0,([]:List Int)),0)))))) (Td A bN bB)))))))) (.need (RB A bN bB) (.need (A.k (@tt ((((Int×List Int)×Int))×Int)) ((fL A bN bB).1,(A.b .sub .i64 (dU A bN bB) 2))) (.br (A.c .neq (GL A bN bB).2 0) (mX) (.need (A.k (@tt ((Int×List Int)×Int×(Int×List Int))) ((bN,bB),(dU A bN bB),0,([]:List Int))) (.br (A.c .neq (pY A bN bB).2.2 0) (.ret ((0,0,(0,0,0,0,0),0,([]:List Int)),(pY A bN bB).2.2)) (.br (A.c .eql (dU A bN bB) 2) (.need (A.k (@tt ((((Int×List Int)×Int))×Unit)) (((pY A bN bB).1,(GL A bN bB).1.2),())) (.need (A.k (@tt ((Int×Int×(Int×Int×Int×Int×Int)×Int×List Int))) ((dU A bN bB),(fL A bN bB).2,(cTime,cPos,cMode,cNext,cMember),0,(A.k pu (((pY A bN bB).1,(GL A bN bB).1.2),())).2)) (.br (A.c .neq (A.k pH ((dU A bN bB),(fL A bN bB).2,(cTime,cPos,cMode,cNext,cMember),0,(A.k pu (((pY A bN bB).1,(GL A bN bB).1.2),())).2)) 0) (mX) (.ret (((dU A bN bB),(fL A bN bB).2,(cTime,cPos,cMode,cNext,cMember),0,(A.k pu (((pY A bN bB).1,(GL A bN bB).1.2),())).2),0))))) (.br (A.c .eql (dU A bN bB) 4) (.need (A.k (@tt ((((Int×List Int)×Int))×Unit)) (((pY A bN bB).1,55),())) (.need (LX A bN bB) (.br (A.c .neq (pN A bN bB).2 0) (mX) (.need (A.k (@tt ((Int×Int×(Int×Int×Int×Int×Int)×Int×List Int))) ((dU A bN bB),(fL A bN bB).2,(pN A bN bB).1,0,(ES A bN bB).2)) (.br (A.c .neq (A.k pH ((dU A bN bB),(fL A bN bB).2,(pN A bN bB).1,0,(ES A bN bB).2)) 0) (mX) (.ret (((dU A bN bB),(fL A bN bB).2,(pN A bN bB).1,0,(ES A bN bB).2),0))))))) (.br (A.c .eql (dU A bN bB) 3) (.need (LX A bN bB) (.br (A.c .neq (pN A bN bB).2 0) (mX) (.need (A.k (@tt ((Int×Int×(Int×Int×Int×Int×Int)×Int×List Int))) ((dU A bN bB),(fL A bN bB).2,(pN A bN bB).1,0,([]:List Int))) (.br (A.c .neq (A.k pH ((dU A bN bB),(fL A bN bB).2,(pN A bN bB).1,0,([]:List Int))) 0) (mX) (.ret (((dU A bN bB),(fL A bN bB).2,(pN A bN bB).1,0,([]:List Int)),0)))))) (Td A bN bB)))))))))))))))))
theorem adH{k:Int}{p:Prop}(hk:(k==0)=false):k=0→p:=fun h=>by rw[h] at hk;cases hk
theorem af5{x:Int}{p:Prop}(h:ah.c .neq x 0=true):x=0→p:=fun e=>by rw[e] at h;cases h
theorem Vy{x y:Int}(h:ah.c .neq x 0=false):y=0→x=0:=fun _=>by
 rw[aD] at h
 simpa using h
theorem acj{x:Int}(h:ah.c .neq x 0=false):x=0:=Vy (y:=0) h rfl
def nS:(Int×List Int)×(Int×Int×Int×Int×Int)→(Int×Int×(Int×Int×Int×Int×Int)×Int×List Int)×Int:=fun((n,b),(t,p,m,x,s))=>(t50 ah n b t p m x s).val (Ty.bl [.struct [.int .i64,.int .i64,.struct [.int .i64,.int .i64,.int .i64,.int .i64,.int .i64],.int .i64,.slice (.int .u8)],.int .i64])
theorem E8{n t p m x s:Int}{b:List Int}:(t50 ah n b t p m x s).pre=true:=by
 simp only[t50,ON,Dq,LX,ES,RB,GL,pN,Td,mW,mX,pY,fL,dU,LT.pre,au,cm,cy,Bool.true_and,implies_true,and_self]
theorem K0{n t p m x s:Int}{b:List Int}:ji (fun r=>r.2=0→ah.k pH r.1=0) (t50 ah n b t p m x s):=by
 simp only[t50,ON,Dq,LX,ES,RB,GL,pN,Td,mW,mX,pY,fL,dU,ji]
 repeat' first
  | exact af5 (by assumption)
  | exact Vy (by assumption)
  | refine⟨fun h=>?_,fun h=>?_⟩
  | exact adH rfl
  | exact acj (by assumption)
  | intro h
theorem Ug{b:Int×List Int}{c:Int×Int×Int×Int×Int}(h:(nS (b,c)).2=0):rH (nS (b,c)).1=true:=by
 obtain⟨n,b⟩:=b
 obtain⟨t,p,m,x,s⟩:=c
 have k:=fe (d:=Ty.bl [.struct [.int .i64,.int .i64,.struct [.int .i64,.int .i64,.int .i64,.int .i64,.int .i64],.int .i64,.slice (.int .u8)],.int .i64]) E8 K0 h
 have k:pH (nS ((n,b),(t,p,m,x,s))).1=0:=k
 generalize (nS ((n,b),(t,p,m,x,s))).1=f at k
 obtain⟨k1,r,⟨t',p',m',n',s'⟩,fr,d⟩:=f
 rw[TP] at k
 cases hf:rH (k1,r,(t',p',m',n',s'),fr,d)
 ·rw[hf] at k;cases k
 ·rfl
def w9:(Int×List Int)×(Int×Int×Int×Int×Int)→(Int×Int×(Int×Int×Int×Int×Int)×Int×List Int)×Bool:=fun(b,c)=>
 bif (nS (b,c)).2 != 0||(nS (b,c)).1.1==1||(nS (b,c)).1.2.2.1 != c then(zI,false) else((nS (b,c)).1,true)
def nC(b:Int×List Int):(Int×Int×(Int×Int×Int×Int×Int)×Int×List Int)×Bool:=
 bif (nS (b,zS)).2 != 0||(nS (b,zS)).1.1==2 then(zI,false) else((nS (b,zS)).1,true)
def uS:((Int×List Int)×(Int×Int×Int×Int×Int))→((Int×Int×(Int×Int×Int×Int×Int)×Int×List Int)×Int):=nS
def ahb:aC:=⟨[(.struct [yI,yB]),(.struct [yI,yI,yI,yI,yI])], [(.struct [yI,yI,(.struct [yI,yI,yI,yI,yI]),yI,yB]),yI],(@tt ((Int×List Int)×(Int×Int×Int×Int×Int))),uS⟩
theorem abH:Sd 179 ahb:=oA ar bU true 227  iz (mc VB (mc af8 mz)) pz [] [] (fun A ((bN,bB),cTime,cPos,cMode,cNext,cMember)=>t50 A bN bB cTime cPos cMode cNext cMember) (fun _=>Empty.elim) Empty.elim (fc Tryz.func179 fz) (sc abU (sc CY (sc aga (sc F2 (sc afN (sc af4 (sc aeT sz))))))) (fun _ y=>y.elim) fun((n,b),(t,p,m,x,s)) hp h=>LT.runs (LT.fX (by kernel_rfl)) E8
def t53(A:aK)(bN:Int)(bB:List Int)(cTime:Int)(cPos:Int)(cMode:Int)(cNext:Int)(cMember:Int):LT ((Int×Int×(Int×Int×Int×Int×Int)×Int×List Int)×Bool) Empty:=.need (A.k (@tt ((Int×List Int)×(Int×Int×Int×Int×Int))) ((bN,bB),cTime,cPos,cMode,cNext,cMember)) (.br (A.c .neq (A.k uS ((bN,bB),cTime,cPos,cMode,cNext,cMember)).2 0) (.ret ((0,0,(0,0,0,0,0),0,([]:List Int)),false)) (.br (A.c .eql (A.k uS ((bN,bB),cTime,cPos,cMode,cNext,cMember)).1.1 1) (.ret ((0,0,(0,0,0,0,0),0,([]:List Int)),false)) (.br (A.not (A.and (A.c .eql (A.k uS ((bN,bB),cTime,cPos,cMode,cNext,cMember)).1.2.2.1.1 cTime) (A.and (A.c .eql (A.k uS ((bN,bB),cTime,cPos,cMode,cNext,cMember)).1.2.2.1.2.1 cPos) (A.and (A.c .eql (A.k uS ((bN,bB),cTime,cPos,cMode,cNext,cMember)).1.2.2.1.2.2.1 cMode) (A.and (A.c .eql (A.k uS ((bN,bB),cTime,cPos,cMode,cNext,cMember)).1.2.2.1.2.2.2.1 cNext) (A.and (A.c .eql (A.k uS ((bN,bB),cTime,cPos,cMode,cNext,cMember)).1.2.2.1.2.2.2.2 cMember) true)))))) (.ret ((0,0,(0,0,0,0,0),0,([]:List Int)),false)) (.ret ((A.k uS ((bN,bB),cTime,cPos,cMode,cNext,cMember)).1,true)))))
def Ir:((Int×List Int)×(Int×Int×Int×Int×Int))→((Int×Int×(Int×Int×Int×Int×Int)×Int×List Int)×Bool):=fun((bN,bB),cTime,cPos,cMode,cNext,cMember)=>(t53 ah bN bB cTime cPos cMode cNext cMember).val (Ty.bl [(.struct [yI,yI,(.struct [yI,yI,yI,yI,yI]),yI,yB]),.bool])
def ahK:aC:=⟨[(.struct [yI,yB]),(.struct [yI,yI,yI,yI,yI])], [(.struct [yI,yI,(.struct [yI,yI,yI,yI,yI]),yI,yB]),.bool],(@tt ((Int×List Int)×(Int×Int×Int×Int×Int))),Ir⟩
theorem agJ:Sd 103 ahK:=aL ar bU true 50 [] (fun A ((bN,bB),cTime,cPos,cMode,cNext,cMember)=>t53 A bN bB cTime cPos cMode cNext cMember) (fc Tryz.func103 fz) (sc abH sz) (fun(((bN,bB),cTime,cPos,cMode,cNext,cMember):(Int×List Int)×(Int×Int×Int×Int×Int)) hp h=>by
 show(t53 ah bN bB cTime cPos cMode cNext cMember).pre=true
 simp[t53,LT.pre,au,cm])
def t51(A:aK)(bN:Int)(bB:List Int):LT ((Int×Int×(Int×Int×Int×Int×Int)×Int×List Int)×Bool) Empty:=.need (A.k (@tt ((Int×List Int)×(Int×Int×Int×Int×Int))) ((bN,bB),0,0,0,0,0)) (.br (A.c .neq (A.k uS ((bN,bB),0,0,0,0,0)).2 0) (.ret ((0,0,(0,0,0,0,0),0,([]:List Int)),false)) (.br (A.c .eql (A.k uS ((bN,bB),0,0,0,0,0)).1.1 2) (.ret ((0,0,(0,0,0,0,0),0,([]:List Int)),false)) (.ret ((A.k uS ((bN,bB),0,0,0,0,0)).1,true))))
def DZ:((Int×List Int))→((Int×Int×(Int×Int×Int×Int×Int)×Int×List Int)×Bool):=fun(bN,bB)=>(t51 ah bN bB).val (Ty.bl [(.struct [yI,yI,(.struct [yI,yI,yI,yI,yI]),yI,yB]),.bool])
def agF:aC:=⟨[(.struct [yI,yB])], [(.struct [yI,yI,(.struct [yI,yI,yI,yI,yI]),yI,yB]),.bool],(@tt ((Int×List Int))),DZ⟩
theorem ahR:Sd 163 agF:=aL ar bU true 43 [] (fun A (bN,bB)=>t51 A bN bB) (fc Tryz.func163 fz) (sc abH sz) (fun((bN,bB):(Int×List Int)) hp h=>by
 show(t51 ah bN bB).pre=true
 simp[t51,LT.pre,au,cm])
theorem TC{b:Int×List Int}{t p m n s:Int}:Ir (b,(t,p,m,n,s))=w9 (b,(t,p,m,n,s)):=by
 obtain⟨bn,bb⟩:=b
 simp only[Ir,t53,LT.val,w9,au,aD,ax,aG,bE,uS,Bool.and_true]
 generalize nS ((bn,bb),(t,p,m,n,s))=q
 obtain⟨⟨k,r,⟨t',p',m',n',s'⟩,fr,d⟩,e⟩:=q
 simp only[]
 have hx:((t',p',m',n',s') != (t,p,m,n,s))=!(t'==t&&(p'==p&&(m'==m&&(n'==n&&s'==s)))):=by
  rw[Bool.eq_iff_iff]
  simp only[bne_iff_ne,ne_eq,Bool.not_eq_true',Prod.mk.injEq]
  rw[←Bool.not_eq_true]
  simp only[Bool.and_eq_true,beq_iff_eq]
 rw[hx]
 cases e != 0<;>cases k==1<;>cases (t'==t&&(p'==p&&(m'==m&&(n'==n&&s'==s))))<;>rfl
theorem Ua{b:Int×List Int}:DZ b=nC b:=by
 obtain⟨bn,bb⟩:=b
 simp only[DZ,t51,LT.val,nC,au,aD,ax,uS]
 show(bif (nS ((bn,bb),zS)).2 != 0 then(zI,false) else bif (nS ((bn,bb),zS)).1.1==2 then(zI,false) else((nS ((bn,bb),zS)).1,true))=_
 cases (nS ((bn,bb),zS)).2 != 0<;>cases (nS ((bn,bb),zS)).1.1==2<;>rfl
structure Pb where
 (a0 a2:List (Int×List Int)) (a3 a5:Int)
structure Il where
 (b1:List (Int×List Int)) (b2 b4 b5:Int)
structure Rf where
 (c0 c1 c2 c4:Int) (c5:List (Int×List Int)) (c6 c7 c8 c9:Int) (c10:List Int) (c11 c12 c13:Int) (c14:List Int)
inductive HV where
 | c0 (p:Pb) (a1:Int) (a4:Int)
 | c1 (p:Il) (b0:Int) (b3:Int) (b6:List Int)
 | c2 (p:Rf) (c3:Int) (Af:List Int)
noncomputable def aaf:HV→eF
 | .c0 p a1 a4=>⟨[⟨298,53,(en [(0,.sl (.struct [yI,yB]) p.a0),(2,.ptr 0 0),(4,vi a1),(12,.sl (.struct [yI,yB]) p.a2),(13,vi p.a3),(14,vi a4)]),[.inLoop (cw Tryz.f298 [1,1,0,1,0,0]),.inBlock 0,.code (cw Tryz.f298 [1,1,1])],[],none⟩],[.flat false [vi p.a5,.dq true],.dead]⟩
 | .c1 p b0 b3 b6=>⟨[⟨298,53,(en [(2,.ptr 0 0),(8,.ptr 1 0),(9,vi b0),(35,.sl (.struct [yI,yB]) p.b1),(36,vi p.b2),(37,vi b3)]),[.inLoop (cw Tryz.f298 [1,1,1,1,1,1,0,1,0,0]),.inBlock 2,.code (cw Tryz.f298 [1,1,1,1,1,1,1])],[],none⟩],[.flat false [vi p.b4,.dq true],.flat false [vi p.b5,.own 2],.arr false yU b6,.dead]⟩
 | .c2 p c3 Af=>⟨[⟨325,52,(en [(1,vi p.c0),(3,vi p.c1),(4,vi p.c2),(5,.ptr 0 0),(7,.ptr 1 0),(10,vi c3)]),[.inLoop (cw Tryz.f325 [1,1,1,0,0]),.inBlock 0],[],none⟩,⟨298,53,(en [(2,.ptr 2 0),(8,.ptr 3 0),(9,vi p.c4),(11,.ptr 4 0),(35,.sl (.struct [yI,yB]) p.c5),(36,vi p.c6),(37,vi p.c7)]),[.ops (ow Tryz.f298 [1,1,1,1,1,1,0,1,0,0,1,1,0,0,1,0]) ((ow Tryz.f298 [1,1,1,1,1,1,0,1,0,0,1,1,0,0,1,0]).toList.drop 5),.code (cw Tryz.f298 [1,1,1,1,1,1,0,1,0,0,1,1,0,0,1,1]),.inBlock 3,.code (cw Tryz.f298 [1,1,1,1,1,1,0,1,0,0,1,1,1]),.inLoop (cw Tryz.f298 [1,1,1,1,1,1,0,1,0,0]),.inBlock 2,.code (cw Tryz.f298 [1,1,1,1,1,1,1])],[],none⟩],[.flat false [vi p.c8,.own 5],.flat false [vi p.c9,.sl yU p.c10],.flat false [vi p.c11,.dq true],.flat false [vi p.c12,.own 5],.flat false [vi p.c13,.sl yU p.c14],.arr false yU Af,.dead]⟩
def ad2(A:aK)(l:List (Int×List Int)):LT ((Int×List Int)×Int) HV:=.more (.c0 ⟨l,l,(A.l l),0⟩ 0 0)
def uq(A:aK):HV→LT ((Int×List Int)×Int) HV
 | .c0 p a1 a4=>.br (A.c .lss a4 p.a3) (.need (A.and (A.c .leq 0 a4) (A.c .lss a4 (A.l p.a2))) (.need (A.k (@tt ((Int×List Int))) (A.n (.struct [yI,yB]) p.a2 a4:Int×List Int)) (.br (A.c .neq (A.k lq (A.n (.struct [yI,yB]) p.a2 a4:Int×List Int)) 0) (.ret ((0,([]:List Int)),(A.k lq (A.n (.struct [yI,yB]) p.a2 a4:Int×List Int)))) (.more (.c0 p (A.mn (A.b .add .i64 a1 (A.n (.struct [yI,yB]) p.a2 a4:Int×List Int).1) 4097) (A.b .add .i64 a4 1)))))) (.br (A.c .gtr a1 4096) (.ret ((0,([]:List Int)),3)) (.need (A.k (@tt Int) a1) (.need (A.and (A.c .eql (A.k eB a1) (A.k eB a1)) (A.and (A.c .leq 0 (A.k eB a1)) (A.c .leq (A.k eB a1) 140737488355328))) (.more (.c1 ⟨p.a0,(A.l p.a0),p.a5,a1⟩ 0 0 (A.r (A.k eB a1) (0:Int)))))))
 | .c1 p b0 b3 b6=>.br (A.c .lss b3 p.b2) (.need (A.and (A.c .leq 0 b3) (A.c .lss b3 (A.l p.b1))) (.br (A.c .eql (A.b .rem .i64 b0 8) 0) (.br (A.c .eql (A.n (.struct [yI,yB]) p.b1 b3:Int×List Int).1 (A.n (.struct [yI,yB]) p.b1 b3:Int×List Int).1) (.need (A.and (A.c .leq 0 (A.b .quo .i64 b0 8)) (A.and (A.c .leq (A.b .quo .i64 b0 8) (A.l b6)) (A.c .leq (A.l b6) (A.l b6)))) (.need (A.and (A.c .leq 0 0) (A.and (A.c .leq 0 (A.l (A.n (.struct [yI,yB]) p.b1 b3:Int×List Int).2)) (A.c .leq (A.l (A.n (.struct [yI,yB]) p.b1 b3:Int×List Int).2) (A.l (A.n (.struct [yI,yB]) p.b1 b3:Int×List Int).2)))) (.more (.c1 p (A.b .add .i64 b0 (A.n (.struct [yI,yB]) p.b1 b3:Int×List Int).1) (A.b .add .i64 b3 1) (A.spl b6 (A.b .quo .i64 b0 8) (A.s (A.s (A.n (.struct [yI,yB]) p.b1 b3:Int×List Int).2 0 (A.l (A.n (.struct [yI,yB]) p.b1 b3:Int×List Int).2)) 0 (A.mn (A.l (A.s (A.n (.struct [yI,yB]) p.b1 b3:Int×List Int).2 0 (A.l (A.n (.struct [yI,yB]) p.b1 b3:Int×List Int).2))) (A.b .sub .i64 (A.l b6) (A.b .quo .i64 b0 8))))))))) (.more (.c2 ⟨b0,0,(A.n (.struct [yI,yB]) p.b1 b3:Int×List Int).1,b0,p.b1,p.b2,b3,p.b5,(A.n (.struct [yI,yB]) p.b1 b3:Int×List Int).1,(A.n (.struct [yI,yB]) p.b1 b3:Int×List Int).2,p.b4,p.b5,(A.n (.struct [yI,yB]) p.b1 b3:Int×List Int).1,(A.n (.struct [yI,yB]) p.b1 b3:Int×List Int).2⟩ 0 b6))) (.more (.c2 ⟨b0,0,(A.n (.struct [yI,yB]) p.b1 b3:Int×List Int).1,b0,p.b1,p.b2,b3,p.b5,(A.n (.struct [yI,yB]) p.b1 b3:Int×List Int).1,(A.n (.struct [yI,yB]) p.b1 b3:Int×List Int).2,p.b4,p.b5,(A.n (.struct [yI,yB]) p.b1 b3:Int×List Int).1,(A.n (.struct [yI,yB]) p.b1 b3:Int×List Int).2⟩ 0 b6)))) (.ret ((p.b5,b6),0))
 | .c2 p c3 Af=>.br (A.c .lss c3 p.c2) (.need (A.k pX ((p.c9,p.c10),c3)) (.br (A.k uu ((p.c9,p.c10),c3)) (.need (A.and (A.c .leq 0 (A.b .quo .i64 (A.b .sub .i64 (A.b .add .i64 p.c0 c3) p.c1) 8)) (A.c .lss (A.b .quo .i64 (A.b .sub .i64 (A.b .add .i64 p.c0 c3) p.c1) 8) (A.l Af))) (.need (A.k oR (A.b .sub .i64 (A.b .add .i64 p.c0 c3) p.c1)) (.need (A.and (A.c .leq 0 (A.b .quo .i64 (A.b .sub .i64 (A.b .add .i64 p.c0 c3) p.c1) 8)) (A.c .lss (A.b .quo .i64 (A.b .sub .i64 (A.b .add .i64 p.c0 c3) p.c1) 8) (A.l Af))) (.more (.c2 p (A.b .add .i64 c3 1) (A.set Af (A.b .quo .i64 (A.b .sub .i64 (A.b .add .i64 p.c0 c3) p.c1) 8) (A.b .or .u8 (A.n yU Af (A.b .quo .i64 (A.b .sub .i64 (A.b .add .i64 p.c0 c3) p.c1) 8):Int) (A.k wZ (A.b .sub .i64 (A.b .add .i64 p.c0 c3) p.c1))))))))) (.more (.c2 p (A.b .add .i64 c3 1) Af)))) (.more (.c1 ⟨p.c5,p.c6,p.c11,p.c12⟩ (A.b .add .i64 p.c4 p.c13) (A.b .add .i64 p.c7 1) Af))
theorem Pq(l m:List Bool)(i:Nat):(l++m).getD i false=if i<l.length then l.getD i false else m.getD (i-l.length) false:=by
 rw[List.getD_eq_getElem?_getD,List.getD_eq_getElem?_getD,List.getD_eq_getElem?_getD,List.getElem?_append]
 split<;>rfl
theorem He{B b:List Int}{L:List Bool}{n m q:Nat}(h:Holds B L m)(hL:L.length=8*q)(hb:okB n b)(hm:q+b.length≤m):Holds (B.take q++b++B.drop (q+b.length)) (L++unpack n b) m:=by
 have hB:=h.1
 have hn:=hb.1
 refine⟨?_,fun x hx=>?_,fun i hi=>?_⟩
 ·rw[List.length_append,List.length_append,List.length_take,List.length_drop];omega
 ·rcases List.mem_append.1 hx with h2|h2
  ·rcases List.mem_append.1 h2 with h3|h3
   ·exact h.2.1 x (List.mem_of_mem_take h3)
   ·exact hb.2.1 x h3
  ·exact h.2.1 x (List.mem_of_mem_drop h2)
 ·have htl:(B.take q).length=q:=by rw[List.length_take];omega
  rw[Pq,hL,lk]
  by_cases h1:i/8<q
  ·have e:fA (B.take q++b++B.drop (q+b.length)) i=fA B i:=by
    rw[fA,fA,List.getD_eq_getElem?_getD,List.getD_eq_getElem?_getD,List.append_assoc,List.getElem?_append_left (by omega),List.getElem?_take_of_lt h1]
   rw[e,if_pos (by omega)]
   exact h.2.2 i hi
  ·rw[if_neg (by omega)]
   by_cases h2:i/8<q+b.length
   ·have e:fA (B.take q++b++B.drop (q+b.length)) i=fA b (i-8*q):=by
     rw[fA,fA,List.getD_eq_getElem?_getD,List.getD_eq_getElem?_getD,List.append_assoc,List.getElem?_append_right (by omega),htl,List.getElem?_append_left (by omega),show(i-8*q)/8=i/8-q from by omega,show(i-8*q)%8=i%8 from by omega]
    rw[e]
    by_cases h3:i-8*q<n
    ·rw[show decide (i-8*q<n)=true from by simpa using h3,Bool.true_and]
    ·rw[show decide (i-8*q<n)=false from by simpa using h3,Bool.false_and]
     exact hb.2.2 _ (by omega) (by omega)
   ·have e:fA (B.take q++b++B.drop (q+b.length)) i=fA B i:=by
     rw[fA,fA,List.getD_eq_getElem?_getD,List.getD_eq_getElem?_getD,List.getElem?_append_right (by rw[List.length_append];omega),List.length_append,htl,List.getElem?_drop,show q+b.length+(i/8-(q+b.length))=i/8 from by omega]
    rw[e,h.2.2 i hi,show decide (i-8*q<n)=false from by simp[-List.length_flatMap];omega,Bool.false_and,List.getD_eq_getElem?_getD,List.getElem?_eq_none (by omega)];rfl
theorem Sz{l:List (Int×List Int)}(i:Nat):((l.take i).flatMap bJ).length≤(l.flatMap bJ).length:=by
 conv=>rhs;rw[←List.take_append_drop i l,List.flatMap_append,List.length_append]
 omega
theorem Tl{l:List (Int×List Int)}{i n m:Nat}{b:List Int}(hi:i<l.length)(hll:l.length≤140737488355328)(hx:l[i]=((n:Int),b))(hb:okB n b)(hn:n≤4096)(hm:((l.take (i+1)).flatMap bJ).length≤8*m)(hm2:m≤5000){R:(Int×List Int)×Int}
  (hnext:∀(p:Il) (B:List Int),p.b1=l→p.b2=(l.length:Int)→p.b5=((l.flatMap bJ).length:Int)→Holds B ((l.take (i+1)).flatMap bJ) m→aB (uq ah) (.more (.c1 p ((((l.take (i+1)).flatMap bJ).length:Nat):Int) ((i+1:Nat):Int) B)) R) :
  ∀(j k:Nat) (p:Rf) (B:List Int),p.c0=((((l.take i).flatMap bJ).length:Nat):Int)→p.c1=0→p.c2=(n:Int)→p.c4=((((l.take i).flatMap bJ).length:Nat):Int)→p.c5=l→p.c6=(l.length:Int)→p.c7=(i:Int)→p.c10=b→p.c12=((l.flatMap bJ).length:Int)→p.c13=(n:Int)→n-k=j→k≤n→Holds B ((l.take i).flatMap bJ++unpack k b) m→aB (uq ah) (.more (.c2 p (k:Int) B)) R:=by
 have hb0:=hb.1
 have htf:=q8 hi
 have hL:bJ l[i]=unpack n b:=by rw[hx,bJ];rfl
 rw[hL] at htf
 intro j
 induction j with
 | zero=>
   intro k p B h0 h1 h2 h4 h5 h6 h7 h10 h12 h13 hj hk hB
   have:k=n:=by omega
   subst this
   simp only[ak,uq]
   refine(ai (by rw[h2,aI];simp)).2 ?_
   rw[←htf] at hB
   have e1:ah.b .add .i64 p.c4 p.c13=((((l.take (i+1)).flatMap bJ).length:Nat):Int):=by
    rw[h4,h13,eH (by rw[htf,List.length_append] at hm;omega),htf,List.length_append,bA]
   have e2:ah.b .add .i64 p.c7 1=((i+1:Nat):Int):=by rw[h7,cu (by omega)]
   rw[e1,e2]
   exact hnext _ B h5 h6 h12 hB
 | succ j ih=>
   intro k p B h0 h1 h2 h4 h5 h6 h7 h10 h12 h13 hj hk hB
   have hm':=hm
   rw[htf,List.length_append,bA] at hm'
   simp only[ak,uq]
   have hat:ah.b .sub .i64 (ah.b .add .i64 p.c0 (k:Int)) p.c1=(((((l.take i).flatMap bJ).length+k:Nat)):Int):=by
    rw[h0,h1,eH (by omega),show ah.b .sub .i64 ((((l.take i).flatMap bJ).length+k:Nat):Int) 0=((((l.take i).flatMap bJ).length+k-0:Nat):Int) from nA (j:=0) (by omega) (by omega)];rfl
   have hlen:((l.take i).flatMap bJ++unpack k b).length=((l.take i).flatMap bJ).length+k:=by rw[List.length_append,bA]
   refine(aj (by rw[h2,aI];simp[-List.length_flatMap];omega)).2 (af.2 ⟨by rw[h10,au];simp[pX];omega,?_⟩)
   have hc:ah.k uu ((p.c9,p.c10),(k:Int))=fA b k:=by
    rw[h10,au,xW hb.2.1 (by omega) (by omega) (by omega),Int.toNat_natCast]
   rw[hat]
   have hs:=F8 k b
   cases hbit:fA b k
   ·rw[hbit] at hs
    refine(ai (hc.trans hbit)).2 ?_
    refine dJ (congrArg LT.more (congr (congrArg (HV.c2 p) (cu (by omega))) rfl)) (ih (k+1) p B h0 h1 h2 h4 h5 h6 h7 h10 h12 h13 (by omega) (by omega) ?_)
    rw[hs,←List.append_assoc]
    exact hB.skip
   ·rw[hbit] at hs
    refine(aj (hc.trans hbit)).2 (af.2 ⟨om hB.1 (by omega) (by omega),af.2 ⟨v_,af.2 ⟨om hB.1 (by omega) (by omega),?_⟩⟩⟩)
    refine dJ (congrArg LT.more (congr (congrArg (HV.c2 p) (cu (by omega))) rfl)) (ih (k+1) p _ h0 h1 h2 h4 h5 h6 h7 h10 h12 h13 (by omega) (by omega) ?_)
    rw[hs,←List.append_assoc]
    exact zR hB hlen (by omega) (by omega)
theorem Va{l:List (Int×List Int)}(hll:l.length≤140737488355328)(hby:∀x∈l,dz x.2)(hok:∀x∈l,dS x=true)(hT:(l.flatMap bJ).length≤4096):∀(j i:Nat) (p:Il) (B:List Int),p.b1=l→p.b2=(l.length:Int)→p.b5=((l.flatMap bJ).length:Int)→l.length-i=j→i≤l.length→Holds B ((l.take i).flatMap bJ) (((l.flatMap bJ).length+7)/8)→aB (uq ah) (.more (.c1 p ((((l.take i).flatMap bJ).length:Nat):Int) (i:Int) B)) (pI (l.flatMap bJ),0):=by
 intro j
 induction j with
 | zero=>
   intro i p B h1 h2 h5 hj hi hB
   have:i=l.length:=by omega
   subst this
   rw[List.take_length] at hB ⊢
   simp only[ak,uq]
   refine(ai (by rw[h2,aI];simp)).2 ?_
   rw[h5,hB.done rfl]
   exact .ret _
 | succ j ih=>
   intro i p B h1 h2 h5 hj hi hB
   have hi':i<l.length:=by omega
   have hmem:=List.getElem_mem hi'
   have hxo:=hok _ hmem
   obtain⟨n0,b,hx⟩:∃n0 b,l[i]=(n0,b):=⟨_,_,rfl⟩
   have hby':=hby _ hmem
   rw[hx] at hxo hby'
   obtain⟨h3,h4,hb⟩:=(lg hby').1 hxo
   obtain⟨n,rfl⟩:=Int.eq_ofNat_of_zero_le h3
   have hb:okB n b:=hb
   have hb0:b.length=(n+7)/8:=hb.1
   have htf:=q8 hi'
   have hL:bJ l[i]=unpack n b:=by rw[hx,bJ];rfl
   rw[hL] at htf
   have hle:=Sz (l:=l) (i+1)
   have hle':=hle
   rw[htf,List.length_append,bA] at hle'
   have hn1:(ah.n (.struct [(.int .i64),(.slice (.int .u8))]) p.b1 (i:Int):Int×List Int)=((n:Int),b):=by rw[h1,yz hi',hx]
   simp only[ak,uq]
   refine(aj (by rw[h2,aI];simp[-List.length_flatMap];omega)).2 (af.2 ⟨by rw[h1];exact aS hi',?_⟩)
   rw[hn1]
   dsimp only
   have hmore:aB (uq ah) (.more (.c2 ⟨((((l.take i).flatMap bJ).length:Nat):Int),0,(n:Int),((((l.take i).flatMap bJ).length:Nat):Int),p.b1,p.b2,(i:Int),p.b5,(n:Int),b,p.b4,p.b5,(n:Int),b⟩ 0 B)) (pI (l.flatMap bJ),0):=by
    refine Tl hi' hll hx hb (by omega) (m:=((l.flatMap bJ).length+7)/8) (by omega) (by omega) (fun p' B' g1 g2 g3 g4=>ih (i+1) p' B' g1 g2 g3 (by omega) (by omega) g4) n 0 _ B rfl rfl rfl rfl h1 h2 rfl rfl h5 rfl (by omega) (by omega) ?_
    rw[show unpack 0 b=[] from rfl,List.append_nil]
    exact hB
   by_cases h8:((l.take i).flatMap bJ).length%8=0
   ·refine(aj (wy (by rw[xV,h8];rfl))).2 ((aj (wy rfl)).2 ?_)
    have hlB:ah.l B=((((l.flatMap bJ).length+7)/8:Nat):Int):=by rw[←hB.1];rfl
    have hlb:ah.l b=(b.length:Int):=rfl
    refine af.2 ⟨by rw[oM (by omega),hlB,ng,nc,nc,aG,aG];simp[-List.length_flatMap];omega,af.2 ⟨by show ah.and (ah.c .leq 0 0) (ah.and (ah.c .leq 0 (b.length:Int)) (ah.c .leq (b.length:Int) (b.length:Int)))=true;rw[ng,nc,aG,aG];simp[ap],?_⟩⟩
    have e0:ah.s b 0 (ah.l b)=b:=JU (i:=0)
    have e1:ah.mn (ah.l b) (ah.b .sub .i64 (ah.l B) (ah.b .quo .i64 ((((l.take i).flatMap bJ).length:Nat):Int) 8))=(b.length:Int):=by
     rw[hlB,oM (by omega),nA (by omega) (by omega),hlb,nR,if_neg (by omega)]
    have e2:ah.s b 0 (b.length:Int)=b:=e0
    have e3:ah.spl B (ah.b .quo .i64 ((((l.take i).flatMap bJ).length:Nat):Int) 8) b=B.take (((l.take i).flatMap bJ).length/8)++b++B.drop (((l.take i).flatMap bJ).length/8+b.length):=by
     rw[oM (by omega),jf,Int.toNat_natCast]
    have hnew:=He hB (q:=((l.take i).flatMap bJ).length/8) (by omega) hb (by omega)
    rw[←htf,←e3] at hnew
    have e4:ah.b .add .i64 ((((l.take i).flatMap bJ).length:Nat):Int) (n:Int)=((((l.take (i+1)).flatMap bJ).length:Nat):Int):=by
     rw[eH (by omega),htf,List.length_append,bA]
    have fin:aB (uq ah) (.more (.c1 p (ah.b .add .i64 ((((l.take i).flatMap bJ).length:Nat):Int) (n:Int)) (ah.b .add .i64 (i:Int) 1) (ah.spl B (ah.b .quo .i64 ((((l.take i).flatMap bJ).length:Nat):Int) 8) (ah.s (ah.s b 0 (ah.l b)) 0 (ah.mn (ah.l (ah.s b 0 (ah.l b))) (ah.b .sub .i64 (ah.l B) (ah.b .quo .i64 ((((l.take i).flatMap bJ).length:Nat):Int) 8))))))) (pI (l.flatMap bJ),0):=by
     rw[e0,e1,e2,e4,cu (by omega)]
     exact ih (i+1) p _ h1 h2 h5 (by omega) (by omega) hnew
    exact fin
   ·exact(ai (J7 (by rw[xV];omega))).2 hmore
theorem TS{l:List (Int×List Int)}(hll:l.length≤140737488355328)(hby:∀x∈l,dz x.2∧x.2.length≤140737488355328):∀(j i:Nat) (p:Pb) (t:Int),p.a0=l→p.a2=l→p.a3=(l.length:Int)→t=((min ((l.take i).flatMap bJ).length 4097:Nat):Int)→l.length-i=j→i≤l.length→(∀x∈l.take i,dS x=true)→aB (uq ah) (.more (.c0 p t (i:Int))) (JX l):=by
 intro j
 induction j with
 | zero=>
   intro i p t h0 h2 h3 ht hj hi hok
   have:i=l.length:=by omega
   subst this
   rw[List.take_length] at hok ht
   simp only[ak,uq]
   refine(ai (by rw[h3,aI];simp)).2 ?_
   rw[JX,List.all_eq_true.2 hok,cond_true]
   by_cases h4:4096<(l.flatMap bJ).length
   ·refine(aj (by rw[aH,ht];simp[-List.length_flatMap];omega)).2 ?_
    rw[MP h4]
    exact .ret _
   ·refine(ai (by rw[aH,ht];simp[-List.length_flatMap];omega)).2 ?_
    have ht':t=(((l.flatMap bJ).length:Nat):Int):=by omega
    have hneed:ah.k eB t=((((l.flatMap bJ).length+7)/8:Nat):Int):=by rw[au,ht',oo (by omega) (by omega),Int.toNat_natCast]
    refine af.2 ⟨rfl,af.2 ⟨by rw[hneed,ng,wy rfl,ap,aG,aG];simp[-List.length_flatMap];omega,?_⟩⟩
    rw[Br (by omega),hneed,nD,Int.toNat_natCast]
    exact Va hll (fun x hx=>(hby x hx).1) hok (by omega) l.length 0 _ _ h0 (by show ah.l p.a0=_;rw[h0];rfl) ht' (by omega) (by omega) (Holds.blank _)
 | succ j ih=>
   intro i p t h0 h2 h3 ht hj hi hok
   have hi':i<l.length:=by omega
   have hmem:=List.getElem_mem hi'
   simp only[ak,uq]
   refine(aj (by rw[h3,aI];simp[-List.length_flatMap];omega)).2 (af.2 ⟨by rw[h2];exact aS hi',af.2 ⟨rfl,?_⟩⟩)
   have hn1:(ah.n (.struct [(.int .i64),(.slice (.int .u8))]) p.a2 (i:Int):Int×List Int)=l[i]:=by rw[h2,yz hi']
   rw[hn1]
   have hc:ah.k lq l[i]=bif dS l[i] then 0 else 10:=by
    obtain⟨n0,b,hx⟩:∃n0 b,l[i]=(n0,b):=⟨_,_,rfl⟩
    have:=hby _ hmem
    rw[hx] at this ⊢
    exact nG this.1 this.2
   rw[hc]
   cases hx:dS l[i]
   ·refine(aj rfl).2 ?_
    rw[JX,show l.all dS=false from List.all_eq_false.2 ⟨l[i],hmem,by rw[hx];decide⟩]
    exact .ret _
   ·refine(ai rfl).2 ?_
    have hle:=aaP hx
    have hN:l[i].1=(((bJ l[i]).length:Nat):Int):=by
     rw[oV]
     simp only[dS,Bool.and_eq_true,decide_eq_true_eq] at hx
     omega
    refine dJ (congrArg LT.more (congr (congrArg (HV.c0 p) rfl) (cu (by omega)))) (ih (i+1) p _ h0 h2 h3 ?_ (by omega) (by omega) ?_)
    ·rw[hN,ht,eH (by omega),nR,q8 hi',List.length_append]
     by_cases h9:(4097:Int)<((min ((l.take i).flatMap bJ).length 4097+(bJ l[i]).length:Nat):Int)
     ·rw[if_pos h9];omega
     ·rw[if_neg h9];omega
    ·intro x hx2
     rw[List.take_succ_eq_append_getElem hi'] at hx2
     rcases List.mem_append.1 hx2 with h4|h4
     ·exact hok x h4
     ·rw[List.mem_singleton.1 h4];exact hx
def EN:(List (Int×List Int))→((Int×List Int)×Int):=JX
def aer:aC:=⟨[(.slice (.struct [yI,yB]))], [(.struct [yI,yB]),yI],(@tt (List (Int×List Int))),EN⟩
theorem af_:Sd 298 aer:=aU ar bU true 24 [⟨298,3, [[0,2,4,12,13,14]]⟩,⟨298,15, [[2,8,9,35,36,37]]⟩,⟨325,4, [[1,3,4,5,7,10], [2,8,9,11,35,36,37]]⟩] [] (fun A l=>ad2 A l) uq aaf (fc Tryz.func298 (fc Tryz.func322 (fc Tryz.func324 (fc Tryz.func325 fz)))) (sc F2 (sc Je (sc Qx (sc Ja sz)))) (fun A y=>match y with |.c0 p a1 a4=>⟨55,by kernel_rfl,by kernel_rfl⟩|.c1 p b0 b3 b6=>⟨82,by kernel_rfl,by kernel_rfl⟩|.c2 p c3 Af=>⟨57,by kernel_rfl,by kernel_rfl⟩) fun(l:List (Int×List Int)) hp h=>by
 show aB (uq ah) (ad2 ah l) (EN l)
 exact TS (tj h).1 (tj h).2 l.length 0 _ 0 rfl rfl rfl rfl rfl (by omega) (by intro x hx;cases hx)
def Wv(A:aK)(bN:Int)(bB:List Int)(unsentN:Int)(unsentB:List Int):LT ((Int×List Int)×Int) Empty:=.need (A.k (@tt (List (Int×List Int))) [(unsentN,unsentB),(bN,bB)]) (.br (A.c .neq (A.k ky [(unsentN,unsentB),(bN,bB)]).2 0) (.ret ((0,([]:List Int)),(A.k ky [(unsentN,unsentB),(bN,bB)]).2)) (.need (A.k (@tt ((Int×List Int)×Int×Int)) ((bN,bB),(A.v .u64 (A.k ky [(unsentN,unsentB),(bN,bB)]).1),24)) (.ret (A.k qO ((bN,bB),(A.v .u64 (A.k ky [(unsentN,unsentB),(bN,bB)]).1),24)))))
theorem SX{n m:Int}{b u:List Int}(h:Ty.cq [(.struct [(.int .i64),(.slice (.int .u8))]),(.struct [(.int .i64),(.slice (.int .u8))])] ((n,b),(m,u))):aB Empty.elim (Wv ah n b m u) (MX ((n,b),(m,u))):=by
 unfold Wv
 have hs:ah.k ky [(m,u),(n,b)]=bif dS (m,u)&&dS (n,b) then(((over (over 0 (bJ (m,u))) (bJ (n,b)):Nat):Int),0) else(0,10):=by
  rw[au,ky,Fi]
  show(bif (dS (m,u)&&(dS (n,b)&&true)) then(((over 0 (bJ (m,u)++(bJ (n,b) ++ [])):Nat):Int),(0:Int)) else(0,10))=_
  rw[Bool.and_true,List.append_nil,jw]
 refine af.2 ⟨rfl,?_⟩
 have hlt:=nq (nq (r:=0) (by decide) (bJ (m,u))) (bJ (n,b))
 rw[MX]
 cases hok:dS (m,u)&&dS (n,b)
 ·rw[hok,cond_false] at hs
  refine(aj (show((ah.k ky [(m,u),(n,b)]).2 != 0)=true by rw[hs];rfl)).2 ?_
  exact dJ (congrArg LT.ret (show((0,([]:List Int)),(ah.k ky [(m,u),(n,b)]).2)=(zB,10) by rw[hs];rfl)) (.ret _)
 ·rw[hok,cond_true] at hs
  refine(ai (show((ah.k ky [(m,u),(n,b)]).2 != 0)=false by rw[hs];rfl)).2 (af.2 ⟨rfl,?_⟩)
  refine dJ (congrArg LT.ret (show ah.k qO ((n,b),ah.v .u64 (ah.k ky [(m,u),(n,b)]).1,24)=R3 (Vz (over 0 (bJ (m,u))) (bJ (n,b))) from ?_)) (.ret _)
  rw[Bool.and_eq_true] at hok
  rw[hs,qH (by omega),au,qO,La,hok.2,Dp (by omega),Int.toNat_natCast,Nat.div_eq_of_lt (by simp only[show(24:Int).toNat=24 from rfl];omega)]
  rfl
def JM:((Int×List Int)×(Int×List Int))→((Int×List Int)×Int):=MX
def aeh:aC:=⟨[(.struct [yI,yB]),(.struct [yI,yB])], [(.struct [yI,yB]),yI],(@tt ((Int×List Int)×(Int×List Int))),JM⟩
theorem adQ:Sd 297 aeh:=aQ ar bU true 44 [] (fun A ((bN,bB),unsentN,unsentB)=>Wv A bN bB unsentN unsentB) (fc Tryz.func297 fz) (sc Ra (sc V7 sz)) fun((bN,bB),unsentN,unsentB) hp h=>SX h
def t91(A:aK)(w00:Int)(w01:List Int)(w1:Int)(v:Int)(width:Int):LT ((((Int×List Int)×Int))×Unit) Empty:=.br (A.c .eql w1 0) (.need (A.k (@tt ((Int×List Int)×Int×Int)) ((w00,w01),(A.v .u64 v),width)) (.ret ((A.k qO ((w00,w01),(A.v .u64 v),width)),()))) (.ret (((w00,w01),w1),()))
theorem agN{n e v k:Int}{b:List Int}:aB Empty.elim (t91 ah n b e v k) (bif decide (e=0) then qO ((n,b),ah.v .u64 v,k) else((n,b),e),()):=by
 unfold t91
 by_cases h:e=0
 ·rw[decide_eq_true h];exact(aj (by rw[ax,h];rfl)).2 (af.2 ⟨rfl,.ret _⟩)
 ·rw[decide_eq_false h];exact(ai (by rw[ax];exact beq_eq_false_iff_ne.2 h)).2 (.ret _)
def lD:(((Int×List Int)×Int))×(Int×Int)→(((Int×List Int)×Int))×Unit:=fun((s,e),v,n)=>(bif decide (e=0) then qO (s,ah.v .u64 v,n) else(s,e),())
def aiw:bI:=⟨[.ptr [.d (.struct [yI,yB]),.d yI]], [yI,yI], [],(@tt ((((Int×List Int)×Int))×(Int×Int))),lD,true⟩
theorem ade:bI.Sound Tryz.prog 252 aiw:=bH ar bU true 46 iz mz pz [] [] (fun A (((w00,w01),w1),(v,width))=>t91 A w00 w01 w1 v width) (fun _=>Empty.elim) Empty.elim (fc Tryz.func252 fz) (sc Ra sz) (fun _ y=>y.elim) fun((((w00,w01),w1),(v,width)):(((Int×List Int)×Int))×(Int×Int)) hp hv h=>agN
def t94(A:aK)(w00:Int)(w01:List Int)(w1:Int)(bN:Int)(bB:List Int):LT ((((Int×List Int)×Int))×Unit) Empty:=.br (A.c .eql w1 0) (.need (A.k (@tt (List (Int×List Int))) [(w00,w01),(bN,bB)]) (.ret ((A.k EN [(w00,w01),(bN,bB)]),()))) (.ret (((w00,w01),w1),()))
theorem ahA{n e k:Int}{b c:List Int}:aB Empty.elim (t94 ah n b e k c) (bif decide (e=0) then EN [(n,b),(k,c)] else((n,b),e),()):=by
 unfold t94
 by_cases h:e=0
 ·rw[decide_eq_true h];exact(aj (by rw[ax,h];rfl)).2 (af.2 ⟨rfl,.ret _⟩)
 ·rw[decide_eq_false h];exact(ai (by rw[ax];exact beq_eq_false_iff_ne.2 h)).2 (.ret _)
def GN:(((Int×List Int)×Int))×((Int×List Int))→(((Int×List Int)×Int))×Unit:=fun((s,e),b)=>(bif decide (e=0) then EN [s,b] else(s,e),())
def ahO:bI:=⟨[.ptr [.d (.struct [yI,yB]),.d yI]], [(.struct [yI,yB])], [],(@tt ((((Int×List Int)×Int))×((Int×List Int)))),GN,true⟩
theorem aho:bI.Sound Tryz.prog 255 ahO:=bH ar bU true 46 iz mz pz [] [] (fun A (((w00,w01),w1),(bN,bB))=>t94 A w00 w01 w1 bN bB) (fun _=>Empty.elim) Empty.elim (fc Tryz.func255 fz) (sc af_ sz) (fun _ y=>y.elim) fun((((w00,w01),w1),(bN,bB)):(((Int×List Int)×Int))×((Int×List Int))) hp hv h=>ahA
def t92(A:aK)(w00:Int)(w01:List Int)(w1:Int)(unsentN:Int)(unsentB:List Int):LT ((((Int×List Int)×Int))×Unit) Empty:=.br (A.c .eql w1 0) (.need (A.k (@tt ((Int×List Int)×(Int×List Int))) ((w00,w01),unsentN,unsentB)) (.ret ((A.k JM ((w00,w01),unsentN,unsentB)),()))) (.ret (((w00,w01),w1),()))
theorem ahU{n e k:Int}{b c:List Int}:aB Empty.elim (t92 ah n b e k c) (bif decide (e=0) then JM ((n,b),k,c) else((n,b),e),()):=by
 unfold t92
 by_cases h:e=0
 ·rw[decide_eq_true h];exact(aj (by rw[ax,h];rfl)).2 (af.2 ⟨rfl,.ret _⟩)
 ·rw[decide_eq_false h];exact(ai (by rw[ax];exact beq_eq_false_iff_ne.2 h)).2 (.ret _)
def EY:(((Int×List Int)×Int))×((Int×List Int))→(((Int×List Int)×Int))×Unit:=fun((s,e),b)=>(bif decide (e=0) then JM (s,b) else(s,e),())
def ahe:bI:=⟨[.ptr [.d (.struct [yI,yB]),.d yI]], [(.struct [yI,yB])], [],(@tt ((((Int×List Int)×Int))×((Int×List Int)))),EY,true⟩
theorem ahz:bI.Sound Tryz.prog 253 ahe:=bH ar bU true 45 iz mz pz [] [] (fun A (((w00,w01),w1),(unsentN,unsentB))=>t92 A w00 w01 w1 unsentN unsentB) (fun _=>Empty.elim) Empty.elim (fc Tryz.func253 fz) (sc adQ sz) (fun _ y=>y.elim) fun((((w00,w01),w1),(unsentN,unsentB)):(((Int×List Int)×Int))×((Int×List Int))) hp hv h=>ahU
structure V_ where
 (a0:List Int) (a1:Int)
inductive Y93 where
 | c0 (p:V_) (a2:Int) (a3:Int) (a4:List Int) (a5:Int)
noncomputable def aa2:Y93→eF
 | .c0 p a2 a3 a4 a5=>⟨[⟨254,19,(en [(0,.ptr 0 0),(7,.sl yU p.a0),(8,vi p.a1),(9,vi a2)]),[.inLoop (cw Tryz.f254 [1,0,1,0,0]),.inBlock 0,.code (cw Tryz.f254 [1,1])],[],none⟩],[.flat false [vi a3,.sl yU a4,vi a5],.dead]⟩
def t93(A:aK)(w00:Int)(w01:List Int)(w1:Int)(l:List Int):LT ((((Int×List Int)×Int))×Unit) Y93:=.more (.c0 ⟨l,(A.l l)⟩ 0 w00 w01 w1)
def s93(A:aK):Y93→LT ((((Int×List Int)×Int))×Unit) Y93
 | .c0 p a2 a3 a4 a5=>.br (A.c .lss a2 p.a1) (.need (A.and (A.c .leq 0 a2) (A.c .lss a2 (A.l p.a0))) (.need (A.k (@tt ((((Int×List Int)×Int))×(Int×Int))) (((a3,a4),a5),(A.v .i64 (A.n yU p.a0 a2:Int)),8)) (.more (.c0 p (A.b .add .i64 a2 1) (A.k lD (((a3,a4),a5),(A.v .i64 (A.n yU p.a0 a2:Int)),8)).1.1.1 (A.k lD (((a3,a4),a5),(A.v .i64 (A.n yU p.a0 a2:Int)),8)).1.1.2 (A.k lD (((a3,a4),a5),(A.v .i64 (A.n yU p.a0 a2:Int)),8)).1.2)))) (.ret (((a3,a4),a5),()))
def Z2(l:List Int)(s:(Int×List Int)×Int):(Int×List Int)×Int:=l.foldl (fun s c=>(lD (s,ah.v .i64 c,8)).1) s
theorem ahF{l:List Int}(hl:l.length≤140737488355328){p:V_}(h0:p.a0=l)(h1:p.a1=(l.length:Int)):∀(j i:Nat) (s:(Int×List Int)×Int),l.length-i=j→i≤l.length→
  aB (s93 ah) (.more (.c0 p (i:Int) s.1.1 s.1.2 s.2)) (Z2 (l.drop i) s,()):=by
 intro j
 induction j with
 | zero=>
   intro i s hj hi
   have:i=l.length:=by omega
   subst this
   rw[ak,s93,h1,List.drop_length]
   exact(ai (by rw[al];simp)).2 (.ret _)
 | succ j ih=>
   intro i s hj hi
   have hi':i<l.length:=by omega
   rw[ak,s93,h0,h1]
   refine(aj (by rw[al];exact decide_eq_true (by omega))).2 (af.2 ⟨aS hi',af.2 ⟨rfl,?_⟩⟩)
   rw[show(ah.n (.int .u8) l (i:Int):Int)=l[i] from getD_in hi' _,List.drop_eq_getElem_cons hi',cu (i:=i) (by omega)]
   exact ih (i+1) (lD (s,ah.v .i64 l[i],8)).1 (by omega) (by omega)
theorem afh{n e:Int}{b l:List Int}(hl:l.length≤140737488355328):aB (s93 ah) (t93 ah n b e l) (Z2 l ((n,b),e),()):=
 ahF hl rfl rfl l.length 0 ((n,b),e) rfl (Nat.zero_le _)
def O0:(((Int×List Int)×Int))×(List Int)→(((Int×List Int)×Int))×Unit:=fun(s,l)=>(Z2 l s,())
def ag6:bI:=⟨[.ptr [.d (.struct [yI,yB]),.d yI]], [yB], [],(@tt ((((Int×List Int)×Int))×(List Int))),O0,true⟩
theorem ahZ:bI.Sound Tryz.prog 254 ag6:=bH ar bU true 19 iz (mc ade mz) pz [⟨254,2, [[0,7,8,9]]⟩] [] (fun A (((w00,w01),w1),l)=>t93 A w00 w01 w1 l) s93 aa2 (fc Tryz.func254 fz) sz (fun A y=>match y with |.c0 p a2 a3 a4 a5=>⟨32,by kernel_rfl,by kernel_rfl⟩) fun((((w00,w01),w1),l):(((Int×List Int)×Int))×(List Int)) hp hv h=>afh h.1
abbrev CS(A:aK)(fKind:Int):=(A.k lD (((0,([]:List Int)),0),(A.b .sub .i64 fKind 1),2))
abbrev ug(A:aK)(fKind:Int)(fReq:Int):=(A.k lD ((CS A fKind).1,fReq,3))
abbrev SV(A:aK)(fKind:Int)(fReq:Int):=(A.k (@tt ((((Int×List Int)×Int))×(Int×Int))) ((CS A fKind).1,fReq,3))
def t46(A:aK)(fKind:Int)(fReq:Int)(fCTime:Int)(fCPos:Int)(fCMode:Int)(fCNext:Int)(fCMember:Int)(fFrom:Int)(fData:List Int):LT ((Int×List Int)×Int) Empty:=.need (A.k (@tt ((Int×Int×(Int×Int×Int×Int×Int)×Int×List Int))) (fKind,fReq,(fCTime,fCPos,fCMode,fCNext,fCMember),fFrom,fData)) (.br (A.c .neq (A.k pH (fKind,fReq,(fCTime,fCPos,fCMode,fCNext,fCMember),fFrom,fData)) 0) (.ret ((0,([]:List Int)),(A.k pH (fKind,fReq,(fCTime,fCPos,fCMode,fCNext,fCMember),fFrom,fData)))) (.need (A.k (@tt ((Int×Int×Int×Int×Int))) (fCTime,fCPos,fCMode,fCNext,fCMember)) (.br (A.c .neq (A.k qq (fCTime,fCPos,fCMode,fCNext,fCMember)).2 0) (.ret ((0,([]:List Int)),(A.k qq (fCTime,fCPos,fCMode,fCNext,fCMember)).2)) (.need (A.k (@tt ((((Int×List Int)×Int))×(Int×Int))) (((0,([]:List Int)),0),(A.b .sub .i64 fKind 1),2)) (.br (A.c .eql fKind 1) (.need (A.k (@tt ((((Int×List Int)×Int))×(Int×Int))) ((CS A fKind).1,fFrom,3)) (.need (A.k (@tt ((((Int×List Int)×Int))×(Int×Int))) ((A.k lD ((CS A fKind).1,fFrom,3)).1,fCTime,8)) (.need (A.k (@tt ((((Int×List Int)×Int))×(Int×Int))) ((A.k lD ((A.k lD ((CS A fKind).1,fFrom,3)).1,fCTime,8)).1,0,3)) (.need (A.k (@tt ((((Int×List Int)×Int))×((Int×List Int)))) ((A.k lD ((A.k lD ((A.k lD ((CS A fKind).1,fFrom,3)).1,fCTime,8)).1,0,3)).1,0,([]:List Int))) (.ret (A.k EY ((A.k lD ((A.k lD ((A.k lD ((CS A fKind).1,fFrom,3)).1,fCTime,8)).1,0,3)).1,0,([]:List Int))).1))))) (.br (A.c .eql fKind 2) (.need (SV A fKind fReq) (.need (A.k (@tt ((((Int×List Int)×Int))×(List Int))) ((ug A fKind fReq).1,fData)) (.need (A.k (@tt ((((Int×List Int)×Int))×((Int×List Int)))) ((A.k O0 ((ug A fKind fReq).1,fData)).1,(A.k qq (fCTime,fCPos,fCMode,fCNext,fCMember)).1)) (.ret (A.k EY ((A.k O0 ((ug A fKind fReq).1,fData)).1,(A.k qq (fCTime,fCPos,fCMode,fCNext,fCMember)).1)).1)))) (.br (A.c .eql fKind 3) (.need (SV A fKind fReq) (.need (A.k (@tt ((((Int×List Int)×Int))×(Int×Int))) ((ug A fKind fReq).1,0,1)) (.need (A.k (@tt ((((Int×List Int)×Int))×((Int×List Int)))) ((A.k lD ((ug A fKind fReq).1,0,1)).1,(A.k qq (fCTime,fCPos,fCMode,fCNext,fCMember)).1)) (.need (A.k (@tt ((((Int×List Int)×Int))×((Int×List Int)))) ((A.k GN ((A.k lD ((ug A fKind fReq).1,0,1)).1,(A.k qq (fCTime,fCPos,fCMode,fCNext,fCMember)).1)).1,0,([]:List Int))) (.ret (A.k EY ((A.k GN ((A.k lD ((ug A fKind fReq).1,0,1)).1,(A.k qq (fCTime,fCPos,fCMode,fCNext,fCMember)).1)).1,0,([]:List Int))).1))))) (.br (A.c .eql fKind 4) (.need (SV A fKind fReq) (.need (A.k (@tt ((((Int×List Int)×Int))×(Int×Int))) ((ug A fKind fReq).1,0,2)) (.need (A.k (@tt ((((Int×List Int)×Int))×((Int×List Int)))) ((A.k lD ((ug A fKind fReq).1,0,2)).1,(A.k qq (fCTime,fCPos,fCMode,fCNext,fCMember)).1)) (.need (A.k (@tt ((((Int×List Int)×Int))×((Int×List Int)))) ((A.k GN ((A.k lD ((ug A fKind fReq).1,0,2)).1,(A.k qq (fCTime,fCPos,fCMode,fCNext,fCMember)).1)).1,0,([]:List Int))) (.need (A.k (@tt ((((Int×List Int)×Int))×(List Int))) ((A.k EY ((A.k GN ((A.k lD ((ug A fKind fReq).1,0,2)).1,(A.k qq (fCTime,fCPos,fCMode,fCNext,fCMember)).1)).1,0,([]:List Int))).1,fData)) (.need (A.k (@tt ((((Int×List Int)×Int))×((Int×List Int)))) ((A.k O0 ((A.k EY ((A.k GN ((A.k lD ((ug A fKind fReq).1,0,2)).1,(A.k qq (fCTime,fCPos,fCMode,fCNext,fCMember)).1)).1,0,([]:List Int))).1,fData)).1,(A.k qq (fCTime,fCPos,fCMode,fCNext,fCMember)).1)) (.ret (A.k EY ((A.k O0 ((A.k EY ((A.k GN ((A.k lD ((ug A fKind fReq).1,0,2)).1,(A.k qq (fCTime,fCPos,fCMode,fCNext,fCMember)).1)).1,0,([]:List Int))).1,fData)).1,(A.k qq (fCTime,fCPos,fCMode,fCNext,fCMember)).1)).1))))))) (.ret (CS A fKind).1)))))))))
def F5:((Int×Int×(Int×Int×Int×Int×Int)×Int×List Int))→((Int×List Int)×Int):=fun(fKind,fReq,(fCTime,fCPos,fCMode,fCNext,fCMember),fFrom,fData)=>(t46 ah fKind fReq fCTime fCPos fCMode fCNext fCMember fFrom fData).val (Ty.bl [(.struct [yI,yB]),yI])
def ahs:aC:=⟨[(.struct [yI,yI,(.struct [yI,yI,yI,yI,yI]),yI,yB])], [(.struct [yI,yB]),yI],(@tt ((Int×Int×(Int×Int×Int×Int×Int)×Int×List Int))),F5⟩
theorem ahP:Sd 191 ahs:=oA ar bU true 120  iz (mc ade (mc ahz (mc ahZ (mc aho mz)))) pz [] [] (fun A (fKind,fReq,(fCTime,fCPos,fCMode,fCNext,fCMember),fFrom,fData)=>t46 A fKind fReq fCTime fCPos fCMode fCNext fCMember fFrom fData) (fun _=>Empty.elim) Empty.elim (fc Tryz.func191 fz) (sc abU (sc aga sz)) (fun _ y=>y.elim) fun((fKind,fReq,(fCTime,fCPos,fCMode,fCNext,fCMember),fFrom,fData):(Int×Int×(Int×Int×Int×Int×Int)×Int×List Int)) hp h=>LT.runs (d:=Ty.bl [(.struct [yI,yB]),yI]) (LT.fX (by kernel_rfl)) (by
 show(t46 ah fKind fReq fCTime fCPos fCMode fCNext fCMember fFrom fData).pre=true
 simp only[t46,SV,ug,CS,LT.pre,au,cm,cy,Bool.true_and,implies_true,and_self])
theorem agj{n:Int}(h0:0≤n)(h1:n≤8):ah.b .shl .i64 1 n=((2^n.toNat:Nat):Int):=by
 have:n=0∨n=1∨n=2∨n=3∨n=4∨n=5∨n=6∨n=7∨n=8:=by omega
 rcases this with rfl|rfl|rfl|rfl|rfl|rfl|rfl|rfl|rfl<;>decide
theorem s9{n:Nat}(h:n≤8):2^n≤256:=Nat.pow_le_pow_right (by decide) h
def kX(c a:Int):Bool:=c.toNat.testBit a.toNat
def jM(c s:Int):Int:=ah.b .or .i64 c (ah.b .shl .i64 1 s)
def pP(c s:Int):Int:=ah.b .andNot .i64 c (ah.b .shl .i64 1 s)
theorem UT:∀c:Fin 256,∀a:Fin 8,ah.b .or .i64 (c.val:Int) (ah.b .shl .i64 1 (a.val:Int))=((c.val ||| 2^a.val:Nat):Int):=by decide +kernel
theorem Sy:∀c:Fin 256,∀a:Fin 8,ah.b .andNot .i64 (c.val:Int) (ah.b .shl .i64 1 (a.val:Int))=((c.val &&& (255 ^^^ 2^a.val):Nat):Int):=by decide +kernel
theorem RY{c s:Int}(h0:0≤c)(h1:c<256)(h2:0≤s)(h3:s<8):jM c s=((c.toNat ||| 2^s.toNat:Nat):Int):=by
 obtain⟨c,rfl⟩:=Int.eq_ofNat_of_zero_le h0
 obtain⟨s,rfl⟩:=Int.eq_ofNat_of_zero_le h2
 exact UT ⟨c,by omega⟩ ⟨s,by omega⟩
theorem del_eq{c s:Int}(h0:0≤c)(h1:c<256)(h2:0≤s)(h3:s<8):pP c s=((c.toNat &&& (255 ^^^ 2^s.toNat):Nat):Int):=by
 obtain⟨c,rfl⟩:=Int.eq_ofNat_of_zero_le h0
 obtain⟨s,rfl⟩:=Int.eq_ofNat_of_zero_le h2
 exact Sy ⟨c,by omega⟩ ⟨s,by omega⟩
theorem Qn{c s n:Int}(h0:0≤c)(hn:n≤8)(h1:c<((2^n.toNat:Nat):Int))(h2:0≤s)(h3:s<n):0≤jM c s∧jM c s<((2^n.toNat:Nat):Int):=by
 have hp:=s9 (n:=n.toNat) (by omega)
 rw[RY h0 (by omega) h2 (by omega)]
 have h4:2^s.toNat<2^n.toNat:=Nat.pow_lt_pow_right (by decide) (by omega)
 have:=Nat.or_lt_two_pow (x:=c.toNat) (y:=2^s.toNat) (n:=n.toNat) (by omega) h4
 omega
theorem Np{c s n:Int}(h0:0≤c)(hn:n≤8)(h1:c<((2^n.toNat:Nat):Int))(h2:0≤s)(h3:s<8):0≤pP c s∧pP c s<((2^n.toNat:Nat):Int):=by
 have hp:2^n.toNat≤2^8:=Nat.pow_le_pow_right (by decide) (by omega)
 rw[del_eq h0 (by omega) h2 (by omega)]
 have:c.toNat &&& (255 ^^^ 2^s.toNat)≤c.toNat:=Nat.and_le_left
 omega
theorem Ka{c s i:Int}(h0:0≤c)(h1:c<256)(h2:0≤s)(h3:s<8)(h4:0≤i):kX (jM c s) i=(kX c i||s==i):=by
 rw[RY h0 h1 h2 h3,kX,kX,Int.toNat_natCast,Nat.testBit_or,Nat.testBit_two_pow]
 congr 1
 rw[Bool.eq_iff_iff];simp;omega
theorem Ck{c s i:Int}(h0:0≤c)(h1:c<256)(h2:0≤s)(h3:s<8)(h4:0≤i):kX (pP c s) i=(kX c i&&s != i):=by
 rw[del_eq h0 h1 h2 h3,kX,kX,Int.toNat_natCast,Nat.testBit_and,Nat.testBit_xor,Nat.testBit_two_pow]
 by_cases hi:i<8
 ·have e:Nat.testBit 255 i.toNat=true:=by
   have:i.toNat=0∨i.toNat=1∨i.toNat=2∨i.toNat=3∨i.toNat=4∨i.toNat=5∨i.toNat=6∨i.toNat=7:=by omega
   rcases this with h|h|h|h|h|h|h|h<;>rw[h]<;>decide
  rw[e]
  congr 1
  rw[Bool.eq_iff_iff];simp;omega
 ·have:c.toNat.testBit i.toNat=false:=Nat.testBit_lt_two_pow (Nat.lt_of_lt_of_le (by omega:c.toNat<2^8) (Nat.pow_le_pow_right (by decide) (by omega)))
  rw[this];rfl
theorem MH:∀c:Fin 256,∀a:Fin 8,(ah.b .and .i64 (ah.b .shr .i64 (c.val:Int) (a.val:Int)) 1==0)=!(c.val.testBit a.val):=by decide +kernel
theorem OJ:∀c:Fin 256,∀a:Fin 8,(ah.b .and .i64 (c.val:Int) (ah.b .shl .i64 1 (a.val:Int))==0)=!(c.val.testBit a.val):=by decide +kernel
theorem V8{c a:Int}(h0:0≤c)(h1:c<256)(h2:0≤a)(h3:a<8):ah.b .and .i64 (ah.b .shr .i64 c a) 1=0↔kX c a=false:=by
 obtain⟨c,rfl⟩:=Int.eq_ofNat_of_zero_le h0
 obtain⟨a,rfl⟩:=Int.eq_ofNat_of_zero_le h2
 have:=MH ⟨c,by omega⟩ ⟨a,by omega⟩
 simp only at this
 rw[←beq_iff_eq,this]
 simp[kX]
theorem abz{c a:Int}(h0:0≤c)(h1:c<256)(h2:0≤a)(h3:a<8):ah.b .and .i64 c (ah.b .shl .i64 1 a)=0↔kX c a=false:=by
 obtain⟨c,rfl⟩:=Int.eq_ofNat_of_zero_le h0
 obtain⟨a,rfl⟩:=Int.eq_ofNat_of_zero_le h2
 have:=OJ ⟨c,by omega⟩ ⟨a,by omega⟩
 simp only at this
 rw[←beq_iff_eq,this]
 simp[kX]
def iQ(a b c d e f g:Int):Prop:=4≤b∧b≤8∧0≤a∧a<b∧0≤g∧g<b∧0≤c∧c<((2^b.toNat:Nat):Int)∧0≤d∧d≤1048576∧0≤e∧e≤1048576∧0≤f∧f≤2∧(f≠0→kX c a=true)∧(f=2→g≠a)
theorem abJ{a b c d e f g:Int}(h:iQ a b c d e f g):c<256:=by
 obtain⟨h1,h2,_,_,_,_,_,h3,_⟩:=h
 have:=s9 (n:=b.toNat) (by omega)
 omega
def t81(A:aK)(n:Int)(most:Int):LT Bool Empty:=.br (A.c .geq n 0) (.ret (A.c .leq n most)) (.ret false)
def AT:(Int×Int)→Bool:=fun(n,most)=>(t81 ah n most).val (Ty.bl [.bool])
def agW:aC:=⟨[yI,yI], [.bool],(@tt (Int×Int)),AT⟩
theorem agD:Sd 99 agW:=aL ar bU true 21 [] (fun A (n,most)=>t81 A n most) (fc Tryz.func99 fz) sz (fun((n,most):Int×Int) hp h=>by
 show(t81 ah n most).pre=true
 simp only[t81,LT.pre,cy,ax,aD,al,ap,aH,aN,aG,bE,dC,au,bd,bf,bG,bM,cm,Bool.and_eq_true,Bool.or_eq_true,Bool.and_eq_false_iff,Bool.or_eq_false_iff,Bool.not_eq_true',Bool.not_eq_false',decide_eq_true_eq,decide_eq_false_iff_not,bne_iff_ne,beq_iff_eq,bne_eq_false_iff_eq,beq_eq_false_iff_ne]
 simp only[Ty.cq,Ty.has,ku,vF] at h
 (repeat' (first|intro _|constructor))<;>(try omega))
theorem DI{n m:Int}:AT (n,m)=(decide (0≤n)&&decide (n≤m)):=by
 simp only[AT,t81,LT.val,aN,ap]
 cases decide (0≤n)<;>rfl
def t34(A:aK)(mId:Int)(mN:Int)(mSet:Int)(mAcc:Int)(mFail:Int)(mStage:Int)(mFirst:Int):LT Int Empty:=.br (A.c .lss mN 4) (.ret 90) (.br (A.c .gtr mN 8) (.ret 90) (.need (A.k (@tt (Int×Int)) (mId,(A.b .sub .i64 mN 1))) (.br (A.not (A.k AT (mId,(A.b .sub .i64 mN 1)))) (.ret 90) (.need (A.k (@tt (Int×Int)) (mFirst,(A.b .sub .i64 mN 1))) (.br (A.not (A.k AT (mFirst,(A.b .sub .i64 mN 1)))) (.ret 90) (.need (A.k (@tt (Int×Int)) (mAcc,1048576)) (.br (A.not (A.k AT (mAcc,1048576))) (.ret 90) (.need (A.k (@tt (Int×Int)) (mFail,1048576)) (.br (A.not (A.k AT (mFail,1048576))) (.ret 90) (.need (A.k (@tt (Int×Int)) (mStage,2)) (.br (A.not (A.k AT (mStage,2))) (.ret 90) (.need (A.c .leq 0 mN) (.need (A.k (@tt (Int×Int)) (mSet,(A.b .sub .i64 (A.b .shl .i64 1 mN) 1))) (.br (A.not (A.k AT (mSet,(A.b .sub .i64 (A.b .shl .i64 1 mN) 1)))) (.ret 90) (.br (A.c .neq mStage 0) (.need (A.c .leq 0 mId) (.br (A.c .eql (A.b .and .i64 (A.b .shr .i64 mSet mId) 1) 0) (.ret 90) (.br (A.c .eql mStage 2) (.br (A.c .eql mFirst mId) (.ret 90) (.ret 0)) (.ret 0)))) (.br (A.c .eql mStage 2) (.br (A.c .eql mFirst mId) (.ret 90) (.ret 0)) (.ret 0)))))))))))))))))
def lI:((Int×Int×Int×Int×Int×Int×Int))→Int:=fun(mId,mN,mSet,mAcc,mFail,mStage,mFirst)=>(t34 ah mId mN mSet mAcc mFail mStage mFirst).val (Ty.bl [yI])
def ahk:aC:=⟨[(.struct [yI,yI,yI,yI,yI,yI,yI])], [yI],(@tt ((Int×Int×Int×Int×Int×Int×Int))),lI⟩
theorem Ij:Sd 46 ahk:=aL ar bU true 123 [] (fun A (mId,mN,mSet,mAcc,mFail,mStage,mFirst)=>t34 A mId mN mSet mAcc mFail mStage mFirst) (fc Tryz.func46 fz) (sc agD sz) (fun((mId,mN,mSet,mAcc,mFail,mStage,mFirst):(Int×Int×Int×Int×Int×Int×Int)) hp h=>by
 show(t34 ah mId mN mSet mAcc mFail mStage mFirst).pre=true
 simp only[t34,LT.pre,cy,ax,aD,al,ap,aH,aN,aG,bE,dC,au,bd,bf,bG,bM,cm,Bool.and_eq_true,Bool.or_eq_true,Bool.and_eq_false_iff,Bool.or_eq_false_iff,Bool.not_eq_true',Bool.not_eq_false',decide_eq_true_eq,decide_eq_false_iff_not,bne_iff_ne,beq_iff_eq,bne_eq_false_iff_eq,beq_eq_false_iff_ne,DI]
 simp only[Ty.cq,Ty.has,ku,vF] at h
 (repeat' (first|intro _|constructor))<;>(try omega))
theorem Ha{x:Int×Int×Int×Int×Int×Int×Int}:lI x=0∨lI x=90:=by
 obtain⟨a,b,c,d,e,f,g⟩:=x
 exact LT.kR (p:=fun y=>y=0∨y=90) (.inl rfl) (by simp[t34,LT.all])
theorem dK{a b c d e f g:Int}:lI (a,b,c,d,e,f,g)=0↔iQ a b c d e f g:=by
 simp only[lI,t34,LT.val,oO,ax,aD,al,ap,aH,aN,aG,bE,dC,au,bd,bf,bG,bM,cm,Bool.and_eq_true,Bool.or_eq_true,Bool.and_eq_false_iff,Bool.or_eq_false_iff,Bool.not_eq_true',Bool.not_eq_false',decide_eq_true_eq,decide_eq_false_iff_not,bne_iff_ne,beq_iff_eq,bne_eq_false_iff_eq,beq_eq_false_iff_ne,DI]
 simp
 unfold iQ
 by_cases hb:4≤b∧b≤8
 ·rw[gZ (by omega) (by omega),agj (by omega) hb.2]
  have hp:=s9 (n:=b.toNat) (by omega)
  have hp1:1≤2^b.toNat:=Nat.one_le_two_pow
  rw[gZ (by omega) (by omega)]
  by_cases hc:0≤c∧c<256∧0≤a∧a<8
  ·have h:=V8 hc.1 hc.2.1 hc.2.2.1 hc.2.2.2
   rw[h]
   cases kX c a<;>simp<;>omega
  ·constructor
   ·intro h;exfalso;omega
   ·intro h;exfalso;omega
 ·constructor
  ·intro h;exfalso;omega
  ·intro h;exfalso;omega
def t80(A:aK)(n:Int):LT Int Empty:=.need (A.c .leq 0 (A.v .u64 n)) (.ret (A.b .shl .i64 1 (A.v .u64 n)))
def M6:Int→Int:=fun n=>(t80 ah n).val (Ty.bl [yI])
def ahh:aC:=⟨[yI], [yI],(@tt Int),M6⟩
theorem ah8:Sd 208 ahh:=aL ar bU true 17 [] (fun A n=>t80 A n) (fc Tryz.func208 fz) sz (fun(n:Int) hp h=>by
 show(t80 ah n).pre=true
 simp only[t80,LT.pre,cy,ax,aD,al,ap,aH,aN,aG,bE,dC,au,bd,bf,bG,bM,cm,Bool.and_eq_true,Bool.or_eq_true,Bool.and_eq_false_iff,Bool.or_eq_false_iff,Bool.not_eq_true',Bool.not_eq_false',decide_eq_true_eq,decide_eq_false_iff_not,bne_iff_ne,beq_iff_eq,bne_eq_false_iff_eq,beq_eq_false_iff_ne]
 simp only[Ty.cq,Ty.has,ku] at h
 have:=fV .u64 n
 exact⟨this.1,trivial⟩)
theorem Jm{n:Int}(h0:0≤n)(h1:n≤8):M6 n=((2^n.toNat:Nat):Int):=by
 have:n=0∨n=1∨n=2∨n=3∨n=4∨n=5∨n=6∨n=7∨n=8:=by omega
 rcases this with rfl|rfl|rfl|rfl|rfl|rfl|rfl|rfl|rfl<;>decide
theorem NY{n:Int}(h0:0≤n)(h1:n≤8):M6 n=ah.b .shl .i64 1 n:=by rw[Jm h0 h1,agj h0 h1]
def t35(A:aK)(mId:Int)(mN:Int)(mSet:Int)(mAcc:Int)(mFail:Int)(mStage:Int)(mFirst:Int):LT Int Empty:=.br (A.c .lss mN 4) (.ret 90) (.br (A.c .gtr mN 8) (.ret 90) (.br (A.c .lss mId 0) (.ret 90) (.br (A.c .geq mId mN) (.ret 90) (.br (A.c .lss mFirst 0) (.ret 90) (.br (A.c .geq mFirst mN) (.ret 90) (.br (A.c .lss mSet 0) (.ret 90) (.need (A.k (@tt Int) mN) (.br (A.c .geq mSet (A.k M6 mN)) (.ret 90) (.br (A.c .lss mAcc 0) (.ret 90) (.br (A.c .gtr mAcc 1048576) (.ret 90) (.br (A.c .lss mFail 0) (.ret 90) (.br (A.c .gtr mFail 1048576) (.ret 90) (.br (A.c .lss mStage 0) (.ret 90) (.br (A.c .gtr mStage 2) (.ret 90) (.br (A.c .neq mStage 0) (.need (A.k (@tt Int) mId) (.br (A.c .eql (A.b .and .i64 mSet (A.k M6 mId)) 0) (.ret 90) (.br (A.c .eql mStage 2) (.br (A.c .eql mFirst mId) (.ret 90) (.ret 0)) (.ret 0)))) (.br (A.c .eql mStage 2) (.br (A.c .eql mFirst mId) (.ret 90) (.ret 0)) (.ret 0)))))))))))))))))
def mq:((Int×Int×Int×Int×Int×Int×Int))→Int:=fun(mId,mN,mSet,mAcc,mFail,mStage,mFirst)=>(t35 ah mId mN mSet mAcc mFail mStage mFirst).val (Ty.bl [yI])
def ag0:aC:=⟨[(.struct [yI,yI,yI,yI,yI,yI,yI])], [yI],(@tt ((Int×Int×Int×Int×Int×Int×Int))),mq⟩
theorem aim:Sd 144 ag0:=aL ar bU true 130 [] (fun A (mId,mN,mSet,mAcc,mFail,mStage,mFirst)=>t35 A mId mN mSet mAcc mFail mStage mFirst) (fc Tryz.func144 fz) (sc ah8 sz) (fun((mId,mN,mSet,mAcc,mFail,mStage,mFirst):(Int×Int×Int×Int×Int×Int×Int)) hp h=>by
 show(t35 ah mId mN mSet mAcc mFail mStage mFirst).pre=true
 simp only[t35,LT.pre,cy,ax,aD,al,ap,aH,aN,aG,bE,dC,au,bd,bf,bG,bM,cm,Bool.and_eq_true,Bool.or_eq_true,Bool.and_eq_false_iff,Bool.or_eq_false_iff,Bool.not_eq_true',Bool.not_eq_false',decide_eq_true_eq,decide_eq_false_iff_not,bne_iff_ne,beq_iff_eq,bne_eq_false_iff_eq,beq_eq_false_iff_ne]
 simp only[Ty.cq,Ty.has,ku,vF] at h
 (repeat' (first|intro _|constructor))<;>(try omega))
theorem G2{x:Int×Int×Int×Int×Int×Int×Int}:mq x=0∨mq x=90:=by
 obtain⟨a,b,c,d,e,f,g⟩:=x
 exact LT.kR (p:=fun y=>y=0∨y=90) (.inl rfl) (by simp[t35,LT.all])
theorem ik{a b c d e f g:Int}:mq (a,b,c,d,e,f,g)=0↔iQ a b c d e f g:=by
 simp only[mq,t35,LT.val,oO,ax,aD,al,ap,aH,aN,aG,bE,dC,au,bd,bf,bG,bM,cm,Bool.and_eq_true,Bool.or_eq_true,Bool.and_eq_false_iff,Bool.or_eq_false_iff,Bool.not_eq_true',Bool.not_eq_false',decide_eq_true_eq,decide_eq_false_iff_not,bne_iff_ne,beq_iff_eq,bne_eq_false_iff_eq,beq_eq_false_iff_ne]
 simp
 unfold iQ
 by_cases hb:4≤b∧b≤8∧0≤a∧a<b
 ·rw[Jm (by omega) hb.2.1,NY (n:=a) (by omega) (by omega)]
  have hp:=s9 (n:=b.toNat) (by omega)
  by_cases hc:0≤c∧c<256
  ·have h:=abz (a:=a) hc.1 hc.2 (by omega) (by omega)
   rw[h]
   cases kX c a<;>simp<;>omega
  ·constructor
   ·intro h;exfalso;omega
   ·intro h;exfalso;omega
 ·constructor
  ·intro h;exfalso;omega
  ·intro h;exfalso;omega
theorem chk{x:Int×Int×Int×Int×Int×Int×Int}:lI x=mq x:=by
 have h1:=Ha (x:=x)
 have h2:=G2 (x:=x)
 obtain⟨a,b,c,d,e,f,g⟩:=x
 have h3:=dK (a:=a) (b:=b) (c:=c) (d:=d) (e:=e) (f:=f) (g:=g)
 have h4:=ik (a:=a) (b:=b) (c:=c) (d:=d) (e:=e) (f:=f) (g:=g)
 by_cases h:iQ a b c d e f g
 ·rw[h3.2 h,h4.2 h]
 ·have:=mt h3.1 h;have:=mt h4.1 h;omega
def t77(A:aK)(mId:Int)(mN:Int)(mSet:Int)(mAcc:Int)(mFail:Int)(mStage:Int)(mFirst:Int)(node:Int):LT Bool Empty:=.need (A.k (@tt (Int×Int)) (node,(A.b .sub .i64 mN 1))) (.br (A.k AT (node,(A.b .sub .i64 mN 1))) (.ret (A.c .neq node mId)) (.ret false))
def Ai:((Int×Int×Int×Int×Int×Int×Int)×Int)→Bool:=fun((mId,mN,mSet,mAcc,mFail,mStage,mFirst),node)=>(t77 ah mId mN mSet mAcc mFail mStage mFirst node).val (Ty.bl [.bool])
def ahq:aC:=⟨[(.struct [yI,yI,yI,yI,yI,yI,yI]),yI], [.bool],(@tt ((Int×Int×Int×Int×Int×Int×Int)×Int)),Ai⟩
theorem W8:Sd 177 ahq:=aL ar bU true 26 [] (fun A ((mId,mN,mSet,mAcc,mFail,mStage,mFirst),node)=>t77 A mId mN mSet mAcc mFail mStage mFirst node) (fc Tryz.func177 fz) (sc agD sz) (fun(((mId,mN,mSet,mAcc,mFail,mStage,mFirst),node):(Int×Int×Int×Int×Int×Int×Int)×Int) hp h=>by
 show(t77 ah mId mN mSet mAcc mFail mStage mFirst node).pre=true
 simp only[t77,LT.pre,cy,ax,aD,al,ap,aH,aN,aG,bE,dC,au,bd,bf,bG,bM,cm,Bool.and_eq_true,Bool.or_eq_true,Bool.and_eq_false_iff,Bool.or_eq_false_iff,Bool.not_eq_true',Bool.not_eq_false',decide_eq_true_eq,decide_eq_false_iff_not,bne_iff_ne,beq_iff_eq,bne_eq_false_iff_eq,beq_eq_false_iff_ne]
 simp only[Ty.cq,Ty.has,ku,vF] at h
 (repeat' (first|intro _|constructor))<;>(try omega))
def t73(A:aK)(mId:Int)(mN:Int)(mSet:Int)(mAcc:Int)(mFail:Int)(mStage:Int)(mFirst:Int)(sender:Int):LT Int Empty:=.need (A.k (@tt ((Int×Int×Int×Int×Int×Int×Int))) (mId,mN,mSet,mAcc,mFail,mStage,mFirst)) (.br (A.c .neq (A.k lI (mId,mN,mSet,mAcc,mFail,mStage,mFirst)) 0) (.ret (A.k lI (mId,mN,mSet,mAcc,mFail,mStage,mFirst))) (.need (A.k (@tt ((Int×Int×Int×Int×Int×Int×Int)×Int)) ((mId,mN,mSet,mAcc,mFail,mStage,mFirst),sender)) (.br (A.not (A.k Ai ((mId,mN,mSet,mAcc,mFail,mStage,mFirst),sender))) (.ret 2) (.ret 0))))
def Hw:((Int×Int×Int×Int×Int×Int×Int)×Int)→Int:=fun((mId,mN,mSet,mAcc,mFail,mStage,mFirst),sender)=>(t73 ah mId mN mSet mAcc mFail mStage mFirst sender).val (Ty.bl [yI])
def agU:aC:=⟨[(.struct [yI,yI,yI,yI,yI,yI,yI]),yI], [yI],(@tt ((Int×Int×Int×Int×Int×Int×Int)×Int)),Hw⟩
theorem abZ:Sd 183 agU:=aL ar bU true 39 [] (fun A ((mId,mN,mSet,mAcc,mFail,mStage,mFirst),sender)=>t73 A mId mN mSet mAcc mFail mStage mFirst sender) (fc Tryz.func183 fz) (sc Ij (sc W8 sz)) (fun(((mId,mN,mSet,mAcc,mFail,mStage,mFirst),sender):(Int×Int×Int×Int×Int×Int×Int)×Int) hp h=>by
 show(t73 ah mId mN mSet mAcc mFail mStage mFirst sender).pre=true
 simp only[t73,LT.pre,cy,ax,aD,al,ap,aH,aN,aG,bE,dC,au,bd,bf,bG,bM,cm,Bool.and_eq_true,Bool.or_eq_true,Bool.and_eq_false_iff,Bool.or_eq_false_iff,Bool.not_eq_true',Bool.not_eq_false',decide_eq_true_eq,decide_eq_false_iff_not,bne_iff_ne,beq_iff_eq,bne_eq_false_iff_eq,beq_eq_false_iff_ne]
 simp only[Ty.cq,Ty.has,ku,vF] at h
 (repeat' (first|intro _|constructor))<;>(try omega))
abbrev yc(A:aK)(mSet:Int)(sender:Int):=(A.b .or .i64 mSet (A.b .shl .i64 1 sender))
def t78(A:aK)(mId:Int)(mN:Int)(mSet:Int)(mAcc:Int)(mFail:Int)(mStage:Int)(mFirst:Int)(sender:Int):LT (List Int×Int) Empty:=.need (A.c .leq 0 mId) (.need (A.c .leq 0 mFirst) (.need (A.c .leq 0 sender) (.br (A.c .eql mStage 0) (.ret ([(yc A mSet sender),0],1)) (.br (A.c .eql mStage 1) (.ret ([(A.b .or .i64 (yc A mSet sender) (A.b .shl .i64 1 mId)),(A.b .andNot .i64 (yc A mSet sender) (A.b .shl .i64 1 mId))],2)) (.br (A.c .eql sender mFirst) (.ret ([(A.b .or .i64 (yc A mSet sender) (A.b .shl .i64 1 mId)),0],1)) (.ret ([(A.b .andNot .i64 (A.b .or .i64 (yc A mSet sender) (A.b .shl .i64 1 mId)) (A.b .shl .i64 1 mFirst)),(A.b .andNot .i64 (A.b .or .i64 (yc A mSet sender) (A.b .shl .i64 1 mFirst)) (A.b .shl .i64 1 mId))],2)))))))
def iB:((Int×Int×Int×Int×Int×Int×Int)×Int)→(List Int×Int):=fun((mId,mN,mSet,mAcc,mFail,mStage,mFirst),sender)=>(t78 ah mId mN mSet mAcc mFail mStage mFirst sender).val (Ty.bl [(.arr 2 yI),yI])
def Bw:((Int×Int×Int×Int×Int×Int×Int)×Int)→Bool:=fun((a,b,c,d,e,f,g),s)=>decide (0≤a)&&(decide (0≤g)&&decide (0≤s))
def ahx:aC:=⟨[(.struct [yI,yI,yI,yI,yI,yI,yI]),yI], [(.arr 2 yI),yI],Bw,iB⟩
theorem adF:Sd 178 ahx:=aL ar bU true 77 [] (fun A ((mId,mN,mSet,mAcc,mFail,mStage,mFirst),sender)=>t78 A mId mN mSet mAcc mFail mStage mFirst sender) (fc Tryz.func178 fz) sz (fun(((mId,mN,mSet,mAcc,mFail,mStage,mFirst),sender):(Int×Int×Int×Int×Int×Int×Int)×Int) hp h=>by
 show(t78 ah mId mN mSet mAcc mFail mStage mFirst sender).pre=true
 simp only[t78,yc,LT.pre,cy,ax,aD,al,ap,aH,aN,aG,bE,dC,au,bd,bf,bG,bM,cm,Bool.and_eq_true,Bool.or_eq_true,Bool.and_eq_false_iff,Bool.or_eq_false_iff,Bool.not_eq_true',Bool.not_eq_false',decide_eq_true_eq,decide_eq_false_iff_not,bne_iff_ne,beq_iff_eq,bne_eq_false_iff_eq,beq_eq_false_iff_ne]
 simp only[Bw,Bool.and_eq_true,decide_eq_true_eq] at hp
 simp only[Ty.cq,Ty.has,ku,vF] at h
 (repeat' (first|intro _|constructor))<;>(try omega))
theorem pT{a b c d e f g s:Int}(h0:4≤b)(h1:b≤8):Ai ((a,b,c,d,e,f,g),s)=true↔0≤s∧s<b∧s≠a:=by
 simp only[Ai,t77,LT.val,oO,ax,aD,al,ap,aH,aN,aG,bE,dC,au,bd,bf,bG,bM,cm,Bool.and_eq_true,Bool.or_eq_true,Bool.and_eq_false_iff,Bool.or_eq_false_iff,Bool.not_eq_true',Bool.not_eq_false',decide_eq_true_eq,decide_eq_false_iff_not,bne_iff_ne,beq_iff_eq,bne_eq_false_iff_eq,beq_eq_false_iff_ne,DI]
 simp
 rw[gZ (by omega) (by omega)]
 omega
theorem FI{x:(Int×Int×Int×Int×Int×Int×Int)×Int}:0≤(iB x).2∧(iB x).2≤2:=by
 obtain⟨⟨a,b,c,d,e,f,g⟩,s⟩:=x
 exact LT.kR (p:=fun y:List Int×Int=>0≤y.2∧y.2≤2) (by decide) (by simp[t78,yc,LT.all])
structure afj where
 (a0 a1 a2 a4 a5 a6 a7 a8 a9 cX dN a12 kp gK jh a16 a17 je l_ a20 a21 a22 a23:Int) (a24:Bool) (a25 a26 a27 a28 a29 a30 a31 a32 a33 a34 a35 a36 a37 a38 a39 a40:Int)
inductive Y74 where
 | c0 (p:afj) (a3:Int)
noncomputable def aef:Y74→eF
 | .c0 p a3=>⟨[⟨176,37,(en [(0,.yield 0),(24,.nv 1 1 false p.a0 p.a1),(25,vi p.a2),(26,vi a3)]),[.inLoop (cw Tryz.f176 [1,1,1,0,0]),.inBlock 0],[],none⟩,⟨184,19,(en [(6,.ptr 2 0),(7,.ptr 3 0)]),[.ko 0,.inBlock 0,.code (cw Tryz.f184 [1,1])],[4],none⟩],[.loop ⟨184,19,(en [(0,.agg [vi p.a4,vi p.a5,vi p.a6,vi p.a7,vi p.a8,vi p.a9,vi p.cX]),(1,vi p.dN),(2,vi p.a12),(3,.ptr 5 0),(5,.ptr 6 0),(6,.ptr 2 0),(7,.ptr 3 0),(10,.agg [vi p.kp,vi p.gK,vi p.jh,vi p.a16,vi p.a17,vi p.je,vi p.l_]),(11,vi p.a20),(12,.fn 176 [] [.ptr 7 0,.ptr 8 0])]),[13,14],(cw Tryz.f184 [1,0,1,0,0]),(cw Tryz.f184 [1,0,1,0,1]),0,none⟩,.flat false [vi p.a21,vi p.a22],.flat false [vi p.a23],.flat false [vb p.a24],.Ap,.flat false [vi p.a25,vi p.a26,vi p.a27,vi p.a28,vi p.a29,vi p.a30,vi p.a31],.flat false [vi p.a32],.flat false [vi p.a33,vi p.a34,vi p.a35,vi p.a36,vi p.a37,vi p.a38,vi p.a39],.flat false [vi p.a40],.dead]⟩
def t74(A:aK)(mId:Int)(mN:Int)(mSet:Int)(mAcc:Int)(mFail:Int)(mStage:Int)(mFirst:Int)(sender:Int)(which:Int):LT (Int×Bool) Y74:=.need (A.k (@tt ((Int×Int×Int×Int×Int×Int×Int))) (mId,mN,mSet,mAcc,mFail,mStage,mFirst)) (.br (A.c .neq (A.k lI (mId,mN,mSet,mAcc,mFail,mStage,mFirst)) 0) (.ret (0,false)) (.need (A.k (@tt ((Int×Int×Int×Int×Int×Int×Int)×Int)) ((mId,mN,mSet,mAcc,mFail,mStage,mFirst),sender)) (.br (A.not (A.k Ai ((mId,mN,mSet,mAcc,mFail,mStage,mFirst),sender))) (.ret (0,false)) (.need (A.k Bw ((mId,mN,mSet,mAcc,mFail,mStage,mFirst),sender)) (.need (A.and (A.c .leq 0 0) (A.and (A.c .leq 0 (A.k iB ((mId,mN,mSet,mAcc,mFail,mStage,mFirst),sender)).2) (A.c .leq (A.k iB ((mId,mN,mSet,mAcc,mFail,mStage,mFirst),sender)).2 2))) (.more (.c0 ⟨(A.b .add .i64 0 0),(A.b .sub .i64 (A.k iB ((mId,mN,mSet,mAcc,mFail,mStage,mFirst),sender)).2 0),(A.b .sub .i64 (A.k iB ((mId,mN,mSet,mAcc,mFail,mStage,mFirst),sender)).2 0),mId,mN,mSet,mAcc,mFail,mStage,mFirst,sender,which,mId,mN,mSet,mAcc,mFail,mStage,mFirst,sender,(A.n yI (A.k iB ((mId,mN,mSet,mAcc,mFail,mStage,mFirst),sender)).1 0:Int),(A.n yI (A.k iB ((mId,mN,mSet,mAcc,mFail,mStage,mFirst),sender)).1 1:Int),0,false,mId,mN,mSet,mAcc,mFail,mStage,mFirst,which,mId,mN,mSet,mAcc,mFail,mStage,mFirst,sender⟩ 0)))))))
def s74(A:aK):Y74→LT (Int×Bool) Y74
 | .c0 p a3=>.br (A.c .lss a3 p.a2) (.need (A.and (A.c .leq 0 a3) (A.c .lss a3 p.a1)) (.br (A.c .eql a3 p.a32) (.ret ((A.n yI [p.a21,p.a22] (A.b .add .i64 p.a0 a3):Int),true)) (.more (.c0 p (A.b .add .i64 a3 1))))) (.ret (0,false))
def Cq:((Int×Int×Int×Int×Int×Int×Int)×Int×Int)→(Int×Bool):=fun(m,s,k)=>bif lI m != 0 then(0,false) else bif !Ai (m,s) then(0,false) else bif decide (0≤k)&&decide (k<(iB (m,s)).2) then((iB (m,s)).1.getD k.toNat 0,true) else(0,false)
def agO:aC:=⟨[(.struct [yI,yI,yI,yI,yI,yI,yI]),yI,yI], [yI,.bool],(@tt ((Int×Int×Int×Int×Int×Int×Int)×Int×Int)),Cq⟩
theorem ah9:Sd 184 agO:=aU ar bU true 70 [⟨176,3, [[0,24,25,26], [6,7]]⟩] [] (fun A ((mId,mN,mSet,mAcc,mFail,mStage,mFirst),sender,which)=>t74 A mId mN mSet mAcc mFail mStage mFirst sender which) s74 aef (fc Tryz.func184 (fc Tryz.func102 (fc Tryz.func176 fz))) (sc Ij (sc W8 (sc adF sz))) (fun A y=>match y with |.c0 p a3=>⟨57,by kernel_rfl,by kernel_rfl⟩) fun(((mId,mN,mSet,mAcc,mFail,mStage,mFirst),sender,which):(Int×Int×Int×Int×Int×Int×Int)×Int×Int) hp h=>by
 show aB (s74 ah) (t74 ah mId mN mSet mAcc mFail mStage mFirst sender which) (Cq ((mId,mN,mSet,mAcc,mFail,mStage,mFirst),sender,which))
 unfold t74 Cq
 refine .need rfl (.br ?_)
 simp only[au,aD,bE]
 cases h1:lI (mId,mN,mSet,mAcc,mFail,mStage,mFirst) != 0
 ·simp only[cond_false]
  rw[bne_eq_false_iff_eq] at h1
  have hm:=dK.1 h1
  unfold iQ at hm
  refine .need rfl (.br ?_)
  cases h2:Ai ((mId,mN,mSet,mAcc,mFail,mStage,mFirst),sender)
  ·exact .ret _
  ·simp only[Bool.not_true,cond_false]
   have h3:=(pT (by omega) (by omega)).1 h2
   have hq:=FI (x:=((mId,mN,mSet,mAcc,mFail,mStage,mFirst),sender))
   refine .need (by simp[Bw];omega) ?_
   generalize iB ((mId,mN,mSet,mAcc,mFail,mStage,mFirst),sender)=q at *
   obtain⟨l,n⟩:=q
   simp only at hq
   refine .need (by simp only[aG,ap,Bool.and_eq_true,decide_eq_true_eq];omega) ?_
   have hn:n=0∨n=1∨n=2:=by omega
   have hk:which=0∨which=1∨(which≠0∧which≠1):=by omega
   have e0:IntKind.i64.wrap 0=0:=by decide
   have e1:IntKind.i64.wrap 1=1:=by decide
   have e2:IntKind.i64.wrap 2=2:=by decide
   rcases hn with rfl|rfl|rfl<;>rcases hk with rfl|rfl|⟨k0,k1⟩
   all_goals first
    | (simp[ak,s74,uM,af,fE,al,ap,ax,aG,bd,bf,Jr,e0,e1,e2,Ty.eQ];done)
    | (simp[ak,s74,uM,af,fE,al,ap,ax,aG,bd,bf,e0,e1,e2];rfl)
    | (have b0:(0==which)=false:=by simp<;>omega
       have b1:(1==which)=false:=by simp<;>omega
       have c0:(decide (0≤which)&&decide (which<0))=false:=by simp<;>omega
       have c1:(decide (0≤which)&&decide (which<1))=false:=by simp<;>omega
       have c2:(decide (0≤which)&&decide (which<2))=false:=by simp<;>omega
       simp only[c0,c1,c2]
       simp[ak,s74,uM,af,fE,al,ap,ax,aG,bd,bf,Jr,e0,e1,e2,b0,b1])
 ·exact .ret _
theorem eY{a b c d e f g s:Int}:Hw ((a,b,c,d,e,f,g),s)=0↔iQ a b c d e f g∧0≤s∧s<b∧s≠a:=by
 simp only[Hw,t73,LT.val,oO,ax,aD,al,ap,aH,aN,aG,bE,dC,au,bd,bf,bG,bM,cm,Bool.and_eq_true,Bool.or_eq_true,Bool.and_eq_false_iff,Bool.or_eq_false_iff,Bool.not_eq_true',Bool.not_eq_false',decide_eq_true_eq,decide_eq_false_iff_not,bne_iff_ne,beq_iff_eq,bne_eq_false_iff_eq,beq_eq_false_iff_ne]
 constructor
 ·intro h
  rcases h with ⟨h1,h2⟩|⟨h1,h2⟩
  ·exact absurd h2 h1
  ·have hm:=dK.1 h1
   have hm':=hm
   unfold iQ at hm'
   rcases h2 with ⟨h2,h3⟩|⟨h2,_⟩
   ·cases h3
   ·exact⟨hm,(pT (by omega) (by omega)).1 h2⟩
 ·rintro ⟨hm,hs⟩
  have hm':=hm
  unfold iQ at hm'
  exact .inr ⟨dK.2 hm,.inr ⟨(pT (by omega) (by omega)).2 hs,trivial⟩⟩
abbrev zv(A:aK)(mId:Int)(mN:Int)(mSet:Int)(mAcc:Int)(mFail:Int)(mStage:Int)(mFirst:Int)(sender:Int)(which:Int):LT ((Int×Int×Int×Int×Int×Int×Int)×Int) Empty:=(.br (A.c .eql mStage 2) (.br (A.c .neq sender mFirst) (.ret ((mId,mN,(A.k Cq ((mId,mN,mSet,mAcc,mFail,mStage,mFirst),sender,which)).1,(A.mn (A.b .add .i64 mAcc 1) 1048576),(A.mn (A.b .add .i64 mFail 1) 1048576),0,0),0)) (.ret ((mId,mN,(A.k Cq ((mId,mN,mSet,mAcc,mFail,mStage,mFirst),sender,which)).1,(A.mn (A.b .add .i64 mAcc 1) 1048576),mFail,0,0),0))) (.ret ((mId,mN,(A.k Cq ((mId,mN,mSet,mAcc,mFail,mStage,mFirst),sender,which)).1,(A.mn (A.b .add .i64 mAcc 1) 1048576),mFail,0,0),0)))
def t25(A:aK)(mId:Int)(mN:Int)(mSet:Int)(mAcc:Int)(mFail:Int)(mStage:Int)(mFirst:Int)(sender:Int)(which:Int):LT ((Int×Int×Int×Int×Int×Int×Int)×Int) Empty:=.need (A.k (@tt ((Int×Int×Int×Int×Int×Int×Int)×Int)) ((mId,mN,mSet,mAcc,mFail,mStage,mFirst),sender)) (.br (A.c .neq (A.k Hw ((mId,mN,mSet,mAcc,mFail,mStage,mFirst),sender)) 0) (.ret ((0,0,0,0,0,0,0),(A.k Hw ((mId,mN,mSet,mAcc,mFail,mStage,mFirst),sender)))) (.need (A.k (@tt ((Int×Int×Int×Int×Int×Int×Int)×Int×Int)) ((mId,mN,mSet,mAcc,mFail,mStage,mFirst),sender,which)) (.br (A.not (A.k Cq ((mId,mN,mSet,mAcc,mFail,mStage,mFirst),sender,which)).2) (.ret ((0,0,0,0,0,0,0),2)) (.br (A.c .eql mStage 1) (.br (A.c .eql which 1) (.need (A.c .leq 0 sender) (.ret ((mId,mN,(A.b .or .i64 mSet (A.b .shl .i64 1 sender)),mAcc,mFail,2,sender),0))) (zv A mId mN mSet mAcc mFail mStage mFirst sender which)) (zv A mId mN mSet mAcc mFail mStage mFirst sender which)))))
def ol:((Int×Int×Int×Int×Int×Int×Int)×Int×Int)→((Int×Int×Int×Int×Int×Int×Int)×Int):=fun((mId,mN,mSet,mAcc,mFail,mStage,mFirst),sender,which)=>(t25 ah mId mN mSet mAcc mFail mStage mFirst sender which).val (Ty.bl [(.struct [yI,yI,yI,yI,yI,yI,yI]),yI])
def ahQ:aC:=⟨[(.struct [yI,yI,yI,yI,yI,yI,yI]),yI,yI], [(.struct [yI,yI,yI,yI,yI,yI,yI]),yI],(@tt ((Int×Int×Int×Int×Int×Int×Int)×Int×Int)),ol⟩
theorem ahv:Sd 109 ahQ:=aL ar bU true 107 [] (fun A ((mId,mN,mSet,mAcc,mFail,mStage,mFirst),sender,which)=>t25 A mId mN mSet mAcc mFail mStage mFirst sender which) (fc Tryz.func109 fz) (sc abZ (sc ah9 sz)) (fun(((mId,mN,mSet,mAcc,mFail,mStage,mFirst),sender,which):(Int×Int×Int×Int×Int×Int×Int)×Int×Int) hp h=>by
 show(t25 ah mId mN mSet mAcc mFail mStage mFirst sender which).pre=true
 simp only[t25,zv,LT.pre,cy,ax,aD,al,ap,aH,aN,aG,bE,dC,au,bd,bf,bG,bM,cm,Bool.and_eq_true,Bool.or_eq_true,Bool.and_eq_false_iff,Bool.or_eq_false_iff,Bool.not_eq_true',Bool.not_eq_false',decide_eq_true_eq,decide_eq_false_iff_not,bne_iff_ne,beq_iff_eq,bne_eq_false_iff_eq,beq_eq_false_iff_ne]
 simp only[Ty.cq,Ty.has,ku] at h
 (repeat' (first|intro _|constructor))<;>(try (have hm:=(eY.1 (by assumption));unfold iQ at hm;omega)))
def t38(A:aK)(mId:Int)(mN:Int)(mSet:Int)(mAcc:Int)(mFail:Int)(mStage:Int)(mFirst:Int)(sender:Int):LT ((Int×Int×Int×Int×Int×Int×Int)×Int) Empty:=.need (A.k (@tt ((Int×Int×Int×Int×Int×Int×Int)×Int)) ((mId,mN,mSet,mAcc,mFail,mStage,mFirst),sender)) (.br (A.c .neq (A.k Hw ((mId,mN,mSet,mAcc,mFail,mStage,mFirst),sender)) 0) (.ret ((0,0,0,0,0,0,0),(A.k Hw ((mId,mN,mSet,mAcc,mFail,mStage,mFirst),sender)))) (.need (A.c .leq 0 sender) (.br (A.c .eql mStage 2) (.br (A.c .eql mFirst sender) (.ret ((mId,mN,(A.b .andNot .i64 mSet (A.b .shl .i64 1 sender)),mAcc,mFail,1,0),0)) (.ret ((mId,mN,(A.b .andNot .i64 mSet (A.b .shl .i64 1 sender)),mAcc,mFail,mStage,mFirst),0))) (.ret ((mId,mN,(A.b .andNot .i64 mSet (A.b .shl .i64 1 sender)),mAcc,mFail,mStage,mFirst),0)))))
def nO:((Int×Int×Int×Int×Int×Int×Int)×Int)→((Int×Int×Int×Int×Int×Int×Int)×Int):=fun((mId,mN,mSet,mAcc,mFail,mStage,mFirst),sender)=>(t38 ah mId mN mSet mAcc mFail mStage mFirst sender).val (Ty.bl [(.struct [yI,yI,yI,yI,yI,yI,yI]),yI])
def agG:aC:=⟨[(.struct [yI,yI,yI,yI,yI,yI,yI]),yI], [(.struct [yI,yI,yI,yI,yI,yI,yI]),yI],(@tt ((Int×Int×Int×Int×Int×Int×Int)×Int)),nO⟩
theorem aa9:Sd 107 agG:=aL ar bU true 63 [] (fun A ((mId,mN,mSet,mAcc,mFail,mStage,mFirst),sender)=>t38 A mId mN mSet mAcc mFail mStage mFirst sender) (fc Tryz.func107 fz) (sc abZ sz) (fun(((mId,mN,mSet,mAcc,mFail,mStage,mFirst),sender):(Int×Int×Int×Int×Int×Int×Int)×Int) hp h=>by
 show(t38 ah mId mN mSet mAcc mFail mStage mFirst sender).pre=true
 simp only[t38,LT.pre,cy,ax,aD,al,ap,aH,aN,aG,bE,dC,au,bd,bf,bG,bM,cm,Bool.and_eq_true,Bool.or_eq_true,Bool.and_eq_false_iff,Bool.or_eq_false_iff,Bool.not_eq_true',Bool.not_eq_false',decide_eq_true_eq,decide_eq_false_iff_not,bne_iff_ne,beq_iff_eq,bne_eq_false_iff_eq,beq_eq_false_iff_ne]
 simp only[Ty.cq,Ty.has,ku] at h
 (repeat' (first|intro _|constructor))<;>(try (have hm:=(eY.1 (by assumption));unfold iQ at hm;omega)))
def t39(A:aK)(mId:Int)(mN:Int)(mSet:Int)(mAcc:Int)(mFail:Int)(mStage:Int)(mFirst:Int)(sender:Int):LT ((Int×Int×Int×Int×Int×Int×Int)×Int) Empty:=.need (A.k (@tt ((Int×Int×Int×Int×Int×Int×Int)×Int)) ((mId,mN,mSet,mAcc,mFail,mStage,mFirst),sender)) (.br (A.c .eql (A.k nO ((mId,mN,mSet,mAcc,mFail,mStage,mFirst),sender)).2 0) (.ret (((A.k nO ((mId,mN,mSet,mAcc,mFail,mStage,mFirst),sender)).1.1,(A.k nO ((mId,mN,mSet,mAcc,mFail,mStage,mFirst),sender)).1.2.1,(A.k nO ((mId,mN,mSet,mAcc,mFail,mStage,mFirst),sender)).1.2.2.1,(A.k nO ((mId,mN,mSet,mAcc,mFail,mStage,mFirst),sender)).1.2.2.2.1,(A.mn (A.b .add .i64 (A.k nO ((mId,mN,mSet,mAcc,mFail,mStage,mFirst),sender)).1.2.2.2.2.1 1) 1048576),(A.k nO ((mId,mN,mSet,mAcc,mFail,mStage,mFirst),sender)).1.2.2.2.2.2),(A.k nO ((mId,mN,mSet,mAcc,mFail,mStage,mFirst),sender)).2)) (.ret (A.k nO ((mId,mN,mSet,mAcc,mFail,mStage,mFirst),sender))))
def Pj:((Int×Int×Int×Int×Int×Int×Int)×Int)→((Int×Int×Int×Int×Int×Int×Int)×Int):=fun((mId,mN,mSet,mAcc,mFail,mStage,mFirst),sender)=>(t39 ah mId mN mSet mAcc mFail mStage mFirst sender).val (Ty.bl [(.struct [yI,yI,yI,yI,yI,yI,yI]),yI])
def ah6:aC:=⟨[(.struct [yI,yI,yI,yI,yI,yI,yI]),yI], [(.struct [yI,yI,yI,yI,yI,yI,yI]),yI],(@tt ((Int×Int×Int×Int×Int×Int×Int)×Int)),Pj⟩
theorem agR:Sd 108 ah6:=aL ar bU true 45 [] (fun A ((mId,mN,mSet,mAcc,mFail,mStage,mFirst),sender)=>t39 A mId mN mSet mAcc mFail mStage mFirst sender) (fc Tryz.func108 fz) (sc aa9 sz) (fun(((mId,mN,mSet,mAcc,mFail,mStage,mFirst),sender):(Int×Int×Int×Int×Int×Int×Int)×Int) hp h=>by
 show(t39 ah mId mN mSet mAcc mFail mStage mFirst sender).pre=true
 simp only[t39,LT.pre,cy,ax,aD,al,ap,aH,aN,aG,bE,dC,au,bd,bf,bG,bM,cm,Bool.and_eq_true,Bool.or_eq_true,Bool.and_eq_false_iff,Bool.or_eq_false_iff,Bool.not_eq_true',Bool.not_eq_false',decide_eq_true_eq,decide_eq_false_iff_not,bne_iff_ne,beq_iff_eq,bne_eq_false_iff_eq,beq_eq_false_iff_ne]
 simp only[Ty.cq,Ty.has,ku,vF] at h
 (repeat' (first|intro _|constructor))<;>(try omega))
def inc(d:Int):Int:=if d<1048576 then d+1 else 1048576
theorem qI{d:Int}(h0:0≤d)(h1:d≤1048576):ah.mn (ah.b .add .i64 d 1) 1048576=inc d:=by
 rw[nR,bd,gZ (by omega) (by omega),inc]
 split<;>split<;>omega
section
variable {a b c d e f g s:Int}
theorem G4:iB ((a,b,c,d,e,0,g),s)=([jM c s,0],1):=rfl
theorem GQ:iB ((a,b,c,d,e,1,g),s)=([jM (jM c s) a,pP (jM c s) a],2):=rfl
theorem Dg:iB ((a,b,c,d,e,2,g),g)=([jM (jM c g) a,0],1):=by
 simp[iB,t78,yc,LT.val,ax,jM]
theorem D3(h:s≠g):iB ((a,b,c,d,e,2,g),s)=([pP (jM (jM c s) a) g,pP (jM (jM c s) g) a],2):=by
 have hb:(s==g)=false:=by simpa using h
 simp[iB,t78,yc,LT.val,ax,jM,pP,hb]
theorem np(h:iQ a b c d e f g)(h0:0≤s)(h1:s<b)(h2:s≠a)(k:Int):Cq ((a,b,c,d,e,f,g),s,k) =
  bif decide (0≤k)&&decide (k<(iB ((a,b,c,d,e,f,g),s)).2) then((iB ((a,b,c,d,e,f,g),s)).1.getD k.toNat 0,true) else(0,false):=by
 have hm:=h
 unfold iQ at hm
 simp only[Cq,dK.2 h,(pT (by omega) (by omega)).2 ⟨h0,h1,h2⟩,bne_self_eq_false,Bool.not_true,cond_false]
theorem RD(h:iQ a b c d e 0 g)(h0:0≤s)(h1:s<b)(h2:s≠a):ol ((a,b,c,d,e,0,g),s,0)=((a,b,jM c s,inc d,e,0,0),0):=by
 have hm:=h
 unfold iQ at hm
 simp[ol,t25,zv,LT.val,au,aD,ax,bE,eY.2 ⟨h,h0,h1,h2⟩,np h h0 h1 h2,G4,qI (d:=d) (by omega) (by omega)]
theorem NM(h:iQ a b c d e 1 g)(h0:0≤s)(h1:s<b)(h2:s≠a):ol ((a,b,c,d,e,1,g),s,0)=((a,b,jM (jM c s) a,inc d,e,0,0),0):=by
 have hm:=h
 unfold iQ at hm
 simp[ol,t25,zv,LT.val,au,aD,ax,bE,eY.2 ⟨h,h0,h1,h2⟩,np h h0 h1 h2,GQ,qI (d:=d) (by omega) (by omega)]
theorem Jn(h:iQ a b c d e 1 g)(h0:0≤s)(h1:s<b)(h2:s≠a):ol ((a,b,c,d,e,1,g),s,1)=((a,b,jM c s,d,e,2,s),0):=by
 simp[ol,t25,zv,LT.val,au,aD,ax,bE,eY.2 ⟨h,h0,h1,h2⟩,np h h0 h1 h2,GQ,jM]
theorem KC(h:iQ a b c d e 2 g)(h0:0≤g)(h1:g<b)(h2:g≠a):ol ((a,b,c,d,e,2,g),g,0)=((a,b,jM (jM c g) a,inc d,e,0,0),0):=by
 have hm:=h
 unfold iQ at hm
 simp[ol,t25,zv,LT.val,au,aD,ax,bE,eY.2 ⟨h,h0,h1,h2⟩,np h h0 h1 h2,Dg,qI (d:=d) (by omega) (by omega)]
theorem KJ(h:iQ a b c d e 2 g)(h0:0≤s)(h1:s<b)(h2:s≠a)(h3:s≠g):ol ((a,b,c,d,e,2,g),s,0)=((a,b,pP (jM (jM c s) a) g,inc d,inc e,0,0),0):=by
 have hm:=h
 unfold iQ at hm
 simp[ol,t25,zv,LT.val,au,aD,ax,bE,eY.2 ⟨h,h0,h1,h2⟩,np h h0 h1 h2,D3 h3,show(s != g)=true from by simpa using h3,qI (d:=d) (by omega) (by omega),qI (d:=e) (by omega) (by omega)]
theorem KO(h:iQ a b c d e 2 g)(h0:0≤s)(h1:s<b)(h2:s≠a)(h3:s≠g):ol ((a,b,c,d,e,2,g),s,1)=((a,b,pP (jM (jM c s) g) a,inc d,inc e,0,0),0):=by
 have hm:=h
 unfold iQ at hm
 simp[ol,t25,zv,LT.val,au,aD,ax,bE,eY.2 ⟨h,h0,h1,h2⟩,np h h0 h1 h2,D3 h3,show(s != g)=true from by simpa using h3,qI (d:=d) (by omega) (by omega),qI (d:=e) (by omega) (by omega)]
theorem Nz(h:iQ a b c d e f g)(h0:0≤s)(h1:s<b)(h2:s≠a)(h3:f≠2):nO ((a,b,c,d,e,f,g),s)=((a,b,pP c s,d,e,f,g),0):=by
 have hb:(f==2)=false:=by simpa using h3
 simp[nO,t38,LT.val,au,aD,ax,eY.2 ⟨h,h0,h1,h2⟩,pP,hb]
theorem NH(h:iQ a b c d e 2 g)(h0:0≤s)(h1:s<b)(h2:s≠a)(h3:g≠s):nO ((a,b,c,d,e,2,g),s)=((a,b,pP c s,d,e,2,g),0):=by
 have hb:(g==s)=false:=by simpa using h3
 simp[nO,t38,LT.val,au,aD,ax,eY.2 ⟨h,h0,h1,h2⟩,pP,hb]
theorem Q_(h:iQ a b c d e 2 g)(h2:g≠a):nO ((a,b,c,d,e,2,g),g)=((a,b,pP c g,d,e,1,0),0):=by
 have hm:=h
 unfold iQ at hm
 simp[nO,t38,LT.val,au,aD,ax,eY.2 ⟨h,hm.2.2.2.2.1,hm.2.2.2.2.2.1,h2⟩,pP]
theorem Ix{m m':Int×Int×Int×Int×Int×Int×Int}(h:nO (m,s)=(m',0))(h0:0≤m'.2.2.2.2.1)(h1:m'.2.2.2.2.1≤1048576):Pj (m,s)=((m'.1,m'.2.1,m'.2.2.1,m'.2.2.2.1,inc m'.2.2.2.2.1,m'.2.2.2.2.2),0):=by
 obtain⟨a,b,c,d,e,f,g⟩:=m
 simp[Pj,t39,LT.val,au,ax,h,qI h0 h1]
end
structure Wb where
 (a0:List (Int×Int×(Int×List Int))) (a1 a3 a4 a5 a6 a7 a8 a9 cX dN a12 kp gK jh:Int)
structure Jh where
 (b0 b1 b2 b3 b4 b5 b6 b7 b8 b9 b10 b11 b12 b13 jN fT cY:Int) (iX:List (Int×Int×(Int×List Int))) (my:Bool) (jO mm yP GA b23 b24 b25 b26:Int) (b27 b28:Bool) (b29 b30 b31 b32 b33 b34 b35:Int) (b36 b37 b38:Bool) (b39:Int) (b40 b41:Bool) (b42 b43:Int) (b44 b45 b46:Bool) (b47 b48:Int) (b49 b50 b51:Bool) (b52:List (Int×Int×(Int×List Int))) (b53:Int) (b54 b55:Bool) (b56 b57 b58 b59 b60 b61 b62 b63 b64 b65:Int) (SD:List (Int×Int×(Int×List Int))) (b67 b68 b69 b70 b71 b72 b73 b74 b75 b76 b77 b78 b79 b80 b81 b82 b83 b84 b85 b86 b87 b88 b89 b90 b91 b92 b93 b94 b95 b96 b97 b98 b99:Int)
structure OA where
 (c0:Int) (c1:List (Int×Int×(Int×List Int))) (c2 c4 c5 c6 c7 c8 c9 c10 c11 c12 c13 c14 Af c16 Mk Ml c19 c20 c21 c22 c23 c24 c25 c26 c27 c28 c29 c30 c31 c32 c33 c34 c35 c36 c37 c38:Int) (c39:List (Int×Int×(Int×List Int))) (c40:Bool) (c41 c42 c43 c44 c45 c46 c47 c48:Int) (c49 c50:Bool) (c51 c52 c53 c54 c55 c56 c57:Int) (c58 c59 c60:Bool) (c61:Int) (c62 c63:Bool) (c64 c65:Int) (c66 c67 c68:Bool) (c69 c70:Int) (c71 c72 c73:Bool) (c74:List (Int×Int×(Int×List Int))) (c75:Int) (c76 c77:Bool) (c78 c79 c80 c81 c82 c83 c84 c85 c86 c87:Int) (c88:List (Int×Int×(Int×List Int))) (c89 c90 c91 c92 c93 c94 c95 c96 c97 c98 c99 aa5 agp aeV adw:Int)
inductive SG where
 | c0 (p:Wb) (a2:Int)
 | c1 (p:Jh)
 | c2 (p:OA) (c3:Int)
noncomputable def adP:SG→eF
 | .c0 p a2=>⟨[⟨180,19,(en [(0,.sl (.struct [yI,yI,(.struct [yI,yB])]) p.a0),(1,.fn 105 [] []),(7,vi p.a1),(8,vi a2)]),[.inLoop (cw Tryz.f180 [1,0,1,0,0]),.inBlock 0,.code (cw Tryz.f180 [1,1])],[],none⟩,⟨104,9,.leaf,[.ops (ow Tryz.f104 [1,0]) ((ow Tryz.f104 [1,0]).toList.drop 2),.code .ret],[],none⟩,⟨49,85,(en [(8,.ptr 0 0),(9,.ptr 1 0)]),[.ops (ow Tryz.f49 [1,1,1,0,0]) ((ow Tryz.f49 [1,1,1,0,0]).toList.drop 1),.code (cw Tryz.f49 [1,1,1,0,1]),.code (cw Tryz.f49 [1,1,1,1])],[2],none⟩],[.flat false [vi p.a3,vi p.a4,vi p.a5,vi p.a6,vi p.a7,vi p.a8,vi p.a9,vi p.cX,vi p.dN,vi p.a12,vi p.kp,.dq true,vi p.gK],.flat false [vi p.jh],.Ap,.dead]⟩
 | .c1 p=>⟨[⟨176,37,(en [(0,.yield 0),(24,.nv 1 1 false p.b0 p.b1),(25,vi p.b2),(26,vi p.b3)]),[.inLoop (cw Tryz.f176 [1,1,1,0,0]),.inBlock 0],[],none⟩,⟨49,85,(en [(7,.ptr 2 0),(8,.ptr 3 0),(9,.ptr 4 0)]),[.ko 0,.inBlock 1,.code (cw Tryz.f49 [1,1,1])],[5],none⟩],[.loop ⟨49,85,(en [(0,.agg [vi p.b4,vi p.b5,vi p.b6,vi p.b7,vi p.b8]),(1,.agg [vi p.b9,vi p.b10,vi p.b11,vi p.b12,vi p.b13,vi p.jN,vi p.fT]),(2,vi p.cY),(3,.sl (.struct [yI,yI,(.struct [yI,yB])]) p.iX),(4,.ptr 9 0),(5,.ptr 6 0),(7,.ptr 2 0),(8,.ptr 3 0),(9,.ptr 4 0),(16,vb p.my),(17,.agg [vi p.jO,vi p.mm,vi p.yP,vi p.GA,vi p.b23,vi p.b24,vi p.b25]),(18,vi p.b26),(19,vb p.b27),(20,vb p.b28),(21,.agg [vi p.b29,vi p.b30,vi p.b31,vi p.b32,vi p.b33]),(22,.ptr 6 1),(23,vi p.b34),(24,vi p.b35),(25,vb p.b36),(26,vb p.b37),(28,vb p.b38),(29,vi p.b39),(30,vb p.b40),(31,vb p.b41),(32,vi p.b42),(33,.ptr 6 1),(34,vi p.b43),(35,vb p.b44),(36,vb p.b45),(37,vb p.b46),(38,vi p.b47),(39,.ptr 6 0),(40,vi p.b48),(41,vb p.b49),(42,vb p.b50),(43,vb p.b51),(44,.sl (.struct [yI,yI,(.struct [yI,yB])]) p.b52),(45,vi p.b53),(46,vb p.b54),(47,vb p.b55),(49,.agg [vi p.b56,vi p.b57,vi p.b58,vi p.b59,vi p.b60,vi p.b61,vi p.b62]),(50,vi p.b63),(51,.fn 176 [] [.ptr 7 0,.ptr 8 0])]),[52,53],(cw Tryz.f49 [1,1,0,1,0,0]),(cw Tryz.f49 [1,1,0,1,0,1]),0,none⟩,.flat false [vi p.b64,vi p.b65],.flat false [.sl (.struct [yI,yI,(.struct [yI,yB])]) p.SD],.flat false [vi p.b67,vi p.b68,vi p.b69,vi p.b70,vi p.b71,vi p.b72,vi p.b73,vi p.b74,vi p.b75,vi p.b76,vi p.b77,.dq true,vi p.b78],.flat false [vi p.b79],.Ap,.flat false [vi p.b80,vi p.b81,vi p.b82,vi p.b83,vi p.b84,vi p.b85,vi p.b86],.flat false [vi p.b87,vi p.b88,vi p.b89,vi p.b90,vi p.b91,vi p.b92,vi p.b93],.flat false [vi p.b94],.flat false [vi p.b95,vi p.b96,vi p.b97,vi p.b98,vi p.b99],.dead]⟩
 | .c2 p c3=>⟨[⟨49,85,(en [(4,.ptr 0 0),(8,.ptr 1 0),(9,.ptr 2 0),(10,vi p.c0),(56,.sl (.struct [yI,yI,(.struct [yI,yB])]) p.c1),(57,vi p.c2),(58,vi c3)]),[.inLoop (cw Tryz.f49 [1,1,0,1,0,1,0,1,1,0,0]),.inBlock 3,.inBlock 2],[],some 3⟩,⟨176,37,(en [(0,.yield 3),(24,.nv 4 1 false p.c4 p.c5),(25,vi p.c6),(26,vi p.c7)]),[.ops (ow Tryz.f176 [1,1,1,0,0,1,1,0,0,1,0]) ((ow Tryz.f176 [1,1,1,0,0,1,1,0,0,1,0]).toList.drop 3),.code (cw Tryz.f176 [1,1,1,0,0,1,1,0,0,1,1]),.inBlock 1,.code (cw Tryz.f176 [1,1,1,0,0,1,1,1]),.inLoop (cw Tryz.f176 [1,1,1,0,0]),.inBlock 0],[],none⟩,⟨49,85,(en [(7,.ptr 5 0),(8,.ptr 1 0),(9,.ptr 2 0)]),[.ko 3,.inBlock 1,.code (cw Tryz.f49 [1,1,1])],[6],none⟩],[.flat false [vi p.c8,vi p.c9,vi p.c10,vi p.c11,vi p.c12],.flat false [vi p.c13,vi p.c14,vi p.Af,vi p.c16,vi p.Mk,vi p.Ml,vi p.c19,vi p.c20,vi p.c21,vi p.c22,vi p.c23,.dq true,vi p.c24],.flat false [vi p.c25],.loop ⟨49,85,(en [(0,.agg [vi p.c26,vi p.c27,vi p.c28,vi p.c29,vi p.c30]),(1,.agg [vi p.c31,vi p.c32,vi p.c33,vi p.c34,vi p.c35,vi p.c36,vi p.c37]),(2,vi p.c38),(3,.sl (.struct [yI,yI,(.struct [yI,yB])]) p.c39),(4,.ptr 0 0),(5,.ptr 7 0),(7,.ptr 5 0),(8,.ptr 1 0),(9,.ptr 2 0),(16,vb p.c40),(17,.agg [vi p.c41,vi p.c42,vi p.c43,vi p.c44,vi p.c45,vi p.c46,vi p.c47]),(18,vi p.c48),(19,vb p.c49),(20,vb p.c50),(21,.agg [vi p.c51,vi p.c52,vi p.c53,vi p.c54,vi p.c55]),(22,.ptr 7 1),(23,vi p.c56),(24,vi p.c57),(25,vb p.c58),(26,vb p.c59),(28,vb p.c60),(29,vi p.c61),(30,vb p.c62),(31,vb p.c63),(32,vi p.c64),(33,.ptr 7 1),(34,vi p.c65),(35,vb p.c66),(36,vb p.c67),(37,vb p.c68),(38,vi p.c69),(39,.ptr 7 0),(40,vi p.c70),(41,vb p.c71),(42,vb p.c72),(43,vb p.c73),(44,.sl (.struct [yI,yI,(.struct [yI,yB])]) p.c74),(45,vi p.c75),(46,vb p.c76),(47,vb p.c77),(49,.agg [vi p.c78,vi p.c79,vi p.c80,vi p.c81,vi p.c82,vi p.c83,vi p.c84]),(50,vi p.c85),(51,.fn 176 [] [.ptr 8 0,.ptr 9 0])]),[52,53],(cw Tryz.f49 [1,1,0,1,0,0]),(cw Tryz.f49 [1,1,0,1,0,1]),1,none⟩,.flat false [vi p.c86,vi p.c87],.flat false [.sl (.struct [yI,yI,(.struct [yI,yB])]) p.c88],.Ap,.flat false [vi p.c89,vi p.c90,vi p.c91,vi p.c92,vi p.c93,vi p.c94,vi p.c95],.flat false [vi p.c96,vi p.c97,vi p.c98,vi p.c99,vi p.aa5,vi p.agp,vi p.aeV],.flat false [vi p.adw],.dead]⟩
abbrev PO:LT ((Int×Int×Int×(Int×Int×(Int×Int×Int×Int×Int)×Int×List Int)×Int)×Int) SG:=(.ret ((0,0,0,(0,0,(0,0,0,0,0),0,([]:List Int)),0),2))
def t43(A:aK)(cTime:Int)(cPos:Int)(cMode:Int)(cNext:Int)(cMember:Int)(vId:Int)(vN:Int)(vSet:Int)(vAcc:Int)(vFail:Int)(vStage:Int)(vFirst:Int)(sender:Int)(seen:List (Int×Int×(Int×List Int))):LT ((Int×Int×Int×(Int×Int×(Int×Int×Int×Int×Int)×Int×List Int)×Int)×Int) SG:=.need (A.k (@tt ((Int×Int×Int×Int×Int×Int×Int))) (vId,vN,vSet,vAcc,vFail,vStage,vFirst)) (.br (A.c .neq (A.k lI (vId,vN,vSet,vAcc,vFail,vStage,vFirst)) 0) (.ret ((0,0,0,(0,0,(0,0,0,0,0),0,([]:List Int)),0),170)) (.need (A.k (@tt ((Int×Int×Int×Int×Int)×Int)) ((cTime,cPos,cMode,cNext,cMember),vN)) (.br (A.c .neq (A.k nQ ((cTime,cPos,cMode,cNext,cMember),vN)) 0) (.ret ((0,0,0,(0,0,(0,0,0,0,0),0,([]:List Int)),0),170)) (.br (A.c .lss sender 0) (PO) (.br (A.c .geq sender vN) (PO) (.br (A.c .eql sender vId) (PO) (.br (A.c .neq (A.l seen) 2) (PO) (.need (A.k (@tt ((Int×Int×Int×Int×Int×Int×Int))) (vId,vN,vSet,vAcc,vFail,vStage,vFirst)) (.br (A.c .neq (A.k lI (vId,vN,vSet,vAcc,vFail,vStage,vFirst)) 0) (.more (.c0 ⟨seen,(A.l seen),0,0,0,0,0,0,0,0,0,0,0,0,0⟩ 0)) (.need (A.k (@tt ((Int×Int×Int×Int×Int×Int×Int)×Int)) ((vId,vN,vSet,vAcc,vFail,vStage,vFirst),sender)) (.br (A.not (A.k Ai ((vId,vN,vSet,vAcc,vFail,vStage,vFirst),sender))) (.more (.c0 ⟨seen,(A.l seen),0,0,0,0,0,0,0,0,0,0,0,0,0⟩ 0)) (.need (A.k Bw ((vId,vN,vSet,vAcc,vFail,vStage,vFirst),sender)) (.need (A.and (A.c .leq 0 0) (A.and (A.c .leq 0 (A.k iB ((vId,vN,vSet,vAcc,vFail,vStage,vFirst),sender)).2) (A.c .leq (A.k iB ((vId,vN,vSet,vAcc,vFail,vStage,vFirst),sender)).2 2))) (.more (.c1 ⟨(A.b .add .i64 0 0),(A.b .sub .i64 (A.k iB ((vId,vN,vSet,vAcc,vFail,vStage,vFirst),sender)).2 0),(A.b .sub .i64 (A.k iB ((vId,vN,vSet,vAcc,vFail,vStage,vFirst),sender)).2 0),0,cTime,cPos,cMode,cNext,cMember,vId,vN,vSet,vAcc,vFail,vStage,vFirst,sender,seen,(A.c .neq (A.k nQ ((cTime,cPos,cMode,cNext,cMember),vN)) 0),vId,vN,vSet,vAcc,vFail,vStage,vFirst,(A.k lI (vId,vN,vSet,vAcc,vFail,vStage,vFirst)),(A.c .neq (A.k lI (vId,vN,vSet,vAcc,vFail,vStage,vFirst)) 0),false,cTime,cPos,cMode,cNext,cMember,vN,(A.k nQ ((cTime,cPos,cMode,cNext,cMember),vN)),(A.c .neq (A.k nQ ((cTime,cPos,cMode,cNext,cMember),vN)) 0),(A.c .neq (A.k nQ ((cTime,cPos,cMode,cNext,cMember),vN)) 0),(A.c .neq (A.l seen) 2),sender,(A.c .lss sender 0),false,sender,vN,(A.c .geq sender vN),(A.c .geq sender vN),false,sender,vId,(A.c .eql sender vId),(A.c .eql sender vId),false,seen,(A.l seen),(A.c .neq (A.l seen) 2),(A.c .neq (A.l seen) 2),vId,vN,vSet,vAcc,vFail,vStage,vFirst,sender,(A.n yI (A.k iB ((vId,vN,vSet,vAcc,vFail,vStage,vFirst),sender)).1 0:Int),(A.n yI (A.k iB ((vId,vN,vSet,vAcc,vFail,vStage,vFirst),sender)).1 1:Int),seen,0,0,0,0,0,0,0,0,0,0,0,0,0,vId,vN,vSet,vAcc,vFail,vStage,vFirst,vId,vN,vSet,vAcc,vFail,vStage,vFirst,sender,cTime,cPos,cMode,cNext,cMember⟩)))))))))))))))
def L_(A:aK):SG→LT ((Int×Int×Int×(Int×Int×(Int×Int×Int×Int×Int)×Int×List Int)×Int)×Int) SG
 | .c0 p a2=>.br (A.c .lss a2 p.a1) (.need (A.and (A.c .leq 0 a2) (A.c .lss a2 (A.l p.a0))) (.br (A.c .neq (A.n (.struct [yI,yI,(.struct [yI,yB])]) p.a0 a2:Int×Int×(Int×List Int)).1 0) (.br (A.c .geq a2 0) (.ret ((2,0,0,(0,0,(0,0,0,0,0),0,([]:List Int)),0),0)) (.ret ((1,0,0,(0,0,(0,0,0,0,0),0,([]:List Int)),0),0))) (.more (.c0 p (A.b .add .i64 a2 1))))) (.ret ((1,0,0,(0,0,(0,0,0,0,0),0,([]:List Int)),0),0))
 | .c1 p=>.br (A.c .lss p.b3 p.b2) (.need (A.and (A.c .leq 0 p.b3) (A.c .lss p.b3 p.b1)) (.more (.c2 ⟨p.b3,p.SD,(A.l p.SD),p.b0,p.b1,p.b2,p.b3,p.b95,p.b96,p.b97,p.b98,(A.n yI [p.b64,p.b65] (A.b .add .i64 p.b0 p.b3):Int),p.b67,p.b68,p.b69,p.b70,p.b71,p.b72,p.b73,p.b74,p.b75,p.b76,p.b77,p.b78,p.b79,p.b4,p.b5,p.b6,p.b7,p.b8,p.b9,p.b10,p.b11,p.b12,p.b13,p.jN,p.fT,p.cY,p.iX,p.my,p.jO,p.mm,p.yP,p.GA,p.b23,p.b24,p.b25,p.b26,p.b27,p.b28,p.b29,p.b30,p.b31,p.b32,p.b33,p.b34,p.b35,p.b36,p.b37,p.b38,p.b39,p.b40,p.b41,p.b42,p.b43,p.b44,p.b45,p.b46,p.b47,p.b48,p.b49,p.b50,p.b51,p.b52,p.b53,p.b54,p.b55,p.b56,p.b57,p.b58,p.b59,p.b60,p.b61,p.b62,p.b63,p.b64,p.b65,p.SD,p.b80,p.b81,p.b82,p.b83,p.b84,p.b85,p.b86,p.b87,p.b88,p.b89,p.b90,p.b91,p.b92,p.b93,p.b94⟩ 0))) (.more (.c0 ⟨p.SD,(A.l p.SD),p.b67,p.b68,p.b69,p.b70,p.b71,p.b72,p.b73,p.b74,p.b75,p.b76,p.b77,p.b78,p.b79⟩ 0))
 | .c2 p c3=>.br (A.c .lss c3 p.c2) (.need (A.and (A.c .leq 0 c3) (A.c .lss c3 (A.l p.c1))) (.br (A.c .neq (A.n (.struct [yI,yI,(.struct [yI,yB])]) p.c1 c3:Int×Int×(Int×List Int)).1 2) (.more (.c2 p (A.b .add .i64 c3 1))) (.need (A.k (@tt ((Int×List Int)×(Int×Int×Int×Int×Int))) ((A.n (.struct [yI,yI,(.struct [yI,yB])]) p.c1 c3:Int×Int×(Int×List Int)).2.2,p.c8,p.c9,p.c10,p.c11,p.c12)) (.br (A.k Ir ((A.n (.struct [yI,yI,(.struct [yI,yB])]) p.c1 c3:Int×Int×(Int×List Int)).2.2,p.c8,p.c9,p.c10,p.c11,p.c12)).2 (.ret ((3,p.c0,c3,(A.k Ir ((A.n (.struct [yI,yI,(.struct [yI,yB])]) p.c1 c3:Int×Int×(Int×List Int)).2.2,p.c8,p.c9,p.c10,p.c11,p.c12)).1,(A.n (.struct [yI,yI,(.struct [yI,yB])]) p.c1 c3:Int×Int×(Int×List Int)).2.1),0)) (.more (.c2 p (A.b .add .i64 c3 1))))))) (.more (.c1 ⟨p.c4,p.c5,p.c6,(A.b .add .i64 p.c7 1),p.c26,p.c27,p.c28,p.c29,p.c30,p.c31,p.c32,p.c33,p.c34,p.c35,p.c36,p.c37,p.c38,p.c39,p.c40,p.c41,p.c42,p.c43,p.c44,p.c45,p.c46,p.c47,p.c48,p.c49,p.c50,p.c51,p.c52,p.c53,p.c54,p.c55,p.c56,p.c57,p.c58,p.c59,p.c60,p.c61,p.c62,p.c63,p.c64,p.c65,p.c66,p.c67,p.c68,p.c69,p.c70,p.c71,p.c72,p.c73,p.c74,p.c75,p.c76,p.c77,p.c78,p.c79,p.c80,p.c81,p.c82,p.c83,p.c84,p.c85,p.c86,p.c87,p.c88,p.c13,p.c14,p.Af,p.c16,p.Mk,p.Ml,p.c19,p.c20,p.c21,p.c22,p.c23,p.c24,p.c25,p.c89,p.c90,p.c91,p.c92,p.c93,p.c94,p.c95,p.c96,p.c97,p.c98,p.c99,p.aa5,p.agp,p.aeV,p.adw,p.c8,p.c9,p.c10,p.c11,p.c12⟩))
def mO(c:Int×Int×Int×Int×Int)(w:Int):Nat→List (Int×Int×(Int×List Int))→Option (Int×Int×Int×(Int×Int×(Int×Int×Int×Int×Int)×Int×List Int)×Int)
 | _, []=>none
 | k,s::l=>bif s.1==2&&(w9 (s.2.2,c)).2 then some (3,w,(k:Int),(w9 (s.2.2,c)).1,s.2.1) else mO c w (k+1) l
def nj(t p m n:Int)(seen:List (Int×Int×(Int×List Int))):Nat→List Int→Option (Int×Int×Int×(Int×Int×(Int×Int×Int×Int×Int)×Int×List Int)×Int)
 | _, []=>none
 | i,v::l=>match mO (t,p,m,n,v) (i:Int) 0 seen with
   | some o=>some o
   | none=>nj t p m n seen (i+1) l
def Vw:Int×Int×Int×(Int×Int×(Int×Int×Int×Int×Int)×Int×List Int)×Int:=(0,0,0,zI,0)
def oF(seen:List (Int×Int×(Int×List Int))):Int×Int×Int×(Int×Int×(Int×Int×Int×Int×Int)×Int×List Int)×Int:=bif seen.any fun s=>s.1 != 0 then(2,0,0,zI,0) else(1,0,0,zI,0)
def yJ(t p m n:Int)(seen:List (Int×Int×(Int×List Int)))(i:Nat)(vs:List Int):(Int×Int×Int×(Int×Int×(Int×Int×Int×Int×Int)×Int×List Int)×Int)×Int:=
 match nj t p m n seen i vs with
 | some o=>(o,0)
 | none=>(oF seen,0)
def WL(x:(Int×Int×Int×Int×Int×Int×Int)×Int):List Int:=(iB x).1.take (iB x).2.toNat
def kx:(Int×Int×Int×Int×Int)×(Int×Int×Int×Int×Int×Int×Int)×Int×List (Int×Int×(Int×List Int))→(Int×Int×Int×(Int×Int×(Int×Int×Int×Int×Int)×Int×List Int)×Int)×Int:=fun((t,p,m,n,s),v,sender,seen)=>
 bif lI v != 0||jW ((t,p,m,n,s),v.2.1) != 0 then(Vw,170)
 else bif decide (sender<0)||decide (v.2.1≤sender)||sender==v.1||seen.length != 2 then(Vw,2)
 else yJ t p m n seen 0 (WL (v,sender))
theorem MC{x:(Int×Int×Int×Int×Int×Int×Int)×Int}:(iB x).1.length=2:=by
 obtain⟨⟨a,b,c,d,e,f,g⟩,s⟩:=x
 exact LT.kR (p:=fun y:List Int×Int=>y.1.length=2) rfl (by simp[t78,yc,LT.all])
theorem Fs{l:List (Int×Int×(Int×List Int))}{i:Nat}(h:i<l.length):(ah.n (.struct [(.int .i64),(.int .i64),(.struct [(.int .i64),(.slice (.int .u8))])]) l (i:Int):Int×Int×(Int×List Int))=l[i]:=getD_in h _
theorem Uc{seen:List (Int×Int×(Int×List Int))}(hl:seen.length≤140737488355328):∀(j i:Nat) (p:Wb),p.a0=seen→p.a1=(seen.length:Int)→seen.length-i=j→i≤seen.length→(seen.take i).any (fun s=>s.1 != 0)=false→aB (L_ ah) (.more (.c0 p (i:Int))) (oF seen,0):=by
 intro j
 induction j with
 | zero=>
   intro i p h0 h1 hj hi ha
   have:i=seen.length:=by omega
   subst this
   rw[List.take_length] at ha
   rw[ak,L_]
   refine(ai (by rw[h1,aI];simp)).2 ?_
   rw[oF,ha]
   exact .ret _
 | succ j ih=>
   intro i p h0 h1 hj hi ha
   have hi':i<seen.length:=by omega
   rw[ak,L_]
   refine(aj (by rw[h1,aI];simp;omega)).2 (af.2 ⟨by rw[h0];exact aS hi',?_⟩)
   have hn:(ah.n (.struct [(.int .i64),(.int .i64),(.struct [(.int .i64),(.slice (.int .u8))])]) p.a0 (i:Int):Int×Int×(Int×List Int)).1=seen[i].1:=congrArg (fun z=>z.1) ((congrArg (fun z=>(ah.n (.struct [(.int .i64),(.int .i64),(.struct [(.int .i64),(.slice (.int .u8))])]) z (i:Int):Int×Int×(Int×List Int))) h0).trans (Fs hi'))
   have htk:=List.take_succ_eq_append_getElem hi'
   by_cases hk:seen[i].1=0
   ·refine(ai (jG (hn.trans hk))).2 ?_
    refine dJ (congrArg LT.more (congrArg (SG.c0 p) (cu (by omega)))) (ih (i+1) p h0 h1 (by omega) (by omega) ?_)
    rw[htk,List.any_append,ha]
    simp[hk]
   ·refine(aj (oi (fun h=>hk (hn.symm.trans h)))).2 ((aj (by rw[aN];simp)).2 ?_)
    have:seen.any (fun s=>s.1 != 0)=true:=List.any_eq_true.2 ⟨seen[i],List.getElem_mem hi',by simpa using hk⟩
    rw[oF,this]
    exact .ret _
def I1(p:Jh)(seen:List (Int×Int×(Int×List Int)))(vs:List Int)(cnt i t po m n:Int):Prop:=p.b0=0∧p.b1=cnt∧p.b2=cnt∧p.b3=i∧p.SD=seen∧ [p.b64,p.b65]=vs∧p.b95=t∧p.b96=po∧p.b97=m∧p.b98=n
def I2(p:OA)(seen:List (Int×Int×(Int×List Int)))(vs:List Int)(cnt i t po m n v:Int):Prop:=p.c0=i∧p.c1=seen∧p.c2=(seen.length:Int)∧p.c4=0∧p.c5=cnt∧p.c6=cnt∧p.c7=i∧p.c88=seen∧ [p.c86,p.c87]=vs∧p.c8=t∧p.c9=po∧p.c10=m∧p.c11=n∧p.c12=v
theorem TD{seen:List (Int×Int×(Int×List Int))}{vs:List Int}{cnt t po m n v:Int}{i:Nat}(hi:i<4)(hl:seen.length≤140737488355328){R:(Int×Int×Int×(Int×Int×(Int×Int×Int×Int×Int)×Int×List Int)×Int)×Int}(hnext:∀p':Jh,I1 p' seen vs cnt ((i+1:Nat):Int) t po m n→aB (L_ ah) (.more (.c1 p')) R) :
  ∀(j k:Nat) (p:OA),I2 p seen vs cnt (i:Int) t po m n v→seen.length-k=j→k≤seen.length→aB (L_ ah) (.more (.c2 p (k:Int))) (match mO (t,po,m,n,v) (i:Int) k (seen.drop k) with|some o=>(o,0)|none=>R):=by
 intro j
 induction j with
 | zero=>
   intro k p hI hj hk
   have:k=seen.length:=by omega
   subst this
   obtain⟨h0,h1,h2,h4,h5,h6,h7,h88,hv,h8,h9,h10,h11,h12⟩:=hI
   rw[ak,L_]
   refine(ai (by rw[h2,aI];simp)).2 ?_
   rw[List.drop_length]
   exact hnext _ ⟨h4,h5,h6,by show ah.b .add .i64 p.c7 1=_;rw[h7,cu (by omega)],h88,hv,h8,h9,h10,h11⟩
 | succ j ih=>
   intro k p hI hj hk
   have hk':k<seen.length:=by omega
   have hm:=ih (k+1) p hI (by omega) (by omega)
   obtain⟨h0,h1,h2,h4,h5,h6,h7,h88,hv,h8,h9,h10,h11,h12⟩:=hI
   rw[ak,L_]
   have hn:(ah.n (.struct [(.int .i64),(.int .i64),(.struct [(.int .i64),(.slice (.int .u8))])]) p.c1 (k:Int):Int×Int×(Int×List Int))=seen[k]:=(congrArg (fun z=>(ah.n (.struct [(.int .i64),(.int .i64),(.struct [(.int .i64),(.slice (.int .u8))])]) z (k:Int):Int×Int×(Int×List Int))) h1).trans (Fs hk')
   have hd:seen.drop k=seen[k]::seen.drop (k+1):=List.drop_eq_getElem_cons hk'
   have hg:ah.k Ir ((ah.n (.struct [(.int .i64),(.int .i64),(.struct [(.int .i64),(.slice (.int .u8))])]) p.c1 (k:Int):Int×Int×(Int×List Int)).2.2,p.c8,p.c9,p.c10,p.c11,p.c12)=w9 (seen[k].2.2,(t,po,m,n,v)):=by
    refine(congrArg (fun z:Int×Int×(Int×List Int)=>Ir (z.2.2,p.c8,p.c9,p.c10,p.c11,p.c12)) hn).trans ?_
    rw[h8,h9,h10,h11,h12]
    exact TC
   refine(aj (by rw[h2,aI];simp;omega)).2 (af.2 ⟨by rw[h1];exact aS hk',?_⟩)
   rw[hd,mO]
   by_cases hkd:seen[k].1=2
   ·refine(ai (jG ((congrArg (fun z=>z.1) hn).trans hkd))).2 (af.2 ⟨rfl,?_⟩)
    rw[show(seen[k].1==2)=true from by simpa using hkd,Bool.true_and]
    cases hgd:(w9 (seen[k].2.2,(t,po,m,n,v))).2
    ·refine(ai ((congrArg (fun z=>z.2) hg).trans hgd)).2 ?_
     exact dJ (congrArg LT.more (congrArg (SG.c2 p) (cu (by omega)))) hm
    ·refine(aj ((congrArg (fun z=>z.2) hg).trans hgd)).2 ?_
     have e:=congr (congr (congrArg (fun(x:Int) (y:Int×Int×(Int×Int×Int×Int×Int)×Int×List Int) (z:Int)=>(LT.ret (((3:Int),x,(k:Int),y,z),(0:Int)):LT ((Int×Int×Int×(Int×Int×(Int×Int×Int×Int×Int)×Int×List Int)×Int)×Int) SG)) h0) (congrArg (fun z=>z.1) hg)) (congrArg (fun z=>z.2.1) hn)
     exact dJ e (.ret _)
   ·refine(aj (oi (fun h=>hkd ((congrArg (fun z=>z.1) hn).symm.trans h)))).2 ?_
    rw[show(seen[k].1==2)=false from by simpa using hkd,Bool.false_and]
    exact dJ (congrArg LT.more (congrArg (SG.c2 p) (cu (by omega)))) hm
theorem Uk{seen:List (Int×Int×(Int×List Int))}{vs:List Int}{cnt:Nat}{t po m n:Int}(hl:seen.length≤140737488355328)(hv2:vs.length=2)(hc:cnt≤2):∀(j i:Nat) (p:Jh),I1 p seen vs (cnt:Int) (i:Int) t po m n→cnt-i=j→i≤cnt→aB (L_ ah) (.more (.c1 p)) (yJ t po m n seen i ((vs.take cnt).drop i)):=by
 intro j
 induction j with
 | zero=>
   intro i p hI hj hi
   have:i=cnt:=by omega
   subst this
   obtain⟨h0,h1,h2,h3,h66,hv,h95,h96,h97,h98⟩:=hI
   rw[ak,L_]
   refine(ai (by rw[h2,h3,aI];simp)).2 ?_
   rw[List.drop_of_length_le (by rw[List.length_take];omega)]
   exact Uc hl seen.length 0 _ h66 (by show ah.l p.SD=_;rw[h66];rfl) rfl (by omega) rfl
 | succ j ih=>
   intro i p hI hj hi
   obtain⟨h0,h1,h2,h3,h66,hv,h95,h96,h97,h98⟩:=hI
   have hiv:i<(vs.take cnt).length:=by rw[List.length_take];omega
   rw[ak,L_]
   refine(aj (by rw[h2,h3,aI];simp;omega)).2 (af.2 ⟨by rw[h1,h3,ng,aI,aG];simp;omega,?_⟩)
   have hnv:(ah.n (.int .i64) [p.b64,p.b65] (ah.b .add .i64 p.b0 p.b3):Int)=(vs.take cnt)[i]:=by
    have e:ah.b .add .i64 p.b0 p.b3=(i:Int):=by rw[h0,h3,bd,gZ (by omega) (by omega)];omega
    refine((congrArg (fun z=>(ah.n (.int .i64) [p.b64,p.b65] z:Int)) e).trans ((congrArg (fun z=>(ah.n (.int .i64) z (i:Int):Int)) hv).trans (getD_in (l:=vs) (by omega) _))).trans ?_
    rw[List.getElem_take]
   have hm:=TD (seen:=seen) (vs:=vs) (cnt:=(cnt:Int)) (t:=t) (po:=po) (m:=m) (n:=n) (v:=(vs.take cnt)[i]) (i:=i) (by omega) hl (R:=yJ t po m n seen (i+1) ((vs.take cnt).drop (i+1))) (fun p' hp'=>ih (i+1) p' hp' (by omega) (by omega)) seen.length 0
   refine ay ?_ (hm _ ⟨h3,h66,?_,h0,h1,h2,h3,h66,hv,h95,h96,h97,h98,hnv⟩ rfl (by omega))
   rotate_left
   ·show ah.l p.SD=_;rw[h66];rfl
   rw[yJ,yJ,List.drop_eq_getElem_cons hiv,nj,List.drop_zero]
   cases mO (t,po,m,n,(vs.take cnt)[i]) (i:Int) 0 seen<;>rfl
theorem MM{t po m n s a b c d e f g sender:Int}{seen:List (Int×Int×(Int×List Int))}(h:Ty.cq [(.struct [(.int .i64),(.int .i64),(.int .i64),(.int .i64),(.int .i64)]),(.struct [(.int .i64),(.int .i64),(.int .i64),(.int .i64),(.int .i64),(.int .i64),(.int .i64)]),(.int .i64),(.slice (.struct [(.int .i64),(.int .i64),(.struct [(.int .i64),(.slice (.int .u8))])]))] ((t,po,m,n,s),(a,b,c,d,e,f,g),sender,seen)):seen.length≤140737488355328:=h.2.2.2.1
theorem aee{t po m n s a b c d e f g sender:Int}{seen:List (Int×Int×(Int×List Int))}(h:Ty.cq [(.struct [(.int .i64),(.int .i64),(.int .i64),(.int .i64),(.int .i64)]),(.struct [(.int .i64),(.int .i64),(.int .i64),(.int .i64),(.int .i64),(.int .i64),(.int .i64)]),(.int .i64),(.slice (.struct [(.int .i64),(.int .i64),(.struct [(.int .i64),(.slice (.int .u8))])]))] ((t,po,m,n,s),(a,b,c,d,e,f,g),sender,seen)) :
  aB (L_ ah) (t43 ah t po m n s a b c d e f g sender seen) (kx ((t,po,m,n,s),(a,b,c,d,e,f,g),sender,seen)):=by
 have hl:=MM h
 unfold t43 PO
 rw[kx]
 refine af.2 ⟨rfl,?_⟩
 by_cases h1:(lI (a,b,c,d,e,f,g) != 0)=true
 ·rw[h1]
  exact(aj h1).2 (.ret _)
 rw[Bool.not_eq_true] at h1
 rw[h1]
 refine(ai h1).2 (af.2 ⟨rfl,?_⟩)
 rw[Bool.false_or]
 by_cases h2:(jW ((t,po,m,n,s),b) != 0)=true
 ·rw[h2]
  exact(aj h2).2 (.ret _)
 rw[Bool.not_eq_true] at h2
 rw[h2]
 refine(ai h2).2 ?_
 rw[cond_false]
 have hz:lI (a,b,c,d,e,f,g)=0:=by simpa using h1
 have hok:=dK.1 hz
 unfold iQ at hok
 by_cases h3:sender<0
 ·refine(aj (by rw[al];simpa using h3)).2 ?_
  rw[show decide (sender<0)=true from by simpa using h3]
  exact .ret _
 refine(ai (by rw[al];simpa using h3)).2 ?_
 by_cases h4:b≤sender
 ·refine(aj (by rw[aN];simpa using h4)).2 ?_
  rw[show decide (b≤sender)=true from by simpa using h4,Bool.or_true]
  exact .ret _
 refine(ai (by rw[aN];simpa using h4)).2 ?_
 by_cases h5:sender=a
 ·refine(aj (wy h5)).2 ?_
  rw[show(sender==a)=true from by simpa using h5,Bool.or_true]
  exact .ret _
 refine(ai (J7 h5)).2 ?_
 by_cases h6:¬seen.length=2
 ·refine(aj (oi (show(seen.length:Int)≠2 by omega))).2 ?_
  rw[show(seen.length != 2)=true from by simpa using h6,Bool.or_true]
  exact .ret _
 rw[Decidable.not_not] at h6
 refine(ai (jG (show(seen.length:Int)=2 by omega))).2 (af.2 ⟨rfl,(ai h1).2 (af.2 ⟨rfl,?_⟩)⟩)
 rw[show decide (sender<0)=false from by simpa using h3,show decide (b≤sender)=false from by simpa using h4,show(sender==a)=false from by simpa using h5,show(seen.length != 2)=false from by simpa using h6]
 have h77:Ai ((a,b,c,d,e,f,g),sender)=true:=(pT (by omega) (by omega)).2 ⟨by omega,by omega,by omega⟩
 have hq:=FI (x:=((a,b,c,d,e,f,g),sender))
 have hq2:=MC (x:=((a,b,c,d,e,f,g),sender))
 refine(ai (show ah.not (ah.k Ai ((a,b,c,d,e,f,g),sender))=false by rw[bE,au,h77];rfl)).2 (af.2 ⟨by rw[au];simp[Bw];omega,af.2 ⟨?_,?_⟩⟩)
 ·rw[au,aG,aG,ap,ap,ap];simp;omega
 ·obtain⟨cnt,hcnt⟩:=Int.eq_ofNat_of_zero_le hq.1
  show aB (L_ ah) _ (yJ t po m n seen 0 (WL ((a,b,c,d,e,f,g),sender)))
  rw[WL,hcnt,Int.toNat_natCast]
  have hs:ah.b .sub .i64 (ah.k iB ((a,b,c,d,e,f,g),sender)).2 0=(cnt:Int):=by
   rw[au,hcnt,bf,gZ (by omega) (by omega)];omega
  refine Uk (vs:=(iB ((a,b,c,d,e,f,g),sender)).1) hl hq2 (by omega) cnt 0 _ ⟨rfl,hs,hs,rfl,rfl,?_,rfl,rfl,rfl,rfl⟩ (by omega) (by omega)
  show[(iB ((a,b,c,d,e,f,g),sender)).1.getD 0 0,(iB ((a,b,c,d,e,f,g),sender)).1.getD 1 0]=_
  match (iB ((a,b,c,d,e,f,g),sender)).1,hq2 with
  | [_,_],_=>rfl
def YW:((Int×Int×Int×Int×Int)×(Int×Int×Int×Int×Int×Int×Int)×Int×List (Int×Int×(Int×List Int)))→((Int×Int×Int×(Int×Int×(Int×Int×Int×Int×Int)×Int×List Int)×Int)×Int):=kx
def ahd:aC:=⟨[(.struct [yI,yI,yI,yI,yI]),(.struct [yI,yI,yI,yI,yI,yI,yI]),yI,(.slice (.struct [yI,yI,(.struct [yI,yB])]))], [(.struct [yI,yI,yI,(.struct [yI,yI,(.struct [yI,yI,yI,yI,yI]),yI,yB]),yI]),yI],(@tt ((Int×Int×Int×Int×Int)×(Int×Int×Int×Int×Int×Int×Int)×Int×List (Int×Int×(Int×List Int)))),YW⟩
theorem ahW:Sd 49 ahd:=aU ar bU true 122 [⟨49,10, [[4,8,9,10,56,57,58], [0,24,25,26], [7,8,9]]⟩,⟨176,3, [[0,24,25,26], [7,8,9]]⟩,⟨180,2, [[0,1,7,8], [], [8,9]]⟩] [] (fun A ((cTime,cPos,cMode,cNext,cMember),(vId,vN,vSet,vAcc,vFail,vStage,vFirst),sender,seen)=>t43 A cTime cPos cMode cNext cMember vId vN vSet vAcc vFail vStage vFirst sender seen) L_ adP (fc Tryz.func49 (fc Tryz.func102 (fc Tryz.func104 (fc Tryz.func105 (fc Tryz.func176 (fc Tryz.func180 fz)))))) (sc Ij (sc agJ (sc W8 (sc adF (sc CY sz))))) (fun A y=>match y with |.c0 p a2=>⟨62,by kernel_rfl,by kernel_rfl⟩|.c1 p=>⟨52,by kernel_rfl,by kernel_rfl⟩|.c2 p c3=>⟨68,by kernel_rfl,by kernel_rfl⟩) fun((cTime,cPos,cMode,cNext,cMember),(vId,vN,vSet,vAcc,vFail,vStage,vFirst),sender,seen) hp h=>aee h
def t61(A:aK)(vId:Int)(vN:Int)(vSet:Int)(vAcc:Int)(vFail:Int)(vStage:Int)(vFirst:Int)(sender:Int)(oKind:Int)(oWhich:Int)(oChan:Int)(oFKind:Int)(oFReq:Int)(oFCTime:Int)(oFCPos:Int)(oFCMode:Int)(oFCNext:Int)(oFCMember:Int)(oFFrom:Int)(oFData:List Int)(oAt:Int):LT ((Int×Int×Int×Int×Int×Int×Int)×Int) Empty:=.br (A.c .eql oKind 1) (.need (A.k (@tt ((Int×Int×Int×Int×Int×Int×Int)×Int)) ((vId,vN,vSet,vAcc,vFail,vStage,vFirst),sender)) (.ret (A.k nO ((vId,vN,vSet,vAcc,vFail,vStage,vFirst),sender)))) (.br (A.c .eql oKind 2) (.need (A.k (@tt ((Int×Int×Int×Int×Int×Int×Int)×Int)) ((vId,vN,vSet,vAcc,vFail,vStage,vFirst),sender)) (.ret (A.k Pj ((vId,vN,vSet,vAcc,vFail,vStage,vFirst),sender)))) (.br (A.c .eql oKind 3) (.need (A.k (@tt ((Int×Int×Int×Int×Int×Int×Int)×Int×Int)) ((vId,vN,vSet,vAcc,vFail,vStage,vFirst),sender,oWhich)) (.ret (A.k ol ((vId,vN,vSet,vAcc,vFail,vStage,vFirst),sender,oWhich)))) (.ret ((0,0,0,0,0,0,0),2))))
def mV:((Int×Int×Int×Int×Int×Int×Int)×Int×(Int×Int×Int×(Int×Int×(Int×Int×Int×Int×Int)×Int×List Int)×Int))→((Int×Int×Int×Int×Int×Int×Int)×Int):=fun((vId,vN,vSet,vAcc,vFail,vStage,vFirst),sender,oKind,oWhich,oChan,(oFKind,oFReq,(oFCTime,oFCPos,oFCMode,oFCNext,oFCMember),oFFrom,oFData),oAt)=>(t61 ah vId vN vSet vAcc vFail vStage vFirst sender oKind oWhich oChan oFKind oFReq oFCTime oFCPos oFCMode oFCNext oFCMember oFFrom oFData oAt).val (Ty.bl [(.struct [yI,yI,yI,yI,yI,yI,yI]),yI])
def ahD:aC:=⟨[(.struct [yI,yI,yI,yI,yI,yI,yI]),yI,(.struct [yI,yI,yI,(.struct [yI,yI,(.struct [yI,yI,yI,yI,yI]),yI,yB]),yI])], [(.struct [yI,yI,yI,yI,yI,yI,yI]),yI],(@tt ((Int×Int×Int×Int×Int×Int×Int)×Int×(Int×Int×Int×(Int×Int×(Int×Int×Int×Int×Int)×Int×List Int)×Int))),mV⟩
theorem aih:Sd 51 ahD:=aL ar bU true 50 [] (fun A ((vId,vN,vSet,vAcc,vFail,vStage,vFirst),sender,oKind,oWhich,oChan,(oFKind,oFReq,(oFCTime,oFCPos,oFCMode,oFCNext,oFCMember),oFFrom,oFData),oAt)=>t61 A vId vN vSet vAcc vFail vStage vFirst sender oKind oWhich oChan oFKind oFReq oFCTime oFCPos oFCMode oFCNext oFCMember oFFrom oFData oAt) (fc Tryz.func51 fz) (sc ahv (sc aa9 (sc agR sz))) (fun(((vId,vN,vSet,vAcc,vFail,vStage,vFirst),sender,oKind,oWhich,oChan,(oFKind,oFReq,(oFCTime,oFCPos,oFCMode,oFCNext,oFCMember),oFFrom,oFData),oAt):(Int×Int×Int×Int×Int×Int×Int)×Int×(Int×Int×Int×(Int×Int×(Int×Int×Int×Int×Int)×Int×List Int)×Int)) hp h=>by
 show(t61 ah vId vN vSet vAcc vFail vStage vFirst sender oKind oWhich oChan oFKind oFReq oFCTime oFCPos oFCMode oFCNext oFCMember oFFrom oFData oAt).pre=true
 simp[t61,LT.pre,au,cm])
end
end Go.Ev.M
