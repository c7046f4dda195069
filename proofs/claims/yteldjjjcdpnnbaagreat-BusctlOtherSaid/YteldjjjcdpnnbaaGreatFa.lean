/-
  PROVED: what the functions of the packages bits and metronomeref01 compute. Conditions: none.
-/
import Derived.Test.YteldjjjcdpnnbaaGreatTy
import Derived.Test.YteldjjjcdpnnbaaGreatEvC
import Derived.Test.YteldjjjcdpnnbaaGreatPl
namespace Go.Ev.M
open Go.Proofs
set_option maxRecDepth 100000
set_option linter.unusedVariables false
set_option linter.unusedSimpArgs false
open Go.Ev.Pl
open Go.Ev.Pl
theorem Bi{i:Int}(h:0≤i)(h2:i≤4611686018427387904):aj.b .quo .i64 i 8=((i.toNat/8:Nat):Int):=by
 rw[BH,Int.tdiv_eq_ediv_of_nonneg h,gg (by omega) (by omega)];omega
theorem Ap{i:Int}(h:0≤i):aj.b .rem .i64 i 8=((i.toNat%8:Nat):Int):=by
 rw[yu,Int.tmod_eq_emod_of_nonneg h];omega
theorem dh{n:Int}{b:List Int}(h:Ty.has (.struct [(.int .i64),(.slice (.int .u8))]) (n,b)):(-9223372036854775808≤n∧n≤9223372036854775807)∧b.length≤dp∧bJ b:=by
 simp only[Ty.has,Ty.cY] at h
 exact⟨h.1,h.2.1,fun x hx=>h.2.2 x hx⟩
theorem cK{n:Int}{b:List Int}(h:Ty.has (.struct [(.int .i64),(.slice (.int .u8))]) (n,b)):b.length≤140737488355328:=(dh h).2.1
theorem H9{b:List Int}{i:Int}(h:Ty.cY [(.slice (.int .u8)),(.int .i64)] (b,i)):b.length≤140737488355328:=by
 simp only[Ty.cY,Ty.has] at h
 exact h.1.1
def K7(A:a_)(n:Int):LT Int Empty:=.ret (A.b .quo .i64 (A.b .add .i64 n 7) 8)
def du:Int→Int:=fun n=>(K7 aj n).val (Ty.bF [yI])
def R7:aC:=⟨[yI], [yI],(@tt Int),du⟩
theorem Gj:Sd 246 R7:=aH ap cm true 17 [] (fun A n=>K7 A n) (fc Tryz.func246 fz) sz (fun(n:Int) hp h=>by
 show(K7 aj n).pre=true
 rfl)
def GN(A:a_)(i:Int):LT Int Empty:=.need (A.c .leq 0 (A.b .rem .i64 i 8)) (.ret (A.b .shr .u8 128 (A.b .rem .i64 i 8)))
def uR:Int→Int:=fun i=>(GN aj i).val (Ty.bF [yU])
def nk:Int→Bool:=fun i=>decide (0≤i)
def Vl:aC:=⟨[yI], [yU],nk,uR⟩
theorem Ft:Sd 264 Vl:=aH ap cm true 17 [] (fun A i=>GN A i) (fc Tryz.func264 fz) sz (fun(i:Int) hp h=>by
 show(GN aj i).pre=true
 simp only[GN,LT.pre,dF,aA,aG,ao,ar,ay,aJ,aN,aP,dH,ak,bi,aW,aU,bU,bK,Bool.and_eq_true,Bool.or_eq_true,Bool.and_eq_false_iff,Bool.or_eq_false_iff,Bool.not_eq_true',Bool.not_eq_false',decide_eq_true_eq,decide_eq_false_iff_not,bne_iff_ne,beq_iff_eq,bne_eq_false_iff_eq,beq_eq_false_iff_ne]
 simp only[nk,decide_eq_true_eq] at hp
 rw[Ap hp];exact⟨by omega,trivial⟩)
theorem mH{n:Int}(h:0≤n)(h2:n≤4611686018427387000):du n=(((n.toNat+7)/8:Nat):Int):=by
 simp only[du,K7,LT.val]
 rw[bi,gg (by omega) (by omega),Bi (by omega) (by omega)]
 omega
theorem Gt:∀k:Fin 8,aj.b .shr .u8 128 (k.val:Int)=((128 >>> k.val:Nat):Int):=by decide +kernel
theorem zq{i:Int}(h:0≤i):uR i=((128 >>> (i.toNat%8):Nat):Int):=by
 simp only[uR,GN,LT.val]
 rw[Ap h]
 exact Gt ⟨i.toNat%8,Nat.mod_lt _ (by decide)⟩
theorem J6:∀c:Fin 256,∀k:Fin 8,(aj.b .and .u8 (c.val:Int) ((128 >>> k.val:Nat):Int) != 0)=c.val.testBit (7-k.val):=by decide +kernel
theorem vG{l:List Int}(h:bJ l)(i:Nat):0≤l.getD i 0∧l.getD i 0≤255:=by
 rw[List.getD_eq_getElem?_getD]
 by_cases hi:i<l.length
 ·rw[List.getElem?_eq_getElem hi];exact h _ (List.getElem_mem hi)
 ·rw[List.getElem?_eq_none (by omega)];decide
theorem J4{l:List Int}(h:bJ l)(i:Nat):(aj.b .and .u8 (l.getD (i/8) 0) ((128 >>> (i%8):Nat):Int) != 0)=fh l i:=by
 have h1:=vG h (i/8)
 have h2:=J6 ⟨(l.getD (i/8) 0).toNat,by omega⟩ ⟨i%8,Nat.mod_lt _ (by decide)⟩
 simp only at h2
 rw[show(((l.getD (i/8) 0).toNat:Nat):Int)=l.getD (i/8) 0 from by omega] at h2
 exact h2
def Ic(A:a_)(bN:Int)(bB:List Int)(i:Int):LT Bool Empty:=.need (A.and (A.c .leq 0 (A.b .quo .i64 i 8)) (A.c .lss (A.b .quo .i64 i 8) (A.l bB))) (.need (A.k nk i) (.ret (A.c .neq (A.b .and .u8 (A.n yU bB (A.b .quo .i64 i 8):Int) (A.k uR i)) 0)))
def uL:((Int×List Int)×Int)→Bool:=fun((bN,bB),i)=>(Ic aj bN bB i).val (Ty.bF [.bool])
def rz:((Int×List Int)×Int)→Bool:=fun((n,b),i)=>decide (0≤i)&&decide (i<8*(b.length:Int))
def VV:aC:=⟨[(.struct [yI,yB]),yI], [.bool],rz,uL⟩
theorem L5:Sd 257 VV:=aH ap cm true 25 [] (fun A ((bN,bB),i)=>Ic A bN bB i) (fc Tryz.func257 fz) (sc Ft sz) (fun(((bN,bB),i):(Int×List Int)×Int) hp h=>by
 show(Ic aj bN bB i).pre=true
 simp only[rz,Bool.and_eq_true,decide_eq_true_eq] at hp
 have hl:=cK h.1
 simp only[Ic,LT.pre,ak,aN,ar,ao,nk,Bool.and_eq_true,decide_eq_true_eq,bU]
 rw[Bi hp.1 (by omega)]
 refine⟨⟨by omega,by omega⟩,hp.1,trivial⟩)
theorem zY{n:Int}{b:List Int}{i:Int}(hb:bJ b)(h0:0≤i)(h1:i<8*(b.length:Int))(hl:b.length≤140737488355328):uL ((n,b),i)=fh b i.toNat:=by
 simp only[uL,Ic,LT.val,ak,aG]
 rw[Bi h0 (by omega),zq h0]
 exact J4 hb i.toNat
def Qf(A:a_)(bN:Int)(bB:List Int):LT Int Empty:=.br (A.c .lss bN 0) (.ret 10) (.br (A.c .gtr bN 4096) (.ret 10) (.need (A.k (@tt Int) bN) (.br (A.c .neq (A.l bB) (A.k du bN)) (.ret 10) (.br (A.c .neq (A.b .rem .i64 bN 8) 0) (.need (A.and (A.c .leq 0 (A.b .sub .i64 (A.l bB) 1)) (A.c .lss (A.b .sub .i64 (A.l bB) 1) (A.l bB))) (.need (A.c .leq 0 (A.b .rem .i64 bN 8)) (.br (A.c .neq (A.b .and .u8 (A.n yU bB (A.b .sub .i64 (A.l bB) 1):Int) (A.b .shr .u8 255 (A.b .rem .i64 bN 8))) 0) (.ret 10) (.ret 0)))) (.ret 0)))))
def jq:((Int×List Int))→Int:=fun(bN,bB)=>(Qf aj bN bB).val (Ty.bF [yI])
def Z7:aC:=⟨[(.struct [yI,yB])], [yI],(@tt ((Int×List Int))),jq⟩
theorem AA:Sd 230 Z7:=aH ap cm true 67 [] (fun A (bN,bB)=>Qf A bN bB) (fc Tryz.func230 fz) (sc Gj sz) (fun((bN,bB):(Int×List Int)) hp h=>by
 show(Qf aj bN bB).pre=true
 have hl:=cK h
 simp only[Qf,LT.pre,ak,aG,ao,ay,ar,aN,bK,Bool.true_and,bU,dF,decide_eq_true_eq,decide_eq_false_iff_not,Bool.and_eq_true,bne_iff_ne,bne_eq_false_iff_eq,ne_eq,implies_true,and_true,true_and]
 intro h0 h1 h2 h3
 rw[mH (by omega) (by omega)] at h2
 rw[Ap (by omega)] at h3
 rw[aW,gg (by omega) (by omega),Ap (by omega)]
 omega)
theorem ES:∀c:Fin 256,∀r:Fin 8,(aj.b .and .u8 (c.val:Int) (aj.b .shr .u8 255 (r.val:Int)) != 0)=!((List.range 8).all fun k=>decide (k<r.val) || !c.val.testBit (7-k)):=by decide +kernel
theorem Dx{n:Int}{b:List Int}(hb:bJ b)(hl:b.length≤140737488355328):jq (n,b)=0↔0≤n∧n≤4096∧okB n.toNat b:=by
 simp only[jq,Qf,LT.val,ak,aG,ao,ay]
 by_cases h0:n<0
 ·simp only[h0,decide_true,cond_true]
  constructor
  ·intro h;cases h
  ·intro h;omega
 ·simp only[h0,decide_false,cond_false]
  by_cases h1:4096<n
  ·simp only[h1,decide_true,cond_true]
   constructor
   ·intro h;cases h
   ·intro h;omega
  ·simp only[h1,decide_false,cond_false]
   rw[mH (by omega) (by omega)]
   have hlen:aj.l b=(b.length:Int):=rfl
   rw[hlen]
   by_cases h2:b.length=(n.toNat+7)/8
   ·rw[show((b.length:Int) != (((n.toNat+7)/8:Nat):Int))=false from by rw[h2];exact bne_self_eq_false _,cond_false,Ap (by omega)]
    by_cases h3:n.toNat%8=0
    ·rw[h3]
     simp only[Int.natCast_zero,bne_self_eq_false,cond_false,true_iff]
     exact⟨by omega,by omega,h2,hb,fun i h4 h5=>by omega⟩
    ·rw[show(((n.toNat%8:Nat):Int) != 0)=true from by simp;omega,cond_true]
     have e:(aj.n (.int .u8) b (aj.b .sub .i64 (b.length:Int) 1):Int)=b.getD (n.toNat/8) 0:=by
      show b.getD (aj.b .sub .i64 (b.length:Int) 1).toNat 0=_
      rw[aW,gg (by omega) (by omega)]
      congr 1
      omega
     have hx:=vG hb (n.toNat/8)
     have key:=ES ⟨(b.getD (n.toNat/8) 0).toNat,by omega⟩ ⟨n.toNat%8,Nat.mod_lt _ (by decide)⟩
     simp only at key
     rw[show(((b.getD (n.toNat/8) 0).toNat:Nat):Int)=b.getD (n.toNat/8) 0 from by omega] at key
     have e2:(aj.b .and .u8 (aj.n (.int .u8) b (aj.b .sub .i64 (b.length:Int) 1):Int) (aj.b .shr .u8 255 ((n.toNat%8:Nat):Int)) != 0)=!((List.range 8).all fun k=>decide (k<n.toNat%8) || !(b.getD (n.toNat/8) 0).toNat.testBit (7-k)):=by
      rw[←key]
      exact congrArg (fun z:Int=>(aj.b .and .u8 z (aj.b .shr .u8 255 ((n.toNat%8:Nat):Int)) != 0)) e
     refine Iff.trans (b:=((List.range 8).all fun k=>decide (k<n.toNat%8) || !(b.getD (n.toNat/8) 0).toNat.testBit (7-k))=true) ?_ ?_
     ·refine Iff.trans (b:=(bif !((List.range 8).all fun k=>decide (k<n.toNat%8) || !(b.getD (n.toNat/8) 0).toNat.testBit (7-k)) then(10:Int) else 0)=0) (by rw[←e2]) ?_
      cases (List.range 8).all fun k=>decide (k<n.toNat%8) || !(b.getD (n.toNat/8) 0).toNat.testBit (7-k)<;>simp
     ·rw[List.all_eq_true]
      constructor
      ·intro h
       refine⟨by omega,by omega,h2,hb,fun i h4 h5=>?_⟩
       have:=h (i%8) (List.mem_range.2 (Nat.mod_lt _ (by decide)))
       have hi:i/8=n.toNat/8:=by omega
       rw[fh,hi]
       simp only[Bool.or_eq_true,decide_eq_true_eq,Bool.not_eq_true'] at this
       rcases this with h6|h6
       ·omega
       ·exact h6
      ·intro ⟨_,_,_,_,h⟩ k hk
       have hk:=List.mem_range.1 hk
       by_cases h6:k<n.toNat%8
       ·simp[h6]
       ·have:=h (8*(n.toNat/8)+k) (by omega) (by omega)
        rw[fh,show(8*(n.toNat/8)+k)/8=n.toNat/8 from by omega,show(8*(n.toNat/8)+k)%8=k from by omega] at this
        rw[this];simp
   ·rw[show((b.length:Int) != (((n.toNat+7)/8:Nat):Int))=true from bne_iff_ne.2 (by omega),cond_true]
    constructor
    ·intro h;cases h
    ·intro h;exact absurd h.2.2.1 h2
theorem AO{x:Int×List Int}:jq x=0∨jq x=10:=by
 obtain⟨n,b⟩:=x
 exact LT.jl (p:=fun y=>y=0∨y=10) (.inl rfl) (by simp[Qf,LT.all])
theorem jW{n:Int}{b:List Int}(hb:bJ b)(hl:b.length≤140737488355328):jq (n,b)=bif bd (n,b) then 0 else 10:=by
 have h1:=Dx (n:=n) hb hl
 rw[←eB hb] at h1
 rcases AO (x:=(n,b)) with h2|h2
 ·rw[h2,h1.1 h2];rfl
 ·have:bd (n,b)=false:=by
   rw[←Bool.not_eq_true]
   intro h3
   rw[h1.2 h3] at h2
   cases h2
  rw[h2,this];rfl
theorem cn{i:Nat}(h:i<4611686018427387904):aj.b .add .i64 (i:Int) 1=((i+1:Nat):Int):=by
 rw[bi,gg (by omega) (by omega)];rfl
theorem eP{i j:Nat}(h:i+j<4611686018427387904):aj.b .add .i64 (i:Int) (j:Int)=((i+j:Nat):Int):=by
 rw[bi,gg (by omega) (by omega)];rfl
theorem aL{i j:Nat}:aj.c .lss (i:Int) (j:Int)=decide (i<j):=by
 rw[ao];exact decide_eq_decide.2 Int.ofNat_lt
theorem ji{i j:Nat}:aj.c .leq (i:Int) (j:Int)=decide (i≤j):=by
 rw[ar];exact decide_eq_decide.2 Int.ofNat_le
theorem gp{i:Nat}:aj.c .leq 0 (i:Int)=true:=by rw[ar];simp
theorem kV{i:Nat}(h:i≤4611686018427387904):aj.b .quo .i64 (i:Int) 8=((i/8:Nat):Int):=by
 rw[Bi (by omega) (by omega)];rfl
theorem tJ{i:Nat}:aj.b .rem .i64 (i:Int) 8=((i%8:Nat):Int):=by
 rw[Ap (by omega)];rfl
theorem nZ{u v:Int}(h:u=v):aj.c .eql u v=true:=by rw[aA,h];exact beq_self_eq_true _
theorem Aq{u v:Int}(h:u≠v):aj.c .eql u v=false:=by rw[aA];exact beq_eq_false_iff_ne.2 h
theorem bO{u v:Int}(h:u=v):aj.c .neq u v=false:=by rw[aG,h];exact bne_self_eq_false _
theorem dd{u v:Int}(h:u≠v):aj.c .neq u v=true:=by rw[aG];exact bne_iff_ne.2 h
open Go.Ev.Pl
def EN(A:a_)(b:List Int)(i:Int):LT Bool Empty:=.need (A.and (A.c .leq 0 (A.b .quo .i64 i 8)) (A.c .lss (A.b .quo .i64 i 8) (A.l b))) (.need (A.c .leq 0 (A.v .u64 (A.b .sub .i64 7 (A.b .rem .i64 i 8)))) (.ret (A.c .eql (A.b .rem .u8 (A.b .shr .u8 (A.n yU b (A.b .quo .i64 i 8):Int) (A.v .u64 (A.b .sub .i64 7 (A.b .rem .i64 i 8)))) 2) 1)))
def gk:(List Int×Int)→Bool:=fun(b,i)=>(EN aj b i).val (Ty.bF [.bool])
def h_:(List Int×Int)→Bool:=fun(b,i)=>decide (0≤i)&&decide (i<8*(b.length:Int))
def Uo:aC:=⟨[yB,yI], [.bool],h_,gk⟩
theorem BV:Sd 224 Uo:=aH ap cm true 26 [] (fun A (b,i)=>EN A b i) (fc Tryz.func224 fz) sz (fun((b,i):List Int×Int) hp h=>by
 show(EN aj b i).pre=true
 simp only[h_,Bool.and_eq_true,decide_eq_true_eq] at hp
 have hl:=H9 h
 simp only[EN,LT.pre,aN,ar,ao,Bool.and_eq_true,decide_eq_true_eq,bU,aU,Bool.and_true]
 rw[Bi hp.1 (by omega),Ap hp.1,aW,gg (by omega) (by omega),yY (by omega) (by omega)]
 refine⟨⟨by omega,by omega⟩,by omega⟩)
theorem Kk:∀c:Fin 256,∀k:Fin 8,(aj.b .rem .u8 (aj.b .shr .u8 (c.val:Int) (IntKind.u64.wrap (7-(k.val:Int)))) 2==1)=c.val.testBit (7-k.val):=by decide +kernel
theorem kH{b:List Int}{i:Int}(hb:bJ b)(h0:0≤i)(h1:i<4611686018427387904):gk (b,i)=fh b i.toNat:=by
 simp only[gk,EN,LT.val,aU]
 rw[Bi h0 (by omega),Ap h0,aW,gg (by omega) (by omega)]
 have hx:=vG hb (i.toNat/8)
 have key:=Kk ⟨(b.getD (i.toNat/8) 0).toNat,by omega⟩ ⟨i.toNat%8,Nat.mod_lt _ (by decide)⟩
 simp only at key
 rw[show(((b.getD (i.toNat/8) 0).toNat:Nat):Int)=b.getD (i.toNat/8) 0 from by omega] at key
 exact key
structure L3 where
 (a1:Int) (a2:List Int)
inductive X5 where
 | c0 (p:L3) (a0:Int)
noncomputable def Qr:X5→fJ
 | .c0 p a0=>⟨[⟨190,36,(en [(1,.ptr 0 0),(3,vi a0)]),[.inLoop (cw Tryz.f190 [1,1,0,1,0,0]),.inBlock 0,.code (cw Tryz.f190 [1,1,1])],[],none⟩],[.flat false [vi p.a1,.sl yU p.a2],.dead]⟩
def Yc(A:a_)(bN:Int)(bB:List Int):LT Int X5:=.br (A.c .lss bN 0) (.ret 10) (.br (A.c .gtr bN 4096) (.ret 10) (.br (A.c .neq (A.l bB) (A.b .quo .i64 (A.b .add .i64 bN 7) 8)) (.ret 10) (.more (.c0 ⟨bN,bB⟩ bN))))
def U9(A:a_):X5→LT Int X5
 | .c0 p a0=>.br (A.c .lss a0 (A.b .mul .i64 8 (A.l p.a2))) (.need (A.k h_ (p.a2,a0)) (.br (A.k gk (p.a2,a0)) (.ret 10) (.more (.c0 p (A.b .add .i64 a0 1))))) (.ret 0)
theorem J7{n:Nat}{b:List Int}(p:L3)(hp:p.a2=b)(hb:bJ b)(hl:b.length≤140737488355328):∀(j i:Nat),8*b.length-i=j→aF (U9 aj) (.more (.c0 p (i:Int))) (bif (List.range (8*b.length)).all (fun k=>decide (k<i) || !fh b k) then 0 else 10):=by
 subst hp
 intro j
 have hm:aj.b .mul .i64 8 (aj.l p.a2)=((8*p.a2.length:Nat):Int):=by
  show IntKind.i64.wrap (8*(p.a2.length:Int))=_
  rw[gg (by omega) (by omega)];omega
 induction j with
 | zero=>
   intro i hj
   rw[show((List.range (8*p.a2.length)).all fun k=>decide (k<i) || !fh p.a2 k)=true from by
    rw[List.all_eq_true];intro k hk;have:=List.mem_range.1 hk;simp;omega]
   simp only[al,U9,jY,hm,aL]
   rw[show decide (i<8*p.a2.length)=false from by simp;omega]
   exact .ret _
 | succ j ih=>
   intro i hj
   simp only[al,U9,jY,hm,aL]
   rw[show decide (i<8*p.a2.length)=true from by simp;omega]
   simp only[cond_true,af,ak]
   refine⟨by simp[h_];omega,?_⟩
   rw[kH hb (by omega) (by omega),Int.toNat_natCast,cn (by omega)]
   cases hbit:fh p.a2 i
   ·refine(ah rfl).2 ?_
    have:=ih (i+1) (by omega)
    have e:((List.range (8*p.a2.length)).all fun k=>decide (k<i) || !fh p.a2 k)=((List.range (8*p.a2.length)).all fun k=>decide (k<i+1) || !fh p.a2 k):=by
     rw[Bool.eq_iff_iff,List.all_eq_true,List.all_eq_true]
     constructor
     ·intro h k hk
      have:=h k hk
      simp at this ⊢
      rcases this with h1|h1
      ·exact .inl (by omega)
      ·exact .inr h1
     ·intro h k hk
      have:=h k hk
      simp at this ⊢
      by_cases hki:k=i
      ·subst hki;exact .inr hbit
      ·rcases this with h1|h1
       ·exact .inl (by omega)
       ·exact .inr h1
    rw[e]
    exact this
   ·refine(ai rfl).2 ?_
    rw[show((List.range (8*p.a2.length)).all fun k=>decide (k<i) || !fh p.a2 k)=false from by
     rw[List.all_eq_false];exact⟨i,List.mem_range.2 (by omega),by simp[hbit]⟩]
    exact .ret _
theorem NK{n:Int}{b:List Int}(h:Ty.cY [(.struct [(.int .i64),(.slice (.int .u8))])] (n,b)):aF (U9 aj) (Yc aj n b) (bif bd (n,b) then 0 else 10):=by
 have hb:=(dh h).2.2
 have hl:=cK h
 have hn:=(dh h).1
 unfold Yc
 rw[bd]
 by_cases h0:n<0
 ·refine(ai (by simpa [ao] using h0)).2 ?_
  rw[show decide (0≤n)=false from by simp;omega]
  exact .ret _
 ·refine(ah (by simpa [ao] using h0)).2 ?_
  by_cases h1:4096<n
  ·refine(ai (by simpa [ay] using h1)).2 ?_
   rw[show decide (n≤4096)=false from by simp;omega,Bool.and_false]
   exact .ret _
  ·refine(ah (by simpa [ay] using h1)).2 ?_
   rw[show decide (0≤n)=true from by simp;omega,show decide (n≤4096)=true from by simp;omega,bi,gg (by omega) (by omega),Bi (by omega) (by omega),show(n+7).toNat/8=(n.toNat+7)/8 from by omega]
   by_cases h2:b.length=(n.toNat+7)/8
   ·refine(ah (bO (show(b.length:Int)=_ by rw[h2]))).2 ?_
    rw[show(b.length==(n.toNat+7)/8)=true from by simpa using h2]
    have:=J7 (n:=n.toNat) ⟨n,b⟩ rfl hb hl (8*b.length-n.toNat) n.toNat rfl
    rw[show((n.toNat:Nat):Int)=n from by omega] at this
    exact this
   ·refine(ai (dd (show(b.length:Int)≠_ by omega))).2 ?_
    rw[show(b.length==(n.toNat+7)/8)=false from by simpa using h2]
    simp only[Bool.and_false,Bool.false_and,cond_false]
    exact .ret _
def ei:((Int×List Int))→Int:=fun x=>bif bd x then 0 else 10
def aax:aC:=⟨[(.struct [yI,yB])], [yI],(@tt ((Int×List Int))),ei⟩
theorem yx:Sd 190 aax:=aK ap cm true 44 [⟨190,4, [[1,3]]⟩] [] (fun A (bN,bB)=>Yc A bN bB) U9 Qr (fc Tryz.func190 fz) (sc BV sz) (fun A y=>match y with |.c0 p a0=>⟨35,by kernel_rfl,by kernel_rfl⟩) fun(bN,bB) hp h=>NK h
open Go.Ev.Pl
structure Po where
 (a0 a1:Int) (a2:List Int)
structure FT where
 (b1:Int) (b2:List Int)
inductive DV where
 | c0 (p:Po)
 | c1 (p:FT) (b0:Int) (b3:List Bool)
noncomputable def Ni:DV→fJ
 | .c0 p=>⟨[⟨191,22,(en [(1,.ptr 0 0),(3,.bZ true),(4,vi p.a0)]),[.inLoop (cw Tryz.f191 [1,1,1,0,1,0,0]),.inBlock 0,.code (cw Tryz.f191 [1,1,1,1])],[],none⟩],[.flat false [vi p.a1,.sl yU p.a2],.dead]⟩
 | .c1 p b0 b3=>⟨[⟨191,22,(en [(1,.ptr 0 0),(3,.own 1),(4,vi b0)]),[.inLoop (cw Tryz.f191 [1,1,1,0,1,0,0]),.inBlock 0,.code (cw Tryz.f191 [1,1,1,1])],[],none⟩],[.flat false [vi p.b1,.sl yU p.b2],.arr false .bool b3,.dead]⟩
def t127(A:a_)(bN:Int)(bB:List Int):LT (List Bool) DV:=.need (A.k (@tt ((Int×List Int))) (bN,bB)) (.br (A.c .neq (A.k ei (bN,bB)) 0) (.ret ([]:List Bool)) (.more (.c0 ⟨0,bN,bB⟩)))
def AF(A:a_):DV→LT (List Bool) DV
 | .c0 p=>.br (A.c .lss p.a0 p.a1) (.need (A.k h_ (p.a2,p.a0)) (.need (A.c .leq (A.l ([(A.k gk (p.a2,p.a0))]:List Bool)) 140737488355328) (.more (.c1 ⟨p.a1,p.a2⟩ (A.b .add .i64 p.a0 1) [(A.k gk (p.a2,p.a0))])))) (.ret ([]:List Bool))
 | .c1 p b0 b3=>.br (A.c .lss b0 p.b1) (.need (A.k h_ (p.b2,b0)) (.need (A.c .leq (A.l (A.p b3 [(A.k gk (p.b2,b0))])) 140737488355328) (.more (.c1 p (A.b .add .i64 b0 1) (A.p b3 [(A.k gk (p.b2,b0))]))))) (.ret b3)
theorem aX{R Y:Type}{step:Y→LT R Y}{t t':LT R Y}{r:R}(h:t=t')(h2:aF step t' r):aF step t r:=h▸h2
theorem Dn{n:Nat}{b:List Int}(hb:bJ b)(hl:b.length≤140737488355328)(hn:n≤4096)(hok:n≤8*b.length):∀(j i:Nat) (p:FT),p.b1=(n:Int)→p.b2=b→n-i=j→i≤n→aF (AF aj) (.more (.c1 p (i:Int) (unpack i b))) (unpack n b):=by
 intro j
 induction j with
 | zero=>
   intro i p h1 h2 hj hi
   have:i=n:=by omega
   subst this
   simp only[al,AF,jY,h1,aL]
   rw[show decide (i<i)=false from by simp]
   exact .ret _
 | succ j ih=>
   intro i p h1 h2 hj hi
   simp only[al,AF]
   refine(ai (by rw[h1,aL];simp;omega)).2 (af.2 ⟨?_,af.2 ⟨?_,?_⟩⟩)
   ·rw[h2,ak];simp[h_];omega
   ·show decide (((unpack i b ++ [_]).length:Int)≤140737488355328)=true
    rw[List.length_append,aR]
    simp;omega
   ·have e:(aj.p (unpack i b) [(aj.k gk (p.b2,(i:Int)))]:List Bool)=unpack (i+1) b:=by
     show unpack i b ++ [gk (p.b2,(i:Int))]=_
     rw[h2,kH hb (by omega) (by omega),rC,Int.toNat_natCast]
    exact aX (congrArg LT.more (congr (congrArg (DV.c1 p) (cn (by omega))) e)) (ih (i+1) p h1 h2 (by omega) (by omega))
theorem Sx{n:Int}{b:List Int}(h:Ty.cY [(.struct [(.int .i64),(.slice (.int .u8))])] (n,b)):aF (AF aj) (t127 aj n b) (bif bd (n,b) then aY (n,b) else[]):=by
 have hb:=(dh h).2.2
 have hl:=cK h
 unfold t127
 refine af.2 ⟨rfl,?_⟩
 cases hok:bd (n,b)
 ·refine(ai (show(ei (n,b) != 0)=true by rw[ei,hok];rfl)).2 ?_
  exact .ret _
 ·refine(ah (show(ei (n,b) != 0)=false by rw[ei,hok];rfl)).2 ?_
  obtain⟨h1,h2,h3⟩:=(eB hb).1 hok
  have h4:=h3.1
  rw[cond_true]
  simp only[al,AF]
  show aF (AF aj) _ (unpack n.toNat b)
  by_cases h0:0<n
  ·refine(ai (by rw[ao];simpa using h0)).2 (af.2 ⟨?_,af.2 ⟨rfl,?_⟩⟩)
   ·rw[ak];simp[h_];omega
   ·have e:([(aj.k gk (b,(0:Int)))]:List Bool)=unpack 1 b:=by
     show[gk (b,(0:Int))]=_
     rw[kH hb (by omega) (by omega)];rfl
    refine aX (congrArg LT.more (congr (congrArg (DV.c1 ⟨n,b⟩) (cn (i:=0) (by omega))) e)) ?_
    exact Dn hb hl (by omega) (by omega) (n.toNat-1) 1 ⟨n,b⟩ (by show n=_;omega) rfl (by omega) (by omega)
  ·refine(ah (by rw[ao];simp;omega)).2 ?_
   rw[show n.toNat=0 from by omega]
   exact .ret _
def gJ:((Int×List Int))→(List Bool):=fun x=>bif bd x then aY x else[]
def Ta:aC:=⟨[(.struct [yI,yB])], [(.slice .bool)],(@tt ((Int×List Int))),gJ⟩
theorem Hy:Sd 191 Ta:=aK ap cm true 31 [⟨191,5, [[1,3,4]]⟩] [] (fun A (bN,bB)=>t127 A bN bB) AF Ni (fc Tryz.func191 fz) (sc yx (sc BV sz)) (fun A y=>match y with |.c0 p=>⟨34,by kernel_rfl,by kernel_rfl⟩|.c1 p b0 b3=>⟨34,by kernel_rfl,by kernel_rfl⟩) fun(bN,bB) hp h=>Sx h
structure G2 where
 (a0:List Bool) (a2 a3:Int)
inductive D1 where
 | c0 (p:G2) (a1:Int) (a4:List Int)
noncomputable def NB:D1→fJ
 | .c0 p a1 a4=>⟨[⟨192,42,(en [(0,.sl .bool p.a0),(2,.ptr 0 0),(4,.ptr 1 0),(5,vi a1)]),[.inLoop (cw Tryz.f192 [1,1,1,0,1,0,0]),.inBlock 0,.code (cw Tryz.f192 [1,1,1,1])],[],none⟩],[.flat false [vi p.a2,.bZ true],.flat false [vi p.a3,.own 2],.arr false yU a4,.dead]⟩
def PH(A:a_)(l:List Bool):LT ((Int×List Int)×Int) D1:=.br (A.c .gtr (A.l l) 4096) (.ret ((0,([]:List Int)),3)) (.need (A.and (A.c .eql (A.b .quo .i64 (A.b .add .i64 (A.l l) 7) 8) (A.b .quo .i64 (A.b .add .i64 (A.l l) 7) 8)) (A.and (A.c .leq 0 (A.b .quo .i64 (A.b .add .i64 (A.l l) 7) 8)) (A.c .leq (A.b .quo .i64 (A.b .add .i64 (A.l l) 7) 8) 140737488355328))) (.more (.c0 ⟨l,0,(A.l l)⟩ 0 (A.r (A.b .quo .i64 (A.b .add .i64 (A.l l) 7) 8) (0:Int)))))
def E_(A:a_):D1→LT ((Int×List Int)×Int) D1
 | .c0 p a1 a4=>.br (A.c .lss a1 (A.l p.a0)) (.need (A.and (A.c .leq 0 a1) (A.c .lss a1 (A.l p.a0))) (.br (A.n .bool p.a0 a1:Bool) (.need (A.and (A.c .leq 0 (A.b .quo .i64 a1 8)) (A.c .lss (A.b .quo .i64 a1 8) (A.l a4))) (.need (A.c .leq 0 (A.v .u64 (A.b .sub .i64 7 (A.b .rem .i64 a1 8)))) (.need (A.and (A.c .leq 0 (A.b .quo .i64 a1 8)) (A.c .lss (A.b .quo .i64 a1 8) (A.l a4))) (.more (.c0 p (A.b .add .i64 a1 1) (A.set a4 (A.b .quo .i64 a1 8) (A.b .or .u8 (A.n yU a4 (A.b .quo .i64 a1 8):Int) (A.b .shl .u8 1 (A.v .u64 (A.b .sub .i64 7 (A.b .rem .i64 a1 8))))))))))) (.more (.c0 p (A.b .add .i64 a1 1) a4)))) (.ret ((p.a3,a4),0))
theorem JD:∀c:Fin 256,∀k:Fin 8,aj.b .or .u8 (c.val:Int) (aj.b .shl .u8 1 (IntKind.u64.wrap (7-(k.val:Int))))=((c.val ||| 128 >>> k.val:Nat):Int):=by decide +kernel
theorem Km:∀c:Fin 256,∀k:Fin 8,aj.b .or .u8 (c.val:Int) ((128 >>> k.val:Nat):Int)=((c.val ||| 128 >>> k.val:Nat):Int):=by decide +kernel
theorem Lj{B:List Int}{l:List Bool}{m i:Nat}(h:Holds B l m)(hi:l.length=i)(h1:i<8*m)(hm:m≤100000) :
  Holds (aj.set B (aj.b .quo .i64 (i:Int) 8) (aj.b .or .u8 (aj.n (.int .u8) B (aj.b .quo .i64 (i:Int) 8):Int) (aj.b .shl .u8 1 (aj.v .u64 (aj.b .sub .i64 7 (aj.b .rem .i64 (i:Int) 8)))))) (l ++ [true]) m:=by
 rw[kV (by omega),tJ,aW,gg (by omega) (by omega),aU]
 have key:=JD ⟨(B.getD (i/8) 0).toNat,pU h.2.1 _⟩ ⟨i%8,Nat.mod_lt _ (by decide)⟩
 simp only at key
 rw[show(((B.getD (i/8) 0).toNat:Nat):Int)=B.getD (i/8) 0 from Int.toNat_of_nonneg (vG h.2.1 _).1] at key
 have:=h.set (by omega)
 rw[hi] at this
 rw[←key] at this
 exact this
theorem zl{B:List Int}{l:List Bool}{m i:Nat}(h:Holds B l m)(hi:l.length=i)(h1:i<8*m)(hm:m≤100000) :
  Holds (aj.set B (aj.b .quo .i64 (i:Int) 8) (aj.b .or .u8 (aj.n (.int .u8) B (aj.b .quo .i64 (i:Int) 8):Int) (aj.k uR (i:Int)))) (l ++ [true]) m:=by
 rw[kV (by omega),ak,zq (by omega),Int.toNat_natCast]
 have key:=Km ⟨(B.getD (i/8) 0).toNat,pU h.2.1 _⟩ ⟨i%8,Nat.mod_lt _ (by decide)⟩
 simp only at key
 rw[show(((B.getD (i/8) 0).toNat:Nat):Int)=B.getD (i/8) 0 from Int.toNat_of_nonneg (vG h.2.1 _).1] at key
 have:=h.set (by omega)
 rw[hi] at this
 rw[←key] at this
 exact this
theorem nJ{l:List Bool}{i:Nat}(h:i<l.length):l.take (i+1)=l.take i ++ [l.getD i false]:=by
 rw[List.take_succ_eq_append_getElem h,List.getD_eq_getElem?_getD,List.getElem?_eq_getElem h];rfl
theorem Jq{l:List Bool}(hl:l.length≤4096):∀(j i:Nat) (p:G2) (B:List Int),p.a0=l→p.a3=(l.length:Int)→l.length-i=j→i≤l.length→Holds B (l.take i) ((l.length+7)/8)→aF (E_ aj) (.more (.c0 p (i:Int) B)) (bq l,0):=by
 intro j
 induction j with
 | zero=>
   intro i p B h1 h2 hj hi hB
   have:i=l.length:=by omega
   subst this
   simp only[al,E_]
   have hlen:aj.l p.a0=(l.length:Int):=by rw[h1];rfl
   refine(ah (by rw[hlen,aL];simp)).2 ?_
   rw[List.take_length] at hB
   rw[h2,hB.done rfl]
   exact .ret _
 | succ j ih=>
   intro i p B h1 h2 hj hi hB
   simp only[al,E_]
   have hlen:aj.l p.a0=(l.length:Int):=by rw[h1];rfl
   have hlb:aj.l B=(((l.length+7)/8:Nat):Int):=by rw[←hB.1];rfl
   have hq:(aj.and (aj.c .leq 0 (aj.b .quo .i64 (i:Int) 8)) (aj.c .lss (aj.b .quo .i64 (i:Int) 8) (aj.l B)))=true:=by
    rw[kV (by omega),hlb,gp,aL,aN];simp;omega
   have htl:(l.take i).length=i:=by rw[List.length_take];omega
   refine(ai (by rw[hlen,aL];simp;omega)).2 (af.2 ⟨by rw[gp,hlen,aL,aN];simp;omega,?_⟩)
   have hb:(aj.n .bool p.a0 (i:Int):Bool)=l.getD i false:=by
    show p.a0.getD (i:Int).toNat false=_
    rw[h1,Int.toNat_natCast]
   have hts:=nJ (l:=l) (i:=i) (by omega)
   cases hx:l.getD i false
   ·rw[hx] at hts
    refine(ah (hb.trans hx)).2 ?_
    exact aX (congrArg LT.more (congr (congrArg (D1.c0 p) (cn (by omega))) rfl)) (ih (i+1) p B h1 h2 (by omega) (by omega) (hts▸hB.skip))
   ·rw[hx] at hts
    refine(ai (hb.trans hx)).2 (af.2 ⟨hq,af.2 ⟨?_,af.2 ⟨hq,?_⟩⟩⟩)
    ·rw[tJ,aW,gg (by omega) (by omega),aU,yY (by omega) (by omega),ar];simp;omega
    ·exact aX (congrArg LT.more (congr (congrArg (D1.c0 p) (cn (by omega))) rfl)) (ih (i+1) p _ h1 h2 (by omega) (by omega) (hts▸Lj hB htl (by omega) (by omega)))
theorem of1{l:List Bool}:aF (E_ aj) (PH aj l) (vK l):=by
 unfold PH
 have hlen:aj.l l=(l.length:Int):=rfl
 rw[vK]
 by_cases hl:4096<l.length
 ·refine(ai (by rw[hlen,ay];simp;omega)).2 ?_
  rw[show decide (4096<l.length)=true from by simpa using hl]
  exact .ret _
 ·have hq:aj.b .quo .i64 (aj.b .add .i64 (aj.l l) 7) 8=(((l.length+7)/8:Nat):Int):=by
   rw[hlen,show aj.b .add .i64 (l.length:Int) 7=((l.length+7:Nat):Int) from eP (j:=7) (by omega),kV (by omega)]
  refine(ah (by rw[hlen,ay];simp;omega)).2 (af.2 ⟨?_,?_⟩)
  ·rw[hq,gp,nZ rfl,ar,aN,aN];simp;omega
  ·rw[show decide (4096<l.length)=false from by simpa using hl]
   refine Jq (by omega) l.length 0 _ _ rfl rfl (by omega) (by omega) ?_
   rw[hq,nO,Int.toNat_natCast]
   exact Holds.blank _
def mI:(List Bool)→((Int×List Int)×Int):=vK
def V5:aC:=⟨[(.slice .bool)], [(.struct [yI,yB]),yI],(@tt (List Bool)),mI⟩
theorem Gi:Sd 192 V5:=aK ap cm true 40 [⟨192,5, [[0,2,4,5]]⟩] [] (fun A l=>PH A l) E_ NB (fc Tryz.func192 fz) sz (fun A y=>match y with |.c0 p a1 a4=>⟨48,by kernel_rfl,by kernel_rfl⟩) fun l hp h=>of1
open Go.Ev.Pl
structure Fi where
 (a0 a1 a2:Int)
structure G0 where
 (b0 b1 b2 b3:Int) (b4:List Int) (b5:Int)
structure Gl where
 (c0 c2:Int)
structure GD where
 (d1 d2 d3:Int) (d4:List Int) (d6:Int)
inductive z7 where
 | c0 (p:Fi)
 | c1 (p:G0)
 | c2 (p:Gl) (c1:Int) (c3:List Bool)
 | c3 (p:GD) (d0:Int) (d5:List Bool)
noncomputable def Ny:z7→fJ
 | .c0 p=>⟨[⟨188,53,(en [(1,.int .u64 false p.a0),(6,.ptr 0 0),(8,.bZ true),(9,vi p.a1)]),[.inLoop (cw Tryz.f188 [1,1,1,1,0,1,0,0]),.inBlock 0,.code (cw Tryz.f188 [1,1,1,1,1])],[],none⟩],[.flat false [vi p.a2,.bZ true],.dead]⟩
 | .c1 p=>⟨[⟨191,22,(en [(1,.ptr 0 0),(3,.bZ true),(4,vi p.b0)]),[.inLoop (cw Tryz.f191 [1,1,1,0,1,0,0]),.inBlock 0,.code (cw Tryz.f191 [1,1,1,1])],[],none⟩,⟨188,53,(en [(1,.int .u64 false p.b1),(2,vi p.b2),(6,.ptr 1 0)]),[.ops (ow Tryz.f188 [1,1,1,0]) ((ow Tryz.f188 [1,1,1,0]).toList.drop 1),.code (cw Tryz.f188 [1,1,1,1])],[],none⟩],[.flat false [vi p.b3,.sl yU p.b4],.flat false [vi p.b5,.bZ true],.dead]⟩
 | .c2 p c1 c3=>⟨[⟨188,53,(en [(1,.int .u64 false p.c0),(6,.ptr 0 0),(8,.own 1),(9,vi c1)]),[.inLoop (cw Tryz.f188 [1,1,1,1,0,1,0,0]),.inBlock 0,.code (cw Tryz.f188 [1,1,1,1,1])],[],none⟩],[.flat false [vi p.c2,.bZ true],.arr false .bool c3,.dead]⟩
 | .c3 p d0 d5=>⟨[⟨191,22,(en [(1,.ptr 0 0),(3,.own 1),(4,vi d0)]),[.inLoop (cw Tryz.f191 [1,1,1,0,1,0,0]),.inBlock 0,.code (cw Tryz.f191 [1,1,1,1])],[],none⟩,⟨188,53,(en [(1,.int .u64 false p.d1),(2,vi p.d2),(6,.ptr 2 0)]),[.ops (ow Tryz.f188 [1,1,1,0]) ((ow Tryz.f188 [1,1,1,0]).toList.drop 1),.code (cw Tryz.f188 [1,1,1,1])],[],none⟩],[.flat false [vi p.d3,.sl yU p.d4],.arr false .bool d5,.flat false [vi p.d6,.bZ true],.dead]⟩
def Oq(A:a_)(bN:Int)(bB:List Int)(v:Int)(width:Int):LT ((Int×List Int)×Int) z7:=.need (A.k (@tt ((Int×List Int))) (bN,bB)) (.br (A.c .neq (A.k ei (bN,bB)) 0) (.ret ((0,([]:List Int)),10)) (.br (A.c .lss width 0) (.ret ((0,([]:List Int)),2)) (.br (A.c .gtr width 64) (.ret ((0,([]:List Int)),2)) (.br (A.c .lss width 64) (.need (A.c .leq 0 (A.v .u64 width)) (.br (A.c .neq (A.b .shr .u64 v (A.v .u64 width)) 0) (.ret ((0,([]:List Int)),2)) (.need (A.k (@tt ((Int×List Int))) (bN,bB)) (.br (A.c .neq (A.k ei (bN,bB)) 0) (.more (.c0 ⟨v,(A.b .sub .i64 width 1),0⟩)) (.more (.c1 ⟨0,v,width,bN,bB,0⟩)))))) (.need (A.k (@tt ((Int×List Int))) (bN,bB)) (.br (A.c .neq (A.k ei (bN,bB)) 0) (.more (.c0 ⟨v,(A.b .sub .i64 width 1),0⟩)) (.more (.c1 ⟨0,v,width,bN,bB,0⟩))))))))
def pQ(A:a_):z7→LT ((Int×List Int)×Int) z7
 | .c0 p=>.br (A.c .geq p.a1 0) (.need (A.c .leq 0 (A.v .u64 p.a1)) (.need (A.c .leq (A.l ([(A.c .eql (A.b .rem .u64 (A.b .shr .u64 p.a0 (A.v .u64 p.a1)) 2) 1)]:List Bool)) 140737488355328) (.more (.c2 ⟨p.a0,p.a2⟩ (A.b .sub .i64 p.a1 1) [(A.c .eql (A.b .rem .u64 (A.b .shr .u64 p.a0 (A.v .u64 p.a1)) 2) 1)])))) (.need (A.k (@tt (List Bool)) ([]:List Bool)) (.ret (A.k mI ([]:List Bool))))
 | .c1 p=>.br (A.c .lss p.b0 p.b3) (.need (A.k h_ (p.b4,p.b0)) (.need (A.c .leq (A.l ([(A.k gk (p.b4,p.b0))]:List Bool)) 140737488355328) (.more (.c3 ⟨p.b1,p.b2,p.b3,p.b4,p.b5⟩ (A.b .add .i64 p.b0 1) [(A.k gk (p.b4,p.b0))])))) (.more (.c0 ⟨p.b1,(A.b .sub .i64 p.b2 1),p.b5⟩))
 | .c2 p c1 c3=>.br (A.c .geq c1 0) (.need (A.c .leq 0 (A.v .u64 c1)) (.need (A.c .leq (A.l (A.p c3 [(A.c .eql (A.b .rem .u64 (A.b .shr .u64 p.c0 (A.v .u64 c1)) 2) 1)])) 140737488355328) (.more (.c2 p (A.b .sub .i64 c1 1) (A.p c3 [(A.c .eql (A.b .rem .u64 (A.b .shr .u64 p.c0 (A.v .u64 c1)) 2) 1)]))))) (.need (A.k (@tt (List Bool)) c3) (.ret (A.k mI c3)))
 | .c3 p d0 d5=>.br (A.c .lss d0 p.d3) (.need (A.k h_ (p.d4,d0)) (.need (A.c .leq (A.l (A.p d5 [(A.k gk (p.d4,d0))])) 140737488355328) (.more (.c3 p (A.b .add .i64 d0 1) (A.p d5 [(A.k gk (p.d4,d0))]))))) (.more (.c2 ⟨p.d1,p.d6⟩ (A.b .sub .i64 p.d2 1) d5))
theorem Cz{a:Int}{n:Nat}(h:0≤a)(hn:n≤64):aj.b .shr .u64 a (n:Int)=((a.toNat/2^n:Nat):Int):=by
 show a.fdiv (2^min (n:Int).toNat 64)=_
 obtain⟨m,rfl⟩:=Int.eq_ofNat_of_zero_le h
 rw[Int.toNat_natCast,Nat.min_eq_left hn,Int.fdiv_eq_ediv_of_nonneg _ (Int.pow_nonneg (by decide))]
 simp
theorem FM{a:Int}{n:Nat}(h:0≤a)(hn:n≤32):aj.b .shr .u32 a (n:Int)=((a.toNat/2^n:Nat):Int):=by
 show a.fdiv (2^min (n:Int).toNat 32)=_
 obtain⟨m,rfl⟩:=Int.eq_ofNat_of_zero_le h
 rw[Int.toNat_natCast,Nat.min_eq_left hn,Int.fdiv_eq_ediv_of_nonneg _ (Int.pow_nonneg (by decide))]
 simp
theorem dI{n:Nat}(h:n<4611686018427387904):aj.v .u64 (n:Int)=(n:Int):=by rw[aU,yY (by omega) (by omega)]
theorem yT{k:IntKind}{m:Nat}:aj.c .eql (aj.b .rem k (m:Int) 2) 1=decide (m%2=1):=by
 show((m:Int).tmod 2==1)=_
 rw[Int.tmod_eq_emod_of_nonneg (by omega),Bool.eq_iff_iff]
 simp only[beq_iff_eq,decide_eq_true_eq]
 omega
theorem BU{v:Int}{k:Nat}(h:0≤v)(hk:k≤64):aj.c .eql (aj.b .rem .u64 (aj.b .shr .u64 v (aj.v .u64 (k:Int))) 2) 1=v.toNat.testBit k:=by
 rw[dI (by omega),Cz h hk,yT,Nat.testBit_eq_decide_div_mod_eq]
theorem FE{m:Nat}:aj.c .eql (aj.b .and .u64 (m:Int) 1) 1=decide (m%2=1):=by
 show(IntKind.u64.wrap ((BitVec.ofInt 64 (m:Int) &&& BitVec.ofInt 64 1).toNat:Int)==1)=_
 rw[BitVec.ofInt_natCast,show BitVec.ofInt 64 1=BitVec.ofNat 64 1 from rfl,BitVec.toNat_and,BitVec.toNat_ofNat,BitVec.toNat_ofNat,show 1%2^64=1 from rfl,Nat.and_one_is_mod,yY (by omega) (by omega),Bool.eq_iff_iff]
 simp only[beq_iff_eq,decide_eq_true_eq]
 omega
theorem Ep{v:Int}{k:Nat}(h:0≤v)(hk:k≤64):aj.c .eql (aj.b .and .u64 (aj.b .shr .u64 v (k:Int)) 1) 1=v.toNat.testBit k:=by
 rw[Cz h hk,FE,Nat.testBit_eq_decide_div_mod_eq]
theorem jX{i j:Nat}(h:j≤i)(hi:i<4611686018427387904):aj.b .sub .i64 (i:Int) (j:Int)=((i-j:Nat):Int):=by
 rw[aW,gg (by omega) (by omega)];omega
theorem rY(v k:Nat):bitsOf v (k+1)=v.testBit k::bitsOf v k:=by
 rw[bitsOf,List.range_succ_eq_map,List.map_cons,List.map_map]
 congr 1
 apply List.map_congr_left
 intro a _
 show v.testBit (k+1-1-(a+1))=v.testBit (k-1-a)
 congr 1;omega
theorem tO{v:Int}{w:Nat}(h:0≤v):decide ((2:Int)^w≤v)=(((v.toNat/2^w:Nat):Int) != 0):=by
 obtain⟨m,rfl⟩:=Int.eq_ofNat_of_zero_le h
 rw[Int.toNat_natCast,Bool.eq_iff_iff]
 have h2:(2:Int)^w=((2^w:Nat):Int):=by simp
 rw[h2,decide_eq_true_eq,bne_iff_ne]
 have hp:=Nat.two_pow_pos w
 constructor
 ·intro h3
  have:1≤m/2^w:=(Nat.le_div_iff_mul_le hp).2 (by omega)
  omega
 ·intro h3
  have:1≤m/2^w:=Nat.pos_of_ne_zero fun h=>h3 (by rw[h];rfl)
  have:=(Nat.le_div_iff_mul_le hp).1 this
  omega
theorem CL{n v w:Int}{b:List Int}(h:Ty.cY [(.struct [(.int .i64),(.slice (.int .u8))]),(.int .u64),(.int .i64)] ((n,b),v,w)):Ty.has (.struct [(.int .i64),(.slice (.int .u8))]) (n,b)∧(0≤v∧v≤18446744073709551615)∧(-9223372036854775808≤w∧w≤9223372036854775807):=h
theorem G6{v:Int}(hv:0≤v):∀(k:Nat) (c1:Int) (c3:List Bool) (p:Gl),p.c0=v→c1=(k:Int)-1→k≤64→c3.length+k≤4200→aF (pQ aj) (.more (.c2 p c1 c3)) (vK (c3++bitsOf v.toNat k)):=by
 intro k
 induction k with
 | zero=>
   intro c1 c3 p h1 h2 _ _
   simp only[al,pQ]
   refine(ah (by rw[aJ,h2];decide)).2 (af.2 ⟨rfl,?_⟩)
   rw[show bitsOf v.toNat 0=[] from rfl,List.append_nil]
   exact .ret _
 | succ k ih=>
   intro c1 c3 p h1 h2 hk hl
   have h3:c1=(k:Int):=by omega
   subst h3
   simp only[al,pQ]
   refine(ai (by rw[aJ];simp)).2 (af.2 ⟨by rw[dI (by omega),gp],af.2 ⟨?_,?_⟩⟩)
   ·show decide (((c3 ++ [_]).length:Int)≤140737488355328)=true
    rw[List.length_append];simp;omega
   ·have e:(aj.p c3 [(aj.c .eql (aj.b .rem .u64 (aj.b .shr .u64 p.c0 (aj.v .u64 (k:Int))) 2) 1)]:List Bool)=c3 ++ [v.toNat.testBit k]:=by
     show c3 ++ [_]=_
     rw[h1,BU hv (by omega)]
    have:=ih ((k:Int)-1) (c3 ++ [v.toNat.testBit k]) p h1 rfl (by omega) (by rw[List.length_append];simp;omega)
    rw[List.append_assoc,show[v.toNat.testBit k]++bitsOf v.toNat k=bitsOf v.toNat (k+1) from by rw[rY];rfl] at this
    exact aX (congrArg LT.more (congr (congrArg (z7.c2 p) (show aj.b .sub .i64 (k:Int) 1=(k:Int)-1 by rw[aW,gg (by omega) (by omega)])) e)) this
theorem Ph{v:Int}(hv:0≤v){k:Nat}(p:Fi)(h1:p.a0=v)(h2:p.a1=(k:Int)-1)(hk:k≤64):aF (pQ aj) (.more (.c0 p)) (vK (bitsOf v.toNat k)):=by
 cases k with
 | zero=>
   simp only[al,pQ]
   refine(ah (by rw[aJ,h2];decide)).2 (af.2 ⟨rfl,?_⟩)
   exact .ret _
 | succ k=>
   have h3:p.a1=(k:Int):=by omega
   simp only[al,pQ,h3]
   refine(ai (by rw[aJ];simp)).2 (af.2 ⟨by rw[dI (by omega),gp],af.2 ⟨rfl,?_⟩⟩)
   have e:([(aj.c .eql (aj.b .rem .u64 (aj.b .shr .u64 p.a0 (aj.v .u64 (k:Int))) 2) 1)]:List Bool)=[v.toNat.testBit k]:=by
    rw[h1,BU hv (by omega)]
   have:=G6 hv k ((k:Int)-1) [v.toNat.testBit k] ⟨p.a0,p.a2⟩ h1 rfl (by omega) (by simp;omega)
   rw[show[v.toNat.testBit k]++bitsOf v.toNat k=bitsOf v.toNat (k+1) from by rw[rY];rfl] at this
   exact aX (congrArg LT.more (congr (congrArg (z7.c2 ⟨p.a0,p.a2⟩) (show aj.b .sub .i64 (k:Int) 1=(k:Int)-1 by rw[aW,gg (by omega) (by omega)])) e)) this
theorem Oa{v:Int}{n w:Nat}{b:List Int}(hv:0≤v)(hb:bJ b)(hl:b.length≤140737488355328)(hn:n≤4096)(hw:w≤64)(hok:n≤8*b.length):∀(j i:Nat) (p:GD),p.d1=v→p.d2=(w:Int)→p.d3=(n:Int)→p.d4=b→n-i=j→i≤n→aF (pQ aj) (.more (.c3 p (i:Int) (unpack i b))) (vK (unpack n b++bitsOf v.toNat w)):=by
 intro j
 induction j with
 | zero=>
   intro i p h1 h2 h3 h4 hj hi
   have:i=n:=by omega
   subst this
   simp only[al,pQ]
   refine(ah (by rw[h3,aL];simp)).2 ?_
   rw[h2,aW,gg (by omega) (by omega)]
   exact G6 hv w _ _ _ h1 rfl hw (by rw[aR];omega)
 | succ j ih=>
   intro i p h1 h2 h3 h4 hj hi
   simp only[al,pQ]
   refine(ai (by rw[h3,aL];simp;omega)).2 (af.2 ⟨?_,af.2 ⟨?_,?_⟩⟩)
   ·rw[h4,ak];simp[h_];omega
   ·show decide (((unpack i b ++ [_]).length:Int)≤140737488355328)=true
    rw[List.length_append,aR]
    simp;omega
   ·have e:(aj.p (unpack i b) [(aj.k gk (p.d4,(i:Int)))]:List Bool)=unpack (i+1) b:=by
     show unpack i b ++ [gk (p.d4,(i:Int))]=_
     rw[h4,kH hb (by omega) (by omega),rC,Int.toNat_natCast]
    exact aX (congrArg LT.more (congr (congrArg (z7.c3 p) (cn (by omega))) e)) (ih (i+1) p h1 h2 h3 h4 (by omega) (by omega))
theorem M2{v:Int}{n w:Nat}{b:List Int}(hv:0≤v)(hb:bJ b)(hl:b.length≤140737488355328)(hn:n≤4096)(hw:w≤64)(hok:n≤8*b.length)(p:G0)(h0:p.b0=0)(h1:p.b1=v)(h2:p.b2=(w:Int))(h3:p.b3=(n:Int))(h4:p.b4=b):aF (pQ aj) (.more (.c1 p)) (vK (unpack n b++bitsOf v.toNat w)):=by
 simp only[al,pQ,h0]
 by_cases hz:n=0
 ·refine(ah (by rw[h3,hz];rfl)).2 ?_
  rw[hz]
  exact Ph hv _ h1 (by show aj.b .sub .i64 p.b2 1=_;rw[h2,aW,gg (by omega) (by omega)]) hw
 ·refine(ai (by rw[h3,ao];simp;omega)).2 (af.2 ⟨?_,af.2 ⟨rfl,?_⟩⟩)
  ·rw[h4,ak];simp[h_];omega
  ·have e:([(aj.k gk (p.b4,(0:Int)))]:List Bool)=unpack 1 b:=by
    show[gk (p.b4,(0:Int))]=_
    rw[h4,kH hb (by omega) (by omega)];rfl
   refine aX (congrArg LT.more (congr (congrArg (z7.c3 _) (cn (i:=0) (by omega))) e)) ?_
   exact Oa hv hb hl hn hw hok (n-1) 1 _ h1 h2 h3 h4 (by omega) (by omega)
theorem aau{n v w:Int}{b:List Int}(h:Ty.cY [(.struct [(.int .i64),(.slice (.int .u8))]),(.int .u64),(.int .i64)] ((n,b),v,w)):aF (pQ aj) (Oq aj n b v w) (yt ((n,b),v,w)):=by
 obtain⟨h1,hv,hw⟩:=CL h
 have hb:=(dh h1).2.2
 have hl:=cK h1
 unfold Oq
 rw[yt]
 refine af.2 ⟨rfl,?_⟩
 cases hok:bd (n,b)
 ·refine(ai (show(ei (n,b) != 0)=true by rw[ei,hok];rfl)).2 ?_
  exact .ret _
 ·refine(ah (show(ei (n,b) != 0)=false by rw[ei,hok];rfl)).2 ?_
  obtain⟨h2,h3,h4⟩:=(eB hb).1 hok
  have h5:=h4.1
  rw[Bool.not_true,cond_false]
  by_cases h6:w<0
  ·refine(ai (by rw[ao];simpa using h6)).2 ?_
   rw[show decide (w<0)=true from by simpa using h6]
   exact .ret _
  ·refine(ah (by rw[ao];simpa using h6)).2 ?_
   by_cases h7:64<w
   ·refine(ai (by rw[ay];simpa using h7)).2 ?_
    rw[show decide (64<w)=true from by simpa using h7,Bool.or_true,Bool.true_or]
    exact .ret _
   ·refine(ah (by rw[ay];simpa using h7)).2 ?_
    rw[show decide (w<0)=false from by simpa using h6,show decide (64<w)=false from by simpa using h7,Bool.false_or,Bool.false_or,tO hv.1]
    obtain⟨k,rfl⟩:=Int.eq_ofNat_of_zero_le (show 0≤w by omega)
    rw[Int.toNat_natCast]
    have hfin:(((v.toNat/2^k:Nat):Int) != 0)=false→aF (pQ aj) (.need (aj.k (@tt ((Int×List Int))) (n,b)) (.br (aj.c .neq (aj.k ei (n,b)) 0) (.more (.c0 ⟨v,(aj.b .sub .i64 (k:Int) 1),0⟩)) (.more (.c1 ⟨0,v,(k:Int),n,b,0⟩)))) (bif ((v.toNat/2^k:Nat):Int) != 0 then(zB,2) else vK (aY (n,b)++bitsOf v.toNat k)):=by
     intro hz
     rw[hz,cond_false]
     refine af.2 ⟨rfl,(ah (show(ei (n,b) != 0)=false by rw[ei,hok];rfl)).2 ?_⟩
     exact M2 (n:=n.toNat) hv.1 hb hl (by omega) (by omega) (by omega) _ rfl rfl rfl (show n=_ by omega) rfl
    by_cases h8:k<64
    ·refine(ai (by rw[ao];simp;omega)).2 (af.2 ⟨by rw[dI (by omega),gp],?_⟩)
     rw[dI (by omega),Cz hv.1 (by omega)]
     cases hz:(((v.toNat/2^k:Nat):Int) != 0)
     ·refine(ah hz).2 ?_
      rw[←hz]
      exact hfin hz
     ·refine(ai hz).2 ?_
      exact .ret _
    ·refine(ah (by rw[ao];simp;omega)).2 (hfin ?_)
     have:k=64:=by omega
     subst this
     rw[Nat.div_eq_of_lt (by omega)];rfl
def eY:((Int×List Int)×Int×Int)→((Int×List Int)×Int):=yt
def XH:aC:=⟨[(.struct [yI,yB]),(.int .u64),yI], [(.struct [yI,yB]),yI],(@tt ((Int×List Int)×Int×Int)),eY⟩
theorem Hr:Sd 188 XH:=aK ap cm true 81 [⟨188,7, [[1,6,8,9]]⟩,⟨191,5, [[1,3,4], [1,2,6]]⟩] [] (fun A ((bN,bB),v,width)=>Oq A bN bB v width) pQ Ny (fc Tryz.func188 (fc Tryz.func191 fz)) (sc yx (sc Gi (sc BV sz))) (fun A y=>match y with |.c0 p=>⟨34,by kernel_rfl,by kernel_rfl⟩|.c1 p=>⟨34,by kernel_rfl,by kernel_rfl⟩|.c2 p c1 c3=>⟨34,by kernel_rfl,by kernel_rfl⟩|.c3 p d0 d5=>⟨34,by kernel_rfl,by kernel_rfl⟩) fun((bN,bB),v,width) hp h=>aau h
open Go.Ev.Pl
structure IX where
 (a0 a1 a2 a4:Int) (a5:List Int) (a6 a7:Int)
inductive Bh where
 | c0 (p:IX) (a3:Int) (a8:List Int)
noncomputable def No:Bh→fJ
 | .c0 p a3 a8=>⟨[⟨249,63,(en [(1,.int .u64 false p.a0),(2,vi p.a1),(3,.ptr 0 0),(6,.ptr 1 0),(8,.ptr 2 0),(43,vi p.a2),(44,vi a3)]),[.inLoop (cw Tryz.f249 [1,1,1,0,1,0,0]),.inBlock 1,.code (cw Tryz.f249 [1,1,1,1])],[],none⟩],[.flat false [vi p.a4,.sl yU p.a5],.flat false [vi p.a6,.bZ true],.flat false [vi p.a7,.own 3],.arr false yU a8,.dead]⟩
def Od(A:a_)(bN:Int)(bB:List Int)(v:Int)(width:Int):LT ((Int×List Int)×Int) Bh:=.need (A.k (@tt ((Int×List Int))) (bN,bB)) (.br (A.c .neq (A.k jq (bN,bB)) 0) (.ret ((0,([]:List Int)),10)) (.br (A.c .lss width 0) (.ret ((0,([]:List Int)),2)) (.br (A.c .gtr width 64) (.ret ((0,([]:List Int)),2)) (.br (A.c .lss width 64) (.need (A.c .leq 0 width) (.br (A.c .neq (A.b .shr .u64 v width) 0) (.ret ((0,([]:List Int)),2)) (.br (A.c .gtr width (A.b .sub .i64 4096 bN)) (.ret ((0,([]:List Int)),3)) (.need (A.k (@tt Int) (A.b .add .i64 bN width)) (.need (A.and (A.c .eql (A.k du (A.b .add .i64 bN width)) (A.k du (A.b .add .i64 bN width))) (A.and (A.c .leq 0 (A.k du (A.b .add .i64 bN width))) (A.c .leq (A.k du (A.b .add .i64 bN width)) 140737488355328))) (.more (.c0 ⟨v,width,width,bN,bB,0,(A.b .add .i64 bN width)⟩ 0 (A.spl (A.r (A.k du (A.b .add .i64 bN width)) (0:Int)) 0 (A.s bB 0 (A.mn (A.l bB) (A.l (A.r (A.k du (A.b .add .i64 bN width)) (0:Int))))))))))))) (.br (A.c .gtr width (A.b .sub .i64 4096 bN)) (.ret ((0,([]:List Int)),3)) (.need (A.k (@tt Int) (A.b .add .i64 bN width)) (.need (A.and (A.c .eql (A.k du (A.b .add .i64 bN width)) (A.k du (A.b .add .i64 bN width))) (A.and (A.c .leq 0 (A.k du (A.b .add .i64 bN width))) (A.c .leq (A.k du (A.b .add .i64 bN width)) 140737488355328))) (.more (.c0 ⟨v,width,width,bN,bB,0,(A.b .add .i64 bN width)⟩ 0 (A.spl (A.r (A.k du (A.b .add .i64 bN width)) (0:Int)) 0 (A.s bB 0 (A.mn (A.l bB) (A.l (A.r (A.k du (A.b .add .i64 bN width)) (0:Int)))))))))))))))
def Dm(A:a_):Bh→LT ((Int×List Int)×Int) Bh
 | .c0 p a3 a8=>.br (A.c .lss a3 p.a2) (.need (A.c .leq 0 (A.b .sub .i64 (A.b .sub .i64 p.a1 1) a3)) (.br (A.c .eql (A.b .and .u64 (A.b .shr .u64 p.a0 (A.b .sub .i64 (A.b .sub .i64 p.a1 1) a3)) 1) 1) (.need (A.and (A.c .leq 0 (A.b .quo .i64 (A.b .add .i64 p.a4 a3) 8)) (A.c .lss (A.b .quo .i64 (A.b .add .i64 p.a4 a3) 8) (A.l a8))) (.need (A.k nk (A.b .add .i64 p.a4 a3)) (.need (A.and (A.c .leq 0 (A.b .quo .i64 (A.b .add .i64 p.a4 a3) 8)) (A.c .lss (A.b .quo .i64 (A.b .add .i64 p.a4 a3) 8) (A.l a8))) (.more (.c0 p (A.b .add .i64 a3 1) (A.set a8 (A.b .quo .i64 (A.b .add .i64 p.a4 a3) 8) (A.b .or .u8 (A.n yU a8 (A.b .quo .i64 (A.b .add .i64 p.a4 a3) 8):Int) (A.k uR (A.b .add .i64 p.a4 a3))))))))) (.more (.c0 p (A.b .add .i64 a3 1) a8)))) (.ret ((p.a7,a8),0))
theorem zz{v w k:Nat}(h:k<w):(bitsOf v w).getD k false=v.testBit (w-1-k):=by
 rw[List.getD_eq_getElem?_getD,bitsOf,List.getElem?_map,List.getElem?_range h];rfl
theorem pg{B:List Int}{m i:Nat}(hB:B.length=m)(hi:i<8*m)(hm:m≤100000):(aj.and (aj.c .leq 0 (aj.b .quo .i64 (i:Int) 8)) (aj.c .lss (aj.b .quo .i64 (i:Int) 8) (aj.l B)))=true:=by
 have hlb:aj.l B=(m:Int):=by rw[←hB];rfl
 rw[kV (by omega),hlb,gp,aL,aN];simp;omega
theorem xr{i:Nat}:aj.k nk (i:Int)=true:=by rw[ak];simp[nk]
theorem Re{v:Int}{n w:Nat}{b:List Int}(hv:0≤v)(hn:n+w≤4096)(hw:w≤64):∀(j k:Nat) (p:IX) (B:List Int),p.a0=v→p.a1=(w:Int)→p.a2=(w:Int)→p.a4=(n:Int)→p.a7=((n+w:Nat):Int)→w-k=j→k≤w→Holds B (unpack n b++(bitsOf v.toNat w).take k) ((n+w+7)/8)→aF (Dm aj) (.more (.c0 p (k:Int) B)) (bq (unpack n b++bitsOf v.toNat w),0):=by
 intro j
 induction j with
 | zero=>
   intro k p B h1 h2 h3 h4 h5 hj hk hB
   have:k=w:=by omega
   subst this
   simp only[al,Dm]
   refine(ah (by rw[h3,aL];simp)).2 ?_
   rw[List.take_of_length_le (by rw[aI];exact Nat.le_refl _)] at hB
   have hl:(unpack n b++bitsOf v.toNat k).length=n+k:=by rw[List.length_append,aR,aI]
   rw[h5,hB.done (by rw[hl])]
   rw[show bq (unpack n b++bitsOf v.toNat k)=(((n+k:Nat):Int),pack (unpack n b++bitsOf v.toNat k)) from by rw[bq,hl]]
   exact .ret _
 | succ j ih=>
   intro k p B h1 h2 h3 h4 h5 hj hk hB
   simp only[al,Dm]
   have hsh:aj.b .sub .i64 (aj.b .sub .i64 p.a1 1) (k:Int)=((w-1-k:Nat):Int):=by
    rw[h2,show aj.b .sub .i64 (w:Int) 1=((w-1:Nat):Int) from jX (j:=1) (by omega) (by omega),jX (by omega) (by omega)]
   have hat:aj.b .add .i64 p.a4 (k:Int)=((n+k:Nat):Int):=by rw[h4,eP (by omega)]
   have hlen:(unpack n b++(bitsOf v.toNat w).take k).length=n+k:=by rw[List.length_append,aR,List.length_take,aI];omega
   have hts:=nJ (l:=bitsOf v.toNat w) (i:=k) (by rw[aI];omega)
   rw[zz (by omega)] at hts
   refine(ai (by rw[h3,aL];simp;omega)).2 (af.2 ⟨by rw[hsh,gp],?_⟩)
   rw[hsh,h1,Ep hv (by omega),hat]
   cases hx:v.toNat.testBit (w-1-k)
   ·rw[hx] at hts
    refine(ah rfl).2 ?_
    refine aX (congrArg LT.more (congr (congrArg (Bh.c0 p) (cn (by omega))) rfl)) (ih (k+1) p B h1 h2 h3 h4 h5 (by omega) (by omega) ?_)
    rw[hts,←List.append_assoc]
    exact hB.skip
   ·rw[hx] at hts
    refine(ai rfl).2 (af.2 ⟨pg hB.1 (by omega) (by omega),af.2 ⟨xr,af.2 ⟨pg hB.1 (by omega) (by omega),?_⟩⟩⟩)
    refine aX (congrArg LT.more (congr (congrArg (Bh.c0 p) (cn (by omega))) rfl)) (ih (k+1) p _ h1 h2 h3 h4 h5 (by omega) (by omega) ?_)
    rw[hts,←List.append_assoc]
    exact zl hB hlen (by omega) (by omega)
theorem grow{n w:Nat}{b:List Int}(h:okB n b)(hw:n+w≤100000):Holds (aj.spl (aj.r (aj.k du ((n+w:Nat):Int)) (0:Int)) 0 (aj.s b 0 (aj.mn (aj.l b) (aj.l (aj.r (aj.k du ((n+w:Nat):Int)) (0:Int)))))) (unpack n b) ((n+w+7)/8):=by
 have h1:=h.1
 rw[ak,mH (by omega) (by omega),Int.toNat_natCast]
 have e1:aj.r ((((n+w+7)/8:Nat):Nat):Int) (0:Int)=List.replicate ((n+w+7)/8) 0:=by rw[nO,Int.toNat_natCast]
 rw[e1]
 have e2:aj.mn (aj.l b) (aj.l (List.replicate ((n+w+7)/8) (0:Int)))=(b.length:Int):=by
  rw[uo]
  show(if ((List.replicate ((n+w+7)/8) (0:Int)).length:Int)<(b.length:Int) then _ else(b.length:Int))=_
  rw[List.length_replicate,if_neg (by omega)]
 rw[e2,mX,pV]
 have e3:(b.take (b.length:Int).toNat).drop (0:Int).toNat=b:=by
  rw[Int.toNat_natCast,List.take_length];rfl
 rw[e3]
 have:=Holds.grown (m:=(n+w+7)/8) h (by omega)
 rw[show(0:Int).toNat=0 from rfl,List.take_zero,List.nil_append,Nat.zero_add,List.drop_replicate]
 exact this
theorem Y9{n v w:Int}{b:List Int}(h:Ty.cY [(.struct [(.int .i64),(.slice (.int .u8))]),(.int .u64),(.int .i64)] ((n,b),v,w)):aF (Dm aj) (Od aj n b v w) (yt ((n,b),v,w)):=by
 obtain⟨h1,hv,hw⟩:=CL h
 have hb:=(dh h1).2.2
 have hl:=cK h1
 unfold Od
 rw[yt]
 refine af.2 ⟨rfl,?_⟩
 have hc:aj.c .neq (aj.k jq (n,b)) 0=!bd (n,b):=by
  rw[ak,jW hb hl];cases bd (n,b)<;>rfl
 rw[hc]
 cases hok:bd (n,b)
 ·exact(ai rfl).2 (.ret _)
 ·refine(ah rfl).2 ?_
  obtain⟨h2,h3,h4⟩:=(eB hb).1 hok
  have h5:=h4.1
  rw[Bool.not_true,cond_false]
  by_cases h6:w<0
  ·refine(ai (by rw[ao];simpa using h6)).2 ?_
   rw[show decide (w<0)=true from by simpa using h6]
   exact .ret _
  ·refine(ah (by rw[ao];simpa using h6)).2 ?_
   by_cases h7:64<w
   ·refine(ai (by rw[ay];simpa using h7)).2 ?_
    rw[show decide (64<w)=true from by simpa using h7,Bool.or_true,Bool.true_or]
    exact .ret _
   ·refine(ah (by rw[ay];simpa using h7)).2 ?_
    rw[show decide (w<0)=false from by simpa using h6,show decide (64<w)=false from by simpa using h7,Bool.false_or,Bool.false_or,tO hv.1]
    obtain⟨k,rfl⟩:=Int.eq_ofNat_of_zero_le (show 0≤w by omega)
    obtain⟨m,rfl⟩:=Int.eq_ofNat_of_zero_le h2
    rw[Int.toNat_natCast] at h4 h5 ⊢
    have hadd:aj.b .add .i64 (m:Int) (k:Int)=((m+k:Nat):Int):=eP (by omega)
    have hneed:aj.k du ((m+k:Nat):Int)=(((m+k+7)/8:Nat):Int):=by rw[ak,mH (by omega) (by omega),Int.toNat_natCast]
    have hlen:(aY ((m:Int),b)++bitsOf v.toNat k).length=m+k:=by rw[List.length_append,dx,aI,Int.toNat_natCast]
    have hfin:(((v.toNat/2^k:Nat):Int) != 0)=false→∀t,t=(LT.br (aj.c .gtr (k:Int) (aj.b .sub .i64 4096 (m:Int))) (.ret ((0,([]:List Int)),3)) (.need (aj.k (@tt Int) (aj.b .add .i64 (m:Int) (k:Int))) (.need (aj.and (aj.c .eql (aj.k du (aj.b .add .i64 (m:Int) (k:Int))) (aj.k du (aj.b .add .i64 (m:Int) (k:Int)))) (aj.and (aj.c .leq 0 (aj.k du (aj.b .add .i64 (m:Int) (k:Int)))) (aj.c .leq (aj.k du (aj.b .add .i64 (m:Int) (k:Int))) 140737488355328))) (.more (.c0 ⟨v,(k:Int),(k:Int),(m:Int),b,0,(aj.b .add .i64 (m:Int) (k:Int))⟩ 0 (aj.spl (aj.r (aj.k du (aj.b .add .i64 (m:Int) (k:Int))) (0:Int)) 0 (aj.s b 0 (aj.mn (aj.l b) (aj.l (aj.r (aj.k du (aj.b .add .i64 (m:Int) (k:Int))) (0:Int)))))))))):LT ((Int×List Int)×Int) Bh)→aF (Dm aj) t (bif ((v.toNat/2^k:Nat):Int) != 0 then(zB,2) else vK (aY ((m:Int),b)++bitsOf v.toNat k)):=by
     intro hz t ht
     rw[hz,cond_false,ht,vK,hlen,hadd,show aj.b .sub .i64 (4096:Int) (m:Int)=((4096-m:Nat):Int) from jX (i:=4096) (by omega) (by omega)]
     by_cases h9:4096<m+k
     ·rw[show decide (4096<m+k)=true from by simpa using h9]
      refine(ai (by rw[ay];simp;omega)).2 (.ret _)
     ·rw[show decide (4096<m+k)=false from by simpa using h9]
      refine(ah (by rw[ay];simp;omega)).2 (af.2 ⟨rfl,af.2 ⟨?_,?_⟩⟩)
      ·rw[hneed,gp,nZ rfl,ar,aN,aN];simp;omega
      ·refine Re hv.1 (by omega) (by omega) k 0 _ _ rfl rfl rfl rfl rfl rfl (by omega) ?_
       rw[List.take_zero,List.append_nil]
       exact grow h4 (by omega)
    by_cases h8:k<64
    ·refine(ai (by rw[ao];simp;omega)).2 (af.2 ⟨gp,?_⟩)
     rw[Cz hv.1 (by omega)]
     cases hz:(((v.toNat/2^k:Nat):Int) != 0)
     ·refine(ah hz).2 ?_
      rw[←hz]
      exact hfin hz _ rfl
     ·exact(ai hz).2 (.ret _)
    ·refine(ah (by rw[ao];simp;omega)).2 (hfin ?_ _ rfl)
     have:k=64:=by omega
     subst this
     rw[Nat.div_eq_of_lt (by omega)];rfl
def np:((Int×List Int)×Int×Int)→((Int×List Int)×Int):=yt
def Vb:aC:=⟨[(.struct [yI,yB]),(.int .u64),yI], [(.struct [yI,yB]),yI],(@tt ((Int×List Int)×Int×Int)),np⟩
theorem Ua:Sd 249 Vb:=aK ap cm true 114 [⟨249,9, [[1,2,3,6,8,43,44]]⟩] [] (fun A ((bN,bB),v,width)=>Od A bN bB v width) Dm No (fc Tryz.func249 (fc Tryz.func258 (fc Tryz.func259 (fc Tryz.func261 fz)))) (sc AA (sc Gj (sc Ft sz))) (fun A y=>match y with |.c0 p a3 a8=>⟨63,by kernel_rfl,by kernel_rfl⟩) fun((bN,bB),v,width) hp h=>Y9 h
open Go.Ev.Pl
structure GY where
 (a0 a2 a4:Int) (a5:List Int)
inductive KN where
 | c0 (p:GY) (a1:Int) (a3:Int)
noncomputable def NS:KN→fJ
 | .c0 p a1 a3=>⟨[⟨247,54,(en [(1,vi p.a0),(3,.ptr 0 0),(8,.int .u64 false a1),(39,vi p.a2),(40,vi a3)]),[.inLoop (cw Tryz.f247 [1,1,1,0,1,0,0]),.inBlock 1,.code (cw Tryz.f247 [1,1,1,1])],[],none⟩],[.flat false [vi p.a4,.sl yU p.a5],.dead]⟩
def t138(A:a_)(bN:Int)(bB:List Int)(at1:Int)(width:Int):LT (Int×Int) KN:=.need (A.k (@tt ((Int×List Int))) (bN,bB)) (.br (A.c .neq (A.k jq (bN,bB)) 0) (.ret (0,10)) (.br (A.c .lss width 0) (.ret (0,2)) (.br (A.c .gtr width 64) (.ret (0,2)) (.br (A.c .lss at1 0) (.ret (0,2)) (.br (A.c .gtr at1 bN) (.ret (0,2)) (.br (A.c .gtr width (A.b .sub .i64 bN at1)) (.ret (0,2)) (.more (.c0 ⟨at1,width,bN,bB⟩ 0 0))))))))
def ID(A:a_):KN→LT (Int×Int) KN
 | .c0 p a1 a3=>.br (A.c .lss a3 p.a2) (.need (A.k rz ((p.a4,p.a5),(A.b .add .i64 p.a0 a3))) (.br (A.k uL ((p.a4,p.a5),(A.b .add .i64 p.a0 a3))) (.more (.c0 p (A.b .or .u64 (A.b .shl .u64 a1 1) 1) (A.b .add .i64 a3 1))) (.more (.c0 p (A.b .shl .u64 a1 1) (A.b .add .i64 a3 1))))) (.ret (a1,0))
theorem Ad{l:List Bool}{a k:Nat}(h:a+k<l.length):aT l a (k+1)=2*aT l a k+(l.getD (a+k) false).toNat:=by
 rw[aT,aT,nJ (by rw[List.length_drop];omega),oQ,getD_drop]
theorem Mj{k:Nat}(h:k≤64):2^k≤18446744073709551616:=Nat.le_trans (Nat.pow_le_pow_right (by decide) h) (by decide)
theorem zC{x:Nat}(h:2*x<18446744073709551616):aj.b .shl .u64 (x:Int) 1=((2*x:Nat):Int):=by
 show IntKind.u64.wrap ((x:Int)*2^min (1:Int).toNat 64)=_
 rw[show(2:Int)^min (1:Int).toNat 64=2 from rfl,yY (by omega) (by omega)];omega
theorem J9{x:Nat}(h:2*x<18446744073709551616):aj.b .or .u64 ((2*x:Nat):Int) 1=((2*x+1:Nat):Int):=by
 show IntKind.u64.wrap ((BitVec.ofInt 64 ((2*x:Nat):Int) ||| BitVec.ofInt 64 1).toNat:Int)=_
 rw[BitVec.ofInt_natCast,show BitVec.ofInt 64 1=BitVec.ofNat 64 1 from rfl,BitVec.toNat_or,BitVec.toNat_ofNat,BitVec.toNat_ofNat,show 1%2^64=1 from rfl,Nat.mod_eq_of_lt (by omega)]
 have:=Nat.shiftLeft_add_eq_or_of_lt (i:=1) (b:=1) (by decide) x
 rw[Nat.shiftLeft_eq,Nat.pow_one,Nat.mul_comm x 2] at this
 rw[←this,yY (by omega) (by omega)]
theorem B9{x:Nat}(h:2*x<18446744073709551616):aj.b .mul .u64 (x:Int) 2=((2*x:Nat):Int):=by
 rw[ll,yY (by omega) (by omega)];omega
theorem Ko{x:Nat}(h:2*x<18446744073709551615):aj.b .add .u64 ((2*x:Nat):Int) 1=((2*x+1:Nat):Int):=by
 rw[bi,yY (by omega) (by omega)];omega
theorem tx{n a w:Int}{b:List Int}(h:Ty.cY [(.struct [(.int .i64),(.slice (.int .u8))]),(.int .i64),(.int .i64)] ((n,b),a,w)):Ty.has (.struct [(.int .i64),(.slice (.int .u8))]) (n,b)∧(-9223372036854775808≤a∧a≤9223372036854775807)∧(-9223372036854775808≤w∧w≤9223372036854775807):=h
theorem Ry{n a w:Nat}{b:List Int}(hb:bJ b)(hl:b.length≤100000)(hn:n≤8*b.length)(haw:a+w≤n)(hw:w≤64):∀(j k:Nat) (p:GY),p.a0=(a:Int)→p.a2=(w:Int)→p.a5=b→w-k=j→k≤w→aF (ID aj) (.more (.c0 p ((aT (unpack n b) a k:Nat):Int) (k:Int))) (((aT (unpack n b) a w:Nat):Int),0):=by
 intro j
 induction j with
 | zero=>
   intro k p h1 h2 h3 hj hk
   have:k=w:=by omega
   subst this
   simp only[al,ID]
   exact(ah (by rw[h2,aL];simp)).2 (.ret _)
 | succ j ih=>
   intro k p h1 h2 h3 hj hk
   simp only[al,ID]
   have hat:aj.b .add .i64 p.a0 (k:Int)=((a+k:Nat):Int):=by rw[h1,eP (by omega)]
   have hf:=cu (unpack n b) a k
   have hp:=Mj (k:=k+1) (by omega)
   rw[Nat.pow_succ] at hp
   have hs:=Ad (l:=unpack n b) (a:=a) (k:=k) (by rw[aR];omega)
   rw[iP,show decide (a+k<n)=true from by simp;omega,Bool.true_and] at hs
   refine(ai (by rw[h2,aL];simp;omega)).2 (af.2 ⟨by rw[hat,h3,ak];simp[rz];omega,?_⟩)
   have hc:aj.k uL ((p.a4,p.a5),aj.b .add .i64 p.a0 (k:Int))=fh b (a+k):=by
    rw[hat,h3,ak,zY hb (by omega) (by omega) (by omega),Int.toNat_natCast]
   have hm:=ih (k+1) p h1 h2 h3 (by omega) (by omega)
   cases hx:fh b (a+k)
   ·rw[hx] at hs
    refine(ah (hc.trans hx)).2 ?_
    rw[hs,show 2*aT (unpack n b) a k+false.toNat=2*aT (unpack n b) a k from rfl,←zC (by omega),←cn (by omega)] at hm
    exact hm
   ·rw[hx] at hs
    refine(ai (hc.trans hx)).2 ?_
    rw[hs,show 2*aT (unpack n b) a k+true.toNat=2*aT (unpack n b) a k+1 from rfl,←J9 (by omega),←zC (by omega),←cn (by omega)] at hm
    exact hm
theorem aaX{n a w:Int}{b:List Int}(h:Ty.cY [(.struct [(.int .i64),(.slice (.int .u8))]),(.int .i64),(.int .i64)] ((n,b),a,w)):aF (ID aj) (t138 aj n b a w) (vY ((n,b),a,w)):=by
 obtain⟨h1,ha,hw⟩:=tx h
 have hb:=(dh h1).2.2
 have hl:=cK h1
 unfold t138
 rw[vY]
 refine af.2 ⟨rfl,?_⟩
 have hc:aj.c .neq (aj.k jq (n,b)) 0=!bd (n,b):=by
  rw[ak,jW hb hl];cases bd (n,b)<;>rfl
 rw[hc]
 cases hok:bd (n,b)
 ·exact(ai rfl).2 (.ret _)
 ·refine(ah rfl).2 ?_
  obtain⟨h2,h3,h4⟩:=(eB hb).1 hok
  have h5:=h4.1
  rw[Bool.not_true,cond_false]
  by_cases h6:w<0
  ·refine(ai (by rw[ao];simpa using h6)).2 ?_
   rw[show decide (w<0)=true from by simpa using h6]
   exact .ret _
  refine(ah (by rw[ao];simpa using h6)).2 ?_
  by_cases h7:64<w
  ·refine(ai (by rw[ay];simpa using h7)).2 ?_
   rw[show decide (64<w)=true from by simpa using h7]
   simp only[Bool.or_true,Bool.true_or]
   exact .ret _
  refine(ah (by rw[ay];simpa using h7)).2 ?_
  by_cases h8:a<0
  ·refine(ai (by rw[ao];simpa using h8)).2 ?_
   rw[show decide (a<0)=true from by simpa using h8]
   simp only[Bool.or_true,Bool.true_or]
   exact .ret _
  refine(ah (by rw[ao];simpa using h8)).2 ?_
  rw[show decide (w<0)=false from by simpa using h6,show decide (64<w)=false from by simpa using h7,show decide (a<0)=false from by simpa using h8]
  by_cases h9:n<a
  ·refine(ai (by rw[ay];simpa using h9)).2 ?_
   rw[show decide (n<a+w)=true from by simp;omega]
   exact .ret _
  refine(ah (by rw[ay];simpa using h9)).2 ?_
  rw[aW,gg (by omega) (by omega)]
  by_cases h10:n<a+w
  ·refine(ai (by rw[ay];simp;omega)).2 ?_
   rw[show decide (n<a+w)=true from by simpa using h10]
   exact .ret _
  refine(ah (by rw[ay];simp;omega)).2 ?_
  rw[show decide (n<a+w)=false from by simpa using h10]
  obtain⟨k,rfl⟩:=Int.eq_ofNat_of_zero_le (show 0≤w by omega)
  obtain⟨i,rfl⟩:=Int.eq_ofNat_of_zero_le (show 0≤a by omega)
  exact Ry (n:=n.toNat) hb (by omega) (by omega) (by omega) (by omega) k 0 _ rfl rfl rfl (by omega) (by omega)
def aD:((Int×List Int)×Int×Int)→(Int×Int):=vY
def RR:aC:=⟨[(.struct [yI,yB]),yI,yI], [(.int .u64),yI],(@tt ((Int×List Int)×Int×Int)),aD⟩
theorem BW:Sd 247 RR:=aK ap cm true 65 [⟨247,7, [[1,3,8,39,40]]⟩] [] (fun A ((bN,bB),at1,width)=>t138 A bN bB at1 width) ID NS (fc Tryz.func247 fz) (sc AA (sc L5 sz)) (fun A y=>match y with |.c0 p a1 a3=>⟨45,by kernel_rfl,by kernel_rfl⟩) fun((bN,bB),at1,width) hp h=>aaX h
structure Jb where
 (a0 a1 a4:Int) (a5:List Int)
inductive JZ where
 | c0 (p:Jb) (a2:Int) (a3:Int)
noncomputable def NC:JZ→fJ
 | .c0 p a2 a3=>⟨[⟨254,54,(en [(1,vi p.a0),(2,vi p.a1),(3,.ptr 0 0),(8,.int .u64 false a2),(9,vi a3)]),[.inLoop (cw Tryz.f254 [1,1,1,1,0,1,0,0]),.inBlock 0,.code (cw Tryz.f254 [1,1,1,1,1])],[],none⟩],[.flat false [vi p.a4,.sl yU p.a5],.dead]⟩
def t141(A:a_)(bN:Int)(bB:List Int)(at1:Int)(width:Int):LT (Int×Int) JZ:=.need (A.k (@tt ((Int×List Int))) (bN,bB)) (.br (A.c .neq (A.k ei (bN,bB)) 0) (.ret (0,10)) (.br (A.c .lss width 0) (.ret (0,2)) (.br (A.c .gtr width 64) (.ret (0,2)) (.br (A.c .lss at1 0) (.ret (0,2)) (.br (A.c .gtr at1 bN) (.ret (0,2)) (.br (A.c .gtr width (A.b .sub .i64 bN at1)) (.ret (0,2)) (.more (.c0 ⟨at1,width,bN,bB⟩ 0 at1))))))))
def G7(A:a_):JZ→LT (Int×Int) JZ
 | .c0 p a2 a3=>.br (A.c .lss a3 (A.b .add .i64 p.a0 p.a1)) (.need (A.k h_ (p.a5,a3)) (.br (A.k gk (p.a5,a3)) (.more (.c0 p (A.b .add .u64 (A.b .mul .u64 a2 2) 1) (A.b .add .i64 a3 1))) (.more (.c0 p (A.b .mul .u64 a2 2) (A.b .add .i64 a3 1))))) (.ret (a2,0))
theorem QQ{n a w:Nat}{b:List Int}(hb:bJ b)(hl:b.length≤100000)(hn:n≤8*b.length)(haw:a+w≤n)(hw:w≤64):∀(j k:Nat) (p:Jb),p.a0=(a:Int)→p.a1=(w:Int)→p.a5=b→w-k=j→k≤w→aF (G7 aj) (.more (.c0 p ((aT (unpack n b) a k:Nat):Int) ((a+k:Nat):Int))) (((aT (unpack n b) a w:Nat):Int),0):=by
 intro j
 induction j with
 | zero=>
   intro k p h1 h2 h3 hj hk
   have:k=w:=by omega
   subst this
   simp only[al,G7]
   exact(ah (by rw[h1,h2,eP (by omega),aL];simp)).2 (.ret _)
 | succ j ih=>
   intro k p h1 h2 h3 hj hk
   simp only[al,G7]
   have hf:=cu (unpack n b) a k
   have hp:=Mj (k:=k+1) (by omega)
   rw[Nat.pow_succ] at hp
   have hs:=Ad (l:=unpack n b) (a:=a) (k:=k) (by rw[aR];omega)
   rw[iP,show decide (a+k<n)=true from by simp;omega,Bool.true_and] at hs
   refine(ai (by rw[h1,h2,eP (by omega),aL];simp;omega)).2 (af.2 ⟨by rw[h3,ak];simp[h_];omega,?_⟩)
   have hc:aj.k gk (p.a5,((a+k:Nat):Int))=fh b (a+k):=by
    rw[h3,ak,kH hb (by omega) (by omega),Int.toNat_natCast]
   have hm:=ih (k+1) p h1 h2 h3 (by omega) (by omega)
   rw[←Nat.add_assoc] at hm
   cases hx:fh b (a+k)
   ·rw[hx] at hs
    refine(ah (hc.trans hx)).2 ?_
    rw[hs,show 2*aT (unpack n b) a k+false.toNat=2*aT (unpack n b) a k from rfl,←B9 (by omega),←cn (by omega)] at hm
    exact hm
   ·rw[hx] at hs
    refine(ai (hc.trans hx)).2 ?_
    rw[hs,show 2*aT (unpack n b) a k+true.toNat=2*aT (unpack n b) a k+1 from rfl,←Ko (by omega),←B9 (by omega),←cn (by omega)] at hm
    exact hm
theorem YQ{n a w:Int}{b:List Int}(h:Ty.cY [(.struct [(.int .i64),(.slice (.int .u8))]),(.int .i64),(.int .i64)] ((n,b),a,w)):aF (G7 aj) (t141 aj n b a w) (vY ((n,b),a,w)):=by
 obtain⟨h1,ha,hw⟩:=tx h
 have hb:=(dh h1).2.2
 have hl:=cK h1
 unfold t141
 rw[vY]
 refine af.2 ⟨rfl,?_⟩
 cases hok:bd (n,b)
 ·refine(ai (show(ei (n,b) != 0)=true by rw[ei,hok];rfl)).2 ?_
  exact .ret _
 ·refine(ah (show(ei (n,b) != 0)=false by rw[ei,hok];rfl)).2 ?_
  obtain⟨h2,h3,h4⟩:=(eB hb).1 hok
  have h5:=h4.1
  rw[Bool.not_true,cond_false]
  by_cases h6:w<0
  ·refine(ai (by rw[ao];simpa using h6)).2 ?_
   rw[show decide (w<0)=true from by simpa using h6]
   exact .ret _
  refine(ah (by rw[ao];simpa using h6)).2 ?_
  by_cases h7:64<w
  ·refine(ai (by rw[ay];simpa using h7)).2 ?_
   rw[show decide (64<w)=true from by simpa using h7]
   simp only[Bool.or_true,Bool.true_or]
   exact .ret _
  refine(ah (by rw[ay];simpa using h7)).2 ?_
  by_cases h8:a<0
  ·refine(ai (by rw[ao];simpa using h8)).2 ?_
   rw[show decide (a<0)=true from by simpa using h8]
   simp only[Bool.or_true,Bool.true_or]
   exact .ret _
  refine(ah (by rw[ao];simpa using h8)).2 ?_
  rw[show decide (w<0)=false from by simpa using h6,show decide (64<w)=false from by simpa using h7,show decide (a<0)=false from by simpa using h8]
  by_cases h9:n<a
  ·refine(ai (by rw[ay];simpa using h9)).2 ?_
   rw[show decide (n<a+w)=true from by simp;omega]
   exact .ret _
  refine(ah (by rw[ay];simpa using h9)).2 ?_
  rw[aW,gg (by omega) (by omega)]
  by_cases h10:n<a+w
  ·refine(ai (by rw[ay];simp;omega)).2 ?_
   rw[show decide (n<a+w)=true from by simpa using h10]
   exact .ret _
  refine(ah (by rw[ay];simp;omega)).2 ?_
  rw[show decide (n<a+w)=false from by simpa using h10]
  obtain⟨k,rfl⟩:=Int.eq_ofNat_of_zero_le (show 0≤w by omega)
  obtain⟨i,rfl⟩:=Int.eq_ofNat_of_zero_le (show 0≤a by omega)
  exact QQ (n:=n.toNat) hb (by omega) (by omega) (by omega) (by omega) k 0 _ rfl rfl rfl (by omega) (by omega)
def oi:((Int×List Int)×Int×Int)→(Int×Int):=vY
def WM:aC:=⟨[(.struct [yI,yB]),yI,yI], [(.int .u64),yI],(@tt ((Int×List Int)×Int×Int)),oi⟩
theorem Fe:Sd 254 WM:=aK ap cm true 63 [⟨254,7, [[1,2,3,8,9]]⟩] [] (fun A ((bN,bB),at1,width)=>t141 A bN bB at1 width) G7 NC (fc Tryz.func254 fz) (sc yx (sc BV sz)) (fun A y=>match y with |.c0 p a2 a3=>⟨44,by kernel_rfl,by kernel_rfl⟩) fun((bN,bB),at1,width) hp h=>YQ h
open Go.Ev.Pl
structure I4 where
 (a0 a1 a2 a4 a5:Int) (a6:List Int) (a7 a8:Int)
inductive Em where
 | c0 (p:I4) (a3:Int) (a9:List Int)
noncomputable def N2:Em→fJ
 | .c0 p a3 a9=>⟨[⟨262,52,(en [(1,vi p.a0),(3,vi p.a1),(4,vi p.a2),(5,.ptr 0 0),(7,.ptr 1 0),(10,vi a3)]),[.inLoop (cw Tryz.f262 [1,1,1,0,0]),.inBlock 0],[],none⟩,⟨251,39,(en [(6,.ptr 2 0),(8,.ptr 3 0)]),[.ops (ow Tryz.f251 [1,1,1,0]) ((ow Tryz.f251 [1,1,1,0]).toList.drop 4),.code (cw Tryz.f251 [1,1,1,1])],[],none⟩],[.flat false [vi p.a4,.own 4],.flat false [vi p.a5,.sl yU p.a6],.flat false [vi p.a7,.bZ true],.flat false [vi p.a8,.own 4],.arr false yU a9,.dead]⟩
def PK(A:a_)(bN:Int)(bB:List Int)(from1:Int)(to:Int):LT ((Int×List Int)×Int) Em:=.need (A.k (@tt ((Int×List Int))) (bN,bB)) (.br (A.c .neq (A.k jq (bN,bB)) 0) (.ret ((0,([]:List Int)),10)) (.br (A.c .lss from1 0) (.ret ((0,([]:List Int)),2)) (.br (A.c .lss to from1) (.ret ((0,([]:List Int)),2)) (.br (A.c .gtr to bN) (.ret ((0,([]:List Int)),2)) (.need (A.k (@tt Int) (A.b .sub .i64 to from1)) (.need (A.and (A.c .eql (A.k du (A.b .sub .i64 to from1)) (A.k du (A.b .sub .i64 to from1))) (A.and (A.c .leq 0 (A.k du (A.b .sub .i64 to from1))) (A.c .leq (A.k du (A.b .sub .i64 to from1)) 140737488355328))) (.br (A.c .eql (A.b .rem .i64 from1 8) 0) (.br (A.c .eql to bN) (.need (A.and (A.c .leq 0 0) (A.and (A.c .leq 0 (A.l (A.r (A.k du (A.b .sub .i64 to from1)) (0:Int)))) (A.c .leq (A.l (A.r (A.k du (A.b .sub .i64 to from1)) (0:Int))) (A.l (A.r (A.k du (A.b .sub .i64 to from1)) (0:Int)))))) (.need (A.and (A.c .leq 0 (A.b .quo .i64 from1 8)) (A.and (A.c .leq (A.b .quo .i64 from1 8) (A.l bB)) (A.c .leq (A.l bB) (A.l bB)))) (.ret (((A.b .sub .i64 to from1),(A.spl (A.r (A.k du (A.b .sub .i64 to from1)) (0:Int)) 0 (A.s (A.s bB (A.b .quo .i64 from1 8) (A.l bB)) 0 (A.mn (A.l (A.s bB (A.b .quo .i64 from1 8) (A.l bB))) (A.b .sub .i64 (A.l (A.r (A.k du (A.b .sub .i64 to from1)) (0:Int))) 0))))),0)))) (.more (.c0 ⟨0,from1,to,(A.b .sub .i64 to from1),bN,bB,0,(A.b .sub .i64 to from1)⟩ from1 (A.r (A.k du (A.b .sub .i64 to from1)) (0:Int))))) (.more (.c0 ⟨0,from1,to,(A.b .sub .i64 to from1),bN,bB,0,(A.b .sub .i64 to from1)⟩ from1 (A.r (A.k du (A.b .sub .i64 to from1)) (0:Int)))))))))))
def Bg(A:a_):Em→LT ((Int×List Int)×Int) Em
 | .c0 p a3 a9=>.br (A.c .lss a3 p.a2) (.need (A.k rz ((p.a5,p.a6),a3)) (.br (A.k uL ((p.a5,p.a6),a3)) (.need (A.and (A.c .leq 0 (A.b .quo .i64 (A.b .sub .i64 (A.b .add .i64 p.a0 a3) p.a1) 8)) (A.c .lss (A.b .quo .i64 (A.b .sub .i64 (A.b .add .i64 p.a0 a3) p.a1) 8) (A.l a9))) (.need (A.k nk (A.b .sub .i64 (A.b .add .i64 p.a0 a3) p.a1)) (.need (A.and (A.c .leq 0 (A.b .quo .i64 (A.b .sub .i64 (A.b .add .i64 p.a0 a3) p.a1) 8)) (A.c .lss (A.b .quo .i64 (A.b .sub .i64 (A.b .add .i64 p.a0 a3) p.a1) 8) (A.l a9))) (.more (.c0 p (A.b .add .i64 a3 1) (A.set a9 (A.b .quo .i64 (A.b .sub .i64 (A.b .add .i64 p.a0 a3) p.a1) 8) (A.b .or .u8 (A.n yU a9 (A.b .quo .i64 (A.b .sub .i64 (A.b .add .i64 p.a0 a3) p.a1) 8):Int) (A.k uR (A.b .sub .i64 (A.b .add .i64 p.a0 a3) p.a1))))))))) (.more (.c0 p (A.b .add .i64 a3 1) a9)))) (.ret ((p.a8,a9),0))
theorem KH{n a c:Nat}{b:List Int}(hb:bJ b)(hl:b.length≤100000)(hn:n≤8*b.length)(hac:a≤c)(hc:c≤n):∀(j i:Nat) (p:I4) (B:List Int),p.a0=0→p.a1=(a:Int)→p.a2=(c:Int)→p.a6=b→p.a8=((c-a:Nat):Int)→c-i=j→a≤i→i≤c→Holds B ((((unpack n b).take c).drop a).take (i-a)) ((c-a+7)/8)→aF (Bg aj) (.more (.c0 p (i:Int) B)) (bq (((unpack n b).take c).drop a),0):=by
 have hL:(((unpack n b).take c).drop a).length=c-a:=by rw[List.length_drop,List.length_take,aR];omega
 intro j
 induction j with
 | zero=>
   intro i p B h0 h1 h2 h3 h4 hj hi hi2 hB
   have:i=c:=by omega
   subst this
   simp only[al,Bg]
   refine(ah (by rw[h2,aL];simp)).2 ?_
   rw[List.take_of_length_le (by rw[hL];exact Nat.le_refl _)] at hB
   rw[h4,hB.done (by rw[hL]),show bq (((unpack n b).take i).drop a)=(((i-a:Nat):Int),pack (((unpack n b).take i).drop a)) from by rw[bq,hL]]
   exact .ret _
 | succ j ih=>
   intro i p B h0 h1 h2 h3 h4 hj hi hi2 hB
   simp only[al,Bg]
   have hat:aj.b .sub .i64 (aj.b .add .i64 p.a0 (i:Int)) p.a1=((i-a:Nat):Int):=by
    rw[h0,h1,show aj.b .add .i64 (0:Int) (i:Int)=((0+i:Nat):Int) from eP (i:=0) (by omega),jX (by omega) (by omega),Nat.zero_add]
   have hts:=nJ (l:=((unpack n b).take c).drop a) (i:=i-a) (by rw[hL];omega)
   rw[getD_drop,getD_take,iP,show a+(i-a)=i from by omega,show decide (i<c)=true from by simp;omega,show decide (i<n)=true from by simp;omega,Bool.true_and,Bool.true_and] at hts
   have hlen:((((unpack n b).take c).drop a).take (i-a)).length=i-a:=by rw[List.length_take,hL];omega
   refine(ai (by rw[h2,aL];simp;omega)).2 (af.2 ⟨by rw[h3,ak];simp[rz];omega,?_⟩)
   have hc:aj.k uL ((p.a5,p.a6),(i:Int))=fh b i:=by
    rw[h3,ak,zY hb (by omega) (by omega) (by omega),Int.toNat_natCast]
   rw[hat]
   cases hx:fh b i
   ·rw[hx] at hts
    refine(ah (hc.trans hx)).2 ?_
    refine aX (congrArg LT.more (congr (congrArg (Em.c0 p) (cn (by omega))) rfl)) (ih (i+1) p B h0 h1 h2 h3 h4 (by omega) (by omega) (by omega) ?_)
    rw[show i+1-a=i-a+1 from by omega,hts]
    exact hB.skip
   ·rw[hx] at hts
    refine(ai (hc.trans hx)).2 (af.2 ⟨pg hB.1 (by omega) (by omega),af.2 ⟨xr,af.2 ⟨pg hB.1 (by omega) (by omega),?_⟩⟩⟩)
    refine aX (congrArg LT.more (congr (congrArg (Em.c0 p) (cn (by omega))) rfl)) (ih (i+1) p _ h0 h1 h2 h3 h4 (by omega) (by omega) (by omega) ?_)
    rw[show i+1-a=i-a+1 from by omega,hts]
    exact zl hB hlen (by omega) (by omega)
theorem D7(b:List Int)(i j:Nat):fh (b.drop i) j=fh b (8*i+j):=by
 rw[fh,fh,List.getD_eq_getElem?_getD,List.getD_eq_getElem?_getD,List.getElem?_drop,show(8*i+j)/8=i+j/8 from by omega,show(8*i+j)%8=j%8 from by omega]
theorem DK{n i:Nat}{b:List Int}(h:okB n b)(hi:8*i≤n):b.drop i=pack ((unpack n b).drop (8*i)):=by
 have h1:=h.1
 apply Cc
 ·rw[List.length_drop,List.length_drop,aR];omega
 ·exact fun x hx=>h.2.1 x (List.mem_of_mem_drop hx)
 ·intro j hj
  rw[List.length_drop] at hj
  rw[D7,getD_drop,iP]
  by_cases h2:8*i+j<n
  ·rw[show decide (8*i+j<n)=true from by simpa using h2,Bool.true_and]
  ·rw[show decide (8*i+j<n)=false from by simpa using h2,Bool.false_and]
   exact h.2.2 _ (by omega) (by omega)
theorem JH{b:List Int}{i:Nat}:aj.s b (i:Int) (aj.l b)=b.drop i:=by
 show(b.take (b.length:Int).toNat).drop (i:Int).toNat=_
 rw[Int.toNat_natCast,Int.toNat_natCast,List.take_length]
theorem P6{n a c:Int}{b:List Int}(h:Ty.cY [(.struct [(.int .i64),(.slice (.int .u8))]),(.int .i64),(.int .i64)] ((n,b),a,c)):aF (Bg aj) (PK aj n b a c) (bQ ((n,b),a,c)):=by
 obtain⟨h1,ha,hw⟩:=tx h
 have hb:=(dh h1).2.2
 have hl:=cK h1
 unfold PK
 rw[bQ]
 refine af.2 ⟨rfl,?_⟩
 have hc:aj.c .neq (aj.k jq (n,b)) 0=!bd (n,b):=by
  rw[ak,jW hb hl];cases bd (n,b)<;>rfl
 rw[hc]
 cases hok:bd (n,b)
 ·exact(ai rfl).2 (.ret _)
 ·refine(ah rfl).2 ?_
  obtain⟨h2,h3,h4⟩:=(eB hb).1 hok
  have h5:=h4.1
  rw[Bool.not_true,cond_false]
  by_cases h6:a<0
  ·refine(ai (by rw[ao];simpa using h6)).2 ?_
   rw[show decide (a<0)=true from by simpa using h6]
   exact .ret _
  refine(ah (by rw[ao];simpa using h6)).2 ?_
  by_cases h7:c<a
  ·refine(ai (by rw[ao];simpa using h7)).2 ?_
   rw[show decide (c<a)=true from by simpa using h7]
   simp only[Bool.or_true,Bool.true_or]
   exact .ret _
  refine(ah (by rw[ao];simpa using h7)).2 ?_
  by_cases h8:n<c
  ·refine(ai (by rw[ay];simpa using h8)).2 ?_
   rw[show decide (n<c)=true from by simpa using h8]
   simp only[Bool.or_true,Bool.true_or]
   exact .ret _
  refine(ah (by rw[ay];simpa using h8)).2 ?_
  rw[show decide (a<0)=false from by simpa using h6,show decide (c<a)=false from by simpa using h7,show decide (n<c)=false from by simpa using h8]
  obtain⟨k,rfl⟩:=Int.eq_ofNat_of_zero_le (show 0≤c by omega)
  obtain⟨i,rfl⟩:=Int.eq_ofNat_of_zero_le (show 0≤a by omega)
  obtain⟨m,rfl⟩:=Int.eq_ofNat_of_zero_le h2
  rw[Int.toNat_natCast] at h4 h5
  have hsub:aj.b .sub .i64 (k:Int) (i:Int)=((k-i:Nat):Int):=jX (by omega) (by omega)
  have hneed:aj.k du ((k-i:Nat):Int)=(((k-i+7)/8:Nat):Int):=by rw[ak,mH (by omega) (by omega),Int.toNat_natCast]
  show aF (Bg aj) _ (bq (((unpack m b).take k).drop i),0)
  rw[hsub]
  have hrep:aj.r (aj.k du ((k-i:Nat):Int)) (0:Int)=List.replicate ((k-i+7)/8) 0:=by rw[hneed,nO,Int.toNat_natCast]
  have hmore:aF (Bg aj) (.more (.c0 ⟨0,(i:Int),(k:Int),((k-i:Nat):Int),(m:Int),b,0,((k-i:Nat):Int)⟩ (i:Int) (aj.r (aj.k du ((k-i:Nat):Int)) (0:Int)))) (bq (((unpack m b).take k).drop i),0):=by
   refine KH hb (by omega) (by omega) (by omega) (by omega) (k-i) i _ _ rfl rfl rfl rfl rfl (by omega) (by omega) (by omega) ?_
   rw[Nat.sub_self,List.take_zero,hrep]
   exact Holds.blank _
  refine af.2 ⟨rfl,af.2 ⟨by rw[hneed,gp,nZ rfl,ar,aN,aN];simp;omega,?_⟩⟩
  by_cases h9:i%8=0
  ·refine(ai (nZ (by rw[tJ,h9];rfl))).2 ?_
   by_cases h10:k=m
   ·subst h10
    refine(ai (nZ rfl)).2 (af.2 ⟨?_,af.2 ⟨?_,?_⟩⟩)
    ·rw[hrep]
     have:aj.l (List.replicate ((k-i+7)/8) (0:Int))=(((k-i+7)/8:Nat):Int):=by show((List.replicate ((k-i+7)/8) (0:Int)).length:Int)=_;rw[List.length_replicate]
     rw[this,gp,ji,aN,aN];simp[ar]
    ·have:aj.l b=((b.length:Nat):Int):=rfl
     rw[kV (by omega),this,gp,ji,ji,aN,aN];simp;omega
    ·have hd:=DK h4 (i:=i/8) (by omega)
     rw[show 8*(i/8)=i from by omega] at hd
     have hL:((unpack k b).drop i).length=k-i:=by rw[List.length_drop,aR]
     rw[hrep,kV (by omega),JH]
     have e1:aj.mn (aj.l (b.drop (i/8))) (aj.b .sub .i64 (aj.l (List.replicate ((k-i+7)/8) (0:Int))) 0)=((b.drop (i/8)).length:Int):=by
      show aj.mn ((b.drop (i/8)).length:Int) (aj.b .sub .i64 ((List.replicate ((k-i+7)/8) (0:Int)).length:Int) 0)=_
      rw[List.length_replicate,aW,gg (by omega) (by omega),uo,if_neg (by rw[List.length_drop];omega)]
     rw[e1,mX,pV,Int.toNat_natCast,List.take_length]
     have e2:(List.replicate ((k-i+7)/8) (0:Int)).take (0:Int).toNat++(b.drop (i/8)).drop (0:Int).toNat++(List.replicate ((k-i+7)/8) (0:Int)).drop ((0:Int).toNat+((b.drop (i/8)).drop (0:Int).toNat).length)=b.drop (i/8):=by
      show[]++b.drop (i/8)++(List.replicate ((k-i+7)/8) (0:Int)).drop (0+(b.drop (i/8)).length)=_
      rw[List.drop_replicate,List.length_drop,show(k-i+7)/8-(0+(b.length-i/8))=0 from by omega,List.replicate_zero,List.append_nil,List.nil_append]
     rw[e2,hd,List.take_of_length_le (by rw[aR];exact Nat.le_refl _),show bq ((unpack k b).drop i)=(((k-i:Nat):Int),pack ((unpack k b).drop i)) from by rw[bq,hL]]
     exact .ret _
   ·exact(ah (Aq (by omega))).2 hmore
  ·exact(ah (Aq (by rw[tJ];omega))).2 hmore
def cf:((Int×List Int)×Int×Int)→((Int×List Int)×Int):=bQ
def Qz:aC:=⟨[(.struct [yI,yB]),yI,yI], [(.struct [yI,yB]),yI],(@tt ((Int×List Int)×Int×Int)),cf⟩
theorem Ms:Sd 251 Qz:=aK ap cm true 118 [⟨262,4, [[1,3,4,5,7,10], [6,8]]⟩] [] (fun A ((bN,bB),from1,to)=>PK A bN bB from1 to) Bg N2 (fc Tryz.func251 (fc Tryz.func259 (fc Tryz.func261 (fc Tryz.func262 fz)))) (sc AA (sc Gj (sc L5 (sc Ft sz)))) (fun A y=>match y with |.c0 p a3 a9=>⟨57,by kernel_rfl,by kernel_rfl⟩) fun((bN,bB),from1,to) hp h=>P6 h
open Go.Ev.Pl
theorem qp{l:List (Int×List Int)}(h:Ty.cY [(.slice (.struct [(.int .i64),(.slice (.int .u8))]))] l):l.length≤140737488355328∧∀x∈l,bJ x.2∧x.2.length≤140737488355328:=by
 have h1:l.length≤dp∧∀x∈l,Ty.has (.struct [(.int .i64),(.slice (.int .u8))]) x:=h
 exact⟨h1.1,fun x hx=>⟨(dh (n:=x.1) (b:=x.2) (h1.2 x hx)).2.2,(dh (n:=x.1) (b:=x.2) (h1.2 x hx)).2.1⟩⟩
theorem getD_in{α:Type}{l:List α}{i:Nat}(h:i<l.length)(d:α):l.getD (i:Int).toNat d=l[i]:=by
 rw[Int.toNat_natCast,List.getD_eq_getElem?_getD,List.getElem?_eq_getElem h];rfl
theorem mB{l:List (Int×List Int)}{i:Nat}(h:i<l.length):(aj.n (.struct [(.int .i64),(.slice (.int .u8))]) l (i:Int):Int×List Int)=l[i]:=by
 exact getD_in h _
theorem aO{α:Type}{l:List α}{i:Nat}(h:i<l.length):aj.and (aj.c .leq 0 (i:Int)) (aj.c .lss (i:Int) (aj.l l))=true:=by
 have:aj.l l=(l.length:Int):=rfl
 rw[this,gp,aL,aN];simpa using h
theorem Bv{x:Int×List Int}(h:bd x=true):(aY x).length≤4096:=by
 obtain⟨n,b⟩:=x
 rw[dx]
 simp only[bd,Bool.and_eq_true,decide_eq_true_eq] at h
 show n.toNat≤4096
 omega
theorem zJ{l:List Bool}(h:4096<l.length):vK l=(zB,3):=by
 rw[vK,show decide (4096<l.length)=true from by simpa using h];rfl
theorem wD{l:List (Int×List Int)}{i:Nat}(h:i<l.length):(l.take (i+1)).flatMap aY=(l.take i).flatMap aY++aY l[i]:=by
 rw[List.take_succ_eq_append_getElem h,List.flatMap_append]
 simp
def Nc(A:a_)(bN:Int)(bB:List Int)(from1:Int)(to:Int):LT ((Int×List Int)×Int) Empty:=.need (A.k (@tt ((Int×List Int))) (bN,bB)) (.br (A.c .neq (A.k ei (bN,bB)) 0) (.ret ((0,([]:List Int)),10)) (.br (A.c .lss from1 0) (.ret ((0,([]:List Int)),2)) (.br (A.c .lss to from1) (.ret ((0,([]:List Int)),2)) (.br (A.c .gtr to bN) (.ret ((0,([]:List Int)),2)) (.need (A.k (@tt ((Int×List Int))) (bN,bB)) (.need (A.and (A.c .leq 0 from1) (A.and (A.c .leq from1 to) (A.c .leq to (A.l (A.k gJ (bN,bB)))))) (.need (A.k (@tt (List Bool)) (A.s (A.k gJ (bN,bB)) from1 to)) (.ret (A.k mI (A.s (A.k gJ (bN,bB)) from1 to))))))))))
theorem EO{l:List Bool}{a c:Int}:aj.s l a c=(l.take c.toNat).drop a.toNat:=rfl
theorem nG{l:List Bool}(h:l.length≤4096):vK l=(bq l,0):=by
 rw[vK,show decide (4096<l.length)=false from by simpa using h];rfl
theorem O0{n a c:Int}{b:List Int}(h:Ty.cY [(.struct [(.int .i64),(.slice (.int .u8))]),(.int .i64),(.int .i64)] ((n,b),a,c)):aF Empty.elim (Nc aj n b a c) (bQ ((n,b),a,c)):=by
 obtain⟨h1,ha,hw⟩:=tx h
 have hb:=(dh h1).2.2
 have hl:=cK h1
 unfold Nc
 rw[bQ]
 refine af.2 ⟨rfl,?_⟩
 cases hok:bd (n,b)
 ·refine(ai (show(ei (n,b) != 0)=true by rw[ei,hok];rfl)).2 ?_
  exact .ret _
 ·refine(ah (show(ei (n,b) != 0)=false by rw[ei,hok];rfl)).2 ?_
  obtain⟨h2,h3,h4⟩:=(eB hb).1 hok
  rw[Bool.not_true,cond_false]
  by_cases h6:a<0
  ·refine(ai (by rw[ao];simpa using h6)).2 ?_
   rw[show decide (a<0)=true from by simpa using h6]
   exact .ret _
  refine(ah (by rw[ao];simpa using h6)).2 ?_
  by_cases h7:c<a
  ·refine(ai (by rw[ao];simpa using h7)).2 ?_
   rw[show decide (c<a)=true from by simpa using h7]
   simp only[Bool.or_true,Bool.true_or]
   exact .ret _
  refine(ah (by rw[ao];simpa using h7)).2 ?_
  by_cases h8:n<c
  ·refine(ai (by rw[ay];simpa using h8)).2 ?_
   rw[show decide (n<c)=true from by simpa using h8]
   simp only[Bool.or_true,Bool.true_or]
   exact .ret _
  refine(ah (by rw[ay];simpa using h8)).2 ?_
  rw[show decide (a<0)=false from by simpa using h6,show decide (c<a)=false from by simpa using h7,show decide (n<c)=false from by simpa using h8]
  have hL:aj.k gJ (n,b)=aY (n,b):=by rw[ak,gJ,hok];rfl
  have hlen:aj.l (aY (n,b))=n:=by show((aY (n,b)).length:Int)=n;rw[dx];simp only[];omega
  rw[hL]
  refine af.2 ⟨rfl,af.2 ⟨by rw[hlen,aN,aN];simp[ar];omega,af.2 ⟨rfl,?_⟩⟩⟩
  have e:aj.k mI (aj.s (aY (n,b)) a c)=(bq (((aY (n,b)).take c.toNat).drop a.toNat),0):=by
   rw[ak,mI,EO,nG]
   rw[List.length_drop,List.length_take,dx];simp only[];omega
  rw[e]
  exact .ret _
def bA:((Int×List Int)×Int×Int)→((Int×List Int)×Int):=bQ
def Q_:aC:=⟨[(.struct [yI,yB]),yI,yI], [(.struct [yI,yB]),yI],(@tt ((Int×List Int)×Int×Int)),bA⟩
theorem Mx:Sd 255 Q_:=aM ap cm true 53 [] (fun A ((bN,bB),from1,to)=>Nc A bN bB from1 to) (fc Tryz.func255 fz) (sc yx (sc Hy (sc Gi sz))) fun((bN,bB),from1,to) hp h=>O0 h
end Go.Ev.M
