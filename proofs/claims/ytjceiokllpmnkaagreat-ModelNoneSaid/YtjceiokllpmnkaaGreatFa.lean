/-
  PROVED: what the functions of the packages bits and metronomeref01 compute. Conditions: none.
-/
import Derived.Test.YtjceiokllpmnkaaGreatTy
import Derived.Test.YtjceiokllpmnkaaGreatEvC
import Derived.Test.YtjceiokllpmnkaaGreatPl
namespace Go.Ev.M
open Go.Proofs
set_option maxRecDepth 100000
set_option linter.unusedVariables false
set_option linter.unusedSimpArgs false
open Go.Ev.Pl
open Go.Ev.Pl
theorem Gn{i:Int}(h:0≤i)(h2:i≤4611686018427387904):ai.b .quo .i64 i 8=((i.toNat/8:Nat):Int):=by
 rw[Aw,Int.tdiv_eq_ediv_of_nonneg h,gW (by omega) (by omega)];omega
theorem Co{i:Int}(h:0≤i):ai.b .rem .i64 i 8=((i.toNat%8:Nat):Int):=by
 rw[Bo,Int.tmod_eq_emod_of_nonneg h];omega
theorem fU{n:Int}{b:List Int}(h:Ty.has (.struct [(.int .i64),(.slice (.int .u8))]) (n,b)):(-9223372036854775808≤n∧n≤9223372036854775807)∧b.length≤cY∧cn b:=by
 simp only[Ty.has,Ty.dM] at h
 exact⟨h.1,h.2.1,fun x hx=>h.2.2 x hx⟩
theorem dP{n:Int}{b:List Int}(h:Ty.has (.struct [(.int .i64),(.slice (.int .u8))]) (n,b)):b.length≤140737488355328:=(fU h).2.1
def G3(A:bK)(n:Int):LT Int Empty:=.ret (A.b .quo .i64 (A.b .add .i64 n 7) 8)
def bZ:Int→Int:=fun n=>(G3 ai n).val (Ty.cq [yI])
def MB:aG:=⟨[yI], [yI],(@tt Int),bZ⟩
theorem AZ:Sd 283 MB:=aO aA dY true 17 [] (fun A n=>G3 A n) (fc Tryz.func283 fz) sz (fun(n:Int) hp h=>by
 show(G3 ai n).pre=true
 rfl)
def DU(A:bK)(i:Int):LT Int Empty:=.need (A.c .leq 0 (A.b .rem .i64 i 8)) (.ret (A.b .shr .u8 128 (A.b .rem .i64 i 8)))
def qL:Int→Int:=fun i=>(DU ai i).val (Ty.cq [yU])
def kX:Int→Bool:=fun i=>decide (0≤i)
def PY:aG:=⟨[yI], [yU],kX,qL⟩
theorem AB:Sd 343 PY:=aO aA dY true 17 [] (fun A i=>DU A i) (fc Tryz.func343 fz) sz (fun(i:Int) hp h=>by
 show(DU ai i).pre=true
 simp only[DU,LT.pre,eE,aC,aB,ar,ay,aL,aS,aM,bg,ek,al,bq,bl,bp,cf,dh,Bool.and_eq_true,Bool.or_eq_true,Bool.and_eq_false_iff,Bool.or_eq_false_iff,Bool.not_eq_true',Bool.not_eq_false',decide_eq_true_eq,decide_eq_false_iff_not,bne_iff_ne,beq_iff_eq,bne_eq_false_iff_eq,beq_eq_false_iff_ne]
 simp only[kX,decide_eq_true_eq] at hp
 rw[Co hp];exact⟨by omega,trivial⟩)
theorem kp{n:Int}(h:0≤n)(h2:n≤4611686018427387000):bZ n=(((n.toNat+7)/8:Nat):Int):=by
 simp only[bZ,G3,LT.val]
 rw[bq,gW (by omega) (by omega),Gn (by omega) (by omega)]
 omega
theorem DD:∀k:Fin 8,ai.b .shr .u8 128 (k.val:Int)=((128 >>> k.val:Nat):Int):=by decide +kernel
theorem xW{i:Int}(h:0≤i):qL i=((128 >>> (i.toNat%8):Nat):Int):=by
 simp only[qL,DU,LT.val]
 rw[Co h]
 exact DD ⟨i.toNat%8,Nat.mod_lt _ (by decide)⟩
theorem GX:∀c:Fin 256,∀k:Fin 8,(ai.b .and .u8 (c.val:Int) ((128 >>> k.val:Nat):Int) != 0)=c.val.testBit (7-k.val):=by decide +kernel
theorem Al{l:List Int}(h:cn l)(i:Nat):0≤l.getD i 0∧l.getD i 0≤255:=by
 rw[List.getD_eq_getElem?_getD]
 by_cases hi:i<l.length
 ·rw[List.getElem?_eq_getElem hi];exact h _ (List.getElem_mem hi)
 ·rw[List.getElem?_eq_none (by omega)];decide
theorem HZ{l:List Int}(h:cn l)(i:Nat):(ai.b .and .u8 (l.getD (i/8) 0) ((128 >>> (i%8):Nat):Int) != 0)=dU l i:=by
 have h1:=Al h (i/8)
 have h2:=GX ⟨(l.getD (i/8) 0).toNat,by omega⟩ ⟨i%8,Nat.mod_lt _ (by decide)⟩
 simp only at h2
 rw[show(((l.getD (i/8) 0).toNat:Nat):Int)=l.getD (i/8) 0 from by omega] at h2
 exact h2
def DV(A:bK)(bN:Int)(bB:List Int)(i:Int):LT Bool Empty:=.need (A.and (A.c .leq 0 (A.b .quo .i64 i 8)) (A.c .lss (A.b .quo .i64 i 8) (A.l bB))) (.need (A.k kX i) (.ret (A.c .neq (A.b .and .u8 (A.n yU bB (A.b .quo .i64 i 8):Int) (A.k qL i)) 0)))
def oY:((Int×List Int)×Int)→Bool:=fun((bN,bB),i)=>(DV ai bN bB i).val (Ty.cq [.bool])
def l9:((Int×List Int)×Int)→Bool:=fun((n,b),i)=>decide (0≤i)&&decide (i<8*(b.length:Int))
def SK:aG:=⟨[(.struct [yI,yB]),yI], [.bool],l9,oY⟩
theorem DC:Sd 320 SK:=aO aA dY true 25 [] (fun A ((bN,bB),i)=>DV A bN bB i) (fc Tryz.func320 fz) (sc AB sz) (fun(((bN,bB),i):(Int×List Int)×Int) hp h=>by
 show(DV ai bN bB i).pre=true
 simp only[l9,Bool.and_eq_true,decide_eq_true_eq] at hp
 have hl:=dP h.1
 simp only[DV,LT.pre,al,aM,ay,ar,kX,Bool.and_eq_true,decide_eq_true_eq,cf]
 rw[Gn hp.1 (by omega)]
 refine⟨⟨by omega,by omega⟩,hp.1,trivial⟩)
theorem sL{n:Int}{b:List Int}{i:Int}(hb:cn b)(h0:0≤i)(h1:i<8*(b.length:Int))(hl:b.length≤140737488355328):oY ((n,b),i)=dU b i.toNat:=by
 simp only[oY,DV,LT.val,al,aB]
 rw[Gn h0 (by omega),xW h0]
 exact HZ hb i.toNat
def Mj(A:bK)(bN:Int)(bB:List Int):LT Int Empty:=.br (A.c .lss bN 0) (.ret 10) (.br (A.c .gtr bN 4096) (.ret 10) (.need (A.k (@tt Int) bN) (.br (A.c .neq (A.l bB) (A.k bZ bN)) (.ret 10) (.br (A.c .neq (A.b .rem .i64 bN 8) 0) (.need (A.and (A.c .leq 0 (A.b .sub .i64 (A.l bB) 1)) (A.c .lss (A.b .sub .i64 (A.l bB) 1) (A.l bB))) (.need (A.c .leq 0 (A.b .rem .i64 bN 8)) (.br (A.c .neq (A.b .and .u8 (A.n yU bB (A.b .sub .i64 (A.l bB) 1):Int) (A.b .shr .u8 255 (A.b .rem .i64 bN 8))) 0) (.ret 10) (.ret 0)))) (.ret 0)))))
def gZ:((Int×List Int))→Int:=fun(bN,bB)=>(Mj ai bN bB).val (Ty.cq [yI])
def XX:aG:=⟨[(.struct [yI,yB])], [yI],(@tt ((Int×List Int))),gZ⟩
theorem yX:Sd 236 XX:=aO aA dY true 67 [] (fun A (bN,bB)=>Mj A bN bB) (fc Tryz.func236 fz) (sc AZ sz) (fun((bN,bB):(Int×List Int)) hp h=>by
 show(Mj ai bN bB).pre=true
 have hl:=dP h
 simp only[Mj,LT.pre,al,aB,ar,aL,ay,aM,dh,Bool.true_and,cf,eE,decide_eq_true_eq,decide_eq_false_iff_not,Bool.and_eq_true,bne_iff_ne,bne_eq_false_iff_eq,ne_eq,implies_true,and_true,true_and]
 intro h0 h1 h2 h3
 rw[kp (by omega) (by omega)] at h2
 rw[Co (by omega)] at h3
 rw[bl,gW (by omega) (by omega),Co (by omega)]
 omega)
theorem Dh:∀c:Fin 256,∀r:Fin 8,(ai.b .and .u8 (c.val:Int) (ai.b .shr .u8 255 (r.val:Int)) != 0)=!((List.range 8).all fun k=>decide (k<r.val) || !c.val.testBit (7-k)):=by decide +kernel
theorem BS{n:Int}{b:List Int}(hb:cn b)(hl:b.length≤140737488355328):gZ (n,b)=0↔0≤n∧n≤4096∧okB n.toNat b:=by
 simp only[gZ,Mj,LT.val,al,aB,ar,aL]
 by_cases h0:n<0
 ·simp only[h0,decide_true,cond_true]
  constructor
  ·intro h;cases h
  ·intro h;omega
 ·simp only[h0,decide_false,cond_false]
  by_cases h1:4096<n
  ·simp only[h1,decide_true,cond_true]
   constructor
   ·intro h;cases h
   ·intro h;omega
  ·simp only[h1,decide_false,cond_false]
   rw[kp (by omega) (by omega)]
   have hlen:ai.l b=(b.length:Int):=rfl
   rw[hlen]
   by_cases h2:b.length=(n.toNat+7)/8
   ·rw[show((b.length:Int) != (((n.toNat+7)/8:Nat):Int))=false from by rw[h2];exact bne_self_eq_false _,cond_false,Co (by omega)]
    by_cases h3:n.toNat%8=0
    ·rw[h3]
     simp only[Int.natCast_zero,bne_self_eq_false,cond_false,true_iff]
     exact⟨by omega,by omega,h2,hb,fun i h4 h5=>by omega⟩
    ·rw[show(((n.toNat%8:Nat):Int) != 0)=true from by simp;omega,cond_true]
     have e:(ai.n (.int .u8) b (ai.b .sub .i64 (b.length:Int) 1):Int)=b.getD (n.toNat/8) 0:=by
      show b.getD (ai.b .sub .i64 (b.length:Int) 1).toNat 0=_
      rw[bl,gW (by omega) (by omega)]
      congr 1
      omega
     have hx:=Al hb (n.toNat/8)
     have key:=Dh ⟨(b.getD (n.toNat/8) 0).toNat,by omega⟩ ⟨n.toNat%8,Nat.mod_lt _ (by decide)⟩
     simp only at key
     rw[show(((b.getD (n.toNat/8) 0).toNat:Nat):Int)=b.getD (n.toNat/8) 0 from by omega] at key
     have e2:(ai.b .and .u8 (ai.n (.int .u8) b (ai.b .sub .i64 (b.length:Int) 1):Int) (ai.b .shr .u8 255 ((n.toNat%8:Nat):Int)) != 0)=!((List.range 8).all fun k=>decide (k<n.toNat%8) || !(b.getD (n.toNat/8) 0).toNat.testBit (7-k)):=by
      rw[←key]
      exact congrArg (fun z:Int=>(ai.b .and .u8 z (ai.b .shr .u8 255 ((n.toNat%8:Nat):Int)) != 0)) e
     refine Iff.trans (b:=((List.range 8).all fun k=>decide (k<n.toNat%8) || !(b.getD (n.toNat/8) 0).toNat.testBit (7-k))=true) ?_ ?_
     ·refine Iff.trans (b:=(bif !((List.range 8).all fun k=>decide (k<n.toNat%8) || !(b.getD (n.toNat/8) 0).toNat.testBit (7-k)) then(10:Int) else 0)=0) (by rw[←e2]) ?_
      cases (List.range 8).all fun k=>decide (k<n.toNat%8) || !(b.getD (n.toNat/8) 0).toNat.testBit (7-k)<;>simp
     ·rw[List.all_eq_true]
      constructor
      ·intro h
       refine⟨by omega,by omega,h2,hb,fun i h4 h5=>?_⟩
       have:=h (i%8) (List.mem_range.2 (Nat.mod_lt _ (by decide)))
       have hi:i/8=n.toNat/8:=by omega
       rw[dU,hi]
       simp only[Bool.or_eq_true,decide_eq_true_eq,Bool.not_eq_true'] at this
       rcases this with h6|h6
       ·omega
       ·exact h6
      ·intro ⟨_,_,_,_,h⟩ k hk
       have hk:=List.mem_range.1 hk
       by_cases h6:k<n.toNat%8
       ·simp[h6]
       ·have:=h (8*(n.toNat/8)+k) (by omega) (by omega)
        rw[dU,show(8*(n.toNat/8)+k)/8=n.toNat/8 from by omega,show(8*(n.toNat/8)+k)%8=k from by omega] at this
        rw[this];simp
   ·rw[show((b.length:Int) != (((n.toNat+7)/8:Nat):Int))=true from bne_iff_ne.2 (by omega),cond_true]
    constructor
    ·intro h;cases h
    ·intro h;exact absurd h.2.2.1 h2
theorem zM{x:Int×List Int}:gZ x=0∨gZ x=10:=by
 obtain⟨n,b⟩:=x
 exact LT.i_ (p:=fun y=>y=0∨y=10) (.inl rfl) (by simp[Mj,LT.all])
theorem i6{n:Int}{b:List Int}(hb:cn b)(hl:b.length≤140737488355328):gZ (n,b)=bif bS (n,b) then 0 else 10:=by
 have h1:=BS (n:=n) hb hl
 rw[←gN hb] at h1
 rcases zM (x:=(n,b)) with h2|h2
 ·rw[h2,h1.1 h2];rfl
 ·have:bS (n,b)=false:=by
   rw[←Bool.not_eq_true]
   intro h3
   rw[h1.2 h3] at h2
   cases h2
  rw[h2,this];rfl
theorem fe{i:Nat}(h:i<4611686018427387904):ai.b .add .i64 (i:Int) 1=((i+1:Nat):Int):=by
 rw[bq,gW (by omega) (by omega)];rfl
theorem dV{i j:Nat}(h:i+j<4611686018427387904):ai.b .add .i64 (i:Int) (j:Int)=((i+j:Nat):Int):=by
 rw[bq,gW (by omega) (by omega)];rfl
theorem aT{i j:Nat}:ai.c .lss (i:Int) (j:Int)=decide (i<j):=by
 rw[ar];exact decide_eq_decide.2 Int.ofNat_lt
theorem f_{i j:Nat}:ai.c .leq (i:Int) (j:Int)=decide (i≤j):=by
 rw[ay];exact decide_eq_decide.2 Int.ofNat_le
theorem iD{i:Nat}:ai.c .leq 0 (i:Int)=true:=by rw[ay];simp
theorem kQ{i:Nat}(h:i≤4611686018427387904):ai.b .quo .i64 (i:Int) 8=((i/8:Nat):Int):=by
 rw[Gn (by omega) (by omega)];rfl
theorem ry{i:Nat}:ai.b .rem .i64 (i:Int) 8=((i%8:Nat):Int):=by
 rw[Co (by omega)];rfl
theorem ng{u v:Int}(h:u=v):ai.c .eql u v=true:=by rw[aC,h];exact beq_self_eq_true _
theorem AS{u v:Int}(h:u≠v):ai.c .eql u v=false:=by rw[aC];exact beq_eq_false_iff_ne.2 h
theorem cH{u v:Int}(h:u=v):ai.c .neq u v=false:=by rw[aB,h];exact bne_self_eq_false _
theorem fx{u v:Int}(h:u≠v):ai.c .neq u v=true:=by rw[aB];exact bne_iff_ne.2 h
open Go.Ev.Pl
open Go.Ev.Pl
theorem bD{R Y:Type}{step:Y→LT R Y}{t t':LT R Y}{r:R}(h:t=t')(h2:aK step t' r):aK step t r:=h▸h2
theorem HV:∀c:Fin 256,∀k:Fin 8,ai.b .or .u8 (c.val:Int) ((128 >>> k.val:Nat):Int)=((c.val ||| 128 >>> k.val:Nat):Int):=by decide +kernel
theorem tK{B:List Int}{l:List Bool}{m i:Nat}(h:Holds B l m)(hi:l.length=i)(h1:i<8*m)(hm:m≤100000) :
  Holds (ai.set B (ai.b .quo .i64 (i:Int) 8) (ai.b .or .u8 (ai.n (.int .u8) B (ai.b .quo .i64 (i:Int) 8):Int) (ai.k qL (i:Int)))) (l ++ [true]) m:=by
 rw[kQ (by omega),al,xW (by omega),Int.toNat_natCast]
 have key:=HV ⟨(B.getD (i/8) 0).toNat,sZ h.2.1 _⟩ ⟨i%8,Nat.mod_lt _ (by decide)⟩
 simp only at key
 rw[show(((B.getD (i/8) 0).toNat:Nat):Int)=B.getD (i/8) 0 from Int.toNat_of_nonneg (Al h.2.1 _).1] at key
 have:=h.set (by omega)
 rw[hi] at this
 rw[←key] at this
 exact this
theorem pZ{l:List Bool}{i:Nat}(h:i<l.length):l.take (i+1)=l.take i ++ [l.getD i false]:=by
 rw[List.take_succ_eq_append_getElem h,List.getD_eq_getElem?_getD,List.getElem?_eq_getElem h];rfl
open Go.Ev.Pl
theorem IQ{a:Int}{n:Nat}(h:0≤a)(hn:n≤64):ai.b .shr .u64 a (n:Int)=((a.toNat/2^n:Nat):Int):=by
 show a.fdiv (2^min (n:Int).toNat 64)=_
 obtain⟨m,rfl⟩:=Int.eq_ofNat_of_zero_le h
 rw[Int.toNat_natCast,Nat.min_eq_left hn,Int.fdiv_eq_ediv_of_nonneg _ (Int.pow_nonneg (by decide))]
 simp
theorem Jq{a:Int}{n:Nat}(h:0≤a)(hn:n≤32):ai.b .shr .u32 a (n:Int)=((a.toNat/2^n:Nat):Int):=by
 show a.fdiv (2^min (n:Int).toNat 32)=_
 obtain⟨m,rfl⟩:=Int.eq_ofNat_of_zero_le h
 rw[Int.toNat_natCast,Nat.min_eq_left hn,Int.fdiv_eq_ediv_of_nonneg _ (Int.pow_nonneg (by decide))]
 simp
theorem gD{n:Nat}(h:n<4611686018427387904):ai.v .u64 (n:Int)=(n:Int):=by rw[bp,Io (by omega) (by omega)]
theorem E7{m:Nat}:ai.c .eql (ai.b .and .u64 (m:Int) 1) 1=decide (m%2=1):=by
 show(IntKind.u64.wrap ((BitVec.ofInt 64 (m:Int) &&& BitVec.ofInt 64 1).toNat:Int)==1)=_
 rw[BitVec.ofInt_natCast,show BitVec.ofInt 64 1=BitVec.ofNat 64 1 from rfl,BitVec.toNat_and,BitVec.toNat_ofNat,BitVec.toNat_ofNat,show 1%2^64=1 from rfl,Nat.and_one_is_mod,Io (by omega) (by omega),Bool.eq_iff_iff]
 simp only[beq_iff_eq,decide_eq_true_eq]
 omega
theorem EJ{v:Int}{k:Nat}(h:0≤v)(hk:k≤64):ai.c .eql (ai.b .and .u64 (ai.b .shr .u64 v (k:Int)) 1) 1=v.toNat.testBit k:=by
 rw[IQ h hk,E7,Nat.testBit_eq_decide_div_mod_eq]
theorem iX{i j:Nat}(h:j≤i)(hi:i<4611686018427387904):ai.b .sub .i64 (i:Int) (j:Int)=((i-j:Nat):Int):=by
 rw[bl,gW (by omega) (by omega)];omega
theorem xt{v:Int}{w:Nat}(h:0≤v):decide ((2:Int)^w≤v)=(((v.toNat/2^w:Nat):Int) != 0):=by
 obtain⟨m,rfl⟩:=Int.eq_ofNat_of_zero_le h
 rw[Int.toNat_natCast,Bool.eq_iff_iff]
 have h2:(2:Int)^w=((2^w:Nat):Int):=by simp
 rw[h2,decide_eq_true_eq,bne_iff_ne]
 have hp:=Nat.two_pow_pos w
 constructor
 ·intro h3
  have:1≤m/2^w:=(Nat.le_div_iff_mul_le hp).2 (by omega)
  omega
 ·intro h3
  have:1≤m/2^w:=Nat.pos_of_ne_zero fun h=>h3 (by rw[h];rfl)
  have:=(Nat.le_div_iff_mul_le hp).1 this
  omega
theorem GD{n v w:Int}{b:List Int}(h:Ty.dM [(.struct [(.int .i64),(.slice (.int .u8))]),(.int .u64),(.int .i64)] ((n,b),v,w)):Ty.has (.struct [(.int .i64),(.slice (.int .u8))]) (n,b)∧(0≤v∧v≤18446744073709551615)∧(-9223372036854775808≤w∧w≤9223372036854775807):=h
open Go.Ev.Pl
structure EQ where
 (a0 a1 a2 a4:Int) (a5:List Int) (a6 a7:Int)
inductive z8 where
 | c0 (p:EQ) (a3:Int) (a8:List Int)
noncomputable def LL:z8→ei
 | .c0 p a3 a8=>⟨[⟨286,63,(en [(1,.int .u64 false p.a0),(2,vi p.a1),(3,.ptr 0 0),(6,.ptr 1 0),(8,.ptr 2 0),(43,vi p.a2),(44,vi a3)]),[.inLoop (cw Tryz.f286 [1,1,1,0,1,0,0]),.inBlock 1,.code (cw Tryz.f286 [1,1,1,1])],[],none⟩],[.flat false [vi p.a4,.sl yU p.a5],.flat false [vi p.a6,.bd true],.flat false [vi p.a7,.own 3],.arr false yU a8,.dead]⟩
def K8(A:bK)(bN:Int)(bB:List Int)(v:Int)(width:Int):LT ((Int×List Int)×Int) z8:=.need (A.k (@tt ((Int×List Int))) (bN,bB)) (.br (A.c .neq (A.k gZ (bN,bB)) 0) (.ret ((0,([]:List Int)),10)) (.br (A.c .lss width 0) (.ret ((0,([]:List Int)),2)) (.br (A.c .gtr width 64) (.ret ((0,([]:List Int)),2)) (.br (A.c .lss width 64) (.need (A.c .leq 0 width) (.br (A.c .neq (A.b .shr .u64 v width) 0) (.ret ((0,([]:List Int)),2)) (.br (A.c .gtr width (A.b .sub .i64 4096 bN)) (.ret ((0,([]:List Int)),3)) (.need (A.k (@tt Int) (A.b .add .i64 bN width)) (.need (A.and (A.c .eql (A.k bZ (A.b .add .i64 bN width)) (A.k bZ (A.b .add .i64 bN width))) (A.and (A.c .leq 0 (A.k bZ (A.b .add .i64 bN width))) (A.c .leq (A.k bZ (A.b .add .i64 bN width)) 140737488355328))) (.more (.c0 ⟨v,width,width,bN,bB,0,(A.b .add .i64 bN width)⟩ 0 (A.spl (A.r (A.k bZ (A.b .add .i64 bN width)) (0:Int)) 0 (A.s bB 0 (A.mn (A.l bB) (A.l (A.r (A.k bZ (A.b .add .i64 bN width)) (0:Int))))))))))))) (.br (A.c .gtr width (A.b .sub .i64 4096 bN)) (.ret ((0,([]:List Int)),3)) (.need (A.k (@tt Int) (A.b .add .i64 bN width)) (.need (A.and (A.c .eql (A.k bZ (A.b .add .i64 bN width)) (A.k bZ (A.b .add .i64 bN width))) (A.and (A.c .leq 0 (A.k bZ (A.b .add .i64 bN width))) (A.c .leq (A.k bZ (A.b .add .i64 bN width)) 140737488355328))) (.more (.c0 ⟨v,width,width,bN,bB,0,(A.b .add .i64 bN width)⟩ 0 (A.spl (A.r (A.k bZ (A.b .add .i64 bN width)) (0:Int)) 0 (A.s bB 0 (A.mn (A.l bB) (A.l (A.r (A.k bZ (A.b .add .i64 bN width)) (0:Int)))))))))))))))
def BR(A:bK):z8→LT ((Int×List Int)×Int) z8
 | .c0 p a3 a8=>.br (A.c .lss a3 p.a2) (.need (A.c .leq 0 (A.b .sub .i64 (A.b .sub .i64 p.a1 1) a3)) (.br (A.c .eql (A.b .and .u64 (A.b .shr .u64 p.a0 (A.b .sub .i64 (A.b .sub .i64 p.a1 1) a3)) 1) 1) (.need (A.and (A.c .leq 0 (A.b .quo .i64 (A.b .add .i64 p.a4 a3) 8)) (A.c .lss (A.b .quo .i64 (A.b .add .i64 p.a4 a3) 8) (A.l a8))) (.need (A.k kX (A.b .add .i64 p.a4 a3)) (.need (A.and (A.c .leq 0 (A.b .quo .i64 (A.b .add .i64 p.a4 a3) 8)) (A.c .lss (A.b .quo .i64 (A.b .add .i64 p.a4 a3) 8) (A.l a8))) (.more (.c0 p (A.b .add .i64 a3 1) (A.set a8 (A.b .quo .i64 (A.b .add .i64 p.a4 a3) 8) (A.b .or .u8 (A.n yU a8 (A.b .quo .i64 (A.b .add .i64 p.a4 a3) 8):Int) (A.k qL (A.b .add .i64 p.a4 a3))))))))) (.more (.c0 p (A.b .add .i64 a3 1) a8)))) (.ret ((p.a7,a8),0))
theorem yd{v w k:Nat}(h:k<w):(bitsOf v w).getD k false=v.testBit (w-1-k):=by
 rw[List.getD_eq_getElem?_getD,bitsOf,List.getElem?_map,List.getElem?_range h];rfl
theorem ky{B:List Int}{m i:Nat}(hB:B.length=m)(hi:i<8*m)(hm:m≤100000):(ai.and (ai.c .leq 0 (ai.b .quo .i64 (i:Int) 8)) (ai.c .lss (ai.b .quo .i64 (i:Int) 8) (ai.l B)))=true:=by
 have hlb:ai.l B=(m:Int):=by rw[←hB];rfl
 rw[kQ (by omega),hlb,iD,aT,aM];simp;omega
theorem pK{i:Nat}:ai.k kX (i:Int)=true:=by rw[al];simp[kX]
theorem MI{v:Int}{n w:Nat}{b:List Int}(hv:0≤v)(hn:n+w≤4096)(hw:w≤64):∀(j k:Nat) (p:EQ) (B:List Int),p.a0=v→p.a1=(w:Int)→p.a2=(w:Int)→p.a4=(n:Int)→p.a7=((n+w:Nat):Int)→w-k=j→k≤w→Holds B (unpack n b++(bitsOf v.toNat w).take k) ((n+w+7)/8)→aK (BR ai) (.more (.c0 p (k:Int) B)) (bM (unpack n b++bitsOf v.toNat w),0):=by
 intro j
 induction j with
 | zero=>
   intro k p B h1 h2 h3 h4 h5 hj hk hB
   have:k=w:=by omega
   subst this
   simp only[ap,BR]
   refine(aj (by rw[h3,aT];simp)).2 ?_
   rw[List.take_of_length_le (by rw[aF];exact Nat.le_refl _)] at hB
   have hl:(unpack n b++bitsOf v.toNat k).length=n+k:=by rw[List.length_append,aW,aF]
   rw[h5,hB.done (by rw[hl])]
   rw[show bM (unpack n b++bitsOf v.toNat k)=(((n+k:Nat):Int),pack (unpack n b++bitsOf v.toNat k)) from by rw[bM,hl]]
   exact .ret _
 | succ j ih=>
   intro k p B h1 h2 h3 h4 h5 hj hk hB
   simp only[ap,BR]
   have hsh:ai.b .sub .i64 (ai.b .sub .i64 p.a1 1) (k:Int)=((w-1-k:Nat):Int):=by
    rw[h2,show ai.b .sub .i64 (w:Int) 1=((w-1:Nat):Int) from iX (j:=1) (by omega) (by omega),iX (by omega) (by omega)]
   have hat:ai.b .add .i64 p.a4 (k:Int)=((n+k:Nat):Int):=by rw[h4,dV (by omega)]
   have hlen:(unpack n b++(bitsOf v.toNat w).take k).length=n+k:=by rw[List.length_append,aW,List.length_take,aF];omega
   have hts:=pZ (l:=bitsOf v.toNat w) (i:=k) (by rw[aF];omega)
   rw[yd (by omega)] at hts
   refine(ak (by rw[h3,aT];simp;omega)).2 (af.2 ⟨by rw[hsh,iD],?_⟩)
   rw[hsh,h1,EJ hv (by omega),hat]
   cases hx:v.toNat.testBit (w-1-k)
   ·rw[hx] at hts
    refine(aj rfl).2 ?_
    refine bD (congrArg LT.more (congr (congrArg (z8.c0 p) (fe (by omega))) rfl)) (ih (k+1) p B h1 h2 h3 h4 h5 (by omega) (by omega) ?_)
    rw[hts,←List.append_assoc]
    exact hB.skip
   ·rw[hx] at hts
    refine(ak rfl).2 (af.2 ⟨ky hB.1 (by omega) (by omega),af.2 ⟨pK,af.2 ⟨ky hB.1 (by omega) (by omega),?_⟩⟩⟩)
    refine bD (congrArg LT.more (congr (congrArg (z8.c0 p) (fe (by omega))) rfl)) (ih (k+1) p _ h1 h2 h3 h4 h5 (by omega) (by omega) ?_)
    rw[hts,←List.append_assoc]
    exact tK hB hlen (by omega) (by omega)
theorem grow{n w:Nat}{b:List Int}(h:okB n b)(hw:n+w≤100000):Holds (ai.spl (ai.r (ai.k bZ ((n+w:Nat):Int)) (0:Int)) 0 (ai.s b 0 (ai.mn (ai.l b) (ai.l (ai.r (ai.k bZ ((n+w:Nat):Int)) (0:Int)))))) (unpack n b) ((n+w+7)/8):=by
 have h1:=h.1
 rw[al,kp (by omega) (by omega),Int.toNat_natCast]
 have e1:ai.r ((((n+w+7)/8:Nat):Nat):Int) (0:Int)=List.replicate ((n+w+7)/8) 0:=by rw[kV,Int.toNat_natCast]
 rw[e1]
 have e2:ai.mn (ai.l b) (ai.l (List.replicate ((n+w+7)/8) (0:Int)))=(b.length:Int):=by
  rw[nC]
  show(if ((List.replicate ((n+w+7)/8) (0:Int)).length:Int)<(b.length:Int) then _ else(b.length:Int))=_
  rw[List.length_replicate,if_neg (by omega)]
 rw[e2,kx,kS]
 have e3:(b.take (b.length:Int).toNat).drop (0:Int).toNat=b:=by
  rw[Int.toNat_natCast,List.take_length];rfl
 rw[e3]
 have:=Holds.grown (m:=(n+w+7)/8) h (by omega)
 rw[show(0:Int).toNat=0 from rfl,List.take_zero,List.nil_append,Nat.zero_add,List.drop_replicate]
 exact this
theorem W_{n v w:Int}{b:List Int}(h:Ty.dM [(.struct [(.int .i64),(.slice (.int .u8))]),(.int .u64),(.int .i64)] ((n,b),v,w)):aK (BR ai) (K8 ai n b v w) (Cm ((n,b),v,w)):=by
 obtain⟨h1,hv,hw⟩:=GD h
 have hb:=(fU h1).2.2
 have hl:=dP h1
 unfold K8
 rw[Cm]
 refine af.2 ⟨rfl,?_⟩
 have hc:ai.c .neq (ai.k gZ (n,b)) 0=!bS (n,b):=by
  rw[al,i6 hb hl];cases bS (n,b)<;>rfl
 rw[hc]
 cases hok:bS (n,b)
 ·exact(ak rfl).2 (.ret _)
 ·refine(aj rfl).2 ?_
  obtain⟨h2,h3,h4⟩:=(gN hb).1 hok
  have h5:=h4.1
  rw[Bool.not_true,cond_false]
  by_cases h6:w<0
  ·refine(ak (by rw[ar];simpa using h6)).2 ?_
   rw[show decide (w<0)=true from by simpa using h6]
   exact .ret _
  ·refine(aj (by rw[ar];simpa using h6)).2 ?_
   by_cases h7:64<w
   ·refine(ak (by rw[aL];simpa using h7)).2 ?_
    rw[show decide (64<w)=true from by simpa using h7,Bool.or_true,Bool.true_or]
    exact .ret _
   ·refine(aj (by rw[aL];simpa using h7)).2 ?_
    rw[show decide (w<0)=false from by simpa using h6,show decide (64<w)=false from by simpa using h7,Bool.false_or,Bool.false_or,xt hv.1]
    obtain⟨k,rfl⟩:=Int.eq_ofNat_of_zero_le (show 0≤w by omega)
    obtain⟨m,rfl⟩:=Int.eq_ofNat_of_zero_le h2
    rw[Int.toNat_natCast] at h4 h5 ⊢
    have hadd:ai.b .add .i64 (m:Int) (k:Int)=((m+k:Nat):Int):=dV (by omega)
    have hneed:ai.k bZ ((m+k:Nat):Int)=(((m+k+7)/8:Nat):Int):=by rw[al,kp (by omega) (by omega),Int.toNat_natCast]
    have hlen:(bi ((m:Int),b)++bitsOf v.toNat k).length=m+k:=by rw[List.length_append,fB,aF,Int.toNat_natCast]
    have hfin:(((v.toNat/2^k:Nat):Int) != 0)=false→∀t,t=(LT.br (ai.c .gtr (k:Int) (ai.b .sub .i64 4096 (m:Int))) (.ret ((0,([]:List Int)),3)) (.need (ai.k (@tt Int) (ai.b .add .i64 (m:Int) (k:Int))) (.need (ai.and (ai.c .eql (ai.k bZ (ai.b .add .i64 (m:Int) (k:Int))) (ai.k bZ (ai.b .add .i64 (m:Int) (k:Int)))) (ai.and (ai.c .leq 0 (ai.k bZ (ai.b .add .i64 (m:Int) (k:Int)))) (ai.c .leq (ai.k bZ (ai.b .add .i64 (m:Int) (k:Int))) 140737488355328))) (.more (.c0 ⟨v,(k:Int),(k:Int),(m:Int),b,0,(ai.b .add .i64 (m:Int) (k:Int))⟩ 0 (ai.spl (ai.r (ai.k bZ (ai.b .add .i64 (m:Int) (k:Int))) (0:Int)) 0 (ai.s b 0 (ai.mn (ai.l b) (ai.l (ai.r (ai.k bZ (ai.b .add .i64 (m:Int) (k:Int))) (0:Int)))))))))):LT ((Int×List Int)×Int) z8)→aK (BR ai) t (bif ((v.toNat/2^k:Nat):Int) != 0 then(zB,2) else CM (bi ((m:Int),b)++bitsOf v.toNat k)):=by
     intro hz t ht
     rw[hz,cond_false,ht,CM,hlen,hadd,show ai.b .sub .i64 (4096:Int) (m:Int)=((4096-m:Nat):Int) from iX (i:=4096) (by omega) (by omega)]
     by_cases h9:4096<m+k
     ·rw[show decide (4096<m+k)=true from by simpa using h9]
      refine(ak (by rw[aL];simp;omega)).2 (.ret _)
     ·rw[show decide (4096<m+k)=false from by simpa using h9]
      refine(aj (by rw[aL];simp;omega)).2 (af.2 ⟨rfl,af.2 ⟨?_,?_⟩⟩)
      ·rw[hneed,iD,ng rfl,ay,aM,aM];simp;omega
      ·refine MI hv.1 (by omega) (by omega) k 0 _ _ rfl rfl rfl rfl rfl rfl (by omega) ?_
       rw[List.take_zero,List.append_nil]
       exact grow h4 (by omega)
    by_cases h8:k<64
    ·refine(ak (by rw[ar];simp;omega)).2 (af.2 ⟨iD,?_⟩)
     rw[IQ hv.1 (by omega)]
     cases hz:(((v.toNat/2^k:Nat):Int) != 0)
     ·refine(aj hz).2 ?_
      rw[←hz]
      exact hfin hz _ rfl
     ·exact(ak hz).2 (.ret _)
    ·refine(aj (by rw[ar];simp;omega)).2 (hfin ?_ _ rfl)
     have:k=64:=by omega
     subst this
     rw[Nat.div_eq_of_lt (by omega)];rfl
def ah:((Int×List Int)×Int×Int)→((Int×List Int)×Int):=Cm
def P7:aG:=⟨[(.struct [yI,yB]),(.int .u64),yI], [(.struct [yI,yB]),yI],(@tt ((Int×List Int)×Int×Int)),ah⟩
theorem C9:Sd 286 P7:=aQ aA dY true 114 [⟨286,9, [[1,2,3,6,8,43,44]]⟩] [] (fun A ((bN,bB),v,width)=>K8 A bN bB v width) BR LL (fc Tryz.func286 (fc Tryz.func321 (fc Tryz.func322 (fc Tryz.func324 fz)))) (sc yX (sc AZ (sc AB sz))) (fun A y=>match y with |.c0 p a3 a8=>⟨63,by kernel_rfl,by kernel_rfl⟩) fun((bN,bB),v,width) hp h=>W_ h
open Go.Ev.Pl
structure Fz where
 (a0 a2 a4:Int) (a5:List Int)
inductive F_ where
 | c0 (p:Fz) (a1:Int) (a3:Int)
noncomputable def Kb:F_→ei
 | .c0 p a1 a3=>⟨[⟨284,54,(en [(1,vi p.a0),(3,.ptr 0 0),(8,.int .u64 false a1),(39,vi p.a2),(40,vi a3)]),[.inLoop (cw Tryz.f284 [1,1,1,0,1,0,0]),.inBlock 1,.code (cw Tryz.f284 [1,1,1,1])],[],none⟩],[.flat false [vi p.a4,.sl yU p.a5],.dead]⟩
def t138(A:bK)(bN:Int)(bB:List Int)(at1:Int)(width:Int):LT (Int×Int) F_:=.need (A.k (@tt ((Int×List Int))) (bN,bB)) (.br (A.c .neq (A.k gZ (bN,bB)) 0) (.ret (0,10)) (.br (A.c .lss width 0) (.ret (0,2)) (.br (A.c .gtr width 64) (.ret (0,2)) (.br (A.c .lss at1 0) (.ret (0,2)) (.br (A.c .gtr at1 bN) (.ret (0,2)) (.br (A.c .gtr width (A.b .sub .i64 bN at1)) (.ret (0,2)) (.more (.c0 ⟨at1,width,bN,bB⟩ 0 0))))))))
def E8(A:bK):F_→LT (Int×Int) F_
 | .c0 p a1 a3=>.br (A.c .lss a3 p.a2) (.need (A.k l9 ((p.a4,p.a5),(A.b .add .i64 p.a0 a3))) (.br (A.k oY ((p.a4,p.a5),(A.b .add .i64 p.a0 a3))) (.more (.c0 p (A.b .or .u64 (A.b .shl .u64 a1 1) 1) (A.b .add .i64 a3 1))) (.more (.c0 p (A.b .shl .u64 a1 1) (A.b .add .i64 a3 1))))) (.ret (a1,0))
theorem EN{l:List Bool}{a k:Nat}(h:a+k<l.length):bO l a (k+1)=2*bO l a k+(l.getD (a+k) false).toNat:=by
 rw[bO,bO,pZ (by rw[List.length_drop];omega),nI,getD_drop]
theorem Ro{k:Nat}(h:k≤64):2^k≤18446744073709551616:=Nat.le_trans (Nat.pow_le_pow_right (by decide) h) (by decide)
theorem ym{x:Nat}(h:2*x<18446744073709551616):ai.b .shl .u64 (x:Int) 1=((2*x:Nat):Int):=by
 show IntKind.u64.wrap ((x:Int)*2^min (1:Int).toNat 64)=_
 rw[show(2:Int)^min (1:Int).toNat 64=2 from rfl,Io (by omega) (by omega)];omega
theorem Ih{x:Nat}(h:2*x<18446744073709551616):ai.b .or .u64 ((2*x:Nat):Int) 1=((2*x+1:Nat):Int):=by
 show IntKind.u64.wrap ((BitVec.ofInt 64 ((2*x:Nat):Int) ||| BitVec.ofInt 64 1).toNat:Int)=_
 rw[BitVec.ofInt_natCast,show BitVec.ofInt 64 1=BitVec.ofNat 64 1 from rfl,BitVec.toNat_or,BitVec.toNat_ofNat,BitVec.toNat_ofNat,show 1%2^64=1 from rfl,Nat.mod_eq_of_lt (by omega)]
 have:=Nat.shiftLeft_add_eq_or_of_lt (i:=1) (b:=1) (by decide) x
 rw[Nat.shiftLeft_eq,Nat.pow_one,Nat.mul_comm x 2] at this
 rw[←this,Io (by omega) (by omega)]
theorem Bg{n a w:Int}{b:List Int}(h:Ty.dM [(.struct [(.int .i64),(.slice (.int .u8))]),(.int .i64),(.int .i64)] ((n,b),a,w)):Ty.has (.struct [(.int .i64),(.slice (.int .u8))]) (n,b)∧(-9223372036854775808≤a∧a≤9223372036854775807)∧(-9223372036854775808≤w∧w≤9223372036854775807):=h
theorem OI{n a w:Nat}{b:List Int}(hb:cn b)(hl:b.length≤100000)(hn:n≤8*b.length)(haw:a+w≤n)(hw:w≤64):∀(j k:Nat) (p:Fz),p.a0=(a:Int)→p.a2=(w:Int)→p.a5=b→w-k=j→k≤w→aK (E8 ai) (.more (.c0 p ((bO (unpack n b) a k:Nat):Int) (k:Int))) (((bO (unpack n b) a w:Nat):Int),0):=by
 intro j
 induction j with
 | zero=>
   intro k p h1 h2 h3 hj hk
   have:k=w:=by omega
   subst this
   simp only[ap,E8]
   exact(aj (by rw[h2,aT];simp)).2 (.ret _)
 | succ j ih=>
   intro k p h1 h2 h3 hj hk
   simp only[ap,E8]
   have hat:ai.b .add .i64 p.a0 (k:Int)=((a+k:Nat):Int):=by rw[h1,dV (by omega)]
   have hf:=gm (unpack n b) a k
   have hp:=Ro (k:=k+1) (by omega)
   rw[Nat.pow_succ] at hp
   have hs:=EN (l:=unpack n b) (a:=a) (k:=k) (by rw[aW];omega)
   rw[iA,show decide (a+k<n)=true from by simp;omega,Bool.true_and] at hs
   refine(ak (by rw[h2,aT];simp;omega)).2 (af.2 ⟨by rw[hat,h3,al];simp[l9];omega,?_⟩)
   have hc:ai.k oY ((p.a4,p.a5),ai.b .add .i64 p.a0 (k:Int))=dU b (a+k):=by
    rw[hat,h3,al,sL hb (by omega) (by omega) (by omega),Int.toNat_natCast]
   have hm:=ih (k+1) p h1 h2 h3 (by omega) (by omega)
   cases hx:dU b (a+k)
   ·rw[hx] at hs
    refine(aj (hc.trans hx)).2 ?_
    rw[hs,show 2*bO (unpack n b) a k+false.toNat=2*bO (unpack n b) a k from rfl,←ym (by omega),←fe (by omega)] at hm
    exact hm
   ·rw[hx] at hs
    refine(ak (hc.trans hx)).2 ?_
    rw[hs,show 2*bO (unpack n b) a k+true.toNat=2*bO (unpack n b) a k+1 from rfl,←Ih (by omega),←ym (by omega),←fe (by omega)] at hm
    exact hm
theorem Vl{n a w:Int}{b:List Int}(h:Ty.dM [(.struct [(.int .i64),(.slice (.int .u8))]),(.int .i64),(.int .i64)] ((n,b),a,w)):aK (E8 ai) (t138 ai n b a w) (Ci ((n,b),a,w)):=by
 obtain⟨h1,ha,hw⟩:=Bg h
 have hb:=(fU h1).2.2
 have hl:=dP h1
 unfold t138
 rw[Ci]
 refine af.2 ⟨rfl,?_⟩
 have hc:ai.c .neq (ai.k gZ (n,b)) 0=!bS (n,b):=by
  rw[al,i6 hb hl];cases bS (n,b)<;>rfl
 rw[hc]
 cases hok:bS (n,b)
 ·exact(ak rfl).2 (.ret _)
 ·refine(aj rfl).2 ?_
  obtain⟨h2,h3,h4⟩:=(gN hb).1 hok
  have h5:=h4.1
  rw[Bool.not_true,cond_false]
  by_cases h6:w<0
  ·refine(ak (by rw[ar];simpa using h6)).2 ?_
   rw[show decide (w<0)=true from by simpa using h6]
   exact .ret _
  refine(aj (by rw[ar];simpa using h6)).2 ?_
  by_cases h7:64<w
  ·refine(ak (by rw[aL];simpa using h7)).2 ?_
   rw[show decide (64<w)=true from by simpa using h7]
   simp only[Bool.or_true,Bool.true_or]
   exact .ret _
  refine(aj (by rw[aL];simpa using h7)).2 ?_
  by_cases h8:a<0
  ·refine(ak (by rw[ar];simpa using h8)).2 ?_
   rw[show decide (a<0)=true from by simpa using h8]
   simp only[Bool.or_true,Bool.true_or]
   exact .ret _
  refine(aj (by rw[ar];simpa using h8)).2 ?_
  rw[show decide (w<0)=false from by simpa using h6,show decide (64<w)=false from by simpa using h7,show decide (a<0)=false from by simpa using h8]
  by_cases h9:n<a
  ·refine(ak (by rw[aL];simpa using h9)).2 ?_
   rw[show decide (n<a+w)=true from by simp;omega]
   exact .ret _
  refine(aj (by rw[aL];simpa using h9)).2 ?_
  rw[bl,gW (by omega) (by omega)]
  by_cases h10:n<a+w
  ·refine(ak (by rw[aL];simp;omega)).2 ?_
   rw[show decide (n<a+w)=true from by simpa using h10]
   exact .ret _
  refine(aj (by rw[aL];simp;omega)).2 ?_
  rw[show decide (n<a+w)=false from by simpa using h10]
  obtain⟨k,rfl⟩:=Int.eq_ofNat_of_zero_le (show 0≤w by omega)
  obtain⟨i,rfl⟩:=Int.eq_ofNat_of_zero_le (show 0≤a by omega)
  exact OI (n:=n.toNat) hb (by omega) (by omega) (by omega) (by omega) k 0 _ rfl rfl rfl (by omega) (by omega)
def au:((Int×List Int)×Int×Int)→(Int×Int):=Ci
def Un:aG:=⟨[(.struct [yI,yB]),yI,yI], [(.int .u64),yI],(@tt ((Int×List Int)×Int×Int)),au⟩
theorem A4:Sd 284 Un:=aQ aA dY true 65 [⟨284,7, [[1,3,8,39,40]]⟩] [] (fun A ((bN,bB),at1,width)=>t138 A bN bB at1 width) E8 Kb (fc Tryz.func284 fz) (sc yX (sc DC sz)) (fun A y=>match y with |.c0 p a1 a3=>⟨45,by kernel_rfl,by kernel_rfl⟩) fun((bN,bB),at1,width) hp h=>Vl h
open Go.Ev.Pl
structure El where
 (a0 a1 a2 a4 a5:Int) (a6:List Int) (a7 a8:Int)
inductive Cg where
 | c0 (p:El) (a3:Int) (a9:List Int)
noncomputable def JU:Cg→ei
 | .c0 p a3 a9=>⟨[⟨325,52,(en [(1,vi p.a0),(3,vi p.a1),(4,vi p.a2),(5,.ptr 0 0),(7,.ptr 1 0),(10,vi a3)]),[.inLoop (cw Tryz.f325 [1,1,1,0,0]),.inBlock 0],[],none⟩,⟨288,39,(en [(6,.ptr 2 0),(8,.ptr 3 0)]),[.ops (ow Tryz.f288 [1,1,1,0]) ((ow Tryz.f288 [1,1,1,0]).toList.drop 4),.code (cw Tryz.f288 [1,1,1,1])],[],none⟩],[.flat false [vi p.a4,.own 4],.flat false [vi p.a5,.sl yU p.a6],.flat false [vi p.a7,.bd true],.flat false [vi p.a8,.own 4],.arr false yU a9,.dead]⟩
def Mh(A:bK)(bN:Int)(bB:List Int)(from1:Int)(to:Int):LT ((Int×List Int)×Int) Cg:=.need (A.k (@tt ((Int×List Int))) (bN,bB)) (.br (A.c .neq (A.k gZ (bN,bB)) 0) (.ret ((0,([]:List Int)),10)) (.br (A.c .lss from1 0) (.ret ((0,([]:List Int)),2)) (.br (A.c .lss to from1) (.ret ((0,([]:List Int)),2)) (.br (A.c .gtr to bN) (.ret ((0,([]:List Int)),2)) (.need (A.k (@tt Int) (A.b .sub .i64 to from1)) (.need (A.and (A.c .eql (A.k bZ (A.b .sub .i64 to from1)) (A.k bZ (A.b .sub .i64 to from1))) (A.and (A.c .leq 0 (A.k bZ (A.b .sub .i64 to from1))) (A.c .leq (A.k bZ (A.b .sub .i64 to from1)) 140737488355328))) (.br (A.c .eql (A.b .rem .i64 from1 8) 0) (.br (A.c .eql to bN) (.need (A.and (A.c .leq 0 0) (A.and (A.c .leq 0 (A.l (A.r (A.k bZ (A.b .sub .i64 to from1)) (0:Int)))) (A.c .leq (A.l (A.r (A.k bZ (A.b .sub .i64 to from1)) (0:Int))) (A.l (A.r (A.k bZ (A.b .sub .i64 to from1)) (0:Int)))))) (.need (A.and (A.c .leq 0 (A.b .quo .i64 from1 8)) (A.and (A.c .leq (A.b .quo .i64 from1 8) (A.l bB)) (A.c .leq (A.l bB) (A.l bB)))) (.ret (((A.b .sub .i64 to from1),(A.spl (A.r (A.k bZ (A.b .sub .i64 to from1)) (0:Int)) 0 (A.s (A.s bB (A.b .quo .i64 from1 8) (A.l bB)) 0 (A.mn (A.l (A.s bB (A.b .quo .i64 from1 8) (A.l bB))) (A.b .sub .i64 (A.l (A.r (A.k bZ (A.b .sub .i64 to from1)) (0:Int))) 0))))),0)))) (.more (.c0 ⟨0,from1,to,(A.b .sub .i64 to from1),bN,bB,0,(A.b .sub .i64 to from1)⟩ from1 (A.r (A.k bZ (A.b .sub .i64 to from1)) (0:Int))))) (.more (.c0 ⟨0,from1,to,(A.b .sub .i64 to from1),bN,bB,0,(A.b .sub .i64 to from1)⟩ from1 (A.r (A.k bZ (A.b .sub .i64 to from1)) (0:Int)))))))))))
def An(A:bK):Cg→LT ((Int×List Int)×Int) Cg
 | .c0 p a3 a9=>.br (A.c .lss a3 p.a2) (.need (A.k l9 ((p.a5,p.a6),a3)) (.br (A.k oY ((p.a5,p.a6),a3)) (.need (A.and (A.c .leq 0 (A.b .quo .i64 (A.b .sub .i64 (A.b .add .i64 p.a0 a3) p.a1) 8)) (A.c .lss (A.b .quo .i64 (A.b .sub .i64 (A.b .add .i64 p.a0 a3) p.a1) 8) (A.l a9))) (.need (A.k kX (A.b .sub .i64 (A.b .add .i64 p.a0 a3) p.a1)) (.need (A.and (A.c .leq 0 (A.b .quo .i64 (A.b .sub .i64 (A.b .add .i64 p.a0 a3) p.a1) 8)) (A.c .lss (A.b .quo .i64 (A.b .sub .i64 (A.b .add .i64 p.a0 a3) p.a1) 8) (A.l a9))) (.more (.c0 p (A.b .add .i64 a3 1) (A.set a9 (A.b .quo .i64 (A.b .sub .i64 (A.b .add .i64 p.a0 a3) p.a1) 8) (A.b .or .u8 (A.n yU a9 (A.b .quo .i64 (A.b .sub .i64 (A.b .add .i64 p.a0 a3) p.a1) 8):Int) (A.k qL (A.b .sub .i64 (A.b .add .i64 p.a0 a3) p.a1))))))))) (.more (.c0 p (A.b .add .i64 a3 1) a9)))) (.ret ((p.a8,a9),0))
theorem GR{n a c:Nat}{b:List Int}(hb:cn b)(hl:b.length≤100000)(hn:n≤8*b.length)(hac:a≤c)(hc:c≤n):∀(j i:Nat) (p:El) (B:List Int),p.a0=0→p.a1=(a:Int)→p.a2=(c:Int)→p.a6=b→p.a8=((c-a:Nat):Int)→c-i=j→a≤i→i≤c→Holds B ((((unpack n b).take c).drop a).take (i-a)) ((c-a+7)/8)→aK (An ai) (.more (.c0 p (i:Int) B)) (bM (((unpack n b).take c).drop a),0):=by
 have hL:(((unpack n b).take c).drop a).length=c-a:=by rw[List.length_drop,List.length_take,aW];omega
 intro j
 induction j with
 | zero=>
   intro i p B h0 h1 h2 h3 h4 hj hi hi2 hB
   have:i=c:=by omega
   subst this
   simp only[ap,An]
   refine(aj (by rw[h2,aT];simp)).2 ?_
   rw[List.take_of_length_le (by rw[hL];exact Nat.le_refl _)] at hB
   rw[h4,hB.done (by rw[hL]),show bM (((unpack n b).take i).drop a)=(((i-a:Nat):Int),pack (((unpack n b).take i).drop a)) from by rw[bM,hL]]
   exact .ret _
 | succ j ih=>
   intro i p B h0 h1 h2 h3 h4 hj hi hi2 hB
   simp only[ap,An]
   have hat:ai.b .sub .i64 (ai.b .add .i64 p.a0 (i:Int)) p.a1=((i-a:Nat):Int):=by
    rw[h0,h1,show ai.b .add .i64 (0:Int) (i:Int)=((0+i:Nat):Int) from dV (i:=0) (by omega),iX (by omega) (by omega),Nat.zero_add]
   have hts:=pZ (l:=((unpack n b).take c).drop a) (i:=i-a) (by rw[hL];omega)
   rw[getD_drop,getD_take,iA,show a+(i-a)=i from by omega,show decide (i<c)=true from by simp;omega,show decide (i<n)=true from by simp;omega,Bool.true_and,Bool.true_and] at hts
   have hlen:((((unpack n b).take c).drop a).take (i-a)).length=i-a:=by rw[List.length_take,hL];omega
   refine(ak (by rw[h2,aT];simp;omega)).2 (af.2 ⟨by rw[h3,al];simp[l9];omega,?_⟩)
   have hc:ai.k oY ((p.a5,p.a6),(i:Int))=dU b i:=by
    rw[h3,al,sL hb (by omega) (by omega) (by omega),Int.toNat_natCast]
   rw[hat]
   cases hx:dU b i
   ·rw[hx] at hts
    refine(aj (hc.trans hx)).2 ?_
    refine bD (congrArg LT.more (congr (congrArg (Cg.c0 p) (fe (by omega))) rfl)) (ih (i+1) p B h0 h1 h2 h3 h4 (by omega) (by omega) (by omega) ?_)
    rw[show i+1-a=i-a+1 from by omega,hts]
    exact hB.skip
   ·rw[hx] at hts
    refine(ak (hc.trans hx)).2 (af.2 ⟨ky hB.1 (by omega) (by omega),af.2 ⟨pK,af.2 ⟨ky hB.1 (by omega) (by omega),?_⟩⟩⟩)
    refine bD (congrArg LT.more (congr (congrArg (Cg.c0 p) (fe (by omega))) rfl)) (ih (i+1) p _ h0 h1 h2 h3 h4 (by omega) (by omega) (by omega) ?_)
    rw[show i+1-a=i-a+1 from by omega,hts]
    exact tK hB hlen (by omega) (by omega)
theorem BV(b:List Int)(i j:Nat):dU (b.drop i) j=dU b (8*i+j):=by
 rw[dU,dU,List.getD_eq_getElem?_getD,List.getD_eq_getElem?_getD,List.getElem?_drop,show(8*i+j)/8=i+j/8 from by omega,show(8*i+j)%8=j%8 from by omega]
theorem CG{n i:Nat}{b:List Int}(h:okB n b)(hi:8*i≤n):b.drop i=pack ((unpack n b).drop (8*i)):=by
 have h1:=h.1
 apply A5
 ·rw[List.length_drop,List.length_drop,aW];omega
 ·exact fun x hx=>h.2.1 x (List.mem_of_mem_drop hx)
 ·intro j hj
  rw[List.length_drop] at hj
  rw[BV,getD_drop,iA]
  by_cases h2:8*i+j<n
  ·rw[show decide (8*i+j<n)=true from by simpa using h2,Bool.true_and]
  ·rw[show decide (8*i+j<n)=false from by simpa using h2,Bool.false_and]
   exact h.2.2 _ (by omega) (by omega)
theorem AO{b:List Int}{i:Nat}:ai.s b (i:Int) (ai.l b)=b.drop i:=by
 show(b.take (b.length:Int).toNat).drop (i:Int).toNat=_
 rw[Int.toNat_natCast,Int.toNat_natCast,List.take_length]
theorem KF{n a c:Int}{b:List Int}(h:Ty.dM [(.struct [(.int .i64),(.slice (.int .u8))]),(.int .i64),(.int .i64)] ((n,b),a,c)):aK (An ai) (Mh ai n b a c) (bV ((n,b),a,c)):=by
 obtain⟨h1,ha,hw⟩:=Bg h
 have hb:=(fU h1).2.2
 have hl:=dP h1
 unfold Mh
 rw[bV]
 refine af.2 ⟨rfl,?_⟩
 have hc:ai.c .neq (ai.k gZ (n,b)) 0=!bS (n,b):=by
  rw[al,i6 hb hl];cases bS (n,b)<;>rfl
 rw[hc]
 cases hok:bS (n,b)
 ·exact(ak rfl).2 (.ret _)
 ·refine(aj rfl).2 ?_
  obtain⟨h2,h3,h4⟩:=(gN hb).1 hok
  have h5:=h4.1
  rw[Bool.not_true,cond_false]
  by_cases h6:a<0
  ·refine(ak (by rw[ar];simpa using h6)).2 ?_
   rw[show decide (a<0)=true from by simpa using h6]
   exact .ret _
  refine(aj (by rw[ar];simpa using h6)).2 ?_
  by_cases h7:c<a
  ·refine(ak (by rw[ar];simpa using h7)).2 ?_
   rw[show decide (c<a)=true from by simpa using h7]
   simp only[Bool.or_true,Bool.true_or]
   exact .ret _
  refine(aj (by rw[ar];simpa using h7)).2 ?_
  by_cases h8:n<c
  ·refine(ak (by rw[aL];simpa using h8)).2 ?_
   rw[show decide (n<c)=true from by simpa using h8]
   simp only[Bool.or_true,Bool.true_or]
   exact .ret _
  refine(aj (by rw[aL];simpa using h8)).2 ?_
  rw[show decide (a<0)=false from by simpa using h6,show decide (c<a)=false from by simpa using h7,show decide (n<c)=false from by simpa using h8]
  obtain⟨k,rfl⟩:=Int.eq_ofNat_of_zero_le (show 0≤c by omega)
  obtain⟨i,rfl⟩:=Int.eq_ofNat_of_zero_le (show 0≤a by omega)
  obtain⟨m,rfl⟩:=Int.eq_ofNat_of_zero_le h2
  rw[Int.toNat_natCast] at h4 h5
  have hsub:ai.b .sub .i64 (k:Int) (i:Int)=((k-i:Nat):Int):=iX (by omega) (by omega)
  have hneed:ai.k bZ ((k-i:Nat):Int)=(((k-i+7)/8:Nat):Int):=by rw[al,kp (by omega) (by omega),Int.toNat_natCast]
  show aK (An ai) _ (bM (((unpack m b).take k).drop i),0)
  rw[hsub]
  have hrep:ai.r (ai.k bZ ((k-i:Nat):Int)) (0:Int)=List.replicate ((k-i+7)/8) 0:=by rw[hneed,kV,Int.toNat_natCast]
  have hmore:aK (An ai) (.more (.c0 ⟨0,(i:Int),(k:Int),((k-i:Nat):Int),(m:Int),b,0,((k-i:Nat):Int)⟩ (i:Int) (ai.r (ai.k bZ ((k-i:Nat):Int)) (0:Int)))) (bM (((unpack m b).take k).drop i),0):=by
   refine GR hb (by omega) (by omega) (by omega) (by omega) (k-i) i _ _ rfl rfl rfl rfl rfl (by omega) (by omega) (by omega) ?_
   rw[Nat.sub_self,List.take_zero,hrep]
   exact Holds.blank _
  refine af.2 ⟨rfl,af.2 ⟨by rw[hneed,iD,ng rfl,ay,aM,aM];simp;omega,?_⟩⟩
  by_cases h9:i%8=0
  ·refine(ak (ng (by rw[ry,h9];rfl))).2 ?_
   by_cases h10:k=m
   ·subst h10
    refine(ak (ng rfl)).2 (af.2 ⟨?_,af.2 ⟨?_,?_⟩⟩)
    ·rw[hrep]
     have:ai.l (List.replicate ((k-i+7)/8) (0:Int))=(((k-i+7)/8:Nat):Int):=by show((List.replicate ((k-i+7)/8) (0:Int)).length:Int)=_;rw[List.length_replicate]
     rw[this,iD,f_,aM,aM];simp[ay]
    ·have:ai.l b=((b.length:Nat):Int):=rfl
     rw[kQ (by omega),this,iD,f_,f_,aM,aM];simp;omega
    ·have hd:=CG h4 (i:=i/8) (by omega)
     rw[show 8*(i/8)=i from by omega] at hd
     have hL:((unpack k b).drop i).length=k-i:=by rw[List.length_drop,aW]
     rw[hrep,kQ (by omega),AO]
     have e1:ai.mn (ai.l (b.drop (i/8))) (ai.b .sub .i64 (ai.l (List.replicate ((k-i+7)/8) (0:Int))) 0)=((b.drop (i/8)).length:Int):=by
      show ai.mn ((b.drop (i/8)).length:Int) (ai.b .sub .i64 ((List.replicate ((k-i+7)/8) (0:Int)).length:Int) 0)=_
      rw[List.length_replicate,bl,gW (by omega) (by omega),nC,if_neg (by rw[List.length_drop];omega)]
     rw[e1,kx,kS,Int.toNat_natCast,List.take_length]
     have e2:(List.replicate ((k-i+7)/8) (0:Int)).take (0:Int).toNat++(b.drop (i/8)).drop (0:Int).toNat++(List.replicate ((k-i+7)/8) (0:Int)).drop ((0:Int).toNat+((b.drop (i/8)).drop (0:Int).toNat).length)=b.drop (i/8):=by
      show[]++b.drop (i/8)++(List.replicate ((k-i+7)/8) (0:Int)).drop (0+(b.drop (i/8)).length)=_
      rw[List.drop_replicate,List.length_drop,show(k-i+7)/8-(0+(b.length-i/8))=0 from by omega,List.replicate_zero,List.append_nil,List.nil_append]
     rw[e2,hd,List.take_of_length_le (by rw[aW];exact Nat.le_refl _),show bM ((unpack k b).drop i)=(((k-i:Nat):Int),pack ((unpack k b).drop i)) from by rw[bM,hL]]
     exact .ret _
   ·exact(aj (AS (by omega))).2 hmore
  ·exact(aj (AS (by rw[ry];omega))).2 hmore
def bR:((Int×List Int)×Int×Int)→((Int×List Int)×Int):=bV
def Ox:aG:=⟨[(.struct [yI,yB]),yI,yI], [(.struct [yI,yB]),yI],(@tt ((Int×List Int)×Int×Int)),bR⟩
theorem Ja:Sd 288 Ox:=aQ aA dY true 118 [⟨325,4, [[1,3,4,5,7,10], [6,8]]⟩] [] (fun A ((bN,bB),from1,to)=>Mh A bN bB from1 to) An JU (fc Tryz.func288 (fc Tryz.func322 (fc Tryz.func324 (fc Tryz.func325 fz)))) (sc yX (sc AZ (sc DC (sc AB sz)))) (fun A y=>match y with |.c0 p a3 a9=>⟨57,by kernel_rfl,by kernel_rfl⟩) fun((bN,bB),from1,to) hp h=>KF h
open Go.Ev.Pl
theorem ol{l:List (Int×List Int)}(h:Ty.dM [(.slice (.struct [(.int .i64),(.slice (.int .u8))]))] l):l.length≤140737488355328∧∀x∈l,cn x.2∧x.2.length≤140737488355328:=by
 have h1:l.length≤cY∧∀x∈l,Ty.has (.struct [(.int .i64),(.slice (.int .u8))]) x:=h
 exact⟨h1.1,fun x hx=>⟨(fU (n:=x.1) (b:=x.2) (h1.2 x hx)).2.2,(fU (n:=x.1) (b:=x.2) (h1.2 x hx)).2.1⟩⟩
theorem getD_in{α:Type}{l:List α}{i:Nat}(h:i<l.length)(d:α):l.getD (i:Int).toNat d=l[i]:=by
 rw[Int.toNat_natCast,List.getD_eq_getElem?_getD,List.getElem?_eq_getElem h];rfl
theorem sN{l:List (Int×List Int)}{i:Nat}(h:i<l.length):(ai.n (.struct [(.int .i64),(.slice (.int .u8))]) l (i:Int):Int×List Int)=l[i]:=by
 exact getD_in h _
theorem cB{α:Type}{l:List α}{i:Nat}(h:i<l.length):ai.and (ai.c .leq 0 (i:Int)) (ai.c .lss (i:Int) (ai.l l))=true:=by
 have:ai.l l=(l.length:Int):=rfl
 rw[this,iD,aT,aM];simpa using h
theorem J_{x:Int×List Int}(h:bS x=true):(bi x).length≤4096:=by
 obtain⟨n,b⟩:=x
 rw[fB]
 simp only[bS,Bool.and_eq_true,decide_eq_true_eq] at h
 show n.toNat≤4096
 omega
theorem Fe{l:List Bool}(h:4096<l.length):CM l=(zB,3):=by
 rw[CM,show decide (4096<l.length)=true from by simpa using h];rfl
theorem mO{l:List (Int×List Int)}{i:Nat}(h:i<l.length):(l.take (i+1)).flatMap bi=(l.take i).flatMap bi++bi l[i]:=by
 rw[List.take_succ_eq_append_getElem h,List.flatMap_append]
 simp
theorem mD{l:List Bool}(h:l.length≤4096):CM l=(bM l,0):=by
 rw[CM,show decide (4096<l.length)=false from by simpa using h];rfl
end Go.Ev.M
