/-
  PROVED: what the functions of the packages bits and metronomeref01 compute. Conditions: none.
-/
import Derived.Test.YteldjjjcdpnnbaaGreatTy
import Derived.Test.YteldjjjcdpnnbaaGreatEvC
import Derived.Test.YteldjjjcdpnnbaaGreatPl
namespace Go.Ev.M
open Go.Proofs
set_option maxRecDepth 100000
set_option linter.unusedVariables false
set_option linter.unusedSimpArgs false
open Go.Ev.Pl
open Go.Ev.Pl
theorem Gd{i:Int}(h:0≤i)(h2:i≤4611686018427387904):aj.b .quo .i64 i 8=((i.toNat/8:Nat):Int):=by
 rw[HY,Int.tdiv_eq_ediv_of_nonneg h,fV (by omega) (by omega)];omega
theorem EC{i:Int}(h:0≤i):aj.b .rem .i64 i 8=((i.toNat%8:Nat):Int):=by
 rw[wZ,Int.tmod_eq_emod_of_nonneg h];omega
theorem dF{n:Int}{b:List Int}(h:Ty.has (.struct [(.int .i64),(.slice (.int .u8))]) (n,b)):(-9223372036854775808≤n∧n≤9223372036854775807)∧b.length≤dI∧bX b:=by
 simp only[Ty.has,Ty.cB] at h
 exact⟨h.1,h.2.1,fun x hx=>h.2.2 x hx⟩
theorem du{n:Int}{b:List Int}(h:Ty.has (.struct [(.int .i64),(.slice (.int .u8))]) (n,b)):b.length≤140737488355328:=(dF h).2.1
theorem Kp{b:List Int}{i:Int}(h:Ty.cB [(.slice (.int .u8)),(.int .i64)] (b,i)):b.length≤140737488355328:=by
 simp only[Ty.cB,Ty.has] at h
 exact h.1.1
def OF(A:a_)(n:Int):LT Int Empty:=.ret (A.b .quo .i64 (A.b .add .i64 n 7) 8)
def dN:Int→Int:=fun n=>(OF aj n).val (Ty.bE [yI])
def Zw:aB:=⟨[yI], [yI],(@tt Int),dN⟩
theorem MU:Sd 246 Zw:=aJ ax bK true 17 [] (fun A n=>OF A n) (fc Tryz.func246 fz) sz (fun(n:Int) hp h=>by
 show(OF aj n).pre=true
 rfl)
def KW(A:a_)(i:Int):LT Int Empty:=.need (A.c .leq 0 (A.b .rem .i64 i 8)) (.ret (A.b .shr .u8 128 (A.b .rem .i64 i 8)))
def zK:Int→Int:=fun i=>(KW aj i).val (Ty.bE [yU])
def oK:Int→Bool:=fun i=>decide (0≤i)
def ZK:aB:=⟨[yI], [yU],oK,zK⟩
theorem L6:Sd 264 ZK:=aJ ax bK true 17 [] (fun A i=>KW A i) (fc Tryz.func264 fz) sz (fun(i:Int) hp h=>by
 show(KW aj i).pre=true
 simp only[KW,LT.pre,cY,aC,aH,ar,ay,aG,aM,aQ,aT,dn,al,bf,aX,bd,bS,bH,Bool.and_eq_true,Bool.or_eq_true,Bool.and_eq_false_iff,Bool.or_eq_false_iff,Bool.not_eq_true',Bool.not_eq_false',decide_eq_true_eq,decide_eq_false_iff_not,bne_iff_ne,beq_iff_eq,bne_eq_false_iff_eq,beq_eq_false_iff_ne]
 simp only[oK,decide_eq_true_eq] at hp
 rw[EC hp];exact⟨by omega,trivial⟩)
theorem od{n:Int}(h:0≤n)(h2:n≤4611686018427387000):dN n=(((n.toNat+7)/8:Nat):Int):=by
 simp only[dN,OF,LT.val]
 rw[bf,fV (by omega) (by omega),Gd (by omega) (by omega)]
 omega
theorem Np:∀k:Fin 8,aj.b .shr .u8 128 (k.val:Int)=((128 >>> k.val:Nat):Int):=by decide +kernel
theorem Eh{i:Int}(h:0≤i):zK i=((128 >>> (i.toNat%8):Nat):Int):=by
 simp only[zK,KW,LT.val]
 rw[EC h]
 exact Np ⟨i.toNat%8,Nat.mod_lt _ (by decide)⟩
theorem Q5:∀c:Fin 256,∀k:Fin 8,(aj.b .and .u8 (c.val:Int) ((128 >>> k.val:Nat):Int) != 0)=c.val.testBit (7-k.val):=by decide +kernel
theorem zH{l:List Int}(h:bX l)(i:Nat):0≤l.getD i 0∧l.getD i 0≤255:=by
 rw[List.getD_eq_getElem?_getD]
 by_cases hi:i<l.length
 ·rw[List.getElem?_eq_getElem hi];exact h _ (List.getElem_mem hi)
 ·rw[List.getElem?_eq_none (by omega)];decide
theorem OP{l:List Int}(h:bX l)(i:Nat):(aj.b .and .u8 (l.getD (i/8) 0) ((128 >>> (i%8):Nat):Int) != 0)=fM l i:=by
 have h1:=zH h (i/8)
 have h2:=Q5 ⟨(l.getD (i/8) 0).toNat,by omega⟩ ⟨i%8,Nat.mod_lt _ (by decide)⟩
 simp only at h2
 rw[show(((l.getD (i/8) 0).toNat:Nat):Int)=l.getD (i/8) 0 from by omega] at h2
 exact h2
def N3(A:a_)(bN:Int)(bB:List Int)(i:Int):LT Bool Empty:=.need (A.and (A.c .leq 0 (A.b .quo .i64 i 8)) (A.c .lss (A.b .quo .i64 i 8) (A.l bB))) (.need (A.k oK i) (.ret (A.c .neq (A.b .and .u8 (A.n yU bB (A.b .quo .i64 i 8):Int) (A.k zK i)) 0)))
def yQ:((Int×List Int)×Int)→Bool:=fun((bN,bB),i)=>(N3 aj bN bB i).val (Ty.bE [.bool])
def tM:((Int×List Int)×Int)→Bool:=fun((n,b),i)=>decide (0≤i)&&decide (i<8*(b.length:Int))
def abq:aB:=⟨[(.struct [yI,yB]),yI], [.bool],tM,yQ⟩
theorem R5:Sd 257 abq:=aJ ax bK true 25 [] (fun A ((bN,bB),i)=>N3 A bN bB i) (fc Tryz.func257 fz) (sc L6 sz) (fun(((bN,bB),i):(Int×List Int)×Int) hp h=>by
 show(N3 aj bN bB i).pre=true
 simp only[tM,Bool.and_eq_true,decide_eq_true_eq] at hp
 have hl:=du h.1
 simp only[N3,LT.pre,al,aQ,ay,ar,oK,Bool.and_eq_true,decide_eq_true_eq,bS]
 rw[Gd hp.1 (by omega)]
 refine⟨⟨by omega,by omega⟩,hp.1,trivial⟩)
theorem ER{n:Int}{b:List Int}{i:Int}(hb:bX b)(h0:0≤i)(h1:i<8*(b.length:Int))(hl:b.length≤140737488355328):yQ ((n,b),i)=fM b i.toNat:=by
 simp only[yQ,N3,LT.val,al,aH]
 rw[Gd h0 (by omega),Eh h0]
 exact OP hb i.toNat
def XA(A:a_)(bN:Int)(bB:List Int):LT Int Empty:=.br (A.c .lss bN 0) (.ret 10) (.br (A.c .gtr bN 4096) (.ret 10) (.need (A.k (@tt Int) bN) (.br (A.c .neq (A.l bB) (A.k dN bN)) (.ret 10) (.br (A.c .neq (A.b .rem .i64 bN 8) 0) (.need (A.and (A.c .leq 0 (A.b .sub .i64 (A.l bB) 1)) (A.c .lss (A.b .sub .i64 (A.l bB) 1) (A.l bB))) (.need (A.c .leq 0 (A.b .rem .i64 bN 8)) (.br (A.c .neq (A.b .and .u8 (A.n yU bB (A.b .sub .i64 (A.l bB) 1):Int) (A.b .shr .u8 255 (A.b .rem .i64 bN 8))) 0) (.ret 10) (.ret 0)))) (.ret 0)))))
def kD:((Int×List Int))→Int:=fun(bN,bB)=>(XA aj bN bB).val (Ty.bE [yI])
def ahX:aB:=⟨[(.struct [yI,yB])], [yI],(@tt ((Int×List Int))),kD⟩
theorem FJ:Sd 230 ahX:=aJ ax bK true 67 [] (fun A (bN,bB)=>XA A bN bB) (fc Tryz.func230 fz) (sc MU sz) (fun((bN,bB):(Int×List Int)) hp h=>by
 show(XA aj bN bB).pre=true
 have hl:=du h
 simp only[XA,LT.pre,al,aH,ar,aG,ay,aQ,bH,Bool.true_and,bS,cY,decide_eq_true_eq,decide_eq_false_iff_not,Bool.and_eq_true,bne_iff_ne,bne_eq_false_iff_eq,ne_eq,implies_true,and_true,true_and]
 intro h0 h1 h2 h3
 rw[od (by omega) (by omega)] at h2
 rw[EC (by omega)] at h3
 rw[aX,fV (by omega) (by omega),EC (by omega)]
 omega)
theorem KF:∀c:Fin 256,∀r:Fin 8,(aj.b .and .u8 (c.val:Int) (aj.b .shr .u8 255 (r.val:Int)) != 0)=!((List.range 8).all fun k=>decide (k<r.val) || !c.val.testBit (7-k)):=by decide +kernel
theorem Jf{n:Int}{b:List Int}(hb:bX b)(hl:b.length≤140737488355328):kD (n,b)=0↔0≤n∧n≤4096∧okB n.toNat b:=by
 simp only[kD,XA,LT.val,al,aH,ar,aG]
 by_cases h0:n<0
 ·simp only[h0,decide_true,cond_true]
  constructor
  ·intro h;cases h
  ·intro h;omega
 ·simp only[h0,decide_false,cond_false]
  by_cases h1:4096<n
  ·simp only[h1,decide_true,cond_true]
   constructor
   ·intro h;cases h
   ·intro h;omega
  ·simp only[h1,decide_false,cond_false]
   rw[od (by omega) (by omega)]
   have hlen:aj.l b=(b.length:Int):=rfl
   rw[hlen]
   by_cases h2:b.length=(n.toNat+7)/8
   ·rw[show((b.length:Int) != (((n.toNat+7)/8:Nat):Int))=false from by rw[h2];exact bne_self_eq_false _,cond_false,EC (by omega)]
    by_cases h3:n.toNat%8=0
    ·rw[h3]
     simp only[Int.natCast_zero,bne_self_eq_false,cond_false,true_iff]
     exact⟨by omega,by omega,h2,hb,fun i h4 h5=>by omega⟩
    ·rw[show(((n.toNat%8:Nat):Int) != 0)=true from by simp;omega,cond_true]
     have e:(aj.n (.int .u8) b (aj.b .sub .i64 (b.length:Int) 1):Int)=b.getD (n.toNat/8) 0:=by
      show b.getD (aj.b .sub .i64 (b.length:Int) 1).toNat 0=_
      rw[aX,fV (by omega) (by omega)]
      congr 1
      omega
     have hx:=zH hb (n.toNat/8)
     have key:=KF ⟨(b.getD (n.toNat/8) 0).toNat,by omega⟩ ⟨n.toNat%8,Nat.mod_lt _ (by decide)⟩
     simp only at key
     rw[show(((b.getD (n.toNat/8) 0).toNat:Nat):Int)=b.getD (n.toNat/8) 0 from by omega] at key
     have e2:(aj.b .and .u8 (aj.n (.int .u8) b (aj.b .sub .i64 (b.length:Int) 1):Int) (aj.b .shr .u8 255 ((n.toNat%8:Nat):Int)) != 0)=!((List.range 8).all fun k=>decide (k<n.toNat%8) || !(b.getD (n.toNat/8) 0).toNat.testBit (7-k)):=by
      rw[←key]
      exact congrArg (fun z:Int=>(aj.b .and .u8 z (aj.b .shr .u8 255 ((n.toNat%8:Nat):Int)) != 0)) e
     refine Iff.trans (b:=((List.range 8).all fun k=>decide (k<n.toNat%8) || !(b.getD (n.toNat/8) 0).toNat.testBit (7-k))=true) ?_ ?_
     ·refine Iff.trans (b:=(bif !((List.range 8).all fun k=>decide (k<n.toNat%8) || !(b.getD (n.toNat/8) 0).toNat.testBit (7-k)) then(10:Int) else 0)=0) (by rw[←e2]) ?_
      cases (List.range 8).all fun k=>decide (k<n.toNat%8) || !(b.getD (n.toNat/8) 0).toNat.testBit (7-k)<;>simp
     ·rw[List.all_eq_true]
      constructor
      ·intro h
       refine⟨by omega,by omega,h2,hb,fun i h4 h5=>?_⟩
       have:=h (i%8) (List.mem_range.2 (Nat.mod_lt _ (by decide)))
       have hi:i/8=n.toNat/8:=by omega
       rw[fM,hi]
       simp only[Bool.or_eq_true,decide_eq_true_eq,Bool.not_eq_true'] at this
       rcases this with h6|h6
       ·omega
       ·exact h6
      ·intro ⟨_,_,_,_,h⟩ k hk
       have hk:=List.mem_range.1 hk
       by_cases h6:k<n.toNat%8
       ·simp[h6]
       ·have:=h (8*(n.toNat/8)+k) (by omega) (by omega)
        rw[fM,show(8*(n.toNat/8)+k)/8=n.toNat/8 from by omega,show(8*(n.toNat/8)+k)%8=k from by omega] at this
        rw[this];simp
   ·rw[show((b.length:Int) != (((n.toNat+7)/8:Nat):Int))=true from bne_iff_ne.2 (by omega),cond_true]
    constructor
    ·intro h;cases h
    ·intro h;exact absurd h.2.2.1 h2
theorem FO{x:Int×List Int}:kD x=0∨kD x=10:=by
 obtain⟨n,b⟩:=x
 exact LT.ky (p:=fun y=>y=0∨y=10) (.inl rfl) (by simp[XA,LT.all])
theorem lT{n:Int}{b:List Int}(hb:bX b)(hl:b.length≤140737488355328):kD (n,b)=bif bC (n,b) then 0 else 10:=by
 have h1:=Jf (n:=n) hb hl
 rw[←fh hb] at h1
 rcases FO (x:=(n,b)) with h2|h2
 ·rw[h2,h1.1 h2];rfl
 ·have:bC (n,b)=false:=by
   rw[←Bool.not_eq_true]
   intro h3
   rw[h1.2 h3] at h2
   cases h2
  rw[h2,this];rfl
theorem cf{i:Nat}(h:i<4611686018427387904):aj.b .add .i64 (i:Int) 1=((i+1:Nat):Int):=by
 rw[bf,fV (by omega) (by omega)];rfl
theorem fC{i j:Nat}(h:i+j<4611686018427387904):aj.b .add .i64 (i:Int) (j:Int)=((i+j:Nat):Int):=by
 rw[bf,fV (by omega) (by omega)];rfl
theorem aO{i j:Nat}:aj.c .lss (i:Int) (j:Int)=decide (i<j):=by
 rw[ar];exact decide_eq_decide.2 Int.ofNat_lt
theorem kF{i j:Nat}:aj.c .leq (i:Int) (j:Int)=decide (i≤j):=by
 rw[ay];exact decide_eq_decide.2 Int.ofNat_le
theorem ij{i:Nat}:aj.c .leq 0 (i:Int)=true:=by rw[ay];simp
theorem nD{i:Nat}(h:i≤4611686018427387904):aj.b .quo .i64 (i:Int) 8=((i/8:Nat):Int):=by
 rw[Gd (by omega) (by omega)];rfl
theorem w7{i:Nat}:aj.b .rem .i64 (i:Int) 8=((i%8:Nat):Int):=by
 rw[EC (by omega)];rfl
theorem qk{u v:Int}(h:u=v):aj.c .eql u v=true:=by rw[aC,h];exact beq_self_eq_true _
theorem EB{u v:Int}(h:u≠v):aj.c .eql u v=false:=by rw[aC];exact beq_eq_false_iff_ne.2 h
theorem b_{u v:Int}(h:u=v):aj.c .neq u v=false:=by rw[aH,h];exact bne_self_eq_false _
theorem dE{u v:Int}(h:u≠v):aj.c .neq u v=true:=by rw[aH];exact bne_iff_ne.2 h
open Go.Ev.Pl
def JX(A:a_)(b:List Int)(i:Int):LT Bool Empty:=.need (A.and (A.c .leq 0 (A.b .quo .i64 i 8)) (A.c .lss (A.b .quo .i64 i 8) (A.l b))) (.need (A.c .leq 0 (A.v .u64 (A.b .sub .i64 7 (A.b .rem .i64 i 8)))) (.ret (A.c .eql (A.b .rem .u8 (A.b .shr .u8 (A.n yU b (A.b .quo .i64 i 8):Int) (A.v .u64 (A.b .sub .i64 7 (A.b .rem .i64 i 8)))) 2) 1)))
def gW:(List Int×Int)→Bool:=fun(b,i)=>(JX aj b i).val (Ty.bE [.bool])
def i_:(List Int×Int)→Bool:=fun(b,i)=>decide (0≤i)&&decide (i<8*(b.length:Int))
def af4:aB:=⟨[yB,yI], [.bool],i_,gW⟩
theorem Gn:Sd 224 af4:=aJ ax bK true 26 [] (fun A (b,i)=>JX A b i) (fc Tryz.func224 fz) sz (fun((b,i):List Int×Int) hp h=>by
 show(JX aj b i).pre=true
 simp only[i_,Bool.and_eq_true,decide_eq_true_eq] at hp
 have hl:=Kp h
 simp only[JX,LT.pre,aQ,ay,ar,Bool.and_eq_true,decide_eq_true_eq,bS,bd,Bool.and_true]
 rw[Gd hp.1 (by omega),EC hp.1,aX,fV (by omega) (by omega),ES (by omega) (by omega)]
 refine⟨⟨by omega,by omega⟩,by omega⟩)
theorem P5:∀c:Fin 256,∀k:Fin 8,(aj.b .rem .u8 (aj.b .shr .u8 (c.val:Int) (IntKind.u64.wrap (7-(k.val:Int)))) 2==1)=c.val.testBit (7-k.val):=by decide +kernel
theorem mO{b:List Int}{i:Int}(hb:bX b)(h0:0≤i)(h1:i<4611686018427387904):gW (b,i)=fM b i.toNat:=by
 simp only[gW,JX,LT.val,bd]
 rw[Gd h0 (by omega),EC h0,aX,fV (by omega) (by omega)]
 have hx:=zH hb (i.toNat/8)
 have key:=P5 ⟨(b.getD (i.toNat/8) 0).toNat,by omega⟩ ⟨i.toNat%8,Nat.mod_lt _ (by decide)⟩
 simp only at key
 rw[show(((b.getD (i.toNat/8) 0).toNat:Nat):Int)=b.getD (i.toNat/8) 0 from by omega] at key
 exact key
structure Sb where
 (a1:Int) (a2:List Int)
inductive Y97 where
 | c0 (p:Sb) (a0:Int)
noncomputable def aa7:Y97→fL
 | .c0 p a0=>⟨[⟨190,36,(en [(1,.ptr 0 0),(3,vi a0)]),[.inLoop (cw Tryz.f190 [1,1,0,1,0,0]),.inBlock 0,.code (cw Tryz.f190 [1,1,1])],[],none⟩],[.flat false [vi p.a1,.sl yU p.a2],.dead]⟩
def t97(A:a_)(bN:Int)(bB:List Int):LT Int Y97:=.br (A.c .lss bN 0) (.ret 10) (.br (A.c .gtr bN 4096) (.ret 10) (.br (A.c .neq (A.l bB) (A.b .quo .i64 (A.b .add .i64 bN 7) 8)) (.ret 10) (.more (.c0 ⟨bN,bB⟩ bN))))
def Zc(A:a_):Y97→LT Int Y97
 | .c0 p a0=>.br (A.c .lss a0 (A.b .mul .i64 8 (A.l p.a2))) (.need (A.k i_ (p.a2,a0)) (.br (A.k gW (p.a2,a0)) (.ret 10) (.more (.c0 p (A.b .add .i64 a0 1))))) (.ret 0)
theorem Pb{n:Nat}{b:List Int}(p:Sb)(hp:p.a2=b)(hb:bX b)(hl:b.length≤140737488355328):∀(j i:Nat),8*b.length-i=j→aA (Zc aj) (.more (.c0 p (i:Int))) (bif (List.range (8*b.length)).all (fun k=>decide (k<i) || !fM b k) then 0 else 10):=by
 subst hp
 intro j
 have hm:aj.b .mul .i64 8 (aj.l p.a2)=((8*p.a2.length:Nat):Int):=by
  show IntKind.i64.wrap (8*(p.a2.length:Int))=_
  rw[fV (by omega) (by omega)];omega
 induction j with
 | zero=>
   intro i hj
   rw[show((List.range (8*p.a2.length)).all fun k=>decide (k<i) || !fM p.a2 k)=true from by
    rw[List.all_eq_true];intro k hk;have:=List.mem_range.1 hk;simp;omega]
   simp only[ak,Zc,lL,hm,aO]
   rw[show decide (i<8*p.a2.length)=false from by simp;omega]
   exact .ret _
 | succ j ih=>
   intro i hj
   simp only[ak,Zc,lL,hm,aO]
   rw[show decide (i<8*p.a2.length)=true from by simp;omega]
   simp only[cond_true,af,al]
   refine⟨by simp[i_];omega,?_⟩
   rw[mO hb (by omega) (by omega),Int.toNat_natCast,cf (by omega)]
   cases hbit:fM p.a2 i
   ·refine(ah rfl).2 ?_
    have:=ih (i+1) (by omega)
    have e:((List.range (8*p.a2.length)).all fun k=>decide (k<i) || !fM p.a2 k)=((List.range (8*p.a2.length)).all fun k=>decide (k<i+1) || !fM p.a2 k):=by
     rw[Bool.eq_iff_iff,List.all_eq_true,List.all_eq_true]
     constructor
     ·intro h k hk
      have:=h k hk
      simp at this ⊢
      rcases this with h1|h1
      ·exact .inl (by omega)
      ·exact .inr h1
     ·intro h k hk
      have:=h k hk
      simp at this ⊢
      by_cases hki:k=i
      ·subst hki;exact .inr hbit
      ·rcases this with h1|h1
       ·exact .inl (by omega)
       ·exact .inr h1
    rw[e]
    exact this
   ·refine(ai rfl).2 ?_
    rw[show((List.range (8*p.a2.length)).all fun k=>decide (k<i) || !fM p.a2 k)=false from by
     rw[List.all_eq_false];exact⟨i,List.mem_range.2 (by omega),by simp[hbit]⟩]
    exact .ret _
theorem WX{n:Int}{b:List Int}(h:Ty.cB [(.struct [(.int .i64),(.slice (.int .u8))])] (n,b)):aA (Zc aj) (t97 aj n b) (bif bC (n,b) then 0 else 10):=by
 have hb:=(dF h).2.2
 have hl:=du h
 have hn:=(dF h).1
 unfold t97
 rw[bC]
 by_cases h0:n<0
 ·refine(ai (by simpa [ar] using h0)).2 ?_
  rw[show decide (0≤n)=false from by simp;omega]
  exact .ret _
 ·refine(ah (by simpa [ar] using h0)).2 ?_
  by_cases h1:4096<n
  ·refine(ai (by simpa [aG] using h1)).2 ?_
   rw[show decide (n≤4096)=false from by simp;omega,Bool.and_false]
   exact .ret _
  ·refine(ah (by simpa [aG] using h1)).2 ?_
   rw[show decide (0≤n)=true from by simp;omega,show decide (n≤4096)=true from by simp;omega,bf,fV (by omega) (by omega),Gd (by omega) (by omega),show(n+7).toNat/8=(n.toNat+7)/8 from by omega]
   by_cases h2:b.length=(n.toNat+7)/8
   ·refine(ah (b_ (show(b.length:Int)=_ by rw[h2]))).2 ?_
    rw[show(b.length==(n.toNat+7)/8)=true from by simpa using h2]
    have:=Pb (n:=n.toNat) ⟨n,b⟩ rfl hb hl (8*b.length-n.toNat) n.toNat rfl
    rw[show((n.toNat:Nat):Int)=n from by omega] at this
    exact this
   ·refine(ai (dE (show(b.length:Int)≠_ by omega))).2 ?_
    rw[show(b.length==(n.toNat+7)/8)=false from by simpa using h2]
    simp only[Bool.and_false,Bool.false_and,cond_false]
    exact .ret _
def e_:((Int×List Int))→Int:=fun x=>bif bC x then 0 else 10
def ahO:aB:=⟨[(.struct [yI,yB])], [yI],(@tt ((Int×List Int))),e_⟩
theorem Ce:Sd 190 ahO:=aL ax bK true 44 [⟨190,4, [[1,3]]⟩] [] (fun A (bN,bB)=>t97 A bN bB) Zc aa7 (fc Tryz.func190 fz) (sc Gn sz) (fun A y=>match y with |.c0 p a0=>⟨35,by kernel_rfl,by kernel_rfl⟩) fun(bN,bB) hp h=>WX h
open Go.Ev.Pl
structure UN where
 (a0 a1:Int) (a2:List Int)
structure Lw where
 (b1:Int) (b2:List Int)
inductive Jh where
 | c0 (p:UN)
 | c1 (p:Lw) (b0:Int) (b3:List Bool)
noncomputable def Wc:Jh→fL
 | .c0 p=>⟨[⟨191,22,(en [(1,.ptr 0 0),(3,.bi true),(4,vi p.a0)]),[.inLoop (cw Tryz.f191 [1,1,1,0,1,0,0]),.inBlock 0,.code (cw Tryz.f191 [1,1,1,1])],[],none⟩],[.flat false [vi p.a1,.sl yU p.a2],.dead]⟩
 | .c1 p b0 b3=>⟨[⟨191,22,(en [(1,.ptr 0 0),(3,.own 1),(4,vi b0)]),[.inLoop (cw Tryz.f191 [1,1,1,0,1,0,0]),.inBlock 0,.code (cw Tryz.f191 [1,1,1,1])],[],none⟩],[.flat false [vi p.b1,.sl yU p.b2],.arr false .bool b3,.dead]⟩
def t127(A:a_)(bN:Int)(bB:List Int):LT (List Bool) Jh:=.need (A.k (@tt ((Int×List Int))) (bN,bB)) (.br (A.c .neq (A.k e_ (bN,bB)) 0) (.ret ([]:List Bool)) (.more (.c0 ⟨0,bN,bB⟩)))
def Fi(A:a_):Jh→LT (List Bool) Jh
 | .c0 p=>.br (A.c .lss p.a0 p.a1) (.need (A.k i_ (p.a2,p.a0)) (.need (A.c .leq (A.l ([(A.k gW (p.a2,p.a0))]:List Bool)) 140737488355328) (.more (.c1 ⟨p.a1,p.a2⟩ (A.b .add .i64 p.a0 1) [(A.k gW (p.a2,p.a0))])))) (.ret ([]:List Bool))
 | .c1 p b0 b3=>.br (A.c .lss b0 p.b1) (.need (A.k i_ (p.b2,b0)) (.need (A.c .leq (A.l (A.p b3 [(A.k gW (p.b2,b0))])) 140737488355328) (.more (.c1 p (A.b .add .i64 b0 1) (A.p b3 [(A.k gW (p.b2,b0))]))))) (.ret b3)
theorem bo{R Y:Type}{step:Y→LT R Y}{t t':LT R Y}{r:R}(h:t=t')(h2:aA step t' r):aA step t r:=h▸h2
theorem It{n:Nat}{b:List Int}(hb:bX b)(hl:b.length≤140737488355328)(hn:n≤4096)(hok:n≤8*b.length):∀(j i:Nat) (p:Lw),p.b1=(n:Int)→p.b2=b→n-i=j→i≤n→aA (Fi aj) (.more (.c1 p (i:Int) (unpack i b))) (unpack n b):=by
 intro j
 induction j with
 | zero=>
   intro i p h1 h2 hj hi
   have:i=n:=by omega
   subst this
   simp only[ak,Fi,lL,h1,aO]
   rw[show decide (i<i)=false from by simp]
   exact .ret _
 | succ j ih=>
   intro i p h1 h2 hj hi
   simp only[ak,Fi]
   refine(ai (by rw[h1,aO];simp;omega)).2 (af.2 ⟨?_,af.2 ⟨?_,?_⟩⟩)
   ·rw[h2,al];simp[i_];omega
   ·show decide (((unpack i b ++ [_]).length:Int)≤140737488355328)=true
    rw[List.length_append,bg]
    simp;omega
   ·have e:(aj.p (unpack i b) [(aj.k gW (p.b2,(i:Int)))]:List Bool)=unpack (i+1) b:=by
     show unpack i b ++ [gW (p.b2,(i:Int))]=_
     rw[h2,mO hb (by omega) (by omega),vn,Int.toNat_natCast]
    exact bo (congrArg LT.more (congr (congrArg (Jh.c1 p) (cf (by omega))) e)) (ih (i+1) p h1 h2 (by omega) (by omega))
theorem aaL{n:Int}{b:List Int}(h:Ty.cB [(.struct [(.int .i64),(.slice (.int .u8))])] (n,b)):aA (Fi aj) (t127 aj n b) (bif bC (n,b) then bw (n,b) else[]):=by
 have hb:=(dF h).2.2
 have hl:=du h
 unfold t127
 refine af.2 ⟨rfl,?_⟩
 cases hok:bC (n,b)
 ·refine(ai (show(e_ (n,b) != 0)=true by rw[e_,hok];rfl)).2 ?_
  exact .ret _
 ·refine(ah (show(e_ (n,b) != 0)=false by rw[e_,hok];rfl)).2 ?_
  obtain⟨h1,h2,h3⟩:=(fh hb).1 hok
  have h4:=h3.1
  rw[cond_true]
  simp only[ak,Fi]
  show aA (Fi aj) _ (unpack n.toNat b)
  by_cases h0:0<n
  ·refine(ai (by rw[ar];simpa using h0)).2 (af.2 ⟨?_,af.2 ⟨rfl,?_⟩⟩)
   ·rw[al];simp[i_];omega
   ·have e:([(aj.k gW (b,(0:Int)))]:List Bool)=unpack 1 b:=by
     show[gW (b,(0:Int))]=_
     rw[mO hb (by omega) (by omega)];rfl
    refine bo (congrArg LT.more (congr (congrArg (Jh.c1 ⟨n,b⟩) (cf (i:=0) (by omega))) e)) ?_
    exact It hb hl (by omega) (by omega) (n.toNat-1) 1 ⟨n,b⟩ (by show n=_;omega) rfl (by omega) (by omega)
  ·refine(ah (by rw[ar];simp;omega)).2 ?_
   rw[show n.toNat=0 from by omega]
   exact .ret _
def iQ:((Int×List Int))→(List Bool):=fun x=>bif bC x then bw x else[]
def ae1:aB:=⟨[(.struct [yI,yB])], [(.slice .bool)],(@tt ((Int×List Int))),iQ⟩
theorem NN:Sd 191 ae1:=aL ax bK true 31 [⟨191,5, [[1,3,4]]⟩] [] (fun A (bN,bB)=>t127 A bN bB) Fi Wc (fc Tryz.func191 fz) (sc Ce (sc Gn sz)) (fun A y=>match y with |.c0 p=>⟨34,by kernel_rfl,by kernel_rfl⟩|.c1 p b0 b3=>⟨34,by kernel_rfl,by kernel_rfl⟩) fun(bN,bB) hp h=>aaL h
structure Kb where
 (a0:List Bool) (a2 a3:Int)
inductive Iw where
 | c0 (p:Kb) (a1:Int) (a4:List Int)
noncomputable def TG:Iw→fL
 | .c0 p a1 a4=>⟨[⟨192,42,(en [(0,.sl .bool p.a0),(2,.ptr 0 0),(4,.ptr 1 0),(5,vi a1)]),[.inLoop (cw Tryz.f192 [1,1,1,0,1,0,0]),.inBlock 0,.code (cw Tryz.f192 [1,1,1,1])],[],none⟩],[.flat false [vi p.a2,.bi true],.flat false [vi p.a3,.own 2],.arr false yU a4,.dead]⟩
def TL(A:a_)(l:List Bool):LT ((Int×List Int)×Int) Iw:=.br (A.c .gtr (A.l l) 4096) (.ret ((0,([]:List Int)),3)) (.need (A.and (A.c .eql (A.b .quo .i64 (A.b .add .i64 (A.l l) 7) 8) (A.b .quo .i64 (A.b .add .i64 (A.l l) 7) 8)) (A.and (A.c .leq 0 (A.b .quo .i64 (A.b .add .i64 (A.l l) 7) 8)) (A.c .leq (A.b .quo .i64 (A.b .add .i64 (A.l l) 7) 8) 140737488355328))) (.more (.c0 ⟨l,0,(A.l l)⟩ 0 (A.r (A.b .quo .i64 (A.b .add .i64 (A.l l) 7) 8) (0:Int)))))
def L8(A:a_):Iw→LT ((Int×List Int)×Int) Iw
 | .c0 p a1 a4=>.br (A.c .lss a1 (A.l p.a0)) (.need (A.and (A.c .leq 0 a1) (A.c .lss a1 (A.l p.a0))) (.br (A.n .bool p.a0 a1:Bool) (.need (A.and (A.c .leq 0 (A.b .quo .i64 a1 8)) (A.c .lss (A.b .quo .i64 a1 8) (A.l a4))) (.need (A.c .leq 0 (A.v .u64 (A.b .sub .i64 7 (A.b .rem .i64 a1 8)))) (.need (A.and (A.c .leq 0 (A.b .quo .i64 a1 8)) (A.c .lss (A.b .quo .i64 a1 8) (A.l a4))) (.more (.c0 p (A.b .add .i64 a1 1) (A.set a4 (A.b .quo .i64 a1 8) (A.b .or .u8 (A.n yU a4 (A.b .quo .i64 a1 8):Int) (A.b .shl .u8 1 (A.v .u64 (A.b .sub .i64 7 (A.b .rem .i64 a1 8))))))))))) (.more (.c0 p (A.b .add .i64 a1 1) a4)))) (.ret ((p.a3,a4),0))
theorem Q6:∀c:Fin 256,∀k:Fin 8,aj.b .or .u8 (c.val:Int) (aj.b .shl .u8 1 (IntKind.u64.wrap (7-(k.val:Int))))=((c.val ||| 128 >>> k.val:Nat):Int):=by decide +kernel
theorem Qq:∀c:Fin 256,∀k:Fin 8,aj.b .or .u8 (c.val:Int) ((128 >>> k.val:Nat):Int)=((c.val ||| 128 >>> k.val:Nat):Int):=by decide +kernel
theorem QZ{B:List Int}{l:List Bool}{m i:Nat}(h:Holds B l m)(hi:l.length=i)(h1:i<8*m)(hm:m≤100000) :
  Holds (aj.set B (aj.b .quo .i64 (i:Int) 8) (aj.b .or .u8 (aj.n (.int .u8) B (aj.b .quo .i64 (i:Int) 8):Int) (aj.b .shl .u8 1 (aj.v .u64 (aj.b .sub .i64 7 (aj.b .rem .i64 (i:Int) 8)))))) (l ++ [true]) m:=by
 rw[nD (by omega),w7,aX,fV (by omega) (by omega),bd]
 have key:=Q6 ⟨(B.getD (i/8) 0).toNat,sG h.2.1 _⟩ ⟨i%8,Nat.mod_lt _ (by decide)⟩
 simp only at key
 rw[show(((B.getD (i/8) 0).toNat:Nat):Int)=B.getD (i/8) 0 from Int.toNat_of_nonneg (zH h.2.1 _).1] at key
 have:=h.set (by omega)
 rw[hi] at this
 rw[←key] at this
 exact this
theorem Eu{B:List Int}{l:List Bool}{m i:Nat}(h:Holds B l m)(hi:l.length=i)(h1:i<8*m)(hm:m≤100000) :
  Holds (aj.set B (aj.b .quo .i64 (i:Int) 8) (aj.b .or .u8 (aj.n (.int .u8) B (aj.b .quo .i64 (i:Int) 8):Int) (aj.k zK (i:Int)))) (l ++ [true]) m:=by
 rw[nD (by omega),al,Eh (by omega),Int.toNat_natCast]
 have key:=Qq ⟨(B.getD (i/8) 0).toNat,sG h.2.1 _⟩ ⟨i%8,Nat.mod_lt _ (by decide)⟩
 simp only at key
 rw[show(((B.getD (i/8) 0).toNat:Nat):Int)=B.getD (i/8) 0 from Int.toNat_of_nonneg (zH h.2.1 _).1] at key
 have:=h.set (by omega)
 rw[hi] at this
 rw[←key] at this
 exact this
theorem pM{l:List Bool}{i:Nat}(h:i<l.length):l.take (i+1)=l.take i ++ [l.getD i false]:=by
 rw[List.take_succ_eq_append_getElem h,List.getD_eq_getElem?_getD,List.getElem?_eq_getElem h];rfl
theorem OT{l:List Bool}(hl:l.length≤4096):∀(j i:Nat) (p:Kb) (B:List Int),p.a0=l→p.a3=(l.length:Int)→l.length-i=j→i≤l.length→Holds B (l.take i) ((l.length+7)/8)→aA (L8 aj) (.more (.c0 p (i:Int) B)) (bJ l,0):=by
 intro j
 induction j with
 | zero=>
   intro i p B h1 h2 hj hi hB
   have:i=l.length:=by omega
   subst this
   simp only[ak,L8]
   have hlen:aj.l p.a0=(l.length:Int):=by rw[h1];rfl
   refine(ah (by rw[hlen,aO];simp)).2 ?_
   rw[List.take_length] at hB
   rw[h2,hB.done rfl]
   exact .ret _
 | succ j ih=>
   intro i p B h1 h2 hj hi hB
   simp only[ak,L8]
   have hlen:aj.l p.a0=(l.length:Int):=by rw[h1];rfl
   have hlb:aj.l B=(((l.length+7)/8:Nat):Int):=by rw[←hB.1];rfl
   have hq:(aj.and (aj.c .leq 0 (aj.b .quo .i64 (i:Int) 8)) (aj.c .lss (aj.b .quo .i64 (i:Int) 8) (aj.l B)))=true:=by
    rw[nD (by omega),hlb,ij,aO,aQ];simp;omega
   have htl:(l.take i).length=i:=by rw[List.length_take];omega
   refine(ai (by rw[hlen,aO];simp;omega)).2 (af.2 ⟨by rw[ij,hlen,aO,aQ];simp;omega,?_⟩)
   have hb:(aj.n .bool p.a0 (i:Int):Bool)=l.getD i false:=by
    show p.a0.getD (i:Int).toNat false=_
    rw[h1,Int.toNat_natCast]
   have hts:=pM (l:=l) (i:=i) (by omega)
   cases hx:l.getD i false
   ·rw[hx] at hts
    refine(ah (hb.trans hx)).2 ?_
    exact bo (congrArg LT.more (congr (congrArg (Iw.c0 p) (cf (by omega))) rfl)) (ih (i+1) p B h1 h2 (by omega) (by omega) (hts▸hB.skip))
   ·rw[hx] at hts
    refine(ai (hb.trans hx)).2 (af.2 ⟨hq,af.2 ⟨?_,af.2 ⟨hq,?_⟩⟩⟩)
    ·rw[w7,aX,fV (by omega) (by omega),bd,ES (by omega) (by omega),ay];simp;omega
    ·exact bo (congrArg LT.more (congr (congrArg (Iw.c0 p) (cf (by omega))) rfl)) (ih (i+1) p _ h1 h2 (by omega) (by omega) (hts▸QZ hB htl (by omega) (by omega)))
theorem of1{l:List Bool}:aA (L8 aj) (TL aj l) (zR l):=by
 unfold TL
 have hlen:aj.l l=(l.length:Int):=rfl
 rw[zR]
 by_cases hl:4096<l.length
 ·refine(ai (by rw[hlen,aG];simp;omega)).2 ?_
  rw[show decide (4096<l.length)=true from by simpa using hl]
  exact .ret _
 ·have hq:aj.b .quo .i64 (aj.b .add .i64 (aj.l l) 7) 8=(((l.length+7)/8:Nat):Int):=by
   rw[hlen,show aj.b .add .i64 (l.length:Int) 7=((l.length+7:Nat):Int) from fC (j:=7) (by omega),nD (by omega)]
  refine(ah (by rw[hlen,aG];simp;omega)).2 (af.2 ⟨?_,?_⟩)
  ·rw[hq,ij,qk rfl,ay,aQ,aQ];simp;omega
  ·rw[show decide (4096<l.length)=false from by simpa using hl]
   refine OT (by omega) l.length 0 _ _ rfl rfl (by omega) (by omega) ?_
   rw[hq,mY,Int.toNat_natCast]
   exact Holds.blank _
def ou:(List Bool)→((Int×List Int)×Int):=zR
def Zs:aB:=⟨[(.slice .bool)], [(.struct [yI,yB]),yI],(@tt (List Bool)),ou⟩
theorem La:Sd 192 Zs:=aL ax bK true 40 [⟨192,5, [[0,2,4,5]]⟩] [] (fun A l=>TL A l) L8 TG (fc Tryz.func192 fz) sz (fun A y=>match y with |.c0 p a1 a4=>⟨48,by kernel_rfl,by kernel_rfl⟩) fun l hp h=>of1
open Go.Ev.Pl
structure LX where
 (a0 a1 a2:Int)
structure N4 where
 (b0 b1 b2 b3:Int) (b4:List Int) (b5:Int)
structure NQ where
 (c0 c2:Int)
structure Ow where
 (d1 d2 d3:Int) (d4:List Int) (d6:Int)
inductive Eg where
 | c0 (p:LX)
 | c1 (p:N4)
 | c2 (p:NQ) (c1:Int) (c3:List Bool)
 | c3 (p:Ow) (d0:Int) (d5:List Bool)
noncomputable def TC:Eg→fL
 | .c0 p=>⟨[⟨188,53,(en [(1,.int .u64 false p.a0),(6,.ptr 0 0),(8,.bi true),(9,vi p.a1)]),[.inLoop (cw Tryz.f188 [1,1,1,1,0,1,0,0]),.inBlock 0,.code (cw Tryz.f188 [1,1,1,1,1])],[],none⟩],[.flat false [vi p.a2,.bi true],.dead]⟩
 | .c1 p=>⟨[⟨191,22,(en [(1,.ptr 0 0),(3,.bi true),(4,vi p.b0)]),[.inLoop (cw Tryz.f191 [1,1,1,0,1,0,0]),.inBlock 0,.code (cw Tryz.f191 [1,1,1,1])],[],none⟩,⟨188,53,(en [(1,.int .u64 false p.b1),(2,vi p.b2),(6,.ptr 1 0)]),[.ops (ow Tryz.f188 [1,1,1,0]) ((ow Tryz.f188 [1,1,1,0]).toList.drop 1),.code (cw Tryz.f188 [1,1,1,1])],[],none⟩],[.flat false [vi p.b3,.sl yU p.b4],.flat false [vi p.b5,.bi true],.dead]⟩
 | .c2 p c1 c3=>⟨[⟨188,53,(en [(1,.int .u64 false p.c0),(6,.ptr 0 0),(8,.own 1),(9,vi c1)]),[.inLoop (cw Tryz.f188 [1,1,1,1,0,1,0,0]),.inBlock 0,.code (cw Tryz.f188 [1,1,1,1,1])],[],none⟩],[.flat false [vi p.c2,.bi true],.arr false .bool c3,.dead]⟩
 | .c3 p d0 d5=>⟨[⟨191,22,(en [(1,.ptr 0 0),(3,.own 1),(4,vi d0)]),[.inLoop (cw Tryz.f191 [1,1,1,0,1,0,0]),.inBlock 0,.code (cw Tryz.f191 [1,1,1,1])],[],none⟩,⟨188,53,(en [(1,.int .u64 false p.d1),(2,vi p.d2),(6,.ptr 2 0)]),[.ops (ow Tryz.f188 [1,1,1,0]) ((ow Tryz.f188 [1,1,1,0]).toList.drop 1),.code (cw Tryz.f188 [1,1,1,1])],[],none⟩],[.flat false [vi p.d3,.sl yU p.d4],.arr false .bool d5,.flat false [vi p.d6,.bi true],.dead]⟩
def WH(A:a_)(bN:Int)(bB:List Int)(v:Int)(width:Int):LT ((Int×List Int)×Int) Eg:=.need (A.k (@tt ((Int×List Int))) (bN,bB)) (.br (A.c .neq (A.k e_ (bN,bB)) 0) (.ret ((0,([]:List Int)),10)) (.br (A.c .lss width 0) (.ret ((0,([]:List Int)),2)) (.br (A.c .gtr width 64) (.ret ((0,([]:List Int)),2)) (.br (A.c .lss width 64) (.need (A.c .leq 0 (A.v .u64 width)) (.br (A.c .neq (A.b .shr .u64 v (A.v .u64 width)) 0) (.ret ((0,([]:List Int)),2)) (.need (A.k (@tt ((Int×List Int))) (bN,bB)) (.br (A.c .neq (A.k e_ (bN,bB)) 0) (.more (.c0 ⟨v,(A.b .sub .i64 width 1),0⟩)) (.more (.c1 ⟨0,v,width,bN,bB,0⟩)))))) (.need (A.k (@tt ((Int×List Int))) (bN,bB)) (.br (A.c .neq (A.k e_ (bN,bB)) 0) (.more (.c0 ⟨v,(A.b .sub .i64 width 1),0⟩)) (.more (.c1 ⟨0,v,width,bN,bB,0⟩))))))))
def sV(A:a_):Eg→LT ((Int×List Int)×Int) Eg
 | .c0 p=>.br (A.c .geq p.a1 0) (.need (A.c .leq 0 (A.v .u64 p.a1)) (.need (A.c .leq (A.l ([(A.c .eql (A.b .rem .u64 (A.b .shr .u64 p.a0 (A.v .u64 p.a1)) 2) 1)]:List Bool)) 140737488355328) (.more (.c2 ⟨p.a0,p.a2⟩ (A.b .sub .i64 p.a1 1) [(A.c .eql (A.b .rem .u64 (A.b .shr .u64 p.a0 (A.v .u64 p.a1)) 2) 1)])))) (.need (A.k (@tt (List Bool)) ([]:List Bool)) (.ret (A.k ou ([]:List Bool))))
 | .c1 p=>.br (A.c .lss p.b0 p.b3) (.need (A.k i_ (p.b4,p.b0)) (.need (A.c .leq (A.l ([(A.k gW (p.b4,p.b0))]:List Bool)) 140737488355328) (.more (.c3 ⟨p.b1,p.b2,p.b3,p.b4,p.b5⟩ (A.b .add .i64 p.b0 1) [(A.k gW (p.b4,p.b0))])))) (.more (.c0 ⟨p.b1,(A.b .sub .i64 p.b2 1),p.b5⟩))
 | .c2 p c1 c3=>.br (A.c .geq c1 0) (.need (A.c .leq 0 (A.v .u64 c1)) (.need (A.c .leq (A.l (A.p c3 [(A.c .eql (A.b .rem .u64 (A.b .shr .u64 p.c0 (A.v .u64 c1)) 2) 1)])) 140737488355328) (.more (.c2 p (A.b .sub .i64 c1 1) (A.p c3 [(A.c .eql (A.b .rem .u64 (A.b .shr .u64 p.c0 (A.v .u64 c1)) 2) 1)]))))) (.need (A.k (@tt (List Bool)) c3) (.ret (A.k ou c3)))
 | .c3 p d0 d5=>.br (A.c .lss d0 p.d3) (.need (A.k i_ (p.d4,d0)) (.need (A.c .leq (A.l (A.p d5 [(A.k gW (p.d4,d0))])) 140737488355328) (.more (.c3 p (A.b .add .i64 d0 1) (A.p d5 [(A.k gW (p.d4,d0))]))))) (.more (.c2 ⟨p.d1,p.d6⟩ (A.b .sub .i64 p.d2 1) d5))
theorem GK{a:Int}{n:Nat}(h:0≤a)(hn:n≤64):aj.b .shr .u64 a (n:Int)=((a.toNat/2^n:Nat):Int):=by
 show a.fdiv (2^min (n:Int).toNat 64)=_
 obtain⟨m,rfl⟩:=Int.eq_ofNat_of_zero_le h
 rw[Int.toNat_natCast,Nat.min_eq_left hn,Int.fdiv_eq_ediv_of_nonneg _ (Int.pow_nonneg (by decide))]
 simp
theorem KB{a:Int}{n:Nat}(h:0≤a)(hn:n≤32):aj.b .shr .u32 a (n:Int)=((a.toNat/2^n:Nat):Int):=by
 show a.fdiv (2^min (n:Int).toNat 32)=_
 obtain⟨m,rfl⟩:=Int.eq_ofNat_of_zero_le h
 rw[Int.toNat_natCast,Nat.min_eq_left hn,Int.fdiv_eq_ediv_of_nonneg _ (Int.pow_nonneg (by decide))]
 simp
theorem dS{n:Nat}(h:n<4611686018427387904):aj.v .u64 (n:Int)=(n:Int):=by rw[bd,ES (by omega) (by omega)]
theorem Dt{k:IntKind}{m:Nat}:aj.c .eql (aj.b .rem k (m:Int) 2) 1=decide (m%2=1):=by
 show((m:Int).tmod 2==1)=_
 rw[Int.tmod_eq_emod_of_nonneg (by omega),Bool.eq_iff_iff]
 simp only[beq_iff_eq,decide_eq_true_eq]
 omega
theorem HE{v:Int}{k:Nat}(h:0≤v)(hk:k≤64):aj.c .eql (aj.b .rem .u64 (aj.b .shr .u64 v (aj.v .u64 (k:Int))) 2) 1=v.toNat.testBit k:=by
 rw[dS (by omega),GK h hk,Dt,Nat.testBit_eq_decide_div_mod_eq]
theorem LZ{m:Nat}:aj.c .eql (aj.b .and .u64 (m:Int) 1) 1=decide (m%2=1):=by
 show(IntKind.u64.wrap ((BitVec.ofInt 64 (m:Int) &&& BitVec.ofInt 64 1).toNat:Int)==1)=_
 rw[BitVec.ofInt_natCast,show BitVec.ofInt 64 1=BitVec.ofNat 64 1 from rfl,BitVec.toNat_and,BitVec.toNat_ofNat,BitVec.toNat_ofNat,show 1%2^64=1 from rfl,Nat.and_one_is_mod,ES (by omega) (by omega),Bool.eq_iff_iff]
 simp only[beq_iff_eq,decide_eq_true_eq]
 omega
theorem Lu{v:Int}{k:Nat}(h:0≤v)(hk:k≤64):aj.c .eql (aj.b .and .u64 (aj.b .shr .u64 v (k:Int)) 1) 1=v.toNat.testBit k:=by
 rw[GK h hk,LZ,Nat.testBit_eq_decide_div_mod_eq]
theorem l6{i j:Nat}(h:j≤i)(hi:i<4611686018427387904):aj.b .sub .i64 (i:Int) (j:Int)=((i-j:Nat):Int):=by
 rw[aX,fV (by omega) (by omega)];omega
theorem vE(v k:Nat):bitsOf v (k+1)=v.testBit k::bitsOf v k:=by
 rw[bitsOf,List.range_succ_eq_map,List.map_cons,List.map_map]
 congr 1
 apply List.map_congr_left
 intro a _
 show v.testBit (k+1-1-(a+1))=v.testBit (k-1-a)
 congr 1;omega
theorem wU{v:Int}{w:Nat}(h:0≤v):decide ((2:Int)^w≤v)=(((v.toNat/2^w:Nat):Int) != 0):=by
 obtain⟨m,rfl⟩:=Int.eq_ofNat_of_zero_le h
 rw[Int.toNat_natCast,Bool.eq_iff_iff]
 have h2:(2:Int)^w=((2^w:Nat):Int):=by simp
 rw[h2,decide_eq_true_eq,bne_iff_ne]
 have hp:=Nat.two_pow_pos w
 constructor
 ·intro h3
  have:1≤m/2^w:=(Nat.le_div_iff_mul_le hp).2 (by omega)
  omega
 ·intro h3
  have:1≤m/2^w:=Nat.pos_of_ne_zero fun h=>h3 (by rw[h];rfl)
  have:=(Nat.le_div_iff_mul_le hp).1 this
  omega
theorem Gu{n v w:Int}{b:List Int}(h:Ty.cB [(.struct [(.int .i64),(.slice (.int .u8))]),(.int .u64),(.int .i64)] ((n,b),v,w)):Ty.has (.struct [(.int .i64),(.slice (.int .u8))]) (n,b)∧(0≤v∧v≤18446744073709551615)∧(-9223372036854775808≤w∧w≤9223372036854775807):=h
theorem Mc{v:Int}(hv:0≤v):∀(k:Nat) (c1:Int) (c3:List Bool) (p:NQ),p.c0=v→c1=(k:Int)-1→k≤64→c3.length+k≤4200→aA (sV aj) (.more (.c2 p c1 c3)) (zR (c3++bitsOf v.toNat k)):=by
 intro k
 induction k with
 | zero=>
   intro c1 c3 p h1 h2 _ _
   simp only[ak,sV]
   refine(ah (by rw[aM,h2];decide)).2 (af.2 ⟨rfl,?_⟩)
   rw[show bitsOf v.toNat 0=[] from rfl,List.append_nil]
   exact .ret _
 | succ k ih=>
   intro c1 c3 p h1 h2 hk hl
   have h3:c1=(k:Int):=by omega
   subst h3
   simp only[ak,sV]
   refine(ai (by rw[aM];simp)).2 (af.2 ⟨by rw[dS (by omega),ij],af.2 ⟨?_,?_⟩⟩)
   ·show decide (((c3 ++ [_]).length:Int)≤140737488355328)=true
    rw[List.length_append];simp;omega
   ·have e:(aj.p c3 [(aj.c .eql (aj.b .rem .u64 (aj.b .shr .u64 p.c0 (aj.v .u64 (k:Int))) 2) 1)]:List Bool)=c3 ++ [v.toNat.testBit k]:=by
     show c3 ++ [_]=_
     rw[h1,HE hv (by omega)]
    have:=ih ((k:Int)-1) (c3 ++ [v.toNat.testBit k]) p h1 rfl (by omega) (by rw[List.length_append];simp;omega)
    rw[List.append_assoc,show[v.toNat.testBit k]++bitsOf v.toNat k=bitsOf v.toNat (k+1) from by rw[vE];rfl] at this
    exact bo (congrArg LT.more (congr (congrArg (Eg.c2 p) (show aj.b .sub .i64 (k:Int) 1=(k:Int)-1 by rw[aX,fV (by omega) (by omega)])) e)) this
theorem VV{v:Int}(hv:0≤v){k:Nat}(p:LX)(h1:p.a0=v)(h2:p.a1=(k:Int)-1)(hk:k≤64):aA (sV aj) (.more (.c0 p)) (zR (bitsOf v.toNat k)):=by
 cases k with
 | zero=>
   simp only[ak,sV]
   refine(ah (by rw[aM,h2];decide)).2 (af.2 ⟨rfl,?_⟩)
   exact .ret _
 | succ k=>
   have h3:p.a1=(k:Int):=by omega
   simp only[ak,sV,h3]
   refine(ai (by rw[aM];simp)).2 (af.2 ⟨by rw[dS (by omega),ij],af.2 ⟨rfl,?_⟩⟩)
   have e:([(aj.c .eql (aj.b .rem .u64 (aj.b .shr .u64 p.a0 (aj.v .u64 (k:Int))) 2) 1)]:List Bool)=[v.toNat.testBit k]:=by
    rw[h1,HE hv (by omega)]
   have:=Mc hv k ((k:Int)-1) [v.toNat.testBit k] ⟨p.a0,p.a2⟩ h1 rfl (by omega) (by simp;omega)
   rw[show[v.toNat.testBit k]++bitsOf v.toNat k=bitsOf v.toNat (k+1) from by rw[vE];rfl] at this
   exact bo (congrArg LT.more (congr (congrArg (Eg.c2 ⟨p.a0,p.a2⟩) (show aj.b .sub .i64 (k:Int) 1=(k:Int)-1 by rw[aX,fV (by omega) (by omega)])) e)) this
theorem W_{v:Int}{n w:Nat}{b:List Int}(hv:0≤v)(hb:bX b)(hl:b.length≤140737488355328)(hn:n≤4096)(hw:w≤64)(hok:n≤8*b.length):∀(j i:Nat) (p:Ow),p.d1=v→p.d2=(w:Int)→p.d3=(n:Int)→p.d4=b→n-i=j→i≤n→aA (sV aj) (.more (.c3 p (i:Int) (unpack i b))) (zR (unpack n b++bitsOf v.toNat w)):=by
 intro j
 induction j with
 | zero=>
   intro i p h1 h2 h3 h4 hj hi
   have:i=n:=by omega
   subst this
   simp only[ak,sV]
   refine(ah (by rw[h3,aO];simp)).2 ?_
   rw[h2,aX,fV (by omega) (by omega)]
   exact Mc hv w _ _ _ h1 rfl hw (by rw[bg];omega)
 | succ j ih=>
   intro i p h1 h2 h3 h4 hj hi
   simp only[ak,sV]
   refine(ai (by rw[h3,aO];simp;omega)).2 (af.2 ⟨?_,af.2 ⟨?_,?_⟩⟩)
   ·rw[h4,al];simp[i_];omega
   ·show decide (((unpack i b ++ [_]).length:Int)≤140737488355328)=true
    rw[List.length_append,bg]
    simp;omega
   ·have e:(aj.p (unpack i b) [(aj.k gW (p.d4,(i:Int)))]:List Bool)=unpack (i+1) b:=by
     show unpack i b ++ [gW (p.d4,(i:Int))]=_
     rw[h4,mO hb (by omega) (by omega),vn,Int.toNat_natCast]
    exact bo (congrArg LT.more (congr (congrArg (Eg.c3 p) (cf (by omega))) e)) (ih (i+1) p h1 h2 h3 h4 (by omega) (by omega))
theorem Tx{v:Int}{n w:Nat}{b:List Int}(hv:0≤v)(hb:bX b)(hl:b.length≤140737488355328)(hn:n≤4096)(hw:w≤64)(hok:n≤8*b.length)(p:N4)(h0:p.b0=0)(h1:p.b1=v)(h2:p.b2=(w:Int))(h3:p.b3=(n:Int))(h4:p.b4=b):aA (sV aj) (.more (.c1 p)) (zR (unpack n b++bitsOf v.toNat w)):=by
 simp only[ak,sV,h0]
 by_cases hz:n=0
 ·refine(ah (by rw[h3,hz];rfl)).2 ?_
  rw[hz]
  exact VV hv _ h1 (by show aj.b .sub .i64 p.b2 1=_;rw[h2,aX,fV (by omega) (by omega)]) hw
 ·refine(ai (by rw[h3,ar];simp;omega)).2 (af.2 ⟨?_,af.2 ⟨rfl,?_⟩⟩)
  ·rw[h4,al];simp[i_];omega
  ·have e:([(aj.k gW (p.b4,(0:Int)))]:List Bool)=unpack 1 b:=by
    show[gW (p.b4,(0:Int))]=_
    rw[h4,mO hb (by omega) (by omega)];rfl
   refine bo (congrArg LT.more (congr (congrArg (Eg.c3 _) (cf (i:=0) (by omega))) e)) ?_
   exact W_ hv hb hl hn hw hok (n-1) 1 _ h1 h2 h3 h4 (by omega) (by omega)
theorem ah7{n v w:Int}{b:List Int}(h:Ty.cB [(.struct [(.int .i64),(.slice (.int .u8))]),(.int .u64),(.int .i64)] ((n,b),v,w)):aA (sV aj) (WH aj n b v w) (De ((n,b),v,w)):=by
 obtain⟨h1,hv,hw⟩:=Gu h
 have hb:=(dF h1).2.2
 have hl:=du h1
 unfold WH
 rw[De]
 refine af.2 ⟨rfl,?_⟩
 cases hok:bC (n,b)
 ·refine(ai (show(e_ (n,b) != 0)=true by rw[e_,hok];rfl)).2 ?_
  exact .ret _
 ·refine(ah (show(e_ (n,b) != 0)=false by rw[e_,hok];rfl)).2 ?_
  obtain⟨h2,h3,h4⟩:=(fh hb).1 hok
  have h5:=h4.1
  rw[Bool.not_true,cond_false]
  by_cases h6:w<0
  ·refine(ai (by rw[ar];simpa using h6)).2 ?_
   rw[show decide (w<0)=true from by simpa using h6]
   exact .ret _
  ·refine(ah (by rw[ar];simpa using h6)).2 ?_
   by_cases h7:64<w
   ·refine(ai (by rw[aG];simpa using h7)).2 ?_
    rw[show decide (64<w)=true from by simpa using h7,Bool.or_true,Bool.true_or]
    exact .ret _
   ·refine(ah (by rw[aG];simpa using h7)).2 ?_
    rw[show decide (w<0)=false from by simpa using h6,show decide (64<w)=false from by simpa using h7,Bool.false_or,Bool.false_or,wU hv.1]
    obtain⟨k,rfl⟩:=Int.eq_ofNat_of_zero_le (show 0≤w by omega)
    rw[Int.toNat_natCast]
    have hfin:(((v.toNat/2^k:Nat):Int) != 0)=false→aA (sV aj) (.need (aj.k (@tt ((Int×List Int))) (n,b)) (.br (aj.c .neq (aj.k e_ (n,b)) 0) (.more (.c0 ⟨v,(aj.b .sub .i64 (k:Int) 1),0⟩)) (.more (.c1 ⟨0,v,(k:Int),n,b,0⟩)))) (bif ((v.toNat/2^k:Nat):Int) != 0 then(zB,2) else zR (bw (n,b)++bitsOf v.toNat k)):=by
     intro hz
     rw[hz,cond_false]
     refine af.2 ⟨rfl,(ah (show(e_ (n,b) != 0)=false by rw[e_,hok];rfl)).2 ?_⟩
     exact Tx (n:=n.toNat) hv.1 hb hl (by omega) (by omega) (by omega) _ rfl rfl rfl (show n=_ by omega) rfl
    by_cases h8:k<64
    ·refine(ai (by rw[ar];simp;omega)).2 (af.2 ⟨by rw[dS (by omega),ij],?_⟩)
     rw[dS (by omega),GK hv.1 (by omega)]
     cases hz:(((v.toNat/2^k:Nat):Int) != 0)
     ·refine(ah hz).2 ?_
      rw[←hz]
      exact hfin hz
     ·refine(ai hz).2 ?_
      exact .ret _
    ·refine(ah (by rw[ar];simp;omega)).2 (hfin ?_)
     have:k=64:=by omega
     subst this
     rw[Nat.div_eq_of_lt (by omega)];rfl
def fI:((Int×List Int)×Int×Int)→((Int×List Int)×Int):=De
def YJ:aB:=⟨[(.struct [yI,yB]),(.int .u64),yI], [(.struct [yI,yB]),yI],(@tt ((Int×List Int)×Int×Int)),fI⟩
theorem Lx:Sd 188 YJ:=aL ax bK true 81 [⟨188,7, [[1,6,8,9]]⟩,⟨191,5, [[1,3,4], [1,2,6]]⟩] [] (fun A ((bN,bB),v,width)=>WH A bN bB v width) sV TC (fc Tryz.func188 (fc Tryz.func191 fz)) (sc Ce (sc La (sc Gn sz))) (fun A y=>match y with |.c0 p=>⟨34,by kernel_rfl,by kernel_rfl⟩|.c1 p=>⟨34,by kernel_rfl,by kernel_rfl⟩|.c2 p c1 c3=>⟨34,by kernel_rfl,by kernel_rfl⟩|.c3 p d0 d5=>⟨34,by kernel_rfl,by kernel_rfl⟩) fun((bN,bB),v,width) hp h=>ah7 h
open Go.Ev.Pl
structure KS where
 (a0 a1 a2 a4:Int) (a5:List Int) (a6 a7:Int)
inductive Ga where
 | c0 (p:KS) (a3:Int) (a8:List Int)
noncomputable def Wm:Ga→fL
 | .c0 p a3 a8=>⟨[⟨249,63,(en [(1,.int .u64 false p.a0),(2,vi p.a1),(3,.ptr 0 0),(6,.ptr 1 0),(8,.ptr 2 0),(43,vi p.a2),(44,vi a3)]),[.inLoop (cw Tryz.f249 [1,1,1,0,1,0,0]),.inBlock 1,.code (cw Tryz.f249 [1,1,1,1])],[],none⟩],[.flat false [vi p.a4,.sl yU p.a5],.flat false [vi p.a6,.bi true],.flat false [vi p.a7,.own 3],.arr false yU a8,.dead]⟩
def Ur(A:a_)(bN:Int)(bB:List Int)(v:Int)(width:Int):LT ((Int×List Int)×Int) Ga:=.need (A.k (@tt ((Int×List Int))) (bN,bB)) (.br (A.c .neq (A.k kD (bN,bB)) 0) (.ret ((0,([]:List Int)),10)) (.br (A.c .lss width 0) (.ret ((0,([]:List Int)),2)) (.br (A.c .gtr width 64) (.ret ((0,([]:List Int)),2)) (.br (A.c .lss width 64) (.need (A.c .leq 0 width) (.br (A.c .neq (A.b .shr .u64 v width) 0) (.ret ((0,([]:List Int)),2)) (.br (A.c .gtr width (A.b .sub .i64 4096 bN)) (.ret ((0,([]:List Int)),3)) (.need (A.k (@tt Int) (A.b .add .i64 bN width)) (.need (A.and (A.c .eql (A.k dN (A.b .add .i64 bN width)) (A.k dN (A.b .add .i64 bN width))) (A.and (A.c .leq 0 (A.k dN (A.b .add .i64 bN width))) (A.c .leq (A.k dN (A.b .add .i64 bN width)) 140737488355328))) (.more (.c0 ⟨v,width,width,bN,bB,0,(A.b .add .i64 bN width)⟩ 0 (A.spl (A.r (A.k dN (A.b .add .i64 bN width)) (0:Int)) 0 (A.s bB 0 (A.mn (A.l bB) (A.l (A.r (A.k dN (A.b .add .i64 bN width)) (0:Int))))))))))))) (.br (A.c .gtr width (A.b .sub .i64 4096 bN)) (.ret ((0,([]:List Int)),3)) (.need (A.k (@tt Int) (A.b .add .i64 bN width)) (.need (A.and (A.c .eql (A.k dN (A.b .add .i64 bN width)) (A.k dN (A.b .add .i64 bN width))) (A.and (A.c .leq 0 (A.k dN (A.b .add .i64 bN width))) (A.c .leq (A.k dN (A.b .add .i64 bN width)) 140737488355328))) (.more (.c0 ⟨v,width,width,bN,bB,0,(A.b .add .i64 bN width)⟩ 0 (A.spl (A.r (A.k dN (A.b .add .i64 bN width)) (0:Int)) 0 (A.s bB 0 (A.mn (A.l bB) (A.l (A.r (A.k dN (A.b .add .i64 bN width)) (0:Int)))))))))))))))
def IM(A:a_):Ga→LT ((Int×List Int)×Int) Ga
 | .c0 p a3 a8=>.br (A.c .lss a3 p.a2) (.need (A.c .leq 0 (A.b .sub .i64 (A.b .sub .i64 p.a1 1) a3)) (.br (A.c .eql (A.b .and .u64 (A.b .shr .u64 p.a0 (A.b .sub .i64 (A.b .sub .i64 p.a1 1) a3)) 1) 1) (.need (A.and (A.c .leq 0 (A.b .quo .i64 (A.b .add .i64 p.a4 a3) 8)) (A.c .lss (A.b .quo .i64 (A.b .add .i64 p.a4 a3) 8) (A.l a8))) (.need (A.k oK (A.b .add .i64 p.a4 a3)) (.need (A.and (A.c .leq 0 (A.b .quo .i64 (A.b .add .i64 p.a4 a3) 8)) (A.c .lss (A.b .quo .i64 (A.b .add .i64 p.a4 a3) 8) (A.l a8))) (.more (.c0 p (A.b .add .i64 a3 1) (A.set a8 (A.b .quo .i64 (A.b .add .i64 p.a4 a3) 8) (A.b .or .u8 (A.n yU a8 (A.b .quo .i64 (A.b .add .i64 p.a4 a3) 8):Int) (A.k zK (A.b .add .i64 p.a4 a3))))))))) (.more (.c0 p (A.b .add .i64 a3 1) a8)))) (.ret ((p.a7,a8),0))
theorem D2{v w k:Nat}(h:k<w):(bitsOf v w).getD k false=v.testBit (w-1-k):=by
 rw[List.getD_eq_getElem?_getD,bitsOf,List.getElem?_map,List.getElem?_range h];rfl
theorem q_{B:List Int}{m i:Nat}(hB:B.length=m)(hi:i<8*m)(hm:m≤100000):(aj.and (aj.c .leq 0 (aj.b .quo .i64 (i:Int) 8)) (aj.c .lss (aj.b .quo .i64 (i:Int) 8) (aj.l B)))=true:=by
 have hlb:aj.l B=(m:Int):=by rw[←hB];rfl
 rw[nD (by omega),hlb,ij,aO,aQ];simp;omega
theorem Bm{i:Nat}:aj.k oK (i:Int)=true:=by rw[al];simp[oK]
theorem aew{v:Int}{n w:Nat}{b:List Int}(hv:0≤v)(hn:n+w≤4096)(hw:w≤64):∀(j k:Nat) (p:KS) (B:List Int),p.a0=v→p.a1=(w:Int)→p.a2=(w:Int)→p.a4=(n:Int)→p.a7=((n+w:Nat):Int)→w-k=j→k≤w→Holds B (unpack n b++(bitsOf v.toNat w).take k) ((n+w+7)/8)→aA (IM aj) (.more (.c0 p (k:Int) B)) (bJ (unpack n b++bitsOf v.toNat w),0):=by
 intro j
 induction j with
 | zero=>
   intro k p B h1 h2 h3 h4 h5 hj hk hB
   have:k=w:=by omega
   subst this
   simp only[ak,IM]
   refine(ah (by rw[h3,aO];simp)).2 ?_
   rw[List.take_of_length_le (by rw[aN];exact Nat.le_refl _)] at hB
   have hl:(unpack n b++bitsOf v.toNat k).length=n+k:=by rw[List.length_append,bg,aN]
   rw[h5,hB.done (by rw[hl])]
   rw[show bJ (unpack n b++bitsOf v.toNat k)=(((n+k:Nat):Int),pack (unpack n b++bitsOf v.toNat k)) from by rw[bJ,hl]]
   exact .ret _
 | succ j ih=>
   intro k p B h1 h2 h3 h4 h5 hj hk hB
   simp only[ak,IM]
   have hsh:aj.b .sub .i64 (aj.b .sub .i64 p.a1 1) (k:Int)=((w-1-k:Nat):Int):=by
    rw[h2,show aj.b .sub .i64 (w:Int) 1=((w-1:Nat):Int) from l6 (j:=1) (by omega) (by omega),l6 (by omega) (by omega)]
   have hat:aj.b .add .i64 p.a4 (k:Int)=((n+k:Nat):Int):=by rw[h4,fC (by omega)]
   have hlen:(unpack n b++(bitsOf v.toNat w).take k).length=n+k:=by rw[List.length_append,bg,List.length_take,aN];omega
   have hts:=pM (l:=bitsOf v.toNat w) (i:=k) (by rw[aN];omega)
   rw[D2 (by omega)] at hts
   refine(ai (by rw[h3,aO];simp;omega)).2 (af.2 ⟨by rw[hsh,ij],?_⟩)
   rw[hsh,h1,Lu hv (by omega),hat]
   cases hx:v.toNat.testBit (w-1-k)
   ·rw[hx] at hts
    refine(ah rfl).2 ?_
    refine bo (congrArg LT.more (congr (congrArg (Ga.c0 p) (cf (by omega))) rfl)) (ih (k+1) p B h1 h2 h3 h4 h5 (by omega) (by omega) ?_)
    rw[hts,←List.append_assoc]
    exact hB.skip
   ·rw[hx] at hts
    refine(ai rfl).2 (af.2 ⟨q_ hB.1 (by omega) (by omega),af.2 ⟨Bm,af.2 ⟨q_ hB.1 (by omega) (by omega),?_⟩⟩⟩)
    refine bo (congrArg LT.more (congr (congrArg (Ga.c0 p) (cf (by omega))) rfl)) (ih (k+1) p _ h1 h2 h3 h4 h5 (by omega) (by omega) ?_)
    rw[hts,←List.append_assoc]
    exact Eu hB hlen (by omega) (by omega)
theorem grow{n w:Nat}{b:List Int}(h:okB n b)(hw:n+w≤100000):Holds (aj.spl (aj.r (aj.k dN ((n+w:Nat):Int)) (0:Int)) 0 (aj.s b 0 (aj.mn (aj.l b) (aj.l (aj.r (aj.k dN ((n+w:Nat):Int)) (0:Int)))))) (unpack n b) ((n+w+7)/8):=by
 have h1:=h.1
 rw[al,od (by omega) (by omega),Int.toNat_natCast]
 have e1:aj.r ((((n+w+7)/8:Nat):Nat):Int) (0:Int)=List.replicate ((n+w+7)/8) 0:=by rw[mY,Int.toNat_natCast]
 rw[e1]
 have e2:aj.mn (aj.l b) (aj.l (List.replicate ((n+w+7)/8) (0:Int)))=(b.length:Int):=by
  rw[uO]
  show(if ((List.replicate ((n+w+7)/8) (0:Int)).length:Int)<(b.length:Int) then _ else(b.length:Int))=_
  rw[List.length_replicate,if_neg (by omega)]
 rw[e2,mI,pz]
 have e3:(b.take (b.length:Int).toNat).drop (0:Int).toNat=b:=by
  rw[Int.toNat_natCast,List.take_length];rfl
 rw[e3]
 have:=Holds.grown (m:=(n+w+7)/8) h (by omega)
 rw[show(0:Int).toNat=0 from rfl,List.take_zero,List.nil_append,Nat.zero_add,List.drop_replicate]
 exact this
theorem ags{n v w:Int}{b:List Int}(h:Ty.cB [(.struct [(.int .i64),(.slice (.int .u8))]),(.int .u64),(.int .i64)] ((n,b),v,w)):aA (IM aj) (Ur aj n b v w) (De ((n,b),v,w)):=by
 obtain⟨h1,hv,hw⟩:=Gu h
 have hb:=(dF h1).2.2
 have hl:=du h1
 unfold Ur
 rw[De]
 refine af.2 ⟨rfl,?_⟩
 have hc:aj.c .neq (aj.k kD (n,b)) 0=!bC (n,b):=by
  rw[al,lT hb hl];cases bC (n,b)<;>rfl
 rw[hc]
 cases hok:bC (n,b)
 ·exact(ai rfl).2 (.ret _)
 ·refine(ah rfl).2 ?_
  obtain⟨h2,h3,h4⟩:=(fh hb).1 hok
  have h5:=h4.1
  rw[Bool.not_true,cond_false]
  by_cases h6:w<0
  ·refine(ai (by rw[ar];simpa using h6)).2 ?_
   rw[show decide (w<0)=true from by simpa using h6]
   exact .ret _
  ·refine(ah (by rw[ar];simpa using h6)).2 ?_
   by_cases h7:64<w
   ·refine(ai (by rw[aG];simpa using h7)).2 ?_
    rw[show decide (64<w)=true from by simpa using h7,Bool.or_true,Bool.true_or]
    exact .ret _
   ·refine(ah (by rw[aG];simpa using h7)).2 ?_
    rw[show decide (w<0)=false from by simpa using h6,show decide (64<w)=false from by simpa using h7,Bool.false_or,Bool.false_or,wU hv.1]
    obtain⟨k,rfl⟩:=Int.eq_ofNat_of_zero_le (show 0≤w by omega)
    obtain⟨m,rfl⟩:=Int.eq_ofNat_of_zero_le h2
    rw[Int.toNat_natCast] at h4 h5 ⊢
    have hadd:aj.b .add .i64 (m:Int) (k:Int)=((m+k:Nat):Int):=fC (by omega)
    have hneed:aj.k dN ((m+k:Nat):Int)=(((m+k+7)/8:Nat):Int):=by rw[al,od (by omega) (by omega),Int.toNat_natCast]
    have hlen:(bw ((m:Int),b)++bitsOf v.toNat k).length=m+k:=by rw[List.length_append,dO,aN,Int.toNat_natCast]
    have hfin:(((v.toNat/2^k:Nat):Int) != 0)=false→∀t,t=(LT.br (aj.c .gtr (k:Int) (aj.b .sub .i64 4096 (m:Int))) (.ret ((0,([]:List Int)),3)) (.need (aj.k (@tt Int) (aj.b .add .i64 (m:Int) (k:Int))) (.need (aj.and (aj.c .eql (aj.k dN (aj.b .add .i64 (m:Int) (k:Int))) (aj.k dN (aj.b .add .i64 (m:Int) (k:Int)))) (aj.and (aj.c .leq 0 (aj.k dN (aj.b .add .i64 (m:Int) (k:Int)))) (aj.c .leq (aj.k dN (aj.b .add .i64 (m:Int) (k:Int))) 140737488355328))) (.more (.c0 ⟨v,(k:Int),(k:Int),(m:Int),b,0,(aj.b .add .i64 (m:Int) (k:Int))⟩ 0 (aj.spl (aj.r (aj.k dN (aj.b .add .i64 (m:Int) (k:Int))) (0:Int)) 0 (aj.s b 0 (aj.mn (aj.l b) (aj.l (aj.r (aj.k dN (aj.b .add .i64 (m:Int) (k:Int))) (0:Int)))))))))):LT ((Int×List Int)×Int) Ga)→aA (IM aj) t (bif ((v.toNat/2^k:Nat):Int) != 0 then(zB,2) else zR (bw ((m:Int),b)++bitsOf v.toNat k)):=by
     intro hz t ht
     rw[hz,cond_false,ht,zR,hlen,hadd,show aj.b .sub .i64 (4096:Int) (m:Int)=((4096-m:Nat):Int) from l6 (i:=4096) (by omega) (by omega)]
     by_cases h9:4096<m+k
     ·rw[show decide (4096<m+k)=true from by simpa using h9]
      refine(ai (by rw[aG];simp;omega)).2 (.ret _)
     ·rw[show decide (4096<m+k)=false from by simpa using h9]
      refine(ah (by rw[aG];simp;omega)).2 (af.2 ⟨rfl,af.2 ⟨?_,?_⟩⟩)
      ·rw[hneed,ij,qk rfl,ay,aQ,aQ];simp;omega
      ·refine aew hv.1 (by omega) (by omega) k 0 _ _ rfl rfl rfl rfl rfl rfl (by omega) ?_
       rw[List.take_zero,List.append_nil]
       exact grow h4 (by omega)
    by_cases h8:k<64
    ·refine(ai (by rw[ar];simp;omega)).2 (af.2 ⟨ij,?_⟩)
     rw[GK hv.1 (by omega)]
     cases hz:(((v.toNat/2^k:Nat):Int) != 0)
     ·refine(ah hz).2 ?_
      rw[←hz]
      exact hfin hz _ rfl
     ·exact(ai hz).2 (.ret _)
    ·refine(ah (by rw[ar];simp;omega)).2 (hfin ?_ _ rfl)
     have:k=64:=by omega
     subst this
     rw[Nat.div_eq_of_lt (by omega)];rfl
def og:((Int×List Int)×Int×Int)→((Int×List Int)×Int):=De
def afB:aB:=⟨[(.struct [yI,yB]),(.int .u64),yI], [(.struct [yI,yB]),yI],(@tt ((Int×List Int)×Int×Int)),og⟩
theorem af0:Sd 249 afB:=aL ax bK true 114 [⟨249,9, [[1,2,3,6,8,43,44]]⟩] [] (fun A ((bN,bB),v,width)=>Ur A bN bB v width) IM Wm (fc Tryz.func249 (fc Tryz.func258 (fc Tryz.func259 (fc Tryz.func261 fz)))) (sc FJ (sc MU (sc L6 sz))) (fun A y=>match y with |.c0 p a3 a8=>⟨63,by kernel_rfl,by kernel_rfl⟩) fun((bN,bB),v,width) hp h=>ags h
open Go.Ev.Pl
structure Ol where
 (a0 a2 a4:Int) (a5:List Int)
inductive Rb where
 | c0 (p:Ol) (a1:Int) (a3:Int)
noncomputable def VQ:Rb→fL
 | .c0 p a1 a3=>⟨[⟨247,54,(en [(1,vi p.a0),(3,.ptr 0 0),(8,.int .u64 false a1),(39,vi p.a2),(40,vi a3)]),[.inLoop (cw Tryz.f247 [1,1,1,0,1,0,0]),.inBlock 1,.code (cw Tryz.f247 [1,1,1,1])],[],none⟩],[.flat false [vi p.a4,.sl yU p.a5],.dead]⟩
def t138(A:a_)(bN:Int)(bB:List Int)(at1:Int)(width:Int):LT (Int×Int) Rb:=.need (A.k (@tt ((Int×List Int))) (bN,bB)) (.br (A.c .neq (A.k kD (bN,bB)) 0) (.ret (0,10)) (.br (A.c .lss width 0) (.ret (0,2)) (.br (A.c .gtr width 64) (.ret (0,2)) (.br (A.c .lss at1 0) (.ret (0,2)) (.br (A.c .gtr at1 bN) (.ret (0,2)) (.br (A.c .gtr width (A.b .sub .i64 bN at1)) (.ret (0,2)) (.more (.c0 ⟨at1,width,bN,bB⟩ 0 0))))))))
def Kl(A:a_):Rb→LT (Int×Int) Rb
 | .c0 p a1 a3=>.br (A.c .lss a3 p.a2) (.need (A.k tM ((p.a4,p.a5),(A.b .add .i64 p.a0 a3))) (.br (A.k yQ ((p.a4,p.a5),(A.b .add .i64 p.a0 a3))) (.more (.c0 p (A.b .or .u64 (A.b .shl .u64 a1 1) 1) (A.b .add .i64 a3 1))) (.more (.c0 p (A.b .shl .u64 a1 1) (A.b .add .i64 a3 1))))) (.ret (a1,0))
theorem EZ{l:List Bool}{a k:Nat}(h:a+k<l.length):bl l a (k+1)=2*bl l a k+(l.getD (a+k) false).toNat:=by
 rw[bl,bl,pM (by rw[List.length_drop];omega),qP,getD_drop]
theorem RH{k:Nat}(h:k≤64):2^k≤18446744073709551616:=Nat.le_trans (Nat.pow_le_pow_right (by decide) h) (by decide)
theorem EV{x:Nat}(h:2*x<18446744073709551616):aj.b .shl .u64 (x:Int) 1=((2*x:Nat):Int):=by
 show IntKind.u64.wrap ((x:Int)*2^min (1:Int).toNat 64)=_
 rw[show(2:Int)^min (1:Int).toNat 64=2 from rfl,ES (by omega) (by omega)];omega
theorem OW{x:Nat}(h:2*x<18446744073709551616):aj.b .or .u64 ((2*x:Nat):Int) 1=((2*x+1:Nat):Int):=by
 show IntKind.u64.wrap ((BitVec.ofInt 64 ((2*x:Nat):Int) ||| BitVec.ofInt 64 1).toNat:Int)=_
 rw[BitVec.ofInt_natCast,show BitVec.ofInt 64 1=BitVec.ofNat 64 1 from rfl,BitVec.toNat_or,BitVec.toNat_ofNat,BitVec.toNat_ofNat,show 1%2^64=1 from rfl,Nat.mod_eq_of_lt (by omega)]
 have:=Nat.shiftLeft_add_eq_or_of_lt (i:=1) (b:=1) (by decide) x
 rw[Nat.shiftLeft_eq,Nat.pow_one,Nat.mul_comm x 2] at this
 rw[←this,ES (by omega) (by omega)]
theorem H8{x:Nat}(h:2*x<18446744073709551616):aj.b .mul .u64 (x:Int) 2=((2*x:Nat):Int):=by
 rw[nE,ES (by omega) (by omega)];omega
theorem Qf{x:Nat}(h:2*x<18446744073709551615):aj.b .add .u64 ((2*x:Nat):Int) 1=((2*x+1:Nat):Int):=by
 rw[bf,ES (by omega) (by omega)];omega
theorem wR{n a w:Int}{b:List Int}(h:Ty.cB [(.struct [(.int .i64),(.slice (.int .u8))]),(.int .i64),(.int .i64)] ((n,b),a,w)):Ty.has (.struct [(.int .i64),(.slice (.int .u8))]) (n,b)∧(-9223372036854775808≤a∧a≤9223372036854775807)∧(-9223372036854775808≤w∧w≤9223372036854775807):=h
theorem ab7{n a w:Nat}{b:List Int}(hb:bX b)(hl:b.length≤100000)(hn:n≤8*b.length)(haw:a+w≤n)(hw:w≤64):∀(j k:Nat) (p:Ol),p.a0=(a:Int)→p.a2=(w:Int)→p.a5=b→w-k=j→k≤w→aA (Kl aj) (.more (.c0 p ((bl (unpack n b) a k:Nat):Int) (k:Int))) (((bl (unpack n b) a w:Nat):Int),0):=by
 intro j
 induction j with
 | zero=>
   intro k p h1 h2 h3 hj hk
   have:k=w:=by omega
   subst this
   simp only[ak,Kl]
   exact(ah (by rw[h2,aO];simp)).2 (.ret _)
 | succ j ih=>
   intro k p h1 h2 h3 hj hk
   simp only[ak,Kl]
   have hat:aj.b .add .i64 p.a0 (k:Int)=((a+k:Nat):Int):=by rw[h1,fC (by omega)]
   have hf:=c_ (unpack n b) a k
   have hp:=RH (k:=k+1) (by omega)
   rw[Nat.pow_succ] at hp
   have hs:=EZ (l:=unpack n b) (a:=a) (k:=k) (by rw[bg];omega)
   rw[jP,show decide (a+k<n)=true from by simp;omega,Bool.true_and] at hs
   refine(ai (by rw[h2,aO];simp;omega)).2 (af.2 ⟨by rw[hat,h3,al];simp[tM];omega,?_⟩)
   have hc:aj.k yQ ((p.a4,p.a5),aj.b .add .i64 p.a0 (k:Int))=fM b (a+k):=by
    rw[hat,h3,al,ER hb (by omega) (by omega) (by omega),Int.toNat_natCast]
   have hm:=ih (k+1) p h1 h2 h3 (by omega) (by omega)
   cases hx:fM b (a+k)
   ·rw[hx] at hs
    refine(ah (hc.trans hx)).2 ?_
    rw[hs,show 2*bl (unpack n b) a k+false.toNat=2*bl (unpack n b) a k from rfl,←EV (by omega),←cf (by omega)] at hm
    exact hm
   ·rw[hx] at hs
    refine(ai (hc.trans hx)).2 ?_
    rw[hs,show 2*bl (unpack n b) a k+true.toNat=2*bl (unpack n b) a k+1 from rfl,←OW (by omega),←EV (by omega),←cf (by omega)] at hm
    exact hm
theorem ago{n a w:Int}{b:List Int}(h:Ty.cB [(.struct [(.int .i64),(.slice (.int .u8))]),(.int .i64),(.int .i64)] ((n,b),a,w)):aA (Kl aj) (t138 aj n b a w) (zY ((n,b),a,w)):=by
 obtain⟨h1,ha,hw⟩:=wR h
 have hb:=(dF h1).2.2
 have hl:=du h1
 unfold t138
 rw[zY]
 refine af.2 ⟨rfl,?_⟩
 have hc:aj.c .neq (aj.k kD (n,b)) 0=!bC (n,b):=by
  rw[al,lT hb hl];cases bC (n,b)<;>rfl
 rw[hc]
 cases hok:bC (n,b)
 ·exact(ai rfl).2 (.ret _)
 ·refine(ah rfl).2 ?_
  obtain⟨h2,h3,h4⟩:=(fh hb).1 hok
  have h5:=h4.1
  rw[Bool.not_true,cond_false]
  by_cases h6:w<0
  ·refine(ai (by rw[ar];simpa using h6)).2 ?_
   rw[show decide (w<0)=true from by simpa using h6]
   exact .ret _
  refine(ah (by rw[ar];simpa using h6)).2 ?_
  by_cases h7:64<w
  ·refine(ai (by rw[aG];simpa using h7)).2 ?_
   rw[show decide (64<w)=true from by simpa using h7]
   simp only[Bool.or_true,Bool.true_or]
   exact .ret _
  refine(ah (by rw[aG];simpa using h7)).2 ?_
  by_cases h8:a<0
  ·refine(ai (by rw[ar];simpa using h8)).2 ?_
   rw[show decide (a<0)=true from by simpa using h8]
   simp only[Bool.or_true,Bool.true_or]
   exact .ret _
  refine(ah (by rw[ar];simpa using h8)).2 ?_
  rw[show decide (w<0)=false from by simpa using h6,show decide (64<w)=false from by simpa using h7,show decide (a<0)=false from by simpa using h8]
  by_cases h9:n<a
  ·refine(ai (by rw[aG];simpa using h9)).2 ?_
   rw[show decide (n<a+w)=true from by simp;omega]
   exact .ret _
  refine(ah (by rw[aG];simpa using h9)).2 ?_
  rw[aX,fV (by omega) (by omega)]
  by_cases h10:n<a+w
  ·refine(ai (by rw[aG];simp;omega)).2 ?_
   rw[show decide (n<a+w)=true from by simpa using h10]
   exact .ret _
  refine(ah (by rw[aG];simp;omega)).2 ?_
  rw[show decide (n<a+w)=false from by simpa using h10]
  obtain⟨k,rfl⟩:=Int.eq_ofNat_of_zero_le (show 0≤w by omega)
  obtain⟨i,rfl⟩:=Int.eq_ofNat_of_zero_le (show 0≤a by omega)
  exact ab7 (n:=n.toNat) hb (by omega) (by omega) (by omega) (by omega) k 0 _ rfl rfl rfl (by omega) (by omega)
def aK:((Int×List Int)×Int×Int)→(Int×Int):=zY
def acb:aB:=⟨[(.struct [yI,yB]),yI,yI], [(.int .u64),yI],(@tt ((Int×List Int)×Int×Int)),aK⟩
theorem GY:Sd 247 acb:=aL ax bK true 65 [⟨247,7, [[1,3,8,39,40]]⟩] [] (fun A ((bN,bB),at1,width)=>t138 A bN bB at1 width) Kl VQ (fc Tryz.func247 fz) (sc FJ (sc R5 sz)) (fun A y=>match y with |.c0 p a1 a3=>⟨45,by kernel_rfl,by kernel_rfl⟩) fun((bN,bB),at1,width) hp h=>ago h
structure L1 where
 (a0 a1 a4:Int) (a5:List Int)
inductive OG where
 | c0 (p:L1) (a2:Int) (a3:Int)
noncomputable def Ta:OG→fL
 | .c0 p a2 a3=>⟨[⟨254,54,(en [(1,vi p.a0),(2,vi p.a1),(3,.ptr 0 0),(8,.int .u64 false a2),(9,vi a3)]),[.inLoop (cw Tryz.f254 [1,1,1,1,0,1,0,0]),.inBlock 0,.code (cw Tryz.f254 [1,1,1,1,1])],[],none⟩],[.flat false [vi p.a4,.sl yU p.a5],.dead]⟩
def t141(A:a_)(bN:Int)(bB:List Int)(at1:Int)(width:Int):LT (Int×Int) OG:=.need (A.k (@tt ((Int×List Int))) (bN,bB)) (.br (A.c .neq (A.k e_ (bN,bB)) 0) (.ret (0,10)) (.br (A.c .lss width 0) (.ret (0,2)) (.br (A.c .gtr width 64) (.ret (0,2)) (.br (A.c .lss at1 0) (.ret (0,2)) (.br (A.c .gtr at1 bN) (.ret (0,2)) (.br (A.c .gtr width (A.b .sub .i64 bN at1)) (.ret (0,2)) (.more (.c0 ⟨at1,width,bN,bB⟩ 0 at1))))))))
def Kd(A:a_):OG→LT (Int×Int) OG
 | .c0 p a2 a3=>.br (A.c .lss a3 (A.b .add .i64 p.a0 p.a1)) (.need (A.k i_ (p.a5,a3)) (.br (A.k gW (p.a5,a3)) (.more (.c0 p (A.b .add .u64 (A.b .mul .u64 a2 2) 1) (A.b .add .i64 a3 1))) (.more (.c0 p (A.b .mul .u64 a2 2) (A.b .add .i64 a3 1))))) (.ret (a2,0))
theorem acD{n a w:Nat}{b:List Int}(hb:bX b)(hl:b.length≤100000)(hn:n≤8*b.length)(haw:a+w≤n)(hw:w≤64):∀(j k:Nat) (p:L1),p.a0=(a:Int)→p.a1=(w:Int)→p.a5=b→w-k=j→k≤w→aA (Kd aj) (.more (.c0 p ((bl (unpack n b) a k:Nat):Int) ((a+k:Nat):Int))) (((bl (unpack n b) a w:Nat):Int),0):=by
 intro j
 induction j with
 | zero=>
   intro k p h1 h2 h3 hj hk
   have:k=w:=by omega
   subst this
   simp only[ak,Kd]
   exact(ah (by rw[h1,h2,fC (by omega),aO];simp)).2 (.ret _)
 | succ j ih=>
   intro k p h1 h2 h3 hj hk
   simp only[ak,Kd]
   have hf:=c_ (unpack n b) a k
   have hp:=RH (k:=k+1) (by omega)
   rw[Nat.pow_succ] at hp
   have hs:=EZ (l:=unpack n b) (a:=a) (k:=k) (by rw[bg];omega)
   rw[jP,show decide (a+k<n)=true from by simp;omega,Bool.true_and] at hs
   refine(ai (by rw[h1,h2,fC (by omega),aO];simp;omega)).2 (af.2 ⟨by rw[h3,al];simp[i_];omega,?_⟩)
   have hc:aj.k gW (p.a5,((a+k:Nat):Int))=fM b (a+k):=by
    rw[h3,al,mO hb (by omega) (by omega),Int.toNat_natCast]
   have hm:=ih (k+1) p h1 h2 h3 (by omega) (by omega)
   rw[←Nat.add_assoc] at hm
   cases hx:fM b (a+k)
   ·rw[hx] at hs
    refine(ah (hc.trans hx)).2 ?_
    rw[hs,show 2*bl (unpack n b) a k+false.toNat=2*bl (unpack n b) a k from rfl,←H8 (by omega),←cf (by omega)] at hm
    exact hm
   ·rw[hx] at hs
    refine(ai (hc.trans hx)).2 ?_
    rw[hs,show 2*bl (unpack n b) a k+true.toNat=2*bl (unpack n b) a k+1 from rfl,←Qf (by omega),←H8 (by omega),←cf (by omega)] at hm
    exact hm
theorem agR{n a w:Int}{b:List Int}(h:Ty.cB [(.struct [(.int .i64),(.slice (.int .u8))]),(.int .i64),(.int .i64)] ((n,b),a,w)):aA (Kd aj) (t141 aj n b a w) (zY ((n,b),a,w)):=by
 obtain⟨h1,ha,hw⟩:=wR h
 have hb:=(dF h1).2.2
 have hl:=du h1
 unfold t141
 rw[zY]
 refine af.2 ⟨rfl,?_⟩
 cases hok:bC (n,b)
 ·refine(ai (show(e_ (n,b) != 0)=true by rw[e_,hok];rfl)).2 ?_
  exact .ret _
 ·refine(ah (show(e_ (n,b) != 0)=false by rw[e_,hok];rfl)).2 ?_
  obtain⟨h2,h3,h4⟩:=(fh hb).1 hok
  have h5:=h4.1
  rw[Bool.not_true,cond_false]
  by_cases h6:w<0
  ·refine(ai (by rw[ar];simpa using h6)).2 ?_
   rw[show decide (w<0)=true from by simpa using h6]
   exact .ret _
  refine(ah (by rw[ar];simpa using h6)).2 ?_
  by_cases h7:64<w
  ·refine(ai (by rw[aG];simpa using h7)).2 ?_
   rw[show decide (64<w)=true from by simpa using h7]
   simp only[Bool.or_true,Bool.true_or]
   exact .ret _
  refine(ah (by rw[aG];simpa using h7)).2 ?_
  by_cases h8:a<0
  ·refine(ai (by rw[ar];simpa using h8)).2 ?_
   rw[show decide (a<0)=true from by simpa using h8]
   simp only[Bool.or_true,Bool.true_or]
   exact .ret _
  refine(ah (by rw[ar];simpa using h8)).2 ?_
  rw[show decide (w<0)=false from by simpa using h6,show decide (64<w)=false from by simpa using h7,show decide (a<0)=false from by simpa using h8]
  by_cases h9:n<a
  ·refine(ai (by rw[aG];simpa using h9)).2 ?_
   rw[show decide (n<a+w)=true from by simp;omega]
   exact .ret _
  refine(ah (by rw[aG];simpa using h9)).2 ?_
  rw[aX,fV (by omega) (by omega)]
  by_cases h10:n<a+w
  ·refine(ai (by rw[aG];simp;omega)).2 ?_
   rw[show decide (n<a+w)=true from by simpa using h10]
   exact .ret _
  refine(ah (by rw[aG];simp;omega)).2 ?_
  rw[show decide (n<a+w)=false from by simpa using h10]
  obtain⟨k,rfl⟩:=Int.eq_ofNat_of_zero_le (show 0≤w by omega)
  obtain⟨i,rfl⟩:=Int.eq_ofNat_of_zero_le (show 0≤a by omega)
  exact acD (n:=n.toNat) hb (by omega) (by omega) (by omega) (by omega) k 0 _ rfl rfl rfl (by omega) (by omega)
def qo:((Int×List Int)×Int×Int)→(Int×Int):=zY
def aeU:aB:=⟨[(.struct [yI,yB]),yI,yI], [(.int .u64),yI],(@tt ((Int×List Int)×Int×Int)),qo⟩
theorem K_:Sd 254 aeU:=aL ax bK true 63 [⟨254,7, [[1,2,3,8,9]]⟩] [] (fun A ((bN,bB),at1,width)=>t141 A bN bB at1 width) Kd Ta (fc Tryz.func254 fz) (sc Ce (sc Gn sz)) (fun A y=>match y with |.c0 p a2 a3=>⟨44,by kernel_rfl,by kernel_rfl⟩) fun((bN,bB),at1,width) hp h=>agR h
open Go.Ev.Pl
structure NZ where
 (a0 a1 a2 a4 a5:Int) (a6:List Int) (a7 a8:Int)
inductive IQ where
 | c0 (p:NZ) (a3:Int) (a9:List Int)
noncomputable def UW:IQ→fL
 | .c0 p a3 a9=>⟨[⟨262,52,(en [(1,vi p.a0),(3,vi p.a1),(4,vi p.a2),(5,.ptr 0 0),(7,.ptr 1 0),(10,vi a3)]),[.inLoop (cw Tryz.f262 [1,1,1,0,0]),.inBlock 0],[],none⟩,⟨251,39,(en [(6,.ptr 2 0),(8,.ptr 3 0)]),[.ops (ow Tryz.f251 [1,1,1,0]) ((ow Tryz.f251 [1,1,1,0]).toList.drop 4),.code (cw Tryz.f251 [1,1,1,1])],[],none⟩],[.flat false [vi p.a4,.own 4],.flat false [vi p.a5,.sl yU p.a6],.flat false [vi p.a7,.bi true],.flat false [vi p.a8,.own 4],.arr false yU a9,.dead]⟩
def UA(A:a_)(bN:Int)(bB:List Int)(from1:Int)(to:Int):LT ((Int×List Int)×Int) IQ:=.need (A.k (@tt ((Int×List Int))) (bN,bB)) (.br (A.c .neq (A.k kD (bN,bB)) 0) (.ret ((0,([]:List Int)),10)) (.br (A.c .lss from1 0) (.ret ((0,([]:List Int)),2)) (.br (A.c .lss to from1) (.ret ((0,([]:List Int)),2)) (.br (A.c .gtr to bN) (.ret ((0,([]:List Int)),2)) (.need (A.k (@tt Int) (A.b .sub .i64 to from1)) (.need (A.and (A.c .eql (A.k dN (A.b .sub .i64 to from1)) (A.k dN (A.b .sub .i64 to from1))) (A.and (A.c .leq 0 (A.k dN (A.b .sub .i64 to from1))) (A.c .leq (A.k dN (A.b .sub .i64 to from1)) 140737488355328))) (.br (A.c .eql (A.b .rem .i64 from1 8) 0) (.br (A.c .eql to bN) (.need (A.and (A.c .leq 0 0) (A.and (A.c .leq 0 (A.l (A.r (A.k dN (A.b .sub .i64 to from1)) (0:Int)))) (A.c .leq (A.l (A.r (A.k dN (A.b .sub .i64 to from1)) (0:Int))) (A.l (A.r (A.k dN (A.b .sub .i64 to from1)) (0:Int)))))) (.need (A.and (A.c .leq 0 (A.b .quo .i64 from1 8)) (A.and (A.c .leq (A.b .quo .i64 from1 8) (A.l bB)) (A.c .leq (A.l bB) (A.l bB)))) (.ret (((A.b .sub .i64 to from1),(A.spl (A.r (A.k dN (A.b .sub .i64 to from1)) (0:Int)) 0 (A.s (A.s bB (A.b .quo .i64 from1 8) (A.l bB)) 0 (A.mn (A.l (A.s bB (A.b .quo .i64 from1 8) (A.l bB))) (A.b .sub .i64 (A.l (A.r (A.k dN (A.b .sub .i64 to from1)) (0:Int))) 0))))),0)))) (.more (.c0 ⟨0,from1,to,(A.b .sub .i64 to from1),bN,bB,0,(A.b .sub .i64 to from1)⟩ from1 (A.r (A.k dN (A.b .sub .i64 to from1)) (0:Int))))) (.more (.c0 ⟨0,from1,to,(A.b .sub .i64 to from1),bN,bB,0,(A.b .sub .i64 to from1)⟩ from1 (A.r (A.k dN (A.b .sub .i64 to from1)) (0:Int)))))))))))
def Fq(A:a_):IQ→LT ((Int×List Int)×Int) IQ
 | .c0 p a3 a9=>.br (A.c .lss a3 p.a2) (.need (A.k tM ((p.a5,p.a6),a3)) (.br (A.k yQ ((p.a5,p.a6),a3)) (.need (A.and (A.c .leq 0 (A.b .quo .i64 (A.b .sub .i64 (A.b .add .i64 p.a0 a3) p.a1) 8)) (A.c .lss (A.b .quo .i64 (A.b .sub .i64 (A.b .add .i64 p.a0 a3) p.a1) 8) (A.l a9))) (.need (A.k oK (A.b .sub .i64 (A.b .add .i64 p.a0 a3) p.a1)) (.need (A.and (A.c .leq 0 (A.b .quo .i64 (A.b .sub .i64 (A.b .add .i64 p.a0 a3) p.a1) 8)) (A.c .lss (A.b .quo .i64 (A.b .sub .i64 (A.b .add .i64 p.a0 a3) p.a1) 8) (A.l a9))) (.more (.c0 p (A.b .add .i64 a3 1) (A.set a9 (A.b .quo .i64 (A.b .sub .i64 (A.b .add .i64 p.a0 a3) p.a1) 8) (A.b .or .u8 (A.n yU a9 (A.b .quo .i64 (A.b .sub .i64 (A.b .add .i64 p.a0 a3) p.a1) 8):Int) (A.k zK (A.b .sub .i64 (A.b .add .i64 p.a0 a3) p.a1))))))))) (.more (.c0 p (A.b .add .i64 a3 1) a9)))) (.ret ((p.a8,a9),0))
theorem QP{n a c:Nat}{b:List Int}(hb:bX b)(hl:b.length≤100000)(hn:n≤8*b.length)(hac:a≤c)(hc:c≤n):∀(j i:Nat) (p:NZ) (B:List Int),p.a0=0→p.a1=(a:Int)→p.a2=(c:Int)→p.a6=b→p.a8=((c-a:Nat):Int)→c-i=j→a≤i→i≤c→Holds B ((((unpack n b).take c).drop a).take (i-a)) ((c-a+7)/8)→aA (Fq aj) (.more (.c0 p (i:Int) B)) (bJ (((unpack n b).take c).drop a),0):=by
 have hL:(((unpack n b).take c).drop a).length=c-a:=by rw[List.length_drop,List.length_take,bg];omega
 intro j
 induction j with
 | zero=>
   intro i p B h0 h1 h2 h3 h4 hj hi hi2 hB
   have:i=c:=by omega
   subst this
   simp only[ak,Fq]
   refine(ah (by rw[h2,aO];simp)).2 ?_
   rw[List.take_of_length_le (by rw[hL];exact Nat.le_refl _)] at hB
   rw[h4,hB.done (by rw[hL]),show bJ (((unpack n b).take i).drop a)=(((i-a:Nat):Int),pack (((unpack n b).take i).drop a)) from by rw[bJ,hL]]
   exact .ret _
 | succ j ih=>
   intro i p B h0 h1 h2 h3 h4 hj hi hi2 hB
   simp only[ak,Fq]
   have hat:aj.b .sub .i64 (aj.b .add .i64 p.a0 (i:Int)) p.a1=((i-a:Nat):Int):=by
    rw[h0,h1,show aj.b .add .i64 (0:Int) (i:Int)=((0+i:Nat):Int) from fC (i:=0) (by omega),l6 (by omega) (by omega),Nat.zero_add]
   have hts:=pM (l:=((unpack n b).take c).drop a) (i:=i-a) (by rw[hL];omega)
   rw[getD_drop,getD_take,jP,show a+(i-a)=i from by omega,show decide (i<c)=true from by simp;omega,show decide (i<n)=true from by simp;omega,Bool.true_and,Bool.true_and] at hts
   have hlen:((((unpack n b).take c).drop a).take (i-a)).length=i-a:=by rw[List.length_take,hL];omega
   refine(ai (by rw[h2,aO];simp;omega)).2 (af.2 ⟨by rw[h3,al];simp[tM];omega,?_⟩)
   have hc:aj.k yQ ((p.a5,p.a6),(i:Int))=fM b i:=by
    rw[h3,al,ER hb (by omega) (by omega) (by omega),Int.toNat_natCast]
   rw[hat]
   cases hx:fM b i
   ·rw[hx] at hts
    refine(ah (hc.trans hx)).2 ?_
    refine bo (congrArg LT.more (congr (congrArg (IQ.c0 p) (cf (by omega))) rfl)) (ih (i+1) p B h0 h1 h2 h3 h4 (by omega) (by omega) (by omega) ?_)
    rw[show i+1-a=i-a+1 from by omega,hts]
    exact hB.skip
   ·rw[hx] at hts
    refine(ai (hc.trans hx)).2 (af.2 ⟨q_ hB.1 (by omega) (by omega),af.2 ⟨Bm,af.2 ⟨q_ hB.1 (by omega) (by omega),?_⟩⟩⟩)
    refine bo (congrArg LT.more (congr (congrArg (IQ.c0 p) (cf (by omega))) rfl)) (ih (i+1) p _ h0 h1 h2 h3 h4 (by omega) (by omega) (by omega) ?_)
    rw[show i+1-a=i-a+1 from by omega,hts]
    exact Eu hB hlen (by omega) (by omega)
theorem I7(b:List Int)(i j:Nat):fM (b.drop i) j=fM b (8*i+j):=by
 rw[fM,fM,List.getD_eq_getElem?_getD,List.getD_eq_getElem?_getD,List.getElem?_drop,show(8*i+j)/8=i+j/8 from by omega,show(8*i+j)%8=j%8 from by omega]
theorem Jn{n i:Nat}{b:List Int}(h:okB n b)(hi:8*i≤n):b.drop i=pack ((unpack n b).drop (8*i)):=by
 have h1:=h.1
 apply GU
 ·rw[List.length_drop,List.length_drop,bg];omega
 ·exact fun x hx=>h.2.1 x (List.mem_of_mem_drop hx)
 ·intro j hj
  rw[List.length_drop] at hj
  rw[I7,getD_drop,jP]
  by_cases h2:8*i+j<n
  ·rw[show decide (8*i+j<n)=true from by simpa using h2,Bool.true_and]
  ·rw[show decide (8*i+j<n)=false from by simpa using h2,Bool.false_and]
   exact h.2.2 _ (by omega) (by omega)
theorem PN{b:List Int}{i:Nat}:aj.s b (i:Int) (aj.l b)=b.drop i:=by
 show(b.take (b.length:Int).toNat).drop (i:Int).toNat=_
 rw[Int.toNat_natCast,Int.toNat_natCast,List.take_length]
theorem VG{n a c:Int}{b:List Int}(h:Ty.cB [(.struct [(.int .i64),(.slice (.int .u8))]),(.int .i64),(.int .i64)] ((n,b),a,c)):aA (Fq aj) (UA aj n b a c) (cd ((n,b),a,c)):=by
 obtain⟨h1,ha,hw⟩:=wR h
 have hb:=(dF h1).2.2
 have hl:=du h1
 unfold UA
 rw[cd]
 refine af.2 ⟨rfl,?_⟩
 have hc:aj.c .neq (aj.k kD (n,b)) 0=!bC (n,b):=by
  rw[al,lT hb hl];cases bC (n,b)<;>rfl
 rw[hc]
 cases hok:bC (n,b)
 ·exact(ai rfl).2 (.ret _)
 ·refine(ah rfl).2 ?_
  obtain⟨h2,h3,h4⟩:=(fh hb).1 hok
  have h5:=h4.1
  rw[Bool.not_true,cond_false]
  by_cases h6:a<0
  ·refine(ai (by rw[ar];simpa using h6)).2 ?_
   rw[show decide (a<0)=true from by simpa using h6]
   exact .ret _
  refine(ah (by rw[ar];simpa using h6)).2 ?_
  by_cases h7:c<a
  ·refine(ai (by rw[ar];simpa using h7)).2 ?_
   rw[show decide (c<a)=true from by simpa using h7]
   simp only[Bool.or_true,Bool.true_or]
   exact .ret _
  refine(ah (by rw[ar];simpa using h7)).2 ?_
  by_cases h8:n<c
  ·refine(ai (by rw[aG];simpa using h8)).2 ?_
   rw[show decide (n<c)=true from by simpa using h8]
   simp only[Bool.or_true,Bool.true_or]
   exact .ret _
  refine(ah (by rw[aG];simpa using h8)).2 ?_
  rw[show decide (a<0)=false from by simpa using h6,show decide (c<a)=false from by simpa using h7,show decide (n<c)=false from by simpa using h8]
  obtain⟨k,rfl⟩:=Int.eq_ofNat_of_zero_le (show 0≤c by omega)
  obtain⟨i,rfl⟩:=Int.eq_ofNat_of_zero_le (show 0≤a by omega)
  obtain⟨m,rfl⟩:=Int.eq_ofNat_of_zero_le h2
  rw[Int.toNat_natCast] at h4 h5
  have hsub:aj.b .sub .i64 (k:Int) (i:Int)=((k-i:Nat):Int):=l6 (by omega) (by omega)
  have hneed:aj.k dN ((k-i:Nat):Int)=(((k-i+7)/8:Nat):Int):=by rw[al,od (by omega) (by omega),Int.toNat_natCast]
  show aA (Fq aj) _ (bJ (((unpack m b).take k).drop i),0)
  rw[hsub]
  have hrep:aj.r (aj.k dN ((k-i:Nat):Int)) (0:Int)=List.replicate ((k-i+7)/8) 0:=by rw[hneed,mY,Int.toNat_natCast]
  have hmore:aA (Fq aj) (.more (.c0 ⟨0,(i:Int),(k:Int),((k-i:Nat):Int),(m:Int),b,0,((k-i:Nat):Int)⟩ (i:Int) (aj.r (aj.k dN ((k-i:Nat):Int)) (0:Int)))) (bJ (((unpack m b).take k).drop i),0):=by
   refine QP hb (by omega) (by omega) (by omega) (by omega) (k-i) i _ _ rfl rfl rfl rfl rfl (by omega) (by omega) (by omega) ?_
   rw[Nat.sub_self,List.take_zero,hrep]
   exact Holds.blank _
  refine af.2 ⟨rfl,af.2 ⟨by rw[hneed,ij,qk rfl,ay,aQ,aQ];simp;omega,?_⟩⟩
  by_cases h9:i%8=0
  ·refine(ai (qk (by rw[w7,h9];rfl))).2 ?_
   by_cases h10:k=m
   ·subst h10
    refine(ai (qk rfl)).2 (af.2 ⟨?_,af.2 ⟨?_,?_⟩⟩)
    ·rw[hrep]
     have:aj.l (List.replicate ((k-i+7)/8) (0:Int))=(((k-i+7)/8:Nat):Int):=by show((List.replicate ((k-i+7)/8) (0:Int)).length:Int)=_;rw[List.length_replicate]
     rw[this,ij,kF,aQ,aQ];simp[ay]
    ·have:aj.l b=((b.length:Nat):Int):=rfl
     rw[nD (by omega),this,ij,kF,kF,aQ,aQ];simp;omega
    ·have hd:=Jn h4 (i:=i/8) (by omega)
     rw[show 8*(i/8)=i from by omega] at hd
     have hL:((unpack k b).drop i).length=k-i:=by rw[List.length_drop,bg]
     rw[hrep,nD (by omega),PN]
     have e1:aj.mn (aj.l (b.drop (i/8))) (aj.b .sub .i64 (aj.l (List.replicate ((k-i+7)/8) (0:Int))) 0)=((b.drop (i/8)).length:Int):=by
      show aj.mn ((b.drop (i/8)).length:Int) (aj.b .sub .i64 ((List.replicate ((k-i+7)/8) (0:Int)).length:Int) 0)=_
      rw[List.length_replicate,aX,fV (by omega) (by omega),uO,if_neg (by rw[List.length_drop];omega)]
     rw[e1,mI,pz,Int.toNat_natCast,List.take_length]
     have e2:(List.replicate ((k-i+7)/8) (0:Int)).take (0:Int).toNat++(b.drop (i/8)).drop (0:Int).toNat++(List.replicate ((k-i+7)/8) (0:Int)).drop ((0:Int).toNat+((b.drop (i/8)).drop (0:Int).toNat).length)=b.drop (i/8):=by
      show[]++b.drop (i/8)++(List.replicate ((k-i+7)/8) (0:Int)).drop (0+(b.drop (i/8)).length)=_
      rw[List.drop_replicate,List.length_drop,show(k-i+7)/8-(0+(b.length-i/8))=0 from by omega,List.replicate_zero,List.append_nil,List.nil_append]
     rw[e2,hd,List.take_of_length_le (by rw[bg];exact Nat.le_refl _),show bJ ((unpack k b).drop i)=(((k-i:Nat):Int),pack ((unpack k b).drop i)) from by rw[bJ,hL]]
     exact .ret _
   ·exact(ah (EB (by omega))).2 hmore
  ·exact(ah (EB (by rw[w7];omega))).2 hmore
def cO:((Int×List Int)×Int×Int)→((Int×List Int)×Int):=cd
def ae3:aB:=⟨[(.struct [yI,yB]),yI,yI], [(.struct [yI,yB]),yI],(@tt ((Int×List Int)×Int×Int)),cO⟩
theorem Ry:Sd 251 ae3:=aL ax bK true 118 [⟨262,4, [[1,3,4,5,7,10], [6,8]]⟩] [] (fun A ((bN,bB),from1,to)=>UA A bN bB from1 to) Fq UW (fc Tryz.func251 (fc Tryz.func259 (fc Tryz.func261 (fc Tryz.func262 fz)))) (sc FJ (sc MU (sc R5 (sc L6 sz)))) (fun A y=>match y with |.c0 p a3 a9=>⟨57,by kernel_rfl,by kernel_rfl⟩) fun((bN,bB),from1,to) hp h=>VG h
open Go.Ev.Pl
theorem ru{l:List (Int×List Int)}(h:Ty.cB [(.slice (.struct [(.int .i64),(.slice (.int .u8))]))] l):l.length≤140737488355328∧∀x∈l,bX x.2∧x.2.length≤140737488355328:=by
 have h1:l.length≤dI∧∀x∈l,Ty.has (.struct [(.int .i64),(.slice (.int .u8))]) x:=h
 exact⟨h1.1,fun x hx=>⟨(dF (n:=x.1) (b:=x.2) (h1.2 x hx)).2.2,(dF (n:=x.1) (b:=x.2) (h1.2 x hx)).2.1⟩⟩
theorem getD_in{α:Type}{l:List α}{i:Nat}(h:i<l.length)(d:α):l.getD (i:Int).toNat d=l[i]:=by
 rw[Int.toNat_natCast,List.getD_eq_getElem?_getD,List.getElem?_eq_getElem h];rfl
theorem oS{l:List (Int×List Int)}{i:Nat}(h:i<l.length):(aj.n (.struct [(.int .i64),(.slice (.int .u8))]) l (i:Int):Int×List Int)=l[i]:=by
 exact getD_in h _
theorem aP{α:Type}{l:List α}{i:Nat}(h:i<l.length):aj.and (aj.c .leq 0 (i:Int)) (aj.c .lss (i:Int) (aj.l l))=true:=by
 have:aj.l l=(l.length:Int):=rfl
 rw[this,ij,aO,aQ];simpa using h
theorem FY{x:Int×List Int}(h:bC x=true):(bw x).length≤4096:=by
 obtain⟨n,b⟩:=x
 rw[dO]
 simp only[bC,Bool.and_eq_true,decide_eq_true_eq] at h
 show n.toNat≤4096
 omega
theorem D8{l:List Bool}(h:4096<l.length):zR l=(zB,3):=by
 rw[zR,show decide (4096<l.length)=true from by simpa using h];rfl
theorem BM{l:List (Int×List Int)}{i:Nat}(h:i<l.length):(l.take (i+1)).flatMap bw=(l.take i).flatMap bw++bw l[i]:=by
 rw[List.take_succ_eq_append_getElem h,List.flatMap_append]
 simp
def VS(A:a_)(bN:Int)(bB:List Int)(from1:Int)(to:Int):LT ((Int×List Int)×Int) Empty:=.need (A.k (@tt ((Int×List Int))) (bN,bB)) (.br (A.c .neq (A.k e_ (bN,bB)) 0) (.ret ((0,([]:List Int)),10)) (.br (A.c .lss from1 0) (.ret ((0,([]:List Int)),2)) (.br (A.c .lss to from1) (.ret ((0,([]:List Int)),2)) (.br (A.c .gtr to bN) (.ret ((0,([]:List Int)),2)) (.need (A.k (@tt ((Int×List Int))) (bN,bB)) (.need (A.and (A.c .leq 0 from1) (A.and (A.c .leq from1 to) (A.c .leq to (A.l (A.k iQ (bN,bB)))))) (.need (A.k (@tt (List Bool)) (A.s (A.k iQ (bN,bB)) from1 to)) (.ret (A.k ou (A.s (A.k iQ (bN,bB)) from1 to))))))))))
theorem J5{l:List Bool}{a c:Int}:aj.s l a c=(l.take c.toNat).drop a.toNat:=rfl
theorem pJ{l:List Bool}(h:l.length≤4096):zR l=(bJ l,0):=by
 rw[zR,show decide (4096<l.length)=false from by simpa using h];rfl
theorem VA{n a c:Int}{b:List Int}(h:Ty.cB [(.struct [(.int .i64),(.slice (.int .u8))]),(.int .i64),(.int .i64)] ((n,b),a,c)):aA Empty.elim (VS aj n b a c) (cd ((n,b),a,c)):=by
 obtain⟨h1,ha,hw⟩:=wR h
 have hb:=(dF h1).2.2
 have hl:=du h1
 unfold VS
 rw[cd]
 refine af.2 ⟨rfl,?_⟩
 cases hok:bC (n,b)
 ·refine(ai (show(e_ (n,b) != 0)=true by rw[e_,hok];rfl)).2 ?_
  exact .ret _
 ·refine(ah (show(e_ (n,b) != 0)=false by rw[e_,hok];rfl)).2 ?_
  obtain⟨h2,h3,h4⟩:=(fh hb).1 hok
  rw[Bool.not_true,cond_false]
  by_cases h6:a<0
  ·refine(ai (by rw[ar];simpa using h6)).2 ?_
   rw[show decide (a<0)=true from by simpa using h6]
   exact .ret _
  refine(ah (by rw[ar];simpa using h6)).2 ?_
  by_cases h7:c<a
  ·refine(ai (by rw[ar];simpa using h7)).2 ?_
   rw[show decide (c<a)=true from by simpa using h7]
   simp only[Bool.or_true,Bool.true_or]
   exact .ret _
  refine(ah (by rw[ar];simpa using h7)).2 ?_
  by_cases h8:n<c
  ·refine(ai (by rw[aG];simpa using h8)).2 ?_
   rw[show decide (n<c)=true from by simpa using h8]
   simp only[Bool.or_true,Bool.true_or]
   exact .ret _
  refine(ah (by rw[aG];simpa using h8)).2 ?_
  rw[show decide (a<0)=false from by simpa using h6,show decide (c<a)=false from by simpa using h7,show decide (n<c)=false from by simpa using h8]
  have hL:aj.k iQ (n,b)=bw (n,b):=by rw[al,iQ,hok];rfl
  have hlen:aj.l (bw (n,b))=n:=by show((bw (n,b)).length:Int)=n;rw[dO];simp only[];omega
  rw[hL]
  refine af.2 ⟨rfl,af.2 ⟨by rw[hlen,aQ,aQ];simp[ay];omega,af.2 ⟨rfl,?_⟩⟩⟩
  have e:aj.k ou (aj.s (bw (n,b)) a c)=(bJ (((bw (n,b)).take c.toNat).drop a.toNat),0):=by
   rw[al,ou,J5,pJ]
   rw[List.length_drop,List.length_take,dO];simp only[];omega
  rw[e]
  exact .ret _
def bM:((Int×List Int)×Int×Int)→((Int×List Int)×Int):=cd
def abv:aB:=⟨[(.struct [yI,yB]),yI,yI], [(.struct [yI,yB]),yI],(@tt ((Int×List Int)×Int×Int)),bM⟩
theorem Rt:Sd 255 abv:=aF ax bK true 53 [] (fun A ((bN,bB),from1,to)=>VS A bN bB from1 to) (fc Tryz.func255 fz) (sc Ce (sc NN (sc La sz))) fun((bN,bB),from1,to) hp h=>VA h
end Go.Ev.M
