/-
  PROVED: what the functions of the packages bits and metronomeref01 compute. Conditions: none.
-/
import Derived.Test.YteldjjjcdpnnbaaTy
import Derived.Test.YteldjjjcdpnnbaaEvC
import Derived.Test.YteldjjjcdpnnbaaPl
namespace Go.Ev.M
open Go.Proofs
set_option maxRecDepth 100000
set_option linter.unusedVariables false
set_option linter.unusedSimpArgs false
open Go.Ev.Pl
open Go.Ev.Pl
theorem ye{i:Int}(h:0≤i)(h2:i≤4611686018427387904):ai.b .quo .i64 i 8=((i.toNat/8:Nat):Int):=by
 rw[EY,Int.tdiv_eq_ediv_of_nonneg h,ji (by omega) (by omega)];omega
theorem wG{i:Int}(h:0≤i):ai.b .rem .i64 i 8=((i.toNat%8:Nat):Int):=by
 rw[vG,Int.tmod_eq_emod_of_nonneg h];omega
theorem dn{n:Int}{b:List Int}(h:Ty.has (.struct [(.int .i64),(.slice (.int .u8))]) (n,b)):(-9223372036854775808≤n∧n≤9223372036854775807)∧b.length≤b_∧aT b:=by
 simp only[Ty.has,Ty.cr] at h
 exact⟨h.1,h.2.1,fun x hx=>h.2.2 x hx⟩
theorem cm{n:Int}{b:List Int}(h:Ty.has (.struct [(.int .i64),(.slice (.int .u8))]) (n,b)):b.length≤140737488355328:=(dn h).2.1
theorem C_{b:List Int}{i:Int}(h:Ty.cr [(.slice (.int .u8)),(.int .i64)] (b,i)):b.length≤140737488355328:=by
 simp only[Ty.cr,Ty.has] at h
 exact h.1.1
def Em(A:cH)(n:Int):LT Int Empty:=.ret (A.b .quo .i64 (A.b .add .i64 n 7) 8)
def bW:Int→Int:=fun n=>(Em ai n).val (Ty.dC [yI])
def JV:aH:=⟨[yI], [yI],(@tt Int),bW⟩
theorem Bz:Sd 48 JV:=aV aJ iC true 17 [] (fun A n=>Em A n) (fc Try.func48 fz) sz (fun(n:Int) hp h=>by
 show(Em ai n).pre=true
 rfl)
def BE(A:cH)(i:Int):LT Int Empty:=.need (A.c .leq 0 (A.b .rem .i64 i 8)) (.ret (A.b .shr .u8 128 (A.b .rem .i64 i 8)))
def rF:Int→Int:=fun i=>(BE ai i).val (Ty.dC [yU])
def j_:Int→Bool:=fun i=>decide (0≤i)
def Jq:aH:=⟨[yI], [yU],j_,rF⟩
theorem A1:Sd 60 Jq:=aV aJ iC true 17 [] (fun A i=>BE A i) (fc Try.func60 fz) sz (fun(i:Int) hp h=>by
 show(BE ai i).pre=true
 simp only[BE,LT.pre,ff,aM,aI,al,ax,au,ay,aD,bM,fv,ap,cu,bC,aZ,bX,fo,Bool.and_eq_true,Bool.or_eq_true,Bool.and_eq_false_iff,Bool.or_eq_false_iff,Bool.not_eq_true',Bool.not_eq_false',decide_eq_true_eq,decide_eq_false_iff_not,bne_iff_ne,beq_iff_eq,bne_eq_false_iff_eq,beq_eq_false_iff_ne]
 simp only[j_,decide_eq_true_eq] at hp
 rw[wG hp];exact⟨by omega,trivial⟩)
theorem ku{n:Int}(h:0≤n)(h2:n≤4611686018427387000):bW n=(((n.toNat+7)/8:Nat):Int):=by
 simp only[bW,Em,LT.val]
 rw[cu,ji (by omega) (by omega),ye (by omega) (by omega)]
 omega
theorem DC:∀k:Fin 8,ai.b .shr .u8 128 (k.val:Int)=((128 >>> k.val:Nat):Int):=by decide +kernel
theorem xt{i:Int}(h:0≤i):rF i=((128 >>> (i.toNat%8):Nat):Int):=by
 simp only[rF,BE,LT.val]
 rw[wG h]
 exact DC ⟨i.toNat%8,Nat.mod_lt _ (by decide)⟩
theorem EG:∀c:Fin 256,∀k:Fin 8,(ai.b .and .u8 (c.val:Int) ((128 >>> k.val:Nat):Int) != 0)=c.val.testBit (7-k.val):=by decide +kernel
theorem rP{l:List Int}(h:aT l)(i:Nat):0≤l.getD i 0∧l.getD i 0≤255:=by
 rw[List.getD_eq_getElem?_getD]
 by_cases hi:i<l.length
 ·rw[List.getElem?_eq_getElem hi];exact h _ (List.getElem_mem hi)
 ·rw[List.getElem?_eq_none (by omega)];decide
theorem EK{l:List Int}(h:aT l)(i:Nat):(ai.b .and .u8 (l.getD (i/8) 0) ((128 >>> (i%8):Nat):Int) != 0)=dR l i:=by
 have h1:=rP h (i/8)
 have h2:=EG ⟨(l.getD (i/8) 0).toNat,by omega⟩ ⟨i%8,Nat.mod_lt _ (by decide)⟩
 simp only at h2
 rw[show(((l.getD (i/8) 0).toNat:Nat):Int)=l.getD (i/8) 0 from by omega] at h2
 exact h2
def BG(A:cH)(bN:Int)(bB:List Int)(i:Int):LT Bool Empty:=.need (A.and (A.c .leq 0 (A.b .quo .i64 i 8)) (A.c .lss (A.b .quo .i64 i 8) (A.l bB))) (.need (A.k j_ i) (.ret (A.c .neq (A.b .and .u8 (A.n yU bB (A.b .quo .i64 i 8):Int) (A.k rF i)) 0)))
def sI:((Int×List Int)×Int)→Bool:=fun((bN,bB),i)=>(BG ai bN bB i).val (Ty.dC [.bool])
def oH:((Int×List Int)×Int)→Bool:=fun((n,b),i)=>decide (0≤i)&&decide (i<8*(b.length:Int))
def JF:aH:=⟨[(.struct [yI,yB]),yI], [.bool],oH,sI⟩
theorem FV:Sd 54 JF:=aV aJ iC true 25 [] (fun A ((bN,bB),i)=>BG A bN bB i) (fc Try.func54 fz) (sc A1 sz) (fun(((bN,bB),i):(Int×List Int)×Int) hp h=>by
 show(BG ai bN bB i).pre=true
 simp only[oH,Bool.and_eq_true,decide_eq_true_eq] at hp
 have hl:=cm h.1
 simp only[BG,LT.pre,ap,aD,ax,al,j_,Bool.and_eq_true,decide_eq_true_eq,bX]
 rw[ye hp.1 (by omega)]
 refine⟨⟨by omega,by omega⟩,hp.1,trivial⟩)
theorem wU{n:Int}{b:List Int}{i:Int}(hb:aT b)(h0:0≤i)(h1:i<8*(b.length:Int))(hl:b.length≤140737488355328):sI ((n,b),i)=dR b i.toNat:=by
 simp only[sI,BG,LT.val,ap,aI]
 rw[ye h0 (by omega),xt h0]
 exact EK hb i.toNat
def H7(A:cH)(bN:Int)(bB:List Int):LT Int Empty:=.br (A.c .lss bN 0) (.ret 10) (.br (A.c .gtr bN 4096) (.ret 10) (.need (A.k (@tt Int) bN) (.br (A.c .neq (A.l bB) (A.k bW bN)) (.ret 10) (.br (A.c .neq (A.b .rem .i64 bN 8) 0) (.need (A.and (A.c .leq 0 (A.b .sub .i64 (A.l bB) 1)) (A.c .lss (A.b .sub .i64 (A.l bB) 1) (A.l bB))) (.need (A.c .leq 0 (A.b .rem .i64 bN 8)) (.br (A.c .neq (A.b .and .u8 (A.n yU bB (A.b .sub .i64 (A.l bB) 1):Int) (A.b .shr .u8 255 (A.b .rem .i64 bN 8))) 0) (.ret 10) (.ret 0)))) (.ret 0)))))
def ia:((Int×List Int))→Int:=fun(bN,bB)=>(H7 ai bN bB).val (Ty.dC [yI])
def KP:aH:=⟨[(.struct [yI,yB])], [yI],(@tt ((Int×List Int))),ia⟩
theorem yj:Sd 40 KP:=aV aJ iC true 67 [] (fun A (bN,bB)=>H7 A bN bB) (fc Try.func40 fz) (sc Bz sz) (fun((bN,bB):(Int×List Int)) hp h=>by
 show(H7 ai bN bB).pre=true
 have hl:=cm h
 simp only[H7,LT.pre,ap,aI,al,au,ax,aD,fo,Bool.true_and,bX,ff,decide_eq_true_eq,decide_eq_false_iff_not,Bool.and_eq_true,bne_iff_ne,bne_eq_false_iff_eq,ne_eq,implies_true,and_true,true_and]
 intro h0 h1 h2 h3
 rw[ku (by omega) (by omega)] at h2
 rw[wG (by omega)] at h3
 rw[bC,ji (by omega) (by omega),wG (by omega)]
 omega)
theorem BW:∀c:Fin 256,∀r:Fin 8,(ai.b .and .u8 (c.val:Int) (ai.b .shr .u8 255 (r.val:Int)) != 0)=!((List.range 8).all fun k=>decide (k<r.val) || !c.val.testBit (7-k)):=by decide +kernel
theorem zO{n:Int}{b:List Int}(hb:aT b)(hl:b.length≤140737488355328):ia (n,b)=0↔0≤n∧n≤4096∧okB n.toNat b:=by
 simp only[ia,H7,LT.val,ap,aI,al,au]
 by_cases h0:n<0
 ·simp only[h0,decide_true,cond_true]
  constructor
  ·intro h;cases h
  ·intro h;omega
 ·simp only[h0,decide_false,cond_false]
  by_cases h1:4096<n
  ·simp only[h1,decide_true,cond_true]
   constructor
   ·intro h;cases h
   ·intro h;omega
  ·simp only[h1,decide_false,cond_false]
   rw[ku (by omega) (by omega)]
   have hlen:ai.l b=(b.length:Int):=rfl
   rw[hlen]
   by_cases h2:b.length=(n.toNat+7)/8
   ·rw[show((b.length:Int) != (((n.toNat+7)/8:Nat):Int))=false from by rw[h2];exact bne_self_eq_false _,cond_false,wG (by omega)]
    by_cases h3:n.toNat%8=0
    ·rw[h3]
     simp only[Int.natCast_zero,bne_self_eq_false,cond_false,true_iff]
     exact⟨by omega,by omega,h2,hb,fun i h4 h5=>by omega⟩
    ·rw[show(((n.toNat%8:Nat):Int) != 0)=true from by simp;omega,cond_true]
     have e:(ai.n (.int .u8) b (ai.b .sub .i64 (b.length:Int) 1):Int)=b.getD (n.toNat/8) 0:=by
      show b.getD (ai.b .sub .i64 (b.length:Int) 1).toNat 0=_
      rw[bC,ji (by omega) (by omega)]
      congr 1
      omega
     have hx:=rP hb (n.toNat/8)
     have key:=BW ⟨(b.getD (n.toNat/8) 0).toNat,by omega⟩ ⟨n.toNat%8,Nat.mod_lt _ (by decide)⟩
     simp only at key
     rw[show(((b.getD (n.toNat/8) 0).toNat:Nat):Int)=b.getD (n.toNat/8) 0 from by omega] at key
     have e2:(ai.b .and .u8 (ai.n (.int .u8) b (ai.b .sub .i64 (b.length:Int) 1):Int) (ai.b .shr .u8 255 ((n.toNat%8:Nat):Int)) != 0)=!((List.range 8).all fun k=>decide (k<n.toNat%8) || !(b.getD (n.toNat/8) 0).toNat.testBit (7-k)):=by
      rw[←key]
      exact congrArg (fun z:Int=>(ai.b .and .u8 z (ai.b .shr .u8 255 ((n.toNat%8:Nat):Int)) != 0)) e
     refine Iff.trans (b:=((List.range 8).all fun k=>decide (k<n.toNat%8) || !(b.getD (n.toNat/8) 0).toNat.testBit (7-k))=true) ?_ ?_
     ·refine Iff.trans (b:=(bif !((List.range 8).all fun k=>decide (k<n.toNat%8) || !(b.getD (n.toNat/8) 0).toNat.testBit (7-k)) then(10:Int) else 0)=0) (by rw[←e2]) ?_
      cases (List.range 8).all fun k=>decide (k<n.toNat%8) || !(b.getD (n.toNat/8) 0).toNat.testBit (7-k)<;>simp
     ·rw[List.all_eq_true]
      constructor
      ·intro h
       refine⟨by omega,by omega,h2,hb,fun i h4 h5=>?_⟩
       have:=h (i%8) (List.mem_range.2 (Nat.mod_lt _ (by decide)))
       have hi:i/8=n.toNat/8:=by omega
       rw[dR,hi]
       simp only[Bool.or_eq_true,decide_eq_true_eq,Bool.not_eq_true'] at this
       rcases this with h6|h6
       ·omega
       ·exact h6
      ·intro ⟨_,_,_,_,h⟩ k hk
       have hk:=List.mem_range.1 hk
       by_cases h6:k<n.toNat%8
       ·simp[h6]
       ·have:=h (8*(n.toNat/8)+k) (by omega) (by omega)
        rw[dR,show(8*(n.toNat/8)+k)/8=n.toNat/8 from by omega,show(8*(n.toNat/8)+k)%8=k from by omega] at this
        rw[this];simp
   ·rw[show((b.length:Int) != (((n.toNat+7)/8:Nat):Int))=true from bne_iff_ne.2 (by omega),cond_true]
    constructor
    ·intro h;cases h
    ·intro h;exact absurd h.2.2.1 h2
theorem xT{x:Int×List Int}:ia x=0∨ia x=10:=by
 obtain⟨n,b⟩:=x
 exact LT.g_ (p:=fun y=>y=0∨y=10) (.inl rfl) (by simp[H7,LT.all])
theorem iO{n:Int}{b:List Int}(hb:aT b)(hl:b.length≤140737488355328):ia (n,b)=bif bf (n,b) then 0 else 10:=by
 have h1:=zO (n:=n) hb hl
 rw[←fq hb] at h1
 rcases xT (x:=(n,b)) with h2|h2
 ·rw[h2,h1.1 h2];rfl
 ·have:bf (n,b)=false:=by
   rw[←Bool.not_eq_true]
   intro h3
   rw[h1.2 h3] at h2
   cases h2
  rw[h2,this];rfl
theorem fH{i:Nat}(h:i<4611686018427387904):ai.b .add .i64 (i:Int) 1=((i+1:Nat):Int):=by
 rw[cu,ji (by omega) (by omega)];rfl
theorem dY{i j:Nat}(h:i+j<4611686018427387904):ai.b .add .i64 (i:Int) (j:Int)=((i+j:Nat):Int):=by
 rw[cu,ji (by omega) (by omega)];rfl
theorem aN{i j:Nat}:ai.c .lss (i:Int) (j:Int)=decide (i<j):=by
 rw[al];exact decide_eq_decide.2 Int.ofNat_lt
theorem ig{i j:Nat}:ai.c .leq (i:Int) (j:Int)=decide (i≤j):=by
 rw[ax];exact decide_eq_decide.2 Int.ofNat_le
theorem fe{i:Nat}:ai.c .leq 0 (i:Int)=true:=by rw[ax];simp
theorem jO{i:Nat}(h:i≤4611686018427387904):ai.b .quo .i64 (i:Int) 8=((i/8:Nat):Int):=by
 rw[ye (by omega) (by omega)];rfl
theorem qk{i:Nat}:ai.b .rem .i64 (i:Int) 8=((i%8:Nat):Int):=by
 rw[wG (by omega)];rfl
theorem nN{u v:Int}(h:u=v):ai.c .eql u v=true:=by rw[aM,h];exact beq_self_eq_true _
theorem zq{u v:Int}(h:u≠v):ai.c .eql u v=false:=by rw[aM];exact beq_eq_false_iff_ne.2 h
theorem cf{u v:Int}(h:u=v):ai.c .neq u v=false:=by rw[aI,h];exact bne_self_eq_false _
theorem ei{u v:Int}(h:u≠v):ai.c .neq u v=true:=by rw[aI];exact bne_iff_ne.2 h
open Go.Ev.Pl
def Ch(A:cH)(b:List Int)(i:Int):LT Bool Empty:=.need (A.and (A.c .leq 0 (A.b .quo .i64 i 8)) (A.c .lss (A.b .quo .i64 i 8) (A.l b))) (.need (A.c .leq 0 (A.v .u64 (A.b .sub .i64 7 (A.b .rem .i64 i 8)))) (.ret (A.c .eql (A.b .rem .u8 (A.b .shr .u8 (A.n yU b (A.b .quo .i64 i 8):Int) (A.v .u64 (A.b .sub .i64 7 (A.b .rem .i64 i 8)))) 2) 1)))
def fF:(List Int×Int)→Bool:=fun(b,i)=>(Ch ai b i).val (Ty.dC [.bool])
def gP:(List Int×Int)→Bool:=fun(b,i)=>decide (0≤i)&&decide (i<8*(b.length:Int))
def Iz:aH:=⟨[yB,yI], [.bool],gP,fF⟩
theorem B5:Sd 39 Iz:=aV aJ iC true 26 [] (fun A (b,i)=>Ch A b i) (fc Try.func39 fz) sz (fun((b,i):List Int×Int) hp h=>by
 show(Ch ai b i).pre=true
 simp only[gP,Bool.and_eq_true,decide_eq_true_eq] at hp
 have hl:=C_ h
 simp only[Ch,LT.pre,aD,ax,al,Bool.and_eq_true,decide_eq_true_eq,bX,aZ,Bool.and_true]
 rw[ye hp.1 (by omega),wG hp.1,bC,ji (by omega) (by omega),zG (by omega) (by omega)]
 refine⟨⟨by omega,by omega⟩,by omega⟩)
theorem Ea:∀c:Fin 256,∀k:Fin 8,(ai.b .rem .u8 (ai.b .shr .u8 (c.val:Int) (IntKind.u64.wrap (7-(k.val:Int)))) 2==1)=c.val.testBit (7-k.val):=by decide +kernel
theorem kC{b:List Int}{i:Int}(hb:aT b)(h0:0≤i)(h1:i<4611686018427387904):fF (b,i)=dR b i.toNat:=by
 simp only[fF,Ch,LT.val,aZ]
 rw[ye h0 (by omega),wG h0,bC,ji (by omega) (by omega)]
 have hx:=rP hb (i.toNat/8)
 have key:=Ea ⟨(b.getD (i.toNat/8) 0).toNat,by omega⟩ ⟨i.toNat%8,Nat.mod_lt _ (by decide)⟩
 simp only at key
 rw[show(((b.getD (i.toNat/8) 0).toNat:Nat):Int)=b.getD (i.toNat/8) 0 from by omega] at key
 exact key
structure FX where
 (a1:Int) (a2:List Int)
inductive Kq where
 | c0 (p:FX) (a0:Int)
noncomputable def IN:Kq→iH
 | .c0 p a0=>⟨[⟨28,36,(en [(1,.ptr 0 0),(3,vi a0)]),[.inLoop (cw Try.f28 [1,1,0,1,0,0]),.inBlock 0,.code (cw Try.f28 [1,1,1])],[],none⟩],[.flat false [vi p.a1,.sl yU p.a2],.dead]⟩
def Mb(A:cH)(bN:Int)(bB:List Int):LT Int Kq:=.br (A.c .lss bN 0) (.ret 10) (.br (A.c .gtr bN 4096) (.ret 10) (.br (A.c .neq (A.l bB) (A.b .quo .i64 (A.b .add .i64 bN 7) 8)) (.ret 10) (.more (.c0 ⟨bN,bB⟩ bN))))
def Jz(A:cH):Kq→LT Int Kq
 | .c0 p a0=>.br (A.c .lss a0 (A.b .mul .i64 8 (A.l p.a2))) (.need (A.k gP (p.a2,a0)) (.br (A.k fF (p.a2,a0)) (.ret 10) (.more (.c0 p (A.b .add .i64 a0 1))))) (.ret 0)
theorem EF{n:Nat}{b:List Int}(p:FX)(hp:p.a2=b)(hb:aT b)(hl:b.length≤140737488355328):∀(j i:Nat),8*b.length-i=j→aA (Jz ai) (.more (.c0 p (i:Int))) (bif (List.range (8*b.length)).all (fun k=>decide (k<i) || !dR b k) then 0 else 10):=by
 subst hp
 intro j
 have hm:ai.b .mul .i64 8 (ai.l p.a2)=((8*p.a2.length:Nat):Int):=by
  show IntKind.i64.wrap (8*(p.a2.length:Int))=_
  rw[ji (by omega) (by omega)];omega
 induction j with
 | zero=>
   intro i hj
   rw[show((List.range (8*p.a2.length)).all fun k=>decide (k<i) || !dR p.a2 k)=true from by
    rw[List.all_eq_true];intro k hk;have:=List.mem_range.1 hk;simp;omega]
   simp only[ao,Jz,nv,hm,aN]
   rw[show decide (i<8*p.a2.length)=false from by simp;omega]
   exact .ret _
 | succ j ih=>
   intro i hj
   simp only[ao,Jz,nv,hm,aN]
   rw[show decide (i<8*p.a2.length)=true from by simp;omega]
   simp only[cond_true,af,ap]
   refine⟨by simp[gP];omega,?_⟩
   rw[kC hb (by omega) (by omega),Int.toNat_natCast,fH (by omega)]
   cases hbit:dR p.a2 i
   ·refine(ah rfl).2 ?_
    have:=ih (i+1) (by omega)
    have e:((List.range (8*p.a2.length)).all fun k=>decide (k<i) || !dR p.a2 k)=((List.range (8*p.a2.length)).all fun k=>decide (k<i+1) || !dR p.a2 k):=by
     rw[Bool.eq_iff_iff,List.all_eq_true,List.all_eq_true]
     constructor
     ·intro h k hk
      have:=h k hk
      simp at this ⊢
      rcases this with h1|h1
      ·exact .inl (by omega)
      ·exact .inr h1
     ·intro h k hk
      have:=h k hk
      simp at this ⊢
      by_cases hki:k=i
      ·subst hki;exact .inr hbit
      ·rcases this with h1|h1
       ·exact .inl (by omega)
       ·exact .inr h1
    rw[e]
    exact this
   ·refine(aj rfl).2 ?_
    rw[show((List.range (8*p.a2.length)).all fun k=>decide (k<i) || !dR p.a2 k)=false from by
     rw[List.all_eq_false];exact⟨i,List.mem_range.2 (by omega),by simp[hbit]⟩]
    exact .ret _
theorem Ga{n:Int}{b:List Int}(h:Ty.cr [(.struct [(.int .i64),(.slice (.int .u8))])] (n,b)):aA (Jz ai) (Mb ai n b) (bif bf (n,b) then 0 else 10):=by
 have hb:=(dn h).2.2
 have hl:=cm h
 have hn:=(dn h).1
 unfold Mb
 rw[bf]
 by_cases h0:n<0
 ·refine(aj (by simpa [al] using h0)).2 ?_
  rw[show decide (0≤n)=false from by simp;omega]
  exact .ret _
 ·refine(ah (by simpa [al] using h0)).2 ?_
  by_cases h1:4096<n
  ·refine(aj (by simpa [au] using h1)).2 ?_
   rw[show decide (n≤4096)=false from by simp;omega,Bool.and_false]
   exact .ret _
  ·refine(ah (by simpa [au] using h1)).2 ?_
   rw[show decide (0≤n)=true from by simp;omega,show decide (n≤4096)=true from by simp;omega,cu,ji (by omega) (by omega),ye (by omega) (by omega),show(n+7).toNat/8=(n.toNat+7)/8 from by omega]
   by_cases h2:b.length=(n.toNat+7)/8
   ·refine(ah (cf (show(b.length:Int)=_ by rw[h2]))).2 ?_
    rw[show(b.length==(n.toNat+7)/8)=true from by simpa using h2]
    have:=EF (n:=n.toNat) ⟨n,b⟩ rfl hb hl (8*b.length-n.toNat) n.toNat rfl
    rw[show((n.toNat:Nat):Int)=n from by omega] at this
    exact this
   ·refine(aj (ei (show(b.length:Int)≠_ by omega))).2 ?_
    rw[show(b.length==(n.toNat+7)/8)=false from by simpa using h2]
    simp only[Bool.and_false,Bool.false_and,cond_false]
    exact .ret _
def iL:((Int×List Int))→Int:=fun x=>bif bf x then 0 else 10
def Mg:aH:=⟨[(.struct [yI,yB])], [yI],(@tt ((Int×List Int))),iL⟩
theorem Ee:Sd 28 Mg:=aX aJ iC true 44 [⟨28,4, [[1,3]]⟩] [] (fun A (bN,bB)=>Mb A bN bB) Jz IN (fc Try.func28 fz) (sc B5 sz) (fun A y=>match y with |.c0 p a0=>⟨35,by kernel_rfl,by kernel_rfl⟩) fun(bN,bB) hp h=>Ga h
open Go.Ev.Pl
structure Ge where
 (a0 a1:Int) (a2:List Int)
structure C7 where
 (b1:Int) (b2:List Int)
inductive z_ where
 | c0 (p:Ge)
 | c1 (p:C7) (b0:Int) (b3:List Bool)
noncomputable def GQ:z_→iH
 | .c0 p=>⟨[⟨29,22,(en [(1,.ptr 0 0),(3,.du true),(4,vi p.a0)]),[.inLoop (cw Try.f29 [1,1,1,0,1,0,0]),.inBlock 0,.code (cw Try.f29 [1,1,1,1])],[],none⟩],[.flat false [vi p.a1,.sl yU p.a2],.dead]⟩
 | .c1 p b0 b3=>⟨[⟨29,22,(en [(1,.ptr 0 0),(3,.own 1),(4,vi b0)]),[.inLoop (cw Try.f29 [1,1,1,0,1,0,0]),.inBlock 0,.code (cw Try.f29 [1,1,1,1])],[],none⟩],[.flat false [vi p.b1,.sl yU p.b2],.arr false .bool b3,.dead]⟩
def t127(A:cH)(bN:Int)(bB:List Int):LT (List Bool) z_:=.need (A.k (@tt ((Int×List Int))) (bN,bB)) (.br (A.c .neq (A.k iL (bN,bB)) 0) (.ret ([]:List Bool)) (.more (.c0 ⟨0,bN,bB⟩)))
def xF(A:cH):z_→LT (List Bool) z_
 | .c0 p=>.br (A.c .lss p.a0 p.a1) (.need (A.k gP (p.a2,p.a0)) (.need (A.c .leq (A.l ([(A.k fF (p.a2,p.a0))]:List Bool)) 140737488355328) (.more (.c1 ⟨p.a1,p.a2⟩ (A.b .add .i64 p.a0 1) [(A.k fF (p.a2,p.a0))])))) (.ret ([]:List Bool))
 | .c1 p b0 b3=>.br (A.c .lss b0 p.b1) (.need (A.k gP (p.b2,b0)) (.need (A.c .leq (A.l (A.p b3 [(A.k fF (p.b2,b0))])) 140737488355328) (.more (.c1 p (A.b .add .i64 b0 1) (A.p b3 [(A.k fF (p.b2,b0))]))))) (.ret b3)
theorem aW{R Y:Type}{step:Y→LT R Y}{t t':LT R Y}{r:R}(h:t=t')(h2:aA step t' r):aA step t r:=h▸h2
theorem AI{n:Nat}{b:List Int}(hb:aT b)(hl:b.length≤140737488355328)(hn:n≤4096)(hok:n≤8*b.length):∀(j i:Nat) (p:C7),p.b1=(n:Int)→p.b2=b→n-i=j→i≤n→aA (xF ai) (.more (.c1 p (i:Int) (unpack i b))) (unpack n b):=by
 intro j
 induction j with
 | zero=>
   intro i p h1 h2 hj hi
   have:i=n:=by omega
   subst this
   simp only[ao,xF,nv,h1,aN]
   rw[show decide (i<i)=false from by simp]
   exact .ret _
 | succ j ih=>
   intro i p h1 h2 hj hi
   simp only[ao,xF]
   refine(aj (by rw[h1,aN];simp;omega)).2 (af.2 ⟨?_,af.2 ⟨?_,?_⟩⟩)
   ·rw[h2,ap];simp[gP];omega
   ·show decide (((unpack i b ++ [_]).length:Int)≤140737488355328)=true
    rw[List.length_append,aL]
    simp;omega
   ·have e:(ai.p (unpack i b) [(ai.k fF (p.b2,(i:Int)))]:List Bool)=unpack (i+1) b:=by
     show unpack i b ++ [fF (p.b2,(i:Int))]=_
     rw[h2,kC hb (by omega) (by omega),pP,Int.toNat_natCast]
    exact aW (congrArg LT.more (congr (congrArg (z_.c1 p) (fH (by omega))) e)) (ih (i+1) p h1 h2 (by omega) (by omega))
theorem Ie{n:Int}{b:List Int}(h:Ty.cr [(.struct [(.int .i64),(.slice (.int .u8))])] (n,b)):aA (xF ai) (t127 ai n b) (bif bf (n,b) then bl (n,b) else[]):=by
 have hb:=(dn h).2.2
 have hl:=cm h
 unfold t127
 refine af.2 ⟨rfl,?_⟩
 cases hok:bf (n,b)
 ·refine(aj (show(iL (n,b) != 0)=true by rw[iL,hok];rfl)).2 ?_
  exact .ret _
 ·refine(ah (show(iL (n,b) != 0)=false by rw[iL,hok];rfl)).2 ?_
  obtain⟨h1,h2,h3⟩:=(fq hb).1 hok
  have h4:=h3.1
  rw[cond_true]
  simp only[ao,xF]
  show aA (xF ai) _ (unpack n.toNat b)
  by_cases h0:0<n
  ·refine(aj (by rw[al];simpa using h0)).2 (af.2 ⟨?_,af.2 ⟨rfl,?_⟩⟩)
   ·rw[ap];simp[gP];omega
   ·have e:([(ai.k fF (b,(0:Int)))]:List Bool)=unpack 1 b:=by
     show[fF (b,(0:Int))]=_
     rw[kC hb (by omega) (by omega)];rfl
    refine aW (congrArg LT.more (congr (congrArg (z_.c1 ⟨n,b⟩) (fH (i:=0) (by omega))) e)) ?_
    exact AI hb hl (by omega) (by omega) (n.toNat-1) 1 ⟨n,b⟩ (by show n=_;omega) rfl (by omega) (by omega)
  ·refine(ah (by rw[al];simp;omega)).2 ?_
   rw[show n.toNat=0 from by omega]
   exact .ret _
def iM:((Int×List Int))→(List Bool):=fun x=>bif bf x then bl x else[]
def IX:aH:=⟨[(.struct [yI,yB])], [(.slice .bool)],(@tt ((Int×List Int))),iM⟩
theorem FU:Sd 29 IX:=aX aJ iC true 31 [⟨29,5, [[1,3,4]]⟩] [] (fun A (bN,bB)=>t127 A bN bB) xF GQ (fc Try.func29 fz) (sc Ee (sc B5 sz)) (fun A y=>match y with |.c0 p=>⟨34,by kernel_rfl,by kernel_rfl⟩|.c1 p b0 b3=>⟨34,by kernel_rfl,by kernel_rfl⟩) fun(bN,bB) hp h=>Ie h
structure B9 where
 (a0:List Bool) (a2 a3:Int)
inductive Ah where
 | c0 (p:B9) (a1:Int) (a4:List Int)
noncomputable def Hm:Ah→iH
 | .c0 p a1 a4=>⟨[⟨30,42,(en [(0,.sl .bool p.a0),(2,.ptr 0 0),(4,.ptr 1 0),(5,vi a1)]),[.inLoop (cw Try.f30 [1,1,1,0,1,0,0]),.inBlock 0,.code (cw Try.f30 [1,1,1,1])],[],none⟩],[.flat false [vi p.a2,.du true],.flat false [vi p.a3,.own 2],.arr false yU a4,.dead]⟩
def Ho(A:cH)(l:List Bool):LT ((Int×List Int)×Int) Ah:=.br (A.c .gtr (A.l l) 4096) (.ret ((0,([]:List Int)),3)) (.need (A.and (A.c .eql (A.b .quo .i64 (A.b .add .i64 (A.l l) 7) 8) (A.b .quo .i64 (A.b .add .i64 (A.l l) 7) 8)) (A.and (A.c .leq 0 (A.b .quo .i64 (A.b .add .i64 (A.l l) 7) 8)) (A.c .leq (A.b .quo .i64 (A.b .add .i64 (A.l l) 7) 8) 140737488355328))) (.more (.c0 ⟨l,0,(A.l l)⟩ 0 (A.r (A.b .quo .i64 (A.b .add .i64 (A.l l) 7) 8) (0:Int)))))
def BD(A:cH):Ah→LT ((Int×List Int)×Int) Ah
 | .c0 p a1 a4=>.br (A.c .lss a1 (A.l p.a0)) (.need (A.and (A.c .leq 0 a1) (A.c .lss a1 (A.l p.a0))) (.br (A.n .bool p.a0 a1:Bool) (.need (A.and (A.c .leq 0 (A.b .quo .i64 a1 8)) (A.c .lss (A.b .quo .i64 a1 8) (A.l a4))) (.need (A.c .leq 0 (A.v .u64 (A.b .sub .i64 7 (A.b .rem .i64 a1 8)))) (.need (A.and (A.c .leq 0 (A.b .quo .i64 a1 8)) (A.c .lss (A.b .quo .i64 a1 8) (A.l a4))) (.more (.c0 p (A.b .add .i64 a1 1) (A.set a4 (A.b .quo .i64 a1 8) (A.b .or .u8 (A.n yU a4 (A.b .quo .i64 a1 8):Int) (A.b .shl .u8 1 (A.v .u64 (A.b .sub .i64 7 (A.b .rem .i64 a1 8))))))))))) (.more (.c0 p (A.b .add .i64 a1 1) a4)))) (.ret ((p.a3,a4),0))
theorem E2:∀c:Fin 256,∀k:Fin 8,ai.b .or .u8 (c.val:Int) (ai.b .shl .u8 1 (IntKind.u64.wrap (7-(k.val:Int))))=((c.val ||| 128 >>> k.val:Nat):Int):=by decide +kernel
theorem El:∀c:Fin 256,∀k:Fin 8,ai.b .or .u8 (c.val:Int) ((128 >>> k.val:Nat):Int)=((c.val ||| 128 >>> k.val:Nat):Int):=by decide +kernel
theorem En{B:List Int}{l:List Bool}{m i:Nat}(h:Holds B l m)(hi:l.length=i)(h1:i<8*m)(hm:m≤100000) :
  Holds (ai.set B (ai.b .quo .i64 (i:Int) 8) (ai.b .or .u8 (ai.n (.int .u8) B (ai.b .quo .i64 (i:Int) 8):Int) (ai.b .shl .u8 1 (ai.v .u64 (ai.b .sub .i64 7 (ai.b .rem .i64 (i:Int) 8)))))) (l ++ [true]) m:=by
 rw[jO (by omega),qk,bC,ji (by omega) (by omega),aZ]
 have key:=E2 ⟨(B.getD (i/8) 0).toNat,mA h.2.1 _⟩ ⟨i%8,Nat.mod_lt _ (by decide)⟩
 simp only at key
 rw[show(((B.getD (i/8) 0).toNat:Nat):Int)=B.getD (i/8) 0 from Int.toNat_of_nonneg (rP h.2.1 _).1] at key
 have:=h.set (by omega)
 rw[hi] at this
 rw[←key] at this
 exact this
theorem wB{B:List Int}{l:List Bool}{m i:Nat}(h:Holds B l m)(hi:l.length=i)(h1:i<8*m)(hm:m≤100000) :
  Holds (ai.set B (ai.b .quo .i64 (i:Int) 8) (ai.b .or .u8 (ai.n (.int .u8) B (ai.b .quo .i64 (i:Int) 8):Int) (ai.k rF (i:Int)))) (l ++ [true]) m:=by
 rw[jO (by omega),ap,xt (by omega),Int.toNat_natCast]
 have key:=El ⟨(B.getD (i/8) 0).toNat,mA h.2.1 _⟩ ⟨i%8,Nat.mod_lt _ (by decide)⟩
 simp only at key
 rw[show(((B.getD (i/8) 0).toNat:Nat):Int)=B.getD (i/8) 0 from Int.toNat_of_nonneg (rP h.2.1 _).1] at key
 have:=h.set (by omega)
 rw[hi] at this
 rw[←key] at this
 exact this
theorem lw{l:List Bool}{i:Nat}(h:i<l.length):l.take (i+1)=l.take i ++ [l.getD i false]:=by
 rw[List.take_succ_eq_append_getElem h,List.getD_eq_getElem?_getD,List.getElem?_eq_getElem h];rfl
theorem EJ{l:List Bool}(hl:l.length≤4096):∀(j i:Nat) (p:B9) (B:List Int),p.a0=l→p.a3=(l.length:Int)→l.length-i=j→i≤l.length→Holds B (l.take i) ((l.length+7)/8)→aA (BD ai) (.more (.c0 p (i:Int) B)) (aU l,0):=by
 intro j
 induction j with
 | zero=>
   intro i p B h1 h2 hj hi hB
   have:i=l.length:=by omega
   subst this
   simp only[ao,BD]
   have hlen:ai.l p.a0=(l.length:Int):=by rw[h1];rfl
   refine(ah (by rw[hlen,aN];simp)).2 ?_
   rw[List.take_length] at hB
   rw[h2,hB.done rfl]
   exact .ret _
 | succ j ih=>
   intro i p B h1 h2 hj hi hB
   simp only[ao,BD]
   have hlen:ai.l p.a0=(l.length:Int):=by rw[h1];rfl
   have hlb:ai.l B=(((l.length+7)/8:Nat):Int):=by rw[←hB.1];rfl
   have hq:(ai.and (ai.c .leq 0 (ai.b .quo .i64 (i:Int) 8)) (ai.c .lss (ai.b .quo .i64 (i:Int) 8) (ai.l B)))=true:=by
    rw[jO (by omega),hlb,fe,aN,aD];simp;omega
   have htl:(l.take i).length=i:=by rw[List.length_take];omega
   refine(aj (by rw[hlen,aN];simp;omega)).2 (af.2 ⟨by rw[fe,hlen,aN,aD];simp;omega,?_⟩)
   have hb:(ai.n .bool p.a0 (i:Int):Bool)=l.getD i false:=by
    show p.a0.getD (i:Int).toNat false=_
    rw[h1,Int.toNat_natCast]
   have hts:=lw (l:=l) (i:=i) (by omega)
   cases hx:l.getD i false
   ·rw[hx] at hts
    refine(ah (hb.trans hx)).2 ?_
    exact aW (congrArg LT.more (congr (congrArg (Ah.c0 p) (fH (by omega))) rfl)) (ih (i+1) p B h1 h2 (by omega) (by omega) (hts▸hB.skip))
   ·rw[hx] at hts
    refine(aj (hb.trans hx)).2 (af.2 ⟨hq,af.2 ⟨?_,af.2 ⟨hq,?_⟩⟩⟩)
    ·rw[qk,bC,ji (by omega) (by omega),aZ,zG (by omega) (by omega),ax];simp;omega
    ·exact aW (congrArg LT.more (congr (congrArg (Ah.c0 p) (fH (by omega))) rfl)) (ih (i+1) p _ h1 h2 (by omega) (by omega) (hts▸En hB htl (by omega) (by omega)))
theorem OM{l:List Bool}:aA (BD ai) (Ho ai l) (sP l):=by
 unfold Ho
 have hlen:ai.l l=(l.length:Int):=rfl
 rw[sP]
 by_cases hl:4096<l.length
 ·refine(aj (by rw[hlen,au];simp;omega)).2 ?_
  rw[show decide (4096<l.length)=true from by simpa using hl]
  exact .ret _
 ·have hq:ai.b .quo .i64 (ai.b .add .i64 (ai.l l) 7) 8=(((l.length+7)/8:Nat):Int):=by
   rw[hlen,show ai.b .add .i64 (l.length:Int) 7=((l.length+7:Nat):Int) from dY (j:=7) (by omega),jO (by omega)]
  refine(ah (by rw[hlen,au];simp;omega)).2 (af.2 ⟨?_,?_⟩)
  ·rw[hq,fe,nN rfl,ax,aD,aD];simp;omega
  ·rw[show decide (4096<l.length)=false from by simpa using hl]
   refine EJ (by omega) l.length 0 _ _ rfl rfl (by omega) (by omega) ?_
   rw[hq,nQ,Int.toNat_natCast]
   exact Holds.blank _
def oS:(List Bool)→((Int×List Int)×Int):=sP
def JQ:aH:=⟨[(.slice .bool)], [(.struct [yI,yB]),yI],(@tt (List Bool)),oS⟩
theorem Ff:Sd 30 JQ:=aX aJ iC true 40 [⟨30,5, [[0,2,4,5]]⟩] [] (fun A l=>Ho A l) BD Hm (fc Try.func30 fz) sz (fun A y=>match y with |.c0 p a1 a4=>⟨48,by kernel_rfl,by kernel_rfl⟩) fun l hp h=>OM
open Go.Ev.Pl
structure A6 where
 (a0 a1 a2:Int)
structure Ci where
 (b0 b1 b2 b3:Int) (b4:List Int) (b5:Int)
structure Cb where
 (c0 c2:Int)
structure Dt where
 (d1 d2 d3:Int) (d4:List Int) (d6:Int)
inductive xd where
 | c0 (p:A6)
 | c1 (p:Ci)
 | c2 (p:Cb) (c1:Int) (c3:List Bool)
 | c3 (p:Dt) (d0:Int) (d5:List Bool)
noncomputable def Gl:xd→iH
 | .c0 p=>⟨[⟨26,53,(en [(1,.int .u64 false p.a0),(6,.ptr 0 0),(8,.du true),(9,vi p.a1)]),[.inLoop (cw Try.f26 [1,1,1,1,0,1,0,0]),.inBlock 0,.code (cw Try.f26 [1,1,1,1,1])],[],none⟩],[.flat false [vi p.a2,.du true],.dead]⟩
 | .c1 p=>⟨[⟨29,22,(en [(1,.ptr 0 0),(3,.du true),(4,vi p.b0)]),[.inLoop (cw Try.f29 [1,1,1,0,1,0,0]),.inBlock 0,.code (cw Try.f29 [1,1,1,1])],[],none⟩,⟨26,53,(en [(1,.int .u64 false p.b1),(2,vi p.b2),(6,.ptr 1 0)]),[.ops (ow Try.f26 [1,1,1,0]) ((ow Try.f26 [1,1,1,0]).toList.drop 1),.code (cw Try.f26 [1,1,1,1])],[],none⟩],[.flat false [vi p.b3,.sl yU p.b4],.flat false [vi p.b5,.du true],.dead]⟩
 | .c2 p c1 c3=>⟨[⟨26,53,(en [(1,.int .u64 false p.c0),(6,.ptr 0 0),(8,.own 1),(9,vi c1)]),[.inLoop (cw Try.f26 [1,1,1,1,0,1,0,0]),.inBlock 0,.code (cw Try.f26 [1,1,1,1,1])],[],none⟩],[.flat false [vi p.c2,.du true],.arr false .bool c3,.dead]⟩
 | .c3 p d0 d5=>⟨[⟨29,22,(en [(1,.ptr 0 0),(3,.own 1),(4,vi d0)]),[.inLoop (cw Try.f29 [1,1,1,0,1,0,0]),.inBlock 0,.code (cw Try.f29 [1,1,1,1])],[],none⟩,⟨26,53,(en [(1,.int .u64 false p.d1),(2,vi p.d2),(6,.ptr 2 0)]),[.ops (ow Try.f26 [1,1,1,0]) ((ow Try.f26 [1,1,1,0]).toList.drop 1),.code (cw Try.f26 [1,1,1,1])],[],none⟩],[.flat false [vi p.d3,.sl yU p.d4],.arr false .bool d5,.flat false [vi p.d6,.du true],.dead]⟩
def GH(A:cH)(bN:Int)(bB:List Int)(v:Int)(width:Int):LT ((Int×List Int)×Int) xd:=.need (A.k (@tt ((Int×List Int))) (bN,bB)) (.br (A.c .neq (A.k iL (bN,bB)) 0) (.ret ((0,([]:List Int)),10)) (.br (A.c .lss width 0) (.ret ((0,([]:List Int)),2)) (.br (A.c .gtr width 64) (.ret ((0,([]:List Int)),2)) (.br (A.c .lss width 64) (.need (A.c .leq 0 (A.v .u64 width)) (.br (A.c .neq (A.b .shr .u64 v (A.v .u64 width)) 0) (.ret ((0,([]:List Int)),2)) (.need (A.k (@tt ((Int×List Int))) (bN,bB)) (.br (A.c .neq (A.k iL (bN,bB)) 0) (.more (.c0 ⟨v,(A.b .sub .i64 width 1),0⟩)) (.more (.c1 ⟨0,v,width,bN,bB,0⟩)))))) (.need (A.k (@tt ((Int×List Int))) (bN,bB)) (.br (A.c .neq (A.k iL (bN,bB)) 0) (.more (.c0 ⟨v,(A.b .sub .i64 width 1),0⟩)) (.more (.c1 ⟨0,v,width,bN,bB,0⟩))))))))
def mP(A:cH):xd→LT ((Int×List Int)×Int) xd
 | .c0 p=>.br (A.c .geq p.a1 0) (.need (A.c .leq 0 (A.v .u64 p.a1)) (.need (A.c .leq (A.l ([(A.c .eql (A.b .rem .u64 (A.b .shr .u64 p.a0 (A.v .u64 p.a1)) 2) 1)]:List Bool)) 140737488355328) (.more (.c2 ⟨p.a0,p.a2⟩ (A.b .sub .i64 p.a1 1) [(A.c .eql (A.b .rem .u64 (A.b .shr .u64 p.a0 (A.v .u64 p.a1)) 2) 1)])))) (.need (A.k (@tt (List Bool)) ([]:List Bool)) (.ret (A.k oS ([]:List Bool))))
 | .c1 p=>.br (A.c .lss p.b0 p.b3) (.need (A.k gP (p.b4,p.b0)) (.need (A.c .leq (A.l ([(A.k fF (p.b4,p.b0))]:List Bool)) 140737488355328) (.more (.c3 ⟨p.b1,p.b2,p.b3,p.b4,p.b5⟩ (A.b .add .i64 p.b0 1) [(A.k fF (p.b4,p.b0))])))) (.more (.c0 ⟨p.b1,(A.b .sub .i64 p.b2 1),p.b5⟩))
 | .c2 p c1 c3=>.br (A.c .geq c1 0) (.need (A.c .leq 0 (A.v .u64 c1)) (.need (A.c .leq (A.l (A.p c3 [(A.c .eql (A.b .rem .u64 (A.b .shr .u64 p.c0 (A.v .u64 c1)) 2) 1)])) 140737488355328) (.more (.c2 p (A.b .sub .i64 c1 1) (A.p c3 [(A.c .eql (A.b .rem .u64 (A.b .shr .u64 p.c0 (A.v .u64 c1)) 2) 1)]))))) (.need (A.k (@tt (List Bool)) c3) (.ret (A.k oS c3)))
 | .c3 p d0 d5=>.br (A.c .lss d0 p.d3) (.need (A.k gP (p.d4,d0)) (.need (A.c .leq (A.l (A.p d5 [(A.k fF (p.d4,d0))])) 140737488355328) (.more (.c3 p (A.b .add .i64 d0 1) (A.p d5 [(A.k fF (p.d4,d0))]))))) (.more (.c2 ⟨p.d1,p.d6⟩ (A.b .sub .i64 p.d2 1) d5))
theorem zw{a:Int}{n:Nat}(h:0≤a)(hn:n≤64):ai.b .shr .u64 a (n:Int)=((a.toNat/2^n:Nat):Int):=by
 show a.fdiv (2^min (n:Int).toNat 64)=_
 obtain⟨m,rfl⟩:=Int.eq_ofNat_of_zero_le h
 rw[Int.toNat_natCast,Nat.min_eq_left hn,Int.fdiv_eq_ediv_of_nonneg _ (Int.pow_nonneg (by decide))]
 simp
theorem Cw{a:Int}{n:Nat}(h:0≤a)(hn:n≤32):ai.b .shr .u32 a (n:Int)=((a.toNat/2^n:Nat):Int):=by
 show a.fdiv (2^min (n:Int).toNat 32)=_
 obtain⟨m,rfl⟩:=Int.eq_ofNat_of_zero_le h
 rw[Int.toNat_natCast,Nat.min_eq_left hn,Int.fdiv_eq_ediv_of_nonneg _ (Int.pow_nonneg (by decide))]
 simp
theorem cK{n:Nat}(h:n<4611686018427387904):ai.v .u64 (n:Int)=(n:Int):=by rw[aZ,zG (by omega) (by omega)]
theorem xk{k:IntKind}{m:Nat}:ai.c .eql (ai.b .rem k (m:Int) 2) 1=decide (m%2=1):=by
 show((m:Int).tmod 2==1)=_
 rw[Int.tmod_eq_emod_of_nonneg (by omega),Bool.eq_iff_iff]
 simp only[beq_iff_eq,decide_eq_true_eq]
 omega
theorem zl{v:Int}{k:Nat}(h:0≤v)(hk:k≤64):ai.c .eql (ai.b .rem .u64 (ai.b .shr .u64 v (ai.v .u64 (k:Int))) 2) 1=v.toNat.testBit k:=by
 rw[cK (by omega),zw h hk,xk,Nat.testBit_eq_decide_div_mod_eq]
theorem Bb{m:Nat}:ai.c .eql (ai.b .and .u64 (m:Int) 1) 1=decide (m%2=1):=by
 show(IntKind.u64.wrap ((BitVec.ofInt 64 (m:Int) &&& BitVec.ofInt 64 1).toNat:Int)==1)=_
 rw[BitVec.ofInt_natCast,show BitVec.ofInt 64 1=BitVec.ofNat 64 1 from rfl,BitVec.toNat_and,BitVec.toNat_ofNat,BitVec.toNat_ofNat,show 1%2^64=1 from rfl,Nat.and_one_is_mod,zG (by omega) (by omega),Bool.eq_iff_iff]
 simp only[beq_iff_eq,decide_eq_true_eq]
 omega
theorem DG{v:Int}{k:Nat}(h:0≤v)(hk:k≤64):ai.c .eql (ai.b .and .u64 (ai.b .shr .u64 v (k:Int)) 1) 1=v.toNat.testBit k:=by
 rw[zw h hk,Bb,Nat.testBit_eq_decide_div_mod_eq]
theorem jH{i j:Nat}(h:j≤i)(hi:i<4611686018427387904):ai.b .sub .i64 (i:Int) (j:Int)=((i-j:Nat):Int):=by
 rw[bC,ji (by omega) (by omega)];omega
theorem pI(v k:Nat):bitsOf v (k+1)=v.testBit k::bitsOf v k:=by
 rw[bitsOf,List.range_succ_eq_map,List.map_cons,List.map_map]
 congr 1
 apply List.map_congr_left
 intro a _
 show v.testBit (k+1-1-(a+1))=v.testBit (k-1-a)
 congr 1;omega
theorem qq{v:Int}{w:Nat}(h:0≤v):decide ((2:Int)^w≤v)=(((v.toNat/2^w:Nat):Int) != 0):=by
 obtain⟨m,rfl⟩:=Int.eq_ofNat_of_zero_le h
 rw[Int.toNat_natCast,Bool.eq_iff_iff]
 have h2:(2:Int)^w=((2^w:Nat):Int):=by simp
 rw[h2,decide_eq_true_eq,bne_iff_ne]
 have hp:=Nat.two_pow_pos w
 constructor
 ·intro h3
  have:1≤m/2^w:=(Nat.le_div_iff_mul_le hp).2 (by omega)
  omega
 ·intro h3
  have:1≤m/2^w:=Nat.pos_of_ne_zero fun h=>h3 (by rw[h];rfl)
  have:=(Nat.le_div_iff_mul_le hp).1 this
  omega
theorem zv{n v w:Int}{b:List Int}(h:Ty.cr [(.struct [(.int .i64),(.slice (.int .u8))]),(.int .u64),(.int .i64)] ((n,b),v,w)):Ty.has (.struct [(.int .i64),(.slice (.int .u8))]) (n,b)∧(0≤v∧v≤18446744073709551615)∧(-9223372036854775808≤w∧w≤9223372036854775807):=h
theorem A9{v:Int}(hv:0≤v):∀(k:Nat) (c1:Int) (c3:List Bool) (p:Cb),p.c0=v→c1=(k:Int)-1→k≤64→c3.length+k≤4200→aA (mP ai) (.more (.c2 p c1 c3)) (sP (c3++bitsOf v.toNat k)):=by
 intro k
 induction k with
 | zero=>
   intro c1 c3 p h1 h2 _ _
   simp only[ao,mP]
   refine(ah (by rw[ay,h2];decide)).2 (af.2 ⟨rfl,?_⟩)
   rw[show bitsOf v.toNat 0=[] from rfl,List.append_nil]
   exact .ret _
 | succ k ih=>
   intro c1 c3 p h1 h2 hk hl
   have h3:c1=(k:Int):=by omega
   subst h3
   simp only[ao,mP]
   refine(aj (by rw[ay];simp)).2 (af.2 ⟨by rw[cK (by omega),fe],af.2 ⟨?_,?_⟩⟩)
   ·show decide (((c3 ++ [_]).length:Int)≤140737488355328)=true
    rw[List.length_append];simp;omega
   ·have e:(ai.p c3 [(ai.c .eql (ai.b .rem .u64 (ai.b .shr .u64 p.c0 (ai.v .u64 (k:Int))) 2) 1)]:List Bool)=c3 ++ [v.toNat.testBit k]:=by
     show c3 ++ [_]=_
     rw[h1,zl hv (by omega)]
    have:=ih ((k:Int)-1) (c3 ++ [v.toNat.testBit k]) p h1 rfl (by omega) (by rw[List.length_append];simp;omega)
    rw[List.append_assoc,show[v.toNat.testBit k]++bitsOf v.toNat k=bitsOf v.toNat (k+1) from by rw[pI];rfl] at this
    exact aW (congrArg LT.more (congr (congrArg (xd.c2 p) (show ai.b .sub .i64 (k:Int) 1=(k:Int)-1 by rw[bC,ji (by omega) (by omega)])) e)) this
theorem Gu{v:Int}(hv:0≤v){k:Nat}(p:A6)(h1:p.a0=v)(h2:p.a1=(k:Int)-1)(hk:k≤64):aA (mP ai) (.more (.c0 p)) (sP (bitsOf v.toNat k)):=by
 cases k with
 | zero=>
   simp only[ao,mP]
   refine(ah (by rw[ay,h2];decide)).2 (af.2 ⟨rfl,?_⟩)
   exact .ret _
 | succ k=>
   have h3:p.a1=(k:Int):=by omega
   simp only[ao,mP,h3]
   refine(aj (by rw[ay];simp)).2 (af.2 ⟨by rw[cK (by omega),fe],af.2 ⟨rfl,?_⟩⟩)
   have e:([(ai.c .eql (ai.b .rem .u64 (ai.b .shr .u64 p.a0 (ai.v .u64 (k:Int))) 2) 1)]:List Bool)=[v.toNat.testBit k]:=by
    rw[h1,zl hv (by omega)]
   have:=A9 hv k ((k:Int)-1) [v.toNat.testBit k] ⟨p.a0,p.a2⟩ h1 rfl (by omega) (by simp;omega)
   rw[show[v.toNat.testBit k]++bitsOf v.toNat k=bitsOf v.toNat (k+1) from by rw[pI];rfl] at this
   exact aW (congrArg LT.more (congr (congrArg (xd.c2 ⟨p.a0,p.a2⟩) (show ai.b .sub .i64 (k:Int) 1=(k:Int)-1 by rw[bC,ji (by omega) (by omega)])) e)) this
theorem Hl{v:Int}{n w:Nat}{b:List Int}(hv:0≤v)(hb:aT b)(hl:b.length≤140737488355328)(hn:n≤4096)(hw:w≤64)(hok:n≤8*b.length):∀(j i:Nat) (p:Dt),p.d1=v→p.d2=(w:Int)→p.d3=(n:Int)→p.d4=b→n-i=j→i≤n→aA (mP ai) (.more (.c3 p (i:Int) (unpack i b))) (sP (unpack n b++bitsOf v.toNat w)):=by
 intro j
 induction j with
 | zero=>
   intro i p h1 h2 h3 h4 hj hi
   have:i=n:=by omega
   subst this
   simp only[ao,mP]
   refine(ah (by rw[h3,aN];simp)).2 ?_
   rw[h2,bC,ji (by omega) (by omega)]
   exact A9 hv w _ _ _ h1 rfl hw (by rw[aL];omega)
 | succ j ih=>
   intro i p h1 h2 h3 h4 hj hi
   simp only[ao,mP]
   refine(aj (by rw[h3,aN];simp;omega)).2 (af.2 ⟨?_,af.2 ⟨?_,?_⟩⟩)
   ·rw[h4,ap];simp[gP];omega
   ·show decide (((unpack i b ++ [_]).length:Int)≤140737488355328)=true
    rw[List.length_append,aL]
    simp;omega
   ·have e:(ai.p (unpack i b) [(ai.k fF (p.d4,(i:Int)))]:List Bool)=unpack (i+1) b:=by
     show unpack i b ++ [fF (p.d4,(i:Int))]=_
     rw[h4,kC hb (by omega) (by omega),pP,Int.toNat_natCast]
    exact aW (congrArg LT.more (congr (congrArg (xd.c3 p) (fH (by omega))) e)) (ih (i+1) p h1 h2 h3 h4 (by omega) (by omega))
theorem GG{v:Int}{n w:Nat}{b:List Int}(hv:0≤v)(hb:aT b)(hl:b.length≤140737488355328)(hn:n≤4096)(hw:w≤64)(hok:n≤8*b.length)(p:Ci)(h0:p.b0=0)(h1:p.b1=v)(h2:p.b2=(w:Int))(h3:p.b3=(n:Int))(h4:p.b4=b):aA (mP ai) (.more (.c1 p)) (sP (unpack n b++bitsOf v.toNat w)):=by
 simp only[ao,mP,h0]
 by_cases hz:n=0
 ·refine(ah (by rw[h3,hz];rfl)).2 ?_
  rw[hz]
  exact Gu hv _ h1 (by show ai.b .sub .i64 p.b2 1=_;rw[h2,bC,ji (by omega) (by omega)]) hw
 ·refine(aj (by rw[h3,al];simp;omega)).2 (af.2 ⟨?_,af.2 ⟨rfl,?_⟩⟩)
  ·rw[h4,ap];simp[gP];omega
  ·have e:([(ai.k fF (p.b4,(0:Int)))]:List Bool)=unpack 1 b:=by
    show[fF (p.b4,(0:Int))]=_
    rw[h4,kC hb (by omega) (by omega)];rfl
   refine aW (congrArg LT.more (congr (congrArg (xd.c3 _) (fH (i:=0) (by omega))) e)) ?_
   exact Hl hv hb hl hn hw hok (n-1) 1 _ h1 h2 h3 h4 (by omega) (by omega)
theorem LX{n v w:Int}{b:List Int}(h:Ty.cr [(.struct [(.int .i64),(.slice (.int .u8))]),(.int .u64),(.int .i64)] ((n,b),v,w)):aA (mP ai) (GH ai n b v w) (u_ ((n,b),v,w)):=by
 obtain⟨h1,hv,hw⟩:=zv h
 have hb:=(dn h1).2.2
 have hl:=cm h1
 unfold GH
 rw[u_]
 refine af.2 ⟨rfl,?_⟩
 cases hok:bf (n,b)
 ·refine(aj (show(iL (n,b) != 0)=true by rw[iL,hok];rfl)).2 ?_
  exact .ret _
 ·refine(ah (show(iL (n,b) != 0)=false by rw[iL,hok];rfl)).2 ?_
  obtain⟨h2,h3,h4⟩:=(fq hb).1 hok
  have h5:=h4.1
  rw[Bool.not_true,cond_false]
  by_cases h6:w<0
  ·refine(aj (by rw[al];simpa using h6)).2 ?_
   rw[show decide (w<0)=true from by simpa using h6]
   exact .ret _
  ·refine(ah (by rw[al];simpa using h6)).2 ?_
   by_cases h7:64<w
   ·refine(aj (by rw[au];simpa using h7)).2 ?_
    rw[show decide (64<w)=true from by simpa using h7,Bool.or_true,Bool.true_or]
    exact .ret _
   ·refine(ah (by rw[au];simpa using h7)).2 ?_
    rw[show decide (w<0)=false from by simpa using h6,show decide (64<w)=false from by simpa using h7,Bool.false_or,Bool.false_or,qq hv.1]
    obtain⟨k,rfl⟩:=Int.eq_ofNat_of_zero_le (show 0≤w by omega)
    rw[Int.toNat_natCast]
    have hfin:(((v.toNat/2^k:Nat):Int) != 0)=false→aA (mP ai) (.need (ai.k (@tt ((Int×List Int))) (n,b)) (.br (ai.c .neq (ai.k iL (n,b)) 0) (.more (.c0 ⟨v,(ai.b .sub .i64 (k:Int) 1),0⟩)) (.more (.c1 ⟨0,v,(k:Int),n,b,0⟩)))) (bif ((v.toNat/2^k:Nat):Int) != 0 then(zB,2) else sP (bl (n,b)++bitsOf v.toNat k)):=by
     intro hz
     rw[hz,cond_false]
     refine af.2 ⟨rfl,(ah (show(iL (n,b) != 0)=false by rw[iL,hok];rfl)).2 ?_⟩
     exact GG (n:=n.toNat) hv.1 hb hl (by omega) (by omega) (by omega) _ rfl rfl rfl (show n=_ by omega) rfl
    by_cases h8:k<64
    ·refine(aj (by rw[al];simp;omega)).2 (af.2 ⟨by rw[cK (by omega),fe],?_⟩)
     rw[cK (by omega),zw hv.1 (by omega)]
     cases hz:(((v.toNat/2^k:Nat):Int) != 0)
     ·refine(ah hz).2 ?_
      rw[←hz]
      exact hfin hz
     ·refine(aj hz).2 ?_
      exact .ret _
    ·refine(ah (by rw[al];simp;omega)).2 (hfin ?_)
     have:k=64:=by omega
     subst this
     rw[Nat.div_eq_of_lt (by omega)];rfl
def dA:((Int×List Int)×Int×Int)→((Int×List Int)×Int):=u_
def Io:aH:=⟨[(.struct [yI,yB]),(.int .u64),yI], [(.struct [yI,yB]),yI],(@tt ((Int×List Int)×Int×Int)),dA⟩
theorem B6:Sd 26 Io:=aX aJ iC true 81 [⟨26,7, [[1,6,8,9]]⟩,⟨29,5, [[1,3,4], [1,2,6]]⟩] [] (fun A ((bN,bB),v,width)=>GH A bN bB v width) mP Gl (fc Try.func26 (fc Try.func29 fz)) (sc Ee (sc Ff (sc B5 sz))) (fun A y=>match y with |.c0 p=>⟨34,by kernel_rfl,by kernel_rfl⟩|.c1 p=>⟨34,by kernel_rfl,by kernel_rfl⟩|.c2 p c1 c3=>⟨34,by kernel_rfl,by kernel_rfl⟩|.c3 p d0 d5=>⟨34,by kernel_rfl,by kernel_rfl⟩) fun((bN,bB),v,width) hp h=>LX h
open Go.Ev.Pl
structure BK where
 (a0 a1 a2 a4:Int) (a5:List Int) (a6 a7:Int)
inductive yE where
 | c0 (p:BK) (a3:Int) (a8:List Int)
noncomputable def HV:yE→iH
 | .c0 p a3 a8=>⟨[⟨51,63,(en [(1,.int .u64 false p.a0),(2,vi p.a1),(3,.ptr 0 0),(6,.ptr 1 0),(8,.ptr 2 0),(43,vi p.a2),(44,vi a3)]),[.inLoop (cw Try.f51 [1,1,1,0,1,0,0]),.inBlock 1,.code (cw Try.f51 [1,1,1,1])],[],none⟩],[.flat false [vi p.a4,.sl yU p.a5],.flat false [vi p.a6,.du true],.flat false [vi p.a7,.own 3],.arr false yU a8,.dead]⟩
def HE(A:cH)(bN:Int)(bB:List Int)(v:Int)(width:Int):LT ((Int×List Int)×Int) yE:=.need (A.k (@tt ((Int×List Int))) (bN,bB)) (.br (A.c .neq (A.k ia (bN,bB)) 0) (.ret ((0,([]:List Int)),10)) (.br (A.c .lss width 0) (.ret ((0,([]:List Int)),2)) (.br (A.c .gtr width 64) (.ret ((0,([]:List Int)),2)) (.br (A.c .lss width 64) (.need (A.c .leq 0 width) (.br (A.c .neq (A.b .shr .u64 v width) 0) (.ret ((0,([]:List Int)),2)) (.br (A.c .gtr width (A.b .sub .i64 4096 bN)) (.ret ((0,([]:List Int)),3)) (.need (A.k (@tt Int) (A.b .add .i64 bN width)) (.need (A.and (A.c .eql (A.k bW (A.b .add .i64 bN width)) (A.k bW (A.b .add .i64 bN width))) (A.and (A.c .leq 0 (A.k bW (A.b .add .i64 bN width))) (A.c .leq (A.k bW (A.b .add .i64 bN width)) 140737488355328))) (.more (.c0 ⟨v,width,width,bN,bB,0,(A.b .add .i64 bN width)⟩ 0 (A.spl (A.r (A.k bW (A.b .add .i64 bN width)) (0:Int)) 0 (A.s bB 0 (A.mn (A.l bB) (A.l (A.r (A.k bW (A.b .add .i64 bN width)) (0:Int))))))))))))) (.br (A.c .gtr width (A.b .sub .i64 4096 bN)) (.ret ((0,([]:List Int)),3)) (.need (A.k (@tt Int) (A.b .add .i64 bN width)) (.need (A.and (A.c .eql (A.k bW (A.b .add .i64 bN width)) (A.k bW (A.b .add .i64 bN width))) (A.and (A.c .leq 0 (A.k bW (A.b .add .i64 bN width))) (A.c .leq (A.k bW (A.b .add .i64 bN width)) 140737488355328))) (.more (.c0 ⟨v,width,width,bN,bB,0,(A.b .add .i64 bN width)⟩ 0 (A.spl (A.r (A.k bW (A.b .add .i64 bN width)) (0:Int)) 0 (A.s bB 0 (A.mn (A.l bB) (A.l (A.r (A.k bW (A.b .add .i64 bN width)) (0:Int)))))))))))))))
def zQ(A:cH):yE→LT ((Int×List Int)×Int) yE
 | .c0 p a3 a8=>.br (A.c .lss a3 p.a2) (.need (A.c .leq 0 (A.b .sub .i64 (A.b .sub .i64 p.a1 1) a3)) (.br (A.c .eql (A.b .and .u64 (A.b .shr .u64 p.a0 (A.b .sub .i64 (A.b .sub .i64 p.a1 1) a3)) 1) 1) (.need (A.and (A.c .leq 0 (A.b .quo .i64 (A.b .add .i64 p.a4 a3) 8)) (A.c .lss (A.b .quo .i64 (A.b .add .i64 p.a4 a3) 8) (A.l a8))) (.need (A.k j_ (A.b .add .i64 p.a4 a3)) (.need (A.and (A.c .leq 0 (A.b .quo .i64 (A.b .add .i64 p.a4 a3) 8)) (A.c .lss (A.b .quo .i64 (A.b .add .i64 p.a4 a3) 8) (A.l a8))) (.more (.c0 p (A.b .add .i64 a3 1) (A.set a8 (A.b .quo .i64 (A.b .add .i64 p.a4 a3) 8) (A.b .or .u8 (A.n yU a8 (A.b .quo .i64 (A.b .add .i64 p.a4 a3) 8):Int) (A.k rF (A.b .add .i64 p.a4 a3))))))))) (.more (.c0 p (A.b .add .i64 a3 1) a8)))) (.ret ((p.a7,a8),0))
theorem vL{v w k:Nat}(h:k<w):(bitsOf v w).getD k false=v.testBit (w-1-k):=by
 rw[List.getD_eq_getElem?_getD,bitsOf,List.getElem?_map,List.getElem?_range h];rfl
theorem nc{B:List Int}{m i:Nat}(hB:B.length=m)(hi:i<8*m)(hm:m≤100000):(ai.and (ai.c .leq 0 (ai.b .quo .i64 (i:Int) 8)) (ai.c .lss (ai.b .quo .i64 (i:Int) 8) (ai.l B)))=true:=by
 have hlb:ai.l B=(m:Int):=by rw[←hB];rfl
 rw[jO (by omega),hlb,fe,aN,aD];simp;omega
theorem uG{i:Nat}:ai.k j_ (i:Int)=true:=by rw[ap];simp[j_]
theorem Jd{v:Int}{n w:Nat}{b:List Int}(hv:0≤v)(hn:n+w≤4096)(hw:w≤64):∀(j k:Nat) (p:BK) (B:List Int),p.a0=v→p.a1=(w:Int)→p.a2=(w:Int)→p.a4=(n:Int)→p.a7=((n+w:Nat):Int)→w-k=j→k≤w→Holds B (unpack n b++(bitsOf v.toNat w).take k) ((n+w+7)/8)→aA (zQ ai) (.more (.c0 p (k:Int) B)) (aU (unpack n b++bitsOf v.toNat w),0):=by
 intro j
 induction j with
 | zero=>
   intro k p B h1 h2 h3 h4 h5 hj hk hB
   have:k=w:=by omega
   subst this
   simp only[ao,zQ]
   refine(ah (by rw[h3,aN];simp)).2 ?_
   rw[List.take_of_length_le (by rw[ak];exact Nat.le_refl _)] at hB
   have hl:(unpack n b++bitsOf v.toNat k).length=n+k:=by rw[List.length_append,aL,ak]
   rw[h5,hB.done (by rw[hl])]
   rw[show aU (unpack n b++bitsOf v.toNat k)=(((n+k:Nat):Int),pack (unpack n b++bitsOf v.toNat k)) from by rw[aU,hl]]
   exact .ret _
 | succ j ih=>
   intro k p B h1 h2 h3 h4 h5 hj hk hB
   simp only[ao,zQ]
   have hsh:ai.b .sub .i64 (ai.b .sub .i64 p.a1 1) (k:Int)=((w-1-k:Nat):Int):=by
    rw[h2,show ai.b .sub .i64 (w:Int) 1=((w-1:Nat):Int) from jH (j:=1) (by omega) (by omega),jH (by omega) (by omega)]
   have hat:ai.b .add .i64 p.a4 (k:Int)=((n+k:Nat):Int):=by rw[h4,dY (by omega)]
   have hlen:(unpack n b++(bitsOf v.toNat w).take k).length=n+k:=by rw[List.length_append,aL,List.length_take,ak];omega
   have hts:=lw (l:=bitsOf v.toNat w) (i:=k) (by rw[ak];omega)
   rw[vL (by omega)] at hts
   refine(aj (by rw[h3,aN];simp;omega)).2 (af.2 ⟨by rw[hsh,fe],?_⟩)
   rw[hsh,h1,DG hv (by omega),hat]
   cases hx:v.toNat.testBit (w-1-k)
   ·rw[hx] at hts
    refine(ah rfl).2 ?_
    refine aW (congrArg LT.more (congr (congrArg (yE.c0 p) (fH (by omega))) rfl)) (ih (k+1) p B h1 h2 h3 h4 h5 (by omega) (by omega) ?_)
    rw[hts,←List.append_assoc]
    exact hB.skip
   ·rw[hx] at hts
    refine(aj rfl).2 (af.2 ⟨nc hB.1 (by omega) (by omega),af.2 ⟨uG,af.2 ⟨nc hB.1 (by omega) (by omega),?_⟩⟩⟩)
    refine aW (congrArg LT.more (congr (congrArg (yE.c0 p) (fH (by omega))) rfl)) (ih (k+1) p _ h1 h2 h3 h4 h5 (by omega) (by omega) ?_)
    rw[hts,←List.append_assoc]
    exact wB hB hlen (by omega) (by omega)
theorem grow{n w:Nat}{b:List Int}(h:okB n b)(hw:n+w≤100000):Holds (ai.spl (ai.r (ai.k bW ((n+w:Nat):Int)) (0:Int)) 0 (ai.s b 0 (ai.mn (ai.l b) (ai.l (ai.r (ai.k bW ((n+w:Nat):Int)) (0:Int)))))) (unpack n b) ((n+w+7)/8):=by
 have h1:=h.1
 rw[ap,ku (by omega) (by omega),Int.toNat_natCast]
 have e1:ai.r ((((n+w+7)/8:Nat):Nat):Int) (0:Int)=List.replicate ((n+w+7)/8) 0:=by rw[nQ,Int.toNat_natCast]
 rw[e1]
 have e2:ai.mn (ai.l b) (ai.l (List.replicate ((n+w+7)/8) (0:Int)))=(b.length:Int):=by
  rw[CK]
  show(if ((List.replicate ((n+w+7)/8) (0:Int)).length:Int)<(b.length:Int) then _ else(b.length:Int))=_
  rw[List.length_replicate,if_neg (by omega)]
 rw[e2,mK,qy]
 have e3:(b.take (b.length:Int).toNat).drop (0:Int).toNat=b:=by
  rw[Int.toNat_natCast,List.take_length];rfl
 rw[e3]
 have:=Holds.grown (m:=(n+w+7)/8) h (by omega)
 rw[show(0:Int).toNat=0 from rfl,List.take_zero,List.nil_append,Nat.zero_add,List.drop_replicate]
 exact this
theorem MX{n v w:Int}{b:List Int}(h:Ty.cr [(.struct [(.int .i64),(.slice (.int .u8))]),(.int .u64),(.int .i64)] ((n,b),v,w)):aA (zQ ai) (HE ai n b v w) (u_ ((n,b),v,w)):=by
 obtain⟨h1,hv,hw⟩:=zv h
 have hb:=(dn h1).2.2
 have hl:=cm h1
 unfold HE
 rw[u_]
 refine af.2 ⟨rfl,?_⟩
 have hc:ai.c .neq (ai.k ia (n,b)) 0=!bf (n,b):=by
  rw[ap,iO hb hl];cases bf (n,b)<;>rfl
 rw[hc]
 cases hok:bf (n,b)
 ·exact(aj rfl).2 (.ret _)
 ·refine(ah rfl).2 ?_
  obtain⟨h2,h3,h4⟩:=(fq hb).1 hok
  have h5:=h4.1
  rw[Bool.not_true,cond_false]
  by_cases h6:w<0
  ·refine(aj (by rw[al];simpa using h6)).2 ?_
   rw[show decide (w<0)=true from by simpa using h6]
   exact .ret _
  ·refine(ah (by rw[al];simpa using h6)).2 ?_
   by_cases h7:64<w
   ·refine(aj (by rw[au];simpa using h7)).2 ?_
    rw[show decide (64<w)=true from by simpa using h7,Bool.or_true,Bool.true_or]
    exact .ret _
   ·refine(ah (by rw[au];simpa using h7)).2 ?_
    rw[show decide (w<0)=false from by simpa using h6,show decide (64<w)=false from by simpa using h7,Bool.false_or,Bool.false_or,qq hv.1]
    obtain⟨k,rfl⟩:=Int.eq_ofNat_of_zero_le (show 0≤w by omega)
    obtain⟨m,rfl⟩:=Int.eq_ofNat_of_zero_le h2
    rw[Int.toNat_natCast] at h4 h5 ⊢
    have hadd:ai.b .add .i64 (m:Int) (k:Int)=((m+k:Nat):Int):=dY (by omega)
    have hneed:ai.k bW ((m+k:Nat):Int)=(((m+k+7)/8:Nat):Int):=by rw[ap,ku (by omega) (by omega),Int.toNat_natCast]
    have hlen:(bl ((m:Int),b)++bitsOf v.toNat k).length=m+k:=by rw[List.length_append,fA,ak,Int.toNat_natCast]
    have hfin:(((v.toNat/2^k:Nat):Int) != 0)=false→∀t,t=(LT.br (ai.c .gtr (k:Int) (ai.b .sub .i64 4096 (m:Int))) (.ret ((0,([]:List Int)),3)) (.need (ai.k (@tt Int) (ai.b .add .i64 (m:Int) (k:Int))) (.need (ai.and (ai.c .eql (ai.k bW (ai.b .add .i64 (m:Int) (k:Int))) (ai.k bW (ai.b .add .i64 (m:Int) (k:Int)))) (ai.and (ai.c .leq 0 (ai.k bW (ai.b .add .i64 (m:Int) (k:Int)))) (ai.c .leq (ai.k bW (ai.b .add .i64 (m:Int) (k:Int))) 140737488355328))) (.more (.c0 ⟨v,(k:Int),(k:Int),(m:Int),b,0,(ai.b .add .i64 (m:Int) (k:Int))⟩ 0 (ai.spl (ai.r (ai.k bW (ai.b .add .i64 (m:Int) (k:Int))) (0:Int)) 0 (ai.s b 0 (ai.mn (ai.l b) (ai.l (ai.r (ai.k bW (ai.b .add .i64 (m:Int) (k:Int))) (0:Int)))))))))):LT ((Int×List Int)×Int) yE)→aA (zQ ai) t (bif ((v.toNat/2^k:Nat):Int) != 0 then(zB,2) else sP (bl ((m:Int),b)++bitsOf v.toNat k)):=by
     intro hz t ht
     rw[hz,cond_false,ht,sP,hlen,hadd,show ai.b .sub .i64 (4096:Int) (m:Int)=((4096-m:Nat):Int) from jH (i:=4096) (by omega) (by omega)]
     by_cases h9:4096<m+k
     ·rw[show decide (4096<m+k)=true from by simpa using h9]
      refine(aj (by rw[au];simp;omega)).2 (.ret _)
     ·rw[show decide (4096<m+k)=false from by simpa using h9]
      refine(ah (by rw[au];simp;omega)).2 (af.2 ⟨rfl,af.2 ⟨?_,?_⟩⟩)
      ·rw[hneed,fe,nN rfl,ax,aD,aD];simp;omega
      ·refine Jd hv.1 (by omega) (by omega) k 0 _ _ rfl rfl rfl rfl rfl rfl (by omega) ?_
       rw[List.take_zero,List.append_nil]
       exact grow h4 (by omega)
    by_cases h8:k<64
    ·refine(aj (by rw[al];simp;omega)).2 (af.2 ⟨fe,?_⟩)
     rw[zw hv.1 (by omega)]
     cases hz:(((v.toNat/2^k:Nat):Int) != 0)
     ·refine(ah hz).2 ?_
      rw[←hz]
      exact hfin hz _ rfl
     ·exact(aj hz).2 (.ret _)
    ·refine(ah (by rw[al];simp;omega)).2 (hfin ?_ _ rfl)
     have:k=64:=by omega
     subst this
     rw[Nat.div_eq_of_lt (by omega)];rfl
def kv:((Int×List Int)×Int×Int)→((Int×List Int)×Int):=u_
def Jf:aH:=⟨[(.struct [yI,yB]),(.int .u64),yI], [(.struct [yI,yB]),yI],(@tt ((Int×List Int)×Int×Int)),kv⟩
theorem JX:Sd 51 Jf:=aX aJ iC true 114 [⟨51,9, [[1,2,3,6,8,43,44]]⟩] [] (fun A ((bN,bB),v,width)=>HE A bN bB v width) zQ HV (fc Try.func51 (fc Try.func55 (fc Try.func56 (fc Try.func58 fz)))) (sc yj (sc Bz (sc A1 sz))) (fun A y=>match y with |.c0 p a3 a8=>⟨63,by kernel_rfl,by kernel_rfl⟩) fun((bN,bB),v,width) hp h=>MX h
open Go.Ev.Pl
structure C8 where
 (a0 a2 a4:Int) (a5:List Int)
inductive D9 where
 | c0 (p:C8) (a1:Int) (a3:Int)
noncomputable def GN:D9→iH
 | .c0 p a1 a3=>⟨[⟨49,54,(en [(1,vi p.a0),(3,.ptr 0 0),(8,.int .u64 false a1),(39,vi p.a2),(40,vi a3)]),[.inLoop (cw Try.f49 [1,1,1,0,1,0,0]),.inBlock 1,.code (cw Try.f49 [1,1,1,1])],[],none⟩],[.flat false [vi p.a4,.sl yU p.a5],.dead]⟩
def t138(A:cH)(bN:Int)(bB:List Int)(at1:Int)(width:Int):LT (Int×Int) D9:=.need (A.k (@tt ((Int×List Int))) (bN,bB)) (.br (A.c .neq (A.k ia (bN,bB)) 0) (.ret (0,10)) (.br (A.c .lss width 0) (.ret (0,2)) (.br (A.c .gtr width 64) (.ret (0,2)) (.br (A.c .lss at1 0) (.ret (0,2)) (.br (A.c .gtr at1 bN) (.ret (0,2)) (.br (A.c .gtr width (A.b .sub .i64 bN at1)) (.ret (0,2)) (.more (.c0 ⟨at1,width,bN,bB⟩ 0 0))))))))
def Dj(A:cH):D9→LT (Int×Int) D9
 | .c0 p a1 a3=>.br (A.c .lss a3 p.a2) (.need (A.k oH ((p.a4,p.a5),(A.b .add .i64 p.a0 a3))) (.br (A.k sI ((p.a4,p.a5),(A.b .add .i64 p.a0 a3))) (.more (.c0 p (A.b .or .u64 (A.b .shl .u64 a1 1) 1) (A.b .add .i64 a3 1))) (.more (.c0 p (A.b .shl .u64 a1 1) (A.b .add .i64 a3 1))))) (.ret (a1,0))
theorem Dd{l:List Bool}{a k:Nat}(h:a+k<l.length):aQ l a (k+1)=2*aQ l a k+(l.getD (a+k) false).toNat:=by
 rw[aQ,aQ,lw (by rw[List.length_drop];omega),l8,getD_drop]
theorem Jj{k:Nat}(h:k≤64):2^k≤18446744073709551616:=Nat.le_trans (Nat.pow_le_pow_right (by decide) h) (by decide)
theorem wT{x:Nat}(h:2*x<18446744073709551616):ai.b .shl .u64 (x:Int) 1=((2*x:Nat):Int):=by
 show IntKind.u64.wrap ((x:Int)*2^min (1:Int).toNat 64)=_
 rw[show(2:Int)^min (1:Int).toNat 64=2 from rfl,zG (by omega) (by omega)];omega
theorem ER{x:Nat}(h:2*x<18446744073709551616):ai.b .or .u64 ((2*x:Nat):Int) 1=((2*x+1:Nat):Int):=by
 show IntKind.u64.wrap ((BitVec.ofInt 64 ((2*x:Nat):Int) ||| BitVec.ofInt 64 1).toNat:Int)=_
 rw[BitVec.ofInt_natCast,show BitVec.ofInt 64 1=BitVec.ofNat 64 1 from rfl,BitVec.toNat_or,BitVec.toNat_ofNat,BitVec.toNat_ofNat,show 1%2^64=1 from rfl,Nat.mod_eq_of_lt (by omega)]
 have:=Nat.shiftLeft_add_eq_or_of_lt (i:=1) (b:=1) (by decide) x
 rw[Nat.shiftLeft_eq,Nat.pow_one,Nat.mul_comm x 2] at this
 rw[←this,zG (by omega) (by omega)]
theorem zo{n a w:Int}{b:List Int}(h:Ty.cr [(.struct [(.int .i64),(.slice (.int .u8))]),(.int .i64),(.int .i64)] ((n,b),a,w)):Ty.has (.struct [(.int .i64),(.slice (.int .u8))]) (n,b)∧(-9223372036854775808≤a∧a≤9223372036854775807)∧(-9223372036854775808≤w∧w≤9223372036854775807):=h
theorem Jh{n a w:Nat}{b:List Int}(hb:aT b)(hl:b.length≤100000)(hn:n≤8*b.length)(haw:a+w≤n)(hw:w≤64):∀(j k:Nat) (p:C8),p.a0=(a:Int)→p.a2=(w:Int)→p.a5=b→w-k=j→k≤w→aA (Dj ai) (.more (.c0 p ((aQ (unpack n b) a k:Nat):Int) (k:Int))) (((aQ (unpack n b) a w:Nat):Int),0):=by
 intro j
 induction j with
 | zero=>
   intro k p h1 h2 h3 hj hk
   have:k=w:=by omega
   subst this
   simp only[ao,Dj]
   exact(ah (by rw[h2,aN];simp)).2 (.ret _)
 | succ j ih=>
   intro k p h1 h2 h3 hj hk
   simp only[ao,Dj]
   have hat:ai.b .add .i64 p.a0 (k:Int)=((a+k:Nat):Int):=by rw[h1,dY (by omega)]
   have hf:=eY (unpack n b) a k
   have hp:=Jj (k:=k+1) (by omega)
   rw[Nat.pow_succ] at hp
   have hs:=Dd (l:=unpack n b) (a:=a) (k:=k) (by rw[aL];omega)
   rw[iU,show decide (a+k<n)=true from by simp;omega,Bool.true_and] at hs
   refine(aj (by rw[h2,aN];simp;omega)).2 (af.2 ⟨by rw[hat,h3,ap];simp[oH];omega,?_⟩)
   have hc:ai.k sI ((p.a4,p.a5),ai.b .add .i64 p.a0 (k:Int))=dR b (a+k):=by
    rw[hat,h3,ap,wU hb (by omega) (by omega) (by omega),Int.toNat_natCast]
   have hm:=ih (k+1) p h1 h2 h3 (by omega) (by omega)
   cases hx:dR b (a+k)
   ·rw[hx] at hs
    refine(ah (hc.trans hx)).2 ?_
    rw[hs,show 2*aQ (unpack n b) a k+false.toNat=2*aQ (unpack n b) a k from rfl,←wT (by omega),←fH (by omega)] at hm
    exact hm
   ·rw[hx] at hs
    refine(aj (hc.trans hx)).2 ?_
    rw[hs,show 2*aQ (unpack n b) a k+true.toNat=2*aQ (unpack n b) a k+1 from rfl,←ER (by omega),←wT (by omega),←fH (by omega)] at hm
    exact hm
theorem KC{n a w:Int}{b:List Int}(h:Ty.cr [(.struct [(.int .i64),(.slice (.int .u8))]),(.int .i64),(.int .i64)] ((n,b),a,w)):aA (Dj ai) (t138 ai n b a w) (zW ((n,b),a,w)):=by
 obtain⟨h1,ha,hw⟩:=zo h
 have hb:=(dn h1).2.2
 have hl:=cm h1
 unfold t138
 rw[zW]
 refine af.2 ⟨rfl,?_⟩
 have hc:ai.c .neq (ai.k ia (n,b)) 0=!bf (n,b):=by
  rw[ap,iO hb hl];cases bf (n,b)<;>rfl
 rw[hc]
 cases hok:bf (n,b)
 ·exact(aj rfl).2 (.ret _)
 ·refine(ah rfl).2 ?_
  obtain⟨h2,h3,h4⟩:=(fq hb).1 hok
  have h5:=h4.1
  rw[Bool.not_true,cond_false]
  by_cases h6:w<0
  ·refine(aj (by rw[al];simpa using h6)).2 ?_
   rw[show decide (w<0)=true from by simpa using h6]
   exact .ret _
  refine(ah (by rw[al];simpa using h6)).2 ?_
  by_cases h7:64<w
  ·refine(aj (by rw[au];simpa using h7)).2 ?_
   rw[show decide (64<w)=true from by simpa using h7]
   simp only[Bool.or_true,Bool.true_or]
   exact .ret _
  refine(ah (by rw[au];simpa using h7)).2 ?_
  by_cases h8:a<0
  ·refine(aj (by rw[al];simpa using h8)).2 ?_
   rw[show decide (a<0)=true from by simpa using h8]
   simp only[Bool.or_true,Bool.true_or]
   exact .ret _
  refine(ah (by rw[al];simpa using h8)).2 ?_
  rw[show decide (w<0)=false from by simpa using h6,show decide (64<w)=false from by simpa using h7,show decide (a<0)=false from by simpa using h8]
  by_cases h9:n<a
  ·refine(aj (by rw[au];simpa using h9)).2 ?_
   rw[show decide (n<a+w)=true from by simp;omega]
   exact .ret _
  refine(ah (by rw[au];simpa using h9)).2 ?_
  rw[bC,ji (by omega) (by omega)]
  by_cases h10:n<a+w
  ·refine(aj (by rw[au];simp;omega)).2 ?_
   rw[show decide (n<a+w)=true from by simpa using h10]
   exact .ret _
  refine(ah (by rw[au];simp;omega)).2 ?_
  rw[show decide (n<a+w)=false from by simpa using h10]
  obtain⟨k,rfl⟩:=Int.eq_ofNat_of_zero_le (show 0≤w by omega)
  obtain⟨i,rfl⟩:=Int.eq_ofNat_of_zero_le (show 0≤a by omega)
  exact Jh (n:=n.toNat) hb (by omega) (by omega) (by omega) (by omega) k 0 _ rfl rfl rfl (by omega) (by omega)
def ar:((Int×List Int)×Int×Int)→(Int×Int):=zW
def Jv:aH:=⟨[(.struct [yI,yB]),yI,yI], [(.int .u64),yI],(@tt ((Int×List Int)×Int×Int)),ar⟩
theorem yW:Sd 49 Jv:=aX aJ iC true 65 [⟨49,7, [[1,3,8,39,40]]⟩] [] (fun A ((bN,bB),at1,width)=>t138 A bN bB at1 width) Dj GN (fc Try.func49 fz) (sc yj (sc FV sz)) (fun A y=>match y with |.c0 p a1 a3=>⟨45,by kernel_rfl,by kernel_rfl⟩) fun((bN,bB),at1,width) hp h=>KC h
open Go.Ev.Pl
structure B7 where
 (a0 a1 a2 a4 a5:Int) (a6:List Int) (a7 a8:Int)
inductive zK where
 | c0 (p:B7) (a3:Int) (a9:List Int)
noncomputable def Gg:zK→iH
 | .c0 p a3 a9=>⟨[⟨59,52,(en [(1,vi p.a0),(3,vi p.a1),(4,vi p.a2),(5,.ptr 0 0),(7,.ptr 1 0),(10,vi a3)]),[.inLoop (cw Try.f59 [1,1,1,0,0]),.inBlock 0],[],none⟩,⟨53,39,(en [(6,.ptr 2 0),(8,.ptr 3 0)]),[.ops (ow Try.f53 [1,1,1,0]) ((ow Try.f53 [1,1,1,0]).toList.drop 4),.code (cw Try.f53 [1,1,1,1])],[],none⟩],[.flat false [vi p.a4,.own 4],.flat false [vi p.a5,.sl yU p.a6],.flat false [vi p.a7,.du true],.flat false [vi p.a8,.own 4],.arr false yU a9,.dead]⟩
def GU(A:cH)(bN:Int)(bB:List Int)(from1:Int)(to:Int):LT ((Int×List Int)×Int) zK:=.need (A.k (@tt ((Int×List Int))) (bN,bB)) (.br (A.c .neq (A.k ia (bN,bB)) 0) (.ret ((0,([]:List Int)),10)) (.br (A.c .lss from1 0) (.ret ((0,([]:List Int)),2)) (.br (A.c .lss to from1) (.ret ((0,([]:List Int)),2)) (.br (A.c .gtr to bN) (.ret ((0,([]:List Int)),2)) (.need (A.k (@tt Int) (A.b .sub .i64 to from1)) (.need (A.and (A.c .eql (A.k bW (A.b .sub .i64 to from1)) (A.k bW (A.b .sub .i64 to from1))) (A.and (A.c .leq 0 (A.k bW (A.b .sub .i64 to from1))) (A.c .leq (A.k bW (A.b .sub .i64 to from1)) 140737488355328))) (.br (A.c .eql (A.b .rem .i64 from1 8) 0) (.br (A.c .eql to bN) (.need (A.and (A.c .leq 0 0) (A.and (A.c .leq 0 (A.l (A.r (A.k bW (A.b .sub .i64 to from1)) (0:Int)))) (A.c .leq (A.l (A.r (A.k bW (A.b .sub .i64 to from1)) (0:Int))) (A.l (A.r (A.k bW (A.b .sub .i64 to from1)) (0:Int)))))) (.need (A.and (A.c .leq 0 (A.b .quo .i64 from1 8)) (A.and (A.c .leq (A.b .quo .i64 from1 8) (A.l bB)) (A.c .leq (A.l bB) (A.l bB)))) (.ret (((A.b .sub .i64 to from1),(A.spl (A.r (A.k bW (A.b .sub .i64 to from1)) (0:Int)) 0 (A.s (A.s bB (A.b .quo .i64 from1 8) (A.l bB)) 0 (A.mn (A.l (A.s bB (A.b .quo .i64 from1 8) (A.l bB))) (A.b .sub .i64 (A.l (A.r (A.k bW (A.b .sub .i64 to from1)) (0:Int))) 0))))),0)))) (.more (.c0 ⟨0,from1,to,(A.b .sub .i64 to from1),bN,bB,0,(A.b .sub .i64 to from1)⟩ from1 (A.r (A.k bW (A.b .sub .i64 to from1)) (0:Int))))) (.more (.c0 ⟨0,from1,to,(A.b .sub .i64 to from1),bN,bB,0,(A.b .sub .i64 to from1)⟩ from1 (A.r (A.k bW (A.b .sub .i64 to from1)) (0:Int)))))))))))
def yl(A:cH):zK→LT ((Int×List Int)×Int) zK
 | .c0 p a3 a9=>.br (A.c .lss a3 p.a2) (.need (A.k oH ((p.a5,p.a6),a3)) (.br (A.k sI ((p.a5,p.a6),a3)) (.need (A.and (A.c .leq 0 (A.b .quo .i64 (A.b .sub .i64 (A.b .add .i64 p.a0 a3) p.a1) 8)) (A.c .lss (A.b .quo .i64 (A.b .sub .i64 (A.b .add .i64 p.a0 a3) p.a1) 8) (A.l a9))) (.need (A.k j_ (A.b .sub .i64 (A.b .add .i64 p.a0 a3) p.a1)) (.need (A.and (A.c .leq 0 (A.b .quo .i64 (A.b .sub .i64 (A.b .add .i64 p.a0 a3) p.a1) 8)) (A.c .lss (A.b .quo .i64 (A.b .sub .i64 (A.b .add .i64 p.a0 a3) p.a1) 8) (A.l a9))) (.more (.c0 p (A.b .add .i64 a3 1) (A.set a9 (A.b .quo .i64 (A.b .sub .i64 (A.b .add .i64 p.a0 a3) p.a1) 8) (A.b .or .u8 (A.n yU a9 (A.b .quo .i64 (A.b .sub .i64 (A.b .add .i64 p.a0 a3) p.a1) 8):Int) (A.k rF (A.b .sub .i64 (A.b .add .i64 p.a0 a3) p.a1))))))))) (.more (.c0 p (A.b .add .i64 a3 1) a9)))) (.ret ((p.a8,a9),0))
theorem EM{n a c:Nat}{b:List Int}(hb:aT b)(hl:b.length≤100000)(hn:n≤8*b.length)(hac:a≤c)(hc:c≤n):∀(j i:Nat) (p:B7) (B:List Int),p.a0=0→p.a1=(a:Int)→p.a2=(c:Int)→p.a6=b→p.a8=((c-a:Nat):Int)→c-i=j→a≤i→i≤c→Holds B ((((unpack n b).take c).drop a).take (i-a)) ((c-a+7)/8)→aA (yl ai) (.more (.c0 p (i:Int) B)) (aU (((unpack n b).take c).drop a),0):=by
 have hL:(((unpack n b).take c).drop a).length=c-a:=by rw[List.length_drop,List.length_take,aL];omega
 intro j
 induction j with
 | zero=>
   intro i p B h0 h1 h2 h3 h4 hj hi hi2 hB
   have:i=c:=by omega
   subst this
   simp only[ao,yl]
   refine(ah (by rw[h2,aN];simp)).2 ?_
   rw[List.take_of_length_le (by rw[hL];exact Nat.le_refl _)] at hB
   rw[h4,hB.done (by rw[hL]),show aU (((unpack n b).take i).drop a)=(((i-a:Nat):Int),pack (((unpack n b).take i).drop a)) from by rw[aU,hL]]
   exact .ret _
 | succ j ih=>
   intro i p B h0 h1 h2 h3 h4 hj hi hi2 hB
   simp only[ao,yl]
   have hat:ai.b .sub .i64 (ai.b .add .i64 p.a0 (i:Int)) p.a1=((i-a:Nat):Int):=by
    rw[h0,h1,show ai.b .add .i64 (0:Int) (i:Int)=((0+i:Nat):Int) from dY (i:=0) (by omega),jH (by omega) (by omega),Nat.zero_add]
   have hts:=lw (l:=((unpack n b).take c).drop a) (i:=i-a) (by rw[hL];omega)
   rw[getD_drop,getD_take,iU,show a+(i-a)=i from by omega,show decide (i<c)=true from by simp;omega,show decide (i<n)=true from by simp;omega,Bool.true_and,Bool.true_and] at hts
   have hlen:((((unpack n b).take c).drop a).take (i-a)).length=i-a:=by rw[List.length_take,hL];omega
   refine(aj (by rw[h2,aN];simp;omega)).2 (af.2 ⟨by rw[h3,ap];simp[oH];omega,?_⟩)
   have hc:ai.k sI ((p.a5,p.a6),(i:Int))=dR b i:=by
    rw[h3,ap,wU hb (by omega) (by omega) (by omega),Int.toNat_natCast]
   rw[hat]
   cases hx:dR b i
   ·rw[hx] at hts
    refine(ah (hc.trans hx)).2 ?_
    refine aW (congrArg LT.more (congr (congrArg (zK.c0 p) (fH (by omega))) rfl)) (ih (i+1) p B h0 h1 h2 h3 h4 (by omega) (by omega) (by omega) ?_)
    rw[show i+1-a=i-a+1 from by omega,hts]
    exact hB.skip
   ·rw[hx] at hts
    refine(aj (hc.trans hx)).2 (af.2 ⟨nc hB.1 (by omega) (by omega),af.2 ⟨uG,af.2 ⟨nc hB.1 (by omega) (by omega),?_⟩⟩⟩)
    refine aW (congrArg LT.more (congr (congrArg (zK.c0 p) (fH (by omega))) rfl)) (ih (i+1) p _ h0 h1 h2 h3 h4 (by omega) (by omega) (by omega) ?_)
    rw[show i+1-a=i-a+1 from by omega,hts]
    exact wB hB hlen (by omega) (by omega)
theorem zY(b:List Int)(i j:Nat):dR (b.drop i) j=dR b (8*i+j):=by
 rw[dR,dR,List.getD_eq_getElem?_getD,List.getD_eq_getElem?_getD,List.getElem?_drop,show(8*i+j)/8=i+j/8 from by omega,show(8*i+j)%8=j%8 from by omega]
theorem As{n i:Nat}{b:List Int}(h:okB n b)(hi:8*i≤n):b.drop i=pack ((unpack n b).drop (8*i)):=by
 have h1:=h.1
 apply ze
 ·rw[List.length_drop,List.length_drop,aL];omega
 ·exact fun x hx=>h.2.1 x (List.mem_of_mem_drop hx)
 ·intro j hj
  rw[List.length_drop] at hj
  rw[zY,getD_drop,iU]
  by_cases h2:8*i+j<n
  ·rw[show decide (8*i+j<n)=true from by simpa using h2,Bool.true_and]
  ·rw[show decide (8*i+j<n)=false from by simpa using h2,Bool.false_and]
   exact h.2.2 _ (by omega) (by omega)
theorem EP{b:List Int}{i:Nat}:ai.s b (i:Int) (ai.l b)=b.drop i:=by
 show(b.take (b.length:Int).toNat).drop (i:Int).toNat=_
 rw[Int.toNat_natCast,Int.toNat_natCast,List.take_length]
theorem F_{n a c:Int}{b:List Int}(h:Ty.cr [(.struct [(.int .i64),(.slice (.int .u8))]),(.int .i64),(.int .i64)] ((n,b),a,c)):aA (yl ai) (GU ai n b a c) (bH ((n,b),a,c)):=by
 obtain⟨h1,ha,hw⟩:=zo h
 have hb:=(dn h1).2.2
 have hl:=cm h1
 unfold GU
 rw[bH]
 refine af.2 ⟨rfl,?_⟩
 have hc:ai.c .neq (ai.k ia (n,b)) 0=!bf (n,b):=by
  rw[ap,iO hb hl];cases bf (n,b)<;>rfl
 rw[hc]
 cases hok:bf (n,b)
 ·exact(aj rfl).2 (.ret _)
 ·refine(ah rfl).2 ?_
  obtain⟨h2,h3,h4⟩:=(fq hb).1 hok
  have h5:=h4.1
  rw[Bool.not_true,cond_false]
  by_cases h6:a<0
  ·refine(aj (by rw[al];simpa using h6)).2 ?_
   rw[show decide (a<0)=true from by simpa using h6]
   exact .ret _
  refine(ah (by rw[al];simpa using h6)).2 ?_
  by_cases h7:c<a
  ·refine(aj (by rw[al];simpa using h7)).2 ?_
   rw[show decide (c<a)=true from by simpa using h7]
   simp only[Bool.or_true,Bool.true_or]
   exact .ret _
  refine(ah (by rw[al];simpa using h7)).2 ?_
  by_cases h8:n<c
  ·refine(aj (by rw[au];simpa using h8)).2 ?_
   rw[show decide (n<c)=true from by simpa using h8]
   simp only[Bool.or_true,Bool.true_or]
   exact .ret _
  refine(ah (by rw[au];simpa using h8)).2 ?_
  rw[show decide (a<0)=false from by simpa using h6,show decide (c<a)=false from by simpa using h7,show decide (n<c)=false from by simpa using h8]
  obtain⟨k,rfl⟩:=Int.eq_ofNat_of_zero_le (show 0≤c by omega)
  obtain⟨i,rfl⟩:=Int.eq_ofNat_of_zero_le (show 0≤a by omega)
  obtain⟨m,rfl⟩:=Int.eq_ofNat_of_zero_le h2
  rw[Int.toNat_natCast] at h4 h5
  have hsub:ai.b .sub .i64 (k:Int) (i:Int)=((k-i:Nat):Int):=jH (by omega) (by omega)
  have hneed:ai.k bW ((k-i:Nat):Int)=(((k-i+7)/8:Nat):Int):=by rw[ap,ku (by omega) (by omega),Int.toNat_natCast]
  show aA (yl ai) _ (aU (((unpack m b).take k).drop i),0)
  rw[hsub]
  have hrep:ai.r (ai.k bW ((k-i:Nat):Int)) (0:Int)=List.replicate ((k-i+7)/8) 0:=by rw[hneed,nQ,Int.toNat_natCast]
  have hmore:aA (yl ai) (.more (.c0 ⟨0,(i:Int),(k:Int),((k-i:Nat):Int),(m:Int),b,0,((k-i:Nat):Int)⟩ (i:Int) (ai.r (ai.k bW ((k-i:Nat):Int)) (0:Int)))) (aU (((unpack m b).take k).drop i),0):=by
   refine EM hb (by omega) (by omega) (by omega) (by omega) (k-i) i _ _ rfl rfl rfl rfl rfl (by omega) (by omega) (by omega) ?_
   rw[Nat.sub_self,List.take_zero,hrep]
   exact Holds.blank _
  refine af.2 ⟨rfl,af.2 ⟨by rw[hneed,fe,nN rfl,ax,aD,aD];simp;omega,?_⟩⟩
  by_cases h9:i%8=0
  ·refine(aj (nN (by rw[qk,h9];rfl))).2 ?_
   by_cases h10:k=m
   ·subst h10
    refine(aj (nN rfl)).2 (af.2 ⟨?_,af.2 ⟨?_,?_⟩⟩)
    ·rw[hrep]
     have:ai.l (List.replicate ((k-i+7)/8) (0:Int))=(((k-i+7)/8:Nat):Int):=by show((List.replicate ((k-i+7)/8) (0:Int)).length:Int)=_;rw[List.length_replicate]
     rw[this,fe,ig,aD,aD];simp[ax]
    ·have:ai.l b=((b.length:Nat):Int):=rfl
     rw[jO (by omega),this,fe,ig,ig,aD,aD];simp;omega
    ·have hd:=As h4 (i:=i/8) (by omega)
     rw[show 8*(i/8)=i from by omega] at hd
     have hL:((unpack k b).drop i).length=k-i:=by rw[List.length_drop,aL]
     rw[hrep,jO (by omega),EP]
     have e1:ai.mn (ai.l (b.drop (i/8))) (ai.b .sub .i64 (ai.l (List.replicate ((k-i+7)/8) (0:Int))) 0)=((b.drop (i/8)).length:Int):=by
      show ai.mn ((b.drop (i/8)).length:Int) (ai.b .sub .i64 ((List.replicate ((k-i+7)/8) (0:Int)).length:Int) 0)=_
      rw[List.length_replicate,bC,ji (by omega) (by omega),CK,if_neg (by rw[List.length_drop];omega)]
     rw[e1,mK,qy,Int.toNat_natCast,List.take_length]
     have e2:(List.replicate ((k-i+7)/8) (0:Int)).take (0:Int).toNat++(b.drop (i/8)).drop (0:Int).toNat++(List.replicate ((k-i+7)/8) (0:Int)).drop ((0:Int).toNat+((b.drop (i/8)).drop (0:Int).toNat).length)=b.drop (i/8):=by
      show[]++b.drop (i/8)++(List.replicate ((k-i+7)/8) (0:Int)).drop (0+(b.drop (i/8)).length)=_
      rw[List.drop_replicate,List.length_drop,show(k-i+7)/8-(0+(b.length-i/8))=0 from by omega,List.replicate_zero,List.append_nil,List.nil_append]
     rw[e2,hd,List.take_of_length_le (by rw[aL];exact Nat.le_refl _),show aU ((unpack k b).drop i)=(((k-i:Nat):Int),pack ((unpack k b).drop i)) from by rw[aU,hL]]
     exact .ret _
   ·exact(ah (zq (by omega))).2 hmore
  ·exact(ah (zq (by rw[qk];omega))).2 hmore
def bF:((Int×List Int)×Int×Int)→((Int×List Int)×Int):=bH
def JU:aH:=⟨[(.struct [yI,yB]),yI,yI], [(.struct [yI,yB]),yI],(@tt ((Int×List Int)×Int×Int)),bF⟩
theorem Fi:Sd 53 JU:=aX aJ iC true 118 [⟨59,4, [[1,3,4,5,7,10], [6,8]]⟩] [] (fun A ((bN,bB),from1,to)=>GU A bN bB from1 to) yl Gg (fc Try.func53 (fc Try.func56 (fc Try.func58 (fc Try.func59 fz)))) (sc yj (sc Bz (sc FV (sc A1 sz)))) (fun A y=>match y with |.c0 p a3 a9=>⟨57,by kernel_rfl,by kernel_rfl⟩) fun((bN,bB),from1,to) hp h=>F_ h
open Go.Ev.Pl
theorem nH{l:List (Int×List Int)}(h:Ty.cr [(.slice (.struct [(.int .i64),(.slice (.int .u8))]))] l):l.length≤140737488355328∧∀x∈l,aT x.2∧x.2.length≤140737488355328:=by
 have h1:l.length≤b_∧∀x∈l,Ty.has (.struct [(.int .i64),(.slice (.int .u8))]) x:=h
 exact⟨h1.1,fun x hx=>⟨(dn (n:=x.1) (b:=x.2) (h1.2 x hx)).2.2,(dn (n:=x.1) (b:=x.2) (h1.2 x hx)).2.1⟩⟩
theorem getD_in{α:Type}{l:List α}{i:Nat}(h:i<l.length)(d:α):l.getD (i:Int).toNat d=l[i]:=by
 rw[Int.toNat_natCast,List.getD_eq_getElem?_getD,List.getElem?_eq_getElem h];rfl
theorem kg{l:List (Int×List Int)}{i:Nat}(h:i<l.length):(ai.n (.struct [(.int .i64),(.slice (.int .u8))]) l (i:Int):Int×List Int)=l[i]:=by
 exact getD_in h _
theorem gB{α:Type}{l:List α}{i:Nat}(h:i<l.length):ai.and (ai.c .leq 0 (i:Int)) (ai.c .lss (i:Int) (ai.l l))=true:=by
 have:ai.l l=(l.length:Int):=rfl
 rw[this,fe,aN,aD];simpa using h
theorem BP{x:Int×List Int}(h:bf x=true):(bl x).length≤4096:=by
 obtain⟨n,b⟩:=x
 rw[fA]
 simp only[bf,Bool.and_eq_true,decide_eq_true_eq] at h
 show n.toNat≤4096
 omega
theorem vY{l:List Bool}(h:4096<l.length):sP l=(zB,3):=by
 rw[sP,show decide (4096<l.length)=true from by simpa using h];rfl
theorem uF{l:List (Int×List Int)}{i:Nat}(h:i<l.length):(l.take (i+1)).flatMap bl=(l.take i).flatMap bl++bl l[i]:=by
 rw[List.take_succ_eq_append_getElem h,List.flatMap_append]
 simp
theorem oO{l:List Bool}(h:l.length≤4096):sP l=(aU l,0):=by
 rw[sP,show decide (4096<l.length)=false from by simpa using h];rfl
end Go.Ev.M
