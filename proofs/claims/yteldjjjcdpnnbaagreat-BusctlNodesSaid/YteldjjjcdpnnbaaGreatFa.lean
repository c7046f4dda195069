/-
  PROVED: what the functions of the packages bits and metronomeref01 compute. Conditions: none.
-/
import Derived.Test.YteldjjjcdpnnbaaGreatTy
import Derived.Test.YteldjjjcdpnnbaaGreatEvC
import Derived.Test.YteldjjjcdpnnbaaGreatPl
namespace Go.Ev.M
open Go.Proofs
set_option maxRecDepth 100000
set_option linter.unusedVariables false
set_option linter.unusedSimpArgs false
open Go.Ev.Pl
open Go.Ev.Pl
theorem yX{i:Int}(h:0≤i)(h2:i≤4611686018427387904):ai.b .quo .i64 i 8=((i.toNat/8:Nat):Int):=by
 rw[AJ,Int.tdiv_eq_ediv_of_nonneg h,gh (by omega) (by omega)];omega
theorem yx{i:Int}(h:0≤i):ai.b .rem .i64 i 8=((i.toNat%8:Nat):Int):=by
 rw[wz,Int.tmod_eq_emod_of_nonneg h];omega
theorem dM{n:Int}{b:List Int}(h:Ty.has (.struct [(.int .i64),(.slice (.int .u8))]) (n,b)):(-9223372036854775808≤n∧n≤9223372036854775807)∧b.length≤cr∧bE b:=by
 simp only[Ty.has,Ty.dH] at h
 exact⟨h.1,h.2.1,fun x hx=>h.2.2 x hx⟩
theorem cZ{n:Int}{b:List Int}(h:Ty.has (.struct [(.int .i64),(.slice (.int .u8))]) (n,b)):b.length≤140737488355328:=(dM h).2.1
theorem Dh{b:List Int}{i:Int}(h:Ty.dH [(.slice (.int .u8)),(.int .i64)] (b,i)):b.length≤140737488355328:=by
 simp only[Ty.dH,Ty.has] at h
 exact h.1.1
def Gs(A:bg)(n:Int):LT Int Empty:=.ret (A.b .quo .i64 (A.b .add .i64 n 7) 8)
def cB:Int→Int:=fun n=>(Gs ai n).val (Ty.da [yI])
def Nr:aB:=⟨[yI], [yI],(@tt Int),cB⟩
theorem C_:Sd 246 Nr:=aJ ar cO true 17 [] (fun A n=>Gs A n) (fc Tryz.func246 fz) sz (fun(n:Int) hp h=>by
 show(Gs ai n).pre=true
 rfl)
def Dt(A:bg)(i:Int):LT Int Empty:=.need (A.c .leq 0 (A.b .rem .i64 i 8)) (.ret (A.b .shr .u8 128 (A.b .rem .i64 i 8)))
def sF:Int→Int:=fun i=>(Dt ai i).val (Ty.da [yU])
def kY:Int→Bool:=fun i=>decide (0≤i)
def Sn:aB:=⟨[yI], [yU],kY,sF⟩
theorem Fp:Sd 264 Sn:=aJ ar cO true 17 [] (fun A i=>Dt A i) (fc Tryz.func264 fz) sz (fun(i:Int) hp h=>by
 show(Dt ai i).pre=true
 simp only[Dt,LT.pre,jI,aR,aX,al,aF,aD,aK,aQ,c_,iI,ap,dn,bH,bL,dF,dI,Bool.and_eq_true,Bool.or_eq_true,Bool.and_eq_false_iff,Bool.or_eq_false_iff,Bool.not_eq_true',Bool.not_eq_false',decide_eq_true_eq,decide_eq_false_iff_not,bne_iff_ne,beq_iff_eq,bne_eq_false_iff_eq,beq_eq_false_iff_ne]
 simp only[kY,decide_eq_true_eq] at hp
 rw[yx hp];exact⟨by omega,trivial⟩)
theorem kW{n:Int}(h:0≤n)(h2:n≤4611686018427387000):cB n=(((n.toNat+7)/8:Nat):Int):=by
 simp only[cB,Gs,LT.val]
 rw[dn,gh (by omega) (by omega),yX (by omega) (by omega)]
 omega
theorem CQ:∀k:Fin 8,ai.b .shr .u8 128 (k.val:Int)=((128 >>> k.val:Nat):Int):=by decide +kernel
theorem xd{i:Int}(h:0≤i):sF i=((128 >>> (i.toNat%8):Nat):Int):=by
 simp only[sF,Dt,LT.val]
 rw[yx h]
 exact CQ ⟨i.toNat%8,Nat.mod_lt _ (by decide)⟩
theorem Hd:∀c:Fin 256,∀k:Fin 8,(ai.b .and .u8 (c.val:Int) ((128 >>> k.val:Nat):Int) != 0)=c.val.testBit (7-k.val):=by decide +kernel
theorem sJ{l:List Int}(h:bE l)(i:Nat):0≤l.getD i 0∧l.getD i 0≤255:=by
 rw[List.getD_eq_getElem?_getD]
 by_cases hi:i<l.length
 ·rw[List.getElem?_eq_getElem hi];exact h _ (List.getElem_mem hi)
 ·rw[List.getElem?_eq_none (by omega)];decide
theorem G4{l:List Int}(h:bE l)(i:Nat):(ai.b .and .u8 (l.getD (i/8) 0) ((128 >>> (i%8):Nat):Int) != 0)=eE l i:=by
 have h1:=sJ h (i/8)
 have h2:=Hd ⟨(l.getD (i/8) 0).toNat,by omega⟩ ⟨i%8,Nat.mod_lt _ (by decide)⟩
 simp only at h2
 rw[show(((l.getD (i/8) 0).toNat:Nat):Int)=l.getD (i/8) 0 from by omega] at h2
 exact h2
def EZ(A:bg)(bN:Int)(bB:List Int)(i:Int):LT Bool Empty:=.need (A.and (A.c .leq 0 (A.b .quo .i64 i 8)) (A.c .lss (A.b .quo .i64 i 8) (A.l bB))) (.need (A.k kY i) (.ret (A.c .neq (A.b .and .u8 (A.n yU bB (A.b .quo .i64 i 8):Int) (A.k sF i)) 0)))
def s8:((Int×List Int)×Int)→Bool:=fun((bN,bB),i)=>(EZ ai bN bB i).val (Ty.da [.bool])
def o9:((Int×List Int)×Int)→Bool:=fun((n,b),i)=>decide (0≤i)&&decide (i<8*(b.length:Int))
def No:aB:=⟨[(.struct [yI,yB]),yI], [.bool],o9,s8⟩
theorem IJ:Sd 257 No:=aJ ar cO true 25 [] (fun A ((bN,bB),i)=>EZ A bN bB i) (fc Tryz.func257 fz) (sc Fp sz) (fun(((bN,bB),i):(Int×List Int)×Int) hp h=>by
 show(EZ ai bN bB i).pre=true
 simp only[o9,Bool.and_eq_true,decide_eq_true_eq] at hp
 have hl:=cZ h.1
 simp only[EZ,LT.pre,ap,aQ,aF,al,kY,Bool.and_eq_true,decide_eq_true_eq,dF]
 rw[yX hp.1 (by omega)]
 refine⟨⟨by omega,by omega⟩,hp.1,trivial⟩)
theorem xH{n:Int}{b:List Int}{i:Int}(hb:bE b)(h0:0≤i)(h1:i<8*(b.length:Int))(hl:b.length≤140737488355328):s8 ((n,b),i)=eE b i.toNat:=by
 simp only[s8,EZ,LT.val,ap,aX]
 rw[yX h0 (by omega),xd h0]
 exact G4 hb i.toNat
def L9(A:bg)(bN:Int)(bB:List Int):LT Int Empty:=.br (A.c .lss bN 0) (.ret 10) (.br (A.c .gtr bN 4096) (.ret 10) (.need (A.k (@tt Int) bN) (.br (A.c .neq (A.l bB) (A.k cB bN)) (.ret 10) (.br (A.c .neq (A.b .rem .i64 bN 8) 0) (.need (A.and (A.c .leq 0 (A.b .sub .i64 (A.l bB) 1)) (A.c .lss (A.b .sub .i64 (A.l bB) 1) (A.l bB))) (.need (A.c .leq 0 (A.b .rem .i64 bN 8)) (.br (A.c .neq (A.b .and .u8 (A.n yU bB (A.b .sub .i64 (A.l bB) 1):Int) (A.b .shr .u8 255 (A.b .rem .i64 bN 8))) 0) (.ret 10) (.ret 0)))) (.ret 0)))))
def iG:((Int×List Int))→Int:=fun(bN,bB)=>(L9 ai bN bB).val (Ty.da [yI])
def TE:aB:=⟨[(.struct [yI,yB])], [yI],(@tt ((Int×List Int))),iG⟩
theorem zv:Sd 230 TE:=aJ ar cO true 67 [] (fun A (bN,bB)=>L9 A bN bB) (fc Tryz.func230 fz) (sc C_ sz) (fun((bN,bB):(Int×List Int)) hp h=>by
 show(L9 ai bN bB).pre=true
 have hl:=cZ h
 simp only[L9,LT.pre,ap,aX,al,aD,aF,aQ,dI,Bool.true_and,dF,jI,decide_eq_true_eq,decide_eq_false_iff_not,Bool.and_eq_true,bne_iff_ne,bne_eq_false_iff_eq,ne_eq,implies_true,and_true,true_and]
 intro h0 h1 h2 h3
 rw[kW (by omega) (by omega)] at h2
 rw[yx (by omega)] at h3
 rw[bH,gh (by omega) (by omega),yx (by omega)]
 omega)
theorem CP:∀c:Fin 256,∀r:Fin 8,(ai.b .and .u8 (c.val:Int) (ai.b .shr .u8 255 (r.val:Int)) != 0)=!((List.range 8).all fun k=>decide (k<r.val) || !c.val.testBit (7-k)):=by decide +kernel
theorem BN{n:Int}{b:List Int}(hb:bE b)(hl:b.length≤140737488355328):iG (n,b)=0↔0≤n∧n≤4096∧okB n.toNat b:=by
 simp only[iG,L9,LT.val,ap,aX,al,aD]
 by_cases h0:n<0
 ·simp only[h0,decide_true,cond_true]
  constructor
  ·intro h;cases h
  ·intro h;omega
 ·simp only[h0,decide_false,cond_false]
  by_cases h1:4096<n
  ·simp only[h1,decide_true,cond_true]
   constructor
   ·intro h;cases h
   ·intro h;omega
  ·simp only[h1,decide_false,cond_false]
   rw[kW (by omega) (by omega)]
   have hlen:ai.l b=(b.length:Int):=rfl
   rw[hlen]
   by_cases h2:b.length=(n.toNat+7)/8
   ·rw[show((b.length:Int) != (((n.toNat+7)/8:Nat):Int))=false from by rw[h2];exact bne_self_eq_false _,cond_false,yx (by omega)]
    by_cases h3:n.toNat%8=0
    ·rw[h3]
     simp only[Int.natCast_zero,bne_self_eq_false,cond_false,true_iff]
     exact⟨by omega,by omega,h2,hb,fun i h4 h5=>by omega⟩
    ·rw[show(((n.toNat%8:Nat):Int) != 0)=true from by simp;omega,cond_true]
     have e:(ai.n (.int .u8) b (ai.b .sub .i64 (b.length:Int) 1):Int)=b.getD (n.toNat/8) 0:=by
      show b.getD (ai.b .sub .i64 (b.length:Int) 1).toNat 0=_
      rw[bH,gh (by omega) (by omega)]
      congr 1
      omega
     have hx:=sJ hb (n.toNat/8)
     have key:=CP ⟨(b.getD (n.toNat/8) 0).toNat,by omega⟩ ⟨n.toNat%8,Nat.mod_lt _ (by decide)⟩
     simp only at key
     rw[show(((b.getD (n.toNat/8) 0).toNat:Nat):Int)=b.getD (n.toNat/8) 0 from by omega] at key
     have e2:(ai.b .and .u8 (ai.n (.int .u8) b (ai.b .sub .i64 (b.length:Int) 1):Int) (ai.b .shr .u8 255 ((n.toNat%8:Nat):Int)) != 0)=!((List.range 8).all fun k=>decide (k<n.toNat%8) || !(b.getD (n.toNat/8) 0).toNat.testBit (7-k)):=by
      rw[←key]
      exact congrArg (fun z:Int=>(ai.b .and .u8 z (ai.b .shr .u8 255 ((n.toNat%8:Nat):Int)) != 0)) e
     refine Iff.trans (b:=((List.range 8).all fun k=>decide (k<n.toNat%8) || !(b.getD (n.toNat/8) 0).toNat.testBit (7-k))=true) ?_ ?_
     ·refine Iff.trans (b:=(bif !((List.range 8).all fun k=>decide (k<n.toNat%8) || !(b.getD (n.toNat/8) 0).toNat.testBit (7-k)) then(10:Int) else 0)=0) (by rw[←e2]) ?_
      cases (List.range 8).all fun k=>decide (k<n.toNat%8) || !(b.getD (n.toNat/8) 0).toNat.testBit (7-k)<;>simp
     ·rw[List.all_eq_true]
      constructor
      ·intro h
       refine⟨by omega,by omega,h2,hb,fun i h4 h5=>?_⟩
       have:=h (i%8) (List.mem_range.2 (Nat.mod_lt _ (by decide)))
       have hi:i/8=n.toNat/8:=by omega
       rw[eE,hi]
       simp only[Bool.or_eq_true,decide_eq_true_eq,Bool.not_eq_true'] at this
       rcases this with h6|h6
       ·omega
       ·exact h6
      ·intro ⟨_,_,_,_,h⟩ k hk
       have hk:=List.mem_range.1 hk
       by_cases h6:k<n.toNat%8
       ·simp[h6]
       ·have:=h (8*(n.toNat/8)+k) (by omega) (by omega)
        rw[eE,show(8*(n.toNat/8)+k)/8=n.toNat/8 from by omega,show(8*(n.toNat/8)+k)%8=k from by omega] at this
        rw[this];simp
   ·rw[show((b.length:Int) != (((n.toNat+7)/8:Nat):Int))=true from bne_iff_ne.2 (by omega),cond_true]
    constructor
    ·intro h;cases h
    ·intro h;exact absurd h.2.2.1 h2
theorem yR{x:Int×List Int}:iG x=0∨iG x=10:=by
 obtain⟨n,b⟩:=x
 exact LT.ki (p:=fun y=>y=0∨y=10) (.inl rfl) (by simp[L9,LT.all])
theorem ja{n:Int}{b:List Int}(hb:bE b)(hl:b.length≤140737488355328):iG (n,b)=bif bq (n,b) then 0 else 10:=by
 have h1:=BN (n:=n) hb hl
 rw[←fI hb] at h1
 rcases yR (x:=(n,b)) with h2|h2
 ·rw[h2,h1.1 h2];rfl
 ·have:bq (n,b)=false:=by
   rw[←Bool.not_eq_true]
   intro h3
   rw[h1.2 h3] at h2
   cases h2
  rw[h2,this];rfl
theorem cK{i:Nat}(h:i<4611686018427387904):ai.b .add .i64 (i:Int) 1=((i+1:Nat):Int):=by
 rw[dn,gh (by omega) (by omega)];rfl
theorem eZ{i j:Nat}(h:i+j<4611686018427387904):ai.b .add .i64 (i:Int) (j:Int)=((i+j:Nat):Int):=by
 rw[dn,gh (by omega) (by omega)];rfl
theorem aI{i j:Nat}:ai.c .lss (i:Int) (j:Int)=decide (i<j):=by
 rw[al];exact decide_eq_decide.2 Int.ofNat_lt
theorem iJ{i j:Nat}:ai.c .leq (i:Int) (j:Int)=decide (i≤j):=by
 rw[aF];exact decide_eq_decide.2 Int.ofNat_le
theorem fY{i:Nat}:ai.c .leq 0 (i:Int)=true:=by rw[aF];simp
theorem j3{i:Nat}(h:i≤4611686018427387904):ai.b .quo .i64 (i:Int) 8=((i/8:Nat):Int):=by
 rw[yX (by omega) (by omega)];rfl
theorem rp{i:Nat}:ai.b .rem .i64 (i:Int) 8=((i%8:Nat):Int):=by
 rw[yx (by omega)];rfl
theorem qo{u v:Int}(h:u=v):ai.c .eql u v=true:=by rw[aR,h];exact beq_self_eq_true _
theorem DO{u v:Int}(h:u≠v):ai.c .eql u v=false:=by rw[aR];exact beq_eq_false_iff_ne.2 h
theorem cn{u v:Int}(h:u=v):ai.c .neq u v=false:=by rw[aX,h];exact bne_self_eq_false _
theorem dX{u v:Int}(h:u≠v):ai.c .neq u v=true:=by rw[aX];exact bne_iff_ne.2 h
open Go.Ev.Pl
def EQ(A:bg)(b:List Int)(i:Int):LT Bool Empty:=.need (A.and (A.c .leq 0 (A.b .quo .i64 i 8)) (A.c .lss (A.b .quo .i64 i 8) (A.l b))) (.need (A.c .leq 0 (A.v .u64 (A.b .sub .i64 7 (A.b .rem .i64 i 8)))) (.ret (A.c .eql (A.b .rem .u8 (A.b .shr .u8 (A.n yU b (A.b .quo .i64 i 8):Int) (A.v .u64 (A.b .sub .i64 7 (A.b .rem .i64 i 8)))) 2) 1)))
def fT:(List Int×Int)→Bool:=fun(b,i)=>(EQ ai b i).val (Ty.da [.bool])
def ik:(List Int×Int)→Bool:=fun(b,i)=>decide (0≤i)&&decide (i<8*(b.length:Int))
def SN:aB:=⟨[yB,yI], [.bool],ik,fT⟩
theorem Ed:Sd 224 SN:=aJ ar cO true 26 [] (fun A (b,i)=>EQ A b i) (fc Tryz.func224 fz) sz (fun((b,i):List Int×Int) hp h=>by
 show(EQ ai b i).pre=true
 simp only[ik,Bool.and_eq_true,decide_eq_true_eq] at hp
 have hl:=Dh h
 simp only[EQ,LT.pre,aQ,aF,al,Bool.and_eq_true,decide_eq_true_eq,dF,bL,Bool.and_true]
 rw[yX hp.1 (by omega),yx hp.1,bH,gh (by omega) (by omega),BB (by omega) (by omega)]
 refine⟨⟨by omega,by omega⟩,by omega⟩)
theorem GQ:∀c:Fin 256,∀k:Fin 8,(ai.b .rem .u8 (ai.b .shr .u8 (c.val:Int) (IntKind.u64.wrap (7-(k.val:Int)))) 2==1)=c.val.testBit (7-k.val):=by decide +kernel
theorem kV{b:List Int}{i:Int}(hb:bE b)(h0:0≤i)(h1:i<4611686018427387904):fT (b,i)=eE b i.toNat:=by
 simp only[fT,EQ,LT.val,bL]
 rw[yX h0 (by omega),yx h0,bH,gh (by omega) (by omega)]
 have hx:=sJ hb (i.toNat/8)
 have key:=GQ ⟨(b.getD (i.toNat/8) 0).toNat,by omega⟩ ⟨i.toNat%8,Nat.mod_lt _ (by decide)⟩
 simp only at key
 rw[show(((b.getD (i.toNat/8) 0).toNat:Nat):Int)=b.getD (i.toNat/8) 0 from by omega] at key
 exact key
structure IM where
 (a1:Int) (a2:List Int)
inductive Ta where
 | c0 (p:IM) (a0:Int)
noncomputable def SL:Ta→fE
 | .c0 p a0=>⟨[⟨190,36,(en [(1,.ptr 0 0),(3,vi a0)]),[.inLoop (cw Tryz.f190 [1,1,0,1,0,0]),.inBlock 0,.code (cw Tryz.f190 [1,1,1])],[],none⟩],[.flat false [vi p.a1,.sl yU p.a2],.dead]⟩
def Uz(A:bg)(bN:Int)(bB:List Int):LT Int Ta:=.br (A.c .lss bN 0) (.ret 10) (.br (A.c .gtr bN 4096) (.ret 10) (.br (A.c .neq (A.l bB) (A.b .quo .i64 (A.b .add .i64 bN 7) 8)) (.ret 10) (.more (.c0 ⟨bN,bB⟩ bN))))
def Pd(A:bg):Ta→LT Int Ta
 | .c0 p a0=>.br (A.c .lss a0 (A.b .mul .i64 8 (A.l p.a2))) (.need (A.k ik (p.a2,a0)) (.br (A.k fT (p.a2,a0)) (.ret 10) (.more (.c0 p (A.b .add .i64 a0 1))))) (.ret 0)
theorem F3{n:Nat}{b:List Int}(p:IM)(hp:p.a2=b)(hb:bE b)(hl:b.length≤140737488355328):∀(j i:Nat),8*b.length-i=j→aC (Pd ai) (.more (.c0 p (i:Int))) (bif (List.range (8*b.length)).all (fun k=>decide (k<i) || !eE b k) then 0 else 10):=by
 subst hp
 intro j
 have hm:ai.b .mul .i64 8 (ai.l p.a2)=((8*p.a2.length:Nat):Int):=by
  show IntKind.i64.wrap (8*(p.a2.length:Int))=_
  rw[gh (by omega) (by omega)];omega
 induction j with
 | zero=>
   intro i hj
   rw[show((List.range (8*p.a2.length)).all fun k=>decide (k<i) || !eE p.a2 k)=true from by
    rw[List.all_eq_true];intro k hk;have:=List.mem_range.1 hk;simp;omega]
   simp only[ak,Pd,nF,hm,aI]
   rw[show decide (i<8*p.a2.length)=false from by simp;omega]
   exact .ret _
 | succ j ih=>
   intro i hj
   simp only[ak,Pd,nF,hm,aI]
   rw[show decide (i<8*p.a2.length)=true from by simp;omega]
   simp only[cond_true,af,ap]
   refine⟨by simp[ik];omega,?_⟩
   rw[kV hb (by omega) (by omega),Int.toNat_natCast,cK (by omega)]
   cases hbit:eE p.a2 i
   ·refine(ah rfl).2 ?_
    have:=ih (i+1) (by omega)
    have e:((List.range (8*p.a2.length)).all fun k=>decide (k<i) || !eE p.a2 k)=((List.range (8*p.a2.length)).all fun k=>decide (k<i+1) || !eE p.a2 k):=by
     rw[Bool.eq_iff_iff,List.all_eq_true,List.all_eq_true]
     constructor
     ·intro h k hk
      have:=h k hk
      simp at this ⊢
      rcases this with h1|h1
      ·exact .inl (by omega)
      ·exact .inr h1
     ·intro h k hk
      have:=h k hk
      simp at this ⊢
      by_cases hki:k=i
      ·subst hki;exact .inr hbit
      ·rcases this with h1|h1
       ·exact .inl (by omega)
       ·exact .inr h1
    rw[e]
    exact this
   ·refine(aj rfl).2 ?_
    rw[show((List.range (8*p.a2.length)).all fun k=>decide (k<i) || !eE p.a2 k)=false from by
     rw[List.all_eq_false];exact⟨i,List.mem_range.2 (by omega),by simp[hbit]⟩]
    exact .ret _
theorem Lq{n:Int}{b:List Int}(h:Ty.dH [(.struct [(.int .i64),(.slice (.int .u8))])] (n,b)):aC (Pd ai) (Uz ai n b) (bif bq (n,b) then 0 else 10):=by
 have hb:=(dM h).2.2
 have hl:=cZ h
 have hn:=(dM h).1
 unfold Uz
 rw[bq]
 by_cases h0:n<0
 ·refine(aj (by simpa [al] using h0)).2 ?_
  rw[show decide (0≤n)=false from by simp;omega]
  exact .ret _
 ·refine(ah (by simpa [al] using h0)).2 ?_
  by_cases h1:4096<n
  ·refine(aj (by simpa [aD] using h1)).2 ?_
   rw[show decide (n≤4096)=false from by simp;omega,Bool.and_false]
   exact .ret _
  ·refine(ah (by simpa [aD] using h1)).2 ?_
   rw[show decide (0≤n)=true from by simp;omega,show decide (n≤4096)=true from by simp;omega,dn,gh (by omega) (by omega),yX (by omega) (by omega),show(n+7).toNat/8=(n.toNat+7)/8 from by omega]
   by_cases h2:b.length=(n.toNat+7)/8
   ·refine(ah (cn (show(b.length:Int)=_ by rw[h2]))).2 ?_
    rw[show(b.length==(n.toNat+7)/8)=true from by simpa using h2]
    have:=F3 (n:=n.toNat) ⟨n,b⟩ rfl hb hl (8*b.length-n.toNat) n.toNat rfl
    rw[show((n.toNat:Nat):Int)=n from by omega] at this
    exact this
   ·refine(aj (dX (show(b.length:Int)≠_ by omega))).2 ?_
    rw[show(b.length==(n.toNat+7)/8)=false from by simpa using h2]
    simp only[Bool.and_false,Bool.false_and,cond_false]
    exact .ret _
def i_:((Int×List Int))→Int:=fun x=>bif bq x then 0 else 10
def Td:aB:=⟨[(.struct [yI,yB])], [yI],(@tt ((Int×List Int))),i_⟩
theorem GV:Sd 190 Td:=aH ar cO true 44 [⟨190,4, [[1,3]]⟩] [] (fun A (bN,bB)=>Uz A bN bB) Pd SL (fc Tryz.func190 fz) (sc Ed sz) (fun A y=>match y with |.c0 p a0=>⟨35,by kernel_rfl,by kernel_rfl⟩) fun(bN,bB) hp h=>Lq h
open Go.Ev.Pl
structure K3 where
 (a0 a1:Int) (a2:List Int)
structure CV where
 (b1:Int) (b2:List Int)
inductive BL where
 | c0 (p:K3)
 | c1 (p:CV) (b0:Int) (b3:List Bool)
noncomputable def J3:BL→fE
 | .c0 p=>⟨[⟨191,22,(en [(1,.ptr 0 0),(3,.dz true),(4,vi p.a0)]),[.inLoop (cw Tryz.f191 [1,1,1,0,1,0,0]),.inBlock 0,.code (cw Tryz.f191 [1,1,1,1])],[],none⟩],[.flat false [vi p.a1,.sl yU p.a2],.dead]⟩
 | .c1 p b0 b3=>⟨[⟨191,22,(en [(1,.ptr 0 0),(3,.own 1),(4,vi b0)]),[.inLoop (cw Tryz.f191 [1,1,1,0,1,0,0]),.inBlock 0,.code (cw Tryz.f191 [1,1,1,1])],[],none⟩],[.flat false [vi p.b1,.sl yU p.b2],.arr false .bool b3,.dead]⟩
def t127(A:bg)(bN:Int)(bB:List Int):LT (List Bool) BL:=.need (A.k (@tt ((Int×List Int))) (bN,bB)) (.br (A.c .neq (A.k i_ (bN,bB)) 0) (.ret ([]:List Bool)) (.more (.c0 ⟨0,bN,bB⟩)))
def zt(A:bg):BL→LT (List Bool) BL
 | .c0 p=>.br (A.c .lss p.a0 p.a1) (.need (A.k ik (p.a2,p.a0)) (.need (A.c .leq (A.l ([(A.k fT (p.a2,p.a0))]:List Bool)) 140737488355328) (.more (.c1 ⟨p.a1,p.a2⟩ (A.b .add .i64 p.a0 1) [(A.k fT (p.a2,p.a0))])))) (.ret ([]:List Bool))
 | .c1 p b0 b3=>.br (A.c .lss b0 p.b1) (.need (A.k ik (p.b2,b0)) (.need (A.c .leq (A.l (A.p b3 [(A.k fT (p.b2,b0))])) 140737488355328) (.more (.c1 p (A.b .add .i64 b0 1) (A.p b3 [(A.k fT (p.b2,b0))]))))) (.ret b3)
theorem aZ{R Y:Type}{step:Y→LT R Y}{t t':LT R Y}{r:R}(h:t=t')(h2:aC step t' r):aC step t r:=h▸h2
theorem BY{n:Nat}{b:List Int}(hb:bE b)(hl:b.length≤140737488355328)(hn:n≤4096)(hok:n≤8*b.length):∀(j i:Nat) (p:CV),p.b1=(n:Int)→p.b2=b→n-i=j→i≤n→aC (zt ai) (.more (.c1 p (i:Int) (unpack i b))) (unpack n b):=by
 intro j
 induction j with
 | zero=>
   intro i p h1 h2 hj hi
   have:i=n:=by omega
   subst this
   simp only[ak,zt,nF,h1,aI]
   rw[show decide (i<i)=false from by simp]
   exact .ret _
 | succ j ih=>
   intro i p h1 h2 hj hi
   simp only[ak,zt]
   refine(aj (by rw[h1,aI];simp;omega)).2 (af.2 ⟨?_,af.2 ⟨?_,?_⟩⟩)
   ·rw[h2,ap];simp[ik];omega
   ·show decide (((unpack i b ++ [_]).length:Int)≤140737488355328)=true
    rw[List.length_append,aP]
    simp;omega
   ·have e:(ai.p (unpack i b) [(ai.k fT (p.b2,(i:Int)))]:List Bool)=unpack (i+1) b:=by
     show unpack i b ++ [fT (p.b2,(i:Int))]=_
     rw[h2,kV hb (by omega) (by omega),pU,Int.toNat_natCast]
    exact aZ (congrArg LT.more (congr (congrArg (BL.c1 p) (cK (by omega))) e)) (ih (i+1) p h1 h2 (by omega) (by omega))
theorem Pn{n:Int}{b:List Int}(h:Ty.dH [(.struct [(.int .i64),(.slice (.int .u8))])] (n,b)):aC (zt ai) (t127 ai n b) (bif bq (n,b) then bC (n,b) else[]):=by
 have hb:=(dM h).2.2
 have hl:=cZ h
 unfold t127
 refine af.2 ⟨rfl,?_⟩
 cases hok:bq (n,b)
 ·refine(aj (show(i_ (n,b) != 0)=true by rw[i_,hok];rfl)).2 ?_
  exact .ret _
 ·refine(ah (show(i_ (n,b) != 0)=false by rw[i_,hok];rfl)).2 ?_
  obtain⟨h1,h2,h3⟩:=(fI hb).1 hok
  have h4:=h3.1
  rw[cond_true]
  simp only[ak,zt]
  show aC (zt ai) _ (unpack n.toNat b)
  by_cases h0:0<n
  ·refine(aj (by rw[al];simpa using h0)).2 (af.2 ⟨?_,af.2 ⟨rfl,?_⟩⟩)
   ·rw[ap];simp[ik];omega
   ·have e:([(ai.k fT (b,(0:Int)))]:List Bool)=unpack 1 b:=by
     show[fT (b,(0:Int))]=_
     rw[kV hb (by omega) (by omega)];rfl
    refine aZ (congrArg LT.more (congr (congrArg (BL.c1 ⟨n,b⟩) (cK (i:=0) (by omega))) e)) ?_
    exact BY hb hl (by omega) (by omega) (n.toNat-1) 1 ⟨n,b⟩ (by show n=_;omega) rfl (by omega) (by omega)
  ·refine(ah (by rw[al];simp;omega)).2 ?_
   rw[show n.toNat=0 from by omega]
   exact .ret _
def ji:((Int×List Int))→(List Bool):=fun x=>bif bq x then bC x else[]
def OE:aB:=⟨[(.struct [yI,yB])], [(.slice .bool)],(@tt ((Int×List Int))),ji⟩
theorem H_:Sd 191 OE:=aH ar cO true 31 [⟨191,5, [[1,3,4]]⟩] [] (fun A (bN,bB)=>t127 A bN bB) zt J3 (fc Tryz.func191 fz) (sc GV (sc Ed sz)) (fun A y=>match y with |.c0 p=>⟨34,by kernel_rfl,by kernel_rfl⟩|.c1 p b0 b3=>⟨34,by kernel_rfl,by kernel_rfl⟩) fun(bN,bB) hp h=>Pn h
structure DV where
 (a0:List Bool) (a2 a3:Int)
inductive Br where
 | c0 (p:DV) (a1:Int) (a4:List Int)
noncomputable def Kx:Br→fE
 | .c0 p a1 a4=>⟨[⟨192,42,(en [(0,.sl .bool p.a0),(2,.ptr 0 0),(4,.ptr 1 0),(5,vi a1)]),[.inLoop (cw Tryz.f192 [1,1,1,0,1,0,0]),.inBlock 0,.code (cw Tryz.f192 [1,1,1,1])],[],none⟩],[.flat false [vi p.a2,.dz true],.flat false [vi p.a3,.own 2],.arr false yU a4,.dead]⟩
def LK(A:bg)(l:List Bool):LT ((Int×List Int)×Int) Br:=.br (A.c .gtr (A.l l) 4096) (.ret ((0,([]:List Int)),3)) (.need (A.and (A.c .eql (A.b .quo .i64 (A.b .add .i64 (A.l l) 7) 8) (A.b .quo .i64 (A.b .add .i64 (A.l l) 7) 8)) (A.and (A.c .leq 0 (A.b .quo .i64 (A.b .add .i64 (A.l l) 7) 8)) (A.c .leq (A.b .quo .i64 (A.b .add .i64 (A.l l) 7) 8) 140737488355328))) (.more (.c0 ⟨l,0,(A.l l)⟩ 0 (A.r (A.b .quo .i64 (A.b .add .i64 (A.l l) 7) 8) (0:Int)))))
def Db(A:bg):Br→LT ((Int×List Int)×Int) Br
 | .c0 p a1 a4=>.br (A.c .lss a1 (A.l p.a0)) (.need (A.and (A.c .leq 0 a1) (A.c .lss a1 (A.l p.a0))) (.br (A.n .bool p.a0 a1:Bool) (.need (A.and (A.c .leq 0 (A.b .quo .i64 a1 8)) (A.c .lss (A.b .quo .i64 a1 8) (A.l a4))) (.need (A.c .leq 0 (A.v .u64 (A.b .sub .i64 7 (A.b .rem .i64 a1 8)))) (.need (A.and (A.c .leq 0 (A.b .quo .i64 a1 8)) (A.c .lss (A.b .quo .i64 a1 8) (A.l a4))) (.more (.c0 p (A.b .add .i64 a1 1) (A.set a4 (A.b .quo .i64 a1 8) (A.b .or .u8 (A.n yU a4 (A.b .quo .i64 a1 8):Int) (A.b .shl .u8 1 (A.v .u64 (A.b .sub .i64 7 (A.b .rem .i64 a1 8))))))))))) (.more (.c0 p (A.b .add .i64 a1 1) a4)))) (.ret ((p.a3,a4),0))
theorem GA:∀c:Fin 256,∀k:Fin 8,ai.b .or .u8 (c.val:Int) (ai.b .shl .u8 1 (IntKind.u64.wrap (7-(k.val:Int))))=((c.val ||| 128 >>> k.val:Nat):Int):=by decide +kernel
theorem FQ:∀c:Fin 256,∀k:Fin 8,ai.b .or .u8 (c.val:Int) ((128 >>> k.val:Nat):Int)=((c.val ||| 128 >>> k.val:Nat):Int):=by decide +kernel
theorem GN{B:List Int}{l:List Bool}{m i:Nat}(h:Holds B l m)(hi:l.length=i)(h1:i<8*m)(hm:m≤100000) :
  Holds (ai.set B (ai.b .quo .i64 (i:Int) 8) (ai.b .or .u8 (ai.n (.int .u8) B (ai.b .quo .i64 (i:Int) 8):Int) (ai.b .shl .u8 1 (ai.v .u64 (ai.b .sub .i64 7 (ai.b .rem .i64 (i:Int) 8)))))) (l ++ [true]) m:=by
 rw[j3 (by omega),rp,bH,gh (by omega) (by omega),bL]
 have key:=GA ⟨(B.getD (i/8) 0).toNat,ox h.2.1 _⟩ ⟨i%8,Nat.mod_lt _ (by decide)⟩
 simp only at key
 rw[show(((B.getD (i/8) 0).toNat:Nat):Int)=B.getD (i/8) 0 from Int.toNat_of_nonneg (sJ h.2.1 _).1] at key
 have:=h.set (by omega)
 rw[hi] at this
 rw[←key] at this
 exact this
theorem xU{B:List Int}{l:List Bool}{m i:Nat}(h:Holds B l m)(hi:l.length=i)(h1:i<8*m)(hm:m≤100000) :
  Holds (ai.set B (ai.b .quo .i64 (i:Int) 8) (ai.b .or .u8 (ai.n (.int .u8) B (ai.b .quo .i64 (i:Int) 8):Int) (ai.k sF (i:Int)))) (l ++ [true]) m:=by
 rw[j3 (by omega),ap,xd (by omega),Int.toNat_natCast]
 have key:=FQ ⟨(B.getD (i/8) 0).toNat,ox h.2.1 _⟩ ⟨i%8,Nat.mod_lt _ (by decide)⟩
 simp only at key
 rw[show(((B.getD (i/8) 0).toNat:Nat):Int)=B.getD (i/8) 0 from Int.toNat_of_nonneg (sJ h.2.1 _).1] at key
 have:=h.set (by omega)
 rw[hi] at this
 rw[←key] at this
 exact this
theorem lX{l:List Bool}{i:Nat}(h:i<l.length):l.take (i+1)=l.take i ++ [l.getD i false]:=by
 rw[List.take_succ_eq_append_getElem h,List.getD_eq_getElem?_getD,List.getElem?_eq_getElem h];rfl
theorem GL{l:List Bool}(hl:l.length≤4096):∀(j i:Nat) (p:DV) (B:List Int),p.a0=l→p.a3=(l.length:Int)→l.length-i=j→i≤l.length→Holds B (l.take i) ((l.length+7)/8)→aC (Db ai) (.more (.c0 p (i:Int) B)) (bJ l,0):=by
 intro j
 induction j with
 | zero=>
   intro i p B h1 h2 hj hi hB
   have:i=l.length:=by omega
   subst this
   simp only[ak,Db]
   have hlen:ai.l p.a0=(l.length:Int):=by rw[h1];rfl
   refine(ah (by rw[hlen,aI];simp)).2 ?_
   rw[List.take_length] at hB
   rw[h2,hB.done rfl]
   exact .ret _
 | succ j ih=>
   intro i p B h1 h2 hj hi hB
   simp only[ak,Db]
   have hlen:ai.l p.a0=(l.length:Int):=by rw[h1];rfl
   have hlb:ai.l B=(((l.length+7)/8:Nat):Int):=by rw[←hB.1];rfl
   have hq:(ai.and (ai.c .leq 0 (ai.b .quo .i64 (i:Int) 8)) (ai.c .lss (ai.b .quo .i64 (i:Int) 8) (ai.l B)))=true:=by
    rw[j3 (by omega),hlb,fY,aI,aQ];simp;omega
   have htl:(l.take i).length=i:=by rw[List.length_take];omega
   refine(aj (by rw[hlen,aI];simp;omega)).2 (af.2 ⟨by rw[fY,hlen,aI,aQ];simp;omega,?_⟩)
   have hb:(ai.n .bool p.a0 (i:Int):Bool)=l.getD i false:=by
    show p.a0.getD (i:Int).toNat false=_
    rw[h1,Int.toNat_natCast]
   have hts:=lX (l:=l) (i:=i) (by omega)
   cases hx:l.getD i false
   ·rw[hx] at hts
    refine(ah (hb.trans hx)).2 ?_
    exact aZ (congrArg LT.more (congr (congrArg (Br.c0 p) (cK (by omega))) rfl)) (ih (i+1) p B h1 h2 (by omega) (by omega) (hts▸hB.skip))
   ·rw[hx] at hts
    refine(aj (hb.trans hx)).2 (af.2 ⟨hq,af.2 ⟨?_,af.2 ⟨hq,?_⟩⟩⟩)
    ·rw[rp,bH,gh (by omega) (by omega),bL,BB (by omega) (by omega),aF];simp;omega
    ·exact aZ (congrArg LT.more (congr (congrArg (Br.c0 p) (cK (by omega))) rfl)) (ih (i+1) p _ h1 h2 (by omega) (by omega) (hts▸GN hB htl (by omega) (by omega)))
theorem V8{l:List Bool}:aC (Db ai) (LK ai l) (tY l):=by
 unfold LK
 have hlen:ai.l l=(l.length:Int):=rfl
 rw[tY]
 by_cases hl:4096<l.length
 ·refine(aj (by rw[hlen,aD];simp;omega)).2 ?_
  rw[show decide (4096<l.length)=true from by simpa using hl]
  exact .ret _
 ·have hq:ai.b .quo .i64 (ai.b .add .i64 (ai.l l) 7) 8=(((l.length+7)/8:Nat):Int):=by
   rw[hlen,show ai.b .add .i64 (l.length:Int) 7=((l.length+7:Nat):Int) from eZ (j:=7) (by omega),j3 (by omega)]
  refine(ah (by rw[hlen,aD];simp;omega)).2 (af.2 ⟨?_,?_⟩)
  ·rw[hq,fY,qo rfl,aF,aQ,aQ];simp;omega
  ·rw[show decide (4096<l.length)=false from by simpa using hl]
   refine GL (by omega) l.length 0 _ _ rfl rfl (by omega) (by omega) ?_
   rw[hq,l9,Int.toNat_natCast]
   exact Holds.blank _
def qk:(List Bool)→((Int×List Int)×Int):=tY
def RB:aB:=⟨[(.slice .bool)], [(.struct [yI,yB]),yI],(@tt (List Bool)),qk⟩
theorem Ix:Sd 192 RB:=aH ar cO true 40 [⟨192,5, [[0,2,4,5]]⟩] [] (fun A l=>LK A l) Db Kx (fc Tryz.func192 fz) sz (fun A y=>match y with |.c0 p a1 a4=>⟨48,by kernel_rfl,by kernel_rfl⟩) fun l hp h=>V8
open Go.Ev.Pl
structure Dm where
 (a0 a1 a2:Int)
structure EK where
 (b0 b1 b2 b3:Int) (b4:List Int) (b5:Int)
structure FD where
 (c0 c2:Int)
structure EA where
 (d1 d2 d3:Int) (d4:List Int) (d6:Int)
inductive xX where
 | c0 (p:Dm)
 | c1 (p:EK)
 | c2 (p:FD) (c1:Int) (c3:List Bool)
 | c3 (p:EA) (d0:Int) (d5:List Bool)
noncomputable def KL:xX→fE
 | .c0 p=>⟨[⟨188,53,(en [(1,.int .u64 false p.a0),(6,.ptr 0 0),(8,.dz true),(9,vi p.a1)]),[.inLoop (cw Tryz.f188 [1,1,1,1,0,1,0,0]),.inBlock 0,.code (cw Tryz.f188 [1,1,1,1,1])],[],none⟩],[.flat false [vi p.a2,.dz true],.dead]⟩
 | .c1 p=>⟨[⟨191,22,(en [(1,.ptr 0 0),(3,.dz true),(4,vi p.b0)]),[.inLoop (cw Tryz.f191 [1,1,1,0,1,0,0]),.inBlock 0,.code (cw Tryz.f191 [1,1,1,1])],[],none⟩,⟨188,53,(en [(1,.int .u64 false p.b1),(2,vi p.b2),(6,.ptr 1 0)]),[.ops (ow Tryz.f188 [1,1,1,0]) ((ow Tryz.f188 [1,1,1,0]).toList.drop 1),.code (cw Tryz.f188 [1,1,1,1])],[],none⟩],[.flat false [vi p.b3,.sl yU p.b4],.flat false [vi p.b5,.dz true],.dead]⟩
 | .c2 p c1 c3=>⟨[⟨188,53,(en [(1,.int .u64 false p.c0),(6,.ptr 0 0),(8,.own 1),(9,vi c1)]),[.inLoop (cw Tryz.f188 [1,1,1,1,0,1,0,0]),.inBlock 0,.code (cw Tryz.f188 [1,1,1,1,1])],[],none⟩],[.flat false [vi p.c2,.dz true],.arr false .bool c3,.dead]⟩
 | .c3 p d0 d5=>⟨[⟨191,22,(en [(1,.ptr 0 0),(3,.own 1),(4,vi d0)]),[.inLoop (cw Tryz.f191 [1,1,1,0,1,0,0]),.inBlock 0,.code (cw Tryz.f191 [1,1,1,1])],[],none⟩,⟨188,53,(en [(1,.int .u64 false p.d1),(2,vi p.d2),(6,.ptr 2 0)]),[.ops (ow Tryz.f188 [1,1,1,0]) ((ow Tryz.f188 [1,1,1,0]).toList.drop 1),.code (cw Tryz.f188 [1,1,1,1])],[],none⟩],[.flat false [vi p.d3,.sl yU p.d4],.arr false .bool d5,.flat false [vi p.d6,.dz true],.dead]⟩
def J6(A:bg)(bN:Int)(bB:List Int)(v:Int)(width:Int):LT ((Int×List Int)×Int) xX:=.need (A.k (@tt ((Int×List Int))) (bN,bB)) (.br (A.c .neq (A.k i_ (bN,bB)) 0) (.ret ((0,([]:List Int)),10)) (.br (A.c .lss width 0) (.ret ((0,([]:List Int)),2)) (.br (A.c .gtr width 64) (.ret ((0,([]:List Int)),2)) (.br (A.c .lss width 64) (.need (A.c .leq 0 (A.v .u64 width)) (.br (A.c .neq (A.b .shr .u64 v (A.v .u64 width)) 0) (.ret ((0,([]:List Int)),2)) (.need (A.k (@tt ((Int×List Int))) (bN,bB)) (.br (A.c .neq (A.k i_ (bN,bB)) 0) (.more (.c0 ⟨v,(A.b .sub .i64 width 1),0⟩)) (.more (.c1 ⟨0,v,width,bN,bB,0⟩)))))) (.need (A.k (@tt ((Int×List Int))) (bN,bB)) (.br (A.c .neq (A.k i_ (bN,bB)) 0) (.more (.c0 ⟨v,(A.b .sub .i64 width 1),0⟩)) (.more (.c1 ⟨0,v,width,bN,bB,0⟩))))))))
def ob(A:bg):xX→LT ((Int×List Int)×Int) xX
 | .c0 p=>.br (A.c .geq p.a1 0) (.need (A.c .leq 0 (A.v .u64 p.a1)) (.need (A.c .leq (A.l ([(A.c .eql (A.b .rem .u64 (A.b .shr .u64 p.a0 (A.v .u64 p.a1)) 2) 1)]:List Bool)) 140737488355328) (.more (.c2 ⟨p.a0,p.a2⟩ (A.b .sub .i64 p.a1 1) [(A.c .eql (A.b .rem .u64 (A.b .shr .u64 p.a0 (A.v .u64 p.a1)) 2) 1)])))) (.need (A.k (@tt (List Bool)) ([]:List Bool)) (.ret (A.k qk ([]:List Bool))))
 | .c1 p=>.br (A.c .lss p.b0 p.b3) (.need (A.k ik (p.b4,p.b0)) (.need (A.c .leq (A.l ([(A.k fT (p.b4,p.b0))]:List Bool)) 140737488355328) (.more (.c3 ⟨p.b1,p.b2,p.b3,p.b4,p.b5⟩ (A.b .add .i64 p.b0 1) [(A.k fT (p.b4,p.b0))])))) (.more (.c0 ⟨p.b1,(A.b .sub .i64 p.b2 1),p.b5⟩))
 | .c2 p c1 c3=>.br (A.c .geq c1 0) (.need (A.c .leq 0 (A.v .u64 c1)) (.need (A.c .leq (A.l (A.p c3 [(A.c .eql (A.b .rem .u64 (A.b .shr .u64 p.c0 (A.v .u64 c1)) 2) 1)])) 140737488355328) (.more (.c2 p (A.b .sub .i64 c1 1) (A.p c3 [(A.c .eql (A.b .rem .u64 (A.b .shr .u64 p.c0 (A.v .u64 c1)) 2) 1)]))))) (.need (A.k (@tt (List Bool)) c3) (.ret (A.k qk c3)))
 | .c3 p d0 d5=>.br (A.c .lss d0 p.d3) (.need (A.k ik (p.d4,d0)) (.need (A.c .leq (A.l (A.p d5 [(A.k fT (p.d4,d0))])) 140737488355328) (.more (.c3 p (A.b .add .i64 d0 1) (A.p d5 [(A.k fT (p.d4,d0))]))))) (.more (.c2 ⟨p.d1,p.d6⟩ (A.b .sub .i64 p.d2 1) d5))
theorem zY{a:Int}{n:Nat}(h:0≤a)(hn:n≤64):ai.b .shr .u64 a (n:Int)=((a.toNat/2^n:Nat):Int):=by
 show a.fdiv (2^min (n:Int).toNat 64)=_
 obtain⟨m,rfl⟩:=Int.eq_ofNat_of_zero_le h
 rw[Int.toNat_natCast,Nat.min_eq_left hn,Int.fdiv_eq_ediv_of_nonneg _ (Int.pow_nonneg (by decide))]
 simp
theorem Ee{a:Int}{n:Nat}(h:0≤a)(hn:n≤32):ai.b .shr .u32 a (n:Int)=((a.toNat/2^n:Nat):Int):=by
 show a.fdiv (2^min (n:Int).toNat 32)=_
 obtain⟨m,rfl⟩:=Int.eq_ofNat_of_zero_le h
 rw[Int.toNat_natCast,Nat.min_eq_left hn,Int.fdiv_eq_ediv_of_nonneg _ (Int.pow_nonneg (by decide))]
 simp
theorem dd{n:Nat}(h:n<4611686018427387904):ai.v .u64 (n:Int)=(n:Int):=by rw[bL,BB (by omega) (by omega)]
theorem xF{k:IntKind}{m:Nat}:ai.c .eql (ai.b .rem k (m:Int) 2) 1=decide (m%2=1):=by
 show((m:Int).tmod 2==1)=_
 rw[Int.tmod_eq_emod_of_nonneg (by omega),Bool.eq_iff_iff]
 simp only[beq_iff_eq,decide_eq_true_eq]
 omega
theorem AL{v:Int}{k:Nat}(h:0≤v)(hk:k≤64):ai.c .eql (ai.b .rem .u64 (ai.b .shr .u64 v (ai.v .u64 (k:Int))) 2) 1=v.toNat.testBit k:=by
 rw[dd (by omega),zY h hk,xF,Nat.testBit_eq_decide_div_mod_eq]
theorem D6{m:Nat}:ai.c .eql (ai.b .and .u64 (m:Int) 1) 1=decide (m%2=1):=by
 show(IntKind.u64.wrap ((BitVec.ofInt 64 (m:Int) &&& BitVec.ofInt 64 1).toNat:Int)==1)=_
 rw[BitVec.ofInt_natCast,show BitVec.ofInt 64 1=BitVec.ofNat 64 1 from rfl,BitVec.toNat_and,BitVec.toNat_ofNat,BitVec.toNat_ofNat,show 1%2^64=1 from rfl,Nat.and_one_is_mod,BB (by omega) (by omega),Bool.eq_iff_iff]
 simp only[beq_iff_eq,decide_eq_true_eq]
 omega
theorem Fa{v:Int}{k:Nat}(h:0≤v)(hk:k≤64):ai.c .eql (ai.b .and .u64 (ai.b .shr .u64 v (k:Int)) 1) 1=v.toNat.testBit k:=by
 rw[zY h hk,D6,Nat.testBit_eq_decide_div_mod_eq]
theorem ko{i j:Nat}(h:j≤i)(hi:i<4611686018427387904):ai.b .sub .i64 (i:Int) (j:Int)=((i-j:Nat):Int):=by
 rw[bH,gh (by omega) (by omega)];omega
theorem qw(v k:Nat):bitsOf v (k+1)=v.testBit k::bitsOf v k:=by
 rw[bitsOf,List.range_succ_eq_map,List.map_cons,List.map_map]
 congr 1
 apply List.map_congr_left
 intro a _
 show v.testBit (k+1-1-(a+1))=v.testBit (k-1-a)
 congr 1;omega
theorem rv{v:Int}{w:Nat}(h:0≤v):decide ((2:Int)^w≤v)=(((v.toNat/2^w:Nat):Int) != 0):=by
 obtain⟨m,rfl⟩:=Int.eq_ofNat_of_zero_le h
 rw[Int.toNat_natCast,Bool.eq_iff_iff]
 have h2:(2:Int)^w=((2^w:Nat):Int):=by simp
 rw[h2,decide_eq_true_eq,bne_iff_ne]
 have hp:=Nat.two_pow_pos w
 constructor
 ·intro h3
  have:1≤m/2^w:=(Nat.le_div_iff_mul_le hp).2 (by omega)
  omega
 ·intro h3
  have:1≤m/2^w:=Nat.pos_of_ne_zero fun h=>h3 (by rw[h];rfl)
  have:=(Nat.le_div_iff_mul_le hp).1 this
  omega
theorem Ab{n v w:Int}{b:List Int}(h:Ty.dH [(.struct [(.int .i64),(.slice (.int .u8))]),(.int .u64),(.int .i64)] ((n,b),v,w)):Ty.has (.struct [(.int .i64),(.slice (.int .u8))]) (n,b)∧(0≤v∧v≤18446744073709551615)∧(-9223372036854775808≤w∧w≤9223372036854775807):=h
theorem Dk{v:Int}(hv:0≤v):∀(k:Nat) (c1:Int) (c3:List Bool) (p:FD),p.c0=v→c1=(k:Int)-1→k≤64→c3.length+k≤4200→aC (ob ai) (.more (.c2 p c1 c3)) (tY (c3++bitsOf v.toNat k)):=by
 intro k
 induction k with
 | zero=>
   intro c1 c3 p h1 h2 _ _
   simp only[ak,ob]
   refine(ah (by rw[aK,h2];decide)).2 (af.2 ⟨rfl,?_⟩)
   rw[show bitsOf v.toNat 0=[] from rfl,List.append_nil]
   exact .ret _
 | succ k ih=>
   intro c1 c3 p h1 h2 hk hl
   have h3:c1=(k:Int):=by omega
   subst h3
   simp only[ak,ob]
   refine(aj (by rw[aK];simp)).2 (af.2 ⟨by rw[dd (by omega),fY],af.2 ⟨?_,?_⟩⟩)
   ·show decide (((c3 ++ [_]).length:Int)≤140737488355328)=true
    rw[List.length_append];simp;omega
   ·have e:(ai.p c3 [(ai.c .eql (ai.b .rem .u64 (ai.b .shr .u64 p.c0 (ai.v .u64 (k:Int))) 2) 1)]:List Bool)=c3 ++ [v.toNat.testBit k]:=by
     show c3 ++ [_]=_
     rw[h1,AL hv (by omega)]
    have:=ih ((k:Int)-1) (c3 ++ [v.toNat.testBit k]) p h1 rfl (by omega) (by rw[List.length_append];simp;omega)
    rw[List.append_assoc,show[v.toNat.testBit k]++bitsOf v.toNat k=bitsOf v.toNat (k+1) from by rw[qw];rfl] at this
    exact aZ (congrArg LT.more (congr (congrArg (xX.c2 p) (show ai.b .sub .i64 (k:Int) 1=(k:Int)-1 by rw[bH,gh (by omega) (by omega)])) e)) this
theorem Lg{v:Int}(hv:0≤v){k:Nat}(p:Dm)(h1:p.a0=v)(h2:p.a1=(k:Int)-1)(hk:k≤64):aC (ob ai) (.more (.c0 p)) (tY (bitsOf v.toNat k)):=by
 cases k with
 | zero=>
   simp only[ak,ob]
   refine(ah (by rw[aK,h2];decide)).2 (af.2 ⟨rfl,?_⟩)
   exact .ret _
 | succ k=>
   have h3:p.a1=(k:Int):=by omega
   simp only[ak,ob,h3]
   refine(aj (by rw[aK];simp)).2 (af.2 ⟨by rw[dd (by omega),fY],af.2 ⟨rfl,?_⟩⟩)
   have e:([(ai.c .eql (ai.b .rem .u64 (ai.b .shr .u64 p.a0 (ai.v .u64 (k:Int))) 2) 1)]:List Bool)=[v.toNat.testBit k]:=by
    rw[h1,AL hv (by omega)]
   have:=Dk hv k ((k:Int)-1) [v.toNat.testBit k] ⟨p.a0,p.a2⟩ h1 rfl (by omega) (by simp;omega)
   rw[show[v.toNat.testBit k]++bitsOf v.toNat k=bitsOf v.toNat (k+1) from by rw[qw];rfl] at this
   exact aZ (congrArg LT.more (congr (congrArg (xX.c2 ⟨p.a0,p.a2⟩) (show ai.b .sub .i64 (k:Int) 1=(k:Int)-1 by rw[bH,gh (by omega) (by omega)])) e)) this
theorem JS{v:Int}{n w:Nat}{b:List Int}(hv:0≤v)(hb:bE b)(hl:b.length≤140737488355328)(hn:n≤4096)(hw:w≤64)(hok:n≤8*b.length):∀(j i:Nat) (p:EA),p.d1=v→p.d2=(w:Int)→p.d3=(n:Int)→p.d4=b→n-i=j→i≤n→aC (ob ai) (.more (.c3 p (i:Int) (unpack i b))) (tY (unpack n b++bitsOf v.toNat w)):=by
 intro j
 induction j with
 | zero=>
   intro i p h1 h2 h3 h4 hj hi
   have:i=n:=by omega
   subst this
   simp only[ak,ob]
   refine(ah (by rw[h3,aI];simp)).2 ?_
   rw[h2,bH,gh (by omega) (by omega)]
   exact Dk hv w _ _ _ h1 rfl hw (by rw[aP];omega)
 | succ j ih=>
   intro i p h1 h2 h3 h4 hj hi
   simp only[ak,ob]
   refine(aj (by rw[h3,aI];simp;omega)).2 (af.2 ⟨?_,af.2 ⟨?_,?_⟩⟩)
   ·rw[h4,ap];simp[ik];omega
   ·show decide (((unpack i b ++ [_]).length:Int)≤140737488355328)=true
    rw[List.length_append,aP]
    simp;omega
   ·have e:(ai.p (unpack i b) [(ai.k fT (p.d4,(i:Int)))]:List Bool)=unpack (i+1) b:=by
     show unpack i b ++ [fT (p.d4,(i:Int))]=_
     rw[h4,kV hb (by omega) (by omega),pU,Int.toNat_natCast]
    exact aZ (congrArg LT.more (congr (congrArg (xX.c3 p) (cK (by omega))) e)) (ih (i+1) p h1 h2 h3 h4 (by omega) (by omega))
theorem Lp{v:Int}{n w:Nat}{b:List Int}(hv:0≤v)(hb:bE b)(hl:b.length≤140737488355328)(hn:n≤4096)(hw:w≤64)(hok:n≤8*b.length)(p:EK)(h0:p.b0=0)(h1:p.b1=v)(h2:p.b2=(w:Int))(h3:p.b3=(n:Int))(h4:p.b4=b):aC (ob ai) (.more (.c1 p)) (tY (unpack n b++bitsOf v.toNat w)):=by
 simp only[ak,ob,h0]
 by_cases hz:n=0
 ·refine(ah (by rw[h3,hz];rfl)).2 ?_
  rw[hz]
  exact Lg hv _ h1 (by show ai.b .sub .i64 p.b2 1=_;rw[h2,bH,gh (by omega) (by omega)]) hw
 ·refine(aj (by rw[h3,al];simp;omega)).2 (af.2 ⟨?_,af.2 ⟨rfl,?_⟩⟩)
  ·rw[h4,ap];simp[ik];omega
  ·have e:([(ai.k fT (p.b4,(0:Int)))]:List Bool)=unpack 1 b:=by
    show[fT (p.b4,(0:Int))]=_
    rw[h4,kV hb (by omega) (by omega)];rfl
   refine aZ (congrArg LT.more (congr (congrArg (xX.c3 _) (cK (i:=0) (by omega))) e)) ?_
   exact JS hv hb hl hn hw hok (n-1) 1 _ h1 h2 h3 h4 (by omega) (by omega)
theorem U5{n v w:Int}{b:List Int}(h:Ty.dH [(.struct [(.int .i64),(.slice (.int .u8))]),(.int .u64),(.int .i64)] ((n,b),v,w)):aC (ob ai) (J6 ai n b v w) (wi ((n,b),v,w)):=by
 obtain⟨h1,hv,hw⟩:=Ab h
 have hb:=(dM h1).2.2
 have hl:=cZ h1
 unfold J6
 rw[wi]
 refine af.2 ⟨rfl,?_⟩
 cases hok:bq (n,b)
 ·refine(aj (show(i_ (n,b) != 0)=true by rw[i_,hok];rfl)).2 ?_
  exact .ret _
 ·refine(ah (show(i_ (n,b) != 0)=false by rw[i_,hok];rfl)).2 ?_
  obtain⟨h2,h3,h4⟩:=(fI hb).1 hok
  have h5:=h4.1
  rw[Bool.not_true,cond_false]
  by_cases h6:w<0
  ·refine(aj (by rw[al];simpa using h6)).2 ?_
   rw[show decide (w<0)=true from by simpa using h6]
   exact .ret _
  ·refine(ah (by rw[al];simpa using h6)).2 ?_
   by_cases h7:64<w
   ·refine(aj (by rw[aD];simpa using h7)).2 ?_
    rw[show decide (64<w)=true from by simpa using h7,Bool.or_true,Bool.true_or]
    exact .ret _
   ·refine(ah (by rw[aD];simpa using h7)).2 ?_
    rw[show decide (w<0)=false from by simpa using h6,show decide (64<w)=false from by simpa using h7,Bool.false_or,Bool.false_or,rv hv.1]
    obtain⟨k,rfl⟩:=Int.eq_ofNat_of_zero_le (show 0≤w by omega)
    rw[Int.toNat_natCast]
    have hfin:(((v.toNat/2^k:Nat):Int) != 0)=false→aC (ob ai) (.need (ai.k (@tt ((Int×List Int))) (n,b)) (.br (ai.c .neq (ai.k i_ (n,b)) 0) (.more (.c0 ⟨v,(ai.b .sub .i64 (k:Int) 1),0⟩)) (.more (.c1 ⟨0,v,(k:Int),n,b,0⟩)))) (bif ((v.toNat/2^k:Nat):Int) != 0 then(zB,2) else tY (bC (n,b)++bitsOf v.toNat k)):=by
     intro hz
     rw[hz,cond_false]
     refine af.2 ⟨rfl,(ah (show(i_ (n,b) != 0)=false by rw[i_,hok];rfl)).2 ?_⟩
     exact Lp (n:=n.toNat) hv.1 hb hl (by omega) (by omega) (by omega) _ rfl rfl rfl (show n=_ by omega) rfl
    by_cases h8:k<64
    ·refine(aj (by rw[al];simp;omega)).2 (af.2 ⟨by rw[dd (by omega),fY],?_⟩)
     rw[dd (by omega),zY hv.1 (by omega)]
     cases hz:(((v.toNat/2^k:Nat):Int) != 0)
     ·refine(ah hz).2 ?_
      rw[←hz]
      exact hfin hz
     ·refine(aj hz).2 ?_
      exact .ret _
    ·refine(ah (by rw[al];simp;omega)).2 (hfin ?_)
     have:k=64:=by omega
     subst this
     rw[Nat.div_eq_of_lt (by omega)];rfl
def dV:((Int×List Int)×Int×Int)→((Int×List Int)×Int):=wi
def Ob:aB:=⟨[(.struct [yI,yB]),(.int .u64),yI], [(.struct [yI,yB]),yI],(@tt ((Int×List Int)×Int×Int)),dV⟩
theorem Ep:Sd 188 Ob:=aH ar cO true 81 [⟨188,7, [[1,6,8,9]]⟩,⟨191,5, [[1,3,4], [1,2,6]]⟩] [] (fun A ((bN,bB),v,width)=>J6 A bN bB v width) ob KL (fc Tryz.func188 (fc Tryz.func191 fz)) (sc GV (sc Ix (sc Ed sz))) (fun A y=>match y with |.c0 p=>⟨34,by kernel_rfl,by kernel_rfl⟩|.c1 p=>⟨34,by kernel_rfl,by kernel_rfl⟩|.c2 p c1 c3=>⟨34,by kernel_rfl,by kernel_rfl⟩|.c3 p d0 d5=>⟨34,by kernel_rfl,by kernel_rfl⟩) fun((bN,bB),v,width) hp h=>U5 h
open Go.Ev.Pl
structure EH where
 (a0 a1 a2 a4:Int) (a5:List Int) (a6 a7:Int)
inductive zm where
 | c0 (p:EH) (a3:Int) (a8:List Int)
noncomputable def K8:zm→fE
 | .c0 p a3 a8=>⟨[⟨249,63,(en [(1,.int .u64 false p.a0),(2,vi p.a1),(3,.ptr 0 0),(6,.ptr 1 0),(8,.ptr 2 0),(43,vi p.a2),(44,vi a3)]),[.inLoop (cw Tryz.f249 [1,1,1,0,1,0,0]),.inBlock 1,.code (cw Tryz.f249 [1,1,1,1])],[],none⟩],[.flat false [vi p.a4,.sl yU p.a5],.flat false [vi p.a6,.dz true],.flat false [vi p.a7,.own 3],.arr false yU a8,.dead]⟩
def I1(A:bg)(bN:Int)(bB:List Int)(v:Int)(width:Int):LT ((Int×List Int)×Int) zm:=.need (A.k (@tt ((Int×List Int))) (bN,bB)) (.br (A.c .neq (A.k iG (bN,bB)) 0) (.ret ((0,([]:List Int)),10)) (.br (A.c .lss width 0) (.ret ((0,([]:List Int)),2)) (.br (A.c .gtr width 64) (.ret ((0,([]:List Int)),2)) (.br (A.c .lss width 64) (.need (A.c .leq 0 width) (.br (A.c .neq (A.b .shr .u64 v width) 0) (.ret ((0,([]:List Int)),2)) (.br (A.c .gtr width (A.b .sub .i64 4096 bN)) (.ret ((0,([]:List Int)),3)) (.need (A.k (@tt Int) (A.b .add .i64 bN width)) (.need (A.and (A.c .eql (A.k cB (A.b .add .i64 bN width)) (A.k cB (A.b .add .i64 bN width))) (A.and (A.c .leq 0 (A.k cB (A.b .add .i64 bN width))) (A.c .leq (A.k cB (A.b .add .i64 bN width)) 140737488355328))) (.more (.c0 ⟨v,width,width,bN,bB,0,(A.b .add .i64 bN width)⟩ 0 (A.spl (A.r (A.k cB (A.b .add .i64 bN width)) (0:Int)) 0 (A.s bB 0 (A.mn (A.l bB) (A.l (A.r (A.k cB (A.b .add .i64 bN width)) (0:Int))))))))))))) (.br (A.c .gtr width (A.b .sub .i64 4096 bN)) (.ret ((0,([]:List Int)),3)) (.need (A.k (@tt Int) (A.b .add .i64 bN width)) (.need (A.and (A.c .eql (A.k cB (A.b .add .i64 bN width)) (A.k cB (A.b .add .i64 bN width))) (A.and (A.c .leq 0 (A.k cB (A.b .add .i64 bN width))) (A.c .leq (A.k cB (A.b .add .i64 bN width)) 140737488355328))) (.more (.c0 ⟨v,width,width,bN,bB,0,(A.b .add .i64 bN width)⟩ 0 (A.spl (A.r (A.k cB (A.b .add .i64 bN width)) (0:Int)) 0 (A.s bB 0 (A.mn (A.l bB) (A.l (A.r (A.k cB (A.b .add .i64 bN width)) (0:Int)))))))))))))))
def BR(A:bg):zm→LT ((Int×List Int)×Int) zm
 | .c0 p a3 a8=>.br (A.c .lss a3 p.a2) (.need (A.c .leq 0 (A.b .sub .i64 (A.b .sub .i64 p.a1 1) a3)) (.br (A.c .eql (A.b .and .u64 (A.b .shr .u64 p.a0 (A.b .sub .i64 (A.b .sub .i64 p.a1 1) a3)) 1) 1) (.need (A.and (A.c .leq 0 (A.b .quo .i64 (A.b .add .i64 p.a4 a3) 8)) (A.c .lss (A.b .quo .i64 (A.b .add .i64 p.a4 a3) 8) (A.l a8))) (.need (A.k kY (A.b .add .i64 p.a4 a3)) (.need (A.and (A.c .leq 0 (A.b .quo .i64 (A.b .add .i64 p.a4 a3) 8)) (A.c .lss (A.b .quo .i64 (A.b .add .i64 p.a4 a3) 8) (A.l a8))) (.more (.c0 p (A.b .add .i64 a3 1) (A.set a8 (A.b .quo .i64 (A.b .add .i64 p.a4 a3) 8) (A.b .or .u8 (A.n yU a8 (A.b .quo .i64 (A.b .add .i64 p.a4 a3) 8):Int) (A.k sF (A.b .add .i64 p.a4 a3))))))))) (.more (.c0 p (A.b .add .i64 a3 1) a8)))) (.ret ((p.a7,a8),0))
theorem yt{v w k:Nat}(h:k<w):(bitsOf v w).getD k false=v.testBit (w-1-k):=by
 rw[List.getD_eq_getElem?_getD,bitsOf,List.getElem?_map,List.getElem?_range h];rfl
theorem nH{B:List Int}{m i:Nat}(hB:B.length=m)(hi:i<8*m)(hm:m≤100000):(ai.and (ai.c .leq 0 (ai.b .quo .i64 (i:Int) 8)) (ai.c .lss (ai.b .quo .i64 (i:Int) 8) (ai.l B)))=true:=by
 have hlb:ai.l B=(m:Int):=by rw[←hB];rfl
 rw[j3 (by omega),hlb,fY,aI,aQ];simp;omega
theorem uZ{i:Nat}:ai.k kY (i:Int)=true:=by rw[ap];simp[kY]
theorem Pr{v:Int}{n w:Nat}{b:List Int}(hv:0≤v)(hn:n+w≤4096)(hw:w≤64):∀(j k:Nat) (p:EH) (B:List Int),p.a0=v→p.a1=(w:Int)→p.a2=(w:Int)→p.a4=(n:Int)→p.a7=((n+w:Nat):Int)→w-k=j→k≤w→Holds B (unpack n b++(bitsOf v.toNat w).take k) ((n+w+7)/8)→aC (BR ai) (.more (.c0 p (k:Int) B)) (bJ (unpack n b++bitsOf v.toNat w),0):=by
 intro j
 induction j with
 | zero=>
   intro k p B h1 h2 h3 h4 h5 hj hk hB
   have:k=w:=by omega
   subst this
   simp only[ak,BR]
   refine(ah (by rw[h3,aI];simp)).2 ?_
   rw[List.take_of_length_le (by rw[aA];exact Nat.le_refl _)] at hB
   have hl:(unpack n b++bitsOf v.toNat k).length=n+k:=by rw[List.length_append,aP,aA]
   rw[h5,hB.done (by rw[hl])]
   rw[show bJ (unpack n b++bitsOf v.toNat k)=(((n+k:Nat):Int),pack (unpack n b++bitsOf v.toNat k)) from by rw[bJ,hl]]
   exact .ret _
 | succ j ih=>
   intro k p B h1 h2 h3 h4 h5 hj hk hB
   simp only[ak,BR]
   have hsh:ai.b .sub .i64 (ai.b .sub .i64 p.a1 1) (k:Int)=((w-1-k:Nat):Int):=by
    rw[h2,show ai.b .sub .i64 (w:Int) 1=((w-1:Nat):Int) from ko (j:=1) (by omega) (by omega),ko (by omega) (by omega)]
   have hat:ai.b .add .i64 p.a4 (k:Int)=((n+k:Nat):Int):=by rw[h4,eZ (by omega)]
   have hlen:(unpack n b++(bitsOf v.toNat w).take k).length=n+k:=by rw[List.length_append,aP,List.length_take,aA];omega
   have hts:=lX (l:=bitsOf v.toNat w) (i:=k) (by rw[aA];omega)
   rw[yt (by omega)] at hts
   refine(aj (by rw[h3,aI];simp;omega)).2 (af.2 ⟨by rw[hsh,fY],?_⟩)
   rw[hsh,h1,Fa hv (by omega),hat]
   cases hx:v.toNat.testBit (w-1-k)
   ·rw[hx] at hts
    refine(ah rfl).2 ?_
    refine aZ (congrArg LT.more (congr (congrArg (zm.c0 p) (cK (by omega))) rfl)) (ih (k+1) p B h1 h2 h3 h4 h5 (by omega) (by omega) ?_)
    rw[hts,←List.append_assoc]
    exact hB.skip
   ·rw[hx] at hts
    refine(aj rfl).2 (af.2 ⟨nH hB.1 (by omega) (by omega),af.2 ⟨uZ,af.2 ⟨nH hB.1 (by omega) (by omega),?_⟩⟩⟩)
    refine aZ (congrArg LT.more (congr (congrArg (zm.c0 p) (cK (by omega))) rfl)) (ih (k+1) p _ h1 h2 h3 h4 h5 (by omega) (by omega) ?_)
    rw[hts,←List.append_assoc]
    exact xU hB hlen (by omega) (by omega)
theorem grow{n w:Nat}{b:List Int}(h:okB n b)(hw:n+w≤100000):Holds (ai.spl (ai.r (ai.k cB ((n+w:Nat):Int)) (0:Int)) 0 (ai.s b 0 (ai.mn (ai.l b) (ai.l (ai.r (ai.k cB ((n+w:Nat):Int)) (0:Int)))))) (unpack n b) ((n+w+7)/8):=by
 have h1:=h.1
 rw[ap,kW (by omega) (by omega),Int.toNat_natCast]
 have e1:ai.r ((((n+w+7)/8:Nat):Nat):Int) (0:Int)=List.replicate ((n+w+7)/8) 0:=by rw[l9,Int.toNat_natCast]
 rw[e1]
 have e2:ai.mn (ai.l b) (ai.l (List.replicate ((n+w+7)/8) (0:Int)))=(b.length:Int):=by
  rw[y5]
  show(if ((List.replicate ((n+w+7)/8) (0:Int)).length:Int)<(b.length:Int) then _ else(b.length:Int))=_
  rw[List.length_replicate,if_neg (by omega)]
 rw[e2,kR,oA]
 have e3:(b.take (b.length:Int).toNat).drop (0:Int).toNat=b:=by
  rw[Int.toNat_natCast,List.take_length];rfl
 rw[e3]
 have:=Holds.grown (m:=(n+w+7)/8) h (by omega)
 rw[show(0:Int).toNat=0 from rfl,List.take_zero,List.nil_append,Nat.zero_add,List.drop_replicate]
 exact this
theorem Tv{n v w:Int}{b:List Int}(h:Ty.dH [(.struct [(.int .i64),(.slice (.int .u8))]),(.int .u64),(.int .i64)] ((n,b),v,w)):aC (BR ai) (I1 ai n b v w) (wi ((n,b),v,w)):=by
 obtain⟨h1,hv,hw⟩:=Ab h
 have hb:=(dM h1).2.2
 have hl:=cZ h1
 unfold I1
 rw[wi]
 refine af.2 ⟨rfl,?_⟩
 have hc:ai.c .neq (ai.k iG (n,b)) 0=!bq (n,b):=by
  rw[ap,ja hb hl];cases bq (n,b)<;>rfl
 rw[hc]
 cases hok:bq (n,b)
 ·exact(aj rfl).2 (.ret _)
 ·refine(ah rfl).2 ?_
  obtain⟨h2,h3,h4⟩:=(fI hb).1 hok
  have h5:=h4.1
  rw[Bool.not_true,cond_false]
  by_cases h6:w<0
  ·refine(aj (by rw[al];simpa using h6)).2 ?_
   rw[show decide (w<0)=true from by simpa using h6]
   exact .ret _
  ·refine(ah (by rw[al];simpa using h6)).2 ?_
   by_cases h7:64<w
   ·refine(aj (by rw[aD];simpa using h7)).2 ?_
    rw[show decide (64<w)=true from by simpa using h7,Bool.or_true,Bool.true_or]
    exact .ret _
   ·refine(ah (by rw[aD];simpa using h7)).2 ?_
    rw[show decide (w<0)=false from by simpa using h6,show decide (64<w)=false from by simpa using h7,Bool.false_or,Bool.false_or,rv hv.1]
    obtain⟨k,rfl⟩:=Int.eq_ofNat_of_zero_le (show 0≤w by omega)
    obtain⟨m,rfl⟩:=Int.eq_ofNat_of_zero_le h2
    rw[Int.toNat_natCast] at h4 h5 ⊢
    have hadd:ai.b .add .i64 (m:Int) (k:Int)=((m+k:Nat):Int):=eZ (by omega)
    have hneed:ai.k cB ((m+k:Nat):Int)=(((m+k+7)/8:Nat):Int):=by rw[ap,kW (by omega) (by omega),Int.toNat_natCast]
    have hlen:(bC ((m:Int),b)++bitsOf v.toNat k).length=m+k:=by rw[List.length_append,fQ,aA,Int.toNat_natCast]
    have hfin:(((v.toNat/2^k:Nat):Int) != 0)=false→∀t,t=(LT.br (ai.c .gtr (k:Int) (ai.b .sub .i64 4096 (m:Int))) (.ret ((0,([]:List Int)),3)) (.need (ai.k (@tt Int) (ai.b .add .i64 (m:Int) (k:Int))) (.need (ai.and (ai.c .eql (ai.k cB (ai.b .add .i64 (m:Int) (k:Int))) (ai.k cB (ai.b .add .i64 (m:Int) (k:Int)))) (ai.and (ai.c .leq 0 (ai.k cB (ai.b .add .i64 (m:Int) (k:Int)))) (ai.c .leq (ai.k cB (ai.b .add .i64 (m:Int) (k:Int))) 140737488355328))) (.more (.c0 ⟨v,(k:Int),(k:Int),(m:Int),b,0,(ai.b .add .i64 (m:Int) (k:Int))⟩ 0 (ai.spl (ai.r (ai.k cB (ai.b .add .i64 (m:Int) (k:Int))) (0:Int)) 0 (ai.s b 0 (ai.mn (ai.l b) (ai.l (ai.r (ai.k cB (ai.b .add .i64 (m:Int) (k:Int))) (0:Int)))))))))):LT ((Int×List Int)×Int) zm)→aC (BR ai) t (bif ((v.toNat/2^k:Nat):Int) != 0 then(zB,2) else tY (bC ((m:Int),b)++bitsOf v.toNat k)):=by
     intro hz t ht
     rw[hz,cond_false,ht,tY,hlen,hadd,show ai.b .sub .i64 (4096:Int) (m:Int)=((4096-m:Nat):Int) from ko (i:=4096) (by omega) (by omega)]
     by_cases h9:4096<m+k
     ·rw[show decide (4096<m+k)=true from by simpa using h9]
      refine(aj (by rw[aD];simp;omega)).2 (.ret _)
     ·rw[show decide (4096<m+k)=false from by simpa using h9]
      refine(ah (by rw[aD];simp;omega)).2 (af.2 ⟨rfl,af.2 ⟨?_,?_⟩⟩)
      ·rw[hneed,fY,qo rfl,aF,aQ,aQ];simp;omega
      ·refine Pr hv.1 (by omega) (by omega) k 0 _ _ rfl rfl rfl rfl rfl rfl (by omega) ?_
       rw[List.take_zero,List.append_nil]
       exact grow h4 (by omega)
    by_cases h8:k<64
    ·refine(aj (by rw[al];simp;omega)).2 (af.2 ⟨fY,?_⟩)
     rw[zY hv.1 (by omega)]
     cases hz:(((v.toNat/2^k:Nat):Int) != 0)
     ·refine(ah hz).2 ?_
      rw[←hz]
      exact hfin hz _ rfl
     ·exact(aj hz).2 (.ret _)
    ·refine(ah (by rw[al];simp;omega)).2 (hfin ?_ _ rfl)
     have:k=64:=by omega
     subst this
     rw[Nat.div_eq_of_lt (by omega)];rfl
def kQ:((Int×List Int)×Int×Int)→((Int×List Int)×Int):=wi
def Qt:aB:=⟨[(.struct [yI,yB]),(.int .u64),yI], [(.struct [yI,yB]),yI],(@tt ((Int×List Int)×Int×Int)),kQ⟩
theorem Qn:Sd 249 Qt:=aH ar cO true 114 [⟨249,9, [[1,2,3,6,8,43,44]]⟩] [] (fun A ((bN,bB),v,width)=>I1 A bN bB v width) BR K8 (fc Tryz.func249 (fc Tryz.func258 (fc Tryz.func259 (fc Tryz.func261 fz)))) (sc zv (sc C_ (sc Fp sz))) (fun A y=>match y with |.c0 p a3 a8=>⟨63,by kernel_rfl,by kernel_rfl⟩) fun((bN,bB),v,width) hp h=>Tv h
open Go.Ev.Pl
structure Cc where
 (a0 a2 a4:Int) (a5:List Int)
inductive Gz where
 | c0 (p:Cc) (a1:Int) (a3:Int)
noncomputable def JQ:Gz→fE
 | .c0 p a1 a3=>⟨[⟨247,54,(en [(1,vi p.a0),(3,.ptr 0 0),(8,.int .u64 false a1),(39,vi p.a2),(40,vi a3)]),[.inLoop (cw Tryz.f247 [1,1,1,0,1,0,0]),.inBlock 1,.code (cw Tryz.f247 [1,1,1,1])],[],none⟩],[.flat false [vi p.a4,.sl yU p.a5],.dead]⟩
def t138(A:bg)(bN:Int)(bB:List Int)(at1:Int)(width:Int):LT (Int×Int) Gz:=.need (A.k (@tt ((Int×List Int))) (bN,bB)) (.br (A.c .neq (A.k iG (bN,bB)) 0) (.ret (0,10)) (.br (A.c .lss width 0) (.ret (0,2)) (.br (A.c .gtr width 64) (.ret (0,2)) (.br (A.c .lss at1 0) (.ret (0,2)) (.br (A.c .gtr at1 bN) (.ret (0,2)) (.br (A.c .gtr width (A.b .sub .i64 bN at1)) (.ret (0,2)) (.more (.c0 ⟨at1,width,bN,bB⟩ 0 0))))))))
def Fo(A:bg):Gz→LT (Int×Int) Gz
 | .c0 p a1 a3=>.br (A.c .lss a3 p.a2) (.need (A.k o9 ((p.a4,p.a5),(A.b .add .i64 p.a0 a3))) (.br (A.k s8 ((p.a4,p.a5),(A.b .add .i64 p.a0 a3))) (.more (.c0 p (A.b .or .u64 (A.b .shl .u64 a1 1) 1) (A.b .add .i64 a3 1))) (.more (.c0 p (A.b .shl .u64 a1 1) (A.b .add .i64 a3 1))))) (.ret (a1,0))
theorem Du{l:List Bool}{a k:Nat}(h:a+k<l.length):bf l a (k+1)=2*bf l a k+(l.getD (a+k) false).toNat:=by
 rw[bf,bf,lX (by rw[List.length_drop];omega),mW,getD_drop]
theorem Pw{k:Nat}(h:k≤64):2^k≤18446744073709551616:=Nat.le_trans (Nat.pow_le_pow_right (by decide) h) (by decide)
theorem xu{x:Nat}(h:2*x<18446744073709551616):ai.b .shl .u64 (x:Int) 1=((2*x:Nat):Int):=by
 show IntKind.u64.wrap ((x:Int)*2^min (1:Int).toNat 64)=_
 rw[show(2:Int)^min (1:Int).toNat 64=2 from rfl,BB (by omega) (by omega)];omega
theorem Gn{x:Nat}(h:2*x<18446744073709551616):ai.b .or .u64 ((2*x:Nat):Int) 1=((2*x+1:Nat):Int):=by
 show IntKind.u64.wrap ((BitVec.ofInt 64 ((2*x:Nat):Int) ||| BitVec.ofInt 64 1).toNat:Int)=_
 rw[BitVec.ofInt_natCast,show BitVec.ofInt 64 1=BitVec.ofNat 64 1 from rfl,BitVec.toNat_or,BitVec.toNat_ofNat,BitVec.toNat_ofNat,show 1%2^64=1 from rfl,Nat.mod_eq_of_lt (by omega)]
 have:=Nat.shiftLeft_add_eq_or_of_lt (i:=1) (b:=1) (by decide) x
 rw[Nat.shiftLeft_eq,Nat.pow_one,Nat.mul_comm x 2] at this
 rw[←this,BB (by omega) (by omega)]
theorem zT{n a w:Int}{b:List Int}(h:Ty.dH [(.struct [(.int .i64),(.slice (.int .u8))]),(.int .i64),(.int .i64)] ((n,b),a,w)):Ty.has (.struct [(.int .i64),(.slice (.int .u8))]) (n,b)∧(-9223372036854775808≤a∧a≤9223372036854775807)∧(-9223372036854775808≤w∧w≤9223372036854775807):=h
theorem Rt{n a w:Nat}{b:List Int}(hb:bE b)(hl:b.length≤100000)(hn:n≤8*b.length)(haw:a+w≤n)(hw:w≤64):∀(j k:Nat) (p:Cc),p.a0=(a:Int)→p.a2=(w:Int)→p.a5=b→w-k=j→k≤w→aC (Fo ai) (.more (.c0 p ((bf (unpack n b) a k:Nat):Int) (k:Int))) (((bf (unpack n b) a w:Nat):Int),0):=by
 intro j
 induction j with
 | zero=>
   intro k p h1 h2 h3 hj hk
   have:k=w:=by omega
   subst this
   simp only[ak,Fo]
   exact(ah (by rw[h2,aI];simp)).2 (.ret _)
 | succ j ih=>
   intro k p h1 h2 h3 hj hk
   simp only[ak,Fo]
   have hat:ai.b .add .i64 p.a0 (k:Int)=((a+k:Nat):Int):=by rw[h1,eZ (by omega)]
   have hf:=dJ (unpack n b) a k
   have hp:=Pw (k:=k+1) (by omega)
   rw[Nat.pow_succ] at hp
   have hs:=Du (l:=unpack n b) (a:=a) (k:=k) (by rw[aP];omega)
   rw[jh,show decide (a+k<n)=true from by simp;omega,Bool.true_and] at hs
   refine(aj (by rw[h2,aI];simp;omega)).2 (af.2 ⟨by rw[hat,h3,ap];simp[o9];omega,?_⟩)
   have hc:ai.k s8 ((p.a4,p.a5),ai.b .add .i64 p.a0 (k:Int))=eE b (a+k):=by
    rw[hat,h3,ap,xH hb (by omega) (by omega) (by omega),Int.toNat_natCast]
   have hm:=ih (k+1) p h1 h2 h3 (by omega) (by omega)
   cases hx:eE b (a+k)
   ·rw[hx] at hs
    refine(ah (hc.trans hx)).2 ?_
    rw[hs,show 2*bf (unpack n b) a k+false.toNat=2*bf (unpack n b) a k from rfl,←xu (by omega),←cK (by omega)] at hm
    exact hm
   ·rw[hx] at hs
    refine(aj (hc.trans hx)).2 ?_
    rw[hs,show 2*bf (unpack n b) a k+true.toNat=2*bf (unpack n b) a k+1 from rfl,←Gn (by omega),←xu (by omega),←cK (by omega)] at hm
    exact hm
theorem T3{n a w:Int}{b:List Int}(h:Ty.dH [(.struct [(.int .i64),(.slice (.int .u8))]),(.int .i64),(.int .i64)] ((n,b),a,w)):aC (Fo ai) (t138 ai n b a w) (AX ((n,b),a,w)):=by
 obtain⟨h1,ha,hw⟩:=zT h
 have hb:=(dM h1).2.2
 have hl:=cZ h1
 unfold t138
 rw[AX]
 refine af.2 ⟨rfl,?_⟩
 have hc:ai.c .neq (ai.k iG (n,b)) 0=!bq (n,b):=by
  rw[ap,ja hb hl];cases bq (n,b)<;>rfl
 rw[hc]
 cases hok:bq (n,b)
 ·exact(aj rfl).2 (.ret _)
 ·refine(ah rfl).2 ?_
  obtain⟨h2,h3,h4⟩:=(fI hb).1 hok
  have h5:=h4.1
  rw[Bool.not_true,cond_false]
  by_cases h6:w<0
  ·refine(aj (by rw[al];simpa using h6)).2 ?_
   rw[show decide (w<0)=true from by simpa using h6]
   exact .ret _
  refine(ah (by rw[al];simpa using h6)).2 ?_
  by_cases h7:64<w
  ·refine(aj (by rw[aD];simpa using h7)).2 ?_
   rw[show decide (64<w)=true from by simpa using h7]
   simp only[Bool.or_true,Bool.true_or]
   exact .ret _
  refine(ah (by rw[aD];simpa using h7)).2 ?_
  by_cases h8:a<0
  ·refine(aj (by rw[al];simpa using h8)).2 ?_
   rw[show decide (a<0)=true from by simpa using h8]
   simp only[Bool.or_true,Bool.true_or]
   exact .ret _
  refine(ah (by rw[al];simpa using h8)).2 ?_
  rw[show decide (w<0)=false from by simpa using h6,show decide (64<w)=false from by simpa using h7,show decide (a<0)=false from by simpa using h8]
  by_cases h9:n<a
  ·refine(aj (by rw[aD];simpa using h9)).2 ?_
   rw[show decide (n<a+w)=true from by simp;omega]
   exact .ret _
  refine(ah (by rw[aD];simpa using h9)).2 ?_
  rw[bH,gh (by omega) (by omega)]
  by_cases h10:n<a+w
  ·refine(aj (by rw[aD];simp;omega)).2 ?_
   rw[show decide (n<a+w)=true from by simpa using h10]
   exact .ret _
  refine(ah (by rw[aD];simp;omega)).2 ?_
  rw[show decide (n<a+w)=false from by simpa using h10]
  obtain⟨k,rfl⟩:=Int.eq_ofNat_of_zero_le (show 0≤w by omega)
  obtain⟨i,rfl⟩:=Int.eq_ofNat_of_zero_le (show 0≤a by omega)
  exact Rt (n:=n.toNat) hb (by omega) (by omega) (by omega) (by omega) k 0 _ rfl rfl rfl (by omega) (by omega)
def ay:((Int×List Int)×Int×Int)→(Int×Int):=AX
def NH:aB:=⟨[(.struct [yI,yB]),yI,yI], [(.int .u64),yI],(@tt ((Int×List Int)×Int×Int)),ay⟩
theorem AP:Sd 247 NH:=aH ar cO true 65 [⟨247,7, [[1,3,8,39,40]]⟩] [] (fun A ((bN,bB),at1,width)=>t138 A bN bB at1 width) Fo JQ (fc Tryz.func247 fz) (sc zv (sc IJ sz)) (fun A y=>match y with |.c0 p a1 a3=>⟨45,by kernel_rfl,by kernel_rfl⟩) fun((bN,bB),at1,width) hp h=>T3 h
open Go.Ev.Pl
structure EV where
 (a0 a1 a2 a4 a5:Int) (a6:List Int) (a7 a8:Int)
inductive A6 where
 | c0 (p:EV) (a3:Int) (a9:List Int)
noncomputable def Lk:A6→fE
 | .c0 p a3 a9=>⟨[⟨262,52,(en [(1,vi p.a0),(3,vi p.a1),(4,vi p.a2),(5,.ptr 0 0),(7,.ptr 1 0),(10,vi a3)]),[.inLoop (cw Tryz.f262 [1,1,1,0,0]),.inBlock 0],[],none⟩,⟨251,39,(en [(6,.ptr 2 0),(8,.ptr 3 0)]),[.ops (ow Tryz.f251 [1,1,1,0]) ((ow Tryz.f251 [1,1,1,0]).toList.drop 4),.code (cw Tryz.f251 [1,1,1,1])],[],none⟩],[.flat false [vi p.a4,.own 4],.flat false [vi p.a5,.sl yU p.a6],.flat false [vi p.a7,.dz true],.flat false [vi p.a8,.own 4],.arr false yU a9,.dead]⟩
def Jz(A:bg)(bN:Int)(bB:List Int)(from1:Int)(to:Int):LT ((Int×List Int)×Int) A6:=.need (A.k (@tt ((Int×List Int))) (bN,bB)) (.br (A.c .neq (A.k iG (bN,bB)) 0) (.ret ((0,([]:List Int)),10)) (.br (A.c .lss from1 0) (.ret ((0,([]:List Int)),2)) (.br (A.c .lss to from1) (.ret ((0,([]:List Int)),2)) (.br (A.c .gtr to bN) (.ret ((0,([]:List Int)),2)) (.need (A.k (@tt Int) (A.b .sub .i64 to from1)) (.need (A.and (A.c .eql (A.k cB (A.b .sub .i64 to from1)) (A.k cB (A.b .sub .i64 to from1))) (A.and (A.c .leq 0 (A.k cB (A.b .sub .i64 to from1))) (A.c .leq (A.k cB (A.b .sub .i64 to from1)) 140737488355328))) (.br (A.c .eql (A.b .rem .i64 from1 8) 0) (.br (A.c .eql to bN) (.need (A.and (A.c .leq 0 0) (A.and (A.c .leq 0 (A.l (A.r (A.k cB (A.b .sub .i64 to from1)) (0:Int)))) (A.c .leq (A.l (A.r (A.k cB (A.b .sub .i64 to from1)) (0:Int))) (A.l (A.r (A.k cB (A.b .sub .i64 to from1)) (0:Int)))))) (.need (A.and (A.c .leq 0 (A.b .quo .i64 from1 8)) (A.and (A.c .leq (A.b .quo .i64 from1 8) (A.l bB)) (A.c .leq (A.l bB) (A.l bB)))) (.ret (((A.b .sub .i64 to from1),(A.spl (A.r (A.k cB (A.b .sub .i64 to from1)) (0:Int)) 0 (A.s (A.s bB (A.b .quo .i64 from1 8) (A.l bB)) 0 (A.mn (A.l (A.s bB (A.b .quo .i64 from1 8) (A.l bB))) (A.b .sub .i64 (A.l (A.r (A.k cB (A.b .sub .i64 to from1)) (0:Int))) 0))))),0)))) (.more (.c0 ⟨0,from1,to,(A.b .sub .i64 to from1),bN,bB,0,(A.b .sub .i64 to from1)⟩ from1 (A.r (A.k cB (A.b .sub .i64 to from1)) (0:Int))))) (.more (.c0 ⟨0,from1,to,(A.b .sub .i64 to from1),bN,bB,0,(A.b .sub .i64 to from1)⟩ from1 (A.r (A.k cB (A.b .sub .i64 to from1)) (0:Int)))))))))))
def zd(A:bg):A6→LT ((Int×List Int)×Int) A6
 | .c0 p a3 a9=>.br (A.c .lss a3 p.a2) (.need (A.k o9 ((p.a5,p.a6),a3)) (.br (A.k s8 ((p.a5,p.a6),a3)) (.need (A.and (A.c .leq 0 (A.b .quo .i64 (A.b .sub .i64 (A.b .add .i64 p.a0 a3) p.a1) 8)) (A.c .lss (A.b .quo .i64 (A.b .sub .i64 (A.b .add .i64 p.a0 a3) p.a1) 8) (A.l a9))) (.need (A.k kY (A.b .sub .i64 (A.b .add .i64 p.a0 a3) p.a1)) (.need (A.and (A.c .leq 0 (A.b .quo .i64 (A.b .sub .i64 (A.b .add .i64 p.a0 a3) p.a1) 8)) (A.c .lss (A.b .quo .i64 (A.b .sub .i64 (A.b .add .i64 p.a0 a3) p.a1) 8) (A.l a9))) (.more (.c0 p (A.b .add .i64 a3 1) (A.set a9 (A.b .quo .i64 (A.b .sub .i64 (A.b .add .i64 p.a0 a3) p.a1) 8) (A.b .or .u8 (A.n yU a9 (A.b .quo .i64 (A.b .sub .i64 (A.b .add .i64 p.a0 a3) p.a1) 8):Int) (A.k sF (A.b .sub .i64 (A.b .add .i64 p.a0 a3) p.a1))))))))) (.more (.c0 p (A.b .add .i64 a3 1) a9)))) (.ret ((p.a8,a9),0))
theorem G3{n a c:Nat}{b:List Int}(hb:bE b)(hl:b.length≤100000)(hn:n≤8*b.length)(hac:a≤c)(hc:c≤n):∀(j i:Nat) (p:EV) (B:List Int),p.a0=0→p.a1=(a:Int)→p.a2=(c:Int)→p.a6=b→p.a8=((c-a:Nat):Int)→c-i=j→a≤i→i≤c→Holds B ((((unpack n b).take c).drop a).take (i-a)) ((c-a+7)/8)→aC (zd ai) (.more (.c0 p (i:Int) B)) (bJ (((unpack n b).take c).drop a),0):=by
 have hL:(((unpack n b).take c).drop a).length=c-a:=by rw[List.length_drop,List.length_take,aP];omega
 intro j
 induction j with
 | zero=>
   intro i p B h0 h1 h2 h3 h4 hj hi hi2 hB
   have:i=c:=by omega
   subst this
   simp only[ak,zd]
   refine(ah (by rw[h2,aI];simp)).2 ?_
   rw[List.take_of_length_le (by rw[hL];exact Nat.le_refl _)] at hB
   rw[h4,hB.done (by rw[hL]),show bJ (((unpack n b).take i).drop a)=(((i-a:Nat):Int),pack (((unpack n b).take i).drop a)) from by rw[bJ,hL]]
   exact .ret _
 | succ j ih=>
   intro i p B h0 h1 h2 h3 h4 hj hi hi2 hB
   simp only[ak,zd]
   have hat:ai.b .sub .i64 (ai.b .add .i64 p.a0 (i:Int)) p.a1=((i-a:Nat):Int):=by
    rw[h0,h1,show ai.b .add .i64 (0:Int) (i:Int)=((0+i:Nat):Int) from eZ (i:=0) (by omega),ko (by omega) (by omega),Nat.zero_add]
   have hts:=lX (l:=((unpack n b).take c).drop a) (i:=i-a) (by rw[hL];omega)
   rw[getD_drop,getD_take,jh,show a+(i-a)=i from by omega,show decide (i<c)=true from by simp;omega,show decide (i<n)=true from by simp;omega,Bool.true_and,Bool.true_and] at hts
   have hlen:((((unpack n b).take c).drop a).take (i-a)).length=i-a:=by rw[List.length_take,hL];omega
   refine(aj (by rw[h2,aI];simp;omega)).2 (af.2 ⟨by rw[h3,ap];simp[o9];omega,?_⟩)
   have hc:ai.k s8 ((p.a5,p.a6),(i:Int))=eE b i:=by
    rw[h3,ap,xH hb (by omega) (by omega) (by omega),Int.toNat_natCast]
   rw[hat]
   cases hx:eE b i
   ·rw[hx] at hts
    refine(ah (hc.trans hx)).2 ?_
    refine aZ (congrArg LT.more (congr (congrArg (A6.c0 p) (cK (by omega))) rfl)) (ih (i+1) p B h0 h1 h2 h3 h4 (by omega) (by omega) (by omega) ?_)
    rw[show i+1-a=i-a+1 from by omega,hts]
    exact hB.skip
   ·rw[hx] at hts
    refine(aj (hc.trans hx)).2 (af.2 ⟨nH hB.1 (by omega) (by omega),af.2 ⟨uZ,af.2 ⟨nH hB.1 (by omega) (by omega),?_⟩⟩⟩)
    refine aZ (congrArg LT.more (congr (congrArg (A6.c0 p) (cK (by omega))) rfl)) (ih (i+1) p _ h0 h1 h2 h3 h4 (by omega) (by omega) (by omega) ?_)
    rw[show i+1-a=i-a+1 from by omega,hts]
    exact xU hB hlen (by omega) (by omega)
theorem Bh(b:List Int)(i j:Nat):eE (b.drop i) j=eE b (8*i+j):=by
 rw[eE,eE,List.getD_eq_getElem?_getD,List.getD_eq_getElem?_getD,List.getElem?_drop,show(8*i+j)/8=i+j/8 from by omega,show(8*i+j)%8=j%8 from by omega]
theorem BU{n i:Nat}{b:List Int}(h:okB n b)(hi:8*i≤n):b.drop i=pack ((unpack n b).drop (8*i)):=by
 have h1:=h.1
 apply Az
 ·rw[List.length_drop,List.length_drop,aP];omega
 ·exact fun x hx=>h.2.1 x (List.mem_of_mem_drop hx)
 ·intro j hj
  rw[List.length_drop] at hj
  rw[Bh,getD_drop,jh]
  by_cases h2:8*i+j<n
  ·rw[show decide (8*i+j<n)=true from by simpa using h2,Bool.true_and]
  ·rw[show decide (8*i+j<n)=false from by simpa using h2,Bool.false_and]
   exact h.2.2 _ (by omega) (by omega)
theorem GK{b:List Int}{i:Nat}:ai.s b (i:Int) (ai.l b)=b.drop i:=by
 show(b.take (b.length:Int).toNat).drop (i:Int).toNat=_
 rw[Int.toNat_natCast,Int.toNat_natCast,List.take_length]
theorem J4{n a c:Int}{b:List Int}(h:Ty.dH [(.struct [(.int .i64),(.slice (.int .u8))]),(.int .i64),(.int .i64)] ((n,b),a,c)):aC (zd ai) (Jz ai n b a c) (bU ((n,b),a,c)):=by
 obtain⟨h1,ha,hw⟩:=zT h
 have hb:=(dM h1).2.2
 have hl:=cZ h1
 unfold Jz
 rw[bU]
 refine af.2 ⟨rfl,?_⟩
 have hc:ai.c .neq (ai.k iG (n,b)) 0=!bq (n,b):=by
  rw[ap,ja hb hl];cases bq (n,b)<;>rfl
 rw[hc]
 cases hok:bq (n,b)
 ·exact(aj rfl).2 (.ret _)
 ·refine(ah rfl).2 ?_
  obtain⟨h2,h3,h4⟩:=(fI hb).1 hok
  have h5:=h4.1
  rw[Bool.not_true,cond_false]
  by_cases h6:a<0
  ·refine(aj (by rw[al];simpa using h6)).2 ?_
   rw[show decide (a<0)=true from by simpa using h6]
   exact .ret _
  refine(ah (by rw[al];simpa using h6)).2 ?_
  by_cases h7:c<a
  ·refine(aj (by rw[al];simpa using h7)).2 ?_
   rw[show decide (c<a)=true from by simpa using h7]
   simp only[Bool.or_true,Bool.true_or]
   exact .ret _
  refine(ah (by rw[al];simpa using h7)).2 ?_
  by_cases h8:n<c
  ·refine(aj (by rw[aD];simpa using h8)).2 ?_
   rw[show decide (n<c)=true from by simpa using h8]
   simp only[Bool.or_true,Bool.true_or]
   exact .ret _
  refine(ah (by rw[aD];simpa using h8)).2 ?_
  rw[show decide (a<0)=false from by simpa using h6,show decide (c<a)=false from by simpa using h7,show decide (n<c)=false from by simpa using h8]
  obtain⟨k,rfl⟩:=Int.eq_ofNat_of_zero_le (show 0≤c by omega)
  obtain⟨i,rfl⟩:=Int.eq_ofNat_of_zero_le (show 0≤a by omega)
  obtain⟨m,rfl⟩:=Int.eq_ofNat_of_zero_le h2
  rw[Int.toNat_natCast] at h4 h5
  have hsub:ai.b .sub .i64 (k:Int) (i:Int)=((k-i:Nat):Int):=ko (by omega) (by omega)
  have hneed:ai.k cB ((k-i:Nat):Int)=(((k-i+7)/8:Nat):Int):=by rw[ap,kW (by omega) (by omega),Int.toNat_natCast]
  show aC (zd ai) _ (bJ (((unpack m b).take k).drop i),0)
  rw[hsub]
  have hrep:ai.r (ai.k cB ((k-i:Nat):Int)) (0:Int)=List.replicate ((k-i+7)/8) 0:=by rw[hneed,l9,Int.toNat_natCast]
  have hmore:aC (zd ai) (.more (.c0 ⟨0,(i:Int),(k:Int),((k-i:Nat):Int),(m:Int),b,0,((k-i:Nat):Int)⟩ (i:Int) (ai.r (ai.k cB ((k-i:Nat):Int)) (0:Int)))) (bJ (((unpack m b).take k).drop i),0):=by
   refine G3 hb (by omega) (by omega) (by omega) (by omega) (k-i) i _ _ rfl rfl rfl rfl rfl (by omega) (by omega) (by omega) ?_
   rw[Nat.sub_self,List.take_zero,hrep]
   exact Holds.blank _
  refine af.2 ⟨rfl,af.2 ⟨by rw[hneed,fY,qo rfl,aF,aQ,aQ];simp;omega,?_⟩⟩
  by_cases h9:i%8=0
  ·refine(aj (qo (by rw[rp,h9];rfl))).2 ?_
   by_cases h10:k=m
   ·subst h10
    refine(aj (qo rfl)).2 (af.2 ⟨?_,af.2 ⟨?_,?_⟩⟩)
    ·rw[hrep]
     have:ai.l (List.replicate ((k-i+7)/8) (0:Int))=(((k-i+7)/8:Nat):Int):=by show((List.replicate ((k-i+7)/8) (0:Int)).length:Int)=_;rw[List.length_replicate]
     rw[this,fY,iJ,aQ,aQ];simp[aF]
    ·have:ai.l b=((b.length:Nat):Int):=rfl
     rw[j3 (by omega),this,fY,iJ,iJ,aQ,aQ];simp;omega
    ·have hd:=BU h4 (i:=i/8) (by omega)
     rw[show 8*(i/8)=i from by omega] at hd
     have hL:((unpack k b).drop i).length=k-i:=by rw[List.length_drop,aP]
     rw[hrep,j3 (by omega),GK]
     have e1:ai.mn (ai.l (b.drop (i/8))) (ai.b .sub .i64 (ai.l (List.replicate ((k-i+7)/8) (0:Int))) 0)=((b.drop (i/8)).length:Int):=by
      show ai.mn ((b.drop (i/8)).length:Int) (ai.b .sub .i64 ((List.replicate ((k-i+7)/8) (0:Int)).length:Int) 0)=_
      rw[List.length_replicate,bH,gh (by omega) (by omega),y5,if_neg (by rw[List.length_drop];omega)]
     rw[e1,kR,oA,Int.toNat_natCast,List.take_length]
     have e2:(List.replicate ((k-i+7)/8) (0:Int)).take (0:Int).toNat++(b.drop (i/8)).drop (0:Int).toNat++(List.replicate ((k-i+7)/8) (0:Int)).drop ((0:Int).toNat+((b.drop (i/8)).drop (0:Int).toNat).length)=b.drop (i/8):=by
      show[]++b.drop (i/8)++(List.replicate ((k-i+7)/8) (0:Int)).drop (0+(b.drop (i/8)).length)=_
      rw[List.drop_replicate,List.length_drop,show(k-i+7)/8-(0+(b.length-i/8))=0 from by omega,List.replicate_zero,List.append_nil,List.nil_append]
     rw[e2,hd,List.take_of_length_le (by rw[aP];exact Nat.le_refl _),show bJ ((unpack k b).drop i)=(((k-i:Nat):Int),pack ((unpack k b).drop i)) from by rw[bJ,hL]]
     exact .ret _
   ·exact(ah (DO (by omega))).2 hmore
  ·exact(ah (DO (by rw[rp];omega))).2 hmore
def bR:((Int×List Int)×Int×Int)→((Int×List Int)×Int):=bU
def Ow:aB:=⟨[(.struct [yI,yB]),yI,yI], [(.struct [yI,yB]),yI],(@tt ((Int×List Int)×Int×Int)),bR⟩
theorem II:Sd 251 Ow:=aH ar cO true 118 [⟨262,4, [[1,3,4,5,7,10], [6,8]]⟩] [] (fun A ((bN,bB),from1,to)=>Jz A bN bB from1 to) zd Lk (fc Tryz.func251 (fc Tryz.func259 (fc Tryz.func261 (fc Tryz.func262 fz)))) (sc zv (sc C_ (sc IJ (sc Fp sz)))) (fun A y=>match y with |.c0 p a3 a9=>⟨57,by kernel_rfl,by kernel_rfl⟩) fun((bN,bB),from1,to) hp h=>J4 h
open Go.Ev.Pl
theorem oc{l:List (Int×List Int)}(h:Ty.dH [(.slice (.struct [(.int .i64),(.slice (.int .u8))]))] l):l.length≤140737488355328∧∀x∈l,bE x.2∧x.2.length≤140737488355328:=by
 have h1:l.length≤cr∧∀x∈l,Ty.has (.struct [(.int .i64),(.slice (.int .u8))]) x:=h
 exact⟨h1.1,fun x hx=>⟨(dM (n:=x.1) (b:=x.2) (h1.2 x hx)).2.2,(dM (n:=x.1) (b:=x.2) (h1.2 x hx)).2.1⟩⟩
theorem getD_in{α:Type}{l:List α}{i:Nat}(h:i<l.length)(d:α):l.getD (i:Int).toNat d=l[i]:=by
 rw[Int.toNat_natCast,List.getD_eq_getElem?_getD,List.getElem?_eq_getElem h];rfl
theorem kG{l:List (Int×List Int)}{i:Nat}(h:i<l.length):(ai.n (.struct [(.int .i64),(.slice (.int .u8))]) l (i:Int):Int×List Int)=l[i]:=by
 exact getD_in h _
theorem aL{α:Type}{l:List α}{i:Nat}(h:i<l.length):ai.and (ai.c .leq 0 (i:Int)) (ai.c .lss (i:Int) (ai.l l))=true:=by
 have:ai.l l=(l.length:Int):=rfl
 rw[this,fY,aI,aQ];simpa using h
theorem FE{x:Int×List Int}(h:bq x=true):(bC x).length≤4096:=by
 obtain⟨n,b⟩:=x
 rw[fQ]
 simp only[bq,Bool.and_eq_true,decide_eq_true_eq] at h
 show n.toNat≤4096
 omega
theorem yd{l:List Bool}(h:4096<l.length):tY l=(zB,3):=by
 rw[tY,show decide (4096<l.length)=true from by simpa using h];rfl
theorem ve{l:List (Int×List Int)}{i:Nat}(h:i<l.length):(l.take (i+1)).flatMap bC=(l.take i).flatMap bC++bC l[i]:=by
 rw[List.take_succ_eq_append_getElem h,List.flatMap_append]
 simp
theorem oQ{l:List Bool}(h:l.length≤4096):tY l=(bJ l,0):=by
 rw[tY,show decide (4096<l.length)=false from by simpa using h];rfl
end Go.Ev.M
