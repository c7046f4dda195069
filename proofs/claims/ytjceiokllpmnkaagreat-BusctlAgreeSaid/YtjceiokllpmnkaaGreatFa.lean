/-
  PROVED: what the functions of the packages bits and metronomeref01 compute. Conditions: none.
-/
import Derived.Test.YtjceiokllpmnkaaGreatTy
import Derived.Test.YtjceiokllpmnkaaGreatEvC
import Derived.Test.YtjceiokllpmnkaaGreatPl
namespace Go.Ev.M
open Go.Proofs
set_option maxRecDepth 100000
set_option linter.unusedVariables false
set_option linter.unusedSimpArgs false
open Go.Ev.Pl
open Go.Ev.Pl
theorem A5{i:Int}(h:0≤i)(h2:i≤4611686018427387904):ah.b .quo .i64 i 8=((i.toNat/8:Nat):Int):=by
 rw[BL,Int.tdiv_eq_ediv_of_nonneg h,fU (by omega) (by omega)];omega
theorem zx{i:Int}(h:0≤i):ah.b .rem .i64 i 8=((i.toNat%8:Nat):Int):=by
 rw[xr,Int.tmod_eq_emod_of_nonneg h];omega
theorem dW{n:Int}{b:List Int}(h:Ty.has (.struct [(.int .i64),(.slice (.int .u8))]) (n,b)):(-9223372036854775808≤n∧n≤9223372036854775807)∧b.length≤cv∧bF b:=by
 simp only[Ty.has,Ty.du] at h
 exact⟨h.1,h.2.1,fun x hx=>h.2.2 x hx⟩
theorem dq{n:Int}{b:List Int}(h:Ty.has (.struct [(.int .i64),(.slice (.int .u8))]) (n,b)):b.length≤140737488355328:=(dW h).2.1
theorem Er{b:List Int}{i:Int}(h:Ty.du [(.slice (.int .u8)),(.int .i64)] (b,i)):b.length≤140737488355328:=by
 simp only[Ty.du,Ty.has] at h
 exact h.1.1
def Ie(A:bu)(n:Int):LT Int Empty:=.ret (A.b .quo .i64 (A.b .add .i64 n 7) 8)
def cO:Int→Int:=fun n=>(Ie ah n).val (Ty.bV [yI])
def S9:aC:=⟨[yI], [yI],(@tt Int),cO⟩
theorem GK:Sd 283 S9:=aK au dC true 17 [] (fun A n=>Ie A n) (fc Tryz.func283 fz) sz (fun(n:Int) hp h=>by
 show(Ie ah n).pre=true
 rfl)
def FW(A:bu)(i:Int):LT Int Empty:=.need (A.c .leq 0 (A.b .rem .i64 i 8)) (.ret (A.b .shr .u8 128 (A.b .rem .i64 i 8)))
def u9:Int→Int:=fun i=>(FW ah i).val (Ty.bV [yU])
def lZ:Int→Bool:=fun i=>decide (0≤i)
def U1:aC:=⟨[yI], [yU],lZ,u9⟩
theorem D6:Sd 343 U1:=aK au dC true 17 [] (fun A i=>FW A i) (fc Tryz.func343 fz) sz (fun(i:Int) hp h=>by
 show(FW ah i).pre=true
 simp only[FW,LT.pre,fH,aB,aF,ao,ax,aA,aI,aL,a_,fD,al,bi,aS,aY,cn,cB,Bool.and_eq_true,Bool.or_eq_true,Bool.and_eq_false_iff,Bool.or_eq_false_iff,Bool.not_eq_true',Bool.not_eq_false',decide_eq_true_eq,decide_eq_false_iff_not,bne_iff_ne,beq_iff_eq,bne_eq_false_iff_eq,beq_eq_false_iff_ne]
 simp only[lZ,decide_eq_true_eq] at hp
 rw[zx hp];exact⟨by omega,trivial⟩)
theorem l6{n:Int}(h:0≤n)(h2:n≤4611686018427387000):cO n=(((n.toNat+7)/8:Nat):Int):=by
 simp only[cO,Ie,LT.val]
 rw[bi,fU (by omega) (by omega),A5 (by omega) (by omega)]
 omega
theorem FN:∀k:Fin 8,ah.b .shr .u8 128 (k.val:Int)=((128 >>> k.val:Nat):Int):=by decide +kernel
theorem zv{i:Int}(h:0≤i):u9 i=((128 >>> (i.toNat%8):Nat):Int):=by
 simp only[u9,FW,LT.val]
 rw[zx h]
 exact FN ⟨i.toNat%8,Nat.mod_lt _ (by decide)⟩
theorem Ig:∀c:Fin 256,∀k:Fin 8,(ah.b .and .u8 (c.val:Int) ((128 >>> k.val:Nat):Int) != 0)=c.val.testBit (7-k.val):=by decide +kernel
theorem uL{l:List Int}(h:bF l)(i:Nat):0≤l.getD i 0∧l.getD i 0≤255:=by
 rw[List.getD_eq_getElem?_getD]
 by_cases hi:i<l.length
 ·rw[List.getElem?_eq_getElem hi];exact h _ (List.getElem_mem hi)
 ·rw[List.getElem?_eq_none (by omega)];decide
theorem Ii{l:List Int}(h:bF l)(i:Nat):(ah.b .and .u8 (l.getD (i/8) 0) ((128 >>> (i%8):Nat):Int) != 0)=fe l i:=by
 have h1:=uL h (i/8)
 have h2:=Ig ⟨(l.getD (i/8) 0).toNat,by omega⟩ ⟨i%8,Nat.mod_lt _ (by decide)⟩
 simp only at h2
 rw[show(((l.getD (i/8) 0).toNat:Nat):Int)=l.getD (i/8) 0 from by omega] at h2
 exact h2
def DR(A:bu)(bN:Int)(bB:List Int)(i:Int):LT Bool Empty:=.need (A.and (A.c .leq 0 (A.b .quo .i64 i 8)) (A.c .lss (A.b .quo .i64 i 8) (A.l bB))) (.need (A.k lZ i) (.ret (A.c .neq (A.b .and .u8 (A.n yU bB (A.b .quo .i64 i 8):Int) (A.k u9 i)) 0)))
def tO:((Int×List Int)×Int)→Bool:=fun((bN,bB),i)=>(DR ah bN bB i).val (Ty.bV [.bool])
def pW:((Int×List Int)×Int)→Bool:=fun((n,b),i)=>decide (0≤i)&&decide (i<8*(b.length:Int))
def QY:aC:=⟨[(.struct [yI,yB]),yI], [.bool],pW,tO⟩
theorem Jx:Sd 320 QY:=aK au dC true 25 [] (fun A ((bN,bB),i)=>DR A bN bB i) (fc Tryz.func320 fz) (sc D6 sz) (fun(((bN,bB),i):(Int×List Int)×Int) hp h=>by
 show(DR ah bN bB i).pre=true
 simp only[pW,Bool.and_eq_true,decide_eq_true_eq] at hp
 have hl:=dq h.1
 simp only[DR,LT.pre,al,aL,ax,ao,lZ,Bool.and_eq_true,decide_eq_true_eq,cn]
 rw[A5 hp.1 (by omega)]
 refine⟨⟨by omega,by omega⟩,hp.1,trivial⟩)
theorem zM{n:Int}{b:List Int}{i:Int}(hb:bF b)(h0:0≤i)(h1:i<8*(b.length:Int))(hl:b.length≤140737488355328):tO ((n,b),i)=fe b i.toNat:=by
 simp only[tO,DR,LT.val,al,aF]
 rw[A5 h0 (by omega),zv h0]
 exact Ii hb i.toNat
def Nh(A:bu)(bN:Int)(bB:List Int):LT Int Empty:=.br (A.c .lss bN 0) (.ret 10) (.br (A.c .gtr bN 4096) (.ret 10) (.need (A.k (@tt Int) bN) (.br (A.c .neq (A.l bB) (A.k cO bN)) (.ret 10) (.br (A.c .neq (A.b .rem .i64 bN 8) 0) (.need (A.and (A.c .leq 0 (A.b .sub .i64 (A.l bB) 1)) (A.c .lss (A.b .sub .i64 (A.l bB) 1) (A.l bB))) (.need (A.c .leq 0 (A.b .rem .i64 bN 8)) (.br (A.c .neq (A.b .and .u8 (A.n yU bB (A.b .sub .i64 (A.l bB) 1):Int) (A.b .shr .u8 255 (A.b .rem .i64 bN 8))) 0) (.ret 10) (.ret 0)))) (.ret 0)))))
def iZ:((Int×List Int))→Int:=fun(bN,bB)=>(Nh ah bN bB).val (Ty.bV [yI])
def W3:aC:=⟨[(.struct [yI,yB])], [yI],(@tt ((Int×List Int))),iZ⟩
theorem AA:Sd 236 W3:=aK au dC true 67 [] (fun A (bN,bB)=>Nh A bN bB) (fc Tryz.func236 fz) (sc GK sz) (fun((bN,bB):(Int×List Int)) hp h=>by
 show(Nh ah bN bB).pre=true
 have hl:=dq h
 simp only[Nh,LT.pre,al,aF,ao,aA,ax,aL,cB,Bool.true_and,cn,fH,decide_eq_true_eq,decide_eq_false_iff_not,Bool.and_eq_true,bne_iff_ne,bne_eq_false_iff_eq,ne_eq,implies_true,and_true,true_and]
 intro h0 h1 h2 h3
 rw[l6 (by omega) (by omega)] at h2
 rw[zx (by omega)] at h3
 rw[aS,fU (by omega) (by omega),zx (by omega)]
 omega)
theorem Gc:∀c:Fin 256,∀r:Fin 8,(ah.b .and .u8 (c.val:Int) (ah.b .shr .u8 255 (r.val:Int)) != 0)=!((List.range 8).all fun k=>decide (k<r.val) || !c.val.testBit (7-k)):=by decide +kernel
theorem Du{n:Int}{b:List Int}(hb:bF b)(hl:b.length≤140737488355328):iZ (n,b)=0↔0≤n∧n≤4096∧okB n.toNat b:=by
 simp only[iZ,Nh,LT.val,al,aF,ao,aA]
 by_cases h0:n<0
 ·simp only[h0,decide_true,cond_true]
  constructor
  ·intro h;cases h
  ·intro h;omega
 ·simp only[h0,decide_false,cond_false]
  by_cases h1:4096<n
  ·simp only[h1,decide_true,cond_true]
   constructor
   ·intro h;cases h
   ·intro h;omega
  ·simp only[h1,decide_false,cond_false]
   rw[l6 (by omega) (by omega)]
   have hlen:ah.l b=(b.length:Int):=rfl
   rw[hlen]
   by_cases h2:b.length=(n.toNat+7)/8
   ·rw[show((b.length:Int) != (((n.toNat+7)/8:Nat):Int))=false from by rw[h2];exact bne_self_eq_false _,cond_false,zx (by omega)]
    by_cases h3:n.toNat%8=0
    ·rw[h3]
     simp only[Int.natCast_zero,bne_self_eq_false,cond_false,true_iff]
     exact⟨by omega,by omega,h2,hb,fun i h4 h5=>by omega⟩
    ·rw[show(((n.toNat%8:Nat):Int) != 0)=true from by simp;omega,cond_true]
     have e:(ah.n (.int .u8) b (ah.b .sub .i64 (b.length:Int) 1):Int)=b.getD (n.toNat/8) 0:=by
      show b.getD (ah.b .sub .i64 (b.length:Int) 1).toNat 0=_
      rw[aS,fU (by omega) (by omega)]
      congr 1
      omega
     have hx:=uL hb (n.toNat/8)
     have key:=Gc ⟨(b.getD (n.toNat/8) 0).toNat,by omega⟩ ⟨n.toNat%8,Nat.mod_lt _ (by decide)⟩
     simp only at key
     rw[show(((b.getD (n.toNat/8) 0).toNat:Nat):Int)=b.getD (n.toNat/8) 0 from by omega] at key
     have e2:(ah.b .and .u8 (ah.n (.int .u8) b (ah.b .sub .i64 (b.length:Int) 1):Int) (ah.b .shr .u8 255 ((n.toNat%8:Nat):Int)) != 0)=!((List.range 8).all fun k=>decide (k<n.toNat%8) || !(b.getD (n.toNat/8) 0).toNat.testBit (7-k)):=by
      rw[←key]
      exact congrArg (fun z:Int=>(ah.b .and .u8 z (ah.b .shr .u8 255 ((n.toNat%8:Nat):Int)) != 0)) e
     refine Iff.trans (b:=((List.range 8).all fun k=>decide (k<n.toNat%8) || !(b.getD (n.toNat/8) 0).toNat.testBit (7-k))=true) ?_ ?_
     ·refine Iff.trans (b:=(bif !((List.range 8).all fun k=>decide (k<n.toNat%8) || !(b.getD (n.toNat/8) 0).toNat.testBit (7-k)) then(10:Int) else 0)=0) (by rw[←e2]) ?_
      cases (List.range 8).all fun k=>decide (k<n.toNat%8) || !(b.getD (n.toNat/8) 0).toNat.testBit (7-k)<;>simp
     ·rw[List.all_eq_true]
      constructor
      ·intro h
       refine⟨by omega,by omega,h2,hb,fun i h4 h5=>?_⟩
       have:=h (i%8) (List.mem_range.2 (Nat.mod_lt _ (by decide)))
       have hi:i/8=n.toNat/8:=by omega
       rw[fe,hi]
       simp only[Bool.or_eq_true,decide_eq_true_eq,Bool.not_eq_true'] at this
       rcases this with h6|h6
       ·omega
       ·exact h6
      ·intro ⟨_,_,_,_,h⟩ k hk
       have hk:=List.mem_range.1 hk
       by_cases h6:k<n.toNat%8
       ·simp[h6]
       ·have:=h (8*(n.toNat/8)+k) (by omega) (by omega)
        rw[fe,show(8*(n.toNat/8)+k)/8=n.toNat/8 from by omega,show(8*(n.toNat/8)+k)%8=k from by omega] at this
        rw[this];simp
   ·rw[show((b.length:Int) != (((n.toNat+7)/8:Nat):Int))=true from bne_iff_ne.2 (by omega),cond_true]
    constructor
    ·intro h;cases h
    ·intro h;exact absurd h.2.2.1 h2
theorem Ap{x:Int×List Int}:iZ x=0∨iZ x=10:=by
 obtain⟨n,b⟩:=x
 exact LT.jc (p:=fun y=>y=0∨y=10) (.inl rfl) (by simp[Nh,LT.all])
theorem jP{n:Int}{b:List Int}(hb:bF b)(hl:b.length≤140737488355328):iZ (n,b)=bif bw (n,b) then 0 else 10:=by
 have h1:=Du (n:=n) hb hl
 rw[←fY hb] at h1
 rcases Ap (x:=(n,b)) with h2|h2
 ·rw[h2,h1.1 h2];rfl
 ·have:bw (n,b)=false:=by
   rw[←Bool.not_eq_true]
   intro h3
   rw[h1.2 h3] at h2
   cases h2
  rw[h2,this];rfl
theorem dI{i:Nat}(h:i<4611686018427387904):ah.b .add .i64 (i:Int) 1=((i+1:Nat):Int):=by
 rw[bi,fU (by omega) (by omega)];rfl
theorem fC{i j:Nat}(h:i+j<4611686018427387904):ah.b .add .i64 (i:Int) (j:Int)=((i+j:Nat):Int):=by
 rw[bi,fU (by omega) (by omega)];rfl
theorem aG{i j:Nat}:ah.c .lss (i:Int) (j:Int)=decide (i<j):=by
 rw[ao];exact decide_eq_decide.2 Int.ofNat_lt
theorem i_{i j:Nat}:ah.c .leq (i:Int) (j:Int)=decide (i≤j):=by
 rw[ax];exact decide_eq_decide.2 Int.ofNat_le
theorem gf{i:Nat}:ah.c .leq 0 (i:Int)=true:=by rw[ax];simp
theorem kZ{i:Nat}(h:i≤4611686018427387904):ah.b .quo .i64 (i:Int) 8=((i/8:Nat):Int):=by
 rw[A5 (by omega) (by omega)];rfl
theorem s9{i:Nat}:ah.b .rem .i64 (i:Int) 8=((i%8:Nat):Int):=by
 rw[zx (by omega)];rfl
theorem o_{u v:Int}(h:u=v):ah.c .eql u v=true:=by rw[aB,h];exact beq_self_eq_true _
theorem BB{u v:Int}(h:u≠v):ah.c .eql u v=false:=by rw[aB];exact beq_eq_false_iff_ne.2 h
theorem cr{u v:Int}(h:u=v):ah.c .neq u v=false:=by rw[aF,h];exact bne_self_eq_false _
theorem eU{u v:Int}(h:u≠v):ah.c .neq u v=true:=by rw[aF];exact bne_iff_ne.2 h
open Go.Ev.Pl
def D1(A:bu)(b:List Int)(i:Int):LT Bool Empty:=.need (A.and (A.c .leq 0 (A.b .quo .i64 i 8)) (A.c .lss (A.b .quo .i64 i 8) (A.l b))) (.need (A.c .leq 0 (A.v .u64 (A.b .sub .i64 7 (A.b .rem .i64 i 8)))) (.ret (A.c .eql (A.b .rem .u8 (A.b .shr .u8 (A.n yU b (A.b .quo .i64 i 8):Int) (A.v .u64 (A.b .sub .i64 7 (A.b .rem .i64 i 8)))) 2) 1)))
def gq:(List Int×Int)→Bool:=fun(b,i)=>(D1 ah b i).val (Ty.bV [.bool])
def iL:(List Int×Int)→Bool:=fun(b,i)=>decide (0≤i)&&decide (i<8*(b.length:Int))
def QC:aC:=⟨[yB,yI], [.bool],iL,gq⟩
theorem GZ:Sd 282 QC:=aK au dC true 26 [] (fun A (b,i)=>D1 A b i) (fc Tryz.func282 fz) sz (fun((b,i):List Int×Int) hp h=>by
 show(D1 ah b i).pre=true
 simp only[iL,Bool.and_eq_true,decide_eq_true_eq] at hp
 have hl:=Er h
 simp only[D1,LT.pre,aL,ax,ao,Bool.and_eq_true,decide_eq_true_eq,cn,aY,Bool.and_true]
 rw[A5 hp.1 (by omega),zx hp.1,aS,fU (by omega) (by omega),CM (by omega) (by omega)]
 refine⟨⟨by omega,by omega⟩,by omega⟩)
theorem Ih:∀c:Fin 256,∀k:Fin 8,(ah.b .rem .u8 (ah.b .shr .u8 (c.val:Int) (IntKind.u64.wrap (7-(k.val:Int)))) 2==1)=c.val.testBit (7-k.val):=by decide +kernel
theorem mQ{b:List Int}{i:Int}(hb:bF b)(h0:0≤i)(h1:i<4611686018427387904):gq (b,i)=fe b i.toNat:=by
 simp only[gq,D1,LT.val,aY]
 rw[A5 h0 (by omega),zx h0,aS,fU (by omega) (by omega)]
 have hx:=uL hb (i.toNat/8)
 have key:=Ih ⟨(b.getD (i.toNat/8) 0).toNat,by omega⟩ ⟨i.toNat%8,Nat.mod_lt _ (by decide)⟩
 simp only at key
 rw[show(((b.getD (i.toNat/8) 0).toNat:Nat):Int)=b.getD (i.toNat/8) 0 from by omega] at key
 exact key
structure Jz where
 (a1:Int) (a2:List Int)
inductive VN where
 | c0 (p:Jz) (a0:Int)
noncomputable def NR:VN→f_
 | .c0 p a0=>⟨[⟨231,36,(en [(1,.ptr 0 0),(3,vi a0)]),[.inLoop (cw Tryz.f231 [1,1,0,1,0,0]),.inBlock 0,.code (cw Tryz.f231 [1,1,1])],[],none⟩],[.flat false [vi p.a1,.sl yU p.a2],.dead]⟩
def WY(A:bu)(bN:Int)(bB:List Int):LT Int VN:=.br (A.c .lss bN 0) (.ret 10) (.br (A.c .gtr bN 4096) (.ret 10) (.br (A.c .neq (A.l bB) (A.b .quo .i64 (A.b .add .i64 bN 7) 8)) (.ret 10) (.more (.c0 ⟨bN,bB⟩ bN))))
def R4(A:bu):VN→LT Int VN
 | .c0 p a0=>.br (A.c .lss a0 (A.b .mul .i64 8 (A.l p.a2))) (.need (A.k iL (p.a2,a0)) (.br (A.k gq (p.a2,a0)) (.ret 10) (.more (.c0 p (A.b .add .i64 a0 1))))) (.ret 0)
theorem IY{n:Nat}{b:List Int}(p:Jz)(hp:p.a2=b)(hb:bF b)(hl:b.length≤140737488355328):∀(j i:Nat),8*b.length-i=j→aD (R4 ah) (.more (.c0 p (i:Int))) (bif (List.range (8*b.length)).all (fun k=>decide (k<i) || !fe b k) then 0 else 10):=by
 subst hp
 intro j
 have hm:ah.b .mul .i64 8 (ah.l p.a2)=((8*p.a2.length:Nat):Int):=by
  show IntKind.i64.wrap (8*(p.a2.length:Int))=_
  rw[fU (by omega) (by omega)];omega
 induction j with
 | zero=>
   intro i hj
   rw[show((List.range (8*p.a2.length)).all fun k=>decide (k<i) || !fe p.a2 k)=true from by
    rw[List.all_eq_true];intro k hk;have:=List.mem_range.1 hk;simp;omega]
   simp only[ak,R4,jI,hm,aG]
   rw[show decide (i<8*p.a2.length)=false from by simp;omega]
   exact .ret _
 | succ j ih=>
   intro i hj
   simp only[ak,R4,jI,hm,aG]
   rw[show decide (i<8*p.a2.length)=true from by simp;omega]
   simp only[cond_true,af,al]
   refine⟨by simp[iL];omega,?_⟩
   rw[mQ hb (by omega) (by omega),Int.toNat_natCast,dI (by omega)]
   cases hbit:fe p.a2 i
   ·refine(ai rfl).2 ?_
    have:=ih (i+1) (by omega)
    have e:((List.range (8*p.a2.length)).all fun k=>decide (k<i) || !fe p.a2 k)=((List.range (8*p.a2.length)).all fun k=>decide (k<i+1) || !fe p.a2 k):=by
     rw[Bool.eq_iff_iff,List.all_eq_true,List.all_eq_true]
     constructor
     ·intro h k hk
      have:=h k hk
      simp at this ⊢
      rcases this with h1|h1
      ·exact .inl (by omega)
      ·exact .inr h1
     ·intro h k hk
      have:=h k hk
      simp at this ⊢
      by_cases hki:k=i
      ·subst hki;exact .inr hbit
      ·rcases this with h1|h1
       ·exact .inl (by omega)
       ·exact .inr h1
    rw[e]
    exact this
   ·refine(aj rfl).2 ?_
    rw[show((List.range (8*p.a2.length)).all fun k=>decide (k<i) || !fe p.a2 k)=false from by
     rw[List.all_eq_false];exact⟨i,List.mem_range.2 (by omega),by simp[hbit]⟩]
    exact .ret _
theorem LM{n:Int}{b:List Int}(h:Ty.du [(.struct [(.int .i64),(.slice (.int .u8))])] (n,b)):aD (R4 ah) (WY ah n b) (bif bw (n,b) then 0 else 10):=by
 have hb:=(dW h).2.2
 have hl:=dq h
 have hn:=(dW h).1
 unfold WY
 rw[bw]
 by_cases h0:n<0
 ·refine(aj (by simpa [ao] using h0)).2 ?_
  rw[show decide (0≤n)=false from by simp;omega]
  exact .ret _
 ·refine(ai (by simpa [ao] using h0)).2 ?_
  by_cases h1:4096<n
  ·refine(aj (by simpa [aA] using h1)).2 ?_
   rw[show decide (n≤4096)=false from by simp;omega,Bool.and_false]
   exact .ret _
  ·refine(ai (by simpa [aA] using h1)).2 ?_
   rw[show decide (0≤n)=true from by simp;omega,show decide (n≤4096)=true from by simp;omega,bi,fU (by omega) (by omega),A5 (by omega) (by omega),show(n+7).toNat/8=(n.toNat+7)/8 from by omega]
   by_cases h2:b.length=(n.toNat+7)/8
   ·refine(ai (cr (show(b.length:Int)=_ by rw[h2]))).2 ?_
    rw[show(b.length==(n.toNat+7)/8)=true from by simpa using h2]
    have:=IY (n:=n.toNat) ⟨n,b⟩ rfl hb hl (8*b.length-n.toNat) n.toNat rfl
    rw[show((n.toNat:Nat):Int)=n from by omega] at this
    exact this
   ·refine(aj (eU (show(b.length:Int)≠_ by omega))).2 ?_
    rw[show(b.length==(n.toNat+7)/8)=false from by simpa using h2]
    simp only[Bool.and_false,Bool.false_and,cond_false]
    exact .ret _
def jC:((Int×List Int))→Int:=fun x=>bif bw x then 0 else 10
def XV:aC:=⟨[(.struct [yI,yB])], [yI],(@tt ((Int×List Int))),jC⟩
theorem Ha:Sd 231 XV:=aJ au dC true 44 [⟨231,4, [[1,3]]⟩] [] (fun A (bN,bB)=>WY A bN bB) R4 NR (fc Tryz.func231 fz) (sc GZ sz) (fun A y=>match y with |.c0 p a0=>⟨35,by kernel_rfl,by kernel_rfl⟩) fun(bN,bB) hp h=>LM h
open Go.Ev.Pl
structure M2 where
 (a0 a1:Int) (a2:List Int)
structure F2 where
 (b1:Int) (b2:List Int)
inductive CX where
 | c0 (p:M2)
 | c1 (p:F2) (b0:Int) (b3:List Bool)
noncomputable def Mf:CX→f_
 | .c0 p=>⟨[⟨232,22,(en [(1,.ptr 0 0),(3,.dp true),(4,vi p.a0)]),[.inLoop (cw Tryz.f232 [1,1,1,0,1,0,0]),.inBlock 0,.code (cw Tryz.f232 [1,1,1,1])],[],none⟩],[.flat false [vi p.a1,.sl yU p.a2],.dead]⟩
 | .c1 p b0 b3=>⟨[⟨232,22,(en [(1,.ptr 0 0),(3,.own 1),(4,vi b0)]),[.inLoop (cw Tryz.f232 [1,1,1,0,1,0,0]),.inBlock 0,.code (cw Tryz.f232 [1,1,1,1])],[],none⟩],[.flat false [vi p.b1,.sl yU p.b2],.arr false .bool b3,.dead]⟩
def t127(A:bu)(bN:Int)(bB:List Int):LT (List Bool) CX:=.need (A.k (@tt ((Int×List Int))) (bN,bB)) (.br (A.c .neq (A.k jC (bN,bB)) 0) (.ret ([]:List Bool)) (.more (.c0 ⟨0,bN,bB⟩)))
def zZ(A:bu):CX→LT (List Bool) CX
 | .c0 p=>.br (A.c .lss p.a0 p.a1) (.need (A.k iL (p.a2,p.a0)) (.need (A.c .leq (A.l ([(A.k gq (p.a2,p.a0))]:List Bool)) 140737488355328) (.more (.c1 ⟨p.a1,p.a2⟩ (A.b .add .i64 p.a0 1) [(A.k gq (p.a2,p.a0))])))) (.ret ([]:List Bool))
 | .c1 p b0 b3=>.br (A.c .lss b0 p.b1) (.need (A.k iL (p.b2,b0)) (.need (A.c .leq (A.l (A.p b3 [(A.k gq (p.b2,b0))])) 140737488355328) (.more (.c1 p (A.b .add .i64 b0 1) (A.p b3 [(A.k gq (p.b2,b0))]))))) (.ret b3)
theorem aT{R Y:Type}{step:Y→LT R Y}{t t':LT R Y}{r:R}(h:t=t')(h2:aD step t' r):aD step t r:=h▸h2
theorem Cx{n:Nat}{b:List Int}(hb:bF b)(hl:b.length≤140737488355328)(hn:n≤4096)(hok:n≤8*b.length):∀(j i:Nat) (p:F2),p.b1=(n:Int)→p.b2=b→n-i=j→i≤n→aD (zZ ah) (.more (.c1 p (i:Int) (unpack i b))) (unpack n b):=by
 intro j
 induction j with
 | zero=>
   intro i p h1 h2 hj hi
   have:i=n:=by omega
   subst this
   simp only[ak,zZ,jI,h1,aG]
   rw[show decide (i<i)=false from by simp]
   exact .ret _
 | succ j ih=>
   intro i p h1 h2 hj hi
   simp only[ak,zZ]
   refine(aj (by rw[h1,aG];simp;omega)).2 (af.2 ⟨?_,af.2 ⟨?_,?_⟩⟩)
   ·rw[h2,al];simp[iL];omega
   ·show decide (((unpack i b ++ [_]).length:Int)≤140737488355328)=true
    rw[List.length_append,aR]
    simp;omega
   ·have e:(ah.p (unpack i b) [(ah.k gq (p.b2,(i:Int)))]:List Bool)=unpack (i+1) b:=by
     show unpack i b ++ [gq (p.b2,(i:Int))]=_
     rw[h2,mQ hb (by omega) (by omega),rL,Int.toNat_natCast]
    exact aT (congrArg LT.more (congr (congrArg (CX.c1 p) (dI (by omega))) e)) (ih (i+1) p h1 h2 (by omega) (by omega))
theorem NG{n:Int}{b:List Int}(h:Ty.du [(.struct [(.int .i64),(.slice (.int .u8))])] (n,b)):aD (zZ ah) (t127 ah n b) (bif bw (n,b) then bE (n,b) else[]):=by
 have hb:=(dW h).2.2
 have hl:=dq h
 unfold t127
 refine af.2 ⟨rfl,?_⟩
 cases hok:bw (n,b)
 ·refine(aj (show(jC (n,b) != 0)=true by rw[jC,hok];rfl)).2 ?_
  exact .ret _
 ·refine(ai (show(jC (n,b) != 0)=false by rw[jC,hok];rfl)).2 ?_
  obtain⟨h1,h2,h3⟩:=(fY hb).1 hok
  have h4:=h3.1
  rw[cond_true]
  simp only[ak,zZ]
  show aD (zZ ah) _ (unpack n.toNat b)
  by_cases h0:0<n
  ·refine(aj (by rw[ao];simpa using h0)).2 (af.2 ⟨?_,af.2 ⟨rfl,?_⟩⟩)
   ·rw[al];simp[iL];omega
   ·have e:([(ah.k gq (b,(0:Int)))]:List Bool)=unpack 1 b:=by
     show[gq (b,(0:Int))]=_
     rw[mQ hb (by omega) (by omega)];rfl
    refine aT (congrArg LT.more (congr (congrArg (CX.c1 ⟨n,b⟩) (dI (i:=0) (by omega))) e)) ?_
    exact Cx hb hl (by omega) (by omega) (n.toNat-1) 1 ⟨n,b⟩ (by show n=_;omega) rfl (by omega) (by omega)
  ·refine(ai (by rw[ao];simp;omega)).2 ?_
   rw[show n.toNat=0 from by omega]
   exact .ret _
def jX:((Int×List Int))→(List Bool):=fun x=>bif bw x then bE x else[]
def UO:aC:=⟨[(.struct [yI,yB])], [(.slice .bool)],(@tt ((Int×List Int))),jX⟩
theorem JE:Sd 232 UO:=aJ au dC true 31 [⟨232,5, [[1,3,4]]⟩] [] (fun A (bN,bB)=>t127 A bN bB) zZ Mf (fc Tryz.func232 fz) (sc Ha (sc GZ sz)) (fun A y=>match y with |.c0 p=>⟨34,by kernel_rfl,by kernel_rfl⟩|.c1 p b0 b3=>⟨34,by kernel_rfl,by kernel_rfl⟩) fun(bN,bB) hp h=>NG h
structure EU where
 (a0:List Bool) (a2 a3:Int)
inductive Cy where
 | c0 (p:EU) (a1:Int) (a4:List Int)
noncomputable def MY:Cy→f_
 | .c0 p a1 a4=>⟨[⟨233,42,(en [(0,.sl .bool p.a0),(2,.ptr 0 0),(4,.ptr 1 0),(5,vi a1)]),[.inLoop (cw Tryz.f233 [1,1,1,0,1,0,0]),.inBlock 0,.code (cw Tryz.f233 [1,1,1,1])],[],none⟩],[.flat false [vi p.a2,.dp true],.flat false [vi p.a3,.own 2],.arr false yU a4,.dead]⟩
def Kv(A:bu)(l:List Bool):LT ((Int×List Int)×Int) Cy:=.br (A.c .gtr (A.l l) 4096) (.ret ((0,([]:List Int)),3)) (.need (A.and (A.c .eql (A.b .quo .i64 (A.b .add .i64 (A.l l) 7) 8) (A.b .quo .i64 (A.b .add .i64 (A.l l) 7) 8)) (A.and (A.c .leq 0 (A.b .quo .i64 (A.b .add .i64 (A.l l) 7) 8)) (A.c .leq (A.b .quo .i64 (A.b .add .i64 (A.l l) 7) 8) 140737488355328))) (.more (.c0 ⟨l,0,(A.l l)⟩ 0 (A.r (A.b .quo .i64 (A.b .add .i64 (A.l l) 7) 8) (0:Int)))))
def FY(A:bu):Cy→LT ((Int×List Int)×Int) Cy
 | .c0 p a1 a4=>.br (A.c .lss a1 (A.l p.a0)) (.need (A.and (A.c .leq 0 a1) (A.c .lss a1 (A.l p.a0))) (.br (A.n .bool p.a0 a1:Bool) (.need (A.and (A.c .leq 0 (A.b .quo .i64 a1 8)) (A.c .lss (A.b .quo .i64 a1 8) (A.l a4))) (.need (A.c .leq 0 (A.v .u64 (A.b .sub .i64 7 (A.b .rem .i64 a1 8)))) (.need (A.and (A.c .leq 0 (A.b .quo .i64 a1 8)) (A.c .lss (A.b .quo .i64 a1 8) (A.l a4))) (.more (.c0 p (A.b .add .i64 a1 1) (A.set a4 (A.b .quo .i64 a1 8) (A.b .or .u8 (A.n yU a4 (A.b .quo .i64 a1 8):Int) (A.b .shl .u8 1 (A.v .u64 (A.b .sub .i64 7 (A.b .rem .i64 a1 8))))))))))) (.more (.c0 p (A.b .add .i64 a1 1) a4)))) (.ret ((p.a3,a4),0))
theorem Hf:∀c:Fin 256,∀k:Fin 8,ah.b .or .u8 (c.val:Int) (ah.b .shl .u8 1 (IntKind.u64.wrap (7-(k.val:Int))))=((c.val ||| 128 >>> k.val:Nat):Int):=by decide +kernel
theorem Jm:∀c:Fin 256,∀k:Fin 8,ah.b .or .u8 (c.val:Int) ((128 >>> k.val:Nat):Int)=((c.val ||| 128 >>> k.val:Nat):Int):=by decide +kernel
theorem I_{B:List Int}{l:List Bool}{m i:Nat}(h:Holds B l m)(hi:l.length=i)(h1:i<8*m)(hm:m≤100000) :
  Holds (ah.set B (ah.b .quo .i64 (i:Int) 8) (ah.b .or .u8 (ah.n (.int .u8) B (ah.b .quo .i64 (i:Int) 8):Int) (ah.b .shl .u8 1 (ah.v .u64 (ah.b .sub .i64 7 (ah.b .rem .i64 (i:Int) 8)))))) (l ++ [true]) m:=by
 rw[kZ (by omega),s9,aS,fU (by omega) (by omega),aY]
 have key:=Hf ⟨(B.getD (i/8) 0).toNat,oO h.2.1 _⟩ ⟨i%8,Nat.mod_lt _ (by decide)⟩
 simp only at key
 rw[show(((B.getD (i/8) 0).toNat:Nat):Int)=B.getD (i/8) 0 from Int.toNat_of_nonneg (uL h.2.1 _).1] at key
 have:=h.set (by omega)
 rw[hi] at this
 rw[←key] at this
 exact this
theorem zn{B:List Int}{l:List Bool}{m i:Nat}(h:Holds B l m)(hi:l.length=i)(h1:i<8*m)(hm:m≤100000) :
  Holds (ah.set B (ah.b .quo .i64 (i:Int) 8) (ah.b .or .u8 (ah.n (.int .u8) B (ah.b .quo .i64 (i:Int) 8):Int) (ah.k u9 (i:Int)))) (l ++ [true]) m:=by
 rw[kZ (by omega),al,zv (by omega),Int.toNat_natCast]
 have key:=Jm ⟨(B.getD (i/8) 0).toNat,oO h.2.1 _⟩ ⟨i%8,Nat.mod_lt _ (by decide)⟩
 simp only at key
 rw[show(((B.getD (i/8) 0).toNat:Nat):Int)=B.getD (i/8) 0 from Int.toNat_of_nonneg (uL h.2.1 _).1] at key
 have:=h.set (by omega)
 rw[hi] at this
 rw[←key] at this
 exact this
theorem nA{l:List Bool}{i:Nat}(h:i<l.length):l.take (i+1)=l.take i ++ [l.getD i false]:=by
 rw[List.take_succ_eq_append_getElem h,List.getD_eq_getElem?_getD,List.getElem?_eq_getElem h];rfl
theorem Ic{l:List Bool}(hl:l.length≤4096):∀(j i:Nat) (p:EU) (B:List Int),p.a0=l→p.a3=(l.length:Int)→l.length-i=j→i≤l.length→Holds B (l.take i) ((l.length+7)/8)→aD (FY ah) (.more (.c0 p (i:Int) B)) (bM l,0):=by
 intro j
 induction j with
 | zero=>
   intro i p B h1 h2 hj hi hB
   have:i=l.length:=by omega
   subst this
   simp only[ak,FY]
   have hlen:ah.l p.a0=(l.length:Int):=by rw[h1];rfl
   refine(ai (by rw[hlen,aG];simp)).2 ?_
   rw[List.take_length] at hB
   rw[h2,hB.done rfl]
   exact .ret _
 | succ j ih=>
   intro i p B h1 h2 hj hi hB
   simp only[ak,FY]
   have hlen:ah.l p.a0=(l.length:Int):=by rw[h1];rfl
   have hlb:ah.l B=(((l.length+7)/8:Nat):Int):=by rw[←hB.1];rfl
   have hq:(ah.and (ah.c .leq 0 (ah.b .quo .i64 (i:Int) 8)) (ah.c .lss (ah.b .quo .i64 (i:Int) 8) (ah.l B)))=true:=by
    rw[kZ (by omega),hlb,gf,aG,aL];simp;omega
   have htl:(l.take i).length=i:=by rw[List.length_take];omega
   refine(aj (by rw[hlen,aG];simp;omega)).2 (af.2 ⟨by rw[gf,hlen,aG,aL];simp;omega,?_⟩)
   have hb:(ah.n .bool p.a0 (i:Int):Bool)=l.getD i false:=by
    show p.a0.getD (i:Int).toNat false=_
    rw[h1,Int.toNat_natCast]
   have hts:=nA (l:=l) (i:=i) (by omega)
   cases hx:l.getD i false
   ·rw[hx] at hts
    refine(ai (hb.trans hx)).2 ?_
    exact aT (congrArg LT.more (congr (congrArg (Cy.c0 p) (dI (by omega))) rfl)) (ih (i+1) p B h1 h2 (by omega) (by omega) (hts▸hB.skip))
   ·rw[hx] at hts
    refine(aj (hb.trans hx)).2 (af.2 ⟨hq,af.2 ⟨?_,af.2 ⟨hq,?_⟩⟩⟩)
    ·rw[s9,aS,fU (by omega) (by omega),aY,CM (by omega) (by omega),ax];simp;omega
    ·exact aT (congrArg LT.more (congr (congrArg (Cy.c0 p) (dI (by omega))) rfl)) (ih (i+1) p _ h1 h2 (by omega) (by omega) (hts▸I_ hB htl (by omega) (by omega)))
theorem of1{l:List Bool}:aD (FY ah) (Kv ah l) (vg l):=by
 unfold Kv
 have hlen:ah.l l=(l.length:Int):=rfl
 rw[vg]
 by_cases hl:4096<l.length
 ·refine(aj (by rw[hlen,aA];simp;omega)).2 ?_
  rw[show decide (4096<l.length)=true from by simpa using hl]
  exact .ret _
 ·have hq:ah.b .quo .i64 (ah.b .add .i64 (ah.l l) 7) 8=(((l.length+7)/8:Nat):Int):=by
   rw[hlen,show ah.b .add .i64 (l.length:Int) 7=((l.length+7:Nat):Int) from fC (j:=7) (by omega),kZ (by omega)]
  refine(ai (by rw[hlen,aA];simp;omega)).2 (af.2 ⟨?_,?_⟩)
  ·rw[hq,gf,o_ rfl,ax,aL,aL];simp;omega
  ·rw[show decide (4096<l.length)=false from by simpa using hl]
   refine Ic (by omega) l.length 0 _ _ rfl rfl (by omega) (by omega) ?_
   rw[hq,mY,Int.toNat_natCast]
   exact Holds.blank _
def rf:(List Bool)→((Int×List Int)×Int):=vg
def SA:aC:=⟨[(.slice .bool)], [(.struct [yI,yB]),yI],(@tt (List Bool)),rf⟩
theorem JH:Sd 233 SA:=aJ au dC true 40 [⟨233,5, [[0,2,4,5]]⟩] [] (fun A l=>Kv A l) FY MY (fc Tryz.func233 fz) sz (fun A y=>match y with |.c0 p a1 a4=>⟨48,by kernel_rfl,by kernel_rfl⟩) fun l hp h=>of1
open Go.Ev.Pl
structure El where
 (a0 a1 a2:Int)
structure ER where
 (b0 b1 b2 b3:Int) (b4:List Int) (b5:Int)
structure EI where
 (c0 c2:Int)
structure Fh where
 (d1 d2 d3:Int) (d4:List Int) (d6:Int)
inductive zl where
 | c0 (p:El)
 | c1 (p:ER)
 | c2 (p:EI) (c1:Int) (c3:List Bool)
 | c3 (p:Fh) (d0:Int) (d5:List Bool)
noncomputable def Lx:zl→f_
 | .c0 p=>⟨[⟨229,53,(en [(1,.int .u64 false p.a0),(6,.ptr 0 0),(8,.dp true),(9,vi p.a1)]),[.inLoop (cw Tryz.f229 [1,1,1,1,0,1,0,0]),.inBlock 0,.code (cw Tryz.f229 [1,1,1,1,1])],[],none⟩],[.flat false [vi p.a2,.dp true],.dead]⟩
 | .c1 p=>⟨[⟨232,22,(en [(1,.ptr 0 0),(3,.dp true),(4,vi p.b0)]),[.inLoop (cw Tryz.f232 [1,1,1,0,1,0,0]),.inBlock 0,.code (cw Tryz.f232 [1,1,1,1])],[],none⟩,⟨229,53,(en [(1,.int .u64 false p.b1),(2,vi p.b2),(6,.ptr 1 0)]),[.ops (ow Tryz.f229 [1,1,1,0]) ((ow Tryz.f229 [1,1,1,0]).toList.drop 1),.code (cw Tryz.f229 [1,1,1,1])],[],none⟩],[.flat false [vi p.b3,.sl yU p.b4],.flat false [vi p.b5,.dp true],.dead]⟩
 | .c2 p c1 c3=>⟨[⟨229,53,(en [(1,.int .u64 false p.c0),(6,.ptr 0 0),(8,.own 1),(9,vi c1)]),[.inLoop (cw Tryz.f229 [1,1,1,1,0,1,0,0]),.inBlock 0,.code (cw Tryz.f229 [1,1,1,1,1])],[],none⟩],[.flat false [vi p.c2,.dp true],.arr false .bool c3,.dead]⟩
 | .c3 p d0 d5=>⟨[⟨232,22,(en [(1,.ptr 0 0),(3,.own 1),(4,vi d0)]),[.inLoop (cw Tryz.f232 [1,1,1,0,1,0,0]),.inBlock 0,.code (cw Tryz.f232 [1,1,1,1])],[],none⟩,⟨229,53,(en [(1,.int .u64 false p.d1),(2,vi p.d2),(6,.ptr 2 0)]),[.ops (ow Tryz.f229 [1,1,1,0]) ((ow Tryz.f229 [1,1,1,0]).toList.drop 1),.code (cw Tryz.f229 [1,1,1,1])],[],none⟩],[.flat false [vi p.d3,.sl yU p.d4],.arr false .bool d5,.flat false [vi p.d6,.dp true],.dead]⟩
def Lt(A:bu)(bN:Int)(bB:List Int)(v:Int)(width:Int):LT ((Int×List Int)×Int) zl:=.need (A.k (@tt ((Int×List Int))) (bN,bB)) (.br (A.c .neq (A.k jC (bN,bB)) 0) (.ret ((0,([]:List Int)),10)) (.br (A.c .lss width 0) (.ret ((0,([]:List Int)),2)) (.br (A.c .gtr width 64) (.ret ((0,([]:List Int)),2)) (.br (A.c .lss width 64) (.need (A.c .leq 0 (A.v .u64 width)) (.br (A.c .neq (A.b .shr .u64 v (A.v .u64 width)) 0) (.ret ((0,([]:List Int)),2)) (.need (A.k (@tt ((Int×List Int))) (bN,bB)) (.br (A.c .neq (A.k jC (bN,bB)) 0) (.more (.c0 ⟨v,(A.b .sub .i64 width 1),0⟩)) (.more (.c1 ⟨0,v,width,bN,bB,0⟩)))))) (.need (A.k (@tt ((Int×List Int))) (bN,bB)) (.br (A.c .neq (A.k jC (bN,bB)) 0) (.more (.c0 ⟨v,(A.b .sub .i64 width 1),0⟩)) (.more (.c1 ⟨0,v,width,bN,bB,0⟩))))))))
def pP(A:bu):zl→LT ((Int×List Int)×Int) zl
 | .c0 p=>.br (A.c .geq p.a1 0) (.need (A.c .leq 0 (A.v .u64 p.a1)) (.need (A.c .leq (A.l ([(A.c .eql (A.b .rem .u64 (A.b .shr .u64 p.a0 (A.v .u64 p.a1)) 2) 1)]:List Bool)) 140737488355328) (.more (.c2 ⟨p.a0,p.a2⟩ (A.b .sub .i64 p.a1 1) [(A.c .eql (A.b .rem .u64 (A.b .shr .u64 p.a0 (A.v .u64 p.a1)) 2) 1)])))) (.need (A.k (@tt (List Bool)) ([]:List Bool)) (.ret (A.k rf ([]:List Bool))))
 | .c1 p=>.br (A.c .lss p.b0 p.b3) (.need (A.k iL (p.b4,p.b0)) (.need (A.c .leq (A.l ([(A.k gq (p.b4,p.b0))]:List Bool)) 140737488355328) (.more (.c3 ⟨p.b1,p.b2,p.b3,p.b4,p.b5⟩ (A.b .add .i64 p.b0 1) [(A.k gq (p.b4,p.b0))])))) (.more (.c0 ⟨p.b1,(A.b .sub .i64 p.b2 1),p.b5⟩))
 | .c2 p c1 c3=>.br (A.c .geq c1 0) (.need (A.c .leq 0 (A.v .u64 c1)) (.need (A.c .leq (A.l (A.p c3 [(A.c .eql (A.b .rem .u64 (A.b .shr .u64 p.c0 (A.v .u64 c1)) 2) 1)])) 140737488355328) (.more (.c2 p (A.b .sub .i64 c1 1) (A.p c3 [(A.c .eql (A.b .rem .u64 (A.b .shr .u64 p.c0 (A.v .u64 c1)) 2) 1)]))))) (.need (A.k (@tt (List Bool)) c3) (.ret (A.k rf c3)))
 | .c3 p d0 d5=>.br (A.c .lss d0 p.d3) (.need (A.k iL (p.d4,d0)) (.need (A.c .leq (A.l (A.p d5 [(A.k gq (p.d4,d0))])) 140737488355328) (.more (.c3 p (A.b .add .i64 d0 1) (A.p d5 [(A.k gq (p.d4,d0))]))))) (.more (.c2 ⟨p.d1,p.d6⟩ (A.b .sub .i64 p.d2 1) d5))
theorem Bg{a:Int}{n:Nat}(h:0≤a)(hn:n≤64):ah.b .shr .u64 a (n:Int)=((a.toNat/2^n:Nat):Int):=by
 show a.fdiv (2^min (n:Int).toNat 64)=_
 obtain⟨m,rfl⟩:=Int.eq_ofNat_of_zero_le h
 rw[Int.toNat_natCast,Nat.min_eq_left hn,Int.fdiv_eq_ediv_of_nonneg _ (Int.pow_nonneg (by decide))]
 simp
theorem EX{a:Int}{n:Nat}(h:0≤a)(hn:n≤32):ah.b .shr .u32 a (n:Int)=((a.toNat/2^n:Nat):Int):=by
 show a.fdiv (2^min (n:Int).toNat 32)=_
 obtain⟨m,rfl⟩:=Int.eq_ofNat_of_zero_le h
 rw[Int.toNat_natCast,Nat.min_eq_left hn,Int.fdiv_eq_ediv_of_nonneg _ (Int.pow_nonneg (by decide))]
 simp
theorem dE{n:Nat}(h:n<4611686018427387904):ah.v .u64 (n:Int)=(n:Int):=by rw[aY,CM (by omega) (by omega)]
theorem zm{k:IntKind}{m:Nat}:ah.c .eql (ah.b .rem k (m:Int) 2) 1=decide (m%2=1):=by
 show((m:Int).tmod 2==1)=_
 rw[Int.tmod_eq_emod_of_nonneg (by omega),Bool.eq_iff_iff]
 simp only[beq_iff_eq,decide_eq_true_eq]
 omega
theorem Ci{v:Int}{k:Nat}(h:0≤v)(hk:k≤64):ah.c .eql (ah.b .rem .u64 (ah.b .shr .u64 v (ah.v .u64 (k:Int))) 2) 1=v.toNat.testBit k:=by
 rw[dE (by omega),Bg h hk,zm,Nat.testBit_eq_decide_div_mod_eq]
theorem EJ{m:Nat}:ah.c .eql (ah.b .and .u64 (m:Int) 1) 1=decide (m%2=1):=by
 show(IntKind.u64.wrap ((BitVec.ofInt 64 (m:Int) &&& BitVec.ofInt 64 1).toNat:Int)==1)=_
 rw[BitVec.ofInt_natCast,show BitVec.ofInt 64 1=BitVec.ofNat 64 1 from rfl,BitVec.toNat_and,BitVec.toNat_ofNat,BitVec.toNat_ofNat,show 1%2^64=1 from rfl,Nat.and_one_is_mod,CM (by omega) (by omega),Bool.eq_iff_iff]
 simp only[beq_iff_eq,decide_eq_true_eq]
 omega
theorem DT{v:Int}{k:Nat}(h:0≤v)(hk:k≤64):ah.c .eql (ah.b .and .u64 (ah.b .shr .u64 v (k:Int)) 1) 1=v.toNat.testBit k:=by
 rw[Bg h hk,EJ,Nat.testBit_eq_decide_div_mod_eq]
theorem lu{i j:Nat}(h:j≤i)(hi:i<4611686018427387904):ah.b .sub .i64 (i:Int) (j:Int)=((i-j:Nat):Int):=by
 rw[aS,fU (by omega) (by omega)];omega
theorem rz(v k:Nat):bitsOf v (k+1)=v.testBit k::bitsOf v k:=by
 rw[bitsOf,List.range_succ_eq_map,List.map_cons,List.map_map]
 congr 1
 apply List.map_congr_left
 intro a _
 show v.testBit (k+1-1-(a+1))=v.testBit (k-1-a)
 congr 1;omega
theorem tc{v:Int}{w:Nat}(h:0≤v):decide ((2:Int)^w≤v)=(((v.toNat/2^w:Nat):Int) != 0):=by
 obtain⟨m,rfl⟩:=Int.eq_ofNat_of_zero_le h
 rw[Int.toNat_natCast,Bool.eq_iff_iff]
 have h2:(2:Int)^w=((2^w:Nat):Int):=by simp
 rw[h2,decide_eq_true_eq,bne_iff_ne]
 have hp:=Nat.two_pow_pos w
 constructor
 ·intro h3
  have:1≤m/2^w:=(Nat.le_div_iff_mul_le hp).2 (by omega)
  omega
 ·intro h3
  have:1≤m/2^w:=Nat.pos_of_ne_zero fun h=>h3 (by rw[h];rfl)
  have:=(Nat.le_div_iff_mul_le hp).1 this
  omega
theorem BK{n v w:Int}{b:List Int}(h:Ty.du [(.struct [(.int .i64),(.slice (.int .u8))]),(.int .u64),(.int .i64)] ((n,b),v,w)):Ty.has (.struct [(.int .i64),(.slice (.int .u8))]) (n,b)∧(0≤v∧v≤18446744073709551615)∧(-9223372036854775808≤w∧w≤9223372036854775807):=h
theorem Eb{v:Int}(hv:0≤v):∀(k:Nat) (c1:Int) (c3:List Bool) (p:EI),p.c0=v→c1=(k:Int)-1→k≤64→c3.length+k≤4200→aD (pP ah) (.more (.c2 p c1 c3)) (vg (c3++bitsOf v.toNat k)):=by
 intro k
 induction k with
 | zero=>
   intro c1 c3 p h1 h2 _ _
   simp only[ak,pP]
   refine(ai (by rw[aI,h2];decide)).2 (af.2 ⟨rfl,?_⟩)
   rw[show bitsOf v.toNat 0=[] from rfl,List.append_nil]
   exact .ret _
 | succ k ih=>
   intro c1 c3 p h1 h2 hk hl
   have h3:c1=(k:Int):=by omega
   subst h3
   simp only[ak,pP]
   refine(aj (by rw[aI];simp)).2 (af.2 ⟨by rw[dE (by omega),gf],af.2 ⟨?_,?_⟩⟩)
   ·show decide (((c3 ++ [_]).length:Int)≤140737488355328)=true
    rw[List.length_append];simp;omega
   ·have e:(ah.p c3 [(ah.c .eql (ah.b .rem .u64 (ah.b .shr .u64 p.c0 (ah.v .u64 (k:Int))) 2) 1)]:List Bool)=c3 ++ [v.toNat.testBit k]:=by
     show c3 ++ [_]=_
     rw[h1,Ci hv (by omega)]
    have:=ih ((k:Int)-1) (c3 ++ [v.toNat.testBit k]) p h1 rfl (by omega) (by rw[List.length_append];simp;omega)
    rw[List.append_assoc,show[v.toNat.testBit k]++bitsOf v.toNat k=bitsOf v.toNat (k+1) from by rw[rz];rfl] at this
    exact aT (congrArg LT.more (congr (congrArg (zl.c2 p) (show ah.b .sub .i64 (k:Int) 1=(k:Int)-1 by rw[aS,fU (by omega) (by omega)])) e)) this
theorem Mi{v:Int}(hv:0≤v){k:Nat}(p:El)(h1:p.a0=v)(h2:p.a1=(k:Int)-1)(hk:k≤64):aD (pP ah) (.more (.c0 p)) (vg (bitsOf v.toNat k)):=by
 cases k with
 | zero=>
   simp only[ak,pP]
   refine(ai (by rw[aI,h2];decide)).2 (af.2 ⟨rfl,?_⟩)
   exact .ret _
 | succ k=>
   have h3:p.a1=(k:Int):=by omega
   simp only[ak,pP,h3]
   refine(aj (by rw[aI];simp)).2 (af.2 ⟨by rw[dE (by omega),gf],af.2 ⟨rfl,?_⟩⟩)
   have e:([(ah.c .eql (ah.b .rem .u64 (ah.b .shr .u64 p.a0 (ah.v .u64 (k:Int))) 2) 1)]:List Bool)=[v.toNat.testBit k]:=by
    rw[h1,Ci hv (by omega)]
   have:=Eb hv k ((k:Int)-1) [v.toNat.testBit k] ⟨p.a0,p.a2⟩ h1 rfl (by omega) (by simp;omega)
   rw[show[v.toNat.testBit k]++bitsOf v.toNat k=bitsOf v.toNat (k+1) from by rw[rz];rfl] at this
   exact aT (congrArg LT.more (congr (congrArg (zl.c2 ⟨p.a0,p.a2⟩) (show ah.b .sub .i64 (k:Int) 1=(k:Int)-1 by rw[aS,fU (by omega) (by omega)])) e)) this
theorem ML{v:Int}{n w:Nat}{b:List Int}(hv:0≤v)(hb:bF b)(hl:b.length≤140737488355328)(hn:n≤4096)(hw:w≤64)(hok:n≤8*b.length):∀(j i:Nat) (p:Fh),p.d1=v→p.d2=(w:Int)→p.d3=(n:Int)→p.d4=b→n-i=j→i≤n→aD (pP ah) (.more (.c3 p (i:Int) (unpack i b))) (vg (unpack n b++bitsOf v.toNat w)):=by
 intro j
 induction j with
 | zero=>
   intro i p h1 h2 h3 h4 hj hi
   have:i=n:=by omega
   subst this
   simp only[ak,pP]
   refine(ai (by rw[h3,aG];simp)).2 ?_
   rw[h2,aS,fU (by omega) (by omega)]
   exact Eb hv w _ _ _ h1 rfl hw (by rw[aR];omega)
 | succ j ih=>
   intro i p h1 h2 h3 h4 hj hi
   simp only[ak,pP]
   refine(aj (by rw[h3,aG];simp;omega)).2 (af.2 ⟨?_,af.2 ⟨?_,?_⟩⟩)
   ·rw[h4,al];simp[iL];omega
   ·show decide (((unpack i b ++ [_]).length:Int)≤140737488355328)=true
    rw[List.length_append,aR]
    simp;omega
   ·have e:(ah.p (unpack i b) [(ah.k gq (p.d4,(i:Int)))]:List Bool)=unpack (i+1) b:=by
     show unpack i b ++ [gq (p.d4,(i:Int))]=_
     rw[h4,mQ hb (by omega) (by omega),rL,Int.toNat_natCast]
    exact aT (congrArg LT.more (congr (congrArg (zl.c3 p) (dI (by omega))) e)) (ih (i+1) p h1 h2 h3 h4 (by omega) (by omega))
theorem MI{v:Int}{n w:Nat}{b:List Int}(hv:0≤v)(hb:bF b)(hl:b.length≤140737488355328)(hn:n≤4096)(hw:w≤64)(hok:n≤8*b.length)(p:ER)(h0:p.b0=0)(h1:p.b1=v)(h2:p.b2=(w:Int))(h3:p.b3=(n:Int))(h4:p.b4=b):aD (pP ah) (.more (.c1 p)) (vg (unpack n b++bitsOf v.toNat w)):=by
 simp only[ak,pP,h0]
 by_cases hz:n=0
 ·refine(ai (by rw[h3,hz];rfl)).2 ?_
  rw[hz]
  exact Mi hv _ h1 (by show ah.b .sub .i64 p.b2 1=_;rw[h2,aS,fU (by omega) (by omega)]) hw
 ·refine(aj (by rw[h3,ao];simp;omega)).2 (af.2 ⟨?_,af.2 ⟨rfl,?_⟩⟩)
  ·rw[h4,al];simp[iL];omega
  ·have e:([(ah.k gq (p.b4,(0:Int)))]:List Bool)=unpack 1 b:=by
    show[gq (p.b4,(0:Int))]=_
    rw[h4,mQ hb (by omega) (by omega)];rfl
   refine aT (congrArg LT.more (congr (congrArg (zl.c3 _) (dI (i:=0) (by omega))) e)) ?_
   exact ML hv hb hl hn hw hok (n-1) 1 _ h1 h2 h3 h4 (by omega) (by omega)
theorem Yd{n v w:Int}{b:List Int}(h:Ty.du [(.struct [(.int .i64),(.slice (.int .u8))]),(.int .u64),(.int .i64)] ((n,b),v,w)):aD (pP ah) (Lt ah n b v w) (xV ((n,b),v,w)):=by
 obtain⟨h1,hv,hw⟩:=BK h
 have hb:=(dW h1).2.2
 have hl:=dq h1
 unfold Lt
 rw[xV]
 refine af.2 ⟨rfl,?_⟩
 cases hok:bw (n,b)
 ·refine(aj (show(jC (n,b) != 0)=true by rw[jC,hok];rfl)).2 ?_
  exact .ret _
 ·refine(ai (show(jC (n,b) != 0)=false by rw[jC,hok];rfl)).2 ?_
  obtain⟨h2,h3,h4⟩:=(fY hb).1 hok
  have h5:=h4.1
  rw[Bool.not_true,cond_false]
  by_cases h6:w<0
  ·refine(aj (by rw[ao];simpa using h6)).2 ?_
   rw[show decide (w<0)=true from by simpa using h6]
   exact .ret _
  ·refine(ai (by rw[ao];simpa using h6)).2 ?_
   by_cases h7:64<w
   ·refine(aj (by rw[aA];simpa using h7)).2 ?_
    rw[show decide (64<w)=true from by simpa using h7,Bool.or_true,Bool.true_or]
    exact .ret _
   ·refine(ai (by rw[aA];simpa using h7)).2 ?_
    rw[show decide (w<0)=false from by simpa using h6,show decide (64<w)=false from by simpa using h7,Bool.false_or,Bool.false_or,tc hv.1]
    obtain⟨k,rfl⟩:=Int.eq_ofNat_of_zero_le (show 0≤w by omega)
    rw[Int.toNat_natCast]
    have hfin:(((v.toNat/2^k:Nat):Int) != 0)=false→aD (pP ah) (.need (ah.k (@tt ((Int×List Int))) (n,b)) (.br (ah.c .neq (ah.k jC (n,b)) 0) (.more (.c0 ⟨v,(ah.b .sub .i64 (k:Int) 1),0⟩)) (.more (.c1 ⟨0,v,(k:Int),n,b,0⟩)))) (bif ((v.toNat/2^k:Nat):Int) != 0 then(zB,2) else vg (bE (n,b)++bitsOf v.toNat k)):=by
     intro hz
     rw[hz,cond_false]
     refine af.2 ⟨rfl,(ai (show(jC (n,b) != 0)=false by rw[jC,hok];rfl)).2 ?_⟩
     exact MI (n:=n.toNat) hv.1 hb hl (by omega) (by omega) (by omega) _ rfl rfl rfl (show n=_ by omega) rfl
    by_cases h8:k<64
    ·refine(aj (by rw[ao];simp;omega)).2 (af.2 ⟨by rw[dE (by omega),gf],?_⟩)
     rw[dE (by omega),Bg hv.1 (by omega)]
     cases hz:(((v.toNat/2^k:Nat):Int) != 0)
     ·refine(ai hz).2 ?_
      rw[←hz]
      exact hfin hz
     ·refine(aj hz).2 ?_
      exact .ret _
    ·refine(ai (by rw[ao];simp;omega)).2 (hfin ?_)
     have:k=64:=by omega
     subst this
     rw[Nat.div_eq_of_lt (by omega)];rfl
def eB:((Int×List Int)×Int×Int)→((Int×List Int)×Int):=xV
def Rv:aC:=⟨[(.struct [yI,yB]),(.int .u64),yI], [(.struct [yI,yB]),yI],(@tt ((Int×List Int)×Int×Int)),eB⟩
theorem FJ:Sd 229 Rv:=aJ au dC true 81 [⟨229,7, [[1,6,8,9]]⟩,⟨232,5, [[1,3,4], [1,2,6]]⟩] [] (fun A ((bN,bB),v,width)=>Lt A bN bB v width) pP Lx (fc Tryz.func229 (fc Tryz.func232 fz)) (sc Ha (sc JH (sc GZ sz))) (fun A y=>match y with |.c0 p=>⟨34,by kernel_rfl,by kernel_rfl⟩|.c1 p=>⟨34,by kernel_rfl,by kernel_rfl⟩|.c2 p c1 c3=>⟨34,by kernel_rfl,by kernel_rfl⟩|.c3 p d0 d5=>⟨34,by kernel_rfl,by kernel_rfl⟩) fun((bN,bB),v,width) hp h=>Yd h
open Go.Ev.Pl
structure EA where
 (a0 a1 a2 a4:Int) (a5:List Int) (a6 a7:Int)
inductive z8 where
 | c0 (p:EA) (a3:Int) (a8:List Int)
noncomputable def Mq:z8→f_
 | .c0 p a3 a8=>⟨[⟨286,63,(en [(1,.int .u64 false p.a0),(2,vi p.a1),(3,.ptr 0 0),(6,.ptr 1 0),(8,.ptr 2 0),(43,vi p.a2),(44,vi a3)]),[.inLoop (cw Tryz.f286 [1,1,1,0,1,0,0]),.inBlock 1,.code (cw Tryz.f286 [1,1,1,1])],[],none⟩],[.flat false [vi p.a4,.sl yU p.a5],.flat false [vi p.a6,.dp true],.flat false [vi p.a7,.own 3],.arr false yU a8,.dead]⟩
def MP(A:bu)(bN:Int)(bB:List Int)(v:Int)(width:Int):LT ((Int×List Int)×Int) z8:=.need (A.k (@tt ((Int×List Int))) (bN,bB)) (.br (A.c .neq (A.k iZ (bN,bB)) 0) (.ret ((0,([]:List Int)),10)) (.br (A.c .lss width 0) (.ret ((0,([]:List Int)),2)) (.br (A.c .gtr width 64) (.ret ((0,([]:List Int)),2)) (.br (A.c .lss width 64) (.need (A.c .leq 0 width) (.br (A.c .neq (A.b .shr .u64 v width) 0) (.ret ((0,([]:List Int)),2)) (.br (A.c .gtr width (A.b .sub .i64 4096 bN)) (.ret ((0,([]:List Int)),3)) (.need (A.k (@tt Int) (A.b .add .i64 bN width)) (.need (A.and (A.c .eql (A.k cO (A.b .add .i64 bN width)) (A.k cO (A.b .add .i64 bN width))) (A.and (A.c .leq 0 (A.k cO (A.b .add .i64 bN width))) (A.c .leq (A.k cO (A.b .add .i64 bN width)) 140737488355328))) (.more (.c0 ⟨v,width,width,bN,bB,0,(A.b .add .i64 bN width)⟩ 0 (A.spl (A.r (A.k cO (A.b .add .i64 bN width)) (0:Int)) 0 (A.s bB 0 (A.mn (A.l bB) (A.l (A.r (A.k cO (A.b .add .i64 bN width)) (0:Int))))))))))))) (.br (A.c .gtr width (A.b .sub .i64 4096 bN)) (.ret ((0,([]:List Int)),3)) (.need (A.k (@tt Int) (A.b .add .i64 bN width)) (.need (A.and (A.c .eql (A.k cO (A.b .add .i64 bN width)) (A.k cO (A.b .add .i64 bN width))) (A.and (A.c .leq 0 (A.k cO (A.b .add .i64 bN width))) (A.c .leq (A.k cO (A.b .add .i64 bN width)) 140737488355328))) (.more (.c0 ⟨v,width,width,bN,bB,0,(A.b .add .i64 bN width)⟩ 0 (A.spl (A.r (A.k cO (A.b .add .i64 bN width)) (0:Int)) 0 (A.s bB 0 (A.mn (A.l bB) (A.l (A.r (A.k cO (A.b .add .i64 bN width)) (0:Int)))))))))))))))
def CO(A:bu):z8→LT ((Int×List Int)×Int) z8
 | .c0 p a3 a8=>.br (A.c .lss a3 p.a2) (.need (A.c .leq 0 (A.b .sub .i64 (A.b .sub .i64 p.a1 1) a3)) (.br (A.c .eql (A.b .and .u64 (A.b .shr .u64 p.a0 (A.b .sub .i64 (A.b .sub .i64 p.a1 1) a3)) 1) 1) (.need (A.and (A.c .leq 0 (A.b .quo .i64 (A.b .add .i64 p.a4 a3) 8)) (A.c .lss (A.b .quo .i64 (A.b .add .i64 p.a4 a3) 8) (A.l a8))) (.need (A.k lZ (A.b .add .i64 p.a4 a3)) (.need (A.and (A.c .leq 0 (A.b .quo .i64 (A.b .add .i64 p.a4 a3) 8)) (A.c .lss (A.b .quo .i64 (A.b .add .i64 p.a4 a3) 8) (A.l a8))) (.more (.c0 p (A.b .add .i64 a3 1) (A.set a8 (A.b .quo .i64 (A.b .add .i64 p.a4 a3) 8) (A.b .or .u8 (A.n yU a8 (A.b .quo .i64 (A.b .add .i64 p.a4 a3) 8):Int) (A.k u9 (A.b .add .i64 p.a4 a3))))))))) (.more (.c0 p (A.b .add .i64 a3 1) a8)))) (.ret ((p.a7,a8),0))
theorem yZ{v w k:Nat}(h:k<w):(bitsOf v w).getD k false=v.testBit (w-1-k):=by
 rw[List.getD_eq_getElem?_getD,bitsOf,List.getElem?_map,List.getElem?_range h];rfl
theorem oE{B:List Int}{m i:Nat}(hB:B.length=m)(hi:i<8*m)(hm:m≤100000):(ah.and (ah.c .leq 0 (ah.b .quo .i64 (i:Int) 8)) (ah.c .lss (ah.b .quo .i64 (i:Int) 8) (ah.l B)))=true:=by
 have hlb:ah.l B=(m:Int):=by rw[←hB];rfl
 rw[kZ (by omega),hlb,gf,aG,aL];simp;omega
theorem wD{i:Nat}:ah.k lZ (i:Int)=true:=by rw[al];simp[lZ]
theorem Tv{v:Int}{n w:Nat}{b:List Int}(hv:0≤v)(hn:n+w≤4096)(hw:w≤64):∀(j k:Nat) (p:EA) (B:List Int),p.a0=v→p.a1=(w:Int)→p.a2=(w:Int)→p.a4=(n:Int)→p.a7=((n+w:Nat):Int)→w-k=j→k≤w→Holds B (unpack n b++(bitsOf v.toNat w).take k) ((n+w+7)/8)→aD (CO ah) (.more (.c0 p (k:Int) B)) (bM (unpack n b++bitsOf v.toNat w),0):=by
 intro j
 induction j with
 | zero=>
   intro k p B h1 h2 h3 h4 h5 hj hk hB
   have:k=w:=by omega
   subst this
   simp only[ak,CO]
   refine(ai (by rw[h3,aG];simp)).2 ?_
   rw[List.take_of_length_le (by rw[ay];exact Nat.le_refl _)] at hB
   have hl:(unpack n b++bitsOf v.toNat k).length=n+k:=by rw[List.length_append,aR,ay]
   rw[h5,hB.done (by rw[hl])]
   rw[show bM (unpack n b++bitsOf v.toNat k)=(((n+k:Nat):Int),pack (unpack n b++bitsOf v.toNat k)) from by rw[bM,hl]]
   exact .ret _
 | succ j ih=>
   intro k p B h1 h2 h3 h4 h5 hj hk hB
   simp only[ak,CO]
   have hsh:ah.b .sub .i64 (ah.b .sub .i64 p.a1 1) (k:Int)=((w-1-k:Nat):Int):=by
    rw[h2,show ah.b .sub .i64 (w:Int) 1=((w-1:Nat):Int) from lu (j:=1) (by omega) (by omega),lu (by omega) (by omega)]
   have hat:ah.b .add .i64 p.a4 (k:Int)=((n+k:Nat):Int):=by rw[h4,fC (by omega)]
   have hlen:(unpack n b++(bitsOf v.toNat w).take k).length=n+k:=by rw[List.length_append,aR,List.length_take,ay];omega
   have hts:=nA (l:=bitsOf v.toNat w) (i:=k) (by rw[ay];omega)
   rw[yZ (by omega)] at hts
   refine(aj (by rw[h3,aG];simp;omega)).2 (af.2 ⟨by rw[hsh,gf],?_⟩)
   rw[hsh,h1,DT hv (by omega),hat]
   cases hx:v.toNat.testBit (w-1-k)
   ·rw[hx] at hts
    refine(ai rfl).2 ?_
    refine aT (congrArg LT.more (congr (congrArg (z8.c0 p) (dI (by omega))) rfl)) (ih (k+1) p B h1 h2 h3 h4 h5 (by omega) (by omega) ?_)
    rw[hts,←List.append_assoc]
    exact hB.skip
   ·rw[hx] at hts
    refine(aj rfl).2 (af.2 ⟨oE hB.1 (by omega) (by omega),af.2 ⟨wD,af.2 ⟨oE hB.1 (by omega) (by omega),?_⟩⟩⟩)
    refine aT (congrArg LT.more (congr (congrArg (z8.c0 p) (dI (by omega))) rfl)) (ih (k+1) p _ h1 h2 h3 h4 h5 (by omega) (by omega) ?_)
    rw[hts,←List.append_assoc]
    exact zn hB hlen (by omega) (by omega)
theorem grow{n w:Nat}{b:List Int}(h:okB n b)(hw:n+w≤100000):Holds (ah.spl (ah.r (ah.k cO ((n+w:Nat):Int)) (0:Int)) 0 (ah.s b 0 (ah.mn (ah.l b) (ah.l (ah.r (ah.k cO ((n+w:Nat):Int)) (0:Int)))))) (unpack n b) ((n+w+7)/8):=by
 have h1:=h.1
 rw[al,l6 (by omega) (by omega),Int.toNat_natCast]
 have e1:ah.r ((((n+w+7)/8:Nat):Nat):Int) (0:Int)=List.replicate ((n+w+7)/8) 0:=by rw[mY,Int.toNat_natCast]
 rw[e1]
 have e2:ah.mn (ah.l b) (ah.l (List.replicate ((n+w+7)/8) (0:Int)))=(b.length:Int):=by
  rw[ot]
  show(if ((List.replicate ((n+w+7)/8) (0:Int)).length:Int)<(b.length:Int) then _ else(b.length:Int))=_
  rw[List.length_replicate,if_neg (by omega)]
 rw[e2,kr,pQ]
 have e3:(b.take (b.length:Int).toNat).drop (0:Int).toNat=b:=by
  rw[Int.toNat_natCast,List.take_length];rfl
 rw[e3]
 have:=Holds.grown (m:=(n+w+7)/8) h (by omega)
 rw[show(0:Int).toNat=0 from rfl,List.take_zero,List.nil_append,Nat.zero_add,List.drop_replicate]
 exact this
theorem Xp{n v w:Int}{b:List Int}(h:Ty.du [(.struct [(.int .i64),(.slice (.int .u8))]),(.int .u64),(.int .i64)] ((n,b),v,w)):aD (CO ah) (MP ah n b v w) (xV ((n,b),v,w)):=by
 obtain⟨h1,hv,hw⟩:=BK h
 have hb:=(dW h1).2.2
 have hl:=dq h1
 unfold MP
 rw[xV]
 refine af.2 ⟨rfl,?_⟩
 have hc:ah.c .neq (ah.k iZ (n,b)) 0=!bw (n,b):=by
  rw[al,jP hb hl];cases bw (n,b)<;>rfl
 rw[hc]
 cases hok:bw (n,b)
 ·exact(aj rfl).2 (.ret _)
 ·refine(ai rfl).2 ?_
  obtain⟨h2,h3,h4⟩:=(fY hb).1 hok
  have h5:=h4.1
  rw[Bool.not_true,cond_false]
  by_cases h6:w<0
  ·refine(aj (by rw[ao];simpa using h6)).2 ?_
   rw[show decide (w<0)=true from by simpa using h6]
   exact .ret _
  ·refine(ai (by rw[ao];simpa using h6)).2 ?_
   by_cases h7:64<w
   ·refine(aj (by rw[aA];simpa using h7)).2 ?_
    rw[show decide (64<w)=true from by simpa using h7,Bool.or_true,Bool.true_or]
    exact .ret _
   ·refine(ai (by rw[aA];simpa using h7)).2 ?_
    rw[show decide (w<0)=false from by simpa using h6,show decide (64<w)=false from by simpa using h7,Bool.false_or,Bool.false_or,tc hv.1]
    obtain⟨k,rfl⟩:=Int.eq_ofNat_of_zero_le (show 0≤w by omega)
    obtain⟨m,rfl⟩:=Int.eq_ofNat_of_zero_le h2
    rw[Int.toNat_natCast] at h4 h5 ⊢
    have hadd:ah.b .add .i64 (m:Int) (k:Int)=((m+k:Nat):Int):=fC (by omega)
    have hneed:ah.k cO ((m+k:Nat):Int)=(((m+k+7)/8:Nat):Int):=by rw[al,l6 (by omega) (by omega),Int.toNat_natCast]
    have hlen:(bE ((m:Int),b)++bitsOf v.toNat k).length=m+k:=by rw[List.length_append,gl,ay,Int.toNat_natCast]
    have hfin:(((v.toNat/2^k:Nat):Int) != 0)=false→∀t,t=(LT.br (ah.c .gtr (k:Int) (ah.b .sub .i64 4096 (m:Int))) (.ret ((0,([]:List Int)),3)) (.need (ah.k (@tt Int) (ah.b .add .i64 (m:Int) (k:Int))) (.need (ah.and (ah.c .eql (ah.k cO (ah.b .add .i64 (m:Int) (k:Int))) (ah.k cO (ah.b .add .i64 (m:Int) (k:Int)))) (ah.and (ah.c .leq 0 (ah.k cO (ah.b .add .i64 (m:Int) (k:Int)))) (ah.c .leq (ah.k cO (ah.b .add .i64 (m:Int) (k:Int))) 140737488355328))) (.more (.c0 ⟨v,(k:Int),(k:Int),(m:Int),b,0,(ah.b .add .i64 (m:Int) (k:Int))⟩ 0 (ah.spl (ah.r (ah.k cO (ah.b .add .i64 (m:Int) (k:Int))) (0:Int)) 0 (ah.s b 0 (ah.mn (ah.l b) (ah.l (ah.r (ah.k cO (ah.b .add .i64 (m:Int) (k:Int))) (0:Int)))))))))):LT ((Int×List Int)×Int) z8)→aD (CO ah) t (bif ((v.toNat/2^k:Nat):Int) != 0 then(zB,2) else vg (bE ((m:Int),b)++bitsOf v.toNat k)):=by
     intro hz t ht
     rw[hz,cond_false,ht,vg,hlen,hadd,show ah.b .sub .i64 (4096:Int) (m:Int)=((4096-m:Nat):Int) from lu (i:=4096) (by omega) (by omega)]
     by_cases h9:4096<m+k
     ·rw[show decide (4096<m+k)=true from by simpa using h9]
      refine(aj (by rw[aA];simp;omega)).2 (.ret _)
     ·rw[show decide (4096<m+k)=false from by simpa using h9]
      refine(ai (by rw[aA];simp;omega)).2 (af.2 ⟨rfl,af.2 ⟨?_,?_⟩⟩)
      ·rw[hneed,gf,o_ rfl,ax,aL,aL];simp;omega
      ·refine Tv hv.1 (by omega) (by omega) k 0 _ _ rfl rfl rfl rfl rfl rfl (by omega) ?_
       rw[List.take_zero,List.append_nil]
       exact grow h4 (by omega)
    by_cases h8:k<64
    ·refine(aj (by rw[ao];simp;omega)).2 (af.2 ⟨gf,?_⟩)
     rw[Bg hv.1 (by omega)]
     cases hz:(((v.toNat/2^k:Nat):Int) != 0)
     ·refine(ai hz).2 ?_
      rw[←hz]
      exact hfin hz _ rfl
     ·exact(aj hz).2 (.ret _)
    ·refine(ai (by rw[ao];simp;omega)).2 (hfin ?_ _ rfl)
     have:k=64:=by omega
     subst this
     rw[Nat.div_eq_of_lt (by omega)];rfl
def mz:((Int×List Int)×Int×Int)→((Int×List Int)×Int):=xV
def QX:aC:=⟨[(.struct [yI,yB]),(.int .u64),yI], [(.struct [yI,yB]),yI],(@tt ((Int×List Int)×Int×Int)),mz⟩
theorem Po:Sd 286 QX:=aJ au dC true 114 [⟨286,9, [[1,2,3,6,8,43,44]]⟩] [] (fun A ((bN,bB),v,width)=>MP A bN bB v width) CO Mq (fc Tryz.func286 (fc Tryz.func321 (fc Tryz.func322 (fc Tryz.func324 fz)))) (sc AA (sc GK (sc D6 sz))) (fun A y=>match y with |.c0 p a3 a8=>⟨63,by kernel_rfl,by kernel_rfl⟩) fun((bN,bB),v,width) hp h=>Xp h
open Go.Ev.Pl
structure Gr where
 (a0 a2 a4:Int) (a5:List Int)
inductive Jw where
 | c0 (p:Gr) (a1:Int) (a3:Int)
noncomputable def LB:Jw→f_
 | .c0 p a1 a3=>⟨[⟨284,54,(en [(1,vi p.a0),(3,.ptr 0 0),(8,.int .u64 false a1),(39,vi p.a2),(40,vi a3)]),[.inLoop (cw Tryz.f284 [1,1,1,0,1,0,0]),.inBlock 1,.code (cw Tryz.f284 [1,1,1,1])],[],none⟩],[.flat false [vi p.a4,.sl yU p.a5],.dead]⟩
def t138(A:bu)(bN:Int)(bB:List Int)(at1:Int)(width:Int):LT (Int×Int) Jw:=.need (A.k (@tt ((Int×List Int))) (bN,bB)) (.br (A.c .neq (A.k iZ (bN,bB)) 0) (.ret (0,10)) (.br (A.c .lss width 0) (.ret (0,2)) (.br (A.c .gtr width 64) (.ret (0,2)) (.br (A.c .lss at1 0) (.ret (0,2)) (.br (A.c .gtr at1 bN) (.ret (0,2)) (.br (A.c .gtr width (A.b .sub .i64 bN at1)) (.ret (0,2)) (.more (.c0 ⟨at1,width,bN,bB⟩ 0 0))))))))
def EM(A:bu):Jw→LT (Int×Int) Jw
 | .c0 p a1 a3=>.br (A.c .lss a3 p.a2) (.need (A.k pW ((p.a4,p.a5),(A.b .add .i64 p.a0 a3))) (.br (A.k tO ((p.a4,p.a5),(A.b .add .i64 p.a0 a3))) (.more (.c0 p (A.b .or .u64 (A.b .shl .u64 a1 1) 1) (A.b .add .i64 a3 1))) (.more (.c0 p (A.b .shl .u64 a1 1) (A.b .add .i64 a3 1))))) (.ret (a1,0))
theorem GY{l:List Bool}{a k:Nat}(h:a+k<l.length):bf l a (k+1)=2*bf l a k+(l.getD (a+k) false).toNat:=by
 rw[bf,bf,nA (by rw[List.length_drop];omega),oc,getD_drop]
theorem T8{k:Nat}(h:k≤64):2^k≤18446744073709551616:=Nat.le_trans (Nat.pow_le_pow_right (by decide) h) (by decide)
theorem yK{x:Nat}(h:2*x<18446744073709551616):ah.b .shl .u64 (x:Int) 1=((2*x:Nat):Int):=by
 show IntKind.u64.wrap ((x:Int)*2^min (1:Int).toNat 64)=_
 rw[show(2:Int)^min (1:Int).toNat 64=2 from rfl,CM (by omega) (by omega)];omega
theorem IS{x:Nat}(h:2*x<18446744073709551616):ah.b .or .u64 ((2*x:Nat):Int) 1=((2*x+1:Nat):Int):=by
 show IntKind.u64.wrap ((BitVec.ofInt 64 ((2*x:Nat):Int) ||| BitVec.ofInt 64 1).toNat:Int)=_
 rw[BitVec.ofInt_natCast,show BitVec.ofInt 64 1=BitVec.ofNat 64 1 from rfl,BitVec.toNat_or,BitVec.toNat_ofNat,BitVec.toNat_ofNat,show 1%2^64=1 from rfl,Nat.mod_eq_of_lt (by omega)]
 have:=Nat.shiftLeft_add_eq_or_of_lt (i:=1) (b:=1) (by decide) x
 rw[Nat.shiftLeft_eq,Nat.pow_one,Nat.mul_comm x 2] at this
 rw[←this,CM (by omega) (by omega)]
theorem Ca{n a w:Int}{b:List Int}(h:Ty.du [(.struct [(.int .i64),(.slice (.int .u8))]),(.int .i64),(.int .i64)] ((n,b),a,w)):Ty.has (.struct [(.int .i64),(.slice (.int .u8))]) (n,b)∧(-9223372036854775808≤a∧a≤9223372036854775807)∧(-9223372036854775808≤w∧w≤9223372036854775807):=h
theorem PD{n a w:Nat}{b:List Int}(hb:bF b)(hl:b.length≤100000)(hn:n≤8*b.length)(haw:a+w≤n)(hw:w≤64):∀(j k:Nat) (p:Gr),p.a0=(a:Int)→p.a2=(w:Int)→p.a5=b→w-k=j→k≤w→aD (EM ah) (.more (.c0 p ((bf (unpack n b) a k:Nat):Int) (k:Int))) (((bf (unpack n b) a w:Nat):Int),0):=by
 intro j
 induction j with
 | zero=>
   intro k p h1 h2 h3 hj hk
   have:k=w:=by omega
   subst this
   simp only[ak,EM]
   exact(ai (by rw[h2,aG];simp)).2 (.ret _)
 | succ j ih=>
   intro k p h1 h2 h3 hj hk
   simp only[ak,EM]
   have hat:ah.b .add .i64 p.a0 (k:Int)=((a+k:Nat):Int):=by rw[h1,fC (by omega)]
   have hf:=dT (unpack n b) a k
   have hp:=T8 (k:=k+1) (by omega)
   rw[Nat.pow_succ] at hp
   have hs:=GY (l:=unpack n b) (a:=a) (k:=k) (by rw[aR];omega)
   rw[jO,show decide (a+k<n)=true from by simp;omega,Bool.true_and] at hs
   refine(aj (by rw[h2,aG];simp;omega)).2 (af.2 ⟨by rw[hat,h3,al];simp[pW];omega,?_⟩)
   have hc:ah.k tO ((p.a4,p.a5),ah.b .add .i64 p.a0 (k:Int))=fe b (a+k):=by
    rw[hat,h3,al,zM hb (by omega) (by omega) (by omega),Int.toNat_natCast]
   have hm:=ih (k+1) p h1 h2 h3 (by omega) (by omega)
   cases hx:fe b (a+k)
   ·rw[hx] at hs
    refine(ai (hc.trans hx)).2 ?_
    rw[hs,show 2*bf (unpack n b) a k+false.toNat=2*bf (unpack n b) a k from rfl,←yK (by omega),←dI (by omega)] at hm
    exact hm
   ·rw[hx] at hs
    refine(aj (hc.trans hx)).2 ?_
    rw[hs,show 2*bf (unpack n b) a k+true.toNat=2*bf (unpack n b) a k+1 from rfl,←IS (by omega),←yK (by omega),←dI (by omega)] at hm
    exact hm
theorem Wk{n a w:Int}{b:List Int}(h:Ty.du [(.struct [(.int .i64),(.slice (.int .u8))]),(.int .i64),(.int .i64)] ((n,b),a,w)):aD (EM ah) (t138 ah n b a w) (Dh ((n,b),a,w)):=by
 obtain⟨h1,ha,hw⟩:=Ca h
 have hb:=(dW h1).2.2
 have hl:=dq h1
 unfold t138
 rw[Dh]
 refine af.2 ⟨rfl,?_⟩
 have hc:ah.c .neq (ah.k iZ (n,b)) 0=!bw (n,b):=by
  rw[al,jP hb hl];cases bw (n,b)<;>rfl
 rw[hc]
 cases hok:bw (n,b)
 ·exact(aj rfl).2 (.ret _)
 ·refine(ai rfl).2 ?_
  obtain⟨h2,h3,h4⟩:=(fY hb).1 hok
  have h5:=h4.1
  rw[Bool.not_true,cond_false]
  by_cases h6:w<0
  ·refine(aj (by rw[ao];simpa using h6)).2 ?_
   rw[show decide (w<0)=true from by simpa using h6]
   exact .ret _
  refine(ai (by rw[ao];simpa using h6)).2 ?_
  by_cases h7:64<w
  ·refine(aj (by rw[aA];simpa using h7)).2 ?_
   rw[show decide (64<w)=true from by simpa using h7]
   simp only[Bool.or_true,Bool.true_or]
   exact .ret _
  refine(ai (by rw[aA];simpa using h7)).2 ?_
  by_cases h8:a<0
  ·refine(aj (by rw[ao];simpa using h8)).2 ?_
   rw[show decide (a<0)=true from by simpa using h8]
   simp only[Bool.or_true,Bool.true_or]
   exact .ret _
  refine(ai (by rw[ao];simpa using h8)).2 ?_
  rw[show decide (w<0)=false from by simpa using h6,show decide (64<w)=false from by simpa using h7,show decide (a<0)=false from by simpa using h8]
  by_cases h9:n<a
  ·refine(aj (by rw[aA];simpa using h9)).2 ?_
   rw[show decide (n<a+w)=true from by simp;omega]
   exact .ret _
  refine(ai (by rw[aA];simpa using h9)).2 ?_
  rw[aS,fU (by omega) (by omega)]
  by_cases h10:n<a+w
  ·refine(aj (by rw[aA];simp;omega)).2 ?_
   rw[show decide (n<a+w)=true from by simpa using h10]
   exact .ret _
  refine(ai (by rw[aA];simp;omega)).2 ?_
  rw[show decide (n<a+w)=false from by simpa using h10]
  obtain⟨k,rfl⟩:=Int.eq_ofNat_of_zero_le (show 0≤w by omega)
  obtain⟨i,rfl⟩:=Int.eq_ofNat_of_zero_le (show 0≤a by omega)
  exact PD (n:=n.toNat) hb (by omega) (by omega) (by omega) (by omega) k 0 _ rfl rfl rfl (by omega) (by omega)
def ar:((Int×List Int)×Int×Int)→(Int×Int):=Dh
def Pq:aC:=⟨[(.struct [yI,yB]),yI,yI], [(.int .u64),yI],(@tt ((Int×List Int)×Int×Int)),ar⟩
theorem Bu:Sd 284 Pq:=aJ au dC true 65 [⟨284,7, [[1,3,8,39,40]]⟩] [] (fun A ((bN,bB),at1,width)=>t138 A bN bB at1 width) EM LB (fc Tryz.func284 fz) (sc AA (sc Jx sz)) (fun A y=>match y with |.c0 p a1 a3=>⟨45,by kernel_rfl,by kernel_rfl⟩) fun((bN,bB),at1,width) hp h=>Wk h
open Go.Ev.Pl
structure D5 where
 (a0 a1 a2 a4 a5:Int) (a6:List Int) (a7 a8:Int)
inductive C_ where
 | c0 (p:D5) (a3:Int) (a9:List Int)
noncomputable def Lw:C_→f_
 | .c0 p a3 a9=>⟨[⟨325,52,(en [(1,vi p.a0),(3,vi p.a1),(4,vi p.a2),(5,.ptr 0 0),(7,.ptr 1 0),(10,vi a3)]),[.inLoop (cw Tryz.f325 [1,1,1,0,0]),.inBlock 0],[],none⟩,⟨288,39,(en [(6,.ptr 2 0),(8,.ptr 3 0)]),[.ops (ow Tryz.f288 [1,1,1,0]) ((ow Tryz.f288 [1,1,1,0]).toList.drop 4),.code (cw Tryz.f288 [1,1,1,1])],[],none⟩],[.flat false [vi p.a4,.own 4],.flat false [vi p.a5,.sl yU p.a6],.flat false [vi p.a7,.dp true],.flat false [vi p.a8,.own 4],.arr false yU a9,.dead]⟩
def Mx(A:bu)(bN:Int)(bB:List Int)(from1:Int)(to:Int):LT ((Int×List Int)×Int) C_:=.need (A.k (@tt ((Int×List Int))) (bN,bB)) (.br (A.c .neq (A.k iZ (bN,bB)) 0) (.ret ((0,([]:List Int)),10)) (.br (A.c .lss from1 0) (.ret ((0,([]:List Int)),2)) (.br (A.c .lss to from1) (.ret ((0,([]:List Int)),2)) (.br (A.c .gtr to bN) (.ret ((0,([]:List Int)),2)) (.need (A.k (@tt Int) (A.b .sub .i64 to from1)) (.need (A.and (A.c .eql (A.k cO (A.b .sub .i64 to from1)) (A.k cO (A.b .sub .i64 to from1))) (A.and (A.c .leq 0 (A.k cO (A.b .sub .i64 to from1))) (A.c .leq (A.k cO (A.b .sub .i64 to from1)) 140737488355328))) (.br (A.c .eql (A.b .rem .i64 from1 8) 0) (.br (A.c .eql to bN) (.need (A.and (A.c .leq 0 0) (A.and (A.c .leq 0 (A.l (A.r (A.k cO (A.b .sub .i64 to from1)) (0:Int)))) (A.c .leq (A.l (A.r (A.k cO (A.b .sub .i64 to from1)) (0:Int))) (A.l (A.r (A.k cO (A.b .sub .i64 to from1)) (0:Int)))))) (.need (A.and (A.c .leq 0 (A.b .quo .i64 from1 8)) (A.and (A.c .leq (A.b .quo .i64 from1 8) (A.l bB)) (A.c .leq (A.l bB) (A.l bB)))) (.ret (((A.b .sub .i64 to from1),(A.spl (A.r (A.k cO (A.b .sub .i64 to from1)) (0:Int)) 0 (A.s (A.s bB (A.b .quo .i64 from1 8) (A.l bB)) 0 (A.mn (A.l (A.s bB (A.b .quo .i64 from1 8) (A.l bB))) (A.b .sub .i64 (A.l (A.r (A.k cO (A.b .sub .i64 to from1)) (0:Int))) 0))))),0)))) (.more (.c0 ⟨0,from1,to,(A.b .sub .i64 to from1),bN,bB,0,(A.b .sub .i64 to from1)⟩ from1 (A.r (A.k cO (A.b .sub .i64 to from1)) (0:Int))))) (.more (.c0 ⟨0,from1,to,(A.b .sub .i64 to from1),bN,bB,0,(A.b .sub .i64 to from1)⟩ from1 (A.r (A.k cO (A.b .sub .i64 to from1)) (0:Int)))))))))))
def A7(A:bu):C_→LT ((Int×List Int)×Int) C_
 | .c0 p a3 a9=>.br (A.c .lss a3 p.a2) (.need (A.k pW ((p.a5,p.a6),a3)) (.br (A.k tO ((p.a5,p.a6),a3)) (.need (A.and (A.c .leq 0 (A.b .quo .i64 (A.b .sub .i64 (A.b .add .i64 p.a0 a3) p.a1) 8)) (A.c .lss (A.b .quo .i64 (A.b .sub .i64 (A.b .add .i64 p.a0 a3) p.a1) 8) (A.l a9))) (.need (A.k lZ (A.b .sub .i64 (A.b .add .i64 p.a0 a3) p.a1)) (.need (A.and (A.c .leq 0 (A.b .quo .i64 (A.b .sub .i64 (A.b .add .i64 p.a0 a3) p.a1) 8)) (A.c .lss (A.b .quo .i64 (A.b .sub .i64 (A.b .add .i64 p.a0 a3) p.a1) 8) (A.l a9))) (.more (.c0 p (A.b .add .i64 a3 1) (A.set a9 (A.b .quo .i64 (A.b .sub .i64 (A.b .add .i64 p.a0 a3) p.a1) 8) (A.b .or .u8 (A.n yU a9 (A.b .quo .i64 (A.b .sub .i64 (A.b .add .i64 p.a0 a3) p.a1) 8):Int) (A.k u9 (A.b .sub .i64 (A.b .add .i64 p.a0 a3) p.a1))))))))) (.more (.c0 p (A.b .add .i64 a3 1) a9)))) (.ret ((p.a8,a9),0))
theorem I5{n a c:Nat}{b:List Int}(hb:bF b)(hl:b.length≤100000)(hn:n≤8*b.length)(hac:a≤c)(hc:c≤n):∀(j i:Nat) (p:D5) (B:List Int),p.a0=0→p.a1=(a:Int)→p.a2=(c:Int)→p.a6=b→p.a8=((c-a:Nat):Int)→c-i=j→a≤i→i≤c→Holds B ((((unpack n b).take c).drop a).take (i-a)) ((c-a+7)/8)→aD (A7 ah) (.more (.c0 p (i:Int) B)) (bM (((unpack n b).take c).drop a),0):=by
 have hL:(((unpack n b).take c).drop a).length=c-a:=by rw[List.length_drop,List.length_take,aR];omega
 intro j
 induction j with
 | zero=>
   intro i p B h0 h1 h2 h3 h4 hj hi hi2 hB
   have:i=c:=by omega
   subst this
   simp only[ak,A7]
   refine(ai (by rw[h2,aG];simp)).2 ?_
   rw[List.take_of_length_le (by rw[hL];exact Nat.le_refl _)] at hB
   rw[h4,hB.done (by rw[hL]),show bM (((unpack n b).take i).drop a)=(((i-a:Nat):Int),pack (((unpack n b).take i).drop a)) from by rw[bM,hL]]
   exact .ret _
 | succ j ih=>
   intro i p B h0 h1 h2 h3 h4 hj hi hi2 hB
   simp only[ak,A7]
   have hat:ah.b .sub .i64 (ah.b .add .i64 p.a0 (i:Int)) p.a1=((i-a:Nat):Int):=by
    rw[h0,h1,show ah.b .add .i64 (0:Int) (i:Int)=((0+i:Nat):Int) from fC (i:=0) (by omega),lu (by omega) (by omega),Nat.zero_add]
   have hts:=nA (l:=((unpack n b).take c).drop a) (i:=i-a) (by rw[hL];omega)
   rw[getD_drop,getD_take,jO,show a+(i-a)=i from by omega,show decide (i<c)=true from by simp;omega,show decide (i<n)=true from by simp;omega,Bool.true_and,Bool.true_and] at hts
   have hlen:((((unpack n b).take c).drop a).take (i-a)).length=i-a:=by rw[List.length_take,hL];omega
   refine(aj (by rw[h2,aG];simp;omega)).2 (af.2 ⟨by rw[h3,al];simp[pW];omega,?_⟩)
   have hc:ah.k tO ((p.a5,p.a6),(i:Int))=fe b i:=by
    rw[h3,al,zM hb (by omega) (by omega) (by omega),Int.toNat_natCast]
   rw[hat]
   cases hx:fe b i
   ·rw[hx] at hts
    refine(ai (hc.trans hx)).2 ?_
    refine aT (congrArg LT.more (congr (congrArg (C_.c0 p) (dI (by omega))) rfl)) (ih (i+1) p B h0 h1 h2 h3 h4 (by omega) (by omega) (by omega) ?_)
    rw[show i+1-a=i-a+1 from by omega,hts]
    exact hB.skip
   ·rw[hx] at hts
    refine(aj (hc.trans hx)).2 (af.2 ⟨oE hB.1 (by omega) (by omega),af.2 ⟨wD,af.2 ⟨oE hB.1 (by omega) (by omega),?_⟩⟩⟩)
    refine aT (congrArg LT.more (congr (congrArg (C_.c0 p) (dI (by omega))) rfl)) (ih (i+1) p _ h0 h1 h2 h3 h4 (by omega) (by omega) (by omega) ?_)
    rw[show i+1-a=i-a+1 from by omega,hts]
    exact zn hB hlen (by omega) (by omega)
theorem CG(b:List Int)(i j:Nat):fe (b.drop i) j=fe b (8*i+j):=by
 rw[fe,fe,List.getD_eq_getElem?_getD,List.getD_eq_getElem?_getD,List.getElem?_drop,show(8*i+j)/8=i+j/8 from by omega,show(8*i+j)%8=j%8 from by omega]
theorem Dc{n i:Nat}{b:List Int}(h:okB n b)(hi:8*i≤n):b.drop i=pack ((unpack n b).drop (8*i)):=by
 have h1:=h.1
 apply Ch
 ·rw[List.length_drop,List.length_drop,aR];omega
 ·exact fun x hx=>h.2.1 x (List.mem_of_mem_drop hx)
 ·intro j hj
  rw[List.length_drop] at hj
  rw[CG,getD_drop,jO]
  by_cases h2:8*i+j<n
  ·rw[show decide (8*i+j<n)=true from by simpa using h2,Bool.true_and]
  ·rw[show decide (8*i+j<n)=false from by simpa using h2,Bool.false_and]
   exact h.2.2 _ (by omega) (by omega)
theorem IU{b:List Int}{i:Nat}:ah.s b (i:Int) (ah.l b)=b.drop i:=by
 show(b.take (b.length:Int).toNat).drop (i:Int).toNat=_
 rw[Int.toNat_natCast,Int.toNat_natCast,List.take_length]
theorem KI{n a c:Int}{b:List Int}(h:Ty.du [(.struct [(.int .i64),(.slice (.int .u8))]),(.int .i64),(.int .i64)] ((n,b),a,c)):aD (A7 ah) (Mx ah n b a c) (bU ((n,b),a,c)):=by
 obtain⟨h1,ha,hw⟩:=Ca h
 have hb:=(dW h1).2.2
 have hl:=dq h1
 unfold Mx
 rw[bU]
 refine af.2 ⟨rfl,?_⟩
 have hc:ah.c .neq (ah.k iZ (n,b)) 0=!bw (n,b):=by
  rw[al,jP hb hl];cases bw (n,b)<;>rfl
 rw[hc]
 cases hok:bw (n,b)
 ·exact(aj rfl).2 (.ret _)
 ·refine(ai rfl).2 ?_
  obtain⟨h2,h3,h4⟩:=(fY hb).1 hok
  have h5:=h4.1
  rw[Bool.not_true,cond_false]
  by_cases h6:a<0
  ·refine(aj (by rw[ao];simpa using h6)).2 ?_
   rw[show decide (a<0)=true from by simpa using h6]
   exact .ret _
  refine(ai (by rw[ao];simpa using h6)).2 ?_
  by_cases h7:c<a
  ·refine(aj (by rw[ao];simpa using h7)).2 ?_
   rw[show decide (c<a)=true from by simpa using h7]
   simp only[Bool.or_true,Bool.true_or]
   exact .ret _
  refine(ai (by rw[ao];simpa using h7)).2 ?_
  by_cases h8:n<c
  ·refine(aj (by rw[aA];simpa using h8)).2 ?_
   rw[show decide (n<c)=true from by simpa using h8]
   simp only[Bool.or_true,Bool.true_or]
   exact .ret _
  refine(ai (by rw[aA];simpa using h8)).2 ?_
  rw[show decide (a<0)=false from by simpa using h6,show decide (c<a)=false from by simpa using h7,show decide (n<c)=false from by simpa using h8]
  obtain⟨k,rfl⟩:=Int.eq_ofNat_of_zero_le (show 0≤c by omega)
  obtain⟨i,rfl⟩:=Int.eq_ofNat_of_zero_le (show 0≤a by omega)
  obtain⟨m,rfl⟩:=Int.eq_ofNat_of_zero_le h2
  rw[Int.toNat_natCast] at h4 h5
  have hsub:ah.b .sub .i64 (k:Int) (i:Int)=((k-i:Nat):Int):=lu (by omega) (by omega)
  have hneed:ah.k cO ((k-i:Nat):Int)=(((k-i+7)/8:Nat):Int):=by rw[al,l6 (by omega) (by omega),Int.toNat_natCast]
  show aD (A7 ah) _ (bM (((unpack m b).take k).drop i),0)
  rw[hsub]
  have hrep:ah.r (ah.k cO ((k-i:Nat):Int)) (0:Int)=List.replicate ((k-i+7)/8) 0:=by rw[hneed,mY,Int.toNat_natCast]
  have hmore:aD (A7 ah) (.more (.c0 ⟨0,(i:Int),(k:Int),((k-i:Nat):Int),(m:Int),b,0,((k-i:Nat):Int)⟩ (i:Int) (ah.r (ah.k cO ((k-i:Nat):Int)) (0:Int)))) (bM (((unpack m b).take k).drop i),0):=by
   refine I5 hb (by omega) (by omega) (by omega) (by omega) (k-i) i _ _ rfl rfl rfl rfl rfl (by omega) (by omega) (by omega) ?_
   rw[Nat.sub_self,List.take_zero,hrep]
   exact Holds.blank _
  refine af.2 ⟨rfl,af.2 ⟨by rw[hneed,gf,o_ rfl,ax,aL,aL];simp;omega,?_⟩⟩
  by_cases h9:i%8=0
  ·refine(aj (o_ (by rw[s9,h9];rfl))).2 ?_
   by_cases h10:k=m
   ·subst h10
    refine(aj (o_ rfl)).2 (af.2 ⟨?_,af.2 ⟨?_,?_⟩⟩)
    ·rw[hrep]
     have:ah.l (List.replicate ((k-i+7)/8) (0:Int))=(((k-i+7)/8:Nat):Int):=by show((List.replicate ((k-i+7)/8) (0:Int)).length:Int)=_;rw[List.length_replicate]
     rw[this,gf,i_,aL,aL];simp[ax]
    ·have:ah.l b=((b.length:Nat):Int):=rfl
     rw[kZ (by omega),this,gf,i_,i_,aL,aL];simp;omega
    ·have hd:=Dc h4 (i:=i/8) (by omega)
     rw[show 8*(i/8)=i from by omega] at hd
     have hL:((unpack k b).drop i).length=k-i:=by rw[List.length_drop,aR]
     rw[hrep,kZ (by omega),IU]
     have e1:ah.mn (ah.l (b.drop (i/8))) (ah.b .sub .i64 (ah.l (List.replicate ((k-i+7)/8) (0:Int))) 0)=((b.drop (i/8)).length:Int):=by
      show ah.mn ((b.drop (i/8)).length:Int) (ah.b .sub .i64 ((List.replicate ((k-i+7)/8) (0:Int)).length:Int) 0)=_
      rw[List.length_replicate,aS,fU (by omega) (by omega),ot,if_neg (by rw[List.length_drop];omega)]
     rw[e1,kr,pQ,Int.toNat_natCast,List.take_length]
     have e2:(List.replicate ((k-i+7)/8) (0:Int)).take (0:Int).toNat++(b.drop (i/8)).drop (0:Int).toNat++(List.replicate ((k-i+7)/8) (0:Int)).drop ((0:Int).toNat+((b.drop (i/8)).drop (0:Int).toNat).length)=b.drop (i/8):=by
      show[]++b.drop (i/8)++(List.replicate ((k-i+7)/8) (0:Int)).drop (0+(b.drop (i/8)).length)=_
      rw[List.drop_replicate,List.length_drop,show(k-i+7)/8-(0+(b.length-i/8))=0 from by omega,List.replicate_zero,List.append_nil,List.nil_append]
     rw[e2,hd,List.take_of_length_le (by rw[aR];exact Nat.le_refl _),show bM ((unpack k b).drop i)=(((k-i:Nat):Int),pack ((unpack k b).drop i)) from by rw[bM,hL]]
     exact .ret _
   ·exact(ai (BB (by omega))).2 hmore
  ·exact(ai (BB (by rw[s9];omega))).2 hmore
def bS:((Int×List Int)×Int×Int)→((Int×List Int)×Int):=bU
def RE:aC:=⟨[(.struct [yI,yB]),yI,yI], [(.struct [yI,yB]),yI],(@tt ((Int×List Int)×Int×Int)),bS⟩
theorem JY:Sd 288 RE:=aJ au dC true 118 [⟨325,4, [[1,3,4,5,7,10], [6,8]]⟩] [] (fun A ((bN,bB),from1,to)=>Mx A bN bB from1 to) A7 Lw (fc Tryz.func288 (fc Tryz.func322 (fc Tryz.func324 (fc Tryz.func325 fz)))) (sc AA (sc GK (sc Jx (sc D6 sz)))) (fun A y=>match y with |.c0 p a3 a9=>⟨57,by kernel_rfl,by kernel_rfl⟩) fun((bN,bB),from1,to) hp h=>KI h
open Go.Ev.Pl
theorem oJ{l:List (Int×List Int)}(h:Ty.du [(.slice (.struct [(.int .i64),(.slice (.int .u8))]))] l):l.length≤140737488355328∧∀x∈l,bF x.2∧x.2.length≤140737488355328:=by
 have h1:l.length≤cv∧∀x∈l,Ty.has (.struct [(.int .i64),(.slice (.int .u8))]) x:=h
 exact⟨h1.1,fun x hx=>⟨(dW (n:=x.1) (b:=x.2) (h1.2 x hx)).2.2,(dW (n:=x.1) (b:=x.2) (h1.2 x hx)).2.1⟩⟩
theorem getD_in{α:Type}{l:List α}{i:Nat}(h:i<l.length)(d:α):l.getD (i:Int).toNat d=l[i]:=by
 rw[Int.toNat_natCast,List.getD_eq_getElem?_getD,List.getElem?_eq_getElem h];rfl
theorem mq{l:List (Int×List Int)}{i:Nat}(h:i<l.length):(ah.n (.struct [(.int .i64),(.slice (.int .u8))]) l (i:Int):Int×List Int)=l[i]:=by
 exact getD_in h _
theorem bH{α:Type}{l:List α}{i:Nat}(h:i<l.length):ah.and (ah.c .leq 0 (i:Int)) (ah.c .lss (i:Int) (ah.l l))=true:=by
 have:ah.l l=(l.length:Int):=rfl
 rw[this,gf,aG,aL];simpa using h
theorem Gw{x:Int×List Int}(h:bw x=true):(bE x).length≤4096:=by
 obtain⟨n,b⟩:=x
 rw[gl]
 simp only[bw,Bool.and_eq_true,decide_eq_true_eq] at h
 show n.toNat≤4096
 omega
theorem yE{l:List Bool}(h:4096<l.length):vg l=(zB,3):=by
 rw[vg,show decide (4096<l.length)=true from by simpa using h];rfl
theorem vQ{l:List (Int×List Int)}{i:Nat}(h:i<l.length):(l.take (i+1)).flatMap bE=(l.take i).flatMap bE++bE l[i]:=by
 rw[List.take_succ_eq_append_getElem h,List.flatMap_append]
 simp
theorem qE{l:List Bool}(h:l.length≤4096):vg l=(bM l,0):=by
 rw[vg,show decide (4096<l.length)=false from by simpa using h];rfl
end Go.Ev.M
