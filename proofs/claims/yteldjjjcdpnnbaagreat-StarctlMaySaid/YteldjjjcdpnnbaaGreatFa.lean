/-
  PROVED: what the functions of the packages bits and metronomeref01 compute. Conditions: none.
-/
import Derived.Test.YteldjjjcdpnnbaaGreatTy
import Derived.Test.YteldjjjcdpnnbaaGreatEvC
import Derived.Test.YteldjjjcdpnnbaaGreatPl
namespace Go.Ev.M
open Go.Proofs
set_option maxRecDepth 100000
set_option linter.unusedVariables false
set_option linter.unusedSimpArgs false
open Go.Ev.Pl
open Go.Ev.Pl
theorem DG{i:Int}(h:0≤i)(h2:i≤4611686018427387904):aj.b .quo .i64 i 8=((i.toNat/8:Nat):Int):=by
 rw[FW,Int.tdiv_eq_ediv_of_nonneg h,fI (by omega) (by omega)];omega
theorem B6{i:Int}(h:0≤i):aj.b .rem .i64 i 8=((i.toNat%8:Nat):Int):=by
 rw[AJ,Int.tmod_eq_emod_of_nonneg h];omega
theorem eZ{n:Int}{b:List Int}(h:Ty.has (.struct [(.int .i64),(.slice (.int .u8))]) (n,b)):(-9223372036854775808≤n∧n≤9223372036854775807)∧b.length≤dx∧bp b:=by
 simp only[Ty.has,Ty.dK] at h
 exact⟨h.1,h.2.1,fun x hx=>h.2.2 x hx⟩
theorem dO{n:Int}{b:List Int}(h:Ty.has (.struct [(.int .i64),(.slice (.int .u8))]) (n,b)):b.length≤140737488355328:=(eZ h).2.1
theorem KL{b:List Int}{i:Int}(h:Ty.dK [(.slice (.int .u8)),(.int .i64)] (b,i)):b.length≤140737488355328:=by
 simp only[Ty.dK,Ty.has] at h
 exact h.1.1
def NV(A:bi)(n:Int):LT Int Empty:=.ret (A.b .quo .i64 (A.b .add .i64 n 7) 8)
def dH:Int→Int:=fun n=>(NV aj n).val (Ty.bZ [yI])
def XT:aD:=⟨[yI], [yI],(@tt Int),dH⟩
theorem Jg:Sd 246 XT:=aM au cK true 17 [] (fun A n=>NV A n) (fc Tryz.func246 fz) sz (fun(n:Int) hp h=>by
 show(NV aj n).pre=true
 rfl)
def Jw(A:bi)(i:Int):LT Int Empty:=.need (A.c .leq 0 (A.b .rem .i64 i 8)) (.ret (A.b .shr .u8 128 (A.b .rem .i64 i 8)))
def vc:Int→Int:=fun i=>(Jw aj i).val (Ty.bZ [yU])
def nY:Int→Bool:=fun i=>decide (0≤i)
def Zg:aD:=⟨[yI], [yU],nY,vc⟩
theorem Lf:Sd 264 Zg:=aM au cK true 17 [] (fun A i=>Jw A i) (fc Tryz.func264 fz) sz (fun(i:Int) hp h=>by
 show(Jw aj i).pre=true
 simp only[Jw,LT.pre,fB,aF,aJ,ar,aB,aG,aN,aR,bD,fx,ap,bw,aZ,bu,cH,cN,Bool.and_eq_true,Bool.or_eq_true,Bool.and_eq_false_iff,Bool.or_eq_false_iff,Bool.not_eq_true',Bool.not_eq_false',decide_eq_true_eq,decide_eq_false_iff_not,bne_iff_ne,beq_iff_eq,bne_eq_false_iff_eq,beq_eq_false_iff_ne]
 simp only[nY,decide_eq_true_eq] at hp
 rw[B6 hp];exact⟨by omega,trivial⟩)
theorem nk{n:Int}(h:0≤n)(h2:n≤4611686018427387000):dH n=(((n.toNat+7)/8:Nat):Int):=by
 simp only[dH,NV,LT.val]
 rw[bw,fI (by omega) (by omega),DG (by omega) (by omega)]
 omega
theorem IS:∀k:Fin 8,aj.b .shr .u8 128 (k.val:Int)=((128 >>> k.val:Nat):Int):=by decide +kernel
theorem B7{i:Int}(h:0≤i):vc i=((128 >>> (i.toNat%8):Nat):Int):=by
 simp only[vc,Jw,LT.val]
 rw[B6 h]
 exact IS ⟨i.toNat%8,Nat.mod_lt _ (by decide)⟩
theorem Mr:∀c:Fin 256,∀k:Fin 8,(aj.b .and .u8 (c.val:Int) ((128 >>> k.val:Nat):Int) != 0)=c.val.testBit (7-k.val):=by decide +kernel
theorem v_{l:List Int}(h:bp l)(i:Nat):0≤l.getD i 0∧l.getD i 0≤255:=by
 rw[List.getD_eq_getElem?_getD]
 by_cases hi:i<l.length
 ·rw[List.getElem?_eq_getElem hi];exact h _ (List.getElem_mem hi)
 ·rw[List.getElem?_eq_none (by omega)];decide
theorem L0{l:List Int}(h:bp l)(i:Nat):(aj.b .and .u8 (l.getD (i/8) 0) ((128 >>> (i%8):Nat):Int) != 0)=fS l i:=by
 have h1:=v_ h (i/8)
 have h2:=Mr ⟨(l.getD (i/8) 0).toNat,by omega⟩ ⟨i%8,Nat.mod_lt _ (by decide)⟩
 simp only at h2
 rw[show(((l.getD (i/8) 0).toNat:Nat):Int)=l.getD (i/8) 0 from by omega] at h2
 exact h2
def K7(A:bi)(bN:Int)(bB:List Int)(i:Int):LT Bool Empty:=.need (A.and (A.c .leq 0 (A.b .quo .i64 i 8)) (A.c .lss (A.b .quo .i64 i 8) (A.l bB))) (.need (A.k nY i) (.ret (A.c .neq (A.b .and .u8 (A.n yU bB (A.b .quo .i64 i 8):Int) (A.k vc i)) 0)))
def u9:((Int×List Int)×Int)→Bool:=fun((bN,bB),i)=>(K7 aj bN bB i).val (Ty.bZ [.bool])
def rH:((Int×List Int)×Int)→Bool:=fun((n,b),i)=>decide (0≤i)&&decide (i<8*(b.length:Int))
def Xj:aD:=⟨[(.struct [yI,yB]),yI], [.bool],rH,u9⟩
theorem OP:Sd 257 Xj:=aM au cK true 25 [] (fun A ((bN,bB),i)=>K7 A bN bB i) (fc Tryz.func257 fz) (sc Lf sz) (fun(((bN,bB),i):(Int×List Int)×Int) hp h=>by
 show(K7 aj bN bB i).pre=true
 simp only[rH,Bool.and_eq_true,decide_eq_true_eq] at hp
 have hl:=dO h.1
 simp only[K7,LT.pre,ap,aR,aB,ar,nY,Bool.and_eq_true,decide_eq_true_eq,cH]
 rw[DG hp.1 (by omega)]
 refine⟨⟨by omega,by omega⟩,hp.1,trivial⟩)
theorem Dd{n:Int}{b:List Int}{i:Int}(hb:bp b)(h0:0≤i)(h1:i<8*(b.length:Int))(hl:b.length≤140737488355328):u9 ((n,b),i)=fS b i.toNat:=by
 simp only[u9,K7,LT.val,ap,aJ]
 rw[DG h0 (by omega),B7 h0]
 exact L0 hb i.toNat
def TG(A:bi)(bN:Int)(bB:List Int):LT Int Empty:=.br (A.c .lss bN 0) (.ret 10) (.br (A.c .gtr bN 4096) (.ret 10) (.need (A.k (@tt Int) bN) (.br (A.c .neq (A.l bB) (A.k dH bN)) (.ret 10) (.br (A.c .neq (A.b .rem .i64 bN 8) 0) (.need (A.and (A.c .leq 0 (A.b .sub .i64 (A.l bB) 1)) (A.c .lss (A.b .sub .i64 (A.l bB) 1) (A.l bB))) (.need (A.c .leq 0 (A.b .rem .i64 bN 8)) (.br (A.c .neq (A.b .and .u8 (A.n yU bB (A.b .sub .i64 (A.l bB) 1):Int) (A.b .shr .u8 255 (A.b .rem .i64 bN 8))) 0) (.ret 10) (.ret 0)))) (.ret 0)))))
def j_:((Int×List Int))→Int:=fun(bN,bB)=>(TG aj bN bB).val (Ty.bZ [yI])
def aaZ:aD:=⟨[(.struct [yI,yB])], [yI],(@tt ((Int×List Int))),j_⟩
theorem D6:Sd 230 aaZ:=aM au cK true 67 [] (fun A (bN,bB)=>TG A bN bB) (fc Tryz.func230 fz) (sc Jg sz) (fun((bN,bB):(Int×List Int)) hp h=>by
 show(TG aj bN bB).pre=true
 have hl:=dO h
 simp only[TG,LT.pre,ap,aJ,ar,aG,aB,aR,cN,Bool.true_and,cH,fB,decide_eq_true_eq,decide_eq_false_iff_not,Bool.and_eq_true,bne_iff_ne,bne_eq_false_iff_eq,ne_eq,implies_true,and_true,true_and]
 intro h0 h1 h2 h3
 rw[nk (by omega) (by omega)] at h2
 rw[B6 (by omega)] at h3
 rw[aZ,fI (by omega) (by omega),B6 (by omega)]
 omega)
theorem Ju:∀c:Fin 256,∀r:Fin 8,(aj.b .and .u8 (c.val:Int) (aj.b .shr .u8 255 (r.val:Int)) != 0)=!((List.range 8).all fun k=>decide (k<r.val) || !c.val.testBit (7-k)):=by decide +kernel
theorem Gj{n:Int}{b:List Int}(hb:bp b)(hl:b.length≤140737488355328):j_ (n,b)=0↔0≤n∧n≤4096∧okB n.toNat b:=by
 simp only[j_,TG,LT.val,ap,aJ,ar,aG]
 by_cases h0:n<0
 ·simp only[h0,decide_true,cond_true]
  constructor
  ·intro h;cases h
  ·intro h;omega
 ·simp only[h0,decide_false,cond_false]
  by_cases h1:4096<n
  ·simp only[h1,decide_true,cond_true]
   constructor
   ·intro h;cases h
   ·intro h;omega
  ·simp only[h1,decide_false,cond_false]
   rw[nk (by omega) (by omega)]
   have hlen:aj.l b=(b.length:Int):=rfl
   rw[hlen]
   by_cases h2:b.length=(n.toNat+7)/8
   ·rw[show((b.length:Int) != (((n.toNat+7)/8:Nat):Int))=false from by rw[h2];exact bne_self_eq_false _,cond_false,B6 (by omega)]
    by_cases h3:n.toNat%8=0
    ·rw[h3]
     simp only[Int.natCast_zero,bne_self_eq_false,cond_false,true_iff]
     exact⟨by omega,by omega,h2,hb,fun i h4 h5=>by omega⟩
    ·rw[show(((n.toNat%8:Nat):Int) != 0)=true from by simp;omega,cond_true]
     have e:(aj.n (.int .u8) b (aj.b .sub .i64 (b.length:Int) 1):Int)=b.getD (n.toNat/8) 0:=by
      show b.getD (aj.b .sub .i64 (b.length:Int) 1).toNat 0=_
      rw[aZ,fI (by omega) (by omega)]
      congr 1
      omega
     have hx:=v_ hb (n.toNat/8)
     have key:=Ju ⟨(b.getD (n.toNat/8) 0).toNat,by omega⟩ ⟨n.toNat%8,Nat.mod_lt _ (by decide)⟩
     simp only at key
     rw[show(((b.getD (n.toNat/8) 0).toNat:Nat):Int)=b.getD (n.toNat/8) 0 from by omega] at key
     have e2:(aj.b .and .u8 (aj.n (.int .u8) b (aj.b .sub .i64 (b.length:Int) 1):Int) (aj.b .shr .u8 255 ((n.toNat%8:Nat):Int)) != 0)=!((List.range 8).all fun k=>decide (k<n.toNat%8) || !(b.getD (n.toNat/8) 0).toNat.testBit (7-k)):=by
      rw[←key]
      exact congrArg (fun z:Int=>(aj.b .and .u8 z (aj.b .shr .u8 255 ((n.toNat%8:Nat):Int)) != 0)) e
     refine Iff.trans (b:=((List.range 8).all fun k=>decide (k<n.toNat%8) || !(b.getD (n.toNat/8) 0).toNat.testBit (7-k))=true) ?_ ?_
     ·refine Iff.trans (b:=(bif !((List.range 8).all fun k=>decide (k<n.toNat%8) || !(b.getD (n.toNat/8) 0).toNat.testBit (7-k)) then(10:Int) else 0)=0) (by rw[←e2]) ?_
      cases (List.range 8).all fun k=>decide (k<n.toNat%8) || !(b.getD (n.toNat/8) 0).toNat.testBit (7-k)<;>simp
     ·rw[List.all_eq_true]
      constructor
      ·intro h
       refine⟨by omega,by omega,h2,hb,fun i h4 h5=>?_⟩
       have:=h (i%8) (List.mem_range.2 (Nat.mod_lt _ (by decide)))
       have hi:i/8=n.toNat/8:=by omega
       rw[fS,hi]
       simp only[Bool.or_eq_true,decide_eq_true_eq,Bool.not_eq_true'] at this
       rcases this with h6|h6
       ·omega
       ·exact h6
      ·intro ⟨_,_,_,_,h⟩ k hk
       have hk:=List.mem_range.1 hk
       by_cases h6:k<n.toNat%8
       ·simp[h6]
       ·have:=h (8*(n.toNat/8)+k) (by omega) (by omega)
        rw[fS,show(8*(n.toNat/8)+k)/8=n.toNat/8 from by omega,show(8*(n.toNat/8)+k)%8=k from by omega] at this
        rw[this];simp
   ·rw[show((b.length:Int) != (((n.toNat+7)/8:Nat):Int))=true from bne_iff_ne.2 (by omega),cond_true]
    constructor
    ·intro h;cases h
    ·intro h;exact absurd h.2.2.1 h2
theorem DY{x:Int×List Int}:j_ x=0∨j_ x=10:=by
 obtain⟨n,b⟩:=x
 exact LT.jY (p:=fun y=>y=0∨y=10) (.inl rfl) (by simp[TG,LT.all])
theorem kQ{n:Int}{b:List Int}(hb:bp b)(hl:b.length≤140737488355328):j_ (n,b)=bif bO (n,b) then 0 else 10:=by
 have h1:=Gj (n:=n) hb hl
 rw[←gW hb] at h1
 rcases DY (x:=(n,b)) with h2|h2
 ·rw[h2,h1.1 h2];rfl
 ·have:bO (n,b)=false:=by
   rw[←Bool.not_eq_true]
   intro h3
   rw[h1.2 h3] at h2
   cases h2
  rw[h2,this];rfl
theorem eu{i:Nat}(h:i<4611686018427387904):aj.b .add .i64 (i:Int) 1=((i+1:Nat):Int):=by
 rw[bw,fI (by omega) (by omega)];rfl
theorem gf{i j:Nat}(h:i+j<4611686018427387904):aj.b .add .i64 (i:Int) (j:Int)=((i+j:Nat):Int):=by
 rw[bw,fI (by omega) (by omega)];rfl
theorem aO{i j:Nat}:aj.c .lss (i:Int) (j:Int)=decide (i<j):=by
 rw[ar];exact decide_eq_decide.2 Int.ofNat_lt
theorem j6{i j:Nat}:aj.c .leq (i:Int) (j:Int)=decide (i≤j):=by
 rw[aB];exact decide_eq_decide.2 Int.ofNat_le
theorem gZ{i:Nat}:aj.c .leq 0 (i:Int)=true:=by rw[aB];simp
theorem mr{i:Nat}(h:i≤4611686018427387904):aj.b .quo .i64 (i:Int) 8=((i/8:Nat):Int):=by
 rw[DG (by omega) (by omega)];rfl
theorem uR{i:Nat}:aj.b .rem .i64 (i:Int) 8=((i%8:Nat):Int):=by
 rw[B6 (by omega)];rfl
theorem qo{u v:Int}(h:u=v):aj.c .eql u v=true:=by rw[aF,h];exact beq_self_eq_true _
theorem FD{u v:Int}(h:u≠v):aj.c .eql u v=false:=by rw[aF];exact beq_eq_false_iff_ne.2 h
theorem dw{u v:Int}(h:u=v):aj.c .neq u v=false:=by rw[aJ,h];exact bne_self_eq_false _
theorem fL{u v:Int}(h:u≠v):aj.c .neq u v=true:=by rw[aJ];exact bne_iff_ne.2 h
open Go.Ev.Pl
def IC(A:bi)(b:List Int)(i:Int):LT Bool Empty:=.need (A.and (A.c .leq 0 (A.b .quo .i64 i 8)) (A.c .lss (A.b .quo .i64 i 8) (A.l b))) (.need (A.c .leq 0 (A.v .u64 (A.b .sub .i64 7 (A.b .rem .i64 i 8)))) (.ret (A.c .eql (A.b .rem .u8 (A.b .shr .u8 (A.n yU b (A.b .quo .i64 i 8):Int) (A.v .u64 (A.b .sub .i64 7 (A.b .rem .i64 i 8)))) 2) 1)))
def iz:(List Int×Int)→Bool:=fun(b,i)=>(IC aj b i).val (Ty.bZ [.bool])
def jR:(List Int×Int)→Bool:=fun(b,i)=>decide (0≤i)&&decide (i<8*(b.length:Int))
def YE:aD:=⟨[yB,yI], [.bool],jR,iz⟩
theorem K5:Sd 224 YE:=aM au cK true 26 [] (fun A (b,i)=>IC A b i) (fc Tryz.func224 fz) sz (fun((b,i):List Int×Int) hp h=>by
 show(IC aj b i).pre=true
 simp only[jR,Bool.and_eq_true,decide_eq_true_eq] at hp
 have hl:=KL h
 simp only[IC,LT.pre,aR,aB,ar,Bool.and_eq_true,decide_eq_true_eq,cH,bu,Bool.and_true]
 rw[DG hp.1 (by omega),B6 hp.1,aZ,fI (by omega) (by omega),GG (by omega) (by omega)]
 refine⟨⟨by omega,by omega⟩,by omega⟩)
theorem Mm:∀c:Fin 256,∀k:Fin 8,(aj.b .rem .u8 (aj.b .shr .u8 (c.val:Int) (IntKind.u64.wrap (7-(k.val:Int)))) 2==1)=c.val.testBit (7-k.val):=by decide +kernel
theorem nS{b:List Int}{i:Int}(hb:bp b)(h0:0≤i)(h1:i<4611686018427387904):iz (b,i)=fS b i.toNat:=by
 simp only[iz,IC,LT.val,bu]
 rw[DG h0 (by omega),B6 h0,aZ,fI (by omega) (by omega)]
 have hx:=v_ hb (i.toNat/8)
 have key:=Mm ⟨(b.getD (i.toNat/8) 0).toNat,by omega⟩ ⟨i.toNat%8,Nat.mod_lt _ (by decide)⟩
 simp only at key
 rw[show(((b.getD (i.toNat/8) 0).toNat:Nat):Int)=b.getD (i.toNat/8) 0 from by omega] at key
 exact key
structure OW where
 (a1:Int) (a2:List Int)
inductive Y97 where
 | c0 (p:OW) (a0:Int)
noncomputable def aam:Y97→gB
 | .c0 p a0=>⟨[⟨190,36,(en [(1,.ptr 0 0),(3,vi a0)]),[.inLoop (cw Tryz.f190 [1,1,0,1,0,0]),.inBlock 0,.code (cw Tryz.f190 [1,1,1])],[],none⟩],[.flat false [vi p.a1,.sl yU p.a2],.dead]⟩
def t97(A:bi)(bN:Int)(bB:List Int):LT Int Y97:=.br (A.c .lss bN 0) (.ret 10) (.br (A.c .gtr bN 4096) (.ret 10) (.br (A.c .neq (A.l bB) (A.b .quo .i64 (A.b .add .i64 bN 7) 8)) (.ret 10) (.more (.c0 ⟨bN,bB⟩ bN))))
def Vb(A:bi):Y97→LT Int Y97
 | .c0 p a0=>.br (A.c .lss a0 (A.b .mul .i64 8 (A.l p.a2))) (.need (A.k jR (p.a2,a0)) (.br (A.k iz (p.a2,a0)) (.ret 10) (.more (.c0 p (A.b .add .i64 a0 1))))) (.ret 0)
theorem Mt{n:Nat}{b:List Int}(p:OW)(hp:p.a2=b)(hb:bp b)(hl:b.length≤140737488355328):∀(j i:Nat),8*b.length-i=j→aA (Vb aj) (.more (.c0 p (i:Int))) (bif (List.range (8*b.length)).all (fun k=>decide (k<i) || !fS b k) then 0 else 10):=by
 subst hp
 intro j
 have hm:aj.b .mul .i64 8 (aj.l p.a2)=((8*p.a2.length:Nat):Int):=by
  show IntKind.i64.wrap (8*(p.a2.length:Int))=_
  rw[fI (by omega) (by omega)];omega
 induction j with
 | zero=>
   intro i hj
   rw[show((List.range (8*p.a2.length)).all fun k=>decide (k<i) || !fS p.a2 k)=true from by
    rw[List.all_eq_true];intro k hk;have:=List.mem_range.1 hk;simp;omega]
   simp only[al,Vb,lg,hm,aO]
   rw[show decide (i<8*p.a2.length)=false from by simp;omega]
   exact .ret _
 | succ j ih=>
   intro i hj
   simp only[al,Vb,lg,hm,aO]
   rw[show decide (i<8*p.a2.length)=true from by simp;omega]
   simp only[cond_true,af,ap]
   refine⟨by simp[jR];omega,?_⟩
   rw[nS hb (by omega) (by omega),Int.toNat_natCast,eu (by omega)]
   cases hbit:fS p.a2 i
   ·refine(ah rfl).2 ?_
    have:=ih (i+1) (by omega)
    have e:((List.range (8*p.a2.length)).all fun k=>decide (k<i) || !fS p.a2 k)=((List.range (8*p.a2.length)).all fun k=>decide (k<i+1) || !fS p.a2 k):=by
     rw[Bool.eq_iff_iff,List.all_eq_true,List.all_eq_true]
     constructor
     ·intro h k hk
      have:=h k hk
      simp at this ⊢
      rcases this with h1|h1
      ·exact .inl (by omega)
      ·exact .inr h1
     ·intro h k hk
      have:=h k hk
      simp at this ⊢
      by_cases hki:k=i
      ·subst hki;exact .inr hbit
      ·rcases this with h1|h1
       ·exact .inl (by omega)
       ·exact .inr h1
    rw[e]
    exact this
   ·refine(ai rfl).2 ?_
    rw[show((List.range (8*p.a2.length)).all fun k=>decide (k<i) || !fS p.a2 k)=false from by
     rw[List.all_eq_false];exact⟨i,List.mem_range.2 (by omega),by simp[hbit]⟩]
    exact .ret _
theorem R0{n:Int}{b:List Int}(h:Ty.dK [(.struct [(.int .i64),(.slice (.int .u8))])] (n,b)):aA (Vb aj) (t97 aj n b) (bif bO (n,b) then 0 else 10):=by
 have hb:=(eZ h).2.2
 have hl:=dO h
 have hn:=(eZ h).1
 unfold t97
 rw[bO]
 by_cases h0:n<0
 ·refine(ai (by simpa [ar] using h0)).2 ?_
  rw[show decide (0≤n)=false from by simp;omega]
  exact .ret _
 ·refine(ah (by simpa [ar] using h0)).2 ?_
  by_cases h1:4096<n
  ·refine(ai (by simpa [aG] using h1)).2 ?_
   rw[show decide (n≤4096)=false from by simp;omega,Bool.and_false]
   exact .ret _
  ·refine(ah (by simpa [aG] using h1)).2 ?_
   rw[show decide (0≤n)=true from by simp;omega,show decide (n≤4096)=true from by simp;omega,bw,fI (by omega) (by omega),DG (by omega) (by omega),show(n+7).toNat/8=(n.toNat+7)/8 from by omega]
   by_cases h2:b.length=(n.toNat+7)/8
   ·refine(ah (dw (show(b.length:Int)=_ by rw[h2]))).2 ?_
    rw[show(b.length==(n.toNat+7)/8)=true from by simpa using h2]
    have:=Mt (n:=n.toNat) ⟨n,b⟩ rfl hb hl (8*b.length-n.toNat) n.toNat rfl
    rw[show((n.toNat:Nat):Int)=n from by omega] at this
    exact this
   ·refine(ai (fL (show(b.length:Int)≠_ by omega))).2 ?_
    rw[show(b.length==(n.toNat+7)/8)=false from by simpa using h2]
    simp only[Bool.and_false,Bool.false_and,cond_false]
    exact .ret _
def kJ:((Int×List Int))→Int:=fun x=>bif bO x then 0 else 10
def acL:aD:=⟨[(.struct [yI,yB])], [yI],(@tt ((Int×List Int))),kJ⟩
theorem Ms:Sd 190 acL:=aL au cK true 44 [⟨190,4, [[1,3]]⟩] [] (fun A (bN,bB)=>t97 A bN bB) Vb aam (fc Tryz.func190 fz) (sc K5 sz) (fun A y=>match y with |.c0 p a0=>⟨35,by kernel_rfl,by kernel_rfl⟩) fun(bN,bB) hp h=>R0 h
open Go.Ev.Pl
structure QM where
 (a0 a1:Int) (a2:List Int)
structure Kl where
 (b1:Int) (b2:List Int)
inductive Gx where
 | c0 (p:QM)
 | c1 (p:Kl) (b0:Int) (b3:List Bool)
noncomputable def Sn:Gx→gB
 | .c0 p=>⟨[⟨191,22,(en [(1,.ptr 0 0),(3,.bK true),(4,vi p.a0)]),[.inLoop (cw Tryz.f191 [1,1,1,0,1,0,0]),.inBlock 0,.code (cw Tryz.f191 [1,1,1,1])],[],none⟩],[.flat false [vi p.a1,.sl yU p.a2],.dead]⟩
 | .c1 p b0 b3=>⟨[⟨191,22,(en [(1,.ptr 0 0),(3,.own 1),(4,vi b0)]),[.inLoop (cw Tryz.f191 [1,1,1,0,1,0,0]),.inBlock 0,.code (cw Tryz.f191 [1,1,1,1])],[],none⟩],[.flat false [vi p.b1,.sl yU p.b2],.arr false .bool b3,.dead]⟩
def t127(A:bi)(bN:Int)(bB:List Int):LT (List Bool) Gx:=.need (A.k (@tt ((Int×List Int))) (bN,bB)) (.br (A.c .neq (A.k kJ (bN,bB)) 0) (.ret ([]:List Bool)) (.more (.c0 ⟨0,bN,bB⟩)))
def EH(A:bi):Gx→LT (List Bool) Gx
 | .c0 p=>.br (A.c .lss p.a0 p.a1) (.need (A.k jR (p.a2,p.a0)) (.need (A.c .leq (A.l ([(A.k iz (p.a2,p.a0))]:List Bool)) 140737488355328) (.more (.c1 ⟨p.a1,p.a2⟩ (A.b .add .i64 p.a0 1) [(A.k iz (p.a2,p.a0))])))) (.ret ([]:List Bool))
 | .c1 p b0 b3=>.br (A.c .lss b0 p.b1) (.need (A.k jR (p.b2,b0)) (.need (A.c .leq (A.l (A.p b3 [(A.k iz (p.b2,b0))])) 140737488355328) (.more (.c1 p (A.b .add .i64 b0 1) (A.p b3 [(A.k iz (p.b2,b0))]))))) (.ret b3)
theorem bl{R Y:Type}{step:Y→LT R Y}{t t':LT R Y}{r:R}(h:t=t')(h2:aA step t' r):aA step t r:=h▸h2
theorem Hl{n:Nat}{b:List Int}(hb:bp b)(hl:b.length≤140737488355328)(hn:n≤4096)(hok:n≤8*b.length):∀(j i:Nat) (p:Kl),p.b1=(n:Int)→p.b2=b→n-i=j→i≤n→aA (EH aj) (.more (.c1 p (i:Int) (unpack i b))) (unpack n b):=by
 intro j
 induction j with
 | zero=>
   intro i p h1 h2 hj hi
   have:i=n:=by omega
   subst this
   simp only[al,EH,lg,h1,aO]
   rw[show decide (i<i)=false from by simp]
   exact .ret _
 | succ j ih=>
   intro i p h1 h2 hj hi
   simp only[al,EH]
   refine(ai (by rw[h1,aO];simp;omega)).2 (af.2 ⟨?_,af.2 ⟨?_,?_⟩⟩)
   ·rw[h2,ap];simp[jR];omega
   ·show decide (((unpack i b ++ [_]).length:Int)≤140737488355328)=true
    rw[List.length_append,bg]
    simp;omega
   ·have e:(aj.p (unpack i b) [(aj.k iz (p.b2,(i:Int)))]:List Bool)=unpack (i+1) b:=by
     show unpack i b ++ [iz (p.b2,(i:Int))]=_
     rw[h2,nS hb (by omega) (by omega),tp,Int.toNat_natCast]
    exact bl (congrArg LT.more (congr (congrArg (Gx.c1 p) (eu (by omega))) e)) (ih (i+1) p h1 h2 (by omega) (by omega))
theorem aah{n:Int}{b:List Int}(h:Ty.dK [(.struct [(.int .i64),(.slice (.int .u8))])] (n,b)):aA (EH aj) (t127 aj n b) (bif bO (n,b) then bR (n,b) else[]):=by
 have hb:=(eZ h).2.2
 have hl:=dO h
 unfold t127
 refine af.2 ⟨rfl,?_⟩
 cases hok:bO (n,b)
 ·refine(ai (show(kJ (n,b) != 0)=true by rw[kJ,hok];rfl)).2 ?_
  exact .ret _
 ·refine(ah (show(kJ (n,b) != 0)=false by rw[kJ,hok];rfl)).2 ?_
  obtain⟨h1,h2,h3⟩:=(gW hb).1 hok
  have h4:=h3.1
  rw[cond_true]
  simp only[al,EH]
  show aA (EH aj) _ (unpack n.toNat b)
  by_cases h0:0<n
  ·refine(ai (by rw[ar];simpa using h0)).2 (af.2 ⟨?_,af.2 ⟨rfl,?_⟩⟩)
   ·rw[ap];simp[jR];omega
   ·have e:([(aj.k iz (b,(0:Int)))]:List Bool)=unpack 1 b:=by
     show[iz (b,(0:Int))]=_
     rw[nS hb (by omega) (by omega)];rfl
    refine bl (congrArg LT.more (congr (congrArg (Gx.c1 ⟨n,b⟩) (eu (i:=0) (by omega))) e)) ?_
    exact Hl hb hl (by omega) (by omega) (n.toNat-1) 1 ⟨n,b⟩ (by show n=_;omega) rfl (by omega) (by omega)
  ·refine(ah (by rw[ar];simp;omega)).2 ?_
   rw[show n.toNat=0 from by omega]
   exact .ret _
def kW:((Int×List Int))→(List Bool):=fun x=>bif bO x then bR x else[]
def Xb:aD:=⟨[(.struct [yI,yB])], [(.slice .bool)],(@tt ((Int×List Int))),kW⟩
theorem O7:Sd 191 Xb:=aL au cK true 31 [⟨191,5, [[1,3,4]]⟩] [] (fun A (bN,bB)=>t127 A bN bB) EH Sn (fc Tryz.func191 fz) (sc Ms (sc K5 sz)) (fun A y=>match y with |.c0 p=>⟨34,by kernel_rfl,by kernel_rfl⟩|.c1 p b0 b3=>⟨34,by kernel_rfl,by kernel_rfl⟩) fun(bN,bB) hp h=>aah h
structure IA where
 (a0:List Bool) (a2 a3:Int)
inductive Gs where
 | c0 (p:IA) (a1:Int) (a4:List Int)
noncomputable def Pn:Gs→gB
 | .c0 p a1 a4=>⟨[⟨192,42,(en [(0,.sl .bool p.a0),(2,.ptr 0 0),(4,.ptr 1 0),(5,vi a1)]),[.inLoop (cw Tryz.f192 [1,1,1,0,1,0,0]),.inBlock 0,.code (cw Tryz.f192 [1,1,1,1])],[],none⟩],[.flat false [vi p.a2,.bK true],.flat false [vi p.a3,.own 2],.arr false yU a4,.dead]⟩
def TA(A:bi)(l:List Bool):LT ((Int×List Int)×Int) Gs:=.br (A.c .gtr (A.l l) 4096) (.ret ((0,([]:List Int)),3)) (.need (A.and (A.c .eql (A.b .quo .i64 (A.b .add .i64 (A.l l) 7) 8) (A.b .quo .i64 (A.b .add .i64 (A.l l) 7) 8)) (A.and (A.c .leq 0 (A.b .quo .i64 (A.b .add .i64 (A.l l) 7) 8)) (A.c .leq (A.b .quo .i64 (A.b .add .i64 (A.l l) 7) 8) 140737488355328))) (.more (.c0 ⟨l,0,(A.l l)⟩ 0 (A.r (A.b .quo .i64 (A.b .add .i64 (A.l l) 7) 8) (0:Int)))))
def KA(A:bi):Gs→LT ((Int×List Int)×Int) Gs
 | .c0 p a1 a4=>.br (A.c .lss a1 (A.l p.a0)) (.need (A.and (A.c .leq 0 a1) (A.c .lss a1 (A.l p.a0))) (.br (A.n .bool p.a0 a1:Bool) (.need (A.and (A.c .leq 0 (A.b .quo .i64 a1 8)) (A.c .lss (A.b .quo .i64 a1 8) (A.l a4))) (.need (A.c .leq 0 (A.v .u64 (A.b .sub .i64 7 (A.b .rem .i64 a1 8)))) (.need (A.and (A.c .leq 0 (A.b .quo .i64 a1 8)) (A.c .lss (A.b .quo .i64 a1 8) (A.l a4))) (.more (.c0 p (A.b .add .i64 a1 1) (A.set a4 (A.b .quo .i64 a1 8) (A.b .or .u8 (A.n yU a4 (A.b .quo .i64 a1 8):Int) (A.b .shl .u8 1 (A.v .u64 (A.b .sub .i64 7 (A.b .rem .i64 a1 8))))))))))) (.more (.c0 p (A.b .add .i64 a1 1) a4)))) (.ret ((p.a3,a4),0))
theorem Mh:∀c:Fin 256,∀k:Fin 8,aj.b .or .u8 (c.val:Int) (aj.b .shl .u8 1 (IntKind.u64.wrap (7-(k.val:Int))))=((c.val ||| 128 >>> k.val:Nat):Int):=by decide +kernel
theorem MM:∀c:Fin 256,∀k:Fin 8,aj.b .or .u8 (c.val:Int) ((128 >>> k.val:Nat):Int)=((c.val ||| 128 >>> k.val:Nat):Int):=by decide +kernel
theorem NY{B:List Int}{l:List Bool}{m i:Nat}(h:Holds B l m)(hi:l.length=i)(h1:i<8*m)(hm:m≤100000) :
  Holds (aj.set B (aj.b .quo .i64 (i:Int) 8) (aj.b .or .u8 (aj.n (.int .u8) B (aj.b .quo .i64 (i:Int) 8):Int) (aj.b .shl .u8 1 (aj.v .u64 (aj.b .sub .i64 7 (aj.b .rem .i64 (i:Int) 8)))))) (l ++ [true]) m:=by
 rw[mr (by omega),uR,aZ,fI (by omega) (by omega),bu]
 have key:=Mh ⟨(B.getD (i/8) 0).toNat,qW h.2.1 _⟩ ⟨i%8,Nat.mod_lt _ (by decide)⟩
 simp only at key
 rw[show(((B.getD (i/8) 0).toNat:Nat):Int)=B.getD (i/8) 0 from Int.toNat_of_nonneg (v_ h.2.1 _).1] at key
 have:=h.set (by omega)
 rw[hi] at this
 rw[←key] at this
 exact this
theorem Df{B:List Int}{l:List Bool}{m i:Nat}(h:Holds B l m)(hi:l.length=i)(h1:i<8*m)(hm:m≤100000) :
  Holds (aj.set B (aj.b .quo .i64 (i:Int) 8) (aj.b .or .u8 (aj.n (.int .u8) B (aj.b .quo .i64 (i:Int) 8):Int) (aj.k vc (i:Int)))) (l ++ [true]) m:=by
 rw[mr (by omega),ap,B7 (by omega),Int.toNat_natCast]
 have key:=MM ⟨(B.getD (i/8) 0).toNat,qW h.2.1 _⟩ ⟨i%8,Nat.mod_lt _ (by decide)⟩
 simp only at key
 rw[show(((B.getD (i/8) 0).toNat:Nat):Int)=B.getD (i/8) 0 from Int.toNat_of_nonneg (v_ h.2.1 _).1] at key
 have:=h.set (by omega)
 rw[hi] at this
 rw[←key] at this
 exact this
theorem oG{l:List Bool}{i:Nat}(h:i<l.length):l.take (i+1)=l.take i ++ [l.getD i false]:=by
 rw[List.take_succ_eq_append_getElem h,List.getD_eq_getElem?_getD,List.getElem?_eq_getElem h];rfl
theorem Ny{l:List Bool}(hl:l.length≤4096):∀(j i:Nat) (p:IA) (B:List Int),p.a0=l→p.a3=(l.length:Int)→l.length-i=j→i≤l.length→Holds B (l.take i) ((l.length+7)/8)→aA (KA aj) (.more (.c0 p (i:Int) B)) (bS l,0):=by
 intro j
 induction j with
 | zero=>
   intro i p B h1 h2 hj hi hB
   have:i=l.length:=by omega
   subst this
   simp only[al,KA]
   have hlen:aj.l p.a0=(l.length:Int):=by rw[h1];rfl
   refine(ah (by rw[hlen,aO];simp)).2 ?_
   rw[List.take_length] at hB
   rw[h2,hB.done rfl]
   exact .ret _
 | succ j ih=>
   intro i p B h1 h2 hj hi hB
   simp only[al,KA]
   have hlen:aj.l p.a0=(l.length:Int):=by rw[h1];rfl
   have hlb:aj.l B=(((l.length+7)/8:Nat):Int):=by rw[←hB.1];rfl
   have hq:(aj.and (aj.c .leq 0 (aj.b .quo .i64 (i:Int) 8)) (aj.c .lss (aj.b .quo .i64 (i:Int) 8) (aj.l B)))=true:=by
    rw[mr (by omega),hlb,gZ,aO,aR];simp;omega
   have htl:(l.take i).length=i:=by rw[List.length_take];omega
   refine(ai (by rw[hlen,aO];simp;omega)).2 (af.2 ⟨by rw[gZ,hlen,aO,aR];simp;omega,?_⟩)
   have hb:(aj.n .bool p.a0 (i:Int):Bool)=l.getD i false:=by
    show p.a0.getD (i:Int).toNat false=_
    rw[h1,Int.toNat_natCast]
   have hts:=oG (l:=l) (i:=i) (by omega)
   cases hx:l.getD i false
   ·rw[hx] at hts
    refine(ah (hb.trans hx)).2 ?_
    exact bl (congrArg LT.more (congr (congrArg (Gs.c0 p) (eu (by omega))) rfl)) (ih (i+1) p B h1 h2 (by omega) (by omega) (hts▸hB.skip))
   ·rw[hx] at hts
    refine(ai (hb.trans hx)).2 (af.2 ⟨hq,af.2 ⟨?_,af.2 ⟨hq,?_⟩⟩⟩)
    ·rw[uR,aZ,fI (by omega) (by omega),bu,GG (by omega) (by omega),aB];simp;omega
    ·exact bl (congrArg LT.more (congr (congrArg (Gs.c0 p) (eu (by omega))) rfl)) (ih (i+1) p _ h1 h2 (by omega) (by omega) (hts▸NY hB htl (by omega) (by omega)))
theorem of1{l:List Bool}:aA (KA aj) (TA aj l) (xJ l):=by
 unfold TA
 have hlen:aj.l l=(l.length:Int):=rfl
 rw[xJ]
 by_cases hl:4096<l.length
 ·refine(ai (by rw[hlen,aG];simp;omega)).2 ?_
  rw[show decide (4096<l.length)=true from by simpa using hl]
  exact .ret _
 ·have hq:aj.b .quo .i64 (aj.b .add .i64 (aj.l l) 7) 8=(((l.length+7)/8:Nat):Int):=by
   rw[hlen,show aj.b .add .i64 (l.length:Int) 7=((l.length+7:Nat):Int) from gf (j:=7) (by omega),mr (by omega)]
  refine(ah (by rw[hlen,aG];simp;omega)).2 (af.2 ⟨?_,?_⟩)
  ·rw[hq,gZ,qo rfl,aB,aR,aR];simp;omega
  ·rw[show decide (4096<l.length)=false from by simpa using hl]
   refine Ny (by omega) l.length 0 _ _ rfl rfl (by omega) (by omega) ?_
   rw[hq,lY,Int.toNat_natCast]
   exact Holds.blank _
def tC:(List Bool)→((Int×List Int)×Int):=xJ
def UW:aD:=⟨[(.slice .bool)], [(.struct [yI,yB]),yI],(@tt (List Bool)),tC⟩
theorem O2:Sd 192 UW:=aL au cK true 40 [⟨192,5, [[0,2,4,5]]⟩] [] (fun A l=>TA A l) KA Pn (fc Tryz.func192 fz) sz (fun A y=>match y with |.c0 p a1 a4=>⟨48,by kernel_rfl,by kernel_rfl⟩) fun l hp h=>of1
open Go.Ev.Pl
structure Jk where
 (a0 a1 a2:Int)
structure Kq where
 (b0 b1 b2 b3:Int) (b4:List Int) (b5:Int)
structure IU where
 (c0 c2:Int)
structure Hu where
 (d1 d2 d3:Int) (d4:List Int) (d6:Int)
inductive C5 where
 | c0 (p:Jk)
 | c1 (p:Kq)
 | c2 (p:IU) (c1:Int) (c3:List Bool)
 | c3 (p:Hu) (d0:Int) (d5:List Bool)
noncomputable def QU:C5→gB
 | .c0 p=>⟨[⟨188,53,(en [(1,.int .u64 false p.a0),(6,.ptr 0 0),(8,.bK true),(9,vi p.a1)]),[.inLoop (cw Tryz.f188 [1,1,1,1,0,1,0,0]),.inBlock 0,.code (cw Tryz.f188 [1,1,1,1,1])],[],none⟩],[.flat false [vi p.a2,.bK true],.dead]⟩
 | .c1 p=>⟨[⟨191,22,(en [(1,.ptr 0 0),(3,.bK true),(4,vi p.b0)]),[.inLoop (cw Tryz.f191 [1,1,1,0,1,0,0]),.inBlock 0,.code (cw Tryz.f191 [1,1,1,1])],[],none⟩,⟨188,53,(en [(1,.int .u64 false p.b1),(2,vi p.b2),(6,.ptr 1 0)]),[.ops (ow Tryz.f188 [1,1,1,0]) ((ow Tryz.f188 [1,1,1,0]).toList.drop 1),.code (cw Tryz.f188 [1,1,1,1])],[],none⟩],[.flat false [vi p.b3,.sl yU p.b4],.flat false [vi p.b5,.bK true],.dead]⟩
 | .c2 p c1 c3=>⟨[⟨188,53,(en [(1,.int .u64 false p.c0),(6,.ptr 0 0),(8,.own 1),(9,vi c1)]),[.inLoop (cw Tryz.f188 [1,1,1,1,0,1,0,0]),.inBlock 0,.code (cw Tryz.f188 [1,1,1,1,1])],[],none⟩],[.flat false [vi p.c2,.bK true],.arr false .bool c3,.dead]⟩
 | .c3 p d0 d5=>⟨[⟨191,22,(en [(1,.ptr 0 0),(3,.own 1),(4,vi d0)]),[.inLoop (cw Tryz.f191 [1,1,1,0,1,0,0]),.inBlock 0,.code (cw Tryz.f191 [1,1,1,1])],[],none⟩,⟨188,53,(en [(1,.int .u64 false p.d1),(2,vi p.d2),(6,.ptr 2 0)]),[.ops (ow Tryz.f188 [1,1,1,0]) ((ow Tryz.f188 [1,1,1,0]).toList.drop 1),.code (cw Tryz.f188 [1,1,1,1])],[],none⟩],[.flat false [vi p.d3,.sl yU p.d4],.arr false .bool d5,.flat false [vi p.d6,.bK true],.dead]⟩
def SN(A:bi)(bN:Int)(bB:List Int)(v:Int)(width:Int):LT ((Int×List Int)×Int) C5:=.need (A.k (@tt ((Int×List Int))) (bN,bB)) (.br (A.c .neq (A.k kJ (bN,bB)) 0) (.ret ((0,([]:List Int)),10)) (.br (A.c .lss width 0) (.ret ((0,([]:List Int)),2)) (.br (A.c .gtr width 64) (.ret ((0,([]:List Int)),2)) (.br (A.c .lss width 64) (.need (A.c .leq 0 (A.v .u64 width)) (.br (A.c .neq (A.b .shr .u64 v (A.v .u64 width)) 0) (.ret ((0,([]:List Int)),2)) (.need (A.k (@tt ((Int×List Int))) (bN,bB)) (.br (A.c .neq (A.k kJ (bN,bB)) 0) (.more (.c0 ⟨v,(A.b .sub .i64 width 1),0⟩)) (.more (.c1 ⟨0,v,width,bN,bB,0⟩)))))) (.need (A.k (@tt ((Int×List Int))) (bN,bB)) (.br (A.c .neq (A.k kJ (bN,bB)) 0) (.more (.c0 ⟨v,(A.b .sub .i64 width 1),0⟩)) (.more (.c1 ⟨0,v,width,bN,bB,0⟩))))))))
def ry(A:bi):C5→LT ((Int×List Int)×Int) C5
 | .c0 p=>.br (A.c .geq p.a1 0) (.need (A.c .leq 0 (A.v .u64 p.a1)) (.need (A.c .leq (A.l ([(A.c .eql (A.b .rem .u64 (A.b .shr .u64 p.a0 (A.v .u64 p.a1)) 2) 1)]:List Bool)) 140737488355328) (.more (.c2 ⟨p.a0,p.a2⟩ (A.b .sub .i64 p.a1 1) [(A.c .eql (A.b .rem .u64 (A.b .shr .u64 p.a0 (A.v .u64 p.a1)) 2) 1)])))) (.need (A.k (@tt (List Bool)) ([]:List Bool)) (.ret (A.k tC ([]:List Bool))))
 | .c1 p=>.br (A.c .lss p.b0 p.b3) (.need (A.k jR (p.b4,p.b0)) (.need (A.c .leq (A.l ([(A.k iz (p.b4,p.b0))]:List Bool)) 140737488355328) (.more (.c3 ⟨p.b1,p.b2,p.b3,p.b4,p.b5⟩ (A.b .add .i64 p.b0 1) [(A.k iz (p.b4,p.b0))])))) (.more (.c0 ⟨p.b1,(A.b .sub .i64 p.b2 1),p.b5⟩))
 | .c2 p c1 c3=>.br (A.c .geq c1 0) (.need (A.c .leq 0 (A.v .u64 c1)) (.need (A.c .leq (A.l (A.p c3 [(A.c .eql (A.b .rem .u64 (A.b .shr .u64 p.c0 (A.v .u64 c1)) 2) 1)])) 140737488355328) (.more (.c2 p (A.b .sub .i64 c1 1) (A.p c3 [(A.c .eql (A.b .rem .u64 (A.b .shr .u64 p.c0 (A.v .u64 c1)) 2) 1)]))))) (.need (A.k (@tt (List Bool)) c3) (.ret (A.k tC c3)))
 | .c3 p d0 d5=>.br (A.c .lss d0 p.d3) (.need (A.k jR (p.d4,d0)) (.need (A.c .leq (A.l (A.p d5 [(A.k iz (p.d4,d0))])) 140737488355328) (.more (.c3 p (A.b .add .i64 d0 1) (A.p d5 [(A.k iz (p.d4,d0))]))))) (.more (.c2 ⟨p.d1,p.d6⟩ (A.b .sub .i64 p.d2 1) d5))
theorem EW{a:Int}{n:Nat}(h:0≤a)(hn:n≤64):aj.b .shr .u64 a (n:Int)=((a.toNat/2^n:Nat):Int):=by
 show a.fdiv (2^min (n:Int).toNat 64)=_
 obtain⟨m,rfl⟩:=Int.eq_ofNat_of_zero_le h
 rw[Int.toNat_natCast,Nat.min_eq_left hn,Int.fdiv_eq_ediv_of_nonneg _ (Int.pow_nonneg (by decide))]
 simp
theorem Lg{a:Int}{n:Nat}(h:0≤a)(hn:n≤32):aj.b .shr .u32 a (n:Int)=((a.toNat/2^n:Nat):Int):=by
 show a.fdiv (2^min (n:Int).toNat 32)=_
 obtain⟨m,rfl⟩:=Int.eq_ofNat_of_zero_le h
 rw[Int.toNat_natCast,Nat.min_eq_left hn,Int.fdiv_eq_ediv_of_nonneg _ (Int.pow_nonneg (by decide))]
 simp
theorem dY{n:Nat}(h:n<4611686018427387904):aj.v .u64 (n:Int)=(n:Int):=by rw[bu,GG (by omega) (by omega)]
theorem Ce{k:IntKind}{m:Nat}:aj.c .eql (aj.b .rem k (m:Int) 2) 1=decide (m%2=1):=by
 show((m:Int).tmod 2==1)=_
 rw[Int.tmod_eq_emod_of_nonneg (by omega),Bool.eq_iff_iff]
 simp only[beq_iff_eq,decide_eq_true_eq]
 omega
theorem F8{v:Int}{k:Nat}(h:0≤v)(hk:k≤64):aj.c .eql (aj.b .rem .u64 (aj.b .shr .u64 v (aj.v .u64 (k:Int))) 2) 1=v.toNat.testBit k:=by
 rw[dY (by omega),EW h hk,Ce,Nat.testBit_eq_decide_div_mod_eq]
theorem KW{m:Nat}:aj.c .eql (aj.b .and .u64 (m:Int) 1) 1=decide (m%2=1):=by
 show(IntKind.u64.wrap ((BitVec.ofInt 64 (m:Int) &&& BitVec.ofInt 64 1).toNat:Int)==1)=_
 rw[BitVec.ofInt_natCast,show BitVec.ofInt 64 1=BitVec.ofNat 64 1 from rfl,BitVec.toNat_and,BitVec.toNat_ofNat,BitVec.toNat_ofNat,show 1%2^64=1 from rfl,Nat.and_one_is_mod,GG (by omega) (by omega),Bool.eq_iff_iff]
 simp only[beq_iff_eq,decide_eq_true_eq]
 omega
theorem Kt{v:Int}{k:Nat}(h:0≤v)(hk:k≤64):aj.c .eql (aj.b .and .u64 (aj.b .shr .u64 v (k:Int)) 1) 1=v.toNat.testBit k:=by
 rw[EW h hk,KW,Nat.testBit_eq_decide_div_mod_eq]
theorem mm{i j:Nat}(h:j≤i)(hi:i<4611686018427387904):aj.b .sub .i64 (i:Int) (j:Int)=((i-j:Nat):Int):=by
 rw[aZ,fI (by omega) (by omega)];omega
theorem tY(v k:Nat):bitsOf v (k+1)=v.testBit k::bitsOf v k:=by
 rw[bitsOf,List.range_succ_eq_map,List.map_cons,List.map_map]
 congr 1
 apply List.map_congr_left
 intro a _
 show v.testBit (k+1-1-(a+1))=v.testBit (k-1-a)
 congr 1;omega
theorem uK{v:Int}{w:Nat}(h:0≤v):decide ((2:Int)^w≤v)=(((v.toNat/2^w:Nat):Int) != 0):=by
 obtain⟨m,rfl⟩:=Int.eq_ofNat_of_zero_le h
 rw[Int.toNat_natCast,Bool.eq_iff_iff]
 have h2:(2:Int)^w=((2^w:Nat):Int):=by simp
 rw[h2,decide_eq_true_eq,bne_iff_ne]
 have hp:=Nat.two_pow_pos w
 constructor
 ·intro h3
  have:1≤m/2^w:=(Nat.le_div_iff_mul_le hp).2 (by omega)
  omega
 ·intro h3
  have:1≤m/2^w:=Nat.pos_of_ne_zero fun h=>h3 (by rw[h];rfl)
  have:=(Nat.le_div_iff_mul_le hp).1 this
  omega
theorem Fw{n v w:Int}{b:List Int}(h:Ty.dK [(.struct [(.int .i64),(.slice (.int .u8))]),(.int .u64),(.int .i64)] ((n,b),v,w)):Ty.has (.struct [(.int .i64),(.slice (.int .u8))]) (n,b)∧(0≤v∧v≤18446744073709551615)∧(-9223372036854775808≤w∧w≤9223372036854775807):=h
theorem IX{v:Int}(hv:0≤v):∀(k:Nat) (c1:Int) (c3:List Bool) (p:IU),p.c0=v→c1=(k:Int)-1→k≤64→c3.length+k≤4200→aA (ry aj) (.more (.c2 p c1 c3)) (xJ (c3++bitsOf v.toNat k)):=by
 intro k
 induction k with
 | zero=>
   intro c1 c3 p h1 h2 _ _
   simp only[al,ry]
   refine(ah (by rw[aN,h2];decide)).2 (af.2 ⟨rfl,?_⟩)
   rw[show bitsOf v.toNat 0=[] from rfl,List.append_nil]
   exact .ret _
 | succ k ih=>
   intro c1 c3 p h1 h2 hk hl
   have h3:c1=(k:Int):=by omega
   subst h3
   simp only[al,ry]
   refine(ai (by rw[aN];simp)).2 (af.2 ⟨by rw[dY (by omega),gZ],af.2 ⟨?_,?_⟩⟩)
   ·show decide (((c3 ++ [_]).length:Int)≤140737488355328)=true
    rw[List.length_append];simp;omega
   ·have e:(aj.p c3 [(aj.c .eql (aj.b .rem .u64 (aj.b .shr .u64 p.c0 (aj.v .u64 (k:Int))) 2) 1)]:List Bool)=c3 ++ [v.toNat.testBit k]:=by
     show c3 ++ [_]=_
     rw[h1,F8 hv (by omega)]
    have:=ih ((k:Int)-1) (c3 ++ [v.toNat.testBit k]) p h1 rfl (by omega) (by rw[List.length_append];simp;omega)
    rw[List.append_assoc,show[v.toNat.testBit k]++bitsOf v.toNat k=bitsOf v.toNat (k+1) from by rw[tY];rfl] at this
    exact bl (congrArg LT.more (congr (congrArg (C5.c2 p) (show aj.b .sub .i64 (k:Int) 1=(k:Int)-1 by rw[aZ,fI (by omega) (by omega)])) e)) this
theorem Qx{v:Int}(hv:0≤v){k:Nat}(p:Jk)(h1:p.a0=v)(h2:p.a1=(k:Int)-1)(hk:k≤64):aA (ry aj) (.more (.c0 p)) (xJ (bitsOf v.toNat k)):=by
 cases k with
 | zero=>
   simp only[al,ry]
   refine(ah (by rw[aN,h2];decide)).2 (af.2 ⟨rfl,?_⟩)
   exact .ret _
 | succ k=>
   have h3:p.a1=(k:Int):=by omega
   simp only[al,ry,h3]
   refine(ai (by rw[aN];simp)).2 (af.2 ⟨by rw[dY (by omega),gZ],af.2 ⟨rfl,?_⟩⟩)
   have e:([(aj.c .eql (aj.b .rem .u64 (aj.b .shr .u64 p.a0 (aj.v .u64 (k:Int))) 2) 1)]:List Bool)=[v.toNat.testBit k]:=by
    rw[h1,F8 hv (by omega)]
   have:=IX hv k ((k:Int)-1) [v.toNat.testBit k] ⟨p.a0,p.a2⟩ h1 rfl (by omega) (by simp;omega)
   rw[show[v.toNat.testBit k]++bitsOf v.toNat k=bitsOf v.toNat (k+1) from by rw[tY];rfl] at this
   exact bl (congrArg LT.more (congr (congrArg (C5.c2 ⟨p.a0,p.a2⟩) (show aj.b .sub .i64 (k:Int) 1=(k:Int)-1 by rw[aZ,fI (by omega) (by omega)])) e)) this
theorem SC{v:Int}{n w:Nat}{b:List Int}(hv:0≤v)(hb:bp b)(hl:b.length≤140737488355328)(hn:n≤4096)(hw:w≤64)(hok:n≤8*b.length):∀(j i:Nat) (p:Hu),p.d1=v→p.d2=(w:Int)→p.d3=(n:Int)→p.d4=b→n-i=j→i≤n→aA (ry aj) (.more (.c3 p (i:Int) (unpack i b))) (xJ (unpack n b++bitsOf v.toNat w)):=by
 intro j
 induction j with
 | zero=>
   intro i p h1 h2 h3 h4 hj hi
   have:i=n:=by omega
   subst this
   simp only[al,ry]
   refine(ah (by rw[h3,aO];simp)).2 ?_
   rw[h2,aZ,fI (by omega) (by omega)]
   exact IX hv w _ _ _ h1 rfl hw (by rw[bg];omega)
 | succ j ih=>
   intro i p h1 h2 h3 h4 hj hi
   simp only[al,ry]
   refine(ai (by rw[h3,aO];simp;omega)).2 (af.2 ⟨?_,af.2 ⟨?_,?_⟩⟩)
   ·rw[h4,ap];simp[jR];omega
   ·show decide (((unpack i b ++ [_]).length:Int)≤140737488355328)=true
    rw[List.length_append,bg]
    simp;omega
   ·have e:(aj.p (unpack i b) [(aj.k iz (p.d4,(i:Int)))]:List Bool)=unpack (i+1) b:=by
     show unpack i b ++ [iz (p.d4,(i:Int))]=_
     rw[h4,nS hb (by omega) (by omega),tp,Int.toNat_natCast]
    exact bl (congrArg LT.more (congr (congrArg (C5.c3 p) (eu (by omega))) e)) (ih (i+1) p h1 h2 h3 h4 (by omega) (by omega))
theorem Sz{v:Int}{n w:Nat}{b:List Int}(hv:0≤v)(hb:bp b)(hl:b.length≤140737488355328)(hn:n≤4096)(hw:w≤64)(hok:n≤8*b.length)(p:Kq)(h0:p.b0=0)(h1:p.b1=v)(h2:p.b2=(w:Int))(h3:p.b3=(n:Int))(h4:p.b4=b):aA (ry aj) (.more (.c1 p)) (xJ (unpack n b++bitsOf v.toNat w)):=by
 simp only[al,ry,h0]
 by_cases hz:n=0
 ·refine(ah (by rw[h3,hz];rfl)).2 ?_
  rw[hz]
  exact Qx hv _ h1 (by show aj.b .sub .i64 p.b2 1=_;rw[h2,aZ,fI (by omega) (by omega)]) hw
 ·refine(ai (by rw[h3,ar];simp;omega)).2 (af.2 ⟨?_,af.2 ⟨rfl,?_⟩⟩)
  ·rw[h4,ap];simp[jR];omega
  ·have e:([(aj.k iz (p.b4,(0:Int)))]:List Bool)=unpack 1 b:=by
    show[iz (p.b4,(0:Int))]=_
    rw[h4,nS hb (by omega) (by omega)];rfl
   refine bl (congrArg LT.more (congr (congrArg (C5.c3 _) (eu (i:=0) (by omega))) e)) ?_
   exact SC hv hb hl hn hw hok (n-1) 1 _ h1 h2 h3 h4 (by omega) (by omega)
theorem abC{n v w:Int}{b:List Int}(h:Ty.dK [(.struct [(.int .i64),(.slice (.int .u8))]),(.int .u64),(.int .i64)] ((n,b),v,w)):aA (ry aj) (SN aj n b v w) (Av ((n,b),v,w)):=by
 obtain⟨h1,hv,hw⟩:=Fw h
 have hb:=(eZ h1).2.2
 have hl:=dO h1
 unfold SN
 rw[Av]
 refine af.2 ⟨rfl,?_⟩
 cases hok:bO (n,b)
 ·refine(ai (show(kJ (n,b) != 0)=true by rw[kJ,hok];rfl)).2 ?_
  exact .ret _
 ·refine(ah (show(kJ (n,b) != 0)=false by rw[kJ,hok];rfl)).2 ?_
  obtain⟨h2,h3,h4⟩:=(gW hb).1 hok
  have h5:=h4.1
  rw[Bool.not_true,cond_false]
  by_cases h6:w<0
  ·refine(ai (by rw[ar];simpa using h6)).2 ?_
   rw[show decide (w<0)=true from by simpa using h6]
   exact .ret _
  ·refine(ah (by rw[ar];simpa using h6)).2 ?_
   by_cases h7:64<w
   ·refine(ai (by rw[aG];simpa using h7)).2 ?_
    rw[show decide (64<w)=true from by simpa using h7,Bool.or_true,Bool.true_or]
    exact .ret _
   ·refine(ah (by rw[aG];simpa using h7)).2 ?_
    rw[show decide (w<0)=false from by simpa using h6,show decide (64<w)=false from by simpa using h7,Bool.false_or,Bool.false_or,uK hv.1]
    obtain⟨k,rfl⟩:=Int.eq_ofNat_of_zero_le (show 0≤w by omega)
    rw[Int.toNat_natCast]
    have hfin:(((v.toNat/2^k:Nat):Int) != 0)=false→aA (ry aj) (.need (aj.k (@tt ((Int×List Int))) (n,b)) (.br (aj.c .neq (aj.k kJ (n,b)) 0) (.more (.c0 ⟨v,(aj.b .sub .i64 (k:Int) 1),0⟩)) (.more (.c1 ⟨0,v,(k:Int),n,b,0⟩)))) (bif ((v.toNat/2^k:Nat):Int) != 0 then(zB,2) else xJ (bR (n,b)++bitsOf v.toNat k)):=by
     intro hz
     rw[hz,cond_false]
     refine af.2 ⟨rfl,(ah (show(kJ (n,b) != 0)=false by rw[kJ,hok];rfl)).2 ?_⟩
     exact Sz (n:=n.toNat) hv.1 hb hl (by omega) (by omega) (by omega) _ rfl rfl rfl (show n=_ by omega) rfl
    by_cases h8:k<64
    ·refine(ai (by rw[ar];simp;omega)).2 (af.2 ⟨by rw[dY (by omega),gZ],?_⟩)
     rw[dY (by omega),EW hv.1 (by omega)]
     cases hz:(((v.toNat/2^k:Nat):Int) != 0)
     ·refine(ah hz).2 ?_
      rw[←hz]
      exact hfin hz
     ·refine(ai hz).2 ?_
      exact .ret _
    ·refine(ah (by rw[ar];simp;omega)).2 (hfin ?_)
     have:k=64:=by omega
     subst this
     rw[Nat.div_eq_of_lt (by omega)];rfl
def fE:((Int×List Int)×Int×Int)→((Int×List Int)×Int):=Av
def XK:aD:=⟨[(.struct [yI,yB]),(.int .u64),yI], [(.struct [yI,yB]),yI],(@tt ((Int×List Int)×Int×Int)),fE⟩
theorem KP:Sd 188 XK:=aL au cK true 81 [⟨188,7, [[1,6,8,9]]⟩,⟨191,5, [[1,3,4], [1,2,6]]⟩] [] (fun A ((bN,bB),v,width)=>SN A bN bB v width) ry QU (fc Tryz.func188 (fc Tryz.func191 fz)) (sc Ms (sc O2 (sc K5 sz))) (fun A y=>match y with |.c0 p=>⟨34,by kernel_rfl,by kernel_rfl⟩|.c1 p=>⟨34,by kernel_rfl,by kernel_rfl⟩|.c2 p c1 c3=>⟨34,by kernel_rfl,by kernel_rfl⟩|.c3 p d0 d5=>⟨34,by kernel_rfl,by kernel_rfl⟩) fun((bN,bB),v,width) hp h=>abC h
open Go.Ev.Pl
structure KI where
 (a0 a1 a2 a4:Int) (a5:List Int) (a6 a7:Int)
inductive DF where
 | c0 (p:KI) (a3:Int) (a8:List Int)
noncomputable def Py:DF→gB
 | .c0 p a3 a8=>⟨[⟨249,63,(en [(1,.int .u64 false p.a0),(2,vi p.a1),(3,.ptr 0 0),(6,.ptr 1 0),(8,.ptr 2 0),(43,vi p.a2),(44,vi a3)]),[.inLoop (cw Tryz.f249 [1,1,1,0,1,0,0]),.inBlock 1,.code (cw Tryz.f249 [1,1,1,1])],[],none⟩],[.flat false [vi p.a4,.sl yU p.a5],.flat false [vi p.a6,.bK true],.flat false [vi p.a7,.own 3],.arr false yU a8,.dead]⟩
def P_(A:bi)(bN:Int)(bB:List Int)(v:Int)(width:Int):LT ((Int×List Int)×Int) DF:=.need (A.k (@tt ((Int×List Int))) (bN,bB)) (.br (A.c .neq (A.k j_ (bN,bB)) 0) (.ret ((0,([]:List Int)),10)) (.br (A.c .lss width 0) (.ret ((0,([]:List Int)),2)) (.br (A.c .gtr width 64) (.ret ((0,([]:List Int)),2)) (.br (A.c .lss width 64) (.need (A.c .leq 0 width) (.br (A.c .neq (A.b .shr .u64 v width) 0) (.ret ((0,([]:List Int)),2)) (.br (A.c .gtr width (A.b .sub .i64 4096 bN)) (.ret ((0,([]:List Int)),3)) (.need (A.k (@tt Int) (A.b .add .i64 bN width)) (.need (A.and (A.c .eql (A.k dH (A.b .add .i64 bN width)) (A.k dH (A.b .add .i64 bN width))) (A.and (A.c .leq 0 (A.k dH (A.b .add .i64 bN width))) (A.c .leq (A.k dH (A.b .add .i64 bN width)) 140737488355328))) (.more (.c0 ⟨v,width,width,bN,bB,0,(A.b .add .i64 bN width)⟩ 0 (A.spl (A.r (A.k dH (A.b .add .i64 bN width)) (0:Int)) 0 (A.s bB 0 (A.mn (A.l bB) (A.l (A.r (A.k dH (A.b .add .i64 bN width)) (0:Int))))))))))))) (.br (A.c .gtr width (A.b .sub .i64 4096 bN)) (.ret ((0,([]:List Int)),3)) (.need (A.k (@tt Int) (A.b .add .i64 bN width)) (.need (A.and (A.c .eql (A.k dH (A.b .add .i64 bN width)) (A.k dH (A.b .add .i64 bN width))) (A.and (A.c .leq 0 (A.k dH (A.b .add .i64 bN width))) (A.c .leq (A.k dH (A.b .add .i64 bN width)) 140737488355328))) (.more (.c0 ⟨v,width,width,bN,bB,0,(A.b .add .i64 bN width)⟩ 0 (A.spl (A.r (A.k dH (A.b .add .i64 bN width)) (0:Int)) 0 (A.s bB 0 (A.mn (A.l bB) (A.l (A.r (A.k dH (A.b .add .i64 bN width)) (0:Int)))))))))))))))
def G3(A:bi):DF→LT ((Int×List Int)×Int) DF
 | .c0 p a3 a8=>.br (A.c .lss a3 p.a2) (.need (A.c .leq 0 (A.b .sub .i64 (A.b .sub .i64 p.a1 1) a3)) (.br (A.c .eql (A.b .and .u64 (A.b .shr .u64 p.a0 (A.b .sub .i64 (A.b .sub .i64 p.a1 1) a3)) 1) 1) (.need (A.and (A.c .leq 0 (A.b .quo .i64 (A.b .add .i64 p.a4 a3) 8)) (A.c .lss (A.b .quo .i64 (A.b .add .i64 p.a4 a3) 8) (A.l a8))) (.need (A.k nY (A.b .add .i64 p.a4 a3)) (.need (A.and (A.c .leq 0 (A.b .quo .i64 (A.b .add .i64 p.a4 a3) 8)) (A.c .lss (A.b .quo .i64 (A.b .add .i64 p.a4 a3) 8) (A.l a8))) (.more (.c0 p (A.b .add .i64 a3 1) (A.set a8 (A.b .quo .i64 (A.b .add .i64 p.a4 a3) 8) (A.b .or .u8 (A.n yU a8 (A.b .quo .i64 (A.b .add .i64 p.a4 a3) 8):Int) (A.k vc (A.b .add .i64 p.a4 a3))))))))) (.more (.c0 p (A.b .add .i64 a3 1) a8)))) (.ret ((p.a7,a8),0))
theorem Ck{v w k:Nat}(h:k<w):(bitsOf v w).getD k false=v.testBit (w-1-k):=by
 rw[List.getD_eq_getElem?_getD,bitsOf,List.getElem?_map,List.getElem?_range h];rfl
theorem qy{B:List Int}{m i:Nat}(hB:B.length=m)(hi:i<8*m)(hm:m≤100000):(aj.and (aj.c .leq 0 (aj.b .quo .i64 (i:Int) 8)) (aj.c .lss (aj.b .quo .i64 (i:Int) 8) (aj.l B)))=true:=by
 have hlb:aj.l B=(m:Int):=by rw[←hB];rfl
 rw[mr (by omega),hlb,gZ,aO,aR];simp;omega
theorem y_{i:Nat}:aj.k nY (i:Int)=true:=by rw[ap];simp[nY]
theorem TR{v:Int}{n w:Nat}{b:List Int}(hv:0≤v)(hn:n+w≤4096)(hw:w≤64):∀(j k:Nat) (p:KI) (B:List Int),p.a0=v→p.a1=(w:Int)→p.a2=(w:Int)→p.a4=(n:Int)→p.a7=((n+w:Nat):Int)→w-k=j→k≤w→Holds B (unpack n b++(bitsOf v.toNat w).take k) ((n+w+7)/8)→aA (G3 aj) (.more (.c0 p (k:Int) B)) (bS (unpack n b++bitsOf v.toNat w),0):=by
 intro j
 induction j with
 | zero=>
   intro k p B h1 h2 h3 h4 h5 hj hk hB
   have:k=w:=by omega
   subst this
   simp only[al,G3]
   refine(ah (by rw[h3,aO];simp)).2 ?_
   rw[List.take_of_length_le (by rw[ao];exact Nat.le_refl _)] at hB
   have hl:(unpack n b++bitsOf v.toNat k).length=n+k:=by rw[List.length_append,bg,ao]
   rw[h5,hB.done (by rw[hl])]
   rw[show bS (unpack n b++bitsOf v.toNat k)=(((n+k:Nat):Int),pack (unpack n b++bitsOf v.toNat k)) from by rw[bS,hl]]
   exact .ret _
 | succ j ih=>
   intro k p B h1 h2 h3 h4 h5 hj hk hB
   simp only[al,G3]
   have hsh:aj.b .sub .i64 (aj.b .sub .i64 p.a1 1) (k:Int)=((w-1-k:Nat):Int):=by
    rw[h2,show aj.b .sub .i64 (w:Int) 1=((w-1:Nat):Int) from mm (j:=1) (by omega) (by omega),mm (by omega) (by omega)]
   have hat:aj.b .add .i64 p.a4 (k:Int)=((n+k:Nat):Int):=by rw[h4,gf (by omega)]
   have hlen:(unpack n b++(bitsOf v.toNat w).take k).length=n+k:=by rw[List.length_append,bg,List.length_take,ao];omega
   have hts:=oG (l:=bitsOf v.toNat w) (i:=k) (by rw[ao];omega)
   rw[Ck (by omega)] at hts
   refine(ai (by rw[h3,aO];simp;omega)).2 (af.2 ⟨by rw[hsh,gZ],?_⟩)
   rw[hsh,h1,Kt hv (by omega),hat]
   cases hx:v.toNat.testBit (w-1-k)
   ·rw[hx] at hts
    refine(ah rfl).2 ?_
    refine bl (congrArg LT.more (congr (congrArg (DF.c0 p) (eu (by omega))) rfl)) (ih (k+1) p B h1 h2 h3 h4 h5 (by omega) (by omega) ?_)
    rw[hts,←List.append_assoc]
    exact hB.skip
   ·rw[hx] at hts
    refine(ai rfl).2 (af.2 ⟨qy hB.1 (by omega) (by omega),af.2 ⟨y_,af.2 ⟨qy hB.1 (by omega) (by omega),?_⟩⟩⟩)
    refine bl (congrArg LT.more (congr (congrArg (DF.c0 p) (eu (by omega))) rfl)) (ih (k+1) p _ h1 h2 h3 h4 h5 (by omega) (by omega) ?_)
    rw[hts,←List.append_assoc]
    exact Df hB hlen (by omega) (by omega)
theorem grow{n w:Nat}{b:List Int}(h:okB n b)(hw:n+w≤100000):Holds (aj.spl (aj.r (aj.k dH ((n+w:Nat):Int)) (0:Int)) 0 (aj.s b 0 (aj.mn (aj.l b) (aj.l (aj.r (aj.k dH ((n+w:Nat):Int)) (0:Int)))))) (unpack n b) ((n+w+7)/8):=by
 have h1:=h.1
 rw[ap,nk (by omega) (by omega),Int.toNat_natCast]
 have e1:aj.r ((((n+w+7)/8:Nat):Nat):Int) (0:Int)=List.replicate ((n+w+7)/8) 0:=by rw[lY,Int.toNat_natCast]
 rw[e1]
 have e2:aj.mn (aj.l b) (aj.l (List.replicate ((n+w+7)/8) (0:Int)))=(b.length:Int):=by
  rw[pT]
  show(if ((List.replicate ((n+w+7)/8) (0:Int)).length:Int)<(b.length:Int) then _ else(b.length:Int))=_
  rw[List.length_replicate,if_neg (by omega)]
 rw[e2,lV,oH]
 have e3:(b.take (b.length:Int).toNat).drop (0:Int).toNat=b:=by
  rw[Int.toNat_natCast,List.take_length];rfl
 rw[e3]
 have:=Holds.grown (m:=(n+w+7)/8) h (by omega)
 rw[show(0:Int).toNat=0 from rfl,List.take_zero,List.nil_append,Nat.zero_add,List.drop_replicate]
 exact this
theorem acn{n v w:Int}{b:List Int}(h:Ty.dK [(.struct [(.int .i64),(.slice (.int .u8))]),(.int .u64),(.int .i64)] ((n,b),v,w)):aA (G3 aj) (P_ aj n b v w) (Av ((n,b),v,w)):=by
 obtain⟨h1,hv,hw⟩:=Fw h
 have hb:=(eZ h1).2.2
 have hl:=dO h1
 unfold P_
 rw[Av]
 refine af.2 ⟨rfl,?_⟩
 have hc:aj.c .neq (aj.k j_ (n,b)) 0=!bO (n,b):=by
  rw[ap,kQ hb hl];cases bO (n,b)<;>rfl
 rw[hc]
 cases hok:bO (n,b)
 ·exact(ai rfl).2 (.ret _)
 ·refine(ah rfl).2 ?_
  obtain⟨h2,h3,h4⟩:=(gW hb).1 hok
  have h5:=h4.1
  rw[Bool.not_true,cond_false]
  by_cases h6:w<0
  ·refine(ai (by rw[ar];simpa using h6)).2 ?_
   rw[show decide (w<0)=true from by simpa using h6]
   exact .ret _
  ·refine(ah (by rw[ar];simpa using h6)).2 ?_
   by_cases h7:64<w
   ·refine(ai (by rw[aG];simpa using h7)).2 ?_
    rw[show decide (64<w)=true from by simpa using h7,Bool.or_true,Bool.true_or]
    exact .ret _
   ·refine(ah (by rw[aG];simpa using h7)).2 ?_
    rw[show decide (w<0)=false from by simpa using h6,show decide (64<w)=false from by simpa using h7,Bool.false_or,Bool.false_or,uK hv.1]
    obtain⟨k,rfl⟩:=Int.eq_ofNat_of_zero_le (show 0≤w by omega)
    obtain⟨m,rfl⟩:=Int.eq_ofNat_of_zero_le h2
    rw[Int.toNat_natCast] at h4 h5 ⊢
    have hadd:aj.b .add .i64 (m:Int) (k:Int)=((m+k:Nat):Int):=gf (by omega)
    have hneed:aj.k dH ((m+k:Nat):Int)=(((m+k+7)/8:Nat):Int):=by rw[ap,nk (by omega) (by omega),Int.toNat_natCast]
    have hlen:(bR ((m:Int),b)++bitsOf v.toNat k).length=m+k:=by rw[List.length_append,il,ao,Int.toNat_natCast]
    have hfin:(((v.toNat/2^k:Nat):Int) != 0)=false→∀t,t=(LT.br (aj.c .gtr (k:Int) (aj.b .sub .i64 4096 (m:Int))) (.ret ((0,([]:List Int)),3)) (.need (aj.k (@tt Int) (aj.b .add .i64 (m:Int) (k:Int))) (.need (aj.and (aj.c .eql (aj.k dH (aj.b .add .i64 (m:Int) (k:Int))) (aj.k dH (aj.b .add .i64 (m:Int) (k:Int)))) (aj.and (aj.c .leq 0 (aj.k dH (aj.b .add .i64 (m:Int) (k:Int)))) (aj.c .leq (aj.k dH (aj.b .add .i64 (m:Int) (k:Int))) 140737488355328))) (.more (.c0 ⟨v,(k:Int),(k:Int),(m:Int),b,0,(aj.b .add .i64 (m:Int) (k:Int))⟩ 0 (aj.spl (aj.r (aj.k dH (aj.b .add .i64 (m:Int) (k:Int))) (0:Int)) 0 (aj.s b 0 (aj.mn (aj.l b) (aj.l (aj.r (aj.k dH (aj.b .add .i64 (m:Int) (k:Int))) (0:Int)))))))))):LT ((Int×List Int)×Int) DF)→aA (G3 aj) t (bif ((v.toNat/2^k:Nat):Int) != 0 then(zB,2) else xJ (bR ((m:Int),b)++bitsOf v.toNat k)):=by
     intro hz t ht
     rw[hz,cond_false,ht,xJ,hlen,hadd,show aj.b .sub .i64 (4096:Int) (m:Int)=((4096-m:Nat):Int) from mm (i:=4096) (by omega) (by omega)]
     by_cases h9:4096<m+k
     ·rw[show decide (4096<m+k)=true from by simpa using h9]
      refine(ai (by rw[aG];simp;omega)).2 (.ret _)
     ·rw[show decide (4096<m+k)=false from by simpa using h9]
      refine(ah (by rw[aG];simp;omega)).2 (af.2 ⟨rfl,af.2 ⟨?_,?_⟩⟩)
      ·rw[hneed,gZ,qo rfl,aB,aR,aR];simp;omega
      ·refine TR hv.1 (by omega) (by omega) k 0 _ _ rfl rfl rfl rfl rfl rfl (by omega) ?_
       rw[List.take_zero,List.append_nil]
       exact grow h4 (by omega)
    by_cases h8:k<64
    ·refine(ai (by rw[ar];simp;omega)).2 (af.2 ⟨gZ,?_⟩)
     rw[EW hv.1 (by omega)]
     cases hz:(((v.toNat/2^k:Nat):Int) != 0)
     ·refine(ah hz).2 ?_
      rw[←hz]
      exact hfin hz _ rfl
     ·exact(ai hz).2 (.ret _)
    ·refine(ah (by rw[ar];simp;omega)).2 (hfin ?_ _ rfl)
     have:k=64:=by omega
     subst this
     rw[Nat.div_eq_of_lt (by omega)];rfl
def np:((Int×List Int)×Int×Int)→((Int×List Int)×Int):=Av
def Wp:aD:=⟨[(.struct [yI,yB]),(.int .u64),yI], [(.struct [yI,yB]),yI],(@tt ((Int×List Int)×Int×Int)),np⟩
theorem Xq:Sd 249 Wp:=aL au cK true 114 [⟨249,9, [[1,2,3,6,8,43,44]]⟩] [] (fun A ((bN,bB),v,width)=>P_ A bN bB v width) G3 Py (fc Tryz.func249 (fc Tryz.func258 (fc Tryz.func259 (fc Tryz.func261 fz)))) (sc D6 (sc Jg (sc Lf sz))) (fun A y=>match y with |.c0 p a3 a8=>⟨63,by kernel_rfl,by kernel_rfl⟩) fun((bN,bB),v,width) hp h=>acn h
open Go.Ev.Pl
structure Jo where
 (a0 a2 a4:Int) (a5:List Int)
inductive L8 where
 | c0 (p:Jo) (a1:Int) (a3:Int)
noncomputable def Tq:L8→gB
 | .c0 p a1 a3=>⟨[⟨247,54,(en [(1,vi p.a0),(3,.ptr 0 0),(8,.int .u64 false a1),(39,vi p.a2),(40,vi a3)]),[.inLoop (cw Tryz.f247 [1,1,1,0,1,0,0]),.inBlock 1,.code (cw Tryz.f247 [1,1,1,1])],[],none⟩],[.flat false [vi p.a4,.sl yU p.a5],.dead]⟩
def t138(A:bi)(bN:Int)(bB:List Int)(at1:Int)(width:Int):LT (Int×Int) L8:=.need (A.k (@tt ((Int×List Int))) (bN,bB)) (.br (A.c .neq (A.k j_ (bN,bB)) 0) (.ret (0,10)) (.br (A.c .lss width 0) (.ret (0,2)) (.br (A.c .gtr width 64) (.ret (0,2)) (.br (A.c .lss at1 0) (.ret (0,2)) (.br (A.c .gtr at1 bN) (.ret (0,2)) (.br (A.c .gtr width (A.b .sub .i64 bN at1)) (.ret (0,2)) (.more (.c0 ⟨at1,width,bN,bB⟩ 0 0))))))))
def KJ(A:bi):L8→LT (Int×Int) L8
 | .c0 p a1 a3=>.br (A.c .lss a3 p.a2) (.need (A.k rH ((p.a4,p.a5),(A.b .add .i64 p.a0 a3))) (.br (A.k u9 ((p.a4,p.a5),(A.b .add .i64 p.a0 a3))) (.more (.c0 p (A.b .or .u64 (A.b .shl .u64 a1 1) 1) (A.b .add .i64 a3 1))) (.more (.c0 p (A.b .shl .u64 a1 1) (A.b .add .i64 a3 1))))) (.ret (a1,0))
theorem K8{l:List Bool}{a k:Nat}(h:a+k<l.length):bq l a (k+1)=2*bq l a k+(l.getD (a+k) false).toNat:=by
 rw[bq,bq,oG (by rw[List.length_drop];omega),qb,getD_drop]
theorem Vm{k:Nat}(h:k≤64):2^k≤18446744073709551616:=Nat.le_trans (Nat.pow_le_pow_right (by decide) h) (by decide)
theorem CG{x:Nat}(h:2*x<18446744073709551616):aj.b .shl .u64 (x:Int) 1=((2*x:Nat):Int):=by
 show IntKind.u64.wrap ((x:Int)*2^min (1:Int).toNat 64)=_
 rw[show(2:Int)^min (1:Int).toNat 64=2 from rfl,GG (by omega) (by omega)];omega
theorem MY{x:Nat}(h:2*x<18446744073709551616):aj.b .or .u64 ((2*x:Nat):Int) 1=((2*x+1:Nat):Int):=by
 show IntKind.u64.wrap ((BitVec.ofInt 64 ((2*x:Nat):Int) ||| BitVec.ofInt 64 1).toNat:Int)=_
 rw[BitVec.ofInt_natCast,show BitVec.ofInt 64 1=BitVec.ofNat 64 1 from rfl,BitVec.toNat_or,BitVec.toNat_ofNat,BitVec.toNat_ofNat,show 1%2^64=1 from rfl,Nat.mod_eq_of_lt (by omega)]
 have:=Nat.shiftLeft_add_eq_or_of_lt (i:=1) (b:=1) (by decide) x
 rw[Nat.shiftLeft_eq,Nat.pow_one,Nat.mul_comm x 2] at this
 rw[←this,GG (by omega) (by omega)]
theorem FK{n a w:Int}{b:List Int}(h:Ty.dK [(.struct [(.int .i64),(.slice (.int .u8))]),(.int .i64),(.int .i64)] ((n,b),a,w)):Ty.has (.struct [(.int .i64),(.slice (.int .u8))]) (n,b)∧(-9223372036854775808≤a∧a≤9223372036854775807)∧(-9223372036854775808≤w∧w≤9223372036854775807):=h
theorem XC{n a w:Nat}{b:List Int}(hb:bp b)(hl:b.length≤100000)(hn:n≤8*b.length)(haw:a+w≤n)(hw:w≤64):∀(j k:Nat) (p:Jo),p.a0=(a:Int)→p.a2=(w:Int)→p.a5=b→w-k=j→k≤w→aA (KJ aj) (.more (.c0 p ((bq (unpack n b) a k:Nat):Int) (k:Int))) (((bq (unpack n b) a w:Nat):Int),0):=by
 intro j
 induction j with
 | zero=>
   intro k p h1 h2 h3 hj hk
   have:k=w:=by omega
   subst this
   simp only[al,KJ]
   exact(ah (by rw[h2,aO];simp)).2 (.ret _)
 | succ j ih=>
   intro k p h1 h2 h3 hj hk
   simp only[al,KJ]
   have hat:aj.b .add .i64 p.a0 (k:Int)=((a+k:Nat):Int):=by rw[h1,gf (by omega)]
   have hf:=eT (unpack n b) a k
   have hp:=Vm (k:=k+1) (by omega)
   rw[Nat.pow_succ] at hp
   have hs:=K8 (l:=unpack n b) (a:=a) (k:=k) (by rw[bg];omega)
   rw[kL,show decide (a+k<n)=true from by simp;omega,Bool.true_and] at hs
   refine(ai (by rw[h2,aO];simp;omega)).2 (af.2 ⟨by rw[hat,h3,ap];simp[rH];omega,?_⟩)
   have hc:aj.k u9 ((p.a4,p.a5),aj.b .add .i64 p.a0 (k:Int))=fS b (a+k):=by
    rw[hat,h3,ap,Dd hb (by omega) (by omega) (by omega),Int.toNat_natCast]
   have hm:=ih (k+1) p h1 h2 h3 (by omega) (by omega)
   cases hx:fS b (a+k)
   ·rw[hx] at hs
    refine(ah (hc.trans hx)).2 ?_
    rw[hs,show 2*bq (unpack n b) a k+false.toNat=2*bq (unpack n b) a k from rfl,←CG (by omega),←eu (by omega)] at hm
    exact hm
   ·rw[hx] at hs
    refine(ai (hc.trans hx)).2 ?_
    rw[hs,show 2*bq (unpack n b) a k+true.toNat=2*bq (unpack n b) a k+1 from rfl,←MY (by omega),←CG (by omega),←eu (by omega)] at hm
    exact hm
theorem aaM{n a w:Int}{b:List Int}(h:Ty.dK [(.struct [(.int .i64),(.slice (.int .u8))]),(.int .i64),(.int .i64)] ((n,b),a,w)):aA (KJ aj) (t138 aj n b a w) (Gr ((n,b),a,w)):=by
 obtain⟨h1,ha,hw⟩:=FK h
 have hb:=(eZ h1).2.2
 have hl:=dO h1
 unfold t138
 rw[Gr]
 refine af.2 ⟨rfl,?_⟩
 have hc:aj.c .neq (aj.k j_ (n,b)) 0=!bO (n,b):=by
  rw[ap,kQ hb hl];cases bO (n,b)<;>rfl
 rw[hc]
 cases hok:bO (n,b)
 ·exact(ai rfl).2 (.ret _)
 ·refine(ah rfl).2 ?_
  obtain⟨h2,h3,h4⟩:=(gW hb).1 hok
  have h5:=h4.1
  rw[Bool.not_true,cond_false]
  by_cases h6:w<0
  ·refine(ai (by rw[ar];simpa using h6)).2 ?_
   rw[show decide (w<0)=true from by simpa using h6]
   exact .ret _
  refine(ah (by rw[ar];simpa using h6)).2 ?_
  by_cases h7:64<w
  ·refine(ai (by rw[aG];simpa using h7)).2 ?_
   rw[show decide (64<w)=true from by simpa using h7]
   simp only[Bool.or_true,Bool.true_or]
   exact .ret _
  refine(ah (by rw[aG];simpa using h7)).2 ?_
  by_cases h8:a<0
  ·refine(ai (by rw[ar];simpa using h8)).2 ?_
   rw[show decide (a<0)=true from by simpa using h8]
   simp only[Bool.or_true,Bool.true_or]
   exact .ret _
  refine(ah (by rw[ar];simpa using h8)).2 ?_
  rw[show decide (w<0)=false from by simpa using h6,show decide (64<w)=false from by simpa using h7,show decide (a<0)=false from by simpa using h8]
  by_cases h9:n<a
  ·refine(ai (by rw[aG];simpa using h9)).2 ?_
   rw[show decide (n<a+w)=true from by simp;omega]
   exact .ret _
  refine(ah (by rw[aG];simpa using h9)).2 ?_
  rw[aZ,fI (by omega) (by omega)]
  by_cases h10:n<a+w
  ·refine(ai (by rw[aG];simp;omega)).2 ?_
   rw[show decide (n<a+w)=true from by simpa using h10]
   exact .ret _
  refine(ah (by rw[aG];simp;omega)).2 ?_
  rw[show decide (n<a+w)=false from by simpa using h10]
  obtain⟨k,rfl⟩:=Int.eq_ofNat_of_zero_le (show 0≤w by omega)
  obtain⟨i,rfl⟩:=Int.eq_ofNat_of_zero_le (show 0≤a by omega)
  exact XC (n:=n.toNat) hb (by omega) (by omega) (by omega) (by omega) k 0 _ rfl rfl rfl (by omega) (by omega)
def aC:((Int×List Int)×Int×Int)→(Int×Int):=Gr
def Ur:aD:=⟨[(.struct [yI,yB]),yI,yI], [(.int .u64),yI],(@tt ((Int×List Int)×Int×Int)),aC⟩
theorem Ft:Sd 247 Ur:=aL au cK true 65 [⟨247,7, [[1,3,8,39,40]]⟩] [] (fun A ((bN,bB),at1,width)=>t138 A bN bB at1 width) KJ Tq (fc Tryz.func247 fz) (sc D6 (sc OP sz)) (fun A y=>match y with |.c0 p a1 a3=>⟨45,by kernel_rfl,by kernel_rfl⟩) fun((bN,bB),at1,width) hp h=>aaM h
open Go.Ev.Pl
structure Iu where
 (a0 a1 a2 a4 a5:Int) (a6:List Int) (a7 a8:Int)
inductive GM where
 | c0 (p:Iu) (a3:Int) (a9:List Int)
noncomputable def Ry:GM→gB
 | .c0 p a3 a9=>⟨[⟨262,52,(en [(1,vi p.a0),(3,vi p.a1),(4,vi p.a2),(5,.ptr 0 0),(7,.ptr 1 0),(10,vi a3)]),[.inLoop (cw Tryz.f262 [1,1,1,0,0]),.inBlock 0],[],none⟩,⟨251,39,(en [(6,.ptr 2 0),(8,.ptr 3 0)]),[.ops (ow Tryz.f251 [1,1,1,0]) ((ow Tryz.f251 [1,1,1,0]).toList.drop 4),.code (cw Tryz.f251 [1,1,1,1])],[],none⟩],[.flat false [vi p.a4,.own 4],.flat false [vi p.a5,.sl yU p.a6],.flat false [vi p.a7,.bK true],.flat false [vi p.a8,.own 4],.arr false yU a9,.dead]⟩
def Q6(A:bi)(bN:Int)(bB:List Int)(from1:Int)(to:Int):LT ((Int×List Int)×Int) GM:=.need (A.k (@tt ((Int×List Int))) (bN,bB)) (.br (A.c .neq (A.k j_ (bN,bB)) 0) (.ret ((0,([]:List Int)),10)) (.br (A.c .lss from1 0) (.ret ((0,([]:List Int)),2)) (.br (A.c .lss to from1) (.ret ((0,([]:List Int)),2)) (.br (A.c .gtr to bN) (.ret ((0,([]:List Int)),2)) (.need (A.k (@tt Int) (A.b .sub .i64 to from1)) (.need (A.and (A.c .eql (A.k dH (A.b .sub .i64 to from1)) (A.k dH (A.b .sub .i64 to from1))) (A.and (A.c .leq 0 (A.k dH (A.b .sub .i64 to from1))) (A.c .leq (A.k dH (A.b .sub .i64 to from1)) 140737488355328))) (.br (A.c .eql (A.b .rem .i64 from1 8) 0) (.br (A.c .eql to bN) (.need (A.and (A.c .leq 0 0) (A.and (A.c .leq 0 (A.l (A.r (A.k dH (A.b .sub .i64 to from1)) (0:Int)))) (A.c .leq (A.l (A.r (A.k dH (A.b .sub .i64 to from1)) (0:Int))) (A.l (A.r (A.k dH (A.b .sub .i64 to from1)) (0:Int)))))) (.need (A.and (A.c .leq 0 (A.b .quo .i64 from1 8)) (A.and (A.c .leq (A.b .quo .i64 from1 8) (A.l bB)) (A.c .leq (A.l bB) (A.l bB)))) (.ret (((A.b .sub .i64 to from1),(A.spl (A.r (A.k dH (A.b .sub .i64 to from1)) (0:Int)) 0 (A.s (A.s bB (A.b .quo .i64 from1 8) (A.l bB)) 0 (A.mn (A.l (A.s bB (A.b .quo .i64 from1 8) (A.l bB))) (A.b .sub .i64 (A.l (A.r (A.k dH (A.b .sub .i64 to from1)) (0:Int))) 0))))),0)))) (.more (.c0 ⟨0,from1,to,(A.b .sub .i64 to from1),bN,bB,0,(A.b .sub .i64 to from1)⟩ from1 (A.r (A.k dH (A.b .sub .i64 to from1)) (0:Int))))) (.more (.c0 ⟨0,from1,to,(A.b .sub .i64 to from1),bN,bB,0,(A.b .sub .i64 to from1)⟩ from1 (A.r (A.k dH (A.b .sub .i64 to from1)) (0:Int)))))))))))
def D9(A:bi):GM→LT ((Int×List Int)×Int) GM
 | .c0 p a3 a9=>.br (A.c .lss a3 p.a2) (.need (A.k rH ((p.a5,p.a6),a3)) (.br (A.k u9 ((p.a5,p.a6),a3)) (.need (A.and (A.c .leq 0 (A.b .quo .i64 (A.b .sub .i64 (A.b .add .i64 p.a0 a3) p.a1) 8)) (A.c .lss (A.b .quo .i64 (A.b .sub .i64 (A.b .add .i64 p.a0 a3) p.a1) 8) (A.l a9))) (.need (A.k nY (A.b .sub .i64 (A.b .add .i64 p.a0 a3) p.a1)) (.need (A.and (A.c .leq 0 (A.b .quo .i64 (A.b .sub .i64 (A.b .add .i64 p.a0 a3) p.a1) 8)) (A.c .lss (A.b .quo .i64 (A.b .sub .i64 (A.b .add .i64 p.a0 a3) p.a1) 8) (A.l a9))) (.more (.c0 p (A.b .add .i64 a3 1) (A.set a9 (A.b .quo .i64 (A.b .sub .i64 (A.b .add .i64 p.a0 a3) p.a1) 8) (A.b .or .u8 (A.n yU a9 (A.b .quo .i64 (A.b .sub .i64 (A.b .add .i64 p.a0 a3) p.a1) 8):Int) (A.k vc (A.b .sub .i64 (A.b .add .i64 p.a0 a3) p.a1))))))))) (.more (.c0 p (A.b .add .i64 a3 1) a9)))) (.ret ((p.a8,a9),0))
theorem Nk{n a c:Nat}{b:List Int}(hb:bp b)(hl:b.length≤100000)(hn:n≤8*b.length)(hac:a≤c)(hc:c≤n):∀(j i:Nat) (p:Iu) (B:List Int),p.a0=0→p.a1=(a:Int)→p.a2=(c:Int)→p.a6=b→p.a8=((c-a:Nat):Int)→c-i=j→a≤i→i≤c→Holds B ((((unpack n b).take c).drop a).take (i-a)) ((c-a+7)/8)→aA (D9 aj) (.more (.c0 p (i:Int) B)) (bS (((unpack n b).take c).drop a),0):=by
 have hL:(((unpack n b).take c).drop a).length=c-a:=by rw[List.length_drop,List.length_take,bg];omega
 intro j
 induction j with
 | zero=>
   intro i p B h0 h1 h2 h3 h4 hj hi hi2 hB
   have:i=c:=by omega
   subst this
   simp only[al,D9]
   refine(ah (by rw[h2,aO];simp)).2 ?_
   rw[List.take_of_length_le (by rw[hL];exact Nat.le_refl _)] at hB
   rw[h4,hB.done (by rw[hL]),show bS (((unpack n b).take i).drop a)=(((i-a:Nat):Int),pack (((unpack n b).take i).drop a)) from by rw[bS,hL]]
   exact .ret _
 | succ j ih=>
   intro i p B h0 h1 h2 h3 h4 hj hi hi2 hB
   simp only[al,D9]
   have hat:aj.b .sub .i64 (aj.b .add .i64 p.a0 (i:Int)) p.a1=((i-a:Nat):Int):=by
    rw[h0,h1,show aj.b .add .i64 (0:Int) (i:Int)=((0+i:Nat):Int) from gf (i:=0) (by omega),mm (by omega) (by omega),Nat.zero_add]
   have hts:=oG (l:=((unpack n b).take c).drop a) (i:=i-a) (by rw[hL];omega)
   rw[getD_drop,getD_take,kL,show a+(i-a)=i from by omega,show decide (i<c)=true from by simp;omega,show decide (i<n)=true from by simp;omega,Bool.true_and,Bool.true_and] at hts
   have hlen:((((unpack n b).take c).drop a).take (i-a)).length=i-a:=by rw[List.length_take,hL];omega
   refine(ai (by rw[h2,aO];simp;omega)).2 (af.2 ⟨by rw[h3,ap];simp[rH];omega,?_⟩)
   have hc:aj.k u9 ((p.a5,p.a6),(i:Int))=fS b i:=by
    rw[h3,ap,Dd hb (by omega) (by omega) (by omega),Int.toNat_natCast]
   rw[hat]
   cases hx:fS b i
   ·rw[hx] at hts
    refine(ah (hc.trans hx)).2 ?_
    refine bl (congrArg LT.more (congr (congrArg (GM.c0 p) (eu (by omega))) rfl)) (ih (i+1) p B h0 h1 h2 h3 h4 (by omega) (by omega) (by omega) ?_)
    rw[show i+1-a=i-a+1 from by omega,hts]
    exact hB.skip
   ·rw[hx] at hts
    refine(ai (hc.trans hx)).2 (af.2 ⟨qy hB.1 (by omega) (by omega),af.2 ⟨y_,af.2 ⟨qy hB.1 (by omega) (by omega),?_⟩⟩⟩)
    refine bl (congrArg LT.more (congr (congrArg (GM.c0 p) (eu (by omega))) rfl)) (ih (i+1) p _ h0 h1 h2 h3 h4 (by omega) (by omega) (by omega) ?_)
    rw[show i+1-a=i-a+1 from by omega,hts]
    exact Df hB hlen (by omega) (by omega)
theorem GI(b:List Int)(i j:Nat):fS (b.drop i) j=fS b (8*i+j):=by
 rw[fS,fS,List.getD_eq_getElem?_getD,List.getD_eq_getElem?_getD,List.getElem?_drop,show(8*i+j)/8=i+j/8 from by omega,show(8*i+j)%8=j%8 from by omega]
theorem Gq{n i:Nat}{b:List Int}(h:okB n b)(hi:8*i≤n):b.drop i=pack ((unpack n b).drop (8*i)):=by
 have h1:=h.1
 apply EM
 ·rw[List.length_drop,List.length_drop,bg];omega
 ·exact fun x hx=>h.2.1 x (List.mem_of_mem_drop hx)
 ·intro j hj
  rw[List.length_drop] at hj
  rw[GI,getD_drop,kL]
  by_cases h2:8*i+j<n
  ·rw[show decide (8*i+j<n)=true from by simpa using h2,Bool.true_and]
  ·rw[show decide (8*i+j<n)=false from by simpa using h2,Bool.false_and]
   exact h.2.2 _ (by omega) (by omega)
theorem N5{b:List Int}{i:Nat}:aj.s b (i:Int) (aj.l b)=b.drop i:=by
 show(b.take (b.length:Int).toNat).drop (i:Int).toNat=_
 rw[Int.toNat_natCast,Int.toNat_natCast,List.take_length]
theorem QP{n a c:Int}{b:List Int}(h:Ty.dK [(.struct [(.int .i64),(.slice (.int .u8))]),(.int .i64),(.int .i64)] ((n,b),a,c)):aA (D9 aj) (Q6 aj n b a c) (cr ((n,b),a,c)):=by
 obtain⟨h1,ha,hw⟩:=FK h
 have hb:=(eZ h1).2.2
 have hl:=dO h1
 unfold Q6
 rw[cr]
 refine af.2 ⟨rfl,?_⟩
 have hc:aj.c .neq (aj.k j_ (n,b)) 0=!bO (n,b):=by
  rw[ap,kQ hb hl];cases bO (n,b)<;>rfl
 rw[hc]
 cases hok:bO (n,b)
 ·exact(ai rfl).2 (.ret _)
 ·refine(ah rfl).2 ?_
  obtain⟨h2,h3,h4⟩:=(gW hb).1 hok
  have h5:=h4.1
  rw[Bool.not_true,cond_false]
  by_cases h6:a<0
  ·refine(ai (by rw[ar];simpa using h6)).2 ?_
   rw[show decide (a<0)=true from by simpa using h6]
   exact .ret _
  refine(ah (by rw[ar];simpa using h6)).2 ?_
  by_cases h7:c<a
  ·refine(ai (by rw[ar];simpa using h7)).2 ?_
   rw[show decide (c<a)=true from by simpa using h7]
   simp only[Bool.or_true,Bool.true_or]
   exact .ret _
  refine(ah (by rw[ar];simpa using h7)).2 ?_
  by_cases h8:n<c
  ·refine(ai (by rw[aG];simpa using h8)).2 ?_
   rw[show decide (n<c)=true from by simpa using h8]
   simp only[Bool.or_true,Bool.true_or]
   exact .ret _
  refine(ah (by rw[aG];simpa using h8)).2 ?_
  rw[show decide (a<0)=false from by simpa using h6,show decide (c<a)=false from by simpa using h7,show decide (n<c)=false from by simpa using h8]
  obtain⟨k,rfl⟩:=Int.eq_ofNat_of_zero_le (show 0≤c by omega)
  obtain⟨i,rfl⟩:=Int.eq_ofNat_of_zero_le (show 0≤a by omega)
  obtain⟨m,rfl⟩:=Int.eq_ofNat_of_zero_le h2
  rw[Int.toNat_natCast] at h4 h5
  have hsub:aj.b .sub .i64 (k:Int) (i:Int)=((k-i:Nat):Int):=mm (by omega) (by omega)
  have hneed:aj.k dH ((k-i:Nat):Int)=(((k-i+7)/8:Nat):Int):=by rw[ap,nk (by omega) (by omega),Int.toNat_natCast]
  show aA (D9 aj) _ (bS (((unpack m b).take k).drop i),0)
  rw[hsub]
  have hrep:aj.r (aj.k dH ((k-i:Nat):Int)) (0:Int)=List.replicate ((k-i+7)/8) 0:=by rw[hneed,lY,Int.toNat_natCast]
  have hmore:aA (D9 aj) (.more (.c0 ⟨0,(i:Int),(k:Int),((k-i:Nat):Int),(m:Int),b,0,((k-i:Nat):Int)⟩ (i:Int) (aj.r (aj.k dH ((k-i:Nat):Int)) (0:Int)))) (bS (((unpack m b).take k).drop i),0):=by
   refine Nk hb (by omega) (by omega) (by omega) (by omega) (k-i) i _ _ rfl rfl rfl rfl rfl (by omega) (by omega) (by omega) ?_
   rw[Nat.sub_self,List.take_zero,hrep]
   exact Holds.blank _
  refine af.2 ⟨rfl,af.2 ⟨by rw[hneed,gZ,qo rfl,aB,aR,aR];simp;omega,?_⟩⟩
  by_cases h9:i%8=0
  ·refine(ai (qo (by rw[uR,h9];rfl))).2 ?_
   by_cases h10:k=m
   ·subst h10
    refine(ai (qo rfl)).2 (af.2 ⟨?_,af.2 ⟨?_,?_⟩⟩)
    ·rw[hrep]
     have:aj.l (List.replicate ((k-i+7)/8) (0:Int))=(((k-i+7)/8:Nat):Int):=by show((List.replicate ((k-i+7)/8) (0:Int)).length:Int)=_;rw[List.length_replicate]
     rw[this,gZ,j6,aR,aR];simp[aB]
    ·have:aj.l b=((b.length:Nat):Int):=rfl
     rw[mr (by omega),this,gZ,j6,j6,aR,aR];simp;omega
    ·have hd:=Gq h4 (i:=i/8) (by omega)
     rw[show 8*(i/8)=i from by omega] at hd
     have hL:((unpack k b).drop i).length=k-i:=by rw[List.length_drop,bg]
     rw[hrep,mr (by omega),N5]
     have e1:aj.mn (aj.l (b.drop (i/8))) (aj.b .sub .i64 (aj.l (List.replicate ((k-i+7)/8) (0:Int))) 0)=((b.drop (i/8)).length:Int):=by
      show aj.mn ((b.drop (i/8)).length:Int) (aj.b .sub .i64 ((List.replicate ((k-i+7)/8) (0:Int)).length:Int) 0)=_
      rw[List.length_replicate,aZ,fI (by omega) (by omega),pT,if_neg (by rw[List.length_drop];omega)]
     rw[e1,lV,oH,Int.toNat_natCast,List.take_length]
     have e2:(List.replicate ((k-i+7)/8) (0:Int)).take (0:Int).toNat++(b.drop (i/8)).drop (0:Int).toNat++(List.replicate ((k-i+7)/8) (0:Int)).drop ((0:Int).toNat+((b.drop (i/8)).drop (0:Int).toNat).length)=b.drop (i/8):=by
      show[]++b.drop (i/8)++(List.replicate ((k-i+7)/8) (0:Int)).drop (0+(b.drop (i/8)).length)=_
      rw[List.drop_replicate,List.length_drop,show(k-i+7)/8-(0+(b.length-i/8))=0 from by omega,List.replicate_zero,List.append_nil,List.nil_append]
     rw[e2,hd,List.take_of_length_le (by rw[bg];exact Nat.le_refl _),show bS ((unpack k b).drop i)=(((k-i:Nat):Int),pack ((unpack k b).drop i)) from by rw[bS,hL]]
     exact .ret _
   ·exact(ah (FD (by omega))).2 hmore
  ·exact(ah (FD (by rw[uR];omega))).2 hmore
def cn:((Int×List Int)×Int×Int)→((Int×List Int)×Int):=cr
def Wl:aD:=⟨[(.struct [yI,yB]),yI,yI], [(.struct [yI,yB]),yI],(@tt ((Int×List Int)×Int×Int)),cn⟩
theorem Oe:Sd 251 Wl:=aL au cK true 118 [⟨262,4, [[1,3,4,5,7,10], [6,8]]⟩] [] (fun A ((bN,bB),from1,to)=>Q6 A bN bB from1 to) D9 Ry (fc Tryz.func251 (fc Tryz.func259 (fc Tryz.func261 (fc Tryz.func262 fz)))) (sc D6 (sc Jg (sc OP (sc Lf sz)))) (fun A y=>match y with |.c0 p a3 a9=>⟨57,by kernel_rfl,by kernel_rfl⟩) fun((bN,bB),from1,to) hp h=>QP h
open Go.Ev.Pl
theorem qw{l:List (Int×List Int)}(h:Ty.dK [(.slice (.struct [(.int .i64),(.slice (.int .u8))]))] l):l.length≤140737488355328∧∀x∈l,bp x.2∧x.2.length≤140737488355328:=by
 have h1:l.length≤dx∧∀x∈l,Ty.has (.struct [(.int .i64),(.slice (.int .u8))]) x:=h
 exact⟨h1.1,fun x hx=>⟨(eZ (n:=x.1) (b:=x.2) (h1.2 x hx)).2.2,(eZ (n:=x.1) (b:=x.2) (h1.2 x hx)).2.1⟩⟩
theorem getD_in{α:Type}{l:List α}{i:Nat}(h:i<l.length)(d:α):l.getD (i:Int).toNat d=l[i]:=by
 rw[Int.toNat_natCast,List.getD_eq_getElem?_getD,List.getElem?_eq_getElem h];rfl
theorem nI{l:List (Int×List Int)}{i:Nat}(h:i<l.length):(aj.n (.struct [(.int .i64),(.slice (.int .u8))]) l (i:Int):Int×List Int)=l[i]:=by
 exact getD_in h _
theorem bT{α:Type}{l:List α}{i:Nat}(h:i<l.length):aj.and (aj.c .leq 0 (i:Int)) (aj.c .lss (i:Int) (aj.l l))=true:=by
 have:aj.l l=(l.length:Int):=rfl
 rw[this,gZ,aO,aR];simpa using h
theorem Kz{x:Int×List Int}(h:bO x=true):(bR x).length≤4096:=by
 obtain⟨n,b⟩:=x
 rw[il]
 simp only[bO,Bool.and_eq_true,decide_eq_true_eq] at h
 show n.toNat≤4096
 omega
theorem CM{l:List Bool}(h:4096<l.length):xJ l=(zB,3):=by
 rw[xJ,show decide (4096<l.length)=true from by simpa using h];rfl
theorem zz{l:List (Int×List Int)}{i:Nat}(h:i<l.length):(l.take (i+1)).flatMap bR=(l.take i).flatMap bR++bR l[i]:=by
 rw[List.take_succ_eq_append_getElem h,List.flatMap_append]
 simp
theorem sU{l:List Bool}(h:l.length≤4096):xJ l=(bS l,0):=by
 rw[xJ,show decide (4096<l.length)=false from by simpa using h];rfl
end Go.Ev.M
