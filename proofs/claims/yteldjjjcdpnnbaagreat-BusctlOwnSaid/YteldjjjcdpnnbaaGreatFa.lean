/-
  PROVED: what the functions of the packages bits and metronomeref01 compute. Conditions: none.
-/
import Derived.Test.YteldjjjcdpnnbaaGreatTy
import Derived.Test.YteldjjjcdpnnbaaGreatEvC
import Derived.Test.YteldjjjcdpnnbaaGreatPl
namespace Go.Ev.M
open Go.Proofs
set_option maxRecDepth 100000
set_option linter.unusedVariables false
set_option linter.unusedSimpArgs false
open Go.Ev.Pl
open Go.Ev.Pl
theorem z8{i:Int}(h:0≤i)(h2:i≤4611686018427387904):ai.b .quo .i64 i 8=((i.toNat/8:Nat):Int):=by
 rw[Aw,Int.tdiv_eq_ediv_of_nonneg h,fQ (by omega) (by omega)];omega
theorem xK{i:Int}(h:0≤i):ai.b .rem .i64 i 8=((i.toNat%8:Nat):Int):=by
 rw[rN,Int.tmod_eq_emod_of_nonneg h];omega
theorem dU{n:Int}{b:List Int}(h:Ty.has (.struct [(.int .i64),(.slice (.int .u8))]) (n,b)):(-9223372036854775808≤n∧n≤9223372036854775807)∧b.length≤cO∧bI b:=by
 simp only[Ty.has,Ty.du] at h
 exact⟨h.1,h.2.1,fun x hx=>h.2.2 x hx⟩
theorem dy{n:Int}{b:List Int}(h:Ty.has (.struct [(.int .i64),(.slice (.int .u8))]) (n,b)):b.length≤140737488355328:=(dU h).2.1
theorem Fa{b:List Int}{i:Int}(h:Ty.du [(.slice (.int .u8)),(.int .i64)] (b,i)):b.length≤140737488355328:=by
 simp only[Ty.du,Ty.has] at h
 exact h.1.1
def HZ(A:aZ)(n:Int):LT Int Empty:=.ret (A.b .quo .i64 (A.b .add .i64 n 7) 8)
def da:Int→Int:=fun n=>(HZ ai n).val (Ty.cn [yI])
def UI:aA:=⟨[yI], [yI],(@tt Int),da⟩
theorem Eo:Sd 246 UI:=aL ax cm true 17 [] (fun A n=>HZ A n) (fc Tryz.func246 fz) sz (fun(n:Int) hp h=>by
 show(HZ ai n).pre=true
 rfl)
def C9(A:aZ)(i:Int):LT Int Empty:=.need (A.c .leq 0 (A.b .rem .i64 i 8)) (.ret (A.b .shr .u8 128 (A.b .rem .i64 i 8)))
def tG:Int→Int:=fun i=>(C9 ai i).val (Ty.cn [yU])
def lv:Int→Bool:=fun i=>decide (0≤i)
def Oq:aA:=⟨[yI], [yU],lv,tG⟩
theorem Fp:Sd 264 Oq:=aL ax cm true 17 [] (fun A i=>C9 A i) (fc Tryz.func264 fz) sz (fun(i:Int) hp h=>by
 show(C9 ai i).pre=true
 simp only[C9,LT.pre,fG,aS,aQ,ar,aF,aG,aN,aU,cu,ft,ap,bH,bl,bu,c_,dc,Bool.and_eq_true,Bool.or_eq_true,Bool.and_eq_false_iff,Bool.or_eq_false_iff,Bool.not_eq_true',Bool.not_eq_false',decide_eq_true_eq,decide_eq_false_iff_not,bne_iff_ne,beq_iff_eq,bne_eq_false_iff_eq,beq_eq_false_iff_ne]
 simp only[lv,decide_eq_true_eq] at hp
 rw[xK hp];exact⟨by omega,trivial⟩)
theorem k_{n:Int}(h:0≤n)(h2:n≤4611686018427387000):da n=(((n.toNat+7)/8:Nat):Int):=by
 simp only[da,HZ,LT.val]
 rw[bH,fQ (by omega) (by omega),z8 (by omega) (by omega)]
 omega
theorem FX:∀k:Fin 8,ai.b .shr .u8 128 (k.val:Int)=((128 >>> k.val:Nat):Int):=by decide +kernel
theorem x9{i:Int}(h:0≤i):tG i=((128 >>> (i.toNat%8):Nat):Int):=by
 simp only[tG,C9,LT.val]
 rw[xK h]
 exact FX ⟨i.toNat%8,Nat.mod_lt _ (by decide)⟩
theorem IN:∀c:Fin 256,∀k:Fin 8,(ai.b .and .u8 (c.val:Int) ((128 >>> k.val:Nat):Int) != 0)=c.val.testBit (7-k.val):=by decide +kernel
theorem sG{l:List Int}(h:bI l)(i:Nat):0≤l.getD i 0∧l.getD i 0≤255:=by
 rw[List.getD_eq_getElem?_getD]
 by_cases hi:i<l.length
 ·rw[List.getElem?_eq_getElem hi];exact h _ (List.getElem_mem hi)
 ·rw[List.getElem?_eq_none (by omega)];decide
theorem G4{l:List Int}(h:bI l)(i:Nat):(ai.b .and .u8 (l.getD (i/8) 0) ((128 >>> (i%8):Nat):Int) != 0)=eY l i:=by
 have h1:=sG h (i/8)
 have h2:=IN ⟨(l.getD (i/8) 0).toNat,by omega⟩ ⟨i%8,Nat.mod_lt _ (by decide)⟩
 simp only at h2
 rw[show(((l.getD (i/8) 0).toNat:Nat):Int)=l.getD (i/8) 0 from by omega] at h2
 exact h2
def Da(A:aZ)(bN:Int)(bB:List Int)(i:Int):LT Bool Empty:=.need (A.and (A.c .leq 0 (A.b .quo .i64 i 8)) (A.c .lss (A.b .quo .i64 i 8) (A.l bB))) (.need (A.k lv i) (.ret (A.c .neq (A.b .and .u8 (A.n yU bB (A.b .quo .i64 i 8):Int) (A.k tG i)) 0)))
def tg:((Int×List Int)×Int)→Bool:=fun((bN,bB),i)=>(Da ai bN bB i).val (Ty.cn [.bool])
def pF:((Int×List Int)×Int)→Bool:=fun((n,b),i)=>decide (0≤i)&&decide (i<8*(b.length:Int))
def Ow:aA:=⟨[(.struct [yI,yB]),yI], [.bool],pF,tg⟩
theorem Jo:Sd 257 Ow:=aL ax cm true 25 [] (fun A ((bN,bB),i)=>Da A bN bB i) (fc Tryz.func257 fz) (sc Fp sz) (fun(((bN,bB),i):(Int×List Int)×Int) hp h=>by
 show(Da ai bN bB i).pre=true
 simp only[pF,Bool.and_eq_true,decide_eq_true_eq] at hp
 have hl:=dy h.1
 simp only[Da,LT.pre,ap,aU,aF,ar,lv,Bool.and_eq_true,decide_eq_true_eq,c_]
 rw[z8 hp.1 (by omega)]
 refine⟨⟨by omega,by omega⟩,hp.1,trivial⟩)
theorem x8{n:Int}{b:List Int}{i:Int}(hb:bI b)(h0:0≤i)(h1:i<8*(b.length:Int))(hl:b.length≤140737488355328):tg ((n,b),i)=eY b i.toNat:=by
 simp only[tg,Da,LT.val,ap,aQ]
 rw[z8 h0 (by omega),x9 h0]
 exact G4 hb i.toNat
def NV(A:aZ)(bN:Int)(bB:List Int):LT Int Empty:=.br (A.c .lss bN 0) (.ret 10) (.br (A.c .gtr bN 4096) (.ret 10) (.need (A.k (@tt Int) bN) (.br (A.c .neq (A.l bB) (A.k da bN)) (.ret 10) (.br (A.c .neq (A.b .rem .i64 bN 8) 0) (.need (A.and (A.c .leq 0 (A.b .sub .i64 (A.l bB) 1)) (A.c .lss (A.b .sub .i64 (A.l bB) 1) (A.l bB))) (.need (A.c .leq 0 (A.b .rem .i64 bN 8)) (.br (A.c .neq (A.b .and .u8 (A.n yU bB (A.b .sub .i64 (A.l bB) 1):Int) (A.b .shr .u8 255 (A.b .rem .i64 bN 8))) 0) (.ret 10) (.ret 0)))) (.ret 0)))))
def iW:((Int×List Int))→Int:=fun(bN,bB)=>(NV ai bN bB).val (Ty.cn [yI])
def Wu:aA:=⟨[(.struct [yI,yB])], [yI],(@tt ((Int×List Int))),iW⟩
theorem zW:Sd 230 Wu:=aL ax cm true 67 [] (fun A (bN,bB)=>NV A bN bB) (fc Tryz.func230 fz) (sc Eo sz) (fun((bN,bB):(Int×List Int)) hp h=>by
 show(NV ai bN bB).pre=true
 have hl:=dy h
 simp only[NV,LT.pre,ap,aQ,ar,aG,aF,aU,dc,Bool.true_and,c_,fG,decide_eq_true_eq,decide_eq_false_iff_not,Bool.and_eq_true,bne_iff_ne,bne_eq_false_iff_eq,ne_eq,implies_true,and_true,true_and]
 intro h0 h1 h2 h3
 rw[k_ (by omega) (by omega)] at h2
 rw[xK (by omega)] at h3
 rw[bl,fQ (by omega) (by omega),xK (by omega)]
 omega)
theorem Ef:∀c:Fin 256,∀r:Fin 8,(ai.b .and .u8 (c.val:Int) (ai.b .shr .u8 255 (r.val:Int)) != 0)=!((List.range 8).all fun k=>decide (k<r.val) || !c.val.testBit (7-k)):=by decide +kernel
theorem Cs{n:Int}{b:List Int}(hb:bI b)(hl:b.length≤140737488355328):iW (n,b)=0↔0≤n∧n≤4096∧okB n.toNat b:=by
 simp only[iW,NV,LT.val,ap,aQ,ar,aG]
 by_cases h0:n<0
 ·simp only[h0,decide_true,cond_true]
  constructor
  ·intro h;cases h
  ·intro h;omega
 ·simp only[h0,decide_false,cond_false]
  by_cases h1:4096<n
  ·simp only[h1,decide_true,cond_true]
   constructor
   ·intro h;cases h
   ·intro h;omega
  ·simp only[h1,decide_false,cond_false]
   rw[k_ (by omega) (by omega)]
   have hlen:ai.l b=(b.length:Int):=rfl
   rw[hlen]
   by_cases h2:b.length=(n.toNat+7)/8
   ·rw[show((b.length:Int) != (((n.toNat+7)/8:Nat):Int))=false from by rw[h2];exact bne_self_eq_false _,cond_false,xK (by omega)]
    by_cases h3:n.toNat%8=0
    ·rw[h3]
     simp only[Int.natCast_zero,bne_self_eq_false,cond_false,true_iff]
     exact⟨by omega,by omega,h2,hb,fun i h4 h5=>by omega⟩
    ·rw[show(((n.toNat%8:Nat):Int) != 0)=true from by simp;omega,cond_true]
     have e:(ai.n (.int .u8) b (ai.b .sub .i64 (b.length:Int) 1):Int)=b.getD (n.toNat/8) 0:=by
      show b.getD (ai.b .sub .i64 (b.length:Int) 1).toNat 0=_
      rw[bl,fQ (by omega) (by omega)]
      congr 1
      omega
     have hx:=sG hb (n.toNat/8)
     have key:=Ef ⟨(b.getD (n.toNat/8) 0).toNat,by omega⟩ ⟨n.toNat%8,Nat.mod_lt _ (by decide)⟩
     simp only at key
     rw[show(((b.getD (n.toNat/8) 0).toNat:Nat):Int)=b.getD (n.toNat/8) 0 from by omega] at key
     have e2:(ai.b .and .u8 (ai.n (.int .u8) b (ai.b .sub .i64 (b.length:Int) 1):Int) (ai.b .shr .u8 255 ((n.toNat%8:Nat):Int)) != 0)=!((List.range 8).all fun k=>decide (k<n.toNat%8) || !(b.getD (n.toNat/8) 0).toNat.testBit (7-k)):=by
      rw[←key]
      exact congrArg (fun z:Int=>(ai.b .and .u8 z (ai.b .shr .u8 255 ((n.toNat%8:Nat):Int)) != 0)) e
     refine Iff.trans (b:=((List.range 8).all fun k=>decide (k<n.toNat%8) || !(b.getD (n.toNat/8) 0).toNat.testBit (7-k))=true) ?_ ?_
     ·refine Iff.trans (b:=(bif !((List.range 8).all fun k=>decide (k<n.toNat%8) || !(b.getD (n.toNat/8) 0).toNat.testBit (7-k)) then(10:Int) else 0)=0) (by rw[←e2]) ?_
      cases (List.range 8).all fun k=>decide (k<n.toNat%8) || !(b.getD (n.toNat/8) 0).toNat.testBit (7-k)<;>simp
     ·rw[List.all_eq_true]
      constructor
      ·intro h
       refine⟨by omega,by omega,h2,hb,fun i h4 h5=>?_⟩
       have:=h (i%8) (List.mem_range.2 (Nat.mod_lt _ (by decide)))
       have hi:i/8=n.toNat/8:=by omega
       rw[eY,hi]
       simp only[Bool.or_eq_true,decide_eq_true_eq,Bool.not_eq_true'] at this
       rcases this with h6|h6
       ·omega
       ·exact h6
      ·intro ⟨_,_,_,_,h⟩ k hk
       have hk:=List.mem_range.1 hk
       by_cases h6:k<n.toNat%8
       ·simp[h6]
       ·have:=h (8*(n.toNat/8)+k) (by omega) (by omega)
        rw[eY,show(8*(n.toNat/8)+k)/8=n.toNat/8 from by omega,show(8*(n.toNat/8)+k)%8=k from by omega] at this
        rw[this];simp
   ·rw[show((b.length:Int) != (((n.toNat+7)/8:Nat):Int))=true from bne_iff_ne.2 (by omega),cond_true]
    constructor
    ·intro h;cases h
    ·intro h;exact absurd h.2.2.1 h2
theorem zY{x:Int×List Int}:iW x=0∨iW x=10:=by
 obtain⟨n,b⟩:=x
 exact LT.kD (p:=fun y=>y=0∨y=10) (.inl rfl) (by simp[NV,LT.all])
theorem jJ{n:Int}{b:List Int}(hb:bI b)(hl:b.length≤140737488355328):iW (n,b)=bif bD (n,b) then 0 else 10:=by
 have h1:=Cs (n:=n) hb hl
 rw[←fS hb] at h1
 rcases zY (x:=(n,b)) with h2|h2
 ·rw[h2,h1.1 h2];rfl
 ·have:bD (n,b)=false:=by
   rw[←Bool.not_eq_true]
   intro h3
   rw[h1.2 h3] at h2
   cases h2
  rw[h2,this];rfl
theorem cy{i:Nat}(h:i<4611686018427387904):ai.b .add .i64 (i:Int) 1=((i+1:Nat):Int):=by
 rw[bH,fQ (by omega) (by omega)];rfl
theorem fu{i j:Nat}(h:i+j<4611686018427387904):ai.b .add .i64 (i:Int) (j:Int)=((i+j:Nat):Int):=by
 rw[bH,fQ (by omega) (by omega)];rfl
theorem aJ{i j:Nat}:ai.c .lss (i:Int) (j:Int)=decide (i<j):=by
 rw[ar];exact decide_eq_decide.2 Int.ofNat_lt
theorem iU{i j:Nat}:ai.c .leq (i:Int) (j:Int)=decide (i≤j):=by
 rw[aF];exact decide_eq_decide.2 Int.ofNat_le
theorem gj{i:Nat}:ai.c .leq 0 (i:Int)=true:=by rw[aF];simp
theorem kv{i:Nat}(h:i≤4611686018427387904):ai.b .quo .i64 (i:Int) 8=((i/8:Nat):Int):=by
 rw[z8 (by omega) (by omega)];rfl
theorem rK{i:Nat}:ai.b .rem .i64 (i:Int) 8=((i%8:Nat):Int):=by
 rw[xK (by omega)];rfl
theorem qZ{u v:Int}(h:u=v):ai.c .eql u v=true:=by rw[aS,h];exact beq_self_eq_true _
theorem FG{u v:Int}(h:u≠v):ai.c .eql u v=false:=by rw[aS];exact beq_eq_false_iff_ne.2 h
theorem cJ{u v:Int}(h:u=v):ai.c .neq u v=false:=by rw[aQ,h];exact bne_self_eq_false _
theorem eE{u v:Int}(h:u≠v):ai.c .neq u v=true:=by rw[aQ];exact bne_iff_ne.2 h
open Go.Ev.Pl
def Dd(A:aZ)(b:List Int)(i:Int):LT Bool Empty:=.need (A.and (A.c .leq 0 (A.b .quo .i64 i 8)) (A.c .lss (A.b .quo .i64 i 8) (A.l b))) (.need (A.c .leq 0 (A.v .u64 (A.b .sub .i64 7 (A.b .rem .i64 i 8)))) (.ret (A.c .eql (A.b .rem .u8 (A.b .shr .u8 (A.n yU b (A.b .quo .i64 i 8):Int) (A.v .u64 (A.b .sub .i64 7 (A.b .rem .i64 i 8)))) 2) 1)))
def gg:(List Int×Int)→Bool:=fun(b,i)=>(Dd ai b i).val (Ty.cn [.bool])
def iG:(List Int×Int)→Bool:=fun(b,i)=>decide (0≤i)&&decide (i<8*(b.length:Int))
def OZ:aA:=⟨[yB,yI], [.bool],iG,gg⟩
theorem F2:Sd 224 OZ:=aL ax cm true 26 [] (fun A (b,i)=>Dd A b i) (fc Tryz.func224 fz) sz (fun((b,i):List Int×Int) hp h=>by
 show(Dd ai b i).pre=true
 simp only[iG,Bool.and_eq_true,decide_eq_true_eq] at hp
 have hl:=Fa h
 simp only[Dd,LT.pre,aU,aF,ar,Bool.and_eq_true,decide_eq_true_eq,c_,bu,Bool.and_true]
 rw[z8 hp.1 (by omega),xK hp.1,bl,fQ (by omega) (by omega),BE (by omega) (by omega)]
 refine⟨⟨by omega,by omega⟩,by omega⟩)
theorem H7:∀c:Fin 256,∀k:Fin 8,(ai.b .rem .u8 (ai.b .shr .u8 (c.val:Int) (IntKind.u64.wrap (7-(k.val:Int)))) 2==1)=c.val.testBit (7-k.val):=by decide +kernel
theorem lV{b:List Int}{i:Int}(hb:bI b)(h0:0≤i)(h1:i<4611686018427387904):gg (b,i)=eY b i.toNat:=by
 simp only[gg,Dd,LT.val,bu]
 rw[z8 h0 (by omega),xK h0,bl,fQ (by omega) (by omega)]
 have hx:=sG hb (i.toNat/8)
 have key:=H7 ⟨(b.getD (i.toNat/8) 0).toNat,by omega⟩ ⟨i.toNat%8,Nat.mod_lt _ (by decide)⟩
 simp only at key
 rw[show(((b.getD (i.toNat/8) 0).toNat:Nat):Int)=b.getD (i.toNat/8) 0 from by omega] at key
 exact key
structure JO where
 (a1:Int) (a2:List Int)
inductive VO where
 | c0 (p:JO) (a0:Int)
noncomputable def RH:VO→fJ
 | .c0 p a0=>⟨[⟨190,36,(en [(1,.ptr 0 0),(3,vi a0)]),[.inLoop (cw Tryz.f190 [1,1,0,1,0,0]),.inBlock 0,.code (cw Tryz.f190 [1,1,1])],[],none⟩],[.flat false [vi p.a1,.sl yU p.a2],.dead]⟩
def Wo(A:aZ)(bN:Int)(bB:List Int):LT Int VO:=.br (A.c .lss bN 0) (.ret 10) (.br (A.c .gtr bN 4096) (.ret 10) (.br (A.c .neq (A.l bB) (A.b .quo .i64 (A.b .add .i64 bN 7) 8)) (.ret 10) (.more (.c0 ⟨bN,bB⟩ bN))))
def TH(A:aZ):VO→LT Int VO
 | .c0 p a0=>.br (A.c .lss a0 (A.b .mul .i64 8 (A.l p.a2))) (.need (A.k iG (p.a2,a0)) (.br (A.k gg (p.a2,a0)) (.ret 10) (.more (.c0 p (A.b .add .i64 a0 1))))) (.ret 0)
theorem G6{n:Nat}{b:List Int}(p:JO)(hp:p.a2=b)(hb:bI b)(hl:b.length≤140737488355328):∀(j i:Nat),8*b.length-i=j→aB (TH ai) (.more (.c0 p (i:Int))) (bif (List.range (8*b.length)).all (fun k=>decide (k<i) || !eY b k) then 0 else 10):=by
 subst hp
 intro j
 have hm:ai.b .mul .i64 8 (ai.l p.a2)=((8*p.a2.length:Nat):Int):=by
  show IntKind.i64.wrap (8*(p.a2.length:Int))=_
  rw[fQ (by omega) (by omega)];omega
 induction j with
 | zero=>
  intro i hj
  rw[show((List.range (8*p.a2.length)).all fun k=>decide (k<i) || !eY p.a2 k)=true from by
   rw[List.all_eq_true];intro k hk;have:=List.mem_range.1 hk;simp;omega]
  simp only[ak,TH,oT,hm,aJ]
  rw[show decide (i<8*p.a2.length)=false from by simp;omega]
  exact .ret _
 | succ j ih=>
  intro i hj
  simp only[ak,TH,oT,hm,aJ]
  rw[show decide (i<8*p.a2.length)=true from by simp;omega]
  simp only[cond_true,af,ap]
  refine⟨by simp[iG];omega,?_⟩
  rw[lV hb (by omega) (by omega),Int.toNat_natCast,cy (by omega)]
  cases hbit:eY p.a2 i
  ·refine(ah rfl).2 ?_
   have:=ih (i+1) (by omega)
   have e:((List.range (8*p.a2.length)).all fun k=>decide (k<i) || !eY p.a2 k)=((List.range (8*p.a2.length)).all fun k=>decide (k<i+1) || !eY p.a2 k):=by
    rw[Bool.eq_iff_iff,List.all_eq_true,List.all_eq_true]
    constructor
    ·intro h k hk
     have:=h k hk
     simp at this ⊢
     rcases this with h1|h1
     ·exact .inl (by omega)
     ·exact .inr h1
    ·intro h k hk
     have:=h k hk
     simp at this ⊢
     by_cases hki:k=i
     ·subst hki;exact .inr hbit
     ·rcases this with h1|h1
      ·exact .inl (by omega)
      ·exact .inr h1
   rw[e]
   exact this
  ·refine(aj rfl).2 ?_
   rw[show((List.range (8*p.a2.length)).all fun k=>decide (k<i) || !eY p.a2 k)=false from by
    rw[List.all_eq_false];exact⟨i,List.mem_range.2 (by omega),by simp[hbit]⟩]
   exact .ret _
theorem Lu{n:Int}{b:List Int}(h:Ty.du [(.struct [(.int .i64),(.slice (.int .u8))])] (n,b)):aB (TH ai) (Wo ai n b) (bif bD (n,b) then 0 else 10):=by
 have hb:=(dU h).2.2
 have hl:=dy h
 have hn:=(dU h).1
 unfold Wo
 rw[bD]
 by_cases h0:n<0
 ·refine(aj (by simpa [ar] using h0)).2 ?_
  rw[show decide (0≤n)=false from by simp;omega]
  exact .ret _
 ·refine(ah (by simpa [ar] using h0)).2 ?_
  by_cases h1:4096<n
  ·refine(aj (by simpa [aG] using h1)).2 ?_
   rw[show decide (n≤4096)=false from by simp;omega,Bool.and_false]
   exact .ret _
  ·refine(ah (by simpa [aG] using h1)).2 ?_
   rw[show decide (0≤n)=true from by simp;omega,show decide (n≤4096)=true from by simp;omega,bH,fQ (by omega) (by omega),z8 (by omega) (by omega),show(n+7).toNat/8=(n.toNat+7)/8 from by omega]
   by_cases h2:b.length=(n.toNat+7)/8
   ·refine(ah (cJ (show(b.length:Int)=_ by rw[h2]))).2 ?_
    rw[show(b.length==(n.toNat+7)/8)=true from by simpa using h2]
    have:=G6 (n:=n.toNat) ⟨n,b⟩ rfl hb hl (8*b.length-n.toNat) n.toNat rfl
    rw[show((n.toNat:Nat):Int)=n from by omega] at this
    exact this
   ·refine(aj (eE (show(b.length:Int)≠_ by omega))).2 ?_
    rw[show(b.length==(n.toNat+7)/8)=false from by simpa using h2]
    simp only[Bool.and_false,Bool.false_and,cond_false]
    exact .ret _
def jq:((Int×List Int))→Int:=fun x=>bif bD x then 0 else 10
def Xc:aA:=⟨[(.struct [yI,yB])], [yI],(@tt ((Int×List Int))),jq⟩
theorem GI:Sd 190 Xc:=aH ax cm true 44 [⟨190,4, [[1,3]]⟩] [] (fun A (bN,bB)=>Wo A bN bB) TH RH (fc Tryz.func190 fz) (sc F2 sz) (fun A y=>match y with |.c0 p a0=>⟨35,by kernel_rfl,by kernel_rfl⟩) fun(bN,bB) hp h=>Lu h
open Go.Ev.Pl
structure Lg where
 (a0 a1:Int) (a2:List Int)
structure F1 where
 (b1:Int) (b2:List Int)
inductive B7 where
 | c0 (p:Lg)
 | c1 (p:F1) (b0:Int) (b3:List Bool)
noncomputable def Ls:B7→fJ
 | .c0 p=>⟨[⟨191,22,(en [(1,.ptr 0 0),(3,.bZ true),(4,vi p.a0)]),[.inLoop (cw Tryz.f191 [1,1,1,0,1,0,0]),.inBlock 0,.code (cw Tryz.f191 [1,1,1,1])],[],none⟩],[.flat false [vi p.a1,.sl yU p.a2],.dead]⟩
 | .c1 p b0 b3=>⟨[⟨191,22,(en [(1,.ptr 0 0),(3,.own 1),(4,vi b0)]),[.inLoop (cw Tryz.f191 [1,1,1,0,1,0,0]),.inBlock 0,.code (cw Tryz.f191 [1,1,1,1])],[],none⟩],[.flat false [vi p.b1,.sl yU p.b2],.arr false .bool b3,.dead]⟩
def t127(A:aZ)(bN:Int)(bB:List Int):LT (List Bool) B7:=.need (A.k (@tt ((Int×List Int))) (bN,bB)) (.br (A.c .neq (A.k jq (bN,bB)) 0) (.ret ([]:List Bool)) (.more (.c0 ⟨0,bN,bB⟩)))
def zD(A:aZ):B7→LT (List Bool) B7
 | .c0 p=>.br (A.c .lss p.a0 p.a1) (.need (A.k iG (p.a2,p.a0)) (.need (A.c .leq (A.l ([(A.k gg (p.a2,p.a0))]:List Bool)) 70368744177664) (.more (.c1 ⟨p.a1,p.a2⟩ (A.b .add .i64 p.a0 1) [(A.k gg (p.a2,p.a0))])))) (.ret ([]:List Bool))
 | .c1 p b0 b3=>.br (A.c .lss b0 p.b1) (.need (A.k iG (p.b2,b0)) (.need (A.c .leq (A.l (A.p b3 [(A.k gg (p.b2,b0))])) 70368744177664) (.more (.c1 p (A.b .add .i64 b0 1) (A.p b3 [(A.k gg (p.b2,b0))]))))) (.ret b3)
theorem bi{R Y:Type}{step:Y→LT R Y}{t t':LT R Y}{r:R}(h:t=t')(h2:aB step t' r):aB step t r:=h▸h2
theorem BF{n:Nat}{b:List Int}(hb:bI b)(hl:b.length≤140737488355328)(hn:n≤4096)(hok:n≤8*b.length):∀(j i:Nat) (p:F1),p.b1=(n:Int)→p.b2=b→n-i=j→i≤n→aB (zD ai) (.more (.c1 p (i:Int) (unpack i b))) (unpack n b):=by
 intro j
 induction j with
 | zero=>
  intro i p h1 h2 hj hi
  have:i=n:=by omega
  subst this
  simp only[ak,zD,oT,h1,aJ]
  rw[show decide (i<i)=false from by simp]
  exact .ret _
 | succ j ih=>
  intro i p h1 h2 hj hi
  simp only[ak,zD]
  refine(aj (by rw[h1,aJ];simp;omega)).2 (af.2 ⟨?_,af.2 ⟨?_,?_⟩⟩)
  ·rw[h2,ap];simp[iG];omega
  ·show decide (((unpack i b ++ [_]).length:Int)≤70368744177664)=true
   rw[List.length_append,aX]
   simp;omega
  ·have e:(ai.p (unpack i b) [(ai.k gg (p.b2,(i:Int)))]:List Bool)=unpack (i+1) b:=by
    show unpack i b ++ [gg (p.b2,(i:Int))]=_
    rw[h2,lV hb (by omega) (by omega),qT,Int.toNat_natCast]
   exact bi (congrArg LT.more (congr (congrArg (B7.c1 p) (cy (by omega))) e)) (ih (i+1) p h1 h2 (by omega) (by omega))
theorem VI{n:Int}{b:List Int}(h:Ty.du [(.struct [(.int .i64),(.slice (.int .u8))])] (n,b)):aB (zD ai) (t127 ai n b) (bif bD (n,b) then bG (n,b) else[]):=by
 have hb:=(dU h).2.2
 have hl:=dy h
 unfold t127
 refine af.2 ⟨rfl,?_⟩
 cases hok:bD (n,b)
 ·refine(aj (show(jq (n,b) != 0)=true by rw[jq,hok];rfl)).2 ?_
  exact .ret _
 ·refine(ah (show(jq (n,b) != 0)=false by rw[jq,hok];rfl)).2 ?_
  obtain⟨h1,h2,h3⟩:=(fS hb).1 hok
  have h4:=h3.1
  rw[cond_true]
  simp only[ak,zD]
  show aB (zD ai) _ (unpack n.toNat b)
  by_cases h0:0<n
  ·refine(aj (by rw[ar];simpa using h0)).2 (af.2 ⟨?_,af.2 ⟨rfl,?_⟩⟩)
   ·rw[ap];simp[iG];omega
   ·have e:([(ai.k gg (b,(0:Int)))]:List Bool)=unpack 1 b:=by
     show[gg (b,(0:Int))]=_
     rw[lV hb (by omega) (by omega)];rfl
    refine bi (congrArg LT.more (congr (congrArg (B7.c1 ⟨n,b⟩) (cy (i:=0) (by omega))) e)) ?_
    exact BF hb hl (by omega) (by omega) (n.toNat-1) 1 ⟨n,b⟩ (by show n=_;omega) rfl (by omega) (by omega)
  ·refine(ah (by rw[ar];simp;omega)).2 ?_
   rw[show n.toNat=0 from by omega]
   exact .ret _
def jH:((Int×List Int))→(List Bool):=fun x=>bif bD x then bG x else[]
def QE:aA:=⟨[(.struct [yI,yB])], [(.slice .bool)],(@tt ((Int×List Int))),jH⟩
theorem Jh:Sd 191 QE:=aH ax cm true 31 [⟨191,5, [[1,3,4]]⟩] [] (fun A (bN,bB)=>t127 A bN bB) zD Ls (fc Tryz.func191 fz) (sc GI (sc F2 sz)) (fun A y=>match y with |.c0 p=>⟨34,by kernel_rfl,by kernel_rfl⟩|.c1 p b0 b3=>⟨34,by kernel_rfl,by kernel_rfl⟩) fun(bN,bB) hp h=>VI h
structure Ep where
 (a0:List Bool) (a2 a3:Int)
inductive Bz where
 | c0 (p:Ep) (a1:Int) (a4:List Int)
noncomputable def Me:Bz→fJ
 | .c0 p a1 a4=>⟨[⟨192,42,(en [(0,.sl .bool p.a0),(2,.ptr 0 0),(4,.ptr 1 0),(5,vi a1)]),[.inLoop (cw Tryz.f192 [1,1,1,0,1,0,0]),.inBlock 0,.code (cw Tryz.f192 [1,1,1,1])],[],none⟩],[.flat false [vi p.a2,.bZ true],.flat false [vi p.a3,.own 2],.arr false yU a4,.dead]⟩
def Mh(A:aZ)(l:List Bool):LT ((Int×List Int)×Int) Bz:=.br (A.c .gtr (A.l l) 4096) (.ret ((0,([]:List Int)),3)) (.need (A.and (A.c .eql (A.b .quo .i64 (A.b .add .i64 (A.l l) 7) 8) (A.b .quo .i64 (A.b .add .i64 (A.l l) 7) 8)) (A.and (A.c .leq 0 (A.b .quo .i64 (A.b .add .i64 (A.l l) 7) 8)) (A.c .leq (A.b .quo .i64 (A.b .add .i64 (A.l l) 7) 8) 70368744177664))) (.more (.c0 ⟨l,0,(A.l l)⟩ 0 (A.r (A.b .quo .i64 (A.b .add .i64 (A.l l) 7) 8) (0:Int)))))
def DO(A:aZ):Bz→LT ((Int×List Int)×Int) Bz
 | .c0 p a1 a4=>.br (A.c .lss a1 (A.l p.a0)) (.need (A.and (A.c .leq 0 a1) (A.c .lss a1 (A.l p.a0))) (.br (A.n .bool p.a0 a1:Bool) (.need (A.and (A.c .leq 0 (A.b .quo .i64 a1 8)) (A.c .lss (A.b .quo .i64 a1 8) (A.l a4))) (.need (A.c .leq 0 (A.v .u64 (A.b .sub .i64 7 (A.b .rem .i64 a1 8)))) (.need (A.and (A.c .leq 0 (A.b .quo .i64 a1 8)) (A.c .lss (A.b .quo .i64 a1 8) (A.l a4))) (.more (.c0 p (A.b .add .i64 a1 1) (A.set a4 (A.b .quo .i64 a1 8) (A.b .or .u8 (A.n yU a4 (A.b .quo .i64 a1 8):Int) (A.b .shl .u8 1 (A.v .u64 (A.b .sub .i64 7 (A.b .rem .i64 a1 8))))))))))) (.more (.c0 p (A.b .add .i64 a1 1) a4)))) (.ret ((p.a3,a4),0))
theorem HE:∀c:Fin 256,∀k:Fin 8,ai.b .or .u8 (c.val:Int) (ai.b .shl .u8 1 (IntKind.u64.wrap (7-(k.val:Int))))=((c.val ||| 128 >>> k.val:Nat):Int):=by decide +kernel
theorem Ia:∀c:Fin 256,∀k:Fin 8,ai.b .or .u8 (c.val:Int) ((128 >>> k.val:Nat):Int)=((c.val ||| 128 >>> k.val:Nat):Int):=by decide +kernel
theorem I8{B:List Int}{l:List Bool}{m i:Nat}(h:Holds B l m)(hi:l.length=i)(h1:i<8*m)(hm:m≤100000) :
  Holds (ai.set B (ai.b .quo .i64 (i:Int) 8) (ai.b .or .u8 (ai.n (.int .u8) B (ai.b .quo .i64 (i:Int) 8):Int) (ai.b .shl .u8 1 (ai.v .u64 (ai.b .sub .i64 7 (ai.b .rem .i64 (i:Int) 8)))))) (l ++ [true]) m:=by
 rw[kv (by omega),rK,bl,fQ (by omega) (by omega),bu]
 have key:=HE ⟨(B.getD (i/8) 0).toNat,ov h.2.1 _⟩ ⟨i%8,Nat.mod_lt _ (by decide)⟩
 simp only at key
 rw[show(((B.getD (i/8) 0).toNat:Nat):Int)=B.getD (i/8) 0 from Int.toNat_of_nonneg (sG h.2.1 _).1] at key
 have:=h.set (by omega)
 rw[hi] at this
 rw[←key] at this
 exact this
theorem xZ{B:List Int}{l:List Bool}{m i:Nat}(h:Holds B l m)(hi:l.length=i)(h1:i<8*m)(hm:m≤100000) :
  Holds (ai.set B (ai.b .quo .i64 (i:Int) 8) (ai.b .or .u8 (ai.n (.int .u8) B (ai.b .quo .i64 (i:Int) 8):Int) (ai.k tG (i:Int)))) (l ++ [true]) m:=by
 rw[kv (by omega),ap,x9 (by omega),Int.toNat_natCast]
 have key:=Ia ⟨(B.getD (i/8) 0).toNat,ov h.2.1 _⟩ ⟨i%8,Nat.mod_lt _ (by decide)⟩
 simp only at key
 rw[show(((B.getD (i/8) 0).toNat:Nat):Int)=B.getD (i/8) 0 from Int.toNat_of_nonneg (sG h.2.1 _).1] at key
 have:=h.set (by omega)
 rw[hi] at this
 rw[←key] at this
 exact this
theorem mF{l:List Bool}{i:Nat}(h:i<l.length):l.take (i+1)=l.take i ++ [l.getD i false]:=by
 rw[List.take_succ_eq_append_getElem h,List.getD_eq_getElem?_getD,List.getElem?_eq_getElem h];rfl
theorem Ie{l:List Bool}(hl:l.length≤4096):∀(j i:Nat) (p:Ep) (B:List Int),p.a0=l→p.a3=(l.length:Int)→l.length-i=j→i≤l.length→Holds B (l.take i) ((l.length+7)/8)→aB (DO ai) (.more (.c0 p (i:Int) B)) (bO l,0):=by
 intro j
 induction j with
 | zero=>
  intro i p B h1 h2 hj hi hB
  have:i=l.length:=by omega
  subst this
  simp only[ak,DO]
  have hlen:ai.l p.a0=(l.length:Int):=by rw[h1];rfl
  refine(ah (by rw[hlen,aJ];simp)).2 ?_
  rw[List.take_length] at hB
  rw[h2,hB.done rfl]
  exact .ret _
 | succ j ih=>
  intro i p B h1 h2 hj hi hB
  simp only[ak,DO]
  have hlen:ai.l p.a0=(l.length:Int):=by rw[h1];rfl
  have hlb:ai.l B=(((l.length+7)/8:Nat):Int):=by rw[←hB.1];rfl
  have hq:(ai.and (ai.c .leq 0 (ai.b .quo .i64 (i:Int) 8)) (ai.c .lss (ai.b .quo .i64 (i:Int) 8) (ai.l B)))=true:=by
   rw[kv (by omega),hlb,gj,aJ,aU];simp;omega
  have htl:(l.take i).length=i:=by rw[List.length_take];omega
  refine(aj (by rw[hlen,aJ];simp;omega)).2 (af.2 ⟨by rw[gj,hlen,aJ,aU];simp;omega,?_⟩)
  have hb:(ai.n .bool p.a0 (i:Int):Bool)=l.getD i false:=by
   show p.a0.getD (i:Int).toNat false=_
   rw[h1,Int.toNat_natCast]
  have hts:=mF (l:=l) (i:=i) (by omega)
  cases hx:l.getD i false
  ·rw[hx] at hts
   refine(ah (hb.trans hx)).2 ?_
   exact bi (congrArg LT.more (congr (congrArg (Bz.c0 p) (cy (by omega))) rfl)) (ih (i+1) p B h1 h2 (by omega) (by omega) (hts▸hB.skip))
  ·rw[hx] at hts
   refine(aj (hb.trans hx)).2 (af.2 ⟨hq,af.2 ⟨?_,af.2 ⟨hq,?_⟩⟩⟩)
   ·rw[rK,bl,fQ (by omega) (by omega),bu,BE (by omega) (by omega),aF];simp;omega
   ·exact bi (congrArg LT.more (congr (congrArg (Bz.c0 p) (cy (by omega))) rfl)) (ih (i+1) p _ h1 h2 (by omega) (by omega) (hts▸I8 hB htl (by omega) (by omega)))
theorem YQ{l:List Bool}:aB (DO ai) (Mh ai l) (uh l):=by
 unfold Mh
 have hlen:ai.l l=(l.length:Int):=rfl
 rw[uh]
 by_cases hl:4096<l.length
 ·refine(aj (by rw[hlen,aG];simp;omega)).2 ?_
  rw[show decide (4096<l.length)=true from by simpa using hl]
  exact .ret _
 ·have hq:ai.b .quo .i64 (ai.b .add .i64 (ai.l l) 7) 8=(((l.length+7)/8:Nat):Int):=by
   rw[hlen,show ai.b .add .i64 (l.length:Int) 7=((l.length+7:Nat):Int) from fu (j:=7) (by omega),kv (by omega)]
  refine(ah (by rw[hlen,aG];simp;omega)).2 (af.2 ⟨?_,?_⟩)
  ·rw[hq,gj,qZ rfl,aF,aU,aU];simp;omega
  ·rw[show decide (4096<l.length)=false from by simpa using hl]
   refine Ie (by omega) l.length 0 _ _ rfl rfl (by omega) (by omega) ?_
   rw[hq,kq,Int.toNat_natCast]
   exact Holds.blank _
def qE:(List Bool)→((Int×List Int)×Int):=uh
def Qp:aA:=⟨[(.slice .bool)], [(.struct [yI,yB]),yI],(@tt (List Bool)),qE⟩
theorem Jm:Sd 192 Qp:=aH ax cm true 40 [⟨192,5, [[0,2,4,5]]⟩] [] (fun A l=>Mh A l) DO Me (fc Tryz.func192 fz) sz (fun A y=>match y with |.c0 p a1 a4=>⟨48,by kernel_rfl,by kernel_rfl⟩) fun l hp h=>YQ
open Go.Ev.Pl
structure Er where
 (a0 a1 a2:Int)
structure F5 where
 (b0 b1 b2 b3:Int) (b4:List Int) (b5:Int)
structure EH where
 (c0 c2:Int)
structure Gb where
 (d1 d2 d3:Int) (d4:List Int) (d6:Int)
inductive zh where
 | c0 (p:Er)
 | c1 (p:F5)
 | c2 (p:EH) (c1:Int) (c3:List Bool)
 | c3 (p:Gb) (d0:Int) (d5:List Bool)
noncomputable def Kl:zh→fJ
 | .c0 p=>⟨[⟨188,53,(en [(1,.int .u64 false p.a0),(6,.ptr 0 0),(8,.bZ true),(9,vi p.a1)]),[.inLoop (cw Tryz.f188 [1,1,1,1,0,1,0,0]),.inBlock 0,.code (cw Tryz.f188 [1,1,1,1,1])],[],none⟩],[.flat false [vi p.a2,.bZ true],.dead]⟩
 | .c1 p=>⟨[⟨191,22,(en [(1,.ptr 0 0),(3,.bZ true),(4,vi p.b0)]),[.inLoop (cw Tryz.f191 [1,1,1,0,1,0,0]),.inBlock 0,.code (cw Tryz.f191 [1,1,1,1])],[],none⟩,⟨188,53,(en [(1,.int .u64 false p.b1),(2,vi p.b2),(6,.ptr 1 0)]),[.ops (ow Tryz.f188 [1,1,1,0]) ((ow Tryz.f188 [1,1,1,0]).toList.drop 1),.code (cw Tryz.f188 [1,1,1,1])],[],none⟩],[.flat false [vi p.b3,.sl yU p.b4],.flat false [vi p.b5,.bZ true],.dead]⟩
 | .c2 p c1 c3=>⟨[⟨188,53,(en [(1,.int .u64 false p.c0),(6,.ptr 0 0),(8,.own 1),(9,vi c1)]),[.inLoop (cw Tryz.f188 [1,1,1,1,0,1,0,0]),.inBlock 0,.code (cw Tryz.f188 [1,1,1,1,1])],[],none⟩],[.flat false [vi p.c2,.bZ true],.arr false .bool c3,.dead]⟩
 | .c3 p d0 d5=>⟨[⟨191,22,(en [(1,.ptr 0 0),(3,.own 1),(4,vi d0)]),[.inLoop (cw Tryz.f191 [1,1,1,0,1,0,0]),.inBlock 0,.code (cw Tryz.f191 [1,1,1,1])],[],none⟩,⟨188,53,(en [(1,.int .u64 false p.d1),(2,vi p.d2),(6,.ptr 2 0)]),[.ops (ow Tryz.f188 [1,1,1,0]) ((ow Tryz.f188 [1,1,1,0]).toList.drop 1),.code (cw Tryz.f188 [1,1,1,1])],[],none⟩],[.flat false [vi p.d3,.sl yU p.d4],.arr false .bool d5,.flat false [vi p.d6,.bZ true],.dead]⟩
def KJ(A:aZ)(bN:Int)(bB:List Int)(v:Int)(width:Int):LT ((Int×List Int)×Int) zh:=.need (A.k (@tt ((Int×List Int))) (bN,bB)) (.br (A.c .neq (A.k jq (bN,bB)) 0) (.ret ((0,([]:List Int)),10)) (.br (A.c .lss width 0) (.ret ((0,([]:List Int)),2)) (.br (A.c .gtr width 64) (.ret ((0,([]:List Int)),2)) (.br (A.c .lss width 64) (.need (A.c .leq 0 (A.v .u64 width)) (.br (A.c .neq (A.b .shr .u64 v (A.v .u64 width)) 0) (.ret ((0,([]:List Int)),2)) (.need (A.k (@tt ((Int×List Int))) (bN,bB)) (.br (A.c .neq (A.k jq (bN,bB)) 0) (.more (.c0 ⟨v,(A.b .sub .i64 width 1),0⟩)) (.more (.c1 ⟨0,v,width,bN,bB,0⟩)))))) (.need (A.k (@tt ((Int×List Int))) (bN,bB)) (.br (A.c .neq (A.k jq (bN,bB)) 0) (.more (.c0 ⟨v,(A.b .sub .i64 width 1),0⟩)) (.more (.c1 ⟨0,v,width,bN,bB,0⟩))))))))
def ob(A:aZ):zh→LT ((Int×List Int)×Int) zh
 | .c0 p=>.br (A.c .geq p.a1 0) (.need (A.c .leq 0 (A.v .u64 p.a1)) (.need (A.c .leq (A.l ([(A.c .eql (A.b .rem .u64 (A.b .shr .u64 p.a0 (A.v .u64 p.a1)) 2) 1)]:List Bool)) 70368744177664) (.more (.c2 ⟨p.a0,p.a2⟩ (A.b .sub .i64 p.a1 1) [(A.c .eql (A.b .rem .u64 (A.b .shr .u64 p.a0 (A.v .u64 p.a1)) 2) 1)])))) (.need (A.k (@tt (List Bool)) ([]:List Bool)) (.ret (A.k qE ([]:List Bool))))
 | .c1 p=>.br (A.c .lss p.b0 p.b3) (.need (A.k iG (p.b4,p.b0)) (.need (A.c .leq (A.l ([(A.k gg (p.b4,p.b0))]:List Bool)) 70368744177664) (.more (.c3 ⟨p.b1,p.b2,p.b3,p.b4,p.b5⟩ (A.b .add .i64 p.b0 1) [(A.k gg (p.b4,p.b0))])))) (.more (.c0 ⟨p.b1,(A.b .sub .i64 p.b2 1),p.b5⟩))
 | .c2 p c1 c3=>.br (A.c .geq c1 0) (.need (A.c .leq 0 (A.v .u64 c1)) (.need (A.c .leq (A.l (A.p c3 [(A.c .eql (A.b .rem .u64 (A.b .shr .u64 p.c0 (A.v .u64 c1)) 2) 1)])) 70368744177664) (.more (.c2 p (A.b .sub .i64 c1 1) (A.p c3 [(A.c .eql (A.b .rem .u64 (A.b .shr .u64 p.c0 (A.v .u64 c1)) 2) 1)]))))) (.need (A.k (@tt (List Bool)) c3) (.ret (A.k qE c3)))
 | .c3 p d0 d5=>.br (A.c .lss d0 p.d3) (.need (A.k iG (p.d4,d0)) (.need (A.c .leq (A.l (A.p d5 [(A.k gg (p.d4,d0))])) 70368744177664) (.more (.c3 p (A.b .add .i64 d0 1) (A.p d5 [(A.k gg (p.d4,d0))]))))) (.more (.c2 ⟨p.d1,p.d6⟩ (A.b .sub .i64 p.d2 1) d5))
theorem AT{a:Int}{n:Nat}(h:0≤a)(hn:n≤64):ai.b .shr .u64 a (n:Int)=((a.toNat/2^n:Nat):Int):=by
 show a.fdiv (2^min (n:Int).toNat 64)=_
 obtain⟨m,rfl⟩:=Int.eq_ofNat_of_zero_le h
 rw[Int.toNat_natCast,Nat.min_eq_left hn,Int.fdiv_eq_ediv_of_nonneg _ (Int.pow_nonneg (by decide))]
 simp
theorem F4{a:Int}{n:Nat}(h:0≤a)(hn:n≤32):ai.b .shr .u32 a (n:Int)=((a.toNat/2^n:Nat):Int):=by
 show a.fdiv (2^min (n:Int).toNat 32)=_
 obtain⟨m,rfl⟩:=Int.eq_ofNat_of_zero_le h
 rw[Int.toNat_natCast,Nat.min_eq_left hn,Int.fdiv_eq_ediv_of_nonneg _ (Int.pow_nonneg (by decide))]
 simp
theorem dA{n:Nat}(h:n<4611686018427387904):ai.v .u64 (n:Int)=(n:Int):=by rw[bu,BE (by omega) (by omega)]
theorem y2{k:IntKind}{m:Nat}:ai.c .eql (ai.b .rem k (m:Int) 2) 1=decide (m%2=1):=by
 show((m:Int).tmod 2==1)=_
 rw[Int.tmod_eq_emod_of_nonneg (by omega),Bool.eq_iff_iff]
 simp only[beq_iff_eq,decide_eq_true_eq]
 omega
theorem Bh{v:Int}{k:Nat}(h:0≤v)(hk:k≤64):ai.c .eql (ai.b .rem .u64 (ai.b .shr .u64 v (ai.v .u64 (k:Int))) 2) 1=v.toNat.testBit k:=by
 rw[dA (by omega),AT h hk,y2,Nat.testBit_eq_decide_div_mod_eq]
theorem Ej{m:Nat}:ai.c .eql (ai.b .and .u64 (m:Int) 1) 1=decide (m%2=1):=by
 show(IntKind.u64.wrap ((BitVec.ofInt 64 (m:Int) &&& BitVec.ofInt 64 1).toNat:Int)==1)=_
 rw[BitVec.ofInt_natCast,show BitVec.ofInt 64 1=BitVec.ofNat 64 1 from rfl,BitVec.toNat_and,BitVec.toNat_ofNat,BitVec.toNat_ofNat,show 1%2^64=1 from rfl,Nat.and_one_is_mod,BE (by omega) (by omega),Bool.eq_iff_iff]
 simp only[beq_iff_eq,decide_eq_true_eq]
 omega
theorem FY{v:Int}{k:Nat}(h:0≤v)(hk:k≤64):ai.c .eql (ai.b .and .u64 (ai.b .shr .u64 v (k:Int)) 1) 1=v.toNat.testBit k:=by
 rw[AT h hk,Ej,Nat.testBit_eq_decide_div_mod_eq]
theorem kg{i j:Nat}(h:j≤i)(hi:i<4611686018427387904):ai.b .sub .i64 (i:Int) (j:Int)=((i-j:Nat):Int):=by
 rw[bl,fQ (by omega) (by omega)];omega
theorem qW(v k:Nat):bitsOf v (k+1)=v.testBit k::bitsOf v k:=by
 rw[bitsOf,List.range_succ_eq_map,List.map_cons,List.map_map]
 congr 1
 apply List.map_congr_left
 intro a _
 show v.testBit (k+1-1-(a+1))=v.testBit (k-1-a)
 congr 1;omega
theorem rJ{v:Int}{w:Nat}(h:0≤v):decide ((2:Int)^w≤v)=(((v.toNat/2^w:Nat):Int) != 0):=by
 obtain⟨m,rfl⟩:=Int.eq_ofNat_of_zero_le h
 rw[Int.toNat_natCast,Bool.eq_iff_iff]
 have h2:(2:Int)^w=((2^w:Nat):Int):=by simp
 rw[h2,decide_eq_true_eq,bne_iff_ne]
 have hp:=Nat.two_pow_pos w
 constructor
 ·intro h3
  have:1≤m/2^w:=(Nat.le_div_iff_mul_le hp).2 (by omega)
  omega
 ·intro h3
  have:1≤m/2^w:=Nat.pos_of_ne_zero fun h=>h3 (by rw[h];rfl)
  have:=(Nat.le_div_iff_mul_le hp).1 this
  omega
theorem AL{n v w:Int}{b:List Int}(h:Ty.du [(.struct [(.int .i64),(.slice (.int .u8))]),(.int .u64),(.int .i64)] ((n,b),v,w)):Ty.has (.struct [(.int .i64),(.slice (.int .u8))]) (n,b)∧(0≤v∧v≤18446744073709551615)∧(-9223372036854775808≤w∧w≤9223372036854775807):=h
theorem ES{v:Int}(hv:0≤v):∀(k:Nat) (c1:Int) (c3:List Bool) (p:EH),p.c0=v→c1=(k:Int)-1→k≤64→c3.length+k≤4200→aB (ob ai) (.more (.c2 p c1 c3)) (uh (c3++bitsOf v.toNat k)):=by
 intro k
 induction k with
 | zero=>
  intro c1 c3 p h1 h2 _ _
  simp only[ak,ob]
  refine(ah (by rw[aN,h2];decide)).2 (af.2 ⟨rfl,?_⟩)
  rw[show bitsOf v.toNat 0=[] from rfl,List.append_nil]
  exact .ret _
 | succ k ih=>
  intro c1 c3 p h1 h2 hk hl
  have h3:c1=(k:Int):=by omega
  subst h3
  simp only[ak,ob]
  refine(aj (by rw[aN];simp)).2 (af.2 ⟨by rw[dA (by omega),gj],af.2 ⟨?_,?_⟩⟩)
  ·show decide (((c3 ++ [_]).length:Int)≤70368744177664)=true
   rw[List.length_append];simp;omega
  ·have e:(ai.p c3 [(ai.c .eql (ai.b .rem .u64 (ai.b .shr .u64 p.c0 (ai.v .u64 (k:Int))) 2) 1)]:List Bool)=c3 ++ [v.toNat.testBit k]:=by
    show c3 ++ [_]=_
    rw[h1,Bh hv (by omega)]
   have:=ih ((k:Int)-1) (c3 ++ [v.toNat.testBit k]) p h1 rfl (by omega) (by rw[List.length_append];simp;omega)
   rw[List.append_assoc,show[v.toNat.testBit k]++bitsOf v.toNat k=bitsOf v.toNat (k+1) from by rw[qW];rfl] at this
   exact bi (congrArg LT.more (congr (congrArg (zh.c2 p) (show ai.b .sub .i64 (k:Int) 1=(k:Int)-1 by rw[bl,fQ (by omega) (by omega)])) e)) this
theorem Ny{v:Int}(hv:0≤v){k:Nat}(p:Er)(h1:p.a0=v)(h2:p.a1=(k:Int)-1)(hk:k≤64):aB (ob ai) (.more (.c0 p)) (uh (bitsOf v.toNat k)):=by
 cases k with
 | zero=>
  simp only[ak,ob]
  refine(ah (by rw[aN,h2];decide)).2 (af.2 ⟨rfl,?_⟩)
  exact .ret _
 | succ k=>
  have h3:p.a1=(k:Int):=by omega
  simp only[ak,ob,h3]
  refine(aj (by rw[aN];simp)).2 (af.2 ⟨by rw[dA (by omega),gj],af.2 ⟨rfl,?_⟩⟩)
  have e:([(ai.c .eql (ai.b .rem .u64 (ai.b .shr .u64 p.a0 (ai.v .u64 (k:Int))) 2) 1)]:List Bool)=[v.toNat.testBit k]:=by
   rw[h1,Bh hv (by omega)]
  have:=ES hv k ((k:Int)-1) [v.toNat.testBit k] ⟨p.a0,p.a2⟩ h1 rfl (by omega) (by simp;omega)
  rw[show[v.toNat.testBit k]++bitsOf v.toNat k=bitsOf v.toNat (k+1) from by rw[qW];rfl] at this
  exact bi (congrArg LT.more (congr (congrArg (zh.c2 ⟨p.a0,p.a2⟩) (show ai.b .sub .i64 (k:Int) 1=(k:Int)-1 by rw[bl,fQ (by omega) (by omega)])) e)) this
theorem Ky{v:Int}{n w:Nat}{b:List Int}(hv:0≤v)(hb:bI b)(hl:b.length≤140737488355328)(hn:n≤4096)(hw:w≤64)(hok:n≤8*b.length):∀(j i:Nat) (p:Gb),p.d1=v→p.d2=(w:Int)→p.d3=(n:Int)→p.d4=b→n-i=j→i≤n→aB (ob ai) (.more (.c3 p (i:Int) (unpack i b))) (uh (unpack n b++bitsOf v.toNat w)):=by
 intro j
 induction j with
 | zero=>
  intro i p h1 h2 h3 h4 hj hi
  have:i=n:=by omega
  subst this
  simp only[ak,ob]
  refine(ah (by rw[h3,aJ];simp)).2 ?_
  rw[h2,bl,fQ (by omega) (by omega)]
  exact ES hv w _ _ _ h1 rfl hw (by rw[aX];omega)
 | succ j ih=>
  intro i p h1 h2 h3 h4 hj hi
  simp only[ak,ob]
  refine(aj (by rw[h3,aJ];simp;omega)).2 (af.2 ⟨?_,af.2 ⟨?_,?_⟩⟩)
  ·rw[h4,ap];simp[iG];omega
  ·show decide (((unpack i b ++ [_]).length:Int)≤70368744177664)=true
   rw[List.length_append,aX]
   simp;omega
  ·have e:(ai.p (unpack i b) [(ai.k gg (p.d4,(i:Int)))]:List Bool)=unpack (i+1) b:=by
    show unpack i b ++ [gg (p.d4,(i:Int))]=_
    rw[h4,lV hb (by omega) (by omega),qT,Int.toNat_natCast]
   exact bi (congrArg LT.more (congr (congrArg (zh.c3 p) (cy (by omega))) e)) (ih (i+1) p h1 h2 h3 h4 (by omega) (by omega))
theorem Mx{v:Int}{n w:Nat}{b:List Int}(hv:0≤v)(hb:bI b)(hl:b.length≤140737488355328)(hn:n≤4096)(hw:w≤64)(hok:n≤8*b.length)(p:F5)(h0:p.b0=0)(h1:p.b1=v)(h2:p.b2=(w:Int))(h3:p.b3=(n:Int))(h4:p.b4=b):aB (ob ai) (.more (.c1 p)) (uh (unpack n b++bitsOf v.toNat w)):=by
 simp only[ak,ob,h0]
 by_cases hz:n=0
 ·refine(ah (by rw[h3,hz];rfl)).2 ?_
  rw[hz]
  exact Ny hv _ h1 (by show ai.b .sub .i64 p.b2 1=_;rw[h2,bl,fQ (by omega) (by omega)]) hw
 ·refine(aj (by rw[h3,ar];simp;omega)).2 (af.2 ⟨?_,af.2 ⟨rfl,?_⟩⟩)
  ·rw[h4,ap];simp[iG];omega
  ·have e:([(ai.k gg (p.b4,(0:Int)))]:List Bool)=unpack 1 b:=by
    show[gg (p.b4,(0:Int))]=_
    rw[h4,lV hb (by omega) (by omega)];rfl
   refine bi (congrArg LT.more (congr (congrArg (zh.c3 _) (cy (i:=0) (by omega))) e)) ?_
   exact Ky hv hb hl hn hw hok (n-1) 1 _ h1 h2 h3 h4 (by omega) (by omega)
theorem V6{n v w:Int}{b:List Int}(h:Ty.du [(.struct [(.int .i64),(.slice (.int .u8))]),(.int .u64),(.int .i64)] ((n,b),v,w)):aB (ob ai) (KJ ai n b v w) (wQ ((n,b),v,w)):=by
 obtain⟨h1,hv,hw⟩:=AL h
 have hb:=(dU h1).2.2
 have hl:=dy h1
 unfold KJ
 rw[wQ]
 refine af.2 ⟨rfl,?_⟩
 cases hok:bD (n,b)
 ·refine(aj (show(jq (n,b) != 0)=true by rw[jq,hok];rfl)).2 ?_
  exact .ret _
 ·refine(ah (show(jq (n,b) != 0)=false by rw[jq,hok];rfl)).2 ?_
  obtain⟨h2,h3,h4⟩:=(fS hb).1 hok
  have h5:=h4.1
  rw[Bool.not_true,cond_false]
  by_cases h6:w<0
  ·refine(aj (by rw[ar];simpa using h6)).2 ?_
   rw[show decide (w<0)=true from by simpa using h6]
   exact .ret _
  ·refine(ah (by rw[ar];simpa using h6)).2 ?_
   by_cases h7:64<w
   ·refine(aj (by rw[aG];simpa using h7)).2 ?_
    rw[show decide (64<w)=true from by simpa using h7,Bool.or_true,Bool.true_or]
    exact .ret _
   ·refine(ah (by rw[aG];simpa using h7)).2 ?_
    rw[show decide (w<0)=false from by simpa using h6,show decide (64<w)=false from by simpa using h7,Bool.false_or,Bool.false_or,rJ hv.1]
    obtain⟨k,rfl⟩:=Int.eq_ofNat_of_zero_le (show 0≤w by omega)
    rw[Int.toNat_natCast]
    have hfin:(((v.toNat/2^k:Nat):Int) != 0)=false→aB (ob ai) (.need (ai.k (@tt ((Int×List Int))) (n,b)) (.br (ai.c .neq (ai.k jq (n,b)) 0) (.more (.c0 ⟨v,(ai.b .sub .i64 (k:Int) 1),0⟩)) (.more (.c1 ⟨0,v,(k:Int),n,b,0⟩)))) (bif ((v.toNat/2^k:Nat):Int) != 0 then(zB,2) else uh (bG (n,b)++bitsOf v.toNat k)):=by
     intro hz
     rw[hz,cond_false]
     refine af.2 ⟨rfl,(ah (show(jq (n,b) != 0)=false by rw[jq,hok];rfl)).2 ?_⟩
     exact Mx (n:=n.toNat) hv.1 hb hl (by omega) (by omega) (by omega) _ rfl rfl rfl (show n=_ by omega) rfl
    by_cases h8:k<64
    ·refine(aj (by rw[ar];simp;omega)).2 (af.2 ⟨by rw[dA (by omega),gj],?_⟩)
     rw[dA (by omega),AT hv.1 (by omega)]
     cases hz:(((v.toNat/2^k:Nat):Int) != 0)
     ·refine(ah hz).2 ?_
      rw[←hz]
      exact hfin hz
     ·refine(aj hz).2 ?_
      exact .ret _
    ·refine(ah (by rw[ar];simp;omega)).2 (hfin ?_)
     have:k=64:=by omega
     subst this
     rw[Nat.div_eq_of_lt (by omega)];rfl
def ei:((Int×List Int)×Int×Int)→((Int×List Int)×Int):=wQ
def O4:aA:=⟨[(.struct [yI,yB]),(.int .u64),yI], [(.struct [yI,yB]),yI],(@tt ((Int×List Int)×Int×Int)),ei⟩
theorem Ey:Sd 188 O4:=aH ax cm true 81 [⟨188,7, [[1,6,8,9]]⟩,⟨191,5, [[1,3,4], [1,2,6]]⟩] [] (fun A ((bN,bB),v,width)=>KJ A bN bB v width) ob Kl (fc Tryz.func188 (fc Tryz.func191 fz)) (sc GI (sc Jm (sc F2 sz))) (fun A y=>match y with |.c0 p=>⟨34,by kernel_rfl,by kernel_rfl⟩|.c1 p=>⟨34,by kernel_rfl,by kernel_rfl⟩|.c2 p c1 c3=>⟨34,by kernel_rfl,by kernel_rfl⟩|.c3 p d0 d5=>⟨34,by kernel_rfl,by kernel_rfl⟩) fun((bN,bB),v,width) hp h=>V6 h
open Go.Ev.Pl
structure EX where
 (a0 a1 a2 a4:Int) (a5:List Int) (a6 a7:Int)
inductive zQ where
 | c0 (p:EX) (a3:Int) (a8:List Int)
noncomputable def LL:zQ→fJ
 | .c0 p a3 a8=>⟨[⟨249,63,(en [(1,.int .u64 false p.a0),(2,vi p.a1),(3,.ptr 0 0),(6,.ptr 1 0),(8,.ptr 2 0),(43,vi p.a2),(44,vi a3)]),[.inLoop (cw Tryz.f249 [1,1,1,0,1,0,0]),.inBlock 1,.code (cw Tryz.f249 [1,1,1,1])],[],none⟩],[.flat false [vi p.a4,.sl yU p.a5],.flat false [vi p.a6,.bZ true],.flat false [vi p.a7,.own 3],.arr false yU a8,.dead]⟩
def NN(A:aZ)(bN:Int)(bB:List Int)(v:Int)(width:Int):LT ((Int×List Int)×Int) zQ:=.need (A.k (@tt ((Int×List Int))) (bN,bB)) (.br (A.c .neq (A.k iW (bN,bB)) 0) (.ret ((0,([]:List Int)),10)) (.br (A.c .lss width 0) (.ret ((0,([]:List Int)),2)) (.br (A.c .gtr width 64) (.ret ((0,([]:List Int)),2)) (.br (A.c .lss width 64) (.need (A.c .leq 0 width) (.br (A.c .neq (A.b .shr .u64 v width) 0) (.ret ((0,([]:List Int)),2)) (.br (A.c .gtr width (A.b .sub .i64 4096 bN)) (.ret ((0,([]:List Int)),3)) (.need (A.k (@tt Int) (A.b .add .i64 bN width)) (.need (A.and (A.c .eql (A.k da (A.b .add .i64 bN width)) (A.k da (A.b .add .i64 bN width))) (A.and (A.c .leq 0 (A.k da (A.b .add .i64 bN width))) (A.c .leq (A.k da (A.b .add .i64 bN width)) 70368744177664))) (.more (.c0 ⟨v,width,width,bN,bB,0,(A.b .add .i64 bN width)⟩ 0 (A.spl (A.r (A.k da (A.b .add .i64 bN width)) (0:Int)) 0 (A.s bB 0 (A.mn (A.l bB) (A.l (A.r (A.k da (A.b .add .i64 bN width)) (0:Int))))))))))))) (.br (A.c .gtr width (A.b .sub .i64 4096 bN)) (.ret ((0,([]:List Int)),3)) (.need (A.k (@tt Int) (A.b .add .i64 bN width)) (.need (A.and (A.c .eql (A.k da (A.b .add .i64 bN width)) (A.k da (A.b .add .i64 bN width))) (A.and (A.c .leq 0 (A.k da (A.b .add .i64 bN width))) (A.c .leq (A.k da (A.b .add .i64 bN width)) 70368744177664))) (.more (.c0 ⟨v,width,width,bN,bB,0,(A.b .add .i64 bN width)⟩ 0 (A.spl (A.r (A.k da (A.b .add .i64 bN width)) (0:Int)) 0 (A.s bB 0 (A.mn (A.l bB) (A.l (A.r (A.k da (A.b .add .i64 bN width)) (0:Int)))))))))))))))
def BJ(A:aZ):zQ→LT ((Int×List Int)×Int) zQ
 | .c0 p a3 a8=>.br (A.c .lss a3 p.a2) (.need (A.c .leq 0 (A.b .sub .i64 (A.b .sub .i64 p.a1 1) a3)) (.br (A.c .eql (A.b .and .u64 (A.b .shr .u64 p.a0 (A.b .sub .i64 (A.b .sub .i64 p.a1 1) a3)) 1) 1) (.need (A.and (A.c .leq 0 (A.b .quo .i64 (A.b .add .i64 p.a4 a3) 8)) (A.c .lss (A.b .quo .i64 (A.b .add .i64 p.a4 a3) 8) (A.l a8))) (.need (A.k lv (A.b .add .i64 p.a4 a3)) (.need (A.and (A.c .leq 0 (A.b .quo .i64 (A.b .add .i64 p.a4 a3) 8)) (A.c .lss (A.b .quo .i64 (A.b .add .i64 p.a4 a3) 8) (A.l a8))) (.more (.c0 p (A.b .add .i64 a3 1) (A.set a8 (A.b .quo .i64 (A.b .add .i64 p.a4 a3) 8) (A.b .or .u8 (A.n yU a8 (A.b .quo .i64 (A.b .add .i64 p.a4 a3) 8):Int) (A.k tG (A.b .add .i64 p.a4 a3))))))))) (.more (.c0 p (A.b .add .i64 a3 1) a8)))) (.ret ((p.a7,a8),0))
theorem xP{v w k:Nat}(h:k<w):(bitsOf v w).getD k false=v.testBit (w-1-k):=by
 rw[List.getD_eq_getElem?_getD,bitsOf,List.getElem?_map,List.getElem?_range h];rfl
theorem oV{B:List Int}{m i:Nat}(hB:B.length=m)(hi:i<8*m)(hm:m≤100000):(ai.and (ai.c .leq 0 (ai.b .quo .i64 (i:Int) 8)) (ai.c .lss (ai.b .quo .i64 (i:Int) 8) (ai.l B)))=true:=by
 have hlb:ai.l B=(m:Int):=by rw[←hB];rfl
 rw[kv (by omega),hlb,gj,aJ,aU];simp;omega
theorem vn{i:Nat}:ai.k lv (i:Int)=true:=by rw[ap];simp[lv]
theorem T9{v:Int}{n w:Nat}{b:List Int}(hv:0≤v)(hn:n+w≤4096)(hw:w≤64):∀(j k:Nat) (p:EX) (B:List Int),p.a0=v→p.a1=(w:Int)→p.a2=(w:Int)→p.a4=(n:Int)→p.a7=((n+w:Nat):Int)→w-k=j→k≤w→Holds B (unpack n b++(bitsOf v.toNat w).take k) ((n+w+7)/8)→aB (BJ ai) (.more (.c0 p (k:Int) B)) (bO (unpack n b++bitsOf v.toNat w),0):=by
 intro j
 induction j with
 | zero=>
  intro k p B h1 h2 h3 h4 h5 hj hk hB
  have:k=w:=by omega
  subst this
  simp only[ak,BJ]
  refine(ah (by rw[h3,aJ];simp)).2 ?_
  rw[List.take_of_length_le (by rw[aC];exact Nat.le_refl _)] at hB
  have hl:(unpack n b++bitsOf v.toNat k).length=n+k:=by rw[List.length_append,aX,aC]
  rw[h5,hB.done (by rw[hl])]
  rw[show bO (unpack n b++bitsOf v.toNat k)=(((n+k:Nat):Int),pack (unpack n b++bitsOf v.toNat k)) from by rw[bO,hl]]
  exact .ret _
 | succ j ih=>
  intro k p B h1 h2 h3 h4 h5 hj hk hB
  simp only[ak,BJ]
  have hsh:ai.b .sub .i64 (ai.b .sub .i64 p.a1 1) (k:Int)=((w-1-k:Nat):Int):=by
   rw[h2,show ai.b .sub .i64 (w:Int) 1=((w-1:Nat):Int) from kg (j:=1) (by omega) (by omega),kg (by omega) (by omega)]
  have hat:ai.b .add .i64 p.a4 (k:Int)=((n+k:Nat):Int):=by rw[h4,fu (by omega)]
  have hlen:(unpack n b++(bitsOf v.toNat w).take k).length=n+k:=by rw[List.length_append,aX,List.length_take,aC];omega
  have hts:=mF (l:=bitsOf v.toNat w) (i:=k) (by rw[aC];omega)
  rw[xP (by omega)] at hts
  refine(aj (by rw[h3,aJ];simp;omega)).2 (af.2 ⟨by rw[hsh,gj],?_⟩)
  rw[hsh,h1,FY hv (by omega),hat]
  cases hx:v.toNat.testBit (w-1-k)
  ·rw[hx] at hts
   refine(ah rfl).2 ?_
   refine bi (congrArg LT.more (congr (congrArg (zQ.c0 p) (cy (by omega))) rfl)) (ih (k+1) p B h1 h2 h3 h4 h5 (by omega) (by omega) ?_)
   rw[hts,←List.append_assoc]
   exact hB.skip
  ·rw[hx] at hts
   refine(aj rfl).2 (af.2 ⟨oV hB.1 (by omega) (by omega),af.2 ⟨vn,af.2 ⟨oV hB.1 (by omega) (by omega),?_⟩⟩⟩)
   refine bi (congrArg LT.more (congr (congrArg (zQ.c0 p) (cy (by omega))) rfl)) (ih (k+1) p _ h1 h2 h3 h4 h5 (by omega) (by omega) ?_)
   rw[hts,←List.append_assoc]
   exact xZ hB hlen (by omega) (by omega)
theorem grow{n w:Nat}{b:List Int}(h:okB n b)(hw:n+w≤100000):Holds (ai.spl (ai.r (ai.k da ((n+w:Nat):Int)) (0:Int)) 0 (ai.s b 0 (ai.mn (ai.l b) (ai.l (ai.r (ai.k da ((n+w:Nat):Int)) (0:Int)))))) (unpack n b) ((n+w+7)/8):=by
 have h1:=h.1
 rw[ap,k_ (by omega) (by omega),Int.toNat_natCast]
 have e1:ai.r ((((n+w+7)/8:Nat):Nat):Int) (0:Int)=List.replicate ((n+w+7)/8) 0:=by rw[kq,Int.toNat_natCast]
 rw[e1]
 have e2:ai.mn (ai.l b) (ai.l (List.replicate ((n+w+7)/8) (0:Int)))=(b.length:Int):=by
  rw[wF]
  show(if ((List.replicate ((n+w+7)/8) (0:Int)).length:Int)<(b.length:Int) then _ else(b.length:Int))=_
  rw[List.length_replicate,if_neg (by omega)]
 rw[e2,j5,mz]
 have e3:(b.take (b.length:Int).toNat).drop (0:Int).toNat=b:=by
  rw[Int.toNat_natCast,List.take_length];rfl
 rw[e3]
 have:=Holds.grown (m:=(n+w+7)/8) h (by omega)
 rw[show(0:Int).toNat=0 from rfl,List.take_zero,List.nil_append,Nat.zero_add,List.drop_replicate]
 exact this
theorem WS{n v w:Int}{b:List Int}(h:Ty.du [(.struct [(.int .i64),(.slice (.int .u8))]),(.int .u64),(.int .i64)] ((n,b),v,w)):aB (BJ ai) (NN ai n b v w) (wQ ((n,b),v,w)):=by
 obtain⟨h1,hv,hw⟩:=AL h
 have hb:=(dU h1).2.2
 have hl:=dy h1
 unfold NN
 rw[wQ]
 refine af.2 ⟨rfl,?_⟩
 have hc:ai.c .neq (ai.k iW (n,b)) 0=!bD (n,b):=by
  rw[ap,jJ hb hl];cases bD (n,b)<;>rfl
 rw[hc]
 cases hok:bD (n,b)
 ·exact(aj rfl).2 (.ret _)
 ·refine(ah rfl).2 ?_
  obtain⟨h2,h3,h4⟩:=(fS hb).1 hok
  have h5:=h4.1
  rw[Bool.not_true,cond_false]
  by_cases h6:w<0
  ·refine(aj (by rw[ar];simpa using h6)).2 ?_
   rw[show decide (w<0)=true from by simpa using h6]
   exact .ret _
  ·refine(ah (by rw[ar];simpa using h6)).2 ?_
   by_cases h7:64<w
   ·refine(aj (by rw[aG];simpa using h7)).2 ?_
    rw[show decide (64<w)=true from by simpa using h7,Bool.or_true,Bool.true_or]
    exact .ret _
   ·refine(ah (by rw[aG];simpa using h7)).2 ?_
    rw[show decide (w<0)=false from by simpa using h6,show decide (64<w)=false from by simpa using h7,Bool.false_or,Bool.false_or,rJ hv.1]
    obtain⟨k,rfl⟩:=Int.eq_ofNat_of_zero_le (show 0≤w by omega)
    obtain⟨m,rfl⟩:=Int.eq_ofNat_of_zero_le h2
    rw[Int.toNat_natCast] at h4 h5 ⊢
    have hadd:ai.b .add .i64 (m:Int) (k:Int)=((m+k:Nat):Int):=fu (by omega)
    have hneed:ai.k da ((m+k:Nat):Int)=(((m+k+7)/8:Nat):Int):=by rw[ap,k_ (by omega) (by omega),Int.toNat_natCast]
    have hlen:(bG ((m:Int),b)++bitsOf v.toNat k).length=m+k:=by rw[List.length_append,gb,aC,Int.toNat_natCast]
    have hfin:(((v.toNat/2^k:Nat):Int) != 0)=false→∀t,t=(LT.br (ai.c .gtr (k:Int) (ai.b .sub .i64 4096 (m:Int))) (.ret ((0,([]:List Int)),3)) (.need (ai.k (@tt Int) (ai.b .add .i64 (m:Int) (k:Int))) (.need (ai.and (ai.c .eql (ai.k da (ai.b .add .i64 (m:Int) (k:Int))) (ai.k da (ai.b .add .i64 (m:Int) (k:Int)))) (ai.and (ai.c .leq 0 (ai.k da (ai.b .add .i64 (m:Int) (k:Int)))) (ai.c .leq (ai.k da (ai.b .add .i64 (m:Int) (k:Int))) 70368744177664))) (.more (.c0 ⟨v,(k:Int),(k:Int),(m:Int),b,0,(ai.b .add .i64 (m:Int) (k:Int))⟩ 0 (ai.spl (ai.r (ai.k da (ai.b .add .i64 (m:Int) (k:Int))) (0:Int)) 0 (ai.s b 0 (ai.mn (ai.l b) (ai.l (ai.r (ai.k da (ai.b .add .i64 (m:Int) (k:Int))) (0:Int)))))))))):LT ((Int×List Int)×Int) zQ)→aB (BJ ai) t (bif ((v.toNat/2^k:Nat):Int) != 0 then(zB,2) else uh (bG ((m:Int),b)++bitsOf v.toNat k)):=by
     intro hz t ht
     rw[hz,cond_false,ht,uh,hlen,hadd,show ai.b .sub .i64 (4096:Int) (m:Int)=((4096-m:Nat):Int) from kg (i:=4096) (by omega) (by omega)]
     by_cases h9:4096<m+k
     ·rw[show decide (4096<m+k)=true from by simpa using h9]
      refine(aj (by rw[aG];simp;omega)).2 (.ret _)
     ·rw[show decide (4096<m+k)=false from by simpa using h9]
      refine(ah (by rw[aG];simp;omega)).2 (af.2 ⟨rfl,af.2 ⟨?_,?_⟩⟩)
      ·rw[hneed,gj,qZ rfl,aF,aU,aU];simp;omega
      ·refine T9 hv.1 (by omega) (by omega) k 0 _ _ rfl rfl rfl rfl rfl rfl (by omega) ?_
       rw[List.take_zero,List.append_nil]
       exact grow h4 (by omega)
    by_cases h8:k<64
    ·refine(aj (by rw[ar];simp;omega)).2 (af.2 ⟨gj,?_⟩)
     rw[AT hv.1 (by omega)]
     cases hz:(((v.toNat/2^k:Nat):Int) != 0)
     ·refine(ah hz).2 ?_
      rw[←hz]
      exact hfin hz _ rfl
     ·exact(aj hz).2 (.ret _)
    ·refine(ah (by rw[ar];simp;omega)).2 (hfin ?_ _ rfl)
     have:k=64:=by omega
     subst this
     rw[Nat.div_eq_of_lt (by omega)];rfl
def lM:((Int×List Int)×Int×Int)→((Int×List Int)×Int):=wQ
def T6:aA:=⟨[(.struct [yI,yB]),(.int .u64),yI], [(.struct [yI,yB]),yI],(@tt ((Int×List Int)×Int×Int)),lM⟩
theorem R2:Sd 249 T6:=aH ax cm true 114 [⟨249,9, [[1,2,3,6,8,43,44]]⟩] [] (fun A ((bN,bB),v,width)=>NN A bN bB v width) BJ LL (fc Tryz.func249 (fc Tryz.func258 (fc Tryz.func259 (fc Tryz.func261 fz)))) (sc zW (sc Eo (sc Fp sz))) (fun A y=>match y with |.c0 p a3 a8=>⟨63,by kernel_rfl,by kernel_rfl⟩) fun((bN,bB),v,width) hp h=>WS h
open Go.Ev.Pl
structure EC where
 (a0 a2 a4:Int) (a5:List Int)
inductive IV where
 | c0 (p:EC) (a1:Int) (a3:Int)
noncomputable def Mu:IV→fJ
 | .c0 p a1 a3=>⟨[⟨247,54,(en [(1,vi p.a0),(3,.ptr 0 0),(8,.int .u64 false a1),(39,vi p.a2),(40,vi a3)]),[.inLoop (cw Tryz.f247 [1,1,1,0,1,0,0]),.inBlock 1,.code (cw Tryz.f247 [1,1,1,1])],[],none⟩],[.flat false [vi p.a4,.sl yU p.a5],.dead]⟩
def t138(A:aZ)(bN:Int)(bB:List Int)(at1:Int)(width:Int):LT (Int×Int) IV:=.need (A.k (@tt ((Int×List Int))) (bN,bB)) (.br (A.c .neq (A.k iW (bN,bB)) 0) (.ret (0,10)) (.br (A.c .lss width 0) (.ret (0,2)) (.br (A.c .gtr width 64) (.ret (0,2)) (.br (A.c .lss at1 0) (.ret (0,2)) (.br (A.c .gtr at1 bN) (.ret (0,2)) (.br (A.c .gtr width (A.b .sub .i64 bN at1)) (.ret (0,2)) (.more (.c0 ⟨at1,width,bN,bB⟩ 0 0))))))))
def E0(A:aZ):IV→LT (Int×Int) IV
 | .c0 p a1 a3=>.br (A.c .lss a3 p.a2) (.need (A.k pF ((p.a4,p.a5),(A.b .add .i64 p.a0 a3))) (.br (A.k tg ((p.a4,p.a5),(A.b .add .i64 p.a0 a3))) (.more (.c0 p (A.b .or .u64 (A.b .shl .u64 a1 1) 1) (A.b .add .i64 a3 1))) (.more (.c0 p (A.b .shl .u64 a1 1) (A.b .add .i64 a3 1))))) (.ret (a1,0))
theorem FD{l:List Bool}{a k:Nat}(h:a+k<l.length):bq l a (k+1)=2*bq l a k+(l.getD (a+k) false).toNat:=by
 rw[bq,bq,mF (by rw[List.length_drop];omega),nS,getD_drop]
theorem Ql{k:Nat}(h:k≤64):2^k≤18446744073709551616:=Nat.le_trans (Nat.pow_le_pow_right (by decide) h) (by decide)
theorem yG{x:Nat}(h:2*x<18446744073709551616):ai.b .shl .u64 (x:Int) 1=((2*x:Nat):Int):=by
 show IntKind.u64.wrap ((x:Int)*2^min (1:Int).toNat 64)=_
 rw[show(2:Int)^min (1:Int).toNat 64=2 from rfl,BE (by omega) (by omega)];omega
theorem GD{x:Nat}(h:2*x<18446744073709551616):ai.b .or .u64 ((2*x:Nat):Int) 1=((2*x+1:Nat):Int):=by
 show IntKind.u64.wrap ((BitVec.ofInt 64 ((2*x:Nat):Int) ||| BitVec.ofInt 64 1).toNat:Int)=_
 rw[BitVec.ofInt_natCast,show BitVec.ofInt 64 1=BitVec.ofNat 64 1 from rfl,BitVec.toNat_or,BitVec.toNat_ofNat,BitVec.toNat_ofNat,show 1%2^64=1 from rfl,Nat.mod_eq_of_lt (by omega)]
 have:=Nat.shiftLeft_add_eq_or_of_lt (i:=1) (b:=1) (by decide) x
 rw[Nat.shiftLeft_eq,Nat.pow_one,Nat.mul_comm x 2] at this
 rw[←this,BE (by omega) (by omega)]
theorem A6{n a w:Int}{b:List Int}(h:Ty.du [(.struct [(.int .i64),(.slice (.int .u8))]),(.int .i64),(.int .i64)] ((n,b),a,w)):Ty.has (.struct [(.int .i64),(.slice (.int .u8))]) (n,b)∧(-9223372036854775808≤a∧a≤9223372036854775807)∧(-9223372036854775808≤w∧w≤9223372036854775807):=h
theorem Ue{n a w:Nat}{b:List Int}(hb:bI b)(hl:b.length≤100000)(hn:n≤8*b.length)(haw:a+w≤n)(hw:w≤64):∀(j k:Nat) (p:EC),p.a0=(a:Int)→p.a2=(w:Int)→p.a5=b→w-k=j→k≤w→aB (E0 ai) (.more (.c0 p ((bq (unpack n b) a k:Nat):Int) (k:Int))) (((bq (unpack n b) a w:Nat):Int),0):=by
 intro j
 induction j with
 | zero=>
  intro k p h1 h2 h3 hj hk
  have:k=w:=by omega
  subst this
  simp only[ak,E0]
  exact(ah (by rw[h2,aJ];simp)).2 (.ret _)
 | succ j ih=>
  intro k p h1 h2 h3 hj hk
  simp only[ak,E0]
  have hat:ai.b .add .i64 p.a0 (k:Int)=((a+k:Nat):Int):=by rw[h1,fu (by omega)]
  have hf:=dR (unpack n b) a k
  have hp:=Ql (k:=k+1) (by omega)
  rw[Nat.pow_succ] at hp
  have hs:=FD (l:=unpack n b) (a:=a) (k:=k) (by rw[aX];omega)
  rw[jr,show decide (a+k<n)=true from by simp;omega,Bool.true_and] at hs
  refine(aj (by rw[h2,aJ];simp;omega)).2 (af.2 ⟨by rw[hat,h3,ap];simp[pF];omega,?_⟩)
  have hc:ai.k tg ((p.a4,p.a5),ai.b .add .i64 p.a0 (k:Int))=eY b (a+k):=by
   rw[hat,h3,ap,x8 hb (by omega) (by omega) (by omega),Int.toNat_natCast]
  have hm:=ih (k+1) p h1 h2 h3 (by omega) (by omega)
  cases hx:eY b (a+k)
  ·rw[hx] at hs
   refine(ah (hc.trans hx)).2 ?_
   rw[hs,show 2*bq (unpack n b) a k+false.toNat=2*bq (unpack n b) a k from rfl,←yG (by omega),←cy (by omega)] at hm
   exact hm
  ·rw[hx] at hs
   refine(aj (hc.trans hx)).2 ?_
   rw[hs,show 2*bq (unpack n b) a k+true.toNat=2*bq (unpack n b) a k+1 from rfl,←GD (by omega),←yG (by omega),←cy (by omega)] at hm
   exact hm
theorem Xk{n a w:Int}{b:List Int}(h:Ty.du [(.struct [(.int .i64),(.slice (.int .u8))]),(.int .i64),(.int .i64)] ((n,b),a,w)):aB (E0 ai) (t138 ai n b a w) (Cz ((n,b),a,w)):=by
 obtain⟨h1,ha,hw⟩:=A6 h
 have hb:=(dU h1).2.2
 have hl:=dy h1
 unfold t138
 rw[Cz]
 refine af.2 ⟨rfl,?_⟩
 have hc:ai.c .neq (ai.k iW (n,b)) 0=!bD (n,b):=by
  rw[ap,jJ hb hl];cases bD (n,b)<;>rfl
 rw[hc]
 cases hok:bD (n,b)
 ·exact(aj rfl).2 (.ret _)
 ·refine(ah rfl).2 ?_
  obtain⟨h2,h3,h4⟩:=(fS hb).1 hok
  have h5:=h4.1
  rw[Bool.not_true,cond_false]
  by_cases h6:w<0
  ·refine(aj (by rw[ar];simpa using h6)).2 ?_
   rw[show decide (w<0)=true from by simpa using h6]
   exact .ret _
  refine(ah (by rw[ar];simpa using h6)).2 ?_
  by_cases h7:64<w
  ·refine(aj (by rw[aG];simpa using h7)).2 ?_
   rw[show decide (64<w)=true from by simpa using h7]
   simp only[Bool.or_true,Bool.true_or]
   exact .ret _
  refine(ah (by rw[aG];simpa using h7)).2 ?_
  by_cases h8:a<0
  ·refine(aj (by rw[ar];simpa using h8)).2 ?_
   rw[show decide (a<0)=true from by simpa using h8]
   simp only[Bool.or_true,Bool.true_or]
   exact .ret _
  refine(ah (by rw[ar];simpa using h8)).2 ?_
  rw[show decide (w<0)=false from by simpa using h6,show decide (64<w)=false from by simpa using h7,show decide (a<0)=false from by simpa using h8]
  by_cases h9:n<a
  ·refine(aj (by rw[aG];simpa using h9)).2 ?_
   rw[show decide (n<a+w)=true from by simp;omega]
   exact .ret _
  refine(ah (by rw[aG];simpa using h9)).2 ?_
  rw[bl,fQ (by omega) (by omega)]
  by_cases h10:n<a+w
  ·refine(aj (by rw[aG];simp;omega)).2 ?_
   rw[show decide (n<a+w)=true from by simpa using h10]
   exact .ret _
  refine(ah (by rw[aG];simp;omega)).2 ?_
  rw[show decide (n<a+w)=false from by simpa using h10]
  obtain⟨k,rfl⟩:=Int.eq_ofNat_of_zero_le (show 0≤w by omega)
  obtain⟨i,rfl⟩:=Int.eq_ofNat_of_zero_le (show 0≤a by omega)
  exact Ue (n:=n.toNat) hb (by omega) (by omega) (by omega) (by omega) k 0 _ rfl rfl rfl (by omega) (by omega)
def ay:((Int×List Int)×Int×Int)→(Int×Int):=Cz
def RP:aA:=⟨[(.struct [yI,yB]),yI,yI], [(.int .u64),yI],(@tt ((Int×List Int)×Int×Int)),ay⟩
theorem Bn:Sd 247 RP:=aH ax cm true 65 [⟨247,7, [[1,3,8,39,40]]⟩] [] (fun A ((bN,bB),at1,width)=>t138 A bN bB at1 width) E0 Mu (fc Tryz.func247 fz) (sc zW (sc Jo sz)) (fun A y=>match y with |.c0 p a1 a3=>⟨45,by kernel_rfl,by kernel_rfl⟩) fun((bN,bB),at1,width) hp h=>Xk h
open Go.Ev.Pl
structure DI where
 (a0 a1 a2 a4 a5:Int) (a6:List Int) (a7 a8:Int)
inductive BH where
 | c0 (p:DI) (a3:Int) (a9:List Int)
noncomputable def Lw:BH→fJ
 | .c0 p a3 a9=>⟨[⟨262,52,(en [(1,vi p.a0),(3,vi p.a1),(4,vi p.a2),(5,.ptr 0 0),(7,.ptr 1 0),(10,vi a3)]),[.inLoop (cw Tryz.f262 [1,1,1,0,0]),.inBlock 0],[],none⟩,⟨251,39,(en [(6,.ptr 2 0),(8,.ptr 3 0)]),[.ops (ow Tryz.f251 [1,1,1,0]) ((ow Tryz.f251 [1,1,1,0]).toList.drop 4),.code (cw Tryz.f251 [1,1,1,1])],[],none⟩],[.flat false [vi p.a4,.own 4],.flat false [vi p.a5,.sl yU p.a6],.flat false [vi p.a7,.bZ true],.flat false [vi p.a8,.own 4],.arr false yU a9,.dead]⟩
def Ko(A:aZ)(bN:Int)(bB:List Int)(from1:Int)(to:Int):LT ((Int×List Int)×Int) BH:=.need (A.k (@tt ((Int×List Int))) (bN,bB)) (.br (A.c .neq (A.k iW (bN,bB)) 0) (.ret ((0,([]:List Int)),10)) (.br (A.c .lss from1 0) (.ret ((0,([]:List Int)),2)) (.br (A.c .lss to from1) (.ret ((0,([]:List Int)),2)) (.br (A.c .gtr to bN) (.ret ((0,([]:List Int)),2)) (.need (A.k (@tt Int) (A.b .sub .i64 to from1)) (.need (A.and (A.c .eql (A.k da (A.b .sub .i64 to from1)) (A.k da (A.b .sub .i64 to from1))) (A.and (A.c .leq 0 (A.k da (A.b .sub .i64 to from1))) (A.c .leq (A.k da (A.b .sub .i64 to from1)) 70368744177664))) (.br (A.c .eql (A.b .rem .i64 from1 8) 0) (.br (A.c .eql to bN) (.need (A.and (A.c .leq 0 0) (A.and (A.c .leq 0 (A.l (A.r (A.k da (A.b .sub .i64 to from1)) (0:Int)))) (A.c .leq (A.l (A.r (A.k da (A.b .sub .i64 to from1)) (0:Int))) (A.l (A.r (A.k da (A.b .sub .i64 to from1)) (0:Int)))))) (.need (A.and (A.c .leq 0 (A.b .quo .i64 from1 8)) (A.and (A.c .leq (A.b .quo .i64 from1 8) (A.l bB)) (A.c .leq (A.l bB) (A.l bB)))) (.ret (((A.b .sub .i64 to from1),(A.spl (A.r (A.k da (A.b .sub .i64 to from1)) (0:Int)) 0 (A.s (A.s bB (A.b .quo .i64 from1 8) (A.l bB)) 0 (A.mn (A.l (A.s bB (A.b .quo .i64 from1 8) (A.l bB))) (A.b .sub .i64 (A.l (A.r (A.k da (A.b .sub .i64 to from1)) (0:Int))) 0))))),0)))) (.more (.c0 ⟨0,from1,to,(A.b .sub .i64 to from1),bN,bB,0,(A.b .sub .i64 to from1)⟩ from1 (A.r (A.k da (A.b .sub .i64 to from1)) (0:Int))))) (.more (.c0 ⟨0,from1,to,(A.b .sub .i64 to from1),bN,bB,0,(A.b .sub .i64 to from1)⟩ from1 (A.r (A.k da (A.b .sub .i64 to from1)) (0:Int)))))))))))
def zn(A:aZ):BH→LT ((Int×List Int)×Int) BH
 | .c0 p a3 a9=>.br (A.c .lss a3 p.a2) (.need (A.k pF ((p.a5,p.a6),a3)) (.br (A.k tg ((p.a5,p.a6),a3)) (.need (A.and (A.c .leq 0 (A.b .quo .i64 (A.b .sub .i64 (A.b .add .i64 p.a0 a3) p.a1) 8)) (A.c .lss (A.b .quo .i64 (A.b .sub .i64 (A.b .add .i64 p.a0 a3) p.a1) 8) (A.l a9))) (.need (A.k lv (A.b .sub .i64 (A.b .add .i64 p.a0 a3) p.a1)) (.need (A.and (A.c .leq 0 (A.b .quo .i64 (A.b .sub .i64 (A.b .add .i64 p.a0 a3) p.a1) 8)) (A.c .lss (A.b .quo .i64 (A.b .sub .i64 (A.b .add .i64 p.a0 a3) p.a1) 8) (A.l a9))) (.more (.c0 p (A.b .add .i64 a3 1) (A.set a9 (A.b .quo .i64 (A.b .sub .i64 (A.b .add .i64 p.a0 a3) p.a1) 8) (A.b .or .u8 (A.n yU a9 (A.b .quo .i64 (A.b .sub .i64 (A.b .add .i64 p.a0 a3) p.a1) 8):Int) (A.k tG (A.b .sub .i64 (A.b .add .i64 p.a0 a3) p.a1))))))))) (.more (.c0 p (A.b .add .i64 a3 1) a9)))) (.ret ((p.a8,a9),0))
theorem IK{n a c:Nat}{b:List Int}(hb:bI b)(hl:b.length≤100000)(hn:n≤8*b.length)(hac:a≤c)(hc:c≤n):∀(j i:Nat) (p:DI) (B:List Int),p.a0=0→p.a1=(a:Int)→p.a2=(c:Int)→p.a6=b→p.a8=((c-a:Nat):Int)→c-i=j→a≤i→i≤c→Holds B ((((unpack n b).take c).drop a).take (i-a)) ((c-a+7)/8)→aB (zn ai) (.more (.c0 p (i:Int) B)) (bO (((unpack n b).take c).drop a),0):=by
 have hL:(((unpack n b).take c).drop a).length=c-a:=by rw[List.length_drop,List.length_take,aX];omega
 intro j
 induction j with
 | zero=>
  intro i p B h0 h1 h2 h3 h4 hj hi hi2 hB
  have:i=c:=by omega
  subst this
  simp only[ak,zn]
  refine(ah (by rw[h2,aJ];simp)).2 ?_
  rw[List.take_of_length_le (by rw[hL];exact Nat.le_refl _)] at hB
  rw[h4,hB.done (by rw[hL]),show bO (((unpack n b).take i).drop a)=(((i-a:Nat):Int),pack (((unpack n b).take i).drop a)) from by rw[bO,hL]]
  exact .ret _
 | succ j ih=>
  intro i p B h0 h1 h2 h3 h4 hj hi hi2 hB
  simp only[ak,zn]
  have hat:ai.b .sub .i64 (ai.b .add .i64 p.a0 (i:Int)) p.a1=((i-a:Nat):Int):=by
   rw[h0,h1,show ai.b .add .i64 (0:Int) (i:Int)=((0+i:Nat):Int) from fu (i:=0) (by omega),kg (by omega) (by omega),Nat.zero_add]
  have hts:=mF (l:=((unpack n b).take c).drop a) (i:=i-a) (by rw[hL];omega)
  rw[getD_drop,getD_take,jr,show a+(i-a)=i from by omega,show decide (i<c)=true from by simp;omega,show decide (i<n)=true from by simp;omega,Bool.true_and,Bool.true_and] at hts
  have hlen:((((unpack n b).take c).drop a).take (i-a)).length=i-a:=by rw[List.length_take,hL];omega
  refine(aj (by rw[h2,aJ];simp;omega)).2 (af.2 ⟨by rw[h3,ap];simp[pF];omega,?_⟩)
  have hc:ai.k tg ((p.a5,p.a6),(i:Int))=eY b i:=by
   rw[h3,ap,x8 hb (by omega) (by omega) (by omega),Int.toNat_natCast]
  rw[hat]
  cases hx:eY b i
  ·rw[hx] at hts
   refine(ah (hc.trans hx)).2 ?_
   refine bi (congrArg LT.more (congr (congrArg (BH.c0 p) (cy (by omega))) rfl)) (ih (i+1) p B h0 h1 h2 h3 h4 (by omega) (by omega) (by omega) ?_)
   rw[show i+1-a=i-a+1 from by omega,hts]
   exact hB.skip
  ·rw[hx] at hts
   refine(aj (hc.trans hx)).2 (af.2 ⟨oV hB.1 (by omega) (by omega),af.2 ⟨vn,af.2 ⟨oV hB.1 (by omega) (by omega),?_⟩⟩⟩)
   refine bi (congrArg LT.more (congr (congrArg (BH.c0 p) (cy (by omega))) rfl)) (ih (i+1) p _ h0 h1 h2 h3 h4 (by omega) (by omega) (by omega) ?_)
   rw[show i+1-a=i-a+1 from by omega,hts]
   exact xZ hB hlen (by omega) (by omega)
theorem B_(b:List Int)(i j:Nat):eY (b.drop i) j=eY b (8*i+j):=by
 rw[eY,eY,List.getD_eq_getElem?_getD,List.getD_eq_getElem?_getD,List.getElem?_drop,show(8*i+j)/8=i+j/8 from by omega,show(8*i+j)%8=j%8 from by omega]
theorem BO{n i:Nat}{b:List Int}(h:okB n b)(hi:8*i≤n):b.drop i=pack ((unpack n b).drop (8*i)):=by
 have h1:=h.1
 apply AB
 ·rw[List.length_drop,List.length_drop,aX];omega
 ·exact fun x hx=>h.2.1 x (List.mem_of_mem_drop hx)
 ·intro j hj
  rw[List.length_drop] at hj
  rw[B_,getD_drop,jr]
  by_cases h2:8*i+j<n
  ·rw[show decide (8*i+j<n)=true from by simpa using h2,Bool.true_and]
  ·rw[show decide (8*i+j<n)=false from by simpa using h2,Bool.false_and]
   exact h.2.2 _ (by omega) (by omega)
theorem IX{b:List Int}{i:Nat}:ai.s b (i:Int) (ai.l b)=b.drop i:=by
 show(b.take (b.length:Int).toNat).drop (i:Int).toNat=_
 rw[Int.toNat_natCast,Int.toNat_natCast,List.take_length]
theorem NA{n a c:Int}{b:List Int}(h:Ty.du [(.struct [(.int .i64),(.slice (.int .u8))]),(.int .i64),(.int .i64)] ((n,b),a,c)):aB (zn ai) (Ko ai n b a c) (bX ((n,b),a,c)):=by
 obtain⟨h1,ha,hw⟩:=A6 h
 have hb:=(dU h1).2.2
 have hl:=dy h1
 unfold Ko
 rw[bX]
 refine af.2 ⟨rfl,?_⟩
 have hc:ai.c .neq (ai.k iW (n,b)) 0=!bD (n,b):=by
  rw[ap,jJ hb hl];cases bD (n,b)<;>rfl
 rw[hc]
 cases hok:bD (n,b)
 ·exact(aj rfl).2 (.ret _)
 ·refine(ah rfl).2 ?_
  obtain⟨h2,h3,h4⟩:=(fS hb).1 hok
  have h5:=h4.1
  rw[Bool.not_true,cond_false]
  by_cases h6:a<0
  ·refine(aj (by rw[ar];simpa using h6)).2 ?_
   rw[show decide (a<0)=true from by simpa using h6]
   exact .ret _
  refine(ah (by rw[ar];simpa using h6)).2 ?_
  by_cases h7:c<a
  ·refine(aj (by rw[ar];simpa using h7)).2 ?_
   rw[show decide (c<a)=true from by simpa using h7]
   simp only[Bool.or_true,Bool.true_or]
   exact .ret _
  refine(ah (by rw[ar];simpa using h7)).2 ?_
  by_cases h8:n<c
  ·refine(aj (by rw[aG];simpa using h8)).2 ?_
   rw[show decide (n<c)=true from by simpa using h8]
   simp only[Bool.or_true,Bool.true_or]
   exact .ret _
  refine(ah (by rw[aG];simpa using h8)).2 ?_
  rw[show decide (a<0)=false from by simpa using h6,show decide (c<a)=false from by simpa using h7,show decide (n<c)=false from by simpa using h8]
  obtain⟨k,rfl⟩:=Int.eq_ofNat_of_zero_le (show 0≤c by omega)
  obtain⟨i,rfl⟩:=Int.eq_ofNat_of_zero_le (show 0≤a by omega)
  obtain⟨m,rfl⟩:=Int.eq_ofNat_of_zero_le h2
  rw[Int.toNat_natCast] at h4 h5
  have hsub:ai.b .sub .i64 (k:Int) (i:Int)=((k-i:Nat):Int):=kg (by omega) (by omega)
  have hneed:ai.k da ((k-i:Nat):Int)=(((k-i+7)/8:Nat):Int):=by rw[ap,k_ (by omega) (by omega),Int.toNat_natCast]
  show aB (zn ai) _ (bO (((unpack m b).take k).drop i),0)
  rw[hsub]
  have hrep:ai.r (ai.k da ((k-i:Nat):Int)) (0:Int)=List.replicate ((k-i+7)/8) 0:=by rw[hneed,kq,Int.toNat_natCast]
  have hmore:aB (zn ai) (.more (.c0 ⟨0,(i:Int),(k:Int),((k-i:Nat):Int),(m:Int),b,0,((k-i:Nat):Int)⟩ (i:Int) (ai.r (ai.k da ((k-i:Nat):Int)) (0:Int)))) (bO (((unpack m b).take k).drop i),0):=by
   refine IK hb (by omega) (by omega) (by omega) (by omega) (k-i) i _ _ rfl rfl rfl rfl rfl (by omega) (by omega) (by omega) ?_
   rw[Nat.sub_self,List.take_zero,hrep]
   exact Holds.blank _
  refine af.2 ⟨rfl,af.2 ⟨by rw[hneed,gj,qZ rfl,aF,aU,aU];simp;omega,?_⟩⟩
  by_cases h9:i%8=0
  ·refine(aj (qZ (by rw[rK,h9];rfl))).2 ?_
   by_cases h10:k=m
   ·subst h10
    refine(aj (qZ rfl)).2 (af.2 ⟨?_,af.2 ⟨?_,?_⟩⟩)
    ·rw[hrep]
     have:ai.l (List.replicate ((k-i+7)/8) (0:Int))=(((k-i+7)/8:Nat):Int):=by show((List.replicate ((k-i+7)/8) (0:Int)).length:Int)=_;rw[List.length_replicate]
     rw[this,gj,iU,aU,aU];simp[aF]
    ·have:ai.l b=((b.length:Nat):Int):=rfl
     rw[kv (by omega),this,gj,iU,iU,aU,aU];simp;omega
    ·have hd:=BO h4 (i:=i/8) (by omega)
     rw[show 8*(i/8)=i from by omega] at hd
     have hL:((unpack k b).drop i).length=k-i:=by rw[List.length_drop,aX]
     rw[hrep,kv (by omega),IX]
     have e1:ai.mn (ai.l (b.drop (i/8))) (ai.b .sub .i64 (ai.l (List.replicate ((k-i+7)/8) (0:Int))) 0)=((b.drop (i/8)).length:Int):=by
      show ai.mn ((b.drop (i/8)).length:Int) (ai.b .sub .i64 ((List.replicate ((k-i+7)/8) (0:Int)).length:Int) 0)=_
      rw[List.length_replicate,bl,fQ (by omega) (by omega),wF,if_neg (by rw[List.length_drop];omega)]
     rw[e1,j5,mz,Int.toNat_natCast,List.take_length]
     have e2:(List.replicate ((k-i+7)/8) (0:Int)).take (0:Int).toNat++(b.drop (i/8)).drop (0:Int).toNat++(List.replicate ((k-i+7)/8) (0:Int)).drop ((0:Int).toNat+((b.drop (i/8)).drop (0:Int).toNat).length)=b.drop (i/8):=by
      show[]++b.drop (i/8)++(List.replicate ((k-i+7)/8) (0:Int)).drop (0+(b.drop (i/8)).length)=_
      rw[List.drop_replicate,List.length_drop,show(k-i+7)/8-(0+(b.length-i/8))=0 from by omega,List.replicate_zero,List.append_nil,List.nil_append]
     rw[e2,hd,List.take_of_length_le (by rw[aX];exact Nat.le_refl _),show bO ((unpack k b).drop i)=(((k-i:Nat):Int),pack ((unpack k b).drop i)) from by rw[bO,hL]]
     exact .ret _
   ·exact(ah (FG (by omega))).2 hmore
  ·exact(ah (FG (by rw[rK];omega))).2 hmore
def bU:((Int×List Int)×Int×Int)→((Int×List Int)×Int):=bX
def Pn:aA:=⟨[(.struct [yI,yB]),yI,yI], [(.struct [yI,yB]),yI],(@tt ((Int×List Int)×Int×Int)),bU⟩
theorem JR:Sd 251 Pn:=aH ax cm true 118 [⟨262,4, [[1,3,4,5,7,10], [6,8]]⟩] [] (fun A ((bN,bB),from1,to)=>Ko A bN bB from1 to) zn Lw (fc Tryz.func251 (fc Tryz.func259 (fc Tryz.func261 (fc Tryz.func262 fz)))) (sc zW (sc Eo (sc Jo (sc Fp sz)))) (fun A y=>match y with |.c0 p a3 a9=>⟨57,by kernel_rfl,by kernel_rfl⟩) fun((bN,bB),from1,to) hp h=>NA h
open Go.Ev.Pl
theorem oE{l:List (Int×List Int)}(h:Ty.du [(.slice (.struct [(.int .i64),(.slice (.int .u8))]))] l):l.length≤140737488355328∧∀x∈l,bI x.2∧x.2.length≤140737488355328:=by
 have h1:l.length≤cO∧∀x∈l,Ty.has (.struct [(.int .i64),(.slice (.int .u8))]) x:=h
 exact⟨h1.1,fun x hx=>⟨(dU (n:=x.1) (b:=x.2) (h1.2 x hx)).2.2,(dU (n:=x.1) (b:=x.2) (h1.2 x hx)).2.1⟩⟩
theorem getD_in{α:Type}{l:List α}{i:Nat}(h:i<l.length)(d:α):l.getD (i:Int).toNat d=l[i]:=by
 rw[Int.toNat_natCast,List.getD_eq_getElem?_getD,List.getElem?_eq_getElem h];rfl
theorem mf{l:List (Int×List Int)}{i:Nat}(h:i<l.length):(ai.n (.struct [(.int .i64),(.slice (.int .u8))]) l (i:Int):Int×List Int)=l[i]:=by
 exact getD_in h _
theorem aK{α:Type}{l:List α}{i:Nat}(h:i<l.length):ai.and (ai.c .leq 0 (i:Int)) (ai.c .lss (i:Int) (ai.l l))=true:=by
 have:ai.l l=(l.length:Int):=rfl
 rw[this,gj,aJ,aU];simpa using h
theorem CZ{x:Int×List Int}(h:bD x=true):(bG x).length≤4096:=by
 obtain⟨n,b⟩:=x
 rw[gb]
 simp only[bD,Bool.and_eq_true,decide_eq_true_eq] at h
 show n.toNat≤4096
 omega
theorem yM{l:List Bool}(h:4096<l.length):uh l=(zB,3):=by
 rw[uh,show decide (4096<l.length)=true from by simpa using h];rfl
theorem u_{l:List (Int×List Int)}{i:Nat}(h:i<l.length):(l.take (i+1)).flatMap bG=(l.take i).flatMap bG++bG l[i]:=by
 rw[List.take_succ_eq_append_getElem h,List.flatMap_append]
 simp
theorem p_{l:List Bool}(h:l.length≤4096):uh l=(bO l,0):=by
 rw[uh,show decide (4096<l.length)=false from by simpa using h];rfl
end Go.Ev.M
