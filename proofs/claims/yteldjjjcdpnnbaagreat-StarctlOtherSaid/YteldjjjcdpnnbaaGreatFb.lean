/-
  PROVED: what the functions of the packages crc, cstate, metronomeref02 and metronomeref04 compute, and some of frame and metronomeref05. Conditions: none.
-/
import Derived.Test.YteldjjjcdpnnbaaGreatFa
namespace Go.Ev.M
open Go.Proofs
set_option maxRecDepth 100000
set_option linter.unusedVariables false
set_option linter.unusedSimpArgs false
open Go.Ev.Pl
def MW(A:a_)(r:Int):LT Int Empty:=.br (A.c .eql (A.b .shr .u32 r 23) 1) (.ret (A.b .xor .u32 (A.b .and .u32 (A.b .shl .u32 r 1) 16777215) 6122955)) (.ret (A.b .and .u32 (A.b .shl .u32 r 1) 16777215))
def Bn:Int→Int:=fun r=>(MW aj r).val (Ty.bE [(.int .u32)])
def abt:aB:=⟨[(.int .u32)], [(.int .u32)],(@tt Int),Bn⟩
theorem Sl:Sd 267 abt:=aJ ax bK true 35 [] (fun A r=>MW A r) (fc Tryz.func267 fz) sz (fun(r:Int) hp h=>by
 show(MW aj r).pre=true
 simp[MW,LT.pre])
theorem Pf{a:Int}(h1:0≤a)(h2:a≤4294967295):IntKind.u32.wrap a=a:=IntWalk.u32_in a ⟨h1,h2⟩
theorem EJ{a b:Nat}(ha:a<4294967296)(hb:b<4294967296):aj.b .xor .u32 (a:Int) (b:Int)=((a ^^^ b:Nat):Int):=by
 show IntKind.u32.wrap ((BitVec.ofInt 32 (a:Int) ^^^ BitVec.ofInt 32 (b:Int)).toNat:Int)=_
 rw[BitVec.ofInt_natCast,BitVec.ofInt_natCast,BitVec.toNat_xor,BitVec.toNat_ofNat,BitVec.toNat_ofNat,Nat.mod_eq_of_lt ha,Nat.mod_eq_of_lt hb]
 have:a ^^^ b<2^32:=Nat.xor_lt_two_pow ha hb
 rw[Pf (by omega) (by omega)]
theorem RY{a:Nat}(ha:a<4294967296):aj.b .and .u32 (a:Int) 16777215=((a%16777216:Nat):Int):=by
 show IntKind.u32.wrap ((BitVec.ofInt 32 (a:Int) &&& BitVec.ofInt 32 ((16777215:Nat):Int)).toNat:Int)=_
 rw[BitVec.ofInt_natCast,BitVec.ofInt_natCast,BitVec.toNat_and,BitVec.toNat_ofNat,BitVec.toNat_ofNat,Nat.mod_eq_of_lt ha,show 16777215%2^32=2^24-1 from rfl,Nat.and_two_pow_sub_one_eq_mod,Pf (by omega) (by omega)]
theorem Gf{a k:Nat}(hk:k≤32)(h:a*2^k<4294967296):aj.b .shl .u32 (a:Int) (k:Int)=((a*2^k:Nat):Int):=by
 show IntKind.u32.wrap ((a:Int)*2^min (k:Int).toNat 32)=_
 rw[Int.toNat_natCast,Nat.min_eq_left hk,show(a:Int)*2^k=((a*2^k:Nat):Int) from by simp,Pf (by omega) (by omega)]
theorem My{r:Nat}(hr:r<16777216):Bn (r:Int)=((step1 r false:Nat):Int):=by
 simp only[Bn,MW,LT.val]
 have h1:aj.b .shr .u32 (r:Int) 23=((r/2^23:Nat):Int):=KB (n:=23) (by omega) (by decide)
 have h2:aj.b .and .u32 (aj.b .shl .u32 (r:Int) 1) 16777215=((2*r%16777216:Nat):Int):=by
  have h3:aj.b .shl .u32 (r:Int) 1=((r*2^1:Nat):Int):=Gf (k:=1) (by decide) (by omega)
  rw[h3,RY (by omega),Nat.pow_one,Nat.mul_comm]
 rw[h1,h2,step1,Bool.bne_false]
 have h4:aj.c .eql ((r/2^23:Nat):Int) 1=decide (8388608≤r):=by
  rw[aC,Bool.eq_iff_iff,decide_eq_true_eq,beq_iff_eq]
  omega
 rw[h4]
 cases decide (8388608≤r)
 ·rfl
 ·have:aj.b .xor .u32 ((2*r%16777216:Nat):Int) 6122955=((2*r%16777216 ^^^ 6122955:Nat):Int):=EJ (b:=6122955) (by omega) (by decide)
  rw[cond_true,cond_true,this]
structure Vt where
 (a0 a1 a2 a3 a4 a5 a6 a7 a8 a9 bV dT a12 lk ku qs a16 a17 qU mq a20 a21 a22 a23 a24 a25 a26 a27 a28 a29 a30 a31 a32:Int)
structure WC where
 (b0 b2 b4 b5 b6 b7 b8 b9 b10 b11 b12 b13 sn zQ dA ib sR lH mM kN kT nY nX nZ qT nP nQ Bf Bp BU AY AQ A1 Be:Int)
inductive Qi where
 | c0 (p:Vt)
 | c1 (p:WC) (b1:Int) (b3:Int)
noncomputable def W7:Qi→fL
 | .c0 p=>⟨[⟨265,20,(en [(0,.ptr 0 0),(1,.ptr 1 0),(4,vi p.a0)]),[.inLoop (cw Tryz.f265 [1,1,0,1,0,0]),.inBlock 0,.code (cw Tryz.f265 [1,1,1])],[],none⟩],[.flat false [.int .u32 false p.a1,.int .u32 false p.a2,.int .u32 false p.a3,.int .u32 false p.a4,.int .u32 false p.a5,.int .u32 false p.a6,.int .u32 false p.a7,.int .u32 false p.a8,.int .u32 false p.a9,.int .u32 false p.bV,.int .u32 false p.dT,.int .u32 false p.a12,.int .u32 false p.lk,.int .u32 false p.ku,.int .u32 false p.qs,.int .u32 false p.a16],.flat false [.int .u32 false p.a17,.int .u32 false p.qU,.int .u32 false p.mq,.int .u32 false p.a20,.int .u32 false p.a21,.int .u32 false p.a22,.int .u32 false p.a23,.int .u32 false p.a24,.int .u32 false p.a25,.int .u32 false p.a26,.int .u32 false p.a27,.int .u32 false p.a28,.int .u32 false p.a29,.int .u32 false p.a30,.int .u32 false p.a31,.int .u32 false p.a32],.dead]⟩
 | .c1 p b1 b3=>⟨[⟨265,20,(en [(0,.ptr 0 0),(1,.ptr 1 0),(2,vi p.b0),(3,.int .u32 false b1),(4,vi p.b2),(10,vi b3)]),[.inLoop (cw Tryz.f265 [1,1,0,1,0,0,1,1,0,0,1,1,0,1,0,0]),.inBlock 2,.code (cw Tryz.f265 [1,1,0,1,0,0,1,1,0,0,1,1,1]),.inBlock 1,.code (cw Tryz.f265 [1,1,0,1,0,0,1,1,1]),.inLoop (cw Tryz.f265 [1,1,0,1,0,0]),.inBlock 0,.code (cw Tryz.f265 [1,1,1])],[],none⟩],[.flat false [.int .u32 false p.b4,.int .u32 false p.b5,.int .u32 false p.b6,.int .u32 false p.b7,.int .u32 false p.b8,.int .u32 false p.b9,.int .u32 false p.b10,.int .u32 false p.b11,.int .u32 false p.b12,.int .u32 false p.b13,.int .u32 false p.sn,.int .u32 false p.zQ,.int .u32 false p.dA,.int .u32 false p.ib,.int .u32 false p.sR,.int .u32 false p.lH],.flat false [.int .u32 false p.mM,.int .u32 false p.kN,.int .u32 false p.kT,.int .u32 false p.nY,.int .u32 false p.nX,.int .u32 false p.nZ,.int .u32 false p.qT,.int .u32 false p.nP,.int .u32 false p.nQ,.int .u32 false p.Bf,.int .u32 false p.Bp,.int .u32 false p.BU,.int .u32 false p.AY,.int .u32 false p.AQ,.int .u32 false p.A1,.int .u32 false p.Be],.dead]⟩
def afz(A:a_):LT (List Int) Qi:=.more (.c0 ⟨0,0,0,0,0,0,0,0,0,0,0,0,0,0,0,0,0,0,0,0,0,0,0,0,0,0,0,0,0,0,0,0,0⟩)
def ab_(A:a_):Qi→LT (List Int) Qi
 | .c0 p=>.br (A.c .lss p.a0 16) (.more (.c1 ⟨p.a0,p.a0,p.a1,p.a2,p.a3,p.a4,p.a5,p.a6,p.a7,p.a8,p.a9,p.bV,p.dT,p.a12,p.lk,p.ku,p.qs,p.a16,p.a17,p.qU,p.mq,p.a20,p.a21,p.a22,p.a23,p.a24,p.a25,p.a26,p.a27,p.a28,p.a29,p.a30,p.a31,p.a32⟩ (A.b .shl .u32 (A.v .u32 p.a0) 20) 0)) (.ret [p.a17,p.qU,p.mq,p.a20,p.a21,p.a22,p.a23,p.a24,p.a25,p.a26,p.a27,p.a28,p.a29,p.a30,p.a31,p.a32])
 | .c1 p b1 b3=>.br (A.c .lss b3 4) (.need (A.k (@tt Int) b1) (.more (.c1 p (A.k Bn b1) (A.b .add .i64 b3 1)))) (.need (A.and (A.c .leq 0 p.b0) (A.c .lss p.b0 16)) (.more (.c0 ⟨(A.b .add .i64 p.b2 1),p.b4,p.b5,p.b6,p.b7,p.b8,p.b9,p.b10,p.b11,p.b12,p.b13,p.sn,p.zQ,p.dA,p.ib,p.sR,p.lH,(A.n (.int .u32) (A.set [p.mM,p.kN,p.kT,p.nY,p.nX,p.nZ,p.qT,p.nP,p.nQ,p.Bf,p.Bp,p.BU,p.AY,p.AQ,p.A1,p.Be] p.b0 b1) 0:Int),(A.n (.int .u32) (A.set [p.mM,p.kN,p.kT,p.nY,p.nX,p.nZ,p.qT,p.nP,p.nQ,p.Bf,p.Bp,p.BU,p.AY,p.AQ,p.A1,p.Be] p.b0 b1) 1:Int),(A.n (.int .u32) (A.set [p.mM,p.kN,p.kT,p.nY,p.nX,p.nZ,p.qT,p.nP,p.nQ,p.Bf,p.Bp,p.BU,p.AY,p.AQ,p.A1,p.Be] p.b0 b1) 2:Int),(A.n (.int .u32) (A.set [p.mM,p.kN,p.kT,p.nY,p.nX,p.nZ,p.qT,p.nP,p.nQ,p.Bf,p.Bp,p.BU,p.AY,p.AQ,p.A1,p.Be] p.b0 b1) 3:Int),(A.n (.int .u32) (A.set [p.mM,p.kN,p.kT,p.nY,p.nX,p.nZ,p.qT,p.nP,p.nQ,p.Bf,p.Bp,p.BU,p.AY,p.AQ,p.A1,p.Be] p.b0 b1) 4:Int),(A.n (.int .u32) (A.set [p.mM,p.kN,p.kT,p.nY,p.nX,p.nZ,p.qT,p.nP,p.nQ,p.Bf,p.Bp,p.BU,p.AY,p.AQ,p.A1,p.Be] p.b0 b1) 5:Int),(A.n (.int .u32) (A.set [p.mM,p.kN,p.kT,p.nY,p.nX,p.nZ,p.qT,p.nP,p.nQ,p.Bf,p.Bp,p.BU,p.AY,p.AQ,p.A1,p.Be] p.b0 b1) 6:Int),(A.n (.int .u32) (A.set [p.mM,p.kN,p.kT,p.nY,p.nX,p.nZ,p.qT,p.nP,p.nQ,p.Bf,p.Bp,p.BU,p.AY,p.AQ,p.A1,p.Be] p.b0 b1) 7:Int),(A.n (.int .u32) (A.set [p.mM,p.kN,p.kT,p.nY,p.nX,p.nZ,p.qT,p.nP,p.nQ,p.Bf,p.Bp,p.BU,p.AY,p.AQ,p.A1,p.Be] p.b0 b1) 8:Int),(A.n (.int .u32) (A.set [p.mM,p.kN,p.kT,p.nY,p.nX,p.nZ,p.qT,p.nP,p.nQ,p.Bf,p.Bp,p.BU,p.AY,p.AQ,p.A1,p.Be] p.b0 b1) 9:Int),(A.n (.int .u32) (A.set [p.mM,p.kN,p.kT,p.nY,p.nX,p.nZ,p.qT,p.nP,p.nQ,p.Bf,p.Bp,p.BU,p.AY,p.AQ,p.A1,p.Be] p.b0 b1) 10:Int),(A.n (.int .u32) (A.set [p.mM,p.kN,p.kT,p.nY,p.nX,p.nZ,p.qT,p.nP,p.nQ,p.Bf,p.Bp,p.BU,p.AY,p.AQ,p.A1,p.Be] p.b0 b1) 11:Int),(A.n (.int .u32) (A.set [p.mM,p.kN,p.kT,p.nY,p.nX,p.nZ,p.qT,p.nP,p.nQ,p.Bf,p.Bp,p.BU,p.AY,p.AQ,p.A1,p.Be] p.b0 b1) 12:Int),(A.n (.int .u32) (A.set [p.mM,p.kN,p.kT,p.nY,p.nX,p.nZ,p.qT,p.nP,p.nQ,p.Bf,p.Bp,p.BU,p.AY,p.AQ,p.A1,p.Be] p.b0 b1) 13:Int),(A.n (.int .u32) (A.set [p.mM,p.kN,p.kT,p.nY,p.nX,p.nZ,p.qT,p.nP,p.nQ,p.Bf,p.Bp,p.BU,p.AY,p.AQ,p.A1,p.Be] p.b0 b1) 14:Int),(A.n (.int .u32) (A.set [p.mM,p.kN,p.kT,p.nY,p.nX,p.nZ,p.qT,p.nP,p.nQ,p.Bf,p.Bp,p.BU,p.AY,p.AQ,p.A1,p.Be] p.b0 b1) 15:Int)⟩)))
def goT{R Y:Type}(step:Y→LT R Y):Nat→LT R Y→Option R
 | 0,_=>none
 | _+1,.ret r=>some r
 | n+1,.more y=>goT step n (step y)
 | n+1,.br b t e=>bif b then goT step n t else goT step n e
 | n+1,.need b t=>bif b then goT step n t else none
 | _+1,_=>none
theorem Lv{R Y:Type}{step:Y→LT R Y}:∀{n:Nat} {t:LT R Y} {r:R},goT step n t=some r→aA step t r:=by
 intro n
 induction n with
 | zero=>intro t r h;cases h
 | succ n ih=>
   intro t r h
   cases t with
   | ret x=>cases h;exact .ret _
   | more y=>exact .more (ih h)
   | br b t e=>
     rw[goT] at h
     cases b
     ·exact(ah rfl).2 (ih h)
     ·exact(ai rfl).2 (ih h)
   | need b t=>
     rw[goT] at h
     cases b
     ·cases h
     ·exact af.2 ⟨rfl,ih h⟩
   | eqs p t=>cases h
   | bad m s=>cases h
def abx:List Int:=[0,6122955,12245910,15185501,2677479,7714604,9568625,13593786,5354958,841733,15429208,11928467,7958313,2360034,12825791,10410356]
theorem NE:∀i:Fin 16,abx.getD i.val 0=((Ep.getD i.val 0:Nat):Int):=by decide +kernel
theorem LU:∀i:Fin 16,Ep.getD i.val 0<16777216:=by decide +kernel
theorem Ua:aA (ab_ aj) (afz aj) abx:=Lv (n:=400) (by kernel_rfl)
def jW:Unit→(List Int):=fun _=>[0,6122955,12245910,15185501,2677479,7714604,9568625,13593786,5354958,841733,15429208,11928467,7958313,2360034,12825791,10410356]
def afJ:aB:=⟨[], [(.arr 16 (.int .u32))],(@tt Unit),jW⟩
theorem adE:Sd 265 afJ:=aL ax bK true 21 [⟨265,3, [[0,1,4]]⟩,⟨265,7, [[0,1,2,3,4,10]]⟩] [] (fun A _=>afz A) ab_ W7 (fc Tryz.func265 fz) (sc Sl sz) (fun A y=>match y with |.c0 p=>⟨34,by kernel_rfl,by kernel_rfl⟩|.c1 p b1 b3=>⟨25,by kernel_rfl,by kernel_rfl⟩) fun _ hp h=>Ua
open Go.Ev.Pl
structure MM where
 (a1:List Bool)
inductive JA where
 | c0 (p:MM) (a0:Int) (a2:Int)
noncomputable def WG:JA→fL
 | .c0 p a0 a2=>⟨[⟨223,29,(en [(0,.int .u32 false a0),(1,.sl .bool p.a1),(5,vi a2)]),[.inLoop (cw Tryz.f223 [1,0,1,0,0]),.inBlock 0,.code (cw Tryz.f223 [1,1])],[],none⟩],[.dead]⟩
def t160(A:a_)(r:Int)(l:List Bool):LT Int JA:=.more (.c0 ⟨l⟩ r 0)
def LN(A:a_):JA→LT Int JA
 | .c0 p a0 a2=>.br (A.c .lss a2 (A.l p.a1)) (.need (A.and (A.c .leq 0 a2) (A.c .lss a2 (A.l p.a1))) (.br (A.not (A.q (A.c .eql (A.b .rem .u32 (A.b .shr .u32 a0 23) 2) 1) (A.n .bool p.a1 a2:Bool))) (.more (.c0 p (A.b .xor .u32 (A.b .rem .u32 (A.b .shl .u32 a0 1) 16777216) 6122955) (A.b .add .i64 a2 1))) (.more (.c0 p (A.b .rem .u32 (A.b .shl .u32 a0 1) 16777216) (A.b .add .i64 a2 1))))) (.ret a0)
theorem MZ{l:List Bool}(hl:l.length≤140737488355328):∀(j i r:Nat) (p:MM),p.a1=l→l.length-i=j→i≤l.length→r<16777216→aA (LN aj) (.more (.c0 p (r:Int) (i:Int))) ((over r (l.drop i):Nat):Int):=by
 intro j
 induction j with
 | zero=>
   intro i r p h1 hj hi hr
   have:i=l.length:=by omega
   subst this
   simp only[ak,LN]
   refine(ah (by rw[show aj.l p.a1=(l.length:Int) from by rw[h1];rfl,aO];simp)).2 ?_
   rw[List.drop_length,oq]
   exact .ret _
 | succ j ih=>
   intro i r p h1 hj hi hr
   have hi':i<l.length:=by omega
   simp only[ak,LN]
   refine(ai (by rw[show aj.l p.a1=(l.length:Int) from by rw[h1];rfl,aO];simp;omega)).2 (af.2 ⟨by rw[h1];exact aP hi',?_⟩)
   have hn:(aj.n .bool p.a1 (i:Int):Bool)=l[i]:=by rw[h1];exact getD_in hi' _
   have h4:aj.c .eql (aj.b .rem .u32 (aj.b .shr .u32 (r:Int) 23) 2) 1=decide (8388608≤r):=by
    rw[show aj.b .shr .u32 (r:Int) 23=((r/2^23:Nat):Int) from KB (n:=23) (by omega) (by decide),Dt]
    exact decide_eq_decide.2 (by omega)
   have h2:aj.b .rem .u32 (aj.b .shl .u32 (r:Int) 1) 16777216=((2*r%16777216:Nat):Int):=by
    rw[show aj.b .shl .u32 (r:Int) 1=((r*2^1:Nat):Int) from Gf (k:=1) (by decide) (by omega),wZ,Int.tmod_eq_emod_of_nonneg (by omega)]
    omega
   have hb:aj.not (aj.q (aj.c .eql (aj.b .rem .u32 (aj.b .shr .u32 (r:Int) 23) 2) 1) (aj.n .bool p.a1 (i:Int):Bool))=(decide (8388608≤r) != l[i]):=by
    rw[h4,hn];rfl
   have hd:over r (l.drop i)=over (step1 r l[i]) (l.drop (i+1)):=by rw[List.drop_eq_getElem_cons hi',gm]
   have hm:=ih (i+1) (step1 r l[i]) p h1 (by omega) (by omega) (oB _ _)
   rw[hd]
   rw[step1] at hm ⊢
   cases hx:(decide (8388608≤r) != l[i])
   ·refine(ah (hb.trans hx)).2 ?_
    rw[hx] at hm
    exact bo (congrArg LT.more (congr (congrArg (JA.c0 p) h2) (cf (by omega)))) hm
   ·refine(ai (hb.trans hx)).2 ?_
    rw[hx] at hm
    refine bo (congrArg LT.more (congr (congrArg (JA.c0 p) ?_) (cf (by omega)))) hm
    rw[h2]
    exact EJ (b:=6122955) (by omega) (by decide)
theorem LS{r:Int}{l:List Bool}(h:Ty.cB [(.int .u32),(.slice .bool)] (r,l)):l.length≤140737488355328:=by
 have h1:(0≤r∧r≤4294967295)∧l.length≤dI∧_:=h
 exact h1.2.1
theorem IU{r:Int}{l:List Bool}(h:Ty.cB [(.int .u32),(.slice .bool)] (r,l))(hp:(decide (0≤r)&&decide (r<16777216))=true):aA (LN aj) (t160 aj r l) ((over r.toNat l:Nat):Int):=by
 rw[Bool.and_eq_true,decide_eq_true_eq,decide_eq_true_eq] at hp
 obtain⟨m,rfl⟩:=Int.eq_ofNat_of_zero_le hp.1
 exact MZ (LS h) l.length 0 m _ rfl (by omega) (by omega) (by omega)
def G2:(Int×List Bool)→Int:=fun(r,l)=>((over r.toNat l:Nat):Int)
def Cb:(Int×List Bool)→Bool:=fun(r,_)=>decide (0≤r)&&decide (r<16777216)
def acO:aB:=⟨[(.int .u32),(.slice .bool)], [(.int .u32)],Cb,G2⟩
theorem aei:Sd 223 acO:=aL ax bK true 17 [⟨223,2, [[0,1,5]]⟩] [] (fun A (r,l)=>t160 A r l) LN WG (fc Tryz.func223 fz) sz (fun A y=>match y with |.c0 p a0 a2=>⟨54,by kernel_rfl,by kernel_rfl⟩) fun((r,l):Int×List Bool) hp h=>IU h hp
structure Na where
 (a0:List (Int×List Int))
inductive KQ where
 | c0 (p:Na) (a1:Int) (a2:Int)
noncomputable def Wi:KQ→fL
 | .c0 p a1 a2=>⟨[⟨189,26,(en [(0,.sl (.struct [yI,yB]) p.a0),(4,.int .u32 false a1),(5,vi a2)]),[.inLoop (cw Tryz.f189 [1,1,0,1,0,0]),.inBlock 0,.code (cw Tryz.f189 [1,1,1])],[],none⟩],[.dead]⟩
def abH(A:a_)(l:List (Int×List Int)):LT (Int×Int) KQ:=.more (.c0 ⟨l⟩ 0 0)
def Mq(A:a_):KQ→LT (Int×Int) KQ
 | .c0 p a1 a2=>.br (A.c .lss a2 (A.l p.a0)) (.need (A.and (A.c .leq 0 a2) (A.c .lss a2 (A.l p.a0))) (.need (A.k (@tt ((Int×List Int))) (A.n (.struct [yI,yB]) p.a0 a2:Int×List Int)) (.br (A.c .neq (A.k e_ (A.n (.struct [yI,yB]) p.a0 a2:Int×List Int)) 0) (.ret (0,10)) (.need (A.and (A.c .leq 0 a2) (A.c .lss a2 (A.l p.a0))) (.need (A.k (@tt ((Int×List Int))) (A.n (.struct [yI,yB]) p.a0 a2:Int×List Int)) (.need (A.k Cb (a1,(A.k iQ (A.n (.struct [yI,yB]) p.a0 a2:Int×List Int)))) (.more (.c0 p (A.k G2 (a1,(A.k iQ (A.n (.struct [yI,yB]) p.a0 a2:Int×List Int)))) (A.b .add .i64 a2 1))))))))) (.ret (a1,0))
theorem FD{r:Nat}(h:r<16777216)(l:List Bool):aj.k Cb ((r:Int),l)=true:=by
 rw[al,Cb,Bool.and_eq_true,decide_eq_true_eq,decide_eq_true_eq]
 omega
theorem Ql{l:List (Int×List Int)}(hl:l.length≤140737488355328):∀(j i:Nat) (p:Na),p.a0=l→l.length-i=j→i≤l.length→(∀x∈l.take i,bC x=true)→aA (Mq aj) (.more (.c0 p ((over 0 ((l.take i).flatMap bw):Nat):Int) (i:Int))) (tK l):=by
 intro j
 induction j with
 | zero=>
   intro i p h1 hj hi hok
   have:i=l.length:=by omega
   subst this
   rw[List.take_length] at hok ⊢
   simp only[ak,Mq]
   refine(ah (by rw[show aj.l p.a0=(l.length:Int) from by rw[h1];rfl,aO];simp)).2 ?_
   rw[tK,List.all_eq_true.2 hok]
   exact .ret _
 | succ j ih=>
   intro i p h1 hj hi hok
   simp only[ak,Mq]
   have hi':i<l.length:=by omega
   refine(ai (by rw[show aj.l p.a0=(l.length:Int) from by rw[h1];rfl,aO];simp;omega)).2 (af.2 ⟨by rw[h1];exact aP hi',af.2 ⟨rfl,?_⟩⟩)
   have hn1:(aj.n (.struct [(.int .i64),(.slice (.int .u8))]) p.a0 (i:Int):Int×List Int)=l[i]:=by rw[h1,oS hi']
   rw[hn1]
   have hn:(aj.k e_ l[i])=bif bC l[i] then 0 else 10:=by rw[al,e_]
   rw[hn]
   cases hx:bC l[i]
   ·refine(ai rfl).2 ?_
    rw[tK,show l.all bC=false from List.all_eq_false.2 ⟨l[i],List.getElem_mem hi',by rw[hx];decide⟩]
    exact .ret _
   ·refine(ah rfl).2 ?_
    have hL:(aj.k iQ l[i])=bw l[i]:=by rw[al,iQ,hx];rfl
    have hlt:=gP (r:=0) (by decide) ((l.take i).flatMap bw)
    have hc:aj.k G2 (((over 0 ((l.take i).flatMap bw):Nat):Int),bw l[i])=((over 0 ((l.take (i+1)).flatMap bw):Nat):Int):=by
     rw[al,G2,Int.toNat_natCast,BM hi',fS]
    rw[hL]
    refine af.2 ⟨by rw[h1];exact aP hi',af.2 ⟨rfl,af.2 ⟨?_,?_⟩⟩⟩
    ·exact FD hlt _
    ·refine bo (congrArg LT.more (congr (congrArg (KQ.c0 p) hc) (cf (by omega)))) (ih (i+1) p h1 (by omega) (by omega) ?_)
     intro x hx2
     rw[List.take_succ_eq_append_getElem hi'] at hx2
     rcases List.mem_append.1 hx2 with h3|h3
     ·exact hok x h3
     ·rw[List.mem_singleton.1 h3];exact hx
def j5:(List (Int×List Int))→(Int×Int):=tK
def acM:aB:=⟨[(.slice (.struct [yI,yB]))], [(.int .u32),yI],(@tt (List (Int×List Int))),j5⟩
theorem RA:Sd 189 acM:=aL ax bK true 22 [⟨189,3, [[0,4,5]]⟩] [] (fun A l=>abH A l) Mq Wi (fc Tryz.func189 fz) (sc Ce (sc NN (sc aei sz))) (fun A y=>match y with |.c0 p a1 a2=>⟨46,by kernel_rfl,by kernel_rfl⟩) fun(l:List (Int×List Int)) hp h=>by
 show aA (Mq aj) (abH aj l) (j5 l)
 exact Ql (ru h).1 l.length 0 _ rfl (by omega) (by omega) (by intro x hx;cases hx)
open Go.Ev.Pl
structure zx where
 (a0:Int) (a1:List (Int×List Int)) (a2 a3 a4 a5 a6 a7 a8 a9 bV dT a12 lk ku qs a16 a17 qU mq:Int)
structure F5 where
 (b2:List (Int×List Int)) (b3 b4 b5 b6 b7 b8 b9 b10 b11 b12 b13 sn zQ dA ib sR lH mM kN:Int) (kT:List Int)
structure FZ where
 (c2:List (Int×List Int)) (c3 c4 c5:Int) (c6:List Int) (c7 c8 c9 c10 c11 c12 c13 c14 ni c16 zT Kq c19 c20 c21 Rn:Int)
inductive ID where
 | c0 (p:zx)
 | c1 (p:F5) (b0:Int) (b1:Int)
 | c2 (p:FZ) (c0:Int) (c1:Int)
noncomputable def W1:ID→fL
 | .c0 p=>⟨[⟨260,26,(en [(4,.ptr 0 0),(5,.int .u32 false p.a0),(10,.sl (.struct [yI,yB]) p.a1),(11,vi p.a2),(12,vi p.a3)]),[.inLoop (cw Tryz.f260 [1,1,1,0,1,0,0]),.inBlock 0,.code (cw Tryz.f260 [1,1,1,1])],[],none⟩],[.flat false [.int .u32 false p.a4,.int .u32 false p.a5,.int .u32 false p.a6,.int .u32 false p.a7,.int .u32 false p.a8,.int .u32 false p.a9,.int .u32 false p.bV,.int .u32 false p.dT,.int .u32 false p.a12,.int .u32 false p.lk,.int .u32 false p.ku,.int .u32 false p.qs,.int .u32 false p.a16,.int .u32 false p.a17,.int .u32 false p.qU,.int .u32 false p.mq],.dead]⟩
 | .c1 p b0 b1=>⟨[⟨266,57,(en [(0,.int .u32 false b0),(2,.ptr 0 0),(4,.ptr 1 0),(7,vi b1)]),[.inLoop (cw Tryz.f266 [1,1,0,0,0]),.inBlock 0,.code (cw Tryz.f266 [1,1,1])],[],none⟩,⟨260,26,(en [(4,.ptr 0 0),(10,.sl (.struct [yI,yB]) p.b2),(11,vi p.b3),(12,vi p.b4)]),[.ops (ow Tryz.f260 [1,1,1,0,1,0,0,1,1,0,0,1,1]) ((ow Tryz.f260 [1,1,1,0,1,0,0,1,1,0,0,1,1]).toList.drop 2),.inBlock 1,.code (cw Tryz.f260 [1,1,1,0,1,0,0,1,1,1]),.inLoop (cw Tryz.f260 [1,1,1,0,1,0,0]),.inBlock 0,.code (cw Tryz.f260 [1,1,1,1])],[],none⟩],[.flat false [.int .u32 false p.b5,.int .u32 false p.b6,.int .u32 false p.b7,.int .u32 false p.b8,.int .u32 false p.b9,.int .u32 false p.b10,.int .u32 false p.b11,.int .u32 false p.b12,.int .u32 false p.b13,.int .u32 false p.sn,.int .u32 false p.zQ,.int .u32 false p.dA,.int .u32 false p.ib,.int .u32 false p.sR,.int .u32 false p.lH,.int .u32 false p.mM],.flat false [vi p.kN,.sl yU p.kT],.dead]⟩
 | .c2 p c0 c1=>⟨[⟨266,57,(en [(0,.int .u32 false c0),(4,.ptr 0 0),(7,vi c1)]),[.inLoop (cw Tryz.f266 [1,1,1,0,0,0]),.inBlock 2,.code (cw Tryz.f266 [1,1,1,1])],[],none⟩,⟨260,26,(en [(4,.ptr 1 0),(10,.sl (.struct [yI,yB]) p.c2),(11,vi p.c3),(12,vi p.c4)]),[.ops (ow Tryz.f260 [1,1,1,0,1,0,0,1,1,0,0,1,1]) ((ow Tryz.f260 [1,1,1,0,1,0,0,1,1,0,0,1,1]).toList.drop 2),.inBlock 1,.code (cw Tryz.f260 [1,1,1,0,1,0,0,1,1,1]),.inLoop (cw Tryz.f260 [1,1,1,0,1,0,0]),.inBlock 0,.code (cw Tryz.f260 [1,1,1,1])],[],none⟩],[.flat false [vi p.c5,.sl yU p.c6],.flat false [.int .u32 false p.c7,.int .u32 false p.c8,.int .u32 false p.c9,.int .u32 false p.c10,.int .u32 false p.c11,.int .u32 false p.c12,.int .u32 false p.c13,.int .u32 false p.c14,.int .u32 false p.ni,.int .u32 false p.c16,.int .u32 false p.zT,.int .u32 false p.Kq,.int .u32 false p.c19,.int .u32 false p.c20,.int .u32 false p.c21,.int .u32 false p.Rn],.dead]⟩
def Vs(A:a_)(l:List (Int×List Int)):LT (Int×Int) ID:=.need (A.k (@tt Unit) ()) (.more (.c0 ⟨0,l,(A.l l),0,(A.n (.int .u32) (A.k jW ()) 0:Int),(A.n (.int .u32) (A.k jW ()) 1:Int),(A.n (.int .u32) (A.k jW ()) 2:Int),(A.n (.int .u32) (A.k jW ()) 3:Int),(A.n (.int .u32) (A.k jW ()) 4:Int),(A.n (.int .u32) (A.k jW ()) 5:Int),(A.n (.int .u32) (A.k jW ()) 6:Int),(A.n (.int .u32) (A.k jW ()) 7:Int),(A.n (.int .u32) (A.k jW ()) 8:Int),(A.n (.int .u32) (A.k jW ()) 9:Int),(A.n (.int .u32) (A.k jW ()) 10:Int),(A.n (.int .u32) (A.k jW ()) 11:Int),(A.n (.int .u32) (A.k jW ()) 12:Int),(A.n (.int .u32) (A.k jW ()) 13:Int),(A.n (.int .u32) (A.k jW ()) 14:Int),(A.n (.int .u32) (A.k jW ()) 15:Int)⟩))
def tZ(A:a_):ID→LT (Int×Int) ID
 | .c0 p=>.br (A.c .lss p.a3 p.a2) (.need (A.and (A.c .leq 0 p.a3) (A.c .lss p.a3 (A.l p.a1))) (.need (A.k (@tt ((Int×List Int))) (A.n (.struct [yI,yB]) p.a1 p.a3:Int×List Int)) (.br (A.c .neq (A.k kD (A.n (.struct [yI,yB]) p.a1 p.a3:Int×List Int)) 0) (.ret (0,(A.k kD (A.n (.struct [yI,yB]) p.a1 p.a3:Int×List Int)))) (.more (.c1 ⟨p.a1,p.a2,p.a3,p.a4,p.a5,p.a6,p.a7,p.a8,p.a9,p.bV,p.dT,p.a12,p.lk,p.ku,p.qs,p.a16,p.a17,p.qU,p.mq,(A.n (.struct [yI,yB]) p.a1 p.a3:Int×List Int).1,(A.n (.struct [yI,yB]) p.a1 p.a3:Int×List Int).2⟩ p.a0 0))))) (.ret (p.a0,0))
 | .c1 p b0 b1=>.br (A.c .leq (A.b .add .i64 b1 4) p.kN) (.need (A.k (@tt ((Int×List Int)×Int×Int)) ((p.kN,p.kT),b1,4)) (.need (A.and (A.c .leq 0 (A.b .xor .u32 (A.b .shr .u32 b0 20) (A.v .u32 (A.k aK ((p.kN,p.kT),b1,4)).1))) (A.c .lss (A.b .xor .u32 (A.b .shr .u32 b0 20) (A.v .u32 (A.k aK ((p.kN,p.kT),b1,4)).1)) 16)) (.more (.c1 p (A.b .xor .u32 (A.b .and .u32 (A.b .shl .u32 b0 4) 16777215) (A.n (.int .u32) [p.b5,p.b6,p.b7,p.b8,p.b9,p.b10,p.b11,p.b12,p.b13,p.sn,p.zQ,p.dA,p.ib,p.sR,p.lH,p.mM] (A.b .xor .u32 (A.b .shr .u32 b0 20) (A.v .u32 (A.k aK ((p.kN,p.kT),b1,4)).1)):Int)) (A.b .add .i64 b1 4))))) (.more (.c2 ⟨p.b2,p.b3,p.b4,p.kN,p.kT,p.b5,p.b6,p.b7,p.b8,p.b9,p.b10,p.b11,p.b12,p.b13,p.sn,p.zQ,p.dA,p.ib,p.sR,p.lH,p.mM⟩ b0 b1))
 | .c2 p c0 c1=>.br (A.c .lss c1 p.c5) (.need (A.k (@tt ((Int×List Int)×Int×Int)) ((p.c5,p.c6),c1,1)) (.need (A.k (@tt Int) (A.b .xor .u32 c0 (A.b .shl .u32 (A.v .u32 (A.k aK ((p.c5,p.c6),c1,1)).1) 23))) (.more (.c2 p (A.k Bn (A.b .xor .u32 c0 (A.b .shl .u32 (A.v .u32 (A.k aK ((p.c5,p.c6),c1,1)).1) 23))) (A.b .add .i64 c1 1))))) (.more (.c0 ⟨c0,p.c2,p.c3,(A.b .add .i64 p.c4 1),p.c7,p.c8,p.c9,p.c10,p.c11,p.c12,p.c13,p.c14,p.ni,p.c16,p.zT,p.Kq,p.c19,p.c20,p.c21,p.Rn⟩))
theorem FM{α β γ:Type}(f:α→β→γ){a a':α}{b b':β}(h1:a=a')(h2:b=b'):f a b=f a' b':=by rw[h1,h2]
def tbA(p:zx):Prop:=p.a4=0∧p.a5=6122955∧p.a6=12245910∧p.a7=15185501∧p.a8=2677479∧p.a9=7714604∧p.bV=9568625∧p.dT=13593786∧p.a12=5354958∧p.lk=841733∧p.ku=15429208∧p.qs=11928467∧p.a16=7958313∧p.a17=2360034∧p.qU=12825791∧p.mq=10410356
def tbB(p:F5):Prop:=p.b5=0∧p.b6=6122955∧p.b7=12245910∧p.b8=15185501∧p.b9=2677479∧p.b10=7714604∧p.b11=9568625∧p.b12=13593786∧p.b13=5354958∧p.sn=841733∧p.zQ=15429208∧p.dA=11928467∧p.ib=7958313∧p.sR=2360034∧p.lH=12825791∧p.mM=10410356
def tbC(p:FZ):Prop:=p.c7=0∧p.c8=6122955∧p.c9=12245910∧p.c10=15185501∧p.c11=2677479∧p.c12=7714604∧p.c13=9568625∧p.c14=13593786∧p.ni=5354958∧p.c16=841733∧p.zT=15429208∧p.Kq=11928467∧p.c19=7958313∧p.c20=2360034∧p.c21=12825791∧p.Rn=10410356
theorem kl{n a w:Nat}{b:List Int}(hok:bC ((n:Int),b)=true)(h:a+w≤n)(hw:w≤64)(hn:n≤4096):aj.k aK (((n:Int),b),(a:Int),(w:Int))=(((bl (unpack n b) a w:Nat):Int),0):=by
 rw[al,aK,zY]
 simp only[hok,Bool.not_true,cond_false]
 rw[show decide ((w:Int)<0)=false from by simp,show decide (64<(w:Int))=false from by simp;omega,show decide ((a:Int)<0)=false from by simp,show decide ((n:Int)<(a:Int)+(w:Int))=false from by simp;omega]
 rfl
theorem Ec{l:List Bool}{a w:Nat}(h:a+w≤l.length):l.take (a+w)=l.take a++bitsOf (bl l a w) w:=by
 rw[yg h,List.take_add]
theorem Lq{n:Nat}(h:n<4294967296):aj.v .u32 (n:Int)=(n:Int):=by rw[bd,Pf (by omega) (by omega)]
theorem Xx{l:List (Int×List Int)}{i n:Nat}{b:List Int}{R:Int×Int}{r0:Nat}(hr0:r0<16777216)(hok:bC ((n:Int),b)=true)(hn:n≤4096)(hll:l.length≤140737488355328)(hi:i<l.length)
  (hnext:∀(p:zx),tbA p→p.a1=l→p.a2=(l.length:Int)→p.a3=((i+1:Nat):Int)→p.a0=((over r0 (unpack n b):Nat):Int)→aA (tZ aj) (.more (.c0 p)) R) :
  ∀(j k:Nat) (p:FZ),tbC p→p.c2=l→p.c3=(l.length:Int)→p.c4=(i:Int)→p.c5=(n:Int)→p.c6=b→n-k=j→k≤n→aA (tZ aj) (.more (.c2 p ((over r0 ((unpack n b).take k):Nat):Int) (k:Int))) R:=by
 intro j
 induction j with
 | zero=>
   intro k p ht h2 h3 h4 h5 h6 hj hk
   have:k=n:=by omega
   subst this
   simp only[ak,tZ]
   refine(ah (by rw[h5,aO];simp)).2 ?_
   rw[List.take_of_length_le (by rw[bg];exact Nat.le_refl _)]
   exact hnext _ ht h2 h3 (by show aj.b .add .i64 p.c4 1=_;rw[h4,cf (by omega)]) rfl
 | succ j ih=>
   intro k p ht h2 h3 h4 h5 h6 hj hk
   simp only[ak,tZ]
   have hg:aj.k aK ((p.c5,p.c6),(k:Int),1)=(((bl (unpack n b) k 1:Nat):Int),0):=by
    rw[h5,h6];exact kl hok (w:=1) (by omega) (by decide) hn
   have hlt:=gP hr0 ((unpack n b).take k)
   have hf:=c_ (unpack n b) k 1
   have hts:=Ec (l:=unpack n b) (a:=k) (w:=1) (by rw[bg];omega)
   obtain⟨x,hx⟩:∃x:Bool,bl (unpack n b) k 1=x.toNat:=by
    by_cases h0:bl (unpack n b) k 1=0
    ·exact⟨false,h0⟩
    ·exact⟨true,by rw[show true.toNat=1 from rfl];omega⟩
   have hbx:bitsOf x.toNat 1=[x]:=by cases x<;>rfl
   rw[hx,hbx] at hts
   have hsh:aj.b .xor .u32 ((over r0 ((unpack n b).take k):Nat):Int) (aj.b .shl .u32 (aj.v .u32 (aj.k aK ((p.c5,p.c6),(k:Int),1)).1) 23)=((over r0 ((unpack n b).take k) ^^^ (x.toNat*8388608):Nat):Int):=by
    rw[hg,hx,Lq (by cases x<;>decide),show aj.b .shl .u32 ((x.toNat:Nat):Int) 23=((x.toNat*2^23:Nat):Int) from Gf (k:=23) (by decide) (by cases x<;>decide)]
    exact EJ (by omega) (by cases x<;>decide)
   have hxl:over r0 ((unpack n b).take k) ^^^ (x.toNat*8388608)<16777216:=Nat.xor_lt_two_pow (n:=24) hlt (by cases x<;>decide)
   have hc:aj.k Bn (aj.b .xor .u32 ((over r0 ((unpack n b).take k):Nat):Int) (aj.b .shl .u32 (aj.v .u32 (aj.k aK ((p.c5,p.c6),(k:Int),1)).1) 23))=((over r0 ((unpack n b).take (k+1)):Nat):Int):=by
    rw[hsh,al,My hxl,Kj hlt,hts,fS,gm,oq]
   refine(ai (by rw[h5,aO];simp;omega)).2 (af.2 ⟨rfl,af.2 ⟨rfl,?_⟩⟩)
   exact bo (congrArg LT.more (congr (congrArg (ID.c2 p) hc) (cf (by omega)))) (ih (k+1) p ht h2 h3 h4 h5 h6 (by omega) (by omega))
theorem Wb{l:List (Int×List Int)}{i n:Nat}{b:List Int}{R:Int×Int}{r0:Nat}(hr0:r0<16777216)(hok:bC ((n:Int),b)=true)(hn:n≤4096)(hll:l.length≤140737488355328)(hi:i<l.length)
  (hnext:∀(p:zx),tbA p→p.a1=l→p.a2=(l.length:Int)→p.a3=((i+1:Nat):Int)→p.a0=((over r0 (unpack n b):Nat):Int)→aA (tZ aj) (.more (.c0 p)) R) :
  ∀(j k:Nat) (p:F5),tbB p→p.b2=l→p.b3=(l.length:Int)→p.b4=(i:Int)→p.kN=(n:Int)→p.kT=b→(n-k)/4=j→k≤n→aA (tZ aj) (.more (.c1 p ((over r0 ((unpack n b).take k):Nat):Int) (k:Int))) R:=by
 intro j
 induction j with
 | zero=>
   intro k p ht h2 h3 h4 h5 h6 hj hk
   simp only[ak,tZ]
   refine(ah (by rw[show aj.b .add .i64 (k:Int) 4=((k+4:Nat):Int) from fC (j:=4) (by omega),h5,kF];simp;omega)).2 ?_
   exact Xx hr0 hok hn hll hi hnext (n-k) k _ ht h2 h3 h4 h5 h6 rfl hk
 | succ j ih=>
   intro k p ht h2 h3 h4 h5 h6 hj hk
   simp only[ak,tZ]
   have hg:aj.k aK ((p.kN,p.kT),(k:Int),4)=(((bl (unpack n b) k 4:Nat):Int),0):=by
    rw[h5,h6];exact kl hok (w:=4) (by omega) (by decide) hn
   have hlt:=gP hr0 ((unpack n b).take k)
   have hf:=c_ (unpack n b) k 4
   have hts:=Ec (l:=unpack n b) (a:=k) (w:=4) (by rw[bg];omega)
   have h4o:=IP hlt (l:=bitsOf (bl (unpack n b) k 4) 4) (aN _ _)
   rw[CS,Nat.mod_eq_of_lt hf,←fS,←hts] at h4o
   generalize hr:over r0 ((unpack n b).take k)=r at *
   generalize hv:bl (unpack n b) k 4=v at *
   have hix:aj.b .xor .u32 (aj.b .shr .u32 (r:Int) 20) (aj.v .u32 (aj.k aK ((p.kN,p.kT),(k:Int),4)).1)=((r/1048576 ^^^ v:Nat):Int):=by
    rw[hg,Lq (by omega),show aj.b .shr .u32 (r:Int) 20=((r/2^20:Nat):Int) from KB (n:=20) (by omega) (by decide)]
    exact EJ (by omega) (by omega)
   have hxl:r/1048576 ^^^ v<16:=IY ⟨r/1048576,by omega⟩ ⟨v,by omega⟩
   have htab:(aj.n (.int .u32) [p.b5,p.b6,p.b7,p.b8,p.b9,p.b10,p.b11,p.b12,p.b13,p.sn,p.zQ,p.dA,p.ib,p.sR,p.lH,p.mM] (((r/1048576 ^^^ v:Nat):Int)):Int)=((Ep.getD (r/1048576 ^^^ v) 0:Nat):Int):=by
    rw[←NE ⟨r/1048576 ^^^ v,hxl⟩]
    obtain⟨t0,t1,t2,t3,t4,t5,t6,t7,t8,t9,t10,t11,t12,t13,t14,t15⟩:=ht
    show List.getD [p.b5,p.b6,p.b7,p.b8,p.b9,p.b10,p.b11,p.b12,p.b13,p.sn,p.zQ,p.dA,p.ib,p.sR,p.lH,p.mM] ((r/1048576 ^^^ v:Nat):Int).toNat 0=_
    rw[Int.toNat_natCast,t0,t1,t2,t3,t4,t5,t6,t7,t8,t9,t10,t11,t12,t13,t14,t15];rfl
   have hc:aj.b .xor .u32 (aj.b .and .u32 (aj.b .shl .u32 (r:Int) 4) 16777215) (aj.n (.int .u32) [p.b5,p.b6,p.b7,p.b8,p.b9,p.b10,p.b11,p.b12,p.b13,p.sn,p.zQ,p.dA,p.ib,p.sR,p.lH,p.mM] (aj.b .xor .u32 (aj.b .shr .u32 (r:Int) 20) (aj.v .u32 (aj.k aK ((p.kN,p.kT),(k:Int),4)).1)):Int)=((over r0 ((unpack n b).take (k+4)):Nat):Int):=by
    rw[hix]
    have e1:aj.b .and .u32 (aj.b .shl .u32 (r:Int) 4) 16777215=((16*r%16777216:Nat):Int):=by
     rw[show aj.b .shl .u32 (r:Int) 4=((r*2^4:Nat):Int) from Gf (k:=4) (by decide) (by omega),RY (by omega),Nat.mul_comm]
    refine(FM (aj.b .xor .u32) e1 htab).trans ?_
    rw[h4o]
    exact EJ (by omega) (by have:=LU ⟨_,hxl⟩;simp only at this;omega)
   refine(ai (by rw[show aj.b .add .i64 (k:Int) 4=((k+4:Nat):Int) from fC (j:=4) (by omega),h5,kF];simp;omega)).2 (af.2 ⟨rfl,af.2 ⟨?_,?_⟩⟩)
   ·rw[hix,ij,aQ,ar];simp;omega
   ·have:=ih (k+4) p ht h2 h3 h4 h5 h6 (by omega) (by omega)
    exact bo (congrArg LT.more (congr (congrArg (ID.c1 p) hc) (show aj.b .add .i64 (k:Int) 4=((k+4:Nat):Int) from fC (j:=4) (by omega)))) this
theorem WK{l:List (Int×List Int)}(hll:l.length≤140737488355328)(hby:∀x∈l,bX x.2∧x.2.length≤140737488355328):∀(j i:Nat) (p:zx),tbA p→p.a1=l→p.a2=(l.length:Int)→p.a3=(i:Int)→p.a0=((over 0 ((l.take i).flatMap bw):Nat):Int)→l.length-i=j→i≤l.length→(∀x∈l.take i,bC x=true)→aA (tZ aj) (.more (.c0 p)) (tK l):=by
 intro j
 induction j with
 | zero=>
   intro i p ht h1 h2 h3 h0 hj hi hok
   have:i=l.length:=by omega
   subst this
   rw[List.take_length] at hok h0
   simp only[ak,tZ]
   refine(ah (by rw[h2,h3,aO];simp)).2 ?_
   rw[tK,List.all_eq_true.2 hok,h0]
   exact .ret _
 | succ j ih=>
   intro i p ht h1 h2 h3 h0 hj hi hok
   have hi':i<l.length:=by omega
   have hmem:=List.getElem_mem hi'
   simp only[ak,tZ]
   rw[h3]
   refine(ai (by rw[h2,aO];simp;omega)).2 (af.2 ⟨by rw[h1];exact aP hi',af.2 ⟨rfl,?_⟩⟩)
   obtain⟨n0,b,hx⟩:∃n0 b,l[i]=(n0,b):=⟨_,_,rfl⟩
   have hby':=hby _ hmem
   rw[hx] at hby'
   have hn1:(aj.n (.struct [(.int .i64),(.slice (.int .u8))]) p.a1 (i:Int):Int×List Int)=(n0,b):=by rw[h1,oS hi',hx]
   rw[hn1]
   have hc:aj.k kD (n0,b)=bif bC (n0,b) then 0 else 10:=lT hby'.1 hby'.2
   rw[hc]
   cases hb:bC (n0,b)
   ·refine(ai rfl).2 ?_
    rw[tK,show l.all bC=false from List.all_eq_false.2 ⟨l[i],hmem,by rw[hx,hb];decide⟩]
    exact .ret _
   ·refine(ah rfl).2 ?_
    obtain⟨h4,h5,h6⟩:=(fh hby'.1).1 hb
    obtain⟨n,rfl⟩:=Int.eq_ofNat_of_zero_le h4
    have hlt:=gP (r:=0) (by decide) ((l.take i).flatMap bw)
    have hm:=Wb hlt hb (by omega) hll hi' (R:=tK l) (fun p' g1 g2 g3 g4 g5=>ih (i+1) p' g1 g2 g3 g4 (by rw[g5,BM hi',fS,hx];rfl) (by omega) (by omega) (by
     intro x hx2
     rw[List.take_succ_eq_append_getElem hi'] at hx2
     rcases List.mem_append.1 hx2 with h7|h7
     ·exact hok x h7
     ·rw[List.mem_singleton.1 h7,hx];exact hb)) (n/4) 0 ⟨p.a1,p.a2,(i:Int),p.a4,p.a5,p.a6,p.a7,p.a8,p.a9,p.bV,p.dT,p.a12,p.lk,p.ku,p.qs,p.a16,p.a17,p.qU,p.mq,(n:Int),b⟩ ht h1 h2 rfl rfl rfl (by omega) (by omega)
    rw[List.take_zero,oq,←h0] at hm
    exact hm
theorem aiN{l:List (Int×List Int)}(h:Ty.cB [(.slice (.struct [(.int .i64),(.slice (.int .u8))]))] l):aA (tZ aj) (Vs aj l) (tK l):=by
 unfold Vs
 refine af.2 ⟨rfl,?_⟩
 exact WK (ru h).1 (ru h).2 l.length 0 _ ⟨rfl,rfl,rfl,rfl,rfl,rfl,rfl,rfl,rfl,rfl,rfl,rfl,rfl,rfl,rfl,rfl⟩ rfl rfl rfl rfl (by omega) (by omega) (by intro x hx;cases hx)
def vO:(List (Int×List Int))→(Int×Int):=tK
def adX:aB:=⟨[(.slice (.struct [yI,yB]))], [(.int .u32),yI],(@tt (List (Int×List Int))),vO⟩
theorem ab8:Sd 260 adX:=aL ax bK true 30 [⟨260,4, [[4,5,10,11,12]]⟩,⟨266,2, [[0,2,4,7], [4,10,11,12]]⟩,⟨266,6, [[0,4,7], [4,10,11,12]]⟩] [] (fun A l=>Vs A l) tZ W1 (fc Tryz.func260 (fc Tryz.func266 fz)) (sc FJ (sc GY (sc adE (sc Sl sz)))) (fun A y=>match y with |.c0 p=>⟨52,by kernel_rfl,by kernel_rfl⟩|.c1 p b0 b1=>⟨52,by kernel_rfl,by kernel_rfl⟩|.c2 p c0 c1=>⟨44,by kernel_rfl,by kernel_rfl⟩) fun l hp h=>aiN h
open Go.Ev.Pl
def t139(A:a_)(bN:Int)(bB:List Int)(unsentN:Int)(unsentB:List Int):LT ((Int×List Int)×Int) Empty:=.need (A.k (@tt ((Int×List Int))) (bN,bB)) (.br (A.c .neq (A.k kD (bN,bB)) 0) (.ret ((0,([]:List Int)),10)) (.need (A.k (@tt ((Int×List Int))) (unsentN,unsentB)) (.br (A.c .neq (A.k kD (unsentN,unsentB)) 0) (.ret ((0,([]:List Int)),10)) (.br (A.c .lss bN 24) (.ret ((0,([]:List Int)),20)) (.need (A.k (@tt ((Int×List Int)×Int×Int)) ((bN,bB),0,(A.b .sub .i64 bN 24))) (.need (A.k (@tt ((Int×List Int)×Int×Int)) ((bN,bB),(A.k cO ((bN,bB),0,(A.b .sub .i64 bN 24))).1.1,24)) (.need (A.k (@tt (List (Int×List Int))) [(unsentN,unsentB),(A.k cO ((bN,bB),0,(A.b .sub .i64 bN 24))).1]) (.br (A.c .neq (A.k vO [(unsentN,unsentB),(A.k cO ((bN,bB),0,(A.b .sub .i64 bN 24))).1]).2 0) (.ret ((0,([]:List Int)),(A.k vO [(unsentN,unsentB),(A.k cO ((bN,bB),0,(A.b .sub .i64 bN 24))).1]).2)) (.br (A.c .neq (A.v .u64 (A.k vO [(unsentN,unsentB),(A.k cO ((bN,bB),0,(A.b .sub .i64 bN 24))).1]).1) (A.k aK ((bN,bB),(A.k cO ((bN,bB),0,(A.b .sub .i64 bN 24))).1.1,24)).1) (.ret ((0,([]:List Int)),21)) (.ret ((A.k cO ((bN,bB),0,(A.b .sub .i64 bN 24))).1,0)))))))))))
theorem P0{n m:Int}{b u:List Int}(h:Ty.cB [(.struct [(.int .i64),(.slice (.int .u8))]),(.struct [(.int .i64),(.slice (.int .u8))])] ((n,b),(m,u))):aA Empty.elim (t139 aj n b m u) (dd ((n,b),(m,u))):=by
 have h1:Ty.has (.struct [(.int .i64),(.slice (.int .u8))]) (n,b):=h.1
 have h2:Ty.has (.struct [(.int .i64),(.slice (.int .u8))]) (m,u):=h.2
 have hb:=(dF h1).2.2
 have hl:=du h1
 have hbu:=(dF h2).2.2
 have hlu:=du h2
 unfold t139
 rw[dd]
 have hc1:aj.c .neq (aj.k kD (n,b)) 0=!bC (n,b):=by rw[al,lT hb hl];cases bC (n,b)<;>rfl
 have hc2:aj.c .neq (aj.k kD (m,u)) 0=!bC (m,u):=by rw[al,lT hbu hlu];cases bC (m,u)<;>rfl
 refine af.2 ⟨rfl,?_⟩
 rw[hc1]
 cases ho1:bC (n,b)
 ·exact(ai rfl).2 (.ret _)
 refine(ah rfl).2 (af.2 ⟨rfl,?_⟩)
 rw[hc2]
 cases ho2:bC (m,u)
 ·exact(ai rfl).2 (.ret _)
 refine(ah rfl).2 ?_
 obtain⟨h3,h4,h5⟩:=(fh hb).1 ho1
 obtain⟨k,rfl⟩:=Int.eq_ofNat_of_zero_le h3
 by_cases h6:(k:Int)<24
 ·refine(ai (by rw[ar];simp;omega)).2 ?_
  show aA _ _ (bif decide ((k:Int)<24) then(zB,20) else _)
  rw[show decide ((k:Int)<24)=true from by simpa using h6]
  exact .ret _
 refine(ah (by rw[ar];simp;omega)).2 ?_
 show aA _ _ (bif decide ((k:Int)<24) then(zB,20) else _)
 rw[show decide ((k:Int)<24)=false from by simpa using h6,cond_false]
 have hkl:(bw ((k:Int),b)).length=k:=by rw[dO];rfl
 have hsub:aj.b .sub .i64 (k:Int) 24=((k-24:Nat):Int):=l6 (j:=24) (by omega) (by omega)
 have hfl:((bw ((k:Int),b)).take (k-24)).length=k-24:=by rw[List.length_take,hkl];omega
 have hslice:aj.k cO (((k:Int),b),0,aj.b .sub .i64 (k:Int) 24)=(bJ ((bw ((k:Int),b)).take (k-24)),0):=by
  rw[hsub,al,cO,cd]
  simp only[ho1,Bool.not_true,cond_false]
  rw[show decide (((k-24:Nat):Int)<0)=false from by simp,show decide ((k:Int)<((k-24:Nat):Int))=false from by simp<;>omega]
  rfl
 have hP1:(bJ ((bw ((k:Int),b)).take (k-24))).1=((k-24:Nat):Int):=by show(((bw ((k:Int),b)).take (k-24)).length:Int)=_;rw[hfl]
 have hget:aj.k aK (((k:Int),b),((k-24:Nat):Int),24)=(((bl (bw ((k:Int),b)) (k-24) 24:Nat):Int),0):=by
  rw[al,aK,zY]
  simp only[ho1,Bool.not_true,cond_false]
  rw[show decide (((k-24:Nat):Int)<0)=false from by simp,show decide ((k:Int)<((k-24:Nat):Int)+24)=false from by simp<;>omega]
  rfl
 have hsum:aj.k vO [(m,u),bJ ((bw ((k:Int),b)).take (k-24))]=(((over (over 0 (bw (m,u))) ((bw ((k:Int),b)).take (k-24)):Nat):Int),0):=by
  rw[al,vO,tK]
  show(bif (bC (m,u)&&(bC (bJ ((bw ((k:Int),b)).take (k-24)))&&true)) then(((over 0 (bw (m,u)++(bw (bJ ((bw ((k:Int),b)).take (k-24))) ++ [])):Nat):Int),(0:Int)) else(0,10))=_
  rw[ho2,fE (by rw[hfl];omega),eF,List.append_nil,fS]
  rfl
 have hu:=gP (r:=0) (by decide) (bw (m,u))
 have hlt:=gP hu ((bw ((k:Int),b)).take (k-24))
 have hfd:=c_ (bw ((k:Int),b)) (k-24) 24
 have hsplit:bw ((k:Int),b)=(bw ((k:Int),b)).take (k-24)++(bw ((k:Int),b)).drop (k-24):=(List.take_append_drop _ _).symm
 have hd:((bw ((k:Int),b)).drop (k-24)).length=24:=by rw[List.length_drop,hkl];omega
 have hfe:bl (bw ((k:Int),b)) (k-24) 24=ei ((bw ((k:Int),b)).drop (k-24)):=by rw[bl,List.take_of_length_le (by omega)]
 have hz:(over (over 0 (bw (m,u))) (bw ((k:Int),b)) != 0)=(((over (over 0 (bw (m,u))) ((bw ((k:Int),b)).take (k-24)):Nat):Int) != ((bl (bw ((k:Int),b)) (k-24) 24:Nat):Int)):=by
  have:=zm (l:=(bw ((k:Int),b)).take (k-24)) hu hd
  rw[←hsplit,←hfe] at this
  rw[Bool.eq_iff_iff,bne_iff_ne,bne_iff_ne,ne_eq,ne_eq,this]
  omega
 have e1:(aj.k cO (((k:Int),b),0,aj.b .sub .i64 (k:Int) 24)).1.1=((k-24:Nat):Int):=by rw[hslice];exact hP1
 have e2:(aj.k vO [(m,u),(aj.k cO (((k:Int),b),0,aj.b .sub .i64 (k:Int) 24)).1])=(((over (over 0 (bw (m,u))) ((bw ((k:Int),b)).take (k-24)):Nat):Int),0):=by rw[hslice];exact hsum
 have e3:(aj.k aK (((k:Int),b),(aj.k cO (((k:Int),b),0,aj.b .sub .i64 (k:Int) 24)).1.1,24)).1=((bl (bw ((k:Int),b)) (k-24) 24:Nat):Int):=by rw[e1,hget]
 refine af.2 ⟨rfl,af.2 ⟨rfl,af.2 ⟨rfl,?_⟩⟩⟩
 refine(ah (b_ (congrArg Prod.snd e2))).2 ?_
 rw[hz,hkl]
 have hcmp:aj.c .neq (aj.v .u64 (aj.k vO [(m,u),(aj.k cO (((k:Int),b),0,aj.b .sub .i64 (k:Int) 24)).1]).1) (aj.k aK (((k:Int),b),(aj.k cO (((k:Int),b),0,aj.b .sub .i64 (k:Int) 24)).1.1,24)).1=(((over (over 0 (bw (m,u))) ((bw ((k:Int),b)).take (k-24)):Nat):Int) != ((bl (bw ((k:Int),b)) (k-24) 24:Nat):Int)):=by
  rw[e3,e2,dS (by omega),aH]
 cases hx:(((over (over 0 (bw (m,u))) ((bw ((k:Int),b)).take (k-24)):Nat):Int) != ((bl (bw ((k:Int),b)) (k-24) 24:Nat):Int))
 ·refine(ah (hcmp.trans hx)).2 ?_
  exact bo (congrArg LT.ret (show((aj.k cO (((k:Int),b),0,aj.b .sub .i64 (k:Int) 24)).1,0)=(bJ ((bw ((k:Int),b)).take (k-24)),0) by rw[hslice])) (.ret _)
 ·exact(ai (hcmp.trans hx)).2 (.ret _)
def dM:((Int×List Int)×(Int×List Int))→((Int×List Int)×Int):=dd
def afl:aB:=⟨[(.struct [yI,yB]),(.struct [yI,yB])], [(.struct [yI,yB]),yI],(@tt ((Int×List Int)×(Int×List Int))),dM⟩
theorem Zl:Sd 250 afl:=aF ax bK true 100 [] (fun A ((bN,bB),unsentN,unsentB)=>t139 A bN bB unsentN unsentB) (fc Tryz.func250 fz) (sc FJ (sc GY (sc Ry (sc ab8 sz)))) fun((bN,bB),unsentN,unsentB) hp h=>P0 h
def t109(A:a_)(bN:Int)(bB:List Int)(unsentN:Int)(unsentB:List Int):LT ((Int×List Int)×Int) Empty:=.need (A.k (@tt ((Int×List Int))) (bN,bB)) (.br (A.c .neq (A.k e_ (bN,bB)) 0) (.ret ((0,([]:List Int)),10)) (.need (A.k (@tt ((Int×List Int))) (unsentN,unsentB)) (.br (A.c .neq (A.k e_ (unsentN,unsentB)) 0) (.ret ((0,([]:List Int)),10)) (.br (A.c .lss bN 24) (.ret ((0,([]:List Int)),20)) (.need (A.k (@tt ((Int×List Int)×Int×Int)) ((bN,bB),0,(A.b .sub .i64 bN 24))) (.need (A.k (@tt (List (Int×List Int))) [(unsentN,unsentB),(A.k bM ((bN,bB),0,(A.b .sub .i64 bN 24))).1]) (.need (A.k (@tt ((Int×List Int)×Int×Int)) ((bN,bB),(A.b .sub .i64 bN 24),24)) (.br (A.c .neq (A.k qo ((bN,bB),(A.b .sub .i64 bN 24),24)).1 (A.v .u64 (A.k j5 [(unsentN,unsentB),(A.k bM ((bN,bB),0,(A.b .sub .i64 bN 24))).1]).1)) (.ret ((0,([]:List Int)),21)) (.ret ((A.k bM ((bN,bB),0,(A.b .sub .i64 bN 24))).1,0))))))))))
theorem OO{n m:Int}{b u:List Int}(h:Ty.cB [(.struct [(.int .i64),(.slice (.int .u8))]),(.struct [(.int .i64),(.slice (.int .u8))])] ((n,b),(m,u))):aA Empty.elim (t109 aj n b m u) (dd ((n,b),(m,u))):=by
 have h1:Ty.has (.struct [(.int .i64),(.slice (.int .u8))]) (n,b):=h.1
 have h2:Ty.has (.struct [(.int .i64),(.slice (.int .u8))]) (m,u):=h.2
 have hb:=(dF h1).2.2
 have hl:=du h1
 have hbu:=(dF h2).2.2
 have hlu:=du h2
 unfold t109
 rw[dd]
 have hc1:aj.c .neq (aj.k e_ (n,b)) 0=!bC (n,b):=by rw[al,e_];cases bC (n,b)<;>rfl
 have hc2:aj.c .neq (aj.k e_ (m,u)) 0=!bC (m,u):=by rw[al,e_];cases bC (m,u)<;>rfl
 refine af.2 ⟨rfl,?_⟩
 rw[hc1]
 cases ho1:bC (n,b)
 ·exact(ai rfl).2 (.ret _)
 refine(ah rfl).2 (af.2 ⟨rfl,?_⟩)
 rw[hc2]
 cases ho2:bC (m,u)
 ·exact(ai rfl).2 (.ret _)
 refine(ah rfl).2 ?_
 obtain⟨h3,h4,h5⟩:=(fh hb).1 ho1
 obtain⟨k,rfl⟩:=Int.eq_ofNat_of_zero_le h3
 by_cases h6:(k:Int)<24
 ·refine(ai (by rw[ar];simp;omega)).2 ?_
  show aA _ _ (bif decide ((k:Int)<24) then(zB,20) else _)
  rw[show decide ((k:Int)<24)=true from by simpa using h6]
  exact .ret _
 refine(ah (by rw[ar];simp;omega)).2 ?_
 show aA _ _ (bif decide ((k:Int)<24) then(zB,20) else _)
 rw[show decide ((k:Int)<24)=false from by simpa using h6,cond_false]
 have hkl:(bw ((k:Int),b)).length=k:=by rw[dO];rfl
 have hsub:aj.b .sub .i64 (k:Int) 24=((k-24:Nat):Int):=l6 (j:=24) (by omega) (by omega)
 have hfl:((bw ((k:Int),b)).take (k-24)).length=k-24:=by rw[List.length_take,hkl];omega
 have hslice:aj.k bM (((k:Int),b),0,aj.b .sub .i64 (k:Int) 24)=(bJ ((bw ((k:Int),b)).take (k-24)),0):=by
  rw[hsub,al,bM,cd]
  simp only[ho1,Bool.not_true,cond_false]
  rw[show decide (((k-24:Nat):Int)<0)=false from by simp,show decide ((k:Int)<((k-24:Nat):Int))=false from by simp<;>omega]
  rfl
 have hP1:(bJ ((bw ((k:Int),b)).take (k-24))).1=((k-24:Nat):Int):=by show(((bw ((k:Int),b)).take (k-24)).length:Int)=_;rw[hfl]
 have hget:aj.k qo (((k:Int),b),((k-24:Nat):Int),24)=(((bl (bw ((k:Int),b)) (k-24) 24:Nat):Int),0):=by
  rw[al,qo,zY]
  simp only[ho1,Bool.not_true,cond_false]
  rw[show decide (((k-24:Nat):Int)<0)=false from by simp,show decide ((k:Int)<((k-24:Nat):Int)+24)=false from by simp<;>omega]
  rfl
 have hsum:aj.k j5 [(m,u),bJ ((bw ((k:Int),b)).take (k-24))]=(((over (over 0 (bw (m,u))) ((bw ((k:Int),b)).take (k-24)):Nat):Int),0):=by
  rw[al,j5,tK]
  show(bif (bC (m,u)&&(bC (bJ ((bw ((k:Int),b)).take (k-24)))&&true)) then(((over 0 (bw (m,u)++(bw (bJ ((bw ((k:Int),b)).take (k-24))) ++ [])):Nat):Int),(0:Int)) else(0,10))=_
  rw[ho2,fE (by rw[hfl];omega),eF,List.append_nil,fS]
  rfl
 have hu:=gP (r:=0) (by decide) (bw (m,u))
 have hlt:=gP hu ((bw ((k:Int),b)).take (k-24))
 have hfd:=c_ (bw ((k:Int),b)) (k-24) 24
 have hsplit:bw ((k:Int),b)=(bw ((k:Int),b)).take (k-24)++(bw ((k:Int),b)).drop (k-24):=(List.take_append_drop _ _).symm
 have hd:((bw ((k:Int),b)).drop (k-24)).length=24:=by rw[List.length_drop,hkl];omega
 have hfe:bl (bw ((k:Int),b)) (k-24) 24=ei ((bw ((k:Int),b)).drop (k-24)):=by rw[bl,List.take_of_length_le (by omega)]
 have hz:(over (over 0 (bw (m,u))) (bw ((k:Int),b)) != 0)=(((over (over 0 (bw (m,u))) ((bw ((k:Int),b)).take (k-24)):Nat):Int) != ((bl (bw ((k:Int),b)) (k-24) 24:Nat):Int)):=by
  have:=zm (l:=(bw ((k:Int),b)).take (k-24)) hu hd
  rw[←hsplit,←hfe] at this
  rw[Bool.eq_iff_iff,bne_iff_ne,bne_iff_ne,ne_eq,ne_eq,this]
  omega
 have e2:(aj.k j5 [(m,u),(aj.k bM (((k:Int),b),0,aj.b .sub .i64 (k:Int) 24)).1])=(((over (over 0 (bw (m,u))) ((bw ((k:Int),b)).take (k-24)):Nat):Int),0):=by rw[hslice];exact hsum
 have e3:(aj.k qo (((k:Int),b),aj.b .sub .i64 (k:Int) 24,24)).1=((bl (bw ((k:Int),b)) (k-24) 24:Nat):Int):=by rw[hsub,hget]
 refine af.2 ⟨rfl,af.2 ⟨rfl,af.2 ⟨rfl,?_⟩⟩⟩
 rw[hz,hkl]
 have hcmp:aj.c .neq (aj.k qo (((k:Int),b),aj.b .sub .i64 (k:Int) 24,24)).1 (aj.v .u64 (aj.k j5 [(m,u),(aj.k bM (((k:Int),b),0,aj.b .sub .i64 (k:Int) 24)).1]).1)=(((over (over 0 (bw (m,u))) ((bw ((k:Int),b)).take (k-24)):Nat):Int) != ((bl (bw ((k:Int),b)) (k-24) 24:Nat):Int)):=by
  rw[e3,e2,dS (by omega),aH,bne_comm]
 cases hx:(((over (over 0 (bw (m,u))) ((bw ((k:Int),b)).take (k-24)):Nat):Int) != ((bl (bw ((k:Int),b)) (k-24) 24:Nat):Int))
 ·refine(ah (hcmp.trans hx)).2 ?_
  exact bo (congrArg LT.ret (show((aj.k bM (((k:Int),b),0,aj.b .sub .i64 (k:Int) 24)).1,0)=(bJ ((bw ((k:Int),b)).take (k-24)),0) by rw[hslice])) (.ret _)
 ·exact(ai (hcmp.trans hx)).2 (.ret _)
def bL:((Int×List Int)×(Int×List Int))→((Int×List Int)×Int):=dd
def aau:aB:=⟨[(.struct [yI,yB]),(.struct [yI,yB])], [(.struct [yI,yB]),yI],(@tt ((Int×List Int)×(Int×List Int))),bL⟩
theorem Nq:Sd 243 aau:=aF ax bK true 91 [] (fun A ((bN,bB),unsentN,unsentB)=>t109 A bN bB unsentN unsentB) (fc Tryz.func243 fz) (sc Ce (sc RA (sc K_ (sc Rt sz)))) fun((bN,bB),unsentN,unsentB) hp h=>OO h
open Go.Ev.Pl
def Xb(A:a_)(cTime:Int)(cPos:Int)(cMode:Int)(cNext:Int)(cMember:Int):LT (List Int) Empty:=.ret [cTime,cPos,cMode,cNext,cMember]
def BG:((Int×Int×Int×Int×Int))→(List Int):=fun(cTime,cPos,cMode,cNext,cMember)=>(Xb aj cTime cPos cMode cNext cMember).val (Ty.bE [(.arr 5 yI)])
def Ym:aB:=⟨[(.struct [yI,yI,yI,yI,yI])], [(.arr 5 yI)],(@tt ((Int×Int×Int×Int×Int))),BG⟩
theorem abf:Sd 202 Ym:=aJ ax bK true 26 [] (fun A (cTime,cPos,cMode,cNext,cMember)=>Xb A cTime cPos cMode cNext cMember) (fc Tryz.func202 fz) sz (fun((cTime,cPos,cMode,cNext,cMember):(Int×Int×Int×Int×Int)) hp h=>by
 show(Xb aj cTime cPos cMode cNext cMember).pre=true
 rfl)
structure Sg where
 (a0 a1 a2 a3 a4 a6 a7 a8 a9 bV:Int)
inductive Y87 where
 | c0 (p:Sg) (a5:Int)
noncomputable def aas:Y87→fL
 | .c0 p a5=>⟨[⟨151,36,(en [(5,.ptr 0 0),(21,.agg [vi p.a0,vi p.a1,vi p.a2,vi p.a3,vi p.a4]),(22,vi a5)]),[.inLoop (cw Tryz.f151 [1,1,1,0,1,0,0]),.inBlock 0,.code (cw Tryz.f151 [1,1,1,1])],[],none⟩],[.flat false [vi p.a6,vi p.a7,vi p.a8,vi p.a9,vi p.bV],.dead]⟩
def t87(A:a_)(cTime:Int)(cPos:Int)(cMode:Int)(cNext:Int)(cMember:Int)(n:Int):LT Int Y87:=.br (A.c .lss n 4) (.ret 2) (.br (A.c .gtr n 8) (.ret 2) (.need (A.c .leq 0 n) (.need (A.k (@tt ((Int×Int×Int×Int×Int))) (cTime,cPos,cMode,cNext,cMember)) (.more (.c0 ⟨(A.n yI (A.k BG (cTime,cPos,cMode,cNext,cMember)) 0:Int),(A.n yI (A.k BG (cTime,cPos,cMode,cNext,cMember)) 1:Int),(A.n yI (A.k BG (cTime,cPos,cMode,cNext,cMember)) 2:Int),(A.n yI (A.k BG (cTime,cPos,cMode,cNext,cMember)) 3:Int),(A.n yI (A.k BG (cTime,cPos,cMode,cNext,cMember)) 4:Int),255,(A.b .sub .i64 n 1),3,4,(A.b .sub .i64 (A.b .shl .i64 1 n) 1)⟩ 0)))))
def XC(A:a_):Y87→LT Int Y87
 | .c0 p a5=>.br (A.c .lss a5 5) (.need (A.and (A.c .leq 0 a5) (A.c .lss a5 5)) (.br (A.c .lss (A.n yI [p.a0,p.a1,p.a2,p.a3,p.a4] a5:Int) 0) (.ret 40) (.need (A.and (A.c .leq 0 a5) (A.c .lss a5 5)) (.br (A.c .gtr (A.n yI [p.a0,p.a1,p.a2,p.a3,p.a4] a5:Int) (A.n yI [p.a6,p.a7,p.a8,p.a9,p.bV] a5:Int)) (.ret 40) (.more (.c0 p (A.b .add .i64 a5 1))))))) (.ret 0)
theorem RL{k:Nat}(hk:k≤60):aj.b .shl .i64 1 (k:Int)=((2^k:Nat):Int):=by
 show IntKind.i64.wrap ((1:Int)*2^min (k:Int).toNat 64)=_
 have:2^k≤2^60:=Nat.pow_le_pow_right (by decide) hk
 have e:(2:Int)^k=((2^k:Nat):Int):=by simp
 rw[Int.toNat_natCast,Nat.min_eq_left (by omega),Int.one_mul,e]
 generalize 2^k=q at this
 rw[fV (by omega) (by omega)]
theorem afI{u v x:Int}(h:u=v):aj.c .lss u x=decide (v<x):=by rw[h];rfl
theorem afE{u u' v v':Int}(h1:u=u')(h2:v=v'):aj.c .gtr u v=decide (v'<u'):=by rw[h1,h2];rfl
theorem ot{p:Sg}{i v m r:Int}(h0:0≤i)(h5:i<5)(hv:(aj.n (.int .i64) [p.a0,p.a1,p.a2,p.a3,p.a4] i:Int)=v)(hm:(aj.n (.int .i64) [p.a6,p.a7,p.a8,p.a9,p.bV] i:Int)=m)
  (h1:(decide (0≤v)&&decide (v≤m))=true→aA (XC aj) (.more (.c0 p (i+1))) r) (h2:(decide (0≤v)&&decide (v≤m))=false→r=40):aA (XC aj) (.more (.c0 p i)) r:=by
 rw[ak,XC]
 have hn:aj.and (aj.c .leq 0 i) (aj.c .lss i 5)=true:=by rw[aQ,ay,ar];simp;omega
 refine(ai (by rw[ar];simpa using h5)).2 (af.2 ⟨hn,?_⟩)
 by_cases h3:v<0
 ·refine(ai ((afI hv).trans (by simpa using h3))).2 ?_
  rw[h2 (by rw[show decide (0≤v)=false from by simp;omega];rfl)]
  exact .ret _
 ·refine(ah ((afI hv).trans (by simpa using h3))).2 (af.2 ⟨hn,?_⟩)
  by_cases h4:m<v
  ·refine(ai ((afE hv hm).trans (by simpa using h4))).2 ?_
   rw[h2 (by rw[show decide (v≤m)=false from by simp;omega,Bool.and_false])]
   exact .ret _
  ·refine(ah ((afE hv hm).trans (by simpa using h4))).2 ?_
   rw[bf,fV (by omega) (by omega)]
   exact h1 (by simp;omega)
theorem aii{t po m n s k:Int}:aA (XC aj) (t87 aj t po m n s k) (g_ ((t,po,m,n,s),k)):=by
 unfold t87
 rw[g_]
 by_cases h1:k<4
 ·refine(ai (by rw[ar];simpa using h1)).2 ?_
  rw[show decide (k<4)=true from by simpa using h1]
  exact .ret _
 refine(ah (by rw[ar];simpa using h1)).2 ?_
 by_cases h2:8<k
 ·refine(ai (by rw[aG];simpa using h2)).2 ?_
  rw[show decide (8<k)=true from by simpa using h2,Bool.or_true]
  exact .ret _
 refine(ah (by rw[aG];simpa using h2)).2 (af.2 ⟨by rw[ay];simp;omega,af.2 ⟨rfl,?_⟩⟩)
 rw[show decide (k<4)=false from by simpa using h1,show decide (8<k)=false from by simpa using h2,Bool.or_false,cond_false]
 have hk1:aj.b .sub .i64 k 1=k-1:=by rw[aX,fV (by omega) (by omega)]
 have hk2:aj.b .sub .i64 (aj.b .shl .i64 1 k) 1=2^k.toNat-1:=by
  obtain⟨j,rfl⟩:=Int.eq_ofNat_of_zero_le (show 0≤k by omega)
  have hq:2^j≤2^60:=Nat.pow_le_pow_right (by decide) (by omega)
  have hq0:=Nat.two_pow_pos j
  have e:(2:Int)^j=((2^j:Nat):Int):=by simp
  rw[RL (by omega),Int.toNat_natCast,e]
  generalize 2^j=q at hq hq0
  rw[aX,fV (by omega) (by omega)]
 rw[hk1,hk2]
 refine ot (v:=t) (m:=255) (by decide) (by decide) rfl rfl (fun g=>?_) (fun g=>by rw[g];rfl)
 rw[g,Bool.true_and]
 refine ot (i:=1) (v:=po) (m:=k-1) (by decide) (by decide) rfl rfl (fun g=>?_) (fun g=>by rw[g];rfl)
 rw[g,Bool.true_and]
 refine ot (i:=2) (v:=m) (m:=3) (by decide) (by decide) rfl rfl (fun g=>?_) (fun g=>by rw[g];rfl)
 rw[g,Bool.true_and]
 refine ot (i:=3) (v:=n) (m:=4) (by decide) (by decide) rfl rfl (fun g=>?_) (fun g=>by rw[g];rfl)
 rw[g,Bool.true_and]
 refine ot (i:=4) (v:=s) (m:=2^k.toNat-1) (by decide) (by decide) rfl rfl (fun g=>?_) (fun g=>by rw[g];rfl)
 rw[g,ak,XC]
 exact(ah rfl).2 (.ret _)
def jZ:((Int×Int×Int×Int×Int)×Int)→Int:=g_
def ai2:aB:=⟨[(.struct [yI,yI,yI,yI,yI]),yI], [yI],(@tt ((Int×Int×Int×Int×Int)×Int)),jZ⟩
theorem yZ:Sd 151 ai2:=aL ax bK true 43 [⟨151,5, [[5,21,22]]⟩] [] (fun A ((cTime,cPos,cMode,cNext,cMember),n)=>t87 A cTime cPos cMode cNext cMember n) XC aas (fc Tryz.func151 fz) (sc abf sz) (fun A y=>match y with |.c0 p a5=>⟨41,by kernel_rfl,by kernel_rfl⟩) fun((cTime,cPos,cMode,cNext,cMember),n) hp h=>aii
def t42(A:a_)(cTime:Int)(cPos:Int)(cMode:Int)(cNext:Int)(cMember:Int)(n:Int):LT Int Empty:=.br (A.c .lss n 4) (.ret 2) (.br (A.c .gtr n 8) (.ret 2) (.br (A.c .lss cTime 0) (.ret 40) (.br (A.c .gtr cTime 255) (.ret 40) (.br (A.c .lss cPos 0) (.ret 40) (.br (A.c .geq cPos n) (.ret 40) (.br (A.c .lss cMode 0) (.ret 40) (.br (A.c .geq cMode 4) (.ret 40) (.br (A.c .lss cNext 0) (.ret 40) (.br (A.c .gtr cNext 4) (.ret 40) (.br (A.c .lss cMember 0) (.ret 40) (.need (A.c .leq 0 (A.v .u64 n)) (.br (A.c .geq cMember (A.b .shl .i64 1 (A.v .u64 n))) (.ret 40) (.ret 0)))))))))))))
theorem ahI{t po m n s k:Int}:aA Empty.elim (t42 aj t po m n s k) (g_ ((t,po,m,n,s),k)):=by
 unfold t42
 rw[g_]
 by_cases h1:k<4
 ·refine(ai (by rw[ar];simpa using h1)).2 ?_
  rw[show decide (k<4)=true from by simpa using h1]
  exact .ret _
 refine(ah (by rw[ar];simpa using h1)).2 ?_
 by_cases h2:8<k
 ·refine(ai (by rw[aG];simpa using h2)).2 ?_
  rw[show decide (8<k)=true from by simpa using h2,Bool.or_true]
  exact .ret _
 refine(ah (by rw[aG];simpa using h2)).2 ?_
 rw[show decide (k<4)=false from by simpa using h1,show decide (8<k)=false from by simpa using h2,Bool.or_false,cond_false]
 obtain⟨j,rfl⟩:=Int.eq_ofNat_of_zero_le (show 0≤k by omega)
 have e:(2:Int)^j=((2^j:Nat):Int):=by simp
 rw[dS (by omega),RL (by omega),Int.toNat_natCast,e]
 have hx:∀{x:Bool},x=false→(40:Int)=bif x then 0 else 40:=fun h=>by rw[h];rfl
 by_cases g1:t<0
 ·refine(ai (by rw[ar];simpa using g1)).2 (ft.2 (hx (by simp;omega)))
 refine(ah (by rw[ar];simpa using g1)).2 ?_
 by_cases g2:255<t
 ·refine(ai (by rw[aG];simpa using g2)).2 (ft.2 (hx (by simp;omega)))
 refine(ah (by rw[aG];simpa using g2)).2 ?_
 by_cases g3:po<0
 ·refine(ai (by rw[ar];simpa using g3)).2 (ft.2 (hx (by simp;omega)))
 refine(ah (by rw[ar];simpa using g3)).2 ?_
 by_cases g4:(j:Int)≤po
 ·refine(ai (by rw[aM];simpa using g4)).2 (ft.2 (hx (by simp;omega)))
 refine(ah (by rw[aM];simpa using g4)).2 ?_
 by_cases g5:m<0
 ·refine(ai (by rw[ar];simpa using g5)).2 (ft.2 (hx (by simp;omega)))
 refine(ah (by rw[ar];simpa using g5)).2 ?_
 by_cases g6:4≤m
 ·refine(ai (by rw[aM];simpa using g6)).2 (ft.2 (hx (by simp;omega)))
 refine(ah (by rw[aM];simpa using g6)).2 ?_
 by_cases g7:n<0
 ·refine(ai (by rw[ar];simpa using g7)).2 (ft.2 (hx (by simp;omega)))
 refine(ah (by rw[ar];simpa using g7)).2 ?_
 by_cases g8:4<n
 ·refine(ai (by rw[aG];simpa using g8)).2 (ft.2 (hx (by simp;omega)))
 refine(ah (by rw[aG];simpa using g8)).2 ?_
 by_cases g9:s<0
 ·refine(ai (by rw[ar];simpa using g9)).2 (ft.2 (hx (by simp;omega)))
 refine(ah (by rw[ar];simpa using g9)).2 (af.2 ⟨ij,?_⟩)
 have hy:∀{x:Bool},x=true→(0:Int)=bif x then 0 else 40:=fun h=>by rw[h];rfl
 generalize ((2^j:Nat):Int)=q
 by_cases g10:q≤s
 ·refine(ai (by rw[aM];simpa using g10)).2 (ft.2 (hx (by simp;omega)))
 refine(ah (by rw[aM];simpa using g10)).2 (ft.2 (hy (by simp;omega)))
def pZ:((Int×Int×Int×Int×Int)×Int)→Int:=g_
def ah4:aB:=⟨[(.struct [yI,yI,yI,yI,yI]),yI], [yI],(@tt ((Int×Int×Int×Int×Int)×Int)),pZ⟩
theorem F8:Sd 168 ah4:=aF ax bK true 85 [] (fun A ((cTime,cPos,cMode,cNext,cMember),n)=>t42 A cTime cPos cMode cNext cMember n) (fc Tryz.func168 fz) sz fun((cTime,cPos,cMode,cNext,cMember),n) hp h=>ahI
open Go.Ev.Pl
structure aex where
 (a0 a1 a2 a3 a4 a5 a6 a7 a8 a9 bV dT a12:Int)
structure RJ where
 (b0 b1 b2 b3 b4 b6 b9 b10 b11 b12 b13:Int)
inductive Xz where
 | c0 (p:aex)
 | c1 (p:RJ) (b5:Int) (b7:Int) (b8:List Int)
noncomputable def aeS:Xz→fL
 | .c0 p=>⟨[⟨233,38,(en [(2,.ptr 0 0),(4,.ptr 1 0),(5,.ptr 2 0),(16,.agg [vi p.a0,vi p.a1,vi p.a2,vi p.a3,vi p.a4]),(17,vi p.a5)]),[.inLoop (cw Tryz.f233 [1,1,1,1,0,1,0,0]),.inBlock 0,.code (cw Tryz.f233 [1,1,1,1,1])],[],none⟩],[.flat false [vi p.a6,.bi true],.flat false [vi p.a7,.bi true],.flat false [vi p.a8,vi p.a9,vi p.bV,vi p.dT,vi p.a12],.dead]⟩
 | .c1 p b5 b7 b8=>⟨[⟨233,38,(en [(2,.ptr 0 0),(4,.ptr 1 0),(5,.ptr 2 0),(16,.agg [vi p.b0,vi p.b1,vi p.b2,vi p.b3,vi p.b4]),(17,vi b5)]),[.inLoop (cw Tryz.f233 [1,1,1,1,0,1,0,0]),.inBlock 0,.code (cw Tryz.f233 [1,1,1,1,1])],[],none⟩],[.flat false [vi p.b6,.bi true],.flat false [vi b7,.sl yU b8],.flat false [vi p.b9,vi p.b10,vi p.b11,vi p.b12,vi p.b13],.dead]⟩
def t90(A:a_)(cTime:Int)(cPos:Int)(cMode:Int)(cNext:Int)(cMember:Int):LT ((Int×List Int)×Int) Xz:=.need (A.k (@tt ((Int×Int×Int×Int×Int)×Int)) ((cTime,cPos,cMode,cNext,cMember),8)) (.br (A.c .neq (A.k jZ ((cTime,cPos,cMode,cNext,cMember),8)) 0) (.ret ((0,([]:List Int)),40)) (.more (.c0 ⟨cTime,cPos,cMode,cNext,cMember,0,0,0,8,3,2,3,8⟩)))
def Wp(A:a_):Xz→LT ((Int×List Int)×Int) Xz
 | .c0 p=>.br (A.c .lss p.a5 5) (.need (A.and (A.c .leq 0 p.a5) (A.c .lss p.a5 5)) (.need (A.and (A.c .leq 0 p.a5) (A.c .lss p.a5 5)) (.need (A.k (@tt ((Int×List Int)×Int×Int)) ((p.a7,([]:List Int)),(A.v .u64 (A.n yI [p.a0,p.a1,p.a2,p.a3,p.a4] p.a5:Int)),(A.n yI [p.a8,p.a9,p.bV,p.dT,p.a12] p.a5:Int))) (.need (A.k (@tt ((Int×List Int)×Int×Int)) ((p.a7,([]:List Int)),(A.v .u64 (A.n yI [p.a0,p.a1,p.a2,p.a3,p.a4] p.a5:Int)),(A.n yI [p.a8,p.a9,p.bV,p.dT,p.a12] p.a5:Int))) (.need (A.and (A.c .leq 0 p.a5) (A.c .lss p.a5 5)) (.br (A.c .neq (A.k og ((p.a7,([]:List Int)),(A.v .u64 (A.n yI [p.a0,p.a1,p.a2,p.a3,p.a4] p.a5:Int)),(A.n yI [p.a8,p.a9,p.bV,p.dT,p.a12] p.a5:Int))).2 0) (.ret ((0,([]:List Int)),(A.k og ((p.a7,([]:List Int)),(A.v .u64 (A.n yI [p.a0,p.a1,p.a2,p.a3,p.a4] p.a5:Int)),(A.n yI [p.a8,p.a9,p.bV,p.dT,p.a12] p.a5:Int))).2)) (.more (.c1 ⟨p.a0,p.a1,p.a2,p.a3,p.a4,p.a6,p.a8,p.a9,p.bV,p.dT,p.a12⟩ (A.b .add .i64 p.a5 1) (A.k og ((p.a7,([]:List Int)),(A.v .u64 (A.n yI [p.a0,p.a1,p.a2,p.a3,p.a4] p.a5:Int)),(A.n yI [p.a8,p.a9,p.bV,p.dT,p.a12] p.a5:Int))).1.1 (A.k og ((p.a7,([]:List Int)),(A.v .u64 (A.n yI [p.a0,p.a1,p.a2,p.a3,p.a4] p.a5:Int)),(A.n yI [p.a8,p.a9,p.bV,p.dT,p.a12] p.a5:Int))).1.2)))))))) (.ret ((p.a7,([]:List Int)),0))
 | .c1 p b5 b7 b8=>.br (A.c .lss b5 5) (.need (A.and (A.c .leq 0 b5) (A.c .lss b5 5)) (.need (A.and (A.c .leq 0 b5) (A.c .lss b5 5)) (.need (A.k (@tt ((Int×List Int)×Int×Int)) ((b7,b8),(A.v .u64 (A.n yI [p.b0,p.b1,p.b2,p.b3,p.b4] b5:Int)),(A.n yI [p.b9,p.b10,p.b11,p.b12,p.b13] b5:Int))) (.need (A.k (@tt ((Int×List Int)×Int×Int)) ((b7,b8),(A.v .u64 (A.n yI [p.b0,p.b1,p.b2,p.b3,p.b4] b5:Int)),(A.n yI [p.b9,p.b10,p.b11,p.b12,p.b13] b5:Int))) (.need (A.and (A.c .leq 0 b5) (A.c .lss b5 5)) (.br (A.c .neq (A.k og ((b7,b8),(A.v .u64 (A.n yI [p.b0,p.b1,p.b2,p.b3,p.b4] b5:Int)),(A.n yI [p.b9,p.b10,p.b11,p.b12,p.b13] b5:Int))).2 0) (.ret ((0,([]:List Int)),(A.k og ((b7,b8),(A.v .u64 (A.n yI [p.b0,p.b1,p.b2,p.b3,p.b4] b5:Int)),(A.n yI [p.b9,p.b10,p.b11,p.b12,p.b13] b5:Int))).2)) (.more (.c1 p (A.b .add .i64 b5 1) (A.k og ((b7,b8),(A.v .u64 (A.n yI [p.b0,p.b1,p.b2,p.b3,p.b4] b5:Int)),(A.n yI [p.b9,p.b10,p.b11,p.b12,p.b13] b5:Int))).1.1 (A.k og ((b7,b8),(A.v .u64 (A.n yI [p.b0,p.b1,p.b2,p.b3,p.b4] b5:Int)),(A.n yI [p.b9,p.b10,p.b11,p.b12,p.b13] b5:Int))).1.2)))))))) (.ret ((b7,b8),0))
theorem o3{v w:Nat}{l:List Bool}(hv:v<2^w)(hw:w≤64)(hl:l.length+w≤4096):De (bJ l,(v:Int),(w:Int))=(bJ (l++bitsOf v w),0):=by
 rw[De]
 simp only[fE (l:=l) (by omega),Bool.not_true,cond_false,eF,Int.toNat_natCast]
 rw[wU (by omega),Int.toNat_natCast,Nat.div_eq_of_lt hv,show decide ((w:Int)<0)=false from by simp,show decide (64<(w:Int))=false from by simp;omega,pJ (by rw[List.length_append,aN];exact hl)]
 rfl
theorem wP{p:RJ}{i:Int}{v w:Nat}{l:List Bool}{r:(Int×List Int)×Int}(h0:0≤i)(h5:i<5)(hv:(aj.n (.int .i64) [p.b0,p.b1,p.b2,p.b3,p.b4] i:Int)=(v:Int))(hw:(aj.n (.int .i64) [p.b9,p.b10,p.b11,p.b12,p.b13] i:Int)=(w:Int))(hvw:v<2^w)(hw8:w≤8)(hl:l.length≤100)
  (h:aA (Wp aj) (.more (.c1 p (i+1) (bJ (l++bitsOf v w)).1 (bJ (l++bitsOf v w)).2)) r):aA (Wp aj) (.more (.c1 p i (bJ l).1 (bJ l).2)) r:=by
 rw[ak,Wp]
 have hn:aj.and (aj.c .leq 0 i) (aj.c .lss i 5)=true:=by rw[aQ,ay,ar];simp;omega
 have hp:=Nat.pow_le_pow_right (n:=2) (by decide) hw8
 have hc:aj.k og (((bJ l).1,(bJ l).2),(aj.v .u64 (aj.n (.int .i64) [p.b0,p.b1,p.b2,p.b3,p.b4] i:Int)),(aj.n (.int .i64) [p.b9,p.b10,p.b11,p.b12,p.b13] i:Int))=(bJ (l++bitsOf v w),0):=by
  rw[show(aj.v .u64 (aj.n (.int .i64) [p.b0,p.b1,p.b2,p.b3,p.b4] i:Int))=(v:Int) from(congrArg (aj.v .u64) hv).trans (dS (by omega)),hw]
  exact o3 hvw (by omega) (by omega)
 refine(ai (by rw[ar];simpa using h5)).2 (af.2 ⟨hn,af.2 ⟨hn,af.2 ⟨rfl,?_⟩⟩⟩)
 repeat (first|refine af.2 ⟨rfl,?_⟩|refine af.2 ⟨hn,?_⟩)
 refine(ah (b_ (congrArg Prod.snd hc))).2 ?_
 refine bo (congrArg LT.more (congr (congr (congrArg (Xz.c1 p) ?_) (congrArg (fun z=>z.1.1) hc)) (congrArg (fun z=>z.1.2) hc))) h
 rw[bf,fV (by omega) (by omega)]
theorem QA{t po m n s:Int}:aA (Wp aj) (t90 aj t po m n s) (kC (t,po,m,n,s)):=by
 unfold t90
 rw[kC]
 refine af.2 ⟨rfl,?_⟩
 have hchk:aj.k jZ ((t,po,m,n,s),8)=bif dQ (t,po,m,n,s) then 0 else 40:=ox (t,po,m,n,s)
 cases hok:dQ (t,po,m,n,s)
 ·rw[hok] at hchk
  exact(ai (dE (by rw[hchk];decide))).2 (.ret _)
 rw[hok] at hchk
 refine(ah (b_ hchk)).2 ?_
 rw[mF] at hok
 obtain⟨t,rfl⟩:=Int.eq_ofNat_of_zero_le hok.1.1
 obtain⟨po,rfl⟩:=Int.eq_ofNat_of_zero_le hok.2.1.1
 obtain⟨m,rfl⟩:=Int.eq_ofNat_of_zero_le hok.2.2.1.1
 obtain⟨n,rfl⟩:=Int.eq_ofNat_of_zero_le hok.2.2.2.1.1
 obtain⟨s,rfl⟩:=Int.eq_ofNat_of_zero_le hok.2.2.2.2.1
 have hc:aj.k og (((0:Int),([]:List Int)),(aj.v .u64 (t:Int)),8)=(bJ ([]++bitsOf t 8),0):=by
  rw[dS (by omega)]
  exact o3 (l:=[]) (v:=t) (w:=8) (by omega) (by decide) (by decide)
 rw[ak,Wp]
 refine(ai rfl).2 (af.2 ⟨rfl,af.2 ⟨rfl,af.2 ⟨rfl,?_⟩⟩⟩)
 repeat (refine af.2 ⟨rfl,?_⟩)
 refine(ah (b_ (congrArg Prod.snd hc))).2 ?_
 refine bo (congrArg LT.more (congr (congr (congrArg (Xz.c1 _) (show aj.b .add .i64 0 1=1 from rfl)) (congrArg (fun z=>z.1.1) hc)) (congrArg (fun z=>z.1.2) hc))) ?_
 refine wP (v:=po) (w:=3) (by decide) (by decide) rfl rfl (by omega) (by decide) (by simp[aN]) ?_
 refine wP (i:=2) (v:=m) (w:=2) (by decide) (by decide) rfl rfl (by omega) (by decide) (by simp[aN]) ?_
 refine wP (i:=3) (v:=n) (w:=3) (by decide) (by decide) rfl rfl (by omega) (by decide) (by simp[aN]) ?_
 refine wP (i:=4) (v:=s) (w:=8) (by decide) (by decide) rfl rfl (by omega) (by decide) (by simp[aN]) ?_
 rw[ak,Wp]
 refine(ah rfl).2 ?_
 rw[show[]++bitsOf t 8++bitsOf po 3++bitsOf m 2++bitsOf n 3++bitsOf s 8=bD ((t:Int),(po:Int),(m:Int),(n:Int),(s:Int)) from by
  simp only[bD,Int.toNat_natCast,List.append_assoc,List.nil_append]]
 exact .ret _
def qO:((Int×Int×Int×Int×Int))→((Int×List Int)×Int):=kC
def aif:aB:=⟨[(.struct [yI,yI,yI,yI,yI])], [(.struct [yI,yB]),yI],(@tt ((Int×Int×Int×Int×Int))),qO⟩
theorem ahQ:Sd 233 aif:=aL ax bK true 71 [⟨233,6, [[2,4,5,16,17]]⟩] [] (fun A (cTime,cPos,cMode,cNext,cMember)=>t90 A cTime cPos cMode cNext cMember) Wp aeS (fc Tryz.func233 (fc Tryz.func202 (fc Tryz.func248 fz))) (sc yZ (sc af0 sz)) (fun A y=>match y with |.c0 p=>⟨55,by kernel_rfl,by kernel_rfl⟩|.c1 p b5 b7 b8=>⟨55,by kernel_rfl,by kernel_rfl⟩) fun(cTime,cPos,cMode,cNext,cMember) hp h=>QA
def t82(A:a_)(cTime:Int)(cPos:Int)(cMode:Int)(cNext:Int)(cMember:Int):LT ((Int×List Int)×Int) Empty:=.need (A.k (@tt ((Int×Int×Int×Int×Int)×Int)) ((cTime,cPos,cMode,cNext,cMember),8)) (.br (A.c .neq (A.k pZ ((cTime,cPos,cMode,cNext,cMember),8)) 0) (.ret ((0,([]:List Int)),40)) (.need (A.k (@tt ((Int×List Int)×Int×Int)) ((0,([]:List Int)),(A.v .u64 cTime),8)) (.need (A.k (@tt ((Int×List Int)×Int×Int)) ((A.k fI ((0,([]:List Int)),(A.v .u64 cTime),8)).1,(A.v .u64 cPos),3)) (.need (A.k (@tt ((Int×List Int)×Int×Int)) ((A.k fI ((A.k fI ((0,([]:List Int)),(A.v .u64 cTime),8)).1,(A.v .u64 cPos),3)).1,(A.v .u64 cMode),2)) (.need (A.k (@tt ((Int×List Int)×Int×Int)) ((A.k fI ((A.k fI ((A.k fI ((0,([]:List Int)),(A.v .u64 cTime),8)).1,(A.v .u64 cPos),3)).1,(A.v .u64 cMode),2)).1,(A.v .u64 cNext),3)) (.need (A.k (@tt ((Int×List Int)×Int×Int)) ((A.k fI ((A.k fI ((A.k fI ((A.k fI ((0,([]:List Int)),(A.v .u64 cTime),8)).1,(A.v .u64 cPos),3)).1,(A.v .u64 cMode),2)).1,(A.v .u64 cNext),3)).1,(A.v .u64 cMember),8)) (.ret (A.k fI ((A.k fI ((A.k fI ((A.k fI ((A.k fI ((0,([]:List Int)),(A.v .u64 cTime),8)).1,(A.v .u64 cPos),3)).1,(A.v .u64 cMode),2)).1,(A.v .u64 cNext),3)).1,(A.v .u64 cMember),8)))))))))
theorem Qj{t po m n s:Int}:aA Empty.elim (t82 aj t po m n s) (kC (t,po,m,n,s)):=by
 unfold t82
 rw[kC]
 refine af.2 ⟨rfl,?_⟩
 have hchk:aj.k pZ ((t,po,m,n,s),8)=bif dQ (t,po,m,n,s) then 0 else 40:=ox (t,po,m,n,s)
 cases hok:dQ (t,po,m,n,s)
 ·rw[hok] at hchk
  exact(ai (dE (by rw[hchk];decide))).2 (.ret _)
 rw[hok] at hchk
 refine(ah (b_ hchk)).2 ?_
 rw[mF] at hok
 obtain⟨t,rfl⟩:=Int.eq_ofNat_of_zero_le hok.1.1
 obtain⟨po,rfl⟩:=Int.eq_ofNat_of_zero_le hok.2.1.1
 obtain⟨m,rfl⟩:=Int.eq_ofNat_of_zero_le hok.2.2.1.1
 obtain⟨n,rfl⟩:=Int.eq_ofNat_of_zero_le hok.2.2.2.1.1
 obtain⟨s,rfl⟩:=Int.eq_ofNat_of_zero_le hok.2.2.2.2.1
 have h1:aj.k fI (((0:Int),([]:List Int)),(aj.v .u64 (t:Int)),8)=(bJ ([]++bitsOf t 8),0):=by
  rw[dS (by omega)]
  exact o3 (l:=[]) (v:=t) (w:=8) (by omega) (by decide) (by decide)
 have h2:aj.k fI (bJ ([]++bitsOf t 8),(aj.v .u64 (po:Int)),3)=(bJ ([]++bitsOf t 8++bitsOf po 3),0):=by
  rw[dS (by omega)]
  exact o3 (w:=3) (by omega) (by decide) (by simp[aN])
 have h3:aj.k fI (bJ ([]++bitsOf t 8++bitsOf po 3),(aj.v .u64 (m:Int)),2)=(bJ ([]++bitsOf t 8++bitsOf po 3++bitsOf m 2),0):=by
  rw[dS (by omega)]
  exact o3 (w:=2) (by omega) (by decide) (by simp[aN])
 have h4:aj.k fI (bJ ([]++bitsOf t 8++bitsOf po 3++bitsOf m 2),(aj.v .u64 (n:Int)),3)=(bJ ([]++bitsOf t 8++bitsOf po 3++bitsOf m 2++bitsOf n 3),0):=by
  rw[dS (by omega)]
  exact o3 (w:=3) (by omega) (by decide) (by simp[aN])
 have h5:aj.k fI (bJ ([]++bitsOf t 8++bitsOf po 3++bitsOf m 2++bitsOf n 3),(aj.v .u64 (s:Int)),8)=(bJ ([]++bitsOf t 8++bitsOf po 3++bitsOf m 2++bitsOf n 3++bitsOf s 8),0):=by
  rw[dS (by omega)]
  exact o3 (w:=8) (by omega) (by decide) (by simp[aN])
 rw[h1,h2,h3,h4,h5]
 repeat (refine af.2 ⟨rfl,?_⟩)
 rw[show[]++bitsOf t 8++bitsOf po 3++bitsOf m 2++bitsOf n 3++bitsOf s 8=bD ((t:Int),(po:Int),(m:Int),(n:Int),(s:Int)) from by
  simp only[bD,Int.toNat_natCast,List.append_assoc,List.nil_append]]
 exact .ret _
def lC:((Int×Int×Int×Int×Int))→((Int×List Int)×Int):=kC
def aib:aB:=⟨[(.struct [yI,yI,yI,yI,yI])], [(.struct [yI,yB]),yI],(@tt ((Int×Int×Int×Int×Int))),lC⟩
theorem aa2:Sd 129 aib:=aF ax bK true 83 [] (fun A (cTime,cPos,cMode,cNext,cMember)=>t82 A cTime cPos cMode cNext cMember) (fc Tryz.func129 fz) (sc F8 (sc Lx sz)) fun(cTime,cPos,cMode,cNext,cMember) hp h=>Qj
open Go.Ev.Pl
structure Va where
 (a1 a2 a3 a4 a5 a7:Int) (a8:List Int) (a9 bV dT a12 lk:Int)
inductive Cv where
 | c0 (p:Va) (a0:Int) (a6:Int) (ku:Int) (qs:Int) (a16:Int) (a17:Int) (qU:Int)
noncomputable def TA:Cv→fL
 | .c0 p a0 a6 ku qs a16 a17 qU=>⟨[⟨236,61,(en [(1,.ptr 0 0),(2,.ptr 1 0),(4,.ptr 2 0),(5,vi a0),(21,.agg [vi p.a1,vi p.a2,vi p.a3,vi p.a4,vi p.a5]),(22,vi a6)]),[.inLoop (cw Tryz.f236 [1,1,1,1,0,1,0,0]),.inBlock 1,.code (cw Tryz.f236 [1,1,1,1,1])],[],none⟩],[.flat false [vi p.a7,.sl yU p.a8],.flat false [vi p.a9,vi p.bV,vi p.dT,vi p.a12,vi p.lk],.flat false [vi ku,vi qs,vi a16,vi a17,vi qU],.dead]⟩
def Wy(A:a_)(bN:Int)(bB:List Int):LT ((Int×Int×Int×Int×Int)×Int) Cv:=.need (A.k (@tt ((Int×List Int))) (bN,bB)) (.br (A.c .neq (A.k kD (bN,bB)) 0) (.ret ((0,0,0,0,0),10)) (.br (A.c .neq bN 24) (.ret ((0,0,0,0,0),40)) (.more (.c0 ⟨8,3,2,3,8,bN,bB,0,0,0,0,0⟩ 0 0 0 0 0 0 0))))
def C4(A:a_):Cv→LT ((Int×Int×Int×Int×Int)×Int) Cv
 | .c0 p a0 a6 ku qs a16 a17 qU=>.br (A.c .lss a6 5) (.need (A.and (A.c .leq 0 a6) (A.c .lss a6 5)) (.need (A.k (@tt ((Int×List Int)×Int×Int)) ((p.a7,p.a8),a0,(A.n yI [p.a1,p.a2,p.a3,p.a4,p.a5] a6:Int))) (.br (A.c .neq (A.k aK ((p.a7,p.a8),a0,(A.n yI [p.a1,p.a2,p.a3,p.a4,p.a5] a6:Int))).2 0) (.ret ((0,0,0,0,0),(A.k aK ((p.a7,p.a8),a0,(A.n yI [p.a1,p.a2,p.a3,p.a4,p.a5] a6:Int))).2)) (.need (A.and (A.c .leq 0 a6) (A.c .lss a6 5)) (.more (.c0 p (A.b .add .i64 a0 (A.n yI [p.a1,p.a2,p.a3,p.a4,p.a5] a6:Int)) (A.b .add .i64 a6 1) (A.n yI (A.set [ku,qs,a16,a17,qU] a6 (A.v .i64 (A.k aK ((p.a7,p.a8),a0,(A.n yI [p.a1,p.a2,p.a3,p.a4,p.a5] a6:Int))).1)) 0:Int) (A.n yI (A.set [ku,qs,a16,a17,qU] a6 (A.v .i64 (A.k aK ((p.a7,p.a8),a0,(A.n yI [p.a1,p.a2,p.a3,p.a4,p.a5] a6:Int))).1)) 1:Int) (A.n yI (A.set [ku,qs,a16,a17,qU] a6 (A.v .i64 (A.k aK ((p.a7,p.a8),a0,(A.n yI [p.a1,p.a2,p.a3,p.a4,p.a5] a6:Int))).1)) 2:Int) (A.n yI (A.set [ku,qs,a16,a17,qU] a6 (A.v .i64 (A.k aK ((p.a7,p.a8),a0,(A.n yI [p.a1,p.a2,p.a3,p.a4,p.a5] a6:Int))).1)) 3:Int) (A.n yI (A.set [ku,qs,a16,a17,qU] a6 (A.v .i64 (A.k aK ((p.a7,p.a8),a0,(A.n yI [p.a1,p.a2,p.a3,p.a4,p.a5] a6:Int))).1)) 4:Int))))))) (.need (A.k (@tt ((Int×Int×Int×Int×Int)×Int)) ((ku,qs,a16,a17,qU),8)) (.br (A.c .neq (A.k jZ ((ku,qs,a16,a17,qU),8)) 0) (.ret ((0,0,0,0,0),40)) (.ret ((ku,qs,a16,a17,qU),0))))
theorem Ko{n:Int}{b:List Int}(h:Ty.cB [(.struct [(.int .i64),(.slice (.int .u8))])] (n,b)):aA (C4 aj) (Wy aj n b) (dL (n,b)):=by
 have hb:=(dF h).2.2
 have hl:=du h
 unfold Wy
 rw[dL]
 refine af.2 ⟨rfl,?_⟩
 have hc:aj.c .neq (aj.k kD (n,b)) 0=!bC (n,b):=by
  rw[al,lT hb hl];cases bC (n,b)<;>rfl
 rw[hc]
 cases hok:bC (n,b)
 ·exact(ai rfl).2 (.ret _)
 refine(ah rfl).2 ?_
 rw[Bool.not_true,cond_false]
 show aA (C4 aj) _ (bif n != 24 then(zS,40) else _)
 by_cases h24:n=24
 ·subst h24
  refine(ah rfl).2 ?_
  rw[show((24:Int) != 24)=false from rfl,cond_false]
  have l0:=c_ (bw (24,b)) 0 8
  have g0:aj.k aK ((24,b),0,8)=(((bl (bw (24,b)) 0 8:Nat):Int),0):=kl (n:=24) (a:=0) (w:=8) hok (by decide) (by decide) (by decide)
  have l1:=c_ (bw (24,b)) 8 3
  have g1:aj.k aK ((24,b),8,3)=(((bl (bw (24,b)) 8 3:Nat):Int),0):=kl (n:=24) (a:=8) (w:=3) hok (by decide) (by decide) (by decide)
  have l2:=c_ (bw (24,b)) 11 2
  have g2:aj.k aK ((24,b),11,2)=(((bl (bw (24,b)) 11 2:Nat):Int),0):=kl (n:=24) (a:=11) (w:=2) hok (by decide) (by decide) (by decide)
  have l3:=c_ (bw (24,b)) 13 3
  have g3:aj.k aK ((24,b),13,3)=(((bl (bw (24,b)) 13 3:Nat):Int),0):=kl (n:=24) (a:=13) (w:=3) hok (by decide) (by decide) (by decide)
  have l4:=c_ (bw (24,b)) 16 8
  have g4:aj.k aK ((24,b),16,8)=(((bl (bw (24,b)) 16 8:Nat):Int),0):=kl (n:=24) (a:=16) (w:=8) hok (by decide) (by decide) (by decide)
  rw[ak,C4]
  refine(ai rfl).2 (af.2 ⟨rfl,af.2 ⟨rfl,(ah (b_ (congrArg Prod.snd (show aj.k aK ((24,b),0,8)=(((bl (bw (24,b)) 0 8:Nat):Int),0) from g0)))).2 (af.2 ⟨rfl,?_⟩)⟩⟩)
  refine bo (t':=.more (.c0 ⟨8,3,2,3,8,24,b,0,0,0,0,0⟩ 8 1 ((bl (bw (24,b)) 0 8:Nat):Int) 0 0 0 0)) (congrArg LT.more (show Cv.c0 ⟨8,3,2,3,8,24,b,0,0,0,0,0⟩ 8 1 (aj.v .i64 (aj.k aK ((24,b),0,8)).1) 0 0 0 0=_ from by rw[show(aj.v .i64 (aj.k aK ((24,b),0,8)).1)=((bl (bw (24,b)) 0 8:Nat):Int) from by rw[g0,bd,fV (by omega) (by omega)]])) ?_
  rw[ak,C4]
  refine(ai rfl).2 (af.2 ⟨rfl,af.2 ⟨rfl,(ah (b_ (congrArg Prod.snd (show aj.k aK ((24,b),8,3)=(((bl (bw (24,b)) 8 3:Nat):Int),0) from g1)))).2 (af.2 ⟨rfl,?_⟩)⟩⟩)
  refine bo (t':=.more (.c0 ⟨8,3,2,3,8,24,b,0,0,0,0,0⟩ 11 2 ((bl (bw (24,b)) 0 8:Nat):Int) ((bl (bw (24,b)) 8 3:Nat):Int) 0 0 0)) (congrArg LT.more (show Cv.c0 ⟨8,3,2,3,8,24,b,0,0,0,0,0⟩ 11 2 ((bl (bw (24,b)) 0 8:Nat):Int) (aj.v .i64 (aj.k aK ((24,b),8,3)).1) 0 0 0=_ from by rw[show(aj.v .i64 (aj.k aK ((24,b),8,3)).1)=((bl (bw (24,b)) 8 3:Nat):Int) from by rw[g1,bd,fV (by omega) (by omega)]])) ?_
  rw[ak,C4]
  refine(ai rfl).2 (af.2 ⟨rfl,af.2 ⟨rfl,(ah (b_ (congrArg Prod.snd (show aj.k aK ((24,b),11,2)=(((bl (bw (24,b)) 11 2:Nat):Int),0) from g2)))).2 (af.2 ⟨rfl,?_⟩)⟩⟩)
  refine bo (t':=.more (.c0 ⟨8,3,2,3,8,24,b,0,0,0,0,0⟩ 13 3 ((bl (bw (24,b)) 0 8:Nat):Int) ((bl (bw (24,b)) 8 3:Nat):Int) ((bl (bw (24,b)) 11 2:Nat):Int) 0 0)) (congrArg LT.more (show Cv.c0 ⟨8,3,2,3,8,24,b,0,0,0,0,0⟩ 13 3 ((bl (bw (24,b)) 0 8:Nat):Int) ((bl (bw (24,b)) 8 3:Nat):Int) (aj.v .i64 (aj.k aK ((24,b),11,2)).1) 0 0=_ from by rw[show(aj.v .i64 (aj.k aK ((24,b),11,2)).1)=((bl (bw (24,b)) 11 2:Nat):Int) from by rw[g2,bd,fV (by omega) (by omega)]])) ?_
  rw[ak,C4]
  refine(ai rfl).2 (af.2 ⟨rfl,af.2 ⟨rfl,(ah (b_ (congrArg Prod.snd (show aj.k aK ((24,b),13,3)=(((bl (bw (24,b)) 13 3:Nat):Int),0) from g3)))).2 (af.2 ⟨rfl,?_⟩)⟩⟩)
  refine bo (t':=.more (.c0 ⟨8,3,2,3,8,24,b,0,0,0,0,0⟩ 16 4 ((bl (bw (24,b)) 0 8:Nat):Int) ((bl (bw (24,b)) 8 3:Nat):Int) ((bl (bw (24,b)) 11 2:Nat):Int) ((bl (bw (24,b)) 13 3:Nat):Int) 0)) (congrArg LT.more (show Cv.c0 ⟨8,3,2,3,8,24,b,0,0,0,0,0⟩ 16 4 ((bl (bw (24,b)) 0 8:Nat):Int) ((bl (bw (24,b)) 8 3:Nat):Int) ((bl (bw (24,b)) 11 2:Nat):Int) (aj.v .i64 (aj.k aK ((24,b),13,3)).1) 0=_ from by rw[show(aj.v .i64 (aj.k aK ((24,b),13,3)).1)=((bl (bw (24,b)) 13 3:Nat):Int) from by rw[g3,bd,fV (by omega) (by omega)]])) ?_
  rw[ak,C4]
  refine(ai rfl).2 (af.2 ⟨rfl,af.2 ⟨rfl,(ah (b_ (congrArg Prod.snd (show aj.k aK ((24,b),16,8)=(((bl (bw (24,b)) 16 8:Nat):Int),0) from g4)))).2 (af.2 ⟨rfl,?_⟩)⟩⟩)
  refine bo (t':=.more (.c0 ⟨8,3,2,3,8,24,b,0,0,0,0,0⟩ 24 5 ((bl (bw (24,b)) 0 8:Nat):Int) ((bl (bw (24,b)) 8 3:Nat):Int) ((bl (bw (24,b)) 11 2:Nat):Int) ((bl (bw (24,b)) 13 3:Nat):Int) ((bl (bw (24,b)) 16 8:Nat):Int))) (congrArg LT.more (show Cv.c0 ⟨8,3,2,3,8,24,b,0,0,0,0,0⟩ 24 5 ((bl (bw (24,b)) 0 8:Nat):Int) ((bl (bw (24,b)) 8 3:Nat):Int) ((bl (bw (24,b)) 11 2:Nat):Int) ((bl (bw (24,b)) 13 3:Nat):Int) (aj.v .i64 (aj.k aK ((24,b),16,8)).1)=_ from by rw[show(aj.v .i64 (aj.k aK ((24,b),16,8)).1)=((bl (bw (24,b)) 16 8:Nat):Int) from by rw[g4,bd,fV (by omega) (by omega)]])) ?_
  have hchk:aj.k jZ ((((bl (bw (24,b)) 0 8:Nat):Int),((bl (bw (24,b)) 8 3:Nat):Int),((bl (bw (24,b)) 11 2:Nat):Int),((bl (bw (24,b)) 13 3:Nat):Int),((bl (bw (24,b)) 16 8:Nat):Int)),8)=bif dQ (dH (bw (24,b))) then 0 else 40:=ox (dH (bw (24,b)))
  rw[ak,C4]
  refine(ah rfl).2 (af.2 ⟨rfl,?_⟩)
  cases ho:dQ (dH (bw (24,b)))
  ·rw[ho] at hchk
   exact(ai (dE (by rw[hchk];decide))).2 (.ret _)
  ·rw[ho] at hchk
   exact(ah (b_ hchk)).2 (.ret _)
 ·refine(ai (dE h24)).2 ?_
  rw[show(n != 24)=true from bne_iff_ne.2 h24,cond_true]
  exact .ret _
def iE:((Int×List Int))→((Int×Int×Int×Int×Int)×Int):=dL
def ab6:aB:=⟨[(.struct [yI,yB])], [(.struct [yI,yI,yI,yI,yI]),yI],(@tt ((Int×List Int))),iE⟩
theorem Zg:Sd 236 ab6:=aL ax bK true 58 [⟨236,8, [[1,2,4,5,21,22]]⟩] [] (fun A (bN,bB)=>Wy A bN bB) C4 TA (fc Tryz.func236 (fc Tryz.func248 fz)) (sc yZ (sc FJ (sc GY sz))) (fun A y=>match y with |.c0 p a0 a6 ku qs a16 a17 qU=>⟨61,by kernel_rfl,by kernel_rfl⟩) fun(bN,bB) hp h=>Ko h
def t167(A:a_)(bN:Int)(bB:List Int)(at1:Int)(width:Int):LT Int Empty:=.need (A.k (@tt ((Int×List Int)×Int×Int)) ((bN,bB),at1,width)) (.ret (A.v .i64 (A.k qo ((bN,bB),at1,width)).1))
def gK:((Int×List Int)×Int×Int)→Int:=fun((bN,bB),at1,width)=>(t167 aj bN bB at1 width).val (Ty.bE [yI])
def afq:aB:=⟨[(.struct [yI,yB]),yI,yI], [yI],(@tt ((Int×List Int)×Int×Int)),gK⟩
theorem aeY:Sd 263 afq:=aJ ax bK true 29 [] (fun A ((bN,bB),at1,width)=>t167 A bN bB at1 width) (fc Tryz.func263 fz) (sc K_ sz) (fun(((bN,bB),at1,width):(Int×List Int)×Int×Int) hp h=>by
 show(t167 aj bN bB at1 width).pre=true
 simp only[t167,LT.pre,cY,aC,aH,ar,ay,aG,aM,aQ,aT,dn,al,bf,aX,bd,bS,bH,Bool.and_eq_true,Bool.or_eq_true,Bool.and_eq_false_iff,Bool.or_eq_false_iff,Bool.not_eq_true',Bool.not_eq_false',decide_eq_true_eq,decide_eq_false_iff_not,bne_iff_ne,beq_iff_eq,bne_eq_false_iff_eq,beq_eq_false_iff_ne]
 simp only[Ty.cB,Ty.has,iH,rA] at h
 (repeat' (first|intro _|constructor))<;>(try omega))
theorem Gy{n a w:Nat}{b:List Int}(hok:bC ((n:Int),b)=true)(h:a+w≤n)(hw:w≤64)(hn:n≤4096):aj.k qo (((n:Int),b),(a:Int),(w:Int))=(((bl (unpack n b) a w:Nat):Int),0):=kl hok h hw hn
theorem ov{n a w:Nat}{b:List Int}(hok:bC ((n:Int),b)=true)(h:a+w≤n)(hw:w≤62)(hn:n≤4096):aj.k gK (((n:Int),b),(a:Int),(w:Int))=((bl (unpack n b) a w:Nat):Int):=by
 have hf:=c_ (unpack n b) a w
 have hp:2^w≤2^62:=Nat.pow_le_pow_right (by decide) hw
 rw[al]
 simp only[gK,t167,LT.val]
 rw[Gy hok h (by omega) hn,bd,fV (by omega) (by omega)]
def t143(A:a_)(bN:Int)(bB:List Int):LT ((Int×Int×Int×Int×Int)×Int) Empty:=.need (A.k (@tt ((Int×List Int))) (bN,bB)) (.br (A.c .neq (A.k e_ (bN,bB)) 0) (.ret ((0,0,0,0,0),10)) (.br (A.c .neq bN 24) (.ret ((0,0,0,0,0),40)) (.need (A.k (@tt ((Int×List Int)×Int×Int)) ((bN,bB),0,8)) (.need (A.k (@tt ((Int×List Int)×Int×Int)) ((bN,bB),8,3)) (.need (A.k (@tt ((Int×List Int)×Int×Int)) ((bN,bB),11,2)) (.need (A.k (@tt ((Int×List Int)×Int×Int)) ((bN,bB),13,3)) (.need (A.k (@tt ((Int×List Int)×Int×Int)) ((bN,bB),16,8)) (.need (A.k (@tt ((Int×List Int)×Int×Int)) ((bN,bB),16,8)) (.need (A.k (@tt ((Int×List Int)×Int×Int)) ((bN,bB),13,3)) (.need (A.k (@tt ((Int×List Int)×Int×Int)) ((bN,bB),11,2)) (.need (A.k (@tt ((Int×List Int)×Int×Int)) ((bN,bB),8,3)) (.need (A.k (@tt ((Int×List Int)×Int×Int)) ((bN,bB),0,8)) (.need (A.k (@tt ((Int×Int×Int×Int×Int)×Int)) (((A.k gK ((bN,bB),0,8)),(A.k gK ((bN,bB),8,3)),(A.k gK ((bN,bB),11,2)),(A.k gK ((bN,bB),13,3)),(A.k gK ((bN,bB),16,8))),8)) (.br (A.c .neq (A.k pZ (((A.k gK ((bN,bB),0,8)),(A.k gK ((bN,bB),8,3)),(A.k gK ((bN,bB),11,2)),(A.k gK ((bN,bB),13,3)),(A.k gK ((bN,bB),16,8))),8)) 0) (.ret ((0,0,0,0,0),40)) (.ret (((A.k gK ((bN,bB),0,8)),(A.k gK ((bN,bB),8,3)),(A.k gK ((bN,bB),11,2)),(A.k gK ((bN,bB),13,3)),(A.k gK ((bN,bB),16,8))),0))))))))))))))))
theorem K9{n:Int}{b:List Int}(h:Ty.cB [(.struct [(.int .i64),(.slice (.int .u8))])] (n,b)):aA Empty.elim (t143 aj n b) (dL (n,b)):=by
 unfold t143
 rw[dL]
 refine af.2 ⟨rfl,?_⟩
 cases hok:bC (n,b)
 ·exact(ai (show(e_ (n,b) != 0)=true by rw[e_,hok];rfl)).2 (.ret _)
 refine(ah (show(e_ (n,b) != 0)=false by rw[e_,hok];rfl)).2 ?_
 rw[Bool.not_true,cond_false]
 show aA Empty.elim _ (bif n != 24 then(zS,40) else _)
 by_cases h24:n=24
 ·subst h24
  refine(ah rfl).2 ?_
  rw[show((24:Int) != 24)=false from rfl,cond_false]
  have l0:=c_ (bw (24,b)) 0 8
  have g0:aj.k gK ((24,b),0,8)=((bl (bw (24,b)) 0 8:Nat):Int):=ov (n:=24) (a:=0) (w:=8) hok (by decide) (by decide) (by decide)
  have l1:=c_ (bw (24,b)) 8 3
  have g1:aj.k gK ((24,b),8,3)=((bl (bw (24,b)) 8 3:Nat):Int):=ov (n:=24) (a:=8) (w:=3) hok (by decide) (by decide) (by decide)
  have l2:=c_ (bw (24,b)) 11 2
  have g2:aj.k gK ((24,b),11,2)=((bl (bw (24,b)) 11 2:Nat):Int):=ov (n:=24) (a:=11) (w:=2) hok (by decide) (by decide) (by decide)
  have l3:=c_ (bw (24,b)) 13 3
  have g3:aj.k gK ((24,b),13,3)=((bl (bw (24,b)) 13 3:Nat):Int):=ov (n:=24) (a:=13) (w:=3) hok (by decide) (by decide) (by decide)
  have l4:=c_ (bw (24,b)) 16 8
  have g4:aj.k gK ((24,b),16,8)=((bl (bw (24,b)) 16 8:Nat):Int):=ov (n:=24) (a:=16) (w:=8) hok (by decide) (by decide) (by decide)
  rw[g0,g1,g2,g3,g4]
  repeat (refine af.2 ⟨rfl,?_⟩)
  have hchk:aj.k pZ ((((bl (bw (24,b)) 0 8:Nat):Int),((bl (bw (24,b)) 8 3:Nat):Int),((bl (bw (24,b)) 11 2:Nat):Int),((bl (bw (24,b)) 13 3:Nat):Int),((bl (bw (24,b)) 16 8:Nat):Int)),8)=bif dQ (dH (bw (24,b))) then 0 else 40:=ox (dH (bw (24,b)))
  cases ho:dQ (dH (bw (24,b)))
  ·rw[ho] at hchk
   exact(ai (dE (by rw[hchk];decide))).2 (.ret _)
  ·rw[ho] at hchk
   exact(ah (b_ hchk)).2 (.ret _)
 ·refine(ai (dE h24)).2 ?_
  rw[show(n != 24)=true from bne_iff_ne.2 h24,cond_true]
  exact .ret _
def zv:((Int×List Int))→((Int×Int×Int×Int×Int)×Int):=dL
def aa4:aB:=⟨[(.struct [yI,yB])], [(.struct [yI,yI,yI,yI,yI]),yI],(@tt ((Int×List Int))),zv⟩
theorem YB:Sd 256 aa4:=aF ax bK true 61 [] (fun A (bN,bB)=>t143 A bN bB) (fc Tryz.func256 fz) (sc F8 (sc Ce (sc aeY sz))) fun(bN,bB) hp h=>K9 h
open Go.Ev.Pl
def t57(A:a_)(fKind:Int)(fReq:Int)(fCTime:Int)(fCPos:Int)(fCMode:Int)(fCNext:Int)(fCMember:Int)(fFrom:Int)(fData:List Int):LT Int Empty:=.need (A.k (@tt ((Int×Int×Int×Int×Int)×Int)) ((fCTime,fCPos,fCMode,fCNext,fCMember),8)) (.br (A.c .neq (A.k jZ ((fCTime,fCPos,fCMode,fCNext,fCMember),8)) 0) (.ret 50) (.br (A.c .lss fReq 0) (.ret 50) (.br (A.c .gtr fReq 4) (.ret 50) (.br (A.c .gtr (A.l fData) 8) (.ret 50) (.br (A.c .eql fKind 1) (.br (A.c .eql fReq 0) (.br (A.c .eql (A.l fData) 0) (.br (A.c .geq fFrom 0) (.br (A.c .lss fFrom 8) (.br (A.not (A.and (A.c .eql fCTime fCTime) (A.and (A.c .eql fCPos 0) (A.and (A.c .eql fCMode 0) (A.and (A.c .eql fCNext 0) (A.and (A.c .eql fCMember 0) true)))))) (.ret 50) (.ret 0)) (.ret 50)) (.ret 50)) (.ret 50)) (.ret 50)) (.br (A.c .eql fKind 3) (.br (A.c .eql (A.l fData) 0) (.br (A.not (A.c .eql fFrom 0)) (.ret 50) (.ret 0)) (.ret 50)) (.br (A.c .eql fKind 2) (.br (A.not (A.c .eql fFrom 0)) (.ret 50) (.ret 0)) (.br (A.c .eql fKind 4) (.br (A.not (A.c .eql fFrom 0)) (.ret 50) (.ret 0)) (.ret 50)))))))))
def pP:((Int×Int×(Int×Int×Int×Int×Int)×Int×List Int))→Int:=fun(fKind,fReq,(fCTime,fCPos,fCMode,fCNext,fCMember),fFrom,fData)=>(t57 aj fKind fReq fCTime fCPos fCMode fCNext fCMember fFrom fData).val (Ty.bE [yI])
def aiG:aB:=⟨[(.struct [yI,yI,(.struct [yI,yI,yI,yI,yI]),yI,yB])], [yI],(@tt ((Int×Int×(Int×Int×Int×Int×Int)×Int×List Int))),pP⟩
theorem ai6:Sd 237 aiG:=aJ ax bK true 109 [] (fun A (fKind,fReq,(fCTime,fCPos,fCMode,fCNext,fCMember),fFrom,fData)=>t57 A fKind fReq fCTime fCPos fCMode fCNext fCMember fFrom fData) (fc Tryz.func237 fz) (sc yZ sz) (fun((fKind,fReq,(fCTime,fCPos,fCMode,fCNext,fCMember),fFrom,fData):(Int×Int×(Int×Int×Int×Int×Int)×Int×List Int)) hp h=>by
 show(t57 aj fKind fReq fCTime fCPos fCMode fCNext fCMember fFrom fData).pre=true
 simp[t57,LT.pre,al,bH])
def t58(A:a_)(fKind:Int)(fReq:Int)(fCTime:Int)(fCPos:Int)(fCMode:Int)(fCNext:Int)(fCMember:Int)(fFrom:Int)(fData:List Int):LT Int Empty:=.br (A.c .lss fKind 1) (.ret 50) (.br (A.c .gtr fKind 4) (.ret 50) (.need (A.k (@tt ((Int×Int×Int×Int×Int)×Int)) ((fCTime,fCPos,fCMode,fCNext,fCMember),8)) (.br (A.c .neq (A.k pZ ((fCTime,fCPos,fCMode,fCNext,fCMember),8)) 0) (.ret 50) (.br (A.c .lss fReq 0) (.ret 50) (.br (A.c .gtr fReq 4) (.ret 50) (.br (A.c .gtr (A.l fData) 8) (.ret 50) (.br (A.c .eql fKind 1) (.br (A.c .gtr (A.l fData) 0) (.ret 50) (.br (A.c .neq fKind 1) (.br (A.c .neq fFrom 0) (.ret 50) (.ret 0)) (.br (A.c .neq fReq 0) (.ret 50) (.br (A.c .lss fFrom 0) (.ret 50) (.br (A.c .geq fFrom 8) (.ret 50) (.br (A.not (A.and (A.c .eql fCTime fCTime) (A.and (A.c .eql fCPos 0) (A.and (A.c .eql fCMode 0) (A.and (A.c .eql fCNext 0) (A.and (A.c .eql fCMember 0) true)))))) (.ret 50) (.ret 0))))))) (.br (A.c .eql fKind 3) (.br (A.c .gtr (A.l fData) 0) (.ret 50) (.br (A.c .neq fKind 1) (.br (A.c .neq fFrom 0) (.ret 50) (.ret 0)) (.br (A.c .neq fReq 0) (.ret 50) (.br (A.c .lss fFrom 0) (.ret 50) (.br (A.c .geq fFrom 8) (.ret 50) (.br (A.not (A.and (A.c .eql fCTime fCTime) (A.and (A.c .eql fCPos 0) (A.and (A.c .eql fCMode 0) (A.and (A.c .eql fCNext 0) (A.and (A.c .eql fCMember 0) true)))))) (.ret 50) (.ret 0))))))) (.br (A.c .neq fKind 1) (.br (A.c .neq fFrom 0) (.ret 50) (.ret 0)) (.br (A.c .neq fReq 0) (.ret 50) (.br (A.c .lss fFrom 0) (.ret 50) (.br (A.c .geq fFrom 8) (.ret 50) (.br (A.not (A.and (A.c .eql fCTime fCTime) (A.and (A.c .eql fCPos 0) (A.and (A.c .eql fCMode 0) (A.and (A.c .eql fCNext 0) (A.and (A.c .eql fCMember 0) true)))))) (.ret 50) (.ret 0))))))))))))))
def oD:((Int×Int×(Int×Int×Int×Int×Int)×Int×List Int))→Int:=fun(fKind,fReq,(fCTime,fCPos,fCMode,fCNext,fCMember),fFrom,fData)=>(t58 aj fKind fReq fCTime fCPos fCMode fCNext fCMember fFrom fData).val (Ty.bE [yI])
def ahf:aB:=⟨[(.struct [yI,yI,(.struct [yI,yI,yI,yI,yI]),yI,yB])], [yI],(@tt ((Int×Int×(Int×Int×Int×Int×Int)×Int×List Int))),oD⟩
theorem adq:Sd 128 ahf:=aJ ax bK true 114 [] (fun A (fKind,fReq,(fCTime,fCPos,fCMode,fCNext,fCMember),fFrom,fData)=>t58 A fKind fReq fCTime fCPos fCMode fCNext fCMember fFrom fData) (fc Tryz.func128 fz) (sc F8 sz) (fun((fKind,fReq,(fCTime,fCPos,fCMode,fCNext,fCMember),fFrom,fData):(Int×Int×(Int×Int×Int×Int×Int)×Int×List Int)) hp h=>by
 show(t58 aj fKind fReq fCTime fCPos fCMode fCNext fCMember fFrom fData).pre=true
 simp[t58,LT.pre,al,bH])
def t56(A:a_)(kind:Int)(data:Int):LT Int Empty:=.br (A.c .lss data 0) (.ret 0) (.br (A.c .gtr data 8) (.ret 0) (.br (A.c .eql kind 1) (.br (A.c .eql data 0) (.ret 40) (.br (A.c .eql kind 3) (.br (A.c .eql data 0) (.ret 54) (.br (A.c .eql kind 2) (.ret (A.b .add .i64 29 (A.b .mul .i64 8 data))) (.br (A.c .eql kind 4) (.ret (A.b .add .i64 79 (A.b .mul .i64 8 data))) (.ret 0)))) (.br (A.c .eql kind 2) (.ret (A.b .add .i64 29 (A.b .mul .i64 8 data))) (.br (A.c .eql kind 4) (.ret (A.b .add .i64 79 (A.b .mul .i64 8 data))) (.ret 0))))) (.br (A.c .eql kind 3) (.br (A.c .eql data 0) (.ret 54) (.br (A.c .eql kind 2) (.ret (A.b .add .i64 29 (A.b .mul .i64 8 data))) (.br (A.c .eql kind 4) (.ret (A.b .add .i64 79 (A.b .mul .i64 8 data))) (.ret 0)))) (.br (A.c .eql kind 2) (.ret (A.b .add .i64 29 (A.b .mul .i64 8 data))) (.br (A.c .eql kind 4) (.ret (A.b .add .i64 79 (A.b .mul .i64 8 data))) (.ret 0))))))
def nU:(Int×Int)→Int:=fun(kind,data)=>(t56 aj kind data).val (Ty.bE [yI])
def aiz:aB:=⟨[yI,yI], [yI],(@tt (Int×Int)),nU⟩
theorem age:Sd 227 aiz:=aJ ax bK true 67 [] (fun A (kind,data)=>t56 A kind data) (fc Tryz.func227 fz) sz (fun((kind,data):Int×Int) hp h=>by
 show(t56 aj kind data).pre=true
 simp[t56,LT.pre,al,bH])
def t59(A:a_)(kind:Int)(data:Int):LT Int Empty:=.br (A.c .lss data 0) (.ret 0) (.br (A.c .gtr data 8) (.ret 0) (.br (A.c .eql kind 1) (.br (A.c .eql data 0) (.ret 40) (.ret 0)) (.br (A.c .eql kind 2) (.ret (A.b .add .i64 29 (A.b .mul .i64 8 data))) (.br (A.c .eql kind 3) (.br (A.c .eql data 0) (.ret 54) (.ret 0)) (.br (A.c .eql kind 4) (.ret (A.b .add .i64 79 (A.b .mul .i64 8 data))) (.ret 0))))))
def yV:(Int×Int)→Int:=fun(kind,data)=>(t59 aj kind data).val (Ty.bE [yI])
def aiV:aB:=⟨[yI,yI], [yI],(@tt (Int×Int)),yV⟩
theorem abT:Sd 196 aiV:=aJ ax bK true 59 [] (fun A (kind,data)=>t59 A kind data) (fc Tryz.func196 fz) sz (fun((kind,data):Int×Int) hp h=>by
 show(t59 aj kind data).pre=true
 simp[t59,LT.pre,al,bH])
def t44(A:a_)(aKind:Int)(aReq:Int)(aCTime:Int)(aCPos:Int)(aCMode:Int)(aCNext:Int)(aCMember:Int)(aFrom:Int)(aData:List Int)(bKind:Int)(bReq:Int)(bCTime:Int)(bCPos:Int)(bCMode:Int)(bCNext:Int)(bCMember:Int)(bFrom:Int)(bData:List Int):LT Bool Empty:=.br (A.c .eql aKind bKind) (.br (A.c .eql aReq bReq) (.br (A.and (A.c .eql aCTime bCTime) (A.and (A.c .eql aCPos bCPos) (A.and (A.c .eql aCMode bCMode) (A.and (A.c .eql aCNext bCNext) (A.and (A.c .eql aCMember bCMember) true))))) (.br (A.c .eql aFrom bFrom) (.ret (A.z .eql (A.bytes aData) (A.bytes bData))) (.ret false)) (.ret false)) (.ret false)) (.ret false)
def Mg:((Int×Int×(Int×Int×Int×Int×Int)×Int×List Int)×(Int×Int×(Int×Int×Int×Int×Int)×Int×List Int))→Bool:=fun((aKind,aReq,(aCTime,aCPos,aCMode,aCNext,aCMember),aFrom,aData),bKind,bReq,(bCTime,bCPos,bCMode,bCNext,bCMember),bFrom,bData)=>(t44 aj aKind aReq aCTime aCPos aCMode aCNext aCMember aFrom aData bKind bReq bCTime bCPos bCMode bCNext bCMember bFrom bData).val (Ty.bE [.bool])
def aht:aB:=⟨[(.struct [yI,yI,(.struct [yI,yI,yI,yI,yI]),yI,yB]),(.struct [yI,yI,(.struct [yI,yI,yI,yI,yI]),yI,yB])], [.bool],(@tt ((Int×Int×(Int×Int×Int×Int×Int)×Int×List Int)×(Int×Int×(Int×Int×Int×Int×Int)×Int×List Int))),Mg⟩
theorem ady:Sd 109 aht:=aJ ax bK true 51 [] (fun A ((aKind,aReq,(aCTime,aCPos,aCMode,aCNext,aCMember),aFrom,aData),bKind,bReq,(bCTime,bCPos,bCMode,bCNext,bCMember),bFrom,bData)=>t44 A aKind aReq aCTime aCPos aCMode aCNext aCMember aFrom aData bKind bReq bCTime bCPos bCMode bCNext bCMember bFrom bData) (fc Tryz.func109 fz) sz (fun(((aKind,aReq,(aCTime,aCPos,aCMode,aCNext,aCMember),aFrom,aData),bKind,bReq,(bCTime,bCPos,bCMode,bCNext,bCMember),bFrom,bData):(Int×Int×(Int×Int×Int×Int×Int)×Int×List Int)×(Int×Int×(Int×Int×Int×Int×Int)×Int×List Int)) hp h=>by
 show(t44 aj aKind aReq aCTime aCPos aCMode aCNext aCMember aFrom aData bKind bReq bCTime bCPos bCMode bCNext bCMember bFrom bData).pre=true
 simp[t44,LT.pre,al,bH])
theorem wN{k r t p m n s fr:Int}{d:List Int}:pP (k,r,(t,p,m,n,s),fr,d)=bif fO (k,r,(t,p,m,n,s),fr,d) then 0 else 50:=by
 have hc:aj.c .neq (aj.k jZ ((t,p,m,n,s),8)) 0=!dQ (t,p,m,n,s):=by
  rw[show aj.k jZ ((t,p,m,n,s),8)=bif dQ (t,p,m,n,s) then 0 else 40 from ox (t,p,m,n,s)];cases dQ (t,p,m,n,s)<;>rfl
 have hl:aj.l d=(d.length:Int):=rfl
 have hiff:=gJ (k:=k) (r:=r) (t:=t) (p:=p) (m:=m) (n:=n) (s:=s) (fr:=fr) (d:=d)
 have hq:(t==t&&(p==0&&(m==0&&(n==0&&(s==0&&true)))))=decide (p=0∧m=0∧n=0∧s=0):=by
  rw[Bool.eq_iff_iff];simp
 simp only[pP,t57,LT.val,hc,hl,aC,aH,ar,ay,aG,aM,aQ,aT,hq,Bool.cond_eq_ite,hiff,Bool.and_eq_true,Bool.not_eq_true',decide_eq_true_eq,decide_eq_false_iff_not,beq_iff_eq,bne_iff_ne,ne_eq]
 cases dQ (t,p,m,n,s)
 ·simp
 ·simp only[Bool.true_eq_false,if_false,true_and,Bool.not_true,Bool.false_eq_true,ite_false,reduceIte]
  generalize d.length=len
  repeat' split
  all_goals first|rfl|(exfalso;omega)|(exfalso;simp at *;omega)
theorem rF{k r t p m n s fr:Int}{d:List Int}:oD (k,r,(t,p,m,n,s),fr,d)=bif fO (k,r,(t,p,m,n,s),fr,d) then 0 else 50:=by
 have hc:aj.c .neq (aj.k pZ ((t,p,m,n,s),8)) 0=!dQ (t,p,m,n,s):=by
  rw[show aj.k pZ ((t,p,m,n,s),8)=bif dQ (t,p,m,n,s) then 0 else 40 from ox (t,p,m,n,s)];cases dQ (t,p,m,n,s)<;>rfl
 have hl:aj.l d=(d.length:Int):=rfl
 have hiff:=gJ (k:=k) (r:=r) (t:=t) (p:=p) (m:=m) (n:=n) (s:=s) (fr:=fr) (d:=d)
 have hq:(t==t&&(p==0&&(m==0&&(n==0&&(s==0&&true)))))=decide (p=0∧m=0∧n=0∧s=0):=by
  rw[Bool.eq_iff_iff];simp
 simp only[oD,t58,LT.val,hc,hl,aC,aH,ar,ay,aG,aM,aQ,aT,hq,Bool.cond_eq_ite,hiff,Bool.and_eq_true,Bool.not_eq_true',decide_eq_true_eq,decide_eq_false_iff_not,beq_iff_eq,bne_iff_ne,ne_eq]
 cases dQ (t,p,m,n,s)
 ·simp
 ·simp only[Bool.true_eq_false,if_false,true_and,Bool.not_true,Bool.false_eq_true,ite_false,reduceIte]
  generalize d.length=len
  clear hiff hq hc hl
  by_cases k1:k=1
  ·subst k1
   simp only[show ¬((1:Int)<1) by decide,show ¬((4:Int)<1) by decide,not_true_eq_false,true_and,if_true,if_false]
   repeat' split
   all_goals first|rfl|(exfalso;omega)
  ·by_cases k3:k=3
   ·subst k3
    simp only[show ¬((3:Int)<1) by decide,show ¬((4:Int)<3) by decide,k1,true_and,false_and,false_or,not_false_eq_true,if_true,if_false]
    repeat' split
    all_goals first|rfl|(exfalso;omega)
   ·simp only[k1,k3,true_and,false_and,false_or,not_false_eq_true,if_true,if_false]
    repeat' split
    all_goals first|rfl|(exfalso;omega)
theorem yH{k d:Int}:nU (k,d)=lM (k,d)∧yV (k,d)=lM (k,d):=by
 have hm:0≤d∧d≤8→∀c:Int,c=29∨c=79→aj.b .add .i64 c (aj.b .mul .i64 8 d)=c+8*d:=by
  intro h c hc
  rw[nE,fV (by omega) (by omega),bf,fV (by omega) (by omega)]
 constructor
 ·simp only[nU,t56,LT.val,aC,ar,aG,Bool.cond_eq_ite,decide_eq_true_eq,beq_iff_eq,lM]
  by_cases h:0≤d∧d≤8
  ·rw[hm h 29 (.inl rfl),hm h 79 (.inr rfl),if_neg (show ¬d<0 by omega),if_neg (show ¬8<d by omega),if_pos h]
   repeat' split
   all_goals first|rfl|(exfalso;omega)
  ·rw[if_neg h]
   by_cases h1:d<0
   ·rw[if_pos h1]
   ·rw[if_neg h1,if_pos (show 8<d by omega)]
 ·simp only[yV,t59,LT.val,aC,ar,aG,Bool.cond_eq_ite,decide_eq_true_eq,beq_iff_eq,lM]
  by_cases h:0≤d∧d≤8
  ·rw[hm h 29 (.inl rfl),hm h 79 (.inr rfl),if_neg (show ¬d<0 by omega),if_neg (show ¬8<d by omega),if_pos h]
   repeat' split
   all_goals first|rfl|(exfalso;omega)
  ·rw[if_neg h]
   by_cases h1:d<0
   ·rw[if_pos h1]
   ·rw[if_neg h1,if_pos (show 8<d by omega)]
open Go.Ev.Pl
def Rf(A:a_)(n:Int)(kind:Int):LT Bool Empty:=.br (A.c .eql kind 1) (.ret (A.c .eql n 40)) (.br (A.c .eql kind 3) (.ret (A.c .eql n 54)) (.br (A.c .eql kind 2) (.br (A.c .geq (A.b .sub .i64 n 29) 0) (.br (A.c .leq (A.b .sub .i64 n 29) 64) (.ret (A.c .eql (A.b .rem .i64 (A.b .sub .i64 n 29) 8) 0)) (.ret false)) (.ret false)) (.br (A.c .geq (A.b .sub .i64 n 79) 0) (.br (A.c .leq (A.b .sub .i64 n 79) 64) (.ret (A.c .eql (A.b .rem .i64 (A.b .sub .i64 n 79) 8) 0)) (.ret false)) (.ret false))))
def kv:(Int×Int)→Bool:=fun(n,kind)=>(Rf aj n kind).val (Ty.bE [.bool])
def afw:aB:=⟨[yI,yI], [.bool],(@tt (Int×Int)),kv⟩
theorem aaI:Sd 232 afw:=aJ ax bK true 54 [] (fun A (n,kind)=>Rf A n kind) (fc Tryz.func232 fz) sz (fun((n,kind):Int×Int) hp h=>by
 show(Rf aj n kind).pre=true
 simp[Rf,LT.pre,al,bH])
def JU(A:a_)(bN:Int)(bB:List Int)(kind:Int)(unsentN:Int)(unsentB:List Int):LT ((Int×List Int)×(Int×List Int)×Int) Empty:=.br (A.c .neq kind 4) (.need (A.k (@tt ((Int×List Int)×(Int×List Int))) ((bN,bB),unsentN,unsentB)) (.br (A.c .neq (A.k dM ((bN,bB),unsentN,unsentB)).2 0) (.ret ((A.k dM ((bN,bB),unsentN,unsentB)).1,(0,([]:List Int)),(A.k dM ((bN,bB),unsentN,unsentB)).2)) (.br (A.c .neq kind 3) (.ret ((A.k dM ((bN,bB),unsentN,unsentB)).1,(0,([]:List Int)),(A.k dM ((bN,bB),unsentN,unsentB)).2)) (.need (A.k (@tt ((Int×List Int)×Int×Int)) ((A.k dM ((bN,bB),unsentN,unsentB)).1,(A.b .sub .i64 (A.k dM ((bN,bB),unsentN,unsentB)).1.1 24),(A.k dM ((bN,bB),unsentN,unsentB)).1.1)) (.ret ((A.k dM ((bN,bB),unsentN,unsentB)).1,(A.k cO ((A.k dM ((bN,bB),unsentN,unsentB)).1,(A.b .sub .i64 (A.k dM ((bN,bB),unsentN,unsentB)).1.1 24),(A.k dM ((bN,bB),unsentN,unsentB)).1.1)))))))) (.need (A.k (@tt ((Int×List Int)×Int×Int)) ((bN,bB),0,55)) (.br (A.c .neq (A.k cO ((bN,bB),0,55)).2 0) (.ret ((0,([]:List Int)),(0,([]:List Int)),(A.k cO ((bN,bB),0,55)).2)) (.need (A.k (@tt ((Int×List Int)×(Int×List Int))) ((A.k cO ((bN,bB),0,55)).1,0,([]:List Int))) (.br (A.c .neq (A.k dM ((A.k cO ((bN,bB),0,55)).1,0,([]:List Int))).2 0) (.ret ((0,([]:List Int)),(0,([]:List Int)),(A.k dM ((A.k cO ((bN,bB),0,55)).1,0,([]:List Int))).2)) (.need (A.k (@tt ((Int×List Int)×Int×Int)) ((A.k dM ((A.k cO ((bN,bB),0,55)).1,0,([]:List Int))).1,(A.b .sub .i64 (A.k dM ((A.k cO ((bN,bB),0,55)).1,0,([]:List Int))).1.1 24),(A.k dM ((A.k cO ((bN,bB),0,55)).1,0,([]:List Int))).1.1)) (.br (A.c .neq (A.k cO ((A.k dM ((A.k cO ((bN,bB),0,55)).1,0,([]:List Int))).1,(A.b .sub .i64 (A.k dM ((A.k cO ((bN,bB),0,55)).1,0,([]:List Int))).1.1 24),(A.k dM ((A.k cO ((bN,bB),0,55)).1,0,([]:List Int))).1.1)).2 0) (.ret ((0,([]:List Int)),(0,([]:List Int)),(A.k cO ((A.k dM ((A.k cO ((bN,bB),0,55)).1,0,([]:List Int))).1,(A.b .sub .i64 (A.k dM ((A.k cO ((bN,bB),0,55)).1,0,([]:List Int))).1.1 24),(A.k dM ((A.k cO ((bN,bB),0,55)).1,0,([]:List Int))).1.1)).2)) (.need (A.k (@tt ((Int×List Int)×(Int×List Int))) ((bN,bB),(A.k cO ((A.k dM ((A.k cO ((bN,bB),0,55)).1,0,([]:List Int))).1,(A.b .sub .i64 (A.k dM ((A.k cO ((bN,bB),0,55)).1,0,([]:List Int))).1.1 24),(A.k dM ((A.k cO ((bN,bB),0,55)).1,0,([]:List Int))).1.1)).1)) (.ret ((A.k dM ((bN,bB),(A.k cO ((A.k dM ((A.k cO ((bN,bB),0,55)).1,0,([]:List Int))).1,(A.b .sub .i64 (A.k dM ((A.k cO ((bN,bB),0,55)).1,0,([]:List Int))).1.1 24),(A.k dM ((A.k cO ((bN,bB),0,55)).1,0,([]:List Int))).1.1)).1)).1,(A.k cO ((A.k dM ((A.k cO ((bN,bB),0,55)).1,0,([]:List Int))).1,(A.b .sub .i64 (A.k dM ((A.k cO ((bN,bB),0,55)).1,0,([]:List Int))).1.1 24),(A.k dM ((A.k cO ((bN,bB),0,55)).1,0,([]:List Int))).1.1)).1,(A.k dM ((bN,bB),(A.k cO ((A.k dM ((A.k cO ((bN,bB),0,55)).1,0,([]:List Int))).1,(A.b .sub .i64 (A.k dM ((A.k cO ((bN,bB),0,55)).1,0,([]:List Int))).1.1 24),(A.k dM ((A.k cO ((bN,bB),0,55)).1,0,([]:List Int))).1.1)).1)).2)))))))))
def bI:((Int×List Int)×Int×(Int×List Int))→((Int×List Int)×(Int×List Int)×Int):=fun((bN,bB),kind,unsentN,unsentB)=>(JU aj bN bB kind unsentN unsentB).val (Ty.bE [(.struct [yI,yB]),(.struct [yI,yB]),yI])
def aeN:aB:=⟨[(.struct [yI,yB]),yI,(.struct [yI,yB])], [(.struct [yI,yB]),(.struct [yI,yB]),yI],(@tt ((Int×List Int)×Int×(Int×List Int))),bI⟩
theorem ZP:Sd 234 aeN:=aJ ax bK true 110 [] (fun A ((bN,bB),kind,unsentN,unsentB)=>JU A bN bB kind unsentN unsentB) (fc Tryz.func234 fz) (sc Zl (sc Ry sz)) (fun(((bN,bB),kind,unsentN,unsentB):(Int×List Int)×Int×(Int×List Int)) hp h=>by
 show(JU aj bN bB kind unsentN unsentB).pre=true
 simp[JU,LT.pre,al,bH])
theorem IB{n:Nat}(hn:n≤4096):kv ((n:Int),1)=dX n 1∧kv ((n:Int),2)=dX n 2∧kv ((n:Int),3)=dX n 3∧kv ((n:Int),4)=dX n 4:=by
 have key:∀a:Nat,a≤100→(bif aj.c .geq (aj.b .sub .i64 (n:Int) (a:Int)) 0 then(bif aj.c .leq (aj.b .sub .i64 (n:Int) (a:Int)) 64 then aj.c .eql (aj.b .rem .i64 (aj.b .sub .i64 (n:Int) (a:Int)) 8) 0 else false) else false)=(decide (a≤n)&&decide (n≤a+64)&&decide ((n-a)%8=0)):=by
  intro a ha
  rw[aX,fV (by omega) (by omega),aM,ay,aC,wZ]
  by_cases h1:a≤n
  ·rw[Int.tmod_eq_emod_of_nonneg (by omega),show decide ((0:Int)≤(n:Int)-(a:Int))=true from by simp;omega,cond_true,show decide (a≤n)=true from by simpa using h1,Bool.true_and]
   by_cases h2:n≤a+64
   ·rw[show decide ((n:Int)-(a:Int)≤64)=true from by simp;omega,cond_true,show decide (n≤a+64)=true from by simpa using h2,Bool.true_and,Bool.eq_iff_iff]
    simp only[beq_iff_eq,decide_eq_true_eq]
    omega
   ·rw[show decide ((n:Int)-(a:Int)≤64)=false from by simp;omega,cond_false,show decide (n≤a+64)=false from by simpa using h2,Bool.false_and]
  ·rw[show decide ((0:Int)≤(n:Int)-(a:Int))=false from by simp;omega,cond_false,show decide (a≤n)=false from by simpa using h1,Bool.false_and,Bool.false_and]
 refine⟨?_,?_,?_,?_⟩
 ·show((n:Int)==40)=(n==40)
  rw[Bool.eq_iff_iff];simp;omega
 ·refine(key 29 (by decide)).trans ?_
  show _=(decide (29≤n)&&decide (n≤93)&&(n%8==5))
  rw[Bool.eq_iff_iff];simp;omega
 ·show((n:Int)==54)=(n==54)
  rw[Bool.eq_iff_iff];simp;omega
 ·refine(key 79 (by decide)).trans ?_
  show _=(decide (79≤n)&&decide (n≤143)&&(n%8==7))
  rw[Bool.eq_iff_iff];simp;omega
theorem AR{n m k:Int}{b u:List Int}(hk:k=1∨k=2):bI ((n,b),k,(m,u))=((dd ((n,b),(m,u))).1,zB,(dd ((n,b),(m,u))).2):=by
 have h1:aj.c .neq k 4=true:=dE (by omega)
 have h3:aj.c .neq k 3=true:=dE (by omega)
 simp only[bI,JU,LT.val,h1,h3,cond_true]
 show(bif _ then _ else _)=_
 cases aj.c .neq (aj.k dM ((n,b),(m,u))).2 0<;>rfl
theorem ND{n m:Int}{b u:List Int}:bI ((n,b),3,(m,u))=bif (dd ((n,b),(m,u))).2 != 0 then((dd ((n,b),(m,u))).1,zB,(dd ((n,b),(m,u))).2) else((dd ((n,b),(m,u))).1,cd ((dd ((n,b),(m,u))).1,aj.b .sub .i64 (dd ((n,b),(m,u))).1.1 24,(dd ((n,b),(m,u))).1.1)):=by kernel_rfl
theorem Oq{n m:Int}{b u:List Int}:bI ((n,b),4,(m,u))=bif (cd ((n,b),0,55)).2 != 0 then(zB,zB,(cd ((n,b),0,55)).2) else
  bif (dd ((cd ((n,b),0,55)).1,zB)).2 != 0 then(zB,zB,(dd ((cd ((n,b),0,55)).1,zB)).2) else
  bif (cd ((dd ((cd ((n,b),0,55)).1,zB)).1,aj.b .sub .i64 (dd ((cd ((n,b),0,55)).1,zB)).1.1 24,(dd ((cd ((n,b),0,55)).1,zB)).1.1)).2 != 0 then(zB,zB,(cd ((dd ((cd ((n,b),0,55)).1,zB)).1,aj.b .sub .i64 (dd ((cd ((n,b),0,55)).1,zB)).1.1 24,(dd ((cd ((n,b),0,55)).1,zB)).1.1)).2) else
  ((dd ((n,b),(cd ((dd ((cd ((n,b),0,55)).1,zB)).1,aj.b .sub .i64 (dd ((cd ((n,b),0,55)).1,zB)).1.1 24,(dd ((cd ((n,b),0,55)).1,zB)).1.1)).1)).1,(cd ((dd ((cd ((n,b),0,55)).1,zB)).1,aj.b .sub .i64 (dd ((cd ((n,b),0,55)).1,zB)).1.1 24,(dd ((cd ((n,b),0,55)).1,zB)).1.1)).1,(dd ((n,b),(cd ((dd ((cd ((n,b),0,55)).1,zB)).1,aj.b .sub .i64 (dd ((cd ((n,b),0,55)).1,zB)).1.1 24,(dd ((cd ((n,b),0,55)).1,zB)).1.1)).1)).2):=by kernel_rfl
theorem mR{l:List Bool}(h1:24≤l.length)(h2:l.length≤4096):cd (bJ l,aj.b .sub .i64 (bJ l).1 24,(bJ l).1)=(bJ (l.drop (l.length-24)),0):=by
 have hb:(bJ l).1=((l.length:Nat):Int):=rfl
 rw[hb,show aj.b .sub .i64 ((l.length:Nat):Int) 24=((l.length-24:Nat):Int) from l6 (j:=24) h1 (by omega),IN h2 (by omega) (Nat.le_refl _),List.take_length]
theorem IX{n:Nat}{b:List Int}(hok:bC ((n:Int),b)=true)(hn:n=54):bI (((n:Int),b),3,(0, []))=bif over 0 (unpack n b) != 0 then(zB,zB,21) else(bJ ((unpack n b).take 30),bJ (((unpack n b).drop 6).take 24),0):=by
 have hl:(bw ((n:Int),b)).length=n:=by rw[dO];rfl
 have e:=gL (u:=(0, [])) hok rfl (by omega)
 rw[hl,show over 0 (bw ((0:Int),([]:List Int)))=0 from rfl,show n-24=30 from by omega,show bw ((n:Int),b)=unpack n b from rfl] at e
 have h30:((unpack n b).take 30).length=30:=by rw[List.length_take,bg];omega
 have e2:=mR (l:=(unpack n b).take 30) (by omega) (by omega)
 rw[h30,List.drop_take,show 30-24=6 from rfl,show 30-6=24 from rfl] at e2
 rw[ND,e]
 cases over 0 (unpack n b) != 0
 ·simp only[cond_false]
  rw[e2];rfl
 ·rfl
theorem IJ{n:Nat}{b:List Int}(hok:bC ((n:Int),b)=true)(hn:79≤n)(hn2:n≤143):bI (((n:Int),b),4,(0, []))=bif over 0 ((unpack n b).take 55) != 0 then(zB,zB,21) else bif over (over 0 (((unpack n b).drop 7).take 24)) (unpack n b) != 0 then(zB,bJ (((unpack n b).drop 7).take 24),21) else(bJ ((unpack n b).take (n-24)),bJ (((unpack n b).drop 7).take 24),0):=by
 have hl:(bw ((n:Int),b)).length=n:=by rw[dO];rfl
 have h55:((unpack n b).take 55).length=55:=by rw[List.length_take,bg];omega
 have h31:((unpack n b).take 31).length=31:=by rw[List.length_take,bg];omega
 have e1:cd (((n:Int),b),0,55)=(bJ ((unpack n b).take 55),0):=by
  rw[cd]
  simp only[hok]
  rw[show decide ((n:Int)<55)=false from by simp;omega]
  rfl
 have e2:dd (bJ ((unpack n b).take 55),zB)=bif over 0 ((unpack n b).take 55) != 0 then(zB,21) else(bJ ((unpack n b).take 31),0):=by
  have hk:bC (bJ ((unpack n b).take 55))=true:=fE (by omega)
  have:=gL (n:=(bJ ((unpack n b).take 55)).1) (b:=(bJ ((unpack n b).take 55)).2) (u:=zB) hk rfl (by rw[show((bJ ((unpack n b).take 55)).1,(bJ ((unpack n b).take 55)).2)=bJ ((unpack n b).take 55) from rfl,eF];omega)
  rw[show((bJ ((unpack n b).take 55)).1,(bJ ((unpack n b).take 55)).2)=bJ ((unpack n b).take 55) from rfl,eF,h55,List.take_take,show over 0 (bw zB)=0 from rfl] at this
  exact this
 have e3:cd (bJ ((unpack n b).take 31),aj.b .sub .i64 (bJ ((unpack n b).take 31)).1 24,(bJ ((unpack n b).take 31)).1)=(bJ (((unpack n b).drop 7).take 24),0):=by
  have:=mR (l:=(unpack n b).take 31) (by omega) (by omega)
  rw[h31,List.drop_take] at this
  exact this
 have e4:dd (((n:Int),b),bJ (((unpack n b).drop 7).take 24))=bif over (over 0 (((unpack n b).drop 7).take 24)) (unpack n b) != 0 then(zB,21) else(bJ ((unpack n b).take (n-24)),0):=by
  rw[gL hok (fE (by rw[List.length_take];omega)) (by omega),hl,eF];rfl
 rw[Oq,e1]
 simp only[e2]
 cases over 0 ((unpack n b).take 55) != 0
 ·simp only[cond_false,e3]
  rw[e4]
  cases over (over 0 (((unpack n b).drop 7).take 24)) (unpack n b) != 0<;>rfl
 ·rfl
end Go.Ev.M
