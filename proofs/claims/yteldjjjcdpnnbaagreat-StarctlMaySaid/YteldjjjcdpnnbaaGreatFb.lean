/-
  PROVED: what the functions of the packages crc, cstate, metronomeref02 and metronomeref04 compute, and some of frame and metronomeref05. Conditions: none.
-/
import Derived.Test.YteldjjjcdpnnbaaGreatFa
namespace Go.Ev.M
open Go.Proofs
set_option maxRecDepth 100000
set_option linter.unusedVariables false
set_option linter.unusedSimpArgs false
open Go.Ev.Pl
def IY(A:bi)(r:Int):LT Int Empty:=.br (A.c .eql (A.b .shr .u32 r 23) 1) (.ret (A.b .xor .u32 (A.b .and .u32 (A.b .shl .u32 r 1) 16777215) 6122955)) (.ret (A.b .and .u32 (A.b .shl .u32 r 1) 16777215))
def za:Int→Int:=fun r=>(IY aj r).val (Ty.bZ [(.int .u32)])
def Vy:aD:=⟨[(.int .u32)], [(.int .u32)],(@tt Int),za⟩
theorem Pd:Sd 267 Vy:=aM au cK true 35 [] (fun A r=>IY A r) (fc Tryz.func267 fz) sz (fun(r:Int) hp h=>by
 show(IY aj r).pre=true
 simp[IY,LT.pre])
theorem N1{a:Int}(h1:0≤a)(h2:a≤4294967295):IntKind.u32.wrap a=a:=IntWalk.u32_in a ⟨h1,h2⟩
theorem CP{a b:Nat}(ha:a<4294967296)(hb:b<4294967296):aj.b .xor .u32 (a:Int) (b:Int)=((a ^^^ b:Nat):Int):=by
 show IntKind.u32.wrap ((BitVec.ofInt 32 (a:Int) ^^^ BitVec.ofInt 32 (b:Int)).toNat:Int)=_
 rw[BitVec.ofInt_natCast,BitVec.ofInt_natCast,BitVec.toNat_xor,BitVec.toNat_ofNat,BitVec.toNat_ofNat,Nat.mod_eq_of_lt ha,Nat.mod_eq_of_lt hb]
 have:a ^^^ b<2^32:=Nat.xor_lt_two_pow ha hb
 rw[N1 (by omega) (by omega)]
theorem Oc{a:Nat}(ha:a<4294967296):aj.b .and .u32 (a:Int) 16777215=((a%16777216:Nat):Int):=by
 show IntKind.u32.wrap ((BitVec.ofInt 32 (a:Int) &&& BitVec.ofInt 32 ((16777215:Nat):Int)).toNat:Int)=_
 rw[BitVec.ofInt_natCast,BitVec.ofInt_natCast,BitVec.toNat_and,BitVec.toNat_ofNat,BitVec.toNat_ofNat,Nat.mod_eq_of_lt ha,show 16777215%2^32=2^24-1 from rfl,Nat.and_two_pow_sub_one_eq_mod,N1 (by omega) (by omega)]
theorem E6{a k:Nat}(hk:k≤32)(h:a*2^k<4294967296):aj.b .shl .u32 (a:Int) (k:Int)=((a*2^k:Nat):Int):=by
 show IntKind.u32.wrap ((a:Int)*2^min (k:Int).toNat 32)=_
 rw[Int.toNat_natCast,Nat.min_eq_left hk,show(a:Int)*2^k=((a*2^k:Nat):Int) from by simp,N1 (by omega) (by omega)]
theorem LH{r:Nat}(hr:r<16777216):za (r:Int)=((step1 r false:Nat):Int):=by
 simp only[za,IY,LT.val]
 have h1:aj.b .shr .u32 (r:Int) 23=((r/2^23:Nat):Int):=Lg (n:=23) (by omega) (by decide)
 have h2:aj.b .and .u32 (aj.b .shl .u32 (r:Int) 1) 16777215=((2*r%16777216:Nat):Int):=by
  have h3:aj.b .shl .u32 (r:Int) 1=((r*2^1:Nat):Int):=E6 (k:=1) (by decide) (by omega)
  rw[h3,Oc (by omega),Nat.pow_one,Nat.mul_comm]
 rw[h1,h2,step1,Bool.bne_false]
 have h4:aj.c .eql ((r/2^23:Nat):Int) 1=decide (8388608≤r):=by
  rw[aF,Bool.eq_iff_iff,decide_eq_true_eq,beq_iff_eq]
  omega
 rw[h4]
 cases decide (8388608≤r)
 ·rfl
 ·have:aj.b .xor .u32 ((2*r%16777216:Nat):Int) 6122955=((2*r%16777216 ^^^ 6122955:Nat):Int):=CP (b:=6122955) (by omega) (by decide)
  rw[cond_true,cond_true,this]
structure Qf where
 (a0 a1 a2 a3 a4 a5 a6 a7 a8 a9 bH dP a12 jw iv rG a16 a17 tG l_ a20 a21 a22 a23 a24 a25 a26 a27 a28 a29 a30 a31 a32:Int)
structure Qv where
 (b0 b2 b4 b5 b6 b7 b8 b9 b10 b11 b12 b13 z_ Bj dL im tH lI mT lZ mU sj sQ rV qc mV mQ zx zD zw zt zR z8 zg:Int)
inductive NP where
 | c0 (p:Qf)
 | c1 (p:Qv) (b1:Int) (b3:Int)
noncomputable def Sp:NP→gB
 | .c0 p=>⟨[⟨265,20,(en [(0,.ptr 0 0),(1,.ptr 1 0),(4,vi p.a0)]),[.inLoop (cw Tryz.f265 [1,1,0,1,0,0]),.inBlock 0,.code (cw Tryz.f265 [1,1,1])],[],none⟩],[.flat false [.int .u32 false p.a1,.int .u32 false p.a2,.int .u32 false p.a3,.int .u32 false p.a4,.int .u32 false p.a5,.int .u32 false p.a6,.int .u32 false p.a7,.int .u32 false p.a8,.int .u32 false p.a9,.int .u32 false p.bH,.int .u32 false p.dP,.int .u32 false p.a12,.int .u32 false p.jw,.int .u32 false p.iv,.int .u32 false p.rG,.int .u32 false p.a16],.flat false [.int .u32 false p.a17,.int .u32 false p.tG,.int .u32 false p.l_,.int .u32 false p.a20,.int .u32 false p.a21,.int .u32 false p.a22,.int .u32 false p.a23,.int .u32 false p.a24,.int .u32 false p.a25,.int .u32 false p.a26,.int .u32 false p.a27,.int .u32 false p.a28,.int .u32 false p.a29,.int .u32 false p.a30,.int .u32 false p.a31,.int .u32 false p.a32],.dead]⟩
 | .c1 p b1 b3=>⟨[⟨265,20,(en [(0,.ptr 0 0),(1,.ptr 1 0),(2,vi p.b0),(3,.int .u32 false b1),(4,vi p.b2),(10,vi b3)]),[.inLoop (cw Tryz.f265 [1,1,0,1,0,0,1,1,0,0,1,1,0,1,0,0]),.inBlock 2,.code (cw Tryz.f265 [1,1,0,1,0,0,1,1,0,0,1,1,1]),.inBlock 1,.code (cw Tryz.f265 [1,1,0,1,0,0,1,1,1]),.inLoop (cw Tryz.f265 [1,1,0,1,0,0]),.inBlock 0,.code (cw Tryz.f265 [1,1,1])],[],none⟩],[.flat false [.int .u32 false p.b4,.int .u32 false p.b5,.int .u32 false p.b6,.int .u32 false p.b7,.int .u32 false p.b8,.int .u32 false p.b9,.int .u32 false p.b10,.int .u32 false p.b11,.int .u32 false p.b12,.int .u32 false p.b13,.int .u32 false p.z_,.int .u32 false p.Bj,.int .u32 false p.dL,.int .u32 false p.im,.int .u32 false p.tH,.int .u32 false p.lI],.flat false [.int .u32 false p.mT,.int .u32 false p.lZ,.int .u32 false p.mU,.int .u32 false p.sj,.int .u32 false p.sQ,.int .u32 false p.rV,.int .u32 false p.qc,.int .u32 false p.mV,.int .u32 false p.mQ,.int .u32 false p.zx,.int .u32 false p.zD,.int .u32 false p.zw,.int .u32 false p.zt,.int .u32 false p.zR,.int .u32 false p.z8,.int .u32 false p.zg],.dead]⟩
def Ut(A:bi):LT (List Int) NP:=.more (.c0 ⟨0,0,0,0,0,0,0,0,0,0,0,0,0,0,0,0,0,0,0,0,0,0,0,0,0,0,0,0,0,0,0,0,0⟩)
def Um(A:bi):NP→LT (List Int) NP
 | .c0 p=>.br (A.c .lss p.a0 16) (.more (.c1 ⟨p.a0,p.a0,p.a1,p.a2,p.a3,p.a4,p.a5,p.a6,p.a7,p.a8,p.a9,p.bH,p.dP,p.a12,p.jw,p.iv,p.rG,p.a16,p.a17,p.tG,p.l_,p.a20,p.a21,p.a22,p.a23,p.a24,p.a25,p.a26,p.a27,p.a28,p.a29,p.a30,p.a31,p.a32⟩ (A.b .shl .u32 (A.v .u32 p.a0) 20) 0)) (.ret [p.a17,p.tG,p.l_,p.a20,p.a21,p.a22,p.a23,p.a24,p.a25,p.a26,p.a27,p.a28,p.a29,p.a30,p.a31,p.a32])
 | .c1 p b1 b3=>.br (A.c .lss b3 4) (.need (A.k (@tt Int) b1) (.more (.c1 p (A.k za b1) (A.b .add .i64 b3 1)))) (.need (A.and (A.c .leq 0 p.b0) (A.c .lss p.b0 16)) (.more (.c0 ⟨(A.b .add .i64 p.b2 1),p.b4,p.b5,p.b6,p.b7,p.b8,p.b9,p.b10,p.b11,p.b12,p.b13,p.z_,p.Bj,p.dL,p.im,p.tH,p.lI,(A.n (.int .u32) (A.set [p.mT,p.lZ,p.mU,p.sj,p.sQ,p.rV,p.qc,p.mV,p.mQ,p.zx,p.zD,p.zw,p.zt,p.zR,p.z8,p.zg] p.b0 b1) 0:Int),(A.n (.int .u32) (A.set [p.mT,p.lZ,p.mU,p.sj,p.sQ,p.rV,p.qc,p.mV,p.mQ,p.zx,p.zD,p.zw,p.zt,p.zR,p.z8,p.zg] p.b0 b1) 1:Int),(A.n (.int .u32) (A.set [p.mT,p.lZ,p.mU,p.sj,p.sQ,p.rV,p.qc,p.mV,p.mQ,p.zx,p.zD,p.zw,p.zt,p.zR,p.z8,p.zg] p.b0 b1) 2:Int),(A.n (.int .u32) (A.set [p.mT,p.lZ,p.mU,p.sj,p.sQ,p.rV,p.qc,p.mV,p.mQ,p.zx,p.zD,p.zw,p.zt,p.zR,p.z8,p.zg] p.b0 b1) 3:Int),(A.n (.int .u32) (A.set [p.mT,p.lZ,p.mU,p.sj,p.sQ,p.rV,p.qc,p.mV,p.mQ,p.zx,p.zD,p.zw,p.zt,p.zR,p.z8,p.zg] p.b0 b1) 4:Int),(A.n (.int .u32) (A.set [p.mT,p.lZ,p.mU,p.sj,p.sQ,p.rV,p.qc,p.mV,p.mQ,p.zx,p.zD,p.zw,p.zt,p.zR,p.z8,p.zg] p.b0 b1) 5:Int),(A.n (.int .u32) (A.set [p.mT,p.lZ,p.mU,p.sj,p.sQ,p.rV,p.qc,p.mV,p.mQ,p.zx,p.zD,p.zw,p.zt,p.zR,p.z8,p.zg] p.b0 b1) 6:Int),(A.n (.int .u32) (A.set [p.mT,p.lZ,p.mU,p.sj,p.sQ,p.rV,p.qc,p.mV,p.mQ,p.zx,p.zD,p.zw,p.zt,p.zR,p.z8,p.zg] p.b0 b1) 7:Int),(A.n (.int .u32) (A.set [p.mT,p.lZ,p.mU,p.sj,p.sQ,p.rV,p.qc,p.mV,p.mQ,p.zx,p.zD,p.zw,p.zt,p.zR,p.z8,p.zg] p.b0 b1) 8:Int),(A.n (.int .u32) (A.set [p.mT,p.lZ,p.mU,p.sj,p.sQ,p.rV,p.qc,p.mV,p.mQ,p.zx,p.zD,p.zw,p.zt,p.zR,p.z8,p.zg] p.b0 b1) 9:Int),(A.n (.int .u32) (A.set [p.mT,p.lZ,p.mU,p.sj,p.sQ,p.rV,p.qc,p.mV,p.mQ,p.zx,p.zD,p.zw,p.zt,p.zR,p.z8,p.zg] p.b0 b1) 10:Int),(A.n (.int .u32) (A.set [p.mT,p.lZ,p.mU,p.sj,p.sQ,p.rV,p.qc,p.mV,p.mQ,p.zx,p.zD,p.zw,p.zt,p.zR,p.z8,p.zg] p.b0 b1) 11:Int),(A.n (.int .u32) (A.set [p.mT,p.lZ,p.mU,p.sj,p.sQ,p.rV,p.qc,p.mV,p.mQ,p.zx,p.zD,p.zw,p.zt,p.zR,p.z8,p.zg] p.b0 b1) 12:Int),(A.n (.int .u32) (A.set [p.mT,p.lZ,p.mU,p.sj,p.sQ,p.rV,p.qc,p.mV,p.mQ,p.zx,p.zD,p.zw,p.zt,p.zR,p.z8,p.zg] p.b0 b1) 13:Int),(A.n (.int .u32) (A.set [p.mT,p.lZ,p.mU,p.sj,p.sQ,p.rV,p.qc,p.mV,p.mQ,p.zx,p.zD,p.zw,p.zt,p.zR,p.z8,p.zg] p.b0 b1) 14:Int),(A.n (.int .u32) (A.set [p.mT,p.lZ,p.mU,p.sj,p.sQ,p.rV,p.qc,p.mV,p.mQ,p.zx,p.zD,p.zw,p.zt,p.zR,p.z8,p.zg] p.b0 b1) 15:Int)⟩)))
def goT{R Y:Type}(step:Y→LT R Y):Nat→LT R Y→Option R
 | 0,_=>none
 | _+1,.ret r=>some r
 | n+1,.more y=>goT step n (step y)
 | n+1,.br b t e=>bif b then goT step n t else goT step n e
 | n+1,.need b t=>bif b then goT step n t else none
 | _+1,_=>none
theorem IQ{R Y:Type}{step:Y→LT R Y}:∀{n:Nat} {t:LT R Y} {r:R},goT step n t=some r→aA step t r:=by
 intro n
 induction n with
 | zero=>intro t r h;cases h
 | succ n ih=>
   intro t r h
   cases t with
   | ret x=>cases h;exact .ret _
   | more y=>exact .more (ih h)
   | br b t e=>
     rw[goT] at h
     cases b
     ·exact(ah rfl).2 (ih h)
     ·exact(ai rfl).2 (ih h)
   | need b t=>
     rw[goT] at h
     cases b
     ·cases h
     ·exact af.2 ⟨rfl,ih h⟩
   | eqs p t=>cases h
   | bad m s=>cases h
def XQ:List Int:=[0,6122955,12245910,15185501,2677479,7714604,9568625,13593786,5354958,841733,15429208,11928467,7958313,2360034,12825791,10410356]
theorem HE:∀i:Fin 16,XQ.getD i.val 0=((Cs.getD i.val 0:Nat):Int):=by decide +kernel
theorem Im:∀i:Fin 16,Cs.getD i.val 0<16777216:=by decide +kernel
theorem Pt:aA (Um aj) (Ut aj) XQ:=IQ (n:=400) (by kernel_rfl)
def ju:Unit→(List Int):=fun _=>[0,6122955,12245910,15185501,2677479,7714604,9568625,13593786,5354958,841733,15429208,11928467,7958313,2360034,12825791,10410356]
def Ug:aD:=⟨[], [(.arr 16 (.int .u32))],(@tt Unit),ju⟩
theorem T5:Sd 265 Ug:=aL au cK true 21 [⟨265,3, [[0,1,4]]⟩,⟨265,7, [[0,1,2,3,4,10]]⟩] [] (fun A _=>Ut A) Um Sp (fc Tryz.func265 fz) (sc Pd sz) (fun A y=>match y with |.c0 p=>⟨34,by kernel_rfl,by kernel_rfl⟩|.c1 p b1 b3=>⟨25,by kernel_rfl,by kernel_rfl⟩) fun _ hp h=>Pt
open Go.Ev.Pl
structure Ky where
 (a1:List Bool)
inductive He where
 | c0 (p:Ky) (a0:Int) (a2:Int)
noncomputable def Sw:He→gB
 | .c0 p a0 a2=>⟨[⟨223,29,(en [(0,.int .u32 false a0),(1,.sl .bool p.a1),(5,vi a2)]),[.inLoop (cw Tryz.f223 [1,0,1,0,0]),.inBlock 0,.code (cw Tryz.f223 [1,1])],[],none⟩],[.dead]⟩
def t160(A:bi)(r:Int)(l:List Bool):LT Int He:=.more (.c0 ⟨l⟩ r 0)
def Kr(A:bi):He→LT Int He
 | .c0 p a0 a2=>.br (A.c .lss a2 (A.l p.a1)) (.need (A.and (A.c .leq 0 a2) (A.c .lss a2 (A.l p.a1))) (.br (A.not (A.q (A.c .eql (A.b .rem .u32 (A.b .shr .u32 a0 23) 2) 1) (A.n .bool p.a1 a2:Bool))) (.more (.c0 p (A.b .xor .u32 (A.b .rem .u32 (A.b .shl .u32 a0 1) 16777216) 6122955) (A.b .add .i64 a2 1))) (.more (.c0 p (A.b .rem .u32 (A.b .shl .u32 a0 1) 16777216) (A.b .add .i64 a2 1))))) (.ret a0)
theorem Ko{l:List Bool}(hl:l.length≤140737488355328):∀(j i r:Nat) (p:Ky),p.a1=l→l.length-i=j→i≤l.length→r<16777216→aA (Kr aj) (.more (.c0 p (r:Int) (i:Int))) ((over r (l.drop i):Nat):Int):=by
 intro j
 induction j with
 | zero=>
   intro i r p h1 hj hi hr
   have:i=l.length:=by omega
   subst this
   simp only[al,Kr]
   refine(ah (by rw[show aj.l p.a1=(l.length:Int) from by rw[h1];rfl,aO];simp)).2 ?_
   rw[List.drop_length,nA]
   exact .ret _
 | succ j ih=>
   intro i r p h1 hj hi hr
   have hi':i<l.length:=by omega
   simp only[al,Kr]
   refine(ai (by rw[show aj.l p.a1=(l.length:Int) from by rw[h1];rfl,aO];simp;omega)).2 (af.2 ⟨by rw[h1];exact bT hi',?_⟩)
   have hn:(aj.n .bool p.a1 (i:Int):Bool)=l[i]:=by rw[h1];exact getD_in hi' _
   have h4:aj.c .eql (aj.b .rem .u32 (aj.b .shr .u32 (r:Int) 23) 2) 1=decide (8388608≤r):=by
    rw[show aj.b .shr .u32 (r:Int) 23=((r/2^23:Nat):Int) from Lg (n:=23) (by omega) (by decide),Ce]
    exact decide_eq_decide.2 (by omega)
   have h2:aj.b .rem .u32 (aj.b .shl .u32 (r:Int) 1) 16777216=((2*r%16777216:Nat):Int):=by
    rw[show aj.b .shl .u32 (r:Int) 1=((r*2^1:Nat):Int) from E6 (k:=1) (by decide) (by omega),AJ,Int.tmod_eq_emod_of_nonneg (by omega)]
    omega
   have hb:aj.not (aj.q (aj.c .eql (aj.b .rem .u32 (aj.b .shr .u32 (r:Int) 23) 2) 1) (aj.n .bool p.a1 (i:Int):Bool))=(decide (8388608≤r) != l[i]):=by
    rw[h4,hn];rfl
   have hd:over r (l.drop i)=over (step1 r l[i]) (l.drop (i+1)):=by rw[List.drop_eq_getElem_cons hi',fV]
   have hm:=ih (i+1) (step1 r l[i]) p h1 (by omega) (by omega) (nt _ _)
   rw[hd]
   rw[step1] at hm ⊢
   cases hx:(decide (8388608≤r) != l[i])
   ·refine(ah (hb.trans hx)).2 ?_
    rw[hx] at hm
    exact bl (congrArg LT.more (congr (congrArg (He.c0 p) h2) (eu (by omega)))) hm
   ·refine(ai (hb.trans hx)).2 ?_
    rw[hx] at hm
    refine bl (congrArg LT.more (congr (congrArg (He.c0 p) ?_) (eu (by omega)))) hm
    rw[h2]
    exact CP (b:=6122955) (by omega) (by decide)
theorem JM{r:Int}{l:List Bool}(h:Ty.dK [(.int .u32),(.slice .bool)] (r,l)):l.length≤140737488355328:=by
 have h1:(0≤r∧r≤4294967295)∧l.length≤dx∧_:=h
 exact h1.2.1
theorem Hm{r:Int}{l:List Bool}(h:Ty.dK [(.int .u32),(.slice .bool)] (r,l))(hp:(decide (0≤r)&&decide (r<16777216))=true):aA (Kr aj) (t160 aj r l) ((over r.toNat l:Nat):Int):=by
 rw[Bool.and_eq_true,decide_eq_true_eq,decide_eq_true_eq] at hp
 obtain⟨m,rfl⟩:=Int.eq_ofNat_of_zero_le hp.1
 exact Ko (JM h) l.length 0 m _ rfl (by omega) (by omega) (by omega)
def Fg:(Int×List Bool)→Int:=fun(r,l)=>((over r.toNat l:Nat):Int)
def Bo:(Int×List Bool)→Bool:=fun(r,_)=>decide (0≤r)&&decide (r<16777216)
def X1:aD:=⟨[(.int .u32),(.slice .bool)], [(.int .u32)],Bo,Fg⟩
theorem WK:Sd 223 X1:=aL au cK true 17 [⟨223,2, [[0,1,5]]⟩] [] (fun A (r,l)=>t160 A r l) Kr Sw (fc Tryz.func223 fz) sz (fun A y=>match y with |.c0 p a0 a2=>⟨54,by kernel_rfl,by kernel_rfl⟩) fun((r,l):Int×List Bool) hp h=>Hm h hp
structure J2 where
 (a0:List (Int×List Int))
inductive Ix where
 | c0 (p:J2) (a1:Int) (a2:Int)
noncomputable def QZ:Ix→gB
 | .c0 p a1 a2=>⟨[⟨189,26,(en [(0,.sl (.struct [yI,yB]) p.a0),(4,.int .u32 false a1),(5,vi a2)]),[.inLoop (cw Tryz.f189 [1,1,0,1,0,0]),.inBlock 0,.code (cw Tryz.f189 [1,1,1])],[],none⟩],[.dead]⟩
def Z7(A:bi)(l:List (Int×List Int)):LT (Int×Int) Ix:=.more (.c0 ⟨l⟩ 0 0)
def Jt(A:bi):Ix→LT (Int×Int) Ix
 | .c0 p a1 a2=>.br (A.c .lss a2 (A.l p.a0)) (.need (A.and (A.c .leq 0 a2) (A.c .lss a2 (A.l p.a0))) (.need (A.k (@tt ((Int×List Int))) (A.n (.struct [yI,yB]) p.a0 a2:Int×List Int)) (.br (A.c .neq (A.k kJ (A.n (.struct [yI,yB]) p.a0 a2:Int×List Int)) 0) (.ret (0,10)) (.need (A.and (A.c .leq 0 a2) (A.c .lss a2 (A.l p.a0))) (.need (A.k (@tt ((Int×List Int))) (A.n (.struct [yI,yB]) p.a0 a2:Int×List Int)) (.need (A.k Bo (a1,(A.k kW (A.n (.struct [yI,yB]) p.a0 a2:Int×List Int)))) (.more (.c0 p (A.k Fg (a1,(A.k kW (A.n (.struct [yI,yB]) p.a0 a2:Int×List Int)))) (A.b .add .i64 a2 1))))))))) (.ret (a1,0))
theorem D4{r:Nat}(h:r<16777216)(l:List Bool):aj.k Bo ((r:Int),l)=true:=by
 rw[ap,Bo,Bool.and_eq_true,decide_eq_true_eq,decide_eq_true_eq]
 omega
theorem Nq{l:List (Int×List Int)}(hl:l.length≤140737488355328):∀(j i:Nat) (p:J2),p.a0=l→l.length-i=j→i≤l.length→(∀x∈l.take i,bO x=true)→aA (Jt aj) (.more (.c0 p ((over 0 ((l.take i).flatMap bR):Nat):Int) (i:Int))) (uf l):=by
 intro j
 induction j with
 | zero=>
   intro i p h1 hj hi hok
   have:i=l.length:=by omega
   subst this
   rw[List.take_length] at hok ⊢
   simp only[al,Jt]
   refine(ah (by rw[show aj.l p.a0=(l.length:Int) from by rw[h1];rfl,aO];simp)).2 ?_
   rw[uf,List.all_eq_true.2 hok]
   exact .ret _
 | succ j ih=>
   intro i p h1 hj hi hok
   simp only[al,Jt]
   have hi':i<l.length:=by omega
   refine(ai (by rw[show aj.l p.a0=(l.length:Int) from by rw[h1];rfl,aO];simp;omega)).2 (af.2 ⟨by rw[h1];exact bT hi',af.2 ⟨rfl,?_⟩⟩)
   have hn1:(aj.n (.struct [(.int .i64),(.slice (.int .u8))]) p.a0 (i:Int):Int×List Int)=l[i]:=by rw[h1,nI hi']
   rw[hn1]
   have hn:(aj.k kJ l[i])=bif bO l[i] then 0 else 10:=by rw[ap,kJ]
   rw[hn]
   cases hx:bO l[i]
   ·refine(ai rfl).2 ?_
    rw[uf,show l.all bO=false from List.all_eq_false.2 ⟨l[i],List.getElem_mem hi',by rw[hx];decide⟩]
    exact .ret _
   ·refine(ah rfl).2 ?_
    have hL:(aj.k kW l[i])=bR l[i]:=by rw[ap,kW,hx];rfl
    have hlt:=gk (r:=0) (by decide) ((l.take i).flatMap bR)
    have hc:aj.k Fg (((over 0 ((l.take i).flatMap bR):Nat):Int),bR l[i])=((over 0 ((l.take (i+1)).flatMap bR):Nat):Int):=by
     rw[ap,Fg,Int.toNat_natCast,zz hi',gq]
    rw[hL]
    refine af.2 ⟨by rw[h1];exact bT hi',af.2 ⟨rfl,af.2 ⟨?_,?_⟩⟩⟩
    ·exact D4 hlt _
    ·refine bl (congrArg LT.more (congr (congrArg (Ix.c0 p) hc) (eu (by omega)))) (ih (i+1) p h1 (by omega) (by omega) ?_)
     intro x hx2
     rw[List.take_succ_eq_append_getElem hi'] at hx2
     rcases List.mem_append.1 hx2 with h3|h3
     ·exact hok x h3
     ·rw[List.mem_singleton.1 h3];exact hx
def mI:(List (Int×List Int))→(Int×Int):=uf
def ZF:aD:=⟨[(.slice (.struct [yI,yB]))], [(.int .u32),yI],(@tt (List (Int×List Int))),mI⟩
theorem UK:Sd 189 ZF:=aL au cK true 22 [⟨189,3, [[0,4,5]]⟩] [] (fun A l=>Z7 A l) Jt QZ (fc Tryz.func189 fz) (sc Ms (sc O7 (sc WK sz))) (fun A y=>match y with |.c0 p a1 a2=>⟨46,by kernel_rfl,by kernel_rfl⟩) fun(l:List (Int×List Int)) hp h=>by
 show aA (Jt aj) (Z7 aj l) (mI l)
 exact Nq (qw h).1 l.length 0 _ rfl (by omega) (by omega) (by intro x hx;cases hx)
open Go.Ev.Pl
structure xI where
 (a0:Int) (a1:List (Int×List Int)) (a2 a3 a4 a5 a6 a7 a8 a9 bH dP a12 jw iv rG a16 a17 tG l_:Int)
structure DR where
 (b2:List (Int×List Int)) (b3 b4 b5 b6 b7 b8 b9 b10 b11 b12 b13 z_ Bj dL im tH lI mT lZ:Int) (mU:List Int)
structure En where
 (c2:List (Int×List Int)) (c3 c4 c5:Int) (c6:List Int) (c7 c8 c9 c10 c11 c12 c13 c14 lX c16 xK JF c19 c20 c21 OG:Int)
inductive Hd where
 | c0 (p:xI)
 | c1 (p:DR) (b0:Int) (b1:Int)
 | c2 (p:En) (c0:Int) (c1:Int)
noncomputable def Rv:Hd→gB
 | .c0 p=>⟨[⟨260,26,(en [(4,.ptr 0 0),(5,.int .u32 false p.a0),(10,.sl (.struct [yI,yB]) p.a1),(11,vi p.a2),(12,vi p.a3)]),[.inLoop (cw Tryz.f260 [1,1,1,0,1,0,0]),.inBlock 0,.code (cw Tryz.f260 [1,1,1,1])],[],none⟩],[.flat false [.int .u32 false p.a4,.int .u32 false p.a5,.int .u32 false p.a6,.int .u32 false p.a7,.int .u32 false p.a8,.int .u32 false p.a9,.int .u32 false p.bH,.int .u32 false p.dP,.int .u32 false p.a12,.int .u32 false p.jw,.int .u32 false p.iv,.int .u32 false p.rG,.int .u32 false p.a16,.int .u32 false p.a17,.int .u32 false p.tG,.int .u32 false p.l_],.dead]⟩
 | .c1 p b0 b1=>⟨[⟨266,57,(en [(0,.int .u32 false b0),(2,.ptr 0 0),(4,.ptr 1 0),(7,vi b1)]),[.inLoop (cw Tryz.f266 [1,1,0,0,0]),.inBlock 0,.code (cw Tryz.f266 [1,1,1])],[],none⟩,⟨260,26,(en [(4,.ptr 0 0),(10,.sl (.struct [yI,yB]) p.b2),(11,vi p.b3),(12,vi p.b4)]),[.ops (ow Tryz.f260 [1,1,1,0,1,0,0,1,1,0,0,1,1]) ((ow Tryz.f260 [1,1,1,0,1,0,0,1,1,0,0,1,1]).toList.drop 2),.inBlock 1,.code (cw Tryz.f260 [1,1,1,0,1,0,0,1,1,1]),.inLoop (cw Tryz.f260 [1,1,1,0,1,0,0]),.inBlock 0,.code (cw Tryz.f260 [1,1,1,1])],[],none⟩],[.flat false [.int .u32 false p.b5,.int .u32 false p.b6,.int .u32 false p.b7,.int .u32 false p.b8,.int .u32 false p.b9,.int .u32 false p.b10,.int .u32 false p.b11,.int .u32 false p.b12,.int .u32 false p.b13,.int .u32 false p.z_,.int .u32 false p.Bj,.int .u32 false p.dL,.int .u32 false p.im,.int .u32 false p.tH,.int .u32 false p.lI,.int .u32 false p.mT],.flat false [vi p.lZ,.sl yU p.mU],.dead]⟩
 | .c2 p c0 c1=>⟨[⟨266,57,(en [(0,.int .u32 false c0),(4,.ptr 0 0),(7,vi c1)]),[.inLoop (cw Tryz.f266 [1,1,1,0,0,0]),.inBlock 2,.code (cw Tryz.f266 [1,1,1,1])],[],none⟩,⟨260,26,(en [(4,.ptr 1 0),(10,.sl (.struct [yI,yB]) p.c2),(11,vi p.c3),(12,vi p.c4)]),[.ops (ow Tryz.f260 [1,1,1,0,1,0,0,1,1,0,0,1,1]) ((ow Tryz.f260 [1,1,1,0,1,0,0,1,1,0,0,1,1]).toList.drop 2),.inBlock 1,.code (cw Tryz.f260 [1,1,1,0,1,0,0,1,1,1]),.inLoop (cw Tryz.f260 [1,1,1,0,1,0,0]),.inBlock 0,.code (cw Tryz.f260 [1,1,1,1])],[],none⟩],[.flat false [vi p.c5,.sl yU p.c6],.flat false [.int .u32 false p.c7,.int .u32 false p.c8,.int .u32 false p.c9,.int .u32 false p.c10,.int .u32 false p.c11,.int .u32 false p.c12,.int .u32 false p.c13,.int .u32 false p.c14,.int .u32 false p.lX,.int .u32 false p.c16,.int .u32 false p.xK,.int .u32 false p.JF,.int .u32 false p.c19,.int .u32 false p.c20,.int .u32 false p.c21,.int .u32 false p.OG],.dead]⟩
def Tf(A:bi)(l:List (Int×List Int)):LT (Int×Int) Hd:=.need (A.k (@tt Unit) ()) (.more (.c0 ⟨0,l,(A.l l),0,(A.n (.int .u32) (A.k ju ()) 0:Int),(A.n (.int .u32) (A.k ju ()) 1:Int),(A.n (.int .u32) (A.k ju ()) 2:Int),(A.n (.int .u32) (A.k ju ()) 3:Int),(A.n (.int .u32) (A.k ju ()) 4:Int),(A.n (.int .u32) (A.k ju ()) 5:Int),(A.n (.int .u32) (A.k ju ()) 6:Int),(A.n (.int .u32) (A.k ju ()) 7:Int),(A.n (.int .u32) (A.k ju ()) 8:Int),(A.n (.int .u32) (A.k ju ()) 9:Int),(A.n (.int .u32) (A.k ju ()) 10:Int),(A.n (.int .u32) (A.k ju ()) 11:Int),(A.n (.int .u32) (A.k ju ()) 12:Int),(A.n (.int .u32) (A.k ju ()) 13:Int),(A.n (.int .u32) (A.k ju ()) 14:Int),(A.n (.int .u32) (A.k ju ()) 15:Int)⟩))
def rU(A:bi):Hd→LT (Int×Int) Hd
 | .c0 p=>.br (A.c .lss p.a3 p.a2) (.need (A.and (A.c .leq 0 p.a3) (A.c .lss p.a3 (A.l p.a1))) (.need (A.k (@tt ((Int×List Int))) (A.n (.struct [yI,yB]) p.a1 p.a3:Int×List Int)) (.br (A.c .neq (A.k j_ (A.n (.struct [yI,yB]) p.a1 p.a3:Int×List Int)) 0) (.ret (0,(A.k j_ (A.n (.struct [yI,yB]) p.a1 p.a3:Int×List Int)))) (.more (.c1 ⟨p.a1,p.a2,p.a3,p.a4,p.a5,p.a6,p.a7,p.a8,p.a9,p.bH,p.dP,p.a12,p.jw,p.iv,p.rG,p.a16,p.a17,p.tG,p.l_,(A.n (.struct [yI,yB]) p.a1 p.a3:Int×List Int).1,(A.n (.struct [yI,yB]) p.a1 p.a3:Int×List Int).2⟩ p.a0 0))))) (.ret (p.a0,0))
 | .c1 p b0 b1=>.br (A.c .leq (A.b .add .i64 b1 4) p.lZ) (.need (A.k (@tt ((Int×List Int)×Int×Int)) ((p.lZ,p.mU),b1,4)) (.need (A.and (A.c .leq 0 (A.b .xor .u32 (A.b .shr .u32 b0 20) (A.v .u32 (A.k aC ((p.lZ,p.mU),b1,4)).1))) (A.c .lss (A.b .xor .u32 (A.b .shr .u32 b0 20) (A.v .u32 (A.k aC ((p.lZ,p.mU),b1,4)).1)) 16)) (.more (.c1 p (A.b .xor .u32 (A.b .and .u32 (A.b .shl .u32 b0 4) 16777215) (A.n (.int .u32) [p.b5,p.b6,p.b7,p.b8,p.b9,p.b10,p.b11,p.b12,p.b13,p.z_,p.Bj,p.dL,p.im,p.tH,p.lI,p.mT] (A.b .xor .u32 (A.b .shr .u32 b0 20) (A.v .u32 (A.k aC ((p.lZ,p.mU),b1,4)).1)):Int)) (A.b .add .i64 b1 4))))) (.more (.c2 ⟨p.b2,p.b3,p.b4,p.lZ,p.mU,p.b5,p.b6,p.b7,p.b8,p.b9,p.b10,p.b11,p.b12,p.b13,p.z_,p.Bj,p.dL,p.im,p.tH,p.lI,p.mT⟩ b0 b1))
 | .c2 p c0 c1=>.br (A.c .lss c1 p.c5) (.need (A.k (@tt ((Int×List Int)×Int×Int)) ((p.c5,p.c6),c1,1)) (.need (A.k (@tt Int) (A.b .xor .u32 c0 (A.b .shl .u32 (A.v .u32 (A.k aC ((p.c5,p.c6),c1,1)).1) 23))) (.more (.c2 p (A.k za (A.b .xor .u32 c0 (A.b .shl .u32 (A.v .u32 (A.k aC ((p.c5,p.c6),c1,1)).1) 23))) (A.b .add .i64 c1 1))))) (.more (.c0 ⟨c0,p.c2,p.c3,(A.b .add .i64 p.c4 1),p.c7,p.c8,p.c9,p.c10,p.c11,p.c12,p.c13,p.c14,p.lX,p.c16,p.xK,p.JF,p.c19,p.c20,p.c21,p.OG⟩))
theorem D2{α β γ:Type}(f:α→β→γ){a a':α}{b b':β}(h1:a=a')(h2:b=b'):f a b=f a' b':=by rw[h1,h2]
def tbA(p:xI):Prop:=p.a4=0∧p.a5=6122955∧p.a6=12245910∧p.a7=15185501∧p.a8=2677479∧p.a9=7714604∧p.bH=9568625∧p.dP=13593786∧p.a12=5354958∧p.jw=841733∧p.iv=15429208∧p.rG=11928467∧p.a16=7958313∧p.a17=2360034∧p.tG=12825791∧p.l_=10410356
def tbB(p:DR):Prop:=p.b5=0∧p.b6=6122955∧p.b7=12245910∧p.b8=15185501∧p.b9=2677479∧p.b10=7714604∧p.b11=9568625∧p.b12=13593786∧p.b13=5354958∧p.z_=841733∧p.Bj=15429208∧p.dL=11928467∧p.im=7958313∧p.tH=2360034∧p.lI=12825791∧p.mT=10410356
def tbC(p:En):Prop:=p.c7=0∧p.c8=6122955∧p.c9=12245910∧p.c10=15185501∧p.c11=2677479∧p.c12=7714604∧p.c13=9568625∧p.c14=13593786∧p.lX=5354958∧p.c16=841733∧p.xK=15429208∧p.JF=11928467∧p.c19=7958313∧p.c20=2360034∧p.c21=12825791∧p.OG=10410356
theorem kr{n a w:Nat}{b:List Int}(hok:bO ((n:Int),b)=true)(h:a+w≤n)(hw:w≤64)(hn:n≤4096):aj.k aC (((n:Int),b),(a:Int),(w:Int))=(((bq (unpack n b) a w:Nat):Int),0):=by
 rw[ap,aC,Gr]
 simp only[hok,Bool.not_true,cond_false]
 rw[show decide ((w:Int)<0)=false from by simp,show decide (64<(w:Int))=false from by simp;omega,show decide ((a:Int)<0)=false from by simp,show decide ((n:Int)<(a:Int)+(w:Int))=false from by simp;omega]
 rfl
theorem Cn{l:List Bool}{a w:Nat}(h:a+w≤l.length):l.take (a+w)=l.take a++bitsOf (bq l a w) w:=by
 rw[wM h,List.take_add]
theorem IR{n:Nat}(h:n<4294967296):aj.v .u32 (n:Int)=(n:Int):=by rw[bu,N1 (by omega) (by omega)]
theorem Ra{l:List (Int×List Int)}{i n:Nat}{b:List Int}{R:Int×Int}{r0:Nat}(hr0:r0<16777216)(hok:bO ((n:Int),b)=true)(hn:n≤4096)(hll:l.length≤140737488355328)(hi:i<l.length)
  (hnext:∀(p:xI),tbA p→p.a1=l→p.a2=(l.length:Int)→p.a3=((i+1:Nat):Int)→p.a0=((over r0 (unpack n b):Nat):Int)→aA (rU aj) (.more (.c0 p)) R) :
  ∀(j k:Nat) (p:En),tbC p→p.c2=l→p.c3=(l.length:Int)→p.c4=(i:Int)→p.c5=(n:Int)→p.c6=b→n-k=j→k≤n→aA (rU aj) (.more (.c2 p ((over r0 ((unpack n b).take k):Nat):Int) (k:Int))) R:=by
 intro j
 induction j with
 | zero=>
   intro k p ht h2 h3 h4 h5 h6 hj hk
   have:k=n:=by omega
   subst this
   simp only[al,rU]
   refine(ah (by rw[h5,aO];simp)).2 ?_
   rw[List.take_of_length_le (by rw[bg];exact Nat.le_refl _)]
   exact hnext _ ht h2 h3 (by show aj.b .add .i64 p.c4 1=_;rw[h4,eu (by omega)]) rfl
 | succ j ih=>
   intro k p ht h2 h3 h4 h5 h6 hj hk
   simp only[al,rU]
   have hg:aj.k aC ((p.c5,p.c6),(k:Int),1)=(((bq (unpack n b) k 1:Nat):Int),0):=by
    rw[h5,h6];exact kr hok (w:=1) (by omega) (by decide) hn
   have hlt:=gk hr0 ((unpack n b).take k)
   have hf:=eT (unpack n b) k 1
   have hts:=Cn (l:=unpack n b) (a:=k) (w:=1) (by rw[bg];omega)
   obtain⟨x,hx⟩:∃x:Bool,bq (unpack n b) k 1=x.toNat:=by
    by_cases h0:bq (unpack n b) k 1=0
    ·exact⟨false,h0⟩
    ·exact⟨true,by rw[show true.toNat=1 from rfl];omega⟩
   have hbx:bitsOf x.toNat 1=[x]:=by cases x<;>rfl
   rw[hx,hbx] at hts
   have hsh:aj.b .xor .u32 ((over r0 ((unpack n b).take k):Nat):Int) (aj.b .shl .u32 (aj.v .u32 (aj.k aC ((p.c5,p.c6),(k:Int),1)).1) 23)=((over r0 ((unpack n b).take k) ^^^ (x.toNat*8388608):Nat):Int):=by
    rw[hg,hx,IR (by cases x<;>decide),show aj.b .shl .u32 ((x.toNat:Nat):Int) 23=((x.toNat*2^23:Nat):Int) from E6 (k:=23) (by decide) (by cases x<;>decide)]
    exact CP (by omega) (by cases x<;>decide)
   have hxl:over r0 ((unpack n b).take k) ^^^ (x.toNat*8388608)<16777216:=Nat.xor_lt_two_pow (n:=24) hlt (by cases x<;>decide)
   have hc:aj.k za (aj.b .xor .u32 ((over r0 ((unpack n b).take k):Nat):Int) (aj.b .shl .u32 (aj.v .u32 (aj.k aC ((p.c5,p.c6),(k:Int),1)).1) 23))=((over r0 ((unpack n b).take (k+1)):Nat):Int):=by
    rw[hsh,ap,LH hxl,Lv hlt,hts,gq,fV,nA]
   refine(ai (by rw[h5,aO];simp;omega)).2 (af.2 ⟨rfl,af.2 ⟨rfl,?_⟩⟩)
   exact bl (congrArg LT.more (congr (congrArg (Hd.c2 p) hc) (eu (by omega)))) (ih (k+1) p ht h2 h3 h4 h5 h6 (by omega) (by omega))
theorem Qp{l:List (Int×List Int)}{i n:Nat}{b:List Int}{R:Int×Int}{r0:Nat}(hr0:r0<16777216)(hok:bO ((n:Int),b)=true)(hn:n≤4096)(hll:l.length≤140737488355328)(hi:i<l.length)
  (hnext:∀(p:xI),tbA p→p.a1=l→p.a2=(l.length:Int)→p.a3=((i+1:Nat):Int)→p.a0=((over r0 (unpack n b):Nat):Int)→aA (rU aj) (.more (.c0 p)) R) :
  ∀(j k:Nat) (p:DR),tbB p→p.b2=l→p.b3=(l.length:Int)→p.b4=(i:Int)→p.lZ=(n:Int)→p.mU=b→(n-k)/4=j→k≤n→aA (rU aj) (.more (.c1 p ((over r0 ((unpack n b).take k):Nat):Int) (k:Int))) R:=by
 intro j
 induction j with
 | zero=>
   intro k p ht h2 h3 h4 h5 h6 hj hk
   simp only[al,rU]
   refine(ah (by rw[show aj.b .add .i64 (k:Int) 4=((k+4:Nat):Int) from gf (j:=4) (by omega),h5,j6];simp;omega)).2 ?_
   exact Ra hr0 hok hn hll hi hnext (n-k) k _ ht h2 h3 h4 h5 h6 rfl hk
 | succ j ih=>
   intro k p ht h2 h3 h4 h5 h6 hj hk
   simp only[al,rU]
   have hg:aj.k aC ((p.lZ,p.mU),(k:Int),4)=(((bq (unpack n b) k 4:Nat):Int),0):=by
    rw[h5,h6];exact kr hok (w:=4) (by omega) (by decide) hn
   have hlt:=gk hr0 ((unpack n b).take k)
   have hf:=eT (unpack n b) k 4
   have hts:=Cn (l:=unpack n b) (a:=k) (w:=4) (by rw[bg];omega)
   have h4o:=Gi hlt (l:=bitsOf (bq (unpack n b) k 4) 4) (ao _ _)
   rw[mC,Nat.mod_eq_of_lt hf,←gq,←hts] at h4o
   generalize hr:over r0 ((unpack n b).take k)=r at *
   generalize hv:bq (unpack n b) k 4=v at *
   have hix:aj.b .xor .u32 (aj.b .shr .u32 (r:Int) 20) (aj.v .u32 (aj.k aC ((p.lZ,p.mU),(k:Int),4)).1)=((r/1048576 ^^^ v:Nat):Int):=by
    rw[hg,IR (by omega),show aj.b .shr .u32 (r:Int) 20=((r/2^20:Nat):Int) from Lg (n:=20) (by omega) (by decide)]
    exact CP (by omega) (by omega)
   have hxl:r/1048576 ^^^ v<16:=G6 ⟨r/1048576,by omega⟩ ⟨v,by omega⟩
   have htab:(aj.n (.int .u32) [p.b5,p.b6,p.b7,p.b8,p.b9,p.b10,p.b11,p.b12,p.b13,p.z_,p.Bj,p.dL,p.im,p.tH,p.lI,p.mT] (((r/1048576 ^^^ v:Nat):Int)):Int)=((Cs.getD (r/1048576 ^^^ v) 0:Nat):Int):=by
    rw[←HE ⟨r/1048576 ^^^ v,hxl⟩]
    obtain⟨t0,t1,t2,t3,t4,t5,t6,t7,t8,t9,t10,t11,t12,t13,t14,t15⟩:=ht
    show List.getD [p.b5,p.b6,p.b7,p.b8,p.b9,p.b10,p.b11,p.b12,p.b13,p.z_,p.Bj,p.dL,p.im,p.tH,p.lI,p.mT] ((r/1048576 ^^^ v:Nat):Int).toNat 0=_
    rw[Int.toNat_natCast,t0,t1,t2,t3,t4,t5,t6,t7,t8,t9,t10,t11,t12,t13,t14,t15];rfl
   have hc:aj.b .xor .u32 (aj.b .and .u32 (aj.b .shl .u32 (r:Int) 4) 16777215) (aj.n (.int .u32) [p.b5,p.b6,p.b7,p.b8,p.b9,p.b10,p.b11,p.b12,p.b13,p.z_,p.Bj,p.dL,p.im,p.tH,p.lI,p.mT] (aj.b .xor .u32 (aj.b .shr .u32 (r:Int) 20) (aj.v .u32 (aj.k aC ((p.lZ,p.mU),(k:Int),4)).1)):Int)=((over r0 ((unpack n b).take (k+4)):Nat):Int):=by
    rw[hix]
    have e1:aj.b .and .u32 (aj.b .shl .u32 (r:Int) 4) 16777215=((16*r%16777216:Nat):Int):=by
     rw[show aj.b .shl .u32 (r:Int) 4=((r*2^4:Nat):Int) from E6 (k:=4) (by decide) (by omega),Oc (by omega),Nat.mul_comm]
    refine(D2 (aj.b .xor .u32) e1 htab).trans ?_
    rw[h4o]
    exact CP (by omega) (by have:=Im ⟨_,hxl⟩;simp only at this;omega)
   refine(ai (by rw[show aj.b .add .i64 (k:Int) 4=((k+4:Nat):Int) from gf (j:=4) (by omega),h5,j6];simp;omega)).2 (af.2 ⟨rfl,af.2 ⟨?_,?_⟩⟩)
   ·rw[hix,gZ,aR,ar];simp;omega
   ·have:=ih (k+4) p ht h2 h3 h4 h5 h6 (by omega) (by omega)
    exact bl (congrArg LT.more (congr (congrArg (Hd.c1 p) hc) (show aj.b .add .i64 (k:Int) 4=((k+4:Nat):Int) from gf (j:=4) (by omega)))) this
theorem RP{l:List (Int×List Int)}(hll:l.length≤140737488355328)(hby:∀x∈l,bp x.2∧x.2.length≤140737488355328):∀(j i:Nat) (p:xI),tbA p→p.a1=l→p.a2=(l.length:Int)→p.a3=(i:Int)→p.a0=((over 0 ((l.take i).flatMap bR):Nat):Int)→l.length-i=j→i≤l.length→(∀x∈l.take i,bO x=true)→aA (rU aj) (.more (.c0 p)) (uf l):=by
 intro j
 induction j with
 | zero=>
   intro i p ht h1 h2 h3 h0 hj hi hok
   have:i=l.length:=by omega
   subst this
   rw[List.take_length] at hok h0
   simp only[al,rU]
   refine(ah (by rw[h2,h3,aO];simp)).2 ?_
   rw[uf,List.all_eq_true.2 hok,h0]
   exact .ret _
 | succ j ih=>
   intro i p ht h1 h2 h3 h0 hj hi hok
   have hi':i<l.length:=by omega
   have hmem:=List.getElem_mem hi'
   simp only[al,rU]
   rw[h3]
   refine(ai (by rw[h2,aO];simp;omega)).2 (af.2 ⟨by rw[h1];exact bT hi',af.2 ⟨rfl,?_⟩⟩)
   obtain⟨n0,b,hx⟩:∃n0 b,l[i]=(n0,b):=⟨_,_,rfl⟩
   have hby':=hby _ hmem
   rw[hx] at hby'
   have hn1:(aj.n (.struct [(.int .i64),(.slice (.int .u8))]) p.a1 (i:Int):Int×List Int)=(n0,b):=by rw[h1,nI hi',hx]
   rw[hn1]
   have hc:aj.k j_ (n0,b)=bif bO (n0,b) then 0 else 10:=kQ hby'.1 hby'.2
   rw[hc]
   cases hb:bO (n0,b)
   ·refine(ai rfl).2 ?_
    rw[uf,show l.all bO=false from List.all_eq_false.2 ⟨l[i],hmem,by rw[hx,hb];decide⟩]
    exact .ret _
   ·refine(ah rfl).2 ?_
    obtain⟨h4,h5,h6⟩:=(gW hby'.1).1 hb
    obtain⟨n,rfl⟩:=Int.eq_ofNat_of_zero_le h4
    have hlt:=gk (r:=0) (by decide) ((l.take i).flatMap bR)
    have hm:=Qp hlt hb (by omega) hll hi' (R:=uf l) (fun p' g1 g2 g3 g4 g5=>ih (i+1) p' g1 g2 g3 g4 (by rw[g5,zz hi',gq,hx];rfl) (by omega) (by omega) (by
     intro x hx2
     rw[List.take_succ_eq_append_getElem hi'] at hx2
     rcases List.mem_append.1 hx2 with h7|h7
     ·exact hok x h7
     ·rw[List.mem_singleton.1 h7,hx];exact hb)) (n/4) 0 ⟨p.a1,p.a2,(i:Int),p.a4,p.a5,p.a6,p.a7,p.a8,p.a9,p.bH,p.dP,p.a12,p.jw,p.iv,p.rG,p.a16,p.a17,p.tG,p.l_,(n:Int),b⟩ ht h1 h2 rfl rfl rfl (by omega) (by omega)
    rw[List.take_zero,nA,←h0] at hm
    exact hm
theorem acY{l:List (Int×List Int)}(h:Ty.dK [(.slice (.struct [(.int .i64),(.slice (.int .u8))]))] l):aA (rU aj) (Tf aj l) (uf l):=by
 unfold Tf
 refine af.2 ⟨rfl,?_⟩
 exact RP (qw h).1 (qw h).2 l.length 0 _ ⟨rfl,rfl,rfl,rfl,rfl,rfl,rfl,rfl,rfl,rfl,rfl,rfl,rfl,rfl,rfl,rfl⟩ rfl rfl rfl rfl (by omega) (by omega) (by intro x hx;cases hx)
def tZ:(List (Int×List Int))→(Int×Int):=uf
def VV:aD:=⟨[(.slice (.struct [yI,yB]))], [(.int .u32),yI],(@tt (List (Int×List Int))),tZ⟩
theorem VB:Sd 260 VV:=aL au cK true 30 [⟨260,4, [[4,5,10,11,12]]⟩,⟨266,2, [[0,2,4,7], [4,10,11,12]]⟩,⟨266,6, [[0,4,7], [4,10,11,12]]⟩] [] (fun A l=>Tf A l) rU Rv (fc Tryz.func260 (fc Tryz.func266 fz)) (sc D6 (sc Ft (sc T5 (sc Pd sz)))) (fun A y=>match y with |.c0 p=>⟨52,by kernel_rfl,by kernel_rfl⟩|.c1 p b0 b1=>⟨52,by kernel_rfl,by kernel_rfl⟩|.c2 p c0 c1=>⟨44,by kernel_rfl,by kernel_rfl⟩) fun l hp h=>acY h
open Go.Ev.Pl
def t139(A:bi)(bN:Int)(bB:List Int)(unsentN:Int)(unsentB:List Int):LT ((Int×List Int)×Int) Empty:=.need (A.k (@tt ((Int×List Int))) (bN,bB)) (.br (A.c .neq (A.k j_ (bN,bB)) 0) (.ret ((0,([]:List Int)),10)) (.need (A.k (@tt ((Int×List Int))) (unsentN,unsentB)) (.br (A.c .neq (A.k j_ (unsentN,unsentB)) 0) (.ret ((0,([]:List Int)),10)) (.br (A.c .lss bN 24) (.ret ((0,([]:List Int)),20)) (.need (A.k (@tt ((Int×List Int)×Int×Int)) ((bN,bB),0,(A.b .sub .i64 bN 24))) (.need (A.k (@tt ((Int×List Int)×Int×Int)) ((bN,bB),(A.k cn ((bN,bB),0,(A.b .sub .i64 bN 24))).1.1,24)) (.need (A.k (@tt (List (Int×List Int))) [(unsentN,unsentB),(A.k cn ((bN,bB),0,(A.b .sub .i64 bN 24))).1]) (.br (A.c .neq (A.k tZ [(unsentN,unsentB),(A.k cn ((bN,bB),0,(A.b .sub .i64 bN 24))).1]).2 0) (.ret ((0,([]:List Int)),(A.k tZ [(unsentN,unsentB),(A.k cn ((bN,bB),0,(A.b .sub .i64 bN 24))).1]).2)) (.br (A.c .neq (A.v .u64 (A.k tZ [(unsentN,unsentB),(A.k cn ((bN,bB),0,(A.b .sub .i64 bN 24))).1]).1) (A.k aC ((bN,bB),(A.k cn ((bN,bB),0,(A.b .sub .i64 bN 24))).1.1,24)).1) (.ret ((0,([]:List Int)),21)) (.ret ((A.k cn ((bN,bB),0,(A.b .sub .i64 bN 24))).1,0)))))))))))
theorem M0{n m:Int}{b u:List Int}(h:Ty.dK [(.struct [(.int .i64),(.slice (.int .u8))]),(.struct [(.int .i64),(.slice (.int .u8))])] ((n,b),(m,u))):aA Empty.elim (t139 aj n b m u) (dG ((n,b),(m,u))):=by
 have h1:Ty.has (.struct [(.int .i64),(.slice (.int .u8))]) (n,b):=h.1
 have h2:Ty.has (.struct [(.int .i64),(.slice (.int .u8))]) (m,u):=h.2
 have hb:=(eZ h1).2.2
 have hl:=dO h1
 have hbu:=(eZ h2).2.2
 have hlu:=dO h2
 unfold t139
 rw[dG]
 have hc1:aj.c .neq (aj.k j_ (n,b)) 0=!bO (n,b):=by rw[ap,kQ hb hl];cases bO (n,b)<;>rfl
 have hc2:aj.c .neq (aj.k j_ (m,u)) 0=!bO (m,u):=by rw[ap,kQ hbu hlu];cases bO (m,u)<;>rfl
 refine af.2 ⟨rfl,?_⟩
 rw[hc1]
 cases ho1:bO (n,b)
 ·exact(ai rfl).2 (.ret _)
 refine(ah rfl).2 (af.2 ⟨rfl,?_⟩)
 rw[hc2]
 cases ho2:bO (m,u)
 ·exact(ai rfl).2 (.ret _)
 refine(ah rfl).2 ?_
 obtain⟨h3,h4,h5⟩:=(gW hb).1 ho1
 obtain⟨k,rfl⟩:=Int.eq_ofNat_of_zero_le h3
 by_cases h6:(k:Int)<24
 ·refine(ai (by rw[ar];simp;omega)).2 ?_
  show aA _ _ (bif decide ((k:Int)<24) then(zB,20) else _)
  rw[show decide ((k:Int)<24)=true from by simpa using h6]
  exact .ret _
 refine(ah (by rw[ar];simp;omega)).2 ?_
 show aA _ _ (bif decide ((k:Int)<24) then(zB,20) else _)
 rw[show decide ((k:Int)<24)=false from by simpa using h6,cond_false]
 have hkl:(bR ((k:Int),b)).length=k:=by rw[il];rfl
 have hsub:aj.b .sub .i64 (k:Int) 24=((k-24:Nat):Int):=mm (j:=24) (by omega) (by omega)
 have hfl:((bR ((k:Int),b)).take (k-24)).length=k-24:=by rw[List.length_take,hkl];omega
 have hslice:aj.k cn (((k:Int),b),0,aj.b .sub .i64 (k:Int) 24)=(bS ((bR ((k:Int),b)).take (k-24)),0):=by
  rw[hsub,ap,cn,cr]
  simp only[ho1,Bool.not_true,cond_false]
  rw[show decide (((k-24:Nat):Int)<0)=false from by simp,show decide ((k:Int)<((k-24:Nat):Int))=false from by simp<;>omega]
  rfl
 have hP1:(bS ((bR ((k:Int),b)).take (k-24))).1=((k-24:Nat):Int):=by show(((bR ((k:Int),b)).take (k-24)).length:Int)=_;rw[hfl]
 have hget:aj.k aC (((k:Int),b),((k-24:Nat):Int),24)=(((bq (bR ((k:Int),b)) (k-24) 24:Nat):Int),0):=by
  rw[ap,aC,Gr]
  simp only[ho1,Bool.not_true,cond_false]
  rw[show decide (((k-24:Nat):Int)<0)=false from by simp,show decide ((k:Int)<((k-24:Nat):Int)+24)=false from by simp<;>omega]
  rfl
 have hsum:aj.k tZ [(m,u),bS ((bR ((k:Int),b)).take (k-24))]=(((over (over 0 (bR (m,u))) ((bR ((k:Int),b)).take (k-24)):Nat):Int),0):=by
  rw[ap,tZ,uf]
  show(bif (bO (m,u)&&(bO (bS ((bR ((k:Int),b)).take (k-24)))&&true)) then(((over 0 (bR (m,u)++(bR (bS ((bR ((k:Int),b)).take (k-24))) ++ [])):Nat):Int),(0:Int)) else(0,10))=_
  rw[ho2,iN (by rw[hfl];omega),gG,List.append_nil,gq]
  rfl
 have hu:=gk (r:=0) (by decide) (bR (m,u))
 have hlt:=gk hu ((bR ((k:Int),b)).take (k-24))
 have hfd:=eT (bR ((k:Int),b)) (k-24) 24
 have hsplit:bR ((k:Int),b)=(bR ((k:Int),b)).take (k-24)++(bR ((k:Int),b)).drop (k-24):=(List.take_append_drop _ _).symm
 have hd:((bR ((k:Int),b)).drop (k-24)).length=24:=by rw[List.length_drop,hkl];omega
 have hfe:bq (bR ((k:Int),b)) (k-24) 24=d_ ((bR ((k:Int),b)).drop (k-24)):=by rw[bq,List.take_of_length_le (by omega)]
 have hz:(over (over 0 (bR (m,u))) (bR ((k:Int),b)) != 0)=(((over (over 0 (bR (m,u))) ((bR ((k:Int),b)).take (k-24)):Nat):Int) != ((bq (bR ((k:Int),b)) (k-24) 24:Nat):Int)):=by
  have:=xe (l:=(bR ((k:Int),b)).take (k-24)) hu hd
  rw[←hsplit,←hfe] at this
  rw[Bool.eq_iff_iff,bne_iff_ne,bne_iff_ne,ne_eq,ne_eq,this]
  omega
 have e1:(aj.k cn (((k:Int),b),0,aj.b .sub .i64 (k:Int) 24)).1.1=((k-24:Nat):Int):=by rw[hslice];exact hP1
 have e2:(aj.k tZ [(m,u),(aj.k cn (((k:Int),b),0,aj.b .sub .i64 (k:Int) 24)).1])=(((over (over 0 (bR (m,u))) ((bR ((k:Int),b)).take (k-24)):Nat):Int),0):=by rw[hslice];exact hsum
 have e3:(aj.k aC (((k:Int),b),(aj.k cn (((k:Int),b),0,aj.b .sub .i64 (k:Int) 24)).1.1,24)).1=((bq (bR ((k:Int),b)) (k-24) 24:Nat):Int):=by rw[e1,hget]
 refine af.2 ⟨rfl,af.2 ⟨rfl,af.2 ⟨rfl,?_⟩⟩⟩
 refine(ah (dw (congrArg Prod.snd e2))).2 ?_
 rw[hz,hkl]
 have hcmp:aj.c .neq (aj.v .u64 (aj.k tZ [(m,u),(aj.k cn (((k:Int),b),0,aj.b .sub .i64 (k:Int) 24)).1]).1) (aj.k aC (((k:Int),b),(aj.k cn (((k:Int),b),0,aj.b .sub .i64 (k:Int) 24)).1.1,24)).1=(((over (over 0 (bR (m,u))) ((bR ((k:Int),b)).take (k-24)):Nat):Int) != ((bq (bR ((k:Int),b)) (k-24) 24:Nat):Int)):=by
  rw[e3,e2,dY (by omega),aJ]
 cases hx:(((over (over 0 (bR (m,u))) ((bR ((k:Int),b)).take (k-24)):Nat):Int) != ((bq (bR ((k:Int),b)) (k-24) 24:Nat):Int))
 ·refine(ah (hcmp.trans hx)).2 ?_
  exact bl (congrArg LT.ret (show((aj.k cn (((k:Int),b),0,aj.b .sub .i64 (k:Int) 24)).1,0)=(bS ((bR ((k:Int),b)).take (k-24)),0) by rw[hslice])) (.ret _)
 ·exact(ai (hcmp.trans hx)).2 (.ret _)
def dF:((Int×List Int)×(Int×List Int))→((Int×List Int)×Int):=dG
def W_:aD:=⟨[(.struct [yI,yB]),(.struct [yI,yB])], [(.struct [yI,yB]),yI],(@tt ((Int×List Int)×(Int×List Int))),dF⟩
theorem XR:Sd 250 W_:=aK au cK true 100 [] (fun A ((bN,bB),unsentN,unsentB)=>t139 A bN bB unsentN unsentB) (fc Tryz.func250 fz) (sc D6 (sc Ft (sc Oe (sc VB sz)))) fun((bN,bB),unsentN,unsentB) hp h=>M0 h
open Go.Ev.Pl
def Qo(A:bi)(cTime:Int)(cPos:Int)(cMode:Int)(cNext:Int)(cMember:Int):LT (List Int) Empty:=.ret [cTime,cPos,cMode,cNext,cMember]
def zH:((Int×Int×Int×Int×Int))→(List Int):=fun(cTime,cPos,cMode,cNext,cMember)=>(Qo aj cTime cPos cMode cNext cMember).val (Ty.bZ [(.arr 5 yI)])
def Yv:aD:=⟨[(.struct [yI,yI,yI,yI,yI])], [(.arr 5 yI)],(@tt ((Int×Int×Int×Int×Int))),zH⟩
theorem Yj:Sd 202 Yv:=aM au cK true 26 [] (fun A (cTime,cPos,cMode,cNext,cMember)=>Qo A cTime cPos cMode cNext cMember) (fc Tryz.func202 fz) sz (fun((cTime,cPos,cMode,cNext,cMember):(Int×Int×Int×Int×Int)) hp h=>by
 show(Qo aj cTime cPos cMode cNext cMember).pre=true
 rfl)
structure On where
 (a0 a1 a2 a3 a4 a6 a7 a8 a9 bH:Int)
inductive Y87 where
 | c0 (p:On) (a5:Int)
noncomputable def Y0:Y87→gB
 | .c0 p a5=>⟨[⟨151,36,(en [(5,.ptr 0 0),(21,.agg [vi p.a0,vi p.a1,vi p.a2,vi p.a3,vi p.a4]),(22,vi a5)]),[.inLoop (cw Tryz.f151 [1,1,1,0,1,0,0]),.inBlock 0,.code (cw Tryz.f151 [1,1,1,1])],[],none⟩],[.flat false [vi p.a6,vi p.a7,vi p.a8,vi p.a9,vi p.bH],.dead]⟩
def t87(A:bi)(cTime:Int)(cPos:Int)(cMode:Int)(cNext:Int)(cMember:Int)(n:Int):LT Int Y87:=.br (A.c .lss n 4) (.ret 2) (.br (A.c .gtr n 8) (.ret 2) (.need (A.c .leq 0 n) (.need (A.k (@tt ((Int×Int×Int×Int×Int))) (cTime,cPos,cMode,cNext,cMember)) (.more (.c0 ⟨(A.n yI (A.k zH (cTime,cPos,cMode,cNext,cMember)) 0:Int),(A.n yI (A.k zH (cTime,cPos,cMode,cNext,cMember)) 1:Int),(A.n yI (A.k zH (cTime,cPos,cMode,cNext,cMember)) 2:Int),(A.n yI (A.k zH (cTime,cPos,cMode,cNext,cMember)) 3:Int),(A.n yI (A.k zH (cTime,cPos,cMode,cNext,cMember)) 4:Int),255,(A.b .sub .i64 n 1),3,4,(A.b .sub .i64 (A.b .shl .i64 1 n) 1)⟩ 0)))))
def TO(A:bi):Y87→LT Int Y87
 | .c0 p a5=>.br (A.c .lss a5 5) (.need (A.and (A.c .leq 0 a5) (A.c .lss a5 5)) (.br (A.c .lss (A.n yI [p.a0,p.a1,p.a2,p.a3,p.a4] a5:Int) 0) (.ret 40) (.need (A.and (A.c .leq 0 a5) (A.c .lss a5 5)) (.br (A.c .gtr (A.n yI [p.a0,p.a1,p.a2,p.a3,p.a4] a5:Int) (A.n yI [p.a6,p.a7,p.a8,p.a9,p.bH] a5:Int)) (.ret 40) (.more (.c0 p (A.b .add .i64 a5 1))))))) (.ret 0)
theorem OZ{k:Nat}(hk:k≤60):aj.b .shl .i64 1 (k:Int)=((2^k:Nat):Int):=by
 show IntKind.i64.wrap ((1:Int)*2^min (k:Int).toNat 64)=_
 have:2^k≤2^60:=Nat.pow_le_pow_right (by decide) hk
 have e:(2:Int)^k=((2^k:Nat):Int):=by simp
 rw[Int.toNat_natCast,Nat.min_eq_left (by omega),Int.one_mul,e]
 generalize 2^k=q at this
 rw[fI (by omega) (by omega)]
theorem VH{u v x:Int}(h:u=v):aj.c .lss u x=decide (v<x):=by rw[h];rfl
theorem UI{u u' v v':Int}(h1:u=u')(h2:v=v'):aj.c .gtr u v=decide (v'<u'):=by rw[h1,h2];rfl
theorem ni{p:On}{i v m r:Int}(h0:0≤i)(h5:i<5)(hv:(aj.n (.int .i64) [p.a0,p.a1,p.a2,p.a3,p.a4] i:Int)=v)(hm:(aj.n (.int .i64) [p.a6,p.a7,p.a8,p.a9,p.bH] i:Int)=m)
  (h1:(decide (0≤v)&&decide (v≤m))=true→aA (TO aj) (.more (.c0 p (i+1))) r) (h2:(decide (0≤v)&&decide (v≤m))=false→r=40):aA (TO aj) (.more (.c0 p i)) r:=by
 rw[al,TO]
 have hn:aj.and (aj.c .leq 0 i) (aj.c .lss i 5)=true:=by rw[aR,aB,ar];simp;omega
 refine(ai (by rw[ar];simpa using h5)).2 (af.2 ⟨hn,?_⟩)
 by_cases h3:v<0
 ·refine(ai ((VH hv).trans (by simpa using h3))).2 ?_
  rw[h2 (by rw[show decide (0≤v)=false from by simp;omega];rfl)]
  exact .ret _
 ·refine(ah ((VH hv).trans (by simpa using h3))).2 (af.2 ⟨hn,?_⟩)
  by_cases h4:m<v
  ·refine(ai ((UI hv hm).trans (by simpa using h4))).2 ?_
   rw[h2 (by rw[show decide (v≤m)=false from by simp;omega,Bool.and_false])]
   exact .ret _
  ·refine(ah ((UI hv hm).trans (by simpa using h4))).2 ?_
   rw[bw,fI (by omega) (by omega)]
   exact h1 (by simp;omega)
theorem acO{t po m n s k:Int}:aA (TO aj) (t87 aj t po m n s k) (gm ((t,po,m,n,s),k)):=by
 unfold t87
 rw[gm]
 by_cases h1:k<4
 ·refine(ai (by rw[ar];simpa using h1)).2 ?_
  rw[show decide (k<4)=true from by simpa using h1]
  exact .ret _
 refine(ah (by rw[ar];simpa using h1)).2 ?_
 by_cases h2:8<k
 ·refine(ai (by rw[aG];simpa using h2)).2 ?_
  rw[show decide (8<k)=true from by simpa using h2,Bool.or_true]
  exact .ret _
 refine(ah (by rw[aG];simpa using h2)).2 (af.2 ⟨by rw[aB];simp;omega,af.2 ⟨rfl,?_⟩⟩)
 rw[show decide (k<4)=false from by simpa using h1,show decide (8<k)=false from by simpa using h2,Bool.or_false,cond_false]
 have hk1:aj.b .sub .i64 k 1=k-1:=by rw[aZ,fI (by omega) (by omega)]
 have hk2:aj.b .sub .i64 (aj.b .shl .i64 1 k) 1=2^k.toNat-1:=by
  obtain⟨j,rfl⟩:=Int.eq_ofNat_of_zero_le (show 0≤k by omega)
  have hq:2^j≤2^60:=Nat.pow_le_pow_right (by decide) (by omega)
  have hq0:=Nat.two_pow_pos j
  have e:(2:Int)^j=((2^j:Nat):Int):=by simp
  rw[OZ (by omega),Int.toNat_natCast,e]
  generalize 2^j=q at hq hq0
  rw[aZ,fI (by omega) (by omega)]
 rw[hk1,hk2]
 refine ni (v:=t) (m:=255) (by decide) (by decide) rfl rfl (fun g=>?_) (fun g=>by rw[g];rfl)
 rw[g,Bool.true_and]
 refine ni (i:=1) (v:=po) (m:=k-1) (by decide) (by decide) rfl rfl (fun g=>?_) (fun g=>by rw[g];rfl)
 rw[g,Bool.true_and]
 refine ni (i:=2) (v:=m) (m:=3) (by decide) (by decide) rfl rfl (fun g=>?_) (fun g=>by rw[g];rfl)
 rw[g,Bool.true_and]
 refine ni (i:=3) (v:=n) (m:=4) (by decide) (by decide) rfl rfl (fun g=>?_) (fun g=>by rw[g];rfl)
 rw[g,Bool.true_and]
 refine ni (i:=4) (v:=s) (m:=2^k.toNat-1) (by decide) (by decide) rfl rfl (fun g=>?_) (fun g=>by rw[g];rfl)
 rw[g,al,TO]
 exact(ah rfl).2 (.ret _)
def jH:((Int×Int×Int×Int×Int)×Int)→Int:=gm
def acJ:aD:=⟨[(.struct [yI,yI,yI,yI,yI]),yI], [yI],(@tt ((Int×Int×Int×Int×Int)×Int)),jH⟩
theorem xA:Sd 151 acJ:=aL au cK true 43 [⟨151,5, [[5,21,22]]⟩] [] (fun A ((cTime,cPos,cMode,cNext,cMember),n)=>t87 A cTime cPos cMode cNext cMember n) TO Y0 (fc Tryz.func151 fz) (sc Yj sz) (fun A y=>match y with |.c0 p a5=>⟨41,by kernel_rfl,by kernel_rfl⟩) fun((cTime,cPos,cMode,cNext,cMember),n) hp h=>acO
def t42(A:bi)(cTime:Int)(cPos:Int)(cMode:Int)(cNext:Int)(cMember:Int)(n:Int):LT Int Empty:=.br (A.c .lss n 4) (.ret 2) (.br (A.c .gtr n 8) (.ret 2) (.br (A.c .lss cTime 0) (.ret 40) (.br (A.c .gtr cTime 255) (.ret 40) (.br (A.c .lss cPos 0) (.ret 40) (.br (A.c .geq cPos n) (.ret 40) (.br (A.c .lss cMode 0) (.ret 40) (.br (A.c .geq cMode 4) (.ret 40) (.br (A.c .lss cNext 0) (.ret 40) (.br (A.c .gtr cNext 4) (.ret 40) (.br (A.c .lss cMember 0) (.ret 40) (.need (A.c .leq 0 (A.v .u64 n)) (.br (A.c .geq cMember (A.b .shl .i64 1 (A.v .u64 n))) (.ret 40) (.ret 0)))))))))))))
theorem abo{t po m n s k:Int}:aA Empty.elim (t42 aj t po m n s k) (gm ((t,po,m,n,s),k)):=by
 unfold t42
 rw[gm]
 by_cases h1:k<4
 ·refine(ai (by rw[ar];simpa using h1)).2 ?_
  rw[show decide (k<4)=true from by simpa using h1]
  exact .ret _
 refine(ah (by rw[ar];simpa using h1)).2 ?_
 by_cases h2:8<k
 ·refine(ai (by rw[aG];simpa using h2)).2 ?_
  rw[show decide (8<k)=true from by simpa using h2,Bool.or_true]
  exact .ret _
 refine(ah (by rw[aG];simpa using h2)).2 ?_
 rw[show decide (k<4)=false from by simpa using h1,show decide (8<k)=false from by simpa using h2,Bool.or_false,cond_false]
 obtain⟨j,rfl⟩:=Int.eq_ofNat_of_zero_le (show 0≤k by omega)
 have e:(2:Int)^j=((2^j:Nat):Int):=by simp
 rw[dY (by omega),OZ (by omega),Int.toNat_natCast,e]
 have hx:∀{x:Bool},x=false→(40:Int)=bif x then 0 else 40:=fun h=>by rw[h];rfl
 by_cases g1:t<0
 ·refine(ai (by rw[ar];simpa using g1)).2 (fj.2 (hx (by simp;omega)))
 refine(ah (by rw[ar];simpa using g1)).2 ?_
 by_cases g2:255<t
 ·refine(ai (by rw[aG];simpa using g2)).2 (fj.2 (hx (by simp;omega)))
 refine(ah (by rw[aG];simpa using g2)).2 ?_
 by_cases g3:po<0
 ·refine(ai (by rw[ar];simpa using g3)).2 (fj.2 (hx (by simp;omega)))
 refine(ah (by rw[ar];simpa using g3)).2 ?_
 by_cases g4:(j:Int)≤po
 ·refine(ai (by rw[aN];simpa using g4)).2 (fj.2 (hx (by simp;omega)))
 refine(ah (by rw[aN];simpa using g4)).2 ?_
 by_cases g5:m<0
 ·refine(ai (by rw[ar];simpa using g5)).2 (fj.2 (hx (by simp;omega)))
 refine(ah (by rw[ar];simpa using g5)).2 ?_
 by_cases g6:4≤m
 ·refine(ai (by rw[aN];simpa using g6)).2 (fj.2 (hx (by simp;omega)))
 refine(ah (by rw[aN];simpa using g6)).2 ?_
 by_cases g7:n<0
 ·refine(ai (by rw[ar];simpa using g7)).2 (fj.2 (hx (by simp;omega)))
 refine(ah (by rw[ar];simpa using g7)).2 ?_
 by_cases g8:4<n
 ·refine(ai (by rw[aG];simpa using g8)).2 (fj.2 (hx (by simp;omega)))
 refine(ah (by rw[aG];simpa using g8)).2 ?_
 by_cases g9:s<0
 ·refine(ai (by rw[ar];simpa using g9)).2 (fj.2 (hx (by simp;omega)))
 refine(ah (by rw[ar];simpa using g9)).2 (af.2 ⟨gZ,?_⟩)
 have hy:∀{x:Bool},x=true→(0:Int)=bif x then 0 else 40:=fun h=>by rw[h];rfl
 generalize ((2^j:Nat):Int)=q
 by_cases g10:q≤s
 ·refine(ai (by rw[aN];simpa using g10)).2 (fj.2 (hx (by simp;omega)))
 refine(ah (by rw[aN];simpa using g10)).2 (fj.2 (hy (by simp;omega)))
def CQ:((Int×Int×Int×Int×Int)×Int)→Int:=gm
def aaU:aD:=⟨[(.struct [yI,yI,yI,yI,yI]),yI], [yI],(@tt ((Int×Int×Int×Int×Int)×Int)),CQ⟩
theorem T4:Sd 168 aaU:=aK au cK true 85 [] (fun A ((cTime,cPos,cMode,cNext,cMember),n)=>t42 A cTime cPos cMode cNext cMember n) (fc Tryz.func168 fz) sz fun((cTime,cPos,cMode,cNext,cMember),n) hp h=>abo
open Go.Ev.Pl
structure aaC where
 (a0 a1 a2 a3 a4 a5 a6 a7 a8 a9 bH dP a12:Int)
structure Ol where
 (b0 b1 b2 b3 b4 b6 b9 b10 b11 b12 b13:Int)
inductive TF where
 | c0 (p:aaC)
 | c1 (p:Ol) (b5:Int) (b7:Int) (b8:List Int)
noncomputable def TS:TF→gB
 | .c0 p=>⟨[⟨233,38,(en [(2,.ptr 0 0),(4,.ptr 1 0),(5,.ptr 2 0),(16,.agg [vi p.a0,vi p.a1,vi p.a2,vi p.a3,vi p.a4]),(17,vi p.a5)]),[.inLoop (cw Tryz.f233 [1,1,1,1,0,1,0,0]),.inBlock 0,.code (cw Tryz.f233 [1,1,1,1,1])],[],none⟩],[.flat false [vi p.a6,.bK true],.flat false [vi p.a7,.bK true],.flat false [vi p.a8,vi p.a9,vi p.bH,vi p.dP,vi p.a12],.dead]⟩
 | .c1 p b5 b7 b8=>⟨[⟨233,38,(en [(2,.ptr 0 0),(4,.ptr 1 0),(5,.ptr 2 0),(16,.agg [vi p.b0,vi p.b1,vi p.b2,vi p.b3,vi p.b4]),(17,vi b5)]),[.inLoop (cw Tryz.f233 [1,1,1,1,0,1,0,0]),.inBlock 0,.code (cw Tryz.f233 [1,1,1,1,1])],[],none⟩],[.flat false [vi p.b6,.bK true],.flat false [vi b7,.sl yU b8],.flat false [vi p.b9,vi p.b10,vi p.b11,vi p.b12,vi p.b13],.dead]⟩
def t90(A:bi)(cTime:Int)(cPos:Int)(cMode:Int)(cNext:Int)(cMember:Int):LT ((Int×List Int)×Int) TF:=.need (A.k (@tt ((Int×Int×Int×Int×Int)×Int)) ((cTime,cPos,cMode,cNext,cMember),8)) (.br (A.c .neq (A.k jH ((cTime,cPos,cMode,cNext,cMember),8)) 0) (.ret ((0,([]:List Int)),40)) (.more (.c0 ⟨cTime,cPos,cMode,cNext,cMember,0,0,0,8,3,2,3,8⟩)))
def SG(A:bi):TF→LT ((Int×List Int)×Int) TF
 | .c0 p=>.br (A.c .lss p.a5 5) (.need (A.and (A.c .leq 0 p.a5) (A.c .lss p.a5 5)) (.need (A.and (A.c .leq 0 p.a5) (A.c .lss p.a5 5)) (.need (A.k (@tt ((Int×List Int)×Int×Int)) ((p.a7,([]:List Int)),(A.v .u64 (A.n yI [p.a0,p.a1,p.a2,p.a3,p.a4] p.a5:Int)),(A.n yI [p.a8,p.a9,p.bH,p.dP,p.a12] p.a5:Int))) (.need (A.k (@tt ((Int×List Int)×Int×Int)) ((p.a7,([]:List Int)),(A.v .u64 (A.n yI [p.a0,p.a1,p.a2,p.a3,p.a4] p.a5:Int)),(A.n yI [p.a8,p.a9,p.bH,p.dP,p.a12] p.a5:Int))) (.need (A.and (A.c .leq 0 p.a5) (A.c .lss p.a5 5)) (.br (A.c .neq (A.k np ((p.a7,([]:List Int)),(A.v .u64 (A.n yI [p.a0,p.a1,p.a2,p.a3,p.a4] p.a5:Int)),(A.n yI [p.a8,p.a9,p.bH,p.dP,p.a12] p.a5:Int))).2 0) (.ret ((0,([]:List Int)),(A.k np ((p.a7,([]:List Int)),(A.v .u64 (A.n yI [p.a0,p.a1,p.a2,p.a3,p.a4] p.a5:Int)),(A.n yI [p.a8,p.a9,p.bH,p.dP,p.a12] p.a5:Int))).2)) (.more (.c1 ⟨p.a0,p.a1,p.a2,p.a3,p.a4,p.a6,p.a8,p.a9,p.bH,p.dP,p.a12⟩ (A.b .add .i64 p.a5 1) (A.k np ((p.a7,([]:List Int)),(A.v .u64 (A.n yI [p.a0,p.a1,p.a2,p.a3,p.a4] p.a5:Int)),(A.n yI [p.a8,p.a9,p.bH,p.dP,p.a12] p.a5:Int))).1.1 (A.k np ((p.a7,([]:List Int)),(A.v .u64 (A.n yI [p.a0,p.a1,p.a2,p.a3,p.a4] p.a5:Int)),(A.n yI [p.a8,p.a9,p.bH,p.dP,p.a12] p.a5:Int))).1.2)))))))) (.ret ((p.a7,([]:List Int)),0))
 | .c1 p b5 b7 b8=>.br (A.c .lss b5 5) (.need (A.and (A.c .leq 0 b5) (A.c .lss b5 5)) (.need (A.and (A.c .leq 0 b5) (A.c .lss b5 5)) (.need (A.k (@tt ((Int×List Int)×Int×Int)) ((b7,b8),(A.v .u64 (A.n yI [p.b0,p.b1,p.b2,p.b3,p.b4] b5:Int)),(A.n yI [p.b9,p.b10,p.b11,p.b12,p.b13] b5:Int))) (.need (A.k (@tt ((Int×List Int)×Int×Int)) ((b7,b8),(A.v .u64 (A.n yI [p.b0,p.b1,p.b2,p.b3,p.b4] b5:Int)),(A.n yI [p.b9,p.b10,p.b11,p.b12,p.b13] b5:Int))) (.need (A.and (A.c .leq 0 b5) (A.c .lss b5 5)) (.br (A.c .neq (A.k np ((b7,b8),(A.v .u64 (A.n yI [p.b0,p.b1,p.b2,p.b3,p.b4] b5:Int)),(A.n yI [p.b9,p.b10,p.b11,p.b12,p.b13] b5:Int))).2 0) (.ret ((0,([]:List Int)),(A.k np ((b7,b8),(A.v .u64 (A.n yI [p.b0,p.b1,p.b2,p.b3,p.b4] b5:Int)),(A.n yI [p.b9,p.b10,p.b11,p.b12,p.b13] b5:Int))).2)) (.more (.c1 p (A.b .add .i64 b5 1) (A.k np ((b7,b8),(A.v .u64 (A.n yI [p.b0,p.b1,p.b2,p.b3,p.b4] b5:Int)),(A.n yI [p.b9,p.b10,p.b11,p.b12,p.b13] b5:Int))).1.1 (A.k np ((b7,b8),(A.v .u64 (A.n yI [p.b0,p.b1,p.b2,p.b3,p.b4] b5:Int)),(A.n yI [p.b9,p.b10,p.b11,p.b12,p.b13] b5:Int))).1.2)))))))) (.ret ((b7,b8),0))
theorem oc{v w:Nat}{l:List Bool}(hv:v<2^w)(hw:w≤64)(hl:l.length+w≤4096):Av (bS l,(v:Int),(w:Int))=(bS (l++bitsOf v w),0):=by
 rw[Av]
 simp only[iN (l:=l) (by omega),Bool.not_true,cond_false,gG,Int.toNat_natCast]
 rw[uK (by omega),Int.toNat_natCast,Nat.div_eq_of_lt hv,show decide ((w:Int)<0)=false from by simp,show decide (64<(w:Int))=false from by simp;omega,sU (by rw[List.length_append,ao];exact hl)]
 rfl
theorem uP{p:Ol}{i:Int}{v w:Nat}{l:List Bool}{r:(Int×List Int)×Int}(h0:0≤i)(h5:i<5)(hv:(aj.n (.int .i64) [p.b0,p.b1,p.b2,p.b3,p.b4] i:Int)=(v:Int))(hw:(aj.n (.int .i64) [p.b9,p.b10,p.b11,p.b12,p.b13] i:Int)=(w:Int))(hvw:v<2^w)(hw8:w≤8)(hl:l.length≤100)
  (h:aA (SG aj) (.more (.c1 p (i+1) (bS (l++bitsOf v w)).1 (bS (l++bitsOf v w)).2)) r):aA (SG aj) (.more (.c1 p i (bS l).1 (bS l).2)) r:=by
 rw[al,SG]
 have hn:aj.and (aj.c .leq 0 i) (aj.c .lss i 5)=true:=by rw[aR,aB,ar];simp;omega
 have hp:=Nat.pow_le_pow_right (n:=2) (by decide) hw8
 have hc:aj.k np (((bS l).1,(bS l).2),(aj.v .u64 (aj.n (.int .i64) [p.b0,p.b1,p.b2,p.b3,p.b4] i:Int)),(aj.n (.int .i64) [p.b9,p.b10,p.b11,p.b12,p.b13] i:Int))=(bS (l++bitsOf v w),0):=by
  rw[show(aj.v .u64 (aj.n (.int .i64) [p.b0,p.b1,p.b2,p.b3,p.b4] i:Int))=(v:Int) from(congrArg (aj.v .u64) hv).trans (dY (by omega)),hw]
  exact oc hvw (by omega) (by omega)
 refine(ai (by rw[ar];simpa using h5)).2 (af.2 ⟨hn,af.2 ⟨hn,af.2 ⟨rfl,?_⟩⟩⟩)
 repeat (first|refine af.2 ⟨rfl,?_⟩|refine af.2 ⟨hn,?_⟩)
 refine(ah (dw (congrArg Prod.snd hc))).2 ?_
 refine bl (congrArg LT.more (congr (congr (congrArg (TF.c1 p) ?_) (congrArg (fun z=>z.1.1) hc)) (congrArg (fun z=>z.1.2) hc))) h
 rw[bw,fI (by omega) (by omega)]
theorem LZ{t po m n s:Int}:aA (SG aj) (t90 aj t po m n s) (kM (t,po,m,n,s)):=by
 unfold t90
 rw[kM]
 refine af.2 ⟨rfl,?_⟩
 have hchk:aj.k jH ((t,po,m,n,s),8)=bif eP (t,po,m,n,s) then 0 else 40:=rX (t,po,m,n,s)
 cases hok:eP (t,po,m,n,s)
 ·rw[hok] at hchk
  exact(ai (fL (by rw[hchk];decide))).2 (.ret _)
 rw[hok] at hchk
 refine(ah (dw hchk)).2 ?_
 rw[jD] at hok
 obtain⟨t,rfl⟩:=Int.eq_ofNat_of_zero_le hok.1.1
 obtain⟨po,rfl⟩:=Int.eq_ofNat_of_zero_le hok.2.1.1
 obtain⟨m,rfl⟩:=Int.eq_ofNat_of_zero_le hok.2.2.1.1
 obtain⟨n,rfl⟩:=Int.eq_ofNat_of_zero_le hok.2.2.2.1.1
 obtain⟨s,rfl⟩:=Int.eq_ofNat_of_zero_le hok.2.2.2.2.1
 have hc:aj.k np (((0:Int),([]:List Int)),(aj.v .u64 (t:Int)),8)=(bS ([]++bitsOf t 8),0):=by
  rw[dY (by omega)]
  exact oc (l:=[]) (v:=t) (w:=8) (by omega) (by decide) (by decide)
 rw[al,SG]
 refine(ai rfl).2 (af.2 ⟨rfl,af.2 ⟨rfl,af.2 ⟨rfl,?_⟩⟩⟩)
 repeat (refine af.2 ⟨rfl,?_⟩)
 refine(ah (dw (congrArg Prod.snd hc))).2 ?_
 refine bl (congrArg LT.more (congr (congr (congrArg (TF.c1 _) (show aj.b .add .i64 0 1=1 from rfl)) (congrArg (fun z=>z.1.1) hc)) (congrArg (fun z=>z.1.2) hc))) ?_
 refine uP (v:=po) (w:=3) (by decide) (by decide) rfl rfl (by omega) (by decide) (by simp[ao]) ?_
 refine uP (i:=2) (v:=m) (w:=2) (by decide) (by decide) rfl rfl (by omega) (by decide) (by simp[ao]) ?_
 refine uP (i:=3) (v:=n) (w:=3) (by decide) (by decide) rfl rfl (by omega) (by decide) (by simp[ao]) ?_
 refine uP (i:=4) (v:=s) (w:=8) (by decide) (by decide) rfl rfl (by omega) (by decide) (by simp[ao]) ?_
 rw[al,SG]
 refine(ah rfl).2 ?_
 rw[show[]++bitsOf t 8++bitsOf po 3++bitsOf m 2++bitsOf n 3++bitsOf s 8=aW ((t:Int),(po:Int),(m:Int),(n:Int),(s:Int)) from by
  simp only[aW,Int.toNat_natCast,List.append_assoc,List.nil_append]]
 exact .ret _
def pY:((Int×Int×Int×Int×Int))→((Int×List Int)×Int):=kM
def acx:aD:=⟨[(.struct [yI,yI,yI,yI,yI])], [(.struct [yI,yB]),yI],(@tt ((Int×Int×Int×Int×Int))),pY⟩
theorem ach:Sd 233 acx:=aL au cK true 71 [⟨233,6, [[2,4,5,16,17]]⟩] [] (fun A (cTime,cPos,cMode,cNext,cMember)=>t90 A cTime cPos cMode cNext cMember) SG TS (fc Tryz.func233 (fc Tryz.func202 (fc Tryz.func248 fz))) (sc xA (sc Xq sz)) (fun A y=>match y with |.c0 p=>⟨55,by kernel_rfl,by kernel_rfl⟩|.c1 p b5 b7 b8=>⟨55,by kernel_rfl,by kernel_rfl⟩) fun(cTime,cPos,cMode,cNext,cMember) hp h=>LZ
def t82(A:bi)(cTime:Int)(cPos:Int)(cMode:Int)(cNext:Int)(cMember:Int):LT ((Int×List Int)×Int) Empty:=.need (A.k (@tt ((Int×Int×Int×Int×Int)×Int)) ((cTime,cPos,cMode,cNext,cMember),8)) (.br (A.c .neq (A.k CQ ((cTime,cPos,cMode,cNext,cMember),8)) 0) (.ret ((0,([]:List Int)),40)) (.need (A.k (@tt ((Int×List Int)×Int×Int)) ((0,([]:List Int)),(A.v .u64 cTime),8)) (.need (A.k (@tt ((Int×List Int)×Int×Int)) ((A.k fE ((0,([]:List Int)),(A.v .u64 cTime),8)).1,(A.v .u64 cPos),3)) (.need (A.k (@tt ((Int×List Int)×Int×Int)) ((A.k fE ((A.k fE ((0,([]:List Int)),(A.v .u64 cTime),8)).1,(A.v .u64 cPos),3)).1,(A.v .u64 cMode),2)) (.need (A.k (@tt ((Int×List Int)×Int×Int)) ((A.k fE ((A.k fE ((A.k fE ((0,([]:List Int)),(A.v .u64 cTime),8)).1,(A.v .u64 cPos),3)).1,(A.v .u64 cMode),2)).1,(A.v .u64 cNext),3)) (.need (A.k (@tt ((Int×List Int)×Int×Int)) ((A.k fE ((A.k fE ((A.k fE ((A.k fE ((0,([]:List Int)),(A.v .u64 cTime),8)).1,(A.v .u64 cPos),3)).1,(A.v .u64 cMode),2)).1,(A.v .u64 cNext),3)).1,(A.v .u64 cMember),8)) (.ret (A.k fE ((A.k fE ((A.k fE ((A.k fE ((A.k fE ((0,([]:List Int)),(A.v .u64 cTime),8)).1,(A.v .u64 cPos),3)).1,(A.v .u64 cMode),2)).1,(A.v .u64 cNext),3)).1,(A.v .u64 cMember),8)))))))))
theorem NJ{t po m n s:Int}:aA Empty.elim (t82 aj t po m n s) (kM (t,po,m,n,s)):=by
 unfold t82
 rw[kM]
 refine af.2 ⟨rfl,?_⟩
 have hchk:aj.k CQ ((t,po,m,n,s),8)=bif eP (t,po,m,n,s) then 0 else 40:=rX (t,po,m,n,s)
 cases hok:eP (t,po,m,n,s)
 ·rw[hok] at hchk
  exact(ai (fL (by rw[hchk];decide))).2 (.ret _)
 rw[hok] at hchk
 refine(ah (dw hchk)).2 ?_
 rw[jD] at hok
 obtain⟨t,rfl⟩:=Int.eq_ofNat_of_zero_le hok.1.1
 obtain⟨po,rfl⟩:=Int.eq_ofNat_of_zero_le hok.2.1.1
 obtain⟨m,rfl⟩:=Int.eq_ofNat_of_zero_le hok.2.2.1.1
 obtain⟨n,rfl⟩:=Int.eq_ofNat_of_zero_le hok.2.2.2.1.1
 obtain⟨s,rfl⟩:=Int.eq_ofNat_of_zero_le hok.2.2.2.2.1
 have h1:aj.k fE (((0:Int),([]:List Int)),(aj.v .u64 (t:Int)),8)=(bS ([]++bitsOf t 8),0):=by
  rw[dY (by omega)]
  exact oc (l:=[]) (v:=t) (w:=8) (by omega) (by decide) (by decide)
 have h2:aj.k fE (bS ([]++bitsOf t 8),(aj.v .u64 (po:Int)),3)=(bS ([]++bitsOf t 8++bitsOf po 3),0):=by
  rw[dY (by omega)]
  exact oc (w:=3) (by omega) (by decide) (by simp[ao])
 have h3:aj.k fE (bS ([]++bitsOf t 8++bitsOf po 3),(aj.v .u64 (m:Int)),2)=(bS ([]++bitsOf t 8++bitsOf po 3++bitsOf m 2),0):=by
  rw[dY (by omega)]
  exact oc (w:=2) (by omega) (by decide) (by simp[ao])
 have h4:aj.k fE (bS ([]++bitsOf t 8++bitsOf po 3++bitsOf m 2),(aj.v .u64 (n:Int)),3)=(bS ([]++bitsOf t 8++bitsOf po 3++bitsOf m 2++bitsOf n 3),0):=by
  rw[dY (by omega)]
  exact oc (w:=3) (by omega) (by decide) (by simp[ao])
 have h5:aj.k fE (bS ([]++bitsOf t 8++bitsOf po 3++bitsOf m 2++bitsOf n 3),(aj.v .u64 (s:Int)),8)=(bS ([]++bitsOf t 8++bitsOf po 3++bitsOf m 2++bitsOf n 3++bitsOf s 8),0):=by
  rw[dY (by omega)]
  exact oc (w:=8) (by omega) (by decide) (by simp[ao])
 rw[h1,h2,h3,h4,h5]
 repeat (refine af.2 ⟨rfl,?_⟩)
 rw[show[]++bitsOf t 8++bitsOf po 3++bitsOf m 2++bitsOf n 3++bitsOf s 8=aW ((t:Int),(po:Int),(m:Int),(n:Int),(s:Int)) from by
  simp only[aW,Int.toNat_natCast,List.append_assoc,List.nil_append]]
 exact .ret _
def su:((Int×Int×Int×Int×Int))→((Int×List Int)×Int):=kM
def acs:aD:=⟨[(.struct [yI,yI,yI,yI,yI])], [(.struct [yI,yB]),yI],(@tt ((Int×Int×Int×Int×Int))),su⟩
theorem acF:Sd 129 acs:=aK au cK true 83 [] (fun A (cTime,cPos,cMode,cNext,cMember)=>t82 A cTime cPos cMode cNext cMember) (fc Tryz.func129 fz) (sc T4 (sc KP sz)) fun(cTime,cPos,cMode,cNext,cMember) hp h=>NJ
open Go.Ev.Pl
structure PW where
 (a1 a2 a3 a4 a5 a7:Int) (a8:List Int) (a9 bH dP a12 jw:Int)
inductive Ac where
 | c0 (p:PW) (a0:Int) (a6:Int) (iv:Int) (rG:Int) (a16:Int) (a17:Int) (tG:Int)
noncomputable def SX:Ac→gB
 | .c0 p a0 a6 iv rG a16 a17 tG=>⟨[⟨236,61,(en [(1,.ptr 0 0),(2,.ptr 1 0),(4,.ptr 2 0),(5,vi a0),(21,.agg [vi p.a1,vi p.a2,vi p.a3,vi p.a4,vi p.a5]),(22,vi a6)]),[.inLoop (cw Tryz.f236 [1,1,1,1,0,1,0,0]),.inBlock 1,.code (cw Tryz.f236 [1,1,1,1,1])],[],none⟩],[.flat false [vi p.a7,.sl yU p.a8],.flat false [vi p.a9,vi p.bH,vi p.dP,vi p.a12,vi p.jw],.flat false [vi iv,vi rG,vi a16,vi a17,vi tG],.dead]⟩
def SB(A:bi)(bN:Int)(bB:List Int):LT ((Int×Int×Int×Int×Int)×Int) Ac:=.need (A.k (@tt ((Int×List Int))) (bN,bB)) (.br (A.c .neq (A.k j_ (bN,bB)) 0) (.ret ((0,0,0,0,0),10)) (.br (A.c .neq bN 24) (.ret ((0,0,0,0,0),40)) (.more (.c0 ⟨8,3,2,3,8,bN,bB,0,0,0,0,0⟩ 0 0 0 0 0 0 0))))
def AT(A:bi):Ac→LT ((Int×Int×Int×Int×Int)×Int) Ac
 | .c0 p a0 a6 iv rG a16 a17 tG=>.br (A.c .lss a6 5) (.need (A.and (A.c .leq 0 a6) (A.c .lss a6 5)) (.need (A.k (@tt ((Int×List Int)×Int×Int)) ((p.a7,p.a8),a0,(A.n yI [p.a1,p.a2,p.a3,p.a4,p.a5] a6:Int))) (.br (A.c .neq (A.k aC ((p.a7,p.a8),a0,(A.n yI [p.a1,p.a2,p.a3,p.a4,p.a5] a6:Int))).2 0) (.ret ((0,0,0,0,0),(A.k aC ((p.a7,p.a8),a0,(A.n yI [p.a1,p.a2,p.a3,p.a4,p.a5] a6:Int))).2)) (.need (A.and (A.c .leq 0 a6) (A.c .lss a6 5)) (.more (.c0 p (A.b .add .i64 a0 (A.n yI [p.a1,p.a2,p.a3,p.a4,p.a5] a6:Int)) (A.b .add .i64 a6 1) (A.n yI (A.set [iv,rG,a16,a17,tG] a6 (A.v .i64 (A.k aC ((p.a7,p.a8),a0,(A.n yI [p.a1,p.a2,p.a3,p.a4,p.a5] a6:Int))).1)) 0:Int) (A.n yI (A.set [iv,rG,a16,a17,tG] a6 (A.v .i64 (A.k aC ((p.a7,p.a8),a0,(A.n yI [p.a1,p.a2,p.a3,p.a4,p.a5] a6:Int))).1)) 1:Int) (A.n yI (A.set [iv,rG,a16,a17,tG] a6 (A.v .i64 (A.k aC ((p.a7,p.a8),a0,(A.n yI [p.a1,p.a2,p.a3,p.a4,p.a5] a6:Int))).1)) 2:Int) (A.n yI (A.set [iv,rG,a16,a17,tG] a6 (A.v .i64 (A.k aC ((p.a7,p.a8),a0,(A.n yI [p.a1,p.a2,p.a3,p.a4,p.a5] a6:Int))).1)) 3:Int) (A.n yI (A.set [iv,rG,a16,a17,tG] a6 (A.v .i64 (A.k aC ((p.a7,p.a8),a0,(A.n yI [p.a1,p.a2,p.a3,p.a4,p.a5] a6:Int))).1)) 4:Int))))))) (.need (A.k (@tt ((Int×Int×Int×Int×Int)×Int)) ((iv,rG,a16,a17,tG),8)) (.br (A.c .neq (A.k jH ((iv,rG,a16,a17,tG),8)) 0) (.ret ((0,0,0,0,0),40)) (.ret ((iv,rG,a16,a17,tG),0))))
theorem JG{n:Int}{b:List Int}(h:Ty.dK [(.struct [(.int .i64),(.slice (.int .u8))])] (n,b)):aA (AT aj) (SB aj n b) (dZ (n,b)):=by
 have hb:=(eZ h).2.2
 have hl:=dO h
 unfold SB
 rw[dZ]
 refine af.2 ⟨rfl,?_⟩
 have hc:aj.c .neq (aj.k j_ (n,b)) 0=!bO (n,b):=by
  rw[ap,kQ hb hl];cases bO (n,b)<;>rfl
 rw[hc]
 cases hok:bO (n,b)
 ·exact(ai rfl).2 (.ret _)
 refine(ah rfl).2 ?_
 rw[Bool.not_true,cond_false]
 show aA (AT aj) _ (bif n != 24 then(zS,40) else _)
 by_cases h24:n=24
 ·subst h24
  refine(ah rfl).2 ?_
  rw[show((24:Int) != 24)=false from rfl,cond_false]
  have l0:=eT (bR (24,b)) 0 8
  have g0:aj.k aC ((24,b),0,8)=(((bq (bR (24,b)) 0 8:Nat):Int),0):=kr (n:=24) (a:=0) (w:=8) hok (by decide) (by decide) (by decide)
  have l1:=eT (bR (24,b)) 8 3
  have g1:aj.k aC ((24,b),8,3)=(((bq (bR (24,b)) 8 3:Nat):Int),0):=kr (n:=24) (a:=8) (w:=3) hok (by decide) (by decide) (by decide)
  have l2:=eT (bR (24,b)) 11 2
  have g2:aj.k aC ((24,b),11,2)=(((bq (bR (24,b)) 11 2:Nat):Int),0):=kr (n:=24) (a:=11) (w:=2) hok (by decide) (by decide) (by decide)
  have l3:=eT (bR (24,b)) 13 3
  have g3:aj.k aC ((24,b),13,3)=(((bq (bR (24,b)) 13 3:Nat):Int),0):=kr (n:=24) (a:=13) (w:=3) hok (by decide) (by decide) (by decide)
  have l4:=eT (bR (24,b)) 16 8
  have g4:aj.k aC ((24,b),16,8)=(((bq (bR (24,b)) 16 8:Nat):Int),0):=kr (n:=24) (a:=16) (w:=8) hok (by decide) (by decide) (by decide)
  rw[al,AT]
  refine(ai rfl).2 (af.2 ⟨rfl,af.2 ⟨rfl,(ah (dw (congrArg Prod.snd (show aj.k aC ((24,b),0,8)=(((bq (bR (24,b)) 0 8:Nat):Int),0) from g0)))).2 (af.2 ⟨rfl,?_⟩)⟩⟩)
  refine bl (t':=.more (.c0 ⟨8,3,2,3,8,24,b,0,0,0,0,0⟩ 8 1 ((bq (bR (24,b)) 0 8:Nat):Int) 0 0 0 0)) (congrArg LT.more (show Ac.c0 ⟨8,3,2,3,8,24,b,0,0,0,0,0⟩ 8 1 (aj.v .i64 (aj.k aC ((24,b),0,8)).1) 0 0 0 0=_ from by rw[show(aj.v .i64 (aj.k aC ((24,b),0,8)).1)=((bq (bR (24,b)) 0 8:Nat):Int) from by rw[g0,bu,fI (by omega) (by omega)]])) ?_
  rw[al,AT]
  refine(ai rfl).2 (af.2 ⟨rfl,af.2 ⟨rfl,(ah (dw (congrArg Prod.snd (show aj.k aC ((24,b),8,3)=(((bq (bR (24,b)) 8 3:Nat):Int),0) from g1)))).2 (af.2 ⟨rfl,?_⟩)⟩⟩)
  refine bl (t':=.more (.c0 ⟨8,3,2,3,8,24,b,0,0,0,0,0⟩ 11 2 ((bq (bR (24,b)) 0 8:Nat):Int) ((bq (bR (24,b)) 8 3:Nat):Int) 0 0 0)) (congrArg LT.more (show Ac.c0 ⟨8,3,2,3,8,24,b,0,0,0,0,0⟩ 11 2 ((bq (bR (24,b)) 0 8:Nat):Int) (aj.v .i64 (aj.k aC ((24,b),8,3)).1) 0 0 0=_ from by rw[show(aj.v .i64 (aj.k aC ((24,b),8,3)).1)=((bq (bR (24,b)) 8 3:Nat):Int) from by rw[g1,bu,fI (by omega) (by omega)]])) ?_
  rw[al,AT]
  refine(ai rfl).2 (af.2 ⟨rfl,af.2 ⟨rfl,(ah (dw (congrArg Prod.snd (show aj.k aC ((24,b),11,2)=(((bq (bR (24,b)) 11 2:Nat):Int),0) from g2)))).2 (af.2 ⟨rfl,?_⟩)⟩⟩)
  refine bl (t':=.more (.c0 ⟨8,3,2,3,8,24,b,0,0,0,0,0⟩ 13 3 ((bq (bR (24,b)) 0 8:Nat):Int) ((bq (bR (24,b)) 8 3:Nat):Int) ((bq (bR (24,b)) 11 2:Nat):Int) 0 0)) (congrArg LT.more (show Ac.c0 ⟨8,3,2,3,8,24,b,0,0,0,0,0⟩ 13 3 ((bq (bR (24,b)) 0 8:Nat):Int) ((bq (bR (24,b)) 8 3:Nat):Int) (aj.v .i64 (aj.k aC ((24,b),11,2)).1) 0 0=_ from by rw[show(aj.v .i64 (aj.k aC ((24,b),11,2)).1)=((bq (bR (24,b)) 11 2:Nat):Int) from by rw[g2,bu,fI (by omega) (by omega)]])) ?_
  rw[al,AT]
  refine(ai rfl).2 (af.2 ⟨rfl,af.2 ⟨rfl,(ah (dw (congrArg Prod.snd (show aj.k aC ((24,b),13,3)=(((bq (bR (24,b)) 13 3:Nat):Int),0) from g3)))).2 (af.2 ⟨rfl,?_⟩)⟩⟩)
  refine bl (t':=.more (.c0 ⟨8,3,2,3,8,24,b,0,0,0,0,0⟩ 16 4 ((bq (bR (24,b)) 0 8:Nat):Int) ((bq (bR (24,b)) 8 3:Nat):Int) ((bq (bR (24,b)) 11 2:Nat):Int) ((bq (bR (24,b)) 13 3:Nat):Int) 0)) (congrArg LT.more (show Ac.c0 ⟨8,3,2,3,8,24,b,0,0,0,0,0⟩ 16 4 ((bq (bR (24,b)) 0 8:Nat):Int) ((bq (bR (24,b)) 8 3:Nat):Int) ((bq (bR (24,b)) 11 2:Nat):Int) (aj.v .i64 (aj.k aC ((24,b),13,3)).1) 0=_ from by rw[show(aj.v .i64 (aj.k aC ((24,b),13,3)).1)=((bq (bR (24,b)) 13 3:Nat):Int) from by rw[g3,bu,fI (by omega) (by omega)]])) ?_
  rw[al,AT]
  refine(ai rfl).2 (af.2 ⟨rfl,af.2 ⟨rfl,(ah (dw (congrArg Prod.snd (show aj.k aC ((24,b),16,8)=(((bq (bR (24,b)) 16 8:Nat):Int),0) from g4)))).2 (af.2 ⟨rfl,?_⟩)⟩⟩)
  refine bl (t':=.more (.c0 ⟨8,3,2,3,8,24,b,0,0,0,0,0⟩ 24 5 ((bq (bR (24,b)) 0 8:Nat):Int) ((bq (bR (24,b)) 8 3:Nat):Int) ((bq (bR (24,b)) 11 2:Nat):Int) ((bq (bR (24,b)) 13 3:Nat):Int) ((bq (bR (24,b)) 16 8:Nat):Int))) (congrArg LT.more (show Ac.c0 ⟨8,3,2,3,8,24,b,0,0,0,0,0⟩ 24 5 ((bq (bR (24,b)) 0 8:Nat):Int) ((bq (bR (24,b)) 8 3:Nat):Int) ((bq (bR (24,b)) 11 2:Nat):Int) ((bq (bR (24,b)) 13 3:Nat):Int) (aj.v .i64 (aj.k aC ((24,b),16,8)).1)=_ from by rw[show(aj.v .i64 (aj.k aC ((24,b),16,8)).1)=((bq (bR (24,b)) 16 8:Nat):Int) from by rw[g4,bu,fI (by omega) (by omega)]])) ?_
  have hchk:aj.k jH ((((bq (bR (24,b)) 0 8:Nat):Int),((bq (bR (24,b)) 8 3:Nat):Int),((bq (bR (24,b)) 11 2:Nat):Int),((bq (bR (24,b)) 13 3:Nat):Int),((bq (bR (24,b)) 16 8:Nat):Int)),8)=bif eP (fF (bR (24,b))) then 0 else 40:=rX (fF (bR (24,b)))
  rw[al,AT]
  refine(ah rfl).2 (af.2 ⟨rfl,?_⟩)
  cases ho:eP (fF (bR (24,b)))
  ·rw[ho] at hchk
   exact(ai (fL (by rw[hchk];decide))).2 (.ret _)
  ·rw[ho] at hchk
   exact(ah (dw hchk)).2 (.ret _)
 ·refine(ai (fL h24)).2 ?_
  rw[show(n != 24)=true from bne_iff_ne.2 h24,cond_true]
  exact .ret _
def iq:((Int×List Int))→((Int×Int×Int×Int×Int)×Int):=dZ
def Z8:aD:=⟨[(.struct [yI,yB])], [(.struct [yI,yI,yI,yI,yI]),yI],(@tt ((Int×List Int))),iq⟩
theorem Z6:Sd 236 Z8:=aL au cK true 58 [⟨236,8, [[1,2,4,5,21,22]]⟩] [] (fun A (bN,bB)=>SB A bN bB) AT SX (fc Tryz.func236 (fc Tryz.func248 fz)) (sc xA (sc D6 (sc Ft sz))) (fun A y=>match y with |.c0 p a0 a6 iv rG a16 a17 tG=>⟨61,by kernel_rfl,by kernel_rfl⟩) fun(bN,bB) hp h=>JG h
open Go.Ev.Pl
def t57(A:bi)(fKind:Int)(fReq:Int)(fCTime:Int)(fCPos:Int)(fCMode:Int)(fCNext:Int)(fCMember:Int)(fFrom:Int)(fData:List Int):LT Int Empty:=.need (A.k (@tt ((Int×Int×Int×Int×Int)×Int)) ((fCTime,fCPos,fCMode,fCNext,fCMember),8)) (.br (A.c .neq (A.k jH ((fCTime,fCPos,fCMode,fCNext,fCMember),8)) 0) (.ret 50) (.br (A.c .lss fReq 0) (.ret 50) (.br (A.c .gtr fReq 4) (.ret 50) (.br (A.c .gtr (A.l fData) 8) (.ret 50) (.br (A.c .eql fKind 1) (.br (A.c .eql fReq 0) (.br (A.c .eql (A.l fData) 0) (.br (A.c .geq fFrom 0) (.br (A.c .lss fFrom 8) (.br (A.not (A.and (A.c .eql fCTime fCTime) (A.and (A.c .eql fCPos 0) (A.and (A.c .eql fCMode 0) (A.and (A.c .eql fCNext 0) (A.and (A.c .eql fCMember 0) true)))))) (.ret 50) (.ret 0)) (.ret 50)) (.ret 50)) (.ret 50)) (.ret 50)) (.br (A.c .eql fKind 3) (.br (A.c .eql (A.l fData) 0) (.br (A.not (A.c .eql fFrom 0)) (.ret 50) (.ret 0)) (.ret 50)) (.br (A.c .eql fKind 2) (.br (A.not (A.c .eql fFrom 0)) (.ret 50) (.ret 0)) (.br (A.c .eql fKind 4) (.br (A.not (A.c .eql fFrom 0)) (.ret 50) (.ret 0)) (.ret 50)))))))))
def oU:((Int×Int×(Int×Int×Int×Int×Int)×Int×List Int))→Int:=fun(fKind,fReq,(fCTime,fCPos,fCMode,fCNext,fCMember),fFrom,fData)=>(t57 aj fKind fReq fCTime fCPos fCMode fCNext fCMember fFrom fData).val (Ty.bZ [yI])
def adf:aD:=⟨[(.struct [yI,yI,(.struct [yI,yI,yI,yI,yI]),yI,yB])], [yI],(@tt ((Int×Int×(Int×Int×Int×Int×Int)×Int×List Int))),oU⟩
theorem aaG:Sd 237 adf:=aM au cK true 109 [] (fun A (fKind,fReq,(fCTime,fCPos,fCMode,fCNext,fCMember),fFrom,fData)=>t57 A fKind fReq fCTime fCPos fCMode fCNext fCMember fFrom fData) (fc Tryz.func237 fz) (sc xA sz) (fun((fKind,fReq,(fCTime,fCPos,fCMode,fCNext,fCMember),fFrom,fData):(Int×Int×(Int×Int×Int×Int×Int)×Int×List Int)) hp h=>by
 show(t57 aj fKind fReq fCTime fCPos fCMode fCNext fCMember fFrom fData).pre=true
 simp[t57,LT.pre,ap,cN])
def t58(A:bi)(fKind:Int)(fReq:Int)(fCTime:Int)(fCPos:Int)(fCMode:Int)(fCNext:Int)(fCMember:Int)(fFrom:Int)(fData:List Int):LT Int Empty:=.br (A.c .lss fKind 1) (.ret 50) (.br (A.c .gtr fKind 4) (.ret 50) (.need (A.k (@tt ((Int×Int×Int×Int×Int)×Int)) ((fCTime,fCPos,fCMode,fCNext,fCMember),8)) (.br (A.c .neq (A.k CQ ((fCTime,fCPos,fCMode,fCNext,fCMember),8)) 0) (.ret 50) (.br (A.c .lss fReq 0) (.ret 50) (.br (A.c .gtr fReq 4) (.ret 50) (.br (A.c .gtr (A.l fData) 8) (.ret 50) (.br (A.c .eql fKind 1) (.br (A.c .gtr (A.l fData) 0) (.ret 50) (.br (A.c .neq fKind 1) (.br (A.c .neq fFrom 0) (.ret 50) (.ret 0)) (.br (A.c .neq fReq 0) (.ret 50) (.br (A.c .lss fFrom 0) (.ret 50) (.br (A.c .geq fFrom 8) (.ret 50) (.br (A.not (A.and (A.c .eql fCTime fCTime) (A.and (A.c .eql fCPos 0) (A.and (A.c .eql fCMode 0) (A.and (A.c .eql fCNext 0) (A.and (A.c .eql fCMember 0) true)))))) (.ret 50) (.ret 0))))))) (.br (A.c .eql fKind 3) (.br (A.c .gtr (A.l fData) 0) (.ret 50) (.br (A.c .neq fKind 1) (.br (A.c .neq fFrom 0) (.ret 50) (.ret 0)) (.br (A.c .neq fReq 0) (.ret 50) (.br (A.c .lss fFrom 0) (.ret 50) (.br (A.c .geq fFrom 8) (.ret 50) (.br (A.not (A.and (A.c .eql fCTime fCTime) (A.and (A.c .eql fCPos 0) (A.and (A.c .eql fCMode 0) (A.and (A.c .eql fCNext 0) (A.and (A.c .eql fCMember 0) true)))))) (.ret 50) (.ret 0))))))) (.br (A.c .neq fKind 1) (.br (A.c .neq fFrom 0) (.ret 50) (.ret 0)) (.br (A.c .neq fReq 0) (.ret 50) (.br (A.c .lss fFrom 0) (.ret 50) (.br (A.c .geq fFrom 8) (.ret 50) (.br (A.not (A.and (A.c .eql fCTime fCTime) (A.and (A.c .eql fCPos 0) (A.and (A.c .eql fCMode 0) (A.and (A.c .eql fCNext 0) (A.and (A.c .eql fCMember 0) true)))))) (.ret 50) (.ret 0))))))))))))))
def Gp:((Int×Int×(Int×Int×Int×Int×Int)×Int×List Int))→Int:=fun(fKind,fReq,(fCTime,fCPos,fCMode,fCNext,fCMember),fFrom,fData)=>(t58 aj fKind fReq fCTime fCPos fCMode fCNext fCMember fFrom fData).val (Ty.bZ [yI])
def abW:aD:=⟨[(.struct [yI,yI,(.struct [yI,yI,yI,yI,yI]),yI,yB])], [yI],(@tt ((Int×Int×(Int×Int×Int×Int×Int)×Int×List Int))),Gp⟩
theorem abp:Sd 128 abW:=aM au cK true 114 [] (fun A (fKind,fReq,(fCTime,fCPos,fCMode,fCNext,fCMember),fFrom,fData)=>t58 A fKind fReq fCTime fCPos fCMode fCNext fCMember fFrom fData) (fc Tryz.func128 fz) (sc T4 sz) (fun((fKind,fReq,(fCTime,fCPos,fCMode,fCNext,fCMember),fFrom,fData):(Int×Int×(Int×Int×Int×Int×Int)×Int×List Int)) hp h=>by
 show(t58 aj fKind fReq fCTime fCPos fCMode fCNext fCMember fFrom fData).pre=true
 simp[t58,LT.pre,ap,cN])
def t56(A:bi)(kind:Int)(data:Int):LT Int Empty:=.br (A.c .lss data 0) (.ret 0) (.br (A.c .gtr data 8) (.ret 0) (.br (A.c .eql kind 1) (.br (A.c .eql data 0) (.ret 40) (.br (A.c .eql kind 3) (.br (A.c .eql data 0) (.ret 54) (.br (A.c .eql kind 2) (.ret (A.b .add .i64 29 (A.b .mul .i64 8 data))) (.br (A.c .eql kind 4) (.ret (A.b .add .i64 79 (A.b .mul .i64 8 data))) (.ret 0)))) (.br (A.c .eql kind 2) (.ret (A.b .add .i64 29 (A.b .mul .i64 8 data))) (.br (A.c .eql kind 4) (.ret (A.b .add .i64 79 (A.b .mul .i64 8 data))) (.ret 0))))) (.br (A.c .eql kind 3) (.br (A.c .eql data 0) (.ret 54) (.br (A.c .eql kind 2) (.ret (A.b .add .i64 29 (A.b .mul .i64 8 data))) (.br (A.c .eql kind 4) (.ret (A.b .add .i64 79 (A.b .mul .i64 8 data))) (.ret 0)))) (.br (A.c .eql kind 2) (.ret (A.b .add .i64 29 (A.b .mul .i64 8 data))) (.br (A.c .eql kind 4) (.ret (A.b .add .i64 79 (A.b .mul .i64 8 data))) (.ret 0))))))
def mZ:(Int×Int)→Int:=fun(kind,data)=>(t56 aj kind data).val (Ty.bZ [yI])
def abi:aD:=⟨[yI,yI], [yI],(@tt (Int×Int)),mZ⟩
theorem ab5:Sd 227 abi:=aM au cK true 67 [] (fun A (kind,data)=>t56 A kind data) (fc Tryz.func227 fz) sz (fun((kind,data):Int×Int) hp h=>by
 show(t56 aj kind data).pre=true
 simp[t56,LT.pre,ap,cN])
def t59(A:bi)(kind:Int)(data:Int):LT Int Empty:=.br (A.c .lss data 0) (.ret 0) (.br (A.c .gtr data 8) (.ret 0) (.br (A.c .eql kind 1) (.br (A.c .eql data 0) (.ret 40) (.ret 0)) (.br (A.c .eql kind 2) (.ret (A.b .add .i64 29 (A.b .mul .i64 8 data))) (.br (A.c .eql kind 3) (.br (A.c .eql data 0) (.ret 54) (.ret 0)) (.br (A.c .eql kind 4) (.ret (A.b .add .i64 79 (A.b .mul .i64 8 data))) (.ret 0))))))
def Bz:(Int×Int)→Int:=fun(kind,data)=>(t59 aj kind data).val (Ty.bZ [yI])
def acQ:aD:=⟨[yI,yI], [yI],(@tt (Int×Int)),Bz⟩
theorem acH:Sd 196 acQ:=aM au cK true 59 [] (fun A (kind,data)=>t59 A kind data) (fc Tryz.func196 fz) sz (fun((kind,data):Int×Int) hp h=>by
 show(t59 aj kind data).pre=true
 simp[t59,LT.pre,ap,cN])
def t44(A:bi)(aKind:Int)(aReq:Int)(aCTime:Int)(aCPos:Int)(aCMode:Int)(aCNext:Int)(aCMember:Int)(aFrom:Int)(aData:List Int)(bKind:Int)(bReq:Int)(bCTime:Int)(bCPos:Int)(bCMode:Int)(bCNext:Int)(bCMember:Int)(bFrom:Int)(bData:List Int):LT Bool Empty:=.br (A.c .eql aKind bKind) (.br (A.c .eql aReq bReq) (.br (A.and (A.c .eql aCTime bCTime) (A.and (A.c .eql aCPos bCPos) (A.and (A.c .eql aCMode bCMode) (A.and (A.c .eql aCNext bCNext) (A.and (A.c .eql aCMember bCMember) true))))) (.br (A.c .eql aFrom bFrom) (.ret (A.z .eql (A.bytes aData) (A.bytes bData))) (.ret false)) (.ret false)) (.ret false)) (.ret false)
def QW:((Int×Int×(Int×Int×Int×Int×Int)×Int×List Int)×(Int×Int×(Int×Int×Int×Int×Int)×Int×List Int))→Bool:=fun((aKind,aReq,(aCTime,aCPos,aCMode,aCNext,aCMember),aFrom,aData),bKind,bReq,(bCTime,bCPos,bCMode,bCNext,bCMember),bFrom,bData)=>(t44 aj aKind aReq aCTime aCPos aCMode aCNext aCMember aFrom aData bKind bReq bCTime bCPos bCMode bCNext bCMember bFrom bData).val (Ty.bZ [.bool])
def abQ:aD:=⟨[(.struct [yI,yI,(.struct [yI,yI,yI,yI,yI]),yI,yB]),(.struct [yI,yI,(.struct [yI,yI,yI,yI,yI]),yI,yB])], [.bool],(@tt ((Int×Int×(Int×Int×Int×Int×Int)×Int×List Int)×(Int×Int×(Int×Int×Int×Int×Int)×Int×List Int))),QW⟩
theorem abL:Sd 109 abQ:=aM au cK true 51 [] (fun A ((aKind,aReq,(aCTime,aCPos,aCMode,aCNext,aCMember),aFrom,aData),bKind,bReq,(bCTime,bCPos,bCMode,bCNext,bCMember),bFrom,bData)=>t44 A aKind aReq aCTime aCPos aCMode aCNext aCMember aFrom aData bKind bReq bCTime bCPos bCMode bCNext bCMember bFrom bData) (fc Tryz.func109 fz) sz (fun(((aKind,aReq,(aCTime,aCPos,aCMode,aCNext,aCMember),aFrom,aData),bKind,bReq,(bCTime,bCPos,bCMode,bCNext,bCMember),bFrom,bData):(Int×Int×(Int×Int×Int×Int×Int)×Int×List Int)×(Int×Int×(Int×Int×Int×Int×Int)×Int×List Int)) hp h=>by
 show(t44 aj aKind aReq aCTime aCPos aCMode aCNext aCMember aFrom aData bKind bReq bCTime bCPos bCMode bCNext bCMember bFrom bData).pre=true
 simp[t44,LT.pre,ap,cN])
theorem uF{k r t p m n s fr:Int}{d:List Int}:oU (k,r,(t,p,m,n,s),fr,d)=bif eX (k,r,(t,p,m,n,s),fr,d) then 0 else 50:=by
 have hc:aj.c .neq (aj.k jH ((t,p,m,n,s),8)) 0=!eP (t,p,m,n,s):=by
  rw[show aj.k jH ((t,p,m,n,s),8)=bif eP (t,p,m,n,s) then 0 else 40 from rX (t,p,m,n,s)];cases eP (t,p,m,n,s)<;>rfl
 have hl:aj.l d=(d.length:Int):=rfl
 have hiff:=jI (k:=k) (r:=r) (t:=t) (p:=p) (m:=m) (n:=n) (s:=s) (fr:=fr) (d:=d)
 have hq:(t==t&&(p==0&&(m==0&&(n==0&&(s==0&&true)))))=decide (p=0∧m=0∧n=0∧s=0):=by
  rw[Bool.eq_iff_iff];simp
 simp only[oU,t57,LT.val,hc,hl,aF,aJ,ar,aB,aG,aN,aR,bD,hq,Bool.cond_eq_ite,hiff,Bool.and_eq_true,Bool.not_eq_true',decide_eq_true_eq,decide_eq_false_iff_not,beq_iff_eq,bne_iff_ne,ne_eq]
 cases eP (t,p,m,n,s)
 ·simp
 ·simp only[Bool.true_eq_false,if_false,true_and,Bool.not_true,Bool.false_eq_true,ite_false,reduceIte]
  generalize d.length=len
  repeat' split
  all_goals first|rfl|(exfalso;omega)|(exfalso;simp at *;omega)
theorem Nv{k r t p m n s fr:Int}{d:List Int}:Gp (k,r,(t,p,m,n,s),fr,d)=bif eX (k,r,(t,p,m,n,s),fr,d) then 0 else 50:=by
 have hc:aj.c .neq (aj.k CQ ((t,p,m,n,s),8)) 0=!eP (t,p,m,n,s):=by
  rw[show aj.k CQ ((t,p,m,n,s),8)=bif eP (t,p,m,n,s) then 0 else 40 from rX (t,p,m,n,s)];cases eP (t,p,m,n,s)<;>rfl
 have hl:aj.l d=(d.length:Int):=rfl
 have hiff:=jI (k:=k) (r:=r) (t:=t) (p:=p) (m:=m) (n:=n) (s:=s) (fr:=fr) (d:=d)
 have hq:(t==t&&(p==0&&(m==0&&(n==0&&(s==0&&true)))))=decide (p=0∧m=0∧n=0∧s=0):=by
  rw[Bool.eq_iff_iff];simp
 simp only[Gp,t58,LT.val,hc,hl,aF,aJ,ar,aB,aG,aN,aR,bD,hq,Bool.cond_eq_ite,hiff,Bool.and_eq_true,Bool.not_eq_true',decide_eq_true_eq,decide_eq_false_iff_not,beq_iff_eq,bne_iff_ne,ne_eq]
 cases eP (t,p,m,n,s)
 ·simp
 ·simp only[Bool.true_eq_false,if_false,true_and,Bool.not_true,Bool.false_eq_true,ite_false,reduceIte]
  generalize d.length=len
  clear hiff hq hc hl
  by_cases k1:k=1
  ·subst k1
   simp only[show ¬((1:Int)<1) by decide,show ¬((4:Int)<1) by decide,not_true_eq_false,true_and,if_true,if_false]
   repeat' split
   all_goals first|rfl|(exfalso;omega)
  ·by_cases k3:k=3
   ·subst k3
    simp only[show ¬((3:Int)<1) by decide,show ¬((4:Int)<3) by decide,k1,true_and,false_and,false_or,not_false_eq_true,if_true,if_false]
    repeat' split
    all_goals first|rfl|(exfalso;omega)
   ·simp only[k1,k3,true_and,false_and,false_or,not_false_eq_true,if_true,if_false]
    repeat' split
    all_goals first|rfl|(exfalso;omega)
theorem Dx{k d:Int}:mZ (k,d)=wN (k,d)∧Bz (k,d)=wN (k,d):=by
 have hm:0≤d∧d≤8→∀c:Int,c=29∨c=79→aj.b .add .i64 c (aj.b .mul .i64 8 d)=c+8*d:=by
  intro h c hc
  rw[js,fI (by omega) (by omega),bw,fI (by omega) (by omega)]
 constructor
 ·simp only[mZ,t56,LT.val,aF,ar,aG,Bool.cond_eq_ite,decide_eq_true_eq,beq_iff_eq,wN]
  by_cases h:0≤d∧d≤8
  ·rw[hm h 29 (.inl rfl),hm h 79 (.inr rfl),if_neg (show ¬d<0 by omega),if_neg (show ¬8<d by omega),if_pos h]
   repeat' split
   all_goals first|rfl|(exfalso;omega)
  ·rw[if_neg h]
   by_cases h1:d<0
   ·rw[if_pos h1]
   ·rw[if_neg h1,if_pos (show 8<d by omega)]
 ·simp only[Bz,t59,LT.val,aF,ar,aG,Bool.cond_eq_ite,decide_eq_true_eq,beq_iff_eq,wN]
  by_cases h:0≤d∧d≤8
  ·rw[hm h 29 (.inl rfl),hm h 79 (.inr rfl),if_neg (show ¬d<0 by omega),if_neg (show ¬8<d by omega),if_pos h]
   repeat' split
   all_goals first|rfl|(exfalso;omega)
  ·rw[if_neg h]
   by_cases h1:d<0
   ·rw[if_pos h1]
   ·rw[if_neg h1,if_pos (show 8<d by omega)]
open Go.Ev.Pl
def MK(A:bi)(n:Int)(kind:Int):LT Bool Empty:=.br (A.c .eql kind 1) (.ret (A.c .eql n 40)) (.br (A.c .eql kind 3) (.ret (A.c .eql n 54)) (.br (A.c .eql kind 2) (.br (A.c .geq (A.b .sub .i64 n 29) 0) (.br (A.c .leq (A.b .sub .i64 n 29) 64) (.ret (A.c .eql (A.b .rem .i64 (A.b .sub .i64 n 29) 8) 0)) (.ret false)) (.ret false)) (.br (A.c .geq (A.b .sub .i64 n 79) 0) (.br (A.c .leq (A.b .sub .i64 n 79) 64) (.ret (A.c .eql (A.b .rem .i64 (A.b .sub .i64 n 79) 8) 0)) (.ret false)) (.ret false))))
def jS:(Int×Int)→Bool:=fun(n,kind)=>(MK aj n kind).val (Ty.bZ [.bool])
def YC:aD:=⟨[yI,yI], [.bool],(@tt (Int×Int)),jS⟩
theorem TP:Sd 232 YC:=aM au cK true 54 [] (fun A (n,kind)=>MK A n kind) (fc Tryz.func232 fz) sz (fun((n,kind):Int×Int) hp h=>by
 show(MK aj n kind).pre=true
 simp[MK,LT.pre,ap,cN])
def KT(A:bi)(bN:Int)(bB:List Int)(kind:Int)(unsentN:Int)(unsentB:List Int):LT ((Int×List Int)×(Int×List Int)×Int) Empty:=.br (A.c .neq kind 4) (.need (A.k (@tt ((Int×List Int)×(Int×List Int))) ((bN,bB),unsentN,unsentB)) (.br (A.c .neq (A.k dF ((bN,bB),unsentN,unsentB)).2 0) (.ret ((A.k dF ((bN,bB),unsentN,unsentB)).1,(0,([]:List Int)),(A.k dF ((bN,bB),unsentN,unsentB)).2)) (.br (A.c .neq kind 3) (.ret ((A.k dF ((bN,bB),unsentN,unsentB)).1,(0,([]:List Int)),(A.k dF ((bN,bB),unsentN,unsentB)).2)) (.need (A.k (@tt ((Int×List Int)×Int×Int)) ((A.k dF ((bN,bB),unsentN,unsentB)).1,(A.b .sub .i64 (A.k dF ((bN,bB),unsentN,unsentB)).1.1 24),(A.k dF ((bN,bB),unsentN,unsentB)).1.1)) (.ret ((A.k dF ((bN,bB),unsentN,unsentB)).1,(A.k cn ((A.k dF ((bN,bB),unsentN,unsentB)).1,(A.b .sub .i64 (A.k dF ((bN,bB),unsentN,unsentB)).1.1 24),(A.k dF ((bN,bB),unsentN,unsentB)).1.1)))))))) (.need (A.k (@tt ((Int×List Int)×Int×Int)) ((bN,bB),0,55)) (.br (A.c .neq (A.k cn ((bN,bB),0,55)).2 0) (.ret ((0,([]:List Int)),(0,([]:List Int)),(A.k cn ((bN,bB),0,55)).2)) (.need (A.k (@tt ((Int×List Int)×(Int×List Int))) ((A.k cn ((bN,bB),0,55)).1,0,([]:List Int))) (.br (A.c .neq (A.k dF ((A.k cn ((bN,bB),0,55)).1,0,([]:List Int))).2 0) (.ret ((0,([]:List Int)),(0,([]:List Int)),(A.k dF ((A.k cn ((bN,bB),0,55)).1,0,([]:List Int))).2)) (.need (A.k (@tt ((Int×List Int)×Int×Int)) ((A.k dF ((A.k cn ((bN,bB),0,55)).1,0,([]:List Int))).1,(A.b .sub .i64 (A.k dF ((A.k cn ((bN,bB),0,55)).1,0,([]:List Int))).1.1 24),(A.k dF ((A.k cn ((bN,bB),0,55)).1,0,([]:List Int))).1.1)) (.br (A.c .neq (A.k cn ((A.k dF ((A.k cn ((bN,bB),0,55)).1,0,([]:List Int))).1,(A.b .sub .i64 (A.k dF ((A.k cn ((bN,bB),0,55)).1,0,([]:List Int))).1.1 24),(A.k dF ((A.k cn ((bN,bB),0,55)).1,0,([]:List Int))).1.1)).2 0) (.ret ((0,([]:List Int)),(0,([]:List Int)),(A.k cn ((A.k dF ((A.k cn ((bN,bB),0,55)).1,0,([]:List Int))).1,(A.b .sub .i64 (A.k dF ((A.k cn ((bN,bB),0,55)).1,0,([]:List Int))).1.1 24),(A.k dF ((A.k cn ((bN,bB),0,55)).1,0,([]:List Int))).1.1)).2)) (.need (A.k (@tt ((Int×List Int)×(Int×List Int))) ((bN,bB),(A.k cn ((A.k dF ((A.k cn ((bN,bB),0,55)).1,0,([]:List Int))).1,(A.b .sub .i64 (A.k dF ((A.k cn ((bN,bB),0,55)).1,0,([]:List Int))).1.1 24),(A.k dF ((A.k cn ((bN,bB),0,55)).1,0,([]:List Int))).1.1)).1)) (.ret ((A.k dF ((bN,bB),(A.k cn ((A.k dF ((A.k cn ((bN,bB),0,55)).1,0,([]:List Int))).1,(A.b .sub .i64 (A.k dF ((A.k cn ((bN,bB),0,55)).1,0,([]:List Int))).1.1 24),(A.k dF ((A.k cn ((bN,bB),0,55)).1,0,([]:List Int))).1.1)).1)).1,(A.k cn ((A.k dF ((A.k cn ((bN,bB),0,55)).1,0,([]:List Int))).1,(A.b .sub .i64 (A.k dF ((A.k cn ((bN,bB),0,55)).1,0,([]:List Int))).1.1 24),(A.k dF ((A.k cn ((bN,bB),0,55)).1,0,([]:List Int))).1.1)).1,(A.k dF ((bN,bB),(A.k cn ((A.k dF ((A.k cn ((bN,bB),0,55)).1,0,([]:List Int))).1,(A.b .sub .i64 (A.k dF ((A.k cn ((bN,bB),0,55)).1,0,([]:List Int))).1.1 24),(A.k dF ((A.k cn ((bN,bB),0,55)).1,0,([]:List Int))).1.1)).1)).2)))))))))
def bC:((Int×List Int)×Int×(Int×List Int))→((Int×List Int)×(Int×List Int)×Int):=fun((bN,bB),kind,unsentN,unsentB)=>(KT aj bN bB kind unsentN unsentB).val (Ty.bZ [(.struct [yI,yB]),(.struct [yI,yB]),yI])
def Vk:aD:=⟨[(.struct [yI,yB]),yI,(.struct [yI,yB])], [(.struct [yI,yB]),(.struct [yI,yB]),yI],(@tt ((Int×List Int)×Int×(Int×List Int))),bC⟩
theorem XJ:Sd 234 Vk:=aM au cK true 110 [] (fun A ((bN,bB),kind,unsentN,unsentB)=>KT A bN bB kind unsentN unsentB) (fc Tryz.func234 fz) (sc XR (sc Oe sz)) (fun(((bN,bB),kind,unsentN,unsentB):(Int×List Int)×Int×(Int×List Int)) hp h=>by
 show(KT aj bN bB kind unsentN unsentB).pre=true
 simp[KT,LT.pre,ap,cN])
theorem GX{n:Nat}(hn:n≤4096):jS ((n:Int),1)=eB n 1∧jS ((n:Int),2)=eB n 2∧jS ((n:Int),3)=eB n 3∧jS ((n:Int),4)=eB n 4:=by
 have key:∀a:Nat,a≤100→(bif aj.c .geq (aj.b .sub .i64 (n:Int) (a:Int)) 0 then(bif aj.c .leq (aj.b .sub .i64 (n:Int) (a:Int)) 64 then aj.c .eql (aj.b .rem .i64 (aj.b .sub .i64 (n:Int) (a:Int)) 8) 0 else false) else false)=(decide (a≤n)&&decide (n≤a+64)&&decide ((n-a)%8=0)):=by
  intro a ha
  rw[aZ,fI (by omega) (by omega),aN,aB,aF,AJ]
  by_cases h1:a≤n
  ·rw[Int.tmod_eq_emod_of_nonneg (by omega),show decide ((0:Int)≤(n:Int)-(a:Int))=true from by simp;omega,cond_true,show decide (a≤n)=true from by simpa using h1,Bool.true_and]
   by_cases h2:n≤a+64
   ·rw[show decide ((n:Int)-(a:Int)≤64)=true from by simp;omega,cond_true,show decide (n≤a+64)=true from by simpa using h2,Bool.true_and,Bool.eq_iff_iff]
    simp only[beq_iff_eq,decide_eq_true_eq]
    omega
   ·rw[show decide ((n:Int)-(a:Int)≤64)=false from by simp;omega,cond_false,show decide (n≤a+64)=false from by simpa using h2,Bool.false_and]
  ·rw[show decide ((0:Int)≤(n:Int)-(a:Int))=false from by simp;omega,cond_false,show decide (a≤n)=false from by simpa using h1,Bool.false_and,Bool.false_and]
 refine⟨?_,?_,?_,?_⟩
 ·show((n:Int)==40)=(n==40)
  rw[Bool.eq_iff_iff];simp;omega
 ·refine(key 29 (by decide)).trans ?_
  show _=(decide (29≤n)&&decide (n≤93)&&(n%8==5))
  rw[Bool.eq_iff_iff];simp;omega
 ·show((n:Int)==54)=(n==54)
  rw[Bool.eq_iff_iff];simp;omega
 ·refine(key 79 (by decide)).trans ?_
  show _=(decide (79≤n)&&decide (n≤143)&&(n%8==7))
  rw[Bool.eq_iff_iff];simp;omega
theorem zk{n m k:Int}{b u:List Int}(hk:k=1∨k=2):bC ((n,b),k,(m,u))=((dG ((n,b),(m,u))).1,zB,(dG ((n,b),(m,u))).2):=by
 have h1:aj.c .neq k 4=true:=fL (by omega)
 have h3:aj.c .neq k 3=true:=fL (by omega)
 simp only[bC,KT,LT.val,h1,h3,cond_true]
 show(bif _ then _ else _)=_
 cases aj.c .neq (aj.k dF ((n,b),(m,u))).2 0<;>rfl
theorem Kn{n m:Int}{b u:List Int}:bC ((n,b),3,(m,u))=bif (dG ((n,b),(m,u))).2 != 0 then((dG ((n,b),(m,u))).1,zB,(dG ((n,b),(m,u))).2) else((dG ((n,b),(m,u))).1,cr ((dG ((n,b),(m,u))).1,aj.b .sub .i64 (dG ((n,b),(m,u))).1.1 24,(dG ((n,b),(m,u))).1.1)):=by kernel_rfl
theorem IM{n m:Int}{b u:List Int}:bC ((n,b),4,(m,u))=bif (cr ((n,b),0,55)).2 != 0 then(zB,zB,(cr ((n,b),0,55)).2) else
  bif (dG ((cr ((n,b),0,55)).1,zB)).2 != 0 then(zB,zB,(dG ((cr ((n,b),0,55)).1,zB)).2) else
  bif (cr ((dG ((cr ((n,b),0,55)).1,zB)).1,aj.b .sub .i64 (dG ((cr ((n,b),0,55)).1,zB)).1.1 24,(dG ((cr ((n,b),0,55)).1,zB)).1.1)).2 != 0 then(zB,zB,(cr ((dG ((cr ((n,b),0,55)).1,zB)).1,aj.b .sub .i64 (dG ((cr ((n,b),0,55)).1,zB)).1.1 24,(dG ((cr ((n,b),0,55)).1,zB)).1.1)).2) else
  ((dG ((n,b),(cr ((dG ((cr ((n,b),0,55)).1,zB)).1,aj.b .sub .i64 (dG ((cr ((n,b),0,55)).1,zB)).1.1 24,(dG ((cr ((n,b),0,55)).1,zB)).1.1)).1)).1,(cr ((dG ((cr ((n,b),0,55)).1,zB)).1,aj.b .sub .i64 (dG ((cr ((n,b),0,55)).1,zB)).1.1 24,(dG ((cr ((n,b),0,55)).1,zB)).1.1)).1,(dG ((n,b),(cr ((dG ((cr ((n,b),0,55)).1,zB)).1,aj.b .sub .i64 (dG ((cr ((n,b),0,55)).1,zB)).1.1 24,(dG ((cr ((n,b),0,55)).1,zB)).1.1)).1)).2):=by kernel_rfl
theorem v8{l:List Bool}(h1:24≤l.length)(h2:l.length≤4096):cr (bS l,aj.b .sub .i64 (bS l).1 24,(bS l).1)=(bS (l.drop (l.length-24)),0):=by
 have hb:(bS l).1=((l.length:Nat):Int):=rfl
 rw[hb,show aj.b .sub .i64 ((l.length:Nat):Int) 24=((l.length-24:Nat):Int) from mm (j:=24) h1 (by omega),GF h2 (by omega) (Nat.le_refl _),List.take_length]
theorem Hf{n:Nat}{b:List Int}(hok:bO ((n:Int),b)=true)(hn:n=54):bC (((n:Int),b),3,(0, []))=bif over 0 (unpack n b) != 0 then(zB,zB,21) else(bS ((unpack n b).take 30),bS (((unpack n b).drop 6).take 24),0):=by
 have hl:(bR ((n:Int),b)).length=n:=by rw[il];rfl
 have e:=nL (u:=(0, [])) hok rfl (by omega)
 rw[hl,show over 0 (bR ((0:Int),([]:List Int)))=0 from rfl,show n-24=30 from by omega,show bR ((n:Int),b)=unpack n b from rfl] at e
 have h30:((unpack n b).take 30).length=30:=by rw[List.length_take,bg];omega
 have e2:=v8 (l:=(unpack n b).take 30) (by omega) (by omega)
 rw[h30,List.drop_take,show 30-24=6 from rfl,show 30-6=24 from rfl] at e2
 rw[Kn,e]
 cases over 0 (unpack n b) != 0
 ·simp only[cond_false]
  rw[e2];rfl
 ·rfl
theorem G_{n:Nat}{b:List Int}(hok:bO ((n:Int),b)=true)(hn:79≤n)(hn2:n≤143):bC (((n:Int),b),4,(0, []))=bif over 0 ((unpack n b).take 55) != 0 then(zB,zB,21) else bif over (over 0 (((unpack n b).drop 7).take 24)) (unpack n b) != 0 then(zB,bS (((unpack n b).drop 7).take 24),21) else(bS ((unpack n b).take (n-24)),bS (((unpack n b).drop 7).take 24),0):=by
 have hl:(bR ((n:Int),b)).length=n:=by rw[il];rfl
 have h55:((unpack n b).take 55).length=55:=by rw[List.length_take,bg];omega
 have h31:((unpack n b).take 31).length=31:=by rw[List.length_take,bg];omega
 have e1:cr (((n:Int),b),0,55)=(bS ((unpack n b).take 55),0):=by
  rw[cr]
  simp only[hok]
  rw[show decide ((n:Int)<55)=false from by simp;omega]
  rfl
 have e2:dG (bS ((unpack n b).take 55),zB)=bif over 0 ((unpack n b).take 55) != 0 then(zB,21) else(bS ((unpack n b).take 31),0):=by
  have hk:bO (bS ((unpack n b).take 55))=true:=iN (by omega)
  have:=nL (n:=(bS ((unpack n b).take 55)).1) (b:=(bS ((unpack n b).take 55)).2) (u:=zB) hk rfl (by rw[show((bS ((unpack n b).take 55)).1,(bS ((unpack n b).take 55)).2)=bS ((unpack n b).take 55) from rfl,gG];omega)
  rw[show((bS ((unpack n b).take 55)).1,(bS ((unpack n b).take 55)).2)=bS ((unpack n b).take 55) from rfl,gG,h55,List.take_take,show over 0 (bR zB)=0 from rfl] at this
  exact this
 have e3:cr (bS ((unpack n b).take 31),aj.b .sub .i64 (bS ((unpack n b).take 31)).1 24,(bS ((unpack n b).take 31)).1)=(bS (((unpack n b).drop 7).take 24),0):=by
  have:=v8 (l:=(unpack n b).take 31) (by omega) (by omega)
  rw[h31,List.drop_take] at this
  exact this
 have e4:dG (((n:Int),b),bS (((unpack n b).drop 7).take 24))=bif over (over 0 (((unpack n b).drop 7).take 24)) (unpack n b) != 0 then(zB,21) else(bS ((unpack n b).take (n-24)),0):=by
  rw[nL hok (iN (by rw[List.length_take];omega)) (by omega),hl,gG];rfl
 rw[IM,e1]
 simp only[e2]
 cases over 0 ((unpack n b).take 55) != 0
 ·simp only[cond_false,e3]
  rw[e4]
  cases over (over 0 (((unpack n b).drop 7).take 24)) (unpack n b) != 0<;>rfl
 ·rfl
end Go.Ev.M
