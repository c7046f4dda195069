/-
  PROVED: what the functions of the packages crc, cstate, metronomeref02 and metronomeref04 compute, and some of frame and metronomeref05. Conditions: none.
-/
import Derived.Test.YteldjjjcdpnnbaaGreatFa
namespace Go.Ev.M
open Go.Proofs
set_option maxRecDepth 100000
set_option linter.unusedVariables false
set_option linter.unusedSimpArgs false
open Go.Ev.Pl
def Dl(A:bg)(r:Int):LT Int Empty:=.br (A.c .eql (A.b .shr .u32 r 23) 1) (.ret (A.b .xor .u32 (A.b .and .u32 (A.b .shl .u32 r 1) 16777215) 6122955)) (.ret (A.b .and .u32 (A.b .shl .u32 r 1) 16777215))
def u_:Int→Int:=fun r=>(Dl ai r).val (Ty.da [(.int .u32)])
def Sw:aB:=⟨[(.int .u32)], [(.int .u32)],(@tt Int),u_⟩
theorem H5:Sd 267 Sw:=aJ ar cO true 35 [] (fun A r=>Dl A r) (fc Tryz.func267 fz) sz (fun(r:Int) hp h=>by
 show(Dl ai r).pre=true
 simp[Dl,LT.pre])
theorem Gh{a:Int}(h1:0≤a)(h2:a≤4294967295):IntKind.u32.wrap a=a:=IntWalk.u32_in a ⟨h1,h2⟩
theorem xm{a b:Nat}(ha:a<4294967296)(hb:b<4294967296):ai.b .xor .u32 (a:Int) (b:Int)=((a ^^^ b:Nat):Int):=by
 show IntKind.u32.wrap ((BitVec.ofInt 32 (a:Int) ^^^ BitVec.ofInt 32 (b:Int)).toNat:Int)=_
 rw[BitVec.ofInt_natCast,BitVec.ofInt_natCast,BitVec.toNat_xor,BitVec.toNat_ofNat,BitVec.toNat_ofNat,Nat.mod_eq_of_lt ha,Nat.mod_eq_of_lt hb]
 have:a ^^^ b<2^32:=Nat.xor_lt_two_pow ha hb
 rw[Gh (by omega) (by omega)]
theorem IW{a:Nat}(ha:a<4294967296):ai.b .and .u32 (a:Int) 16777215=((a%16777216:Nat):Int):=by
 show IntKind.u32.wrap ((BitVec.ofInt 32 (a:Int) &&& BitVec.ofInt 32 ((16777215:Nat):Int)).toNat:Int)=_
 rw[BitVec.ofInt_natCast,BitVec.ofInt_natCast,BitVec.toNat_and,BitVec.toNat_ofNat,BitVec.toNat_ofNat,Nat.mod_eq_of_lt ha,show 16777215%2^32=2^24-1 from rfl,Nat.and_two_pow_sub_one_eq_mod,Gh (by omega) (by omega)]
theorem Ao{a k:Nat}(hk:k≤32)(h:a*2^k<4294967296):ai.b .shl .u32 (a:Int) (k:Int)=((a*2^k:Nat):Int):=by
 show IntKind.u32.wrap ((a:Int)*2^min (k:Int).toNat 32)=_
 rw[Int.toNat_natCast,Nat.min_eq_left hk,show(a:Int)*2^k=((a*2^k:Nat):Int) from by simp,Gh (by omega) (by omega)]
theorem DL{r:Nat}(hr:r<16777216):u_ (r:Int)=((step1 r false:Nat):Int):=by
 simp only[u_,Dl,LT.val]
 have h1:ai.b .shr .u32 (r:Int) 23=((r/2^23:Nat):Int):=Ee (n:=23) (by omega) (by decide)
 have h2:ai.b .and .u32 (ai.b .shl .u32 (r:Int) 1) 16777215=((2*r%16777216:Nat):Int):=by
  have h3:ai.b .shl .u32 (r:Int) 1=((r*2^1:Nat):Int):=Ao (k:=1) (by decide) (by omega)
  rw[h3,IW (by omega),Nat.pow_one,Nat.mul_comm]
 rw[h1,h2,step1,Bool.bne_false]
 have h4:ai.c .eql ((r/2^23:Nat):Int) 1=decide (8388608≤r):=by
  rw[aR,Bool.eq_iff_iff,decide_eq_true_eq,beq_iff_eq]
  omega
 rw[h4]
 cases decide (8388608≤r)
 ·rfl
 ·have:ai.b .xor .u32 ((2*r%16777216:Nat):Int) 6122955=((2*r%16777216 ^^^ 6122955:Nat):Int):=xm (b:=6122955) (by omega) (by decide)
  rw[cond_true,cond_true,this]
structure LC where
 (a0 a1 a2 a3 a4 a5 a6 a7 a8 a9 cf dR a12 nf jN rh a16 a17 rm kx a20 a21 a22 a23 a24 a25 a26 a27 a28 a29 a30 a31 a32:Int)
structure Jm where
 (b0 b2 b4 b5 b6 b7 b8 b9 b10 b11 b12 b13 w5 yy tZ Au BZ j6 lq kC ll re ru rD oY kS kX xg xe xq yu xV xb w9:Int)
inductive GG where
 | c0 (p:LC)
 | c1 (p:Jm) (b1:Int) (b3:Int)
noncomputable def JI:GG→fE
 | .c0 p=>⟨[⟨265,20,(en [(0,.ptr 0 0),(1,.ptr 1 0),(4,vi p.a0)]),[.inLoop (cw Tryz.f265 [1,1,0,1,0,0]),.inBlock 0,.code (cw Tryz.f265 [1,1,1])],[],none⟩],[.flat false [.int .u32 false p.a1,.int .u32 false p.a2,.int .u32 false p.a3,.int .u32 false p.a4,.int .u32 false p.a5,.int .u32 false p.a6,.int .u32 false p.a7,.int .u32 false p.a8,.int .u32 false p.a9,.int .u32 false p.cf,.int .u32 false p.dR,.int .u32 false p.a12,.int .u32 false p.nf,.int .u32 false p.jN,.int .u32 false p.rh,.int .u32 false p.a16],.flat false [.int .u32 false p.a17,.int .u32 false p.rm,.int .u32 false p.kx,.int .u32 false p.a20,.int .u32 false p.a21,.int .u32 false p.a22,.int .u32 false p.a23,.int .u32 false p.a24,.int .u32 false p.a25,.int .u32 false p.a26,.int .u32 false p.a27,.int .u32 false p.a28,.int .u32 false p.a29,.int .u32 false p.a30,.int .u32 false p.a31,.int .u32 false p.a32],.dead]⟩
 | .c1 p b1 b3=>⟨[⟨265,20,(en [(0,.ptr 0 0),(1,.ptr 1 0),(2,vi p.b0),(3,.int .u32 false b1),(4,vi p.b2),(10,vi b3)]),[.inLoop (cw Tryz.f265 [1,1,0,1,0,0,1,1,0,0,1,1,0,1,0,0]),.inBlock 2,.code (cw Tryz.f265 [1,1,0,1,0,0,1,1,0,0,1,1,1]),.inBlock 1,.code (cw Tryz.f265 [1,1,0,1,0,0,1,1,1]),.inLoop (cw Tryz.f265 [1,1,0,1,0,0]),.inBlock 0,.code (cw Tryz.f265 [1,1,1])],[],none⟩],[.flat false [.int .u32 false p.b4,.int .u32 false p.b5,.int .u32 false p.b6,.int .u32 false p.b7,.int .u32 false p.b8,.int .u32 false p.b9,.int .u32 false p.b10,.int .u32 false p.b11,.int .u32 false p.b12,.int .u32 false p.b13,.int .u32 false p.w5,.int .u32 false p.yy,.int .u32 false p.tZ,.int .u32 false p.Au,.int .u32 false p.BZ,.int .u32 false p.j6],.flat false [.int .u32 false p.lq,.int .u32 false p.kC,.int .u32 false p.ll,.int .u32 false p.re,.int .u32 false p.ru,.int .u32 false p.rD,.int .u32 false p.oY,.int .u32 false p.kS,.int .u32 false p.kX,.int .u32 false p.xg,.int .u32 false p.xe,.int .u32 false p.xq,.int .u32 false p.yu,.int .u32 false p.xV,.int .u32 false p.xb,.int .u32 false p.w9],.dead]⟩
def SX(A:bg):LT (List Int) GG:=.more (.c0 ⟨0,0,0,0,0,0,0,0,0,0,0,0,0,0,0,0,0,0,0,0,0,0,0,0,0,0,0,0,0,0,0,0,0⟩)
def O2(A:bg):GG→LT (List Int) GG
 | .c0 p=>.br (A.c .lss p.a0 16) (.more (.c1 ⟨p.a0,p.a0,p.a1,p.a2,p.a3,p.a4,p.a5,p.a6,p.a7,p.a8,p.a9,p.cf,p.dR,p.a12,p.nf,p.jN,p.rh,p.a16,p.a17,p.rm,p.kx,p.a20,p.a21,p.a22,p.a23,p.a24,p.a25,p.a26,p.a27,p.a28,p.a29,p.a30,p.a31,p.a32⟩ (A.b .shl .u32 (A.v .u32 p.a0) 20) 0)) (.ret [p.a17,p.rm,p.kx,p.a20,p.a21,p.a22,p.a23,p.a24,p.a25,p.a26,p.a27,p.a28,p.a29,p.a30,p.a31,p.a32])
 | .c1 p b1 b3=>.br (A.c .lss b3 4) (.need (A.k (@tt Int) b1) (.more (.c1 p (A.k u_ b1) (A.b .add .i64 b3 1)))) (.need (A.and (A.c .leq 0 p.b0) (A.c .lss p.b0 16)) (.more (.c0 ⟨(A.b .add .i64 p.b2 1),p.b4,p.b5,p.b6,p.b7,p.b8,p.b9,p.b10,p.b11,p.b12,p.b13,p.w5,p.yy,p.tZ,p.Au,p.BZ,p.j6,(A.n (.int .u32) (A.set [p.lq,p.kC,p.ll,p.re,p.ru,p.rD,p.oY,p.kS,p.kX,p.xg,p.xe,p.xq,p.yu,p.xV,p.xb,p.w9] p.b0 b1) 0:Int),(A.n (.int .u32) (A.set [p.lq,p.kC,p.ll,p.re,p.ru,p.rD,p.oY,p.kS,p.kX,p.xg,p.xe,p.xq,p.yu,p.xV,p.xb,p.w9] p.b0 b1) 1:Int),(A.n (.int .u32) (A.set [p.lq,p.kC,p.ll,p.re,p.ru,p.rD,p.oY,p.kS,p.kX,p.xg,p.xe,p.xq,p.yu,p.xV,p.xb,p.w9] p.b0 b1) 2:Int),(A.n (.int .u32) (A.set [p.lq,p.kC,p.ll,p.re,p.ru,p.rD,p.oY,p.kS,p.kX,p.xg,p.xe,p.xq,p.yu,p.xV,p.xb,p.w9] p.b0 b1) 3:Int),(A.n (.int .u32) (A.set [p.lq,p.kC,p.ll,p.re,p.ru,p.rD,p.oY,p.kS,p.kX,p.xg,p.xe,p.xq,p.yu,p.xV,p.xb,p.w9] p.b0 b1) 4:Int),(A.n (.int .u32) (A.set [p.lq,p.kC,p.ll,p.re,p.ru,p.rD,p.oY,p.kS,p.kX,p.xg,p.xe,p.xq,p.yu,p.xV,p.xb,p.w9] p.b0 b1) 5:Int),(A.n (.int .u32) (A.set [p.lq,p.kC,p.ll,p.re,p.ru,p.rD,p.oY,p.kS,p.kX,p.xg,p.xe,p.xq,p.yu,p.xV,p.xb,p.w9] p.b0 b1) 6:Int),(A.n (.int .u32) (A.set [p.lq,p.kC,p.ll,p.re,p.ru,p.rD,p.oY,p.kS,p.kX,p.xg,p.xe,p.xq,p.yu,p.xV,p.xb,p.w9] p.b0 b1) 7:Int),(A.n (.int .u32) (A.set [p.lq,p.kC,p.ll,p.re,p.ru,p.rD,p.oY,p.kS,p.kX,p.xg,p.xe,p.xq,p.yu,p.xV,p.xb,p.w9] p.b0 b1) 8:Int),(A.n (.int .u32) (A.set [p.lq,p.kC,p.ll,p.re,p.ru,p.rD,p.oY,p.kS,p.kX,p.xg,p.xe,p.xq,p.yu,p.xV,p.xb,p.w9] p.b0 b1) 9:Int),(A.n (.int .u32) (A.set [p.lq,p.kC,p.ll,p.re,p.ru,p.rD,p.oY,p.kS,p.kX,p.xg,p.xe,p.xq,p.yu,p.xV,p.xb,p.w9] p.b0 b1) 10:Int),(A.n (.int .u32) (A.set [p.lq,p.kC,p.ll,p.re,p.ru,p.rD,p.oY,p.kS,p.kX,p.xg,p.xe,p.xq,p.yu,p.xV,p.xb,p.w9] p.b0 b1) 11:Int),(A.n (.int .u32) (A.set [p.lq,p.kC,p.ll,p.re,p.ru,p.rD,p.oY,p.kS,p.kX,p.xg,p.xe,p.xq,p.yu,p.xV,p.xb,p.w9] p.b0 b1) 12:Int),(A.n (.int .u32) (A.set [p.lq,p.kC,p.ll,p.re,p.ru,p.rD,p.oY,p.kS,p.kX,p.xg,p.xe,p.xq,p.yu,p.xV,p.xb,p.w9] p.b0 b1) 13:Int),(A.n (.int .u32) (A.set [p.lq,p.kC,p.ll,p.re,p.ru,p.rD,p.oY,p.kS,p.kX,p.xg,p.xe,p.xq,p.yu,p.xV,p.xb,p.w9] p.b0 b1) 14:Int),(A.n (.int .u32) (A.set [p.lq,p.kC,p.ll,p.re,p.ru,p.rD,p.oY,p.kS,p.kX,p.xg,p.xe,p.xq,p.yu,p.xV,p.xb,p.w9] p.b0 b1) 15:Int)⟩)))
def goT{R Y:Type}(step:Y→LT R Y):Nat→LT R Y→Option R
 | 0,_=>none
 | _+1,.ret r=>some r
 | n+1,.more y=>goT step n (step y)
 | n+1,.br b t e=>bif b then goT step n t else goT step n e
 | n+1,.need b t=>bif b then goT step n t else none
 | _+1,_=>none
theorem De{R Y:Type}{step:Y→LT R Y}:∀{n:Nat} {t:LT R Y} {r:R},goT step n t=some r→aC step t r:=by
 intro n
 induction n with
 | zero=>intro t r h;cases h
 | succ n ih=>
   intro t r h
   cases t with
   | ret x=>cases h;exact .ret _
   | more y=>exact .more (ih h)
   | br b t e=>
     rw[goT] at h
     cases b
     ·exact(ah rfl).2 (ih h)
     ·exact(aj rfl).2 (ih h)
   | need b t=>
     rw[goT] at h
     cases b
     ·cases h
     ·exact af.2 ⟨rfl,ih h⟩
   | eqs p t=>cases h
   | bad m s=>cases h
def Sf:List Int:=[0,6122955,12245910,15185501,2677479,7714604,9568625,13593786,5354958,841733,15429208,11928467,7958313,2360034,12825791,10410356]
theorem CK:∀i:Fin 16,Sf.getD i.val 0=((xC.getD i.val 0:Nat):Int):=by decide +kernel
theorem ER:∀i:Fin 16,xC.getD i.val 0<16777216:=by decide +kernel
theorem L1:aC (O2 ai) (SX ai) Sf:=De (n:=400) (by kernel_rfl)
def gX:Unit→(List Int):=fun _=>[0,6122955,12245910,15185501,2677479,7714604,9568625,13593786,5354958,841733,15429208,11928467,7958313,2360034,12825791,10410356]
def SH:aB:=⟨[], [(.arr 16 (.int .u32))],(@tt Unit),gX⟩
theorem QD:Sd 265 SH:=aH ar cO true 21 [⟨265,3, [[0,1,4]]⟩,⟨265,7, [[0,1,2,3,4,10]]⟩] [] (fun A _=>SX A) O2 JI (fc Tryz.func265 fz) (sc H5 sz) (fun A y=>match y with |.c0 p=>⟨34,by kernel_rfl,by kernel_rfl⟩|.c1 p b1 b3=>⟨25,by kernel_rfl,by kernel_rfl⟩) fun _ hp h=>L1
open Go.Ev.Pl
structure D1 where
 (a1:List Bool)
inductive A8 where
 | c0 (p:D1) (a0:Int) (a2:Int)
noncomputable def IX:A8→fE
 | .c0 p a0 a2=>⟨[⟨223,29,(en [(0,.int .u32 false a0),(1,.sl .bool p.a1),(5,vi a2)]),[.inLoop (cw Tryz.f223 [1,0,1,0,0]),.inBlock 0,.code (cw Tryz.f223 [1,1])],[],none⟩],[.dead]⟩
def t160(A:bg)(r:Int)(l:List Bool):LT Int A8:=.more (.c0 ⟨l⟩ r 0)
def Em(A:bg):A8→LT Int A8
 | .c0 p a0 a2=>.br (A.c .lss a2 (A.l p.a1)) (.need (A.and (A.c .leq 0 a2) (A.c .lss a2 (A.l p.a1))) (.br (A.not (A.q (A.c .eql (A.b .rem .u32 (A.b .shr .u32 a0 23) 2) 1) (A.n .bool p.a1 a2:Bool))) (.more (.c0 p (A.b .xor .u32 (A.b .rem .u32 (A.b .shl .u32 a0 1) 16777216) 6122955) (A.b .add .i64 a2 1))) (.more (.c0 p (A.b .rem .u32 (A.b .shl .u32 a0 1) 16777216) (A.b .add .i64 a2 1))))) (.ret a0)
theorem EG{l:List Bool}(hl:l.length≤140737488355328):∀(j i r:Nat) (p:D1),p.a1=l→l.length-i=j→i≤l.length→r<16777216→aC (Em ai) (.more (.c0 p (r:Int) (i:Int))) ((over r (l.drop i):Nat):Int):=by
 intro j
 induction j with
 | zero=>
   intro i r p h1 hj hi hr
   have:i=l.length:=by omega
   subst this
   simp only[ak,Em]
   refine(ah (by rw[show ai.l p.a1=(l.length:Int) from by rw[h1];rfl,aI];simp)).2 ?_
   rw[List.drop_length,lz]
   exact .ret _
 | succ j ih=>
   intro i r p h1 hj hi hr
   have hi':i<l.length:=by omega
   simp only[ak,Em]
   refine(aj (by rw[show ai.l p.a1=(l.length:Int) from by rw[h1];rfl,aI];simp;omega)).2 (af.2 ⟨by rw[h1];exact aL hi',?_⟩)
   have hn:(ai.n .bool p.a1 (i:Int):Bool)=l[i]:=by rw[h1];exact getD_in hi' _
   have h4:ai.c .eql (ai.b .rem .u32 (ai.b .shr .u32 (r:Int) 23) 2) 1=decide (8388608≤r):=by
    rw[show ai.b .shr .u32 (r:Int) 23=((r/2^23:Nat):Int) from Ee (n:=23) (by omega) (by decide),xF]
    exact decide_eq_decide.2 (by omega)
   have h2:ai.b .rem .u32 (ai.b .shl .u32 (r:Int) 1) 16777216=((2*r%16777216:Nat):Int):=by
    rw[show ai.b .shl .u32 (r:Int) 1=((r*2^1:Nat):Int) from Ao (k:=1) (by decide) (by omega),wz,Int.tmod_eq_emod_of_nonneg (by omega)]
    omega
   have hb:ai.not (ai.q (ai.c .eql (ai.b .rem .u32 (ai.b .shr .u32 (r:Int) 23) 2) 1) (ai.n .bool p.a1 (i:Int):Bool))=(decide (8388608≤r) != l[i]):=by
    rw[h4,hn];rfl
   have hd:over r (l.drop i)=over (step1 r l[i]) (l.drop (i+1)):=by rw[List.drop_eq_getElem_cons hi',eU]
   have hm:=ih (i+1) (step1 r l[i]) p h1 (by omega) (by omega) (kM _ _)
   rw[hd]
   rw[step1] at hm ⊢
   cases hx:(decide (8388608≤r) != l[i])
   ·refine(ah (hb.trans hx)).2 ?_
    rw[hx] at hm
    exact aZ (congrArg LT.more (congr (congrArg (A8.c0 p) h2) (cK (by omega)))) hm
   ·refine(aj (hb.trans hx)).2 ?_
    rw[hx] at hm
    refine aZ (congrArg LT.more (congr (congrArg (A8.c0 p) ?_) (cK (by omega)))) hm
    rw[h2]
    exact xm (b:=6122955) (by omega) (by decide)
theorem Dr{r:Int}{l:List Bool}(h:Ty.dH [(.int .u32),(.slice .bool)] (r,l)):l.length≤140737488355328:=by
 have h1:(0≤r∧r≤4294967295)∧l.length≤cr∧_:=h
 exact h1.2.1
theorem Bf{r:Int}{l:List Bool}(h:Ty.dH [(.int .u32),(.slice .bool)] (r,l))(hp:(decide (0≤r)&&decide (r<16777216))=true):aC (Em ai) (t160 ai r l) ((over r.toNat l:Nat):Int):=by
 rw[Bool.and_eq_true,decide_eq_true_eq,decide_eq_true_eq] at hp
 obtain⟨m,rfl⟩:=Int.eq_ofNat_of_zero_le hp.1
 exact EG (Dr h) l.length 0 m _ rfl (by omega) (by omega) (by omega)
def Ag:(Int×List Bool)→Int:=fun(r,l)=>((over r.toNat l:Nat):Int)
def wJ:(Int×List Bool)→Bool:=fun(r,_)=>decide (0≤r)&&decide (r<16777216)
def MP:aB:=⟨[(.int .u32),(.slice .bool)], [(.int .u32)],wJ,Ag⟩
theorem Rf:Sd 223 MP:=aH ar cO true 17 [⟨223,2, [[0,1,5]]⟩] [] (fun A (r,l)=>t160 A r l) Em IX (fc Tryz.func223 fz) sz (fun A y=>match y with |.c0 p a0 a2=>⟨54,by kernel_rfl,by kernel_rfl⟩) fun((r,l):Int×List Bool) hp h=>Bf h hp
structure Fg where
 (a0:List (Int×List Int))
inductive Ca where
 | c0 (p:Fg) (a1:Int) (a2:Int)
noncomputable def K9:Ca→fE
 | .c0 p a1 a2=>⟨[⟨189,26,(en [(0,.sl (.struct [yI,yB]) p.a0),(4,.int .u32 false a1),(5,vi a2)]),[.inLoop (cw Tryz.f189 [1,1,0,1,0,0]),.inBlock 0,.code (cw Tryz.f189 [1,1,1])],[],none⟩],[.dead]⟩
def QA(A:bg)(l:List (Int×List Int)):LT (Int×Int) Ca:=.more (.c0 ⟨l⟩ 0 0)
def DT(A:bg):Ca→LT (Int×Int) Ca
 | .c0 p a1 a2=>.br (A.c .lss a2 (A.l p.a0)) (.need (A.and (A.c .leq 0 a2) (A.c .lss a2 (A.l p.a0))) (.need (A.k (@tt ((Int×List Int))) (A.n (.struct [yI,yB]) p.a0 a2:Int×List Int)) (.br (A.c .neq (A.k i_ (A.n (.struct [yI,yB]) p.a0 a2:Int×List Int)) 0) (.ret (0,10)) (.need (A.and (A.c .leq 0 a2) (A.c .lss a2 (A.l p.a0))) (.need (A.k (@tt ((Int×List Int))) (A.n (.struct [yI,yB]) p.a0 a2:Int×List Int)) (.need (A.k wJ (a1,(A.k ji (A.n (.struct [yI,yB]) p.a0 a2:Int×List Int)))) (.more (.c0 p (A.k Ag (a1,(A.k ji (A.n (.struct [yI,yB]) p.a0 a2:Int×List Int)))) (A.b .add .i64 a2 1))))))))) (.ret (a1,0))
theorem yW{r:Nat}(h:r<16777216)(l:List Bool):ai.k wJ ((r:Int),l)=true:=by
 rw[ap,wJ,Bool.and_eq_true,decide_eq_true_eq,decide_eq_true_eq]
 omega
theorem FZ{l:List (Int×List Int)}(hl:l.length≤140737488355328):∀(j i:Nat) (p:Fg),p.a0=l→l.length-i=j→i≤l.length→(∀x∈l.take i,bq x=true)→aC (DT ai) (.more (.c0 p ((over 0 ((l.take i).flatMap bC):Nat):Int) (i:Int))) (qB l):=by
 intro j
 induction j with
 | zero=>
   intro i p h1 hj hi hok
   have:i=l.length:=by omega
   subst this
   rw[List.take_length] at hok ⊢
   simp only[ak,DT]
   refine(ah (by rw[show ai.l p.a0=(l.length:Int) from by rw[h1];rfl,aI];simp)).2 ?_
   rw[qB,List.all_eq_true.2 hok]
   exact .ret _
 | succ j ih=>
   intro i p h1 hj hi hok
   simp only[ak,DT]
   have hi':i<l.length:=by omega
   refine(aj (by rw[show ai.l p.a0=(l.length:Int) from by rw[h1];rfl,aI];simp;omega)).2 (af.2 ⟨by rw[h1];exact aL hi',af.2 ⟨rfl,?_⟩⟩)
   have hn1:(ai.n (.struct [(.int .i64),(.slice (.int .u8))]) p.a0 (i:Int):Int×List Int)=l[i]:=by rw[h1,kG hi']
   rw[hn1]
   have hn:(ai.k i_ l[i])=bif bq l[i] then 0 else 10:=by rw[ap,i_]
   rw[hn]
   cases hx:bq l[i]
   ·refine(aj rfl).2 ?_
    rw[qB,show l.all bq=false from List.all_eq_false.2 ⟨l[i],List.getElem_mem hi',by rw[hx];decide⟩]
    exact .ret _
   ·refine(ah rfl).2 ?_
    have hL:(ai.k ji l[i])=bC l[i]:=by rw[ap,ji,hx];rfl
    have hlt:=gn (r:=0) (by decide) ((l.take i).flatMap bC)
    have hc:ai.k Ag (((over 0 ((l.take i).flatMap bC):Nat):Int),bC l[i])=((over 0 ((l.take (i+1)).flatMap bC):Nat):Int):=by
     rw[ap,Ag,Int.toNat_natCast,ve hi',fj]
    rw[hL]
    refine af.2 ⟨by rw[h1];exact aL hi',af.2 ⟨rfl,af.2 ⟨?_,?_⟩⟩⟩
    ·exact yW hlt _
    ·refine aZ (congrArg LT.more (congr (congrArg (Ca.c0 p) hc) (cK (by omega)))) (ih (i+1) p h1 (by omega) (by omega) ?_)
     intro x hx2
     rw[List.take_succ_eq_append_getElem hi'] at hx2
     rcases List.mem_append.1 hx2 with h3|h3
     ·exact hok x h3
     ·rw[List.mem_singleton.1 h3];exact hx
def kv:(List (Int×List Int))→(Int×Int):=qB
def NW:aB:=⟨[(.slice (.struct [yI,yB]))], [(.int .u32),yI],(@tt (List (Int×List Int))),kv⟩
theorem Rk:Sd 189 NW:=aH ar cO true 22 [⟨189,3, [[0,4,5]]⟩] [] (fun A l=>QA A l) DT K9 (fc Tryz.func189 fz) (sc GV (sc H_ (sc Rf sz))) (fun A y=>match y with |.c0 p a1 a2=>⟨46,by kernel_rfl,by kernel_rfl⟩) fun(l:List (Int×List Int)) hp h=>by
 show aC (DT ai) (QA ai l) (kv l)
 exact FZ (oc h).1 l.length 0 _ rfl (by omega) (by omega) (by intro x hx;cases hx)
open Go.Ev.Pl
structure s5 where
 (a0:Int) (a1:List (Int×List Int)) (a2 a3 a4 a5 a6 a7 a8 a9 cf dR a12 nf jN rh a16 a17 rm kx:Int)
structure zo where
 (b2:List (Int×List Int)) (b3 b4 b5 b6 b7 b8 b9 b10 b11 b12 b13 w5 yy tZ Au BZ j6 lq kC:Int) (ll:List Int)
structure y_ where
 (c2:List (Int×List Int)) (c3 c4 c5:Int) (c6:List Int) (c7 c8 c9 c10 c11 c12 c13 c14 kB c16 IS H9 c19 c20 c21 M9:Int)
inductive Bm where
 | c0 (p:s5)
 | c1 (p:zo) (b0:Int) (b1:Int)
 | c2 (p:y_) (c0:Int) (c1:Int)
noncomputable def Lv:Bm→fE
 | .c0 p=>⟨[⟨260,26,(en [(4,.ptr 0 0),(5,.int .u32 false p.a0),(10,.sl (.struct [yI,yB]) p.a1),(11,vi p.a2),(12,vi p.a3)]),[.inLoop (cw Tryz.f260 [1,1,1,0,1,0,0]),.inBlock 0,.code (cw Tryz.f260 [1,1,1,1])],[],none⟩],[.flat false [.int .u32 false p.a4,.int .u32 false p.a5,.int .u32 false p.a6,.int .u32 false p.a7,.int .u32 false p.a8,.int .u32 false p.a9,.int .u32 false p.cf,.int .u32 false p.dR,.int .u32 false p.a12,.int .u32 false p.nf,.int .u32 false p.jN,.int .u32 false p.rh,.int .u32 false p.a16,.int .u32 false p.a17,.int .u32 false p.rm,.int .u32 false p.kx],.dead]⟩
 | .c1 p b0 b1=>⟨[⟨266,57,(en [(0,.int .u32 false b0),(2,.ptr 0 0),(4,.ptr 1 0),(7,vi b1)]),[.inLoop (cw Tryz.f266 [1,1,0,0,0]),.inBlock 0,.code (cw Tryz.f266 [1,1,1])],[],none⟩,⟨260,26,(en [(4,.ptr 0 0),(10,.sl (.struct [yI,yB]) p.b2),(11,vi p.b3),(12,vi p.b4)]),[.ops (ow Tryz.f260 [1,1,1,0,1,0,0,1,1,0,0,1,1]) ((ow Tryz.f260 [1,1,1,0,1,0,0,1,1,0,0,1,1]).toList.drop 2),.inBlock 1,.code (cw Tryz.f260 [1,1,1,0,1,0,0,1,1,1]),.inLoop (cw Tryz.f260 [1,1,1,0,1,0,0]),.inBlock 0,.code (cw Tryz.f260 [1,1,1,1])],[],none⟩],[.flat false [.int .u32 false p.b5,.int .u32 false p.b6,.int .u32 false p.b7,.int .u32 false p.b8,.int .u32 false p.b9,.int .u32 false p.b10,.int .u32 false p.b11,.int .u32 false p.b12,.int .u32 false p.b13,.int .u32 false p.w5,.int .u32 false p.yy,.int .u32 false p.tZ,.int .u32 false p.Au,.int .u32 false p.BZ,.int .u32 false p.j6,.int .u32 false p.lq],.flat false [vi p.kC,.sl yU p.ll],.dead]⟩
 | .c2 p c0 c1=>⟨[⟨266,57,(en [(0,.int .u32 false c0),(4,.ptr 0 0),(7,vi c1)]),[.inLoop (cw Tryz.f266 [1,1,1,0,0,0]),.inBlock 2,.code (cw Tryz.f266 [1,1,1,1])],[],none⟩,⟨260,26,(en [(4,.ptr 1 0),(10,.sl (.struct [yI,yB]) p.c2),(11,vi p.c3),(12,vi p.c4)]),[.ops (ow Tryz.f260 [1,1,1,0,1,0,0,1,1,0,0,1,1]) ((ow Tryz.f260 [1,1,1,0,1,0,0,1,1,0,0,1,1]).toList.drop 2),.inBlock 1,.code (cw Tryz.f260 [1,1,1,0,1,0,0,1,1,1]),.inLoop (cw Tryz.f260 [1,1,1,0,1,0,0]),.inBlock 0,.code (cw Tryz.f260 [1,1,1,1])],[],none⟩],[.flat false [vi p.c5,.sl yU p.c6],.flat false [.int .u32 false p.c7,.int .u32 false p.c8,.int .u32 false p.c9,.int .u32 false p.c10,.int .u32 false p.c11,.int .u32 false p.c12,.int .u32 false p.c13,.int .u32 false p.c14,.int .u32 false p.kB,.int .u32 false p.c16,.int .u32 false p.IS,.int .u32 false p.H9,.int .u32 false p.c19,.int .u32 false p.c20,.int .u32 false p.c21,.int .u32 false p.M9],.dead]⟩
def J7(A:bg)(l:List (Int×List Int)):LT (Int×Int) Bm:=.need (A.k (@tt Unit) ()) (.more (.c0 ⟨0,l,(A.l l),0,(A.n (.int .u32) (A.k gX ()) 0:Int),(A.n (.int .u32) (A.k gX ()) 1:Int),(A.n (.int .u32) (A.k gX ()) 2:Int),(A.n (.int .u32) (A.k gX ()) 3:Int),(A.n (.int .u32) (A.k gX ()) 4:Int),(A.n (.int .u32) (A.k gX ()) 5:Int),(A.n (.int .u32) (A.k gX ()) 6:Int),(A.n (.int .u32) (A.k gX ()) 7:Int),(A.n (.int .u32) (A.k gX ()) 8:Int),(A.n (.int .u32) (A.k gX ()) 9:Int),(A.n (.int .u32) (A.k gX ()) 10:Int),(A.n (.int .u32) (A.k gX ()) 11:Int),(A.n (.int .u32) (A.k gX ()) 12:Int),(A.n (.int .u32) (A.k gX ()) 13:Int),(A.n (.int .u32) (A.k gX ()) 14:Int),(A.n (.int .u32) (A.k gX ()) 15:Int)⟩))
def oH(A:bg):Bm→LT (Int×Int) Bm
 | .c0 p=>.br (A.c .lss p.a3 p.a2) (.need (A.and (A.c .leq 0 p.a3) (A.c .lss p.a3 (A.l p.a1))) (.need (A.k (@tt ((Int×List Int))) (A.n (.struct [yI,yB]) p.a1 p.a3:Int×List Int)) (.br (A.c .neq (A.k iG (A.n (.struct [yI,yB]) p.a1 p.a3:Int×List Int)) 0) (.ret (0,(A.k iG (A.n (.struct [yI,yB]) p.a1 p.a3:Int×List Int)))) (.more (.c1 ⟨p.a1,p.a2,p.a3,p.a4,p.a5,p.a6,p.a7,p.a8,p.a9,p.cf,p.dR,p.a12,p.nf,p.jN,p.rh,p.a16,p.a17,p.rm,p.kx,(A.n (.struct [yI,yB]) p.a1 p.a3:Int×List Int).1,(A.n (.struct [yI,yB]) p.a1 p.a3:Int×List Int).2⟩ p.a0 0))))) (.ret (p.a0,0))
 | .c1 p b0 b1=>.br (A.c .leq (A.b .add .i64 b1 4) p.kC) (.need (A.k (@tt ((Int×List Int)×Int×Int)) ((p.kC,p.ll),b1,4)) (.need (A.and (A.c .leq 0 (A.b .xor .u32 (A.b .shr .u32 b0 20) (A.v .u32 (A.k ay ((p.kC,p.ll),b1,4)).1))) (A.c .lss (A.b .xor .u32 (A.b .shr .u32 b0 20) (A.v .u32 (A.k ay ((p.kC,p.ll),b1,4)).1)) 16)) (.more (.c1 p (A.b .xor .u32 (A.b .and .u32 (A.b .shl .u32 b0 4) 16777215) (A.n (.int .u32) [p.b5,p.b6,p.b7,p.b8,p.b9,p.b10,p.b11,p.b12,p.b13,p.w5,p.yy,p.tZ,p.Au,p.BZ,p.j6,p.lq] (A.b .xor .u32 (A.b .shr .u32 b0 20) (A.v .u32 (A.k ay ((p.kC,p.ll),b1,4)).1)):Int)) (A.b .add .i64 b1 4))))) (.more (.c2 ⟨p.b2,p.b3,p.b4,p.kC,p.ll,p.b5,p.b6,p.b7,p.b8,p.b9,p.b10,p.b11,p.b12,p.b13,p.w5,p.yy,p.tZ,p.Au,p.BZ,p.j6,p.lq⟩ b0 b1))
 | .c2 p c0 c1=>.br (A.c .lss c1 p.c5) (.need (A.k (@tt ((Int×List Int)×Int×Int)) ((p.c5,p.c6),c1,1)) (.need (A.k (@tt Int) (A.b .xor .u32 c0 (A.b .shl .u32 (A.v .u32 (A.k ay ((p.c5,p.c6),c1,1)).1) 23))) (.more (.c2 p (A.k u_ (A.b .xor .u32 c0 (A.b .shl .u32 (A.v .u32 (A.k ay ((p.c5,p.c6),c1,1)).1) 23))) (A.b .add .i64 c1 1))))) (.more (.c0 ⟨c0,p.c2,p.c3,(A.b .add .i64 p.c4 1),p.c7,p.c8,p.c9,p.c10,p.c11,p.c12,p.c13,p.c14,p.kB,p.c16,p.IS,p.H9,p.c19,p.c20,p.c21,p.M9⟩))
theorem yQ{α β γ:Type}(f:α→β→γ){a a':α}{b b':β}(h1:a=a')(h2:b=b'):f a b=f a' b':=by rw[h1,h2]
def TW(p:s5):Prop:=p.a4=0∧p.a5=6122955∧p.a6=12245910∧p.a7=15185501∧p.a8=2677479∧p.a9=7714604∧p.cf=9568625∧p.dR=13593786∧p.a12=5354958∧p.nf=841733∧p.jN=15429208∧p.rh=11928467∧p.a16=7958313∧p.a17=2360034∧p.rm=12825791∧p.kx=10410356
def VV(p:zo):Prop:=p.b5=0∧p.b6=6122955∧p.b7=12245910∧p.b8=15185501∧p.b9=2677479∧p.b10=7714604∧p.b11=9568625∧p.b12=13593786∧p.b13=5354958∧p.w5=841733∧p.yy=15429208∧p.tZ=11928467∧p.Au=7958313∧p.BZ=2360034∧p.j6=12825791∧p.lq=10410356
def VY(p:y_):Prop:=p.c7=0∧p.c8=6122955∧p.c9=12245910∧p.c10=15185501∧p.c11=2677479∧p.c12=7714604∧p.c13=9568625∧p.c14=13593786∧p.kB=5354958∧p.c16=841733∧p.IS=15429208∧p.H9=11928467∧p.c19=7958313∧p.c20=2360034∧p.c21=12825791∧p.M9=10410356
theorem iV{n a w:Nat}{b:List Int}(hok:bq ((n:Int),b)=true)(h:a+w≤n)(hw:w≤64)(hn:n≤4096):ai.k ay (((n:Int),b),(a:Int),(w:Int))=(((bf (unpack n b) a w:Nat):Int),0):=by
 rw[ap,ay,AX]
 simp only[hok,Bool.not_true,cond_false]
 rw[show decide ((w:Int)<0)=false from by simp,show decide (64<(w:Int))=false from by simp;omega,show decide ((a:Int)<0)=false from by simp,show decide ((n:Int)<(a:Int)+(w:Int))=false from by simp;omega]
 rfl
theorem wZ{l:List Bool}{a w:Nat}(h:a+w≤l.length):l.take (a+w)=l.take a++bitsOf (bf l a w) w:=by
 rw[rR h,List.take_add]
theorem Fy{n:Nat}(h:n<4294967296):ai.v .u32 (n:Int)=(n:Int):=by rw[bL,Gh (by omega) (by omega)]
theorem JV{l:List (Int×List Int)}{i n:Nat}{b:List Int}{R:Int×Int}{r0:Nat}(hr0:r0<16777216)(hok:bq ((n:Int),b)=true)(hn:n≤4096)(hll:l.length≤140737488355328)(hi:i<l.length)
  (hnext:∀(p:s5),TW p→p.a1=l→p.a2=(l.length:Int)→p.a3=((i+1:Nat):Int)→p.a0=((over r0 (unpack n b):Nat):Int)→aC (oH ai) (.more (.c0 p)) R) :
  ∀(j k:Nat) (p:y_),VY p→p.c2=l→p.c3=(l.length:Int)→p.c4=(i:Int)→p.c5=(n:Int)→p.c6=b→n-k=j→k≤n→aC (oH ai) (.more (.c2 p ((over r0 ((unpack n b).take k):Nat):Int) (k:Int))) R:=by
 intro j
 induction j with
 | zero=>
   intro k p ht h2 h3 h4 h5 h6 hj hk
   have:k=n:=by omega
   subst this
   simp only[ak,oH]
   refine(ah (by rw[h5,aI];simp)).2 ?_
   rw[List.take_of_length_le (by rw[aP];exact Nat.le_refl _)]
   exact hnext _ ht h2 h3 (by show ai.b .add .i64 p.c4 1=_;rw[h4,cK (by omega)]) rfl
 | succ j ih=>
   intro k p ht h2 h3 h4 h5 h6 hj hk
   simp only[ak,oH]
   have hg:ai.k ay ((p.c5,p.c6),(k:Int),1)=(((bf (unpack n b) k 1:Nat):Int),0):=by
    rw[h5,h6];exact iV hok (w:=1) (by omega) (by decide) hn
   have hlt:=gn hr0 ((unpack n b).take k)
   have hf:=dJ (unpack n b) k 1
   have hts:=wZ (l:=unpack n b) (a:=k) (w:=1) (by rw[aP];omega)
   obtain⟨x,hx⟩:∃x:Bool,bf (unpack n b) k 1=x.toNat:=by
    by_cases h0:bf (unpack n b) k 1=0
    ·exact⟨false,h0⟩
    ·exact⟨true,by rw[show true.toNat=1 from rfl];omega⟩
   have hbx:bitsOf x.toNat 1=[x]:=by cases x<;>rfl
   rw[hx,hbx] at hts
   have hsh:ai.b .xor .u32 ((over r0 ((unpack n b).take k):Nat):Int) (ai.b .shl .u32 (ai.v .u32 (ai.k ay ((p.c5,p.c6),(k:Int),1)).1) 23)=((over r0 ((unpack n b).take k) ^^^ (x.toNat*8388608):Nat):Int):=by
    rw[hg,hx,Fy (by cases x<;>decide),show ai.b .shl .u32 ((x.toNat:Nat):Int) 23=((x.toNat*2^23:Nat):Int) from Ao (k:=23) (by decide) (by cases x<;>decide)]
    exact xm (by omega) (by cases x<;>decide)
   have hxl:over r0 ((unpack n b).take k) ^^^ (x.toNat*8388608)<16777216:=Nat.xor_lt_two_pow (n:=24) hlt (by cases x<;>decide)
   have hc:ai.k u_ (ai.b .xor .u32 ((over r0 ((unpack n b).take k):Nat):Int) (ai.b .shl .u32 (ai.v .u32 (ai.k ay ((p.c5,p.c6),(k:Int),1)).1) 23))=((over r0 ((unpack n b).take (k+1)):Nat):Int):=by
    rw[hsh,ap,DL hxl,CF hlt,hts,fj,eU,lz]
   refine(aj (by rw[h5,aI];simp;omega)).2 (af.2 ⟨rfl,af.2 ⟨rfl,?_⟩⟩)
   exact aZ (congrArg LT.more (congr (congrArg (Bm.c2 p) hc) (cK (by omega)))) (ih (k+1) p ht h2 h3 h4 h5 h6 (by omega) (by omega))
theorem K5{l:List (Int×List Int)}{i n:Nat}{b:List Int}{R:Int×Int}{r0:Nat}(hr0:r0<16777216)(hok:bq ((n:Int),b)=true)(hn:n≤4096)(hll:l.length≤140737488355328)(hi:i<l.length)
  (hnext:∀(p:s5),TW p→p.a1=l→p.a2=(l.length:Int)→p.a3=((i+1:Nat):Int)→p.a0=((over r0 (unpack n b):Nat):Int)→aC (oH ai) (.more (.c0 p)) R) :
  ∀(j k:Nat) (p:zo),VV p→p.b2=l→p.b3=(l.length:Int)→p.b4=(i:Int)→p.kC=(n:Int)→p.ll=b→(n-k)/4=j→k≤n→aC (oH ai) (.more (.c1 p ((over r0 ((unpack n b).take k):Nat):Int) (k:Int))) R:=by
 intro j
 induction j with
 | zero=>
   intro k p ht h2 h3 h4 h5 h6 hj hk
   simp only[ak,oH]
   refine(ah (by rw[show ai.b .add .i64 (k:Int) 4=((k+4:Nat):Int) from eZ (j:=4) (by omega),h5,iJ];simp;omega)).2 ?_
   exact JV hr0 hok hn hll hi hnext (n-k) k _ ht h2 h3 h4 h5 h6 rfl hk
 | succ j ih=>
   intro k p ht h2 h3 h4 h5 h6 hj hk
   simp only[ak,oH]
   have hg:ai.k ay ((p.kC,p.ll),(k:Int),4)=(((bf (unpack n b) k 4:Nat):Int),0):=by
    rw[h5,h6];exact iV hok (w:=4) (by omega) (by decide) hn
   have hlt:=gn hr0 ((unpack n b).take k)
   have hf:=dJ (unpack n b) k 4
   have hts:=wZ (l:=unpack n b) (a:=k) (w:=4) (by rw[aP];omega)
   have h4o:=Bu hlt (l:=bitsOf (bf (unpack n b) k 4) 4) (aA _ _)
   rw[vI,Nat.mod_eq_of_lt hf,←fj,←hts] at h4o
   generalize hr:over r0 ((unpack n b).take k)=r at *
   generalize hv:bf (unpack n b) k 4=v at *
   have hix:ai.b .xor .u32 (ai.b .shr .u32 (r:Int) 20) (ai.v .u32 (ai.k ay ((p.kC,p.ll),(k:Int),4)).1)=((r/1048576 ^^^ v:Nat):Int):=by
    rw[hg,Fy (by omega),show ai.b .shr .u32 (r:Int) 20=((r/2^20:Nat):Int) from Ee (n:=20) (by omega) (by decide)]
    exact xm (by omega) (by omega)
   have hxl:r/1048576 ^^^ v<16:=BI ⟨r/1048576,by omega⟩ ⟨v,by omega⟩
   have htab:(ai.n (.int .u32) [p.b5,p.b6,p.b7,p.b8,p.b9,p.b10,p.b11,p.b12,p.b13,p.w5,p.yy,p.tZ,p.Au,p.BZ,p.j6,p.lq] (((r/1048576 ^^^ v:Nat):Int)):Int)=((xC.getD (r/1048576 ^^^ v) 0:Nat):Int):=by
    rw[←CK ⟨r/1048576 ^^^ v,hxl⟩]
    obtain⟨t0,t1,t2,t3,t4,t5,t6,t7,t8,t9,t10,t11,t12,t13,t14,t15⟩:=ht
    show List.getD [p.b5,p.b6,p.b7,p.b8,p.b9,p.b10,p.b11,p.b12,p.b13,p.w5,p.yy,p.tZ,p.Au,p.BZ,p.j6,p.lq] ((r/1048576 ^^^ v:Nat):Int).toNat 0=_
    rw[Int.toNat_natCast,t0,t1,t2,t3,t4,t5,t6,t7,t8,t9,t10,t11,t12,t13,t14,t15];rfl
   have hc:ai.b .xor .u32 (ai.b .and .u32 (ai.b .shl .u32 (r:Int) 4) 16777215) (ai.n (.int .u32) [p.b5,p.b6,p.b7,p.b8,p.b9,p.b10,p.b11,p.b12,p.b13,p.w5,p.yy,p.tZ,p.Au,p.BZ,p.j6,p.lq] (ai.b .xor .u32 (ai.b .shr .u32 (r:Int) 20) (ai.v .u32 (ai.k ay ((p.kC,p.ll),(k:Int),4)).1)):Int)=((over r0 ((unpack n b).take (k+4)):Nat):Int):=by
    rw[hix]
    have e1:ai.b .and .u32 (ai.b .shl .u32 (r:Int) 4) 16777215=((16*r%16777216:Nat):Int):=by
     rw[show ai.b .shl .u32 (r:Int) 4=((r*2^4:Nat):Int) from Ao (k:=4) (by decide) (by omega),IW (by omega),Nat.mul_comm]
    refine(yQ (ai.b .xor .u32) e1 htab).trans ?_
    rw[h4o]
    exact xm (by omega) (by have:=ER ⟨_,hxl⟩;simp only at this;omega)
   refine(aj (by rw[show ai.b .add .i64 (k:Int) 4=((k+4:Nat):Int) from eZ (j:=4) (by omega),h5,iJ];simp;omega)).2 (af.2 ⟨rfl,af.2 ⟨?_,?_⟩⟩)
   ·rw[hix,fY,aQ,al];simp;omega
   ·have:=ih (k+4) p ht h2 h3 h4 h5 h6 (by omega) (by omega)
    exact aZ (congrArg LT.more (congr (congrArg (Bm.c1 p) hc) (show ai.b .add .i64 (k:Int) 4=((k+4:Nat):Int) from eZ (j:=4) (by omega)))) this
theorem Kp{l:List (Int×List Int)}(hll:l.length≤140737488355328)(hby:∀x∈l,bE x.2∧x.2.length≤140737488355328):∀(j i:Nat) (p:s5),TW p→p.a1=l→p.a2=(l.length:Int)→p.a3=(i:Int)→p.a0=((over 0 ((l.take i).flatMap bC):Nat):Int)→l.length-i=j→i≤l.length→(∀x∈l.take i,bq x=true)→aC (oH ai) (.more (.c0 p)) (qB l):=by
 intro j
 induction j with
 | zero=>
   intro i p ht h1 h2 h3 h0 hj hi hok
   have:i=l.length:=by omega
   subst this
   rw[List.take_length] at hok h0
   simp only[ak,oH]
   refine(ah (by rw[h2,h3,aI];simp)).2 ?_
   rw[qB,List.all_eq_true.2 hok,h0]
   exact .ret _
 | succ j ih=>
   intro i p ht h1 h2 h3 h0 hj hi hok
   have hi':i<l.length:=by omega
   have hmem:=List.getElem_mem hi'
   simp only[ak,oH]
   rw[h3]
   refine(aj (by rw[h2,aI];simp;omega)).2 (af.2 ⟨by rw[h1];exact aL hi',af.2 ⟨rfl,?_⟩⟩)
   obtain⟨n0,b,hx⟩:∃n0 b,l[i]=(n0,b):=⟨_,_,rfl⟩
   have hby':=hby _ hmem
   rw[hx] at hby'
   have hn1:(ai.n (.struct [(.int .i64),(.slice (.int .u8))]) p.a1 (i:Int):Int×List Int)=(n0,b):=by rw[h1,kG hi',hx]
   rw[hn1]
   have hc:ai.k iG (n0,b)=bif bq (n0,b) then 0 else 10:=ja hby'.1 hby'.2
   rw[hc]
   cases hb:bq (n0,b)
   ·refine(aj rfl).2 ?_
    rw[qB,show l.all bq=false from List.all_eq_false.2 ⟨l[i],hmem,by rw[hx,hb];decide⟩]
    exact .ret _
   ·refine(ah rfl).2 ?_
    obtain⟨h4,h5,h6⟩:=(fI hby'.1).1 hb
    obtain⟨n,rfl⟩:=Int.eq_ofNat_of_zero_le h4
    have hlt:=gn (r:=0) (by decide) ((l.take i).flatMap bC)
    have hm:=K5 hlt hb (by omega) hll hi' (R:=qB l) (fun p' g1 g2 g3 g4 g5=>ih (i+1) p' g1 g2 g3 g4 (by rw[g5,ve hi',fj,hx];rfl) (by omega) (by omega) (by
     intro x hx2
     rw[List.take_succ_eq_append_getElem hi'] at hx2
     rcases List.mem_append.1 hx2 with h7|h7
     ·exact hok x h7
     ·rw[List.mem_singleton.1 h7,hx];exact hb)) (n/4) 0 ⟨p.a1,p.a2,(i:Int),p.a4,p.a5,p.a6,p.a7,p.a8,p.a9,p.cf,p.dR,p.a12,p.nf,p.jN,p.rh,p.a16,p.a17,p.rm,p.kx,(n:Int),b⟩ ht h1 h2 rfl rfl rfl (by omega) (by omega)
    rw[List.take_zero,lz,←h0] at hm
    exact hm
theorem Uo{l:List (Int×List Int)}(h:Ty.dH [(.slice (.struct [(.int .i64),(.slice (.int .u8))]))] l):aC (oH ai) (J7 ai l) (qB l):=by
 unfold J7
 refine af.2 ⟨rfl,?_⟩
 exact Kp (oc h).1 (oc h).2 l.length 0 _ ⟨rfl,rfl,rfl,rfl,rfl,rfl,rfl,rfl,rfl,rfl,rfl,rfl,rfl,rfl,rfl,rfl⟩ rfl rfl rfl rfl (by omega) (by omega) (by intro x hx;cases hx)
def qh:(List (Int×List Int))→(Int×Int):=qB
def RU:aB:=⟨[(.slice (.struct [yI,yB]))], [(.int .u32),yI],(@tt (List (Int×List Int))),qh⟩
theorem OQ:Sd 260 RU:=aH ar cO true 30 [⟨260,4, [[4,5,10,11,12]]⟩,⟨266,2, [[0,2,4,7], [4,10,11,12]]⟩,⟨266,6, [[0,4,7], [4,10,11,12]]⟩] [] (fun A l=>J7 A l) oH Lv (fc Tryz.func260 (fc Tryz.func266 fz)) (sc zv (sc AP (sc QD (sc H5 sz)))) (fun A y=>match y with |.c0 p=>⟨52,by kernel_rfl,by kernel_rfl⟩|.c1 p b0 b1=>⟨52,by kernel_rfl,by kernel_rfl⟩|.c2 p c0 c1=>⟨44,by kernel_rfl,by kernel_rfl⟩) fun l hp h=>Uo h
open Go.Ev.Pl
def t139(A:bg)(bN:Int)(bB:List Int)(unsentN:Int)(unsentB:List Int):LT ((Int×List Int)×Int) Empty:=.need (A.k (@tt ((Int×List Int))) (bN,bB)) (.br (A.c .neq (A.k iG (bN,bB)) 0) (.ret ((0,([]:List Int)),10)) (.need (A.k (@tt ((Int×List Int))) (unsentN,unsentB)) (.br (A.c .neq (A.k iG (unsentN,unsentB)) 0) (.ret ((0,([]:List Int)),10)) (.br (A.c .lss bN 24) (.ret ((0,([]:List Int)),20)) (.need (A.k (@tt ((Int×List Int)×Int×Int)) ((bN,bB),0,(A.b .sub .i64 bN 24))) (.need (A.k (@tt ((Int×List Int)×Int×Int)) ((bN,bB),(A.k bR ((bN,bB),0,(A.b .sub .i64 bN 24))).1.1,24)) (.need (A.k (@tt (List (Int×List Int))) [(unsentN,unsentB),(A.k bR ((bN,bB),0,(A.b .sub .i64 bN 24))).1]) (.br (A.c .neq (A.k qh [(unsentN,unsentB),(A.k bR ((bN,bB),0,(A.b .sub .i64 bN 24))).1]).2 0) (.ret ((0,([]:List Int)),(A.k qh [(unsentN,unsentB),(A.k bR ((bN,bB),0,(A.b .sub .i64 bN 24))).1]).2)) (.br (A.c .neq (A.v .u64 (A.k qh [(unsentN,unsentB),(A.k bR ((bN,bB),0,(A.b .sub .i64 bN 24))).1]).1) (A.k ay ((bN,bB),(A.k bR ((bN,bB),0,(A.b .sub .i64 bN 24))).1.1,24)).1) (.ret ((0,([]:List Int)),21)) (.ret ((A.k bR ((bN,bB),0,(A.b .sub .i64 bN 24))).1,0)))))))))))
theorem GD{n m:Int}{b u:List Int}(h:Ty.dH [(.struct [(.int .i64),(.slice (.int .u8))]),(.struct [(.int .i64),(.slice (.int .u8))])] ((n,b),(m,u))):aC Empty.elim (t139 ai n b m u) (cy ((n,b),(m,u))):=by
 have h1:Ty.has (.struct [(.int .i64),(.slice (.int .u8))]) (n,b):=h.1
 have h2:Ty.has (.struct [(.int .i64),(.slice (.int .u8))]) (m,u):=h.2
 have hb:=(dM h1).2.2
 have hl:=cZ h1
 have hbu:=(dM h2).2.2
 have hlu:=cZ h2
 unfold t139
 rw[cy]
 have hc1:ai.c .neq (ai.k iG (n,b)) 0=!bq (n,b):=by rw[ap,ja hb hl];cases bq (n,b)<;>rfl
 have hc2:ai.c .neq (ai.k iG (m,u)) 0=!bq (m,u):=by rw[ap,ja hbu hlu];cases bq (m,u)<;>rfl
 refine af.2 ⟨rfl,?_⟩
 rw[hc1]
 cases ho1:bq (n,b)
 ·exact(aj rfl).2 (.ret _)
 refine(ah rfl).2 (af.2 ⟨rfl,?_⟩)
 rw[hc2]
 cases ho2:bq (m,u)
 ·exact(aj rfl).2 (.ret _)
 refine(ah rfl).2 ?_
 obtain⟨h3,h4,h5⟩:=(fI hb).1 ho1
 obtain⟨k,rfl⟩:=Int.eq_ofNat_of_zero_le h3
 by_cases h6:(k:Int)<24
 ·refine(aj (by rw[al];simp;omega)).2 ?_
  show aC _ _ (bif decide ((k:Int)<24) then(zB,20) else _)
  rw[show decide ((k:Int)<24)=true from by simpa using h6]
  exact .ret _
 refine(ah (by rw[al];simp;omega)).2 ?_
 show aC _ _ (bif decide ((k:Int)<24) then(zB,20) else _)
 rw[show decide ((k:Int)<24)=false from by simpa using h6,cond_false]
 have hkl:(bC ((k:Int),b)).length=k:=by rw[fQ];rfl
 have hsub:ai.b .sub .i64 (k:Int) 24=((k-24:Nat):Int):=ko (j:=24) (by omega) (by omega)
 have hfl:((bC ((k:Int),b)).take (k-24)).length=k-24:=by rw[List.length_take,hkl];omega
 have hslice:ai.k bR (((k:Int),b),0,ai.b .sub .i64 (k:Int) 24)=(bJ ((bC ((k:Int),b)).take (k-24)),0):=by
  rw[hsub,ap,bR,bU]
  simp only[ho1,Bool.not_true,cond_false]
  rw[show decide (((k-24:Nat):Int)<0)=false from by simp,show decide ((k:Int)<((k-24:Nat):Int))=false from by simp<;>omega]
  rfl
 have hP1:(bJ ((bC ((k:Int),b)).take (k-24))).1=((k-24:Nat):Int):=by show(((bC ((k:Int),b)).take (k-24)).length:Int)=_;rw[hfl]
 have hget:ai.k ay (((k:Int),b),((k-24:Nat):Int),24)=(((bf (bC ((k:Int),b)) (k-24) 24:Nat):Int),0):=by
  rw[ap,ay,AX]
  simp only[ho1,Bool.not_true,cond_false]
  rw[show decide (((k-24:Nat):Int)<0)=false from by simp,show decide ((k:Int)<((k-24:Nat):Int)+24)=false from by simp<;>omega]
  rfl
 have hsum:ai.k qh [(m,u),bJ ((bC ((k:Int),b)).take (k-24))]=(((over (over 0 (bC (m,u))) ((bC ((k:Int),b)).take (k-24)):Nat):Int),0):=by
  rw[ap,qh,qB]
  show(bif (bq (m,u)&&(bq (bJ ((bC ((k:Int),b)).take (k-24)))&&true)) then(((over 0 (bC (m,u)++(bC (bJ ((bC ((k:Int),b)).take (k-24))) ++ [])):Nat):Int),(0:Int)) else(0,10))=_
  rw[ho2,gG (by rw[hfl];omega),fK,List.append_nil,fj]
  rfl
 have hu:=gn (r:=0) (by decide) (bC (m,u))
 have hlt:=gn hu ((bC ((k:Int),b)).take (k-24))
 have hfd:=dJ (bC ((k:Int),b)) (k-24) 24
 have hsplit:bC ((k:Int),b)=(bC ((k:Int),b)).take (k-24)++(bC ((k:Int),b)).drop (k-24):=(List.take_append_drop _ _).symm
 have hd:((bC ((k:Int),b)).drop (k-24)).length=24:=by rw[List.length_drop,hkl];omega
 have hfe:bf (bC ((k:Int),b)) (k-24) 24=dw ((bC ((k:Int),b)).drop (k-24)):=by rw[bf,List.take_of_length_le (by omega)]
 have hz:(over (over 0 (bC (m,u))) (bC ((k:Int),b)) != 0)=(((over (over 0 (bC (m,u))) ((bC ((k:Int),b)).take (k-24)):Nat):Int) != ((bf (bC ((k:Int),b)) (k-24) 24:Nat):Int)):=by
  have:=xM (l:=(bC ((k:Int),b)).take (k-24)) hu hd
  rw[←hsplit,←hfe] at this
  rw[Bool.eq_iff_iff,bne_iff_ne,bne_iff_ne,ne_eq,ne_eq,this]
  omega
 have e1:(ai.k bR (((k:Int),b),0,ai.b .sub .i64 (k:Int) 24)).1.1=((k-24:Nat):Int):=by rw[hslice];exact hP1
 have e2:(ai.k qh [(m,u),(ai.k bR (((k:Int),b),0,ai.b .sub .i64 (k:Int) 24)).1])=(((over (over 0 (bC (m,u))) ((bC ((k:Int),b)).take (k-24)):Nat):Int),0):=by rw[hslice];exact hsum
 have e3:(ai.k ay (((k:Int),b),(ai.k bR (((k:Int),b),0,ai.b .sub .i64 (k:Int) 24)).1.1,24)).1=((bf (bC ((k:Int),b)) (k-24) 24:Nat):Int):=by rw[e1,hget]
 refine af.2 ⟨rfl,af.2 ⟨rfl,af.2 ⟨rfl,?_⟩⟩⟩
 refine(ah (cn (congrArg Prod.snd e2))).2 ?_
 rw[hz,hkl]
 have hcmp:ai.c .neq (ai.v .u64 (ai.k qh [(m,u),(ai.k bR (((k:Int),b),0,ai.b .sub .i64 (k:Int) 24)).1]).1) (ai.k ay (((k:Int),b),(ai.k bR (((k:Int),b),0,ai.b .sub .i64 (k:Int) 24)).1.1,24)).1=(((over (over 0 (bC (m,u))) ((bC ((k:Int),b)).take (k-24)):Nat):Int) != ((bf (bC ((k:Int),b)) (k-24) 24:Nat):Int)):=by
  rw[e3,e2,dd (by omega),aX]
 cases hx:(((over (over 0 (bC (m,u))) ((bC ((k:Int),b)).take (k-24)):Nat):Int) != ((bf (bC ((k:Int),b)) (k-24) 24:Nat):Int))
 ·refine(ah (hcmp.trans hx)).2 ?_
  exact aZ (congrArg LT.ret (show((ai.k bR (((k:Int),b),0,ai.b .sub .i64 (k:Int) 24)).1,0)=(bJ ((bC ((k:Int),b)).take (k-24)),0) by rw[hslice])) (.ret _)
 ·exact(aj (hcmp.trans hx)).2 (.ret _)
def cH:((Int×List Int)×(Int×List Int))→((Int×List Int)×Int):=cy
def O6:aB:=⟨[(.struct [yI,yB]),(.struct [yI,yB])], [(.struct [yI,yB]),yI],(@tt ((Int×List Int)×(Int×List Int))),cH⟩
theorem Qa:Sd 250 O6:=aG ar cO true 100 [] (fun A ((bN,bB),unsentN,unsentB)=>t139 A bN bB unsentN unsentB) (fc Tryz.func250 fz) (sc zv (sc AP (sc II (sc OQ sz)))) fun((bN,bB),unsentN,unsentB) hp h=>GD h
open Go.Ev.Pl
def Lu(A:bg)(cTime:Int)(cPos:Int)(cMode:Int)(cNext:Int)(cMember:Int):LT (List Int) Empty:=.ret [cTime,cPos,cMode,cNext,cMember]
def uM:((Int×Int×Int×Int×Int))→(List Int):=fun(cTime,cPos,cMode,cNext,cMember)=>(Lu ai cTime cPos cMode cNext cMember).val (Ty.da [(.arr 5 yI)])
def NE:aB:=⟨[(.struct [yI,yI,yI,yI,yI])], [(.arr 5 yI)],(@tt ((Int×Int×Int×Int×Int))),uM⟩
theorem Q_:Sd 202 NE:=aJ ar cO true 26 [] (fun A (cTime,cPos,cMode,cNext,cMember)=>Lu A cTime cPos cMode cNext cMember) (fc Tryz.func202 fz) sz (fun((cTime,cPos,cMode,cNext,cMember):(Int×Int×Int×Int×Int)) hp h=>by
 show(Lu ai cTime cPos cMode cNext cMember).pre=true
 rfl)
structure H8 where
 (a0 a1 a2 a3 a4 a6 a7 a8 a9 cf:Int)
inductive S9 where
 | c0 (p:H8) (a5:Int)
noncomputable def OV:S9→fE
 | .c0 p a5=>⟨[⟨151,36,(en [(5,.ptr 0 0),(21,.agg [vi p.a0,vi p.a1,vi p.a2,vi p.a3,vi p.a4]),(22,vi a5)]),[.inLoop (cw Tryz.f151 [1,1,1,0,1,0,0]),.inBlock 0,.code (cw Tryz.f151 [1,1,1,1])],[],none⟩],[.flat false [vi p.a6,vi p.a7,vi p.a8,vi p.a9,vi p.cf],.dead]⟩
def t87(A:bg)(cTime:Int)(cPos:Int)(cMode:Int)(cNext:Int)(cMember:Int)(n:Int):LT Int S9:=.br (A.c .lss n 4) (.ret 2) (.br (A.c .gtr n 8) (.ret 2) (.need (A.c .leq 0 n) (.need (A.k (@tt ((Int×Int×Int×Int×Int))) (cTime,cPos,cMode,cNext,cMember)) (.more (.c0 ⟨(A.n yI (A.k uM (cTime,cPos,cMode,cNext,cMember)) 0:Int),(A.n yI (A.k uM (cTime,cPos,cMode,cNext,cMember)) 1:Int),(A.n yI (A.k uM (cTime,cPos,cMode,cNext,cMember)) 2:Int),(A.n yI (A.k uM (cTime,cPos,cMode,cNext,cMember)) 3:Int),(A.n yI (A.k uM (cTime,cPos,cMode,cNext,cMember)) 4:Int),255,(A.b .sub .i64 n 1),3,4,(A.b .sub .i64 (A.b .shl .i64 1 n) 1)⟩ 0)))))
def L5(A:bg):S9→LT Int S9
 | .c0 p a5=>.br (A.c .lss a5 5) (.need (A.and (A.c .leq 0 a5) (A.c .lss a5 5)) (.br (A.c .lss (A.n yI [p.a0,p.a1,p.a2,p.a3,p.a4] a5:Int) 0) (.ret 40) (.need (A.and (A.c .leq 0 a5) (A.c .lss a5 5)) (.br (A.c .gtr (A.n yI [p.a0,p.a1,p.a2,p.a3,p.a4] a5:Int) (A.n yI [p.a6,p.a7,p.a8,p.a9,p.cf] a5:Int)) (.ret 40) (.more (.c0 p (A.b .add .i64 a5 1))))))) (.ret 0)
theorem ID{k:Nat}(hk:k≤60):ai.b .shl .i64 1 (k:Int)=((2^k:Nat):Int):=by
 show IntKind.i64.wrap ((1:Int)*2^min (k:Int).toNat 64)=_
 have:2^k≤2^60:=Nat.pow_le_pow_right (by decide) hk
 have e:(2:Int)^k=((2^k:Nat):Int):=by simp
 rw[Int.toNat_natCast,Nat.min_eq_left (by omega),Int.one_mul,e]
 generalize 2^k=q at this
 rw[gh (by omega) (by omega)]
theorem Me{u v x:Int}(h:u=v):ai.c .lss u x=decide (v<x):=by rw[h];rfl
theorem P7{u u' v v':Int}(h1:u=u')(h2:v=v'):ai.c .gtr u v=decide (v'<u'):=by rw[h1,h2];rfl
theorem lk{p:H8}{i v m r:Int}(h0:0≤i)(h5:i<5)(hv:(ai.n (.int .i64) [p.a0,p.a1,p.a2,p.a3,p.a4] i:Int)=v)(hm:(ai.n (.int .i64) [p.a6,p.a7,p.a8,p.a9,p.cf] i:Int)=m)
  (h1:(decide (0≤v)&&decide (v≤m))=true→aC (L5 ai) (.more (.c0 p (i+1))) r) (h2:(decide (0≤v)&&decide (v≤m))=false→r=40):aC (L5 ai) (.more (.c0 p i)) r:=by
 rw[ak,L5]
 have hn:ai.and (ai.c .leq 0 i) (ai.c .lss i 5)=true:=by rw[aQ,aF,al];simp;omega
 refine(aj (by rw[al];simpa using h5)).2 (af.2 ⟨hn,?_⟩)
 by_cases h3:v<0
 ·refine(aj ((Me hv).trans (by simpa using h3))).2 ?_
  rw[h2 (by rw[show decide (0≤v)=false from by simp;omega];rfl)]
  exact .ret _
 ·refine(ah ((Me hv).trans (by simpa using h3))).2 (af.2 ⟨hn,?_⟩)
  by_cases h4:m<v
  ·refine(aj ((P7 hv hm).trans (by simpa using h4))).2 ?_
   rw[h2 (by rw[show decide (v≤m)=false from by simp;omega,Bool.and_false])]
   exact .ret _
  ·refine(ah ((P7 hv hm).trans (by simpa using h4))).2 ?_
   rw[dn,gh (by omega) (by omega)]
   exact h1 (by simp;omega)
theorem Uy{t po m n s k:Int}:aC (L5 ai) (t87 ai t po m n s k) (jF ((t,po,m,n,s),k)):=by
 unfold t87
 rw[jF]
 by_cases h1:k<4
 ·refine(aj (by rw[al];simpa using h1)).2 ?_
  rw[show decide (k<4)=true from by simpa using h1]
  exact .ret _
 refine(ah (by rw[al];simpa using h1)).2 ?_
 by_cases h2:8<k
 ·refine(aj (by rw[aD];simpa using h2)).2 ?_
  rw[show decide (8<k)=true from by simpa using h2,Bool.or_true]
  exact .ret _
 refine(ah (by rw[aD];simpa using h2)).2 (af.2 ⟨by rw[aF];simp;omega,af.2 ⟨rfl,?_⟩⟩)
 rw[show decide (k<4)=false from by simpa using h1,show decide (8<k)=false from by simpa using h2,Bool.or_false,cond_false]
 have hk1:ai.b .sub .i64 k 1=k-1:=by rw[bH,gh (by omega) (by omega)]
 have hk2:ai.b .sub .i64 (ai.b .shl .i64 1 k) 1=2^k.toNat-1:=by
  obtain⟨j,rfl⟩:=Int.eq_ofNat_of_zero_le (show 0≤k by omega)
  have hq:2^j≤2^60:=Nat.pow_le_pow_right (by decide) (by omega)
  have hq0:=Nat.two_pow_pos j
  have e:(2:Int)^j=((2^j:Nat):Int):=by simp
  rw[ID (by omega),Int.toNat_natCast,e]
  generalize 2^j=q at hq hq0
  rw[bH,gh (by omega) (by omega)]
 rw[hk1,hk2]
 refine lk (v:=t) (m:=255) (by decide) (by decide) rfl rfl (fun g=>?_) (fun g=>by rw[g];rfl)
 rw[g,Bool.true_and]
 refine lk (i:=1) (v:=po) (m:=k-1) (by decide) (by decide) rfl rfl (fun g=>?_) (fun g=>by rw[g];rfl)
 rw[g,Bool.true_and]
 refine lk (i:=2) (v:=m) (m:=3) (by decide) (by decide) rfl rfl (fun g=>?_) (fun g=>by rw[g];rfl)
 rw[g,Bool.true_and]
 refine lk (i:=3) (v:=n) (m:=4) (by decide) (by decide) rfl rfl (fun g=>?_) (fun g=>by rw[g];rfl)
 rw[g,Bool.true_and]
 refine lk (i:=4) (v:=s) (m:=2^k.toNat-1) (by decide) (by decide) rfl rfl (fun g=>?_) (fun g=>by rw[g];rfl)
 rw[g,ak,L5]
 exact(ah rfl).2 (.ret _)
def ol:((Int×Int×Int×Int×Int)×Int)→Int:=jF
def Ue:aB:=⟨[(.struct [yI,yI,yI,yI,yI]),yI], [yI],(@tt ((Int×Int×Int×Int×Int)×Int)),ol⟩
theorem zy:Sd 151 Ue:=aH ar cO true 43 [⟨151,5, [[5,21,22]]⟩] [] (fun A ((cTime,cPos,cMode,cNext,cMember),n)=>t87 A cTime cPos cMode cNext cMember n) L5 OV (fc Tryz.func151 fz) (sc Q_ sz) (fun A y=>match y with |.c0 p a5=>⟨41,by kernel_rfl,by kernel_rfl⟩) fun((cTime,cPos,cMode,cNext,cMember),n) hp h=>Uy
def t42(A:bg)(cTime:Int)(cPos:Int)(cMode:Int)(cNext:Int)(cMember:Int)(n:Int):LT Int Empty:=.br (A.c .lss n 4) (.ret 2) (.br (A.c .gtr n 8) (.ret 2) (.br (A.c .lss cTime 0) (.ret 40) (.br (A.c .gtr cTime 255) (.ret 40) (.br (A.c .lss cPos 0) (.ret 40) (.br (A.c .geq cPos n) (.ret 40) (.br (A.c .lss cMode 0) (.ret 40) (.br (A.c .geq cMode 4) (.ret 40) (.br (A.c .lss cNext 0) (.ret 40) (.br (A.c .gtr cNext 4) (.ret 40) (.br (A.c .lss cMember 0) (.ret 40) (.need (A.c .leq 0 (A.v .u64 n)) (.br (A.c .geq cMember (A.b .shl .i64 1 (A.v .u64 n))) (.ret 40) (.ret 0)))))))))))))
theorem Vv{t po m n s k:Int}:aC Empty.elim (t42 ai t po m n s k) (jF ((t,po,m,n,s),k)):=by
 unfold t42
 rw[jF]
 by_cases h1:k<4
 ·refine(aj (by rw[al];simpa using h1)).2 ?_
  rw[show decide (k<4)=true from by simpa using h1]
  exact .ret _
 refine(ah (by rw[al];simpa using h1)).2 ?_
 by_cases h2:8<k
 ·refine(aj (by rw[aD];simpa using h2)).2 ?_
  rw[show decide (8<k)=true from by simpa using h2,Bool.or_true]
  exact .ret _
 refine(ah (by rw[aD];simpa using h2)).2 ?_
 rw[show decide (k<4)=false from by simpa using h1,show decide (8<k)=false from by simpa using h2,Bool.or_false,cond_false]
 obtain⟨j,rfl⟩:=Int.eq_ofNat_of_zero_le (show 0≤k by omega)
 have e:(2:Int)^j=((2^j:Nat):Int):=by simp
 rw[dd (by omega),ID (by omega),Int.toNat_natCast,e]
 have hx:∀{x:Bool},x=false→(40:Int)=bif x then 0 else 40:=fun h=>by rw[h];rfl
 by_cases g1:t<0
 ·refine(aj (by rw[al];simpa using g1)).2 (fq.2 (hx (by simp;omega)))
 refine(ah (by rw[al];simpa using g1)).2 ?_
 by_cases g2:255<t
 ·refine(aj (by rw[aD];simpa using g2)).2 (fq.2 (hx (by simp;omega)))
 refine(ah (by rw[aD];simpa using g2)).2 ?_
 by_cases g3:po<0
 ·refine(aj (by rw[al];simpa using g3)).2 (fq.2 (hx (by simp;omega)))
 refine(ah (by rw[al];simpa using g3)).2 ?_
 by_cases g4:(j:Int)≤po
 ·refine(aj (by rw[aK];simpa using g4)).2 (fq.2 (hx (by simp;omega)))
 refine(ah (by rw[aK];simpa using g4)).2 ?_
 by_cases g5:m<0
 ·refine(aj (by rw[al];simpa using g5)).2 (fq.2 (hx (by simp;omega)))
 refine(ah (by rw[al];simpa using g5)).2 ?_
 by_cases g6:4≤m
 ·refine(aj (by rw[aK];simpa using g6)).2 (fq.2 (hx (by simp;omega)))
 refine(ah (by rw[aK];simpa using g6)).2 ?_
 by_cases g7:n<0
 ·refine(aj (by rw[al];simpa using g7)).2 (fq.2 (hx (by simp;omega)))
 refine(ah (by rw[al];simpa using g7)).2 ?_
 by_cases g8:4<n
 ·refine(aj (by rw[aD];simpa using g8)).2 (fq.2 (hx (by simp;omega)))
 refine(ah (by rw[aD];simpa using g8)).2 ?_
 by_cases g9:s<0
 ·refine(aj (by rw[al];simpa using g9)).2 (fq.2 (hx (by simp;omega)))
 refine(ah (by rw[al];simpa using g9)).2 (af.2 ⟨fY,?_⟩)
 have hy:∀{x:Bool},x=true→(0:Int)=bif x then 0 else 40:=fun h=>by rw[h];rfl
 generalize ((2^j:Nat):Int)=q
 by_cases g10:q≤s
 ·refine(aj (by rw[aK];simpa using g10)).2 (fq.2 (hx (by simp;omega)))
 refine(ah (by rw[aK];simpa using g10)).2 (fq.2 (hy (by simp;omega)))
def xY:((Int×Int×Int×Int×Int)×Int)→Int:=jF
def Te:aB:=⟨[(.struct [yI,yI,yI,yI,yI]),yI], [yI],(@tt ((Int×Int×Int×Int×Int)×Int)),xY⟩
theorem Kw:Sd 168 Te:=aG ar cO true 85 [] (fun A ((cTime,cPos,cMode,cNext,cMember),n)=>t42 A cTime cPos cMode cNext cMember n) (fc Tryz.func168 fz) sz fun((cTime,cPos,cMode,cNext,cMember),n) hp h=>Vv
open Go.Ev.Pl
structure R_ where
 (a0 a1 a2 a3 a4 a5 a6 a7 a8 a9 cf dR a12:Int)
structure H7 where
 (b0 b1 b2 b3 b4 b6 b9 b10 b11 b12 b13:Int)
inductive L6 where
 | c0 (p:R_)
 | c1 (p:H7) (b5:Int) (b7:Int) (b8:List Int)
noncomputable def SU:L6→fE
 | .c0 p=>⟨[⟨233,38,(en [(2,.ptr 0 0),(4,.ptr 1 0),(5,.ptr 2 0),(16,.agg [vi p.a0,vi p.a1,vi p.a2,vi p.a3,vi p.a4]),(17,vi p.a5)]),[.inLoop (cw Tryz.f233 [1,1,1,1,0,1,0,0]),.inBlock 0,.code (cw Tryz.f233 [1,1,1,1,1])],[],none⟩],[.flat false [vi p.a6,.dz true],.flat false [vi p.a7,.dz true],.flat false [vi p.a8,vi p.a9,vi p.cf,vi p.dR,vi p.a12],.dead]⟩
 | .c1 p b5 b7 b8=>⟨[⟨233,38,(en [(2,.ptr 0 0),(4,.ptr 1 0),(5,.ptr 2 0),(16,.agg [vi p.b0,vi p.b1,vi p.b2,vi p.b3,vi p.b4]),(17,vi b5)]),[.inLoop (cw Tryz.f233 [1,1,1,1,0,1,0,0]),.inBlock 0,.code (cw Tryz.f233 [1,1,1,1,1])],[],none⟩],[.flat false [vi p.b6,.dz true],.flat false [vi b7,.sl yU b8],.flat false [vi p.b9,vi p.b10,vi p.b11,vi p.b12,vi p.b13],.dead]⟩
def T5(A:bg)(cTime:Int)(cPos:Int)(cMode:Int)(cNext:Int)(cMember:Int):LT ((Int×List Int)×Int) L6:=.need (A.k (@tt ((Int×Int×Int×Int×Int)×Int)) ((cTime,cPos,cMode,cNext,cMember),8)) (.br (A.c .neq (A.k ol ((cTime,cPos,cMode,cNext,cMember),8)) 0) (.ret ((0,([]:List Int)),40)) (.more (.c0 ⟨cTime,cPos,cMode,cNext,cMember,0,0,0,8,3,2,3,8⟩)))
def La(A:bg):L6→LT ((Int×List Int)×Int) L6
 | .c0 p=>.br (A.c .lss p.a5 5) (.need (A.and (A.c .leq 0 p.a5) (A.c .lss p.a5 5)) (.need (A.and (A.c .leq 0 p.a5) (A.c .lss p.a5 5)) (.need (A.k (@tt ((Int×List Int)×Int×Int)) ((p.a7,([]:List Int)),(A.v .u64 (A.n yI [p.a0,p.a1,p.a2,p.a3,p.a4] p.a5:Int)),(A.n yI [p.a8,p.a9,p.cf,p.dR,p.a12] p.a5:Int))) (.need (A.k (@tt ((Int×List Int)×Int×Int)) ((p.a7,([]:List Int)),(A.v .u64 (A.n yI [p.a0,p.a1,p.a2,p.a3,p.a4] p.a5:Int)),(A.n yI [p.a8,p.a9,p.cf,p.dR,p.a12] p.a5:Int))) (.need (A.and (A.c .leq 0 p.a5) (A.c .lss p.a5 5)) (.br (A.c .neq (A.k kQ ((p.a7,([]:List Int)),(A.v .u64 (A.n yI [p.a0,p.a1,p.a2,p.a3,p.a4] p.a5:Int)),(A.n yI [p.a8,p.a9,p.cf,p.dR,p.a12] p.a5:Int))).2 0) (.ret ((0,([]:List Int)),(A.k kQ ((p.a7,([]:List Int)),(A.v .u64 (A.n yI [p.a0,p.a1,p.a2,p.a3,p.a4] p.a5:Int)),(A.n yI [p.a8,p.a9,p.cf,p.dR,p.a12] p.a5:Int))).2)) (.more (.c1 ⟨p.a0,p.a1,p.a2,p.a3,p.a4,p.a6,p.a8,p.a9,p.cf,p.dR,p.a12⟩ (A.b .add .i64 p.a5 1) (A.k kQ ((p.a7,([]:List Int)),(A.v .u64 (A.n yI [p.a0,p.a1,p.a2,p.a3,p.a4] p.a5:Int)),(A.n yI [p.a8,p.a9,p.cf,p.dR,p.a12] p.a5:Int))).1.1 (A.k kQ ((p.a7,([]:List Int)),(A.v .u64 (A.n yI [p.a0,p.a1,p.a2,p.a3,p.a4] p.a5:Int)),(A.n yI [p.a8,p.a9,p.cf,p.dR,p.a12] p.a5:Int))).1.2)))))))) (.ret ((p.a7,([]:List Int)),0))
 | .c1 p b5 b7 b8=>.br (A.c .lss b5 5) (.need (A.and (A.c .leq 0 b5) (A.c .lss b5 5)) (.need (A.and (A.c .leq 0 b5) (A.c .lss b5 5)) (.need (A.k (@tt ((Int×List Int)×Int×Int)) ((b7,b8),(A.v .u64 (A.n yI [p.b0,p.b1,p.b2,p.b3,p.b4] b5:Int)),(A.n yI [p.b9,p.b10,p.b11,p.b12,p.b13] b5:Int))) (.need (A.k (@tt ((Int×List Int)×Int×Int)) ((b7,b8),(A.v .u64 (A.n yI [p.b0,p.b1,p.b2,p.b3,p.b4] b5:Int)),(A.n yI [p.b9,p.b10,p.b11,p.b12,p.b13] b5:Int))) (.need (A.and (A.c .leq 0 b5) (A.c .lss b5 5)) (.br (A.c .neq (A.k kQ ((b7,b8),(A.v .u64 (A.n yI [p.b0,p.b1,p.b2,p.b3,p.b4] b5:Int)),(A.n yI [p.b9,p.b10,p.b11,p.b12,p.b13] b5:Int))).2 0) (.ret ((0,([]:List Int)),(A.k kQ ((b7,b8),(A.v .u64 (A.n yI [p.b0,p.b1,p.b2,p.b3,p.b4] b5:Int)),(A.n yI [p.b9,p.b10,p.b11,p.b12,p.b13] b5:Int))).2)) (.more (.c1 p (A.b .add .i64 b5 1) (A.k kQ ((b7,b8),(A.v .u64 (A.n yI [p.b0,p.b1,p.b2,p.b3,p.b4] b5:Int)),(A.n yI [p.b9,p.b10,p.b11,p.b12,p.b13] b5:Int))).1.1 (A.k kQ ((b7,b8),(A.v .u64 (A.n yI [p.b0,p.b1,p.b2,p.b3,p.b4] b5:Int)),(A.n yI [p.b9,p.b10,p.b11,p.b12,p.b13] b5:Int))).1.2)))))))) (.ret ((b7,b8),0))
theorem lm{v w:Nat}{l:List Bool}(hv:v<2^w)(hw:w≤64)(hl:l.length+w≤4096):wi (bJ l,(v:Int),(w:Int))=(bJ (l++bitsOf v w),0):=by
 rw[wi]
 simp only[gG (l:=l) (by omega),Bool.not_true,cond_false,fK,Int.toNat_natCast]
 rw[rv (by omega),Int.toNat_natCast,Nat.div_eq_of_lt hv,show decide ((w:Int)<0)=false from by simp,show decide (64<(w:Int))=false from by simp;omega,oQ (by rw[List.length_append,aA];exact hl)]
 rfl
theorem rz{p:H7}{i:Int}{v w:Nat}{l:List Bool}{r:(Int×List Int)×Int}(h0:0≤i)(h5:i<5)(hv:(ai.n (.int .i64) [p.b0,p.b1,p.b2,p.b3,p.b4] i:Int)=(v:Int))(hw:(ai.n (.int .i64) [p.b9,p.b10,p.b11,p.b12,p.b13] i:Int)=(w:Int))(hvw:v<2^w)(hw8:w≤8)(hl:l.length≤100)
  (h:aC (La ai) (.more (.c1 p (i+1) (bJ (l++bitsOf v w)).1 (bJ (l++bitsOf v w)).2)) r):aC (La ai) (.more (.c1 p i (bJ l).1 (bJ l).2)) r:=by
 rw[ak,La]
 have hn:ai.and (ai.c .leq 0 i) (ai.c .lss i 5)=true:=by rw[aQ,aF,al];simp;omega
 have hp:=Nat.pow_le_pow_right (n:=2) (by decide) hw8
 have hc:ai.k kQ (((bJ l).1,(bJ l).2),(ai.v .u64 (ai.n (.int .i64) [p.b0,p.b1,p.b2,p.b3,p.b4] i:Int)),(ai.n (.int .i64) [p.b9,p.b10,p.b11,p.b12,p.b13] i:Int))=(bJ (l++bitsOf v w),0):=by
  rw[show(ai.v .u64 (ai.n (.int .i64) [p.b0,p.b1,p.b2,p.b3,p.b4] i:Int))=(v:Int) from(congrArg (ai.v .u64) hv).trans (dd (by omega)),hw]
  exact lm hvw (by omega) (by omega)
 refine(aj (by rw[al];simpa using h5)).2 (af.2 ⟨hn,af.2 ⟨hn,af.2 ⟨rfl,?_⟩⟩⟩)
 repeat (first|refine af.2 ⟨rfl,?_⟩|refine af.2 ⟨hn,?_⟩)
 refine(ah (cn (congrArg Prod.snd hc))).2 ?_
 refine aZ (congrArg LT.more (congr (congr (congrArg (L6.c1 p) ?_) (congrArg (fun z=>z.1.1) hc)) (congrArg (fun z=>z.1.2) hc))) h
 rw[dn,gh (by omega) (by omega)]
theorem FN{t po m n s:Int}:aC (La ai) (T5 ai t po m n s) (jg (t,po,m,n,s)):=by
 unfold T5
 rw[jg]
 refine af.2 ⟨rfl,?_⟩
 have hchk:ai.k ol ((t,po,m,n,s),8)=bif dN (t,po,m,n,s) then 0 else 40:=pL (t,po,m,n,s)
 cases hok:dN (t,po,m,n,s)
 ·rw[hok] at hchk
  exact(aj (dX (by rw[hchk];decide))).2 (.ret _)
 rw[hok] at hchk
 refine(ah (cn hchk)).2 ?_
 rw[lJ] at hok
 obtain⟨t,rfl⟩:=Int.eq_ofNat_of_zero_le hok.1.1
 obtain⟨po,rfl⟩:=Int.eq_ofNat_of_zero_le hok.2.1.1
 obtain⟨m,rfl⟩:=Int.eq_ofNat_of_zero_le hok.2.2.1.1
 obtain⟨n,rfl⟩:=Int.eq_ofNat_of_zero_le hok.2.2.2.1.1
 obtain⟨s,rfl⟩:=Int.eq_ofNat_of_zero_le hok.2.2.2.2.1
 have hc:ai.k kQ (((0:Int),([]:List Int)),(ai.v .u64 (t:Int)),8)=(bJ ([]++bitsOf t 8),0):=by
  rw[dd (by omega)]
  exact lm (l:=[]) (v:=t) (w:=8) (by omega) (by decide) (by decide)
 rw[ak,La]
 refine(aj rfl).2 (af.2 ⟨rfl,af.2 ⟨rfl,af.2 ⟨rfl,?_⟩⟩⟩)
 repeat (refine af.2 ⟨rfl,?_⟩)
 refine(ah (cn (congrArg Prod.snd hc))).2 ?_
 refine aZ (congrArg LT.more (congr (congr (congrArg (L6.c1 _) (show ai.b .add .i64 0 1=1 from rfl)) (congrArg (fun z=>z.1.1) hc)) (congrArg (fun z=>z.1.2) hc))) ?_
 refine rz (v:=po) (w:=3) (by decide) (by decide) rfl rfl (by omega) (by decide) (by simp[aA]) ?_
 refine rz (i:=2) (v:=m) (w:=2) (by decide) (by decide) rfl rfl (by omega) (by decide) (by simp[aA]) ?_
 refine rz (i:=3) (v:=n) (w:=3) (by decide) (by decide) rfl rfl (by omega) (by decide) (by simp[aA]) ?_
 refine rz (i:=4) (v:=s) (w:=8) (by decide) (by decide) rfl rfl (by omega) (by decide) (by simp[aA]) ?_
 rw[ak,La]
 refine(ah rfl).2 ?_
 rw[show[]++bitsOf t 8++bitsOf po 3++bitsOf m 2++bitsOf n 3++bitsOf s 8=aV ((t:Int),(po:Int),(m:Int),(n:Int),(s:Int)) from by
  simp only[aV,Int.toNat_natCast,List.append_assoc,List.nil_append]]
 exact .ret _
def ng:((Int×Int×Int×Int×Int))→((Int×List Int)×Int):=jg
def U8:aB:=⟨[(.struct [yI,yI,yI,yI,yI])], [(.struct [yI,yB]),yI],(@tt ((Int×Int×Int×Int×Int))),ng⟩
theorem Vy:Sd 233 U8:=aH ar cO true 71 [⟨233,6, [[2,4,5,16,17]]⟩] [] (fun A (cTime,cPos,cMode,cNext,cMember)=>T5 A cTime cPos cMode cNext cMember) La SU (fc Tryz.func233 (fc Tryz.func202 (fc Tryz.func248 fz))) (sc zy (sc Qn sz)) (fun A y=>match y with |.c0 p=>⟨55,by kernel_rfl,by kernel_rfl⟩|.c1 p b5 b7 b8=>⟨55,by kernel_rfl,by kernel_rfl⟩) fun(cTime,cPos,cMode,cNext,cMember) hp h=>FN
def t82(A:bg)(cTime:Int)(cPos:Int)(cMode:Int)(cNext:Int)(cMember:Int):LT ((Int×List Int)×Int) Empty:=.need (A.k (@tt ((Int×Int×Int×Int×Int)×Int)) ((cTime,cPos,cMode,cNext,cMember),8)) (.br (A.c .neq (A.k xY ((cTime,cPos,cMode,cNext,cMember),8)) 0) (.ret ((0,([]:List Int)),40)) (.need (A.k (@tt ((Int×List Int)×Int×Int)) ((0,([]:List Int)),(A.v .u64 cTime),8)) (.need (A.k (@tt ((Int×List Int)×Int×Int)) ((A.k dV ((0,([]:List Int)),(A.v .u64 cTime),8)).1,(A.v .u64 cPos),3)) (.need (A.k (@tt ((Int×List Int)×Int×Int)) ((A.k dV ((A.k dV ((0,([]:List Int)),(A.v .u64 cTime),8)).1,(A.v .u64 cPos),3)).1,(A.v .u64 cMode),2)) (.need (A.k (@tt ((Int×List Int)×Int×Int)) ((A.k dV ((A.k dV ((A.k dV ((0,([]:List Int)),(A.v .u64 cTime),8)).1,(A.v .u64 cPos),3)).1,(A.v .u64 cMode),2)).1,(A.v .u64 cNext),3)) (.need (A.k (@tt ((Int×List Int)×Int×Int)) ((A.k dV ((A.k dV ((A.k dV ((A.k dV ((0,([]:List Int)),(A.v .u64 cTime),8)).1,(A.v .u64 cPos),3)).1,(A.v .u64 cMode),2)).1,(A.v .u64 cNext),3)).1,(A.v .u64 cMember),8)) (.ret (A.k dV ((A.k dV ((A.k dV ((A.k dV ((A.k dV ((0,([]:List Int)),(A.v .u64 cTime),8)).1,(A.v .u64 cPos),3)).1,(A.v .u64 cMode),2)).1,(A.v .u64 cNext),3)).1,(A.v .u64 cMember),8)))))))))
theorem Gf{t po m n s:Int}:aC Empty.elim (t82 ai t po m n s) (jg (t,po,m,n,s)):=by
 unfold t82
 rw[jg]
 refine af.2 ⟨rfl,?_⟩
 have hchk:ai.k xY ((t,po,m,n,s),8)=bif dN (t,po,m,n,s) then 0 else 40:=pL (t,po,m,n,s)
 cases hok:dN (t,po,m,n,s)
 ·rw[hok] at hchk
  exact(aj (dX (by rw[hchk];decide))).2 (.ret _)
 rw[hok] at hchk
 refine(ah (cn hchk)).2 ?_
 rw[lJ] at hok
 obtain⟨t,rfl⟩:=Int.eq_ofNat_of_zero_le hok.1.1
 obtain⟨po,rfl⟩:=Int.eq_ofNat_of_zero_le hok.2.1.1
 obtain⟨m,rfl⟩:=Int.eq_ofNat_of_zero_le hok.2.2.1.1
 obtain⟨n,rfl⟩:=Int.eq_ofNat_of_zero_le hok.2.2.2.1.1
 obtain⟨s,rfl⟩:=Int.eq_ofNat_of_zero_le hok.2.2.2.2.1
 have h1:ai.k dV (((0:Int),([]:List Int)),(ai.v .u64 (t:Int)),8)=(bJ ([]++bitsOf t 8),0):=by
  rw[dd (by omega)]
  exact lm (l:=[]) (v:=t) (w:=8) (by omega) (by decide) (by decide)
 have h2:ai.k dV (bJ ([]++bitsOf t 8),(ai.v .u64 (po:Int)),3)=(bJ ([]++bitsOf t 8++bitsOf po 3),0):=by
  rw[dd (by omega)]
  exact lm (w:=3) (by omega) (by decide) (by simp[aA])
 have h3:ai.k dV (bJ ([]++bitsOf t 8++bitsOf po 3),(ai.v .u64 (m:Int)),2)=(bJ ([]++bitsOf t 8++bitsOf po 3++bitsOf m 2),0):=by
  rw[dd (by omega)]
  exact lm (w:=2) (by omega) (by decide) (by simp[aA])
 have h4:ai.k dV (bJ ([]++bitsOf t 8++bitsOf po 3++bitsOf m 2),(ai.v .u64 (n:Int)),3)=(bJ ([]++bitsOf t 8++bitsOf po 3++bitsOf m 2++bitsOf n 3),0):=by
  rw[dd (by omega)]
  exact lm (w:=3) (by omega) (by decide) (by simp[aA])
 have h5:ai.k dV (bJ ([]++bitsOf t 8++bitsOf po 3++bitsOf m 2++bitsOf n 3),(ai.v .u64 (s:Int)),8)=(bJ ([]++bitsOf t 8++bitsOf po 3++bitsOf m 2++bitsOf n 3++bitsOf s 8),0):=by
  rw[dd (by omega)]
  exact lm (w:=8) (by omega) (by decide) (by simp[aA])
 rw[h1,h2,h3,h4,h5]
 repeat (refine af.2 ⟨rfl,?_⟩)
 rw[show[]++bitsOf t 8++bitsOf po 3++bitsOf m 2++bitsOf n 3++bitsOf s 8=aV ((t:Int),(po:Int),(m:Int),(n:Int),(s:Int)) from by
  simp only[aV,Int.toNat_natCast,List.append_assoc,List.nil_append]]
 exact .ret _
def oL:((Int×Int×Int×Int×Int))→((Int×List Int)×Int):=jg
def UK:aB:=⟨[(.struct [yI,yI,yI,yI,yI])], [(.struct [yI,yB]),yI],(@tt ((Int×Int×Int×Int×Int))),oL⟩
theorem Ut:Sd 129 UK:=aG ar cO true 83 [] (fun A (cTime,cPos,cMode,cNext,cMember)=>t82 A cTime cPos cMode cNext cMember) (fc Tryz.func129 fz) (sc Kw (sc Ep sz)) fun(cTime,cPos,cMode,cNext,cMember) hp h=>Gf
open Go.Ev.Pl
structure Jh where
 (a1 a2 a3 a4 a5 a7:Int) (a8:List Int) (a9 cf dR a12 nf:Int)
inductive wU where
 | c0 (p:Jh) (a0:Int) (a6:Int) (jN:Int) (rh:Int) (a16:Int) (a17:Int) (rm:Int)
noncomputable def LB:wU→fE
 | .c0 p a0 a6 jN rh a16 a17 rm=>⟨[⟨236,61,(en [(1,.ptr 0 0),(2,.ptr 1 0),(4,.ptr 2 0),(5,vi a0),(21,.agg [vi p.a1,vi p.a2,vi p.a3,vi p.a4,vi p.a5]),(22,vi a6)]),[.inLoop (cw Tryz.f236 [1,1,1,1,0,1,0,0]),.inBlock 1,.code (cw Tryz.f236 [1,1,1,1,1])],[],none⟩],[.flat false [vi p.a7,.sl yU p.a8],.flat false [vi p.a9,vi p.cf,vi p.dR,vi p.a12,vi p.nf],.flat false [vi jN,vi rh,vi a16,vi a17,vi rm],.dead]⟩
def Lx(A:bg)(bN:Int)(bB:List Int):LT ((Int×Int×Int×Int×Int)×Int) wU:=.need (A.k (@tt ((Int×List Int))) (bN,bB)) (.br (A.c .neq (A.k iG (bN,bB)) 0) (.ret ((0,0,0,0,0),10)) (.br (A.c .neq bN 24) (.ret ((0,0,0,0,0),40)) (.more (.c0 ⟨8,3,2,3,8,bN,bB,0,0,0,0,0⟩ 0 0 0 0 0 0 0))))
def vH(A:bg):wU→LT ((Int×Int×Int×Int×Int)×Int) wU
 | .c0 p a0 a6 jN rh a16 a17 rm=>.br (A.c .lss a6 5) (.need (A.and (A.c .leq 0 a6) (A.c .lss a6 5)) (.need (A.k (@tt ((Int×List Int)×Int×Int)) ((p.a7,p.a8),a0,(A.n yI [p.a1,p.a2,p.a3,p.a4,p.a5] a6:Int))) (.br (A.c .neq (A.k ay ((p.a7,p.a8),a0,(A.n yI [p.a1,p.a2,p.a3,p.a4,p.a5] a6:Int))).2 0) (.ret ((0,0,0,0,0),(A.k ay ((p.a7,p.a8),a0,(A.n yI [p.a1,p.a2,p.a3,p.a4,p.a5] a6:Int))).2)) (.need (A.and (A.c .leq 0 a6) (A.c .lss a6 5)) (.more (.c0 p (A.b .add .i64 a0 (A.n yI [p.a1,p.a2,p.a3,p.a4,p.a5] a6:Int)) (A.b .add .i64 a6 1) (A.n yI (A.set [jN,rh,a16,a17,rm] a6 (A.v .i64 (A.k ay ((p.a7,p.a8),a0,(A.n yI [p.a1,p.a2,p.a3,p.a4,p.a5] a6:Int))).1)) 0:Int) (A.n yI (A.set [jN,rh,a16,a17,rm] a6 (A.v .i64 (A.k ay ((p.a7,p.a8),a0,(A.n yI [p.a1,p.a2,p.a3,p.a4,p.a5] a6:Int))).1)) 1:Int) (A.n yI (A.set [jN,rh,a16,a17,rm] a6 (A.v .i64 (A.k ay ((p.a7,p.a8),a0,(A.n yI [p.a1,p.a2,p.a3,p.a4,p.a5] a6:Int))).1)) 2:Int) (A.n yI (A.set [jN,rh,a16,a17,rm] a6 (A.v .i64 (A.k ay ((p.a7,p.a8),a0,(A.n yI [p.a1,p.a2,p.a3,p.a4,p.a5] a6:Int))).1)) 3:Int) (A.n yI (A.set [jN,rh,a16,a17,rm] a6 (A.v .i64 (A.k ay ((p.a7,p.a8),a0,(A.n yI [p.a1,p.a2,p.a3,p.a4,p.a5] a6:Int))).1)) 4:Int))))))) (.need (A.k (@tt ((Int×Int×Int×Int×Int)×Int)) ((jN,rh,a16,a17,rm),8)) (.br (A.c .neq (A.k ol ((jN,rh,a16,a17,rm),8)) 0) (.ret ((0,0,0,0,0),40)) (.ret ((jN,rh,a16,a17,rm),0))))
theorem C6{n:Int}{b:List Int}(h:Ty.dH [(.struct [(.int .i64),(.slice (.int .u8))])] (n,b)):aC (vH ai) (Lx ai n b) (dy (n,b)):=by
 have hb:=(dM h).2.2
 have hl:=cZ h
 unfold Lx
 rw[dy]
 refine af.2 ⟨rfl,?_⟩
 have hc:ai.c .neq (ai.k iG (n,b)) 0=!bq (n,b):=by
  rw[ap,ja hb hl];cases bq (n,b)<;>rfl
 rw[hc]
 cases hok:bq (n,b)
 ·exact(aj rfl).2 (.ret _)
 refine(ah rfl).2 ?_
 rw[Bool.not_true,cond_false]
 show aC (vH ai) _ (bif n != 24 then(zS,40) else _)
 by_cases h24:n=24
 ·subst h24
  refine(ah rfl).2 ?_
  rw[show((24:Int) != 24)=false from rfl,cond_false]
  have l0:=dJ (bC (24,b)) 0 8
  have g0:ai.k ay ((24,b),0,8)=(((bf (bC (24,b)) 0 8:Nat):Int),0):=iV (n:=24) (a:=0) (w:=8) hok (by decide) (by decide) (by decide)
  have l1:=dJ (bC (24,b)) 8 3
  have g1:ai.k ay ((24,b),8,3)=(((bf (bC (24,b)) 8 3:Nat):Int),0):=iV (n:=24) (a:=8) (w:=3) hok (by decide) (by decide) (by decide)
  have l2:=dJ (bC (24,b)) 11 2
  have g2:ai.k ay ((24,b),11,2)=(((bf (bC (24,b)) 11 2:Nat):Int),0):=iV (n:=24) (a:=11) (w:=2) hok (by decide) (by decide) (by decide)
  have l3:=dJ (bC (24,b)) 13 3
  have g3:ai.k ay ((24,b),13,3)=(((bf (bC (24,b)) 13 3:Nat):Int),0):=iV (n:=24) (a:=13) (w:=3) hok (by decide) (by decide) (by decide)
  have l4:=dJ (bC (24,b)) 16 8
  have g4:ai.k ay ((24,b),16,8)=(((bf (bC (24,b)) 16 8:Nat):Int),0):=iV (n:=24) (a:=16) (w:=8) hok (by decide) (by decide) (by decide)
  rw[ak,vH]
  refine(aj rfl).2 (af.2 ⟨rfl,af.2 ⟨rfl,(ah (cn (congrArg Prod.snd (show ai.k ay ((24,b),0,8)=(((bf (bC (24,b)) 0 8:Nat):Int),0) from g0)))).2 (af.2 ⟨rfl,?_⟩)⟩⟩)
  refine aZ (t':=.more (.c0 ⟨8,3,2,3,8,24,b,0,0,0,0,0⟩ 8 1 ((bf (bC (24,b)) 0 8:Nat):Int) 0 0 0 0)) (congrArg LT.more (show wU.c0 ⟨8,3,2,3,8,24,b,0,0,0,0,0⟩ 8 1 (ai.v .i64 (ai.k ay ((24,b),0,8)).1) 0 0 0 0=_ from by rw[show(ai.v .i64 (ai.k ay ((24,b),0,8)).1)=((bf (bC (24,b)) 0 8:Nat):Int) from by rw[g0,bL,gh (by omega) (by omega)]])) ?_
  rw[ak,vH]
  refine(aj rfl).2 (af.2 ⟨rfl,af.2 ⟨rfl,(ah (cn (congrArg Prod.snd (show ai.k ay ((24,b),8,3)=(((bf (bC (24,b)) 8 3:Nat):Int),0) from g1)))).2 (af.2 ⟨rfl,?_⟩)⟩⟩)
  refine aZ (t':=.more (.c0 ⟨8,3,2,3,8,24,b,0,0,0,0,0⟩ 11 2 ((bf (bC (24,b)) 0 8:Nat):Int) ((bf (bC (24,b)) 8 3:Nat):Int) 0 0 0)) (congrArg LT.more (show wU.c0 ⟨8,3,2,3,8,24,b,0,0,0,0,0⟩ 11 2 ((bf (bC (24,b)) 0 8:Nat):Int) (ai.v .i64 (ai.k ay ((24,b),8,3)).1) 0 0 0=_ from by rw[show(ai.v .i64 (ai.k ay ((24,b),8,3)).1)=((bf (bC (24,b)) 8 3:Nat):Int) from by rw[g1,bL,gh (by omega) (by omega)]])) ?_
  rw[ak,vH]
  refine(aj rfl).2 (af.2 ⟨rfl,af.2 ⟨rfl,(ah (cn (congrArg Prod.snd (show ai.k ay ((24,b),11,2)=(((bf (bC (24,b)) 11 2:Nat):Int),0) from g2)))).2 (af.2 ⟨rfl,?_⟩)⟩⟩)
  refine aZ (t':=.more (.c0 ⟨8,3,2,3,8,24,b,0,0,0,0,0⟩ 13 3 ((bf (bC (24,b)) 0 8:Nat):Int) ((bf (bC (24,b)) 8 3:Nat):Int) ((bf (bC (24,b)) 11 2:Nat):Int) 0 0)) (congrArg LT.more (show wU.c0 ⟨8,3,2,3,8,24,b,0,0,0,0,0⟩ 13 3 ((bf (bC (24,b)) 0 8:Nat):Int) ((bf (bC (24,b)) 8 3:Nat):Int) (ai.v .i64 (ai.k ay ((24,b),11,2)).1) 0 0=_ from by rw[show(ai.v .i64 (ai.k ay ((24,b),11,2)).1)=((bf (bC (24,b)) 11 2:Nat):Int) from by rw[g2,bL,gh (by omega) (by omega)]])) ?_
  rw[ak,vH]
  refine(aj rfl).2 (af.2 ⟨rfl,af.2 ⟨rfl,(ah (cn (congrArg Prod.snd (show ai.k ay ((24,b),13,3)=(((bf (bC (24,b)) 13 3:Nat):Int),0) from g3)))).2 (af.2 ⟨rfl,?_⟩)⟩⟩)
  refine aZ (t':=.more (.c0 ⟨8,3,2,3,8,24,b,0,0,0,0,0⟩ 16 4 ((bf (bC (24,b)) 0 8:Nat):Int) ((bf (bC (24,b)) 8 3:Nat):Int) ((bf (bC (24,b)) 11 2:Nat):Int) ((bf (bC (24,b)) 13 3:Nat):Int) 0)) (congrArg LT.more (show wU.c0 ⟨8,3,2,3,8,24,b,0,0,0,0,0⟩ 16 4 ((bf (bC (24,b)) 0 8:Nat):Int) ((bf (bC (24,b)) 8 3:Nat):Int) ((bf (bC (24,b)) 11 2:Nat):Int) (ai.v .i64 (ai.k ay ((24,b),13,3)).1) 0=_ from by rw[show(ai.v .i64 (ai.k ay ((24,b),13,3)).1)=((bf (bC (24,b)) 13 3:Nat):Int) from by rw[g3,bL,gh (by omega) (by omega)]])) ?_
  rw[ak,vH]
  refine(aj rfl).2 (af.2 ⟨rfl,af.2 ⟨rfl,(ah (cn (congrArg Prod.snd (show ai.k ay ((24,b),16,8)=(((bf (bC (24,b)) 16 8:Nat):Int),0) from g4)))).2 (af.2 ⟨rfl,?_⟩)⟩⟩)
  refine aZ (t':=.more (.c0 ⟨8,3,2,3,8,24,b,0,0,0,0,0⟩ 24 5 ((bf (bC (24,b)) 0 8:Nat):Int) ((bf (bC (24,b)) 8 3:Nat):Int) ((bf (bC (24,b)) 11 2:Nat):Int) ((bf (bC (24,b)) 13 3:Nat):Int) ((bf (bC (24,b)) 16 8:Nat):Int))) (congrArg LT.more (show wU.c0 ⟨8,3,2,3,8,24,b,0,0,0,0,0⟩ 24 5 ((bf (bC (24,b)) 0 8:Nat):Int) ((bf (bC (24,b)) 8 3:Nat):Int) ((bf (bC (24,b)) 11 2:Nat):Int) ((bf (bC (24,b)) 13 3:Nat):Int) (ai.v .i64 (ai.k ay ((24,b),16,8)).1)=_ from by rw[show(ai.v .i64 (ai.k ay ((24,b),16,8)).1)=((bf (bC (24,b)) 16 8:Nat):Int) from by rw[g4,bL,gh (by omega) (by omega)]])) ?_
  have hchk:ai.k ol ((((bf (bC (24,b)) 0 8:Nat):Int),((bf (bC (24,b)) 8 3:Nat):Int),((bf (bC (24,b)) 11 2:Nat):Int),((bf (bC (24,b)) 13 3:Nat):Int),((bf (bC (24,b)) 16 8:Nat):Int)),8)=bif dN (eG (bC (24,b))) then 0 else 40:=pL (eG (bC (24,b)))
  rw[ak,vH]
  refine(ah rfl).2 (af.2 ⟨rfl,?_⟩)
  cases ho:dN (eG (bC (24,b)))
  ·rw[ho] at hchk
   exact(aj (dX (by rw[hchk];decide))).2 (.ret _)
  ·rw[ho] at hchk
   exact(ah (cn hchk)).2 (.ret _)
 ·refine(aj (dX h24)).2 ?_
  rw[show(n != 24)=true from bne_iff_ne.2 h24,cond_true]
  exact .ret _
def fS:((Int×List Int))→((Int×Int×Int×Int×Int)×Int):=dy
def MZ:aB:=⟨[(.struct [yI,yB])], [(.struct [yI,yI,yI,yI,yI]),yI],(@tt ((Int×List Int))),fS⟩
theorem QU:Sd 236 MZ:=aH ar cO true 58 [⟨236,8, [[1,2,4,5,21,22]]⟩] [] (fun A (bN,bB)=>Lx A bN bB) vH LB (fc Tryz.func236 (fc Tryz.func248 fz)) (sc zy (sc zv (sc AP sz))) (fun A y=>match y with |.c0 p a0 a6 jN rh a16 a17 rm=>⟨61,by kernel_rfl,by kernel_rfl⟩) fun(bN,bB) hp h=>C6 h
open Go.Ev.Pl
def t57(A:bg)(fKind:Int)(fReq:Int)(fCTime:Int)(fCPos:Int)(fCMode:Int)(fCNext:Int)(fCMember:Int)(fFrom:Int)(fData:List Int):LT Int Empty:=.need (A.k (@tt ((Int×Int×Int×Int×Int)×Int)) ((fCTime,fCPos,fCMode,fCNext,fCMember),8)) (.br (A.c .neq (A.k ol ((fCTime,fCPos,fCMode,fCNext,fCMember),8)) 0) (.ret 50) (.br (A.c .lss fReq 0) (.ret 50) (.br (A.c .gtr fReq 4) (.ret 50) (.br (A.c .gtr (A.l fData) 8) (.ret 50) (.br (A.c .eql fKind 1) (.br (A.c .eql fReq 0) (.br (A.c .eql (A.l fData) 0) (.br (A.c .geq fFrom 0) (.br (A.c .lss fFrom 8) (.br (A.not (A.and (A.c .eql fCTime fCTime) (A.and (A.c .eql fCPos 0) (A.and (A.c .eql fCMode 0) (A.and (A.c .eql fCNext 0) (A.and (A.c .eql fCMember 0) true)))))) (.ret 50) (.ret 0)) (.ret 50)) (.ret 50)) (.ret 50)) (.ret 50)) (.br (A.c .eql fKind 3) (.br (A.c .eql (A.l fData) 0) (.br (A.not (A.c .eql fFrom 0)) (.ret 50) (.ret 0)) (.ret 50)) (.br (A.c .eql fKind 2) (.br (A.not (A.c .eql fFrom 0)) (.ret 50) (.ret 0)) (.br (A.c .eql fKind 4) (.br (A.not (A.c .eql fFrom 0)) (.ret 50) (.ret 0)) (.ret 50)))))))))
def ml:((Int×Int×(Int×Int×Int×Int×Int)×Int×List Int))→Int:=fun(fKind,fReq,(fCTime,fCPos,fCMode,fCNext,fCMember),fFrom,fData)=>(t57 ai fKind fReq fCTime fCPos fCMode fCNext fCMember fFrom fData).val (Ty.da [yI])
def Tc:aB:=⟨[(.struct [yI,yI,(.struct [yI,yI,yI,yI,yI]),yI,yB])], [yI],(@tt ((Int×Int×(Int×Int×Int×Int×Int)×Int×List Int))),ml⟩
theorem VH:Sd 237 Tc:=aJ ar cO true 109 [] (fun A (fKind,fReq,(fCTime,fCPos,fCMode,fCNext,fCMember),fFrom,fData)=>t57 A fKind fReq fCTime fCPos fCMode fCNext fCMember fFrom fData) (fc Tryz.func237 fz) (sc zy sz) (fun((fKind,fReq,(fCTime,fCPos,fCMode,fCNext,fCMember),fFrom,fData):(Int×Int×(Int×Int×Int×Int×Int)×Int×List Int)) hp h=>by
 show(t57 ai fKind fReq fCTime fCPos fCMode fCNext fCMember fFrom fData).pre=true
 simp[t57,LT.pre,ap,dI])
def t58(A:bg)(fKind:Int)(fReq:Int)(fCTime:Int)(fCPos:Int)(fCMode:Int)(fCNext:Int)(fCMember:Int)(fFrom:Int)(fData:List Int):LT Int Empty:=.br (A.c .lss fKind 1) (.ret 50) (.br (A.c .gtr fKind 4) (.ret 50) (.need (A.k (@tt ((Int×Int×Int×Int×Int)×Int)) ((fCTime,fCPos,fCMode,fCNext,fCMember),8)) (.br (A.c .neq (A.k xY ((fCTime,fCPos,fCMode,fCNext,fCMember),8)) 0) (.ret 50) (.br (A.c .lss fReq 0) (.ret 50) (.br (A.c .gtr fReq 4) (.ret 50) (.br (A.c .gtr (A.l fData) 8) (.ret 50) (.br (A.c .eql fKind 1) (.br (A.c .gtr (A.l fData) 0) (.ret 50) (.br (A.c .neq fKind 1) (.br (A.c .neq fFrom 0) (.ret 50) (.ret 0)) (.br (A.c .neq fReq 0) (.ret 50) (.br (A.c .lss fFrom 0) (.ret 50) (.br (A.c .geq fFrom 8) (.ret 50) (.br (A.not (A.and (A.c .eql fCTime fCTime) (A.and (A.c .eql fCPos 0) (A.and (A.c .eql fCMode 0) (A.and (A.c .eql fCNext 0) (A.and (A.c .eql fCMember 0) true)))))) (.ret 50) (.ret 0))))))) (.br (A.c .eql fKind 3) (.br (A.c .gtr (A.l fData) 0) (.ret 50) (.br (A.c .neq fKind 1) (.br (A.c .neq fFrom 0) (.ret 50) (.ret 0)) (.br (A.c .neq fReq 0) (.ret 50) (.br (A.c .lss fFrom 0) (.ret 50) (.br (A.c .geq fFrom 8) (.ret 50) (.br (A.not (A.and (A.c .eql fCTime fCTime) (A.and (A.c .eql fCPos 0) (A.and (A.c .eql fCMode 0) (A.and (A.c .eql fCNext 0) (A.and (A.c .eql fCMember 0) true)))))) (.ret 50) (.ret 0))))))) (.br (A.c .neq fKind 1) (.br (A.c .neq fFrom 0) (.ret 50) (.ret 0)) (.br (A.c .neq fReq 0) (.ret 50) (.br (A.c .lss fFrom 0) (.ret 50) (.br (A.c .geq fFrom 8) (.ret 50) (.br (A.not (A.and (A.c .eql fCTime fCTime) (A.and (A.c .eql fCPos 0) (A.and (A.c .eql fCMode 0) (A.and (A.c .eql fCNext 0) (A.and (A.c .eql fCMember 0) true)))))) (.ret 50) (.ret 0))))))))))))))
def Bw:((Int×Int×(Int×Int×Int×Int×Int)×Int×List Int))→Int:=fun(fKind,fReq,(fCTime,fCPos,fCMode,fCNext,fCMember),fFrom,fData)=>(t58 ai fKind fReq fCTime fCPos fCMode fCNext fCMember fFrom fData).val (Ty.da [yI])
def Tf:aB:=⟨[(.struct [yI,yI,(.struct [yI,yI,yI,yI,yI]),yI,yB])], [yI],(@tt ((Int×Int×(Int×Int×Int×Int×Int)×Int×List Int))),Bw⟩
theorem VM:Sd 128 Tf:=aJ ar cO true 114 [] (fun A (fKind,fReq,(fCTime,fCPos,fCMode,fCNext,fCMember),fFrom,fData)=>t58 A fKind fReq fCTime fCPos fCMode fCNext fCMember fFrom fData) (fc Tryz.func128 fz) (sc Kw sz) (fun((fKind,fReq,(fCTime,fCPos,fCMode,fCNext,fCMember),fFrom,fData):(Int×Int×(Int×Int×Int×Int×Int)×Int×List Int)) hp h=>by
 show(t58 ai fKind fReq fCTime fCPos fCMode fCNext fCMember fFrom fData).pre=true
 simp[t58,LT.pre,ap,dI])
def t56(A:bg)(kind:Int)(data:Int):LT Int Empty:=.br (A.c .lss data 0) (.ret 0) (.br (A.c .gtr data 8) (.ret 0) (.br (A.c .eql kind 1) (.br (A.c .eql data 0) (.ret 40) (.br (A.c .eql kind 3) (.br (A.c .eql data 0) (.ret 54) (.br (A.c .eql kind 2) (.ret (A.b .add .i64 29 (A.b .mul .i64 8 data))) (.br (A.c .eql kind 4) (.ret (A.b .add .i64 79 (A.b .mul .i64 8 data))) (.ret 0)))) (.br (A.c .eql kind 2) (.ret (A.b .add .i64 29 (A.b .mul .i64 8 data))) (.br (A.c .eql kind 4) (.ret (A.b .add .i64 79 (A.b .mul .i64 8 data))) (.ret 0))))) (.br (A.c .eql kind 3) (.br (A.c .eql data 0) (.ret 54) (.br (A.c .eql kind 2) (.ret (A.b .add .i64 29 (A.b .mul .i64 8 data))) (.br (A.c .eql kind 4) (.ret (A.b .add .i64 79 (A.b .mul .i64 8 data))) (.ret 0)))) (.br (A.c .eql kind 2) (.ret (A.b .add .i64 29 (A.b .mul .i64 8 data))) (.br (A.c .eql kind 4) (.ret (A.b .add .i64 79 (A.b .mul .i64 8 data))) (.ret 0))))))
def kz:(Int×Int)→Int:=fun(kind,data)=>(t56 ai kind data).val (Ty.da [yI])
def TO:aB:=⟨[yI,yI], [yI],(@tt (Int×Int)),kz⟩
theorem Tz:Sd 227 TO:=aJ ar cO true 67 [] (fun A (kind,data)=>t56 A kind data) (fc Tryz.func227 fz) sz (fun((kind,data):Int×Int) hp h=>by
 show(t56 ai kind data).pre=true
 simp[t56,LT.pre,ap,dI])
def t59(A:bg)(kind:Int)(data:Int):LT Int Empty:=.br (A.c .lss data 0) (.ret 0) (.br (A.c .gtr data 8) (.ret 0) (.br (A.c .eql kind 1) (.br (A.c .eql data 0) (.ret 40) (.ret 0)) (.br (A.c .eql kind 2) (.ret (A.b .add .i64 29 (A.b .mul .i64 8 data))) (.br (A.c .eql kind 3) (.br (A.c .eql data 0) (.ret 54) (.ret 0)) (.br (A.c .eql kind 4) (.ret (A.b .add .i64 79 (A.b .mul .i64 8 data))) (.ret 0))))))
def wL:(Int×Int)→Int:=fun(kind,data)=>(t59 ai kind data).val (Ty.da [yI])
def TT:aB:=⟨[yI,yI], [yI],(@tt (Int×Int)),wL⟩
theorem VD:Sd 196 TT:=aJ ar cO true 59 [] (fun A (kind,data)=>t59 A kind data) (fc Tryz.func196 fz) sz (fun((kind,data):Int×Int) hp h=>by
 show(t59 ai kind data).pre=true
 simp[t59,LT.pre,ap,dI])
theorem rH{k r t p m n s fr:Int}{d:List Int}:ml (k,r,(t,p,m,n,s),fr,d)=bif fe (k,r,(t,p,m,n,s),fr,d) then 0 else 50:=by
 have hc:ai.c .neq (ai.k ol ((t,p,m,n,s),8)) 0=!dN (t,p,m,n,s):=by
  rw[show ai.k ol ((t,p,m,n,s),8)=bif dN (t,p,m,n,s) then 0 else 40 from pL (t,p,m,n,s)];cases dN (t,p,m,n,s)<;>rfl
 have hl:ai.l d=(d.length:Int):=rfl
 have hiff:=iW (k:=k) (r:=r) (t:=t) (p:=p) (m:=m) (n:=n) (s:=s) (fr:=fr) (d:=d)
 have hq:(t==t&&(p==0&&(m==0&&(n==0&&(s==0&&true)))))=decide (p=0∧m=0∧n=0∧s=0):=by
  rw[Bool.eq_iff_iff];simp
 simp only[ml,t57,LT.val,hc,hl,aR,aX,al,aF,aD,aK,aQ,c_,hq,Bool.cond_eq_ite,hiff,Bool.and_eq_true,Bool.not_eq_true',decide_eq_true_eq,decide_eq_false_iff_not,beq_iff_eq,bne_iff_ne,ne_eq]
 cases dN (t,p,m,n,s)
 ·simp
 ·simp only[Bool.true_eq_false,if_false,true_and,Bool.not_true,Bool.false_eq_true,ite_false,reduceIte]
  generalize d.length=len
  repeat' split
  all_goals first|rfl|(exfalso;omega)|(exfalso;simp at *;omega)
theorem Gu{k r t p m n s fr:Int}{d:List Int}:Bw (k,r,(t,p,m,n,s),fr,d)=bif fe (k,r,(t,p,m,n,s),fr,d) then 0 else 50:=by
 have hc:ai.c .neq (ai.k xY ((t,p,m,n,s),8)) 0=!dN (t,p,m,n,s):=by
  rw[show ai.k xY ((t,p,m,n,s),8)=bif dN (t,p,m,n,s) then 0 else 40 from pL (t,p,m,n,s)];cases dN (t,p,m,n,s)<;>rfl
 have hl:ai.l d=(d.length:Int):=rfl
 have hiff:=iW (k:=k) (r:=r) (t:=t) (p:=p) (m:=m) (n:=n) (s:=s) (fr:=fr) (d:=d)
 have hq:(t==t&&(p==0&&(m==0&&(n==0&&(s==0&&true)))))=decide (p=0∧m=0∧n=0∧s=0):=by
  rw[Bool.eq_iff_iff];simp
 simp only[Bw,t58,LT.val,hc,hl,aR,aX,al,aF,aD,aK,aQ,c_,hq,Bool.cond_eq_ite,hiff,Bool.and_eq_true,Bool.not_eq_true',decide_eq_true_eq,decide_eq_false_iff_not,beq_iff_eq,bne_iff_ne,ne_eq]
 cases dN (t,p,m,n,s)
 ·simp
 ·simp only[Bool.true_eq_false,if_false,true_and,Bool.not_true,Bool.false_eq_true,ite_false,reduceIte]
  generalize d.length=len
  clear hiff hq hc hl
  by_cases k1:k=1
  ·subst k1
   simp only[show ¬((1:Int)<1) by decide,show ¬((4:Int)<1) by decide,not_true_eq_false,true_and,if_true,if_false]
   repeat' split
   all_goals first|rfl|(exfalso;omega)
  ·by_cases k3:k=3
   ·subst k3
    simp only[show ¬((3:Int)<1) by decide,show ¬((4:Int)<3) by decide,k1,true_and,false_and,false_or,not_false_eq_true,if_true,if_false]
    repeat' split
    all_goals first|rfl|(exfalso;omega)
   ·simp only[k1,k3,true_and,false_and,false_or,not_false_eq_true,if_true,if_false]
    repeat' split
    all_goals first|rfl|(exfalso;omega)
theorem xP{k d:Int}:kz (k,d)=zM (k,d)∧wL (k,d)=zM (k,d):=by
 have hm:0≤d∧d≤8→∀c:Int,c=29∨c=79→ai.b .add .i64 c (ai.b .mul .i64 8 d)=c+8*d:=by
  intro h c hc
  rw[lQ,gh (by omega) (by omega),dn,gh (by omega) (by omega)]
 constructor
 ·simp only[kz,t56,LT.val,aR,al,aD,Bool.cond_eq_ite,decide_eq_true_eq,beq_iff_eq,zM]
  by_cases h:0≤d∧d≤8
  ·rw[hm h 29 (.inl rfl),hm h 79 (.inr rfl),if_neg (show ¬d<0 by omega),if_neg (show ¬8<d by omega),if_pos h]
   repeat' split
   all_goals first|rfl|(exfalso;omega)
  ·rw[if_neg h]
   by_cases h1:d<0
   ·rw[if_pos h1]
   ·rw[if_neg h1,if_pos (show 8<d by omega)]
 ·simp only[wL,t59,LT.val,aR,al,aD,Bool.cond_eq_ite,decide_eq_true_eq,beq_iff_eq,zM]
  by_cases h:0≤d∧d≤8
  ·rw[hm h 29 (.inl rfl),hm h 79 (.inr rfl),if_neg (show ¬d<0 by omega),if_neg (show ¬8<d by omega),if_pos h]
   repeat' split
   all_goals first|rfl|(exfalso;omega)
  ·rw[if_neg h]
   by_cases h1:d<0
   ·rw[if_pos h1]
   ·rw[if_neg h1,if_pos (show 8<d by omega)]
open Go.Ev.Pl
def Gm(A:bg)(n:Int)(kind:Int):LT Bool Empty:=.br (A.c .eql kind 1) (.ret (A.c .eql n 40)) (.br (A.c .eql kind 3) (.ret (A.c .eql n 54)) (.br (A.c .eql kind 2) (.br (A.c .geq (A.b .sub .i64 n 29) 0) (.br (A.c .leq (A.b .sub .i64 n 29) 64) (.ret (A.c .eql (A.b .rem .i64 (A.b .sub .i64 n 29) 8) 0)) (.ret false)) (.ret false)) (.br (A.c .geq (A.b .sub .i64 n 79) 0) (.br (A.c .leq (A.b .sub .i64 n 79) 64) (.ret (A.c .eql (A.b .rem .i64 (A.b .sub .i64 n 79) 8) 0)) (.ret false)) (.ret false))))
def iw:(Int×Int)→Bool:=fun(n,kind)=>(Gm ai n kind).val (Ty.da [.bool])
def MV:aB:=⟨[yI,yI], [.bool],(@tt (Int×Int)),iw⟩
theorem P_:Sd 232 MV:=aJ ar cO true 54 [] (fun A (n,kind)=>Gm A n kind) (fc Tryz.func232 fz) sz (fun((n,kind):Int×Int) hp h=>by
 show(Gm ai n kind).pre=true
 simp[Gm,LT.pre,ap,dI])
def Ea(A:bg)(bN:Int)(bB:List Int)(kind:Int)(unsentN:Int)(unsentB:List Int):LT ((Int×List Int)×(Int×List Int)×Int) Empty:=.br (A.c .neq kind 4) (.need (A.k (@tt ((Int×List Int)×(Int×List Int))) ((bN,bB),unsentN,unsentB)) (.br (A.c .neq (A.k cH ((bN,bB),unsentN,unsentB)).2 0) (.ret ((A.k cH ((bN,bB),unsentN,unsentB)).1,(0,([]:List Int)),(A.k cH ((bN,bB),unsentN,unsentB)).2)) (.br (A.c .neq kind 3) (.ret ((A.k cH ((bN,bB),unsentN,unsentB)).1,(0,([]:List Int)),(A.k cH ((bN,bB),unsentN,unsentB)).2)) (.need (A.k (@tt ((Int×List Int)×Int×Int)) ((A.k cH ((bN,bB),unsentN,unsentB)).1,(A.b .sub .i64 (A.k cH ((bN,bB),unsentN,unsentB)).1.1 24),(A.k cH ((bN,bB),unsentN,unsentB)).1.1)) (.ret ((A.k cH ((bN,bB),unsentN,unsentB)).1,(A.k bR ((A.k cH ((bN,bB),unsentN,unsentB)).1,(A.b .sub .i64 (A.k cH ((bN,bB),unsentN,unsentB)).1.1 24),(A.k cH ((bN,bB),unsentN,unsentB)).1.1)))))))) (.need (A.k (@tt ((Int×List Int)×Int×Int)) ((bN,bB),0,55)) (.br (A.c .neq (A.k bR ((bN,bB),0,55)).2 0) (.ret ((0,([]:List Int)),(0,([]:List Int)),(A.k bR ((bN,bB),0,55)).2)) (.need (A.k (@tt ((Int×List Int)×(Int×List Int))) ((A.k bR ((bN,bB),0,55)).1,0,([]:List Int))) (.br (A.c .neq (A.k cH ((A.k bR ((bN,bB),0,55)).1,0,([]:List Int))).2 0) (.ret ((0,([]:List Int)),(0,([]:List Int)),(A.k cH ((A.k bR ((bN,bB),0,55)).1,0,([]:List Int))).2)) (.need (A.k (@tt ((Int×List Int)×Int×Int)) ((A.k cH ((A.k bR ((bN,bB),0,55)).1,0,([]:List Int))).1,(A.b .sub .i64 (A.k cH ((A.k bR ((bN,bB),0,55)).1,0,([]:List Int))).1.1 24),(A.k cH ((A.k bR ((bN,bB),0,55)).1,0,([]:List Int))).1.1)) (.br (A.c .neq (A.k bR ((A.k cH ((A.k bR ((bN,bB),0,55)).1,0,([]:List Int))).1,(A.b .sub .i64 (A.k cH ((A.k bR ((bN,bB),0,55)).1,0,([]:List Int))).1.1 24),(A.k cH ((A.k bR ((bN,bB),0,55)).1,0,([]:List Int))).1.1)).2 0) (.ret ((0,([]:List Int)),(0,([]:List Int)),(A.k bR ((A.k cH ((A.k bR ((bN,bB),0,55)).1,0,([]:List Int))).1,(A.b .sub .i64 (A.k cH ((A.k bR ((bN,bB),0,55)).1,0,([]:List Int))).1.1 24),(A.k cH ((A.k bR ((bN,bB),0,55)).1,0,([]:List Int))).1.1)).2)) (.need (A.k (@tt ((Int×List Int)×(Int×List Int))) ((bN,bB),(A.k bR ((A.k cH ((A.k bR ((bN,bB),0,55)).1,0,([]:List Int))).1,(A.b .sub .i64 (A.k cH ((A.k bR ((bN,bB),0,55)).1,0,([]:List Int))).1.1 24),(A.k cH ((A.k bR ((bN,bB),0,55)).1,0,([]:List Int))).1.1)).1)) (.ret ((A.k cH ((bN,bB),(A.k bR ((A.k cH ((A.k bR ((bN,bB),0,55)).1,0,([]:List Int))).1,(A.b .sub .i64 (A.k cH ((A.k bR ((bN,bB),0,55)).1,0,([]:List Int))).1.1 24),(A.k cH ((A.k bR ((bN,bB),0,55)).1,0,([]:List Int))).1.1)).1)).1,(A.k bR ((A.k cH ((A.k bR ((bN,bB),0,55)).1,0,([]:List Int))).1,(A.b .sub .i64 (A.k cH ((A.k bR ((bN,bB),0,55)).1,0,([]:List Int))).1.1 24),(A.k cH ((A.k bR ((bN,bB),0,55)).1,0,([]:List Int))).1.1)).1,(A.k cH ((bN,bB),(A.k bR ((A.k cH ((A.k bR ((bN,bB),0,55)).1,0,([]:List Int))).1,(A.b .sub .i64 (A.k cH ((A.k bR ((bN,bB),0,55)).1,0,([]:List Int))).1.1 24),(A.k cH ((A.k bR ((bN,bB),0,55)).1,0,([]:List Int))).1.1)).1)).2)))))))))
def aW:((Int×List Int)×Int×(Int×List Int))→((Int×List Int)×(Int×List Int)×Int):=fun((bN,bB),kind,unsentN,unsentB)=>(Ea ai bN bB kind unsentN unsentB).val (Ty.da [(.struct [yI,yB]),(.struct [yI,yB]),yI])
def OY:aB:=⟨[(.struct [yI,yB]),yI,(.struct [yI,yB])], [(.struct [yI,yB]),(.struct [yI,yB]),yI],(@tt ((Int×List Int)×Int×(Int×List Int))),aW⟩
theorem P9:Sd 234 OY:=aJ ar cO true 110 [] (fun A ((bN,bB),kind,unsentN,unsentB)=>Ea A bN bB kind unsentN unsentB) (fc Tryz.func234 fz) (sc Qa (sc II sz)) (fun(((bN,bB),kind,unsentN,unsentB):(Int×List Int)×Int×(Int×List Int)) hp h=>by
 show(Ea ai bN bB kind unsentN unsentB).pre=true
 simp[Ea,LT.pre,ap,dI])
theorem Bq{n:Nat}(hn:n≤4096):iw ((n:Int),1)=ed n 1∧iw ((n:Int),2)=ed n 2∧iw ((n:Int),3)=ed n 3∧iw ((n:Int),4)=ed n 4:=by
 have key:∀a:Nat,a≤100→(bif ai.c .geq (ai.b .sub .i64 (n:Int) (a:Int)) 0 then(bif ai.c .leq (ai.b .sub .i64 (n:Int) (a:Int)) 64 then ai.c .eql (ai.b .rem .i64 (ai.b .sub .i64 (n:Int) (a:Int)) 8) 0 else false) else false)=(decide (a≤n)&&decide (n≤a+64)&&decide ((n-a)%8=0)):=by
  intro a ha
  rw[bH,gh (by omega) (by omega),aK,aF,aR,wz]
  by_cases h1:a≤n
  ·rw[Int.tmod_eq_emod_of_nonneg (by omega),show decide ((0:Int)≤(n:Int)-(a:Int))=true from by simp;omega,cond_true,show decide (a≤n)=true from by simpa using h1,Bool.true_and]
   by_cases h2:n≤a+64
   ·rw[show decide ((n:Int)-(a:Int)≤64)=true from by simp;omega,cond_true,show decide (n≤a+64)=true from by simpa using h2,Bool.true_and,Bool.eq_iff_iff]
    simp only[beq_iff_eq,decide_eq_true_eq]
    omega
   ·rw[show decide ((n:Int)-(a:Int)≤64)=false from by simp;omega,cond_false,show decide (n≤a+64)=false from by simpa using h2,Bool.false_and]
  ·rw[show decide ((0:Int)≤(n:Int)-(a:Int))=false from by simp;omega,cond_false,show decide (a≤n)=false from by simpa using h1,Bool.false_and,Bool.false_and]
 refine⟨?_,?_,?_,?_⟩
 ·show((n:Int)==40)=(n==40)
  rw[Bool.eq_iff_iff];simp;omega
 ·refine(key 29 (by decide)).trans ?_
  show _=(decide (29≤n)&&decide (n≤93)&&(n%8==5))
  rw[Bool.eq_iff_iff];simp;omega
 ·show((n:Int)==54)=(n==54)
  rw[Bool.eq_iff_iff];simp;omega
 ·refine(key 79 (by decide)).trans ?_
  show _=(decide (79≤n)&&decide (n≤143)&&(n%8==7))
  rw[Bool.eq_iff_iff];simp;omega
theorem uQ{n m k:Int}{b u:List Int}(hk:k=1∨k=2):aW ((n,b),k,(m,u))=((cy ((n,b),(m,u))).1,zB,(cy ((n,b),(m,u))).2):=by
 have h1:ai.c .neq k 4=true:=dX (by omega)
 have h3:ai.c .neq k 3=true:=dX (by omega)
 simp only[aW,Ea,LT.val,h1,h3,cond_true]
 show(bif _ then _ else _)=_
 cases ai.c .neq (ai.k cH ((n,b),(m,u))).2 0<;>rfl
theorem EY{n m:Int}{b u:List Int}:aW ((n,b),3,(m,u))=bif (cy ((n,b),(m,u))).2 != 0 then((cy ((n,b),(m,u))).1,zB,(cy ((n,b),(m,u))).2) else((cy ((n,b),(m,u))).1,bU ((cy ((n,b),(m,u))).1,ai.b .sub .i64 (cy ((n,b),(m,u))).1.1 24,(cy ((n,b),(m,u))).1.1)):=by kernel_rfl
theorem Cn{n m:Int}{b u:List Int}:aW ((n,b),4,(m,u))=bif (bU ((n,b),0,55)).2 != 0 then(zB,zB,(bU ((n,b),0,55)).2) else
  bif (cy ((bU ((n,b),0,55)).1,zB)).2 != 0 then(zB,zB,(cy ((bU ((n,b),0,55)).1,zB)).2) else
  bif (bU ((cy ((bU ((n,b),0,55)).1,zB)).1,ai.b .sub .i64 (cy ((bU ((n,b),0,55)).1,zB)).1.1 24,(cy ((bU ((n,b),0,55)).1,zB)).1.1)).2 != 0 then(zB,zB,(bU ((cy ((bU ((n,b),0,55)).1,zB)).1,ai.b .sub .i64 (cy ((bU ((n,b),0,55)).1,zB)).1.1 24,(cy ((bU ((n,b),0,55)).1,zB)).1.1)).2) else
  ((cy ((n,b),(bU ((cy ((bU ((n,b),0,55)).1,zB)).1,ai.b .sub .i64 (cy ((bU ((n,b),0,55)).1,zB)).1.1 24,(cy ((bU ((n,b),0,55)).1,zB)).1.1)).1)).1,(bU ((cy ((bU ((n,b),0,55)).1,zB)).1,ai.b .sub .i64 (cy ((bU ((n,b),0,55)).1,zB)).1.1 24,(cy ((bU ((n,b),0,55)).1,zB)).1.1)).1,(cy ((n,b),(bU ((cy ((bU ((n,b),0,55)).1,zB)).1,ai.b .sub .i64 (cy ((bU ((n,b),0,55)).1,zB)).1.1 24,(cy ((bU ((n,b),0,55)).1,zB)).1.1)).1)).2):=by kernel_rfl
theorem sL{l:List Bool}(h1:24≤l.length)(h2:l.length≤4096):bU (bJ l,ai.b .sub .i64 (bJ l).1 24,(bJ l).1)=(bJ (l.drop (l.length-24)),0):=by
 have hb:(bJ l).1=((l.length:Nat):Int):=rfl
 rw[hb,show ai.b .sub .i64 ((l.length:Nat):Int) 24=((l.length-24:Nat):Int) from ko (j:=24) h1 (by omega),AU h2 (by omega) (Nat.le_refl _),List.take_length]
theorem Bo{n:Nat}{b:List Int}(hok:bq ((n:Int),b)=true)(hn:n=54):aW (((n:Int),b),3,(0, []))=bif over 0 (unpack n b) != 0 then(zB,zB,21) else(bJ ((unpack n b).take 30),bJ (((unpack n b).drop 6).take 24),0):=by
 have hl:(bC ((n:Int),b)).length=n:=by rw[fQ];rfl
 have e:=kF (u:=(0, [])) hok rfl (by omega)
 rw[hl,show over 0 (bC ((0:Int),([]:List Int)))=0 from rfl,show n-24=30 from by omega,show bC ((n:Int),b)=unpack n b from rfl] at e
 have h30:((unpack n b).take 30).length=30:=by rw[List.length_take,aP];omega
 have e2:=sL (l:=(unpack n b).take 30) (by omega) (by omega)
 rw[h30,List.drop_take,show 30-24=6 from rfl,show 30-6=24 from rfl] at e2
 rw[EY,e]
 cases over 0 (unpack n b) != 0
 ·simp only[cond_false]
  rw[e2];rfl
 ·rfl
theorem AS{n:Nat}{b:List Int}(hok:bq ((n:Int),b)=true)(hn:79≤n)(hn2:n≤143):aW (((n:Int),b),4,(0, []))=bif over 0 ((unpack n b).take 55) != 0 then(zB,zB,21) else bif over (over 0 (((unpack n b).drop 7).take 24)) (unpack n b) != 0 then(zB,bJ (((unpack n b).drop 7).take 24),21) else(bJ ((unpack n b).take (n-24)),bJ (((unpack n b).drop 7).take 24),0):=by
 have hl:(bC ((n:Int),b)).length=n:=by rw[fQ];rfl
 have h55:((unpack n b).take 55).length=55:=by rw[List.length_take,aP];omega
 have h31:((unpack n b).take 31).length=31:=by rw[List.length_take,aP];omega
 have e1:bU (((n:Int),b),0,55)=(bJ ((unpack n b).take 55),0):=by
  rw[bU]
  simp only[hok]
  rw[show decide ((n:Int)<55)=false from by simp;omega]
  rfl
 have e2:cy (bJ ((unpack n b).take 55),zB)=bif over 0 ((unpack n b).take 55) != 0 then(zB,21) else(bJ ((unpack n b).take 31),0):=by
  have hk:bq (bJ ((unpack n b).take 55))=true:=gG (by omega)
  have:=kF (n:=(bJ ((unpack n b).take 55)).1) (b:=(bJ ((unpack n b).take 55)).2) (u:=zB) hk rfl (by rw[show((bJ ((unpack n b).take 55)).1,(bJ ((unpack n b).take 55)).2)=bJ ((unpack n b).take 55) from rfl,fK];omega)
  rw[show((bJ ((unpack n b).take 55)).1,(bJ ((unpack n b).take 55)).2)=bJ ((unpack n b).take 55) from rfl,fK,h55,List.take_take,show over 0 (bC zB)=0 from rfl] at this
  exact this
 have e3:bU (bJ ((unpack n b).take 31),ai.b .sub .i64 (bJ ((unpack n b).take 31)).1 24,(bJ ((unpack n b).take 31)).1)=(bJ (((unpack n b).drop 7).take 24),0):=by
  have:=sL (l:=(unpack n b).take 31) (by omega) (by omega)
  rw[h31,List.drop_take] at this
  exact this
 have e4:cy (((n:Int),b),bJ (((unpack n b).drop 7).take 24))=bif over (over 0 (((unpack n b).drop 7).take 24)) (unpack n b) != 0 then(zB,21) else(bJ ((unpack n b).take (n-24)),0):=by
  rw[kF hok (gG (by rw[List.length_take];omega)) (by omega),hl,fK];rfl
 rw[Cn,e1]
 simp only[e2]
 cases over 0 ((unpack n b).take 55) != 0
 ·simp only[cond_false,e3]
  rw[e4]
  cases over (over 0 (((unpack n b).drop 7).take 24)) (unpack n b) != 0<;>rfl
 ·rfl
end Go.Ev.M
