/-
  PROVED: what the functions of the packages crc, cstate, metronomeref02 and metronomeref04 compute, and some of frame and metronomeref05. Conditions: none.
-/
import Derived.Test.YtjceiokllpmnkaaGreatFa
namespace Go.Ev.M
open Go.Proofs
set_option maxRecDepth 100000
set_option linter.unusedVariables false
set_option linter.unusedSimpArgs false
open Go.Ev.Pl
def CV(A:bK)(r:Int):LT Int Empty:=.br (A.c .eql (A.b .shr .u32 r 23) 1) (.ret (A.b .xor .u32 (A.b .and .u32 (A.b .shl .u32 r 1) 16777215) 6122955)) (.ret (A.b .and .u32 (A.b .shl .u32 r 1) 16777215))
def vk:Int→Int:=fun r=>(CV ai r).val (Ty.cq [(.int .u32)])
def RF:aG:=⟨[(.int .u32)], [(.int .u32)],(@tt Int),vk⟩
theorem I8:Sd 351 RF:=aO aA dY true 35 [] (fun A r=>CV A r) (fc Tryz.func351 fz) sz (fun(r:Int) hp h=>by
 show(CV ai r).pre=true
 simp[CV,LT.pre])
theorem Iz{a:Int}(h1:0≤a)(h2:a≤4294967295):IntKind.u32.wrap a=a:=IntWalk.u32_in a ⟨h1,h2⟩
theorem Bi{a b:Nat}(ha:a<4294967296)(hb:b<4294967296):ai.b .xor .u32 (a:Int) (b:Int)=((a ^^^ b:Nat):Int):=by
 show IntKind.u32.wrap ((BitVec.ofInt 32 (a:Int) ^^^ BitVec.ofInt 32 (b:Int)).toNat:Int)=_
 rw[BitVec.ofInt_natCast,BitVec.ofInt_natCast,BitVec.toNat_xor,BitVec.toNat_ofNat,BitVec.toNat_ofNat,Nat.mod_eq_of_lt ha,Nat.mod_eq_of_lt hb]
 have:a ^^^ b<2^32:=Nat.xor_lt_two_pow ha hb
 rw[Iz (by omega) (by omega)]
theorem Jw{a:Nat}(ha:a<4294967296):ai.b .and .u32 (a:Int) 16777215=((a%16777216:Nat):Int):=by
 show IntKind.u32.wrap ((BitVec.ofInt 32 (a:Int) &&& BitVec.ofInt 32 ((16777215:Nat):Int)).toNat:Int)=_
 rw[BitVec.ofInt_natCast,BitVec.ofInt_natCast,BitVec.toNat_and,BitVec.toNat_ofNat,BitVec.toNat_ofNat,Nat.mod_eq_of_lt ha,show 16777215%2^32=2^24-1 from rfl,Nat.and_two_pow_sub_one_eq_mod,Iz (by omega) (by omega)]
theorem Dt{a k:Nat}(hk:k≤32)(h:a*2^k<4294967296):ai.b .shl .u32 (a:Int) (k:Int)=((a*2^k:Nat):Int):=by
 show IntKind.u32.wrap ((a:Int)*2^min (k:Int).toNat 32)=_
 rw[Int.toNat_natCast,Nat.min_eq_left hk,show(a:Int)*2^k=((a*2^k:Nat):Int) from by simp,Iz (by omega) (by omega)]
theorem EI{r:Nat}(hr:r<16777216):vk (r:Int)=((step1 r false:Nat):Int):=by
 simp only[vk,CV,LT.val]
 have h1:ai.b .shr .u32 (r:Int) 23=((r/2^23:Nat):Int):=Jq (n:=23) (by omega) (by decide)
 have h2:ai.b .and .u32 (ai.b .shl .u32 (r:Int) 1) 16777215=((2*r%16777216:Nat):Int):=by
  have h3:ai.b .shl .u32 (r:Int) 1=((r*2^1:Nat):Int):=Dt (k:=1) (by decide) (by omega)
  rw[h3,Jw (by omega),Nat.pow_one,Nat.mul_comm]
 rw[h1,h2,step1,Bool.bne_false]
 have h4:ai.c .eql ((r/2^23:Nat):Int) 1=decide (8388608≤r):=by
  rw[aC,Bool.eq_iff_iff,decide_eq_true_eq,beq_iff_eq]
  omega
 rw[h4]
 cases decide (8388608≤r)
 ·rfl
 ·have:ai.b .xor .u32 ((2*r%16777216:Nat):Int) 6122955=((2*r%16777216 ^^^ 6122955:Nat):Int):=Bi (b:=6122955) (by omega) (by decide)
  rw[cond_true,cond_true,this]
structure J0 where
 (a0 a1 a2 a3 a4 a5 a6 a7 a8 a9 fw jK a12 wi pq pu a16 a17 qE kZ a20 a21 a22 a23 a24 a25 a26 a27 a28 a29 a30 a31 a32:Int)
structure Kw where
 (b0 b2 b4 b5 b6 b7 b8 b9 b10 b11 b12 b13 vW wW cZ kh zd kl lz lg lm qd qj qi nS lC lu vK vQ vM vT vA vJ vh:Int)
inductive F3 where
 | c0 (p:J0)
 | c1 (p:Kw) (b1:Int) (b3:Int)
noncomputable def Kh:F3→ei
 | .c0 p=>⟨[⟨344,20,(en [(0,.ptr 0 0),(1,.ptr 1 0),(4,vi p.a0)]),[.inLoop (cw Tryz.f344 [1,1,0,1,0,0]),.inBlock 0,.code (cw Tryz.f344 [1,1,1])],[],none⟩],[.flat false [.int .u32 false p.a1,.int .u32 false p.a2,.int .u32 false p.a3,.int .u32 false p.a4,.int .u32 false p.a5,.int .u32 false p.a6,.int .u32 false p.a7,.int .u32 false p.a8,.int .u32 false p.a9,.int .u32 false p.fw,.int .u32 false p.jK,.int .u32 false p.a12,.int .u32 false p.wi,.int .u32 false p.pq,.int .u32 false p.pu,.int .u32 false p.a16],.flat false [.int .u32 false p.a17,.int .u32 false p.qE,.int .u32 false p.kZ,.int .u32 false p.a20,.int .u32 false p.a21,.int .u32 false p.a22,.int .u32 false p.a23,.int .u32 false p.a24,.int .u32 false p.a25,.int .u32 false p.a26,.int .u32 false p.a27,.int .u32 false p.a28,.int .u32 false p.a29,.int .u32 false p.a30,.int .u32 false p.a31,.int .u32 false p.a32],.dead]⟩
 | .c1 p b1 b3=>⟨[⟨344,20,(en [(0,.ptr 0 0),(1,.ptr 1 0),(2,vi p.b0),(3,.int .u32 false b1),(4,vi p.b2),(10,vi b3)]),[.inLoop (cw Tryz.f344 [1,1,0,1,0,0,1,1,0,0,1,1,0,1,0,0]),.inBlock 2,.code (cw Tryz.f344 [1,1,0,1,0,0,1,1,0,0,1,1,1]),.inBlock 1,.code (cw Tryz.f344 [1,1,0,1,0,0,1,1,1]),.inLoop (cw Tryz.f344 [1,1,0,1,0,0]),.inBlock 0,.code (cw Tryz.f344 [1,1,1])],[],none⟩],[.flat false [.int .u32 false p.b4,.int .u32 false p.b5,.int .u32 false p.b6,.int .u32 false p.b7,.int .u32 false p.b8,.int .u32 false p.b9,.int .u32 false p.b10,.int .u32 false p.b11,.int .u32 false p.b12,.int .u32 false p.b13,.int .u32 false p.vW,.int .u32 false p.wW,.int .u32 false p.cZ,.int .u32 false p.kh,.int .u32 false p.zd,.int .u32 false p.kl],.flat false [.int .u32 false p.lz,.int .u32 false p.lg,.int .u32 false p.lm,.int .u32 false p.qd,.int .u32 false p.qj,.int .u32 false p.qi,.int .u32 false p.nS,.int .u32 false p.lC,.int .u32 false p.lu,.int .u32 false p.vK,.int .u32 false p.vQ,.int .u32 false p.vM,.int .u32 false p.vT,.int .u32 false p.vA,.int .u32 false p.vJ,.int .u32 false p.vh],.dead]⟩
def Nf(A:bK):LT (List Int) F3:=.more (.c0 ⟨0,0,0,0,0,0,0,0,0,0,0,0,0,0,0,0,0,0,0,0,0,0,0,0,0,0,0,0,0,0,0,0,0⟩)
def M8(A:bK):F3→LT (List Int) F3
 | .c0 p=>.br (A.c .lss p.a0 16) (.more (.c1 ⟨p.a0,p.a0,p.a1,p.a2,p.a3,p.a4,p.a5,p.a6,p.a7,p.a8,p.a9,p.fw,p.jK,p.a12,p.wi,p.pq,p.pu,p.a16,p.a17,p.qE,p.kZ,p.a20,p.a21,p.a22,p.a23,p.a24,p.a25,p.a26,p.a27,p.a28,p.a29,p.a30,p.a31,p.a32⟩ (A.b .shl .u32 (A.v .u32 p.a0) 20) 0)) (.ret [p.a17,p.qE,p.kZ,p.a20,p.a21,p.a22,p.a23,p.a24,p.a25,p.a26,p.a27,p.a28,p.a29,p.a30,p.a31,p.a32])
 | .c1 p b1 b3=>.br (A.c .lss b3 4) (.need (A.k (@tt Int) b1) (.more (.c1 p (A.k vk b1) (A.b .add .i64 b3 1)))) (.need (A.and (A.c .leq 0 p.b0) (A.c .lss p.b0 16)) (.more (.c0 ⟨(A.b .add .i64 p.b2 1),p.b4,p.b5,p.b6,p.b7,p.b8,p.b9,p.b10,p.b11,p.b12,p.b13,p.vW,p.wW,p.cZ,p.kh,p.zd,p.kl,(A.n (.int .u32) (A.set [p.lz,p.lg,p.lm,p.qd,p.qj,p.qi,p.nS,p.lC,p.lu,p.vK,p.vQ,p.vM,p.vT,p.vA,p.vJ,p.vh] p.b0 b1) 0:Int),(A.n (.int .u32) (A.set [p.lz,p.lg,p.lm,p.qd,p.qj,p.qi,p.nS,p.lC,p.lu,p.vK,p.vQ,p.vM,p.vT,p.vA,p.vJ,p.vh] p.b0 b1) 1:Int),(A.n (.int .u32) (A.set [p.lz,p.lg,p.lm,p.qd,p.qj,p.qi,p.nS,p.lC,p.lu,p.vK,p.vQ,p.vM,p.vT,p.vA,p.vJ,p.vh] p.b0 b1) 2:Int),(A.n (.int .u32) (A.set [p.lz,p.lg,p.lm,p.qd,p.qj,p.qi,p.nS,p.lC,p.lu,p.vK,p.vQ,p.vM,p.vT,p.vA,p.vJ,p.vh] p.b0 b1) 3:Int),(A.n (.int .u32) (A.set [p.lz,p.lg,p.lm,p.qd,p.qj,p.qi,p.nS,p.lC,p.lu,p.vK,p.vQ,p.vM,p.vT,p.vA,p.vJ,p.vh] p.b0 b1) 4:Int),(A.n (.int .u32) (A.set [p.lz,p.lg,p.lm,p.qd,p.qj,p.qi,p.nS,p.lC,p.lu,p.vK,p.vQ,p.vM,p.vT,p.vA,p.vJ,p.vh] p.b0 b1) 5:Int),(A.n (.int .u32) (A.set [p.lz,p.lg,p.lm,p.qd,p.qj,p.qi,p.nS,p.lC,p.lu,p.vK,p.vQ,p.vM,p.vT,p.vA,p.vJ,p.vh] p.b0 b1) 6:Int),(A.n (.int .u32) (A.set [p.lz,p.lg,p.lm,p.qd,p.qj,p.qi,p.nS,p.lC,p.lu,p.vK,p.vQ,p.vM,p.vT,p.vA,p.vJ,p.vh] p.b0 b1) 7:Int),(A.n (.int .u32) (A.set [p.lz,p.lg,p.lm,p.qd,p.qj,p.qi,p.nS,p.lC,p.lu,p.vK,p.vQ,p.vM,p.vT,p.vA,p.vJ,p.vh] p.b0 b1) 8:Int),(A.n (.int .u32) (A.set [p.lz,p.lg,p.lm,p.qd,p.qj,p.qi,p.nS,p.lC,p.lu,p.vK,p.vQ,p.vM,p.vT,p.vA,p.vJ,p.vh] p.b0 b1) 9:Int),(A.n (.int .u32) (A.set [p.lz,p.lg,p.lm,p.qd,p.qj,p.qi,p.nS,p.lC,p.lu,p.vK,p.vQ,p.vM,p.vT,p.vA,p.vJ,p.vh] p.b0 b1) 10:Int),(A.n (.int .u32) (A.set [p.lz,p.lg,p.lm,p.qd,p.qj,p.qi,p.nS,p.lC,p.lu,p.vK,p.vQ,p.vM,p.vT,p.vA,p.vJ,p.vh] p.b0 b1) 11:Int),(A.n (.int .u32) (A.set [p.lz,p.lg,p.lm,p.qd,p.qj,p.qi,p.nS,p.lC,p.lu,p.vK,p.vQ,p.vM,p.vT,p.vA,p.vJ,p.vh] p.b0 b1) 12:Int),(A.n (.int .u32) (A.set [p.lz,p.lg,p.lm,p.qd,p.qj,p.qi,p.nS,p.lC,p.lu,p.vK,p.vQ,p.vM,p.vT,p.vA,p.vJ,p.vh] p.b0 b1) 13:Int),(A.n (.int .u32) (A.set [p.lz,p.lg,p.lm,p.qd,p.qj,p.qi,p.nS,p.lC,p.lu,p.vK,p.vQ,p.vM,p.vT,p.vA,p.vJ,p.vh] p.b0 b1) 14:Int),(A.n (.int .u32) (A.set [p.lz,p.lg,p.lm,p.qd,p.qj,p.qi,p.nS,p.lC,p.lu,p.vK,p.vQ,p.vM,p.vT,p.vA,p.vJ,p.vh] p.b0 b1) 15:Int)⟩)))
def goT{R Y:Type}(step:Y→LT R Y):Nat→LT R Y→Option R
 | 0,_=>none
 | _+1,.ret r=>some r
 | n+1,.more y=>goT step n (step y)
 | n+1,.br b t e=>bif b then goT step n t else goT step n e
 | n+1,.need b t=>bif b then goT step n t else none
 | _+1,_=>none
theorem Fs{R Y:Type}{step:Y→LT R Y}:∀{n:Nat} {t:LT R Y} {r:R},goT step n t=some r→aK step t r:=by
 intro n
 induction n with
 | zero=>intro t r h;cases h
 | succ n ih=>
   intro t r h
   cases t with
   | ret x=>cases h;exact .ret _
   | more y=>exact .more (ih h)
   | br b t e=>
     rw[goT] at h
     cases b
     ·exact(aj rfl).2 (ih h)
     ·exact(ak rfl).2 (ih h)
   | need b t=>
     rw[goT] at h
     cases b
     ·cases h
     ·exact af.2 ⟨rfl,ih h⟩
   | eqs p t=>cases h
   | bad m s=>cases h
def Rn:List Int:=[0,6122955,12245910,15185501,2677479,7714604,9568625,13593786,5354958,841733,15429208,11928467,7958313,2360034,12825791,10410356]
theorem C6:∀i:Fin 16,Rn.getD i.val 0=((yT.getD i.val 0:Nat):Int):=by decide +kernel
theorem Es:∀i:Fin 16,yT.getD i.val 0<16777216:=by decide +kernel
theorem KD:aK (M8 ai) (Nf ai) Rn:=Fs (n:=400) (by kernel_rfl)
def iy:Unit→(List Int):=fun _=>[0,6122955,12245910,15185501,2677479,7714604,9568625,13593786,5354958,841733,15429208,11928467,7958313,2360034,12825791,10410356]
def NB:aG:=⟨[], [(.arr 16 (.int .u32))],(@tt Unit),iy⟩
theorem PE:Sd 344 NB:=aQ aA dY true 21 [⟨344,3, [[0,1,4]]⟩,⟨344,7, [[0,1,2,3,4,10]]⟩] [] (fun A _=>Nf A) M8 Kh (fc Tryz.func344 fz) (sc I8 sz) (fun A y=>match y with |.c0 p=>⟨34,by kernel_rfl,by kernel_rfl⟩|.c1 p b1 b3=>⟨25,by kernel_rfl,by kernel_rfl⟩) fun _ hp h=>KD
open Go.Ev.Pl
open Go.Ev.Pl
structure sW where
 (a0:Int) (a1:List (Int×List Int)) (a2 a3 a4 a5 a6 a7 a8 a9 fw jK a12 wi pq pu a16 a17 qE kZ:Int)
structure zG where
 (b2:List (Int×List Int)) (b3 b4 b5 b6 b7 b8 b9 b10 b11 b12 b13 vW wW cZ kh zd kl lz lg:Int) (lm:List Int)
structure zj where
 (c2:List (Int×List Int)) (c3 c4 c5:Int) (c6:List Int) (c7 c8 c9 c10 c11 c12 c13 c14 iQ c16 C8 ES c19 c20 c21 IN:Int)
inductive BQ where
 | c0 (p:sW)
 | c1 (p:zG) (b0:Int) (b1:Int)
 | c2 (p:zj) (c0:Int) (c1:Int)
noncomputable def LJ:BQ→ei
 | .c0 p=>⟨[⟨323,26,(en [(4,.ptr 0 0),(5,.int .u32 false p.a0),(10,.sl (.struct [yI,yB]) p.a1),(11,vi p.a2),(12,vi p.a3)]),[.inLoop (cw Tryz.f323 [1,1,1,0,1,0,0]),.inBlock 0,.code (cw Tryz.f323 [1,1,1,1])],[],none⟩],[.flat false [.int .u32 false p.a4,.int .u32 false p.a5,.int .u32 false p.a6,.int .u32 false p.a7,.int .u32 false p.a8,.int .u32 false p.a9,.int .u32 false p.fw,.int .u32 false p.jK,.int .u32 false p.a12,.int .u32 false p.wi,.int .u32 false p.pq,.int .u32 false p.pu,.int .u32 false p.a16,.int .u32 false p.a17,.int .u32 false p.qE,.int .u32 false p.kZ],.dead]⟩
 | .c1 p b0 b1=>⟨[⟨345,57,(en [(0,.int .u32 false b0),(2,.ptr 0 0),(4,.ptr 1 0),(7,vi b1)]),[.inLoop (cw Tryz.f345 [1,1,0,0,0]),.inBlock 0,.code (cw Tryz.f345 [1,1,1])],[],none⟩,⟨323,26,(en [(4,.ptr 0 0),(10,.sl (.struct [yI,yB]) p.b2),(11,vi p.b3),(12,vi p.b4)]),[.ops (ow Tryz.f323 [1,1,1,0,1,0,0,1,1,0,0,1,1]) ((ow Tryz.f323 [1,1,1,0,1,0,0,1,1,0,0,1,1]).toList.drop 2),.inBlock 1,.code (cw Tryz.f323 [1,1,1,0,1,0,0,1,1,1]),.inLoop (cw Tryz.f323 [1,1,1,0,1,0,0]),.inBlock 0,.code (cw Tryz.f323 [1,1,1,1])],[],none⟩],[.flat false [.int .u32 false p.b5,.int .u32 false p.b6,.int .u32 false p.b7,.int .u32 false p.b8,.int .u32 false p.b9,.int .u32 false p.b10,.int .u32 false p.b11,.int .u32 false p.b12,.int .u32 false p.b13,.int .u32 false p.vW,.int .u32 false p.wW,.int .u32 false p.cZ,.int .u32 false p.kh,.int .u32 false p.zd,.int .u32 false p.kl,.int .u32 false p.lz],.flat false [vi p.lg,.sl yU p.lm],.dead]⟩
 | .c2 p c0 c1=>⟨[⟨345,57,(en [(0,.int .u32 false c0),(4,.ptr 0 0),(7,vi c1)]),[.inLoop (cw Tryz.f345 [1,1,1,0,0,0]),.inBlock 2,.code (cw Tryz.f345 [1,1,1,1])],[],none⟩,⟨323,26,(en [(4,.ptr 1 0),(10,.sl (.struct [yI,yB]) p.c2),(11,vi p.c3),(12,vi p.c4)]),[.ops (ow Tryz.f323 [1,1,1,0,1,0,0,1,1,0,0,1,1]) ((ow Tryz.f323 [1,1,1,0,1,0,0,1,1,0,0,1,1]).toList.drop 2),.inBlock 1,.code (cw Tryz.f323 [1,1,1,0,1,0,0,1,1,1]),.inLoop (cw Tryz.f323 [1,1,1,0,1,0,0]),.inBlock 0,.code (cw Tryz.f323 [1,1,1,1])],[],none⟩],[.flat false [vi p.c5,.sl yU p.c6],.flat false [.int .u32 false p.c7,.int .u32 false p.c8,.int .u32 false p.c9,.int .u32 false p.c10,.int .u32 false p.c11,.int .u32 false p.c12,.int .u32 false p.c13,.int .u32 false p.c14,.int .u32 false p.iQ,.int .u32 false p.c16,.int .u32 false p.C8,.int .u32 false p.ES,.int .u32 false p.c19,.int .u32 false p.c20,.int .u32 false p.c21,.int .u32 false p.IN],.dead]⟩
def KO(A:bK)(l:List (Int×List Int)):LT (Int×Int) BQ:=.need (A.k (@tt Unit) ()) (.more (.c0 ⟨0,l,(A.l l),0,(A.n (.int .u32) (A.k iy ()) 0:Int),(A.n (.int .u32) (A.k iy ()) 1:Int),(A.n (.int .u32) (A.k iy ()) 2:Int),(A.n (.int .u32) (A.k iy ()) 3:Int),(A.n (.int .u32) (A.k iy ()) 4:Int),(A.n (.int .u32) (A.k iy ()) 5:Int),(A.n (.int .u32) (A.k iy ()) 6:Int),(A.n (.int .u32) (A.k iy ()) 7:Int),(A.n (.int .u32) (A.k iy ()) 8:Int),(A.n (.int .u32) (A.k iy ()) 9:Int),(A.n (.int .u32) (A.k iy ()) 10:Int),(A.n (.int .u32) (A.k iy ()) 11:Int),(A.n (.int .u32) (A.k iy ()) 12:Int),(A.n (.int .u32) (A.k iy ()) 13:Int),(A.n (.int .u32) (A.k iy ()) 14:Int),(A.n (.int .u32) (A.k iy ()) 15:Int)⟩))
def pX(A:bK):BQ→LT (Int×Int) BQ
 | .c0 p=>.br (A.c .lss p.a3 p.a2) (.need (A.and (A.c .leq 0 p.a3) (A.c .lss p.a3 (A.l p.a1))) (.need (A.k (@tt ((Int×List Int))) (A.n (.struct [yI,yB]) p.a1 p.a3:Int×List Int)) (.br (A.c .neq (A.k gZ (A.n (.struct [yI,yB]) p.a1 p.a3:Int×List Int)) 0) (.ret (0,(A.k gZ (A.n (.struct [yI,yB]) p.a1 p.a3:Int×List Int)))) (.more (.c1 ⟨p.a1,p.a2,p.a3,p.a4,p.a5,p.a6,p.a7,p.a8,p.a9,p.fw,p.jK,p.a12,p.wi,p.pq,p.pu,p.a16,p.a17,p.qE,p.kZ,(A.n (.struct [yI,yB]) p.a1 p.a3:Int×List Int).1,(A.n (.struct [yI,yB]) p.a1 p.a3:Int×List Int).2⟩ p.a0 0))))) (.ret (p.a0,0))
 | .c1 p b0 b1=>.br (A.c .leq (A.b .add .i64 b1 4) p.lg) (.need (A.k (@tt ((Int×List Int)×Int×Int)) ((p.lg,p.lm),b1,4)) (.need (A.and (A.c .leq 0 (A.b .xor .u32 (A.b .shr .u32 b0 20) (A.v .u32 (A.k au ((p.lg,p.lm),b1,4)).1))) (A.c .lss (A.b .xor .u32 (A.b .shr .u32 b0 20) (A.v .u32 (A.k au ((p.lg,p.lm),b1,4)).1)) 16)) (.more (.c1 p (A.b .xor .u32 (A.b .and .u32 (A.b .shl .u32 b0 4) 16777215) (A.n (.int .u32) [p.b5,p.b6,p.b7,p.b8,p.b9,p.b10,p.b11,p.b12,p.b13,p.vW,p.wW,p.cZ,p.kh,p.zd,p.kl,p.lz] (A.b .xor .u32 (A.b .shr .u32 b0 20) (A.v .u32 (A.k au ((p.lg,p.lm),b1,4)).1)):Int)) (A.b .add .i64 b1 4))))) (.more (.c2 ⟨p.b2,p.b3,p.b4,p.lg,p.lm,p.b5,p.b6,p.b7,p.b8,p.b9,p.b10,p.b11,p.b12,p.b13,p.vW,p.wW,p.cZ,p.kh,p.zd,p.kl,p.lz⟩ b0 b1))
 | .c2 p c0 c1=>.br (A.c .lss c1 p.c5) (.need (A.k (@tt ((Int×List Int)×Int×Int)) ((p.c5,p.c6),c1,1)) (.need (A.k (@tt Int) (A.b .xor .u32 c0 (A.b .shl .u32 (A.v .u32 (A.k au ((p.c5,p.c6),c1,1)).1) 23))) (.more (.c2 p (A.k vk (A.b .xor .u32 c0 (A.b .shl .u32 (A.v .u32 (A.k au ((p.c5,p.c6),c1,1)).1) 23))) (A.b .add .i64 c1 1))))) (.more (.c0 ⟨c0,p.c2,p.c3,(A.b .add .i64 p.c4 1),p.c7,p.c8,p.c9,p.c10,p.c11,p.c12,p.c13,p.c14,p.iQ,p.c16,p.C8,p.ES,p.c19,p.c20,p.c21,p.IN⟩))
theorem z7{α β γ:Type}(f:α→β→γ){a a':α}{b b':β}(h1:a=a')(h2:b=b'):f a b=f a' b':=by rw[h1,h2]
def W3(p:sW):Prop:=p.a4=0∧p.a5=6122955∧p.a6=12245910∧p.a7=15185501∧p.a8=2677479∧p.a9=7714604∧p.fw=9568625∧p.jK=13593786∧p.a12=5354958∧p.wi=841733∧p.pq=15429208∧p.pu=11928467∧p.a16=7958313∧p.a17=2360034∧p.qE=12825791∧p.kZ=10410356
def Zv(p:zG):Prop:=p.b5=0∧p.b6=6122955∧p.b7=12245910∧p.b8=15185501∧p.b9=2677479∧p.b10=7714604∧p.b11=9568625∧p.b12=13593786∧p.b13=5354958∧p.vW=841733∧p.wW=15429208∧p.cZ=11928467∧p.kh=7958313∧p.zd=2360034∧p.kl=12825791∧p.lz=10410356
def ZM(p:zj):Prop:=p.c7=0∧p.c8=6122955∧p.c9=12245910∧p.c10=15185501∧p.c11=2677479∧p.c12=7714604∧p.c13=9568625∧p.c14=13593786∧p.iQ=5354958∧p.c16=841733∧p.C8=15429208∧p.ES=11928467∧p.c19=7958313∧p.c20=2360034∧p.c21=12825791∧p.IN=10410356
theorem jk{n a w:Nat}{b:List Int}(hok:bS ((n:Int),b)=true)(h:a+w≤n)(hw:w≤64)(hn:n≤4096):ai.k au (((n:Int),b),(a:Int),(w:Int))=(((bO (unpack n b) a w:Nat):Int),0):=by
 rw[al,au,Ci]
 simp only[hok,Bool.not_true,cond_false]
 rw[show decide ((w:Int)<0)=false from by simp,show decide (64<(w:Int))=false from by simp;omega,show decide ((a:Int)<0)=false from by simp,show decide ((n:Int)<(a:Int)+(w:Int))=false from by simp;omega]
 rfl
theorem yz{l:List Bool}{a w:Nat}(h:a+w≤l.length):l.take (a+w)=l.take a++bitsOf (bO l a w) w:=by
 rw[Em h,List.take_add]
theorem Ey{n:Nat}(h:n<4294967296):ai.v .u32 (n:Int)=(n:Int):=by rw[bp,Iz (by omega) (by omega)]
theorem Me{l:List (Int×List Int)}{i n:Nat}{b:List Int}{R:Int×Int}{r0:Nat}(hr0:r0<16777216)(hok:bS ((n:Int),b)=true)(hn:n≤4096)(hll:l.length≤140737488355328)(hi:i<l.length)
  (hnext:∀(p:sW),W3 p→p.a1=l→p.a2=(l.length:Int)→p.a3=((i+1:Nat):Int)→p.a0=((over r0 (unpack n b):Nat):Int)→aK (pX ai) (.more (.c0 p)) R) :
  ∀(j k:Nat) (p:zj),ZM p→p.c2=l→p.c3=(l.length:Int)→p.c4=(i:Int)→p.c5=(n:Int)→p.c6=b→n-k=j→k≤n→aK (pX ai) (.more (.c2 p ((over r0 ((unpack n b).take k):Nat):Int) (k:Int))) R:=by
 intro j
 induction j with
 | zero=>
   intro k p ht h2 h3 h4 h5 h6 hj hk
   have:k=n:=by omega
   subst this
   simp only[ap,pX]
   refine(aj (by rw[h5,aT];simp)).2 ?_
   rw[List.take_of_length_le (by rw[aW];exact Nat.le_refl _)]
   exact hnext _ ht h2 h3 (by show ai.b .add .i64 p.c4 1=_;rw[h4,fe (by omega)]) rfl
 | succ j ih=>
   intro k p ht h2 h3 h4 h5 h6 hj hk
   simp only[ap,pX]
   have hg:ai.k au ((p.c5,p.c6),(k:Int),1)=(((bO (unpack n b) k 1:Nat):Int),0):=by
    rw[h5,h6];exact jk hok (w:=1) (by omega) (by decide) hn
   have hlt:=jS hr0 ((unpack n b).take k)
   have hf:=gm (unpack n b) k 1
   have hts:=yz (l:=unpack n b) (a:=k) (w:=1) (by rw[aW];omega)
   obtain⟨x,hx⟩:∃x:Bool,bO (unpack n b) k 1=x.toNat:=by
    by_cases h0:bO (unpack n b) k 1=0
    ·exact⟨false,h0⟩
    ·exact⟨true,by rw[show true.toNat=1 from rfl];omega⟩
   have hbx:bitsOf x.toNat 1=[x]:=by cases x<;>rfl
   rw[hx,hbx] at hts
   have hsh:ai.b .xor .u32 ((over r0 ((unpack n b).take k):Nat):Int) (ai.b .shl .u32 (ai.v .u32 (ai.k au ((p.c5,p.c6),(k:Int),1)).1) 23)=((over r0 ((unpack n b).take k) ^^^ (x.toNat*8388608):Nat):Int):=by
    rw[hg,hx,Ey (by cases x<;>decide),show ai.b .shl .u32 ((x.toNat:Nat):Int) 23=((x.toNat*2^23:Nat):Int) from Dt (k:=23) (by decide) (by cases x<;>decide)]
    exact Bi (by omega) (by cases x<;>decide)
   have hxl:over r0 ((unpack n b).take k) ^^^ (x.toNat*8388608)<16777216:=Nat.xor_lt_two_pow (n:=24) hlt (by cases x<;>decide)
   have hc:ai.k vk (ai.b .xor .u32 ((over r0 ((unpack n b).take k):Nat):Int) (ai.b .shl .u32 (ai.v .u32 (ai.k au ((p.c5,p.c6),(k:Int),1)).1) 23))=((over r0 ((unpack n b).take (k+1)):Nat):Int):=by
    rw[hsh,al,EI hxl,Ep hlt,hts,gz,fL,oH]
   refine(ak (by rw[h5,aT];simp;omega)).2 (af.2 ⟨rfl,af.2 ⟨rfl,?_⟩⟩)
   exact bD (congrArg LT.more (congr (congrArg (BQ.c2 p) hc) (fe (by omega)))) (ih (k+1) p ht h2 h3 h4 h5 h6 (by omega) (by omega))
theorem LF{l:List (Int×List Int)}{i n:Nat}{b:List Int}{R:Int×Int}{r0:Nat}(hr0:r0<16777216)(hok:bS ((n:Int),b)=true)(hn:n≤4096)(hll:l.length≤140737488355328)(hi:i<l.length)
  (hnext:∀(p:sW),W3 p→p.a1=l→p.a2=(l.length:Int)→p.a3=((i+1:Nat):Int)→p.a0=((over r0 (unpack n b):Nat):Int)→aK (pX ai) (.more (.c0 p)) R) :
  ∀(j k:Nat) (p:zG),Zv p→p.b2=l→p.b3=(l.length:Int)→p.b4=(i:Int)→p.lg=(n:Int)→p.lm=b→(n-k)/4=j→k≤n→aK (pX ai) (.more (.c1 p ((over r0 ((unpack n b).take k):Nat):Int) (k:Int))) R:=by
 intro j
 induction j with
 | zero=>
   intro k p ht h2 h3 h4 h5 h6 hj hk
   simp only[ap,pX]
   refine(aj (by rw[show ai.b .add .i64 (k:Int) 4=((k+4:Nat):Int) from dV (j:=4) (by omega),h5,f_];simp;omega)).2 ?_
   exact Me hr0 hok hn hll hi hnext (n-k) k _ ht h2 h3 h4 h5 h6 rfl hk
 | succ j ih=>
   intro k p ht h2 h3 h4 h5 h6 hj hk
   simp only[ap,pX]
   have hg:ai.k au ((p.lg,p.lm),(k:Int),4)=(((bO (unpack n b) k 4:Nat):Int),0):=by
    rw[h5,h6];exact jk hok (w:=4) (by omega) (by decide) hn
   have hlt:=jS hr0 ((unpack n b).take k)
   have hf:=gm (unpack n b) k 4
   have hts:=yz (l:=unpack n b) (a:=k) (w:=4) (by rw[aW];omega)
   have h4o:=B_ hlt (l:=bitsOf (bO (unpack n b) k 4) 4) (aF _ _)
   rw[wQ,Nat.mod_eq_of_lt hf,←gz,←hts] at h4o
   generalize hr:over r0 ((unpack n b).take k)=r at *
   generalize hv:bO (unpack n b) k 4=v at *
   have hix:ai.b .xor .u32 (ai.b .shr .u32 (r:Int) 20) (ai.v .u32 (ai.k au ((p.lg,p.lm),(k:Int),4)).1)=((r/1048576 ^^^ v:Nat):Int):=by
    rw[hg,Ey (by omega),show ai.b .shr .u32 (r:Int) 20=((r/2^20:Nat):Int) from Jq (n:=20) (by omega) (by decide)]
    exact Bi (by omega) (by omega)
   have hxl:r/1048576 ^^^ v<16:=Cf ⟨r/1048576,by omega⟩ ⟨v,by omega⟩
   have htab:(ai.n (.int .u32) [p.b5,p.b6,p.b7,p.b8,p.b9,p.b10,p.b11,p.b12,p.b13,p.vW,p.wW,p.cZ,p.kh,p.zd,p.kl,p.lz] (((r/1048576 ^^^ v:Nat):Int)):Int)=((yT.getD (r/1048576 ^^^ v) 0:Nat):Int):=by
    rw[←C6 ⟨r/1048576 ^^^ v,hxl⟩]
    obtain⟨t0,t1,t2,t3,t4,t5,t6,t7,t8,t9,t10,t11,t12,t13,t14,t15⟩:=ht
    show List.getD [p.b5,p.b6,p.b7,p.b8,p.b9,p.b10,p.b11,p.b12,p.b13,p.vW,p.wW,p.cZ,p.kh,p.zd,p.kl,p.lz] ((r/1048576 ^^^ v:Nat):Int).toNat 0=_
    rw[Int.toNat_natCast,t0,t1,t2,t3,t4,t5,t6,t7,t8,t9,t10,t11,t12,t13,t14,t15];rfl
   have hc:ai.b .xor .u32 (ai.b .and .u32 (ai.b .shl .u32 (r:Int) 4) 16777215) (ai.n (.int .u32) [p.b5,p.b6,p.b7,p.b8,p.b9,p.b10,p.b11,p.b12,p.b13,p.vW,p.wW,p.cZ,p.kh,p.zd,p.kl,p.lz] (ai.b .xor .u32 (ai.b .shr .u32 (r:Int) 20) (ai.v .u32 (ai.k au ((p.lg,p.lm),(k:Int),4)).1)):Int)=((over r0 ((unpack n b).take (k+4)):Nat):Int):=by
    rw[hix]
    have e1:ai.b .and .u32 (ai.b .shl .u32 (r:Int) 4) 16777215=((16*r%16777216:Nat):Int):=by
     rw[show ai.b .shl .u32 (r:Int) 4=((r*2^4:Nat):Int) from Dt (k:=4) (by decide) (by omega),Jw (by omega),Nat.mul_comm]
    refine(z7 (ai.b .xor .u32) e1 htab).trans ?_
    rw[h4o]
    exact Bi (by omega) (by have:=Es ⟨_,hxl⟩;simp only at this;omega)
   refine(ak (by rw[show ai.b .add .i64 (k:Int) 4=((k+4:Nat):Int) from dV (j:=4) (by omega),h5,f_];simp;omega)).2 (af.2 ⟨rfl,af.2 ⟨?_,?_⟩⟩)
   ·rw[hix,iD,aM,ar];simp;omega
   ·have:=ih (k+4) p ht h2 h3 h4 h5 h6 (by omega) (by omega)
    exact bD (congrArg LT.more (congr (congrArg (BQ.c1 p) hc) (show ai.b .add .i64 (k:Int) 4=((k+4:Nat):Int) from dV (j:=4) (by omega)))) this
theorem Ly{l:List (Int×List Int)}(hll:l.length≤140737488355328)(hby:∀x∈l,cn x.2∧x.2.length≤140737488355328):∀(j i:Nat) (p:sW),W3 p→p.a1=l→p.a2=(l.length:Int)→p.a3=(i:Int)→p.a0=((over 0 ((l.take i).flatMap bi):Nat):Int)→l.length-i=j→i≤l.length→(∀x∈l.take i,bS x=true)→aK (pX ai) (.more (.c0 p)) (xX l):=by
 intro j
 induction j with
 | zero=>
   intro i p ht h1 h2 h3 h0 hj hi hok
   have:i=l.length:=by omega
   subst this
   rw[List.take_length] at hok h0
   simp only[ap,pX]
   refine(aj (by rw[h2,h3,aT];simp)).2 ?_
   rw[xX,List.all_eq_true.2 hok,h0]
   exact .ret _
 | succ j ih=>
   intro i p ht h1 h2 h3 h0 hj hi hok
   have hi':i<l.length:=by omega
   have hmem:=List.getElem_mem hi'
   simp only[ap,pX]
   rw[h3]
   refine(ak (by rw[h2,aT];simp;omega)).2 (af.2 ⟨by rw[h1];exact cB hi',af.2 ⟨rfl,?_⟩⟩)
   obtain⟨n0,b,hx⟩:∃n0 b,l[i]=(n0,b):=⟨_,_,rfl⟩
   have hby':=hby _ hmem
   rw[hx] at hby'
   have hn1:(ai.n (.struct [(.int .i64),(.slice (.int .u8))]) p.a1 (i:Int):Int×List Int)=(n0,b):=by rw[h1,sN hi',hx]
   rw[hn1]
   have hc:ai.k gZ (n0,b)=bif bS (n0,b) then 0 else 10:=i6 hby'.1 hby'.2
   rw[hc]
   cases hb:bS (n0,b)
   ·refine(ak rfl).2 ?_
    rw[xX,show l.all bS=false from List.all_eq_false.2 ⟨l[i],hmem,by rw[hx,hb];decide⟩]
    exact .ret _
   ·refine(aj rfl).2 ?_
    obtain⟨h4,h5,h6⟩:=(gN hby'.1).1 hb
    obtain⟨n,rfl⟩:=Int.eq_ofNat_of_zero_le h4
    have hlt:=jS (r:=0) (by decide) ((l.take i).flatMap bi)
    have hm:=LF hlt hb (by omega) hll hi' (R:=xX l) (fun p' g1 g2 g3 g4 g5=>ih (i+1) p' g1 g2 g3 g4 (by rw[g5,mO hi',gz,hx];rfl) (by omega) (by omega) (by
     intro x hx2
     rw[List.take_succ_eq_append_getElem hi'] at hx2
     rcases List.mem_append.1 hx2 with h7|h7
     ·exact hok x h7
     ·rw[List.mem_singleton.1 h7,hx];exact hb)) (n/4) 0 ⟨p.a1,p.a2,(i:Int),p.a4,p.a5,p.a6,p.a7,p.a8,p.a9,p.fw,p.jK,p.a12,p.wi,p.pq,p.pu,p.a16,p.a17,p.qE,p.kZ,(n:Int),b⟩ ht h1 h2 rfl rfl rfl (by omega) (by omega)
    rw[List.take_zero,oH,←h0] at hm
    exact hm
theorem VG{l:List (Int×List Int)}(h:Ty.dM [(.slice (.struct [(.int .i64),(.slice (.int .u8))]))] l):aK (pX ai) (KO ai l) (xX l):=by
 unfold KO
 refine af.2 ⟨rfl,?_⟩
 exact Ly (ol h).1 (ol h).2 l.length 0 _ ⟨rfl,rfl,rfl,rfl,rfl,rfl,rfl,rfl,rfl,rfl,rfl,rfl,rfl,rfl,rfl,rfl⟩ rfl rfl rfl rfl (by omega) (by omega) (by intro x hx;cases hx)
def gU:(List (Int×List Int))→(Int×Int):=xX
def Qu:aG:=⟨[(.slice (.struct [yI,yB]))], [(.int .u32),yI],(@tt (List (Int×List Int))),gU⟩
theorem Jo:Sd 323 Qu:=aQ aA dY true 30 [⟨323,4, [[4,5,10,11,12]]⟩,⟨345,2, [[0,2,4,7], [4,10,11,12]]⟩,⟨345,6, [[0,4,7], [4,10,11,12]]⟩] [] (fun A l=>KO A l) pX LJ (fc Tryz.func323 (fc Tryz.func345 fz)) (sc yX (sc A4 (sc PE (sc I8 sz)))) (fun A y=>match y with |.c0 p=>⟨52,by kernel_rfl,by kernel_rfl⟩|.c1 p b0 b1=>⟨52,by kernel_rfl,by kernel_rfl⟩|.c2 p c0 c1=>⟨44,by kernel_rfl,by kernel_rfl⟩) fun l hp h=>VG h
open Go.Ev.Pl
def t139(A:bK)(bN:Int)(bB:List Int)(unsentN:Int)(unsentB:List Int):LT ((Int×List Int)×Int) Empty:=.need (A.k (@tt ((Int×List Int))) (bN,bB)) (.br (A.c .neq (A.k gZ (bN,bB)) 0) (.ret ((0,([]:List Int)),10)) (.need (A.k (@tt ((Int×List Int))) (unsentN,unsentB)) (.br (A.c .neq (A.k gZ (unsentN,unsentB)) 0) (.ret ((0,([]:List Int)),10)) (.br (A.c .lss bN 24) (.ret ((0,([]:List Int)),20)) (.need (A.k (@tt ((Int×List Int)×Int×Int)) ((bN,bB),0,(A.b .sub .i64 bN 24))) (.need (A.k (@tt ((Int×List Int)×Int×Int)) ((bN,bB),(A.k bR ((bN,bB),0,(A.b .sub .i64 bN 24))).1.1,24)) (.need (A.k (@tt (List (Int×List Int))) [(unsentN,unsentB),(A.k bR ((bN,bB),0,(A.b .sub .i64 bN 24))).1]) (.br (A.c .neq (A.k gU [(unsentN,unsentB),(A.k bR ((bN,bB),0,(A.b .sub .i64 bN 24))).1]).2 0) (.ret ((0,([]:List Int)),(A.k gU [(unsentN,unsentB),(A.k bR ((bN,bB),0,(A.b .sub .i64 bN 24))).1]).2)) (.br (A.c .neq (A.v .u64 (A.k gU [(unsentN,unsentB),(A.k bR ((bN,bB),0,(A.b .sub .i64 bN 24))).1]).1) (A.k au ((bN,bB),(A.k bR ((bN,bB),0,(A.b .sub .i64 bN 24))).1.1,24)).1) (.ret ((0,([]:List Int)),21)) (.ret ((A.k bR ((bN,bB),0,(A.b .sub .i64 bN 24))).1,0)))))))))))
theorem G7{n m:Int}{b u:List Int}(h:Ty.dM [(.struct [(.int .i64),(.slice (.int .u8))]),(.struct [(.int .i64),(.slice (.int .u8))])] ((n,b),(m,u))):aK Empty.elim (t139 ai n b m u) (cN ((n,b),(m,u))):=by
 have h1:Ty.has (.struct [(.int .i64),(.slice (.int .u8))]) (n,b):=h.1
 have h2:Ty.has (.struct [(.int .i64),(.slice (.int .u8))]) (m,u):=h.2
 have hb:=(fU h1).2.2
 have hl:=dP h1
 have hbu:=(fU h2).2.2
 have hlu:=dP h2
 unfold t139
 rw[cN]
 have hc1:ai.c .neq (ai.k gZ (n,b)) 0=!bS (n,b):=by rw[al,i6 hb hl];cases bS (n,b)<;>rfl
 have hc2:ai.c .neq (ai.k gZ (m,u)) 0=!bS (m,u):=by rw[al,i6 hbu hlu];cases bS (m,u)<;>rfl
 refine af.2 ⟨rfl,?_⟩
 rw[hc1]
 cases ho1:bS (n,b)
 ·exact(ak rfl).2 (.ret _)
 refine(aj rfl).2 (af.2 ⟨rfl,?_⟩)
 rw[hc2]
 cases ho2:bS (m,u)
 ·exact(ak rfl).2 (.ret _)
 refine(aj rfl).2 ?_
 obtain⟨h3,h4,h5⟩:=(gN hb).1 ho1
 obtain⟨k,rfl⟩:=Int.eq_ofNat_of_zero_le h3
 by_cases h6:(k:Int)<24
 ·refine(ak (by rw[ar];simp;omega)).2 ?_
  show aK _ _ (bif decide ((k:Int)<24) then(zB,20) else _)
  rw[show decide ((k:Int)<24)=true from by simpa using h6]
  exact .ret _
 refine(aj (by rw[ar];simp;omega)).2 ?_
 show aK _ _ (bif decide ((k:Int)<24) then(zB,20) else _)
 rw[show decide ((k:Int)<24)=false from by simpa using h6,cond_false]
 have hkl:(bi ((k:Int),b)).length=k:=by rw[fB];rfl
 have hsub:ai.b .sub .i64 (k:Int) 24=((k-24:Nat):Int):=iX (j:=24) (by omega) (by omega)
 have hfl:((bi ((k:Int),b)).take (k-24)).length=k-24:=by rw[List.length_take,hkl];omega
 have hslice:ai.k bR (((k:Int),b),0,ai.b .sub .i64 (k:Int) 24)=(bM ((bi ((k:Int),b)).take (k-24)),0):=by
  rw[hsub,al,bR,bV]
  simp only[ho1,Bool.not_true,cond_false]
  rw[show decide (((k-24:Nat):Int)<0)=false from by simp,show decide ((k:Int)<((k-24:Nat):Int))=false from by simp<;>omega]
  rfl
 have hP1:(bM ((bi ((k:Int),b)).take (k-24))).1=((k-24:Nat):Int):=by show(((bi ((k:Int),b)).take (k-24)).length:Int)=_;rw[hfl]
 have hget:ai.k au (((k:Int),b),((k-24:Nat):Int),24)=(((bO (bi ((k:Int),b)) (k-24) 24:Nat):Int),0):=by
  rw[al,au,Ci]
  simp only[ho1,Bool.not_true,cond_false]
  rw[show decide (((k-24:Nat):Int)<0)=false from by simp,show decide ((k:Int)<((k-24:Nat):Int)+24)=false from by simp<;>omega]
  rfl
 have hsum:ai.k gU [(m,u),bM ((bi ((k:Int),b)).take (k-24))]=(((over (over 0 (bi (m,u))) ((bi ((k:Int),b)).take (k-24)):Nat):Int),0):=by
  rw[al,gU,xX]
  show(bif (bS (m,u)&&(bS (bM ((bi ((k:Int),b)).take (k-24)))&&true)) then(((over 0 (bi (m,u)++(bi (bM ((bi ((k:Int),b)).take (k-24))) ++ [])):Nat):Int),(0:Int)) else(0,10))=_
  rw[ho2,g_ (by rw[hfl];omega),fY,List.append_nil,gz]
  rfl
 have hu:=jS (r:=0) (by decide) (bi (m,u))
 have hlt:=jS hu ((bi ((k:Int),b)).take (k-24))
 have hfd:=gm (bi ((k:Int),b)) (k-24) 24
 have hsplit:bi ((k:Int),b)=(bi ((k:Int),b)).take (k-24)++(bi ((k:Int),b)).drop (k-24):=(List.take_append_drop _ _).symm
 have hd:((bi ((k:Int),b)).drop (k-24)).length=24:=by rw[List.length_drop,hkl];omega
 have hfe:bO (bi ((k:Int),b)) (k-24) 24=dB ((bi ((k:Int),b)).drop (k-24)):=by rw[bO,List.take_of_length_le (by omega)]
 have hz:(over (over 0 (bi (m,u))) (bi ((k:Int),b)) != 0)=(((over (over 0 (bi (m,u))) ((bi ((k:Int),b)).take (k-24)):Nat):Int) != ((bO (bi ((k:Int),b)) (k-24) 24:Nat):Int)):=by
  have:=C_ (l:=(bi ((k:Int),b)).take (k-24)) hu hd
  rw[←hsplit,←hfe] at this
  rw[Bool.eq_iff_iff,bne_iff_ne,bne_iff_ne,ne_eq,ne_eq,this]
  omega
 have e1:(ai.k bR (((k:Int),b),0,ai.b .sub .i64 (k:Int) 24)).1.1=((k-24:Nat):Int):=by rw[hslice];exact hP1
 have e2:(ai.k gU [(m,u),(ai.k bR (((k:Int),b),0,ai.b .sub .i64 (k:Int) 24)).1])=(((over (over 0 (bi (m,u))) ((bi ((k:Int),b)).take (k-24)):Nat):Int),0):=by rw[hslice];exact hsum
 have e3:(ai.k au (((k:Int),b),(ai.k bR (((k:Int),b),0,ai.b .sub .i64 (k:Int) 24)).1.1,24)).1=((bO (bi ((k:Int),b)) (k-24) 24:Nat):Int):=by rw[e1,hget]
 refine af.2 ⟨rfl,af.2 ⟨rfl,af.2 ⟨rfl,?_⟩⟩⟩
 refine(aj (cH (congrArg Prod.snd e2))).2 ?_
 rw[hz,hkl]
 have hcmp:ai.c .neq (ai.v .u64 (ai.k gU [(m,u),(ai.k bR (((k:Int),b),0,ai.b .sub .i64 (k:Int) 24)).1]).1) (ai.k au (((k:Int),b),(ai.k bR (((k:Int),b),0,ai.b .sub .i64 (k:Int) 24)).1.1,24)).1=(((over (over 0 (bi (m,u))) ((bi ((k:Int),b)).take (k-24)):Nat):Int) != ((bO (bi ((k:Int),b)) (k-24) 24:Nat):Int)):=by
  rw[e3,e2,gD (by omega),aB]
 cases hx:(((over (over 0 (bi (m,u))) ((bi ((k:Int),b)).take (k-24)):Nat):Int) != ((bO (bi ((k:Int),b)) (k-24) 24:Nat):Int))
 ·refine(aj (hcmp.trans hx)).2 ?_
  exact bD (congrArg LT.ret (show((ai.k bR (((k:Int),b),0,ai.b .sub .i64 (k:Int) 24)).1,0)=(bM ((bi ((k:Int),b)).take (k-24)),0) by rw[hslice])) (.ret _)
 ·exact(ak (hcmp.trans hx)).2 (.ret _)
def cO:((Int×List Int)×(Int×List Int))→((Int×List Int)×Int):=cN
def OF:aG:=⟨[(.struct [yI,yB]),(.struct [yI,yB])], [(.struct [yI,yB]),yI],(@tt ((Int×List Int)×(Int×List Int))),cO⟩
theorem Ry:Sd 287 OF:=a_ aA dY true 100 [] (fun A ((bN,bB),unsentN,unsentB)=>t139 A bN bB unsentN unsentB) (fc Tryz.func287 fz) (sc yX (sc A4 (sc Ja (sc Jo sz)))) fun((bN,bB),unsentN,unsentB) hp h=>G7 h
open Go.Ev.Pl
def KN(A:bK)(cTime:Int)(cPos:Int)(cMode:Int)(cNext:Int)(cMember:Int):LT (List Int) Empty:=.ret [cTime,cPos,cMode,cNext,cMember]
def vd:((Int×Int×Int×Int×Int))→(List Int):=fun(cTime,cPos,cMode,cNext,cMember)=>(KN ai cTime cPos cMode cNext cMember).val (Ty.cq [(.arr 5 yI)])
def O_:aG:=⟨[(.struct [yI,yI,yI,yI,yI])], [(.arr 5 yI)],(@tt ((Int×Int×Int×Int×Int))),vd⟩
theorem Qi:Sd 174 O_:=aO aA dY true 26 [] (fun A (cTime,cPos,cMode,cNext,cMember)=>KN A cTime cPos cMode cNext cMember) (fc Tryz.func174 fz) sz (fun((cTime,cPos,cMode,cNext,cMember):(Int×Int×Int×Int×Int)) hp h=>by
 show(KN ai cTime cPos cMode cNext cMember).pre=true
 rfl)
structure I9 where
 (a0 a1 a2 a3 a4 a6 a7 a8 a9 fw:Int)
inductive UG where
 | c0 (p:I9) (a5:Int)
noncomputable def Ta:UG→ei
 | .c0 p a5=>⟨[⟨98,36,(en [(5,.ptr 0 0),(21,.agg [vi p.a0,vi p.a1,vi p.a2,vi p.a3,vi p.a4]),(22,vi a5)]),[.inLoop (cw Tryz.f98 [1,1,1,0,1,0,0]),.inBlock 0,.code (cw Tryz.f98 [1,1,1,1])],[],none⟩],[.flat false [vi p.a6,vi p.a7,vi p.a8,vi p.a9,vi p.fw],.dead]⟩
def t87(A:bK)(cTime:Int)(cPos:Int)(cMode:Int)(cNext:Int)(cMember:Int)(n:Int):LT Int UG:=.br (A.c .lss n 4) (.ret 2) (.br (A.c .gtr n 8) (.ret 2) (.need (A.c .leq 0 n) (.need (A.k (@tt ((Int×Int×Int×Int×Int))) (cTime,cPos,cMode,cNext,cMember)) (.more (.c0 ⟨(A.n yI (A.k vd (cTime,cPos,cMode,cNext,cMember)) 0:Int),(A.n yI (A.k vd (cTime,cPos,cMode,cNext,cMember)) 1:Int),(A.n yI (A.k vd (cTime,cPos,cMode,cNext,cMember)) 2:Int),(A.n yI (A.k vd (cTime,cPos,cMode,cNext,cMember)) 3:Int),(A.n yI (A.k vd (cTime,cPos,cMode,cNext,cMember)) 4:Int),255,(A.b .sub .i64 n 1),3,4,(A.b .sub .i64 (A.b .shl .i64 1 n) 1)⟩ 0)))))
def Ml(A:bK):UG→LT Int UG
 | .c0 p a5=>.br (A.c .lss a5 5) (.need (A.and (A.c .leq 0 a5) (A.c .lss a5 5)) (.br (A.c .lss (A.n yI [p.a0,p.a1,p.a2,p.a3,p.a4] a5:Int) 0) (.ret 40) (.need (A.and (A.c .leq 0 a5) (A.c .lss a5 5)) (.br (A.c .gtr (A.n yI [p.a0,p.a1,p.a2,p.a3,p.a4] a5:Int) (A.n yI [p.a6,p.a7,p.a8,p.a9,p.fw] a5:Int)) (.ret 40) (.more (.c0 p (A.b .add .i64 a5 1))))))) (.ret 0)
theorem ML{k:Nat}(hk:k≤60):ai.b .shl .i64 1 (k:Int)=((2^k:Nat):Int):=by
 show IntKind.i64.wrap ((1:Int)*2^min (k:Int).toNat 64)=_
 have:2^k≤2^60:=Nat.pow_le_pow_right (by decide) hk
 have e:(2:Int)^k=((2^k:Nat):Int):=by simp
 rw[Int.toNat_natCast,Nat.min_eq_left (by omega),Int.one_mul,e]
 generalize 2^k=q at this
 rw[gW (by omega) (by omega)]
theorem NN{u v x:Int}(h:u=v):ai.c .lss u x=decide (v<x):=by rw[h];rfl
theorem UA{u u' v v':Int}(h1:u=u')(h2:v=v'):ai.c .gtr u v=decide (v'<u'):=by rw[h1,h2];rfl
theorem ml{p:I9}{i v m r:Int}(h0:0≤i)(h5:i<5)(hv:(ai.n (.int .i64) [p.a0,p.a1,p.a2,p.a3,p.a4] i:Int)=v)(hm:(ai.n (.int .i64) [p.a6,p.a7,p.a8,p.a9,p.fw] i:Int)=m)
  (h1:(decide (0≤v)&&decide (v≤m))=true→aK (Ml ai) (.more (.c0 p (i+1))) r) (h2:(decide (0≤v)&&decide (v≤m))=false→r=40):aK (Ml ai) (.more (.c0 p i)) r:=by
 rw[ap,Ml]
 have hn:ai.and (ai.c .leq 0 i) (ai.c .lss i 5)=true:=by rw[aM,ay,ar];simp;omega
 refine(ak (by rw[ar];simpa using h5)).2 (af.2 ⟨hn,?_⟩)
 by_cases h3:v<0
 ·refine(ak ((NN hv).trans (by simpa using h3))).2 ?_
  rw[h2 (by rw[show decide (0≤v)=false from by simp;omega];rfl)]
  exact .ret _
 ·refine(aj ((NN hv).trans (by simpa using h3))).2 (af.2 ⟨hn,?_⟩)
  by_cases h4:m<v
  ·refine(ak ((UA hv hm).trans (by simpa using h4))).2 ?_
   rw[h2 (by rw[show decide (v≤m)=false from by simp;omega,Bool.and_false])]
   exact .ret _
  ·refine(aj ((UA hv hm).trans (by simpa using h4))).2 ?_
   rw[bq,gW (by omega) (by omega)]
   exact h1 (by simp;omega)
theorem XU{t po m n s k:Int}:aK (Ml ai) (t87 ai t po m n s k) (jZ ((t,po,m,n,s),k)):=by
 unfold t87
 rw[jZ]
 by_cases h1:k<4
 ·refine(ak (by rw[ar];simpa using h1)).2 ?_
  rw[show decide (k<4)=true from by simpa using h1]
  exact .ret _
 refine(aj (by rw[ar];simpa using h1)).2 ?_
 by_cases h2:8<k
 ·refine(ak (by rw[aL];simpa using h2)).2 ?_
  rw[show decide (8<k)=true from by simpa using h2,Bool.or_true]
  exact .ret _
 refine(aj (by rw[aL];simpa using h2)).2 (af.2 ⟨by rw[ay];simp;omega,af.2 ⟨rfl,?_⟩⟩)
 rw[show decide (k<4)=false from by simpa using h1,show decide (8<k)=false from by simpa using h2,Bool.or_false,cond_false]
 have hk1:ai.b .sub .i64 k 1=k-1:=by rw[bl,gW (by omega) (by omega)]
 have hk2:ai.b .sub .i64 (ai.b .shl .i64 1 k) 1=2^k.toNat-1:=by
  obtain⟨j,rfl⟩:=Int.eq_ofNat_of_zero_le (show 0≤k by omega)
  have hq:2^j≤2^60:=Nat.pow_le_pow_right (by decide) (by omega)
  have hq0:=Nat.two_pow_pos j
  have e:(2:Int)^j=((2^j:Nat):Int):=by simp
  rw[ML (by omega),Int.toNat_natCast,e]
  generalize 2^j=q at hq hq0
  rw[bl,gW (by omega) (by omega)]
 rw[hk1,hk2]
 refine ml (v:=t) (m:=255) (by decide) (by decide) rfl rfl (fun g=>?_) (fun g=>by rw[g];rfl)
 rw[g,Bool.true_and]
 refine ml (i:=1) (v:=po) (m:=k-1) (by decide) (by decide) rfl rfl (fun g=>?_) (fun g=>by rw[g];rfl)
 rw[g,Bool.true_and]
 refine ml (i:=2) (v:=m) (m:=3) (by decide) (by decide) rfl rfl (fun g=>?_) (fun g=>by rw[g];rfl)
 rw[g,Bool.true_and]
 refine ml (i:=3) (v:=n) (m:=4) (by decide) (by decide) rfl rfl (fun g=>?_) (fun g=>by rw[g];rfl)
 rw[g,Bool.true_and]
 refine ml (i:=4) (v:=s) (m:=2^k.toNat-1) (by decide) (by decide) rfl rfl (fun g=>?_) (fun g=>by rw[g];rfl)
 rw[g,ap,Ml]
 exact(aj rfl).2 (.ret _)
def j6:((Int×Int×Int×Int×Int)×Int)→Int:=jZ
def Xs:aG:=⟨[(.struct [yI,yI,yI,yI,yI]),yI], [yI],(@tt ((Int×Int×Int×Int×Int)×Int)),j6⟩
theorem xP:Sd 98 Xs:=aQ aA dY true 43 [⟨98,5, [[5,21,22]]⟩] [] (fun A ((cTime,cPos,cMode,cNext,cMember),n)=>t87 A cTime cPos cMode cNext cMember n) Ml Ta (fc Tryz.func98 fz) (sc Qi sz) (fun A y=>match y with |.c0 p a5=>⟨41,by kernel_rfl,by kernel_rfl⟩) fun((cTime,cPos,cMode,cNext,cMember),n) hp h=>XU
def Ut:((Int×Int×Int×Int×Int)×Int)→Int:=jZ
open Go.Ev.Pl
structure Ow where
 (a0 a1 a2 a3 a4 a5 a6 a7 a8 a9 fw jK a12:Int)
structure Ji where
 (b0 b1 b2 b3 b4 b6 b9 b10 b11 b12 b13:Int)
inductive Mm where
 | c0 (p:Ow)
 | c1 (p:Ji) (b5:Int) (b7:Int) (b8:List Int)
noncomputable def M0:Mm→ei
 | .c0 p=>⟨[⟨239,38,(en [(2,.ptr 0 0),(4,.ptr 1 0),(5,.ptr 2 0),(16,.agg [vi p.a0,vi p.a1,vi p.a2,vi p.a3,vi p.a4]),(17,vi p.a5)]),[.inLoop (cw Tryz.f239 [1,1,1,1,0,1,0,0]),.inBlock 0,.code (cw Tryz.f239 [1,1,1,1,1])],[],none⟩],[.flat false [vi p.a6,.bd true],.flat false [vi p.a7,.bd true],.flat false [vi p.a8,vi p.a9,vi p.fw,vi p.jK,vi p.a12],.dead]⟩
 | .c1 p b5 b7 b8=>⟨[⟨239,38,(en [(2,.ptr 0 0),(4,.ptr 1 0),(5,.ptr 2 0),(16,.agg [vi p.b0,vi p.b1,vi p.b2,vi p.b3,vi p.b4]),(17,vi b5)]),[.inLoop (cw Tryz.f239 [1,1,1,1,0,1,0,0]),.inBlock 0,.code (cw Tryz.f239 [1,1,1,1,1])],[],none⟩],[.flat false [vi p.b6,.bd true],.flat false [vi b7,.sl yU b8],.flat false [vi p.b9,vi p.b10,vi p.b11,vi p.b12,vi p.b13],.dead]⟩
def XW(A:bK)(cTime:Int)(cPos:Int)(cMode:Int)(cNext:Int)(cMember:Int):LT ((Int×List Int)×Int) Mm:=.need (A.k (@tt ((Int×Int×Int×Int×Int)×Int)) ((cTime,cPos,cMode,cNext,cMember),8)) (.br (A.c .neq (A.k j6 ((cTime,cPos,cMode,cNext,cMember),8)) 0) (.ret ((0,([]:List Int)),40)) (.more (.c0 ⟨cTime,cPos,cMode,cNext,cMember,0,0,0,8,3,2,3,8⟩)))
def LS(A:bK):Mm→LT ((Int×List Int)×Int) Mm
 | .c0 p=>.br (A.c .lss p.a5 5) (.need (A.and (A.c .leq 0 p.a5) (A.c .lss p.a5 5)) (.need (A.and (A.c .leq 0 p.a5) (A.c .lss p.a5 5)) (.need (A.k (@tt ((Int×List Int)×Int×Int)) ((p.a7,([]:List Int)),(A.v .u64 (A.n yI [p.a0,p.a1,p.a2,p.a3,p.a4] p.a5:Int)),(A.n yI [p.a8,p.a9,p.fw,p.jK,p.a12] p.a5:Int))) (.need (A.k (@tt ((Int×List Int)×Int×Int)) ((p.a7,([]:List Int)),(A.v .u64 (A.n yI [p.a0,p.a1,p.a2,p.a3,p.a4] p.a5:Int)),(A.n yI [p.a8,p.a9,p.fw,p.jK,p.a12] p.a5:Int))) (.need (A.and (A.c .leq 0 p.a5) (A.c .lss p.a5 5)) (.br (A.c .neq (A.k ah ((p.a7,([]:List Int)),(A.v .u64 (A.n yI [p.a0,p.a1,p.a2,p.a3,p.a4] p.a5:Int)),(A.n yI [p.a8,p.a9,p.fw,p.jK,p.a12] p.a5:Int))).2 0) (.ret ((0,([]:List Int)),(A.k ah ((p.a7,([]:List Int)),(A.v .u64 (A.n yI [p.a0,p.a1,p.a2,p.a3,p.a4] p.a5:Int)),(A.n yI [p.a8,p.a9,p.fw,p.jK,p.a12] p.a5:Int))).2)) (.more (.c1 ⟨p.a0,p.a1,p.a2,p.a3,p.a4,p.a6,p.a8,p.a9,p.fw,p.jK,p.a12⟩ (A.b .add .i64 p.a5 1) (A.k ah ((p.a7,([]:List Int)),(A.v .u64 (A.n yI [p.a0,p.a1,p.a2,p.a3,p.a4] p.a5:Int)),(A.n yI [p.a8,p.a9,p.fw,p.jK,p.a12] p.a5:Int))).1.1 (A.k ah ((p.a7,([]:List Int)),(A.v .u64 (A.n yI [p.a0,p.a1,p.a2,p.a3,p.a4] p.a5:Int)),(A.n yI [p.a8,p.a9,p.fw,p.jK,p.a12] p.a5:Int))).1.2)))))))) (.ret ((p.a7,([]:List Int)),0))
 | .c1 p b5 b7 b8=>.br (A.c .lss b5 5) (.need (A.and (A.c .leq 0 b5) (A.c .lss b5 5)) (.need (A.and (A.c .leq 0 b5) (A.c .lss b5 5)) (.need (A.k (@tt ((Int×List Int)×Int×Int)) ((b7,b8),(A.v .u64 (A.n yI [p.b0,p.b1,p.b2,p.b3,p.b4] b5:Int)),(A.n yI [p.b9,p.b10,p.b11,p.b12,p.b13] b5:Int))) (.need (A.k (@tt ((Int×List Int)×Int×Int)) ((b7,b8),(A.v .u64 (A.n yI [p.b0,p.b1,p.b2,p.b3,p.b4] b5:Int)),(A.n yI [p.b9,p.b10,p.b11,p.b12,p.b13] b5:Int))) (.need (A.and (A.c .leq 0 b5) (A.c .lss b5 5)) (.br (A.c .neq (A.k ah ((b7,b8),(A.v .u64 (A.n yI [p.b0,p.b1,p.b2,p.b3,p.b4] b5:Int)),(A.n yI [p.b9,p.b10,p.b11,p.b12,p.b13] b5:Int))).2 0) (.ret ((0,([]:List Int)),(A.k ah ((b7,b8),(A.v .u64 (A.n yI [p.b0,p.b1,p.b2,p.b3,p.b4] b5:Int)),(A.n yI [p.b9,p.b10,p.b11,p.b12,p.b13] b5:Int))).2)) (.more (.c1 p (A.b .add .i64 b5 1) (A.k ah ((b7,b8),(A.v .u64 (A.n yI [p.b0,p.b1,p.b2,p.b3,p.b4] b5:Int)),(A.n yI [p.b9,p.b10,p.b11,p.b12,p.b13] b5:Int))).1.1 (A.k ah ((b7,b8),(A.v .u64 (A.n yI [p.b0,p.b1,p.b2,p.b3,p.b4] b5:Int)),(A.n yI [p.b9,p.b10,p.b11,p.b12,p.b13] b5:Int))).1.2)))))))) (.ret ((b7,b8),0))
theorem fQ{v w:Nat}{l:List Bool}(hv:v<2^w)(hw:w≤64)(hl:l.length+w≤4096):Cm (bM l,(v:Int),(w:Int))=(bM (l++bitsOf v w),0):=by
 rw[Cm]
 simp only[g_ (l:=l) (by omega),Bool.not_true,cond_false,fY,Int.toNat_natCast]
 rw[xt (by omega),Int.toNat_natCast,Nat.div_eq_of_lt hv,show decide ((w:Int)<0)=false from by simp,show decide (64<(w:Int))=false from by simp;omega,mD (by rw[List.length_append,aF];exact hl)]
 rfl
theorem rB{p:Ji}{i:Int}{v w:Nat}{l:List Bool}{r:(Int×List Int)×Int}(h0:0≤i)(h5:i<5)(hv:(ai.n (.int .i64) [p.b0,p.b1,p.b2,p.b3,p.b4] i:Int)=(v:Int))(hw:(ai.n (.int .i64) [p.b9,p.b10,p.b11,p.b12,p.b13] i:Int)=(w:Int))(hvw:v<2^w)(hw8:w≤8)(hl:l.length≤100)
  (h:aK (LS ai) (.more (.c1 p (i+1) (bM (l++bitsOf v w)).1 (bM (l++bitsOf v w)).2)) r):aK (LS ai) (.more (.c1 p i (bM l).1 (bM l).2)) r:=by
 rw[ap,LS]
 have hn:ai.and (ai.c .leq 0 i) (ai.c .lss i 5)=true:=by rw[aM,ay,ar];simp;omega
 have hp:=Nat.pow_le_pow_right (n:=2) (by decide) hw8
 have hc:ai.k ah (((bM l).1,(bM l).2),(ai.v .u64 (ai.n (.int .i64) [p.b0,p.b1,p.b2,p.b3,p.b4] i:Int)),(ai.n (.int .i64) [p.b9,p.b10,p.b11,p.b12,p.b13] i:Int))=(bM (l++bitsOf v w),0):=by
  rw[show(ai.v .u64 (ai.n (.int .i64) [p.b0,p.b1,p.b2,p.b3,p.b4] i:Int))=(v:Int) from(congrArg (ai.v .u64) hv).trans (gD (by omega)),hw]
  exact fQ hvw (by omega) (by omega)
 refine(ak (by rw[ar];simpa using h5)).2 (af.2 ⟨hn,af.2 ⟨hn,af.2 ⟨rfl,?_⟩⟩⟩)
 repeat (first|refine af.2 ⟨rfl,?_⟩|refine af.2 ⟨hn,?_⟩)
 refine(aj (cH (congrArg Prod.snd hc))).2 ?_
 refine bD (congrArg LT.more (congr (congr (congrArg (Mm.c1 p) ?_) (congrArg (fun z=>z.1.1) hc)) (congrArg (fun z=>z.1.2) hc))) h
 rw[bq,gW (by omega) (by omega)]
theorem G4{t po m n s:Int}:aK (LS ai) (XW ai t po m n s) (oN (t,po,m,n,s)):=by
 unfold XW
 rw[oN]
 refine af.2 ⟨rfl,?_⟩
 have hchk:ai.k j6 ((t,po,m,n,s),8)=bif gl (t,po,m,n,s) then 0 else 40:=wU (t,po,m,n,s)
 cases hok:gl (t,po,m,n,s)
 ·rw[hok] at hchk
  exact(ak (fx (by rw[hchk];decide))).2 (.ret _)
 rw[hok] at hchk
 refine(aj (cH hchk)).2 ?_
 rw[s9] at hok
 obtain⟨t,rfl⟩:=Int.eq_ofNat_of_zero_le hok.1.1
 obtain⟨po,rfl⟩:=Int.eq_ofNat_of_zero_le hok.2.1.1
 obtain⟨m,rfl⟩:=Int.eq_ofNat_of_zero_le hok.2.2.1.1
 obtain⟨n,rfl⟩:=Int.eq_ofNat_of_zero_le hok.2.2.2.1.1
 obtain⟨s,rfl⟩:=Int.eq_ofNat_of_zero_le hok.2.2.2.2.1
 have hc:ai.k ah (((0:Int),([]:List Int)),(ai.v .u64 (t:Int)),8)=(bM ([]++bitsOf t 8),0):=by
  rw[gD (by omega)]
  exact fQ (l:=[]) (v:=t) (w:=8) (by omega) (by decide) (by decide)
 rw[ap,LS]
 refine(ak rfl).2 (af.2 ⟨rfl,af.2 ⟨rfl,af.2 ⟨rfl,?_⟩⟩⟩)
 repeat (refine af.2 ⟨rfl,?_⟩)
 refine(aj (cH (congrArg Prod.snd hc))).2 ?_
 refine bD (congrArg LT.more (congr (congr (congrArg (Mm.c1 _) (show ai.b .add .i64 0 1=1 from rfl)) (congrArg (fun z=>z.1.1) hc)) (congrArg (fun z=>z.1.2) hc))) ?_
 refine rB (v:=po) (w:=3) (by decide) (by decide) rfl rfl (by omega) (by decide) (by simp[aF]) ?_
 refine rB (i:=2) (v:=m) (w:=2) (by decide) (by decide) rfl rfl (by omega) (by decide) (by simp[aF]) ?_
 refine rB (i:=3) (v:=n) (w:=3) (by decide) (by decide) rfl rfl (by omega) (by decide) (by simp[aF]) ?_
 refine rB (i:=4) (v:=s) (w:=8) (by decide) (by decide) rfl rfl (by omega) (by decide) (by simp[aF]) ?_
 rw[ap,LS]
 refine(aj rfl).2 ?_
 rw[show[]++bitsOf t 8++bitsOf po 3++bitsOf m 2++bitsOf n 3++bitsOf s 8=bT ((t:Int),(po:Int),(m:Int),(n:Int),(s:Int)) from by
  simp only[bT,Int.toNat_natCast,List.append_assoc,List.nil_append]]
 exact .ret _
def ao:((Int×Int×Int×Int×Int))→((Int×List Int)×Int):=oN
def VD:aG:=⟨[(.struct [yI,yI,yI,yI,yI])], [(.struct [yI,yB]),yI],(@tt ((Int×Int×Int×Int×Int))),ao⟩
theorem RI:Sd 239 VD:=aQ aA dY true 71 [⟨239,6, [[2,4,5,16,17]]⟩] [] (fun A (cTime,cPos,cMode,cNext,cMember)=>XW A cTime cPos cMode cNext cMember) LS M0 (fc Tryz.func239 (fc Tryz.func174 (fc Tryz.func285 fz))) (sc xP (sc C9 sz)) (fun A y=>match y with |.c0 p=>⟨55,by kernel_rfl,by kernel_rfl⟩|.c1 p b5 b7 b8=>⟨55,by kernel_rfl,by kernel_rfl⟩) fun(cTime,cPos,cMode,cNext,cMember) hp h=>G4
open Go.Ev.Pl
structure LD where
 (a1 a2 a3 a4 a5 a7:Int) (a8:List Int) (a9 fw jK a12 wi:Int)
inductive xu where
 | c0 (p:LD) (a0:Int) (a6:Int) (pq:Int) (pu:Int) (a16:Int) (a17:Int) (qE:Int)
noncomputable def JZ:xu→ei
 | .c0 p a0 a6 pq pu a16 a17 qE=>⟨[⟨242,61,(en [(1,.ptr 0 0),(2,.ptr 1 0),(4,.ptr 2 0),(5,vi a0),(21,.agg [vi p.a1,vi p.a2,vi p.a3,vi p.a4,vi p.a5]),(22,vi a6)]),[.inLoop (cw Tryz.f242 [1,1,1,1,0,1,0,0]),.inBlock 1,.code (cw Tryz.f242 [1,1,1,1,1])],[],none⟩],[.flat false [vi p.a7,.sl yU p.a8],.flat false [vi p.a9,vi p.fw,vi p.jK,vi p.a12,vi p.wi],.flat false [vi pq,vi pu,vi a16,vi a17,vi qE],.dead]⟩
def Kj(A:bK)(bN:Int)(bB:List Int):LT ((Int×Int×Int×Int×Int)×Int) xu:=.need (A.k (@tt ((Int×List Int))) (bN,bB)) (.br (A.c .neq (A.k gZ (bN,bB)) 0) (.ret ((0,0,0,0,0),10)) (.br (A.c .neq bN 24) (.ret ((0,0,0,0,0),40)) (.more (.c0 ⟨8,3,2,3,8,bN,bB,0,0,0,0,0⟩ 0 0 0 0 0 0 0))))
def wL(A:bK):xu→LT ((Int×Int×Int×Int×Int)×Int) xu
 | .c0 p a0 a6 pq pu a16 a17 qE=>.br (A.c .lss a6 5) (.need (A.and (A.c .leq 0 a6) (A.c .lss a6 5)) (.need (A.k (@tt ((Int×List Int)×Int×Int)) ((p.a7,p.a8),a0,(A.n yI [p.a1,p.a2,p.a3,p.a4,p.a5] a6:Int))) (.br (A.c .neq (A.k au ((p.a7,p.a8),a0,(A.n yI [p.a1,p.a2,p.a3,p.a4,p.a5] a6:Int))).2 0) (.ret ((0,0,0,0,0),(A.k au ((p.a7,p.a8),a0,(A.n yI [p.a1,p.a2,p.a3,p.a4,p.a5] a6:Int))).2)) (.need (A.and (A.c .leq 0 a6) (A.c .lss a6 5)) (.more (.c0 p (A.b .add .i64 a0 (A.n yI [p.a1,p.a2,p.a3,p.a4,p.a5] a6:Int)) (A.b .add .i64 a6 1) (A.n yI (A.set [pq,pu,a16,a17,qE] a6 (A.v .i64 (A.k au ((p.a7,p.a8),a0,(A.n yI [p.a1,p.a2,p.a3,p.a4,p.a5] a6:Int))).1)) 0:Int) (A.n yI (A.set [pq,pu,a16,a17,qE] a6 (A.v .i64 (A.k au ((p.a7,p.a8),a0,(A.n yI [p.a1,p.a2,p.a3,p.a4,p.a5] a6:Int))).1)) 1:Int) (A.n yI (A.set [pq,pu,a16,a17,qE] a6 (A.v .i64 (A.k au ((p.a7,p.a8),a0,(A.n yI [p.a1,p.a2,p.a3,p.a4,p.a5] a6:Int))).1)) 2:Int) (A.n yI (A.set [pq,pu,a16,a17,qE] a6 (A.v .i64 (A.k au ((p.a7,p.a8),a0,(A.n yI [p.a1,p.a2,p.a3,p.a4,p.a5] a6:Int))).1)) 3:Int) (A.n yI (A.set [pq,pu,a16,a17,qE] a6 (A.v .i64 (A.k au ((p.a7,p.a8),a0,(A.n yI [p.a1,p.a2,p.a3,p.a4,p.a5] a6:Int))).1)) 4:Int))))))) (.need (A.k (@tt ((Int×Int×Int×Int×Int)×Int)) ((pq,pu,a16,a17,qE),8)) (.br (A.c .neq (A.k j6 ((pq,pu,a16,a17,qE),8)) 0) (.ret ((0,0,0,0,0),40)) (.ret ((pq,pu,a16,a17,qE),0))))
theorem Ei{n:Int}{b:List Int}(h:Ty.dM [(.struct [(.int .i64),(.slice (.int .u8))])] (n,b)):aK (wL ai) (Kj ai n b) (dC (n,b)):=by
 have hb:=(fU h).2.2
 have hl:=dP h
 unfold Kj
 rw[dC]
 refine af.2 ⟨rfl,?_⟩
 have hc:ai.c .neq (ai.k gZ (n,b)) 0=!bS (n,b):=by
  rw[al,i6 hb hl];cases bS (n,b)<;>rfl
 rw[hc]
 cases hok:bS (n,b)
 ·exact(ak rfl).2 (.ret _)
 refine(aj rfl).2 ?_
 rw[Bool.not_true,cond_false]
 show aK (wL ai) _ (bif n != 24 then(zS,40) else _)
 by_cases h24:n=24
 ·subst h24
  refine(aj rfl).2 ?_
  rw[show((24:Int) != 24)=false from rfl,cond_false]
  have l0:=gm (bi (24,b)) 0 8
  have g0:ai.k au ((24,b),0,8)=(((bO (bi (24,b)) 0 8:Nat):Int),0):=jk (n:=24) (a:=0) (w:=8) hok (by decide) (by decide) (by decide)
  have l1:=gm (bi (24,b)) 8 3
  have g1:ai.k au ((24,b),8,3)=(((bO (bi (24,b)) 8 3:Nat):Int),0):=jk (n:=24) (a:=8) (w:=3) hok (by decide) (by decide) (by decide)
  have l2:=gm (bi (24,b)) 11 2
  have g2:ai.k au ((24,b),11,2)=(((bO (bi (24,b)) 11 2:Nat):Int),0):=jk (n:=24) (a:=11) (w:=2) hok (by decide) (by decide) (by decide)
  have l3:=gm (bi (24,b)) 13 3
  have g3:ai.k au ((24,b),13,3)=(((bO (bi (24,b)) 13 3:Nat):Int),0):=jk (n:=24) (a:=13) (w:=3) hok (by decide) (by decide) (by decide)
  have l4:=gm (bi (24,b)) 16 8
  have g4:ai.k au ((24,b),16,8)=(((bO (bi (24,b)) 16 8:Nat):Int),0):=jk (n:=24) (a:=16) (w:=8) hok (by decide) (by decide) (by decide)
  rw[ap,wL]
  refine(ak rfl).2 (af.2 ⟨rfl,af.2 ⟨rfl,(aj (cH (congrArg Prod.snd (show ai.k au ((24,b),0,8)=(((bO (bi (24,b)) 0 8:Nat):Int),0) from g0)))).2 (af.2 ⟨rfl,?_⟩)⟩⟩)
  refine bD (t':=.more (.c0 ⟨8,3,2,3,8,24,b,0,0,0,0,0⟩ 8 1 ((bO (bi (24,b)) 0 8:Nat):Int) 0 0 0 0)) (congrArg LT.more (show xu.c0 ⟨8,3,2,3,8,24,b,0,0,0,0,0⟩ 8 1 (ai.v .i64 (ai.k au ((24,b),0,8)).1) 0 0 0 0=_ from by rw[show(ai.v .i64 (ai.k au ((24,b),0,8)).1)=((bO (bi (24,b)) 0 8:Nat):Int) from by rw[g0,bp,gW (by omega) (by omega)]])) ?_
  rw[ap,wL]
  refine(ak rfl).2 (af.2 ⟨rfl,af.2 ⟨rfl,(aj (cH (congrArg Prod.snd (show ai.k au ((24,b),8,3)=(((bO (bi (24,b)) 8 3:Nat):Int),0) from g1)))).2 (af.2 ⟨rfl,?_⟩)⟩⟩)
  refine bD (t':=.more (.c0 ⟨8,3,2,3,8,24,b,0,0,0,0,0⟩ 11 2 ((bO (bi (24,b)) 0 8:Nat):Int) ((bO (bi (24,b)) 8 3:Nat):Int) 0 0 0)) (congrArg LT.more (show xu.c0 ⟨8,3,2,3,8,24,b,0,0,0,0,0⟩ 11 2 ((bO (bi (24,b)) 0 8:Nat):Int) (ai.v .i64 (ai.k au ((24,b),8,3)).1) 0 0 0=_ from by rw[show(ai.v .i64 (ai.k au ((24,b),8,3)).1)=((bO (bi (24,b)) 8 3:Nat):Int) from by rw[g1,bp,gW (by omega) (by omega)]])) ?_
  rw[ap,wL]
  refine(ak rfl).2 (af.2 ⟨rfl,af.2 ⟨rfl,(aj (cH (congrArg Prod.snd (show ai.k au ((24,b),11,2)=(((bO (bi (24,b)) 11 2:Nat):Int),0) from g2)))).2 (af.2 ⟨rfl,?_⟩)⟩⟩)
  refine bD (t':=.more (.c0 ⟨8,3,2,3,8,24,b,0,0,0,0,0⟩ 13 3 ((bO (bi (24,b)) 0 8:Nat):Int) ((bO (bi (24,b)) 8 3:Nat):Int) ((bO (bi (24,b)) 11 2:Nat):Int) 0 0)) (congrArg LT.more (show xu.c0 ⟨8,3,2,3,8,24,b,0,0,0,0,0⟩ 13 3 ((bO (bi (24,b)) 0 8:Nat):Int) ((bO (bi (24,b)) 8 3:Nat):Int) (ai.v .i64 (ai.k au ((24,b),11,2)).1) 0 0=_ from by rw[show(ai.v .i64 (ai.k au ((24,b),11,2)).1)=((bO (bi (24,b)) 11 2:Nat):Int) from by rw[g2,bp,gW (by omega) (by omega)]])) ?_
  rw[ap,wL]
  refine(ak rfl).2 (af.2 ⟨rfl,af.2 ⟨rfl,(aj (cH (congrArg Prod.snd (show ai.k au ((24,b),13,3)=(((bO (bi (24,b)) 13 3:Nat):Int),0) from g3)))).2 (af.2 ⟨rfl,?_⟩)⟩⟩)
  refine bD (t':=.more (.c0 ⟨8,3,2,3,8,24,b,0,0,0,0,0⟩ 16 4 ((bO (bi (24,b)) 0 8:Nat):Int) ((bO (bi (24,b)) 8 3:Nat):Int) ((bO (bi (24,b)) 11 2:Nat):Int) ((bO (bi (24,b)) 13 3:Nat):Int) 0)) (congrArg LT.more (show xu.c0 ⟨8,3,2,3,8,24,b,0,0,0,0,0⟩ 16 4 ((bO (bi (24,b)) 0 8:Nat):Int) ((bO (bi (24,b)) 8 3:Nat):Int) ((bO (bi (24,b)) 11 2:Nat):Int) (ai.v .i64 (ai.k au ((24,b),13,3)).1) 0=_ from by rw[show(ai.v .i64 (ai.k au ((24,b),13,3)).1)=((bO (bi (24,b)) 13 3:Nat):Int) from by rw[g3,bp,gW (by omega) (by omega)]])) ?_
  rw[ap,wL]
  refine(ak rfl).2 (af.2 ⟨rfl,af.2 ⟨rfl,(aj (cH (congrArg Prod.snd (show ai.k au ((24,b),16,8)=(((bO (bi (24,b)) 16 8:Nat):Int),0) from g4)))).2 (af.2 ⟨rfl,?_⟩)⟩⟩)
  refine bD (t':=.more (.c0 ⟨8,3,2,3,8,24,b,0,0,0,0,0⟩ 24 5 ((bO (bi (24,b)) 0 8:Nat):Int) ((bO (bi (24,b)) 8 3:Nat):Int) ((bO (bi (24,b)) 11 2:Nat):Int) ((bO (bi (24,b)) 13 3:Nat):Int) ((bO (bi (24,b)) 16 8:Nat):Int))) (congrArg LT.more (show xu.c0 ⟨8,3,2,3,8,24,b,0,0,0,0,0⟩ 24 5 ((bO (bi (24,b)) 0 8:Nat):Int) ((bO (bi (24,b)) 8 3:Nat):Int) ((bO (bi (24,b)) 11 2:Nat):Int) ((bO (bi (24,b)) 13 3:Nat):Int) (ai.v .i64 (ai.k au ((24,b),16,8)).1)=_ from by rw[show(ai.v .i64 (ai.k au ((24,b),16,8)).1)=((bO (bi (24,b)) 16 8:Nat):Int) from by rw[g4,bp,gW (by omega) (by omega)]])) ?_
  have hchk:ai.k j6 ((((bO (bi (24,b)) 0 8:Nat):Int),((bO (bi (24,b)) 8 3:Nat):Int),((bO (bi (24,b)) 11 2:Nat):Int),((bO (bi (24,b)) 13 3:Nat):Int),((bO (bi (24,b)) 16 8:Nat):Int)),8)=bif gl (h_ (bi (24,b))) then 0 else 40:=wU (h_ (bi (24,b)))
  rw[ap,wL]
  refine(aj rfl).2 (af.2 ⟨rfl,?_⟩)
  cases ho:gl (h_ (bi (24,b)))
  ·rw[ho] at hchk
   exact(ak (fx (by rw[hchk];decide))).2 (.ret _)
  ·rw[ho] at hchk
   exact(aj (cH hchk)).2 (.ret _)
 ·refine(ak (fx h24)).2 ?_
  rw[show(n != 24)=true from bne_iff_ne.2 h24,cond_true]
  exact .ret _
def gn:((Int×List Int))→((Int×Int×Int×Int×Int)×Int):=dC
def M5:aG:=⟨[(.struct [yI,yB])], [(.struct [yI,yI,yI,yI,yI]),yI],(@tt ((Int×List Int))),gn⟩
theorem SN:Sd 242 M5:=aQ aA dY true 58 [⟨242,8, [[1,2,4,5,21,22]]⟩] [] (fun A (bN,bB)=>Kj A bN bB) wL JZ (fc Tryz.func242 (fc Tryz.func285 fz)) (sc xP (sc yX (sc A4 sz))) (fun A y=>match y with |.c0 p a0 a6 pq pu a16 a17 qE=>⟨61,by kernel_rfl,by kernel_rfl⟩) fun(bN,bB) hp h=>Ei h
open Go.Ev.Pl
def t57(A:bK)(fKind:Int)(fReq:Int)(fCTime:Int)(fCPos:Int)(fCMode:Int)(fCNext:Int)(fCMember:Int)(fFrom:Int)(fData:List Int):LT Int Empty:=.need (A.k (@tt ((Int×Int×Int×Int×Int)×Int)) ((fCTime,fCPos,fCMode,fCNext,fCMember),8)) (.br (A.c .neq (A.k j6 ((fCTime,fCPos,fCMode,fCNext,fCMember),8)) 0) (.ret 50) (.br (A.c .lss fReq 0) (.ret 50) (.br (A.c .gtr fReq 4) (.ret 50) (.br (A.c .gtr (A.l fData) 8) (.ret 50) (.br (A.c .eql fKind 1) (.br (A.c .eql fReq 0) (.br (A.c .eql (A.l fData) 0) (.br (A.c .geq fFrom 0) (.br (A.c .lss fFrom 8) (.br (A.not (A.and (A.c .eql fCTime fCTime) (A.and (A.c .eql fCPos 0) (A.and (A.c .eql fCMode 0) (A.and (A.c .eql fCNext 0) (A.and (A.c .eql fCMember 0) true)))))) (.ret 50) (.ret 0)) (.ret 50)) (.ret 50)) (.ret 50)) (.ret 50)) (.br (A.c .eql fKind 3) (.br (A.c .eql (A.l fData) 0) (.br (A.not (A.c .eql fFrom 0)) (.ret 50) (.ret 0)) (.ret 50)) (.br (A.c .eql fKind 2) (.br (A.not (A.c .eql fFrom 0)) (.ret 50) (.ret 0)) (.br (A.c .eql fKind 4) (.br (A.not (A.c .eql fFrom 0)) (.ret 50) (.ret 0)) (.ret 50)))))))))
def kK:((Int×Int×(Int×Int×Int×Int×Int)×Int×List Int))→Int:=fun(fKind,fReq,(fCTime,fCPos,fCMode,fCNext,fCMember),fFrom,fData)=>(t57 ai fKind fReq fCTime fCPos fCMode fCNext fCMember fFrom fData).val (Ty.cq [yI])
def Wb:aG:=⟨[(.struct [yI,yI,(.struct [yI,yI,yI,yI,yI]),yI,yB])], [yI],(@tt ((Int×Int×(Int×Int×Int×Int×Int)×Int×List Int))),kK⟩
theorem M2:Sd 243 Wb:=aO aA dY true 109 [] (fun A (fKind,fReq,(fCTime,fCPos,fCMode,fCNext,fCMember),fFrom,fData)=>t57 A fKind fReq fCTime fCPos fCMode fCNext fCMember fFrom fData) (fc Tryz.func243 fz) (sc xP sz) (fun((fKind,fReq,(fCTime,fCPos,fCMode,fCNext,fCMember),fFrom,fData):(Int×Int×(Int×Int×Int×Int×Int)×Int×List Int)) hp h=>by
 show(t57 ai fKind fReq fCTime fCPos fCMode fCNext fCMember fFrom fData).pre=true
 simp[t57,LT.pre,al,dh])
def t56(A:bK)(kind:Int)(data:Int):LT Int Empty:=.br (A.c .lss data 0) (.ret 0) (.br (A.c .gtr data 8) (.ret 0) (.br (A.c .eql kind 1) (.br (A.c .eql data 0) (.ret 40) (.br (A.c .eql kind 3) (.br (A.c .eql data 0) (.ret 54) (.br (A.c .eql kind 2) (.ret (A.b .add .i64 29 (A.b .mul .i64 8 data))) (.br (A.c .eql kind 4) (.ret (A.b .add .i64 79 (A.b .mul .i64 8 data))) (.ret 0)))) (.br (A.c .eql kind 2) (.ret (A.b .add .i64 29 (A.b .mul .i64 8 data))) (.br (A.c .eql kind 4) (.ret (A.b .add .i64 79 (A.b .mul .i64 8 data))) (.ret 0))))) (.br (A.c .eql kind 3) (.br (A.c .eql data 0) (.ret 54) (.br (A.c .eql kind 2) (.ret (A.b .add .i64 29 (A.b .mul .i64 8 data))) (.br (A.c .eql kind 4) (.ret (A.b .add .i64 79 (A.b .mul .i64 8 data))) (.ret 0)))) (.br (A.c .eql kind 2) (.ret (A.b .add .i64 29 (A.b .mul .i64 8 data))) (.br (A.c .eql kind 4) (.ret (A.b .add .i64 79 (A.b .mul .i64 8 data))) (.ret 0))))))
def od:(Int×Int)→Int:=fun(kind,data)=>(t56 ai kind data).val (Ty.cq [yI])
def V4:aG:=⟨[yI,yI], [yI],(@tt (Int×Int)),od⟩
theorem Wj:Sd 235 V4:=aO aA dY true 67 [] (fun A (kind,data)=>t56 A kind data) (fc Tryz.func235 fz) sz (fun((kind,data):Int×Int) hp h=>by
 show(t56 ai kind data).pre=true
 simp[t56,LT.pre,al,dh])
theorem om{k r t p m n s fr:Int}{d:List Int}:kK (k,r,(t,p,m,n,s),fr,d)=bif jg (k,r,(t,p,m,n,s),fr,d) then 0 else 50:=by
 have hc:ai.c .neq (ai.k j6 ((t,p,m,n,s),8)) 0=!gl (t,p,m,n,s):=by
  rw[show ai.k j6 ((t,p,m,n,s),8)=bif gl (t,p,m,n,s) then 0 else 40 from wU (t,p,m,n,s)];cases gl (t,p,m,n,s)<;>rfl
 have hl:ai.l d=(d.length:Int):=rfl
 have hiff:=ku (k:=k) (r:=r) (t:=t) (p:=p) (m:=m) (n:=n) (s:=s) (fr:=fr) (d:=d)
 have hq:(t==t&&(p==0&&(m==0&&(n==0&&(s==0&&true)))))=decide (p=0∧m=0∧n=0∧s=0):=by
  rw[Bool.eq_iff_iff];simp
 simp only[kK,t57,LT.val,hc,hl,aC,aB,ar,ay,aL,aS,aM,bg,hq,Bool.cond_eq_ite,hiff,Bool.and_eq_true,Bool.not_eq_true',decide_eq_true_eq,decide_eq_false_iff_not,beq_iff_eq,bne_iff_ne,ne_eq]
 cases gl (t,p,m,n,s)
 ·simp
 ·simp only[Bool.true_eq_false,if_false,true_and,Bool.not_true,Bool.false_eq_true,ite_false,reduceIte]
  generalize d.length=len
  repeat' split
  all_goals first|rfl|(exfalso;omega)|(exfalso;simp at *;omega)
open Go.Ev.Pl
def Gv(A:bK)(n:Int)(kind:Int):LT Bool Empty:=.br (A.c .eql kind 1) (.ret (A.c .eql n 40)) (.br (A.c .eql kind 3) (.ret (A.c .eql n 54)) (.br (A.c .eql kind 2) (.br (A.c .geq (A.b .sub .i64 n 29) 0) (.br (A.c .leq (A.b .sub .i64 n 29) 64) (.ret (A.c .eql (A.b .rem .i64 (A.b .sub .i64 n 29) 8) 0)) (.ret false)) (.ret false)) (.br (A.c .geq (A.b .sub .i64 n 79) 0) (.br (A.c .leq (A.b .sub .i64 n 79) 64) (.ret (A.c .eql (A.b .rem .i64 (A.b .sub .i64 n 79) 8) 0)) (.ret false)) (.ret false))))
def iT:(Int×Int)→Bool:=fun(n,kind)=>(Gv ai n kind).val (Ty.cq [.bool])
def Q7:aG:=⟨[yI,yI], [.bool],(@tt (Int×Int)),iT⟩
theorem My:Sd 238 Q7:=aO aA dY true 54 [] (fun A (n,kind)=>Gv A n kind) (fc Tryz.func238 fz) sz (fun((n,kind):Int×Int) hp h=>by
 show(Gv ai n kind).pre=true
 simp[Gv,LT.pre,al,dh])
def Et(A:bK)(bN:Int)(bB:List Int)(kind:Int)(unsentN:Int)(unsentB:List Int):LT ((Int×List Int)×(Int×List Int)×Int) Empty:=.br (A.c .neq kind 4) (.need (A.k (@tt ((Int×List Int)×(Int×List Int))) ((bN,bB),unsentN,unsentB)) (.br (A.c .neq (A.k cO ((bN,bB),unsentN,unsentB)).2 0) (.ret ((A.k cO ((bN,bB),unsentN,unsentB)).1,(0,([]:List Int)),(A.k cO ((bN,bB),unsentN,unsentB)).2)) (.br (A.c .neq kind 3) (.ret ((A.k cO ((bN,bB),unsentN,unsentB)).1,(0,([]:List Int)),(A.k cO ((bN,bB),unsentN,unsentB)).2)) (.need (A.k (@tt ((Int×List Int)×Int×Int)) ((A.k cO ((bN,bB),unsentN,unsentB)).1,(A.b .sub .i64 (A.k cO ((bN,bB),unsentN,unsentB)).1.1 24),(A.k cO ((bN,bB),unsentN,unsentB)).1.1)) (.ret ((A.k cO ((bN,bB),unsentN,unsentB)).1,(A.k bR ((A.k cO ((bN,bB),unsentN,unsentB)).1,(A.b .sub .i64 (A.k cO ((bN,bB),unsentN,unsentB)).1.1 24),(A.k cO ((bN,bB),unsentN,unsentB)).1.1)))))))) (.need (A.k (@tt ((Int×List Int)×Int×Int)) ((bN,bB),0,55)) (.br (A.c .neq (A.k bR ((bN,bB),0,55)).2 0) (.ret ((0,([]:List Int)),(0,([]:List Int)),(A.k bR ((bN,bB),0,55)).2)) (.need (A.k (@tt ((Int×List Int)×(Int×List Int))) ((A.k bR ((bN,bB),0,55)).1,0,([]:List Int))) (.br (A.c .neq (A.k cO ((A.k bR ((bN,bB),0,55)).1,0,([]:List Int))).2 0) (.ret ((0,([]:List Int)),(0,([]:List Int)),(A.k cO ((A.k bR ((bN,bB),0,55)).1,0,([]:List Int))).2)) (.need (A.k (@tt ((Int×List Int)×Int×Int)) ((A.k cO ((A.k bR ((bN,bB),0,55)).1,0,([]:List Int))).1,(A.b .sub .i64 (A.k cO ((A.k bR ((bN,bB),0,55)).1,0,([]:List Int))).1.1 24),(A.k cO ((A.k bR ((bN,bB),0,55)).1,0,([]:List Int))).1.1)) (.br (A.c .neq (A.k bR ((A.k cO ((A.k bR ((bN,bB),0,55)).1,0,([]:List Int))).1,(A.b .sub .i64 (A.k cO ((A.k bR ((bN,bB),0,55)).1,0,([]:List Int))).1.1 24),(A.k cO ((A.k bR ((bN,bB),0,55)).1,0,([]:List Int))).1.1)).2 0) (.ret ((0,([]:List Int)),(0,([]:List Int)),(A.k bR ((A.k cO ((A.k bR ((bN,bB),0,55)).1,0,([]:List Int))).1,(A.b .sub .i64 (A.k cO ((A.k bR ((bN,bB),0,55)).1,0,([]:List Int))).1.1 24),(A.k cO ((A.k bR ((bN,bB),0,55)).1,0,([]:List Int))).1.1)).2)) (.need (A.k (@tt ((Int×List Int)×(Int×List Int))) ((bN,bB),(A.k bR ((A.k cO ((A.k bR ((bN,bB),0,55)).1,0,([]:List Int))).1,(A.b .sub .i64 (A.k cO ((A.k bR ((bN,bB),0,55)).1,0,([]:List Int))).1.1 24),(A.k cO ((A.k bR ((bN,bB),0,55)).1,0,([]:List Int))).1.1)).1)) (.ret ((A.k cO ((bN,bB),(A.k bR ((A.k cO ((A.k bR ((bN,bB),0,55)).1,0,([]:List Int))).1,(A.b .sub .i64 (A.k cO ((A.k bR ((bN,bB),0,55)).1,0,([]:List Int))).1.1 24),(A.k cO ((A.k bR ((bN,bB),0,55)).1,0,([]:List Int))).1.1)).1)).1,(A.k bR ((A.k cO ((A.k bR ((bN,bB),0,55)).1,0,([]:List Int))).1,(A.b .sub .i64 (A.k cO ((A.k bR ((bN,bB),0,55)).1,0,([]:List Int))).1.1 24),(A.k cO ((A.k bR ((bN,bB),0,55)).1,0,([]:List Int))).1.1)).1,(A.k cO ((bN,bB),(A.k bR ((A.k cO ((A.k bR ((bN,bB),0,55)).1,0,([]:List Int))).1,(A.b .sub .i64 (A.k cO ((A.k bR ((bN,bB),0,55)).1,0,([]:List Int))).1.1 24),(A.k cO ((A.k bR ((bN,bB),0,55)).1,0,([]:List Int))).1.1)).1)).2)))))))))
def bf:((Int×List Int)×Int×(Int×List Int))→((Int×List Int)×(Int×List Int)×Int):=fun((bN,bB),kind,unsentN,unsentB)=>(Et ai bN bB kind unsentN unsentB).val (Ty.cq [(.struct [yI,yB]),(.struct [yI,yB]),yI])
def Uo:aG:=⟨[(.struct [yI,yB]),yI,(.struct [yI,yB])], [(.struct [yI,yB]),(.struct [yI,yB]),yI],(@tt ((Int×List Int)×Int×(Int×List Int))),bf⟩
theorem Rf:Sd 240 Uo:=aO aA dY true 110 [] (fun A ((bN,bB),kind,unsentN,unsentB)=>Et A bN bB kind unsentN unsentB) (fc Tryz.func240 fz) (sc Ry (sc Ja sz)) (fun(((bN,bB),kind,unsentN,unsentB):(Int×List Int)×Int×(Int×List Int)) hp h=>by
 show(Et ai bN bB kind unsentN unsentB).pre=true
 simp[Et,LT.pre,al,dh])
theorem BH{n:Nat}(hn:n≤4096):iT ((n:Int),1)=fR n 1∧iT ((n:Int),2)=fR n 2∧iT ((n:Int),3)=fR n 3∧iT ((n:Int),4)=fR n 4:=by
 have key:∀a:Nat,a≤100→(bif ai.c .geq (ai.b .sub .i64 (n:Int) (a:Int)) 0 then(bif ai.c .leq (ai.b .sub .i64 (n:Int) (a:Int)) 64 then ai.c .eql (ai.b .rem .i64 (ai.b .sub .i64 (n:Int) (a:Int)) 8) 0 else false) else false)=(decide (a≤n)&&decide (n≤a+64)&&decide ((n-a)%8=0)):=by
  intro a ha
  rw[bl,gW (by omega) (by omega),aS,ay,aC,Bo]
  by_cases h1:a≤n
  ·rw[Int.tmod_eq_emod_of_nonneg (by omega),show decide ((0:Int)≤(n:Int)-(a:Int))=true from by simp;omega,cond_true,show decide (a≤n)=true from by simpa using h1,Bool.true_and]
   by_cases h2:n≤a+64
   ·rw[show decide ((n:Int)-(a:Int)≤64)=true from by simp;omega,cond_true,show decide (n≤a+64)=true from by simpa using h2,Bool.true_and,Bool.eq_iff_iff]
    simp only[beq_iff_eq,decide_eq_true_eq]
    omega
   ·rw[show decide ((n:Int)-(a:Int)≤64)=false from by simp;omega,cond_false,show decide (n≤a+64)=false from by simpa using h2,Bool.false_and]
  ·rw[show decide ((0:Int)≤(n:Int)-(a:Int))=false from by simp;omega,cond_false,show decide (a≤n)=false from by simpa using h1,Bool.false_and,Bool.false_and]
 refine⟨?_,?_,?_,?_⟩
 ·show((n:Int)==40)=(n==40)
  rw[Bool.eq_iff_iff];simp;omega
 ·refine(key 29 (by decide)).trans ?_
  show _=(decide (29≤n)&&decide (n≤93)&&(n%8==5))
  rw[Bool.eq_iff_iff];simp;omega
 ·show((n:Int)==54)=(n==54)
  rw[Bool.eq_iff_iff];simp;omega
 ·refine(key 79 (by decide)).trans ?_
  show _=(decide (79≤n)&&decide (n≤143)&&(n%8==7))
  rw[Bool.eq_iff_iff];simp;omega
theorem vy{n m k:Int}{b u:List Int}(hk:k=1∨k=2):bf ((n,b),k,(m,u))=((cN ((n,b),(m,u))).1,zB,(cN ((n,b),(m,u))).2):=by
 have h1:ai.c .neq k 4=true:=fx (by omega)
 have h3:ai.c .neq k 3=true:=fx (by omega)
 simp only[bf,Et,LT.val,h1,h3,cond_true]
 show(bif _ then _ else _)=_
 cases ai.c .neq (ai.k cO ((n,b),(m,u))).2 0<;>rfl
theorem EA{n m:Int}{b u:List Int}:bf ((n,b),3,(m,u))=bif (cN ((n,b),(m,u))).2 != 0 then((cN ((n,b),(m,u))).1,zB,(cN ((n,b),(m,u))).2) else((cN ((n,b),(m,u))).1,bV ((cN ((n,b),(m,u))).1,ai.b .sub .i64 (cN ((n,b),(m,u))).1.1 24,(cN ((n,b),(m,u))).1.1)):=by kernel_rfl
theorem DW{n m:Int}{b u:List Int}:bf ((n,b),4,(m,u))=bif (bV ((n,b),0,55)).2 != 0 then(zB,zB,(bV ((n,b),0,55)).2) else
  bif (cN ((bV ((n,b),0,55)).1,zB)).2 != 0 then(zB,zB,(cN ((bV ((n,b),0,55)).1,zB)).2) else
  bif (bV ((cN ((bV ((n,b),0,55)).1,zB)).1,ai.b .sub .i64 (cN ((bV ((n,b),0,55)).1,zB)).1.1 24,(cN ((bV ((n,b),0,55)).1,zB)).1.1)).2 != 0 then(zB,zB,(bV ((cN ((bV ((n,b),0,55)).1,zB)).1,ai.b .sub .i64 (cN ((bV ((n,b),0,55)).1,zB)).1.1 24,(cN ((bV ((n,b),0,55)).1,zB)).1.1)).2) else
  ((cN ((n,b),(bV ((cN ((bV ((n,b),0,55)).1,zB)).1,ai.b .sub .i64 (cN ((bV ((n,b),0,55)).1,zB)).1.1 24,(cN ((bV ((n,b),0,55)).1,zB)).1.1)).1)).1,(bV ((cN ((bV ((n,b),0,55)).1,zB)).1,ai.b .sub .i64 (cN ((bV ((n,b),0,55)).1,zB)).1.1 24,(cN ((bV ((n,b),0,55)).1,zB)).1.1)).1,(cN ((n,b),(bV ((cN ((bV ((n,b),0,55)).1,zB)).1,ai.b .sub .i64 (cN ((bV ((n,b),0,55)).1,zB)).1.1 24,(cN ((bV ((n,b),0,55)).1,zB)).1.1)).1)).2):=by kernel_rfl
theorem rW{l:List Bool}(h1:24≤l.length)(h2:l.length≤4096):bV (bM l,ai.b .sub .i64 (bM l).1 24,(bM l).1)=(bM (l.drop (l.length-24)),0):=by
 have hb:(bM l).1=((l.length:Nat):Int):=rfl
 rw[hb,show ai.b .sub .i64 ((l.length:Nat):Int) 24=((l.length-24:Nat):Int) from iX (j:=24) h1 (by omega),Cr h2 (by omega) (Nat.le_refl _),List.take_length]
theorem Cw{n:Nat}{b:List Int}(hok:bS ((n:Int),b)=true)(hn:n=54):bf (((n:Int),b),3,(0, []))=bif over 0 (unpack n b) != 0 then(zB,zB,21) else(bM ((unpack n b).take 30),bM (((unpack n b).drop 6).take 24),0):=by
 have hl:(bi ((n:Int),b)).length=n:=by rw[fB];rfl
 have e:=lH (u:=(0, [])) hok rfl (by omega)
 rw[hl,show over 0 (bi ((0:Int),([]:List Int)))=0 from rfl,show n-24=30 from by omega,show bi ((n:Int),b)=unpack n b from rfl] at e
 have h30:((unpack n b).take 30).length=30:=by rw[List.length_take,aW];omega
 have e2:=rW (l:=(unpack n b).take 30) (by omega) (by omega)
 rw[h30,List.drop_take,show 30-24=6 from rfl,show 30-6=24 from rfl] at e2
 rw[EA,e]
 cases over 0 (unpack n b) != 0
 ·simp only[cond_false]
  rw[e2];rfl
 ·rfl
theorem B4{n:Nat}{b:List Int}(hok:bS ((n:Int),b)=true)(hn:79≤n)(hn2:n≤143):bf (((n:Int),b),4,(0, []))=bif over 0 ((unpack n b).take 55) != 0 then(zB,zB,21) else bif over (over 0 (((unpack n b).drop 7).take 24)) (unpack n b) != 0 then(zB,bM (((unpack n b).drop 7).take 24),21) else(bM ((unpack n b).take (n-24)),bM (((unpack n b).drop 7).take 24),0):=by
 have hl:(bi ((n:Int),b)).length=n:=by rw[fB];rfl
 have h55:((unpack n b).take 55).length=55:=by rw[List.length_take,aW];omega
 have h31:((unpack n b).take 31).length=31:=by rw[List.length_take,aW];omega
 have e1:bV (((n:Int),b),0,55)=(bM ((unpack n b).take 55),0):=by
  rw[bV]
  simp only[hok]
  rw[show decide ((n:Int)<55)=false from by simp;omega]
  rfl
 have e2:cN (bM ((unpack n b).take 55),zB)=bif over 0 ((unpack n b).take 55) != 0 then(zB,21) else(bM ((unpack n b).take 31),0):=by
  have hk:bS (bM ((unpack n b).take 55))=true:=g_ (by omega)
  have:=lH (n:=(bM ((unpack n b).take 55)).1) (b:=(bM ((unpack n b).take 55)).2) (u:=zB) hk rfl (by rw[show((bM ((unpack n b).take 55)).1,(bM ((unpack n b).take 55)).2)=bM ((unpack n b).take 55) from rfl,fY];omega)
  rw[show((bM ((unpack n b).take 55)).1,(bM ((unpack n b).take 55)).2)=bM ((unpack n b).take 55) from rfl,fY,h55,List.take_take,show over 0 (bi zB)=0 from rfl] at this
  exact this
 have e3:bV (bM ((unpack n b).take 31),ai.b .sub .i64 (bM ((unpack n b).take 31)).1 24,(bM ((unpack n b).take 31)).1)=(bM (((unpack n b).drop 7).take 24),0):=by
  have:=rW (l:=(unpack n b).take 31) (by omega) (by omega)
  rw[h31,List.drop_take] at this
  exact this
 have e4:cN (((n:Int),b),bM (((unpack n b).drop 7).take 24))=bif over (over 0 (((unpack n b).drop 7).take 24)) (unpack n b) != 0 then(zB,21) else(bM ((unpack n b).take (n-24)),0):=by
  rw[lH hok (g_ (by rw[List.length_take];omega)) (by omega),hl,fY];rfl
 rw[DW,e1]
 simp only[e2]
 cases over 0 ((unpack n b).take 55) != 0
 ·simp only[cond_false,e3]
  rw[e4]
  cases over (over 0 (((unpack n b).drop 7).take 24)) (unpack n b) != 0<;>rfl
 ·rfl
end Go.Ev.M
