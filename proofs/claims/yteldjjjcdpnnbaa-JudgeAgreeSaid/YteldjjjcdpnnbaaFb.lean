/-
  PROVED: what the functions of the packages crc, cstate, metronomeref02 and metronomeref04 compute, and some of frame and metronomeref05. Conditions: none.
-/
import Derived.Test.YteldjjjcdpnnbaaFa
namespace Go.Ev.M
open Go.Proofs
set_option maxRecDepth 100000
set_option linter.unusedVariables false
set_option linter.unusedSimpArgs false
open Go.Ev.Pl
def Bl(A:cH)(r:Int):LT Int Empty:=.br (A.c .eql (A.b .shr .u32 r 23) 1) (.ret (A.b .xor .u32 (A.b .and .u32 (A.b .shl .u32 r 1) 16777215) 6122955)) (.ret (A.b .and .u32 (A.b .shl .u32 r 1) 16777215))
def uD:Int→Int:=fun r=>(Bl ai r).val (Ty.dC [(.int .u32)])
def Ic:aH:=⟨[(.int .u32)], [(.int .u32)],(@tt Int),uD⟩
theorem Ft:Sd 63 Ic:=aV aJ iC true 35 [] (fun A r=>Bl A r) (fc Try.func63 fz) sz (fun(r:Int) hp h=>by
 show(Bl ai r).pre=true
 simp[Bl,LT.pre])
theorem D1{a:Int}(h1:0≤a)(h2:a≤4294967295):IntKind.u32.wrap a=a:=IntWalk.u32_in a ⟨h1,h2⟩
theorem xj{a b:Nat}(ha:a<4294967296)(hb:b<4294967296):ai.b .xor .u32 (a:Int) (b:Int)=((a ^^^ b:Nat):Int):=by
 show IntKind.u32.wrap ((BitVec.ofInt 32 (a:Int) ^^^ BitVec.ofInt 32 (b:Int)).toNat:Int)=_
 rw[BitVec.ofInt_natCast,BitVec.ofInt_natCast,BitVec.toNat_xor,BitVec.toNat_ofNat,BitVec.toNat_ofNat,Nat.mod_eq_of_lt ha,Nat.mod_eq_of_lt hb]
 have:a ^^^ b<2^32:=Nat.xor_lt_two_pow ha hb
 rw[D1 (by omega) (by omega)]
theorem E_{a:Nat}(ha:a<4294967296):ai.b .and .u32 (a:Int) 16777215=((a%16777216:Nat):Int):=by
 show IntKind.u32.wrap ((BitVec.ofInt 32 (a:Int) &&& BitVec.ofInt 32 ((16777215:Nat):Int)).toNat:Int)=_
 rw[BitVec.ofInt_natCast,BitVec.ofInt_natCast,BitVec.toNat_and,BitVec.toNat_ofNat,BitVec.toNat_ofNat,Nat.mod_eq_of_lt ha,show 16777215%2^32=2^24-1 from rfl,Nat.and_two_pow_sub_one_eq_mod,D1 (by omega) (by omega)]
theorem zp{a k:Nat}(hk:k≤32)(h:a*2^k<4294967296):ai.b .shl .u32 (a:Int) (k:Int)=((a*2^k:Nat):Int):=by
 show IntKind.u32.wrap ((a:Int)*2^min (k:Int).toNat 32)=_
 rw[Int.toNat_natCast,Nat.min_eq_left hk,show(a:Int)*2^k=((a*2^k:Nat):Int) from by simp,D1 (by omega) (by omega)]
theorem DI{r:Nat}(hr:r<16777216):uD (r:Int)=((step1 r false:Nat):Int):=by
 simp only[uD,Bl,LT.val]
 have h1:ai.b .shr .u32 (r:Int) 23=((r/2^23:Nat):Int):=Cw (n:=23) (by omega) (by decide)
 have h2:ai.b .and .u32 (ai.b .shl .u32 (r:Int) 1) 16777215=((2*r%16777216:Nat):Int):=by
  have h3:ai.b .shl .u32 (r:Int) 1=((r*2^1:Nat):Int):=zp (k:=1) (by decide) (by omega)
  rw[h3,E_ (by omega),Nat.pow_one,Nat.mul_comm]
 rw[h1,h2,step1,Bool.bne_false]
 have h4:ai.c .eql ((r/2^23:Nat):Int) 1=decide (8388608≤r):=by
  rw[aM,Bool.eq_iff_iff,decide_eq_true_eq,beq_iff_eq]
  omega
 rw[h4]
 cases decide (8388608≤r)
 ·rfl
 ·have:ai.b .xor .u32 ((2*r%16777216:Nat):Int) 6122955=((2*r%16777216 ^^^ 6122955:Nat):Int):=xj (b:=6122955) (by omega) (by decide)
  rw[cond_true,cond_true,this]
structure GI where
 (a0 a1 a2 a3 a4 a5 a6 a7 a8 a9 lu mg a12 sU lf lz a16 a17 qs j3 a20 a21 a22 a23 a24 a25 a26 a27 a28 a29 a30 a31 a32:Int)
structure Gb where
 (b0 b2 b4 b5 b6 b7 b8 b9 b10 b11 b12 b13 wz xw yu yA sO ij i6 iN je lN lM ob my jR jU pF pN pj tY ui tN tL:Int)
inductive EH where
 | c0 (p:GI)
 | c1 (p:Gb) (b1:Int) (b3:Int)
noncomputable def GB:EH→iH
 | .c0 p=>⟨[⟨61,20,(en [(0,.ptr 0 0),(1,.ptr 1 0),(4,vi p.a0)]),[.inLoop (cw Try.f61 [1,1,0,1,0,0]),.inBlock 0,.code (cw Try.f61 [1,1,1])],[],none⟩],[.flat false [.int .u32 false p.a1,.int .u32 false p.a2,.int .u32 false p.a3,.int .u32 false p.a4,.int .u32 false p.a5,.int .u32 false p.a6,.int .u32 false p.a7,.int .u32 false p.a8,.int .u32 false p.a9,.int .u32 false p.lu,.int .u32 false p.mg,.int .u32 false p.a12,.int .u32 false p.sU,.int .u32 false p.lf,.int .u32 false p.lz,.int .u32 false p.a16],.flat false [.int .u32 false p.a17,.int .u32 false p.qs,.int .u32 false p.j3,.int .u32 false p.a20,.int .u32 false p.a21,.int .u32 false p.a22,.int .u32 false p.a23,.int .u32 false p.a24,.int .u32 false p.a25,.int .u32 false p.a26,.int .u32 false p.a27,.int .u32 false p.a28,.int .u32 false p.a29,.int .u32 false p.a30,.int .u32 false p.a31,.int .u32 false p.a32],.dead]⟩
 | .c1 p b1 b3=>⟨[⟨61,20,(en [(0,.ptr 0 0),(1,.ptr 1 0),(2,vi p.b0),(3,.int .u32 false b1),(4,vi p.b2),(10,vi b3)]),[.inLoop (cw Try.f61 [1,1,0,1,0,0,1,1,0,0,1,1,0,1,0,0]),.inBlock 2,.code (cw Try.f61 [1,1,0,1,0,0,1,1,0,0,1,1,1]),.inBlock 1,.code (cw Try.f61 [1,1,0,1,0,0,1,1,1]),.inLoop (cw Try.f61 [1,1,0,1,0,0]),.inBlock 0,.code (cw Try.f61 [1,1,1])],[],none⟩],[.flat false [.int .u32 false p.b4,.int .u32 false p.b5,.int .u32 false p.b6,.int .u32 false p.b7,.int .u32 false p.b8,.int .u32 false p.b9,.int .u32 false p.b10,.int .u32 false p.b11,.int .u32 false p.b12,.int .u32 false p.b13,.int .u32 false p.wz,.int .u32 false p.xw,.int .u32 false p.yu,.int .u32 false p.yA,.int .u32 false p.sO,.int .u32 false p.ij],.flat false [.int .u32 false p.i6,.int .u32 false p.iN,.int .u32 false p.je,.int .u32 false p.lN,.int .u32 false p.lM,.int .u32 false p.ob,.int .u32 false p.my,.int .u32 false p.jR,.int .u32 false p.jU,.int .u32 false p.pF,.int .u32 false p.pN,.int .u32 false p.pj,.int .u32 false p.tY,.int .u32 false p.ui,.int .u32 false p.tN,.int .u32 false p.tL],.dead]⟩
def IE(A:cH):LT (List Int) EH:=.more (.c0 ⟨0,0,0,0,0,0,0,0,0,0,0,0,0,0,0,0,0,0,0,0,0,0,0,0,0,0,0,0,0,0,0,0,0⟩)
def Je(A:cH):EH→LT (List Int) EH
 | .c0 p=>.br (A.c .lss p.a0 16) (.more (.c1 ⟨p.a0,p.a0,p.a1,p.a2,p.a3,p.a4,p.a5,p.a6,p.a7,p.a8,p.a9,p.lu,p.mg,p.a12,p.sU,p.lf,p.lz,p.a16,p.a17,p.qs,p.j3,p.a20,p.a21,p.a22,p.a23,p.a24,p.a25,p.a26,p.a27,p.a28,p.a29,p.a30,p.a31,p.a32⟩ (A.b .shl .u32 (A.v .u32 p.a0) 20) 0)) (.ret [p.a17,p.qs,p.j3,p.a20,p.a21,p.a22,p.a23,p.a24,p.a25,p.a26,p.a27,p.a28,p.a29,p.a30,p.a31,p.a32])
 | .c1 p b1 b3=>.br (A.c .lss b3 4) (.need (A.k (@tt Int) b1) (.more (.c1 p (A.k uD b1) (A.b .add .i64 b3 1)))) (.need (A.and (A.c .leq 0 p.b0) (A.c .lss p.b0 16)) (.more (.c0 ⟨(A.b .add .i64 p.b2 1),p.b4,p.b5,p.b6,p.b7,p.b8,p.b9,p.b10,p.b11,p.b12,p.b13,p.wz,p.xw,p.yu,p.yA,p.sO,p.ij,(A.n (.int .u32) (A.set [p.i6,p.iN,p.je,p.lN,p.lM,p.ob,p.my,p.jR,p.jU,p.pF,p.pN,p.pj,p.tY,p.ui,p.tN,p.tL] p.b0 b1) 0:Int),(A.n (.int .u32) (A.set [p.i6,p.iN,p.je,p.lN,p.lM,p.ob,p.my,p.jR,p.jU,p.pF,p.pN,p.pj,p.tY,p.ui,p.tN,p.tL] p.b0 b1) 1:Int),(A.n (.int .u32) (A.set [p.i6,p.iN,p.je,p.lN,p.lM,p.ob,p.my,p.jR,p.jU,p.pF,p.pN,p.pj,p.tY,p.ui,p.tN,p.tL] p.b0 b1) 2:Int),(A.n (.int .u32) (A.set [p.i6,p.iN,p.je,p.lN,p.lM,p.ob,p.my,p.jR,p.jU,p.pF,p.pN,p.pj,p.tY,p.ui,p.tN,p.tL] p.b0 b1) 3:Int),(A.n (.int .u32) (A.set [p.i6,p.iN,p.je,p.lN,p.lM,p.ob,p.my,p.jR,p.jU,p.pF,p.pN,p.pj,p.tY,p.ui,p.tN,p.tL] p.b0 b1) 4:Int),(A.n (.int .u32) (A.set [p.i6,p.iN,p.je,p.lN,p.lM,p.ob,p.my,p.jR,p.jU,p.pF,p.pN,p.pj,p.tY,p.ui,p.tN,p.tL] p.b0 b1) 5:Int),(A.n (.int .u32) (A.set [p.i6,p.iN,p.je,p.lN,p.lM,p.ob,p.my,p.jR,p.jU,p.pF,p.pN,p.pj,p.tY,p.ui,p.tN,p.tL] p.b0 b1) 6:Int),(A.n (.int .u32) (A.set [p.i6,p.iN,p.je,p.lN,p.lM,p.ob,p.my,p.jR,p.jU,p.pF,p.pN,p.pj,p.tY,p.ui,p.tN,p.tL] p.b0 b1) 7:Int),(A.n (.int .u32) (A.set [p.i6,p.iN,p.je,p.lN,p.lM,p.ob,p.my,p.jR,p.jU,p.pF,p.pN,p.pj,p.tY,p.ui,p.tN,p.tL] p.b0 b1) 8:Int),(A.n (.int .u32) (A.set [p.i6,p.iN,p.je,p.lN,p.lM,p.ob,p.my,p.jR,p.jU,p.pF,p.pN,p.pj,p.tY,p.ui,p.tN,p.tL] p.b0 b1) 9:Int),(A.n (.int .u32) (A.set [p.i6,p.iN,p.je,p.lN,p.lM,p.ob,p.my,p.jR,p.jU,p.pF,p.pN,p.pj,p.tY,p.ui,p.tN,p.tL] p.b0 b1) 10:Int),(A.n (.int .u32) (A.set [p.i6,p.iN,p.je,p.lN,p.lM,p.ob,p.my,p.jR,p.jU,p.pF,p.pN,p.pj,p.tY,p.ui,p.tN,p.tL] p.b0 b1) 11:Int),(A.n (.int .u32) (A.set [p.i6,p.iN,p.je,p.lN,p.lM,p.ob,p.my,p.jR,p.jU,p.pF,p.pN,p.pj,p.tY,p.ui,p.tN,p.tL] p.b0 b1) 12:Int),(A.n (.int .u32) (A.set [p.i6,p.iN,p.je,p.lN,p.lM,p.ob,p.my,p.jR,p.jU,p.pF,p.pN,p.pj,p.tY,p.ui,p.tN,p.tL] p.b0 b1) 13:Int),(A.n (.int .u32) (A.set [p.i6,p.iN,p.je,p.lN,p.lM,p.ob,p.my,p.jR,p.jU,p.pF,p.pN,p.pj,p.tY,p.ui,p.tN,p.tL] p.b0 b1) 14:Int),(A.n (.int .u32) (A.set [p.i6,p.iN,p.je,p.lN,p.lM,p.ob,p.my,p.jR,p.jU,p.pF,p.pN,p.pj,p.tY,p.ui,p.tN,p.tL] p.b0 b1) 15:Int)⟩)))
def goT{R Y:Type}(step:Y→LT R Y):Nat→LT R Y→Option R
 | 0,_=>none
 | _+1,.ret r=>some r
 | n+1,.more y=>goT step n (step y)
 | n+1,.br b t e=>bif b then goT step n t else goT step n e
 | n+1,.need b t=>bif b then goT step n t else none
 | _+1,_=>none
theorem Di{R Y:Type}{step:Y→LT R Y}:∀{n:Nat} {t:LT R Y} {r:R},goT step n t=some r→aA step t r:=by
 intro n
 induction n with
 | zero=>intro t r h;cases h
 | succ n ih=>
   intro t r h
   cases t with
   | ret x=>cases h;exact .ret _
   | more y=>exact .more (ih h)
   | br b t e=>
     rw[goT] at h
     cases b
     ·exact(ah rfl).2 (ih h)
     ·exact(aj rfl).2 (ih h)
   | need b t=>
     rw[goT] at h
     cases b
     ·cases h
     ·exact af.2 ⟨rfl,ih h⟩
   | eqs p t=>cases h
   | bad m s=>cases h
def I9:List Int:=[0,6122955,12245910,15185501,2677479,7714604,9568625,13593786,5354958,841733,15429208,11928467,7958313,2360034,12825791,10410356]
theorem CU:∀i:Fin 16,I9.getD i.val 0=((vV.getD i.val 0:Nat):Int):=by decide +kernel
theorem Cr:∀i:Fin 16,vV.getD i.val 0<16777216:=by decide +kernel
theorem GR:aA (Je ai) (IE ai) I9:=Di (n:=400) (by kernel_rfl)
def gG:Unit→(List Int):=fun _=>[0,6122955,12245910,15185501,2677479,7714604,9568625,13593786,5354958,841733,15429208,11928467,7958313,2360034,12825791,10410356]
def I8:aH:=⟨[], [(.arr 16 (.int .u32))],(@tt Unit),gG⟩
theorem IT:Sd 61 I8:=aX aJ iC true 21 [⟨61,3, [[0,1,4]]⟩,⟨61,7, [[0,1,2,3,4,10]]⟩] [] (fun A _=>IE A) Je GB (fc Try.func61 fz) (sc Ft sz) (fun A y=>match y with |.c0 p=>⟨34,by kernel_rfl,by kernel_rfl⟩|.c1 p b1 b3=>⟨25,by kernel_rfl,by kernel_rfl⟩) fun _ hp h=>GR
open Go.Ev.Pl
structure Dv where
 (a1:List Bool)
inductive Az where
 | c0 (p:Dv) (a0:Int) (a2:Int)
noncomputable def G1:Az→iH
 | .c0 p a0 a2=>⟨[⟨38,29,(en [(0,.int .u32 false a0),(1,.sl .bool p.a1),(5,vi a2)]),[.inLoop (cw Try.f38 [1,0,1,0,0]),.inBlock 0,.code (cw Try.f38 [1,1])],[],none⟩],[.dead]⟩
def t160(A:cH)(r:Int)(l:List Bool):LT Int Az:=.more (.c0 ⟨l⟩ r 0)
def Dl(A:cH):Az→LT Int Az
 | .c0 p a0 a2=>.br (A.c .lss a2 (A.l p.a1)) (.need (A.and (A.c .leq 0 a2) (A.c .lss a2 (A.l p.a1))) (.br (A.not (A.q (A.c .eql (A.b .rem .u32 (A.b .shr .u32 a0 23) 2) 1) (A.n .bool p.a1 a2:Bool))) (.more (.c0 p (A.b .xor .u32 (A.b .rem .u32 (A.b .shl .u32 a0 1) 16777216) 6122955) (A.b .add .i64 a2 1))) (.more (.c0 p (A.b .rem .u32 (A.b .shl .u32 a0 1) 16777216) (A.b .add .i64 a2 1))))) (.ret a0)
theorem CM{l:List Bool}(hl:l.length≤140737488355328):∀(j i r:Nat) (p:Dv),p.a1=l→l.length-i=j→i≤l.length→r<16777216→aA (Dl ai) (.more (.c0 p (r:Int) (i:Int))) ((over r (l.drop i):Nat):Int):=by
 intro j
 induction j with
 | zero=>
   intro i r p h1 hj hi hr
   have:i=l.length:=by omega
   subst this
   simp only[ao,Dl]
   refine(ah (by rw[show ai.l p.a1=(l.length:Int) from by rw[h1];rfl,aN];simp)).2 ?_
   rw[List.drop_length,kB]
   exact .ret _
 | succ j ih=>
   intro i r p h1 hj hi hr
   have hi':i<l.length:=by omega
   simp only[ao,Dl]
   refine(aj (by rw[show ai.l p.a1=(l.length:Int) from by rw[h1];rfl,aN];simp;omega)).2 (af.2 ⟨by rw[h1];exact gB hi',?_⟩)
   have hn:(ai.n .bool p.a1 (i:Int):Bool)=l[i]:=by rw[h1];exact getD_in hi' _
   have h4:ai.c .eql (ai.b .rem .u32 (ai.b .shr .u32 (r:Int) 23) 2) 1=decide (8388608≤r):=by
    rw[show ai.b .shr .u32 (r:Int) 23=((r/2^23:Nat):Int) from Cw (n:=23) (by omega) (by decide),xk]
    exact decide_eq_decide.2 (by omega)
   have h2:ai.b .rem .u32 (ai.b .shl .u32 (r:Int) 1) 16777216=((2*r%16777216:Nat):Int):=by
    rw[show ai.b .shl .u32 (r:Int) 1=((r*2^1:Nat):Int) from zp (k:=1) (by decide) (by omega),vG,Int.tmod_eq_emod_of_nonneg (by omega)]
    omega
   have hb:ai.not (ai.q (ai.c .eql (ai.b .rem .u32 (ai.b .shr .u32 (r:Int) 23) 2) 1) (ai.n .bool p.a1 (i:Int):Bool))=(decide (8388608≤r) != l[i]):=by
    rw[h4,hn];rfl
   have hd:over r (l.drop i)=over (step1 r l[i]) (l.drop (i+1)):=by rw[List.drop_eq_getElem_cons hi',dE]
   have hm:=ih (i+1) (step1 r l[i]) p h1 (by omega) (by omega) (iG _ _)
   rw[hd]
   rw[step1] at hm ⊢
   cases hx:(decide (8388608≤r) != l[i])
   ·refine(ah (hb.trans hx)).2 ?_
    rw[hx] at hm
    exact aW (congrArg LT.more (congr (congrArg (Az.c0 p) h2) (fH (by omega)))) hm
   ·refine(aj (hb.trans hx)).2 ?_
    rw[hx] at hm
    refine aW (congrArg LT.more (congr (congrArg (Az.c0 p) ?_) (fH (by omega)))) hm
    rw[h2]
    exact xj (b:=6122955) (by omega) (by decide)
theorem BF{r:Int}{l:List Bool}(h:Ty.cr [(.int .u32),(.slice .bool)] (r,l)):l.length≤140737488355328:=by
 have h1:(0≤r∧r≤4294967295)∧l.length≤b_∧_:=h
 exact h1.2.1
theorem AF{r:Int}{l:List Bool}(h:Ty.cr [(.int .u32),(.slice .bool)] (r,l))(hp:(decide (0≤r)&&decide (r<16777216))=true):aA (Dl ai) (t160 ai r l) ((over r.toNat l:Nat):Int):=by
 rw[Bool.and_eq_true,decide_eq_true_eq,decide_eq_true_eq] at hp
 obtain⟨m,rfl⟩:=Int.eq_ofNat_of_zero_le hp.1
 exact CM (BF h) l.length 0 m _ rfl (by omega) (by omega) (by omega)
def y_:(Int×List Bool)→Int:=fun(r,l)=>((over r.toNat l:Nat):Int)
def uP:(Int×List Bool)→Bool:=fun(r,_)=>decide (0≤r)&&decide (r<16777216)
def Jc:aH:=⟨[(.int .u32),(.slice .bool)], [(.int .u32)],uP,y_⟩
theorem Jb:Sd 38 Jc:=aX aJ iC true 17 [⟨38,2, [[0,1,5]]⟩] [] (fun A (r,l)=>t160 A r l) Dl G1 (fc Try.func38 fz) sz (fun A y=>match y with |.c0 p a0 a2=>⟨54,by kernel_rfl,by kernel_rfl⟩) fun((r,l):Int×List Bool) hp h=>AF h hp
structure CP where
 (a0:List (Int×List Int))
inductive Cu where
 | c0 (p:CP) (a1:Int) (a2:Int)
noncomputable def Hu:Cu→iH
 | .c0 p a1 a2=>⟨[⟨27,26,(en [(0,.sl (.struct [yI,yB]) p.a0),(4,.int .u32 false a1),(5,vi a2)]),[.inLoop (cw Try.f27 [1,1,0,1,0,0]),.inBlock 0,.code (cw Try.f27 [1,1,1])],[],none⟩],[.dead]⟩
def JH(A:cH)(l:List (Int×List Int)):LT (Int×Int) Cu:=.more (.c0 ⟨l⟩ 0 0)
def Dr(A:cH):Cu→LT (Int×Int) Cu
 | .c0 p a1 a2=>.br (A.c .lss a2 (A.l p.a0)) (.need (A.and (A.c .leq 0 a2) (A.c .lss a2 (A.l p.a0))) (.need (A.k (@tt ((Int×List Int))) (A.n (.struct [yI,yB]) p.a0 a2:Int×List Int)) (.br (A.c .neq (A.k iL (A.n (.struct [yI,yB]) p.a0 a2:Int×List Int)) 0) (.ret (0,10)) (.need (A.and (A.c .leq 0 a2) (A.c .lss a2 (A.l p.a0))) (.need (A.k (@tt ((Int×List Int))) (A.n (.struct [yI,yB]) p.a0 a2:Int×List Int)) (.need (A.k uP (a1,(A.k iM (A.n (.struct [yI,yB]) p.a0 a2:Int×List Int)))) (.more (.c0 p (A.k y_ (a1,(A.k iM (A.n (.struct [yI,yB]) p.a0 a2:Int×List Int)))) (A.b .add .i64 a2 1))))))))) (.ret (a1,0))
theorem yt{r:Nat}(h:r<16777216)(l:List Bool):ai.k uP ((r:Int),l)=true:=by
 rw[ap,uP,Bool.and_eq_true,decide_eq_true_eq,decide_eq_true_eq]
 omega
theorem EN{l:List (Int×List Int)}(hl:l.length≤140737488355328):∀(j i:Nat) (p:CP),p.a0=l→l.length-i=j→i≤l.length→(∀x∈l.take i,bf x=true)→aA (Dr ai) (.more (.c0 p ((over 0 ((l.take i).flatMap bl):Nat):Int) (i:Int))) (qd l):=by
 intro j
 induction j with
 | zero=>
   intro i p h1 hj hi hok
   have:i=l.length:=by omega
   subst this
   rw[List.take_length] at hok ⊢
   simp only[ao,Dr]
   refine(ah (by rw[show ai.l p.a0=(l.length:Int) from by rw[h1];rfl,aN];simp)).2 ?_
   rw[qd,List.all_eq_true.2 hok]
   exact .ret _
 | succ j ih=>
   intro i p h1 hj hi hok
   simp only[ao,Dr]
   have hi':i<l.length:=by omega
   refine(aj (by rw[show ai.l p.a0=(l.length:Int) from by rw[h1];rfl,aN];simp;omega)).2 (af.2 ⟨by rw[h1];exact gB hi',af.2 ⟨rfl,?_⟩⟩)
   have hn1:(ai.n (.struct [(.int .i64),(.slice (.int .u8))]) p.a0 (i:Int):Int×List Int)=l[i]:=by rw[h1,kg hi']
   rw[hn1]
   have hn:(ai.k iL l[i])=bif bf l[i] then 0 else 10:=by rw[ap,iL]
   rw[hn]
   cases hx:bf l[i]
   ·refine(aj rfl).2 ?_
    rw[qd,show l.all bf=false from List.all_eq_false.2 ⟨l[i],List.getElem_mem hi',by rw[hx];decide⟩]
    exact .ret _
   ·refine(ah rfl).2 ?_
    have hL:(ai.k iM l[i])=bl l[i]:=by rw[ap,iM,hx];rfl
    have hlt:=dN (r:=0) (by decide) ((l.take i).flatMap bl)
    have hc:ai.k y_ (((over 0 ((l.take i).flatMap bl):Nat):Int),bl l[i])=((over 0 ((l.take (i+1)).flatMap bl):Nat):Int):=by
     rw[ap,y_,Int.toNat_natCast,uF hi',dh]
    rw[hL]
    refine af.2 ⟨by rw[h1];exact gB hi',af.2 ⟨rfl,af.2 ⟨?_,?_⟩⟩⟩
    ·exact yt hlt _
    ·refine aW (congrArg LT.more (congr (congrArg (Cu.c0 p) hc) (fH (by omega)))) (ih (i+1) p h1 (by omega) (by omega) ?_)
     intro x hx2
     rw[List.take_succ_eq_append_getElem hi'] at hx2
     rcases List.mem_append.1 hx2 with h3|h3
     ·exact hok x h3
     ·rw[List.mem_singleton.1 h3];exact hx
def jT:(List (Int×List Int))→(Int×Int):=qd
def Ib:aH:=⟨[(.slice (.struct [yI,yB]))], [(.int .u32),yI],(@tt (List (Int×List Int))),jT⟩
theorem I_:Sd 27 Ib:=aX aJ iC true 22 [⟨27,3, [[0,4,5]]⟩] [] (fun A l=>JH A l) Dr Hu (fc Try.func27 fz) (sc Ee (sc FU (sc Jb sz))) (fun A y=>match y with |.c0 p a1 a2=>⟨46,by kernel_rfl,by kernel_rfl⟩) fun(l:List (Int×List Int)) hp h=>by
 show aA (Dr ai) (JH ai l) (jT l)
 exact EN (nH h).1 l.length 0 _ rfl (by omega) (by omega) (by intro x hx;cases hx)
open Go.Ev.Pl
structure sw where
 (a0:Int) (a1:List (Int×List Int)) (a2 a3 a4 a5 a6 a7 a8 a9 lu mg a12 sU lf lz a16 a17 qs j3:Int)
structure xU where
 (b2:List (Int×List Int)) (b3 b4 b5 b6 b7 b8 b9 b10 b11 b12 b13 wz xw yu yA sO ij i6 iN:Int) (je:List Int)
structure xV where
 (c2:List (Int×List Int)) (c3 c4 c5:Int) (c6:List Int) (c7 c8 c9 c10 c11 c12 c13 c14 gY c16 CB v_ c19 c20 c21 zP:Int)
inductive zJ where
 | c0 (p:sw)
 | c1 (p:xU) (b0:Int) (b1:Int)
 | c2 (p:xV) (c0:Int) (c1:Int)
noncomputable def Gq:zJ→iH
 | .c0 p=>⟨[⟨57,26,(en [(4,.ptr 0 0),(5,.int .u32 false p.a0),(10,.sl (.struct [yI,yB]) p.a1),(11,vi p.a2),(12,vi p.a3)]),[.inLoop (cw Try.f57 [1,1,1,0,1,0,0]),.inBlock 0,.code (cw Try.f57 [1,1,1,1])],[],none⟩],[.flat false [.int .u32 false p.a4,.int .u32 false p.a5,.int .u32 false p.a6,.int .u32 false p.a7,.int .u32 false p.a8,.int .u32 false p.a9,.int .u32 false p.lu,.int .u32 false p.mg,.int .u32 false p.a12,.int .u32 false p.sU,.int .u32 false p.lf,.int .u32 false p.lz,.int .u32 false p.a16,.int .u32 false p.a17,.int .u32 false p.qs,.int .u32 false p.j3],.dead]⟩
 | .c1 p b0 b1=>⟨[⟨62,57,(en [(0,.int .u32 false b0),(2,.ptr 0 0),(4,.ptr 1 0),(7,vi b1)]),[.inLoop (cw Try.f62 [1,1,0,0,0]),.inBlock 0,.code (cw Try.f62 [1,1,1])],[],none⟩,⟨57,26,(en [(4,.ptr 0 0),(10,.sl (.struct [yI,yB]) p.b2),(11,vi p.b3),(12,vi p.b4)]),[.ops (ow Try.f57 [1,1,1,0,1,0,0,1,1,0,0,1,1]) ((ow Try.f57 [1,1,1,0,1,0,0,1,1,0,0,1,1]).toList.drop 2),.inBlock 1,.code (cw Try.f57 [1,1,1,0,1,0,0,1,1,1]),.inLoop (cw Try.f57 [1,1,1,0,1,0,0]),.inBlock 0,.code (cw Try.f57 [1,1,1,1])],[],none⟩],[.flat false [.int .u32 false p.b5,.int .u32 false p.b6,.int .u32 false p.b7,.int .u32 false p.b8,.int .u32 false p.b9,.int .u32 false p.b10,.int .u32 false p.b11,.int .u32 false p.b12,.int .u32 false p.b13,.int .u32 false p.wz,.int .u32 false p.xw,.int .u32 false p.yu,.int .u32 false p.yA,.int .u32 false p.sO,.int .u32 false p.ij,.int .u32 false p.i6],.flat false [vi p.iN,.sl yU p.je],.dead]⟩
 | .c2 p c0 c1=>⟨[⟨62,57,(en [(0,.int .u32 false c0),(4,.ptr 0 0),(7,vi c1)]),[.inLoop (cw Try.f62 [1,1,1,0,0,0]),.inBlock 2,.code (cw Try.f62 [1,1,1,1])],[],none⟩,⟨57,26,(en [(4,.ptr 1 0),(10,.sl (.struct [yI,yB]) p.c2),(11,vi p.c3),(12,vi p.c4)]),[.ops (ow Try.f57 [1,1,1,0,1,0,0,1,1,0,0,1,1]) ((ow Try.f57 [1,1,1,0,1,0,0,1,1,0,0,1,1]).toList.drop 2),.inBlock 1,.code (cw Try.f57 [1,1,1,0,1,0,0,1,1,1]),.inLoop (cw Try.f57 [1,1,1,0,1,0,0]),.inBlock 0,.code (cw Try.f57 [1,1,1,1])],[],none⟩],[.flat false [vi p.c5,.sl yU p.c6],.flat false [.int .u32 false p.c7,.int .u32 false p.c8,.int .u32 false p.c9,.int .u32 false p.c10,.int .u32 false p.c11,.int .u32 false p.c12,.int .u32 false p.c13,.int .u32 false p.c14,.int .u32 false p.gY,.int .u32 false p.c16,.int .u32 false p.CB,.int .u32 false p.v_,.int .u32 false p.c19,.int .u32 false p.c20,.int .u32 false p.c21,.int .u32 false p.zP],.dead]⟩
def F7(A:cH)(l:List (Int×List Int)):LT (Int×Int) zJ:=.need (A.k (@tt Unit) ()) (.more (.c0 ⟨0,l,(A.l l),0,(A.n (.int .u32) (A.k gG ()) 0:Int),(A.n (.int .u32) (A.k gG ()) 1:Int),(A.n (.int .u32) (A.k gG ()) 2:Int),(A.n (.int .u32) (A.k gG ()) 3:Int),(A.n (.int .u32) (A.k gG ()) 4:Int),(A.n (.int .u32) (A.k gG ()) 5:Int),(A.n (.int .u32) (A.k gG ()) 6:Int),(A.n (.int .u32) (A.k gG ()) 7:Int),(A.n (.int .u32) (A.k gG ()) 8:Int),(A.n (.int .u32) (A.k gG ()) 9:Int),(A.n (.int .u32) (A.k gG ()) 10:Int),(A.n (.int .u32) (A.k gG ()) 11:Int),(A.n (.int .u32) (A.k gG ()) 12:Int),(A.n (.int .u32) (A.k gG ()) 13:Int),(A.n (.int .u32) (A.k gG ()) 14:Int),(A.n (.int .u32) (A.k gG ()) 15:Int)⟩))
def oA(A:cH):zJ→LT (Int×Int) zJ
 | .c0 p=>.br (A.c .lss p.a3 p.a2) (.need (A.and (A.c .leq 0 p.a3) (A.c .lss p.a3 (A.l p.a1))) (.need (A.k (@tt ((Int×List Int))) (A.n (.struct [yI,yB]) p.a1 p.a3:Int×List Int)) (.br (A.c .neq (A.k ia (A.n (.struct [yI,yB]) p.a1 p.a3:Int×List Int)) 0) (.ret (0,(A.k ia (A.n (.struct [yI,yB]) p.a1 p.a3:Int×List Int)))) (.more (.c1 ⟨p.a1,p.a2,p.a3,p.a4,p.a5,p.a6,p.a7,p.a8,p.a9,p.lu,p.mg,p.a12,p.sU,p.lf,p.lz,p.a16,p.a17,p.qs,p.j3,(A.n (.struct [yI,yB]) p.a1 p.a3:Int×List Int).1,(A.n (.struct [yI,yB]) p.a1 p.a3:Int×List Int).2⟩ p.a0 0))))) (.ret (p.a0,0))
 | .c1 p b0 b1=>.br (A.c .leq (A.b .add .i64 b1 4) p.iN) (.need (A.k (@tt ((Int×List Int)×Int×Int)) ((p.iN,p.je),b1,4)) (.need (A.and (A.c .leq 0 (A.b .xor .u32 (A.b .shr .u32 b0 20) (A.v .u32 (A.k ar ((p.iN,p.je),b1,4)).1))) (A.c .lss (A.b .xor .u32 (A.b .shr .u32 b0 20) (A.v .u32 (A.k ar ((p.iN,p.je),b1,4)).1)) 16)) (.more (.c1 p (A.b .xor .u32 (A.b .and .u32 (A.b .shl .u32 b0 4) 16777215) (A.n (.int .u32) [p.b5,p.b6,p.b7,p.b8,p.b9,p.b10,p.b11,p.b12,p.b13,p.wz,p.xw,p.yu,p.yA,p.sO,p.ij,p.i6] (A.b .xor .u32 (A.b .shr .u32 b0 20) (A.v .u32 (A.k ar ((p.iN,p.je),b1,4)).1)):Int)) (A.b .add .i64 b1 4))))) (.more (.c2 ⟨p.b2,p.b3,p.b4,p.iN,p.je,p.b5,p.b6,p.b7,p.b8,p.b9,p.b10,p.b11,p.b12,p.b13,p.wz,p.xw,p.yu,p.yA,p.sO,p.ij,p.i6⟩ b0 b1))
 | .c2 p c0 c1=>.br (A.c .lss c1 p.c5) (.need (A.k (@tt ((Int×List Int)×Int×Int)) ((p.c5,p.c6),c1,1)) (.need (A.k (@tt Int) (A.b .xor .u32 c0 (A.b .shl .u32 (A.v .u32 (A.k ar ((p.c5,p.c6),c1,1)).1) 23))) (.more (.c2 p (A.k uD (A.b .xor .u32 c0 (A.b .shl .u32 (A.v .u32 (A.k ar ((p.c5,p.c6),c1,1)).1) 23))) (A.b .add .i64 c1 1))))) (.more (.c0 ⟨c0,p.c2,p.c3,(A.b .add .i64 p.c4 1),p.c7,p.c8,p.c9,p.c10,p.c11,p.c12,p.c13,p.c14,p.gY,p.c16,p.CB,p.v_,p.c19,p.c20,p.c21,p.zP⟩))
theorem xE{α β γ:Type}(f:α→β→γ){a a':α}{b b':β}(h1:a=a')(h2:b=b'):f a b=f a' b':=by rw[h1,h2]
def Nf(p:sw):Prop:=p.a4=0∧p.a5=6122955∧p.a6=12245910∧p.a7=15185501∧p.a8=2677479∧p.a9=7714604∧p.lu=9568625∧p.mg=13593786∧p.a12=5354958∧p.sU=841733∧p.lf=15429208∧p.lz=11928467∧p.a16=7958313∧p.a17=2360034∧p.qs=12825791∧p.j3=10410356
def OU(p:xU):Prop:=p.b5=0∧p.b6=6122955∧p.b7=12245910∧p.b8=15185501∧p.b9=2677479∧p.b10=7714604∧p.b11=9568625∧p.b12=13593786∧p.b13=5354958∧p.wz=841733∧p.xw=15429208∧p.yu=11928467∧p.yA=7958313∧p.sO=2360034∧p.ij=12825791∧p.i6=10410356
def OW(p:xV):Prop:=p.c7=0∧p.c8=6122955∧p.c9=12245910∧p.c10=15185501∧p.c11=2677479∧p.c12=7714604∧p.c13=9568625∧p.c14=13593786∧p.gY=5354958∧p.c16=841733∧p.CB=15429208∧p.v_=11928467∧p.c19=7958313∧p.c20=2360034∧p.c21=12825791∧p.zP=10410356
theorem iI{n a w:Nat}{b:List Int}(hok:bf ((n:Int),b)=true)(h:a+w≤n)(hw:w≤64)(hn:n≤4096):ai.k ar (((n:Int),b),(a:Int),(w:Int))=(((aQ (unpack n b) a w:Nat):Int),0):=by
 rw[ap,ar,zW]
 simp only[hok,Bool.not_true,cond_false]
 rw[show decide ((w:Int)<0)=false from by simp,show decide (64<(w:Int))=false from by simp;omega,show decide ((a:Int)<0)=false from by simp,show decide ((n:Int)<(a:Int)+(w:Int))=false from by simp;omega]
 rfl
theorem w_{l:List Bool}{a w:Nat}(h:a+w≤l.length):l.take (a+w)=l.take a++bitsOf (aQ l a w) w:=by
 rw[Dx h,List.take_add]
theorem Bd{n:Nat}(h:n<4294967296):ai.v .u32 (n:Int)=(n:Int):=by rw[aZ,D1 (by omega) (by omega)]
theorem G4{l:List (Int×List Int)}{i n:Nat}{b:List Int}{R:Int×Int}{r0:Nat}(hr0:r0<16777216)(hok:bf ((n:Int),b)=true)(hn:n≤4096)(hll:l.length≤140737488355328)(hi:i<l.length)
  (hnext:∀(p:sw),Nf p→p.a1=l→p.a2=(l.length:Int)→p.a3=((i+1:Nat):Int)→p.a0=((over r0 (unpack n b):Nat):Int)→aA (oA ai) (.more (.c0 p)) R) :
  ∀(j k:Nat) (p:xV),OW p→p.c2=l→p.c3=(l.length:Int)→p.c4=(i:Int)→p.c5=(n:Int)→p.c6=b→n-k=j→k≤n→aA (oA ai) (.more (.c2 p ((over r0 ((unpack n b).take k):Nat):Int) (k:Int))) R:=by
 intro j
 induction j with
 | zero=>
   intro k p ht h2 h3 h4 h5 h6 hj hk
   have:k=n:=by omega
   subst this
   simp only[ao,oA]
   refine(ah (by rw[h5,aN];simp)).2 ?_
   rw[List.take_of_length_le (by rw[aL];exact Nat.le_refl _)]
   exact hnext _ ht h2 h3 (by show ai.b .add .i64 p.c4 1=_;rw[h4,fH (by omega)]) rfl
 | succ j ih=>
   intro k p ht h2 h3 h4 h5 h6 hj hk
   simp only[ao,oA]
   have hg:ai.k ar ((p.c5,p.c6),(k:Int),1)=(((aQ (unpack n b) k 1:Nat):Int),0):=by
    rw[h5,h6];exact iI hok (w:=1) (by omega) (by decide) hn
   have hlt:=dN hr0 ((unpack n b).take k)
   have hf:=eY (unpack n b) k 1
   have hts:=w_ (l:=unpack n b) (a:=k) (w:=1) (by rw[aL];omega)
   obtain⟨x,hx⟩:∃x:Bool,aQ (unpack n b) k 1=x.toNat:=by
    by_cases h0:aQ (unpack n b) k 1=0
    ·exact⟨false,h0⟩
    ·exact⟨true,by rw[show true.toNat=1 from rfl];omega⟩
   have hbx:bitsOf x.toNat 1=[x]:=by cases x<;>rfl
   rw[hx,hbx] at hts
   have hsh:ai.b .xor .u32 ((over r0 ((unpack n b).take k):Nat):Int) (ai.b .shl .u32 (ai.v .u32 (ai.k ar ((p.c5,p.c6),(k:Int),1)).1) 23)=((over r0 ((unpack n b).take k) ^^^ (x.toNat*8388608):Nat):Int):=by
    rw[hg,hx,Bd (by cases x<;>decide),show ai.b .shl .u32 ((x.toNat:Nat):Int) 23=((x.toNat*2^23:Nat):Int) from zp (k:=23) (by decide) (by cases x<;>decide)]
    exact xj (by omega) (by cases x<;>decide)
   have hxl:over r0 ((unpack n b).take k) ^^^ (x.toNat*8388608)<16777216:=Nat.xor_lt_two_pow (n:=24) hlt (by cases x<;>decide)
   have hc:ai.k uD (ai.b .xor .u32 ((over r0 ((unpack n b).take k):Nat):Int) (ai.b .shl .u32 (ai.v .u32 (ai.k ar ((p.c5,p.c6),(k:Int),1)).1) 23))=((over r0 ((unpack n b).take (k+1)):Nat):Int):=by
    rw[hsh,ap,DI hxl,Bu hlt,hts,dh,dE,kB]
   refine(aj (by rw[h5,aN];simp;omega)).2 (af.2 ⟨rfl,af.2 ⟨rfl,?_⟩⟩)
   exact aW (congrArg LT.more (congr (congrArg (zJ.c2 p) hc) (fH (by omega)))) (ih (k+1) p ht h2 h3 h4 h5 h6 (by omega) (by omega))
theorem Hd{l:List (Int×List Int)}{i n:Nat}{b:List Int}{R:Int×Int}{r0:Nat}(hr0:r0<16777216)(hok:bf ((n:Int),b)=true)(hn:n≤4096)(hll:l.length≤140737488355328)(hi:i<l.length)
  (hnext:∀(p:sw),Nf p→p.a1=l→p.a2=(l.length:Int)→p.a3=((i+1:Nat):Int)→p.a0=((over r0 (unpack n b):Nat):Int)→aA (oA ai) (.more (.c0 p)) R) :
  ∀(j k:Nat) (p:xU),OU p→p.b2=l→p.b3=(l.length:Int)→p.b4=(i:Int)→p.iN=(n:Int)→p.je=b→(n-k)/4=j→k≤n→aA (oA ai) (.more (.c1 p ((over r0 ((unpack n b).take k):Nat):Int) (k:Int))) R:=by
 intro j
 induction j with
 | zero=>
   intro k p ht h2 h3 h4 h5 h6 hj hk
   simp only[ao,oA]
   refine(ah (by rw[show ai.b .add .i64 (k:Int) 4=((k+4:Nat):Int) from dY (j:=4) (by omega),h5,ig];simp;omega)).2 ?_
   exact G4 hr0 hok hn hll hi hnext (n-k) k _ ht h2 h3 h4 h5 h6 rfl hk
 | succ j ih=>
   intro k p ht h2 h3 h4 h5 h6 hj hk
   simp only[ao,oA]
   have hg:ai.k ar ((p.iN,p.je),(k:Int),4)=(((aQ (unpack n b) k 4:Nat):Int),0):=by
    rw[h5,h6];exact iI hok (w:=4) (by omega) (by decide) hn
   have hlt:=dN hr0 ((unpack n b).take k)
   have hf:=eY (unpack n b) k 4
   have hts:=w_ (l:=unpack n b) (a:=k) (w:=4) (by rw[aL];omega)
   have h4o:=Ao hlt (l:=bitsOf (aQ (unpack n b) k 4) 4) (ak _ _)
   rw[jJ,Nat.mod_eq_of_lt hf,←dh,←hts] at h4o
   generalize hr:over r0 ((unpack n b).take k)=r at *
   generalize hv:aQ (unpack n b) k 4=v at *
   have hix:ai.b .xor .u32 (ai.b .shr .u32 (r:Int) 20) (ai.v .u32 (ai.k ar ((p.iN,p.je),(k:Int),4)).1)=((r/1048576 ^^^ v:Nat):Int):=by
    rw[hg,Bd (by omega),show ai.b .shr .u32 (r:Int) 20=((r/2^20:Nat):Int) from Cw (n:=20) (by omega) (by decide)]
    exact xj (by omega) (by omega)
   have hxl:r/1048576 ^^^ v<16:=Ai ⟨r/1048576,by omega⟩ ⟨v,by omega⟩
   have htab:(ai.n (.int .u32) [p.b5,p.b6,p.b7,p.b8,p.b9,p.b10,p.b11,p.b12,p.b13,p.wz,p.xw,p.yu,p.yA,p.sO,p.ij,p.i6] (((r/1048576 ^^^ v:Nat):Int)):Int)=((vV.getD (r/1048576 ^^^ v) 0:Nat):Int):=by
    rw[←CU ⟨r/1048576 ^^^ v,hxl⟩]
    obtain⟨t0,t1,t2,t3,t4,t5,t6,t7,t8,t9,J7,t11,t12,t13,t14,t15⟩:=ht
    show List.getD [p.b5,p.b6,p.b7,p.b8,p.b9,p.b10,p.b11,p.b12,p.b13,p.wz,p.xw,p.yu,p.yA,p.sO,p.ij,p.i6] ((r/1048576 ^^^ v:Nat):Int).toNat 0=_
    rw[Int.toNat_natCast,t0,t1,t2,t3,t4,t5,t6,t7,t8,t9,J7,t11,t12,t13,t14,t15];rfl
   have hc:ai.b .xor .u32 (ai.b .and .u32 (ai.b .shl .u32 (r:Int) 4) 16777215) (ai.n (.int .u32) [p.b5,p.b6,p.b7,p.b8,p.b9,p.b10,p.b11,p.b12,p.b13,p.wz,p.xw,p.yu,p.yA,p.sO,p.ij,p.i6] (ai.b .xor .u32 (ai.b .shr .u32 (r:Int) 20) (ai.v .u32 (ai.k ar ((p.iN,p.je),(k:Int),4)).1)):Int)=((over r0 ((unpack n b).take (k+4)):Nat):Int):=by
    rw[hix]
    have e1:ai.b .and .u32 (ai.b .shl .u32 (r:Int) 4) 16777215=((16*r%16777216:Nat):Int):=by
     rw[show ai.b .shl .u32 (r:Int) 4=((r*2^4:Nat):Int) from zp (k:=4) (by decide) (by omega),E_ (by omega),Nat.mul_comm]
    refine(xE (ai.b .xor .u32) e1 htab).trans ?_
    rw[h4o]
    exact xj (by omega) (by have:=Cr ⟨_,hxl⟩;simp only at this;omega)
   refine(aj (by rw[show ai.b .add .i64 (k:Int) 4=((k+4:Nat):Int) from dY (j:=4) (by omega),h5,ig];simp;omega)).2 (af.2 ⟨rfl,af.2 ⟨?_,?_⟩⟩)
   ·rw[hix,fe,aD,al];simp;omega
   ·have:=ih (k+4) p ht h2 h3 h4 h5 h6 (by omega) (by omega)
    exact aW (congrArg LT.more (congr (congrArg (zJ.c1 p) hc) (show ai.b .add .i64 (k:Int) 4=((k+4:Nat):Int) from dY (j:=4) (by omega)))) this
theorem Gm{l:List (Int×List Int)}(hll:l.length≤140737488355328)(hby:∀x∈l,aT x.2∧x.2.length≤140737488355328):∀(j i:Nat) (p:sw),Nf p→p.a1=l→p.a2=(l.length:Int)→p.a3=(i:Int)→p.a0=((over 0 ((l.take i).flatMap bl):Nat):Int)→l.length-i=j→i≤l.length→(∀x∈l.take i,bf x=true)→aA (oA ai) (.more (.c0 p)) (qd l):=by
 intro j
 induction j with
 | zero=>
   intro i p ht h1 h2 h3 h0 hj hi hok
   have:i=l.length:=by omega
   subst this
   rw[List.take_length] at hok h0
   simp only[ao,oA]
   refine(ah (by rw[h2,h3,aN];simp)).2 ?_
   rw[qd,List.all_eq_true.2 hok,h0]
   exact .ret _
 | succ j ih=>
   intro i p ht h1 h2 h3 h0 hj hi hok
   have hi':i<l.length:=by omega
   have hmem:=List.getElem_mem hi'
   simp only[ao,oA]
   rw[h3]
   refine(aj (by rw[h2,aN];simp;omega)).2 (af.2 ⟨by rw[h1];exact gB hi',af.2 ⟨rfl,?_⟩⟩)
   obtain⟨n0,b,hx⟩:∃n0 b,l[i]=(n0,b):=⟨_,_,rfl⟩
   have hby':=hby _ hmem
   rw[hx] at hby'
   have hn1:(ai.n (.struct [(.int .i64),(.slice (.int .u8))]) p.a1 (i:Int):Int×List Int)=(n0,b):=by rw[h1,kg hi',hx]
   rw[hn1]
   have hc:ai.k ia (n0,b)=bif bf (n0,b) then 0 else 10:=iO hby'.1 hby'.2
   rw[hc]
   cases hb:bf (n0,b)
   ·refine(aj rfl).2 ?_
    rw[qd,show l.all bf=false from List.all_eq_false.2 ⟨l[i],hmem,by rw[hx,hb];decide⟩]
    exact .ret _
   ·refine(ah rfl).2 ?_
    obtain⟨h4,h5,h6⟩:=(fq hby'.1).1 hb
    obtain⟨n,rfl⟩:=Int.eq_ofNat_of_zero_le h4
    have hlt:=dN (r:=0) (by decide) ((l.take i).flatMap bl)
    have hm:=Hd hlt hb (by omega) hll hi' (R:=qd l) (fun p' g1 g2 g3 g4 g5=>ih (i+1) p' g1 g2 g3 g4 (by rw[g5,uF hi',dh,hx];rfl) (by omega) (by omega) (by
     intro x hx2
     rw[List.take_succ_eq_append_getElem hi'] at hx2
     rcases List.mem_append.1 hx2 with h7|h7
     ·exact hok x h7
     ·rw[List.mem_singleton.1 h7,hx];exact hb)) (n/4) 0 ⟨p.a1,p.a2,(i:Int),p.a4,p.a5,p.a6,p.a7,p.a8,p.a9,p.lu,p.mg,p.a12,p.sU,p.lf,p.lz,p.a16,p.a17,p.qs,p.j3,(n:Int),b⟩ ht h1 h2 rfl rfl rfl (by omega) (by omega)
    rw[List.take_zero,kB,←h0] at hm
    exact hm
theorem KZ{l:List (Int×List Int)}(h:Ty.cr [(.slice (.struct [(.int .i64),(.slice (.int .u8))]))] l):aA (oA ai) (F7 ai l) (qd l):=by
 unfold F7
 refine af.2 ⟨rfl,?_⟩
 exact Gm (nH h).1 (nH h).2 l.length 0 _ ⟨rfl,rfl,rfl,rfl,rfl,rfl,rfl,rfl,rfl,rfl,rfl,rfl,rfl,rfl,rfl,rfl⟩ rfl rfl rfl rfl (by omega) (by omega) (by intro x hx;cases hx)
def o5:(List (Int×List Int))→(Int×Int):=qd
def JE:aH:=⟨[(.slice (.struct [yI,yB]))], [(.int .u32),yI],(@tt (List (Int×List Int))),o5⟩
theorem Iv:Sd 57 JE:=aX aJ iC true 30 [⟨57,4, [[4,5,10,11,12]]⟩,⟨62,2, [[0,2,4,7], [4,10,11,12]]⟩,⟨62,6, [[0,4,7], [4,10,11,12]]⟩] [] (fun A l=>F7 A l) oA Gq (fc Try.func57 (fc Try.func62 fz)) (sc yj (sc yW (sc IT (sc Ft sz)))) (fun A y=>match y with |.c0 p=>⟨52,by kernel_rfl,by kernel_rfl⟩|.c1 p b0 b1=>⟨52,by kernel_rfl,by kernel_rfl⟩|.c2 p c0 c1=>⟨44,by kernel_rfl,by kernel_rfl⟩) fun l hp h=>KZ h
open Go.Ev.Pl
def t139(A:cH)(bN:Int)(bB:List Int)(unsentN:Int)(unsentB:List Int):LT ((Int×List Int)×Int) Empty:=.need (A.k (@tt ((Int×List Int))) (bN,bB)) (.br (A.c .neq (A.k ia (bN,bB)) 0) (.ret ((0,([]:List Int)),10)) (.need (A.k (@tt ((Int×List Int))) (unsentN,unsentB)) (.br (A.c .neq (A.k ia (unsentN,unsentB)) 0) (.ret ((0,([]:List Int)),10)) (.br (A.c .lss bN 24) (.ret ((0,([]:List Int)),20)) (.need (A.k (@tt ((Int×List Int)×Int×Int)) ((bN,bB),0,(A.b .sub .i64 bN 24))) (.need (A.k (@tt ((Int×List Int)×Int×Int)) ((bN,bB),(A.k bF ((bN,bB),0,(A.b .sub .i64 bN 24))).1.1,24)) (.need (A.k (@tt (List (Int×List Int))) [(unsentN,unsentB),(A.k bF ((bN,bB),0,(A.b .sub .i64 bN 24))).1]) (.br (A.c .neq (A.k o5 [(unsentN,unsentB),(A.k bF ((bN,bB),0,(A.b .sub .i64 bN 24))).1]).2 0) (.ret ((0,([]:List Int)),(A.k o5 [(unsentN,unsentB),(A.k bF ((bN,bB),0,(A.b .sub .i64 bN 24))).1]).2)) (.br (A.c .neq (A.v .u64 (A.k o5 [(unsentN,unsentB),(A.k bF ((bN,bB),0,(A.b .sub .i64 bN 24))).1]).1) (A.k ar ((bN,bB),(A.k bF ((bN,bB),0,(A.b .sub .i64 bN 24))).1.1,24)).1) (.ret ((0,([]:List Int)),21)) (.ret ((A.k bF ((bN,bB),0,(A.b .sub .i64 bN 24))).1,0)))))))))))
theorem E4{n m:Int}{b u:List Int}(h:Ty.cr [(.struct [(.int .i64),(.slice (.int .u8))]),(.struct [(.int .i64),(.slice (.int .u8))])] ((n,b),(m,u))):aA Empty.elim (t139 ai n b m u) (bY ((n,b),(m,u))):=by
 have h1:Ty.has (.struct [(.int .i64),(.slice (.int .u8))]) (n,b):=h.1
 have h2:Ty.has (.struct [(.int .i64),(.slice (.int .u8))]) (m,u):=h.2
 have hb:=(dn h1).2.2
 have hl:=cm h1
 have hbu:=(dn h2).2.2
 have hlu:=cm h2
 unfold t139
 rw[bY]
 have hc1:ai.c .neq (ai.k ia (n,b)) 0=!bf (n,b):=by rw[ap,iO hb hl];cases bf (n,b)<;>rfl
 have hc2:ai.c .neq (ai.k ia (m,u)) 0=!bf (m,u):=by rw[ap,iO hbu hlu];cases bf (m,u)<;>rfl
 refine af.2 ⟨rfl,?_⟩
 rw[hc1]
 cases ho1:bf (n,b)
 ·exact(aj rfl).2 (.ret _)
 refine(ah rfl).2 (af.2 ⟨rfl,?_⟩)
 rw[hc2]
 cases ho2:bf (m,u)
 ·exact(aj rfl).2 (.ret _)
 refine(ah rfl).2 ?_
 obtain⟨h3,h4,h5⟩:=(fq hb).1 ho1
 obtain⟨k,rfl⟩:=Int.eq_ofNat_of_zero_le h3
 by_cases h6:(k:Int)<24
 ·refine(aj (by rw[al];simp;omega)).2 ?_
  show aA _ _ (bif decide ((k:Int)<24) then(zB,20) else _)
  rw[show decide ((k:Int)<24)=true from by simpa using h6]
  exact .ret _
 refine(ah (by rw[al];simp;omega)).2 ?_
 show aA _ _ (bif decide ((k:Int)<24) then(zB,20) else _)
 rw[show decide ((k:Int)<24)=false from by simpa using h6,cond_false]
 have hkl:(bl ((k:Int),b)).length=k:=by rw[fA];rfl
 have hsub:ai.b .sub .i64 (k:Int) 24=((k-24:Nat):Int):=jH (j:=24) (by omega) (by omega)
 have hfl:((bl ((k:Int),b)).take (k-24)).length=k-24:=by rw[List.length_take,hkl];omega
 have hslice:ai.k bF (((k:Int),b),0,ai.b .sub .i64 (k:Int) 24)=(aU ((bl ((k:Int),b)).take (k-24)),0):=by
  rw[hsub,ap,bF,bH]
  simp only[ho1,Bool.not_true,cond_false]
  rw[show decide (((k-24:Nat):Int)<0)=false from by simp,show decide ((k:Int)<((k-24:Nat):Int))=false from by simp<;>omega]
  rfl
 have hP1:(aU ((bl ((k:Int),b)).take (k-24))).1=((k-24:Nat):Int):=by show(((bl ((k:Int),b)).take (k-24)).length:Int)=_;rw[hfl]
 have hget:ai.k ar (((k:Int),b),((k-24:Nat):Int),24)=(((aQ (bl ((k:Int),b)) (k-24) 24:Nat):Int),0):=by
  rw[ap,ar,zW]
  simp only[ho1,Bool.not_true,cond_false]
  rw[show decide (((k-24:Nat):Int)<0)=false from by simp,show decide ((k:Int)<((k-24:Nat):Int)+24)=false from by simp<;>omega]
  rfl
 have hsum:ai.k o5 [(m,u),aU ((bl ((k:Int),b)).take (k-24))]=(((over (over 0 (bl (m,u))) ((bl ((k:Int),b)).take (k-24)):Nat):Int),0):=by
  rw[ap,o5,qd]
  show(bif (bf (m,u)&&(bf (aU ((bl ((k:Int),b)).take (k-24)))&&true)) then(((over 0 (bl (m,u)++(bl (aU ((bl ((k:Int),b)).take (k-24))) ++ [])):Nat):Int),(0:Int)) else(0,10))=_
  rw[ho2,fC (by rw[hfl];omega),d_,List.append_nil,dh]
  rfl
 have hu:=dN (r:=0) (by decide) (bl (m,u))
 have hlt:=dN hu ((bl ((k:Int),b)).take (k-24))
 have hfd:=eY (bl ((k:Int),b)) (k-24) 24
 have hsplit:bl ((k:Int),b)=(bl ((k:Int),b)).take (k-24)++(bl ((k:Int),b)).drop (k-24):=(List.take_append_drop _ _).symm
 have hd:((bl ((k:Int),b)).drop (k-24)).length=24:=by rw[List.length_drop,hkl];omega
 have hfe:aQ (bl ((k:Int),b)) (k-24) 24=ck ((bl ((k:Int),b)).drop (k-24)):=by rw[aQ,List.take_of_length_le (by omega)]
 have hz:(over (over 0 (bl (m,u))) (bl ((k:Int),b)) != 0)=(((over (over 0 (bl (m,u))) ((bl ((k:Int),b)).take (k-24)):Nat):Int) != ((aQ (bl ((k:Int),b)) (k-24) 24:Nat):Int)):=by
  have:=wP (l:=(bl ((k:Int),b)).take (k-24)) hu hd
  rw[←hsplit,←hfe] at this
  rw[Bool.eq_iff_iff,bne_iff_ne,bne_iff_ne,ne_eq,ne_eq,this]
  omega
 have e1:(ai.k bF (((k:Int),b),0,ai.b .sub .i64 (k:Int) 24)).1.1=((k-24:Nat):Int):=by rw[hslice];exact hP1
 have e2:(ai.k o5 [(m,u),(ai.k bF (((k:Int),b),0,ai.b .sub .i64 (k:Int) 24)).1])=(((over (over 0 (bl (m,u))) ((bl ((k:Int),b)).take (k-24)):Nat):Int),0):=by rw[hslice];exact hsum
 have e3:(ai.k ar (((k:Int),b),(ai.k bF (((k:Int),b),0,ai.b .sub .i64 (k:Int) 24)).1.1,24)).1=((aQ (bl ((k:Int),b)) (k-24) 24:Nat):Int):=by rw[e1,hget]
 refine af.2 ⟨rfl,af.2 ⟨rfl,af.2 ⟨rfl,?_⟩⟩⟩
 refine(ah (cf (congrArg Prod.snd e2))).2 ?_
 rw[hz,hkl]
 have hcmp:ai.c .neq (ai.v .u64 (ai.k o5 [(m,u),(ai.k bF (((k:Int),b),0,ai.b .sub .i64 (k:Int) 24)).1]).1) (ai.k ar (((k:Int),b),(ai.k bF (((k:Int),b),0,ai.b .sub .i64 (k:Int) 24)).1.1,24)).1=(((over (over 0 (bl (m,u))) ((bl ((k:Int),b)).take (k-24)):Nat):Int) != ((aQ (bl ((k:Int),b)) (k-24) 24:Nat):Int)):=by
  rw[e3,e2,cK (by omega),aI]
 cases hx:(((over (over 0 (bl (m,u))) ((bl ((k:Int),b)).take (k-24)):Nat):Int) != ((aQ (bl ((k:Int),b)) (k-24) 24:Nat):Int))
 ·refine(ah (hcmp.trans hx)).2 ?_
  exact aW (congrArg LT.ret (show((ai.k bF (((k:Int),b),0,ai.b .sub .i64 (k:Int) 24)).1,0)=(aU ((bl ((k:Int),b)).take (k-24)),0) by rw[hslice])) (.ret _)
 ·exact(aj (hcmp.trans hx)).2 (.ret _)
def bZ:((Int×List Int)×(Int×List Int))→((Int×List Int)×Int):=bY
def Jn:aH:=⟨[(.struct [yI,yB]),(.struct [yI,yB])], [(.struct [yI,yB]),yI],(@tt ((Int×List Int)×(Int×List Int))),bZ⟩
theorem IV:Sd 52 Jn:=gj aJ iC true 100 [] (fun A ((bN,bB),unsentN,unsentB)=>t139 A bN bB unsentN unsentB) (fc Try.func52 fz) (sc yj (sc yW (sc Fi (sc Iv sz)))) fun((bN,bB),unsentN,unsentB) hp h=>E4 h
open Go.Ev.Pl
def Hr(A:cH)(cTime:Int)(cPos:Int)(cMode:Int)(cNext:Int)(cMember:Int):LT (List Int) Empty:=.ret [cTime,cPos,cMode,cNext,cMember]
def uJ:((Int×Int×Int×Int×Int))→(List Int):=fun(cTime,cPos,cMode,cNext,cMember)=>(Hr ai cTime cPos cMode cNext cMember).val (Ty.dC [(.arr 5 yI)])
def Iq:aH:=⟨[(.struct [yI,yI,yI,yI,yI])], [(.arr 5 yI)],(@tt ((Int×Int×Int×Int×Int))),uJ⟩
theorem Iw:Sd 32 Iq:=aV aJ iC true 26 [] (fun A (cTime,cPos,cMode,cNext,cMember)=>Hr A cTime cPos cMode cNext cMember) (fc Try.func32 fz) sz (fun((cTime,cPos,cMode,cNext,cMember):(Int×Int×Int×Int×Int)) hp h=>by
 show(Hr ai cTime cPos cMode cNext cMember).pre=true
 rfl)
structure Fj where
 (a0 a1 a2 a3 a4 a6 a7 a8 a9 lu:Int)
inductive Kc where
 | c0 (p:Fj) (a5:Int)
noncomputable def JS:Kc→iH
 | .c0 p a5=>⟨[⟨21,36,(en [(5,.ptr 0 0),(21,.agg [vi p.a0,vi p.a1,vi p.a2,vi p.a3,vi p.a4]),(22,vi a5)]),[.inLoop (cw Try.f21 [1,1,1,0,1,0,0]),.inBlock 0,.code (cw Try.f21 [1,1,1,1])],[],none⟩],[.flat false [vi p.a6,vi p.a7,vi p.a8,vi p.a9,vi p.lu],.dead]⟩
def t87(A:cH)(cTime:Int)(cPos:Int)(cMode:Int)(cNext:Int)(cMember:Int)(n:Int):LT Int Kc:=.br (A.c .lss n 4) (.ret 2) (.br (A.c .gtr n 8) (.ret 2) (.need (A.c .leq 0 n) (.need (A.k (@tt ((Int×Int×Int×Int×Int))) (cTime,cPos,cMode,cNext,cMember)) (.more (.c0 ⟨(A.n yI (A.k uJ (cTime,cPos,cMode,cNext,cMember)) 0:Int),(A.n yI (A.k uJ (cTime,cPos,cMode,cNext,cMember)) 1:Int),(A.n yI (A.k uJ (cTime,cPos,cMode,cNext,cMember)) 2:Int),(A.n yI (A.k uJ (cTime,cPos,cMode,cNext,cMember)) 3:Int),(A.n yI (A.k uJ (cTime,cPos,cMode,cNext,cMember)) 4:Int),255,(A.b .sub .i64 n 1),3,4,(A.b .sub .i64 (A.b .shl .i64 1 n) 1)⟩ 0)))))
def H6(A:cH):Kc→LT Int Kc
 | .c0 p a5=>.br (A.c .lss a5 5) (.need (A.and (A.c .leq 0 a5) (A.c .lss a5 5)) (.br (A.c .lss (A.n yI [p.a0,p.a1,p.a2,p.a3,p.a4] a5:Int) 0) (.ret 40) (.need (A.and (A.c .leq 0 a5) (A.c .lss a5 5)) (.br (A.c .gtr (A.n yI [p.a0,p.a1,p.a2,p.a3,p.a4] a5:Int) (A.n yI [p.a6,p.a7,p.a8,p.a9,p.lu] a5:Int)) (.ret 40) (.more (.c0 p (A.b .add .i64 a5 1))))))) (.ret 0)
theorem F2{k:Nat}(hk:k≤60):ai.b .shl .i64 1 (k:Int)=((2^k:Nat):Int):=by
 show IntKind.i64.wrap ((1:Int)*2^min (k:Int).toNat 64)=_
 have:2^k≤2^60:=Nat.pow_le_pow_right (by decide) hk
 have e:(2:Int)^k=((2^k:Nat):Int):=by simp
 rw[Int.toNat_natCast,Nat.min_eq_left (by omega),Int.one_mul,e]
 generalize 2^k=q at this
 rw[ji (by omega) (by omega)]
theorem JR{u v x:Int}(h:u=v):ai.c .lss u x=decide (v<x):=by rw[h];rfl
theorem IS{u u' v v':Int}(h1:u=u')(h2:v=v'):ai.c .gtr u v=decide (v'<u'):=by rw[h1,h2];rfl
theorem kD{p:Fj}{i v m r:Int}(h0:0≤i)(h5:i<5)(hv:(ai.n (.int .i64) [p.a0,p.a1,p.a2,p.a3,p.a4] i:Int)=v)(hm:(ai.n (.int .i64) [p.a6,p.a7,p.a8,p.a9,p.lu] i:Int)=m)
  (h1:(decide (0≤v)&&decide (v≤m))=true→aA (H6 ai) (.more (.c0 p (i+1))) r) (h2:(decide (0≤v)&&decide (v≤m))=false→r=40):aA (H6 ai) (.more (.c0 p i)) r:=by
 rw[ao,H6]
 have hn:ai.and (ai.c .leq 0 i) (ai.c .lss i 5)=true:=by rw[aD,ax,al];simp;omega
 refine(aj (by rw[al];simpa using h5)).2 (af.2 ⟨hn,?_⟩)
 by_cases h3:v<0
 ·refine(aj ((JR hv).trans (by simpa using h3))).2 ?_
  rw[h2 (by rw[show decide (0≤v)=false from by simp;omega];rfl)]
  exact .ret _
 ·refine(ah ((JR hv).trans (by simpa using h3))).2 (af.2 ⟨hn,?_⟩)
  by_cases h4:m<v
  ·refine(aj ((IS hv hm).trans (by simpa using h4))).2 ?_
   rw[h2 (by rw[show decide (v≤m)=false from by simp;omega,Bool.and_false])]
   exact .ret _
  ·refine(ah ((IS hv hm).trans (by simpa using h4))).2 ?_
   rw[cu,ji (by omega) (by omega)]
   exact h1 (by simp;omega)
theorem LF{t po m n s k:Int}:aA (H6 ai) (t87 ai t po m n s k) (tH ((t,po,m,n,s),k)):=by
 unfold t87
 rw[tH]
 by_cases h1:k<4
 ·refine(aj (by rw[al];simpa using h1)).2 ?_
  rw[show decide (k<4)=true from by simpa using h1]
  exact .ret _
 refine(ah (by rw[al];simpa using h1)).2 ?_
 by_cases h2:8<k
 ·refine(aj (by rw[au];simpa using h2)).2 ?_
  rw[show decide (8<k)=true from by simpa using h2,Bool.or_true]
  exact .ret _
 refine(ah (by rw[au];simpa using h2)).2 (af.2 ⟨by rw[ax];simp;omega,af.2 ⟨rfl,?_⟩⟩)
 rw[show decide (k<4)=false from by simpa using h1,show decide (8<k)=false from by simpa using h2,Bool.or_false,cond_false]
 have hk1:ai.b .sub .i64 k 1=k-1:=by rw[bC,ji (by omega) (by omega)]
 have hk2:ai.b .sub .i64 (ai.b .shl .i64 1 k) 1=2^k.toNat-1:=by
  obtain⟨j,rfl⟩:=Int.eq_ofNat_of_zero_le (show 0≤k by omega)
  have hq:2^j≤2^60:=Nat.pow_le_pow_right (by decide) (by omega)
  have hq0:=Nat.two_pow_pos j
  have e:(2:Int)^j=((2^j:Nat):Int):=by simp
  rw[F2 (by omega),Int.toNat_natCast,e]
  generalize 2^j=q at hq hq0
  rw[bC,ji (by omega) (by omega)]
 rw[hk1,hk2]
 refine kD (v:=t) (m:=255) (by decide) (by decide) rfl rfl (fun g=>?_) (fun g=>by rw[g];rfl)
 rw[g,Bool.true_and]
 refine kD (i:=1) (v:=po) (m:=k-1) (by decide) (by decide) rfl rfl (fun g=>?_) (fun g=>by rw[g];rfl)
 rw[g,Bool.true_and]
 refine kD (i:=2) (v:=m) (m:=3) (by decide) (by decide) rfl rfl (fun g=>?_) (fun g=>by rw[g];rfl)
 rw[g,Bool.true_and]
 refine kD (i:=3) (v:=n) (m:=4) (by decide) (by decide) rfl rfl (fun g=>?_) (fun g=>by rw[g];rfl)
 rw[g,Bool.true_and]
 refine kD (i:=4) (v:=s) (m:=2^k.toNat-1) (by decide) (by decide) rfl rfl (fun g=>?_) (fun g=>by rw[g];rfl)
 rw[g,ao,H6]
 exact(ah rfl).2 (.ret _)
def j4:((Int×Int×Int×Int×Int)×Int)→Int:=tH
def KO:aH:=⟨[(.struct [yI,yI,yI,yI,yI]),yI], [yI],(@tt ((Int×Int×Int×Int×Int)×Int)),j4⟩
theorem Aj:Sd 21 KO:=aX aJ iC true 43 [⟨21,5, [[5,21,22]]⟩] [] (fun A ((cTime,cPos,cMode,cNext,cMember),n)=>t87 A cTime cPos cMode cNext cMember n) H6 JS (fc Try.func21 fz) (sc Iw sz) (fun A y=>match y with |.c0 p a5=>⟨41,by kernel_rfl,by kernel_rfl⟩) fun((cTime,cPos,cMode,cNext,cMember),n) hp h=>LF
def t42(A:cH)(cTime:Int)(cPos:Int)(cMode:Int)(cNext:Int)(cMember:Int)(n:Int):LT Int Empty:=.br (A.c .lss n 4) (.ret 2) (.br (A.c .gtr n 8) (.ret 2) (.br (A.c .lss cTime 0) (.ret 40) (.br (A.c .gtr cTime 255) (.ret 40) (.br (A.c .lss cPos 0) (.ret 40) (.br (A.c .geq cPos n) (.ret 40) (.br (A.c .lss cMode 0) (.ret 40) (.br (A.c .geq cMode 4) (.ret 40) (.br (A.c .lss cNext 0) (.ret 40) (.br (A.c .gtr cNext 4) (.ret 40) (.br (A.c .lss cMember 0) (.ret 40) (.need (A.c .leq 0 (A.v .u64 n)) (.br (A.c .geq cMember (A.b .shl .i64 1 (A.v .u64 n))) (.ret 40) (.ret 0)))))))))))))
theorem K1{t po m n s k:Int}:aA Empty.elim (t42 ai t po m n s k) (tH ((t,po,m,n,s),k)):=by
 unfold t42
 rw[tH]
 by_cases h1:k<4
 ·refine(aj (by rw[al];simpa using h1)).2 ?_
  rw[show decide (k<4)=true from by simpa using h1]
  exact .ret _
 refine(ah (by rw[al];simpa using h1)).2 ?_
 by_cases h2:8<k
 ·refine(aj (by rw[au];simpa using h2)).2 ?_
  rw[show decide (8<k)=true from by simpa using h2,Bool.or_true]
  exact .ret _
 refine(ah (by rw[au];simpa using h2)).2 ?_
 rw[show decide (k<4)=false from by simpa using h1,show decide (8<k)=false from by simpa using h2,Bool.or_false,cond_false]
 obtain⟨j,rfl⟩:=Int.eq_ofNat_of_zero_le (show 0≤k by omega)
 have e:(2:Int)^j=((2^j:Nat):Int):=by simp
 rw[cK (by omega),F2 (by omega),Int.toNat_natCast,e]
 have hx:∀{x:Bool},x=false→(40:Int)=bif x then 0 else 40:=fun h=>by rw[h];rfl
 by_cases g1:t<0
 ·refine(aj (by rw[al];simpa using g1)).2 (eG.2 (hx (by simp;omega)))
 refine(ah (by rw[al];simpa using g1)).2 ?_
 by_cases g2:255<t
 ·refine(aj (by rw[au];simpa using g2)).2 (eG.2 (hx (by simp;omega)))
 refine(ah (by rw[au];simpa using g2)).2 ?_
 by_cases g3:po<0
 ·refine(aj (by rw[al];simpa using g3)).2 (eG.2 (hx (by simp;omega)))
 refine(ah (by rw[al];simpa using g3)).2 ?_
 by_cases g4:(j:Int)≤po
 ·refine(aj (by rw[ay];simpa using g4)).2 (eG.2 (hx (by simp;omega)))
 refine(ah (by rw[ay];simpa using g4)).2 ?_
 by_cases g5:m<0
 ·refine(aj (by rw[al];simpa using g5)).2 (eG.2 (hx (by simp;omega)))
 refine(ah (by rw[al];simpa using g5)).2 ?_
 by_cases g6:4≤m
 ·refine(aj (by rw[ay];simpa using g6)).2 (eG.2 (hx (by simp;omega)))
 refine(ah (by rw[ay];simpa using g6)).2 ?_
 by_cases g7:n<0
 ·refine(aj (by rw[al];simpa using g7)).2 (eG.2 (hx (by simp;omega)))
 refine(ah (by rw[al];simpa using g7)).2 ?_
 by_cases g8:4<n
 ·refine(aj (by rw[au];simpa using g8)).2 (eG.2 (hx (by simp;omega)))
 refine(ah (by rw[au];simpa using g8)).2 ?_
 by_cases g9:s<0
 ·refine(aj (by rw[al];simpa using g9)).2 (eG.2 (hx (by simp;omega)))
 refine(ah (by rw[al];simpa using g9)).2 (af.2 ⟨fe,?_⟩)
 have hy:∀{x:Bool},x=true→(0:Int)=bif x then 0 else 40:=fun h=>by rw[h];rfl
 generalize ((2^j:Nat):Int)=q
 by_cases g10:q≤s
 ·refine(aj (by rw[ay];simpa using g10)).2 (eG.2 (hx (by simp;omega)))
 refine(ah (by rw[ay];simpa using g10)).2 (eG.2 (hy (by simp;omega)))
def xb:((Int×Int×Int×Int×Int)×Int)→Int:=tH
def MB:aH:=⟨[(.struct [yI,yI,yI,yI,yI]),yI], [yI],(@tt ((Int×Int×Int×Int×Int)×Int)),xb⟩
theorem Gi:Sd 7 MB:=gj aJ iC true 85 [] (fun A ((cTime,cPos,cMode,cNext,cMember),n)=>t42 A cTime cPos cMode cNext cMember n) (fc Try.func7 fz) sz fun((cTime,cPos,cMode,cNext,cMember),n) hp h=>K1
open Go.Ev.Pl
structure JO where
 (a0 a1 a2 a3 a4 a5 a6 a7 a8 a9 lu mg a12:Int)
structure FL where
 (b0 b1 b2 b3 b4 b6 b9 b10 b11 b12 b13:Int)
inductive HY where
 | c0 (p:JO)
 | c1 (p:FL) (b5:Int) (b7:Int) (b8:List Int)
noncomputable def J0:HY→iH
 | .c0 p=>⟨[⟨43,38,(en [(2,.ptr 0 0),(4,.ptr 1 0),(5,.ptr 2 0),(16,.agg [vi p.a0,vi p.a1,vi p.a2,vi p.a3,vi p.a4]),(17,vi p.a5)]),[.inLoop (cw Try.f43 [1,1,1,1,0,1,0,0]),.inBlock 0,.code (cw Try.f43 [1,1,1,1,1])],[],none⟩],[.flat false [vi p.a6,.du true],.flat false [vi p.a7,.du true],.flat false [vi p.a8,vi p.a9,vi p.lu,vi p.mg,vi p.a12],.dead]⟩
 | .c1 p b5 b7 b8=>⟨[⟨43,38,(en [(2,.ptr 0 0),(4,.ptr 1 0),(5,.ptr 2 0),(16,.agg [vi p.b0,vi p.b1,vi p.b2,vi p.b3,vi p.b4]),(17,vi b5)]),[.inLoop (cw Try.f43 [1,1,1,1,0,1,0,0]),.inBlock 0,.code (cw Try.f43 [1,1,1,1,1])],[],none⟩],[.flat false [vi p.b6,.du true],.flat false [vi b7,.sl yU b8],.flat false [vi p.b9,vi p.b10,vi p.b11,vi p.b12,vi p.b13],.dead]⟩
def MM(A:cH)(cTime:Int)(cPos:Int)(cMode:Int)(cNext:Int)(cMember:Int):LT ((Int×List Int)×Int) HY:=.need (A.k (@tt ((Int×Int×Int×Int×Int)×Int)) ((cTime,cPos,cMode,cNext,cMember),8)) (.br (A.c .neq (A.k j4 ((cTime,cPos,cMode,cNext,cMember),8)) 0) (.ret ((0,([]:List Int)),40)) (.more (.c0 ⟨cTime,cPos,cMode,cNext,cMember,0,0,0,8,3,2,3,8⟩)))
def Gv(A:cH):HY→LT ((Int×List Int)×Int) HY
 | .c0 p=>.br (A.c .lss p.a5 5) (.need (A.and (A.c .leq 0 p.a5) (A.c .lss p.a5 5)) (.need (A.and (A.c .leq 0 p.a5) (A.c .lss p.a5 5)) (.need (A.k (@tt ((Int×List Int)×Int×Int)) ((p.a7,([]:List Int)),(A.v .u64 (A.n yI [p.a0,p.a1,p.a2,p.a3,p.a4] p.a5:Int)),(A.n yI [p.a8,p.a9,p.lu,p.mg,p.a12] p.a5:Int))) (.need (A.k (@tt ((Int×List Int)×Int×Int)) ((p.a7,([]:List Int)),(A.v .u64 (A.n yI [p.a0,p.a1,p.a2,p.a3,p.a4] p.a5:Int)),(A.n yI [p.a8,p.a9,p.lu,p.mg,p.a12] p.a5:Int))) (.need (A.and (A.c .leq 0 p.a5) (A.c .lss p.a5 5)) (.br (A.c .neq (A.k kv ((p.a7,([]:List Int)),(A.v .u64 (A.n yI [p.a0,p.a1,p.a2,p.a3,p.a4] p.a5:Int)),(A.n yI [p.a8,p.a9,p.lu,p.mg,p.a12] p.a5:Int))).2 0) (.ret ((0,([]:List Int)),(A.k kv ((p.a7,([]:List Int)),(A.v .u64 (A.n yI [p.a0,p.a1,p.a2,p.a3,p.a4] p.a5:Int)),(A.n yI [p.a8,p.a9,p.lu,p.mg,p.a12] p.a5:Int))).2)) (.more (.c1 ⟨p.a0,p.a1,p.a2,p.a3,p.a4,p.a6,p.a8,p.a9,p.lu,p.mg,p.a12⟩ (A.b .add .i64 p.a5 1) (A.k kv ((p.a7,([]:List Int)),(A.v .u64 (A.n yI [p.a0,p.a1,p.a2,p.a3,p.a4] p.a5:Int)),(A.n yI [p.a8,p.a9,p.lu,p.mg,p.a12] p.a5:Int))).1.1 (A.k kv ((p.a7,([]:List Int)),(A.v .u64 (A.n yI [p.a0,p.a1,p.a2,p.a3,p.a4] p.a5:Int)),(A.n yI [p.a8,p.a9,p.lu,p.mg,p.a12] p.a5:Int))).1.2)))))))) (.ret ((p.a7,([]:List Int)),0))
 | .c1 p b5 b7 b8=>.br (A.c .lss b5 5) (.need (A.and (A.c .leq 0 b5) (A.c .lss b5 5)) (.need (A.and (A.c .leq 0 b5) (A.c .lss b5 5)) (.need (A.k (@tt ((Int×List Int)×Int×Int)) ((b7,b8),(A.v .u64 (A.n yI [p.b0,p.b1,p.b2,p.b3,p.b4] b5:Int)),(A.n yI [p.b9,p.b10,p.b11,p.b12,p.b13] b5:Int))) (.need (A.k (@tt ((Int×List Int)×Int×Int)) ((b7,b8),(A.v .u64 (A.n yI [p.b0,p.b1,p.b2,p.b3,p.b4] b5:Int)),(A.n yI [p.b9,p.b10,p.b11,p.b12,p.b13] b5:Int))) (.need (A.and (A.c .leq 0 b5) (A.c .lss b5 5)) (.br (A.c .neq (A.k kv ((b7,b8),(A.v .u64 (A.n yI [p.b0,p.b1,p.b2,p.b3,p.b4] b5:Int)),(A.n yI [p.b9,p.b10,p.b11,p.b12,p.b13] b5:Int))).2 0) (.ret ((0,([]:List Int)),(A.k kv ((b7,b8),(A.v .u64 (A.n yI [p.b0,p.b1,p.b2,p.b3,p.b4] b5:Int)),(A.n yI [p.b9,p.b10,p.b11,p.b12,p.b13] b5:Int))).2)) (.more (.c1 p (A.b .add .i64 b5 1) (A.k kv ((b7,b8),(A.v .u64 (A.n yI [p.b0,p.b1,p.b2,p.b3,p.b4] b5:Int)),(A.n yI [p.b9,p.b10,p.b11,p.b12,p.b13] b5:Int))).1.1 (A.k kv ((b7,b8),(A.v .u64 (A.n yI [p.b0,p.b1,p.b2,p.b3,p.b4] b5:Int)),(A.n yI [p.b9,p.b10,p.b11,p.b12,p.b13] b5:Int))).1.2)))))))) (.ret ((b7,b8),0))
theorem kq{v w:Nat}{l:List Bool}(hv:v<2^w)(hw:w≤64)(hl:l.length+w≤4096):u_ (aU l,(v:Int),(w:Int))=(aU (l++bitsOf v w),0):=by
 rw[u_]
 simp only[fC (l:=l) (by omega),Bool.not_true,cond_false,d_,Int.toNat_natCast]
 rw[qq (by omega),Int.toNat_natCast,Nat.div_eq_of_lt hv,show decide ((w:Int)<0)=false from by simp,show decide (64<(w:Int))=false from by simp;omega,oO (by rw[List.length_append,ak];exact hl)]
 rfl
theorem qo{p:FL}{i:Int}{v w:Nat}{l:List Bool}{r:(Int×List Int)×Int}(h0:0≤i)(h5:i<5)(hv:(ai.n (.int .i64) [p.b0,p.b1,p.b2,p.b3,p.b4] i:Int)=(v:Int))(hw:(ai.n (.int .i64) [p.b9,p.b10,p.b11,p.b12,p.b13] i:Int)=(w:Int))(hvw:v<2^w)(hw8:w≤8)(hl:l.length≤100)
  (h:aA (Gv ai) (.more (.c1 p (i+1) (aU (l++bitsOf v w)).1 (aU (l++bitsOf v w)).2)) r):aA (Gv ai) (.more (.c1 p i (aU l).1 (aU l).2)) r:=by
 rw[ao,Gv]
 have hn:ai.and (ai.c .leq 0 i) (ai.c .lss i 5)=true:=by rw[aD,ax,al];simp;omega
 have hp:=Nat.pow_le_pow_right (n:=2) (by decide) hw8
 have hc:ai.k kv (((aU l).1,(aU l).2),(ai.v .u64 (ai.n (.int .i64) [p.b0,p.b1,p.b2,p.b3,p.b4] i:Int)),(ai.n (.int .i64) [p.b9,p.b10,p.b11,p.b12,p.b13] i:Int))=(aU (l++bitsOf v w),0):=by
  rw[show(ai.v .u64 (ai.n (.int .i64) [p.b0,p.b1,p.b2,p.b3,p.b4] i:Int))=(v:Int) from(congrArg (ai.v .u64) hv).trans (cK (by omega)),hw]
  exact kq hvw (by omega) (by omega)
 refine(aj (by rw[al];simpa using h5)).2 (af.2 ⟨hn,af.2 ⟨hn,af.2 ⟨rfl,?_⟩⟩⟩)
 repeat (first|refine af.2 ⟨rfl,?_⟩|refine af.2 ⟨hn,?_⟩)
 refine(ah (cf (congrArg Prod.snd hc))).2 ?_
 refine aW (congrArg LT.more (congr (congr (congrArg (HY.c1 p) ?_) (congrArg (fun z=>z.1.1) hc)) (congrArg (fun z=>z.1.2) hc))) h
 rw[cu,ji (by omega) (by omega)]
theorem Ey{t po m n s:Int}:aA (Gv ai) (MM ai t po m n s) (iX (t,po,m,n,s)):=by
 unfold MM
 rw[iX]
 refine af.2 ⟨rfl,?_⟩
 have hchk:ai.k j4 ((t,po,m,n,s),8)=bif cO (t,po,m,n,s) then 0 else 40:=od (t,po,m,n,s)
 cases hok:cO (t,po,m,n,s)
 ·rw[hok] at hchk
  exact(aj (ei (by rw[hchk];decide))).2 (.ret _)
 rw[hok] at hchk
 refine(ah (cf hchk)).2 ?_
 rw[jq] at hok
 obtain⟨t,rfl⟩:=Int.eq_ofNat_of_zero_le hok.1.1
 obtain⟨po,rfl⟩:=Int.eq_ofNat_of_zero_le hok.2.1.1
 obtain⟨m,rfl⟩:=Int.eq_ofNat_of_zero_le hok.2.2.1.1
 obtain⟨n,rfl⟩:=Int.eq_ofNat_of_zero_le hok.2.2.2.1.1
 obtain⟨s,rfl⟩:=Int.eq_ofNat_of_zero_le hok.2.2.2.2.1
 have hc:ai.k kv (((0:Int),([]:List Int)),(ai.v .u64 (t:Int)),8)=(aU ([]++bitsOf t 8),0):=by
  rw[cK (by omega)]
  exact kq (l:=[]) (v:=t) (w:=8) (by omega) (by decide) (by decide)
 rw[ao,Gv]
 refine(aj rfl).2 (af.2 ⟨rfl,af.2 ⟨rfl,af.2 ⟨rfl,?_⟩⟩⟩)
 repeat (refine af.2 ⟨rfl,?_⟩)
 refine(ah (cf (congrArg Prod.snd hc))).2 ?_
 refine aW (congrArg LT.more (congr (congr (congrArg (HY.c1 _) (show ai.b .add .i64 0 1=1 from rfl)) (congrArg (fun z=>z.1.1) hc)) (congrArg (fun z=>z.1.2) hc))) ?_
 refine qo (v:=po) (w:=3) (by decide) (by decide) rfl rfl (by omega) (by decide) (by simp[ak]) ?_
 refine qo (i:=2) (v:=m) (w:=2) (by decide) (by decide) rfl rfl (by omega) (by decide) (by simp[ak]) ?_
 refine qo (i:=3) (v:=n) (w:=3) (by decide) (by decide) rfl rfl (by omega) (by decide) (by simp[ak]) ?_
 refine qo (i:=4) (v:=s) (w:=8) (by decide) (by decide) rfl rfl (by omega) (by decide) (by simp[ak]) ?_
 rw[ao,Gv]
 refine(ah rfl).2 ?_
 rw[show[]++bitsOf t 8++bitsOf po 3++bitsOf m 2++bitsOf n 3++bitsOf s 8=aF ((t:Int),(po:Int),(m:Int),(n:Int),(s:Int)) from by
  simp only[aF,Int.toNat_natCast,List.append_assoc,List.nil_append]]
 exact .ret _
def ml:((Int×Int×Int×Int×Int))→((Int×List Int)×Int):=iX
def Ln:aH:=⟨[(.struct [yI,yI,yI,yI,yI])], [(.struct [yI,yB]),yI],(@tt ((Int×Int×Int×Int×Int))),ml⟩
theorem LB:Sd 43 Ln:=aX aJ iC true 71 [⟨43,6, [[2,4,5,16,17]]⟩] [] (fun A (cTime,cPos,cMode,cNext,cMember)=>MM A cTime cPos cMode cNext cMember) Gv J0 (fc Try.func43 (fc Try.func32 (fc Try.func50 fz))) (sc Aj (sc JX sz)) (fun A y=>match y with |.c0 p=>⟨55,by kernel_rfl,by kernel_rfl⟩|.c1 p b5 b7 b8=>⟨55,by kernel_rfl,by kernel_rfl⟩) fun(cTime,cPos,cMode,cNext,cMember) hp h=>Ey
def t82(A:cH)(cTime:Int)(cPos:Int)(cMode:Int)(cNext:Int)(cMember:Int):LT ((Int×List Int)×Int) Empty:=.need (A.k (@tt ((Int×Int×Int×Int×Int)×Int)) ((cTime,cPos,cMode,cNext,cMember),8)) (.br (A.c .neq (A.k xb ((cTime,cPos,cMode,cNext,cMember),8)) 0) (.ret ((0,([]:List Int)),40)) (.need (A.k (@tt ((Int×List Int)×Int×Int)) ((0,([]:List Int)),(A.v .u64 cTime),8)) (.need (A.k (@tt ((Int×List Int)×Int×Int)) ((A.k dA ((0,([]:List Int)),(A.v .u64 cTime),8)).1,(A.v .u64 cPos),3)) (.need (A.k (@tt ((Int×List Int)×Int×Int)) ((A.k dA ((A.k dA ((0,([]:List Int)),(A.v .u64 cTime),8)).1,(A.v .u64 cPos),3)).1,(A.v .u64 cMode),2)) (.need (A.k (@tt ((Int×List Int)×Int×Int)) ((A.k dA ((A.k dA ((A.k dA ((0,([]:List Int)),(A.v .u64 cTime),8)).1,(A.v .u64 cPos),3)).1,(A.v .u64 cMode),2)).1,(A.v .u64 cNext),3)) (.need (A.k (@tt ((Int×List Int)×Int×Int)) ((A.k dA ((A.k dA ((A.k dA ((A.k dA ((0,([]:List Int)),(A.v .u64 cTime),8)).1,(A.v .u64 cPos),3)).1,(A.v .u64 cMode),2)).1,(A.v .u64 cNext),3)).1,(A.v .u64 cMember),8)) (.ret (A.k dA ((A.k dA ((A.k dA ((A.k dA ((A.k dA ((0,([]:List Int)),(A.v .u64 cTime),8)).1,(A.v .u64 cPos),3)).1,(A.v .u64 cMode),2)).1,(A.v .u64 cNext),3)).1,(A.v .u64 cMember),8)))))))))
theorem Er{t po m n s:Int}:aA Empty.elim (t82 ai t po m n s) (iX (t,po,m,n,s)):=by
 unfold t82
 rw[iX]
 refine af.2 ⟨rfl,?_⟩
 have hchk:ai.k xb ((t,po,m,n,s),8)=bif cO (t,po,m,n,s) then 0 else 40:=od (t,po,m,n,s)
 cases hok:cO (t,po,m,n,s)
 ·rw[hok] at hchk
  exact(aj (ei (by rw[hchk];decide))).2 (.ret _)
 rw[hok] at hchk
 refine(ah (cf hchk)).2 ?_
 rw[jq] at hok
 obtain⟨t,rfl⟩:=Int.eq_ofNat_of_zero_le hok.1.1
 obtain⟨po,rfl⟩:=Int.eq_ofNat_of_zero_le hok.2.1.1
 obtain⟨m,rfl⟩:=Int.eq_ofNat_of_zero_le hok.2.2.1.1
 obtain⟨n,rfl⟩:=Int.eq_ofNat_of_zero_le hok.2.2.2.1.1
 obtain⟨s,rfl⟩:=Int.eq_ofNat_of_zero_le hok.2.2.2.2.1
 have h1:ai.k dA (((0:Int),([]:List Int)),(ai.v .u64 (t:Int)),8)=(aU ([]++bitsOf t 8),0):=by
  rw[cK (by omega)]
  exact kq (l:=[]) (v:=t) (w:=8) (by omega) (by decide) (by decide)
 have h2:ai.k dA (aU ([]++bitsOf t 8),(ai.v .u64 (po:Int)),3)=(aU ([]++bitsOf t 8++bitsOf po 3),0):=by
  rw[cK (by omega)]
  exact kq (w:=3) (by omega) (by decide) (by simp[ak])
 have h3:ai.k dA (aU ([]++bitsOf t 8++bitsOf po 3),(ai.v .u64 (m:Int)),2)=(aU ([]++bitsOf t 8++bitsOf po 3++bitsOf m 2),0):=by
  rw[cK (by omega)]
  exact kq (w:=2) (by omega) (by decide) (by simp[ak])
 have h4:ai.k dA (aU ([]++bitsOf t 8++bitsOf po 3++bitsOf m 2),(ai.v .u64 (n:Int)),3)=(aU ([]++bitsOf t 8++bitsOf po 3++bitsOf m 2++bitsOf n 3),0):=by
  rw[cK (by omega)]
  exact kq (w:=3) (by omega) (by decide) (by simp[ak])
 have h5:ai.k dA (aU ([]++bitsOf t 8++bitsOf po 3++bitsOf m 2++bitsOf n 3),(ai.v .u64 (s:Int)),8)=(aU ([]++bitsOf t 8++bitsOf po 3++bitsOf m 2++bitsOf n 3++bitsOf s 8),0):=by
  rw[cK (by omega)]
  exact kq (w:=8) (by omega) (by decide) (by simp[ak])
 rw[h1,h2,h3,h4,h5]
 repeat (refine af.2 ⟨rfl,?_⟩)
 rw[show[]++bitsOf t 8++bitsOf po 3++bitsOf m 2++bitsOf n 3++bitsOf s 8=aF ((t:Int),(po:Int),(m:Int),(n:Int),(s:Int)) from by
  simp only[aF,Int.toNat_natCast,List.append_assoc,List.nil_append]]
 exact .ret _
def ol:((Int×Int×Int×Int×Int))→((Int×List Int)×Int):=iX
def MG:aH:=⟨[(.struct [yI,yI,yI,yI,yI])], [(.struct [yI,yB]),yI],(@tt ((Int×Int×Int×Int×Int))),ol⟩
theorem ML:Sd 12 MG:=gj aJ iC true 83 [] (fun A (cTime,cPos,cMode,cNext,cMember)=>t82 A cTime cPos cMode cNext cMember) (fc Try.func12 fz) (sc Gi (sc B6 sz)) fun(cTime,cPos,cMode,cNext,cMember) hp h=>Er
open Go.Ev.Pl
structure Gp where
 (a1 a2 a3 a4 a5 a7:Int) (a8:List Int) (a9 lu mg a12 sU:Int)
inductive vf where
 | c0 (p:Gp) (a0:Int) (a6:Int) (lf:Int) (lz:Int) (a16:Int) (a17:Int) (qs:Int)
noncomputable def F9:vf→iH
 | .c0 p a0 a6 lf lz a16 a17 qs=>⟨[⟨46,61,(en [(1,.ptr 0 0),(2,.ptr 1 0),(4,.ptr 2 0),(5,vi a0),(21,.agg [vi p.a1,vi p.a2,vi p.a3,vi p.a4,vi p.a5]),(22,vi a6)]),[.inLoop (cw Try.f46 [1,1,1,1,0,1,0,0]),.inBlock 1,.code (cw Try.f46 [1,1,1,1,1])],[],none⟩],[.flat false [vi p.a7,.sl yU p.a8],.flat false [vi p.a9,vi p.lu,vi p.mg,vi p.a12,vi p.sU],.flat false [vi lf,vi lz,vi a16,vi a17,vi qs],.dead]⟩
def Gt(A:cH)(bN:Int)(bB:List Int):LT ((Int×Int×Int×Int×Int)×Int) vf:=.need (A.k (@tt ((Int×List Int))) (bN,bB)) (.br (A.c .neq (A.k ia (bN,bB)) 0) (.ret ((0,0,0,0,0),10)) (.br (A.c .neq bN 24) (.ret ((0,0,0,0,0),40)) (.more (.c0 ⟨8,3,2,3,8,bN,bB,0,0,0,0,0⟩ 0 0 0 0 0 0 0))))
def vd(A:cH):vf→LT ((Int×Int×Int×Int×Int)×Int) vf
 | .c0 p a0 a6 lf lz a16 a17 qs=>.br (A.c .lss a6 5) (.need (A.and (A.c .leq 0 a6) (A.c .lss a6 5)) (.need (A.k (@tt ((Int×List Int)×Int×Int)) ((p.a7,p.a8),a0,(A.n yI [p.a1,p.a2,p.a3,p.a4,p.a5] a6:Int))) (.br (A.c .neq (A.k ar ((p.a7,p.a8),a0,(A.n yI [p.a1,p.a2,p.a3,p.a4,p.a5] a6:Int))).2 0) (.ret ((0,0,0,0,0),(A.k ar ((p.a7,p.a8),a0,(A.n yI [p.a1,p.a2,p.a3,p.a4,p.a5] a6:Int))).2)) (.need (A.and (A.c .leq 0 a6) (A.c .lss a6 5)) (.more (.c0 p (A.b .add .i64 a0 (A.n yI [p.a1,p.a2,p.a3,p.a4,p.a5] a6:Int)) (A.b .add .i64 a6 1) (A.n yI (A.set [lf,lz,a16,a17,qs] a6 (A.v .i64 (A.k ar ((p.a7,p.a8),a0,(A.n yI [p.a1,p.a2,p.a3,p.a4,p.a5] a6:Int))).1)) 0:Int) (A.n yI (A.set [lf,lz,a16,a17,qs] a6 (A.v .i64 (A.k ar ((p.a7,p.a8),a0,(A.n yI [p.a1,p.a2,p.a3,p.a4,p.a5] a6:Int))).1)) 1:Int) (A.n yI (A.set [lf,lz,a16,a17,qs] a6 (A.v .i64 (A.k ar ((p.a7,p.a8),a0,(A.n yI [p.a1,p.a2,p.a3,p.a4,p.a5] a6:Int))).1)) 2:Int) (A.n yI (A.set [lf,lz,a16,a17,qs] a6 (A.v .i64 (A.k ar ((p.a7,p.a8),a0,(A.n yI [p.a1,p.a2,p.a3,p.a4,p.a5] a6:Int))).1)) 3:Int) (A.n yI (A.set [lf,lz,a16,a17,qs] a6 (A.v .i64 (A.k ar ((p.a7,p.a8),a0,(A.n yI [p.a1,p.a2,p.a3,p.a4,p.a5] a6:Int))).1)) 4:Int))))))) (.need (A.k (@tt ((Int×Int×Int×Int×Int)×Int)) ((lf,lz,a16,a17,qs),8)) (.br (A.c .neq (A.k j4 ((lf,lz,a16,a17,qs),8)) 0) (.ret ((0,0,0,0,0),40)) (.ret ((lf,lz,a16,a17,qs),0))))
theorem Dc{n:Int}{b:List Int}(h:Ty.cr [(.struct [(.int .i64),(.slice (.int .u8))])] (n,b)):aA (vd ai) (Gt ai n b) (cN (n,b)):=by
 have hb:=(dn h).2.2
 have hl:=cm h
 unfold Gt
 rw[cN]
 refine af.2 ⟨rfl,?_⟩
 have hc:ai.c .neq (ai.k ia (n,b)) 0=!bf (n,b):=by
  rw[ap,iO hb hl];cases bf (n,b)<;>rfl
 rw[hc]
 cases hok:bf (n,b)
 ·exact(aj rfl).2 (.ret _)
 refine(ah rfl).2 ?_
 rw[Bool.not_true,cond_false]
 show aA (vd ai) _ (bif n != 24 then(zS,40) else _)
 by_cases h24:n=24
 ·subst h24
  refine(ah rfl).2 ?_
  rw[show((24:Int) != 24)=false from rfl,cond_false]
  have l0:=eY (bl (24,b)) 0 8
  have g0:ai.k ar ((24,b),0,8)=(((aQ (bl (24,b)) 0 8:Nat):Int),0):=iI (n:=24) (a:=0) (w:=8) hok (by decide) (by decide) (by decide)
  have l1:=eY (bl (24,b)) 8 3
  have g1:ai.k ar ((24,b),8,3)=(((aQ (bl (24,b)) 8 3:Nat):Int),0):=iI (n:=24) (a:=8) (w:=3) hok (by decide) (by decide) (by decide)
  have l2:=eY (bl (24,b)) 11 2
  have g2:ai.k ar ((24,b),11,2)=(((aQ (bl (24,b)) 11 2:Nat):Int),0):=iI (n:=24) (a:=11) (w:=2) hok (by decide) (by decide) (by decide)
  have l3:=eY (bl (24,b)) 13 3
  have g3:ai.k ar ((24,b),13,3)=(((aQ (bl (24,b)) 13 3:Nat):Int),0):=iI (n:=24) (a:=13) (w:=3) hok (by decide) (by decide) (by decide)
  have l4:=eY (bl (24,b)) 16 8
  have g4:ai.k ar ((24,b),16,8)=(((aQ (bl (24,b)) 16 8:Nat):Int),0):=iI (n:=24) (a:=16) (w:=8) hok (by decide) (by decide) (by decide)
  rw[ao,vd]
  refine(aj rfl).2 (af.2 ⟨rfl,af.2 ⟨rfl,(ah (cf (congrArg Prod.snd (show ai.k ar ((24,b),0,8)=(((aQ (bl (24,b)) 0 8:Nat):Int),0) from g0)))).2 (af.2 ⟨rfl,?_⟩)⟩⟩)
  refine aW (t':=.more (.c0 ⟨8,3,2,3,8,24,b,0,0,0,0,0⟩ 8 1 ((aQ (bl (24,b)) 0 8:Nat):Int) 0 0 0 0)) (congrArg LT.more (show vf.c0 ⟨8,3,2,3,8,24,b,0,0,0,0,0⟩ 8 1 (ai.v .i64 (ai.k ar ((24,b),0,8)).1) 0 0 0 0=_ from by rw[show(ai.v .i64 (ai.k ar ((24,b),0,8)).1)=((aQ (bl (24,b)) 0 8:Nat):Int) from by rw[g0,aZ,ji (by omega) (by omega)]])) ?_
  rw[ao,vd]
  refine(aj rfl).2 (af.2 ⟨rfl,af.2 ⟨rfl,(ah (cf (congrArg Prod.snd (show ai.k ar ((24,b),8,3)=(((aQ (bl (24,b)) 8 3:Nat):Int),0) from g1)))).2 (af.2 ⟨rfl,?_⟩)⟩⟩)
  refine aW (t':=.more (.c0 ⟨8,3,2,3,8,24,b,0,0,0,0,0⟩ 11 2 ((aQ (bl (24,b)) 0 8:Nat):Int) ((aQ (bl (24,b)) 8 3:Nat):Int) 0 0 0)) (congrArg LT.more (show vf.c0 ⟨8,3,2,3,8,24,b,0,0,0,0,0⟩ 11 2 ((aQ (bl (24,b)) 0 8:Nat):Int) (ai.v .i64 (ai.k ar ((24,b),8,3)).1) 0 0 0=_ from by rw[show(ai.v .i64 (ai.k ar ((24,b),8,3)).1)=((aQ (bl (24,b)) 8 3:Nat):Int) from by rw[g1,aZ,ji (by omega) (by omega)]])) ?_
  rw[ao,vd]
  refine(aj rfl).2 (af.2 ⟨rfl,af.2 ⟨rfl,(ah (cf (congrArg Prod.snd (show ai.k ar ((24,b),11,2)=(((aQ (bl (24,b)) 11 2:Nat):Int),0) from g2)))).2 (af.2 ⟨rfl,?_⟩)⟩⟩)
  refine aW (t':=.more (.c0 ⟨8,3,2,3,8,24,b,0,0,0,0,0⟩ 13 3 ((aQ (bl (24,b)) 0 8:Nat):Int) ((aQ (bl (24,b)) 8 3:Nat):Int) ((aQ (bl (24,b)) 11 2:Nat):Int) 0 0)) (congrArg LT.more (show vf.c0 ⟨8,3,2,3,8,24,b,0,0,0,0,0⟩ 13 3 ((aQ (bl (24,b)) 0 8:Nat):Int) ((aQ (bl (24,b)) 8 3:Nat):Int) (ai.v .i64 (ai.k ar ((24,b),11,2)).1) 0 0=_ from by rw[show(ai.v .i64 (ai.k ar ((24,b),11,2)).1)=((aQ (bl (24,b)) 11 2:Nat):Int) from by rw[g2,aZ,ji (by omega) (by omega)]])) ?_
  rw[ao,vd]
  refine(aj rfl).2 (af.2 ⟨rfl,af.2 ⟨rfl,(ah (cf (congrArg Prod.snd (show ai.k ar ((24,b),13,3)=(((aQ (bl (24,b)) 13 3:Nat):Int),0) from g3)))).2 (af.2 ⟨rfl,?_⟩)⟩⟩)
  refine aW (t':=.more (.c0 ⟨8,3,2,3,8,24,b,0,0,0,0,0⟩ 16 4 ((aQ (bl (24,b)) 0 8:Nat):Int) ((aQ (bl (24,b)) 8 3:Nat):Int) ((aQ (bl (24,b)) 11 2:Nat):Int) ((aQ (bl (24,b)) 13 3:Nat):Int) 0)) (congrArg LT.more (show vf.c0 ⟨8,3,2,3,8,24,b,0,0,0,0,0⟩ 16 4 ((aQ (bl (24,b)) 0 8:Nat):Int) ((aQ (bl (24,b)) 8 3:Nat):Int) ((aQ (bl (24,b)) 11 2:Nat):Int) (ai.v .i64 (ai.k ar ((24,b),13,3)).1) 0=_ from by rw[show(ai.v .i64 (ai.k ar ((24,b),13,3)).1)=((aQ (bl (24,b)) 13 3:Nat):Int) from by rw[g3,aZ,ji (by omega) (by omega)]])) ?_
  rw[ao,vd]
  refine(aj rfl).2 (af.2 ⟨rfl,af.2 ⟨rfl,(ah (cf (congrArg Prod.snd (show ai.k ar ((24,b),16,8)=(((aQ (bl (24,b)) 16 8:Nat):Int),0) from g4)))).2 (af.2 ⟨rfl,?_⟩)⟩⟩)
  refine aW (t':=.more (.c0 ⟨8,3,2,3,8,24,b,0,0,0,0,0⟩ 24 5 ((aQ (bl (24,b)) 0 8:Nat):Int) ((aQ (bl (24,b)) 8 3:Nat):Int) ((aQ (bl (24,b)) 11 2:Nat):Int) ((aQ (bl (24,b)) 13 3:Nat):Int) ((aQ (bl (24,b)) 16 8:Nat):Int))) (congrArg LT.more (show vf.c0 ⟨8,3,2,3,8,24,b,0,0,0,0,0⟩ 24 5 ((aQ (bl (24,b)) 0 8:Nat):Int) ((aQ (bl (24,b)) 8 3:Nat):Int) ((aQ (bl (24,b)) 11 2:Nat):Int) ((aQ (bl (24,b)) 13 3:Nat):Int) (ai.v .i64 (ai.k ar ((24,b),16,8)).1)=_ from by rw[show(ai.v .i64 (ai.k ar ((24,b),16,8)).1)=((aQ (bl (24,b)) 16 8:Nat):Int) from by rw[g4,aZ,ji (by omega) (by omega)]])) ?_
  have hchk:ai.k j4 ((((aQ (bl (24,b)) 0 8:Nat):Int),((aQ (bl (24,b)) 8 3:Nat):Int),((aQ (bl (24,b)) 11 2:Nat):Int),((aQ (bl (24,b)) 13 3:Nat):Int),((aQ (bl (24,b)) 16 8:Nat):Int)),8)=bif cO (eu (bl (24,b))) then 0 else 40:=od (eu (bl (24,b)))
  rw[ao,vd]
  refine(ah rfl).2 (af.2 ⟨rfl,?_⟩)
  cases ho:cO (eu (bl (24,b)))
  ·rw[ho] at hchk
   exact(aj (ei (by rw[hchk];decide))).2 (.ret _)
  ·rw[ho] at hchk
   exact(ah (cf hchk)).2 (.ret _)
 ·refine(aj (ei h24)).2 ?_
  rw[show(n != 24)=true from bne_iff_ne.2 h24,cond_true]
  exact .ret _
def fE:((Int×List Int))→((Int×Int×Int×Int×Int)×Int):=cN
def JC:aH:=⟨[(.struct [yI,yB])], [(.struct [yI,yI,yI,yI,yI]),yI],(@tt ((Int×List Int))),fE⟩
theorem IM:Sd 46 JC:=aX aJ iC true 58 [⟨46,8, [[1,2,4,5,21,22]]⟩] [] (fun A (bN,bB)=>Gt A bN bB) vd F9 (fc Try.func46 (fc Try.func50 fz)) (sc Aj (sc yj (sc yW sz))) (fun A y=>match y with |.c0 p a0 a6 lf lz a16 a17 qs=>⟨61,by kernel_rfl,by kernel_rfl⟩) fun(bN,bB) hp h=>Dc h
open Go.Ev.Pl
def t57(A:cH)(fKind:Int)(fReq:Int)(fCTime:Int)(fCPos:Int)(fCMode:Int)(fCNext:Int)(fCMember:Int)(fFrom:Int)(fData:List Int):LT Int Empty:=.need (A.k (@tt ((Int×Int×Int×Int×Int)×Int)) ((fCTime,fCPos,fCMode,fCNext,fCMember),8)) (.br (A.c .neq (A.k j4 ((fCTime,fCPos,fCMode,fCNext,fCMember),8)) 0) (.ret 50) (.br (A.c .lss fReq 0) (.ret 50) (.br (A.c .gtr fReq 4) (.ret 50) (.br (A.c .gtr (A.l fData) 8) (.ret 50) (.br (A.c .eql fKind 1) (.br (A.c .eql fReq 0) (.br (A.c .eql (A.l fData) 0) (.br (A.c .geq fFrom 0) (.br (A.c .lss fFrom 8) (.br (A.not (A.and (A.c .eql fCTime fCTime) (A.and (A.c .eql fCPos 0) (A.and (A.c .eql fCMode 0) (A.and (A.c .eql fCNext 0) (A.and (A.c .eql fCMember 0) true)))))) (.ret 50) (.ret 0)) (.ret 50)) (.ret 50)) (.ret 50)) (.ret 50)) (.br (A.c .eql fKind 3) (.br (A.c .eql (A.l fData) 0) (.br (A.not (A.c .eql fFrom 0)) (.ret 50) (.ret 0)) (.ret 50)) (.br (A.c .eql fKind 2) (.br (A.not (A.c .eql fFrom 0)) (.ret 50) (.ret 0)) (.br (A.c .eql fKind 4) (.br (A.not (A.c .eql fFrom 0)) (.ret 50) (.ret 0)) (.ret 50)))))))))
def lC:((Int×Int×(Int×Int×Int×Int×Int)×Int×List Int))→Int:=fun(fKind,fReq,(fCTime,fCPos,fCMode,fCNext,fCMember),fFrom,fData)=>(t57 ai fKind fReq fCTime fCPos fCMode fCNext fCMember fFrom fData).val (Ty.dC [yI])
def Na:aH:=⟨[(.struct [yI,yI,(.struct [yI,yI,yI,yI,yI]),yI,yB])], [yI],(@tt ((Int×Int×(Int×Int×Int×Int×Int)×Int×List Int))),lC⟩
theorem Lt:Sd 47 Na:=aV aJ iC true 109 [] (fun A (fKind,fReq,(fCTime,fCPos,fCMode,fCNext,fCMember),fFrom,fData)=>t57 A fKind fReq fCTime fCPos fCMode fCNext fCMember fFrom fData) (fc Try.func47 fz) (sc Aj sz) (fun((fKind,fReq,(fCTime,fCPos,fCMode,fCNext,fCMember),fFrom,fData):(Int×Int×(Int×Int×Int×Int×Int)×Int×List Int)) hp h=>by
 show(t57 ai fKind fReq fCTime fCPos fCMode fCNext fCMember fFrom fData).pre=true
 simp[t57,LT.pre,ap,fo])
def t58(A:cH)(fKind:Int)(fReq:Int)(fCTime:Int)(fCPos:Int)(fCMode:Int)(fCNext:Int)(fCMember:Int)(fFrom:Int)(fData:List Int):LT Int Empty:=.br (A.c .lss fKind 1) (.ret 50) (.br (A.c .gtr fKind 4) (.ret 50) (.need (A.k (@tt ((Int×Int×Int×Int×Int)×Int)) ((fCTime,fCPos,fCMode,fCNext,fCMember),8)) (.br (A.c .neq (A.k xb ((fCTime,fCPos,fCMode,fCNext,fCMember),8)) 0) (.ret 50) (.br (A.c .lss fReq 0) (.ret 50) (.br (A.c .gtr fReq 4) (.ret 50) (.br (A.c .gtr (A.l fData) 8) (.ret 50) (.br (A.c .eql fKind 1) (.br (A.c .gtr (A.l fData) 0) (.ret 50) (.br (A.c .neq fKind 1) (.br (A.c .neq fFrom 0) (.ret 50) (.ret 0)) (.br (A.c .neq fReq 0) (.ret 50) (.br (A.c .lss fFrom 0) (.ret 50) (.br (A.c .geq fFrom 8) (.ret 50) (.br (A.not (A.and (A.c .eql fCTime fCTime) (A.and (A.c .eql fCPos 0) (A.and (A.c .eql fCMode 0) (A.and (A.c .eql fCNext 0) (A.and (A.c .eql fCMember 0) true)))))) (.ret 50) (.ret 0))))))) (.br (A.c .eql fKind 3) (.br (A.c .gtr (A.l fData) 0) (.ret 50) (.br (A.c .neq fKind 1) (.br (A.c .neq fFrom 0) (.ret 50) (.ret 0)) (.br (A.c .neq fReq 0) (.ret 50) (.br (A.c .lss fFrom 0) (.ret 50) (.br (A.c .geq fFrom 8) (.ret 50) (.br (A.not (A.and (A.c .eql fCTime fCTime) (A.and (A.c .eql fCPos 0) (A.and (A.c .eql fCMode 0) (A.and (A.c .eql fCNext 0) (A.and (A.c .eql fCMember 0) true)))))) (.ret 50) (.ret 0))))))) (.br (A.c .neq fKind 1) (.br (A.c .neq fFrom 0) (.ret 50) (.ret 0)) (.br (A.c .neq fReq 0) (.ret 50) (.br (A.c .lss fFrom 0) (.ret 50) (.br (A.c .geq fFrom 8) (.ret 50) (.br (A.not (A.and (A.c .eql fCTime fCTime) (A.and (A.c .eql fCPos 0) (A.and (A.c .eql fCMode 0) (A.and (A.c .eql fCNext 0) (A.and (A.c .eql fCMember 0) true)))))) (.ret 50) (.ret 0))))))))))))))
def zT:((Int×Int×(Int×Int×Int×Int×Int)×Int×List Int))→Int:=fun(fKind,fReq,(fCTime,fCPos,fCMode,fCNext,fCMember),fFrom,fData)=>(t58 ai fKind fReq fCTime fCPos fCMode fCNext fCMember fFrom fData).val (Ty.dC [yI])
def MJ:aH:=⟨[(.struct [yI,yI,(.struct [yI,yI,yI,yI,yI]),yI,yB])], [yI],(@tt ((Int×Int×(Int×Int×Int×Int×Int)×Int×List Int))),zT⟩
theorem LH:Sd 11 MJ:=aV aJ iC true 114 [] (fun A (fKind,fReq,(fCTime,fCPos,fCMode,fCNext,fCMember),fFrom,fData)=>t58 A fKind fReq fCTime fCPos fCMode fCNext fCMember fFrom fData) (fc Try.func11 fz) (sc Gi sz) (fun((fKind,fReq,(fCTime,fCPos,fCMode,fCNext,fCMember),fFrom,fData):(Int×Int×(Int×Int×Int×Int×Int)×Int×List Int)) hp h=>by
 show(t58 ai fKind fReq fCTime fCPos fCMode fCNext fCMember fFrom fData).pre=true
 simp[t58,LT.pre,ap,fo])
def t44(A:cH)(aKind:Int)(aReq:Int)(aCTime:Int)(aCPos:Int)(aCMode:Int)(aCNext:Int)(aCMember:Int)(aFrom:Int)(aData:List Int)(bKind:Int)(bReq:Int)(bCTime:Int)(bCPos:Int)(bCMode:Int)(bCNext:Int)(bCMember:Int)(bFrom:Int)(bData:List Int):LT Bool Empty:=.br (A.c .eql aKind bKind) (.br (A.c .eql aReq bReq) (.br (A.and (A.c .eql aCTime bCTime) (A.and (A.c .eql aCPos bCPos) (A.and (A.c .eql aCMode bCMode) (A.and (A.c .eql aCNext bCNext) (A.and (A.c .eql aCMember bCMember) true))))) (.br (A.c .eql aFrom bFrom) (.ret (A.z .eql (A.bytes aData) (A.bytes bData))) (.ret false)) (.ret false)) (.ret false)) (.ret false)
def yc:((Int×Int×(Int×Int×Int×Int×Int)×Int×List Int)×(Int×Int×(Int×Int×Int×Int×Int)×Int×List Int))→Bool:=fun((aKind,aReq,(aCTime,aCPos,aCMode,aCNext,aCMember),aFrom,aData),bKind,bReq,(bCTime,bCPos,bCMode,bCNext,bCMember),bFrom,bData)=>(t44 ai aKind aReq aCTime aCPos aCMode aCNext aCMember aFrom aData bKind bReq bCTime bCPos bCMode bCNext bCMember bFrom bData).val (Ty.dC [.bool])
def KA:aH:=⟨[(.struct [yI,yI,(.struct [yI,yI,yI,yI,yI]),yI,yB]),(.struct [yI,yI,(.struct [yI,yI,yI,yI,yI]),yI,yB])], [.bool],(@tt ((Int×Int×(Int×Int×Int×Int×Int)×Int×List Int)×(Int×Int×(Int×Int×Int×Int×Int)×Int×List Int))),yc⟩
theorem Mh:Sd 10 KA:=aV aJ iC true 51 [] (fun A ((aKind,aReq,(aCTime,aCPos,aCMode,aCNext,aCMember),aFrom,aData),bKind,bReq,(bCTime,bCPos,bCMode,bCNext,bCMember),bFrom,bData)=>t44 A aKind aReq aCTime aCPos aCMode aCNext aCMember aFrom aData bKind bReq bCTime bCPos bCMode bCNext bCMember bFrom bData) (fc Try.func10 fz) sz (fun(((aKind,aReq,(aCTime,aCPos,aCMode,aCNext,aCMember),aFrom,aData),bKind,bReq,(bCTime,bCPos,bCMode,bCNext,bCMember),bFrom,bData):(Int×Int×(Int×Int×Int×Int×Int)×Int×List Int)×(Int×Int×(Int×Int×Int×Int×Int)×Int×List Int)) hp h=>by
 show(t44 ai aKind aReq aCTime aCPos aCMode aCNext aCMember aFrom aData bKind bReq bCTime bCPos bCMode bCNext bCMember bFrom bData).pre=true
 simp[t44,LT.pre,ap,fo])
theorem qi{k r t p m n s fr:Int}{d:List Int}:lC (k,r,(t,p,m,n,s),fr,d)=bif eB (k,r,(t,p,m,n,s),fr,d) then 0 else 50:=by
 have hc:ai.c .neq (ai.k j4 ((t,p,m,n,s),8)) 0=!cO (t,p,m,n,s):=by
  rw[show ai.k j4 ((t,p,m,n,s),8)=bif cO (t,p,m,n,s) then 0 else 40 from od (t,p,m,n,s)];cases cO (t,p,m,n,s)<;>rfl
 have hl:ai.l d=(d.length:Int):=rfl
 have hiff:=fO (k:=k) (r:=r) (t:=t) (p:=p) (m:=m) (n:=n) (s:=s) (fr:=fr) (d:=d)
 have hq:(t==t&&(p==0&&(m==0&&(n==0&&(s==0&&true)))))=decide (p=0∧m=0∧n=0∧s=0):=by
  rw[Bool.eq_iff_iff];simp
 simp only[lC,t57,LT.val,hc,hl,aM,aI,al,ax,au,ay,aD,bM,hq,Bool.cond_eq_ite,hiff,Bool.and_eq_true,Bool.not_eq_true',decide_eq_true_eq,decide_eq_false_iff_not,beq_iff_eq,bne_iff_ne,ne_eq]
 cases cO (t,p,m,n,s)
 ·simp
 ·simp only[Bool.true_eq_false,if_false,true_and,Bool.not_true,Bool.false_eq_true,ite_false,reduceIte]
  generalize d.length=len
  repeat' split
  all_goals first|rfl|(exfalso;omega)|(exfalso;simp at *;omega)
theorem EB{k r t p m n s fr:Int}{d:List Int}:zT (k,r,(t,p,m,n,s),fr,d)=bif eB (k,r,(t,p,m,n,s),fr,d) then 0 else 50:=by
 have hc:ai.c .neq (ai.k xb ((t,p,m,n,s),8)) 0=!cO (t,p,m,n,s):=by
  rw[show ai.k xb ((t,p,m,n,s),8)=bif cO (t,p,m,n,s) then 0 else 40 from od (t,p,m,n,s)];cases cO (t,p,m,n,s)<;>rfl
 have hl:ai.l d=(d.length:Int):=rfl
 have hiff:=fO (k:=k) (r:=r) (t:=t) (p:=p) (m:=m) (n:=n) (s:=s) (fr:=fr) (d:=d)
 have hq:(t==t&&(p==0&&(m==0&&(n==0&&(s==0&&true)))))=decide (p=0∧m=0∧n=0∧s=0):=by
  rw[Bool.eq_iff_iff];simp
 simp only[zT,t58,LT.val,hc,hl,aM,aI,al,ax,au,ay,aD,bM,hq,Bool.cond_eq_ite,hiff,Bool.and_eq_true,Bool.not_eq_true',decide_eq_true_eq,decide_eq_false_iff_not,beq_iff_eq,bne_iff_ne,ne_eq]
 cases cO (t,p,m,n,s)
 ·simp
 ·simp only[Bool.true_eq_false,if_false,true_and,Bool.not_true,Bool.false_eq_true,ite_false,reduceIte]
  generalize d.length=len
  clear hiff hq hc hl
  by_cases k1:k=1
  ·subst k1
   simp only[show ¬((1:Int)<1) by decide,show ¬((4:Int)<1) by decide,not_true_eq_false,true_and,if_true,if_false]
   repeat' split
   all_goals first|rfl|(exfalso;omega)
  ·by_cases k3:k=3
   ·subst k3
    simp only[show ¬((3:Int)<1) by decide,show ¬((4:Int)<3) by decide,k1,true_and,false_and,false_or,not_false_eq_true,if_true,if_false]
    repeat' split
    all_goals first|rfl|(exfalso;omega)
   ·simp only[k1,k3,true_and,false_and,false_or,not_false_eq_true,if_true,if_false]
    repeat' split
    all_goals first|rfl|(exfalso;omega)
open Go.Ev.Pl
def EX(A:cH)(n:Int)(kind:Int):LT Bool Empty:=.br (A.c .eql kind 1) (.ret (A.c .eql n 40)) (.br (A.c .eql kind 3) (.ret (A.c .eql n 54)) (.br (A.c .eql kind 2) (.br (A.c .geq (A.b .sub .i64 n 29) 0) (.br (A.c .leq (A.b .sub .i64 n 29) 64) (.ret (A.c .eql (A.b .rem .i64 (A.b .sub .i64 n 29) 8) 0)) (.ret false)) (.ret false)) (.br (A.c .geq (A.b .sub .i64 n 79) 0) (.br (A.c .leq (A.b .sub .i64 n 79) 64) (.ret (A.c .eql (A.b .rem .i64 (A.b .sub .i64 n 79) 8) 0)) (.ret false)) (.ret false))))
def gW:(Int×Int)→Bool:=fun(n,kind)=>(EX ai n kind).val (Ty.dC [.bool])
def Ih:aH:=⟨[yI,yI], [.bool],(@tt (Int×Int)),gW⟩
theorem Jp:Sd 42 Ih:=aV aJ iC true 54 [] (fun A (n,kind)=>EX A n kind) (fc Try.func42 fz) sz (fun((n,kind):Int×Int) hp h=>by
 show(EX ai n kind).pre=true
 simp[EX,LT.pre,ap,fo])
def CW(A:cH)(bN:Int)(bB:List Int)(kind:Int)(unsentN:Int)(unsentB:List Int):LT ((Int×List Int)×(Int×List Int)×Int) Empty:=.br (A.c .neq kind 4) (.need (A.k (@tt ((Int×List Int)×(Int×List Int))) ((bN,bB),unsentN,unsentB)) (.br (A.c .neq (A.k bZ ((bN,bB),unsentN,unsentB)).2 0) (.ret ((A.k bZ ((bN,bB),unsentN,unsentB)).1,(0,([]:List Int)),(A.k bZ ((bN,bB),unsentN,unsentB)).2)) (.br (A.c .neq kind 3) (.ret ((A.k bZ ((bN,bB),unsentN,unsentB)).1,(0,([]:List Int)),(A.k bZ ((bN,bB),unsentN,unsentB)).2)) (.need (A.k (@tt ((Int×List Int)×Int×Int)) ((A.k bZ ((bN,bB),unsentN,unsentB)).1,(A.b .sub .i64 (A.k bZ ((bN,bB),unsentN,unsentB)).1.1 24),(A.k bZ ((bN,bB),unsentN,unsentB)).1.1)) (.ret ((A.k bZ ((bN,bB),unsentN,unsentB)).1,(A.k bF ((A.k bZ ((bN,bB),unsentN,unsentB)).1,(A.b .sub .i64 (A.k bZ ((bN,bB),unsentN,unsentB)).1.1 24),(A.k bZ ((bN,bB),unsentN,unsentB)).1.1)))))))) (.need (A.k (@tt ((Int×List Int)×Int×Int)) ((bN,bB),0,55)) (.br (A.c .neq (A.k bF ((bN,bB),0,55)).2 0) (.ret ((0,([]:List Int)),(0,([]:List Int)),(A.k bF ((bN,bB),0,55)).2)) (.need (A.k (@tt ((Int×List Int)×(Int×List Int))) ((A.k bF ((bN,bB),0,55)).1,0,([]:List Int))) (.br (A.c .neq (A.k bZ ((A.k bF ((bN,bB),0,55)).1,0,([]:List Int))).2 0) (.ret ((0,([]:List Int)),(0,([]:List Int)),(A.k bZ ((A.k bF ((bN,bB),0,55)).1,0,([]:List Int))).2)) (.need (A.k (@tt ((Int×List Int)×Int×Int)) ((A.k bZ ((A.k bF ((bN,bB),0,55)).1,0,([]:List Int))).1,(A.b .sub .i64 (A.k bZ ((A.k bF ((bN,bB),0,55)).1,0,([]:List Int))).1.1 24),(A.k bZ ((A.k bF ((bN,bB),0,55)).1,0,([]:List Int))).1.1)) (.br (A.c .neq (A.k bF ((A.k bZ ((A.k bF ((bN,bB),0,55)).1,0,([]:List Int))).1,(A.b .sub .i64 (A.k bZ ((A.k bF ((bN,bB),0,55)).1,0,([]:List Int))).1.1 24),(A.k bZ ((A.k bF ((bN,bB),0,55)).1,0,([]:List Int))).1.1)).2 0) (.ret ((0,([]:List Int)),(0,([]:List Int)),(A.k bF ((A.k bZ ((A.k bF ((bN,bB),0,55)).1,0,([]:List Int))).1,(A.b .sub .i64 (A.k bZ ((A.k bF ((bN,bB),0,55)).1,0,([]:List Int))).1.1 24),(A.k bZ ((A.k bF ((bN,bB),0,55)).1,0,([]:List Int))).1.1)).2)) (.need (A.k (@tt ((Int×List Int)×(Int×List Int))) ((bN,bB),(A.k bF ((A.k bZ ((A.k bF ((bN,bB),0,55)).1,0,([]:List Int))).1,(A.b .sub .i64 (A.k bZ ((A.k bF ((bN,bB),0,55)).1,0,([]:List Int))).1.1 24),(A.k bZ ((A.k bF ((bN,bB),0,55)).1,0,([]:List Int))).1.1)).1)) (.ret ((A.k bZ ((bN,bB),(A.k bF ((A.k bZ ((A.k bF ((bN,bB),0,55)).1,0,([]:List Int))).1,(A.b .sub .i64 (A.k bZ ((A.k bF ((bN,bB),0,55)).1,0,([]:List Int))).1.1 24),(A.k bZ ((A.k bF ((bN,bB),0,55)).1,0,([]:List Int))).1.1)).1)).1,(A.k bF ((A.k bZ ((A.k bF ((bN,bB),0,55)).1,0,([]:List Int))).1,(A.b .sub .i64 (A.k bZ ((A.k bF ((bN,bB),0,55)).1,0,([]:List Int))).1.1 24),(A.k bZ ((A.k bF ((bN,bB),0,55)).1,0,([]:List Int))).1.1)).1,(A.k bZ ((bN,bB),(A.k bF ((A.k bZ ((A.k bF ((bN,bB),0,55)).1,0,([]:List Int))).1,(A.b .sub .i64 (A.k bZ ((A.k bF ((bN,bB),0,55)).1,0,([]:List Int))).1.1 24),(A.k bZ ((A.k bF ((bN,bB),0,55)).1,0,([]:List Int))).1.1)).1)).2)))))))))
def aP:((Int×List Int)×Int×(Int×List Int))→((Int×List Int)×(Int×List Int)×Int):=fun((bN,bB),kind,unsentN,unsentB)=>(CW ai bN bB kind unsentN unsentB).val (Ty.dC [(.struct [yI,yB]),(.struct [yI,yB]),yI])
def JA:aH:=⟨[(.struct [yI,yB]),yI,(.struct [yI,yB])], [(.struct [yI,yB]),(.struct [yI,yB]),yI],(@tt ((Int×List Int)×Int×(Int×List Int))),aP⟩
theorem IW:Sd 44 JA:=aV aJ iC true 110 [] (fun A ((bN,bB),kind,unsentN,unsentB)=>CW A bN bB kind unsentN unsentB) (fc Try.func44 fz) (sc IV (sc Fi sz)) (fun(((bN,bB),kind,unsentN,unsentB):(Int×List Int)×Int×(Int×List Int)) hp h=>by
 show(CW ai bN bB kind unsentN unsentB).pre=true
 simp[CW,LT.pre,ap,fo])
theorem Ab{n:Nat}(hn:n≤4096):gW ((n:Int),1)=c_ n 1∧gW ((n:Int),2)=c_ n 2∧gW ((n:Int),3)=c_ n 3∧gW ((n:Int),4)=c_ n 4:=by
 have key:∀a:Nat,a≤100→(bif ai.c .geq (ai.b .sub .i64 (n:Int) (a:Int)) 0 then(bif ai.c .leq (ai.b .sub .i64 (n:Int) (a:Int)) 64 then ai.c .eql (ai.b .rem .i64 (ai.b .sub .i64 (n:Int) (a:Int)) 8) 0 else false) else false)=(decide (a≤n)&&decide (n≤a+64)&&decide ((n-a)%8=0)):=by
  intro a ha
  rw[bC,ji (by omega) (by omega),ay,ax,aM,vG]
  by_cases h1:a≤n
  ·rw[Int.tmod_eq_emod_of_nonneg (by omega),show decide ((0:Int)≤(n:Int)-(a:Int))=true from by simp;omega,cond_true,show decide (a≤n)=true from by simpa using h1,Bool.true_and]
   by_cases h2:n≤a+64
   ·rw[show decide ((n:Int)-(a:Int)≤64)=true from by simp;omega,cond_true,show decide (n≤a+64)=true from by simpa using h2,Bool.true_and,Bool.eq_iff_iff]
    simp only[beq_iff_eq,decide_eq_true_eq]
    omega
   ·rw[show decide ((n:Int)-(a:Int)≤64)=false from by simp;omega,cond_false,show decide (n≤a+64)=false from by simpa using h2,Bool.false_and]
  ·rw[show decide ((0:Int)≤(n:Int)-(a:Int))=false from by simp;omega,cond_false,show decide (a≤n)=false from by simpa using h1,Bool.false_and,Bool.false_and]
 refine⟨?_,?_,?_,?_⟩
 ·show((n:Int)==40)=(n==40)
  rw[Bool.eq_iff_iff];simp;omega
 ·refine(key 29 (by decide)).trans ?_
  show _=(decide (29≤n)&&decide (n≤93)&&(n%8==5))
  rw[Bool.eq_iff_iff];simp;omega
 ·show((n:Int)==54)=(n==54)
  rw[Bool.eq_iff_iff];simp;omega
 ·refine(key 79 (by decide)).trans ?_
  show _=(decide (79≤n)&&decide (n≤143)&&(n%8==7))
  rw[Bool.eq_iff_iff];simp;omega
theorem ua{n m k:Int}{b u:List Int}(hk:k=1∨k=2):aP ((n,b),k,(m,u))=((bY ((n,b),(m,u))).1,zB,(bY ((n,b),(m,u))).2):=by
 have h1:ai.c .neq k 4=true:=ei (by omega)
 have h3:ai.c .neq k 3=true:=ei (by omega)
 simp only[aP,CW,LT.val,h1,h3,cond_true]
 show(bif _ then _ else _)=_
 cases ai.c .neq (ai.k bZ ((n,b),(m,u))).2 0<;>rfl
theorem C6{n m:Int}{b u:List Int}:aP ((n,b),3,(m,u))=bif (bY ((n,b),(m,u))).2 != 0 then((bY ((n,b),(m,u))).1,zB,(bY ((n,b),(m,u))).2) else((bY ((n,b),(m,u))).1,bH ((bY ((n,b),(m,u))).1,ai.b .sub .i64 (bY ((n,b),(m,u))).1.1 24,(bY ((n,b),(m,u))).1.1)):=by kernel_rfl
theorem Dw{n m:Int}{b u:List Int}:aP ((n,b),4,(m,u))=bif (bH ((n,b),0,55)).2 != 0 then(zB,zB,(bH ((n,b),0,55)).2) else
  bif (bY ((bH ((n,b),0,55)).1,zB)).2 != 0 then(zB,zB,(bY ((bH ((n,b),0,55)).1,zB)).2) else
  bif (bH ((bY ((bH ((n,b),0,55)).1,zB)).1,ai.b .sub .i64 (bY ((bH ((n,b),0,55)).1,zB)).1.1 24,(bY ((bH ((n,b),0,55)).1,zB)).1.1)).2 != 0 then(zB,zB,(bH ((bY ((bH ((n,b),0,55)).1,zB)).1,ai.b .sub .i64 (bY ((bH ((n,b),0,55)).1,zB)).1.1 24,(bY ((bH ((n,b),0,55)).1,zB)).1.1)).2) else
  ((bY ((n,b),(bH ((bY ((bH ((n,b),0,55)).1,zB)).1,ai.b .sub .i64 (bY ((bH ((n,b),0,55)).1,zB)).1.1 24,(bY ((bH ((n,b),0,55)).1,zB)).1.1)).1)).1,(bH ((bY ((bH ((n,b),0,55)).1,zB)).1,ai.b .sub .i64 (bY ((bH ((n,b),0,55)).1,zB)).1.1 24,(bY ((bH ((n,b),0,55)).1,zB)).1.1)).1,(bY ((n,b),(bH ((bY ((bH ((n,b),0,55)).1,zB)).1,ai.b .sub .i64 (bY ((bH ((n,b),0,55)).1,zB)).1.1 24,(bY ((bH ((n,b),0,55)).1,zB)).1.1)).1)).2):=by kernel_rfl
theorem sn{l:List Bool}(h1:24≤l.length)(h2:l.length≤4096):bH (aU l,ai.b .sub .i64 (aU l).1 24,(aU l).1)=(aU (l.drop (l.length-24)),0):=by
 have hb:(aU l).1=((l.length:Nat):Int):=rfl
 rw[hb,show ai.b .sub .i64 ((l.length:Nat):Int) 24=((l.length-24:Nat):Int) from jH (j:=24) h1 (by omega),Aq h2 (by omega) (Nat.le_refl _),List.take_length]
theorem Ag{n:Nat}{b:List Int}(hok:bf ((n:Int),b)=true)(hn:n=54):aP (((n:Int),b),3,(0, []))=bif over 0 (unpack n b) != 0 then(zB,zB,21) else(aU ((unpack n b).take 30),aU (((unpack n b).drop 6).take 24),0):=by
 have hl:(bl ((n:Int),b)).length=n:=by rw[fA];rfl
 have e:=kU (u:=(0, [])) hok rfl (by omega)
 rw[hl,show over 0 (bl ((0:Int),([]:List Int)))=0 from rfl,show n-24=30 from by omega,show bl ((n:Int),b)=unpack n b from rfl] at e
 have h30:((unpack n b).take 30).length=30:=by rw[List.length_take,aL];omega
 have e2:=sn (l:=(unpack n b).take 30) (by omega) (by omega)
 rw[h30,List.drop_take,show 30-24=6 from rfl,show 30-6=24 from rfl] at e2
 rw[C6,e]
 cases over 0 (unpack n b) != 0
 ·simp only[cond_false]
  rw[e2];rfl
 ·rfl
theorem z7{n:Nat}{b:List Int}(hok:bf ((n:Int),b)=true)(hn:79≤n)(hn2:n≤143):aP (((n:Int),b),4,(0, []))=bif over 0 ((unpack n b).take 55) != 0 then(zB,zB,21) else bif over (over 0 (((unpack n b).drop 7).take 24)) (unpack n b) != 0 then(zB,aU (((unpack n b).drop 7).take 24),21) else(aU ((unpack n b).take (n-24)),aU (((unpack n b).drop 7).take 24),0):=by
 have hl:(bl ((n:Int),b)).length=n:=by rw[fA];rfl
 have h55:((unpack n b).take 55).length=55:=by rw[List.length_take,aL];omega
 have h31:((unpack n b).take 31).length=31:=by rw[List.length_take,aL];omega
 have e1:bH (((n:Int),b),0,55)=(aU ((unpack n b).take 55),0):=by
  rw[bH]
  simp only[hok]
  rw[show decide ((n:Int)<55)=false from by simp;omega]
  rfl
 have e2:bY (aU ((unpack n b).take 55),zB)=bif over 0 ((unpack n b).take 55) != 0 then(zB,21) else(aU ((unpack n b).take 31),0):=by
  have hk:bf (aU ((unpack n b).take 55))=true:=fC (by omega)
  have:=kU (n:=(aU ((unpack n b).take 55)).1) (b:=(aU ((unpack n b).take 55)).2) (u:=zB) hk rfl (by rw[show((aU ((unpack n b).take 55)).1,(aU ((unpack n b).take 55)).2)=aU ((unpack n b).take 55) from rfl,d_];omega)
  rw[show((aU ((unpack n b).take 55)).1,(aU ((unpack n b).take 55)).2)=aU ((unpack n b).take 55) from rfl,d_,h55,List.take_take,show over 0 (bl zB)=0 from rfl] at this
  exact this
 have e3:bH (aU ((unpack n b).take 31),ai.b .sub .i64 (aU ((unpack n b).take 31)).1 24,(aU ((unpack n b).take 31)).1)=(aU (((unpack n b).drop 7).take 24),0):=by
  have:=sn (l:=(unpack n b).take 31) (by omega) (by omega)
  rw[h31,List.drop_take] at this
  exact this
 have e4:bY (((n:Int),b),aU (((unpack n b).drop 7).take 24))=bif over (over 0 (((unpack n b).drop 7).take 24)) (unpack n b) != 0 then(zB,21) else(aU ((unpack n b).take (n-24)),0):=by
  rw[kU hok (fC (by rw[List.length_take];omega)) (by omega),hl,d_];rfl
 rw[Dw,e1]
 simp only[e2]
 cases over 0 ((unpack n b).take 55) != 0
 ·simp only[cond_false,e3]
  rw[e4]
  cases over (over 0 (((unpack n b).drop 7).take 24)) (unpack n b) != 0<;>rfl
 ·rfl
end Go.Ev.M
