/-
  PROVED: what the functions of the packages crc, cstate, metronomeref02 and metronomeref04 compute, and some of frame and metronomeref05. Conditions: none.
-/
import Derived.Test.YtjceiokllpmnkaaGreatFa
namespace Go.Ev.M
open Go.Proofs
set_option maxRecDepth 100000
set_option linter.unusedVariables false
set_option linter.unusedSimpArgs false
open Go.Ev.Pl
def FI(A:bu)(r:Int):LT Int Empty:=.br (A.c .eql (A.b .shr .u32 r 23) 1) (.ret (A.b .xor .u32 (A.b .and .u32 (A.b .shl .u32 r 1) 16777215) 6122955)) (.ret (A.b .and .u32 (A.b .shl .u32 r 1) 16777215))
def vO:Int→Int:=fun r=>(FI ah r).val (Ty.bV [(.int .u32)])
def Qu:aC:=⟨[(.int .u32)], [(.int .u32)],(@tt Int),vO⟩
theorem J4:Sd 351 Qu:=aK au dC true 35 [] (fun A r=>FI A r) (fc Tryz.func351 fz) sz (fun(r:Int) hp h=>by
 show(FI ah r).pre=true
 simp[FI,LT.pre])
theorem I8{a:Int}(h1:0≤a)(h2:a≤4294967295):IntKind.u32.wrap a=a:=IntWalk.u32_in a ⟨h1,h2⟩
theorem yv{a b:Nat}(ha:a<4294967296)(hb:b<4294967296):ah.b .xor .u32 (a:Int) (b:Int)=((a ^^^ b:Nat):Int):=by
 show IntKind.u32.wrap ((BitVec.ofInt 32 (a:Int) ^^^ BitVec.ofInt 32 (b:Int)).toNat:Int)=_
 rw[BitVec.ofInt_natCast,BitVec.ofInt_natCast,BitVec.toNat_xor,BitVec.toNat_ofNat,BitVec.toNat_ofNat,Nat.mod_eq_of_lt ha,Nat.mod_eq_of_lt hb]
 have:a ^^^ b<2^32:=Nat.xor_lt_two_pow ha hb
 rw[I8 (by omega) (by omega)]
theorem J8{a:Nat}(ha:a<4294967296):ah.b .and .u32 (a:Int) 16777215=((a%16777216:Nat):Int):=by
 show IntKind.u32.wrap ((BitVec.ofInt 32 (a:Int) &&& BitVec.ofInt 32 ((16777215:Nat):Int)).toNat:Int)=_
 rw[BitVec.ofInt_natCast,BitVec.ofInt_natCast,BitVec.toNat_and,BitVec.toNat_ofNat,BitVec.toNat_ofNat,Nat.mod_eq_of_lt ha,show 16777215%2^32=2^24-1 from rfl,Nat.and_two_pow_sub_one_eq_mod,I8 (by omega) (by omega)]
theorem BP{a k:Nat}(hk:k≤32)(h:a*2^k<4294967296):ah.b .shl .u32 (a:Int) (k:Int)=((a*2^k:Nat):Int):=by
 show IntKind.u32.wrap ((a:Int)*2^min (k:Int).toNat 32)=_
 rw[Int.toNat_natCast,Nat.min_eq_left hk,show(a:Int)*2^k=((a*2^k:Nat):Int) from by simp,I8 (by omega) (by omega)]
theorem Gp{r:Nat}(hr:r<16777216):vO (r:Int)=((step1 r false:Nat):Int):=by
 simp only[vO,FI,LT.val]
 have h1:ah.b .shr .u32 (r:Int) 23=((r/2^23:Nat):Int):=EX (n:=23) (by omega) (by decide)
 have h2:ah.b .and .u32 (ah.b .shl .u32 (r:Int) 1) 16777215=((2*r%16777216:Nat):Int):=by
  have h3:ah.b .shl .u32 (r:Int) 1=((r*2^1:Nat):Int):=BP (k:=1) (by decide) (by omega)
  rw[h3,J8 (by omega),Nat.pow_one,Nat.mul_comm]
 rw[h1,h2,step1,Bool.bne_false]
 have h4:ah.c .eql ((r/2^23:Nat):Int) 1=decide (8388608≤r):=by
  rw[aB,Bool.eq_iff_iff,decide_eq_true_eq,beq_iff_eq]
  omega
 rw[h4]
 cases decide (8388608≤r)
 ·rfl
 ·have:ah.b .xor .u32 ((2*r%16777216:Nat):Int) 6122955=((2*r%16777216 ^^^ 6122955:Nat):Int):=yv (b:=6122955) (by omega) (by decide)
  rw[cond_true,cond_true,this]
structure Me where
 (a0 a1 a2 a3 a4 a5 a6 a7 a8 a9 b_ dY a12 lW jQ pV a16 a17 qT kL a20 a21 a22 a23 a24 a25 a26 a27 a28 a29 a30 a31 a32:Int)
structure LH where
 (b0 b2 b4 b5 b6 b7 b8 b9 b10 b11 b12 b13 wJ xF dd jZ zW kp lH lq lC qq qD qJ oy lJ lD wB wK wu vY wP wz wE:Int)
inductive Ip where
 | c0 (p:Me)
 | c1 (p:LH) (b1:Int) (b3:Int)
noncomputable def KW:Ip→f_
 | .c0 p=>⟨[⟨344,20,(en [(0,.ptr 0 0),(1,.ptr 1 0),(4,vi p.a0)]),[.inLoop (cw Tryz.f344 [1,1,0,1,0,0]),.inBlock 0,.code (cw Tryz.f344 [1,1,1])],[],none⟩],[.flat false [.int .u32 false p.a1,.int .u32 false p.a2,.int .u32 false p.a3,.int .u32 false p.a4,.int .u32 false p.a5,.int .u32 false p.a6,.int .u32 false p.a7,.int .u32 false p.a8,.int .u32 false p.a9,.int .u32 false p.b_,.int .u32 false p.dY,.int .u32 false p.a12,.int .u32 false p.lW,.int .u32 false p.jQ,.int .u32 false p.pV,.int .u32 false p.a16],.flat false [.int .u32 false p.a17,.int .u32 false p.qT,.int .u32 false p.kL,.int .u32 false p.a20,.int .u32 false p.a21,.int .u32 false p.a22,.int .u32 false p.a23,.int .u32 false p.a24,.int .u32 false p.a25,.int .u32 false p.a26,.int .u32 false p.a27,.int .u32 false p.a28,.int .u32 false p.a29,.int .u32 false p.a30,.int .u32 false p.a31,.int .u32 false p.a32],.dead]⟩
 | .c1 p b1 b3=>⟨[⟨344,20,(en [(0,.ptr 0 0),(1,.ptr 1 0),(2,vi p.b0),(3,.int .u32 false b1),(4,vi p.b2),(10,vi b3)]),[.inLoop (cw Tryz.f344 [1,1,0,1,0,0,1,1,0,0,1,1,0,1,0,0]),.inBlock 2,.code (cw Tryz.f344 [1,1,0,1,0,0,1,1,0,0,1,1,1]),.inBlock 1,.code (cw Tryz.f344 [1,1,0,1,0,0,1,1,1]),.inLoop (cw Tryz.f344 [1,1,0,1,0,0]),.inBlock 0,.code (cw Tryz.f344 [1,1,1])],[],none⟩],[.flat false [.int .u32 false p.b4,.int .u32 false p.b5,.int .u32 false p.b6,.int .u32 false p.b7,.int .u32 false p.b8,.int .u32 false p.b9,.int .u32 false p.b10,.int .u32 false p.b11,.int .u32 false p.b12,.int .u32 false p.b13,.int .u32 false p.wJ,.int .u32 false p.xF,.int .u32 false p.dd,.int .u32 false p.jZ,.int .u32 false p.zW,.int .u32 false p.kp],.flat false [.int .u32 false p.lH,.int .u32 false p.lq,.int .u32 false p.lC,.int .u32 false p.qq,.int .u32 false p.qD,.int .u32 false p.qJ,.int .u32 false p.oy,.int .u32 false p.lJ,.int .u32 false p.lD,.int .u32 false p.wB,.int .u32 false p.wK,.int .u32 false p.wu,.int .u32 false p.vY,.int .u32 false p.wP,.int .u32 false p.wz,.int .u32 false p.wE],.dead]⟩
def VE(A:bu):LT (List Int) Ip:=.more (.c0 ⟨0,0,0,0,0,0,0,0,0,0,0,0,0,0,0,0,0,0,0,0,0,0,0,0,0,0,0,0,0,0,0,0,0⟩)
def Nr(A:bu):Ip→LT (List Int) Ip
 | .c0 p=>.br (A.c .lss p.a0 16) (.more (.c1 ⟨p.a0,p.a0,p.a1,p.a2,p.a3,p.a4,p.a5,p.a6,p.a7,p.a8,p.a9,p.b_,p.dY,p.a12,p.lW,p.jQ,p.pV,p.a16,p.a17,p.qT,p.kL,p.a20,p.a21,p.a22,p.a23,p.a24,p.a25,p.a26,p.a27,p.a28,p.a29,p.a30,p.a31,p.a32⟩ (A.b .shl .u32 (A.v .u32 p.a0) 20) 0)) (.ret [p.a17,p.qT,p.kL,p.a20,p.a21,p.a22,p.a23,p.a24,p.a25,p.a26,p.a27,p.a28,p.a29,p.a30,p.a31,p.a32])
 | .c1 p b1 b3=>.br (A.c .lss b3 4) (.need (A.k (@tt Int) b1) (.more (.c1 p (A.k vO b1) (A.b .add .i64 b3 1)))) (.need (A.and (A.c .leq 0 p.b0) (A.c .lss p.b0 16)) (.more (.c0 ⟨(A.b .add .i64 p.b2 1),p.b4,p.b5,p.b6,p.b7,p.b8,p.b9,p.b10,p.b11,p.b12,p.b13,p.wJ,p.xF,p.dd,p.jZ,p.zW,p.kp,(A.n (.int .u32) (A.set [p.lH,p.lq,p.lC,p.qq,p.qD,p.qJ,p.oy,p.lJ,p.lD,p.wB,p.wK,p.wu,p.vY,p.wP,p.wz,p.wE] p.b0 b1) 0:Int),(A.n (.int .u32) (A.set [p.lH,p.lq,p.lC,p.qq,p.qD,p.qJ,p.oy,p.lJ,p.lD,p.wB,p.wK,p.wu,p.vY,p.wP,p.wz,p.wE] p.b0 b1) 1:Int),(A.n (.int .u32) (A.set [p.lH,p.lq,p.lC,p.qq,p.qD,p.qJ,p.oy,p.lJ,p.lD,p.wB,p.wK,p.wu,p.vY,p.wP,p.wz,p.wE] p.b0 b1) 2:Int),(A.n (.int .u32) (A.set [p.lH,p.lq,p.lC,p.qq,p.qD,p.qJ,p.oy,p.lJ,p.lD,p.wB,p.wK,p.wu,p.vY,p.wP,p.wz,p.wE] p.b0 b1) 3:Int),(A.n (.int .u32) (A.set [p.lH,p.lq,p.lC,p.qq,p.qD,p.qJ,p.oy,p.lJ,p.lD,p.wB,p.wK,p.wu,p.vY,p.wP,p.wz,p.wE] p.b0 b1) 4:Int),(A.n (.int .u32) (A.set [p.lH,p.lq,p.lC,p.qq,p.qD,p.qJ,p.oy,p.lJ,p.lD,p.wB,p.wK,p.wu,p.vY,p.wP,p.wz,p.wE] p.b0 b1) 5:Int),(A.n (.int .u32) (A.set [p.lH,p.lq,p.lC,p.qq,p.qD,p.qJ,p.oy,p.lJ,p.lD,p.wB,p.wK,p.wu,p.vY,p.wP,p.wz,p.wE] p.b0 b1) 6:Int),(A.n (.int .u32) (A.set [p.lH,p.lq,p.lC,p.qq,p.qD,p.qJ,p.oy,p.lJ,p.lD,p.wB,p.wK,p.wu,p.vY,p.wP,p.wz,p.wE] p.b0 b1) 7:Int),(A.n (.int .u32) (A.set [p.lH,p.lq,p.lC,p.qq,p.qD,p.qJ,p.oy,p.lJ,p.lD,p.wB,p.wK,p.wu,p.vY,p.wP,p.wz,p.wE] p.b0 b1) 8:Int),(A.n (.int .u32) (A.set [p.lH,p.lq,p.lC,p.qq,p.qD,p.qJ,p.oy,p.lJ,p.lD,p.wB,p.wK,p.wu,p.vY,p.wP,p.wz,p.wE] p.b0 b1) 9:Int),(A.n (.int .u32) (A.set [p.lH,p.lq,p.lC,p.qq,p.qD,p.qJ,p.oy,p.lJ,p.lD,p.wB,p.wK,p.wu,p.vY,p.wP,p.wz,p.wE] p.b0 b1) 10:Int),(A.n (.int .u32) (A.set [p.lH,p.lq,p.lC,p.qq,p.qD,p.qJ,p.oy,p.lJ,p.lD,p.wB,p.wK,p.wu,p.vY,p.wP,p.wz,p.wE] p.b0 b1) 11:Int),(A.n (.int .u32) (A.set [p.lH,p.lq,p.lC,p.qq,p.qD,p.qJ,p.oy,p.lJ,p.lD,p.wB,p.wK,p.wu,p.vY,p.wP,p.wz,p.wE] p.b0 b1) 12:Int),(A.n (.int .u32) (A.set [p.lH,p.lq,p.lC,p.qq,p.qD,p.qJ,p.oy,p.lJ,p.lD,p.wB,p.wK,p.wu,p.vY,p.wP,p.wz,p.wE] p.b0 b1) 13:Int),(A.n (.int .u32) (A.set [p.lH,p.lq,p.lC,p.qq,p.qD,p.qJ,p.oy,p.lJ,p.lD,p.wB,p.wK,p.wu,p.vY,p.wP,p.wz,p.wE] p.b0 b1) 14:Int),(A.n (.int .u32) (A.set [p.lH,p.lq,p.lC,p.qq,p.qD,p.qJ,p.oy,p.lJ,p.lD,p.wB,p.wK,p.wu,p.vY,p.wP,p.wz,p.wE] p.b0 b1) 15:Int)⟩)))
def goT{R Y:Type}(step:Y→LT R Y):Nat→LT R Y→Option R
 | 0,_=>none
 | _+1,.ret r=>some r
 | n+1,.more y=>goT step n (step y)
 | n+1,.br b t e=>bif b then goT step n t else goT step n e
 | n+1,.need b t=>bif b then goT step n t else none
 | _+1,_=>none
theorem DZ{R Y:Type}{step:Y→LT R Y}:∀{n:Nat} {t:LT R Y} {r:R},goT step n t=some r→aD step t r:=by
 intro n
 induction n with
 | zero=>intro t r h;cases h
 | succ n ih=>
   intro t r h
   cases t with
   | ret x=>cases h;exact .ret _
   | more y=>exact .more (ih h)
   | br b t e=>
     rw[goT] at h
     cases b
     ·exact(ai rfl).2 (ih h)
     ·exact(aj rfl).2 (ih h)
   | need b t=>
     rw[goT] at h
     cases b
     ·cases h
     ·exact af.2 ⟨rfl,ih h⟩
   | eqs p t=>cases h
   | bad m s=>cases h
def OI:List Int:=[0,6122955,12245910,15185501,2677479,7714604,9568625,13593786,5354958,841733,15429208,11928467,7958313,2360034,12825791,10410356]
theorem Ex:∀i:Fin 16,OI.getD i.val 0=((y7.getD i.val 0:Nat):Int):=by decide +kernel
theorem E8:∀i:Fin 16,y7.getD i.val 0<16777216:=by decide +kernel
theorem M3:aD (Nr ah) (VE ah) OI:=DZ (n:=400) (by kernel_rfl)
def iB:Unit→(List Int):=fun _=>[0,6122955,12245910,15185501,2677479,7714604,9568625,13593786,5354958,841733,15429208,11928467,7958313,2360034,12825791,10410356]
def SG:aC:=⟨[], [(.arr 16 (.int .u32))],(@tt Unit),iB⟩
theorem Ut:Sd 344 SG:=aJ au dC true 21 [⟨344,3, [[0,1,4]]⟩,⟨344,7, [[0,1,2,3,4,10]]⟩] [] (fun A _=>VE A) Nr KW (fc Tryz.func344 fz) (sc J4 sz) (fun A y=>match y with |.c0 p=>⟨34,by kernel_rfl,by kernel_rfl⟩|.c1 p b1 b3=>⟨25,by kernel_rfl,by kernel_rfl⟩) fun _ hp h=>M3
open Go.Ev.Pl
structure GU where
 (a1:List Bool)
inductive Da where
 | c0 (p:GU) (a0:Int) (a2:Int)
noncomputable def K0:Da→f_
 | .c0 p a0 a2=>⟨[⟨281,29,(en [(0,.int .u32 false a0),(1,.sl .bool p.a1),(5,vi a2)]),[.inLoop (cw Tryz.f281 [1,0,1,0,0]),.inBlock 0,.code (cw Tryz.f281 [1,1])],[],none⟩],[.dead]⟩
def t160(A:bu)(r:Int)(l:List Bool):LT Int Da:=.more (.c0 ⟨l⟩ r 0)
def DC(A:bu):Da→LT Int Da
 | .c0 p a0 a2=>.br (A.c .lss a2 (A.l p.a1)) (.need (A.and (A.c .leq 0 a2) (A.c .lss a2 (A.l p.a1))) (.br (A.not (A.q (A.c .eql (A.b .rem .u32 (A.b .shr .u32 a0 23) 2) 1) (A.n .bool p.a1 a2:Bool))) (.more (.c0 p (A.b .xor .u32 (A.b .rem .u32 (A.b .shl .u32 a0 1) 16777216) 6122955) (A.b .add .i64 a2 1))) (.more (.c0 p (A.b .rem .u32 (A.b .shl .u32 a0 1) 16777216) (A.b .add .i64 a2 1))))) (.ret a0)
theorem FD{l:List Bool}(hl:l.length≤140737488355328):∀(j i r:Nat) (p:GU),p.a1=l→l.length-i=j→i≤l.length→r<16777216→aD (DC ah) (.more (.c0 p (r:Int) (i:Int))) ((over r (l.drop i):Nat):Int):=by
 intro j
 induction j with
 | zero=>
   intro i r p h1 hj hi hr
   have:i=l.length:=by omega
   subst this
   simp only[ak,DC]
   refine(ai (by rw[show ah.l p.a1=(l.length:Int) from by rw[h1];rfl,aG];simp)).2 ?_
   rw[List.drop_length,lS]
   exact .ret _
 | succ j ih=>
   intro i r p h1 hj hi hr
   have hi':i<l.length:=by omega
   simp only[ak,DC]
   refine(aj (by rw[show ah.l p.a1=(l.length:Int) from by rw[h1];rfl,aG];simp;omega)).2 (af.2 ⟨by rw[h1];exact bH hi',?_⟩)
   have hn:(ah.n .bool p.a1 (i:Int):Bool)=l[i]:=by rw[h1];exact getD_in hi' _
   have h4:ah.c .eql (ah.b .rem .u32 (ah.b .shr .u32 (r:Int) 23) 2) 1=decide (8388608≤r):=by
    rw[show ah.b .shr .u32 (r:Int) 23=((r/2^23:Nat):Int) from EX (n:=23) (by omega) (by decide),zm]
    exact decide_eq_decide.2 (by omega)
   have h2:ah.b .rem .u32 (ah.b .shl .u32 (r:Int) 1) 16777216=((2*r%16777216:Nat):Int):=by
    rw[show ah.b .shl .u32 (r:Int) 1=((r*2^1:Nat):Int) from BP (k:=1) (by decide) (by omega),xr,Int.tmod_eq_emod_of_nonneg (by omega)]
    omega
   have hb:ah.not (ah.q (ah.c .eql (ah.b .rem .u32 (ah.b .shr .u32 (r:Int) 23) 2) 1) (ah.n .bool p.a1 (i:Int):Bool))=(decide (8388608≤r) != l[i]):=by
    rw[h4,hn];rfl
   have hd:over r (l.drop i)=over (step1 r l[i]) (l.drop (i+1)):=by rw[List.drop_eq_getElem_cons hi',fu]
   have hm:=ih (i+1) (step1 r l[i]) p h1 (by omega) (by omega) (mF _ _)
   rw[hd]
   rw[step1] at hm ⊢
   cases hx:(decide (8388608≤r) != l[i])
   ·refine(ai (hb.trans hx)).2 ?_
    rw[hx] at hm
    exact aT (congrArg LT.more (congr (congrArg (Da.c0 p) h2) (dI (by omega)))) hm
   ·refine(aj (hb.trans hx)).2 ?_
    rw[hx] at hm
    refine aT (congrArg LT.more (congr (congrArg (Da.c0 p) ?_) (dI (by omega)))) hm
    rw[h2]
    exact yv (b:=6122955) (by omega) (by decide)
theorem Fi{r:Int}{l:List Bool}(h:Ty.du [(.int .u32),(.slice .bool)] (r,l)):l.length≤140737488355328:=by
 have h1:(0≤r∧r≤4294967295)∧l.length≤cv∧_:=h
 exact h1.2.1
theorem C7{r:Int}{l:List Bool}(h:Ty.du [(.int .u32),(.slice .bool)] (r,l))(hp:(decide (0≤r)&&decide (r<16777216))=true):aD (DC ah) (t160 ah r l) ((over r.toNat l:Nat):Int):=by
 rw[Bool.and_eq_true,decide_eq_true_eq,decide_eq_true_eq] at hp
 obtain⟨m,rfl⟩:=Int.eq_ofNat_of_zero_le hp.1
 exact FD (Fi h) l.length 0 m _ rfl (by omega) (by omega) (by omega)
def Bp:(Int×List Bool)→Int:=fun(r,l)=>((over r.toNat l:Nat):Int)
def xt:(Int×List Bool)→Bool:=fun(r,_)=>decide (0≤r)&&decide (r<16777216)
def QE:aC:=⟨[(.int .u32),(.slice .bool)], [(.int .u32)],xt,Bp⟩
theorem Uh:Sd 281 QE:=aJ au dC true 17 [⟨281,2, [[0,1,5]]⟩] [] (fun A (r,l)=>t160 A r l) DC K0 (fc Tryz.func281 fz) sz (fun A y=>match y with |.c0 p a0 a2=>⟨54,by kernel_rfl,by kernel_rfl⟩) fun((r,l):Int×List Bool) hp h=>C7 h hp
structure EW where
 (a0:List (Int×List Int))
inductive Eo where
 | c0 (p:EW) (a1:Int) (a2:Int)
noncomputable def Ll:Eo→f_
 | .c0 p a1 a2=>⟨[⟨230,26,(en [(0,.sl (.struct [yI,yB]) p.a0),(4,.int .u32 false a1),(5,vi a2)]),[.inLoop (cw Tryz.f230 [1,1,0,1,0,0]),.inBlock 0,.code (cw Tryz.f230 [1,1,1])],[],none⟩],[.dead]⟩
def OP(A:bu)(l:List (Int×List Int)):LT (Int×Int) Eo:=.more (.c0 ⟨l⟩ 0 0)
def DO(A:bu):Eo→LT (Int×Int) Eo
 | .c0 p a1 a2=>.br (A.c .lss a2 (A.l p.a0)) (.need (A.and (A.c .leq 0 a2) (A.c .lss a2 (A.l p.a0))) (.need (A.k (@tt ((Int×List Int))) (A.n (.struct [yI,yB]) p.a0 a2:Int×List Int)) (.br (A.c .neq (A.k jC (A.n (.struct [yI,yB]) p.a0 a2:Int×List Int)) 0) (.ret (0,10)) (.need (A.and (A.c .leq 0 a2) (A.c .lss a2 (A.l p.a0))) (.need (A.k (@tt ((Int×List Int))) (A.n (.struct [yI,yB]) p.a0 a2:Int×List Int)) (.need (A.k xt (a1,(A.k jX (A.n (.struct [yI,yB]) p.a0 a2:Int×List Int)))) (.more (.c0 p (A.k Bp (a1,(A.k jX (A.n (.struct [yI,yB]) p.a0 a2:Int×List Int)))) (A.b .add .i64 a2 1))))))))) (.ret (a1,0))
theorem Ah{r:Nat}(h:r<16777216)(l:List Bool):ah.k xt ((r:Int),l)=true:=by
 rw[al,xt,Bool.and_eq_true,decide_eq_true_eq,decide_eq_true_eq]
 omega
theorem Hu{l:List (Int×List Int)}(hl:l.length≤140737488355328):∀(j i:Nat) (p:EW),p.a0=l→l.length-i=j→i≤l.length→(∀x∈l.take i,bw x=true)→aD (DO ah) (.more (.c0 p ((over 0 ((l.take i).flatMap bE):Nat):Int) (i:Int))) (su l):=by
 intro j
 induction j with
 | zero=>
   intro i p h1 hj hi hok
   have:i=l.length:=by omega
   subst this
   rw[List.take_length] at hok ⊢
   simp only[ak,DO]
   refine(ai (by rw[show ah.l p.a0=(l.length:Int) from by rw[h1];rfl,aG];simp)).2 ?_
   rw[su,List.all_eq_true.2 hok]
   exact .ret _
 | succ j ih=>
   intro i p h1 hj hi hok
   simp only[ak,DO]
   have hi':i<l.length:=by omega
   refine(aj (by rw[show ah.l p.a0=(l.length:Int) from by rw[h1];rfl,aG];simp;omega)).2 (af.2 ⟨by rw[h1];exact bH hi',af.2 ⟨rfl,?_⟩⟩)
   have hn1:(ah.n (.struct [(.int .i64),(.slice (.int .u8))]) p.a0 (i:Int):Int×List Int)=l[i]:=by rw[h1,mq hi']
   rw[hn1]
   have hn:(ah.k jC l[i])=bif bw l[i] then 0 else 10:=by rw[al,jC]
   rw[hn]
   cases hx:bw l[i]
   ·refine(aj rfl).2 ?_
    rw[su,show l.all bw=false from List.all_eq_false.2 ⟨l[i],List.getElem_mem hi',by rw[hx];decide⟩]
    exact .ret _
   ·refine(ai rfl).2 ?_
    have hL:(ah.k jX l[i])=bE l[i]:=by rw[al,jX,hx];rfl
    have hlt:=gy (r:=0) (by decide) ((l.take i).flatMap bE)
    have hc:ah.k Bp (((over 0 ((l.take i).flatMap bE):Nat):Int),bE l[i])=((over 0 ((l.take (i+1)).flatMap bE):Nat):Int):=by
     rw[al,Bp,Int.toNat_natCast,vQ hi',fG]
    rw[hL]
    refine af.2 ⟨by rw[h1];exact bH hi',af.2 ⟨rfl,af.2 ⟨?_,?_⟩⟩⟩
    ·exact Ah hlt _
    ·refine aT (congrArg LT.more (congr (congrArg (Eo.c0 p) hc) (dI (by omega)))) (ih (i+1) p h1 (by omega) (by omega) ?_)
     intro x hx2
     rw[List.take_succ_eq_append_getElem hi'] at hx2
     rcases List.mem_append.1 hx2 with h3|h3
     ·exact hok x h3
     ·rw[List.mem_singleton.1 h3];exact hx
def lI:(List (Int×List Int))→(Int×Int):=su
def PW:aC:=⟨[(.slice (.struct [yI,yB]))], [(.int .u32),yI],(@tt (List (Int×List Int))),lI⟩
theorem Qs:Sd 230 PW:=aJ au dC true 22 [⟨230,3, [[0,4,5]]⟩] [] (fun A l=>OP A l) DO Ll (fc Tryz.func230 fz) (sc Ha (sc JE (sc Uh sz))) (fun A y=>match y with |.c0 p a1 a2=>⟨46,by kernel_rfl,by kernel_rfl⟩) fun(l:List (Int×List Int)) hp h=>by
 show aD (DO ah) (OP ah l) (lI l)
 exact Hu (oJ h).1 l.length 0 _ rfl (by omega) (by omega) (by intro x hx;cases hx)
open Go.Ev.Pl
structure uB where
 (a0:Int) (a1:List (Int×List Int)) (a2 a3 a4 a5 a6 a7 a8 a9 b_ dY a12 lW jQ pV a16 a17 qT kL:Int)
structure A1 where
 (b2:List (Int×List Int)) (b3 b4 b5 b6 b7 b8 b9 b10 b11 b12 b13 wJ xF dd jZ zW kp lH lq:Int) (lC:List Int)
structure AP where
 (c2:List (Int×List Int)) (c3 c4 c5:Int) (c6:List Int) (c7 c8 c9 c10 c11 c12 c13 c14 kY c16 GL E2 c19 c20 c21 JG:Int)
inductive Dw where
 | c0 (p:uB)
 | c1 (p:A1) (b0:Int) (b1:Int)
 | c2 (p:AP) (c0:Int) (c1:Int)
noncomputable def KD:Dw→f_
 | .c0 p=>⟨[⟨323,26,(en [(4,.ptr 0 0),(5,.int .u32 false p.a0),(10,.sl (.struct [yI,yB]) p.a1),(11,vi p.a2),(12,vi p.a3)]),[.inLoop (cw Tryz.f323 [1,1,1,0,1,0,0]),.inBlock 0,.code (cw Tryz.f323 [1,1,1,1])],[],none⟩],[.flat false [.int .u32 false p.a4,.int .u32 false p.a5,.int .u32 false p.a6,.int .u32 false p.a7,.int .u32 false p.a8,.int .u32 false p.a9,.int .u32 false p.b_,.int .u32 false p.dY,.int .u32 false p.a12,.int .u32 false p.lW,.int .u32 false p.jQ,.int .u32 false p.pV,.int .u32 false p.a16,.int .u32 false p.a17,.int .u32 false p.qT,.int .u32 false p.kL],.dead]⟩
 | .c1 p b0 b1=>⟨[⟨345,57,(en [(0,.int .u32 false b0),(2,.ptr 0 0),(4,.ptr 1 0),(7,vi b1)]),[.inLoop (cw Tryz.f345 [1,1,0,0,0]),.inBlock 0,.code (cw Tryz.f345 [1,1,1])],[],none⟩,⟨323,26,(en [(4,.ptr 0 0),(10,.sl (.struct [yI,yB]) p.b2),(11,vi p.b3),(12,vi p.b4)]),[.ops (ow Tryz.f323 [1,1,1,0,1,0,0,1,1,0,0,1,1]) ((ow Tryz.f323 [1,1,1,0,1,0,0,1,1,0,0,1,1]).toList.drop 2),.inBlock 1,.code (cw Tryz.f323 [1,1,1,0,1,0,0,1,1,1]),.inLoop (cw Tryz.f323 [1,1,1,0,1,0,0]),.inBlock 0,.code (cw Tryz.f323 [1,1,1,1])],[],none⟩],[.flat false [.int .u32 false p.b5,.int .u32 false p.b6,.int .u32 false p.b7,.int .u32 false p.b8,.int .u32 false p.b9,.int .u32 false p.b10,.int .u32 false p.b11,.int .u32 false p.b12,.int .u32 false p.b13,.int .u32 false p.wJ,.int .u32 false p.xF,.int .u32 false p.dd,.int .u32 false p.jZ,.int .u32 false p.zW,.int .u32 false p.kp,.int .u32 false p.lH],.flat false [vi p.lq,.sl yU p.lC],.dead]⟩
 | .c2 p c0 c1=>⟨[⟨345,57,(en [(0,.int .u32 false c0),(4,.ptr 0 0),(7,vi c1)]),[.inLoop (cw Tryz.f345 [1,1,1,0,0,0]),.inBlock 2,.code (cw Tryz.f345 [1,1,1,1])],[],none⟩,⟨323,26,(en [(4,.ptr 1 0),(10,.sl (.struct [yI,yB]) p.c2),(11,vi p.c3),(12,vi p.c4)]),[.ops (ow Tryz.f323 [1,1,1,0,1,0,0,1,1,0,0,1,1]) ((ow Tryz.f323 [1,1,1,0,1,0,0,1,1,0,0,1,1]).toList.drop 2),.inBlock 1,.code (cw Tryz.f323 [1,1,1,0,1,0,0,1,1,1]),.inLoop (cw Tryz.f323 [1,1,1,0,1,0,0]),.inBlock 0,.code (cw Tryz.f323 [1,1,1,1])],[],none⟩],[.flat false [vi p.c5,.sl yU p.c6],.flat false [.int .u32 false p.c7,.int .u32 false p.c8,.int .u32 false p.c9,.int .u32 false p.c10,.int .u32 false p.c11,.int .u32 false p.c12,.int .u32 false p.c13,.int .u32 false p.c14,.int .u32 false p.kY,.int .u32 false p.c16,.int .u32 false p.GL,.int .u32 false p.E2,.int .u32 false p.c19,.int .u32 false p.c20,.int .u32 false p.c21,.int .u32 false p.JG],.dead]⟩
def K_(A:bu)(l:List (Int×List Int)):LT (Int×Int) Dw:=.need (A.k (@tt Unit) ()) (.more (.c0 ⟨0,l,(A.l l),0,(A.n (.int .u32) (A.k iB ()) 0:Int),(A.n (.int .u32) (A.k iB ()) 1:Int),(A.n (.int .u32) (A.k iB ()) 2:Int),(A.n (.int .u32) (A.k iB ()) 3:Int),(A.n (.int .u32) (A.k iB ()) 4:Int),(A.n (.int .u32) (A.k iB ()) 5:Int),(A.n (.int .u32) (A.k iB ()) 6:Int),(A.n (.int .u32) (A.k iB ()) 7:Int),(A.n (.int .u32) (A.k iB ()) 8:Int),(A.n (.int .u32) (A.k iB ()) 9:Int),(A.n (.int .u32) (A.k iB ()) 10:Int),(A.n (.int .u32) (A.k iB ()) 11:Int),(A.n (.int .u32) (A.k iB ()) 12:Int),(A.n (.int .u32) (A.k iB ()) 13:Int),(A.n (.int .u32) (A.k iB ()) 14:Int),(A.n (.int .u32) (A.k iB ()) 15:Int)⟩))
def qA(A:bu):Dw→LT (Int×Int) Dw
 | .c0 p=>.br (A.c .lss p.a3 p.a2) (.need (A.and (A.c .leq 0 p.a3) (A.c .lss p.a3 (A.l p.a1))) (.need (A.k (@tt ((Int×List Int))) (A.n (.struct [yI,yB]) p.a1 p.a3:Int×List Int)) (.br (A.c .neq (A.k iZ (A.n (.struct [yI,yB]) p.a1 p.a3:Int×List Int)) 0) (.ret (0,(A.k iZ (A.n (.struct [yI,yB]) p.a1 p.a3:Int×List Int)))) (.more (.c1 ⟨p.a1,p.a2,p.a3,p.a4,p.a5,p.a6,p.a7,p.a8,p.a9,p.b_,p.dY,p.a12,p.lW,p.jQ,p.pV,p.a16,p.a17,p.qT,p.kL,(A.n (.struct [yI,yB]) p.a1 p.a3:Int×List Int).1,(A.n (.struct [yI,yB]) p.a1 p.a3:Int×List Int).2⟩ p.a0 0))))) (.ret (p.a0,0))
 | .c1 p b0 b1=>.br (A.c .leq (A.b .add .i64 b1 4) p.lq) (.need (A.k (@tt ((Int×List Int)×Int×Int)) ((p.lq,p.lC),b1,4)) (.need (A.and (A.c .leq 0 (A.b .xor .u32 (A.b .shr .u32 b0 20) (A.v .u32 (A.k ar ((p.lq,p.lC),b1,4)).1))) (A.c .lss (A.b .xor .u32 (A.b .shr .u32 b0 20) (A.v .u32 (A.k ar ((p.lq,p.lC),b1,4)).1)) 16)) (.more (.c1 p (A.b .xor .u32 (A.b .and .u32 (A.b .shl .u32 b0 4) 16777215) (A.n (.int .u32) [p.b5,p.b6,p.b7,p.b8,p.b9,p.b10,p.b11,p.b12,p.b13,p.wJ,p.xF,p.dd,p.jZ,p.zW,p.kp,p.lH] (A.b .xor .u32 (A.b .shr .u32 b0 20) (A.v .u32 (A.k ar ((p.lq,p.lC),b1,4)).1)):Int)) (A.b .add .i64 b1 4))))) (.more (.c2 ⟨p.b2,p.b3,p.b4,p.lq,p.lC,p.b5,p.b6,p.b7,p.b8,p.b9,p.b10,p.b11,p.b12,p.b13,p.wJ,p.xF,p.dd,p.jZ,p.zW,p.kp,p.lH⟩ b0 b1))
 | .c2 p c0 c1=>.br (A.c .lss c1 p.c5) (.need (A.k (@tt ((Int×List Int)×Int×Int)) ((p.c5,p.c6),c1,1)) (.need (A.k (@tt Int) (A.b .xor .u32 c0 (A.b .shl .u32 (A.v .u32 (A.k ar ((p.c5,p.c6),c1,1)).1) 23))) (.more (.c2 p (A.k vO (A.b .xor .u32 c0 (A.b .shl .u32 (A.v .u32 (A.k ar ((p.c5,p.c6),c1,1)).1) 23))) (A.b .add .i64 c1 1))))) (.more (.c0 ⟨c0,p.c2,p.c3,(A.b .add .i64 p.c4 1),p.c7,p.c8,p.c9,p.c10,p.c11,p.c12,p.c13,p.c14,p.kY,p.c16,p.GL,p.E2,p.c19,p.c20,p.c21,p.JG⟩))
theorem Ac{α β γ:Type}(f:α→β→γ){a a':α}{b b':β}(h1:a=a')(h2:b=b'):f a b=f a' b':=by rw[h1,h2]
def W8(p:uB):Prop:=p.a4=0∧p.a5=6122955∧p.a6=12245910∧p.a7=15185501∧p.a8=2677479∧p.a9=7714604∧p.b_=9568625∧p.dY=13593786∧p.a12=5354958∧p.lW=841733∧p.jQ=15429208∧p.pV=11928467∧p.a16=7958313∧p.a17=2360034∧p.qT=12825791∧p.kL=10410356
def tbB(p:A1):Prop:=p.b5=0∧p.b6=6122955∧p.b7=12245910∧p.b8=15185501∧p.b9=2677479∧p.b10=7714604∧p.b11=9568625∧p.b12=13593786∧p.b13=5354958∧p.wJ=841733∧p.xF=15429208∧p.dd=11928467∧p.jZ=7958313∧p.zW=2360034∧p.kp=12825791∧p.lH=10410356
def tbC(p:AP):Prop:=p.c7=0∧p.c8=6122955∧p.c9=12245910∧p.c10=15185501∧p.c11=2677479∧p.c12=7714604∧p.c13=9568625∧p.c14=13593786∧p.kY=5354958∧p.c16=841733∧p.GL=15429208∧p.E2=11928467∧p.c19=7958313∧p.c20=2360034∧p.c21=12825791∧p.JG=10410356
theorem jq{n a w:Nat}{b:List Int}(hok:bw ((n:Int),b)=true)(h:a+w≤n)(hw:w≤64)(hn:n≤4096):ah.k ar (((n:Int),b),(a:Int),(w:Int))=(((bf (unpack n b) a w:Nat):Int),0):=by
 rw[al,ar,Dh]
 simp only[hok,Bool.not_true,cond_false]
 rw[show decide ((w:Int)<0)=false from by simp,show decide (64<(w:Int))=false from by simp;omega,show decide ((a:Int)<0)=false from by simp,show decide ((n:Int)<(a:Int)+(w:Int))=false from by simp;omega]
 rfl
theorem zI{l:List Bool}{a w:Nat}(h:a+w≤l.length):l.take (a+w)=l.take a++bitsOf (bf l a w) w:=by
 rw[tq h,List.take_add]
theorem EF{n:Nat}(h:n<4294967296):ah.v .u32 (n:Int)=(n:Int):=by rw[aY,I8 (by omega) (by omega)]
theorem Ln{l:List (Int×List Int)}{i n:Nat}{b:List Int}{R:Int×Int}{r0:Nat}(hr0:r0<16777216)(hok:bw ((n:Int),b)=true)(hn:n≤4096)(hll:l.length≤140737488355328)(hi:i<l.length)
  (hnext:∀(p:uB),W8 p→p.a1=l→p.a2=(l.length:Int)→p.a3=((i+1:Nat):Int)→p.a0=((over r0 (unpack n b):Nat):Int)→aD (qA ah) (.more (.c0 p)) R) :
  ∀(j k:Nat) (p:AP),tbC p→p.c2=l→p.c3=(l.length:Int)→p.c4=(i:Int)→p.c5=(n:Int)→p.c6=b→n-k=j→k≤n→aD (qA ah) (.more (.c2 p ((over r0 ((unpack n b).take k):Nat):Int) (k:Int))) R:=by
 intro j
 induction j with
 | zero=>
   intro k p ht h2 h3 h4 h5 h6 hj hk
   have:k=n:=by omega
   subst this
   simp only[ak,qA]
   refine(ai (by rw[h5,aG];simp)).2 ?_
   rw[List.take_of_length_le (by rw[aR];exact Nat.le_refl _)]
   exact hnext _ ht h2 h3 (by show ah.b .add .i64 p.c4 1=_;rw[h4,dI (by omega)]) rfl
 | succ j ih=>
   intro k p ht h2 h3 h4 h5 h6 hj hk
   simp only[ak,qA]
   have hg:ah.k ar ((p.c5,p.c6),(k:Int),1)=(((bf (unpack n b) k 1:Nat):Int),0):=by
    rw[h5,h6];exact jq hok (w:=1) (by omega) (by decide) hn
   have hlt:=gy hr0 ((unpack n b).take k)
   have hf:=dT (unpack n b) k 1
   have hts:=zI (l:=unpack n b) (a:=k) (w:=1) (by rw[aR];omega)
   obtain⟨x,hx⟩:∃x:Bool,bf (unpack n b) k 1=x.toNat:=by
    by_cases h0:bf (unpack n b) k 1=0
    ·exact⟨false,h0⟩
    ·exact⟨true,by rw[show true.toNat=1 from rfl];omega⟩
   have hbx:bitsOf x.toNat 1=[x]:=by cases x<;>rfl
   rw[hx,hbx] at hts
   have hsh:ah.b .xor .u32 ((over r0 ((unpack n b).take k):Nat):Int) (ah.b .shl .u32 (ah.v .u32 (ah.k ar ((p.c5,p.c6),(k:Int),1)).1) 23)=((over r0 ((unpack n b).take k) ^^^ (x.toNat*8388608):Nat):Int):=by
    rw[hg,hx,EF (by cases x<;>decide),show ah.b .shl .u32 ((x.toNat:Nat):Int) 23=((x.toNat*2^23:Nat):Int) from BP (k:=23) (by decide) (by cases x<;>decide)]
    exact yv (by omega) (by cases x<;>decide)
   have hxl:over r0 ((unpack n b).take k) ^^^ (x.toNat*8388608)<16777216:=Nat.xor_lt_two_pow (n:=24) hlt (by cases x<;>decide)
   have hc:ah.k vO (ah.b .xor .u32 ((over r0 ((unpack n b).take k):Nat):Int) (ah.b .shl .u32 (ah.v .u32 (ah.k ar ((p.c5,p.c6),(k:Int),1)).1) 23))=((over r0 ((unpack n b).take (k+1)):Nat):Int):=by
    rw[hsh,al,Gp hxl,En hlt,hts,fG,fu,lS]
   refine(aj (by rw[h5,aG];simp;omega)).2 (af.2 ⟨rfl,af.2 ⟨rfl,?_⟩⟩)
   exact aT (congrArg LT.more (congr (congrArg (Dw.c2 p) hc) (dI (by omega)))) (ih (k+1) p ht h2 h3 h4 h5 h6 (by omega) (by omega))
theorem Kr{l:List (Int×List Int)}{i n:Nat}{b:List Int}{R:Int×Int}{r0:Nat}(hr0:r0<16777216)(hok:bw ((n:Int),b)=true)(hn:n≤4096)(hll:l.length≤140737488355328)(hi:i<l.length)
  (hnext:∀(p:uB),W8 p→p.a1=l→p.a2=(l.length:Int)→p.a3=((i+1:Nat):Int)→p.a0=((over r0 (unpack n b):Nat):Int)→aD (qA ah) (.more (.c0 p)) R) :
  ∀(j k:Nat) (p:A1),tbB p→p.b2=l→p.b3=(l.length:Int)→p.b4=(i:Int)→p.lq=(n:Int)→p.lC=b→(n-k)/4=j→k≤n→aD (qA ah) (.more (.c1 p ((over r0 ((unpack n b).take k):Nat):Int) (k:Int))) R:=by
 intro j
 induction j with
 | zero=>
   intro k p ht h2 h3 h4 h5 h6 hj hk
   simp only[ak,qA]
   refine(ai (by rw[show ah.b .add .i64 (k:Int) 4=((k+4:Nat):Int) from fC (j:=4) (by omega),h5,i_];simp;omega)).2 ?_
   exact Ln hr0 hok hn hll hi hnext (n-k) k _ ht h2 h3 h4 h5 h6 rfl hk
 | succ j ih=>
   intro k p ht h2 h3 h4 h5 h6 hj hk
   simp only[ak,qA]
   have hg:ah.k ar ((p.lq,p.lC),(k:Int),4)=(((bf (unpack n b) k 4:Nat):Int),0):=by
    rw[h5,h6];exact jq hok (w:=4) (by omega) (by decide) hn
   have hlt:=gy hr0 ((unpack n b).take k)
   have hf:=dT (unpack n b) k 4
   have hts:=zI (l:=unpack n b) (a:=k) (w:=4) (by rw[aR];omega)
   have h4o:=CS hlt (l:=bitsOf (bf (unpack n b) k 4) 4) (ay _ _)
   rw[xv,Nat.mod_eq_of_lt hf,←fG,←hts] at h4o
   generalize hr:over r0 ((unpack n b).take k)=r at *
   generalize hv:bf (unpack n b) k 4=v at *
   have hix:ah.b .xor .u32 (ah.b .shr .u32 (r:Int) 20) (ah.v .u32 (ah.k ar ((p.lq,p.lC),(k:Int),4)).1)=((r/1048576 ^^^ v:Nat):Int):=by
    rw[hg,EF (by omega),show ah.b .shr .u32 (r:Int) 20=((r/2^20:Nat):Int) from EX (n:=20) (by omega) (by decide)]
    exact yv (by omega) (by omega)
   have hxl:r/1048576 ^^^ v<16:=Cp ⟨r/1048576,by omega⟩ ⟨v,by omega⟩
   have htab:(ah.n (.int .u32) [p.b5,p.b6,p.b7,p.b8,p.b9,p.b10,p.b11,p.b12,p.b13,p.wJ,p.xF,p.dd,p.jZ,p.zW,p.kp,p.lH] (((r/1048576 ^^^ v:Nat):Int)):Int)=((y7.getD (r/1048576 ^^^ v) 0:Nat):Int):=by
    rw[←Ex ⟨r/1048576 ^^^ v,hxl⟩]
    obtain⟨t0,t1,t2,t3,t4,t5,t6,t7,t8,t9,t10,t11,t12,t13,t14,t15⟩:=ht
    show List.getD [p.b5,p.b6,p.b7,p.b8,p.b9,p.b10,p.b11,p.b12,p.b13,p.wJ,p.xF,p.dd,p.jZ,p.zW,p.kp,p.lH] ((r/1048576 ^^^ v:Nat):Int).toNat 0=_
    rw[Int.toNat_natCast,t0,t1,t2,t3,t4,t5,t6,t7,t8,t9,t10,t11,t12,t13,t14,t15];rfl
   have hc:ah.b .xor .u32 (ah.b .and .u32 (ah.b .shl .u32 (r:Int) 4) 16777215) (ah.n (.int .u32) [p.b5,p.b6,p.b7,p.b8,p.b9,p.b10,p.b11,p.b12,p.b13,p.wJ,p.xF,p.dd,p.jZ,p.zW,p.kp,p.lH] (ah.b .xor .u32 (ah.b .shr .u32 (r:Int) 20) (ah.v .u32 (ah.k ar ((p.lq,p.lC),(k:Int),4)).1)):Int)=((over r0 ((unpack n b).take (k+4)):Nat):Int):=by
    rw[hix]
    have e1:ah.b .and .u32 (ah.b .shl .u32 (r:Int) 4) 16777215=((16*r%16777216:Nat):Int):=by
     rw[show ah.b .shl .u32 (r:Int) 4=((r*2^4:Nat):Int) from BP (k:=4) (by decide) (by omega),J8 (by omega),Nat.mul_comm]
    refine(Ac (ah.b .xor .u32) e1 htab).trans ?_
    rw[h4o]
    exact yv (by omega) (by have:=E8 ⟨_,hxl⟩;simp only at this;omega)
   refine(aj (by rw[show ah.b .add .i64 (k:Int) 4=((k+4:Nat):Int) from fC (j:=4) (by omega),h5,i_];simp;omega)).2 (af.2 ⟨rfl,af.2 ⟨?_,?_⟩⟩)
   ·rw[hix,gf,aL,ao];simp;omega
   ·have:=ih (k+4) p ht h2 h3 h4 h5 h6 (by omega) (by omega)
    exact aT (congrArg LT.more (congr (congrArg (Dw.c1 p) hc) (show ah.b .add .i64 (k:Int) 4=((k+4:Nat):Int) from fC (j:=4) (by omega)))) this
theorem Kt{l:List (Int×List Int)}(hll:l.length≤140737488355328)(hby:∀x∈l,bF x.2∧x.2.length≤140737488355328):∀(j i:Nat) (p:uB),W8 p→p.a1=l→p.a2=(l.length:Int)→p.a3=(i:Int)→p.a0=((over 0 ((l.take i).flatMap bE):Nat):Int)→l.length-i=j→i≤l.length→(∀x∈l.take i,bw x=true)→aD (qA ah) (.more (.c0 p)) (su l):=by
 intro j
 induction j with
 | zero=>
   intro i p ht h1 h2 h3 h0 hj hi hok
   have:i=l.length:=by omega
   subst this
   rw[List.take_length] at hok h0
   simp only[ak,qA]
   refine(ai (by rw[h2,h3,aG];simp)).2 ?_
   rw[su,List.all_eq_true.2 hok,h0]
   exact .ret _
 | succ j ih=>
   intro i p ht h1 h2 h3 h0 hj hi hok
   have hi':i<l.length:=by omega
   have hmem:=List.getElem_mem hi'
   simp only[ak,qA]
   rw[h3]
   refine(aj (by rw[h2,aG];simp;omega)).2 (af.2 ⟨by rw[h1];exact bH hi',af.2 ⟨rfl,?_⟩⟩)
   obtain⟨n0,b,hx⟩:∃n0 b,l[i]=(n0,b):=⟨_,_,rfl⟩
   have hby':=hby _ hmem
   rw[hx] at hby'
   have hn1:(ah.n (.struct [(.int .i64),(.slice (.int .u8))]) p.a1 (i:Int):Int×List Int)=(n0,b):=by rw[h1,mq hi',hx]
   rw[hn1]
   have hc:ah.k iZ (n0,b)=bif bw (n0,b) then 0 else 10:=jP hby'.1 hby'.2
   rw[hc]
   cases hb:bw (n0,b)
   ·refine(aj rfl).2 ?_
    rw[su,show l.all bw=false from List.all_eq_false.2 ⟨l[i],hmem,by rw[hx,hb];decide⟩]
    exact .ret _
   ·refine(ai rfl).2 ?_
    obtain⟨h4,h5,h6⟩:=(fY hby'.1).1 hb
    obtain⟨n,rfl⟩:=Int.eq_ofNat_of_zero_le h4
    have hlt:=gy (r:=0) (by decide) ((l.take i).flatMap bE)
    have hm:=Kr hlt hb (by omega) hll hi' (R:=su l) (fun p' g1 g2 g3 g4 g5=>ih (i+1) p' g1 g2 g3 g4 (by rw[g5,vQ hi',fG,hx];rfl) (by omega) (by omega) (by
     intro x hx2
     rw[List.take_succ_eq_append_getElem hi'] at hx2
     rcases List.mem_append.1 hx2 with h7|h7
     ·exact hok x h7
     ·rw[List.mem_singleton.1 h7,hx];exact hb)) (n/4) 0 ⟨p.a1,p.a2,(i:Int),p.a4,p.a5,p.a6,p.a7,p.a8,p.a9,p.b_,p.dY,p.a12,p.lW,p.jQ,p.pV,p.a16,p.a17,p.qT,p.kL,(n:Int),b⟩ ht h1 h2 rfl rfl rfl (by omega) (by omega)
    rw[List.take_zero,lS,←h0] at hm
    exact hm
theorem WO{l:List (Int×List Int)}(h:Ty.du [(.slice (.struct [(.int .i64),(.slice (.int .u8))]))] l):aD (qA ah) (K_ ah l) (su l):=by
 unfold K_
 refine af.2 ⟨rfl,?_⟩
 exact Kt (oJ h).1 (oJ h).2 l.length 0 _ ⟨rfl,rfl,rfl,rfl,rfl,rfl,rfl,rfl,rfl,rfl,rfl,rfl,rfl,rfl,rfl,rfl⟩ rfl rfl rfl rfl (by omega) (by omega) (by intro x hx;cases hx)
def qY:(List (Int×List Int))→(Int×Int):=su
def UY:aC:=⟨[(.slice (.struct [yI,yB]))], [(.int .u32),yI],(@tt (List (Int×List Int))),qY⟩
theorem R9:Sd 323 UY:=aJ au dC true 30 [⟨323,4, [[4,5,10,11,12]]⟩,⟨345,2, [[0,2,4,7], [4,10,11,12]]⟩,⟨345,6, [[0,4,7], [4,10,11,12]]⟩] [] (fun A l=>K_ A l) qA KD (fc Tryz.func323 (fc Tryz.func345 fz)) (sc AA (sc Bu (sc Ut (sc J4 sz)))) (fun A y=>match y with |.c0 p=>⟨52,by kernel_rfl,by kernel_rfl⟩|.c1 p b0 b1=>⟨52,by kernel_rfl,by kernel_rfl⟩|.c2 p c0 c1=>⟨44,by kernel_rfl,by kernel_rfl⟩) fun l hp h=>WO h
open Go.Ev.Pl
def t139(A:bu)(bN:Int)(bB:List Int)(unsentN:Int)(unsentB:List Int):LT ((Int×List Int)×Int) Empty:=.need (A.k (@tt ((Int×List Int))) (bN,bB)) (.br (A.c .neq (A.k iZ (bN,bB)) 0) (.ret ((0,([]:List Int)),10)) (.need (A.k (@tt ((Int×List Int))) (unsentN,unsentB)) (.br (A.c .neq (A.k iZ (unsentN,unsentB)) 0) (.ret ((0,([]:List Int)),10)) (.br (A.c .lss bN 24) (.ret ((0,([]:List Int)),20)) (.need (A.k (@tt ((Int×List Int)×Int×Int)) ((bN,bB),0,(A.b .sub .i64 bN 24))) (.need (A.k (@tt ((Int×List Int)×Int×Int)) ((bN,bB),(A.k bS ((bN,bB),0,(A.b .sub .i64 bN 24))).1.1,24)) (.need (A.k (@tt (List (Int×List Int))) [(unsentN,unsentB),(A.k bS ((bN,bB),0,(A.b .sub .i64 bN 24))).1]) (.br (A.c .neq (A.k qY [(unsentN,unsentB),(A.k bS ((bN,bB),0,(A.b .sub .i64 bN 24))).1]).2 0) (.ret ((0,([]:List Int)),(A.k qY [(unsentN,unsentB),(A.k bS ((bN,bB),0,(A.b .sub .i64 bN 24))).1]).2)) (.br (A.c .neq (A.v .u64 (A.k qY [(unsentN,unsentB),(A.k bS ((bN,bB),0,(A.b .sub .i64 bN 24))).1]).1) (A.k ar ((bN,bB),(A.k bS ((bN,bB),0,(A.b .sub .i64 bN 24))).1.1,24)).1) (.ret ((0,([]:List Int)),21)) (.ret ((A.k bS ((bN,bB),0,(A.b .sub .i64 bN 24))).1,0)))))))))))
theorem G9{n m:Int}{b u:List Int}(h:Ty.du [(.struct [(.int .i64),(.slice (.int .u8))]),(.struct [(.int .i64),(.slice (.int .u8))])] ((n,b),(m,u))):aD Empty.elim (t139 ah n b m u) (cY ((n,b),(m,u))):=by
 have h1:Ty.has (.struct [(.int .i64),(.slice (.int .u8))]) (n,b):=h.1
 have h2:Ty.has (.struct [(.int .i64),(.slice (.int .u8))]) (m,u):=h.2
 have hb:=(dW h1).2.2
 have hl:=dq h1
 have hbu:=(dW h2).2.2
 have hlu:=dq h2
 unfold t139
 rw[cY]
 have hc1:ah.c .neq (ah.k iZ (n,b)) 0=!bw (n,b):=by rw[al,jP hb hl];cases bw (n,b)<;>rfl
 have hc2:ah.c .neq (ah.k iZ (m,u)) 0=!bw (m,u):=by rw[al,jP hbu hlu];cases bw (m,u)<;>rfl
 refine af.2 ⟨rfl,?_⟩
 rw[hc1]
 cases ho1:bw (n,b)
 ·exact(aj rfl).2 (.ret _)
 refine(ai rfl).2 (af.2 ⟨rfl,?_⟩)
 rw[hc2]
 cases ho2:bw (m,u)
 ·exact(aj rfl).2 (.ret _)
 refine(ai rfl).2 ?_
 obtain⟨h3,h4,h5⟩:=(fY hb).1 ho1
 obtain⟨k,rfl⟩:=Int.eq_ofNat_of_zero_le h3
 by_cases h6:(k:Int)<24
 ·refine(aj (by rw[ao];simp;omega)).2 ?_
  show aD _ _ (bif decide ((k:Int)<24) then(zB,20) else _)
  rw[show decide ((k:Int)<24)=true from by simpa using h6]
  exact .ret _
 refine(ai (by rw[ao];simp;omega)).2 ?_
 show aD _ _ (bif decide ((k:Int)<24) then(zB,20) else _)
 rw[show decide ((k:Int)<24)=false from by simpa using h6,cond_false]
 have hkl:(bE ((k:Int),b)).length=k:=by rw[gl];rfl
 have hsub:ah.b .sub .i64 (k:Int) 24=((k-24:Nat):Int):=lu (j:=24) (by omega) (by omega)
 have hfl:((bE ((k:Int),b)).take (k-24)).length=k-24:=by rw[List.length_take,hkl];omega
 have hslice:ah.k bS (((k:Int),b),0,ah.b .sub .i64 (k:Int) 24)=(bM ((bE ((k:Int),b)).take (k-24)),0):=by
  rw[hsub,al,bS,bU]
  simp only[ho1,Bool.not_true,cond_false]
  rw[show decide (((k-24:Nat):Int)<0)=false from by simp,show decide ((k:Int)<((k-24:Nat):Int))=false from by simp<;>omega]
  rfl
 have hP1:(bM ((bE ((k:Int),b)).take (k-24))).1=((k-24:Nat):Int):=by show(((bE ((k:Int),b)).take (k-24)).length:Int)=_;rw[hfl]
 have hget:ah.k ar (((k:Int),b),((k-24:Nat):Int),24)=(((bf (bE ((k:Int),b)) (k-24) 24:Nat):Int),0):=by
  rw[al,ar,Dh]
  simp only[ho1,Bool.not_true,cond_false]
  rw[show decide (((k-24:Nat):Int)<0)=false from by simp,show decide ((k:Int)<((k-24:Nat):Int)+24)=false from by simp<;>omega]
  rfl
 have hsum:ah.k qY [(m,u),bM ((bE ((k:Int),b)).take (k-24))]=(((over (over 0 (bE (m,u))) ((bE ((k:Int),b)).take (k-24)):Nat):Int),0):=by
  rw[al,qY,su]
  show(bif (bw (m,u)&&(bw (bM ((bE ((k:Int),b)).take (k-24)))&&true)) then(((over 0 (bE (m,u)++(bE (bM ((bE ((k:Int),b)).take (k-24))) ++ [])):Nat):Int),(0:Int)) else(0,10))=_
  rw[ho2,ig (by rw[hfl];omega),gi,List.append_nil,fG]
  rfl
 have hu:=gy (r:=0) (by decide) (bE (m,u))
 have hlt:=gy hu ((bE ((k:Int),b)).take (k-24))
 have hfd:=dT (bE ((k:Int),b)) (k-24) 24
 have hsplit:bE ((k:Int),b)=(bE ((k:Int),b)).take (k-24)++(bE ((k:Int),b)).drop (k-24):=(List.take_append_drop _ _).symm
 have hd:((bE ((k:Int),b)).drop (k-24)).length=24:=by rw[List.length_drop,hkl];omega
 have hfe:bf (bE ((k:Int),b)) (k-24) 24=dD ((bE ((k:Int),b)).drop (k-24)):=by rw[bf,List.take_of_length_le (by omega)]
 have hz:(over (over 0 (bE (m,u))) (bE ((k:Int),b)) != 0)=(((over (over 0 (bE (m,u))) ((bE ((k:Int),b)).take (k-24)):Nat):Int) != ((bf (bE ((k:Int),b)) (k-24) 24:Nat):Int)):=by
  have:=y9 (l:=(bE ((k:Int),b)).take (k-24)) hu hd
  rw[←hsplit,←hfe] at this
  rw[Bool.eq_iff_iff,bne_iff_ne,bne_iff_ne,ne_eq,ne_eq,this]
  omega
 have e1:(ah.k bS (((k:Int),b),0,ah.b .sub .i64 (k:Int) 24)).1.1=((k-24:Nat):Int):=by rw[hslice];exact hP1
 have e2:(ah.k qY [(m,u),(ah.k bS (((k:Int),b),0,ah.b .sub .i64 (k:Int) 24)).1])=(((over (over 0 (bE (m,u))) ((bE ((k:Int),b)).take (k-24)):Nat):Int),0):=by rw[hslice];exact hsum
 have e3:(ah.k ar (((k:Int),b),(ah.k bS (((k:Int),b),0,ah.b .sub .i64 (k:Int) 24)).1.1,24)).1=((bf (bE ((k:Int),b)) (k-24) 24:Nat):Int):=by rw[e1,hget]
 refine af.2 ⟨rfl,af.2 ⟨rfl,af.2 ⟨rfl,?_⟩⟩⟩
 refine(ai (cr (congrArg Prod.snd e2))).2 ?_
 rw[hz,hkl]
 have hcmp:ah.c .neq (ah.v .u64 (ah.k qY [(m,u),(ah.k bS (((k:Int),b),0,ah.b .sub .i64 (k:Int) 24)).1]).1) (ah.k ar (((k:Int),b),(ah.k bS (((k:Int),b),0,ah.b .sub .i64 (k:Int) 24)).1.1,24)).1=(((over (over 0 (bE (m,u))) ((bE ((k:Int),b)).take (k-24)):Nat):Int) != ((bf (bE ((k:Int),b)) (k-24) 24:Nat):Int)):=by
  rw[e3,e2,dE (by omega),aF]
 cases hx:(((over (over 0 (bE (m,u))) ((bE ((k:Int),b)).take (k-24)):Nat):Int) != ((bf (bE ((k:Int),b)) (k-24) 24:Nat):Int))
 ·refine(ai (hcmp.trans hx)).2 ?_
  exact aT (congrArg LT.ret (show((ah.k bS (((k:Int),b),0,ah.b .sub .i64 (k:Int) 24)).1,0)=(bM ((bE ((k:Int),b)).take (k-24)),0) by rw[hslice])) (.ret _)
 ·exact(aj (hcmp.trans hx)).2 (.ret _)
def cK:((Int×List Int)×(Int×List Int))→((Int×List Int)×Int):=cY
def QU:aC:=⟨[(.struct [yI,yB]),(.struct [yI,yB])], [(.struct [yI,yB]),yI],(@tt ((Int×List Int)×(Int×List Int))),cK⟩
theorem Nx:Sd 287 QU:=aQ au dC true 100 [] (fun A ((bN,bB),unsentN,unsentB)=>t139 A bN bB unsentN unsentB) (fc Tryz.func287 fz) (sc AA (sc Bu (sc JY (sc R9 sz)))) fun((bN,bB),unsentN,unsentB) hp h=>G9 h
open Go.Ev.Pl
def M9(A:bu)(cTime:Int)(cPos:Int)(cMode:Int)(cNext:Int)(cMember:Int):LT (List Int) Empty:=.ret [cTime,cPos,cMode,cNext,cMember]
def wT:((Int×Int×Int×Int×Int))→(List Int):=fun(cTime,cPos,cMode,cNext,cMember)=>(M9 ah cTime cPos cMode cNext cMember).val (Ty.bV [(.arr 5 yI)])
def OW:aC:=⟨[(.struct [yI,yI,yI,yI,yI])], [(.arr 5 yI)],(@tt ((Int×Int×Int×Int×Int))),wT⟩
theorem O9:Sd 174 OW:=aK au dC true 26 [] (fun A (cTime,cPos,cMode,cNext,cMember)=>M9 A cTime cPos cMode cNext cMember) (fc Tryz.func174 fz) sz (fun((cTime,cPos,cMode,cNext,cMember):(Int×Int×Int×Int×Int)) hp h=>by
 show(M9 ah cTime cPos cMode cNext cMember).pre=true
 rfl)
structure Km where
 (a0 a1 a2 a3 a4 a6 a7 a8 a9 b_:Int)
inductive VS where
 | c0 (p:Km) (a5:Int)
noncomputable def NQ:VS→f_
 | .c0 p a5=>⟨[⟨98,36,(en [(5,.ptr 0 0),(21,.agg [vi p.a0,vi p.a1,vi p.a2,vi p.a3,vi p.a4]),(22,vi a5)]),[.inLoop (cw Tryz.f98 [1,1,1,0,1,0,0]),.inBlock 0,.code (cw Tryz.f98 [1,1,1,1])],[],none⟩],[.flat false [vi p.a6,vi p.a7,vi p.a8,vi p.a9,vi p.b_],.dead]⟩
def t87(A:bu)(cTime:Int)(cPos:Int)(cMode:Int)(cNext:Int)(cMember:Int)(n:Int):LT Int VS:=.br (A.c .lss n 4) (.ret 2) (.br (A.c .gtr n 8) (.ret 2) (.need (A.c .leq 0 n) (.need (A.k (@tt ((Int×Int×Int×Int×Int))) (cTime,cPos,cMode,cNext,cMember)) (.more (.c0 ⟨(A.n yI (A.k wT (cTime,cPos,cMode,cNext,cMember)) 0:Int),(A.n yI (A.k wT (cTime,cPos,cMode,cNext,cMember)) 1:Int),(A.n yI (A.k wT (cTime,cPos,cMode,cNext,cMember)) 2:Int),(A.n yI (A.k wT (cTime,cPos,cMode,cNext,cMember)) 3:Int),(A.n yI (A.k wT (cTime,cPos,cMode,cNext,cMember)) 4:Int),255,(A.b .sub .i64 n 1),3,4,(A.b .sub .i64 (A.b .shl .i64 1 n) 1)⟩ 0)))))
def Nm(A:bu):VS→LT Int VS
 | .c0 p a5=>.br (A.c .lss a5 5) (.need (A.and (A.c .leq 0 a5) (A.c .lss a5 5)) (.br (A.c .lss (A.n yI [p.a0,p.a1,p.a2,p.a3,p.a4] a5:Int) 0) (.ret 40) (.need (A.and (A.c .leq 0 a5) (A.c .lss a5 5)) (.br (A.c .gtr (A.n yI [p.a0,p.a1,p.a2,p.a3,p.a4] a5:Int) (A.n yI [p.a6,p.a7,p.a8,p.a9,p.b_] a5:Int)) (.ret 40) (.more (.c0 p (A.b .add .i64 a5 1))))))) (.ret 0)
theorem JK{k:Nat}(hk:k≤60):ah.b .shl .i64 1 (k:Int)=((2^k:Nat):Int):=by
 show IntKind.i64.wrap ((1:Int)*2^min (k:Int).toNat 64)=_
 have:2^k≤2^60:=Nat.pow_le_pow_right (by decide) hk
 have e:(2:Int)^k=((2^k:Nat):Int):=by simp
 rw[Int.toNat_natCast,Nat.min_eq_left (by omega),Int.one_mul,e]
 generalize 2^k=q at this
 rw[fU (by omega) (by omega)]
theorem R6{u v x:Int}(h:u=v):ah.c .lss u x=decide (v<x):=by rw[h];rfl
theorem OG{u u' v v':Int}(h1:u=u')(h2:v=v'):ah.c .gtr u v=decide (v'<u'):=by rw[h1,h2];rfl
theorem mC{p:Km}{i v m r:Int}(h0:0≤i)(h5:i<5)(hv:(ah.n (.int .i64) [p.a0,p.a1,p.a2,p.a3,p.a4] i:Int)=v)(hm:(ah.n (.int .i64) [p.a6,p.a7,p.a8,p.a9,p.b_] i:Int)=m)
  (h1:(decide (0≤v)&&decide (v≤m))=true→aD (Nm ah) (.more (.c0 p (i+1))) r) (h2:(decide (0≤v)&&decide (v≤m))=false→r=40):aD (Nm ah) (.more (.c0 p i)) r:=by
 rw[ak,Nm]
 have hn:ah.and (ah.c .leq 0 i) (ah.c .lss i 5)=true:=by rw[aL,ax,ao];simp;omega
 refine(aj (by rw[ao];simpa using h5)).2 (af.2 ⟨hn,?_⟩)
 by_cases h3:v<0
 ·refine(aj ((R6 hv).trans (by simpa using h3))).2 ?_
  rw[h2 (by rw[show decide (0≤v)=false from by simp;omega];rfl)]
  exact .ret _
 ·refine(ai ((R6 hv).trans (by simpa using h3))).2 (af.2 ⟨hn,?_⟩)
  by_cases h4:m<v
  ·refine(aj ((OG hv hm).trans (by simpa using h4))).2 ?_
   rw[h2 (by rw[show decide (v≤m)=false from by simp;omega,Bool.and_false])]
   exact .ret _
  ·refine(ai ((OG hv hm).trans (by simpa using h4))).2 ?_
   rw[bi,fU (by omega) (by omega)]
   exact h1 (by simp;omega)
theorem Yo{t po m n s k:Int}:aD (Nm ah) (t87 ah t po m n s k) (gI ((t,po,m,n,s),k)):=by
 unfold t87
 rw[gI]
 by_cases h1:k<4
 ·refine(aj (by rw[ao];simpa using h1)).2 ?_
  rw[show decide (k<4)=true from by simpa using h1]
  exact .ret _
 refine(ai (by rw[ao];simpa using h1)).2 ?_
 by_cases h2:8<k
 ·refine(aj (by rw[aA];simpa using h2)).2 ?_
  rw[show decide (8<k)=true from by simpa using h2,Bool.or_true]
  exact .ret _
 refine(ai (by rw[aA];simpa using h2)).2 (af.2 ⟨by rw[ax];simp;omega,af.2 ⟨rfl,?_⟩⟩)
 rw[show decide (k<4)=false from by simpa using h1,show decide (8<k)=false from by simpa using h2,Bool.or_false,cond_false]
 have hk1:ah.b .sub .i64 k 1=k-1:=by rw[aS,fU (by omega) (by omega)]
 have hk2:ah.b .sub .i64 (ah.b .shl .i64 1 k) 1=2^k.toNat-1:=by
  obtain⟨j,rfl⟩:=Int.eq_ofNat_of_zero_le (show 0≤k by omega)
  have hq:2^j≤2^60:=Nat.pow_le_pow_right (by decide) (by omega)
  have hq0:=Nat.two_pow_pos j
  have e:(2:Int)^j=((2^j:Nat):Int):=by simp
  rw[JK (by omega),Int.toNat_natCast,e]
  generalize 2^j=q at hq hq0
  rw[aS,fU (by omega) (by omega)]
 rw[hk1,hk2]
 refine mC (v:=t) (m:=255) (by decide) (by decide) rfl rfl (fun g=>?_) (fun g=>by rw[g];rfl)
 rw[g,Bool.true_and]
 refine mC (i:=1) (v:=po) (m:=k-1) (by decide) (by decide) rfl rfl (fun g=>?_) (fun g=>by rw[g];rfl)
 rw[g,Bool.true_and]
 refine mC (i:=2) (v:=m) (m:=3) (by decide) (by decide) rfl rfl (fun g=>?_) (fun g=>by rw[g];rfl)
 rw[g,Bool.true_and]
 refine mC (i:=3) (v:=n) (m:=4) (by decide) (by decide) rfl rfl (fun g=>?_) (fun g=>by rw[g];rfl)
 rw[g,Bool.true_and]
 refine mC (i:=4) (v:=s) (m:=2^k.toNat-1) (by decide) (by decide) rfl rfl (fun g=>?_) (fun g=>by rw[g];rfl)
 rw[g,ak,Nm]
 exact(ai rfl).2 (.ret _)
def jB:((Int×Int×Int×Int×Int)×Int)→Int:=gI
def Xh:aC:=⟨[(.struct [yI,yI,yI,yI,yI]),yI], [yI],(@tt ((Int×Int×Int×Int×Int)×Int)),jB⟩
theorem yb:Sd 98 Xh:=aJ au dC true 43 [⟨98,5, [[5,21,22]]⟩] [] (fun A ((cTime,cPos,cMode,cNext,cMember),n)=>t87 A cTime cPos cMode cNext cMember n) Nm NQ (fc Tryz.func98 fz) (sc O9 sz) (fun A y=>match y with |.c0 p a5=>⟨41,by kernel_rfl,by kernel_rfl⟩) fun((cTime,cPos,cMode,cNext,cMember),n) hp h=>Yo
def t42(A:bu)(cTime:Int)(cPos:Int)(cMode:Int)(cNext:Int)(cMember:Int)(n:Int):LT Int Empty:=.br (A.c .lss n 4) (.ret 2) (.br (A.c .gtr n 8) (.ret 2) (.br (A.c .lss cTime 0) (.ret 40) (.br (A.c .gtr cTime 255) (.ret 40) (.br (A.c .lss cPos 0) (.ret 40) (.br (A.c .geq cPos n) (.ret 40) (.br (A.c .lss cMode 0) (.ret 40) (.br (A.c .geq cMode 4) (.ret 40) (.br (A.c .lss cNext 0) (.ret 40) (.br (A.c .gtr cNext 4) (.ret 40) (.br (A.c .lss cMember 0) (.ret 40) (.need (A.c .leq 0 (A.v .u64 n)) (.br (A.c .geq cMember (A.b .shl .i64 1 (A.v .u64 n))) (.ret 40) (.ret 0)))))))))))))
theorem Wm{t po m n s k:Int}:aD Empty.elim (t42 ah t po m n s k) (gI ((t,po,m,n,s),k)):=by
 unfold t42
 rw[gI]
 by_cases h1:k<4
 ·refine(aj (by rw[ao];simpa using h1)).2 ?_
  rw[show decide (k<4)=true from by simpa using h1]
  exact .ret _
 refine(ai (by rw[ao];simpa using h1)).2 ?_
 by_cases h2:8<k
 ·refine(aj (by rw[aA];simpa using h2)).2 ?_
  rw[show decide (8<k)=true from by simpa using h2,Bool.or_true]
  exact .ret _
 refine(ai (by rw[aA];simpa using h2)).2 ?_
 rw[show decide (k<4)=false from by simpa using h1,show decide (8<k)=false from by simpa using h2,Bool.or_false,cond_false]
 obtain⟨j,rfl⟩:=Int.eq_ofNat_of_zero_le (show 0≤k by omega)
 have e:(2:Int)^j=((2^j:Nat):Int):=by simp
 rw[dE (by omega),JK (by omega),Int.toNat_natCast,e]
 have hx:∀{x:Bool},x=false→(40:Int)=bif x then 0 else 40:=fun h=>by rw[h];rfl
 by_cases g1:t<0
 ·refine(aj (by rw[ao];simpa using g1)).2 (dU.2 (hx (by simp;omega)))
 refine(ai (by rw[ao];simpa using g1)).2 ?_
 by_cases g2:255<t
 ·refine(aj (by rw[aA];simpa using g2)).2 (dU.2 (hx (by simp;omega)))
 refine(ai (by rw[aA];simpa using g2)).2 ?_
 by_cases g3:po<0
 ·refine(aj (by rw[ao];simpa using g3)).2 (dU.2 (hx (by simp;omega)))
 refine(ai (by rw[ao];simpa using g3)).2 ?_
 by_cases g4:(j:Int)≤po
 ·refine(aj (by rw[aI];simpa using g4)).2 (dU.2 (hx (by simp;omega)))
 refine(ai (by rw[aI];simpa using g4)).2 ?_
 by_cases g5:m<0
 ·refine(aj (by rw[ao];simpa using g5)).2 (dU.2 (hx (by simp;omega)))
 refine(ai (by rw[ao];simpa using g5)).2 ?_
 by_cases g6:4≤m
 ·refine(aj (by rw[aI];simpa using g6)).2 (dU.2 (hx (by simp;omega)))
 refine(ai (by rw[aI];simpa using g6)).2 ?_
 by_cases g7:n<0
 ·refine(aj (by rw[ao];simpa using g7)).2 (dU.2 (hx (by simp;omega)))
 refine(ai (by rw[ao];simpa using g7)).2 ?_
 by_cases g8:4<n
 ·refine(aj (by rw[aA];simpa using g8)).2 (dU.2 (hx (by simp;omega)))
 refine(ai (by rw[aA];simpa using g8)).2 ?_
 by_cases g9:s<0
 ·refine(aj (by rw[ao];simpa using g9)).2 (dU.2 (hx (by simp;omega)))
 refine(ai (by rw[ao];simpa using g9)).2 (af.2 ⟨gf,?_⟩)
 have hy:∀{x:Bool},x=true→(0:Int)=bif x then 0 else 40:=fun h=>by rw[h];rfl
 generalize ((2^j:Nat):Int)=q
 by_cases g10:q≤s
 ·refine(aj (by rw[aI];simpa using g10)).2 (dU.2 (hx (by simp;omega)))
 refine(ai (by rw[aI];simpa using g10)).2 (dU.2 (hy (by simp;omega)))
def zC:((Int×Int×Int×Int×Int)×Int)→Int:=gI
def Yl:aC:=⟨[(.struct [yI,yI,yI,yI,yI]),yI], [yI],(@tt ((Int×Int×Int×Int×Int)×Int)),zC⟩
theorem SB:Sd 207 Yl:=aQ au dC true 85 [] (fun A ((cTime,cPos,cMode,cNext,cMember),n)=>t42 A cTime cPos cMode cNext cMember n) (fc Tryz.func207 fz) sz fun((cTime,cPos,cMode,cNext,cMember),n) hp h=>Wm
open Go.Ev.Pl
structure SC where
 (a0 a1 a2 a3 a4 a5 a6 a7 a8 a9 b_ dY a12:Int)
structure JU where
 (b0 b1 b2 b3 b4 b6 b9 b10 b11 b12 b13:Int)
inductive Nl where
 | c0 (p:SC)
 | c1 (p:JU) (b5:Int) (b7:Int) (b8:List Int)
noncomputable def R0:Nl→f_
 | .c0 p=>⟨[⟨239,38,(en [(2,.ptr 0 0),(4,.ptr 1 0),(5,.ptr 2 0),(16,.agg [vi p.a0,vi p.a1,vi p.a2,vi p.a3,vi p.a4]),(17,vi p.a5)]),[.inLoop (cw Tryz.f239 [1,1,1,1,0,1,0,0]),.inBlock 0,.code (cw Tryz.f239 [1,1,1,1,1])],[],none⟩],[.flat false [vi p.a6,.dp true],.flat false [vi p.a7,.dp true],.flat false [vi p.a8,vi p.a9,vi p.b_,vi p.dY,vi p.a12],.dead]⟩
 | .c1 p b5 b7 b8=>⟨[⟨239,38,(en [(2,.ptr 0 0),(4,.ptr 1 0),(5,.ptr 2 0),(16,.agg [vi p.b0,vi p.b1,vi p.b2,vi p.b3,vi p.b4]),(17,vi b5)]),[.inLoop (cw Tryz.f239 [1,1,1,1,0,1,0,0]),.inBlock 0,.code (cw Tryz.f239 [1,1,1,1,1])],[],none⟩],[.flat false [vi p.b6,.dp true],.flat false [vi b7,.sl yU b8],.flat false [vi p.b9,vi p.b10,vi p.b11,vi p.b12,vi p.b13],.dead]⟩
def W5(A:bu)(cTime:Int)(cPos:Int)(cMode:Int)(cNext:Int)(cMember:Int):LT ((Int×List Int)×Int) Nl:=.need (A.k (@tt ((Int×Int×Int×Int×Int)×Int)) ((cTime,cPos,cMode,cNext,cMember),8)) (.br (A.c .neq (A.k jB ((cTime,cPos,cMode,cNext,cMember),8)) 0) (.ret ((0,([]:List Int)),40)) (.more (.c0 ⟨cTime,cPos,cMode,cNext,cMember,0,0,0,8,3,2,3,8⟩)))
def Mh(A:bu):Nl→LT ((Int×List Int)×Int) Nl
 | .c0 p=>.br (A.c .lss p.a5 5) (.need (A.and (A.c .leq 0 p.a5) (A.c .lss p.a5 5)) (.need (A.and (A.c .leq 0 p.a5) (A.c .lss p.a5 5)) (.need (A.k (@tt ((Int×List Int)×Int×Int)) ((p.a7,([]:List Int)),(A.v .u64 (A.n yI [p.a0,p.a1,p.a2,p.a3,p.a4] p.a5:Int)),(A.n yI [p.a8,p.a9,p.b_,p.dY,p.a12] p.a5:Int))) (.need (A.k (@tt ((Int×List Int)×Int×Int)) ((p.a7,([]:List Int)),(A.v .u64 (A.n yI [p.a0,p.a1,p.a2,p.a3,p.a4] p.a5:Int)),(A.n yI [p.a8,p.a9,p.b_,p.dY,p.a12] p.a5:Int))) (.need (A.and (A.c .leq 0 p.a5) (A.c .lss p.a5 5)) (.br (A.c .neq (A.k mz ((p.a7,([]:List Int)),(A.v .u64 (A.n yI [p.a0,p.a1,p.a2,p.a3,p.a4] p.a5:Int)),(A.n yI [p.a8,p.a9,p.b_,p.dY,p.a12] p.a5:Int))).2 0) (.ret ((0,([]:List Int)),(A.k mz ((p.a7,([]:List Int)),(A.v .u64 (A.n yI [p.a0,p.a1,p.a2,p.a3,p.a4] p.a5:Int)),(A.n yI [p.a8,p.a9,p.b_,p.dY,p.a12] p.a5:Int))).2)) (.more (.c1 ⟨p.a0,p.a1,p.a2,p.a3,p.a4,p.a6,p.a8,p.a9,p.b_,p.dY,p.a12⟩ (A.b .add .i64 p.a5 1) (A.k mz ((p.a7,([]:List Int)),(A.v .u64 (A.n yI [p.a0,p.a1,p.a2,p.a3,p.a4] p.a5:Int)),(A.n yI [p.a8,p.a9,p.b_,p.dY,p.a12] p.a5:Int))).1.1 (A.k mz ((p.a7,([]:List Int)),(A.v .u64 (A.n yI [p.a0,p.a1,p.a2,p.a3,p.a4] p.a5:Int)),(A.n yI [p.a8,p.a9,p.b_,p.dY,p.a12] p.a5:Int))).1.2)))))))) (.ret ((p.a7,([]:List Int)),0))
 | .c1 p b5 b7 b8=>.br (A.c .lss b5 5) (.need (A.and (A.c .leq 0 b5) (A.c .lss b5 5)) (.need (A.and (A.c .leq 0 b5) (A.c .lss b5 5)) (.need (A.k (@tt ((Int×List Int)×Int×Int)) ((b7,b8),(A.v .u64 (A.n yI [p.b0,p.b1,p.b2,p.b3,p.b4] b5:Int)),(A.n yI [p.b9,p.b10,p.b11,p.b12,p.b13] b5:Int))) (.need (A.k (@tt ((Int×List Int)×Int×Int)) ((b7,b8),(A.v .u64 (A.n yI [p.b0,p.b1,p.b2,p.b3,p.b4] b5:Int)),(A.n yI [p.b9,p.b10,p.b11,p.b12,p.b13] b5:Int))) (.need (A.and (A.c .leq 0 b5) (A.c .lss b5 5)) (.br (A.c .neq (A.k mz ((b7,b8),(A.v .u64 (A.n yI [p.b0,p.b1,p.b2,p.b3,p.b4] b5:Int)),(A.n yI [p.b9,p.b10,p.b11,p.b12,p.b13] b5:Int))).2 0) (.ret ((0,([]:List Int)),(A.k mz ((b7,b8),(A.v .u64 (A.n yI [p.b0,p.b1,p.b2,p.b3,p.b4] b5:Int)),(A.n yI [p.b9,p.b10,p.b11,p.b12,p.b13] b5:Int))).2)) (.more (.c1 p (A.b .add .i64 b5 1) (A.k mz ((b7,b8),(A.v .u64 (A.n yI [p.b0,p.b1,p.b2,p.b3,p.b4] b5:Int)),(A.n yI [p.b9,p.b10,p.b11,p.b12,p.b13] b5:Int))).1.1 (A.k mz ((b7,b8),(A.v .u64 (A.n yI [p.b0,p.b1,p.b2,p.b3,p.b4] b5:Int)),(A.n yI [p.b9,p.b10,p.b11,p.b12,p.b13] b5:Int))).1.2)))))))) (.ret ((b7,b8),0))
theorem lQ{v w:Nat}{l:List Bool}(hv:v<2^w)(hw:w≤64)(hl:l.length+w≤4096):xV (bM l,(v:Int),(w:Int))=(bM (l++bitsOf v w),0):=by
 rw[xV]
 simp only[ig (l:=l) (by omega),Bool.not_true,cond_false,gi,Int.toNat_natCast]
 rw[tc (by omega),Int.toNat_natCast,Nat.div_eq_of_lt hv,show decide ((w:Int)<0)=false from by simp,show decide (64<(w:Int))=false from by simp;omega,qE (by rw[List.length_append,ay];exact hl)]
 rfl
theorem s8{p:JU}{i:Int}{v w:Nat}{l:List Bool}{r:(Int×List Int)×Int}(h0:0≤i)(h5:i<5)(hv:(ah.n (.int .i64) [p.b0,p.b1,p.b2,p.b3,p.b4] i:Int)=(v:Int))(hw:(ah.n (.int .i64) [p.b9,p.b10,p.b11,p.b12,p.b13] i:Int)=(w:Int))(hvw:v<2^w)(hw8:w≤8)(hl:l.length≤100)
  (h:aD (Mh ah) (.more (.c1 p (i+1) (bM (l++bitsOf v w)).1 (bM (l++bitsOf v w)).2)) r):aD (Mh ah) (.more (.c1 p i (bM l).1 (bM l).2)) r:=by
 rw[ak,Mh]
 have hn:ah.and (ah.c .leq 0 i) (ah.c .lss i 5)=true:=by rw[aL,ax,ao];simp;omega
 have hp:=Nat.pow_le_pow_right (n:=2) (by decide) hw8
 have hc:ah.k mz (((bM l).1,(bM l).2),(ah.v .u64 (ah.n (.int .i64) [p.b0,p.b1,p.b2,p.b3,p.b4] i:Int)),(ah.n (.int .i64) [p.b9,p.b10,p.b11,p.b12,p.b13] i:Int))=(bM (l++bitsOf v w),0):=by
  rw[show(ah.v .u64 (ah.n (.int .i64) [p.b0,p.b1,p.b2,p.b3,p.b4] i:Int))=(v:Int) from(congrArg (ah.v .u64) hv).trans (dE (by omega)),hw]
  exact lQ hvw (by omega) (by omega)
 refine(aj (by rw[ao];simpa using h5)).2 (af.2 ⟨hn,af.2 ⟨hn,af.2 ⟨rfl,?_⟩⟩⟩)
 repeat (first|refine af.2 ⟨rfl,?_⟩|refine af.2 ⟨hn,?_⟩)
 refine(ai (cr (congrArg Prod.snd hc))).2 ?_
 refine aT (congrArg LT.more (congr (congr (congrArg (Nl.c1 p) ?_) (congrArg (fun z=>z.1.1) hc)) (congrArg (fun z=>z.1.2) hc))) h
 rw[bi,fU (by omega) (by omega)]
theorem IT{t po m n s:Int}:aD (Mh ah) (W5 ah t po m n s) (jU (t,po,m,n,s)):=by
 unfold W5
 rw[jU]
 refine af.2 ⟨rfl,?_⟩
 have hchk:ah.k jB ((t,po,m,n,s),8)=bif dX (t,po,m,n,s) then 0 else 40:=qt (t,po,m,n,s)
 cases hok:dX (t,po,m,n,s)
 ·rw[hok] at hchk
  exact(aj (eU (by rw[hchk];decide))).2 (.ret _)
 rw[hok] at hchk
 refine(ai (cr hchk)).2 ?_
 rw[mo] at hok
 obtain⟨t,rfl⟩:=Int.eq_ofNat_of_zero_le hok.1.1
 obtain⟨po,rfl⟩:=Int.eq_ofNat_of_zero_le hok.2.1.1
 obtain⟨m,rfl⟩:=Int.eq_ofNat_of_zero_le hok.2.2.1.1
 obtain⟨n,rfl⟩:=Int.eq_ofNat_of_zero_le hok.2.2.2.1.1
 obtain⟨s,rfl⟩:=Int.eq_ofNat_of_zero_le hok.2.2.2.2.1
 have hc:ah.k mz (((0:Int),([]:List Int)),(ah.v .u64 (t:Int)),8)=(bM ([]++bitsOf t 8),0):=by
  rw[dE (by omega)]
  exact lQ (l:=[]) (v:=t) (w:=8) (by omega) (by decide) (by decide)
 rw[ak,Mh]
 refine(aj rfl).2 (af.2 ⟨rfl,af.2 ⟨rfl,af.2 ⟨rfl,?_⟩⟩⟩)
 repeat (refine af.2 ⟨rfl,?_⟩)
 refine(ai (cr (congrArg Prod.snd hc))).2 ?_
 refine aT (congrArg LT.more (congr (congr (congrArg (Nl.c1 _) (show ah.b .add .i64 0 1=1 from rfl)) (congrArg (fun z=>z.1.1) hc)) (congrArg (fun z=>z.1.2) hc))) ?_
 refine s8 (v:=po) (w:=3) (by decide) (by decide) rfl rfl (by omega) (by decide) (by simp[ay]) ?_
 refine s8 (i:=2) (v:=m) (w:=2) (by decide) (by decide) rfl rfl (by omega) (by decide) (by simp[ay]) ?_
 refine s8 (i:=3) (v:=n) (w:=3) (by decide) (by decide) rfl rfl (by omega) (by decide) (by simp[ay]) ?_
 refine s8 (i:=4) (v:=s) (w:=8) (by decide) (by decide) rfl rfl (by omega) (by decide) (by simp[ay]) ?_
 rw[ak,Mh]
 refine(ai rfl).2 ?_
 rw[show[]++bitsOf t 8++bitsOf po 3++bitsOf m 2++bitsOf n 3++bitsOf s 8=aW ((t:Int),(po:Int),(m:Int),(n:Int),(s:Int)) from by
  simp only[aW,Int.toNat_natCast,List.append_assoc,List.nil_append]]
 exact .ret _
def nU:((Int×Int×Int×Int×Int))→((Int×List Int)×Int):=jU
def Xs:aC:=⟨[(.struct [yI,yI,yI,yI,yI])], [(.struct [yI,yB]),yI],(@tt ((Int×Int×Int×Int×Int))),nU⟩
theorem Wy:Sd 239 Xs:=aJ au dC true 71 [⟨239,6, [[2,4,5,16,17]]⟩] [] (fun A (cTime,cPos,cMode,cNext,cMember)=>W5 A cTime cPos cMode cNext cMember) Mh R0 (fc Tryz.func239 (fc Tryz.func174 (fc Tryz.func285 fz))) (sc yb (sc Po sz)) (fun A y=>match y with |.c0 p=>⟨55,by kernel_rfl,by kernel_rfl⟩|.c1 p b5 b7 b8=>⟨55,by kernel_rfl,by kernel_rfl⟩) fun(cTime,cPos,cMode,cNext,cMember) hp h=>IT
def t82(A:bu)(cTime:Int)(cPos:Int)(cMode:Int)(cNext:Int)(cMember:Int):LT ((Int×List Int)×Int) Empty:=.need (A.k (@tt ((Int×Int×Int×Int×Int)×Int)) ((cTime,cPos,cMode,cNext,cMember),8)) (.br (A.c .neq (A.k zC ((cTime,cPos,cMode,cNext,cMember),8)) 0) (.ret ((0,([]:List Int)),40)) (.need (A.k (@tt ((Int×List Int)×Int×Int)) ((0,([]:List Int)),(A.v .u64 cTime),8)) (.need (A.k (@tt ((Int×List Int)×Int×Int)) ((A.k eB ((0,([]:List Int)),(A.v .u64 cTime),8)).1,(A.v .u64 cPos),3)) (.need (A.k (@tt ((Int×List Int)×Int×Int)) ((A.k eB ((A.k eB ((0,([]:List Int)),(A.v .u64 cTime),8)).1,(A.v .u64 cPos),3)).1,(A.v .u64 cMode),2)) (.need (A.k (@tt ((Int×List Int)×Int×Int)) ((A.k eB ((A.k eB ((A.k eB ((0,([]:List Int)),(A.v .u64 cTime),8)).1,(A.v .u64 cPos),3)).1,(A.v .u64 cMode),2)).1,(A.v .u64 cNext),3)) (.need (A.k (@tt ((Int×List Int)×Int×Int)) ((A.k eB ((A.k eB ((A.k eB ((A.k eB ((0,([]:List Int)),(A.v .u64 cTime),8)).1,(A.v .u64 cPos),3)).1,(A.v .u64 cMode),2)).1,(A.v .u64 cNext),3)).1,(A.v .u64 cMember),8)) (.ret (A.k eB ((A.k eB ((A.k eB ((A.k eB ((A.k eB ((0,([]:List Int)),(A.v .u64 cTime),8)).1,(A.v .u64 cPos),3)).1,(A.v .u64 cMode),2)).1,(A.v .u64 cNext),3)).1,(A.v .u64 cMember),8)))))))))
theorem Io{t po m n s:Int}:aD Empty.elim (t82 ah t po m n s) (jU (t,po,m,n,s)):=by
 unfold t82
 rw[jU]
 refine af.2 ⟨rfl,?_⟩
 have hchk:ah.k zC ((t,po,m,n,s),8)=bif dX (t,po,m,n,s) then 0 else 40:=qt (t,po,m,n,s)
 cases hok:dX (t,po,m,n,s)
 ·rw[hok] at hchk
  exact(aj (eU (by rw[hchk];decide))).2 (.ret _)
 rw[hok] at hchk
 refine(ai (cr hchk)).2 ?_
 rw[mo] at hok
 obtain⟨t,rfl⟩:=Int.eq_ofNat_of_zero_le hok.1.1
 obtain⟨po,rfl⟩:=Int.eq_ofNat_of_zero_le hok.2.1.1
 obtain⟨m,rfl⟩:=Int.eq_ofNat_of_zero_le hok.2.2.1.1
 obtain⟨n,rfl⟩:=Int.eq_ofNat_of_zero_le hok.2.2.2.1.1
 obtain⟨s,rfl⟩:=Int.eq_ofNat_of_zero_le hok.2.2.2.2.1
 have h1:ah.k eB (((0:Int),([]:List Int)),(ah.v .u64 (t:Int)),8)=(bM ([]++bitsOf t 8),0):=by
  rw[dE (by omega)]
  exact lQ (l:=[]) (v:=t) (w:=8) (by omega) (by decide) (by decide)
 have h2:ah.k eB (bM ([]++bitsOf t 8),(ah.v .u64 (po:Int)),3)=(bM ([]++bitsOf t 8++bitsOf po 3),0):=by
  rw[dE (by omega)]
  exact lQ (w:=3) (by omega) (by decide) (by simp[ay])
 have h3:ah.k eB (bM ([]++bitsOf t 8++bitsOf po 3),(ah.v .u64 (m:Int)),2)=(bM ([]++bitsOf t 8++bitsOf po 3++bitsOf m 2),0):=by
  rw[dE (by omega)]
  exact lQ (w:=2) (by omega) (by decide) (by simp[ay])
 have h4:ah.k eB (bM ([]++bitsOf t 8++bitsOf po 3++bitsOf m 2),(ah.v .u64 (n:Int)),3)=(bM ([]++bitsOf t 8++bitsOf po 3++bitsOf m 2++bitsOf n 3),0):=by
  rw[dE (by omega)]
  exact lQ (w:=3) (by omega) (by decide) (by simp[ay])
 have h5:ah.k eB (bM ([]++bitsOf t 8++bitsOf po 3++bitsOf m 2++bitsOf n 3),(ah.v .u64 (s:Int)),8)=(bM ([]++bitsOf t 8++bitsOf po 3++bitsOf m 2++bitsOf n 3++bitsOf s 8),0):=by
  rw[dE (by omega)]
  exact lQ (w:=8) (by omega) (by decide) (by simp[ay])
 rw[h1,h2,h3,h4,h5]
 repeat (refine af.2 ⟨rfl,?_⟩)
 rw[show[]++bitsOf t 8++bitsOf po 3++bitsOf m 2++bitsOf n 3++bitsOf s 8=aW ((t:Int),(po:Int),(m:Int),(n:Int),(s:Int)) from by
  simp only[aW,Int.toNat_natCast,List.append_assoc,List.nil_append]]
 exact .ret _
def qR:((Int×Int×Int×Int×Int))→((Int×List Int)×Int):=jU
def X5:aC:=⟨[(.struct [yI,yI,yI,yI,yI])], [(.struct [yI,yB]),yI],(@tt ((Int×Int×Int×Int×Int))),qR⟩
theorem V2:Sd 166 X5:=aQ au dC true 83 [] (fun A (cTime,cPos,cMode,cNext,cMember)=>t82 A cTime cPos cMode cNext cMember) (fc Tryz.func166 fz) (sc SB (sc FJ sz)) fun(cTime,cPos,cMode,cNext,cMember) hp h=>Io
open Go.Ev.Pl
structure K2 where
 (a1 a2 a3 a4 a5 a7:Int) (a8:List Int) (a9 b_ dY a12 lW:Int)
inductive xQ where
 | c0 (p:K2) (a0:Int) (a6:Int) (jQ:Int) (pV:Int) (a16:Int) (a17:Int) (qT:Int)
noncomputable def LF:xQ→f_
 | .c0 p a0 a6 jQ pV a16 a17 qT=>⟨[⟨242,61,(en [(1,.ptr 0 0),(2,.ptr 1 0),(4,.ptr 2 0),(5,vi a0),(21,.agg [vi p.a1,vi p.a2,vi p.a3,vi p.a4,vi p.a5]),(22,vi a6)]),[.inLoop (cw Tryz.f242 [1,1,1,1,0,1,0,0]),.inBlock 1,.code (cw Tryz.f242 [1,1,1,1,1])],[],none⟩],[.flat false [vi p.a7,.sl yU p.a8],.flat false [vi p.a9,vi p.b_,vi p.dY,vi p.a12,vi p.lW],.flat false [vi jQ,vi pV,vi a16,vi a17,vi qT],.dead]⟩
def Lb(A:bu)(bN:Int)(bB:List Int):LT ((Int×Int×Int×Int×Int)×Int) xQ:=.need (A.k (@tt ((Int×List Int))) (bN,bB)) (.br (A.c .neq (A.k iZ (bN,bB)) 0) (.ret ((0,0,0,0,0),10)) (.br (A.c .neq bN 24) (.ret ((0,0,0,0,0),40)) (.more (.c0 ⟨8,3,2,3,8,bN,bB,0,0,0,0,0⟩ 0 0 0 0 0 0 0))))
def xI(A:bu):xQ→LT ((Int×Int×Int×Int×Int)×Int) xQ
 | .c0 p a0 a6 jQ pV a16 a17 qT=>.br (A.c .lss a6 5) (.need (A.and (A.c .leq 0 a6) (A.c .lss a6 5)) (.need (A.k (@tt ((Int×List Int)×Int×Int)) ((p.a7,p.a8),a0,(A.n yI [p.a1,p.a2,p.a3,p.a4,p.a5] a6:Int))) (.br (A.c .neq (A.k ar ((p.a7,p.a8),a0,(A.n yI [p.a1,p.a2,p.a3,p.a4,p.a5] a6:Int))).2 0) (.ret ((0,0,0,0,0),(A.k ar ((p.a7,p.a8),a0,(A.n yI [p.a1,p.a2,p.a3,p.a4,p.a5] a6:Int))).2)) (.need (A.and (A.c .leq 0 a6) (A.c .lss a6 5)) (.more (.c0 p (A.b .add .i64 a0 (A.n yI [p.a1,p.a2,p.a3,p.a4,p.a5] a6:Int)) (A.b .add .i64 a6 1) (A.n yI (A.set [jQ,pV,a16,a17,qT] a6 (A.v .i64 (A.k ar ((p.a7,p.a8),a0,(A.n yI [p.a1,p.a2,p.a3,p.a4,p.a5] a6:Int))).1)) 0:Int) (A.n yI (A.set [jQ,pV,a16,a17,qT] a6 (A.v .i64 (A.k ar ((p.a7,p.a8),a0,(A.n yI [p.a1,p.a2,p.a3,p.a4,p.a5] a6:Int))).1)) 1:Int) (A.n yI (A.set [jQ,pV,a16,a17,qT] a6 (A.v .i64 (A.k ar ((p.a7,p.a8),a0,(A.n yI [p.a1,p.a2,p.a3,p.a4,p.a5] a6:Int))).1)) 2:Int) (A.n yI (A.set [jQ,pV,a16,a17,qT] a6 (A.v .i64 (A.k ar ((p.a7,p.a8),a0,(A.n yI [p.a1,p.a2,p.a3,p.a4,p.a5] a6:Int))).1)) 3:Int) (A.n yI (A.set [jQ,pV,a16,a17,qT] a6 (A.v .i64 (A.k ar ((p.a7,p.a8),a0,(A.n yI [p.a1,p.a2,p.a3,p.a4,p.a5] a6:Int))).1)) 4:Int))))))) (.need (A.k (@tt ((Int×Int×Int×Int×Int)×Int)) ((jQ,pV,a16,a17,qT),8)) (.br (A.c .neq (A.k jB ((jQ,pV,a16,a17,qT),8)) 0) (.ret ((0,0,0,0,0),40)) (.ret ((jQ,pV,a16,a17,qT),0))))
theorem Ej{n:Int}{b:List Int}(h:Ty.du [(.struct [(.int .i64),(.slice (.int .u8))])] (n,b)):aD (xI ah) (Lb ah n b) (dH (n,b)):=by
 have hb:=(dW h).2.2
 have hl:=dq h
 unfold Lb
 rw[dH]
 refine af.2 ⟨rfl,?_⟩
 have hc:ah.c .neq (ah.k iZ (n,b)) 0=!bw (n,b):=by
  rw[al,jP hb hl];cases bw (n,b)<;>rfl
 rw[hc]
 cases hok:bw (n,b)
 ·exact(aj rfl).2 (.ret _)
 refine(ai rfl).2 ?_
 rw[Bool.not_true,cond_false]
 show aD (xI ah) _ (bif n != 24 then(zS,40) else _)
 by_cases h24:n=24
 ·subst h24
  refine(ai rfl).2 ?_
  rw[show((24:Int) != 24)=false from rfl,cond_false]
  have l0:=dT (bE (24,b)) 0 8
  have g0:ah.k ar ((24,b),0,8)=(((bf (bE (24,b)) 0 8:Nat):Int),0):=jq (n:=24) (a:=0) (w:=8) hok (by decide) (by decide) (by decide)
  have l1:=dT (bE (24,b)) 8 3
  have g1:ah.k ar ((24,b),8,3)=(((bf (bE (24,b)) 8 3:Nat):Int),0):=jq (n:=24) (a:=8) (w:=3) hok (by decide) (by decide) (by decide)
  have l2:=dT (bE (24,b)) 11 2
  have g2:ah.k ar ((24,b),11,2)=(((bf (bE (24,b)) 11 2:Nat):Int),0):=jq (n:=24) (a:=11) (w:=2) hok (by decide) (by decide) (by decide)
  have l3:=dT (bE (24,b)) 13 3
  have g3:ah.k ar ((24,b),13,3)=(((bf (bE (24,b)) 13 3:Nat):Int),0):=jq (n:=24) (a:=13) (w:=3) hok (by decide) (by decide) (by decide)
  have l4:=dT (bE (24,b)) 16 8
  have g4:ah.k ar ((24,b),16,8)=(((bf (bE (24,b)) 16 8:Nat):Int),0):=jq (n:=24) (a:=16) (w:=8) hok (by decide) (by decide) (by decide)
  rw[ak,xI]
  refine(aj rfl).2 (af.2 ⟨rfl,af.2 ⟨rfl,(ai (cr (congrArg Prod.snd (show ah.k ar ((24,b),0,8)=(((bf (bE (24,b)) 0 8:Nat):Int),0) from g0)))).2 (af.2 ⟨rfl,?_⟩)⟩⟩)
  refine aT (t':=.more (.c0 ⟨8,3,2,3,8,24,b,0,0,0,0,0⟩ 8 1 ((bf (bE (24,b)) 0 8:Nat):Int) 0 0 0 0)) (congrArg LT.more (show xQ.c0 ⟨8,3,2,3,8,24,b,0,0,0,0,0⟩ 8 1 (ah.v .i64 (ah.k ar ((24,b),0,8)).1) 0 0 0 0=_ from by rw[show(ah.v .i64 (ah.k ar ((24,b),0,8)).1)=((bf (bE (24,b)) 0 8:Nat):Int) from by rw[g0,aY,fU (by omega) (by omega)]])) ?_
  rw[ak,xI]
  refine(aj rfl).2 (af.2 ⟨rfl,af.2 ⟨rfl,(ai (cr (congrArg Prod.snd (show ah.k ar ((24,b),8,3)=(((bf (bE (24,b)) 8 3:Nat):Int),0) from g1)))).2 (af.2 ⟨rfl,?_⟩)⟩⟩)
  refine aT (t':=.more (.c0 ⟨8,3,2,3,8,24,b,0,0,0,0,0⟩ 11 2 ((bf (bE (24,b)) 0 8:Nat):Int) ((bf (bE (24,b)) 8 3:Nat):Int) 0 0 0)) (congrArg LT.more (show xQ.c0 ⟨8,3,2,3,8,24,b,0,0,0,0,0⟩ 11 2 ((bf (bE (24,b)) 0 8:Nat):Int) (ah.v .i64 (ah.k ar ((24,b),8,3)).1) 0 0 0=_ from by rw[show(ah.v .i64 (ah.k ar ((24,b),8,3)).1)=((bf (bE (24,b)) 8 3:Nat):Int) from by rw[g1,aY,fU (by omega) (by omega)]])) ?_
  rw[ak,xI]
  refine(aj rfl).2 (af.2 ⟨rfl,af.2 ⟨rfl,(ai (cr (congrArg Prod.snd (show ah.k ar ((24,b),11,2)=(((bf (bE (24,b)) 11 2:Nat):Int),0) from g2)))).2 (af.2 ⟨rfl,?_⟩)⟩⟩)
  refine aT (t':=.more (.c0 ⟨8,3,2,3,8,24,b,0,0,0,0,0⟩ 13 3 ((bf (bE (24,b)) 0 8:Nat):Int) ((bf (bE (24,b)) 8 3:Nat):Int) ((bf (bE (24,b)) 11 2:Nat):Int) 0 0)) (congrArg LT.more (show xQ.c0 ⟨8,3,2,3,8,24,b,0,0,0,0,0⟩ 13 3 ((bf (bE (24,b)) 0 8:Nat):Int) ((bf (bE (24,b)) 8 3:Nat):Int) (ah.v .i64 (ah.k ar ((24,b),11,2)).1) 0 0=_ from by rw[show(ah.v .i64 (ah.k ar ((24,b),11,2)).1)=((bf (bE (24,b)) 11 2:Nat):Int) from by rw[g2,aY,fU (by omega) (by omega)]])) ?_
  rw[ak,xI]
  refine(aj rfl).2 (af.2 ⟨rfl,af.2 ⟨rfl,(ai (cr (congrArg Prod.snd (show ah.k ar ((24,b),13,3)=(((bf (bE (24,b)) 13 3:Nat):Int),0) from g3)))).2 (af.2 ⟨rfl,?_⟩)⟩⟩)
  refine aT (t':=.more (.c0 ⟨8,3,2,3,8,24,b,0,0,0,0,0⟩ 16 4 ((bf (bE (24,b)) 0 8:Nat):Int) ((bf (bE (24,b)) 8 3:Nat):Int) ((bf (bE (24,b)) 11 2:Nat):Int) ((bf (bE (24,b)) 13 3:Nat):Int) 0)) (congrArg LT.more (show xQ.c0 ⟨8,3,2,3,8,24,b,0,0,0,0,0⟩ 16 4 ((bf (bE (24,b)) 0 8:Nat):Int) ((bf (bE (24,b)) 8 3:Nat):Int) ((bf (bE (24,b)) 11 2:Nat):Int) (ah.v .i64 (ah.k ar ((24,b),13,3)).1) 0=_ from by rw[show(ah.v .i64 (ah.k ar ((24,b),13,3)).1)=((bf (bE (24,b)) 13 3:Nat):Int) from by rw[g3,aY,fU (by omega) (by omega)]])) ?_
  rw[ak,xI]
  refine(aj rfl).2 (af.2 ⟨rfl,af.2 ⟨rfl,(ai (cr (congrArg Prod.snd (show ah.k ar ((24,b),16,8)=(((bf (bE (24,b)) 16 8:Nat):Int),0) from g4)))).2 (af.2 ⟨rfl,?_⟩)⟩⟩)
  refine aT (t':=.more (.c0 ⟨8,3,2,3,8,24,b,0,0,0,0,0⟩ 24 5 ((bf (bE (24,b)) 0 8:Nat):Int) ((bf (bE (24,b)) 8 3:Nat):Int) ((bf (bE (24,b)) 11 2:Nat):Int) ((bf (bE (24,b)) 13 3:Nat):Int) ((bf (bE (24,b)) 16 8:Nat):Int))) (congrArg LT.more (show xQ.c0 ⟨8,3,2,3,8,24,b,0,0,0,0,0⟩ 24 5 ((bf (bE (24,b)) 0 8:Nat):Int) ((bf (bE (24,b)) 8 3:Nat):Int) ((bf (bE (24,b)) 11 2:Nat):Int) ((bf (bE (24,b)) 13 3:Nat):Int) (ah.v .i64 (ah.k ar ((24,b),16,8)).1)=_ from by rw[show(ah.v .i64 (ah.k ar ((24,b),16,8)).1)=((bf (bE (24,b)) 16 8:Nat):Int) from by rw[g4,aY,fU (by omega) (by omega)]])) ?_
  have hchk:ah.k jB ((((bf (bE (24,b)) 0 8:Nat):Int),((bf (bE (24,b)) 8 3:Nat):Int),((bf (bE (24,b)) 11 2:Nat):Int),((bf (bE (24,b)) 13 3:Nat):Int),((bf (bE (24,b)) 16 8:Nat):Int)),8)=bif dX (eZ (bE (24,b))) then 0 else 40:=qt (eZ (bE (24,b)))
  rw[ak,xI]
  refine(ai rfl).2 (af.2 ⟨rfl,?_⟩)
  cases ho:dX (eZ (bE (24,b)))
  ·rw[ho] at hchk
   exact(aj (eU (by rw[hchk];decide))).2 (.ret _)
  ·rw[ho] at hchk
   exact(ai (cr hchk)).2 (.ret _)
 ·refine(aj (eU h24)).2 ?_
  rw[show(n != 24)=true from bne_iff_ne.2 h24,cond_true]
  exact .ret _
def gp:((Int×List Int))→((Int×Int×Int×Int×Int)×Int):=dH
def Ot:aC:=⟨[(.struct [yI,yB])], [(.struct [yI,yI,yI,yI,yI]),yI],(@tt ((Int×List Int))),gp⟩
theorem Vk:Sd 242 Ot:=aJ au dC true 58 [⟨242,8, [[1,2,4,5,21,22]]⟩] [] (fun A (bN,bB)=>Lb A bN bB) xI LF (fc Tryz.func242 (fc Tryz.func285 fz)) (sc yb (sc AA (sc Bu sz))) (fun A y=>match y with |.c0 p a0 a6 jQ pV a16 a17 qT=>⟨61,by kernel_rfl,by kernel_rfl⟩) fun(bN,bB) hp h=>Ej h
open Go.Ev.Pl
def t57(A:bu)(fKind:Int)(fReq:Int)(fCTime:Int)(fCPos:Int)(fCMode:Int)(fCNext:Int)(fCMember:Int)(fFrom:Int)(fData:List Int):LT Int Empty:=.need (A.k (@tt ((Int×Int×Int×Int×Int)×Int)) ((fCTime,fCPos,fCMode,fCNext,fCMember),8)) (.br (A.c .neq (A.k jB ((fCTime,fCPos,fCMode,fCNext,fCMember),8)) 0) (.ret 50) (.br (A.c .lss fReq 0) (.ret 50) (.br (A.c .gtr fReq 4) (.ret 50) (.br (A.c .gtr (A.l fData) 8) (.ret 50) (.br (A.c .eql fKind 1) (.br (A.c .eql fReq 0) (.br (A.c .eql (A.l fData) 0) (.br (A.c .geq fFrom 0) (.br (A.c .lss fFrom 8) (.br (A.not (A.and (A.c .eql fCTime fCTime) (A.and (A.c .eql fCPos 0) (A.and (A.c .eql fCMode 0) (A.and (A.c .eql fCNext 0) (A.and (A.c .eql fCMember 0) true)))))) (.ret 50) (.ret 0)) (.ret 50)) (.ret 50)) (.ret 50)) (.ret 50)) (.br (A.c .eql fKind 3) (.br (A.c .eql (A.l fData) 0) (.br (A.not (A.c .eql fFrom 0)) (.ret 50) (.ret 0)) (.ret 50)) (.br (A.c .eql fKind 2) (.br (A.not (A.c .eql fFrom 0)) (.ret 50) (.ret 0)) (.br (A.c .eql fKind 4) (.br (A.not (A.c .eql fFrom 0)) (.ret 50) (.ret 0)) (.ret 50)))))))))
def nF:((Int×Int×(Int×Int×Int×Int×Int)×Int×List Int))→Int:=fun(fKind,fReq,(fCTime,fCPos,fCMode,fCNext,fCMember),fFrom,fData)=>(t57 ah fKind fReq fCTime fCPos fCMode fCNext fCMember fFrom fData).val (Ty.bV [yI])
def WN:aC:=⟨[(.struct [yI,yI,(.struct [yI,yI,yI,yI,yI]),yI,yB])], [yI],(@tt ((Int×Int×(Int×Int×Int×Int×Int)×Int×List Int))),nF⟩
theorem W6:Sd 243 WN:=aK au dC true 109 [] (fun A (fKind,fReq,(fCTime,fCPos,fCMode,fCNext,fCMember),fFrom,fData)=>t57 A fKind fReq fCTime fCPos fCMode fCNext fCMember fFrom fData) (fc Tryz.func243 fz) (sc yb sz) (fun((fKind,fReq,(fCTime,fCPos,fCMode,fCNext,fCMember),fFrom,fData):(Int×Int×(Int×Int×Int×Int×Int)×Int×List Int)) hp h=>by
 show(t57 ah fKind fReq fCTime fCPos fCMode fCNext fCMember fFrom fData).pre=true
 simp[t57,LT.pre,al,cB])
def t58(A:bu)(fKind:Int)(fReq:Int)(fCTime:Int)(fCPos:Int)(fCMode:Int)(fCNext:Int)(fCMember:Int)(fFrom:Int)(fData:List Int):LT Int Empty:=.br (A.c .lss fKind 1) (.ret 50) (.br (A.c .gtr fKind 4) (.ret 50) (.need (A.k (@tt ((Int×Int×Int×Int×Int)×Int)) ((fCTime,fCPos,fCMode,fCNext,fCMember),8)) (.br (A.c .neq (A.k zC ((fCTime,fCPos,fCMode,fCNext,fCMember),8)) 0) (.ret 50) (.br (A.c .lss fReq 0) (.ret 50) (.br (A.c .gtr fReq 4) (.ret 50) (.br (A.c .gtr (A.l fData) 8) (.ret 50) (.br (A.c .eql fKind 1) (.br (A.c .gtr (A.l fData) 0) (.ret 50) (.br (A.c .neq fKind 1) (.br (A.c .neq fFrom 0) (.ret 50) (.ret 0)) (.br (A.c .neq fReq 0) (.ret 50) (.br (A.c .lss fFrom 0) (.ret 50) (.br (A.c .geq fFrom 8) (.ret 50) (.br (A.not (A.and (A.c .eql fCTime fCTime) (A.and (A.c .eql fCPos 0) (A.and (A.c .eql fCMode 0) (A.and (A.c .eql fCNext 0) (A.and (A.c .eql fCMember 0) true)))))) (.ret 50) (.ret 0))))))) (.br (A.c .eql fKind 3) (.br (A.c .gtr (A.l fData) 0) (.ret 50) (.br (A.c .neq fKind 1) (.br (A.c .neq fFrom 0) (.ret 50) (.ret 0)) (.br (A.c .neq fReq 0) (.ret 50) (.br (A.c .lss fFrom 0) (.ret 50) (.br (A.c .geq fFrom 8) (.ret 50) (.br (A.not (A.and (A.c .eql fCTime fCTime) (A.and (A.c .eql fCPos 0) (A.and (A.c .eql fCMode 0) (A.and (A.c .eql fCNext 0) (A.and (A.c .eql fCMember 0) true)))))) (.ret 50) (.ret 0))))))) (.br (A.c .neq fKind 1) (.br (A.c .neq fFrom 0) (.ret 50) (.ret 0)) (.br (A.c .neq fReq 0) (.ret 50) (.br (A.c .lss fFrom 0) (.ret 50) (.br (A.c .geq fFrom 8) (.ret 50) (.br (A.not (A.and (A.c .eql fCTime fCTime) (A.and (A.c .eql fCPos 0) (A.and (A.c .eql fCMode 0) (A.and (A.c .eql fCNext 0) (A.and (A.c .eql fCMember 0) true)))))) (.ret 50) (.ret 0))))))))))))))
def C4:((Int×Int×(Int×Int×Int×Int×Int)×Int×List Int))→Int:=fun(fKind,fReq,(fCTime,fCPos,fCMode,fCNext,fCMember),fFrom,fData)=>(t58 ah fKind fReq fCTime fCPos fCMode fCNext fCMember fFrom fData).val (Ty.bV [yI])
def YG:aC:=⟨[(.struct [yI,yI,(.struct [yI,yI,yI,yI,yI]),yI,yB])], [yI],(@tt ((Int×Int×(Int×Int×Int×Int×Int)×Int×List Int))),C4⟩
theorem Y7:Sd 165 YG:=aK au dC true 114 [] (fun A (fKind,fReq,(fCTime,fCPos,fCMode,fCNext,fCMember),fFrom,fData)=>t58 A fKind fReq fCTime fCPos fCMode fCNext fCMember fFrom fData) (fc Tryz.func165 fz) (sc SB sz) (fun((fKind,fReq,(fCTime,fCPos,fCMode,fCNext,fCMember),fFrom,fData):(Int×Int×(Int×Int×Int×Int×Int)×Int×List Int)) hp h=>by
 show(t58 ah fKind fReq fCTime fCPos fCMode fCNext fCMember fFrom fData).pre=true
 simp[t58,LT.pre,al,cB])
def t56(A:bu)(kind:Int)(data:Int):LT Int Empty:=.br (A.c .lss data 0) (.ret 0) (.br (A.c .gtr data 8) (.ret 0) (.br (A.c .eql kind 1) (.br (A.c .eql data 0) (.ret 40) (.br (A.c .eql kind 3) (.br (A.c .eql data 0) (.ret 54) (.br (A.c .eql kind 2) (.ret (A.b .add .i64 29 (A.b .mul .i64 8 data))) (.br (A.c .eql kind 4) (.ret (A.b .add .i64 79 (A.b .mul .i64 8 data))) (.ret 0)))) (.br (A.c .eql kind 2) (.ret (A.b .add .i64 29 (A.b .mul .i64 8 data))) (.br (A.c .eql kind 4) (.ret (A.b .add .i64 79 (A.b .mul .i64 8 data))) (.ret 0))))) (.br (A.c .eql kind 3) (.br (A.c .eql data 0) (.ret 54) (.br (A.c .eql kind 2) (.ret (A.b .add .i64 29 (A.b .mul .i64 8 data))) (.br (A.c .eql kind 4) (.ret (A.b .add .i64 79 (A.b .mul .i64 8 data))) (.ret 0)))) (.br (A.c .eql kind 2) (.ret (A.b .add .i64 29 (A.b .mul .i64 8 data))) (.br (A.c .eql kind 4) (.ret (A.b .add .i64 79 (A.b .mul .i64 8 data))) (.ret 0))))))
def lK:(Int×Int)→Int:=fun(kind,data)=>(t56 ah kind data).val (Ty.bV [yI])
def Ww:aC:=⟨[yI,yI], [yI],(@tt (Int×Int)),lK⟩
theorem WB:Sd 235 Ww:=aK au dC true 67 [] (fun A (kind,data)=>t56 A kind data) (fc Tryz.func235 fz) sz (fun((kind,data):Int×Int) hp h=>by
 show(t56 ah kind data).pre=true
 simp[t56,LT.pre,al,cB])
def t59(A:bu)(kind:Int)(data:Int):LT Int Empty:=.br (A.c .lss data 0) (.ret 0) (.br (A.c .gtr data 8) (.ret 0) (.br (A.c .eql kind 1) (.br (A.c .eql data 0) (.ret 40) (.ret 0)) (.br (A.c .eql kind 2) (.ret (A.b .add .i64 29 (A.b .mul .i64 8 data))) (.br (A.c .eql kind 3) (.br (A.c .eql data 0) (.ret 54) (.ret 0)) (.br (A.c .eql kind 4) (.ret (A.b .add .i64 79 (A.b .mul .i64 8 data))) (.ret 0))))))
def ym:(Int×Int)→Int:=fun(kind,data)=>(t59 ah kind data).val (Ty.bV [yI])
def Y0:aC:=⟨[yI,yI], [yI],(@tt (Int×Int)),ym⟩
theorem YK:Sd 160 Y0:=aK au dC true 59 [] (fun A (kind,data)=>t59 A kind data) (fc Tryz.func160 fz) sz (fun((kind,data):Int×Int) hp h=>by
 show(t59 ah kind data).pre=true
 simp[t59,LT.pre,al,cB])
def t44(A:bu)(aKind:Int)(aReq:Int)(aCTime:Int)(aCPos:Int)(aCMode:Int)(aCNext:Int)(aCMember:Int)(aFrom:Int)(aData:List Int)(bKind:Int)(bReq:Int)(bCTime:Int)(bCPos:Int)(bCMode:Int)(bCNext:Int)(bCMember:Int)(bFrom:Int)(bData:List Int):LT Bool Empty:=.br (A.c .eql aKind bKind) (.br (A.c .eql aReq bReq) (.br (A.and (A.c .eql aCTime bCTime) (A.and (A.c .eql aCPos bCPos) (A.and (A.c .eql aCMode bCMode) (A.and (A.c .eql aCNext bCNext) (A.and (A.c .eql aCMember bCMember) true))))) (.br (A.c .eql aFrom bFrom) (.ret (A.z .eql (A.bytes aData) (A.bytes bData))) (.ret false)) (.ret false)) (.ret false)) (.ret false)
def M0:((Int×Int×(Int×Int×Int×Int×Int)×Int×List Int)×(Int×Int×(Int×Int×Int×Int×Int)×Int×List Int))→Bool:=fun((aKind,aReq,(aCTime,aCPos,aCMode,aCNext,aCMember),aFrom,aData),bKind,bReq,(bCTime,bCPos,bCMode,bCNext,bCMember),bFrom,bData)=>(t44 ah aKind aReq aCTime aCPos aCMode aCNext aCMember aFrom aData bKind bReq bCTime bCPos bCMode bCNext bCMember bFrom bData).val (Ty.bV [.bool])
def V9:aC:=⟨[(.struct [yI,yI,(.struct [yI,yI,yI,yI,yI]),yI,yB]),(.struct [yI,yI,(.struct [yI,yI,yI,yI,yI]),yI,yB])], [.bool],(@tt ((Int×Int×(Int×Int×Int×Int×Int)×Int×List Int)×(Int×Int×(Int×Int×Int×Int×Int)×Int×List Int))),M0⟩
theorem X_:Sd 55 V9:=aK au dC true 51 [] (fun A ((aKind,aReq,(aCTime,aCPos,aCMode,aCNext,aCMember),aFrom,aData),bKind,bReq,(bCTime,bCPos,bCMode,bCNext,bCMember),bFrom,bData)=>t44 A aKind aReq aCTime aCPos aCMode aCNext aCMember aFrom aData bKind bReq bCTime bCPos bCMode bCNext bCMember bFrom bData) (fc Tryz.func55 fz) sz (fun(((aKind,aReq,(aCTime,aCPos,aCMode,aCNext,aCMember),aFrom,aData),bKind,bReq,(bCTime,bCPos,bCMode,bCNext,bCMember),bFrom,bData):(Int×Int×(Int×Int×Int×Int×Int)×Int×List Int)×(Int×Int×(Int×Int×Int×Int×Int)×Int×List Int)) hp h=>by
 show(t44 ah aKind aReq aCTime aCPos aCMode aCNext aCMember aFrom aData bKind bReq bCTime bCPos bCMode bCNext bCMember bFrom bData).pre=true
 simp[t44,LT.pre,al,cB])
theorem sZ{k r t p m n s fr:Int}{d:List Int}:nF (k,r,(t,p,m,n,s),fr,d)=bif fF (k,r,(t,p,m,n,s),fr,d) then 0 else 50:=by
 have hc:ah.c .neq (ah.k jB ((t,p,m,n,s),8)) 0=!dX (t,p,m,n,s):=by
  rw[show ah.k jB ((t,p,m,n,s),8)=bif dX (t,p,m,n,s) then 0 else 40 from qt (t,p,m,n,s)];cases dX (t,p,m,n,s)<;>rfl
 have hl:ah.l d=(d.length:Int):=rfl
 have hiff:=jr (k:=k) (r:=r) (t:=t) (p:=p) (m:=m) (n:=n) (s:=s) (fr:=fr) (d:=d)
 have hq:(t==t&&(p==0&&(m==0&&(n==0&&(s==0&&true)))))=decide (p=0∧m=0∧n=0∧s=0):=by
  rw[Bool.eq_iff_iff];simp
 simp only[nF,t57,LT.val,hc,hl,aB,aF,ao,ax,aA,aI,aL,a_,hq,Bool.cond_eq_ite,hiff,Bool.and_eq_true,Bool.not_eq_true',decide_eq_true_eq,decide_eq_false_iff_not,beq_iff_eq,bne_iff_ne,ne_eq]
 cases dX (t,p,m,n,s)
 ·simp
 ·simp only[Bool.true_eq_false,if_false,true_and,Bool.not_true,Bool.false_eq_true,ite_false,reduceIte]
  generalize d.length=len
  repeat' split
  all_goals first|rfl|(exfalso;omega)|(exfalso;simp at *;omega)
theorem Hw{k r t p m n s fr:Int}{d:List Int}:C4 (k,r,(t,p,m,n,s),fr,d)=bif fF (k,r,(t,p,m,n,s),fr,d) then 0 else 50:=by
 have hc:ah.c .neq (ah.k zC ((t,p,m,n,s),8)) 0=!dX (t,p,m,n,s):=by
  rw[show ah.k zC ((t,p,m,n,s),8)=bif dX (t,p,m,n,s) then 0 else 40 from qt (t,p,m,n,s)];cases dX (t,p,m,n,s)<;>rfl
 have hl:ah.l d=(d.length:Int):=rfl
 have hiff:=jr (k:=k) (r:=r) (t:=t) (p:=p) (m:=m) (n:=n) (s:=s) (fr:=fr) (d:=d)
 have hq:(t==t&&(p==0&&(m==0&&(n==0&&(s==0&&true)))))=decide (p=0∧m=0∧n=0∧s=0):=by
  rw[Bool.eq_iff_iff];simp
 simp only[C4,t58,LT.val,hc,hl,aB,aF,ao,ax,aA,aI,aL,a_,hq,Bool.cond_eq_ite,hiff,Bool.and_eq_true,Bool.not_eq_true',decide_eq_true_eq,decide_eq_false_iff_not,beq_iff_eq,bne_iff_ne,ne_eq]
 cases dX (t,p,m,n,s)
 ·simp
 ·simp only[Bool.true_eq_false,if_false,true_and,Bool.not_true,Bool.false_eq_true,ite_false,reduceIte]
  generalize d.length=len
  clear hiff hq hc hl
  by_cases k1:k=1
  ·subst k1
   simp only[show ¬((1:Int)<1) by decide,show ¬((4:Int)<1) by decide,not_true_eq_false,true_and,if_true,if_false]
   repeat' split
   all_goals first|rfl|(exfalso;omega)
  ·by_cases k3:k=3
   ·subst k3
    simp only[show ¬((3:Int)<1) by decide,show ¬((4:Int)<3) by decide,k1,true_and,false_and,false_or,not_false_eq_true,if_true,if_false]
    repeat' split
    all_goals first|rfl|(exfalso;omega)
   ·simp only[k1,k3,true_and,false_and,false_or,not_false_eq_true,if_true,if_false]
    repeat' split
    all_goals first|rfl|(exfalso;omega)
theorem yH{k d:Int}:lK (k,d)=BU (k,d)∧ym (k,d)=BU (k,d):=by
 have hm:0≤d∧d≤8→∀c:Int,c=29∨c=79→ah.b .add .i64 c (ah.b .mul .i64 8 d)=c+8*d:=by
  intro h c hc
  rw[nk,fU (by omega) (by omega),bi,fU (by omega) (by omega)]
 constructor
 ·simp only[lK,t56,LT.val,aB,ao,aA,Bool.cond_eq_ite,decide_eq_true_eq,beq_iff_eq,BU]
  by_cases h:0≤d∧d≤8
  ·rw[hm h 29 (.inl rfl),hm h 79 (.inr rfl),if_neg (show ¬d<0 by omega),if_neg (show ¬8<d by omega),if_pos h]
   repeat' split
   all_goals first|rfl|(exfalso;omega)
  ·rw[if_neg h]
   by_cases h1:d<0
   ·rw[if_pos h1]
   ·rw[if_neg h1,if_pos (show 8<d by omega)]
 ·simp only[ym,t59,LT.val,aB,ao,aA,Bool.cond_eq_ite,decide_eq_true_eq,beq_iff_eq,BU]
  by_cases h:0≤d∧d≤8
  ·rw[hm h 29 (.inl rfl),hm h 79 (.inr rfl),if_neg (show ¬d<0 by omega),if_neg (show ¬8<d by omega),if_pos h]
   repeat' split
   all_goals first|rfl|(exfalso;omega)
  ·rw[if_neg h]
   by_cases h1:d<0
   ·rw[if_pos h1]
   ·rw[if_neg h1,if_pos (show 8<d by omega)]
open Go.Ev.Pl
def ID(A:bu)(n:Int)(kind:Int):LT Bool Empty:=.br (A.c .eql kind 1) (.ret (A.c .eql n 40)) (.br (A.c .eql kind 3) (.ret (A.c .eql n 54)) (.br (A.c .eql kind 2) (.br (A.c .geq (A.b .sub .i64 n 29) 0) (.br (A.c .leq (A.b .sub .i64 n 29) 64) (.ret (A.c .eql (A.b .rem .i64 (A.b .sub .i64 n 29) 8) 0)) (.ret false)) (.ret false)) (.br (A.c .geq (A.b .sub .i64 n 79) 0) (.br (A.c .leq (A.b .sub .i64 n 79) 64) (.ret (A.c .eql (A.b .rem .i64 (A.b .sub .i64 n 79) 8) 0)) (.ret false)) (.ret false))))
def iQ:(Int×Int)→Bool:=fun(n,kind)=>(ID ah n kind).val (Ty.bV [.bool])
def Va:aC:=⟨[yI,yI], [.bool],(@tt (Int×Int)),iQ⟩
theorem O0:Sd 238 Va:=aK au dC true 54 [] (fun A (n,kind)=>ID A n kind) (fc Tryz.func238 fz) sz (fun((n,kind):Int×Int) hp h=>by
 show(ID ah n kind).pre=true
 simp[ID,LT.pre,al,cB])
def FX(A:bu)(bN:Int)(bB:List Int)(kind:Int)(unsentN:Int)(unsentB:List Int):LT ((Int×List Int)×(Int×List Int)×Int) Empty:=.br (A.c .neq kind 4) (.need (A.k (@tt ((Int×List Int)×(Int×List Int))) ((bN,bB),unsentN,unsentB)) (.br (A.c .neq (A.k cK ((bN,bB),unsentN,unsentB)).2 0) (.ret ((A.k cK ((bN,bB),unsentN,unsentB)).1,(0,([]:List Int)),(A.k cK ((bN,bB),unsentN,unsentB)).2)) (.br (A.c .neq kind 3) (.ret ((A.k cK ((bN,bB),unsentN,unsentB)).1,(0,([]:List Int)),(A.k cK ((bN,bB),unsentN,unsentB)).2)) (.need (A.k (@tt ((Int×List Int)×Int×Int)) ((A.k cK ((bN,bB),unsentN,unsentB)).1,(A.b .sub .i64 (A.k cK ((bN,bB),unsentN,unsentB)).1.1 24),(A.k cK ((bN,bB),unsentN,unsentB)).1.1)) (.ret ((A.k cK ((bN,bB),unsentN,unsentB)).1,(A.k bS ((A.k cK ((bN,bB),unsentN,unsentB)).1,(A.b .sub .i64 (A.k cK ((bN,bB),unsentN,unsentB)).1.1 24),(A.k cK ((bN,bB),unsentN,unsentB)).1.1)))))))) (.need (A.k (@tt ((Int×List Int)×Int×Int)) ((bN,bB),0,55)) (.br (A.c .neq (A.k bS ((bN,bB),0,55)).2 0) (.ret ((0,([]:List Int)),(0,([]:List Int)),(A.k bS ((bN,bB),0,55)).2)) (.need (A.k (@tt ((Int×List Int)×(Int×List Int))) ((A.k bS ((bN,bB),0,55)).1,0,([]:List Int))) (.br (A.c .neq (A.k cK ((A.k bS ((bN,bB),0,55)).1,0,([]:List Int))).2 0) (.ret ((0,([]:List Int)),(0,([]:List Int)),(A.k cK ((A.k bS ((bN,bB),0,55)).1,0,([]:List Int))).2)) (.need (A.k (@tt ((Int×List Int)×Int×Int)) ((A.k cK ((A.k bS ((bN,bB),0,55)).1,0,([]:List Int))).1,(A.b .sub .i64 (A.k cK ((A.k bS ((bN,bB),0,55)).1,0,([]:List Int))).1.1 24),(A.k cK ((A.k bS ((bN,bB),0,55)).1,0,([]:List Int))).1.1)) (.br (A.c .neq (A.k bS ((A.k cK ((A.k bS ((bN,bB),0,55)).1,0,([]:List Int))).1,(A.b .sub .i64 (A.k cK ((A.k bS ((bN,bB),0,55)).1,0,([]:List Int))).1.1 24),(A.k cK ((A.k bS ((bN,bB),0,55)).1,0,([]:List Int))).1.1)).2 0) (.ret ((0,([]:List Int)),(0,([]:List Int)),(A.k bS ((A.k cK ((A.k bS ((bN,bB),0,55)).1,0,([]:List Int))).1,(A.b .sub .i64 (A.k cK ((A.k bS ((bN,bB),0,55)).1,0,([]:List Int))).1.1 24),(A.k cK ((A.k bS ((bN,bB),0,55)).1,0,([]:List Int))).1.1)).2)) (.need (A.k (@tt ((Int×List Int)×(Int×List Int))) ((bN,bB),(A.k bS ((A.k cK ((A.k bS ((bN,bB),0,55)).1,0,([]:List Int))).1,(A.b .sub .i64 (A.k cK ((A.k bS ((bN,bB),0,55)).1,0,([]:List Int))).1.1 24),(A.k cK ((A.k bS ((bN,bB),0,55)).1,0,([]:List Int))).1.1)).1)) (.ret ((A.k cK ((bN,bB),(A.k bS ((A.k cK ((A.k bS ((bN,bB),0,55)).1,0,([]:List Int))).1,(A.b .sub .i64 (A.k cK ((A.k bS ((bN,bB),0,55)).1,0,([]:List Int))).1.1 24),(A.k cK ((A.k bS ((bN,bB),0,55)).1,0,([]:List Int))).1.1)).1)).1,(A.k bS ((A.k cK ((A.k bS ((bN,bB),0,55)).1,0,([]:List Int))).1,(A.b .sub .i64 (A.k cK ((A.k bS ((bN,bB),0,55)).1,0,([]:List Int))).1.1 24),(A.k cK ((A.k bS ((bN,bB),0,55)).1,0,([]:List Int))).1.1)).1,(A.k cK ((bN,bB),(A.k bS ((A.k cK ((A.k bS ((bN,bB),0,55)).1,0,([]:List Int))).1,(A.b .sub .i64 (A.k cK ((A.k bS ((bN,bB),0,55)).1,0,([]:List Int))).1.1 24),(A.k cK ((A.k bS ((bN,bB),0,55)).1,0,([]:List Int))).1.1)).1)).2)))))))))
def aX:((Int×List Int)×Int×(Int×List Int))→((Int×List Int)×(Int×List Int)×Int):=fun((bN,bB),kind,unsentN,unsentB)=>(FX ah bN bB kind unsentN unsentB).val (Ty.bV [(.struct [yI,yB]),(.struct [yI,yB]),yI])
def RR:aC:=⟨[(.struct [yI,yB]),yI,(.struct [yI,yB])], [(.struct [yI,yB]),(.struct [yI,yB]),yI],(@tt ((Int×List Int)×Int×(Int×List Int))),aX⟩
theorem TS:Sd 240 RR:=aK au dC true 110 [] (fun A ((bN,bB),kind,unsentN,unsentB)=>FX A bN bB kind unsentN unsentB) (fc Tryz.func240 fz) (sc Nx (sc JY sz)) (fun(((bN,bB),kind,unsentN,unsentB):(Int×List Int)×Int×(Int×List Int)) hp h=>by
 show(FX ah bN bB kind unsentN unsentB).pre=true
 simp[FX,LT.pre,al,cB])
theorem Dd{n:Nat}(hn:n≤4096):iQ ((n:Int),1)=eO n 1∧iQ ((n:Int),2)=eO n 2∧iQ ((n:Int),3)=eO n 3∧iQ ((n:Int),4)=eO n 4:=by
 have key:∀a:Nat,a≤100→(bif ah.c .geq (ah.b .sub .i64 (n:Int) (a:Int)) 0 then(bif ah.c .leq (ah.b .sub .i64 (n:Int) (a:Int)) 64 then ah.c .eql (ah.b .rem .i64 (ah.b .sub .i64 (n:Int) (a:Int)) 8) 0 else false) else false)=(decide (a≤n)&&decide (n≤a+64)&&decide ((n-a)%8=0)):=by
  intro a ha
  rw[aS,fU (by omega) (by omega),aI,ax,aB,xr]
  by_cases h1:a≤n
  ·rw[Int.tmod_eq_emod_of_nonneg (by omega),show decide ((0:Int)≤(n:Int)-(a:Int))=true from by simp;omega,cond_true,show decide (a≤n)=true from by simpa using h1,Bool.true_and]
   by_cases h2:n≤a+64
   ·rw[show decide ((n:Int)-(a:Int)≤64)=true from by simp;omega,cond_true,show decide (n≤a+64)=true from by simpa using h2,Bool.true_and,Bool.eq_iff_iff]
    simp only[beq_iff_eq,decide_eq_true_eq]
    omega
   ·rw[show decide ((n:Int)-(a:Int)≤64)=false from by simp;omega,cond_false,show decide (n≤a+64)=false from by simpa using h2,Bool.false_and]
  ·rw[show decide ((0:Int)≤(n:Int)-(a:Int))=false from by simp;omega,cond_false,show decide (a≤n)=false from by simpa using h1,Bool.false_and,Bool.false_and]
 refine⟨?_,?_,?_,?_⟩
 ·show((n:Int)==40)=(n==40)
  rw[Bool.eq_iff_iff];simp;omega
 ·refine(key 29 (by decide)).trans ?_
  show _=(decide (29≤n)&&decide (n≤93)&&(n%8==5))
  rw[Bool.eq_iff_iff];simp;omega
 ·show((n:Int)==54)=(n==54)
  rw[Bool.eq_iff_iff];simp;omega
 ·refine(key 79 (by decide)).trans ?_
  show _=(decide (79≤n)&&decide (n≤143)&&(n%8==7))
  rw[Bool.eq_iff_iff];simp;omega
theorem wO{n m k:Int}{b u:List Int}(hk:k=1∨k=2):aX ((n,b),k,(m,u))=((cY ((n,b),(m,u))).1,zB,(cY ((n,b),(m,u))).2):=by
 have h1:ah.c .neq k 4=true:=eU (by omega)
 have h3:ah.c .neq k 3=true:=eU (by omega)
 simp only[aX,FX,LT.val,h1,h3,cond_true]
 show(bif _ then _ else _)=_
 cases ah.c .neq (ah.k cK ((n,b),(m,u))).2 0<;>rfl
theorem Fa{n m:Int}{b u:List Int}:aX ((n,b),3,(m,u))=bif (cY ((n,b),(m,u))).2 != 0 then((cY ((n,b),(m,u))).1,zB,(cY ((n,b),(m,u))).2) else((cY ((n,b),(m,u))).1,bU ((cY ((n,b),(m,u))).1,ah.b .sub .i64 (cY ((n,b),(m,u))).1.1 24,(cY ((n,b),(m,u))).1.1)):=by kernel_rfl
theorem F6{n m:Int}{b u:List Int}:aX ((n,b),4,(m,u))=bif (bU ((n,b),0,55)).2 != 0 then(zB,zB,(bU ((n,b),0,55)).2) else
  bif (cY ((bU ((n,b),0,55)).1,zB)).2 != 0 then(zB,zB,(cY ((bU ((n,b),0,55)).1,zB)).2) else
  bif (bU ((cY ((bU ((n,b),0,55)).1,zB)).1,ah.b .sub .i64 (cY ((bU ((n,b),0,55)).1,zB)).1.1 24,(cY ((bU ((n,b),0,55)).1,zB)).1.1)).2 != 0 then(zB,zB,(bU ((cY ((bU ((n,b),0,55)).1,zB)).1,ah.b .sub .i64 (cY ((bU ((n,b),0,55)).1,zB)).1.1 24,(cY ((bU ((n,b),0,55)).1,zB)).1.1)).2) else
  ((cY ((n,b),(bU ((cY ((bU ((n,b),0,55)).1,zB)).1,ah.b .sub .i64 (cY ((bU ((n,b),0,55)).1,zB)).1.1 24,(cY ((bU ((n,b),0,55)).1,zB)).1.1)).1)).1,(bU ((cY ((bU ((n,b),0,55)).1,zB)).1,ah.b .sub .i64 (cY ((bU ((n,b),0,55)).1,zB)).1.1 24,(cY ((bU ((n,b),0,55)).1,zB)).1.1)).1,(cY ((n,b),(bU ((cY ((bU ((n,b),0,55)).1,zB)).1,ah.b .sub .i64 (cY ((bU ((n,b),0,55)).1,zB)).1.1 24,(cY ((bU ((n,b),0,55)).1,zB)).1.1)).1)).2):=by kernel_rfl
theorem vd{l:List Bool}(h1:24≤l.length)(h2:l.length≤4096):bU (bM l,ah.b .sub .i64 (bM l).1 24,(bM l).1)=(bM (l.drop (l.length-24)),0):=by
 have hb:(bM l).1=((l.length:Nat):Int):=rfl
 rw[hb,show ah.b .sub .i64 ((l.length:Nat):Int) 24=((l.length-24:Nat):Int) from lu (j:=24) h1 (by omega),Cs h2 (by omega) (Nat.le_refl _),List.take_length]
theorem Cm{n:Nat}{b:List Int}(hok:bw ((n:Int),b)=true)(hn:n=54):aX (((n:Int),b),3,(0, []))=bif over 0 (unpack n b) != 0 then(zB,zB,21) else(bM ((unpack n b).take 30),bM (((unpack n b).drop 6).take 24),0):=by
 have hl:(bE ((n:Int),b)).length=n:=by rw[gl];rfl
 have e:=lX (u:=(0, [])) hok rfl (by omega)
 rw[hl,show over 0 (bE ((0:Int),([]:List Int)))=0 from rfl,show n-24=30 from by omega,show bE ((n:Int),b)=unpack n b from rfl] at e
 have h30:((unpack n b).take 30).length=30:=by rw[List.length_take,aR];omega
 have e2:=vd (l:=(unpack n b).take 30) (by omega) (by omega)
 rw[h30,List.drop_take,show 30-24=6 from rfl,show 30-6=24 from rfl] at e2
 rw[Fa,e]
 cases over 0 (unpack n b) != 0
 ·simp only[cond_false]
  rw[e2];rfl
 ·rfl
theorem C8{n:Nat}{b:List Int}(hok:bw ((n:Int),b)=true)(hn:79≤n)(hn2:n≤143):aX (((n:Int),b),4,(0, []))=bif over 0 ((unpack n b).take 55) != 0 then(zB,zB,21) else bif over (over 0 (((unpack n b).drop 7).take 24)) (unpack n b) != 0 then(zB,bM (((unpack n b).drop 7).take 24),21) else(bM ((unpack n b).take (n-24)),bM (((unpack n b).drop 7).take 24),0):=by
 have hl:(bE ((n:Int),b)).length=n:=by rw[gl];rfl
 have h55:((unpack n b).take 55).length=55:=by rw[List.length_take,aR];omega
 have h31:((unpack n b).take 31).length=31:=by rw[List.length_take,aR];omega
 have e1:bU (((n:Int),b),0,55)=(bM ((unpack n b).take 55),0):=by
  rw[bU]
  simp only[hok]
  rw[show decide ((n:Int)<55)=false from by simp;omega]
  rfl
 have e2:cY (bM ((unpack n b).take 55),zB)=bif over 0 ((unpack n b).take 55) != 0 then(zB,21) else(bM ((unpack n b).take 31),0):=by
  have hk:bw (bM ((unpack n b).take 55))=true:=ig (by omega)
  have:=lX (n:=(bM ((unpack n b).take 55)).1) (b:=(bM ((unpack n b).take 55)).2) (u:=zB) hk rfl (by rw[show((bM ((unpack n b).take 55)).1,(bM ((unpack n b).take 55)).2)=bM ((unpack n b).take 55) from rfl,gi];omega)
  rw[show((bM ((unpack n b).take 55)).1,(bM ((unpack n b).take 55)).2)=bM ((unpack n b).take 55) from rfl,gi,h55,List.take_take,show over 0 (bE zB)=0 from rfl] at this
  exact this
 have e3:bU (bM ((unpack n b).take 31),ah.b .sub .i64 (bM ((unpack n b).take 31)).1 24,(bM ((unpack n b).take 31)).1)=(bM (((unpack n b).drop 7).take 24),0):=by
  have:=vd (l:=(unpack n b).take 31) (by omega) (by omega)
  rw[h31,List.drop_take] at this
  exact this
 have e4:cY (((n:Int),b),bM (((unpack n b).drop 7).take 24))=bif over (over 0 (((unpack n b).drop 7).take 24)) (unpack n b) != 0 then(zB,21) else(bM ((unpack n b).take (n-24)),0):=by
  rw[lX hok (ig (by rw[List.length_take];omega)) (by omega),hl,gi];rfl
 rw[F6,e1]
 simp only[e2]
 cases over 0 ((unpack n b).take 55) != 0
 ·simp only[cond_false,e3]
  rw[e4]
  cases over (over 0 (((unpack n b).drop 7).take 24)) (unpack n b) != 0<;>rfl
 ·rfl
end Go.Ev.M
