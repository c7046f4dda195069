/-
  PROVED: what the functions of the packages crc, cstate, metronomeref02 and metronomeref04 compute, and some of frame and metronomeref05. Conditions: none.
-/
import Derived.Test.YteldjjjcdpnnbaaGreatFa
namespace Go.Ev.M
open Go.Proofs
set_option maxRecDepth 100000
set_option linter.unusedVariables false
set_option linter.unusedSimpArgs false
open Go.Ev.Pl
def Ff(A:aZ)(r:Int):LT Int Empty:=.br (A.c .eql (A.b .shr .u32 r 23) 1) (.ret (A.b .xor .u32 (A.b .and .u32 (A.b .shl .u32 r 1) 16777215) 6122955)) (.ret (A.b .and .u32 (A.b .shl .u32 r 1) 16777215))
def vk:Int→Int:=fun r=>(Ff ai r).val (Ty.cn [(.int .u32)])
def VH:aA:=⟨[(.int .u32)], [(.int .u32)],(@tt Int),vk⟩
theorem Jb:Sd 267 VH:=aL ax cm true 35 [] (fun A r=>Ff A r) (fc Tryz.func267 fz) sz (fun(r:Int) hp h=>by
 show(Ff ai r).pre=true
 simp[Ff,LT.pre])
theorem Io{a:Int}(h1:0≤a)(h2:a≤4294967295):IntKind.u32.wrap a=a:=IntWalk.u32_in a ⟨h1,h2⟩
theorem yl{a b:Nat}(ha:a<4294967296)(hb:b<4294967296):ai.b .xor .u32 (a:Int) (b:Int)=((a ^^^ b:Nat):Int):=by
 show IntKind.u32.wrap ((BitVec.ofInt 32 (a:Int) ^^^ BitVec.ofInt 32 (b:Int)).toNat:Int)=_
 rw[BitVec.ofInt_natCast,BitVec.ofInt_natCast,BitVec.toNat_xor,BitVec.toNat_ofNat,BitVec.toNat_ofNat,Nat.mod_eq_of_lt ha,Nat.mod_eq_of_lt hb]
 have:a ^^^ b<2^32:=Nat.xor_lt_two_pow ha hb
 rw[Io (by omega) (by omega)]
theorem JN{a:Nat}(ha:a<4294967296):ai.b .and .u32 (a:Int) 16777215=((a%16777216:Nat):Int):=by
 show IntKind.u32.wrap ((BitVec.ofInt 32 (a:Int) &&& BitVec.ofInt 32 ((16777215:Nat):Int)).toNat:Int)=_
 rw[BitVec.ofInt_natCast,BitVec.ofInt_natCast,BitVec.toNat_and,BitVec.toNat_ofNat,BitVec.toNat_ofNat,Nat.mod_eq_of_lt ha,show 16777215%2^32=2^24-1 from rfl,Nat.and_two_pow_sub_one_eq_mod,Io (by omega) (by omega)]
theorem Av{a k:Nat}(hk:k≤32)(h:a*2^k<4294967296):ai.b .shl .u32 (a:Int) (k:Int)=((a*2^k:Nat):Int):=by
 show IntKind.u32.wrap ((a:Int)*2^min (k:Int).toNat 32)=_
 rw[Int.toNat_natCast,Nat.min_eq_left hk,show(a:Int)*2^k=((a*2^k:Nat):Int) from by simp,Io (by omega) (by omega)]
theorem Fs{r:Nat}(hr:r<16777216):vk (r:Int)=((step1 r false:Nat):Int):=by
 simp only[vk,Ff,LT.val]
 have h1:ai.b .shr .u32 (r:Int) 23=((r/2^23:Nat):Int):=F4 (n:=23) (by omega) (by decide)
 have h2:ai.b .and .u32 (ai.b .shl .u32 (r:Int) 1) 16777215=((2*r%16777216:Nat):Int):=by
  have h3:ai.b .shl .u32 (r:Int) 1=((r*2^1:Nat):Int):=Av (k:=1) (by decide) (by omega)
  rw[h3,JN (by omega),Nat.pow_one,Nat.mul_comm]
 rw[h1,h2,step1,Bool.bne_false]
 have h4:ai.c .eql ((r/2^23:Nat):Int) 1=decide (8388608≤r):=by
  rw[aS,Bool.eq_iff_iff,decide_eq_true_eq,beq_iff_eq]
  omega
 rw[h4]
 cases decide (8388608≤r)
 ·rfl
 ·have:ai.b .xor .u32 ((2*r%16777216:Nat):Int) 6122955=((2*r%16777216 ^^^ 6122955:Nat):Int):=yl (b:=6122955) (by omega) (by decide)
  rw[cond_true,cond_true,this]
structure M1 where
 (a0 a1 a2 a3 a4 a5 a6 a7 a8 a9 bW dM a12 nC j6 rB a16 a17 rI kX a20 a21 a22 a23 a24 a25 a26 a27 a28 a29 a30 a31 a32:Int)
structure NP where
 (b0 b2 b4 b5 b6 b7 b8 b9 b10 b11 b12 b13 xW zk uE Bl BQ ki lS k6 lg rF rO rM pq lZ lW yd yX yj yC xJ y7 ya:Int)
inductive Hg where
 | c0 (p:M1)
 | c1 (p:NP) (b1:Int) (b3:Int)
noncomputable def Mv:Hg→fJ
 | .c0 p=>⟨[⟨265,20,(en [(0,.ptr 0 0),(1,.ptr 1 0),(4,vi p.a0)]),[.inLoop (cw Tryz.f265 [1,1,0,1,0,0]),.inBlock 0,.code (cw Tryz.f265 [1,1,1])],[],none⟩],[.flat false [.int .u32 false p.a1,.int .u32 false p.a2,.int .u32 false p.a3,.int .u32 false p.a4,.int .u32 false p.a5,.int .u32 false p.a6,.int .u32 false p.a7,.int .u32 false p.a8,.int .u32 false p.a9,.int .u32 false p.bW,.int .u32 false p.dM,.int .u32 false p.a12,.int .u32 false p.nC,.int .u32 false p.j6,.int .u32 false p.rB,.int .u32 false p.a16],.flat false [.int .u32 false p.a17,.int .u32 false p.rI,.int .u32 false p.kX,.int .u32 false p.a20,.int .u32 false p.a21,.int .u32 false p.a22,.int .u32 false p.a23,.int .u32 false p.a24,.int .u32 false p.a25,.int .u32 false p.a26,.int .u32 false p.a27,.int .u32 false p.a28,.int .u32 false p.a29,.int .u32 false p.a30,.int .u32 false p.a31,.int .u32 false p.a32],.dead]⟩
 | .c1 p b1 b3=>⟨[⟨265,20,(en [(0,.ptr 0 0),(1,.ptr 1 0),(2,vi p.b0),(3,.int .u32 false b1),(4,vi p.b2),(10,vi b3)]),[.inLoop (cw Tryz.f265 [1,1,0,1,0,0,1,1,0,0,1,1,0,1,0,0]),.inBlock 2,.code (cw Tryz.f265 [1,1,0,1,0,0,1,1,0,0,1,1,1]),.inBlock 1,.code (cw Tryz.f265 [1,1,0,1,0,0,1,1,1]),.inLoop (cw Tryz.f265 [1,1,0,1,0,0]),.inBlock 0,.code (cw Tryz.f265 [1,1,1])],[],none⟩],[.flat false [.int .u32 false p.b4,.int .u32 false p.b5,.int .u32 false p.b6,.int .u32 false p.b7,.int .u32 false p.b8,.int .u32 false p.b9,.int .u32 false p.b10,.int .u32 false p.b11,.int .u32 false p.b12,.int .u32 false p.b13,.int .u32 false p.xW,.int .u32 false p.zk,.int .u32 false p.uE,.int .u32 false p.Bl,.int .u32 false p.BQ,.int .u32 false p.ki],.flat false [.int .u32 false p.lS,.int .u32 false p.k6,.int .u32 false p.lg,.int .u32 false p.rF,.int .u32 false p.rO,.int .u32 false p.rM,.int .u32 false p.pq,.int .u32 false p.lZ,.int .u32 false p.lW,.int .u32 false p.yd,.int .u32 false p.yX,.int .u32 false p.yj,.int .u32 false p.yC,.int .u32 false p.xJ,.int .u32 false p.y7,.int .u32 false p.ya],.dead]⟩
def OD(A:aZ):LT (List Int) Hg:=.more (.c0 ⟨0,0,0,0,0,0,0,0,0,0,0,0,0,0,0,0,0,0,0,0,0,0,0,0,0,0,0,0,0,0,0,0,0⟩)
def UC(A:aZ):Hg→LT (List Int) Hg
 | .c0 p=>.br (A.c .lss p.a0 16) (.more (.c1 ⟨p.a0,p.a0,p.a1,p.a2,p.a3,p.a4,p.a5,p.a6,p.a7,p.a8,p.a9,p.bW,p.dM,p.a12,p.nC,p.j6,p.rB,p.a16,p.a17,p.rI,p.kX,p.a20,p.a21,p.a22,p.a23,p.a24,p.a25,p.a26,p.a27,p.a28,p.a29,p.a30,p.a31,p.a32⟩ (A.b .shl .u32 (A.v .u32 p.a0) 20) 0)) (.ret [p.a17,p.rI,p.kX,p.a20,p.a21,p.a22,p.a23,p.a24,p.a25,p.a26,p.a27,p.a28,p.a29,p.a30,p.a31,p.a32])
 | .c1 p b1 b3=>.br (A.c .lss b3 4) (.need (A.k (@tt Int) b1) (.more (.c1 p (A.k vk b1) (A.b .add .i64 b3 1)))) (.need (A.and (A.c .leq 0 p.b0) (A.c .lss p.b0 16)) (.more (.c0 ⟨(A.b .add .i64 p.b2 1),p.b4,p.b5,p.b6,p.b7,p.b8,p.b9,p.b10,p.b11,p.b12,p.b13,p.xW,p.zk,p.uE,p.Bl,p.BQ,p.ki,(A.n (.int .u32) (A.set [p.lS,p.k6,p.lg,p.rF,p.rO,p.rM,p.pq,p.lZ,p.lW,p.yd,p.yX,p.yj,p.yC,p.xJ,p.y7,p.ya] p.b0 b1) 0:Int),(A.n (.int .u32) (A.set [p.lS,p.k6,p.lg,p.rF,p.rO,p.rM,p.pq,p.lZ,p.lW,p.yd,p.yX,p.yj,p.yC,p.xJ,p.y7,p.ya] p.b0 b1) 1:Int),(A.n (.int .u32) (A.set [p.lS,p.k6,p.lg,p.rF,p.rO,p.rM,p.pq,p.lZ,p.lW,p.yd,p.yX,p.yj,p.yC,p.xJ,p.y7,p.ya] p.b0 b1) 2:Int),(A.n (.int .u32) (A.set [p.lS,p.k6,p.lg,p.rF,p.rO,p.rM,p.pq,p.lZ,p.lW,p.yd,p.yX,p.yj,p.yC,p.xJ,p.y7,p.ya] p.b0 b1) 3:Int),(A.n (.int .u32) (A.set [p.lS,p.k6,p.lg,p.rF,p.rO,p.rM,p.pq,p.lZ,p.lW,p.yd,p.yX,p.yj,p.yC,p.xJ,p.y7,p.ya] p.b0 b1) 4:Int),(A.n (.int .u32) (A.set [p.lS,p.k6,p.lg,p.rF,p.rO,p.rM,p.pq,p.lZ,p.lW,p.yd,p.yX,p.yj,p.yC,p.xJ,p.y7,p.ya] p.b0 b1) 5:Int),(A.n (.int .u32) (A.set [p.lS,p.k6,p.lg,p.rF,p.rO,p.rM,p.pq,p.lZ,p.lW,p.yd,p.yX,p.yj,p.yC,p.xJ,p.y7,p.ya] p.b0 b1) 6:Int),(A.n (.int .u32) (A.set [p.lS,p.k6,p.lg,p.rF,p.rO,p.rM,p.pq,p.lZ,p.lW,p.yd,p.yX,p.yj,p.yC,p.xJ,p.y7,p.ya] p.b0 b1) 7:Int),(A.n (.int .u32) (A.set [p.lS,p.k6,p.lg,p.rF,p.rO,p.rM,p.pq,p.lZ,p.lW,p.yd,p.yX,p.yj,p.yC,p.xJ,p.y7,p.ya] p.b0 b1) 8:Int),(A.n (.int .u32) (A.set [p.lS,p.k6,p.lg,p.rF,p.rO,p.rM,p.pq,p.lZ,p.lW,p.yd,p.yX,p.yj,p.yC,p.xJ,p.y7,p.ya] p.b0 b1) 9:Int),(A.n (.int .u32) (A.set [p.lS,p.k6,p.lg,p.rF,p.rO,p.rM,p.pq,p.lZ,p.lW,p.yd,p.yX,p.yj,p.yC,p.xJ,p.y7,p.ya] p.b0 b1) 10:Int),(A.n (.int .u32) (A.set [p.lS,p.k6,p.lg,p.rF,p.rO,p.rM,p.pq,p.lZ,p.lW,p.yd,p.yX,p.yj,p.yC,p.xJ,p.y7,p.ya] p.b0 b1) 11:Int),(A.n (.int .u32) (A.set [p.lS,p.k6,p.lg,p.rF,p.rO,p.rM,p.pq,p.lZ,p.lW,p.yd,p.yX,p.yj,p.yC,p.xJ,p.y7,p.ya] p.b0 b1) 12:Int),(A.n (.int .u32) (A.set [p.lS,p.k6,p.lg,p.rF,p.rO,p.rM,p.pq,p.lZ,p.lW,p.yd,p.yX,p.yj,p.yC,p.xJ,p.y7,p.ya] p.b0 b1) 13:Int),(A.n (.int .u32) (A.set [p.lS,p.k6,p.lg,p.rF,p.rO,p.rM,p.pq,p.lZ,p.lW,p.yd,p.yX,p.yj,p.yC,p.xJ,p.y7,p.ya] p.b0 b1) 14:Int),(A.n (.int .u32) (A.set [p.lS,p.k6,p.lg,p.rF,p.rO,p.rM,p.pq,p.lZ,p.lW,p.yd,p.yX,p.yj,p.yC,p.xJ,p.y7,p.ya] p.b0 b1) 15:Int)⟩)))
def goT{R Y:Type}(step:Y→LT R Y):Nat→LT R Y→Option R
 | 0,_=>none
 | _+1,.ret r=>some r
 | n+1,.more y=>goT step n (step y)
 | n+1,.br b t e=>bif b then goT step n t else goT step n e
 | n+1,.need b t=>bif b then goT step n t else none
 | _+1,_=>none
theorem Gl{R Y:Type}{step:Y→LT R Y}:∀{n:Nat} {t:LT R Y} {r:R},goT step n t=some r→aB step t r:=by
 intro n
 induction n with
 | zero=>intro t r h;cases h
 | succ n ih=>
  intro t r h
  cases t with
  | ret x=>cases h;exact .ret _
  | more y=>exact .more (ih h)
  | br b t e=>
   rw[goT] at h
   cases b
   ·exact(ah rfl).2 (ih h)
   ·exact(aj rfl).2 (ih h)
  | need b t=>
   rw[goT] at h
   cases b
   ·cases h
   ·exact af.2 ⟨rfl,ih h⟩
  | eqs p t=>cases h
  | bad m s=>cases h
def U9:List Int:=[0,6122955,12245910,15185501,2677479,7714604,9568625,13593786,5354958,841733,15429208,11928467,7958313,2360034,12825791,10410356]
theorem Gd:∀i:Fin 16,U9.getD i.val 0=((y1.getD i.val 0:Nat):Int):=by decide +kernel
theorem D4:∀i:Fin 16,y1.getD i.val 0<16777216:=by decide +kernel
theorem Nw:aB (UC ai) (OD ai) U9:=Gl (n:=400) (by kernel_rfl)
def iz:Unit→(List Int):=fun _=>[0,6122955,12245910,15185501,2677479,7714604,9568625,13593786,5354958,841733,15429208,11928467,7958313,2360034,12825791,10410356]
def NZ:aA:=⟨[], [(.arr 16 (.int .u32))],(@tt Unit),iz⟩
theorem Pk:Sd 265 NZ:=aH ax cm true 21 [⟨265,3, [[0,1,4]]⟩,⟨265,7, [[0,1,2,3,4,10]]⟩] [] (fun A _=>OD A) UC Mv (fc Tryz.func265 fz) (sc Jb sz) (fun A y=>match y with |.c0 p=>⟨34,by kernel_rfl,by kernel_rfl⟩|.c1 p b1 b3=>⟨25,by kernel_rfl,by kernel_rfl⟩) fun _ hp h=>Nw
open Go.Ev.Pl
structure FT where
 (a1:List Bool)
inductive Cw where
 | c0 (p:FT) (a0:Int) (a2:Int)
noncomputable def L4:Cw→fJ
 | .c0 p a0 a2=>⟨[⟨223,29,(en [(0,.int .u32 false a0),(1,.sl .bool p.a1),(5,vi a2)]),[.inLoop (cw Tryz.f223 [1,0,1,0,0]),.inBlock 0,.code (cw Tryz.f223 [1,1])],[],none⟩],[.dead]⟩
def t160(A:aZ)(r:Int)(l:List Bool):LT Int Cw:=.more (.c0 ⟨l⟩ r 0)
def Dl(A:aZ):Cw→LT Int Cw
 | .c0 p a0 a2=>.br (A.c .lss a2 (A.l p.a1)) (.need (A.and (A.c .leq 0 a2) (A.c .lss a2 (A.l p.a1))) (.br (A.not (A.q (A.c .eql (A.b .rem .u32 (A.b .shr .u32 a0 23) 2) 1) (A.n .bool p.a1 a2:Bool))) (.more (.c0 p (A.b .xor .u32 (A.b .rem .u32 (A.b .shl .u32 a0 1) 16777216) 6122955) (A.b .add .i64 a2 1))) (.more (.c0 p (A.b .rem .u32 (A.b .shl .u32 a0 1) 16777216) (A.b .add .i64 a2 1))))) (.ret a0)
theorem Dx{l:List Bool}(hl:l.length≤140737488355328):∀(j i r:Nat) (p:FT),p.a1=l→l.length-i=j→i≤l.length→r<16777216→aB (Dl ai) (.more (.c0 p (r:Int) (i:Int))) ((over r (l.drop i):Nat):Int):=by
 intro j
 induction j with
 | zero=>
  intro i r p h1 hj hi hr
  have:i=l.length:=by omega
  subst this
  simp only[ak,Dl]
  refine(ah (by rw[show ai.l p.a1=(l.length:Int) from by rw[h1];rfl,aJ];simp)).2 ?_
  rw[List.drop_length,lh]
  exact .ret _
 | succ j ih=>
  intro i r p h1 hj hi hr
  have hi':i<l.length:=by omega
  simp only[ak,Dl]
  refine(aj (by rw[show ai.l p.a1=(l.length:Int) from by rw[h1];rfl,aJ];simp;omega)).2 (af.2 ⟨by rw[h1];exact aK hi',?_⟩)
  have hn:(ai.n .bool p.a1 (i:Int):Bool)=l[i]:=by rw[h1];exact getD_in hi' _
  have h4:ai.c .eql (ai.b .rem .u32 (ai.b .shr .u32 (r:Int) 23) 2) 1=decide (8388608≤r):=by
   rw[show ai.b .shr .u32 (r:Int) 23=((r/2^23:Nat):Int) from F4 (n:=23) (by omega) (by decide),y2]
   exact decide_eq_decide.2 (by omega)
  have h2:ai.b .rem .u32 (ai.b .shl .u32 (r:Int) 1) 16777216=((2*r%16777216:Nat):Int):=by
   rw[show ai.b .shl .u32 (r:Int) 1=((r*2^1:Nat):Int) from Av (k:=1) (by decide) (by omega),rN,Int.tmod_eq_emod_of_nonneg (by omega)]
   omega
  have hb:ai.not (ai.q (ai.c .eql (ai.b .rem .u32 (ai.b .shr .u32 (r:Int) 23) 2) 1) (ai.n .bool p.a1 (i:Int):Bool))=(decide (8388608≤r) != l[i]):=by
   rw[h4,hn];rfl
  have hd:over r (l.drop i)=over (step1 r l[i]) (l.drop (i+1)):=by rw[List.drop_eq_getElem_cons hi',ff]
  have hm:=ih (i+1) (step1 r l[i]) p h1 (by omega) (by omega) (lz _ _)
  rw[hd]
  rw[step1] at hm ⊢
  cases hx:(decide (8388608≤r) != l[i])
  ·refine(ah (hb.trans hx)).2 ?_
   rw[hx] at hm
   exact bi (congrArg LT.more (congr (congrArg (Cw.c0 p) h2) (cy (by omega)))) hm
  ·refine(aj (hb.trans hx)).2 ?_
   rw[hx] at hm
   refine bi (congrArg LT.more (congr (congrArg (Cw.c0 p) ?_) (cy (by omega)))) hm
   rw[h2]
   exact yl (b:=6122955) (by omega) (by decide)
theorem EL{r:Int}{l:List Bool}(h:Ty.du [(.int .u32),(.slice .bool)] (r,l)):l.length≤140737488355328:=by
 have h1:(0≤r∧r≤4294967295)∧l.length≤cO∧_:=h
 exact h1.2.1
theorem BD{r:Int}{l:List Bool}(h:Ty.du [(.int .u32),(.slice .bool)] (r,l))(hp:(decide (0≤r)&&decide (r<16777216))=true):aB (Dl ai) (t160 ai r l) ((over r.toNat l:Nat):Int):=by
 rw[Bool.and_eq_true,decide_eq_true_eq,decide_eq_true_eq] at hp
 obtain⟨m,rfl⟩:=Int.eq_ofNat_of_zero_le hp.1
 exact Dx (EL h) l.length 0 m _ rfl (by omega) (by omega) (by omega)
def AI:(Int×List Bool)→Int:=fun(r,l)=>((over r.toNat l:Nat):Int)
def w7:(Int×List Bool)→Bool:=fun(r,_)=>decide (0≤r)&&decide (r<16777216)
def N6:aA:=⟨[(.int .u32),(.slice .bool)], [(.int .u32)],w7,AI⟩
theorem PG:Sd 223 N6:=aH ax cm true 17 [⟨223,2, [[0,1,5]]⟩] [] (fun A (r,l)=>t160 A r l) Dl L4 (fc Tryz.func223 fz) sz (fun A y=>match y with |.c0 p a0 a2=>⟨54,by kernel_rfl,by kernel_rfl⟩) fun((r,l):Int×List Bool) hp h=>BD h hp
structure Ec where
 (a0:List (Int×List Int))
inductive E3 where
 | c0 (p:Ec) (a1:Int) (a2:Int)
noncomputable def LX:E3→fJ
 | .c0 p a1 a2=>⟨[⟨189,26,(en [(0,.sl (.struct [yI,yB]) p.a0),(4,.int .u32 false a1),(5,vi a2)]),[.inLoop (cw Tryz.f189 [1,1,0,1,0,0]),.inBlock 0,.code (cw Tryz.f189 [1,1,1])],[],none⟩],[.dead]⟩
def UL(A:aZ)(l:List (Int×List Int)):LT (Int×Int) E3:=.more (.c0 ⟨l⟩ 0 0)
def DK(A:aZ):E3→LT (Int×Int) E3
 | .c0 p a1 a2=>.br (A.c .lss a2 (A.l p.a0)) (.need (A.and (A.c .leq 0 a2) (A.c .lss a2 (A.l p.a0))) (.need (A.k (@tt ((Int×List Int))) (A.n (.struct [yI,yB]) p.a0 a2:Int×List Int)) (.br (A.c .neq (A.k jq (A.n (.struct [yI,yB]) p.a0 a2:Int×List Int)) 0) (.ret (0,10)) (.need (A.and (A.c .leq 0 a2) (A.c .lss a2 (A.l p.a0))) (.need (A.k (@tt ((Int×List Int))) (A.n (.struct [yI,yB]) p.a0 a2:Int×List Int)) (.need (A.k w7 (a1,(A.k jH (A.n (.struct [yI,yB]) p.a0 a2:Int×List Int)))) (.more (.c0 p (A.k AI (a1,(A.k jH (A.n (.struct [yI,yB]) p.a0 a2:Int×List Int)))) (A.b .add .i64 a2 1))))))))) (.ret (a1,0))
theorem zR{r:Nat}(h:r<16777216)(l:List Bool):ai.k w7 ((r:Int),l)=true:=by
 rw[ap,w7,Bool.and_eq_true,decide_eq_true_eq,decide_eq_true_eq]
 omega
theorem IC{l:List (Int×List Int)}(hl:l.length≤140737488355328):∀(j i:Nat) (p:Ec),p.a0=l→l.length-i=j→i≤l.length→(∀x∈l.take i,bD x=true)→aB (DK ai) (.more (.c0 p ((over 0 ((l.take i).flatMap bG):Nat):Int) (i:Int))) (rq l):=by
 intro j
 induction j with
 | zero=>
  intro i p h1 hj hi hok
  have:i=l.length:=by omega
  subst this
  rw[List.take_length] at hok ⊢
  simp only[ak,DK]
  refine(ah (by rw[show ai.l p.a0=(l.length:Int) from by rw[h1];rfl,aJ];simp)).2 ?_
  rw[rq,List.all_eq_true.2 hok]
  exact .ret _
 | succ j ih=>
  intro i p h1 hj hi hok
  simp only[ak,DK]
  have hi':i<l.length:=by omega
  refine(aj (by rw[show ai.l p.a0=(l.length:Int) from by rw[h1];rfl,aJ];simp;omega)).2 (af.2 ⟨by rw[h1];exact aK hi',af.2 ⟨rfl,?_⟩⟩)
  have hn1:(ai.n (.struct [(.int .i64),(.slice (.int .u8))]) p.a0 (i:Int):Int×List Int)=l[i]:=by rw[h1,mf hi']
  rw[hn1]
  have hn:(ai.k jq l[i])=bif bD l[i] then 0 else 10:=by rw[ap,jq]
  rw[hn]
  cases hx:bD l[i]
  ·refine(aj rfl).2 ?_
   rw[rq,show l.all bD=false from List.all_eq_false.2 ⟨l[i],List.getElem_mem hi',by rw[hx];decide⟩]
   exact .ret _
  ·refine(ah rfl).2 ?_
   have hL:(ai.k jH l[i])=bG l[i]:=by rw[ap,jH,hx];rfl
   have hlt:=gn (r:=0) (by decide) ((l.take i).flatMap bG)
   have hc:ai.k AI (((over 0 ((l.take i).flatMap bG):Nat):Int),bG l[i])=((over 0 ((l.take (i+1)).flatMap bG):Nat):Int):=by
    rw[ap,AI,Int.toNat_natCast,u_ hi',fA]
   rw[hL]
   refine af.2 ⟨by rw[h1];exact aK hi',af.2 ⟨rfl,af.2 ⟨?_,?_⟩⟩⟩
   ·exact zR hlt _
   ·refine bi (congrArg LT.more (congr (congrArg (E3.c0 p) hc) (cy (by omega)))) (ih (i+1) p h1 (by omega) (by omega) ?_)
    intro x hx2
    rw[List.take_succ_eq_append_getElem hi'] at hx2
    rcases List.mem_append.1 hx2 with h3|h3
    ·exact hok x h3
    ·rw[List.mem_singleton.1 h3];exact hx
def kR:(List (Int×List Int))→(Int×Int):=rq
def N2:aA:=⟨[(.slice (.struct [yI,yB]))], [(.int .u32),yI],(@tt (List (Int×List Int))),kR⟩
theorem Vz:Sd 189 N2:=aH ax cm true 22 [⟨189,3, [[0,4,5]]⟩] [] (fun A l=>UL A l) DK LX (fc Tryz.func189 fz) (sc GI (sc Jh (sc PG sz))) (fun A y=>match y with |.c0 p a1 a2=>⟨46,by kernel_rfl,by kernel_rfl⟩) fun(l:List (Int×List Int)) hp h=>by
 show aB (DK ai) (UL ai l) (kR l)
 exact IC (oE h).1 l.length 0 _ rfl (by omega) (by omega) (by intro x hx;cases hx)
open Go.Ev.Pl
structure sD where
 (a0:Int) (a1:List (Int×List Int)) (a2 a3 a4 a5 a6 a7 a8 a9 bW dM a12 nC j6 rB a16 a17 rI kX:Int)
structure Ah where
 (b2:List (Int×List Int)) (b3 b4 b5 b6 b7 b8 b9 b10 b11 b12 b13 xW zk uE Bl BQ ki lS k6:Int) (lg:List Int)
structure zP where
 (c2:List (Int×List Int)) (c3 c4 c5:Int) (c6:List Int) (c7 c8 c9 c10 c11 c12 c13 c14 kZ c16 JF Jd c19 c20 c21 N0:Int)
inductive B6 where
 | c0 (p:sD)
 | c1 (p:Ah) (b0:Int) (b1:Int)
 | c2 (p:zP) (c0:Int) (c1:Int)
noncomputable def K_:B6→fJ
 | .c0 p=>⟨[⟨260,26,(en [(4,.ptr 0 0),(5,.int .u32 false p.a0),(10,.sl (.struct [yI,yB]) p.a1),(11,vi p.a2),(12,vi p.a3)]),[.inLoop (cw Tryz.f260 [1,1,1,0,1,0,0]),.inBlock 0,.code (cw Tryz.f260 [1,1,1,1])],[],none⟩],[.flat false [.int .u32 false p.a4,.int .u32 false p.a5,.int .u32 false p.a6,.int .u32 false p.a7,.int .u32 false p.a8,.int .u32 false p.a9,.int .u32 false p.bW,.int .u32 false p.dM,.int .u32 false p.a12,.int .u32 false p.nC,.int .u32 false p.j6,.int .u32 false p.rB,.int .u32 false p.a16,.int .u32 false p.a17,.int .u32 false p.rI,.int .u32 false p.kX],.dead]⟩
 | .c1 p b0 b1=>⟨[⟨266,57,(en [(0,.int .u32 false b0),(2,.ptr 0 0),(4,.ptr 1 0),(7,vi b1)]),[.inLoop (cw Tryz.f266 [1,1,0,0,0]),.inBlock 0,.code (cw Tryz.f266 [1,1,1])],[],none⟩,⟨260,26,(en [(4,.ptr 0 0),(10,.sl (.struct [yI,yB]) p.b2),(11,vi p.b3),(12,vi p.b4)]),[.ops (ow Tryz.f260 [1,1,1,0,1,0,0,1,1,0,0,1,1]) ((ow Tryz.f260 [1,1,1,0,1,0,0,1,1,0,0,1,1]).toList.drop 2),.inBlock 1,.code (cw Tryz.f260 [1,1,1,0,1,0,0,1,1,1]),.inLoop (cw Tryz.f260 [1,1,1,0,1,0,0]),.inBlock 0,.code (cw Tryz.f260 [1,1,1,1])],[],none⟩],[.flat false [.int .u32 false p.b5,.int .u32 false p.b6,.int .u32 false p.b7,.int .u32 false p.b8,.int .u32 false p.b9,.int .u32 false p.b10,.int .u32 false p.b11,.int .u32 false p.b12,.int .u32 false p.b13,.int .u32 false p.xW,.int .u32 false p.zk,.int .u32 false p.uE,.int .u32 false p.Bl,.int .u32 false p.BQ,.int .u32 false p.ki,.int .u32 false p.lS],.flat false [vi p.k6,.sl yU p.lg],.dead]⟩
 | .c2 p c0 c1=>⟨[⟨266,57,(en [(0,.int .u32 false c0),(4,.ptr 0 0),(7,vi c1)]),[.inLoop (cw Tryz.f266 [1,1,1,0,0,0]),.inBlock 2,.code (cw Tryz.f266 [1,1,1,1])],[],none⟩,⟨260,26,(en [(4,.ptr 1 0),(10,.sl (.struct [yI,yB]) p.c2),(11,vi p.c3),(12,vi p.c4)]),[.ops (ow Tryz.f260 [1,1,1,0,1,0,0,1,1,0,0,1,1]) ((ow Tryz.f260 [1,1,1,0,1,0,0,1,1,0,0,1,1]).toList.drop 2),.inBlock 1,.code (cw Tryz.f260 [1,1,1,0,1,0,0,1,1,1]),.inLoop (cw Tryz.f260 [1,1,1,0,1,0,0]),.inBlock 0,.code (cw Tryz.f260 [1,1,1,1])],[],none⟩],[.flat false [vi p.c5,.sl yU p.c6],.flat false [.int .u32 false p.c7,.int .u32 false p.c8,.int .u32 false p.c9,.int .u32 false p.c10,.int .u32 false p.c11,.int .u32 false p.c12,.int .u32 false p.c13,.int .u32 false p.c14,.int .u32 false p.kZ,.int .u32 false p.c16,.int .u32 false p.JF,.int .u32 false p.Jd,.int .u32 false p.c19,.int .u32 false p.c20,.int .u32 false p.c21,.int .u32 false p.N0],.dead]⟩
def LW(A:aZ)(l:List (Int×List Int)):LT (Int×Int) B6:=.need (A.k (@tt Unit) ()) (.more (.c0 ⟨0,l,(A.l l),0,(A.n (.int .u32) (A.k iz ()) 0:Int),(A.n (.int .u32) (A.k iz ()) 1:Int),(A.n (.int .u32) (A.k iz ()) 2:Int),(A.n (.int .u32) (A.k iz ()) 3:Int),(A.n (.int .u32) (A.k iz ()) 4:Int),(A.n (.int .u32) (A.k iz ()) 5:Int),(A.n (.int .u32) (A.k iz ()) 6:Int),(A.n (.int .u32) (A.k iz ()) 7:Int),(A.n (.int .u32) (A.k iz ()) 8:Int),(A.n (.int .u32) (A.k iz ()) 9:Int),(A.n (.int .u32) (A.k iz ()) 10:Int),(A.n (.int .u32) (A.k iz ()) 11:Int),(A.n (.int .u32) (A.k iz ()) 12:Int),(A.n (.int .u32) (A.k iz ()) 13:Int),(A.n (.int .u32) (A.k iz ()) 14:Int),(A.n (.int .u32) (A.k iz ()) 15:Int)⟩))
def pJ(A:aZ):B6→LT (Int×Int) B6
 | .c0 p=>.br (A.c .lss p.a3 p.a2) (.need (A.and (A.c .leq 0 p.a3) (A.c .lss p.a3 (A.l p.a1))) (.need (A.k (@tt ((Int×List Int))) (A.n (.struct [yI,yB]) p.a1 p.a3:Int×List Int)) (.br (A.c .neq (A.k iW (A.n (.struct [yI,yB]) p.a1 p.a3:Int×List Int)) 0) (.ret (0,(A.k iW (A.n (.struct [yI,yB]) p.a1 p.a3:Int×List Int)))) (.more (.c1 ⟨p.a1,p.a2,p.a3,p.a4,p.a5,p.a6,p.a7,p.a8,p.a9,p.bW,p.dM,p.a12,p.nC,p.j6,p.rB,p.a16,p.a17,p.rI,p.kX,(A.n (.struct [yI,yB]) p.a1 p.a3:Int×List Int).1,(A.n (.struct [yI,yB]) p.a1 p.a3:Int×List Int).2⟩ p.a0 0))))) (.ret (p.a0,0))
 | .c1 p b0 b1=>.br (A.c .leq (A.b .add .i64 b1 4) p.k6) (.need (A.k (@tt ((Int×List Int)×Int×Int)) ((p.k6,p.lg),b1,4)) (.need (A.and (A.c .leq 0 (A.b .xor .u32 (A.b .shr .u32 b0 20) (A.v .u32 (A.k ay ((p.k6,p.lg),b1,4)).1))) (A.c .lss (A.b .xor .u32 (A.b .shr .u32 b0 20) (A.v .u32 (A.k ay ((p.k6,p.lg),b1,4)).1)) 16)) (.more (.c1 p (A.b .xor .u32 (A.b .and .u32 (A.b .shl .u32 b0 4) 16777215) (A.n (.int .u32) [p.b5,p.b6,p.b7,p.b8,p.b9,p.b10,p.b11,p.b12,p.b13,p.xW,p.zk,p.uE,p.Bl,p.BQ,p.ki,p.lS] (A.b .xor .u32 (A.b .shr .u32 b0 20) (A.v .u32 (A.k ay ((p.k6,p.lg),b1,4)).1)):Int)) (A.b .add .i64 b1 4))))) (.more (.c2 ⟨p.b2,p.b3,p.b4,p.k6,p.lg,p.b5,p.b6,p.b7,p.b8,p.b9,p.b10,p.b11,p.b12,p.b13,p.xW,p.zk,p.uE,p.Bl,p.BQ,p.ki,p.lS⟩ b0 b1))
 | .c2 p c0 c1=>.br (A.c .lss c1 p.c5) (.need (A.k (@tt ((Int×List Int)×Int×Int)) ((p.c5,p.c6),c1,1)) (.need (A.k (@tt Int) (A.b .xor .u32 c0 (A.b .shl .u32 (A.v .u32 (A.k ay ((p.c5,p.c6),c1,1)).1) 23))) (.more (.c2 p (A.k vk (A.b .xor .u32 c0 (A.b .shl .u32 (A.v .u32 (A.k ay ((p.c5,p.c6),c1,1)).1) 23))) (A.b .add .i64 c1 1))))) (.more (.c0 ⟨c0,p.c2,p.c3,(A.b .add .i64 p.c4 1),p.c7,p.c8,p.c9,p.c10,p.c11,p.c12,p.c13,p.c14,p.kZ,p.c16,p.JF,p.Jd,p.c19,p.c20,p.c21,p.N0⟩))
theorem zK{α β γ:Type}(f:α→β→γ){a a':α}{b b':β}(h1:a=a')(h2:b=b'):f a b=f a' b':=by rw[h1,h2]
def XQ(p:sD):Prop:=p.a4=0∧p.a5=6122955∧p.a6=12245910∧p.a7=15185501∧p.a8=2677479∧p.a9=7714604∧p.bW=9568625∧p.dM=13593786∧p.a12=5354958∧p.nC=841733∧p.j6=15429208∧p.rB=11928467∧p.a16=7958313∧p.a17=2360034∧p.rI=12825791∧p.kX=10410356
def YZ(p:Ah):Prop:=p.b5=0∧p.b6=6122955∧p.b7=12245910∧p.b8=15185501∧p.b9=2677479∧p.b10=7714604∧p.b11=9568625∧p.b12=13593786∧p.b13=5354958∧p.xW=841733∧p.zk=15429208∧p.uE=11928467∧p.Bl=7958313∧p.BQ=2360034∧p.ki=12825791∧p.lS=10410356
def Y1(p:zP):Prop:=p.c7=0∧p.c8=6122955∧p.c9=12245910∧p.c10=15185501∧p.c11=2677479∧p.c12=7714604∧p.c13=9568625∧p.c14=13593786∧p.kZ=5354958∧p.c16=841733∧p.JF=15429208∧p.Jd=11928467∧p.c19=7958313∧p.c20=2360034∧p.c21=12825791∧p.N0=10410356
theorem jh{n a w:Nat}{b:List Int}(hok:bD ((n:Int),b)=true)(h:a+w≤n)(hw:w≤64)(hn:n≤4096):ai.k ay (((n:Int),b),(a:Int),(w:Int))=(((bq (unpack n b) a w:Nat):Int),0):=by
 rw[ap,ay,Cz]
 simp only[hok,Bool.not_true,cond_false]
 rw[show decide ((w:Int)<0)=false from by simp,show decide (64<(w:Int))=false from by simp;omega,show decide ((a:Int)<0)=false from by simp,show decide ((n:Int)<(a:Int)+(w:Int))=false from by simp;omega]
 rfl
theorem zg{l:List Bool}{a w:Nat}(h:a+w≤l.length):l.take (a+w)=l.take a++bitsOf (bq l a w) w:=by
 rw[sZ h,List.take_add]
theorem Eb{n:Nat}(h:n<4294967296):ai.v .u32 (n:Int)=(n:Int):=by rw[bu,Io (by omega) (by omega)]
theorem KZ{l:List (Int×List Int)}{i n:Nat}{b:List Int}{R:Int×Int}{r0:Nat}(hr0:r0<16777216)(hok:bD ((n:Int),b)=true)(hn:n≤4096)(hll:l.length≤140737488355328)(hi:i<l.length)
  (hnext:∀(p:sD),XQ p→p.a1=l→p.a2=(l.length:Int)→p.a3=((i+1:Nat):Int)→p.a0=((over r0 (unpack n b):Nat):Int)→aB (pJ ai) (.more (.c0 p)) R) :
  ∀(j k:Nat) (p:zP),Y1 p→p.c2=l→p.c3=(l.length:Int)→p.c4=(i:Int)→p.c5=(n:Int)→p.c6=b→n-k=j→k≤n→aB (pJ ai) (.more (.c2 p ((over r0 ((unpack n b).take k):Nat):Int) (k:Int))) R:=by
 intro j
 induction j with
 | zero=>
  intro k p ht h2 h3 h4 h5 h6 hj hk
  have:k=n:=by omega
  subst this
  simp only[ak,pJ]
  refine(ah (by rw[h5,aJ];simp)).2 ?_
  rw[List.take_of_length_le (by rw[aX];exact Nat.le_refl _)]
  exact hnext _ ht h2 h3 (by show ai.b .add .i64 p.c4 1=_;rw[h4,cy (by omega)]) rfl
 | succ j ih=>
  intro k p ht h2 h3 h4 h5 h6 hj hk
  simp only[ak,pJ]
  have hg:ai.k ay ((p.c5,p.c6),(k:Int),1)=(((bq (unpack n b) k 1:Nat):Int),0):=by
   rw[h5,h6];exact jh hok (w:=1) (by omega) (by decide) hn
  have hlt:=gn hr0 ((unpack n b).take k)
  have hf:=dR (unpack n b) k 1
  have hts:=zg (l:=unpack n b) (a:=k) (w:=1) (by rw[aX];omega)
  obtain⟨x,hx⟩:∃x:Bool,bq (unpack n b) k 1=x.toNat:=by
   by_cases h0:bq (unpack n b) k 1=0
   ·exact⟨false,h0⟩
   ·exact⟨true,by rw[show true.toNat=1 from rfl];omega⟩
  have hbx:bitsOf x.toNat 1=[x]:=by cases x<;>rfl
  rw[hx,hbx] at hts
  have hsh:ai.b .xor .u32 ((over r0 ((unpack n b).take k):Nat):Int) (ai.b .shl .u32 (ai.v .u32 (ai.k ay ((p.c5,p.c6),(k:Int),1)).1) 23)=((over r0 ((unpack n b).take k) ^^^ (x.toNat*8388608):Nat):Int):=by
   rw[hg,hx,Eb (by cases x<;>decide),show ai.b .shl .u32 ((x.toNat:Nat):Int) 23=((x.toNat*2^23:Nat):Int) from Av (k:=23) (by decide) (by cases x<;>decide)]
   exact yl (by omega) (by cases x<;>decide)
  have hxl:over r0 ((unpack n b).take k) ^^^ (x.toNat*8388608)<16777216:=Nat.xor_lt_two_pow (n:=24) hlt (by cases x<;>decide)
  have hc:ai.k vk (ai.b .xor .u32 ((over r0 ((unpack n b).take k):Nat):Int) (ai.b .shl .u32 (ai.v .u32 (ai.k ay ((p.c5,p.c6),(k:Int),1)).1) 23))=((over r0 ((unpack n b).take (k+1)):Nat):Int):=by
   rw[hsh,ap,Fs hxl,EO hlt,hts,fA,ff,lh]
  refine(aj (by rw[h5,aJ];simp;omega)).2 (af.2 ⟨rfl,af.2 ⟨rfl,?_⟩⟩)
  exact bi (congrArg LT.more (congr (congrArg (B6.c2 p) hc) (cy (by omega)))) (ih (k+1) p ht h2 h3 h4 h5 h6 (by omega) (by omega))
theorem Mp{l:List (Int×List Int)}{i n:Nat}{b:List Int}{R:Int×Int}{r0:Nat}(hr0:r0<16777216)(hok:bD ((n:Int),b)=true)(hn:n≤4096)(hll:l.length≤140737488355328)(hi:i<l.length)
  (hnext:∀(p:sD),XQ p→p.a1=l→p.a2=(l.length:Int)→p.a3=((i+1:Nat):Int)→p.a0=((over r0 (unpack n b):Nat):Int)→aB (pJ ai) (.more (.c0 p)) R) :
  ∀(j k:Nat) (p:Ah),YZ p→p.b2=l→p.b3=(l.length:Int)→p.b4=(i:Int)→p.k6=(n:Int)→p.lg=b→(n-k)/4=j→k≤n→aB (pJ ai) (.more (.c1 p ((over r0 ((unpack n b).take k):Nat):Int) (k:Int))) R:=by
 intro j
 induction j with
 | zero=>
  intro k p ht h2 h3 h4 h5 h6 hj hk
  simp only[ak,pJ]
  refine(ah (by rw[show ai.b .add .i64 (k:Int) 4=((k+4:Nat):Int) from fu (j:=4) (by omega),h5,iU];simp;omega)).2 ?_
  exact KZ hr0 hok hn hll hi hnext (n-k) k _ ht h2 h3 h4 h5 h6 rfl hk
 | succ j ih=>
  intro k p ht h2 h3 h4 h5 h6 hj hk
  simp only[ak,pJ]
  have hg:ai.k ay ((p.k6,p.lg),(k:Int),4)=(((bq (unpack n b) k 4:Nat):Int),0):=by
   rw[h5,h6];exact jh hok (w:=4) (by omega) (by decide) hn
  have hlt:=gn hr0 ((unpack n b).take k)
  have hf:=dR (unpack n b) k 4
  have hts:=zg (l:=unpack n b) (a:=k) (w:=4) (by rw[aX];omega)
  have h4o:=Cn hlt (l:=bitsOf (bq (unpack n b) k 4) 4) (aC _ _)
  rw[xk,Nat.mod_eq_of_lt hf,←fA,←hts] at h4o
  generalize hr:over r0 ((unpack n b).take k)=r at *
  generalize hv:bq (unpack n b) k 4=v at *
  have hix:ai.b .xor .u32 (ai.b .shr .u32 (r:Int) 20) (ai.v .u32 (ai.k ay ((p.k6,p.lg),(k:Int),4)).1)=((r/1048576 ^^^ v:Nat):Int):=by
   rw[hg,Eb (by omega),show ai.b .shr .u32 (r:Int) 20=((r/2^20:Nat):Int) from F4 (n:=20) (by omega) (by decide)]
   exact yl (by omega) (by omega)
  have hxl:r/1048576 ^^^ v<16:=CQ ⟨r/1048576,by omega⟩ ⟨v,by omega⟩
  have htab:(ai.n (.int .u32) [p.b5,p.b6,p.b7,p.b8,p.b9,p.b10,p.b11,p.b12,p.b13,p.xW,p.zk,p.uE,p.Bl,p.BQ,p.ki,p.lS] (((r/1048576 ^^^ v:Nat):Int)):Int)=((y1.getD (r/1048576 ^^^ v) 0:Nat):Int):=by
   rw[←Gd ⟨r/1048576 ^^^ v,hxl⟩]
   obtain⟨t0,t1,t2,t3,t4,t5,t6,t7,t8,t9,t10,t11,t12,t13,t14,t15⟩:=ht
   show List.getD [p.b5,p.b6,p.b7,p.b8,p.b9,p.b10,p.b11,p.b12,p.b13,p.xW,p.zk,p.uE,p.Bl,p.BQ,p.ki,p.lS] ((r/1048576 ^^^ v:Nat):Int).toNat 0=_
   rw[Int.toNat_natCast,t0,t1,t2,t3,t4,t5,t6,t7,t8,t9,t10,t11,t12,t13,t14,t15];rfl
  have hc:ai.b .xor .u32 (ai.b .and .u32 (ai.b .shl .u32 (r:Int) 4) 16777215) (ai.n (.int .u32) [p.b5,p.b6,p.b7,p.b8,p.b9,p.b10,p.b11,p.b12,p.b13,p.xW,p.zk,p.uE,p.Bl,p.BQ,p.ki,p.lS] (ai.b .xor .u32 (ai.b .shr .u32 (r:Int) 20) (ai.v .u32 (ai.k ay ((p.k6,p.lg),(k:Int),4)).1)):Int)=((over r0 ((unpack n b).take (k+4)):Nat):Int):=by
   rw[hix]
   have e1:ai.b .and .u32 (ai.b .shl .u32 (r:Int) 4) 16777215=((16*r%16777216:Nat):Int):=by
    rw[show ai.b .shl .u32 (r:Int) 4=((r*2^4:Nat):Int) from Av (k:=4) (by decide) (by omega),JN (by omega),Nat.mul_comm]
   refine(zK (ai.b .xor .u32) e1 htab).trans ?_
   rw[h4o]
   exact yl (by omega) (by have:=D4 ⟨_,hxl⟩;simp only at this;omega)
  refine(aj (by rw[show ai.b .add .i64 (k:Int) 4=((k+4:Nat):Int) from fu (j:=4) (by omega),h5,iU];simp;omega)).2 (af.2 ⟨rfl,af.2 ⟨?_,?_⟩⟩)
  ·rw[hix,gj,aU,ar];simp;omega
  ·have:=ih (k+4) p ht h2 h3 h4 h5 h6 (by omega) (by omega)
   exact bi (congrArg LT.more (congr (congrArg (B6.c1 p) hc) (show ai.b .add .i64 (k:Int) 4=((k+4:Nat):Int) from fu (j:=4) (by omega)))) this
theorem NK{l:List (Int×List Int)}(hll:l.length≤140737488355328)(hby:∀x∈l,bI x.2∧x.2.length≤140737488355328):∀(j i:Nat) (p:sD),XQ p→p.a1=l→p.a2=(l.length:Int)→p.a3=(i:Int)→p.a0=((over 0 ((l.take i).flatMap bG):Nat):Int)→l.length-i=j→i≤l.length→(∀x∈l.take i,bD x=true)→aB (pJ ai) (.more (.c0 p)) (rq l):=by
 intro j
 induction j with
 | zero=>
  intro i p ht h1 h2 h3 h0 hj hi hok
  have:i=l.length:=by omega
  subst this
  rw[List.take_length] at hok h0
  simp only[ak,pJ]
  refine(ah (by rw[h2,h3,aJ];simp)).2 ?_
  rw[rq,List.all_eq_true.2 hok,h0]
  exact .ret _
 | succ j ih=>
  intro i p ht h1 h2 h3 h0 hj hi hok
  have hi':i<l.length:=by omega
  have hmem:=List.getElem_mem hi'
  simp only[ak,pJ]
  rw[h3]
  refine(aj (by rw[h2,aJ];simp;omega)).2 (af.2 ⟨by rw[h1];exact aK hi',af.2 ⟨rfl,?_⟩⟩)
  obtain⟨n0,b,hx⟩:∃n0 b,l[i]=(n0,b):=⟨_,_,rfl⟩
  have hby':=hby _ hmem
  rw[hx] at hby'
  have hn1:(ai.n (.struct [(.int .i64),(.slice (.int .u8))]) p.a1 (i:Int):Int×List Int)=(n0,b):=by rw[h1,mf hi',hx]
  rw[hn1]
  have hc:ai.k iW (n0,b)=bif bD (n0,b) then 0 else 10:=jJ hby'.1 hby'.2
  rw[hc]
  cases hb:bD (n0,b)
  ·refine(aj rfl).2 ?_
   rw[rq,show l.all bD=false from List.all_eq_false.2 ⟨l[i],hmem,by rw[hx,hb];decide⟩]
   exact .ret _
  ·refine(ah rfl).2 ?_
   obtain⟨h4,h5,h6⟩:=(fS hby'.1).1 hb
   obtain⟨n,rfl⟩:=Int.eq_ofNat_of_zero_le h4
   have hlt:=gn (r:=0) (by decide) ((l.take i).flatMap bG)
   have hm:=Mp hlt hb (by omega) hll hi' (R:=rq l) (fun p' g1 g2 g3 g4 g5=>ih (i+1) p' g1 g2 g3 g4 (by rw[g5,u_ hi',fA,hx];rfl) (by omega) (by omega) (by
    intro x hx2
    rw[List.take_succ_eq_append_getElem hi'] at hx2
    rcases List.mem_append.1 hx2 with h7|h7
    ·exact hok x h7
    ·rw[List.mem_singleton.1 h7,hx];exact hb)) (n/4) 0 ⟨p.a1,p.a2,(i:Int),p.a4,p.a5,p.a6,p.a7,p.a8,p.a9,p.bW,p.dM,p.a12,p.nC,p.j6,p.rB,p.a16,p.a17,p.rI,p.kX,(n:Int),b⟩ ht h1 h2 rfl rfl rfl (by omega) (by omega)
   rw[List.take_zero,lh,←h0] at hm
   exact hm
theorem X2{l:List (Int×List Int)}(h:Ty.du [(.slice (.struct [(.int .i64),(.slice (.int .u8))]))] l):aB (pJ ai) (LW ai l) (rq l):=by
 unfold LW
 refine af.2 ⟨rfl,?_⟩
 exact NK (oE h).1 (oE h).2 l.length 0 _ ⟨rfl,rfl,rfl,rfl,rfl,rfl,rfl,rfl,rfl,rfl,rfl,rfl,rfl,rfl,rfl,rfl⟩ rfl rfl rfl rfl (by omega) (by omega) (by intro x hx;cases hx)
def qy:(List (Int×List Int))→(Int×Int):=rq
def Pw:aA:=⟨[(.slice (.struct [yI,yB]))], [(.int .u32),yI],(@tt (List (Int×List Int))),qy⟩
theorem P9:Sd 260 Pw:=aH ax cm true 30 [⟨260,4, [[4,5,10,11,12]]⟩,⟨266,2, [[0,2,4,7], [4,10,11,12]]⟩,⟨266,6, [[0,4,7], [4,10,11,12]]⟩] [] (fun A l=>LW A l) pJ K_ (fc Tryz.func260 (fc Tryz.func266 fz)) (sc zW (sc Bn (sc Pk (sc Jb sz)))) (fun A y=>match y with |.c0 p=>⟨52,by kernel_rfl,by kernel_rfl⟩|.c1 p b0 b1=>⟨52,by kernel_rfl,by kernel_rfl⟩|.c2 p c0 c1=>⟨44,by kernel_rfl,by kernel_rfl⟩) fun l hp h=>X2 h
open Go.Ev.Pl
def t139(A:aZ)(bN:Int)(bB:List Int)(unsentN:Int)(unsentB:List Int):LT ((Int×List Int)×Int) Empty:=.need (A.k (@tt ((Int×List Int))) (bN,bB)) (.br (A.c .neq (A.k iW (bN,bB)) 0) (.ret ((0,([]:List Int)),10)) (.need (A.k (@tt ((Int×List Int))) (unsentN,unsentB)) (.br (A.c .neq (A.k iW (unsentN,unsentB)) 0) (.ret ((0,([]:List Int)),10)) (.br (A.c .lss bN 24) (.ret ((0,([]:List Int)),20)) (.need (A.k (@tt ((Int×List Int)×Int×Int)) ((bN,bB),0,(A.b .sub .i64 bN 24))) (.need (A.k (@tt ((Int×List Int)×Int×Int)) ((bN,bB),(A.k bU ((bN,bB),0,(A.b .sub .i64 bN 24))).1.1,24)) (.need (A.k (@tt (List (Int×List Int))) [(unsentN,unsentB),(A.k bU ((bN,bB),0,(A.b .sub .i64 bN 24))).1]) (.br (A.c .neq (A.k qy [(unsentN,unsentB),(A.k bU ((bN,bB),0,(A.b .sub .i64 bN 24))).1]).2 0) (.ret ((0,([]:List Int)),(A.k qy [(unsentN,unsentB),(A.k bU ((bN,bB),0,(A.b .sub .i64 bN 24))).1]).2)) (.br (A.c .neq (A.v .u64 (A.k qy [(unsentN,unsentB),(A.k bU ((bN,bB),0,(A.b .sub .i64 bN 24))).1]).1) (A.k ay ((bN,bB),(A.k bU ((bN,bB),0,(A.b .sub .i64 bN 24))).1.1,24)).1) (.ret ((0,([]:List Int)),21)) (.ret ((A.k bU ((bN,bB),0,(A.b .sub .i64 bN 24))).1,0)))))))))))
theorem Im{n m:Int}{b u:List Int}(h:Ty.du [(.struct [(.int .i64),(.slice (.int .u8))]),(.struct [(.int .i64),(.slice (.int .u8))])] ((n,b),(m,u))):aB Empty.elim (t139 ai n b m u) (dd ((n,b),(m,u))):=by
 have h1:Ty.has (.struct [(.int .i64),(.slice (.int .u8))]) (n,b):=h.1
 have h2:Ty.has (.struct [(.int .i64),(.slice (.int .u8))]) (m,u):=h.2
 have hb:=(dU h1).2.2
 have hl:=dy h1
 have hbu:=(dU h2).2.2
 have hlu:=dy h2
 unfold t139
 rw[dd]
 have hc1:ai.c .neq (ai.k iW (n,b)) 0=!bD (n,b):=by rw[ap,jJ hb hl];cases bD (n,b)<;>rfl
 have hc2:ai.c .neq (ai.k iW (m,u)) 0=!bD (m,u):=by rw[ap,jJ hbu hlu];cases bD (m,u)<;>rfl
 refine af.2 ⟨rfl,?_⟩
 rw[hc1]
 cases ho1:bD (n,b)
 ·exact(aj rfl).2 (.ret _)
 refine(ah rfl).2 (af.2 ⟨rfl,?_⟩)
 rw[hc2]
 cases ho2:bD (m,u)
 ·exact(aj rfl).2 (.ret _)
 refine(ah rfl).2 ?_
 obtain⟨h3,h4,h5⟩:=(fS hb).1 ho1
 obtain⟨k,rfl⟩:=Int.eq_ofNat_of_zero_le h3
 by_cases h6:(k:Int)<24
 ·refine(aj (by rw[ar];simp;omega)).2 ?_
  show aB _ _ (bif decide ((k:Int)<24) then(zB,20) else _)
  rw[show decide ((k:Int)<24)=true from by simpa using h6]
  exact .ret _
 refine(ah (by rw[ar];simp;omega)).2 ?_
 show aB _ _ (bif decide ((k:Int)<24) then(zB,20) else _)
 rw[show decide ((k:Int)<24)=false from by simpa using h6,cond_false]
 have hkl:(bG ((k:Int),b)).length=k:=by rw[gb];rfl
 have hsub:ai.b .sub .i64 (k:Int) 24=((k-24:Nat):Int):=kg (j:=24) (by omega) (by omega)
 have hfl:((bG ((k:Int),b)).take (k-24)).length=k-24:=by rw[List.length_take,hkl];omega
 have hslice:ai.k bU (((k:Int),b),0,ai.b .sub .i64 (k:Int) 24)=(bO ((bG ((k:Int),b)).take (k-24)),0):=by
  rw[hsub,ap,bU,bX]
  simp only[ho1,Bool.not_true,cond_false]
  rw[show decide (((k-24:Nat):Int)<0)=false from by simp,show decide ((k:Int)<((k-24:Nat):Int))=false from by simp<;>omega]
  rfl
 have hP1:(bO ((bG ((k:Int),b)).take (k-24))).1=((k-24:Nat):Int):=by show(((bG ((k:Int),b)).take (k-24)).length:Int)=_;rw[hfl]
 have hget:ai.k ay (((k:Int),b),((k-24:Nat):Int),24)=(((bq (bG ((k:Int),b)) (k-24) 24:Nat):Int),0):=by
  rw[ap,ay,Cz]
  simp only[ho1,Bool.not_true,cond_false]
  rw[show decide (((k-24:Nat):Int)<0)=false from by simp,show decide ((k:Int)<((k-24:Nat):Int)+24)=false from by simp<;>omega]
  rfl
 have hsum:ai.k qy [(m,u),bO ((bG ((k:Int),b)).take (k-24))]=(((over (over 0 (bG (m,u))) ((bG ((k:Int),b)).take (k-24)):Nat):Int),0):=by
  rw[ap,qy,rq]
  show(bif (bD (m,u)&&(bD (bO ((bG ((k:Int),b)).take (k-24)))&&true)) then(((over 0 (bG (m,u)++(bG (bO ((bG ((k:Int),b)).take (k-24))) ++ [])):Nat):Int),(0:Int)) else(0,10))=_
  rw[ho2,gP (by rw[hfl];omega),fX,List.append_nil,fA]
  rfl
 have hu:=gn (r:=0) (by decide) (bG (m,u))
 have hlt:=gn hu ((bG ((k:Int),b)).take (k-24))
 have hfd:=dR (bG ((k:Int),b)) (k-24) 24
 have hsplit:bG ((k:Int),b)=(bG ((k:Int),b)).take (k-24)++(bG ((k:Int),b)).drop (k-24):=(List.take_append_drop _ _).symm
 have hd:((bG ((k:Int),b)).drop (k-24)).length=24:=by rw[List.length_drop,hkl];omega
 have hfe:bq (bG ((k:Int),b)) (k-24) 24=dH ((bG ((k:Int),b)).drop (k-24)):=by rw[bq,List.take_of_length_le (by omega)]
 have hz:(over (over 0 (bG (m,u))) (bG ((k:Int),b)) != 0)=(((over (over 0 (bG (m,u))) ((bG ((k:Int),b)).take (k-24)):Nat):Int) != ((bq (bG ((k:Int),b)) (k-24) 24:Nat):Int)):=by
  have:=ye (l:=(bG ((k:Int),b)).take (k-24)) hu hd
  rw[←hsplit,←hfe] at this
  rw[Bool.eq_iff_iff,bne_iff_ne,bne_iff_ne,ne_eq,ne_eq,this]
  omega
 have e1:(ai.k bU (((k:Int),b),0,ai.b .sub .i64 (k:Int) 24)).1.1=((k-24:Nat):Int):=by rw[hslice];exact hP1
 have e2:(ai.k qy [(m,u),(ai.k bU (((k:Int),b),0,ai.b .sub .i64 (k:Int) 24)).1])=(((over (over 0 (bG (m,u))) ((bG ((k:Int),b)).take (k-24)):Nat):Int),0):=by rw[hslice];exact hsum
 have e3:(ai.k ay (((k:Int),b),(ai.k bU (((k:Int),b),0,ai.b .sub .i64 (k:Int) 24)).1.1,24)).1=((bq (bG ((k:Int),b)) (k-24) 24:Nat):Int):=by rw[e1,hget]
 refine af.2 ⟨rfl,af.2 ⟨rfl,af.2 ⟨rfl,?_⟩⟩⟩
 refine(ah (cJ (congrArg Prod.snd e2))).2 ?_
 rw[hz,hkl]
 have hcmp:ai.c .neq (ai.v .u64 (ai.k qy [(m,u),(ai.k bU (((k:Int),b),0,ai.b .sub .i64 (k:Int) 24)).1]).1) (ai.k ay (((k:Int),b),(ai.k bU (((k:Int),b),0,ai.b .sub .i64 (k:Int) 24)).1.1,24)).1=(((over (over 0 (bG (m,u))) ((bG ((k:Int),b)).take (k-24)):Nat):Int) != ((bq (bG ((k:Int),b)) (k-24) 24:Nat):Int)):=by
  rw[e3,e2,dA (by omega),aQ]
 cases hx:(((over (over 0 (bG (m,u))) ((bG ((k:Int),b)).take (k-24)):Nat):Int) != ((bq (bG ((k:Int),b)) (k-24) 24:Nat):Int))
 ·refine(ah (hcmp.trans hx)).2 ?_
  exact bi (congrArg LT.ret (show((ai.k bU (((k:Int),b),0,ai.b .sub .i64 (k:Int) 24)).1,0)=(bO ((bG ((k:Int),b)).take (k-24)),0) by rw[hslice])) (.ret _)
 ·exact(aj (hcmp.trans hx)).2 (.ret _)
def cZ:((Int×List Int)×(Int×List Int))→((Int×List Int)×Int):=dd
def O8:aA:=⟨[(.struct [yI,yB]),(.struct [yI,yB])], [(.struct [yI,yB]),yI],(@tt ((Int×List Int)×(Int×List Int))),cZ⟩
theorem Sf:Sd 250 O8:=aD ax cm true 100 [] (fun A ((bN,bB),unsentN,unsentB)=>t139 A bN bB unsentN unsentB) (fc Tryz.func250 fz) (sc zW (sc Bn (sc JR (sc P9 sz)))) fun((bN,bB),unsentN,unsentB) hp h=>Im h
open Go.Ev.Pl
def Mw(A:aZ)(cTime:Int)(cPos:Int)(cMode:Int)(cNext:Int)(cMember:Int):LT (List Int) Empty:=.ret [cTime,cPos,cMode,cNext,cMember]
def vI:((Int×Int×Int×Int×Int))→(List Int):=fun(cTime,cPos,cMode,cNext,cMember)=>(Mw ai cTime cPos cMode cNext cMember).val (Ty.cn [(.arr 5 yI)])
def NW:aA:=⟨[(.struct [yI,yI,yI,yI,yI])], [(.arr 5 yI)],(@tt ((Int×Int×Int×Int×Int))),vI⟩
theorem Tm:Sd 202 NW:=aL ax cm true 26 [] (fun A (cTime,cPos,cMode,cNext,cMember)=>Mw A cTime cPos cMode cNext cMember) (fc Tryz.func202 fz) sz (fun((cTime,cPos,cMode,cNext,cMember):(Int×Int×Int×Int×Int)) hp h=>by
 show(Mw ai cTime cPos cMode cNext cMember).pre=true
 rfl)
structure Js where
 (a0 a1 a2 a3 a4 a6 a7 a8 a9 bW:Int)
inductive VN where
 | c0 (p:Js) (a5:Int)
noncomputable def OC:VN→fJ
 | .c0 p a5=>⟨[⟨151,36,(en [(5,.ptr 0 0),(21,.agg [vi p.a0,vi p.a1,vi p.a2,vi p.a3,vi p.a4]),(22,vi a5)]),[.inLoop (cw Tryz.f151 [1,1,1,0,1,0,0]),.inBlock 0,.code (cw Tryz.f151 [1,1,1,1])],[],none⟩],[.flat false [vi p.a6,vi p.a7,vi p.a8,vi p.a9,vi p.bW],.dead]⟩
def t87(A:aZ)(cTime:Int)(cPos:Int)(cMode:Int)(cNext:Int)(cMember:Int)(n:Int):LT Int VN:=.br (A.c .lss n 4) (.ret 2) (.br (A.c .gtr n 8) (.ret 2) (.need (A.c .leq 0 n) (.need (A.k (@tt ((Int×Int×Int×Int×Int))) (cTime,cPos,cMode,cNext,cMember)) (.more (.c0 ⟨(A.n yI (A.k vI (cTime,cPos,cMode,cNext,cMember)) 0:Int),(A.n yI (A.k vI (cTime,cPos,cMode,cNext,cMember)) 1:Int),(A.n yI (A.k vI (cTime,cPos,cMode,cNext,cMember)) 2:Int),(A.n yI (A.k vI (cTime,cPos,cMode,cNext,cMember)) 3:Int),(A.n yI (A.k vI (cTime,cPos,cMode,cNext,cMember)) 4:Int),255,(A.b .sub .i64 n 1),3,4,(A.b .sub .i64 (A.b .shl .i64 1 n) 1)⟩ 0)))))
def NU(A:aZ):VN→LT Int VN
 | .c0 p a5=>.br (A.c .lss a5 5) (.need (A.and (A.c .leq 0 a5) (A.c .lss a5 5)) (.br (A.c .lss (A.n yI [p.a0,p.a1,p.a2,p.a3,p.a4] a5:Int) 0) (.ret 40) (.need (A.and (A.c .leq 0 a5) (A.c .lss a5 5)) (.br (A.c .gtr (A.n yI [p.a0,p.a1,p.a2,p.a3,p.a4] a5:Int) (A.n yI [p.a6,p.a7,p.a8,p.a9,p.bW] a5:Int)) (.ret 40) (.more (.c0 p (A.b .add .i64 a5 1))))))) (.ret 0)
theorem JQ{k:Nat}(hk:k≤60):ai.b .shl .i64 1 (k:Int)=((2^k:Nat):Int):=by
 show IntKind.i64.wrap ((1:Int)*2^min (k:Int).toNat 64)=_
 have:2^k≤2^60:=Nat.pow_le_pow_right (by decide) hk
 have e:(2:Int)^k=((2^k:Nat):Int):=by simp
 rw[Int.toNat_natCast,Nat.min_eq_left (by omega),Int.one_mul,e]
 generalize 2^k=q at this
 rw[fQ (by omega) (by omega)]
theorem QV{u v x:Int}(h:u=v):ai.c .lss u x=decide (v<x):=by rw[h];rfl
theorem U4{u u' v v':Int}(h1:u=u')(h2:v=v'):ai.c .gtr u v=decide (v'<u'):=by rw[h1,h2];rfl
theorem lJ{p:Js}{i v m r:Int}(h0:0≤i)(h5:i<5)(hv:(ai.n (.int .i64) [p.a0,p.a1,p.a2,p.a3,p.a4] i:Int)=v)(hm:(ai.n (.int .i64) [p.a6,p.a7,p.a8,p.a9,p.bW] i:Int)=m)
  (h1:(decide (0≤v)&&decide (v≤m))=true→aB (NU ai) (.more (.c0 p (i+1))) r) (h2:(decide (0≤v)&&decide (v≤m))=false→r=40):aB (NU ai) (.more (.c0 p i)) r:=by
 rw[ak,NU]
 have hn:ai.and (ai.c .leq 0 i) (ai.c .lss i 5)=true:=by rw[aU,aF,ar];simp;omega
 refine(aj (by rw[ar];simpa using h5)).2 (af.2 ⟨hn,?_⟩)
 by_cases h3:v<0
 ·refine(aj ((QV hv).trans (by simpa using h3))).2 ?_
  rw[h2 (by rw[show decide (0≤v)=false from by simp;omega];rfl)]
  exact .ret _
 ·refine(ah ((QV hv).trans (by simpa using h3))).2 (af.2 ⟨hn,?_⟩)
  by_cases h4:m<v
  ·refine(aj ((U4 hv hm).trans (by simpa using h4))).2 ?_
   rw[h2 (by rw[show decide (v≤m)=false from by simp;omega,Bool.and_false])]
   exact .ret _
  ·refine(ah ((U4 hv hm).trans (by simpa using h4))).2 ?_
   rw[bH,fQ (by omega) (by omega)]
   exact h1 (by simp;omega)
theorem Yc{t po m n s k:Int}:aB (NU ai) (t87 ai t po m n s k) (iB ((t,po,m,n,s),k)):=by
 unfold t87
 rw[iB]
 by_cases h1:k<4
 ·refine(aj (by rw[ar];simpa using h1)).2 ?_
  rw[show decide (k<4)=true from by simpa using h1]
  exact .ret _
 refine(ah (by rw[ar];simpa using h1)).2 ?_
 by_cases h2:8<k
 ·refine(aj (by rw[aG];simpa using h2)).2 ?_
  rw[show decide (8<k)=true from by simpa using h2,Bool.or_true]
  exact .ret _
 refine(ah (by rw[aG];simpa using h2)).2 (af.2 ⟨by rw[aF];simp;omega,af.2 ⟨rfl,?_⟩⟩)
 rw[show decide (k<4)=false from by simpa using h1,show decide (8<k)=false from by simpa using h2,Bool.or_false,cond_false]
 have hk1:ai.b .sub .i64 k 1=k-1:=by rw[bl,fQ (by omega) (by omega)]
 have hk2:ai.b .sub .i64 (ai.b .shl .i64 1 k) 1=2^k.toNat-1:=by
  obtain⟨j,rfl⟩:=Int.eq_ofNat_of_zero_le (show 0≤k by omega)
  have hq:2^j≤2^60:=Nat.pow_le_pow_right (by decide) (by omega)
  have hq0:=Nat.two_pow_pos j
  have e:(2:Int)^j=((2^j:Nat):Int):=by simp
  rw[JQ (by omega),Int.toNat_natCast,e]
  generalize 2^j=q at hq hq0
  rw[bl,fQ (by omega) (by omega)]
 rw[hk1,hk2]
 refine lJ (v:=t) (m:=255) (by decide) (by decide) rfl rfl (fun g=>?_) (fun g=>by rw[g];rfl)
 rw[g,Bool.true_and]
 refine lJ (i:=1) (v:=po) (m:=k-1) (by decide) (by decide) rfl rfl (fun g=>?_) (fun g=>by rw[g];rfl)
 rw[g,Bool.true_and]
 refine lJ (i:=2) (v:=m) (m:=3) (by decide) (by decide) rfl rfl (fun g=>?_) (fun g=>by rw[g];rfl)
 rw[g,Bool.true_and]
 refine lJ (i:=3) (v:=n) (m:=4) (by decide) (by decide) rfl rfl (fun g=>?_) (fun g=>by rw[g];rfl)
 rw[g,Bool.true_and]
 refine lJ (i:=4) (v:=s) (m:=2^k.toNat-1) (by decide) (by decide) rfl rfl (fun g=>?_) (fun g=>by rw[g];rfl)
 rw[g,ak,NU]
 exact(ah rfl).2 (.ret _)
def lq:((Int×Int×Int×Int×Int)×Int)→Int:=iB
def VS:aA:=⟨[(.struct [yI,yI,yI,yI,yI]),yI], [yI],(@tt ((Int×Int×Int×Int×Int)×Int)),lq⟩
theorem yS:Sd 151 VS:=aH ax cm true 43 [⟨151,5, [[5,21,22]]⟩] [] (fun A ((cTime,cPos,cMode,cNext,cMember),n)=>t87 A cTime cPos cMode cNext cMember n) NU OC (fc Tryz.func151 fz) (sc Tm sz) (fun A y=>match y with |.c0 p a5=>⟨41,by kernel_rfl,by kernel_rfl⟩) fun((cTime,cPos,cMode,cNext,cMember),n) hp h=>Yc
def t42(A:aZ)(cTime:Int)(cPos:Int)(cMode:Int)(cNext:Int)(cMember:Int)(n:Int):LT Int Empty:=.br (A.c .lss n 4) (.ret 2) (.br (A.c .gtr n 8) (.ret 2) (.br (A.c .lss cTime 0) (.ret 40) (.br (A.c .gtr cTime 255) (.ret 40) (.br (A.c .lss cPos 0) (.ret 40) (.br (A.c .geq cPos n) (.ret 40) (.br (A.c .lss cMode 0) (.ret 40) (.br (A.c .geq cMode 4) (.ret 40) (.br (A.c .lss cNext 0) (.ret 40) (.br (A.c .gtr cNext 4) (.ret 40) (.br (A.c .lss cMember 0) (.ret 40) (.need (A.c .leq 0 (A.v .u64 n)) (.br (A.c .geq cMember (A.b .shl .i64 1 (A.v .u64 n))) (.ret 40) (.ret 0)))))))))))))
theorem WI{t po m n s k:Int}:aB Empty.elim (t42 ai t po m n s k) (iB ((t,po,m,n,s),k)):=by
 unfold t42
 rw[iB]
 by_cases h1:k<4
 ·refine(aj (by rw[ar];simpa using h1)).2 ?_
  rw[show decide (k<4)=true from by simpa using h1]
  exact .ret _
 refine(ah (by rw[ar];simpa using h1)).2 ?_
 by_cases h2:8<k
 ·refine(aj (by rw[aG];simpa using h2)).2 ?_
  rw[show decide (8<k)=true from by simpa using h2,Bool.or_true]
  exact .ret _
 refine(ah (by rw[aG];simpa using h2)).2 ?_
 rw[show decide (k<4)=false from by simpa using h1,show decide (8<k)=false from by simpa using h2,Bool.or_false,cond_false]
 obtain⟨j,rfl⟩:=Int.eq_ofNat_of_zero_le (show 0≤k by omega)
 have e:(2:Int)^j=((2^j:Nat):Int):=by simp
 rw[dA (by omega),JQ (by omega),Int.toNat_natCast,e]
 have hx:∀{x:Bool},x=false→(40:Int)=bif x then 0 else 40:=fun h=>by rw[h];rfl
 by_cases g1:t<0
 ·refine(aj (by rw[ar];simpa using g1)).2 (fE.2 (hx (by simp;omega)))
 refine(ah (by rw[ar];simpa using g1)).2 ?_
 by_cases g2:255<t
 ·refine(aj (by rw[aG];simpa using g2)).2 (fE.2 (hx (by simp;omega)))
 refine(ah (by rw[aG];simpa using g2)).2 ?_
 by_cases g3:po<0
 ·refine(aj (by rw[ar];simpa using g3)).2 (fE.2 (hx (by simp;omega)))
 refine(ah (by rw[ar];simpa using g3)).2 ?_
 by_cases g4:(j:Int)≤po
 ·refine(aj (by rw[aN];simpa using g4)).2 (fE.2 (hx (by simp;omega)))
 refine(ah (by rw[aN];simpa using g4)).2 ?_
 by_cases g5:m<0
 ·refine(aj (by rw[ar];simpa using g5)).2 (fE.2 (hx (by simp;omega)))
 refine(ah (by rw[ar];simpa using g5)).2 ?_
 by_cases g6:4≤m
 ·refine(aj (by rw[aN];simpa using g6)).2 (fE.2 (hx (by simp;omega)))
 refine(ah (by rw[aN];simpa using g6)).2 ?_
 by_cases g7:n<0
 ·refine(aj (by rw[ar];simpa using g7)).2 (fE.2 (hx (by simp;omega)))
 refine(ah (by rw[ar];simpa using g7)).2 ?_
 by_cases g8:4<n
 ·refine(aj (by rw[aG];simpa using g8)).2 (fE.2 (hx (by simp;omega)))
 refine(ah (by rw[aG];simpa using g8)).2 ?_
 by_cases g9:s<0
 ·refine(aj (by rw[ar];simpa using g9)).2 (fE.2 (hx (by simp;omega)))
 refine(ah (by rw[ar];simpa using g9)).2 (af.2 ⟨gj,?_⟩)
 have hy:∀{x:Bool},x=true→(0:Int)=bif x then 0 else 40:=fun h=>by rw[h];rfl
 generalize ((2^j:Nat):Int)=q
 by_cases g10:q≤s
 ·refine(aj (by rw[aN];simpa using g10)).2 (fE.2 (hx (by simp;omega)))
 refine(ah (by rw[aN];simpa using g10)).2 (fE.2 (hy (by simp;omega)))
def sR:((Int×Int×Int×Int×Int)×Int)→Int:=iB
def XV:aA:=⟨[(.struct [yI,yI,yI,yI,yI]),yI], [yI],(@tt ((Int×Int×Int×Int×Int)×Int)),sR⟩
theorem GJ:Sd 168 XV:=aD ax cm true 85 [] (fun A ((cTime,cPos,cMode,cNext,cMember),n)=>t42 A cTime cPos cMode cNext cMember n) (fc Tryz.func168 fz) sz fun((cTime,cPos,cMode,cNext,cMember),n) hp h=>WI
open Go.Ev.Pl
structure Te where
 (a0 a1 a2 a3 a4 a5 a6 a7 a8 a9 bW dM a12:Int)
structure Jr where
 (b0 b1 b2 b3 b4 b6 b9 b10 b11 b12 b13:Int)
inductive NT where
 | c0 (p:Te)
 | c1 (p:Jr) (b5:Int) (b7:Int) (b8:List Int)
noncomputable def TM:NT→fJ
 | .c0 p=>⟨[⟨233,38,(en [(2,.ptr 0 0),(4,.ptr 1 0),(5,.ptr 2 0),(16,.agg [vi p.a0,vi p.a1,vi p.a2,vi p.a3,vi p.a4]),(17,vi p.a5)]),[.inLoop (cw Tryz.f233 [1,1,1,1,0,1,0,0]),.inBlock 0,.code (cw Tryz.f233 [1,1,1,1,1])],[],none⟩],[.flat false [vi p.a6,.bZ true],.flat false [vi p.a7,.bZ true],.flat false [vi p.a8,vi p.a9,vi p.bW,vi p.dM,vi p.a12],.dead]⟩
 | .c1 p b5 b7 b8=>⟨[⟨233,38,(en [(2,.ptr 0 0),(4,.ptr 1 0),(5,.ptr 2 0),(16,.agg [vi p.b0,vi p.b1,vi p.b2,vi p.b3,vi p.b4]),(17,vi b5)]),[.inLoop (cw Tryz.f233 [1,1,1,1,0,1,0,0]),.inBlock 0,.code (cw Tryz.f233 [1,1,1,1,1])],[],none⟩],[.flat false [vi p.b6,.bZ true],.flat false [vi b7,.sl yU b8],.flat false [vi p.b9,vi p.b10,vi p.b11,vi p.b12,vi p.b13],.dead]⟩
def XR(A:aZ)(cTime:Int)(cPos:Int)(cMode:Int)(cNext:Int)(cMember:Int):LT ((Int×List Int)×Int) NT:=.need (A.k (@tt ((Int×Int×Int×Int×Int)×Int)) ((cTime,cPos,cMode,cNext,cMember),8)) (.br (A.c .neq (A.k lq ((cTime,cPos,cMode,cNext,cMember),8)) 0) (.ret ((0,([]:List Int)),40)) (.more (.c0 ⟨cTime,cPos,cMode,cNext,cMember,0,0,0,8,3,2,3,8⟩)))
def LP(A:aZ):NT→LT ((Int×List Int)×Int) NT
 | .c0 p=>.br (A.c .lss p.a5 5) (.need (A.and (A.c .leq 0 p.a5) (A.c .lss p.a5 5)) (.need (A.and (A.c .leq 0 p.a5) (A.c .lss p.a5 5)) (.need (A.k (@tt ((Int×List Int)×Int×Int)) ((p.a7,([]:List Int)),(A.v .u64 (A.n yI [p.a0,p.a1,p.a2,p.a3,p.a4] p.a5:Int)),(A.n yI [p.a8,p.a9,p.bW,p.dM,p.a12] p.a5:Int))) (.need (A.k (@tt ((Int×List Int)×Int×Int)) ((p.a7,([]:List Int)),(A.v .u64 (A.n yI [p.a0,p.a1,p.a2,p.a3,p.a4] p.a5:Int)),(A.n yI [p.a8,p.a9,p.bW,p.dM,p.a12] p.a5:Int))) (.need (A.and (A.c .leq 0 p.a5) (A.c .lss p.a5 5)) (.br (A.c .neq (A.k lM ((p.a7,([]:List Int)),(A.v .u64 (A.n yI [p.a0,p.a1,p.a2,p.a3,p.a4] p.a5:Int)),(A.n yI [p.a8,p.a9,p.bW,p.dM,p.a12] p.a5:Int))).2 0) (.ret ((0,([]:List Int)),(A.k lM ((p.a7,([]:List Int)),(A.v .u64 (A.n yI [p.a0,p.a1,p.a2,p.a3,p.a4] p.a5:Int)),(A.n yI [p.a8,p.a9,p.bW,p.dM,p.a12] p.a5:Int))).2)) (.more (.c1 ⟨p.a0,p.a1,p.a2,p.a3,p.a4,p.a6,p.a8,p.a9,p.bW,p.dM,p.a12⟩ (A.b .add .i64 p.a5 1) (A.k lM ((p.a7,([]:List Int)),(A.v .u64 (A.n yI [p.a0,p.a1,p.a2,p.a3,p.a4] p.a5:Int)),(A.n yI [p.a8,p.a9,p.bW,p.dM,p.a12] p.a5:Int))).1.1 (A.k lM ((p.a7,([]:List Int)),(A.v .u64 (A.n yI [p.a0,p.a1,p.a2,p.a3,p.a4] p.a5:Int)),(A.n yI [p.a8,p.a9,p.bW,p.dM,p.a12] p.a5:Int))).1.2)))))))) (.ret ((p.a7,([]:List Int)),0))
 | .c1 p b5 b7 b8=>.br (A.c .lss b5 5) (.need (A.and (A.c .leq 0 b5) (A.c .lss b5 5)) (.need (A.and (A.c .leq 0 b5) (A.c .lss b5 5)) (.need (A.k (@tt ((Int×List Int)×Int×Int)) ((b7,b8),(A.v .u64 (A.n yI [p.b0,p.b1,p.b2,p.b3,p.b4] b5:Int)),(A.n yI [p.b9,p.b10,p.b11,p.b12,p.b13] b5:Int))) (.need (A.k (@tt ((Int×List Int)×Int×Int)) ((b7,b8),(A.v .u64 (A.n yI [p.b0,p.b1,p.b2,p.b3,p.b4] b5:Int)),(A.n yI [p.b9,p.b10,p.b11,p.b12,p.b13] b5:Int))) (.need (A.and (A.c .leq 0 b5) (A.c .lss b5 5)) (.br (A.c .neq (A.k lM ((b7,b8),(A.v .u64 (A.n yI [p.b0,p.b1,p.b2,p.b3,p.b4] b5:Int)),(A.n yI [p.b9,p.b10,p.b11,p.b12,p.b13] b5:Int))).2 0) (.ret ((0,([]:List Int)),(A.k lM ((b7,b8),(A.v .u64 (A.n yI [p.b0,p.b1,p.b2,p.b3,p.b4] b5:Int)),(A.n yI [p.b9,p.b10,p.b11,p.b12,p.b13] b5:Int))).2)) (.more (.c1 p (A.b .add .i64 b5 1) (A.k lM ((b7,b8),(A.v .u64 (A.n yI [p.b0,p.b1,p.b2,p.b3,p.b4] b5:Int)),(A.n yI [p.b9,p.b10,p.b11,p.b12,p.b13] b5:Int))).1.1 (A.k lM ((b7,b8),(A.v .u64 (A.n yI [p.b0,p.b1,p.b2,p.b3,p.b4] b5:Int)),(A.n yI [p.b9,p.b10,p.b11,p.b12,p.b13] b5:Int))).1.2)))))))) (.ret ((b7,b8),0))
theorem lu{v w:Nat}{l:List Bool}(hv:v<2^w)(hw:w≤64)(hl:l.length+w≤4096):wQ (bO l,(v:Int),(w:Int))=(bO (l++bitsOf v w),0):=by
 rw[wQ]
 simp only[gP (l:=l) (by omega),Bool.not_true,cond_false,fX,Int.toNat_natCast]
 rw[rJ (by omega),Int.toNat_natCast,Nat.div_eq_of_lt hv,show decide ((w:Int)<0)=false from by simp,show decide (64<(w:Int))=false from by simp;omega,p_ (by rw[List.length_append,aC];exact hl)]
 rfl
theorem rR{p:Jr}{i:Int}{v w:Nat}{l:List Bool}{r:(Int×List Int)×Int}(h0:0≤i)(h5:i<5)(hv:(ai.n (.int .i64) [p.b0,p.b1,p.b2,p.b3,p.b4] i:Int)=(v:Int))(hw:(ai.n (.int .i64) [p.b9,p.b10,p.b11,p.b12,p.b13] i:Int)=(w:Int))(hvw:v<2^w)(hw8:w≤8)(hl:l.length≤100)
  (h:aB (LP ai) (.more (.c1 p (i+1) (bO (l++bitsOf v w)).1 (bO (l++bitsOf v w)).2)) r):aB (LP ai) (.more (.c1 p i (bO l).1 (bO l).2)) r:=by
 rw[ak,LP]
 have hn:ai.and (ai.c .leq 0 i) (ai.c .lss i 5)=true:=by rw[aU,aF,ar];simp;omega
 have hp:=Nat.pow_le_pow_right (n:=2) (by decide) hw8
 have hc:ai.k lM (((bO l).1,(bO l).2),(ai.v .u64 (ai.n (.int .i64) [p.b0,p.b1,p.b2,p.b3,p.b4] i:Int)),(ai.n (.int .i64) [p.b9,p.b10,p.b11,p.b12,p.b13] i:Int))=(bO (l++bitsOf v w),0):=by
  rw[show(ai.v .u64 (ai.n (.int .i64) [p.b0,p.b1,p.b2,p.b3,p.b4] i:Int))=(v:Int) from(congrArg (ai.v .u64) hv).trans (dA (by omega)),hw]
  exact lu hvw (by omega) (by omega)
 refine(aj (by rw[ar];simpa using h5)).2 (af.2 ⟨hn,af.2 ⟨hn,af.2 ⟨rfl,?_⟩⟩⟩)
 repeat (first|refine af.2 ⟨rfl,?_⟩|refine af.2 ⟨hn,?_⟩)
 refine(ah (cJ (congrArg Prod.snd hc))).2 ?_
 refine bi (congrArg LT.more (congr (congr (congrArg (NT.c1 p) ?_) (congrArg (fun z=>z.1.1) hc)) (congrArg (fun z=>z.1.2) hc))) h
 rw[bH,fQ (by omega) (by omega)]
theorem I5{t po m n s:Int}:aB (LP ai) (XR ai t po m n s) (jG (t,po,m,n,s)):=by
 unfold XR
 rw[jG]
 refine af.2 ⟨rfl,?_⟩
 have hchk:ai.k lq ((t,po,m,n,s),8)=bif dX (t,po,m,n,s) then 0 else 40:=pP (t,po,m,n,s)
 cases hok:dX (t,po,m,n,s)
 ·rw[hok] at hchk
  exact(aj (eE (by rw[hchk];decide))).2 (.ret _)
 rw[hok] at hchk
 refine(ah (cJ hchk)).2 ?_
 rw[lD] at hok
 obtain⟨t,rfl⟩:=Int.eq_ofNat_of_zero_le hok.1.1
 obtain⟨po,rfl⟩:=Int.eq_ofNat_of_zero_le hok.2.1.1
 obtain⟨m,rfl⟩:=Int.eq_ofNat_of_zero_le hok.2.2.1.1
 obtain⟨n,rfl⟩:=Int.eq_ofNat_of_zero_le hok.2.2.2.1.1
 obtain⟨s,rfl⟩:=Int.eq_ofNat_of_zero_le hok.2.2.2.2.1
 have hc:ai.k lM (((0:Int),([]:List Int)),(ai.v .u64 (t:Int)),8)=(bO ([]++bitsOf t 8),0):=by
  rw[dA (by omega)]
  exact lu (l:=[]) (v:=t) (w:=8) (by omega) (by decide) (by decide)
 rw[ak,LP]
 refine(aj rfl).2 (af.2 ⟨rfl,af.2 ⟨rfl,af.2 ⟨rfl,?_⟩⟩⟩)
 repeat (refine af.2 ⟨rfl,?_⟩)
 refine(ah (cJ (congrArg Prod.snd hc))).2 ?_
 refine bi (congrArg LT.more (congr (congr (congrArg (NT.c1 _) (show ai.b .add .i64 0 1=1 from rfl)) (congrArg (fun z=>z.1.1) hc)) (congrArg (fun z=>z.1.2) hc))) ?_
 refine rR (v:=po) (w:=3) (by decide) (by decide) rfl rfl (by omega) (by decide) (by simp[aC]) ?_
 refine rR (i:=2) (v:=m) (w:=2) (by decide) (by decide) rfl rfl (by omega) (by decide) (by simp[aC]) ?_
 refine rR (i:=3) (v:=n) (w:=3) (by decide) (by decide) rfl rfl (by omega) (by decide) (by simp[aC]) ?_
 refine rR (i:=4) (v:=s) (w:=8) (by decide) (by decide) rfl rfl (by omega) (by decide) (by simp[aC]) ?_
 rw[ak,LP]
 refine(ah rfl).2 ?_
 rw[show[]++bitsOf t 8++bitsOf po 3++bitsOf m 2++bitsOf n 3++bitsOf s 8=bd ((t:Int),(po:Int),(m:Int),(n:Int),(s:Int)) from by
  simp only[bd,Int.toNat_natCast,List.append_assoc,List.nil_append]]
 exact .ret _
def nT:((Int×Int×Int×Int×Int))→((Int×List Int)×Int):=jG
def VW:aA:=⟨[(.struct [yI,yI,yI,yI,yI])], [(.struct [yI,yB]),yI],(@tt ((Int×Int×Int×Int×Int))),nT⟩
theorem Ye:Sd 233 VW:=aH ax cm true 71 [⟨233,6, [[2,4,5,16,17]]⟩] [] (fun A (cTime,cPos,cMode,cNext,cMember)=>XR A cTime cPos cMode cNext cMember) LP TM (fc Tryz.func233 (fc Tryz.func202 (fc Tryz.func248 fz))) (sc yS (sc R2 sz)) (fun A y=>match y with |.c0 p=>⟨55,by kernel_rfl,by kernel_rfl⟩|.c1 p b5 b7 b8=>⟨55,by kernel_rfl,by kernel_rfl⟩) fun(cTime,cPos,cMode,cNext,cMember) hp h=>I5
def t82(A:aZ)(cTime:Int)(cPos:Int)(cMode:Int)(cNext:Int)(cMember:Int):LT ((Int×List Int)×Int) Empty:=.need (A.k (@tt ((Int×Int×Int×Int×Int)×Int)) ((cTime,cPos,cMode,cNext,cMember),8)) (.br (A.c .neq (A.k sR ((cTime,cPos,cMode,cNext,cMember),8)) 0) (.ret ((0,([]:List Int)),40)) (.need (A.k (@tt ((Int×List Int)×Int×Int)) ((0,([]:List Int)),(A.v .u64 cTime),8)) (.need (A.k (@tt ((Int×List Int)×Int×Int)) ((A.k ei ((0,([]:List Int)),(A.v .u64 cTime),8)).1,(A.v .u64 cPos),3)) (.need (A.k (@tt ((Int×List Int)×Int×Int)) ((A.k ei ((A.k ei ((0,([]:List Int)),(A.v .u64 cTime),8)).1,(A.v .u64 cPos),3)).1,(A.v .u64 cMode),2)) (.need (A.k (@tt ((Int×List Int)×Int×Int)) ((A.k ei ((A.k ei ((A.k ei ((0,([]:List Int)),(A.v .u64 cTime),8)).1,(A.v .u64 cPos),3)).1,(A.v .u64 cMode),2)).1,(A.v .u64 cNext),3)) (.need (A.k (@tt ((Int×List Int)×Int×Int)) ((A.k ei ((A.k ei ((A.k ei ((A.k ei ((0,([]:List Int)),(A.v .u64 cTime),8)).1,(A.v .u64 cPos),3)).1,(A.v .u64 cMode),2)).1,(A.v .u64 cNext),3)).1,(A.v .u64 cMember),8)) (.ret (A.k ei ((A.k ei ((A.k ei ((A.k ei ((A.k ei ((0,([]:List Int)),(A.v .u64 cTime),8)).1,(A.v .u64 cPos),3)).1,(A.v .u64 cMode),2)).1,(A.v .u64 cNext),3)).1,(A.v .u64 cMember),8)))))))))
theorem GA{t po m n s:Int}:aB Empty.elim (t82 ai t po m n s) (jG (t,po,m,n,s)):=by
 unfold t82
 rw[jG]
 refine af.2 ⟨rfl,?_⟩
 have hchk:ai.k sR ((t,po,m,n,s),8)=bif dX (t,po,m,n,s) then 0 else 40:=pP (t,po,m,n,s)
 cases hok:dX (t,po,m,n,s)
 ·rw[hok] at hchk
  exact(aj (eE (by rw[hchk];decide))).2 (.ret _)
 rw[hok] at hchk
 refine(ah (cJ hchk)).2 ?_
 rw[lD] at hok
 obtain⟨t,rfl⟩:=Int.eq_ofNat_of_zero_le hok.1.1
 obtain⟨po,rfl⟩:=Int.eq_ofNat_of_zero_le hok.2.1.1
 obtain⟨m,rfl⟩:=Int.eq_ofNat_of_zero_le hok.2.2.1.1
 obtain⟨n,rfl⟩:=Int.eq_ofNat_of_zero_le hok.2.2.2.1.1
 obtain⟨s,rfl⟩:=Int.eq_ofNat_of_zero_le hok.2.2.2.2.1
 have h1:ai.k ei (((0:Int),([]:List Int)),(ai.v .u64 (t:Int)),8)=(bO ([]++bitsOf t 8),0):=by
  rw[dA (by omega)]
  exact lu (l:=[]) (v:=t) (w:=8) (by omega) (by decide) (by decide)
 have h2:ai.k ei (bO ([]++bitsOf t 8),(ai.v .u64 (po:Int)),3)=(bO ([]++bitsOf t 8++bitsOf po 3),0):=by
  rw[dA (by omega)]
  exact lu (w:=3) (by omega) (by decide) (by simp[aC])
 have h3:ai.k ei (bO ([]++bitsOf t 8++bitsOf po 3),(ai.v .u64 (m:Int)),2)=(bO ([]++bitsOf t 8++bitsOf po 3++bitsOf m 2),0):=by
  rw[dA (by omega)]
  exact lu (w:=2) (by omega) (by decide) (by simp[aC])
 have h4:ai.k ei (bO ([]++bitsOf t 8++bitsOf po 3++bitsOf m 2),(ai.v .u64 (n:Int)),3)=(bO ([]++bitsOf t 8++bitsOf po 3++bitsOf m 2++bitsOf n 3),0):=by
  rw[dA (by omega)]
  exact lu (w:=3) (by omega) (by decide) (by simp[aC])
 have h5:ai.k ei (bO ([]++bitsOf t 8++bitsOf po 3++bitsOf m 2++bitsOf n 3),(ai.v .u64 (s:Int)),8)=(bO ([]++bitsOf t 8++bitsOf po 3++bitsOf m 2++bitsOf n 3++bitsOf s 8),0):=by
  rw[dA (by omega)]
  exact lu (w:=8) (by omega) (by decide) (by simp[aC])
 rw[h1,h2,h3,h4,h5]
 repeat (refine af.2 ⟨rfl,?_⟩)
 rw[show[]++bitsOf t 8++bitsOf po 3++bitsOf m 2++bitsOf n 3++bitsOf s 8=bd ((t:Int),(po:Int),(m:Int),(n:Int),(s:Int)) from by
  simp only[bd,Int.toNat_natCast,List.append_assoc,List.nil_append]]
 exact .ret _
def pg:((Int×Int×Int×Int×Int))→((Int×List Int)×Int):=jG
def Xy:aA:=⟨[(.struct [yI,yI,yI,yI,yI])], [(.struct [yI,yB]),yI],(@tt ((Int×Int×Int×Int×Int))),pg⟩
theorem W3:Sd 129 Xy:=aD ax cm true 83 [] (fun A (cTime,cPos,cMode,cNext,cMember)=>t82 A cTime cPos cMode cNext cMember) (fc Tryz.func129 fz) (sc GJ (sc Ey sz)) fun(cTime,cPos,cMode,cNext,cMember) hp h=>GA
open Go.Ev.Pl
structure MR where
 (a1 a2 a3 a4 a5 a7:Int) (a8:List Int) (a9 bW dM a12 nC:Int)
inductive xE where
 | c0 (p:MR) (a0:Int) (a6:Int) (j6:Int) (rB:Int) (a16:Int) (a17:Int) (rI:Int)
noncomputable def KU:xE→fJ
 | .c0 p a0 a6 j6 rB a16 a17 rI=>⟨[⟨236,61,(en [(1,.ptr 0 0),(2,.ptr 1 0),(4,.ptr 2 0),(5,vi a0),(21,.agg [vi p.a1,vi p.a2,vi p.a3,vi p.a4,vi p.a5]),(22,vi a6)]),[.inLoop (cw Tryz.f236 [1,1,1,1,0,1,0,0]),.inBlock 1,.code (cw Tryz.f236 [1,1,1,1,1])],[],none⟩],[.flat false [vi p.a7,.sl yU p.a8],.flat false [vi p.a9,vi p.bW,vi p.dM,vi p.a12,vi p.nC],.flat false [vi j6,vi rB,vi a16,vi a17,vi rI],.dead]⟩
def M5(A:aZ)(bN:Int)(bB:List Int):LT ((Int×Int×Int×Int×Int)×Int) xE:=.need (A.k (@tt ((Int×List Int))) (bN,bB)) (.br (A.c .neq (A.k iW (bN,bB)) 0) (.ret ((0,0,0,0,0),10)) (.br (A.c .neq bN 24) (.ret ((0,0,0,0,0),40)) (.more (.c0 ⟨8,3,2,3,8,bN,bB,0,0,0,0,0⟩ 0 0 0 0 0 0 0))))
def wz(A:aZ):xE→LT ((Int×Int×Int×Int×Int)×Int) xE
 | .c0 p a0 a6 j6 rB a16 a17 rI=>.br (A.c .lss a6 5) (.need (A.and (A.c .leq 0 a6) (A.c .lss a6 5)) (.need (A.k (@tt ((Int×List Int)×Int×Int)) ((p.a7,p.a8),a0,(A.n yI [p.a1,p.a2,p.a3,p.a4,p.a5] a6:Int))) (.br (A.c .neq (A.k ay ((p.a7,p.a8),a0,(A.n yI [p.a1,p.a2,p.a3,p.a4,p.a5] a6:Int))).2 0) (.ret ((0,0,0,0,0),(A.k ay ((p.a7,p.a8),a0,(A.n yI [p.a1,p.a2,p.a3,p.a4,p.a5] a6:Int))).2)) (.need (A.and (A.c .leq 0 a6) (A.c .lss a6 5)) (.more (.c0 p (A.b .add .i64 a0 (A.n yI [p.a1,p.a2,p.a3,p.a4,p.a5] a6:Int)) (A.b .add .i64 a6 1) (A.n yI (A.set [j6,rB,a16,a17,rI] a6 (A.v .i64 (A.k ay ((p.a7,p.a8),a0,(A.n yI [p.a1,p.a2,p.a3,p.a4,p.a5] a6:Int))).1)) 0:Int) (A.n yI (A.set [j6,rB,a16,a17,rI] a6 (A.v .i64 (A.k ay ((p.a7,p.a8),a0,(A.n yI [p.a1,p.a2,p.a3,p.a4,p.a5] a6:Int))).1)) 1:Int) (A.n yI (A.set [j6,rB,a16,a17,rI] a6 (A.v .i64 (A.k ay ((p.a7,p.a8),a0,(A.n yI [p.a1,p.a2,p.a3,p.a4,p.a5] a6:Int))).1)) 2:Int) (A.n yI (A.set [j6,rB,a16,a17,rI] a6 (A.v .i64 (A.k ay ((p.a7,p.a8),a0,(A.n yI [p.a1,p.a2,p.a3,p.a4,p.a5] a6:Int))).1)) 3:Int) (A.n yI (A.set [j6,rB,a16,a17,rI] a6 (A.v .i64 (A.k ay ((p.a7,p.a8),a0,(A.n yI [p.a1,p.a2,p.a3,p.a4,p.a5] a6:Int))).1)) 4:Int))))))) (.need (A.k (@tt ((Int×Int×Int×Int×Int)×Int)) ((j6,rB,a16,a17,rI),8)) (.br (A.c .neq (A.k lq ((j6,rB,a16,a17,rI),8)) 0) (.ret ((0,0,0,0,0),40)) (.ret ((j6,rB,a16,a17,rI),0))))
theorem FN{n:Int}{b:List Int}(h:Ty.du [(.struct [(.int .i64),(.slice (.int .u8))])] (n,b)):aB (wz ai) (M5 ai n b) (dI (n,b)):=by
 have hb:=(dU h).2.2
 have hl:=dy h
 unfold M5
 rw[dI]
 refine af.2 ⟨rfl,?_⟩
 have hc:ai.c .neq (ai.k iW (n,b)) 0=!bD (n,b):=by
  rw[ap,jJ hb hl];cases bD (n,b)<;>rfl
 rw[hc]
 cases hok:bD (n,b)
 ·exact(aj rfl).2 (.ret _)
 refine(ah rfl).2 ?_
 rw[Bool.not_true,cond_false]
 show aB (wz ai) _ (bif n != 24 then(zS,40) else _)
 by_cases h24:n=24
 ·subst h24
  refine(ah rfl).2 ?_
  rw[show((24:Int) != 24)=false from rfl,cond_false]
  have l0:=dR (bG (24,b)) 0 8
  have g0:ai.k ay ((24,b),0,8)=(((bq (bG (24,b)) 0 8:Nat):Int),0):=jh (n:=24) (a:=0) (w:=8) hok (by decide) (by decide) (by decide)
  have l1:=dR (bG (24,b)) 8 3
  have g1:ai.k ay ((24,b),8,3)=(((bq (bG (24,b)) 8 3:Nat):Int),0):=jh (n:=24) (a:=8) (w:=3) hok (by decide) (by decide) (by decide)
  have l2:=dR (bG (24,b)) 11 2
  have g2:ai.k ay ((24,b),11,2)=(((bq (bG (24,b)) 11 2:Nat):Int),0):=jh (n:=24) (a:=11) (w:=2) hok (by decide) (by decide) (by decide)
  have l3:=dR (bG (24,b)) 13 3
  have g3:ai.k ay ((24,b),13,3)=(((bq (bG (24,b)) 13 3:Nat):Int),0):=jh (n:=24) (a:=13) (w:=3) hok (by decide) (by decide) (by decide)
  have l4:=dR (bG (24,b)) 16 8
  have g4:ai.k ay ((24,b),16,8)=(((bq (bG (24,b)) 16 8:Nat):Int),0):=jh (n:=24) (a:=16) (w:=8) hok (by decide) (by decide) (by decide)
  rw[ak,wz]
  refine(aj rfl).2 (af.2 ⟨rfl,af.2 ⟨rfl,(ah (cJ (congrArg Prod.snd (show ai.k ay ((24,b),0,8)=(((bq (bG (24,b)) 0 8:Nat):Int),0) from g0)))).2 (af.2 ⟨rfl,?_⟩)⟩⟩)
  refine bi (t':=.more (.c0 ⟨8,3,2,3,8,24,b,0,0,0,0,0⟩ 8 1 ((bq (bG (24,b)) 0 8:Nat):Int) 0 0 0 0)) (congrArg LT.more (show xE.c0 ⟨8,3,2,3,8,24,b,0,0,0,0,0⟩ 8 1 (ai.v .i64 (ai.k ay ((24,b),0,8)).1) 0 0 0 0=_ from by rw[show(ai.v .i64 (ai.k ay ((24,b),0,8)).1)=((bq (bG (24,b)) 0 8:Nat):Int) from by rw[g0,bu,fQ (by omega) (by omega)]])) ?_
  rw[ak,wz]
  refine(aj rfl).2 (af.2 ⟨rfl,af.2 ⟨rfl,(ah (cJ (congrArg Prod.snd (show ai.k ay ((24,b),8,3)=(((bq (bG (24,b)) 8 3:Nat):Int),0) from g1)))).2 (af.2 ⟨rfl,?_⟩)⟩⟩)
  refine bi (t':=.more (.c0 ⟨8,3,2,3,8,24,b,0,0,0,0,0⟩ 11 2 ((bq (bG (24,b)) 0 8:Nat):Int) ((bq (bG (24,b)) 8 3:Nat):Int) 0 0 0)) (congrArg LT.more (show xE.c0 ⟨8,3,2,3,8,24,b,0,0,0,0,0⟩ 11 2 ((bq (bG (24,b)) 0 8:Nat):Int) (ai.v .i64 (ai.k ay ((24,b),8,3)).1) 0 0 0=_ from by rw[show(ai.v .i64 (ai.k ay ((24,b),8,3)).1)=((bq (bG (24,b)) 8 3:Nat):Int) from by rw[g1,bu,fQ (by omega) (by omega)]])) ?_
  rw[ak,wz]
  refine(aj rfl).2 (af.2 ⟨rfl,af.2 ⟨rfl,(ah (cJ (congrArg Prod.snd (show ai.k ay ((24,b),11,2)=(((bq (bG (24,b)) 11 2:Nat):Int),0) from g2)))).2 (af.2 ⟨rfl,?_⟩)⟩⟩)
  refine bi (t':=.more (.c0 ⟨8,3,2,3,8,24,b,0,0,0,0,0⟩ 13 3 ((bq (bG (24,b)) 0 8:Nat):Int) ((bq (bG (24,b)) 8 3:Nat):Int) ((bq (bG (24,b)) 11 2:Nat):Int) 0 0)) (congrArg LT.more (show xE.c0 ⟨8,3,2,3,8,24,b,0,0,0,0,0⟩ 13 3 ((bq (bG (24,b)) 0 8:Nat):Int) ((bq (bG (24,b)) 8 3:Nat):Int) (ai.v .i64 (ai.k ay ((24,b),11,2)).1) 0 0=_ from by rw[show(ai.v .i64 (ai.k ay ((24,b),11,2)).1)=((bq (bG (24,b)) 11 2:Nat):Int) from by rw[g2,bu,fQ (by omega) (by omega)]])) ?_
  rw[ak,wz]
  refine(aj rfl).2 (af.2 ⟨rfl,af.2 ⟨rfl,(ah (cJ (congrArg Prod.snd (show ai.k ay ((24,b),13,3)=(((bq (bG (24,b)) 13 3:Nat):Int),0) from g3)))).2 (af.2 ⟨rfl,?_⟩)⟩⟩)
  refine bi (t':=.more (.c0 ⟨8,3,2,3,8,24,b,0,0,0,0,0⟩ 16 4 ((bq (bG (24,b)) 0 8:Nat):Int) ((bq (bG (24,b)) 8 3:Nat):Int) ((bq (bG (24,b)) 11 2:Nat):Int) ((bq (bG (24,b)) 13 3:Nat):Int) 0)) (congrArg LT.more (show xE.c0 ⟨8,3,2,3,8,24,b,0,0,0,0,0⟩ 16 4 ((bq (bG (24,b)) 0 8:Nat):Int) ((bq (bG (24,b)) 8 3:Nat):Int) ((bq (bG (24,b)) 11 2:Nat):Int) (ai.v .i64 (ai.k ay ((24,b),13,3)).1) 0=_ from by rw[show(ai.v .i64 (ai.k ay ((24,b),13,3)).1)=((bq (bG (24,b)) 13 3:Nat):Int) from by rw[g3,bu,fQ (by omega) (by omega)]])) ?_
  rw[ak,wz]
  refine(aj rfl).2 (af.2 ⟨rfl,af.2 ⟨rfl,(ah (cJ (congrArg Prod.snd (show ai.k ay ((24,b),16,8)=(((bq (bG (24,b)) 16 8:Nat):Int),0) from g4)))).2 (af.2 ⟨rfl,?_⟩)⟩⟩)
  refine bi (t':=.more (.c0 ⟨8,3,2,3,8,24,b,0,0,0,0,0⟩ 24 5 ((bq (bG (24,b)) 0 8:Nat):Int) ((bq (bG (24,b)) 8 3:Nat):Int) ((bq (bG (24,b)) 11 2:Nat):Int) ((bq (bG (24,b)) 13 3:Nat):Int) ((bq (bG (24,b)) 16 8:Nat):Int))) (congrArg LT.more (show xE.c0 ⟨8,3,2,3,8,24,b,0,0,0,0,0⟩ 24 5 ((bq (bG (24,b)) 0 8:Nat):Int) ((bq (bG (24,b)) 8 3:Nat):Int) ((bq (bG (24,b)) 11 2:Nat):Int) ((bq (bG (24,b)) 13 3:Nat):Int) (ai.v .i64 (ai.k ay ((24,b),16,8)).1)=_ from by rw[show(ai.v .i64 (ai.k ay ((24,b),16,8)).1)=((bq (bG (24,b)) 16 8:Nat):Int) from by rw[g4,bu,fQ (by omega) (by omega)]])) ?_
  have hchk:ai.k lq ((((bq (bG (24,b)) 0 8:Nat):Int),((bq (bG (24,b)) 8 3:Nat):Int),((bq (bG (24,b)) 11 2:Nat):Int),((bq (bG (24,b)) 13 3:Nat):Int),((bq (bG (24,b)) 16 8:Nat):Int)),8)=bif dX (eU (bG (24,b))) then 0 else 40:=pP (eU (bG (24,b)))
  rw[ak,wz]
  refine(ah rfl).2 (af.2 ⟨rfl,?_⟩)
  cases ho:dX (eU (bG (24,b)))
  ·rw[ho] at hchk
   exact(aj (eE (by rw[hchk];decide))).2 (.ret _)
  ·rw[ho] at hchk
   exact(ah (cJ hchk)).2 (.ret _)
 ·refine(aj (eE h24)).2 ?_
  rw[show(n != 24)=true from bne_iff_ne.2 h24,cond_true]
  exact .ret _
def gh:((Int×List Int))→((Int×Int×Int×Int×Int)×Int):=dI
def Ro:aA:=⟨[(.struct [yI,yB])], [(.struct [yI,yI,yI,yI,yI]),yI],(@tt ((Int×List Int))),gh⟩
theorem U1:Sd 236 Ro:=aH ax cm true 58 [⟨236,8, [[1,2,4,5,21,22]]⟩] [] (fun A (bN,bB)=>M5 A bN bB) wz KU (fc Tryz.func236 (fc Tryz.func248 fz)) (sc yS (sc zW (sc Bn sz))) (fun A y=>match y with |.c0 p a0 a6 j6 rB a16 a17 rI=>⟨61,by kernel_rfl,by kernel_rfl⟩) fun(bN,bB) hp h=>FN h
open Go.Ev.Pl
def t57(A:aZ)(fKind:Int)(fReq:Int)(fCTime:Int)(fCPos:Int)(fCMode:Int)(fCNext:Int)(fCMember:Int)(fFrom:Int)(fData:List Int):LT Int Empty:=.need (A.k (@tt ((Int×Int×Int×Int×Int)×Int)) ((fCTime,fCPos,fCMode,fCNext,fCMember),8)) (.br (A.c .neq (A.k lq ((fCTime,fCPos,fCMode,fCNext,fCMember),8)) 0) (.ret 50) (.br (A.c .lss fReq 0) (.ret 50) (.br (A.c .gtr fReq 4) (.ret 50) (.br (A.c .gtr (A.l fData) 8) (.ret 50) (.br (A.c .eql fKind 1) (.br (A.c .eql fReq 0) (.br (A.c .eql (A.l fData) 0) (.br (A.c .geq fFrom 0) (.br (A.c .lss fFrom 8) (.br (A.not (A.and (A.c .eql fCTime fCTime) (A.and (A.c .eql fCPos 0) (A.and (A.c .eql fCMode 0) (A.and (A.c .eql fCNext 0) (A.and (A.c .eql fCMember 0) true)))))) (.ret 50) (.ret 0)) (.ret 50)) (.ret 50)) (.ret 50)) (.ret 50)) (.br (A.c .eql fKind 3) (.br (A.c .eql (A.l fData) 0) (.br (A.not (A.c .eql fFrom 0)) (.ret 50) (.ret 0)) (.ret 50)) (.br (A.c .eql fKind 2) (.br (A.not (A.c .eql fFrom 0)) (.ret 50) (.ret 0)) (.br (A.c .eql fKind 4) (.br (A.not (A.c .eql fFrom 0)) (.ret 50) (.ret 0)) (.ret 50)))))))))
def mW:((Int×Int×(Int×Int×Int×Int×Int)×Int×List Int))→Int:=fun(fKind,fReq,(fCTime,fCPos,fCMode,fCNext,fCMember),fFrom,fData)=>(t57 ai fKind fReq fCTime fCPos fCMode fCNext fCMember fFrom fData).val (Ty.cn [yI])
def XY:aA:=⟨[(.struct [yI,yI,(.struct [yI,yI,yI,yI,yI]),yI,yB])], [yI],(@tt ((Int×Int×(Int×Int×Int×Int×Int)×Int×List Int))),mW⟩
theorem XK:Sd 237 XY:=aL ax cm true 109 [] (fun A (fKind,fReq,(fCTime,fCPos,fCMode,fCNext,fCMember),fFrom,fData)=>t57 A fKind fReq fCTime fCPos fCMode fCNext fCMember fFrom fData) (fc Tryz.func237 fz) (sc yS sz) (fun((fKind,fReq,(fCTime,fCPos,fCMode,fCNext,fCMember),fFrom,fData):(Int×Int×(Int×Int×Int×Int×Int)×Int×List Int)) hp h=>by
 show(t57 ai fKind fReq fCTime fCPos fCMode fCNext fCMember fFrom fData).pre=true
 simp[t57,LT.pre,ap,dc])
def t58(A:aZ)(fKind:Int)(fReq:Int)(fCTime:Int)(fCPos:Int)(fCMode:Int)(fCNext:Int)(fCMember:Int)(fFrom:Int)(fData:List Int):LT Int Empty:=.br (A.c .lss fKind 1) (.ret 50) (.br (A.c .gtr fKind 4) (.ret 50) (.need (A.k (@tt ((Int×Int×Int×Int×Int)×Int)) ((fCTime,fCPos,fCMode,fCNext,fCMember),8)) (.br (A.c .neq (A.k sR ((fCTime,fCPos,fCMode,fCNext,fCMember),8)) 0) (.ret 50) (.br (A.c .lss fReq 0) (.ret 50) (.br (A.c .gtr fReq 4) (.ret 50) (.br (A.c .gtr (A.l fData) 8) (.ret 50) (.br (A.c .eql fKind 1) (.br (A.c .gtr (A.l fData) 0) (.ret 50) (.br (A.c .neq fKind 1) (.br (A.c .neq fFrom 0) (.ret 50) (.ret 0)) (.br (A.c .neq fReq 0) (.ret 50) (.br (A.c .lss fFrom 0) (.ret 50) (.br (A.c .geq fFrom 8) (.ret 50) (.br (A.not (A.and (A.c .eql fCTime fCTime) (A.and (A.c .eql fCPos 0) (A.and (A.c .eql fCMode 0) (A.and (A.c .eql fCNext 0) (A.and (A.c .eql fCMember 0) true)))))) (.ret 50) (.ret 0))))))) (.br (A.c .eql fKind 3) (.br (A.c .gtr (A.l fData) 0) (.ret 50) (.br (A.c .neq fKind 1) (.br (A.c .neq fFrom 0) (.ret 50) (.ret 0)) (.br (A.c .neq fReq 0) (.ret 50) (.br (A.c .lss fFrom 0) (.ret 50) (.br (A.c .geq fFrom 8) (.ret 50) (.br (A.not (A.and (A.c .eql fCTime fCTime) (A.and (A.c .eql fCPos 0) (A.and (A.c .eql fCMode 0) (A.and (A.c .eql fCNext 0) (A.and (A.c .eql fCMember 0) true)))))) (.ret 50) (.ret 0))))))) (.br (A.c .neq fKind 1) (.br (A.c .neq fFrom 0) (.ret 50) (.ret 0)) (.br (A.c .neq fReq 0) (.ret 50) (.br (A.c .lss fFrom 0) (.ret 50) (.br (A.c .geq fFrom 8) (.ret 50) (.br (A.not (A.and (A.c .eql fCTime fCTime) (A.and (A.c .eql fCPos 0) (A.and (A.c .eql fCMode 0) (A.and (A.c .eql fCNext 0) (A.and (A.c .eql fCMember 0) true)))))) (.ret 50) (.ret 0))))))))))))))
def BX:((Int×Int×(Int×Int×Int×Int×Int)×Int×List Int))→Int:=fun(fKind,fReq,(fCTime,fCPos,fCMode,fCNext,fCMember),fFrom,fData)=>(t58 ai fKind fReq fCTime fCPos fCMode fCNext fCMember fFrom fData).val (Ty.cn [yI])
def WE:aA:=⟨[(.struct [yI,yI,(.struct [yI,yI,yI,yI,yI]),yI,yB])], [yI],(@tt ((Int×Int×(Int×Int×Int×Int×Int)×Int×List Int))),BX⟩
theorem Yr:Sd 128 WE:=aL ax cm true 114 [] (fun A (fKind,fReq,(fCTime,fCPos,fCMode,fCNext,fCMember),fFrom,fData)=>t58 A fKind fReq fCTime fCPos fCMode fCNext fCMember fFrom fData) (fc Tryz.func128 fz) (sc GJ sz) (fun((fKind,fReq,(fCTime,fCPos,fCMode,fCNext,fCMember),fFrom,fData):(Int×Int×(Int×Int×Int×Int×Int)×Int×List Int)) hp h=>by
 show(t58 ai fKind fReq fCTime fCPos fCMode fCNext fCMember fFrom fData).pre=true
 simp[t58,LT.pre,ap,dc])
def t56(A:aZ)(kind:Int)(data:Int):LT Int Empty:=.br (A.c .lss data 0) (.ret 0) (.br (A.c .gtr data 8) (.ret 0) (.br (A.c .eql kind 1) (.br (A.c .eql data 0) (.ret 40) (.br (A.c .eql kind 3) (.br (A.c .eql data 0) (.ret 54) (.br (A.c .eql kind 2) (.ret (A.b .add .i64 29 (A.b .mul .i64 8 data))) (.br (A.c .eql kind 4) (.ret (A.b .add .i64 79 (A.b .mul .i64 8 data))) (.ret 0)))) (.br (A.c .eql kind 2) (.ret (A.b .add .i64 29 (A.b .mul .i64 8 data))) (.br (A.c .eql kind 4) (.ret (A.b .add .i64 79 (A.b .mul .i64 8 data))) (.ret 0))))) (.br (A.c .eql kind 3) (.br (A.c .eql data 0) (.ret 54) (.br (A.c .eql kind 2) (.ret (A.b .add .i64 29 (A.b .mul .i64 8 data))) (.br (A.c .eql kind 4) (.ret (A.b .add .i64 79 (A.b .mul .i64 8 data))) (.ret 0)))) (.br (A.c .eql kind 2) (.ret (A.b .add .i64 29 (A.b .mul .i64 8 data))) (.br (A.c .eql kind 4) (.ret (A.b .add .i64 79 (A.b .mul .i64 8 data))) (.ret 0))))))
def kU:(Int×Int)→Int:=fun(kind,data)=>(t56 ai kind data).val (Ty.cn [yI])
def Xs:aA:=⟨[yI,yI], [yI],(@tt (Int×Int)),kU⟩
theorem Yd:Sd 227 Xs:=aL ax cm true 67 [] (fun A (kind,data)=>t56 A kind data) (fc Tryz.func227 fz) sz (fun((kind,data):Int×Int) hp h=>by
 show(t56 ai kind data).pre=true
 simp[t56,LT.pre,ap,dc])
def t59(A:aZ)(kind:Int)(data:Int):LT Int Empty:=.br (A.c .lss data 0) (.ret 0) (.br (A.c .gtr data 8) (.ret 0) (.br (A.c .eql kind 1) (.br (A.c .eql data 0) (.ret 40) (.ret 0)) (.br (A.c .eql kind 2) (.ret (A.b .add .i64 29 (A.b .mul .i64 8 data))) (.br (A.c .eql kind 3) (.br (A.c .eql data 0) (.ret 54) (.ret 0)) (.br (A.c .eql kind 4) (.ret (A.b .add .i64 79 (A.b .mul .i64 8 data))) (.ret 0))))))
def wM:(Int×Int)→Int:=fun(kind,data)=>(t59 ai kind data).val (Ty.cn [yI])
def Ys:aA:=⟨[yI,yI], [yI],(@tt (Int×Int)),wM⟩
theorem WV:Sd 196 Ys:=aL ax cm true 59 [] (fun A (kind,data)=>t59 A kind data) (fc Tryz.func196 fz) sz (fun((kind,data):Int×Int) hp h=>by
 show(t59 ai kind data).pre=true
 simp[t59,LT.pre,ap,dc])
def t44(A:aZ)(aKind:Int)(aReq:Int)(aCTime:Int)(aCPos:Int)(aCMode:Int)(aCNext:Int)(aCMember:Int)(aFrom:Int)(aData:List Int)(bKind:Int)(bReq:Int)(bCTime:Int)(bCPos:Int)(bCMode:Int)(bCNext:Int)(bCMember:Int)(bFrom:Int)(bData:List Int):LT Bool Empty:=.br (A.c .eql aKind bKind) (.br (A.c .eql aReq bReq) (.br (A.and (A.c .eql aCTime bCTime) (A.and (A.c .eql aCPos bCPos) (A.and (A.c .eql aCMode bCMode) (A.and (A.c .eql aCNext bCNext) (A.and (A.c .eql aCMember bCMember) true))))) (.br (A.c .eql aFrom bFrom) (.ret (A.z .eql (A.bytes aData) (A.bytes bData))) (.ret false)) (.ret false)) (.ret false)) (.ret false)
def MH:((Int×Int×(Int×Int×Int×Int×Int)×Int×List Int)×(Int×Int×(Int×Int×Int×Int×Int)×Int×List Int))→Bool:=fun((aKind,aReq,(aCTime,aCPos,aCMode,aCNext,aCMember),aFrom,aData),bKind,bReq,(bCTime,bCPos,bCMode,bCNext,bCMember),bFrom,bData)=>(t44 ai aKind aReq aCTime aCPos aCMode aCNext aCMember aFrom aData bKind bReq bCTime bCPos bCMode bCNext bCMember bFrom bData).val (Ty.cn [.bool])
def Xh:aA:=⟨[(.struct [yI,yI,(.struct [yI,yI,yI,yI,yI]),yI,yB]),(.struct [yI,yI,(.struct [yI,yI,yI,yI,yI]),yI,yB])], [.bool],(@tt ((Int×Int×(Int×Int×Int×Int×Int)×Int×List Int)×(Int×Int×(Int×Int×Int×Int×Int)×Int×List Int))),MH⟩
theorem Yf:Sd 109 Xh:=aL ax cm true 51 [] (fun A ((aKind,aReq,(aCTime,aCPos,aCMode,aCNext,aCMember),aFrom,aData),bKind,bReq,(bCTime,bCPos,bCMode,bCNext,bCMember),bFrom,bData)=>t44 A aKind aReq aCTime aCPos aCMode aCNext aCMember aFrom aData bKind bReq bCTime bCPos bCMode bCNext bCMember bFrom bData) (fc Tryz.func109 fz) sz (fun(((aKind,aReq,(aCTime,aCPos,aCMode,aCNext,aCMember),aFrom,aData),bKind,bReq,(bCTime,bCPos,bCMode,bCNext,bCMember),bFrom,bData):(Int×Int×(Int×Int×Int×Int×Int)×Int×List Int)×(Int×Int×(Int×Int×Int×Int×Int)×Int×List Int)) hp h=>by
 show(t44 ai aKind aReq aCTime aCPos aCMode aCNext aCMember aFrom aData bKind bReq bCTime bCPos bCMode bCNext bCMember bFrom bData).pre=true
 simp[t44,LT.pre,ap,dc])
theorem rP{k r t p m n s fr:Int}{d:List Int}:mW (k,r,(t,p,m,n,s),fr,d)=bif fx (k,r,(t,p,m,n,s),fr,d) then 0 else 50:=by
 have hc:ai.c .neq (ai.k lq ((t,p,m,n,s),8)) 0=!dX (t,p,m,n,s):=by
  rw[show ai.k lq ((t,p,m,n,s),8)=bif dX (t,p,m,n,s) then 0 else 40 from pP (t,p,m,n,s)];cases dX (t,p,m,n,s)<;>rfl
 have hl:ai.l d=(d.length:Int):=rfl
 have hiff:=ji (k:=k) (r:=r) (t:=t) (p:=p) (m:=m) (n:=n) (s:=s) (fr:=fr) (d:=d)
 have hq:(t==t&&(p==0&&(m==0&&(n==0&&(s==0&&true)))))=decide (p=0∧m=0∧n=0∧s=0):=by
  rw[Bool.eq_iff_iff];simp
 simp only[mW,t57,LT.val,hc,hl,aS,aQ,ar,aF,aG,aN,aU,cu,hq,Bool.cond_eq_ite,hiff,Bool.and_eq_true,Bool.not_eq_true',decide_eq_true_eq,decide_eq_false_iff_not,beq_iff_eq,bne_iff_ne,ne_eq]
 cases dX (t,p,m,n,s)
 ·simp
 ·simp only[Bool.true_eq_false,if_false,true_and,Bool.not_true,Bool.false_eq_true,ite_false,reduceIte]
  generalize d.length=len
  repeat' split
  all_goals first|rfl|(exfalso;omega)|(exfalso;simp at *;omega)
theorem Gz{k r t p m n s fr:Int}{d:List Int}:BX (k,r,(t,p,m,n,s),fr,d)=bif fx (k,r,(t,p,m,n,s),fr,d) then 0 else 50:=by
 have hc:ai.c .neq (ai.k sR ((t,p,m,n,s),8)) 0=!dX (t,p,m,n,s):=by
  rw[show ai.k sR ((t,p,m,n,s),8)=bif dX (t,p,m,n,s) then 0 else 40 from pP (t,p,m,n,s)];cases dX (t,p,m,n,s)<;>rfl
 have hl:ai.l d=(d.length:Int):=rfl
 have hiff:=ji (k:=k) (r:=r) (t:=t) (p:=p) (m:=m) (n:=n) (s:=s) (fr:=fr) (d:=d)
 have hq:(t==t&&(p==0&&(m==0&&(n==0&&(s==0&&true)))))=decide (p=0∧m=0∧n=0∧s=0):=by
  rw[Bool.eq_iff_iff];simp
 simp only[BX,t58,LT.val,hc,hl,aS,aQ,ar,aF,aG,aN,aU,cu,hq,Bool.cond_eq_ite,hiff,Bool.and_eq_true,Bool.not_eq_true',decide_eq_true_eq,decide_eq_false_iff_not,beq_iff_eq,bne_iff_ne,ne_eq]
 cases dX (t,p,m,n,s)
 ·simp
 ·simp only[Bool.true_eq_false,if_false,true_and,Bool.not_true,Bool.false_eq_true,ite_false,reduceIte]
  generalize d.length=len
  clear hiff hq hc hl
  by_cases k1:k=1
  ·subst k1
   simp only[show ¬((1:Int)<1) by decide,show ¬((4:Int)<1) by decide,not_true_eq_false,true_and,if_true,if_false]
   repeat' split
   all_goals first|rfl|(exfalso;omega)
  ·by_cases k3:k=3
   ·subst k3
    simp only[show ¬((3:Int)<1) by decide,show ¬((4:Int)<3) by decide,k1,true_and,false_and,false_or,not_false_eq_true,if_true,if_false]
    repeat' split
    all_goals first|rfl|(exfalso;omega)
   ·simp only[k1,k3,true_and,false_and,false_or,not_false_eq_true,if_true,if_false]
    repeat' split
    all_goals first|rfl|(exfalso;omega)
theorem yF{k d:Int}:kU (k,d)=Bo (k,d)∧wM (k,d)=Bo (k,d):=by
 have hm:0≤d∧d≤8→∀c:Int,c=29∨c=79→ai.b .add .i64 c (ai.b .mul .i64 8 d)=c+8*d:=by
  intro h c hc
  rw[mE,fQ (by omega) (by omega),bH,fQ (by omega) (by omega)]
 constructor
 ·simp only[kU,t56,LT.val,aS,ar,aG,Bool.cond_eq_ite,decide_eq_true_eq,beq_iff_eq,Bo]
  by_cases h:0≤d∧d≤8
  ·rw[hm h 29 (.inl rfl),hm h 79 (.inr rfl),if_neg (show ¬d<0 by omega),if_neg (show ¬8<d by omega),if_pos h]
   repeat' split
   all_goals first|rfl|(exfalso;omega)
  ·rw[if_neg h]
   by_cases h1:d<0
   ·rw[if_pos h1]
   ·rw[if_neg h1,if_pos (show 8<d by omega)]
 ·simp only[wM,t59,LT.val,aS,ar,aG,Bool.cond_eq_ite,decide_eq_true_eq,beq_iff_eq,Bo]
  by_cases h:0≤d∧d≤8
  ·rw[hm h 29 (.inl rfl),hm h 79 (.inr rfl),if_neg (show ¬d<0 by omega),if_neg (show ¬8<d by omega),if_pos h]
   repeat' split
   all_goals first|rfl|(exfalso;omega)
  ·rw[if_neg h]
   by_cases h1:d<0
   ·rw[if_pos h1]
   ·rw[if_neg h1,if_pos (show 8<d by omega)]
open Go.Ev.Pl
def GN(A:aZ)(n:Int)(kind:Int):LT Bool Empty:=.br (A.c .eql kind 1) (.ret (A.c .eql n 40)) (.br (A.c .eql kind 3) (.ret (A.c .eql n 54)) (.br (A.c .eql kind 2) (.br (A.c .geq (A.b .sub .i64 n 29) 0) (.br (A.c .leq (A.b .sub .i64 n 29) 64) (.ret (A.c .eql (A.b .rem .i64 (A.b .sub .i64 n 29) 8) 0)) (.ret false)) (.ret false)) (.br (A.c .geq (A.b .sub .i64 n 79) 0) (.br (A.c .leq (A.b .sub .i64 n 79) 64) (.ret (A.c .eql (A.b .rem .i64 (A.b .sub .i64 n 79) 8) 0)) (.ret false)) (.ret false))))
def iN:(Int×Int)→Bool:=fun(n,kind)=>(GN ai n kind).val (Ty.cn [.bool])
def OL:aA:=⟨[yI,yI], [.bool],(@tt (Int×Int)),iN⟩
theorem PE:Sd 232 OL:=aL ax cm true 54 [] (fun A (n,kind)=>GN A n kind) (fc Tryz.func232 fz) sz (fun((n,kind):Int×Int) hp h=>by
 show(GN ai n kind).pre=true
 simp[GN,LT.pre,ap,dc])
def DL(A:aZ)(bN:Int)(bB:List Int)(kind:Int)(unsentN:Int)(unsentB:List Int):LT ((Int×List Int)×(Int×List Int)×Int) Empty:=.br (A.c .neq kind 4) (.need (A.k (@tt ((Int×List Int)×(Int×List Int))) ((bN,bB),unsentN,unsentB)) (.br (A.c .neq (A.k cZ ((bN,bB),unsentN,unsentB)).2 0) (.ret ((A.k cZ ((bN,bB),unsentN,unsentB)).1,(0,([]:List Int)),(A.k cZ ((bN,bB),unsentN,unsentB)).2)) (.br (A.c .neq kind 3) (.ret ((A.k cZ ((bN,bB),unsentN,unsentB)).1,(0,([]:List Int)),(A.k cZ ((bN,bB),unsentN,unsentB)).2)) (.need (A.k (@tt ((Int×List Int)×Int×Int)) ((A.k cZ ((bN,bB),unsentN,unsentB)).1,(A.b .sub .i64 (A.k cZ ((bN,bB),unsentN,unsentB)).1.1 24),(A.k cZ ((bN,bB),unsentN,unsentB)).1.1)) (.ret ((A.k cZ ((bN,bB),unsentN,unsentB)).1,(A.k bU ((A.k cZ ((bN,bB),unsentN,unsentB)).1,(A.b .sub .i64 (A.k cZ ((bN,bB),unsentN,unsentB)).1.1 24),(A.k cZ ((bN,bB),unsentN,unsentB)).1.1)))))))) (.need (A.k (@tt ((Int×List Int)×Int×Int)) ((bN,bB),0,55)) (.br (A.c .neq (A.k bU ((bN,bB),0,55)).2 0) (.ret ((0,([]:List Int)),(0,([]:List Int)),(A.k bU ((bN,bB),0,55)).2)) (.need (A.k (@tt ((Int×List Int)×(Int×List Int))) ((A.k bU ((bN,bB),0,55)).1,0,([]:List Int))) (.br (A.c .neq (A.k cZ ((A.k bU ((bN,bB),0,55)).1,0,([]:List Int))).2 0) (.ret ((0,([]:List Int)),(0,([]:List Int)),(A.k cZ ((A.k bU ((bN,bB),0,55)).1,0,([]:List Int))).2)) (.need (A.k (@tt ((Int×List Int)×Int×Int)) ((A.k cZ ((A.k bU ((bN,bB),0,55)).1,0,([]:List Int))).1,(A.b .sub .i64 (A.k cZ ((A.k bU ((bN,bB),0,55)).1,0,([]:List Int))).1.1 24),(A.k cZ ((A.k bU ((bN,bB),0,55)).1,0,([]:List Int))).1.1)) (.br (A.c .neq (A.k bU ((A.k cZ ((A.k bU ((bN,bB),0,55)).1,0,([]:List Int))).1,(A.b .sub .i64 (A.k cZ ((A.k bU ((bN,bB),0,55)).1,0,([]:List Int))).1.1 24),(A.k cZ ((A.k bU ((bN,bB),0,55)).1,0,([]:List Int))).1.1)).2 0) (.ret ((0,([]:List Int)),(0,([]:List Int)),(A.k bU ((A.k cZ ((A.k bU ((bN,bB),0,55)).1,0,([]:List Int))).1,(A.b .sub .i64 (A.k cZ ((A.k bU ((bN,bB),0,55)).1,0,([]:List Int))).1.1 24),(A.k cZ ((A.k bU ((bN,bB),0,55)).1,0,([]:List Int))).1.1)).2)) (.need (A.k (@tt ((Int×List Int)×(Int×List Int))) ((bN,bB),(A.k bU ((A.k cZ ((A.k bU ((bN,bB),0,55)).1,0,([]:List Int))).1,(A.b .sub .i64 (A.k cZ ((A.k bU ((bN,bB),0,55)).1,0,([]:List Int))).1.1 24),(A.k cZ ((A.k bU ((bN,bB),0,55)).1,0,([]:List Int))).1.1)).1)) (.ret ((A.k cZ ((bN,bB),(A.k bU ((A.k cZ ((A.k bU ((bN,bB),0,55)).1,0,([]:List Int))).1,(A.b .sub .i64 (A.k cZ ((A.k bU ((bN,bB),0,55)).1,0,([]:List Int))).1.1 24),(A.k cZ ((A.k bU ((bN,bB),0,55)).1,0,([]:List Int))).1.1)).1)).1,(A.k bU ((A.k cZ ((A.k bU ((bN,bB),0,55)).1,0,([]:List Int))).1,(A.b .sub .i64 (A.k cZ ((A.k bU ((bN,bB),0,55)).1,0,([]:List Int))).1.1 24),(A.k cZ ((A.k bU ((bN,bB),0,55)).1,0,([]:List Int))).1.1)).1,(A.k cZ ((bN,bB),(A.k bU ((A.k cZ ((A.k bU ((bN,bB),0,55)).1,0,([]:List Int))).1,(A.b .sub .i64 (A.k cZ ((A.k bU ((bN,bB),0,55)).1,0,([]:List Int))).1.1 24),(A.k cZ ((A.k bU ((bN,bB),0,55)).1,0,([]:List Int))).1.1)).1)).2)))))))))
def bg:((Int×List Int)×Int×(Int×List Int))→((Int×List Int)×(Int×List Int)×Int):=fun((bN,bB),kind,unsentN,unsentB)=>(DL ai bN bB kind unsentN unsentB).val (Ty.cn [(.struct [yI,yB]),(.struct [yI,yB]),yI])
def SJ:aA:=⟨[(.struct [yI,yB]),yI,(.struct [yI,yB])], [(.struct [yI,yB]),(.struct [yI,yB]),yI],(@tt ((Int×List Int)×Int×(Int×List Int))),bg⟩
theorem Sn:Sd 234 SJ:=aL ax cm true 110 [] (fun A ((bN,bB),kind,unsentN,unsentB)=>DL A bN bB kind unsentN unsentB) (fc Tryz.func234 fz) (sc Sf (sc JR sz)) (fun(((bN,bB),kind,unsentN,unsentB):(Int×List Int)×Int×(Int×List Int)) hp h=>by
 show(DL ai bN bB kind unsentN unsentB).pre=true
 simp[DL,LT.pre,ap,dc])
theorem CU{n:Nat}(hn:n≤4096):iN ((n:Int),1)=eF n 1∧iN ((n:Int),2)=eF n 2∧iN ((n:Int),3)=eF n 3∧iN ((n:Int),4)=eF n 4:=by
 have key:∀a:Nat,a≤100→(bif ai.c .geq (ai.b .sub .i64 (n:Int) (a:Int)) 0 then(bif ai.c .leq (ai.b .sub .i64 (n:Int) (a:Int)) 64 then ai.c .eql (ai.b .rem .i64 (ai.b .sub .i64 (n:Int) (a:Int)) 8) 0 else false) else false)=(decide (a≤n)&&decide (n≤a+64)&&decide ((n-a)%8=0)):=by
  intro a ha
  rw[bl,fQ (by omega) (by omega),aN,aF,aS,rN]
  by_cases h1:a≤n
  ·rw[Int.tmod_eq_emod_of_nonneg (by omega),show decide ((0:Int)≤(n:Int)-(a:Int))=true from by simp;omega,cond_true,show decide (a≤n)=true from by simpa using h1,Bool.true_and]
   by_cases h2:n≤a+64
   ·rw[show decide ((n:Int)-(a:Int)≤64)=true from by simp;omega,cond_true,show decide (n≤a+64)=true from by simpa using h2,Bool.true_and,Bool.eq_iff_iff]
    simp only[beq_iff_eq,decide_eq_true_eq]
    omega
   ·rw[show decide ((n:Int)-(a:Int)≤64)=false from by simp;omega,cond_false,show decide (n≤a+64)=false from by simpa using h2,Bool.false_and]
  ·rw[show decide ((0:Int)≤(n:Int)-(a:Int))=false from by simp;omega,cond_false,show decide (a≤n)=false from by simpa using h1,Bool.false_and,Bool.false_and]
 refine⟨?_,?_,?_,?_⟩
 ·show((n:Int)==40)=(n==40)
  rw[Bool.eq_iff_iff];simp;omega
 ·refine(key 29 (by decide)).trans ?_
  show _=(decide (29≤n)&&decide (n≤93)&&(n%8==5))
  rw[Bool.eq_iff_iff];simp;omega
 ·show((n:Int)==54)=(n==54)
  rw[Bool.eq_iff_iff];simp;omega
 ·refine(key 79 (by decide)).trans ?_
  show _=(decide (79≤n)&&decide (n≤143)&&(n%8==7))
  rw[Bool.eq_iff_iff];simp;omega
theorem vu{n m k:Int}{b u:List Int}(hk:k=1∨k=2):bg ((n,b),k,(m,u))=((dd ((n,b),(m,u))).1,zB,(dd ((n,b),(m,u))).2):=by
 have h1:ai.c .neq k 4=true:=eE (by omega)
 have h3:ai.c .neq k 3=true:=eE (by omega)
 simp only[bg,DL,LT.val,h1,h3,cond_true]
 show(bif _ then _ else _)=_
 cases ai.c .neq (ai.k cZ ((n,b),(m,u))).2 0<;>rfl
theorem DR{n m:Int}{b u:List Int}:bg ((n,b),3,(m,u))=bif (dd ((n,b),(m,u))).2 != 0 then((dd ((n,b),(m,u))).1,zB,(dd ((n,b),(m,u))).2) else((dd ((n,b),(m,u))).1,bX ((dd ((n,b),(m,u))).1,ai.b .sub .i64 (dd ((n,b),(m,u))).1.1 24,(dd ((n,b),(m,u))).1.1)):=by kernel_rfl
theorem DF{n m:Int}{b u:List Int}:bg ((n,b),4,(m,u))=bif (bX ((n,b),0,55)).2 != 0 then(zB,zB,(bX ((n,b),0,55)).2) else
  bif (dd ((bX ((n,b),0,55)).1,zB)).2 != 0 then(zB,zB,(dd ((bX ((n,b),0,55)).1,zB)).2) else
  bif (bX ((dd ((bX ((n,b),0,55)).1,zB)).1,ai.b .sub .i64 (dd ((bX ((n,b),0,55)).1,zB)).1.1 24,(dd ((bX ((n,b),0,55)).1,zB)).1.1)).2 != 0 then(zB,zB,(bX ((dd ((bX ((n,b),0,55)).1,zB)).1,ai.b .sub .i64 (dd ((bX ((n,b),0,55)).1,zB)).1.1 24,(dd ((bX ((n,b),0,55)).1,zB)).1.1)).2) else
  ((dd ((n,b),(bX ((dd ((bX ((n,b),0,55)).1,zB)).1,ai.b .sub .i64 (dd ((bX ((n,b),0,55)).1,zB)).1.1 24,(dd ((bX ((n,b),0,55)).1,zB)).1.1)).1)).1,(bX ((dd ((bX ((n,b),0,55)).1,zB)).1,ai.b .sub .i64 (dd ((bX ((n,b),0,55)).1,zB)).1.1 24,(dd ((bX ((n,b),0,55)).1,zB)).1.1)).1,(dd ((n,b),(bX ((dd ((bX ((n,b),0,55)).1,zB)).1,ai.b .sub .i64 (dd ((bX ((n,b),0,55)).1,zB)).1.1 24,(dd ((bX ((n,b),0,55)).1,zB)).1.1)).1)).2):=by kernel_rfl
theorem sJ{l:List Bool}(h1:24≤l.length)(h2:l.length≤4096):bX (bO l,ai.b .sub .i64 (bO l).1 24,(bO l).1)=(bO (l.drop (l.length-24)),0):=by
 have hb:(bO l).1=((l.length:Nat):Int):=rfl
 rw[hb,show ai.b .sub .i64 ((l.length:Nat):Int) 24=((l.length-24:Nat):Int) from kg (j:=24) h1 (by omega),CS h2 (by omega) (Nat.le_refl _),List.take_length]
theorem Ck{n:Nat}{b:List Int}(hok:bD ((n:Int),b)=true)(hn:n=54):bg (((n:Int),b),3,(0, []))=bif over 0 (unpack n b) != 0 then(zB,zB,21) else(bO ((unpack n b).take 30),bO (((unpack n b).drop 6).take 24),0):=by
 have hl:(bG ((n:Int),b)).length=n:=by rw[gb];rfl
 have e:=lI (u:=(0, [])) hok rfl (by omega)
 rw[hl,show over 0 (bG ((0:Int),([]:List Int)))=0 from rfl,show n-24=30 from by omega,show bG ((n:Int),b)=unpack n b from rfl] at e
 have h30:((unpack n b).take 30).length=30:=by rw[List.length_take,aX];omega
 have e2:=sJ (l:=(unpack n b).take 30) (by omega) (by omega)
 rw[h30,List.drop_take,show 30-24=6 from rfl,show 30-6=24 from rfl] at e2
 rw[DR,e]
 cases over 0 (unpack n b) != 0
 ·simp only[cond_false]
  rw[e2];rfl
 ·rfl
theorem CH{n:Nat}{b:List Int}(hok:bD ((n:Int),b)=true)(hn:79≤n)(hn2:n≤143):bg (((n:Int),b),4,(0, []))=bif over 0 ((unpack n b).take 55) != 0 then(zB,zB,21) else bif over (over 0 (((unpack n b).drop 7).take 24)) (unpack n b) != 0 then(zB,bO (((unpack n b).drop 7).take 24),21) else(bO ((unpack n b).take (n-24)),bO (((unpack n b).drop 7).take 24),0):=by
 have hl:(bG ((n:Int),b)).length=n:=by rw[gb];rfl
 have h55:((unpack n b).take 55).length=55:=by rw[List.length_take,aX];omega
 have h31:((unpack n b).take 31).length=31:=by rw[List.length_take,aX];omega
 have e1:bX (((n:Int),b),0,55)=(bO ((unpack n b).take 55),0):=by
  rw[bX]
  simp only[hok]
  rw[show decide ((n:Int)<55)=false from by simp;omega]
  rfl
 have e2:dd (bO ((unpack n b).take 55),zB)=bif over 0 ((unpack n b).take 55) != 0 then(zB,21) else(bO ((unpack n b).take 31),0):=by
  have hk:bD (bO ((unpack n b).take 55))=true:=gP (by omega)
  have:=lI (n:=(bO ((unpack n b).take 55)).1) (b:=(bO ((unpack n b).take 55)).2) (u:=zB) hk rfl (by rw[show((bO ((unpack n b).take 55)).1,(bO ((unpack n b).take 55)).2)=bO ((unpack n b).take 55) from rfl,fX];omega)
  rw[show((bO ((unpack n b).take 55)).1,(bO ((unpack n b).take 55)).2)=bO ((unpack n b).take 55) from rfl,fX,h55,List.take_take,show over 0 (bG zB)=0 from rfl] at this
  exact this
 have e3:bX (bO ((unpack n b).take 31),ai.b .sub .i64 (bO ((unpack n b).take 31)).1 24,(bO ((unpack n b).take 31)).1)=(bO (((unpack n b).drop 7).take 24),0):=by
  have:=sJ (l:=(unpack n b).take 31) (by omega) (by omega)
  rw[h31,List.drop_take] at this
  exact this
 have e4:dd (((n:Int),b),bO (((unpack n b).drop 7).take 24))=bif over (over 0 (((unpack n b).drop 7).take 24)) (unpack n b) != 0 then(zB,21) else(bO ((unpack n b).take (n-24)),0):=by
  rw[lI hok (gP (by rw[List.length_take];omega)) (by omega),hl,fX];rfl
 rw[DF,e1]
 simp only[e2]
 cases over 0 ((unpack n b).take 55) != 0
 ·simp only[cond_false,e3]
  rw[e4]
  cases over (over 0 (((unpack n b).drop 7).take 24)) (unpack n b) != 0<;>rfl
 ·rfl
end Go.Ev.M
