/-
  PROVED: what functions of the packages member and metronomeref09 compute. Conditions: none.
-/
import Derived.Test.YtjceiokllpmnkaaGreatTy
import Derived.Test.YtjceiokllpmnkaaGreatEvC
import Derived.Test.YtjceiokllpmnkaaGreatPl
namespace Go.Ev.M
open Go.Proofs
set_option maxRecDepth 100000
set_option linter.unusedVariables false
set_option linter.unusedSimpArgs false
theorem Qz{n:Int}(h0:0≤n)(h1:n≤8):ah.b .shl .i64 1 n=((2^n.toNat:Nat):Int):=by
 have:n=0∨n=1∨n=2∨n=3∨n=4∨n=5∨n=6∨n=7∨n=8:=by omega
 rcases this with rfl|rfl|rfl|rfl|rfl|rfl|rfl|rfl|rfl<;>decide
theorem qx{n:Nat}(h:n≤8):2^n≤256:=Nat.pow_le_pow_right (by decide) h
def kP(c a:Int):Bool:=c.toNat.testBit a.toNat
def gm(c s:Int):Int:=ah.b .or .i64 c (ah.b .shl .i64 1 s)
def ky(c s:Int):Int:=ah.b .andNot .i64 c (ah.b .shl .i64 1 s)
theorem Jc:∀c:Fin 256,∀a:Fin 8,ah.b .or .i64 (c.val:Int) (ah.b .shl .i64 1 (a.val:Int))=((c.val ||| 2^a.val:Nat):Int):=by decide +kernel
theorem Jb:∀c:Fin 256,∀a:Fin 8,ah.b .andNot .i64 (c.val:Int) (ah.b .shl .i64 1 (a.val:Int))=((c.val &&& (255 ^^^ 2^a.val):Nat):Int):=by decide +kernel
theorem Fg{c s:Int}(h0:0≤c)(h1:c<256)(h2:0≤s)(h3:s<8):gm c s=((c.toNat ||| 2^s.toNat:Nat):Int):=by
 obtain⟨c,rfl⟩:=Int.eq_ofNat_of_zero_le h0
 obtain⟨s,rfl⟩:=Int.eq_ofNat_of_zero_le h2
 exact Jc ⟨c,by omega⟩ ⟨s,by omega⟩
theorem del_eq{c s:Int}(h0:0≤c)(h1:c<256)(h2:0≤s)(h3:s<8):ky c s=((c.toNat &&& (255 ^^^ 2^s.toNat):Nat):Int):=by
 obtain⟨c,rfl⟩:=Int.eq_ofNat_of_zero_le h0
 obtain⟨s,rfl⟩:=Int.eq_ofNat_of_zero_le h2
 exact Jb ⟨c,by omega⟩ ⟨s,by omega⟩
theorem M6{c s n:Int}(h0:0≤c)(hn:n≤8)(h1:c<((2^n.toNat:Nat):Int))(h2:0≤s)(h3:s<n):0≤gm c s∧gm c s<((2^n.toNat:Nat):Int):=by
 have hp:=qx (n:=n.toNat) (by omega)
 rw[Fg h0 (by omega) h2 (by omega)]
 have h4:2^s.toNat<2^n.toNat:=Nat.pow_lt_pow_right (by decide) (by omega)
 have:=Nat.or_lt_two_pow (x:=c.toNat) (y:=2^s.toNat) (n:=n.toNat) (by omega) h4
 omega
theorem Gj{c s n:Int}(h0:0≤c)(hn:n≤8)(h1:c<((2^n.toNat:Nat):Int))(h2:0≤s)(h3:s<8):0≤ky c s∧ky c s<((2^n.toNat:Nat):Int):=by
 have hp:2^n.toNat≤2^8:=Nat.pow_le_pow_right (by decide) (by omega)
 rw[del_eq h0 (by omega) h2 (by omega)]
 have:c.toNat &&& (255 ^^^ 2^s.toNat)≤c.toNat:=Nat.and_le_left
 omega
theorem Hl{c s i:Int}(h0:0≤c)(h1:c<256)(h2:0≤s)(h3:s<8)(h4:0≤i):kP (gm c s) i=(kP c i||s==i):=by
 rw[Fg h0 h1 h2 h3,kP,kP,Int.toNat_natCast,Nat.testBit_or,Nat.testBit_two_pow]
 congr 1
 rw[Bool.eq_iff_iff];simp;omega
theorem xu{c s i:Int}(h0:0≤c)(h1:c<256)(h2:0≤s)(h3:s<8)(h4:0≤i):kP (ky c s) i=(kP c i&&s != i):=by
 rw[del_eq h0 h1 h2 h3,kP,kP,Int.toNat_natCast,Nat.testBit_and,Nat.testBit_xor,Nat.testBit_two_pow]
 by_cases hi:i<8
 ·have e:Nat.testBit 255 i.toNat=true:=by
   have:i.toNat=0∨i.toNat=1∨i.toNat=2∨i.toNat=3∨i.toNat=4∨i.toNat=5∨i.toNat=6∨i.toNat=7:=by omega
   rcases this with h|h|h|h|h|h|h|h<;>rw[h]<;>decide
  rw[e]
  congr 1
  rw[Bool.eq_iff_iff];simp;omega
 ·have:c.toNat.testBit i.toNat=false:=Nat.testBit_lt_two_pow (Nat.lt_of_lt_of_le (by omega:c.toNat<2^8) (Nat.pow_le_pow_right (by decide) (by omega)))
  rw[this];rfl
theorem EY:∀c:Fin 256,∀a:Fin 8,(ah.b .and .i64 (ah.b .shr .i64 (c.val:Int) (a.val:Int)) 1==0)=!(c.val.testBit a.val):=by decide +kernel
theorem FC:∀c:Fin 256,∀a:Fin 8,(ah.b .and .i64 (c.val:Int) (ah.b .shl .i64 1 (a.val:Int))==0)=!(c.val.testBit a.val):=by decide +kernel
theorem PQ{c a:Int}(h0:0≤c)(h1:c<256)(h2:0≤a)(h3:a<8):ah.b .and .i64 (ah.b .shr .i64 c a) 1=0↔kP c a=false:=by
 obtain⟨c,rfl⟩:=Int.eq_ofNat_of_zero_le h0
 obtain⟨a,rfl⟩:=Int.eq_ofNat_of_zero_le h2
 have:=EY ⟨c,by omega⟩ ⟨a,by omega⟩
 simp only at this
 rw[←beq_iff_eq,this]
 simp[kP]
theorem RV{c a:Int}(h0:0≤c)(h1:c<256)(h2:0≤a)(h3:a<8):ah.b .and .i64 c (ah.b .shl .i64 1 a)=0↔kP c a=false:=by
 obtain⟨c,rfl⟩:=Int.eq_ofNat_of_zero_le h0
 obtain⟨a,rfl⟩:=Int.eq_ofNat_of_zero_le h2
 have:=FC ⟨c,by omega⟩ ⟨a,by omega⟩
 simp only at this
 rw[←beq_iff_eq,this]
 simp[kP]
def gT(a b c d e f g:Int):Prop:=4≤b∧b≤8∧0≤a∧a<b∧0≤g∧g<b∧0≤c∧c<((2^b.toNat:Nat):Int)∧0≤d∧d≤1048576∧0≤e∧e≤1048576∧0≤f∧f≤2∧(f≠0→kP c a=true)∧(f=2→g≠a)
theorem QK{a b c d e f g:Int}(h:gT a b c d e f g):c<256:=by
 obtain⟨h1,h2,_,_,_,_,_,h3,_⟩:=h
 have:=qx (n:=b.toNat) (by omega)
 omega
def Qe(A:bu)(n:Int)(most:Int):LT Bool Empty:=.br (A.c .geq n 0) (.ret (A.c .leq n most)) (.ret false)
def vB:(Int×Int)→Bool:=fun(n,most)=>(Qe ah n most).val (Ty.bV [.bool])
def XL:aC:=⟨[yI,yI], [.bool],(@tt (Int×Int)),vB⟩
theorem NH:Sd 99 XL:=aK au dC true 21 [] (fun A (n,most)=>Qe A n most) (fc Tryz.func99 fz) sz (fun((n,most):Int×Int) hp h=>by
 show(Qe ah n most).pre=true
 simp only[Qe,LT.pre,fH,aB,aF,ao,ax,aA,aI,aL,a_,fD,al,bi,aS,aY,cn,cB,Bool.and_eq_true,Bool.or_eq_true,Bool.and_eq_false_iff,Bool.or_eq_false_iff,Bool.not_eq_true',Bool.not_eq_false',decide_eq_true_eq,decide_eq_false_iff_not,bne_iff_ne,beq_iff_eq,bne_eq_false_iff_eq,beq_eq_false_iff_ne]
 simp only[Ty.du,Ty.has,pO,Dl] at h
 (repeat' (first|intro _|constructor))<;>(try omega))
theorem w6{n m:Int}:vB (n,m)=(decide (0≤n)&&decide (n≤m)):=by
 simp only[vB,Qe,LT.val,aI,ax]
 cases decide (0≤n)<;>rfl
def t34(A:bu)(mId:Int)(mN:Int)(mSet:Int)(mAcc:Int)(mFail:Int)(mStage:Int)(mFirst:Int):LT Int Empty:=.br (A.c .lss mN 4) (.ret 90) (.br (A.c .gtr mN 8) (.ret 90) (.need (A.k (@tt (Int×Int)) (mId,(A.b .sub .i64 mN 1))) (.br (A.not (A.k vB (mId,(A.b .sub .i64 mN 1)))) (.ret 90) (.need (A.k (@tt (Int×Int)) (mFirst,(A.b .sub .i64 mN 1))) (.br (A.not (A.k vB (mFirst,(A.b .sub .i64 mN 1)))) (.ret 90) (.need (A.k (@tt (Int×Int)) (mAcc,1048576)) (.br (A.not (A.k vB (mAcc,1048576))) (.ret 90) (.need (A.k (@tt (Int×Int)) (mFail,1048576)) (.br (A.not (A.k vB (mFail,1048576))) (.ret 90) (.need (A.k (@tt (Int×Int)) (mStage,2)) (.br (A.not (A.k vB (mStage,2))) (.ret 90) (.need (A.c .leq 0 mN) (.need (A.k (@tt (Int×Int)) (mSet,(A.b .sub .i64 (A.b .shl .i64 1 mN) 1))) (.br (A.not (A.k vB (mSet,(A.b .sub .i64 (A.b .shl .i64 1 mN) 1)))) (.ret 90) (.br (A.c .neq mStage 0) (.need (A.c .leq 0 mId) (.br (A.c .eql (A.b .and .i64 (A.b .shr .i64 mSet mId) 1) 0) (.ret 90) (.br (A.c .eql mStage 2) (.br (A.c .eql mFirst mId) (.ret 90) (.ret 0)) (.ret 0)))) (.br (A.c .eql mStage 2) (.br (A.c .eql mFirst mId) (.ret 90) (.ret 0)) (.ret 0)))))))))))))))))
def i7:((Int×Int×Int×Int×Int×Int×Int))→Int:=fun(mId,mN,mSet,mAcc,mFail,mStage,mFirst)=>(t34 ah mId mN mSet mAcc mFail mStage mFirst).val (Ty.bV [yI])
def YT:aC:=⟨[(.struct [yI,yI,yI,yI,yI,yI,yI])], [yI],(@tt ((Int×Int×Int×Int×Int×Int×Int))),i7⟩
theorem Gg:Sd 46 YT:=aK au dC true 123 [] (fun A (mId,mN,mSet,mAcc,mFail,mStage,mFirst)=>t34 A mId mN mSet mAcc mFail mStage mFirst) (fc Tryz.func46 fz) (sc NH sz) (fun((mId,mN,mSet,mAcc,mFail,mStage,mFirst):(Int×Int×Int×Int×Int×Int×Int)) hp h=>by
 show(t34 ah mId mN mSet mAcc mFail mStage mFirst).pre=true
 simp only[t34,LT.pre,fH,aB,aF,ao,ax,aA,aI,aL,a_,fD,al,bi,aS,aY,cn,cB,Bool.and_eq_true,Bool.or_eq_true,Bool.and_eq_false_iff,Bool.or_eq_false_iff,Bool.not_eq_true',Bool.not_eq_false',decide_eq_true_eq,decide_eq_false_iff_not,bne_iff_ne,beq_iff_eq,bne_eq_false_iff_eq,beq_eq_false_iff_ne,w6]
 simp only[Ty.du,Ty.has,pO,Dl] at h
 (repeat' (first|intro _|constructor))<;>(try omega))
theorem AY{x:Int×Int×Int×Int×Int×Int×Int}:i7 x=0∨i7 x=90:=by
 obtain⟨a,b,c,d,e,f,g⟩:=x
 exact LT.jc (p:=fun y=>y=0∨y=90) (.inl rfl) (by simp[t34,LT.all])
theorem fx{a b c d e f g:Int}:i7 (a,b,c,d,e,f,g)=0↔gT a b c d e f g:=by
 simp only[i7,t34,LT.val,lb,aB,aF,ao,ax,aA,aI,aL,a_,fD,al,bi,aS,aY,cn,cB,Bool.and_eq_true,Bool.or_eq_true,Bool.and_eq_false_iff,Bool.or_eq_false_iff,Bool.not_eq_true',Bool.not_eq_false',decide_eq_true_eq,decide_eq_false_iff_not,bne_iff_ne,beq_iff_eq,bne_eq_false_iff_eq,beq_eq_false_iff_ne,w6]
 simp
 unfold gT
 by_cases hb:4≤b∧b≤8
 ·rw[fU (by omega) (by omega),Qz (by omega) hb.2]
  have hp:=qx (n:=b.toNat) (by omega)
  have hp1:1≤2^b.toNat:=Nat.one_le_two_pow
  rw[fU (by omega) (by omega)]
  by_cases hc:0≤c∧c<256∧0≤a∧a<8
  ·have h:=PQ hc.1 hc.2.1 hc.2.2.1 hc.2.2.2
   rw[h]
   cases kP c a<;>simp<;>omega
  ·constructor
   ·intro h;exfalso;omega
   ·intro h;exfalso;omega
 ·constructor
  ·intro h;exfalso;omega
  ·intro h;exfalso;omega
def t80(A:bu)(n:Int):LT Int Empty:=.need (A.c .leq 0 (A.v .u64 n)) (.ret (A.b .shl .i64 1 (A.v .u64 n)))
def IJ:Int→Int:=fun n=>(t80 ah n).val (Ty.bV [yI])
theorem BG{n:Int}(h0:0≤n)(h1:n≤8):IJ n=((2^n.toNat:Nat):Int):=by
 have:n=0∨n=1∨n=2∨n=3∨n=4∨n=5∨n=6∨n=7∨n=8:=by omega
 rcases this with rfl|rfl|rfl|rfl|rfl|rfl|rfl|rfl|rfl<;>decide
theorem DL{n:Int}(h0:0≤n)(h1:n≤8):IJ n=ah.b .shl .i64 1 n:=by rw[BG h0 h1,Qz h0 h1]
def t35(A:bu)(mId:Int)(mN:Int)(mSet:Int)(mAcc:Int)(mFail:Int)(mStage:Int)(mFirst:Int):LT Int Empty:=.br (A.c .lss mN 4) (.ret 90) (.br (A.c .gtr mN 8) (.ret 90) (.br (A.c .lss mId 0) (.ret 90) (.br (A.c .geq mId mN) (.ret 90) (.br (A.c .lss mFirst 0) (.ret 90) (.br (A.c .geq mFirst mN) (.ret 90) (.br (A.c .lss mSet 0) (.ret 90) (.need (A.k (@tt Int) mN) (.br (A.c .geq mSet (A.k IJ mN)) (.ret 90) (.br (A.c .lss mAcc 0) (.ret 90) (.br (A.c .gtr mAcc 1048576) (.ret 90) (.br (A.c .lss mFail 0) (.ret 90) (.br (A.c .gtr mFail 1048576) (.ret 90) (.br (A.c .lss mStage 0) (.ret 90) (.br (A.c .gtr mStage 2) (.ret 90) (.br (A.c .neq mStage 0) (.need (A.k (@tt Int) mId) (.br (A.c .eql (A.b .and .i64 mSet (A.k IJ mId)) 0) (.ret 90) (.br (A.c .eql mStage 2) (.br (A.c .eql mFirst mId) (.ret 90) (.ret 0)) (.ret 0)))) (.br (A.c .eql mStage 2) (.br (A.c .eql mFirst mId) (.ret 90) (.ret 0)) (.ret 0)))))))))))))))))
def lM:((Int×Int×Int×Int×Int×Int×Int))→Int:=fun(mId,mN,mSet,mAcc,mFail,mStage,mFirst)=>(t35 ah mId mN mSet mAcc mFail mStage mFirst).val (Ty.bV [yI])
theorem Ba{x:Int×Int×Int×Int×Int×Int×Int}:lM x=0∨lM x=90:=by
 obtain⟨a,b,c,d,e,f,g⟩:=x
 exact LT.jc (p:=fun y=>y=0∨y=90) (.inl rfl) (by simp[t35,LT.all])
theorem kG{a b c d e f g:Int}:lM (a,b,c,d,e,f,g)=0↔gT a b c d e f g:=by
 simp only[lM,t35,LT.val,lb,aB,aF,ao,ax,aA,aI,aL,a_,fD,al,bi,aS,aY,cn,cB,Bool.and_eq_true,Bool.or_eq_true,Bool.and_eq_false_iff,Bool.or_eq_false_iff,Bool.not_eq_true',Bool.not_eq_false',decide_eq_true_eq,decide_eq_false_iff_not,bne_iff_ne,beq_iff_eq,bne_eq_false_iff_eq,beq_eq_false_iff_ne]
 simp
 unfold gT
 by_cases hb:4≤b∧b≤8∧0≤a∧a<b
 ·rw[BG (by omega) hb.2.1,DL (n:=a) (by omega) (by omega)]
  have hp:=qx (n:=b.toNat) (by omega)
  by_cases hc:0≤c∧c<256
  ·have h:=RV (a:=a) hc.1 hc.2 (by omega) (by omega)
   rw[h]
   cases kP c a<;>simp<;>omega
  ·constructor
   ·intro h;exfalso;omega
   ·intro h;exfalso;omega
 ·constructor
  ·intro h;exfalso;omega
  ·intro h;exfalso;omega
theorem V0{x:Int×Int×Int×Int×Int×Int×Int}:i7 x=lM x:=by
 have h1:=AY (x:=x)
 have h2:=Ba (x:=x)
 obtain⟨a,b,c,d,e,f,g⟩:=x
 have h3:=fx (a:=a) (b:=b) (c:=c) (d:=d) (e:=e) (f:=f) (g:=g)
 have h4:=kG (a:=a) (b:=b) (c:=c) (d:=d) (e:=e) (f:=f) (g:=g)
 by_cases h:gT a b c d e f g
 ·rw[h3.2 h,h4.2 h]
 ·have:=mt h3.1 h;have:=mt h4.1 h;omega
def t77(A:bu)(mId:Int)(mN:Int)(mSet:Int)(mAcc:Int)(mFail:Int)(mStage:Int)(mFirst:Int)(node:Int):LT Bool Empty:=.need (A.k (@tt (Int×Int)) (node,(A.b .sub .i64 mN 1))) (.br (A.k vB (node,(A.b .sub .i64 mN 1))) (.ret (A.c .neq node mId)) (.ret false))
def vm:((Int×Int×Int×Int×Int×Int×Int)×Int)→Bool:=fun((mId,mN,mSet,mAcc,mFail,mStage,mFirst),node)=>(t77 ah mId mN mSet mAcc mFail mStage mFirst node).val (Ty.bV [.bool])
def Yt:aC:=⟨[(.struct [yI,yI,yI,yI,yI,yI,yI]),yI], [.bool],(@tt ((Int×Int×Int×Int×Int×Int×Int)×Int)),vm⟩
theorem LA:Sd 177 Yt:=aK au dC true 26 [] (fun A ((mId,mN,mSet,mAcc,mFail,mStage,mFirst),node)=>t77 A mId mN mSet mAcc mFail mStage mFirst node) (fc Tryz.func177 fz) (sc NH sz) (fun(((mId,mN,mSet,mAcc,mFail,mStage,mFirst),node):(Int×Int×Int×Int×Int×Int×Int)×Int) hp h=>by
 show(t77 ah mId mN mSet mAcc mFail mStage mFirst node).pre=true
 simp only[t77,LT.pre,fH,aB,aF,ao,ax,aA,aI,aL,a_,fD,al,bi,aS,aY,cn,cB,Bool.and_eq_true,Bool.or_eq_true,Bool.and_eq_false_iff,Bool.or_eq_false_iff,Bool.not_eq_true',Bool.not_eq_false',decide_eq_true_eq,decide_eq_false_iff_not,bne_iff_ne,beq_iff_eq,bne_eq_false_iff_eq,beq_eq_false_iff_ne]
 simp only[Ty.du,Ty.has,pO,Dl] at h
 (repeat' (first|intro _|constructor))<;>(try omega))
def t73(A:bu)(mId:Int)(mN:Int)(mSet:Int)(mAcc:Int)(mFail:Int)(mStage:Int)(mFirst:Int)(sender:Int):LT Int Empty:=.need (A.k (@tt ((Int×Int×Int×Int×Int×Int×Int))) (mId,mN,mSet,mAcc,mFail,mStage,mFirst)) (.br (A.c .neq (A.k i7 (mId,mN,mSet,mAcc,mFail,mStage,mFirst)) 0) (.ret (A.k i7 (mId,mN,mSet,mAcc,mFail,mStage,mFirst))) (.need (A.k (@tt ((Int×Int×Int×Int×Int×Int×Int)×Int)) ((mId,mN,mSet,mAcc,mFail,mStage,mFirst),sender)) (.br (A.not (A.k vm ((mId,mN,mSet,mAcc,mFail,mStage,mFirst),sender))) (.ret 2) (.ret 0))))
def Ar:((Int×Int×Int×Int×Int×Int×Int)×Int)→Int:=fun((mId,mN,mSet,mAcc,mFail,mStage,mFirst),sender)=>(t73 ah mId mN mSet mAcc mFail mStage mFirst sender).val (Ty.bV [yI])
def X8:aC:=⟨[(.struct [yI,yI,yI,yI,yI,yI,yI]),yI], [yI],(@tt ((Int×Int×Int×Int×Int×Int×Int)×Int)),Ar⟩
theorem TB:Sd 183 X8:=aK au dC true 39 [] (fun A ((mId,mN,mSet,mAcc,mFail,mStage,mFirst),sender)=>t73 A mId mN mSet mAcc mFail mStage mFirst sender) (fc Tryz.func183 fz) (sc Gg (sc LA sz)) (fun(((mId,mN,mSet,mAcc,mFail,mStage,mFirst),sender):(Int×Int×Int×Int×Int×Int×Int)×Int) hp h=>by
 show(t73 ah mId mN mSet mAcc mFail mStage mFirst sender).pre=true
 simp only[t73,LT.pre,fH,aB,aF,ao,ax,aA,aI,aL,a_,fD,al,bi,aS,aY,cn,cB,Bool.and_eq_true,Bool.or_eq_true,Bool.and_eq_false_iff,Bool.or_eq_false_iff,Bool.not_eq_true',Bool.not_eq_false',decide_eq_true_eq,decide_eq_false_iff_not,bne_iff_ne,beq_iff_eq,bne_eq_false_iff_eq,beq_eq_false_iff_ne]
 simp only[Ty.du,Ty.has,pO,Dl] at h
 (repeat' (first|intro _|constructor))<;>(try omega))
def t78(A:bu)(mId:Int)(mN:Int)(mSet:Int)(mAcc:Int)(mFail:Int)(mStage:Int)(mFirst:Int)(sender:Int):LT (List Int×Int) Empty:=.need (A.c .leq 0 mId) (.need (A.c .leq 0 mFirst) (.need (A.c .leq 0 sender) (.br (A.c .eql mStage 0) (.ret ([(A.b .or .i64 mSet (A.b .shl .i64 1 sender)),0],1)) (.br (A.c .eql mStage 1) (.ret ([(A.b .or .i64 (A.b .or .i64 mSet (A.b .shl .i64 1 sender)) (A.b .shl .i64 1 mId)),(A.b .andNot .i64 (A.b .or .i64 mSet (A.b .shl .i64 1 sender)) (A.b .shl .i64 1 mId))],2)) (.br (A.c .eql sender mFirst) (.ret ([(A.b .or .i64 (A.b .or .i64 mSet (A.b .shl .i64 1 sender)) (A.b .shl .i64 1 mId)),0],1)) (.ret ([(A.b .andNot .i64 (A.b .or .i64 (A.b .or .i64 mSet (A.b .shl .i64 1 sender)) (A.b .shl .i64 1 mId)) (A.b .shl .i64 1 mFirst)),(A.b .andNot .i64 (A.b .or .i64 (A.b .or .i64 mSet (A.b .shl .i64 1 sender)) (A.b .shl .i64 1 mFirst)) (A.b .shl .i64 1 mId))],2)))))))
def fO:((Int×Int×Int×Int×Int×Int×Int)×Int)→(List Int×Int):=fun((mId,mN,mSet,mAcc,mFail,mStage,mFirst),sender)=>(t78 ah mId mN mSet mAcc mFail mStage mFirst sender).val (Ty.bV [(.arr 2 yI),yI])
def wR:((Int×Int×Int×Int×Int×Int×Int)×Int)→Bool:=fun((a,b,c,d,e,f,g),s)=>decide (0≤a)&&(decide (0≤g)&&decide (0≤s))
def V_:aC:=⟨[(.struct [yI,yI,yI,yI,yI,yI,yI]),yI], [(.arr 2 yI),yI],wR,fO⟩
theorem Ry:Sd 178 V_:=aK au dC true 77 [] (fun A ((mId,mN,mSet,mAcc,mFail,mStage,mFirst),sender)=>t78 A mId mN mSet mAcc mFail mStage mFirst sender) (fc Tryz.func178 fz) sz (fun(((mId,mN,mSet,mAcc,mFail,mStage,mFirst),sender):(Int×Int×Int×Int×Int×Int×Int)×Int) hp h=>by
 show(t78 ah mId mN mSet mAcc mFail mStage mFirst sender).pre=true
 simp only[t78,LT.pre,fH,aB,aF,ao,ax,aA,aI,aL,a_,fD,al,bi,aS,aY,cn,cB,Bool.and_eq_true,Bool.or_eq_true,Bool.and_eq_false_iff,Bool.or_eq_false_iff,Bool.not_eq_true',Bool.not_eq_false',decide_eq_true_eq,decide_eq_false_iff_not,bne_iff_ne,beq_iff_eq,bne_eq_false_iff_eq,beq_eq_false_iff_ne]
 simp only[wR,Bool.and_eq_true,decide_eq_true_eq] at hp
 simp only[Ty.du,Ty.has,pO,Dl] at h
 (repeat' (first|intro _|constructor))<;>(try omega))
theorem mf{a b c d e f g s:Int}(h0:4≤b)(h1:b≤8):vm ((a,b,c,d,e,f,g),s)=true↔0≤s∧s<b∧s≠a:=by
 simp only[vm,t77,LT.val,lb,aB,aF,ao,ax,aA,aI,aL,a_,fD,al,bi,aS,aY,cn,cB,Bool.and_eq_true,Bool.or_eq_true,Bool.and_eq_false_iff,Bool.or_eq_false_iff,Bool.not_eq_true',Bool.not_eq_false',decide_eq_true_eq,decide_eq_false_iff_not,bne_iff_ne,beq_iff_eq,bne_eq_false_iff_eq,beq_eq_false_iff_ne,w6]
 simp
 rw[fU (by omega) (by omega)]
 omega
theorem zt{x:(Int×Int×Int×Int×Int×Int×Int)×Int}:0≤(fO x).2∧(fO x).2≤2:=by
 obtain⟨⟨a,b,c,d,e,f,g⟩,s⟩:=x
 exact LT.jc (p:=fun y:List Int×Int=>0≤y.2∧y.2≤2) (by decide) (by simp[t78,LT.all])
structure NI where
 (a0 a1 a2 a4 a5 a6 a7 a8 a9 b_ dY a12 lW jQ pV a16 a17 qT kL a20 a21 a22 a23:Int) (a24:Bool) (a25 a26 a27 a28 a29 a30 a31 a32 a33 a34 a35 a36 a37 a38 a39 a40:Int)
inductive VM where
 | c0 (p:NI) (a3:Int)
noncomputable def RZ:VM→f_
 | .c0 p a3=>⟨[⟨176,37,(en [(0,.yield 0),(24,.kq 1 1 false p.a0 p.a1),(25,vi p.a2),(26,vi a3)]),[.inLoop (cw Tryz.f176 [1,1,1,0,0]),.inBlock 0],[],none⟩,⟨184,19,(en [(6,.ptr 2 0),(7,.ptr 3 0)]),[.im 0,.inBlock 0,.code (cw Tryz.f184 [1,1])],[4],none⟩],[.loop ⟨184,19,(en [(0,.agg [vi p.a4,vi p.a5,vi p.a6,vi p.a7,vi p.a8,vi p.a9,vi p.b_]),(1,vi p.dY),(2,vi p.a12),(3,.ptr 5 0),(5,.ptr 6 0),(6,.ptr 2 0),(7,.ptr 3 0),(10,.agg [vi p.lW,vi p.jQ,vi p.pV,vi p.a16,vi p.a17,vi p.qT,vi p.kL]),(11,vi p.a20),(12,.fn 176 [] [.ptr 7 0,.ptr 8 0])]),[13,14],(cw Tryz.f184 [1,0,1,0,0]),(cw Tryz.f184 [1,0,1,0,1]),0,none⟩,.flat false [vi p.a21,vi p.a22],.flat false [vi p.a23],.flat false [vb p.a24],.yq,.flat false [vi p.a25,vi p.a26,vi p.a27,vi p.a28,vi p.a29,vi p.a30,vi p.a31],.flat false [vi p.a32],.flat false [vi p.a33,vi p.a34,vi p.a35,vi p.a36,vi p.a37,vi p.a38,vi p.a39],.flat false [vi p.a40],.dead]⟩
def t74(A:bu)(mId:Int)(mN:Int)(mSet:Int)(mAcc:Int)(mFail:Int)(mStage:Int)(mFirst:Int)(sender:Int)(which:Int):LT (Int×Bool) VM:=.need (A.k (@tt ((Int×Int×Int×Int×Int×Int×Int))) (mId,mN,mSet,mAcc,mFail,mStage,mFirst)) (.br (A.c .neq (A.k i7 (mId,mN,mSet,mAcc,mFail,mStage,mFirst)) 0) (.ret (0,false)) (.need (A.k (@tt ((Int×Int×Int×Int×Int×Int×Int)×Int)) ((mId,mN,mSet,mAcc,mFail,mStage,mFirst),sender)) (.br (A.not (A.k vm ((mId,mN,mSet,mAcc,mFail,mStage,mFirst),sender))) (.ret (0,false)) (.need (A.k wR ((mId,mN,mSet,mAcc,mFail,mStage,mFirst),sender)) (.need (A.and (A.c .leq 0 0) (A.and (A.c .leq 0 (A.k fO ((mId,mN,mSet,mAcc,mFail,mStage,mFirst),sender)).2) (A.c .leq (A.k fO ((mId,mN,mSet,mAcc,mFail,mStage,mFirst),sender)).2 2))) (.more (.c0 ⟨(A.b .add .i64 0 0),(A.b .sub .i64 (A.k fO ((mId,mN,mSet,mAcc,mFail,mStage,mFirst),sender)).2 0),(A.b .sub .i64 (A.k fO ((mId,mN,mSet,mAcc,mFail,mStage,mFirst),sender)).2 0),mId,mN,mSet,mAcc,mFail,mStage,mFirst,sender,which,mId,mN,mSet,mAcc,mFail,mStage,mFirst,sender,(A.n yI (A.k fO ((mId,mN,mSet,mAcc,mFail,mStage,mFirst),sender)).1 0:Int),(A.n yI (A.k fO ((mId,mN,mSet,mAcc,mFail,mStage,mFirst),sender)).1 1:Int),0,false,mId,mN,mSet,mAcc,mFail,mStage,mFirst,which,mId,mN,mSet,mAcc,mFail,mStage,mFirst,sender⟩ 0)))))))
def N_(A:bu):VM→LT (Int×Bool) VM
 | .c0 p a3=>.br (A.c .lss a3 p.a2) (.need (A.and (A.c .leq 0 a3) (A.c .lss a3 p.a1)) (.br (A.c .eql a3 p.a32) (.ret ((A.n yI [p.a21,p.a22] (A.b .add .i64 p.a0 a3):Int),true)) (.more (.c0 p (A.b .add .i64 a3 1))))) (.ret (0,false))
def sO:((Int×Int×Int×Int×Int×Int×Int)×Int×Int)→(Int×Bool):=fun(m,s,k)=>bif i7 m != 0 then(0,false) else bif !vm (m,s) then(0,false) else bif decide (0≤k)&&decide (k<(fO (m,s)).2) then((fO (m,s)).1.getD k.toNat 0,true) else(0,false)
def XQ:aC:=⟨[(.struct [yI,yI,yI,yI,yI,yI,yI]),yI,yI], [yI,.bool],(@tt ((Int×Int×Int×Int×Int×Int×Int)×Int×Int)),sO⟩
theorem X6:Sd 184 XQ:=aJ au dC true 70 [⟨176,3, [[0,24,25,26], [6,7]]⟩] [] (fun A ((mId,mN,mSet,mAcc,mFail,mStage,mFirst),sender,which)=>t74 A mId mN mSet mAcc mFail mStage mFirst sender which) N_ RZ (fc Tryz.func184 (fc Tryz.func102 (fc Tryz.func176 fz))) (sc Gg (sc LA (sc Ry sz))) (fun A y=>match y with |.c0 p a3=>⟨57,by kernel_rfl,by kernel_rfl⟩) fun(((mId,mN,mSet,mAcc,mFail,mStage,mFirst),sender,which):(Int×Int×Int×Int×Int×Int×Int)×Int×Int) hp h=>by
 show aD (N_ ah) (t74 ah mId mN mSet mAcc mFail mStage mFirst sender which) (sO ((mId,mN,mSet,mAcc,mFail,mStage,mFirst),sender,which))
 unfold t74 sO
 refine .need rfl (.br ?_)
 simp only[al,aF,a_]
 cases h1:i7 (mId,mN,mSet,mAcc,mFail,mStage,mFirst) != 0
 ·simp only[cond_false]
  rw[bne_eq_false_iff_eq] at h1
  have hm:=fx.1 h1
  unfold gT at hm
  refine .need rfl (.br ?_)
  cases h2:vm ((mId,mN,mSet,mAcc,mFail,mStage,mFirst),sender)
  ·exact .ret _
  ·simp only[Bool.not_true,cond_false]
   have h3:=(mf (by omega) (by omega)).1 h2
   have hq:=zt (x:=((mId,mN,mSet,mAcc,mFail,mStage,mFirst),sender))
   refine .need (by simp[wR];omega) ?_
   generalize fO ((mId,mN,mSet,mAcc,mFail,mStage,mFirst),sender)=q at *
   obtain⟨l,n⟩:=q
   simp only at hq
   refine .need (by simp only[aL,ax,Bool.and_eq_true,decide_eq_true_eq];omega) ?_
   have hn:n=0∨n=1∨n=2:=by omega
   have hk:which=0∨which=1∨(which≠0∧which≠1):=by omega
   have e0:IntKind.i64.wrap 0=0:=by decide
   have e1:IntKind.i64.wrap 1=1:=by decide
   have e2:IntKind.i64.wrap 2=2:=by decide
   rcases hn with rfl|rfl|rfl<;>rcases hk with rfl|rfl|⟨k0,k1⟩
   all_goals first
    | (simp[ak,N_,jI,af,dU,ao,ax,aB,aL,bi,aS,BN,e0,e1,e2,Ty.gx];done)
    | (simp[ak,N_,jI,af,dU,ao,ax,aB,aL,bi,aS,e0,e1,e2];rfl)
    | (have b0:(0==which)=false:=by simp<;>omega
       have b1:(1==which)=false:=by simp<;>omega
       have c0:(decide (0≤which)&&decide (which<0))=false:=by simp<;>omega
       have c1:(decide (0≤which)&&decide (which<1))=false:=by simp<;>omega
       have c2:(decide (0≤which)&&decide (which<2))=false:=by simp<;>omega
       simp only[c0,c1,c2]
       simp[ak,N_,jI,af,dU,ao,ax,aB,aL,bi,aS,BN,e0,e1,e2,b0,b1])
 ·exact .ret _
theorem dL{a b c d e f g s:Int}:Ar ((a,b,c,d,e,f,g),s)=0↔gT a b c d e f g∧0≤s∧s<b∧s≠a:=by
 simp only[Ar,t73,LT.val,lb,aB,aF,ao,ax,aA,aI,aL,a_,fD,al,bi,aS,aY,cn,cB,Bool.and_eq_true,Bool.or_eq_true,Bool.and_eq_false_iff,Bool.or_eq_false_iff,Bool.not_eq_true',Bool.not_eq_false',decide_eq_true_eq,decide_eq_false_iff_not,bne_iff_ne,beq_iff_eq,bne_eq_false_iff_eq,beq_eq_false_iff_ne]
 constructor
 ·intro h
  rcases h with ⟨h1,h2⟩|⟨h1,h2⟩
  ·exact absurd h2 h1
  ·have hm:=fx.1 h1
   have hm':=hm
   unfold gT at hm'
   rcases h2 with ⟨h2,h3⟩|⟨h2,_⟩
   ·cases h3
   ·exact⟨hm,(mf (by omega) (by omega)).1 h2⟩
 ·rintro ⟨hm,hs⟩
  have hm':=hm
  unfold gT at hm'
  exact .inr ⟨fx.2 hm,.inr ⟨(mf (by omega) (by omega)).2 hs,trivial⟩⟩
def t25(A:bu)(mId:Int)(mN:Int)(mSet:Int)(mAcc:Int)(mFail:Int)(mStage:Int)(mFirst:Int)(sender:Int)(which:Int):LT ((Int×Int×Int×Int×Int×Int×Int)×Int) Empty:=.need (A.k (@tt ((Int×Int×Int×Int×Int×Int×Int)×Int)) ((mId,mN,mSet,mAcc,mFail,mStage,mFirst),sender)) (.br (A.c .neq (A.k Ar ((mId,mN,mSet,mAcc,mFail,mStage,mFirst),sender)) 0) (.ret ((0,0,0,0,0,0,0),(A.k Ar ((mId,mN,mSet,mAcc,mFail,mStage,mFirst),sender)))) (.need (A.k (@tt ((Int×Int×Int×Int×Int×Int×Int)×Int×Int)) ((mId,mN,mSet,mAcc,mFail,mStage,mFirst),sender,which)) (.br (A.not (A.k sO ((mId,mN,mSet,mAcc,mFail,mStage,mFirst),sender,which)).2) (.ret ((0,0,0,0,0,0,0),2)) (.br (A.c .eql mStage 1) (.br (A.c .eql which 1) (.need (A.c .leq 0 sender) (.ret ((mId,mN,(A.b .or .i64 mSet (A.b .shl .i64 1 sender)),mAcc,mFail,2,sender),0))) (.br (A.c .eql mStage 2) (.br (A.c .neq sender mFirst) (.ret ((mId,mN,(A.k sO ((mId,mN,mSet,mAcc,mFail,mStage,mFirst),sender,which)).1,(A.mn (A.b .add .i64 mAcc 1) 1048576),(A.mn (A.b .add .i64 mFail 1) 1048576),0,0),0)) (.ret ((mId,mN,(A.k sO ((mId,mN,mSet,mAcc,mFail,mStage,mFirst),sender,which)).1,(A.mn (A.b .add .i64 mAcc 1) 1048576),mFail,0,0),0))) (.ret ((mId,mN,(A.k sO ((mId,mN,mSet,mAcc,mFail,mStage,mFirst),sender,which)).1,(A.mn (A.b .add .i64 mAcc 1) 1048576),mFail,0,0),0)))) (.br (A.c .eql mStage 2) (.br (A.c .neq sender mFirst) (.ret ((mId,mN,(A.k sO ((mId,mN,mSet,mAcc,mFail,mStage,mFirst),sender,which)).1,(A.mn (A.b .add .i64 mAcc 1) 1048576),(A.mn (A.b .add .i64 mFail 1) 1048576),0,0),0)) (.ret ((mId,mN,(A.k sO ((mId,mN,mSet,mAcc,mFail,mStage,mFirst),sender,which)).1,(A.mn (A.b .add .i64 mAcc 1) 1048576),mFail,0,0),0))) (.ret ((mId,mN,(A.k sO ((mId,mN,mSet,mAcc,mFail,mStage,mFirst),sender,which)).1,(A.mn (A.b .add .i64 mAcc 1) 1048576),mFail,0,0),0)))))))
def kC:((Int×Int×Int×Int×Int×Int×Int)×Int×Int)→((Int×Int×Int×Int×Int×Int×Int)×Int):=fun((mId,mN,mSet,mAcc,mFail,mStage,mFirst),sender,which)=>(t25 ah mId mN mSet mAcc mFail mStage mFirst sender which).val (Ty.bV [(.struct [yI,yI,yI,yI,yI,yI,yI]),yI])
def XM:aC:=⟨[(.struct [yI,yI,yI,yI,yI,yI,yI]),yI,yI], [(.struct [yI,yI,yI,yI,yI,yI,yI]),yI],(@tt ((Int×Int×Int×Int×Int×Int×Int)×Int×Int)),kC⟩
theorem Yh:Sd 109 XM:=aK au dC true 107 [] (fun A ((mId,mN,mSet,mAcc,mFail,mStage,mFirst),sender,which)=>t25 A mId mN mSet mAcc mFail mStage mFirst sender which) (fc Tryz.func109 fz) (sc TB (sc X6 sz)) (fun(((mId,mN,mSet,mAcc,mFail,mStage,mFirst),sender,which):(Int×Int×Int×Int×Int×Int×Int)×Int×Int) hp h=>by
 show(t25 ah mId mN mSet mAcc mFail mStage mFirst sender which).pre=true
 simp only[t25,LT.pre,fH,aB,aF,ao,ax,aA,aI,aL,a_,fD,al,bi,aS,aY,cn,cB,Bool.and_eq_true,Bool.or_eq_true,Bool.and_eq_false_iff,Bool.or_eq_false_iff,Bool.not_eq_true',Bool.not_eq_false',decide_eq_true_eq,decide_eq_false_iff_not,bne_iff_ne,beq_iff_eq,bne_eq_false_iff_eq,beq_eq_false_iff_ne]
 simp only[Ty.du,Ty.has,pO] at h
 (repeat' (first|intro _|constructor))<;>(try (have hm:=(dL.1 (by assumption));unfold gT at hm;omega)))
def t38(A:bu)(mId:Int)(mN:Int)(mSet:Int)(mAcc:Int)(mFail:Int)(mStage:Int)(mFirst:Int)(sender:Int):LT ((Int×Int×Int×Int×Int×Int×Int)×Int) Empty:=.need (A.k (@tt ((Int×Int×Int×Int×Int×Int×Int)×Int)) ((mId,mN,mSet,mAcc,mFail,mStage,mFirst),sender)) (.br (A.c .neq (A.k Ar ((mId,mN,mSet,mAcc,mFail,mStage,mFirst),sender)) 0) (.ret ((0,0,0,0,0,0,0),(A.k Ar ((mId,mN,mSet,mAcc,mFail,mStage,mFirst),sender)))) (.need (A.c .leq 0 sender) (.br (A.c .eql mStage 2) (.br (A.c .eql mFirst sender) (.ret ((mId,mN,(A.b .andNot .i64 mSet (A.b .shl .i64 1 sender)),mAcc,mFail,1,0),0)) (.ret ((mId,mN,(A.b .andNot .i64 mSet (A.b .shl .i64 1 sender)),mAcc,mFail,mStage,mFirst),0))) (.ret ((mId,mN,(A.b .andNot .i64 mSet (A.b .shl .i64 1 sender)),mAcc,mFail,mStage,mFirst),0)))))
def kg:((Int×Int×Int×Int×Int×Int×Int)×Int)→((Int×Int×Int×Int×Int×Int×Int)×Int):=fun((mId,mN,mSet,mAcc,mFail,mStage,mFirst),sender)=>(t38 ah mId mN mSet mAcc mFail mStage mFirst sender).val (Ty.bV [(.struct [yI,yI,yI,yI,yI,yI,yI]),yI])
def Xn:aC:=⟨[(.struct [yI,yI,yI,yI,yI,yI,yI]),yI], [(.struct [yI,yI,yI,yI,yI,yI,yI]),yI],(@tt ((Int×Int×Int×Int×Int×Int×Int)×Int)),kg⟩
theorem QA:Sd 107 Xn:=aK au dC true 63 [] (fun A ((mId,mN,mSet,mAcc,mFail,mStage,mFirst),sender)=>t38 A mId mN mSet mAcc mFail mStage mFirst sender) (fc Tryz.func107 fz) (sc TB sz) (fun(((mId,mN,mSet,mAcc,mFail,mStage,mFirst),sender):(Int×Int×Int×Int×Int×Int×Int)×Int) hp h=>by
 show(t38 ah mId mN mSet mAcc mFail mStage mFirst sender).pre=true
 simp only[t38,LT.pre,fH,aB,aF,ao,ax,aA,aI,aL,a_,fD,al,bi,aS,aY,cn,cB,Bool.and_eq_true,Bool.or_eq_true,Bool.and_eq_false_iff,Bool.or_eq_false_iff,Bool.not_eq_true',Bool.not_eq_false',decide_eq_true_eq,decide_eq_false_iff_not,bne_iff_ne,beq_iff_eq,bne_eq_false_iff_eq,beq_eq_false_iff_ne]
 simp only[Ty.du,Ty.has,pO] at h
 (repeat' (first|intro _|constructor))<;>(try (have hm:=(dL.1 (by assumption));unfold gT at hm;omega)))
def t39(A:bu)(mId:Int)(mN:Int)(mSet:Int)(mAcc:Int)(mFail:Int)(mStage:Int)(mFirst:Int)(sender:Int):LT ((Int×Int×Int×Int×Int×Int×Int)×Int) Empty:=.need (A.k (@tt ((Int×Int×Int×Int×Int×Int×Int)×Int)) ((mId,mN,mSet,mAcc,mFail,mStage,mFirst),sender)) (.br (A.c .eql (A.k kg ((mId,mN,mSet,mAcc,mFail,mStage,mFirst),sender)).2 0) (.ret (((A.k kg ((mId,mN,mSet,mAcc,mFail,mStage,mFirst),sender)).1.1,(A.k kg ((mId,mN,mSet,mAcc,mFail,mStage,mFirst),sender)).1.2.1,(A.k kg ((mId,mN,mSet,mAcc,mFail,mStage,mFirst),sender)).1.2.2.1,(A.k kg ((mId,mN,mSet,mAcc,mFail,mStage,mFirst),sender)).1.2.2.2.1,(A.mn (A.b .add .i64 (A.k kg ((mId,mN,mSet,mAcc,mFail,mStage,mFirst),sender)).1.2.2.2.2.1 1) 1048576),(A.k kg ((mId,mN,mSet,mAcc,mFail,mStage,mFirst),sender)).1.2.2.2.2.2),(A.k kg ((mId,mN,mSet,mAcc,mFail,mStage,mFirst),sender)).2)) (.ret (A.k kg ((mId,mN,mSet,mAcc,mFail,mStage,mFirst),sender))))
def Ed:((Int×Int×Int×Int×Int×Int×Int)×Int)→((Int×Int×Int×Int×Int×Int×Int)×Int):=fun((mId,mN,mSet,mAcc,mFail,mStage,mFirst),sender)=>(t39 ah mId mN mSet mAcc mFail mStage mFirst sender).val (Ty.bV [(.struct [yI,yI,yI,yI,yI,yI,yI]),yI])
def Yx:aC:=⟨[(.struct [yI,yI,yI,yI,yI,yI,yI]),yI], [(.struct [yI,yI,yI,yI,yI,yI,yI]),yI],(@tt ((Int×Int×Int×Int×Int×Int×Int)×Int)),Ed⟩
theorem Yr:Sd 108 Yx:=aK au dC true 45 [] (fun A ((mId,mN,mSet,mAcc,mFail,mStage,mFirst),sender)=>t39 A mId mN mSet mAcc mFail mStage mFirst sender) (fc Tryz.func108 fz) (sc QA sz) (fun(((mId,mN,mSet,mAcc,mFail,mStage,mFirst),sender):(Int×Int×Int×Int×Int×Int×Int)×Int) hp h=>by
 show(t39 ah mId mN mSet mAcc mFail mStage mFirst sender).pre=true
 simp only[t39,LT.pre,fH,aB,aF,ao,ax,aA,aI,aL,a_,fD,al,bi,aS,aY,cn,cB,Bool.and_eq_true,Bool.or_eq_true,Bool.and_eq_false_iff,Bool.or_eq_false_iff,Bool.not_eq_true',Bool.not_eq_false',decide_eq_true_eq,decide_eq_false_iff_not,bne_iff_ne,beq_iff_eq,bne_eq_false_iff_eq,beq_eq_false_iff_ne]
 simp only[Ty.du,Ty.has,pO,Dl] at h
 (repeat' (first|intro _|constructor))<;>(try omega))
def inc(d:Int):Int:=if d<1048576 then d+1 else 1048576
theorem l7{d:Int}(h0:0≤d)(h1:d≤1048576):ah.mn (ah.b .add .i64 d 1) 1048576=inc d:=by
 rw[ot,bi,fU (by omega) (by omega),inc]
 split<;>split<;>omega
section
variable {a b c d e f g s:Int}
theorem tA:fO ((a,b,c,d,e,0,g),s)=([gm c s,0],1):=rfl
theorem AO:fO ((a,b,c,d,e,1,g),s)=([gm (gm c s) a,ky (gm c s) a],2):=rfl
theorem xB:fO ((a,b,c,d,e,2,g),g)=([gm (gm c g) a,0],1):=by
 simp[fO,t78,LT.val,aB,gm]
theorem x9(h:s≠g):fO ((a,b,c,d,e,2,g),s)=([ky (gm (gm c s) a) g,ky (gm (gm c s) g) a],2):=by
 have hb:(s==g)=false:=by simpa using h
 simp[fO,t78,LT.val,aB,gm,ky,hb]
theorem jM(h:gT a b c d e f g)(h0:0≤s)(h1:s<b)(h2:s≠a)(k:Int):sO ((a,b,c,d,e,f,g),s,k) =
  bif decide (0≤k)&&decide (k<(fO ((a,b,c,d,e,f,g),s)).2) then((fO ((a,b,c,d,e,f,g),s)).1.getD k.toNat 0,true) else(0,false):=by
 have hm:=h
 unfold gT at hm
 simp only[sO,fx.2 h,(mf (by omega) (by omega)).2 ⟨h0,h1,h2⟩,bne_self_eq_false,Bool.not_true,cond_false]
theorem Ai(h:gT a b c d e 0 g)(h0:0≤s)(h1:s<b)(h2:s≠a):kC ((a,b,c,d,e,0,g),s,0)=((a,b,gm c s,inc d,e,0,0),0):=by
 have hm:=h
 unfold gT at hm
 simp[kC,t25,LT.val,al,aF,aB,a_,dL.2 ⟨h,h0,h1,h2⟩,jM h h0 h1 h2,tA,l7 (d:=d) (by omega) (by omega)]
theorem FF(h:gT a b c d e 1 g)(h0:0≤s)(h1:s<b)(h2:s≠a):kC ((a,b,c,d,e,1,g),s,0)=((a,b,gm (gm c s) a,inc d,e,0,0),0):=by
 have hm:=h
 unfold gT at hm
 simp[kC,t25,LT.val,al,aF,aB,a_,dL.2 ⟨h,h0,h1,h2⟩,jM h h0 h1 h2,AO,l7 (d:=d) (by omega) (by omega)]
theorem BR(h:gT a b c d e 1 g)(h0:0≤s)(h1:s<b)(h2:s≠a):kC ((a,b,c,d,e,1,g),s,1)=((a,b,gm c s,d,e,2,s),0):=by
 simp[kC,t25,LT.val,al,aF,aB,a_,dL.2 ⟨h,h0,h1,h2⟩,jM h h0 h1 h2,AO,gm]
theorem Cj(h:gT a b c d e 2 g)(h0:0≤g)(h1:g<b)(h2:g≠a):kC ((a,b,c,d,e,2,g),g,0)=((a,b,gm (gm c g) a,inc d,e,0,0),0):=by
 have hm:=h
 unfold gT at hm
 simp[kC,t25,LT.val,al,aF,aB,a_,dL.2 ⟨h,h0,h1,h2⟩,jM h h0 h1 h2,xB,l7 (d:=d) (by omega) (by omega)]
theorem Cc(h:gT a b c d e 2 g)(h0:0≤s)(h1:s<b)(h2:s≠a)(h3:s≠g):kC ((a,b,c,d,e,2,g),s,0)=((a,b,ky (gm (gm c s) a) g,inc d,inc e,0,0),0):=by
 have hm:=h
 unfold gT at hm
 simp[kC,t25,LT.val,al,aF,aB,a_,dL.2 ⟨h,h0,h1,h2⟩,jM h h0 h1 h2,x9 h3,show(s != g)=true from by simpa using h3,l7 (d:=d) (by omega) (by omega),l7 (d:=e) (by omega) (by omega)]
theorem Cg(h:gT a b c d e 2 g)(h0:0≤s)(h1:s<b)(h2:s≠a)(h3:s≠g):kC ((a,b,c,d,e,2,g),s,1)=((a,b,ky (gm (gm c s) g) a,inc d,inc e,0,0),0):=by
 have hm:=h
 unfold gT at hm
 simp[kC,t25,LT.val,al,aF,aB,a_,dL.2 ⟨h,h0,h1,h2⟩,jM h h0 h1 h2,x9 h3,show(s != g)=true from by simpa using h3,l7 (d:=d) (by omega) (by omega),l7 (d:=e) (by omega) (by omega)]
theorem Af(h:gT a b c d e f g)(h0:0≤s)(h1:s<b)(h2:s≠a)(h3:f≠2):kg ((a,b,c,d,e,f,g),s)=((a,b,ky c s,d,e,f,g),0):=by
 have hb:(f==2)=false:=by simpa using h3
 simp[kg,t38,LT.val,al,aF,aB,dL.2 ⟨h,h0,h1,h2⟩,ky,hb]
theorem Ee(h:gT a b c d e 2 g)(h0:0≤s)(h1:s<b)(h2:s≠a)(h3:g≠s):kg ((a,b,c,d,e,2,g),s)=((a,b,ky c s,d,e,2,g),0):=by
 have hb:(g==s)=false:=by simpa using h3
 simp[kg,t38,LT.val,al,aF,aB,dL.2 ⟨h,h0,h1,h2⟩,ky,hb]
theorem Gn(h:gT a b c d e 2 g)(h2:g≠a):kg ((a,b,c,d,e,2,g),g)=((a,b,ky c g,d,e,1,0),0):=by
 have hm:=h
 unfold gT at hm
 simp[kg,t38,LT.val,al,aF,aB,dL.2 ⟨h,hm.2.2.2.2.1,hm.2.2.2.2.2.1,h2⟩,ky]
theorem xS{m m':Int×Int×Int×Int×Int×Int×Int}(h:kg (m,s)=(m',0))(h0:0≤m'.2.2.2.2.1)(h1:m'.2.2.2.2.1≤1048576):Ed (m,s)=((m'.1,m'.2.1,m'.2.2.1,m'.2.2.2.1,inc m'.2.2.2.2.1,m'.2.2.2.2.2),0):=by
 obtain⟨a,b,c,d,e,f,g⟩:=m
 simp[Ed,t39,LT.val,al,aB,h,l7 h0 h1]
end
end Go.Ev.M
