/-
  PROVED: what functions of the packages member and metronomeref09 compute. Conditions: none.
-/
import Derived.Test.YtjceiokllpmnkaaGreatTy
import Derived.Test.YtjceiokllpmnkaaGreatEvC
import Derived.Test.YtjceiokllpmnkaaGreatPl
namespace Go.Ev.M
open Go.Proofs
set_option maxRecDepth 100000
set_option linter.unusedVariables false
set_option linter.unusedSimpArgs false
theorem PN{n:Int}(h0:0≤n)(h1:n≤8):ai.b .shl .i64 1 n=((2^n.toNat:Nat):Int):=by
 have:n=0∨n=1∨n=2∨n=3∨n=4∨n=5∨n=6∨n=7∨n=8:=by omega
 rcases this with rfl|rfl|rfl|rfl|rfl|rfl|rfl|rfl|rfl<;>decide
theorem qk{n:Nat}(h:n≤8):2^n≤256:=Nat.pow_le_pow_right (by decide) h
def jF(c a:Int):Bool:=c.toNat.testBit a.toNat
def gX(c s:Int):Int:=ai.b .or .i64 c (ai.b .shl .i64 1 s)
def lF(c s:Int):Int:=ai.b .andNot .i64 c (ai.b .shl .i64 1 s)
theorem IA:∀c:Fin 256,∀a:Fin 8,ai.b .or .i64 (c.val:Int) (ai.b .shl .i64 1 (a.val:Int))=((c.val ||| 2^a.val:Nat):Int):=by decide +kernel
theorem Gb:∀c:Fin 256,∀a:Fin 8,ai.b .andNot .i64 (c.val:Int) (ai.b .shl .i64 1 (a.val:Int))=((c.val &&& (255 ^^^ 2^a.val):Nat):Int):=by decide +kernel
theorem DL{c s:Int}(h0:0≤c)(h1:c<256)(h2:0≤s)(h3:s<8):gX c s=((c.toNat ||| 2^s.toNat:Nat):Int):=by
 obtain⟨c,rfl⟩:=Int.eq_ofNat_of_zero_le h0
 obtain⟨s,rfl⟩:=Int.eq_ofNat_of_zero_le h2
 exact IA ⟨c,by omega⟩ ⟨s,by omega⟩
theorem del_eq{c s:Int}(h0:0≤c)(h1:c<256)(h2:0≤s)(h3:s<8):lF c s=((c.toNat &&& (255 ^^^ 2^s.toNat):Nat):Int):=by
 obtain⟨c,rfl⟩:=Int.eq_ofNat_of_zero_le h0
 obtain⟨s,rfl⟩:=Int.eq_ofNat_of_zero_le h2
 exact Gb ⟨c,by omega⟩ ⟨s,by omega⟩
theorem KG{c s n:Int}(h0:0≤c)(hn:n≤8)(h1:c<((2^n.toNat:Nat):Int))(h2:0≤s)(h3:s<n):0≤gX c s∧gX c s<((2^n.toNat:Nat):Int):=by
 have hp:=qk (n:=n.toNat) (by omega)
 rw[DL h0 (by omega) h2 (by omega)]
 have h4:2^s.toNat<2^n.toNat:=Nat.pow_lt_pow_right (by decide) (by omega)
 have:=Nat.or_lt_two_pow (x:=c.toNat) (y:=2^s.toNat) (n:=n.toNat) (by omega) h4
 omega
theorem D2{c s n:Int}(h0:0≤c)(hn:n≤8)(h1:c<((2^n.toNat:Nat):Int))(h2:0≤s)(h3:s<8):0≤lF c s∧lF c s<((2^n.toNat:Nat):Int):=by
 have hp:2^n.toNat≤2^8:=Nat.pow_le_pow_right (by decide) (by omega)
 rw[del_eq h0 (by omega) h2 (by omega)]
 have:c.toNat &&& (255 ^^^ 2^s.toNat)≤c.toNat:=Nat.and_le_left
 omega
theorem G6{c s i:Int}(h0:0≤c)(h1:c<256)(h2:0≤s)(h3:s<8)(h4:0≤i):jF (gX c s) i=(jF c i||s==i):=by
 rw[DL h0 h1 h2 h3,jF,jF,Int.toNat_natCast,Nat.testBit_or,Nat.testBit_two_pow]
 congr 1
 rw[Bool.eq_iff_iff];simp;omega
theorem xJ{c s i:Int}(h0:0≤c)(h1:c<256)(h2:0≤s)(h3:s<8)(h4:0≤i):jF (lF c s) i=(jF c i&&s != i):=by
 rw[del_eq h0 h1 h2 h3,jF,jF,Int.toNat_natCast,Nat.testBit_and,Nat.testBit_xor,Nat.testBit_two_pow]
 by_cases hi:i<8
 ·have e:Nat.testBit 255 i.toNat=true:=by
   have:i.toNat=0∨i.toNat=1∨i.toNat=2∨i.toNat=3∨i.toNat=4∨i.toNat=5∨i.toNat=6∨i.toNat=7:=by omega
   rcases this with h|h|h|h|h|h|h|h<;>rw[h]<;>decide
  rw[e]
  congr 1
  rw[Bool.eq_iff_iff];simp;omega
 ·have:c.toNat.testBit i.toNat=false:=Nat.testBit_lt_two_pow (Nat.lt_of_lt_of_le (by omega:c.toNat<2^8) (Nat.pow_le_pow_right (by decide) (by omega)))
  rw[this];rfl
theorem Ft:∀c:Fin 256,∀a:Fin 8,(ai.b .and .i64 (ai.b .shr .i64 (c.val:Int) (a.val:Int)) 1==0)=!(c.val.testBit a.val):=by decide +kernel
theorem D1:∀c:Fin 256,∀a:Fin 8,(ai.b .and .i64 (c.val:Int) (ai.b .shl .i64 1 (a.val:Int))==0)=!(c.val.testBit a.val):=by decide +kernel
theorem I6{c a:Int}(h0:0≤c)(h1:c<256)(h2:0≤a)(h3:a<8):ai.b .and .i64 (ai.b .shr .i64 c a) 1=0↔jF c a=false:=by
 obtain⟨c,rfl⟩:=Int.eq_ofNat_of_zero_le h0
 obtain⟨a,rfl⟩:=Int.eq_ofNat_of_zero_le h2
 have:=Ft ⟨c,by omega⟩ ⟨a,by omega⟩
 simp only at this
 rw[←beq_iff_eq,this]
 simp[jF]
theorem Qt{c a:Int}(h0:0≤c)(h1:c<256)(h2:0≤a)(h3:a<8):ai.b .and .i64 c (ai.b .shl .i64 1 a)=0↔jF c a=false:=by
 obtain⟨c,rfl⟩:=Int.eq_ofNat_of_zero_le h0
 obtain⟨a,rfl⟩:=Int.eq_ofNat_of_zero_le h2
 have:=D1 ⟨c,by omega⟩ ⟨a,by omega⟩
 simp only at this
 rw[←beq_iff_eq,this]
 simp[jF]
def gS(a b c d e f g:Int):Prop:=4≤b∧b≤8∧0≤a∧a<b∧0≤g∧g<b∧0≤c∧c<((2^b.toNat:Nat):Int)∧0≤d∧d≤1048576∧0≤e∧e≤1048576∧0≤f∧f≤2∧(f≠0→jF c a=true)∧(f=2→g≠a)
theorem Q9{a b c d e f g:Int}(h:gS a b c d e f g):c<256:=by
 obtain⟨h1,h2,_,_,_,_,_,h3,_⟩:=h
 have:=qk (n:=b.toNat) (by omega)
 omega
def PH(A:bK)(n:Int)(most:Int):LT Bool Empty:=.br (A.c .geq n 0) (.ret (A.c .leq n most)) (.ret false)
def uz:(Int×Int)→Bool:=fun(n,most)=>(PH ai n most).val (Ty.cq [.bool])
def WN:aG:=⟨[yI,yI], [.bool],(@tt (Int×Int)),uz⟩
theorem OC:Sd 99 WN:=aO aA dY true 21 [] (fun A (n,most)=>PH A n most) (fc Tryz.func99 fz) sz (fun((n,most):Int×Int) hp h=>by
 show(PH ai n most).pre=true
 simp only[PH,LT.pre,eE,aC,aB,ar,ay,aL,aS,aM,bg,ek,al,bq,bl,bp,cf,dh,Bool.and_eq_true,Bool.or_eq_true,Bool.and_eq_false_iff,Bool.or_eq_false_iff,Bool.not_eq_true',Bool.not_eq_false',decide_eq_true_eq,decide_eq_false_iff_not,bne_iff_ne,beq_iff_eq,bne_eq_false_iff_eq,beq_eq_false_iff_ne]
 simp only[Ty.dM,Ty.has,mj,zW] at h
 (repeat' (first|intro _|constructor))<;>(try omega))
theorem wh{n m:Int}:uz (n,m)=(decide (0≤n)&&decide (n≤m)):=by
 simp only[uz,PH,LT.val,aS,ay]
 cases decide (0≤n)<;>rfl
def t34(A:bK)(mId:Int)(mN:Int)(mSet:Int)(mAcc:Int)(mFail:Int)(mStage:Int)(mFirst:Int):LT Int Empty:=.br (A.c .lss mN 4) (.ret 90) (.br (A.c .gtr mN 8) (.ret 90) (.need (A.k (@tt (Int×Int)) (mId,(A.b .sub .i64 mN 1))) (.br (A.not (A.k uz (mId,(A.b .sub .i64 mN 1)))) (.ret 90) (.need (A.k (@tt (Int×Int)) (mFirst,(A.b .sub .i64 mN 1))) (.br (A.not (A.k uz (mFirst,(A.b .sub .i64 mN 1)))) (.ret 90) (.need (A.k (@tt (Int×Int)) (mAcc,1048576)) (.br (A.not (A.k uz (mAcc,1048576))) (.ret 90) (.need (A.k (@tt (Int×Int)) (mFail,1048576)) (.br (A.not (A.k uz (mFail,1048576))) (.ret 90) (.need (A.k (@tt (Int×Int)) (mStage,2)) (.br (A.not (A.k uz (mStage,2))) (.ret 90) (.need (A.c .leq 0 mN) (.need (A.k (@tt (Int×Int)) (mSet,(A.b .sub .i64 (A.b .shl .i64 1 mN) 1))) (.br (A.not (A.k uz (mSet,(A.b .sub .i64 (A.b .shl .i64 1 mN) 1)))) (.ret 90) (.br (A.c .neq mStage 0) (.need (A.c .leq 0 mId) (.br (A.c .eql (A.b .and .i64 (A.b .shr .i64 mSet mId) 1) 0) (.ret 90) (.br (A.c .eql mStage 2) (.br (A.c .eql mFirst mId) (.ret 90) (.ret 0)) (.ret 0)))) (.br (A.c .eql mStage 2) (.br (A.c .eql mFirst mId) (.ret 90) (.ret 0)) (.ret 0)))))))))))))))))
def iH:((Int×Int×Int×Int×Int×Int×Int))→Int:=fun(mId,mN,mSet,mAcc,mFail,mStage,mFirst)=>(t34 ai mId mN mSet mAcc mFail mStage mFirst).val (Ty.cq [yI])
def Vn:aG:=⟨[(.struct [yI,yI,yI,yI,yI,yI,yI])], [yI],(@tt ((Int×Int×Int×Int×Int×Int×Int))),iH⟩
theorem zl:Sd 46 Vn:=aO aA dY true 123 [] (fun A (mId,mN,mSet,mAcc,mFail,mStage,mFirst)=>t34 A mId mN mSet mAcc mFail mStage mFirst) (fc Tryz.func46 fz) (sc OC sz) (fun((mId,mN,mSet,mAcc,mFail,mStage,mFirst):(Int×Int×Int×Int×Int×Int×Int)) hp h=>by
 show(t34 ai mId mN mSet mAcc mFail mStage mFirst).pre=true
 simp only[t34,LT.pre,eE,aC,aB,ar,ay,aL,aS,aM,bg,ek,al,bq,bl,bp,cf,dh,Bool.and_eq_true,Bool.or_eq_true,Bool.and_eq_false_iff,Bool.or_eq_false_iff,Bool.not_eq_true',Bool.not_eq_false',decide_eq_true_eq,decide_eq_false_iff_not,bne_iff_ne,beq_iff_eq,bne_eq_false_iff_eq,beq_eq_false_iff_ne,wh]
 simp only[Ty.dM,Ty.has,mj,zW] at h
 (repeat' (first|intro _|constructor))<;>(try omega))
theorem zH{x:Int×Int×Int×Int×Int×Int×Int}:iH x=0∨iH x=90:=by
 obtain⟨a,b,c,d,e,f,g⟩:=x
 exact LT.i_ (p:=fun y=>y=0∨y=90) (.inl rfl) (by simp[t34,LT.all])
theorem ft{a b c d e f g:Int}:iH (a,b,c,d,e,f,g)=0↔gS a b c d e f g:=by
 simp only[iH,t34,LT.val,k6,aC,aB,ar,ay,aL,aS,aM,bg,ek,al,bq,bl,bp,cf,dh,Bool.and_eq_true,Bool.or_eq_true,Bool.and_eq_false_iff,Bool.or_eq_false_iff,Bool.not_eq_true',Bool.not_eq_false',decide_eq_true_eq,decide_eq_false_iff_not,bne_iff_ne,beq_iff_eq,bne_eq_false_iff_eq,beq_eq_false_iff_ne,wh]
 simp
 unfold gS
 by_cases hb:4≤b∧b≤8
 ·rw[gW (by omega) (by omega),PN (by omega) hb.2]
  have hp:=qk (n:=b.toNat) (by omega)
  have hp1:1≤2^b.toNat:=Nat.one_le_two_pow
  rw[gW (by omega) (by omega)]
  by_cases hc:0≤c∧c<256∧0≤a∧a<8
  ·have h:=I6 hc.1 hc.2.1 hc.2.2.1 hc.2.2.2
   rw[h]
   cases jF c a<;>simp<;>omega
  ·constructor
   ·intro h;exfalso;omega
   ·intro h;exfalso;omega
 ·constructor
  ·intro h;exfalso;omega
  ·intro h;exfalso;omega
def t80(A:bK)(n:Int):LT Int Empty:=.need (A.c .leq 0 (A.v .u64 n)) (.ret (A.b .shl .i64 1 (A.v .u64 n)))
def H6:Int→Int:=fun n=>(t80 ai n).val (Ty.cq [yI])
theorem Bc{n:Int}(h0:0≤n)(h1:n≤8):H6 n=((2^n.toNat:Nat):Int):=by
 have:n=0∨n=1∨n=2∨n=3∨n=4∨n=5∨n=6∨n=7∨n=8:=by omega
 rcases this with rfl|rfl|rfl|rfl|rfl|rfl|rfl|rfl|rfl<;>decide
theorem DN{n:Int}(h0:0≤n)(h1:n≤8):H6 n=ai.b .shl .i64 1 n:=by rw[Bc h0 h1,PN h0 h1]
def t35(A:bK)(mId:Int)(mN:Int)(mSet:Int)(mAcc:Int)(mFail:Int)(mStage:Int)(mFirst:Int):LT Int Empty:=.br (A.c .lss mN 4) (.ret 90) (.br (A.c .gtr mN 8) (.ret 90) (.br (A.c .lss mId 0) (.ret 90) (.br (A.c .geq mId mN) (.ret 90) (.br (A.c .lss mFirst 0) (.ret 90) (.br (A.c .geq mFirst mN) (.ret 90) (.br (A.c .lss mSet 0) (.ret 90) (.need (A.k (@tt Int) mN) (.br (A.c .geq mSet (A.k H6 mN)) (.ret 90) (.br (A.c .lss mAcc 0) (.ret 90) (.br (A.c .gtr mAcc 1048576) (.ret 90) (.br (A.c .lss mFail 0) (.ret 90) (.br (A.c .gtr mFail 1048576) (.ret 90) (.br (A.c .lss mStage 0) (.ret 90) (.br (A.c .gtr mStage 2) (.ret 90) (.br (A.c .neq mStage 0) (.need (A.k (@tt Int) mId) (.br (A.c .eql (A.b .and .i64 mSet (A.k H6 mId)) 0) (.ret 90) (.br (A.c .eql mStage 2) (.br (A.c .eql mFirst mId) (.ret 90) (.ret 0)) (.ret 0)))) (.br (A.c .eql mStage 2) (.br (A.c .eql mFirst mId) (.ret 90) (.ret 0)) (.ret 0)))))))))))))))))
def tO:((Int×Int×Int×Int×Int×Int×Int))→Int:=fun(mId,mN,mSet,mAcc,mFail,mStage,mFirst)=>(t35 ai mId mN mSet mAcc mFail mStage mFirst).val (Ty.cq [yI])
theorem zX{x:Int×Int×Int×Int×Int×Int×Int}:tO x=0∨tO x=90:=by
 obtain⟨a,b,c,d,e,f,g⟩:=x
 exact LT.i_ (p:=fun y=>y=0∨y=90) (.inl rfl) (by simp[t35,LT.all])
theorem BF{a b c d e f g:Int}:tO (a,b,c,d,e,f,g)=0↔gS a b c d e f g:=by
 simp only[tO,t35,LT.val,k6,aC,aB,ar,ay,aL,aS,aM,bg,ek,al,bq,bl,bp,cf,dh,Bool.and_eq_true,Bool.or_eq_true,Bool.and_eq_false_iff,Bool.or_eq_false_iff,Bool.not_eq_true',Bool.not_eq_false',decide_eq_true_eq,decide_eq_false_iff_not,bne_iff_ne,beq_iff_eq,bne_eq_false_iff_eq,beq_eq_false_iff_ne]
 simp
 unfold gS
 by_cases hb:4≤b∧b≤8∧0≤a∧a<b
 ·rw[Bc (by omega) hb.2.1,DN (n:=a) (by omega) (by omega)]
  have hp:=qk (n:=b.toNat) (by omega)
  by_cases hc:0≤c∧c<256
  ·have h:=Qt (a:=a) hc.1 hc.2 (by omega) (by omega)
   rw[h]
   cases jF c a<;>simp<;>omega
  ·constructor
   ·intro h;exfalso;omega
   ·intro h;exfalso;omega
 ·constructor
  ·intro h;exfalso;omega
  ·intro h;exfalso;omega
theorem VL{x:Int×Int×Int×Int×Int×Int×Int}:iH x=tO x:=by
 have h1:=zH (x:=x)
 have h2:=zX (x:=x)
 obtain⟨a,b,c,d,e,f,g⟩:=x
 have h3:=ft (a:=a) (b:=b) (c:=c) (d:=d) (e:=e) (f:=f) (g:=g)
 have h4:=BF (a:=a) (b:=b) (c:=c) (d:=d) (e:=e) (f:=f) (g:=g)
 by_cases h:gS a b c d e f g
 ·rw[h3.2 h,h4.2 h]
 ·have:=mt h3.1 h;have:=mt h4.1 h;omega
def t77(A:bK)(mId:Int)(mN:Int)(mSet:Int)(mAcc:Int)(mFail:Int)(mStage:Int)(mFirst:Int)(node:Int):LT Bool Empty:=.need (A.k (@tt (Int×Int)) (node,(A.b .sub .i64 mN 1))) (.br (A.k uz (node,(A.b .sub .i64 mN 1))) (.ret (A.c .neq node mId)) (.ret false))
def uI:((Int×Int×Int×Int×Int×Int×Int)×Int)→Bool:=fun((mId,mN,mSet,mAcc,mFail,mStage,mFirst),node)=>(t77 ai mId mN mSet mAcc mFail mStage mFirst node).val (Ty.cq [.bool])
def Xt:aG:=⟨[(.struct [yI,yI,yI,yI,yI,yI,yI]),yI], [.bool],(@tt ((Int×Int×Int×Int×Int×Int×Int)×Int)),uI⟩
theorem Kc:Sd 177 Xt:=aO aA dY true 26 [] (fun A ((mId,mN,mSet,mAcc,mFail,mStage,mFirst),node)=>t77 A mId mN mSet mAcc mFail mStage mFirst node) (fc Tryz.func177 fz) (sc OC sz) (fun(((mId,mN,mSet,mAcc,mFail,mStage,mFirst),node):(Int×Int×Int×Int×Int×Int×Int)×Int) hp h=>by
 show(t77 ai mId mN mSet mAcc mFail mStage mFirst node).pre=true
 simp only[t77,LT.pre,eE,aC,aB,ar,ay,aL,aS,aM,bg,ek,al,bq,bl,bp,cf,dh,Bool.and_eq_true,Bool.or_eq_true,Bool.and_eq_false_iff,Bool.or_eq_false_iff,Bool.not_eq_true',Bool.not_eq_false',decide_eq_true_eq,decide_eq_false_iff_not,bne_iff_ne,beq_iff_eq,bne_eq_false_iff_eq,beq_eq_false_iff_ne]
 simp only[Ty.dM,Ty.has,mj,zW] at h
 (repeat' (first|intro _|constructor))<;>(try omega))
def t73(A:bK)(mId:Int)(mN:Int)(mSet:Int)(mAcc:Int)(mFail:Int)(mStage:Int)(mFirst:Int)(sender:Int):LT Int Empty:=.need (A.k (@tt ((Int×Int×Int×Int×Int×Int×Int))) (mId,mN,mSet,mAcc,mFail,mStage,mFirst)) (.br (A.c .neq (A.k iH (mId,mN,mSet,mAcc,mFail,mStage,mFirst)) 0) (.ret (A.k iH (mId,mN,mSet,mAcc,mFail,mStage,mFirst))) (.need (A.k (@tt ((Int×Int×Int×Int×Int×Int×Int)×Int)) ((mId,mN,mSet,mAcc,mFail,mStage,mFirst),sender)) (.br (A.not (A.k uI ((mId,mN,mSet,mAcc,mFail,mStage,mFirst),sender))) (.ret 2) (.ret 0))))
def zt:((Int×Int×Int×Int×Int×Int×Int)×Int)→Int:=fun((mId,mN,mSet,mAcc,mFail,mStage,mFirst),sender)=>(t73 ai mId mN mSet mAcc mFail mStage mFirst sender).val (Ty.cq [yI])
def WY:aG:=⟨[(.struct [yI,yI,yI,yI,yI,yI,yI]),yI], [yI],(@tt ((Int×Int×Int×Int×Int×Int×Int)×Int)),zt⟩
theorem QM:Sd 183 WY:=aO aA dY true 39 [] (fun A ((mId,mN,mSet,mAcc,mFail,mStage,mFirst),sender)=>t73 A mId mN mSet mAcc mFail mStage mFirst sender) (fc Tryz.func183 fz) (sc zl (sc Kc sz)) (fun(((mId,mN,mSet,mAcc,mFail,mStage,mFirst),sender):(Int×Int×Int×Int×Int×Int×Int)×Int) hp h=>by
 show(t73 ai mId mN mSet mAcc mFail mStage mFirst sender).pre=true
 simp only[t73,LT.pre,eE,aC,aB,ar,ay,aL,aS,aM,bg,ek,al,bq,bl,bp,cf,dh,Bool.and_eq_true,Bool.or_eq_true,Bool.and_eq_false_iff,Bool.or_eq_false_iff,Bool.not_eq_true',Bool.not_eq_false',decide_eq_true_eq,decide_eq_false_iff_not,bne_iff_ne,beq_iff_eq,bne_eq_false_iff_eq,beq_eq_false_iff_ne]
 simp only[Ty.dM,Ty.has,mj,zW] at h
 (repeat' (first|intro _|constructor))<;>(try omega))
def t78(A:bK)(mId:Int)(mN:Int)(mSet:Int)(mAcc:Int)(mFail:Int)(mStage:Int)(mFirst:Int)(sender:Int):LT (List Int×Int) Empty:=.need (A.c .leq 0 mId) (.need (A.c .leq 0 mFirst) (.need (A.c .leq 0 sender) (.br (A.c .eql mStage 0) (.ret ([(A.b .or .i64 mSet (A.b .shl .i64 1 sender)),0],1)) (.br (A.c .eql mStage 1) (.ret ([(A.b .or .i64 (A.b .or .i64 mSet (A.b .shl .i64 1 sender)) (A.b .shl .i64 1 mId)),(A.b .andNot .i64 (A.b .or .i64 mSet (A.b .shl .i64 1 sender)) (A.b .shl .i64 1 mId))],2)) (.br (A.c .eql sender mFirst) (.ret ([(A.b .or .i64 (A.b .or .i64 mSet (A.b .shl .i64 1 sender)) (A.b .shl .i64 1 mId)),0],1)) (.ret ([(A.b .andNot .i64 (A.b .or .i64 (A.b .or .i64 mSet (A.b .shl .i64 1 sender)) (A.b .shl .i64 1 mId)) (A.b .shl .i64 1 mFirst)),(A.b .andNot .i64 (A.b .or .i64 (A.b .or .i64 mSet (A.b .shl .i64 1 sender)) (A.b .shl .i64 1 mFirst)) (A.b .shl .i64 1 mId))],2)))))))
def fJ:((Int×Int×Int×Int×Int×Int×Int)×Int)→(List Int×Int):=fun((mId,mN,mSet,mAcc,mFail,mStage,mFirst),sender)=>(t78 ai mId mN mSet mAcc mFail mStage mFirst sender).val (Ty.cq [(.arr 2 yI),yI])
def v8:((Int×Int×Int×Int×Int×Int×Int)×Int)→Bool:=fun((a,b,c,d,e,f,g),s)=>decide (0≤a)&&(decide (0≤g)&&decide (0≤s))
def XV:aG:=⟨[(.struct [yI,yI,yI,yI,yI,yI,yI]),yI], [(.arr 2 yI),yI],v8,fJ⟩
theorem O3:Sd 178 XV:=aO aA dY true 77 [] (fun A ((mId,mN,mSet,mAcc,mFail,mStage,mFirst),sender)=>t78 A mId mN mSet mAcc mFail mStage mFirst sender) (fc Tryz.func178 fz) sz (fun(((mId,mN,mSet,mAcc,mFail,mStage,mFirst),sender):(Int×Int×Int×Int×Int×Int×Int)×Int) hp h=>by
 show(t78 ai mId mN mSet mAcc mFail mStage mFirst sender).pre=true
 simp only[t78,LT.pre,eE,aC,aB,ar,ay,aL,aS,aM,bg,ek,al,bq,bl,bp,cf,dh,Bool.and_eq_true,Bool.or_eq_true,Bool.and_eq_false_iff,Bool.or_eq_false_iff,Bool.not_eq_true',Bool.not_eq_false',decide_eq_true_eq,decide_eq_false_iff_not,bne_iff_ne,beq_iff_eq,bne_eq_false_iff_eq,beq_eq_false_iff_ne]
 simp only[v8,Bool.and_eq_true,decide_eq_true_eq] at hp
 simp only[Ty.dM,Ty.has,mj,zW] at h
 (repeat' (first|intro _|constructor))<;>(try omega))
theorem mo{a b c d e f g s:Int}(h0:4≤b)(h1:b≤8):uI ((a,b,c,d,e,f,g),s)=true↔0≤s∧s<b∧s≠a:=by
 simp only[uI,t77,LT.val,k6,aC,aB,ar,ay,aL,aS,aM,bg,ek,al,bq,bl,bp,cf,dh,Bool.and_eq_true,Bool.or_eq_true,Bool.and_eq_false_iff,Bool.or_eq_false_iff,Bool.not_eq_true',Bool.not_eq_false',decide_eq_true_eq,decide_eq_false_iff_not,bne_iff_ne,beq_iff_eq,bne_eq_false_iff_eq,beq_eq_false_iff_ne,wh]
 simp
 rw[gW (by omega) (by omega)]
 omega
theorem y8{x:(Int×Int×Int×Int×Int×Int×Int)×Int}:0≤(fJ x).2∧(fJ x).2≤2:=by
 obtain⟨⟨a,b,c,d,e,f,g⟩,s⟩:=x
 exact LT.i_ (p:=fun y:List Int×Int=>0≤y.2∧y.2≤2) (by decide) (by simp[t78,LT.all])
structure QE where
 (a0 a1 a2 a4 a5 a6 a7 a8 a9 fw jK a12 wi pq pu a16 a17 qE kZ a20 a21 a22 a23:Int) (a24:Bool) (a25 a26 a27 a28 a29 a30 a31 a32 a33 a34 a35 a36 a37 a38 a39 a40:Int)
inductive UO where
 | c0 (p:QE) (a3:Int)
noncomputable def Uu:UO→ei
 | .c0 p a3=>⟨[⟨176,37,(en [(0,.yield 0),(24,.jD 1 1 false p.a0 p.a1),(25,vi p.a2),(26,vi a3)]),[.inLoop (cw Tryz.f176 [1,1,1,0,0]),.inBlock 0],[],none⟩,⟨184,19,(en [(6,.ptr 2 0),(7,.ptr 3 0)]),[.gI 0,.inBlock 0,.code (cw Tryz.f184 [1,1])],[4],none⟩],[.loop ⟨184,19,(en [(0,.agg [vi p.a4,vi p.a5,vi p.a6,vi p.a7,vi p.a8,vi p.a9,vi p.fw]),(1,vi p.jK),(2,vi p.a12),(3,.ptr 5 0),(5,.ptr 6 0),(6,.ptr 2 0),(7,.ptr 3 0),(10,.agg [vi p.wi,vi p.pq,vi p.pu,vi p.a16,vi p.a17,vi p.qE,vi p.kZ]),(11,vi p.a20),(12,.fn 176 [] [.ptr 7 0,.ptr 8 0])]),[13,14],(cw Tryz.f184 [1,0,1,0,0]),(cw Tryz.f184 [1,0,1,0,1]),0,none⟩,.flat false [vi p.a21,vi p.a22],.flat false [vi p.a23],.flat false [vb p.a24],.wS,.flat false [vi p.a25,vi p.a26,vi p.a27,vi p.a28,vi p.a29,vi p.a30,vi p.a31],.flat false [vi p.a32],.flat false [vi p.a33,vi p.a34,vi p.a35,vi p.a36,vi p.a37,vi p.a38,vi p.a39],.flat false [vi p.a40],.dead]⟩
def t74(A:bK)(mId:Int)(mN:Int)(mSet:Int)(mAcc:Int)(mFail:Int)(mStage:Int)(mFirst:Int)(sender:Int)(which:Int):LT (Int×Bool) UO:=.need (A.k (@tt ((Int×Int×Int×Int×Int×Int×Int))) (mId,mN,mSet,mAcc,mFail,mStage,mFirst)) (.br (A.c .neq (A.k iH (mId,mN,mSet,mAcc,mFail,mStage,mFirst)) 0) (.ret (0,false)) (.need (A.k (@tt ((Int×Int×Int×Int×Int×Int×Int)×Int)) ((mId,mN,mSet,mAcc,mFail,mStage,mFirst),sender)) (.br (A.not (A.k uI ((mId,mN,mSet,mAcc,mFail,mStage,mFirst),sender))) (.ret (0,false)) (.need (A.k v8 ((mId,mN,mSet,mAcc,mFail,mStage,mFirst),sender)) (.need (A.and (A.c .leq 0 0) (A.and (A.c .leq 0 (A.k fJ ((mId,mN,mSet,mAcc,mFail,mStage,mFirst),sender)).2) (A.c .leq (A.k fJ ((mId,mN,mSet,mAcc,mFail,mStage,mFirst),sender)).2 2))) (.more (.c0 ⟨(A.b .add .i64 0 0),(A.b .sub .i64 (A.k fJ ((mId,mN,mSet,mAcc,mFail,mStage,mFirst),sender)).2 0),(A.b .sub .i64 (A.k fJ ((mId,mN,mSet,mAcc,mFail,mStage,mFirst),sender)).2 0),mId,mN,mSet,mAcc,mFail,mStage,mFirst,sender,which,mId,mN,mSet,mAcc,mFail,mStage,mFirst,sender,(A.n yI (A.k fJ ((mId,mN,mSet,mAcc,mFail,mStage,mFirst),sender)).1 0:Int),(A.n yI (A.k fJ ((mId,mN,mSet,mAcc,mFail,mStage,mFirst),sender)).1 1:Int),0,false,mId,mN,mSet,mAcc,mFail,mStage,mFirst,which,mId,mN,mSet,mAcc,mFail,mStage,mFirst,sender⟩ 0)))))))
def Rx(A:bK):UO→LT (Int×Bool) UO
 | .c0 p a3=>.br (A.c .lss a3 p.a2) (.need (A.and (A.c .leq 0 a3) (A.c .lss a3 p.a1)) (.br (A.c .eql a3 p.a32) (.ret ((A.n yI [p.a21,p.a22] (A.b .add .i64 p.a0 a3):Int),true)) (.more (.c0 p (A.b .add .i64 a3 1))))) (.ret (0,false))
def rf:((Int×Int×Int×Int×Int×Int×Int)×Int×Int)→(Int×Bool):=fun(m,s,k)=>bif iH m != 0 then(0,false) else bif !uI (m,s) then(0,false) else bif decide (0≤k)&&decide (k<(fJ (m,s)).2) then((fJ (m,s)).1.getD k.toNat 0,true) else(0,false)
def WA:aG:=⟨[(.struct [yI,yI,yI,yI,yI,yI,yI]),yI,yI], [yI,.bool],(@tt ((Int×Int×Int×Int×Int×Int×Int)×Int×Int)),rf⟩
theorem WI:Sd 184 WA:=aQ aA dY true 70 [⟨176,3, [[0,24,25,26], [6,7]]⟩] [] (fun A ((mId,mN,mSet,mAcc,mFail,mStage,mFirst),sender,which)=>t74 A mId mN mSet mAcc mFail mStage mFirst sender which) Rx Uu (fc Tryz.func184 (fc Tryz.func102 (fc Tryz.func176 fz))) (sc zl (sc Kc (sc O3 sz))) (fun A y=>match y with |.c0 p a3=>⟨57,by kernel_rfl,by kernel_rfl⟩) fun(((mId,mN,mSet,mAcc,mFail,mStage,mFirst),sender,which):(Int×Int×Int×Int×Int×Int×Int)×Int×Int) hp h=>by
 show aK (Rx ai) (t74 ai mId mN mSet mAcc mFail mStage mFirst sender which) (rf ((mId,mN,mSet,mAcc,mFail,mStage,mFirst),sender,which))
 unfold t74 rf
 refine .need rfl (.br ?_)
 simp only[al,aB,bg]
 cases h1:iH (mId,mN,mSet,mAcc,mFail,mStage,mFirst) != 0
 ·simp only[cond_false]
  rw[bne_eq_false_iff_eq] at h1
  have hm:=ft.1 h1
  unfold gS at hm
  refine .need rfl (.br ?_)
  cases h2:uI ((mId,mN,mSet,mAcc,mFail,mStage,mFirst),sender)
  ·exact .ret _
  ·simp only[Bool.not_true,cond_false]
   have h3:=(mo (by omega) (by omega)).1 h2
   have hq:=y8 (x:=((mId,mN,mSet,mAcc,mFail,mStage,mFirst),sender))
   refine .need (by simp[v8];omega) ?_
   generalize fJ ((mId,mN,mSet,mAcc,mFail,mStage,mFirst),sender)=q at *
   obtain⟨l,n⟩:=q
   simp only at hq
   refine .need (by simp only[aM,ay,Bool.and_eq_true,decide_eq_true_eq];omega) ?_
   have hn:n=0∨n=1∨n=2:=by omega
   have hk:which=0∨which=1∨(which≠0∧which≠1):=by omega
   have e0:IntKind.i64.wrap 0=0:=by decide
   have e1:IntKind.i64.wrap 1=1:=by decide
   have e2:IntKind.i64.wrap 2=2:=by decide
   rcases hn with rfl|rfl|rfl<;>rcases hk with rfl|rfl|⟨k0,k1⟩
   all_goals first
    | (simp[ap,Rx,oQ,af,sK,ar,ay,aC,aM,bq,bl,As,e0,e1,e2,Ty.gB];done)
    | (simp[ap,Rx,oQ,af,sK,ar,ay,aC,aM,bq,bl,e0,e1,e2];rfl)
    | (have b0:(0==which)=false:=by simp<;>omega
       have b1:(1==which)=false:=by simp<;>omega
       have c0:(decide (0≤which)&&decide (which<0))=false:=by simp<;>omega
       have c1:(decide (0≤which)&&decide (which<1))=false:=by simp<;>omega
       have c2:(decide (0≤which)&&decide (which<2))=false:=by simp<;>omega
       simp only[c0,c1,c2]
       simp[ap,Rx,oQ,af,sK,ar,ay,aC,aM,bq,bl,As,e0,e1,e2,b0,b1])
 ·exact .ret _
theorem dK{a b c d e f g s:Int}:zt ((a,b,c,d,e,f,g),s)=0↔gS a b c d e f g∧0≤s∧s<b∧s≠a:=by
 simp only[zt,t73,LT.val,k6,aC,aB,ar,ay,aL,aS,aM,bg,ek,al,bq,bl,bp,cf,dh,Bool.and_eq_true,Bool.or_eq_true,Bool.and_eq_false_iff,Bool.or_eq_false_iff,Bool.not_eq_true',Bool.not_eq_false',decide_eq_true_eq,decide_eq_false_iff_not,bne_iff_ne,beq_iff_eq,bne_eq_false_iff_eq,beq_eq_false_iff_ne]
 constructor
 ·intro h
  rcases h with ⟨h1,h2⟩|⟨h1,h2⟩
  ·exact absurd h2 h1
  ·have hm:=ft.1 h1
   have hm':=hm
   unfold gS at hm'
   rcases h2 with ⟨h2,h3⟩|⟨h2,_⟩
   ·cases h3
   ·exact⟨hm,(mo (by omega) (by omega)).1 h2⟩
 ·rintro ⟨hm,hs⟩
  have hm':=hm
  unfold gS at hm'
  exact .inr ⟨ft.2 hm,.inr ⟨(mo (by omega) (by omega)).2 hs,trivial⟩⟩
def t25(A:bK)(mId:Int)(mN:Int)(mSet:Int)(mAcc:Int)(mFail:Int)(mStage:Int)(mFirst:Int)(sender:Int)(which:Int):LT ((Int×Int×Int×Int×Int×Int×Int)×Int) Empty:=.need (A.k (@tt ((Int×Int×Int×Int×Int×Int×Int)×Int)) ((mId,mN,mSet,mAcc,mFail,mStage,mFirst),sender)) (.br (A.c .neq (A.k zt ((mId,mN,mSet,mAcc,mFail,mStage,mFirst),sender)) 0) (.ret ((0,0,0,0,0,0,0),(A.k zt ((mId,mN,mSet,mAcc,mFail,mStage,mFirst),sender)))) (.need (A.k (@tt ((Int×Int×Int×Int×Int×Int×Int)×Int×Int)) ((mId,mN,mSet,mAcc,mFail,mStage,mFirst),sender,which)) (.br (A.not (A.k rf ((mId,mN,mSet,mAcc,mFail,mStage,mFirst),sender,which)).2) (.ret ((0,0,0,0,0,0,0),2)) (.br (A.c .eql mStage 1) (.br (A.c .eql which 1) (.need (A.c .leq 0 sender) (.ret ((mId,mN,(A.b .or .i64 mSet (A.b .shl .i64 1 sender)),mAcc,mFail,2,sender),0))) (.br (A.c .eql mStage 2) (.br (A.c .neq sender mFirst) (.ret ((mId,mN,(A.k rf ((mId,mN,mSet,mAcc,mFail,mStage,mFirst),sender,which)).1,(A.mn (A.b .add .i64 mAcc 1) 1048576),(A.mn (A.b .add .i64 mFail 1) 1048576),0,0),0)) (.ret ((mId,mN,(A.k rf ((mId,mN,mSet,mAcc,mFail,mStage,mFirst),sender,which)).1,(A.mn (A.b .add .i64 mAcc 1) 1048576),mFail,0,0),0))) (.ret ((mId,mN,(A.k rf ((mId,mN,mSet,mAcc,mFail,mStage,mFirst),sender,which)).1,(A.mn (A.b .add .i64 mAcc 1) 1048576),mFail,0,0),0)))) (.br (A.c .eql mStage 2) (.br (A.c .neq sender mFirst) (.ret ((mId,mN,(A.k rf ((mId,mN,mSet,mAcc,mFail,mStage,mFirst),sender,which)).1,(A.mn (A.b .add .i64 mAcc 1) 1048576),(A.mn (A.b .add .i64 mFail 1) 1048576),0,0),0)) (.ret ((mId,mN,(A.k rf ((mId,mN,mSet,mAcc,mFail,mStage,mFirst),sender,which)).1,(A.mn (A.b .add .i64 mAcc 1) 1048576),mFail,0,0),0))) (.ret ((mId,mN,(A.k rf ((mId,mN,mSet,mAcc,mFail,mStage,mFirst),sender,which)).1,(A.mn (A.b .add .i64 mAcc 1) 1048576),mFail,0,0),0)))))))
def kC:((Int×Int×Int×Int×Int×Int×Int)×Int×Int)→((Int×Int×Int×Int×Int×Int×Int)×Int):=fun((mId,mN,mSet,mAcc,mFail,mStage,mFirst),sender,which)=>(t25 ai mId mN mSet mAcc mFail mStage mFirst sender which).val (Ty.cq [(.struct [yI,yI,yI,yI,yI,yI,yI]),yI])
def WE:aG:=⟨[(.struct [yI,yI,yI,yI,yI,yI,yI]),yI,yI], [(.struct [yI,yI,yI,yI,yI,yI,yI]),yI],(@tt ((Int×Int×Int×Int×Int×Int×Int)×Int×Int)),kC⟩
theorem V7:Sd 109 WE:=aO aA dY true 107 [] (fun A ((mId,mN,mSet,mAcc,mFail,mStage,mFirst),sender,which)=>t25 A mId mN mSet mAcc mFail mStage mFirst sender which) (fc Tryz.func109 fz) (sc QM (sc WI sz)) (fun(((mId,mN,mSet,mAcc,mFail,mStage,mFirst),sender,which):(Int×Int×Int×Int×Int×Int×Int)×Int×Int) hp h=>by
 show(t25 ai mId mN mSet mAcc mFail mStage mFirst sender which).pre=true
 simp only[t25,LT.pre,eE,aC,aB,ar,ay,aL,aS,aM,bg,ek,al,bq,bl,bp,cf,dh,Bool.and_eq_true,Bool.or_eq_true,Bool.and_eq_false_iff,Bool.or_eq_false_iff,Bool.not_eq_true',Bool.not_eq_false',decide_eq_true_eq,decide_eq_false_iff_not,bne_iff_ne,beq_iff_eq,bne_eq_false_iff_eq,beq_eq_false_iff_ne]
 simp only[Ty.dM,Ty.has,mj] at h
 (repeat' (first|intro _|constructor))<;>(try (have hm:=(dK.1 (by assumption));unfold gS at hm;omega)))
def t38(A:bK)(mId:Int)(mN:Int)(mSet:Int)(mAcc:Int)(mFail:Int)(mStage:Int)(mFirst:Int)(sender:Int):LT ((Int×Int×Int×Int×Int×Int×Int)×Int) Empty:=.need (A.k (@tt ((Int×Int×Int×Int×Int×Int×Int)×Int)) ((mId,mN,mSet,mAcc,mFail,mStage,mFirst),sender)) (.br (A.c .neq (A.k zt ((mId,mN,mSet,mAcc,mFail,mStage,mFirst),sender)) 0) (.ret ((0,0,0,0,0,0,0),(A.k zt ((mId,mN,mSet,mAcc,mFail,mStage,mFirst),sender)))) (.need (A.c .leq 0 sender) (.br (A.c .eql mStage 2) (.br (A.c .eql mFirst sender) (.ret ((mId,mN,(A.b .andNot .i64 mSet (A.b .shl .i64 1 sender)),mAcc,mFail,1,0),0)) (.ret ((mId,mN,(A.b .andNot .i64 mSet (A.b .shl .i64 1 sender)),mAcc,mFail,mStage,mFirst),0))) (.ret ((mId,mN,(A.b .andNot .i64 mSet (A.b .shl .i64 1 sender)),mAcc,mFail,mStage,mFirst),0)))))
def ki:((Int×Int×Int×Int×Int×Int×Int)×Int)→((Int×Int×Int×Int×Int×Int×Int)×Int):=fun((mId,mN,mSet,mAcc,mFail,mStage,mFirst),sender)=>(t38 ai mId mN mSet mAcc mFail mStage mFirst sender).val (Ty.cq [(.struct [yI,yI,yI,yI,yI,yI,yI]),yI])
def Vk:aG:=⟨[(.struct [yI,yI,yI,yI,yI,yI,yI]),yI], [(.struct [yI,yI,yI,yI,yI,yI,yI]),yI],(@tt ((Int×Int×Int×Int×Int×Int×Int)×Int)),ki⟩
theorem Oh:Sd 107 Vk:=aO aA dY true 63 [] (fun A ((mId,mN,mSet,mAcc,mFail,mStage,mFirst),sender)=>t38 A mId mN mSet mAcc mFail mStage mFirst sender) (fc Tryz.func107 fz) (sc QM sz) (fun(((mId,mN,mSet,mAcc,mFail,mStage,mFirst),sender):(Int×Int×Int×Int×Int×Int×Int)×Int) hp h=>by
 show(t38 ai mId mN mSet mAcc mFail mStage mFirst sender).pre=true
 simp only[t38,LT.pre,eE,aC,aB,ar,ay,aL,aS,aM,bg,ek,al,bq,bl,bp,cf,dh,Bool.and_eq_true,Bool.or_eq_true,Bool.and_eq_false_iff,Bool.or_eq_false_iff,Bool.not_eq_true',Bool.not_eq_false',decide_eq_true_eq,decide_eq_false_iff_not,bne_iff_ne,beq_iff_eq,bne_eq_false_iff_eq,beq_eq_false_iff_ne]
 simp only[Ty.dM,Ty.has,mj] at h
 (repeat' (first|intro _|constructor))<;>(try (have hm:=(dK.1 (by assumption));unfold gS at hm;omega)))
def t39(A:bK)(mId:Int)(mN:Int)(mSet:Int)(mAcc:Int)(mFail:Int)(mStage:Int)(mFirst:Int)(sender:Int):LT ((Int×Int×Int×Int×Int×Int×Int)×Int) Empty:=.need (A.k (@tt ((Int×Int×Int×Int×Int×Int×Int)×Int)) ((mId,mN,mSet,mAcc,mFail,mStage,mFirst),sender)) (.br (A.c .eql (A.k ki ((mId,mN,mSet,mAcc,mFail,mStage,mFirst),sender)).2 0) (.ret (((A.k ki ((mId,mN,mSet,mAcc,mFail,mStage,mFirst),sender)).1.1,(A.k ki ((mId,mN,mSet,mAcc,mFail,mStage,mFirst),sender)).1.2.1,(A.k ki ((mId,mN,mSet,mAcc,mFail,mStage,mFirst),sender)).1.2.2.1,(A.k ki ((mId,mN,mSet,mAcc,mFail,mStage,mFirst),sender)).1.2.2.2.1,(A.mn (A.b .add .i64 (A.k ki ((mId,mN,mSet,mAcc,mFail,mStage,mFirst),sender)).1.2.2.2.2.1 1) 1048576),(A.k ki ((mId,mN,mSet,mAcc,mFail,mStage,mFirst),sender)).1.2.2.2.2.2),(A.k ki ((mId,mN,mSet,mAcc,mFail,mStage,mFirst),sender)).2)) (.ret (A.k ki ((mId,mN,mSet,mAcc,mFail,mStage,mFirst),sender))))
def EW:((Int×Int×Int×Int×Int×Int×Int)×Int)→((Int×Int×Int×Int×Int×Int×Int)×Int):=fun((mId,mN,mSet,mAcc,mFail,mStage,mFirst),sender)=>(t39 ai mId mN mSet mAcc mFail mStage mFirst sender).val (Ty.cq [(.struct [yI,yI,yI,yI,yI,yI,yI]),yI])
def U9:aG:=⟨[(.struct [yI,yI,yI,yI,yI,yI,yI]),yI], [(.struct [yI,yI,yI,yI,yI,yI,yI]),yI],(@tt ((Int×Int×Int×Int×Int×Int×Int)×Int)),EW⟩
theorem WZ:Sd 108 U9:=aO aA dY true 45 [] (fun A ((mId,mN,mSet,mAcc,mFail,mStage,mFirst),sender)=>t39 A mId mN mSet mAcc mFail mStage mFirst sender) (fc Tryz.func108 fz) (sc Oh sz) (fun(((mId,mN,mSet,mAcc,mFail,mStage,mFirst),sender):(Int×Int×Int×Int×Int×Int×Int)×Int) hp h=>by
 show(t39 ai mId mN mSet mAcc mFail mStage mFirst sender).pre=true
 simp only[t39,LT.pre,eE,aC,aB,ar,ay,aL,aS,aM,bg,ek,al,bq,bl,bp,cf,dh,Bool.and_eq_true,Bool.or_eq_true,Bool.and_eq_false_iff,Bool.or_eq_false_iff,Bool.not_eq_true',Bool.not_eq_false',decide_eq_true_eq,decide_eq_false_iff_not,bne_iff_ne,beq_iff_eq,bne_eq_false_iff_eq,beq_eq_false_iff_ne]
 simp only[Ty.dM,Ty.has,mj,zW] at h
 (repeat' (first|intro _|constructor))<;>(try omega))
def inc(d:Int):Int:=if d<1048576 then d+1 else 1048576
theorem lU{d:Int}(h0:0≤d)(h1:d≤1048576):ai.mn (ai.b .add .i64 d 1) 1048576=inc d:=by
 rw[nC,bq,gW (by omega) (by omega),inc]
 split<;>split<;>omega
section
variable {a b c d e f g s:Int}
theorem zP:fJ ((a,b,c,d,e,0,g),s)=([gX c s,0],1):=rfl
theorem zY:fJ ((a,b,c,d,e,1,g),s)=([gX (gX c s) a,lF (gX c s) a],2):=rfl
theorem wZ:fJ ((a,b,c,d,e,2,g),g)=([gX (gX c g) a,0],1):=by
 simp[fJ,t78,LT.val,aC,gX]
theorem wq(h:s≠g):fJ ((a,b,c,d,e,2,g),s)=([lF (gX (gX c s) a) g,lF (gX (gX c s) g) a],2):=by
 have hb:(s==g)=false:=by simpa using h
 simp[fJ,t78,LT.val,aC,gX,lF,hb]
theorem jL(h:gS a b c d e f g)(h0:0≤s)(h1:s<b)(h2:s≠a)(k:Int):rf ((a,b,c,d,e,f,g),s,k) =
  bif decide (0≤k)&&decide (k<(fJ ((a,b,c,d,e,f,g),s)).2) then((fJ ((a,b,c,d,e,f,g),s)).1.getD k.toNat 0,true) else(0,false):=by
 have hm:=h
 unfold gS at hm
 simp only[rf,ft.2 h,(mo (by omega) (by omega)).2 ⟨h0,h1,h2⟩,bne_self_eq_false,Bool.not_true,cond_false]
theorem C4(h:gS a b c d e 0 g)(h0:0≤s)(h1:s<b)(h2:s≠a):kC ((a,b,c,d,e,0,g),s,0)=((a,b,gX c s,inc d,e,0,0),0):=by
 have hm:=h
 unfold gS at hm
 simp[kC,t25,LT.val,al,aB,aC,bg,dK.2 ⟨h,h0,h1,h2⟩,jL h h0 h1 h2,zP,lU (d:=d) (by omega) (by omega)]
theorem EV(h:gS a b c d e 1 g)(h0:0≤s)(h1:s<b)(h2:s≠a):kC ((a,b,c,d,e,1,g),s,0)=((a,b,gX (gX c s) a,inc d,e,0,0),0):=by
 have hm:=h
 unfold gS at hm
 simp[kC,t25,LT.val,al,aB,aC,bg,dK.2 ⟨h,h0,h1,h2⟩,jL h h0 h1 h2,zY,lU (d:=d) (by omega) (by omega)]
theorem Bd(h:gS a b c d e 1 g)(h0:0≤s)(h1:s<b)(h2:s≠a):kC ((a,b,c,d,e,1,g),s,1)=((a,b,gX c s,d,e,2,s),0):=by
 simp[kC,t25,LT.val,al,aB,aC,bg,dK.2 ⟨h,h0,h1,h2⟩,jL h h0 h1 h2,zY,gX]
theorem Ax(h:gS a b c d e 2 g)(h0:0≤g)(h1:g<b)(h2:g≠a):kC ((a,b,c,d,e,2,g),g,0)=((a,b,gX (gX c g) a,inc d,e,0,0),0):=by
 have hm:=h
 unfold gS at hm
 simp[kC,t25,LT.val,al,aB,aC,bg,dK.2 ⟨h,h0,h1,h2⟩,jL h h0 h1 h2,wZ,lU (d:=d) (by omega) (by omega)]
theorem AP(h:gS a b c d e 2 g)(h0:0≤s)(h1:s<b)(h2:s≠a)(h3:s≠g):kC ((a,b,c,d,e,2,g),s,0)=((a,b,lF (gX (gX c s) a) g,inc d,inc e,0,0),0):=by
 have hm:=h
 unfold gS at hm
 simp[kC,t25,LT.val,al,aB,aC,bg,dK.2 ⟨h,h0,h1,h2⟩,jL h h0 h1 h2,wq h3,show(s != g)=true from by simpa using h3,lU (d:=d) (by omega) (by omega),lU (d:=e) (by omega) (by omega)]
theorem AY(h:gS a b c d e 2 g)(h0:0≤s)(h1:s<b)(h2:s≠a)(h3:s≠g):kC ((a,b,c,d,e,2,g),s,1)=((a,b,lF (gX (gX c s) g) a,inc d,inc e,0,0),0):=by
 have hm:=h
 unfold gS at hm
 simp[kC,t25,LT.val,al,aB,aC,bg,dK.2 ⟨h,h0,h1,h2⟩,jL h h0 h1 h2,wq h3,show(s != g)=true from by simpa using h3,lU (d:=d) (by omega) (by omega),lU (d:=e) (by omega) (by omega)]
theorem DR(h:gS a b c d e f g)(h0:0≤s)(h1:s<b)(h2:s≠a)(h3:f≠2):ki ((a,b,c,d,e,f,g),s)=((a,b,lF c s,d,e,f,g),0):=by
 have hb:(f==2)=false:=by simpa using h3
 simp[ki,t38,LT.val,al,aB,aC,dK.2 ⟨h,h0,h1,h2⟩,lF,hb]
theorem Dl(h:gS a b c d e 2 g)(h0:0≤s)(h1:s<b)(h2:s≠a)(h3:g≠s):ki ((a,b,c,d,e,2,g),s)=((a,b,lF c s,d,e,2,g),0):=by
 have hb:(g==s)=false:=by simpa using h3
 simp[ki,t38,LT.val,al,aB,aC,dK.2 ⟨h,h0,h1,h2⟩,lF,hb]
theorem EP(h:gS a b c d e 2 g)(h2:g≠a):ki ((a,b,c,d,e,2,g),g)=((a,b,lF c g,d,e,1,0),0):=by
 have hm:=h
 unfold gS at hm
 simp[ki,t38,LT.val,al,aB,aC,dK.2 ⟨h,hm.2.2.2.2.1,hm.2.2.2.2.2.1,h2⟩,lF]
theorem Dv{m m':Int×Int×Int×Int×Int×Int×Int}(h:ki (m,s)=(m',0))(h0:0≤m'.2.2.2.2.1)(h1:m'.2.2.2.2.1≤1048576):EW (m,s)=((m'.1,m'.2.1,m'.2.2.1,m'.2.2.2.1,inc m'.2.2.2.2.1,m'.2.2.2.2.2),0):=by
 obtain⟨a,b,c,d,e,f,g⟩:=m
 simp[EW,t39,LT.val,al,aC,h,lU h0 h1]
end
end Go.Ev.M
