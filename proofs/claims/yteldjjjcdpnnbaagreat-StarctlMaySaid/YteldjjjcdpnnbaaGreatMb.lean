/-
  PROVED: what functions of the packages member and metronomeref09 compute. Conditions: none.
-/
import Derived.Test.YteldjjjcdpnnbaaGreatTy
import Derived.Test.YteldjjjcdpnnbaaGreatEvC
import Derived.Test.YteldjjjcdpnnbaaGreatPl
namespace Go.Ev.M
open Go.Proofs
set_option maxRecDepth 100000
set_option linter.unusedVariables false
set_option linter.unusedSimpArgs false
theorem Xt{n:Int}(h0:0≤n)(h1:n≤8):aj.b .shl .i64 1 n=((2^n.toNat:Nat):Int):=by
 have:n=0∨n=1∨n=2∨n=3∨n=4∨n=5∨n=6∨n=7∨n=8:=by omega
 rcases this with rfl|rfl|rfl|rfl|rfl|rfl|rfl|rfl|rfl<;>decide
theorem qa{n:Nat}(h:n≤8):2^n≤256:=Nat.pow_le_pow_right (by decide) h
def ic(c a:Int):Bool:=c.toNat.testBit a.toNat
def gl(c s:Int):Int:=aj.b .or .i64 c (aj.b .shl .i64 1 s)
def nf(c s:Int):Int:=aj.b .andNot .i64 c (aj.b .shl .i64 1 s)
theorem NK:∀c:Fin 256,∀a:Fin 8,aj.b .or .i64 (c.val:Int) (aj.b .shl .i64 1 (a.val:Int))=((c.val ||| 2^a.val:Nat):Int):=by decide +kernel
theorem MU:∀c:Fin 256,∀a:Fin 8,aj.b .andNot .i64 (c.val:Int) (aj.b .shl .i64 1 (a.val:Int))=((c.val &&& (255 ^^^ 2^a.val):Nat):Int):=by decide +kernel
theorem KG{c s:Int}(h0:0≤c)(h1:c<256)(h2:0≤s)(h3:s<8):gl c s=((c.toNat ||| 2^s.toNat:Nat):Int):=by
 obtain⟨c,rfl⟩:=Int.eq_ofNat_of_zero_le h0
 obtain⟨s,rfl⟩:=Int.eq_ofNat_of_zero_le h2
 exact NK ⟨c,by omega⟩ ⟨s,by omega⟩
theorem del_eq{c s:Int}(h0:0≤c)(h1:c<256)(h2:0≤s)(h3:s<8):nf c s=((c.toNat &&& (255 ^^^ 2^s.toNat):Nat):Int):=by
 obtain⟨c,rfl⟩:=Int.eq_ofNat_of_zero_le h0
 obtain⟨s,rfl⟩:=Int.eq_ofNat_of_zero_le h2
 exact MU ⟨c,by omega⟩ ⟨s,by omega⟩
theorem D8{c s n:Int}(h0:0≤c)(hn:n≤8)(h1:c<((2^n.toNat:Nat):Int))(h2:0≤s)(h3:s<n):0≤gl c s∧gl c s<((2^n.toNat:Nat):Int):=by
 have hp:=qa (n:=n.toNat) (by omega)
 rw[KG h0 (by omega) h2 (by omega)]
 have h4:2^s.toNat<2^n.toNat:=Nat.pow_lt_pow_right (by decide) (by omega)
 have:=Nat.or_lt_two_pow (x:=c.toNat) (y:=2^s.toNat) (n:=n.toNat) (by omega) h4
 omega
theorem Lt{c s n:Int}(h0:0≤c)(hn:n≤8)(h1:c<((2^n.toNat:Nat):Int))(h2:0≤s)(h3:s<8):0≤nf c s∧nf c s<((2^n.toNat:Nat):Int):=by
 have hp:2^n.toNat≤2^8:=Nat.pow_le_pow_right (by decide) (by omega)
 rw[del_eq h0 (by omega) h2 (by omega)]
 have:c.toNat &&& (255 ^^^ 2^s.toNat)≤c.toNat:=Nat.and_le_left
 omega
theorem Ag{c s i:Int}(h0:0≤c)(h1:c<256)(h2:0≤s)(h3:s<8)(h4:0≤i):ic (gl c s) i=(ic c i||s==i):=by
 rw[KG h0 h1 h2 h3,ic,ic,Int.toNat_natCast,Nat.testBit_or,Nat.testBit_two_pow]
 congr 1
 rw[Bool.eq_iff_iff];simp;omega
theorem AX{c s i:Int}(h0:0≤c)(h1:c<256)(h2:0≤s)(h3:s<8)(h4:0≤i):ic (nf c s) i=(ic c i&&s != i):=by
 rw[del_eq h0 h1 h2 h3,ic,ic,Int.toNat_natCast,Nat.testBit_and,Nat.testBit_xor,Nat.testBit_two_pow]
 by_cases hi:i<8
 ·have e:Nat.testBit 255 i.toNat=true:=by
   have:i.toNat=0∨i.toNat=1∨i.toNat=2∨i.toNat=3∨i.toNat=4∨i.toNat=5∨i.toNat=6∨i.toNat=7:=by omega
   rcases this with h|h|h|h|h|h|h|h<;>rw[h]<;>decide
  rw[e]
  congr 1
  rw[Bool.eq_iff_iff];simp;omega
 ·have:c.toNat.testBit i.toNat=false:=Nat.testBit_lt_two_pow (Nat.lt_of_lt_of_le (by omega:c.toNat<2^8) (Nat.pow_le_pow_right (by decide) (by omega)))
  rw[this];rfl
theorem Nl{c d:Int}(h0:0≤c)(h1:c<256)(h2:0≤d)(h3:d<256)(h:∀i:Int,0≤i→i<8→ic c i=ic d i):c=d:=by
 have:c.toNat=d.toNat:=Nat.eq_of_testBit_eq fun i=>by
  by_cases hi:i<8
  ·exact h i (by omega) (by omega)
  ·rw[Nat.testBit_lt_two_pow (Nat.lt_of_lt_of_le (by omega:c.toNat<2^8) (Nat.pow_le_pow_right (by decide) (by omega))),Nat.testBit_lt_two_pow (Nat.lt_of_lt_of_le (by omega:d.toNat<2^8) (Nat.pow_le_pow_right (by decide) (by omega)))]
 omega
theorem KQ:∀c:Fin 256,∀a:Fin 8,(aj.b .and .i64 (aj.b .shr .i64 (c.val:Int) (a.val:Int)) 1==0)=!(c.val.testBit a.val):=by decide +kernel
theorem JD:∀c:Fin 256,∀a:Fin 8,(aj.b .and .i64 (c.val:Int) (aj.b .shl .i64 1 (a.val:Int))==0)=!(c.val.testBit a.val):=by decide +kernel
theorem OU{c a:Int}(h0:0≤c)(h1:c<256)(h2:0≤a)(h3:a<8):aj.b .and .i64 (aj.b .shr .i64 c a) 1=0↔ic c a=false:=by
 obtain⟨c,rfl⟩:=Int.eq_ofNat_of_zero_le h0
 obtain⟨a,rfl⟩:=Int.eq_ofNat_of_zero_le h2
 have:=KQ ⟨c,by omega⟩ ⟨a,by omega⟩
 simp only at this
 rw[←beq_iff_eq,this]
 simp[ic]
theorem OH{c a:Int}(h0:0≤c)(h1:c<256)(h2:0≤a)(h3:a<8):aj.b .and .i64 c (aj.b .shl .i64 1 a)=0↔ic c a=false:=by
 obtain⟨c,rfl⟩:=Int.eq_ofNat_of_zero_le h0
 obtain⟨a,rfl⟩:=Int.eq_ofNat_of_zero_le h2
 have:=JD ⟨c,by omega⟩ ⟨a,by omega⟩
 simp only at this
 rw[←beq_iff_eq,this]
 simp[ic]
def gP(a b c d e f g:Int):Prop:=4≤b∧b≤8∧0≤a∧a<b∧0≤g∧g<b∧0≤c∧c<((2^b.toNat:Nat):Int)∧0≤d∧d≤1048576∧0≤e∧e≤1048576∧0≤f∧f≤2∧(f≠0→ic c a=true)∧(f=2→g≠a)
theorem Zm{a b c d e f g:Int}(h:gP a b c d e f g):c<256:=by
 obtain⟨h1,h2,_,_,_,_,_,h3,_⟩:=h
 have:=qa (n:=b.toNat) (by omega)
 omega
def ZX(A:bi)(n:Int)(most:Int):LT Bool Empty:=.br (A.c .geq n 0) (.ret (A.c .leq n most)) (.ret false)
def xU:(Int×Int)→Bool:=fun(n,most)=>(ZX aj n most).val (Ty.bZ [.bool])
def abR:aD:=⟨[yI,yI], [.bool],(@tt (Int×Int)),xU⟩
theorem TY:Sd 152 abR:=aM au cK true 21 [] (fun A (n,most)=>ZX A n most) (fc Tryz.func152 fz) sz (fun((n,most):Int×Int) hp h=>by
 show(ZX aj n most).pre=true
 simp only[ZX,LT.pre,fB,aF,aJ,ar,aB,aG,aN,aR,bD,fx,ap,bw,aZ,bu,cH,cN,Bool.and_eq_true,Bool.or_eq_true,Bool.and_eq_false_iff,Bool.or_eq_false_iff,Bool.not_eq_true',Bool.not_eq_false',decide_eq_true_eq,decide_eq_false_iff_not,bne_iff_ne,beq_iff_eq,bne_eq_false_iff_eq,beq_eq_false_iff_ne]
 simp only[Ty.dK,Ty.has,n_,Cr] at h
 (repeat' (first|intro _|constructor))<;>(try omega))
theorem A1{n m:Int}:xU (n,m)=(decide (0≤n)&&decide (n≤m)):=by
 simp only[xU,ZX,LT.val,aN,aB]
 cases decide (0≤n)<;>rfl
def t34(A:bi)(mId:Int)(mN:Int)(mSet:Int)(mAcc:Int)(mFail:Int)(mStage:Int)(mFirst:Int):LT Int Empty:=.br (A.c .lss mN 4) (.ret 90) (.br (A.c .gtr mN 8) (.ret 90) (.need (A.k (@tt (Int×Int)) (mId,(A.b .sub .i64 mN 1))) (.br (A.not (A.k xU (mId,(A.b .sub .i64 mN 1)))) (.ret 90) (.need (A.k (@tt (Int×Int)) (mFirst,(A.b .sub .i64 mN 1))) (.br (A.not (A.k xU (mFirst,(A.b .sub .i64 mN 1)))) (.ret 90) (.need (A.k (@tt (Int×Int)) (mAcc,1048576)) (.br (A.not (A.k xU (mAcc,1048576))) (.ret 90) (.need (A.k (@tt (Int×Int)) (mFail,1048576)) (.br (A.not (A.k xU (mFail,1048576))) (.ret 90) (.need (A.k (@tt (Int×Int)) (mStage,2)) (.br (A.not (A.k xU (mStage,2))) (.ret 90) (.need (A.c .leq 0 mN) (.need (A.k (@tt (Int×Int)) (mSet,(A.b .sub .i64 (A.b .shl .i64 1 mN) 1))) (.br (A.not (A.k xU (mSet,(A.b .sub .i64 (A.b .shl .i64 1 mN) 1)))) (.ret 90) (.br (A.c .neq mStage 0) (.need (A.c .leq 0 mId) (.br (A.c .eql (A.b .and .i64 (A.b .shr .i64 mSet mId) 1) 0) (.ret 90) (.br (A.c .eql mStage 2) (.br (A.c .eql mFirst mId) (.ret 90) (.ret 0)) (.ret 0)))) (.br (A.c .eql mStage 2) (.br (A.c .eql mFirst mId) (.ret 90) (.ret 0)) (.ret 0)))))))))))))))))
def iB:((Int×Int×Int×Int×Int×Int×Int))→Int:=fun(mId,mN,mSet,mAcc,mFail,mStage,mFirst)=>(t34 aj mId mN mSet mAcc mFail mStage mFirst).val (Ty.bZ [yI])
def aa2:aD:=⟨[(.struct [yI,yI,yI,yI,yI,yI,yI])], [yI],(@tt ((Int×Int×Int×Int×Int×Int×Int))),iB⟩
theorem Db:Sd 69 aa2:=aM au cK true 123 [] (fun A (mId,mN,mSet,mAcc,mFail,mStage,mFirst)=>t34 A mId mN mSet mAcc mFail mStage mFirst) (fc Tryz.func69 fz) (sc TY sz) (fun((mId,mN,mSet,mAcc,mFail,mStage,mFirst):(Int×Int×Int×Int×Int×Int×Int)) hp h=>by
 show(t34 aj mId mN mSet mAcc mFail mStage mFirst).pre=true
 simp only[t34,LT.pre,fB,aF,aJ,ar,aB,aG,aN,aR,bD,fx,ap,bw,aZ,bu,cH,cN,Bool.and_eq_true,Bool.or_eq_true,Bool.and_eq_false_iff,Bool.or_eq_false_iff,Bool.not_eq_true',Bool.not_eq_false',decide_eq_true_eq,decide_eq_false_iff_not,bne_iff_ne,beq_iff_eq,bne_eq_false_iff_eq,beq_eq_false_iff_ne,A1]
 simp only[Ty.dK,Ty.has,n_,Cr] at h
 (repeat' (first|intro _|constructor))<;>(try omega))
theorem D5{x:Int×Int×Int×Int×Int×Int×Int}:iB x=0∨iB x=90:=by
 obtain⟨a,b,c,d,e,f,g⟩:=x
 exact LT.jY (p:=fun y=>y=0∨y=90) (.inl rfl) (by simp[t34,LT.all])
theorem dJ{a b c d e f g:Int}:iB (a,b,c,d,e,f,g)=0↔gP a b c d e f g:=by
 simp only[iB,t34,LT.val,mB,aF,aJ,ar,aB,aG,aN,aR,bD,fx,ap,bw,aZ,bu,cH,cN,Bool.and_eq_true,Bool.or_eq_true,Bool.and_eq_false_iff,Bool.or_eq_false_iff,Bool.not_eq_true',Bool.not_eq_false',decide_eq_true_eq,decide_eq_false_iff_not,bne_iff_ne,beq_iff_eq,bne_eq_false_iff_eq,beq_eq_false_iff_ne,A1]
 simp
 unfold gP
 by_cases hb:4≤b∧b≤8
 ·rw[fI (by omega) (by omega),Xt (by omega) hb.2]
  have hp:=qa (n:=b.toNat) (by omega)
  have hp1:1≤2^b.toNat:=Nat.one_le_two_pow
  rw[fI (by omega) (by omega)]
  by_cases hc:0≤c∧c<256∧0≤a∧a<8
  ·have h:=OU hc.1 hc.2.1 hc.2.2.1 hc.2.2.2
   rw[h]
   cases ic c a<;>simp<;>omega
  ·constructor
   ·intro h;exfalso;omega
   ·intro h;exfalso;omega
 ·constructor
  ·intro h;exfalso;omega
  ·intro h;exfalso;omega
def t80(A:bi)(n:Int):LT Int Empty:=.need (A.c .leq 0 (A.v .u64 n)) (.ret (A.b .shl .i64 1 (A.v .u64 n)))
def M5:Int→Int:=fun n=>(t80 aj n).val (Ty.bZ [yI])
theorem F4{n:Int}(h0:0≤n)(h1:n≤8):M5 n=((2^n.toNat:Nat):Int):=by
 have:n=0∨n=1∨n=2∨n=3∨n=4∨n=5∨n=6∨n=7∨n=8:=by omega
 rcases this with rfl|rfl|rfl|rfl|rfl|rfl|rfl|rfl|rfl<;>decide
theorem KM{n:Int}(h0:0≤n)(h1:n≤8):M5 n=aj.b .shl .i64 1 n:=by rw[F4 h0 h1,Xt h0 h1]
def t35(A:bi)(mId:Int)(mN:Int)(mSet:Int)(mAcc:Int)(mFail:Int)(mStage:Int)(mFirst:Int):LT Int Empty:=.br (A.c .lss mN 4) (.ret 90) (.br (A.c .gtr mN 8) (.ret 90) (.br (A.c .lss mId 0) (.ret 90) (.br (A.c .geq mId mN) (.ret 90) (.br (A.c .lss mFirst 0) (.ret 90) (.br (A.c .geq mFirst mN) (.ret 90) (.br (A.c .lss mSet 0) (.ret 90) (.need (A.k (@tt Int) mN) (.br (A.c .geq mSet (A.k M5 mN)) (.ret 90) (.br (A.c .lss mAcc 0) (.ret 90) (.br (A.c .gtr mAcc 1048576) (.ret 90) (.br (A.c .lss mFail 0) (.ret 90) (.br (A.c .gtr mFail 1048576) (.ret 90) (.br (A.c .lss mStage 0) (.ret 90) (.br (A.c .gtr mStage 2) (.ret 90) (.br (A.c .neq mStage 0) (.need (A.k (@tt Int) mId) (.br (A.c .eql (A.b .and .i64 mSet (A.k M5 mId)) 0) (.ret 90) (.br (A.c .eql mStage 2) (.br (A.c .eql mFirst mId) (.ret 90) (.ret 0)) (.ret 0)))) (.br (A.c .eql mStage 2) (.br (A.c .eql mFirst mId) (.ret 90) (.ret 0)) (.ret 0)))))))))))))))))
def gS:((Int×Int×Int×Int×Int×Int×Int))→Int:=fun(mId,mN,mSet,mAcc,mFail,mStage,mFirst)=>(t35 aj mId mN mSet mAcc mFail mStage mFirst).val (Ty.bZ [yI])
theorem Ea{x:Int×Int×Int×Int×Int×Int×Int}:gS x=0∨gS x=90:=by
 obtain⟨a,b,c,d,e,f,g⟩:=x
 exact LT.jY (p:=fun y=>y=0∨y=90) (.inl rfl) (by simp[t35,LT.all])
theorem eF{a b c d e f g:Int}:gS (a,b,c,d,e,f,g)=0↔gP a b c d e f g:=by
 simp only[gS,t35,LT.val,mB,aF,aJ,ar,aB,aG,aN,aR,bD,fx,ap,bw,aZ,bu,cH,cN,Bool.and_eq_true,Bool.or_eq_true,Bool.and_eq_false_iff,Bool.or_eq_false_iff,Bool.not_eq_true',Bool.not_eq_false',decide_eq_true_eq,decide_eq_false_iff_not,bne_iff_ne,beq_iff_eq,bne_eq_false_iff_eq,beq_eq_false_iff_ne]
 simp
 unfold gP
 by_cases hb:4≤b∧b≤8∧0≤a∧a<b
 ·rw[F4 (by omega) hb.2.1,KM (n:=a) (by omega) (by omega)]
  have hp:=qa (n:=b.toNat) (by omega)
  by_cases hc:0≤c∧c<256
  ·have h:=OH (a:=a) hc.1 hc.2 (by omega) (by omega)
   rw[h]
   cases ic c a<;>simp<;>omega
  ·constructor
   ·intro h;exfalso;omega
   ·intro h;exfalso;omega
 ·constructor
  ·intro h;exfalso;omega
  ·intro h;exfalso;omega
theorem Ni{x:Int×Int×Int×Int×Int×Int×Int}:iB x=gS x:=by
 have h1:=D5 (x:=x)
 have h2:=Ea (x:=x)
 obtain⟨a,b,c,d,e,f,g⟩:=x
 have h3:=dJ (a:=a) (b:=b) (c:=c) (d:=d) (e:=e) (f:=f) (g:=g)
 have h4:=eF (a:=a) (b:=b) (c:=c) (d:=d) (e:=e) (f:=f) (g:=g)
 by_cases h:gP a b c d e f g
 ·rw[h3.2 h,h4.2 h]
 ·have:=mt h3.1 h;have:=mt h4.1 h;omega
def t77(A:bi)(mId:Int)(mN:Int)(mSet:Int)(mAcc:Int)(mFail:Int)(mStage:Int)(mFirst:Int)(node:Int):LT Bool Empty:=.need (A.k (@tt (Int×Int)) (node,(A.b .sub .i64 mN 1))) (.br (A.k xU (node,(A.b .sub .i64 mN 1))) (.ret (A.c .neq node mId)) (.ret false))
def xS:((Int×Int×Int×Int×Int×Int×Int)×Int)→Bool:=fun((mId,mN,mSet,mAcc,mFail,mStage,mFirst),node)=>(t77 aj mId mN mSet mAcc mFail mStage mFirst node).val (Ty.bZ [.bool])
def abg:aD:=⟨[(.struct [yI,yI,yI,yI,yI,yI,yI]),yI], [.bool],(@tt ((Int×Int×Int×Int×Int×Int×Int)×Int)),xS⟩
theorem Sy:Sd 204 abg:=aM au cK true 26 [] (fun A ((mId,mN,mSet,mAcc,mFail,mStage,mFirst),node)=>t77 A mId mN mSet mAcc mFail mStage mFirst node) (fc Tryz.func204 fz) (sc TY sz) (fun(((mId,mN,mSet,mAcc,mFail,mStage,mFirst),node):(Int×Int×Int×Int×Int×Int×Int)×Int) hp h=>by
 show(t77 aj mId mN mSet mAcc mFail mStage mFirst node).pre=true
 simp only[t77,LT.pre,fB,aF,aJ,ar,aB,aG,aN,aR,bD,fx,ap,bw,aZ,bu,cH,cN,Bool.and_eq_true,Bool.or_eq_true,Bool.and_eq_false_iff,Bool.or_eq_false_iff,Bool.not_eq_true',Bool.not_eq_false',decide_eq_true_eq,decide_eq_false_iff_not,bne_iff_ne,beq_iff_eq,bne_eq_false_iff_eq,beq_eq_false_iff_ne]
 simp only[Ty.dK,Ty.has,n_,Cr] at h
 (repeat' (first|intro _|constructor))<;>(try omega))
def t73(A:bi)(mId:Int)(mN:Int)(mSet:Int)(mAcc:Int)(mFail:Int)(mStage:Int)(mFirst:Int)(sender:Int):LT Int Empty:=.need (A.k (@tt ((Int×Int×Int×Int×Int×Int×Int))) (mId,mN,mSet,mAcc,mFail,mStage,mFirst)) (.br (A.c .neq (A.k iB (mId,mN,mSet,mAcc,mFail,mStage,mFirst)) 0) (.ret (A.k iB (mId,mN,mSet,mAcc,mFail,mStage,mFirst))) (.need (A.k (@tt ((Int×Int×Int×Int×Int×Int×Int)×Int)) ((mId,mN,mSet,mAcc,mFail,mStage,mFirst),sender)) (.br (A.not (A.k xS ((mId,mN,mSet,mAcc,mFail,mStage,mFirst),sender))) (.ret 2) (.ret 0))))
def Ej:((Int×Int×Int×Int×Int×Int×Int)×Int)→Int:=fun((mId,mN,mSet,mAcc,mFail,mStage,mFirst),sender)=>(t73 aj mId mN mSet mAcc mFail mStage mFirst sender).val (Ty.bZ [yI])
def ack:aD:=⟨[(.struct [yI,yI,yI,yI,yI,yI,yI]),yI], [yI],(@tt ((Int×Int×Int×Int×Int×Int×Int)×Int)),Ej⟩
theorem Xv:Sd 209 ack:=aM au cK true 39 [] (fun A ((mId,mN,mSet,mAcc,mFail,mStage,mFirst),sender)=>t73 A mId mN mSet mAcc mFail mStage mFirst sender) (fc Tryz.func209 fz) (sc Db (sc Sy sz)) (fun(((mId,mN,mSet,mAcc,mFail,mStage,mFirst),sender):(Int×Int×Int×Int×Int×Int×Int)×Int) hp h=>by
 show(t73 aj mId mN mSet mAcc mFail mStage mFirst sender).pre=true
 simp only[t73,LT.pre,fB,aF,aJ,ar,aB,aG,aN,aR,bD,fx,ap,bw,aZ,bu,cH,cN,Bool.and_eq_true,Bool.or_eq_true,Bool.and_eq_false_iff,Bool.or_eq_false_iff,Bool.not_eq_true',Bool.not_eq_false',decide_eq_true_eq,decide_eq_false_iff_not,bne_iff_ne,beq_iff_eq,bne_eq_false_iff_eq,beq_eq_false_iff_ne]
 simp only[Ty.dK,Ty.has,n_,Cr] at h
 (repeat' (first|intro _|constructor))<;>(try omega))
def t78(A:bi)(mId:Int)(mN:Int)(mSet:Int)(mAcc:Int)(mFail:Int)(mStage:Int)(mFirst:Int)(sender:Int):LT (List Int×Int) Empty:=.need (A.c .leq 0 mId) (.need (A.c .leq 0 mFirst) (.need (A.c .leq 0 sender) (.br (A.c .eql mStage 0) (.ret ([(A.b .or .i64 mSet (A.b .shl .i64 1 sender)),0],1)) (.br (A.c .eql mStage 1) (.ret ([(A.b .or .i64 (A.b .or .i64 mSet (A.b .shl .i64 1 sender)) (A.b .shl .i64 1 mId)),(A.b .andNot .i64 (A.b .or .i64 mSet (A.b .shl .i64 1 sender)) (A.b .shl .i64 1 mId))],2)) (.br (A.c .eql sender mFirst) (.ret ([(A.b .or .i64 (A.b .or .i64 mSet (A.b .shl .i64 1 sender)) (A.b .shl .i64 1 mId)),0],1)) (.ret ([(A.b .andNot .i64 (A.b .or .i64 (A.b .or .i64 mSet (A.b .shl .i64 1 sender)) (A.b .shl .i64 1 mId)) (A.b .shl .i64 1 mFirst)),(A.b .andNot .i64 (A.b .or .i64 (A.b .or .i64 mSet (A.b .shl .i64 1 sender)) (A.b .shl .i64 1 mFirst)) (A.b .shl .i64 1 mId))],2)))))))
def gE:((Int×Int×Int×Int×Int×Int×Int)×Int)→(List Int×Int):=fun((mId,mN,mSet,mAcc,mFail,mStage,mFirst),sender)=>(t78 aj mId mN mSet mAcc mFail mStage mFirst sender).val (Ty.bZ [(.arr 2 yI),yI])
def zh:((Int×Int×Int×Int×Int×Int×Int)×Int)→Bool:=fun((a,b,c,d,e,f,g),s)=>decide (0≤a)&&(decide (0≤g)&&decide (0≤s))
def abv:aD:=⟨[(.struct [yI,yI,yI,yI,yI,yI,yI]),yI], [(.arr 2 yI),yI],zh,gE⟩
theorem Uj:Sd 205 abv:=aM au cK true 77 [] (fun A ((mId,mN,mSet,mAcc,mFail,mStage,mFirst),sender)=>t78 A mId mN mSet mAcc mFail mStage mFirst sender) (fc Tryz.func205 fz) sz (fun(((mId,mN,mSet,mAcc,mFail,mStage,mFirst),sender):(Int×Int×Int×Int×Int×Int×Int)×Int) hp h=>by
 show(t78 aj mId mN mSet mAcc mFail mStage mFirst sender).pre=true
 simp only[t78,LT.pre,fB,aF,aJ,ar,aB,aG,aN,aR,bD,fx,ap,bw,aZ,bu,cH,cN,Bool.and_eq_true,Bool.or_eq_true,Bool.and_eq_false_iff,Bool.or_eq_false_iff,Bool.not_eq_true',Bool.not_eq_false',decide_eq_true_eq,decide_eq_false_iff_not,bne_iff_ne,beq_iff_eq,bne_eq_false_iff_eq,beq_eq_false_iff_ne]
 simp only[zh,Bool.and_eq_true,decide_eq_true_eq] at hp
 simp only[Ty.dK,Ty.has,n_,Cr] at h
 (repeat' (first|intro _|constructor))<;>(try omega))
theorem nT{a b c d e f g s:Int}(h0:4≤b)(h1:b≤8):xS ((a,b,c,d,e,f,g),s)=true↔0≤s∧s<b∧s≠a:=by
 simp only[xS,t77,LT.val,mB,aF,aJ,ar,aB,aG,aN,aR,bD,fx,ap,bw,aZ,bu,cH,cN,Bool.and_eq_true,Bool.or_eq_true,Bool.and_eq_false_iff,Bool.or_eq_false_iff,Bool.not_eq_true',Bool.not_eq_false',decide_eq_true_eq,decide_eq_false_iff_not,bne_iff_ne,beq_iff_eq,bne_eq_false_iff_eq,beq_eq_false_iff_ne,A1]
 simp
 rw[fI (by omega) (by omega)]
 omega
theorem Dr{x:(Int×Int×Int×Int×Int×Int×Int)×Int}:0≤(gE x).2∧(gE x).2≤2:=by
 obtain⟨⟨a,b,c,d,e,f,g⟩,s⟩:=x
 exact LT.jY (p:=fun y:List Int×Int=>0≤y.2∧y.2≤2) (by decide) (by simp[t78,LT.all])
structure V8 where
 (a0 a1 a2 a4 a5 a6 a7 a8 a9 bH dP a12 jw iv rG a16 a17 tG l_ a20 a21 a22 a23:Int) (a24:Bool) (a25 a26 a27 a28 a29 a30 a31 a32 a33 a34 a35 a36 a37 a38 a39 a40:Int)
inductive Y74 where
 | c0 (p:V8) (a3:Int)
noncomputable def W3:Y74→gB
 | .c0 p a3=>⟨[⟨203,37,(en [(0,.yield 0),(24,.lm 1 1 false p.a0 p.a1),(25,vi p.a2),(26,vi a3)]),[.inLoop (cw Tryz.f203 [1,1,1,0,0]),.inBlock 0],[],none⟩,⟨210,19,(en [(6,.ptr 2 0),(7,.ptr 3 0)]),[.jf 0,.inBlock 0,.code (cw Tryz.f210 [1,1])],[4],none⟩],[.loop ⟨210,19,(en [(0,.agg [vi p.a4,vi p.a5,vi p.a6,vi p.a7,vi p.a8,vi p.a9,vi p.bH]),(1,vi p.dP),(2,vi p.a12),(3,.ptr 5 0),(5,.ptr 6 0),(6,.ptr 2 0),(7,.ptr 3 0),(10,.agg [vi p.jw,vi p.iv,vi p.rG,vi p.a16,vi p.a17,vi p.tG,vi p.l_]),(11,vi p.a20),(12,.fn 203 [] [.ptr 7 0,.ptr 8 0])]),[13,14],(cw Tryz.f210 [1,0,1,0,0]),(cw Tryz.f210 [1,0,1,0,1]),0,none⟩,.flat false [vi p.a21,vi p.a22],.flat false [vi p.a23],.flat false [vb p.a24],.BV,.flat false [vi p.a25,vi p.a26,vi p.a27,vi p.a28,vi p.a29,vi p.a30,vi p.a31],.flat false [vi p.a32],.flat false [vi p.a33,vi p.a34,vi p.a35,vi p.a36,vi p.a37,vi p.a38,vi p.a39],.flat false [vi p.a40],.dead]⟩
def t74(A:bi)(mId:Int)(mN:Int)(mSet:Int)(mAcc:Int)(mFail:Int)(mStage:Int)(mFirst:Int)(sender:Int)(which:Int):LT (Int×Bool) Y74:=.need (A.k (@tt ((Int×Int×Int×Int×Int×Int×Int))) (mId,mN,mSet,mAcc,mFail,mStage,mFirst)) (.br (A.c .neq (A.k iB (mId,mN,mSet,mAcc,mFail,mStage,mFirst)) 0) (.ret (0,false)) (.need (A.k (@tt ((Int×Int×Int×Int×Int×Int×Int)×Int)) ((mId,mN,mSet,mAcc,mFail,mStage,mFirst),sender)) (.br (A.not (A.k xS ((mId,mN,mSet,mAcc,mFail,mStage,mFirst),sender))) (.ret (0,false)) (.need (A.k zh ((mId,mN,mSet,mAcc,mFail,mStage,mFirst),sender)) (.need (A.and (A.c .leq 0 0) (A.and (A.c .leq 0 (A.k gE ((mId,mN,mSet,mAcc,mFail,mStage,mFirst),sender)).2) (A.c .leq (A.k gE ((mId,mN,mSet,mAcc,mFail,mStage,mFirst),sender)).2 2))) (.more (.c0 ⟨(A.b .add .i64 0 0),(A.b .sub .i64 (A.k gE ((mId,mN,mSet,mAcc,mFail,mStage,mFirst),sender)).2 0),(A.b .sub .i64 (A.k gE ((mId,mN,mSet,mAcc,mFail,mStage,mFirst),sender)).2 0),mId,mN,mSet,mAcc,mFail,mStage,mFirst,sender,which,mId,mN,mSet,mAcc,mFail,mStage,mFirst,sender,(A.n yI (A.k gE ((mId,mN,mSet,mAcc,mFail,mStage,mFirst),sender)).1 0:Int),(A.n yI (A.k gE ((mId,mN,mSet,mAcc,mFail,mStage,mFirst),sender)).1 1:Int),0,false,mId,mN,mSet,mAcc,mFail,mStage,mFirst,which,mId,mN,mSet,mAcc,mFail,mStage,mFirst,sender⟩ 0)))))))
def s74(A:bi):Y74→LT (Int×Bool) Y74
 | .c0 p a3=>.br (A.c .lss a3 p.a2) (.need (A.and (A.c .leq 0 a3) (A.c .lss a3 p.a1)) (.br (A.c .eql a3 p.a32) (.ret ((A.n yI [p.a21,p.a22] (A.b .add .i64 p.a0 a3):Int),true)) (.more (.c0 p (A.b .add .i64 a3 1))))) (.ret (0,false))
def uE:((Int×Int×Int×Int×Int×Int×Int)×Int×Int)→(Int×Bool):=fun(m,s,k)=>bif iB m != 0 then(0,false) else bif !xS (m,s) then(0,false) else bif decide (0≤k)&&decide (k<(gE (m,s)).2) then((gE (m,s)).1.getD k.toNat 0,true) else(0,false)
def abK:aD:=⟨[(.struct [yI,yI,yI,yI,yI,yI,yI]),yI,yI], [yI,.bool],(@tt ((Int×Int×Int×Int×Int×Int×Int)×Int×Int)),uE⟩
theorem acd:Sd 210 abK:=aL au cK true 70 [⟨203,3, [[0,24,25,26], [6,7]]⟩] [] (fun A ((mId,mN,mSet,mAcc,mFail,mStage,mFirst),sender,which)=>t74 A mId mN mSet mAcc mFail mStage mFirst sender which) s74 W3 (fc Tryz.func210 (fc Tryz.func158 (fc Tryz.func203 fz))) (sc Db (sc Sy (sc Uj sz))) (fun A y=>match y with |.c0 p a3=>⟨57,by kernel_rfl,by kernel_rfl⟩) fun(((mId,mN,mSet,mAcc,mFail,mStage,mFirst),sender,which):(Int×Int×Int×Int×Int×Int×Int)×Int×Int) hp h=>by
 show aA (s74 aj) (t74 aj mId mN mSet mAcc mFail mStage mFirst sender which) (uE ((mId,mN,mSet,mAcc,mFail,mStage,mFirst),sender,which))
 unfold t74 uE
 refine .need rfl (.br ?_)
 simp only[ap,aJ,bD]
 cases h1:iB (mId,mN,mSet,mAcc,mFail,mStage,mFirst) != 0
 ·simp only[cond_false]
  rw[bne_eq_false_iff_eq] at h1
  have hm:=dJ.1 h1
  unfold gP at hm
  refine .need rfl (.br ?_)
  cases h2:xS ((mId,mN,mSet,mAcc,mFail,mStage,mFirst),sender)
  ·exact .ret _
  ·simp only[Bool.not_true,cond_false]
   have h3:=(nT (by omega) (by omega)).1 h2
   have hq:=Dr (x:=((mId,mN,mSet,mAcc,mFail,mStage,mFirst),sender))
   refine .need (by simp[zh];omega) ?_
   generalize gE ((mId,mN,mSet,mAcc,mFail,mStage,mFirst),sender)=q at *
   obtain⟨l,n⟩:=q
   simp only at hq
   refine .need (by simp only[aR,aB,Bool.and_eq_true,decide_eq_true_eq];omega) ?_
   have hn:n=0∨n=1∨n=2:=by omega
   have hk:which=0∨which=1∨(which≠0∧which≠1):=by omega
   have e0:IntKind.i64.wrap 0=0:=by decide
   have e1:IntKind.i64.wrap 1=1:=by decide
   have e2:IntKind.i64.wrap 2=2:=by decide
   rcases hn with rfl|rfl|rfl<;>rcases hk with rfl|rfl|⟨k0,k1⟩
   all_goals first
    | (simp[al,s74,lg,af,fj,ar,aB,aF,aR,bw,aZ,E8,e0,e1,e2,Ty.iA];done)
    | (simp[al,s74,lg,af,fj,ar,aB,aF,aR,bw,aZ,e0,e1,e2];rfl)
    | (have b0:(0==which)=false:=by simp<;>omega
       have b1:(1==which)=false:=by simp<;>omega
       have c0:(decide (0≤which)&&decide (which<0))=false:=by simp<;>omega
       have c1:(decide (0≤which)&&decide (which<1))=false:=by simp<;>omega
       have c2:(decide (0≤which)&&decide (which<2))=false:=by simp<;>omega
       simp only[c0,c1,c2]
       simp[al,s74,lg,af,fj,ar,aB,aF,aR,bw,aZ,E8,e0,e1,e2,b0,b1])
 ·exact .ret _
theorem eE{a b c d e f g s:Int}:Ej ((a,b,c,d,e,f,g),s)=0↔gP a b c d e f g∧0≤s∧s<b∧s≠a:=by
 simp only[Ej,t73,LT.val,mB,aF,aJ,ar,aB,aG,aN,aR,bD,fx,ap,bw,aZ,bu,cH,cN,Bool.and_eq_true,Bool.or_eq_true,Bool.and_eq_false_iff,Bool.or_eq_false_iff,Bool.not_eq_true',Bool.not_eq_false',decide_eq_true_eq,decide_eq_false_iff_not,bne_iff_ne,beq_iff_eq,bne_eq_false_iff_eq,beq_eq_false_iff_ne]
 constructor
 ·intro h
  rcases h with ⟨h1,h2⟩|⟨h1,h2⟩
  ·exact absurd h2 h1
  ·have hm:=dJ.1 h1
   have hm':=hm
   unfold gP at hm'
   rcases h2 with ⟨h2,h3⟩|⟨h2,_⟩
   ·cases h3
   ·exact⟨hm,(nT (by omega) (by omega)).1 h2⟩
 ·rintro ⟨hm,hs⟩
  have hm':=hm
  unfold gP at hm'
  exact .inr ⟨dJ.2 hm,.inr ⟨(nT (by omega) (by omega)).2 hs,trivial⟩⟩
def t25(A:bi)(mId:Int)(mN:Int)(mSet:Int)(mAcc:Int)(mFail:Int)(mStage:Int)(mFirst:Int)(sender:Int)(which:Int):LT ((Int×Int×Int×Int×Int×Int×Int)×Int) Empty:=.need (A.k (@tt ((Int×Int×Int×Int×Int×Int×Int)×Int)) ((mId,mN,mSet,mAcc,mFail,mStage,mFirst),sender)) (.br (A.c .neq (A.k Ej ((mId,mN,mSet,mAcc,mFail,mStage,mFirst),sender)) 0) (.ret ((0,0,0,0,0,0,0),(A.k Ej ((mId,mN,mSet,mAcc,mFail,mStage,mFirst),sender)))) (.need (A.k (@tt ((Int×Int×Int×Int×Int×Int×Int)×Int×Int)) ((mId,mN,mSet,mAcc,mFail,mStage,mFirst),sender,which)) (.br (A.not (A.k uE ((mId,mN,mSet,mAcc,mFail,mStage,mFirst),sender,which)).2) (.ret ((0,0,0,0,0,0,0),2)) (.br (A.c .eql mStage 1) (.br (A.c .eql which 1) (.need (A.c .leq 0 sender) (.ret ((mId,mN,(A.b .or .i64 mSet (A.b .shl .i64 1 sender)),mAcc,mFail,2,sender),0))) (.br (A.c .eql mStage 2) (.br (A.c .neq sender mFirst) (.ret ((mId,mN,(A.k uE ((mId,mN,mSet,mAcc,mFail,mStage,mFirst),sender,which)).1,(A.mn (A.b .add .i64 mAcc 1) 1048576),(A.mn (A.b .add .i64 mFail 1) 1048576),0,0),0)) (.ret ((mId,mN,(A.k uE ((mId,mN,mSet,mAcc,mFail,mStage,mFirst),sender,which)).1,(A.mn (A.b .add .i64 mAcc 1) 1048576),mFail,0,0),0))) (.ret ((mId,mN,(A.k uE ((mId,mN,mSet,mAcc,mFail,mStage,mFirst),sender,which)).1,(A.mn (A.b .add .i64 mAcc 1) 1048576),mFail,0,0),0)))) (.br (A.c .eql mStage 2) (.br (A.c .neq sender mFirst) (.ret ((mId,mN,(A.k uE ((mId,mN,mSet,mAcc,mFail,mStage,mFirst),sender,which)).1,(A.mn (A.b .add .i64 mAcc 1) 1048576),(A.mn (A.b .add .i64 mFail 1) 1048576),0,0),0)) (.ret ((mId,mN,(A.k uE ((mId,mN,mSet,mAcc,mFail,mStage,mFirst),sender,which)).1,(A.mn (A.b .add .i64 mAcc 1) 1048576),mFail,0,0),0))) (.ret ((mId,mN,(A.k uE ((mId,mN,mSet,mAcc,mFail,mStage,mFirst),sender,which)).1,(A.mn (A.b .add .i64 mAcc 1) 1048576),mFail,0,0),0)))))))
def lz:((Int×Int×Int×Int×Int×Int×Int)×Int×Int)→((Int×Int×Int×Int×Int×Int×Int)×Int):=fun((mId,mN,mSet,mAcc,mFail,mStage,mFirst),sender,which)=>(t25 aj mId mN mSet mAcc mFail mStage mFirst sender which).val (Ty.bZ [(.struct [yI,yI,yI,yI,yI,yI,yI]),yI])
def adj:aD:=⟨[(.struct [yI,yI,yI,yI,yI,yI,yI]),yI,yI], [(.struct [yI,yI,yI,yI,yI,yI,yI]),yI],(@tt ((Int×Int×Int×Int×Int×Int×Int)×Int×Int)),lz⟩
theorem ac_:Sd 165 adj:=aM au cK true 107 [] (fun A ((mId,mN,mSet,mAcc,mFail,mStage,mFirst),sender,which)=>t25 A mId mN mSet mAcc mFail mStage mFirst sender which) (fc Tryz.func165 fz) (sc Xv (sc acd sz)) (fun(((mId,mN,mSet,mAcc,mFail,mStage,mFirst),sender,which):(Int×Int×Int×Int×Int×Int×Int)×Int×Int) hp h=>by
 show(t25 aj mId mN mSet mAcc mFail mStage mFirst sender which).pre=true
 simp only[t25,LT.pre,fB,aF,aJ,ar,aB,aG,aN,aR,bD,fx,ap,bw,aZ,bu,cH,cN,Bool.and_eq_true,Bool.or_eq_true,Bool.and_eq_false_iff,Bool.or_eq_false_iff,Bool.not_eq_true',Bool.not_eq_false',decide_eq_true_eq,decide_eq_false_iff_not,bne_iff_ne,beq_iff_eq,bne_eq_false_iff_eq,beq_eq_false_iff_ne]
 simp only[Ty.dK,Ty.has,n_] at h
 (repeat' (first|intro _|constructor))<;>(try (have hm:=(eE.1 (by assumption));unfold gP at hm;omega)))
def t38(A:bi)(mId:Int)(mN:Int)(mSet:Int)(mAcc:Int)(mFail:Int)(mStage:Int)(mFirst:Int)(sender:Int):LT ((Int×Int×Int×Int×Int×Int×Int)×Int) Empty:=.need (A.k (@tt ((Int×Int×Int×Int×Int×Int×Int)×Int)) ((mId,mN,mSet,mAcc,mFail,mStage,mFirst),sender)) (.br (A.c .neq (A.k Ej ((mId,mN,mSet,mAcc,mFail,mStage,mFirst),sender)) 0) (.ret ((0,0,0,0,0,0,0),(A.k Ej ((mId,mN,mSet,mAcc,mFail,mStage,mFirst),sender)))) (.need (A.c .leq 0 sender) (.br (A.c .eql mStage 2) (.br (A.c .eql mFirst sender) (.ret ((mId,mN,(A.b .andNot .i64 mSet (A.b .shl .i64 1 sender)),mAcc,mFail,1,0),0)) (.ret ((mId,mN,(A.b .andNot .i64 mSet (A.b .shl .i64 1 sender)),mAcc,mFail,mStage,mFirst),0))) (.ret ((mId,mN,(A.b .andNot .i64 mSet (A.b .shl .i64 1 sender)),mAcc,mFail,mStage,mFirst),0)))))
def lv:((Int×Int×Int×Int×Int×Int×Int)×Int)→((Int×Int×Int×Int×Int×Int×Int)×Int):=fun((mId,mN,mSet,mAcc,mFail,mStage,mFirst),sender)=>(t38 aj mId mN mSet mAcc mFail mStage mFirst sender).val (Ty.bZ [(.struct [yI,yI,yI,yI,yI,yI,yI]),yI])
def acj:aD:=⟨[(.struct [yI,yI,yI,yI,yI,yI,yI]),yI], [(.struct [yI,yI,yI,yI,yI,yI,yI]),yI],(@tt ((Int×Int×Int×Int×Int×Int×Int)×Int)),lv⟩
theorem Va:Sd 163 acj:=aM au cK true 63 [] (fun A ((mId,mN,mSet,mAcc,mFail,mStage,mFirst),sender)=>t38 A mId mN mSet mAcc mFail mStage mFirst sender) (fc Tryz.func163 fz) (sc Xv sz) (fun(((mId,mN,mSet,mAcc,mFail,mStage,mFirst),sender):(Int×Int×Int×Int×Int×Int×Int)×Int) hp h=>by
 show(t38 aj mId mN mSet mAcc mFail mStage mFirst sender).pre=true
 simp only[t38,LT.pre,fB,aF,aJ,ar,aB,aG,aN,aR,bD,fx,ap,bw,aZ,bu,cH,cN,Bool.and_eq_true,Bool.or_eq_true,Bool.and_eq_false_iff,Bool.or_eq_false_iff,Bool.not_eq_true',Bool.not_eq_false',decide_eq_true_eq,decide_eq_false_iff_not,bne_iff_ne,beq_iff_eq,bne_eq_false_iff_eq,beq_eq_false_iff_ne]
 simp only[Ty.dK,Ty.has,n_] at h
 (repeat' (first|intro _|constructor))<;>(try (have hm:=(eE.1 (by assumption));unfold gP at hm;omega)))
def t39(A:bi)(mId:Int)(mN:Int)(mSet:Int)(mAcc:Int)(mFail:Int)(mStage:Int)(mFirst:Int)(sender:Int):LT ((Int×Int×Int×Int×Int×Int×Int)×Int) Empty:=.need (A.k (@tt ((Int×Int×Int×Int×Int×Int×Int)×Int)) ((mId,mN,mSet,mAcc,mFail,mStage,mFirst),sender)) (.br (A.c .eql (A.k lv ((mId,mN,mSet,mAcc,mFail,mStage,mFirst),sender)).2 0) (.ret (((A.k lv ((mId,mN,mSet,mAcc,mFail,mStage,mFirst),sender)).1.1,(A.k lv ((mId,mN,mSet,mAcc,mFail,mStage,mFirst),sender)).1.2.1,(A.k lv ((mId,mN,mSet,mAcc,mFail,mStage,mFirst),sender)).1.2.2.1,(A.k lv ((mId,mN,mSet,mAcc,mFail,mStage,mFirst),sender)).1.2.2.2.1,(A.mn (A.b .add .i64 (A.k lv ((mId,mN,mSet,mAcc,mFail,mStage,mFirst),sender)).1.2.2.2.2.1 1) 1048576),(A.k lv ((mId,mN,mSet,mAcc,mFail,mStage,mFirst),sender)).1.2.2.2.2.2),(A.k lv ((mId,mN,mSet,mAcc,mFail,mStage,mFirst),sender)).2)) (.ret (A.k lv ((mId,mN,mSet,mAcc,mFail,mStage,mFirst),sender))))
def KU:((Int×Int×Int×Int×Int×Int×Int)×Int)→((Int×Int×Int×Int×Int×Int×Int)×Int):=fun((mId,mN,mSet,mAcc,mFail,mStage,mFirst),sender)=>(t39 aj mId mN mSet mAcc mFail mStage mFirst sender).val (Ty.bZ [(.struct [yI,yI,yI,yI,yI,yI,yI]),yI])
def ac6:aD:=⟨[(.struct [yI,yI,yI,yI,yI,yI,yI]),yI], [(.struct [yI,yI,yI,yI,yI,yI,yI]),yI],(@tt ((Int×Int×Int×Int×Int×Int×Int)×Int)),KU⟩
theorem acr:Sd 164 ac6:=aM au cK true 45 [] (fun A ((mId,mN,mSet,mAcc,mFail,mStage,mFirst),sender)=>t39 A mId mN mSet mAcc mFail mStage mFirst sender) (fc Tryz.func164 fz) (sc Va sz) (fun(((mId,mN,mSet,mAcc,mFail,mStage,mFirst),sender):(Int×Int×Int×Int×Int×Int×Int)×Int) hp h=>by
 show(t39 aj mId mN mSet mAcc mFail mStage mFirst sender).pre=true
 simp only[t39,LT.pre,fB,aF,aJ,ar,aB,aG,aN,aR,bD,fx,ap,bw,aZ,bu,cH,cN,Bool.and_eq_true,Bool.or_eq_true,Bool.and_eq_false_iff,Bool.or_eq_false_iff,Bool.not_eq_true',Bool.not_eq_false',decide_eq_true_eq,decide_eq_false_iff_not,bne_iff_ne,beq_iff_eq,bne_eq_false_iff_eq,beq_eq_false_iff_ne]
 simp only[Ty.dK,Ty.has,n_,Cr] at h
 (repeat' (first|intro _|constructor))<;>(try omega))
def inc(d:Int):Int:=if d<1048576 then d+1 else 1048576
theorem nM{d:Int}(h0:0≤d)(h1:d≤1048576):aj.mn (aj.b .add .i64 d 1) 1048576=inc d:=by
 rw[pT,bw,fI (by omega) (by omega),inc]
 split<;>split<;>omega
section
variable {a b c d e f g s:Int}
theorem A5:gE ((a,b,c,d,e,0,g),s)=([gl c s,0],1):=rfl
theorem Ep:gE ((a,b,c,d,e,1,g),s)=([gl (gl c s) a,nf (gl c s) a],2):=rfl
theorem AP:gE ((a,b,c,d,e,2,g),g)=([gl (gl c g) a,0],1):=by
 simp[gE,t78,LT.val,aF,gl]
theorem Ao(h:s≠g):gE ((a,b,c,d,e,2,g),s)=([nf (gl (gl c s) a) g,nf (gl (gl c s) g) a],2):=by
 have hb:(s==g)=false:=by simpa using h
 simp[gE,t78,LT.val,aF,gl,nf,hb]
theorem kS(h:gP a b c d e f g)(h0:0≤s)(h1:s<b)(h2:s≠a)(k:Int):uE ((a,b,c,d,e,f,g),s,k) =
  bif decide (0≤k)&&decide (k<(gE ((a,b,c,d,e,f,g),s)).2) then((gE ((a,b,c,d,e,f,g),s)).1.getD k.toNat 0,true) else(0,false):=by
 have hm:=h
 unfold gP at hm
 simp only[uE,dJ.2 h,(nT (by omega) (by omega)).2 ⟨h0,h1,h2⟩,bne_self_eq_false,Bool.not_true,cond_false]
theorem D1(h:gP a b c d e 0 g)(h0:0≤s)(h1:s<b)(h2:s≠a):lz ((a,b,c,d,e,0,g),s,0)=((a,b,gl c s,inc d,e,0,0),0):=by
 have hm:=h
 unfold gP at hm
 simp[lz,t25,LT.val,ap,aJ,aF,bD,eE.2 ⟨h,h0,h1,h2⟩,kS h h0 h1 h2,A5,nM (d:=d) (by omega) (by omega)]
theorem Jb(h:gP a b c d e 1 g)(h0:0≤s)(h1:s<b)(h2:s≠a):lz ((a,b,c,d,e,1,g),s,0)=((a,b,gl (gl c s) a,inc d,e,0,0),0):=by
 have hm:=h
 unfold gP at hm
 simp[lz,t25,LT.val,ap,aJ,aF,bD,eE.2 ⟨h,h0,h1,h2⟩,kS h h0 h1 h2,Ep,nM (d:=d) (by omega) (by omega)]
theorem E4(h:gP a b c d e 1 g)(h0:0≤s)(h1:s<b)(h2:s≠a):lz ((a,b,c,d,e,1,g),s,1)=((a,b,gl c s,d,e,2,s),0):=by
 simp[lz,t25,LT.val,ap,aJ,aF,bD,eE.2 ⟨h,h0,h1,h2⟩,kS h h0 h1 h2,Ep,gl]
theorem EO(h:gP a b c d e 2 g)(h0:0≤g)(h1:g<b)(h2:g≠a):lz ((a,b,c,d,e,2,g),g,0)=((a,b,gl (gl c g) a,inc d,e,0,0),0):=by
 have hm:=h
 unfold gP at hm
 simp[lz,t25,LT.val,ap,aJ,aF,bD,eE.2 ⟨h,h0,h1,h2⟩,kS h h0 h1 h2,AP,nM (d:=d) (by omega) (by omega)]
theorem Fs(h:gP a b c d e 2 g)(h0:0≤s)(h1:s<b)(h2:s≠a)(h3:s≠g):lz ((a,b,c,d,e,2,g),s,0)=((a,b,nf (gl (gl c s) a) g,inc d,inc e,0,0),0):=by
 have hm:=h
 unfold gP at hm
 simp[lz,t25,LT.val,ap,aJ,aF,bD,eE.2 ⟨h,h0,h1,h2⟩,kS h h0 h1 h2,Ao h3,show(s != g)=true from by simpa using h3,nM (d:=d) (by omega) (by omega),nM (d:=e) (by omega) (by omega)]
theorem Fa(h:gP a b c d e 2 g)(h0:0≤s)(h1:s<b)(h2:s≠a)(h3:s≠g):lz ((a,b,c,d,e,2,g),s,1)=((a,b,nf (gl (gl c s) g) a,inc d,inc e,0,0),0):=by
 have hm:=h
 unfold gP at hm
 simp[lz,t25,LT.val,ap,aJ,aF,bD,eE.2 ⟨h,h0,h1,h2⟩,kS h h0 h1 h2,Ao h3,show(s != g)=true from by simpa using h3,nM (d:=d) (by omega) (by omega),nM (d:=e) (by omega) (by omega)]
theorem HY(h:gP a b c d e f g)(h0:0≤s)(h1:s<b)(h2:s≠a)(h3:f≠2):lv ((a,b,c,d,e,f,g),s)=((a,b,nf c s,d,e,f,g),0):=by
 have hb:(f==2)=false:=by simpa using h3
 simp[lv,t38,LT.val,ap,aJ,aF,eE.2 ⟨h,h0,h1,h2⟩,nf,hb]
theorem Iq(h:gP a b c d e 2 g)(h0:0≤s)(h1:s<b)(h2:s≠a)(h3:g≠s):lv ((a,b,c,d,e,2,g),s)=((a,b,nf c s,d,e,2,g),0):=by
 have hb:(g==s)=false:=by simpa using h3
 simp[lv,t38,LT.val,ap,aJ,aF,eE.2 ⟨h,h0,h1,h2⟩,nf,hb]
theorem Kx(h:gP a b c d e 2 g)(h2:g≠a):lv ((a,b,c,d,e,2,g),g)=((a,b,nf c g,d,e,1,0),0):=by
 have hm:=h
 unfold gP at hm
 simp[lv,t38,LT.val,ap,aJ,aF,eE.2 ⟨h,hm.2.2.2.2.1,hm.2.2.2.2.2.1,h2⟩,nf]
theorem EI{m m':Int×Int×Int×Int×Int×Int×Int}(h:lv (m,s)=(m',0))(h0:0≤m'.2.2.2.2.1)(h1:m'.2.2.2.2.1≤1048576):KU (m,s)=((m'.1,m'.2.1,m'.2.2.1,m'.2.2.2.1,inc m'.2.2.2.2.1,m'.2.2.2.2.2),0):=by
 obtain⟨a,b,c,d,e,f,g⟩:=m
 simp[KU,t39,LT.val,ap,aF,h,nM h0 h1]
end
end Go.Ev.M
