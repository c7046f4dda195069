/-
  PROVED: what functions of the packages member and metronomeref09 compute. Conditions: none.
-/
import Derived.Test.YteldjjjcdpnnbaaGreatTy
import Derived.Test.YteldjjjcdpnnbaaGreatEvC
import Derived.Test.YteldjjjcdpnnbaaGreatPl
namespace Go.Ev.M
open Go.Proofs
set_option maxRecDepth 100000
set_option linter.unusedVariables false
set_option linter.unusedSimpArgs false
theorem X8{n:Int}(h0:0≤n)(h1:n≤8):aj.b .shl .i64 1 n=((2^n.toNat:Nat):Int):=by
 have:n=0∨n=1∨n=2∨n=3∨n=4∨n=5∨n=6∨n=7∨n=8:=by omega
 rcases this with rfl|rfl|rfl|rfl|rfl|rfl|rfl|rfl|rfl<;>decide
theorem tV{n:Nat}(h:n≤8):2^n≤256:=Nat.pow_le_pow_right (by decide) h
def jY(c a:Int):Bool:=c.toNat.testBit a.toNat
def jc(c s:Int):Int:=aj.b .or .i64 c (aj.b .shl .i64 1 s)
def kz(c s:Int):Int:=aj.b .andNot .i64 c (aj.b .shl .i64 1 s)
theorem QU:∀c:Fin 256,∀a:Fin 8,aj.b .or .i64 (c.val:Int) (aj.b .shl .i64 1 (a.val:Int))=((c.val ||| 2^a.val:Nat):Int):=by decide +kernel
theorem ON:∀c:Fin 256,∀a:Fin 8,aj.b .andNot .i64 (c.val:Int) (aj.b .shl .i64 1 (a.val:Int))=((c.val &&& (255 ^^^ 2^a.val):Nat):Int):=by decide +kernel
theorem Mr{c s:Int}(h0:0≤c)(h1:c<256)(h2:0≤s)(h3:s<8):jc c s=((c.toNat ||| 2^s.toNat:Nat):Int):=by
 obtain⟨c,rfl⟩:=Int.eq_ofNat_of_zero_le h0
 obtain⟨s,rfl⟩:=Int.eq_ofNat_of_zero_le h2
 exact QU ⟨c,by omega⟩ ⟨s,by omega⟩
theorem del_eq{c s:Int}(h0:0≤c)(h1:c<256)(h2:0≤s)(h3:s<8):kz c s=((c.toNat &&& (255 ^^^ 2^s.toNat):Nat):Int):=by
 obtain⟨c,rfl⟩:=Int.eq_ofNat_of_zero_le h0
 obtain⟨s,rfl⟩:=Int.eq_ofNat_of_zero_le h2
 exact ON ⟨c,by omega⟩ ⟨s,by omega⟩
theorem TM{c s n:Int}(h0:0≤c)(hn:n≤8)(h1:c<((2^n.toNat:Nat):Int))(h2:0≤s)(h3:s<n):0≤jc c s∧jc c s<((2^n.toNat:Nat):Int):=by
 have hp:=tV (n:=n.toNat) (by omega)
 rw[Mr h0 (by omega) h2 (by omega)]
 have h4:2^s.toNat<2^n.toNat:=Nat.pow_lt_pow_right (by decide) (by omega)
 have:=Nat.or_lt_two_pow (x:=c.toNat) (y:=2^s.toNat) (n:=n.toNat) (by omega) h4
 omega
theorem Nv{c s n:Int}(h0:0≤c)(hn:n≤8)(h1:c<((2^n.toNat:Nat):Int))(h2:0≤s)(h3:s<8):0≤kz c s∧kz c s<((2^n.toNat:Nat):Int):=by
 have hp:2^n.toNat≤2^8:=Nat.pow_le_pow_right (by decide) (by omega)
 rw[del_eq h0 (by omega) h2 (by omega)]
 have:c.toNat &&& (255 ^^^ 2^s.toNat)≤c.toNat:=Nat.and_le_left
 omega
theorem PS{c s i:Int}(h0:0≤c)(h1:c<256)(h2:0≤s)(h3:s<8)(h4:0≤i):jY (jc c s) i=(jY c i||s==i):=by
 rw[Mr h0 h1 h2 h3,jY,jY,Int.toNat_natCast,Nat.testBit_or,Nat.testBit_two_pow]
 congr 1
 rw[Bool.eq_iff_iff];simp;omega
theorem Cz{c s i:Int}(h0:0≤c)(h1:c<256)(h2:0≤s)(h3:s<8)(h4:0≤i):jY (kz c s) i=(jY c i&&s != i):=by
 rw[del_eq h0 h1 h2 h3,jY,jY,Int.toNat_natCast,Nat.testBit_and,Nat.testBit_xor,Nat.testBit_two_pow]
 by_cases hi:i<8
 ·have e:Nat.testBit 255 i.toNat=true:=by
   have:i.toNat=0∨i.toNat=1∨i.toNat=2∨i.toNat=3∨i.toNat=4∨i.toNat=5∨i.toNat=6∨i.toNat=7:=by omega
   rcases this with h|h|h|h|h|h|h|h<;>rw[h]<;>decide
  rw[e]
  congr 1
  rw[Bool.eq_iff_iff];simp;omega
 ·have:c.toNat.testBit i.toNat=false:=Nat.testBit_lt_two_pow (Nat.lt_of_lt_of_le (by omega:c.toNat<2^8) (Nat.pow_le_pow_right (by decide) (by omega)))
  rw[this];rfl
theorem Ku:∀c:Fin 256,∀a:Fin 8,(aj.b .and .i64 (aj.b .shr .i64 (c.val:Int) (a.val:Int)) 1==0)=!(c.val.testBit a.val):=by decide +kernel
theorem Mj:∀c:Fin 256,∀a:Fin 8,(aj.b .and .i64 (c.val:Int) (aj.b .shl .i64 1 (a.val:Int))==0)=!(c.val.testBit a.val):=by decide +kernel
theorem acH{c a:Int}(h0:0≤c)(h1:c<256)(h2:0≤a)(h3:a<8):aj.b .and .i64 (aj.b .shr .i64 c a) 1=0↔jY c a=false:=by
 obtain⟨c,rfl⟩:=Int.eq_ofNat_of_zero_le h0
 obtain⟨a,rfl⟩:=Int.eq_ofNat_of_zero_le h2
 have:=Ku ⟨c,by omega⟩ ⟨a,by omega⟩
 simp only at this
 rw[←beq_iff_eq,this]
 simp[jY]
theorem H9{c a:Int}(h0:0≤c)(h1:c<256)(h2:0≤a)(h3:a<8):aj.b .and .i64 c (aj.b .shl .i64 1 a)=0↔jY c a=false:=by
 obtain⟨c,rfl⟩:=Int.eq_ofNat_of_zero_le h0
 obtain⟨a,rfl⟩:=Int.eq_ofNat_of_zero_le h2
 have:=Mj ⟨c,by omega⟩ ⟨a,by omega⟩
 simp only at this
 rw[←beq_iff_eq,this]
 simp[jY]
theorem Kv:∀c:Fin 256,∀a:Fin 8,(aj.b .and .i64 (aj.b .shr .i64 (c.val:Int) (a.val:Int)) 1==1)=c.val.testBit a.val:=by decide +kernel
theorem OR{c a:Int}(h0:0≤c)(h1:c<256)(h2:0≤a)(h3:a<8):(aj.b .and .i64 (aj.b .shr .i64 c a) 1==1)=jY c a:=by
 obtain⟨c,rfl⟩:=Int.eq_ofNat_of_zero_le h0
 obtain⟨a,rfl⟩:=Int.eq_ofNat_of_zero_le h2
 exact Kv ⟨c,by omega⟩ ⟨a,by omega⟩
def ia(a b c d e f g:Int):Prop:=4≤b∧b≤8∧0≤a∧a<b∧0≤g∧g<b∧0≤c∧c<((2^b.toNat:Nat):Int)∧0≤d∧d≤1048576∧0≤e∧e≤1048576∧0≤f∧f≤2∧(f≠0→jY c a=true)∧(f=2→g≠a)
theorem Rh{a b c d e f g:Int}(h:ia a b c d e f g):c<256:=by
 obtain⟨h1,h2,_,_,_,_,_,h3,_⟩:=h
 have:=tV (n:=b.toNat) (by omega)
 omega
def t81(A:a_)(n:Int)(most:Int):LT Bool Empty:=.br (A.c .geq n 0) (.ret (A.c .leq n most)) (.ret false)
def Am:(Int×Int)→Bool:=fun(n,most)=>(t81 aj n most).val (Ty.bE [.bool])
def af_:aB:=⟨[yI,yI], [.bool],(@tt (Int×Int)),Am⟩
theorem aeT:Sd 152 af_:=aJ ax bK true 21 [] (fun A (n,most)=>t81 A n most) (fc Tryz.func152 fz) sz (fun((n,most):Int×Int) hp h=>by
 show(t81 aj n most).pre=true
 simp only[t81,LT.pre,cY,aC,aH,ar,ay,aG,aM,aQ,aT,dn,al,bf,aX,bd,bS,bH,Bool.and_eq_true,Bool.or_eq_true,Bool.and_eq_false_iff,Bool.or_eq_false_iff,Bool.not_eq_true',Bool.not_eq_false',decide_eq_true_eq,decide_eq_false_iff_not,bne_iff_ne,beq_iff_eq,bne_eq_false_iff_eq,beq_eq_false_iff_ne]
 simp only[Ty.cB,Ty.has,iH,rA] at h
 (repeat' (first|intro _|constructor))<;>(try omega))
theorem CW{n m:Int}:Am (n,m)=(decide (0≤n)&&decide (n≤m)):=by
 simp only[Am,t81,LT.val,aM,ay]
 cases decide (0≤n)<;>rfl
def t34(A:a_)(mId:Int)(mN:Int)(mSet:Int)(mAcc:Int)(mFail:Int)(mStage:Int)(mFirst:Int):LT Int Empty:=.br (A.c .lss mN 4) (.ret 90) (.br (A.c .gtr mN 8) (.ret 90) (.need (A.k (@tt (Int×Int)) (mId,(A.b .sub .i64 mN 1))) (.br (A.not (A.k Am (mId,(A.b .sub .i64 mN 1)))) (.ret 90) (.need (A.k (@tt (Int×Int)) (mFirst,(A.b .sub .i64 mN 1))) (.br (A.not (A.k Am (mFirst,(A.b .sub .i64 mN 1)))) (.ret 90) (.need (A.k (@tt (Int×Int)) (mAcc,1048576)) (.br (A.not (A.k Am (mAcc,1048576))) (.ret 90) (.need (A.k (@tt (Int×Int)) (mFail,1048576)) (.br (A.not (A.k Am (mFail,1048576))) (.ret 90) (.need (A.k (@tt (Int×Int)) (mStage,2)) (.br (A.not (A.k Am (mStage,2))) (.ret 90) (.need (A.c .leq 0 mN) (.need (A.k (@tt (Int×Int)) (mSet,(A.b .sub .i64 (A.b .shl .i64 1 mN) 1))) (.br (A.not (A.k Am (mSet,(A.b .sub .i64 (A.b .shl .i64 1 mN) 1)))) (.ret 90) (.br (A.c .neq mStage 0) (.need (A.c .leq 0 mId) (.br (A.c .eql (A.b .and .i64 (A.b .shr .i64 mSet mId) 1) 0) (.ret 90) (.br (A.c .eql mStage 2) (.br (A.c .eql mFirst mId) (.ret 90) (.ret 0)) (.ret 0)))) (.br (A.c .eql mStage 2) (.br (A.c .eql mFirst mId) (.ret 90) (.ret 0)) (.ret 0)))))))))))))))))
def iV:((Int×Int×Int×Int×Int×Int×Int))→Int:=fun(mId,mN,mSet,mAcc,mFail,mStage,mFirst)=>(t34 aj mId mN mSet mAcc mFail mStage mFirst).val (Ty.bE [yI])
def agr:aB:=⟨[(.struct [yI,yI,yI,yI,yI,yI,yI])], [yI],(@tt ((Int×Int×Int×Int×Int×Int×Int))),iV⟩
theorem EW:Sd 69 agr:=aJ ax bK true 123 [] (fun A (mId,mN,mSet,mAcc,mFail,mStage,mFirst)=>t34 A mId mN mSet mAcc mFail mStage mFirst) (fc Tryz.func69 fz) (sc aeT sz) (fun((mId,mN,mSet,mAcc,mFail,mStage,mFirst):(Int×Int×Int×Int×Int×Int×Int)) hp h=>by
 show(t34 aj mId mN mSet mAcc mFail mStage mFirst).pre=true
 simp only[t34,LT.pre,cY,aC,aH,ar,ay,aG,aM,aQ,aT,dn,al,bf,aX,bd,bS,bH,Bool.and_eq_true,Bool.or_eq_true,Bool.and_eq_false_iff,Bool.or_eq_false_iff,Bool.not_eq_true',Bool.not_eq_false',decide_eq_true_eq,decide_eq_false_iff_not,bne_iff_ne,beq_iff_eq,bne_eq_false_iff_eq,beq_eq_false_iff_ne,CW]
 simp only[Ty.cB,Ty.has,iH,rA] at h
 (repeat' (first|intro _|constructor))<;>(try omega))
theorem FB{x:Int×Int×Int×Int×Int×Int×Int}:iV x=0∨iV x=90:=by
 obtain⟨a,b,c,d,e,f,g⟩:=x
 exact LT.ky (p:=fun y=>y=0∨y=90) (.inl rfl) (by simp[t34,LT.all])
theorem gv{a b c d e f g:Int}:iV (a,b,c,d,e,f,g)=0↔ia a b c d e f g:=by
 simp only[iV,t34,LT.val,nq,aC,aH,ar,ay,aG,aM,aQ,aT,dn,al,bf,aX,bd,bS,bH,Bool.and_eq_true,Bool.or_eq_true,Bool.and_eq_false_iff,Bool.or_eq_false_iff,Bool.not_eq_true',Bool.not_eq_false',decide_eq_true_eq,decide_eq_false_iff_not,bne_iff_ne,beq_iff_eq,bne_eq_false_iff_eq,beq_eq_false_iff_ne,CW]
 simp
 unfold ia
 by_cases hb:4≤b∧b≤8
 ·rw[fV (by omega) (by omega),X8 (by omega) hb.2]
  have hp:=tV (n:=b.toNat) (by omega)
  have hp1:1≤2^b.toNat:=Nat.one_le_two_pow
  rw[fV (by omega) (by omega)]
  by_cases hc:0≤c∧c<256∧0≤a∧a<8
  ·have h:=acH hc.1 hc.2.1 hc.2.2.1 hc.2.2.2
   rw[h]
   cases jY c a<;>simp<;>omega
  ·constructor
   ·intro h;exfalso;omega
   ·intro h;exfalso;omega
 ·constructor
  ·intro h;exfalso;omega
  ·intro h;exfalso;omega
def t80(A:a_)(n:Int):LT Int Empty:=.need (A.c .leq 0 (A.v .u64 n)) (.ret (A.b .shl .i64 1 (A.v .u64 n)))
def iB:Int→Int:=fun n=>(t80 aj n).val (Ty.bE [yI])
def aiW:aB:=⟨[yI], [yI],(@tt Int),iB⟩
theorem Js:Sd 176 aiW:=aJ ax bK true 17 [] (fun A n=>t80 A n) (fc Tryz.func176 fz) sz (fun(n:Int) hp h=>by
 show(t80 aj n).pre=true
 simp only[t80,LT.pre,cY,aC,aH,ar,ay,aG,aM,aQ,aT,dn,al,bf,aX,bd,bS,bH,Bool.and_eq_true,Bool.or_eq_true,Bool.and_eq_false_iff,Bool.or_eq_false_iff,Bool.not_eq_true',Bool.not_eq_false',decide_eq_true_eq,decide_eq_false_iff_not,bne_iff_ne,beq_iff_eq,bne_eq_false_iff_eq,beq_eq_false_iff_ne]
 simp only[Ty.cB,Ty.has,iH] at h
 have:=fJ .u64 n
 exact⟨this.1,trivial⟩)
theorem Ie{n:Int}(h0:0≤n)(h1:n≤8):iB n=((2^n.toNat:Nat):Int):=by
 have:n=0∨n=1∨n=2∨n=3∨n=4∨n=5∨n=6∨n=7∨n=8:=by omega
 rcases this with rfl|rfl|rfl|rfl|rfl|rfl|rfl|rfl|rfl<;>decide
theorem jX{n:Int}(h0:0≤n)(h1:n≤8):iB n=aj.b .shl .i64 1 n:=by rw[Ie h0 h1,X8 h0 h1]
def t35(A:a_)(mId:Int)(mN:Int)(mSet:Int)(mAcc:Int)(mFail:Int)(mStage:Int)(mFirst:Int):LT Int Empty:=.br (A.c .lss mN 4) (.ret 90) (.br (A.c .gtr mN 8) (.ret 90) (.br (A.c .lss mId 0) (.ret 90) (.br (A.c .geq mId mN) (.ret 90) (.br (A.c .lss mFirst 0) (.ret 90) (.br (A.c .geq mFirst mN) (.ret 90) (.br (A.c .lss mSet 0) (.ret 90) (.need (A.k (@tt Int) mN) (.br (A.c .geq mSet (A.k iB mN)) (.ret 90) (.br (A.c .lss mAcc 0) (.ret 90) (.br (A.c .gtr mAcc 1048576) (.ret 90) (.br (A.c .lss mFail 0) (.ret 90) (.br (A.c .gtr mFail 1048576) (.ret 90) (.br (A.c .lss mStage 0) (.ret 90) (.br (A.c .gtr mStage 2) (.ret 90) (.br (A.c .neq mStage 0) (.need (A.k (@tt Int) mId) (.br (A.c .eql (A.b .and .i64 mSet (A.k iB mId)) 0) (.ret 90) (.br (A.c .eql mStage 2) (.br (A.c .eql mFirst mId) (.ret 90) (.ret 0)) (.ret 0)))) (.br (A.c .eql mStage 2) (.br (A.c .eql mFirst mId) (.ret 90) (.ret 0)) (.ret 0)))))))))))))))))
def gZ:((Int×Int×Int×Int×Int×Int×Int))→Int:=fun(mId,mN,mSet,mAcc,mFail,mStage,mFirst)=>(t35 aj mId mN mSet mAcc mFail mStage mFirst).val (Ty.bE [yI])
def aic:aB:=⟨[(.struct [yI,yI,yI,yI,yI,yI,yI])], [yI],(@tt ((Int×Int×Int×Int×Int×Int×Int))),gZ⟩
theorem Fc:Sd 154 aic:=aJ ax bK true 130 [] (fun A (mId,mN,mSet,mAcc,mFail,mStage,mFirst)=>t35 A mId mN mSet mAcc mFail mStage mFirst) (fc Tryz.func154 fz) (sc Js sz) (fun((mId,mN,mSet,mAcc,mFail,mStage,mFirst):(Int×Int×Int×Int×Int×Int×Int)) hp h=>by
 show(t35 aj mId mN mSet mAcc mFail mStage mFirst).pre=true
 simp only[t35,LT.pre,cY,aC,aH,ar,ay,aG,aM,aQ,aT,dn,al,bf,aX,bd,bS,bH,Bool.and_eq_true,Bool.or_eq_true,Bool.and_eq_false_iff,Bool.or_eq_false_iff,Bool.not_eq_true',Bool.not_eq_false',decide_eq_true_eq,decide_eq_false_iff_not,bne_iff_ne,beq_iff_eq,bne_eq_false_iff_eq,beq_eq_false_iff_ne]
 simp only[Ty.cB,Ty.has,iH,rA] at h
 (repeat' (first|intro _|constructor))<;>(try omega))
theorem mW{x:Int×Int×Int×Int×Int×Int×Int}:gZ x=0∨gZ x=90:=by
 obtain⟨a,b,c,d,e,f,g⟩:=x
 exact LT.ky (p:=fun y=>y=0∨y=90) (.inl rfl) (by simp[t35,LT.all])
theorem jw{a b c d e f g:Int}:gZ (a,b,c,d,e,f,g)=0↔ia a b c d e f g:=by
 simp only[gZ,t35,LT.val,nq,aC,aH,ar,ay,aG,aM,aQ,aT,dn,al,bf,aX,bd,bS,bH,Bool.and_eq_true,Bool.or_eq_true,Bool.and_eq_false_iff,Bool.or_eq_false_iff,Bool.not_eq_true',Bool.not_eq_false',decide_eq_true_eq,decide_eq_false_iff_not,bne_iff_ne,beq_iff_eq,bne_eq_false_iff_eq,beq_eq_false_iff_ne]
 simp
 unfold ia
 by_cases hb:4≤b∧b≤8∧0≤a∧a<b
 ·rw[Ie (by omega) hb.2.1,jX (n:=a) (by omega) (by omega)]
  have hp:=tV (n:=b.toNat) (by omega)
  by_cases hc:0≤c∧c<256
  ·have h:=H9 (a:=a) hc.1 hc.2 (by omega) (by omega)
   rw[h]
   cases jY c a<;>simp<;>omega
  ·constructor
   ·intro h;exfalso;omega
   ·intro h;exfalso;omega
 ·constructor
  ·intro h;exfalso;omega
  ·intro h;exfalso;omega
theorem JM{x:Int×Int×Int×Int×Int×Int×Int}:iV x=gZ x:=by
 have h1:=FB (x:=x)
 have h2:=mW (x:=x)
 obtain⟨a,b,c,d,e,f,g⟩:=x
 have h3:=gv (a:=a) (b:=b) (c:=c) (d:=d) (e:=e) (f:=f) (g:=g)
 have h4:=jw (a:=a) (b:=b) (c:=c) (d:=d) (e:=e) (f:=f) (g:=g)
 by_cases h:ia a b c d e f g
 ·rw[h3.2 h,h4.2 h]
 ·have:=mt h3.1 h;have:=mt h4.1 h;omega
def t77(A:a_)(mId:Int)(mN:Int)(mSet:Int)(mAcc:Int)(mFail:Int)(mStage:Int)(mFirst:Int)(node:Int):LT Bool Empty:=.need (A.k (@tt (Int×Int)) (node,(A.b .sub .i64 mN 1))) (.br (A.k Am (node,(A.b .sub .i64 mN 1))) (.ret (A.c .neq node mId)) (.ret false))
def ye:((Int×Int×Int×Int×Int×Int×Int)×Int)→Bool:=fun((mId,mN,mSet,mAcc,mFail,mStage,mFirst),node)=>(t77 aj mId mN mSet mAcc mFail mStage mFirst node).val (Ty.bE [.bool])
def aiq:aB:=⟨[(.struct [yI,yI,yI,yI,yI,yI,yI]),yI], [.bool],(@tt ((Int×Int×Int×Int×Int×Int×Int)×Int)),ye⟩
theorem TJ:Sd 204 aiq:=aJ ax bK true 26 [] (fun A ((mId,mN,mSet,mAcc,mFail,mStage,mFirst),node)=>t77 A mId mN mSet mAcc mFail mStage mFirst node) (fc Tryz.func204 fz) (sc aeT sz) (fun(((mId,mN,mSet,mAcc,mFail,mStage,mFirst),node):(Int×Int×Int×Int×Int×Int×Int)×Int) hp h=>by
 show(t77 aj mId mN mSet mAcc mFail mStage mFirst node).pre=true
 simp only[t77,LT.pre,cY,aC,aH,ar,ay,aG,aM,aQ,aT,dn,al,bf,aX,bd,bS,bH,Bool.and_eq_true,Bool.or_eq_true,Bool.and_eq_false_iff,Bool.or_eq_false_iff,Bool.not_eq_true',Bool.not_eq_false',decide_eq_true_eq,decide_eq_false_iff_not,bne_iff_ne,beq_iff_eq,bne_eq_false_iff_eq,beq_eq_false_iff_ne]
 simp only[Ty.cB,Ty.has,iH,rA] at h
 (repeat' (first|intro _|constructor))<;>(try omega))
def t73(A:a_)(mId:Int)(mN:Int)(mSet:Int)(mAcc:Int)(mFail:Int)(mStage:Int)(mFirst:Int)(sender:Int):LT Int Empty:=.need (A.k (@tt ((Int×Int×Int×Int×Int×Int×Int))) (mId,mN,mSet,mAcc,mFail,mStage,mFirst)) (.br (A.c .neq (A.k iV (mId,mN,mSet,mAcc,mFail,mStage,mFirst)) 0) (.ret (A.k iV (mId,mN,mSet,mAcc,mFail,mStage,mFirst))) (.need (A.k (@tt ((Int×Int×Int×Int×Int×Int×Int)×Int)) ((mId,mN,mSet,mAcc,mFail,mStage,mFirst),sender)) (.br (A.not (A.k ye ((mId,mN,mSet,mAcc,mFail,mStage,mFirst),sender))) (.ret 2) (.ret 0))))
def rI:((Int×Int×Int×Int×Int×Int×Int)×Int)→Int:=fun((mId,mN,mSet,mAcc,mFail,mStage,mFirst),sender)=>(t73 aj mId mN mSet mAcc mFail mStage mFirst sender).val (Ty.bE [yI])
def ag1:aB:=⟨[(.struct [yI,yI,yI,yI,yI,yI,yI]),yI], [yI],(@tt ((Int×Int×Int×Int×Int×Int×Int)×Int)),rI⟩
theorem acC:Sd 209 ag1:=aJ ax bK true 39 [] (fun A ((mId,mN,mSet,mAcc,mFail,mStage,mFirst),sender)=>t73 A mId mN mSet mAcc mFail mStage mFirst sender) (fc Tryz.func209 fz) (sc EW (sc TJ sz)) (fun(((mId,mN,mSet,mAcc,mFail,mStage,mFirst),sender):(Int×Int×Int×Int×Int×Int×Int)×Int) hp h=>by
 show(t73 aj mId mN mSet mAcc mFail mStage mFirst sender).pre=true
 simp only[t73,LT.pre,cY,aC,aH,ar,ay,aG,aM,aQ,aT,dn,al,bf,aX,bd,bS,bH,Bool.and_eq_true,Bool.or_eq_true,Bool.and_eq_false_iff,Bool.or_eq_false_iff,Bool.not_eq_true',Bool.not_eq_false',decide_eq_true_eq,decide_eq_false_iff_not,bne_iff_ne,beq_iff_eq,bne_eq_false_iff_eq,beq_eq_false_iff_ne]
 simp only[Ty.cB,Ty.has,iH,rA] at h
 (repeat' (first|intro _|constructor))<;>(try omega))
def t78(A:a_)(mId:Int)(mN:Int)(mSet:Int)(mAcc:Int)(mFail:Int)(mStage:Int)(mFirst:Int)(sender:Int):LT (List Int×Int) Empty:=.need (A.c .leq 0 mId) (.need (A.c .leq 0 mFirst) (.need (A.c .leq 0 sender) (.br (A.c .eql mStage 0) (.ret ([(A.b .or .i64 mSet (A.b .shl .i64 1 sender)),0],1)) (.br (A.c .eql mStage 1) (.ret ([(A.b .or .i64 (A.b .or .i64 mSet (A.b .shl .i64 1 sender)) (A.b .shl .i64 1 mId)),(A.b .andNot .i64 (A.b .or .i64 mSet (A.b .shl .i64 1 sender)) (A.b .shl .i64 1 mId))],2)) (.br (A.c .eql sender mFirst) (.ret ([(A.b .or .i64 (A.b .or .i64 mSet (A.b .shl .i64 1 sender)) (A.b .shl .i64 1 mId)),0],1)) (.ret ([(A.b .andNot .i64 (A.b .or .i64 (A.b .or .i64 mSet (A.b .shl .i64 1 sender)) (A.b .shl .i64 1 mId)) (A.b .shl .i64 1 mFirst)),(A.b .andNot .i64 (A.b .or .i64 (A.b .or .i64 mSet (A.b .shl .i64 1 sender)) (A.b .shl .i64 1 mFirst)) (A.b .shl .i64 1 mId))],2)))))))
def eY:((Int×Int×Int×Int×Int×Int×Int)×Int)→(List Int×Int):=fun((mId,mN,mSet,mAcc,mFail,mStage,mFirst),sender)=>(t78 aj mId mN mSet mAcc mFail mStage mFirst sender).val (Ty.bE [(.arr 2 yI),yI])
def Bb:((Int×Int×Int×Int×Int×Int×Int)×Int)→Bool:=fun((a,b,c,d,e,f,g),s)=>decide (0≤a)&&(decide (0≤g)&&decide (0≤s))
def af9:aB:=⟨[(.struct [yI,yI,yI,yI,yI,yI,yI]),yI], [(.arr 2 yI),yI],Bb,eY⟩
theorem aaY:Sd 205 af9:=aJ ax bK true 77 [] (fun A ((mId,mN,mSet,mAcc,mFail,mStage,mFirst),sender)=>t78 A mId mN mSet mAcc mFail mStage mFirst sender) (fc Tryz.func205 fz) sz (fun(((mId,mN,mSet,mAcc,mFail,mStage,mFirst),sender):(Int×Int×Int×Int×Int×Int×Int)×Int) hp h=>by
 show(t78 aj mId mN mSet mAcc mFail mStage mFirst sender).pre=true
 simp only[t78,LT.pre,cY,aC,aH,ar,ay,aG,aM,aQ,aT,dn,al,bf,aX,bd,bS,bH,Bool.and_eq_true,Bool.or_eq_true,Bool.and_eq_false_iff,Bool.or_eq_false_iff,Bool.not_eq_true',Bool.not_eq_false',decide_eq_true_eq,decide_eq_false_iff_not,bne_iff_ne,beq_iff_eq,bne_eq_false_iff_eq,beq_eq_false_iff_ne]
 simp only[Bb,Bool.and_eq_true,decide_eq_true_eq] at hp
 simp only[Ty.cB,Ty.has,iH,rA] at h
 (repeat' (first|intro _|constructor))<;>(try omega))
theorem mG{a b c d e f g s:Int}(h0:4≤b)(h1:b≤8):ye ((a,b,c,d,e,f,g),s)=true↔0≤s∧s<b∧s≠a:=by
 simp only[ye,t77,LT.val,nq,aC,aH,ar,ay,aG,aM,aQ,aT,dn,al,bf,aX,bd,bS,bH,Bool.and_eq_true,Bool.or_eq_true,Bool.and_eq_false_iff,Bool.or_eq_false_iff,Bool.not_eq_true',Bool.not_eq_false',decide_eq_true_eq,decide_eq_false_iff_not,bne_iff_ne,beq_iff_eq,bne_eq_false_iff_eq,beq_eq_false_iff_ne,CW]
 simp
 rw[fV (by omega) (by omega)]
 omega
theorem zq{x:(Int×Int×Int×Int×Int×Int×Int)×Int}:0≤(eY x).2∧(eY x).2≤2:=by
 obtain⟨⟨a,b,c,d,e,f,g⟩,s⟩:=x
 exact LT.ky (p:=fun y:List Int×Int=>0≤y.2∧y.2≤2) (by decide) (by simp[t78,LT.all])
structure adZ where
 (a0 a1 a2 a4 a5 a6 a7 a8 a9 bV dT a12 lk ku qs a16 a17 qU mq a20 a21 a22 a23:Int) (a24:Bool) (a25 a26 a27 a28 a29 a30 a31 a32 a33 a34 a35 a36 a37 a38 a39 a40:Int)
inductive Y74 where
 | c0 (p:adZ) (a3:Int)
noncomputable def ad4:Y74→fL
 | .c0 p a3=>⟨[⟨203,37,(en [(0,.yield 0),(24,.mz 1 1 false p.a0 p.a1),(25,vi p.a2),(26,vi a3)]),[.inLoop (cw Tryz.f203 [1,1,1,0,0]),.inBlock 0],[],none⟩,⟨210,19,(en [(6,.ptr 2 0),(7,.ptr 3 0)]),[.jr 0,.inBlock 0,.code (cw Tryz.f210 [1,1])],[4],none⟩],[.loop ⟨210,19,(en [(0,.agg [vi p.a4,vi p.a5,vi p.a6,vi p.a7,vi p.a8,vi p.a9,vi p.bV]),(1,vi p.dT),(2,vi p.a12),(3,.ptr 5 0),(5,.ptr 6 0),(6,.ptr 2 0),(7,.ptr 3 0),(10,.agg [vi p.lk,vi p.ku,vi p.qs,vi p.a16,vi p.a17,vi p.qU,vi p.mq]),(11,vi p.a20),(12,.fn 203 [] [.ptr 7 0,.ptr 8 0])]),[13,14],(cw Tryz.f210 [1,0,1,0,0]),(cw Tryz.f210 [1,0,1,0,1]),0,none⟩,.flat false [vi p.a21,vi p.a22],.flat false [vi p.a23],.flat false [vb p.a24],.Dr,.flat false [vi p.a25,vi p.a26,vi p.a27,vi p.a28,vi p.a29,vi p.a30,vi p.a31],.flat false [vi p.a32],.flat false [vi p.a33,vi p.a34,vi p.a35,vi p.a36,vi p.a37,vi p.a38,vi p.a39],.flat false [vi p.a40],.dead]⟩
def t74(A:a_)(mId:Int)(mN:Int)(mSet:Int)(mAcc:Int)(mFail:Int)(mStage:Int)(mFirst:Int)(sender:Int)(which:Int):LT (Int×Bool) Y74:=.need (A.k (@tt ((Int×Int×Int×Int×Int×Int×Int))) (mId,mN,mSet,mAcc,mFail,mStage,mFirst)) (.br (A.c .neq (A.k iV (mId,mN,mSet,mAcc,mFail,mStage,mFirst)) 0) (.ret (0,false)) (.need (A.k (@tt ((Int×Int×Int×Int×Int×Int×Int)×Int)) ((mId,mN,mSet,mAcc,mFail,mStage,mFirst),sender)) (.br (A.not (A.k ye ((mId,mN,mSet,mAcc,mFail,mStage,mFirst),sender))) (.ret (0,false)) (.need (A.k Bb ((mId,mN,mSet,mAcc,mFail,mStage,mFirst),sender)) (.need (A.and (A.c .leq 0 0) (A.and (A.c .leq 0 (A.k eY ((mId,mN,mSet,mAcc,mFail,mStage,mFirst),sender)).2) (A.c .leq (A.k eY ((mId,mN,mSet,mAcc,mFail,mStage,mFirst),sender)).2 2))) (.more (.c0 ⟨(A.b .add .i64 0 0),(A.b .sub .i64 (A.k eY ((mId,mN,mSet,mAcc,mFail,mStage,mFirst),sender)).2 0),(A.b .sub .i64 (A.k eY ((mId,mN,mSet,mAcc,mFail,mStage,mFirst),sender)).2 0),mId,mN,mSet,mAcc,mFail,mStage,mFirst,sender,which,mId,mN,mSet,mAcc,mFail,mStage,mFirst,sender,(A.n yI (A.k eY ((mId,mN,mSet,mAcc,mFail,mStage,mFirst),sender)).1 0:Int),(A.n yI (A.k eY ((mId,mN,mSet,mAcc,mFail,mStage,mFirst),sender)).1 1:Int),0,false,mId,mN,mSet,mAcc,mFail,mStage,mFirst,which,mId,mN,mSet,mAcc,mFail,mStage,mFirst,sender⟩ 0)))))))
def s74(A:a_):Y74→LT (Int×Bool) Y74
 | .c0 p a3=>.br (A.c .lss a3 p.a2) (.need (A.and (A.c .leq 0 a3) (A.c .lss a3 p.a1)) (.br (A.c .eql a3 p.a32) (.ret ((A.n yI [p.a21,p.a22] (A.b .add .i64 p.a0 a3):Int),true)) (.more (.c0 p (A.b .add .i64 a3 1))))) (.ret (0,false))
def wI:((Int×Int×Int×Int×Int×Int×Int)×Int×Int)→(Int×Bool):=fun(m,s,k)=>bif iV m != 0 then(0,false) else bif !ye (m,s) then(0,false) else bif decide (0≤k)&&decide (k<(eY (m,s)).2) then((eY (m,s)).1.getD k.toNat 0,true) else(0,false)
def aik:aB:=⟨[(.struct [yI,yI,yI,yI,yI,yI,yI]),yI,yI], [yI,.bool],(@tt ((Int×Int×Int×Int×Int×Int×Int)×Int×Int)),wI⟩
theorem aiv:Sd 210 aik:=aL ax bK true 70 [⟨203,3, [[0,24,25,26], [6,7]]⟩] [] (fun A ((mId,mN,mSet,mAcc,mFail,mStage,mFirst),sender,which)=>t74 A mId mN mSet mAcc mFail mStage mFirst sender which) s74 ad4 (fc Tryz.func210 (fc Tryz.func158 (fc Tryz.func203 fz))) (sc EW (sc TJ (sc aaY sz))) (fun A y=>match y with |.c0 p a3=>⟨57,by kernel_rfl,by kernel_rfl⟩) fun(((mId,mN,mSet,mAcc,mFail,mStage,mFirst),sender,which):(Int×Int×Int×Int×Int×Int×Int)×Int×Int) hp h=>by
 show aA (s74 aj) (t74 aj mId mN mSet mAcc mFail mStage mFirst sender which) (wI ((mId,mN,mSet,mAcc,mFail,mStage,mFirst),sender,which))
 unfold t74 wI
 refine .need rfl (.br ?_)
 simp only[al,aH,aT]
 cases h1:iV (mId,mN,mSet,mAcc,mFail,mStage,mFirst) != 0
 ·simp only[cond_false]
  rw[bne_eq_false_iff_eq] at h1
  have hm:=gv.1 h1
  unfold ia at hm
  refine .need rfl (.br ?_)
  cases h2:ye ((mId,mN,mSet,mAcc,mFail,mStage,mFirst),sender)
  ·exact .ret _
  ·simp only[Bool.not_true,cond_false]
   have h3:=(mG (by omega) (by omega)).1 h2
   have hq:=zq (x:=((mId,mN,mSet,mAcc,mFail,mStage,mFirst),sender))
   refine .need (by simp[Bb];omega) ?_
   generalize eY ((mId,mN,mSet,mAcc,mFail,mStage,mFirst),sender)=q at *
   obtain⟨l,n⟩:=q
   simp only at hq
   refine .need (by simp only[aQ,ay,Bool.and_eq_true,decide_eq_true_eq];omega) ?_
   have hn:n=0∨n=1∨n=2:=by omega
   have hk:which=0∨which=1∨(which≠0∧which≠1):=by omega
   have e0:IntKind.i64.wrap 0=0:=by decide
   have e1:IntKind.i64.wrap 1=1:=by decide
   have e2:IntKind.i64.wrap 2=2:=by decide
   rcases hn with rfl|rfl|rfl<;>rcases hk with rfl|rfl|⟨k0,k1⟩
   all_goals first
    | (simp[ak,s74,lL,af,ft,ar,ay,aC,aQ,bf,aX,GD,e0,e1,e2,Ty.iL];done)
    | (simp[ak,s74,lL,af,ft,ar,ay,aC,aQ,bf,aX,e0,e1,e2];rfl)
    | (have b0:(0==which)=false:=by simp<;>omega
       have b1:(1==which)=false:=by simp<;>omega
       have c0:(decide (0≤which)&&decide (which<0))=false:=by simp<;>omega
       have c1:(decide (0≤which)&&decide (which<1))=false:=by simp<;>omega
       have c2:(decide (0≤which)&&decide (which<2))=false:=by simp<;>omega
       simp only[c0,c1,c2]
       simp[ak,s74,lL,af,ft,ar,ay,aC,aQ,bf,aX,GD,e0,e1,e2,b0,b1])
 ·exact .ret _
theorem d_{a b c d e f g s:Int}:rI ((a,b,c,d,e,f,g),s)=0↔ia a b c d e f g∧0≤s∧s<b∧s≠a:=by
 simp only[rI,t73,LT.val,nq,aC,aH,ar,ay,aG,aM,aQ,aT,dn,al,bf,aX,bd,bS,bH,Bool.and_eq_true,Bool.or_eq_true,Bool.and_eq_false_iff,Bool.or_eq_false_iff,Bool.not_eq_true',Bool.not_eq_false',decide_eq_true_eq,decide_eq_false_iff_not,bne_iff_ne,beq_iff_eq,bne_eq_false_iff_eq,beq_eq_false_iff_ne]
 constructor
 ·intro h
  rcases h with ⟨h1,h2⟩|⟨h1,h2⟩
  ·exact absurd h2 h1
  ·have hm:=gv.1 h1
   have hm':=hm
   unfold ia at hm'
   rcases h2 with ⟨h2,h3⟩|⟨h2,_⟩
   ·cases h3
   ·exact⟨hm,(mG (by omega) (by omega)).1 h2⟩
 ·rintro ⟨hm,hs⟩
  have hm':=hm
  unfold ia at hm'
  exact .inr ⟨gv.2 hm,.inr ⟨(mG (by omega) (by omega)).2 hs,trivial⟩⟩
def t25(A:a_)(mId:Int)(mN:Int)(mSet:Int)(mAcc:Int)(mFail:Int)(mStage:Int)(mFirst:Int)(sender:Int)(which:Int):LT ((Int×Int×Int×Int×Int×Int×Int)×Int) Empty:=.need (A.k (@tt ((Int×Int×Int×Int×Int×Int×Int)×Int)) ((mId,mN,mSet,mAcc,mFail,mStage,mFirst),sender)) (.br (A.c .neq (A.k rI ((mId,mN,mSet,mAcc,mFail,mStage,mFirst),sender)) 0) (.ret ((0,0,0,0,0,0,0),(A.k rI ((mId,mN,mSet,mAcc,mFail,mStage,mFirst),sender)))) (.need (A.k (@tt ((Int×Int×Int×Int×Int×Int×Int)×Int×Int)) ((mId,mN,mSet,mAcc,mFail,mStage,mFirst),sender,which)) (.br (A.not (A.k wI ((mId,mN,mSet,mAcc,mFail,mStage,mFirst),sender,which)).2) (.ret ((0,0,0,0,0,0,0),2)) (.br (A.c .eql mStage 1) (.br (A.c .eql which 1) (.need (A.c .leq 0 sender) (.ret ((mId,mN,(A.b .or .i64 mSet (A.b .shl .i64 1 sender)),mAcc,mFail,2,sender),0))) (.br (A.c .eql mStage 2) (.br (A.c .neq sender mFirst) (.ret ((mId,mN,(A.k wI ((mId,mN,mSet,mAcc,mFail,mStage,mFirst),sender,which)).1,(A.mn (A.b .add .i64 mAcc 1) 1048576),(A.mn (A.b .add .i64 mFail 1) 1048576),0,0),0)) (.ret ((mId,mN,(A.k wI ((mId,mN,mSet,mAcc,mFail,mStage,mFirst),sender,which)).1,(A.mn (A.b .add .i64 mAcc 1) 1048576),mFail,0,0),0))) (.ret ((mId,mN,(A.k wI ((mId,mN,mSet,mAcc,mFail,mStage,mFirst),sender,which)).1,(A.mn (A.b .add .i64 mAcc 1) 1048576),mFail,0,0),0)))) (.br (A.c .eql mStage 2) (.br (A.c .neq sender mFirst) (.ret ((mId,mN,(A.k wI ((mId,mN,mSet,mAcc,mFail,mStage,mFirst),sender,which)).1,(A.mn (A.b .add .i64 mAcc 1) 1048576),(A.mn (A.b .add .i64 mFail 1) 1048576),0,0),0)) (.ret ((mId,mN,(A.k wI ((mId,mN,mSet,mAcc,mFail,mStage,mFirst),sender,which)).1,(A.mn (A.b .add .i64 mAcc 1) 1048576),mFail,0,0),0))) (.ret ((mId,mN,(A.k wI ((mId,mN,mSet,mAcc,mFail,mStage,mFirst),sender,which)).1,(A.mn (A.b .add .i64 mAcc 1) 1048576),mFail,0,0),0)))))))
def lI:((Int×Int×Int×Int×Int×Int×Int)×Int×Int)→((Int×Int×Int×Int×Int×Int×Int)×Int):=fun((mId,mN,mSet,mAcc,mFail,mStage,mFirst),sender,which)=>(t25 aj mId mN mSet mAcc mFail mStage mFirst sender which).val (Ty.bE [(.struct [yI,yI,yI,yI,yI,yI,yI]),yI])
def ahR:aB:=⟨[(.struct [yI,yI,yI,yI,yI,yI,yI]),yI,yI], [(.struct [yI,yI,yI,yI,yI,yI,yI]),yI],(@tt ((Int×Int×Int×Int×Int×Int×Int)×Int×Int)),lI⟩
theorem agG:Sd 165 ahR:=aJ ax bK true 107 [] (fun A ((mId,mN,mSet,mAcc,mFail,mStage,mFirst),sender,which)=>t25 A mId mN mSet mAcc mFail mStage mFirst sender which) (fc Tryz.func165 fz) (sc acC (sc aiv sz)) (fun(((mId,mN,mSet,mAcc,mFail,mStage,mFirst),sender,which):(Int×Int×Int×Int×Int×Int×Int)×Int×Int) hp h=>by
 show(t25 aj mId mN mSet mAcc mFail mStage mFirst sender which).pre=true
 simp only[t25,LT.pre,cY,aC,aH,ar,ay,aG,aM,aQ,aT,dn,al,bf,aX,bd,bS,bH,Bool.and_eq_true,Bool.or_eq_true,Bool.and_eq_false_iff,Bool.or_eq_false_iff,Bool.not_eq_true',Bool.not_eq_false',decide_eq_true_eq,decide_eq_false_iff_not,bne_iff_ne,beq_iff_eq,bne_eq_false_iff_eq,beq_eq_false_iff_ne]
 simp only[Ty.cB,Ty.has,iH] at h
 (repeat' (first|intro _|constructor))<;>(try (have hm:=(d_.1 (by assumption));unfold ia at hm;omega)))
def t38(A:a_)(mId:Int)(mN:Int)(mSet:Int)(mAcc:Int)(mFail:Int)(mStage:Int)(mFirst:Int)(sender:Int):LT ((Int×Int×Int×Int×Int×Int×Int)×Int) Empty:=.need (A.k (@tt ((Int×Int×Int×Int×Int×Int×Int)×Int)) ((mId,mN,mSet,mAcc,mFail,mStage,mFirst),sender)) (.br (A.c .neq (A.k rI ((mId,mN,mSet,mAcc,mFail,mStage,mFirst),sender)) 0) (.ret ((0,0,0,0,0,0,0),(A.k rI ((mId,mN,mSet,mAcc,mFail,mStage,mFirst),sender)))) (.need (A.c .leq 0 sender) (.br (A.c .eql mStage 2) (.br (A.c .eql mFirst sender) (.ret ((mId,mN,(A.b .andNot .i64 mSet (A.b .shl .i64 1 sender)),mAcc,mFail,1,0),0)) (.ret ((mId,mN,(A.b .andNot .i64 mSet (A.b .shl .i64 1 sender)),mAcc,mFail,mStage,mFirst),0))) (.ret ((mId,mN,(A.b .andNot .i64 mSet (A.b .shl .i64 1 sender)),mAcc,mFail,mStage,mFirst),0)))))
def lh:((Int×Int×Int×Int×Int×Int×Int)×Int)→((Int×Int×Int×Int×Int×Int×Int)×Int):=fun((mId,mN,mSet,mAcc,mFail,mStage,mFirst),sender)=>(t38 aj mId mN mSet mAcc mFail mStage mFirst sender).val (Ty.bE [(.struct [yI,yI,yI,yI,yI,yI,yI]),yI])
def ah5:aB:=⟨[(.struct [yI,yI,yI,yI,yI,yI,yI]),yI], [(.struct [yI,yI,yI,yI,yI,yI,yI]),yI],(@tt ((Int×Int×Int×Int×Int×Int×Int)×Int)),lh⟩
theorem abD:Sd 163 ah5:=aJ ax bK true 63 [] (fun A ((mId,mN,mSet,mAcc,mFail,mStage,mFirst),sender)=>t38 A mId mN mSet mAcc mFail mStage mFirst sender) (fc Tryz.func163 fz) (sc acC sz) (fun(((mId,mN,mSet,mAcc,mFail,mStage,mFirst),sender):(Int×Int×Int×Int×Int×Int×Int)×Int) hp h=>by
 show(t38 aj mId mN mSet mAcc mFail mStage mFirst sender).pre=true
 simp only[t38,LT.pre,cY,aC,aH,ar,ay,aG,aM,aQ,aT,dn,al,bf,aX,bd,bS,bH,Bool.and_eq_true,Bool.or_eq_true,Bool.and_eq_false_iff,Bool.or_eq_false_iff,Bool.not_eq_true',Bool.not_eq_false',decide_eq_true_eq,decide_eq_false_iff_not,bne_iff_ne,beq_iff_eq,bne_eq_false_iff_eq,beq_eq_false_iff_ne]
 simp only[Ty.cB,Ty.has,iH] at h
 (repeat' (first|intro _|constructor))<;>(try (have hm:=(d_.1 (by assumption));unfold ia at hm;omega)))
def t39(A:a_)(mId:Int)(mN:Int)(mSet:Int)(mAcc:Int)(mFail:Int)(mStage:Int)(mFirst:Int)(sender:Int):LT ((Int×Int×Int×Int×Int×Int×Int)×Int) Empty:=.need (A.k (@tt ((Int×Int×Int×Int×Int×Int×Int)×Int)) ((mId,mN,mSet,mAcc,mFail,mStage,mFirst),sender)) (.br (A.c .eql (A.k lh ((mId,mN,mSet,mAcc,mFail,mStage,mFirst),sender)).2 0) (.ret (((A.k lh ((mId,mN,mSet,mAcc,mFail,mStage,mFirst),sender)).1.1,(A.k lh ((mId,mN,mSet,mAcc,mFail,mStage,mFirst),sender)).1.2.1,(A.k lh ((mId,mN,mSet,mAcc,mFail,mStage,mFirst),sender)).1.2.2.1,(A.k lh ((mId,mN,mSet,mAcc,mFail,mStage,mFirst),sender)).1.2.2.2.1,(A.mn (A.b .add .i64 (A.k lh ((mId,mN,mSet,mAcc,mFail,mStage,mFirst),sender)).1.2.2.2.2.1 1) 1048576),(A.k lh ((mId,mN,mSet,mAcc,mFail,mStage,mFirst),sender)).1.2.2.2.2.2),(A.k lh ((mId,mN,mSet,mAcc,mFail,mStage,mFirst),sender)).2)) (.ret (A.k lh ((mId,mN,mSet,mAcc,mFail,mStage,mFirst),sender))))
def FC:((Int×Int×Int×Int×Int×Int×Int)×Int)→((Int×Int×Int×Int×Int×Int×Int)×Int):=fun((mId,mN,mSet,mAcc,mFail,mStage,mFirst),sender)=>(t39 aj mId mN mSet mAcc mFail mStage mFirst sender).val (Ty.bE [(.struct [yI,yI,yI,yI,yI,yI,yI]),yI])
def ag4:aB:=⟨[(.struct [yI,yI,yI,yI,yI,yI,yI]),yI], [(.struct [yI,yI,yI,yI,yI,yI,yI]),yI],(@tt ((Int×Int×Int×Int×Int×Int×Int)×Int)),FC⟩
theorem agU:Sd 164 ag4:=aJ ax bK true 45 [] (fun A ((mId,mN,mSet,mAcc,mFail,mStage,mFirst),sender)=>t39 A mId mN mSet mAcc mFail mStage mFirst sender) (fc Tryz.func164 fz) (sc abD sz) (fun(((mId,mN,mSet,mAcc,mFail,mStage,mFirst),sender):(Int×Int×Int×Int×Int×Int×Int)×Int) hp h=>by
 show(t39 aj mId mN mSet mAcc mFail mStage mFirst sender).pre=true
 simp only[t39,LT.pre,cY,aC,aH,ar,ay,aG,aM,aQ,aT,dn,al,bf,aX,bd,bS,bH,Bool.and_eq_true,Bool.or_eq_true,Bool.and_eq_false_iff,Bool.or_eq_false_iff,Bool.not_eq_true',Bool.not_eq_false',decide_eq_true_eq,decide_eq_false_iff_not,bne_iff_ne,beq_iff_eq,bne_eq_false_iff_eq,beq_eq_false_iff_ne]
 simp only[Ty.cB,Ty.has,iH,rA] at h
 (repeat' (first|intro _|constructor))<;>(try omega))
def inc(d:Int):Int:=if d<1048576 then d+1 else 1048576
theorem ob{d:Int}(h0:0≤d)(h1:d≤1048576):aj.mn (aj.b .add .i64 d 1) 1048576=inc d:=by
 rw[uO,bf,fV (by omega) (by omega),inc]
 split<;>split<;>omega
section
variable {a b c d e f g s:Int}
theorem Dq:eY ((a,b,c,d,e,0,g),s)=([jc c s,0],1):=rfl
theorem Cu:eY ((a,b,c,d,e,1,g),s)=([jc (jc c s) a,kz (jc c s) a],2):=rfl
theorem wS:eY ((a,b,c,d,e,2,g),g)=([jc (jc c g) a,0],1):=by
 simp[eY,t78,LT.val,aC,jc]
theorem wQ(h:s≠g):eY ((a,b,c,d,e,2,g),s)=([kz (jc (jc c s) a) g,kz (jc (jc c s) g) a],2):=by
 have hb:(s==g)=false:=by simpa using h
 simp[eY,t78,LT.val,aC,jc,kz,hb]
theorem kE(h:ia a b c d e f g)(h0:0≤s)(h1:s<b)(h2:s≠a)(k:Int):wI ((a,b,c,d,e,f,g),s,k) =
  bif decide (0≤k)&&decide (k<(eY ((a,b,c,d,e,f,g),s)).2) then((eY ((a,b,c,d,e,f,g),s)).1.getD k.toNat 0,true) else(0,false):=by
 have hm:=h
 unfold ia at hm
 simp only[wI,gv.2 h,(mG (by omega) (by omega)).2 ⟨h0,h1,h2⟩,bne_self_eq_false,Bool.not_true,cond_false]
theorem JW(h:ia a b c d e 0 g)(h0:0≤s)(h1:s<b)(h2:s≠a):lI ((a,b,c,d,e,0,g),s,0)=((a,b,jc c s,inc d,e,0,0),0):=by
 have hm:=h
 unfold ia at hm
 simp[lI,t25,LT.val,al,aH,aC,aT,d_.2 ⟨h,h0,h1,h2⟩,kE h h0 h1 h2,Dq,ob (d:=d) (by omega) (by omega)]
theorem NV(h:ia a b c d e 1 g)(h0:0≤s)(h1:s<b)(h2:s≠a):lI ((a,b,c,d,e,1,g),s,0)=((a,b,jc (jc c s) a,inc d,e,0,0),0):=by
 have hm:=h
 unfold ia at hm
 simp[lI,t25,LT.val,al,aH,aC,aT,d_.2 ⟨h,h0,h1,h2⟩,kE h h0 h1 h2,Cu,ob (d:=d) (by omega) (by omega)]
theorem GR(h:ia a b c d e 1 g)(h0:0≤s)(h1:s<b)(h2:s≠a):lI ((a,b,c,d,e,1,g),s,1)=((a,b,jc c s,d,e,2,s),0):=by
 simp[lI,t25,LT.val,al,aH,aC,aT,d_.2 ⟨h,h0,h1,h2⟩,kE h h0 h1 h2,Cu,jc]
theorem Gk(h:ia a b c d e 2 g)(h0:0≤g)(h1:g<b)(h2:g≠a):lI ((a,b,c,d,e,2,g),g,0)=((a,b,jc (jc c g) a,inc d,e,0,0),0):=by
 have hm:=h
 unfold ia at hm
 simp[lI,t25,LT.val,al,aH,aC,aT,d_.2 ⟨h,h0,h1,h2⟩,kE h h0 h1 h2,wS,ob (d:=d) (by omega) (by omega)]
theorem Ii(h:ia a b c d e 2 g)(h0:0≤s)(h1:s<b)(h2:s≠a)(h3:s≠g):lI ((a,b,c,d,e,2,g),s,0)=((a,b,kz (jc (jc c s) a) g,inc d,inc e,0,0),0):=by
 have hm:=h
 unfold ia at hm
 simp[lI,t25,LT.val,al,aH,aC,aT,d_.2 ⟨h,h0,h1,h2⟩,kE h h0 h1 h2,wQ h3,show(s != g)=true from by simpa using h3,ob (d:=d) (by omega) (by omega),ob (d:=e) (by omega) (by omega)]
theorem Ik(h:ia a b c d e 2 g)(h0:0≤s)(h1:s<b)(h2:s≠a)(h3:s≠g):lI ((a,b,c,d,e,2,g),s,1)=((a,b,kz (jc (jc c s) g) a,inc d,inc e,0,0),0):=by
 have hm:=h
 unfold ia at hm
 simp[lI,t25,LT.val,al,aH,aC,aT,d_.2 ⟨h,h0,h1,h2⟩,kE h h0 h1 h2,wQ h3,show(s != g)=true from by simpa using h3,ob (d:=d) (by omega) (by omega),ob (d:=e) (by omega) (by omega)]
theorem K6(h:ia a b c d e f g)(h0:0≤s)(h1:s<b)(h2:s≠a)(h3:f≠2):lh ((a,b,c,d,e,f,g),s)=((a,b,kz c s,d,e,f,g),0):=by
 have hb:(f==2)=false:=by simpa using h3
 simp[lh,t38,LT.val,al,aH,aC,d_.2 ⟨h,h0,h1,h2⟩,kz,hb]
theorem NO(h:ia a b c d e 2 g)(h0:0≤s)(h1:s<b)(h2:s≠a)(h3:g≠s):lh ((a,b,c,d,e,2,g),s)=((a,b,kz c s,d,e,2,g),0):=by
 have hb:(g==s)=false:=by simpa using h3
 simp[lh,t38,LT.val,al,aH,aC,d_.2 ⟨h,h0,h1,h2⟩,kz,hb]
theorem M9(h:ia a b c d e 2 g)(h2:g≠a):lh ((a,b,c,d,e,2,g),g)=((a,b,kz c g,d,e,1,0),0):=by
 have hm:=h
 unfold ia at hm
 simp[lh,t38,LT.val,al,aH,aC,d_.2 ⟨h,hm.2.2.2.2.1,hm.2.2.2.2.2.1,h2⟩,kz]
theorem Ky{m m':Int×Int×Int×Int×Int×Int×Int}(h:lh (m,s)=(m',0))(h0:0≤m'.2.2.2.2.1)(h1:m'.2.2.2.2.1≤1048576):FC (m,s)=((m'.1,m'.2.1,m'.2.2.1,m'.2.2.2.1,inc m'.2.2.2.2.1,m'.2.2.2.2.2),0):=by
 obtain⟨a,b,c,d,e,f,g⟩:=m
 simp[FC,t39,LT.val,al,aC,h,ob h0 h1]
end
def t33(A:a_)(mId:Int)(mN:Int)(mSet:Int)(mAcc:Int)(mFail:Int)(mStage:Int)(mFirst:Int)(sender:Int):LT (List Int) Empty:=.need (A.k (@tt ((Int×Int×Int×Int×Int×Int×Int))) (mId,mN,mSet,mAcc,mFail,mStage,mFirst)) (.br (A.c .neq (A.k gZ (mId,mN,mSet,mAcc,mFail,mStage,mFirst)) 0) (.ret ([]:List Int)) (.br (A.c .geq sender 0) (.br (A.c .lss sender mN) (.br (A.not (A.c .neq sender mId)) (.ret ([]:List Int)) (.need (A.k (@tt Int) sender) (.need (A.k (@tt Int) mId) (.br (A.c .eql mStage 1) (.ret [(A.b .or .i64 (A.b .or .i64 mSet (A.k iB sender)) (A.k iB mId)),(A.b .andNot .i64 (A.b .or .i64 mSet (A.k iB sender)) (A.k iB mId))]) (.br (A.c .eql mStage 2) (.br (A.c .eql sender mFirst) (.ret [(A.b .or .i64 (A.b .or .i64 mSet (A.k iB sender)) (A.k iB mId))]) (.br (A.c .eql mStage 2) (.need (A.k (@tt Int) mFirst) (.need (A.k (@tt Int) mFirst) (.ret [(A.b .andNot .i64 (A.b .or .i64 (A.b .or .i64 mSet (A.k iB sender)) (A.k iB mId)) (A.k iB mFirst)),(A.b .andNot .i64 (A.b .or .i64 (A.b .or .i64 mSet (A.k iB sender)) (A.k iB mFirst)) (A.k iB mId))]))) (.ret [(A.b .or .i64 mSet (A.k iB sender))]))) (.br (A.c .eql mStage 2) (.need (A.k (@tt Int) mFirst) (.need (A.k (@tt Int) mFirst) (.ret [(A.b .andNot .i64 (A.b .or .i64 (A.b .or .i64 mSet (A.k iB sender)) (A.k iB mId)) (A.k iB mFirst)),(A.b .andNot .i64 (A.b .or .i64 (A.b .or .i64 mSet (A.k iB sender)) (A.k iB mFirst)) (A.k iB mId))]))) (.ret [(A.b .or .i64 mSet (A.k iB sender))]))))))) (.ret ([]:List Int))) (.ret ([]:List Int))))
def oi:((Int×Int×Int×Int×Int×Int×Int)×Int)→(List Int):=fun((mId,mN,mSet,mAcc,mFail,mStage,mFirst),sender)=>(t33 aj mId mN mSet mAcc mFail mStage mFirst sender).val (Ty.bE [Wk])
def aha:aB:=⟨[(.struct [yI,yI,yI,yI,yI,yI,yI]),yI], [Wk],(@tt ((Int×Int×Int×Int×Int×Int×Int)×Int)),oi⟩
theorem af5:Sd 169 aha:=aJ ax bK true 117 [] (fun A ((mId,mN,mSet,mAcc,mFail,mStage,mFirst),sender)=>t33 A mId mN mSet mAcc mFail mStage mFirst sender) (fc Tryz.func169 (fc Tryz.func213 fz)) (sc Fc (sc Js sz)) (fun(((mId,mN,mSet,mAcc,mFail,mStage,mFirst),sender):(Int×Int×Int×Int×Int×Int×Int)×Int) hp h=>by
 show(t33 aj mId mN mSet mAcc mFail mStage mFirst sender).pre=true
 simp only[t33,LT.pre,cY,aC,aH,ar,ay,aG,aM,aQ,aT,dn,al,bf,aX,bd,bS,bH,Bool.and_eq_true,Bool.or_eq_true,Bool.and_eq_false_iff,Bool.or_eq_false_iff,Bool.not_eq_true',Bool.not_eq_false',decide_eq_true_eq,decide_eq_false_iff_not,bne_iff_ne,beq_iff_eq,bne_eq_false_iff_eq,beq_eq_false_iff_ne]
 simp only[Ty.cB,Ty.has,iH,rA] at h
 (repeat' (first|intro _|constructor))<;>(try omega))
theorem Ia{a b c d e f g s:Int}(h:ia a b c d e f g)(h0:0≤s)(h1:s<b)(h2:s≠a):oi ((a,b,c,d,e,f,g),s)=(eY ((a,b,c,d,e,f,g),s)).1.take (eY ((a,b,c,d,e,f,g),s)).2.toNat:=by
 have hm:=h
 unfold ia at hm
 have es:=jX (n:=s) (by omega) (by omega)
 have ea:=jX (n:=a) (by omega) (by omega)
 have eg:=jX (n:=g) (by omega) (by omega)
 have sa:(s != a)=true:=by simpa using h2
 have hf:f=0∨f=1∨f=2:=by omega
 simp only[oi,t33,LT.val,al,jw.2 h,aH,aM,ar,aC,aT,bne_self_eq_false,cond_false,es,ea,eg,sa,h0,h1,decide_true,cond_true,Bool.not_true]
 rcases hf with rfl|rfl|rfl
 ·rw[Dq];rfl
 ·rw[Cu];rfl
 ·by_cases hsg:s=g
  ·subst hsg
   rw[wS];simp[jc]
  ·rw[wQ hsg]
   have e:(s==g)=false:=by simpa using hsg
   simp[e,jc,kz]
end Go.Ev.M
