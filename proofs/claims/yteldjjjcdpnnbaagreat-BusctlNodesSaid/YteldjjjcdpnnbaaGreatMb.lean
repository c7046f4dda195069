/-
  PROVED: what functions of the packages member and metronomeref09 compute. Conditions: none.
-/
import Derived.Test.YteldjjjcdpnnbaaGreatTy
import Derived.Test.YteldjjjcdpnnbaaGreatEvC
import Derived.Test.YteldjjjcdpnnbaaGreatPl
namespace Go.Ev.M
open Go.Proofs
set_option maxRecDepth 100000
set_option linter.unusedVariables false
set_option linter.unusedSimpArgs false
theorem O9{n:Int}(h0:0≤n)(h1:n≤8):ai.b .shl .i64 1 n=((2^n.toNat:Nat):Int):=by
 have:n=0∨n=1∨n=2∨n=3∨n=4∨n=5∨n=6∨n=7∨n=8:=by omega
 rcases this with rfl|rfl|rfl|rfl|rfl|rfl|rfl|rfl|rfl<;>decide
theorem Dv{n:Nat}(h:n≤8):2^n≤256:=Nat.pow_le_pow_right (by decide) h
def qM(c a:Int):Bool:=c.toNat.testBit a.toNat
theorem CU:∀c:Fin 256,∀a:Fin 8,(ai.b .and .i64 (ai.b .shr .i64 (c.val:Int) (a.val:Int)) 1==0)=!(c.val.testBit a.val):=by decide +kernel
theorem Fv:∀c:Fin 256,∀a:Fin 8,(ai.b .and .i64 (c.val:Int) (ai.b .shl .i64 1 (a.val:Int))==0)=!(c.val.testBit a.val):=by decide +kernel
theorem IV{c a:Int}(h0:0≤c)(h1:c<256)(h2:0≤a)(h3:a<8):ai.b .and .i64 (ai.b .shr .i64 c a) 1=0↔qM c a=false:=by
 obtain⟨c,rfl⟩:=Int.eq_ofNat_of_zero_le h0
 obtain⟨a,rfl⟩:=Int.eq_ofNat_of_zero_le h2
 have:=CU ⟨c,by omega⟩ ⟨a,by omega⟩
 simp only at this
 rw[←beq_iff_eq,this]
 simp[qM]
theorem Ip{c a:Int}(h0:0≤c)(h1:c<256)(h2:0≤a)(h3:a<8):ai.b .and .i64 c (ai.b .shl .i64 1 a)=0↔qM c a=false:=by
 obtain⟨c,rfl⟩:=Int.eq_ofNat_of_zero_le h0
 obtain⟨a,rfl⟩:=Int.eq_ofNat_of_zero_le h2
 have:=Fv ⟨c,by omega⟩ ⟨a,by omega⟩
 simp only at this
 rw[←beq_iff_eq,this]
 simp[qM]
def NG(a b c d e f g:Int):Prop:=4≤b∧b≤8∧0≤a∧a<b∧0≤g∧g<b∧0≤c∧c<((2^b.toNat:Nat):Int)∧0≤d∧d≤1048576∧0≤e∧e≤1048576∧0≤f∧f≤2∧(f≠0→qM c a=true)∧(f=2→g≠a)
def Sb(A:bg)(n:Int)(most:Int):LT Bool Empty:=.br (A.c .geq n 0) (.ret (A.c .leq n most)) (.ret false)
def vZ:(Int×Int)→Bool:=fun(n,most)=>(Sb ai n most).val (Ty.da [.bool])
def UX:aB:=⟨[yI,yI], [.bool],(@tt (Int×Int)),vZ⟩
theorem VG:Sd 152 UX:=aJ ar cO true 21 [] (fun A (n,most)=>Sb A n most) (fc Tryz.func152 fz) sz (fun((n,most):Int×Int) hp h=>by
 show(Sb ai n most).pre=true
 simp only[Sb,LT.pre,jI,aR,aX,al,aF,aD,aK,aQ,c_,iI,ap,dn,bH,bL,dF,dI,Bool.and_eq_true,Bool.or_eq_true,Bool.and_eq_false_iff,Bool.or_eq_false_iff,Bool.not_eq_true',Bool.not_eq_false',decide_eq_true_eq,decide_eq_false_iff_not,bne_iff_ne,beq_iff_eq,bne_eq_false_iff_eq,beq_eq_false_iff_ne]
 simp only[Ty.dH,Ty.has,As,J2] at h
 (repeat' (first|intro _|constructor))<;>(try omega))
theorem AO{n m:Int}:vZ (n,m)=(decide (0≤n)&&decide (n≤m)):=by
 simp only[vZ,Sb,LT.val,aK,aF]
 cases decide (0≤n)<;>rfl
def t34(A:bg)(mId:Int)(mN:Int)(mSet:Int)(mAcc:Int)(mFail:Int)(mStage:Int)(mFirst:Int):LT Int Empty:=.br (A.c .lss mN 4) (.ret 90) (.br (A.c .gtr mN 8) (.ret 90) (.need (A.k (@tt (Int×Int)) (mId,(A.b .sub .i64 mN 1))) (.br (A.not (A.k vZ (mId,(A.b .sub .i64 mN 1)))) (.ret 90) (.need (A.k (@tt (Int×Int)) (mFirst,(A.b .sub .i64 mN 1))) (.br (A.not (A.k vZ (mFirst,(A.b .sub .i64 mN 1)))) (.ret 90) (.need (A.k (@tt (Int×Int)) (mAcc,1048576)) (.br (A.not (A.k vZ (mAcc,1048576))) (.ret 90) (.need (A.k (@tt (Int×Int)) (mFail,1048576)) (.br (A.not (A.k vZ (mFail,1048576))) (.ret 90) (.need (A.k (@tt (Int×Int)) (mStage,2)) (.br (A.not (A.k vZ (mStage,2))) (.ret 90) (.need (A.c .leq 0 mN) (.need (A.k (@tt (Int×Int)) (mSet,(A.b .sub .i64 (A.b .shl .i64 1 mN) 1))) (.br (A.not (A.k vZ (mSet,(A.b .sub .i64 (A.b .shl .i64 1 mN) 1)))) (.ret 90) (.br (A.c .neq mStage 0) (.need (A.c .leq 0 mId) (.br (A.c .eql (A.b .and .i64 (A.b .shr .i64 mSet mId) 1) 0) (.ret 90) (.br (A.c .eql mStage 2) (.br (A.c .eql mFirst mId) (.ret 90) (.ret 0)) (.ret 0)))) (.br (A.c .eql mStage 2) (.br (A.c .eql mFirst mId) (.ret 90) (.ret 0)) (.ret 0)))))))))))))))))
def za:((Int×Int×Int×Int×Int×Int×Int))→Int:=fun(mId,mN,mSet,mAcc,mFail,mStage,mFirst)=>(t34 ai mId mN mSet mAcc mFail mStage mFirst).val (Ty.da [yI])
def Vg:aB:=⟨[(.struct [yI,yI,yI,yI,yI,yI,yI])], [yI],(@tt ((Int×Int×Int×Int×Int×Int×Int))),za⟩
theorem U1:Sd 69 Vg:=aJ ar cO true 123 [] (fun A (mId,mN,mSet,mAcc,mFail,mStage,mFirst)=>t34 A mId mN mSet mAcc mFail mStage mFirst) (fc Tryz.func69 fz) (sc VG sz) (fun((mId,mN,mSet,mAcc,mFail,mStage,mFirst):(Int×Int×Int×Int×Int×Int×Int)) hp h=>by
 show(t34 ai mId mN mSet mAcc mFail mStage mFirst).pre=true
 simp only[t34,LT.pre,jI,aR,aX,al,aF,aD,aK,aQ,c_,iI,ap,dn,bH,bL,dF,dI,Bool.and_eq_true,Bool.or_eq_true,Bool.and_eq_false_iff,Bool.or_eq_false_iff,Bool.not_eq_true',Bool.not_eq_false',decide_eq_true_eq,decide_eq_false_iff_not,bne_iff_ne,beq_iff_eq,bne_eq_false_iff_eq,beq_eq_false_iff_ne,AO]
 simp only[Ty.dH,Ty.has,As,J2] at h
 (repeat' (first|intro _|constructor))<;>(try omega))
theorem zk{x:Int×Int×Int×Int×Int×Int×Int}:za x=0∨za x=90:=by
 obtain⟨a,b,c,d,e,f,g⟩:=x
 exact LT.ki (p:=fun y=>y=0∨y=90) (.inl rfl) (by simp[t34,LT.all])
theorem BM{a b c d e f g:Int}:za (a,b,c,d,e,f,g)=0↔NG a b c d e f g:=by
 simp only[za,t34,LT.val,tf,aR,aX,al,aF,aD,aK,aQ,c_,iI,ap,dn,bH,bL,dF,dI,Bool.and_eq_true,Bool.or_eq_true,Bool.and_eq_false_iff,Bool.or_eq_false_iff,Bool.not_eq_true',Bool.not_eq_false',decide_eq_true_eq,decide_eq_false_iff_not,bne_iff_ne,beq_iff_eq,bne_eq_false_iff_eq,beq_eq_false_iff_ne,AO]
 simp
 unfold NG
 by_cases hb:4≤b∧b≤8
 ·rw[gh (by omega) (by omega),O9 (by omega) hb.2]
  have hp:=Dv (n:=b.toNat) (by omega)
  have hp1:1≤2^b.toNat:=Nat.one_le_two_pow
  rw[gh (by omega) (by omega)]
  by_cases hc:0≤c∧c<256∧0≤a∧a<8
  ·have h:=IV hc.1 hc.2.1 hc.2.2.1 hc.2.2.2
   rw[h]
   cases qM c a<;>simp<;>omega
  ·constructor
   ·intro h;exfalso;omega
   ·intro h;exfalso;omega
 ·constructor
  ·intro h;exfalso;omega
  ·intro h;exfalso;omega
def t80(A:bg)(n:Int):LT Int Empty:=.need (A.c .leq 0 (A.v .u64 n)) (.ret (A.b .shl .i64 1 (A.v .u64 n)))
def ED:Int→Int:=fun n=>(t80 ai n).val (Ty.da [yI])
def TC:aB:=⟨[yI], [yI],(@tt Int),ED⟩
theorem UO:Sd 176 TC:=aJ ar cO true 17 [] (fun A n=>t80 A n) (fc Tryz.func176 fz) sz (fun(n:Int) hp h=>by
 show(t80 ai n).pre=true
 simp only[t80,LT.pre,jI,aR,aX,al,aF,aD,aK,aQ,c_,iI,ap,dn,bH,bL,dF,dI,Bool.and_eq_true,Bool.or_eq_true,Bool.and_eq_false_iff,Bool.or_eq_false_iff,Bool.not_eq_true',Bool.not_eq_false',decide_eq_true_eq,decide_eq_false_iff_not,bne_iff_ne,beq_iff_eq,bne_eq_false_iff_eq,beq_eq_false_iff_ne]
 simp only[Ty.dH,Ty.has,As] at h
 have:=dU .u64 n
 exact⟨this.1,trivial⟩)
theorem zH{n:Int}(h0:0≤n)(h1:n≤8):ED n=((2^n.toNat:Nat):Int):=by
 have:n=0∨n=1∨n=2∨n=3∨n=4∨n=5∨n=6∨n=7∨n=8:=by omega
 rcases this with rfl|rfl|rfl|rfl|rfl|rfl|rfl|rfl|rfl<;>decide
theorem Cs{n:Int}(h0:0≤n)(h1:n≤8):ED n=ai.b .shl .i64 1 n:=by rw[zH h0 h1,O9 h0 h1]
def t35(A:bg)(mId:Int)(mN:Int)(mSet:Int)(mAcc:Int)(mFail:Int)(mStage:Int)(mFirst:Int):LT Int Empty:=.br (A.c .lss mN 4) (.ret 90) (.br (A.c .gtr mN 8) (.ret 90) (.br (A.c .lss mId 0) (.ret 90) (.br (A.c .geq mId mN) (.ret 90) (.br (A.c .lss mFirst 0) (.ret 90) (.br (A.c .geq mFirst mN) (.ret 90) (.br (A.c .lss mSet 0) (.ret 90) (.need (A.k (@tt Int) mN) (.br (A.c .geq mSet (A.k ED mN)) (.ret 90) (.br (A.c .lss mAcc 0) (.ret 90) (.br (A.c .gtr mAcc 1048576) (.ret 90) (.br (A.c .lss mFail 0) (.ret 90) (.br (A.c .gtr mFail 1048576) (.ret 90) (.br (A.c .lss mStage 0) (.ret 90) (.br (A.c .gtr mStage 2) (.ret 90) (.br (A.c .neq mStage 0) (.need (A.k (@tt Int) mId) (.br (A.c .eql (A.b .and .i64 mSet (A.k ED mId)) 0) (.ret 90) (.br (A.c .eql mStage 2) (.br (A.c .eql mFirst mId) (.ret 90) (.ret 0)) (.ret 0)))) (.br (A.c .eql mStage 2) (.br (A.c .eql mFirst mId) (.ret 90) (.ret 0)) (.ret 0)))))))))))))))))
def uA:((Int×Int×Int×Int×Int×Int×Int))→Int:=fun(mId,mN,mSet,mAcc,mFail,mStage,mFirst)=>(t35 ai mId mN mSet mAcc mFail mStage mFirst).val (Ty.da [yI])
def Tk:aB:=⟨[(.struct [yI,yI,yI,yI,yI,yI,yI])], [yI],(@tt ((Int×Int×Int×Int×Int×Int×Int))),uA⟩
theorem Ti:Sd 154 Tk:=aJ ar cO true 130 [] (fun A (mId,mN,mSet,mAcc,mFail,mStage,mFirst)=>t35 A mId mN mSet mAcc mFail mStage mFirst) (fc Tryz.func154 fz) (sc UO sz) (fun((mId,mN,mSet,mAcc,mFail,mStage,mFirst):(Int×Int×Int×Int×Int×Int×Int)) hp h=>by
 show(t35 ai mId mN mSet mAcc mFail mStage mFirst).pre=true
 simp only[t35,LT.pre,jI,aR,aX,al,aF,aD,aK,aQ,c_,iI,ap,dn,bH,bL,dF,dI,Bool.and_eq_true,Bool.or_eq_true,Bool.and_eq_false_iff,Bool.or_eq_false_iff,Bool.not_eq_true',Bool.not_eq_false',decide_eq_true_eq,decide_eq_false_iff_not,bne_iff_ne,beq_iff_eq,bne_eq_false_iff_eq,beq_eq_false_iff_ne]
 simp only[Ty.dH,Ty.has,As,J2] at h
 (repeat' (first|intro _|constructor))<;>(try omega))
theorem zn{x:Int×Int×Int×Int×Int×Int×Int}:uA x=0∨uA x=90:=by
 obtain⟨a,b,c,d,e,f,g⟩:=x
 exact LT.ki (p:=fun y=>y=0∨y=90) (.inl rfl) (by simp[t35,LT.all])
theorem Bt{a b c d e f g:Int}:uA (a,b,c,d,e,f,g)=0↔NG a b c d e f g:=by
 simp only[uA,t35,LT.val,tf,aR,aX,al,aF,aD,aK,aQ,c_,iI,ap,dn,bH,bL,dF,dI,Bool.and_eq_true,Bool.or_eq_true,Bool.and_eq_false_iff,Bool.or_eq_false_iff,Bool.not_eq_true',Bool.not_eq_false',decide_eq_true_eq,decide_eq_false_iff_not,bne_iff_ne,beq_iff_eq,bne_eq_false_iff_eq,beq_eq_false_iff_ne]
 simp
 unfold NG
 by_cases hb:4≤b∧b≤8∧0≤a∧a<b
 ·rw[zH (by omega) hb.2.1,Cs (n:=a) (by omega) (by omega)]
  have hp:=Dv (n:=b.toNat) (by omega)
  by_cases hc:0≤c∧c<256
  ·have h:=Ip (a:=a) hc.1 hc.2 (by omega) (by omega)
   rw[h]
   cases qM c a<;>simp<;>omega
  ·constructor
   ·intro h;exfalso;omega
   ·intro h;exfalso;omega
 ·constructor
  ·intro h;exfalso;omega
  ·intro h;exfalso;omega
theorem Wm{x:Int×Int×Int×Int×Int×Int×Int}:za x=uA x:=by
 have h1:=zk (x:=x)
 have h2:=zn (x:=x)
 obtain⟨a,b,c,d,e,f,g⟩:=x
 have h3:=BM (a:=a) (b:=b) (c:=c) (d:=d) (e:=e) (f:=f) (g:=g)
 have h4:=Bt (a:=a) (b:=b) (c:=c) (d:=d) (e:=e) (f:=f) (g:=g)
 by_cases h:NG a b c d e f g
 ·rw[h3.2 h,h4.2 h]
 ·have:=mt h3.1 h;have:=mt h4.1 h;omega
section
variable {a b c d e f g s:Int}
end
end Go.Ev.M
