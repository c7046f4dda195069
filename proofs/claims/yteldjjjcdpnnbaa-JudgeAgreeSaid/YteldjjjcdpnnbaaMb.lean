/-
  PROVED: what functions of the packages member and metronomeref09 compute. Conditions: none.
-/
import Derived.Test.YteldjjjcdpnnbaaTy
import Derived.Test.YteldjjjcdpnnbaaEvC
import Derived.Test.YteldjjjcdpnnbaaPl
namespace Go.Ev.M
open Go.Proofs
set_option maxRecDepth 100000
set_option linter.unusedVariables false
set_option linter.unusedSimpArgs false
theorem IJ{n:Int}(h0:0≤n)(h1:n≤8):ai.b .shl .i64 1 n=((2^n.toNat:Nat):Int):=by
 have:n=0∨n=1∨n=2∨n=3∨n=4∨n=5∨n=6∨n=7∨n=8:=by omega
 rcases this with rfl|rfl|rfl|rfl|rfl|rfl|rfl|rfl|rfl<;>decide
theorem Bo{n:Nat}(h:n≤8):2^n≤256:=Nat.pow_le_pow_right (by decide) h
def xH(c a:Int):Bool:=c.toNat.testBit a.toNat
def ng(c s:Int):Int:=ai.b .or .i64 c (ai.b .shl .i64 1 s)
def Cc(c s:Int):Int:=ai.b .andNot .i64 c (ai.b .shl .i64 1 s)
theorem BL:∀c:Fin 256,∀a:Fin 8,(ai.b .and .i64 (ai.b .shr .i64 (c.val:Int) (a.val:Int)) 1==0)=!(c.val.testBit a.val):=by decide +kernel
theorem Br:∀c:Fin 256,∀a:Fin 8,(ai.b .and .i64 (c.val:Int) (ai.b .shl .i64 1 (a.val:Int))==0)=!(c.val.testBit a.val):=by decide +kernel
theorem Ig{c a:Int}(h0:0≤c)(h1:c<256)(h2:0≤a)(h3:a<8):ai.b .and .i64 (ai.b .shr .i64 c a) 1=0↔xH c a=false:=by
 obtain⟨c,rfl⟩:=Int.eq_ofNat_of_zero_le h0
 obtain⟨a,rfl⟩:=Int.eq_ofNat_of_zero_le h2
 have:=BL ⟨c,by omega⟩ ⟨a,by omega⟩
 simp only at this
 rw[←beq_iff_eq,this]
 simp[xH]
theorem JL{c a:Int}(h0:0≤c)(h1:c<256)(h2:0≤a)(h3:a<8):ai.b .and .i64 c (ai.b .shl .i64 1 a)=0↔xH c a=false:=by
 obtain⟨c,rfl⟩:=Int.eq_ofNat_of_zero_le h0
 obtain⟨a,rfl⟩:=Int.eq_ofNat_of_zero_le h2
 have:=Br ⟨c,by omega⟩ ⟨a,by omega⟩
 simp only at this
 rw[←beq_iff_eq,this]
 simp[xH]
def DR(a b c d e f g:Int):Prop:=4≤b∧b≤8∧0≤a∧a<b∧0≤g∧g<b∧0≤c∧c<((2^b.toNat:Nat):Int)∧0≤d∧d≤1048576∧0≤e∧e≤1048576∧0≤f∧f≤2∧(f≠0→xH c a=true)∧(f=2→g≠a)
def Iy(A:cH)(n:Int)(most:Int):LT Bool Empty:=.br (A.c .geq n 0) (.ret (A.c .leq n most)) (.ret false)
def ta:(Int×Int)→Bool:=fun(n,most)=>(Iy ai n most).val (Ty.dC [.bool])
def M4:aH:=⟨[yI,yI], [.bool],(@tt (Int×Int)),ta⟩
theorem Im:Sd 31 M4:=aV aJ iC true 21 [] (fun A (n,most)=>Iy A n most) (fc Try.func31 fz) sz (fun((n,most):Int×Int) hp h=>by
 show(Iy ai n most).pre=true
 simp only[Iy,LT.pre,ff,aM,aI,al,ax,au,ay,aD,bM,fv,ap,cu,bC,aZ,bX,fo,Bool.and_eq_true,Bool.or_eq_true,Bool.and_eq_false_iff,Bool.or_eq_false_iff,Bool.not_eq_true',Bool.not_eq_false',decide_eq_true_eq,decide_eq_false_iff_not,bne_iff_ne,beq_iff_eq,bne_eq_false_iff_eq,beq_eq_false_iff_ne]
 simp only[Ty.cr,Ty.has,pu,xm] at h
 (repeat' (first|intro _|constructor))<;>(try omega))
theorem uS{n m:Int}:ta (n,m)=(decide (0≤n)&&decide (n≤m)):=by
 simp only[ta,Iy,LT.val,ay,ax]
 cases decide (0≤n)<;>rfl
def t34(A:cH)(mId:Int)(mN:Int)(mSet:Int)(mAcc:Int)(mFail:Int)(mStage:Int)(mFirst:Int):LT Int Empty:=.br (A.c .lss mN 4) (.ret 90) (.br (A.c .gtr mN 8) (.ret 90) (.need (A.k (@tt (Int×Int)) (mId,(A.b .sub .i64 mN 1))) (.br (A.not (A.k ta (mId,(A.b .sub .i64 mN 1)))) (.ret 90) (.need (A.k (@tt (Int×Int)) (mFirst,(A.b .sub .i64 mN 1))) (.br (A.not (A.k ta (mFirst,(A.b .sub .i64 mN 1)))) (.ret 90) (.need (A.k (@tt (Int×Int)) (mAcc,1048576)) (.br (A.not (A.k ta (mAcc,1048576))) (.ret 90) (.need (A.k (@tt (Int×Int)) (mFail,1048576)) (.br (A.not (A.k ta (mFail,1048576))) (.ret 90) (.need (A.k (@tt (Int×Int)) (mStage,2)) (.br (A.not (A.k ta (mStage,2))) (.ret 90) (.need (A.c .leq 0 mN) (.need (A.k (@tt (Int×Int)) (mSet,(A.b .sub .i64 (A.b .shl .i64 1 mN) 1))) (.br (A.not (A.k ta (mSet,(A.b .sub .i64 (A.b .shl .i64 1 mN) 1)))) (.ret 90) (.br (A.c .neq mStage 0) (.need (A.c .leq 0 mId) (.br (A.c .eql (A.b .and .i64 (A.b .shr .i64 mSet mId) 1) 0) (.ret 90) (.br (A.c .eql mStage 2) (.br (A.c .eql mFirst mId) (.ret 90) (.ret 0)) (.ret 0)))) (.br (A.c .eql mStage 2) (.br (A.c .eql mFirst mId) (.ret 90) (.ret 0)) (.ret 0)))))))))))))))))
def jo:((Int×Int×Int×Int×Int×Int×Int))→Int:=fun(mId,mN,mSet,mAcc,mFail,mStage,mFirst)=>(t34 ai mId mN mSet mAcc mFail mStage mFirst).val (Ty.dC [yI])
def Ky:aH:=⟨[(.struct [yI,yI,yI,yI,yI,yI,yI])], [yI],(@tt ((Int×Int×Int×Int×Int×Int×Int))),jo⟩
theorem JI:Sd 20 Ky:=aV aJ iC true 123 [] (fun A (mId,mN,mSet,mAcc,mFail,mStage,mFirst)=>t34 A mId mN mSet mAcc mFail mStage mFirst) (fc Try.func20 fz) (sc Im sz) (fun((mId,mN,mSet,mAcc,mFail,mStage,mFirst):(Int×Int×Int×Int×Int×Int×Int)) hp h=>by
 show(t34 ai mId mN mSet mAcc mFail mStage mFirst).pre=true
 simp only[t34,LT.pre,ff,aM,aI,al,ax,au,ay,aD,bM,fv,ap,cu,bC,aZ,bX,fo,Bool.and_eq_true,Bool.or_eq_true,Bool.and_eq_false_iff,Bool.or_eq_false_iff,Bool.not_eq_true',Bool.not_eq_false',decide_eq_true_eq,decide_eq_false_iff_not,bne_iff_ne,beq_iff_eq,bne_eq_false_iff_eq,beq_eq_false_iff_ne,uS]
 simp only[Ty.cr,Ty.has,pu,xm] at h
 (repeat' (first|intro _|constructor))<;>(try omega))
theorem xN{x:Int×Int×Int×Int×Int×Int×Int}:jo x=0∨jo x=90:=by
 obtain⟨a,b,c,d,e,f,g⟩:=x
 exact LT.g_ (p:=fun y=>y=0∨y=90) (.inl rfl) (by simp[t34,LT.all])
theorem uB{a b c d e f g:Int}:jo (a,b,c,d,e,f,g)=0↔DR a b c d e f g:=by
 simp only[jo,t34,LT.val,mm,aM,aI,al,ax,au,ay,aD,bM,fv,ap,cu,bC,aZ,bX,fo,Bool.and_eq_true,Bool.or_eq_true,Bool.and_eq_false_iff,Bool.or_eq_false_iff,Bool.not_eq_true',Bool.not_eq_false',decide_eq_true_eq,decide_eq_false_iff_not,bne_iff_ne,beq_iff_eq,bne_eq_false_iff_eq,beq_eq_false_iff_ne,uS]
 simp
 unfold DR
 by_cases hb:4≤b∧b≤8
 ·rw[ji (by omega) (by omega),IJ (by omega) hb.2]
  have hp:=Bo (n:=b.toNat) (by omega)
  have hp1:1≤2^b.toNat:=Nat.one_le_two_pow
  rw[ji (by omega) (by omega)]
  by_cases hc:0≤c∧c<256∧0≤a∧a<8
  ·have h:=Ig hc.1 hc.2.1 hc.2.2.1 hc.2.2.2
   rw[h]
   cases xH c a<;>simp<;>omega
  ·constructor
   ·intro h;exfalso;omega
   ·intro h;exfalso;omega
 ·constructor
  ·intro h;exfalso;omega
  ·intro h;exfalso;omega
def t80(A:cH)(n:Int):LT Int Empty:=.need (A.c .leq 0 (A.v .u64 n)) (.ret (A.b .shl .i64 1 (A.v .u64 n)))
def gM:Int→Int:=fun n=>(t80 ai n).val (Ty.dC [yI])
def MI:aH:=⟨[yI], [yI],(@tt Int),gM⟩
theorem Ii:Sd 18 MI:=aV aJ iC true 17 [] (fun A n=>t80 A n) (fc Try.func18 fz) sz (fun(n:Int) hp h=>by
 show(t80 ai n).pre=true
 simp only[t80,LT.pre,ff,aM,aI,al,ax,au,ay,aD,bM,fv,ap,cu,bC,aZ,bX,fo,Bool.and_eq_true,Bool.or_eq_true,Bool.and_eq_false_iff,Bool.or_eq_false_iff,Bool.not_eq_true',Bool.not_eq_false',decide_eq_true_eq,decide_eq_false_iff_not,bne_iff_ne,beq_iff_eq,bne_eq_false_iff_eq,beq_eq_false_iff_ne]
 simp only[Ty.cr,Ty.has,pu] at h
 have:=dD .u64 n
 exact⟨this.1,trivial⟩)
theorem y5{n:Int}(h0:0≤n)(h1:n≤8):gM n=((2^n.toNat:Nat):Int):=by
 have:n=0∨n=1∨n=2∨n=3∨n=4∨n=5∨n=6∨n=7∨n=8:=by omega
 rcases this with rfl|rfl|rfl|rfl|rfl|rfl|rfl|rfl|rfl<;>decide
theorem m_{n:Int}(h0:0≤n)(h1:n≤8):gM n=ai.b .shl .i64 1 n:=by rw[y5 h0 h1,IJ h0 h1]
def t35(A:cH)(mId:Int)(mN:Int)(mSet:Int)(mAcc:Int)(mFail:Int)(mStage:Int)(mFirst:Int):LT Int Empty:=.br (A.c .lss mN 4) (.ret 90) (.br (A.c .gtr mN 8) (.ret 90) (.br (A.c .lss mId 0) (.ret 90) (.br (A.c .geq mId mN) (.ret 90) (.br (A.c .lss mFirst 0) (.ret 90) (.br (A.c .geq mFirst mN) (.ret 90) (.br (A.c .lss mSet 0) (.ret 90) (.need (A.k (@tt Int) mN) (.br (A.c .geq mSet (A.k gM mN)) (.ret 90) (.br (A.c .lss mAcc 0) (.ret 90) (.br (A.c .gtr mAcc 1048576) (.ret 90) (.br (A.c .lss mFail 0) (.ret 90) (.br (A.c .gtr mFail 1048576) (.ret 90) (.br (A.c .lss mStage 0) (.ret 90) (.br (A.c .gtr mStage 2) (.ret 90) (.br (A.c .neq mStage 0) (.need (A.k (@tt Int) mId) (.br (A.c .eql (A.b .and .i64 mSet (A.k gM mId)) 0) (.ret 90) (.br (A.c .eql mStage 2) (.br (A.c .eql mFirst mId) (.ret 90) (.ret 0)) (.ret 0)))) (.br (A.c .eql mStage 2) (.br (A.c .eql mFirst mId) (.ret 90) (.ret 0)) (.ret 0)))))))))))))))))
def su:((Int×Int×Int×Int×Int×Int×Int))→Int:=fun(mId,mN,mSet,mAcc,mFail,mStage,mFirst)=>(t35 ai mId mN mSet mAcc mFail mStage mFirst).val (Ty.dC [yI])
def K6:aH:=⟨[(.struct [yI,yI,yI,yI,yI,yI,yI])], [yI],(@tt ((Int×Int×Int×Int×Int×Int×Int))),su⟩
theorem Gj:Sd 6 K6:=aV aJ iC true 130 [] (fun A (mId,mN,mSet,mAcc,mFail,mStage,mFirst)=>t35 A mId mN mSet mAcc mFail mStage mFirst) (fc Try.func6 fz) (sc Ii sz) (fun((mId,mN,mSet,mAcc,mFail,mStage,mFirst):(Int×Int×Int×Int×Int×Int×Int)) hp h=>by
 show(t35 ai mId mN mSet mAcc mFail mStage mFirst).pre=true
 simp only[t35,LT.pre,ff,aM,aI,al,ax,au,ay,aD,bM,fv,ap,cu,bC,aZ,bX,fo,Bool.and_eq_true,Bool.or_eq_true,Bool.and_eq_false_iff,Bool.or_eq_false_iff,Bool.not_eq_true',Bool.not_eq_false',decide_eq_true_eq,decide_eq_false_iff_not,bne_iff_ne,beq_iff_eq,bne_eq_false_iff_eq,beq_eq_false_iff_ne]
 simp only[Ty.cr,Ty.has,pu,xm] at h
 (repeat' (first|intro _|constructor))<;>(try omega))
theorem yF{x:Int×Int×Int×Int×Int×Int×Int}:su x=0∨su x=90:=by
 obtain⟨a,b,c,d,e,f,g⟩:=x
 exact LT.g_ (p:=fun y=>y=0∨y=90) (.inl rfl) (by simp[t35,LT.all])
theorem jm{a b c d e f g:Int}:su (a,b,c,d,e,f,g)=0↔DR a b c d e f g:=by
 simp only[su,t35,LT.val,mm,aM,aI,al,ax,au,ay,aD,bM,fv,ap,cu,bC,aZ,bX,fo,Bool.and_eq_true,Bool.or_eq_true,Bool.and_eq_false_iff,Bool.or_eq_false_iff,Bool.not_eq_true',Bool.not_eq_false',decide_eq_true_eq,decide_eq_false_iff_not,bne_iff_ne,beq_iff_eq,bne_eq_false_iff_eq,beq_eq_false_iff_ne]
 simp
 unfold DR
 by_cases hb:4≤b∧b≤8∧0≤a∧a<b
 ·rw[y5 (by omega) hb.2.1,m_ (n:=a) (by omega) (by omega)]
  have hp:=Bo (n:=b.toNat) (by omega)
  by_cases hc:0≤c∧c<256
  ·have h:=JL (a:=a) hc.1 hc.2 (by omega) (by omega)
   rw[h]
   cases xH c a<;>simp<;>omega
  ·constructor
   ·intro h;exfalso;omega
   ·intro h;exfalso;omega
 ·constructor
  ·intro h;exfalso;omega
  ·intro h;exfalso;omega
theorem O2{x:Int×Int×Int×Int×Int×Int×Int}:jo x=su x:=by
 have h1:=xN (x:=x)
 have h2:=yF (x:=x)
 obtain⟨a,b,c,d,e,f,g⟩:=x
 have h3:=uB (a:=a) (b:=b) (c:=c) (d:=d) (e:=e) (f:=f) (g:=g)
 have h4:=jm (a:=a) (b:=b) (c:=c) (d:=d) (e:=e) (f:=f) (g:=g)
 by_cases h:DR a b c d e f g
 ·rw[h3.2 h,h4.2 h]
 ·have:=mt h3.1 h;have:=mt h4.1 h;omega
def t32(A:cH)(id:Int)(n:Int)(set1:Int):LT ((Int×Int×Int×Int×Int×Int×Int)×Int) Empty:=.need (A.k (@tt ((Int×Int×Int×Int×Int×Int×Int))) (id,n,set1,0,0,0,0)) (.br (A.c .neq (A.k su (id,n,set1,0,0,0,0)) 0) (.ret ((0,0,0,0,0,0,0),90)) (.ret ((id,n,set1,0,0,0,0),0)))
def wA:(Int×Int×Int)→((Int×Int×Int×Int×Int×Int×Int)×Int):=fun(id,n,set1)=>(t32 ai id n set1).val (Ty.dC [(.struct [yI,yI,yI,yI,yI,yI,yI]),yI])
def KE:aH:=⟨[yI,yI,yI], [(.struct [yI,yI,yI,yI,yI,yI,yI]),yI],(@tt (Int×Int×Int)),wA⟩
theorem LA:Sd 17 KE:=aV aJ iC true 35 [] (fun A (id,n,set1)=>t32 A id n set1) (fc Try.func17 fz) (sc Gj sz) (fun((id,n,set1):Int×Int×Int) hp h=>by
 show(t32 ai id n set1).pre=true
 simp only[t32,LT.pre,ff,aM,aI,al,ax,au,ay,aD,bM,fv,ap,cu,bC,aZ,bX,fo,Bool.and_eq_true,Bool.or_eq_true,Bool.and_eq_false_iff,Bool.or_eq_false_iff,Bool.not_eq_true',Bool.not_eq_false',decide_eq_true_eq,decide_eq_false_iff_not,bne_iff_ne,beq_iff_eq,bne_eq_false_iff_eq,beq_eq_false_iff_ne]
 simp only[Ty.cr,Ty.has,pu,xm] at h
 (repeat' (first|intro _|constructor))<;>(try omega))
def t77(A:cH)(mId:Int)(mN:Int)(mSet:Int)(mAcc:Int)(mFail:Int)(mStage:Int)(mFirst:Int)(node:Int):LT Bool Empty:=.need (A.k (@tt (Int×Int)) (node,(A.b .sub .i64 mN 1))) (.br (A.k ta (node,(A.b .sub .i64 mN 1))) (.ret (A.c .neq node mId)) (.ret false))
def sV:((Int×Int×Int×Int×Int×Int×Int)×Int)→Bool:=fun((mId,mN,mSet,mAcc,mFail,mStage,mFirst),node)=>(t77 ai mId mN mSet mAcc mFail mStage mFirst node).val (Ty.dC [.bool])
def Ls:aH:=⟨[(.struct [yI,yI,yI,yI,yI,yI,yI]),yI], [.bool],(@tt ((Int×Int×Int×Int×Int×Int×Int)×Int)),sV⟩
theorem Jm:Sd 34 Ls:=aV aJ iC true 26 [] (fun A ((mId,mN,mSet,mAcc,mFail,mStage,mFirst),node)=>t77 A mId mN mSet mAcc mFail mStage mFirst node) (fc Try.func34 fz) (sc Im sz) (fun(((mId,mN,mSet,mAcc,mFail,mStage,mFirst),node):(Int×Int×Int×Int×Int×Int×Int)×Int) hp h=>by
 show(t77 ai mId mN mSet mAcc mFail mStage mFirst node).pre=true
 simp only[t77,LT.pre,ff,aM,aI,al,ax,au,ay,aD,bM,fv,ap,cu,bC,aZ,bX,fo,Bool.and_eq_true,Bool.or_eq_true,Bool.and_eq_false_iff,Bool.or_eq_false_iff,Bool.not_eq_true',Bool.not_eq_false',decide_eq_true_eq,decide_eq_false_iff_not,bne_iff_ne,beq_iff_eq,bne_eq_false_iff_eq,beq_eq_false_iff_ne]
 simp only[Ty.cr,Ty.has,pu,xm] at h
 (repeat' (first|intro _|constructor))<;>(try omega))
def t78(A:cH)(mId:Int)(mN:Int)(mSet:Int)(mAcc:Int)(mFail:Int)(mStage:Int)(mFirst:Int)(sender:Int):LT (List Int×Int) Empty:=.need (A.c .leq 0 mId) (.need (A.c .leq 0 mFirst) (.need (A.c .leq 0 sender) (.br (A.c .eql mStage 0) (.ret ([(A.b .or .i64 mSet (A.b .shl .i64 1 sender)),0],1)) (.br (A.c .eql mStage 1) (.ret ([(A.b .or .i64 (A.b .or .i64 mSet (A.b .shl .i64 1 sender)) (A.b .shl .i64 1 mId)),(A.b .andNot .i64 (A.b .or .i64 mSet (A.b .shl .i64 1 sender)) (A.b .shl .i64 1 mId))],2)) (.br (A.c .eql sender mFirst) (.ret ([(A.b .or .i64 (A.b .or .i64 mSet (A.b .shl .i64 1 sender)) (A.b .shl .i64 1 mId)),0],1)) (.ret ([(A.b .andNot .i64 (A.b .or .i64 (A.b .or .i64 mSet (A.b .shl .i64 1 sender)) (A.b .shl .i64 1 mId)) (A.b .shl .i64 1 mFirst)),(A.b .andNot .i64 (A.b .or .i64 (A.b .or .i64 mSet (A.b .shl .i64 1 sender)) (A.b .shl .i64 1 mFirst)) (A.b .shl .i64 1 mId))],2)))))))
def bq:((Int×Int×Int×Int×Int×Int×Int)×Int)→(List Int×Int):=fun((mId,mN,mSet,mAcc,mFail,mStage,mFirst),sender)=>(t78 ai mId mN mSet mAcc mFail mStage mFirst sender).val (Ty.dC [(.arr 2 yI),yI])
def pE:((Int×Int×Int×Int×Int×Int×Int)×Int)→Bool:=fun((a,b,c,d,e,f,g),s)=>decide (0≤a)&&(decide (0≤g)&&decide (0≤s))
def L8:aH:=⟨[(.struct [yI,yI,yI,yI,yI,yI,yI]),yI], [(.arr 2 yI),yI],pE,bq⟩
theorem IR:Sd 35 L8:=aV aJ iC true 77 [] (fun A ((mId,mN,mSet,mAcc,mFail,mStage,mFirst),sender)=>t78 A mId mN mSet mAcc mFail mStage mFirst sender) (fc Try.func35 fz) sz (fun(((mId,mN,mSet,mAcc,mFail,mStage,mFirst),sender):(Int×Int×Int×Int×Int×Int×Int)×Int) hp h=>by
 show(t78 ai mId mN mSet mAcc mFail mStage mFirst sender).pre=true
 simp only[t78,LT.pre,ff,aM,aI,al,ax,au,ay,aD,bM,fv,ap,cu,bC,aZ,bX,fo,Bool.and_eq_true,Bool.or_eq_true,Bool.and_eq_false_iff,Bool.or_eq_false_iff,Bool.not_eq_true',Bool.not_eq_false',decide_eq_true_eq,decide_eq_false_iff_not,bne_iff_ne,beq_iff_eq,bne_eq_false_iff_eq,beq_eq_false_iff_ne]
 simp only[pE,Bool.and_eq_true,decide_eq_true_eq] at hp
 simp only[Ty.cr,Ty.has,pu,xm] at h
 (repeat' (first|intro _|constructor))<;>(try omega))
theorem wJ{a b c d e f g s:Int}(h0:4≤b)(h1:b≤8):sV ((a,b,c,d,e,f,g),s)=true↔0≤s∧s<b∧s≠a:=by
 simp only[sV,t77,LT.val,mm,aM,aI,al,ax,au,ay,aD,bM,fv,ap,cu,bC,aZ,bX,fo,Bool.and_eq_true,Bool.or_eq_true,Bool.and_eq_false_iff,Bool.or_eq_false_iff,Bool.not_eq_true',Bool.not_eq_false',decide_eq_true_eq,decide_eq_false_iff_not,bne_iff_ne,beq_iff_eq,bne_eq_false_iff_eq,beq_eq_false_iff_ne,uS]
 simp
 rw[ji (by omega) (by omega)]
 omega
theorem fP{x:(Int×Int×Int×Int×Int×Int×Int)×Int}:0≤(bq x).2∧(bq x).2≤2:=by
 obtain⟨⟨a,b,c,d,e,f,g⟩,s⟩:=x
 exact LT.g_ (p:=fun y:List Int×Int=>0≤y.2∧y.2≤2) (by decide) (by simp[t78,LT.all])
section
variable {a b c d e f g s:Int}
theorem He:bq ((a,b,c,d,e,0,g),s)=([ng c s,0],1):=rfl
theorem G8:bq ((a,b,c,d,e,1,g),s)=([ng (ng c s) a,Cc (ng c s) a],2):=rfl
theorem E0:bq ((a,b,c,d,e,2,g),g)=([ng (ng c g) a,0],1):=by
 simp[bq,t78,LT.val,aM,ng]
theorem Es(h:s≠g):bq ((a,b,c,d,e,2,g),s)=([Cc (ng (ng c s) a) g,Cc (ng (ng c s) g) a],2):=by
 have hb:(s==g)=false:=by simpa using h
 simp[bq,t78,LT.val,aM,ng,Cc,hb]
end
def t33(A:cH)(mId:Int)(mN:Int)(mSet:Int)(mAcc:Int)(mFail:Int)(mStage:Int)(mFirst:Int)(sender:Int):LT (List Int) Empty:=.need (A.k (@tt ((Int×Int×Int×Int×Int×Int×Int))) (mId,mN,mSet,mAcc,mFail,mStage,mFirst)) (.br (A.c .neq (A.k su (mId,mN,mSet,mAcc,mFail,mStage,mFirst)) 0) (.ret ([]:List Int)) (.br (A.c .geq sender 0) (.br (A.c .lss sender mN) (.br (A.not (A.c .neq sender mId)) (.ret ([]:List Int)) (.need (A.k (@tt Int) sender) (.need (A.k (@tt Int) mId) (.br (A.c .eql mStage 1) (.ret [(A.b .or .i64 (A.b .or .i64 mSet (A.k gM sender)) (A.k gM mId)),(A.b .andNot .i64 (A.b .or .i64 mSet (A.k gM sender)) (A.k gM mId))]) (.br (A.c .eql mStage 2) (.br (A.c .eql sender mFirst) (.ret [(A.b .or .i64 (A.b .or .i64 mSet (A.k gM sender)) (A.k gM mId))]) (.br (A.c .eql mStage 2) (.need (A.k (@tt Int) mFirst) (.need (A.k (@tt Int) mFirst) (.ret [(A.b .andNot .i64 (A.b .or .i64 (A.b .or .i64 mSet (A.k gM sender)) (A.k gM mId)) (A.k gM mFirst)),(A.b .andNot .i64 (A.b .or .i64 (A.b .or .i64 mSet (A.k gM sender)) (A.k gM mFirst)) (A.k gM mId))]))) (.ret [(A.b .or .i64 mSet (A.k gM sender))]))) (.br (A.c .eql mStage 2) (.need (A.k (@tt Int) mFirst) (.need (A.k (@tt Int) mFirst) (.ret [(A.b .andNot .i64 (A.b .or .i64 (A.b .or .i64 mSet (A.k gM sender)) (A.k gM mId)) (A.k gM mFirst)),(A.b .andNot .i64 (A.b .or .i64 (A.b .or .i64 mSet (A.k gM sender)) (A.k gM mFirst)) (A.k gM mId))]))) (.ret [(A.b .or .i64 mSet (A.k gM sender))]))))))) (.ret ([]:List Int))) (.ret ([]:List Int))))
def Ak:((Int×Int×Int×Int×Int×Int×Int)×Int)→(List Int):=fun((mId,mN,mSet,mAcc,mFail,mStage,mFirst),sender)=>(t33 ai mId mN mSet mAcc mFail mStage mFirst sender).val (Ty.dC [Kt])
def LC:aH:=⟨[(.struct [yI,yI,yI,yI,yI,yI,yI]),yI], [Kt],(@tt ((Int×Int×Int×Int×Int×Int×Int)×Int)),Ak⟩
theorem Mx:Sd 8 LC:=aV aJ iC true 117 [] (fun A ((mId,mN,mSet,mAcc,mFail,mStage,mFirst),sender)=>t33 A mId mN mSet mAcc mFail mStage mFirst sender) (fc Try.func8 (fc Try.func19 fz)) (sc Gj (sc Ii sz)) (fun(((mId,mN,mSet,mAcc,mFail,mStage,mFirst),sender):(Int×Int×Int×Int×Int×Int×Int)×Int) hp h=>by
 show(t33 ai mId mN mSet mAcc mFail mStage mFirst sender).pre=true
 simp only[t33,LT.pre,ff,aM,aI,al,ax,au,ay,aD,bM,fv,ap,cu,bC,aZ,bX,fo,Bool.and_eq_true,Bool.or_eq_true,Bool.and_eq_false_iff,Bool.or_eq_false_iff,Bool.not_eq_true',Bool.not_eq_false',decide_eq_true_eq,decide_eq_false_iff_not,bne_iff_ne,beq_iff_eq,bne_eq_false_iff_eq,beq_eq_false_iff_ne]
 simp only[Ty.cr,Ty.has,pu,xm] at h
 (repeat' (first|intro _|constructor))<;>(try omega))
theorem Ex{a b c d e f g s:Int}(h:DR a b c d e f g)(h0:0≤s)(h1:s<b)(h2:s≠a):Ak ((a,b,c,d,e,f,g),s)=(bq ((a,b,c,d,e,f,g),s)).1.take (bq ((a,b,c,d,e,f,g),s)).2.toNat:=by
 have hm:=h
 unfold DR at hm
 have es:=m_ (n:=s) (by omega) (by omega)
 have ea:=m_ (n:=a) (by omega) (by omega)
 have eg:=m_ (n:=g) (by omega) (by omega)
 have sa:(s != a)=true:=by simpa using h2
 have hf:f=0∨f=1∨f=2:=by omega
 simp only[Ak,t33,LT.val,ap,jm.2 h,aI,ay,al,aM,bM,bne_self_eq_false,cond_false,es,ea,eg,sa,h0,h1,decide_true,cond_true,Bool.not_true]
 rcases hf with rfl|rfl|rfl
 ·rw[He];rfl
 ·rw[G8];rfl
 ·by_cases hsg:s=g
  ·subst hsg
   rw[E0];simp[ng]
  ·rw[Es hsg]
   have e:(s==g)=false:=by simpa using hsg
   simp[e,ng,Cc]
end Go.Ev.M
