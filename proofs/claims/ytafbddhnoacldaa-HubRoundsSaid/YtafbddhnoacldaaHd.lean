/-
  PROVED: what hub.Filter computes of one signal of the slot, and that begun is true. Conditions: none.
-/
import Derived.Test.YtafbddhnoacldaaHc
import Derived.Test.YtafbddhnoacldaaDa
namespace Go.Ev.M
open Go.Proofs
set_option maxRecDepth 100000
set_option linter.unusedVariables false
set_option linter.unusedSimpArgs false
open Go.Ev.Pl
theorem chk_no {f a c l n:Int} {b:List Int} (h:bsOk (n,b)=false):fn150 (f,(a,c),l,n,b)=110:=by
 have h97:fn97 (n,b)=10:=by rw [fn97,h]; rfl
 simp only [fn150,t150,LT.val,std_call,h97]
 cases std.cmp .lss f (-1) <;> cases std.cmp .geq f 8 <;> cases std.cmp .neq (fn170 (a,c)) 0 <;> cases std.cmp .lss l 0 <;> cases std.cmp .gtr l 200 <;> rfl
theorem whole_ok {f a c l n:Int} {b:List Int} (h:fn119 (f,(a,c),l,n,b)=true):bsOk (n,b)=true:=by
 cases hb:bsOk (n,b)
 ·simp only [fn119,t119,LT.val,std_call,chk_no hb] at h
  cases h
 ·rfl
theorem bs_len {n:Int} {b:List Int} (h:bsOk (n,b)=true):b.length≤70368744177664:=by
 simp only [bsOk,Bool.and_eq_true,decide_eq_true_eq,beq_iff_eq] at h
 omega
def t68 (A:Alg) (from1:Int) (at1:Int) (level:Int) (bN:Int) (bB:List Int):LT (Sig×Int) Empty:=
 .br (A.cmp .lss at1 0)
 (.ret ((0,(0,0),0,0,([]:List Int)),110))
 (.br (A.cmp .gtr at1 1099511627776)
 (.ret ((0,(0,0),0,0,([]:List Int)),110))
 (.need (A.call (@tt Int) bN) (
  .eqs ((.agg [.int .i64 false from1,.int .i64 false at1,.int .i64 false (A.bin .add .i64 at1 (A.call fn118 bN)),.int .i64 false level,.int .i64 false bN,.sl (.int .u8) bB]:AV)=.agg [.int .i64 false from1,.int .i64 false at1,.int .i64 false (A.bin .add .i64 at1 (A.call fn118 bN)),.int .i64 false level,.int .i64 false bN,.sl (.int .u8) bB]) (
  .eqs ((.agg [.int .i64 false bN,.sl (.int .u8) bB]:AV)=.agg [.int .i64 false bN,.sl (.int .u8) bB]) (
   .eqs (IntKind.i64=IntKind.i64∧(level:Int)=level) (
   .eqs ((.agg [.int .i64 false at1,.int .i64 false (A.bin .add .i64 at1 (A.call fn118 bN))]:AV)=.agg [.int .i64 false at1,.int .i64 false (A.bin .add .i64 at1 (A.call fn118 bN))]) (
    .eqs (IntKind.i64=IntKind.i64∧((A.bin .add .i64 at1 (A.call fn118 bN)):Int)=(A.bin .add .i64 at1 (A.call fn118 bN))) (
    .need (A.call (@tt Int) bN) (
     .eqs (IntKind.i64=IntKind.i64∧((A.call fn118 bN):Int)=(A.call fn118 bN)) (
     .eqs (IntKind.i64=IntKind.i64∧(bN:Int)=bN) (
      .eqs ((.ptr 0 0:AV)=.ptr 0 0) (
      .eqs (IntKind.i64=IntKind.i64∧(at1:Int)=at1) (
       .eqs (IntKind.i64=IntKind.i64∧(at1:Int)=at1) (
       .eqs (IntKind.i64=IntKind.i64∧(from1:Int)=from1) (
        .need (A.call (@tt Sig) (from1,(at1,(A.bin .add .i64 at1 (A.call fn118 bN))),level,bN,bB)) (
        .br (A.not (A.call fn119 (from1,(at1,(A.bin .add .i64 at1 (A.call fn118 bN))),level,bN,bB)))
         (.ret ((0,(0,0),0,0,([]:List Int)),110))
         (.br (A.cmp .eql (A.len bB) 0)
         (.ret ((from1,(at1,(A.bin .add .i64 at1 (A.call fn118 bN))),level,bN,([]:List Int)),0))
         (.need (A.cmp .leq (A.len bB) 70368744177664) (
          .ret ((from1,(at1,(A.bin .add .i64 at1 (A.call fn118 bN))),level,bN,bB),0))))))))))))))))))))
noncomputable def E68 (A:Alg):Info (Ty.Ts [ySig,(.int .i64)]):={ti:=tys,fns:=[(68,Try.f68)],sps:=[(118,sp118),(119,sp119)],stops:=[],cuts:=[],consts:=[],fin:=finD A [ySig,(.int .i64)]}
theorem t68_ok (A:Alg) (from1:Int) (at1:Int) (level:Int) (bN:Int) (bB:List Int):run A (E68 A) 64 (startC 68 Try.f68 (dvals A [(.int .i64),(.int .i64),(.int .i64),yBits] (from1,at1,level,bN,bB)))=(t68 A from1 at1 level bN bB).tr Empty.elim:=by kernel_rfl
def w68:Walk Try.prog 68 [(.int .i64),(.int .i64),(.int .i64),yBits] [ySig,(.int .i64)] Empty:=⟨fun (from1,at1,level,bN,bB)=>t68 std from1 at1 level bN bB,Empty.elim⟩
theorem w68_ok:w68.Ok:=
 walk_ok (E:=E68 std) ⟨tys_fit,fns_cons Try.func68 (by kernel_rfl) (fns_nil),sps_cons so118 (sps_cons so119 (sps_nil)),by kernel_rfl⟩ rfl rfl rfl (by kernel_rfl) w68 Empty.elim 64 (fun (from1,at1,level,bN,bB)=>t68_ok std from1 at1 level bN bB) (fun y=>y.elim)
def fn68:(Int×Int×Int×Bits)→(Sig×Int):=fun (from1,at1,level,bN,bB)=>(t68 std from1 at1 level bN bB).val (Ty.dflts [ySig,(.int .i64)])
def sp68:FSpec:=⟨[(.int .i64),(.int .i64),(.int .i64),yBits], [ySig,(.int .i64)],(@tt (Int×Int×Int×Bits)),fn68⟩
theorem eqs68 (from1:Int) (at1:Int) (level:Int) (bN:Int) (bB:List Int):(t68 std from1 at1 level bN bB).Eqs:=by simp only [t68,LT.Eqs,and_self,true_and,and_true]
theorem pre68_ok {from1:Int} {at1:Int} {level:Int} {bN:Int} {bB:List Int} (h:Ty.hass [(.int .i64),(.int .i64),(.int .i64),yBits] (from1,at1,level,bN,bB)):(t68 std from1 at1 level bN bB).pre=true:=by
 have hl:bB.length≤140737488355328:=h.2.2.2.2.1
 simp only [t68,LT.pre,std_call,tt_eq,Bool.true_and]
 cases hw:fn119 (from1,(at1,std.bin .add .i64 at1 (fn118 bN)),level,bN,bB)
 ·simp [std_not]
 ·have hok:=whole_ok hw
  have h5:bB.length≤70368744177664:=bs_len hok
  have h6:std.cmp .leq (std.len bB) 70368744177664=true:=by rw [lenI,std_cmp_leq]; exact decide_eq_true (by omega)
  rw [h6]
  simp [std_not]
theorem so68:FSpec.Sound Try.prog 68 sp68:=
 w68_ok.sound _ _ fun (from1,at1,level,bN,bB) _ h=>LT.runs (d:=Ty.dflts [ySig,(.int .i64)]) (eqs68 from1 at1 level bN bB) (pre68_ok h)
def t151 (A:Alg) (mNodes:Int) (mSlot:Int) (mGap:Int) (mWindow:Int) (mDrift:Int) (mDelay:Int) (mCold:List Bool) (mModes:List Mode) (sFrom:Int) (sSpanFrom:Int) (sSpanTo:Int) (sLevel:Int) (sBN:Int) (sBB:List Int):LT Bool Empty:=
 .need (A.call (@tt Sig) (sFrom,(sSpanFrom,sSpanTo),sLevel,sBN,sBB)) (
 .br (A.call fn171 (sFrom,(sSpanFrom,sSpanTo),sLevel,sBN,sBB))
 (.br (A.cmp .geq sLevel 40)
  (.need (A.call (@tt (Medl×Int×Bits)) ((mNodes,mSlot,mGap,mWindow,mDrift,mDelay,mCold,mModes),sFrom,sBN,sBB)) (
  .ret (A.call fn172 ((mNodes,mSlot,mGap,mWindow,mDrift,mDelay,mCold,mModes),sFrom,sBN,sBB))))
  (.ret false))
 (.ret false))
noncomputable def E151 (A:Alg):Info (Ty.Ts [.bool]):={ti:=tys,fns:=[(151,Try.f151)],sps:=[(171,sp171),(172,sp172)],stops:=[],cuts:=[],consts:=[],fin:=finD A [.bool]}
theorem t151_ok (A:Alg) (mNodes:Int) (mSlot:Int) (mGap:Int) (mWindow:Int) (mDrift:Int) (mDelay:Int) (mCold:List Bool) (mModes:List Mode) (sFrom:Int) (sSpanFrom:Int) (sSpanTo:Int) (sLevel:Int) (sBN:Int) (sBB:List Int):run A (E151 A) 31 (startC 151 Try.f151 (dvals A [yMedl,ySig] ((mNodes,mSlot,mGap,mWindow,mDrift,mDelay,mCold,mModes),sFrom,(sSpanFrom,sSpanTo),sLevel,sBN,sBB)))=(t151 A mNodes mSlot mGap mWindow mDrift mDelay mCold mModes sFrom sSpanFrom sSpanTo sLevel sBN sBB).tr Empty.elim:=by kernel_rfl
def w151:Walk Try.prog 151 [yMedl,ySig] [.bool] Empty:=⟨fun ((mNodes,mSlot,mGap,mWindow,mDrift,mDelay,mCold,mModes),sFrom,(sSpanFrom,sSpanTo),sLevel,sBN,sBB)=>t151 std mNodes mSlot mGap mWindow mDrift mDelay mCold mModes sFrom sSpanFrom sSpanTo sLevel sBN sBB,Empty.elim⟩
theorem w151_ok:w151.Ok:=
 walk_ok (E:=E151 std) ⟨tys_fit,fns_cons Try.func151 (by kernel_rfl) (fns_nil),sps_cons so171 (sps_cons so172 (sps_nil)),by kernel_rfl⟩ rfl rfl rfl (by kernel_rfl) w151 Empty.elim 31 (fun ((mNodes,mSlot,mGap,mWindow,mDrift,mDelay,mCold,mModes),sFrom,(sSpanFrom,sSpanTo),sLevel,sBN,sBB)=>t151_ok std mNodes mSlot mGap mWindow mDrift mDelay mCold mModes sFrom sSpanFrom sSpanTo sLevel sBN sBB) (fun y=>y.elim)
def fn151:(Medl×Sig)→Bool:=fun ((mNodes,mSlot,mGap,mWindow,mDrift,mDelay,mCold,mModes),sFrom,(sSpanFrom,sSpanTo),sLevel,sBN,sBB)=>(t151 std mNodes mSlot mGap mWindow mDrift mDelay mCold mModes sFrom sSpanFrom sSpanTo sLevel sBN sBB).val (Ty.dflts [.bool])
def sp151:FSpec:=⟨[yMedl,ySig], [.bool],(@tt (Medl×Sig)),fn151⟩
theorem eqs151 (mNodes:Int) (mSlot:Int) (mGap:Int) (mWindow:Int) (mDrift:Int) (mDelay:Int) (mCold:List Bool) (mModes:List Mode) (sFrom:Int) (sSpanFrom:Int) (sSpanTo:Int) (sLevel:Int) (sBN:Int) (sBB:List Int):(t151 std mNodes mSlot mGap mWindow mDrift mDelay mCold mModes sFrom sSpanFrom sSpanTo sLevel sBN sBB).Eqs:=by simp only [t151,LT.Eqs,and_self,true_and,and_true]
theorem pre151_ok {mNodes:Int} {mSlot:Int} {mGap:Int} {mWindow:Int} {mDrift:Int} {mDelay:Int} {mCold:List Bool} {mModes:List Mode} {sFrom:Int} {sSpanFrom:Int} {sSpanTo:Int} {sLevel:Int} {sBN:Int} {sBB:List Int} (h:Ty.hass [yMedl,ySig] ((mNodes,mSlot,mGap,mWindow,mDrift,mDelay,mCold,mModes),sFrom,(sSpanFrom,sSpanTo),sLevel,sBN,sBB)):(t151 std mNodes mSlot mGap mWindow mDrift mDelay mCold mModes sFrom sSpanFrom sSpanTo sLevel sBN sBB).pre=true:=by
 simp [t151,LT.pre,std_call,tt_eq]
theorem so151:FSpec.Sound Try.prog 151 sp151:=
 w151_ok.sound _ _ fun ((mNodes,mSlot,mGap,mWindow,mDrift,mDelay,mCold,mModes),sFrom,(sSpanFrom,sSpanTo),sLevel,sBN,sBB) _ h=>LT.runs (d:=Ty.dflts [.bool]) (eqs151 mNodes mSlot mGap mWindow mDrift mDelay mCold mModes sFrom sSpanFrom sSpanTo sLevel sBN sBB) (pre151_ok h)
def t123 (A:Alg) (mNodes:Int) (mSlot:Int) (mGap:Int) (mWindow:Int) (mDrift:Int) (mDelay:Int) (mCold:List Bool) (mModes:List Mode) (hSync:Bool) (hStart:Int) (hPos:Int) (sFrom:Int) (sSpanFrom:Int) (sSpanTo:Int) (sLevel:Int) (sBN:Int) (sBB:List Int):LT (Sig×Bool) Empty:=
 .need (A.call (@tt (Int×Int×Int×Bits)) (sFrom,(A.bin .add .i64 hStart (A.bin .add .i64 mGap mDelay)),100,sBN,sBB)) (
 .ret ((A.call fn153 (sFrom,(A.bin .add .i64 hStart (A.bin .add .i64 mGap mDelay)),100,sBN,sBB)).1,(A.cmp .eql (A.call fn153 (sFrom,(A.bin .add .i64 hStart (A.bin .add .i64 mGap mDelay)),100,sBN,sBB)).2 0)))
noncomputable def E123 (A:Alg):Info (Ty.Ts [ySig,.bool]):={ti:=tys,fns:=[(123,Try.f123)],sps:=[(153,sp153)],stops:=[],cuts:=[],consts:=[],fin:=finD A [ySig,.bool]}
theorem t123_ok (A:Alg) (mNodes:Int) (mSlot:Int) (mGap:Int) (mWindow:Int) (mDrift:Int) (mDelay:Int) (mCold:List Bool) (mModes:List Mode) (hSync:Bool) (hStart:Int) (hPos:Int) (sFrom:Int) (sSpanFrom:Int) (sSpanTo:Int) (sLevel:Int) (sBN:Int) (sBB:List Int):run A (E123 A) 44 (startC 123 Try.f123 (dvals A [yMedl,yHub,ySig] ((mNodes,mSlot,mGap,mWindow,mDrift,mDelay,mCold,mModes),(hSync,hStart,hPos),sFrom,(sSpanFrom,sSpanTo),sLevel,sBN,sBB)))=(t123 A mNodes mSlot mGap mWindow mDrift mDelay mCold mModes hSync hStart hPos sFrom sSpanFrom sSpanTo sLevel sBN sBB).tr Empty.elim:=by kernel_rfl
def w123:Walk Try.prog 123 [yMedl,yHub,ySig] [ySig,.bool] Empty:=⟨fun ((mNodes,mSlot,mGap,mWindow,mDrift,mDelay,mCold,mModes),(hSync,hStart,hPos),sFrom,(sSpanFrom,sSpanTo),sLevel,sBN,sBB)=>t123 std mNodes mSlot mGap mWindow mDrift mDelay mCold mModes hSync hStart hPos sFrom sSpanFrom sSpanTo sLevel sBN sBB,Empty.elim⟩
theorem w123_ok:w123.Ok:=
 walk_ok (E:=E123 std) ⟨tys_fit,fns_cons Try.func123 (by kernel_rfl) (fns_nil),sps_cons so153 (sps_nil),by kernel_rfl⟩ rfl rfl rfl (by kernel_rfl) w123 Empty.elim 44 (fun ((mNodes,mSlot,mGap,mWindow,mDrift,mDelay,mCold,mModes),(hSync,hStart,hPos),sFrom,(sSpanFrom,sSpanTo),sLevel,sBN,sBB)=>t123_ok std mNodes mSlot mGap mWindow mDrift mDelay mCold mModes hSync hStart hPos sFrom sSpanFrom sSpanTo sLevel sBN sBB) (fun y=>y.elim)
def fn123:(Medl×Hub×Sig)→(Sig×Bool):=fun ((mNodes,mSlot,mGap,mWindow,mDrift,mDelay,mCold,mModes),(hSync,hStart,hPos),sFrom,(sSpanFrom,sSpanTo),sLevel,sBN,sBB)=>(t123 std mNodes mSlot mGap mWindow mDrift mDelay mCold mModes hSync hStart hPos sFrom sSpanFrom sSpanTo sLevel sBN sBB).val (Ty.dflts [ySig,.bool])
def sp123:FSpec:=⟨[yMedl,yHub,ySig], [ySig,.bool],(@tt (Medl×Hub×Sig)),fn123⟩
theorem eqs123 (mNodes:Int) (mSlot:Int) (mGap:Int) (mWindow:Int) (mDrift:Int) (mDelay:Int) (mCold:List Bool) (mModes:List Mode) (hSync:Bool) (hStart:Int) (hPos:Int) (sFrom:Int) (sSpanFrom:Int) (sSpanTo:Int) (sLevel:Int) (sBN:Int) (sBB:List Int):(t123 std mNodes mSlot mGap mWindow mDrift mDelay mCold mModes hSync hStart hPos sFrom sSpanFrom sSpanTo sLevel sBN sBB).Eqs:=by simp only [t123,LT.Eqs,and_self,true_and,and_true]
theorem pre123_ok {mNodes:Int} {mSlot:Int} {mGap:Int} {mWindow:Int} {mDrift:Int} {mDelay:Int} {mCold:List Bool} {mModes:List Mode} {hSync:Bool} {hStart:Int} {hPos:Int} {sFrom:Int} {sSpanFrom:Int} {sSpanTo:Int} {sLevel:Int} {sBN:Int} {sBB:List Int} (h:Ty.hass [yMedl,yHub,ySig] ((mNodes,mSlot,mGap,mWindow,mDrift,mDelay,mCold,mModes),(hSync,hStart,hPos),sFrom,(sSpanFrom,sSpanTo),sLevel,sBN,sBB)):(t123 std mNodes mSlot mGap mWindow mDrift mDelay mCold mModes hSync hStart hPos sFrom sSpanFrom sSpanTo sLevel sBN sBB).pre=true:=by
 simp [t123,LT.pre,std_call,tt_eq]
theorem so123:FSpec.Sound Try.prog 123 sp123:=
 w123_ok.sound _ _ fun ((mNodes,mSlot,mGap,mWindow,mDrift,mDelay,mCold,mModes),(hSync,hStart,hPos),sFrom,(sSpanFrom,sSpanTo),sLevel,sBN,sBB) _ h=>LT.runs (d:=Ty.dflts [ySig,.bool]) (eqs123 mNodes mSlot mGap mWindow mDrift mDelay mCold mModes hSync hStart hPos sFrom sSpanFrom sSpanTo sLevel sBN sBB) (pre123_ok h)
structure P120c0 where
 a0:Int
 a1:List Sig
 a2:Int
 a4:Int
 a5:Int
 a6:Int
 a7:Int
 a8:Int
 a9:Int
 a10:List Bool
 a11:List Mode
 a12:Bool
 a13:Int
 a14:Int
 a15:Int
 a16:Int
 a17:Int
 a18:Int
 a19:Int
 a20:Int
 a21:Int
 a22:Int
 a23:Int
 a24:Int
 a25:Int
 a26:Int
structure P120c1 where
 b1:List Sig
 b2:Int
 b4:Int
 b5:Int
 b6:Int
 b7:Int
 b8:Int
 b9:Int
 b10:List Bool
 b11:List Mode
 b12:Bool
 b13:Int
 b14:Int
 b15:Int
 b16:Int
 b17:Int
 b18:Int
 b19:Int
 b20:Int
 b21:Int
inductive Y120 where
 | c0 (p:P120c0) (a3:Int)
 | c1 (p:P120c1) (b0:Int) (b3:Int) (b22:Int) (b23:Int) (b24:Int) (b25:Int) (b26:Int) (b27:List Int)
noncomputable def cfg120:Y120→Cfg
 | .c0 p a3=>{frames:=[{fn:=120,n:=53,env:=(Env.put (Env.put (Env.put (Env.put (Env.put (Env.put (Env.put (Env.put (Env.put .leaf 4 (.ptr 0 0)) 5 (.ptr 1 0)) 6 (.ptr 2 0)) 8 (.ptr 3 0)) 10 (.ptr 4 0)) 11 (.int .i64 false p.a0)) 14 (.sl ySig p.a1)) 15 (.int .i64 false p.a2)) 16 (.int .i64 false a3)),todo:=[.inLoop (Code.way (bodyOf Try.f120) [1,1,1,0,1,0,0]),.inBlock 0,.code (Code.way (bodyOf Try.f120) [1,1,1,1])],marks:=[],rnd:=none}],mem:=[.flat false [.int .i64 false p.a4,.int .i64 false p.a5,.int .i64 false p.a6,.int .i64 false p.a7,.int .i64 false p.a8,.int .i64 false p.a9,.sl .bool p.a10,.sl yMode p.a11],.flat false [.bool false p.a12,.int .i64 false p.a13,.int .i64 false p.a14],.flat false [.int .i64 false p.a15,.int .i64 false p.a16],.flat false [.int .i64 false p.a17,.int .i64 false p.a18,.int .i64 false p.a19,.int .i64 false p.a20,.int .i64 false p.a21,.esl true],.flat false [.int .i64 false p.a22,.int .i64 false p.a23,.int .i64 false p.a24,.int .i64 false p.a25,.int .i64 false p.a26,.esl true],.dead]}
 | .c1 p b0 b3 b22 b23 b24 b25 b26 b27=>{frames:=[{fn:=120,n:=53,env:=(Env.put (Env.put (Env.put (Env.put (Env.put (Env.put (Env.put (Env.put (Env.put .leaf 4 (.ptr 0 0)) 5 (.ptr 1 0)) 6 (.ptr 2 0)) 8 (.ptr 3 0)) 10 (.ptr 4 0)) 11 (.int .i64 false b0)) 14 (.sl ySig p.b1)) 15 (.int .i64 false p.b2)) 16 (.int .i64 false b3)),todo:=[.inLoop (Code.way (bodyOf Try.f120) [1,1,1,0,1,0,0]),.inBlock 0,.code (Code.way (bodyOf Try.f120) [1,1,1,1])],marks:=[],rnd:=none}],mem:=[.flat false [.int .i64 false p.b4,.int .i64 false p.b5,.int .i64 false p.b6,.int .i64 false p.b7,.int .i64 false p.b8,.int .i64 false p.b9,.sl .bool p.b10,.sl yMode p.b11],.flat false [.bool false p.b12,.int .i64 false p.b13,.int .i64 false p.b14],.flat false [.int .i64 false p.b15,.int .i64 false p.b16],.flat false [.int .i64 false p.b17,.int .i64 false p.b18,.int .i64 false p.b19,.int .i64 false p.b20,.int .i64 false p.b21,.esl true],.flat false [.int .i64 false b22,.int .i64 false b23,.int .i64 false b24,.int .i64 false b25,.int .i64 false b26,.sl (.int .u8) b27],.dead]}
def t120 (A:Alg) (mNodes:Int) (mSlot:Int) (mGap:Int) (mWindow:Int) (mDrift:Int) (mDelay:Int) (mCold:List Bool) (mModes:List Mode) (hSync:Bool) (hStart:Int) (hPos:Int) (windowFrom:Int) (windowTo:Int) (l:List Sig):LT (Sig×Bool) Y120:=
 .more (.c0 ⟨0,l,(A.len l),mNodes,mSlot,mGap,mWindow,mDrift,mDelay,mCold,mModes,hSync,hStart,hPos,windowFrom,windowTo,0,0,0,0,0,0,0,0,0,0⟩ 0)
def s120 (A:Alg):Y120→LT (Sig×Bool) Y120
 | .c0 p a3=>
  .br (A.cmp .lss a3 p.a2)
  (.need (A.and (A.cmp .leq 0 a3) (A.cmp .lss a3 (A.len p.a1))) (
   .br (A.cmp .eql (A.nth ySig p.a1 a3:Sig).1 p.a14)
   (.br (A.cmp .geq (A.nth ySig p.a1 a3:Sig).2.1.1 p.a15)
    (.br (A.cmp .lss (A.nth ySig p.a1 a3:Sig).2.1.1 p.a16)
    (.need (A.call (@tt (Medl×Sig)) ((p.a4,p.a5,p.a6,p.a7,p.a8,p.a9,p.a10,p.a11),(A.nth ySig p.a1 a3:Sig))) (
     .br (A.call fn151 ((p.a4,p.a5,p.a6,p.a7,p.a8,p.a9,p.a10,p.a11),(A.nth ySig p.a1 a3:Sig)))
     (.more (.c1 ⟨p.a1,p.a2,p.a4,p.a5,p.a6,p.a7,p.a8,p.a9,p.a10,p.a11,p.a12,p.a13,p.a14,p.a15,p.a16,p.a17,p.a18,p.a19,p.a20,p.a21⟩ (A.bin .add .i64 p.a0 1) (A.bin .add .i64 a3 1) (A.nth ySig p.a1 a3:Sig).1 (A.nth ySig p.a1 a3:Sig).2.1.1 (A.nth ySig p.a1 a3:Sig).2.1.2 (A.nth ySig p.a1 a3:Sig).2.2.1 (A.nth ySig p.a1 a3:Sig).2.2.2.1 (A.nth ySig p.a1 a3:Sig).2.2.2.2))
     (.more (.c0 p (A.bin .add .i64 a3 1)))))
    (.more (.c0 p (A.bin .add .i64 a3 1))))
    (.more (.c0 p (A.bin .add .i64 a3 1))))
   (.more (.c0 p (A.bin .add .i64 a3 1)))))
  (.ret ((p.a22,(p.a23,p.a24),p.a25,p.a26,([]:List Int)),(A.cmp .eql p.a0 1)))
 | .c1 p b0 b3 b22 b23 b24 b25 b26 b27=>
  .br (A.cmp .lss b3 p.b2)
  (.need (A.and (A.cmp .leq 0 b3) (A.cmp .lss b3 (A.len p.b1))) (
   .br (A.cmp .eql (A.nth ySig p.b1 b3:Sig).1 p.b14)
   (.br (A.cmp .geq (A.nth ySig p.b1 b3:Sig).2.1.1 p.b15)
    (.br (A.cmp .lss (A.nth ySig p.b1 b3:Sig).2.1.1 p.b16)
    (.need (A.call (@tt (Medl×Sig)) ((p.b4,p.b5,p.b6,p.b7,p.b8,p.b9,p.b10,p.b11),(A.nth ySig p.b1 b3:Sig))) (
     .br (A.call fn151 ((p.b4,p.b5,p.b6,p.b7,p.b8,p.b9,p.b10,p.b11),(A.nth ySig p.b1 b3:Sig)))
     (.more (.c1 p (A.bin .add .i64 b0 1) (A.bin .add .i64 b3 1) (A.nth ySig p.b1 b3:Sig).1 (A.nth ySig p.b1 b3:Sig).2.1.1 (A.nth ySig p.b1 b3:Sig).2.1.2 (A.nth ySig p.b1 b3:Sig).2.2.1 (A.nth ySig p.b1 b3:Sig).2.2.2.1 (A.nth ySig p.b1 b3:Sig).2.2.2.2))
     (.more (.c1 p b0 (A.bin .add .i64 b3 1) b22 b23 b24 b25 b26 b27))))
    (.more (.c1 p b0 (A.bin .add .i64 b3 1) b22 b23 b24 b25 b26 b27)))
    (.more (.c1 p b0 (A.bin .add .i64 b3 1) b22 b23 b24 b25 b26 b27)))
   (.more (.c1 p b0 (A.bin .add .i64 b3 1) b22 b23 b24 b25 b26 b27))))
  (.ret ((b22,(b23,b24),b25,b26,b27),(A.cmp .eql b0 1)))
noncomputable def E120 (A:Alg):Info (Ty.Ts [ySig,.bool]):={ti:=tys,fns:=[(120,Try.f120)],sps:=[(151,sp151)],stops:=[⟨120,4, [[4,5,6,8,10,11,14,15,16]]⟩],cuts:=[],consts:=[],fin:=finD A [ySig,.bool]}
theorem t120_ok (A:Alg) (mNodes:Int) (mSlot:Int) (mGap:Int) (mWindow:Int) (mDrift:Int) (mDelay:Int) (mCold:List Bool) (mModes:List Mode) (hSync:Bool) (hStart:Int) (hPos:Int) (windowFrom:Int) (windowTo:Int) (l:List Sig):run A (E120 A) 31 (startC 120 Try.f120 (dvals A [yMedl,yHub,ySpan,(.slice ySig)] ((mNodes,mSlot,mGap,mWindow,mDrift,mDelay,mCold,mModes),(hSync,hStart,hPos),(windowFrom,windowTo),l)))=(t120 A mNodes mSlot mGap mWindow mDrift mDelay mCold mModes hSync hStart hPos windowFrom windowTo l).tr cfg120:=by kernel_rfl
theorem s120_ok (A:Alg):∀y,∃n,run A (E120 A) n (advance (E120 A).sps (cfg120 y))=(s120 A y).tr cfg120
 | .c0 p a3=>⟨67,by kernel_rfl⟩
 | .c1 p b0 b3 b22 b23 b24 b25 b26 b27=>⟨67,by kernel_rfl⟩
def w120:Walk Try.prog 120 [yMedl,yHub,ySpan,(.slice ySig)] [ySig,.bool] Y120:=⟨fun ((mNodes,mSlot,mGap,mWindow,mDrift,mDelay,mCold,mModes),(hSync,hStart,hPos),(windowFrom,windowTo),l)=>t120 std mNodes mSlot mGap mWindow mDrift mDelay mCold mModes hSync hStart hPos windowFrom windowTo l,s120 std⟩
theorem w120_ok:w120.Ok:=
 walk_ok (E:=E120 std) ⟨tys_fit,fns_cons Try.func120 (by kernel_rfl) (fns_nil),sps_cons so151 (sps_nil),by kernel_rfl⟩ rfl rfl rfl (by kernel_rfl) w120 cfg120 31 (fun ((mNodes,mSlot,mGap,mWindow,mDrift,mDelay,mCold,mModes),(hSync,hStart,hPos),(windowFrom,windowTo),l)=>t120_ok std mNodes mSlot mGap mWindow mDrift mDelay mCold mModes hSync hStart hPos windowFrom windowTo l) (s120_ok std)
def ownOne (m:Medl) (h:Hub) (w:Span) (s:Sig):Sig×Bool:=
 bif std.cmp .eql s.1 h.2.2 && (std.cmp .geq s.2.1.1 w.1 && (std.cmp .lss s.2.1.1 w.2 && fn151 (m,s))) then (s,true) else ((0,(0,0),0,0,([]:List Int)),false)
def ownS:Medl×Hub×Span×List Sig→Sig×Bool:=fun (m,h,w,l)=>match l with
 | [s]=>ownOne m h w s
 | _=>((0,(0,0),0,0,([]:List Int)),false)
theorem own1 {n s g w d de st p a b:Int} {sy:Bool} {cold:List Bool} {modes:List Mode} {x:Sig}:Runs (s120 std) (t120 std n s g w d de cold modes sy st p a b [x]) (ownOne (n,s,g,w,d,de,cold,modes) (sy,st,p) (a,b) x):=by
 obtain ⟨f,⟨q,r⟩,lv,bn,bb⟩:=x
 unfold t120 ownOne
 rw [runs_more,s120]
 refine (runs_brT rfl).2 (runs_need.2 ⟨rfl,?_⟩)
 have hend:Runs (s120 std) (.more (.c0 ⟨0, [(f,(q,r),lv,bn,bb)],std.len [(f,(q,r),lv,bn,bb)],n,s,g,w,d,de,cold,modes,sy,st,p,a,b,0,0,0,0,0,0,0,0,0,0⟩ (std.bin .add .i64 0 1))) ((0,(0,0),0,0,([]:List Int)),false):=by
  rw [runs_more,s120]
  exact (runs_brF rfl).2 (.ret _)
 cases h1:std.cmp .eql f p
 ·exact (runs_brF h1).2 hend
 refine (runs_brT h1).2 ?_
 cases h2:std.cmp .geq q a
 ·exact (runs_brF h2).2 hend
 refine (runs_brT h2).2 ?_
 cases h3:std.cmp .lss q b
 ·exact (runs_brF h3).2 hend
 refine (runs_brT h3).2 (runs_need.2 ⟨rfl,?_⟩)
 cases h4:fn151 ((n,s,g,w,d,de,cold,modes),f,(q,r),lv,bn,bb)
 ·exact (runs_brF h4).2 hend
 exact (runs_brT h4).2 (runs_more.2 ((runs_brF rfl).2 (.ret _)))
theorem own2 {n s g w d de st p a b:Int} {sy:Bool} {cold:List Bool} {modes:List Mode} {l:List Sig} (h:l.length=1):Runs (s120 std) (t120 std n s g w d de cold modes sy st p a b l) (ownS ((n,s,g,w,d,de,cold,modes),(sy,st,p),(a,b),l)):=by
 match l,h with
 | [x],_=>exact own1
def fn120:(Medl×Hub×Span×List Sig)→(Sig×Bool):=ownS
def pre120:(Medl×Hub×Span×List Sig)→Bool:=fun (_,_,_,l)=>l.length == 1
def sp120:FSpec:=⟨[yMedl,yHub,ySpan,(.slice ySig)], [ySig,.bool],pre120,fn120⟩
theorem run120 {mNodes:Int} {mSlot:Int} {mGap:Int} {mWindow:Int} {mDrift:Int} {mDelay:Int} {mCold:List Bool} {mModes:List Mode} {hSync:Bool} {hStart:Int} {hPos:Int} {windowFrom:Int} {windowTo:Int} {l:List Sig} (h:Ty.hass [yMedl,yHub,ySpan,(.slice ySig)] ((mNodes,mSlot,mGap,mWindow,mDrift,mDelay,mCold,mModes),(hSync,hStart,hPos),(windowFrom,windowTo),l)) (hp:pre120 ((mNodes,mSlot,mGap,mWindow,mDrift,mDelay,mCold,mModes),(hSync,hStart,hPos),(windowFrom,windowTo),l)=true):Runs (s120 std) (t120 std mNodes mSlot mGap mWindow mDrift mDelay mCold mModes hSync hStart hPos windowFrom windowTo l) (fn120 ((mNodes,mSlot,mGap,mWindow,mDrift,mDelay,mCold,mModes),(hSync,hStart,hPos),(windowFrom,windowTo),l)):=by
 exact own2 (by simpa [pre120] using hp)
theorem so120:FSpec.Sound Try.prog 120 sp120:=
 w120_ok.sound _ _ fun ((mNodes,mSlot,mGap,mWindow,mDrift,mDelay,mCold,mModes),(hSync,hStart,hPos),(windowFrom,windowTo),l) hp h=>run120 h hp
def fn121:Medl×List Sig→Sig×Bool:=fun _=>((0,(0,0),0,0,([]:List Int)),false)
def pre121:Medl×List Sig→Bool:=fun _=>false
def sp121:FSpec:=⟨[yMedl,(.slice ySig)], [ySig,.bool],pre121,fn121⟩
theorem so121:FSpec.Sound Try.prog 121 sp121:=⟨(fun _ _ _ _ _ _ h=>by cases h),⟨Try.f121,Try.func121,by kernel_rfl,by kernel_rfl⟩⟩
def t69 (A:Alg) (mNodes:Int) (mSlot:Int) (mGap:Int) (mWindow:Int) (mDrift:Int) (mDelay:Int) (mCold:List Bool) (mModes:List Mode) (hSync:Bool) (hStart:Int) (hPos:Int) (l:List Sig):LT (Hub×Sig×Bool×Int) Empty:=
 .need (A.call (@tt (Medl×Hub)) ((mNodes,mSlot,mGap,mWindow,mDrift,mDelay,mCold,mModes),hSync,hStart,hPos)) (
 .br (A.cmp .neq (A.call fn66 ((mNodes,mSlot,mGap,mWindow,mDrift,mDelay,mCold,mModes),hSync,hStart,hPos)).2 0)
 (.ret ((false,0,0),(0,(0,0),0,0,([]:List Int)),false,(A.call fn66 ((mNodes,mSlot,mGap,mWindow,mDrift,mDelay,mCold,mModes),hSync,hStart,hPos)).2))
 (.need (A.call pre120 ((mNodes,mSlot,mGap,mWindow,mDrift,mDelay,mCold,mModes),(hSync,hStart,hPos),(A.call fn66 ((mNodes,mSlot,mGap,mWindow,mDrift,mDelay,mCold,mModes),hSync,hStart,hPos)).1,l)) (
  .br (A.not hSync)
  (.need (A.call pre121 ((mNodes,mSlot,mGap,mWindow,mDrift,mDelay,mCold,mModes),l)) (
   .br (A.not (A.call fn121 ((mNodes,mSlot,mGap,mWindow,mDrift,mDelay,mCold,mModes),l)).2)
   (.ret ((hSync,hStart,hPos),(0,(0,0),0,0,([]:List Int)),false,0))
   (.need (A.call (@tt (Medl×Hub)) ((mNodes,mSlot,mGap,mWindow,mDrift,mDelay,mCold,mModes),true,(A.bin .sub .i64 (A.call fn121 ((mNodes,mSlot,mGap,mWindow,mDrift,mDelay,mCold,mModes),l)).1.2.1.1 (A.bin .add .i64 mGap mDelay)),(A.call fn121 ((mNodes,mSlot,mGap,mWindow,mDrift,mDelay,mCold,mModes),l)).1.1)) (
    .br (A.not (A.call fn122 ((mNodes,mSlot,mGap,mWindow,mDrift,mDelay,mCold,mModes),true,(A.bin .sub .i64 (A.call fn121 ((mNodes,mSlot,mGap,mWindow,mDrift,mDelay,mCold,mModes),l)).1.2.1.1 (A.bin .add .i64 mGap mDelay)),(A.call fn121 ((mNodes,mSlot,mGap,mWindow,mDrift,mDelay,mCold,mModes),l)).1.1)))
    (.ret ((hSync,hStart,hPos),(0,(0,0),0,0,([]:List Int)),false,0))
    (.need (A.call (@tt (Medl×Hub×Sig)) ((mNodes,mSlot,mGap,mWindow,mDrift,mDelay,mCold,mModes),(true,(A.bin .sub .i64 (A.call fn121 ((mNodes,mSlot,mGap,mWindow,mDrift,mDelay,mCold,mModes),l)).1.2.1.1 (A.bin .add .i64 mGap mDelay)),(A.call fn121 ((mNodes,mSlot,mGap,mWindow,mDrift,mDelay,mCold,mModes),l)).1.1),(A.call fn121 ((mNodes,mSlot,mGap,mWindow,mDrift,mDelay,mCold,mModes),l)).1)) (
     .br (A.not (A.call fn123 ((mNodes,mSlot,mGap,mWindow,mDrift,mDelay,mCold,mModes),(true,(A.bin .sub .i64 (A.call fn121 ((mNodes,mSlot,mGap,mWindow,mDrift,mDelay,mCold,mModes),l)).1.2.1.1 (A.bin .add .i64 mGap mDelay)),(A.call fn121 ((mNodes,mSlot,mGap,mWindow,mDrift,mDelay,mCold,mModes),l)).1.1),(A.call fn121 ((mNodes,mSlot,mGap,mWindow,mDrift,mDelay,mCold,mModes),l)).1)).2)
     (.ret ((true,(A.bin .sub .i64 (A.call fn121 ((mNodes,mSlot,mGap,mWindow,mDrift,mDelay,mCold,mModes),l)).1.2.1.1 (A.bin .add .i64 mGap mDelay)),(A.call fn121 ((mNodes,mSlot,mGap,mWindow,mDrift,mDelay,mCold,mModes),l)).1.1),(0,(0,0),0,0,([]:List Int)),false,0))
     (.eqs ((.agg [.int .i64 false (A.call fn123 ((mNodes,mSlot,mGap,mWindow,mDrift,mDelay,mCold,mModes),(true,(A.bin .sub .i64 (A.call fn121 ((mNodes,mSlot,mGap,mWindow,mDrift,mDelay,mCold,mModes),l)).1.2.1.1 (A.bin .add .i64 mGap mDelay)),(A.call fn121 ((mNodes,mSlot,mGap,mWindow,mDrift,mDelay,mCold,mModes),l)).1.1),(A.call fn121 ((mNodes,mSlot,mGap,mWindow,mDrift,mDelay,mCold,mModes),l)).1)).1.1,.int .i64 false (A.call fn123 ((mNodes,mSlot,mGap,mWindow,mDrift,mDelay,mCold,mModes),(true,(A.bin .sub .i64 (A.call fn121 ((mNodes,mSlot,mGap,mWindow,mDrift,mDelay,mCold,mModes),l)).1.2.1.1 (A.bin .add .i64 mGap mDelay)),(A.call fn121 ((mNodes,mSlot,mGap,mWindow,mDrift,mDelay,mCold,mModes),l)).1.1),(A.call fn121 ((mNodes,mSlot,mGap,mWindow,mDrift,mDelay,mCold,mModes),l)).1)).1.2.1.1,.int .i64 false (A.call fn123 ((mNodes,mSlot,mGap,mWindow,mDrift,mDelay,mCold,mModes),(true,(A.bin .sub .i64 (A.call fn121 ((mNodes,mSlot,mGap,mWindow,mDrift,mDelay,mCold,mModes),l)).1.2.1.1 (A.bin .add .i64 mGap mDelay)),(A.call fn121 ((mNodes,mSlot,mGap,mWindow,mDrift,mDelay,mCold,mModes),l)).1.1),(A.call fn121 ((mNodes,mSlot,mGap,mWindow,mDrift,mDelay,mCold,mModes),l)).1)).1.2.1.2,.int .i64 false (A.call fn123 ((mNodes,mSlot,mGap,mWindow,mDrift,mDelay,mCold,mModes),(true,(A.bin .sub .i64 (A.call fn121 ((mNodes,mSlot,mGap,mWindow,mDrift,mDelay,mCold,mModes),l)).1.2.1.1 (A.bin .add .i64 mGap mDelay)),(A.call fn121 ((mNodes,mSlot,mGap,mWindow,mDrift,mDelay,mCold,mModes),l)).1.1),(A.call fn121 ((mNodes,mSlot,mGap,mWindow,mDrift,mDelay,mCold,mModes),l)).1)).1.2.2.1,.int .i64 false (A.call fn123 ((mNodes,mSlot,mGap,mWindow,mDrift,mDelay,mCold,mModes),(true,(A.bin .sub .i64 (A.call fn121 ((mNodes,mSlot,mGap,mWindow,mDrift,mDelay,mCold,mModes),l)).1.2.1.1 (A.bin .add .i64 mGap mDelay)),(A.call fn121 ((mNodes,mSlot,mGap,mWindow,mDrift,mDelay,mCold,mModes),l)).1.1),(A.call fn121 ((mNodes,mSlot,mGap,mWindow,mDrift,mDelay,mCold,mModes),l)).1)).1.2.2.2.1,.sl (.int .u8) (A.call fn123 ((mNodes,mSlot,mGap,mWindow,mDrift,mDelay,mCold,mModes),(true,(A.bin .sub .i64 (A.call fn121 ((mNodes,mSlot,mGap,mWindow,mDrift,mDelay,mCold,mModes),l)).1.2.1.1 (A.bin .add .i64 mGap mDelay)),(A.call fn121 ((mNodes,mSlot,mGap,mWindow,mDrift,mDelay,mCold,mModes),l)).1.1),(A.call fn121 ((mNodes,mSlot,mGap,mWindow,mDrift,mDelay,mCold,mModes),l)).1)).1.2.2.2.2]:AV)=.agg [.int .i64 false (A.call fn123 ((mNodes,mSlot,mGap,mWindow,mDrift,mDelay,mCold,mModes),(true,(A.bin .sub .i64 (A.call fn121 ((mNodes,mSlot,mGap,mWindow,mDrift,mDelay,mCold,mModes),l)).1.2.1.1 (A.bin .add .i64 mGap mDelay)),(A.call fn121 ((mNodes,mSlot,mGap,mWindow,mDrift,mDelay,mCold,mModes),l)).1.1),(A.call fn121 ((mNodes,mSlot,mGap,mWindow,mDrift,mDelay,mCold,mModes),l)).1)).1.1,.int .i64 false (A.call fn123 ((mNodes,mSlot,mGap,mWindow,mDrift,mDelay,mCold,mModes),(true,(A.bin .sub .i64 (A.call fn121 ((mNodes,mSlot,mGap,mWindow,mDrift,mDelay,mCold,mModes),l)).1.2.1.1 (A.bin .add .i64 mGap mDelay)),(A.call fn121 ((mNodes,mSlot,mGap,mWindow,mDrift,mDelay,mCold,mModes),l)).1.1),(A.call fn121 ((mNodes,mSlot,mGap,mWindow,mDrift,mDelay,mCold,mModes),l)).1)).1.2.1.1,.int .i64 false (A.call fn123 ((mNodes,mSlot,mGap,mWindow,mDrift,mDelay,mCold,mModes),(true,(A.bin .sub .i64 (A.call fn121 ((mNodes,mSlot,mGap,mWindow,mDrift,mDelay,mCold,mModes),l)).1.2.1.1 (A.bin .add .i64 mGap mDelay)),(A.call fn121 ((mNodes,mSlot,mGap,mWindow,mDrift,mDelay,mCold,mModes),l)).1.1),(A.call fn121 ((mNodes,mSlot,mGap,mWindow,mDrift,mDelay,mCold,mModes),l)).1)).1.2.1.2,.int .i64 false (A.call fn123 ((mNodes,mSlot,mGap,mWindow,mDrift,mDelay,mCold,mModes),(true,(A.bin .sub .i64 (A.call fn121 ((mNodes,mSlot,mGap,mWindow,mDrift,mDelay,mCold,mModes),l)).1.2.1.1 (A.bin .add .i64 mGap mDelay)),(A.call fn121 ((mNodes,mSlot,mGap,mWindow,mDrift,mDelay,mCold,mModes),l)).1.1),(A.call fn121 ((mNodes,mSlot,mGap,mWindow,mDrift,mDelay,mCold,mModes),l)).1)).1.2.2.1,.int .i64 false (A.call fn123 ((mNodes,mSlot,mGap,mWindow,mDrift,mDelay,mCold,mModes),(true,(A.bin .sub .i64 (A.call fn121 ((mNodes,mSlot,mGap,mWindow,mDrift,mDelay,mCold,mModes),l)).1.2.1.1 (A.bin .add .i64 mGap mDelay)),(A.call fn121 ((mNodes,mSlot,mGap,mWindow,mDrift,mDelay,mCold,mModes),l)).1.1),(A.call fn121 ((mNodes,mSlot,mGap,mWindow,mDrift,mDelay,mCold,mModes),l)).1)).1.2.2.2.1,.sl (.int .u8) (A.call fn123 ((mNodes,mSlot,mGap,mWindow,mDrift,mDelay,mCold,mModes),(true,(A.bin .sub .i64 (A.call fn121 ((mNodes,mSlot,mGap,mWindow,mDrift,mDelay,mCold,mModes),l)).1.2.1.1 (A.bin .add .i64 mGap mDelay)),(A.call fn121 ((mNodes,mSlot,mGap,mWindow,mDrift,mDelay,mCold,mModes),l)).1.1),(A.call fn121 ((mNodes,mSlot,mGap,mWindow,mDrift,mDelay,mCold,mModes),l)).1)).1.2.2.2.2]) (
      .ret ((true,(A.bin .sub .i64 (A.call fn121 ((mNodes,mSlot,mGap,mWindow,mDrift,mDelay,mCold,mModes),l)).1.2.1.1 (A.bin .add .i64 mGap mDelay)),(A.call fn121 ((mNodes,mSlot,mGap,mWindow,mDrift,mDelay,mCold,mModes),l)).1.1),(A.call fn123 ((mNodes,mSlot,mGap,mWindow,mDrift,mDelay,mCold,mModes),(true,(A.bin .sub .i64 (A.call fn121 ((mNodes,mSlot,mGap,mWindow,mDrift,mDelay,mCold,mModes),l)).1.2.1.1 (A.bin .add .i64 mGap mDelay)),(A.call fn121 ((mNodes,mSlot,mGap,mWindow,mDrift,mDelay,mCold,mModes),l)).1.1),(A.call fn121 ((mNodes,mSlot,mGap,mWindow,mDrift,mDelay,mCold,mModes),l)).1)).1,true,0)))))))))
  (.br (A.not (A.call fn120 ((mNodes,mSlot,mGap,mWindow,mDrift,mDelay,mCold,mModes),(hSync,hStart,hPos),(A.call fn66 ((mNodes,mSlot,mGap,mWindow,mDrift,mDelay,mCold,mModes),hSync,hStart,hPos)).1,l)).2)
   (.ret ((hSync,hStart,hPos),(0,(0,0),0,0,([]:List Int)),false,0))
   (.need (A.call (@tt (Medl×Hub)) ((mNodes,mSlot,mGap,mWindow,mDrift,mDelay,mCold,mModes),hSync,hStart,hPos)) (
   .br (A.not (A.call fn122 ((mNodes,mSlot,mGap,mWindow,mDrift,mDelay,mCold,mModes),hSync,hStart,hPos)))
    (.ret ((hSync,hStart,hPos),(0,(0,0),0,0,([]:List Int)),false,0))
    (.need (A.call (@tt (Medl×Hub×Sig)) ((mNodes,mSlot,mGap,mWindow,mDrift,mDelay,mCold,mModes),(hSync,hStart,hPos),(A.call fn120 ((mNodes,mSlot,mGap,mWindow,mDrift,mDelay,mCold,mModes),(hSync,hStart,hPos),(A.call fn66 ((mNodes,mSlot,mGap,mWindow,mDrift,mDelay,mCold,mModes),hSync,hStart,hPos)).1,l)).1)) (
    .br (A.not (A.call fn123 ((mNodes,mSlot,mGap,mWindow,mDrift,mDelay,mCold,mModes),(hSync,hStart,hPos),(A.call fn120 ((mNodes,mSlot,mGap,mWindow,mDrift,mDelay,mCold,mModes),(hSync,hStart,hPos),(A.call fn66 ((mNodes,mSlot,mGap,mWindow,mDrift,mDelay,mCold,mModes),hSync,hStart,hPos)).1,l)).1)).2)
     (.ret ((hSync,hStart,hPos),(0,(0,0),0,0,([]:List Int)),false,0))
     (.eqs ((.agg [.int .i64 false (A.call fn123 ((mNodes,mSlot,mGap,mWindow,mDrift,mDelay,mCold,mModes),(hSync,hStart,hPos),(A.call fn120 ((mNodes,mSlot,mGap,mWindow,mDrift,mDelay,mCold,mModes),(hSync,hStart,hPos),(A.call fn66 ((mNodes,mSlot,mGap,mWindow,mDrift,mDelay,mCold,mModes),hSync,hStart,hPos)).1,l)).1)).1.1,.int .i64 false (A.call fn123 ((mNodes,mSlot,mGap,mWindow,mDrift,mDelay,mCold,mModes),(hSync,hStart,hPos),(A.call fn120 ((mNodes,mSlot,mGap,mWindow,mDrift,mDelay,mCold,mModes),(hSync,hStart,hPos),(A.call fn66 ((mNodes,mSlot,mGap,mWindow,mDrift,mDelay,mCold,mModes),hSync,hStart,hPos)).1,l)).1)).1.2.1.1,.int .i64 false (A.call fn123 ((mNodes,mSlot,mGap,mWindow,mDrift,mDelay,mCold,mModes),(hSync,hStart,hPos),(A.call fn120 ((mNodes,mSlot,mGap,mWindow,mDrift,mDelay,mCold,mModes),(hSync,hStart,hPos),(A.call fn66 ((mNodes,mSlot,mGap,mWindow,mDrift,mDelay,mCold,mModes),hSync,hStart,hPos)).1,l)).1)).1.2.1.2,.int .i64 false (A.call fn123 ((mNodes,mSlot,mGap,mWindow,mDrift,mDelay,mCold,mModes),(hSync,hStart,hPos),(A.call fn120 ((mNodes,mSlot,mGap,mWindow,mDrift,mDelay,mCold,mModes),(hSync,hStart,hPos),(A.call fn66 ((mNodes,mSlot,mGap,mWindow,mDrift,mDelay,mCold,mModes),hSync,hStart,hPos)).1,l)).1)).1.2.2.1,.int .i64 false (A.call fn123 ((mNodes,mSlot,mGap,mWindow,mDrift,mDelay,mCold,mModes),(hSync,hStart,hPos),(A.call fn120 ((mNodes,mSlot,mGap,mWindow,mDrift,mDelay,mCold,mModes),(hSync,hStart,hPos),(A.call fn66 ((mNodes,mSlot,mGap,mWindow,mDrift,mDelay,mCold,mModes),hSync,hStart,hPos)).1,l)).1)).1.2.2.2.1,.sl (.int .u8) (A.call fn123 ((mNodes,mSlot,mGap,mWindow,mDrift,mDelay,mCold,mModes),(hSync,hStart,hPos),(A.call fn120 ((mNodes,mSlot,mGap,mWindow,mDrift,mDelay,mCold,mModes),(hSync,hStart,hPos),(A.call fn66 ((mNodes,mSlot,mGap,mWindow,mDrift,mDelay,mCold,mModes),hSync,hStart,hPos)).1,l)).1)).1.2.2.2.2]:AV)=.agg [.int .i64 false (A.call fn123 ((mNodes,mSlot,mGap,mWindow,mDrift,mDelay,mCold,mModes),(hSync,hStart,hPos),(A.call fn120 ((mNodes,mSlot,mGap,mWindow,mDrift,mDelay,mCold,mModes),(hSync,hStart,hPos),(A.call fn66 ((mNodes,mSlot,mGap,mWindow,mDrift,mDelay,mCold,mModes),hSync,hStart,hPos)).1,l)).1)).1.1,.int .i64 false (A.call fn123 ((mNodes,mSlot,mGap,mWindow,mDrift,mDelay,mCold,mModes),(hSync,hStart,hPos),(A.call fn120 ((mNodes,mSlot,mGap,mWindow,mDrift,mDelay,mCold,mModes),(hSync,hStart,hPos),(A.call fn66 ((mNodes,mSlot,mGap,mWindow,mDrift,mDelay,mCold,mModes),hSync,hStart,hPos)).1,l)).1)).1.2.1.1,.int .i64 false (A.call fn123 ((mNodes,mSlot,mGap,mWindow,mDrift,mDelay,mCold,mModes),(hSync,hStart,hPos),(A.call fn120 ((mNodes,mSlot,mGap,mWindow,mDrift,mDelay,mCold,mModes),(hSync,hStart,hPos),(A.call fn66 ((mNodes,mSlot,mGap,mWindow,mDrift,mDelay,mCold,mModes),hSync,hStart,hPos)).1,l)).1)).1.2.1.2,.int .i64 false (A.call fn123 ((mNodes,mSlot,mGap,mWindow,mDrift,mDelay,mCold,mModes),(hSync,hStart,hPos),(A.call fn120 ((mNodes,mSlot,mGap,mWindow,mDrift,mDelay,mCold,mModes),(hSync,hStart,hPos),(A.call fn66 ((mNodes,mSlot,mGap,mWindow,mDrift,mDelay,mCold,mModes),hSync,hStart,hPos)).1,l)).1)).1.2.2.1,.int .i64 false (A.call fn123 ((mNodes,mSlot,mGap,mWindow,mDrift,mDelay,mCold,mModes),(hSync,hStart,hPos),(A.call fn120 ((mNodes,mSlot,mGap,mWindow,mDrift,mDelay,mCold,mModes),(hSync,hStart,hPos),(A.call fn66 ((mNodes,mSlot,mGap,mWindow,mDrift,mDelay,mCold,mModes),hSync,hStart,hPos)).1,l)).1)).1.2.2.2.1,.sl (.int .u8) (A.call fn123 ((mNodes,mSlot,mGap,mWindow,mDrift,mDelay,mCold,mModes),(hSync,hStart,hPos),(A.call fn120 ((mNodes,mSlot,mGap,mWindow,mDrift,mDelay,mCold,mModes),(hSync,hStart,hPos),(A.call fn66 ((mNodes,mSlot,mGap,mWindow,mDrift,mDelay,mCold,mModes),hSync,hStart,hPos)).1,l)).1)).1.2.2.2.2]) (
     .ret ((hSync,hStart,hPos),(A.call fn123 ((mNodes,mSlot,mGap,mWindow,mDrift,mDelay,mCold,mModes),(hSync,hStart,hPos),(A.call fn120 ((mNodes,mSlot,mGap,mWindow,mDrift,mDelay,mCold,mModes),(hSync,hStart,hPos),(A.call fn66 ((mNodes,mSlot,mGap,mWindow,mDrift,mDelay,mCold,mModes),hSync,hStart,hPos)).1,l)).1)).1,true,0)))))))))))
noncomputable def E69 (A:Alg):Info (Ty.Ts [yHub,ySig,.bool,(.int .i64)]):={ti:=tys,fns:=[(69,Try.f69)],sps:=[(66,sp66),(120,sp120),(121,sp121),(122,sp122),(123,sp123)],stops:=[],cuts:=[],consts:=[],fin:=finD A [yHub,ySig,.bool,(.int .i64)]}
theorem t69_ok (A:Alg) (mNodes:Int) (mSlot:Int) (mGap:Int) (mWindow:Int) (mDrift:Int) (mDelay:Int) (mCold:List Bool) (mModes:List Mode) (hSync:Bool) (hStart:Int) (hPos:Int) (l:List Sig):run A (E69 A) 133 (startC 69 Try.f69 (dvals A [yMedl,yHub,(.slice ySig)] ((mNodes,mSlot,mGap,mWindow,mDrift,mDelay,mCold,mModes),(hSync,hStart,hPos),l)))=(t69 A mNodes mSlot mGap mWindow mDrift mDelay mCold mModes hSync hStart hPos l).tr Empty.elim:=by kernel_rfl
def w69:Walk Try.prog 69 [yMedl,yHub,(.slice ySig)] [yHub,ySig,.bool,(.int .i64)] Empty:=⟨fun ((mNodes,mSlot,mGap,mWindow,mDrift,mDelay,mCold,mModes),(hSync,hStart,hPos),l)=>t69 std mNodes mSlot mGap mWindow mDrift mDelay mCold mModes hSync hStart hPos l,Empty.elim⟩
theorem w69_ok:w69.Ok:=
 walk_ok (E:=E69 std) ⟨tys_fit,fns_cons Try.func69 (by kernel_rfl) (fns_nil),sps_cons so66 (sps_cons so120 (sps_cons so121 (sps_cons so122 (sps_cons so123 (sps_nil))))),by kernel_rfl⟩ rfl rfl rfl (by kernel_rfl) w69 Empty.elim 133 (fun ((mNodes,mSlot,mGap,mWindow,mDrift,mDelay,mCold,mModes),(hSync,hStart,hPos),l)=>t69_ok std mNodes mSlot mGap mWindow mDrift mDelay mCold mModes hSync hStart hPos l) (fun y=>y.elim)
def fn69:(Medl×Hub×List Sig)→(Hub×Sig×Bool×Int):=fun ((mNodes,mSlot,mGap,mWindow,mDrift,mDelay,mCold,mModes),(hSync,hStart,hPos),l)=>(t69 std mNodes mSlot mGap mWindow mDrift mDelay mCold mModes hSync hStart hPos l).val (Ty.dflts [yHub,ySig,.bool,(.int .i64)])
def pre69:(Medl×Hub×List Sig)→Bool:=fun (_,h,l)=>h.1 && l.length == 1
def sp69:FSpec:=⟨[yMedl,yHub,(.slice ySig)], [yHub,ySig,.bool,(.int .i64)],pre69,fn69⟩
theorem eqs69 (mNodes:Int) (mSlot:Int) (mGap:Int) (mWindow:Int) (mDrift:Int) (mDelay:Int) (mCold:List Bool) (mModes:List Mode) (hSync:Bool) (hStart:Int) (hPos:Int) (l:List Sig):(t69 std mNodes mSlot mGap mWindow mDrift mDelay mCold mModes hSync hStart hPos l).Eqs:=by simp only [t69,LT.Eqs,and_self,true_and,and_true]
theorem pre69_ok {mNodes:Int} {mSlot:Int} {mGap:Int} {mWindow:Int} {mDrift:Int} {mDelay:Int} {mCold:List Bool} {mModes:List Mode} {hSync:Bool} {hStart:Int} {hPos:Int} {l:List Sig} (h:Ty.hass [yMedl,yHub,(.slice ySig)] ((mNodes,mSlot,mGap,mWindow,mDrift,mDelay,mCold,mModes),(hSync,hStart,hPos),l)) (hp:pre69 ((mNodes,mSlot,mGap,mWindow,mDrift,mDelay,mCold,mModes),(hSync,hStart,hPos),l)=true):(t69 std mNodes mSlot mGap mWindow mDrift mDelay mCold mModes hSync hStart hPos l).pre=true:=by
 simp only [pre69,Bool.and_eq_true,beq_iff_eq] at hp
 obtain ⟨rfl,hl⟩:=hp
 simp only [t69,LT.pre,std_call,tt_eq,Bool.true_and,std_not,Bool.not_true,cond_false,pre120,hl]
 simp
theorem so69:FSpec.Sound Try.prog 69 sp69:=
 w69_ok.sound _ _ fun ((mNodes,mSlot,mGap,mWindow,mDrift,mDelay,mCold,mModes),(hSync,hStart,hPos),l) hp h=>LT.runs (d:=Ty.dflts [yHub,ySig,.bool,(.int .i64)]) (eqs69 mNodes mSlot mGap mWindow mDrift mDelay mCold mModes hSync hStart hPos l) (pre69_ok h hp)
def t67 (A:Alg):LT Bool Empty:=
 .need (A.cmp .leq (A.len [true]) 70368744177664) (
 .need (A.cmp .leq (A.len ([2]:List Int)) 15637498706147) (
 .need (A.cmp .leq (A.len [true]) 70368744177664) (
  .need (A.cmp .leq (A.len (A.app [true] [true])) 70368744177664) (
  .need (A.cmp .leq (A.len (A.app ([2]:List Int) ([2]:List Int))) 15637498706147) (
   .need (A.cmp .leq (A.len (A.app [true] [true])) 70368744177664) (
   .need (A.cmp .leq (A.len (A.app (A.app [true] [true]) [true])) 70368744177664) (
    .need (A.cmp .leq (A.len (A.app (A.app ([2]:List Int) ([2]:List Int)) ([2]:List Int))) 15637498706147) (
    .need (A.cmp .leq (A.len (A.app (A.app [true] [true]) [true])) 70368744177664) (
     .need (A.cmp .leq (A.len (A.app (A.app (A.app [true] [true]) [true]) [true])) 70368744177664) (
     .need (A.cmp .leq (A.len (A.app (A.app (A.app ([2]:List Int) ([2]:List Int)) ([2]:List Int)) ([2]:List Int))) 15637498706147) (
      .need (A.cmp .leq (A.len (A.app (A.app (A.app [true] [true]) [true]) [true])) 70368744177664) (
      .need (A.call (@tt Medl) (4,0,38,16,0,1,(A.app (A.app (A.app [true] [true]) [true]) [true]), [((A.app (A.app (A.app ([2]:List Int) ([2]:List Int)) ([2]:List Int)) ([2]:List Int)),(A.app (A.app (A.app [true] [true]) [true]) [true]), [true])])) (
       .eqs (IntKind.i64=IntKind.i64∧(76:Int)=76) (
       .eqs (IntKind.i64=IntKind.i64∧(38:Int)=38) (
        .eqs ((.ptr 1 2:AV)=.ptr 1 2) (
        .need (A.call (@tt ((Int×Int×(Int×Int×Int×Int×Int)×Int×List Int))) (3,0,(0,1,0,0,15),0,([]:List Int))) (
         .need (A.call (@tt (Int×Int×Int×Bits)) (1,130,45,(A.call fn40 (3,0,(0,1,0,0,15),0,([]:List Int))).1)) (
         .need (A.call pre69 ((4,(A.bin .add .i64 76 (A.call fn149 (4,0,38,16,0,1,(A.app (A.app (A.app [true] [true]) [true]) [true]), [((A.app (A.app (A.app ([2]:List Int) ([2]:List Int)) ([2]:List Int)) ([2]:List Int)),(A.app (A.app (A.app [true] [true]) [true]) [true]), [true])]))),38,16,0,1,(A.app (A.app (A.app [true] [true]) [true]) [true]), [((A.app (A.app (A.app ([2]:List Int) ([2]:List Int)) ([2]:List Int)) ([2]:List Int)),(A.app (A.app (A.app [true] [true]) [true]) [true]), [true])]),(true,100,1), [(A.call fn68 (1,130,45,(A.call fn40 (3,0,(0,1,0,0,15),0,([]:List Int))).1)).1])) (
          .need (A.call pre69 ((4,(A.bin .add .i64 76 (A.call fn149 (4,0,38,16,0,1,(A.app (A.app (A.app [true] [true]) [true]) [true]), [((A.app (A.app (A.app ([2]:List Int) ([2]:List Int)) ([2]:List Int)) ([2]:List Int)),(A.app (A.app (A.app [true] [true]) [true]) [true]), [true])]))),38,16,0,1,(A.app (A.app (A.app [true] [true]) [true]) [true]), [((A.app (A.app (A.app ([2]:List Int) ([2]:List Int)) ([2]:List Int)) ([2]:List Int)),(A.app (A.app (A.app [true] [true]) [true]) [true]), [true])]),(true,100,2), [(A.call fn68 (1,130,45,(A.call fn40 (3,0,(0,1,0,0,15),0,([]:List Int))).1)).1])) (
          .br (A.cmp .eql (A.call fn40 (3,0,(0,1,0,0,15),0,([]:List Int))).2 0)
           (.br (A.cmp .eql (A.call fn68 (1,130,45,(A.call fn40 (3,0,(0,1,0,0,15),0,([]:List Int))).1)).2 0)
           (.br (A.cmp .eql (A.call fn69 ((4,(A.bin .add .i64 76 (A.call fn149 (4,0,38,16,0,1,(A.app (A.app (A.app [true] [true]) [true]) [true]), [((A.app (A.app (A.app ([2]:List Int) ([2]:List Int)) ([2]:List Int)) ([2]:List Int)),(A.app (A.app (A.app [true] [true]) [true]) [true]), [true])]))),38,16,0,1,(A.app (A.app (A.app [true] [true]) [true]) [true]), [((A.app (A.app (A.app ([2]:List Int) ([2]:List Int)) ([2]:List Int)) ([2]:List Int)),(A.app (A.app (A.app [true] [true]) [true]) [true]), [true])]),(true,100,1), [(A.call fn68 (1,130,45,(A.call fn40 (3,0,(0,1,0,0,15),0,([]:List Int))).1)).1])).2.2.2 0)
            (.br (A.call fn69 ((4,(A.bin .add .i64 76 (A.call fn149 (4,0,38,16,0,1,(A.app (A.app (A.app [true] [true]) [true]) [true]), [((A.app (A.app (A.app ([2]:List Int) ([2]:List Int)) ([2]:List Int)) ([2]:List Int)),(A.app (A.app (A.app [true] [true]) [true]) [true]), [true])]))),38,16,0,1,(A.app (A.app (A.app [true] [true]) [true]) [true]), [((A.app (A.app (A.app ([2]:List Int) ([2]:List Int)) ([2]:List Int)) ([2]:List Int)),(A.app (A.app (A.app [true] [true]) [true]) [true]), [true])]),(true,100,1), [(A.call fn68 (1,130,45,(A.call fn40 (3,0,(0,1,0,0,15),0,([]:List Int))).1)).1])).2.2.1
            (.br (A.cmp .eql (A.call fn69 ((4,(A.bin .add .i64 76 (A.call fn149 (4,0,38,16,0,1,(A.app (A.app (A.app [true] [true]) [true]) [true]), [((A.app (A.app (A.app ([2]:List Int) ([2]:List Int)) ([2]:List Int)) ([2]:List Int)),(A.app (A.app (A.app [true] [true]) [true]) [true]), [true])]))),38,16,0,1,(A.app (A.app (A.app [true] [true]) [true]) [true]), [((A.app (A.app (A.app ([2]:List Int) ([2]:List Int)) ([2]:List Int)) ([2]:List Int)),(A.app (A.app (A.app [true] [true]) [true]) [true]), [true])]),(true,100,1), [(A.call fn68 (1,130,45,(A.call fn40 (3,0,(0,1,0,0,15),0,([]:List Int))).1)).1])).2.1.2.1.1 139)
             (.br (A.cmp .eql (A.call fn69 ((4,(A.bin .add .i64 76 (A.call fn149 (4,0,38,16,0,1,(A.app (A.app (A.app [true] [true]) [true]) [true]), [((A.app (A.app (A.app ([2]:List Int) ([2]:List Int)) ([2]:List Int)) ([2]:List Int)),(A.app (A.app (A.app [true] [true]) [true]) [true]), [true])]))),38,16,0,1,(A.app (A.app (A.app [true] [true]) [true]) [true]), [((A.app (A.app (A.app ([2]:List Int) ([2]:List Int)) ([2]:List Int)) ([2]:List Int)),(A.app (A.app (A.app [true] [true]) [true]) [true]), [true])]),(true,100,1), [(A.call fn68 (1,130,45,(A.call fn40 (3,0,(0,1,0,0,15),0,([]:List Int))).1)).1])).2.1.2.2.1 100)
             (.br (A.cmp .eql (A.call fn69 ((4,(A.bin .add .i64 76 (A.call fn149 (4,0,38,16,0,1,(A.app (A.app (A.app [true] [true]) [true]) [true]), [((A.app (A.app (A.app ([2]:List Int) ([2]:List Int)) ([2]:List Int)) ([2]:List Int)),(A.app (A.app (A.app [true] [true]) [true]) [true]), [true])]))),38,16,0,1,(A.app (A.app (A.app [true] [true]) [true]) [true]), [((A.app (A.app (A.app ([2]:List Int) ([2]:List Int)) ([2]:List Int)) ([2]:List Int)),(A.app (A.app (A.app [true] [true]) [true]) [true]), [true])]),(true,100,2), [(A.call fn68 (1,130,45,(A.call fn40 (3,0,(0,1,0,0,15),0,([]:List Int))).1)).1])).2.2.2 0)
              (.ret (A.not (A.call fn69 ((4,(A.bin .add .i64 76 (A.call fn149 (4,0,38,16,0,1,(A.app (A.app (A.app [true] [true]) [true]) [true]), [((A.app (A.app (A.app ([2]:List Int) ([2]:List Int)) ([2]:List Int)) ([2]:List Int)),(A.app (A.app (A.app [true] [true]) [true]) [true]), [true])]))),38,16,0,1,(A.app (A.app (A.app [true] [true]) [true]) [true]), [((A.app (A.app (A.app ([2]:List Int) ([2]:List Int)) ([2]:List Int)) ([2]:List Int)),(A.app (A.app (A.app [true] [true]) [true]) [true]), [true])]),(true,100,2), [(A.call fn68 (1,130,45,(A.call fn40 (3,0,(0,1,0,0,15),0,([]:List Int))).1)).1])).2.2.1))
              (.ret false))
             (.ret false))
             (.ret false))
            (.ret false))
            (.ret false))
           (.ret false))
           (.ret false)))))))))))))))))))))
noncomputable def E67 (A:Alg):Info (Ty.Ts [.bool]):={ti:=tys,fns:=[(67,Try.f67),(117,Try.f117)],sps:=[(40,sp40),(68,sp68),(69,sp69),(149,sp149)],stops:=[],cuts:=[],consts:=[],fin:=finD A [.bool]}
theorem t67_ok (A:Alg):run A (E67 A) 402 (startC 67 Try.f67 (dvals A [] ()))=(t67 A).tr Empty.elim:=by kernel_rfl
def w67:Walk Try.prog 67 [] [.bool] Empty:=⟨fun _=>t67 std,Empty.elim⟩
theorem w67_ok:w67.Ok:=
 walk_ok (E:=E67 std) ⟨tys_fit,fns_cons Try.func67 (by kernel_rfl) (fns_cons Try.func117 (by kernel_rfl) (fns_nil)),sps_cons so40 (sps_cons so68 (sps_cons so69 (sps_cons so149 (sps_nil)))),by kernel_rfl⟩ rfl rfl rfl (by kernel_rfl) w67 Empty.elim 402 (fun _=>t67_ok std) (fun y=>y.elim)
def fn67:Unit→Bool:=fun _=>(t67 std).val (Ty.dflts [.bool])
def sp67:FSpec:=⟨[], [.bool],(@tt Unit),fn67⟩
theorem eqs67:(t67 std).Eqs:=by simp only [t67,LT.Eqs,and_self,true_and,and_true]
theorem pre67_ok (h:Ty.hass [] ()):(t67 std).pre=true:=by
 kernel_rfl
theorem so67:FSpec.Sound Try.prog 67 sp67:=
 w67_ok.sound _ _ fun _ _ h=>LT.runs (d:=Ty.dflts [.bool]) (eqs67) (pre67_ok h)
theorem begun21:fn67 ()=true:=by kernel_rfl
end Go.Ev.M
