/-
  PROVED: the statement HubTells of its function. Conditions: none.
-/
import Derived.Test.YtafbddhnoacldaaGreatHd
namespace Go.Ev.M
open Go.Proofs
set_option maxRecDepth 100000
set_option linter.unusedVariables false
set_option linter.unusedSimpArgs false
open Go.Ev.Pl
def t300 (A:Alg) (mNodes:Int) (mSlot:Int) (mGap:Int) (mWindow:Int) (mDrift:Int) (mDelay:Int) (mCold:List Bool) (mModes:List Mode) (hSync:Bool) (hStart:Int) (hPos:Int) (port:Int) (bN:Int) (bB:List Int):LT Bool Empty:=
 .need (A.call (@tt (Medl×Hub)) ((mNodes,mSlot,mGap,mWindow,mDrift,mDelay,mCold,mModes),hSync,hStart,hPos)) (
 .need (A.call (@tt (Medl×Hub)) ((mNodes,mSlot,mGap,mWindow,mDrift,mDelay,mCold,mModes),hSync,hStart,hPos)) (
 .need (A.call (@tt (Medl×Hub)) ((mNodes,mSlot,mGap,mWindow,mDrift,mDelay,mCold,mModes),hSync,hStart,hPos)) (
  .need (A.call (@tt (Medl×Hub)) ((mNodes,mSlot,mGap,mWindow,mDrift,mDelay,mCold,mModes),hSync,hStart,hPos)) (
  .need (A.call (@tt (Medl×Hub)) ((mNodes,mSlot,mGap,mWindow,mDrift,mDelay,mCold,mModes),hSync,hStart,hPos)) (
   .need (A.call (@tt (Medl×Hub)) ((mNodes,mSlot,mGap,mWindow,mDrift,mDelay,mCold,mModes),hSync,hStart,hPos)) (
   .need (A.call (@tt Unit) ()) (
    .br (A.call fn67 ())
    (.need (A.call (@tt (Medl×Hub)) ((mNodes,mSlot,mGap,mWindow,mDrift,mDelay,mCold,mModes),hSync,hStart,hPos)) (
     .need (A.call (@tt (Medl×Hub)) ((mNodes,mSlot,mGap,mWindow,mDrift,mDelay,mCold,mModes),hSync,hStart,hPos)) (
     .br (A.cmp .eql (A.call fn71 ((mNodes,mSlot,mGap,mWindow,mDrift,mDelay,mCold,mModes),hSync,hStart,hPos)) (A.call fn318 ((mNodes,mSlot,mGap,mWindow,mDrift,mDelay,mCold,mModes),hSync,hStart,hPos)))
      (.br (A.and (A.cmp .eql (A.call fn66 ((mNodes,mSlot,mGap,mWindow,mDrift,mDelay,mCold,mModes),hSync,hStart,hPos)).1.1 (A.call fn314 ((mNodes,mSlot,mGap,mWindow,mDrift,mDelay,mCold,mModes),hSync,hStart,hPos)).1.1) (A.and (A.cmp .eql (A.call fn66 ((mNodes,mSlot,mGap,mWindow,mDrift,mDelay,mCold,mModes),hSync,hStart,hPos)).1.2 (A.call fn314 ((mNodes,mSlot,mGap,mWindow,mDrift,mDelay,mCold,mModes),hSync,hStart,hPos)).1.2) true))
      (.br (A.cmp .eql (A.call fn66 ((mNodes,mSlot,mGap,mWindow,mDrift,mDelay,mCold,mModes),hSync,hStart,hPos)).2 (A.call fn314 ((mNodes,mSlot,mGap,mWindow,mDrift,mDelay,mCold,mModes),hSync,hStart,hPos)).2)
       (.br (A.and (A.beq (A.call fn72 ((mNodes,mSlot,mGap,mWindow,mDrift,mDelay,mCold,mModes),hSync,hStart,hPos)).1.1 (A.call fn315 ((mNodes,mSlot,mGap,mWindow,mDrift,mDelay,mCold,mModes),hSync,hStart,hPos)).1.1) (A.and (A.cmp .eql (A.call fn72 ((mNodes,mSlot,mGap,mWindow,mDrift,mDelay,mCold,mModes),hSync,hStart,hPos)).1.2.1 (A.call fn315 ((mNodes,mSlot,mGap,mWindow,mDrift,mDelay,mCold,mModes),hSync,hStart,hPos)).1.2.1) (A.and (A.cmp .eql (A.call fn72 ((mNodes,mSlot,mGap,mWindow,mDrift,mDelay,mCold,mModes),hSync,hStart,hPos)).1.2.2 (A.call fn315 ((mNodes,mSlot,mGap,mWindow,mDrift,mDelay,mCold,mModes),hSync,hStart,hPos)).1.2.2) true)))
       (.br (A.cmp .eql (A.call fn72 ((mNodes,mSlot,mGap,mWindow,mDrift,mDelay,mCold,mModes),hSync,hStart,hPos)).2 (A.call fn315 ((mNodes,mSlot,mGap,mWindow,mDrift,mDelay,mCold,mModes),hSync,hStart,hPos)).2)
        (.br (A.cmp .eql (A.call fn316 ((mNodes,mSlot,mGap,mWindow,mDrift,mDelay,mCold,mModes),hSync,hStart,hPos)).1 (A.call fn317 ((mNodes,mSlot,mGap,mWindow,mDrift,mDelay,mCold,mModes),hSync,hStart,hPos)).1)
        (.br (A.cmp .eql (A.call fn316 ((mNodes,mSlot,mGap,mWindow,mDrift,mDelay,mCold,mModes),hSync,hStart,hPos)).2 (A.call fn317 ((mNodes,mSlot,mGap,mWindow,mDrift,mDelay,mCold,mModes),hSync,hStart,hPos)).2)
         (.need (A.call (@tt (Medl×Int×Bits)) ((mNodes,mSlot,mGap,mWindow,mDrift,mDelay,mCold,mModes),port,bN,bB)) (
         .need (A.call (@tt (Medl×Int×Bits)) ((mNodes,mSlot,mGap,mWindow,mDrift,mDelay,mCold,mModes),port,bN,bB)) (
          .ret (A.beq (A.call fn172 ((mNodes,mSlot,mGap,mWindow,mDrift,mDelay,mCold,mModes),port,bN,bB)) (A.call fn319 ((mNodes,mSlot,mGap,mWindow,mDrift,mDelay,mCold,mModes),port,bN,bB))))))
         (.ret false))
        (.ret false))
        (.ret false))
       (.ret false))
       (.ret false))
      (.ret false))
      (.ret false))))
    (.ret false))))))))
noncomputable def E300 (A:Alg):Info (Ty.Ts [.bool]):={ti:=tys,fns:=[(3,Tryz.f3)],sps:=[(17,sp66),(23,sp67),(24,sp71),(19,sp72),(26,sp172),(18,sp314),(20,sp315),(21,sp316),(22,sp317),(25,sp318),(27,sp319)],stops:=[],cuts:=[],consts:=[],fin:=finD A [.bool]}
theorem t300_ok (A:Alg) (mNodes:Int) (mSlot:Int) (mGap:Int) (mWindow:Int) (mDrift:Int) (mDelay:Int) (mCold:List Bool) (mModes:List Mode) (hSync:Bool) (hStart:Int) (hPos:Int) (port:Int) (bN:Int) (bB:List Int):run A (E300 A) 138 (startC 3 Tryz.f3 (dvals A [yMedl,yHub,(.int .i64),yBits] ((mNodes,mSlot,mGap,mWindow,mDrift,mDelay,mCold,mModes),(hSync,hStart,hPos),port,bN,bB)))=(t300 A mNodes mSlot mGap mWindow mDrift mDelay mCold mModes hSync hStart hPos port bN bB).tr Empty.elim:=by kernel_rfl
def w300:Walk Tryz.prog 3 [yMedl,yHub,(.int .i64),yBits] [.bool] Empty:=⟨fun ((mNodes,mSlot,mGap,mWindow,mDrift,mDelay,mCold,mModes),(hSync,hStart,hPos),port,bN,bB)=>t300 std mNodes mSlot mGap mWindow mDrift mDelay mCold mModes hSync hStart hPos port bN bB,Empty.elim⟩
theorem w300_ok:w300.Ok:=
 walk_ok (E:=E300 std) ⟨tys_fit,fns_cons Tryz.func3 (by kernel_rfl) (fns_nil),sps_cons so66 (sps_cons so67 (sps_cons so71 (sps_cons so72 (sps_cons so172 (sps_cons so314 (sps_cons so315 (sps_cons so316 (sps_cons so317 (sps_cons so318 (sps_cons so319 (sps_nil))))))))))),by kernel_rfl⟩ rfl rfl rfl (by kernel_rfl) w300 Empty.elim 138 (fun ((mNodes,mSlot,mGap,mWindow,mDrift,mDelay,mCold,mModes),(hSync,hStart,hPos),port,bN,bB)=>t300_ok std mNodes mSlot mGap mWindow mDrift mDelay mCold mModes hSync hStart hPos port bN bB) (fun y=>y.elim)
def fn300:(Medl×Hub×Int×Bits)→Bool:=fun ((mNodes,mSlot,mGap,mWindow,mDrift,mDelay,mCold,mModes),(hSync,hStart,hPos),port,bN,bB)=>(t300 std mNodes mSlot mGap mWindow mDrift mDelay mCold mModes hSync hStart hPos port bN bB).val (Ty.dflts [.bool])
def sp300:FSpec:=⟨[yMedl,yHub,(.int .i64),yBits], [.bool],(@tt (Medl×Hub×Int×Bits)),fn300⟩
theorem eqs300 (mNodes:Int) (mSlot:Int) (mGap:Int) (mWindow:Int) (mDrift:Int) (mDelay:Int) (mCold:List Bool) (mModes:List Mode) (hSync:Bool) (hStart:Int) (hPos:Int) (port:Int) (bN:Int) (bB:List Int):(t300 std mNodes mSlot mGap mWindow mDrift mDelay mCold mModes hSync hStart hPos port bN bB).Eqs:=by simp only [t300,LT.Eqs,and_self,true_and,and_true]
theorem pre300_ok {mNodes:Int} {mSlot:Int} {mGap:Int} {mWindow:Int} {mDrift:Int} {mDelay:Int} {mCold:List Bool} {mModes:List Mode} {hSync:Bool} {hStart:Int} {hPos:Int} {port:Int} {bN:Int} {bB:List Int} (h:Ty.hass [yMedl,yHub,(.int .i64),yBits] ((mNodes,mSlot,mGap,mWindow,mDrift,mDelay,mCold,mModes),(hSync,hStart,hPos),port,bN,bB)):(t300 std mNodes mSlot mGap mWindow mDrift mDelay mCold mModes hSync hStart hPos port bN bB).pre=true:=by
 simp [t300,LT.pre,std_call,tt_eq]
theorem so300:FSpec.Sound Tryz.prog 3 sp300:=
 w300_ok.sound _ _ fun ((mNodes,mSlot,mGap,mWindow,mDrift,mDelay,mCold,mModes),(hSync,hStart,hPos),port,bN,bB) _ h=>LT.runs (d:=Ty.dflts [.bool]) (eqs300 mNodes mSlot mGap mWindow mDrift mDelay mCold mModes hSync hStart hPos port bN bB) (pre300_ok h)
theorem has_300 {m:Medl} {h:Hub} {q n:Int} {b:List Int} (hx:Ty.hass [yMedl,yHub,(.int .i64),yBits] (m,h,q,n,b)):bytesOk b∧b.length≤140737488355328:=by
 have h2:Ty.has (.slice (.int .u8)) b:=hx.2.2.2.2
 exact ⟨h2.2,h2.1⟩
theorem law300 (x:Medl×Hub×Int×Bits) (h:Ty.hass [yMedl,yHub,(.int .i64),yBits] x):fn300 x=true:=by
 obtain ⟨⟨n,s,g,w,d,de,cold,modes⟩,⟨sy,st,p⟩,q,bN,bB⟩:=x
 obtain ⟨hb,hl⟩:=has_300 h
 simp only [fn300,t300,LT.val,std_call,begun21,hubCheck_eq,hubWin_eq,hubNext_eq,hubOut_eq,trust_eq hb hl,std_cmp_eql,std_beq,std_and,beq_self_eq_true,Bool.and_self,cond_true]
end Go.Ev.M
