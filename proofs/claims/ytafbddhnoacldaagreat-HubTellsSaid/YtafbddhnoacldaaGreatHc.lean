/-
  PROVED: what functions of the packages hub and metronomeref21 compute. Conditions: none.
-/
import Derived.Test.YtafbddhnoacldaaGreatHb
import Derived.Test.YtafbddhnoacldaaGreatDb
namespace Go.Ev.M
open Go.Proofs
set_option maxRecDepth 100000
set_option linter.unusedVariables false
set_option linter.unusedSimpArgs false
open Go.Ev.Pl
def t122 (A:Alg) (mNodes:Int) (mSlot:Int) (mGap:Int) (mWindow:Int) (mDrift:Int) (mDelay:Int) (mCold:List Bool) (mModes:List Mode) (hSync:Bool) (hStart:Int) (hPos:Int):LT Bool Empty:=
 .br (A.cmp .lss hPos 0)
 (.ret false)
 (.br (A.cmp .geq hPos mNodes)
 (.ret false)
 (.br (A.cmp .lss hStart 0)
  (.ret false)
  (.br (A.cmp .gtr hStart 1099494850560)
  (.ret false)
  (.br (A.not hSync)
   (.br (A.not (A.and (A.beq hSync false) (A.and (A.cmp .eql hStart 0) (A.and (A.cmp .eql hPos 0) true))))
   (.ret false)
   (.ret true))
   (.ret true)))))
noncomputable def E122 (A:Alg):Info (Ty.Ts [.bool]):={ti:=tys,fns:=[(77,Tryz.f77)],sps:=[],stops:=[],cuts:=[],consts:=[],fin:=finD A [.bool]}
theorem t122_ok (A:Alg) (mNodes:Int) (mSlot:Int) (mGap:Int) (mWindow:Int) (mDrift:Int) (mDelay:Int) (mCold:List Bool) (mModes:List Mode) (hSync:Bool) (hStart:Int) (hPos:Int):run A (E122 A) 70 (startC 77 Tryz.f77 (dvals A [yMedl,yHub] ((mNodes,mSlot,mGap,mWindow,mDrift,mDelay,mCold,mModes),hSync,hStart,hPos)))=(t122 A mNodes mSlot mGap mWindow mDrift mDelay mCold mModes hSync hStart hPos).tr Empty.elim:=by kernel_rfl
def w122:Walk Tryz.prog 77 [yMedl,yHub] [.bool] Empty:=⟨fun ((mNodes,mSlot,mGap,mWindow,mDrift,mDelay,mCold,mModes),hSync,hStart,hPos)=>t122 std mNodes mSlot mGap mWindow mDrift mDelay mCold mModes hSync hStart hPos,Empty.elim⟩
theorem w122_ok:w122.Ok:=
 walk_ok (E:=E122 std) ⟨tys_fit,fns_cons Tryz.func77 (by kernel_rfl) (fns_nil),sps_nil,by kernel_rfl⟩ rfl rfl rfl (by kernel_rfl) w122 Empty.elim 70 (fun ((mNodes,mSlot,mGap,mWindow,mDrift,mDelay,mCold,mModes),hSync,hStart,hPos)=>t122_ok std mNodes mSlot mGap mWindow mDrift mDelay mCold mModes hSync hStart hPos) (fun y=>y.elim)
def fn122:(Medl×Hub)→Bool:=fun ((mNodes,mSlot,mGap,mWindow,mDrift,mDelay,mCold,mModes),hSync,hStart,hPos)=>(t122 std mNodes mSlot mGap mWindow mDrift mDelay mCold mModes hSync hStart hPos).val (Ty.dflts [.bool])
def sp122:FSpec:=⟨[yMedl,yHub], [.bool],(@tt (Medl×Hub)),fn122⟩
theorem eqs122 (mNodes:Int) (mSlot:Int) (mGap:Int) (mWindow:Int) (mDrift:Int) (mDelay:Int) (mCold:List Bool) (mModes:List Mode) (hSync:Bool) (hStart:Int) (hPos:Int):(t122 std mNodes mSlot mGap mWindow mDrift mDelay mCold mModes hSync hStart hPos).Eqs:=by simp only [t122,LT.Eqs,and_self,true_and,and_true]
theorem pre122_ok {mNodes:Int} {mSlot:Int} {mGap:Int} {mWindow:Int} {mDrift:Int} {mDelay:Int} {mCold:List Bool} {mModes:List Mode} {hSync:Bool} {hStart:Int} {hPos:Int} (h:Ty.hass [yMedl,yHub] ((mNodes,mSlot,mGap,mWindow,mDrift,mDelay,mCold,mModes),hSync,hStart,hPos)):(t122 std mNodes mSlot mGap mWindow mDrift mDelay mCold mModes hSync hStart hPos).pre=true:=by
 simp [t122,LT.pre,std_call,tt_eq]
theorem so122:FSpec.Sound Tryz.prog 77 sp122:=
 w122_ok.sound _ _ fun ((mNodes,mSlot,mGap,mWindow,mDrift,mDelay,mCold,mModes),hSync,hStart,hPos) _ h=>LT.runs (d:=Ty.dflts [.bool]) (eqs122 mNodes mSlot mGap mWindow mDrift mDelay mCold mModes hSync hStart hPos) (pre122_ok h)
def t71 (A:Alg) (mNodes:Int) (mSlot:Int) (mGap:Int) (mWindow:Int) (mDrift:Int) (mDelay:Int) (mCold:List Bool) (mModes:List Mode) (hSync:Bool) (hStart:Int) (hPos:Int):LT Int Empty:=
 .need (A.call (@tt Medl) (mNodes,mSlot,mGap,mWindow,mDrift,mDelay,mCold,mModes)) (
 .br (A.cmp .neq (A.call fn124 (mNodes,mSlot,mGap,mWindow,mDrift,mDelay,mCold,mModes)) 0)
 (.ret (A.call fn124 (mNodes,mSlot,mGap,mWindow,mDrift,mDelay,mCold,mModes)))
 (.need (A.call (@tt (Medl×Hub)) ((mNodes,mSlot,mGap,mWindow,mDrift,mDelay,mCold,mModes),hSync,hStart,hPos)) (
  .br (A.not (A.call fn122 ((mNodes,mSlot,mGap,mWindow,mDrift,mDelay,mCold,mModes),hSync,hStart,hPos)))
  (.ret 210)
  (.ret 0))))
noncomputable def E71 (A:Alg):Info (Ty.Ts [(.int .i64)]):={ti:=tys,fns:=[(24,Tryz.f24)],sps:=[(77,sp122),(81,sp124)],stops:=[],cuts:=[],consts:=[],fin:=finD A [(.int .i64)]}
theorem t71_ok (A:Alg) (mNodes:Int) (mSlot:Int) (mGap:Int) (mWindow:Int) (mDrift:Int) (mDelay:Int) (mCold:List Bool) (mModes:List Mode) (hSync:Bool) (hStart:Int) (hPos:Int):run A (E71 A) 40 (startC 24 Tryz.f24 (dvals A [yMedl,yHub] ((mNodes,mSlot,mGap,mWindow,mDrift,mDelay,mCold,mModes),hSync,hStart,hPos)))=(t71 A mNodes mSlot mGap mWindow mDrift mDelay mCold mModes hSync hStart hPos).tr Empty.elim:=by kernel_rfl
def w71:Walk Tryz.prog 24 [yMedl,yHub] [(.int .i64)] Empty:=⟨fun ((mNodes,mSlot,mGap,mWindow,mDrift,mDelay,mCold,mModes),hSync,hStart,hPos)=>t71 std mNodes mSlot mGap mWindow mDrift mDelay mCold mModes hSync hStart hPos,Empty.elim⟩
theorem w71_ok:w71.Ok:=
 walk_ok (E:=E71 std) ⟨tys_fit,fns_cons Tryz.func24 (by kernel_rfl) (fns_nil),sps_cons so122 (sps_cons so124 (sps_nil)),by kernel_rfl⟩ rfl rfl rfl (by kernel_rfl) w71 Empty.elim 40 (fun ((mNodes,mSlot,mGap,mWindow,mDrift,mDelay,mCold,mModes),hSync,hStart,hPos)=>t71_ok std mNodes mSlot mGap mWindow mDrift mDelay mCold mModes hSync hStart hPos) (fun y=>y.elim)
def fn71:(Medl×Hub)→Int:=fun ((mNodes,mSlot,mGap,mWindow,mDrift,mDelay,mCold,mModes),hSync,hStart,hPos)=>(t71 std mNodes mSlot mGap mWindow mDrift mDelay mCold mModes hSync hStart hPos).val (Ty.dflts [(.int .i64)])
def sp71:FSpec:=⟨[yMedl,yHub], [(.int .i64)],(@tt (Medl×Hub)),fn71⟩
theorem eqs71 (mNodes:Int) (mSlot:Int) (mGap:Int) (mWindow:Int) (mDrift:Int) (mDelay:Int) (mCold:List Bool) (mModes:List Mode) (hSync:Bool) (hStart:Int) (hPos:Int):(t71 std mNodes mSlot mGap mWindow mDrift mDelay mCold mModes hSync hStart hPos).Eqs:=by simp only [t71,LT.Eqs,and_self,true_and,and_true]
theorem pre71_ok {mNodes:Int} {mSlot:Int} {mGap:Int} {mWindow:Int} {mDrift:Int} {mDelay:Int} {mCold:List Bool} {mModes:List Mode} {hSync:Bool} {hStart:Int} {hPos:Int} (h:Ty.hass [yMedl,yHub] ((mNodes,mSlot,mGap,mWindow,mDrift,mDelay,mCold,mModes),hSync,hStart,hPos)):(t71 std mNodes mSlot mGap mWindow mDrift mDelay mCold mModes hSync hStart hPos).pre=true:=by
 simp [t71,LT.pre,std_call,tt_eq]
theorem so71:FSpec.Sound Tryz.prog 24 sp71:=
 w71_ok.sound _ _ fun ((mNodes,mSlot,mGap,mWindow,mDrift,mDelay,mCold,mModes),hSync,hStart,hPos) _ h=>LT.runs (d:=Ty.dflts [(.int .i64)]) (eqs71 mNodes mSlot mGap mWindow mDrift mDelay mCold mModes hSync hStart hPos) (pre71_ok h)
def t66 (A:Alg) (mNodes:Int) (mSlot:Int) (mGap:Int) (mWindow:Int) (mDrift:Int) (mDelay:Int) (mCold:List Bool) (mModes:List Mode) (hSync:Bool) (hStart:Int) (hPos:Int):LT (Span×Int) Empty:=
 .need (A.call (@tt (Medl×Hub)) ((mNodes,mSlot,mGap,mWindow,mDrift,mDelay,mCold,mModes),hSync,hStart,hPos)) (
 .br (A.cmp .neq (A.call fn71 ((mNodes,mSlot,mGap,mWindow,mDrift,mDelay,mCold,mModes),hSync,hStart,hPos)) 0)
 (.ret ((0,0),(A.call fn71 ((mNodes,mSlot,mGap,mWindow,mDrift,mDelay,mCold,mModes),hSync,hStart,hPos))))
 (.need (A.call (@tt (Medl×Clk)) ((mNodes,mSlot,mGap,mWindow,mDrift,mDelay,mCold,mModes),hStart,0,([]:List Int))) (
  .ret (A.call fn116 ((mNodes,mSlot,mGap,mWindow,mDrift,mDelay,mCold,mModes),hStart,0,([]:List Int))))))
noncomputable def E66 (A:Alg):Info (Ty.Ts [ySpan,(.int .i64)]):={ti:=tys,fns:=[(17,Tryz.f17)],sps:=[(24,sp71),(75,sp116)],stops:=[],cuts:=[],consts:=[],fin:=finD A [ySpan,(.int .i64)]}
theorem t66_ok (A:Alg) (mNodes:Int) (mSlot:Int) (mGap:Int) (mWindow:Int) (mDrift:Int) (mDelay:Int) (mCold:List Bool) (mModes:List Mode) (hSync:Bool) (hStart:Int) (hPos:Int):run A (E66 A) 40 (startC 17 Tryz.f17 (dvals A [yMedl,yHub] ((mNodes,mSlot,mGap,mWindow,mDrift,mDelay,mCold,mModes),hSync,hStart,hPos)))=(t66 A mNodes mSlot mGap mWindow mDrift mDelay mCold mModes hSync hStart hPos).tr Empty.elim:=by kernel_rfl
def w66:Walk Tryz.prog 17 [yMedl,yHub] [ySpan,(.int .i64)] Empty:=⟨fun ((mNodes,mSlot,mGap,mWindow,mDrift,mDelay,mCold,mModes),hSync,hStart,hPos)=>t66 std mNodes mSlot mGap mWindow mDrift mDelay mCold mModes hSync hStart hPos,Empty.elim⟩
theorem w66_ok:w66.Ok:=
 walk_ok (E:=E66 std) ⟨tys_fit,fns_cons Tryz.func17 (by kernel_rfl) (fns_nil),sps_cons so71 (sps_cons so116 (sps_nil)),by kernel_rfl⟩ rfl rfl rfl (by kernel_rfl) w66 Empty.elim 40 (fun ((mNodes,mSlot,mGap,mWindow,mDrift,mDelay,mCold,mModes),hSync,hStart,hPos)=>t66_ok std mNodes mSlot mGap mWindow mDrift mDelay mCold mModes hSync hStart hPos) (fun y=>y.elim)
def fn66:(Medl×Hub)→(Span×Int):=fun ((mNodes,mSlot,mGap,mWindow,mDrift,mDelay,mCold,mModes),hSync,hStart,hPos)=>(t66 std mNodes mSlot mGap mWindow mDrift mDelay mCold mModes hSync hStart hPos).val (Ty.dflts [ySpan,(.int .i64)])
def sp66:FSpec:=⟨[yMedl,yHub], [ySpan,(.int .i64)],(@tt (Medl×Hub)),fn66⟩
theorem eqs66 (mNodes:Int) (mSlot:Int) (mGap:Int) (mWindow:Int) (mDrift:Int) (mDelay:Int) (mCold:List Bool) (mModes:List Mode) (hSync:Bool) (hStart:Int) (hPos:Int):(t66 std mNodes mSlot mGap mWindow mDrift mDelay mCold mModes hSync hStart hPos).Eqs:=by simp only [t66,LT.Eqs,and_self,true_and,and_true]
theorem pre66_ok {mNodes:Int} {mSlot:Int} {mGap:Int} {mWindow:Int} {mDrift:Int} {mDelay:Int} {mCold:List Bool} {mModes:List Mode} {hSync:Bool} {hStart:Int} {hPos:Int} (h:Ty.hass [yMedl,yHub] ((mNodes,mSlot,mGap,mWindow,mDrift,mDelay,mCold,mModes),hSync,hStart,hPos)):(t66 std mNodes mSlot mGap mWindow mDrift mDelay mCold mModes hSync hStart hPos).pre=true:=by
 simp [t66,LT.pre,std_call,tt_eq]
theorem so66:FSpec.Sound Tryz.prog 17 sp66:=
 w66_ok.sound _ _ fun ((mNodes,mSlot,mGap,mWindow,mDrift,mDelay,mCold,mModes),hSync,hStart,hPos) _ h=>LT.runs (d:=Ty.dflts [ySpan,(.int .i64)]) (eqs66 mNodes mSlot mGap mWindow mDrift mDelay mCold mModes hSync hStart hPos) (pre66_ok h)
def t72 (A:Alg) (mNodes:Int) (mSlot:Int) (mGap:Int) (mWindow:Int) (mDrift:Int) (mDelay:Int) (mCold:List Bool) (mModes:List Mode) (hSync:Bool) (hStart:Int) (hPos:Int):LT (Hub×Int) Empty:=
 .need (A.call (@tt (Medl×Hub)) ((mNodes,mSlot,mGap,mWindow,mDrift,mDelay,mCold,mModes),hSync,hStart,hPos)) (
 .br (A.cmp .neq (A.call fn71 ((mNodes,mSlot,mGap,mWindow,mDrift,mDelay,mCold,mModes),hSync,hStart,hPos)) 0)
 (.ret ((false,0,0),(A.call fn71 ((mNodes,mSlot,mGap,mWindow,mDrift,mDelay,mCold,mModes),hSync,hStart,hPos))))
 (.br (A.not hSync)
  (.ret ((hSync,hStart,hPos),0))
  (.br (A.cmp .eql (A.bin .add .i64 hPos 1) mNodes)
  (.need (A.call (@tt (Medl×Hub)) ((mNodes,mSlot,mGap,mWindow,mDrift,mDelay,mCold,mModes),hSync,(A.bin .add .i64 hStart mSlot),0)) (
   .br (A.not (A.call fn122 ((mNodes,mSlot,mGap,mWindow,mDrift,mDelay,mCold,mModes),hSync,(A.bin .add .i64 hStart mSlot),0)))
   (.ret ((false,0,0),210))
   (.ret ((hSync,(A.bin .add .i64 hStart mSlot),0),0))))
  (.need (A.call (@tt (Medl×Hub)) ((mNodes,mSlot,mGap,mWindow,mDrift,mDelay,mCold,mModes),hSync,(A.bin .add .i64 hStart mSlot),(A.bin .add .i64 hPos 1))) (
   .br (A.not (A.call fn122 ((mNodes,mSlot,mGap,mWindow,mDrift,mDelay,mCold,mModes),hSync,(A.bin .add .i64 hStart mSlot),(A.bin .add .i64 hPos 1))))
   (.ret ((false,0,0),210))
   (.ret ((hSync,(A.bin .add .i64 hStart mSlot),(A.bin .add .i64 hPos 1)),0)))))))
noncomputable def E72 (A:Alg):Info (Ty.Ts [yHub,(.int .i64)]):={ti:=tys,fns:=[(19,Tryz.f19)],sps:=[(24,sp71),(77,sp122)],stops:=[],cuts:=[],consts:=[],fin:=finD A [yHub,(.int .i64)]}
theorem t72_ok (A:Alg) (mNodes:Int) (mSlot:Int) (mGap:Int) (mWindow:Int) (mDrift:Int) (mDelay:Int) (mCold:List Bool) (mModes:List Mode) (hSync:Bool) (hStart:Int) (hPos:Int):run A (E72 A) 85 (startC 19 Tryz.f19 (dvals A [yMedl,yHub] ((mNodes,mSlot,mGap,mWindow,mDrift,mDelay,mCold,mModes),hSync,hStart,hPos)))=(t72 A mNodes mSlot mGap mWindow mDrift mDelay mCold mModes hSync hStart hPos).tr Empty.elim:=by kernel_rfl
def w72:Walk Tryz.prog 19 [yMedl,yHub] [yHub,(.int .i64)] Empty:=⟨fun ((mNodes,mSlot,mGap,mWindow,mDrift,mDelay,mCold,mModes),hSync,hStart,hPos)=>t72 std mNodes mSlot mGap mWindow mDrift mDelay mCold mModes hSync hStart hPos,Empty.elim⟩
theorem w72_ok:w72.Ok:=
 walk_ok (E:=E72 std) ⟨tys_fit,fns_cons Tryz.func19 (by kernel_rfl) (fns_nil),sps_cons so71 (sps_cons so122 (sps_nil)),by kernel_rfl⟩ rfl rfl rfl (by kernel_rfl) w72 Empty.elim 85 (fun ((mNodes,mSlot,mGap,mWindow,mDrift,mDelay,mCold,mModes),hSync,hStart,hPos)=>t72_ok std mNodes mSlot mGap mWindow mDrift mDelay mCold mModes hSync hStart hPos) (fun y=>y.elim)
def fn72:(Medl×Hub)→(Hub×Int):=fun ((mNodes,mSlot,mGap,mWindow,mDrift,mDelay,mCold,mModes),hSync,hStart,hPos)=>(t72 std mNodes mSlot mGap mWindow mDrift mDelay mCold mModes hSync hStart hPos).val (Ty.dflts [yHub,(.int .i64)])
def sp72:FSpec:=⟨[yMedl,yHub], [yHub,(.int .i64)],(@tt (Medl×Hub)),fn72⟩
theorem eqs72 (mNodes:Int) (mSlot:Int) (mGap:Int) (mWindow:Int) (mDrift:Int) (mDelay:Int) (mCold:List Bool) (mModes:List Mode) (hSync:Bool) (hStart:Int) (hPos:Int):(t72 std mNodes mSlot mGap mWindow mDrift mDelay mCold mModes hSync hStart hPos).Eqs:=by simp only [t72,LT.Eqs,and_self,true_and,and_true]
theorem pre72_ok {mNodes:Int} {mSlot:Int} {mGap:Int} {mWindow:Int} {mDrift:Int} {mDelay:Int} {mCold:List Bool} {mModes:List Mode} {hSync:Bool} {hStart:Int} {hPos:Int} (h:Ty.hass [yMedl,yHub] ((mNodes,mSlot,mGap,mWindow,mDrift,mDelay,mCold,mModes),hSync,hStart,hPos)):(t72 std mNodes mSlot mGap mWindow mDrift mDelay mCold mModes hSync hStart hPos).pre=true:=by
 simp [t72,LT.pre,std_call,tt_eq]
theorem so72:FSpec.Sound Tryz.prog 19 sp72:=
 w72_ok.sound _ _ fun ((mNodes,mSlot,mGap,mWindow,mDrift,mDelay,mCold,mModes),hSync,hStart,hPos) _ h=>LT.runs (d:=Ty.dflts [yHub,(.int .i64)]) (eqs72 mNodes mSlot mGap mWindow mDrift mDelay mCold mModes hSync hStart hPos) (pre72_ok h)
def t316 (A:Alg) (mNodes:Int) (mSlot:Int) (mGap:Int) (mWindow:Int) (mDrift:Int) (mDelay:Int) (mCold:List Bool) (mModes:List Mode) (hSync:Bool) (hStart:Int) (hPos:Int):LT (Int×Int) Empty:=
 .need (A.call (@tt (Medl×Hub)) ((mNodes,mSlot,mGap,mWindow,mDrift,mDelay,mCold,mModes),hSync,hStart,hPos)) (
 .br (A.cmp .neq (A.call fn71 ((mNodes,mSlot,mGap,mWindow,mDrift,mDelay,mCold,mModes),hSync,hStart,hPos)) 0)
 (.ret (0,(A.call fn71 ((mNodes,mSlot,mGap,mWindow,mDrift,mDelay,mCold,mModes),hSync,hStart,hPos))))
 (.ret ((A.bin .add .i64 hStart (A.bin .add .i64 mGap mDelay)),0)))
noncomputable def E316 (A:Alg):Info (Ty.Ts [(.int .i64),(.int .i64)]):={ti:=tys,fns:=[(21,Tryz.f21)],sps:=[(24,sp71)],stops:=[],cuts:=[],consts:=[],fin:=finD A [(.int .i64),(.int .i64)]}
theorem t316_ok (A:Alg) (mNodes:Int) (mSlot:Int) (mGap:Int) (mWindow:Int) (mDrift:Int) (mDelay:Int) (mCold:List Bool) (mModes:List Mode) (hSync:Bool) (hStart:Int) (hPos:Int):run A (E316 A) 41 (startC 21 Tryz.f21 (dvals A [yMedl,yHub] ((mNodes,mSlot,mGap,mWindow,mDrift,mDelay,mCold,mModes),hSync,hStart,hPos)))=(t316 A mNodes mSlot mGap mWindow mDrift mDelay mCold mModes hSync hStart hPos).tr Empty.elim:=by kernel_rfl
def w316:Walk Tryz.prog 21 [yMedl,yHub] [(.int .i64),(.int .i64)] Empty:=⟨fun ((mNodes,mSlot,mGap,mWindow,mDrift,mDelay,mCold,mModes),hSync,hStart,hPos)=>t316 std mNodes mSlot mGap mWindow mDrift mDelay mCold mModes hSync hStart hPos,Empty.elim⟩
theorem w316_ok:w316.Ok:=
 walk_ok (E:=E316 std) ⟨tys_fit,fns_cons Tryz.func21 (by kernel_rfl) (fns_nil),sps_cons so71 (sps_nil),by kernel_rfl⟩ rfl rfl rfl (by kernel_rfl) w316 Empty.elim 41 (fun ((mNodes,mSlot,mGap,mWindow,mDrift,mDelay,mCold,mModes),hSync,hStart,hPos)=>t316_ok std mNodes mSlot mGap mWindow mDrift mDelay mCold mModes hSync hStart hPos) (fun y=>y.elim)
def fn316:(Medl×Hub)→(Int×Int):=fun ((mNodes,mSlot,mGap,mWindow,mDrift,mDelay,mCold,mModes),hSync,hStart,hPos)=>(t316 std mNodes mSlot mGap mWindow mDrift mDelay mCold mModes hSync hStart hPos).val (Ty.dflts [(.int .i64),(.int .i64)])
def sp316:FSpec:=⟨[yMedl,yHub], [(.int .i64),(.int .i64)],(@tt (Medl×Hub)),fn316⟩
theorem eqs316 (mNodes:Int) (mSlot:Int) (mGap:Int) (mWindow:Int) (mDrift:Int) (mDelay:Int) (mCold:List Bool) (mModes:List Mode) (hSync:Bool) (hStart:Int) (hPos:Int):(t316 std mNodes mSlot mGap mWindow mDrift mDelay mCold mModes hSync hStart hPos).Eqs:=by simp only [t316,LT.Eqs,and_self,true_and,and_true]
theorem pre316_ok {mNodes:Int} {mSlot:Int} {mGap:Int} {mWindow:Int} {mDrift:Int} {mDelay:Int} {mCold:List Bool} {mModes:List Mode} {hSync:Bool} {hStart:Int} {hPos:Int} (h:Ty.hass [yMedl,yHub] ((mNodes,mSlot,mGap,mWindow,mDrift,mDelay,mCold,mModes),hSync,hStart,hPos)):(t316 std mNodes mSlot mGap mWindow mDrift mDelay mCold mModes hSync hStart hPos).pre=true:=by
 simp [t316,LT.pre,std_call,tt_eq]
theorem so316:FSpec.Sound Tryz.prog 21 sp316:=
 w316_ok.sound _ _ fun ((mNodes,mSlot,mGap,mWindow,mDrift,mDelay,mCold,mModes),hSync,hStart,hPos) _ h=>LT.runs (d:=Ty.dflts [(.int .i64),(.int .i64)]) (eqs316 mNodes mSlot mGap mWindow mDrift mDelay mCold mModes hSync hStart hPos) (pre316_ok h)
def t152 (A:Alg) (bN:Int) (bB:List Int):LT (Int×Bool) Empty:=
 .need (A.call (@tt ((Int×List Int))) (bN,bB)) (
 .br (A.not (A.call fn51 (bN,bB)).2)
 (.ret ((-1),false))
 (.br (A.cmp .eql (A.call fn51 (bN,bB)).1.1 1)
  (.ret ((A.call fn51 (bN,bB)).1.2.2.2.1,true))
  (.ret ((A.call fn51 (bN,bB)).1.2.2.1.2.1,false))))
noncomputable def E152 (A:Alg):Info (Ty.Ts [(.int .i64),.bool]):={ti:=tys,fns:=[(84,Tryz.f84)],sps:=[(184,sp51)],stops:=[],cuts:=[],consts:=[],fin:=finD A [(.int .i64),.bool]}
theorem t152_ok (A:Alg) (bN:Int) (bB:List Int):run A (E152 A) 50 (startC 84 Tryz.f84 (dvals A [yBits] (bN,bB)))=(t152 A bN bB).tr Empty.elim:=by kernel_rfl
def w152:Walk Tryz.prog 84 [yBits] [(.int .i64),.bool] Empty:=⟨fun (bN,bB)=>t152 std bN bB,Empty.elim⟩
theorem w152_ok:w152.Ok:=
 walk_ok (E:=E152 std) ⟨tys_fit,fns_cons Tryz.func84 (by kernel_rfl) (fns_nil),sps_cons so51 (sps_nil),by kernel_rfl⟩ rfl rfl rfl (by kernel_rfl) w152 Empty.elim 50 (fun (bN,bB)=>t152_ok std bN bB) (fun y=>y.elim)
def fn152:Bits→(Int×Bool):=fun (bN,bB)=>(t152 std bN bB).val (Ty.dflts [(.int .i64),.bool])
def sp152:FSpec:=⟨[yBits], [(.int .i64),.bool],(@tt Bits),fn152⟩
theorem eqs152 (bN:Int) (bB:List Int):(t152 std bN bB).Eqs:=by simp only [t152,LT.Eqs,and_self,true_and,and_true]
theorem pre152_ok {bN:Int} {bB:List Int} (h:Ty.hass [yBits] (bN,bB)):(t152 std bN bB).pre=true:=by
 simp [t152,LT.pre,std_call,tt_eq]
theorem so152:FSpec.Sound Tryz.prog 84 sp152:=
 w152_ok.sound _ _ fun (bN,bB) _ h=>LT.runs (d:=Ty.dflts [(.int .i64),.bool]) (eqs152 bN bB) (pre152_ok h)
def t172 (A:Alg) (mNodes:Int) (mSlot:Int) (mGap:Int) (mWindow:Int) (mDrift:Int) (mDelay:Int) (mCold:List Bool) (mModes:List Mode) (port:Int) (bN:Int) (bB:List Int):LT Bool Empty:=
 .need (A.call (@tt Medl) (mNodes,mSlot,mGap,mWindow,mDrift,mDelay,mCold,mModes)) (
 .br (A.cmp .neq (A.call fn124 (mNodes,mSlot,mGap,mWindow,mDrift,mDelay,mCold,mModes)) 0)
 (.ret false)
 (.br (A.cmp .lss port 0)
  (.ret false)
  (.br (A.cmp .geq port mNodes)
  (.ret false)
  (.need (A.call (@tt ((Int×List Int))) (bN,bB)) (
   .br (A.cmp .neq (A.call fn99 (bN,bB)) 0)
   (.ret false)
   (.need (A.call (@tt Bits) (bN,bB)) (
    .br (A.cmp .lss (A.call fn152 (bN,bB)).1 0)
    (.ret true)
    (.ret (A.cmp .eql (A.call fn152 (bN,bB)).1 port)))))))))
noncomputable def E172 (A:Alg):Info (Ty.Ts [.bool]):={ti:=tys,fns:=[(26,Tryz.f26)],sps:=[(83,sp99),(81,sp124),(84,sp152)],stops:=[],cuts:=[],consts:=[],fin:=finD A [.bool]}
theorem t172_ok (A:Alg) (mNodes:Int) (mSlot:Int) (mGap:Int) (mWindow:Int) (mDrift:Int) (mDelay:Int) (mCold:List Bool) (mModes:List Mode) (port:Int) (bN:Int) (bB:List Int):run A (E172 A) 57 (startC 26 Tryz.f26 (dvals A [yMedl,(.int .i64),yBits] ((mNodes,mSlot,mGap,mWindow,mDrift,mDelay,mCold,mModes),port,bN,bB)))=(t172 A mNodes mSlot mGap mWindow mDrift mDelay mCold mModes port bN bB).tr Empty.elim:=by kernel_rfl
def w172:Walk Tryz.prog 26 [yMedl,(.int .i64),yBits] [.bool] Empty:=⟨fun ((mNodes,mSlot,mGap,mWindow,mDrift,mDelay,mCold,mModes),port,bN,bB)=>t172 std mNodes mSlot mGap mWindow mDrift mDelay mCold mModes port bN bB,Empty.elim⟩
theorem w172_ok:w172.Ok:=
 walk_ok (E:=E172 std) ⟨tys_fit,fns_cons Tryz.func26 (by kernel_rfl) (fns_nil),sps_cons so99 (sps_cons so124 (sps_cons so152 (sps_nil))),by kernel_rfl⟩ rfl rfl rfl (by kernel_rfl) w172 Empty.elim 57 (fun ((mNodes,mSlot,mGap,mWindow,mDrift,mDelay,mCold,mModes),port,bN,bB)=>t172_ok std mNodes mSlot mGap mWindow mDrift mDelay mCold mModes port bN bB) (fun y=>y.elim)
def fn172:(Medl×Int×Bits)→Bool:=fun ((mNodes,mSlot,mGap,mWindow,mDrift,mDelay,mCold,mModes),port,bN,bB)=>(t172 std mNodes mSlot mGap mWindow mDrift mDelay mCold mModes port bN bB).val (Ty.dflts [.bool])
def sp172:FSpec:=⟨[yMedl,(.int .i64),yBits], [.bool],(@tt (Medl×Int×Bits)),fn172⟩
theorem eqs172 (mNodes:Int) (mSlot:Int) (mGap:Int) (mWindow:Int) (mDrift:Int) (mDelay:Int) (mCold:List Bool) (mModes:List Mode) (port:Int) (bN:Int) (bB:List Int):(t172 std mNodes mSlot mGap mWindow mDrift mDelay mCold mModes port bN bB).Eqs:=by simp only [t172,LT.Eqs,and_self,true_and,and_true]
theorem pre172_ok {mNodes:Int} {mSlot:Int} {mGap:Int} {mWindow:Int} {mDrift:Int} {mDelay:Int} {mCold:List Bool} {mModes:List Mode} {port:Int} {bN:Int} {bB:List Int} (h:Ty.hass [yMedl,(.int .i64),yBits] ((mNodes,mSlot,mGap,mWindow,mDrift,mDelay,mCold,mModes),port,bN,bB)):(t172 std mNodes mSlot mGap mWindow mDrift mDelay mCold mModes port bN bB).pre=true:=by
 simp [t172,LT.pre,std_call,tt_eq]
theorem so172:FSpec.Sound Tryz.prog 26 sp172:=
 w172_ok.sound _ _ fun ((mNodes,mSlot,mGap,mWindow,mDrift,mDelay,mCold,mModes),port,bN,bB) _ h=>LT.runs (d:=Ty.dflts [.bool]) (eqs172 mNodes mSlot mGap mWindow mDrift mDelay mCold mModes port bN bB) (pre172_ok h)
def t318 (A:Alg) (mNodes:Int) (mSlot:Int) (mGap:Int) (mWindow:Int) (mDrift:Int) (mDelay:Int) (mCold:List Bool) (mModes:List Mode) (hSync:Bool) (hStart:Int) (hPos:Int):LT Int Empty:=
 .need (A.call (@tt Medl) (mNodes,mSlot,mGap,mWindow,mDrift,mDelay,mCold,mModes)) (
 .br (A.cmp .neq (A.call fn366 (mNodes,mSlot,mGap,mWindow,mDrift,mDelay,mCold,mModes)) 0)
 (.ret (A.call fn366 (mNodes,mSlot,mGap,mWindow,mDrift,mDelay,mCold,mModes)))
 (.br (A.cmp .lss hPos 0)
  (.ret 210)
  (.br (A.cmp .geq hPos mNodes)
  (.ret 210)
  (.br (A.cmp .lss hStart 0)
   (.ret 210)
   (.br (A.cmp .gtr hStart 1099494850560)
   (.ret 210)
   (.br (A.not hSync)
    (.br (A.cmp .neq hPos 0)
    (.ret 210)
    (.br (A.cmp .neq hStart 0)
     (.ret 210)
     (.ret 0)))
    (.ret 0)))))))
noncomputable def E318 (A:Alg):Info (Ty.Ts [(.int .i64)]):={ti:=tys,fns:=[(25,Tryz.f25)],sps:=[(82,sp366)],stops:=[],cuts:=[],consts:=[],fin:=finD A [(.int .i64)]}
theorem t318_ok (A:Alg) (mNodes:Int) (mSlot:Int) (mGap:Int) (mWindow:Int) (mDrift:Int) (mDelay:Int) (mCold:List Bool) (mModes:List Mode) (hSync:Bool) (hStart:Int) (hPos:Int):run A (E318 A) 71 (startC 25 Tryz.f25 (dvals A [yMedl,yHub] ((mNodes,mSlot,mGap,mWindow,mDrift,mDelay,mCold,mModes),hSync,hStart,hPos)))=(t318 A mNodes mSlot mGap mWindow mDrift mDelay mCold mModes hSync hStart hPos).tr Empty.elim:=by kernel_rfl
def w318:Walk Tryz.prog 25 [yMedl,yHub] [(.int .i64)] Empty:=⟨fun ((mNodes,mSlot,mGap,mWindow,mDrift,mDelay,mCold,mModes),hSync,hStart,hPos)=>t318 std mNodes mSlot mGap mWindow mDrift mDelay mCold mModes hSync hStart hPos,Empty.elim⟩
theorem w318_ok:w318.Ok:=
 walk_ok (E:=E318 std) ⟨tys_fit,fns_cons Tryz.func25 (by kernel_rfl) (fns_nil),sps_cons so366 (sps_nil),by kernel_rfl⟩ rfl rfl rfl (by kernel_rfl) w318 Empty.elim 71 (fun ((mNodes,mSlot,mGap,mWindow,mDrift,mDelay,mCold,mModes),hSync,hStart,hPos)=>t318_ok std mNodes mSlot mGap mWindow mDrift mDelay mCold mModes hSync hStart hPos) (fun y=>y.elim)
def fn318:(Medl×Hub)→Int:=fun ((mNodes,mSlot,mGap,mWindow,mDrift,mDelay,mCold,mModes),hSync,hStart,hPos)=>(t318 std mNodes mSlot mGap mWindow mDrift mDelay mCold mModes hSync hStart hPos).val (Ty.dflts [(.int .i64)])
def sp318:FSpec:=⟨[yMedl,yHub], [(.int .i64)],(@tt (Medl×Hub)),fn318⟩
theorem eqs318 (mNodes:Int) (mSlot:Int) (mGap:Int) (mWindow:Int) (mDrift:Int) (mDelay:Int) (mCold:List Bool) (mModes:List Mode) (hSync:Bool) (hStart:Int) (hPos:Int):(t318 std mNodes mSlot mGap mWindow mDrift mDelay mCold mModes hSync hStart hPos).Eqs:=by simp only [t318,LT.Eqs,and_self,true_and,and_true]
theorem pre318_ok {mNodes:Int} {mSlot:Int} {mGap:Int} {mWindow:Int} {mDrift:Int} {mDelay:Int} {mCold:List Bool} {mModes:List Mode} {hSync:Bool} {hStart:Int} {hPos:Int} (h:Ty.hass [yMedl,yHub] ((mNodes,mSlot,mGap,mWindow,mDrift,mDelay,mCold,mModes),hSync,hStart,hPos)):(t318 std mNodes mSlot mGap mWindow mDrift mDelay mCold mModes hSync hStart hPos).pre=true:=by
 simp [t318,LT.pre,std_call,tt_eq]
theorem so318:FSpec.Sound Tryz.prog 25 sp318:=
 w318_ok.sound _ _ fun ((mNodes,mSlot,mGap,mWindow,mDrift,mDelay,mCold,mModes),hSync,hStart,hPos) _ h=>LT.runs (d:=Ty.dflts [(.int .i64)]) (eqs318 mNodes mSlot mGap mWindow mDrift mDelay mCold mModes hSync hStart hPos) (pre318_ok h)
def t314 (A:Alg) (mNodes:Int) (mSlot:Int) (mGap:Int) (mWindow:Int) (mDrift:Int) (mDelay:Int) (mCold:List Bool) (mModes:List Mode) (hSync:Bool) (hStart:Int) (hPos:Int):LT (Span×Int) Empty:=
 .need (A.call (@tt (Medl×Hub)) ((mNodes,mSlot,mGap,mWindow,mDrift,mDelay,mCold,mModes),hSync,hStart,hPos)) (
 .br (A.cmp .neq (A.call fn318 ((mNodes,mSlot,mGap,mWindow,mDrift,mDelay,mCold,mModes),hSync,hStart,hPos)) 0)
 (.ret ((0,0),(A.call fn318 ((mNodes,mSlot,mGap,mWindow,mDrift,mDelay,mCold,mModes),hSync,hStart,hPos))))
 (.need (A.call (@tt (Medl×Clk)) ((mNodes,mSlot,mGap,mWindow,mDrift,mDelay,mCold,mModes),hStart,0,([]:List Int))) (
  .ret (A.call fn365 ((mNodes,mSlot,mGap,mWindow,mDrift,mDelay,mCold,mModes),hStart,0,([]:List Int))))))
noncomputable def E314 (A:Alg):Info (Ty.Ts [ySpan,(.int .i64)]):={ti:=tys,fns:=[(18,Tryz.f18)],sps:=[(25,sp318),(76,sp365)],stops:=[],cuts:=[],consts:=[],fin:=finD A [ySpan,(.int .i64)]}
theorem t314_ok (A:Alg) (mNodes:Int) (mSlot:Int) (mGap:Int) (mWindow:Int) (mDrift:Int) (mDelay:Int) (mCold:List Bool) (mModes:List Mode) (hSync:Bool) (hStart:Int) (hPos:Int):run A (E314 A) 40 (startC 18 Tryz.f18 (dvals A [yMedl,yHub] ((mNodes,mSlot,mGap,mWindow,mDrift,mDelay,mCold,mModes),hSync,hStart,hPos)))=(t314 A mNodes mSlot mGap mWindow mDrift mDelay mCold mModes hSync hStart hPos).tr Empty.elim:=by kernel_rfl
def w314:Walk Tryz.prog 18 [yMedl,yHub] [ySpan,(.int .i64)] Empty:=⟨fun ((mNodes,mSlot,mGap,mWindow,mDrift,mDelay,mCold,mModes),hSync,hStart,hPos)=>t314 std mNodes mSlot mGap mWindow mDrift mDelay mCold mModes hSync hStart hPos,Empty.elim⟩
theorem w314_ok:w314.Ok:=
 walk_ok (E:=E314 std) ⟨tys_fit,fns_cons Tryz.func18 (by kernel_rfl) (fns_nil),sps_cons so318 (sps_cons so365 (sps_nil)),by kernel_rfl⟩ rfl rfl rfl (by kernel_rfl) w314 Empty.elim 40 (fun ((mNodes,mSlot,mGap,mWindow,mDrift,mDelay,mCold,mModes),hSync,hStart,hPos)=>t314_ok std mNodes mSlot mGap mWindow mDrift mDelay mCold mModes hSync hStart hPos) (fun y=>y.elim)
def fn314:(Medl×Hub)→(Span×Int):=fun ((mNodes,mSlot,mGap,mWindow,mDrift,mDelay,mCold,mModes),hSync,hStart,hPos)=>(t314 std mNodes mSlot mGap mWindow mDrift mDelay mCold mModes hSync hStart hPos).val (Ty.dflts [ySpan,(.int .i64)])
def sp314:FSpec:=⟨[yMedl,yHub], [ySpan,(.int .i64)],(@tt (Medl×Hub)),fn314⟩
theorem eqs314 (mNodes:Int) (mSlot:Int) (mGap:Int) (mWindow:Int) (mDrift:Int) (mDelay:Int) (mCold:List Bool) (mModes:List Mode) (hSync:Bool) (hStart:Int) (hPos:Int):(t314 std mNodes mSlot mGap mWindow mDrift mDelay mCold mModes hSync hStart hPos).Eqs:=by simp only [t314,LT.Eqs,and_self,true_and,and_true]
theorem pre314_ok {mNodes:Int} {mSlot:Int} {mGap:Int} {mWindow:Int} {mDrift:Int} {mDelay:Int} {mCold:List Bool} {mModes:List Mode} {hSync:Bool} {hStart:Int} {hPos:Int} (h:Ty.hass [yMedl,yHub] ((mNodes,mSlot,mGap,mWindow,mDrift,mDelay,mCold,mModes),hSync,hStart,hPos)):(t314 std mNodes mSlot mGap mWindow mDrift mDelay mCold mModes hSync hStart hPos).pre=true:=by
 simp [t314,LT.pre,std_call,tt_eq]
theorem so314:FSpec.Sound Tryz.prog 18 sp314:=
 w314_ok.sound _ _ fun ((mNodes,mSlot,mGap,mWindow,mDrift,mDelay,mCold,mModes),hSync,hStart,hPos) _ h=>LT.runs (d:=Ty.dflts [ySpan,(.int .i64)]) (eqs314 mNodes mSlot mGap mWindow mDrift mDelay mCold mModes hSync hStart hPos) (pre314_ok h)
theorem hubCheck_eq {x:Medl×Hub}:fn318 x=fn71 x:=by
 obtain ⟨⟨n,s,g,w,d,de,cold,modes⟩,sy,st,p⟩:=x
 simp only [fn318,t318,fn71,t71,fn122,t122,LT.val,std_call,fn366_eq,std_not,std_cmp_neq,std_cmp_eql,std_and,std_beq,std_cmp_lss,std_cmp_geq,std_cmp_gtr]
 cases fn124 (n,s,g,w,d,de,cold,modes) != 0
 ·cases decide (p < 0)
  ·cases decide (n≤p)
   ·cases decide (st < 0)
    ·cases decide (1099494850560 < st)
     ·cases sy
      ·cases hp:p == 0 <;> cases hs:st == 0 <;> simp [bne,hp,hs]
      ·rfl
     ·rfl
    ·rfl
   ·rfl
  ·rfl
 ·rfl
theorem hubWin_eq {x:Medl×Hub}:fn314 x=fn66 x:=by
 obtain ⟨⟨n,s,g,w,d,de,cold,modes⟩,sy,st,p⟩:=x
 simp only [fn314,t314,fn66,t66,LT.val,std_call,hubCheck_eq,fn365_eq]
theorem hub_zero {n s g w d de st p:Int} {sy:Bool} {cold:List Bool} {modes:List Mode} (h:fn71 ((n,s,g,w,d,de,cold,modes),sy,st,p)=0):medlB (n,s,g,w,d,de,cold,modes)=true∧0≤p∧p < n∧0≤st∧st≤1099494850560∧fn122 ((n,s,g,w,d,de,cold,modes),sy,st,p)=true:=by
 simp only [fn71,t71,LT.val,std_call,fn124_eq,std_not,std_cmp_neq] at h
 cases hm:medlS (n,s,g,w,d,de,cold,modes) != 0
 ·rw [hm,cond_false] at h
  cases hk:fn122 ((n,s,g,w,d,de,cold,modes),sy,st,p)
  ·rw [hk] at h; cases h
  ·refine ⟨medlS_zero.1 (by simpa using hm),?_⟩
   simp only [fn122,t122,LT.val,std_cmp_lss,std_cmp_geq,std_cmp_gtr] at hk
   by_cases h1:p < 0
   ·rw [decide_eq_true h1] at hk; cases hk
   by_cases h2:n≤p
   ·rw [decide_eq_false h1,decide_eq_true h2] at hk; cases hk
   by_cases h3:st < 0
   ·rw [decide_eq_false h1,decide_eq_false h2,decide_eq_true h3] at hk; cases hk
   by_cases h4:1099494850560 < st
   ·rw [decide_eq_false h1,decide_eq_false h2,decide_eq_false h3,decide_eq_true h4] at hk; cases hk
   exact ⟨by omega,by omega,by omega,by omega,rfl⟩
 ·rw [hm,cond_true] at h
  rw [h] at hm; cases hm
theorem medl_n {n s g w d de:Int} {cold:List Bool} {modes:List Mode} (h:medlB (n,s,g,w,d,de,cold,modes)=true):(4≤n∧n≤8)∧((1:Int)≤modes.length∧(modes.length:Int)≤4)∧(cold.length:Int)=n∧modes.all (modeB (n,s,g,w,d,de,cold,modes))=true∧(0≤d∧d≤64∧0≤de∧de≤64∧16≤w∧w≤1048576∧36≤g∧g≤1048576∧72≤s∧s≤16777216):=by
 simp only [medlB,countB,within_eq,limB,Bool.and_eq_true,decide_eq_true_eq,beq_iff_eq] at h
 obtain ⟨⟨⟨⟨⟨h1,h2⟩,h3⟩,_⟩,h4⟩,h5⟩:=h
 have:=win_low h1 (d:=d) (by omega)
 have hm:=max_range (m:=(n,s,g,w,d,de,cold,modes))
 exact ⟨h1,h2,h3,h4,by omega⟩
def t315 (A:Alg) (mNodes:Int) (mSlot:Int) (mGap:Int) (mWindow:Int) (mDrift:Int) (mDelay:Int) (mCold:List Bool) (mModes:List Mode) (hSync:Bool) (hStart:Int) (hPos:Int):LT (Hub×Int) Empty:=
 .need (A.call (@tt (Medl×Hub)) ((mNodes,mSlot,mGap,mWindow,mDrift,mDelay,mCold,mModes),hSync,hStart,hPos)) (
 .br (A.cmp .neq (A.call fn318 ((mNodes,mSlot,mGap,mWindow,mDrift,mDelay,mCold,mModes),hSync,hStart,hPos)) 0)
 (.ret ((false,0,0),(A.call fn318 ((mNodes,mSlot,mGap,mWindow,mDrift,mDelay,mCold,mModes),hSync,hStart,hPos))))
 (.br (A.not hSync)
  (.ret ((hSync,hStart,hPos),0))
  (.need (A.cmp .neq mNodes 0) (
  .need (A.call (@tt (Medl×Hub)) ((mNodes,mSlot,mGap,mWindow,mDrift,mDelay,mCold,mModes),hSync,(A.bin .add .i64 hStart mSlot),(A.bin .rem .i64 (A.bin .add .i64 hPos 1) mNodes))) (
   .br (A.cmp .neq (A.call fn318 ((mNodes,mSlot,mGap,mWindow,mDrift,mDelay,mCold,mModes),hSync,(A.bin .add .i64 hStart mSlot),(A.bin .rem .i64 (A.bin .add .i64 hPos 1) mNodes))) 0)
   (.ret ((false,0,0),210))
   (.ret ((hSync,(A.bin .add .i64 hStart mSlot),(A.bin .rem .i64 (A.bin .add .i64 hPos 1) mNodes)),0)))))))
noncomputable def E315 (A:Alg):Info (Ty.Ts [yHub,(.int .i64)]):={ti:=tys,fns:=[(20,Tryz.f20)],sps:=[(25,sp318)],stops:=[],cuts:=[],consts:=[],fin:=finD A [yHub,(.int .i64)]}
theorem t315_ok (A:Alg) (mNodes:Int) (mSlot:Int) (mGap:Int) (mWindow:Int) (mDrift:Int) (mDelay:Int) (mCold:List Bool) (mModes:List Mode) (hSync:Bool) (hStart:Int) (hPos:Int):run A (E315 A) 74 (startC 20 Tryz.f20 (dvals A [yMedl,yHub] ((mNodes,mSlot,mGap,mWindow,mDrift,mDelay,mCold,mModes),hSync,hStart,hPos)))=(t315 A mNodes mSlot mGap mWindow mDrift mDelay mCold mModes hSync hStart hPos).tr Empty.elim:=by kernel_rfl
def w315:Walk Tryz.prog 20 [yMedl,yHub] [yHub,(.int .i64)] Empty:=⟨fun ((mNodes,mSlot,mGap,mWindow,mDrift,mDelay,mCold,mModes),hSync,hStart,hPos)=>t315 std mNodes mSlot mGap mWindow mDrift mDelay mCold mModes hSync hStart hPos,Empty.elim⟩
theorem w315_ok:w315.Ok:=
 walk_ok (E:=E315 std) ⟨tys_fit,fns_cons Tryz.func20 (by kernel_rfl) (fns_nil),sps_cons so318 (sps_nil),by kernel_rfl⟩ rfl rfl rfl (by kernel_rfl) w315 Empty.elim 74 (fun ((mNodes,mSlot,mGap,mWindow,mDrift,mDelay,mCold,mModes),hSync,hStart,hPos)=>t315_ok std mNodes mSlot mGap mWindow mDrift mDelay mCold mModes hSync hStart hPos) (fun y=>y.elim)
def fn315:(Medl×Hub)→(Hub×Int):=fun ((mNodes,mSlot,mGap,mWindow,mDrift,mDelay,mCold,mModes),hSync,hStart,hPos)=>(t315 std mNodes mSlot mGap mWindow mDrift mDelay mCold mModes hSync hStart hPos).val (Ty.dflts [yHub,(.int .i64)])
def sp315:FSpec:=⟨[yMedl,yHub], [yHub,(.int .i64)],(@tt (Medl×Hub)),fn315⟩
theorem eqs315 (mNodes:Int) (mSlot:Int) (mGap:Int) (mWindow:Int) (mDrift:Int) (mDelay:Int) (mCold:List Bool) (mModes:List Mode) (hSync:Bool) (hStart:Int) (hPos:Int):(t315 std mNodes mSlot mGap mWindow mDrift mDelay mCold mModes hSync hStart hPos).Eqs:=by simp only [t315,LT.Eqs,and_self,true_and,and_true]
theorem pre315_ok {mNodes:Int} {mSlot:Int} {mGap:Int} {mWindow:Int} {mDrift:Int} {mDelay:Int} {mCold:List Bool} {mModes:List Mode} {hSync:Bool} {hStart:Int} {hPos:Int} (h:Ty.hass [yMedl,yHub] ((mNodes,mSlot,mGap,mWindow,mDrift,mDelay,mCold,mModes),hSync,hStart,hPos)):(t315 std mNodes mSlot mGap mWindow mDrift mDelay mCold mModes hSync hStart hPos).pre=true:=by
 have e:=hubCheck_eq (x:=((mNodes,mSlot,mGap,mWindow,mDrift,mDelay,mCold,mModes),hSync,hStart,hPos))
 simp only [t315,LT.pre,std_call,tt_eq,Bool.true_and]
 by_cases h0:fn318 ((mNodes,mSlot,mGap,mWindow,mDrift,mDelay,mCold,mModes),hSync,hStart,hPos)=0
 ·have hn:=(medl_n (hub_zero (e ▸ h0)).1).1
  rw [cne_f h0,cond_false,cne_t (show mNodes≠0 by omega),Bool.true_and]
  cases hSync
  ·rfl
  ·simp only [std_not,Bool.not_true,cond_false]
   cases std.cmp .neq (fn318 ((mNodes,mSlot,mGap,mWindow,mDrift,mDelay,mCold,mModes),true,std.bin .add .i64 hStart mSlot,std.bin .rem .i64 (std.bin .add .i64 hPos 1) mNodes)) 0 <;> rfl
 ·rw [cne_t h0]; rfl
theorem so315:FSpec.Sound Tryz.prog 20 sp315:=
 w315_ok.sound _ _ fun ((mNodes,mSlot,mGap,mWindow,mDrift,mDelay,mCold,mModes),hSync,hStart,hPos) _ h=>LT.runs (d:=Ty.dflts [yHub,(.int .i64)]) (eqs315 mNodes mSlot mGap mWindow mDrift mDelay mCold mModes hSync hStart hPos) (pre315_ok h)
def t317 (A:Alg) (mNodes:Int) (mSlot:Int) (mGap:Int) (mWindow:Int) (mDrift:Int) (mDelay:Int) (mCold:List Bool) (mModes:List Mode) (hSync:Bool) (hStart:Int) (hPos:Int):LT (Int×Int) Empty:=
 .need (A.call (@tt (Medl×Hub)) ((mNodes,mSlot,mGap,mWindow,mDrift,mDelay,mCold,mModes),hSync,hStart,hPos)) (
 .br (A.cmp .neq (A.call fn318 ((mNodes,mSlot,mGap,mWindow,mDrift,mDelay,mCold,mModes),hSync,hStart,hPos)) 0)
 (.ret (0,(A.call fn318 ((mNodes,mSlot,mGap,mWindow,mDrift,mDelay,mCold,mModes),hSync,hStart,hPos))))
 (.ret ((A.bin .add .i64 (A.bin .add .i64 hStart mGap) mDelay),0)))
noncomputable def E317 (A:Alg):Info (Ty.Ts [(.int .i64),(.int .i64)]):={ti:=tys,fns:=[(22,Tryz.f22)],sps:=[(25,sp318)],stops:=[],cuts:=[],consts:=[],fin:=finD A [(.int .i64),(.int .i64)]}
theorem t317_ok (A:Alg) (mNodes:Int) (mSlot:Int) (mGap:Int) (mWindow:Int) (mDrift:Int) (mDelay:Int) (mCold:List Bool) (mModes:List Mode) (hSync:Bool) (hStart:Int) (hPos:Int):run A (E317 A) 41 (startC 22 Tryz.f22 (dvals A [yMedl,yHub] ((mNodes,mSlot,mGap,mWindow,mDrift,mDelay,mCold,mModes),hSync,hStart,hPos)))=(t317 A mNodes mSlot mGap mWindow mDrift mDelay mCold mModes hSync hStart hPos).tr Empty.elim:=by kernel_rfl
def w317:Walk Tryz.prog 22 [yMedl,yHub] [(.int .i64),(.int .i64)] Empty:=⟨fun ((mNodes,mSlot,mGap,mWindow,mDrift,mDelay,mCold,mModes),hSync,hStart,hPos)=>t317 std mNodes mSlot mGap mWindow mDrift mDelay mCold mModes hSync hStart hPos,Empty.elim⟩
theorem w317_ok:w317.Ok:=
 walk_ok (E:=E317 std) ⟨tys_fit,fns_cons Tryz.func22 (by kernel_rfl) (fns_nil),sps_cons so318 (sps_nil),by kernel_rfl⟩ rfl rfl rfl (by kernel_rfl) w317 Empty.elim 41 (fun ((mNodes,mSlot,mGap,mWindow,mDrift,mDelay,mCold,mModes),hSync,hStart,hPos)=>t317_ok std mNodes mSlot mGap mWindow mDrift mDelay mCold mModes hSync hStart hPos) (fun y=>y.elim)
def fn317:(Medl×Hub)→(Int×Int):=fun ((mNodes,mSlot,mGap,mWindow,mDrift,mDelay,mCold,mModes),hSync,hStart,hPos)=>(t317 std mNodes mSlot mGap mWindow mDrift mDelay mCold mModes hSync hStart hPos).val (Ty.dflts [(.int .i64),(.int .i64)])
def sp317:FSpec:=⟨[yMedl,yHub], [(.int .i64),(.int .i64)],(@tt (Medl×Hub)),fn317⟩
theorem eqs317 (mNodes:Int) (mSlot:Int) (mGap:Int) (mWindow:Int) (mDrift:Int) (mDelay:Int) (mCold:List Bool) (mModes:List Mode) (hSync:Bool) (hStart:Int) (hPos:Int):(t317 std mNodes mSlot mGap mWindow mDrift mDelay mCold mModes hSync hStart hPos).Eqs:=by simp only [t317,LT.Eqs,and_self,true_and,and_true]
theorem pre317_ok {mNodes:Int} {mSlot:Int} {mGap:Int} {mWindow:Int} {mDrift:Int} {mDelay:Int} {mCold:List Bool} {mModes:List Mode} {hSync:Bool} {hStart:Int} {hPos:Int} (h:Ty.hass [yMedl,yHub] ((mNodes,mSlot,mGap,mWindow,mDrift,mDelay,mCold,mModes),hSync,hStart,hPos)):(t317 std mNodes mSlot mGap mWindow mDrift mDelay mCold mModes hSync hStart hPos).pre=true:=by
 simp [t317,LT.pre,std_call,tt_eq]
theorem so317:FSpec.Sound Tryz.prog 22 sp317:=
 w317_ok.sound _ _ fun ((mNodes,mSlot,mGap,mWindow,mDrift,mDelay,mCold,mModes),hSync,hStart,hPos) _ h=>LT.runs (d:=Ty.dflts [(.int .i64),(.int .i64)]) (eqs317 mNodes mSlot mGap mWindow mDrift mDelay mCold mModes hSync hStart hPos) (pre317_ok h)
def t319 (A:Alg) (mNodes:Int) (mSlot:Int) (mGap:Int) (mWindow:Int) (mDrift:Int) (mDelay:Int) (mCold:List Bool) (mModes:List Mode) (port:Int) (bN:Int) (bB:List Int):LT Bool Empty:=
 .need (A.call (@tt Medl) (mNodes,mSlot,mGap,mWindow,mDrift,mDelay,mCold,mModes)) (
 .br (A.cmp .neq (A.call fn366 (mNodes,mSlot,mGap,mWindow,mDrift,mDelay,mCold,mModes)) 0)
 (.ret false)
 (.br (A.cmp .lss port 0)
  (.ret false)
  (.br (A.cmp .geq port mNodes)
  (.ret false)
  (.need (A.call (@tt ((Int×List Int))) (bN,bB)) (
   .br (A.cmp .neq (A.call fn97 (bN,bB)) 0)
   (.ret false)
   (.need (A.call (@tt ((Int×List Int))) (bN,bB)) (
    .br (A.not (A.call fn55 (bN,bB)).2)
    (.ret true)
    (.br (A.cmp .eql (A.call fn55 (bN,bB)).1.1 1)
     (.ret (A.cmp .eql (A.call fn55 (bN,bB)).1.2.2.2.1 port))
     (.ret (A.cmp .eql (A.call fn55 (bN,bB)).1.2.2.1.2.1 port))))))))))
noncomputable def E319 (A:Alg):Info (Ty.Ts [.bool]):={ti:=tys,fns:=[(27,Tryz.f27)],sps:=[(86,sp55),(85,sp97),(82,sp366)],stops:=[],cuts:=[],consts:=[],fin:=finD A [.bool]}
theorem t319_ok (A:Alg) (mNodes:Int) (mSlot:Int) (mGap:Int) (mWindow:Int) (mDrift:Int) (mDelay:Int) (mCold:List Bool) (mModes:List Mode) (port:Int) (bN:Int) (bB:List Int):run A (E319 A) 73 (startC 27 Tryz.f27 (dvals A [yMedl,(.int .i64),yBits] ((mNodes,mSlot,mGap,mWindow,mDrift,mDelay,mCold,mModes),port,bN,bB)))=(t319 A mNodes mSlot mGap mWindow mDrift mDelay mCold mModes port bN bB).tr Empty.elim:=by kernel_rfl
def w319:Walk Tryz.prog 27 [yMedl,(.int .i64),yBits] [.bool] Empty:=⟨fun ((mNodes,mSlot,mGap,mWindow,mDrift,mDelay,mCold,mModes),port,bN,bB)=>t319 std mNodes mSlot mGap mWindow mDrift mDelay mCold mModes port bN bB,Empty.elim⟩
theorem w319_ok:w319.Ok:=
 walk_ok (E:=E319 std) ⟨tys_fit,fns_cons Tryz.func27 (by kernel_rfl) (fns_nil),sps_cons so55 (sps_cons so97 (sps_cons so366 (sps_nil))),by kernel_rfl⟩ rfl rfl rfl (by kernel_rfl) w319 Empty.elim 73 (fun ((mNodes,mSlot,mGap,mWindow,mDrift,mDelay,mCold,mModes),port,bN,bB)=>t319_ok std mNodes mSlot mGap mWindow mDrift mDelay mCold mModes port bN bB) (fun y=>y.elim)
def fn319:(Medl×Int×Bits)→Bool:=fun ((mNodes,mSlot,mGap,mWindow,mDrift,mDelay,mCold,mModes),port,bN,bB)=>(t319 std mNodes mSlot mGap mWindow mDrift mDelay mCold mModes port bN bB).val (Ty.dflts [.bool])
def sp319:FSpec:=⟨[yMedl,(.int .i64),yBits], [.bool],(@tt (Medl×Int×Bits)),fn319⟩
theorem eqs319 (mNodes:Int) (mSlot:Int) (mGap:Int) (mWindow:Int) (mDrift:Int) (mDelay:Int) (mCold:List Bool) (mModes:List Mode) (port:Int) (bN:Int) (bB:List Int):(t319 std mNodes mSlot mGap mWindow mDrift mDelay mCold mModes port bN bB).Eqs:=by simp only [t319,LT.Eqs,and_self,true_and,and_true]
theorem pre319_ok {mNodes:Int} {mSlot:Int} {mGap:Int} {mWindow:Int} {mDrift:Int} {mDelay:Int} {mCold:List Bool} {mModes:List Mode} {port:Int} {bN:Int} {bB:List Int} (h:Ty.hass [yMedl,(.int .i64),yBits] ((mNodes,mSlot,mGap,mWindow,mDrift,mDelay,mCold,mModes),port,bN,bB)):(t319 std mNodes mSlot mGap mWindow mDrift mDelay mCold mModes port bN bB).pre=true:=by
 simp [t319,LT.pre,std_call,tt_eq]
theorem so319:FSpec.Sound Tryz.prog 27 sp319:=
 w319_ok.sound _ _ fun ((mNodes,mSlot,mGap,mWindow,mDrift,mDelay,mCold,mModes),port,bN,bB) _ h=>LT.runs (d:=Ty.dflts [.bool]) (eqs319 mNodes mSlot mGap mWindow mDrift mDelay mCold mModes port bN bB) (pre319_ok h)
theorem hubOut_eq {x:Medl×Hub}:fn317 x=fn316 x:=by
 obtain ⟨⟨n,s,g,w,d,de,cold,modes⟩,sy,st,p⟩:=x
 simp only [fn317,t317,fn316,t316,LT.val,std_call,hubCheck_eq,add_add]
theorem rem_next {n p:Int} (h1:4≤n∧n≤8) (h2:0≤p∧p < n):std.bin .rem .i64 (std.bin .add .i64 p 1) n=bif p + 1 == n then 0 else p + 1:=by
 rw [std_rem,std_add,w64 (by omega) (by omega)]
 by_cases h:p + 1=n
 ·rw [beq_iff_eq.2 h,h,ctrue]; simp
 ·rw [beq_eq_false_iff_ne.2 h,cfalse]
  exact Int.tmod_eq_of_lt (by omega) (by omega)
theorem hubNext_eq {x:Medl×Hub}:fn315 x=fn72 x:=by
 obtain ⟨⟨n,s,g,w,d,de,cold,modes⟩,sy,st,p⟩:=x
 simp only [fn315,t315,fn72,t72,LT.val,std_call,hubCheck_eq]
 by_cases h0:fn71 ((n,s,g,w,d,de,cold,modes),sy,st,p)=0
 ·obtain ⟨hm,h1,h2,_⟩:=hub_zero h0
  have hn:=(medl_n hm).1
  rw [cne_f h0,cond_false,cond_false,rem_next hn ⟨h1,h2⟩,std_cmp_eql,show std.bin .add .i64 p 1=p + 1 from by rw [std_add,w64 (by omega) (by omega)]]
  have hchk:∀q:Int,std.cmp .neq (fn71 ((n,s,g,w,d,de,cold,modes),sy,std.bin .add .i64 st s,q)) 0=std.not (fn122 ((n,s,g,w,d,de,cold,modes),sy,std.bin .add .i64 st s,q)):=fun q=>by
   simp only [fn71,t71,LT.val,std_call,fn124_eq,medlS,hm]
   cases fn122 ((n,s,g,w,d,de,cold,modes),sy,std.bin .add .i64 st s,q) <;> rfl
  cases sy
  ·rfl
  ·cases p + 1 == n
   ·rw [cond_false,cond_false,hchk]
   ·rw [cond_true,cond_true,hchk]
 ·rw [cne_t h0]; rfl
theorem okZ:stOk zS=true:=rfl
theorem expl_ok {b:Int×List Int} (h:(explS b).2=true):frOk (explS b).1=true:=by
 rw [explS] at h ⊢
 cases hp:((parS (b,zS)).2 != 0 || (parS (b,zS)).1.1 == 2)
 ·rw [Bool.or_eq_false_iff] at hp
  have h0:(parS (b,zS)).2=0:=by simpa using hp.1
  rw [cond_false]
  show frOk (parS (b,zS)).1=true
  rw [parS] at h0 ⊢
  cases hb:bsOk b
  ·rw [hb] at h0; cases h0
  ·rw [hb,okZ] at h0
   rw [okZ]
   exact (frBits_frOf okZ (Prod.ext rfl h0)).2.1
 ·rw [hp] at h; cases h
theorem fr_low {f:Frm} (h:frOk f=true):0≤f.2.2.2.1∧f.2.2.2.1≤7∧0≤f.2.2.1.2.1∧f.2.2.1.2.1≤7:=by
 obtain ⟨k,r,⟨t,p,m,n,s⟩,fr,d⟩:=f
 simp only [frOk,Bool.and_eq_true] at h
 have hs:=stOk_iff.1 h.1.1.1
 have h2:=h.2
 cases hk:k == 1
 ·rw [hk,cond_false] at h2
  have:fr=0:=by
   cases hk3:k == 3
   ·rw [hk3] at h2; simp at h2; exact h2.2
   ·rw [hk3] at h2; simp at h2; exact h2.2
  subst this
  exact ⟨show (0:Int)≤0 by omega,show (0:Int)≤7 by omega,hs.2.1.1,hs.2.1.2⟩
 ·rw [hk,cond_true] at h2
  simp only [Bool.and_eq_true,decide_eq_true_eq] at h2
  exact ⟨h2.1.2.1,h2.1.2.2,hs.2.1.1,hs.2.1.2⟩
theorem trust_eq {n s g w d de q bN:Int} {cold:List Bool} {modes:List Mode} {bB:List Int} (hb:bytesOk bB) (hl:bB.length≤140737488355328):fn319 ((n,s,g,w,d,de,cold,modes),q,bN,bB)=fn172 ((n,s,g,w,d,de,cold,modes),q,bN,bB):=by
 simp only [fn319,t319,fn172,t172,fn152,t152,LT.val,std_call,fn366_eq,fn97_99 hb hl,fn55_eq,fn51_eq]
 cases std.cmp .neq (fn124 (n,s,g,w,d,de,cold,modes)) 0
 ·cases std.cmp .lss q 0
  ·cases std.cmp .geq q n
   ·cases std.cmp .neq (fn99 (bN,bB)) 0
    ·cases he:(explS (bN,bB)).2
     ·rfl
     ·have hlow:=fr_low (expl_ok he)
      simp only [std_not,Bool.not_true,cond_false]
      cases std.cmp .eql (explS (bN,bB)).1.1 1
      ·simp only [cond_false,std_cmp_lss,decide_eq_false (show ¬(explS (bN,bB)).1.2.2.1.2.1 < 0 by omega)]
      ·simp only [cond_true,std_cmp_lss,decide_eq_false (show ¬(explS (bN,bB)).1.2.2.2.1 < 0 by omega),cond_false]
    ·rfl
   ·rfl
  ·rfl
 ·rfl
end Go.Ev.M
