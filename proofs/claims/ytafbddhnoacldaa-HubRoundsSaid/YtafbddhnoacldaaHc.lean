/-
  PROVED: what functions of the packages hub and metronomeref21 compute. Conditions: none.
-/
import Derived.Test.YtafbddhnoacldaaHb
import Derived.Test.YtafbddhnoacldaaDb
namespace Go.Ev.M
open Go.Proofs
set_option maxRecDepth 100000
set_option linter.unusedVariables false
set_option linter.unusedSimpArgs false
open Go.Ev.Pl
def t122 (A:Alg) (mNodes:Int) (mSlot:Int) (mGap:Int) (mWindow:Int) (mDrift:Int) (mDelay:Int) (mCold:List Bool) (mModes:List Mode) (hSync:Bool) (hStart:Int) (hPos:Int):LT Bool Empty:=
 .br (A.cmp .lss hPos 0)
 (.ret false)
 (.br (A.cmp .geq hPos mNodes)
 (.ret false)
 (.br (A.cmp .lss hStart 0)
  (.ret false)
  (.br (A.cmp .gtr hStart 1099494850560)
  (.ret false)
  (.br (A.not hSync)
   (.br (A.not (A.and (A.beq hSync false) (A.and (A.cmp .eql hStart 0) (A.and (A.cmp .eql hPos 0) true))))
   (.ret false)
   (.ret true))
   (.ret true)))))
noncomputable def E122 (A:Alg):Info (Ty.Ts [.bool]):={ti:=tys,fns:=[(122,Try.f122)],sps:=[],stops:=[],cuts:=[],consts:=[],fin:=finD A [.bool]}
theorem t122_ok (A:Alg) (mNodes:Int) (mSlot:Int) (mGap:Int) (mWindow:Int) (mDrift:Int) (mDelay:Int) (mCold:List Bool) (mModes:List Mode) (hSync:Bool) (hStart:Int) (hPos:Int):run A (E122 A) 70 (startC 122 Try.f122 (dvals A [yMedl,yHub] ((mNodes,mSlot,mGap,mWindow,mDrift,mDelay,mCold,mModes),hSync,hStart,hPos)))=(t122 A mNodes mSlot mGap mWindow mDrift mDelay mCold mModes hSync hStart hPos).tr Empty.elim:=by kernel_rfl
def w122:Walk Try.prog 122 [yMedl,yHub] [.bool] Empty:=⟨fun ((mNodes,mSlot,mGap,mWindow,mDrift,mDelay,mCold,mModes),hSync,hStart,hPos)=>t122 std mNodes mSlot mGap mWindow mDrift mDelay mCold mModes hSync hStart hPos,Empty.elim⟩
theorem w122_ok:w122.Ok:=
 walk_ok (E:=E122 std) ⟨tys_fit,fns_cons Try.func122 (by kernel_rfl) (fns_nil),sps_nil,by kernel_rfl⟩ rfl rfl rfl (by kernel_rfl) w122 Empty.elim 70 (fun ((mNodes,mSlot,mGap,mWindow,mDrift,mDelay,mCold,mModes),hSync,hStart,hPos)=>t122_ok std mNodes mSlot mGap mWindow mDrift mDelay mCold mModes hSync hStart hPos) (fun y=>y.elim)
def fn122:(Medl×Hub)→Bool:=fun ((mNodes,mSlot,mGap,mWindow,mDrift,mDelay,mCold,mModes),hSync,hStart,hPos)=>(t122 std mNodes mSlot mGap mWindow mDrift mDelay mCold mModes hSync hStart hPos).val (Ty.dflts [.bool])
def sp122:FSpec:=⟨[yMedl,yHub], [.bool],(@tt (Medl×Hub)),fn122⟩
theorem eqs122 (mNodes:Int) (mSlot:Int) (mGap:Int) (mWindow:Int) (mDrift:Int) (mDelay:Int) (mCold:List Bool) (mModes:List Mode) (hSync:Bool) (hStart:Int) (hPos:Int):(t122 std mNodes mSlot mGap mWindow mDrift mDelay mCold mModes hSync hStart hPos).Eqs:=by simp only [t122,LT.Eqs,and_self,true_and,and_true]
theorem pre122_ok {mNodes:Int} {mSlot:Int} {mGap:Int} {mWindow:Int} {mDrift:Int} {mDelay:Int} {mCold:List Bool} {mModes:List Mode} {hSync:Bool} {hStart:Int} {hPos:Int} (h:Ty.hass [yMedl,yHub] ((mNodes,mSlot,mGap,mWindow,mDrift,mDelay,mCold,mModes),hSync,hStart,hPos)):(t122 std mNodes mSlot mGap mWindow mDrift mDelay mCold mModes hSync hStart hPos).pre=true:=by
 simp [t122,LT.pre,std_call,tt_eq]
theorem so122:FSpec.Sound Try.prog 122 sp122:=
 w122_ok.sound _ _ fun ((mNodes,mSlot,mGap,mWindow,mDrift,mDelay,mCold,mModes),hSync,hStart,hPos) _ h=>LT.runs (d:=Ty.dflts [.bool]) (eqs122 mNodes mSlot mGap mWindow mDrift mDelay mCold mModes hSync hStart hPos) (pre122_ok h)
def t71 (A:Alg) (mNodes:Int) (mSlot:Int) (mGap:Int) (mWindow:Int) (mDrift:Int) (mDelay:Int) (mCold:List Bool) (mModes:List Mode) (hSync:Bool) (hStart:Int) (hPos:Int):LT Int Empty:=
 .need (A.call (@tt Medl) (mNodes,mSlot,mGap,mWindow,mDrift,mDelay,mCold,mModes)) (
 .br (A.cmp .neq (A.call fn124 (mNodes,mSlot,mGap,mWindow,mDrift,mDelay,mCold,mModes)) 0)
 (.ret (A.call fn124 (mNodes,mSlot,mGap,mWindow,mDrift,mDelay,mCold,mModes)))
 (.need (A.call (@tt (Medl×Hub)) ((mNodes,mSlot,mGap,mWindow,mDrift,mDelay,mCold,mModes),hSync,hStart,hPos)) (
  .br (A.not (A.call fn122 ((mNodes,mSlot,mGap,mWindow,mDrift,mDelay,mCold,mModes),hSync,hStart,hPos)))
  (.ret 210)
  (.ret 0))))
noncomputable def E71 (A:Alg):Info (Ty.Ts [(.int .i64)]):={ti:=tys,fns:=[(71,Try.f71)],sps:=[(122,sp122),(124,sp124)],stops:=[],cuts:=[],consts:=[],fin:=finD A [(.int .i64)]}
theorem t71_ok (A:Alg) (mNodes:Int) (mSlot:Int) (mGap:Int) (mWindow:Int) (mDrift:Int) (mDelay:Int) (mCold:List Bool) (mModes:List Mode) (hSync:Bool) (hStart:Int) (hPos:Int):run A (E71 A) 40 (startC 71 Try.f71 (dvals A [yMedl,yHub] ((mNodes,mSlot,mGap,mWindow,mDrift,mDelay,mCold,mModes),hSync,hStart,hPos)))=(t71 A mNodes mSlot mGap mWindow mDrift mDelay mCold mModes hSync hStart hPos).tr Empty.elim:=by kernel_rfl
def w71:Walk Try.prog 71 [yMedl,yHub] [(.int .i64)] Empty:=⟨fun ((mNodes,mSlot,mGap,mWindow,mDrift,mDelay,mCold,mModes),hSync,hStart,hPos)=>t71 std mNodes mSlot mGap mWindow mDrift mDelay mCold mModes hSync hStart hPos,Empty.elim⟩
theorem w71_ok:w71.Ok:=
 walk_ok (E:=E71 std) ⟨tys_fit,fns_cons Try.func71 (by kernel_rfl) (fns_nil),sps_cons so122 (sps_cons so124 (sps_nil)),by kernel_rfl⟩ rfl rfl rfl (by kernel_rfl) w71 Empty.elim 40 (fun ((mNodes,mSlot,mGap,mWindow,mDrift,mDelay,mCold,mModes),hSync,hStart,hPos)=>t71_ok std mNodes mSlot mGap mWindow mDrift mDelay mCold mModes hSync hStart hPos) (fun y=>y.elim)
def fn71:(Medl×Hub)→Int:=fun ((mNodes,mSlot,mGap,mWindow,mDrift,mDelay,mCold,mModes),hSync,hStart,hPos)=>(t71 std mNodes mSlot mGap mWindow mDrift mDelay mCold mModes hSync hStart hPos).val (Ty.dflts [(.int .i64)])
def sp71:FSpec:=⟨[yMedl,yHub], [(.int .i64)],(@tt (Medl×Hub)),fn71⟩
theorem eqs71 (mNodes:Int) (mSlot:Int) (mGap:Int) (mWindow:Int) (mDrift:Int) (mDelay:Int) (mCold:List Bool) (mModes:List Mode) (hSync:Bool) (hStart:Int) (hPos:Int):(t71 std mNodes mSlot mGap mWindow mDrift mDelay mCold mModes hSync hStart hPos).Eqs:=by simp only [t71,LT.Eqs,and_self,true_and,and_true]
theorem pre71_ok {mNodes:Int} {mSlot:Int} {mGap:Int} {mWindow:Int} {mDrift:Int} {mDelay:Int} {mCold:List Bool} {mModes:List Mode} {hSync:Bool} {hStart:Int} {hPos:Int} (h:Ty.hass [yMedl,yHub] ((mNodes,mSlot,mGap,mWindow,mDrift,mDelay,mCold,mModes),hSync,hStart,hPos)):(t71 std mNodes mSlot mGap mWindow mDrift mDelay mCold mModes hSync hStart hPos).pre=true:=by
 simp [t71,LT.pre,std_call,tt_eq]
theorem so71:FSpec.Sound Try.prog 71 sp71:=
 w71_ok.sound _ _ fun ((mNodes,mSlot,mGap,mWindow,mDrift,mDelay,mCold,mModes),hSync,hStart,hPos) _ h=>LT.runs (d:=Ty.dflts [(.int .i64)]) (eqs71 mNodes mSlot mGap mWindow mDrift mDelay mCold mModes hSync hStart hPos) (pre71_ok h)
def t66 (A:Alg) (mNodes:Int) (mSlot:Int) (mGap:Int) (mWindow:Int) (mDrift:Int) (mDelay:Int) (mCold:List Bool) (mModes:List Mode) (hSync:Bool) (hStart:Int) (hPos:Int):LT (Span×Int) Empty:=
 .need (A.call (@tt (Medl×Hub)) ((mNodes,mSlot,mGap,mWindow,mDrift,mDelay,mCold,mModes),hSync,hStart,hPos)) (
 .br (A.cmp .neq (A.call fn71 ((mNodes,mSlot,mGap,mWindow,mDrift,mDelay,mCold,mModes),hSync,hStart,hPos)) 0)
 (.ret ((0,0),(A.call fn71 ((mNodes,mSlot,mGap,mWindow,mDrift,mDelay,mCold,mModes),hSync,hStart,hPos))))
 (.need (A.call (@tt (Medl×Clk)) ((mNodes,mSlot,mGap,mWindow,mDrift,mDelay,mCold,mModes),hStart,0,([]:List Int))) (
  .ret (A.call fn116 ((mNodes,mSlot,mGap,mWindow,mDrift,mDelay,mCold,mModes),hStart,0,([]:List Int))))))
noncomputable def E66 (A:Alg):Info (Ty.Ts [ySpan,(.int .i64)]):={ti:=tys,fns:=[(66,Try.f66)],sps:=[(71,sp71),(116,sp116)],stops:=[],cuts:=[],consts:=[],fin:=finD A [ySpan,(.int .i64)]}
theorem t66_ok (A:Alg) (mNodes:Int) (mSlot:Int) (mGap:Int) (mWindow:Int) (mDrift:Int) (mDelay:Int) (mCold:List Bool) (mModes:List Mode) (hSync:Bool) (hStart:Int) (hPos:Int):run A (E66 A) 40 (startC 66 Try.f66 (dvals A [yMedl,yHub] ((mNodes,mSlot,mGap,mWindow,mDrift,mDelay,mCold,mModes),hSync,hStart,hPos)))=(t66 A mNodes mSlot mGap mWindow mDrift mDelay mCold mModes hSync hStart hPos).tr Empty.elim:=by kernel_rfl
def w66:Walk Try.prog 66 [yMedl,yHub] [ySpan,(.int .i64)] Empty:=⟨fun ((mNodes,mSlot,mGap,mWindow,mDrift,mDelay,mCold,mModes),hSync,hStart,hPos)=>t66 std mNodes mSlot mGap mWindow mDrift mDelay mCold mModes hSync hStart hPos,Empty.elim⟩
theorem w66_ok:w66.Ok:=
 walk_ok (E:=E66 std) ⟨tys_fit,fns_cons Try.func66 (by kernel_rfl) (fns_nil),sps_cons so71 (sps_cons so116 (sps_nil)),by kernel_rfl⟩ rfl rfl rfl (by kernel_rfl) w66 Empty.elim 40 (fun ((mNodes,mSlot,mGap,mWindow,mDrift,mDelay,mCold,mModes),hSync,hStart,hPos)=>t66_ok std mNodes mSlot mGap mWindow mDrift mDelay mCold mModes hSync hStart hPos) (fun y=>y.elim)
def fn66:(Medl×Hub)→(Span×Int):=fun ((mNodes,mSlot,mGap,mWindow,mDrift,mDelay,mCold,mModes),hSync,hStart,hPos)=>(t66 std mNodes mSlot mGap mWindow mDrift mDelay mCold mModes hSync hStart hPos).val (Ty.dflts [ySpan,(.int .i64)])
def sp66:FSpec:=⟨[yMedl,yHub], [ySpan,(.int .i64)],(@tt (Medl×Hub)),fn66⟩
theorem eqs66 (mNodes:Int) (mSlot:Int) (mGap:Int) (mWindow:Int) (mDrift:Int) (mDelay:Int) (mCold:List Bool) (mModes:List Mode) (hSync:Bool) (hStart:Int) (hPos:Int):(t66 std mNodes mSlot mGap mWindow mDrift mDelay mCold mModes hSync hStart hPos).Eqs:=by simp only [t66,LT.Eqs,and_self,true_and,and_true]
theorem pre66_ok {mNodes:Int} {mSlot:Int} {mGap:Int} {mWindow:Int} {mDrift:Int} {mDelay:Int} {mCold:List Bool} {mModes:List Mode} {hSync:Bool} {hStart:Int} {hPos:Int} (h:Ty.hass [yMedl,yHub] ((mNodes,mSlot,mGap,mWindow,mDrift,mDelay,mCold,mModes),hSync,hStart,hPos)):(t66 std mNodes mSlot mGap mWindow mDrift mDelay mCold mModes hSync hStart hPos).pre=true:=by
 simp [t66,LT.pre,std_call,tt_eq]
theorem so66:FSpec.Sound Try.prog 66 sp66:=
 w66_ok.sound _ _ fun ((mNodes,mSlot,mGap,mWindow,mDrift,mDelay,mCold,mModes),hSync,hStart,hPos) _ h=>LT.runs (d:=Ty.dflts [ySpan,(.int .i64)]) (eqs66 mNodes mSlot mGap mWindow mDrift mDelay mCold mModes hSync hStart hPos) (pre66_ok h)
def t72 (A:Alg) (mNodes:Int) (mSlot:Int) (mGap:Int) (mWindow:Int) (mDrift:Int) (mDelay:Int) (mCold:List Bool) (mModes:List Mode) (hSync:Bool) (hStart:Int) (hPos:Int):LT (Hub×Int) Empty:=
 .need (A.call (@tt (Medl×Hub)) ((mNodes,mSlot,mGap,mWindow,mDrift,mDelay,mCold,mModes),hSync,hStart,hPos)) (
 .br (A.cmp .neq (A.call fn71 ((mNodes,mSlot,mGap,mWindow,mDrift,mDelay,mCold,mModes),hSync,hStart,hPos)) 0)
 (.ret ((false,0,0),(A.call fn71 ((mNodes,mSlot,mGap,mWindow,mDrift,mDelay,mCold,mModes),hSync,hStart,hPos))))
 (.br (A.not hSync)
  (.ret ((hSync,hStart,hPos),0))
  (.br (A.cmp .eql (A.bin .add .i64 hPos 1) mNodes)
  (.need (A.call (@tt (Medl×Hub)) ((mNodes,mSlot,mGap,mWindow,mDrift,mDelay,mCold,mModes),hSync,(A.bin .add .i64 hStart mSlot),0)) (
   .br (A.not (A.call fn122 ((mNodes,mSlot,mGap,mWindow,mDrift,mDelay,mCold,mModes),hSync,(A.bin .add .i64 hStart mSlot),0)))
   (.ret ((false,0,0),210))
   (.ret ((hSync,(A.bin .add .i64 hStart mSlot),0),0))))
  (.need (A.call (@tt (Medl×Hub)) ((mNodes,mSlot,mGap,mWindow,mDrift,mDelay,mCold,mModes),hSync,(A.bin .add .i64 hStart mSlot),(A.bin .add .i64 hPos 1))) (
   .br (A.not (A.call fn122 ((mNodes,mSlot,mGap,mWindow,mDrift,mDelay,mCold,mModes),hSync,(A.bin .add .i64 hStart mSlot),(A.bin .add .i64 hPos 1))))
   (.ret ((false,0,0),210))
   (.ret ((hSync,(A.bin .add .i64 hStart mSlot),(A.bin .add .i64 hPos 1)),0)))))))
noncomputable def E72 (A:Alg):Info (Ty.Ts [yHub,(.int .i64)]):={ti:=tys,fns:=[(72,Try.f72)],sps:=[(71,sp71),(122,sp122)],stops:=[],cuts:=[],consts:=[],fin:=finD A [yHub,(.int .i64)]}
theorem t72_ok (A:Alg) (mNodes:Int) (mSlot:Int) (mGap:Int) (mWindow:Int) (mDrift:Int) (mDelay:Int) (mCold:List Bool) (mModes:List Mode) (hSync:Bool) (hStart:Int) (hPos:Int):run A (E72 A) 85 (startC 72 Try.f72 (dvals A [yMedl,yHub] ((mNodes,mSlot,mGap,mWindow,mDrift,mDelay,mCold,mModes),hSync,hStart,hPos)))=(t72 A mNodes mSlot mGap mWindow mDrift mDelay mCold mModes hSync hStart hPos).tr Empty.elim:=by kernel_rfl
def w72:Walk Try.prog 72 [yMedl,yHub] [yHub,(.int .i64)] Empty:=⟨fun ((mNodes,mSlot,mGap,mWindow,mDrift,mDelay,mCold,mModes),hSync,hStart,hPos)=>t72 std mNodes mSlot mGap mWindow mDrift mDelay mCold mModes hSync hStart hPos,Empty.elim⟩
theorem w72_ok:w72.Ok:=
 walk_ok (E:=E72 std) ⟨tys_fit,fns_cons Try.func72 (by kernel_rfl) (fns_nil),sps_cons so71 (sps_cons so122 (sps_nil)),by kernel_rfl⟩ rfl rfl rfl (by kernel_rfl) w72 Empty.elim 85 (fun ((mNodes,mSlot,mGap,mWindow,mDrift,mDelay,mCold,mModes),hSync,hStart,hPos)=>t72_ok std mNodes mSlot mGap mWindow mDrift mDelay mCold mModes hSync hStart hPos) (fun y=>y.elim)
def fn72:(Medl×Hub)→(Hub×Int):=fun ((mNodes,mSlot,mGap,mWindow,mDrift,mDelay,mCold,mModes),hSync,hStart,hPos)=>(t72 std mNodes mSlot mGap mWindow mDrift mDelay mCold mModes hSync hStart hPos).val (Ty.dflts [yHub,(.int .i64)])
def sp72:FSpec:=⟨[yMedl,yHub], [yHub,(.int .i64)],(@tt (Medl×Hub)),fn72⟩
theorem eqs72 (mNodes:Int) (mSlot:Int) (mGap:Int) (mWindow:Int) (mDrift:Int) (mDelay:Int) (mCold:List Bool) (mModes:List Mode) (hSync:Bool) (hStart:Int) (hPos:Int):(t72 std mNodes mSlot mGap mWindow mDrift mDelay mCold mModes hSync hStart hPos).Eqs:=by simp only [t72,LT.Eqs,and_self,true_and,and_true]
theorem pre72_ok {mNodes:Int} {mSlot:Int} {mGap:Int} {mWindow:Int} {mDrift:Int} {mDelay:Int} {mCold:List Bool} {mModes:List Mode} {hSync:Bool} {hStart:Int} {hPos:Int} (h:Ty.hass [yMedl,yHub] ((mNodes,mSlot,mGap,mWindow,mDrift,mDelay,mCold,mModes),hSync,hStart,hPos)):(t72 std mNodes mSlot mGap mWindow mDrift mDelay mCold mModes hSync hStart hPos).pre=true:=by
 simp [t72,LT.pre,std_call,tt_eq]
theorem so72:FSpec.Sound Try.prog 72 sp72:=
 w72_ok.sound _ _ fun ((mNodes,mSlot,mGap,mWindow,mDrift,mDelay,mCold,mModes),hSync,hStart,hPos) _ h=>LT.runs (d:=Ty.dflts [yHub,(.int .i64)]) (eqs72 mNodes mSlot mGap mWindow mDrift mDelay mCold mModes hSync hStart hPos) (pre72_ok h)
def t152 (A:Alg) (bN:Int) (bB:List Int):LT (Int×Bool) Empty:=
 .need (A.call (@tt ((Int×List Int))) (bN,bB)) (
 .br (A.not (A.call fn51 (bN,bB)).2)
 (.ret ((-1),false))
 (.br (A.cmp .eql (A.call fn51 (bN,bB)).1.1 1)
  (.ret ((A.call fn51 (bN,bB)).1.2.2.2.1,true))
  (.ret ((A.call fn51 (bN,bB)).1.2.2.1.2.1,false))))
noncomputable def E152 (A:Alg):Info (Ty.Ts [(.int .i64),.bool]):={ti:=tys,fns:=[(152,Try.f152)],sps:=[(51,sp51)],stops:=[],cuts:=[],consts:=[],fin:=finD A [(.int .i64),.bool]}
theorem t152_ok (A:Alg) (bN:Int) (bB:List Int):run A (E152 A) 50 (startC 152 Try.f152 (dvals A [yBits] (bN,bB)))=(t152 A bN bB).tr Empty.elim:=by kernel_rfl
def w152:Walk Try.prog 152 [yBits] [(.int .i64),.bool] Empty:=⟨fun (bN,bB)=>t152 std bN bB,Empty.elim⟩
theorem w152_ok:w152.Ok:=
 walk_ok (E:=E152 std) ⟨tys_fit,fns_cons Try.func152 (by kernel_rfl) (fns_nil),sps_cons so51 (sps_nil),by kernel_rfl⟩ rfl rfl rfl (by kernel_rfl) w152 Empty.elim 50 (fun (bN,bB)=>t152_ok std bN bB) (fun y=>y.elim)
def fn152:Bits→(Int×Bool):=fun (bN,bB)=>(t152 std bN bB).val (Ty.dflts [(.int .i64),.bool])
def sp152:FSpec:=⟨[yBits], [(.int .i64),.bool],(@tt Bits),fn152⟩
theorem eqs152 (bN:Int) (bB:List Int):(t152 std bN bB).Eqs:=by simp only [t152,LT.Eqs,and_self,true_and,and_true]
theorem pre152_ok {bN:Int} {bB:List Int} (h:Ty.hass [yBits] (bN,bB)):(t152 std bN bB).pre=true:=by
 simp [t152,LT.pre,std_call,tt_eq]
theorem so152:FSpec.Sound Try.prog 152 sp152:=
 w152_ok.sound _ _ fun (bN,bB) _ h=>LT.runs (d:=Ty.dflts [(.int .i64),.bool]) (eqs152 bN bB) (pre152_ok h)
def t172 (A:Alg) (mNodes:Int) (mSlot:Int) (mGap:Int) (mWindow:Int) (mDrift:Int) (mDelay:Int) (mCold:List Bool) (mModes:List Mode) (port:Int) (bN:Int) (bB:List Int):LT Bool Empty:=
 .need (A.call (@tt Medl) (mNodes,mSlot,mGap,mWindow,mDrift,mDelay,mCold,mModes)) (
 .br (A.cmp .neq (A.call fn124 (mNodes,mSlot,mGap,mWindow,mDrift,mDelay,mCold,mModes)) 0)
 (.ret false)
 (.br (A.cmp .lss port 0)
  (.ret false)
  (.br (A.cmp .geq port mNodes)
  (.ret false)
  (.need (A.call (@tt ((Int×List Int))) (bN,bB)) (
   .br (A.cmp .neq (A.call fn99 (bN,bB)) 0)
   (.ret false)
   (.need (A.call (@tt Bits) (bN,bB)) (
    .br (A.cmp .lss (A.call fn152 (bN,bB)).1 0)
    (.ret true)
    (.ret (A.cmp .eql (A.call fn152 (bN,bB)).1 port)))))))))
noncomputable def E172 (A:Alg):Info (Ty.Ts [.bool]):={ti:=tys,fns:=[(172,Try.f172)],sps:=[(99,sp99),(124,sp124),(152,sp152)],stops:=[],cuts:=[],consts:=[],fin:=finD A [.bool]}
theorem t172_ok (A:Alg) (mNodes:Int) (mSlot:Int) (mGap:Int) (mWindow:Int) (mDrift:Int) (mDelay:Int) (mCold:List Bool) (mModes:List Mode) (port:Int) (bN:Int) (bB:List Int):run A (E172 A) 57 (startC 172 Try.f172 (dvals A [yMedl,(.int .i64),yBits] ((mNodes,mSlot,mGap,mWindow,mDrift,mDelay,mCold,mModes),port,bN,bB)))=(t172 A mNodes mSlot mGap mWindow mDrift mDelay mCold mModes port bN bB).tr Empty.elim:=by kernel_rfl
def w172:Walk Try.prog 172 [yMedl,(.int .i64),yBits] [.bool] Empty:=⟨fun ((mNodes,mSlot,mGap,mWindow,mDrift,mDelay,mCold,mModes),port,bN,bB)=>t172 std mNodes mSlot mGap mWindow mDrift mDelay mCold mModes port bN bB,Empty.elim⟩
theorem w172_ok:w172.Ok:=
 walk_ok (E:=E172 std) ⟨tys_fit,fns_cons Try.func172 (by kernel_rfl) (fns_nil),sps_cons so99 (sps_cons so124 (sps_cons so152 (sps_nil))),by kernel_rfl⟩ rfl rfl rfl (by kernel_rfl) w172 Empty.elim 57 (fun ((mNodes,mSlot,mGap,mWindow,mDrift,mDelay,mCold,mModes),port,bN,bB)=>t172_ok std mNodes mSlot mGap mWindow mDrift mDelay mCold mModes port bN bB) (fun y=>y.elim)
def fn172:(Medl×Int×Bits)→Bool:=fun ((mNodes,mSlot,mGap,mWindow,mDrift,mDelay,mCold,mModes),port,bN,bB)=>(t172 std mNodes mSlot mGap mWindow mDrift mDelay mCold mModes port bN bB).val (Ty.dflts [.bool])
def sp172:FSpec:=⟨[yMedl,(.int .i64),yBits], [.bool],(@tt (Medl×Int×Bits)),fn172⟩
theorem eqs172 (mNodes:Int) (mSlot:Int) (mGap:Int) (mWindow:Int) (mDrift:Int) (mDelay:Int) (mCold:List Bool) (mModes:List Mode) (port:Int) (bN:Int) (bB:List Int):(t172 std mNodes mSlot mGap mWindow mDrift mDelay mCold mModes port bN bB).Eqs:=by simp only [t172,LT.Eqs,and_self,true_and,and_true]
theorem pre172_ok {mNodes:Int} {mSlot:Int} {mGap:Int} {mWindow:Int} {mDrift:Int} {mDelay:Int} {mCold:List Bool} {mModes:List Mode} {port:Int} {bN:Int} {bB:List Int} (h:Ty.hass [yMedl,(.int .i64),yBits] ((mNodes,mSlot,mGap,mWindow,mDrift,mDelay,mCold,mModes),port,bN,bB)):(t172 std mNodes mSlot mGap mWindow mDrift mDelay mCold mModes port bN bB).pre=true:=by
 simp [t172,LT.pre,std_call,tt_eq]
theorem so172:FSpec.Sound Try.prog 172 sp172:=
 w172_ok.sound _ _ fun ((mNodes,mSlot,mGap,mWindow,mDrift,mDelay,mCold,mModes),port,bN,bB) _ h=>LT.runs (d:=Ty.dflts [.bool]) (eqs172 mNodes mSlot mGap mWindow mDrift mDelay mCold mModes port bN bB) (pre172_ok h)
theorem hub_zero {n s g w d de st p:Int} {sy:Bool} {cold:List Bool} {modes:List Mode} (h:fn71 ((n,s,g,w,d,de,cold,modes),sy,st,p)=0):medlB (n,s,g,w,d,de,cold,modes)=true∧0≤p∧p < n∧0≤st∧st≤1099494850560∧fn122 ((n,s,g,w,d,de,cold,modes),sy,st,p)=true:=by
 simp only [fn71,t71,LT.val,std_call,fn124_eq,std_not,std_cmp_neq] at h
 cases hm:medlS (n,s,g,w,d,de,cold,modes) != 0
 ·rw [hm,cond_false] at h
  cases hk:fn122 ((n,s,g,w,d,de,cold,modes),sy,st,p)
  ·rw [hk] at h; cases h
  ·refine ⟨medlS_zero.1 (by simpa using hm),?_⟩
   simp only [fn122,t122,LT.val,std_cmp_lss,std_cmp_geq,std_cmp_gtr] at hk
   by_cases h1:p < 0
   ·rw [decide_eq_true h1] at hk; cases hk
   by_cases h2:n≤p
   ·rw [decide_eq_false h1,decide_eq_true h2] at hk; cases hk
   by_cases h3:st < 0
   ·rw [decide_eq_false h1,decide_eq_false h2,decide_eq_true h3] at hk; cases hk
   by_cases h4:1099494850560 < st
   ·rw [decide_eq_false h1,decide_eq_false h2,decide_eq_false h3,decide_eq_true h4] at hk; cases hk
   exact ⟨by omega,by omega,by omega,by omega,rfl⟩
 ·rw [hm,cond_true] at h
  rw [h] at hm; cases hm
theorem medl_n {n s g w d de:Int} {cold:List Bool} {modes:List Mode} (h:medlB (n,s,g,w,d,de,cold,modes)=true):(4≤n∧n≤8)∧((1:Int)≤modes.length∧(modes.length:Int)≤4)∧(cold.length:Int)=n∧modes.all (modeB (n,s,g,w,d,de,cold,modes))=true∧(0≤d∧d≤64∧0≤de∧de≤64∧16≤w∧w≤1048576∧36≤g∧g≤1048576∧72≤s∧s≤16777216):=by
 simp only [medlB,countB,within_eq,limB,Bool.and_eq_true,decide_eq_true_eq,beq_iff_eq] at h
 obtain ⟨⟨⟨⟨⟨h1,h2⟩,h3⟩,_⟩,h4⟩,h5⟩:=h
 have:=win_low h1 (d:=d) (by omega)
 have hm:=max_range (m:=(n,s,g,w,d,de,cold,modes))
 exact ⟨h1,h2,h3,h4,by omega⟩
theorem rem_next {n p:Int} (h1:4≤n∧n≤8) (h2:0≤p∧p < n):std.bin .rem .i64 (std.bin .add .i64 p 1) n=bif p + 1 == n then 0 else p + 1:=by
 rw [std_rem,std_add,w64 (by omega) (by omega)]
 by_cases h:p + 1=n
 ·rw [beq_iff_eq.2 h,h,ctrue]; simp
 ·rw [beq_eq_false_iff_ne.2 h,cfalse]
  exact Int.tmod_eq_of_lt (by omega) (by omega)
theorem okZ:stOk zS=true:=rfl
theorem expl_ok {b:Int×List Int} (h:(explS b).2=true):frOk (explS b).1=true:=by
 rw [explS] at h ⊢
 cases hp:((parS (b,zS)).2 != 0 || (parS (b,zS)).1.1 == 2)
 ·rw [Bool.or_eq_false_iff] at hp
  have h0:(parS (b,zS)).2=0:=by simpa using hp.1
  rw [cond_false]
  show frOk (parS (b,zS)).1=true
  rw [parS] at h0 ⊢
  cases hb:bsOk b
  ·rw [hb] at h0; cases h0
  ·rw [hb,okZ] at h0
   rw [okZ]
   exact (frBits_frOf okZ (Prod.ext rfl h0)).2.1
 ·rw [hp] at h; cases h
theorem fr_low {f:Frm} (h:frOk f=true):0≤f.2.2.2.1∧f.2.2.2.1≤7∧0≤f.2.2.1.2.1∧f.2.2.1.2.1≤7:=by
 obtain ⟨k,r,⟨t,p,m,n,s⟩,fr,d⟩:=f
 simp only [frOk,Bool.and_eq_true] at h
 have hs:=stOk_iff.1 h.1.1.1
 have h2:=h.2
 cases hk:k == 1
 ·rw [hk,cond_false] at h2
  have:fr=0:=by
   cases hk3:k == 3
   ·rw [hk3] at h2; simp at h2; exact h2.2
   ·rw [hk3] at h2; simp at h2; exact h2.2
  subst this
  exact ⟨show (0:Int)≤0 by omega,show (0:Int)≤7 by omega,hs.2.1.1,hs.2.1.2⟩
 ·rw [hk,cond_true] at h2
  simp only [Bool.and_eq_true,decide_eq_true_eq] at h2
  exact ⟨h2.1.2.1,h2.1.2.2,hs.2.1.1,hs.2.1.2⟩
end Go.Ev.M
