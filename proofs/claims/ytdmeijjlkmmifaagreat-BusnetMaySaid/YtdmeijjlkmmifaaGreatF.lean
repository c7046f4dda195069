/-
  PROVED: closed facts of the program, one by one. Conditions: none.
-/
import Derived.Test.YtdmeijjlkmmifaaGreatRows
import Derived.JoinedOf
import Derived.ProofKit
import Derived.WalkKit
import Derived.OpenShut
namespace Go.Proofs.YtdmeijjlkmmifaaGreat
open Go.ChangeShapes Go.WideShapes Go.ChangeAt Go.RowKit
theorem oL{a b:Bool}(h:a=true)(k:b=true):(a&&b)=true:=by rw[h,k];rfl
theorem TP:(laidOutB Tryz.prog)=true:=by kernel_rfl
theorem afc:(mapsRowed Tryz.prog)=true:=by kernel_rfl
theorem afd:((Tryz.prog.stops == []))=true:=by kernel_rfl
theorem afe:((Tryz.prog.stopKnobs == []))=true:=by kernel_rfl
theorem aaL:(Tryz.prog.stopsHeard)=true:=by kernel_rfl
theorem aaM:(Tryz.prog.mayEnter)=true:=by kernel_rfl
theorem Vw:Tryz.prog.plainKeys=true:=by kernel_rfl
theorem Q6:Tryz.prog.liftsFinal=false:=by kernel_rfl
theorem aaN:ownKnob Tryz.prog.godebug=none:=by kernel_rfl
end Go.Proofs.YtdmeijjlkmmifaaGreat
