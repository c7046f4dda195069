/-
  PROVED: closed facts of the program, one by one. Conditions: none.
-/
import Derived.Test.YteldjjjcdpnnbaaGreatRows
import Derived.JoinedOf
import Derived.ProofKit
import Derived.WalkKit
import Derived.OpenShut
namespace Go.Proofs.YteldjjjcdpnnbaaGreat
open Go.ChangeShapes Go.WideShapes Go.ChangeAt Go.RowKit
theorem gx{a b:Bool}(h:a=true)(k:b=true):(a&&b)=true:=by rw[h,k];rfl
theorem BG:(laidOutB Tryz.prog)=true:=by kernel_rfl
theorem Ka:(mapsRowed Tryz.prog)=true:=by kernel_rfl
theorem Lm:((Tryz.prog.stops == []))=true:=by kernel_rfl
theorem Kh:((Tryz.prog.stopKnobs == []))=true:=by kernel_rfl
theorem I5:(Tryz.prog.stopsHeard)=true:=by kernel_rfl
theorem Eu:(Tryz.prog.mayEnter)=true:=by kernel_rfl
theorem C4:Tryz.prog.plainKeys=true:=by kernel_rfl
theorem Ba:Tryz.prog.liftsFinal=false:=by kernel_rfl
theorem FN:ownKnob Tryz.prog.godebug=none:=by kernel_rfl
end Go.Proofs.YteldjjjcdpnnbaaGreat
