/-
  PROVED: closed facts of the program, one by one. Conditions: none.
-/
import Derived.Test.YtafbddhnoacldaaRows
import Derived.JoinedOf
import Derived.ProofKit
import Derived.WalkKit
import Derived.OpenShut
namespace Go.Proofs.Ytafbddhnoacldaa
open Go.ChangeShapes Go.WideShapes Go.ChangeAt Go.RowKit
theorem band {a b:Bool} (h:a=true) (k:b=true):(a && b)=true:=by rw [h,k]; rfl
theorem seat_j1:(laidOutB Try.prog)=true:=by kernel_rfl
theorem seat_j2:(mapsRowed Try.prog)=true:=by kernel_rfl
theorem seat_j6:((Try.prog.stops == []))=true:=by kernel_rfl
theorem seat_j8:((Try.prog.stopKnobs == []))=true:=by kernel_rfl
theorem seat_j24:(Try.prog.stopsHeard)=true:=by kernel_rfl
theorem seat_j25:(Try.prog.mayEnter)=true:=by kernel_rfl
theorem seat_keys:Try.prog.plainKeys=true:=by kernel_rfl
theorem seat_lifts:Try.prog.liftsFinal=false:=by kernel_rfl
theorem seat_own:ownKnob Try.prog.godebug=none:=by kernel_rfl
end Go.Proofs.Ytafbddhnoacldaa
