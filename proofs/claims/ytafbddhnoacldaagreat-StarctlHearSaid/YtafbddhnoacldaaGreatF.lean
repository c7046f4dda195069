/-
  PROVED: closed facts of the program, one by one. Conditions: none.
-/
import Derived.Test.YtafbddhnoacldaaGreatRows
import Derived.JoinedOf
import Derived.ProofKit
import Derived.WalkKit
import Derived.OpenShut
namespace Go.Proofs.YtafbddhnoacldaaGreat
open Go.ChangeShapes Go.WideShapes Go.ChangeAt Go.RowKit
theorem band {a b:Bool} (h:a=true) (k:b=true):(a && b)=true:=by rw [h,k]; rfl
theorem seat_j1:(laidOutB Tryz.prog)=true:=by kernel_rfl
theorem seat_j2:(mapsRowed Tryz.prog)=true:=by kernel_rfl
theorem seat_j6:((Tryz.prog.stops == []))=true:=by kernel_rfl
theorem seat_j8:((Tryz.prog.stopKnobs == []))=true:=by kernel_rfl
theorem seat_j24:(Tryz.prog.stopsHeard)=true:=by kernel_rfl
theorem seat_j25:(Tryz.prog.mayEnter)=true:=by kernel_rfl
theorem seat_keys:Tryz.prog.plainKeys=true:=by kernel_rfl
theorem seat_lifts:Tryz.prog.liftsFinal=false:=by kernel_rfl
theorem seat_own:ownKnob Tryz.prog.godebug=none:=by kernel_rfl
end Go.Proofs.YtafbddhnoacldaaGreat
