/-
  PROVED: closed facts of the program, one by one. Conditions: none.
-/
import Derived.Test.YtjceiokllpmnkaaGreatRows
import Derived.JoinedOf
import Derived.ProofKit
import Derived.WalkKit
import Derived.OpenShut
namespace Go.Proofs.YtjceiokllpmnkaaGreat
open Go.ChangeShapes Go.WideShapes Go.ChangeAt Go.RowKit
theorem gk{a b:Bool}(h:a=true)(k:b=true):(a&&b)=true:=by rw[h,k];rfl
theorem Bd:(laidOutB Tryz.prog)=true:=by kernel_rfl
theorem IK:(mapsRowed Tryz.prog)=true:=by kernel_rfl
theorem IZ:((Tryz.prog.stops == []))=true:=by kernel_rfl
theorem Jn:((Tryz.prog.stopKnobs == []))=true:=by kernel_rfl
theorem D3:(Tryz.prog.stopsHeard)=true:=by kernel_rfl
theorem Fq:(Tryz.prog.mayEnter)=true:=by kernel_rfl
theorem Df:Tryz.prog.plainKeys=true:=by kernel_rfl
theorem AR:Tryz.prog.liftsFinal=false:=by kernel_rfl
theorem EH:ownKnob Tryz.prog.godebug=none:=by kernel_rfl
end Go.Proofs.YtjceiokllpmnkaaGreat
