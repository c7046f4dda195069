/-
  PROVED: closed facts of the program, one by one. Conditions: none.
-/
import Derived.Test.YtjceiokllpmnkaaGreatRows
import Derived.JoinedOf
import Derived.ProofKit
import Derived.WalkKit
import Derived.OpenShut
namespace Go.Proofs.YtjceiokllpmnkaaGreat
open Go.ChangeShapes Go.WideShapes Go.ChangeAt Go.RowKit
theorem jB{a b:Bool}(h:a=true)(k:b=true):(a&&b)=true:=by rw[h,k];rfl
theorem Kq:(laidOutB Tryz.prog)=true:=by kernel_rfl
theorem Ug:(mapsRowed Tryz.prog)=true:=by kernel_rfl
theorem Ur:((Tryz.prog.stops == []))=true:=by kernel_rfl
theorem S9:((Tryz.prog.stopKnobs == []))=true:=by kernel_rfl
theorem Pe:(Tryz.prog.stopsHeard)=true:=by kernel_rfl
theorem M4:(Tryz.prog.mayEnter)=true:=by kernel_rfl
theorem Lt:Tryz.prog.plainKeys=true:=by kernel_rfl
theorem It:Tryz.prog.liftsFinal=false:=by kernel_rfl
theorem SD:ownKnob Tryz.prog.godebug=none:=by kernel_rfl
end Go.Proofs.YtjceiokllpmnkaaGreat
