/-
  PROVED: closed facts of the program, one by one. Conditions: none.
-/
import Derived.Test.YtjceiokllpmnkaaGreatRows
import Derived.JoinedOf
import Derived.ProofKit
import Derived.WalkKit
import Derived.OpenShut
namespace Go.Proofs.YtjceiokllpmnkaaGreat
open Go.ChangeShapes Go.WideShapes Go.ChangeAt Go.RowKit
theorem ju{a b:Bool}(h:a=true)(k:b=true):(a&&b)=true:=by rw[h,k];rfl
theorem Kb:(laidOutB Tryz.prog)=true:=by kernel_rfl
theorem Sv:(mapsRowed Tryz.prog)=true:=by kernel_rfl
theorem SH:((Tryz.prog.stops == []))=true:=by kernel_rfl
theorem RP:((Tryz.prog.stopKnobs == []))=true:=by kernel_rfl
theorem Pe:(Tryz.prog.stopsHeard)=true:=by kernel_rfl
theorem OZ:(Tryz.prog.mayEnter)=true:=by kernel_rfl
theorem K4:Tryz.prog.plainKeys=true:=by kernel_rfl
theorem Hz:Tryz.prog.liftsFinal=false:=by kernel_rfl
theorem LM:ownKnob Tryz.prog.godebug=none:=by kernel_rfl
end Go.Proofs.YtjceiokllpmnkaaGreat
