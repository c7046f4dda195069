/-
  PROVED: closed facts of the program, one by one. Conditions: none.
-/
import Derived.Test.YtjceiokllpmnkaaGreatRows
import Derived.JoinedOf
import Derived.ProofKit
import Derived.WalkKit
import Derived.OpenShut
namespace Go.Proofs.YtjceiokllpmnkaaGreat
open Go.ChangeShapes Go.WideShapes Go.ChangeAt Go.RowKit
theorem jq{a b:Bool}(h:a=true)(k:b=true):(a&&b)=true:=by rw[h,k];rfl
theorem JD:(laidOutB Tryz.prog)=true:=by kernel_rfl
theorem UB:(mapsRowed Tryz.prog)=true:=by kernel_rfl
theorem Ss:((Tryz.prog.stops == []))=true:=by kernel_rfl
theorem R_:((Tryz.prog.stopKnobs == []))=true:=by kernel_rfl
theorem QQ:(Tryz.prog.stopsHeard)=true:=by kernel_rfl
theorem Oz:(Tryz.prog.mayEnter)=true:=by kernel_rfl
theorem LQ:Tryz.prog.plainKeys=true:=by kernel_rfl
theorem Hf:Tryz.prog.liftsFinal=false:=by kernel_rfl
theorem Nj:ownKnob Tryz.prog.godebug=none:=by kernel_rfl
end Go.Proofs.YtjceiokllpmnkaaGreat
