/-
  PROVED: closed facts of the program, one by one. Conditions: none.
-/
import Derived.Test.YtjceiokllpmnkaaGreatRows
import Derived.JoinedOf
import Derived.ProofKit
import Derived.WalkKit
import Derived.OpenShut
namespace Go.Proofs.YtjceiokllpmnkaaGreat
open Go.ChangeShapes Go.WideShapes Go.ChangeAt Go.RowKit
theorem gi{a b:Bool}(h:a=true)(k:b=true):(a&&b)=true:=by rw[h,k];rfl
theorem Ar:(laidOutB Tryz.prog)=true:=by kernel_rfl
theorem Ie:(mapsRowed Tryz.prog)=true:=by kernel_rfl
theorem G2:((Tryz.prog.stops == []))=true:=by kernel_rfl
theorem Ii:((Tryz.prog.stopKnobs == []))=true:=by kernel_rfl
theorem EF:(Tryz.prog.stopsHeard)=true:=by kernel_rfl
theorem Fq:(Tryz.prog.mayEnter)=true:=by kernel_rfl
theorem BO:Tryz.prog.plainKeys=true:=by kernel_rfl
theorem zQ:Tryz.prog.liftsFinal=false:=by kernel_rfl
theorem DX:ownKnob Tryz.prog.godebug=none:=by kernel_rfl
end Go.Proofs.YtjceiokllpmnkaaGreat
