/- PROVED: closed facts. Conditions: none. -/
import Derived.Test.YtdmeijjlkmmifaaGreatRows
import Derived.JoinedOf
import Derived.ProofKit
import Derived.WalkKit
import Derived.OpenShut
namespace Go.Proofs.YtdmeijjlkmmifaaGreat
open Go.ChangeShapes Go.WideShapes Go.ChangeAt Go.RowKit Go.Proofs.Tryz
theorem oV{a b:Bool}(h:a=true)(k:b=true):(a&&b)=true:=by rw[h,k];rfl
theorem UY:(laidOutB prog)=true:=by kernel_rfl
theorem agD:(mapsRowed prog)=true:=by kernel_rfl
theorem agE:((prog.stops == []))=true:=by kernel_rfl
theorem agF:((prog.stopKnobs == []))=true:=by kernel_rfl
theorem acj:(prog.stopsHeard)=true:=by kernel_rfl
theorem ack:(prog.mayEnter)=true:=by kernel_rfl
theorem WK:prog.plainKeys=true:=by kernel_rfl
theorem Sg:prog.liftsFinal=false:=by kernel_rfl
theorem acm:ownKnob prog.godebug=none:=by kernel_rfl
end Go.Proofs.YtdmeijjlkmmifaaGreat
