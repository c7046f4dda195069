/- PROVED: closed facts. Conditions: none. -/
import Derived.Test.YtalmcifclnbpmaaGreatRows
import Derived.JoinedOf
import Derived.ProofKit
import Derived.WalkKit
import Derived.OpenShut
namespace Go.Proofs.YtalmcifclnbpmaaGreat
open Go.ChangeShapes Go.WideShapes Go.ChangeAt Go.RowKit Go.Proofs.Tryz
theorem oV{a b:Bool}(h:a=true)(k:b=true):(a&&b)=true:=by rw[h,k];rfl
theorem TR:(laidOutB prog)=true:=by kernel_rfl
theorem afJ:(mapsRowed prog)=true:=by kernel_rfl
theorem afK:((prog.stops == []))=true:=by kernel_rfl
theorem afL:((prog.stopKnobs == []))=true:=by kernel_rfl
theorem aaX:(prog.stopsHeard)=true:=by kernel_rfl
theorem aaY:(prog.mayEnter)=true:=by kernel_rfl
theorem Vw:prog.plainKeys=true:=by kernel_rfl
theorem Rn:prog.liftsFinal=false:=by kernel_rfl
theorem aaZ:ownKnob prog.godebug=none:=by kernel_rfl
end Go.Proofs.YtalmcifclnbpmaaGreat
