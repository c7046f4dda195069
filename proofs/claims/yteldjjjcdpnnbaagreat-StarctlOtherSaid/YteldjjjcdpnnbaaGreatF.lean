/-
  PROVED: closed facts of the program, one by one. Conditions: none.
-/
import Derived.Test.YteldjjjcdpnnbaaGreatRows
import Derived.JoinedOf
import Derived.ProofKit
import Derived.WalkKit
import Derived.OpenShut
namespace Go.Proofs.YteldjjjcdpnnbaaGreat
open Go.ChangeShapes Go.WideShapes Go.ChangeAt Go.RowKit
theorem bq{a b:Bool}(h:a=true)(k:b=true):(a&&b)=true:=by rw[h,k];rfl
theorem lU:(laidOutB Tryz.prog)=true:=by kernel_rfl
theorem w_:(mapsRowed Tryz.prog)=true:=by kernel_rfl
theorem wW:((Tryz.prog.stops == []))=true:=by kernel_rfl
theorem w5:((Tryz.prog.stopKnobs == []))=true:=by kernel_rfl
theorem rm:(Tryz.prog.stopsHeard)=true:=by kernel_rfl
theorem rW:(Tryz.prog.mayEnter)=true:=by kernel_rfl
theorem pH:Tryz.prog.plainKeys=true:=by kernel_rfl
theorem nG:Tryz.prog.liftsFinal=false:=by kernel_rfl
theorem r8:ownKnob Tryz.prog.godebug=none:=by kernel_rfl
end Go.Proofs.YteldjjjcdpnnbaaGreat
