/-
  PROVED: closed facts of the program, one by one. Conditions: none.
-/
import Derived.Test.YteldjjjcdpnnbaaGreatRows
import Derived.JoinedOf
import Derived.ProofKit
import Derived.WalkKit
import Derived.OpenShut
namespace Go.Proofs.YteldjjjcdpnnbaaGreat
open Go.ChangeShapes Go.WideShapes Go.ChangeAt Go.RowKit
theorem fP{a b:Bool}(h:a=true)(k:b=true):(a&&b)=true:=by rw[h,k];rfl
theorem Ap:(laidOutB Tryz.prog)=true:=by kernel_rfl
theorem G0:(mapsRowed Tryz.prog)=true:=by kernel_rfl
theorem GH:((Tryz.prog.stops == []))=true:=by kernel_rfl
theorem Gx:((Tryz.prog.stopKnobs == []))=true:=by kernel_rfl
theorem El:(Tryz.prog.stopsHeard)=true:=by kernel_rfl
theorem DZ:(Tryz.prog.mayEnter)=true:=by kernel_rfl
theorem A4:Tryz.prog.plainKeys=true:=by kernel_rfl
theorem yT:Tryz.prog.liftsFinal=false:=by kernel_rfl
theorem Dj:ownKnob Tryz.prog.godebug=none:=by kernel_rfl
end Go.Proofs.YteldjjjcdpnnbaaGreat
