/-
  PROVED: closed facts of the program, one by one. Conditions: none.
-/
import Derived.Test.YteldjjjcdpnnbaaGreatRows
import Derived.JoinedOf
import Derived.ProofKit
import Derived.WalkKit
import Derived.OpenShut
namespace Go.Proofs.YteldjjjcdpnnbaaGreat
open Go.ChangeShapes Go.WideShapes Go.ChangeAt Go.RowKit
theorem gf{a b:Bool}(h:a=true)(k:b=true):(a&&b)=true:=by rw[h,k];rfl
theorem Bp:(laidOutB Tryz.prog)=true:=by kernel_rfl
theorem IY:(mapsRowed Tryz.prog)=true:=by kernel_rfl
theorem Iv:((Tryz.prog.stops == []))=true:=by kernel_rfl
theorem GH:((Tryz.prog.stopKnobs == []))=true:=by kernel_rfl
theorem ED:(Tryz.prog.stopsHeard)=true:=by kernel_rfl
theorem C6:(Tryz.prog.mayEnter)=true:=by kernel_rfl
theorem CL:Tryz.prog.plainKeys=true:=by kernel_rfl
theorem zp:Tryz.prog.liftsFinal=false:=by kernel_rfl
theorem Du:ownKnob Tryz.prog.godebug=none:=by kernel_rfl
end Go.Proofs.YteldjjjcdpnnbaaGreat
