/-
  PROVED: closed facts of the program, one by one. Conditions: none.
-/
import Derived.Test.YtdmeijjlkmmifaaGreatRows
import Derived.JoinedOf
import Derived.ProofKit
import Derived.WalkKit
import Derived.OpenShut
namespace Go.Proofs.YtdmeijjlkmmifaaGreat
open Go.ChangeShapes Go.WideShapes Go.ChangeAt Go.RowKit
theorem oF{a b:Bool}(h:a=true)(k:b=true):(a&&b)=true:=by rw[h,k];rfl
theorem Tv:(laidOutB Tryz.prog)=true:=by kernel_rfl
theorem aeP:(mapsRowed Tryz.prog)=true:=by kernel_rfl
theorem aeQ:((Tryz.prog.stops == []))=true:=by kernel_rfl
theorem aeR:((Tryz.prog.stopKnobs == []))=true:=by kernel_rfl
theorem aaj:(Tryz.prog.stopsHeard)=true:=by kernel_rfl
theorem aak:(Tryz.prog.mayEnter)=true:=by kernel_rfl
theorem Vb:Tryz.prog.plainKeys=true:=by kernel_rfl
theorem QU:Tryz.prog.liftsFinal=false:=by kernel_rfl
theorem aal:ownKnob Tryz.prog.godebug=none:=by kernel_rfl
end Go.Proofs.YtdmeijjlkmmifaaGreat
