/-
  PROVED: closed facts of the program, one by one. Conditions: none.
-/
import Derived.Test.YteldjjjcdpnnbaaGreatRows
import Derived.JoinedOf
import Derived.ProofKit
import Derived.WalkKit
import Derived.OpenShut
namespace Go.Proofs.YteldjjjcdpnnbaaGreat
open Go.ChangeShapes Go.WideShapes Go.ChangeAt Go.RowKit
theorem bI{a b:Bool}(h:a=true)(k:b=true):(a&&b)=true:=by rw[h,k];rfl
theorem oP:(laidOutB Tryz.prog)=true:=by kernel_rfl
theorem Aq:(mapsRowed Tryz.prog)=true:=by kernel_rfl
theorem A_:((Tryz.prog.stops == []))=true:=by kernel_rfl
theorem AQ:((Tryz.prog.stopKnobs == []))=true:=by kernel_rfl
theorem xH:(Tryz.prog.stopsHeard)=true:=by kernel_rfl
theorem vy:(Tryz.prog.mayEnter)=true:=by kernel_rfl
theorem sF:Tryz.prog.plainKeys=true:=by kernel_rfl
theorem p_:Tryz.prog.liftsFinal=false:=by kernel_rfl
theorem wV:ownKnob Tryz.prog.godebug=none:=by kernel_rfl
end Go.Proofs.YteldjjjcdpnnbaaGreat
