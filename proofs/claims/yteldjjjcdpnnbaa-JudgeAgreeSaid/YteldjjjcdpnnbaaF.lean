/-
  PROVED: closed facts of the program, one by one. Conditions: none.
-/
import Derived.Test.YteldjjjcdpnnbaaRows
import Derived.JoinedOf
import Derived.ProofKit
import Derived.WalkKit
import Derived.OpenShut
namespace Go.Proofs.Yteldjjjcdpnnbaa
open Go.ChangeShapes Go.WideShapes Go.ChangeAt Go.RowKit
theorem fB{a b:Bool}(h:a=true)(k:b=true):(a&&b)=true:=by rw[h,k];rfl
theorem zd:(laidOutB Try.prog)=true:=by kernel_rfl
theorem ES:(mapsRowed Try.prog)=true:=by kernel_rfl
theorem ET:((Try.prog.stops == []))=true:=by kernel_rfl
theorem Ew:((Try.prog.stopKnobs == []))=true:=by kernel_rfl
theorem Cp:(Try.prog.stopsHeard)=true:=by kernel_rfl
theorem DD:(Try.prog.mayEnter)=true:=by kernel_rfl
theorem Aa:Try.prog.plainKeys=true:=by kernel_rfl
theorem xB:Try.prog.liftsFinal=false:=by kernel_rfl
theorem Cm:ownKnob Try.prog.godebug=none:=by kernel_rfl
end Go.Proofs.Yteldjjjcdpnnbaa
