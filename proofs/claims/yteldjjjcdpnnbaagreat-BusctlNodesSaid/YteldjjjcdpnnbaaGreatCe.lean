/-
  PROVED: what Own, End and Tick of busctl and of metronomeref18 compute. Conditions: none.
-/
import Derived.Test.YteldjjjcdpnnbaaGreatCc
namespace Go.Ev.M
open Go.Proofs
set_option maxRecDepth 100000
set_option linter.unusedVariables false
set_option linter.unusedSimpArgs false
open Go.Ev.Pl
open Go.Ev.Pl
open Go.Ev.Pl
open Go.Ev.Pl
open Go.Ev.Pl
theorem uD{x:Int}:ai.c .eql x x=true:=by rw[aT];simp
theorem vq{x:Int}:ai.c .neq x x=false:=by rw[aY];simp
theorem xh{x:Bool}:ai.q x x=true:=by rw[iI];simp
end Go.Ev.M
