/-
  PROVED: what metronomeref05.Encode computes. Conditions: none.
-/
import Derived.Test.YtjceiokllpmnkaaGreatFc
import Derived.Test.YtjceiokllpmnkaaGreatKa
namespace Go.Ev.M
open Go.Proofs
set_option maxRecDepth 100000
set_option linter.unusedVariables false
set_option linter.unusedSimpArgs false
open Go.Ev.Pl
end Go.Ev.M
