/-
  No cell of these rows narrows 'for every input' (looked for: loops, veiled, ifaces, maps, wideKeys, modest, calm, conditions, laid).
  DERIVED. THE GIVEN ROWS OF THIS SEAT. 7 by the template 'for every input the law returns true; each argument reads behind the call as it read before'; 0 by the template 'total and deterministic' (their statements: YtjceiokllpmnkaaGreatTotals.lean).
  GIVEN WITH THE SEED: the statements are not yours to turn. If you find one false, say at which input.
  Laid BY PROGRAM, IN A SANDBOX (cutbox-rows.mjs): the forced cells as the released guide's own fill.sh prints them over the translation d0e58d7a3ea04048… (all of the seat's roots in one cut). By AI agents, Wed Nov 11 2026. No macro, syntax, notation, axiom, sorry.
-/
import Derived.Test.YtjceiokllpmnkaaGreatChecked
import GoSem.Claim
import GoSem.ClaimJoined
import GoSem.ClaimMapViews
import Derived.JoinedTies
import Derived.KernelRfl
namespace Go.Proofs.YtjceiokllpmnkaaGreat
/- THE CELL 'sum', in the pinned program and in every row, IS THE sha256 OF THE DUMP (.gsa) THAT YtjceiokllpmnkaaGreatProg.lean LOADS. Nothing in Lean hashes anything: it is a label: what it is worth is what the hold of that sum in a sandbox is worth. -/
noncomputable def Tryz.pinned : Pinned := { name := "ytjceiokllpmnkaagreat", sum := "d0e58d7a3ea040488974d313473e8b192d9d390145ab880453457e0cac7b2ee1", checked := Tryz.checked }
namespace Rows
def none {H : Type} : Left H := { results := [], args := [] }

/-- 'metronomelaw18.BusctlAgree': WHATEVER THE INPUT: true; the input reads as it did. -/
def busctlAgreeSpec : ChangeSpec := { name := "busctlAgree", fn := fun _ => fun
  | [d1, d2, d3, d4] => { results := [.lit (.bool true)], args := [d1, d2, d3, d4] }
  | _ => none }
def busctlAgreeRow : OpenClaim := { program := "ytjceiokllpmnkaagreat", sum := "d0e58d7a3ea040488974d313473e8b192d9d390145ab880453457e0cac7b2ee1", func := "metronome/metronomelaw18.BusctlAgree", spec := "busctlAgree", unfollowed := true, recurses := true, apart := false }
def BusctlAgreeSaid : Prop := busctlAgreeRow.holds Tryz.pinned (OpenSpec.ofChange busctlAgreeSpec)

/-- ITS FALSE NEIGHBOUR: 'it returns false'. Refute it at one input. -/
def busctlAgreeWrong : ChangeSpec := { name := "busctlAgree", fn := fun _ => fun
  | [d1, d2, d3, d4] => { results := [.lit (.bool false)], args := [d1, d2, d3, d4] }
  | _ => none }
def BusctlAgreeWrongFalsely : Prop := busctlAgreeRow.holds Tryz.pinned (OpenSpec.ofChange busctlAgreeWrong)

/-- 'metronomelaw22.ModelRuns': WHATEVER THE INPUT: true; the input reads as it did. -/
def modelRunsSpec : ChangeSpec := { name := "modelRuns", fn := fun _ => fun
  | [d1, d2] => { results := [.lit (.bool true)], args := [d1, d2] }
  | _ => none }
def modelRunsRow : OpenClaim := { program := "ytjceiokllpmnkaagreat", sum := "d0e58d7a3ea040488974d313473e8b192d9d390145ab880453457e0cac7b2ee1", func := "metronome/metronomelaw22.ModelRuns", spec := "modelRuns", unfollowed := true, recurses := true, apart := false }
def ModelRunsSaid : Prop := modelRunsRow.holds Tryz.pinned (OpenSpec.ofChange modelRunsSpec)

/-- ITS FALSE NEIGHBOUR: 'it returns false'. Refute it at one input. -/
def modelRunsWrong : ChangeSpec := { name := "modelRuns", fn := fun _ => fun
  | [d1, d2] => { results := [.lit (.bool false)], args := [d1, d2] }
  | _ => none }
def ModelRunsWrongFalsely : Prop := modelRunsRow.holds Tryz.pinned (OpenSpec.ofChange modelRunsWrong)

/-- 'metronomelaw22.ModelTimes': WHATEVER THE INPUT: true; the input reads as it did. -/
def modelTimesSpec : ChangeSpec := { name := "modelTimes", fn := fun _ => fun
  | [d1, d2, d3] => { results := [.lit (.bool true)], args := [d1, d2, d3] }
  | _ => none }
def modelTimesRow : OpenClaim := { program := "ytjceiokllpmnkaagreat", sum := "d0e58d7a3ea040488974d313473e8b192d9d390145ab880453457e0cac7b2ee1", func := "metronome/metronomelaw22.ModelTimes", spec := "modelTimes", unfollowed := true, recurses := true, apart := false }
def ModelTimesSaid : Prop := modelTimesRow.holds Tryz.pinned (OpenSpec.ofChange modelTimesSpec)

/-- ITS FALSE NEIGHBOUR: 'it returns false'. Refute it at one input. -/
def modelTimesWrong : ChangeSpec := { name := "modelTimes", fn := fun _ => fun
  | [d1, d2, d3] => { results := [.lit (.bool false)], args := [d1, d2, d3] }
  | _ => none }
def ModelTimesWrongFalsely : Prop := modelTimesRow.holds Tryz.pinned (OpenSpec.ofChange modelTimesWrong)

/-- 'metronomelaw22.ModelAgree': WHATEVER THE INPUT: true; the input reads as it did. -/
def modelAgreeSpec : ChangeSpec := { name := "modelAgree", fn := fun _ => fun
  | [d1, d2] => { results := [.lit (.bool true)], args := [d1, d2] }
  | _ => none }
def modelAgreeRow : OpenClaim := { program := "ytjceiokllpmnkaagreat", sum := "d0e58d7a3ea040488974d313473e8b192d9d390145ab880453457e0cac7b2ee1", func := "metronome/metronomelaw22.ModelAgree", spec := "modelAgree", unfollowed := true, recurses := true, apart := false }
def ModelAgreeSaid : Prop := modelAgreeRow.holds Tryz.pinned (OpenSpec.ofChange modelAgreeSpec)

/-- ITS FALSE NEIGHBOUR: 'it returns false'. Refute it at one input. -/
def modelAgreeWrong : ChangeSpec := { name := "modelAgree", fn := fun _ => fun
  | [d1, d2] => { results := [.lit (.bool false)], args := [d1, d2] }
  | _ => none }
def ModelAgreeWrongFalsely : Prop := modelAgreeRow.holds Tryz.pinned (OpenSpec.ofChange modelAgreeWrong)

/-- 'metronomelaw22.ModelMay': WHATEVER THE INPUT: true; the input reads as it did. -/
def modelMaySpec : ChangeSpec := { name := "modelMay", fn := fun _ => fun
  | [d1, d2] => { results := [.lit (.bool true)], args := [d1, d2] }
  | _ => none }
def modelMayRow : OpenClaim := { program := "ytjceiokllpmnkaagreat", sum := "d0e58d7a3ea040488974d313473e8b192d9d390145ab880453457e0cac7b2ee1", func := "metronome/metronomelaw22.ModelMay", spec := "modelMay", unfollowed := true, recurses := true, apart := false }
def ModelMaySaid : Prop := modelMayRow.holds Tryz.pinned (OpenSpec.ofChange modelMaySpec)

/-- ITS FALSE NEIGHBOUR: 'it returns false'. Refute it at one input. -/
def modelMayWrong : ChangeSpec := { name := "modelMay", fn := fun _ => fun
  | [d1, d2] => { results := [.lit (.bool false)], args := [d1, d2] }
  | _ => none }
def ModelMayWrongFalsely : Prop := modelMayRow.holds Tryz.pinned (OpenSpec.ofChange modelMayWrong)

/-- 'metronomelaw22.ModelSteps': WHATEVER THE INPUT: true; the input reads as it did. -/
def modelStepsSpec : ChangeSpec := { name := "modelSteps", fn := fun _ => fun
  | [d1, d2, d3] => { results := [.lit (.bool true)], args := [d1, d2, d3] }
  | _ => none }
def modelStepsRow : OpenClaim := { program := "ytjceiokllpmnkaagreat", sum := "d0e58d7a3ea040488974d313473e8b192d9d390145ab880453457e0cac7b2ee1", func := "metronome/metronomelaw22.ModelSteps", spec := "modelSteps", unfollowed := true, recurses := true, apart := false }
def ModelStepsSaid : Prop := modelStepsRow.holds Tryz.pinned (OpenSpec.ofChange modelStepsSpec)

/-- ITS FALSE NEIGHBOUR: 'it returns false'. Refute it at one input. -/
def modelStepsWrong : ChangeSpec := { name := "modelSteps", fn := fun _ => fun
  | [d1, d2, d3] => { results := [.lit (.bool false)], args := [d1, d2, d3] }
  | _ => none }
def ModelStepsWrongFalsely : Prop := modelStepsRow.holds Tryz.pinned (OpenSpec.ofChange modelStepsWrong)

/-- 'metronomelaw22.ModelNone': WHATEVER THE INPUT: true; the input reads as it did. -/
def modelNoneSpec : ChangeSpec := { name := "modelNone", fn := fun _ => fun
  | [d] => { results := [.lit (.bool true)], args := [d] }
  | _ => none }
def modelNoneRow : OpenClaim := { program := "ytjceiokllpmnkaagreat", sum := "d0e58d7a3ea040488974d313473e8b192d9d390145ab880453457e0cac7b2ee1", func := "metronome/metronomelaw22.ModelNone", spec := "modelNone", unfollowed := true, recurses := true, apart := false }
def ModelNoneSaid : Prop := modelNoneRow.holds Tryz.pinned (OpenSpec.ofChange modelNoneSpec)

/-- ITS FALSE NEIGHBOUR: 'it returns false'. Refute it at one input. -/
def modelNoneWrong : ChangeSpec := { name := "modelNone", fn := fun _ => fun
  | [d] => { results := [.lit (.bool false)], args := [d] }
  | _ => none }
def ModelNoneWrongFalsely : Prop := modelNoneRow.holds Tryz.pinned (OpenSpec.ofChange modelNoneWrong)

/- THE SECOND FORM. 'bulk': how many values and letters a reading holds, each counted each time it is reached (what is shared counts as often as it is met; a slice's spare places count too). A statement '..UptoSaid' is the law's where the arguments, and the package variables that the reading takes, are together of bulk at most 1048576: NARROWER than '..Said'. Prove '..Said' where nothing that the law and all that it calls make is longer than what came in: it says more and counts as full. Else prove '..UptoSaid'. A law counts once. -/
mutual
def uptoBulk {H : Type} : DataW H → Nat
  | .lit (.string bytes) => bytes.length + 1
  | .lit _ => 1
  | .nil => 1
  | .ptr d => uptoBulk d + 1
  | .slice elems spare => uptoBulkAll elems + uptoBulkAll spare + 1
  | .agg parts => uptoBulkAll parts + 1
  | .iface _ d => uptoBulk d + 1
  | .map entries => uptoBulkEntries entries + 1
  | .held _ => 1
def uptoBulkAll {H : Type} : List (DataW H) → Nat
  | [] => 0
  | d :: r => uptoBulk d + uptoBulkAll r
def uptoBulkEntries {H : Type} : List (Lit × DataW H) → Nat
  | [] => 0
  | x :: r => uptoBulkEntry x + uptoBulkEntries r
def uptoBulkEntry {H : Type} : Lit × DataW H → Nat
  | (.string bytes, d) => bytes.length + uptoBulk d + 1
  | (_, d) => uptoBulk d + 1
 end
def uptoSmall : (H : Type) → List (DataW H) → Bool := fun _ ds => decide (uptoBulkAll ds ≤ 1048576)
def OpenSpec.upto (s : _root_.Go.ChangeSpec) : _root_.Go.OpenSpec := { _root_.Go.OpenSpec.ofChange s with cond := some uptoSmall }

/-- 'metronomelaw18.BusctlAgree', WHERE WHAT IT READS IS OF BULK AT MOST 1048576: true; the input reads as it did. -/
def busctlAgreeUptoRow : OpenClaim := { program := "ytjceiokllpmnkaagreat", sum := "d0e58d7a3ea040488974d313473e8b192d9d390145ab880453457e0cac7b2ee1", func := "metronome/metronomelaw18.BusctlAgree", spec := "busctlAgree", unfollowed := true, recurses := true, apart := false, narrowed := true }
def BusctlAgreeUptoSaid : Prop := busctlAgreeUptoRow.holds Tryz.pinned (OpenSpec.upto busctlAgreeSpec)

/-- 'metronomelaw22.ModelRuns', WHERE WHAT IT READS IS OF BULK AT MOST 1048576: true; the input reads as it did. -/
def modelRunsUptoRow : OpenClaim := { program := "ytjceiokllpmnkaagreat", sum := "d0e58d7a3ea040488974d313473e8b192d9d390145ab880453457e0cac7b2ee1", func := "metronome/metronomelaw22.ModelRuns", spec := "modelRuns", unfollowed := true, recurses := true, apart := false, narrowed := true }
def ModelRunsUptoSaid : Prop := modelRunsUptoRow.holds Tryz.pinned (OpenSpec.upto modelRunsSpec)

/-- 'metronomelaw22.ModelTimes', WHERE WHAT IT READS IS OF BULK AT MOST 1048576: true; the input reads as it did. -/
def modelTimesUptoRow : OpenClaim := { program := "ytjceiokllpmnkaagreat", sum := "d0e58d7a3ea040488974d313473e8b192d9d390145ab880453457e0cac7b2ee1", func := "metronome/metronomelaw22.ModelTimes", spec := "modelTimes", unfollowed := true, recurses := true, apart := false, narrowed := true }
def ModelTimesUptoSaid : Prop := modelTimesUptoRow.holds Tryz.pinned (OpenSpec.upto modelTimesSpec)

/-- 'metronomelaw22.ModelAgree', WHERE WHAT IT READS IS OF BULK AT MOST 1048576: true; the input reads as it did. -/
def modelAgreeUptoRow : OpenClaim := { program := "ytjceiokllpmnkaagreat", sum := "d0e58d7a3ea040488974d313473e8b192d9d390145ab880453457e0cac7b2ee1", func := "metronome/metronomelaw22.ModelAgree", spec := "modelAgree", unfollowed := true, recurses := true, apart := false, narrowed := true }
def ModelAgreeUptoSaid : Prop := modelAgreeUptoRow.holds Tryz.pinned (OpenSpec.upto modelAgreeSpec)

/-- 'metronomelaw22.ModelMay', WHERE WHAT IT READS IS OF BULK AT MOST 1048576: true; the input reads as it did. -/
def modelMayUptoRow : OpenClaim := { program := "ytjceiokllpmnkaagreat", sum := "d0e58d7a3ea040488974d313473e8b192d9d390145ab880453457e0cac7b2ee1", func := "metronome/metronomelaw22.ModelMay", spec := "modelMay", unfollowed := true, recurses := true, apart := false, narrowed := true }
def ModelMayUptoSaid : Prop := modelMayUptoRow.holds Tryz.pinned (OpenSpec.upto modelMaySpec)

/-- 'metronomelaw22.ModelSteps', WHERE WHAT IT READS IS OF BULK AT MOST 1048576: true; the input reads as it did. -/
def modelStepsUptoRow : OpenClaim := { program := "ytjceiokllpmnkaagreat", sum := "d0e58d7a3ea040488974d313473e8b192d9d390145ab880453457e0cac7b2ee1", func := "metronome/metronomelaw22.ModelSteps", spec := "modelSteps", unfollowed := true, recurses := true, apart := false, narrowed := true }
def ModelStepsUptoSaid : Prop := modelStepsUptoRow.holds Tryz.pinned (OpenSpec.upto modelStepsSpec)

/-- 'metronomelaw22.ModelNone', WHERE WHAT IT READS IS OF BULK AT MOST 1048576: true; the input reads as it did. -/
def modelNoneUptoRow : OpenClaim := { program := "ytjceiokllpmnkaagreat", sum := "d0e58d7a3ea040488974d313473e8b192d9d390145ab880453457e0cac7b2ee1", func := "metronome/metronomelaw22.ModelNone", spec := "modelNone", unfollowed := true, recurses := true, apart := false, narrowed := true }
def ModelNoneUptoSaid : Prop := modelNoneUptoRow.holds Tryz.pinned (OpenSpec.upto modelNoneSpec)

end Rows
end Go.Proofs.YtjceiokllpmnkaaGreat
