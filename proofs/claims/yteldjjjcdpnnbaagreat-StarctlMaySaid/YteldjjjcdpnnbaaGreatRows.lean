/-
  No cell of these rows narrows 'for every input' (looked for: loops, veiled, ifaces, maps, wideKeys, modest, calm, conditions, laid).
  DERIVED. THE GIVEN ROWS OF THIS SEAT. 11 by the template 'for every input the law returns true; each argument reads behind the call as it read before'; 0 by the template 'total and deterministic' (their statements: YteldjjjcdpnnbaaGreatTotals.lean).
  GIVEN WITH THE SEED: the statements are not yours to turn. If you find one false, say at which input.
  Laid BY PROGRAM, IN A SANDBOX (cutbox-rows.mjs): the forced cells as the released guide's own fill.sh prints them over the translation 2f71460e19cd266b… (all of the seat's roots in one cut). By AI agents, Wed Nov 11 2026. No macro, syntax, notation, axiom, sorry.
-/
import Derived.Test.YteldjjjcdpnnbaaGreatChecked
import GoSem.Claim
import GoSem.ClaimJoined
import GoSem.ClaimMapViews
import Derived.JoinedTies
import Derived.KernelRfl
namespace Go.Proofs.YteldjjjcdpnnbaaGreat
/- THE CELL 'sum', in the pinned program and in every row, IS THE sha256 OF THE DUMP (.gsa) THAT YteldjjjcdpnnbaaGreatProg.lean LOADS. Nothing in Lean hashes anything: it is a label: what it is worth is what the hold of that sum in a sandbox is worth. -/
noncomputable def Tryz.pinned : Pinned := { name := "yteldjjjcdpnnbaagreat", sum := "2f71460e19cd266bb5c8305fe5f4b1f4cf83cae4b252d2a5fc2be126d0f19d0c", checked := Tryz.checked }
namespace Rows
def none {H : Type} : Left H := { results := [], args := [] }

/-- 'metronomelaw18.BusctlNodes': WHATEVER THE INPUT: true; the input reads as it did. -/
def busctlNodesSpec : ChangeSpec := { name := "busctlNodes", fn := fun _ => fun
  | [d1, d2, d3, d4, d5, d6] => { results := [.lit (.bool true)], args := [d1, d2, d3, d4, d5, d6] }
  | _ => none }
def busctlNodesRow : OpenClaim := { program := "yteldjjjcdpnnbaagreat", sum := "2f71460e19cd266bb5c8305fe5f4b1f4cf83cae4b252d2a5fc2be126d0f19d0c", func := "metronome/metronomelaw18.BusctlNodes", spec := "busctlNodes", unfollowed := true, recurses := true, apart := false }
def BusctlNodesSaid : Prop := busctlNodesRow.holds Tryz.pinned (OpenSpec.ofChange busctlNodesSpec)

/-- ITS FALSE NEIGHBOUR: 'it returns false'. Refute it at one input. -/
def busctlNodesWrong : ChangeSpec := { name := "busctlNodes", fn := fun _ => fun
  | [d1, d2, d3, d4, d5, d6] => { results := [.lit (.bool false)], args := [d1, d2, d3, d4, d5, d6] }
  | _ => none }
def BusctlNodesWrongFalsely : Prop := busctlNodesRow.holds Tryz.pinned (OpenSpec.ofChange busctlNodesWrong)

/-- 'metronomelaw19.StarctlNodes': WHATEVER THE INPUT: true; the input reads as it did. -/
def starctlNodesSpec : ChangeSpec := { name := "starctlNodes", fn := fun _ => fun
  | [d1, d2, d3, d4, d5, d6] => { results := [.lit (.bool true)], args := [d1, d2, d3, d4, d5, d6] }
  | _ => none }
def starctlNodesRow : OpenClaim := { program := "yteldjjjcdpnnbaagreat", sum := "2f71460e19cd266bb5c8305fe5f4b1f4cf83cae4b252d2a5fc2be126d0f19d0c", func := "metronome/metronomelaw19.StarctlNodes", spec := "starctlNodes", unfollowed := true, recurses := true, apart := false }
def StarctlNodesSaid : Prop := starctlNodesRow.holds Tryz.pinned (OpenSpec.ofChange starctlNodesSpec)

/-- ITS FALSE NEIGHBOUR: 'it returns false'. Refute it at one input. -/
def starctlNodesWrong : ChangeSpec := { name := "starctlNodes", fn := fun _ => fun
  | [d1, d2, d3, d4, d5, d6] => { results := [.lit (.bool false)], args := [d1, d2, d3, d4, d5, d6] }
  | _ => none }
def StarctlNodesWrongFalsely : Prop := starctlNodesRow.holds Tryz.pinned (OpenSpec.ofChange starctlNodesWrong)

/-- 'metronomelaw18.BusctlOther': WHATEVER THE INPUT: true; the input reads as it did. -/
def busctlOtherSpec : ChangeSpec := { name := "busctlOther", fn := fun _ => fun
  | [d1, d2, d3] => { results := [.lit (.bool true)], args := [d1, d2, d3] }
  | _ => none }
def busctlOtherRow : OpenClaim := { program := "yteldjjjcdpnnbaagreat", sum := "2f71460e19cd266bb5c8305fe5f4b1f4cf83cae4b252d2a5fc2be126d0f19d0c", func := "metronome/metronomelaw18.BusctlOther", spec := "busctlOther", unfollowed := true, recurses := true, apart := false }
def BusctlOtherSaid : Prop := busctlOtherRow.holds Tryz.pinned (OpenSpec.ofChange busctlOtherSpec)

/-- ITS FALSE NEIGHBOUR: 'it returns false'. Refute it at one input. -/
def busctlOtherWrong : ChangeSpec := { name := "busctlOther", fn := fun _ => fun
  | [d1, d2, d3] => { results := [.lit (.bool false)], args := [d1, d2, d3] }
  | _ => none }
def BusctlOtherWrongFalsely : Prop := busctlOtherRow.holds Tryz.pinned (OpenSpec.ofChange busctlOtherWrong)

/-- 'metronomelaw18.BusctlOwn': WHATEVER THE INPUT: true; the input reads as it did. -/
def busctlOwnSpec : ChangeSpec := { name := "busctlOwn", fn := fun _ => fun
  | [d1, d2] => { results := [.lit (.bool true)], args := [d1, d2] }
  | _ => none }
def busctlOwnRow : OpenClaim := { program := "yteldjjjcdpnnbaagreat", sum := "2f71460e19cd266bb5c8305fe5f4b1f4cf83cae4b252d2a5fc2be126d0f19d0c", func := "metronome/metronomelaw18.BusctlOwn", spec := "busctlOwn", unfollowed := true, recurses := true, apart := false }
def BusctlOwnSaid : Prop := busctlOwnRow.holds Tryz.pinned (OpenSpec.ofChange busctlOwnSpec)

/-- ITS FALSE NEIGHBOUR: 'it returns false'. Refute it at one input. -/
def busctlOwnWrong : ChangeSpec := { name := "busctlOwn", fn := fun _ => fun
  | [d1, d2] => { results := [.lit (.bool false)], args := [d1, d2] }
  | _ => none }
def BusctlOwnWrongFalsely : Prop := busctlOwnRow.holds Tryz.pinned (OpenSpec.ofChange busctlOwnWrong)

/-- 'metronomelaw19.StarctlOwn': WHATEVER THE INPUT: true; the input reads as it did. -/
def starctlOwnSpec : ChangeSpec := { name := "starctlOwn", fn := fun _ => fun
  | [d1, d2] => { results := [.lit (.bool true)], args := [d1, d2] }
  | _ => none }
def starctlOwnRow : OpenClaim := { program := "yteldjjjcdpnnbaagreat", sum := "2f71460e19cd266bb5c8305fe5f4b1f4cf83cae4b252d2a5fc2be126d0f19d0c", func := "metronome/metronomelaw19.StarctlOwn", spec := "starctlOwn", unfollowed := true, recurses := true, apart := false }
def StarctlOwnSaid : Prop := starctlOwnRow.holds Tryz.pinned (OpenSpec.ofChange starctlOwnSpec)

/-- ITS FALSE NEIGHBOUR: 'it returns false'. Refute it at one input. -/
def starctlOwnWrong : ChangeSpec := { name := "starctlOwn", fn := fun _ => fun
  | [d1, d2] => { results := [.lit (.bool false)], args := [d1, d2] }
  | _ => none }
def StarctlOwnWrongFalsely : Prop := starctlOwnRow.holds Tryz.pinned (OpenSpec.ofChange starctlOwnWrong)

/-- 'metronomelaw19.StarctlOther': WHATEVER THE INPUT: true; the input reads as it did. -/
def starctlOtherSpec : ChangeSpec := { name := "starctlOther", fn := fun _ => fun
  | [d1, d2, d3] => { results := [.lit (.bool true)], args := [d1, d2, d3] }
  | _ => none }
def starctlOtherRow : OpenClaim := { program := "yteldjjjcdpnnbaagreat", sum := "2f71460e19cd266bb5c8305fe5f4b1f4cf83cae4b252d2a5fc2be126d0f19d0c", func := "metronome/metronomelaw19.StarctlOther", spec := "starctlOther", unfollowed := true, recurses := true, apart := false }
def StarctlOtherSaid : Prop := starctlOtherRow.holds Tryz.pinned (OpenSpec.ofChange starctlOtherSpec)

/-- ITS FALSE NEIGHBOUR: 'it returns false'. Refute it at one input. -/
def starctlOtherWrong : ChangeSpec := { name := "starctlOther", fn := fun _ => fun
  | [d1, d2, d3] => { results := [.lit (.bool false)], args := [d1, d2, d3] }
  | _ => none }
def StarctlOtherWrongFalsely : Prop := starctlOtherRow.holds Tryz.pinned (OpenSpec.ofChange starctlOtherWrong)

/-- 'metronomelaw18.BusctlAgree': WHATEVER THE INPUT: true; the input reads as it did. -/
def busctlAgreeSpec : ChangeSpec := { name := "busctlAgree", fn := fun _ => fun
  | [d1, d2, d3, d4] => { results := [.lit (.bool true)], args := [d1, d2, d3, d4] }
  | _ => none }
def busctlAgreeRow : OpenClaim := { program := "yteldjjjcdpnnbaagreat", sum := "2f71460e19cd266bb5c8305fe5f4b1f4cf83cae4b252d2a5fc2be126d0f19d0c", func := "metronome/metronomelaw18.BusctlAgree", spec := "busctlAgree", unfollowed := true, recurses := true, apart := false }
def BusctlAgreeSaid : Prop := busctlAgreeRow.holds Tryz.pinned (OpenSpec.ofChange busctlAgreeSpec)

/-- ITS FALSE NEIGHBOUR: 'it returns false'. Refute it at one input. -/
def busctlAgreeWrong : ChangeSpec := { name := "busctlAgree", fn := fun _ => fun
  | [d1, d2, d3, d4] => { results := [.lit (.bool false)], args := [d1, d2, d3, d4] }
  | _ => none }
def BusctlAgreeWrongFalsely : Prop := busctlAgreeRow.holds Tryz.pinned (OpenSpec.ofChange busctlAgreeWrong)

/-- 'metronomelaw18.BusctlSent': WHATEVER THE INPUT: true; the input reads as it did. -/
def busctlSentSpec : ChangeSpec := { name := "busctlSent", fn := fun _ => fun
  | [d1, d2, d3, d4] => { results := [.lit (.bool true)], args := [d1, d2, d3, d4] }
  | _ => none }
def busctlSentRow : OpenClaim := { program := "yteldjjjcdpnnbaagreat", sum := "2f71460e19cd266bb5c8305fe5f4b1f4cf83cae4b252d2a5fc2be126d0f19d0c", func := "metronome/metronomelaw18.BusctlSent", spec := "busctlSent", unfollowed := true, recurses := true, apart := false }
def BusctlSentSaid : Prop := busctlSentRow.holds Tryz.pinned (OpenSpec.ofChange busctlSentSpec)

/-- ITS FALSE NEIGHBOUR: 'it returns false'. Refute it at one input. -/
def busctlSentWrong : ChangeSpec := { name := "busctlSent", fn := fun _ => fun
  | [d1, d2, d3, d4] => { results := [.lit (.bool false)], args := [d1, d2, d3, d4] }
  | _ => none }
def BusctlSentWrongFalsely : Prop := busctlSentRow.holds Tryz.pinned (OpenSpec.ofChange busctlSentWrong)

/-- 'metronomelaw18.BusctlMay': WHATEVER THE INPUT: true; the input reads as it did. -/
def busctlMaySpec : ChangeSpec := { name := "busctlMay", fn := fun _ => fun
  | [d1, d2, d3, d4, d5, d6] => { results := [.lit (.bool true)], args := [d1, d2, d3, d4, d5, d6] }
  | _ => none }
def busctlMayRow : OpenClaim := { program := "yteldjjjcdpnnbaagreat", sum := "2f71460e19cd266bb5c8305fe5f4b1f4cf83cae4b252d2a5fc2be126d0f19d0c", func := "metronome/metronomelaw18.BusctlMay", spec := "busctlMay", unfollowed := true, recurses := true, apart := false }
def BusctlMaySaid : Prop := busctlMayRow.holds Tryz.pinned (OpenSpec.ofChange busctlMaySpec)

/-- ITS FALSE NEIGHBOUR: 'it returns false'. Refute it at one input. -/
def busctlMayWrong : ChangeSpec := { name := "busctlMay", fn := fun _ => fun
  | [d1, d2, d3, d4, d5, d6] => { results := [.lit (.bool false)], args := [d1, d2, d3, d4, d5, d6] }
  | _ => none }
def BusctlMayWrongFalsely : Prop := busctlMayRow.holds Tryz.pinned (OpenSpec.ofChange busctlMayWrong)

/-- 'metronomelaw19.StarctlMay': WHATEVER THE INPUT: true; the input reads as it did. -/
def starctlMaySpec : ChangeSpec := { name := "starctlMay", fn := fun _ => fun
  | [d1, d2, d3, d4, d5, d6] => { results := [.lit (.bool true)], args := [d1, d2, d3, d4, d5, d6] }
  | _ => none }
def starctlMayRow : OpenClaim := { program := "yteldjjjcdpnnbaagreat", sum := "2f71460e19cd266bb5c8305fe5f4b1f4cf83cae4b252d2a5fc2be126d0f19d0c", func := "metronome/metronomelaw19.StarctlMay", spec := "starctlMay", unfollowed := true, recurses := true, apart := false }
def StarctlMaySaid : Prop := starctlMayRow.holds Tryz.pinned (OpenSpec.ofChange starctlMaySpec)

/-- ITS FALSE NEIGHBOUR: 'it returns false'. Refute it at one input. -/
def starctlMayWrong : ChangeSpec := { name := "starctlMay", fn := fun _ => fun
  | [d1, d2, d3, d4, d5, d6] => { results := [.lit (.bool false)], args := [d1, d2, d3, d4, d5, d6] }
  | _ => none }
def StarctlMayWrongFalsely : Prop := starctlMayRow.holds Tryz.pinned (OpenSpec.ofChange starctlMayWrong)

/-- 'metronomelaw19.StarctlBus': WHATEVER THE INPUT: true; the input reads as it did. -/
def starctlBusSpec : ChangeSpec := { name := "starctlBus", fn := fun _ => fun
  | [d1, d2, d3] => { results := [.lit (.bool true)], args := [d1, d2, d3] }
  | _ => none }
def starctlBusRow : OpenClaim := { program := "yteldjjjcdpnnbaagreat", sum := "2f71460e19cd266bb5c8305fe5f4b1f4cf83cae4b252d2a5fc2be126d0f19d0c", func := "metronome/metronomelaw19.StarctlBus", spec := "starctlBus", unfollowed := true, recurses := true, apart := false }
def StarctlBusSaid : Prop := starctlBusRow.holds Tryz.pinned (OpenSpec.ofChange starctlBusSpec)

/-- ITS FALSE NEIGHBOUR: 'it returns false'. Refute it at one input. -/
def starctlBusWrong : ChangeSpec := { name := "starctlBus", fn := fun _ => fun
  | [d1, d2, d3] => { results := [.lit (.bool false)], args := [d1, d2, d3] }
  | _ => none }
def StarctlBusWrongFalsely : Prop := starctlBusRow.holds Tryz.pinned (OpenSpec.ofChange starctlBusWrong)

/- THE SECOND FORM. 'bulk': how many values and letters a reading holds, each counted each time it is reached (what is shared counts as often as it is met; a slice's spare places count too). A statement '..UptoSaid' is the law's where the arguments, and the package variables that the reading takes, are together of bulk at most 1048576: NARROWER than '..Said'. Prove '..Said' where nothing that the law and all that it calls make is longer than what came in: it says more and counts as full. Else prove '..UptoSaid'. A law counts once. -/
mutual
def uptoBulk {H : Type} : DataW H → Nat
  | .lit (.string bytes) => bytes.length + 1
  | .lit _ => 1
  | .nil => 1
  | .ptr d => uptoBulk d + 1
  | .slice elems spare => uptoBulkAll elems + uptoBulkAll spare + 1
  | .agg parts => uptoBulkAll parts + 1
  | .iface _ d => uptoBulk d + 1
  | .map entries => uptoBulkEntries entries + 1
  | .held _ => 1
def uptoBulkAll {H : Type} : List (DataW H) → Nat
  | [] => 0
  | d :: r => uptoBulk d + uptoBulkAll r
def uptoBulkEntries {H : Type} : List (Lit × DataW H) → Nat
  | [] => 0
  | x :: r => uptoBulkEntry x + uptoBulkEntries r
def uptoBulkEntry {H : Type} : Lit × DataW H → Nat
  | (.string bytes, d) => bytes.length + uptoBulk d + 1
  | (_, d) => uptoBulk d + 1
 end
def uptoSmall : (H : Type) → List (DataW H) → Bool := fun _ ds => decide (uptoBulkAll ds ≤ 1048576)
def OpenSpec.upto (s : _root_.Go.ChangeSpec) : _root_.Go.OpenSpec := { _root_.Go.OpenSpec.ofChange s with cond := some uptoSmall }

/-- 'metronomelaw18.BusctlNodes', WHERE WHAT IT READS IS OF BULK AT MOST 1048576: true; the input reads as it did. -/
def busctlNodesUptoRow : OpenClaim := { program := "yteldjjjcdpnnbaagreat", sum := "2f71460e19cd266bb5c8305fe5f4b1f4cf83cae4b252d2a5fc2be126d0f19d0c", func := "metronome/metronomelaw18.BusctlNodes", spec := "busctlNodes", unfollowed := true, recurses := true, apart := false, narrowed := true }
def BusctlNodesUptoSaid : Prop := busctlNodesUptoRow.holds Tryz.pinned (OpenSpec.upto busctlNodesSpec)

/-- 'metronomelaw19.StarctlNodes', WHERE WHAT IT READS IS OF BULK AT MOST 1048576: true; the input reads as it did. -/
def starctlNodesUptoRow : OpenClaim := { program := "yteldjjjcdpnnbaagreat", sum := "2f71460e19cd266bb5c8305fe5f4b1f4cf83cae4b252d2a5fc2be126d0f19d0c", func := "metronome/metronomelaw19.StarctlNodes", spec := "starctlNodes", unfollowed := true, recurses := true, apart := false, narrowed := true }
def StarctlNodesUptoSaid : Prop := starctlNodesUptoRow.holds Tryz.pinned (OpenSpec.upto starctlNodesSpec)

/-- 'metronomelaw18.BusctlOther', WHERE WHAT IT READS IS OF BULK AT MOST 1048576: true; the input reads as it did. -/
def busctlOtherUptoRow : OpenClaim := { program := "yteldjjjcdpnnbaagreat", sum := "2f71460e19cd266bb5c8305fe5f4b1f4cf83cae4b252d2a5fc2be126d0f19d0c", func := "metronome/metronomelaw18.BusctlOther", spec := "busctlOther", unfollowed := true, recurses := true, apart := false, narrowed := true }
def BusctlOtherUptoSaid : Prop := busctlOtherUptoRow.holds Tryz.pinned (OpenSpec.upto busctlOtherSpec)

/-- 'metronomelaw18.BusctlOwn', WHERE WHAT IT READS IS OF BULK AT MOST 1048576: true; the input reads as it did. -/
def busctlOwnUptoRow : OpenClaim := { program := "yteldjjjcdpnnbaagreat", sum := "2f71460e19cd266bb5c8305fe5f4b1f4cf83cae4b252d2a5fc2be126d0f19d0c", func := "metronome/metronomelaw18.BusctlOwn", spec := "busctlOwn", unfollowed := true, recurses := true, apart := false, narrowed := true }
def BusctlOwnUptoSaid : Prop := busctlOwnUptoRow.holds Tryz.pinned (OpenSpec.upto busctlOwnSpec)

/-- 'metronomelaw19.StarctlOwn', WHERE WHAT IT READS IS OF BULK AT MOST 1048576: true; the input reads as it did. -/
def starctlOwnUptoRow : OpenClaim := { program := "yteldjjjcdpnnbaagreat", sum := "2f71460e19cd266bb5c8305fe5f4b1f4cf83cae4b252d2a5fc2be126d0f19d0c", func := "metronome/metronomelaw19.StarctlOwn", spec := "starctlOwn", unfollowed := true, recurses := true, apart := false, narrowed := true }
def StarctlOwnUptoSaid : Prop := starctlOwnUptoRow.holds Tryz.pinned (OpenSpec.upto starctlOwnSpec)

/-- 'metronomelaw19.StarctlOther', WHERE WHAT IT READS IS OF BULK AT MOST 1048576: true; the input reads as it did. -/
def starctlOtherUptoRow : OpenClaim := { program := "yteldjjjcdpnnbaagreat", sum := "2f71460e19cd266bb5c8305fe5f4b1f4cf83cae4b252d2a5fc2be126d0f19d0c", func := "metronome/metronomelaw19.StarctlOther", spec := "starctlOther", unfollowed := true, recurses := true, apart := false, narrowed := true }
def StarctlOtherUptoSaid : Prop := starctlOtherUptoRow.holds Tryz.pinned (OpenSpec.upto starctlOtherSpec)

/-- 'metronomelaw18.BusctlAgree', WHERE WHAT IT READS IS OF BULK AT MOST 1048576: true; the input reads as it did. -/
def busctlAgreeUptoRow : OpenClaim := { program := "yteldjjjcdpnnbaagreat", sum := "2f71460e19cd266bb5c8305fe5f4b1f4cf83cae4b252d2a5fc2be126d0f19d0c", func := "metronome/metronomelaw18.BusctlAgree", spec := "busctlAgree", unfollowed := true, recurses := true, apart := false, narrowed := true }
def BusctlAgreeUptoSaid : Prop := busctlAgreeUptoRow.holds Tryz.pinned (OpenSpec.upto busctlAgreeSpec)

/-- 'metronomelaw18.BusctlSent', WHERE WHAT IT READS IS OF BULK AT MOST 1048576: true; the input reads as it did. -/
def busctlSentUptoRow : OpenClaim := { program := "yteldjjjcdpnnbaagreat", sum := "2f71460e19cd266bb5c8305fe5f4b1f4cf83cae4b252d2a5fc2be126d0f19d0c", func := "metronome/metronomelaw18.BusctlSent", spec := "busctlSent", unfollowed := true, recurses := true, apart := false, narrowed := true }
def BusctlSentUptoSaid : Prop := busctlSentUptoRow.holds Tryz.pinned (OpenSpec.upto busctlSentSpec)

/-- 'metronomelaw18.BusctlMay', WHERE WHAT IT READS IS OF BULK AT MOST 1048576: true; the input reads as it did. -/
def busctlMayUptoRow : OpenClaim := { program := "yteldjjjcdpnnbaagreat", sum := "2f71460e19cd266bb5c8305fe5f4b1f4cf83cae4b252d2a5fc2be126d0f19d0c", func := "metronome/metronomelaw18.BusctlMay", spec := "busctlMay", unfollowed := true, recurses := true, apart := false, narrowed := true }
def BusctlMayUptoSaid : Prop := busctlMayUptoRow.holds Tryz.pinned (OpenSpec.upto busctlMaySpec)

/-- 'metronomelaw19.StarctlMay', WHERE WHAT IT READS IS OF BULK AT MOST 1048576: true; the input reads as it did. -/
def starctlMayUptoRow : OpenClaim := { program := "yteldjjjcdpnnbaagreat", sum := "2f71460e19cd266bb5c8305fe5f4b1f4cf83cae4b252d2a5fc2be126d0f19d0c", func := "metronome/metronomelaw19.StarctlMay", spec := "starctlMay", unfollowed := true, recurses := true, apart := false, narrowed := true }
def StarctlMayUptoSaid : Prop := starctlMayUptoRow.holds Tryz.pinned (OpenSpec.upto starctlMaySpec)

/-- 'metronomelaw19.StarctlBus', WHERE WHAT IT READS IS OF BULK AT MOST 1048576: true; the input reads as it did. -/
def starctlBusUptoRow : OpenClaim := { program := "yteldjjjcdpnnbaagreat", sum := "2f71460e19cd266bb5c8305fe5f4b1f4cf83cae4b252d2a5fc2be126d0f19d0c", func := "metronome/metronomelaw19.StarctlBus", spec := "starctlBus", unfollowed := true, recurses := true, apart := false, narrowed := true }
def StarctlBusUptoSaid : Prop := starctlBusUptoRow.holds Tryz.pinned (OpenSpec.upto starctlBusSpec)

end Rows
end Go.Proofs.YteldjjjcdpnnbaaGreat
