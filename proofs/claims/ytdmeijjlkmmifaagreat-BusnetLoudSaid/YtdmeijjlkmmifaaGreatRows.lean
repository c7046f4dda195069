/-
  No cell of these rows narrows 'for every input' (looked for: loops, veiled, ifaces, maps, wideKeys, modest, calm, conditions, laid).
  DERIVED. THE GIVEN ROWS OF THIS SEAT. 5 by the template 'for every input the law returns true; each argument reads behind the call as it read before'; 0 by the template 'total and deterministic' (their statements: YtdmeijjlkmmifaaGreatTotals.lean).
  GIVEN WITH THE SEED: the statements are not yours to turn. If you find one false, say at which input.
  Laid BY PROGRAM, IN A SANDBOX (cutbox-rows.mjs): the forced cells as the released guide's own fill.sh prints them over the translation 4360b94bf06c394e… (all of the seat's roots in one cut). By AI agents, Wed Nov 11 2026. No macro, syntax, notation, axiom, sorry.
-/
import Derived.Test.YtdmeijjlkmmifaaGreatChecked
import GoSem.Claim
import GoSem.ClaimJoined
import GoSem.ClaimMapViews
import Derived.JoinedTies
import Derived.KernelRfl
namespace Go.Proofs.YtdmeijjlkmmifaaGreat
/- THE CELL 'sum', in the pinned program and in every row, IS THE sha256 OF THE DUMP (.gsa) THAT YtdmeijjlkmmifaaGreatProg.lean LOADS. Nothing in Lean hashes anything: it is a label: what it is worth is what the hold of that sum in a sandbox is worth. -/
noncomputable def Tryz.pinned : Pinned := { name := "ytdmeijjlkmmifaagreat", sum := "4360b94bf06c394e9b12a29ca471548e7c348181b18d7ebab8ee0f4d4421e6d6", checked := Tryz.checked }
namespace Rows
def none {H : Type} : Left H := { results := [], args := [] }

/-- 'metronomelaw23.BusnetHalf': WHATEVER THE INPUT: true; the input reads as it did. -/
def busnetHalfSpec : ChangeSpec := { name := "busnetHalf", fn := fun _ => fun
  | [d1, d2] => { results := [.lit (.bool true)], args := [d1, d2] }
  | _ => none }
def busnetHalfRow : OpenClaim := { program := "ytdmeijjlkmmifaagreat", sum := "4360b94bf06c394e9b12a29ca471548e7c348181b18d7ebab8ee0f4d4421e6d6", func := "metronome/metronomelaw23.BusnetHalf", spec := "busnetHalf", unfollowed := true, recurses := true, apart := false }
def BusnetHalfSaid : Prop := busnetHalfRow.holds Tryz.pinned (OpenSpec.ofChange busnetHalfSpec)

/-- ITS FALSE NEIGHBOUR: 'it returns false'. Refute it at one input. -/
def busnetHalfWrong : ChangeSpec := { name := "busnetHalf", fn := fun _ => fun
  | [d1, d2] => { results := [.lit (.bool false)], args := [d1, d2] }
  | _ => none }
def BusnetHalfWrongFalsely : Prop := busnetHalfRow.holds Tryz.pinned (OpenSpec.ofChange busnetHalfWrong)

/-- 'metronomelaw23.BusnetLoud': WHATEVER THE INPUT: true; the input reads as it did. -/
def busnetLoudSpec : ChangeSpec := { name := "busnetLoud", fn := fun _ => fun
  | [d1, d2] => { results := [.lit (.bool true)], args := [d1, d2] }
  | _ => none }
def busnetLoudRow : OpenClaim := { program := "ytdmeijjlkmmifaagreat", sum := "4360b94bf06c394e9b12a29ca471548e7c348181b18d7ebab8ee0f4d4421e6d6", func := "metronome/metronomelaw23.BusnetLoud", spec := "busnetLoud", unfollowed := true, recurses := true, apart := false }
def BusnetLoudSaid : Prop := busnetLoudRow.holds Tryz.pinned (OpenSpec.ofChange busnetLoudSpec)

/-- ITS FALSE NEIGHBOUR: 'it returns false'. Refute it at one input. -/
def busnetLoudWrong : ChangeSpec := { name := "busnetLoud", fn := fun _ => fun
  | [d1, d2] => { results := [.lit (.bool false)], args := [d1, d2] }
  | _ => none }
def BusnetLoudWrongFalsely : Prop := busnetLoudRow.holds Tryz.pinned (OpenSpec.ofChange busnetLoudWrong)

/-- 'metronomelaw23.BusnetMay': WHATEVER THE INPUT: true; the input reads as it did. -/
def busnetMaySpec : ChangeSpec := { name := "busnetMay", fn := fun _ => fun
  | [d1, d2] => { results := [.lit (.bool true)], args := [d1, d2] }
  | _ => none }
def busnetMayRow : OpenClaim := { program := "ytdmeijjlkmmifaagreat", sum := "4360b94bf06c394e9b12a29ca471548e7c348181b18d7ebab8ee0f4d4421e6d6", func := "metronome/metronomelaw23.BusnetMay", spec := "busnetMay", unfollowed := true, recurses := true, apart := false }
def BusnetMaySaid : Prop := busnetMayRow.holds Tryz.pinned (OpenSpec.ofChange busnetMaySpec)

/-- ITS FALSE NEIGHBOUR: 'it returns false'. Refute it at one input. -/
def busnetMayWrong : ChangeSpec := { name := "busnetMay", fn := fun _ => fun
  | [d1, d2] => { results := [.lit (.bool false)], args := [d1, d2] }
  | _ => none }
def BusnetMayWrongFalsely : Prop := busnetMayRow.holds Tryz.pinned (OpenSpec.ofChange busnetMayWrong)

/-- 'metronomelaw23.BusnetBoots': WHATEVER THE INPUT: true; the input reads as it did. -/
def busnetBootsSpec : ChangeSpec := { name := "busnetBoots", fn := fun _ => fun
  | [d1, d2, d3] => { results := [.lit (.bool true)], args := [d1, d2, d3] }
  | _ => none }
def busnetBootsRow : OpenClaim := { program := "ytdmeijjlkmmifaagreat", sum := "4360b94bf06c394e9b12a29ca471548e7c348181b18d7ebab8ee0f4d4421e6d6", func := "metronome/metronomelaw23.BusnetBoots", spec := "busnetBoots", unfollowed := true, recurses := true, apart := false }
def BusnetBootsSaid : Prop := busnetBootsRow.holds Tryz.pinned (OpenSpec.ofChange busnetBootsSpec)

/-- ITS FALSE NEIGHBOUR: 'it returns false'. Refute it at one input. -/
def busnetBootsWrong : ChangeSpec := { name := "busnetBoots", fn := fun _ => fun
  | [d1, d2, d3] => { results := [.lit (.bool false)], args := [d1, d2, d3] }
  | _ => none }
def BusnetBootsWrongFalsely : Prop := busnetBootsRow.holds Tryz.pinned (OpenSpec.ofChange busnetBootsWrong)

/-- 'metronomelaw23.BusnetNone': WHATEVER THE INPUT: true; the input reads as it did. -/
def busnetNoneSpec : ChangeSpec := { name := "busnetNone", fn := fun _ => fun
  | [d1, d2, d3, d4] => { results := [.lit (.bool true)], args := [d1, d2, d3, d4] }
  | _ => none }
def busnetNoneRow : OpenClaim := { program := "ytdmeijjlkmmifaagreat", sum := "4360b94bf06c394e9b12a29ca471548e7c348181b18d7ebab8ee0f4d4421e6d6", func := "metronome/metronomelaw23.BusnetNone", spec := "busnetNone", unfollowed := true, recurses := true, apart := false }
def BusnetNoneSaid : Prop := busnetNoneRow.holds Tryz.pinned (OpenSpec.ofChange busnetNoneSpec)

/-- ITS FALSE NEIGHBOUR: 'it returns false'. Refute it at one input. -/
def busnetNoneWrong : ChangeSpec := { name := "busnetNone", fn := fun _ => fun
  | [d1, d2, d3, d4] => { results := [.lit (.bool false)], args := [d1, d2, d3, d4] }
  | _ => none }
def BusnetNoneWrongFalsely : Prop := busnetNoneRow.holds Tryz.pinned (OpenSpec.ofChange busnetNoneWrong)

/- THE SECOND FORM. 'bulk': how many values and letters a reading holds, each counted each time it is reached (what is shared counts as often as it is met; a slice's spare places count too). A statement '..UptoSaid' is the law's where the arguments, and the package variables that the reading takes, are together of bulk at most 1048576: NARROWER than '..Said'. Prove '..Said' where nothing that the law and all that it calls make is longer than what came in: it says more and counts as full. Else prove '..UptoSaid'. A law counts once. -/
mutual
def uptoBulk {H : Type} : DataW H → Nat
  | .lit (.string bytes) => bytes.length + 1
  | .lit _ => 1
  | .nil => 1
  | .ptr d => uptoBulk d + 1
  | .slice elems spare => uptoBulkAll elems + uptoBulkAll spare + 1
  | .agg parts => uptoBulkAll parts + 1
  | .iface _ d => uptoBulk d + 1
  | .map entries => uptoBulkEntries entries + 1
  | .held _ => 1
def uptoBulkAll {H : Type} : List (DataW H) → Nat
  | [] => 0
  | d :: r => uptoBulk d + uptoBulkAll r
def uptoBulkEntries {H : Type} : List (Lit × DataW H) → Nat
  | [] => 0
  | x :: r => uptoBulkEntry x + uptoBulkEntries r
def uptoBulkEntry {H : Type} : Lit × DataW H → Nat
  | (.string bytes, d) => bytes.length + uptoBulk d + 1
  | (_, d) => uptoBulk d + 1
 end
def uptoSmall : (H : Type) → List (DataW H) → Bool := fun _ ds => decide (uptoBulkAll ds ≤ 1048576)
def OpenSpec.upto (s : _root_.Go.ChangeSpec) : _root_.Go.OpenSpec := { _root_.Go.OpenSpec.ofChange s with cond := some uptoSmall }

/-- 'metronomelaw23.BusnetHalf', WHERE WHAT IT READS IS OF BULK AT MOST 1048576: true; the input reads as it did. -/
def busnetHalfUptoRow : OpenClaim := { program := "ytdmeijjlkmmifaagreat", sum := "4360b94bf06c394e9b12a29ca471548e7c348181b18d7ebab8ee0f4d4421e6d6", func := "metronome/metronomelaw23.BusnetHalf", spec := "busnetHalf", unfollowed := true, recurses := true, apart := false, narrowed := true }
def BusnetHalfUptoSaid : Prop := busnetHalfUptoRow.holds Tryz.pinned (OpenSpec.upto busnetHalfSpec)

/-- 'metronomelaw23.BusnetLoud', WHERE WHAT IT READS IS OF BULK AT MOST 1048576: true; the input reads as it did. -/
def busnetLoudUptoRow : OpenClaim := { program := "ytdmeijjlkmmifaagreat", sum := "4360b94bf06c394e9b12a29ca471548e7c348181b18d7ebab8ee0f4d4421e6d6", func := "metronome/metronomelaw23.BusnetLoud", spec := "busnetLoud", unfollowed := true, recurses := true, apart := false, narrowed := true }
def BusnetLoudUptoSaid : Prop := busnetLoudUptoRow.holds Tryz.pinned (OpenSpec.upto busnetLoudSpec)

/-- 'metronomelaw23.BusnetMay', WHERE WHAT IT READS IS OF BULK AT MOST 1048576: true; the input reads as it did. -/
def busnetMayUptoRow : OpenClaim := { program := "ytdmeijjlkmmifaagreat", sum := "4360b94bf06c394e9b12a29ca471548e7c348181b18d7ebab8ee0f4d4421e6d6", func := "metronome/metronomelaw23.BusnetMay", spec := "busnetMay", unfollowed := true, recurses := true, apart := false, narrowed := true }
def BusnetMayUptoSaid : Prop := busnetMayUptoRow.holds Tryz.pinned (OpenSpec.upto busnetMaySpec)

/-- 'metronomelaw23.BusnetBoots', WHERE WHAT IT READS IS OF BULK AT MOST 1048576: true; the input reads as it did. -/
def busnetBootsUptoRow : OpenClaim := { program := "ytdmeijjlkmmifaagreat", sum := "4360b94bf06c394e9b12a29ca471548e7c348181b18d7ebab8ee0f4d4421e6d6", func := "metronome/metronomelaw23.BusnetBoots", spec := "busnetBoots", unfollowed := true, recurses := true, apart := false, narrowed := true }
def BusnetBootsUptoSaid : Prop := busnetBootsUptoRow.holds Tryz.pinned (OpenSpec.upto busnetBootsSpec)

/-- 'metronomelaw23.BusnetNone', WHERE WHAT IT READS IS OF BULK AT MOST 1048576: true; the input reads as it did. -/
def busnetNoneUptoRow : OpenClaim := { program := "ytdmeijjlkmmifaagreat", sum := "4360b94bf06c394e9b12a29ca471548e7c348181b18d7ebab8ee0f4d4421e6d6", func := "metronome/metronomelaw23.BusnetNone", spec := "busnetNone", unfollowed := true, recurses := true, apart := false, narrowed := true }
def BusnetNoneUptoSaid : Prop := busnetNoneUptoRow.holds Tryz.pinned (OpenSpec.upto busnetNoneSpec)

end Rows
end Go.Proofs.YtdmeijjlkmmifaaGreat
