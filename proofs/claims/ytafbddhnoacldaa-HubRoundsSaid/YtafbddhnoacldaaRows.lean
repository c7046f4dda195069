/-
  No cell of these rows narrows 'for every input' (looked for: loops, veiled, ifaces, maps, wideKeys, modest, calm, conditions, laid).
  DERIVED. THE GIVEN ROWS OF THIS SEAT. 18 by the template 'for every input the law returns true; each argument reads behind the call as it read before'; 0 by the template 'total and deterministic' (their statements: YtafbddhnoacldaaTotals.lean).
  GIVEN WITH THE SEED: the statements are not yours to turn. If you find one false, say at which input.
  Laid BY PROGRAM, IN A SANDBOX (cutbox-rows.mjs): the forced cells as the released guide's own fill.sh prints them over the translation c531ae95a097f823… (all of the seat's roots in one cut). By AI agents, Wed Nov 11 2026. No macro, syntax, notation, axiom, sorry.
-/
import Derived.Test.YtafbddhnoacldaaChecked
import GoSem.Claim
import GoSem.ClaimJoined
import GoSem.ClaimMapViews
import Derived.JoinedTies
import Derived.KernelRfl
namespace Go.Proofs.Ytafbddhnoacldaa
/- THE CELL 'sum', in the pinned program and in every row, IS THE sha256 OF THE DUMP (.gsa) THAT YtafbddhnoacldaaProg.lean LOADS. Nothing in Lean hashes anything: it is a label: what it is worth is what the hold of that sum in a sandbox is worth. -/
noncomputable def Try.pinned : Pinned := { name := "ytafbddhnoacldaa", sum := "c531ae95a097f82358e0a0e67d52bd60db99cf5ca6a01bc759ab5289f0f9adac", checked := Try.checked }
namespace Rows
def none {H : Type} : Left H := { results := [], args := [] }

/-- 'metronomelaw09.MemberGoes': WHATEVER THE INPUT: true; the input reads as it did. -/
def memberGoesSpec : ChangeSpec := { name := "memberGoes", fn := fun _ => fun
  | [d1, d2, d3, d4] => { results := [.lit (.bool true)], args := [d1, d2, d3, d4] }
  | _ => none }
def memberGoesRow : OpenClaim := { program := "ytafbddhnoacldaa", sum := "c531ae95a097f82358e0a0e67d52bd60db99cf5ca6a01bc759ab5289f0f9adac", func := "metronome/metronomelaw09.MemberGoes", spec := "memberGoes", unfollowed := true, recurses := true, apart := false }
def MemberGoesSaid : Prop := memberGoesRow.holds Try.pinned (OpenSpec.ofChange memberGoesSpec)

/-- ITS FALSE NEIGHBOUR: 'it returns false'. Refute it at one input. -/
def memberGoesWrong : ChangeSpec := { name := "memberGoes", fn := fun _ => fun
  | [d1, d2, d3, d4] => { results := [.lit (.bool false)], args := [d1, d2, d3, d4] }
  | _ => none }
def MemberGoesWrongFalsely : Prop := memberGoesRow.holds Try.pinned (OpenSpec.ofChange memberGoesWrong)

/-- 'metronomelaw09.MemberOwn': WHATEVER THE INPUT: true; the input reads as it did. -/
def memberOwnSpec : ChangeSpec := { name := "memberOwn", fn := fun _ => fun
  | [d] => { results := [.lit (.bool true)], args := [d] }
  | _ => none }
def memberOwnRow : OpenClaim := { program := "ytafbddhnoacldaa", sum := "c531ae95a097f82358e0a0e67d52bd60db99cf5ca6a01bc759ab5289f0f9adac", func := "metronome/metronomelaw09.MemberOwn", spec := "memberOwn", unfollowed := true, recurses := true, apart := false }
def MemberOwnSaid : Prop := memberOwnRow.holds Try.pinned (OpenSpec.ofChange memberOwnSpec)

/-- ITS FALSE NEIGHBOUR: 'it returns false'. Refute it at one input. -/
def memberOwnWrong : ChangeSpec := { name := "memberOwn", fn := fun _ => fun
  | [d] => { results := [.lit (.bool false)], args := [d] }
  | _ => none }
def MemberOwnWrongFalsely : Prop := memberOwnRow.holds Try.pinned (OpenSpec.ofChange memberOwnWrong)

/-- 'metronomelaw09.MemberTold': WHATEVER THE INPUT: true; the input reads as it did. -/
def memberToldSpec : ChangeSpec := { name := "memberTold", fn := fun _ => fun
  | [d1, d2, d3, d4] => { results := [.lit (.bool true)], args := [d1, d2, d3, d4] }
  | _ => none }
def memberToldRow : OpenClaim := { program := "ytafbddhnoacldaa", sum := "c531ae95a097f82358e0a0e67d52bd60db99cf5ca6a01bc759ab5289f0f9adac", func := "metronome/metronomelaw09.MemberTold", spec := "memberTold", unfollowed := true, recurses := true, apart := false }
def MemberToldSaid : Prop := memberToldRow.holds Try.pinned (OpenSpec.ofChange memberToldSpec)

/-- ITS FALSE NEIGHBOUR: 'it returns false'. Refute it at one input. -/
def memberToldWrong : ChangeSpec := { name := "memberTold", fn := fun _ => fun
  | [d1, d2, d3, d4] => { results := [.lit (.bool false)], args := [d1, d2, d3, d4] }
  | _ => none }
def MemberToldWrongFalsely : Prop := memberToldRow.holds Try.pinned (OpenSpec.ofChange memberToldWrong)

/-- 'metronomelaw09.MemberViews': WHATEVER THE INPUT: true; the input reads as it did. -/
def memberViewsSpec : ChangeSpec := { name := "memberViews", fn := fun _ => fun
  | [d1, d2, d3, d4, d5, d6] => { results := [.lit (.bool true)], args := [d1, d2, d3, d4, d5, d6] }
  | _ => none }
def memberViewsRow : OpenClaim := { program := "ytafbddhnoacldaa", sum := "c531ae95a097f82358e0a0e67d52bd60db99cf5ca6a01bc759ab5289f0f9adac", func := "metronome/metronomelaw09.MemberViews", spec := "memberViews", unfollowed := true, recurses := true, apart := false }
def MemberViewsSaid : Prop := memberViewsRow.holds Try.pinned (OpenSpec.ofChange memberViewsSpec)

/-- ITS FALSE NEIGHBOUR: 'it returns false'. Refute it at one input. -/
def memberViewsWrong : ChangeSpec := { name := "memberViews", fn := fun _ => fun
  | [d1, d2, d3, d4, d5, d6] => { results := [.lit (.bool false)], args := [d1, d2, d3, d4, d5, d6] }
  | _ => none }
def MemberViewsWrongFalsely : Prop := memberViewsRow.holds Try.pinned (OpenSpec.ofChange memberViewsWrong)

/-- 'metronomelaw09.MemberAgree': WHATEVER THE INPUT: true; the input reads as it did. -/
def memberAgreeSpec : ChangeSpec := { name := "memberAgree", fn := fun _ => fun
  | [d1, d2, d3, d4] => { results := [.lit (.bool true)], args := [d1, d2, d3, d4] }
  | _ => none }
def memberAgreeRow : OpenClaim := { program := "ytafbddhnoacldaa", sum := "c531ae95a097f82358e0a0e67d52bd60db99cf5ca6a01bc759ab5289f0f9adac", func := "metronome/metronomelaw09.MemberAgree", spec := "memberAgree", unfollowed := true, recurses := true, apart := false }
def MemberAgreeSaid : Prop := memberAgreeRow.holds Try.pinned (OpenSpec.ofChange memberAgreeSpec)

/-- ITS FALSE NEIGHBOUR: 'it returns false'. Refute it at one input. -/
def memberAgreeWrong : ChangeSpec := { name := "memberAgree", fn := fun _ => fun
  | [d1, d2, d3, d4] => { results := [.lit (.bool false)], args := [d1, d2, d3, d4] }
  | _ => none }
def MemberAgreeWrongFalsely : Prop := memberAgreeRow.holds Try.pinned (OpenSpec.ofChange memberAgreeWrong)

/-- 'metronomelaw09.MemberStops': WHATEVER THE INPUT: true; the input reads as it did. -/
def memberStopsSpec : ChangeSpec := { name := "memberStops", fn := fun _ => fun
  | [d1, d2, d3] => { results := [.lit (.bool true)], args := [d1, d2, d3] }
  | _ => none }
def memberStopsRow : OpenClaim := { program := "ytafbddhnoacldaa", sum := "c531ae95a097f82358e0a0e67d52bd60db99cf5ca6a01bc759ab5289f0f9adac", func := "metronome/metronomelaw09.MemberStops", spec := "memberStops", unfollowed := true, recurses := true, apart := false }
def MemberStopsSaid : Prop := memberStopsRow.holds Try.pinned (OpenSpec.ofChange memberStopsSpec)

/-- ITS FALSE NEIGHBOUR: 'it returns false'. Refute it at one input. -/
def memberStopsWrong : ChangeSpec := { name := "memberStops", fn := fun _ => fun
  | [d1, d2, d3] => { results := [.lit (.bool false)], args := [d1, d2, d3] }
  | _ => none }
def MemberStopsWrongFalsely : Prop := memberStopsRow.holds Try.pinned (OpenSpec.ofChange memberStopsWrong)

/-- 'metronomelaw09.MemberMay': WHATEVER THE INPUT: true; the input reads as it did. -/
def memberMaySpec : ChangeSpec := { name := "memberMay", fn := fun _ => fun
  | [d1, d2, d3] => { results := [.lit (.bool true)], args := [d1, d2, d3] }
  | _ => none }
def memberMayRow : OpenClaim := { program := "ytafbddhnoacldaa", sum := "c531ae95a097f82358e0a0e67d52bd60db99cf5ca6a01bc759ab5289f0f9adac", func := "metronome/metronomelaw09.MemberMay", spec := "memberMay", unfollowed := true, recurses := true, apart := false }
def MemberMaySaid : Prop := memberMayRow.holds Try.pinned (OpenSpec.ofChange memberMaySpec)

/-- ITS FALSE NEIGHBOUR: 'it returns false'. Refute it at one input. -/
def memberMayWrong : ChangeSpec := { name := "memberMay", fn := fun _ => fun
  | [d1, d2, d3] => { results := [.lit (.bool false)], args := [d1, d2, d3] }
  | _ => none }
def MemberMayWrongFalsely : Prop := memberMayRow.holds Try.pinned (OpenSpec.ofChange memberMayWrong)

/-- 'metronomelaw17.JudgeAgree': WHATEVER THE INPUT: true; the input reads as it did. -/
def judgeAgreeSpec : ChangeSpec := { name := "judgeAgree", fn := fun _ => fun
  | [d1, d2, d3, d4, d5, d6, d7] => { results := [.lit (.bool true)], args := [d1, d2, d3, d4, d5, d6, d7] }
  | _ => none }
def judgeAgreeRow : OpenClaim := { program := "ytafbddhnoacldaa", sum := "c531ae95a097f82358e0a0e67d52bd60db99cf5ca6a01bc759ab5289f0f9adac", func := "metronome/metronomelaw17.JudgeAgree", spec := "judgeAgree", unfollowed := true, recurses := true, apart := false }
def JudgeAgreeSaid : Prop := judgeAgreeRow.holds Try.pinned (OpenSpec.ofChange judgeAgreeSpec)

/-- ITS FALSE NEIGHBOUR: 'it returns false'. Refute it at one input. -/
def judgeAgreeWrong : ChangeSpec := { name := "judgeAgree", fn := fun _ => fun
  | [d1, d2, d3, d4, d5, d6, d7] => { results := [.lit (.bool false)], args := [d1, d2, d3, d4, d5, d6, d7] }
  | _ => none }
def JudgeAgreeWrongFalsely : Prop := judgeAgreeRow.holds Try.pinned (OpenSpec.ofChange judgeAgreeWrong)

/-- 'metronomelaw17.JudgeNull': WHATEVER THE INPUT: true; the input reads as it did. -/
def judgeNullSpec : ChangeSpec := { name := "judgeNull", fn := fun _ => fun
  | [d1, d2, d3, d4] => { results := [.lit (.bool true)], args := [d1, d2, d3, d4] }
  | _ => none }
def judgeNullRow : OpenClaim := { program := "ytafbddhnoacldaa", sum := "c531ae95a097f82358e0a0e67d52bd60db99cf5ca6a01bc759ab5289f0f9adac", func := "metronome/metronomelaw17.JudgeNull", spec := "judgeNull", unfollowed := true, recurses := true, apart := false }
def JudgeNullSaid : Prop := judgeNullRow.holds Try.pinned (OpenSpec.ofChange judgeNullSpec)

/-- ITS FALSE NEIGHBOUR: 'it returns false'. Refute it at one input. -/
def judgeNullWrong : ChangeSpec := { name := "judgeNull", fn := fun _ => fun
  | [d1, d2, d3, d4] => { results := [.lit (.bool false)], args := [d1, d2, d3, d4] }
  | _ => none }
def JudgeNullWrongFalsely : Prop := judgeNullRow.holds Try.pinned (OpenSpec.ofChange judgeNullWrong)

/-- 'metronomelaw05.FrameBurst': WHATEVER THE INPUT: true; the input reads as it did. -/
def frameBurstSpec : ChangeSpec := { name := "frameBurst", fn := fun _ => fun
  | [d1, d2, d3] => { results := [.lit (.bool true)], args := [d1, d2, d3] }
  | _ => none }
def frameBurstRow : OpenClaim := { program := "ytafbddhnoacldaa", sum := "c531ae95a097f82358e0a0e67d52bd60db99cf5ca6a01bc759ab5289f0f9adac", func := "metronome/metronomelaw05.FrameBurst", spec := "frameBurst", apart := false }
def FrameBurstSaid : Prop := frameBurstRow.holds Try.pinned (OpenSpec.ofChange frameBurstSpec)

/-- ITS FALSE NEIGHBOUR: 'it returns false'. Refute it at one input. -/
def frameBurstWrong : ChangeSpec := { name := "frameBurst", fn := fun _ => fun
  | [d1, d2, d3] => { results := [.lit (.bool false)], args := [d1, d2, d3] }
  | _ => none }
def FrameBurstWrongFalsely : Prop := frameBurstRow.holds Try.pinned (OpenSpec.ofChange frameBurstWrong)

/-- 'metronomelaw05.FrameReads': WHATEVER THE INPUT: true; the input reads as it did. -/
def frameReadsSpec : ChangeSpec := { name := "frameReads", fn := fun _ => fun
  | [d1, d2] => { results := [.lit (.bool true)], args := [d1, d2] }
  | _ => none }
def frameReadsRow : OpenClaim := { program := "ytafbddhnoacldaa", sum := "c531ae95a097f82358e0a0e67d52bd60db99cf5ca6a01bc759ab5289f0f9adac", func := "metronome/metronomelaw05.FrameReads", spec := "frameReads", apart := false }
def FrameReadsSaid : Prop := frameReadsRow.holds Try.pinned (OpenSpec.ofChange frameReadsSpec)

/-- ITS FALSE NEIGHBOUR: 'it returns false'. Refute it at one input. -/
def frameReadsWrong : ChangeSpec := { name := "frameReads", fn := fun _ => fun
  | [d1, d2] => { results := [.lit (.bool false)], args := [d1, d2] }
  | _ => none }
def FrameReadsWrongFalsely : Prop := frameReadsRow.holds Try.pinned (OpenSpec.ofChange frameReadsWrong)

/-- 'metronomelaw05.FrameAgree': WHATEVER THE INPUT: true; the input reads as it did. -/
def frameAgreeSpec : ChangeSpec := { name := "frameAgree", fn := fun _ => fun
  | [d1, d2] => { results := [.lit (.bool true)], args := [d1, d2] }
  | _ => none }
def frameAgreeRow : OpenClaim := { program := "ytafbddhnoacldaa", sum := "c531ae95a097f82358e0a0e67d52bd60db99cf5ca6a01bc759ab5289f0f9adac", func := "metronome/metronomelaw05.FrameAgree", spec := "frameAgree", apart := false }
def FrameAgreeSaid : Prop := frameAgreeRow.holds Try.pinned (OpenSpec.ofChange frameAgreeSpec)

/-- ITS FALSE NEIGHBOUR: 'it returns false'. Refute it at one input. -/
def frameAgreeWrong : ChangeSpec := { name := "frameAgree", fn := fun _ => fun
  | [d1, d2] => { results := [.lit (.bool false)], args := [d1, d2] }
  | _ => none }
def FrameAgreeWrongFalsely : Prop := frameAgreeRow.holds Try.pinned (OpenSpec.ofChange frameAgreeWrong)

/-- 'metronomelaw05.FrameBack': WHATEVER THE INPUT: true; the input reads as it did. -/
def frameBackSpec : ChangeSpec := { name := "frameBack", fn := fun _ => fun
  | [d1, d2, d3] => { results := [.lit (.bool true)], args := [d1, d2, d3] }
  | _ => none }
def frameBackRow : OpenClaim := { program := "ytafbddhnoacldaa", sum := "c531ae95a097f82358e0a0e67d52bd60db99cf5ca6a01bc759ab5289f0f9adac", func := "metronome/metronomelaw05.FrameBack", spec := "frameBack", apart := false }
def FrameBackSaid : Prop := frameBackRow.holds Try.pinned (OpenSpec.ofChange frameBackSpec)

/-- ITS FALSE NEIGHBOUR: 'it returns false'. Refute it at one input. -/
def frameBackWrong : ChangeSpec := { name := "frameBack", fn := fun _ => fun
  | [d1, d2, d3] => { results := [.lit (.bool false)], args := [d1, d2, d3] }
  | _ => none }
def FrameBackWrongFalsely : Prop := frameBackRow.holds Try.pinned (OpenSpec.ofChange frameBackWrong)

/-- 'metronomelaw05.FrameBits': WHATEVER THE INPUT: true; the input reads as it did. -/
def frameBitsSpec : ChangeSpec := { name := "frameBits", fn := fun _ => fun
  | [d1, d2, d3, d4] => { results := [.lit (.bool true)], args := [d1, d2, d3, d4] }
  | _ => none }
def frameBitsRow : OpenClaim := { program := "ytafbddhnoacldaa", sum := "c531ae95a097f82358e0a0e67d52bd60db99cf5ca6a01bc759ab5289f0f9adac", func := "metronome/metronomelaw05.FrameBits", spec := "frameBits", apart := false }
def FrameBitsSaid : Prop := frameBitsRow.holds Try.pinned (OpenSpec.ofChange frameBitsSpec)

/-- ITS FALSE NEIGHBOUR: 'it returns false'. Refute it at one input. -/
def frameBitsWrong : ChangeSpec := { name := "frameBits", fn := fun _ => fun
  | [d1, d2, d3, d4] => { results := [.lit (.bool false)], args := [d1, d2, d3, d4] }
  | _ => none }
def FrameBitsWrongFalsely : Prop := frameBitsRow.holds Try.pinned (OpenSpec.ofChange frameBitsWrong)

/-- 'metronomelaw17.JudgeMay': WHATEVER THE INPUT: true; the input reads as it did. -/
def judgeMaySpec : ChangeSpec := { name := "judgeMay", fn := fun _ => fun
  | [d1, d2, d3, d4] => { results := [.lit (.bool true)], args := [d1, d2, d3, d4] }
  | _ => none }
def judgeMayRow : OpenClaim := { program := "ytafbddhnoacldaa", sum := "c531ae95a097f82358e0a0e67d52bd60db99cf5ca6a01bc759ab5289f0f9adac", func := "metronome/metronomelaw17.JudgeMay", spec := "judgeMay", unfollowed := true, recurses := true, apart := false }
def JudgeMaySaid : Prop := judgeMayRow.holds Try.pinned (OpenSpec.ofChange judgeMaySpec)

/-- ITS FALSE NEIGHBOUR: 'it returns false'. Refute it at one input. -/
def judgeMayWrong : ChangeSpec := { name := "judgeMay", fn := fun _ => fun
  | [d1, d2, d3, d4] => { results := [.lit (.bool false)], args := [d1, d2, d3, d4] }
  | _ => none }
def JudgeMayWrongFalsely : Prop := judgeMayRow.holds Try.pinned (OpenSpec.ofChange judgeMayWrong)

/-- 'metronomelaw17.JudgeSlots': WHATEVER THE INPUT: true; the input reads as it did. -/
def judgeSlotsSpec : ChangeSpec := { name := "judgeSlots", fn := fun _ => fun
  | [d1, d2, d3, d4, d5] => { results := [.lit (.bool true)], args := [d1, d2, d3, d4, d5] }
  | _ => none }
def judgeSlotsRow : OpenClaim := { program := "ytafbddhnoacldaa", sum := "c531ae95a097f82358e0a0e67d52bd60db99cf5ca6a01bc759ab5289f0f9adac", func := "metronome/metronomelaw17.JudgeSlots", spec := "judgeSlots", unfollowed := true, recurses := true, apart := false }
def JudgeSlotsSaid : Prop := judgeSlotsRow.holds Try.pinned (OpenSpec.ofChange judgeSlotsSpec)

/-- ITS FALSE NEIGHBOUR: 'it returns false'. Refute it at one input. -/
def judgeSlotsWrong : ChangeSpec := { name := "judgeSlots", fn := fun _ => fun
  | [d1, d2, d3, d4, d5] => { results := [.lit (.bool false)], args := [d1, d2, d3, d4, d5] }
  | _ => none }
def JudgeSlotsWrongFalsely : Prop := judgeSlotsRow.holds Try.pinned (OpenSpec.ofChange judgeSlotsWrong)

/-- 'metronomelaw21.HubSame': WHATEVER THE INPUT: true; the input reads as it did. -/
def hubSameSpec : ChangeSpec := { name := "hubSame", fn := fun _ => fun
  | [d1, d2, d3, d4, d5, d6, d7] => { results := [.lit (.bool true)], args := [d1, d2, d3, d4, d5, d6, d7] }
  | _ => none }
def hubSameRow : OpenClaim := { program := "ytafbddhnoacldaa", sum := "c531ae95a097f82358e0a0e67d52bd60db99cf5ca6a01bc759ab5289f0f9adac", func := "metronome/metronomelaw21.HubSame", spec := "hubSame", unfollowed := true, recurses := true, apart := false }
def HubSameSaid : Prop := hubSameRow.holds Try.pinned (OpenSpec.ofChange hubSameSpec)

/-- ITS FALSE NEIGHBOUR: 'it returns false'. Refute it at one input. -/
def hubSameWrong : ChangeSpec := { name := "hubSame", fn := fun _ => fun
  | [d1, d2, d3, d4, d5, d6, d7] => { results := [.lit (.bool false)], args := [d1, d2, d3, d4, d5, d6, d7] }
  | _ => none }
def HubSameWrongFalsely : Prop := hubSameRow.holds Try.pinned (OpenSpec.ofChange hubSameWrong)

/-- 'metronomelaw21.HubRounds': WHATEVER THE INPUT: true; the input reads as it did. -/
def hubRoundsSpec : ChangeSpec := { name := "hubRounds", fn := fun _ => fun
  | [d1, d2] => { results := [.lit (.bool true)], args := [d1, d2] }
  | _ => none }
def hubRoundsRow : OpenClaim := { program := "ytafbddhnoacldaa", sum := "c531ae95a097f82358e0a0e67d52bd60db99cf5ca6a01bc759ab5289f0f9adac", func := "metronome/metronomelaw21.HubRounds", spec := "hubRounds", unfollowed := true, recurses := true, apart := false }
def HubRoundsSaid : Prop := hubRoundsRow.holds Try.pinned (OpenSpec.ofChange hubRoundsSpec)

/-- ITS FALSE NEIGHBOUR: 'it returns false'. Refute it at one input. -/
def hubRoundsWrong : ChangeSpec := { name := "hubRounds", fn := fun _ => fun
  | [d1, d2] => { results := [.lit (.bool false)], args := [d1, d2] }
  | _ => none }
def HubRoundsWrongFalsely : Prop := hubRoundsRow.holds Try.pinned (OpenSpec.ofChange hubRoundsWrong)

/- THE SECOND FORM. 'bulk': how many values and letters a reading holds, each counted each time it is reached (what is shared counts as often as it is met; a slice's spare places count too). A statement '..UptoSaid' is the law's where the arguments, and the package variables that the reading takes, are together of bulk at most 1048576: NARROWER than '..Said'. Prove '..Said' where nothing that the law and all that it calls make is longer than what came in: it says more and counts as full. Else prove '..UptoSaid'. A law counts once. -/
mutual
def uptoBulk {H : Type} : DataW H → Nat
  | .lit (.string bytes) => bytes.length + 1
  | .lit _ => 1
  | .nil => 1
  | .ptr d => uptoBulk d + 1
  | .slice elems spare => uptoBulkAll elems + uptoBulkAll spare + 1
  | .agg parts => uptoBulkAll parts + 1
  | .iface _ d => uptoBulk d + 1
  | .map entries => uptoBulkEntries entries + 1
  | .held _ => 1
def uptoBulkAll {H : Type} : List (DataW H) → Nat
  | [] => 0
  | d :: r => uptoBulk d + uptoBulkAll r
def uptoBulkEntries {H : Type} : List (Lit × DataW H) → Nat
  | [] => 0
  | x :: r => uptoBulkEntry x + uptoBulkEntries r
def uptoBulkEntry {H : Type} : Lit × DataW H → Nat
  | (.string bytes, d) => bytes.length + uptoBulk d + 1
  | (_, d) => uptoBulk d + 1
 end
def uptoSmall : (H : Type) → List (DataW H) → Bool := fun _ ds => decide (uptoBulkAll ds ≤ 1048576)
def OpenSpec.upto (s : _root_.Go.ChangeSpec) : _root_.Go.OpenSpec := { _root_.Go.OpenSpec.ofChange s with cond := some uptoSmall }

/-- 'metronomelaw09.MemberGoes', WHERE WHAT IT READS IS OF BULK AT MOST 1048576: true; the input reads as it did. -/
def memberGoesUptoRow : OpenClaim := { program := "ytafbddhnoacldaa", sum := "c531ae95a097f82358e0a0e67d52bd60db99cf5ca6a01bc759ab5289f0f9adac", func := "metronome/metronomelaw09.MemberGoes", spec := "memberGoes", unfollowed := true, recurses := true, apart := false, narrowed := true }
def MemberGoesUptoSaid : Prop := memberGoesUptoRow.holds Try.pinned (OpenSpec.upto memberGoesSpec)

/-- 'metronomelaw09.MemberOwn', WHERE WHAT IT READS IS OF BULK AT MOST 1048576: true; the input reads as it did. -/
def memberOwnUptoRow : OpenClaim := { program := "ytafbddhnoacldaa", sum := "c531ae95a097f82358e0a0e67d52bd60db99cf5ca6a01bc759ab5289f0f9adac", func := "metronome/metronomelaw09.MemberOwn", spec := "memberOwn", unfollowed := true, recurses := true, apart := false, narrowed := true }
def MemberOwnUptoSaid : Prop := memberOwnUptoRow.holds Try.pinned (OpenSpec.upto memberOwnSpec)

/-- 'metronomelaw09.MemberTold', WHERE WHAT IT READS IS OF BULK AT MOST 1048576: true; the input reads as it did. -/
def memberToldUptoRow : OpenClaim := { program := "ytafbddhnoacldaa", sum := "c531ae95a097f82358e0a0e67d52bd60db99cf5ca6a01bc759ab5289f0f9adac", func := "metronome/metronomelaw09.MemberTold", spec := "memberTold", unfollowed := true, recurses := true, apart := false, narrowed := true }
def MemberToldUptoSaid : Prop := memberToldUptoRow.holds Try.pinned (OpenSpec.upto memberToldSpec)

/-- 'metronomelaw09.MemberViews', WHERE WHAT IT READS IS OF BULK AT MOST 1048576: true; the input reads as it did. -/
def memberViewsUptoRow : OpenClaim := { program := "ytafbddhnoacldaa", sum := "c531ae95a097f82358e0a0e67d52bd60db99cf5ca6a01bc759ab5289f0f9adac", func := "metronome/metronomelaw09.MemberViews", spec := "memberViews", unfollowed := true, recurses := true, apart := false, narrowed := true }
def MemberViewsUptoSaid : Prop := memberViewsUptoRow.holds Try.pinned (OpenSpec.upto memberViewsSpec)

/-- 'metronomelaw09.MemberAgree', WHERE WHAT IT READS IS OF BULK AT MOST 1048576: true; the input reads as it did. -/
def memberAgreeUptoRow : OpenClaim := { program := "ytafbddhnoacldaa", sum := "c531ae95a097f82358e0a0e67d52bd60db99cf5ca6a01bc759ab5289f0f9adac", func := "metronome/metronomelaw09.MemberAgree", spec := "memberAgree", unfollowed := true, recurses := true, apart := false, narrowed := true }
def MemberAgreeUptoSaid : Prop := memberAgreeUptoRow.holds Try.pinned (OpenSpec.upto memberAgreeSpec)

/-- 'metronomelaw09.MemberStops', WHERE WHAT IT READS IS OF BULK AT MOST 1048576: true; the input reads as it did. -/
def memberStopsUptoRow : OpenClaim := { program := "ytafbddhnoacldaa", sum := "c531ae95a097f82358e0a0e67d52bd60db99cf5ca6a01bc759ab5289f0f9adac", func := "metronome/metronomelaw09.MemberStops", spec := "memberStops", unfollowed := true, recurses := true, apart := false, narrowed := true }
def MemberStopsUptoSaid : Prop := memberStopsUptoRow.holds Try.pinned (OpenSpec.upto memberStopsSpec)

/-- 'metronomelaw09.MemberMay', WHERE WHAT IT READS IS OF BULK AT MOST 1048576: true; the input reads as it did. -/
def memberMayUptoRow : OpenClaim := { program := "ytafbddhnoacldaa", sum := "c531ae95a097f82358e0a0e67d52bd60db99cf5ca6a01bc759ab5289f0f9adac", func := "metronome/metronomelaw09.MemberMay", spec := "memberMay", unfollowed := true, recurses := true, apart := false, narrowed := true }
def MemberMayUptoSaid : Prop := memberMayUptoRow.holds Try.pinned (OpenSpec.upto memberMaySpec)

/-- 'metronomelaw17.JudgeAgree', WHERE WHAT IT READS IS OF BULK AT MOST 1048576: true; the input reads as it did. -/
def judgeAgreeUptoRow : OpenClaim := { program := "ytafbddhnoacldaa", sum := "c531ae95a097f82358e0a0e67d52bd60db99cf5ca6a01bc759ab5289f0f9adac", func := "metronome/metronomelaw17.JudgeAgree", spec := "judgeAgree", unfollowed := true, recurses := true, apart := false, narrowed := true }
def JudgeAgreeUptoSaid : Prop := judgeAgreeUptoRow.holds Try.pinned (OpenSpec.upto judgeAgreeSpec)

/-- 'metronomelaw17.JudgeNull', WHERE WHAT IT READS IS OF BULK AT MOST 1048576: true; the input reads as it did. -/
def judgeNullUptoRow : OpenClaim := { program := "ytafbddhnoacldaa", sum := "c531ae95a097f82358e0a0e67d52bd60db99cf5ca6a01bc759ab5289f0f9adac", func := "metronome/metronomelaw17.JudgeNull", spec := "judgeNull", unfollowed := true, recurses := true, apart := false, narrowed := true }
def JudgeNullUptoSaid : Prop := judgeNullUptoRow.holds Try.pinned (OpenSpec.upto judgeNullSpec)

/-- 'metronomelaw05.FrameBurst', WHERE WHAT IT READS IS OF BULK AT MOST 1048576: true; the input reads as it did. -/
def frameBurstUptoRow : OpenClaim := { program := "ytafbddhnoacldaa", sum := "c531ae95a097f82358e0a0e67d52bd60db99cf5ca6a01bc759ab5289f0f9adac", func := "metronome/metronomelaw05.FrameBurst", spec := "frameBurst", apart := false, narrowed := true }
def FrameBurstUptoSaid : Prop := frameBurstUptoRow.holds Try.pinned (OpenSpec.upto frameBurstSpec)

/-- 'metronomelaw05.FrameReads', WHERE WHAT IT READS IS OF BULK AT MOST 1048576: true; the input reads as it did. -/
def frameReadsUptoRow : OpenClaim := { program := "ytafbddhnoacldaa", sum := "c531ae95a097f82358e0a0e67d52bd60db99cf5ca6a01bc759ab5289f0f9adac", func := "metronome/metronomelaw05.FrameReads", spec := "frameReads", apart := false, narrowed := true }
def FrameReadsUptoSaid : Prop := frameReadsUptoRow.holds Try.pinned (OpenSpec.upto frameReadsSpec)

/-- 'metronomelaw05.FrameAgree', WHERE WHAT IT READS IS OF BULK AT MOST 1048576: true; the input reads as it did. -/
def frameAgreeUptoRow : OpenClaim := { program := "ytafbddhnoacldaa", sum := "c531ae95a097f82358e0a0e67d52bd60db99cf5ca6a01bc759ab5289f0f9adac", func := "metronome/metronomelaw05.FrameAgree", spec := "frameAgree", apart := false, narrowed := true }
def FrameAgreeUptoSaid : Prop := frameAgreeUptoRow.holds Try.pinned (OpenSpec.upto frameAgreeSpec)

/-- 'metronomelaw05.FrameBack', WHERE WHAT IT READS IS OF BULK AT MOST 1048576: true; the input reads as it did. -/
def frameBackUptoRow : OpenClaim := { program := "ytafbddhnoacldaa", sum := "c531ae95a097f82358e0a0e67d52bd60db99cf5ca6a01bc759ab5289f0f9adac", func := "metronome/metronomelaw05.FrameBack", spec := "frameBack", apart := false, narrowed := true }
def FrameBackUptoSaid : Prop := frameBackUptoRow.holds Try.pinned (OpenSpec.upto frameBackSpec)

/-- 'metronomelaw05.FrameBits', WHERE WHAT IT READS IS OF BULK AT MOST 1048576: true; the input reads as it did. -/
def frameBitsUptoRow : OpenClaim := { program := "ytafbddhnoacldaa", sum := "c531ae95a097f82358e0a0e67d52bd60db99cf5ca6a01bc759ab5289f0f9adac", func := "metronome/metronomelaw05.FrameBits", spec := "frameBits", apart := false, narrowed := true }
def FrameBitsUptoSaid : Prop := frameBitsUptoRow.holds Try.pinned (OpenSpec.upto frameBitsSpec)

/-- 'metronomelaw17.JudgeMay', WHERE WHAT IT READS IS OF BULK AT MOST 1048576: true; the input reads as it did. -/
def judgeMayUptoRow : OpenClaim := { program := "ytafbddhnoacldaa", sum := "c531ae95a097f82358e0a0e67d52bd60db99cf5ca6a01bc759ab5289f0f9adac", func := "metronome/metronomelaw17.JudgeMay", spec := "judgeMay", unfollowed := true, recurses := true, apart := false, narrowed := true }
def JudgeMayUptoSaid : Prop := judgeMayUptoRow.holds Try.pinned (OpenSpec.upto judgeMaySpec)

/-- 'metronomelaw17.JudgeSlots', WHERE WHAT IT READS IS OF BULK AT MOST 1048576: true; the input reads as it did. -/
def judgeSlotsUptoRow : OpenClaim := { program := "ytafbddhnoacldaa", sum := "c531ae95a097f82358e0a0e67d52bd60db99cf5ca6a01bc759ab5289f0f9adac", func := "metronome/metronomelaw17.JudgeSlots", spec := "judgeSlots", unfollowed := true, recurses := true, apart := false, narrowed := true }
def JudgeSlotsUptoSaid : Prop := judgeSlotsUptoRow.holds Try.pinned (OpenSpec.upto judgeSlotsSpec)

/-- 'metronomelaw21.HubSame', WHERE WHAT IT READS IS OF BULK AT MOST 1048576: true; the input reads as it did. -/
def hubSameUptoRow : OpenClaim := { program := "ytafbddhnoacldaa", sum := "c531ae95a097f82358e0a0e67d52bd60db99cf5ca6a01bc759ab5289f0f9adac", func := "metronome/metronomelaw21.HubSame", spec := "hubSame", unfollowed := true, recurses := true, apart := false, narrowed := true }
def HubSameUptoSaid : Prop := hubSameUptoRow.holds Try.pinned (OpenSpec.upto hubSameSpec)

/-- 'metronomelaw21.HubRounds', WHERE WHAT IT READS IS OF BULK AT MOST 1048576: true; the input reads as it did. -/
def hubRoundsUptoRow : OpenClaim := { program := "ytafbddhnoacldaa", sum := "c531ae95a097f82358e0a0e67d52bd60db99cf5ca6a01bc759ab5289f0f9adac", func := "metronome/metronomelaw21.HubRounds", spec := "hubRounds", unfollowed := true, recurses := true, apart := false, narrowed := true }
def HubRoundsUptoSaid : Prop := hubRoundsUptoRow.holds Try.pinned (OpenSpec.upto hubRoundsSpec)

end Rows
end Go.Proofs.Ytafbddhnoacldaa
