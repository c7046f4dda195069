/-
  PROVED: Rows.FrameBitsSaid. Conditions: none.
-/
import Derived.Test.YtafbddhnoacldaaRows
import Derived.Test.YtafbddhnoacldaaF
import Derived.Test.YtafbddhnoacldaaLd
namespace Go.Proofs.Ytafbddhnoacldaa
open Go.ChangeShapes Go.WideShapes Go.ChangeAt Go.RowKit
theorem frameBits_j0 : (Rows.frameBitsRow.wf (OpenSpec.ofChange Rows.frameBitsSpec)) = true := by kernel_rfl
theorem frameBits_j3 : (Try.f16.params.all (Try.prog.readableRec ·)) = true := by kernel_rfl
theorem frameBits_j4 : (namedTie Try.prog Rows.frameBitsRow.named Rows.frameBitsSpec.vars) = true := by kernel_rfl
theorem frameBits_j5 : ((Rows.frameBitsRow.stops == [])) = true := by kernel_rfl
theorem frameBits_j7 : ((Rows.frameBitsRow.knobs == [])) = true := by kernel_rfl
theorem frameBits_j9 : ((Rows.frameBitsRow.inPlace == Try.prog.inPlace 16)) = true := by kernel_rfl
theorem frameBits_j10 : ((Rows.frameBitsRow.unfollowed == Try.prog.unfollowed 16)) = true := by kernel_rfl
theorem frameBits_j11 : ((Rows.frameBitsRow.recurses == Try.prog.recurses 16)) = true := by kernel_rfl
theorem frameBits_j12 : ((Rows.frameBitsRow.named == Try.prog.varsNamed 16)) = true := by kernel_rfl
theorem frameBits_j13 : ((Rows.frameBitsRow.maps == (Try.f16.params.toList ++ Rows.frameBitsSpec.plain.varTypes Try.prog).any (Try.prog.mapsRec ·))) = true := by kernel_rfl
theorem frameBits_j14 : ((Rows.frameBitsRow.ifaces == (Try.f16.params.toList ++ Rows.frameBitsSpec.plain.varTypes Try.prog).any (Try.prog.ifacesRec ·))) = true := by kernel_rfl
theorem frameBits_j15 : ((Rows.frameBitsRow.mapsOut == Try.prog.mapsAmong Try.f16.resultTypes.toList)) = true := by kernel_rfl
theorem frameBits_j16 : ((Rows.frameBitsRow.loops == (Try.f16.params.toList ++ Rows.frameBitsSpec.plain.varTypes Try.prog).any (Try.prog.loopsFrom ·))) = true := by kernel_rfl
theorem frameBits_j17 : ((Rows.frameBitsRow.wideKeys == (Try.f16.params.toList ++ Rows.frameBitsSpec.plain.varTypes Try.prog ++ Try.f16.resultTypes.toList).any (Try.prog.wideKeysFrom ·))) = true := by kernel_rfl
theorem frameBits_j18 : (Rows.frameBitsSpec.vars.all (Try.prog.varReadable ·)) = true := by kernel_rfl
theorem frameBits_j19 : (Try.f16.resultTypes.all (fun t => Try.prog.readableRec t && decide (t < Try.prog.types.size))) = true := by kernel_rfl
theorem frameBits_j20 : ((Rows.frameBitsRow.ifacesOut == Try.f16.resultTypes.toList.any (Try.prog.ifacesRec ·))) = true := by kernel_rfl
theorem frameBits_j21 : ((Rows.frameBitsRow.loopsOut == Try.f16.resultTypes.toList.any (Try.prog.loopsFrom ·))) = true := by kernel_rfl
theorem frameBits_j22 : ((Rows.frameBitsRow.plainKeys == Try.prog.plainKeys)) = true := by rw [seat_keys]; rfl
theorem frameBits_j23 : (Rows.frameBitsRow.shortTexts.isNone) = true := by kernel_rfl
theorem frameBits_j26 : ((Rows.frameBitsRow.lifted == Try.prog.liftsFinal)) = true := by rw [seat_lifts]; rfl
theorem frameBits_j27 : ((Try.prog.make == some Rows.frameBitsRow.make)) = true := by kernel_rfl
theorem frameBits_j28 : ((Rows.frameBitsRow.kinds == (if Rows.frameBitsRow.domain.isEmpty then [] else Try.f16.params.toList.map fun t => match Try.prog.underlying t with | some (.int k) => some k | _ => none))) = true := by kernel_rfl
theorem frameBits_j29 : ((Rows.frameBitsRow.pinned == Rows.frameBitsRow.pinnedBy)) = true := by kernel_rfl
theorem frameBits_j30 : ((Rows.frameBitsRow.veiled == (Try.f16.params.toList ++ Rows.frameBitsSpec.plain.varTypes Try.prog ++ Try.f16.resultTypes.toList).any (Try.prog.veiledRec ·))) = true := by kernel_rfl
theorem frameBits_j31 : (Rows.frameBitsRow.veiledFits Try.prog Try.f16.params.toList (Try.f16.params.toList ++ Rows.frameBitsSpec.plain.varTypes Try.prog ++ Try.f16.resultTypes.toList)) = true := by kernel_rfl
set_option maxRecDepth 100000 in
theorem frameBits_closed : joinedFacts Try.prog 16 Try.f16 Rows.frameBitsSpec Rows.frameBitsRow = true := by
  unfold joinedFacts
  exact (band (band (band (band (band (band (band (band (band (band (band (band (band (band (band (band (band (band (band (band (band (band (band (band (band (band (band (band (band (band (band frameBits_j0 seat_j1) seat_j2) frameBits_j3) frameBits_j4) frameBits_j5) seat_j6) frameBits_j7) seat_j8) frameBits_j9) frameBits_j10) frameBits_j11) frameBits_j12) frameBits_j13) frameBits_j14) frameBits_j15) frameBits_j16) frameBits_j17) frameBits_j18) frameBits_j19) frameBits_j20) frameBits_j21) frameBits_j22) frameBits_j23) seat_j24) seat_j25) frameBits_j26) frameBits_j27) frameBits_j28) frameBits_j29) frameBits_j30) frameBits_j31)
theorem frameBits_fn : ∀ (H : Type) (ds : List (DataW H)), ds.length = Try.f16.params.size → Rows.frameBitsSpec.fn H ds = { results := [.lit (.bool true)], args := ds } := fun H ds h => by
  have h : ds.length = 4 := h
  rcases ds with _ | ⟨d1, _ | ⟨d2, _ | ⟨d3, _ | ⟨d4, _ | ⟨d5, ds⟩⟩⟩⟩⟩ <;> first | rfl | (exact absurd h (by simp))
set_option maxRecDepth 100000 in
theorem frameBits_lifted (os : Os) (started : os.Started) (H : Type) (enc : TypeId × Value → H) :
    ReturnsInHanded {} Try.checked os 16 .any (Rows.frameBitsSpec.pre6 enc Try.prog Try.f16 Rows.frameBitsRow.domain false) (Rows.frameBitsSpec.post enc Try.prog Try.f16 false true false false) :=
  Go.Ev.law_lifted (C := Try.checked) seat_own started (by kernel_rfl) Try.func16
    (ChangeSpec.witness6 (enc := enc) (C := Try.checked) false ⟨#[], #[.agg #[.int .i64 0, .int .i64 0, .int .i64 0, .int .i64 0, .int .i64 0, .int .i64 0, .int .i64 0, .int .i64 0, .slice none 0 0], .agg #[.int .i64 0, .int .i64 0, .int .i64 0, .int .i64 0, .int .i64 0, .int .i64 0, .int .i64 0, .int .i64 0, .slice none 0 0], .int .i64 0, .int .i64 0], []⟩ 8 (by kernel_rfl) (by kernel_rfl) (by kernel_rfl) (by kernel_rfl))
    (tys := [(.struct [(.int .i64), (.int .i64), (.struct [(.int .i64), (.int .i64), (.int .i64), (.int .i64), (.int .i64)]), (.int .i64), (.slice (.int .u8))]), (.struct [(.int .i64), (.int .i64), (.struct [(.int .i64), (.int .i64), (.int .i64), (.int .i64), (.int .i64)]), (.int .i64), (.slice (.int .u8))]), (.int .i64), (.int .i64)]) (tb := 4) Go.Ev.M.so16 (fun x h => ⟨rfl, Go.Ev.M.law16 x h⟩) (by kernel_rfl) rfl frameBits_fn (by kernel_rfl) (by kernel_rfl) seat_j1 (by kernel_rfl)
theorem frameBits_over : Rows.frameBitsRow.holds Try.pinned (OpenSpec.ofChange Rows.frameBitsSpec) :=
  OpenClaim.holds_of_wide 16 Try.f16 rfl rfl rfl rfl rfl rfl rfl ⟨rfl, rfl, rfl, rfl, rfl⟩ rfl rfl rfl rfl rfl (by kernel_rfl) Try.func16 frameBits_closed
    (of_decide_eq_true (by kernel_rfl)) (by unfold Func.isWrapper; first | (rw [if_pos (by decide +kernel)]; kernel_rfl) | (rw [if_neg (by decide +kernel)]; exact ⟨rfl, rfl⟩))
    (fun os started H enc _ => frameBits_lifted os started H enc)
theorem frameBits_holds : Rows.FrameBitsSaid := frameBits_over
end Go.Proofs.Ytafbddhnoacldaa
