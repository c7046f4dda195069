/-
  PROVED: Rows.FrameBurstSaid. Conditions: none.
-/
import Derived.Test.YtafbddhnoacldaaRows
import Derived.Test.YtafbddhnoacldaaF
import Derived.Test.YtafbddhnoacldaaLc
namespace Go.Proofs.Ytafbddhnoacldaa
open Go.ChangeShapes Go.WideShapes Go.ChangeAt Go.RowKit
theorem frameBurst_j0 : (Rows.frameBurstRow.wf (OpenSpec.ofChange Rows.frameBurstSpec)) = true := by kernel_rfl
theorem frameBurst_j3 : (Try.f12.params.all (Try.prog.readableRec ·)) = true := by kernel_rfl
theorem frameBurst_j4 : (namedTie Try.prog Rows.frameBurstRow.named Rows.frameBurstSpec.vars) = true := by kernel_rfl
theorem frameBurst_j5 : ((Rows.frameBurstRow.stops == [])) = true := by kernel_rfl
theorem frameBurst_j7 : ((Rows.frameBurstRow.knobs == [])) = true := by kernel_rfl
theorem frameBurst_j9 : ((Rows.frameBurstRow.inPlace == Try.prog.inPlace 12)) = true := by kernel_rfl
theorem frameBurst_j10 : ((Rows.frameBurstRow.unfollowed == Try.prog.unfollowed 12)) = true := by kernel_rfl
theorem frameBurst_j11 : ((Rows.frameBurstRow.recurses == Try.prog.recurses 12)) = true := by kernel_rfl
theorem frameBurst_j12 : ((Rows.frameBurstRow.named == Try.prog.varsNamed 12)) = true := by kernel_rfl
theorem frameBurst_j13 : ((Rows.frameBurstRow.maps == (Try.f12.params.toList ++ Rows.frameBurstSpec.plain.varTypes Try.prog).any (Try.prog.mapsRec ·))) = true := by kernel_rfl
theorem frameBurst_j14 : ((Rows.frameBurstRow.ifaces == (Try.f12.params.toList ++ Rows.frameBurstSpec.plain.varTypes Try.prog).any (Try.prog.ifacesRec ·))) = true := by kernel_rfl
theorem frameBurst_j15 : ((Rows.frameBurstRow.mapsOut == Try.prog.mapsAmong Try.f12.resultTypes.toList)) = true := by kernel_rfl
theorem frameBurst_j16 : ((Rows.frameBurstRow.loops == (Try.f12.params.toList ++ Rows.frameBurstSpec.plain.varTypes Try.prog).any (Try.prog.loopsFrom ·))) = true := by kernel_rfl
theorem frameBurst_j17 : ((Rows.frameBurstRow.wideKeys == (Try.f12.params.toList ++ Rows.frameBurstSpec.plain.varTypes Try.prog ++ Try.f12.resultTypes.toList).any (Try.prog.wideKeysFrom ·))) = true := by kernel_rfl
theorem frameBurst_j18 : (Rows.frameBurstSpec.vars.all (Try.prog.varReadable ·)) = true := by kernel_rfl
theorem frameBurst_j19 : (Try.f12.resultTypes.all (fun t => Try.prog.readableRec t && decide (t < Try.prog.types.size))) = true := by kernel_rfl
theorem frameBurst_j20 : ((Rows.frameBurstRow.ifacesOut == Try.f12.resultTypes.toList.any (Try.prog.ifacesRec ·))) = true := by kernel_rfl
theorem frameBurst_j21 : ((Rows.frameBurstRow.loopsOut == Try.f12.resultTypes.toList.any (Try.prog.loopsFrom ·))) = true := by kernel_rfl
theorem frameBurst_j22 : ((Rows.frameBurstRow.plainKeys == Try.prog.plainKeys)) = true := by rw [seat_keys]; rfl
theorem frameBurst_j23 : (Rows.frameBurstRow.shortTexts.isNone) = true := by kernel_rfl
theorem frameBurst_j26 : ((Rows.frameBurstRow.lifted == Try.prog.liftsFinal)) = true := by rw [seat_lifts]; rfl
theorem frameBurst_j27 : ((Try.prog.make == some Rows.frameBurstRow.make)) = true := by kernel_rfl
theorem frameBurst_j28 : ((Rows.frameBurstRow.kinds == (if Rows.frameBurstRow.domain.isEmpty then [] else Try.f12.params.toList.map fun t => match Try.prog.underlying t with | some (.int k) => some k | _ => none))) = true := by kernel_rfl
theorem frameBurst_j29 : ((Rows.frameBurstRow.pinned == Rows.frameBurstRow.pinnedBy)) = true := by kernel_rfl
theorem frameBurst_j30 : ((Rows.frameBurstRow.veiled == (Try.f12.params.toList ++ Rows.frameBurstSpec.plain.varTypes Try.prog ++ Try.f12.resultTypes.toList).any (Try.prog.veiledRec ·))) = true := by kernel_rfl
theorem frameBurst_j31 : (Rows.frameBurstRow.veiledFits Try.prog Try.f12.params.toList (Try.f12.params.toList ++ Rows.frameBurstSpec.plain.varTypes Try.prog ++ Try.f12.resultTypes.toList)) = true := by kernel_rfl
set_option maxRecDepth 100000 in
theorem frameBurst_closed : joinedFacts Try.prog 12 Try.f12 Rows.frameBurstSpec Rows.frameBurstRow = true := by
  unfold joinedFacts
  exact (band (band (band (band (band (band (band (band (band (band (band (band (band (band (band (band (band (band (band (band (band (band (band (band (band (band (band (band (band (band (band frameBurst_j0 seat_j1) seat_j2) frameBurst_j3) frameBurst_j4) frameBurst_j5) seat_j6) frameBurst_j7) seat_j8) frameBurst_j9) frameBurst_j10) frameBurst_j11) frameBurst_j12) frameBurst_j13) frameBurst_j14) frameBurst_j15) frameBurst_j16) frameBurst_j17) frameBurst_j18) frameBurst_j19) frameBurst_j20) frameBurst_j21) frameBurst_j22) frameBurst_j23) seat_j24) seat_j25) frameBurst_j26) frameBurst_j27) frameBurst_j28) frameBurst_j29) frameBurst_j30) frameBurst_j31)
theorem frameBurst_fn : ∀ (H : Type) (ds : List (DataW H)), ds.length = Try.f12.params.size → Rows.frameBurstSpec.fn H ds = { results := [.lit (.bool true)], args := ds } := fun H ds h => by
  have h : ds.length = 3 := h
  rcases ds with _ | ⟨d1, _ | ⟨d2, _ | ⟨d3, _ | ⟨d4, ds⟩⟩⟩⟩ <;> first | rfl | (exact absurd h (by simp))
set_option maxRecDepth 100000 in
theorem frameBurst_lifted (os : Os) (started : os.Started) (H : Type) (enc : TypeId × Value → H) :
    ReturnsInHanded {} Try.checked os 12 .any (Rows.frameBurstSpec.pre6 enc Try.prog Try.f12 Rows.frameBurstRow.domain false) (Rows.frameBurstSpec.post enc Try.prog Try.f12 false true false false) :=
  Go.Ev.law_lifted (C := Try.checked) seat_own started (by kernel_rfl) Try.func12
    (ChangeSpec.witness6 (enc := enc) (C := Try.checked) false ⟨#[], #[.agg #[.int .i64 0, .int .i64 0, .int .i64 0, .int .i64 0, .int .i64 0, .int .i64 0, .int .i64 0, .int .i64 0, .slice none 0 0], .int .i64 0, .int .u32 0], []⟩ 8 (by kernel_rfl) (by kernel_rfl) (by kernel_rfl) (by kernel_rfl))
    (tys := [(.struct [(.int .i64), (.int .i64), (.struct [(.int .i64), (.int .i64), (.int .i64), (.int .i64), (.int .i64)]), (.int .i64), (.slice (.int .u8))]), (.int .i64), (.int .u32)]) (tb := 4) Go.Ev.M.so12 (fun x h => ⟨rfl, Go.Ev.M.law12 x h⟩) (by kernel_rfl) rfl frameBurst_fn (by kernel_rfl) (by kernel_rfl) seat_j1 (by kernel_rfl)
theorem frameBurst_over : Rows.frameBurstRow.holds Try.pinned (OpenSpec.ofChange Rows.frameBurstSpec) :=
  OpenClaim.holds_of_wide 12 Try.f12 rfl rfl rfl rfl rfl rfl rfl ⟨rfl, rfl, rfl, rfl, rfl⟩ rfl rfl rfl rfl rfl (by kernel_rfl) Try.func12 frameBurst_closed
    (of_decide_eq_true (by kernel_rfl)) (by unfold Func.isWrapper; first | (rw [if_pos (by decide +kernel)]; kernel_rfl) | (rw [if_neg (by decide +kernel)]; exact ⟨rfl, rfl⟩))
    (fun os started H enc _ => frameBurst_lifted os started H enc)
theorem frameBurst_holds : Rows.FrameBurstSaid := frameBurst_over
end Go.Proofs.Ytafbddhnoacldaa
