/-
  PROVED: Rows.JudgeSlotsSaid. Conditions: none.
-/
import Derived.Test.YtafbddhnoacldaaRows
import Derived.Test.YtafbddhnoacldaaF
import Derived.Test.YtafbddhnoacldaaJs
namespace Go.Proofs.Ytafbddhnoacldaa
open Go.ChangeShapes Go.WideShapes Go.ChangeAt Go.RowKit
theorem judgeSlots_j0 : (Rows.judgeSlotsRow.wf (OpenSpec.ofChange Rows.judgeSlotsSpec)) = true := by kernel_rfl
theorem judgeSlots_j3 : (Try.f18.params.all (Try.prog.readableRec ·)) = true := by kernel_rfl
theorem judgeSlots_j4 : (namedTie Try.prog Rows.judgeSlotsRow.named Rows.judgeSlotsSpec.vars) = true := by kernel_rfl
theorem judgeSlots_j5 : ((Rows.judgeSlotsRow.stops == [])) = true := by kernel_rfl
theorem judgeSlots_j7 : ((Rows.judgeSlotsRow.knobs == [])) = true := by kernel_rfl
theorem judgeSlots_j9 : ((Rows.judgeSlotsRow.inPlace == Try.prog.inPlace 18)) = true := by kernel_rfl
theorem judgeSlots_j10 : ((Rows.judgeSlotsRow.unfollowed == Try.prog.unfollowed 18)) = true := by kernel_rfl
theorem judgeSlots_j11 : ((Rows.judgeSlotsRow.recurses == Try.prog.recurses 18)) = true := by kernel_rfl
theorem judgeSlots_j12 : ((Rows.judgeSlotsRow.named == Try.prog.varsNamed 18)) = true := by kernel_rfl
theorem judgeSlots_j13 : ((Rows.judgeSlotsRow.maps == (Try.f18.params.toList ++ Rows.judgeSlotsSpec.plain.varTypes Try.prog).any (Try.prog.mapsRec ·))) = true := by kernel_rfl
theorem judgeSlots_j14 : ((Rows.judgeSlotsRow.ifaces == (Try.f18.params.toList ++ Rows.judgeSlotsSpec.plain.varTypes Try.prog).any (Try.prog.ifacesRec ·))) = true := by kernel_rfl
theorem judgeSlots_j15 : ((Rows.judgeSlotsRow.mapsOut == Try.prog.mapsAmong Try.f18.resultTypes.toList)) = true := by kernel_rfl
theorem judgeSlots_j16 : ((Rows.judgeSlotsRow.loops == (Try.f18.params.toList ++ Rows.judgeSlotsSpec.plain.varTypes Try.prog).any (Try.prog.loopsFrom ·))) = true := by kernel_rfl
theorem judgeSlots_j17 : ((Rows.judgeSlotsRow.wideKeys == (Try.f18.params.toList ++ Rows.judgeSlotsSpec.plain.varTypes Try.prog ++ Try.f18.resultTypes.toList).any (Try.prog.wideKeysFrom ·))) = true := by kernel_rfl
theorem judgeSlots_j18 : (Rows.judgeSlotsSpec.vars.all (Try.prog.varReadable ·)) = true := by kernel_rfl
theorem judgeSlots_j19 : (Try.f18.resultTypes.all (fun t => Try.prog.readableRec t && decide (t < Try.prog.types.size))) = true := by kernel_rfl
theorem judgeSlots_j20 : ((Rows.judgeSlotsRow.ifacesOut == Try.f18.resultTypes.toList.any (Try.prog.ifacesRec ·))) = true := by kernel_rfl
theorem judgeSlots_j21 : ((Rows.judgeSlotsRow.loopsOut == Try.f18.resultTypes.toList.any (Try.prog.loopsFrom ·))) = true := by kernel_rfl
theorem judgeSlots_j22 : ((Rows.judgeSlotsRow.plainKeys == Try.prog.plainKeys)) = true := by rw [seat_keys]; rfl
theorem judgeSlots_j23 : (Rows.judgeSlotsRow.shortTexts.isNone) = true := by kernel_rfl
theorem judgeSlots_j26 : ((Rows.judgeSlotsRow.lifted == Try.prog.liftsFinal)) = true := by rw [seat_lifts]; rfl
theorem judgeSlots_j27 : ((Try.prog.make == some Rows.judgeSlotsRow.make)) = true := by kernel_rfl
theorem judgeSlots_j28 : ((Rows.judgeSlotsRow.kinds == (if Rows.judgeSlotsRow.domain.isEmpty then [] else Try.f18.params.toList.map fun t => match Try.prog.underlying t with | some (.int k) => some k | _ => none))) = true := by kernel_rfl
theorem judgeSlots_j29 : ((Rows.judgeSlotsRow.pinned == Rows.judgeSlotsRow.pinnedBy)) = true := by kernel_rfl
theorem judgeSlots_j30 : ((Rows.judgeSlotsRow.veiled == (Try.f18.params.toList ++ Rows.judgeSlotsSpec.plain.varTypes Try.prog ++ Try.f18.resultTypes.toList).any (Try.prog.veiledRec ·))) = true := by kernel_rfl
theorem judgeSlots_j31 : (Rows.judgeSlotsRow.veiledFits Try.prog Try.f18.params.toList (Try.f18.params.toList ++ Rows.judgeSlotsSpec.plain.varTypes Try.prog ++ Try.f18.resultTypes.toList)) = true := by kernel_rfl
set_option maxRecDepth 100000 in
theorem judgeSlots_closed : joinedFacts Try.prog 18 Try.f18 Rows.judgeSlotsSpec Rows.judgeSlotsRow = true := by
  unfold joinedFacts
  exact (band (band (band (band (band (band (band (band (band (band (band (band (band (band (band (band (band (band (band (band (band (band (band (band (band (band (band (band (band (band (band judgeSlots_j0 seat_j1) seat_j2) judgeSlots_j3) judgeSlots_j4) judgeSlots_j5) seat_j6) judgeSlots_j7) seat_j8) judgeSlots_j9) judgeSlots_j10) judgeSlots_j11) judgeSlots_j12) judgeSlots_j13) judgeSlots_j14) judgeSlots_j15) judgeSlots_j16) judgeSlots_j17) judgeSlots_j18) judgeSlots_j19) judgeSlots_j20) judgeSlots_j21) judgeSlots_j22) judgeSlots_j23) seat_j24) seat_j25) judgeSlots_j26) judgeSlots_j27) judgeSlots_j28) judgeSlots_j29) judgeSlots_j30) judgeSlots_j31)
theorem judgeSlots_fn : ∀ (H : Type) (ds : List (DataW H)), ds.length = Try.f18.params.size → Rows.judgeSlotsSpec.fn H ds = { results := [.lit (.bool true)], args := ds } := fun H ds h => by
  have h : ds.length = 5 := h
  rcases ds with _ | ⟨d1, _ | ⟨d2, _ | ⟨d3, _ | ⟨d4, _ | ⟨d5, _ | ⟨d6, ds⟩⟩⟩⟩⟩⟩ <;> first | rfl | (exact absurd h (by simp))
set_option maxRecDepth 100000 in
theorem judgeSlots_lifted (os : Os) (started : os.Started) (H : Type) (enc : TypeId × Value → H) :
    ReturnsInHanded {} Try.checked os 18 .any (Rows.judgeSlotsSpec.pre6 enc Try.prog Try.f18 Rows.judgeSlotsRow.domain false) (Rows.judgeSlotsSpec.post enc Try.prog Try.f18 false true false false) :=
  Go.Ev.law_lifted (C := Try.checked) seat_own started (by kernel_rfl) Try.func18
    (ChangeSpec.witness6 (enc := enc) (C := Try.checked) false ⟨#[], #[.agg #[.int .i64 0, .int .i64 0, .int .i64 0, .int .i64 0, .int .i64 0], .agg #[.int .i64 0, .int .i64 0, .int .i64 0, .int .i64 0, .int .i64 0, .int .i64 0, .int .i64 0], .int .i64 0, .slice none 0 0, .agg #[.int .i64 0, .int .i64 0, .int .i64 0, .int .i64 0, .int .i64 0, .int .i64 0, .int .i64 0, .int .i64 0, .int .i64 0, .int .i64 0, .int .i64 0, .slice none 0 0, .int .i64 0]], []⟩ 8 (by kernel_rfl) (by kernel_rfl) (by kernel_rfl) (by kernel_rfl))
    (tys := [(.struct [(.int .i64), (.int .i64), (.int .i64), (.int .i64), (.int .i64)]), (.struct [(.int .i64), (.int .i64), (.int .i64), (.int .i64), (.int .i64), (.int .i64), (.int .i64)]), (.int .i64), (.slice (.struct [(.int .i64), (.int .i64), (.struct [(.int .i64), (.slice (.int .u8))])])), (.struct [(.int .i64), (.int .i64), (.int .i64), (.struct [(.int .i64), (.int .i64), (.struct [(.int .i64), (.int .i64), (.int .i64), (.int .i64), (.int .i64)]), (.int .i64), (.slice (.int .u8))]), (.int .i64)])]) (tb := 4) Go.Ev.M.so18 (fun x h => ⟨rfl, Go.Ev.M.law18 x h⟩) (by kernel_rfl) rfl judgeSlots_fn (by kernel_rfl) (by kernel_rfl) seat_j1 (by kernel_rfl)
theorem judgeSlots_over : Rows.judgeSlotsRow.holds Try.pinned (OpenSpec.ofChange Rows.judgeSlotsSpec) :=
  OpenClaim.holds_of_wide 18 Try.f18 rfl rfl rfl rfl rfl rfl rfl ⟨rfl, rfl, rfl, rfl, rfl⟩ rfl rfl rfl rfl rfl (by kernel_rfl) Try.func18 judgeSlots_closed
    (of_decide_eq_true (by kernel_rfl)) (by unfold Func.isWrapper; first | (rw [if_pos (by decide +kernel)]; kernel_rfl) | (rw [if_neg (by decide +kernel)]; exact ⟨rfl, rfl⟩))
    (fun os started H enc _ => judgeSlots_lifted os started H enc)
theorem judgeSlots_holds : Rows.JudgeSlotsSaid := judgeSlots_over
end Go.Proofs.Ytafbddhnoacldaa
