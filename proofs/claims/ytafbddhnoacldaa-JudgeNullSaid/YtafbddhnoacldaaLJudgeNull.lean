/-
  PROVED: Rows.JudgeNullSaid. Conditions: none.
-/
import Derived.Test.YtafbddhnoacldaaRows
import Derived.Test.YtafbddhnoacldaaF
import Derived.Test.YtafbddhnoacldaaJa
namespace Go.Proofs.Ytafbddhnoacldaa
open Go.ChangeShapes Go.WideShapes Go.ChangeAt Go.RowKit
theorem judgeNull_j0 : (Rows.judgeNullRow.wf (OpenSpec.ofChange Rows.judgeNullSpec)) = true := by kernel_rfl
theorem judgeNull_j3 : (Try.f11.params.all (Try.prog.readableRec ·)) = true := by kernel_rfl
theorem judgeNull_j4 : (namedTie Try.prog Rows.judgeNullRow.named Rows.judgeNullSpec.vars) = true := by kernel_rfl
theorem judgeNull_j5 : ((Rows.judgeNullRow.stops == [])) = true := by kernel_rfl
theorem judgeNull_j7 : ((Rows.judgeNullRow.knobs == [])) = true := by kernel_rfl
theorem judgeNull_j9 : ((Rows.judgeNullRow.inPlace == Try.prog.inPlace 11)) = true := by kernel_rfl
theorem judgeNull_j10 : ((Rows.judgeNullRow.unfollowed == Try.prog.unfollowed 11)) = true := by kernel_rfl
theorem judgeNull_j11 : ((Rows.judgeNullRow.recurses == Try.prog.recurses 11)) = true := by kernel_rfl
theorem judgeNull_j12 : ((Rows.judgeNullRow.named == Try.prog.varsNamed 11)) = true := by kernel_rfl
theorem judgeNull_j13 : ((Rows.judgeNullRow.maps == (Try.f11.params.toList ++ Rows.judgeNullSpec.plain.varTypes Try.prog).any (Try.prog.mapsRec ·))) = true := by kernel_rfl
theorem judgeNull_j14 : ((Rows.judgeNullRow.ifaces == (Try.f11.params.toList ++ Rows.judgeNullSpec.plain.varTypes Try.prog).any (Try.prog.ifacesRec ·))) = true := by kernel_rfl
theorem judgeNull_j15 : ((Rows.judgeNullRow.mapsOut == Try.prog.mapsAmong Try.f11.resultTypes.toList)) = true := by kernel_rfl
theorem judgeNull_j16 : ((Rows.judgeNullRow.loops == (Try.f11.params.toList ++ Rows.judgeNullSpec.plain.varTypes Try.prog).any (Try.prog.loopsFrom ·))) = true := by kernel_rfl
theorem judgeNull_j17 : ((Rows.judgeNullRow.wideKeys == (Try.f11.params.toList ++ Rows.judgeNullSpec.plain.varTypes Try.prog ++ Try.f11.resultTypes.toList).any (Try.prog.wideKeysFrom ·))) = true := by kernel_rfl
theorem judgeNull_j18 : (Rows.judgeNullSpec.vars.all (Try.prog.varReadable ·)) = true := by kernel_rfl
theorem judgeNull_j19 : (Try.f11.resultTypes.all (fun t => Try.prog.readableRec t && decide (t < Try.prog.types.size))) = true := by kernel_rfl
theorem judgeNull_j20 : ((Rows.judgeNullRow.ifacesOut == Try.f11.resultTypes.toList.any (Try.prog.ifacesRec ·))) = true := by kernel_rfl
theorem judgeNull_j21 : ((Rows.judgeNullRow.loopsOut == Try.f11.resultTypes.toList.any (Try.prog.loopsFrom ·))) = true := by kernel_rfl
theorem judgeNull_j22 : ((Rows.judgeNullRow.plainKeys == Try.prog.plainKeys)) = true := by rw [seat_keys]; rfl
theorem judgeNull_j23 : (Rows.judgeNullRow.shortTexts.isNone) = true := by kernel_rfl
theorem judgeNull_j26 : ((Rows.judgeNullRow.lifted == Try.prog.liftsFinal)) = true := by rw [seat_lifts]; rfl
theorem judgeNull_j27 : ((Try.prog.make == some Rows.judgeNullRow.make)) = true := by kernel_rfl
theorem judgeNull_j28 : ((Rows.judgeNullRow.kinds == (if Rows.judgeNullRow.domain.isEmpty then [] else Try.f11.params.toList.map fun t => match Try.prog.underlying t with | some (.int k) => some k | _ => none))) = true := by kernel_rfl
theorem judgeNull_j29 : ((Rows.judgeNullRow.pinned == Rows.judgeNullRow.pinnedBy)) = true := by kernel_rfl
theorem judgeNull_j30 : ((Rows.judgeNullRow.veiled == (Try.f11.params.toList ++ Rows.judgeNullSpec.plain.varTypes Try.prog ++ Try.f11.resultTypes.toList).any (Try.prog.veiledRec ·))) = true := by kernel_rfl
theorem judgeNull_j31 : (Rows.judgeNullRow.veiledFits Try.prog Try.f11.params.toList (Try.f11.params.toList ++ Rows.judgeNullSpec.plain.varTypes Try.prog ++ Try.f11.resultTypes.toList)) = true := by kernel_rfl
set_option maxRecDepth 100000 in
theorem judgeNull_closed : joinedFacts Try.prog 11 Try.f11 Rows.judgeNullSpec Rows.judgeNullRow = true := by
  unfold joinedFacts
  exact (band (band (band (band (band (band (band (band (band (band (band (band (band (band (band (band (band (band (band (band (band (band (band (band (band (band (band (band (band (band (band judgeNull_j0 seat_j1) seat_j2) judgeNull_j3) judgeNull_j4) judgeNull_j5) seat_j6) judgeNull_j7) seat_j8) judgeNull_j9) judgeNull_j10) judgeNull_j11) judgeNull_j12) judgeNull_j13) judgeNull_j14) judgeNull_j15) judgeNull_j16) judgeNull_j17) judgeNull_j18) judgeNull_j19) judgeNull_j20) judgeNull_j21) judgeNull_j22) judgeNull_j23) seat_j24) seat_j25) judgeNull_j26) judgeNull_j27) judgeNull_j28) judgeNull_j29) judgeNull_j30) judgeNull_j31)
theorem judgeNull_fn : ∀ (H : Type) (ds : List (DataW H)), ds.length = Try.f11.params.size → Rows.judgeNullSpec.fn H ds = { results := [.lit (.bool true)], args := ds } := fun H ds h => by
  have h : ds.length = 4 := h
  rcases ds with _ | ⟨d1, _ | ⟨d2, _ | ⟨d3, _ | ⟨d4, _ | ⟨d5, ds⟩⟩⟩⟩⟩ <;> first | rfl | (exact absurd h (by simp))
set_option maxRecDepth 100000 in
theorem judgeNull_lifted (os : Os) (started : os.Started) (H : Type) (enc : TypeId × Value → H) :
    ReturnsInHanded {} Try.checked os 11 .any (Rows.judgeNullSpec.pre6 enc Try.prog Try.f11 Rows.judgeNullRow.domain false) (Rows.judgeNullSpec.post enc Try.prog Try.f11 false true false false) :=
  Go.Ev.law_lifted (C := Try.checked) seat_own started (by kernel_rfl) Try.func11
    (ChangeSpec.witness6 (enc := enc) (C := Try.checked) false ⟨#[], #[.agg #[.int .i64 0, .int .i64 0, .int .i64 0, .int .i64 0, .int .i64 0], .agg #[.int .i64 0, .int .i64 0, .int .i64 0, .int .i64 0, .int .i64 0, .int .i64 0, .int .i64 0], .int .i64 0, .slice none 0 0], []⟩ 8 (by kernel_rfl) (by kernel_rfl) (by kernel_rfl) (by kernel_rfl))
    (tys := [(.struct [(.int .i64), (.int .i64), (.int .i64), (.int .i64), (.int .i64)]), (.struct [(.int .i64), (.int .i64), (.int .i64), (.int .i64), (.int .i64), (.int .i64), (.int .i64)]), (.int .i64), (.slice (.struct [(.int .i64), (.int .i64), (.struct [(.int .i64), (.slice (.int .u8))])]))]) (tb := 4) Go.Ev.M.so11 (fun x h => ⟨rfl, Go.Ev.M.law11 x h⟩) (by kernel_rfl) rfl judgeNull_fn (by kernel_rfl) (by kernel_rfl) seat_j1 (by kernel_rfl)
theorem judgeNull_over : Rows.judgeNullRow.holds Try.pinned (OpenSpec.ofChange Rows.judgeNullSpec) :=
  OpenClaim.holds_of_wide 11 Try.f11 rfl rfl rfl rfl rfl rfl rfl ⟨rfl, rfl, rfl, rfl, rfl⟩ rfl rfl rfl rfl rfl (by kernel_rfl) Try.func11 judgeNull_closed
    (of_decide_eq_true (by kernel_rfl)) (by unfold Func.isWrapper; first | (rw [if_pos (by decide +kernel)]; kernel_rfl) | (rw [if_neg (by decide +kernel)]; exact ⟨rfl, rfl⟩))
    (fun os started H enc _ => judgeNull_lifted os started H enc)
theorem judgeNull_holds : Rows.JudgeNullSaid := judgeNull_over
end Go.Proofs.Ytafbddhnoacldaa
