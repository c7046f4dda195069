/-
  PROVED: Rows.JudgeMaySaid. Conditions: none.
-/
import Derived.Test.YtafbddhnoacldaaRows
import Derived.Test.YtafbddhnoacldaaF
import Derived.Test.YtafbddhnoacldaaJm
namespace Go.Proofs.Ytafbddhnoacldaa
open Go.ChangeShapes Go.WideShapes Go.ChangeAt Go.RowKit
theorem judgeMay_j0 : (Rows.judgeMayRow.wf (OpenSpec.ofChange Rows.judgeMaySpec)) = true := by kernel_rfl
theorem judgeMay_j3 : (Try.f17.params.all (Try.prog.readableRec ·)) = true := by kernel_rfl
theorem judgeMay_j4 : (namedTie Try.prog Rows.judgeMayRow.named Rows.judgeMaySpec.vars) = true := by kernel_rfl
theorem judgeMay_j5 : ((Rows.judgeMayRow.stops == [])) = true := by kernel_rfl
theorem judgeMay_j7 : ((Rows.judgeMayRow.knobs == [])) = true := by kernel_rfl
theorem judgeMay_j9 : ((Rows.judgeMayRow.inPlace == Try.prog.inPlace 17)) = true := by kernel_rfl
theorem judgeMay_j10 : ((Rows.judgeMayRow.unfollowed == Try.prog.unfollowed 17)) = true := by kernel_rfl
theorem judgeMay_j11 : ((Rows.judgeMayRow.recurses == Try.prog.recurses 17)) = true := by kernel_rfl
theorem judgeMay_j12 : ((Rows.judgeMayRow.named == Try.prog.varsNamed 17)) = true := by kernel_rfl
theorem judgeMay_j13 : ((Rows.judgeMayRow.maps == (Try.f17.params.toList ++ Rows.judgeMaySpec.plain.varTypes Try.prog).any (Try.prog.mapsRec ·))) = true := by kernel_rfl
theorem judgeMay_j14 : ((Rows.judgeMayRow.ifaces == (Try.f17.params.toList ++ Rows.judgeMaySpec.plain.varTypes Try.prog).any (Try.prog.ifacesRec ·))) = true := by kernel_rfl
theorem judgeMay_j15 : ((Rows.judgeMayRow.mapsOut == Try.prog.mapsAmong Try.f17.resultTypes.toList)) = true := by kernel_rfl
theorem judgeMay_j16 : ((Rows.judgeMayRow.loops == (Try.f17.params.toList ++ Rows.judgeMaySpec.plain.varTypes Try.prog).any (Try.prog.loopsFrom ·))) = true := by kernel_rfl
theorem judgeMay_j17 : ((Rows.judgeMayRow.wideKeys == (Try.f17.params.toList ++ Rows.judgeMaySpec.plain.varTypes Try.prog ++ Try.f17.resultTypes.toList).any (Try.prog.wideKeysFrom ·))) = true := by kernel_rfl
theorem judgeMay_j18 : (Rows.judgeMaySpec.vars.all (Try.prog.varReadable ·)) = true := by kernel_rfl
theorem judgeMay_j19 : (Try.f17.resultTypes.all (fun t => Try.prog.readableRec t && decide (t < Try.prog.types.size))) = true := by kernel_rfl
theorem judgeMay_j20 : ((Rows.judgeMayRow.ifacesOut == Try.f17.resultTypes.toList.any (Try.prog.ifacesRec ·))) = true := by kernel_rfl
theorem judgeMay_j21 : ((Rows.judgeMayRow.loopsOut == Try.f17.resultTypes.toList.any (Try.prog.loopsFrom ·))) = true := by kernel_rfl
theorem judgeMay_j22 : ((Rows.judgeMayRow.plainKeys == Try.prog.plainKeys)) = true := by rw [seat_keys]; rfl
theorem judgeMay_j23 : (Rows.judgeMayRow.shortTexts.isNone) = true := by kernel_rfl
theorem judgeMay_j26 : ((Rows.judgeMayRow.lifted == Try.prog.liftsFinal)) = true := by rw [seat_lifts]; rfl
theorem judgeMay_j27 : ((Try.prog.make == some Rows.judgeMayRow.make)) = true := by kernel_rfl
theorem judgeMay_j28 : ((Rows.judgeMayRow.kinds == (if Rows.judgeMayRow.domain.isEmpty then [] else Try.f17.params.toList.map fun t => match Try.prog.underlying t with | some (.int k) => some k | _ => none))) = true := by kernel_rfl
theorem judgeMay_j29 : ((Rows.judgeMayRow.pinned == Rows.judgeMayRow.pinnedBy)) = true := by kernel_rfl
theorem judgeMay_j30 : ((Rows.judgeMayRow.veiled == (Try.f17.params.toList ++ Rows.judgeMaySpec.plain.varTypes Try.prog ++ Try.f17.resultTypes.toList).any (Try.prog.veiledRec ·))) = true := by kernel_rfl
theorem judgeMay_j31 : (Rows.judgeMayRow.veiledFits Try.prog Try.f17.params.toList (Try.f17.params.toList ++ Rows.judgeMaySpec.plain.varTypes Try.prog ++ Try.f17.resultTypes.toList)) = true := by kernel_rfl
set_option maxRecDepth 100000 in
theorem judgeMay_closed : joinedFacts Try.prog 17 Try.f17 Rows.judgeMaySpec Rows.judgeMayRow = true := by
  unfold joinedFacts
  exact (band (band (band (band (band (band (band (band (band (band (band (band (band (band (band (band (band (band (band (band (band (band (band (band (band (band (band (band (band (band (band judgeMay_j0 seat_j1) seat_j2) judgeMay_j3) judgeMay_j4) judgeMay_j5) seat_j6) judgeMay_j7) seat_j8) judgeMay_j9) judgeMay_j10) judgeMay_j11) judgeMay_j12) judgeMay_j13) judgeMay_j14) judgeMay_j15) judgeMay_j16) judgeMay_j17) judgeMay_j18) judgeMay_j19) judgeMay_j20) judgeMay_j21) judgeMay_j22) judgeMay_j23) seat_j24) seat_j25) judgeMay_j26) judgeMay_j27) judgeMay_j28) judgeMay_j29) judgeMay_j30) judgeMay_j31)
theorem judgeMay_fn : ∀ (H : Type) (ds : List (DataW H)), ds.length = Try.f17.params.size → Rows.judgeMaySpec.fn H ds = { results := [.lit (.bool true)], args := ds } := fun H ds h => by
  have h : ds.length = 4 := h
  rcases ds with _ | ⟨d1, _ | ⟨d2, _ | ⟨d3, _ | ⟨d4, _ | ⟨d5, ds⟩⟩⟩⟩⟩ <;> first | rfl | (exact absurd h (by simp))
set_option maxRecDepth 100000 in
theorem judgeMay_lifted (os : Os) (started : os.Started) (H : Type) (enc : TypeId × Value → H) :
    ReturnsInHanded {} Try.checked os 17 .any (Rows.judgeMaySpec.pre6 enc Try.prog Try.f17 Rows.judgeMayRow.domain false) (Rows.judgeMaySpec.post enc Try.prog Try.f17 false true false false) :=
  Go.Ev.law_lifted (C := Try.checked) seat_own started (by kernel_rfl) Try.func17
    (ChangeSpec.witness6 (enc := enc) (C := Try.checked) false ⟨#[], #[.agg #[.int .i64 0, .int .i64 0, .int .i64 0, .int .i64 0, .int .i64 0], .agg #[.int .i64 0, .int .i64 0, .int .i64 0, .int .i64 0, .int .i64 0, .int .i64 0, .int .i64 0], .int .i64 0, .slice none 0 0], []⟩ 8 (by kernel_rfl) (by kernel_rfl) (by kernel_rfl) (by kernel_rfl))
    (tys := [(.struct [(.int .i64), (.int .i64), (.int .i64), (.int .i64), (.int .i64)]), (.struct [(.int .i64), (.int .i64), (.int .i64), (.int .i64), (.int .i64), (.int .i64), (.int .i64)]), (.int .i64), (.slice (.struct [(.int .i64), (.int .i64), (.struct [(.int .i64), (.slice (.int .u8))])]))]) (tb := 4) Go.Ev.M.so17 (fun x h => ⟨rfl, Go.Ev.M.law17 x h⟩) (by kernel_rfl) rfl judgeMay_fn (by kernel_rfl) (by kernel_rfl) seat_j1 (by kernel_rfl)
theorem judgeMay_over : Rows.judgeMayRow.holds Try.pinned (OpenSpec.ofChange Rows.judgeMaySpec) :=
  OpenClaim.holds_of_wide 17 Try.f17 rfl rfl rfl rfl rfl rfl rfl ⟨rfl, rfl, rfl, rfl, rfl⟩ rfl rfl rfl rfl rfl (by kernel_rfl) Try.func17 judgeMay_closed
    (of_decide_eq_true (by kernel_rfl)) (by unfold Func.isWrapper; first | (rw [if_pos (by decide +kernel)]; kernel_rfl) | (rw [if_neg (by decide +kernel)]; exact ⟨rfl, rfl⟩))
    (fun os started H enc _ => judgeMay_lifted os started H enc)
theorem judgeMay_holds : Rows.JudgeMaySaid := judgeMay_over
end Go.Proofs.Ytafbddhnoacldaa
