/-
  PROVED: Rows.FrameBackSaid. Conditions: none.
-/
import Derived.Test.YtafbddhnoacldaaRows
import Derived.Test.YtafbddhnoacldaaF
import Derived.Test.YtafbddhnoacldaaLb
namespace Go.Proofs.Ytafbddhnoacldaa
open Go.ChangeShapes Go.WideShapes Go.ChangeAt Go.RowKit
theorem frameBack_j0 : (Rows.frameBackRow.wf (OpenSpec.ofChange Rows.frameBackSpec)) = true := by kernel_rfl
theorem frameBack_j3 : (Try.f15.params.all (Try.prog.readableRec ·)) = true := by kernel_rfl
theorem frameBack_j4 : (namedTie Try.prog Rows.frameBackRow.named Rows.frameBackSpec.vars) = true := by kernel_rfl
theorem frameBack_j5 : ((Rows.frameBackRow.stops == [])) = true := by kernel_rfl
theorem frameBack_j7 : ((Rows.frameBackRow.knobs == [])) = true := by kernel_rfl
theorem frameBack_j9 : ((Rows.frameBackRow.inPlace == Try.prog.inPlace 15)) = true := by kernel_rfl
theorem frameBack_j10 : ((Rows.frameBackRow.unfollowed == Try.prog.unfollowed 15)) = true := by kernel_rfl
theorem frameBack_j11 : ((Rows.frameBackRow.recurses == Try.prog.recurses 15)) = true := by kernel_rfl
theorem frameBack_j12 : ((Rows.frameBackRow.named == Try.prog.varsNamed 15)) = true := by kernel_rfl
theorem frameBack_j13 : ((Rows.frameBackRow.maps == (Try.f15.params.toList ++ Rows.frameBackSpec.plain.varTypes Try.prog).any (Try.prog.mapsRec ·))) = true := by kernel_rfl
theorem frameBack_j14 : ((Rows.frameBackRow.ifaces == (Try.f15.params.toList ++ Rows.frameBackSpec.plain.varTypes Try.prog).any (Try.prog.ifacesRec ·))) = true := by kernel_rfl
theorem frameBack_j15 : ((Rows.frameBackRow.mapsOut == Try.prog.mapsAmong Try.f15.resultTypes.toList)) = true := by kernel_rfl
theorem frameBack_j16 : ((Rows.frameBackRow.loops == (Try.f15.params.toList ++ Rows.frameBackSpec.plain.varTypes Try.prog).any (Try.prog.loopsFrom ·))) = true := by kernel_rfl
theorem frameBack_j17 : ((Rows.frameBackRow.wideKeys == (Try.f15.params.toList ++ Rows.frameBackSpec.plain.varTypes Try.prog ++ Try.f15.resultTypes.toList).any (Try.prog.wideKeysFrom ·))) = true := by kernel_rfl
theorem frameBack_j18 : (Rows.frameBackSpec.vars.all (Try.prog.varReadable ·)) = true := by kernel_rfl
theorem frameBack_j19 : (Try.f15.resultTypes.all (fun t => Try.prog.readableRec t && decide (t < Try.prog.types.size))) = true := by kernel_rfl
theorem frameBack_j20 : ((Rows.frameBackRow.ifacesOut == Try.f15.resultTypes.toList.any (Try.prog.ifacesRec ·))) = true := by kernel_rfl
theorem frameBack_j21 : ((Rows.frameBackRow.loopsOut == Try.f15.resultTypes.toList.any (Try.prog.loopsFrom ·))) = true := by kernel_rfl
theorem frameBack_j22 : ((Rows.frameBackRow.plainKeys == Try.prog.plainKeys)) = true := by rw [seat_keys]; rfl
theorem frameBack_j23 : (Rows.frameBackRow.shortTexts.isNone) = true := by kernel_rfl
theorem frameBack_j26 : ((Rows.frameBackRow.lifted == Try.prog.liftsFinal)) = true := by rw [seat_lifts]; rfl
theorem frameBack_j27 : ((Try.prog.make == some Rows.frameBackRow.make)) = true := by kernel_rfl
theorem frameBack_j28 : ((Rows.frameBackRow.kinds == (if Rows.frameBackRow.domain.isEmpty then [] else Try.f15.params.toList.map fun t => match Try.prog.underlying t with | some (.int k) => some k | _ => none))) = true := by kernel_rfl
theorem frameBack_j29 : ((Rows.frameBackRow.pinned == Rows.frameBackRow.pinnedBy)) = true := by kernel_rfl
theorem frameBack_j30 : ((Rows.frameBackRow.veiled == (Try.f15.params.toList ++ Rows.frameBackSpec.plain.varTypes Try.prog ++ Try.f15.resultTypes.toList).any (Try.prog.veiledRec ·))) = true := by kernel_rfl
theorem frameBack_j31 : (Rows.frameBackRow.veiledFits Try.prog Try.f15.params.toList (Try.f15.params.toList ++ Rows.frameBackSpec.plain.varTypes Try.prog ++ Try.f15.resultTypes.toList)) = true := by kernel_rfl
set_option maxRecDepth 100000 in
theorem frameBack_closed : joinedFacts Try.prog 15 Try.f15 Rows.frameBackSpec Rows.frameBackRow = true := by
  unfold joinedFacts
  exact (band (band (band (band (band (band (band (band (band (band (band (band (band (band (band (band (band (band (band (band (band (band (band (band (band (band (band (band (band (band (band frameBack_j0 seat_j1) seat_j2) frameBack_j3) frameBack_j4) frameBack_j5) seat_j6) frameBack_j7) seat_j8) frameBack_j9) frameBack_j10) frameBack_j11) frameBack_j12) frameBack_j13) frameBack_j14) frameBack_j15) frameBack_j16) frameBack_j17) frameBack_j18) frameBack_j19) frameBack_j20) frameBack_j21) frameBack_j22) frameBack_j23) seat_j24) seat_j25) frameBack_j26) frameBack_j27) frameBack_j28) frameBack_j29) frameBack_j30) frameBack_j31)
theorem frameBack_fn : ∀ (H : Type) (ds : List (DataW H)), ds.length = Try.f15.params.size → Rows.frameBackSpec.fn H ds = { results := [.lit (.bool true)], args := ds } := fun H ds h => by
  have h : ds.length = 3 := h
  rcases ds with _ | ⟨d1, _ | ⟨d2, _ | ⟨d3, _ | ⟨d4, ds⟩⟩⟩⟩ <;> first | rfl | (exact absurd h (by simp))
set_option maxRecDepth 100000 in
theorem frameBack_lifted (os : Os) (started : os.Started) (H : Type) (enc : TypeId × Value → H) :
    ReturnsInHanded {} Try.checked os 15 .any (Rows.frameBackSpec.pre6 enc Try.prog Try.f15 Rows.frameBackRow.domain false) (Rows.frameBackSpec.post enc Try.prog Try.f15 false true false false) :=
  Go.Ev.law_lifted (C := Try.checked) seat_own started (by kernel_rfl) Try.func15
    (ChangeSpec.witness6 (enc := enc) (C := Try.checked) false ⟨#[], #[.agg #[.int .i64 0, .int .i64 0, .int .i64 0, .int .i64 0, .int .i64 0, .int .i64 0, .int .i64 0, .int .i64 0, .slice none 0 0], .agg #[.int .i64 0, .slice none 0 0], .agg #[.int .i64 0, .int .i64 0, .int .i64 0, .int .i64 0, .int .i64 0]], []⟩ 8 (by kernel_rfl) (by kernel_rfl) (by kernel_rfl) (by kernel_rfl))
    (tys := [(.struct [(.int .i64), (.int .i64), (.struct [(.int .i64), (.int .i64), (.int .i64), (.int .i64), (.int .i64)]), (.int .i64), (.slice (.int .u8))]), (.struct [(.int .i64), (.slice (.int .u8))]), (.struct [(.int .i64), (.int .i64), (.int .i64), (.int .i64), (.int .i64)])]) (tb := 4) Go.Ev.M.so15 (fun x h => ⟨rfl, Go.Ev.M.law15 x h⟩) (by kernel_rfl) rfl frameBack_fn (by kernel_rfl) (by kernel_rfl) seat_j1 (by kernel_rfl)
theorem frameBack_over : Rows.frameBackRow.holds Try.pinned (OpenSpec.ofChange Rows.frameBackSpec) :=
  OpenClaim.holds_of_wide 15 Try.f15 rfl rfl rfl rfl rfl rfl rfl ⟨rfl, rfl, rfl, rfl, rfl⟩ rfl rfl rfl rfl rfl (by kernel_rfl) Try.func15 frameBack_closed
    (of_decide_eq_true (by kernel_rfl)) (by unfold Func.isWrapper; first | (rw [if_pos (by decide +kernel)]; kernel_rfl) | (rw [if_neg (by decide +kernel)]; exact ⟨rfl, rfl⟩))
    (fun os started H enc _ => frameBack_lifted os started H enc)
theorem frameBack_holds : Rows.FrameBackSaid := frameBack_over
end Go.Proofs.Ytafbddhnoacldaa
