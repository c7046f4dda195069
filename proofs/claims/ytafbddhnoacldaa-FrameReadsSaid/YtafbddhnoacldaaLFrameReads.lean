/-
  PROVED: Rows.FrameReadsSaid. Conditions: none.
-/
import Derived.Test.YtafbddhnoacldaaRows
import Derived.Test.YtafbddhnoacldaaF
import Derived.Test.YtafbddhnoacldaaLa
namespace Go.Proofs.Ytafbddhnoacldaa
open Go.ChangeShapes Go.WideShapes Go.ChangeAt Go.RowKit
theorem frameReads_j0 : (Rows.frameReadsRow.wf (OpenSpec.ofChange Rows.frameReadsSpec)) = true := by kernel_rfl
theorem frameReads_j3 : (Try.f13.params.all (Try.prog.readableRec ·)) = true := by kernel_rfl
theorem frameReads_j4 : (namedTie Try.prog Rows.frameReadsRow.named Rows.frameReadsSpec.vars) = true := by kernel_rfl
theorem frameReads_j5 : ((Rows.frameReadsRow.stops == [])) = true := by kernel_rfl
theorem frameReads_j7 : ((Rows.frameReadsRow.knobs == [])) = true := by kernel_rfl
theorem frameReads_j9 : ((Rows.frameReadsRow.inPlace == Try.prog.inPlace 13)) = true := by kernel_rfl
theorem frameReads_j10 : ((Rows.frameReadsRow.unfollowed == Try.prog.unfollowed 13)) = true := by kernel_rfl
theorem frameReads_j11 : ((Rows.frameReadsRow.recurses == Try.prog.recurses 13)) = true := by kernel_rfl
theorem frameReads_j12 : ((Rows.frameReadsRow.named == Try.prog.varsNamed 13)) = true := by kernel_rfl
theorem frameReads_j13 : ((Rows.frameReadsRow.maps == (Try.f13.params.toList ++ Rows.frameReadsSpec.plain.varTypes Try.prog).any (Try.prog.mapsRec ·))) = true := by kernel_rfl
theorem frameReads_j14 : ((Rows.frameReadsRow.ifaces == (Try.f13.params.toList ++ Rows.frameReadsSpec.plain.varTypes Try.prog).any (Try.prog.ifacesRec ·))) = true := by kernel_rfl
theorem frameReads_j15 : ((Rows.frameReadsRow.mapsOut == Try.prog.mapsAmong Try.f13.resultTypes.toList)) = true := by kernel_rfl
theorem frameReads_j16 : ((Rows.frameReadsRow.loops == (Try.f13.params.toList ++ Rows.frameReadsSpec.plain.varTypes Try.prog).any (Try.prog.loopsFrom ·))) = true := by kernel_rfl
theorem frameReads_j17 : ((Rows.frameReadsRow.wideKeys == (Try.f13.params.toList ++ Rows.frameReadsSpec.plain.varTypes Try.prog ++ Try.f13.resultTypes.toList).any (Try.prog.wideKeysFrom ·))) = true := by kernel_rfl
theorem frameReads_j18 : (Rows.frameReadsSpec.vars.all (Try.prog.varReadable ·)) = true := by kernel_rfl
theorem frameReads_j19 : (Try.f13.resultTypes.all (fun t => Try.prog.readableRec t && decide (t < Try.prog.types.size))) = true := by kernel_rfl
theorem frameReads_j20 : ((Rows.frameReadsRow.ifacesOut == Try.f13.resultTypes.toList.any (Try.prog.ifacesRec ·))) = true := by kernel_rfl
theorem frameReads_j21 : ((Rows.frameReadsRow.loopsOut == Try.f13.resultTypes.toList.any (Try.prog.loopsFrom ·))) = true := by kernel_rfl
theorem frameReads_j22 : ((Rows.frameReadsRow.plainKeys == Try.prog.plainKeys)) = true := by rw [seat_keys]; rfl
theorem frameReads_j23 : (Rows.frameReadsRow.shortTexts.isNone) = true := by kernel_rfl
theorem frameReads_j26 : ((Rows.frameReadsRow.lifted == Try.prog.liftsFinal)) = true := by rw [seat_lifts]; rfl
theorem frameReads_j27 : ((Try.prog.make == some Rows.frameReadsRow.make)) = true := by kernel_rfl
theorem frameReads_j28 : ((Rows.frameReadsRow.kinds == (if Rows.frameReadsRow.domain.isEmpty then [] else Try.f13.params.toList.map fun t => match Try.prog.underlying t with | some (.int k) => some k | _ => none))) = true := by kernel_rfl
theorem frameReads_j29 : ((Rows.frameReadsRow.pinned == Rows.frameReadsRow.pinnedBy)) = true := by kernel_rfl
theorem frameReads_j30 : ((Rows.frameReadsRow.veiled == (Try.f13.params.toList ++ Rows.frameReadsSpec.plain.varTypes Try.prog ++ Try.f13.resultTypes.toList).any (Try.prog.veiledRec ·))) = true := by kernel_rfl
theorem frameReads_j31 : (Rows.frameReadsRow.veiledFits Try.prog Try.f13.params.toList (Try.f13.params.toList ++ Rows.frameReadsSpec.plain.varTypes Try.prog ++ Try.f13.resultTypes.toList)) = true := by kernel_rfl
set_option maxRecDepth 100000 in
theorem frameReads_closed : joinedFacts Try.prog 13 Try.f13 Rows.frameReadsSpec Rows.frameReadsRow = true := by
  unfold joinedFacts
  exact (band (band (band (band (band (band (band (band (band (band (band (band (band (band (band (band (band (band (band (band (band (band (band (band (band (band (band (band (band (band (band frameReads_j0 seat_j1) seat_j2) frameReads_j3) frameReads_j4) frameReads_j5) seat_j6) frameReads_j7) seat_j8) frameReads_j9) frameReads_j10) frameReads_j11) frameReads_j12) frameReads_j13) frameReads_j14) frameReads_j15) frameReads_j16) frameReads_j17) frameReads_j18) frameReads_j19) frameReads_j20) frameReads_j21) frameReads_j22) frameReads_j23) seat_j24) seat_j25) frameReads_j26) frameReads_j27) frameReads_j28) frameReads_j29) frameReads_j30) frameReads_j31)
theorem frameReads_fn : ∀ (H : Type) (ds : List (DataW H)), ds.length = Try.f13.params.size → Rows.frameReadsSpec.fn H ds = { results := [.lit (.bool true)], args := ds } := fun H ds h => by
  have h : ds.length = 2 := h
  rcases ds with _ | ⟨d1, _ | ⟨d2, _ | ⟨d3, ds⟩⟩⟩ <;> first | rfl | (exact absurd h (by simp))
set_option maxRecDepth 100000 in
theorem frameReads_lifted (os : Os) (started : os.Started) (H : Type) (enc : TypeId × Value → H) :
    ReturnsInHanded {} Try.checked os 13 .any (Rows.frameReadsSpec.pre6 enc Try.prog Try.f13 Rows.frameReadsRow.domain false) (Rows.frameReadsSpec.post enc Try.prog Try.f13 false true false false) :=
  Go.Ev.law_lifted (C := Try.checked) seat_own started (by kernel_rfl) Try.func13
    (ChangeSpec.witness6 (enc := enc) (C := Try.checked) false ⟨#[], #[.agg #[.int .i64 0, .slice none 0 0], .agg #[.int .i64 0, .int .i64 0, .int .i64 0, .int .i64 0, .int .i64 0]], []⟩ 8 (by kernel_rfl) (by kernel_rfl) (by kernel_rfl) (by kernel_rfl))
    (tys := [(.struct [(.int .i64), (.slice (.int .u8))]), (.struct [(.int .i64), (.int .i64), (.int .i64), (.int .i64), (.int .i64)])]) (tb := 4) Go.Ev.M.so13 (fun x h => ⟨rfl, Go.Ev.M.law13 x h⟩) (by kernel_rfl) rfl frameReads_fn (by kernel_rfl) (by kernel_rfl) seat_j1 (by kernel_rfl)
theorem frameReads_over : Rows.frameReadsRow.holds Try.pinned (OpenSpec.ofChange Rows.frameReadsSpec) :=
  OpenClaim.holds_of_wide 13 Try.f13 rfl rfl rfl rfl rfl rfl rfl ⟨rfl, rfl, rfl, rfl, rfl⟩ rfl rfl rfl rfl rfl (by kernel_rfl) Try.func13 frameReads_closed
    (of_decide_eq_true (by kernel_rfl)) (by unfold Func.isWrapper; first | (rw [if_pos (by decide +kernel)]; kernel_rfl) | (rw [if_neg (by decide +kernel)]; exact ⟨rfl, rfl⟩))
    (fun os started H enc _ => frameReads_lifted os started H enc)
theorem frameReads_holds : Rows.FrameReadsSaid := frameReads_over
end Go.Proofs.Ytafbddhnoacldaa
