/-
  PROVED: Rows.FrameAgreeSaid. Conditions: none.
-/
import Derived.Test.YtafbddhnoacldaaRows
import Derived.Test.YtafbddhnoacldaaF
import Derived.Test.YtafbddhnoacldaaLb
namespace Go.Proofs.Ytafbddhnoacldaa
open Go.ChangeShapes Go.WideShapes Go.ChangeAt Go.RowKit
theorem frameAgree_j0 : (Rows.frameAgreeRow.wf (OpenSpec.ofChange Rows.frameAgreeSpec)) = true := by kernel_rfl
theorem frameAgree_j3 : (Try.f14.params.all (Try.prog.readableRec ·)) = true := by kernel_rfl
theorem frameAgree_j4 : (namedTie Try.prog Rows.frameAgreeRow.named Rows.frameAgreeSpec.vars) = true := by kernel_rfl
theorem frameAgree_j5 : ((Rows.frameAgreeRow.stops == [])) = true := by kernel_rfl
theorem frameAgree_j7 : ((Rows.frameAgreeRow.knobs == [])) = true := by kernel_rfl
theorem frameAgree_j9 : ((Rows.frameAgreeRow.inPlace == Try.prog.inPlace 14)) = true := by kernel_rfl
theorem frameAgree_j10 : ((Rows.frameAgreeRow.unfollowed == Try.prog.unfollowed 14)) = true := by kernel_rfl
theorem frameAgree_j11 : ((Rows.frameAgreeRow.recurses == Try.prog.recurses 14)) = true := by kernel_rfl
theorem frameAgree_j12 : ((Rows.frameAgreeRow.named == Try.prog.varsNamed 14)) = true := by kernel_rfl
theorem frameAgree_j13 : ((Rows.frameAgreeRow.maps == (Try.f14.params.toList ++ Rows.frameAgreeSpec.plain.varTypes Try.prog).any (Try.prog.mapsRec ·))) = true := by kernel_rfl
theorem frameAgree_j14 : ((Rows.frameAgreeRow.ifaces == (Try.f14.params.toList ++ Rows.frameAgreeSpec.plain.varTypes Try.prog).any (Try.prog.ifacesRec ·))) = true := by kernel_rfl
theorem frameAgree_j15 : ((Rows.frameAgreeRow.mapsOut == Try.prog.mapsAmong Try.f14.resultTypes.toList)) = true := by kernel_rfl
theorem frameAgree_j16 : ((Rows.frameAgreeRow.loops == (Try.f14.params.toList ++ Rows.frameAgreeSpec.plain.varTypes Try.prog).any (Try.prog.loopsFrom ·))) = true := by kernel_rfl
theorem frameAgree_j17 : ((Rows.frameAgreeRow.wideKeys == (Try.f14.params.toList ++ Rows.frameAgreeSpec.plain.varTypes Try.prog ++ Try.f14.resultTypes.toList).any (Try.prog.wideKeysFrom ·))) = true := by kernel_rfl
theorem frameAgree_j18 : (Rows.frameAgreeSpec.vars.all (Try.prog.varReadable ·)) = true := by kernel_rfl
theorem frameAgree_j19 : (Try.f14.resultTypes.all (fun t => Try.prog.readableRec t && decide (t < Try.prog.types.size))) = true := by kernel_rfl
theorem frameAgree_j20 : ((Rows.frameAgreeRow.ifacesOut == Try.f14.resultTypes.toList.any (Try.prog.ifacesRec ·))) = true := by kernel_rfl
theorem frameAgree_j21 : ((Rows.frameAgreeRow.loopsOut == Try.f14.resultTypes.toList.any (Try.prog.loopsFrom ·))) = true := by kernel_rfl
theorem frameAgree_j22 : ((Rows.frameAgreeRow.plainKeys == Try.prog.plainKeys)) = true := by rw [seat_keys]; rfl
theorem frameAgree_j23 : (Rows.frameAgreeRow.shortTexts.isNone) = true := by kernel_rfl
theorem frameAgree_j26 : ((Rows.frameAgreeRow.lifted == Try.prog.liftsFinal)) = true := by rw [seat_lifts]; rfl
theorem frameAgree_j27 : ((Try.prog.make == some Rows.frameAgreeRow.make)) = true := by kernel_rfl
theorem frameAgree_j28 : ((Rows.frameAgreeRow.kinds == (if Rows.frameAgreeRow.domain.isEmpty then [] else Try.f14.params.toList.map fun t => match Try.prog.underlying t with | some (.int k) => some k | _ => none))) = true := by kernel_rfl
theorem frameAgree_j29 : ((Rows.frameAgreeRow.pinned == Rows.frameAgreeRow.pinnedBy)) = true := by kernel_rfl
theorem frameAgree_j30 : ((Rows.frameAgreeRow.veiled == (Try.f14.params.toList ++ Rows.frameAgreeSpec.plain.varTypes Try.prog ++ Try.f14.resultTypes.toList).any (Try.prog.veiledRec ·))) = true := by kernel_rfl
theorem frameAgree_j31 : (Rows.frameAgreeRow.veiledFits Try.prog Try.f14.params.toList (Try.f14.params.toList ++ Rows.frameAgreeSpec.plain.varTypes Try.prog ++ Try.f14.resultTypes.toList)) = true := by kernel_rfl
set_option maxRecDepth 100000 in
theorem frameAgree_closed : joinedFacts Try.prog 14 Try.f14 Rows.frameAgreeSpec Rows.frameAgreeRow = true := by
  unfold joinedFacts
  exact (band (band (band (band (band (band (band (band (band (band (band (band (band (band (band (band (band (band (band (band (band (band (band (band (band (band (band (band (band (band (band frameAgree_j0 seat_j1) seat_j2) frameAgree_j3) frameAgree_j4) frameAgree_j5) seat_j6) frameAgree_j7) seat_j8) frameAgree_j9) frameAgree_j10) frameAgree_j11) frameAgree_j12) frameAgree_j13) frameAgree_j14) frameAgree_j15) frameAgree_j16) frameAgree_j17) frameAgree_j18) frameAgree_j19) frameAgree_j20) frameAgree_j21) frameAgree_j22) frameAgree_j23) seat_j24) seat_j25) frameAgree_j26) frameAgree_j27) frameAgree_j28) frameAgree_j29) frameAgree_j30) frameAgree_j31)
theorem frameAgree_fn : ∀ (H : Type) (ds : List (DataW H)), ds.length = Try.f14.params.size → Rows.frameAgreeSpec.fn H ds = { results := [.lit (.bool true)], args := ds } := fun H ds h => by
  have h : ds.length = 2 := h
  rcases ds with _ | ⟨d1, _ | ⟨d2, _ | ⟨d3, ds⟩⟩⟩ <;> first | rfl | (exact absurd h (by simp))
set_option maxRecDepth 100000 in
theorem frameAgree_lifted (os : Os) (started : os.Started) (H : Type) (enc : TypeId × Value → H) :
    ReturnsInHanded {} Try.checked os 14 .any (Rows.frameAgreeSpec.pre6 enc Try.prog Try.f14 Rows.frameAgreeRow.domain false) (Rows.frameAgreeSpec.post enc Try.prog Try.f14 false true false false) :=
  Go.Ev.law_lifted (C := Try.checked) seat_own started (by kernel_rfl) Try.func14
    (ChangeSpec.witness6 (enc := enc) (C := Try.checked) false ⟨#[], #[.agg #[.int .i64 0, .int .i64 0, .int .i64 0, .int .i64 0, .int .i64 0, .int .i64 0, .int .i64 0, .int .i64 0, .slice none 0 0], .agg #[.int .i64 0, .int .i64 0, .int .i64 0, .int .i64 0, .int .i64 0]], []⟩ 8 (by kernel_rfl) (by kernel_rfl) (by kernel_rfl) (by kernel_rfl))
    (tys := [(.struct [(.int .i64), (.int .i64), (.struct [(.int .i64), (.int .i64), (.int .i64), (.int .i64), (.int .i64)]), (.int .i64), (.slice (.int .u8))]), (.struct [(.int .i64), (.int .i64), (.int .i64), (.int .i64), (.int .i64)])]) (tb := 4) Go.Ev.M.so14 (fun x h => ⟨rfl, Go.Ev.M.law14 x h⟩) (by kernel_rfl) rfl frameAgree_fn (by kernel_rfl) (by kernel_rfl) seat_j1 (by kernel_rfl)
theorem frameAgree_over : Rows.frameAgreeRow.holds Try.pinned (OpenSpec.ofChange Rows.frameAgreeSpec) :=
  OpenClaim.holds_of_wide 14 Try.f14 rfl rfl rfl rfl rfl rfl rfl ⟨rfl, rfl, rfl, rfl, rfl⟩ rfl rfl rfl rfl rfl (by kernel_rfl) Try.func14 frameAgree_closed
    (of_decide_eq_true (by kernel_rfl)) (by unfold Func.isWrapper; first | (rw [if_pos (by decide +kernel)]; kernel_rfl) | (rw [if_neg (by decide +kernel)]; exact ⟨rfl, rfl⟩))
    (fun os started H enc _ => frameAgree_lifted os started H enc)
theorem frameAgree_holds : Rows.FrameAgreeSaid := frameAgree_over
end Go.Proofs.Ytafbddhnoacldaa
