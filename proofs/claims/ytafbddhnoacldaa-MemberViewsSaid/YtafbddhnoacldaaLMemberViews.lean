/-
  PROVED: Rows.MemberViewsSaid. Conditions: none.
-/
import Derived.Test.YtafbddhnoacldaaRows
import Derived.Test.YtafbddhnoacldaaF
import Derived.Test.YtafbddhnoacldaaMvw
namespace Go.Proofs.Ytafbddhnoacldaa
open Go.ChangeShapes Go.WideShapes Go.ChangeAt Go.RowKit
theorem memberViews_j0 : (Rows.memberViewsRow.wf (OpenSpec.ofChange Rows.memberViewsSpec)) = true := by kernel_rfl
theorem memberViews_j3 : (Try.f6.params.all (Try.prog.readableRec ·)) = true := by kernel_rfl
theorem memberViews_j4 : (namedTie Try.prog Rows.memberViewsRow.named Rows.memberViewsSpec.vars) = true := by kernel_rfl
theorem memberViews_j5 : ((Rows.memberViewsRow.stops == [])) = true := by kernel_rfl
theorem memberViews_j7 : ((Rows.memberViewsRow.knobs == [])) = true := by kernel_rfl
theorem memberViews_j9 : ((Rows.memberViewsRow.inPlace == Try.prog.inPlace 6)) = true := by kernel_rfl
theorem memberViews_j10 : ((Rows.memberViewsRow.unfollowed == Try.prog.unfollowed 6)) = true := by kernel_rfl
theorem memberViews_j11 : ((Rows.memberViewsRow.recurses == Try.prog.recurses 6)) = true := by kernel_rfl
theorem memberViews_j12 : ((Rows.memberViewsRow.named == Try.prog.varsNamed 6)) = true := by kernel_rfl
theorem memberViews_j13 : ((Rows.memberViewsRow.maps == (Try.f6.params.toList ++ Rows.memberViewsSpec.plain.varTypes Try.prog).any (Try.prog.mapsRec ·))) = true := by kernel_rfl
theorem memberViews_j14 : ((Rows.memberViewsRow.ifaces == (Try.f6.params.toList ++ Rows.memberViewsSpec.plain.varTypes Try.prog).any (Try.prog.ifacesRec ·))) = true := by kernel_rfl
theorem memberViews_j15 : ((Rows.memberViewsRow.mapsOut == Try.prog.mapsAmong Try.f6.resultTypes.toList)) = true := by kernel_rfl
theorem memberViews_j16 : ((Rows.memberViewsRow.loops == (Try.f6.params.toList ++ Rows.memberViewsSpec.plain.varTypes Try.prog).any (Try.prog.loopsFrom ·))) = true := by kernel_rfl
theorem memberViews_j17 : ((Rows.memberViewsRow.wideKeys == (Try.f6.params.toList ++ Rows.memberViewsSpec.plain.varTypes Try.prog ++ Try.f6.resultTypes.toList).any (Try.prog.wideKeysFrom ·))) = true := by kernel_rfl
theorem memberViews_j18 : (Rows.memberViewsSpec.vars.all (Try.prog.varReadable ·)) = true := by kernel_rfl
theorem memberViews_j19 : (Try.f6.resultTypes.all (fun t => Try.prog.readableRec t && decide (t < Try.prog.types.size))) = true := by kernel_rfl
theorem memberViews_j20 : ((Rows.memberViewsRow.ifacesOut == Try.f6.resultTypes.toList.any (Try.prog.ifacesRec ·))) = true := by kernel_rfl
theorem memberViews_j21 : ((Rows.memberViewsRow.loopsOut == Try.f6.resultTypes.toList.any (Try.prog.loopsFrom ·))) = true := by kernel_rfl
theorem memberViews_j22 : ((Rows.memberViewsRow.plainKeys == Try.prog.plainKeys)) = true := by rw [seat_keys]; rfl
theorem memberViews_j23 : (Rows.memberViewsRow.shortTexts.isNone) = true := by kernel_rfl
theorem memberViews_j26 : ((Rows.memberViewsRow.lifted == Try.prog.liftsFinal)) = true := by rw [seat_lifts]; rfl
theorem memberViews_j27 : ((Try.prog.make == some Rows.memberViewsRow.make)) = true := by kernel_rfl
theorem memberViews_j28 : ((Rows.memberViewsRow.kinds == (if Rows.memberViewsRow.domain.isEmpty then [] else Try.f6.params.toList.map fun t => match Try.prog.underlying t with | some (.int k) => some k | _ => none))) = true := by kernel_rfl
theorem memberViews_j29 : ((Rows.memberViewsRow.pinned == Rows.memberViewsRow.pinnedBy)) = true := by kernel_rfl
theorem memberViews_j30 : ((Rows.memberViewsRow.veiled == (Try.f6.params.toList ++ Rows.memberViewsSpec.plain.varTypes Try.prog ++ Try.f6.resultTypes.toList).any (Try.prog.veiledRec ·))) = true := by kernel_rfl
theorem memberViews_j31 : (Rows.memberViewsRow.veiledFits Try.prog Try.f6.params.toList (Try.f6.params.toList ++ Rows.memberViewsSpec.plain.varTypes Try.prog ++ Try.f6.resultTypes.toList)) = true := by kernel_rfl
set_option maxRecDepth 100000 in
theorem memberViews_closed : joinedFacts Try.prog 6 Try.f6 Rows.memberViewsSpec Rows.memberViewsRow = true := by
  unfold joinedFacts
  exact (band (band (band (band (band (band (band (band (band (band (band (band (band (band (band (band (band (band (band (band (band (band (band (band (band (band (band (band (band (band (band memberViews_j0 seat_j1) seat_j2) memberViews_j3) memberViews_j4) memberViews_j5) seat_j6) memberViews_j7) seat_j8) memberViews_j9) memberViews_j10) memberViews_j11) memberViews_j12) memberViews_j13) memberViews_j14) memberViews_j15) memberViews_j16) memberViews_j17) memberViews_j18) memberViews_j19) memberViews_j20) memberViews_j21) memberViews_j22) memberViews_j23) seat_j24) seat_j25) memberViews_j26) memberViews_j27) memberViews_j28) memberViews_j29) memberViews_j30) memberViews_j31)
theorem memberViews_fn : ∀ (H : Type) (ds : List (DataW H)), ds.length = Try.f6.params.size → Rows.memberViewsSpec.fn H ds = { results := [.lit (.bool true)], args := ds } := fun H ds h => by
  have h : ds.length = 6 := h
  rcases ds with _ | ⟨d1, _ | ⟨d2, _ | ⟨d3, _ | ⟨d4, _ | ⟨d5, _ | ⟨d6, _ | ⟨d7, ds⟩⟩⟩⟩⟩⟩⟩ <;> first | rfl | (exact absurd h (by simp))
set_option maxRecDepth 100000 in
theorem memberViews_lifted (os : Os) (started : os.Started) (H : Type) (enc : TypeId × Value → H) :
    ReturnsInHanded {} Try.checked os 6 .any (Rows.memberViewsSpec.pre6 enc Try.prog Try.f6 Rows.memberViewsRow.domain false) (Rows.memberViewsSpec.post enc Try.prog Try.f6 false true false false) :=
  Go.Ev.law_lifted (C := Try.checked) seat_own started (by kernel_rfl) Try.func6
    (ChangeSpec.witness6 (enc := enc) (C := Try.checked) false ⟨#[], #[.agg #[.int .i64 0, .int .i64 0, .int .i64 0, .int .i64 0, .int .i64 0, .int .i64 0, .int .i64 0], .int .i64 0, .int .i64 0, .int .i64 0, .int .i64 0, .int .u8 0], []⟩ 8 (by kernel_rfl) (by kernel_rfl) (by kernel_rfl) (by kernel_rfl))
    (tys := [(.struct [(.int .i64), (.int .i64), (.int .i64), (.int .i64), (.int .i64), (.int .i64), (.int .i64)]), (.int .i64), (.int .i64), (.int .i64), (.int .i64), (.int .u8)]) (tb := 4) Go.Ev.M.so6 (fun x h => ⟨rfl, Go.Ev.M.law6 x h⟩) (by kernel_rfl) rfl memberViews_fn (by kernel_rfl) (by kernel_rfl) seat_j1 (by kernel_rfl)
theorem memberViews_over : Rows.memberViewsRow.holds Try.pinned (OpenSpec.ofChange Rows.memberViewsSpec) :=
  OpenClaim.holds_of_wide 6 Try.f6 rfl rfl rfl rfl rfl rfl rfl ⟨rfl, rfl, rfl, rfl, rfl⟩ rfl rfl rfl rfl rfl (by kernel_rfl) Try.func6 memberViews_closed
    (of_decide_eq_true (by kernel_rfl)) (by unfold Func.isWrapper; first | (rw [if_pos (by decide +kernel)]; kernel_rfl) | (rw [if_neg (by decide +kernel)]; exact ⟨rfl, rfl⟩))
    (fun os started H enc _ => memberViews_lifted os started H enc)
theorem memberViews_holds : Rows.MemberViewsSaid := memberViews_over
end Go.Proofs.Ytafbddhnoacldaa
