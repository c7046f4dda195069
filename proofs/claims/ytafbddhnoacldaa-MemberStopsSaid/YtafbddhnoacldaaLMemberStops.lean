/-
  PROVED: Rows.MemberStopsSaid. Conditions: none.
-/
import Derived.Test.YtafbddhnoacldaaRows
import Derived.Test.YtafbddhnoacldaaF
import Derived.Test.YtafbddhnoacldaaMem
namespace Go.Proofs.Ytafbddhnoacldaa
open Go.ChangeShapes Go.WideShapes Go.ChangeAt Go.RowKit
theorem memberStops_j0 : (Rows.memberStopsRow.wf (OpenSpec.ofChange Rows.memberStopsSpec)) = true := by kernel_rfl
theorem memberStops_j3 : (Try.f8.params.all (Try.prog.readableRec ·)) = true := by kernel_rfl
theorem memberStops_j4 : (namedTie Try.prog Rows.memberStopsRow.named Rows.memberStopsSpec.vars) = true := by kernel_rfl
theorem memberStops_j5 : ((Rows.memberStopsRow.stops == [])) = true := by kernel_rfl
theorem memberStops_j7 : ((Rows.memberStopsRow.knobs == [])) = true := by kernel_rfl
theorem memberStops_j9 : ((Rows.memberStopsRow.inPlace == Try.prog.inPlace 8)) = true := by kernel_rfl
theorem memberStops_j10 : ((Rows.memberStopsRow.unfollowed == Try.prog.unfollowed 8)) = true := by kernel_rfl
theorem memberStops_j11 : ((Rows.memberStopsRow.recurses == Try.prog.recurses 8)) = true := by kernel_rfl
theorem memberStops_j12 : ((Rows.memberStopsRow.named == Try.prog.varsNamed 8)) = true := by kernel_rfl
theorem memberStops_j13 : ((Rows.memberStopsRow.maps == (Try.f8.params.toList ++ Rows.memberStopsSpec.plain.varTypes Try.prog).any (Try.prog.mapsRec ·))) = true := by kernel_rfl
theorem memberStops_j14 : ((Rows.memberStopsRow.ifaces == (Try.f8.params.toList ++ Rows.memberStopsSpec.plain.varTypes Try.prog).any (Try.prog.ifacesRec ·))) = true := by kernel_rfl
theorem memberStops_j15 : ((Rows.memberStopsRow.mapsOut == Try.prog.mapsAmong Try.f8.resultTypes.toList)) = true := by kernel_rfl
theorem memberStops_j16 : ((Rows.memberStopsRow.loops == (Try.f8.params.toList ++ Rows.memberStopsSpec.plain.varTypes Try.prog).any (Try.prog.loopsFrom ·))) = true := by kernel_rfl
theorem memberStops_j17 : ((Rows.memberStopsRow.wideKeys == (Try.f8.params.toList ++ Rows.memberStopsSpec.plain.varTypes Try.prog ++ Try.f8.resultTypes.toList).any (Try.prog.wideKeysFrom ·))) = true := by kernel_rfl
theorem memberStops_j18 : (Rows.memberStopsSpec.vars.all (Try.prog.varReadable ·)) = true := by kernel_rfl
theorem memberStops_j19 : (Try.f8.resultTypes.all (fun t => Try.prog.readableRec t && decide (t < Try.prog.types.size))) = true := by kernel_rfl
theorem memberStops_j20 : ((Rows.memberStopsRow.ifacesOut == Try.f8.resultTypes.toList.any (Try.prog.ifacesRec ·))) = true := by kernel_rfl
theorem memberStops_j21 : ((Rows.memberStopsRow.loopsOut == Try.f8.resultTypes.toList.any (Try.prog.loopsFrom ·))) = true := by kernel_rfl
theorem memberStops_j22 : ((Rows.memberStopsRow.plainKeys == Try.prog.plainKeys)) = true := by rw [seat_keys]; rfl
theorem memberStops_j23 : (Rows.memberStopsRow.shortTexts.isNone) = true := by kernel_rfl
theorem memberStops_j26 : ((Rows.memberStopsRow.lifted == Try.prog.liftsFinal)) = true := by rw [seat_lifts]; rfl
theorem memberStops_j27 : ((Try.prog.make == some Rows.memberStopsRow.make)) = true := by kernel_rfl
theorem memberStops_j28 : ((Rows.memberStopsRow.kinds == (if Rows.memberStopsRow.domain.isEmpty then [] else Try.f8.params.toList.map fun t => match Try.prog.underlying t with | some (.int k) => some k | _ => none))) = true := by kernel_rfl
theorem memberStops_j29 : ((Rows.memberStopsRow.pinned == Rows.memberStopsRow.pinnedBy)) = true := by kernel_rfl
theorem memberStops_j30 : ((Rows.memberStopsRow.veiled == (Try.f8.params.toList ++ Rows.memberStopsSpec.plain.varTypes Try.prog ++ Try.f8.resultTypes.toList).any (Try.prog.veiledRec ·))) = true := by kernel_rfl
theorem memberStops_j31 : (Rows.memberStopsRow.veiledFits Try.prog Try.f8.params.toList (Try.f8.params.toList ++ Rows.memberStopsSpec.plain.varTypes Try.prog ++ Try.f8.resultTypes.toList)) = true := by kernel_rfl
set_option maxRecDepth 100000 in
theorem memberStops_closed : joinedFacts Try.prog 8 Try.f8 Rows.memberStopsSpec Rows.memberStopsRow = true := by
  unfold joinedFacts
  exact (band (band (band (band (band (band (band (band (band (band (band (band (band (band (band (band (band (band (band (band (band (band (band (band (band (band (band (band (band (band (band memberStops_j0 seat_j1) seat_j2) memberStops_j3) memberStops_j4) memberStops_j5) seat_j6) memberStops_j7) seat_j8) memberStops_j9) memberStops_j10) memberStops_j11) memberStops_j12) memberStops_j13) memberStops_j14) memberStops_j15) memberStops_j16) memberStops_j17) memberStops_j18) memberStops_j19) memberStops_j20) memberStops_j21) memberStops_j22) memberStops_j23) seat_j24) seat_j25) memberStops_j26) memberStops_j27) memberStops_j28) memberStops_j29) memberStops_j30) memberStops_j31)
theorem memberStops_fn : ∀ (H : Type) (ds : List (DataW H)), ds.length = Try.f8.params.size → Rows.memberStopsSpec.fn H ds = { results := [.lit (.bool true)], args := ds } := fun H ds h => by
  have h : ds.length = 3 := h
  rcases ds with _ | ⟨d1, _ | ⟨d2, _ | ⟨d3, _ | ⟨d4, ds⟩⟩⟩⟩ <;> first | rfl | (exact absurd h (by simp))
set_option maxRecDepth 100000 in
theorem memberStops_lifted (os : Os) (started : os.Started) (H : Type) (enc : TypeId × Value → H) :
    ReturnsInHanded {} Try.checked os 8 .any (Rows.memberStopsSpec.pre6 enc Try.prog Try.f8 Rows.memberStopsRow.domain false) (Rows.memberStopsSpec.post enc Try.prog Try.f8 false true false false) :=
  Go.Ev.law_lifted (C := Try.checked) seat_own started (by kernel_rfl) Try.func8
    (ChangeSpec.witness6 (enc := enc) (C := Try.checked) false ⟨#[], #[.int .u8 0, .int .u8 0, .int .i64 0], []⟩ 8 (by kernel_rfl) (by kernel_rfl) (by kernel_rfl) (by kernel_rfl))
    (tys := [(.int .u8), (.int .u8), (.int .i64)]) (tb := 4) Go.Ev.M.so8 (fun x h => ⟨rfl, Go.Ev.M.law8 x h⟩) (by kernel_rfl) rfl memberStops_fn (by kernel_rfl) (by kernel_rfl) seat_j1 (by kernel_rfl)
theorem memberStops_over : Rows.memberStopsRow.holds Try.pinned (OpenSpec.ofChange Rows.memberStopsSpec) :=
  OpenClaim.holds_of_wide 8 Try.f8 rfl rfl rfl rfl rfl rfl rfl ⟨rfl, rfl, rfl, rfl, rfl⟩ rfl rfl rfl rfl rfl (by kernel_rfl) Try.func8 memberStops_closed
    (of_decide_eq_true (by kernel_rfl)) (by unfold Func.isWrapper; first | (rw [if_pos (by decide +kernel)]; kernel_rfl) | (rw [if_neg (by decide +kernel)]; exact ⟨rfl, rfl⟩))
    (fun os started H enc _ => memberStops_lifted os started H enc)
theorem memberStops_holds : Rows.MemberStopsSaid := memberStops_over
end Go.Proofs.Ytafbddhnoacldaa
