/-
  PROVED: Rows.MemberGoesSaid. Conditions: none.
-/
import Derived.Test.YtafbddhnoacldaaRows
import Derived.Test.YtafbddhnoacldaaF
import Derived.Test.YtafbddhnoacldaaMem
namespace Go.Proofs.Ytafbddhnoacldaa
open Go.ChangeShapes Go.WideShapes Go.ChangeAt Go.RowKit
theorem memberGoes_j0 : (Rows.memberGoesRow.wf (OpenSpec.ofChange Rows.memberGoesSpec)) = true := by kernel_rfl
theorem memberGoes_j3 : (Try.f3.params.all (Try.prog.readableRec ·)) = true := by kernel_rfl
theorem memberGoes_j4 : (namedTie Try.prog Rows.memberGoesRow.named Rows.memberGoesSpec.vars) = true := by kernel_rfl
theorem memberGoes_j5 : ((Rows.memberGoesRow.stops == [])) = true := by kernel_rfl
theorem memberGoes_j7 : ((Rows.memberGoesRow.knobs == [])) = true := by kernel_rfl
theorem memberGoes_j9 : ((Rows.memberGoesRow.inPlace == Try.prog.inPlace 3)) = true := by kernel_rfl
theorem memberGoes_j10 : ((Rows.memberGoesRow.unfollowed == Try.prog.unfollowed 3)) = true := by kernel_rfl
theorem memberGoes_j11 : ((Rows.memberGoesRow.recurses == Try.prog.recurses 3)) = true := by kernel_rfl
theorem memberGoes_j12 : ((Rows.memberGoesRow.named == Try.prog.varsNamed 3)) = true := by kernel_rfl
theorem memberGoes_j13 : ((Rows.memberGoesRow.maps == (Try.f3.params.toList ++ Rows.memberGoesSpec.plain.varTypes Try.prog).any (Try.prog.mapsRec ·))) = true := by kernel_rfl
theorem memberGoes_j14 : ((Rows.memberGoesRow.ifaces == (Try.f3.params.toList ++ Rows.memberGoesSpec.plain.varTypes Try.prog).any (Try.prog.ifacesRec ·))) = true := by kernel_rfl
theorem memberGoes_j15 : ((Rows.memberGoesRow.mapsOut == Try.prog.mapsAmong Try.f3.resultTypes.toList)) = true := by kernel_rfl
theorem memberGoes_j16 : ((Rows.memberGoesRow.loops == (Try.f3.params.toList ++ Rows.memberGoesSpec.plain.varTypes Try.prog).any (Try.prog.loopsFrom ·))) = true := by kernel_rfl
theorem memberGoes_j17 : ((Rows.memberGoesRow.wideKeys == (Try.f3.params.toList ++ Rows.memberGoesSpec.plain.varTypes Try.prog ++ Try.f3.resultTypes.toList).any (Try.prog.wideKeysFrom ·))) = true := by kernel_rfl
theorem memberGoes_j18 : (Rows.memberGoesSpec.vars.all (Try.prog.varReadable ·)) = true := by kernel_rfl
theorem memberGoes_j19 : (Try.f3.resultTypes.all (fun t => Try.prog.readableRec t && decide (t < Try.prog.types.size))) = true := by kernel_rfl
theorem memberGoes_j20 : ((Rows.memberGoesRow.ifacesOut == Try.f3.resultTypes.toList.any (Try.prog.ifacesRec ·))) = true := by kernel_rfl
theorem memberGoes_j21 : ((Rows.memberGoesRow.loopsOut == Try.f3.resultTypes.toList.any (Try.prog.loopsFrom ·))) = true := by kernel_rfl
theorem memberGoes_j22 : ((Rows.memberGoesRow.plainKeys == Try.prog.plainKeys)) = true := by rw [seat_keys]; rfl
theorem memberGoes_j23 : (Rows.memberGoesRow.shortTexts.isNone) = true := by kernel_rfl
theorem memberGoes_j26 : ((Rows.memberGoesRow.lifted == Try.prog.liftsFinal)) = true := by rw [seat_lifts]; rfl
theorem memberGoes_j27 : ((Try.prog.make == some Rows.memberGoesRow.make)) = true := by kernel_rfl
theorem memberGoes_j28 : ((Rows.memberGoesRow.kinds == (if Rows.memberGoesRow.domain.isEmpty then [] else Try.f3.params.toList.map fun t => match Try.prog.underlying t with | some (.int k) => some k | _ => none))) = true := by kernel_rfl
theorem memberGoes_j29 : ((Rows.memberGoesRow.pinned == Rows.memberGoesRow.pinnedBy)) = true := by kernel_rfl
theorem memberGoes_j30 : ((Rows.memberGoesRow.veiled == (Try.f3.params.toList ++ Rows.memberGoesSpec.plain.varTypes Try.prog ++ Try.f3.resultTypes.toList).any (Try.prog.veiledRec ·))) = true := by kernel_rfl
theorem memberGoes_j31 : (Rows.memberGoesRow.veiledFits Try.prog Try.f3.params.toList (Try.f3.params.toList ++ Rows.memberGoesSpec.plain.varTypes Try.prog ++ Try.f3.resultTypes.toList)) = true := by kernel_rfl
set_option maxRecDepth 100000 in
theorem memberGoes_closed : joinedFacts Try.prog 3 Try.f3 Rows.memberGoesSpec Rows.memberGoesRow = true := by
  unfold joinedFacts
  exact (band (band (band (band (band (band (band (band (band (band (band (band (band (band (band (band (band (band (band (band (band (band (band (band (band (band (band (band (band (band (band memberGoes_j0 seat_j1) seat_j2) memberGoes_j3) memberGoes_j4) memberGoes_j5) seat_j6) memberGoes_j7) seat_j8) memberGoes_j9) memberGoes_j10) memberGoes_j11) memberGoes_j12) memberGoes_j13) memberGoes_j14) memberGoes_j15) memberGoes_j16) memberGoes_j17) memberGoes_j18) memberGoes_j19) memberGoes_j20) memberGoes_j21) memberGoes_j22) memberGoes_j23) seat_j24) seat_j25) memberGoes_j26) memberGoes_j27) memberGoes_j28) memberGoes_j29) memberGoes_j30) memberGoes_j31)
theorem memberGoes_fn : ∀ (H : Type) (ds : List (DataW H)), ds.length = Try.f3.params.size → Rows.memberGoesSpec.fn H ds = { results := [.lit (.bool true)], args := ds } := fun H ds h => by
  have h : ds.length = 4 := h
  rcases ds with _ | ⟨d1, _ | ⟨d2, _ | ⟨d3, _ | ⟨d4, _ | ⟨d5, ds⟩⟩⟩⟩⟩ <;> first | rfl | (exact absurd h (by simp))
set_option maxRecDepth 100000 in
theorem memberGoes_lifted (os : Os) (started : os.Started) (H : Type) (enc : TypeId × Value → H) :
    ReturnsInHanded {} Try.checked os 3 .any (Rows.memberGoesSpec.pre6 enc Try.prog Try.f3 Rows.memberGoesRow.domain false) (Rows.memberGoesSpec.post enc Try.prog Try.f3 false true false false) :=
  Go.Ev.law_lifted (C := Try.checked) seat_own started (by kernel_rfl) Try.func3
    (ChangeSpec.witness6 (enc := enc) (C := Try.checked) false ⟨#[], #[.int .u8 0, .int .u8 0, .int .u8 0, .int .i64 0], []⟩ 8 (by kernel_rfl) (by kernel_rfl) (by kernel_rfl) (by kernel_rfl))
    (tys := [(.int .u8), (.int .u8), (.int .u8), (.int .i64)]) (tb := 4) Go.Ev.M.so3 (fun x h => ⟨rfl, Go.Ev.M.law3 x h⟩) (by kernel_rfl) rfl memberGoes_fn (by kernel_rfl) (by kernel_rfl) seat_j1 (by kernel_rfl)
theorem memberGoes_over : Rows.memberGoesRow.holds Try.pinned (OpenSpec.ofChange Rows.memberGoesSpec) :=
  OpenClaim.holds_of_wide 3 Try.f3 rfl rfl rfl rfl rfl rfl rfl ⟨rfl, rfl, rfl, rfl, rfl⟩ rfl rfl rfl rfl rfl (by kernel_rfl) Try.func3 memberGoes_closed
    (of_decide_eq_true (by kernel_rfl)) (by unfold Func.isWrapper; first | (rw [if_pos (by decide +kernel)]; kernel_rfl) | (rw [if_neg (by decide +kernel)]; exact ⟨rfl, rfl⟩))
    (fun os started H enc _ => memberGoes_lifted os started H enc)
theorem memberGoes_holds : Rows.MemberGoesSaid := memberGoes_over
end Go.Proofs.Ytafbddhnoacldaa
