/-
  PROVED: Rows.MemberMaySaid. Conditions: none.
-/
import Derived.Test.YtafbddhnoacldaaRows
import Derived.Test.YtafbddhnoacldaaF
import Derived.Test.YtafbddhnoacldaaMem
namespace Go.Proofs.Ytafbddhnoacldaa
open Go.ChangeShapes Go.WideShapes Go.ChangeAt Go.RowKit
theorem memberMay_j0 : (Rows.memberMayRow.wf (OpenSpec.ofChange Rows.memberMaySpec)) = true := by kernel_rfl
theorem memberMay_j3 : (Try.f9.params.all (Try.prog.readableRec ·)) = true := by kernel_rfl
theorem memberMay_j4 : (namedTie Try.prog Rows.memberMayRow.named Rows.memberMaySpec.vars) = true := by kernel_rfl
theorem memberMay_j5 : ((Rows.memberMayRow.stops == [])) = true := by kernel_rfl
theorem memberMay_j7 : ((Rows.memberMayRow.knobs == [])) = true := by kernel_rfl
theorem memberMay_j9 : ((Rows.memberMayRow.inPlace == Try.prog.inPlace 9)) = true := by kernel_rfl
theorem memberMay_j10 : ((Rows.memberMayRow.unfollowed == Try.prog.unfollowed 9)) = true := by kernel_rfl
theorem memberMay_j11 : ((Rows.memberMayRow.recurses == Try.prog.recurses 9)) = true := by kernel_rfl
theorem memberMay_j12 : ((Rows.memberMayRow.named == Try.prog.varsNamed 9)) = true := by kernel_rfl
theorem memberMay_j13 : ((Rows.memberMayRow.maps == (Try.f9.params.toList ++ Rows.memberMaySpec.plain.varTypes Try.prog).any (Try.prog.mapsRec ·))) = true := by kernel_rfl
theorem memberMay_j14 : ((Rows.memberMayRow.ifaces == (Try.f9.params.toList ++ Rows.memberMaySpec.plain.varTypes Try.prog).any (Try.prog.ifacesRec ·))) = true := by kernel_rfl
theorem memberMay_j15 : ((Rows.memberMayRow.mapsOut == Try.prog.mapsAmong Try.f9.resultTypes.toList)) = true := by kernel_rfl
theorem memberMay_j16 : ((Rows.memberMayRow.loops == (Try.f9.params.toList ++ Rows.memberMaySpec.plain.varTypes Try.prog).any (Try.prog.loopsFrom ·))) = true := by kernel_rfl
theorem memberMay_j17 : ((Rows.memberMayRow.wideKeys == (Try.f9.params.toList ++ Rows.memberMaySpec.plain.varTypes Try.prog ++ Try.f9.resultTypes.toList).any (Try.prog.wideKeysFrom ·))) = true := by kernel_rfl
theorem memberMay_j18 : (Rows.memberMaySpec.vars.all (Try.prog.varReadable ·)) = true := by kernel_rfl
theorem memberMay_j19 : (Try.f9.resultTypes.all (fun t => Try.prog.readableRec t && decide (t < Try.prog.types.size))) = true := by kernel_rfl
theorem memberMay_j20 : ((Rows.memberMayRow.ifacesOut == Try.f9.resultTypes.toList.any (Try.prog.ifacesRec ·))) = true := by kernel_rfl
theorem memberMay_j21 : ((Rows.memberMayRow.loopsOut == Try.f9.resultTypes.toList.any (Try.prog.loopsFrom ·))) = true := by kernel_rfl
theorem memberMay_j22 : ((Rows.memberMayRow.plainKeys == Try.prog.plainKeys)) = true := by rw [seat_keys]; rfl
theorem memberMay_j23 : (Rows.memberMayRow.shortTexts.isNone) = true := by kernel_rfl
theorem memberMay_j26 : ((Rows.memberMayRow.lifted == Try.prog.liftsFinal)) = true := by rw [seat_lifts]; rfl
theorem memberMay_j27 : ((Try.prog.make == some Rows.memberMayRow.make)) = true := by kernel_rfl
theorem memberMay_j28 : ((Rows.memberMayRow.kinds == (if Rows.memberMayRow.domain.isEmpty then [] else Try.f9.params.toList.map fun t => match Try.prog.underlying t with | some (.int k) => some k | _ => none))) = true := by kernel_rfl
theorem memberMay_j29 : ((Rows.memberMayRow.pinned == Rows.memberMayRow.pinnedBy)) = true := by kernel_rfl
theorem memberMay_j30 : ((Rows.memberMayRow.veiled == (Try.f9.params.toList ++ Rows.memberMaySpec.plain.varTypes Try.prog ++ Try.f9.resultTypes.toList).any (Try.prog.veiledRec ·))) = true := by kernel_rfl
theorem memberMay_j31 : (Rows.memberMayRow.veiledFits Try.prog Try.f9.params.toList (Try.f9.params.toList ++ Rows.memberMaySpec.plain.varTypes Try.prog ++ Try.f9.resultTypes.toList)) = true := by kernel_rfl
set_option maxRecDepth 100000 in
theorem memberMay_closed : joinedFacts Try.prog 9 Try.f9 Rows.memberMaySpec Rows.memberMayRow = true := by
  unfold joinedFacts
  exact (band (band (band (band (band (band (band (band (band (band (band (band (band (band (band (band (band (band (band (band (band (band (band (band (band (band (band (band (band (band (band memberMay_j0 seat_j1) seat_j2) memberMay_j3) memberMay_j4) memberMay_j5) seat_j6) memberMay_j7) seat_j8) memberMay_j9) memberMay_j10) memberMay_j11) memberMay_j12) memberMay_j13) memberMay_j14) memberMay_j15) memberMay_j16) memberMay_j17) memberMay_j18) memberMay_j19) memberMay_j20) memberMay_j21) memberMay_j22) memberMay_j23) seat_j24) seat_j25) memberMay_j26) memberMay_j27) memberMay_j28) memberMay_j29) memberMay_j30) memberMay_j31)
theorem memberMay_fn : ∀ (H : Type) (ds : List (DataW H)), ds.length = Try.f9.params.size → Rows.memberMaySpec.fn H ds = { results := [.lit (.bool true)], args := ds } := fun H ds h => by
  have h : ds.length = 3 := h
  rcases ds with _ | ⟨d1, _ | ⟨d2, _ | ⟨d3, _ | ⟨d4, ds⟩⟩⟩⟩ <;> first | rfl | (exact absurd h (by simp))
set_option maxRecDepth 100000 in
theorem memberMay_lifted (os : Os) (started : os.Started) (H : Type) (enc : TypeId × Value → H) :
    ReturnsInHanded {} Try.checked os 9 .any (Rows.memberMaySpec.pre6 enc Try.prog Try.f9 Rows.memberMayRow.domain false) (Rows.memberMaySpec.post enc Try.prog Try.f9 false true false false) :=
  Go.Ev.law_lifted (C := Try.checked) seat_own started (by kernel_rfl) Try.func9
    (ChangeSpec.witness6 (enc := enc) (C := Try.checked) false ⟨#[], #[.agg #[.int .i64 0, .int .i64 0, .int .i64 0, .int .i64 0, .int .i64 0, .int .i64 0, .int .i64 0], .int .i64 0, .int .i64 0], []⟩ 8 (by kernel_rfl) (by kernel_rfl) (by kernel_rfl) (by kernel_rfl))
    (tys := [(.struct [(.int .i64), (.int .i64), (.int .i64), (.int .i64), (.int .i64), (.int .i64), (.int .i64)]), (.int .i64), (.int .i64)]) (tb := 4) Go.Ev.M.so9 (fun x h => ⟨rfl, Go.Ev.M.law9 x h⟩) (by kernel_rfl) rfl memberMay_fn (by kernel_rfl) (by kernel_rfl) seat_j1 (by kernel_rfl)
theorem memberMay_over : Rows.memberMayRow.holds Try.pinned (OpenSpec.ofChange Rows.memberMaySpec) :=
  OpenClaim.holds_of_wide 9 Try.f9 rfl rfl rfl rfl rfl rfl rfl ⟨rfl, rfl, rfl, rfl, rfl⟩ rfl rfl rfl rfl rfl (by kernel_rfl) Try.func9 memberMay_closed
    (of_decide_eq_true (by kernel_rfl)) (by unfold Func.isWrapper; first | (rw [if_pos (by decide +kernel)]; kernel_rfl) | (rw [if_neg (by decide +kernel)]; exact ⟨rfl, rfl⟩))
    (fun os started H enc _ => memberMay_lifted os started H enc)
theorem memberMay_holds : Rows.MemberMaySaid := memberMay_over
end Go.Proofs.Ytafbddhnoacldaa
