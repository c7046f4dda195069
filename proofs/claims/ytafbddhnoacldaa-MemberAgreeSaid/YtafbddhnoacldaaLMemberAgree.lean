/-
  PROVED: Rows.MemberAgreeSaid. Conditions: none.
-/
import Derived.Test.YtafbddhnoacldaaRows
import Derived.Test.YtafbddhnoacldaaF
import Derived.Test.YtafbddhnoacldaaMem
namespace Go.Proofs.Ytafbddhnoacldaa
open Go.ChangeShapes Go.WideShapes Go.ChangeAt Go.RowKit
theorem memberAgree_j0 : (Rows.memberAgreeRow.wf (OpenSpec.ofChange Rows.memberAgreeSpec)) = true := by kernel_rfl
theorem memberAgree_j3 : (Try.f7.params.all (Try.prog.readableRec ·)) = true := by kernel_rfl
theorem memberAgree_j4 : (namedTie Try.prog Rows.memberAgreeRow.named Rows.memberAgreeSpec.vars) = true := by kernel_rfl
theorem memberAgree_j5 : ((Rows.memberAgreeRow.stops == [])) = true := by kernel_rfl
theorem memberAgree_j7 : ((Rows.memberAgreeRow.knobs == [])) = true := by kernel_rfl
theorem memberAgree_j9 : ((Rows.memberAgreeRow.inPlace == Try.prog.inPlace 7)) = true := by kernel_rfl
theorem memberAgree_j10 : ((Rows.memberAgreeRow.unfollowed == Try.prog.unfollowed 7)) = true := by kernel_rfl
theorem memberAgree_j11 : ((Rows.memberAgreeRow.recurses == Try.prog.recurses 7)) = true := by kernel_rfl
theorem memberAgree_j12 : ((Rows.memberAgreeRow.named == Try.prog.varsNamed 7)) = true := by kernel_rfl
theorem memberAgree_j13 : ((Rows.memberAgreeRow.maps == (Try.f7.params.toList ++ Rows.memberAgreeSpec.plain.varTypes Try.prog).any (Try.prog.mapsRec ·))) = true := by kernel_rfl
theorem memberAgree_j14 : ((Rows.memberAgreeRow.ifaces == (Try.f7.params.toList ++ Rows.memberAgreeSpec.plain.varTypes Try.prog).any (Try.prog.ifacesRec ·))) = true := by kernel_rfl
theorem memberAgree_j15 : ((Rows.memberAgreeRow.mapsOut == Try.prog.mapsAmong Try.f7.resultTypes.toList)) = true := by kernel_rfl
theorem memberAgree_j16 : ((Rows.memberAgreeRow.loops == (Try.f7.params.toList ++ Rows.memberAgreeSpec.plain.varTypes Try.prog).any (Try.prog.loopsFrom ·))) = true := by kernel_rfl
theorem memberAgree_j17 : ((Rows.memberAgreeRow.wideKeys == (Try.f7.params.toList ++ Rows.memberAgreeSpec.plain.varTypes Try.prog ++ Try.f7.resultTypes.toList).any (Try.prog.wideKeysFrom ·))) = true := by kernel_rfl
theorem memberAgree_j18 : (Rows.memberAgreeSpec.vars.all (Try.prog.varReadable ·)) = true := by kernel_rfl
theorem memberAgree_j19 : (Try.f7.resultTypes.all (fun t => Try.prog.readableRec t && decide (t < Try.prog.types.size))) = true := by kernel_rfl
theorem memberAgree_j20 : ((Rows.memberAgreeRow.ifacesOut == Try.f7.resultTypes.toList.any (Try.prog.ifacesRec ·))) = true := by kernel_rfl
theorem memberAgree_j21 : ((Rows.memberAgreeRow.loopsOut == Try.f7.resultTypes.toList.any (Try.prog.loopsFrom ·))) = true := by kernel_rfl
theorem memberAgree_j22 : ((Rows.memberAgreeRow.plainKeys == Try.prog.plainKeys)) = true := by rw [seat_keys]; rfl
theorem memberAgree_j23 : (Rows.memberAgreeRow.shortTexts.isNone) = true := by kernel_rfl
theorem memberAgree_j26 : ((Rows.memberAgreeRow.lifted == Try.prog.liftsFinal)) = true := by rw [seat_lifts]; rfl
theorem memberAgree_j27 : ((Try.prog.make == some Rows.memberAgreeRow.make)) = true := by kernel_rfl
theorem memberAgree_j28 : ((Rows.memberAgreeRow.kinds == (if Rows.memberAgreeRow.domain.isEmpty then [] else Try.f7.params.toList.map fun t => match Try.prog.underlying t with | some (.int k) => some k | _ => none))) = true := by kernel_rfl
theorem memberAgree_j29 : ((Rows.memberAgreeRow.pinned == Rows.memberAgreeRow.pinnedBy)) = true := by kernel_rfl
theorem memberAgree_j30 : ((Rows.memberAgreeRow.veiled == (Try.f7.params.toList ++ Rows.memberAgreeSpec.plain.varTypes Try.prog ++ Try.f7.resultTypes.toList).any (Try.prog.veiledRec ·))) = true := by kernel_rfl
theorem memberAgree_j31 : (Rows.memberAgreeRow.veiledFits Try.prog Try.f7.params.toList (Try.f7.params.toList ++ Rows.memberAgreeSpec.plain.varTypes Try.prog ++ Try.f7.resultTypes.toList)) = true := by kernel_rfl
set_option maxRecDepth 100000 in
theorem memberAgree_closed : joinedFacts Try.prog 7 Try.f7 Rows.memberAgreeSpec Rows.memberAgreeRow = true := by
  unfold joinedFacts
  exact (band (band (band (band (band (band (band (band (band (band (band (band (band (band (band (band (band (band (band (band (band (band (band (band (band (band (band (band (band (band (band memberAgree_j0 seat_j1) seat_j2) memberAgree_j3) memberAgree_j4) memberAgree_j5) seat_j6) memberAgree_j7) seat_j8) memberAgree_j9) memberAgree_j10) memberAgree_j11) memberAgree_j12) memberAgree_j13) memberAgree_j14) memberAgree_j15) memberAgree_j16) memberAgree_j17) memberAgree_j18) memberAgree_j19) memberAgree_j20) memberAgree_j21) memberAgree_j22) memberAgree_j23) seat_j24) seat_j25) memberAgree_j26) memberAgree_j27) memberAgree_j28) memberAgree_j29) memberAgree_j30) memberAgree_j31)
theorem memberAgree_fn : ∀ (H : Type) (ds : List (DataW H)), ds.length = Try.f7.params.size → Rows.memberAgreeSpec.fn H ds = { results := [.lit (.bool true)], args := ds } := fun H ds h => by
  have h : ds.length = 4 := h
  rcases ds with _ | ⟨d1, _ | ⟨d2, _ | ⟨d3, _ | ⟨d4, _ | ⟨d5, ds⟩⟩⟩⟩⟩ <;> first | rfl | (exact absurd h (by simp))
set_option maxRecDepth 100000 in
theorem memberAgree_lifted (os : Os) (started : os.Started) (H : Type) (enc : TypeId × Value → H) :
    ReturnsInHanded {} Try.checked os 7 .any (Rows.memberAgreeSpec.pre6 enc Try.prog Try.f7 Rows.memberAgreeRow.domain false) (Rows.memberAgreeSpec.post enc Try.prog Try.f7 false true false false) :=
  Go.Ev.law_lifted (C := Try.checked) seat_own started (by kernel_rfl) Try.func7
    (ChangeSpec.witness6 (enc := enc) (C := Try.checked) false ⟨#[], #[.agg #[.int .i64 0, .int .i64 0, .int .i64 0, .int .i64 0, .int .i64 0, .int .i64 0, .int .i64 0], .agg #[.int .i64 0, .int .i64 0, .int .i64 0, .int .i64 0, .int .i64 0, .int .i64 0, .int .i64 0], .int .i64 0, .slice none 0 0], []⟩ 8 (by kernel_rfl) (by kernel_rfl) (by kernel_rfl) (by kernel_rfl))
    (tys := [(.struct [(.int .i64), (.int .i64), (.int .i64), (.int .i64), (.int .i64), (.int .i64), (.int .i64)]), (.struct [(.int .i64), (.int .i64), (.int .i64), (.int .i64), (.int .i64), (.int .i64), (.int .i64)]), (.int .i64), (.slice (.int .u8))]) (tb := 4) Go.Ev.M.so7 (fun x h => ⟨rfl, Go.Ev.M.law7 x h⟩) (by kernel_rfl) rfl memberAgree_fn (by kernel_rfl) (by kernel_rfl) seat_j1 (by kernel_rfl)
theorem memberAgree_over : Rows.memberAgreeRow.holds Try.pinned (OpenSpec.ofChange Rows.memberAgreeSpec) :=
  OpenClaim.holds_of_wide 7 Try.f7 rfl rfl rfl rfl rfl rfl rfl ⟨rfl, rfl, rfl, rfl, rfl⟩ rfl rfl rfl rfl rfl (by kernel_rfl) Try.func7 memberAgree_closed
    (of_decide_eq_true (by kernel_rfl)) (by unfold Func.isWrapper; first | (rw [if_pos (by decide +kernel)]; kernel_rfl) | (rw [if_neg (by decide +kernel)]; exact ⟨rfl, rfl⟩))
    (fun os started H enc _ => memberAgree_lifted os started H enc)
theorem memberAgree_holds : Rows.MemberAgreeSaid := memberAgree_over
end Go.Proofs.Ytafbddhnoacldaa
