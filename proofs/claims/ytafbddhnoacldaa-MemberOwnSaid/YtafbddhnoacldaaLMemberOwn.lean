/-
  PROVED: Rows.MemberOwnSaid. Conditions: none.
-/
import Derived.Test.YtafbddhnoacldaaRows
import Derived.Test.YtafbddhnoacldaaF
import Derived.Test.YtafbddhnoacldaaMem
namespace Go.Proofs.Ytafbddhnoacldaa
open Go.ChangeShapes Go.WideShapes Go.ChangeAt Go.RowKit
theorem memberOwn_j0 : (Rows.memberOwnRow.wf (OpenSpec.ofChange Rows.memberOwnSpec)) = true := by kernel_rfl
theorem memberOwn_j3 : (Try.f4.params.all (Try.prog.readableRec ·)) = true := by kernel_rfl
theorem memberOwn_j4 : (namedTie Try.prog Rows.memberOwnRow.named Rows.memberOwnSpec.vars) = true := by kernel_rfl
theorem memberOwn_j5 : ((Rows.memberOwnRow.stops == [])) = true := by kernel_rfl
theorem memberOwn_j7 : ((Rows.memberOwnRow.knobs == [])) = true := by kernel_rfl
theorem memberOwn_j9 : ((Rows.memberOwnRow.inPlace == Try.prog.inPlace 4)) = true := by kernel_rfl
theorem memberOwn_j10 : ((Rows.memberOwnRow.unfollowed == Try.prog.unfollowed 4)) = true := by kernel_rfl
theorem memberOwn_j11 : ((Rows.memberOwnRow.recurses == Try.prog.recurses 4)) = true := by kernel_rfl
theorem memberOwn_j12 : ((Rows.memberOwnRow.named == Try.prog.varsNamed 4)) = true := by kernel_rfl
theorem memberOwn_j13 : ((Rows.memberOwnRow.maps == (Try.f4.params.toList ++ Rows.memberOwnSpec.plain.varTypes Try.prog).any (Try.prog.mapsRec ·))) = true := by kernel_rfl
theorem memberOwn_j14 : ((Rows.memberOwnRow.ifaces == (Try.f4.params.toList ++ Rows.memberOwnSpec.plain.varTypes Try.prog).any (Try.prog.ifacesRec ·))) = true := by kernel_rfl
theorem memberOwn_j15 : ((Rows.memberOwnRow.mapsOut == Try.prog.mapsAmong Try.f4.resultTypes.toList)) = true := by kernel_rfl
theorem memberOwn_j16 : ((Rows.memberOwnRow.loops == (Try.f4.params.toList ++ Rows.memberOwnSpec.plain.varTypes Try.prog).any (Try.prog.loopsFrom ·))) = true := by kernel_rfl
theorem memberOwn_j17 : ((Rows.memberOwnRow.wideKeys == (Try.f4.params.toList ++ Rows.memberOwnSpec.plain.varTypes Try.prog ++ Try.f4.resultTypes.toList).any (Try.prog.wideKeysFrom ·))) = true := by kernel_rfl
theorem memberOwn_j18 : (Rows.memberOwnSpec.vars.all (Try.prog.varReadable ·)) = true := by kernel_rfl
theorem memberOwn_j19 : (Try.f4.resultTypes.all (fun t => Try.prog.readableRec t && decide (t < Try.prog.types.size))) = true := by kernel_rfl
theorem memberOwn_j20 : ((Rows.memberOwnRow.ifacesOut == Try.f4.resultTypes.toList.any (Try.prog.ifacesRec ·))) = true := by kernel_rfl
theorem memberOwn_j21 : ((Rows.memberOwnRow.loopsOut == Try.f4.resultTypes.toList.any (Try.prog.loopsFrom ·))) = true := by kernel_rfl
theorem memberOwn_j22 : ((Rows.memberOwnRow.plainKeys == Try.prog.plainKeys)) = true := by rw [seat_keys]; rfl
theorem memberOwn_j23 : (Rows.memberOwnRow.shortTexts.isNone) = true := by kernel_rfl
theorem memberOwn_j26 : ((Rows.memberOwnRow.lifted == Try.prog.liftsFinal)) = true := by rw [seat_lifts]; rfl
theorem memberOwn_j27 : ((Try.prog.make == some Rows.memberOwnRow.make)) = true := by kernel_rfl
theorem memberOwn_j28 : ((Rows.memberOwnRow.kinds == (if Rows.memberOwnRow.domain.isEmpty then [] else Try.f4.params.toList.map fun t => match Try.prog.underlying t with | some (.int k) => some k | _ => none))) = true := by kernel_rfl
theorem memberOwn_j29 : ((Rows.memberOwnRow.pinned == Rows.memberOwnRow.pinnedBy)) = true := by kernel_rfl
theorem memberOwn_j30 : ((Rows.memberOwnRow.veiled == (Try.f4.params.toList ++ Rows.memberOwnSpec.plain.varTypes Try.prog ++ Try.f4.resultTypes.toList).any (Try.prog.veiledRec ·))) = true := by kernel_rfl
theorem memberOwn_j31 : (Rows.memberOwnRow.veiledFits Try.prog Try.f4.params.toList (Try.f4.params.toList ++ Rows.memberOwnSpec.plain.varTypes Try.prog ++ Try.f4.resultTypes.toList)) = true := by kernel_rfl
set_option maxRecDepth 100000 in
theorem memberOwn_closed : joinedFacts Try.prog 4 Try.f4 Rows.memberOwnSpec Rows.memberOwnRow = true := by
  unfold joinedFacts
  exact (band (band (band (band (band (band (band (band (band (band (band (band (band (band (band (band (band (band (band (band (band (band (band (band (band (band (band (band (band (band (band memberOwn_j0 seat_j1) seat_j2) memberOwn_j3) memberOwn_j4) memberOwn_j5) seat_j6) memberOwn_j7) seat_j8) memberOwn_j9) memberOwn_j10) memberOwn_j11) memberOwn_j12) memberOwn_j13) memberOwn_j14) memberOwn_j15) memberOwn_j16) memberOwn_j17) memberOwn_j18) memberOwn_j19) memberOwn_j20) memberOwn_j21) memberOwn_j22) memberOwn_j23) seat_j24) seat_j25) memberOwn_j26) memberOwn_j27) memberOwn_j28) memberOwn_j29) memberOwn_j30) memberOwn_j31)
theorem memberOwn_fn : ∀ (H : Type) (ds : List (DataW H)), ds.length = Try.f4.params.size → Rows.memberOwnSpec.fn H ds = { results := [.lit (.bool true)], args := ds } := fun H ds h => by
  have h : ds.length = 1 := h
  rcases ds with _ | ⟨d1, _ | ⟨d2, ds⟩⟩ <;> first | rfl | (exact absurd h (by simp))
set_option maxRecDepth 100000 in
theorem memberOwn_lifted (os : Os) (started : os.Started) (H : Type) (enc : TypeId × Value → H) :
    ReturnsInHanded {} Try.checked os 4 .any (Rows.memberOwnSpec.pre6 enc Try.prog Try.f4 Rows.memberOwnRow.domain false) (Rows.memberOwnSpec.post enc Try.prog Try.f4 false true false false) :=
  Go.Ev.law_lifted (C := Try.checked) seat_own started (by kernel_rfl) Try.func4
    (ChangeSpec.witness6 (enc := enc) (C := Try.checked) false ⟨#[], #[.agg #[.int .i64 0, .int .i64 0, .int .i64 0, .int .i64 0, .int .i64 0, .int .i64 0, .int .i64 0]], []⟩ 8 (by kernel_rfl) (by kernel_rfl) (by kernel_rfl) (by kernel_rfl))
    (tys := [(.struct [(.int .i64), (.int .i64), (.int .i64), (.int .i64), (.int .i64), (.int .i64), (.int .i64)])]) (tb := 4) Go.Ev.M.so4 (fun x h => ⟨rfl, Go.Ev.M.law4 x h⟩) (by kernel_rfl) rfl memberOwn_fn (by kernel_rfl) (by kernel_rfl) seat_j1 (by kernel_rfl)
theorem memberOwn_over : Rows.memberOwnRow.holds Try.pinned (OpenSpec.ofChange Rows.memberOwnSpec) :=
  OpenClaim.holds_of_wide 4 Try.f4 rfl rfl rfl rfl rfl rfl rfl ⟨rfl, rfl, rfl, rfl, rfl⟩ rfl rfl rfl rfl rfl (by kernel_rfl) Try.func4 memberOwn_closed
    (of_decide_eq_true (by kernel_rfl)) (by unfold Func.isWrapper; first | (rw [if_pos (by decide +kernel)]; kernel_rfl) | (rw [if_neg (by decide +kernel)]; exact ⟨rfl, rfl⟩))
    (fun os started H enc _ => memberOwn_lifted os started H enc)
theorem memberOwn_holds : Rows.MemberOwnSaid := memberOwn_over
end Go.Proofs.Ytafbddhnoacldaa
