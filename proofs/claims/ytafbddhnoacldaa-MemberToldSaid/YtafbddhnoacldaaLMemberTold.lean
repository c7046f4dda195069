/-
  PROVED: Rows.MemberToldSaid. Conditions: none.
-/
import Derived.Test.YtafbddhnoacldaaRows
import Derived.Test.YtafbddhnoacldaaF
import Derived.Test.YtafbddhnoacldaaMto
namespace Go.Proofs.Ytafbddhnoacldaa
open Go.ChangeShapes Go.WideShapes Go.ChangeAt Go.RowKit
theorem memberTold_j0 : (Rows.memberToldRow.wf (OpenSpec.ofChange Rows.memberToldSpec)) = true := by kernel_rfl
theorem memberTold_j3 : (Try.f5.params.all (Try.prog.readableRec ·)) = true := by kernel_rfl
theorem memberTold_j4 : (namedTie Try.prog Rows.memberToldRow.named Rows.memberToldSpec.vars) = true := by kernel_rfl
theorem memberTold_j5 : ((Rows.memberToldRow.stops == [])) = true := by kernel_rfl
theorem memberTold_j7 : ((Rows.memberToldRow.knobs == [])) = true := by kernel_rfl
theorem memberTold_j9 : ((Rows.memberToldRow.inPlace == Try.prog.inPlace 5)) = true := by kernel_rfl
theorem memberTold_j10 : ((Rows.memberToldRow.unfollowed == Try.prog.unfollowed 5)) = true := by kernel_rfl
theorem memberTold_j11 : ((Rows.memberToldRow.recurses == Try.prog.recurses 5)) = true := by kernel_rfl
theorem memberTold_j12 : ((Rows.memberToldRow.named == Try.prog.varsNamed 5)) = true := by kernel_rfl
theorem memberTold_j13 : ((Rows.memberToldRow.maps == (Try.f5.params.toList ++ Rows.memberToldSpec.plain.varTypes Try.prog).any (Try.prog.mapsRec ·))) = true := by kernel_rfl
theorem memberTold_j14 : ((Rows.memberToldRow.ifaces == (Try.f5.params.toList ++ Rows.memberToldSpec.plain.varTypes Try.prog).any (Try.prog.ifacesRec ·))) = true := by kernel_rfl
theorem memberTold_j15 : ((Rows.memberToldRow.mapsOut == Try.prog.mapsAmong Try.f5.resultTypes.toList)) = true := by kernel_rfl
theorem memberTold_j16 : ((Rows.memberToldRow.loops == (Try.f5.params.toList ++ Rows.memberToldSpec.plain.varTypes Try.prog).any (Try.prog.loopsFrom ·))) = true := by kernel_rfl
theorem memberTold_j17 : ((Rows.memberToldRow.wideKeys == (Try.f5.params.toList ++ Rows.memberToldSpec.plain.varTypes Try.prog ++ Try.f5.resultTypes.toList).any (Try.prog.wideKeysFrom ·))) = true := by kernel_rfl
theorem memberTold_j18 : (Rows.memberToldSpec.vars.all (Try.prog.varReadable ·)) = true := by kernel_rfl
theorem memberTold_j19 : (Try.f5.resultTypes.all (fun t => Try.prog.readableRec t && decide (t < Try.prog.types.size))) = true := by kernel_rfl
theorem memberTold_j20 : ((Rows.memberToldRow.ifacesOut == Try.f5.resultTypes.toList.any (Try.prog.ifacesRec ·))) = true := by kernel_rfl
theorem memberTold_j21 : ((Rows.memberToldRow.loopsOut == Try.f5.resultTypes.toList.any (Try.prog.loopsFrom ·))) = true := by kernel_rfl
theorem memberTold_j22 : ((Rows.memberToldRow.plainKeys == Try.prog.plainKeys)) = true := by rw [seat_keys]; rfl
theorem memberTold_j23 : (Rows.memberToldRow.shortTexts.isNone) = true := by kernel_rfl
theorem memberTold_j26 : ((Rows.memberToldRow.lifted == Try.prog.liftsFinal)) = true := by rw [seat_lifts]; rfl
theorem memberTold_j27 : ((Try.prog.make == some Rows.memberToldRow.make)) = true := by kernel_rfl
theorem memberTold_j28 : ((Rows.memberToldRow.kinds == (if Rows.memberToldRow.domain.isEmpty then [] else Try.f5.params.toList.map fun t => match Try.prog.underlying t with | some (.int k) => some k | _ => none))) = true := by kernel_rfl
theorem memberTold_j29 : ((Rows.memberToldRow.pinned == Rows.memberToldRow.pinnedBy)) = true := by kernel_rfl
theorem memberTold_j30 : ((Rows.memberToldRow.veiled == (Try.f5.params.toList ++ Rows.memberToldSpec.plain.varTypes Try.prog ++ Try.f5.resultTypes.toList).any (Try.prog.veiledRec ·))) = true := by kernel_rfl
theorem memberTold_j31 : (Rows.memberToldRow.veiledFits Try.prog Try.f5.params.toList (Try.f5.params.toList ++ Rows.memberToldSpec.plain.varTypes Try.prog ++ Try.f5.resultTypes.toList)) = true := by kernel_rfl
set_option maxRecDepth 100000 in
theorem memberTold_closed : joinedFacts Try.prog 5 Try.f5 Rows.memberToldSpec Rows.memberToldRow = true := by
  unfold joinedFacts
  exact (band (band (band (band (band (band (band (band (band (band (band (band (band (band (band (band (band (band (band (band (band (band (band (band (band (band (band (band (band (band (band memberTold_j0 seat_j1) seat_j2) memberTold_j3) memberTold_j4) memberTold_j5) seat_j6) memberTold_j7) seat_j8) memberTold_j9) memberTold_j10) memberTold_j11) memberTold_j12) memberTold_j13) memberTold_j14) memberTold_j15) memberTold_j16) memberTold_j17) memberTold_j18) memberTold_j19) memberTold_j20) memberTold_j21) memberTold_j22) memberTold_j23) seat_j24) seat_j25) memberTold_j26) memberTold_j27) memberTold_j28) memberTold_j29) memberTold_j30) memberTold_j31)
theorem memberTold_fn : ∀ (H : Type) (ds : List (DataW H)), ds.length = Try.f5.params.size → Rows.memberToldSpec.fn H ds = { results := [.lit (.bool true)], args := ds } := fun H ds h => by
  have h : ds.length = 4 := h
  rcases ds with _ | ⟨d1, _ | ⟨d2, _ | ⟨d3, _ | ⟨d4, _ | ⟨d5, ds⟩⟩⟩⟩⟩ <;> first | rfl | (exact absurd h (by simp))
set_option maxRecDepth 100000 in
theorem memberTold_lifted (os : Os) (started : os.Started) (H : Type) (enc : TypeId × Value → H) :
    ReturnsInHanded {} Try.checked os 5 .any (Rows.memberToldSpec.pre6 enc Try.prog Try.f5 Rows.memberToldRow.domain false) (Rows.memberToldSpec.post enc Try.prog Try.f5 false true false false) :=
  Go.Ev.law_lifted (C := Try.checked) seat_own started (by kernel_rfl) Try.func5
    (ChangeSpec.witness6 (enc := enc) (C := Try.checked) false ⟨#[], #[.int .u8 0, .int .u8 0, .int .i64 0, .bool false], []⟩ 8 (by kernel_rfl) (by kernel_rfl) (by kernel_rfl) (by kernel_rfl))
    (tys := [(.int .u8), (.int .u8), (.int .i64), .bool]) (tb := 4) Go.Ev.M.so5 (fun x h => ⟨rfl, Go.Ev.M.law5 x h⟩) (by kernel_rfl) rfl memberTold_fn (by kernel_rfl) (by kernel_rfl) seat_j1 (by kernel_rfl)
theorem memberTold_over : Rows.memberToldRow.holds Try.pinned (OpenSpec.ofChange Rows.memberToldSpec) :=
  OpenClaim.holds_of_wide 5 Try.f5 rfl rfl rfl rfl rfl rfl rfl ⟨rfl, rfl, rfl, rfl, rfl⟩ rfl rfl rfl rfl rfl (by kernel_rfl) Try.func5 memberTold_closed
    (of_decide_eq_true (by kernel_rfl)) (by unfold Func.isWrapper; first | (rw [if_pos (by decide +kernel)]; kernel_rfl) | (rw [if_neg (by decide +kernel)]; exact ⟨rfl, rfl⟩))
    (fun os started H enc _ => memberTold_lifted os started H enc)
theorem memberTold_holds : Rows.MemberToldSaid := memberTold_over
end Go.Proofs.Ytafbddhnoacldaa
