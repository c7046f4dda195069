/-
  PROVED: Rows.HubTellsSaid. Conditions: none.
-/
import Derived.Test.YtafbddhnoacldaaGreatRows
import Derived.Test.YtafbddhnoacldaaGreatF
import Derived.Test.YtafbddhnoacldaaGreatLh
namespace Go.Proofs.YtafbddhnoacldaaGreat
open Go.ChangeShapes Go.WideShapes Go.ChangeAt Go.RowKit
theorem hubTells_j0:(Rows.hubTellsRow.wf (OpenSpec.ofChange Rows.hubTellsSpec))=true:=by kernel_rfl
theorem hubTells_j3:(Tryz.f3.params.all (Tryz.prog.readableRec ·))=true:=by kernel_rfl
theorem hubTells_j4:(namedTie Tryz.prog Rows.hubTellsRow.named Rows.hubTellsSpec.vars)=true:=by kernel_rfl
theorem hubTells_j5:((Rows.hubTellsRow.stops == []))=true:=by kernel_rfl
theorem hubTells_j7:((Rows.hubTellsRow.knobs == []))=true:=by kernel_rfl
theorem hubTells_j9:((Rows.hubTellsRow.inPlace == Tryz.prog.inPlace 3))=true:=by kernel_rfl
theorem hubTells_j10:((Rows.hubTellsRow.unfollowed == Tryz.prog.unfollowed 3))=true:=by kernel_rfl
theorem hubTells_j11:((Rows.hubTellsRow.recurses == Tryz.prog.recurses 3))=true:=by kernel_rfl
theorem hubTells_j12:((Rows.hubTellsRow.named == Tryz.prog.varsNamed 3))=true:=by kernel_rfl
theorem hubTells_j13:((Rows.hubTellsRow.maps == (Tryz.f3.params.toList ++ Rows.hubTellsSpec.plain.varTypes Tryz.prog).any (Tryz.prog.mapsRec ·)))=true:=by kernel_rfl
theorem hubTells_j14:((Rows.hubTellsRow.ifaces == (Tryz.f3.params.toList ++ Rows.hubTellsSpec.plain.varTypes Tryz.prog).any (Tryz.prog.ifacesRec ·)))=true:=by kernel_rfl
theorem hubTells_j15:((Rows.hubTellsRow.mapsOut == Tryz.prog.mapsAmong Tryz.f3.resultTypes.toList))=true:=by kernel_rfl
theorem hubTells_j16:((Rows.hubTellsRow.loops == (Tryz.f3.params.toList ++ Rows.hubTellsSpec.plain.varTypes Tryz.prog).any (Tryz.prog.loopsFrom ·)))=true:=by kernel_rfl
theorem hubTells_j17:((Rows.hubTellsRow.wideKeys == (Tryz.f3.params.toList ++ Rows.hubTellsSpec.plain.varTypes Tryz.prog ++ Tryz.f3.resultTypes.toList).any (Tryz.prog.wideKeysFrom ·)))=true:=by kernel_rfl
theorem hubTells_j18:(Rows.hubTellsSpec.vars.all (Tryz.prog.varReadable ·))=true:=by kernel_rfl
theorem hubTells_j19:(Tryz.f3.resultTypes.all (fun t=>Tryz.prog.readableRec t && decide (t < Tryz.prog.types.size)))=true:=by kernel_rfl
theorem hubTells_j20:((Rows.hubTellsRow.ifacesOut == Tryz.f3.resultTypes.toList.any (Tryz.prog.ifacesRec ·)))=true:=by kernel_rfl
theorem hubTells_j21:((Rows.hubTellsRow.loopsOut == Tryz.f3.resultTypes.toList.any (Tryz.prog.loopsFrom ·)))=true:=by kernel_rfl
theorem hubTells_j22:((Rows.hubTellsRow.plainKeys == Tryz.prog.plainKeys))=true:=by rw [seat_keys]; rfl
theorem hubTells_j23:(Rows.hubTellsRow.shortTexts.isNone)=true:=by kernel_rfl
theorem hubTells_j26:((Rows.hubTellsRow.lifted == Tryz.prog.liftsFinal))=true:=by rw [seat_lifts]; rfl
theorem hubTells_j27:((Tryz.prog.make == some Rows.hubTellsRow.make))=true:=by kernel_rfl
theorem hubTells_j28:((Rows.hubTellsRow.kinds == (if Rows.hubTellsRow.domain.isEmpty then [] else Tryz.f3.params.toList.map fun t=>match Tryz.prog.underlying t with | some (.int k)=>some k | _=>none)))=true:=by kernel_rfl
theorem hubTells_j29:((Rows.hubTellsRow.pinned == Rows.hubTellsRow.pinnedBy))=true:=by kernel_rfl
theorem hubTells_j30:((Rows.hubTellsRow.veiled == (Tryz.f3.params.toList ++ Rows.hubTellsSpec.plain.varTypes Tryz.prog ++ Tryz.f3.resultTypes.toList).any (Tryz.prog.veiledRec ·)))=true:=by kernel_rfl
theorem hubTells_j31:(Rows.hubTellsRow.veiledFits Tryz.prog Tryz.f3.params.toList (Tryz.f3.params.toList ++ Rows.hubTellsSpec.plain.varTypes Tryz.prog ++ Tryz.f3.resultTypes.toList))=true:=by kernel_rfl
set_option maxRecDepth 100000 in
theorem hubTells_closed:joinedFacts Tryz.prog 3 Tryz.f3 Rows.hubTellsSpec Rows.hubTellsRow=true:=by
 unfold joinedFacts
 exact (band (band (band (band (band (band (band (band (band (band (band (band (band (band (band (band (band (band (band (band (band (band (band (band (band (band (band (band (band (band (band hubTells_j0 seat_j1) seat_j2) hubTells_j3) hubTells_j4) hubTells_j5) seat_j6) hubTells_j7) seat_j8) hubTells_j9) hubTells_j10) hubTells_j11) hubTells_j12) hubTells_j13) hubTells_j14) hubTells_j15) hubTells_j16) hubTells_j17) hubTells_j18) hubTells_j19) hubTells_j20) hubTells_j21) hubTells_j22) hubTells_j23) seat_j24) seat_j25) hubTells_j26) hubTells_j27) hubTells_j28) hubTells_j29) hubTells_j30) hubTells_j31)
theorem hubTells_fn:∀(H:Type) (ds:List (DataW H)),ds.length=Tryz.f3.params.size→Rows.hubTellsSpec.fn H ds={results:=[.lit (.bool true)],args:=ds}:=fun H ds h=>by
 have h:ds.length=4:=h
 rcases ds with _ | ⟨d1,_ | ⟨d2,_ | ⟨d3,_ | ⟨d4,_ | ⟨d5,ds⟩⟩⟩⟩⟩ <;> first | rfl | (exact absurd h (by simp))
set_option maxRecDepth 100000 in
theorem hubTells_lifted (os:Os) (started:os.Started) (H:Type) (enc:TypeId×Value→H) :
  ReturnsInHanded {} Tryz.checked os 3 .any (Rows.hubTellsSpec.pre6 enc Tryz.prog Tryz.f3 Rows.hubTellsRow.domain false) (Rows.hubTellsSpec.post enc Tryz.prog Tryz.f3 false true false false):=
 Go.Ev.law_lifted (C:=Tryz.checked) seat_own started (by kernel_rfl) Tryz.func3
  (ChangeSpec.witness6 (enc:=enc) (C:=Tryz.checked) false ⟨#[],#[.agg #[.int .i64 0,.int .i64 0,.int .i64 0,.int .i64 0,.int .i64 0,.int .i64 0,.slice none 0 0,.slice none 0 0],.agg #[.bool false,.int .i64 0,.int .i64 0],.int .i64 0,.agg #[.int .i64 0,.slice none 0 0]], []⟩ 8 (by kernel_rfl) (by kernel_rfl) (by kernel_rfl) (by kernel_rfl))
  (tys:=[(.struct [(.int .i64),(.int .i64),(.int .i64),(.int .i64),(.int .i64),(.int .i64),(.slice .bool),(.slice (.struct [(.slice (.int .i64)),(.slice .bool),(.slice .bool)]))]),(.struct [.bool,(.int .i64),(.int .i64)]),(.int .i64),(.struct [(.int .i64),(.slice (.int .u8))])]) (tb:=4) Go.Ev.M.so300 (fun x h=>⟨rfl,Go.Ev.M.law300 x h⟩) (by kernel_rfl) rfl hubTells_fn (by kernel_rfl) (by kernel_rfl) seat_j1 (by kernel_rfl)
theorem hubTells_over:Rows.hubTellsRow.holds Tryz.pinned (OpenSpec.ofChange Rows.hubTellsSpec):=
 OpenClaim.holds_of_wide 3 Tryz.f3 rfl rfl rfl rfl rfl rfl rfl ⟨rfl,rfl,rfl,rfl,rfl⟩ rfl rfl rfl rfl rfl (by kernel_rfl) Tryz.func3 hubTells_closed
  (of_decide_eq_true (by kernel_rfl)) (by unfold Func.isWrapper; first | (rw [if_pos (by decide +kernel)]; kernel_rfl) | (rw [if_neg (by decide +kernel)]; exact ⟨rfl,rfl⟩))
  (fun os started H enc _=>hubTells_lifted os started H enc)
theorem hubTells_holds:Rows.HubTellsSaid:=hubTells_over
end Go.Proofs.YtafbddhnoacldaaGreat
