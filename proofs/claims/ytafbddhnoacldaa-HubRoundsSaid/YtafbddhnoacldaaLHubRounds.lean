/-
  PROVED: Rows.HubRoundsSaid. Conditions: none.
-/
import Derived.Test.YtafbddhnoacldaaRows
import Derived.Test.YtafbddhnoacldaaF
import Derived.Test.YtafbddhnoacldaaLr
namespace Go.Proofs.Ytafbddhnoacldaa
open Go.ChangeShapes Go.WideShapes Go.ChangeAt Go.RowKit
theorem hubRounds_j0:(Rows.hubRoundsRow.wf (OpenSpec.ofChange Rows.hubRoundsSpec))=true:=by kernel_rfl
theorem hubRounds_j3:(Try.f20.params.all (Try.prog.readableRec ·))=true:=by kernel_rfl
theorem hubRounds_j4:(namedTie Try.prog Rows.hubRoundsRow.named Rows.hubRoundsSpec.vars)=true:=by kernel_rfl
theorem hubRounds_j5:((Rows.hubRoundsRow.stops == []))=true:=by kernel_rfl
theorem hubRounds_j7:((Rows.hubRoundsRow.knobs == []))=true:=by kernel_rfl
theorem hubRounds_j9:((Rows.hubRoundsRow.inPlace == Try.prog.inPlace 20))=true:=by kernel_rfl
theorem hubRounds_j10:((Rows.hubRoundsRow.unfollowed == Try.prog.unfollowed 20))=true:=by kernel_rfl
theorem hubRounds_j11:((Rows.hubRoundsRow.recurses == Try.prog.recurses 20))=true:=by kernel_rfl
theorem hubRounds_j12:((Rows.hubRoundsRow.named == Try.prog.varsNamed 20))=true:=by kernel_rfl
theorem hubRounds_j13:((Rows.hubRoundsRow.maps == (Try.f20.params.toList ++ Rows.hubRoundsSpec.plain.varTypes Try.prog).any (Try.prog.mapsRec ·)))=true:=by kernel_rfl
theorem hubRounds_j14:((Rows.hubRoundsRow.ifaces == (Try.f20.params.toList ++ Rows.hubRoundsSpec.plain.varTypes Try.prog).any (Try.prog.ifacesRec ·)))=true:=by kernel_rfl
theorem hubRounds_j15:((Rows.hubRoundsRow.mapsOut == Try.prog.mapsAmong Try.f20.resultTypes.toList))=true:=by kernel_rfl
theorem hubRounds_j16:((Rows.hubRoundsRow.loops == (Try.f20.params.toList ++ Rows.hubRoundsSpec.plain.varTypes Try.prog).any (Try.prog.loopsFrom ·)))=true:=by kernel_rfl
theorem hubRounds_j17:((Rows.hubRoundsRow.wideKeys == (Try.f20.params.toList ++ Rows.hubRoundsSpec.plain.varTypes Try.prog ++ Try.f20.resultTypes.toList).any (Try.prog.wideKeysFrom ·)))=true:=by kernel_rfl
theorem hubRounds_j18:(Rows.hubRoundsSpec.vars.all (Try.prog.varReadable ·))=true:=by kernel_rfl
theorem hubRounds_j19:(Try.f20.resultTypes.all (fun t=>Try.prog.readableRec t && decide (t < Try.prog.types.size)))=true:=by kernel_rfl
theorem hubRounds_j20:((Rows.hubRoundsRow.ifacesOut == Try.f20.resultTypes.toList.any (Try.prog.ifacesRec ·)))=true:=by kernel_rfl
theorem hubRounds_j21:((Rows.hubRoundsRow.loopsOut == Try.f20.resultTypes.toList.any (Try.prog.loopsFrom ·)))=true:=by kernel_rfl
theorem hubRounds_j22:((Rows.hubRoundsRow.plainKeys == Try.prog.plainKeys))=true:=by rw [seat_keys]; rfl
theorem hubRounds_j23:(Rows.hubRoundsRow.shortTexts.isNone)=true:=by kernel_rfl
theorem hubRounds_j26:((Rows.hubRoundsRow.lifted == Try.prog.liftsFinal))=true:=by rw [seat_lifts]; rfl
theorem hubRounds_j27:((Try.prog.make == some Rows.hubRoundsRow.make))=true:=by kernel_rfl
theorem hubRounds_j28:((Rows.hubRoundsRow.kinds == (if Rows.hubRoundsRow.domain.isEmpty then [] else Try.f20.params.toList.map fun t=>match Try.prog.underlying t with | some (.int k)=>some k | _=>none)))=true:=by kernel_rfl
theorem hubRounds_j29:((Rows.hubRoundsRow.pinned == Rows.hubRoundsRow.pinnedBy))=true:=by kernel_rfl
theorem hubRounds_j30:((Rows.hubRoundsRow.veiled == (Try.f20.params.toList ++ Rows.hubRoundsSpec.plain.varTypes Try.prog ++ Try.f20.resultTypes.toList).any (Try.prog.veiledRec ·)))=true:=by kernel_rfl
theorem hubRounds_j31:(Rows.hubRoundsRow.veiledFits Try.prog Try.f20.params.toList (Try.f20.params.toList ++ Rows.hubRoundsSpec.plain.varTypes Try.prog ++ Try.f20.resultTypes.toList))=true:=by kernel_rfl
set_option maxRecDepth 100000 in
theorem hubRounds_closed:joinedFacts Try.prog 20 Try.f20 Rows.hubRoundsSpec Rows.hubRoundsRow=true:=by
 unfold joinedFacts
 exact (band (band (band (band (band (band (band (band (band (band (band (band (band (band (band (band (band (band (band (band (band (band (band (band (band (band (band (band (band (band (band hubRounds_j0 seat_j1) seat_j2) hubRounds_j3) hubRounds_j4) hubRounds_j5) seat_j6) hubRounds_j7) seat_j8) hubRounds_j9) hubRounds_j10) hubRounds_j11) hubRounds_j12) hubRounds_j13) hubRounds_j14) hubRounds_j15) hubRounds_j16) hubRounds_j17) hubRounds_j18) hubRounds_j19) hubRounds_j20) hubRounds_j21) hubRounds_j22) hubRounds_j23) seat_j24) seat_j25) hubRounds_j26) hubRounds_j27) hubRounds_j28) hubRounds_j29) hubRounds_j30) hubRounds_j31)
theorem hubRounds_fn:∀(H:Type) (ds:List (DataW H)),ds.length=Try.f20.params.size→Rows.hubRoundsSpec.fn H ds={results:=[.lit (.bool true)],args:=ds}:=fun H ds h=>by
 have h:ds.length=2:=h
 rcases ds with _ | ⟨d1,_ | ⟨d2,_ | ⟨d3,ds⟩⟩⟩ <;> first | rfl | (exact absurd h (by simp))
set_option maxRecDepth 100000 in
theorem hubRounds_lifted (os:Os) (started:os.Started) (H:Type) (enc:TypeId×Value→H) :
  ReturnsInHanded {} Try.checked os 20 .any (Rows.hubRoundsSpec.pre6 enc Try.prog Try.f20 Rows.hubRoundsRow.domain false) (Rows.hubRoundsSpec.post enc Try.prog Try.f20 false true false false):=
 Go.Ev.law_lifted (C:=Try.checked) seat_own started (by kernel_rfl) Try.func20
  (ChangeSpec.witness6 (enc:=enc) (C:=Try.checked) false ⟨#[],#[.agg #[.int .i64 0,.int .i64 0,.int .i64 0,.int .i64 0,.int .i64 0,.int .i64 0,.slice none 0 0,.slice none 0 0],.agg #[.bool false,.int .i64 0,.int .i64 0]], []⟩ 8 (by kernel_rfl) (by kernel_rfl) (by kernel_rfl) (by kernel_rfl))
  (tys:=[(.struct [(.int .i64),(.int .i64),(.int .i64),(.int .i64),(.int .i64),(.int .i64),(.slice .bool),(.slice (.struct [(.slice (.int .i64)),(.slice .bool),(.slice .bool)]))]),(.struct [.bool,(.int .i64),(.int .i64)])]) (tb:=4) Go.Ev.M.so20 (fun x h=>⟨rfl,Go.Ev.M.law20 x h⟩) (by kernel_rfl) rfl hubRounds_fn (by kernel_rfl) (by kernel_rfl) seat_j1 (by kernel_rfl)
theorem hubRounds_over:Rows.hubRoundsRow.holds Try.pinned (OpenSpec.ofChange Rows.hubRoundsSpec):=
 OpenClaim.holds_of_wide 20 Try.f20 rfl rfl rfl rfl rfl rfl rfl ⟨rfl,rfl,rfl,rfl,rfl⟩ rfl rfl rfl rfl rfl (by kernel_rfl) Try.func20 hubRounds_closed
  (of_decide_eq_true (by kernel_rfl)) (by unfold Func.isWrapper; first | (rw [if_pos (by decide +kernel)]; kernel_rfl) | (rw [if_neg (by decide +kernel)]; exact ⟨rfl,rfl⟩))
  (fun os started H enc _=>hubRounds_lifted os started H enc)
theorem hubRounds_holds:Rows.HubRoundsSaid:=hubRounds_over
end Go.Proofs.Ytafbddhnoacldaa
