/-
  PROVED: Rows.HubSameSaid. Conditions: none.
-/
import Derived.Test.YtafbddhnoacldaaRows
import Derived.Test.YtafbddhnoacldaaF
import Derived.Test.YtafbddhnoacldaaLs
namespace Go.Proofs.Ytafbddhnoacldaa
open Go.ChangeShapes Go.WideShapes Go.ChangeAt Go.RowKit
theorem hubSame_j0:(Rows.hubSameRow.wf (OpenSpec.ofChange Rows.hubSameSpec))=true:=by kernel_rfl
theorem hubSame_j3:(Try.f19.params.all (Try.prog.readableRec ·))=true:=by kernel_rfl
theorem hubSame_j4:(namedTie Try.prog Rows.hubSameRow.named Rows.hubSameSpec.vars)=true:=by kernel_rfl
theorem hubSame_j5:((Rows.hubSameRow.stops == []))=true:=by kernel_rfl
theorem hubSame_j7:((Rows.hubSameRow.knobs == []))=true:=by kernel_rfl
theorem hubSame_j9:((Rows.hubSameRow.inPlace == Try.prog.inPlace 19))=true:=by kernel_rfl
theorem hubSame_j10:((Rows.hubSameRow.unfollowed == Try.prog.unfollowed 19))=true:=by kernel_rfl
theorem hubSame_j11:((Rows.hubSameRow.recurses == Try.prog.recurses 19))=true:=by kernel_rfl
theorem hubSame_j12:((Rows.hubSameRow.named == Try.prog.varsNamed 19))=true:=by kernel_rfl
theorem hubSame_j13:((Rows.hubSameRow.maps == (Try.f19.params.toList ++ Rows.hubSameSpec.plain.varTypes Try.prog).any (Try.prog.mapsRec ·)))=true:=by kernel_rfl
theorem hubSame_j14:((Rows.hubSameRow.ifaces == (Try.f19.params.toList ++ Rows.hubSameSpec.plain.varTypes Try.prog).any (Try.prog.ifacesRec ·)))=true:=by kernel_rfl
theorem hubSame_j15:((Rows.hubSameRow.mapsOut == Try.prog.mapsAmong Try.f19.resultTypes.toList))=true:=by kernel_rfl
theorem hubSame_j16:((Rows.hubSameRow.loops == (Try.f19.params.toList ++ Rows.hubSameSpec.plain.varTypes Try.prog).any (Try.prog.loopsFrom ·)))=true:=by kernel_rfl
theorem hubSame_j17:((Rows.hubSameRow.wideKeys == (Try.f19.params.toList ++ Rows.hubSameSpec.plain.varTypes Try.prog ++ Try.f19.resultTypes.toList).any (Try.prog.wideKeysFrom ·)))=true:=by kernel_rfl
theorem hubSame_j18:(Rows.hubSameSpec.vars.all (Try.prog.varReadable ·))=true:=by kernel_rfl
theorem hubSame_j19:(Try.f19.resultTypes.all (fun t=>Try.prog.readableRec t && decide (t < Try.prog.types.size)))=true:=by kernel_rfl
theorem hubSame_j20:((Rows.hubSameRow.ifacesOut == Try.f19.resultTypes.toList.any (Try.prog.ifacesRec ·)))=true:=by kernel_rfl
theorem hubSame_j21:((Rows.hubSameRow.loopsOut == Try.f19.resultTypes.toList.any (Try.prog.loopsFrom ·)))=true:=by kernel_rfl
theorem hubSame_j22:((Rows.hubSameRow.plainKeys == Try.prog.plainKeys))=true:=by rw [seat_keys]; rfl
theorem hubSame_j23:(Rows.hubSameRow.shortTexts.isNone)=true:=by kernel_rfl
theorem hubSame_j26:((Rows.hubSameRow.lifted == Try.prog.liftsFinal))=true:=by rw [seat_lifts]; rfl
theorem hubSame_j27:((Try.prog.make == some Rows.hubSameRow.make))=true:=by kernel_rfl
theorem hubSame_j28:((Rows.hubSameRow.kinds == (if Rows.hubSameRow.domain.isEmpty then [] else Try.f19.params.toList.map fun t=>match Try.prog.underlying t with | some (.int k)=>some k | _=>none)))=true:=by kernel_rfl
theorem hubSame_j29:((Rows.hubSameRow.pinned == Rows.hubSameRow.pinnedBy))=true:=by kernel_rfl
theorem hubSame_j30:((Rows.hubSameRow.veiled == (Try.f19.params.toList ++ Rows.hubSameSpec.plain.varTypes Try.prog ++ Try.f19.resultTypes.toList).any (Try.prog.veiledRec ·)))=true:=by kernel_rfl
theorem hubSame_j31:(Rows.hubSameRow.veiledFits Try.prog Try.f19.params.toList (Try.f19.params.toList ++ Rows.hubSameSpec.plain.varTypes Try.prog ++ Try.f19.resultTypes.toList))=true:=by kernel_rfl
set_option maxRecDepth 100000 in
theorem hubSame_closed:joinedFacts Try.prog 19 Try.f19 Rows.hubSameSpec Rows.hubSameRow=true:=by
 unfold joinedFacts
 exact (band (band (band (band (band (band (band (band (band (band (band (band (band (band (band (band (band (band (band (band (band (band (band (band (band (band (band (band (band (band (band hubSame_j0 seat_j1) seat_j2) hubSame_j3) hubSame_j4) hubSame_j5) seat_j6) hubSame_j7) seat_j8) hubSame_j9) hubSame_j10) hubSame_j11) hubSame_j12) hubSame_j13) hubSame_j14) hubSame_j15) hubSame_j16) hubSame_j17) hubSame_j18) hubSame_j19) hubSame_j20) hubSame_j21) hubSame_j22) hubSame_j23) seat_j24) seat_j25) hubSame_j26) hubSame_j27) hubSame_j28) hubSame_j29) hubSame_j30) hubSame_j31)
theorem hubSame_fn:∀(H:Type) (ds:List (DataW H)),ds.length=Try.f19.params.size→Rows.hubSameSpec.fn H ds={results:=[.lit (.bool true)],args:=ds}:=fun H ds h=>by
 have h:ds.length=7:=h
 rcases ds with _ | ⟨d1,_ | ⟨d2,_ | ⟨d3,_ | ⟨d4,_ | ⟨d5,_ | ⟨d6,_ | ⟨d7,_ | ⟨d8,ds⟩⟩⟩⟩⟩⟩⟩⟩ <;> first | rfl | (exact absurd h (by simp))
set_option maxRecDepth 100000 in
theorem hubSame_lifted (os:Os) (started:os.Started) (H:Type) (enc:TypeId×Value→H) :
  ReturnsInHanded {} Try.checked os 19 .any (Rows.hubSameSpec.pre6 enc Try.prog Try.f19 Rows.hubSameRow.domain false) (Rows.hubSameSpec.post enc Try.prog Try.f19 false true false false):=
 Go.Ev.law_lifted (C:=Try.checked) seat_own started (by kernel_rfl) Try.func19
  (ChangeSpec.witness6 (enc:=enc) (C:=Try.checked) false ⟨#[],#[.agg #[.int .i64 0,.int .i64 0,.int .i64 0,.int .i64 0,.int .i64 0,.int .i64 0,.slice none 0 0,.slice none 0 0],.agg #[.bool false,.int .i64 0,.int .i64 0],.agg #[.int .i64 0,.slice none 0 0],.int .i64 0,.int .i64 0,.int .u8 0,.int .u8 0], []⟩ 8 (by kernel_rfl) (by kernel_rfl) (by kernel_rfl) (by kernel_rfl))
  (tys:=[(.struct [(.int .i64),(.int .i64),(.int .i64),(.int .i64),(.int .i64),(.int .i64),(.slice .bool),(.slice (.struct [(.slice (.int .i64)),(.slice .bool),(.slice .bool)]))]),(.struct [.bool,(.int .i64),(.int .i64)]),(.struct [(.int .i64),(.slice (.int .u8))]),(.int .i64),(.int .i64),(.int .u8),(.int .u8)]) (tb:=4) Go.Ev.M.so19 (fun x h=>⟨rfl,Go.Ev.M.law19 x h⟩) (by kernel_rfl) rfl hubSame_fn (by kernel_rfl) (by kernel_rfl) seat_j1 (by kernel_rfl)
theorem hubSame_over:Rows.hubSameRow.holds Try.pinned (OpenSpec.ofChange Rows.hubSameSpec):=
 OpenClaim.holds_of_wide 19 Try.f19 rfl rfl rfl rfl rfl rfl rfl ⟨rfl,rfl,rfl,rfl,rfl⟩ rfl rfl rfl rfl rfl (by kernel_rfl) Try.func19 hubSame_closed
  (of_decide_eq_true (by kernel_rfl)) (by unfold Func.isWrapper; first | (rw [if_pos (by decide +kernel)]; kernel_rfl) | (rw [if_neg (by decide +kernel)]; exact ⟨rfl,rfl⟩))
  (fun os started H enc _=>hubSame_lifted os started H enc)
theorem hubSame_holds:Rows.HubSameSaid:=hubSame_over
end Go.Proofs.Ytafbddhnoacldaa
