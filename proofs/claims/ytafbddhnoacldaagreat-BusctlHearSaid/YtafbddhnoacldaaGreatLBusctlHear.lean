/-
  PROVED: Rows.BusctlHearSaid. Conditions: none.
-/
import Derived.Test.YtafbddhnoacldaaGreatRows
import Derived.Test.YtafbddhnoacldaaGreatF
import Derived.Test.YtafbddhnoacldaaGreatLi
namespace Go.Proofs.YtafbddhnoacldaaGreat
open Go.ChangeShapes Go.WideShapes Go.ChangeAt Go.RowKit
theorem busctlHear_j0:(Rows.busctlHearRow.wf (OpenSpec.ofChange Rows.busctlHearSpec))=true:=by kernel_rfl
theorem busctlHear_j3:(Tryz.f4.params.all (Tryz.prog.readableRec ·))=true:=by kernel_rfl
theorem busctlHear_j4:(namedTie Tryz.prog Rows.busctlHearRow.named Rows.busctlHearSpec.vars)=true:=by kernel_rfl
theorem busctlHear_j5:((Rows.busctlHearRow.stops == []))=true:=by kernel_rfl
theorem busctlHear_j7:((Rows.busctlHearRow.knobs == []))=true:=by kernel_rfl
theorem busctlHear_j9:((Rows.busctlHearRow.inPlace == Tryz.prog.inPlace 4))=true:=by kernel_rfl
theorem busctlHear_j10:((Rows.busctlHearRow.unfollowed == Tryz.prog.unfollowed 4))=true:=by kernel_rfl
theorem busctlHear_j11:((Rows.busctlHearRow.recurses == Tryz.prog.recurses 4))=true:=by kernel_rfl
theorem busctlHear_j12:((Rows.busctlHearRow.named == Tryz.prog.varsNamed 4))=true:=by kernel_rfl
theorem busctlHear_j13:((Rows.busctlHearRow.maps == (Tryz.f4.params.toList ++ Rows.busctlHearSpec.plain.varTypes Tryz.prog).any (Tryz.prog.mapsRec ·)))=true:=by kernel_rfl
theorem busctlHear_j14:((Rows.busctlHearRow.ifaces == (Tryz.f4.params.toList ++ Rows.busctlHearSpec.plain.varTypes Tryz.prog).any (Tryz.prog.ifacesRec ·)))=true:=by kernel_rfl
theorem busctlHear_j15:((Rows.busctlHearRow.mapsOut == Tryz.prog.mapsAmong Tryz.f4.resultTypes.toList))=true:=by kernel_rfl
theorem busctlHear_j16:((Rows.busctlHearRow.loops == (Tryz.f4.params.toList ++ Rows.busctlHearSpec.plain.varTypes Tryz.prog).any (Tryz.prog.loopsFrom ·)))=true:=by kernel_rfl
theorem busctlHear_j17:((Rows.busctlHearRow.wideKeys == (Tryz.f4.params.toList ++ Rows.busctlHearSpec.plain.varTypes Tryz.prog ++ Tryz.f4.resultTypes.toList).any (Tryz.prog.wideKeysFrom ·)))=true:=by kernel_rfl
theorem busctlHear_j18:(Rows.busctlHearSpec.vars.all (Tryz.prog.varReadable ·))=true:=by kernel_rfl
theorem busctlHear_j19:(Tryz.f4.resultTypes.all (fun t=>Tryz.prog.readableRec t && decide (t < Tryz.prog.types.size)))=true:=by kernel_rfl
theorem busctlHear_j20:((Rows.busctlHearRow.ifacesOut == Tryz.f4.resultTypes.toList.any (Tryz.prog.ifacesRec ·)))=true:=by kernel_rfl
theorem busctlHear_j21:((Rows.busctlHearRow.loopsOut == Tryz.f4.resultTypes.toList.any (Tryz.prog.loopsFrom ·)))=true:=by kernel_rfl
theorem busctlHear_j22:((Rows.busctlHearRow.plainKeys == Tryz.prog.plainKeys))=true:=by rw [seat_keys]; rfl
theorem busctlHear_j23:(Rows.busctlHearRow.shortTexts.isNone)=true:=by kernel_rfl
theorem busctlHear_j26:((Rows.busctlHearRow.lifted == Tryz.prog.liftsFinal))=true:=by rw [seat_lifts]; rfl
theorem busctlHear_j27:((Tryz.prog.make == some Rows.busctlHearRow.make))=true:=by kernel_rfl
theorem busctlHear_j28:((Rows.busctlHearRow.kinds == (if Rows.busctlHearRow.domain.isEmpty then [] else Tryz.f4.params.toList.map fun t=>match Tryz.prog.underlying t with | some (.int k)=>some k | _=>none)))=true:=by kernel_rfl
theorem busctlHear_j29:((Rows.busctlHearRow.pinned == Rows.busctlHearRow.pinnedBy))=true:=by kernel_rfl
theorem busctlHear_j30:((Rows.busctlHearRow.veiled == (Tryz.f4.params.toList ++ Rows.busctlHearSpec.plain.varTypes Tryz.prog ++ Tryz.f4.resultTypes.toList).any (Tryz.prog.veiledRec ·)))=true:=by kernel_rfl
theorem busctlHear_j31:(Rows.busctlHearRow.veiledFits Tryz.prog Tryz.f4.params.toList (Tryz.f4.params.toList ++ Rows.busctlHearSpec.plain.varTypes Tryz.prog ++ Tryz.f4.resultTypes.toList))=true:=by kernel_rfl
set_option maxRecDepth 100000 in
theorem busctlHear_closed:joinedFacts Tryz.prog 4 Tryz.f4 Rows.busctlHearSpec Rows.busctlHearRow=true:=by
 unfold joinedFacts
 exact (band (band (band (band (band (band (band (band (band (band (band (band (band (band (band (band (band (band (band (band (band (band (band (band (band (band (band (band (band (band (band busctlHear_j0 seat_j1) seat_j2) busctlHear_j3) busctlHear_j4) busctlHear_j5) seat_j6) busctlHear_j7) seat_j8) busctlHear_j9) busctlHear_j10) busctlHear_j11) busctlHear_j12) busctlHear_j13) busctlHear_j14) busctlHear_j15) busctlHear_j16) busctlHear_j17) busctlHear_j18) busctlHear_j19) busctlHear_j20) busctlHear_j21) busctlHear_j22) busctlHear_j23) seat_j24) seat_j25) busctlHear_j26) busctlHear_j27) busctlHear_j28) busctlHear_j29) busctlHear_j30) busctlHear_j31)
theorem busctlHear_fn:∀(H:Type) (ds:List (DataW H)),ds.length=Tryz.f4.params.size→Rows.busctlHearSpec.fn H ds={results:=[.lit (.bool true)],args:=ds}:=fun H ds h=>by
 have h:ds.length=3:=h
 rcases ds with _ | ⟨d1,_ | ⟨d2,_ | ⟨d3,_ | ⟨d4,ds⟩⟩⟩⟩ <;> first | rfl | (exact absurd h (by simp))
set_option maxRecDepth 100000 in
theorem busctlHear_lifted (os:Os) (started:os.Started) (H:Type) (enc:TypeId×Value→H) :
  ReturnsInHanded {} Tryz.checked os 4 .any (Rows.busctlHearSpec.pre6 enc Tryz.prog Tryz.f4 Rows.busctlHearRow.domain false) (Rows.busctlHearSpec.post enc Tryz.prog Tryz.f4 false true false false):=
 Go.Ev.law_lifted (C:=Tryz.checked) seat_own started (by kernel_rfl) Tryz.func4
  (ChangeSpec.witness6 (enc:=enc) (C:=Tryz.checked) false ⟨#[],#[.agg #[.int .i64 0,.int .i64 0,.int .i64 0,.int .i64 0,.int .i64 0,.int .i64 0,.slice none 0 0,.slice none 0 0],.agg #[.int .i64 0,.int .i64 0,.int .i64 0,.int .i64 0,.int .i64 0,.int .i64 0,.int .i64 0,.int .i64 0,.int .i64 0,.int .i64 0,.int .i64 0,.int .i64 0,.int .i64 0,.int .i64 0,.int .i64 0,.bool false,.int .i64 0,.int .i64 0,.slice none 0 0,.slice none 0 0,.int .i64 0,.int .i64 0],.slice none 0 0], []⟩ 8 (by kernel_rfl) (by kernel_rfl) (by kernel_rfl) (by kernel_rfl))
  (tys:=[(.struct [(.int .i64),(.int .i64),(.int .i64),(.int .i64),(.int .i64),(.int .i64),(.slice .bool),(.slice (.struct [(.slice (.int .i64)),(.slice .bool),(.slice .bool)]))]),(.struct [(.int .i64),(.int .i64),(.struct [(.int .i64),(.int .i64),(.int .i64),(.int .i64),(.int .i64)]),(.struct [(.int .i64),(.int .i64),(.int .i64),(.int .i64),(.int .i64),(.int .i64),(.int .i64)]),(.int .i64),.bool,(.int .i64),(.struct [(.int .i64),(.slice (.int .u8)),(.slice (.struct [(.slice (.int .u8)),(.int .i64)])),(.int .i64),(.int .i64)])]),(.slice (.struct [(.int .i64),(.int .i64),(.struct [(.int .i64),(.slice (.int .u8))])]))]) (tb:=4) Go.Ev.M.so301 (fun x h=>⟨rfl,Go.Ev.M.law301 x h⟩) (by kernel_rfl) rfl busctlHear_fn (by kernel_rfl) (by kernel_rfl) seat_j1 (by kernel_rfl)
theorem busctlHear_over:Rows.busctlHearRow.holds Tryz.pinned (OpenSpec.ofChange Rows.busctlHearSpec):=
 OpenClaim.holds_of_wide 4 Tryz.f4 rfl rfl rfl rfl rfl rfl rfl ⟨rfl,rfl,rfl,rfl,rfl⟩ rfl rfl rfl rfl rfl (by kernel_rfl) Tryz.func4 busctlHear_closed
  (of_decide_eq_true (by kernel_rfl)) (by unfold Func.isWrapper; first | (rw [if_pos (by decide +kernel)]; kernel_rfl) | (rw [if_neg (by decide +kernel)]; exact ⟨rfl,rfl⟩))
  (fun os started H enc _=>busctlHear_lifted os started H enc)
theorem busctlHear_holds:Rows.BusctlHearSaid:=busctlHear_over
end Go.Proofs.YtafbddhnoacldaaGreat
