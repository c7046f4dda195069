/-
  PROVED: Rows.StarctlHearSaid. Conditions: none.
-/
import Derived.Test.YtafbddhnoacldaaGreatRows
import Derived.Test.YtafbddhnoacldaaGreatF
import Derived.Test.YtafbddhnoacldaaGreatLk
namespace Go.Proofs.YtafbddhnoacldaaGreat
open Go.ChangeShapes Go.WideShapes Go.ChangeAt Go.RowKit
theorem starctlHear_j0:(Rows.starctlHearRow.wf (OpenSpec.ofChange Rows.starctlHearSpec))=true:=by kernel_rfl
theorem starctlHear_j3:(Tryz.f5.params.all (Tryz.prog.readableRec ·))=true:=by kernel_rfl
theorem starctlHear_j4:(namedTie Tryz.prog Rows.starctlHearRow.named Rows.starctlHearSpec.vars)=true:=by kernel_rfl
theorem starctlHear_j5:((Rows.starctlHearRow.stops == []))=true:=by kernel_rfl
theorem starctlHear_j7:((Rows.starctlHearRow.knobs == []))=true:=by kernel_rfl
theorem starctlHear_j9:((Rows.starctlHearRow.inPlace == Tryz.prog.inPlace 5))=true:=by kernel_rfl
theorem starctlHear_j10:((Rows.starctlHearRow.unfollowed == Tryz.prog.unfollowed 5))=true:=by kernel_rfl
theorem starctlHear_j11:((Rows.starctlHearRow.recurses == Tryz.prog.recurses 5))=true:=by kernel_rfl
theorem starctlHear_j12:((Rows.starctlHearRow.named == Tryz.prog.varsNamed 5))=true:=by kernel_rfl
theorem starctlHear_j13:((Rows.starctlHearRow.maps == (Tryz.f5.params.toList ++ Rows.starctlHearSpec.plain.varTypes Tryz.prog).any (Tryz.prog.mapsRec ·)))=true:=by kernel_rfl
theorem starctlHear_j14:((Rows.starctlHearRow.ifaces == (Tryz.f5.params.toList ++ Rows.starctlHearSpec.plain.varTypes Tryz.prog).any (Tryz.prog.ifacesRec ·)))=true:=by kernel_rfl
theorem starctlHear_j15:((Rows.starctlHearRow.mapsOut == Tryz.prog.mapsAmong Tryz.f5.resultTypes.toList))=true:=by kernel_rfl
theorem starctlHear_j16:((Rows.starctlHearRow.loops == (Tryz.f5.params.toList ++ Rows.starctlHearSpec.plain.varTypes Tryz.prog).any (Tryz.prog.loopsFrom ·)))=true:=by kernel_rfl
theorem starctlHear_j17:((Rows.starctlHearRow.wideKeys == (Tryz.f5.params.toList ++ Rows.starctlHearSpec.plain.varTypes Tryz.prog ++ Tryz.f5.resultTypes.toList).any (Tryz.prog.wideKeysFrom ·)))=true:=by kernel_rfl
theorem starctlHear_j18:(Rows.starctlHearSpec.vars.all (Tryz.prog.varReadable ·))=true:=by kernel_rfl
theorem starctlHear_j19:(Tryz.f5.resultTypes.all (fun t=>Tryz.prog.readableRec t && decide (t < Tryz.prog.types.size)))=true:=by kernel_rfl
theorem starctlHear_j20:((Rows.starctlHearRow.ifacesOut == Tryz.f5.resultTypes.toList.any (Tryz.prog.ifacesRec ·)))=true:=by kernel_rfl
theorem starctlHear_j21:((Rows.starctlHearRow.loopsOut == Tryz.f5.resultTypes.toList.any (Tryz.prog.loopsFrom ·)))=true:=by kernel_rfl
theorem starctlHear_j22:((Rows.starctlHearRow.plainKeys == Tryz.prog.plainKeys))=true:=by rw [seat_keys]; rfl
theorem starctlHear_j23:(Rows.starctlHearRow.shortTexts.isNone)=true:=by kernel_rfl
theorem starctlHear_j26:((Rows.starctlHearRow.lifted == Tryz.prog.liftsFinal))=true:=by rw [seat_lifts]; rfl
theorem starctlHear_j27:((Tryz.prog.make == some Rows.starctlHearRow.make))=true:=by kernel_rfl
theorem starctlHear_j28:((Rows.starctlHearRow.kinds == (if Rows.starctlHearRow.domain.isEmpty then [] else Tryz.f5.params.toList.map fun t=>match Tryz.prog.underlying t with | some (.int k)=>some k | _=>none)))=true:=by kernel_rfl
theorem starctlHear_j29:((Rows.starctlHearRow.pinned == Rows.starctlHearRow.pinnedBy))=true:=by kernel_rfl
theorem starctlHear_j30:((Rows.starctlHearRow.veiled == (Tryz.f5.params.toList ++ Rows.starctlHearSpec.plain.varTypes Tryz.prog ++ Tryz.f5.resultTypes.toList).any (Tryz.prog.veiledRec ·)))=true:=by kernel_rfl
theorem starctlHear_j31:(Rows.starctlHearRow.veiledFits Tryz.prog Tryz.f5.params.toList (Tryz.f5.params.toList ++ Rows.starctlHearSpec.plain.varTypes Tryz.prog ++ Tryz.f5.resultTypes.toList))=true:=by kernel_rfl
set_option maxRecDepth 100000 in
theorem starctlHear_closed:joinedFacts Tryz.prog 5 Tryz.f5 Rows.starctlHearSpec Rows.starctlHearRow=true:=by
 unfold joinedFacts
 exact (band (band (band (band (band (band (band (band (band (band (band (band (band (band (band (band (band (band (band (band (band (band (band (band (band (band (band (band (band (band (band starctlHear_j0 seat_j1) seat_j2) starctlHear_j3) starctlHear_j4) starctlHear_j5) seat_j6) starctlHear_j7) seat_j8) starctlHear_j9) starctlHear_j10) starctlHear_j11) starctlHear_j12) starctlHear_j13) starctlHear_j14) starctlHear_j15) starctlHear_j16) starctlHear_j17) starctlHear_j18) starctlHear_j19) starctlHear_j20) starctlHear_j21) starctlHear_j22) starctlHear_j23) seat_j24) seat_j25) starctlHear_j26) starctlHear_j27) starctlHear_j28) starctlHear_j29) starctlHear_j30) starctlHear_j31)
theorem starctlHear_fn:∀(H:Type) (ds:List (DataW H)),ds.length=Tryz.f5.params.size→Rows.starctlHearSpec.fn H ds={results:=[.lit (.bool true)],args:=ds}:=fun H ds h=>by
 have h:ds.length=3:=h
 rcases ds with _ | ⟨d1,_ | ⟨d2,_ | ⟨d3,_ | ⟨d4,ds⟩⟩⟩⟩ <;> first | rfl | (exact absurd h (by simp))
set_option maxRecDepth 100000 in
theorem starctlHear_lifted (os:Os) (started:os.Started) (H:Type) (enc:TypeId×Value→H) :
  ReturnsInHanded {} Tryz.checked os 5 .any (Rows.starctlHearSpec.pre6 enc Tryz.prog Tryz.f5 Rows.starctlHearRow.domain false) (Rows.starctlHearSpec.post enc Tryz.prog Tryz.f5 false true false false):=
 Go.Ev.law_lifted (C:=Tryz.checked) seat_own started (by kernel_rfl) Tryz.func5
  (ChangeSpec.witness6 (enc:=enc) (C:=Tryz.checked) false ⟨#[],#[.agg #[.int .i64 0,.int .i64 0,.int .i64 0,.int .i64 0,.int .i64 0,.int .i64 0,.slice none 0 0,.slice none 0 0],.agg #[.int .i64 0,.int .i64 0,.int .i64 0,.int .i64 0,.int .i64 0,.int .i64 0,.int .i64 0,.int .i64 0,.int .i64 0,.int .i64 0,.int .i64 0,.int .i64 0,.int .i64 0,.int .i64 0,.int .i64 0,.bool false,.int .i64 0,.int .i64 0,.slice none 0 0,.slice none 0 0,.int .i64 0,.int .i64 0],.slice none 0 0], []⟩ 8 (by kernel_rfl) (by kernel_rfl) (by kernel_rfl) (by kernel_rfl))
  (tys:=[(.struct [(.int .i64),(.int .i64),(.int .i64),(.int .i64),(.int .i64),(.int .i64),(.slice .bool),(.slice (.struct [(.slice (.int .i64)),(.slice .bool),(.slice .bool)]))]),(.struct [(.int .i64),(.int .i64),(.struct [(.int .i64),(.int .i64),(.int .i64),(.int .i64),(.int .i64)]),(.struct [(.int .i64),(.int .i64),(.int .i64),(.int .i64),(.int .i64),(.int .i64),(.int .i64)]),(.int .i64),.bool,(.int .i64),(.struct [(.int .i64),(.slice (.int .u8)),(.slice (.struct [(.slice (.int .u8)),(.int .i64)])),(.int .i64),(.int .i64)])]),(.slice (.struct [(.int .i64),(.int .i64),(.struct [(.int .i64),(.slice (.int .u8))])]))]) (tb:=4) Go.Ev.M.so302 (fun x h=>⟨rfl,Go.Ev.M.law302 x h⟩) (by kernel_rfl) rfl starctlHear_fn (by kernel_rfl) (by kernel_rfl) seat_j1 (by kernel_rfl)
theorem starctlHear_over:Rows.starctlHearRow.holds Tryz.pinned (OpenSpec.ofChange Rows.starctlHearSpec):=
 OpenClaim.holds_of_wide 5 Tryz.f5 rfl rfl rfl rfl rfl rfl rfl ⟨rfl,rfl,rfl,rfl,rfl⟩ rfl rfl rfl rfl rfl (by kernel_rfl) Tryz.func5 starctlHear_closed
  (of_decide_eq_true (by kernel_rfl)) (by unfold Func.isWrapper; first | (rw [if_pos (by decide +kernel)]; kernel_rfl) | (rw [if_neg (by decide +kernel)]; exact ⟨rfl,rfl⟩))
  (fun os started H enc _=>starctlHear_lifted os started H enc)
theorem starctlHear_holds:Rows.StarctlHearSaid:=starctlHear_over
end Go.Proofs.YtafbddhnoacldaaGreat
