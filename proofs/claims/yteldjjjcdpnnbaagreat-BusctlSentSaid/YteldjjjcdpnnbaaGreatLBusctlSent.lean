/-
  PROVED: Rows.BusctlSentSaid. Conditions: none.
-/
import Derived.Test.YteldjjjcdpnnbaaGreatRows
import Derived.Test.YteldjjjcdpnnbaaGreatF
import Derived.Test.YteldjjjcdpnnbaaGreatBs
namespace Go.Proofs.YteldjjjcdpnnbaaGreat
open Go.ChangeShapes Go.WideShapes Go.ChangeAt Go.RowKit
theorem yz:(Rows.busctlSentRow.wf (OpenSpec.ofChange Rows.busctlSentSpec))=true:=by kernel_rfl
theorem yF:(Tryz.f10.params.all (Tryz.prog.readableRec ·))=true:=by kernel_rfl
theorem x_:(namedTie Tryz.prog Rows.busctlSentRow.named Rows.busctlSentSpec.vars)=true:=by kernel_rfl
theorem yd:((Rows.busctlSentRow.stops == []))=true:=by kernel_rfl
theorem yO:((Rows.busctlSentRow.knobs == []))=true:=by kernel_rfl
theorem yC:((Rows.busctlSentRow.inPlace==Tryz.prog.inPlace 10))=true:=by kernel_rfl
theorem wi:((Rows.busctlSentRow.unfollowed==Tryz.prog.unfollowed 10))=true:=by kernel_rfl
theorem vW:((Rows.busctlSentRow.recurses==Tryz.prog.recurses 10))=true:=by kernel_rfl
theorem vY:((Rows.busctlSentRow.named==Tryz.prog.varsNamed 10))=true:=by kernel_rfl
theorem vE:((Rows.busctlSentRow.maps==(Tryz.f10.params.toList++Rows.busctlSentSpec.plain.varTypes Tryz.prog).any (Tryz.prog.mapsRec ·)))=true:=by kernel_rfl
theorem w5:((Rows.busctlSentRow.ifaces==(Tryz.f10.params.toList++Rows.busctlSentSpec.plain.varTypes Tryz.prog).any (Tryz.prog.ifacesRec ·)))=true:=by kernel_rfl
theorem wo:((Rows.busctlSentRow.mapsOut==Tryz.prog.mapsAmong Tryz.f10.resultTypes.toList))=true:=by kernel_rfl
theorem vx:((Rows.busctlSentRow.loops==(Tryz.f10.params.toList++Rows.busctlSentSpec.plain.varTypes Tryz.prog).any (Tryz.prog.loopsFrom ·)))=true:=by kernel_rfl
theorem w9:((Rows.busctlSentRow.wideKeys==(Tryz.f10.params.toList++Rows.busctlSentSpec.plain.varTypes Tryz.prog++Tryz.f10.resultTypes.toList).any (Tryz.prog.wideKeysFrom ·)))=true:=by kernel_rfl
theorem ve:(Rows.busctlSentSpec.vars.all (Tryz.prog.varReadable ·))=true:=by kernel_rfl
theorem wR:(Tryz.f10.resultTypes.all (fun t=>Tryz.prog.readableRec t&&decide (t<Tryz.prog.types.size)))=true:=by kernel_rfl
theorem vJ:((Rows.busctlSentRow.ifacesOut==Tryz.f10.resultTypes.toList.any (Tryz.prog.ifacesRec ·)))=true:=by kernel_rfl
theorem vT:((Rows.busctlSentRow.loopsOut==Tryz.f10.resultTypes.toList.any (Tryz.prog.loopsFrom ·)))=true:=by kernel_rfl
theorem wE:((Rows.busctlSentRow.plainKeys==Tryz.prog.plainKeys))=true:=by rw[sF];rfl
theorem xc:(Rows.busctlSentRow.shortTexts.isNone)=true:=by kernel_rfl
theorem xg:((Rows.busctlSentRow.lifted==Tryz.prog.liftsFinal))=true:=by rw[p_];rfl
theorem xn:((Tryz.prog.make==some Rows.busctlSentRow.make))=true:=by kernel_rfl
theorem vL:((Rows.busctlSentRow.kinds==(if Rows.busctlSentRow.domain.isEmpty then[] else Tryz.f10.params.toList.map fun t=>match Tryz.prog.underlying t with|some (.int k)=>some k|_=>none)))=true:=by kernel_rfl
theorem xC:((Rows.busctlSentRow.pinned==Rows.busctlSentRow.pinnedBy))=true:=by kernel_rfl
theorem wU:((Rows.busctlSentRow.veiled==(Tryz.f10.params.toList++Rows.busctlSentSpec.plain.varTypes Tryz.prog++Tryz.f10.resultTypes.toList).any (Tryz.prog.veiledRec ·)))=true:=by kernel_rfl
theorem uZ:(Rows.busctlSentRow.veiledFits Tryz.prog Tryz.f10.params.toList (Tryz.f10.params.toList++Rows.busctlSentSpec.plain.varTypes Tryz.prog++Tryz.f10.resultTypes.toList))=true:=by kernel_rfl
set_option maxRecDepth 100000 in
theorem qF:joinedFacts Tryz.prog 10 Tryz.f10 Rows.busctlSentSpec Rows.busctlSentRow=true:=by
 unfold joinedFacts
 exact(bI (bI (bI (bI (bI (bI (bI (bI (bI (bI (bI (bI (bI (bI (bI (bI (bI (bI (bI (bI (bI (bI (bI (bI (bI (bI (bI (bI (bI (bI (bI yz oP) Aq) yF) x_) yd) A_) yO) AQ) yC) wi) vW) vY) vE) w5) wo) vx) w9) ve) wR) vJ) vT) wE) xc) xH) vy) xg) xn) vL) xC) wU) uZ)
theorem yM:∀(H:Type) (ds:List (DataW H)),ds.length=Tryz.f10.params.size→Rows.busctlSentSpec.fn H ds={results:=[.lit (.bool true)],args:=ds}:=fun H ds h=>by
 have h:ds.length=4:=h
 rcases ds with _|⟨d1,_|⟨d2,_|⟨d3,_|⟨d4,_|⟨d5,ds⟩⟩⟩⟩⟩<;>first|rfl|(exact absurd h (by simp))
set_option maxRecDepth 100000 in
theorem qN(os:Os)(started:os.Started)(H:Type)(enc:TypeId×Value→H) :
  ReturnsInHanded {} Tryz.checked os 10 .any (Rows.busctlSentSpec.pre6 enc Tryz.prog Tryz.f10 Rows.busctlSentRow.domain false) (Rows.busctlSentSpec.post enc Tryz.prog Tryz.f10 false true false false):=
 Go.Ev.pO (C:=Tryz.checked) wV started (by kernel_rfl) Tryz.func10
  (ChangeSpec.witness6 (enc:=enc) (C:=Tryz.checked) false ⟨#[],#[.agg #[.int .i64 0,.int .i64 0,.int .i64 0,.int .i64 0,.int .i64 0,.int .i64 0,.slice none 0 0,.slice none 0 0],.agg #[.int .i64 0,.int .i64 0,.int .i64 0,.int .i64 0,.int .i64 0,.int .i64 0,.int .i64 0,.int .i64 0,.int .i64 0,.int .i64 0,.int .i64 0,.int .i64 0,.int .i64 0,.int .i64 0,.int .i64 0,.bool false,.int .i64 0,.int .i64 0,.slice none 0 0,.slice none 0 0,.int .i64 0,.int .i64 0],.agg #[.int .i64 0,.int .i64 0,.int .i64 0,.int .i64 0,.int .i64 0,.int .i64 0,.int .i64 0,.int .i64 0,.int .i64 0,.int .i64 0,.int .i64 0,.int .i64 0,.int .i64 0,.int .i64 0,.int .i64 0,.bool false,.int .i64 0,.int .i64 0,.slice none 0 0,.slice none 0 0,.int .i64 0,.int .i64 0],.int .i64 0], []⟩ 8 (by kernel_rfl) (by kernel_rfl) (by kernel_rfl) (by kernel_rfl))
  (xb:=[(.struct [(.int .i64),(.int .i64),(.int .i64),(.int .i64),(.int .i64),(.int .i64),(.slice .bool),(.slice (.struct [(.slice (.int .i64)),(.slice .bool),(.slice .bool)]))]),(.struct [(.int .i64),(.int .i64),(.struct [(.int .i64),(.int .i64),(.int .i64),(.int .i64),(.int .i64)]),(.struct [(.int .i64),(.int .i64),(.int .i64),(.int .i64),(.int .i64),(.int .i64),(.int .i64)]),(.int .i64),.bool,(.int .i64),(.struct [(.int .i64),(.slice (.int .u8)),(.slice (.struct [(.slice (.int .u8)),(.int .i64)])),(.int .i64),(.int .i64)])]),(.struct [(.int .i64),(.int .i64),(.struct [(.int .i64),(.int .i64),(.int .i64),(.int .i64),(.int .i64)]),(.struct [(.int .i64),(.int .i64),(.int .i64),(.int .i64),(.int .i64),(.int .i64),(.int .i64)]),(.int .i64),.bool,(.int .i64),(.struct [(.int .i64),(.slice (.int .u8)),(.slice (.struct [(.slice (.int .u8)),(.int .i64)])),(.int .i64),(.int .i64)])]),(.int .i64)]) (tb:=4) Go.Ev.M.WQ (fun x h=>⟨rfl,Go.Ev.M.Pp x h⟩) (by kernel_rfl) rfl yM (by kernel_rfl) (by kernel_rfl) oP (by kernel_rfl)
theorem um:Rows.busctlSentRow.holds Tryz.pinned (OpenSpec.ofChange Rows.busctlSentSpec):=
 OpenClaim.holds_of_wide 10 Tryz.f10 rfl rfl rfl rfl rfl rfl rfl ⟨rfl,rfl,rfl,rfl,rfl⟩ rfl rfl rfl rfl rfl (by kernel_rfl) Tryz.func10 qF
  (of_decide_eq_true (by kernel_rfl)) (by unfold Func.isWrapper;first|(rw[if_pos (by decide +kernel)];kernel_rfl)|(rw[if_neg (by decide +kernel)];exact⟨rfl,rfl⟩))
  (fun os started H enc _=>qN os started H enc)
theorem busctlSent_holds:Rows.BusctlSentSaid:=um
end Go.Proofs.YteldjjjcdpnnbaaGreat
