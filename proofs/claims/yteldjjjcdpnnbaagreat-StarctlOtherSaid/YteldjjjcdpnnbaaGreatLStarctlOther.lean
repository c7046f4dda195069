/-
  PROVED: Rows.StarctlOtherSaid. Conditions: none.
-/
import Derived.Test.YteldjjjcdpnnbaaGreatRows
import Derived.Test.YteldjjjcdpnnbaaGreatF
import Derived.Test.YteldjjjcdpnnbaaGreatSt
namespace Go.Proofs.YteldjjjcdpnnbaaGreat
open Go.ChangeShapes Go.WideShapes Go.ChangeAt Go.RowKit
theorem vW:(Rows.starctlOtherRow.wf (OpenSpec.ofChange Rows.starctlOtherSpec))=true:=by kernel_rfl
theorem wH:(Tryz.f8.params.all (Tryz.prog.readableRec ·))=true:=by kernel_rfl
theorem wM:(namedTie Tryz.prog Rows.starctlOtherRow.named Rows.starctlOtherSpec.vars)=true:=by kernel_rfl
theorem wq:((Rows.starctlOtherRow.stops == []))=true:=by kernel_rfl
theorem wi:((Rows.starctlOtherRow.knobs == []))=true:=by kernel_rfl
theorem wL:((Rows.starctlOtherRow.inPlace==Tryz.prog.inPlace 8))=true:=by kernel_rfl
theorem uJ:((Rows.starctlOtherRow.unfollowed==Tryz.prog.unfollowed 8))=true:=by kernel_rfl
theorem t_:((Rows.starctlOtherRow.recurses==Tryz.prog.recurses 8))=true:=by kernel_rfl
theorem uw:((Rows.starctlOtherRow.named==Tryz.prog.varsNamed 8))=true:=by kernel_rfl
theorem u6:((Rows.starctlOtherRow.maps==(Tryz.f8.params.toList++Rows.starctlOtherSpec.plain.varTypes Tryz.prog).any (Tryz.prog.mapsRec ·)))=true:=by kernel_rfl
theorem tX:((Rows.starctlOtherRow.ifaces==(Tryz.f8.params.toList++Rows.starctlOtherSpec.plain.varTypes Tryz.prog).any (Tryz.prog.ifacesRec ·)))=true:=by kernel_rfl
theorem uS:((Rows.starctlOtherRow.mapsOut==Tryz.prog.mapsAmong Tryz.f8.resultTypes.toList))=true:=by kernel_rfl
theorem tP:((Rows.starctlOtherRow.loops==(Tryz.f8.params.toList++Rows.starctlOtherSpec.plain.varTypes Tryz.prog).any (Tryz.prog.loopsFrom ·)))=true:=by kernel_rfl
theorem ug:((Rows.starctlOtherRow.wideKeys==(Tryz.f8.params.toList++Rows.starctlOtherSpec.plain.varTypes Tryz.prog++Tryz.f8.resultTypes.toList).any (Tryz.prog.wideKeysFrom ·)))=true:=by kernel_rfl
theorem s_:(Rows.starctlOtherSpec.vars.all (Tryz.prog.varReadable ·))=true:=by kernel_rfl
theorem uv:(Tryz.f8.resultTypes.all (fun t=>Tryz.prog.readableRec t&&decide (t<Tryz.prog.types.size)))=true:=by kernel_rfl
theorem uU:((Rows.starctlOtherRow.ifacesOut==Tryz.f8.resultTypes.toList.any (Tryz.prog.ifacesRec ·)))=true:=by kernel_rfl
theorem tc:((Rows.starctlOtherRow.loopsOut==Tryz.f8.resultTypes.toList.any (Tryz.prog.loopsFrom ·)))=true:=by kernel_rfl
theorem ui:((Rows.starctlOtherRow.plainKeys==Tryz.prog.plainKeys))=true:=by rw[pH];rfl
theorem tQ:(Rows.starctlOtherRow.shortTexts.isNone)=true:=by kernel_rfl
theorem tL:((Rows.starctlOtherRow.lifted==Tryz.prog.liftsFinal))=true:=by rw[nG];rfl
theorem uj:((Tryz.prog.make==some Rows.starctlOtherRow.make))=true:=by kernel_rfl
theorem uI:((Rows.starctlOtherRow.kinds==(if Rows.starctlOtherRow.domain.isEmpty then[] else Tryz.f8.params.toList.map fun t=>match Tryz.prog.underlying t with|some (.int k)=>some k|_=>none)))=true:=by kernel_rfl
theorem uT:((Rows.starctlOtherRow.pinned==Rows.starctlOtherRow.pinnedBy))=true:=by kernel_rfl
theorem s9:((Rows.starctlOtherRow.veiled==(Tryz.f8.params.toList++Rows.starctlOtherSpec.plain.varTypes Tryz.prog++Tryz.f8.resultTypes.toList).any (Tryz.prog.veiledRec ·)))=true:=by kernel_rfl
theorem uH:(Rows.starctlOtherRow.veiledFits Tryz.prog Tryz.f8.params.toList (Tryz.f8.params.toList++Rows.starctlOtherSpec.plain.varTypes Tryz.prog++Tryz.f8.resultTypes.toList))=true:=by kernel_rfl
set_option maxRecDepth 100000 in
theorem pR:joinedFacts Tryz.prog 8 Tryz.f8 Rows.starctlOtherSpec Rows.starctlOtherRow=true:=by
 unfold joinedFacts
 exact(bq (bq (bq (bq (bq (bq (bq (bq (bq (bq (bq (bq (bq (bq (bq (bq (bq (bq (bq (bq (bq (bq (bq (bq (bq (bq (bq (bq (bq (bq (bq vW lU) w_) wH) wM) wq) wW) wi) w5) wL) uJ) t_) uw) u6) tX) uS) tP) ug) s_) uv) uU) tc) ui) tQ) rm) rW) tL) uj) uI) uT) s9) uH)
theorem wK:∀(H:Type) (ds:List (DataW H)),ds.length=Tryz.f8.params.size→Rows.starctlOtherSpec.fn H ds={results:=[.lit (.bool true)],args:=ds}:=fun H ds h=>by
 have h:ds.length=3:=h
 rcases ds with _|⟨d1,_|⟨d2,_|⟨d3,_|⟨d4,ds⟩⟩⟩⟩<;>first|rfl|(exact absurd h (by simp))
set_option maxRecDepth 100000 in
theorem pU(os:Os)(started:os.Started)(H:Type)(enc:TypeId×Value→H) :
  ReturnsInHanded {} Tryz.checked os 8 .any (Rows.starctlOtherSpec.pre6 enc Tryz.prog Tryz.f8 Rows.starctlOtherRow.domain false) (Rows.starctlOtherSpec.post enc Tryz.prog Tryz.f8 false true false false):=
 Go.Ev.nI (C:=Tryz.checked) r8 started (by kernel_rfl) Tryz.func8
  (ChangeSpec.witness6 (enc:=enc) (C:=Tryz.checked) false ⟨#[],#[.agg #[.int .i64 0,.int .i64 0,.int .i64 0,.int .i64 0,.int .i64 0,.int .i64 0,.slice none 0 0,.slice none 0 0],.agg #[.int .i64 0,.int .i64 0,.int .i64 0,.int .i64 0,.int .i64 0,.int .i64 0,.int .i64 0,.int .i64 0,.int .i64 0,.int .i64 0,.int .i64 0,.int .i64 0,.int .i64 0,.int .i64 0,.int .i64 0,.bool false,.int .i64 0,.int .i64 0,.slice none 0 0,.slice none 0 0,.int .i64 0,.int .i64 0],.slice none 0 0], []⟩ 8 (by kernel_rfl) (by kernel_rfl) (by kernel_rfl) (by kernel_rfl))
  (wO:=[(.struct [(.int .i64),(.int .i64),(.int .i64),(.int .i64),(.int .i64),(.int .i64),(.slice .bool),(.slice (.struct [(.slice (.int .i64)),(.slice .bool),(.slice .bool)]))]),(.struct [(.int .i64),(.int .i64),(.struct [(.int .i64),(.int .i64),(.int .i64),(.int .i64),(.int .i64)]),(.struct [(.int .i64),(.int .i64),(.int .i64),(.int .i64),(.int .i64),(.int .i64),(.int .i64)]),(.int .i64),.bool,(.int .i64),(.struct [(.int .i64),(.slice (.int .u8)),(.slice (.struct [(.slice (.int .u8)),(.int .i64)])),(.int .i64),(.int .i64)])]),(.slice (.struct [(.int .i64),(.int .i64),(.struct [(.int .i64),(.slice (.int .u8))])]))]) (tb:=4) Go.Ev.M.adb (fun x h=>⟨rfl,Go.Ev.M.Xw x h⟩) (by kernel_rfl) rfl wK (by kernel_rfl) (by kernel_rfl) lU (by kernel_rfl)
theorem rR:Rows.starctlOtherRow.holds Tryz.pinned (OpenSpec.ofChange Rows.starctlOtherSpec):=
 OpenClaim.holds_of_wide 8 Tryz.f8 rfl rfl rfl rfl rfl rfl rfl ⟨rfl,rfl,rfl,rfl,rfl⟩ rfl rfl rfl rfl rfl (by kernel_rfl) Tryz.func8 pR
  (of_decide_eq_true (by kernel_rfl)) (by unfold Func.isWrapper;first|(rw[if_pos (by decide +kernel)];kernel_rfl)|(rw[if_neg (by decide +kernel)];exact⟨rfl,rfl⟩))
  (fun os started H enc _=>pU os started H enc)
theorem starctlOther_holds:Rows.StarctlOtherSaid:=rR
end Go.Proofs.YteldjjjcdpnnbaaGreat
