/-
  PROVED: Rows.StarctlOwnSaid. Conditions: none.
-/
import Derived.Test.YteldjjjcdpnnbaaGreatRows
import Derived.Test.YteldjjjcdpnnbaaGreatF
import Derived.Test.YteldjjjcdpnnbaaGreatSo
namespace Go.Proofs.YteldjjjcdpnnbaaGreat
open Go.ChangeShapes Go.WideShapes Go.ChangeAt Go.RowKit
theorem Ab:(Rows.starctlOwnRow.wf (OpenSpec.ofChange Rows.starctlOwnSpec))=true:=by kernel_rfl
theorem Av:(Tryz.f7.params.all (Tryz.prog.readableRec ·))=true:=by kernel_rfl
theorem zV:(namedTie Tryz.prog Rows.starctlOwnRow.named Rows.starctlOwnSpec.vars)=true:=by kernel_rfl
theorem Ae:((Rows.starctlOwnRow.stops == []))=true:=by kernel_rfl
theorem Ak:((Rows.starctlOwnRow.knobs == []))=true:=by kernel_rfl
theorem Ad:((Rows.starctlOwnRow.inPlace==Tryz.prog.inPlace 7))=true:=by kernel_rfl
theorem x9:((Rows.starctlOwnRow.unfollowed==Tryz.prog.unfollowed 7))=true:=by kernel_rfl
theorem xt:((Rows.starctlOwnRow.recurses==Tryz.prog.recurses 7))=true:=by kernel_rfl
theorem x8:((Rows.starctlOwnRow.named==Tryz.prog.varsNamed 7))=true:=by kernel_rfl
theorem y7:((Rows.starctlOwnRow.maps==(Tryz.f7.params.toList++Rows.starctlOwnSpec.plain.varTypes Tryz.prog).any (Tryz.prog.mapsRec ·)))=true:=by kernel_rfl
theorem xN:((Rows.starctlOwnRow.ifaces==(Tryz.f7.params.toList++Rows.starctlOwnSpec.plain.varTypes Tryz.prog).any (Tryz.prog.ifacesRec ·)))=true:=by kernel_rfl
theorem xY:((Rows.starctlOwnRow.mapsOut==Tryz.prog.mapsAmong Tryz.f7.resultTypes.toList))=true:=by kernel_rfl
theorem xG:((Rows.starctlOwnRow.loops==(Tryz.f7.params.toList++Rows.starctlOwnSpec.plain.varTypes Tryz.prog).any (Tryz.prog.loopsFrom ·)))=true:=by kernel_rfl
theorem zG:((Rows.starctlOwnRow.wideKeys==(Tryz.f7.params.toList++Rows.starctlOwnSpec.plain.varTypes Tryz.prog++Tryz.f7.resultTypes.toList).any (Tryz.prog.wideKeysFrom ·)))=true:=by kernel_rfl
theorem y5:(Rows.starctlOwnSpec.vars.all (Tryz.prog.varReadable ·))=true:=by kernel_rfl
theorem yn:(Tryz.f7.resultTypes.all (fun t=>Tryz.prog.readableRec t&&decide (t<Tryz.prog.types.size)))=true:=by kernel_rfl
theorem xx:((Rows.starctlOwnRow.ifacesOut==Tryz.f7.resultTypes.toList.any (Tryz.prog.ifacesRec ·)))=true:=by kernel_rfl
theorem xq:((Rows.starctlOwnRow.loopsOut==Tryz.f7.resultTypes.toList.any (Tryz.prog.loopsFrom ·)))=true:=by kernel_rfl
theorem zC:((Rows.starctlOwnRow.plainKeys==Tryz.prog.plainKeys))=true:=by rw[pH];rfl
theorem yO:(Rows.starctlOwnRow.shortTexts.isNone)=true:=by kernel_rfl
theorem xj:((Rows.starctlOwnRow.lifted==Tryz.prog.liftsFinal))=true:=by rw[nG];rfl
theorem xC:((Tryz.prog.make==some Rows.starctlOwnRow.make))=true:=by kernel_rfl
theorem yN:((Rows.starctlOwnRow.kinds==(if Rows.starctlOwnRow.domain.isEmpty then[] else Tryz.f7.params.toList.map fun t=>match Tryz.prog.underlying t with|some (.int k)=>some k|_=>none)))=true:=by kernel_rfl
theorem xL:((Rows.starctlOwnRow.pinned==Rows.starctlOwnRow.pinnedBy))=true:=by kernel_rfl
theorem zM:((Rows.starctlOwnRow.veiled==(Tryz.f7.params.toList++Rows.starctlOwnSpec.plain.varTypes Tryz.prog++Tryz.f7.resultTypes.toList).any (Tryz.prog.veiledRec ·)))=true:=by kernel_rfl
theorem yM:(Rows.starctlOwnRow.veiledFits Tryz.prog Tryz.f7.params.toList (Tryz.f7.params.toList++Rows.starctlOwnSpec.plain.varTypes Tryz.prog++Tryz.f7.resultTypes.toList))=true:=by kernel_rfl
set_option maxRecDepth 100000 in
theorem rZ:joinedFacts Tryz.prog 7 Tryz.f7 Rows.starctlOwnSpec Rows.starctlOwnRow=true:=by
 unfold joinedFacts
 exact(bq (bq (bq (bq (bq (bq (bq (bq (bq (bq (bq (bq (bq (bq (bq (bq (bq (bq (bq (bq (bq (bq (bq (bq (bq (bq (bq (bq (bq (bq (bq Ab lU) w_) Av) zV) Ae) wW) Ak) w5) Ad) x9) xt) x8) y7) xN) xY) xG) zG) y5) yn) xx) xq) zC) yO) rm) rW) xj) xC) yN) xL) zM) yM)
theorem Aw:∀(H:Type) (ds:List (DataW H)),ds.length=Tryz.f7.params.size→Rows.starctlOwnSpec.fn H ds={results:=[.lit (.bool true)],args:=ds}:=fun H ds h=>by
 have h:ds.length=2:=h
 rcases ds with _|⟨d1,_|⟨d2,_|⟨d3,ds⟩⟩⟩<;>first|rfl|(exact absurd h (by simp))
set_option maxRecDepth 100000 in
theorem s6(os:Os)(started:os.Started)(H:Type)(enc:TypeId×Value→H) :
  ReturnsInHanded {} Tryz.checked os 7 .any (Rows.starctlOwnSpec.pre6 enc Tryz.prog Tryz.f7 Rows.starctlOwnRow.domain false) (Rows.starctlOwnSpec.post enc Tryz.prog Tryz.f7 false true false false):=
 Go.Ev.nI (C:=Tryz.checked) r8 started (by kernel_rfl) Tryz.func7
  (ChangeSpec.witness6 (enc:=enc) (C:=Tryz.checked) false ⟨#[],#[.agg #[.int .i64 0,.int .i64 0,.int .i64 0,.int .i64 0,.int .i64 0,.int .i64 0,.slice none 0 0,.slice none 0 0],.agg #[.int .i64 0,.int .i64 0,.int .i64 0,.int .i64 0,.int .i64 0,.int .i64 0,.int .i64 0,.int .i64 0,.int .i64 0,.int .i64 0,.int .i64 0,.int .i64 0,.int .i64 0,.int .i64 0,.int .i64 0,.bool false,.int .i64 0,.int .i64 0,.slice none 0 0,.slice none 0 0,.int .i64 0,.int .i64 0]], []⟩ 8 (by kernel_rfl) (by kernel_rfl) (by kernel_rfl) (by kernel_rfl))
  (wO:=[(.struct [(.int .i64),(.int .i64),(.int .i64),(.int .i64),(.int .i64),(.int .i64),(.slice .bool),(.slice (.struct [(.slice (.int .i64)),(.slice .bool),(.slice .bool)]))]),(.struct [(.int .i64),(.int .i64),(.struct [(.int .i64),(.int .i64),(.int .i64),(.int .i64),(.int .i64)]),(.struct [(.int .i64),(.int .i64),(.int .i64),(.int .i64),(.int .i64),(.int .i64),(.int .i64)]),(.int .i64),.bool,(.int .i64),(.struct [(.int .i64),(.slice (.int .u8)),(.slice (.struct [(.slice (.int .u8)),(.int .i64)])),(.int .i64),(.int .i64)])])]) (tb:=4) Go.Ev.M.aa8 (fun x h=>⟨rfl,Go.Ev.M.Vk x h⟩) (by kernel_rfl) rfl Aw (by kernel_rfl) (by kernel_rfl) lU (by kernel_rfl)
theorem wJ:Rows.starctlOwnRow.holds Tryz.pinned (OpenSpec.ofChange Rows.starctlOwnSpec):=
 OpenClaim.holds_of_wide 7 Tryz.f7 rfl rfl rfl rfl rfl rfl rfl ⟨rfl,rfl,rfl,rfl,rfl⟩ rfl rfl rfl rfl rfl (by kernel_rfl) Tryz.func7 rZ
  (of_decide_eq_true (by kernel_rfl)) (by unfold Func.isWrapper;first|(rw[if_pos (by decide +kernel)];kernel_rfl)|(rw[if_neg (by decide +kernel)];exact⟨rfl,rfl⟩))
  (fun os started H enc _=>s6 os started H enc)
theorem starctlOwn_holds:Rows.StarctlOwnSaid:=wJ
end Go.Proofs.YteldjjjcdpnnbaaGreat
