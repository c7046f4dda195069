/-
  PROVED: Rows.ModelMaySaid. Conditions: none.
-/
import Derived.Test.YtjceiokllpmnkaaGreatRows
import Derived.Test.YtjceiokllpmnkaaGreatF
import Derived.Test.YtjceiokllpmnkaaGreatM4
namespace Go.Proofs.YtjceiokllpmnkaaGreat
open Go.ChangeShapes Go.WideShapes Go.ChangeAt Go.RowKit
theorem Fs:(Rows.modelMayRow.wf (OpenSpec.ofChange Rows.modelMaySpec))=true:=by kernel_rfl
theorem Ek:(Tryz.f7.params.all (Tryz.prog.readableRec ·))=true:=by kernel_rfl
theorem EN:(namedTie Tryz.prog Rows.modelMayRow.named Rows.modelMaySpec.vars)=true:=by kernel_rfl
theorem EL:((Rows.modelMayRow.stops == []))=true:=by kernel_rfl
theorem E4:((Rows.modelMayRow.knobs == []))=true:=by kernel_rfl
theorem FM:((Rows.modelMayRow.inPlace==Tryz.prog.inPlace 7))=true:=by kernel_rfl
theorem Cs:((Rows.modelMayRow.unfollowed==Tryz.prog.unfollowed 7))=true:=by kernel_rfl
theorem DC:((Rows.modelMayRow.recurses==Tryz.prog.recurses 7))=true:=by kernel_rfl
theorem Dq:((Rows.modelMayRow.named==Tryz.prog.varsNamed 7))=true:=by kernel_rfl
theorem DD:((Rows.modelMayRow.maps==(Tryz.f7.params.toList++Rows.modelMaySpec.plain.varTypes Tryz.prog).any (Tryz.prog.mapsRec ·)))=true:=by kernel_rfl
theorem Ed:((Rows.modelMayRow.ifaces==(Tryz.f7.params.toList++Rows.modelMaySpec.plain.varTypes Tryz.prog).any (Tryz.prog.ifacesRec ·)))=true:=by kernel_rfl
theorem DK:((Rows.modelMayRow.mapsOut==Tryz.prog.mapsAmong Tryz.f7.resultTypes.toList))=true:=by kernel_rfl
theorem Dv:((Rows.modelMayRow.loops==(Tryz.f7.params.toList++Rows.modelMaySpec.plain.varTypes Tryz.prog).any (Tryz.prog.loopsFrom ·)))=true:=by kernel_rfl
theorem Di:((Rows.modelMayRow.wideKeys==(Tryz.f7.params.toList++Rows.modelMaySpec.plain.varTypes Tryz.prog++Tryz.f7.resultTypes.toList).any (Tryz.prog.wideKeysFrom ·)))=true:=by kernel_rfl
theorem CV:(Rows.modelMaySpec.vars.all (Tryz.prog.varReadable ·))=true:=by kernel_rfl
theorem Cv:(Tryz.f7.resultTypes.all (fun t=>Tryz.prog.readableRec t&&decide (t<Tryz.prog.types.size)))=true:=by kernel_rfl
theorem DV:((Rows.modelMayRow.ifacesOut==Tryz.f7.resultTypes.toList.any (Tryz.prog.ifacesRec ·)))=true:=by kernel_rfl
theorem Dk:((Rows.modelMayRow.loopsOut==Tryz.f7.resultTypes.toList.any (Tryz.prog.loopsFrom ·)))=true:=by kernel_rfl
theorem CB:((Rows.modelMayRow.plainKeys==Tryz.prog.plainKeys))=true:=by rw[K4];rfl
theorem Dz:(Rows.modelMayRow.shortTexts.isNone)=true:=by kernel_rfl
theorem CX:((Rows.modelMayRow.lifted==Tryz.prog.liftsFinal))=true:=by rw[Hz];rfl
theorem D2:((Tryz.prog.make==some Rows.modelMayRow.make))=true:=by kernel_rfl
theorem CL:((Rows.modelMayRow.kinds==(if Rows.modelMayRow.domain.isEmpty then[] else Tryz.f7.params.toList.map fun t=>match Tryz.prog.underlying t with|some (.int k)=>some k|_=>none)))=true:=by kernel_rfl
theorem Dm:((Rows.modelMayRow.pinned==Rows.modelMayRow.pinnedBy))=true:=by kernel_rfl
theorem DX:((Rows.modelMayRow.veiled==(Tryz.f7.params.toList++Rows.modelMaySpec.plain.varTypes Tryz.prog++Tryz.f7.resultTypes.toList).any (Tryz.prog.veiledRec ·)))=true:=by kernel_rfl
theorem Dt:(Rows.modelMayRow.veiledFits Tryz.prog Tryz.f7.params.toList (Tryz.f7.params.toList++Rows.modelMaySpec.plain.varTypes Tryz.prog++Tryz.f7.resultTypes.toList))=true:=by kernel_rfl
set_option maxRecDepth 100000 in
theorem w7:joinedFacts Tryz.prog 7 Tryz.f7 Rows.modelMaySpec Rows.modelMayRow=true:=by
 unfold joinedFacts
 exact(ju (ju (ju (ju (ju (ju (ju (ju (ju (ju (ju (ju (ju (ju (ju (ju (ju (ju (ju (ju (ju (ju (ju (ju (ju (ju (ju (ju (ju (ju (ju Fs Kb) Sv) Ek) EN) EL) SH) E4) RP) FM) Cs) DC) Dq) DD) Ed) DK) Dv) Di) CV) Cv) DV) Dk) CB) Dz) Pe) OZ) CX) D2) CL) Dm) DX) Dt)
theorem FJ:∀(H:Type) (ds:List (DataW H)),ds.length=Tryz.f7.params.size→Rows.modelMaySpec.fn H ds={results:=[.lit (.bool true)],args:=ds}:=fun H ds h=>by
 have h:ds.length=2:=h
 rcases ds with _|⟨d1,_|⟨d2,_|⟨d3,ds⟩⟩⟩<;>first|rfl|(exact absurd h (by simp))
set_option maxRecDepth 100000 in
theorem xm(os:Os)(started:os.Started)(H:Type)(enc:TypeId×Value→H) :
  ReturnsInHanded {} Tryz.checked os 7 .any (Rows.modelMaySpec.pre6 enc Tryz.prog Tryz.f7 Rows.modelMayRow.domain false) (Rows.modelMaySpec.post enc Tryz.prog Tryz.f7 false true false false):=
 Go.Ev.Gl (C:=Tryz.checked) LM started (by kernel_rfl) Tryz.func7
  (ChangeSpec.witness6 (enc:=enc) (C:=Tryz.checked) false ⟨#[],#[.agg #[.int .i64 0,.int .i64 0,.int .i64 0,.int .i64 0,.int .i64 0,.int .i64 0,.slice none 0 0,.slice none 0 0],.agg #[.int .i64 0,.slice none 0 0,.slice none 0 0,.slice none 0 0,.slice none 0 0,.slice none 0 0,.slice none 0 0,.slice none 0 0]], []⟩ 8 (by kernel_rfl) (by kernel_rfl) (by kernel_rfl) (by kernel_rfl))
  (fH:=[(.struct [(.int .i64),(.int .i64),(.int .i64),(.int .i64),(.int .i64),(.int .i64),(.slice .bool),(.slice (.struct [(.slice (.int .i64)),(.slice .bool),(.slice .bool)]))]),(.struct [(.int .i64),(.slice .bool),(.slice (.int .i64)),(.slice (.int .i64)),(.slice (.int .i64)),(.slice (.int .i64)),(.slice (.struct [(.int .i64),(.int .i64),(.int .i64),(.int .i64),(.int .i64),(.slice (.int .u8))])),(.slice (.struct [(.int .i64),(.int .i64),(.int .i64),(.int .i64),(.int .i64),(.int .i64),(.int .i64)]))])]) (tb:=4) Go.Ev.M.acX (fun x h=>⟨rfl,Go.Ev.M.YX x h⟩) (by kernel_rfl) rfl FJ (by kernel_rfl) (by kernel_rfl) Kb (by kernel_rfl)
theorem AR:Rows.modelMayRow.holds Tryz.pinned (OpenSpec.ofChange Rows.modelMaySpec):=
 OpenClaim.holds_of_wide 7 Tryz.f7 rfl rfl rfl rfl rfl rfl rfl ⟨rfl,rfl,rfl,rfl,rfl⟩ rfl rfl rfl rfl rfl (by kernel_rfl) Tryz.func7 w7
  (of_decide_eq_true (by kernel_rfl)) (by unfold Func.isWrapper;first|(rw[if_pos (by decide +kernel)];kernel_rfl)|(rw[if_neg (by decide +kernel)];exact⟨rfl,rfl⟩))
  (fun os started H enc _=>xm os started H enc)
theorem modelMay_holds:Rows.ModelMaySaid:=AR
end Go.Proofs.YtjceiokllpmnkaaGreat
