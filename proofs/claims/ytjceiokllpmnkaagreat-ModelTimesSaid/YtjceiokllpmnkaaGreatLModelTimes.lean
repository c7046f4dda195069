/-
  PROVED: Rows.ModelTimesSaid. Conditions: none.
-/
import Derived.Test.YtjceiokllpmnkaaGreatRows
import Derived.Test.YtjceiokllpmnkaaGreatF
import Derived.Test.YtjceiokllpmnkaaGreatM4
namespace Go.Proofs.YtjceiokllpmnkaaGreat
open Go.ChangeShapes Go.WideShapes Go.ChangeAt Go.RowKit
theorem BN:(Rows.modelTimesRow.wf (OpenSpec.ofChange Rows.modelTimesSpec))=true:=by kernel_rfl
theorem BJ:(Tryz.f5.params.all (Tryz.prog.readableRec ·))=true:=by kernel_rfl
theorem B5:(namedTie Tryz.prog Rows.modelTimesRow.named Rows.modelTimesSpec.vars)=true:=by kernel_rfl
theorem B8:((Rows.modelTimesRow.stops == []))=true:=by kernel_rfl
theorem Cq:((Rows.modelTimesRow.knobs == []))=true:=by kernel_rfl
theorem BP:((Rows.modelTimesRow.inPlace==Tryz.prog.inPlace 5))=true:=by kernel_rfl
theorem A4:((Rows.modelTimesRow.unfollowed==Tryz.prog.unfollowed 5))=true:=by kernel_rfl
theorem yP:((Rows.modelTimesRow.recurses==Tryz.prog.recurses 5))=true:=by kernel_rfl
theorem AQ:((Rows.modelTimesRow.named==Tryz.prog.varsNamed 5))=true:=by kernel_rfl
theorem yT:((Rows.modelTimesRow.maps==(Tryz.f5.params.toList++Rows.modelTimesSpec.plain.varTypes Tryz.prog).any (Tryz.prog.mapsRec ·)))=true:=by kernel_rfl
theorem Bg:((Rows.modelTimesRow.ifaces==(Tryz.f5.params.toList++Rows.modelTimesSpec.plain.varTypes Tryz.prog).any (Tryz.prog.ifacesRec ·)))=true:=by kernel_rfl
theorem Ar:((Rows.modelTimesRow.mapsOut==Tryz.prog.mapsAmong Tryz.f5.resultTypes.toList))=true:=by kernel_rfl
theorem yX:((Rows.modelTimesRow.loops==(Tryz.f5.params.toList++Rows.modelTimesSpec.plain.varTypes Tryz.prog).any (Tryz.prog.loopsFrom ·)))=true:=by kernel_rfl
theorem zj:((Rows.modelTimesRow.wideKeys==(Tryz.f5.params.toList++Rows.modelTimesSpec.plain.varTypes Tryz.prog++Tryz.f5.resultTypes.toList).any (Tryz.prog.wideKeysFrom ·)))=true:=by kernel_rfl
theorem yZ:(Rows.modelTimesSpec.vars.all (Tryz.prog.varReadable ·))=true:=by kernel_rfl
theorem Ab:(Tryz.f5.resultTypes.all (fun t=>Tryz.prog.readableRec t&&decide (t<Tryz.prog.types.size)))=true:=by kernel_rfl
theorem zG:((Rows.modelTimesRow.ifacesOut==Tryz.f5.resultTypes.toList.any (Tryz.prog.ifacesRec ·)))=true:=by kernel_rfl
theorem yV:((Rows.modelTimesRow.loopsOut==Tryz.f5.resultTypes.toList.any (Tryz.prog.loopsFrom ·)))=true:=by kernel_rfl
theorem y1:((Rows.modelTimesRow.plainKeys==Tryz.prog.plainKeys))=true:=by rw[Lt];rfl
theorem A9:(Rows.modelTimesRow.shortTexts.isNone)=true:=by kernel_rfl
theorem zT:((Rows.modelTimesRow.lifted==Tryz.prog.liftsFinal))=true:=by rw[It];rfl
theorem zr:((Tryz.prog.make==some Rows.modelTimesRow.make))=true:=by kernel_rfl
theorem Ao:((Rows.modelTimesRow.kinds==(if Rows.modelTimesRow.domain.isEmpty then[] else Tryz.f5.params.toList.map fun t=>match Tryz.prog.underlying t with|some (.int k)=>some k|_=>none)))=true:=by kernel_rfl
theorem AY:((Rows.modelTimesRow.pinned==Rows.modelTimesRow.pinnedBy))=true:=by kernel_rfl
theorem y_:((Rows.modelTimesRow.veiled==(Tryz.f5.params.toList++Rows.modelTimesSpec.plain.varTypes Tryz.prog++Tryz.f5.resultTypes.toList).any (Tryz.prog.veiledRec ·)))=true:=by kernel_rfl
theorem Ae:(Rows.modelTimesRow.veiledFits Tryz.prog Tryz.f5.params.toList (Tryz.f5.params.toList++Rows.modelTimesSpec.plain.varTypes Tryz.prog++Tryz.f5.resultTypes.toList))=true:=by kernel_rfl
set_option maxRecDepth 100000 in
theorem vo:joinedFacts Tryz.prog 5 Tryz.f5 Rows.modelTimesSpec Rows.modelTimesRow=true:=by
 unfold joinedFacts
 exact(jB (jB (jB (jB (jB (jB (jB (jB (jB (jB (jB (jB (jB (jB (jB (jB (jB (jB (jB (jB (jB (jB (jB (jB (jB (jB (jB (jB (jB (jB (jB BN Kq) Ug) BJ) B5) B8) Ur) Cq) S9) BP) A4) yP) AQ) yT) Bg) Ar) yX) zj) yZ) Ab) zG) yV) y1) A9) Pe) M4) zT) zr) Ao) AY) y_) Ae)
theorem Cg:∀(H:Type) (ds:List (DataW H)),ds.length=Tryz.f5.params.size→Rows.modelTimesSpec.fn H ds={results:=[.lit (.bool true)],args:=ds}:=fun H ds h=>by
 have h:ds.length=3:=h
 rcases ds with _|⟨d1,_|⟨d2,_|⟨d3,_|⟨d4,ds⟩⟩⟩⟩<;>first|rfl|(exact absurd h (by simp))
set_option maxRecDepth 100000 in
theorem vx(os:Os)(started:os.Started)(H:Type)(enc:TypeId×Value→H) :
  ReturnsInHanded {} Tryz.checked os 5 .any (Rows.modelTimesSpec.pre6 enc Tryz.prog Tryz.f5 Rows.modelTimesRow.domain false) (Rows.modelTimesSpec.post enc Tryz.prog Tryz.f5 false true false false):=
 Go.Ev.Jl (C:=Tryz.checked) SD started (by kernel_rfl) Tryz.func5
  (ChangeSpec.witness6 (enc:=enc) (C:=Tryz.checked) false ⟨#[],#[.agg #[.int .i64 0,.int .i64 0,.int .i64 0,.int .i64 0,.int .i64 0,.int .i64 0,.slice none 0 0,.slice none 0 0],.agg #[.int .i64 0,.slice none 0 0,.slice none 0 0,.slice none 0 0,.slice none 0 0,.slice none 0 0,.slice none 0 0,.slice none 0 0],.agg #[.int .i64 0,.slice none 0 0,.slice none 0 0,.slice none 0 0,.slice none 0 0,.slice none 0 0,.slice none 0 0,.slice none 0 0]], []⟩ 8 (by kernel_rfl) (by kernel_rfl) (by kernel_rfl) (by kernel_rfl))
  (fQ:=[(.struct [(.int .i64),(.int .i64),(.int .i64),(.int .i64),(.int .i64),(.int .i64),(.slice .bool),(.slice (.struct [(.slice (.int .i64)),(.slice .bool),(.slice .bool)]))]),(.struct [(.int .i64),(.slice .bool),(.slice (.int .i64)),(.slice (.int .i64)),(.slice (.int .i64)),(.slice (.int .i64)),(.slice (.struct [(.int .i64),(.int .i64),(.int .i64),(.int .i64),(.int .i64),(.slice (.int .u8))])),(.slice (.struct [(.int .i64),(.int .i64),(.int .i64),(.int .i64),(.int .i64),(.int .i64),(.int .i64)]))]),(.struct [(.int .i64),(.slice .bool),(.slice (.int .i64)),(.slice (.int .i64)),(.slice (.int .i64)),(.slice (.int .i64)),(.slice (.struct [(.int .i64),(.int .i64),(.int .i64),(.int .i64),(.int .i64),(.slice (.int .u8))])),(.slice (.struct [(.int .i64),(.int .i64),(.int .i64),(.int .i64),(.int .i64),(.int .i64),(.int .i64)]))])]) (tb:=4) Go.Ev.M.ago (fun x h=>⟨rfl,Go.Ev.M.Yo x h⟩) (by kernel_rfl) rfl Cg (by kernel_rfl) (by kernel_rfl) Kq (by kernel_rfl)
theorem ya:Rows.modelTimesRow.holds Tryz.pinned (OpenSpec.ofChange Rows.modelTimesSpec):=
 OpenClaim.holds_of_wide 5 Tryz.f5 rfl rfl rfl rfl rfl rfl rfl ⟨rfl,rfl,rfl,rfl,rfl⟩ rfl rfl rfl rfl rfl (by kernel_rfl) Tryz.func5 vo
  (of_decide_eq_true (by kernel_rfl)) (by unfold Func.isWrapper;first|(rw[if_pos (by decide +kernel)];kernel_rfl)|(rw[if_neg (by decide +kernel)];exact⟨rfl,rfl⟩))
  (fun os started H enc _=>vx os started H enc)
theorem modelTimes_holds:Rows.ModelTimesSaid:=ya
end Go.Proofs.YtjceiokllpmnkaaGreat
