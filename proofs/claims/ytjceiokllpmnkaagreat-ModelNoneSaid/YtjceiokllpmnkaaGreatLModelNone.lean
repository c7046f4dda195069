/-
  PROVED: Rows.ModelNoneSaid. Conditions: none.
-/
import Derived.Test.YtjceiokllpmnkaaGreatRows
import Derived.Test.YtjceiokllpmnkaaGreatF
import Derived.Test.YtjceiokllpmnkaaGreatNn
namespace Go.Proofs.YtjceiokllpmnkaaGreat
open Go.ChangeShapes Go.WideShapes Go.ChangeAt Go.RowKit
theorem xj:(Rows.modelNoneRow.wf (OpenSpec.ofChange Rows.modelNoneSpec))=true:=by kernel_rfl
theorem wI:(Tryz.f9.params.all (Tryz.prog.readableRec ·))=true:=by kernel_rfl
theorem xF:(namedTie Tryz.prog Rows.modelNoneRow.named Rows.modelNoneSpec.vars)=true:=by kernel_rfl
theorem xD:((Rows.modelNoneRow.stops == []))=true:=by kernel_rfl
theorem xB:((Rows.modelNoneRow.knobs == []))=true:=by kernel_rfl
theorem wD:((Rows.modelNoneRow.inPlace==Tryz.prog.inPlace 9))=true:=by kernel_rfl
theorem ui:((Rows.modelNoneRow.unfollowed==Tryz.prog.unfollowed 9))=true:=by kernel_rfl
theorem uu:((Rows.modelNoneRow.recurses==Tryz.prog.recurses 9))=true:=by kernel_rfl
theorem uf:((Rows.modelNoneRow.named==Tryz.prog.varsNamed 9))=true:=by kernel_rfl
theorem ul:((Rows.modelNoneRow.maps==(Tryz.f9.params.toList++Rows.modelNoneSpec.plain.varTypes Tryz.prog).any (Tryz.prog.mapsRec ·)))=true:=by kernel_rfl
theorem uk:((Rows.modelNoneRow.ifaces==(Tryz.f9.params.toList++Rows.modelNoneSpec.plain.varTypes Tryz.prog).any (Tryz.prog.ifacesRec ·)))=true:=by kernel_rfl
theorem uh:((Rows.modelNoneRow.mapsOut==Tryz.prog.mapsAmong Tryz.f9.resultTypes.toList))=true:=by kernel_rfl
theorem uM:((Rows.modelNoneRow.loops==(Tryz.f9.params.toList++Rows.modelNoneSpec.plain.varTypes Tryz.prog).any (Tryz.prog.loopsFrom ·)))=true:=by kernel_rfl
theorem uG:((Rows.modelNoneRow.wideKeys==(Tryz.f9.params.toList++Rows.modelNoneSpec.plain.varTypes Tryz.prog++Tryz.f9.resultTypes.toList).any (Tryz.prog.wideKeysFrom ·)))=true:=by kernel_rfl
theorem uS:(Rows.modelNoneSpec.vars.all (Tryz.prog.varReadable ·))=true:=by kernel_rfl
theorem ua:(Tryz.f9.resultTypes.all (fun t=>Tryz.prog.readableRec t&&decide (t<Tryz.prog.types.size)))=true:=by kernel_rfl
theorem uv:((Rows.modelNoneRow.ifacesOut==Tryz.f9.resultTypes.toList.any (Tryz.prog.ifacesRec ·)))=true:=by kernel_rfl
theorem uO:((Rows.modelNoneRow.loopsOut==Tryz.f9.resultTypes.toList.any (Tryz.prog.loopsFrom ·)))=true:=by kernel_rfl
theorem uE:((Rows.modelNoneRow.plainKeys==Tryz.prog.plainKeys))=true:=by rw[BO];rfl
theorem uZ:(Rows.modelNoneRow.shortTexts.isNone)=true:=by kernel_rfl
theorem uF:((Rows.modelNoneRow.lifted==Tryz.prog.liftsFinal))=true:=by rw[zQ];rfl
theorem uX:((Tryz.prog.make==some Rows.modelNoneRow.make))=true:=by kernel_rfl
theorem uV:((Rows.modelNoneRow.kinds==(if Rows.modelNoneRow.domain.isEmpty then[] else Tryz.f9.params.toList.map fun t=>match Tryz.prog.underlying t with|some (.int k)=>some k|_=>none)))=true:=by kernel_rfl
theorem u6:((Rows.modelNoneRow.pinned==Rows.modelNoneRow.pinnedBy))=true:=by kernel_rfl
theorem t_:((Rows.modelNoneRow.veiled==(Tryz.f9.params.toList++Rows.modelNoneSpec.plain.varTypes Tryz.prog++Tryz.f9.resultTypes.toList).any (Tryz.prog.veiledRec ·)))=true:=by kernel_rfl
theorem uH:(Rows.modelNoneRow.veiledFits Tryz.prog Tryz.f9.params.toList (Tryz.f9.params.toList++Rows.modelNoneSpec.plain.varTypes Tryz.prog++Tryz.f9.resultTypes.toList))=true:=by kernel_rfl
set_option maxRecDepth 100000 in
theorem pW:joinedFacts Tryz.prog 9 Tryz.f9 Rows.modelNoneSpec Rows.modelNoneRow=true:=by
 unfold joinedFacts
 exact(gi (gi (gi (gi (gi (gi (gi (gi (gi (gi (gi (gi (gi (gi (gi (gi (gi (gi (gi (gi (gi (gi (gi (gi (gi (gi (gi (gi (gi (gi (gi xj Ar) Ie) wI) xF) xD) G2) xB) Ii) wD) ui) uu) uf) ul) uk) uh) uM) uG) uS) ua) uv) uO) uE) uZ) EF) Fq) uF) uX) uV) u6) t_) uH)
theorem wP:∀(H:Type) (ds:List (DataW H)),ds.length=Tryz.f9.params.size→Rows.modelNoneSpec.fn H ds={results:=[.lit (.bool true)],args:=ds}:=fun H ds h=>by
 have h:ds.length=1:=h
 rcases ds with _|⟨d1,_|⟨d2,ds⟩⟩<;>first|rfl|(exact absurd h (by simp))
set_option maxRecDepth 100000 in
theorem pY(os:Os)(started:os.Started)(H:Type)(enc:TypeId×Value→H) :
  ReturnsInHanded {} Tryz.checked os 9 .any (Rows.modelNoneSpec.pre6 enc Tryz.prog Tryz.f9 Rows.modelNoneRow.domain false) (Rows.modelNoneSpec.post enc Tryz.prog Tryz.f9 false true false false):=
 Go.Ev.Aj (C:=Tryz.checked) DX started (by kernel_rfl) Tryz.func9
  (ChangeSpec.witness6 (enc:=enc) (C:=Tryz.checked) false ⟨#[],#[.agg #[.int .i64 0,.slice none 0 0,.slice none 0 0,.slice none 0 0,.slice none 0 0,.slice none 0 0,.slice none 0 0,.slice none 0 0]], []⟩ 8 (by kernel_rfl) (by kernel_rfl) (by kernel_rfl) (by kernel_rfl))
  (tZ:=[(.struct [(.int .i64),(.slice .bool),(.slice (.int .i64)),(.slice (.int .i64)),(.slice (.int .i64)),(.slice (.int .i64)),(.slice (.struct [(.int .i64),(.int .i64),(.int .i64),(.int .i64),(.int .i64),(.slice (.int .u8))])),(.slice (.struct [(.int .i64),(.int .i64),(.int .i64),(.int .i64),(.int .i64),(.int .i64),(.int .i64)]))])]) (tb:=4) Go.Ev.M.P6 (fun x h=>⟨rfl,Go.Ev.M.Kp x h⟩) (by kernel_rfl) rfl wP (by kernel_rfl) (by kernel_rfl) Ar (by kernel_rfl)
theorem tC:Rows.modelNoneRow.holds Tryz.pinned (OpenSpec.ofChange Rows.modelNoneSpec):=
 OpenClaim.holds_of_wide 9 Tryz.f9 rfl rfl rfl rfl rfl rfl rfl ⟨rfl,rfl,rfl,rfl,rfl⟩ rfl rfl rfl rfl rfl (by kernel_rfl) Tryz.func9 pW
  (of_decide_eq_true (by kernel_rfl)) (by unfold Func.isWrapper;first|(rw[if_pos (by decide +kernel)];kernel_rfl)|(rw[if_neg (by decide +kernel)];exact⟨rfl,rfl⟩))
  (fun os started H enc _=>pY os started H enc)
theorem modelNone_holds:Rows.ModelNoneSaid:=tC
end Go.Proofs.YtjceiokllpmnkaaGreat
