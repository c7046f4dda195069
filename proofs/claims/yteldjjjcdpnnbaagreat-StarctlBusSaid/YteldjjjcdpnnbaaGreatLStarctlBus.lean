/-
  PROVED: Rows.StarctlBusSaid. Conditions: none.
-/
import Derived.Test.YteldjjjcdpnnbaaGreatRows
import Derived.Test.YteldjjjcdpnnbaaGreatF
import Derived.Test.YteldjjjcdpnnbaaGreatSb
namespace Go.Proofs.YteldjjjcdpnnbaaGreat
open Go.ChangeShapes Go.WideShapes Go.ChangeAt Go.RowKit
theorem Ac:(Rows.starctlBusRow.wf (OpenSpec.ofChange Rows.starctlBusSpec))=true:=by kernel_rfl
theorem AA:(Tryz.f13.params.all (Tryz.prog.readableRec ·))=true:=by kernel_rfl
theorem Az:(namedTie Tryz.prog Rows.starctlBusRow.named Rows.starctlBusSpec.vars)=true:=by kernel_rfl
theorem AJ:((Rows.starctlBusRow.stops == []))=true:=by kernel_rfl
theorem Aj:((Rows.starctlBusRow.knobs == []))=true:=by kernel_rfl
theorem Ap:((Rows.starctlBusRow.inPlace==Tryz.prog.inPlace 13))=true:=by kernel_rfl
theorem xQ:((Rows.starctlBusRow.unfollowed==Tryz.prog.unfollowed 13))=true:=by kernel_rfl
theorem yT:((Rows.starctlBusRow.recurses==Tryz.prog.recurses 13))=true:=by kernel_rfl
theorem yv:((Rows.starctlBusRow.named==Tryz.prog.varsNamed 13))=true:=by kernel_rfl
theorem xD:((Rows.starctlBusRow.maps==(Tryz.f13.params.toList++Rows.starctlBusSpec.plain.varTypes Tryz.prog).any (Tryz.prog.mapsRec ·)))=true:=by kernel_rfl
theorem xf:((Rows.starctlBusRow.ifaces==(Tryz.f13.params.toList++Rows.starctlBusSpec.plain.varTypes Tryz.prog).any (Tryz.prog.ifacesRec ·)))=true:=by kernel_rfl
theorem zA:((Rows.starctlBusRow.mapsOut==Tryz.prog.mapsAmong Tryz.f13.resultTypes.toList))=true:=by kernel_rfl
theorem yq:((Rows.starctlBusRow.loops==(Tryz.f13.params.toList++Rows.starctlBusSpec.plain.varTypes Tryz.prog).any (Tryz.prog.loopsFrom ·)))=true:=by kernel_rfl
theorem xX:((Rows.starctlBusRow.wideKeys==(Tryz.f13.params.toList++Rows.starctlBusSpec.plain.varTypes Tryz.prog++Tryz.f13.resultTypes.toList).any (Tryz.prog.wideKeysFrom ·)))=true:=by kernel_rfl
theorem xh:(Rows.starctlBusSpec.vars.all (Tryz.prog.varReadable ·))=true:=by kernel_rfl
theorem xm:(Tryz.f13.resultTypes.all (fun t=>Tryz.prog.readableRec t&&decide (t<Tryz.prog.types.size)))=true:=by kernel_rfl
theorem xZ:((Rows.starctlBusRow.ifacesOut==Tryz.f13.resultTypes.toList.any (Tryz.prog.ifacesRec ·)))=true:=by kernel_rfl
theorem zz:((Rows.starctlBusRow.loopsOut==Tryz.f13.resultTypes.toList.any (Tryz.prog.loopsFrom ·)))=true:=by kernel_rfl
theorem y_:((Rows.starctlBusRow.plainKeys==Tryz.prog.plainKeys))=true:=by rw[pH];rfl
theorem ym:(Rows.starctlBusRow.shortTexts.isNone)=true:=by kernel_rfl
theorem zo:((Rows.starctlBusRow.lifted==Tryz.prog.liftsFinal))=true:=by rw[nG];rfl
theorem yj:((Tryz.prog.make==some Rows.starctlBusRow.make))=true:=by kernel_rfl
theorem yK:((Rows.starctlBusRow.kinds==(if Rows.starctlBusRow.domain.isEmpty then[] else Tryz.f13.params.toList.map fun t=>match Tryz.prog.underlying t with|some (.int k)=>some k|_=>none)))=true:=by kernel_rfl
theorem zj:((Rows.starctlBusRow.pinned==Rows.starctlBusRow.pinnedBy))=true:=by kernel_rfl
theorem yG:((Rows.starctlBusRow.veiled==(Tryz.f13.params.toList++Rows.starctlBusSpec.plain.varTypes Tryz.prog++Tryz.f13.resultTypes.toList).any (Tryz.prog.veiledRec ·)))=true:=by kernel_rfl
theorem xd:(Rows.starctlBusRow.veiledFits Tryz.prog Tryz.f13.params.toList (Tryz.f13.params.toList++Rows.starctlBusSpec.plain.varTypes Tryz.prog++Tryz.f13.resultTypes.toList))=true:=by kernel_rfl
set_option maxRecDepth 100000 in
theorem qZ:joinedFacts Tryz.prog 13 Tryz.f13 Rows.starctlBusSpec Rows.starctlBusRow=true:=by
 unfold joinedFacts
 exact(bq (bq (bq (bq (bq (bq (bq (bq (bq (bq (bq (bq (bq (bq (bq (bq (bq (bq (bq (bq (bq (bq (bq (bq (bq (bq (bq (bq (bq (bq (bq Ac lU) w_) AA) Az) AJ) wW) Aj) w5) Ap) xQ) yT) yv) xD) xf) zA) yq) xX) xh) xm) xZ) zz) y_) ym) rm) rW) zo) yj) yK) zj) yG) xd)
theorem AI:∀(H:Type) (ds:List (DataW H)),ds.length=Tryz.f13.params.size→Rows.starctlBusSpec.fn H ds={results:=[.lit (.bool true)],args:=ds}:=fun H ds h=>by
 have h:ds.length=3:=h
 rcases ds with _|⟨d1,_|⟨d2,_|⟨d3,_|⟨d4,ds⟩⟩⟩⟩<;>first|rfl|(exact absurd h (by simp))
set_option maxRecDepth 100000 in
theorem rM(os:Os)(started:os.Started)(H:Type)(enc:TypeId×Value→H) :
  ReturnsInHanded {} Tryz.checked os 13 .any (Rows.starctlBusSpec.pre6 enc Tryz.prog Tryz.f13 Rows.starctlBusRow.domain false) (Rows.starctlBusSpec.post enc Tryz.prog Tryz.f13 false true false false):=
 Go.Ev.nI (C:=Tryz.checked) r8 started (by kernel_rfl) Tryz.func13
  (ChangeSpec.witness6 (enc:=enc) (C:=Tryz.checked) false ⟨#[],#[.agg #[.int .i64 0,.int .i64 0,.int .i64 0,.int .i64 0,.int .i64 0,.int .i64 0,.slice none 0 0,.slice none 0 0],.agg #[.int .i64 0,.int .i64 0,.int .i64 0,.int .i64 0,.int .i64 0,.int .i64 0,.int .i64 0,.int .i64 0,.int .i64 0,.int .i64 0,.int .i64 0,.int .i64 0,.int .i64 0,.int .i64 0,.int .i64 0,.bool false,.int .i64 0,.int .i64 0,.slice none 0 0,.slice none 0 0,.int .i64 0,.int .i64 0],.slice none 0 0], []⟩ 8 (by kernel_rfl) (by kernel_rfl) (by kernel_rfl) (by kernel_rfl))
  (wO:=[(.struct [(.int .i64),(.int .i64),(.int .i64),(.int .i64),(.int .i64),(.int .i64),(.slice .bool),(.slice (.struct [(.slice (.int .i64)),(.slice .bool),(.slice .bool)]))]),(.struct [(.int .i64),(.int .i64),(.struct [(.int .i64),(.int .i64),(.int .i64),(.int .i64),(.int .i64)]),(.struct [(.int .i64),(.int .i64),(.int .i64),(.int .i64),(.int .i64),(.int .i64),(.int .i64)]),(.int .i64),.bool,(.int .i64),(.struct [(.int .i64),(.slice (.int .u8)),(.slice (.struct [(.slice (.int .u8)),(.int .i64)])),(.int .i64),(.int .i64)])]),(.slice (.struct [(.int .i64),(.int .i64),(.struct [(.int .i64),(.slice (.int .u8))])]))]) (tb:=4) Go.Ev.M.afh (fun x h=>⟨rfl,Go.Ev.M.Tw x h⟩) (by kernel_rfl) rfl AI (by kernel_rfl) (by kernel_rfl) lU (by kernel_rfl)
theorem wy:Rows.starctlBusRow.holds Tryz.pinned (OpenSpec.ofChange Rows.starctlBusSpec):=
 OpenClaim.holds_of_wide 13 Tryz.f13 rfl rfl rfl rfl rfl rfl rfl ⟨rfl,rfl,rfl,rfl,rfl⟩ rfl rfl rfl rfl rfl (by kernel_rfl) Tryz.func13 qZ
  (of_decide_eq_true (by kernel_rfl)) (by unfold Func.isWrapper;first|(rw[if_pos (by decide +kernel)];kernel_rfl)|(rw[if_neg (by decide +kernel)];exact⟨rfl,rfl⟩))
  (fun os started H enc _=>rM os started H enc)
theorem starctlBus_holds:Rows.StarctlBusSaid:=wy
end Go.Proofs.YteldjjjcdpnnbaaGreat
