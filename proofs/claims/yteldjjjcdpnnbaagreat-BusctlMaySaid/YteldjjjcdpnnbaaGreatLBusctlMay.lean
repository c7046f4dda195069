/-
  PROVED: Rows.BusctlMaySaid. Conditions: none.
-/
import Derived.Test.YteldjjjcdpnnbaaGreatRows
import Derived.Test.YteldjjjcdpnnbaaGreatF
import Derived.Test.YteldjjjcdpnnbaaGreatBm
namespace Go.Proofs.YteldjjjcdpnnbaaGreat
open Go.ChangeShapes Go.WideShapes Go.ChangeAt Go.RowKit
theorem Bp:(Rows.busctlMayRow.wf (OpenSpec.ofChange Rows.busctlMaySpec))=true:=by kernel_rfl
theorem Al:(Tryz.f11.params.all (Tryz.prog.readableRec ·))=true:=by kernel_rfl
theorem BM:(namedTie Tryz.prog Rows.busctlMayRow.named Rows.busctlMaySpec.vars)=true:=by kernel_rfl
theorem Ai:((Rows.busctlMayRow.stops == []))=true:=by kernel_rfl
theorem Az:((Rows.busctlMayRow.knobs == []))=true:=by kernel_rfl
theorem Ax:((Rows.busctlMayRow.inPlace==Tryz.prog.inPlace 11))=true:=by kernel_rfl
theorem xY:((Rows.busctlMayRow.unfollowed==Tryz.prog.unfollowed 11))=true:=by kernel_rfl
theorem yk:((Rows.busctlMayRow.recurses==Tryz.prog.recurses 11))=true:=by kernel_rfl
theorem yS:((Rows.busctlMayRow.named==Tryz.prog.varsNamed 11))=true:=by kernel_rfl
theorem yx:((Rows.busctlMayRow.maps==(Tryz.f11.params.toList++Rows.busctlMaySpec.plain.varTypes Tryz.prog).any (Tryz.prog.mapsRec ·)))=true:=by kernel_rfl
theorem yl:((Rows.busctlMayRow.ifaces==(Tryz.f11.params.toList++Rows.busctlMaySpec.plain.varTypes Tryz.prog).any (Tryz.prog.ifacesRec ·)))=true:=by kernel_rfl
theorem yj:((Rows.busctlMayRow.mapsOut==Tryz.prog.mapsAmong Tryz.f11.resultTypes.toList))=true:=by kernel_rfl
theorem ye:((Rows.busctlMayRow.loops==(Tryz.f11.params.toList++Rows.busctlMaySpec.plain.varTypes Tryz.prog).any (Tryz.prog.loopsFrom ·)))=true:=by kernel_rfl
theorem yr:((Rows.busctlMayRow.wideKeys==(Tryz.f11.params.toList++Rows.busctlMaySpec.plain.varTypes Tryz.prog++Tryz.f11.resultTypes.toList).any (Tryz.prog.wideKeysFrom ·)))=true:=by kernel_rfl
theorem xP:(Rows.busctlMaySpec.vars.all (Tryz.prog.varReadable ·))=true:=by kernel_rfl
theorem xM:(Tryz.f11.resultTypes.all (fun t=>Tryz.prog.readableRec t&&decide (t<Tryz.prog.types.size)))=true:=by kernel_rfl
theorem yR:((Rows.busctlMayRow.ifacesOut==Tryz.f11.resultTypes.toList.any (Tryz.prog.ifacesRec ·)))=true:=by kernel_rfl
theorem xX:((Rows.busctlMayRow.loopsOut==Tryz.f11.resultTypes.toList.any (Tryz.prog.loopsFrom ·)))=true:=by kernel_rfl
theorem xW:((Rows.busctlMayRow.plainKeys==Tryz.prog.plainKeys))=true:=by rw[sF];rfl
theorem xO:(Rows.busctlMayRow.shortTexts.isNone)=true:=by kernel_rfl
theorem yc:((Rows.busctlMayRow.lifted==Tryz.prog.liftsFinal))=true:=by rw[p_];rfl
theorem yt:((Tryz.prog.make==some Rows.busctlMayRow.make))=true:=by kernel_rfl
theorem yg:((Rows.busctlMayRow.kinds==(if Rows.busctlMayRow.domain.isEmpty then[] else Tryz.f11.params.toList.map fun t=>match Tryz.prog.underlying t with|some (.int k)=>some k|_=>none)))=true:=by kernel_rfl
theorem yu:((Rows.busctlMayRow.pinned==Rows.busctlMayRow.pinnedBy))=true:=by kernel_rfl
theorem x8:((Rows.busctlMayRow.veiled==(Tryz.f11.params.toList++Rows.busctlMaySpec.plain.varTypes Tryz.prog++Tryz.f11.resultTypes.toList).any (Tryz.prog.veiledRec ·)))=true:=by kernel_rfl
theorem xN:(Rows.busctlMayRow.veiledFits Tryz.prog Tryz.f11.params.toList (Tryz.f11.params.toList++Rows.busctlMaySpec.plain.varTypes Tryz.prog++Tryz.f11.resultTypes.toList))=true:=by kernel_rfl
set_option maxRecDepth 100000 in
theorem sT:joinedFacts Tryz.prog 11 Tryz.f11 Rows.busctlMaySpec Rows.busctlMayRow=true:=by
 unfold joinedFacts
 exact(bI (bI (bI (bI (bI (bI (bI (bI (bI (bI (bI (bI (bI (bI (bI (bI (bI (bI (bI (bI (bI (bI (bI (bI (bI (bI (bI (bI (bI (bI (bI Bp oP) Aq) Al) BM) Ai) A_) Az) AQ) Ax) xY) yk) yS) yx) yl) yj) ye) yr) xP) xM) yR) xX) xW) xO) xH) vy) yc) yt) yg) yu) x8) xN)
theorem BB:∀(H:Type) (ds:List (DataW H)),ds.length=Tryz.f11.params.size→Rows.busctlMaySpec.fn H ds={results:=[.lit (.bool true)],args:=ds}:=fun H ds h=>by
 have h:ds.length=6:=h
 rcases ds with _|⟨d1,_|⟨d2,_|⟨d3,_|⟨d4,_|⟨d5,_|⟨d6,_|⟨d7,ds⟩⟩⟩⟩⟩⟩⟩<;>first|rfl|(exact absurd h (by simp))
set_option maxRecDepth 100000 in
theorem rW(os:Os)(started:os.Started)(H:Type)(enc:TypeId×Value→H) :
  ReturnsInHanded {} Tryz.checked os 11 .any (Rows.busctlMaySpec.pre6 enc Tryz.prog Tryz.f11 Rows.busctlMayRow.domain false) (Rows.busctlMaySpec.post enc Tryz.prog Tryz.f11 false true false false):=
 Go.Ev.pO (C:=Tryz.checked) wV started (by kernel_rfl) Tryz.func11
  (ChangeSpec.witness6 (enc:=enc) (C:=Tryz.checked) false ⟨#[],#[.agg #[.int .i64 0,.int .i64 0,.int .i64 0,.int .i64 0,.int .i64 0,.int .i64 0,.slice none 0 0,.slice none 0 0],.agg #[.int .i64 0,.int .i64 0,.int .i64 0,.int .i64 0,.int .i64 0,.int .i64 0,.int .i64 0,.int .i64 0,.int .i64 0,.int .i64 0,.int .i64 0,.int .i64 0,.int .i64 0,.int .i64 0,.int .i64 0,.bool false,.int .i64 0,.int .i64 0,.slice none 0 0,.slice none 0 0,.int .i64 0,.int .i64 0],.int .i64 0,.bool false,.agg #[.int .i64 0,.int .i64 0,.int .i64 0,.int .i64 0,.int .i64 0,.slice none 0 0],.slice none 0 0], []⟩ 8 (by kernel_rfl) (by kernel_rfl) (by kernel_rfl) (by kernel_rfl))
  (xb:=[(.struct [(.int .i64),(.int .i64),(.int .i64),(.int .i64),(.int .i64),(.int .i64),(.slice .bool),(.slice (.struct [(.slice (.int .i64)),(.slice .bool),(.slice .bool)]))]),(.struct [(.int .i64),(.int .i64),(.struct [(.int .i64),(.int .i64),(.int .i64),(.int .i64),(.int .i64)]),(.struct [(.int .i64),(.int .i64),(.int .i64),(.int .i64),(.int .i64),(.int .i64),(.int .i64)]),(.int .i64),.bool,(.int .i64),(.struct [(.int .i64),(.slice (.int .u8)),(.slice (.struct [(.slice (.int .u8)),(.int .i64)])),(.int .i64),(.int .i64)])]),(.int .i64),.bool,(.struct [(.int .i64),(.int .i64),(.int .i64),(.int .i64),(.int .i64),(.slice (.int .u8))]),(.slice (.struct [(.int .i64),(.int .i64),(.struct [(.int .i64),(.slice (.int .u8))])]))]) (tb:=4) Go.Ev.M.XE (fun x h=>⟨rfl,Go.Ev.M.RI x h⟩) (by kernel_rfl) rfl BB (by kernel_rfl) (by kernel_rfl) oP (by kernel_rfl)
theorem wO:Rows.busctlMayRow.holds Tryz.pinned (OpenSpec.ofChange Rows.busctlMaySpec):=
 OpenClaim.holds_of_wide 11 Tryz.f11 rfl rfl rfl rfl rfl rfl rfl ⟨rfl,rfl,rfl,rfl,rfl⟩ rfl rfl rfl rfl rfl (by kernel_rfl) Tryz.func11 sT
  (of_decide_eq_true (by kernel_rfl)) (by unfold Func.isWrapper;first|(rw[if_pos (by decide +kernel)];kernel_rfl)|(rw[if_neg (by decide +kernel)];exact⟨rfl,rfl⟩))
  (fun os started H enc _=>rW os started H enc)
theorem busctlMay_holds:Rows.BusctlMaySaid:=wO
end Go.Proofs.YteldjjjcdpnnbaaGreat
