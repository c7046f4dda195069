/-
  PROVED: Rows.StarctlMaySaid. Conditions: none.
-/
import Derived.Test.YteldjjjcdpnnbaaGreatRows
import Derived.Test.YteldjjjcdpnnbaaGreatF
import Derived.Test.YteldjjjcdpnnbaaGreatSm
namespace Go.Proofs.YteldjjjcdpnnbaaGreat
open Go.ChangeShapes Go.WideShapes Go.ChangeAt Go.RowKit
theorem yE:(Rows.starctlMayRow.wf (OpenSpec.ofChange Rows.starctlMaySpec))=true:=by kernel_rfl
theorem yh:(Tryz.f12.params.all (Tryz.prog.readableRec ·))=true:=by kernel_rfl
theorem yW:(namedTie Tryz.prog Rows.starctlMayRow.named Rows.starctlMaySpec.vars)=true:=by kernel_rfl
theorem yw:((Rows.starctlMayRow.stops == []))=true:=by kernel_rfl
theorem yK:((Rows.starctlMayRow.knobs == []))=true:=by kernel_rfl
theorem yL:((Rows.starctlMayRow.inPlace==Tryz.prog.inPlace 12))=true:=by kernel_rfl
theorem wW:((Rows.starctlMayRow.unfollowed==Tryz.prog.unfollowed 12))=true:=by kernel_rfl
theorem wh:((Rows.starctlMayRow.recurses==Tryz.prog.recurses 12))=true:=by kernel_rfl
theorem wQ:((Rows.starctlMayRow.named==Tryz.prog.varsNamed 12))=true:=by kernel_rfl
theorem vd:((Rows.starctlMayRow.maps==(Tryz.f12.params.toList++Rows.starctlMaySpec.plain.varTypes Tryz.prog).any (Tryz.prog.mapsRec ·)))=true:=by kernel_rfl
theorem wC:((Rows.starctlMayRow.ifaces==(Tryz.f12.params.toList++Rows.starctlMaySpec.plain.varTypes Tryz.prog).any (Tryz.prog.ifacesRec ·)))=true:=by kernel_rfl
theorem xu:((Rows.starctlMayRow.mapsOut==Tryz.prog.mapsAmong Tryz.f12.resultTypes.toList))=true:=by kernel_rfl
theorem wX:((Rows.starctlMayRow.loops==(Tryz.f12.params.toList++Rows.starctlMaySpec.plain.varTypes Tryz.prog).any (Tryz.prog.loopsFrom ·)))=true:=by kernel_rfl
theorem uU:((Rows.starctlMayRow.wideKeys==(Tryz.f12.params.toList++Rows.starctlMaySpec.plain.varTypes Tryz.prog++Tryz.f12.resultTypes.toList).any (Tryz.prog.wideKeysFrom ·)))=true:=by kernel_rfl
theorem vK:(Rows.starctlMaySpec.vars.all (Tryz.prog.varReadable ·))=true:=by kernel_rfl
theorem wz:(Tryz.f12.resultTypes.all (fun t=>Tryz.prog.readableRec t&&decide (t<Tryz.prog.types.size)))=true:=by kernel_rfl
theorem wL:((Rows.starctlMayRow.ifacesOut==Tryz.f12.resultTypes.toList.any (Tryz.prog.ifacesRec ·)))=true:=by kernel_rfl
theorem xd:((Rows.starctlMayRow.loopsOut==Tryz.f12.resultTypes.toList.any (Tryz.prog.loopsFrom ·)))=true:=by kernel_rfl
theorem xG:((Rows.starctlMayRow.plainKeys==Tryz.prog.plainKeys))=true:=by rw[sF];rfl
theorem u6:(Rows.starctlMayRow.shortTexts.isNone)=true:=by kernel_rfl
theorem vt:((Rows.starctlMayRow.lifted==Tryz.prog.liftsFinal))=true:=by rw[p_];rfl
theorem uV:((Tryz.prog.make==some Rows.starctlMayRow.make))=true:=by kernel_rfl
theorem xB:((Rows.starctlMayRow.kinds==(if Rows.starctlMayRow.domain.isEmpty then[] else Tryz.f12.params.toList.map fun t=>match Tryz.prog.underlying t with|some (.int k)=>some k|_=>none)))=true:=by kernel_rfl
theorem wj:((Rows.starctlMayRow.pinned==Rows.starctlMayRow.pinnedBy))=true:=by kernel_rfl
theorem wG:((Rows.starctlMayRow.veiled==(Tryz.f12.params.toList++Rows.starctlMaySpec.plain.varTypes Tryz.prog++Tryz.f12.resultTypes.toList).any (Tryz.prog.veiledRec ·)))=true:=by kernel_rfl
theorem xE:(Rows.starctlMayRow.veiledFits Tryz.prog Tryz.f12.params.toList (Tryz.f12.params.toList++Rows.starctlMaySpec.plain.varTypes Tryz.prog++Tryz.f12.resultTypes.toList))=true:=by kernel_rfl
set_option maxRecDepth 100000 in
theorem qS:joinedFacts Tryz.prog 12 Tryz.f12 Rows.starctlMaySpec Rows.starctlMayRow=true:=by
 unfold joinedFacts
 exact(bI (bI (bI (bI (bI (bI (bI (bI (bI (bI (bI (bI (bI (bI (bI (bI (bI (bI (bI (bI (bI (bI (bI (bI (bI (bI (bI (bI (bI (bI (bI yE oP) Aq) yh) yW) yw) A_) yK) AQ) yL) wW) wh) wQ) vd) wC) xu) wX) uU) vK) wz) wL) xd) xG) u6) xH) vy) vt) uV) xB) wj) wG) xE)
theorem xR:∀(H:Type) (ds:List (DataW H)),ds.length=Tryz.f12.params.size→Rows.starctlMaySpec.fn H ds={results:=[.lit (.bool true)],args:=ds}:=fun H ds h=>by
 have h:ds.length=6:=h
 rcases ds with _|⟨d1,_|⟨d2,_|⟨d3,_|⟨d4,_|⟨d5,_|⟨d6,_|⟨d7,ds⟩⟩⟩⟩⟩⟩⟩<;>first|rfl|(exact absurd h (by simp))
set_option maxRecDepth 100000 in
theorem q9(os:Os)(started:os.Started)(H:Type)(enc:TypeId×Value→H) :
  ReturnsInHanded {} Tryz.checked os 12 .any (Rows.starctlMaySpec.pre6 enc Tryz.prog Tryz.f12 Rows.starctlMayRow.domain false) (Rows.starctlMaySpec.post enc Tryz.prog Tryz.f12 false true false false):=
 Go.Ev.pO (C:=Tryz.checked) wV started (by kernel_rfl) Tryz.func12
  (ChangeSpec.witness6 (enc:=enc) (C:=Tryz.checked) false ⟨#[],#[.agg #[.int .i64 0,.int .i64 0,.int .i64 0,.int .i64 0,.int .i64 0,.int .i64 0,.slice none 0 0,.slice none 0 0],.agg #[.int .i64 0,.int .i64 0,.int .i64 0,.int .i64 0,.int .i64 0,.int .i64 0,.int .i64 0,.int .i64 0,.int .i64 0,.int .i64 0,.int .i64 0,.int .i64 0,.int .i64 0,.int .i64 0,.int .i64 0,.bool false,.int .i64 0,.int .i64 0,.slice none 0 0,.slice none 0 0,.int .i64 0,.int .i64 0],.int .i64 0,.bool false,.agg #[.int .i64 0,.int .i64 0,.int .i64 0,.int .i64 0,.int .i64 0,.slice none 0 0],.slice none 0 0], []⟩ 8 (by kernel_rfl) (by kernel_rfl) (by kernel_rfl) (by kernel_rfl))
  (xb:=[(.struct [(.int .i64),(.int .i64),(.int .i64),(.int .i64),(.int .i64),(.int .i64),(.slice .bool),(.slice (.struct [(.slice (.int .i64)),(.slice .bool),(.slice .bool)]))]),(.struct [(.int .i64),(.int .i64),(.struct [(.int .i64),(.int .i64),(.int .i64),(.int .i64),(.int .i64)]),(.struct [(.int .i64),(.int .i64),(.int .i64),(.int .i64),(.int .i64),(.int .i64),(.int .i64)]),(.int .i64),.bool,(.int .i64),(.struct [(.int .i64),(.slice (.int .u8)),(.slice (.struct [(.slice (.int .u8)),(.int .i64)])),(.int .i64),(.int .i64)])]),(.int .i64),.bool,(.struct [(.int .i64),(.int .i64),(.int .i64),(.int .i64),(.int .i64),(.slice (.int .u8))]),(.slice (.struct [(.int .i64),(.int .i64),(.struct [(.int .i64),(.slice (.int .u8))])]))]) (tb:=4) Go.Ev.M.ZW (fun x h=>⟨rfl,Go.Ev.M.SL x h⟩) (by kernel_rfl) rfl xR (by kernel_rfl) (by kernel_rfl) oP (by kernel_rfl)
theorem uv:Rows.starctlMayRow.holds Tryz.pinned (OpenSpec.ofChange Rows.starctlMaySpec):=
 OpenClaim.holds_of_wide 12 Tryz.f12 rfl rfl rfl rfl rfl rfl rfl ⟨rfl,rfl,rfl,rfl,rfl⟩ rfl rfl rfl rfl rfl (by kernel_rfl) Tryz.func12 qS
  (of_decide_eq_true (by kernel_rfl)) (by unfold Func.isWrapper;first|(rw[if_pos (by decide +kernel)];kernel_rfl)|(rw[if_neg (by decide +kernel)];exact⟨rfl,rfl⟩))
  (fun os started H enc _=>q9 os started H enc)
theorem starctlMay_holds:Rows.StarctlMaySaid:=uv
end Go.Proofs.YteldjjjcdpnnbaaGreat
