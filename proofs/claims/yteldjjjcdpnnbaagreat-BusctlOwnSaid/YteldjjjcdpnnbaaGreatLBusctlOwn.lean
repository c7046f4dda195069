/-
  PROVED: Rows.BusctlOwnSaid. Conditions: none.
-/
import Derived.Test.YteldjjjcdpnnbaaGreatRows
import Derived.Test.YteldjjjcdpnnbaaGreatF
import Derived.Test.YteldjjjcdpnnbaaGreatLo
namespace Go.Proofs.YteldjjjcdpnnbaaGreat
open Go.ChangeShapes Go.WideShapes Go.ChangeAt Go.RowKit
theorem wT:(Rows.busctlOwnRow.wf (OpenSpec.ofChange Rows.busctlOwnSpec))=true:=by kernel_rfl
theorem xe:(Tryz.f6.params.all (Tryz.prog.readableRec ·))=true:=by kernel_rfl
theorem wV:(namedTie Tryz.prog Rows.busctlOwnRow.named Rows.busctlOwnSpec.vars)=true:=by kernel_rfl
theorem w9:((Rows.busctlOwnRow.stops == []))=true:=by kernel_rfl
theorem wR:((Rows.busctlOwnRow.knobs == []))=true:=by kernel_rfl
theorem xj:((Rows.busctlOwnRow.inPlace==Tryz.prog.inPlace 6))=true:=by kernel_rfl
theorem uB:((Rows.busctlOwnRow.unfollowed==Tryz.prog.unfollowed 6))=true:=by kernel_rfl
theorem u7:((Rows.busctlOwnRow.recurses==Tryz.prog.recurses 6))=true:=by kernel_rfl
theorem uV:((Rows.busctlOwnRow.named==Tryz.prog.varsNamed 6))=true:=by kernel_rfl
theorem uz:((Rows.busctlOwnRow.maps==(Tryz.f6.params.toList++Rows.busctlOwnSpec.plain.varTypes Tryz.prog).any (Tryz.prog.mapsRec ·)))=true:=by kernel_rfl
theorem uY:((Rows.busctlOwnRow.ifaces==(Tryz.f6.params.toList++Rows.busctlOwnSpec.plain.varTypes Tryz.prog).any (Tryz.prog.ifacesRec ·)))=true:=by kernel_rfl
theorem uX:((Rows.busctlOwnRow.mapsOut==Tryz.prog.mapsAmong Tryz.f6.resultTypes.toList))=true:=by kernel_rfl
theorem uP:((Rows.busctlOwnRow.loops==(Tryz.f6.params.toList++Rows.busctlOwnSpec.plain.varTypes Tryz.prog).any (Tryz.prog.loopsFrom ·)))=true:=by kernel_rfl
theorem uW:((Rows.busctlOwnRow.wideKeys==(Tryz.f6.params.toList++Rows.busctlOwnSpec.plain.varTypes Tryz.prog++Tryz.f6.resultTypes.toList).any (Tryz.prog.wideKeysFrom ·)))=true:=by kernel_rfl
theorem uL:(Rows.busctlOwnSpec.vars.all (Tryz.prog.varReadable ·))=true:=by kernel_rfl
theorem u5:(Tryz.f6.resultTypes.all (fun t=>Tryz.prog.readableRec t&&decide (t<Tryz.prog.types.size)))=true:=by kernel_rfl
theorem uu:((Rows.busctlOwnRow.ifacesOut==Tryz.f6.resultTypes.toList.any (Tryz.prog.ifacesRec ·)))=true:=by kernel_rfl
theorem uJ:((Rows.busctlOwnRow.loopsOut==Tryz.f6.resultTypes.toList.any (Tryz.prog.loopsFrom ·)))=true:=by kernel_rfl
theorem uv:((Rows.busctlOwnRow.plainKeys==Tryz.prog.plainKeys))=true:=by rw[CL];rfl
theorem uj:(Rows.busctlOwnRow.shortTexts.isNone)=true:=by kernel_rfl
theorem uk:((Rows.busctlOwnRow.lifted==Tryz.prog.liftsFinal))=true:=by rw[zp];rfl
theorem uM:((Tryz.prog.make==some Rows.busctlOwnRow.make))=true:=by kernel_rfl
theorem uy:((Rows.busctlOwnRow.kinds==(if Rows.busctlOwnRow.domain.isEmpty then[] else Tryz.f6.params.toList.map fun t=>match Tryz.prog.underlying t with|some (.int k)=>some k|_=>none)))=true:=by kernel_rfl
theorem uU:((Rows.busctlOwnRow.pinned==Rows.busctlOwnRow.pinnedBy))=true:=by kernel_rfl
theorem ul:((Rows.busctlOwnRow.veiled==(Tryz.f6.params.toList++Rows.busctlOwnSpec.plain.varTypes Tryz.prog++Tryz.f6.resultTypes.toList).any (Tryz.prog.veiledRec ·)))=true:=by kernel_rfl
theorem uQ:(Rows.busctlOwnRow.veiledFits Tryz.prog Tryz.f6.params.toList (Tryz.f6.params.toList++Rows.busctlOwnSpec.plain.varTypes Tryz.prog++Tryz.f6.resultTypes.toList))=true:=by kernel_rfl
set_option maxRecDepth 100000 in
theorem pV:joinedFacts Tryz.prog 6 Tryz.f6 Rows.busctlOwnSpec Rows.busctlOwnRow=true:=by
 unfold joinedFacts
 exact(gf (gf (gf (gf (gf (gf (gf (gf (gf (gf (gf (gf (gf (gf (gf (gf (gf (gf (gf (gf (gf (gf (gf (gf (gf (gf (gf (gf (gf (gf (gf wT Bp) IY) xe) wV) w9) Iv) wR) GH) xj) uB) u7) uV) uz) uY) uX) uP) uW) uL) u5) uu) uJ) uv) uj) ED) C6) uk) uM) uy) uU) ul) uQ)
theorem wy:∀(H:Type) (ds:List (DataW H)),ds.length=Tryz.f6.params.size→Rows.busctlOwnSpec.fn H ds={results:=[.lit (.bool true)],args:=ds}:=fun H ds h=>by
 have h:ds.length=2:=h
 rcases ds with _|⟨d1,_|⟨d2,_|⟨d3,ds⟩⟩⟩<;>first|rfl|(exact absurd h (by simp))
set_option maxRecDepth 100000 in
theorem qc(os:Os)(started:os.Started)(H:Type)(enc:TypeId×Value→H) :
  ReturnsInHanded {} Tryz.checked os 6 .any (Rows.busctlOwnSpec.pre6 enc Tryz.prog Tryz.f6 Rows.busctlOwnRow.domain false) (Rows.busctlOwnSpec.post enc Tryz.prog Tryz.f6 false true false false):=
 Go.Ev.zM (C:=Tryz.checked) Du started (by kernel_rfl) Tryz.func6
  (ChangeSpec.witness6 (enc:=enc) (C:=Tryz.checked) false ⟨#[],#[.agg #[.int .i64 0,.int .i64 0,.int .i64 0,.int .i64 0,.int .i64 0,.int .i64 0,.slice none 0 0,.slice none 0 0],.agg #[.int .i64 0,.int .i64 0,.int .i64 0,.int .i64 0,.int .i64 0,.int .i64 0,.int .i64 0,.int .i64 0,.int .i64 0,.int .i64 0,.int .i64 0,.int .i64 0,.int .i64 0,.int .i64 0,.int .i64 0,.bool false,.int .i64 0,.int .i64 0,.slice none 0 0,.slice none 0 0,.int .i64 0,.int .i64 0]], []⟩ 8 (by kernel_rfl) (by kernel_rfl) (by kernel_rfl) (by kernel_rfl))
  (uF:=[(.struct [(.int .i64),(.int .i64),(.int .i64),(.int .i64),(.int .i64),(.int .i64),(.slice .bool),(.slice (.struct [(.slice (.int .i64)),(.slice .bool),(.slice .bool)]))]),(.struct [(.int .i64),(.int .i64),(.struct [(.int .i64),(.int .i64),(.int .i64),(.int .i64),(.int .i64)]),(.struct [(.int .i64),(.int .i64),(.int .i64),(.int .i64),(.int .i64),(.int .i64),(.int .i64)]),(.int .i64),.bool,(.int .i64),(.struct [(.int .i64),(.slice (.int .u8)),(.slice (.struct [(.slice (.int .u8)),(.int .i64)])),(.int .i64),(.int .i64)])])]) (tb:=4) Go.Ev.M.SV (fun x h=>⟨rfl,Go.Ev.M.NJ x h⟩) (by kernel_rfl) rfl wy (by kernel_rfl) (by kernel_rfl) Bp (by kernel_rfl)
theorem tJ:Rows.busctlOwnRow.holds Tryz.pinned (OpenSpec.ofChange Rows.busctlOwnSpec):=
 OpenClaim.holds_of_wide 6 Tryz.f6 rfl rfl rfl rfl rfl rfl rfl ⟨rfl,rfl,rfl,rfl,rfl⟩ rfl rfl rfl rfl rfl (by kernel_rfl) Tryz.func6 pV
  (of_decide_eq_true (by kernel_rfl)) (by unfold Func.isWrapper;first|(rw[if_pos (by decide +kernel)];kernel_rfl)|(rw[if_neg (by decide +kernel)];exact⟨rfl,rfl⟩))
  (fun os started H enc _=>qc os started H enc)
theorem busctlOwn_holds:Rows.BusctlOwnSaid:=tJ
end Go.Proofs.YteldjjjcdpnnbaaGreat
