/-
  PROVED: Rows.StarctlNodesSaid. Conditions: none.
-/
import Derived.Test.YteldjjjcdpnnbaaGreatRows
import Derived.Test.YteldjjjcdpnnbaaGreatF
import Derived.Test.YteldjjjcdpnnbaaGreatSn
namespace Go.Proofs.YteldjjjcdpnnbaaGreat
open Go.ChangeShapes Go.WideShapes Go.ChangeAt Go.RowKit
theorem wz:(Rows.starctlNodesRow.wf (OpenSpec.ofChange Rows.starctlNodesSpec))=true:=by kernel_rfl
theorem wm:(Tryz.f4.params.all (Tryz.prog.readableRec ·))=true:=by kernel_rfl
theorem v8:(namedTie Tryz.prog Rows.starctlNodesRow.named Rows.starctlNodesSpec.vars)=true:=by kernel_rfl
theorem wC:((Rows.starctlNodesRow.stops == []))=true:=by kernel_rfl
theorem wu:((Rows.starctlNodesRow.knobs == []))=true:=by kernel_rfl
theorem vZ:((Rows.starctlNodesRow.inPlace==Tryz.prog.inPlace 4))=true:=by kernel_rfl
theorem uX:((Rows.starctlNodesRow.unfollowed==Tryz.prog.unfollowed 4))=true:=by kernel_rfl
theorem tN:((Rows.starctlNodesRow.recurses==Tryz.prog.recurses 4))=true:=by kernel_rfl
theorem uk:((Rows.starctlNodesRow.named==Tryz.prog.varsNamed 4))=true:=by kernel_rfl
theorem ul:((Rows.starctlNodesRow.maps==(Tryz.f4.params.toList++Rows.starctlNodesSpec.plain.varTypes Tryz.prog).any (Tryz.prog.mapsRec ·)))=true:=by kernel_rfl
theorem uB:((Rows.starctlNodesRow.ifaces==(Tryz.f4.params.toList++Rows.starctlNodesSpec.plain.varTypes Tryz.prog).any (Tryz.prog.ifacesRec ·)))=true:=by kernel_rfl
theorem uL:((Rows.starctlNodesRow.mapsOut==Tryz.prog.mapsAmong Tryz.f4.resultTypes.toList))=true:=by kernel_rfl
theorem uF:((Rows.starctlNodesRow.loops==(Tryz.f4.params.toList++Rows.starctlNodesSpec.plain.varTypes Tryz.prog).any (Tryz.prog.loopsFrom ·)))=true:=by kernel_rfl
theorem uu:((Rows.starctlNodesRow.wideKeys==(Tryz.f4.params.toList++Rows.starctlNodesSpec.plain.varTypes Tryz.prog++Tryz.f4.resultTypes.toList).any (Tryz.prog.wideKeysFrom ·)))=true:=by kernel_rfl
theorem tT:(Rows.starctlNodesSpec.vars.all (Tryz.prog.varReadable ·))=true:=by kernel_rfl
theorem ub:(Tryz.f4.resultTypes.all (fun t=>Tryz.prog.readableRec t&&decide (t<Tryz.prog.types.size)))=true:=by kernel_rfl
theorem uV:((Rows.starctlNodesRow.ifacesOut==Tryz.f4.resultTypes.toList.any (Tryz.prog.ifacesRec ·)))=true:=by kernel_rfl
theorem tC:((Rows.starctlNodesRow.loopsOut==Tryz.f4.resultTypes.toList.any (Tryz.prog.loopsFrom ·)))=true:=by kernel_rfl
theorem tG:((Rows.starctlNodesRow.plainKeys==Tryz.prog.plainKeys))=true:=by rw[pH];rfl
theorem uG:(Rows.starctlNodesRow.shortTexts.isNone)=true:=by kernel_rfl
theorem uz:((Rows.starctlNodesRow.lifted==Tryz.prog.liftsFinal))=true:=by rw[nG];rfl
theorem s8:((Tryz.prog.make==some Rows.starctlNodesRow.make))=true:=by kernel_rfl
theorem uZ:((Rows.starctlNodesRow.kinds==(if Rows.starctlNodesRow.domain.isEmpty then[] else Tryz.f4.params.toList.map fun t=>match Tryz.prog.underlying t with|some (.int k)=>some k|_=>none)))=true:=by kernel_rfl
theorem tx:((Rows.starctlNodesRow.pinned==Rows.starctlNodesRow.pinnedBy))=true:=by kernel_rfl
theorem vd:((Rows.starctlNodesRow.veiled==(Tryz.f4.params.toList++Rows.starctlNodesSpec.plain.varTypes Tryz.prog++Tryz.f4.resultTypes.toList).any (Tryz.prog.veiledRec ·)))=true:=by kernel_rfl
theorem tA:(Rows.starctlNodesRow.veiledFits Tryz.prog Tryz.f4.params.toList (Tryz.f4.params.toList++Rows.starctlNodesSpec.plain.varTypes Tryz.prog++Tryz.f4.resultTypes.toList))=true:=by kernel_rfl
set_option maxRecDepth 100000 in
theorem pO:joinedFacts Tryz.prog 4 Tryz.f4 Rows.starctlNodesSpec Rows.starctlNodesRow=true:=by
 unfold joinedFacts
 exact(bq (bq (bq (bq (bq (bq (bq (bq (bq (bq (bq (bq (bq (bq (bq (bq (bq (bq (bq (bq (bq (bq (bq (bq (bq (bq (bq (bq (bq (bq (bq wz lU) w_) wm) v8) wC) wW) wu) w5) vZ) uX) tN) uk) ul) uB) uL) uF) uu) tT) ub) uV) tC) tG) uG) rm) rW) uz) s8) uZ) tx) vd) tA)
theorem wv:∀(H:Type) (ds:List (DataW H)),ds.length=Tryz.f4.params.size→Rows.starctlNodesSpec.fn H ds={results:=[.lit (.bool true)],args:=ds}:=fun H ds h=>by
 have h:ds.length=6:=h
 rcases ds with _|⟨d1,_|⟨d2,_|⟨d3,_|⟨d4,_|⟨d5,_|⟨d6,_|⟨d7,ds⟩⟩⟩⟩⟩⟩⟩<;>first|rfl|(exact absurd h (by simp))
set_option maxRecDepth 100000 in
theorem pV(os:Os)(started:os.Started)(H:Type)(enc:TypeId×Value→H) :
  ReturnsInHanded {} Tryz.checked os 4 .any (Rows.starctlNodesSpec.pre6 enc Tryz.prog Tryz.f4 Rows.starctlNodesRow.domain false) (Rows.starctlNodesSpec.post enc Tryz.prog Tryz.f4 false true false false):=
 Go.Ev.nI (C:=Tryz.checked) r8 started (by kernel_rfl) Tryz.func4
  (ChangeSpec.witness6 (enc:=enc) (C:=Tryz.checked) false ⟨#[],#[.agg #[.int .i64 0,.int .i64 0,.int .i64 0,.int .i64 0,.int .i64 0,.int .i64 0,.slice none 0 0,.slice none 0 0],.agg #[.int .i64 0,.int .i64 0,.int .i64 0,.int .i64 0,.int .i64 0,.int .i64 0,.int .i64 0,.int .i64 0,.int .i64 0,.int .i64 0,.int .i64 0,.int .i64 0,.int .i64 0,.int .i64 0,.int .i64 0,.bool false,.int .i64 0,.int .i64 0,.slice none 0 0,.slice none 0 0,.int .i64 0,.int .i64 0],.int .i64 0,.int .i64 0,.bool false,.agg #[.int .i64 0,.int .i64 0,.int .i64 0,.int .i64 0,.int .i64 0,.slice none 0 0]], []⟩ 8 (by kernel_rfl) (by kernel_rfl) (by kernel_rfl) (by kernel_rfl))
  (wO:=[(.struct [(.int .i64),(.int .i64),(.int .i64),(.int .i64),(.int .i64),(.int .i64),(.slice .bool),(.slice (.struct [(.slice (.int .i64)),(.slice .bool),(.slice .bool)]))]),(.struct [(.int .i64),(.int .i64),(.struct [(.int .i64),(.int .i64),(.int .i64),(.int .i64),(.int .i64)]),(.struct [(.int .i64),(.int .i64),(.int .i64),(.int .i64),(.int .i64),(.int .i64),(.int .i64)]),(.int .i64),.bool,(.int .i64),(.struct [(.int .i64),(.slice (.int .u8)),(.slice (.struct [(.slice (.int .u8)),(.int .i64)])),(.int .i64),(.int .i64)])]),(.int .i64),(.int .i64),.bool,(.struct [(.int .i64),(.int .i64),(.int .i64),(.int .i64),(.int .i64),(.slice (.int .u8))])]) (tb:=4) Go.Ev.M.adl (fun x h=>⟨rfl,Go.Ev.M.UX x h⟩) (by kernel_rfl) rfl wv (by kernel_rfl) (by kernel_rfl) lU (by kernel_rfl)
theorem rh:Rows.starctlNodesRow.holds Tryz.pinned (OpenSpec.ofChange Rows.starctlNodesSpec):=
 OpenClaim.holds_of_wide 4 Tryz.f4 rfl rfl rfl rfl rfl rfl rfl ⟨rfl,rfl,rfl,rfl,rfl⟩ rfl rfl rfl rfl rfl (by kernel_rfl) Tryz.func4 pO
  (of_decide_eq_true (by kernel_rfl)) (by unfold Func.isWrapper;first|(rw[if_pos (by decide +kernel)];kernel_rfl)|(rw[if_neg (by decide +kernel)];exact⟨rfl,rfl⟩))
  (fun os started H enc _=>pV os started H enc)
theorem starctlNodes_holds:Rows.StarctlNodesSaid:=rh
end Go.Proofs.YteldjjjcdpnnbaaGreat
