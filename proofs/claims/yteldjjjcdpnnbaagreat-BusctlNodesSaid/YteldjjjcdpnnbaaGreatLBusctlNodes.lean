/-
  PROVED: Rows.BusctlNodesSaid. Conditions: none.
-/
import Derived.Test.YteldjjjcdpnnbaaGreatRows
import Derived.Test.YteldjjjcdpnnbaaGreatF
import Derived.Test.YteldjjjcdpnnbaaGreatLn
namespace Go.Proofs.YteldjjjcdpnnbaaGreat
open Go.ChangeShapes Go.WideShapes Go.ChangeAt Go.RowKit
theorem sr:(Rows.busctlNodesRow.wf (OpenSpec.ofChange Rows.busctlNodesSpec))=true:=by kernel_rfl
theorem sC:(Tryz.f3.params.all (Tryz.prog.readableRec ·))=true:=by kernel_rfl
theorem rU:(namedTie Tryz.prog Rows.busctlNodesRow.named Rows.busctlNodesSpec.vars)=true:=by kernel_rfl
theorem tX:((Rows.busctlNodesRow.stops == []))=true:=by kernel_rfl
theorem tQ:((Rows.busctlNodesRow.knobs == []))=true:=by kernel_rfl
theorem rZ:((Rows.busctlNodesRow.inPlace==Tryz.prog.inPlace 3))=true:=by kernel_rfl
theorem qI:((Rows.busctlNodesRow.unfollowed==Tryz.prog.unfollowed 3))=true:=by kernel_rfl
theorem qU:((Rows.busctlNodesRow.recurses==Tryz.prog.recurses 3))=true:=by kernel_rfl
theorem qT:((Rows.busctlNodesRow.named==Tryz.prog.varsNamed 3))=true:=by kernel_rfl
theorem rc:((Rows.busctlNodesRow.maps==(Tryz.f3.params.toList++Rows.busctlNodesSpec.plain.varTypes Tryz.prog).any (Tryz.prog.mapsRec ·)))=true:=by kernel_rfl
theorem qy:((Rows.busctlNodesRow.ifaces==(Tryz.f3.params.toList++Rows.busctlNodesSpec.plain.varTypes Tryz.prog).any (Tryz.prog.ifacesRec ·)))=true:=by kernel_rfl
theorem qO:((Rows.busctlNodesRow.mapsOut==Tryz.prog.mapsAmong Tryz.f3.resultTypes.toList))=true:=by kernel_rfl
theorem qS:((Rows.busctlNodesRow.loops==(Tryz.f3.params.toList++Rows.busctlNodesSpec.plain.varTypes Tryz.prog).any (Tryz.prog.loopsFrom ·)))=true:=by kernel_rfl
theorem qL:((Rows.busctlNodesRow.wideKeys==(Tryz.f3.params.toList++Rows.busctlNodesSpec.plain.varTypes Tryz.prog++Tryz.f3.resultTypes.toList).any (Tryz.prog.wideKeysFrom ·)))=true:=by kernel_rfl
theorem qP:(Rows.busctlNodesSpec.vars.all (Tryz.prog.varReadable ·))=true:=by kernel_rfl
theorem qY:(Tryz.f3.resultTypes.all (fun t=>Tryz.prog.readableRec t&&decide (t<Tryz.prog.types.size)))=true:=by kernel_rfl
theorem qF:((Rows.busctlNodesRow.ifacesOut==Tryz.f3.resultTypes.toList.any (Tryz.prog.ifacesRec ·)))=true:=by kernel_rfl
theorem qW:((Rows.busctlNodesRow.loopsOut==Tryz.f3.resultTypes.toList.any (Tryz.prog.loopsFrom ·)))=true:=by kernel_rfl
theorem qX:((Rows.busctlNodesRow.plainKeys==Tryz.prog.plainKeys))=true:=by rw[A4];rfl
theorem qz:(Rows.busctlNodesRow.shortTexts.isNone)=true:=by kernel_rfl
theorem qJ:((Rows.busctlNodesRow.lifted==Tryz.prog.liftsFinal))=true:=by rw[yT];rfl
theorem qD:((Tryz.prog.make==some Rows.busctlNodesRow.make))=true:=by kernel_rfl
theorem qH:((Rows.busctlNodesRow.kinds==(if Rows.busctlNodesRow.domain.isEmpty then[] else Tryz.f3.params.toList.map fun t=>match Tryz.prog.underlying t with|some (.int k)=>some k|_=>none)))=true:=by kernel_rfl
theorem qC:((Rows.busctlNodesRow.pinned==Rows.busctlNodesRow.pinnedBy))=true:=by kernel_rfl
theorem qK:((Rows.busctlNodesRow.veiled==(Tryz.f3.params.toList++Rows.busctlNodesSpec.plain.varTypes Tryz.prog++Tryz.f3.resultTypes.toList).any (Tryz.prog.veiledRec ·)))=true:=by kernel_rfl
theorem q9:(Rows.busctlNodesRow.veiledFits Tryz.prog Tryz.f3.params.toList (Tryz.f3.params.toList++Rows.busctlNodesSpec.plain.varTypes Tryz.prog++Tryz.f3.resultTypes.toList))=true:=by kernel_rfl
set_option maxRecDepth 100000 in
theorem nj:joinedFacts Tryz.prog 3 Tryz.f3 Rows.busctlNodesSpec Rows.busctlNodesRow=true:=by
 unfold joinedFacts
 exact(fP (fP (fP (fP (fP (fP (fP (fP (fP (fP (fP (fP (fP (fP (fP (fP (fP (fP (fP (fP (fP (fP (fP (fP (fP (fP (fP (fP (fP (fP (fP sr Ap) G0) sC) rU) tX) GH) tQ) Gx) rZ) qI) qU) qT) rc) qy) qO) qS) qL) qP) qY) qF) qW) qX) qz) El) DZ) qJ) qD) qH) qC) qK) q9)
theorem tM:∀(H:Type) (ds:List (DataW H)),ds.length=Tryz.f3.params.size→Rows.busctlNodesSpec.fn H ds={results:=[.lit (.bool true)],args:=ds}:=fun H ds h=>by
 have h:ds.length=6:=h
 rcases ds with _|⟨d1,_|⟨d2,_|⟨d3,_|⟨d4,_|⟨d5,_|⟨d6,_|⟨d7,ds⟩⟩⟩⟩⟩⟩⟩<;>first|rfl|(exact absurd h (by simp))
set_option maxRecDepth 100000 in
theorem mU(os:Os)(started:os.Started)(H:Type)(enc:TypeId×Value→H) :
  ReturnsInHanded {} Tryz.checked os 3 .any (Rows.busctlNodesSpec.pre6 enc Tryz.prog Tryz.f3 Rows.busctlNodesRow.domain false) (Rows.busctlNodesSpec.post enc Tryz.prog Tryz.f3 false true false false):=
 Go.Ev.ze (C:=Tryz.checked) Dj started (by kernel_rfl) Tryz.func3
  (ChangeSpec.witness6 (enc:=enc) (C:=Tryz.checked) false ⟨#[],#[.agg #[.int .i64 0,.int .i64 0,.int .i64 0,.int .i64 0,.int .i64 0,.int .i64 0,.slice none 0 0,.slice none 0 0],.agg #[.int .i64 0,.int .i64 0,.int .i64 0,.int .i64 0,.int .i64 0,.int .i64 0,.int .i64 0,.int .i64 0,.int .i64 0,.int .i64 0,.int .i64 0,.int .i64 0,.int .i64 0,.int .i64 0,.int .i64 0,.bool false,.int .i64 0,.int .i64 0,.slice none 0 0,.slice none 0 0,.int .i64 0,.int .i64 0],.int .i64 0,.int .i64 0,.bool false,.agg #[.int .i64 0,.int .i64 0,.int .i64 0,.int .i64 0,.int .i64 0,.slice none 0 0]], []⟩ 8 (by kernel_rfl) (by kernel_rfl) (by kernel_rfl) (by kernel_rfl))
  (ub:=[(.struct [(.int .i64),(.int .i64),(.int .i64),(.int .i64),(.int .i64),(.int .i64),(.slice .bool),(.slice (.struct [(.slice (.int .i64)),(.slice .bool),(.slice .bool)]))]),(.struct [(.int .i64),(.int .i64),(.struct [(.int .i64),(.int .i64),(.int .i64),(.int .i64),(.int .i64)]),(.struct [(.int .i64),(.int .i64),(.int .i64),(.int .i64),(.int .i64),(.int .i64),(.int .i64)]),(.int .i64),.bool,(.int .i64),(.struct [(.int .i64),(.slice (.int .u8)),(.slice (.struct [(.slice (.int .u8)),(.int .i64)])),(.int .i64),(.int .i64)])]),(.int .i64),(.int .i64),.bool,(.struct [(.int .i64),(.int .i64),(.int .i64),(.int .i64),(.int .i64),(.slice (.int .u8))])]) (tb:=4) Go.Ev.M.Sq (fun x h=>⟨rfl,Go.Ev.M.KU x h⟩) (by kernel_rfl) rfl tM (by kernel_rfl) (by kernel_rfl) Ap (by kernel_rfl)
theorem pJ:Rows.busctlNodesRow.holds Tryz.pinned (OpenSpec.ofChange Rows.busctlNodesSpec):=
 OpenClaim.holds_of_wide 3 Tryz.f3 rfl rfl rfl rfl rfl rfl rfl ⟨rfl,rfl,rfl,rfl,rfl⟩ rfl rfl rfl rfl rfl (by kernel_rfl) Tryz.func3 nj
  (of_decide_eq_true (by kernel_rfl)) (by unfold Func.isWrapper;first|(rw[if_pos (by decide +kernel)];kernel_rfl)|(rw[if_neg (by decide +kernel)];exact⟨rfl,rfl⟩))
  (fun os started H enc _=>mU os started H enc)
theorem busctlNodes_holds:Rows.BusctlNodesSaid:=pJ
end Go.Proofs.YteldjjjcdpnnbaaGreat
