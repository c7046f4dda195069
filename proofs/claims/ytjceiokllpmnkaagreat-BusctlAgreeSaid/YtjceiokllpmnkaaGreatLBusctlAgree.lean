/-
  PROVED: Rows.BusctlAgreeSaid. Conditions: none.
-/
import Derived.Test.YtjceiokllpmnkaaGreatRows
import Derived.Test.YtjceiokllpmnkaaGreatF
import Derived.Test.YtjceiokllpmnkaaGreatBa
namespace Go.Proofs.YtjceiokllpmnkaaGreat
open Go.ChangeShapes Go.WideShapes Go.ChangeAt Go.RowKit
theorem uT:(Rows.busctlAgreeRow.wf (OpenSpec.ofChange Rows.busctlAgreeSpec))=true:=by kernel_rfl
theorem tu:(Tryz.f3.params.all (Tryz.prog.readableRec ·))=true:=by kernel_rfl
theorem uh:(namedTie Tryz.prog Rows.busctlAgreeRow.named Rows.busctlAgreeSpec.vars)=true:=by kernel_rfl
theorem uY:((Rows.busctlAgreeRow.stops == []))=true:=by kernel_rfl
theorem uo:((Rows.busctlAgreeRow.knobs == []))=true:=by kernel_rfl
theorem uq:((Rows.busctlAgreeRow.inPlace==Tryz.prog.inPlace 3))=true:=by kernel_rfl
theorem sI:((Rows.busctlAgreeRow.unfollowed==Tryz.prog.unfollowed 3))=true:=by kernel_rfl
theorem r_:((Rows.busctlAgreeRow.recurses==Tryz.prog.recurses 3))=true:=by kernel_rfl
theorem rQ:((Rows.busctlAgreeRow.named==Tryz.prog.varsNamed 3))=true:=by kernel_rfl
theorem rY:((Rows.busctlAgreeRow.maps==(Tryz.f3.params.toList++Rows.busctlAgreeSpec.plain.varTypes Tryz.prog).any (Tryz.prog.mapsRec ·)))=true:=by kernel_rfl
theorem rU:((Rows.busctlAgreeRow.ifaces==(Tryz.f3.params.toList++Rows.busctlAgreeSpec.plain.varTypes Tryz.prog).any (Tryz.prog.ifacesRec ·)))=true:=by kernel_rfl
theorem sj:((Rows.busctlAgreeRow.mapsOut==Tryz.prog.mapsAmong Tryz.f3.resultTypes.toList))=true:=by kernel_rfl
theorem rS:((Rows.busctlAgreeRow.loops==(Tryz.f3.params.toList++Rows.busctlAgreeSpec.plain.varTypes Tryz.prog).any (Tryz.prog.loopsFrom ·)))=true:=by kernel_rfl
theorem r9:((Rows.busctlAgreeRow.wideKeys==(Tryz.f3.params.toList++Rows.busctlAgreeSpec.plain.varTypes Tryz.prog++Tryz.f3.resultTypes.toList).any (Tryz.prog.wideKeysFrom ·)))=true:=by kernel_rfl
theorem sJ:(Rows.busctlAgreeSpec.vars.all (Tryz.prog.varReadable ·))=true:=by kernel_rfl
theorem rV:(Tryz.f3.resultTypes.all (fun t=>Tryz.prog.readableRec t&&decide (t<Tryz.prog.types.size)))=true:=by kernel_rfl
theorem sF:((Rows.busctlAgreeRow.ifacesOut==Tryz.f3.resultTypes.toList.any (Tryz.prog.ifacesRec ·)))=true:=by kernel_rfl
theorem sN:((Rows.busctlAgreeRow.loopsOut==Tryz.f3.resultTypes.toList.any (Tryz.prog.loopsFrom ·)))=true:=by kernel_rfl
theorem sH:((Rows.busctlAgreeRow.plainKeys==Tryz.prog.plainKeys))=true:=by rw[Df];rfl
theorem sw:(Rows.busctlAgreeRow.shortTexts.isNone)=true:=by kernel_rfl
theorem sQ:((Rows.busctlAgreeRow.lifted==Tryz.prog.liftsFinal))=true:=by rw[AR];rfl
theorem sG:((Tryz.prog.make==some Rows.busctlAgreeRow.make))=true:=by kernel_rfl
theorem r7:((Rows.busctlAgreeRow.kinds==(if Rows.busctlAgreeRow.domain.isEmpty then[] else Tryz.f3.params.toList.map fun t=>match Tryz.prog.underlying t with|some (.int k)=>some k|_=>none)))=true:=by kernel_rfl
theorem sP:((Rows.busctlAgreeRow.pinned==Rows.busctlAgreeRow.pinnedBy))=true:=by kernel_rfl
theorem sr:((Rows.busctlAgreeRow.veiled==(Tryz.f3.params.toList++Rows.busctlAgreeSpec.plain.varTypes Tryz.prog++Tryz.f3.resultTypes.toList).any (Tryz.prog.veiledRec ·)))=true:=by kernel_rfl
theorem rT:(Rows.busctlAgreeRow.veiledFits Tryz.prog Tryz.f3.params.toList (Tryz.f3.params.toList++Rows.busctlAgreeSpec.plain.varTypes Tryz.prog++Tryz.f3.resultTypes.toList))=true:=by kernel_rfl
set_option maxRecDepth 100000 in
theorem ob:joinedFacts Tryz.prog 3 Tryz.f3 Rows.busctlAgreeSpec Rows.busctlAgreeRow=true:=by
 unfold joinedFacts
 exact(gk (gk (gk (gk (gk (gk (gk (gk (gk (gk (gk (gk (gk (gk (gk (gk (gk (gk (gk (gk (gk (gk (gk (gk (gk (gk (gk (gk (gk (gk (gk uT Bd) IK) tu) uh) uY) IZ) uo) Jn) uq) sI) r_) rQ) rY) rU) sj) rS) r9) sJ) rV) sF) sN) sH) sw) D3) Fq) sQ) sG) r7) sP) sr) rT)
theorem tY:∀(H:Type) (ds:List (DataW H)),ds.length=Tryz.f3.params.size→Rows.busctlAgreeSpec.fn H ds={results:=[.lit (.bool true)],args:=ds}:=fun H ds h=>by
 have h:ds.length=4:=h
 rcases ds with _|⟨d1,_|⟨d2,_|⟨d3,_|⟨d4,_|⟨d5,ds⟩⟩⟩⟩⟩<;>first|rfl|(exact absurd h (by simp))
set_option maxRecDepth 100000 in
theorem og(os:Os)(started:os.Started)(H:Type)(enc:TypeId×Value→H) :
  ReturnsInHanded {} Tryz.checked os 3 .any (Rows.busctlAgreeSpec.pre6 enc Tryz.prog Tryz.f3 Rows.busctlAgreeRow.domain false) (Rows.busctlAgreeSpec.post enc Tryz.prog Tryz.f3 false true false false):=
 Go.Ev.Aj (C:=Tryz.checked) EH started (by kernel_rfl) Tryz.func3
  (ChangeSpec.witness6 (enc:=enc) (C:=Tryz.checked) false ⟨#[],#[.agg #[.int .i64 0,.int .i64 0,.int .i64 0,.int .i64 0,.int .i64 0,.int .i64 0,.slice none 0 0,.slice none 0 0],.agg #[.int .i64 0,.int .i64 0,.int .i64 0,.int .i64 0,.int .i64 0,.int .i64 0,.int .i64 0,.int .i64 0,.int .i64 0,.int .i64 0,.int .i64 0,.int .i64 0,.int .i64 0,.int .i64 0,.int .i64 0,.bool false,.int .i64 0,.int .i64 0,.slice none 0 0,.slice none 0 0,.int .i64 0,.int .i64 0],.agg #[.int .i64 0,.int .i64 0,.int .i64 0,.int .i64 0,.int .i64 0,.int .i64 0,.int .i64 0,.int .i64 0,.int .i64 0,.int .i64 0,.int .i64 0,.int .i64 0,.int .i64 0,.int .i64 0,.int .i64 0,.bool false,.int .i64 0,.int .i64 0,.slice none 0 0,.slice none 0 0,.int .i64 0,.int .i64 0],.slice none 0 0], []⟩ 8 (by kernel_rfl) (by kernel_rfl) (by kernel_rfl) (by kernel_rfl))
  (vu:=[(.struct [(.int .i64),(.int .i64),(.int .i64),(.int .i64),(.int .i64),(.int .i64),(.slice .bool),(.slice (.struct [(.slice (.int .i64)),(.slice .bool),(.slice .bool)]))]),(.struct [(.int .i64),(.int .i64),(.struct [(.int .i64),(.int .i64),(.int .i64),(.int .i64),(.int .i64)]),(.struct [(.int .i64),(.int .i64),(.int .i64),(.int .i64),(.int .i64),(.int .i64),(.int .i64)]),(.int .i64),.bool,(.int .i64),(.struct [(.int .i64),(.slice (.int .u8)),(.slice (.struct [(.slice (.int .u8)),(.int .i64)])),(.int .i64),(.int .i64)])]),(.struct [(.int .i64),(.int .i64),(.struct [(.int .i64),(.int .i64),(.int .i64),(.int .i64),(.int .i64)]),(.struct [(.int .i64),(.int .i64),(.int .i64),(.int .i64),(.int .i64),(.int .i64),(.int .i64)]),(.int .i64),.bool,(.int .i64),(.struct [(.int .i64),(.slice (.int .u8)),(.slice (.struct [(.slice (.int .u8)),(.int .i64)])),(.int .i64),(.int .i64)])]),(.slice (.slice (.struct [(.int .i64),(.int .i64),(.struct [(.int .i64),(.slice (.int .u8))])])))]) (tb:=4) Go.Ev.M.Qh (fun x h=>⟨rfl,Go.Ev.M.LC x h⟩) (by kernel_rfl) rfl tY (by kernel_rfl) (by kernel_rfl) Bd (by kernel_rfl)
theorem qk:Rows.busctlAgreeRow.holds Tryz.pinned (OpenSpec.ofChange Rows.busctlAgreeSpec):=
 OpenClaim.holds_of_wide 3 Tryz.f3 rfl rfl rfl rfl rfl rfl rfl ⟨rfl,rfl,rfl,rfl,rfl⟩ rfl rfl rfl rfl rfl (by kernel_rfl) Tryz.func3 ob
  (of_decide_eq_true (by kernel_rfl)) (by unfold Func.isWrapper;first|(rw[if_pos (by decide +kernel)];kernel_rfl)|(rw[if_neg (by decide +kernel)];exact⟨rfl,rfl⟩))
  (fun os started H enc _=>og os started H enc)
theorem busctlAgree_holds:Rows.BusctlAgreeSaid:=qk
end Go.Proofs.YtjceiokllpmnkaaGreat
