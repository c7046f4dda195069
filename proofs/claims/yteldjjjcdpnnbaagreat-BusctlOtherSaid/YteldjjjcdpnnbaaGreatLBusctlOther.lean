/-
  PROVED: Rows.BusctlOtherSaid. Conditions: none.
-/
import Derived.Test.YteldjjjcdpnnbaaGreatRows
import Derived.Test.YteldjjjcdpnnbaaGreatF
import Derived.Test.YteldjjjcdpnnbaaGreatLt
namespace Go.Proofs.YteldjjjcdpnnbaaGreat
open Go.ChangeShapes Go.WideShapes Go.ChangeAt Go.RowKit
theorem uk:(Rows.busctlOtherRow.wf (OpenSpec.ofChange Rows.busctlOtherSpec))=true:=by kernel_rfl
theorem ui:(Tryz.f5.params.all (Tryz.prog.readableRec ·))=true:=by kernel_rfl
theorem vD:(namedTie Tryz.prog Rows.busctlOtherRow.named Rows.busctlOtherSpec.vars)=true:=by kernel_rfl
theorem uS:((Rows.busctlOtherRow.stops == []))=true:=by kernel_rfl
theorem vB:((Rows.busctlOtherRow.knobs == []))=true:=by kernel_rfl
theorem vE:((Rows.busctlOtherRow.inPlace==Tryz.prog.inPlace 5))=true:=by kernel_rfl
theorem sQ:((Rows.busctlOtherRow.unfollowed==Tryz.prog.unfollowed 5))=true:=by kernel_rfl
theorem s_:((Rows.busctlOtherRow.recurses==Tryz.prog.recurses 5))=true:=by kernel_rfl
theorem sN:((Rows.busctlOtherRow.named==Tryz.prog.varsNamed 5))=true:=by kernel_rfl
theorem sL:((Rows.busctlOtherRow.maps==(Tryz.f5.params.toList++Rows.busctlOtherSpec.plain.varTypes Tryz.prog).any (Tryz.prog.mapsRec ·)))=true:=by kernel_rfl
theorem sZ:((Rows.busctlOtherRow.ifaces==(Tryz.f5.params.toList++Rows.busctlOtherSpec.plain.varTypes Tryz.prog).any (Tryz.prog.ifacesRec ·)))=true:=by kernel_rfl
theorem s9:((Rows.busctlOtherRow.mapsOut==Tryz.prog.mapsAmong Tryz.f5.resultTypes.toList))=true:=by kernel_rfl
theorem sH:((Rows.busctlOtherRow.loops==(Tryz.f5.params.toList++Rows.busctlOtherSpec.plain.varTypes Tryz.prog).any (Tryz.prog.loopsFrom ·)))=true:=by kernel_rfl
theorem ta:((Rows.busctlOtherRow.wideKeys==(Tryz.f5.params.toList++Rows.busctlOtherSpec.plain.varTypes Tryz.prog++Tryz.f5.resultTypes.toList).any (Tryz.prog.wideKeysFrom ·)))=true:=by kernel_rfl
theorem sT:(Rows.busctlOtherSpec.vars.all (Tryz.prog.varReadable ·))=true:=by kernel_rfl
theorem sM:(Tryz.f5.resultTypes.all (fun t=>Tryz.prog.readableRec t&&decide (t<Tryz.prog.types.size)))=true:=by kernel_rfl
theorem sF:((Rows.busctlOtherRow.ifacesOut==Tryz.f5.resultTypes.toList.any (Tryz.prog.ifacesRec ·)))=true:=by kernel_rfl
theorem sI:((Rows.busctlOtherRow.loopsOut==Tryz.f5.resultTypes.toList.any (Tryz.prog.loopsFrom ·)))=true:=by kernel_rfl
theorem tf:((Rows.busctlOtherRow.plainKeys==Tryz.prog.plainKeys))=true:=by rw[C4];rfl
theorem sU:(Rows.busctlOtherRow.shortTexts.isNone)=true:=by kernel_rfl
theorem sO:((Rows.busctlOtherRow.lifted==Tryz.prog.liftsFinal))=true:=by rw[Ba];rfl
theorem tg:((Tryz.prog.make==some Rows.busctlOtherRow.make))=true:=by kernel_rfl
theorem sD:((Rows.busctlOtherRow.kinds==(if Rows.busctlOtherRow.domain.isEmpty then[] else Tryz.f5.params.toList.map fun t=>match Tryz.prog.underlying t with|some (.int k)=>some k|_=>none)))=true:=by kernel_rfl
theorem tp:((Rows.busctlOtherRow.pinned==Rows.busctlOtherRow.pinnedBy))=true:=by kernel_rfl
theorem sW:((Rows.busctlOtherRow.veiled==(Tryz.f5.params.toList++Rows.busctlOtherSpec.plain.varTypes Tryz.prog++Tryz.f5.resultTypes.toList).any (Tryz.prog.veiledRec ·)))=true:=by kernel_rfl
theorem sR:(Rows.busctlOtherRow.veiledFits Tryz.prog Tryz.f5.params.toList (Tryz.f5.params.toList++Rows.busctlOtherSpec.plain.varTypes Tryz.prog++Tryz.f5.resultTypes.toList))=true:=by kernel_rfl
set_option maxRecDepth 100000 in
theorem oL:joinedFacts Tryz.prog 5 Tryz.f5 Rows.busctlOtherSpec Rows.busctlOtherRow=true:=by
 unfold joinedFacts
 exact(gx (gx (gx (gx (gx (gx (gx (gx (gx (gx (gx (gx (gx (gx (gx (gx (gx (gx (gx (gx (gx (gx (gx (gx (gx (gx (gx (gx (gx (gx (gx uk BG) Ka) ui) vD) uS) Lm) vB) Kh) vE) sQ) s_) sN) sL) sZ) s9) sH) ta) sT) sM) sF) sI) tf) sU) I5) Eu) sO) tg) sD) tp) sW) sR)
theorem vn:∀(H:Type) (ds:List (DataW H)),ds.length=Tryz.f5.params.size→Rows.busctlOtherSpec.fn H ds={results:=[.lit (.bool true)],args:=ds}:=fun H ds h=>by
 have h:ds.length=3:=h
 rcases ds with _|⟨d1,_|⟨d2,_|⟨d3,_|⟨d4,ds⟩⟩⟩⟩<;>first|rfl|(exact absurd h (by simp))
set_option maxRecDepth 100000 in
theorem oz(os:Os)(started:os.Started)(H:Type)(enc:TypeId×Value→H) :
  ReturnsInHanded {} Tryz.checked os 5 .any (Rows.busctlOtherSpec.pre6 enc Tryz.prog Tryz.f5 Rows.busctlOtherRow.domain false) (Rows.busctlOtherSpec.post enc Tryz.prog Tryz.f5 false true false false):=
 Go.Ev.Bz (C:=Tryz.checked) FN started (by kernel_rfl) Tryz.func5
  (ChangeSpec.witness6 (enc:=enc) (C:=Tryz.checked) false ⟨#[],#[.agg #[.int .i64 0,.int .i64 0,.int .i64 0,.int .i64 0,.int .i64 0,.int .i64 0,.slice none 0 0,.slice none 0 0],.agg #[.int .i64 0,.int .i64 0,.int .i64 0,.int .i64 0,.int .i64 0,.int .i64 0,.int .i64 0,.int .i64 0,.int .i64 0,.int .i64 0,.int .i64 0,.int .i64 0,.int .i64 0,.int .i64 0,.int .i64 0,.bool false,.int .i64 0,.int .i64 0,.slice none 0 0,.slice none 0 0,.int .i64 0,.int .i64 0],.slice none 0 0], []⟩ 8 (by kernel_rfl) (by kernel_rfl) (by kernel_rfl) (by kernel_rfl))
  (wh:=[(.struct [(.int .i64),(.int .i64),(.int .i64),(.int .i64),(.int .i64),(.int .i64),(.slice .bool),(.slice (.struct [(.slice (.int .i64)),(.slice .bool),(.slice .bool)]))]),(.struct [(.int .i64),(.int .i64),(.struct [(.int .i64),(.int .i64),(.int .i64),(.int .i64),(.int .i64)]),(.struct [(.int .i64),(.int .i64),(.int .i64),(.int .i64),(.int .i64),(.int .i64),(.int .i64)]),(.int .i64),.bool,(.int .i64),(.struct [(.int .i64),(.slice (.int .u8)),(.slice (.struct [(.slice (.int .u8)),(.int .i64)])),(.int .i64),(.int .i64)])]),(.slice (.struct [(.int .i64),(.int .i64),(.struct [(.int .i64),(.slice (.int .u8))])]))]) (tb:=4) Go.Ev.M.UO (fun x h=>⟨rfl,Go.Ev.M.Pr x h⟩) (by kernel_rfl) rfl vn (by kernel_rfl) (by kernel_rfl) BG (by kernel_rfl)
theorem qE:Rows.busctlOtherRow.holds Tryz.pinned (OpenSpec.ofChange Rows.busctlOtherSpec):=
 OpenClaim.holds_of_wide 5 Tryz.f5 rfl rfl rfl rfl rfl rfl rfl ⟨rfl,rfl,rfl,rfl,rfl⟩ rfl rfl rfl rfl rfl (by kernel_rfl) Tryz.func5 oL
  (of_decide_eq_true (by kernel_rfl)) (by unfold Func.isWrapper;first|(rw[if_pos (by decide +kernel)];kernel_rfl)|(rw[if_neg (by decide +kernel)];exact⟨rfl,rfl⟩))
  (fun os started H enc _=>oz os started H enc)
theorem busctlOther_holds:Rows.BusctlOtherSaid:=qE
end Go.Proofs.YteldjjjcdpnnbaaGreat
