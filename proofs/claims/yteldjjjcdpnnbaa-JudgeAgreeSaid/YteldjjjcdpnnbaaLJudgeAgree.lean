/-
  PROVED: Rows.JudgeAgreeSaid. Conditions: none.
-/
import Derived.Test.YteldjjjcdpnnbaaRows
import Derived.Test.YteldjjjcdpnnbaaF
import Derived.Test.YteldjjjcdpnnbaaJg
namespace Go.Proofs.Yteldjjjcdpnnbaa
open Go.ChangeShapes Go.WideShapes Go.ChangeAt Go.RowKit
theorem tF:(Rows.judgeAgreeRow.wf (OpenSpec.ofChange Rows.judgeAgreeSpec))=true:=by kernel_rfl
theorem sW:(Try.f3.params.all (Try.prog.readableRec ·))=true:=by kernel_rfl
theorem tu:(namedTie Try.prog Rows.judgeAgreeRow.named Rows.judgeAgreeSpec.vars)=true:=by kernel_rfl
theorem s9:((Rows.judgeAgreeRow.stops == []))=true:=by kernel_rfl
theorem sZ:((Rows.judgeAgreeRow.knobs == []))=true:=by kernel_rfl
theorem sT:((Rows.judgeAgreeRow.inPlace==Try.prog.inPlace 3))=true:=by kernel_rfl
theorem rW:((Rows.judgeAgreeRow.unfollowed==Try.prog.unfollowed 3))=true:=by kernel_rfl
theorem q8:((Rows.judgeAgreeRow.recurses==Try.prog.recurses 3))=true:=by kernel_rfl
theorem qQ:((Rows.judgeAgreeRow.named==Try.prog.varsNamed 3))=true:=by kernel_rfl
theorem qX:((Rows.judgeAgreeRow.maps==(Try.f3.params.toList++Rows.judgeAgreeSpec.plain.varTypes Try.prog).any (Try.prog.mapsRec ·)))=true:=by kernel_rfl
theorem rc:((Rows.judgeAgreeRow.ifaces==(Try.f3.params.toList++Rows.judgeAgreeSpec.plain.varTypes Try.prog).any (Try.prog.ifacesRec ·)))=true:=by kernel_rfl
theorem r9:((Rows.judgeAgreeRow.mapsOut==Try.prog.mapsAmong Try.f3.resultTypes.toList))=true:=by kernel_rfl
theorem rB:((Rows.judgeAgreeRow.loops==(Try.f3.params.toList++Rows.judgeAgreeSpec.plain.varTypes Try.prog).any (Try.prog.loopsFrom ·)))=true:=by kernel_rfl
theorem sD:((Rows.judgeAgreeRow.wideKeys==(Try.f3.params.toList++Rows.judgeAgreeSpec.plain.varTypes Try.prog++Try.f3.resultTypes.toList).any (Try.prog.wideKeysFrom ·)))=true:=by kernel_rfl
theorem qG:(Rows.judgeAgreeSpec.vars.all (Try.prog.varReadable ·))=true:=by kernel_rfl
theorem sC:(Try.f3.resultTypes.all (fun t=>Try.prog.readableRec t&&decide (t<Try.prog.types.size)))=true:=by kernel_rfl
theorem rM:((Rows.judgeAgreeRow.ifacesOut==Try.f3.resultTypes.toList.any (Try.prog.ifacesRec ·)))=true:=by kernel_rfl
theorem qV:((Rows.judgeAgreeRow.loopsOut==Try.f3.resultTypes.toList.any (Try.prog.loopsFrom ·)))=true:=by kernel_rfl
theorem sj:((Rows.judgeAgreeRow.plainKeys==Try.prog.plainKeys))=true:=by rw[Aa];rfl
theorem qA:(Rows.judgeAgreeRow.shortTexts.isNone)=true:=by kernel_rfl
theorem ry:((Rows.judgeAgreeRow.lifted==Try.prog.liftsFinal))=true:=by rw[xB];rfl
theorem qD:((Try.prog.make==some Rows.judgeAgreeRow.make))=true:=by kernel_rfl
theorem re:((Rows.judgeAgreeRow.kinds==(if Rows.judgeAgreeRow.domain.isEmpty then[] else Try.f3.params.toList.map fun t=>match Try.prog.underlying t with|some (.int k)=>some k|_=>none)))=true:=by kernel_rfl
theorem r_:((Rows.judgeAgreeRow.pinned==Rows.judgeAgreeRow.pinnedBy))=true:=by kernel_rfl
theorem qT:((Rows.judgeAgreeRow.veiled==(Try.f3.params.toList++Rows.judgeAgreeSpec.plain.varTypes Try.prog++Try.f3.resultTypes.toList).any (Try.prog.veiledRec ·)))=true:=by kernel_rfl
theorem qH:(Rows.judgeAgreeRow.veiledFits Try.prog Try.f3.params.toList (Try.f3.params.toList++Rows.judgeAgreeSpec.plain.varTypes Try.prog++Try.f3.resultTypes.toList))=true:=by kernel_rfl
set_option maxRecDepth 100000 in
theorem nJ:joinedFacts Try.prog 3 Try.f3 Rows.judgeAgreeSpec Rows.judgeAgreeRow=true:=by
 unfold joinedFacts
 exact(fB (fB (fB (fB (fB (fB (fB (fB (fB (fB (fB (fB (fB (fB (fB (fB (fB (fB (fB (fB (fB (fB (fB (fB (fB (fB (fB (fB (fB (fB (fB tF zd) ES) sW) tu) s9) ET) sZ) Ew) sT) rW) q8) qQ) qX) rc) r9) rB) sD) qG) sC) rM) qV) sj) qA) Cp) DD) ry) qD) re) r_) qT) qH)
theorem tx:∀(H:Type) (ds:List (DataW H)),ds.length=Try.f3.params.size→Rows.judgeAgreeSpec.fn H ds={results:=[.lit (.bool true)],args:=ds}:=fun H ds h=>by
 have h:ds.length=7:=h
 rcases ds with _|⟨d1,_|⟨d2,_|⟨d3,_|⟨d4,_|⟨d5,_|⟨d6,_|⟨d7,_|⟨d8,ds⟩⟩⟩⟩⟩⟩⟩⟩<;>first|rfl|(exact absurd h (by simp))
set_option maxRecDepth 100000 in
theorem mO(os:Os)(started:os.Started)(H:Type)(enc:TypeId×Value→H) :
  ReturnsInHanded {} Try.checked os 3 .any (Rows.judgeAgreeSpec.pre6 enc Try.prog Try.f3 Rows.judgeAgreeRow.domain false) (Rows.judgeAgreeSpec.post enc Try.prog Try.f3 false true false false):=
 Go.Ev.xZ (C:=Try.checked) Cm started (by kernel_rfl) Try.func3
  (ChangeSpec.witness6 (enc:=enc) (C:=Try.checked) false ⟨#[],#[.agg #[.int .i64 0,.int .i64 0,.int .i64 0,.int .i64 0,.int .i64 0],.agg #[.int .i64 0,.int .i64 0,.int .i64 0,.int .i64 0,.int .i64 0,.int .i64 0,.int .i64 0],.int .i64 0,.agg #[.int .i64 0,.int .i64 0,.int .i64 0,.int .i64 0,.int .i64 0,.int .i64 0,.int .i64 0,.int .i64 0,.slice none 0 0],.int .i64 0,.bool false,.agg #[.int .i64 0,.int .i64 0,.int .i64 0,.slice none 0 0]], []⟩ 8 (by kernel_rfl) (by kernel_rfl) (by kernel_rfl) (by kernel_rfl))
  (tA:=[(.struct [(.int .i64),(.int .i64),(.int .i64),(.int .i64),(.int .i64)]),(.struct [(.int .i64),(.int .i64),(.int .i64),(.int .i64),(.int .i64),(.int .i64),(.int .i64)]),(.int .i64),(.struct [(.int .i64),(.int .i64),(.struct [(.int .i64),(.int .i64),(.int .i64),(.int .i64),(.int .i64)]),(.int .i64),(.slice (.int .u8))]),(.int .i64),.bool,(.struct [(.int .i64),(.int .i64),(.struct [(.int .i64),(.slice (.int .u8))])])]) (tb:=4) Go.Ev.M.Mn (fun x h=>⟨rfl,Go.Ev.M.Ju x h⟩) (by kernel_rfl) rfl tx (by kernel_rfl) (by kernel_rfl) zd (by kernel_rfl)
theorem qg:Rows.judgeAgreeRow.holds Try.pinned (OpenSpec.ofChange Rows.judgeAgreeSpec):=
 OpenClaim.holds_of_wide 3 Try.f3 rfl rfl rfl rfl rfl rfl rfl ⟨rfl,rfl,rfl,rfl,rfl⟩ rfl rfl rfl rfl rfl (by kernel_rfl) Try.func3 nJ
  (of_decide_eq_true (by kernel_rfl)) (by unfold Func.isWrapper;first|(rw[if_pos (by decide +kernel)];kernel_rfl)|(rw[if_neg (by decide +kernel)];exact⟨rfl,rfl⟩))
  (fun os started H enc _=>mO os started H enc)
theorem judgeAgree_holds:Rows.JudgeAgreeSaid:=qg
end Go.Proofs.Yteldjjjcdpnnbaa
