/- PROVED: Rows.StarnetNoneSaid. Conditions: none. -/
import Derived.Test.YtalmcifclnbpmaaGreatRows
import Derived.Test.YtalmcifclnbpmaaGreatF
import Derived.Test.YtalmcifclnbpmaaGreatM4
namespace Go.Proofs.YtalmcifclnbpmaaGreat
open Go.ChangeShapes Go.WideShapes Go.ChangeAt Go.RowKit Go.Proofs.Tryz
theorem Ii:(Rows.starnetNoneRow.wf (OpenSpec.ofChange Rows.starnetNoneSpec))=true:=by kernel_rfl
theorem Ij:(f4.params.all (prog.readableRec ·))=true:=by kernel_rfl
theorem Ik:(namedTie prog Rows.starnetNoneRow.named Rows.starnetNoneSpec.vars)=true:=by kernel_rfl
theorem Il:((Rows.starnetNoneRow.stops == []))=true:=by kernel_rfl
theorem Im:((Rows.starnetNoneRow.knobs == []))=true:=by kernel_rfl
theorem Io:((Rows.starnetNoneRow.inPlace==prog.inPlace 4))=true:=by kernel_rfl
theorem EA:((Rows.starnetNoneRow.unfollowed==prog.unfollowed 4))=true:=by kernel_rfl
theorem EB:((Rows.starnetNoneRow.recurses==prog.recurses 4))=true:=by kernel_rfl
theorem EC:((Rows.starnetNoneRow.named==prog.varsNamed 4))=true:=by kernel_rfl
theorem ED:((Rows.starnetNoneRow.maps==(f4.params.toList++Rows.starnetNoneSpec.plain.varTypes prog).any (prog.mapsRec ·)))=true:=by kernel_rfl
theorem EE:((Rows.starnetNoneRow.ifaces==(f4.params.toList++Rows.starnetNoneSpec.plain.varTypes prog).any (prog.ifacesRec ·)))=true:=by kernel_rfl
theorem EF:((Rows.starnetNoneRow.mapsOut==prog.mapsAmong f4.resultTypes.toList))=true:=by kernel_rfl
theorem EG:((Rows.starnetNoneRow.loops==(f4.params.toList++Rows.starnetNoneSpec.plain.varTypes prog).any (prog.loopsFrom ·)))=true:=by kernel_rfl
theorem EH:((Rows.starnetNoneRow.wideKeys==(f4.params.toList++Rows.starnetNoneSpec.plain.varTypes prog++f4.resultTypes.toList).any (prog.wideKeysFrom ·)))=true:=by kernel_rfl
theorem EI:(Rows.starnetNoneSpec.vars.all (prog.varReadable ·))=true:=by kernel_rfl
theorem EJ:(f4.resultTypes.all (λt=>prog.readableRec t&&decide (t<prog.types.size)))=true:=by kernel_rfl
theorem EK:((Rows.starnetNoneRow.ifacesOut==f4.resultTypes.toList.any (prog.ifacesRec ·)))=true:=by kernel_rfl
theorem EL:((Rows.starnetNoneRow.loopsOut==f4.resultTypes.toList.any (prog.loopsFrom ·)))=true:=by kernel_rfl
theorem EM:((Rows.starnetNoneRow.plainKeys==prog.plainKeys))=true:=by rw[Vw];rfl
theorem EN:(Rows.starnetNoneRow.shortTexts.isNone)=true:=by kernel_rfl
theorem EO:((Rows.starnetNoneRow.lifted==prog.liftsFinal))=true:=by rw[Rn];rfl
theorem EP:((prog.make==some Rows.starnetNoneRow.make))=true:=by kernel_rfl
theorem EQ:((Rows.starnetNoneRow.kinds==(if Rows.starnetNoneRow.domain.isEmpty then[] else f4.params.toList.map λt=>match prog.underlying t with|some (.int k)=>some k|_=>none)))=true:=by kernel_rfl
theorem ER:((Rows.starnetNoneRow.pinned==Rows.starnetNoneRow.pinnedBy))=true:=by kernel_rfl
theorem ES:((Rows.starnetNoneRow.veiled==(f4.params.toList++Rows.starnetNoneSpec.plain.varTypes prog++f4.resultTypes.toList).any (prog.veiledRec ·)))=true:=by kernel_rfl
theorem ET:(Rows.starnetNoneRow.veiledFits prog f4.params.toList (f4.params.toList++Rows.starnetNoneSpec.plain.varTypes prog++f4.resultTypes.toList))=true:=by kernel_rfl
set_option maxRecDepth 100000 in
theorem Ax:joinedFacts prog 4 f4 Rows.starnetNoneSpec Rows.starnetNoneRow=true:=by
 unfold joinedFacts
 exact(oV (oV (oV (oV (oV (oV (oV (oV (oV (oV (oV (oV (oV (oV (oV (oV (oV (oV (oV (oV (oV (oV (oV (oV (oV (oV (oV (oV (oV (oV (oV Ii TR) afJ) Ij) Ik) Il) afK) Im) afL) Io) EA) EB) EC) ED) EE) EF) EG) EH) EI) EJ) EK) EL) EM) EN) aaX) aaY) EO) EP) EQ) ER) ES) ET)
theorem Ih:∀(H:Type) (c:List (DataW H)),c.length=f4.params.size->Rows.starnetNoneSpec.fn H c={results:=[.lit (.bool true)],args:=c}:=λH c h=>by
 have h:c.length=4:=h
 rcases c with _|⟨f,_|⟨g,_|⟨i,_|⟨j,_|⟨l,c⟩⟩⟩⟩⟩<;>first|rfl|(exact absurd h (by simp))
set_option maxRecDepth 100000 in
theorem Ay(g:Os)(c:g.Started)(H:Type)(f:TypeId×Value->H) :
  ReturnsInHanded {} checked g 4 .any (Rows.starnetNoneSpec.pre6 f prog f4 Rows.starnetNoneRow.domain false) (Rows.starnetNoneSpec.post f prog f4 false true false false):=
 Go.Ev.Qo (C:=checked) aaZ c (by kernel_rfl) func4
  (ChangeSpec.witness6 (enc:=f) (C:=checked) false ⟨#[],#[.agg #[.int .i64 0,.int .i64 0,.int .i64 0,.int .i64 0,.int .i64 0,.int .i64 0,.slice none 0 0,.slice none 0 0],.agg #[.int .i64 0,.slice none 0 0,.slice none 0 0,.slice none 0 0,.slice none 0 0,.slice none 0 0,.slice none 0 0,.slice none 0 0],.slice none 0 0,.int .i64 0], []⟩ 8 (by kernel_rfl) (by kernel_rfl) (by kernel_rfl) (by kernel_rfl))
  (iA:=[(.struct [(.int .i64),(.int .i64),(.int .i64),(.int .i64),(.int .i64),(.int .i64),(.slice .bool),(.slice (.struct [(.slice (.int .i64)),(.slice .bool),(.slice .bool)]))]),(.struct [(.int .i64),(.slice .bool),(.slice (.int .i64)),(.slice (.int .i64)),(.slice (.int .i64)),(.slice (.int .i64)),(.slice (.struct [(.int .i64),(.int .i64),(.int .i64),(.int .i64),(.int .i64),(.slice (.int .u8))])),(.slice (.struct [(.int .i64),(.int .i64),(.int .i64),(.int .i64),(.int .i64),(.int .i64),(.int .i64)]))]),(.slice (.int .i64)),(.int .i64)]) (tb:=4) Go.Ev.M.ar2 (λx h _=>Go.Ev.M.aln x h) (by kernel_rfl) rfl Ih (by kernel_rfl) (by kernel_rfl) TR (by kernel_rfl)
theorem Da:Rows.starnetNoneRow.holds Tryz.pinned (OpenSpec.ofChange Rows.starnetNoneSpec):=
 OpenClaim.holds_of_wide 4 f4 rfl rfl rfl rfl rfl rfl rfl ⟨rfl,rfl,rfl,rfl,rfl⟩ rfl rfl rfl rfl rfl (by kernel_rfl) func4 Ax
  (of_decide_eq_true (by kernel_rfl)) (by unfold Func.isWrapper;first|(rw[if_pos (by decide +kernel)];kernel_rfl)|(rw[if_neg (by decide +kernel)];exact⟨rfl,rfl⟩))
  (λg c H f _=>Ay g c H f)
theorem starnetNone_holds:Rows.StarnetNoneSaid:=Da
end Go.Proofs.YtalmcifclnbpmaaGreat
