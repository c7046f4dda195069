/- PROVED: Rows.BusnetLoudSaid. Conditions: none. -/
import Derived.Test.YtdmeijjlkmmifaaGreatRows
import Derived.Test.YtdmeijjlkmmifaaGreatF
import Derived.Test.YtdmeijjlkmmifaaGreatM4
namespace Go.Proofs.YtdmeijjlkmmifaaGreat
open Go.ChangeShapes Go.WideShapes Go.ChangeAt Go.RowKit Go.Proofs.Tryz
theorem Jz:(Rows.busnetLoudRow.wf (OpenSpec.ofChange Rows.busnetLoudSpec))=true:=by kernel_rfl
theorem JA:(f4.params.all (prog.readableRec ·))=true:=by kernel_rfl
theorem JB:(namedTie prog Rows.busnetLoudRow.named Rows.busnetLoudSpec.vars)=true:=by kernel_rfl
theorem JC:((Rows.busnetLoudRow.stops == []))=true:=by kernel_rfl
theorem JD:((Rows.busnetLoudRow.knobs == []))=true:=by kernel_rfl
theorem JE:((Rows.busnetLoudRow.inPlace==prog.inPlace 4))=true:=by kernel_rfl
theorem FW:((Rows.busnetLoudRow.unfollowed==prog.unfollowed 4))=true:=by kernel_rfl
theorem FX:((Rows.busnetLoudRow.recurses==prog.recurses 4))=true:=by kernel_rfl
theorem FY:((Rows.busnetLoudRow.named==prog.varsNamed 4))=true:=by kernel_rfl
theorem FZ:((Rows.busnetLoudRow.maps==(f4.params.toList++Rows.busnetLoudSpec.plain.varTypes prog).any (prog.mapsRec ·)))=true:=by kernel_rfl
theorem F1:((Rows.busnetLoudRow.ifaces==(f4.params.toList++Rows.busnetLoudSpec.plain.varTypes prog).any (prog.ifacesRec ·)))=true:=by kernel_rfl
theorem F2:((Rows.busnetLoudRow.mapsOut==prog.mapsAmong f4.resultTypes.toList))=true:=by kernel_rfl
theorem F3:((Rows.busnetLoudRow.loops==(f4.params.toList++Rows.busnetLoudSpec.plain.varTypes prog).any (prog.loopsFrom ·)))=true:=by kernel_rfl
theorem F4:((Rows.busnetLoudRow.wideKeys==(f4.params.toList++Rows.busnetLoudSpec.plain.varTypes prog++f4.resultTypes.toList).any (prog.wideKeysFrom ·)))=true:=by kernel_rfl
theorem F5:(Rows.busnetLoudSpec.vars.all (prog.varReadable ·))=true:=by kernel_rfl
theorem F6:(f4.resultTypes.all (λt=>prog.readableRec t&&decide (t<prog.types.size)))=true:=by kernel_rfl
theorem F7:((Rows.busnetLoudRow.ifacesOut==f4.resultTypes.toList.any (prog.ifacesRec ·)))=true:=by kernel_rfl
theorem F8:((Rows.busnetLoudRow.loopsOut==f4.resultTypes.toList.any (prog.loopsFrom ·)))=true:=by kernel_rfl
theorem F9:((Rows.busnetLoudRow.plainKeys==prog.plainKeys))=true:=by rw[WK];rfl
theorem F_:(Rows.busnetLoudRow.shortTexts.isNone)=true:=by kernel_rfl
theorem Ga:((Rows.busnetLoudRow.lifted==prog.liftsFinal))=true:=by rw[Sg];rfl
theorem Gb:((prog.make==some Rows.busnetLoudRow.make))=true:=by kernel_rfl
theorem Gc:((Rows.busnetLoudRow.kinds==(if Rows.busnetLoudRow.domain.isEmpty then[] else f4.params.toList.map λt=>match prog.underlying t with|some (.int k)=>some k|_=>none)))=true:=by kernel_rfl
theorem Gd:((Rows.busnetLoudRow.pinned==Rows.busnetLoudRow.pinnedBy))=true:=by kernel_rfl
theorem Ge:((Rows.busnetLoudRow.veiled==(f4.params.toList++Rows.busnetLoudSpec.plain.varTypes prog++f4.resultTypes.toList).any (prog.veiledRec ·)))=true:=by kernel_rfl
theorem Gf:(Rows.busnetLoudRow.veiledFits prog f4.params.toList (f4.params.toList++Rows.busnetLoudSpec.plain.varTypes prog++f4.resultTypes.toList))=true:=by kernel_rfl
set_option maxRecDepth 100000 in
theorem A1:joinedFacts prog 4 f4 Rows.busnetLoudSpec Rows.busnetLoudRow=true:=by
 unfold joinedFacts
 exact(oV (oV (oV (oV (oV (oV (oV (oV (oV (oV (oV (oV (oV (oV (oV (oV (oV (oV (oV (oV (oV (oV (oV (oV (oV (oV (oV (oV (oV (oV (oV Jz UY) agD) JA) JB) JC) agE) JD) agF) JE) FW) FX) FY) FZ) F1) F2) F3) F4) F5) F6) F7) F8) F9) F_) acj) ack) Ga) Gb) Gc) Gd) Ge) Gf)
theorem Jy:∀(H:Type) (a:List (DataW H)),a.length=f4.params.size->Rows.busnetLoudSpec.fn H a={results:=[.lit (.bool true)],args:=a}:=λH a h=>by
 have h:a.length=2:=h
 rcases a with _|⟨b,_|⟨c,_|⟨e,a⟩⟩⟩<;>first|rfl|(exact absurd h (by simp))
set_option maxRecDepth 100000 in
theorem A4(c:Os)(a:c.Started)(H:Type)(b:TypeId×Value->H) :
  ReturnsInHanded {} checked c 4 .any (Rows.busnetLoudSpec.pre6 b prog f4 Rows.busnetLoudRow.domain false) (Rows.busnetLoudSpec.post b prog f4 false true false false):=
 Go.Ev.Rk (C:=checked) acm a (by kernel_rfl) func4
  (ChangeSpec.witness6 (enc:=b) (C:=checked) false ⟨#[],#[.agg #[.int .i64 0,.int .i64 0,.int .i64 0,.int .i64 0,.int .i64 0,.int .i64 0,.slice none 0 0,.slice none 0 0],.agg #[.int .i64 0,.slice none 0 0,.slice none 0 0,.slice none 0 0,.slice none 0 0,.slice none 0 0,.slice none 0 0,.slice none 0 0]], []⟩ 8 (by kernel_rfl) (by kernel_rfl) (by kernel_rfl) (by kernel_rfl))
  (iq:=[(.struct [(.int .i64),(.int .i64),(.int .i64),(.int .i64),(.int .i64),(.int .i64),(.slice .bool),(.slice (.struct [(.slice (.int .i64)),(.slice .bool),(.slice .bool)]))]),(.struct [(.int .i64),(.slice .bool),(.slice (.int .i64)),(.slice (.int .i64)),(.slice (.int .i64)),(.slice (.int .i64)),(.slice (.struct [(.int .i64),(.int .i64),(.int .i64),(.int .i64),(.int .i64),(.slice (.int .u8))])),(.slice (.struct [(.int .i64),(.int .i64),(.int .i64),(.int .i64),(.int .i64),(.int .i64),(.int .i64)]))])]) (tb:=4) Go.Ev.M.atz (λx h k=>Go.Ev.M.amA x h k) (by kernel_rfl) rfl Jy (by kernel_rfl) (by kernel_rfl) UY (by kernel_rfl)
theorem EN:Rows.busnetLoudRow.holds Tryz.pinned (OpenSpec.ofChange Rows.busnetLoudSpec):=
 OpenClaim.holds_of_wide 4 f4 rfl rfl rfl rfl rfl rfl rfl ⟨rfl,rfl,rfl,rfl,rfl⟩ rfl rfl rfl rfl rfl (by kernel_rfl) func4 A1
  (of_decide_eq_true (by kernel_rfl)) (by unfold Func.isWrapper;first|(rw[if_pos (by decide +kernel)];kernel_rfl)|(rw[if_neg (by decide +kernel)];exact⟨rfl,rfl⟩))
  (λc a H b _=>A4 c a H b)
theorem busnetLoud_holds:Rows.BusnetLoudSaid:=EN
end Go.Proofs.YtdmeijjlkmmifaaGreat
