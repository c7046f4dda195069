/-
  PROVED: Rows.BusnetNoneSaid. Conditions: none.
-/
import Derived.Test.YtdmeijjlkmmifaaGreatRows
import Derived.Test.YtdmeijjlkmmifaaGreatF
import Derived.Test.YtdmeijjlkmmifaaGreatM4
namespace Go.Proofs.YtdmeijjlkmmifaaGreat
open Go.ChangeShapes Go.WideShapes Go.ChangeAt Go.RowKit
theorem IC:(Rows.busnetNoneRow.wf (OpenSpec.ofChange Rows.busnetNoneSpec))=true:=by kernel_rfl
theorem ID:(Tryz.f7.params.all (Tryz.prog.readableRec ·))=true:=by kernel_rfl
theorem IE:(namedTie Tryz.prog Rows.busnetNoneRow.named Rows.busnetNoneSpec.vars)=true:=by kernel_rfl
theorem IF:((Rows.busnetNoneRow.stops == []))=true:=by kernel_rfl
theorem IG:((Rows.busnetNoneRow.knobs == []))=true:=by kernel_rfl
theorem II:((Rows.busnetNoneRow.inPlace==Tryz.prog.inPlace 7))=true:=by kernel_rfl
theorem E6:((Rows.busnetNoneRow.unfollowed==Tryz.prog.unfollowed 7))=true:=by kernel_rfl
theorem E7:((Rows.busnetNoneRow.recurses==Tryz.prog.recurses 7))=true:=by kernel_rfl
theorem E8:((Rows.busnetNoneRow.named==Tryz.prog.varsNamed 7))=true:=by kernel_rfl
theorem E9:((Rows.busnetNoneRow.maps==(Tryz.f7.params.toList++Rows.busnetNoneSpec.plain.varTypes Tryz.prog).any (Tryz.prog.mapsRec ·)))=true:=by kernel_rfl
theorem E_:((Rows.busnetNoneRow.ifaces==(Tryz.f7.params.toList++Rows.busnetNoneSpec.plain.varTypes Tryz.prog).any (Tryz.prog.ifacesRec ·)))=true:=by kernel_rfl
theorem Fa:((Rows.busnetNoneRow.mapsOut==Tryz.prog.mapsAmong Tryz.f7.resultTypes.toList))=true:=by kernel_rfl
theorem Fb:((Rows.busnetNoneRow.loops==(Tryz.f7.params.toList++Rows.busnetNoneSpec.plain.varTypes Tryz.prog).any (Tryz.prog.loopsFrom ·)))=true:=by kernel_rfl
theorem Fc:((Rows.busnetNoneRow.wideKeys==(Tryz.f7.params.toList++Rows.busnetNoneSpec.plain.varTypes Tryz.prog++Tryz.f7.resultTypes.toList).any (Tryz.prog.wideKeysFrom ·)))=true:=by kernel_rfl
theorem Fe:(Rows.busnetNoneSpec.vars.all (Tryz.prog.varReadable ·))=true:=by kernel_rfl
theorem Ff:(Tryz.f7.resultTypes.all (λt=>Tryz.prog.readableRec t&&decide (t<Tryz.prog.types.size)))=true:=by kernel_rfl
theorem Fg:((Rows.busnetNoneRow.ifacesOut==Tryz.f7.resultTypes.toList.any (Tryz.prog.ifacesRec ·)))=true:=by kernel_rfl
theorem Fh:((Rows.busnetNoneRow.loopsOut==Tryz.f7.resultTypes.toList.any (Tryz.prog.loopsFrom ·)))=true:=by kernel_rfl
theorem Fi:((Rows.busnetNoneRow.plainKeys==Tryz.prog.plainKeys))=true:=by rw[Vb];rfl
theorem Fj:(Rows.busnetNoneRow.shortTexts.isNone)=true:=by kernel_rfl
theorem Fo:((Rows.busnetNoneRow.lifted==Tryz.prog.liftsFinal))=true:=by rw[QU];rfl
theorem Fp:((Tryz.prog.make==some Rows.busnetNoneRow.make))=true:=by kernel_rfl
theorem Fq:((Rows.busnetNoneRow.kinds==(if Rows.busnetNoneRow.domain.isEmpty then[] else Tryz.f7.params.toList.map λt=>match Tryz.prog.underlying t with|some (.int k)=>some k|_=>none)))=true:=by kernel_rfl
theorem Fs:((Rows.busnetNoneRow.pinned==Rows.busnetNoneRow.pinnedBy))=true:=by kernel_rfl
theorem Ft:((Rows.busnetNoneRow.veiled==(Tryz.f7.params.toList++Rows.busnetNoneSpec.plain.varTypes Tryz.prog++Tryz.f7.resultTypes.toList).any (Tryz.prog.veiledRec ·)))=true:=by kernel_rfl
theorem Fu:(Rows.busnetNoneRow.veiledFits Tryz.prog Tryz.f7.params.toList (Tryz.f7.params.toList++Rows.busnetNoneSpec.plain.varTypes Tryz.prog++Tryz.f7.resultTypes.toList))=true:=by kernel_rfl
set_option maxRecDepth 100000 in
theorem As:joinedFacts Tryz.prog 7 Tryz.f7 Rows.busnetNoneSpec Rows.busnetNoneRow=true:=by
 unfold joinedFacts
 exact(oF (oF (oF (oF (oF (oF (oF (oF (oF (oF (oF (oF (oF (oF (oF (oF (oF (oF (oF (oF (oF (oF (oF (oF (oF (oF (oF (oF (oF (oF (oF IC Tv) aeP) ID) IE) IF) aeQ) IG) aeR) II) E6) E7) E8) E9) E_) Fa) Fb) Fc) Fe) Ff) Fg) Fh) Fi) Fj) aaj) aak) Fo) Fp) Fq) Fs) Ft) Fu)
theorem IB:∀(H:Type) (a:List (DataW H)),a.length=Tryz.f7.params.size->Rows.busnetNoneSpec.fn H a={results:=[.lit (.bool true)],args:=a}:=λH a h=>by
 have h:a.length=4:=h
 rcases a with _|⟨b,_|⟨c,_|⟨e,_|⟨f,_|⟨g,a⟩⟩⟩⟩⟩<;>first|rfl|(exact absurd h (by simp))
set_option maxRecDepth 100000 in
theorem Au(c:Os)(a:c.Started)(H:Type)(b:TypeId×Value->H) :
  ReturnsInHanded {} Tryz.checked c 7 .any (Rows.busnetNoneSpec.pre6 b Tryz.prog Tryz.f7 Rows.busnetNoneRow.domain false) (Rows.busnetNoneSpec.post b Tryz.prog Tryz.f7 false true false false):=
 Go.Ev.P2 (C:=Tryz.checked) aal a (by kernel_rfl) Tryz.func7
  (ChangeSpec.witness6 (enc:=b) (C:=Tryz.checked) false ⟨#[],#[.agg #[.int .i64 0,.int .i64 0,.int .i64 0,.int .i64 0,.int .i64 0,.int .i64 0,.slice none 0 0,.slice none 0 0],.agg #[.int .i64 0,.slice none 0 0,.slice none 0 0,.slice none 0 0,.slice none 0 0,.slice none 0 0,.slice none 0 0,.slice none 0 0],.slice none 0 0,.int .i64 0], []⟩ 8 (by kernel_rfl) (by kernel_rfl) (by kernel_rfl) (by kernel_rfl))
  (iA:=[(.struct [(.int .i64),(.int .i64),(.int .i64),(.int .i64),(.int .i64),(.int .i64),(.slice .bool),(.slice (.struct [(.slice (.int .i64)),(.slice .bool),(.slice .bool)]))]),(.struct [(.int .i64),(.slice .bool),(.slice (.int .i64)),(.slice (.int .i64)),(.slice (.int .i64)),(.slice (.int .i64)),(.slice (.struct [(.int .i64),(.int .i64),(.int .i64),(.int .i64),(.int .i64),(.slice (.int .u8))])),(.slice (.struct [(.int .i64),(.int .i64),(.int .i64),(.int .i64),(.int .i64),(.int .i64),(.int .i64)]))]),(.slice (.int .i64)),(.int .i64)]) (tb:=4) Go.Ev.M.aqj (λx h=>Go.Ev.M.aka x h) (by kernel_rfl) rfl IB (by kernel_rfl) (by kernel_rfl) Tv (by kernel_rfl)
theorem Ec:Rows.busnetNoneRow.holds Tryz.pinned (OpenSpec.ofChange Rows.busnetNoneSpec):=
 OpenClaim.holds_of_wide 7 Tryz.f7 rfl rfl rfl rfl rfl rfl rfl ⟨rfl,rfl,rfl,rfl,rfl⟩ rfl rfl rfl rfl rfl (by kernel_rfl) Tryz.func7 As
  (of_decide_eq_true (by kernel_rfl)) (by unfold Func.isWrapper;first|(rw[if_pos (by decide +kernel)];kernel_rfl)|(rw[if_neg (by decide +kernel)];exact⟨rfl,rfl⟩))
  (λc a H b _=>Au c a H b)
theorem busnetNone_holds:Rows.BusnetNoneSaid:=Ec
end Go.Proofs.YtdmeijjlkmmifaaGreat
