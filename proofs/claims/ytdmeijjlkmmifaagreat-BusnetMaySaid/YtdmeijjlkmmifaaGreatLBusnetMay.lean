/-
  PROVED: Rows.BusnetMaySaid. Conditions: none.
-/
import Derived.Test.YtdmeijjlkmmifaaGreatRows
import Derived.Test.YtdmeijjlkmmifaaGreatF
import Derived.Test.YtdmeijjlkmmifaaGreatM4
namespace Go.Proofs.YtdmeijjlkmmifaaGreat
open Go.ChangeShapes Go.WideShapes Go.ChangeAt Go.RowKit
theorem KI:(Rows.busnetMayRow.wf (OpenSpec.ofChange Rows.busnetMaySpec))=true:=by kernel_rfl
theorem KJ:(Tryz.f5.params.all (Tryz.prog.readableRec ·))=true:=by kernel_rfl
theorem KL:(namedTie Tryz.prog Rows.busnetMayRow.named Rows.busnetMaySpec.vars)=true:=by kernel_rfl
theorem KM:((Rows.busnetMayRow.stops == []))=true:=by kernel_rfl
theorem KN:((Rows.busnetMayRow.knobs == []))=true:=by kernel_rfl
theorem KO:((Rows.busnetMayRow.inPlace==Tryz.prog.inPlace 5))=true:=by kernel_rfl
theorem Im:((Rows.busnetMayRow.unfollowed==Tryz.prog.unfollowed 5))=true:=by kernel_rfl
theorem Io:((Rows.busnetMayRow.recurses==Tryz.prog.recurses 5))=true:=by kernel_rfl
theorem Ip:((Rows.busnetMayRow.named==Tryz.prog.varsNamed 5))=true:=by kernel_rfl
theorem Iq:((Rows.busnetMayRow.maps==(Tryz.f5.params.toList++Rows.busnetMaySpec.plain.varTypes Tryz.prog).any (Tryz.prog.mapsRec ·)))=true:=by kernel_rfl
theorem Ir:((Rows.busnetMayRow.ifaces==(Tryz.f5.params.toList++Rows.busnetMaySpec.plain.varTypes Tryz.prog).any (Tryz.prog.ifacesRec ·)))=true:=by kernel_rfl
theorem It:((Rows.busnetMayRow.mapsOut==Tryz.prog.mapsAmong Tryz.f5.resultTypes.toList))=true:=by kernel_rfl
theorem Iu:((Rows.busnetMayRow.loops==(Tryz.f5.params.toList++Rows.busnetMaySpec.plain.varTypes Tryz.prog).any (Tryz.prog.loopsFrom ·)))=true:=by kernel_rfl
theorem Iv:((Rows.busnetMayRow.wideKeys==(Tryz.f5.params.toList++Rows.busnetMaySpec.plain.varTypes Tryz.prog++Tryz.f5.resultTypes.toList).any (Tryz.prog.wideKeysFrom ·)))=true:=by kernel_rfl
theorem Iw:(Rows.busnetMaySpec.vars.all (Tryz.prog.varReadable ·))=true:=by kernel_rfl
theorem Ix:(Tryz.f5.resultTypes.all (λt=>Tryz.prog.readableRec t&&decide (t<Tryz.prog.types.size)))=true:=by kernel_rfl
theorem Iy:((Rows.busnetMayRow.ifacesOut==Tryz.f5.resultTypes.toList.any (Tryz.prog.ifacesRec ·)))=true:=by kernel_rfl
theorem Iz:((Rows.busnetMayRow.loopsOut==Tryz.f5.resultTypes.toList.any (Tryz.prog.loopsFrom ·)))=true:=by kernel_rfl
theorem IA:((Rows.busnetMayRow.plainKeys==Tryz.prog.plainKeys))=true:=by rw[Vw];rfl
theorem IB:(Rows.busnetMayRow.shortTexts.isNone)=true:=by kernel_rfl
theorem IC:((Rows.busnetMayRow.lifted==Tryz.prog.liftsFinal))=true:=by rw[Q6];rfl
theorem ID:((Tryz.prog.make==some Rows.busnetMayRow.make))=true:=by kernel_rfl
theorem IE:((Rows.busnetMayRow.kinds==(if Rows.busnetMayRow.domain.isEmpty then[] else Tryz.f5.params.toList.map λt=>match Tryz.prog.underlying t with|some (.int k)=>some k|_=>none)))=true:=by kernel_rfl
theorem IF:((Rows.busnetMayRow.pinned==Rows.busnetMayRow.pinnedBy))=true:=by kernel_rfl
theorem IG:((Rows.busnetMayRow.veiled==(Tryz.f5.params.toList++Rows.busnetMaySpec.plain.varTypes Tryz.prog++Tryz.f5.resultTypes.toList).any (Tryz.prog.veiledRec ·)))=true:=by kernel_rfl
theorem II:(Rows.busnetMayRow.veiledFits Tryz.prog Tryz.f5.params.toList (Tryz.f5.params.toList++Rows.busnetMaySpec.plain.varTypes Tryz.prog++Tryz.f5.resultTypes.toList))=true:=by kernel_rfl
set_option maxRecDepth 100000 in
theorem Cr:joinedFacts Tryz.prog 5 Tryz.f5 Rows.busnetMaySpec Rows.busnetMayRow=true:=by
 unfold joinedFacts
 exact(oL (oL (oL (oL (oL (oL (oL (oL (oL (oL (oL (oL (oL (oL (oL (oL (oL (oL (oL (oL (oL (oL (oL (oL (oL (oL (oL (oL (oL (oL (oL KI TP) afc) KJ) KL) KM) afd) KN) afe) KO) Im) Io) Ip) Iq) Ir) It) Iu) Iv) Iw) Ix) Iy) Iz) IA) IB) aaL) aaM) IC) ID) IE) IF) IG) II)
theorem KH:∀(H:Type) (a:List (DataW H)),a.length=Tryz.f5.params.size->Rows.busnetMaySpec.fn H a={results:=[.lit (.bool true)],args:=a}:=λH a h=>by
 have h:a.length=2:=h
 rcases a with _|⟨b,_|⟨c,_|⟨e,a⟩⟩⟩<;>first|rfl|(exact absurd h (by simp))
set_option maxRecDepth 100000 in
theorem Cs(c:Os)(a:c.Started)(H:Type)(b:TypeId×Value->H) :
  ReturnsInHanded {} Tryz.checked c 5 .any (Rows.busnetMaySpec.pre6 b Tryz.prog Tryz.f5 Rows.busnetMayRow.domain false) (Rows.busnetMaySpec.post b Tryz.prog Tryz.f5 false true false false):=
 Go.Ev.Qa (C:=Tryz.checked) aaN a (by kernel_rfl) Tryz.func5
  (ChangeSpec.witness6 (enc:=b) (C:=Tryz.checked) false ⟨#[],#[.agg #[.int .i64 0,.int .i64 0,.int .i64 0,.int .i64 0,.int .i64 0,.int .i64 0,.slice none 0 0,.slice none 0 0],.agg #[.int .i64 0,.slice none 0 0,.slice none 0 0,.slice none 0 0,.slice none 0 0,.slice none 0 0,.slice none 0 0,.slice none 0 0]], []⟩ 8 (by kernel_rfl) (by kernel_rfl) (by kernel_rfl) (by kernel_rfl))
  (iq:=[(.struct [(.int .i64),(.int .i64),(.int .i64),(.int .i64),(.int .i64),(.int .i64),(.slice .bool),(.slice (.struct [(.slice (.int .i64)),(.slice .bool),(.slice .bool)]))]),(.struct [(.int .i64),(.slice .bool),(.slice (.int .i64)),(.slice (.int .i64)),(.slice (.int .i64)),(.slice (.int .i64)),(.slice (.struct [(.int .i64),(.int .i64),(.int .i64),(.int .i64),(.int .i64),(.slice (.int .u8))])),(.slice (.struct [(.int .i64),(.int .i64),(.int .i64),(.int .i64),(.int .i64),(.int .i64),(.int .i64)]))])]) (tb:=4) Go.Ev.M.aro (λx h=>Go.Ev.M.akx x h) (by kernel_rfl) rfl KH (by kernel_rfl) (by kernel_rfl) TP (by kernel_rfl)
theorem Fh:Rows.busnetMayRow.holds Tryz.pinned (OpenSpec.ofChange Rows.busnetMaySpec):=
 OpenClaim.holds_of_wide 5 Tryz.f5 rfl rfl rfl rfl rfl rfl rfl ⟨rfl,rfl,rfl,rfl,rfl⟩ rfl rfl rfl rfl rfl (by kernel_rfl) Tryz.func5 Cr
  (of_decide_eq_true (by kernel_rfl)) (by unfold Func.isWrapper;first|(rw[if_pos (by decide +kernel)];kernel_rfl)|(rw[if_neg (by decide +kernel)];exact⟨rfl,rfl⟩))
  (λc a H b _=>Cs c a H b)
theorem busnetMay_holds:Rows.BusnetMaySaid:=Fh
end Go.Proofs.YtdmeijjlkmmifaaGreat
