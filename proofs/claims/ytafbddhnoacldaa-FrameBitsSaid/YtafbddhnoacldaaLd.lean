/-
  PROVED: the statement FrameBits of its function. Conditions: none.
-/
import Derived.Test.YtafbddhnoacldaaLb
import Derived.Test.YtafbddhnoacldaaDa
namespace Go.Ev.M
open Go.Proofs
set_option maxRecDepth 100000
set_option linter.unusedVariables false
set_option linter.unusedSimpArgs false

open Go.Ev.Pl
/-! ### metronome/metronomelaw05.FrameBits (function 16) -/
def t16 (A : Alg) (fKind : Int) (fReq : Int) (fCTime : Int) (fCPos : Int) (fCMode : Int) (fCNext : Int) (fCMember : Int) (fFrom : Int) (fData : List Int) (gKind : Int) (gReq : Int) (gCTime : Int) (gCPos : Int) (gCMode : Int) (gCNext : Int) (gCMember : Int) (gFrom : Int) (gData : List Int) (kind : Int) (data : Int) : LT Bool Empty :=
  .need (A.call (@tt ((Int × Int × (Int × Int × Int × Int × Int) × Int × List Int))) (fKind, fReq, (fCTime, fCPos, fCMode, fCNext, fCMember), fFrom, fData)) (
  .need (A.call (@tt ((Int × Int × (Int × Int × Int × Int × Int) × Int × List Int))) (fKind, fReq, (fCTime, fCPos, fCMode, fCNext, fCMember), fFrom, fData)) (
  .need (A.call (@tt Unit) ()) (
  .br (A.call fn47 ())
  (.need (A.call (@tt ((Int × Int × (Int × Int × Int × Int × Int) × Int × List Int))) (fKind, fReq, (fCTime, fCPos, fCMode, fCNext, fCMember), fFrom, fData)) (
  .need (A.call (@tt ((Int × Int × (Int × Int × Int × Int × Int) × Int × List Int))) (fKind, fReq, (fCTime, fCPos, fCMode, fCNext, fCMember), fFrom, fData)) (
  .br (A.cmp .eql (A.call fn57 (fKind, fReq, (fCTime, fCPos, fCMode, fCNext, fCMember), fFrom, fData)) (A.call fn58 (fKind, fReq, (fCTime, fCPos, fCMode, fCNext, fCMember), fFrom, fData)))
  (.need (A.call (@tt (Int × Int)) (kind, data)) (
  .need (A.call (@tt (Int × Int)) (kind, data)) (
  .br (A.cmp .eql (A.call fn56 (kind, data)) (A.call fn59 (kind, data)))
  (.need (A.call (@tt ((Int × List Int) × (Int × List Int))) ((A.call fn46 (fKind, fReq, (fCTime, fCPos, fCMode, fCNext, fCMember), fFrom, fData)).1, (A.call fn40 (fKind, fReq, (fCTime, fCPos, fCMode, fCNext, fCMember), fFrom, fData)).1)) (
  .br (A.call fn49 ((A.call fn46 (fKind, fReq, (fCTime, fCPos, fCMode, fCNext, fCMember), fFrom, fData)).1, (A.call fn40 (fKind, fReq, (fCTime, fCPos, fCMode, fCNext, fCMember), fFrom, fData)).1))
  (.br (A.cmp .eql (A.call fn46 (fKind, fReq, (fCTime, fCPos, fCMode, fCNext, fCMember), fFrom, fData)).2 (A.call fn40 (fKind, fReq, (fCTime, fCPos, fCMode, fCNext, fCMember), fFrom, fData)).2)
  (.need (A.call (@tt ((Int × Int × (Int × Int × Int × Int × Int) × Int × List Int) × (Int × Int × (Int × Int × Int × Int × Int) × Int × List Int))) ((fKind, fReq, (fCTime, fCPos, fCMode, fCNext, fCMember), fFrom, fData), gKind, gReq, (gCTime, gCPos, gCMode, gCNext, gCMember), gFrom, gData)) (
  .need (A.call (@tt ((Int × Int × (Int × Int × Int × Int × Int) × Int × List Int) × (Int × Int × (Int × Int × Int × Int × Int) × Int × List Int))) ((fKind, fReq, (fCTime, fCPos, fCMode, fCNext, fCMember), fFrom, fData), gKind, gReq, (gCTime, gCPos, gCMode, gCNext, gCMember), gFrom, gData)) (
  .br (A.beq (A.call fn60 ((fKind, fReq, (fCTime, fCPos, fCMode, fCNext, fCMember), fFrom, fData), gKind, gReq, (gCTime, gCPos, gCMode, gCNext, gCMember), gFrom, gData)) (A.call fn44 ((fKind, fReq, (fCTime, fCPos, fCMode, fCNext, fCMember), fFrom, fData), gKind, gReq, (gCTime, gCPos, gCMode, gCNext, gCMember), gFrom, gData)))
  (.need (A.call (@tt ((Int × Int × (Int × Int × Int × Int × Int) × Int × List Int) × (Int × Int × (Int × Int × Int × Int × Int) × Int × List Int))) ((fKind, fReq, (fCTime, fCPos, fCMode, fCNext, fCMember), fFrom, fData), fKind, fReq, (fCTime, fCPos, fCMode, fCNext, fCMember), fFrom, fData)) (
  .ret (A.call fn60 ((fKind, fReq, (fCTime, fCPos, fCMode, fCNext, fCMember), fFrom, fData), fKind, fReq, (fCTime, fCPos, fCMode, fCNext, fCMember), fFrom, fData))))
  (.ret false))))
  (.ret false))
  (.ret false)))
  (.ret false))))
  (.ret false))))
  (.ret false))))
noncomputable def E16 (A : Alg) : Info (Ty.Ts [.bool]) := { ti := tys, fns := [(16, Try.f16)], sps := [(40, sp40), (44, sp44), (46, sp46), (47, sp47), (49, sp49), (56, sp56), (57, sp57), (58, sp58), (59, sp59), (60, sp60)], stops := [], cuts := [], consts := [], fin := finD A [.bool] }
theorem t16_ok (A : Alg) (fKind : Int) (fReq : Int) (fCTime : Int) (fCPos : Int) (fCMode : Int) (fCNext : Int) (fCMember : Int) (fFrom : Int) (fData : List Int) (gKind : Int) (gReq : Int) (gCTime : Int) (gCPos : Int) (gCMode : Int) (gCNext : Int) (gCMember : Int) (gFrom : Int) (gData : List Int) (kind : Int) (data : Int) : run A (E16 A) 79 (startC 16 Try.f16 (dvals A [(.struct [(.int .i64), (.int .i64), (.struct [(.int .i64), (.int .i64), (.int .i64), (.int .i64), (.int .i64)]), (.int .i64), (.slice (.int .u8))]), (.struct [(.int .i64), (.int .i64), (.struct [(.int .i64), (.int .i64), (.int .i64), (.int .i64), (.int .i64)]), (.int .i64), (.slice (.int .u8))]), (.int .i64), (.int .i64)] ((fKind, fReq, (fCTime, fCPos, fCMode, fCNext, fCMember), fFrom, fData), (gKind, gReq, (gCTime, gCPos, gCMode, gCNext, gCMember), gFrom, gData), kind, data))) = (t16 A fKind fReq fCTime fCPos fCMode fCNext fCMember fFrom fData gKind gReq gCTime gCPos gCMode gCNext gCMember gFrom gData kind data).tr Empty.elim := by kernel_rfl
def w16 : Walk Try.prog 16 [(.struct [(.int .i64), (.int .i64), (.struct [(.int .i64), (.int .i64), (.int .i64), (.int .i64), (.int .i64)]), (.int .i64), (.slice (.int .u8))]), (.struct [(.int .i64), (.int .i64), (.struct [(.int .i64), (.int .i64), (.int .i64), (.int .i64), (.int .i64)]), (.int .i64), (.slice (.int .u8))]), (.int .i64), (.int .i64)] [.bool] Empty := ⟨fun ((fKind, fReq, (fCTime, fCPos, fCMode, fCNext, fCMember), fFrom, fData), (gKind, gReq, (gCTime, gCPos, gCMode, gCNext, gCMember), gFrom, gData), kind, data) => t16 std fKind fReq fCTime fCPos fCMode fCNext fCMember fFrom fData gKind gReq gCTime gCPos gCMode gCNext gCMember gFrom gData kind data, Empty.elim⟩
theorem w16_ok : w16.Ok :=
  walk_ok (E := E16 std) ⟨tys_fit, fns_cons Try.func16 (by kernel_rfl) (fns_nil), sps_cons so40 (sps_cons so44 (sps_cons so46 (sps_cons so47 (sps_cons so49 (sps_cons so56 (sps_cons so57 (sps_cons so58 (sps_cons so59 (sps_cons so60 (sps_nil)))))))))), by kernel_rfl⟩ rfl rfl rfl (by kernel_rfl) w16 Empty.elim 79 (fun ((fKind, fReq, (fCTime, fCPos, fCMode, fCNext, fCMember), fFrom, fData), (gKind, gReq, (gCTime, gCPos, gCMode, gCNext, gCMember), gFrom, gData), kind, data) => t16_ok std fKind fReq fCTime fCPos fCMode fCNext fCMember fFrom fData gKind gReq gCTime gCPos gCMode gCNext gCMember gFrom gData kind data) (fun y => y.elim)

def fn16 : ((Int × Int × (Int × Int × Int × Int × Int) × Int × List Int) × (Int × Int × (Int × Int × Int × Int × Int) × Int × List Int) × Int × Int) → Bool := fun ((fKind, fReq, (fCTime, fCPos, fCMode, fCNext, fCMember), fFrom, fData), (gKind, gReq, (gCTime, gCPos, gCMode, gCNext, gCMember), gFrom, gData), kind, data) => (t16 std fKind fReq fCTime fCPos fCMode fCNext fCMember fFrom fData gKind gReq gCTime gCPos gCMode gCNext gCMember gFrom gData kind data).val (Ty.dflts [.bool])
def sp16 : FSpec := ⟨[(.struct [(.int .i64), (.int .i64), (.struct [(.int .i64), (.int .i64), (.int .i64), (.int .i64), (.int .i64)]), (.int .i64), (.slice (.int .u8))]), (.struct [(.int .i64), (.int .i64), (.struct [(.int .i64), (.int .i64), (.int .i64), (.int .i64), (.int .i64)]), (.int .i64), (.slice (.int .u8))]), (.int .i64), (.int .i64)], [.bool], (@tt ((Int × Int × (Int × Int × Int × Int × Int) × Int × List Int) × (Int × Int × (Int × Int × Int × Int × Int) × Int × List Int) × Int × Int)), fn16⟩
theorem eqs16 (fKind : Int) (fReq : Int) (fCTime : Int) (fCPos : Int) (fCMode : Int) (fCNext : Int) (fCMember : Int) (fFrom : Int) (fData : List Int) (gKind : Int) (gReq : Int) (gCTime : Int) (gCPos : Int) (gCMode : Int) (gCNext : Int) (gCMember : Int) (gFrom : Int) (gData : List Int) (kind : Int) (data : Int) : (t16 std fKind fReq fCTime fCPos fCMode fCNext fCMember fFrom fData gKind gReq gCTime gCPos gCMode gCNext gCMember gFrom gData kind data).Eqs := by simp only [t16, LT.Eqs, and_self, true_and, and_true]
theorem pre16_ok {fKind : Int} {fReq : Int} {fCTime : Int} {fCPos : Int} {fCMode : Int} {fCNext : Int} {fCMember : Int} {fFrom : Int} {fData : List Int} {gKind : Int} {gReq : Int} {gCTime : Int} {gCPos : Int} {gCMode : Int} {gCNext : Int} {gCMember : Int} {gFrom : Int} {gData : List Int} {kind : Int} {data : Int} (h : Ty.hass [(.struct [(.int .i64), (.int .i64), (.struct [(.int .i64), (.int .i64), (.int .i64), (.int .i64), (.int .i64)]), (.int .i64), (.slice (.int .u8))]), (.struct [(.int .i64), (.int .i64), (.struct [(.int .i64), (.int .i64), (.int .i64), (.int .i64), (.int .i64)]), (.int .i64), (.slice (.int .u8))]), (.int .i64), (.int .i64)] ((fKind, fReq, (fCTime, fCPos, fCMode, fCNext, fCMember), fFrom, fData), (gKind, gReq, (gCTime, gCPos, gCMode, gCNext, gCMember), gFrom, gData), kind, data)) : (t16 std fKind fReq fCTime fCPos fCMode fCNext fCMember fFrom fData gKind gReq gCTime gCPos gCMode gCNext gCMember gFrom gData kind data).pre = true := by
  simp [t16, LT.pre, std_call, tt_eq]
theorem so16 : FSpec.Sound Try.prog 16 sp16 :=
  w16_ok.sound _ _ fun ((fKind, fReq, (fCTime, fCPos, fCMode, fCNext, fCMember), fFrom, fData), (gKind, gReq, (gCTime, gCPos, gCMode, gCNext, gCMember), gFrom, gData), kind, data) _ h => LT.runs (d := Ty.dflts [.bool]) (eqs16 fKind fReq fCTime fCPos fCMode fCNext fCMember fFrom fData gKind gReq gCTime gCPos gCMode gCNext gCMember gFrom gData kind data) (pre16_ok h)
theorem law16 (x : (Int × Int × (Int × Int × Int × Int × Int) × Int × List Int) × (Int × Int × (Int × Int × Int × Int × Int) × Int × List Int) × Int × Int) (h : Ty.hass [(.struct [(.int .i64), (.int .i64), (.struct [(.int .i64), (.int .i64), (.int .i64), (.int .i64), (.int .i64)]), (.int .i64), (.slice (.int .u8))]), (.struct [(.int .i64), (.int .i64), (.struct [(.int .i64), (.int .i64), (.int .i64), (.int .i64), (.int .i64)]), (.int .i64), (.slice (.int .u8))]), (.int .i64), (.int .i64)] x) : fn16 x = true := by
  obtain ⟨⟨k, r, ⟨t, p, m, n, s⟩, fr, d⟩, ⟨k', r', ⟨t', p', m', n', s'⟩, fr', d'⟩, kd, dt⟩ := x
  have hd := has_frame (k := k) (r := r) (t := t) (p := p) (m := m) (n := n) (s := s) (fr := fr) (d := d) h.1
  have hd' := has_frame (k := k') (r := r') (t := t') (p := p') (m := m') (n := n') (s := s') (fr := fr') (d := d') h.2.1
  simp only [fn16, t16, LT.val, std_call, begun05, fn46, fn40, fn57_eq, fn58_eq, size_eqs.1, size_eqs.2, fn60_eq hd hd', fn44_eq hd hd', fn60_eq hd hd, frEq_self, same_bits (encS_bytes _), std_cmp_eql, std_beq, beq_self_eq_true, cond_true]

end Go.Ev.M
