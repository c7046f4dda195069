/-
  PROVED: the statements FrameAgree and FrameBack of their functions. Conditions: none.
-/
import Derived.Test.YtafbddhnoacldaaEa
namespace Go.Ev.M
open Go.Proofs
set_option maxRecDepth 100000
set_option linter.unusedVariables false
set_option linter.unusedSimpArgs false

open Go.Ev.Pl
theorem frBits_length {k r t p m n s fr : Int} {d : List Int} (h : frOk (k, r, (t, p, m, n, s), fr, d) = true) : ((frBits (k, r, (t, p, m, n, s), fr, d)).length : Int) = sizeS (k, (d.length : Int)) ∧ (frBits (k, r, (t, p, m, n, s), fr, d)).length ≤ 143 := by
  obtain ⟨_, _, hd, hk⟩ := frOk_iff.1 h
  have hb := dataBits_length d
  have hs := stBits_length (t, p, m, n, s)
  rcases hk with ⟨rfl, _, h0, _⟩ | ⟨rfl, _⟩ | ⟨rfl, h0, _⟩ | ⟨rfl, _⟩
  · have e : (frBits (1, r, (t, p, m, n, s), fr, d)).length = 40 := by
      show (sealL 0 (bitsOf 0 2 ++ (bitsOf fr.toNat 3 ++ (bitsOf t.toNat 8 ++ bitsOf 0 3)))).length = 40
      simp only [sealL_length, List.length_append, bitsOf_length]
    rw [e, h0]; exact ⟨rfl, by decide⟩
  · have e : (frBits (2, r, (t, p, m, n, s), fr, d)).length = 29 + 8 * d.length := by
      show (sealL (over 0 (stBits (t, p, m, n, s))) (bitsOf 1 2 ++ (bitsOf r.toNat 3 ++ dataBits d))).length = _
      simp only [sealL_length, List.length_append, bitsOf_length, hb]; omega
    rw [e]
    refine ⟨?_, by omega⟩
    have hh : 0 ≤ (d.length : Int) ∧ (d.length : Int) ≤ 8 := by omega
    simp only [sizeS, if_pos hh]
    rw [if_neg (by decide), if_pos trivial]; omega
  · have e : (frBits (3, r, (t, p, m, n, s), fr, d)).length = 54 := by
      show (sealL 0 (bitsOf 2 2 ++ (bitsOf r.toNat 3 ++ (bitsOf 0 1 ++ stBits (t, p, m, n, s))))).length = 54
      simp only [sealL_length, List.length_append, bitsOf_length, hs]
    rw [e, h0]; exact ⟨rfl, by decide⟩
  · have e : (frBits (4, r, (t, p, m, n, s), fr, d)).length = 79 + 8 * d.length := by
      show (sealL (over 0 (stBits (t, p, m, n, s))) (sealL 0 (bitsOf 3 2 ++ (bitsOf r.toNat 3 ++ (bitsOf 0 2 ++ stBits (t, p, m, n, s)))) ++ dataBits d)).length = _
      simp only [sealL_length, List.length_append, bitsOf_length, hb, hs]; omega
    rw [e]
    refine ⟨?_, by omega⟩
    have hh : 0 ≤ (d.length : Int) ∧ (d.length : Int) ≤ 8 := by omega
    simp only [sizeS, if_pos hh]
    rw [if_neg (by decide), if_neg (by decide), if_neg (by decide), if_pos trivial]; omega
theorem parS_bsP {l : List Bool} {c : Int × Int × Int × Int × Int} (h : l.length ≤ 4096) : parS (bsP l, c) = bif !stOk c then (zeroF, 40) else frOf l c := by
  rw [parS, bsP_ok h, bsL_bsP]; rfl
/-- For whom a frame is good. -/
theorem good_iff {k r t p m n s fr : Int} {d : List Int} (h : frOk (k, r, (t, p, m, n, s), fr, d) = true) (hd : bytesOk d) (c : Int × Int × Int × Int × Int) :
    (goodS (bsP (frBits (k, r, (t, p, m, n, s), fr, d)), c)).2 = (!(k == 1) && (t, p, m, n, s) == c) := by
  have hlen := (frBits_length h).2
  have hown := frOf_frBits h hd
  have hst := (frOk_iff.1 h).1
  rw [goodS]
  show (bif (parS (bsP (frBits (k, r, (t, p, m, n, s), fr, d)), c)).2 != 0 || (parS (bsP (frBits (k, r, (t, p, m, n, s), fr, d)), c)).1.1 == 1 || (parS (bsP (frBits (k, r, (t, p, m, n, s), fr, d)), c)).1.2.2.1 != c then (zeroF, false) else ((parS (bsP (frBits (k, r, (t, p, m, n, s), fr, d)), c)).1, true)).2 = _
  rw [parS_bsP (by omega)]
  by_cases hc : (t, p, m, n, s) = c
  · subst hc
    rw [hst, Bool.not_true, cond_false, hown]
    show (bif (((0 : Int) != 0) || k == 1 || (t, p, m, n, s) != (t, p, m, n, s)) then (zeroF, false) else ((k, r, (t, p, m, n, s), fr, d), true)).2 = _
    rw [bne_self_eq_false, bne_self_eq_false, beq_self_eq_true]
    cases k == 1 <;> rfl
  · rw [show ((t, p, m, n, s) == c) = false from beq_eq_false_iff_ne.2 hc, Bool.and_false]
    cases hso : stOk c
    · rfl
    · rw [Bool.not_true, cond_false]
      by_cases he : (frOf (frBits (k, r, (t, p, m, n, s), fr, d)) c).2 = 0
      · obtain ⟨g, hg⟩ : ∃ g, frOf (frBits (k, r, (t, p, m, n, s), fr, d)) c = (g, 0) := ⟨_, Prod.ext rfl he⟩
        have := frOf_state hst hso hown hg
        subst this
        rw [hg]
        have hne : ((t, p, m, n, s) != c) = true := bne_iff_ne.2 hc
        show (bif (((0 : Int) != 0) || k == 1 || (t, p, m, n, s) != c) then (zeroF, false) else ((k, r, (t, p, m, n, s), fr, d), true)).2 = _
        rw [hne, Bool.or_true]; rfl
      · rw [show ((frOf (frBits (k, r, (t, p, m, n, s), fr, d)) c).2 != 0) = true from bne_iff_ne.2 he]; rfl
theorem has_frame {k r t p m n s fr : Int} {d : List Int} (h : Ty.has (.struct [(.int .i64), (.int .i64), (.struct [(.int .i64), (.int .i64), (.int .i64), (.int .i64), (.int .i64)]), (.int .i64), (.slice (.int .u8))]) (k, r, (t, p, m, n, s), fr, d)) : bytesOk d := by
  have h2 : d.length ≤ lenMax ∧ ∀ x ∈ d, 0 ≤ x ∧ x ≤ 255 := h.2.2.2.2
  exact h2.2
theorem encS_bytes (f : Int × Int × (Int × Int × Int × Int × Int) × Int × List Int) : bytesOk (encS f).1.2 := by
  rw [encS]
  cases frOk f
  · intro x hx; cases hx
  · exact pack_ok _
theorem same_bits {x : Int × List Int} (h : bytesOk x.2) : fn49 (x, x) = true := by
  obtain ⟨n, b⟩ := x
  rw [fn49_eq h h]; simp

/-! ### metronome/metronomelaw05.FrameAgree (function 14) -/
def t14 (A : Alg) (fKind : Int) (fReq : Int) (fCTime : Int) (fCPos : Int) (fCMode : Int) (fCNext : Int) (fCMember : Int) (fFrom : Int) (fData : List Int) (cTime : Int) (cPos : Int) (cMode : Int) (cNext : Int) (cMember : Int) : LT Bool Empty :=
  .need (A.call (@tt ((Int × Int × (Int × Int × Int × Int × Int) × Int × List Int))) (fKind, fReq, (fCTime, fCPos, fCMode, fCNext, fCMember), fFrom, fData)) (
  .need (A.call (@tt Unit) ()) (
  .br (A.not (A.call fn47 ()))
  (.need (A.call (@tt Unit) ()) (
  .ret (A.call fn47 ())))
  (.br (A.cmp .neq (A.call fn46 (fKind, fReq, (fCTime, fCPos, fCMode, fCNext, fCMember), fFrom, fData)).2 0)
  (.need (A.call (@tt Unit) ()) (
  .ret (A.call fn47 ())))
  (.need (A.call (@tt ((Int × List Int) × (Int × Int × Int × Int × Int))) ((A.call fn46 (fKind, fReq, (fCTime, fCPos, fCMode, fCNext, fCMember), fFrom, fData)).1, fCTime, fCPos, fCMode, fCNext, fCMember)) (
  .need (A.call (@tt ((Int × List Int) × (Int × Int × Int × Int × Int))) ((A.call fn46 (fKind, fReq, (fCTime, fCPos, fCMode, fCNext, fCMember), fFrom, fData)).1, cTime, cPos, cMode, cNext, cMember)) (
  .br (A.cmp .eql fKind 1)
  (.br (A.not (A.call fn53 ((A.call fn46 (fKind, fReq, (fCTime, fCPos, fCMode, fCNext, fCMember), fFrom, fData)).1, fCTime, fCPos, fCMode, fCNext, fCMember)).2)
  (.ret (A.not (A.call fn53 ((A.call fn46 (fKind, fReq, (fCTime, fCPos, fCMode, fCNext, fCMember), fFrom, fData)).1, cTime, cPos, cMode, cNext, cMember)).2))
  (.ret false))
  (.br (A.call fn53 ((A.call fn46 (fKind, fReq, (fCTime, fCPos, fCMode, fCNext, fCMember), fFrom, fData)).1, fCTime, fCPos, fCMode, fCNext, fCMember)).2
  (.need (A.call (@tt ((Int × Int × Int × Int × Int) × Int)) ((cTime, cPos, cMode, cNext, cMember), 8)) (
  .br (A.cmp .neq (A.call fn42 ((cTime, cPos, cMode, cNext, cMember), 8)) 0)
  (.ret true)
  (.ret (A.beq (A.call fn53 ((A.call fn46 (fKind, fReq, (fCTime, fCPos, fCMode, fCNext, fCMember), fFrom, fData)).1, cTime, cPos, cMode, cNext, cMember)).2 (A.and (A.cmp .eql cTime fCTime) (A.and (A.cmp .eql cPos fCPos) (A.and (A.cmp .eql cMode fCMode) (A.and (A.cmp .eql cNext fCNext) (A.and (A.cmp .eql cMember fCMember) true)))))))))
  (.ret false))))))))
noncomputable def E14 (A : Alg) : Info (Ty.Ts [.bool]) := { ti := tys, fns := [(14, Try.f14)], sps := [(42, sp42), (46, sp46), (47, sp47), (53, sp53)], stops := [], cuts := [], consts := [], fin := finD A [.bool] }
theorem t14_ok (A : Alg) (fKind : Int) (fReq : Int) (fCTime : Int) (fCPos : Int) (fCMode : Int) (fCNext : Int) (fCMember : Int) (fFrom : Int) (fData : List Int) (cTime : Int) (cPos : Int) (cMode : Int) (cNext : Int) (cMember : Int) : run A (E14 A) 87 (startC 14 Try.f14 (dvals A [(.struct [(.int .i64), (.int .i64), (.struct [(.int .i64), (.int .i64), (.int .i64), (.int .i64), (.int .i64)]), (.int .i64), (.slice (.int .u8))]), (.struct [(.int .i64), (.int .i64), (.int .i64), (.int .i64), (.int .i64)])] ((fKind, fReq, (fCTime, fCPos, fCMode, fCNext, fCMember), fFrom, fData), cTime, cPos, cMode, cNext, cMember))) = (t14 A fKind fReq fCTime fCPos fCMode fCNext fCMember fFrom fData cTime cPos cMode cNext cMember).tr Empty.elim := by kernel_rfl
def w14 : Walk Try.prog 14 [(.struct [(.int .i64), (.int .i64), (.struct [(.int .i64), (.int .i64), (.int .i64), (.int .i64), (.int .i64)]), (.int .i64), (.slice (.int .u8))]), (.struct [(.int .i64), (.int .i64), (.int .i64), (.int .i64), (.int .i64)])] [.bool] Empty := ⟨fun ((fKind, fReq, (fCTime, fCPos, fCMode, fCNext, fCMember), fFrom, fData), cTime, cPos, cMode, cNext, cMember) => t14 std fKind fReq fCTime fCPos fCMode fCNext fCMember fFrom fData cTime cPos cMode cNext cMember, Empty.elim⟩
theorem w14_ok : w14.Ok :=
  walk_ok (E := E14 std) ⟨tys_fit, fns_cons Try.func14 (by kernel_rfl) (fns_nil), sps_cons so42 (sps_cons so46 (sps_cons so47 (sps_cons so53 (sps_nil)))), by kernel_rfl⟩ rfl rfl rfl (by kernel_rfl) w14 Empty.elim 87 (fun ((fKind, fReq, (fCTime, fCPos, fCMode, fCNext, fCMember), fFrom, fData), cTime, cPos, cMode, cNext, cMember) => t14_ok std fKind fReq fCTime fCPos fCMode fCNext fCMember fFrom fData cTime cPos cMode cNext cMember) (fun y => y.elim)

def fn14 : ((Int × Int × (Int × Int × Int × Int × Int) × Int × List Int) × (Int × Int × Int × Int × Int)) → Bool := fun ((fKind, fReq, (fCTime, fCPos, fCMode, fCNext, fCMember), fFrom, fData), cTime, cPos, cMode, cNext, cMember) => (t14 std fKind fReq fCTime fCPos fCMode fCNext fCMember fFrom fData cTime cPos cMode cNext cMember).val (Ty.dflts [.bool])
def sp14 : FSpec := ⟨[(.struct [(.int .i64), (.int .i64), (.struct [(.int .i64), (.int .i64), (.int .i64), (.int .i64), (.int .i64)]), (.int .i64), (.slice (.int .u8))]), (.struct [(.int .i64), (.int .i64), (.int .i64), (.int .i64), (.int .i64)])], [.bool], (@tt ((Int × Int × (Int × Int × Int × Int × Int) × Int × List Int) × (Int × Int × Int × Int × Int))), fn14⟩
theorem eqs14 (fKind : Int) (fReq : Int) (fCTime : Int) (fCPos : Int) (fCMode : Int) (fCNext : Int) (fCMember : Int) (fFrom : Int) (fData : List Int) (cTime : Int) (cPos : Int) (cMode : Int) (cNext : Int) (cMember : Int) : (t14 std fKind fReq fCTime fCPos fCMode fCNext fCMember fFrom fData cTime cPos cMode cNext cMember).Eqs := by simp only [t14, LT.Eqs, and_self, true_and, and_true]
theorem pre14_ok {fKind : Int} {fReq : Int} {fCTime : Int} {fCPos : Int} {fCMode : Int} {fCNext : Int} {fCMember : Int} {fFrom : Int} {fData : List Int} {cTime : Int} {cPos : Int} {cMode : Int} {cNext : Int} {cMember : Int} (h : Ty.hass [(.struct [(.int .i64), (.int .i64), (.struct [(.int .i64), (.int .i64), (.int .i64), (.int .i64), (.int .i64)]), (.int .i64), (.slice (.int .u8))]), (.struct [(.int .i64), (.int .i64), (.int .i64), (.int .i64), (.int .i64)])] ((fKind, fReq, (fCTime, fCPos, fCMode, fCNext, fCMember), fFrom, fData), cTime, cPos, cMode, cNext, cMember)) : (t14 std fKind fReq fCTime fCPos fCMode fCNext fCMember fFrom fData cTime cPos cMode cNext cMember).pre = true := by
  simp [t14, LT.pre, std_call, tt_eq]
theorem so14 : FSpec.Sound Try.prog 14 sp14 :=
  w14_ok.sound _ _ fun ((fKind, fReq, (fCTime, fCPos, fCMode, fCNext, fCMember), fFrom, fData), cTime, cPos, cMode, cNext, cMember) _ h => LT.runs (d := Ty.dflts [.bool]) (eqs14 fKind fReq fCTime fCPos fCMode fCNext fCMember fFrom fData cTime cPos cMode cNext cMember) (pre14_ok h)
theorem law14 (x : (Int × Int × (Int × Int × Int × Int × Int) × Int × List Int) × (Int × Int × Int × Int × Int)) (h : Ty.hass [(.struct [(.int .i64), (.int .i64), (.struct [(.int .i64), (.int .i64), (.int .i64), (.int .i64), (.int .i64)]), (.int .i64), (.slice (.int .u8))]), (.struct [(.int .i64), (.int .i64), (.int .i64), (.int .i64), (.int .i64)])] x) : fn14 x = true := by
  obtain ⟨⟨k, r, ⟨t, p, m, n, s⟩, fr, d⟩, ⟨t', p', m', n', s'⟩⟩ := x
  have hd := has_frame (k := k) (r := r) (t := t) (p := p) (m := m) (n := n) (s := s) (fr := fr) (d := d) h.1
  have hchk : fn42 ((t', p', m', n', s'), 8) = bif stOk (t', p', m', n', s') then 0 else 40 := chkS_8 _
  simp only [fn14, t14, LT.val, std_call, begun05, fn46, fn53_eq, std_not, Bool.not_true, cond_false, std_cmp_neq, std_cmp_eql, std_beq, std_and, Bool.and_true, hchk]
  cases hok : frOk (k, r, (t, p, m, n, s), fr, d)
  · rw [show encS (k, r, (t, p, m, n, s), fr, d) = (zB, 50) from by rw [encS, hok]; rfl]
    rfl
  · rw [show encS (k, r, (t, p, m, n, s), fr, d) = (bsP (frBits (k, r, (t, p, m, n, s), fr, d)), 0) from by rw [encS, hok]; rfl]
    simp only [good_iff hok hd]
    have hx : ((t, p, m, n, s) == (t', p', m', n', s')) = (t' == t && (p' == p && (m' == m && (n' == n && s' == s)))) := by
      rw [Bool.eq_iff_iff]
      simp only [beq_iff_eq, Bool.and_eq_true, Prod.mk.injEq]
      constructor <;> (intro hh; obtain ⟨a, b, c, e, f⟩ := hh; exact ⟨a.symm, b.symm, c.symm, e.symm, f.symm⟩)
    rw [hx]
    generalize (t' == t && (p' == p && (m' == m && (n' == n && s' == s)))) = q
    simp only [beq_self_eq_true, Bool.and_true]
    cases k == 1 <;> cases q <;> cases stOk (t', p', m', n', s') <;> rfl

/-! ### metronome/metronomelaw05.FrameBack (function 15) -/
def t15 (A : Alg) (fKind : Int) (fReq : Int) (fCTime : Int) (fCPos : Int) (fCMode : Int) (fCNext : Int) (fCMember : Int) (fFrom : Int) (fData : List Int) (bN : Int) (bB : List Int) (cTime : Int) (cPos : Int) (cMode : Int) (cNext : Int) (cMember : Int) : LT Bool Empty :=
  .need (A.call (@tt Unit) ()) (
  .br (A.not (A.call fn47 ()))
  (.ret false)
  (.need (A.call (@tt ((Int × Int × (Int × Int × Int × Int × Int) × Int × List Int))) (fKind, fReq, (fCTime, fCPos, fCMode, fCNext, fCMember), fFrom, fData)) (
  .br (A.cmp .eql (A.call fn46 (fKind, fReq, (fCTime, fCPos, fCMode, fCNext, fCMember), fFrom, fData)).2 0)
  (.need (A.call (@tt ((Int × List Int) × (Int × Int × Int × Int × Int))) ((A.call fn46 (fKind, fReq, (fCTime, fCPos, fCMode, fCNext, fCMember), fFrom, fData)).1, fCTime, fCPos, fCMode, fCNext, fCMember)) (
  .br (A.cmp .neq (A.call fn50 ((A.call fn46 (fKind, fReq, (fCTime, fCPos, fCMode, fCNext, fCMember), fFrom, fData)).1, fCTime, fCPos, fCMode, fCNext, fCMember)).2 0)
  (.ret false)
  (.need (A.call (@tt ((Int × Int × (Int × Int × Int × Int × Int) × Int × List Int) × (Int × Int × (Int × Int × Int × Int × Int) × Int × List Int))) ((fKind, fReq, (fCTime, fCPos, fCMode, fCNext, fCMember), fFrom, fData), (A.call fn50 ((A.call fn46 (fKind, fReq, (fCTime, fCPos, fCMode, fCNext, fCMember), fFrom, fData)).1, fCTime, fCPos, fCMode, fCNext, fCMember)).1)) (
  .br (A.not (A.call fn44 ((fKind, fReq, (fCTime, fCPos, fCMode, fCNext, fCMember), fFrom, fData), (A.call fn50 ((A.call fn46 (fKind, fReq, (fCTime, fCPos, fCMode, fCNext, fCMember), fFrom, fData)).1, fCTime, fCPos, fCMode, fCNext, fCMember)).1)))
  (.ret false)
  (.need (A.call (@tt (Int × Int)) (fKind, (A.len fData))) (
  .br (A.cmp .neq (A.call fn46 (fKind, fReq, (fCTime, fCPos, fCMode, fCNext, fCMember), fFrom, fData)).1.1 (A.call fn56 (fKind, (A.len fData))))
  (.ret false)
  (.need (A.call (@tt ((Int × List Int) × (Int × Int × Int × Int × Int))) ((bN, bB), cTime, cPos, cMode, cNext, cMember)) (
  .br (A.cmp .neq (A.call fn50 ((bN, bB), cTime, cPos, cMode, cNext, cMember)).2 0)
  (.ret true)
  (.need (A.call (@tt ((Int × Int × (Int × Int × Int × Int × Int) × Int × List Int))) (A.call fn50 ((bN, bB), cTime, cPos, cMode, cNext, cMember)).1) (
  .br (A.cmp .eql (A.call fn46 (A.call fn50 ((bN, bB), cTime, cPos, cMode, cNext, cMember)).1).2 0)
  (.need (A.call (@tt ((Int × List Int) × (Int × List Int))) ((A.call fn46 (A.call fn50 ((bN, bB), cTime, cPos, cMode, cNext, cMember)).1).1, bN, bB)) (
  .ret (A.call fn49 ((A.call fn46 (A.call fn50 ((bN, bB), cTime, cPos, cMode, cNext, cMember)).1).1, bN, bB))))
  (.ret false)))))))))))
  (.need (A.call (@tt ((Int × List Int) × (Int × Int × Int × Int × Int))) ((bN, bB), cTime, cPos, cMode, cNext, cMember)) (
  .br (A.cmp .neq (A.call fn50 ((bN, bB), cTime, cPos, cMode, cNext, cMember)).2 0)
  (.ret true)
  (.need (A.call (@tt ((Int × Int × (Int × Int × Int × Int × Int) × Int × List Int))) (A.call fn50 ((bN, bB), cTime, cPos, cMode, cNext, cMember)).1) (
  .br (A.cmp .eql (A.call fn46 (A.call fn50 ((bN, bB), cTime, cPos, cMode, cNext, cMember)).1).2 0)
  (.need (A.call (@tt ((Int × List Int) × (Int × List Int))) ((A.call fn46 (A.call fn50 ((bN, bB), cTime, cPos, cMode, cNext, cMember)).1).1, bN, bB)) (
  .ret (A.call fn49 ((A.call fn46 (A.call fn50 ((bN, bB), cTime, cPos, cMode, cNext, cMember)).1).1, bN, bB))))
  (.ret false))))))))
noncomputable def E15 (A : Alg) : Info (Ty.Ts [.bool]) := { ti := tys, fns := [(15, Try.f15)], sps := [(44, sp44), (46, sp46), (47, sp47), (49, sp49), (50, sp50), (56, sp56)], stops := [], cuts := [], consts := [], fin := finD A [.bool] }
theorem t15_ok (A : Alg) (fKind : Int) (fReq : Int) (fCTime : Int) (fCPos : Int) (fCMode : Int) (fCNext : Int) (fCMember : Int) (fFrom : Int) (fData : List Int) (bN : Int) (bB : List Int) (cTime : Int) (cPos : Int) (cMode : Int) (cNext : Int) (cMember : Int) : run A (E15 A) 118 (startC 15 Try.f15 (dvals A [(.struct [(.int .i64), (.int .i64), (.struct [(.int .i64), (.int .i64), (.int .i64), (.int .i64), (.int .i64)]), (.int .i64), (.slice (.int .u8))]), (.struct [(.int .i64), (.slice (.int .u8))]), (.struct [(.int .i64), (.int .i64), (.int .i64), (.int .i64), (.int .i64)])] ((fKind, fReq, (fCTime, fCPos, fCMode, fCNext, fCMember), fFrom, fData), (bN, bB), cTime, cPos, cMode, cNext, cMember))) = (t15 A fKind fReq fCTime fCPos fCMode fCNext fCMember fFrom fData bN bB cTime cPos cMode cNext cMember).tr Empty.elim := by kernel_rfl
def w15 : Walk Try.prog 15 [(.struct [(.int .i64), (.int .i64), (.struct [(.int .i64), (.int .i64), (.int .i64), (.int .i64), (.int .i64)]), (.int .i64), (.slice (.int .u8))]), (.struct [(.int .i64), (.slice (.int .u8))]), (.struct [(.int .i64), (.int .i64), (.int .i64), (.int .i64), (.int .i64)])] [.bool] Empty := ⟨fun ((fKind, fReq, (fCTime, fCPos, fCMode, fCNext, fCMember), fFrom, fData), (bN, bB), cTime, cPos, cMode, cNext, cMember) => t15 std fKind fReq fCTime fCPos fCMode fCNext fCMember fFrom fData bN bB cTime cPos cMode cNext cMember, Empty.elim⟩
theorem w15_ok : w15.Ok :=
  walk_ok (E := E15 std) ⟨tys_fit, fns_cons Try.func15 (by kernel_rfl) (fns_nil), sps_cons so44 (sps_cons so46 (sps_cons so47 (sps_cons so49 (sps_cons so50 (sps_cons so56 (sps_nil)))))), by kernel_rfl⟩ rfl rfl rfl (by kernel_rfl) w15 Empty.elim 118 (fun ((fKind, fReq, (fCTime, fCPos, fCMode, fCNext, fCMember), fFrom, fData), (bN, bB), cTime, cPos, cMode, cNext, cMember) => t15_ok std fKind fReq fCTime fCPos fCMode fCNext fCMember fFrom fData bN bB cTime cPos cMode cNext cMember) (fun y => y.elim)

def fn15 : ((Int × Int × (Int × Int × Int × Int × Int) × Int × List Int) × (Int × List Int) × (Int × Int × Int × Int × Int)) → Bool := fun ((fKind, fReq, (fCTime, fCPos, fCMode, fCNext, fCMember), fFrom, fData), (bN, bB), cTime, cPos, cMode, cNext, cMember) => (t15 std fKind fReq fCTime fCPos fCMode fCNext fCMember fFrom fData bN bB cTime cPos cMode cNext cMember).val (Ty.dflts [.bool])
def sp15 : FSpec := ⟨[(.struct [(.int .i64), (.int .i64), (.struct [(.int .i64), (.int .i64), (.int .i64), (.int .i64), (.int .i64)]), (.int .i64), (.slice (.int .u8))]), (.struct [(.int .i64), (.slice (.int .u8))]), (.struct [(.int .i64), (.int .i64), (.int .i64), (.int .i64), (.int .i64)])], [.bool], (@tt ((Int × Int × (Int × Int × Int × Int × Int) × Int × List Int) × (Int × List Int) × (Int × Int × Int × Int × Int))), fn15⟩
theorem eqs15 (fKind : Int) (fReq : Int) (fCTime : Int) (fCPos : Int) (fCMode : Int) (fCNext : Int) (fCMember : Int) (fFrom : Int) (fData : List Int) (bN : Int) (bB : List Int) (cTime : Int) (cPos : Int) (cMode : Int) (cNext : Int) (cMember : Int) : (t15 std fKind fReq fCTime fCPos fCMode fCNext fCMember fFrom fData bN bB cTime cPos cMode cNext cMember).Eqs := by simp only [t15, LT.Eqs, and_self, true_and, and_true]
theorem pre15_ok {fKind : Int} {fReq : Int} {fCTime : Int} {fCPos : Int} {fCMode : Int} {fCNext : Int} {fCMember : Int} {fFrom : Int} {fData : List Int} {bN : Int} {bB : List Int} {cTime : Int} {cPos : Int} {cMode : Int} {cNext : Int} {cMember : Int} (h : Ty.hass [(.struct [(.int .i64), (.int .i64), (.struct [(.int .i64), (.int .i64), (.int .i64), (.int .i64), (.int .i64)]), (.int .i64), (.slice (.int .u8))]), (.struct [(.int .i64), (.slice (.int .u8))]), (.struct [(.int .i64), (.int .i64), (.int .i64), (.int .i64), (.int .i64)])] ((fKind, fReq, (fCTime, fCPos, fCMode, fCNext, fCMember), fFrom, fData), (bN, bB), cTime, cPos, cMode, cNext, cMember)) : (t15 std fKind fReq fCTime fCPos fCMode fCNext fCMember fFrom fData bN bB cTime cPos cMode cNext cMember).pre = true := by
  simp [t15, LT.pre, std_call, tt_eq]
theorem so15 : FSpec.Sound Try.prog 15 sp15 :=
  w15_ok.sound _ _ fun ((fKind, fReq, (fCTime, fCPos, fCMode, fCNext, fCMember), fFrom, fData), (bN, bB), cTime, cPos, cMode, cNext, cMember) _ h => LT.runs (d := Ty.dflts [.bool]) (eqs15 fKind fReq fCTime fCPos fCMode fCNext fCMember fFrom fData bN bB cTime cPos cMode cNext cMember) (pre15_ok h)
theorem encS_parS {n : Int} {b : List Int} {c : Int × Int × Int × Int × Int} (hb : bytesOk b) (h : ((parS ((n, b), c)).2 != 0) = false) : encS (parS ((n, b), c)).1 = ((n, b), 0) := by
  rw [parS] at h ⊢
  cases h1 : bsOk (n, b)
  · rw [h1] at h; cases h
  · rw [h1] at h
    rw [Bool.not_true, cond_false] at h ⊢
    cases h2 : stOk c
    · rw [h2] at h; cases h
    · rw [h2] at h
      rw [Bool.not_true, cond_false] at h ⊢
      have he : (frOf (bsL (n, b)) c).2 = 0 := by simpa using h
      obtain ⟨g, hg⟩ : ∃ g, frOf (bsL (n, b)) c = (g, 0) := ⟨_, Prod.ext rfl he⟩
      obtain ⟨e1, e2, _⟩ := frBits_frOf h2 hg
      rw [hg]
      show encS g = _
      rw [encS, e2, e1, bsP_bsL hb h1]; rfl
theorem law15 (x : (Int × Int × (Int × Int × Int × Int × Int) × Int × List Int) × (Int × List Int) × (Int × Int × Int × Int × Int)) (h : Ty.hass [(.struct [(.int .i64), (.int .i64), (.struct [(.int .i64), (.int .i64), (.int .i64), (.int .i64), (.int .i64)]), (.int .i64), (.slice (.int .u8))]), (.struct [(.int .i64), (.slice (.int .u8))]), (.struct [(.int .i64), (.int .i64), (.int .i64), (.int .i64), (.int .i64)])] x) : fn15 x = true := by
  obtain ⟨⟨k, r, ⟨t, p, m, n, s⟩, fr, d⟩, ⟨bn, bb⟩, ⟨t', p', m', n', s'⟩⟩ := x
  have hd := has_frame (k := k) (r := r) (t := t) (p := p) (m := m) (n := n) (s := s) (fr := fr) (d := d) h.1
  have hbb := (has_bits (n := bn) (b := bb) h.2.1).2.2
  have hlen : std.len d = (d.length : Int) := rfl
  simp only [fn15, t15, LT.val, std_call, begun05, fn46, fn50, std_not, Bool.not_true, cond_false, std_cmp_neq, std_cmp_eql, size_eqs.1, hlen]
  have hpart : (bif (parS ((bn, bb), (t', p', m', n', s'))).2 != 0 then true else bif (encS (parS ((bn, bb), (t', p', m', n', s'))).1).2 == 0 then fn49 ((encS (parS ((bn, bb), (t', p', m', n', s'))).1).1, (bn, bb)) else false) = true := by
    cases he : (parS ((bn, bb), (t', p', m', n', s'))).2 != 0
    · rw [encS_parS hbb he]
      show fn49 ((bn, bb), (bn, bb)) = true
      rw [fn49_eq hbb hbb]; simp
    · rfl
  cases hok : frOk (k, r, (t, p, m, n, s), fr, d)
  · rw [show encS (k, r, (t, p, m, n, s), fr, d) = (zB, 50) from by rw [encS, hok]; rfl]
    exact hpart
  · rw [show encS (k, r, (t, p, m, n, s), fr, d) = (bsP (frBits (k, r, (t, p, m, n, s), fr, d)), 0) from by rw [encS, hok]; rfl]
    obtain ⟨hs, hl⟩ := frBits_length hok
    have hst := (frOk_iff.1 hok).1
    have hp : parS (bsP (frBits (k, r, (t, p, m, n, s), fr, d)), (t, p, m, n, s)) = ((k, r, (t, p, m, n, s), fr, d), 0) := by
      rw [parS_bsP (by omega), hst]; exact frOf_frBits hok hd
    have h1 : (bsP (frBits (k, r, (t, p, m, n, s), fr, d))).1 = sizeS (k, (d.length : Int)) := hs
    simp only [hp, h1, fn44_eq hd hd, frEq_self, beq_self_eq_true, bne_self_eq_false, cond_true, cond_false, Bool.not_true]
    exact hpart

end Go.Ev.M
