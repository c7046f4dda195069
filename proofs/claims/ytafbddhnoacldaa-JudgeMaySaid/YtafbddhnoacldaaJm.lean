/-
  PROVED: what judge.Apply computes, and the statement JudgeMay of its function. Conditions: none.
-/
import Derived.Test.YtafbddhnoacldaaJa
namespace Go.Ev.M
open Go.Proofs
set_option maxRecDepth 100000
set_option linter.unusedVariables false
set_option linter.unusedSimpArgs false

open Go.Ev.Pl
theorem inc_le {d : Int} (h0 : 0 ≤ d) (h1 : d ≤ 1048576) : 0 ≤ inc d ∧ inc d ≤ 1048576 := by
  unfold inc; split <;> omega
/-- With another set and other counts, and not waiting. -/
theorem ok_0 {a b c d e f g c' d' e' : Int} (h : okM a b c d e f g) (h1 : 0 ≤ c' ∧ c' < ((2 ^ b.toNat : Nat) : Int)) (h2 : 0 ≤ d' ∧ d' ≤ 1048576) (h3 : 0 ≤ e' ∧ e' ≤ 1048576) : okM a b c' d' e' 0 0 := by
  unfold okM at h ⊢
  exact ⟨h.1, h.2.1, h.2.2.1, h.2.2.2.1, by omega, by omega, h1.1, h1.2, h2.1, h2.2, h3.1, h3.2, by omega, by omega, fun h => absurd rfl h, fun h => by omega⟩

/-- What comes of a right frame may be, and has its sender in. -/
theorem good_may {a b c d e f g s k : Int} (h : okM a b c d e f g) (h0 : 0 ≤ s) (h1 : s < b) (h2 : s ≠ a) (hk : k = 0 ∨ k = 1) (he : (fn25 ((a, b, c, d, e, f, g), s, k)).2 = 0) :
    ∃ c' d' e' f' g', (fn25 ((a, b, c, d, e, f, g), s, k)).1 = (a, b, c', d', e', f', g') ∧ okM a b c' d' e' f' g' ∧ bitT c' s = true := by
  have hm := h
  unfold okM at hm
  have hp := pow_le (n := b.toNat) (by omega)
  have id := inc_le (d := d) (by omega) (by omega)
  have ie := inc_le (d := e) (by omega) (by omega)
  have I := fun {c s : Int} (h : 0 ≤ c ∧ c < ((2 ^ b.toNat : Nat) : Int)) (h' : 0 ≤ s ∧ s < b) => ins_lt (c := c) (s := s) (n := b) h.1 (by omega) h.2 h'.1 h'.2
  have D := fun {c s : Int} (h : 0 ≤ c ∧ c < ((2 ^ b.toNat : Nat) : Int)) (h' : 0 ≤ s ∧ s < b) => del_lt (c := c) (s := s) (n := b) h.1 (by omega) h.2 h'.1 (by omega)
  have BI := fun {c s : Int} (h : 0 ≤ c ∧ c < ((2 ^ b.toNat : Nat) : Int)) (h' : 0 ≤ s ∧ s < b) {i : Int} (hi : 0 ≤ i) => bit_ins (c := c) (s := s) (i := i) h.1 (by omega) h'.1 (by omega) hi
  have BD := fun {c s : Int} (h : 0 ≤ c ∧ c < ((2 ^ b.toNat : Nat) : Int)) (h' : 0 ≤ s ∧ s < b) {i : Int} (hi : 0 ≤ i) => bit_del (c := c) (s := s) (i := i) h.1 (by omega) h'.1 (by omega) hi
  have hc : 0 ≤ c ∧ c < ((2 ^ b.toNat : Nat) : Int) := ⟨by omega, by omega⟩
  have ha : 0 ≤ a ∧ a < b := ⟨by omega, by omega⟩
  have hs : 0 ≤ s ∧ s < b := ⟨h0, h1⟩
  have hg : 0 ≤ g ∧ g < b := ⟨by omega, by omega⟩
  have hf : f = 0 ∨ f = 1 ∨ f = 2 := by omega
  have sa : (a == s) = false := by simp; omega
  rcases hf with rfl | rfl | rfl <;> rcases hk with rfl | rfl
  · rw [good_0 h h0 h1 h2]
    exact ⟨_, _, _, _, _, rfl, ok_0 h (I hc hs) id (by omega), by rw [BI hc hs h0]; simp⟩
  · exfalso
    revert he
    simp [fn25, t25, LT.val, std_call, std_cmp_neq, std_cmp_eql, std_not, fn73_zero.2 ⟨h, h0, h1, h2⟩, fn74_ok h h0 h1 h2, fn78_0]
  · rw [good_1 h h0 h1 h2]
    exact ⟨_, _, _, _, _, rfl, ok_0 h (I (I hc hs) ha) id (by omega), by rw [BI (I hc hs) ha h0, BI hc hs h0]; simp⟩
  · rw [good_11 h h0 h1 h2]
    refine ⟨_, _, _, _, _, rfl, ?_, by rw [BI hc hs h0]; simp⟩
    have := I hc hs
    unfold okM
    exact ⟨by omega, by omega, by omega, by omega, by omega, by omega, by omega, by omega, by omega, by omega, by omega, by omega, by omega, by omega, fun _ => by
      rw [BI hc hs ha.1, hm.2.2.2.2.2.2.2.2.2.2.2.2.2.2.1 (by decide)]; rfl, fun _ => h2⟩
  · by_cases hsg : s = g
    · subst hsg
      rw [good_2a h h0 h1 h2]
      exact ⟨_, _, _, _, _, rfl, ok_0 h (I (I hc hs) ha) id (by omega), by rw [BI (I hc hs) ha h0, BI hc hs h0]; simp⟩
    · rw [good_2b h h0 h1 h2 hsg]
      exact ⟨_, _, _, _, _, rfl, ok_0 h (D (I (I hc hs) ha) hg) id ie, by
        have sg : (g != s) = true := by simp; omega
        rw [BD (I (I hc hs) ha) hg h0, BI (I hc hs) ha h0, BI hc hs h0, sg]; simp⟩
  · by_cases hsg : s = g
    · subst hsg
      exfalso
      revert he
      simp [fn25, t25, LT.val, std_call, std_cmp_neq, std_cmp_eql, std_not, fn73_zero.2 ⟨h, h0, h1, h2⟩, fn74_ok h h0 h1 h2, fn78_2a]
    · rw [good_2c h h0 h1 h2 hsg]
      exact ⟨_, _, _, _, _, rfl, ok_0 h (D (I (I hc hs) hg) ha) id ie, by
        have sg : (a != s) = true := by simp; omega
        rw [BD (I (I hc hs) hg) ha h0, BI (I hc hs) hg h0, BI hc hs h0, sg]; simp⟩
theorem null_may {a b c d e f g s : Int} (h : okM a b c d e f g) (h0 : 0 ≤ s) (h1 : s < b) (h2 : s ≠ a) :
    ∃ c' f' g', fn38 ((a, b, c, d, e, f, g), s) = ((a, b, c', d, e, f', g'), 0) ∧ okM a b c' d e f' g' := by
  have hm := h
  unfold okM at hm
  have hp := pow_le (n := b.toNat) (by omega)
  have hd := del_lt (c := c) (s := s) (n := b) (by omega) (by omega) (by omega) h0 (by omega)
  have hb : f ≠ 0 → bitT (delB c s) a = true := fun hf => by
    rw [bit_del (by omega) (by omega) h0 (by omega) (by omega), hm.2.2.2.2.2.2.2.2.2.2.2.2.2.2.1 hf]
    simpa using h2
  by_cases hf : f = 2
  · subst hf
    by_cases hsg : g = s
    · subst hsg
      refine ⟨_, _, _, null_3 h h2, ?_⟩
      unfold okM
      exact ⟨by omega, by omega, by omega, by omega, by omega, by omega, by omega, by omega, by omega, by omega, by omega, by omega, by omega, by omega, fun _ => hb (by decide), fun h => by omega⟩
    · refine ⟨_, _, _, null_2 h h0 h1 h2 hsg, ?_⟩
      unfold okM
      exact ⟨by omega, by omega, by omega, by omega, by omega, by omega, by omega, by omega, by omega, by omega, by omega, by omega, by omega, by omega, fun _ => hb (by decide), hm.2.2.2.2.2.2.2.2.2.2.2.2.2.2.2⟩
  · refine ⟨_, _, _, null_1 h h0 h1 h2 hf, ?_⟩
    unfold okM
    exact ⟨by omega, by omega, by omega, by omega, by omega, by omega, by omega, by omega, by omega, by omega, by omega, by omega, by omega, by omega, hb, fun h => absurd h hf⟩
theorem ok_e {a b c d e f g e' : Int} (h : okM a b c d e f g) (h1 : 0 ≤ e' ∧ e' ≤ 1048576) : okM a b c d e' f g := by
  unfold okM at h ⊢
  exact ⟨h.1, h.2.1, h.2.2.1, h.2.2.2.1, h.2.2.2.2.1, h.2.2.2.2.2.1, h.2.2.2.2.2.2.1, h.2.2.2.2.2.2.2.1, h.2.2.2.2.2.2.2.2.1, h.2.2.2.2.2.2.2.2.2.1, h1.1, h1.2, h.2.2.2.2.2.2.2.2.2.2.2.2⟩
/-- A call about no other node. -/
theorem no_other {a b c d e f g s : Int} (h : okM a b c d e f g) (h0 : ¬ (0 ≤ s ∧ s < b ∧ s ≠ a)) : fn73 ((a, b, c, d, e, f, g), s) ≠ 0 := fun h' => h0 (fn73_zero.1 h').2
theorem good_no {m : Int × Int × Int × Int × Int × Int × Int} {s k : Int} (h : fn73 (m, s) ≠ 0) : (fn25 (m, s, k)).2 = fn73 (m, s) := by
  obtain ⟨a, b, c, d, e, f, g⟩ := m
  have e1 : (fn73 ((a, b, c, d, e, f, g), s) != 0) = true := by simpa using h
  simp only [fn25, t25, LT.val, std_call, std_cmp_neq, e1, cond_true]
theorem null_no {m : Int × Int × Int × Int × Int × Int × Int} {s : Int} (h : fn73 (m, s) ≠ 0) : (fn38 (m, s)).2 = fn73 (m, s) := by
  obtain ⟨a, b, c, d, e, f, g⟩ := m
  have e1 : (fn73 ((a, b, c, d, e, f, g), s) != 0) = true := by simpa using h
  simp only [fn38, t38, LT.val, std_call, std_cmp_neq, e1, cond_true]
theorem bad_no {m : Int × Int × Int × Int × Int × Int × Int} {s : Int} (h : fn73 (m, s) ≠ 0) : (fn39 (m, s)).2 = fn73 (m, s) := by
  obtain ⟨a, b, c, d, e, f, g⟩ := m
  have := null_no h
  have h' : (fn38 ((a, b, c, d, e, f, g), s)).2 ≠ 0 := by rw [this]; exact h
  have e1 : ((fn38 ((a, b, c, d, e, f, g), s)).2 == 0) = false := by simpa using h'
  simp only [fn39, t39, LT.val, std_call, std_cmp_eql, e1, cond_false]
  exact this
theorem bit_shl {c s : Int} (h0 : 0 ≤ c) (h1 : c < 256) (h2 : 0 ≤ s) (h3 : s < 8) : (std.bin .and .i64 c (std.bin .shl .i64 1 s) == 0) = !bitT c s := by
  have := bit_r h0 h1 h2 h3
  cases hb : bitT c s
  · rw [hb] at this; simpa using this
  · rw [hb] at this; simp at this; simpa using this

/-! ### metronome/judge.Apply (function 61) -/
def t61 (A : Alg) (vId : Int) (vN : Int) (vSet : Int) (vAcc : Int) (vFail : Int) (vStage : Int) (vFirst : Int) (sender : Int) (oKind : Int) (oWhich : Int) (oChan : Int) (oFKind : Int) (oFReq : Int) (oFCTime : Int) (oFCPos : Int) (oFCMode : Int) (oFCNext : Int) (oFCMember : Int) (oFFrom : Int) (oFData : List Int) (oAt : Int) : LT ((Int × Int × Int × Int × Int × Int × Int) × Int) Empty :=
  .br (A.cmp .eql oKind 1)
  (.need (A.call (@tt ((Int × Int × Int × Int × Int × Int × Int) × Int)) ((vId, vN, vSet, vAcc, vFail, vStage, vFirst), sender)) (
  .ret (A.call fn38 ((vId, vN, vSet, vAcc, vFail, vStage, vFirst), sender))))
  (.br (A.cmp .eql oKind 2)
  (.need (A.call (@tt ((Int × Int × Int × Int × Int × Int × Int) × Int)) ((vId, vN, vSet, vAcc, vFail, vStage, vFirst), sender)) (
  .ret (A.call fn39 ((vId, vN, vSet, vAcc, vFail, vStage, vFirst), sender))))
  (.br (A.cmp .eql oKind 3)
  (.need (A.call (@tt ((Int × Int × Int × Int × Int × Int × Int) × Int × Int)) ((vId, vN, vSet, vAcc, vFail, vStage, vFirst), sender, oWhich)) (
  .ret (A.call fn25 ((vId, vN, vSet, vAcc, vFail, vStage, vFirst), sender, oWhich))))
  (.ret ((0, 0, 0, 0, 0, 0, 0), 2))))
noncomputable def E61 (A : Alg) : Info (Ty.Ts [(.struct [(.int .i64), (.int .i64), (.int .i64), (.int .i64), (.int .i64), (.int .i64), (.int .i64)]), (.int .i64)]) := { ti := tys, fns := [(61, Try.f61)], sps := [(25, sp25), (38, sp38), (39, sp39)], stops := [], cuts := [], consts := [], fin := finD A [(.struct [(.int .i64), (.int .i64), (.int .i64), (.int .i64), (.int .i64), (.int .i64), (.int .i64)]), (.int .i64)] }
theorem t61_ok (A : Alg) (vId : Int) (vN : Int) (vSet : Int) (vAcc : Int) (vFail : Int) (vStage : Int) (vFirst : Int) (sender : Int) (oKind : Int) (oWhich : Int) (oChan : Int) (oFKind : Int) (oFReq : Int) (oFCTime : Int) (oFCPos : Int) (oFCMode : Int) (oFCNext : Int) (oFCMember : Int) (oFFrom : Int) (oFData : List Int) (oAt : Int) : run A (E61 A) 50 (startC 61 Try.f61 (dvals A [(.struct [(.int .i64), (.int .i64), (.int .i64), (.int .i64), (.int .i64), (.int .i64), (.int .i64)]), (.int .i64), (.struct [(.int .i64), (.int .i64), (.int .i64), (.struct [(.int .i64), (.int .i64), (.struct [(.int .i64), (.int .i64), (.int .i64), (.int .i64), (.int .i64)]), (.int .i64), (.slice (.int .u8))]), (.int .i64)])] ((vId, vN, vSet, vAcc, vFail, vStage, vFirst), sender, oKind, oWhich, oChan, (oFKind, oFReq, (oFCTime, oFCPos, oFCMode, oFCNext, oFCMember), oFFrom, oFData), oAt))) = (t61 A vId vN vSet vAcc vFail vStage vFirst sender oKind oWhich oChan oFKind oFReq oFCTime oFCPos oFCMode oFCNext oFCMember oFFrom oFData oAt).tr Empty.elim := by kernel_rfl
def w61 : Walk Try.prog 61 [(.struct [(.int .i64), (.int .i64), (.int .i64), (.int .i64), (.int .i64), (.int .i64), (.int .i64)]), (.int .i64), (.struct [(.int .i64), (.int .i64), (.int .i64), (.struct [(.int .i64), (.int .i64), (.struct [(.int .i64), (.int .i64), (.int .i64), (.int .i64), (.int .i64)]), (.int .i64), (.slice (.int .u8))]), (.int .i64)])] [(.struct [(.int .i64), (.int .i64), (.int .i64), (.int .i64), (.int .i64), (.int .i64), (.int .i64)]), (.int .i64)] Empty := ⟨fun ((vId, vN, vSet, vAcc, vFail, vStage, vFirst), sender, oKind, oWhich, oChan, (oFKind, oFReq, (oFCTime, oFCPos, oFCMode, oFCNext, oFCMember), oFFrom, oFData), oAt) => t61 std vId vN vSet vAcc vFail vStage vFirst sender oKind oWhich oChan oFKind oFReq oFCTime oFCPos oFCMode oFCNext oFCMember oFFrom oFData oAt, Empty.elim⟩
theorem w61_ok : w61.Ok :=
  walk_ok (E := E61 std) ⟨tys_fit, fns_cons Try.func61 (by kernel_rfl) (fns_nil), sps_cons so25 (sps_cons so38 (sps_cons so39 (sps_nil))), by kernel_rfl⟩ rfl rfl rfl (by kernel_rfl) w61 Empty.elim 50 (fun ((vId, vN, vSet, vAcc, vFail, vStage, vFirst), sender, oKind, oWhich, oChan, (oFKind, oFReq, (oFCTime, oFCPos, oFCMode, oFCNext, oFCMember), oFFrom, oFData), oAt) => t61_ok std vId vN vSet vAcc vFail vStage vFirst sender oKind oWhich oChan oFKind oFReq oFCTime oFCPos oFCMode oFCNext oFCMember oFFrom oFData oAt) (fun y => y.elim)

def fn61 : ((Int × Int × Int × Int × Int × Int × Int) × Int × (Int × Int × Int × (Int × Int × (Int × Int × Int × Int × Int) × Int × List Int) × Int)) → ((Int × Int × Int × Int × Int × Int × Int) × Int) := fun ((vId, vN, vSet, vAcc, vFail, vStage, vFirst), sender, oKind, oWhich, oChan, (oFKind, oFReq, (oFCTime, oFCPos, oFCMode, oFCNext, oFCMember), oFFrom, oFData), oAt) => (t61 std vId vN vSet vAcc vFail vStage vFirst sender oKind oWhich oChan oFKind oFReq oFCTime oFCPos oFCMode oFCNext oFCMember oFFrom oFData oAt).val (Ty.dflts [(.struct [(.int .i64), (.int .i64), (.int .i64), (.int .i64), (.int .i64), (.int .i64), (.int .i64)]), (.int .i64)])
def sp61 : FSpec := ⟨[(.struct [(.int .i64), (.int .i64), (.int .i64), (.int .i64), (.int .i64), (.int .i64), (.int .i64)]), (.int .i64), (.struct [(.int .i64), (.int .i64), (.int .i64), (.struct [(.int .i64), (.int .i64), (.struct [(.int .i64), (.int .i64), (.int .i64), (.int .i64), (.int .i64)]), (.int .i64), (.slice (.int .u8))]), (.int .i64)])], [(.struct [(.int .i64), (.int .i64), (.int .i64), (.int .i64), (.int .i64), (.int .i64), (.int .i64)]), (.int .i64)], (@tt ((Int × Int × Int × Int × Int × Int × Int) × Int × (Int × Int × Int × (Int × Int × (Int × Int × Int × Int × Int) × Int × List Int) × Int))), fn61⟩
theorem eqs61 (vId : Int) (vN : Int) (vSet : Int) (vAcc : Int) (vFail : Int) (vStage : Int) (vFirst : Int) (sender : Int) (oKind : Int) (oWhich : Int) (oChan : Int) (oFKind : Int) (oFReq : Int) (oFCTime : Int) (oFCPos : Int) (oFCMode : Int) (oFCNext : Int) (oFCMember : Int) (oFFrom : Int) (oFData : List Int) (oAt : Int) : (t61 std vId vN vSet vAcc vFail vStage vFirst sender oKind oWhich oChan oFKind oFReq oFCTime oFCPos oFCMode oFCNext oFCMember oFFrom oFData oAt).Eqs := by simp only [t61, LT.Eqs, and_self, true_and, and_true]
theorem pre61_ok {vId : Int} {vN : Int} {vSet : Int} {vAcc : Int} {vFail : Int} {vStage : Int} {vFirst : Int} {sender : Int} {oKind : Int} {oWhich : Int} {oChan : Int} {oFKind : Int} {oFReq : Int} {oFCTime : Int} {oFCPos : Int} {oFCMode : Int} {oFCNext : Int} {oFCMember : Int} {oFFrom : Int} {oFData : List Int} {oAt : Int} (h : Ty.hass [(.struct [(.int .i64), (.int .i64), (.int .i64), (.int .i64), (.int .i64), (.int .i64), (.int .i64)]), (.int .i64), (.struct [(.int .i64), (.int .i64), (.int .i64), (.struct [(.int .i64), (.int .i64), (.struct [(.int .i64), (.int .i64), (.int .i64), (.int .i64), (.int .i64)]), (.int .i64), (.slice (.int .u8))]), (.int .i64)])] ((vId, vN, vSet, vAcc, vFail, vStage, vFirst), sender, oKind, oWhich, oChan, (oFKind, oFReq, (oFCTime, oFCPos, oFCMode, oFCNext, oFCMember), oFFrom, oFData), oAt)) : (t61 std vId vN vSet vAcc vFail vStage vFirst sender oKind oWhich oChan oFKind oFReq oFCTime oFCPos oFCMode oFCNext oFCMember oFFrom oFData oAt).pre = true := by
  simp [t61, LT.pre, std_call, tt_eq]
theorem so61 : FSpec.Sound Try.prog 61 sp61 :=
  w61_ok.sound _ _ fun ((vId, vN, vSet, vAcc, vFail, vStage, vFirst), sender, oKind, oWhich, oChan, (oFKind, oFReq, (oFCTime, oFCPos, oFCMode, oFCNext, oFCMember), oFFrom, oFData), oAt) _ h => LT.runs (d := Ty.dflts [(.struct [(.int .i64), (.int .i64), (.int .i64), (.int .i64), (.int .i64), (.int .i64), (.int .i64)]), (.int .i64)]) (eqs61 vId vN vSet vAcc vFail vStage vFirst sender oKind oWhich oChan oFKind oFReq oFCTime oFCPos oFCMode oFCNext oFCMember oFFrom oFData oAt) (pre61_ok h)
theorem slotIn_which {c : Int × Int × Int × Int × Int} {w : Int} {o : Int × Int × Int × (Int × Int × (Int × Int × Int × Int × Int) × Int × List Int) × Int} : ∀ {l : List (Int × Int × (Int × List Int))} {k : Nat}, slotIn c w k l = some o → o.2.1 = w := by
  intro l
  induction l with
  | nil => intro k h; cases h
  | cons s l ih =>
    intro k h
    rw [slotIn] at h
    cases hb : (s.1 == 2 && (goodS (s.2.2, c)).2)
    · rw [hb, cond_false] at h; exact ih h
    · rw [hb, cond_true] at h; cases h; rfl
theorem slotOut_which {t p m n : Int} {seen : List (Int × Int × (Int × List Int))} {o : Int × Int × Int × (Int × Int × (Int × Int × Int × Int × Int) × Int × List Int) × Int} : ∀ {l : List Int} {i : Nat}, slotOut t p m n seen i l = some o → ∃ k, k < l.length ∧ o.2.1 = ((i + k : Nat) : Int) := by
  intro l
  induction l with
  | nil => intro i h; cases h
  | cons v l ih =>
    intro i h
    rw [slotOut] at h
    cases hs : slotIn (t, p, m, n, v) (i : Int) 0 seen with
    | none =>
      rw [hs] at h
      obtain ⟨k, h1, h2⟩ := ih h
      exact ⟨k + 1, by rw [List.length_cons]; omega, by rw [h2]; congr 1; omega⟩
    | some o' =>
      rw [hs] at h
      cases h
      exact ⟨0, by rw [List.length_cons]; omega, by rw [slotIn_which hs]; rfl⟩
theorem slot_cases {t p m n s sender : Int} {v : Int × Int × Int × Int × Int × Int × Int} {seen : List (Int × Int × (Int × List Int))} (h : (slotS ((t, p, m, n, s), v, sender, seen)).2 = 0) :
    fn34 v = 0 ∧ 0 ≤ sender ∧ sender < v.2.1 ∧ sender ≠ v.1 ∧ ((∃ k, k < (vws (v, sender)).length ∧ (slotS ((t, p, m, n, s), v, sender, seen)).1.1 = 3 ∧ (slotS ((t, p, m, n, s), v, sender, seen)).1.2.1 = (k : Int)) ∨ (slotS ((t, p, m, n, s), v, sender, seen)).1.1 = 1 ∨ (slotS ((t, p, m, n, s), v, sender, seen)).1.1 = 2) := by
  rw [slotS] at h ⊢
  cases h1 : (fn34 v != 0 || chkS ((t, p, m, n, s), v.2.1) != 0)
  · rw [h1] at h
    rw [cond_false] at h ⊢
    cases h2 : (decide (sender < 0) || decide (v.2.1 ≤ sender) || sender == v.1 || seen.length != 2)
    · rw [cond_false]
      simp only [Bool.or_eq_false_iff, bne_eq_false_iff_eq, decide_eq_false_iff_not, beq_eq_false_iff_ne] at h1 h2
      refine ⟨h1.1, by omega, by omega, h2.1.2, ?_⟩
      rw [slotR]
      cases h3 : slotOut t p m n seen 0 (vws (v, sender)) with
      | some o =>
        obtain ⟨k, h4, h5⟩ := slotOut_which h3
        exact .inl ⟨k, h4, (slotOut_some h3).1, by rw [Nat.zero_add] at h5; exact h5⟩
      | none =>
        right
        show (slotEnd seen).1 = 1 ∨ (slotEnd seen).1 = 2
        rw [slotEnd]
        cases seen.any fun s => s.1 != 0
        · exact .inl rfl
        · exact .inr rfl
    · rw [h2] at h; cases h
  · rw [h1] at h; cases h
theorem null_bit {a b c d e f g s : Int} (h : okM a b c d e f g) (h0 : 0 ≤ s) (h1 : s < b) (h2 : s ≠ a) :
    ∃ c' f' g', fn38 ((a, b, c, d, e, f, g), s) = ((a, b, c', d, e, f', g'), 0) ∧ okM a b c' d e f' g' ∧ bitT c' s = false := by
  obtain ⟨c', f', g', e1, e2⟩ := null_may h h0 h1 h2
  refine ⟨c', f', g', e1, e2, ?_⟩
  have hc := okM_c h
  have hm := h
  unfold okM at hm
  have : c' = delB c s := by
    by_cases hf : f = 2
    · subst hf
      by_cases hsg : g = s
      · subst hsg
        rw [null_3 h h2] at e1
        simp only [Prod.mk.injEq] at e1
        exact e1.1.2.2.1.symm
      · rw [null_2 h h0 h1 h2 hsg] at e1
        simp only [Prod.mk.injEq] at e1
        exact e1.1.2.2.1.symm
    · rw [null_1 h h0 h1 h2 hf] at e1
      simp only [Prod.mk.injEq] at e1
      exact e1.1.2.2.1.symm
  rw [this, bit_del (by omega) hc h0 (by omega) h0, bne_self_eq_false, Bool.and_false]
theorem good_err {a b c d e f g s : Int} {k : Nat} (h : okM a b c d e f g) (h0 : 0 ≤ s) (h1 : s < b) (h2 : s ≠ a) (hk : k < (vws ((a, b, c, d, e, f, g), s)).length) : (fn25 ((a, b, c, d, e, f, g), s, (k : Int))).2 = 0 ∧ ((k : Int) = 0 ∨ (k : Int) = 1) := by
  have hm := h
  unfold okM at hm
  have hf : f = 0 ∨ f = 1 ∨ f = 2 := by omega
  rw [vws] at hk
  rcases hf with rfl | rfl | rfl
  · rw [fn78_0] at hk
    have : k = 0 := by
      have : k < 1 := hk
      omega
    subst this
    exact ⟨by rw [show ((0 : Nat) : Int) = 0 from rfl, good_0 h h0 h1 h2], .inl rfl⟩
  · rw [fn78_1] at hk
    have : k < 2 := hk
    have : k = 0 ∨ k = 1 := by omega
    rcases this with rfl | rfl
    · exact ⟨by rw [show ((0 : Nat) : Int) = 0 from rfl, good_1 h h0 h1 h2], .inl rfl⟩
    · exact ⟨by rw [show ((1 : Nat) : Int) = 1 from rfl, good_11 h h0 h1 h2], .inr rfl⟩
  · by_cases hsg : s = g
    · subst hsg
      rw [fn78_2a] at hk
      have : k = 0 := by
        have : k < 1 := hk
        omega
      subst this
      exact ⟨by rw [show ((0 : Nat) : Int) = 0 from rfl, good_2a h h0 h1 h2], .inl rfl⟩
    · rw [fn78_2b hsg] at hk
      have : k < 2 := hk
      have : k = 0 ∨ k = 1 := by omega
      rcases this with rfl | rfl
      · exact ⟨by rw [show ((0 : Nat) : Int) = 0 from rfl, good_2b h h0 h1 h2 hsg], .inl rfl⟩
      · exact ⟨by rw [show ((1 : Nat) : Int) = 1 from rfl, good_2c h h0 h1 h2 hsg], .inr rfl⟩
theorem apply_1 {v : Int × Int × Int × Int × Int × Int × Int} {s : Int} {o : Int × Int × Int × (Int × Int × (Int × Int × Int × Int × Int) × Int × List Int) × Int} (h : o.1 = 1) : fn61 (v, s, o) = fn38 (v, s) := by
  obtain ⟨a, b, c, d, e, f, g⟩ := v
  obtain ⟨k, w, ch, ⟨fk, fr, ⟨t, p, m, n, x⟩, ff, fd⟩, at'⟩ := o
  have h : k = 1 := h
  subst h
  rfl
theorem apply_2 {v : Int × Int × Int × Int × Int × Int × Int} {s : Int} {o : Int × Int × Int × (Int × Int × (Int × Int × Int × Int × Int) × Int × List Int) × Int} (h : o.1 = 2) : fn61 (v, s, o) = fn39 (v, s) := by
  obtain ⟨a, b, c, d, e, f, g⟩ := v
  obtain ⟨k, w, ch, ⟨fk, fr, ⟨t, p, m, n, x⟩, ff, fd⟩, at'⟩ := o
  have h : k = 2 := h
  subst h
  rfl
theorem apply_3 {v : Int × Int × Int × Int × Int × Int × Int} {s : Int} {o : Int × Int × Int × (Int × Int × (Int × Int × Int × Int × Int) × Int × List Int) × Int} (h : o.1 = 3) : fn61 (v, s, o) = fn25 (v, s, o.2.1) := by
  obtain ⟨a, b, c, d, e, f, g⟩ := v
  obtain ⟨k, w, ch, ⟨fk, fr, ⟨t, p, m, n, x⟩, ff, fd⟩, at'⟩ := o
  have h : k = 3 := h
  subst h
  rfl
/-- What comes of a view behind an outcome that was judged. -/
theorem apply_may {t p m n x s a b c d e f g : Int} {seen : List (Int × Int × (Int × List Int))} (h : (slotS ((t, p, m, n, x), (a, b, c, d, e, f, g), s, seen)).2 = 0) :
    ∃ c' d' e' f' g', fn61 ((a, b, c, d, e, f, g), s, (slotS ((t, p, m, n, x), (a, b, c, d, e, f, g), s, seen)).1) = ((a, b, c', d', e', f', g'), 0) ∧ okM a b c' d' e' f' g' ∧ bitT c' s = ((slotS ((t, p, m, n, x), (a, b, c, d, e, f, g), s, seen)).1.1 == 3) ∧ 0 ≤ s ∧ s < b := by
  obtain ⟨h1, h2, h3, h4, h5⟩ := slot_cases h
  have hok := fn34_zero.1 h1
  have h3 : s < b := h3
  have h4 : s ≠ a := h4
  rcases h5 with ⟨k, hk, h6, h7⟩ | h6 | h6
  · obtain ⟨he, hk2⟩ := good_err hok h2 h3 h4 hk
    obtain ⟨c', d', e', f', g', e1, e2, e3⟩ := good_may hok h2 h3 h4 hk2 he
    refine ⟨c', d', e', f', g', ?_, e2, by rw [e3, h6]; rfl, h2, h3⟩
    rw [apply_3 h6, h7]
    exact Prod.ext e1 he
  · obtain ⟨c', f', g', e1, e2, e3⟩ := null_bit hok h2 h3 h4
    exact ⟨c', d, e, f', g', by rw [apply_1 h6]; exact e1, e2, by rw [e3, h6]; rfl, h2, h3⟩
  · obtain ⟨c', f', g', e1, e2, e3⟩ := null_bit hok h2 h3 h4
    have hm := hok
    unfold okM at hm
    refine ⟨c', d, inc e, f', g', ?_, ok_e e2 (inc_le (by omega) (by omega)), by rw [e3, h6]; rfl, h2, h3⟩
    rw [apply_2 h6]
    exact bad_of e1 (show 0 ≤ e by omega) (show e ≤ 1048576 by omega)

/-! ### metronome/metronomelaw17.JudgeMay (function 17) -/
def t17 (A : Alg) (cTime : Int) (cPos : Int) (cMode : Int) (cNext : Int) (cMember : Int) (vId : Int) (vN : Int) (vSet : Int) (vAcc : Int) (vFail : Int) (vStage : Int) (vFirst : Int) (sender : Int) (seen : List (Int × Int × (Int × List Int))) : LT Bool Empty :=
  .need (A.call (@tt (List (Int × Int × (Int × List Int)))) seen) (
  .need (A.call (@tt ((Int × Int × Int × Int × Int) × (Int × Int × Int × Int × Int × Int × Int) × Int × List (Int × Int × (Int × List Int)))) ((cTime, cPos, cMode, cNext, cMember), (vId, vN, vSet, vAcc, vFail, vStage, vFirst), sender, (A.call fn45 seen))) (
  .eqs (IntKind.i64 = IntKind.i64 ∧ ((A.call fn43 ((cTime, cPos, cMode, cNext, cMember), (vId, vN, vSet, vAcc, vFail, vStage, vFirst), sender, (A.call fn45 seen))).2 : Int) = (A.call fn43 ((cTime, cPos, cMode, cNext, cMember), (vId, vN, vSet, vAcc, vFail, vStage, vFirst), sender, (A.call fn45 seen))).2) (
  .eqs ((.agg [.int .i64 false (A.call fn43 ((cTime, cPos, cMode, cNext, cMember), (vId, vN, vSet, vAcc, vFail, vStage, vFirst), sender, (A.call fn45 seen))).1.1, .int .i64 false (A.call fn43 ((cTime, cPos, cMode, cNext, cMember), (vId, vN, vSet, vAcc, vFail, vStage, vFirst), sender, (A.call fn45 seen))).1.2.1, .int .i64 false (A.call fn43 ((cTime, cPos, cMode, cNext, cMember), (vId, vN, vSet, vAcc, vFail, vStage, vFirst), sender, (A.call fn45 seen))).1.2.2.1, .int .i64 false (A.call fn43 ((cTime, cPos, cMode, cNext, cMember), (vId, vN, vSet, vAcc, vFail, vStage, vFirst), sender, (A.call fn45 seen))).1.2.2.2.1.1, .int .i64 false (A.call fn43 ((cTime, cPos, cMode, cNext, cMember), (vId, vN, vSet, vAcc, vFail, vStage, vFirst), sender, (A.call fn45 seen))).1.2.2.2.1.2.1, .int .i64 false (A.call fn43 ((cTime, cPos, cMode, cNext, cMember), (vId, vN, vSet, vAcc, vFail, vStage, vFirst), sender, (A.call fn45 seen))).1.2.2.2.1.2.2.1.1, .int .i64 false (A.call fn43 ((cTime, cPos, cMode, cNext, cMember), (vId, vN, vSet, vAcc, vFail, vStage, vFirst), sender, (A.call fn45 seen))).1.2.2.2.1.2.2.1.2.1, .int .i64 false (A.call fn43 ((cTime, cPos, cMode, cNext, cMember), (vId, vN, vSet, vAcc, vFail, vStage, vFirst), sender, (A.call fn45 seen))).1.2.2.2.1.2.2.1.2.2.1, .int .i64 false (A.call fn43 ((cTime, cPos, cMode, cNext, cMember), (vId, vN, vSet, vAcc, vFail, vStage, vFirst), sender, (A.call fn45 seen))).1.2.2.2.1.2.2.1.2.2.2.1, .int .i64 false (A.call fn43 ((cTime, cPos, cMode, cNext, cMember), (vId, vN, vSet, vAcc, vFail, vStage, vFirst), sender, (A.call fn45 seen))).1.2.2.2.1.2.2.1.2.2.2.2, .int .i64 false (A.call fn43 ((cTime, cPos, cMode, cNext, cMember), (vId, vN, vSet, vAcc, vFail, vStage, vFirst), sender, (A.call fn45 seen))).1.2.2.2.1.2.2.2.1, .sl (.int .u8) (A.call fn43 ((cTime, cPos, cMode, cNext, cMember), (vId, vN, vSet, vAcc, vFail, vStage, vFirst), sender, (A.call fn45 seen))).1.2.2.2.1.2.2.2.2, .int .i64 false (A.call fn43 ((cTime, cPos, cMode, cNext, cMember), (vId, vN, vSet, vAcc, vFail, vStage, vFirst), sender, (A.call fn45 seen))).1.2.2.2.2] : AV) = .agg [.int .i64 false (A.call fn43 ((cTime, cPos, cMode, cNext, cMember), (vId, vN, vSet, vAcc, vFail, vStage, vFirst), sender, (A.call fn45 seen))).1.1, .int .i64 false (A.call fn43 ((cTime, cPos, cMode, cNext, cMember), (vId, vN, vSet, vAcc, vFail, vStage, vFirst), sender, (A.call fn45 seen))).1.2.1, .int .i64 false (A.call fn43 ((cTime, cPos, cMode, cNext, cMember), (vId, vN, vSet, vAcc, vFail, vStage, vFirst), sender, (A.call fn45 seen))).1.2.2.1, .int .i64 false (A.call fn43 ((cTime, cPos, cMode, cNext, cMember), (vId, vN, vSet, vAcc, vFail, vStage, vFirst), sender, (A.call fn45 seen))).1.2.2.2.1.1, .int .i64 false (A.call fn43 ((cTime, cPos, cMode, cNext, cMember), (vId, vN, vSet, vAcc, vFail, vStage, vFirst), sender, (A.call fn45 seen))).1.2.2.2.1.2.1, .int .i64 false (A.call fn43 ((cTime, cPos, cMode, cNext, cMember), (vId, vN, vSet, vAcc, vFail, vStage, vFirst), sender, (A.call fn45 seen))).1.2.2.2.1.2.2.1.1, .int .i64 false (A.call fn43 ((cTime, cPos, cMode, cNext, cMember), (vId, vN, vSet, vAcc, vFail, vStage, vFirst), sender, (A.call fn45 seen))).1.2.2.2.1.2.2.1.2.1, .int .i64 false (A.call fn43 ((cTime, cPos, cMode, cNext, cMember), (vId, vN, vSet, vAcc, vFail, vStage, vFirst), sender, (A.call fn45 seen))).1.2.2.2.1.2.2.1.2.2.1, .int .i64 false (A.call fn43 ((cTime, cPos, cMode, cNext, cMember), (vId, vN, vSet, vAcc, vFail, vStage, vFirst), sender, (A.call fn45 seen))).1.2.2.2.1.2.2.1.2.2.2.1, .int .i64 false (A.call fn43 ((cTime, cPos, cMode, cNext, cMember), (vId, vN, vSet, vAcc, vFail, vStage, vFirst), sender, (A.call fn45 seen))).1.2.2.2.1.2.2.1.2.2.2.2, .int .i64 false (A.call fn43 ((cTime, cPos, cMode, cNext, cMember), (vId, vN, vSet, vAcc, vFail, vStage, vFirst), sender, (A.call fn45 seen))).1.2.2.2.1.2.2.2.1, .sl (.int .u8) (A.call fn43 ((cTime, cPos, cMode, cNext, cMember), (vId, vN, vSet, vAcc, vFail, vStage, vFirst), sender, (A.call fn45 seen))).1.2.2.2.1.2.2.2.2, .int .i64 false (A.call fn43 ((cTime, cPos, cMode, cNext, cMember), (vId, vN, vSet, vAcc, vFail, vStage, vFirst), sender, (A.call fn45 seen))).1.2.2.2.2]) (
  .eqs ((.tup [.agg [.int .i64 false (A.call fn43 ((cTime, cPos, cMode, cNext, cMember), (vId, vN, vSet, vAcc, vFail, vStage, vFirst), sender, (A.call fn45 seen))).1.1, .int .i64 false (A.call fn43 ((cTime, cPos, cMode, cNext, cMember), (vId, vN, vSet, vAcc, vFail, vStage, vFirst), sender, (A.call fn45 seen))).1.2.1, .int .i64 false (A.call fn43 ((cTime, cPos, cMode, cNext, cMember), (vId, vN, vSet, vAcc, vFail, vStage, vFirst), sender, (A.call fn45 seen))).1.2.2.1, .int .i64 false (A.call fn43 ((cTime, cPos, cMode, cNext, cMember), (vId, vN, vSet, vAcc, vFail, vStage, vFirst), sender, (A.call fn45 seen))).1.2.2.2.1.1, .int .i64 false (A.call fn43 ((cTime, cPos, cMode, cNext, cMember), (vId, vN, vSet, vAcc, vFail, vStage, vFirst), sender, (A.call fn45 seen))).1.2.2.2.1.2.1, .int .i64 false (A.call fn43 ((cTime, cPos, cMode, cNext, cMember), (vId, vN, vSet, vAcc, vFail, vStage, vFirst), sender, (A.call fn45 seen))).1.2.2.2.1.2.2.1.1, .int .i64 false (A.call fn43 ((cTime, cPos, cMode, cNext, cMember), (vId, vN, vSet, vAcc, vFail, vStage, vFirst), sender, (A.call fn45 seen))).1.2.2.2.1.2.2.1.2.1, .int .i64 false (A.call fn43 ((cTime, cPos, cMode, cNext, cMember), (vId, vN, vSet, vAcc, vFail, vStage, vFirst), sender, (A.call fn45 seen))).1.2.2.2.1.2.2.1.2.2.1, .int .i64 false (A.call fn43 ((cTime, cPos, cMode, cNext, cMember), (vId, vN, vSet, vAcc, vFail, vStage, vFirst), sender, (A.call fn45 seen))).1.2.2.2.1.2.2.1.2.2.2.1, .int .i64 false (A.call fn43 ((cTime, cPos, cMode, cNext, cMember), (vId, vN, vSet, vAcc, vFail, vStage, vFirst), sender, (A.call fn45 seen))).1.2.2.2.1.2.2.1.2.2.2.2, .int .i64 false (A.call fn43 ((cTime, cPos, cMode, cNext, cMember), (vId, vN, vSet, vAcc, vFail, vStage, vFirst), sender, (A.call fn45 seen))).1.2.2.2.1.2.2.2.1, .sl (.int .u8) (A.call fn43 ((cTime, cPos, cMode, cNext, cMember), (vId, vN, vSet, vAcc, vFail, vStage, vFirst), sender, (A.call fn45 seen))).1.2.2.2.1.2.2.2.2, .int .i64 false (A.call fn43 ((cTime, cPos, cMode, cNext, cMember), (vId, vN, vSet, vAcc, vFail, vStage, vFirst), sender, (A.call fn45 seen))).1.2.2.2.2], .int .i64 false (A.call fn43 ((cTime, cPos, cMode, cNext, cMember), (vId, vN, vSet, vAcc, vFail, vStage, vFirst), sender, (A.call fn45 seen))).2] : AV) = .tup [.agg [.int .i64 false (A.call fn43 ((cTime, cPos, cMode, cNext, cMember), (vId, vN, vSet, vAcc, vFail, vStage, vFirst), sender, (A.call fn45 seen))).1.1, .int .i64 false (A.call fn43 ((cTime, cPos, cMode, cNext, cMember), (vId, vN, vSet, vAcc, vFail, vStage, vFirst), sender, (A.call fn45 seen))).1.2.1, .int .i64 false (A.call fn43 ((cTime, cPos, cMode, cNext, cMember), (vId, vN, vSet, vAcc, vFail, vStage, vFirst), sender, (A.call fn45 seen))).1.2.2.1, .int .i64 false (A.call fn43 ((cTime, cPos, cMode, cNext, cMember), (vId, vN, vSet, vAcc, vFail, vStage, vFirst), sender, (A.call fn45 seen))).1.2.2.2.1.1, .int .i64 false (A.call fn43 ((cTime, cPos, cMode, cNext, cMember), (vId, vN, vSet, vAcc, vFail, vStage, vFirst), sender, (A.call fn45 seen))).1.2.2.2.1.2.1, .int .i64 false (A.call fn43 ((cTime, cPos, cMode, cNext, cMember), (vId, vN, vSet, vAcc, vFail, vStage, vFirst), sender, (A.call fn45 seen))).1.2.2.2.1.2.2.1.1, .int .i64 false (A.call fn43 ((cTime, cPos, cMode, cNext, cMember), (vId, vN, vSet, vAcc, vFail, vStage, vFirst), sender, (A.call fn45 seen))).1.2.2.2.1.2.2.1.2.1, .int .i64 false (A.call fn43 ((cTime, cPos, cMode, cNext, cMember), (vId, vN, vSet, vAcc, vFail, vStage, vFirst), sender, (A.call fn45 seen))).1.2.2.2.1.2.2.1.2.2.1, .int .i64 false (A.call fn43 ((cTime, cPos, cMode, cNext, cMember), (vId, vN, vSet, vAcc, vFail, vStage, vFirst), sender, (A.call fn45 seen))).1.2.2.2.1.2.2.1.2.2.2.1, .int .i64 false (A.call fn43 ((cTime, cPos, cMode, cNext, cMember), (vId, vN, vSet, vAcc, vFail, vStage, vFirst), sender, (A.call fn45 seen))).1.2.2.2.1.2.2.1.2.2.2.2, .int .i64 false (A.call fn43 ((cTime, cPos, cMode, cNext, cMember), (vId, vN, vSet, vAcc, vFail, vStage, vFirst), sender, (A.call fn45 seen))).1.2.2.2.1.2.2.2.1, .sl (.int .u8) (A.call fn43 ((cTime, cPos, cMode, cNext, cMember), (vId, vN, vSet, vAcc, vFail, vStage, vFirst), sender, (A.call fn45 seen))).1.2.2.2.1.2.2.2.2, .int .i64 false (A.call fn43 ((cTime, cPos, cMode, cNext, cMember), (vId, vN, vSet, vAcc, vFail, vStage, vFirst), sender, (A.call fn45 seen))).1.2.2.2.2], .int .i64 false (A.call fn43 ((cTime, cPos, cMode, cNext, cMember), (vId, vN, vSet, vAcc, vFail, vStage, vFirst), sender, (A.call fn45 seen))).2]) (
  .need (A.call (@tt ((Int × Int × Int × Int × Int) × (Int × Int × Int × Int × Int × Int × Int) × Int × List (Int × Int × (Int × List Int)))) ((cTime, cPos, cMode, cNext, cMember), (vId, vN, vSet, vAcc, vFail, vStage, vFirst), sender, (A.call fn45 seen))) (
  .eqs ((.tup [.agg [.int .i64 false (A.call fn43 ((cTime, cPos, cMode, cNext, cMember), (vId, vN, vSet, vAcc, vFail, vStage, vFirst), sender, (A.call fn45 seen))).1.1, .int .i64 false (A.call fn43 ((cTime, cPos, cMode, cNext, cMember), (vId, vN, vSet, vAcc, vFail, vStage, vFirst), sender, (A.call fn45 seen))).1.2.1, .int .i64 false (A.call fn43 ((cTime, cPos, cMode, cNext, cMember), (vId, vN, vSet, vAcc, vFail, vStage, vFirst), sender, (A.call fn45 seen))).1.2.2.1, .int .i64 false (A.call fn43 ((cTime, cPos, cMode, cNext, cMember), (vId, vN, vSet, vAcc, vFail, vStage, vFirst), sender, (A.call fn45 seen))).1.2.2.2.1.1, .int .i64 false (A.call fn43 ((cTime, cPos, cMode, cNext, cMember), (vId, vN, vSet, vAcc, vFail, vStage, vFirst), sender, (A.call fn45 seen))).1.2.2.2.1.2.1, .int .i64 false (A.call fn43 ((cTime, cPos, cMode, cNext, cMember), (vId, vN, vSet, vAcc, vFail, vStage, vFirst), sender, (A.call fn45 seen))).1.2.2.2.1.2.2.1.1, .int .i64 false (A.call fn43 ((cTime, cPos, cMode, cNext, cMember), (vId, vN, vSet, vAcc, vFail, vStage, vFirst), sender, (A.call fn45 seen))).1.2.2.2.1.2.2.1.2.1, .int .i64 false (A.call fn43 ((cTime, cPos, cMode, cNext, cMember), (vId, vN, vSet, vAcc, vFail, vStage, vFirst), sender, (A.call fn45 seen))).1.2.2.2.1.2.2.1.2.2.1, .int .i64 false (A.call fn43 ((cTime, cPos, cMode, cNext, cMember), (vId, vN, vSet, vAcc, vFail, vStage, vFirst), sender, (A.call fn45 seen))).1.2.2.2.1.2.2.1.2.2.2.1, .int .i64 false (A.call fn43 ((cTime, cPos, cMode, cNext, cMember), (vId, vN, vSet, vAcc, vFail, vStage, vFirst), sender, (A.call fn45 seen))).1.2.2.2.1.2.2.1.2.2.2.2, .int .i64 false (A.call fn43 ((cTime, cPos, cMode, cNext, cMember), (vId, vN, vSet, vAcc, vFail, vStage, vFirst), sender, (A.call fn45 seen))).1.2.2.2.1.2.2.2.1, .sl (.int .u8) (A.call fn43 ((cTime, cPos, cMode, cNext, cMember), (vId, vN, vSet, vAcc, vFail, vStage, vFirst), sender, (A.call fn45 seen))).1.2.2.2.1.2.2.2.2, .int .i64 false (A.call fn43 ((cTime, cPos, cMode, cNext, cMember), (vId, vN, vSet, vAcc, vFail, vStage, vFirst), sender, (A.call fn45 seen))).1.2.2.2.2], .int .i64 false (A.call fn43 ((cTime, cPos, cMode, cNext, cMember), (vId, vN, vSet, vAcc, vFail, vStage, vFirst), sender, (A.call fn45 seen))).2] : AV) = .tup [.agg [.int .i64 false (A.call fn43 ((cTime, cPos, cMode, cNext, cMember), (vId, vN, vSet, vAcc, vFail, vStage, vFirst), sender, (A.call fn45 seen))).1.1, .int .i64 false (A.call fn43 ((cTime, cPos, cMode, cNext, cMember), (vId, vN, vSet, vAcc, vFail, vStage, vFirst), sender, (A.call fn45 seen))).1.2.1, .int .i64 false (A.call fn43 ((cTime, cPos, cMode, cNext, cMember), (vId, vN, vSet, vAcc, vFail, vStage, vFirst), sender, (A.call fn45 seen))).1.2.2.1, .int .i64 false (A.call fn43 ((cTime, cPos, cMode, cNext, cMember), (vId, vN, vSet, vAcc, vFail, vStage, vFirst), sender, (A.call fn45 seen))).1.2.2.2.1.1, .int .i64 false (A.call fn43 ((cTime, cPos, cMode, cNext, cMember), (vId, vN, vSet, vAcc, vFail, vStage, vFirst), sender, (A.call fn45 seen))).1.2.2.2.1.2.1, .int .i64 false (A.call fn43 ((cTime, cPos, cMode, cNext, cMember), (vId, vN, vSet, vAcc, vFail, vStage, vFirst), sender, (A.call fn45 seen))).1.2.2.2.1.2.2.1.1, .int .i64 false (A.call fn43 ((cTime, cPos, cMode, cNext, cMember), (vId, vN, vSet, vAcc, vFail, vStage, vFirst), sender, (A.call fn45 seen))).1.2.2.2.1.2.2.1.2.1, .int .i64 false (A.call fn43 ((cTime, cPos, cMode, cNext, cMember), (vId, vN, vSet, vAcc, vFail, vStage, vFirst), sender, (A.call fn45 seen))).1.2.2.2.1.2.2.1.2.2.1, .int .i64 false (A.call fn43 ((cTime, cPos, cMode, cNext, cMember), (vId, vN, vSet, vAcc, vFail, vStage, vFirst), sender, (A.call fn45 seen))).1.2.2.2.1.2.2.1.2.2.2.1, .int .i64 false (A.call fn43 ((cTime, cPos, cMode, cNext, cMember), (vId, vN, vSet, vAcc, vFail, vStage, vFirst), sender, (A.call fn45 seen))).1.2.2.2.1.2.2.1.2.2.2.2, .int .i64 false (A.call fn43 ((cTime, cPos, cMode, cNext, cMember), (vId, vN, vSet, vAcc, vFail, vStage, vFirst), sender, (A.call fn45 seen))).1.2.2.2.1.2.2.2.1, .sl (.int .u8) (A.call fn43 ((cTime, cPos, cMode, cNext, cMember), (vId, vN, vSet, vAcc, vFail, vStage, vFirst), sender, (A.call fn45 seen))).1.2.2.2.1.2.2.2.2, .int .i64 false (A.call fn43 ((cTime, cPos, cMode, cNext, cMember), (vId, vN, vSet, vAcc, vFail, vStage, vFirst), sender, (A.call fn45 seen))).1.2.2.2.2], .int .i64 false (A.call fn43 ((cTime, cPos, cMode, cNext, cMember), (vId, vN, vSet, vAcc, vFail, vStage, vFirst), sender, (A.call fn45 seen))).2]) (
  .need (A.call (@tt (List (Int × Int × (Int × List Int)))) seen) (
  .eqs ((.sl (.struct [(.int .i64), (.int .i64), (.struct [(.int .i64), (.slice (.int .u8))])]) (A.call fn45 seen) : AV) = .sl (.struct [(.int .i64), (.int .i64), (.struct [(.int .i64), (.slice (.int .u8))])]) (A.call fn45 seen)) (
  .eqs ((.sl (.struct [(.int .i64), (.int .i64), (.struct [(.int .i64), (.slice (.int .u8))])]) seen : AV) = .sl (.struct [(.int .i64), (.int .i64), (.struct [(.int .i64), (.slice (.int .u8))])]) seen) (
  .eqs (IntKind.i64 = IntKind.i64 ∧ (sender : Int) = sender) (
  .eqs ((.agg [.int .i64 false vId, .int .i64 false vN, .int .i64 false vSet, .int .i64 false vAcc, .int .i64 false vFail, .int .i64 false vStage, .int .i64 false vFirst] : AV) = .agg [.int .i64 false vId, .int .i64 false vN, .int .i64 false vSet, .int .i64 false vAcc, .int .i64 false vFail, .int .i64 false vStage, .int .i64 false vFirst]) (
  .eqs ((.agg [.int .i64 false cTime, .int .i64 false cPos, .int .i64 false cMode, .int .i64 false cNext, .int .i64 false cMember] : AV) = .agg [.int .i64 false cTime, .int .i64 false cPos, .int .i64 false cMode, .int .i64 false cNext, .int .i64 false cMember]) (
  .eqs (IntKind.i64 = IntKind.i64 ∧ ((A.call fn43 ((cTime, cPos, cMode, cNext, cMember), (vId, vN, vSet, vAcc, vFail, vStage, vFirst), sender, (A.call fn45 seen))).2 : Int) = (A.call fn43 ((cTime, cPos, cMode, cNext, cMember), (vId, vN, vSet, vAcc, vFail, vStage, vFirst), sender, (A.call fn45 seen))).2) (
  .need (A.call (@tt Unit) ()) (
  .br (A.not (A.call fn41 ()))
  (.need (A.call (@tt Unit) ()) (
  .ret (A.call fn41 ())))
  (.br (A.cmp .neq (A.call fn43 ((cTime, cPos, cMode, cNext, cMember), (vId, vN, vSet, vAcc, vFail, vStage, vFirst), sender, (A.call fn45 seen))).2 0)
  (.need (A.call (@tt Unit) ()) (
  .ret (A.call fn41 ())))
  (.need (A.call (@tt ((Int × Int × Int × Int × Int × Int × Int) × Int × (Int × Int × Int × (Int × Int × (Int × Int × Int × Int × Int) × Int × List Int) × Int))) ((vId, vN, vSet, vAcc, vFail, vStage, vFirst), sender, (A.call fn43 ((cTime, cPos, cMode, cNext, cMember), (vId, vN, vSet, vAcc, vFail, vStage, vFirst), sender, (A.call fn45 seen))).1)) (
  .need (A.cmp .leq 0 (A.conv .u64 sender)) (
  .br (A.cmp .eql (A.call fn61 ((vId, vN, vSet, vAcc, vFail, vStage, vFirst), sender, (A.call fn43 ((cTime, cPos, cMode, cNext, cMember), (vId, vN, vSet, vAcc, vFail, vStage, vFirst), sender, (A.call fn45 seen))).1)).2 0)
  (.need (A.call (@tt ((Int × Int × Int × Int × Int × Int × Int))) (A.call fn61 ((vId, vN, vSet, vAcc, vFail, vStage, vFirst), sender, (A.call fn43 ((cTime, cPos, cMode, cNext, cMember), (vId, vN, vSet, vAcc, vFail, vStage, vFirst), sender, (A.call fn45 seen))).1)).1) (
  .br (A.cmp .eql (A.call fn35 (A.call fn61 ((vId, vN, vSet, vAcc, vFail, vStage, vFirst), sender, (A.call fn43 ((cTime, cPos, cMode, cNext, cMember), (vId, vN, vSet, vAcc, vFail, vStage, vFirst), sender, (A.call fn45 seen))).1)).1) 0)
  (.ret (A.beq (A.cmp .neq (A.bin .and .i64 (A.call fn61 ((vId, vN, vSet, vAcc, vFail, vStage, vFirst), sender, (A.call fn43 ((cTime, cPos, cMode, cNext, cMember), (vId, vN, vSet, vAcc, vFail, vStage, vFirst), sender, (A.call fn45 seen))).1)).1.2.2.1 (A.bin .shl .i64 1 (A.conv .u64 sender))) 0) (A.cmp .eql (A.call fn43 ((cTime, cPos, cMode, cNext, cMember), (vId, vN, vSet, vAcc, vFail, vStage, vFirst), sender, (A.call fn45 seen))).1.1 3)))
  (.ret false)))
  (.ret false))))))))))))))))))))
noncomputable def E17 (A : Alg) : Info (Ty.Ts [.bool]) := { ti := tys, fns := [(17, Try.f17)], sps := [(35, sp35), (41, sp41), (43, sp43), (45, sp45), (61, sp61)], stops := [], cuts := [], consts := [], fin := finD A [.bool] }
theorem t17_ok (A : Alg) (cTime : Int) (cPos : Int) (cMode : Int) (cNext : Int) (cMember : Int) (vId : Int) (vN : Int) (vSet : Int) (vAcc : Int) (vFail : Int) (vStage : Int) (vFirst : Int) (sender : Int) (seen : List (Int × Int × (Int × List Int))) : run A (E17 A) 81 (startC 17 Try.f17 (dvals A [(.struct [(.int .i64), (.int .i64), (.int .i64), (.int .i64), (.int .i64)]), (.struct [(.int .i64), (.int .i64), (.int .i64), (.int .i64), (.int .i64), (.int .i64), (.int .i64)]), (.int .i64), (.slice (.struct [(.int .i64), (.int .i64), (.struct [(.int .i64), (.slice (.int .u8))])]))] ((cTime, cPos, cMode, cNext, cMember), (vId, vN, vSet, vAcc, vFail, vStage, vFirst), sender, seen))) = (t17 A cTime cPos cMode cNext cMember vId vN vSet vAcc vFail vStage vFirst sender seen).tr Empty.elim := by kernel_rfl
def w17 : Walk Try.prog 17 [(.struct [(.int .i64), (.int .i64), (.int .i64), (.int .i64), (.int .i64)]), (.struct [(.int .i64), (.int .i64), (.int .i64), (.int .i64), (.int .i64), (.int .i64), (.int .i64)]), (.int .i64), (.slice (.struct [(.int .i64), (.int .i64), (.struct [(.int .i64), (.slice (.int .u8))])]))] [.bool] Empty := ⟨fun ((cTime, cPos, cMode, cNext, cMember), (vId, vN, vSet, vAcc, vFail, vStage, vFirst), sender, seen) => t17 std cTime cPos cMode cNext cMember vId vN vSet vAcc vFail vStage vFirst sender seen, Empty.elim⟩
theorem w17_ok : w17.Ok :=
  walk_ok (E := E17 std) ⟨tys_fit, fns_cons Try.func17 (by kernel_rfl) (fns_nil), sps_cons so35 (sps_cons so41 (sps_cons so43 (sps_cons so45 (sps_cons so61 (sps_nil))))), by kernel_rfl⟩ rfl rfl rfl (by kernel_rfl) w17 Empty.elim 81 (fun ((cTime, cPos, cMode, cNext, cMember), (vId, vN, vSet, vAcc, vFail, vStage, vFirst), sender, seen) => t17_ok std cTime cPos cMode cNext cMember vId vN vSet vAcc vFail vStage vFirst sender seen) (fun y => y.elim)

def fn17 : ((Int × Int × Int × Int × Int) × (Int × Int × Int × Int × Int × Int × Int) × Int × List (Int × Int × (Int × List Int))) → Bool := fun ((cTime, cPos, cMode, cNext, cMember), (vId, vN, vSet, vAcc, vFail, vStage, vFirst), sender, seen) => (t17 std cTime cPos cMode cNext cMember vId vN vSet vAcc vFail vStage vFirst sender seen).val (Ty.dflts [.bool])
def sp17 : FSpec := ⟨[(.struct [(.int .i64), (.int .i64), (.int .i64), (.int .i64), (.int .i64)]), (.struct [(.int .i64), (.int .i64), (.int .i64), (.int .i64), (.int .i64), (.int .i64), (.int .i64)]), (.int .i64), (.slice (.struct [(.int .i64), (.int .i64), (.struct [(.int .i64), (.slice (.int .u8))])]))], [.bool], (@tt ((Int × Int × Int × Int × Int) × (Int × Int × Int × Int × Int × Int × Int) × Int × List (Int × Int × (Int × List Int)))), fn17⟩
theorem eqs17 (cTime : Int) (cPos : Int) (cMode : Int) (cNext : Int) (cMember : Int) (vId : Int) (vN : Int) (vSet : Int) (vAcc : Int) (vFail : Int) (vStage : Int) (vFirst : Int) (sender : Int) (seen : List (Int × Int × (Int × List Int))) : (t17 std cTime cPos cMode cNext cMember vId vN vSet vAcc vFail vStage vFirst sender seen).Eqs := by simp only [t17, LT.Eqs, and_self, true_and, and_true]
theorem pre17_ok {cTime : Int} {cPos : Int} {cMode : Int} {cNext : Int} {cMember : Int} {vId : Int} {vN : Int} {vSet : Int} {vAcc : Int} {vFail : Int} {vStage : Int} {vFirst : Int} {sender : Int} {seen : List (Int × Int × (Int × List Int))} (h : Ty.hass [(.struct [(.int .i64), (.int .i64), (.int .i64), (.int .i64), (.int .i64)]), (.struct [(.int .i64), (.int .i64), (.int .i64), (.int .i64), (.int .i64), (.int .i64), (.int .i64)]), (.int .i64), (.slice (.struct [(.int .i64), (.int .i64), (.struct [(.int .i64), (.slice (.int .u8))])]))] ((cTime, cPos, cMode, cNext, cMember), (vId, vN, vSet, vAcc, vFail, vStage, vFirst), sender, seen)) : (t17 std cTime cPos cMode cNext cMember vId vN vSet vAcc vFail vStage vFirst sender seen).pre = true := by
  have hw : std.cmp .leq 0 (std.conv .u64 sender) = true := by
    rw [std_cmp_leq, std_conv]
    have := has_wrap .u64 sender
    have h0 : (0 : Int) ≤ IntKind.u64.wrap sender := this.1
    simpa using h0
  simp [t17, LT.pre, std_call, tt_eq, hw]
theorem so17 : FSpec.Sound Try.prog 17 sp17 :=
  w17_ok.sound _ _ fun ((cTime, cPos, cMode, cNext, cMember), (vId, vN, vSet, vAcc, vFail, vStage, vFirst), sender, seen) _ h => LT.runs (d := Ty.dflts [.bool]) (eqs17 cTime cPos cMode cNext cMember vId vN vSet vAcc vFail vStage vFirst sender seen) (pre17_ok h)
theorem law17 (x : (Int × Int × Int × Int × Int) × (Int × Int × Int × Int × Int × Int × Int) × Int × List (Int × Int × (Int × List Int))) (_ : Ty.hass [(.struct [(.int .i64), (.int .i64), (.int .i64), (.int .i64), (.int .i64)]), (.struct [(.int .i64), (.int .i64), (.int .i64), (.int .i64), (.int .i64), (.int .i64), (.int .i64)]), (.int .i64), (.slice (.struct [(.int .i64), (.int .i64), (.struct [(.int .i64), (.slice (.int .u8))])]))] x) : fn17 x = true := by
  obtain ⟨⟨t, p, m, n, y⟩, ⟨a, b, c, d, e, f, g⟩, s, seen⟩ := x
  simp only [fn17, t17, LT.val, std_call, begun17, std_not, Bool.not_true, cond_false, std_cmp_neq, std_cmp_eql, std_beq, fn43]
  by_cases h : (slotS ((t, p, m, n, y), (a, b, c, d, e, f, g), s, fn45 seen)).2 = 0
  · obtain ⟨c', d', e', f', g', e1, e2, e3, h2, h3⟩ := apply_may h
    have hm := e2
    have hc := okM_c e2
    unfold okM at hm
    have hs : std.conv .u64 s = s := by rw [std_conv, wu64 (by omega) (by omega)]
    have hb := bit_shl (c := c') (s := s) (by omega) hc h2 (by omega)
    have hb2 : (std.bin .and .i64 c' (std.bin .shl .i64 1 s) != 0) = bitT c' s := by
      rw [bne, hb, Bool.not_not]
    rw [h, bne_self_eq_false, cond_false, e1, hs]
    simp only [fn35_zero.2 e2, beq_self_eq_true, cond_true, hb2, e3]
  · rw [bne_iff_ne.2 h]; rfl

end Go.Ev.M
