/-
  PROVED: what functions of the packages member and metronomeref09 compute. Conditions: none.
-/
import Derived.Test.YtafbddhnoacldaaTy
import Derived.Test.YtafbddhnoacldaaEvC
import Derived.Test.YtafbddhnoacldaaPl
namespace Go.Ev.M
open Go.Proofs
set_option maxRecDepth 100000
set_option linter.unusedVariables false
set_option linter.unusedSimpArgs false

/-! ## Sets of nodes, as numbers -/
theorem shl1 {n : Int} (h0 : 0 ≤ n) (h1 : n ≤ 8) : std.bin .shl .i64 1 n = ((2 ^ n.toNat : Nat) : Int) := by
  have : n = 0 ∨ n = 1 ∨ n = 2 ∨ n = 3 ∨ n = 4 ∨ n = 5 ∨ n = 6 ∨ n = 7 ∨ n = 8 := by omega
  rcases this with rfl | rfl | rfl | rfl | rfl | rfl | rfl | rfl | rfl <;> decide
theorem pow_le {n : Nat} (h : n ≤ 8) : 2 ^ n ≤ 256 := Nat.pow_le_pow_right (by decide) h
def bitT (c a : Int) : Bool := c.toNat.testBit a.toNat
/-- A node more in a set; a node less. -/
def insB (c s : Int) : Int := std.bin .or .i64 c (std.bin .shl .i64 1 s)
def delB (c s : Int) : Int := std.bin .andNot .i64 c (std.bin .shl .i64 1 s)
theorem ins_all : ∀ c : Fin 256, ∀ a : Fin 8, std.bin .or .i64 (c.val : Int) (std.bin .shl .i64 1 (a.val : Int)) = ((c.val ||| 2 ^ a.val : Nat) : Int) := by decide +kernel
theorem del_all : ∀ c : Fin 256, ∀ a : Fin 8, std.bin .andNot .i64 (c.val : Int) (std.bin .shl .i64 1 (a.val : Int)) = ((c.val &&& (255 ^^^ 2 ^ a.val) : Nat) : Int) := by decide +kernel
theorem ins_eq {c s : Int} (h0 : 0 ≤ c) (h1 : c < 256) (h2 : 0 ≤ s) (h3 : s < 8) : insB c s = ((c.toNat ||| 2 ^ s.toNat : Nat) : Int) := by
  obtain ⟨c, rfl⟩ := Int.eq_ofNat_of_zero_le h0
  obtain ⟨s, rfl⟩ := Int.eq_ofNat_of_zero_le h2
  exact ins_all ⟨c, by omega⟩ ⟨s, by omega⟩
theorem del_eq {c s : Int} (h0 : 0 ≤ c) (h1 : c < 256) (h2 : 0 ≤ s) (h3 : s < 8) : delB c s = ((c.toNat &&& (255 ^^^ 2 ^ s.toNat) : Nat) : Int) := by
  obtain ⟨c, rfl⟩ := Int.eq_ofNat_of_zero_le h0
  obtain ⟨s, rfl⟩ := Int.eq_ofNat_of_zero_le h2
  exact del_all ⟨c, by omega⟩ ⟨s, by omega⟩
theorem ins_lt {c s n : Int} (h0 : 0 ≤ c) (hn : n ≤ 8) (h1 : c < ((2 ^ n.toNat : Nat) : Int)) (h2 : 0 ≤ s) (h3 : s < n) : 0 ≤ insB c s ∧ insB c s < ((2 ^ n.toNat : Nat) : Int) := by
  have hp := pow_le (n := n.toNat) (by omega)
  rw [ins_eq h0 (by omega) h2 (by omega)]
  have h4 : 2 ^ s.toNat < 2 ^ n.toNat := Nat.pow_lt_pow_right (by decide) (by omega)
  have := Nat.or_lt_two_pow (x := c.toNat) (y := 2 ^ s.toNat) (n := n.toNat) (by omega) h4
  omega
theorem del_lt {c s n : Int} (h0 : 0 ≤ c) (hn : n ≤ 8) (h1 : c < ((2 ^ n.toNat : Nat) : Int)) (h2 : 0 ≤ s) (h3 : s < 8) : 0 ≤ delB c s ∧ delB c s < ((2 ^ n.toNat : Nat) : Int) := by
  have hp : 2 ^ n.toNat ≤ 2 ^ 8 := Nat.pow_le_pow_right (by decide) (by omega)
  rw [del_eq h0 (by omega) h2 (by omega)]
  have : c.toNat &&& (255 ^^^ 2 ^ s.toNat) ≤ c.toNat := Nat.and_le_left
  omega
theorem bit_ins {c s i : Int} (h0 : 0 ≤ c) (h1 : c < 256) (h2 : 0 ≤ s) (h3 : s < 8) (h4 : 0 ≤ i) : bitT (insB c s) i = (bitT c i || s == i) := by
  rw [ins_eq h0 h1 h2 h3, bitT, bitT, Int.toNat_natCast, Nat.testBit_or, Nat.testBit_two_pow]
  congr 1
  rw [Bool.eq_iff_iff]; simp; omega
theorem bit_del {c s i : Int} (h0 : 0 ≤ c) (h1 : c < 256) (h2 : 0 ≤ s) (h3 : s < 8) (h4 : 0 ≤ i) : bitT (delB c s) i = (bitT c i && s != i) := by
  rw [del_eq h0 h1 h2 h3, bitT, bitT, Int.toNat_natCast, Nat.testBit_and, Nat.testBit_xor, Nat.testBit_two_pow]
  by_cases hi : i < 8
  · have e : Nat.testBit 255 i.toNat = true := by
      have : i.toNat = 0 ∨ i.toNat = 1 ∨ i.toNat = 2 ∨ i.toNat = 3 ∨ i.toNat = 4 ∨ i.toNat = 5 ∨ i.toNat = 6 ∨ i.toNat = 7 := by omega
      rcases this with h | h | h | h | h | h | h | h <;> rw [h] <;> decide
    rw [e]
    congr 1
    rw [Bool.eq_iff_iff]; simp; omega
  · have : c.toNat.testBit i.toNat = false := Nat.testBit_lt_two_pow (Nat.lt_of_lt_of_le (by omega : c.toNat < 2 ^ 8) (Nat.pow_le_pow_right (by decide) (by omega)))
    rw [this]; rfl
theorem bit_ext {c d : Int} (h0 : 0 ≤ c) (h1 : c < 256) (h2 : 0 ≤ d) (h3 : d < 256) (h : ∀ i : Int, 0 ≤ i → i < 8 → bitT c i = bitT d i) : c = d := by
  have : c.toNat = d.toNat := Nat.eq_of_testBit_eq fun i => by
    by_cases hi : i < 8
    · exact h i (by omega) (by omega)
    · rw [Nat.testBit_lt_two_pow (Nat.lt_of_lt_of_le (by omega : c.toNat < 2 ^ 8) (Nat.pow_le_pow_right (by decide) (by omega))), Nat.testBit_lt_two_pow (Nat.lt_of_lt_of_le (by omega : d.toNat < 2 ^ 8) (Nat.pow_le_pow_right (by decide) (by omega)))]
  omega
theorem bit_high {c i n : Int} (h1 : c < ((2 ^ n.toNat : Nat) : Int)) (h0 : 0 ≤ c) (h2 : 0 ≤ n) (hi : n ≤ i) : bitT c i = false := by
  exact Nat.testBit_lt_two_pow (Nat.lt_of_lt_of_le (by omega : c.toNat < 2 ^ n.toNat) (Nat.pow_le_pow_right (by decide) (by omega)))
theorem bit_full {i n : Int} (hn : 0 ≤ n) (h0 : 0 ≤ i) : bitT (((2 ^ n.toNat : Nat) : Int) - 1) i = decide (i < n) := by
  have e : (((2 ^ n.toNat : Nat) : Int) - 1).toNat = 2 ^ n.toNat - 1 := by omega
  rw [bitT, e, Nat.testBit_two_pow_sub_one]
  rw [Bool.eq_iff_iff]; simp; omega
theorem and_mask {x m : Int} (h0 : 0 ≤ m) (h1 : m ≤ 4611686018427387904) : 0 ≤ std.bin .and .i64 x m ∧ std.bin .and .i64 x m ≤ m := by
  have hm : (BitVec.ofInt 64 m).toNat = m.toNat := by
    rw [BitVec.toNat_ofInt]
    have : m % ((2 ^ 64 : Nat) : Int) = m := Int.emod_eq_of_lt h0 (by omega)
    rw [this]
  have h : (BitVec.ofInt 64 x &&& BitVec.ofInt 64 m).toNat ≤ m.toNat := by
    rw [BitVec.toNat_and, hm]; exact Nat.and_le_right
  have e : std.bin .and .i64 x m = IntKind.i64.wrap ((BitVec.ofInt 64 x &&& BitVec.ofInt 64 m).toNat : Int) := rfl
  rw [e, w64 (by omega) (by omega)]
  omega

theorem bit_all1 : ∀ c : Fin 256, ∀ a : Fin 8, (std.bin .and .i64 (std.bin .shr .i64 (c.val : Int) (a.val : Int)) 1 == 0) = !(c.val.testBit a.val) := by decide +kernel
theorem bit_all2 : ∀ c : Fin 256, ∀ a : Fin 8, (std.bin .and .i64 (c.val : Int) (std.bin .shl .i64 1 (a.val : Int)) == 0) = !(c.val.testBit a.val) := by decide +kernel
theorem bit_p {c a : Int} (h0 : 0 ≤ c) (h1 : c < 256) (h2 : 0 ≤ a) (h3 : a < 8) : std.bin .and .i64 (std.bin .shr .i64 c a) 1 = 0 ↔ bitT c a = false := by
  obtain ⟨c, rfl⟩ := Int.eq_ofNat_of_zero_le h0
  obtain ⟨a, rfl⟩ := Int.eq_ofNat_of_zero_le h2
  have := bit_all1 ⟨c, by omega⟩ ⟨a, by omega⟩
  simp only at this
  rw [← beq_iff_eq, this]
  simp [bitT]
theorem bit_r {c a : Int} (h0 : 0 ≤ c) (h1 : c < 256) (h2 : 0 ≤ a) (h3 : a < 8) : std.bin .and .i64 c (std.bin .shl .i64 1 a) = 0 ↔ bitT c a = false := by
  obtain ⟨c, rfl⟩ := Int.eq_ofNat_of_zero_le h0
  obtain ⟨a, rfl⟩ := Int.eq_ofNat_of_zero_le h2
  have := bit_all2 ⟨c, by omega⟩ ⟨a, by omega⟩
  simp only at this
  rw [← beq_iff_eq, this]
  simp [bitT]
theorem bit_all3 : ∀ c : Fin 256, ∀ a : Fin 8, (std.bin .and .i64 (std.bin .shr .i64 (c.val : Int) (a.val : Int)) 1 == 1) = c.val.testBit a.val := by decide +kernel
theorem bit_one {c a : Int} (h0 : 0 ≤ c) (h1 : c < 256) (h2 : 0 ≤ a) (h3 : a < 8) : (std.bin .and .i64 (std.bin .shr .i64 c a) 1 == 1) = bitT c a := by
  obtain ⟨c, rfl⟩ := Int.eq_ofNat_of_zero_le h0
  obtain ⟨a, rfl⟩ := Int.eq_ofNat_of_zero_le h2
  exact bit_all3 ⟨c, by omega⟩ ⟨a, by omega⟩
/-- A view that may be. -/
def okM (a b c d e f g : Int) : Prop := 4 ≤ b ∧ b ≤ 8 ∧ 0 ≤ a ∧ a < b ∧ 0 ≤ g ∧ g < b ∧ 0 ≤ c ∧ c < ((2 ^ b.toNat : Nat) : Int) ∧ 0 ≤ d ∧ d ≤ 1048576 ∧ 0 ≤ e ∧ e ≤ 1048576 ∧ 0 ≤ f ∧ f ≤ 2 ∧ (f ≠ 0 → bitT c a = true) ∧ (f = 2 → g ≠ a)
theorem okM_c {a b c d e f g : Int} (h : okM a b c d e f g) : c < 256 := by
  obtain ⟨h1, h2, _, _, _, _, _, h3, _⟩ := h
  have := pow_le (n := b.toNat) (by omega)
  omega

/-! ### metronome/member.within (function 81) -/
def t81 (A : Alg) (n : Int) (most : Int) : LT Bool Empty :=
  .br (A.cmp .geq n 0)
  (.ret (A.cmp .leq n most))
  (.ret false)
noncomputable def E81 (A : Alg) : Info (Ty.Ts [.bool]) := { ti := tys, fns := [(81, Try.f81)], sps := [], stops := [], cuts := [], consts := [], fin := finD A [.bool] }
theorem t81_ok (A : Alg) (n : Int) (most : Int) : run A (E81 A) 21 (startC 81 Try.f81 (dvals A [(.int .i64), (.int .i64)] (n, most))) = (t81 A n most).tr Empty.elim := by kernel_rfl
def w81 : Walk Try.prog 81 [(.int .i64), (.int .i64)] [.bool] Empty := ⟨fun (n, most) => t81 std n most, Empty.elim⟩
theorem w81_ok : w81.Ok :=
  walk_ok (E := E81 std) ⟨tys_fit, fns_cons Try.func81 (by kernel_rfl) (fns_nil), sps_nil, by kernel_rfl⟩ rfl rfl rfl (by kernel_rfl) w81 Empty.elim 21 (fun (n, most) => t81_ok std n most) (fun y => y.elim)

def fn81 : (Int × Int) → Bool := fun (n, most) => (t81 std n most).val (Ty.dflts [.bool])
def sp81 : FSpec := ⟨[(.int .i64), (.int .i64)], [.bool], (@tt (Int × Int)), fn81⟩
theorem eqs81 (n : Int) (most : Int) : (t81 std n most).Eqs := by simp only [t81, LT.Eqs, and_self, true_and, and_true]
theorem pre81_ok {n : Int} {most : Int} (h : Ty.hass [(.int .i64), (.int .i64)] (n, most)) : (t81 std n most).pre = true := by
  simp only [t81, LT.pre, cond_iff, std_cmp_eql, std_cmp_neq, std_cmp_lss, std_cmp_leq, std_cmp_gtr, std_cmp_geq, std_and, std_not, std_beq, std_call, std_add, std_sub, std_conv, std_len, tt_eq, Bool.and_eq_true, Bool.or_eq_true, Bool.and_eq_false_iff, Bool.or_eq_false_iff, Bool.not_eq_true', Bool.not_eq_false', decide_eq_true_eq, decide_eq_false_iff_not, bne_iff_ne, beq_iff_eq, bne_eq_false_iff_eq, beq_eq_false_iff_ne]
  simp only [Ty.hass, Ty.has, has64, has8] at h
  (repeat' (first | intro _ | constructor)) <;> (try omega)
theorem so81 : FSpec.Sound Try.prog 81 sp81 :=
  w81_ok.sound _ _ fun (n, most) _ h => LT.runs (d := Ty.dflts [.bool]) (eqs81 n most) (pre81_ok h)
theorem fn81_eq {n m : Int} : fn81 (n, m) = (decide (0 ≤ n) && decide (n ≤ m)) := by
  simp only [fn81, t81, LT.val, std_cmp_geq, std_cmp_leq]
  cases decide (0 ≤ n) <;> rfl

/-! ### metronome/member.Check (function 34) -/
def t34 (A : Alg) (mId : Int) (mN : Int) (mSet : Int) (mAcc : Int) (mFail : Int) (mStage : Int) (mFirst : Int) : LT Int Empty :=
  .br (A.cmp .lss mN 4)
  (.ret 90)
  (.br (A.cmp .gtr mN 8)
  (.ret 90)
  (.need (A.call (@tt (Int × Int)) (mId, (A.bin .sub .i64 mN 1))) (
  .br (A.not (A.call fn81 (mId, (A.bin .sub .i64 mN 1))))
  (.ret 90)
  (.need (A.call (@tt (Int × Int)) (mFirst, (A.bin .sub .i64 mN 1))) (
  .br (A.not (A.call fn81 (mFirst, (A.bin .sub .i64 mN 1))))
  (.ret 90)
  (.need (A.call (@tt (Int × Int)) (mAcc, 1048576)) (
  .br (A.not (A.call fn81 (mAcc, 1048576)))
  (.ret 90)
  (.need (A.call (@tt (Int × Int)) (mFail, 1048576)) (
  .br (A.not (A.call fn81 (mFail, 1048576)))
  (.ret 90)
  (.need (A.call (@tt (Int × Int)) (mStage, 2)) (
  .br (A.not (A.call fn81 (mStage, 2)))
  (.ret 90)
  (.need (A.cmp .leq 0 mN) (
  .need (A.call (@tt (Int × Int)) (mSet, (A.bin .sub .i64 (A.bin .shl .i64 1 mN) 1))) (
  .br (A.not (A.call fn81 (mSet, (A.bin .sub .i64 (A.bin .shl .i64 1 mN) 1))))
  (.ret 90)
  (.br (A.cmp .neq mStage 0)
  (.need (A.cmp .leq 0 mId) (
  .br (A.cmp .eql (A.bin .and .i64 (A.bin .shr .i64 mSet mId) 1) 0)
  (.ret 90)
  (.br (A.cmp .eql mStage 2)
  (.br (A.cmp .eql mFirst mId)
  (.ret 90)
  (.ret 0))
  (.ret 0))))
  (.br (A.cmp .eql mStage 2)
  (.br (A.cmp .eql mFirst mId)
  (.ret 90)
  (.ret 0))
  (.ret 0)))))))))))))))))
noncomputable def E34 (A : Alg) : Info (Ty.Ts [(.int .i64)]) := { ti := tys, fns := [(34, Try.f34)], sps := [(81, sp81)], stops := [], cuts := [], consts := [], fin := finD A [(.int .i64)] }
theorem t34_ok (A : Alg) (mId : Int) (mN : Int) (mSet : Int) (mAcc : Int) (mFail : Int) (mStage : Int) (mFirst : Int) : run A (E34 A) 123 (startC 34 Try.f34 (dvals A [(.struct [(.int .i64), (.int .i64), (.int .i64), (.int .i64), (.int .i64), (.int .i64), (.int .i64)])] (mId, mN, mSet, mAcc, mFail, mStage, mFirst))) = (t34 A mId mN mSet mAcc mFail mStage mFirst).tr Empty.elim := by kernel_rfl
def w34 : Walk Try.prog 34 [(.struct [(.int .i64), (.int .i64), (.int .i64), (.int .i64), (.int .i64), (.int .i64), (.int .i64)])] [(.int .i64)] Empty := ⟨fun (mId, mN, mSet, mAcc, mFail, mStage, mFirst) => t34 std mId mN mSet mAcc mFail mStage mFirst, Empty.elim⟩
theorem w34_ok : w34.Ok :=
  walk_ok (E := E34 std) ⟨tys_fit, fns_cons Try.func34 (by kernel_rfl) (fns_nil), sps_cons so81 (sps_nil), by kernel_rfl⟩ rfl rfl rfl (by kernel_rfl) w34 Empty.elim 123 (fun (mId, mN, mSet, mAcc, mFail, mStage, mFirst) => t34_ok std mId mN mSet mAcc mFail mStage mFirst) (fun y => y.elim)

def fn34 : ((Int × Int × Int × Int × Int × Int × Int)) → Int := fun (mId, mN, mSet, mAcc, mFail, mStage, mFirst) => (t34 std mId mN mSet mAcc mFail mStage mFirst).val (Ty.dflts [(.int .i64)])
def sp34 : FSpec := ⟨[(.struct [(.int .i64), (.int .i64), (.int .i64), (.int .i64), (.int .i64), (.int .i64), (.int .i64)])], [(.int .i64)], (@tt ((Int × Int × Int × Int × Int × Int × Int))), fn34⟩
theorem eqs34 (mId : Int) (mN : Int) (mSet : Int) (mAcc : Int) (mFail : Int) (mStage : Int) (mFirst : Int) : (t34 std mId mN mSet mAcc mFail mStage mFirst).Eqs := by simp only [t34, LT.Eqs, and_self, true_and, and_true]
theorem pre34_ok {mId : Int} {mN : Int} {mSet : Int} {mAcc : Int} {mFail : Int} {mStage : Int} {mFirst : Int} (h : Ty.hass [(.struct [(.int .i64), (.int .i64), (.int .i64), (.int .i64), (.int .i64), (.int .i64), (.int .i64)])] (mId, mN, mSet, mAcc, mFail, mStage, mFirst)) : (t34 std mId mN mSet mAcc mFail mStage mFirst).pre = true := by
  simp only [t34, LT.pre, cond_iff, std_cmp_eql, std_cmp_neq, std_cmp_lss, std_cmp_leq, std_cmp_gtr, std_cmp_geq, std_and, std_not, std_beq, std_call, std_add, std_sub, std_conv, std_len, tt_eq, Bool.and_eq_true, Bool.or_eq_true, Bool.and_eq_false_iff, Bool.or_eq_false_iff, Bool.not_eq_true', Bool.not_eq_false', decide_eq_true_eq, decide_eq_false_iff_not, bne_iff_ne, beq_iff_eq, bne_eq_false_iff_eq, beq_eq_false_iff_ne, fn81_eq]
  simp only [Ty.hass, Ty.has, has64, has8] at h
  (repeat' (first | intro _ | constructor)) <;> (try omega)
theorem so34 : FSpec.Sound Try.prog 34 sp34 :=
  w34_ok.sound _ _ fun (mId, mN, mSet, mAcc, mFail, mStage, mFirst) _ h => LT.runs (d := Ty.dflts [(.int .i64)]) (eqs34 mId mN mSet mAcc mFail mStage mFirst) (pre34_ok h)
theorem fn34_range {x : Int × Int × Int × Int × Int × Int × Int} : fn34 x = 0 ∨ fn34 x = 90 := by
  obtain ⟨a, b, c, d, e, f, g⟩ := x
  exact LT.val_all (p := fun y => y = 0 ∨ y = 90) (.inl rfl) (by simp [t34, LT.all])
theorem fn34_zero {a b c d e f g : Int} : fn34 (a, b, c, d, e, f, g) = 0 ↔ okM a b c d e f g := by
  simp only [fn34, t34, LT.val, cond_eq_of, std_cmp_eql, std_cmp_neq, std_cmp_lss, std_cmp_leq, std_cmp_gtr, std_cmp_geq, std_and, std_not, std_beq, std_call, std_add, std_sub, std_conv, std_len, tt_eq, Bool.and_eq_true, Bool.or_eq_true, Bool.and_eq_false_iff, Bool.or_eq_false_iff, Bool.not_eq_true', Bool.not_eq_false', decide_eq_true_eq, decide_eq_false_iff_not, bne_iff_ne, beq_iff_eq, bne_eq_false_iff_eq, beq_eq_false_iff_ne, fn81_eq]
  simp
  unfold okM
  by_cases hb : 4 ≤ b ∧ b ≤ 8
  · rw [w64 (by omega) (by omega), shl1 (by omega) hb.2]
    have hp := pow_le (n := b.toNat) (by omega)
    have hp1 : 1 ≤ 2 ^ b.toNat := Nat.one_le_two_pow
    rw [w64 (by omega) (by omega)]
    by_cases hc : 0 ≤ c ∧ c < 256 ∧ 0 ≤ a ∧ a < 8
    · have h := bit_p hc.1 hc.2.1 hc.2.2.1 hc.2.2.2
      rw [h]
      cases bitT c a <;> simp <;> omega
    · constructor
      · intro h; exfalso; omega
      · intro h; exfalso; omega
  · constructor
    · intro h; exfalso; omega
    · intro h; exfalso; omega

/-! ### metronome/metronomeref09.bit (function 80) -/
def t80 (A : Alg) (n : Int) : LT Int Empty :=
  .need (A.cmp .leq 0 (A.conv .u64 n)) (
  .ret (A.bin .shl .i64 1 (A.conv .u64 n)))
noncomputable def E80 (A : Alg) : Info (Ty.Ts [(.int .i64)]) := { ti := tys, fns := [(80, Try.f80)], sps := [], stops := [], cuts := [], consts := [], fin := finD A [(.int .i64)] }
theorem t80_ok (A : Alg) (n : Int) : run A (E80 A) 17 (startC 80 Try.f80 (dvals A [(.int .i64)] n)) = (t80 A n).tr Empty.elim := by kernel_rfl
def w80 : Walk Try.prog 80 [(.int .i64)] [(.int .i64)] Empty := ⟨fun n => t80 std n, Empty.elim⟩
theorem w80_ok : w80.Ok :=
  walk_ok (E := E80 std) ⟨tys_fit, fns_cons Try.func80 (by kernel_rfl) (fns_nil), sps_nil, by kernel_rfl⟩ rfl rfl rfl (by kernel_rfl) w80 Empty.elim 17 (fun n => t80_ok std n) (fun y => y.elim)

def fn80 : Int → Int := fun n => (t80 std n).val (Ty.dflts [(.int .i64)])
def sp80 : FSpec := ⟨[(.int .i64)], [(.int .i64)], (@tt Int), fn80⟩
theorem eqs80 (n : Int) : (t80 std n).Eqs := by simp only [t80, LT.Eqs, and_self, true_and, and_true]
theorem pre80_ok {n : Int} (h : Ty.hass [(.int .i64)] n) : (t80 std n).pre = true := by
  simp only [t80, LT.pre, cond_iff, std_cmp_eql, std_cmp_neq, std_cmp_lss, std_cmp_leq, std_cmp_gtr, std_cmp_geq, std_and, std_not, std_beq, std_call, std_add, std_sub, std_conv, std_len, tt_eq, Bool.and_eq_true, Bool.or_eq_true, Bool.and_eq_false_iff, Bool.or_eq_false_iff, Bool.not_eq_true', Bool.not_eq_false', decide_eq_true_eq, decide_eq_false_iff_not, bne_iff_ne, beq_iff_eq, bne_eq_false_iff_eq, beq_eq_false_iff_ne]
  simp only [Ty.hass, Ty.has, has64] at h
  have := has_wrap .u64 n
  exact ⟨this.1, trivial⟩
theorem so80 : FSpec.Sound Try.prog 80 sp80 :=
  w80_ok.sound _ _ fun n _ h => LT.runs (d := Ty.dflts [(.int .i64)]) (eqs80 n) (pre80_ok h)
theorem fn80_eq {n : Int} (h0 : 0 ≤ n) (h1 : n ≤ 8) : fn80 n = ((2 ^ n.toNat : Nat) : Int) := by
  have : n = 0 ∨ n = 1 ∨ n = 2 ∨ n = 3 ∨ n = 4 ∨ n = 5 ∨ n = 6 ∨ n = 7 ∨ n = 8 := by omega
  rcases this with rfl | rfl | rfl | rfl | rfl | rfl | rfl | rfl | rfl <;> decide
theorem fn80_shl {n : Int} (h0 : 0 ≤ n) (h1 : n ≤ 8) : fn80 n = std.bin .shl .i64 1 n := by rw [fn80_eq h0 h1, shl1 h0 h1]

/-! ### metronome/metronomeref09.Check (function 35) -/
def t35 (A : Alg) (mId : Int) (mN : Int) (mSet : Int) (mAcc : Int) (mFail : Int) (mStage : Int) (mFirst : Int) : LT Int Empty :=
  .br (A.cmp .lss mN 4)
  (.ret 90)
  (.br (A.cmp .gtr mN 8)
  (.ret 90)
  (.br (A.cmp .lss mId 0)
  (.ret 90)
  (.br (A.cmp .geq mId mN)
  (.ret 90)
  (.br (A.cmp .lss mFirst 0)
  (.ret 90)
  (.br (A.cmp .geq mFirst mN)
  (.ret 90)
  (.br (A.cmp .lss mSet 0)
  (.ret 90)
  (.need (A.call (@tt Int) mN) (
  .br (A.cmp .geq mSet (A.call fn80 mN))
  (.ret 90)
  (.br (A.cmp .lss mAcc 0)
  (.ret 90)
  (.br (A.cmp .gtr mAcc 1048576)
  (.ret 90)
  (.br (A.cmp .lss mFail 0)
  (.ret 90)
  (.br (A.cmp .gtr mFail 1048576)
  (.ret 90)
  (.br (A.cmp .lss mStage 0)
  (.ret 90)
  (.br (A.cmp .gtr mStage 2)
  (.ret 90)
  (.br (A.cmp .neq mStage 0)
  (.need (A.call (@tt Int) mId) (
  .br (A.cmp .eql (A.bin .and .i64 mSet (A.call fn80 mId)) 0)
  (.ret 90)
  (.br (A.cmp .eql mStage 2)
  (.br (A.cmp .eql mFirst mId)
  (.ret 90)
  (.ret 0))
  (.ret 0))))
  (.br (A.cmp .eql mStage 2)
  (.br (A.cmp .eql mFirst mId)
  (.ret 90)
  (.ret 0))
  (.ret 0)))))))))))))))))
noncomputable def E35 (A : Alg) : Info (Ty.Ts [(.int .i64)]) := { ti := tys, fns := [(35, Try.f35)], sps := [(80, sp80)], stops := [], cuts := [], consts := [], fin := finD A [(.int .i64)] }
theorem t35_ok (A : Alg) (mId : Int) (mN : Int) (mSet : Int) (mAcc : Int) (mFail : Int) (mStage : Int) (mFirst : Int) : run A (E35 A) 130 (startC 35 Try.f35 (dvals A [(.struct [(.int .i64), (.int .i64), (.int .i64), (.int .i64), (.int .i64), (.int .i64), (.int .i64)])] (mId, mN, mSet, mAcc, mFail, mStage, mFirst))) = (t35 A mId mN mSet mAcc mFail mStage mFirst).tr Empty.elim := by kernel_rfl
def w35 : Walk Try.prog 35 [(.struct [(.int .i64), (.int .i64), (.int .i64), (.int .i64), (.int .i64), (.int .i64), (.int .i64)])] [(.int .i64)] Empty := ⟨fun (mId, mN, mSet, mAcc, mFail, mStage, mFirst) => t35 std mId mN mSet mAcc mFail mStage mFirst, Empty.elim⟩
theorem w35_ok : w35.Ok :=
  walk_ok (E := E35 std) ⟨tys_fit, fns_cons Try.func35 (by kernel_rfl) (fns_nil), sps_cons so80 (sps_nil), by kernel_rfl⟩ rfl rfl rfl (by kernel_rfl) w35 Empty.elim 130 (fun (mId, mN, mSet, mAcc, mFail, mStage, mFirst) => t35_ok std mId mN mSet mAcc mFail mStage mFirst) (fun y => y.elim)

def fn35 : ((Int × Int × Int × Int × Int × Int × Int)) → Int := fun (mId, mN, mSet, mAcc, mFail, mStage, mFirst) => (t35 std mId mN mSet mAcc mFail mStage mFirst).val (Ty.dflts [(.int .i64)])
def sp35 : FSpec := ⟨[(.struct [(.int .i64), (.int .i64), (.int .i64), (.int .i64), (.int .i64), (.int .i64), (.int .i64)])], [(.int .i64)], (@tt ((Int × Int × Int × Int × Int × Int × Int))), fn35⟩
theorem eqs35 (mId : Int) (mN : Int) (mSet : Int) (mAcc : Int) (mFail : Int) (mStage : Int) (mFirst : Int) : (t35 std mId mN mSet mAcc mFail mStage mFirst).Eqs := by simp only [t35, LT.Eqs, and_self, true_and, and_true]
theorem pre35_ok {mId : Int} {mN : Int} {mSet : Int} {mAcc : Int} {mFail : Int} {mStage : Int} {mFirst : Int} (h : Ty.hass [(.struct [(.int .i64), (.int .i64), (.int .i64), (.int .i64), (.int .i64), (.int .i64), (.int .i64)])] (mId, mN, mSet, mAcc, mFail, mStage, mFirst)) : (t35 std mId mN mSet mAcc mFail mStage mFirst).pre = true := by
  simp only [t35, LT.pre, cond_iff, std_cmp_eql, std_cmp_neq, std_cmp_lss, std_cmp_leq, std_cmp_gtr, std_cmp_geq, std_and, std_not, std_beq, std_call, std_add, std_sub, std_conv, std_len, tt_eq, Bool.and_eq_true, Bool.or_eq_true, Bool.and_eq_false_iff, Bool.or_eq_false_iff, Bool.not_eq_true', Bool.not_eq_false', decide_eq_true_eq, decide_eq_false_iff_not, bne_iff_ne, beq_iff_eq, bne_eq_false_iff_eq, beq_eq_false_iff_ne]
  simp only [Ty.hass, Ty.has, has64, has8] at h
  (repeat' (first | intro _ | constructor)) <;> (try omega)
theorem so35 : FSpec.Sound Try.prog 35 sp35 :=
  w35_ok.sound _ _ fun (mId, mN, mSet, mAcc, mFail, mStage, mFirst) _ h => LT.runs (d := Ty.dflts [(.int .i64)]) (eqs35 mId mN mSet mAcc mFail mStage mFirst) (pre35_ok h)
theorem fn35_range {x : Int × Int × Int × Int × Int × Int × Int} : fn35 x = 0 ∨ fn35 x = 90 := by
  obtain ⟨a, b, c, d, e, f, g⟩ := x
  exact LT.val_all (p := fun y => y = 0 ∨ y = 90) (.inl rfl) (by simp [t35, LT.all])
theorem fn35_zero {a b c d e f g : Int} : fn35 (a, b, c, d, e, f, g) = 0 ↔ okM a b c d e f g := by
  simp only [fn35, t35, LT.val, cond_eq_of, std_cmp_eql, std_cmp_neq, std_cmp_lss, std_cmp_leq, std_cmp_gtr, std_cmp_geq, std_and, std_not, std_beq, std_call, std_add, std_sub, std_conv, std_len, tt_eq, Bool.and_eq_true, Bool.or_eq_true, Bool.and_eq_false_iff, Bool.or_eq_false_iff, Bool.not_eq_true', Bool.not_eq_false', decide_eq_true_eq, decide_eq_false_iff_not, bne_iff_ne, beq_iff_eq, bne_eq_false_iff_eq, beq_eq_false_iff_ne]
  simp
  unfold okM
  by_cases hb : 4 ≤ b ∧ b ≤ 8 ∧ 0 ≤ a ∧ a < b
  · rw [fn80_eq (by omega) hb.2.1, fn80_shl (n := a) (by omega) (by omega)]
    have hp := pow_le (n := b.toNat) (by omega)
    by_cases hc : 0 ≤ c ∧ c < 256
    · have h := bit_r (a := a) hc.1 hc.2 (by omega) (by omega)
      rw [h]
      cases bitT c a <;> simp <;> omega
    · constructor
      · intro h; exfalso; omega
      · intro h; exfalso; omega
  · constructor
    · intro h; exfalso; omega
    · intro h; exfalso; omega
theorem chk {x : Int × Int × Int × Int × Int × Int × Int} : fn34 x = fn35 x := by
  have h1 := fn34_range (x := x)
  have h2 := fn35_range (x := x)
  obtain ⟨a, b, c, d, e, f, g⟩ := x
  have h3 := fn34_zero (a := a) (b := b) (c := c) (d := d) (e := e) (f := f) (g := g)
  have h4 := fn35_zero (a := a) (b := b) (c := c) (d := d) (e := e) (f := f) (g := g)
  by_cases h : okM a b c d e f g
  · rw [h3.2 h, h4.2 h]
  · have := mt h3.1 h; have := mt h4.1 h; omega

/-! ### metronome/member.New (function 21) -/
def t21 (A : Alg) (id : Int) (n : Int) (set1 : Int) : LT ((Int × Int × Int × Int × Int × Int × Int) × Int) Empty :=
  .need (A.call (@tt ((Int × Int × Int × Int × Int × Int × Int))) (id, n, set1, 0, 0, 0, 0)) (
  .br (A.cmp .neq (A.call fn34 (id, n, set1, 0, 0, 0, 0)) 0)
  (.ret ((0, 0, 0, 0, 0, 0, 0), (A.call fn34 (id, n, set1, 0, 0, 0, 0))))
  (.ret ((id, n, set1, 0, 0, 0, 0), 0)))
noncomputable def E21 (A : Alg) : Info (Ty.Ts [(.struct [(.int .i64), (.int .i64), (.int .i64), (.int .i64), (.int .i64), (.int .i64), (.int .i64)]), (.int .i64)]) := { ti := tys, fns := [(21, Try.f21)], sps := [(34, sp34)], stops := [], cuts := [], consts := [], fin := finD A [(.struct [(.int .i64), (.int .i64), (.int .i64), (.int .i64), (.int .i64), (.int .i64), (.int .i64)]), (.int .i64)] }
theorem t21_ok (A : Alg) (id : Int) (n : Int) (set1 : Int) : run A (E21 A) 40 (startC 21 Try.f21 (dvals A [(.int .i64), (.int .i64), (.int .i64)] (id, n, set1))) = (t21 A id n set1).tr Empty.elim := by kernel_rfl
def w21 : Walk Try.prog 21 [(.int .i64), (.int .i64), (.int .i64)] [(.struct [(.int .i64), (.int .i64), (.int .i64), (.int .i64), (.int .i64), (.int .i64), (.int .i64)]), (.int .i64)] Empty := ⟨fun (id, n, set1) => t21 std id n set1, Empty.elim⟩
theorem w21_ok : w21.Ok :=
  walk_ok (E := E21 std) ⟨tys_fit, fns_cons Try.func21 (by kernel_rfl) (fns_nil), sps_cons so34 (sps_nil), by kernel_rfl⟩ rfl rfl rfl (by kernel_rfl) w21 Empty.elim 40 (fun (id, n, set1) => t21_ok std id n set1) (fun y => y.elim)

def fn21 : (Int × Int × Int) → ((Int × Int × Int × Int × Int × Int × Int) × Int) := fun (id, n, set1) => (t21 std id n set1).val (Ty.dflts [(.struct [(.int .i64), (.int .i64), (.int .i64), (.int .i64), (.int .i64), (.int .i64), (.int .i64)]), (.int .i64)])
def sp21 : FSpec := ⟨[(.int .i64), (.int .i64), (.int .i64)], [(.struct [(.int .i64), (.int .i64), (.int .i64), (.int .i64), (.int .i64), (.int .i64), (.int .i64)]), (.int .i64)], (@tt (Int × Int × Int)), fn21⟩
theorem eqs21 (id : Int) (n : Int) (set1 : Int) : (t21 std id n set1).Eqs := by simp only [t21, LT.Eqs, and_self, true_and, and_true]
theorem pre21_ok {id : Int} {n : Int} {set1 : Int} (h : Ty.hass [(.int .i64), (.int .i64), (.int .i64)] (id, n, set1)) : (t21 std id n set1).pre = true := by
  simp only [t21, LT.pre, cond_iff, std_cmp_eql, std_cmp_neq, std_cmp_lss, std_cmp_leq, std_cmp_gtr, std_cmp_geq, std_and, std_not, std_beq, std_call, std_add, std_sub, std_conv, std_len, tt_eq, Bool.and_eq_true, Bool.or_eq_true, Bool.and_eq_false_iff, Bool.or_eq_false_iff, Bool.not_eq_true', Bool.not_eq_false', decide_eq_true_eq, decide_eq_false_iff_not, bne_iff_ne, beq_iff_eq, bne_eq_false_iff_eq, beq_eq_false_iff_ne]
  simp only [Ty.hass, Ty.has, has64, has8] at h
  (repeat' (first | intro _ | constructor)) <;> (try omega)
theorem so21 : FSpec.Sound Try.prog 21 sp21 :=
  w21_ok.sound _ _ fun (id, n, set1) _ h => LT.runs (d := Ty.dflts [(.struct [(.int .i64), (.int .i64), (.int .i64), (.int .i64), (.int .i64), (.int .i64), (.int .i64)]), (.int .i64)]) (eqs21 id n set1) (pre21_ok h)
/-! ### metronome/metronomeref09.New (function 32) -/
def t32 (A : Alg) (id : Int) (n : Int) (set1 : Int) : LT ((Int × Int × Int × Int × Int × Int × Int) × Int) Empty :=
  .need (A.call (@tt ((Int × Int × Int × Int × Int × Int × Int))) (id, n, set1, 0, 0, 0, 0)) (
  .br (A.cmp .neq (A.call fn35 (id, n, set1, 0, 0, 0, 0)) 0)
  (.ret ((0, 0, 0, 0, 0, 0, 0), 90))
  (.ret ((id, n, set1, 0, 0, 0, 0), 0)))
noncomputable def E32 (A : Alg) : Info (Ty.Ts [(.struct [(.int .i64), (.int .i64), (.int .i64), (.int .i64), (.int .i64), (.int .i64), (.int .i64)]), (.int .i64)]) := { ti := tys, fns := [(32, Try.f32)], sps := [(35, sp35)], stops := [], cuts := [], consts := [], fin := finD A [(.struct [(.int .i64), (.int .i64), (.int .i64), (.int .i64), (.int .i64), (.int .i64), (.int .i64)]), (.int .i64)] }
theorem t32_ok (A : Alg) (id : Int) (n : Int) (set1 : Int) : run A (E32 A) 35 (startC 32 Try.f32 (dvals A [(.int .i64), (.int .i64), (.int .i64)] (id, n, set1))) = (t32 A id n set1).tr Empty.elim := by kernel_rfl
def w32 : Walk Try.prog 32 [(.int .i64), (.int .i64), (.int .i64)] [(.struct [(.int .i64), (.int .i64), (.int .i64), (.int .i64), (.int .i64), (.int .i64), (.int .i64)]), (.int .i64)] Empty := ⟨fun (id, n, set1) => t32 std id n set1, Empty.elim⟩
theorem w32_ok : w32.Ok :=
  walk_ok (E := E32 std) ⟨tys_fit, fns_cons Try.func32 (by kernel_rfl) (fns_nil), sps_cons so35 (sps_nil), by kernel_rfl⟩ rfl rfl rfl (by kernel_rfl) w32 Empty.elim 35 (fun (id, n, set1) => t32_ok std id n set1) (fun y => y.elim)

def fn32 : (Int × Int × Int) → ((Int × Int × Int × Int × Int × Int × Int) × Int) := fun (id, n, set1) => (t32 std id n set1).val (Ty.dflts [(.struct [(.int .i64), (.int .i64), (.int .i64), (.int .i64), (.int .i64), (.int .i64), (.int .i64)]), (.int .i64)])
def sp32 : FSpec := ⟨[(.int .i64), (.int .i64), (.int .i64)], [(.struct [(.int .i64), (.int .i64), (.int .i64), (.int .i64), (.int .i64), (.int .i64), (.int .i64)]), (.int .i64)], (@tt (Int × Int × Int)), fn32⟩
theorem eqs32 (id : Int) (n : Int) (set1 : Int) : (t32 std id n set1).Eqs := by simp only [t32, LT.Eqs, and_self, true_and, and_true]
theorem pre32_ok {id : Int} {n : Int} {set1 : Int} (h : Ty.hass [(.int .i64), (.int .i64), (.int .i64)] (id, n, set1)) : (t32 std id n set1).pre = true := by
  simp only [t32, LT.pre, cond_iff, std_cmp_eql, std_cmp_neq, std_cmp_lss, std_cmp_leq, std_cmp_gtr, std_cmp_geq, std_and, std_not, std_beq, std_call, std_add, std_sub, std_conv, std_len, tt_eq, Bool.and_eq_true, Bool.or_eq_true, Bool.and_eq_false_iff, Bool.or_eq_false_iff, Bool.not_eq_true', Bool.not_eq_false', decide_eq_true_eq, decide_eq_false_iff_not, bne_iff_ne, beq_iff_eq, bne_eq_false_iff_eq, beq_eq_false_iff_ne]
  simp only [Ty.hass, Ty.has, has64, has8] at h
  (repeat' (first | intro _ | constructor)) <;> (try omega)
theorem so32 : FSpec.Sound Try.prog 32 sp32 :=
  w32_ok.sound _ _ fun (id, n, set1) _ h => LT.runs (d := Ty.dflts [(.struct [(.int .i64), (.int .i64), (.int .i64), (.int .i64), (.int .i64), (.int .i64), (.int .i64)]), (.int .i64)]) (eqs32 id n set1) (pre32_ok h)
theorem new_same {x : Int × Int × Int} : fn21 x = fn32 x := by
  obtain ⟨a, b, c⟩ := x
  simp only [fn21, fn32, t21, t32, LT.val, std_call, chk]
  rcases fn35_range (x := (a, b, c, 0, 0, 0, 0)) with h | h <;> simp [h, std_cmp_neq]

/-! ### metronome/member.other (function 77) -/
def t77 (A : Alg) (mId : Int) (mN : Int) (mSet : Int) (mAcc : Int) (mFail : Int) (mStage : Int) (mFirst : Int) (node : Int) : LT Bool Empty :=
  .need (A.call (@tt (Int × Int)) (node, (A.bin .sub .i64 mN 1))) (
  .br (A.call fn81 (node, (A.bin .sub .i64 mN 1)))
  (.ret (A.cmp .neq node mId))
  (.ret false))
noncomputable def E77 (A : Alg) : Info (Ty.Ts [.bool]) := { ti := tys, fns := [(77, Try.f77)], sps := [(81, sp81)], stops := [], cuts := [], consts := [], fin := finD A [.bool] }
theorem t77_ok (A : Alg) (mId : Int) (mN : Int) (mSet : Int) (mAcc : Int) (mFail : Int) (mStage : Int) (mFirst : Int) (node : Int) : run A (E77 A) 26 (startC 77 Try.f77 (dvals A [(.struct [(.int .i64), (.int .i64), (.int .i64), (.int .i64), (.int .i64), (.int .i64), (.int .i64)]), (.int .i64)] ((mId, mN, mSet, mAcc, mFail, mStage, mFirst), node))) = (t77 A mId mN mSet mAcc mFail mStage mFirst node).tr Empty.elim := by kernel_rfl
def w77 : Walk Try.prog 77 [(.struct [(.int .i64), (.int .i64), (.int .i64), (.int .i64), (.int .i64), (.int .i64), (.int .i64)]), (.int .i64)] [.bool] Empty := ⟨fun ((mId, mN, mSet, mAcc, mFail, mStage, mFirst), node) => t77 std mId mN mSet mAcc mFail mStage mFirst node, Empty.elim⟩
theorem w77_ok : w77.Ok :=
  walk_ok (E := E77 std) ⟨tys_fit, fns_cons Try.func77 (by kernel_rfl) (fns_nil), sps_cons so81 (sps_nil), by kernel_rfl⟩ rfl rfl rfl (by kernel_rfl) w77 Empty.elim 26 (fun ((mId, mN, mSet, mAcc, mFail, mStage, mFirst), node) => t77_ok std mId mN mSet mAcc mFail mStage mFirst node) (fun y => y.elim)

def fn77 : ((Int × Int × Int × Int × Int × Int × Int) × Int) → Bool := fun ((mId, mN, mSet, mAcc, mFail, mStage, mFirst), node) => (t77 std mId mN mSet mAcc mFail mStage mFirst node).val (Ty.dflts [.bool])
def sp77 : FSpec := ⟨[(.struct [(.int .i64), (.int .i64), (.int .i64), (.int .i64), (.int .i64), (.int .i64), (.int .i64)]), (.int .i64)], [.bool], (@tt ((Int × Int × Int × Int × Int × Int × Int) × Int)), fn77⟩
theorem eqs77 (mId : Int) (mN : Int) (mSet : Int) (mAcc : Int) (mFail : Int) (mStage : Int) (mFirst : Int) (node : Int) : (t77 std mId mN mSet mAcc mFail mStage mFirst node).Eqs := by simp only [t77, LT.Eqs, and_self, true_and, and_true]
theorem pre77_ok {mId : Int} {mN : Int} {mSet : Int} {mAcc : Int} {mFail : Int} {mStage : Int} {mFirst : Int} {node : Int} (h : Ty.hass [(.struct [(.int .i64), (.int .i64), (.int .i64), (.int .i64), (.int .i64), (.int .i64), (.int .i64)]), (.int .i64)] ((mId, mN, mSet, mAcc, mFail, mStage, mFirst), node)) : (t77 std mId mN mSet mAcc mFail mStage mFirst node).pre = true := by
  simp only [t77, LT.pre, cond_iff, std_cmp_eql, std_cmp_neq, std_cmp_lss, std_cmp_leq, std_cmp_gtr, std_cmp_geq, std_and, std_not, std_beq, std_call, std_add, std_sub, std_conv, std_len, tt_eq, Bool.and_eq_true, Bool.or_eq_true, Bool.and_eq_false_iff, Bool.or_eq_false_iff, Bool.not_eq_true', Bool.not_eq_false', decide_eq_true_eq, decide_eq_false_iff_not, bne_iff_ne, beq_iff_eq, bne_eq_false_iff_eq, beq_eq_false_iff_ne]
  simp only [Ty.hass, Ty.has, has64, has8] at h
  (repeat' (first | intro _ | constructor)) <;> (try omega)
theorem so77 : FSpec.Sound Try.prog 77 sp77 :=
  w77_ok.sound _ _ fun ((mId, mN, mSet, mAcc, mFail, mStage, mFirst), node) _ h => LT.runs (d := Ty.dflts [.bool]) (eqs77 mId mN mSet mAcc mFail mStage mFirst node) (pre77_ok h)
/-! ### metronome/member.asks (function 73) -/
def t73 (A : Alg) (mId : Int) (mN : Int) (mSet : Int) (mAcc : Int) (mFail : Int) (mStage : Int) (mFirst : Int) (sender : Int) : LT Int Empty :=
  .need (A.call (@tt ((Int × Int × Int × Int × Int × Int × Int))) (mId, mN, mSet, mAcc, mFail, mStage, mFirst)) (
  .br (A.cmp .neq (A.call fn34 (mId, mN, mSet, mAcc, mFail, mStage, mFirst)) 0)
  (.ret (A.call fn34 (mId, mN, mSet, mAcc, mFail, mStage, mFirst)))
  (.need (A.call (@tt ((Int × Int × Int × Int × Int × Int × Int) × Int)) ((mId, mN, mSet, mAcc, mFail, mStage, mFirst), sender)) (
  .br (A.not (A.call fn77 ((mId, mN, mSet, mAcc, mFail, mStage, mFirst), sender)))
  (.ret 2)
  (.ret 0))))
noncomputable def E73 (A : Alg) : Info (Ty.Ts [(.int .i64)]) := { ti := tys, fns := [(73, Try.f73)], sps := [(34, sp34), (77, sp77)], stops := [], cuts := [], consts := [], fin := finD A [(.int .i64)] }
theorem t73_ok (A : Alg) (mId : Int) (mN : Int) (mSet : Int) (mAcc : Int) (mFail : Int) (mStage : Int) (mFirst : Int) (sender : Int) : run A (E73 A) 39 (startC 73 Try.f73 (dvals A [(.struct [(.int .i64), (.int .i64), (.int .i64), (.int .i64), (.int .i64), (.int .i64), (.int .i64)]), (.int .i64)] ((mId, mN, mSet, mAcc, mFail, mStage, mFirst), sender))) = (t73 A mId mN mSet mAcc mFail mStage mFirst sender).tr Empty.elim := by kernel_rfl
def w73 : Walk Try.prog 73 [(.struct [(.int .i64), (.int .i64), (.int .i64), (.int .i64), (.int .i64), (.int .i64), (.int .i64)]), (.int .i64)] [(.int .i64)] Empty := ⟨fun ((mId, mN, mSet, mAcc, mFail, mStage, mFirst), sender) => t73 std mId mN mSet mAcc mFail mStage mFirst sender, Empty.elim⟩
theorem w73_ok : w73.Ok :=
  walk_ok (E := E73 std) ⟨tys_fit, fns_cons Try.func73 (by kernel_rfl) (fns_nil), sps_cons so34 (sps_cons so77 (sps_nil)), by kernel_rfl⟩ rfl rfl rfl (by kernel_rfl) w73 Empty.elim 39 (fun ((mId, mN, mSet, mAcc, mFail, mStage, mFirst), sender) => t73_ok std mId mN mSet mAcc mFail mStage mFirst sender) (fun y => y.elim)

def fn73 : ((Int × Int × Int × Int × Int × Int × Int) × Int) → Int := fun ((mId, mN, mSet, mAcc, mFail, mStage, mFirst), sender) => (t73 std mId mN mSet mAcc mFail mStage mFirst sender).val (Ty.dflts [(.int .i64)])
def sp73 : FSpec := ⟨[(.struct [(.int .i64), (.int .i64), (.int .i64), (.int .i64), (.int .i64), (.int .i64), (.int .i64)]), (.int .i64)], [(.int .i64)], (@tt ((Int × Int × Int × Int × Int × Int × Int) × Int)), fn73⟩
theorem eqs73 (mId : Int) (mN : Int) (mSet : Int) (mAcc : Int) (mFail : Int) (mStage : Int) (mFirst : Int) (sender : Int) : (t73 std mId mN mSet mAcc mFail mStage mFirst sender).Eqs := by simp only [t73, LT.Eqs, and_self, true_and, and_true]
theorem pre73_ok {mId : Int} {mN : Int} {mSet : Int} {mAcc : Int} {mFail : Int} {mStage : Int} {mFirst : Int} {sender : Int} (h : Ty.hass [(.struct [(.int .i64), (.int .i64), (.int .i64), (.int .i64), (.int .i64), (.int .i64), (.int .i64)]), (.int .i64)] ((mId, mN, mSet, mAcc, mFail, mStage, mFirst), sender)) : (t73 std mId mN mSet mAcc mFail mStage mFirst sender).pre = true := by
  simp only [t73, LT.pre, cond_iff, std_cmp_eql, std_cmp_neq, std_cmp_lss, std_cmp_leq, std_cmp_gtr, std_cmp_geq, std_and, std_not, std_beq, std_call, std_add, std_sub, std_conv, std_len, tt_eq, Bool.and_eq_true, Bool.or_eq_true, Bool.and_eq_false_iff, Bool.or_eq_false_iff, Bool.not_eq_true', Bool.not_eq_false', decide_eq_true_eq, decide_eq_false_iff_not, bne_iff_ne, beq_iff_eq, bne_eq_false_iff_eq, beq_eq_false_iff_ne]
  simp only [Ty.hass, Ty.has, has64, has8] at h
  (repeat' (first | intro _ | constructor)) <;> (try omega)
theorem so73 : FSpec.Sound Try.prog 73 sp73 :=
  w73_ok.sound _ _ fun ((mId, mN, mSet, mAcc, mFail, mStage, mFirst), sender) _ h => LT.runs (d := Ty.dflts [(.int .i64)]) (eqs73 mId mN mSet mAcc mFail mStage mFirst sender) (pre73_ok h)
/-! ### metronome/member.sets (function 78) -/
def t78 (A : Alg) (mId : Int) (mN : Int) (mSet : Int) (mAcc : Int) (mFail : Int) (mStage : Int) (mFirst : Int) (sender : Int) : LT (List Int × Int) Empty :=
  .need (A.cmp .leq 0 mId) (
  .need (A.cmp .leq 0 mFirst) (
  .need (A.cmp .leq 0 sender) (
  .br (A.cmp .eql mStage 0)
  (.ret ([(A.bin .or .i64 mSet (A.bin .shl .i64 1 sender)), 0], 1))
  (.br (A.cmp .eql mStage 1)
  (.ret ([(A.bin .or .i64 (A.bin .or .i64 mSet (A.bin .shl .i64 1 sender)) (A.bin .shl .i64 1 mId)), (A.bin .andNot .i64 (A.bin .or .i64 mSet (A.bin .shl .i64 1 sender)) (A.bin .shl .i64 1 mId))], 2))
  (.br (A.cmp .eql sender mFirst)
  (.ret ([(A.bin .or .i64 (A.bin .or .i64 mSet (A.bin .shl .i64 1 sender)) (A.bin .shl .i64 1 mId)), 0], 1))
  (.ret ([(A.bin .andNot .i64 (A.bin .or .i64 (A.bin .or .i64 mSet (A.bin .shl .i64 1 sender)) (A.bin .shl .i64 1 mId)) (A.bin .shl .i64 1 mFirst)), (A.bin .andNot .i64 (A.bin .or .i64 (A.bin .or .i64 mSet (A.bin .shl .i64 1 sender)) (A.bin .shl .i64 1 mFirst)) (A.bin .shl .i64 1 mId))], 2)))))))
noncomputable def E78 (A : Alg) : Info (Ty.Ts [(.arr 2 (.int .i64)), (.int .i64)]) := { ti := tys, fns := [(78, Try.f78)], sps := [], stops := [], cuts := [], consts := [], fin := finD A [(.arr 2 (.int .i64)), (.int .i64)] }
theorem t78_ok (A : Alg) (mId : Int) (mN : Int) (mSet : Int) (mAcc : Int) (mFail : Int) (mStage : Int) (mFirst : Int) (sender : Int) : run A (E78 A) 77 (startC 78 Try.f78 (dvals A [(.struct [(.int .i64), (.int .i64), (.int .i64), (.int .i64), (.int .i64), (.int .i64), (.int .i64)]), (.int .i64)] ((mId, mN, mSet, mAcc, mFail, mStage, mFirst), sender))) = (t78 A mId mN mSet mAcc mFail mStage mFirst sender).tr Empty.elim := by kernel_rfl
def w78 : Walk Try.prog 78 [(.struct [(.int .i64), (.int .i64), (.int .i64), (.int .i64), (.int .i64), (.int .i64), (.int .i64)]), (.int .i64)] [(.arr 2 (.int .i64)), (.int .i64)] Empty := ⟨fun ((mId, mN, mSet, mAcc, mFail, mStage, mFirst), sender) => t78 std mId mN mSet mAcc mFail mStage mFirst sender, Empty.elim⟩
theorem w78_ok : w78.Ok :=
  walk_ok (E := E78 std) ⟨tys_fit, fns_cons Try.func78 (by kernel_rfl) (fns_nil), sps_nil, by kernel_rfl⟩ rfl rfl rfl (by kernel_rfl) w78 Empty.elim 77 (fun ((mId, mN, mSet, mAcc, mFail, mStage, mFirst), sender) => t78_ok std mId mN mSet mAcc mFail mStage mFirst sender) (fun y => y.elim)

def fn78 : ((Int × Int × Int × Int × Int × Int × Int) × Int) → (List Int × Int) := fun ((mId, mN, mSet, mAcc, mFail, mStage, mFirst), sender) => (t78 std mId mN mSet mAcc mFail mStage mFirst sender).val (Ty.dflts [(.arr 2 (.int .i64)), (.int .i64)])
def pre78 : ((Int × Int × Int × Int × Int × Int × Int) × Int) → Bool := fun ((a, b, c, d, e, f, g), s) => decide (0 ≤ a) && (decide (0 ≤ g) && decide (0 ≤ s))
def sp78 : FSpec := ⟨[(.struct [(.int .i64), (.int .i64), (.int .i64), (.int .i64), (.int .i64), (.int .i64), (.int .i64)]), (.int .i64)], [(.arr 2 (.int .i64)), (.int .i64)], pre78, fn78⟩
theorem eqs78 (mId : Int) (mN : Int) (mSet : Int) (mAcc : Int) (mFail : Int) (mStage : Int) (mFirst : Int) (sender : Int) : (t78 std mId mN mSet mAcc mFail mStage mFirst sender).Eqs := by simp only [t78, LT.Eqs, and_self, true_and, and_true]
theorem pre78_ok {mId : Int} {mN : Int} {mSet : Int} {mAcc : Int} {mFail : Int} {mStage : Int} {mFirst : Int} {sender : Int} (h : Ty.hass [(.struct [(.int .i64), (.int .i64), (.int .i64), (.int .i64), (.int .i64), (.int .i64), (.int .i64)]), (.int .i64)] ((mId, mN, mSet, mAcc, mFail, mStage, mFirst), sender)) (hp : pre78 ((mId, mN, mSet, mAcc, mFail, mStage, mFirst), sender) = true) : (t78 std mId mN mSet mAcc mFail mStage mFirst sender).pre = true := by
  simp only [t78, LT.pre, cond_iff, std_cmp_eql, std_cmp_neq, std_cmp_lss, std_cmp_leq, std_cmp_gtr, std_cmp_geq, std_and, std_not, std_beq, std_call, std_add, std_sub, std_conv, std_len, tt_eq, Bool.and_eq_true, Bool.or_eq_true, Bool.and_eq_false_iff, Bool.or_eq_false_iff, Bool.not_eq_true', Bool.not_eq_false', decide_eq_true_eq, decide_eq_false_iff_not, bne_iff_ne, beq_iff_eq, bne_eq_false_iff_eq, beq_eq_false_iff_ne]
  simp only [pre78, Bool.and_eq_true, decide_eq_true_eq] at hp
  simp only [Ty.hass, Ty.has, has64, has8] at h
  (repeat' (first | intro _ | constructor)) <;> (try omega)
theorem so78 : FSpec.Sound Try.prog 78 sp78 :=
  w78_ok.sound _ _ fun ((mId, mN, mSet, mAcc, mFail, mStage, mFirst), sender) hp h => LT.runs (d := Ty.dflts [(.arr 2 (.int .i64)), (.int .i64)]) (eqs78 mId mN mSet mAcc mFail mStage mFirst sender) (pre78_ok h hp)
theorem fn77_iff {a b c d e f g s : Int} (h0 : 4 ≤ b) (h1 : b ≤ 8) : fn77 ((a, b, c, d, e, f, g), s) = true ↔ 0 ≤ s ∧ s < b ∧ s ≠ a := by
  simp only [fn77, t77, LT.val, cond_eq_of, std_cmp_eql, std_cmp_neq, std_cmp_lss, std_cmp_leq, std_cmp_gtr, std_cmp_geq, std_and, std_not, std_beq, std_call, std_add, std_sub, std_conv, std_len, tt_eq, Bool.and_eq_true, Bool.or_eq_true, Bool.and_eq_false_iff, Bool.or_eq_false_iff, Bool.not_eq_true', Bool.not_eq_false', decide_eq_true_eq, decide_eq_false_iff_not, bne_iff_ne, beq_iff_eq, bne_eq_false_iff_eq, beq_eq_false_iff_ne, fn81_eq]
  simp
  rw [w64 (by omega) (by omega)]
  omega
theorem fn78_len {x : (Int × Int × Int × Int × Int × Int × Int) × Int} : 0 ≤ (fn78 x).2 ∧ (fn78 x).2 ≤ 2 := by
  obtain ⟨⟨a, b, c, d, e, f, g⟩, s⟩ := x
  exact LT.val_all (p := fun y : List Int × Int => 0 ≤ y.2 ∧ y.2 ≤ 2) (by decide) (by simp [t78, LT.all])

/-! ### metronome/member.view (function 74) -/
structure P74c0 where
  a0 : Int
  a1 : Int
  a2 : Int
  a4 : Int
  a5 : Int
  a6 : Int
  a7 : Int
  a8 : Int
  a9 : Int
  a10 : Int
  a11 : Int
  a12 : Int
  a13 : Int
  a14 : Int
  a15 : Int
  a16 : Int
  a17 : Int
  a18 : Int
  a19 : Int
  a20 : Int
  a21 : Int
  a22 : Int
  a23 : Int
  a24 : Bool
  a25 : Int
  a26 : Int
  a27 : Int
  a28 : Int
  a29 : Int
  a30 : Int
  a31 : Int
  a32 : Int
  a33 : Int
  a34 : Int
  a35 : Int
  a36 : Int
  a37 : Int
  a38 : Int
  a39 : Int
  a40 : Int
inductive Y74 where
  | c0 (p : P74c0) (a3 : Int)
noncomputable def cfg74 : Y74 → Cfg
  | .c0 p a3 => { frames := [{ fn := 76, n := 37, env := (Env.put (Env.put (Env.put (Env.put .leaf 0 (.yield 0)) 24 (.osl 1 1 false p.a0 p.a1)) 25 (.int .i64 false p.a2)) 26 (.int .i64 false a3)), todo := [.inLoop (Code.way (bodyOf Try.f76) [1, 1, 1, 0, 0]), .inBlock 0], marks := [], rnd := none }, { fn := 74, n := 19, env := (Env.put (Env.put .leaf 6 (.ptr 2 0)) 7 (.ptr 3 0)), todo := [.inRF 0, .inBlock 0, .code (Code.way (bodyOf Try.f74) [1, 1])], marks := [4], rnd := none }], mem := [.loop { fn := 74, n := 19, env := (Env.put (Env.put (Env.put (Env.put (Env.put (Env.put (Env.put (Env.put (Env.put (Env.put .leaf 0 (.agg [.int .i64 false p.a4, .int .i64 false p.a5, .int .i64 false p.a6, .int .i64 false p.a7, .int .i64 false p.a8, .int .i64 false p.a9, .int .i64 false p.a10])) 1 (.int .i64 false p.a11)) 2 (.int .i64 false p.a12)) 3 (.ptr 5 0)) 5 (.ptr 6 0)) 6 (.ptr 2 0)) 7 (.ptr 3 0)) 10 (.agg [.int .i64 false p.a13, .int .i64 false p.a14, .int .i64 false p.a15, .int .i64 false p.a16, .int .i64 false p.a17, .int .i64 false p.a18, .int .i64 false p.a19])) 11 (.int .i64 false p.a20)) 12 (.fn 76 [] [.ptr 7 0, .ptr 8 0])), params := [13, 14], assign := (Code.way (bodyOf Try.f74) [1, 0, 1, 0, 0]), body := (Code.way (bodyOf Try.f74) [1, 0, 1, 0, 1]), state := 0, pending := none }, .flat false [.int .i64 false p.a21, .int .i64 false p.a22], .flat false [.int .i64 false p.a23], .flat false [.bool false p.a24], .dfr, .flat false [.int .i64 false p.a25, .int .i64 false p.a26, .int .i64 false p.a27, .int .i64 false p.a28, .int .i64 false p.a29, .int .i64 false p.a30, .int .i64 false p.a31], .flat false [.int .i64 false p.a32], .flat false [.int .i64 false p.a33, .int .i64 false p.a34, .int .i64 false p.a35, .int .i64 false p.a36, .int .i64 false p.a37, .int .i64 false p.a38, .int .i64 false p.a39], .flat false [.int .i64 false p.a40], .dead] }

def t74 (A : Alg) (mId : Int) (mN : Int) (mSet : Int) (mAcc : Int) (mFail : Int) (mStage : Int) (mFirst : Int) (sender : Int) (which : Int) : LT (Int × Bool) Y74 :=
  .need (A.call (@tt ((Int × Int × Int × Int × Int × Int × Int))) (mId, mN, mSet, mAcc, mFail, mStage, mFirst)) (
  .br (A.cmp .neq (A.call fn34 (mId, mN, mSet, mAcc, mFail, mStage, mFirst)) 0)
  (.ret (0, false))
  (.need (A.call (@tt ((Int × Int × Int × Int × Int × Int × Int) × Int)) ((mId, mN, mSet, mAcc, mFail, mStage, mFirst), sender)) (
  .br (A.not (A.call fn77 ((mId, mN, mSet, mAcc, mFail, mStage, mFirst), sender)))
  (.ret (0, false))
  (.need (A.call pre78 ((mId, mN, mSet, mAcc, mFail, mStage, mFirst), sender)) (
  .need (A.and (A.cmp .leq 0 0) (A.and (A.cmp .leq 0 (A.call fn78 ((mId, mN, mSet, mAcc, mFail, mStage, mFirst), sender)).2) (A.cmp .leq (A.call fn78 ((mId, mN, mSet, mAcc, mFail, mStage, mFirst), sender)).2 2))) (
  .more (.c0 ⟨(A.bin .add .i64 0 0), (A.bin .sub .i64 (A.call fn78 ((mId, mN, mSet, mAcc, mFail, mStage, mFirst), sender)).2 0), (A.bin .sub .i64 (A.call fn78 ((mId, mN, mSet, mAcc, mFail, mStage, mFirst), sender)).2 0), mId, mN, mSet, mAcc, mFail, mStage, mFirst, sender, which, mId, mN, mSet, mAcc, mFail, mStage, mFirst, sender, (A.nth (.int .i64) (A.call fn78 ((mId, mN, mSet, mAcc, mFail, mStage, mFirst), sender)).1 0 : Int), (A.nth (.int .i64) (A.call fn78 ((mId, mN, mSet, mAcc, mFail, mStage, mFirst), sender)).1 1 : Int), 0, false, mId, mN, mSet, mAcc, mFail, mStage, mFirst, which, mId, mN, mSet, mAcc, mFail, mStage, mFirst, sender⟩ 0)))))))
def s74 (A : Alg) : Y74 → LT (Int × Bool) Y74
 | .c0 p a3 =>
  .br (A.cmp .lss a3 p.a2)
  (.need (A.and (A.cmp .leq 0 a3) (A.cmp .lss a3 p.a1)) (
  .br (A.cmp .eql a3 p.a32)
  (.ret ((A.nth (.int .i64) [p.a21, p.a22] (A.bin .add .i64 p.a0 a3) : Int), true))
  (.more (.c0 p (A.bin .add .i64 a3 1)))))
  (.ret (0, false))
noncomputable def E74 (A : Alg) : Info (Ty.Ts [(.int .i64), .bool]) := { ti := tys, fns := [(30, Try.f30), (74, Try.f74), (76, Try.f76)], sps := [(34, sp34), (77, sp77), (78, sp78)], stops := [⟨76, 3, [[0, 24, 25, 26], [6, 7]]⟩], cuts := [], consts := [], fin := finD A [(.int .i64), .bool] }
theorem t74_ok (A : Alg) (mId : Int) (mN : Int) (mSet : Int) (mAcc : Int) (mFail : Int) (mStage : Int) (mFirst : Int) (sender : Int) (which : Int) : run A (E74 A) 70 (startC 74 Try.f74 (dvals A [(.struct [(.int .i64), (.int .i64), (.int .i64), (.int .i64), (.int .i64), (.int .i64), (.int .i64)]), (.int .i64), (.int .i64)] ((mId, mN, mSet, mAcc, mFail, mStage, mFirst), sender, which))) = (t74 A mId mN mSet mAcc mFail mStage mFirst sender which).tr cfg74 := by kernel_rfl
theorem s74_ok (A : Alg) : ∀ y, ∃ n, run A (E74 A) n (advance (E74 A).sps (cfg74 y)) = (s74 A y).tr cfg74
  | .c0 p a3 => ⟨57, by kernel_rfl⟩
def w74 : Walk Try.prog 74 [(.struct [(.int .i64), (.int .i64), (.int .i64), (.int .i64), (.int .i64), (.int .i64), (.int .i64)]), (.int .i64), (.int .i64)] [(.int .i64), .bool] Y74 := ⟨fun ((mId, mN, mSet, mAcc, mFail, mStage, mFirst), sender, which) => t74 std mId mN mSet mAcc mFail mStage mFirst sender which, s74 std⟩
theorem w74_ok : w74.Ok :=
  walk_ok (E := E74 std) ⟨tys_fit, fns_cons Try.func30 (by kernel_rfl) (fns_cons Try.func74 (by kernel_rfl) (fns_cons Try.func76 (by kernel_rfl) (fns_nil))), sps_cons so34 (sps_cons so77 (sps_cons so78 (sps_nil))), by kernel_rfl⟩ rfl rfl rfl (by kernel_rfl) w74 cfg74 70 (fun ((mId, mN, mSet, mAcc, mFail, mStage, mFirst), sender, which) => t74_ok std mId mN mSet mAcc mFail mStage mFirst sender which) (s74_ok std)

def fn74 : ((Int × Int × Int × Int × Int × Int × Int) × Int × Int) → (Int × Bool) := fun (m, s, k) => bif fn34 m != 0 then (0, false) else bif !fn77 (m, s) then (0, false) else bif decide (0 ≤ k) && decide (k < (fn78 (m, s)).2) then ((fn78 (m, s)).1.getD k.toNat 0, true) else (0, false)
def sp74 : FSpec := ⟨[(.struct [(.int .i64), (.int .i64), (.int .i64), (.int .i64), (.int .i64), (.int .i64), (.int .i64)]), (.int .i64), (.int .i64)], [(.int .i64), .bool], (@tt ((Int × Int × Int × Int × Int × Int × Int) × Int × Int)), fn74⟩
theorem run74 {mId : Int} {mN : Int} {mSet : Int} {mAcc : Int} {mFail : Int} {mStage : Int} {mFirst : Int} {sender : Int} {which : Int} (h : Ty.hass [(.struct [(.int .i64), (.int .i64), (.int .i64), (.int .i64), (.int .i64), (.int .i64), (.int .i64)]), (.int .i64), (.int .i64)] ((mId, mN, mSet, mAcc, mFail, mStage, mFirst), sender, which)) : Runs (s74 std) (t74 std mId mN mSet mAcc mFail mStage mFirst sender which) (fn74 ((mId, mN, mSet, mAcc, mFail, mStage, mFirst), sender, which)) := by
  unfold t74 fn74
  refine .need rfl (.br ?_)
  simp only [std_call, std_cmp_neq, std_not]
  cases h1 : fn34 (mId, mN, mSet, mAcc, mFail, mStage, mFirst) != 0
  · simp only [cond_false]
    rw [bne_eq_false_iff_eq] at h1
    have hm := fn34_zero.1 h1
    unfold okM at hm
    refine .need rfl (.br ?_)
    cases h2 : fn77 ((mId, mN, mSet, mAcc, mFail, mStage, mFirst), sender)
    · exact .ret _
    · simp only [Bool.not_true, cond_false]
      have h3 := (fn77_iff (by omega) (by omega)).1 h2
      have hq := fn78_len (x := ((mId, mN, mSet, mAcc, mFail, mStage, mFirst), sender))
      refine .need (by simp [pre78]; omega) ?_
      generalize fn78 ((mId, mN, mSet, mAcc, mFail, mStage, mFirst), sender) = q at *
      obtain ⟨l, n⟩ := q
      simp only at hq
      refine .need (by simp only [std_and, std_cmp_leq, Bool.and_eq_true, decide_eq_true_eq]; omega) ?_
      have hn : n = 0 ∨ n = 1 ∨ n = 2 := by omega
      have hk : which = 0 ∨ which = 1 ∨ (which ≠ 0 ∧ which ≠ 1) := by omega
      have e0 : IntKind.i64.wrap 0 = 0 := by decide
      have e1 : IntKind.i64.wrap 1 = 1 := by decide
      have e2 : IntKind.i64.wrap 2 = 2 := by decide
      rcases hn with rfl | rfl | rfl <;> rcases hk with rfl | rfl | ⟨k0, k1⟩
      all_goals first
        | (simp [runs_more, s74, runs_br, runs_need, runs_ret, std_cmp_lss, std_cmp_leq, std_cmp_eql, std_and, std_add, std_sub, std_nth, e0, e1, e2, Ty.dflt]; done)
        | (simp [runs_more, s74, runs_br, runs_need, runs_ret, std_cmp_lss, std_cmp_leq, std_cmp_eql, std_and, std_add, std_sub, e0, e1, e2]; rfl)
        | (have b0 : (0 == which) = false := by simp <;> omega
           have b1 : (1 == which) = false := by simp <;> omega
           have c0 : (decide (0 ≤ which) && decide (which < 0)) = false := by simp <;> omega
           have c1 : (decide (0 ≤ which) && decide (which < 1)) = false := by simp <;> omega
           have c2 : (decide (0 ≤ which) && decide (which < 2)) = false := by simp <;> omega
           simp only [c0, c1, c2]
           simp [runs_more, s74, runs_br, runs_need, runs_ret, std_cmp_lss, std_cmp_leq, std_cmp_eql, std_and, std_add, std_sub, std_nth, e0, e1, e2, b0, b1])
  · exact .ret _
theorem so74 : FSpec.Sound Try.prog 74 sp74 :=
  w74_ok.sound _ _ fun ((mId, mN, mSet, mAcc, mFail, mStage, mFirst), sender, which) _ h => run74 h
theorem fn73_zero {a b c d e f g s : Int} : fn73 ((a, b, c, d, e, f, g), s) = 0 ↔ okM a b c d e f g ∧ 0 ≤ s ∧ s < b ∧ s ≠ a := by
  simp only [fn73, t73, LT.val, cond_eq_of, std_cmp_eql, std_cmp_neq, std_cmp_lss, std_cmp_leq, std_cmp_gtr, std_cmp_geq, std_and, std_not, std_beq, std_call, std_add, std_sub, std_conv, std_len, tt_eq, Bool.and_eq_true, Bool.or_eq_true, Bool.and_eq_false_iff, Bool.or_eq_false_iff, Bool.not_eq_true', Bool.not_eq_false', decide_eq_true_eq, decide_eq_false_iff_not, bne_iff_ne, beq_iff_eq, bne_eq_false_iff_eq, beq_eq_false_iff_ne]
  constructor
  · intro h
    rcases h with ⟨h1, h2⟩ | ⟨h1, h2⟩
    · exact absurd h2 h1
    · have hm := fn34_zero.1 h1
      have hm' := hm
      unfold okM at hm'
      rcases h2 with ⟨h2, h3⟩ | ⟨h2, _⟩
      · cases h3
      · exact ⟨hm, (fn77_iff (by omega) (by omega)).1 h2⟩
  · rintro ⟨hm, hs⟩
    have hm' := hm
    unfold okM at hm'
    exact .inr ⟨fn34_zero.2 hm, .inr ⟨(fn77_iff (by omega) (by omega)).2 hs, trivial⟩⟩

/-! ### metronome/member.Good (function 25) -/
def t25 (A : Alg) (mId : Int) (mN : Int) (mSet : Int) (mAcc : Int) (mFail : Int) (mStage : Int) (mFirst : Int) (sender : Int) (which : Int) : LT ((Int × Int × Int × Int × Int × Int × Int) × Int) Empty :=
  .need (A.call (@tt ((Int × Int × Int × Int × Int × Int × Int) × Int)) ((mId, mN, mSet, mAcc, mFail, mStage, mFirst), sender)) (
  .br (A.cmp .neq (A.call fn73 ((mId, mN, mSet, mAcc, mFail, mStage, mFirst), sender)) 0)
  (.ret ((0, 0, 0, 0, 0, 0, 0), (A.call fn73 ((mId, mN, mSet, mAcc, mFail, mStage, mFirst), sender))))
  (.need (A.call (@tt ((Int × Int × Int × Int × Int × Int × Int) × Int × Int)) ((mId, mN, mSet, mAcc, mFail, mStage, mFirst), sender, which)) (
  .br (A.not (A.call fn74 ((mId, mN, mSet, mAcc, mFail, mStage, mFirst), sender, which)).2)
  (.ret ((0, 0, 0, 0, 0, 0, 0), 2))
  (.br (A.cmp .eql mStage 1)
  (.br (A.cmp .eql which 1)
  (.need (A.cmp .leq 0 sender) (
  .ret ((mId, mN, (A.bin .or .i64 mSet (A.bin .shl .i64 1 sender)), mAcc, mFail, 2, sender), 0)))
  (.br (A.cmp .eql mStage 2)
  (.br (A.cmp .neq sender mFirst)
  (.ret ((mId, mN, (A.call fn74 ((mId, mN, mSet, mAcc, mFail, mStage, mFirst), sender, which)).1, (A.mn (A.bin .add .i64 mAcc 1) 1048576), (A.mn (A.bin .add .i64 mFail 1) 1048576), 0, 0), 0))
  (.ret ((mId, mN, (A.call fn74 ((mId, mN, mSet, mAcc, mFail, mStage, mFirst), sender, which)).1, (A.mn (A.bin .add .i64 mAcc 1) 1048576), mFail, 0, 0), 0)))
  (.ret ((mId, mN, (A.call fn74 ((mId, mN, mSet, mAcc, mFail, mStage, mFirst), sender, which)).1, (A.mn (A.bin .add .i64 mAcc 1) 1048576), mFail, 0, 0), 0))))
  (.br (A.cmp .eql mStage 2)
  (.br (A.cmp .neq sender mFirst)
  (.ret ((mId, mN, (A.call fn74 ((mId, mN, mSet, mAcc, mFail, mStage, mFirst), sender, which)).1, (A.mn (A.bin .add .i64 mAcc 1) 1048576), (A.mn (A.bin .add .i64 mFail 1) 1048576), 0, 0), 0))
  (.ret ((mId, mN, (A.call fn74 ((mId, mN, mSet, mAcc, mFail, mStage, mFirst), sender, which)).1, (A.mn (A.bin .add .i64 mAcc 1) 1048576), mFail, 0, 0), 0)))
  (.ret ((mId, mN, (A.call fn74 ((mId, mN, mSet, mAcc, mFail, mStage, mFirst), sender, which)).1, (A.mn (A.bin .add .i64 mAcc 1) 1048576), mFail, 0, 0), 0)))))))
noncomputable def E25 (A : Alg) : Info (Ty.Ts [(.struct [(.int .i64), (.int .i64), (.int .i64), (.int .i64), (.int .i64), (.int .i64), (.int .i64)]), (.int .i64)]) := { ti := tys, fns := [(25, Try.f25)], sps := [(73, sp73), (74, sp74)], stops := [], cuts := [], consts := [], fin := finD A [(.struct [(.int .i64), (.int .i64), (.int .i64), (.int .i64), (.int .i64), (.int .i64), (.int .i64)]), (.int .i64)] }
theorem t25_ok (A : Alg) (mId : Int) (mN : Int) (mSet : Int) (mAcc : Int) (mFail : Int) (mStage : Int) (mFirst : Int) (sender : Int) (which : Int) : run A (E25 A) 107 (startC 25 Try.f25 (dvals A [(.struct [(.int .i64), (.int .i64), (.int .i64), (.int .i64), (.int .i64), (.int .i64), (.int .i64)]), (.int .i64), (.int .i64)] ((mId, mN, mSet, mAcc, mFail, mStage, mFirst), sender, which))) = (t25 A mId mN mSet mAcc mFail mStage mFirst sender which).tr Empty.elim := by kernel_rfl
def w25 : Walk Try.prog 25 [(.struct [(.int .i64), (.int .i64), (.int .i64), (.int .i64), (.int .i64), (.int .i64), (.int .i64)]), (.int .i64), (.int .i64)] [(.struct [(.int .i64), (.int .i64), (.int .i64), (.int .i64), (.int .i64), (.int .i64), (.int .i64)]), (.int .i64)] Empty := ⟨fun ((mId, mN, mSet, mAcc, mFail, mStage, mFirst), sender, which) => t25 std mId mN mSet mAcc mFail mStage mFirst sender which, Empty.elim⟩
theorem w25_ok : w25.Ok :=
  walk_ok (E := E25 std) ⟨tys_fit, fns_cons Try.func25 (by kernel_rfl) (fns_nil), sps_cons so73 (sps_cons so74 (sps_nil)), by kernel_rfl⟩ rfl rfl rfl (by kernel_rfl) w25 Empty.elim 107 (fun ((mId, mN, mSet, mAcc, mFail, mStage, mFirst), sender, which) => t25_ok std mId mN mSet mAcc mFail mStage mFirst sender which) (fun y => y.elim)

def fn25 : ((Int × Int × Int × Int × Int × Int × Int) × Int × Int) → ((Int × Int × Int × Int × Int × Int × Int) × Int) := fun ((mId, mN, mSet, mAcc, mFail, mStage, mFirst), sender, which) => (t25 std mId mN mSet mAcc mFail mStage mFirst sender which).val (Ty.dflts [(.struct [(.int .i64), (.int .i64), (.int .i64), (.int .i64), (.int .i64), (.int .i64), (.int .i64)]), (.int .i64)])
def sp25 : FSpec := ⟨[(.struct [(.int .i64), (.int .i64), (.int .i64), (.int .i64), (.int .i64), (.int .i64), (.int .i64)]), (.int .i64), (.int .i64)], [(.struct [(.int .i64), (.int .i64), (.int .i64), (.int .i64), (.int .i64), (.int .i64), (.int .i64)]), (.int .i64)], (@tt ((Int × Int × Int × Int × Int × Int × Int) × Int × Int)), fn25⟩
theorem eqs25 (mId : Int) (mN : Int) (mSet : Int) (mAcc : Int) (mFail : Int) (mStage : Int) (mFirst : Int) (sender : Int) (which : Int) : (t25 std mId mN mSet mAcc mFail mStage mFirst sender which).Eqs := by simp only [t25, LT.Eqs, and_self, true_and, and_true]
theorem pre25_ok {mId : Int} {mN : Int} {mSet : Int} {mAcc : Int} {mFail : Int} {mStage : Int} {mFirst : Int} {sender : Int} {which : Int} (h : Ty.hass [(.struct [(.int .i64), (.int .i64), (.int .i64), (.int .i64), (.int .i64), (.int .i64), (.int .i64)]), (.int .i64), (.int .i64)] ((mId, mN, mSet, mAcc, mFail, mStage, mFirst), sender, which)) : (t25 std mId mN mSet mAcc mFail mStage mFirst sender which).pre = true := by
  simp only [t25, LT.pre, cond_iff, std_cmp_eql, std_cmp_neq, std_cmp_lss, std_cmp_leq, std_cmp_gtr, std_cmp_geq, std_and, std_not, std_beq, std_call, std_add, std_sub, std_conv, std_len, tt_eq, Bool.and_eq_true, Bool.or_eq_true, Bool.and_eq_false_iff, Bool.or_eq_false_iff, Bool.not_eq_true', Bool.not_eq_false', decide_eq_true_eq, decide_eq_false_iff_not, bne_iff_ne, beq_iff_eq, bne_eq_false_iff_eq, beq_eq_false_iff_ne]
  simp only [Ty.hass, Ty.has, has64] at h
  (repeat' (first | intro _ | constructor)) <;> (try (have hm := (fn73_zero.1 (by assumption)); unfold okM at hm; omega))
theorem so25 : FSpec.Sound Try.prog 25 sp25 :=
  w25_ok.sound _ _ fun ((mId, mN, mSet, mAcc, mFail, mStage, mFirst), sender, which) _ h => LT.runs (d := Ty.dflts [(.struct [(.int .i64), (.int .i64), (.int .i64), (.int .i64), (.int .i64), (.int .i64), (.int .i64)]), (.int .i64)]) (eqs25 mId mN mSet mAcc mFail mStage mFirst sender which) (pre25_ok h)
/-! ### metronome/member.Null (function 38) -/
def t38 (A : Alg) (mId : Int) (mN : Int) (mSet : Int) (mAcc : Int) (mFail : Int) (mStage : Int) (mFirst : Int) (sender : Int) : LT ((Int × Int × Int × Int × Int × Int × Int) × Int) Empty :=
  .need (A.call (@tt ((Int × Int × Int × Int × Int × Int × Int) × Int)) ((mId, mN, mSet, mAcc, mFail, mStage, mFirst), sender)) (
  .br (A.cmp .neq (A.call fn73 ((mId, mN, mSet, mAcc, mFail, mStage, mFirst), sender)) 0)
  (.ret ((0, 0, 0, 0, 0, 0, 0), (A.call fn73 ((mId, mN, mSet, mAcc, mFail, mStage, mFirst), sender))))
  (.need (A.cmp .leq 0 sender) (
  .br (A.cmp .eql mStage 2)
  (.br (A.cmp .eql mFirst sender)
  (.ret ((mId, mN, (A.bin .andNot .i64 mSet (A.bin .shl .i64 1 sender)), mAcc, mFail, 1, 0), 0))
  (.ret ((mId, mN, (A.bin .andNot .i64 mSet (A.bin .shl .i64 1 sender)), mAcc, mFail, mStage, mFirst), 0)))
  (.ret ((mId, mN, (A.bin .andNot .i64 mSet (A.bin .shl .i64 1 sender)), mAcc, mFail, mStage, mFirst), 0)))))
noncomputable def E38 (A : Alg) : Info (Ty.Ts [(.struct [(.int .i64), (.int .i64), (.int .i64), (.int .i64), (.int .i64), (.int .i64), (.int .i64)]), (.int .i64)]) := { ti := tys, fns := [(38, Try.f38)], sps := [(73, sp73)], stops := [], cuts := [], consts := [], fin := finD A [(.struct [(.int .i64), (.int .i64), (.int .i64), (.int .i64), (.int .i64), (.int .i64), (.int .i64)]), (.int .i64)] }
theorem t38_ok (A : Alg) (mId : Int) (mN : Int) (mSet : Int) (mAcc : Int) (mFail : Int) (mStage : Int) (mFirst : Int) (sender : Int) : run A (E38 A) 63 (startC 38 Try.f38 (dvals A [(.struct [(.int .i64), (.int .i64), (.int .i64), (.int .i64), (.int .i64), (.int .i64), (.int .i64)]), (.int .i64)] ((mId, mN, mSet, mAcc, mFail, mStage, mFirst), sender))) = (t38 A mId mN mSet mAcc mFail mStage mFirst sender).tr Empty.elim := by kernel_rfl
def w38 : Walk Try.prog 38 [(.struct [(.int .i64), (.int .i64), (.int .i64), (.int .i64), (.int .i64), (.int .i64), (.int .i64)]), (.int .i64)] [(.struct [(.int .i64), (.int .i64), (.int .i64), (.int .i64), (.int .i64), (.int .i64), (.int .i64)]), (.int .i64)] Empty := ⟨fun ((mId, mN, mSet, mAcc, mFail, mStage, mFirst), sender) => t38 std mId mN mSet mAcc mFail mStage mFirst sender, Empty.elim⟩
theorem w38_ok : w38.Ok :=
  walk_ok (E := E38 std) ⟨tys_fit, fns_cons Try.func38 (by kernel_rfl) (fns_nil), sps_cons so73 (sps_nil), by kernel_rfl⟩ rfl rfl rfl (by kernel_rfl) w38 Empty.elim 63 (fun ((mId, mN, mSet, mAcc, mFail, mStage, mFirst), sender) => t38_ok std mId mN mSet mAcc mFail mStage mFirst sender) (fun y => y.elim)

def fn38 : ((Int × Int × Int × Int × Int × Int × Int) × Int) → ((Int × Int × Int × Int × Int × Int × Int) × Int) := fun ((mId, mN, mSet, mAcc, mFail, mStage, mFirst), sender) => (t38 std mId mN mSet mAcc mFail mStage mFirst sender).val (Ty.dflts [(.struct [(.int .i64), (.int .i64), (.int .i64), (.int .i64), (.int .i64), (.int .i64), (.int .i64)]), (.int .i64)])
def sp38 : FSpec := ⟨[(.struct [(.int .i64), (.int .i64), (.int .i64), (.int .i64), (.int .i64), (.int .i64), (.int .i64)]), (.int .i64)], [(.struct [(.int .i64), (.int .i64), (.int .i64), (.int .i64), (.int .i64), (.int .i64), (.int .i64)]), (.int .i64)], (@tt ((Int × Int × Int × Int × Int × Int × Int) × Int)), fn38⟩
theorem eqs38 (mId : Int) (mN : Int) (mSet : Int) (mAcc : Int) (mFail : Int) (mStage : Int) (mFirst : Int) (sender : Int) : (t38 std mId mN mSet mAcc mFail mStage mFirst sender).Eqs := by simp only [t38, LT.Eqs, and_self, true_and, and_true]
theorem pre38_ok {mId : Int} {mN : Int} {mSet : Int} {mAcc : Int} {mFail : Int} {mStage : Int} {mFirst : Int} {sender : Int} (h : Ty.hass [(.struct [(.int .i64), (.int .i64), (.int .i64), (.int .i64), (.int .i64), (.int .i64), (.int .i64)]), (.int .i64)] ((mId, mN, mSet, mAcc, mFail, mStage, mFirst), sender)) : (t38 std mId mN mSet mAcc mFail mStage mFirst sender).pre = true := by
  simp only [t38, LT.pre, cond_iff, std_cmp_eql, std_cmp_neq, std_cmp_lss, std_cmp_leq, std_cmp_gtr, std_cmp_geq, std_and, std_not, std_beq, std_call, std_add, std_sub, std_conv, std_len, tt_eq, Bool.and_eq_true, Bool.or_eq_true, Bool.and_eq_false_iff, Bool.or_eq_false_iff, Bool.not_eq_true', Bool.not_eq_false', decide_eq_true_eq, decide_eq_false_iff_not, bne_iff_ne, beq_iff_eq, bne_eq_false_iff_eq, beq_eq_false_iff_ne]
  simp only [Ty.hass, Ty.has, has64] at h
  (repeat' (first | intro _ | constructor)) <;> (try (have hm := (fn73_zero.1 (by assumption)); unfold okM at hm; omega))
theorem so38 : FSpec.Sound Try.prog 38 sp38 :=
  w38_ok.sound _ _ fun ((mId, mN, mSet, mAcc, mFail, mStage, mFirst), sender) _ h => LT.runs (d := Ty.dflts [(.struct [(.int .i64), (.int .i64), (.int .i64), (.int .i64), (.int .i64), (.int .i64), (.int .i64)]), (.int .i64)]) (eqs38 mId mN mSet mAcc mFail mStage mFirst sender) (pre38_ok h)
/-! ### metronome/member.Bad (function 39) -/
def t39 (A : Alg) (mId : Int) (mN : Int) (mSet : Int) (mAcc : Int) (mFail : Int) (mStage : Int) (mFirst : Int) (sender : Int) : LT ((Int × Int × Int × Int × Int × Int × Int) × Int) Empty :=
  .need (A.call (@tt ((Int × Int × Int × Int × Int × Int × Int) × Int)) ((mId, mN, mSet, mAcc, mFail, mStage, mFirst), sender)) (
  .br (A.cmp .eql (A.call fn38 ((mId, mN, mSet, mAcc, mFail, mStage, mFirst), sender)).2 0)
  (.ret (((A.call fn38 ((mId, mN, mSet, mAcc, mFail, mStage, mFirst), sender)).1.1, (A.call fn38 ((mId, mN, mSet, mAcc, mFail, mStage, mFirst), sender)).1.2.1, (A.call fn38 ((mId, mN, mSet, mAcc, mFail, mStage, mFirst), sender)).1.2.2.1, (A.call fn38 ((mId, mN, mSet, mAcc, mFail, mStage, mFirst), sender)).1.2.2.2.1, (A.mn (A.bin .add .i64 (A.call fn38 ((mId, mN, mSet, mAcc, mFail, mStage, mFirst), sender)).1.2.2.2.2.1 1) 1048576), (A.call fn38 ((mId, mN, mSet, mAcc, mFail, mStage, mFirst), sender)).1.2.2.2.2.2), (A.call fn38 ((mId, mN, mSet, mAcc, mFail, mStage, mFirst), sender)).2))
  (.ret (A.call fn38 ((mId, mN, mSet, mAcc, mFail, mStage, mFirst), sender))))
noncomputable def E39 (A : Alg) : Info (Ty.Ts [(.struct [(.int .i64), (.int .i64), (.int .i64), (.int .i64), (.int .i64), (.int .i64), (.int .i64)]), (.int .i64)]) := { ti := tys, fns := [(39, Try.f39)], sps := [(38, sp38)], stops := [], cuts := [], consts := [], fin := finD A [(.struct [(.int .i64), (.int .i64), (.int .i64), (.int .i64), (.int .i64), (.int .i64), (.int .i64)]), (.int .i64)] }
theorem t39_ok (A : Alg) (mId : Int) (mN : Int) (mSet : Int) (mAcc : Int) (mFail : Int) (mStage : Int) (mFirst : Int) (sender : Int) : run A (E39 A) 45 (startC 39 Try.f39 (dvals A [(.struct [(.int .i64), (.int .i64), (.int .i64), (.int .i64), (.int .i64), (.int .i64), (.int .i64)]), (.int .i64)] ((mId, mN, mSet, mAcc, mFail, mStage, mFirst), sender))) = (t39 A mId mN mSet mAcc mFail mStage mFirst sender).tr Empty.elim := by kernel_rfl
def w39 : Walk Try.prog 39 [(.struct [(.int .i64), (.int .i64), (.int .i64), (.int .i64), (.int .i64), (.int .i64), (.int .i64)]), (.int .i64)] [(.struct [(.int .i64), (.int .i64), (.int .i64), (.int .i64), (.int .i64), (.int .i64), (.int .i64)]), (.int .i64)] Empty := ⟨fun ((mId, mN, mSet, mAcc, mFail, mStage, mFirst), sender) => t39 std mId mN mSet mAcc mFail mStage mFirst sender, Empty.elim⟩
theorem w39_ok : w39.Ok :=
  walk_ok (E := E39 std) ⟨tys_fit, fns_cons Try.func39 (by kernel_rfl) (fns_nil), sps_cons so38 (sps_nil), by kernel_rfl⟩ rfl rfl rfl (by kernel_rfl) w39 Empty.elim 45 (fun ((mId, mN, mSet, mAcc, mFail, mStage, mFirst), sender) => t39_ok std mId mN mSet mAcc mFail mStage mFirst sender) (fun y => y.elim)

def fn39 : ((Int × Int × Int × Int × Int × Int × Int) × Int) → ((Int × Int × Int × Int × Int × Int × Int) × Int) := fun ((mId, mN, mSet, mAcc, mFail, mStage, mFirst), sender) => (t39 std mId mN mSet mAcc mFail mStage mFirst sender).val (Ty.dflts [(.struct [(.int .i64), (.int .i64), (.int .i64), (.int .i64), (.int .i64), (.int .i64), (.int .i64)]), (.int .i64)])
def sp39 : FSpec := ⟨[(.struct [(.int .i64), (.int .i64), (.int .i64), (.int .i64), (.int .i64), (.int .i64), (.int .i64)]), (.int .i64)], [(.struct [(.int .i64), (.int .i64), (.int .i64), (.int .i64), (.int .i64), (.int .i64), (.int .i64)]), (.int .i64)], (@tt ((Int × Int × Int × Int × Int × Int × Int) × Int)), fn39⟩
theorem eqs39 (mId : Int) (mN : Int) (mSet : Int) (mAcc : Int) (mFail : Int) (mStage : Int) (mFirst : Int) (sender : Int) : (t39 std mId mN mSet mAcc mFail mStage mFirst sender).Eqs := by simp only [t39, LT.Eqs, and_self, true_and, and_true]
theorem pre39_ok {mId : Int} {mN : Int} {mSet : Int} {mAcc : Int} {mFail : Int} {mStage : Int} {mFirst : Int} {sender : Int} (h : Ty.hass [(.struct [(.int .i64), (.int .i64), (.int .i64), (.int .i64), (.int .i64), (.int .i64), (.int .i64)]), (.int .i64)] ((mId, mN, mSet, mAcc, mFail, mStage, mFirst), sender)) : (t39 std mId mN mSet mAcc mFail mStage mFirst sender).pre = true := by
  simp only [t39, LT.pre, cond_iff, std_cmp_eql, std_cmp_neq, std_cmp_lss, std_cmp_leq, std_cmp_gtr, std_cmp_geq, std_and, std_not, std_beq, std_call, std_add, std_sub, std_conv, std_len, tt_eq, Bool.and_eq_true, Bool.or_eq_true, Bool.and_eq_false_iff, Bool.or_eq_false_iff, Bool.not_eq_true', Bool.not_eq_false', decide_eq_true_eq, decide_eq_false_iff_not, bne_iff_ne, beq_iff_eq, bne_eq_false_iff_eq, beq_eq_false_iff_ne]
  simp only [Ty.hass, Ty.has, has64, has8] at h
  (repeat' (first | intro _ | constructor)) <;> (try omega)
theorem so39 : FSpec.Sound Try.prog 39 sp39 :=
  w39_ok.sound _ _ fun ((mId, mN, mSet, mAcc, mFail, mStage, mFirst), sender) _ h => LT.runs (d := Ty.dflts [(.struct [(.int .i64), (.int .i64), (.int .i64), (.int .i64), (.int .i64), (.int .i64), (.int .i64)]), (.int .i64)]) (eqs39 mId mN mSet mAcc mFail mStage mFirst sender) (pre39_ok h)
/-! ## A right frame, on a view that may be -/
def inc (d : Int) : Int := if d < 1048576 then d + 1 else 1048576
theorem mn_inc {d : Int} (h0 : 0 ≤ d) (h1 : d ≤ 1048576) : std.mn (std.bin .add .i64 d 1) 1048576 = inc d := by
  rw [std_mn, std_add, w64 (by omega) (by omega), inc]
  split <;> split <;> omega
section
variable {a b c d e f g s : Int}
theorem fn78_0 : fn78 ((a, b, c, d, e, 0, g), s) = ([insB c s, 0], 1) := rfl
theorem fn78_1 : fn78 ((a, b, c, d, e, 1, g), s) = ([insB (insB c s) a, delB (insB c s) a], 2) := rfl
theorem fn78_2a : fn78 ((a, b, c, d, e, 2, g), g) = ([insB (insB c g) a, 0], 1) := by
  simp [fn78, t78, LT.val, std_cmp_eql, insB]
theorem fn78_2b (h : s ≠ g) : fn78 ((a, b, c, d, e, 2, g), s) = ([delB (insB (insB c s) a) g, delB (insB (insB c s) g) a], 2) := by
  have hb : (s == g) = false := by simpa using h
  simp [fn78, t78, LT.val, std_cmp_eql, insB, delB, hb]
theorem fn74_ok (h : okM a b c d e f g) (h0 : 0 ≤ s) (h1 : s < b) (h2 : s ≠ a) (k : Int) : fn74 ((a, b, c, d, e, f, g), s, k) =
    bif decide (0 ≤ k) && decide (k < (fn78 ((a, b, c, d, e, f, g), s)).2) then ((fn78 ((a, b, c, d, e, f, g), s)).1.getD k.toNat 0, true) else (0, false) := by
  have hm := h
  unfold okM at hm
  simp only [fn74, fn34_zero.2 h, (fn77_iff (by omega) (by omega)).2 ⟨h0, h1, h2⟩, bne_self_eq_false, Bool.not_true, cond_false]
theorem good_0 (h : okM a b c d e 0 g) (h0 : 0 ≤ s) (h1 : s < b) (h2 : s ≠ a) : fn25 ((a, b, c, d, e, 0, g), s, 0) = ((a, b, insB c s, inc d, e, 0, 0), 0) := by
  have hm := h
  unfold okM at hm
  simp [fn25, t25, LT.val, std_call, std_cmp_neq, std_cmp_eql, std_not, fn73_zero.2 ⟨h, h0, h1, h2⟩, fn74_ok h h0 h1 h2, fn78_0, mn_inc (d := d) (by omega) (by omega)]
theorem good_1 (h : okM a b c d e 1 g) (h0 : 0 ≤ s) (h1 : s < b) (h2 : s ≠ a) : fn25 ((a, b, c, d, e, 1, g), s, 0) = ((a, b, insB (insB c s) a, inc d, e, 0, 0), 0) := by
  have hm := h
  unfold okM at hm
  simp [fn25, t25, LT.val, std_call, std_cmp_neq, std_cmp_eql, std_not, fn73_zero.2 ⟨h, h0, h1, h2⟩, fn74_ok h h0 h1 h2, fn78_1, mn_inc (d := d) (by omega) (by omega)]
theorem good_11 (h : okM a b c d e 1 g) (h0 : 0 ≤ s) (h1 : s < b) (h2 : s ≠ a) : fn25 ((a, b, c, d, e, 1, g), s, 1) = ((a, b, insB c s, d, e, 2, s), 0) := by
  simp [fn25, t25, LT.val, std_call, std_cmp_neq, std_cmp_eql, std_not, fn73_zero.2 ⟨h, h0, h1, h2⟩, fn74_ok h h0 h1 h2, fn78_1, insB]
theorem good_2a (h : okM a b c d e 2 g) (h0 : 0 ≤ g) (h1 : g < b) (h2 : g ≠ a) : fn25 ((a, b, c, d, e, 2, g), g, 0) = ((a, b, insB (insB c g) a, inc d, e, 0, 0), 0) := by
  have hm := h
  unfold okM at hm
  simp [fn25, t25, LT.val, std_call, std_cmp_neq, std_cmp_eql, std_not, fn73_zero.2 ⟨h, h0, h1, h2⟩, fn74_ok h h0 h1 h2, fn78_2a, mn_inc (d := d) (by omega) (by omega)]
theorem good_2b (h : okM a b c d e 2 g) (h0 : 0 ≤ s) (h1 : s < b) (h2 : s ≠ a) (h3 : s ≠ g) : fn25 ((a, b, c, d, e, 2, g), s, 0) = ((a, b, delB (insB (insB c s) a) g, inc d, inc e, 0, 0), 0) := by
  have hm := h
  unfold okM at hm
  simp [fn25, t25, LT.val, std_call, std_cmp_neq, std_cmp_eql, std_not, fn73_zero.2 ⟨h, h0, h1, h2⟩, fn74_ok h h0 h1 h2, fn78_2b h3, show (s != g) = true from by simpa using h3, mn_inc (d := d) (by omega) (by omega), mn_inc (d := e) (by omega) (by omega)]
theorem good_2c (h : okM a b c d e 2 g) (h0 : 0 ≤ s) (h1 : s < b) (h2 : s ≠ a) (h3 : s ≠ g) : fn25 ((a, b, c, d, e, 2, g), s, 1) = ((a, b, delB (insB (insB c s) g) a, inc d, inc e, 0, 0), 0) := by
  have hm := h
  unfold okM at hm
  simp [fn25, t25, LT.val, std_call, std_cmp_neq, std_cmp_eql, std_not, fn73_zero.2 ⟨h, h0, h1, h2⟩, fn74_ok h h0 h1 h2, fn78_2b h3, show (s != g) = true from by simpa using h3, mn_inc (d := d) (by omega) (by omega), mn_inc (d := e) (by omega) (by omega)]
/-- A view in its own slot that sends. -/
theorem null_1 (h : okM a b c d e f g) (h0 : 0 ≤ s) (h1 : s < b) (h2 : s ≠ a) (h3 : f ≠ 2) : fn38 ((a, b, c, d, e, f, g), s) = ((a, b, delB c s, d, e, f, g), 0) := by
  have hb : (f == 2) = false := by simpa using h3
  simp [fn38, t38, LT.val, std_call, std_cmp_neq, std_cmp_eql, fn73_zero.2 ⟨h, h0, h1, h2⟩, delB, hb]
theorem null_2 (h : okM a b c d e 2 g) (h0 : 0 ≤ s) (h1 : s < b) (h2 : s ≠ a) (h3 : g ≠ s) : fn38 ((a, b, c, d, e, 2, g), s) = ((a, b, delB c s, d, e, 2, g), 0) := by
  have hb : (g == s) = false := by simpa using h3
  simp [fn38, t38, LT.val, std_call, std_cmp_neq, std_cmp_eql, fn73_zero.2 ⟨h, h0, h1, h2⟩, delB, hb]
theorem null_3 (h : okM a b c d e 2 g) (h2 : g ≠ a) : fn38 ((a, b, c, d, e, 2, g), g) = ((a, b, delB c g, d, e, 1, 0), 0) := by
  have hm := h
  unfold okM at hm
  simp [fn38, t38, LT.val, std_call, std_cmp_neq, std_cmp_eql, fn73_zero.2 ⟨h, hm.2.2.2.2.1, hm.2.2.2.2.2.1, h2⟩, delB]
theorem bad_of {m m' : Int × Int × Int × Int × Int × Int × Int} (h : fn38 (m, s) = (m', 0)) (h0 : 0 ≤ m'.2.2.2.2.1) (h1 : m'.2.2.2.2.1 ≤ 1048576) : fn39 (m, s) = ((m'.1, m'.2.1, m'.2.2.1, m'.2.2.2.1, inc m'.2.2.2.2.1, m'.2.2.2.2.2), 0) := by
  obtain ⟨a, b, c, d, e, f, g⟩ := m
  simp [fn39, t39, LT.val, std_call, std_cmp_eql, h, mn_inc h0 h1]
theorem new_ok (hb : 4 ≤ b ∧ b ≤ 8) (ha : 0 ≤ a ∧ a < b) (hc : 0 ≤ c ∧ c < ((2 ^ b.toNat : Nat) : Int)) : fn21 (a, b, c) = ((a, b, c, 0, 0, 0, 0), 0) := by
  have hok : okM a b c 0 0 0 0 := by
    unfold okM
    refine ⟨hb.1, hb.2, ha.1, ha.2, by omega, by omega, hc.1, by omega, by omega, by omega, by omega, by omega, by omega, by omega, fun h => absurd rfl h, fun h => by omega⟩
  simp [fn21, t21, LT.val, std_call, fn34_zero.2 hok, std_cmp_neq]
end

/-! ### metronome/metronomeref09.Views (function 33) -/
def t33 (A : Alg) (mId : Int) (mN : Int) (mSet : Int) (mAcc : Int) (mFail : Int) (mStage : Int) (mFirst : Int) (sender : Int) : LT (List Int) Empty :=
  .need (A.call (@tt ((Int × Int × Int × Int × Int × Int × Int))) (mId, mN, mSet, mAcc, mFail, mStage, mFirst)) (
  .br (A.cmp .neq (A.call fn35 (mId, mN, mSet, mAcc, mFail, mStage, mFirst)) 0)
  (.ret ([] : List Int))
  (.br (A.cmp .geq sender 0)
  (.br (A.cmp .lss sender mN)
  (.br (A.not (A.cmp .neq sender mId))
  (.ret ([] : List Int))
  (.need (A.call (@tt Int) sender) (
  .need (A.call (@tt Int) mId) (
  .br (A.cmp .eql mStage 1)
  (.ret [(A.bin .or .i64 (A.bin .or .i64 mSet (A.call fn80 sender)) (A.call fn80 mId)), (A.bin .andNot .i64 (A.bin .or .i64 mSet (A.call fn80 sender)) (A.call fn80 mId))])
  (.br (A.cmp .eql mStage 2)
  (.br (A.cmp .eql sender mFirst)
  (.ret [(A.bin .or .i64 (A.bin .or .i64 mSet (A.call fn80 sender)) (A.call fn80 mId))])
  (.br (A.cmp .eql mStage 2)
  (.need (A.call (@tt Int) mFirst) (
  .need (A.call (@tt Int) mFirst) (
  .ret [(A.bin .andNot .i64 (A.bin .or .i64 (A.bin .or .i64 mSet (A.call fn80 sender)) (A.call fn80 mId)) (A.call fn80 mFirst)), (A.bin .andNot .i64 (A.bin .or .i64 (A.bin .or .i64 mSet (A.call fn80 sender)) (A.call fn80 mFirst)) (A.call fn80 mId))])))
  (.ret [(A.bin .or .i64 mSet (A.call fn80 sender))])))
  (.br (A.cmp .eql mStage 2)
  (.need (A.call (@tt Int) mFirst) (
  .need (A.call (@tt Int) mFirst) (
  .ret [(A.bin .andNot .i64 (A.bin .or .i64 (A.bin .or .i64 mSet (A.call fn80 sender)) (A.call fn80 mId)) (A.call fn80 mFirst)), (A.bin .andNot .i64 (A.bin .or .i64 (A.bin .or .i64 mSet (A.call fn80 sender)) (A.call fn80 mFirst)) (A.call fn80 mId))])))
  (.ret [(A.bin .or .i64 mSet (A.call fn80 sender))])))))))
  (.ret ([] : List Int)))
  (.ret ([] : List Int))))
noncomputable def E33 (A : Alg) : Info (Ty.Ts [(.slice (.int .i64))]) := { ti := tys, fns := [(33, Try.f33), (79, Try.f79)], sps := [(35, sp35), (80, sp80)], stops := [], cuts := [], consts := [], fin := finD A [(.slice (.int .i64))] }
theorem t33_ok (A : Alg) (mId : Int) (mN : Int) (mSet : Int) (mAcc : Int) (mFail : Int) (mStage : Int) (mFirst : Int) (sender : Int) : run A (E33 A) 117 (startC 33 Try.f33 (dvals A [(.struct [(.int .i64), (.int .i64), (.int .i64), (.int .i64), (.int .i64), (.int .i64), (.int .i64)]), (.int .i64)] ((mId, mN, mSet, mAcc, mFail, mStage, mFirst), sender))) = (t33 A mId mN mSet mAcc mFail mStage mFirst sender).tr Empty.elim := by kernel_rfl
def w33 : Walk Try.prog 33 [(.struct [(.int .i64), (.int .i64), (.int .i64), (.int .i64), (.int .i64), (.int .i64), (.int .i64)]), (.int .i64)] [(.slice (.int .i64))] Empty := ⟨fun ((mId, mN, mSet, mAcc, mFail, mStage, mFirst), sender) => t33 std mId mN mSet mAcc mFail mStage mFirst sender, Empty.elim⟩
theorem w33_ok : w33.Ok :=
  walk_ok (E := E33 std) ⟨tys_fit, fns_cons Try.func33 (by kernel_rfl) (fns_cons Try.func79 (by kernel_rfl) (fns_nil)), sps_cons so35 (sps_cons so80 (sps_nil)), by kernel_rfl⟩ rfl rfl rfl (by kernel_rfl) w33 Empty.elim 117 (fun ((mId, mN, mSet, mAcc, mFail, mStage, mFirst), sender) => t33_ok std mId mN mSet mAcc mFail mStage mFirst sender) (fun y => y.elim)

def fn33 : ((Int × Int × Int × Int × Int × Int × Int) × Int) → (List Int) := fun ((mId, mN, mSet, mAcc, mFail, mStage, mFirst), sender) => (t33 std mId mN mSet mAcc mFail mStage mFirst sender).val (Ty.dflts [(.slice (.int .i64))])
def sp33 : FSpec := ⟨[(.struct [(.int .i64), (.int .i64), (.int .i64), (.int .i64), (.int .i64), (.int .i64), (.int .i64)]), (.int .i64)], [(.slice (.int .i64))], (@tt ((Int × Int × Int × Int × Int × Int × Int) × Int)), fn33⟩
theorem eqs33 (mId : Int) (mN : Int) (mSet : Int) (mAcc : Int) (mFail : Int) (mStage : Int) (mFirst : Int) (sender : Int) : (t33 std mId mN mSet mAcc mFail mStage mFirst sender).Eqs := by simp only [t33, LT.Eqs, and_self, true_and, and_true]
theorem pre33_ok {mId : Int} {mN : Int} {mSet : Int} {mAcc : Int} {mFail : Int} {mStage : Int} {mFirst : Int} {sender : Int} (h : Ty.hass [(.struct [(.int .i64), (.int .i64), (.int .i64), (.int .i64), (.int .i64), (.int .i64), (.int .i64)]), (.int .i64)] ((mId, mN, mSet, mAcc, mFail, mStage, mFirst), sender)) : (t33 std mId mN mSet mAcc mFail mStage mFirst sender).pre = true := by
  simp only [t33, LT.pre, cond_iff, std_cmp_eql, std_cmp_neq, std_cmp_lss, std_cmp_leq, std_cmp_gtr, std_cmp_geq, std_and, std_not, std_beq, std_call, std_add, std_sub, std_conv, std_len, tt_eq, Bool.and_eq_true, Bool.or_eq_true, Bool.and_eq_false_iff, Bool.or_eq_false_iff, Bool.not_eq_true', Bool.not_eq_false', decide_eq_true_eq, decide_eq_false_iff_not, bne_iff_ne, beq_iff_eq, bne_eq_false_iff_eq, beq_eq_false_iff_ne]
  simp only [Ty.hass, Ty.has, has64, has8] at h
  (repeat' (first | intro _ | constructor)) <;> (try omega)
theorem so33 : FSpec.Sound Try.prog 33 sp33 :=
  w33_ok.sound _ _ fun ((mId, mN, mSet, mAcc, mFail, mStage, mFirst), sender) _ h => LT.runs (d := Ty.dflts [(.slice (.int .i64))]) (eqs33 mId mN mSet mAcc mFail mStage mFirst sender) (pre33_ok h)
theorem fn33_no {m : Int × Int × Int × Int × Int × Int × Int} {s : Int} (h : fn73 (m, s) ≠ 0) : fn33 (m, s) = [] := by
  obtain ⟨a, b, c, d, e, f, g⟩ := m
  by_cases hm : fn35 (a, b, c, d, e, f, g) = 0
  · have ho : ¬ (0 ≤ s ∧ s < b ∧ s ≠ a) := fun ho => h (fn73_zero.2 ⟨fn35_zero.1 hm, ho⟩)
    simp only [fn33, t33, LT.val, std_call, hm, std_cmp_neq, std_cmp_geq, std_cmp_lss, std_not, bne_self_eq_false, cond_false]
    by_cases h0 : 0 ≤ s
    · by_cases h1 : s < b
      · obtain rfl : s = a := Decidable.byContradiction fun h2 => ho ⟨h0, h1, h2⟩
        simp [h0, h1]
      · simp [h0, h1]
    · simp [h0]
  · have e1 : (fn35 (a, b, c, d, e, f, g) != 0) = true := by simpa using hm
    simp only [fn33, t33, LT.val, std_call, std_cmp_neq, e1, cond_true]
theorem fn33_ok {a b c d e f g s : Int} (h : okM a b c d e f g) (h0 : 0 ≤ s) (h1 : s < b) (h2 : s ≠ a) : fn33 ((a, b, c, d, e, f, g), s) = (fn78 ((a, b, c, d, e, f, g), s)).1.take (fn78 ((a, b, c, d, e, f, g), s)).2.toNat := by
  have hm := h
  unfold okM at hm
  have es := fn80_shl (n := s) (by omega) (by omega)
  have ea := fn80_shl (n := a) (by omega) (by omega)
  have eg := fn80_shl (n := g) (by omega) (by omega)
  have sa : (s != a) = true := by simpa using h2
  have hf : f = 0 ∨ f = 1 ∨ f = 2 := by omega
  simp only [fn33, t33, LT.val, std_call, fn35_zero.2 h, std_cmp_neq, std_cmp_geq, std_cmp_lss, std_cmp_eql, std_not, bne_self_eq_false, cond_false, es, ea, eg, sa, h0, h1, decide_true, cond_true, Bool.not_true]
  rcases hf with rfl | rfl | rfl
  · rw [fn78_0]; rfl
  · rw [fn78_1]; rfl
  · by_cases hsg : s = g
    · subst hsg
      rw [fn78_2a]; simp [insB]
    · rw [fn78_2b hsg]
      have e : (s == g) = false := by simpa using hsg
      simp [e, insB, delB]

end Go.Ev.M
