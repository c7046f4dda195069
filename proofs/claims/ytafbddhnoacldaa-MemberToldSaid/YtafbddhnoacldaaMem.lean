/-
  PROVED: what functions of the packages member, metronomelaw09 and metronomeref09 compute. Conditions: none.
-/
import Derived.Test.YtafbddhnoacldaaTy
import Derived.Test.YtafbddhnoacldaaEvC
namespace Go.Ev.M
open Go.Proofs
set_option maxRecDepth 100000
set_option linter.unusedVariables false
set_option linter.unusedSimpArgs false

/-! ## Sets of nodes, as numbers -/
theorem shl1 {n : Int} (h0 : 0 ≤ n) (h1 : n ≤ 8) : std.bin .shl .i64 1 n = ((2 ^ n.toNat : Nat) : Int) := by
  have : n = 0 ∨ n = 1 ∨ n = 2 ∨ n = 3 ∨ n = 4 ∨ n = 5 ∨ n = 6 ∨ n = 7 ∨ n = 8 := by omega
  rcases this with rfl | rfl | rfl | rfl | rfl | rfl | rfl | rfl | rfl <;> decide
theorem pow_le {n : Nat} (h : n ≤ 8) : 2 ^ n ≤ 256 := Nat.pow_le_pow_right (by decide) h
def bitT (c a : Int) : Bool := c.toNat.testBit a.toNat
/-- A node more in a set; a node less. -/
def insB (c s : Int) : Int := std.bin .or .i64 c (std.bin .shl .i64 1 s)
def delB (c s : Int) : Int := std.bin .andNot .i64 c (std.bin .shl .i64 1 s)
theorem ins_all : ∀ c : Fin 256, ∀ a : Fin 8, std.bin .or .i64 (c.val : Int) (std.bin .shl .i64 1 (a.val : Int)) = ((c.val ||| 2 ^ a.val : Nat) : Int) := by decide +kernel
theorem del_all : ∀ c : Fin 256, ∀ a : Fin 8, std.bin .andNot .i64 (c.val : Int) (std.bin .shl .i64 1 (a.val : Int)) = ((c.val &&& (255 ^^^ 2 ^ a.val) : Nat) : Int) := by decide +kernel
theorem ins_eq {c s : Int} (h0 : 0 ≤ c) (h1 : c < 256) (h2 : 0 ≤ s) (h3 : s < 8) : insB c s = ((c.toNat ||| 2 ^ s.toNat : Nat) : Int) := by
  obtain ⟨c, rfl⟩ := Int.eq_ofNat_of_zero_le h0
  obtain ⟨s, rfl⟩ := Int.eq_ofNat_of_zero_le h2
  exact ins_all ⟨c, by omega⟩ ⟨s, by omega⟩
theorem del_eq {c s : Int} (h0 : 0 ≤ c) (h1 : c < 256) (h2 : 0 ≤ s) (h3 : s < 8) : delB c s = ((c.toNat &&& (255 ^^^ 2 ^ s.toNat) : Nat) : Int) := by
  obtain ⟨c, rfl⟩ := Int.eq_ofNat_of_zero_le h0
  obtain ⟨s, rfl⟩ := Int.eq_ofNat_of_zero_le h2
  exact del_all ⟨c, by omega⟩ ⟨s, by omega⟩
theorem ins_lt {c s n : Int} (h0 : 0 ≤ c) (hn : n ≤ 8) (h1 : c < ((2 ^ n.toNat : Nat) : Int)) (h2 : 0 ≤ s) (h3 : s < n) : 0 ≤ insB c s ∧ insB c s < ((2 ^ n.toNat : Nat) : Int) := by
  have hp := pow_le (n := n.toNat) (by omega)
  rw [ins_eq h0 (by omega) h2 (by omega)]
  have h4 : 2 ^ s.toNat < 2 ^ n.toNat := Nat.pow_lt_pow_right (by decide) (by omega)
  have := Nat.or_lt_two_pow (x := c.toNat) (y := 2 ^ s.toNat) (n := n.toNat) (by omega) h4
  omega
theorem del_lt {c s n : Int} (h0 : 0 ≤ c) (hn : n ≤ 8) (h1 : c < ((2 ^ n.toNat : Nat) : Int)) (h2 : 0 ≤ s) (h3 : s < 8) : 0 ≤ delB c s ∧ delB c s < ((2 ^ n.toNat : Nat) : Int) := by
  have hp : 2 ^ n.toNat ≤ 2 ^ 8 := Nat.pow_le_pow_right (by decide) (by omega)
  rw [del_eq h0 (by omega) h2 (by omega)]
  have : c.toNat &&& (255 ^^^ 2 ^ s.toNat) ≤ c.toNat := Nat.and_le_left
  omega
theorem bit_ins {c s i : Int} (h0 : 0 ≤ c) (h1 : c < 256) (h2 : 0 ≤ s) (h3 : s < 8) (h4 : 0 ≤ i) : bitT (insB c s) i = (bitT c i || s == i) := by
  rw [ins_eq h0 h1 h2 h3, bitT, bitT, Int.toNat_natCast, Nat.testBit_or, Nat.testBit_two_pow]
  congr 1
  rw [Bool.eq_iff_iff]; simp; omega
theorem bit_del {c s i : Int} (h0 : 0 ≤ c) (h1 : c < 256) (h2 : 0 ≤ s) (h3 : s < 8) (h4 : 0 ≤ i) : bitT (delB c s) i = (bitT c i && s != i) := by
  rw [del_eq h0 h1 h2 h3, bitT, bitT, Int.toNat_natCast, Nat.testBit_and, Nat.testBit_xor, Nat.testBit_two_pow]
  by_cases hi : i < 8
  · have e : Nat.testBit 255 i.toNat = true := by
      have : i.toNat = 0 ∨ i.toNat = 1 ∨ i.toNat = 2 ∨ i.toNat = 3 ∨ i.toNat = 4 ∨ i.toNat = 5 ∨ i.toNat = 6 ∨ i.toNat = 7 := by omega
      rcases this with h | h | h | h | h | h | h | h <;> rw [h] <;> decide
    rw [e]
    congr 1
    rw [Bool.eq_iff_iff]; simp; omega
  · have : c.toNat.testBit i.toNat = false := Nat.testBit_lt_two_pow (Nat.lt_of_lt_of_le (by omega : c.toNat < 2 ^ 8) (Nat.pow_le_pow_right (by decide) (by omega)))
    rw [this]; rfl
theorem bit_ext {c d : Int} (h0 : 0 ≤ c) (h1 : c < 256) (h2 : 0 ≤ d) (h3 : d < 256) (h : ∀ i : Int, 0 ≤ i → i < 8 → bitT c i = bitT d i) : c = d := by
  have : c.toNat = d.toNat := Nat.eq_of_testBit_eq fun i => by
    by_cases hi : i < 8
    · exact h i (by omega) (by omega)
    · rw [Nat.testBit_lt_two_pow (Nat.lt_of_lt_of_le (by omega : c.toNat < 2 ^ 8) (Nat.pow_le_pow_right (by decide) (by omega))), Nat.testBit_lt_two_pow (Nat.lt_of_lt_of_le (by omega : d.toNat < 2 ^ 8) (Nat.pow_le_pow_right (by decide) (by omega)))]
  omega
theorem bit_high {c i n : Int} (h1 : c < ((2 ^ n.toNat : Nat) : Int)) (h0 : 0 ≤ c) (h2 : 0 ≤ n) (hi : n ≤ i) : bitT c i = false := by
  exact Nat.testBit_lt_two_pow (Nat.lt_of_lt_of_le (by omega : c.toNat < 2 ^ n.toNat) (Nat.pow_le_pow_right (by decide) (by omega)))
theorem bit_full {i n : Int} (hn : 0 ≤ n) (h0 : 0 ≤ i) : bitT (((2 ^ n.toNat : Nat) : Int) - 1) i = decide (i < n) := by
  have e : (((2 ^ n.toNat : Nat) : Int) - 1).toNat = 2 ^ n.toNat - 1 := by omega
  rw [bitT, e, Nat.testBit_two_pow_sub_one]
  rw [Bool.eq_iff_iff]; simp; omega
theorem and_mask {x m : Int} (h0 : 0 ≤ m) (h1 : m ≤ 4611686018427387904) : 0 ≤ std.bin .and .i64 x m ∧ std.bin .and .i64 x m ≤ m := by
  have hm : (BitVec.ofInt 64 m).toNat = m.toNat := by
    rw [BitVec.toNat_ofInt]
    have : m % ((2 ^ 64 : Nat) : Int) = m := Int.emod_eq_of_lt h0 (by omega)
    rw [this]
  have h : (BitVec.ofInt 64 x &&& BitVec.ofInt 64 m).toNat ≤ m.toNat := by
    rw [BitVec.toNat_and, hm]; exact Nat.and_le_right
  have e : std.bin .and .i64 x m = IntKind.i64.wrap ((BitVec.ofInt 64 x &&& BitVec.ofInt 64 m).toNat : Int) := rfl
  rw [e, w64 (by omega) (by omega)]
  omega

theorem bit_all1 : ∀ c : Fin 256, ∀ a : Fin 8, (std.bin .and .i64 (std.bin .shr .i64 (c.val : Int) (a.val : Int)) 1 == 0) = !(c.val.testBit a.val) := by decide +kernel
theorem bit_all2 : ∀ c : Fin 256, ∀ a : Fin 8, (std.bin .and .i64 (c.val : Int) (std.bin .shl .i64 1 (a.val : Int)) == 0) = !(c.val.testBit a.val) := by decide +kernel
theorem bit_p {c a : Int} (h0 : 0 ≤ c) (h1 : c < 256) (h2 : 0 ≤ a) (h3 : a < 8) : std.bin .and .i64 (std.bin .shr .i64 c a) 1 = 0 ↔ bitT c a = false := by
  obtain ⟨c, rfl⟩ := Int.eq_ofNat_of_zero_le h0
  obtain ⟨a, rfl⟩ := Int.eq_ofNat_of_zero_le h2
  have := bit_all1 ⟨c, by omega⟩ ⟨a, by omega⟩
  simp only at this
  rw [← beq_iff_eq, this]
  simp [bitT]
theorem bit_r {c a : Int} (h0 : 0 ≤ c) (h1 : c < 256) (h2 : 0 ≤ a) (h3 : a < 8) : std.bin .and .i64 c (std.bin .shl .i64 1 a) = 0 ↔ bitT c a = false := by
  obtain ⟨c, rfl⟩ := Int.eq_ofNat_of_zero_le h0
  obtain ⟨a, rfl⟩ := Int.eq_ofNat_of_zero_le h2
  have := bit_all2 ⟨c, by omega⟩ ⟨a, by omega⟩
  simp only at this
  rw [← beq_iff_eq, this]
  simp [bitT]
theorem bit_all3 : ∀ c : Fin 256, ∀ a : Fin 8, (std.bin .and .i64 (std.bin .shr .i64 (c.val : Int) (a.val : Int)) 1 == 1) = c.val.testBit a.val := by decide +kernel
theorem bit_one {c a : Int} (h0 : 0 ≤ c) (h1 : c < 256) (h2 : 0 ≤ a) (h3 : a < 8) : (std.bin .and .i64 (std.bin .shr .i64 c a) 1 == 1) = bitT c a := by
  obtain ⟨c, rfl⟩ := Int.eq_ofNat_of_zero_le h0
  obtain ⟨a, rfl⟩ := Int.eq_ofNat_of_zero_le h2
  exact bit_all3 ⟨c, by omega⟩ ⟨a, by omega⟩
/-- A view that may be. -/
def okM (a b c d e f g : Int) : Prop := 4 ≤ b ∧ b ≤ 8 ∧ 0 ≤ a ∧ a < b ∧ 0 ≤ g ∧ g < b ∧ 0 ≤ c ∧ c < ((2 ^ b.toNat : Nat) : Int) ∧ 0 ≤ d ∧ d ≤ 1048576 ∧ 0 ≤ e ∧ e ≤ 1048576 ∧ 0 ≤ f ∧ f ≤ 2 ∧ (f ≠ 0 → bitT c a = true) ∧ (f = 2 → g ≠ a)
theorem okM_c {a b c d e f g : Int} (h : okM a b c d e f g) : c < 256 := by
  obtain ⟨h1, h2, _, _, _, _, _, h3, _⟩ := h
  have := pow_le (n := b.toNat) (by omega)
  omega

/-! ### metronome/member.within (function 81) -/
def t81 (A : Alg) (n : Int) (most : Int) : LT Bool Empty :=
  .br (A.cmp .geq n 0)
 (.ret (A.cmp .leq n most))
 (.ret false)
noncomputable def E81 (A : Alg) : Info (Ty.Ts [.bool]) := { ti := tys, fns := [(81, Try.f81)], sps := [], stops := [], cuts := [], consts := [], fin := finD A [.bool] }
theorem t81_ok (A : Alg) (n : Int) (most : Int) : run A (E81 A) 21 (startC 81 Try.f81 (dvals A [(.int .i64), (.int .i64)] (n, most))) = (t81 A n most).tr Empty.elim := by kernel_rfl
def w81 : Walk Try.prog 81 [(.int .i64), (.int .i64)] [.bool] Empty := ⟨fun (n, most) => t81 std n most, Empty.elim⟩
theorem w81_ok : w81.Ok :=
  walk_ok (E := E81 std) ⟨tys_fit, fns_cons Try.func81 (by kernel_rfl) (fns_nil), sps_nil, by kernel_rfl⟩ rfl rfl rfl (by kernel_rfl) w81 Empty.elim 21 (fun (n, most) => t81_ok std n most) (fun y => y.elim)

def fn81 : (Int × Int) → Bool := fun (n, most) => (t81 std n most).val (Ty.dflts [.bool])
def sp81 : FSpec := ⟨[(.int .i64), (.int .i64)], [.bool], (@tt (Int × Int)), fn81⟩
theorem eqs81 (n : Int) (most : Int) : (t81 std n most).Eqs := by simp only [t81, LT.Eqs, and_self, true_and, and_true]
theorem pre81_ok {n : Int} {most : Int} (h : Ty.hass [(.int .i64), (.int .i64)] (n, most)) : (t81 std n most).pre = true := by
  simp only [t81, LT.pre, cond_iff, std_cmp_eql, std_cmp_neq, std_cmp_lss, std_cmp_leq, std_cmp_gtr, std_cmp_geq, std_and, std_not, std_beq, std_call, std_add, std_sub, std_conv, std_len, tt_eq, Bool.and_eq_true, Bool.or_eq_true, Bool.and_eq_false_iff, Bool.or_eq_false_iff, Bool.not_eq_true', Bool.not_eq_false', decide_eq_true_eq, decide_eq_false_iff_not, bne_iff_ne, beq_iff_eq, bne_eq_false_iff_eq, beq_eq_false_iff_ne]
  simp only [Ty.hass, Ty.has, has64, has8] at h
  (repeat' (first | intro _ | constructor)) <;> (try omega)
theorem so81 : FSpec.Sound Try.prog 81 sp81 :=
  w81_ok.sound _ _ fun (n, most) _ h => LT.runs (d := Ty.dflts [.bool]) (eqs81 n most) (pre81_ok h)
theorem fn81_eq {n m : Int} : fn81 (n, m) = (decide (0 ≤ n) && decide (n ≤ m)) := by
  simp only [fn81, t81, LT.val, std_cmp_geq, std_cmp_leq]
  cases decide (0 ≤ n) <;> rfl

/-! ### metronome/member.Check (function 34) -/
def t34 (A : Alg) (mId : Int) (mN : Int) (mSet : Int) (mAcc : Int) (mFail : Int) (mStage : Int) (mFirst : Int) : LT Int Empty :=
  .br (A.cmp .lss mN 4)
 (.ret 90)
 (.br (A.cmp .gtr mN 8)
  (.ret 90)
  (.need (A.call (@tt (Int × Int)) (mId, (A.bin .sub .i64 mN 1))) (
   .br (A.not (A.call fn81 (mId, (A.bin .sub .i64 mN 1))))
    (.ret 90)
    (.need (A.call (@tt (Int × Int)) (mFirst, (A.bin .sub .i64 mN 1))) (
     .br (A.not (A.call fn81 (mFirst, (A.bin .sub .i64 mN 1))))
      (.ret 90)
      (.need (A.call (@tt (Int × Int)) (mAcc, 1048576)) (
       .br (A.not (A.call fn81 (mAcc, 1048576)))
        (.ret 90)
        (.need (A.call (@tt (Int × Int)) (mFail, 1048576)) (
         .br (A.not (A.call fn81 (mFail, 1048576)))
          (.ret 90)
          (.need (A.call (@tt (Int × Int)) (mStage, 2)) (
           .br (A.not (A.call fn81 (mStage, 2)))
            (.ret 90)
            (.need (A.cmp .leq 0 mN) (
             .need (A.call (@tt (Int × Int)) (mSet, (A.bin .sub .i64 (A.bin .shl .i64 1 mN) 1))) (
              .br (A.not (A.call fn81 (mSet, (A.bin .sub .i64 (A.bin .shl .i64 1 mN) 1))))
               (.ret 90)
               (.br (A.cmp .neq mStage 0)
                (.need (A.cmp .leq 0 mId) (
                 .br (A.cmp .eql (A.bin .and .i64 (A.bin .shr .i64 mSet mId) 1) 0)
                  (.ret 90)
                  (.br (A.cmp .eql mStage 2)
                   (.br (A.cmp .eql mFirst mId)
                    (.ret 90)
                    (.ret 0))
                   (.ret 0))))
                (.br (A.cmp .eql mStage 2)
                 (.br (A.cmp .eql mFirst mId)
                  (.ret 90)
                  (.ret 0))
                 (.ret 0)))))))))))))))))
noncomputable def E34 (A : Alg) : Info (Ty.Ts [(.int .i64)]) := { ti := tys, fns := [(34, Try.f34)], sps := [(81, sp81)], stops := [], cuts := [], consts := [], fin := finD A [(.int .i64)] }
theorem t34_ok (A : Alg) (mId : Int) (mN : Int) (mSet : Int) (mAcc : Int) (mFail : Int) (mStage : Int) (mFirst : Int) : run A (E34 A) 123 (startC 34 Try.f34 (dvals A [(.struct [(.int .i64), (.int .i64), (.int .i64), (.int .i64), (.int .i64), (.int .i64), (.int .i64)])] (mId, mN, mSet, mAcc, mFail, mStage, mFirst))) = (t34 A mId mN mSet mAcc mFail mStage mFirst).tr Empty.elim := by kernel_rfl
def w34 : Walk Try.prog 34 [(.struct [(.int .i64), (.int .i64), (.int .i64), (.int .i64), (.int .i64), (.int .i64), (.int .i64)])] [(.int .i64)] Empty := ⟨fun (mId, mN, mSet, mAcc, mFail, mStage, mFirst) => t34 std mId mN mSet mAcc mFail mStage mFirst, Empty.elim⟩
theorem w34_ok : w34.Ok :=
  walk_ok (E := E34 std) ⟨tys_fit, fns_cons Try.func34 (by kernel_rfl) (fns_nil), sps_cons so81 (sps_nil), by kernel_rfl⟩ rfl rfl rfl (by kernel_rfl) w34 Empty.elim 123 (fun (mId, mN, mSet, mAcc, mFail, mStage, mFirst) => t34_ok std mId mN mSet mAcc mFail mStage mFirst) (fun y => y.elim)

def fn34 : ((Int × Int × Int × Int × Int × Int × Int)) → Int := fun (mId, mN, mSet, mAcc, mFail, mStage, mFirst) => (t34 std mId mN mSet mAcc mFail mStage mFirst).val (Ty.dflts [(.int .i64)])
def sp34 : FSpec := ⟨[(.struct [(.int .i64), (.int .i64), (.int .i64), (.int .i64), (.int .i64), (.int .i64), (.int .i64)])], [(.int .i64)], (@tt ((Int × Int × Int × Int × Int × Int × Int))), fn34⟩
theorem eqs34 (mId : Int) (mN : Int) (mSet : Int) (mAcc : Int) (mFail : Int) (mStage : Int) (mFirst : Int) : (t34 std mId mN mSet mAcc mFail mStage mFirst).Eqs := by simp only [t34, LT.Eqs, and_self, true_and, and_true]
theorem pre34_ok {mId : Int} {mN : Int} {mSet : Int} {mAcc : Int} {mFail : Int} {mStage : Int} {mFirst : Int} (h : Ty.hass [(.struct [(.int .i64), (.int .i64), (.int .i64), (.int .i64), (.int .i64), (.int .i64), (.int .i64)])] (mId, mN, mSet, mAcc, mFail, mStage, mFirst)) : (t34 std mId mN mSet mAcc mFail mStage mFirst).pre = true := by
  simp only [t34, LT.pre, cond_iff, std_cmp_eql, std_cmp_neq, std_cmp_lss, std_cmp_leq, std_cmp_gtr, std_cmp_geq, std_and, std_not, std_beq, std_call, std_add, std_sub, std_conv, std_len, tt_eq, Bool.and_eq_true, Bool.or_eq_true, Bool.and_eq_false_iff, Bool.or_eq_false_iff, Bool.not_eq_true', Bool.not_eq_false', decide_eq_true_eq, decide_eq_false_iff_not, bne_iff_ne, beq_iff_eq, bne_eq_false_iff_eq, beq_eq_false_iff_ne, fn81_eq]
  simp only [Ty.hass, Ty.has, has64, has8] at h
  (repeat' (first | intro _ | constructor)) <;> (try omega)
theorem so34 : FSpec.Sound Try.prog 34 sp34 :=
  w34_ok.sound _ _ fun (mId, mN, mSet, mAcc, mFail, mStage, mFirst) _ h => LT.runs (d := Ty.dflts [(.int .i64)]) (eqs34 mId mN mSet mAcc mFail mStage mFirst) (pre34_ok h)
theorem fn34_range {x : Int × Int × Int × Int × Int × Int × Int} : fn34 x = 0 ∨ fn34 x = 90 := by
  obtain ⟨a, b, c, d, e, f, g⟩ := x
  exact LT.val_all (p := fun y => y = 0 ∨ y = 90) (.inl rfl) (by simp [t34, LT.all])
theorem fn34_zero {a b c d e f g : Int} : fn34 (a, b, c, d, e, f, g) = 0 ↔ okM a b c d e f g := by
  simp only [fn34, t34, LT.val, cond_eq_of, std_cmp_eql, std_cmp_neq, std_cmp_lss, std_cmp_leq, std_cmp_gtr, std_cmp_geq, std_and, std_not, std_beq, std_call, std_add, std_sub, std_conv, std_len, tt_eq, Bool.and_eq_true, Bool.or_eq_true, Bool.and_eq_false_iff, Bool.or_eq_false_iff, Bool.not_eq_true', Bool.not_eq_false', decide_eq_true_eq, decide_eq_false_iff_not, bne_iff_ne, beq_iff_eq, bne_eq_false_iff_eq, beq_eq_false_iff_ne, fn81_eq]
  simp
  unfold okM
  by_cases hb : 4 ≤ b ∧ b ≤ 8
  · rw [w64 (by omega) (by omega), shl1 (by omega) hb.2]
    have hp := pow_le (n := b.toNat) (by omega)
    have hp1 : 1 ≤ 2 ^ b.toNat := Nat.one_le_two_pow
    rw [w64 (by omega) (by omega)]
    by_cases hc : 0 ≤ c ∧ c < 256 ∧ 0 ≤ a ∧ a < 8
    · have h := bit_p hc.1 hc.2.1 hc.2.2.1 hc.2.2.2
      rw [h]
      cases bitT c a <;> simp <;> omega
    · constructor
      · intro h; exfalso; omega
      · intro h; exfalso; omega
  · constructor
    · intro h; exfalso; omega
    · intro h; exfalso; omega

/-! ### metronome/metronomeref09.bit (function 80) -/
def t80 (A : Alg) (n : Int) : LT Int Empty :=
  .need (A.cmp .leq 0 (A.conv .u64 n)) (
 .ret (A.bin .shl .i64 1 (A.conv .u64 n)))
noncomputable def E80 (A : Alg) : Info (Ty.Ts [(.int .i64)]) := { ti := tys, fns := [(80, Try.f80)], sps := [], stops := [], cuts := [], consts := [], fin := finD A [(.int .i64)] }
theorem t80_ok (A : Alg) (n : Int) : run A (E80 A) 17 (startC 80 Try.f80 (dvals A [(.int .i64)] n)) = (t80 A n).tr Empty.elim := by kernel_rfl
def w80 : Walk Try.prog 80 [(.int .i64)] [(.int .i64)] Empty := ⟨fun n => t80 std n, Empty.elim⟩
theorem w80_ok : w80.Ok :=
  walk_ok (E := E80 std) ⟨tys_fit, fns_cons Try.func80 (by kernel_rfl) (fns_nil), sps_nil, by kernel_rfl⟩ rfl rfl rfl (by kernel_rfl) w80 Empty.elim 17 (fun n => t80_ok std n) (fun y => y.elim)

def fn80 : Int → Int := fun n => (t80 std n).val (Ty.dflts [(.int .i64)])
def sp80 : FSpec := ⟨[(.int .i64)], [(.int .i64)], (@tt Int), fn80⟩
theorem eqs80 (n : Int) : (t80 std n).Eqs := by simp only [t80, LT.Eqs, and_self, true_and, and_true]
theorem pre80_ok {n : Int} (h : Ty.hass [(.int .i64)] n) : (t80 std n).pre = true := by
  simp only [t80, LT.pre, cond_iff, std_cmp_eql, std_cmp_neq, std_cmp_lss, std_cmp_leq, std_cmp_gtr, std_cmp_geq, std_and, std_not, std_beq, std_call, std_add, std_sub, std_conv, std_len, tt_eq, Bool.and_eq_true, Bool.or_eq_true, Bool.and_eq_false_iff, Bool.or_eq_false_iff, Bool.not_eq_true', Bool.not_eq_false', decide_eq_true_eq, decide_eq_false_iff_not, bne_iff_ne, beq_iff_eq, bne_eq_false_iff_eq, beq_eq_false_iff_ne]
  simp only [Ty.hass, Ty.has, has64] at h
  have := has_wrap .u64 n
  exact ⟨this.1, trivial⟩
theorem so80 : FSpec.Sound Try.prog 80 sp80 :=
  w80_ok.sound _ _ fun n _ h => LT.runs (d := Ty.dflts [(.int .i64)]) (eqs80 n) (pre80_ok h)
theorem fn80_eq {n : Int} (h0 : 0 ≤ n) (h1 : n ≤ 8) : fn80 n = ((2 ^ n.toNat : Nat) : Int) := by
  have : n = 0 ∨ n = 1 ∨ n = 2 ∨ n = 3 ∨ n = 4 ∨ n = 5 ∨ n = 6 ∨ n = 7 ∨ n = 8 := by omega
  rcases this with rfl | rfl | rfl | rfl | rfl | rfl | rfl | rfl | rfl <;> decide
theorem fn80_shl {n : Int} (h0 : 0 ≤ n) (h1 : n ≤ 8) : fn80 n = std.bin .shl .i64 1 n := by rw [fn80_eq h0 h1, shl1 h0 h1]

/-! ### metronome/metronomeref09.Check (function 35) -/
def t35 (A : Alg) (mId : Int) (mN : Int) (mSet : Int) (mAcc : Int) (mFail : Int) (mStage : Int) (mFirst : Int) : LT Int Empty :=
  .br (A.cmp .lss mN 4)
 (.ret 90)
 (.br (A.cmp .gtr mN 8)
  (.ret 90)
  (.br (A.cmp .lss mId 0)
   (.ret 90)
   (.br (A.cmp .geq mId mN)
    (.ret 90)
    (.br (A.cmp .lss mFirst 0)
     (.ret 90)
     (.br (A.cmp .geq mFirst mN)
      (.ret 90)
      (.br (A.cmp .lss mSet 0)
       (.ret 90)
       (.need (A.call (@tt Int) mN) (
        .br (A.cmp .geq mSet (A.call fn80 mN))
         (.ret 90)
         (.br (A.cmp .lss mAcc 0)
          (.ret 90)
          (.br (A.cmp .gtr mAcc 1048576)
           (.ret 90)
           (.br (A.cmp .lss mFail 0)
            (.ret 90)
            (.br (A.cmp .gtr mFail 1048576)
             (.ret 90)
             (.br (A.cmp .lss mStage 0)
              (.ret 90)
              (.br (A.cmp .gtr mStage 2)
               (.ret 90)
               (.br (A.cmp .neq mStage 0)
                (.need (A.call (@tt Int) mId) (
                 .br (A.cmp .eql (A.bin .and .i64 mSet (A.call fn80 mId)) 0)
                  (.ret 90)
                  (.br (A.cmp .eql mStage 2)
                   (.br (A.cmp .eql mFirst mId)
                    (.ret 90)
                    (.ret 0))
                   (.ret 0))))
                (.br (A.cmp .eql mStage 2)
                 (.br (A.cmp .eql mFirst mId)
                  (.ret 90)
                  (.ret 0))
                 (.ret 0)))))))))))))))))
noncomputable def E35 (A : Alg) : Info (Ty.Ts [(.int .i64)]) := { ti := tys, fns := [(35, Try.f35)], sps := [(80, sp80)], stops := [], cuts := [], consts := [], fin := finD A [(.int .i64)] }
theorem t35_ok (A : Alg) (mId : Int) (mN : Int) (mSet : Int) (mAcc : Int) (mFail : Int) (mStage : Int) (mFirst : Int) : run A (E35 A) 130 (startC 35 Try.f35 (dvals A [(.struct [(.int .i64), (.int .i64), (.int .i64), (.int .i64), (.int .i64), (.int .i64), (.int .i64)])] (mId, mN, mSet, mAcc, mFail, mStage, mFirst))) = (t35 A mId mN mSet mAcc mFail mStage mFirst).tr Empty.elim := by kernel_rfl
def w35 : Walk Try.prog 35 [(.struct [(.int .i64), (.int .i64), (.int .i64), (.int .i64), (.int .i64), (.int .i64), (.int .i64)])] [(.int .i64)] Empty := ⟨fun (mId, mN, mSet, mAcc, mFail, mStage, mFirst) => t35 std mId mN mSet mAcc mFail mStage mFirst, Empty.elim⟩
theorem w35_ok : w35.Ok :=
  walk_ok (E := E35 std) ⟨tys_fit, fns_cons Try.func35 (by kernel_rfl) (fns_nil), sps_cons so80 (sps_nil), by kernel_rfl⟩ rfl rfl rfl (by kernel_rfl) w35 Empty.elim 130 (fun (mId, mN, mSet, mAcc, mFail, mStage, mFirst) => t35_ok std mId mN mSet mAcc mFail mStage mFirst) (fun y => y.elim)

def fn35 : ((Int × Int × Int × Int × Int × Int × Int)) → Int := fun (mId, mN, mSet, mAcc, mFail, mStage, mFirst) => (t35 std mId mN mSet mAcc mFail mStage mFirst).val (Ty.dflts [(.int .i64)])
def sp35 : FSpec := ⟨[(.struct [(.int .i64), (.int .i64), (.int .i64), (.int .i64), (.int .i64), (.int .i64), (.int .i64)])], [(.int .i64)], (@tt ((Int × Int × Int × Int × Int × Int × Int))), fn35⟩
theorem eqs35 (mId : Int) (mN : Int) (mSet : Int) (mAcc : Int) (mFail : Int) (mStage : Int) (mFirst : Int) : (t35 std mId mN mSet mAcc mFail mStage mFirst).Eqs := by simp only [t35, LT.Eqs, and_self, true_and, and_true]
theorem pre35_ok {mId : Int} {mN : Int} {mSet : Int} {mAcc : Int} {mFail : Int} {mStage : Int} {mFirst : Int} (h : Ty.hass [(.struct [(.int .i64), (.int .i64), (.int .i64), (.int .i64), (.int .i64), (.int .i64), (.int .i64)])] (mId, mN, mSet, mAcc, mFail, mStage, mFirst)) : (t35 std mId mN mSet mAcc mFail mStage mFirst).pre = true := by
  simp only [t35, LT.pre, cond_iff, std_cmp_eql, std_cmp_neq, std_cmp_lss, std_cmp_leq, std_cmp_gtr, std_cmp_geq, std_and, std_not, std_beq, std_call, std_add, std_sub, std_conv, std_len, tt_eq, Bool.and_eq_true, Bool.or_eq_true, Bool.and_eq_false_iff, Bool.or_eq_false_iff, Bool.not_eq_true', Bool.not_eq_false', decide_eq_true_eq, decide_eq_false_iff_not, bne_iff_ne, beq_iff_eq, bne_eq_false_iff_eq, beq_eq_false_iff_ne]
  simp only [Ty.hass, Ty.has, has64, has8] at h
  (repeat' (first | intro _ | constructor)) <;> (try omega)
theorem so35 : FSpec.Sound Try.prog 35 sp35 :=
  w35_ok.sound _ _ fun (mId, mN, mSet, mAcc, mFail, mStage, mFirst) _ h => LT.runs (d := Ty.dflts [(.int .i64)]) (eqs35 mId mN mSet mAcc mFail mStage mFirst) (pre35_ok h)
theorem fn35_range {x : Int × Int × Int × Int × Int × Int × Int} : fn35 x = 0 ∨ fn35 x = 90 := by
  obtain ⟨a, b, c, d, e, f, g⟩ := x
  exact LT.val_all (p := fun y => y = 0 ∨ y = 90) (.inl rfl) (by simp [t35, LT.all])
theorem fn35_zero {a b c d e f g : Int} : fn35 (a, b, c, d, e, f, g) = 0 ↔ okM a b c d e f g := by
  simp only [fn35, t35, LT.val, cond_eq_of, std_cmp_eql, std_cmp_neq, std_cmp_lss, std_cmp_leq, std_cmp_gtr, std_cmp_geq, std_and, std_not, std_beq, std_call, std_add, std_sub, std_conv, std_len, tt_eq, Bool.and_eq_true, Bool.or_eq_true, Bool.and_eq_false_iff, Bool.or_eq_false_iff, Bool.not_eq_true', Bool.not_eq_false', decide_eq_true_eq, decide_eq_false_iff_not, bne_iff_ne, beq_iff_eq, bne_eq_false_iff_eq, beq_eq_false_iff_ne]
  simp
  unfold okM
  by_cases hb : 4 ≤ b ∧ b ≤ 8 ∧ 0 ≤ a ∧ a < b
  · rw [fn80_eq (by omega) hb.2.1, fn80_shl (n := a) (by omega) (by omega)]
    have hp := pow_le (n := b.toNat) (by omega)
    by_cases hc : 0 ≤ c ∧ c < 256
    · have h := bit_r (a := a) hc.1 hc.2 (by omega) (by omega)
      rw [h]
      cases bitT c a <;> simp <;> omega
    · constructor
      · intro h; exfalso; omega
      · intro h; exfalso; omega
  · constructor
    · intro h; exfalso; omega
    · intro h; exfalso; omega
theorem chk {x : Int × Int × Int × Int × Int × Int × Int} : fn34 x = fn35 x := by
  have h1 := fn34_range (x := x)
  have h2 := fn35_range (x := x)
  obtain ⟨a, b, c, d, e, f, g⟩ := x
  have h3 := fn34_zero (a := a) (b := b) (c := c) (d := d) (e := e) (f := f) (g := g)
  have h4 := fn35_zero (a := a) (b := b) (c := c) (d := d) (e := e) (f := f) (g := g)
  by_cases h : okM a b c d e f g
  · rw [h3.2 h, h4.2 h]
  · have := mt h3.1 h; have := mt h4.1 h; omega

/-! ### metronome/member.New (function 21) -/
def t21 (A : Alg) (id : Int) (n : Int) (set1 : Int) : LT ((Int × Int × Int × Int × Int × Int × Int) × Int) Empty :=
  .need (A.call (@tt ((Int × Int × Int × Int × Int × Int × Int))) (id, n, set1, 0, 0, 0, 0)) (
 .br (A.cmp .neq (A.call fn34 (id, n, set1, 0, 0, 0, 0)) 0)
  (.ret ((0, 0, 0, 0, 0, 0, 0), (A.call fn34 (id, n, set1, 0, 0, 0, 0))))
  (.ret ((id, n, set1, 0, 0, 0, 0), 0)))
noncomputable def E21 (A : Alg) : Info (Ty.Ts [(.struct [(.int .i64), (.int .i64), (.int .i64), (.int .i64), (.int .i64), (.int .i64), (.int .i64)]), (.int .i64)]) := { ti := tys, fns := [(21, Try.f21)], sps := [(34, sp34)], stops := [], cuts := [], consts := [], fin := finD A [(.struct [(.int .i64), (.int .i64), (.int .i64), (.int .i64), (.int .i64), (.int .i64), (.int .i64)]), (.int .i64)] }
theorem t21_ok (A : Alg) (id : Int) (n : Int) (set1 : Int) : run A (E21 A) 40 (startC 21 Try.f21 (dvals A [(.int .i64), (.int .i64), (.int .i64)] (id, n, set1))) = (t21 A id n set1).tr Empty.elim := by kernel_rfl
def w21 : Walk Try.prog 21 [(.int .i64), (.int .i64), (.int .i64)] [(.struct [(.int .i64), (.int .i64), (.int .i64), (.int .i64), (.int .i64), (.int .i64), (.int .i64)]), (.int .i64)] Empty := ⟨fun (id, n, set1) => t21 std id n set1, Empty.elim⟩
theorem w21_ok : w21.Ok :=
  walk_ok (E := E21 std) ⟨tys_fit, fns_cons Try.func21 (by kernel_rfl) (fns_nil), sps_cons so34 (sps_nil), by kernel_rfl⟩ rfl rfl rfl (by kernel_rfl) w21 Empty.elim 40 (fun (id, n, set1) => t21_ok std id n set1) (fun y => y.elim)

def fn21 : (Int × Int × Int) → ((Int × Int × Int × Int × Int × Int × Int) × Int) := fun (id, n, set1) => (t21 std id n set1).val (Ty.dflts [(.struct [(.int .i64), (.int .i64), (.int .i64), (.int .i64), (.int .i64), (.int .i64), (.int .i64)]), (.int .i64)])
def sp21 : FSpec := ⟨[(.int .i64), (.int .i64), (.int .i64)], [(.struct [(.int .i64), (.int .i64), (.int .i64), (.int .i64), (.int .i64), (.int .i64), (.int .i64)]), (.int .i64)], (@tt (Int × Int × Int)), fn21⟩
theorem eqs21 (id : Int) (n : Int) (set1 : Int) : (t21 std id n set1).Eqs := by simp only [t21, LT.Eqs, and_self, true_and, and_true]
theorem pre21_ok {id : Int} {n : Int} {set1 : Int} (h : Ty.hass [(.int .i64), (.int .i64), (.int .i64)] (id, n, set1)) : (t21 std id n set1).pre = true := by
  simp only [t21, LT.pre, cond_iff, std_cmp_eql, std_cmp_neq, std_cmp_lss, std_cmp_leq, std_cmp_gtr, std_cmp_geq, std_and, std_not, std_beq, std_call, std_add, std_sub, std_conv, std_len, tt_eq, Bool.and_eq_true, Bool.or_eq_true, Bool.and_eq_false_iff, Bool.or_eq_false_iff, Bool.not_eq_true', Bool.not_eq_false', decide_eq_true_eq, decide_eq_false_iff_not, bne_iff_ne, beq_iff_eq, bne_eq_false_iff_eq, beq_eq_false_iff_ne]
  simp only [Ty.hass, Ty.has, has64, has8] at h
  (repeat' (first | intro _ | constructor)) <;> (try omega)
theorem so21 : FSpec.Sound Try.prog 21 sp21 :=
  w21_ok.sound _ _ fun (id, n, set1) _ h => LT.runs (d := Ty.dflts [(.struct [(.int .i64), (.int .i64), (.int .i64), (.int .i64), (.int .i64), (.int .i64), (.int .i64)]), (.int .i64)]) (eqs21 id n set1) (pre21_ok h)
/-! ### metronome/metronomeref09.New (function 32) -/
def t32 (A : Alg) (id : Int) (n : Int) (set1 : Int) : LT ((Int × Int × Int × Int × Int × Int × Int) × Int) Empty :=
  .need (A.call (@tt ((Int × Int × Int × Int × Int × Int × Int))) (id, n, set1, 0, 0, 0, 0)) (
 .br (A.cmp .neq (A.call fn35 (id, n, set1, 0, 0, 0, 0)) 0)
  (.ret ((0, 0, 0, 0, 0, 0, 0), 90))
  (.ret ((id, n, set1, 0, 0, 0, 0), 0)))
noncomputable def E32 (A : Alg) : Info (Ty.Ts [(.struct [(.int .i64), (.int .i64), (.int .i64), (.int .i64), (.int .i64), (.int .i64), (.int .i64)]), (.int .i64)]) := { ti := tys, fns := [(32, Try.f32)], sps := [(35, sp35)], stops := [], cuts := [], consts := [], fin := finD A [(.struct [(.int .i64), (.int .i64), (.int .i64), (.int .i64), (.int .i64), (.int .i64), (.int .i64)]), (.int .i64)] }
theorem t32_ok (A : Alg) (id : Int) (n : Int) (set1 : Int) : run A (E32 A) 35 (startC 32 Try.f32 (dvals A [(.int .i64), (.int .i64), (.int .i64)] (id, n, set1))) = (t32 A id n set1).tr Empty.elim := by kernel_rfl
def w32 : Walk Try.prog 32 [(.int .i64), (.int .i64), (.int .i64)] [(.struct [(.int .i64), (.int .i64), (.int .i64), (.int .i64), (.int .i64), (.int .i64), (.int .i64)]), (.int .i64)] Empty := ⟨fun (id, n, set1) => t32 std id n set1, Empty.elim⟩
theorem w32_ok : w32.Ok :=
  walk_ok (E := E32 std) ⟨tys_fit, fns_cons Try.func32 (by kernel_rfl) (fns_nil), sps_cons so35 (sps_nil), by kernel_rfl⟩ rfl rfl rfl (by kernel_rfl) w32 Empty.elim 35 (fun (id, n, set1) => t32_ok std id n set1) (fun y => y.elim)

def fn32 : (Int × Int × Int) → ((Int × Int × Int × Int × Int × Int × Int) × Int) := fun (id, n, set1) => (t32 std id n set1).val (Ty.dflts [(.struct [(.int .i64), (.int .i64), (.int .i64), (.int .i64), (.int .i64), (.int .i64), (.int .i64)]), (.int .i64)])
def sp32 : FSpec := ⟨[(.int .i64), (.int .i64), (.int .i64)], [(.struct [(.int .i64), (.int .i64), (.int .i64), (.int .i64), (.int .i64), (.int .i64), (.int .i64)]), (.int .i64)], (@tt (Int × Int × Int)), fn32⟩
theorem eqs32 (id : Int) (n : Int) (set1 : Int) : (t32 std id n set1).Eqs := by simp only [t32, LT.Eqs, and_self, true_and, and_true]
theorem pre32_ok {id : Int} {n : Int} {set1 : Int} (h : Ty.hass [(.int .i64), (.int .i64), (.int .i64)] (id, n, set1)) : (t32 std id n set1).pre = true := by
  simp only [t32, LT.pre, cond_iff, std_cmp_eql, std_cmp_neq, std_cmp_lss, std_cmp_leq, std_cmp_gtr, std_cmp_geq, std_and, std_not, std_beq, std_call, std_add, std_sub, std_conv, std_len, tt_eq, Bool.and_eq_true, Bool.or_eq_true, Bool.and_eq_false_iff, Bool.or_eq_false_iff, Bool.not_eq_true', Bool.not_eq_false', decide_eq_true_eq, decide_eq_false_iff_not, bne_iff_ne, beq_iff_eq, bne_eq_false_iff_eq, beq_eq_false_iff_ne]
  simp only [Ty.hass, Ty.has, has64, has8] at h
  (repeat' (first | intro _ | constructor)) <;> (try omega)
theorem so32 : FSpec.Sound Try.prog 32 sp32 :=
  w32_ok.sound _ _ fun (id, n, set1) _ h => LT.runs (d := Ty.dflts [(.struct [(.int .i64), (.int .i64), (.int .i64), (.int .i64), (.int .i64), (.int .i64), (.int .i64)]), (.int .i64)]) (eqs32 id n set1) (pre32_ok h)
theorem new_same {x : Int × Int × Int} : fn21 x = fn32 x := by
  obtain ⟨a, b, c⟩ := x
  simp only [fn21, fn32, t21, t32, LT.val, std_call, chk]
  rcases fn35_range (x := (a, b, c, 0, 0, 0, 0)) with h | h <;> simp [h, std_cmp_neq]

/-! ### metronome/member.Own (function 23) -/
def t23 (A : Alg) (mId : Int) (mN : Int) (mSet : Int) (mAcc : Int) (mFail : Int) (mStage : Int) (mFirst : Int) : LT ((Int × Int × Int × Int × Int × Int × Int) × Int × Int) Empty :=
  .need (A.call (@tt ((Int × Int × Int × Int × Int × Int × Int))) (mId, mN, mSet, mAcc, mFail, mStage, mFirst)) (
 .br (A.cmp .neq (A.call fn34 (mId, mN, mSet, mAcc, mFail, mStage, mFirst)) 0)
  (.ret ((0, 0, 0, 0, 0, 0, 0), 0, (A.call fn34 (mId, mN, mSet, mAcc, mFail, mStage, mFirst))))
  (.br (A.cmp .leq mAcc mFail)
   (.ret ((mId, mN, mSet, mAcc, mFail, mStage, mFirst), 2, 0))
   (.need (A.cmp .leq 0 mId) (
    .ret ((mId, mN, (A.bin .or .i64 mSet (A.bin .shl .i64 1 mId)), 1, 0, 1, 0), 1, 0)))))
noncomputable def E23 (A : Alg) : Info (Ty.Ts [(.struct [(.int .i64), (.int .i64), (.int .i64), (.int .i64), (.int .i64), (.int .i64), (.int .i64)]), (.int .i64), (.int .i64)]) := { ti := tys, fns := [(23, Try.f23)], sps := [(34, sp34)], stops := [], cuts := [], consts := [], fin := finD A [(.struct [(.int .i64), (.int .i64), (.int .i64), (.int .i64), (.int .i64), (.int .i64), (.int .i64)]), (.int .i64), (.int .i64)] }
theorem t23_ok (A : Alg) (mId : Int) (mN : Int) (mSet : Int) (mAcc : Int) (mFail : Int) (mStage : Int) (mFirst : Int) : run A (E23 A) 67 (startC 23 Try.f23 (dvals A [(.struct [(.int .i64), (.int .i64), (.int .i64), (.int .i64), (.int .i64), (.int .i64), (.int .i64)])] (mId, mN, mSet, mAcc, mFail, mStage, mFirst))) = (t23 A mId mN mSet mAcc mFail mStage mFirst).tr Empty.elim := by kernel_rfl
def w23 : Walk Try.prog 23 [(.struct [(.int .i64), (.int .i64), (.int .i64), (.int .i64), (.int .i64), (.int .i64), (.int .i64)])] [(.struct [(.int .i64), (.int .i64), (.int .i64), (.int .i64), (.int .i64), (.int .i64), (.int .i64)]), (.int .i64), (.int .i64)] Empty := ⟨fun (mId, mN, mSet, mAcc, mFail, mStage, mFirst) => t23 std mId mN mSet mAcc mFail mStage mFirst, Empty.elim⟩
theorem w23_ok : w23.Ok :=
  walk_ok (E := E23 std) ⟨tys_fit, fns_cons Try.func23 (by kernel_rfl) (fns_nil), sps_cons so34 (sps_nil), by kernel_rfl⟩ rfl rfl rfl (by kernel_rfl) w23 Empty.elim 67 (fun (mId, mN, mSet, mAcc, mFail, mStage, mFirst) => t23_ok std mId mN mSet mAcc mFail mStage mFirst) (fun y => y.elim)

def fn23 : ((Int × Int × Int × Int × Int × Int × Int)) → ((Int × Int × Int × Int × Int × Int × Int) × Int × Int) := fun (mId, mN, mSet, mAcc, mFail, mStage, mFirst) => (t23 std mId mN mSet mAcc mFail mStage mFirst).val (Ty.dflts [(.struct [(.int .i64), (.int .i64), (.int .i64), (.int .i64), (.int .i64), (.int .i64), (.int .i64)]), (.int .i64), (.int .i64)])
def sp23 : FSpec := ⟨[(.struct [(.int .i64), (.int .i64), (.int .i64), (.int .i64), (.int .i64), (.int .i64), (.int .i64)])], [(.struct [(.int .i64), (.int .i64), (.int .i64), (.int .i64), (.int .i64), (.int .i64), (.int .i64)]), (.int .i64), (.int .i64)], (@tt ((Int × Int × Int × Int × Int × Int × Int))), fn23⟩
theorem eqs23 (mId : Int) (mN : Int) (mSet : Int) (mAcc : Int) (mFail : Int) (mStage : Int) (mFirst : Int) : (t23 std mId mN mSet mAcc mFail mStage mFirst).Eqs := by simp only [t23, LT.Eqs, and_self, true_and, and_true]
theorem pre23_ok {mId : Int} {mN : Int} {mSet : Int} {mAcc : Int} {mFail : Int} {mStage : Int} {mFirst : Int} (h : Ty.hass [(.struct [(.int .i64), (.int .i64), (.int .i64), (.int .i64), (.int .i64), (.int .i64), (.int .i64)])] (mId, mN, mSet, mAcc, mFail, mStage, mFirst)) : (t23 std mId mN mSet mAcc mFail mStage mFirst).pre = true := by
  simp only [t23, LT.pre, cond_iff, std_cmp_eql, std_cmp_neq, std_cmp_lss, std_cmp_leq, std_cmp_gtr, std_cmp_geq, std_and, std_not, std_beq, std_call, std_add, std_sub, std_conv, std_len, tt_eq, Bool.and_eq_true, Bool.or_eq_true, Bool.and_eq_false_iff, Bool.or_eq_false_iff, Bool.not_eq_true', Bool.not_eq_false', decide_eq_true_eq, decide_eq_false_iff_not, bne_iff_ne, beq_iff_eq, bne_eq_false_iff_eq, beq_eq_false_iff_ne]
  simp only [Ty.hass, Ty.has, has64] at h
  (repeat' (first | intro _ | constructor)) <;> (try (have hm := fn34_zero.1 (by assumption); unfold okM at hm; omega))
theorem so23 : FSpec.Sound Try.prog 23 sp23 :=
  w23_ok.sound _ _ fun (mId, mN, mSet, mAcc, mFail, mStage, mFirst) _ h => LT.runs (d := Ty.dflts [(.struct [(.int .i64), (.int .i64), (.int .i64), (.int .i64), (.int .i64), (.int .i64), (.int .i64)]), (.int .i64), (.int .i64)]) (eqs23 mId mN mSet mAcc mFail mStage mFirst) (pre23_ok h)
/-! ### metronome/metronomeref09.sends (function 75) -/
def t75 (A : Alg) (mId : Int) (mN : Int) (mSet : Int) (mAcc : Int) (mFail : Int) (mStage : Int) (mFirst : Int) : LT ((Int × Int × Int × Int × Int × Int × Int)) Empty :=
  .need (A.call (@tt Int) mId) (
 .ret (mId, mN, (A.bin .or .i64 mSet (A.call fn80 mId)), 1, 0, 1, 0))
noncomputable def E75 (A : Alg) : Info (Ty.Ts [(.struct [(.int .i64), (.int .i64), (.int .i64), (.int .i64), (.int .i64), (.int .i64), (.int .i64)])]) := { ti := tys, fns := [(75, Try.f75)], sps := [(80, sp80)], stops := [], cuts := [], consts := [], fin := finD A [(.struct [(.int .i64), (.int .i64), (.int .i64), (.int .i64), (.int .i64), (.int .i64), (.int .i64)])] }
theorem t75_ok (A : Alg) (mId : Int) (mN : Int) (mSet : Int) (mAcc : Int) (mFail : Int) (mStage : Int) (mFirst : Int) : run A (E75 A) 47 (startC 75 Try.f75 (dvals A [(.struct [(.int .i64), (.int .i64), (.int .i64), (.int .i64), (.int .i64), (.int .i64), (.int .i64)])] (mId, mN, mSet, mAcc, mFail, mStage, mFirst))) = (t75 A mId mN mSet mAcc mFail mStage mFirst).tr Empty.elim := by kernel_rfl
def w75 : Walk Try.prog 75 [(.struct [(.int .i64), (.int .i64), (.int .i64), (.int .i64), (.int .i64), (.int .i64), (.int .i64)])] [(.struct [(.int .i64), (.int .i64), (.int .i64), (.int .i64), (.int .i64), (.int .i64), (.int .i64)])] Empty := ⟨fun (mId, mN, mSet, mAcc, mFail, mStage, mFirst) => t75 std mId mN mSet mAcc mFail mStage mFirst, Empty.elim⟩
theorem w75_ok : w75.Ok :=
  walk_ok (E := E75 std) ⟨tys_fit, fns_cons Try.func75 (by kernel_rfl) (fns_nil), sps_cons so80 (sps_nil), by kernel_rfl⟩ rfl rfl rfl (by kernel_rfl) w75 Empty.elim 47 (fun (mId, mN, mSet, mAcc, mFail, mStage, mFirst) => t75_ok std mId mN mSet mAcc mFail mStage mFirst) (fun y => y.elim)

def fn75 : ((Int × Int × Int × Int × Int × Int × Int)) → ((Int × Int × Int × Int × Int × Int × Int)) := fun (mId, mN, mSet, mAcc, mFail, mStage, mFirst) => (t75 std mId mN mSet mAcc mFail mStage mFirst).val (Ty.dflts [(.struct [(.int .i64), (.int .i64), (.int .i64), (.int .i64), (.int .i64), (.int .i64), (.int .i64)])])
def pre75 : ((Int × Int × Int × Int × Int × Int × Int)) → Bool := fun (a, b, c, d, e, f, g) => decide (0 ≤ a)
def sp75 : FSpec := ⟨[(.struct [(.int .i64), (.int .i64), (.int .i64), (.int .i64), (.int .i64), (.int .i64), (.int .i64)])], [(.struct [(.int .i64), (.int .i64), (.int .i64), (.int .i64), (.int .i64), (.int .i64), (.int .i64)])], pre75, fn75⟩
theorem eqs75 (mId : Int) (mN : Int) (mSet : Int) (mAcc : Int) (mFail : Int) (mStage : Int) (mFirst : Int) : (t75 std mId mN mSet mAcc mFail mStage mFirst).Eqs := by simp only [t75, LT.Eqs, and_self, true_and, and_true]
theorem pre75_ok {mId : Int} {mN : Int} {mSet : Int} {mAcc : Int} {mFail : Int} {mStage : Int} {mFirst : Int} (h : Ty.hass [(.struct [(.int .i64), (.int .i64), (.int .i64), (.int .i64), (.int .i64), (.int .i64), (.int .i64)])] (mId, mN, mSet, mAcc, mFail, mStage, mFirst)) (hp : pre75 (mId, mN, mSet, mAcc, mFail, mStage, mFirst) = true) : (t75 std mId mN mSet mAcc mFail mStage mFirst).pre = true := by
  simp only [t75, LT.pre, cond_iff, std_cmp_eql, std_cmp_neq, std_cmp_lss, std_cmp_leq, std_cmp_gtr, std_cmp_geq, std_and, std_not, std_beq, std_call, std_add, std_sub, std_conv, std_len, tt_eq, Bool.and_eq_true, Bool.or_eq_true, Bool.and_eq_false_iff, Bool.or_eq_false_iff, Bool.not_eq_true', Bool.not_eq_false', decide_eq_true_eq, decide_eq_false_iff_not, bne_iff_ne, beq_iff_eq, bne_eq_false_iff_eq, beq_eq_false_iff_ne]
  simp only [pre75, Bool.and_eq_true, decide_eq_true_eq] at hp
  simp only [Ty.hass, Ty.has, has64, has8] at h
  (repeat' (first | intro _ | constructor)) <;> (try omega)
theorem so75 : FSpec.Sound Try.prog 75 sp75 :=
  w75_ok.sound _ _ fun (mId, mN, mSet, mAcc, mFail, mStage, mFirst) hp h => LT.runs (d := Ty.dflts [(.struct [(.int .i64), (.int .i64), (.int .i64), (.int .i64), (.int .i64), (.int .i64), (.int .i64)])]) (eqs75 mId mN mSet mAcc mFail mStage mFirst) (pre75_ok h hp)
/-! ### metronome/metronomeref09.Own (function 26) -/
def t26 (A : Alg) (mId : Int) (mN : Int) (mSet : Int) (mAcc : Int) (mFail : Int) (mStage : Int) (mFirst : Int) : LT ((Int × Int × Int × Int × Int × Int × Int) × Int × Int) Empty :=
  .need (A.call (@tt ((Int × Int × Int × Int × Int × Int × Int))) (mId, mN, mSet, mAcc, mFail, mStage, mFirst)) (
 .br (A.cmp .neq (A.call fn35 (mId, mN, mSet, mAcc, mFail, mStage, mFirst)) 0)
  (.ret ((0, 0, 0, 0, 0, 0, 0), 0, (A.call fn35 (mId, mN, mSet, mAcc, mFail, mStage, mFirst))))
  (.br (A.cmp .leq mAcc mFail)
   (.ret ((mId, mN, mSet, mAcc, mFail, mStage, mFirst), 2, 0))
   (.need (A.call pre75 (mId, mN, mSet, mAcc, mFail, mStage, mFirst)) (
    .ret ((A.call fn75 (mId, mN, mSet, mAcc, mFail, mStage, mFirst)), 1, 0)))))
noncomputable def E26 (A : Alg) : Info (Ty.Ts [(.struct [(.int .i64), (.int .i64), (.int .i64), (.int .i64), (.int .i64), (.int .i64), (.int .i64)]), (.int .i64), (.int .i64)]) := { ti := tys, fns := [(26, Try.f26)], sps := [(35, sp35), (75, sp75)], stops := [], cuts := [], consts := [], fin := finD A [(.struct [(.int .i64), (.int .i64), (.int .i64), (.int .i64), (.int .i64), (.int .i64), (.int .i64)]), (.int .i64), (.int .i64)] }
theorem t26_ok (A : Alg) (mId : Int) (mN : Int) (mSet : Int) (mAcc : Int) (mFail : Int) (mStage : Int) (mFirst : Int) : run A (E26 A) 46 (startC 26 Try.f26 (dvals A [(.struct [(.int .i64), (.int .i64), (.int .i64), (.int .i64), (.int .i64), (.int .i64), (.int .i64)])] (mId, mN, mSet, mAcc, mFail, mStage, mFirst))) = (t26 A mId mN mSet mAcc mFail mStage mFirst).tr Empty.elim := by kernel_rfl
def w26 : Walk Try.prog 26 [(.struct [(.int .i64), (.int .i64), (.int .i64), (.int .i64), (.int .i64), (.int .i64), (.int .i64)])] [(.struct [(.int .i64), (.int .i64), (.int .i64), (.int .i64), (.int .i64), (.int .i64), (.int .i64)]), (.int .i64), (.int .i64)] Empty := ⟨fun (mId, mN, mSet, mAcc, mFail, mStage, mFirst) => t26 std mId mN mSet mAcc mFail mStage mFirst, Empty.elim⟩
theorem w26_ok : w26.Ok :=
  walk_ok (E := E26 std) ⟨tys_fit, fns_cons Try.func26 (by kernel_rfl) (fns_nil), sps_cons so35 (sps_cons so75 (sps_nil)), by kernel_rfl⟩ rfl rfl rfl (by kernel_rfl) w26 Empty.elim 46 (fun (mId, mN, mSet, mAcc, mFail, mStage, mFirst) => t26_ok std mId mN mSet mAcc mFail mStage mFirst) (fun y => y.elim)

def fn26 : ((Int × Int × Int × Int × Int × Int × Int)) → ((Int × Int × Int × Int × Int × Int × Int) × Int × Int) := fun (mId, mN, mSet, mAcc, mFail, mStage, mFirst) => (t26 std mId mN mSet mAcc mFail mStage mFirst).val (Ty.dflts [(.struct [(.int .i64), (.int .i64), (.int .i64), (.int .i64), (.int .i64), (.int .i64), (.int .i64)]), (.int .i64), (.int .i64)])
def sp26 : FSpec := ⟨[(.struct [(.int .i64), (.int .i64), (.int .i64), (.int .i64), (.int .i64), (.int .i64), (.int .i64)])], [(.struct [(.int .i64), (.int .i64), (.int .i64), (.int .i64), (.int .i64), (.int .i64), (.int .i64)]), (.int .i64), (.int .i64)], (@tt ((Int × Int × Int × Int × Int × Int × Int))), fn26⟩
theorem eqs26 (mId : Int) (mN : Int) (mSet : Int) (mAcc : Int) (mFail : Int) (mStage : Int) (mFirst : Int) : (t26 std mId mN mSet mAcc mFail mStage mFirst).Eqs := by simp only [t26, LT.Eqs, and_self, true_and, and_true]
theorem pre26_ok {mId : Int} {mN : Int} {mSet : Int} {mAcc : Int} {mFail : Int} {mStage : Int} {mFirst : Int} (h : Ty.hass [(.struct [(.int .i64), (.int .i64), (.int .i64), (.int .i64), (.int .i64), (.int .i64), (.int .i64)])] (mId, mN, mSet, mAcc, mFail, mStage, mFirst)) : (t26 std mId mN mSet mAcc mFail mStage mFirst).pre = true := by
  simp only [t26, pre75, LT.pre, cond_iff, std_cmp_eql, std_cmp_neq, std_cmp_lss, std_cmp_leq, std_cmp_gtr, std_cmp_geq, std_and, std_not, std_beq, std_call, std_add, std_sub, std_conv, std_len, tt_eq, Bool.and_eq_true, Bool.or_eq_true, Bool.and_eq_false_iff, Bool.or_eq_false_iff, Bool.not_eq_true', Bool.not_eq_false', decide_eq_true_eq, decide_eq_false_iff_not, bne_iff_ne, beq_iff_eq, bne_eq_false_iff_eq, beq_eq_false_iff_ne]
  simp only [Ty.hass, Ty.has, has64] at h
  (repeat' (first | intro _ | constructor)) <;> (try (have hm := fn35_zero.1 (by assumption); unfold okM at hm; omega))
theorem so26 : FSpec.Sound Try.prog 26 sp26 :=
  w26_ok.sound _ _ fun (mId, mN, mSet, mAcc, mFail, mStage, mFirst) _ h => LT.runs (d := Ty.dflts [(.struct [(.int .i64), (.int .i64), (.int .i64), (.int .i64), (.int .i64), (.int .i64), (.int .i64)]), (.int .i64), (.int .i64)]) (eqs26 mId mN mSet mAcc mFail mStage mFirst) (pre26_ok h)
/-! ### metronome/member.Join (function 27) -/
def t27 (A : Alg) (mId : Int) (mN : Int) (mSet : Int) (mAcc : Int) (mFail : Int) (mStage : Int) (mFirst : Int) : LT ((Int × Int × Int × Int × Int × Int × Int) × Int × Int) Empty :=
  .need (A.call (@tt ((Int × Int × Int × Int × Int × Int × Int))) (mId, mN, mSet, mAcc, mFail, mStage, mFirst)) (
 .br (A.cmp .eql (A.call fn34 (mId, mN, mSet, mAcc, mFail, mStage, mFirst)) 0)
  (.br (A.cmp .eql mAcc 0)
   (.br (A.cmp .eql mFail 0)
    (.ret ((mId, mN, mSet, mAcc, mFail, mStage, mFirst), 3, 0))
    (.need (A.call (@tt ((Int × Int × Int × Int × Int × Int × Int))) (mId, mN, mSet, mAcc, mFail, mStage, mFirst)) (
     .ret (A.call fn23 (mId, mN, mSet, mAcc, mFail, mStage, mFirst)))))
   (.need (A.call (@tt ((Int × Int × Int × Int × Int × Int × Int))) (mId, mN, mSet, mAcc, mFail, mStage, mFirst)) (
    .ret (A.call fn23 (mId, mN, mSet, mAcc, mFail, mStage, mFirst)))))
  (.need (A.call (@tt ((Int × Int × Int × Int × Int × Int × Int))) (mId, mN, mSet, mAcc, mFail, mStage, mFirst)) (
   .ret (A.call fn23 (mId, mN, mSet, mAcc, mFail, mStage, mFirst)))))
noncomputable def E27 (A : Alg) : Info (Ty.Ts [(.struct [(.int .i64), (.int .i64), (.int .i64), (.int .i64), (.int .i64), (.int .i64), (.int .i64)]), (.int .i64), (.int .i64)]) := { ti := tys, fns := [(27, Try.f27)], sps := [(23, sp23), (34, sp34)], stops := [], cuts := [], consts := [], fin := finD A [(.struct [(.int .i64), (.int .i64), (.int .i64), (.int .i64), (.int .i64), (.int .i64), (.int .i64)]), (.int .i64), (.int .i64)] }
theorem t27_ok (A : Alg) (mId : Int) (mN : Int) (mSet : Int) (mAcc : Int) (mFail : Int) (mStage : Int) (mFirst : Int) : run A (E27 A) 43 (startC 27 Try.f27 (dvals A [(.struct [(.int .i64), (.int .i64), (.int .i64), (.int .i64), (.int .i64), (.int .i64), (.int .i64)])] (mId, mN, mSet, mAcc, mFail, mStage, mFirst))) = (t27 A mId mN mSet mAcc mFail mStage mFirst).tr Empty.elim := by kernel_rfl
def w27 : Walk Try.prog 27 [(.struct [(.int .i64), (.int .i64), (.int .i64), (.int .i64), (.int .i64), (.int .i64), (.int .i64)])] [(.struct [(.int .i64), (.int .i64), (.int .i64), (.int .i64), (.int .i64), (.int .i64), (.int .i64)]), (.int .i64), (.int .i64)] Empty := ⟨fun (mId, mN, mSet, mAcc, mFail, mStage, mFirst) => t27 std mId mN mSet mAcc mFail mStage mFirst, Empty.elim⟩
theorem w27_ok : w27.Ok :=
  walk_ok (E := E27 std) ⟨tys_fit, fns_cons Try.func27 (by kernel_rfl) (fns_nil), sps_cons so23 (sps_cons so34 (sps_nil)), by kernel_rfl⟩ rfl rfl rfl (by kernel_rfl) w27 Empty.elim 43 (fun (mId, mN, mSet, mAcc, mFail, mStage, mFirst) => t27_ok std mId mN mSet mAcc mFail mStage mFirst) (fun y => y.elim)

def fn27 : ((Int × Int × Int × Int × Int × Int × Int)) → ((Int × Int × Int × Int × Int × Int × Int) × Int × Int) := fun (mId, mN, mSet, mAcc, mFail, mStage, mFirst) => (t27 std mId mN mSet mAcc mFail mStage mFirst).val (Ty.dflts [(.struct [(.int .i64), (.int .i64), (.int .i64), (.int .i64), (.int .i64), (.int .i64), (.int .i64)]), (.int .i64), (.int .i64)])
def sp27 : FSpec := ⟨[(.struct [(.int .i64), (.int .i64), (.int .i64), (.int .i64), (.int .i64), (.int .i64), (.int .i64)])], [(.struct [(.int .i64), (.int .i64), (.int .i64), (.int .i64), (.int .i64), (.int .i64), (.int .i64)]), (.int .i64), (.int .i64)], (@tt ((Int × Int × Int × Int × Int × Int × Int))), fn27⟩
theorem eqs27 (mId : Int) (mN : Int) (mSet : Int) (mAcc : Int) (mFail : Int) (mStage : Int) (mFirst : Int) : (t27 std mId mN mSet mAcc mFail mStage mFirst).Eqs := by simp only [t27, LT.Eqs, and_self, true_and, and_true]
theorem pre27_ok {mId : Int} {mN : Int} {mSet : Int} {mAcc : Int} {mFail : Int} {mStage : Int} {mFirst : Int} (h : Ty.hass [(.struct [(.int .i64), (.int .i64), (.int .i64), (.int .i64), (.int .i64), (.int .i64), (.int .i64)])] (mId, mN, mSet, mAcc, mFail, mStage, mFirst)) : (t27 std mId mN mSet mAcc mFail mStage mFirst).pre = true := by
  simp only [t27, LT.pre, cond_iff, std_cmp_eql, std_cmp_neq, std_cmp_lss, std_cmp_leq, std_cmp_gtr, std_cmp_geq, std_and, std_not, std_beq, std_call, std_add, std_sub, std_conv, std_len, tt_eq, Bool.and_eq_true, Bool.or_eq_true, Bool.and_eq_false_iff, Bool.or_eq_false_iff, Bool.not_eq_true', Bool.not_eq_false', decide_eq_true_eq, decide_eq_false_iff_not, bne_iff_ne, beq_iff_eq, bne_eq_false_iff_eq, beq_eq_false_iff_ne]
  simp only [Ty.hass, Ty.has, has64, has8] at h
  (repeat' (first | intro _ | constructor)) <;> (try omega)
theorem so27 : FSpec.Sound Try.prog 27 sp27 :=
  w27_ok.sound _ _ fun (mId, mN, mSet, mAcc, mFail, mStage, mFirst) _ h => LT.runs (d := Ty.dflts [(.struct [(.int .i64), (.int .i64), (.int .i64), (.int .i64), (.int .i64), (.int .i64), (.int .i64)]), (.int .i64), (.int .i64)]) (eqs27 mId mN mSet mAcc mFail mStage mFirst) (pre27_ok h)
/-! ### metronome/metronomeref09.Join (function 28) -/
def t28 (A : Alg) (mId : Int) (mN : Int) (mSet : Int) (mAcc : Int) (mFail : Int) (mStage : Int) (mFirst : Int) : LT ((Int × Int × Int × Int × Int × Int × Int) × Int × Int) Empty :=
  .need (A.call (@tt ((Int × Int × Int × Int × Int × Int × Int))) (mId, mN, mSet, mAcc, mFail, mStage, mFirst)) (
 .br (A.cmp .neq (A.call fn35 (mId, mN, mSet, mAcc, mFail, mStage, mFirst)) 0)
  (.ret ((0, 0, 0, 0, 0, 0, 0), 0, (A.call fn35 (mId, mN, mSet, mAcc, mFail, mStage, mFirst))))
  (.br (A.cmp .eql mAcc 0)
   (.br (A.cmp .eql mFail 0)
    (.ret ((mId, mN, mSet, mAcc, mFail, mStage, mFirst), 3, 0))
    (.need (A.call (@tt ((Int × Int × Int × Int × Int × Int × Int))) (mId, mN, mSet, mAcc, mFail, mStage, mFirst)) (
     .ret (A.call fn26 (mId, mN, mSet, mAcc, mFail, mStage, mFirst)))))
   (.need (A.call (@tt ((Int × Int × Int × Int × Int × Int × Int))) (mId, mN, mSet, mAcc, mFail, mStage, mFirst)) (
    .ret (A.call fn26 (mId, mN, mSet, mAcc, mFail, mStage, mFirst))))))
noncomputable def E28 (A : Alg) : Info (Ty.Ts [(.struct [(.int .i64), (.int .i64), (.int .i64), (.int .i64), (.int .i64), (.int .i64), (.int .i64)]), (.int .i64), (.int .i64)]) := { ti := tys, fns := [(28, Try.f28)], sps := [(26, sp26), (35, sp35)], stops := [], cuts := [], consts := [], fin := finD A [(.struct [(.int .i64), (.int .i64), (.int .i64), (.int .i64), (.int .i64), (.int .i64), (.int .i64)]), (.int .i64), (.int .i64)] }
theorem t28_ok (A : Alg) (mId : Int) (mN : Int) (mSet : Int) (mAcc : Int) (mFail : Int) (mStage : Int) (mFirst : Int) : run A (E28 A) 52 (startC 28 Try.f28 (dvals A [(.struct [(.int .i64), (.int .i64), (.int .i64), (.int .i64), (.int .i64), (.int .i64), (.int .i64)])] (mId, mN, mSet, mAcc, mFail, mStage, mFirst))) = (t28 A mId mN mSet mAcc mFail mStage mFirst).tr Empty.elim := by kernel_rfl
def w28 : Walk Try.prog 28 [(.struct [(.int .i64), (.int .i64), (.int .i64), (.int .i64), (.int .i64), (.int .i64), (.int .i64)])] [(.struct [(.int .i64), (.int .i64), (.int .i64), (.int .i64), (.int .i64), (.int .i64), (.int .i64)]), (.int .i64), (.int .i64)] Empty := ⟨fun (mId, mN, mSet, mAcc, mFail, mStage, mFirst) => t28 std mId mN mSet mAcc mFail mStage mFirst, Empty.elim⟩
theorem w28_ok : w28.Ok :=
  walk_ok (E := E28 std) ⟨tys_fit, fns_cons Try.func28 (by kernel_rfl) (fns_nil), sps_cons so26 (sps_cons so35 (sps_nil)), by kernel_rfl⟩ rfl rfl rfl (by kernel_rfl) w28 Empty.elim 52 (fun (mId, mN, mSet, mAcc, mFail, mStage, mFirst) => t28_ok std mId mN mSet mAcc mFail mStage mFirst) (fun y => y.elim)

def fn28 : ((Int × Int × Int × Int × Int × Int × Int)) → ((Int × Int × Int × Int × Int × Int × Int) × Int × Int) := fun (mId, mN, mSet, mAcc, mFail, mStage, mFirst) => (t28 std mId mN mSet mAcc mFail mStage mFirst).val (Ty.dflts [(.struct [(.int .i64), (.int .i64), (.int .i64), (.int .i64), (.int .i64), (.int .i64), (.int .i64)]), (.int .i64), (.int .i64)])
def sp28 : FSpec := ⟨[(.struct [(.int .i64), (.int .i64), (.int .i64), (.int .i64), (.int .i64), (.int .i64), (.int .i64)])], [(.struct [(.int .i64), (.int .i64), (.int .i64), (.int .i64), (.int .i64), (.int .i64), (.int .i64)]), (.int .i64), (.int .i64)], (@tt ((Int × Int × Int × Int × Int × Int × Int))), fn28⟩
theorem eqs28 (mId : Int) (mN : Int) (mSet : Int) (mAcc : Int) (mFail : Int) (mStage : Int) (mFirst : Int) : (t28 std mId mN mSet mAcc mFail mStage mFirst).Eqs := by simp only [t28, LT.Eqs, and_self, true_and, and_true]
theorem pre28_ok {mId : Int} {mN : Int} {mSet : Int} {mAcc : Int} {mFail : Int} {mStage : Int} {mFirst : Int} (h : Ty.hass [(.struct [(.int .i64), (.int .i64), (.int .i64), (.int .i64), (.int .i64), (.int .i64), (.int .i64)])] (mId, mN, mSet, mAcc, mFail, mStage, mFirst)) : (t28 std mId mN mSet mAcc mFail mStage mFirst).pre = true := by
  simp only [t28, LT.pre, cond_iff, std_cmp_eql, std_cmp_neq, std_cmp_lss, std_cmp_leq, std_cmp_gtr, std_cmp_geq, std_and, std_not, std_beq, std_call, std_add, std_sub, std_conv, std_len, tt_eq, Bool.and_eq_true, Bool.or_eq_true, Bool.and_eq_false_iff, Bool.or_eq_false_iff, Bool.not_eq_true', Bool.not_eq_false', decide_eq_true_eq, decide_eq_false_iff_not, bne_iff_ne, beq_iff_eq, bne_eq_false_iff_eq, beq_eq_false_iff_ne]
  simp only [Ty.hass, Ty.has, has64, has8] at h
  (repeat' (first | intro _ | constructor)) <;> (try omega)
theorem so28 : FSpec.Sound Try.prog 28 sp28 :=
  w28_ok.sound _ _ fun (mId, mN, mSet, mAcc, mFail, mStage, mFirst) _ h => LT.runs (d := Ty.dflts [(.struct [(.int .i64), (.int .i64), (.int .i64), (.int .i64), (.int .i64), (.int .i64), (.int .i64)]), (.int .i64), (.int .i64)]) (eqs28 mId mN mSet mAcc mFail mStage mFirst) (pre28_ok h)
theorem own_same {x : Int × Int × Int × Int × Int × Int × Int} (h : Ty.hass [(.struct [(.int .i64), (.int .i64), (.int .i64), (.int .i64), (.int .i64), (.int .i64), (.int .i64)])] x) : fn23 x = fn26 x := by
  obtain ⟨a, b, c, d, e, f, g⟩ := x
  simp only [fn23, fn26, t23, t26, LT.val, std_call, chk, fn75, t75]
  rcases fn35_range (x := (a, b, c, d, e, f, g)) with h | h <;> simp [h, std_cmp_neq]
  have hm := fn35_zero.1 h
  unfold okM at hm
  rw [fn80_shl (by omega) (by omega)]
theorem join_same {x : Int × Int × Int × Int × Int × Int × Int} (h : Ty.hass [(.struct [(.int .i64), (.int .i64), (.int .i64), (.int .i64), (.int .i64), (.int .i64), (.int .i64)])] x) : fn27 x = fn28 x := by
  have h0 := own_same h
  obtain ⟨a, b, c, d, e, f, g⟩ := x
  simp only [fn27, fn28, t27, t28, LT.val, std_call, chk]
  rcases fn35_range (x := (a, b, c, d, e, f, g)) with h | h <;> simp [h, std_cmp_neq, std_cmp_eql, h0]
  simp [fn26, t26, LT.val, std_call, h, std_cmp_neq]

/-! ### metronome/member.other (function 77) -/
def t77 (A : Alg) (mId : Int) (mN : Int) (mSet : Int) (mAcc : Int) (mFail : Int) (mStage : Int) (mFirst : Int) (node : Int) : LT Bool Empty :=
  .need (A.call (@tt (Int × Int)) (node, (A.bin .sub .i64 mN 1))) (
 .br (A.call fn81 (node, (A.bin .sub .i64 mN 1)))
  (.ret (A.cmp .neq node mId))
  (.ret false))
noncomputable def E77 (A : Alg) : Info (Ty.Ts [.bool]) := { ti := tys, fns := [(77, Try.f77)], sps := [(81, sp81)], stops := [], cuts := [], consts := [], fin := finD A [.bool] }
theorem t77_ok (A : Alg) (mId : Int) (mN : Int) (mSet : Int) (mAcc : Int) (mFail : Int) (mStage : Int) (mFirst : Int) (node : Int) : run A (E77 A) 26 (startC 77 Try.f77 (dvals A [(.struct [(.int .i64), (.int .i64), (.int .i64), (.int .i64), (.int .i64), (.int .i64), (.int .i64)]), (.int .i64)] ((mId, mN, mSet, mAcc, mFail, mStage, mFirst), node))) = (t77 A mId mN mSet mAcc mFail mStage mFirst node).tr Empty.elim := by kernel_rfl
def w77 : Walk Try.prog 77 [(.struct [(.int .i64), (.int .i64), (.int .i64), (.int .i64), (.int .i64), (.int .i64), (.int .i64)]), (.int .i64)] [.bool] Empty := ⟨fun ((mId, mN, mSet, mAcc, mFail, mStage, mFirst), node) => t77 std mId mN mSet mAcc mFail mStage mFirst node, Empty.elim⟩
theorem w77_ok : w77.Ok :=
  walk_ok (E := E77 std) ⟨tys_fit, fns_cons Try.func77 (by kernel_rfl) (fns_nil), sps_cons so81 (sps_nil), by kernel_rfl⟩ rfl rfl rfl (by kernel_rfl) w77 Empty.elim 26 (fun ((mId, mN, mSet, mAcc, mFail, mStage, mFirst), node) => t77_ok std mId mN mSet mAcc mFail mStage mFirst node) (fun y => y.elim)

def fn77 : ((Int × Int × Int × Int × Int × Int × Int) × Int) → Bool := fun ((mId, mN, mSet, mAcc, mFail, mStage, mFirst), node) => (t77 std mId mN mSet mAcc mFail mStage mFirst node).val (Ty.dflts [.bool])
def sp77 : FSpec := ⟨[(.struct [(.int .i64), (.int .i64), (.int .i64), (.int .i64), (.int .i64), (.int .i64), (.int .i64)]), (.int .i64)], [.bool], (@tt ((Int × Int × Int × Int × Int × Int × Int) × Int)), fn77⟩
theorem eqs77 (mId : Int) (mN : Int) (mSet : Int) (mAcc : Int) (mFail : Int) (mStage : Int) (mFirst : Int) (node : Int) : (t77 std mId mN mSet mAcc mFail mStage mFirst node).Eqs := by simp only [t77, LT.Eqs, and_self, true_and, and_true]
theorem pre77_ok {mId : Int} {mN : Int} {mSet : Int} {mAcc : Int} {mFail : Int} {mStage : Int} {mFirst : Int} {node : Int} (h : Ty.hass [(.struct [(.int .i64), (.int .i64), (.int .i64), (.int .i64), (.int .i64), (.int .i64), (.int .i64)]), (.int .i64)] ((mId, mN, mSet, mAcc, mFail, mStage, mFirst), node)) : (t77 std mId mN mSet mAcc mFail mStage mFirst node).pre = true := by
  simp only [t77, LT.pre, cond_iff, std_cmp_eql, std_cmp_neq, std_cmp_lss, std_cmp_leq, std_cmp_gtr, std_cmp_geq, std_and, std_not, std_beq, std_call, std_add, std_sub, std_conv, std_len, tt_eq, Bool.and_eq_true, Bool.or_eq_true, Bool.and_eq_false_iff, Bool.or_eq_false_iff, Bool.not_eq_true', Bool.not_eq_false', decide_eq_true_eq, decide_eq_false_iff_not, bne_iff_ne, beq_iff_eq, bne_eq_false_iff_eq, beq_eq_false_iff_ne]
  simp only [Ty.hass, Ty.has, has64, has8] at h
  (repeat' (first | intro _ | constructor)) <;> (try omega)
theorem so77 : FSpec.Sound Try.prog 77 sp77 :=
  w77_ok.sound _ _ fun ((mId, mN, mSet, mAcc, mFail, mStage, mFirst), node) _ h => LT.runs (d := Ty.dflts [.bool]) (eqs77 mId mN mSet mAcc mFail mStage mFirst node) (pre77_ok h)
/-! ### metronome/member.asks (function 73) -/
def t73 (A : Alg) (mId : Int) (mN : Int) (mSet : Int) (mAcc : Int) (mFail : Int) (mStage : Int) (mFirst : Int) (sender : Int) : LT Int Empty :=
  .need (A.call (@tt ((Int × Int × Int × Int × Int × Int × Int))) (mId, mN, mSet, mAcc, mFail, mStage, mFirst)) (
 .br (A.cmp .neq (A.call fn34 (mId, mN, mSet, mAcc, mFail, mStage, mFirst)) 0)
  (.ret (A.call fn34 (mId, mN, mSet, mAcc, mFail, mStage, mFirst)))
  (.need (A.call (@tt ((Int × Int × Int × Int × Int × Int × Int) × Int)) ((mId, mN, mSet, mAcc, mFail, mStage, mFirst), sender)) (
   .br (A.not (A.call fn77 ((mId, mN, mSet, mAcc, mFail, mStage, mFirst), sender)))
    (.ret 2)
    (.ret 0))))
noncomputable def E73 (A : Alg) : Info (Ty.Ts [(.int .i64)]) := { ti := tys, fns := [(73, Try.f73)], sps := [(34, sp34), (77, sp77)], stops := [], cuts := [], consts := [], fin := finD A [(.int .i64)] }
theorem t73_ok (A : Alg) (mId : Int) (mN : Int) (mSet : Int) (mAcc : Int) (mFail : Int) (mStage : Int) (mFirst : Int) (sender : Int) : run A (E73 A) 39 (startC 73 Try.f73 (dvals A [(.struct [(.int .i64), (.int .i64), (.int .i64), (.int .i64), (.int .i64), (.int .i64), (.int .i64)]), (.int .i64)] ((mId, mN, mSet, mAcc, mFail, mStage, mFirst), sender))) = (t73 A mId mN mSet mAcc mFail mStage mFirst sender).tr Empty.elim := by kernel_rfl
def w73 : Walk Try.prog 73 [(.struct [(.int .i64), (.int .i64), (.int .i64), (.int .i64), (.int .i64), (.int .i64), (.int .i64)]), (.int .i64)] [(.int .i64)] Empty := ⟨fun ((mId, mN, mSet, mAcc, mFail, mStage, mFirst), sender) => t73 std mId mN mSet mAcc mFail mStage mFirst sender, Empty.elim⟩
theorem w73_ok : w73.Ok :=
  walk_ok (E := E73 std) ⟨tys_fit, fns_cons Try.func73 (by kernel_rfl) (fns_nil), sps_cons so34 (sps_cons so77 (sps_nil)), by kernel_rfl⟩ rfl rfl rfl (by kernel_rfl) w73 Empty.elim 39 (fun ((mId, mN, mSet, mAcc, mFail, mStage, mFirst), sender) => t73_ok std mId mN mSet mAcc mFail mStage mFirst sender) (fun y => y.elim)

def fn73 : ((Int × Int × Int × Int × Int × Int × Int) × Int) → Int := fun ((mId, mN, mSet, mAcc, mFail, mStage, mFirst), sender) => (t73 std mId mN mSet mAcc mFail mStage mFirst sender).val (Ty.dflts [(.int .i64)])
def sp73 : FSpec := ⟨[(.struct [(.int .i64), (.int .i64), (.int .i64), (.int .i64), (.int .i64), (.int .i64), (.int .i64)]), (.int .i64)], [(.int .i64)], (@tt ((Int × Int × Int × Int × Int × Int × Int) × Int)), fn73⟩
theorem eqs73 (mId : Int) (mN : Int) (mSet : Int) (mAcc : Int) (mFail : Int) (mStage : Int) (mFirst : Int) (sender : Int) : (t73 std mId mN mSet mAcc mFail mStage mFirst sender).Eqs := by simp only [t73, LT.Eqs, and_self, true_and, and_true]
theorem pre73_ok {mId : Int} {mN : Int} {mSet : Int} {mAcc : Int} {mFail : Int} {mStage : Int} {mFirst : Int} {sender : Int} (h : Ty.hass [(.struct [(.int .i64), (.int .i64), (.int .i64), (.int .i64), (.int .i64), (.int .i64), (.int .i64)]), (.int .i64)] ((mId, mN, mSet, mAcc, mFail, mStage, mFirst), sender)) : (t73 std mId mN mSet mAcc mFail mStage mFirst sender).pre = true := by
  simp only [t73, LT.pre, cond_iff, std_cmp_eql, std_cmp_neq, std_cmp_lss, std_cmp_leq, std_cmp_gtr, std_cmp_geq, std_and, std_not, std_beq, std_call, std_add, std_sub, std_conv, std_len, tt_eq, Bool.and_eq_true, Bool.or_eq_true, Bool.and_eq_false_iff, Bool.or_eq_false_iff, Bool.not_eq_true', Bool.not_eq_false', decide_eq_true_eq, decide_eq_false_iff_not, bne_iff_ne, beq_iff_eq, bne_eq_false_iff_eq, beq_eq_false_iff_ne]
  simp only [Ty.hass, Ty.has, has64, has8] at h
  (repeat' (first | intro _ | constructor)) <;> (try omega)
theorem so73 : FSpec.Sound Try.prog 73 sp73 :=
  w73_ok.sound _ _ fun ((mId, mN, mSet, mAcc, mFail, mStage, mFirst), sender) _ h => LT.runs (d := Ty.dflts [(.int .i64)]) (eqs73 mId mN mSet mAcc mFail mStage mFirst sender) (pre73_ok h)
/-! ### metronome/member.sets (function 78) -/
def t78 (A : Alg) (mId : Int) (mN : Int) (mSet : Int) (mAcc : Int) (mFail : Int) (mStage : Int) (mFirst : Int) (sender : Int) : LT (List Int × Int) Empty :=
  .need (A.cmp .leq 0 mId) (
 .need (A.cmp .leq 0 mFirst) (
  .need (A.cmp .leq 0 sender) (
   .br (A.cmp .eql mStage 0)
    (.ret ([(A.bin .or .i64 mSet (A.bin .shl .i64 1 sender)), 0], 1))
    (.br (A.cmp .eql mStage 1)
     (.ret ([(A.bin .or .i64 (A.bin .or .i64 mSet (A.bin .shl .i64 1 sender)) (A.bin .shl .i64 1 mId)), (A.bin .andNot .i64 (A.bin .or .i64 mSet (A.bin .shl .i64 1 sender)) (A.bin .shl .i64 1 mId))], 2))
     (.br (A.cmp .eql sender mFirst)
      (.ret ([(A.bin .or .i64 (A.bin .or .i64 mSet (A.bin .shl .i64 1 sender)) (A.bin .shl .i64 1 mId)), 0], 1))
      (.ret ([(A.bin .andNot .i64 (A.bin .or .i64 (A.bin .or .i64 mSet (A.bin .shl .i64 1 sender)) (A.bin .shl .i64 1 mId)) (A.bin .shl .i64 1 mFirst)), (A.bin .andNot .i64 (A.bin .or .i64 (A.bin .or .i64 mSet (A.bin .shl .i64 1 sender)) (A.bin .shl .i64 1 mFirst)) (A.bin .shl .i64 1 mId))], 2)))))))
noncomputable def E78 (A : Alg) : Info (Ty.Ts [(.arr 2 (.int .i64)), (.int .i64)]) := { ti := tys, fns := [(78, Try.f78)], sps := [], stops := [], cuts := [], consts := [], fin := finD A [(.arr 2 (.int .i64)), (.int .i64)] }
theorem t78_ok (A : Alg) (mId : Int) (mN : Int) (mSet : Int) (mAcc : Int) (mFail : Int) (mStage : Int) (mFirst : Int) (sender : Int) : run A (E78 A) 77 (startC 78 Try.f78 (dvals A [(.struct [(.int .i64), (.int .i64), (.int .i64), (.int .i64), (.int .i64), (.int .i64), (.int .i64)]), (.int .i64)] ((mId, mN, mSet, mAcc, mFail, mStage, mFirst), sender))) = (t78 A mId mN mSet mAcc mFail mStage mFirst sender).tr Empty.elim := by kernel_rfl
def w78 : Walk Try.prog 78 [(.struct [(.int .i64), (.int .i64), (.int .i64), (.int .i64), (.int .i64), (.int .i64), (.int .i64)]), (.int .i64)] [(.arr 2 (.int .i64)), (.int .i64)] Empty := ⟨fun ((mId, mN, mSet, mAcc, mFail, mStage, mFirst), sender) => t78 std mId mN mSet mAcc mFail mStage mFirst sender, Empty.elim⟩
theorem w78_ok : w78.Ok :=
  walk_ok (E := E78 std) ⟨tys_fit, fns_cons Try.func78 (by kernel_rfl) (fns_nil), sps_nil, by kernel_rfl⟩ rfl rfl rfl (by kernel_rfl) w78 Empty.elim 77 (fun ((mId, mN, mSet, mAcc, mFail, mStage, mFirst), sender) => t78_ok std mId mN mSet mAcc mFail mStage mFirst sender) (fun y => y.elim)

def fn78 : ((Int × Int × Int × Int × Int × Int × Int) × Int) → (List Int × Int) := fun ((mId, mN, mSet, mAcc, mFail, mStage, mFirst), sender) => (t78 std mId mN mSet mAcc mFail mStage mFirst sender).val (Ty.dflts [(.arr 2 (.int .i64)), (.int .i64)])
def pre78 : ((Int × Int × Int × Int × Int × Int × Int) × Int) → Bool := fun ((a, b, c, d, e, f, g), s) => decide (0 ≤ a) && (decide (0 ≤ g) && decide (0 ≤ s))
def sp78 : FSpec := ⟨[(.struct [(.int .i64), (.int .i64), (.int .i64), (.int .i64), (.int .i64), (.int .i64), (.int .i64)]), (.int .i64)], [(.arr 2 (.int .i64)), (.int .i64)], pre78, fn78⟩
theorem eqs78 (mId : Int) (mN : Int) (mSet : Int) (mAcc : Int) (mFail : Int) (mStage : Int) (mFirst : Int) (sender : Int) : (t78 std mId mN mSet mAcc mFail mStage mFirst sender).Eqs := by simp only [t78, LT.Eqs, and_self, true_and, and_true]
theorem pre78_ok {mId : Int} {mN : Int} {mSet : Int} {mAcc : Int} {mFail : Int} {mStage : Int} {mFirst : Int} {sender : Int} (h : Ty.hass [(.struct [(.int .i64), (.int .i64), (.int .i64), (.int .i64), (.int .i64), (.int .i64), (.int .i64)]), (.int .i64)] ((mId, mN, mSet, mAcc, mFail, mStage, mFirst), sender)) (hp : pre78 ((mId, mN, mSet, mAcc, mFail, mStage, mFirst), sender) = true) : (t78 std mId mN mSet mAcc mFail mStage mFirst sender).pre = true := by
  simp only [t78, LT.pre, cond_iff, std_cmp_eql, std_cmp_neq, std_cmp_lss, std_cmp_leq, std_cmp_gtr, std_cmp_geq, std_and, std_not, std_beq, std_call, std_add, std_sub, std_conv, std_len, tt_eq, Bool.and_eq_true, Bool.or_eq_true, Bool.and_eq_false_iff, Bool.or_eq_false_iff, Bool.not_eq_true', Bool.not_eq_false', decide_eq_true_eq, decide_eq_false_iff_not, bne_iff_ne, beq_iff_eq, bne_eq_false_iff_eq, beq_eq_false_iff_ne]
  simp only [pre78, Bool.and_eq_true, decide_eq_true_eq] at hp
  simp only [Ty.hass, Ty.has, has64, has8] at h
  (repeat' (first | intro _ | constructor)) <;> (try omega)
theorem so78 : FSpec.Sound Try.prog 78 sp78 :=
  w78_ok.sound _ _ fun ((mId, mN, mSet, mAcc, mFail, mStage, mFirst), sender) hp h => LT.runs (d := Ty.dflts [(.arr 2 (.int .i64)), (.int .i64)]) (eqs78 mId mN mSet mAcc mFail mStage mFirst sender) (pre78_ok h hp)
theorem fn77_iff {a b c d e f g s : Int} (h0 : 4 ≤ b) (h1 : b ≤ 8) : fn77 ((a, b, c, d, e, f, g), s) = true ↔ 0 ≤ s ∧ s < b ∧ s ≠ a := by
  simp only [fn77, t77, LT.val, cond_eq_of, std_cmp_eql, std_cmp_neq, std_cmp_lss, std_cmp_leq, std_cmp_gtr, std_cmp_geq, std_and, std_not, std_beq, std_call, std_add, std_sub, std_conv, std_len, tt_eq, Bool.and_eq_true, Bool.or_eq_true, Bool.and_eq_false_iff, Bool.or_eq_false_iff, Bool.not_eq_true', Bool.not_eq_false', decide_eq_true_eq, decide_eq_false_iff_not, bne_iff_ne, beq_iff_eq, bne_eq_false_iff_eq, beq_eq_false_iff_ne, fn81_eq]
  simp
  rw [w64 (by omega) (by omega)]
  omega
theorem fn78_len {x : (Int × Int × Int × Int × Int × Int × Int) × Int} : 0 ≤ (fn78 x).2 ∧ (fn78 x).2 ≤ 2 := by
  obtain ⟨⟨a, b, c, d, e, f, g⟩, s⟩ := x
  exact LT.val_all (p := fun y : List Int × Int => 0 ≤ y.2 ∧ y.2 ≤ 2) (by decide) (by simp [t78, LT.all])

/-! ### metronome/member.view (function 74) -/
structure P74c0 where
  a0 : Int
  a1 : Int
  a2 : Int
  a4 : Int
  a5 : Int
  a6 : Int
  a7 : Int
  a8 : Int
  a9 : Int
  a10 : Int
  a11 : Int
  a12 : Int
  a13 : Int
  a14 : Int
  a15 : Int
  a16 : Int
  a17 : Int
  a18 : Int
  a19 : Int
  a20 : Int
  a21 : Int
  a22 : Int
  a23 : Int
  a24 : Bool
  a25 : Int
  a26 : Int
  a27 : Int
  a28 : Int
  a29 : Int
  a30 : Int
  a31 : Int
  a32 : Int
  a33 : Int
  a34 : Int
  a35 : Int
  a36 : Int
  a37 : Int
  a38 : Int
  a39 : Int
  a40 : Int
inductive Y74 where
  | c0 (p : P74c0) (a3 : Int)
noncomputable def cfg74 : Y74 → Cfg
  | .c0 p a3 => { frames := [{ fn := 76, n := 37, env := (Env.put (Env.put (Env.put (Env.put .leaf 0 (.yield 0)) 24 (.osl 1 1 false p.a0 p.a1)) 25 (.int .i64 false p.a2)) 26 (.int .i64 false a3)), todo := [.inLoop (Code.way (bodyOf Try.f76) [1, 1, 1, 0, 0]), .inBlock 0], marks := [], rnd := none }, { fn := 74, n := 19, env := (Env.put (Env.put .leaf 6 (.ptr 2 0)) 7 (.ptr 3 0)), todo := [.inRF 0, .inBlock 0, .code (Code.way (bodyOf Try.f74) [1, 1])], marks := [4], rnd := none }], mem := [.loop { fn := 74, n := 19, env := (Env.put (Env.put (Env.put (Env.put (Env.put (Env.put (Env.put (Env.put (Env.put (Env.put .leaf 0 (.agg [.int .i64 false p.a4, .int .i64 false p.a5, .int .i64 false p.a6, .int .i64 false p.a7, .int .i64 false p.a8, .int .i64 false p.a9, .int .i64 false p.a10])) 1 (.int .i64 false p.a11)) 2 (.int .i64 false p.a12)) 3 (.ptr 5 0)) 5 (.ptr 6 0)) 6 (.ptr 2 0)) 7 (.ptr 3 0)) 10 (.agg [.int .i64 false p.a13, .int .i64 false p.a14, .int .i64 false p.a15, .int .i64 false p.a16, .int .i64 false p.a17, .int .i64 false p.a18, .int .i64 false p.a19])) 11 (.int .i64 false p.a20)) 12 (.fn 76 [] [.ptr 7 0, .ptr 8 0])), params := [13, 14], assign := (Code.way (bodyOf Try.f74) [1, 0, 1, 0, 0]), body := (Code.way (bodyOf Try.f74) [1, 0, 1, 0, 1]), state := 0, pending := none }, .flat false [.int .i64 false p.a21, .int .i64 false p.a22], .flat false [.int .i64 false p.a23], .flat false [.bool false p.a24], .dfr, .flat false [.int .i64 false p.a25, .int .i64 false p.a26, .int .i64 false p.a27, .int .i64 false p.a28, .int .i64 false p.a29, .int .i64 false p.a30, .int .i64 false p.a31], .flat false [.int .i64 false p.a32], .flat false [.int .i64 false p.a33, .int .i64 false p.a34, .int .i64 false p.a35, .int .i64 false p.a36, .int .i64 false p.a37, .int .i64 false p.a38, .int .i64 false p.a39], .flat false [.int .i64 false p.a40], .dead] }

def t74 (A : Alg) (mId : Int) (mN : Int) (mSet : Int) (mAcc : Int) (mFail : Int) (mStage : Int) (mFirst : Int) (sender : Int) (which : Int) : LT (Int × Bool) Y74 :=
  .need (A.call (@tt ((Int × Int × Int × Int × Int × Int × Int))) (mId, mN, mSet, mAcc, mFail, mStage, mFirst)) (
 .br (A.cmp .neq (A.call fn34 (mId, mN, mSet, mAcc, mFail, mStage, mFirst)) 0)
  (.ret (0, false))
  (.need (A.call (@tt ((Int × Int × Int × Int × Int × Int × Int) × Int)) ((mId, mN, mSet, mAcc, mFail, mStage, mFirst), sender)) (
   .br (A.not (A.call fn77 ((mId, mN, mSet, mAcc, mFail, mStage, mFirst), sender)))
    (.ret (0, false))
    (.need (A.call pre78 ((mId, mN, mSet, mAcc, mFail, mStage, mFirst), sender)) (
     .need (A.and (A.cmp .leq 0 0) (A.and (A.cmp .leq 0 (A.call fn78 ((mId, mN, mSet, mAcc, mFail, mStage, mFirst), sender)).2) (A.cmp .leq (A.call fn78 ((mId, mN, mSet, mAcc, mFail, mStage, mFirst), sender)).2 2))) (
      .more (.c0 ⟨(A.bin .add .i64 0 0), (A.bin .sub .i64 (A.call fn78 ((mId, mN, mSet, mAcc, mFail, mStage, mFirst), sender)).2 0), (A.bin .sub .i64 (A.call fn78 ((mId, mN, mSet, mAcc, mFail, mStage, mFirst), sender)).2 0), mId, mN, mSet, mAcc, mFail, mStage, mFirst, sender, which, mId, mN, mSet, mAcc, mFail, mStage, mFirst, sender, (A.nth (.int .i64) (A.call fn78 ((mId, mN, mSet, mAcc, mFail, mStage, mFirst), sender)).1 0 : Int), (A.nth (.int .i64) (A.call fn78 ((mId, mN, mSet, mAcc, mFail, mStage, mFirst), sender)).1 1 : Int), 0, false, mId, mN, mSet, mAcc, mFail, mStage, mFirst, which, mId, mN, mSet, mAcc, mFail, mStage, mFirst, sender⟩ 0)))))))
def s74 (A : Alg) : Y74 → LT (Int × Bool) Y74
  | .c0 p a3 =>
    .br (A.cmp .lss a3 p.a2)
    (.need (A.and (A.cmp .leq 0 a3) (A.cmp .lss a3 p.a1)) (
     .br (A.cmp .eql a3 p.a32)
      (.ret ((A.nth (.int .i64) [p.a21, p.a22] (A.bin .add .i64 p.a0 a3) : Int), true))
      (.more (.c0 p (A.bin .add .i64 a3 1)))))
    (.ret (0, false))
noncomputable def E74 (A : Alg) : Info (Ty.Ts [(.int .i64), .bool]) := { ti := tys, fns := [(30, Try.f30), (74, Try.f74), (76, Try.f76)], sps := [(34, sp34), (77, sp77), (78, sp78)], stops := [⟨76, 3, [[0, 24, 25, 26], [6, 7]]⟩], cuts := [], consts := [], fin := finD A [(.int .i64), .bool] }
theorem t74_ok (A : Alg) (mId : Int) (mN : Int) (mSet : Int) (mAcc : Int) (mFail : Int) (mStage : Int) (mFirst : Int) (sender : Int) (which : Int) : run A (E74 A) 70 (startC 74 Try.f74 (dvals A [(.struct [(.int .i64), (.int .i64), (.int .i64), (.int .i64), (.int .i64), (.int .i64), (.int .i64)]), (.int .i64), (.int .i64)] ((mId, mN, mSet, mAcc, mFail, mStage, mFirst), sender, which))) = (t74 A mId mN mSet mAcc mFail mStage mFirst sender which).tr cfg74 := by kernel_rfl
theorem s74_ok (A : Alg) : ∀ y, ∃ n, run A (E74 A) n (advance (E74 A).sps (cfg74 y)) = (s74 A y).tr cfg74
  | .c0 p a3 => ⟨57, by kernel_rfl⟩
def w74 : Walk Try.prog 74 [(.struct [(.int .i64), (.int .i64), (.int .i64), (.int .i64), (.int .i64), (.int .i64), (.int .i64)]), (.int .i64), (.int .i64)] [(.int .i64), .bool] Y74 := ⟨fun ((mId, mN, mSet, mAcc, mFail, mStage, mFirst), sender, which) => t74 std mId mN mSet mAcc mFail mStage mFirst sender which, s74 std⟩
theorem w74_ok : w74.Ok :=
  walk_ok (E := E74 std) ⟨tys_fit, fns_cons Try.func30 (by kernel_rfl) (fns_cons Try.func74 (by kernel_rfl) (fns_cons Try.func76 (by kernel_rfl) (fns_nil))), sps_cons so34 (sps_cons so77 (sps_cons so78 (sps_nil))), by kernel_rfl⟩ rfl rfl rfl (by kernel_rfl) w74 cfg74 70 (fun ((mId, mN, mSet, mAcc, mFail, mStage, mFirst), sender, which) => t74_ok std mId mN mSet mAcc mFail mStage mFirst sender which) (s74_ok std)

def fn74 : ((Int × Int × Int × Int × Int × Int × Int) × Int × Int) → (Int × Bool) := fun (m, s, k) => bif fn34 m != 0 then (0, false) else bif !fn77 (m, s) then (0, false) else bif decide (0 ≤ k) && decide (k < (fn78 (m, s)).2) then ((fn78 (m, s)).1.getD k.toNat 0, true) else (0, false)
def sp74 : FSpec := ⟨[(.struct [(.int .i64), (.int .i64), (.int .i64), (.int .i64), (.int .i64), (.int .i64), (.int .i64)]), (.int .i64), (.int .i64)], [(.int .i64), .bool], (@tt ((Int × Int × Int × Int × Int × Int × Int) × Int × Int)), fn74⟩
theorem run74 {mId : Int} {mN : Int} {mSet : Int} {mAcc : Int} {mFail : Int} {mStage : Int} {mFirst : Int} {sender : Int} {which : Int} (h : Ty.hass [(.struct [(.int .i64), (.int .i64), (.int .i64), (.int .i64), (.int .i64), (.int .i64), (.int .i64)]), (.int .i64), (.int .i64)] ((mId, mN, mSet, mAcc, mFail, mStage, mFirst), sender, which)) : Runs (s74 std) (t74 std mId mN mSet mAcc mFail mStage mFirst sender which) (fn74 ((mId, mN, mSet, mAcc, mFail, mStage, mFirst), sender, which)) := by
  unfold t74 fn74
  refine .need rfl (.br ?_)
  simp only [std_call, std_cmp_neq, std_not]
  cases h1 : fn34 (mId, mN, mSet, mAcc, mFail, mStage, mFirst) != 0
  · simp only [cond_false]
    rw [bne_eq_false_iff_eq] at h1
    have hm := fn34_zero.1 h1
    unfold okM at hm
    refine .need rfl (.br ?_)
    cases h2 : fn77 ((mId, mN, mSet, mAcc, mFail, mStage, mFirst), sender)
    · exact .ret _
    · simp only [Bool.not_true, cond_false]
      have h3 := (fn77_iff (by omega) (by omega)).1 h2
      have hq := fn78_len (x := ((mId, mN, mSet, mAcc, mFail, mStage, mFirst), sender))
      refine .need (by simp [pre78]; omega) ?_
      generalize fn78 ((mId, mN, mSet, mAcc, mFail, mStage, mFirst), sender) = q at *
      obtain ⟨l, n⟩ := q
      simp only at hq
      refine .need (by simp only [std_and, std_cmp_leq, Bool.and_eq_true, decide_eq_true_eq]; omega) ?_
      have hn : n = 0 ∨ n = 1 ∨ n = 2 := by omega
      have hk : which = 0 ∨ which = 1 ∨ (which ≠ 0 ∧ which ≠ 1) := by omega
      have e0 : IntKind.i64.wrap 0 = 0 := by decide
      have e1 : IntKind.i64.wrap 1 = 1 := by decide
      have e2 : IntKind.i64.wrap 2 = 2 := by decide
      rcases hn with rfl | rfl | rfl <;> rcases hk with rfl | rfl | ⟨k0, k1⟩
      all_goals first
        | (simp [runs_more, s74, runs_br, runs_need, runs_ret, std_cmp_lss, std_cmp_leq, std_cmp_eql, std_and, std_add, std_sub, std_nth, e0, e1, e2, Ty.dflt]; done)
        | (simp [runs_more, s74, runs_br, runs_need, runs_ret, std_cmp_lss, std_cmp_leq, std_cmp_eql, std_and, std_add, std_sub, e0, e1, e2]; rfl)
        | (have b0 : (0 == which) = false := by simp <;> omega
           have b1 : (1 == which) = false := by simp <;> omega
           have c0 : (decide (0 ≤ which) && decide (which < 0)) = false := by simp <;> omega
           have c1 : (decide (0 ≤ which) && decide (which < 1)) = false := by simp <;> omega
           have c2 : (decide (0 ≤ which) && decide (which < 2)) = false := by simp <;> omega
           simp only [c0, c1, c2]
           simp [runs_more, s74, runs_br, runs_need, runs_ret, std_cmp_lss, std_cmp_leq, std_cmp_eql, std_and, std_add, std_sub, std_nth, e0, e1, e2, b0, b1])
  · exact .ret _
theorem so74 : FSpec.Sound Try.prog 74 sp74 :=
  w74_ok.sound _ _ fun ((mId, mN, mSet, mAcc, mFail, mStage, mFirst), sender, which) _ h => run74 h
theorem fn73_zero {a b c d e f g s : Int} : fn73 ((a, b, c, d, e, f, g), s) = 0 ↔ okM a b c d e f g ∧ 0 ≤ s ∧ s < b ∧ s ≠ a := by
  simp only [fn73, t73, LT.val, cond_eq_of, std_cmp_eql, std_cmp_neq, std_cmp_lss, std_cmp_leq, std_cmp_gtr, std_cmp_geq, std_and, std_not, std_beq, std_call, std_add, std_sub, std_conv, std_len, tt_eq, Bool.and_eq_true, Bool.or_eq_true, Bool.and_eq_false_iff, Bool.or_eq_false_iff, Bool.not_eq_true', Bool.not_eq_false', decide_eq_true_eq, decide_eq_false_iff_not, bne_iff_ne, beq_iff_eq, bne_eq_false_iff_eq, beq_eq_false_iff_ne]
  constructor
  · intro h
    rcases h with ⟨h1, h2⟩ | ⟨h1, h2⟩
    · exact absurd h2 h1
    · have hm := fn34_zero.1 h1
      have hm' := hm
      unfold okM at hm'
      rcases h2 with ⟨h2, h3⟩ | ⟨h2, _⟩
      · cases h3
      · exact ⟨hm, (fn77_iff (by omega) (by omega)).1 h2⟩
  · rintro ⟨hm, hs⟩
    have hm' := hm
    unfold okM at hm'
    exact .inr ⟨fn34_zero.2 hm, .inr ⟨(fn77_iff (by omega) (by omega)).2 hs, trivial⟩⟩

/-! ### metronome/member.In (function 24) -/
def t24 (A : Alg) (mId : Int) (mN : Int) (mSet : Int) (mAcc : Int) (mFail : Int) (mStage : Int) (mFirst : Int) : LT Bool Empty :=
  .need (A.call (@tt ((Int × Int × Int × Int × Int × Int × Int))) (mId, mN, mSet, mAcc, mFail, mStage, mFirst)) (
 .br (A.cmp .eql (A.call fn34 (mId, mN, mSet, mAcc, mFail, mStage, mFirst)) 0)
  (.need (A.cmp .leq 0 mId) (
   .ret (A.cmp .eql (A.bin .and .i64 (A.bin .shr .i64 mSet mId) 1) 1)))
  (.ret false))
noncomputable def E24 (A : Alg) : Info (Ty.Ts [.bool]) := { ti := tys, fns := [(24, Try.f24)], sps := [(34, sp34)], stops := [], cuts := [], consts := [], fin := finD A [.bool] }
theorem t24_ok (A : Alg) (mId : Int) (mN : Int) (mSet : Int) (mAcc : Int) (mFail : Int) (mStage : Int) (mFirst : Int) : run A (E24 A) 27 (startC 24 Try.f24 (dvals A [(.struct [(.int .i64), (.int .i64), (.int .i64), (.int .i64), (.int .i64), (.int .i64), (.int .i64)])] (mId, mN, mSet, mAcc, mFail, mStage, mFirst))) = (t24 A mId mN mSet mAcc mFail mStage mFirst).tr Empty.elim := by kernel_rfl
def w24 : Walk Try.prog 24 [(.struct [(.int .i64), (.int .i64), (.int .i64), (.int .i64), (.int .i64), (.int .i64), (.int .i64)])] [.bool] Empty := ⟨fun (mId, mN, mSet, mAcc, mFail, mStage, mFirst) => t24 std mId mN mSet mAcc mFail mStage mFirst, Empty.elim⟩
theorem w24_ok : w24.Ok :=
  walk_ok (E := E24 std) ⟨tys_fit, fns_cons Try.func24 (by kernel_rfl) (fns_nil), sps_cons so34 (sps_nil), by kernel_rfl⟩ rfl rfl rfl (by kernel_rfl) w24 Empty.elim 27 (fun (mId, mN, mSet, mAcc, mFail, mStage, mFirst) => t24_ok std mId mN mSet mAcc mFail mStage mFirst) (fun y => y.elim)

def fn24 : ((Int × Int × Int × Int × Int × Int × Int)) → Bool := fun (mId, mN, mSet, mAcc, mFail, mStage, mFirst) => (t24 std mId mN mSet mAcc mFail mStage mFirst).val (Ty.dflts [.bool])
def sp24 : FSpec := ⟨[(.struct [(.int .i64), (.int .i64), (.int .i64), (.int .i64), (.int .i64), (.int .i64), (.int .i64)])], [.bool], (@tt ((Int × Int × Int × Int × Int × Int × Int))), fn24⟩
theorem eqs24 (mId : Int) (mN : Int) (mSet : Int) (mAcc : Int) (mFail : Int) (mStage : Int) (mFirst : Int) : (t24 std mId mN mSet mAcc mFail mStage mFirst).Eqs := by simp only [t24, LT.Eqs, and_self, true_and, and_true]
theorem pre24_ok {mId : Int} {mN : Int} {mSet : Int} {mAcc : Int} {mFail : Int} {mStage : Int} {mFirst : Int} (h : Ty.hass [(.struct [(.int .i64), (.int .i64), (.int .i64), (.int .i64), (.int .i64), (.int .i64), (.int .i64)])] (mId, mN, mSet, mAcc, mFail, mStage, mFirst)) : (t24 std mId mN mSet mAcc mFail mStage mFirst).pre = true := by
  simp only [t24, LT.pre, cond_iff, std_cmp_eql, std_cmp_neq, std_cmp_lss, std_cmp_leq, std_cmp_gtr, std_cmp_geq, std_and, std_not, std_beq, std_call, std_add, std_sub, std_conv, std_len, tt_eq, Bool.and_eq_true, Bool.or_eq_true, Bool.and_eq_false_iff, Bool.or_eq_false_iff, Bool.not_eq_true', Bool.not_eq_false', decide_eq_true_eq, decide_eq_false_iff_not, bne_iff_ne, beq_iff_eq, bne_eq_false_iff_eq, beq_eq_false_iff_ne]
  simp only [Ty.hass, Ty.has, has64] at h
  (repeat' (first | intro _ | constructor)) <;> (try (have hm := fn34_zero.1 (by assumption); unfold okM at hm; omega))
theorem so24 : FSpec.Sound Try.prog 24 sp24 :=
  w24_ok.sound _ _ fun (mId, mN, mSet, mAcc, mFail, mStage, mFirst) _ h => LT.runs (d := Ty.dflts [.bool]) (eqs24 mId mN mSet mAcc mFail mStage mFirst) (pre24_ok h)
/-! ### metronome/member.Good (function 25) -/
def t25 (A : Alg) (mId : Int) (mN : Int) (mSet : Int) (mAcc : Int) (mFail : Int) (mStage : Int) (mFirst : Int) (sender : Int) (which : Int) : LT ((Int × Int × Int × Int × Int × Int × Int) × Int) Empty :=
  .need (A.call (@tt ((Int × Int × Int × Int × Int × Int × Int) × Int)) ((mId, mN, mSet, mAcc, mFail, mStage, mFirst), sender)) (
 .br (A.cmp .neq (A.call fn73 ((mId, mN, mSet, mAcc, mFail, mStage, mFirst), sender)) 0)
  (.ret ((0, 0, 0, 0, 0, 0, 0), (A.call fn73 ((mId, mN, mSet, mAcc, mFail, mStage, mFirst), sender))))
  (.need (A.call (@tt ((Int × Int × Int × Int × Int × Int × Int) × Int × Int)) ((mId, mN, mSet, mAcc, mFail, mStage, mFirst), sender, which)) (
   .br (A.not (A.call fn74 ((mId, mN, mSet, mAcc, mFail, mStage, mFirst), sender, which)).2)
    (.ret ((0, 0, 0, 0, 0, 0, 0), 2))
    (.br (A.cmp .eql mStage 1)
     (.br (A.cmp .eql which 1)
      (.need (A.cmp .leq 0 sender) (
       .ret ((mId, mN, (A.bin .or .i64 mSet (A.bin .shl .i64 1 sender)), mAcc, mFail, 2, sender), 0)))
      (.br (A.cmp .eql mStage 2)
       (.br (A.cmp .neq sender mFirst)
        (.ret ((mId, mN, (A.call fn74 ((mId, mN, mSet, mAcc, mFail, mStage, mFirst), sender, which)).1, (A.mn (A.bin .add .i64 mAcc 1) 1048576), (A.mn (A.bin .add .i64 mFail 1) 1048576), 0, 0), 0))
        (.ret ((mId, mN, (A.call fn74 ((mId, mN, mSet, mAcc, mFail, mStage, mFirst), sender, which)).1, (A.mn (A.bin .add .i64 mAcc 1) 1048576), mFail, 0, 0), 0)))
       (.ret ((mId, mN, (A.call fn74 ((mId, mN, mSet, mAcc, mFail, mStage, mFirst), sender, which)).1, (A.mn (A.bin .add .i64 mAcc 1) 1048576), mFail, 0, 0), 0))))
     (.br (A.cmp .eql mStage 2)
      (.br (A.cmp .neq sender mFirst)
       (.ret ((mId, mN, (A.call fn74 ((mId, mN, mSet, mAcc, mFail, mStage, mFirst), sender, which)).1, (A.mn (A.bin .add .i64 mAcc 1) 1048576), (A.mn (A.bin .add .i64 mFail 1) 1048576), 0, 0), 0))
       (.ret ((mId, mN, (A.call fn74 ((mId, mN, mSet, mAcc, mFail, mStage, mFirst), sender, which)).1, (A.mn (A.bin .add .i64 mAcc 1) 1048576), mFail, 0, 0), 0)))
      (.ret ((mId, mN, (A.call fn74 ((mId, mN, mSet, mAcc, mFail, mStage, mFirst), sender, which)).1, (A.mn (A.bin .add .i64 mAcc 1) 1048576), mFail, 0, 0), 0)))))))
noncomputable def E25 (A : Alg) : Info (Ty.Ts [(.struct [(.int .i64), (.int .i64), (.int .i64), (.int .i64), (.int .i64), (.int .i64), (.int .i64)]), (.int .i64)]) := { ti := tys, fns := [(25, Try.f25)], sps := [(73, sp73), (74, sp74)], stops := [], cuts := [], consts := [], fin := finD A [(.struct [(.int .i64), (.int .i64), (.int .i64), (.int .i64), (.int .i64), (.int .i64), (.int .i64)]), (.int .i64)] }
theorem t25_ok (A : Alg) (mId : Int) (mN : Int) (mSet : Int) (mAcc : Int) (mFail : Int) (mStage : Int) (mFirst : Int) (sender : Int) (which : Int) : run A (E25 A) 107 (startC 25 Try.f25 (dvals A [(.struct [(.int .i64), (.int .i64), (.int .i64), (.int .i64), (.int .i64), (.int .i64), (.int .i64)]), (.int .i64), (.int .i64)] ((mId, mN, mSet, mAcc, mFail, mStage, mFirst), sender, which))) = (t25 A mId mN mSet mAcc mFail mStage mFirst sender which).tr Empty.elim := by kernel_rfl
def w25 : Walk Try.prog 25 [(.struct [(.int .i64), (.int .i64), (.int .i64), (.int .i64), (.int .i64), (.int .i64), (.int .i64)]), (.int .i64), (.int .i64)] [(.struct [(.int .i64), (.int .i64), (.int .i64), (.int .i64), (.int .i64), (.int .i64), (.int .i64)]), (.int .i64)] Empty := ⟨fun ((mId, mN, mSet, mAcc, mFail, mStage, mFirst), sender, which) => t25 std mId mN mSet mAcc mFail mStage mFirst sender which, Empty.elim⟩
theorem w25_ok : w25.Ok :=
  walk_ok (E := E25 std) ⟨tys_fit, fns_cons Try.func25 (by kernel_rfl) (fns_nil), sps_cons so73 (sps_cons so74 (sps_nil)), by kernel_rfl⟩ rfl rfl rfl (by kernel_rfl) w25 Empty.elim 107 (fun ((mId, mN, mSet, mAcc, mFail, mStage, mFirst), sender, which) => t25_ok std mId mN mSet mAcc mFail mStage mFirst sender which) (fun y => y.elim)

def fn25 : ((Int × Int × Int × Int × Int × Int × Int) × Int × Int) → ((Int × Int × Int × Int × Int × Int × Int) × Int) := fun ((mId, mN, mSet, mAcc, mFail, mStage, mFirst), sender, which) => (t25 std mId mN mSet mAcc mFail mStage mFirst sender which).val (Ty.dflts [(.struct [(.int .i64), (.int .i64), (.int .i64), (.int .i64), (.int .i64), (.int .i64), (.int .i64)]), (.int .i64)])
def sp25 : FSpec := ⟨[(.struct [(.int .i64), (.int .i64), (.int .i64), (.int .i64), (.int .i64), (.int .i64), (.int .i64)]), (.int .i64), (.int .i64)], [(.struct [(.int .i64), (.int .i64), (.int .i64), (.int .i64), (.int .i64), (.int .i64), (.int .i64)]), (.int .i64)], (@tt ((Int × Int × Int × Int × Int × Int × Int) × Int × Int)), fn25⟩
theorem eqs25 (mId : Int) (mN : Int) (mSet : Int) (mAcc : Int) (mFail : Int) (mStage : Int) (mFirst : Int) (sender : Int) (which : Int) : (t25 std mId mN mSet mAcc mFail mStage mFirst sender which).Eqs := by simp only [t25, LT.Eqs, and_self, true_and, and_true]
theorem pre25_ok {mId : Int} {mN : Int} {mSet : Int} {mAcc : Int} {mFail : Int} {mStage : Int} {mFirst : Int} {sender : Int} {which : Int} (h : Ty.hass [(.struct [(.int .i64), (.int .i64), (.int .i64), (.int .i64), (.int .i64), (.int .i64), (.int .i64)]), (.int .i64), (.int .i64)] ((mId, mN, mSet, mAcc, mFail, mStage, mFirst), sender, which)) : (t25 std mId mN mSet mAcc mFail mStage mFirst sender which).pre = true := by
  simp only [t25, LT.pre, cond_iff, std_cmp_eql, std_cmp_neq, std_cmp_lss, std_cmp_leq, std_cmp_gtr, std_cmp_geq, std_and, std_not, std_beq, std_call, std_add, std_sub, std_conv, std_len, tt_eq, Bool.and_eq_true, Bool.or_eq_true, Bool.and_eq_false_iff, Bool.or_eq_false_iff, Bool.not_eq_true', Bool.not_eq_false', decide_eq_true_eq, decide_eq_false_iff_not, bne_iff_ne, beq_iff_eq, bne_eq_false_iff_eq, beq_eq_false_iff_ne]
  simp only [Ty.hass, Ty.has, has64] at h
  (repeat' (first | intro _ | constructor)) <;> (try (have hm := (fn73_zero.1 (by assumption)); unfold okM at hm; omega))
theorem so25 : FSpec.Sound Try.prog 25 sp25 :=
  w25_ok.sound _ _ fun ((mId, mN, mSet, mAcc, mFail, mStage, mFirst), sender, which) _ h => LT.runs (d := Ty.dflts [(.struct [(.int .i64), (.int .i64), (.int .i64), (.int .i64), (.int .i64), (.int .i64), (.int .i64)]), (.int .i64)]) (eqs25 mId mN mSet mAcc mFail mStage mFirst sender which) (pre25_ok h)
/-! ### metronome/member.Null (function 38) -/
def t38 (A : Alg) (mId : Int) (mN : Int) (mSet : Int) (mAcc : Int) (mFail : Int) (mStage : Int) (mFirst : Int) (sender : Int) : LT ((Int × Int × Int × Int × Int × Int × Int) × Int) Empty :=
  .need (A.call (@tt ((Int × Int × Int × Int × Int × Int × Int) × Int)) ((mId, mN, mSet, mAcc, mFail, mStage, mFirst), sender)) (
 .br (A.cmp .neq (A.call fn73 ((mId, mN, mSet, mAcc, mFail, mStage, mFirst), sender)) 0)
  (.ret ((0, 0, 0, 0, 0, 0, 0), (A.call fn73 ((mId, mN, mSet, mAcc, mFail, mStage, mFirst), sender))))
  (.need (A.cmp .leq 0 sender) (
   .br (A.cmp .eql mStage 2)
    (.br (A.cmp .eql mFirst sender)
     (.ret ((mId, mN, (A.bin .andNot .i64 mSet (A.bin .shl .i64 1 sender)), mAcc, mFail, 1, 0), 0))
     (.ret ((mId, mN, (A.bin .andNot .i64 mSet (A.bin .shl .i64 1 sender)), mAcc, mFail, mStage, mFirst), 0)))
    (.ret ((mId, mN, (A.bin .andNot .i64 mSet (A.bin .shl .i64 1 sender)), mAcc, mFail, mStage, mFirst), 0)))))
noncomputable def E38 (A : Alg) : Info (Ty.Ts [(.struct [(.int .i64), (.int .i64), (.int .i64), (.int .i64), (.int .i64), (.int .i64), (.int .i64)]), (.int .i64)]) := { ti := tys, fns := [(38, Try.f38)], sps := [(73, sp73)], stops := [], cuts := [], consts := [], fin := finD A [(.struct [(.int .i64), (.int .i64), (.int .i64), (.int .i64), (.int .i64), (.int .i64), (.int .i64)]), (.int .i64)] }
theorem t38_ok (A : Alg) (mId : Int) (mN : Int) (mSet : Int) (mAcc : Int) (mFail : Int) (mStage : Int) (mFirst : Int) (sender : Int) : run A (E38 A) 63 (startC 38 Try.f38 (dvals A [(.struct [(.int .i64), (.int .i64), (.int .i64), (.int .i64), (.int .i64), (.int .i64), (.int .i64)]), (.int .i64)] ((mId, mN, mSet, mAcc, mFail, mStage, mFirst), sender))) = (t38 A mId mN mSet mAcc mFail mStage mFirst sender).tr Empty.elim := by kernel_rfl
def w38 : Walk Try.prog 38 [(.struct [(.int .i64), (.int .i64), (.int .i64), (.int .i64), (.int .i64), (.int .i64), (.int .i64)]), (.int .i64)] [(.struct [(.int .i64), (.int .i64), (.int .i64), (.int .i64), (.int .i64), (.int .i64), (.int .i64)]), (.int .i64)] Empty := ⟨fun ((mId, mN, mSet, mAcc, mFail, mStage, mFirst), sender) => t38 std mId mN mSet mAcc mFail mStage mFirst sender, Empty.elim⟩
theorem w38_ok : w38.Ok :=
  walk_ok (E := E38 std) ⟨tys_fit, fns_cons Try.func38 (by kernel_rfl) (fns_nil), sps_cons so73 (sps_nil), by kernel_rfl⟩ rfl rfl rfl (by kernel_rfl) w38 Empty.elim 63 (fun ((mId, mN, mSet, mAcc, mFail, mStage, mFirst), sender) => t38_ok std mId mN mSet mAcc mFail mStage mFirst sender) (fun y => y.elim)

def fn38 : ((Int × Int × Int × Int × Int × Int × Int) × Int) → ((Int × Int × Int × Int × Int × Int × Int) × Int) := fun ((mId, mN, mSet, mAcc, mFail, mStage, mFirst), sender) => (t38 std mId mN mSet mAcc mFail mStage mFirst sender).val (Ty.dflts [(.struct [(.int .i64), (.int .i64), (.int .i64), (.int .i64), (.int .i64), (.int .i64), (.int .i64)]), (.int .i64)])
def sp38 : FSpec := ⟨[(.struct [(.int .i64), (.int .i64), (.int .i64), (.int .i64), (.int .i64), (.int .i64), (.int .i64)]), (.int .i64)], [(.struct [(.int .i64), (.int .i64), (.int .i64), (.int .i64), (.int .i64), (.int .i64), (.int .i64)]), (.int .i64)], (@tt ((Int × Int × Int × Int × Int × Int × Int) × Int)), fn38⟩
theorem eqs38 (mId : Int) (mN : Int) (mSet : Int) (mAcc : Int) (mFail : Int) (mStage : Int) (mFirst : Int) (sender : Int) : (t38 std mId mN mSet mAcc mFail mStage mFirst sender).Eqs := by simp only [t38, LT.Eqs, and_self, true_and, and_true]
theorem pre38_ok {mId : Int} {mN : Int} {mSet : Int} {mAcc : Int} {mFail : Int} {mStage : Int} {mFirst : Int} {sender : Int} (h : Ty.hass [(.struct [(.int .i64), (.int .i64), (.int .i64), (.int .i64), (.int .i64), (.int .i64), (.int .i64)]), (.int .i64)] ((mId, mN, mSet, mAcc, mFail, mStage, mFirst), sender)) : (t38 std mId mN mSet mAcc mFail mStage mFirst sender).pre = true := by
  simp only [t38, LT.pre, cond_iff, std_cmp_eql, std_cmp_neq, std_cmp_lss, std_cmp_leq, std_cmp_gtr, std_cmp_geq, std_and, std_not, std_beq, std_call, std_add, std_sub, std_conv, std_len, tt_eq, Bool.and_eq_true, Bool.or_eq_true, Bool.and_eq_false_iff, Bool.or_eq_false_iff, Bool.not_eq_true', Bool.not_eq_false', decide_eq_true_eq, decide_eq_false_iff_not, bne_iff_ne, beq_iff_eq, bne_eq_false_iff_eq, beq_eq_false_iff_ne]
  simp only [Ty.hass, Ty.has, has64] at h
  (repeat' (first | intro _ | constructor)) <;> (try (have hm := (fn73_zero.1 (by assumption)); unfold okM at hm; omega))
theorem so38 : FSpec.Sound Try.prog 38 sp38 :=
  w38_ok.sound _ _ fun ((mId, mN, mSet, mAcc, mFail, mStage, mFirst), sender) _ h => LT.runs (d := Ty.dflts [(.struct [(.int .i64), (.int .i64), (.int .i64), (.int .i64), (.int .i64), (.int .i64), (.int .i64)]), (.int .i64)]) (eqs38 mId mN mSet mAcc mFail mStage mFirst sender) (pre38_ok h)
/-! ### metronome/member.Bad (function 39) -/
def t39 (A : Alg) (mId : Int) (mN : Int) (mSet : Int) (mAcc : Int) (mFail : Int) (mStage : Int) (mFirst : Int) (sender : Int) : LT ((Int × Int × Int × Int × Int × Int × Int) × Int) Empty :=
  .need (A.call (@tt ((Int × Int × Int × Int × Int × Int × Int) × Int)) ((mId, mN, mSet, mAcc, mFail, mStage, mFirst), sender)) (
 .br (A.cmp .eql (A.call fn38 ((mId, mN, mSet, mAcc, mFail, mStage, mFirst), sender)).2 0)
  (.ret (((A.call fn38 ((mId, mN, mSet, mAcc, mFail, mStage, mFirst), sender)).1.1, (A.call fn38 ((mId, mN, mSet, mAcc, mFail, mStage, mFirst), sender)).1.2.1, (A.call fn38 ((mId, mN, mSet, mAcc, mFail, mStage, mFirst), sender)).1.2.2.1, (A.call fn38 ((mId, mN, mSet, mAcc, mFail, mStage, mFirst), sender)).1.2.2.2.1, (A.mn (A.bin .add .i64 (A.call fn38 ((mId, mN, mSet, mAcc, mFail, mStage, mFirst), sender)).1.2.2.2.2.1 1) 1048576), (A.call fn38 ((mId, mN, mSet, mAcc, mFail, mStage, mFirst), sender)).1.2.2.2.2.2), (A.call fn38 ((mId, mN, mSet, mAcc, mFail, mStage, mFirst), sender)).2))
  (.ret (A.call fn38 ((mId, mN, mSet, mAcc, mFail, mStage, mFirst), sender))))
noncomputable def E39 (A : Alg) : Info (Ty.Ts [(.struct [(.int .i64), (.int .i64), (.int .i64), (.int .i64), (.int .i64), (.int .i64), (.int .i64)]), (.int .i64)]) := { ti := tys, fns := [(39, Try.f39)], sps := [(38, sp38)], stops := [], cuts := [], consts := [], fin := finD A [(.struct [(.int .i64), (.int .i64), (.int .i64), (.int .i64), (.int .i64), (.int .i64), (.int .i64)]), (.int .i64)] }
theorem t39_ok (A : Alg) (mId : Int) (mN : Int) (mSet : Int) (mAcc : Int) (mFail : Int) (mStage : Int) (mFirst : Int) (sender : Int) : run A (E39 A) 45 (startC 39 Try.f39 (dvals A [(.struct [(.int .i64), (.int .i64), (.int .i64), (.int .i64), (.int .i64), (.int .i64), (.int .i64)]), (.int .i64)] ((mId, mN, mSet, mAcc, mFail, mStage, mFirst), sender))) = (t39 A mId mN mSet mAcc mFail mStage mFirst sender).tr Empty.elim := by kernel_rfl
def w39 : Walk Try.prog 39 [(.struct [(.int .i64), (.int .i64), (.int .i64), (.int .i64), (.int .i64), (.int .i64), (.int .i64)]), (.int .i64)] [(.struct [(.int .i64), (.int .i64), (.int .i64), (.int .i64), (.int .i64), (.int .i64), (.int .i64)]), (.int .i64)] Empty := ⟨fun ((mId, mN, mSet, mAcc, mFail, mStage, mFirst), sender) => t39 std mId mN mSet mAcc mFail mStage mFirst sender, Empty.elim⟩
theorem w39_ok : w39.Ok :=
  walk_ok (E := E39 std) ⟨tys_fit, fns_cons Try.func39 (by kernel_rfl) (fns_nil), sps_cons so38 (sps_nil), by kernel_rfl⟩ rfl rfl rfl (by kernel_rfl) w39 Empty.elim 45 (fun ((mId, mN, mSet, mAcc, mFail, mStage, mFirst), sender) => t39_ok std mId mN mSet mAcc mFail mStage mFirst sender) (fun y => y.elim)

def fn39 : ((Int × Int × Int × Int × Int × Int × Int) × Int) → ((Int × Int × Int × Int × Int × Int × Int) × Int) := fun ((mId, mN, mSet, mAcc, mFail, mStage, mFirst), sender) => (t39 std mId mN mSet mAcc mFail mStage mFirst sender).val (Ty.dflts [(.struct [(.int .i64), (.int .i64), (.int .i64), (.int .i64), (.int .i64), (.int .i64), (.int .i64)]), (.int .i64)])
def sp39 : FSpec := ⟨[(.struct [(.int .i64), (.int .i64), (.int .i64), (.int .i64), (.int .i64), (.int .i64), (.int .i64)]), (.int .i64)], [(.struct [(.int .i64), (.int .i64), (.int .i64), (.int .i64), (.int .i64), (.int .i64), (.int .i64)]), (.int .i64)], (@tt ((Int × Int × Int × Int × Int × Int × Int) × Int)), fn39⟩
theorem eqs39 (mId : Int) (mN : Int) (mSet : Int) (mAcc : Int) (mFail : Int) (mStage : Int) (mFirst : Int) (sender : Int) : (t39 std mId mN mSet mAcc mFail mStage mFirst sender).Eqs := by simp only [t39, LT.Eqs, and_self, true_and, and_true]
theorem pre39_ok {mId : Int} {mN : Int} {mSet : Int} {mAcc : Int} {mFail : Int} {mStage : Int} {mFirst : Int} {sender : Int} (h : Ty.hass [(.struct [(.int .i64), (.int .i64), (.int .i64), (.int .i64), (.int .i64), (.int .i64), (.int .i64)]), (.int .i64)] ((mId, mN, mSet, mAcc, mFail, mStage, mFirst), sender)) : (t39 std mId mN mSet mAcc mFail mStage mFirst sender).pre = true := by
  simp only [t39, LT.pre, cond_iff, std_cmp_eql, std_cmp_neq, std_cmp_lss, std_cmp_leq, std_cmp_gtr, std_cmp_geq, std_and, std_not, std_beq, std_call, std_add, std_sub, std_conv, std_len, tt_eq, Bool.and_eq_true, Bool.or_eq_true, Bool.and_eq_false_iff, Bool.or_eq_false_iff, Bool.not_eq_true', Bool.not_eq_false', decide_eq_true_eq, decide_eq_false_iff_not, bne_iff_ne, beq_iff_eq, bne_eq_false_iff_eq, beq_eq_false_iff_ne]
  simp only [Ty.hass, Ty.has, has64, has8] at h
  (repeat' (first | intro _ | constructor)) <;> (try omega)
theorem so39 : FSpec.Sound Try.prog 39 sp39 :=
  w39_ok.sound _ _ fun ((mId, mN, mSet, mAcc, mFail, mStage, mFirst), sender) _ h => LT.runs (d := Ty.dflts [(.struct [(.int .i64), (.int .i64), (.int .i64), (.int .i64), (.int .i64), (.int .i64), (.int .i64)]), (.int .i64)]) (eqs39 mId mN mSet mAcc mFail mStage mFirst sender) (pre39_ok h)
/-! ## A right frame, on a view that may be -/
def inc (d : Int) : Int := if d < 1048576 then d + 1 else 1048576
theorem mn_inc {d : Int} (h0 : 0 ≤ d) (h1 : d ≤ 1048576) : std.mn (std.bin .add .i64 d 1) 1048576 = inc d := by
  rw [std_mn, std_add, w64 (by omega) (by omega), inc]
  split <;> split <;> omega
section
variable {a b c d e f g s : Int}
theorem fn78_0 : fn78 ((a, b, c, d, e, 0, g), s) = ([insB c s, 0], 1) := rfl
theorem fn78_1 : fn78 ((a, b, c, d, e, 1, g), s) = ([insB (insB c s) a, delB (insB c s) a], 2) := rfl
theorem fn78_2a : fn78 ((a, b, c, d, e, 2, g), g) = ([insB (insB c g) a, 0], 1) := by
  simp [fn78, t78, LT.val, std_cmp_eql, insB]
theorem fn78_2b (h : s ≠ g) : fn78 ((a, b, c, d, e, 2, g), s) = ([delB (insB (insB c s) a) g, delB (insB (insB c s) g) a], 2) := by
  have hb : (s == g) = false := by simpa using h
  simp [fn78, t78, LT.val, std_cmp_eql, insB, delB, hb]
theorem fn74_ok (h : okM a b c d e f g) (h0 : 0 ≤ s) (h1 : s < b) (h2 : s ≠ a) (k : Int) : fn74 ((a, b, c, d, e, f, g), s, k) =
    bif decide (0 ≤ k) && decide (k < (fn78 ((a, b, c, d, e, f, g), s)).2) then ((fn78 ((a, b, c, d, e, f, g), s)).1.getD k.toNat 0, true) else (0, false) := by
  have hm := h
  unfold okM at hm
  simp only [fn74, fn34_zero.2 h, (fn77_iff (by omega) (by omega)).2 ⟨h0, h1, h2⟩, bne_self_eq_false, Bool.not_true, cond_false]
theorem good_0 (h : okM a b c d e 0 g) (h0 : 0 ≤ s) (h1 : s < b) (h2 : s ≠ a) : fn25 ((a, b, c, d, e, 0, g), s, 0) = ((a, b, insB c s, inc d, e, 0, 0), 0) := by
  have hm := h
  unfold okM at hm
  simp [fn25, t25, LT.val, std_call, std_cmp_neq, std_cmp_eql, std_not, fn73_zero.2 ⟨h, h0, h1, h2⟩, fn74_ok h h0 h1 h2, fn78_0, mn_inc (d := d) (by omega) (by omega)]
theorem good_1 (h : okM a b c d e 1 g) (h0 : 0 ≤ s) (h1 : s < b) (h2 : s ≠ a) : fn25 ((a, b, c, d, e, 1, g), s, 0) = ((a, b, insB (insB c s) a, inc d, e, 0, 0), 0) := by
  have hm := h
  unfold okM at hm
  simp [fn25, t25, LT.val, std_call, std_cmp_neq, std_cmp_eql, std_not, fn73_zero.2 ⟨h, h0, h1, h2⟩, fn74_ok h h0 h1 h2, fn78_1, mn_inc (d := d) (by omega) (by omega)]
theorem good_11 (h : okM a b c d e 1 g) (h0 : 0 ≤ s) (h1 : s < b) (h2 : s ≠ a) : fn25 ((a, b, c, d, e, 1, g), s, 1) = ((a, b, insB c s, d, e, 2, s), 0) := by
  simp [fn25, t25, LT.val, std_call, std_cmp_neq, std_cmp_eql, std_not, fn73_zero.2 ⟨h, h0, h1, h2⟩, fn74_ok h h0 h1 h2, fn78_1, insB]
theorem good_2a (h : okM a b c d e 2 g) (h0 : 0 ≤ g) (h1 : g < b) (h2 : g ≠ a) : fn25 ((a, b, c, d, e, 2, g), g, 0) = ((a, b, insB (insB c g) a, inc d, e, 0, 0), 0) := by
  have hm := h
  unfold okM at hm
  simp [fn25, t25, LT.val, std_call, std_cmp_neq, std_cmp_eql, std_not, fn73_zero.2 ⟨h, h0, h1, h2⟩, fn74_ok h h0 h1 h2, fn78_2a, mn_inc (d := d) (by omega) (by omega)]
theorem good_2b (h : okM a b c d e 2 g) (h0 : 0 ≤ s) (h1 : s < b) (h2 : s ≠ a) (h3 : s ≠ g) : fn25 ((a, b, c, d, e, 2, g), s, 0) = ((a, b, delB (insB (insB c s) a) g, inc d, inc e, 0, 0), 0) := by
  have hm := h
  unfold okM at hm
  simp [fn25, t25, LT.val, std_call, std_cmp_neq, std_cmp_eql, std_not, fn73_zero.2 ⟨h, h0, h1, h2⟩, fn74_ok h h0 h1 h2, fn78_2b h3, show (s != g) = true from by simpa using h3, mn_inc (d := d) (by omega) (by omega), mn_inc (d := e) (by omega) (by omega)]
theorem good_2c (h : okM a b c d e 2 g) (h0 : 0 ≤ s) (h1 : s < b) (h2 : s ≠ a) (h3 : s ≠ g) : fn25 ((a, b, c, d, e, 2, g), s, 1) = ((a, b, delB (insB (insB c s) g) a, inc d, inc e, 0, 0), 0) := by
  have hm := h
  unfold okM at hm
  simp [fn25, t25, LT.val, std_call, std_cmp_neq, std_cmp_eql, std_not, fn73_zero.2 ⟨h, h0, h1, h2⟩, fn74_ok h h0 h1 h2, fn78_2b h3, show (s != g) = true from by simpa using h3, mn_inc (d := d) (by omega) (by omega), mn_inc (d := e) (by omega) (by omega)]
/-- A view in its own slot that sends. -/
theorem own_send (h : okM a b c d e f g) (h1 : e < d) : fn23 (a, b, c, d, e, f, g) = ((a, b, insB c a, 1, 0, 1, 0), 1, 0) := by
  simp [fn23, t23, LT.val, std_call, std_cmp_neq, std_cmp_leq, fn34_zero.2 h, insB, show ¬ d ≤ e from by omega]
theorem own_stop (h : okM a b c d e f g) (h1 : d ≤ e) : fn23 (a, b, c, d, e, f, g) = ((a, b, c, d, e, f, g), 2, 0) := by
  simp [fn23, t23, LT.val, std_call, std_cmp_neq, std_cmp_leq, fn34_zero.2 h, h1]
theorem null_1 (h : okM a b c d e f g) (h0 : 0 ≤ s) (h1 : s < b) (h2 : s ≠ a) (h3 : f ≠ 2) : fn38 ((a, b, c, d, e, f, g), s) = ((a, b, delB c s, d, e, f, g), 0) := by
  have hb : (f == 2) = false := by simpa using h3
  simp [fn38, t38, LT.val, std_call, std_cmp_neq, std_cmp_eql, fn73_zero.2 ⟨h, h0, h1, h2⟩, delB, hb]
theorem null_2 (h : okM a b c d e 2 g) (h0 : 0 ≤ s) (h1 : s < b) (h2 : s ≠ a) (h3 : g ≠ s) : fn38 ((a, b, c, d, e, 2, g), s) = ((a, b, delB c s, d, e, 2, g), 0) := by
  have hb : (g == s) = false := by simpa using h3
  simp [fn38, t38, LT.val, std_call, std_cmp_neq, std_cmp_eql, fn73_zero.2 ⟨h, h0, h1, h2⟩, delB, hb]
theorem null_3 (h : okM a b c d e 2 g) (h2 : g ≠ a) : fn38 ((a, b, c, d, e, 2, g), g) = ((a, b, delB c g, d, e, 1, 0), 0) := by
  have hm := h
  unfold okM at hm
  simp [fn38, t38, LT.val, std_call, std_cmp_neq, std_cmp_eql, fn73_zero.2 ⟨h, hm.2.2.2.2.1, hm.2.2.2.2.2.1, h2⟩, delB]
theorem bad_of {m m' : Int × Int × Int × Int × Int × Int × Int} (h : fn38 (m, s) = (m', 0)) (h0 : 0 ≤ m'.2.2.2.2.1) (h1 : m'.2.2.2.2.1 ≤ 1048576) : fn39 (m, s) = ((m'.1, m'.2.1, m'.2.2.1, m'.2.2.2.1, inc m'.2.2.2.2.1, m'.2.2.2.2.2), 0) := by
  obtain ⟨a, b, c, d, e, f, g⟩ := m
  simp [fn39, t39, LT.val, std_call, std_cmp_eql, h, mn_inc h0 h1]
theorem new_ok (hb : 4 ≤ b ∧ b ≤ 8) (ha : 0 ≤ a ∧ a < b) (hc : 0 ≤ c ∧ c < ((2 ^ b.toNat : Nat) : Int)) : fn21 (a, b, c) = ((a, b, c, 0, 0, 0, 0), 0) := by
  have hok : okM a b c 0 0 0 0 := by
    unfold okM
    refine ⟨hb.1, hb.2, ha.1, ha.2, by omega, by omega, hc.1, by omega, by omega, by omega, by omega, by omega, by omega, by omega, fun h => absurd rfl h, fun h => by omega⟩
  simp [fn21, t21, LT.val, std_call, fn34_zero.2 hok, std_cmp_neq]
theorem in_iff (h : okM a b c d e f g) : fn24 (a, b, c, d, e, f, g) = bitT c a := by
  have hc := okM_c h
  have hm := h
  unfold okM at hm
  simp only [fn24, t24, LT.val, std_call, fn34_zero.2 h, std_cmp_eql]
  exact bit_one (by omega) hc (by omega) (by omega)
end

/-! ### metronome/metronomelaw09.begun (function 22) -/
def t22 (A : Alg) : LT Bool Empty :=
  .need (A.call (@tt (Int × Int × Int)) (0, 4, 15)) (
 .need (A.call (@tt ((Int × Int × Int × Int × Int × Int × Int))) ((A.call fn21 (0, 4, 15)).1.1, (A.call fn21 (0, 4, 15)).1.2.1, (A.call fn21 (0, 4, 15)).1.2.2.1, 1, (A.call fn21 (0, 4, 15)).1.2.2.2.2)) (
  .need (A.call (@tt ((Int × Int × Int × Int × Int × Int × Int) × Int × Int)) ((A.call fn23 ((A.call fn21 (0, 4, 15)).1.1, (A.call fn21 (0, 4, 15)).1.2.1, (A.call fn21 (0, 4, 15)).1.2.2.1, 1, (A.call fn21 (0, 4, 15)).1.2.2.2.2)).1, 1, 1)) (
   .need (A.call (@tt ((Int × Int × Int × Int × Int × Int × Int) × Int × Int)) ((A.call fn25 ((A.call fn23 ((A.call fn21 (0, 4, 15)).1.1, (A.call fn21 (0, 4, 15)).1.2.1, (A.call fn21 (0, 4, 15)).1.2.2.1, 1, (A.call fn21 (0, 4, 15)).1.2.2.2.2)).1, 1, 1)).1, 2, 1)) (
    .br (A.cmp .eql (A.call fn21 (0, 4, 15)).2 0)
     (.br (A.cmp .eql (A.call fn23 ((A.call fn21 (0, 4, 15)).1.1, (A.call fn21 (0, 4, 15)).1.2.1, (A.call fn21 (0, 4, 15)).1.2.2.1, 1, (A.call fn21 (0, 4, 15)).1.2.2.2.2)).2.2 0)
      (.br (A.cmp .eql (A.call fn23 ((A.call fn21 (0, 4, 15)).1.1, (A.call fn21 (0, 4, 15)).1.2.1, (A.call fn21 (0, 4, 15)).1.2.2.1, 1, (A.call fn21 (0, 4, 15)).1.2.2.2.2)).2.1 1)
       (.br (A.cmp .eql (A.call fn25 ((A.call fn23 ((A.call fn21 (0, 4, 15)).1.1, (A.call fn21 (0, 4, 15)).1.2.1, (A.call fn21 (0, 4, 15)).1.2.2.1, 1, (A.call fn21 (0, 4, 15)).1.2.2.2.2)).1, 1, 1)).2 0)
        (.br (A.cmp .eql (A.call fn25 ((A.call fn23 ((A.call fn21 (0, 4, 15)).1.1, (A.call fn21 (0, 4, 15)).1.2.1, (A.call fn21 (0, 4, 15)).1.2.2.1, 1, (A.call fn21 (0, 4, 15)).1.2.2.2.2)).1, 1, 1)).1.2.2.2.2.2.1 2)
         (.br (A.cmp .eql (A.call fn25 ((A.call fn25 ((A.call fn23 ((A.call fn21 (0, 4, 15)).1.1, (A.call fn21 (0, 4, 15)).1.2.1, (A.call fn21 (0, 4, 15)).1.2.2.1, 1, (A.call fn21 (0, 4, 15)).1.2.2.2.2)).1, 1, 1)).1, 2, 1)).2 0)
          (.br (A.cmp .eql (A.call fn25 ((A.call fn25 ((A.call fn23 ((A.call fn21 (0, 4, 15)).1.1, (A.call fn21 (0, 4, 15)).1.2.1, (A.call fn21 (0, 4, 15)).1.2.2.1, 1, (A.call fn21 (0, 4, 15)).1.2.2.2.2)).1, 1, 1)).1, 2, 1)).1.2.2.1 14)
           (.br (A.cmp .eql (A.call fn25 ((A.call fn25 ((A.call fn23 ((A.call fn21 (0, 4, 15)).1.1, (A.call fn21 (0, 4, 15)).1.2.1, (A.call fn21 (0, 4, 15)).1.2.2.1, 1, (A.call fn21 (0, 4, 15)).1.2.2.2.2)).1, 1, 1)).1, 2, 1)).1.2.2.2.2.2.1 0)
            (.need (A.call (@tt ((Int × Int × Int × Int × Int × Int × Int))) (A.call fn25 ((A.call fn25 ((A.call fn23 ((A.call fn21 (0, 4, 15)).1.1, (A.call fn21 (0, 4, 15)).1.2.1, (A.call fn21 (0, 4, 15)).1.2.2.1, 1, (A.call fn21 (0, 4, 15)).1.2.2.2.2)).1, 1, 1)).1, 2, 1)).1) (
             .ret (A.not (A.call fn24 (A.call fn25 ((A.call fn25 ((A.call fn23 ((A.call fn21 (0, 4, 15)).1.1, (A.call fn21 (0, 4, 15)).1.2.1, (A.call fn21 (0, 4, 15)).1.2.2.1, 1, (A.call fn21 (0, 4, 15)).1.2.2.2.2)).1, 1, 1)).1, 2, 1)).1))))
            (.ret false))
           (.ret false))
          (.ret false))
         (.ret false))
        (.ret false))
       (.ret false))
      (.ret false))
     (.ret false)))))
noncomputable def E22 (A : Alg) : Info (Ty.Ts [.bool]) := { ti := tys, fns := [(22, Try.f22)], sps := [(21, sp21), (23, sp23), (24, sp24), (25, sp25)], stops := [], cuts := [], consts := [], fin := finD A [.bool] }
theorem t22_ok (A : Alg) : run A (E22 A) 104 (startC 22 Try.f22 (dvals A [] ())) = (t22 A).tr Empty.elim := by kernel_rfl
def w22 : Walk Try.prog 22 [] [.bool] Empty := ⟨fun _ => t22 std, Empty.elim⟩
theorem w22_ok : w22.Ok :=
  walk_ok (E := E22 std) ⟨tys_fit, fns_cons Try.func22 (by kernel_rfl) (fns_nil), sps_cons so21 (sps_cons so23 (sps_cons so24 (sps_cons so25 (sps_nil)))), by kernel_rfl⟩ rfl rfl rfl (by kernel_rfl) w22 Empty.elim 104 (fun _ => t22_ok std) (fun y => y.elim)

def fn22 : Unit → Bool := fun _ => (t22 std).val (Ty.dflts [.bool])
def sp22 : FSpec := ⟨[], [.bool], (@tt Unit), fn22⟩
theorem eqs22 : (t22 std).Eqs := by simp only [t22, LT.Eqs, and_self, true_and, and_true]
theorem pre22_ok (h : Ty.hass [] ()) : (t22 std).pre = true := by
  simp only [t22, LT.pre, cond_iff, std_cmp_eql, std_cmp_neq, std_cmp_lss, std_cmp_leq, std_cmp_gtr, std_cmp_geq, std_and, std_not, std_beq, std_call, std_add, std_sub, std_conv, std_len, tt_eq, Bool.and_eq_true, Bool.or_eq_true, Bool.and_eq_false_iff, Bool.or_eq_false_iff, Bool.not_eq_true', Bool.not_eq_false', decide_eq_true_eq, decide_eq_false_iff_not, bne_iff_ne, beq_iff_eq, bne_eq_false_iff_eq, beq_eq_false_iff_ne]
  (repeat' (first | intro _ | constructor)) <;> (try omega)
theorem so22 : FSpec.Sound Try.prog 22 sp22 :=
  w22_ok.sound _ _ fun _ _ h => LT.runs (d := Ty.dflts [.bool]) (eqs22) (pre22_ok h)
theorem begun_true : fn22 () = true := by kernel_rfl

/-! ### metronome/metronomelaw09.MemberOwn (function 4) -/
def t4 (A : Alg) (mId : Int) (mN : Int) (mSet : Int) (mAcc : Int) (mFail : Int) (mStage : Int) (mFirst : Int) : LT Bool Empty :=
  .need (A.call (@tt ((Int × Int × Int × Int × Int × Int × Int))) (mId, mN, mSet, mAcc, mFail, mStage, mFirst)) (
 .need (A.call (@tt ((Int × Int × Int × Int × Int × Int × Int))) (mId, mN, mSet, mAcc, mFail, mStage, mFirst)) (
  .need (A.call (@tt ((Int × Int × Int × Int × Int × Int × Int))) (mId, mN, mSet, mAcc, mFail, mStage, mFirst)) (
   .need (A.call (@tt ((Int × Int × Int × Int × Int × Int × Int))) (mId, mN, mSet, mAcc, mFail, mStage, mFirst)) (
    .need (A.call (@tt Unit) ()) (
     .br (A.call fn22 ())
      (.br (A.and (A.cmp .eql (A.call fn23 (mId, mN, mSet, mAcc, mFail, mStage, mFirst)).1.1 (A.call fn26 (mId, mN, mSet, mAcc, mFail, mStage, mFirst)).1.1) (A.and (A.cmp .eql (A.call fn23 (mId, mN, mSet, mAcc, mFail, mStage, mFirst)).1.2.1 (A.call fn26 (mId, mN, mSet, mAcc, mFail, mStage, mFirst)).1.2.1) (A.and (A.cmp .eql (A.call fn23 (mId, mN, mSet, mAcc, mFail, mStage, mFirst)).1.2.2.1 (A.call fn26 (mId, mN, mSet, mAcc, mFail, mStage, mFirst)).1.2.2.1) (A.and (A.cmp .eql (A.call fn23 (mId, mN, mSet, mAcc, mFail, mStage, mFirst)).1.2.2.2.1 (A.call fn26 (mId, mN, mSet, mAcc, mFail, mStage, mFirst)).1.2.2.2.1) (A.and (A.cmp .eql (A.call fn23 (mId, mN, mSet, mAcc, mFail, mStage, mFirst)).1.2.2.2.2.1 (A.call fn26 (mId, mN, mSet, mAcc, mFail, mStage, mFirst)).1.2.2.2.2.1) (A.and (A.cmp .eql (A.call fn23 (mId, mN, mSet, mAcc, mFail, mStage, mFirst)).1.2.2.2.2.2.1 (A.call fn26 (mId, mN, mSet, mAcc, mFail, mStage, mFirst)).1.2.2.2.2.2.1) (A.and (A.cmp .eql (A.call fn23 (mId, mN, mSet, mAcc, mFail, mStage, mFirst)).1.2.2.2.2.2.2 (A.call fn26 (mId, mN, mSet, mAcc, mFail, mStage, mFirst)).1.2.2.2.2.2.2) true)))))))
       (.br (A.cmp .eql (A.call fn23 (mId, mN, mSet, mAcc, mFail, mStage, mFirst)).2.1 (A.call fn26 (mId, mN, mSet, mAcc, mFail, mStage, mFirst)).2.1)
        (.br (A.cmp .eql (A.call fn23 (mId, mN, mSet, mAcc, mFail, mStage, mFirst)).2.2 (A.call fn26 (mId, mN, mSet, mAcc, mFail, mStage, mFirst)).2.2)
         (.br (A.and (A.cmp .eql (A.call fn27 (mId, mN, mSet, mAcc, mFail, mStage, mFirst)).1.1 (A.call fn28 (mId, mN, mSet, mAcc, mFail, mStage, mFirst)).1.1) (A.and (A.cmp .eql (A.call fn27 (mId, mN, mSet, mAcc, mFail, mStage, mFirst)).1.2.1 (A.call fn28 (mId, mN, mSet, mAcc, mFail, mStage, mFirst)).1.2.1) (A.and (A.cmp .eql (A.call fn27 (mId, mN, mSet, mAcc, mFail, mStage, mFirst)).1.2.2.1 (A.call fn28 (mId, mN, mSet, mAcc, mFail, mStage, mFirst)).1.2.2.1) (A.and (A.cmp .eql (A.call fn27 (mId, mN, mSet, mAcc, mFail, mStage, mFirst)).1.2.2.2.1 (A.call fn28 (mId, mN, mSet, mAcc, mFail, mStage, mFirst)).1.2.2.2.1) (A.and (A.cmp .eql (A.call fn27 (mId, mN, mSet, mAcc, mFail, mStage, mFirst)).1.2.2.2.2.1 (A.call fn28 (mId, mN, mSet, mAcc, mFail, mStage, mFirst)).1.2.2.2.2.1) (A.and (A.cmp .eql (A.call fn27 (mId, mN, mSet, mAcc, mFail, mStage, mFirst)).1.2.2.2.2.2.1 (A.call fn28 (mId, mN, mSet, mAcc, mFail, mStage, mFirst)).1.2.2.2.2.2.1) (A.and (A.cmp .eql (A.call fn27 (mId, mN, mSet, mAcc, mFail, mStage, mFirst)).1.2.2.2.2.2.2 (A.call fn28 (mId, mN, mSet, mAcc, mFail, mStage, mFirst)).1.2.2.2.2.2.2) true)))))))
          (.br (A.cmp .eql (A.call fn27 (mId, mN, mSet, mAcc, mFail, mStage, mFirst)).2.1 (A.call fn28 (mId, mN, mSet, mAcc, mFail, mStage, mFirst)).2.1)
           (.ret (A.cmp .eql (A.call fn27 (mId, mN, mSet, mAcc, mFail, mStage, mFirst)).2.2 (A.call fn28 (mId, mN, mSet, mAcc, mFail, mStage, mFirst)).2.2))
           (.ret false))
          (.ret false))
         (.ret false))
        (.ret false))
       (.ret false))
      (.ret false))))))
noncomputable def E4 (A : Alg) : Info (Ty.Ts [.bool]) := { ti := tys, fns := [(4, Try.f4)], sps := [(22, sp22), (23, sp23), (26, sp26), (27, sp27), (28, sp28)], stops := [], cuts := [], consts := [], fin := finD A [.bool] }
theorem t4_ok (A : Alg) (mId : Int) (mN : Int) (mSet : Int) (mAcc : Int) (mFail : Int) (mStage : Int) (mFirst : Int) : run A (E4 A) 98 (startC 4 Try.f4 (dvals A [(.struct [(.int .i64), (.int .i64), (.int .i64), (.int .i64), (.int .i64), (.int .i64), (.int .i64)])] (mId, mN, mSet, mAcc, mFail, mStage, mFirst))) = (t4 A mId mN mSet mAcc mFail mStage mFirst).tr Empty.elim := by kernel_rfl
def w4 : Walk Try.prog 4 [(.struct [(.int .i64), (.int .i64), (.int .i64), (.int .i64), (.int .i64), (.int .i64), (.int .i64)])] [.bool] Empty := ⟨fun (mId, mN, mSet, mAcc, mFail, mStage, mFirst) => t4 std mId mN mSet mAcc mFail mStage mFirst, Empty.elim⟩
theorem w4_ok : w4.Ok :=
  walk_ok (E := E4 std) ⟨tys_fit, fns_cons Try.func4 (by kernel_rfl) (fns_nil), sps_cons so22 (sps_cons so23 (sps_cons so26 (sps_cons so27 (sps_cons so28 (sps_nil))))), by kernel_rfl⟩ rfl rfl rfl (by kernel_rfl) w4 Empty.elim 98 (fun (mId, mN, mSet, mAcc, mFail, mStage, mFirst) => t4_ok std mId mN mSet mAcc mFail mStage mFirst) (fun y => y.elim)

def fn4 : ((Int × Int × Int × Int × Int × Int × Int)) → Bool := fun (mId, mN, mSet, mAcc, mFail, mStage, mFirst) => (t4 std mId mN mSet mAcc mFail mStage mFirst).val (Ty.dflts [.bool])
def sp4 : FSpec := ⟨[(.struct [(.int .i64), (.int .i64), (.int .i64), (.int .i64), (.int .i64), (.int .i64), (.int .i64)])], [.bool], (@tt ((Int × Int × Int × Int × Int × Int × Int))), fn4⟩
theorem eqs4 (mId : Int) (mN : Int) (mSet : Int) (mAcc : Int) (mFail : Int) (mStage : Int) (mFirst : Int) : (t4 std mId mN mSet mAcc mFail mStage mFirst).Eqs := by simp only [t4, LT.Eqs, and_self, true_and, and_true]
theorem pre4_ok {mId : Int} {mN : Int} {mSet : Int} {mAcc : Int} {mFail : Int} {mStage : Int} {mFirst : Int} (h : Ty.hass [(.struct [(.int .i64), (.int .i64), (.int .i64), (.int .i64), (.int .i64), (.int .i64), (.int .i64)])] (mId, mN, mSet, mAcc, mFail, mStage, mFirst)) : (t4 std mId mN mSet mAcc mFail mStage mFirst).pre = true := by
  simp only [t4, LT.pre, cond_iff, std_cmp_eql, std_cmp_neq, std_cmp_lss, std_cmp_leq, std_cmp_gtr, std_cmp_geq, std_and, std_not, std_beq, std_call, std_add, std_sub, std_conv, std_len, tt_eq, Bool.and_eq_true, Bool.or_eq_true, Bool.and_eq_false_iff, Bool.or_eq_false_iff, Bool.not_eq_true', Bool.not_eq_false', decide_eq_true_eq, decide_eq_false_iff_not, bne_iff_ne, beq_iff_eq, bne_eq_false_iff_eq, beq_eq_false_iff_ne]
  simp only [Ty.hass, Ty.has, has64, has8] at h
  (repeat' (first | intro _ | constructor)) <;> (try omega)
theorem so4 : FSpec.Sound Try.prog 4 sp4 :=
  w4_ok.sound _ _ fun (mId, mN, mSet, mAcc, mFail, mStage, mFirst) _ h => LT.runs (d := Ty.dflts [.bool]) (eqs4 mId mN mSet mAcc mFail mStage mFirst) (pre4_ok h)
theorem law4 (x : Int × Int × Int × Int × Int × Int × Int) (h : Ty.hass [(.struct [(.int .i64), (.int .i64), (.int .i64), (.int .i64), (.int .i64), (.int .i64), (.int .i64)])] x) : fn4 x = true := by
  have h1 := own_same h
  have h2 := join_same h
  obtain ⟨a, b, c, d, e, f, g⟩ := x
  simp only [fn4, t4, LT.val, std_call, h1, h2, begun_true, std_cmp_eql, std_and, beq_self_eq_true, Bool.and_self, cond_true]

/-- The other nodes' numbers, one behind the other. -/
theorem rem_add {a s k : Int} (h0 : 0 ≤ a) (h1 : 0 ≤ s) (hk : 4 ≤ k ∧ k ≤ 8) (ha : a < k) (hs : s < k) : std.bin .rem .i64 (std.bin .add .i64 a s) k = (a + s) % k := by
  rw [std_rem, std_add, w64 (by omega) (by omega)]
  exact Int.tmod_eq_emod_of_nonneg (by omega)
theorem other_ok {a s k : Int} (h0 : 0 ≤ a) (h1 : 0 < s) (hk : 4 ≤ k ∧ k ≤ 8) (ha : a < k) (hs : s < k) : 0 ≤ (a + s) % k ∧ (a + s) % k < k ∧ (a + s) % k ≠ a := by
  have : (a + s) % k = if a + s < k then a + s else a + s - k := by
    split
    · exact Int.emod_eq_of_lt (by omega) (by omega)
    · rw [← Int.sub_emod_right (a + s) k]; exact Int.emod_eq_of_lt (by omega) (by omega)
  rw [this]
  split <;> omega

/-! ### metronome/metronomelaw09.MemberGoes (function 3) -/
structure P3c0 where
  a0 : Int
  a1 : Int
  a2 : Int
  a3 : Int
  a4 : Int
  a5 : Int
  a6 : Int
  a7 : Int
  a8 : Int
  a9 : Int
  a10 : Int
structure P3c1 where
  b0 : Int
  b1 : Int
  b3 : Int
  b4 : Int
  b5 : Int
  b6 : Int
  b7 : Int
  b8 : Int
  b9 : Int
  b10 : Int
  b11 : Int
inductive Y3 where
  | c0 (p : P3c0)
  | c1 (p : P3c1) (b2 : Int) (b12 : Int) (b13 : Int) (b14 : Int) (b15 : Int) (b16 : Int) (b17 : Int) (b18 : Int)
noncomputable def cfg3 : Y3 → Cfg
  | .c0 p => { frames := [{ fn := 3, n := 109, env := (Env.put (Env.put (Env.put (Env.put (Env.put .leaf 9 (.int .i64 false p.a0)) 10 (.int .i64 false p.a1)) 11 (.ptr 0 0)) 47 (.int .i64 false p.a2)) 48 (.int .i64 false p.a3)), todo := [.inLoop (Code.way (bodyOf Try.f3) [1, 1, 1, 1, 1, 1, 0, 1, 0, 0]), .inBlock 0, .code (Code.way (bodyOf Try.f3) [1, 1, 1, 1, 1, 1, 1])], marks := [], rnd := none }], mem := [.flat false [.int .i64 false p.a4, .int .i64 false p.a5, .int .i64 false p.a6, .int .i64 false p.a7, .int .i64 false p.a8, .int .i64 false p.a9, .int .i64 false p.a10], .dead] }
  | .c1 p b2 b12 b13 b14 b15 b16 b17 b18 => { frames := [{ fn := 3, n := 109, env := (Env.put (Env.put (Env.put (Env.put (Env.put (Env.put (Env.put .leaf 9 (.int .i64 false p.b0)) 10 (.int .i64 false p.b1)) 11 (.ptr 0 0)) 13 (.ptr 1 0)) 16 (.int .i64 false b2)) 47 (.int .i64 false p.b3)) 48 (.int .i64 false p.b4)), todo := [.inLoop (Code.way (bodyOf Try.f3) [1, 1, 1, 1, 1, 1, 0, 1, 0, 0, 1, 1, 0, 0, 1, 1, 0, 1, 0, 0]), .inBlock 2, .code (Code.way (bodyOf Try.f3) [1, 1, 1, 1, 1, 1, 0, 1, 0, 0, 1, 1, 0, 0, 1, 1, 1]), .inBlock 1, .code (Code.way (bodyOf Try.f3) [1, 1, 1, 1, 1, 1, 0, 1, 0, 0, 1, 1, 1]), .inLoop (Code.way (bodyOf Try.f3) [1, 1, 1, 1, 1, 1, 0, 1, 0, 0]), .inBlock 0, .code (Code.way (bodyOf Try.f3) [1, 1, 1, 1, 1, 1, 1])], marks := [], rnd := none }], mem := [.flat false [.int .i64 false p.b5, .int .i64 false p.b6, .int .i64 false p.b7, .int .i64 false p.b8, .int .i64 false p.b9, .int .i64 false p.b10, .int .i64 false p.b11], .flat false [.int .i64 false b12, .int .i64 false b13, .int .i64 false b14, .int .i64 false b15, .int .i64 false b16, .int .i64 false b17, .int .i64 false b18], .dead] }

def t3 (A : Alg) (id : Int) (n : Int) (rounds : Int) (set1 : Int) : LT Bool Y3 :=
  .need (A.cmp .neq (A.bin .add .i64 4 (A.bin .rem .i64 (A.conv .i64 n) 5)) 0) (
 .need (A.cmp .leq 0 (A.conv .u64 (A.bin .add .i64 4 (A.bin .rem .i64 (A.conv .i64 n) 5)))) (
  .need (A.call (@tt (Int × Int × Int)) ((A.bin .rem .i64 (A.conv .i64 id) (A.bin .add .i64 4 (A.bin .rem .i64 (A.conv .i64 n) 5))), (A.bin .add .i64 4 (A.bin .rem .i64 (A.conv .i64 n) 5)), (A.bin .and .i64 set1 (A.bin .sub .i64 (A.bin .shl .i64 1 (A.conv .u64 (A.bin .add .i64 4 (A.bin .rem .i64 (A.conv .i64 n) 5)))) 1)))) (
   .need (A.call (@tt Unit) ()) (
    .br (A.not (A.call fn22 ()))
     (.ret false)
     (.br (A.cmp .neq (A.call fn21 ((A.bin .rem .i64 (A.conv .i64 id) (A.bin .add .i64 4 (A.bin .rem .i64 (A.conv .i64 n) 5))), (A.bin .add .i64 4 (A.bin .rem .i64 (A.conv .i64 n) 5)), (A.bin .and .i64 set1 (A.bin .sub .i64 (A.bin .shl .i64 1 (A.conv .u64 (A.bin .add .i64 4 (A.bin .rem .i64 (A.conv .i64 n) 5)))) 1)))).2 0)
      (.ret false)
      (.more (.c0 ⟨(A.bin .add .i64 4 (A.bin .rem .i64 (A.conv .i64 n) 5)), (A.bin .rem .i64 (A.conv .i64 id) (A.bin .add .i64 4 (A.bin .rem .i64 (A.conv .i64 n) 5))), (A.bin .add .i64 1 (A.conv .i64 (A.bin .rem .u8 rounds 9))), 0, (A.call fn21 ((A.bin .rem .i64 (A.conv .i64 id) (A.bin .add .i64 4 (A.bin .rem .i64 (A.conv .i64 n) 5))), (A.bin .add .i64 4 (A.bin .rem .i64 (A.conv .i64 n) 5)), (A.bin .and .i64 set1 (A.bin .sub .i64 (A.bin .shl .i64 1 (A.conv .u64 (A.bin .add .i64 4 (A.bin .rem .i64 (A.conv .i64 n) 5)))) 1)))).1.1, (A.call fn21 ((A.bin .rem .i64 (A.conv .i64 id) (A.bin .add .i64 4 (A.bin .rem .i64 (A.conv .i64 n) 5))), (A.bin .add .i64 4 (A.bin .rem .i64 (A.conv .i64 n) 5)), (A.bin .and .i64 set1 (A.bin .sub .i64 (A.bin .shl .i64 1 (A.conv .u64 (A.bin .add .i64 4 (A.bin .rem .i64 (A.conv .i64 n) 5)))) 1)))).1.2.1, (A.call fn21 ((A.bin .rem .i64 (A.conv .i64 id) (A.bin .add .i64 4 (A.bin .rem .i64 (A.conv .i64 n) 5))), (A.bin .add .i64 4 (A.bin .rem .i64 (A.conv .i64 n) 5)), (A.bin .and .i64 set1 (A.bin .sub .i64 (A.bin .shl .i64 1 (A.conv .u64 (A.bin .add .i64 4 (A.bin .rem .i64 (A.conv .i64 n) 5)))) 1)))).1.2.2.1, 1, (A.call fn21 ((A.bin .rem .i64 (A.conv .i64 id) (A.bin .add .i64 4 (A.bin .rem .i64 (A.conv .i64 n) 5))), (A.bin .add .i64 4 (A.bin .rem .i64 (A.conv .i64 n) 5)), (A.bin .and .i64 set1 (A.bin .sub .i64 (A.bin .shl .i64 1 (A.conv .u64 (A.bin .add .i64 4 (A.bin .rem .i64 (A.conv .i64 n) 5)))) 1)))).1.2.2.2.2.1, (A.call fn21 ((A.bin .rem .i64 (A.conv .i64 id) (A.bin .add .i64 4 (A.bin .rem .i64 (A.conv .i64 n) 5))), (A.bin .add .i64 4 (A.bin .rem .i64 (A.conv .i64 n) 5)), (A.bin .and .i64 set1 (A.bin .sub .i64 (A.bin .shl .i64 1 (A.conv .u64 (A.bin .add .i64 4 (A.bin .rem .i64 (A.conv .i64 n) 5)))) 1)))).1.2.2.2.2.2.1, (A.call fn21 ((A.bin .rem .i64 (A.conv .i64 id) (A.bin .add .i64 4 (A.bin .rem .i64 (A.conv .i64 n) 5))), (A.bin .add .i64 4 (A.bin .rem .i64 (A.conv .i64 n) 5)), (A.bin .and .i64 set1 (A.bin .sub .i64 (A.bin .shl .i64 1 (A.conv .u64 (A.bin .add .i64 4 (A.bin .rem .i64 (A.conv .i64 n) 5)))) 1)))).1.2.2.2.2.2.2⟩)))))))
def s3 (A : Alg) : Y3 → LT Bool Y3
  | .c0 p =>
    .br (A.cmp .lss p.a3 p.a2)
    (.need (A.call (@tt ((Int × Int × Int × Int × Int × Int × Int))) (p.a4, p.a5, p.a6, p.a7, p.a8, p.a9, p.a10)) (
     .br (A.cmp .neq (A.call fn23 (p.a4, p.a5, p.a6, p.a7, p.a8, p.a9, p.a10)).2.2 0)
      (.ret false)
      (.br (A.cmp .neq (A.call fn23 (p.a4, p.a5, p.a6, p.a7, p.a8, p.a9, p.a10)).2.1 1)
       (.ret false)
       (.need (A.call (@tt ((Int × Int × Int × Int × Int × Int × Int))) (A.call fn23 (p.a4, p.a5, p.a6, p.a7, p.a8, p.a9, p.a10)).1) (
        .br (A.not (A.call fn24 (A.call fn23 (p.a4, p.a5, p.a6, p.a7, p.a8, p.a9, p.a10)).1))
         (.ret false)
         (.more (.c1 ⟨p.a0, p.a1, p.a2, p.a3, p.a4, p.a5, p.a6, p.a7, p.a8, p.a9, p.a10⟩ 1 (A.call fn23 (p.a4, p.a5, p.a6, p.a7, p.a8, p.a9, p.a10)).1.1 (A.call fn23 (p.a4, p.a5, p.a6, p.a7, p.a8, p.a9, p.a10)).1.2.1 (A.call fn23 (p.a4, p.a5, p.a6, p.a7, p.a8, p.a9, p.a10)).1.2.2.1 (A.call fn23 (p.a4, p.a5, p.a6, p.a7, p.a8, p.a9, p.a10)).1.2.2.2.1 (A.call fn23 (p.a4, p.a5, p.a6, p.a7, p.a8, p.a9, p.a10)).1.2.2.2.2.1 (A.call fn23 (p.a4, p.a5, p.a6, p.a7, p.a8, p.a9, p.a10)).1.2.2.2.2.2.1 (A.call fn23 (p.a4, p.a5, p.a6, p.a7, p.a8, p.a9, p.a10)).1.2.2.2.2.2.2)))))))
    (.need (A.cmp .leq 0 (A.conv .u64 p.a0)) (
     .br (A.cmp .eql p.a6 (A.bin .sub .i64 (A.bin .shl .i64 1 (A.conv .u64 p.a0)) 1))
      (.br (A.cmp .eql p.a7 p.a0)
       (.br (A.cmp .eql p.a8 0)
        (.ret (A.cmp .eql p.a9 0))
        (.ret false))
       (.ret false))
      (.ret false)))
  | .c1 p b2 b12 b13 b14 b15 b16 b17 b18 =>
    .br (A.cmp .lss b2 p.b0)
    (.need (A.cmp .neq p.b0 0) (
     .need (A.call (@tt ((Int × Int × Int × Int × Int × Int × Int) × Int × Int)) ((b12, b13, b14, b15, b16, b17, b18), (A.bin .rem .i64 (A.bin .add .i64 p.b1 b2) p.b0), 0)) (
      .eqs (IntKind.i64 = IntKind.i64 ∧ ((A.call fn25 ((b12, b13, b14, b15, b16, b17, b18), (A.bin .rem .i64 (A.bin .add .i64 p.b1 b2) p.b0), 0)).2 : Int) = (A.call fn25 ((b12, b13, b14, b15, b16, b17, b18), (A.bin .rem .i64 (A.bin .add .i64 p.b1 b2) p.b0), 0)).2) (
       .br (A.cmp .neq (A.call fn25 ((b12, b13, b14, b15, b16, b17, b18), (A.bin .rem .i64 (A.bin .add .i64 p.b1 b2) p.b0), 0)).2 0)
        (.ret false)
        (.more (.c1 p (A.bin .add .i64 b2 1) (A.call fn25 ((b12, b13, b14, b15, b16, b17, b18), (A.bin .rem .i64 (A.bin .add .i64 p.b1 b2) p.b0), 0)).1.1 (A.call fn25 ((b12, b13, b14, b15, b16, b17, b18), (A.bin .rem .i64 (A.bin .add .i64 p.b1 b2) p.b0), 0)).1.2.1 (A.call fn25 ((b12, b13, b14, b15, b16, b17, b18), (A.bin .rem .i64 (A.bin .add .i64 p.b1 b2) p.b0), 0)).1.2.2.1 (A.call fn25 ((b12, b13, b14, b15, b16, b17, b18), (A.bin .rem .i64 (A.bin .add .i64 p.b1 b2) p.b0), 0)).1.2.2.2.1 (A.call fn25 ((b12, b13, b14, b15, b16, b17, b18), (A.bin .rem .i64 (A.bin .add .i64 p.b1 b2) p.b0), 0)).1.2.2.2.2.1 (A.call fn25 ((b12, b13, b14, b15, b16, b17, b18), (A.bin .rem .i64 (A.bin .add .i64 p.b1 b2) p.b0), 0)).1.2.2.2.2.2.1 (A.call fn25 ((b12, b13, b14, b15, b16, b17, b18), (A.bin .rem .i64 (A.bin .add .i64 p.b1 b2) p.b0), 0)).1.2.2.2.2.2.2))))))
    (.more (.c0 ⟨p.b0, p.b1, p.b3, (A.bin .add .i64 p.b4 1), b12, b13, b14, b15, b16, b17, b18⟩))
noncomputable def E3 (A : Alg) : Info (Ty.Ts [.bool]) := { ti := tys, fns := [(3, Try.f3)], sps := [(21, sp21), (22, sp22), (23, sp23), (24, sp24), (25, sp25)], stops := [⟨3, 8, [[9, 10, 11, 47, 48]]⟩, ⟨3, 13, [[9, 10, 11, 13, 16, 47, 48]]⟩], cuts := [], consts := [], fin := finD A [.bool] }
theorem t3_ok (A : Alg) (id : Int) (n : Int) (rounds : Int) (set1 : Int) : run A (E3 A) 72 (startC 3 Try.f3 (dvals A [(.int .u8), (.int .u8), (.int .u8), (.int .i64)] (id, n, rounds, set1))) = (t3 A id n rounds set1).tr cfg3 := by kernel_rfl
theorem s3_ok (A : Alg) : ∀ y, ∃ n, run A (E3 A) n (advance (E3 A).sps (cfg3 y)) = (s3 A y).tr cfg3
  | .c0 p => ⟨52, by kernel_rfl⟩
  | .c1 p b2 b12 b13 b14 b15 b16 b17 b18 => ⟨45, by kernel_rfl⟩
def w3 : Walk Try.prog 3 [(.int .u8), (.int .u8), (.int .u8), (.int .i64)] [.bool] Y3 := ⟨fun (id, n, rounds, set1) => t3 std id n rounds set1, s3 std⟩
theorem w3_ok : w3.Ok :=
  walk_ok (E := E3 std) ⟨tys_fit, fns_cons Try.func3 (by kernel_rfl) (fns_nil), sps_cons so21 (sps_cons so22 (sps_cons so23 (sps_cons so24 (sps_cons so25 (sps_nil))))), by kernel_rfl⟩ rfl rfl rfl (by kernel_rfl) w3 cfg3 72 (fun (id, n, rounds, set1) => t3_ok std id n rounds set1) (s3_ok std)

/-- The inner rounds: one right frame of each other node. -/
theorem goes_in {k a r R : Int} (hk : 4 ≤ k ∧ k ≤ 8) (ha : 0 ≤ a ∧ a < k) {y : Bool} (hend : Runs (s3 std) (.more (.c0 ⟨k, a, R, std.bin .add .i64 r 1, a, k, ((2 ^ k.toNat : Nat) : Int) - 1, k, 0, 0, 0⟩)) y) :
    ∀ (j : Nat) (s S : Int) (p : P3c1), p.b0 = k → p.b1 = a → p.b3 = R → p.b4 = r → k - s = j → 1 ≤ s → s ≤ k → 0 ≤ S → S < ((2 ^ k.toNat : Nat) : Int) → (∀ i : Int, 0 ≤ i → i < s → bitT S ((a + i) % k) = true) →
      Runs (s3 std) (.more (.c1 p s a k S s 0 (if s = 1 then 1 else 0) 0)) y := by
  have hp := pow_le (n := k.toNat) (by omega)
  intro j
  induction j with
  | zero =>
    intro s S p h1 h2 h3 h4 hj hs1 hs2 hS0 hS1 hbit
    obtain rfl : s = k := by omega
    have hS : S = ((2 ^ s.toNat : Nat) : Int) - 1 := bit_ext hS0 (by omega) (by omega) (by omega) fun i hi0 hi8 => by
      rw [bit_full (by omega) hi0]
      by_cases hik : i < s
      · have := hbit ((i - a) % s) (Int.emod_nonneg _ (by omega)) (Int.emod_lt_of_pos _ (by omega))
        have e : (a + (i - a) % s) % s = i := by
          rw [Int.add_emod_emod, show a + (i - a) = i from by omega]; exact Int.emod_eq_of_lt hi0 hik
        rw [e] at this
        rw [this]; simp [hik]
      · rw [bit_high (n := s) hS1 hS0 (by omega) (by omega)]; simp [hik]
    simp only [runs_more, s3, runs_br, h1, std_cmp_lss]
    rw [show decide (s < s) = false from by simp]
    simp only [cond_false, runs_more, h1, h2, h3, h4, hS, show ¬ s = 1 from by omega, if_false]
    rw [← runs_more]
    exact hend
  | succ j ih =>
    intro s S p h1 h2 h3 h4 hj hs1 hs2 hS0 hS1 hbit
    have hlt : s < k := by omega
    obtain ⟨o1, o2, o3⟩ := other_ok (a := a) (s := s) ha.1 (by omega) hk ha.2 hlt
    have hrem := rem_add (a := a) (s := s) ha.1 (by omega) hk ha.2 hlt
    have hbits : bitT S a = true := by
      have := hbit 0 (by omega) (by omega)
      rw [Int.add_zero, Int.emod_eq_of_lt ha.1 ha.2] at this
      exact this
    have hok : okM a k S s 0 (if s = 1 then 1 else 0) 0 := by
      unfold okM
      refine ⟨hk.1, hk.2, ha.1, ha.2, by omega, by omega, hS0, hS1, by omega, by omega, by omega, by omega, by split <;> omega, by split <;> omega, fun _ => hbits, by split <;> omega⟩
    -- the frame of node (a + s) % k
    have hgood : ∃ S', fn25 ((a, k, S, s, 0, (if s = 1 then 1 else 0), 0), (a + s) % k, 0) = ((a, k, S', s + 1, 0, 0, 0), 0) ∧ 0 ≤ S' ∧ S' < ((2 ^ k.toNat : Nat) : Int) ∧ ∀ i : Int, 0 ≤ i → bitT S' i = (bitT S i || (a + s) % k == i) := by
      have hl := ins_lt (c := S) (s := (a + s) % k) (n := k) hS0 hk.2 hS1 o1 o2
      have hb := fun i (hi : (0 : Int) ≤ i) => bit_ins (c := S) (s := (a + s) % k) (i := i) hS0 (by omega) o1 (by omega) hi
      have hinc : inc s = s + 1 := by unfold inc; rw [if_pos (by omega)]
      by_cases h1 : s = 1
      · rw [if_pos h1] at hok ⊢
        have hl2 := ins_lt (c := insB S ((a + s) % k)) (s := a) (n := k) hl.1 hk.2 hl.2 ha.1 ha.2
        refine ⟨insB (insB S ((a + s) % k)) a, ?_, hl2.1, hl2.2, fun i hi => ?_⟩
        · rw [good_1 hok o1 o2 o3, hinc]
        · rw [bit_ins hl.1 (by omega) ha.1 (by omega) hi, hb i hi]
          by_cases hia : a = i
          · subst hia; rw [hbits]; simp
          · simp [hia]
      · rw [if_neg h1] at hok ⊢
        exact ⟨insB S ((a + s) % k), by rw [good_0 hok o1 o2 o3, hinc], hl.1, hl.2, hb⟩
    obtain ⟨S', hg, hS0', hS1', hb'⟩ := hgood
    simp only [runs_more, s3, runs_br, h1, h2, std_cmp_lss]
    rw [show decide (s < k) = true from by simpa using hlt]
    simp only [cond_true, runs_need, runs_eqs, runs_br, std_call, std_cmp_neq, hrem, hg, and_self, true_and, tt_eq]
    refine ⟨by simp; omega, ?_⟩
    simp only [bne_self_eq_false, cond_false]
    have := ih (s + 1) S' p h1 h2 h3 h4 (by omega) (by omega) (by omega) hS0' hS1' fun i hi0 hi1 => by
      rw [hb' _ (Int.emod_nonneg _ (by omega))]
      by_cases his : i = s
      · subst his; simp
      · rw [hbit i hi0 (by omega)]; rfl
    rw [if_neg (by omega)] at this
    rw [std_add, w64 (by omega) (by omega)]
    exact this
theorem goes_out {k a R : Int} (hk : 4 ≤ k ∧ k ≤ 8) (ha : 0 ≤ a ∧ a < k) (hR : 1 ≤ R ∧ R ≤ 9) : ∀ (j : Nat) (r S acc : Int), R - r = j → 0 ≤ r → 0 ≤ S → S < ((2 ^ k.toNat : Nat) : Int) → ((S = ((2 ^ k.toNat : Nat) : Int) - 1 ∧ acc = k) ∨ (r = 0 ∧ acc = 1)) →
    Runs (s3 std) (.more (.c0 ⟨k, a, R, r, a, k, S, acc, 0, 0, 0⟩)) true := by
  have hp := pow_le (n := k.toNat) (by omega)
  have hp1 : 1 ≤ 2 ^ k.toNat := Nat.one_le_two_pow
  intro j
  induction j with
  | zero =>
    intro r S acc hj hr hS0 hS1 hst
    obtain rfl : R = r := by omega
    obtain ⟨hS, hacc⟩ : S = ((2 ^ k.toNat : Nat) : Int) - 1 ∧ acc = k := by
      rcases hst with h | h
      · exact h
      · omega
    subst hS; subst hacc
    simp only [runs_more, s3, runs_br, std_cmp_lss]
    rw [show decide (R < R) = false from by simp]
    simp only [cond_false, runs_need, std_conv]
    rw [wu64 (by omega) (by omega), shl1 (by omega) hk.2, std_sub, w64 (by omega) (by omega)]
    refine ⟨by simp [std_cmp_leq]; omega, ?_⟩
    simp [runs_br, std_cmp_eql, runs_ret]
  | succ j ih =>
    intro r S acc hj hr hS0 hS1 hst
    have hlt : r < R := by omega
    have hok : okM a k S acc 0 0 0 := by
      unfold okM
      refine ⟨hk.1, hk.2, ha.1, ha.2, by omega, by omega, hS0, hS1, by omega, by omega, by omega, by omega, by omega, by omega, fun h => absurd rfl h, fun h => by omega⟩
    have hl := ins_lt (c := S) (s := a) (n := k) hS0 hk.2 hS1 ha.1 ha.2
    have hbit : bitT (insB S a) a = true := by rw [bit_ins hS0 (by omega) ha.1 (by omega) ha.1]; simp
    have hok2 : okM a k (insB S a) 1 0 1 0 := by
      unfold okM
      exact ⟨hk.1, hk.2, ha.1, ha.2, by omega, by omega, hl.1, hl.2, by omega, by omega, by omega, by omega, by omega, by omega, fun _ => hbit, fun h => by omega⟩
    have hnext := ih (r + 1) (((2 ^ k.toNat : Nat) : Int) - 1) k (by omega) (by omega) (by omega) (by omega) (.inl ⟨rfl, rfl⟩)
    have hadd : std.bin .add .i64 r 1 = r + 1 := by rw [std_add, w64 (by omega) (by omega)]
    have hin := goes_in (r := r) (R := R) hk ha (y := true) (by rw [hadd]; exact hnext) (k - 1).toNat 1 (insB S a) ⟨k, a, R, r, a, k, S, acc, 0, 0, 0⟩ rfl rfl rfl rfl (by omega) (by omega) (by omega) hl.1 hl.2 fun i hi0 hi1 => by
      obtain rfl : i = 0 := by omega
      rw [Int.add_zero, Int.emod_eq_of_lt ha.1 ha.2]; exact hbit
    rw [if_pos rfl] at hin
    rw [runs_more]
    simp only [s3, runs_br, std_cmp_lss]
    rw [show decide (r < R) = true from by simpa using hlt]
    simp only [cond_true, runs_need, runs_br, std_call, std_cmp_neq, std_not, tt_eq, true_and, own_send hok (by omega : (0 : Int) < acc), in_iff hok2, hbit, bne_self_eq_false, cond_false, Bool.not_true]
    exact hin
theorem goes {id n rounds set1 : Int} (h : Ty.hass [(.int .u8), (.int .u8), (.int .u8), (.int .i64)] (id, n, rounds, set1)) : Runs (s3 std) (t3 std id n rounds set1) true := by
  simp only [Ty.hass, Ty.has, has8, has64] at h
  have hc : std.conv .i64 n = n := by rw [std_conv, w64 (by omega) (by omega)]
  have hci : std.conv .i64 id = id := by rw [std_conv, w64 (by omega) (by omega)]
  have hm : n.tmod 5 = n % 5 := Int.tmod_eq_emod_of_nonneg h.2.1.1
  have hk : std.bin .add .i64 4 (std.bin .rem .i64 n 5) = 4 + n % 5 := by rw [std_rem, hm, std_add, w64 (by omega) (by omega)]
  have hr9 : rounds.tmod 9 = rounds % 9 := Int.tmod_eq_emod_of_nonneg h.2.2.1.1
  have hR : std.bin .add .i64 1 (std.conv .i64 (std.bin .rem .u8 rounds 9)) = 1 + rounds % 9 := by rw [std_rem, hr9, std_conv, w64 (by omega) (by omega), std_add, w64 (by omega) (by omega)]
  have hk48 : 4 ≤ 4 + n % 5 ∧ 4 + n % 5 ≤ 8 := by omega
  unfold t3
  simp only [hc, hci, hk, hR]
  generalize 4 + n % 5 = k at *
  have ha : std.bin .rem .i64 id k = id % k := by rw [std_rem]; exact Int.tmod_eq_emod_of_nonneg h.1.1
  have ha2 : 0 ≤ id % k ∧ id % k < k := ⟨Int.emod_nonneg _ (by omega), Int.emod_lt_of_pos _ (by omega)⟩
  simp only [ha]
  generalize id % k = a at *
  have hp := pow_le (n := k.toNat) (by omega)
  have hp1 : 1 ≤ 2 ^ k.toNat := Nat.one_le_two_pow
  have hcu : std.conv .u64 k = k := by rw [std_conv, wu64 (by omega) (by omega)]
  have hsh : std.bin .sub .i64 (std.bin .shl .i64 1 k) 1 = ((2 ^ k.toNat : Nat) : Int) - 1 := by rw [shl1 (by omega) hk48.2, std_sub, w64 (by omega) (by omega)]
  have hS := and_mask (x := set1) (m := ((2 ^ k.toNat : Nat) : Int) - 1) (by omega) (by omega)
  simp only [hcu, hsh]
  generalize std.bin .and .i64 set1 (((2 ^ k.toNat : Nat) : Int) - 1) = S at *
  have hok : okM a k S 0 0 0 0 := by
    unfold okM
    refine ⟨hk48.1, hk48.2, ha2.1, ha2.2, by omega, by omega, hS.1, by omega, by omega, by omega, by omega, by omega, by omega, by omega, fun h => absurd rfl h, fun h => by omega⟩
  have hnew : fn21 (a, k, S) = ((a, k, S, 0, 0, 0, 0), 0) := by
    simp [fn21, t21, LT.val, std_call, fn34_zero.2 hok, std_cmp_neq]
  have := goes_out (k := k) (a := a) (R := 1 + rounds % 9) hk48 ha2 (by omega) (1 + rounds % 9).toNat 0 S 1 (by omega) (by omega) hS.1 (by omega) (.inr ⟨rfl, rfl⟩)
  simp only [std_call, hnew, begun_true, std_not, std_cmp_neq, runs_need, runs_br, tt_eq, bne_self_eq_false, cond_false, Bool.not_true, true_and, std_cmp_leq]
  refine ⟨by simp; omega, by simp; omega, this⟩

def fn3 : Int × Int × Int × Int → Bool := fun _ => true
def sp3 : FSpec := ⟨[(.int .u8), (.int .u8), (.int .u8), (.int .i64)], [.bool], (@tt (Int × Int × Int × Int)), fn3⟩
theorem run3 {id : Int} {n : Int} {rounds : Int} {set1 : Int} (h : Ty.hass [(.int .u8), (.int .u8), (.int .u8), (.int .i64)] (id, n, rounds, set1)) : Runs (s3 std) (t3 std id n rounds set1) (fn3 (id, n, rounds, set1)) := by
  exact goes h
theorem so3 : FSpec.Sound Try.prog 3 sp3 :=
  w3_ok.sound _ _ fun (id, n, rounds, set1) _ h => run3 h
theorem law3 (x : Int × Int × Int × Int) (h : Ty.hass [(.int .u8), (.int .u8), (.int .u8), (.int .i64)] x) : fn3 x = true := rfl

/-! ### metronome/metronomelaw09.MemberStops (function 8) -/
structure P8c0 where
  a0 : Int
  a1 : Int
inductive Y8 where
  | c0 (p : P8c0) (a2 : Int) (a3 : Int) (a4 : Int) (a5 : Int) (a6 : Int) (a7 : Int) (a8 : Int) (a9 : Int)
noncomputable def cfg8 : Y8 → Cfg
  | .c0 p a2 a3 a4 a5 a6 a7 a8 a9 => { frames := [{ fn := 8, n := 92, env := (Env.put (Env.put (Env.put (Env.put .leaf 7 (.int .i64 false p.a0)) 8 (.int .i64 false p.a1)) 9 (.ptr 0 0)) 13 (.int .i64 false a2)), todo := [.inLoop (Code.way (bodyOf Try.f8) [1, 1, 1, 1, 1, 1, 1, 0, 1, 0, 0]), .inBlock 0, .code (Code.way (bodyOf Try.f8) [1, 1, 1, 1, 1, 1, 1, 1])], marks := [], rnd := none }], mem := [.flat false [.int .i64 false a3, .int .i64 false a4, .int .i64 false a5, .int .i64 false a6, .int .i64 false a7, .int .i64 false a8, .int .i64 false a9], .dead] }

def t8 (A : Alg) (id : Int) (n : Int) (set1 : Int) : LT Bool Y8 :=
  .need (A.cmp .neq (A.bin .add .i64 4 (A.bin .rem .i64 (A.conv .i64 n) 5)) 0) (
 .need (A.cmp .leq 0 (A.conv .u64 (A.bin .add .i64 4 (A.bin .rem .i64 (A.conv .i64 n) 5)))) (
  .need (A.call (@tt (Int × Int × Int)) ((A.bin .rem .i64 (A.conv .i64 id) (A.bin .add .i64 4 (A.bin .rem .i64 (A.conv .i64 n) 5))), (A.bin .add .i64 4 (A.bin .rem .i64 (A.conv .i64 n) 5)), (A.bin .and .i64 set1 (A.bin .sub .i64 (A.bin .shl .i64 1 (A.conv .u64 (A.bin .add .i64 4 (A.bin .rem .i64 (A.conv .i64 n) 5)))) 1)))) (
   .need (A.call (@tt ((Int × Int × Int × Int × Int × Int × Int))) ((A.call fn21 ((A.bin .rem .i64 (A.conv .i64 id) (A.bin .add .i64 4 (A.bin .rem .i64 (A.conv .i64 n) 5))), (A.bin .add .i64 4 (A.bin .rem .i64 (A.conv .i64 n) 5)), (A.bin .and .i64 set1 (A.bin .sub .i64 (A.bin .shl .i64 1 (A.conv .u64 (A.bin .add .i64 4 (A.bin .rem .i64 (A.conv .i64 n) 5)))) 1)))).1.1, (A.call fn21 ((A.bin .rem .i64 (A.conv .i64 id) (A.bin .add .i64 4 (A.bin .rem .i64 (A.conv .i64 n) 5))), (A.bin .add .i64 4 (A.bin .rem .i64 (A.conv .i64 n) 5)), (A.bin .and .i64 set1 (A.bin .sub .i64 (A.bin .shl .i64 1 (A.conv .u64 (A.bin .add .i64 4 (A.bin .rem .i64 (A.conv .i64 n) 5)))) 1)))).1.2.1, (A.call fn21 ((A.bin .rem .i64 (A.conv .i64 id) (A.bin .add .i64 4 (A.bin .rem .i64 (A.conv .i64 n) 5))), (A.bin .add .i64 4 (A.bin .rem .i64 (A.conv .i64 n) 5)), (A.bin .and .i64 set1 (A.bin .sub .i64 (A.bin .shl .i64 1 (A.conv .u64 (A.bin .add .i64 4 (A.bin .rem .i64 (A.conv .i64 n) 5)))) 1)))).1.2.2.1, 1, (A.call fn21 ((A.bin .rem .i64 (A.conv .i64 id) (A.bin .add .i64 4 (A.bin .rem .i64 (A.conv .i64 n) 5))), (A.bin .add .i64 4 (A.bin .rem .i64 (A.conv .i64 n) 5)), (A.bin .and .i64 set1 (A.bin .sub .i64 (A.bin .shl .i64 1 (A.conv .u64 (A.bin .add .i64 4 (A.bin .rem .i64 (A.conv .i64 n) 5)))) 1)))).1.2.2.2.2)) (
    .need (A.call (@tt Unit) ()) (
     .br (A.not (A.call fn22 ()))
      (.ret false)
      (.br (A.cmp .neq (A.call fn21 ((A.bin .rem .i64 (A.conv .i64 id) (A.bin .add .i64 4 (A.bin .rem .i64 (A.conv .i64 n) 5))), (A.bin .add .i64 4 (A.bin .rem .i64 (A.conv .i64 n) 5)), (A.bin .and .i64 set1 (A.bin .sub .i64 (A.bin .shl .i64 1 (A.conv .u64 (A.bin .add .i64 4 (A.bin .rem .i64 (A.conv .i64 n) 5)))) 1)))).2 0)
       (.ret false)
       (.br (A.cmp .neq (A.call fn23 ((A.call fn21 ((A.bin .rem .i64 (A.conv .i64 id) (A.bin .add .i64 4 (A.bin .rem .i64 (A.conv .i64 n) 5))), (A.bin .add .i64 4 (A.bin .rem .i64 (A.conv .i64 n) 5)), (A.bin .and .i64 set1 (A.bin .sub .i64 (A.bin .shl .i64 1 (A.conv .u64 (A.bin .add .i64 4 (A.bin .rem .i64 (A.conv .i64 n) 5)))) 1)))).1.1, (A.call fn21 ((A.bin .rem .i64 (A.conv .i64 id) (A.bin .add .i64 4 (A.bin .rem .i64 (A.conv .i64 n) 5))), (A.bin .add .i64 4 (A.bin .rem .i64 (A.conv .i64 n) 5)), (A.bin .and .i64 set1 (A.bin .sub .i64 (A.bin .shl .i64 1 (A.conv .u64 (A.bin .add .i64 4 (A.bin .rem .i64 (A.conv .i64 n) 5)))) 1)))).1.2.1, (A.call fn21 ((A.bin .rem .i64 (A.conv .i64 id) (A.bin .add .i64 4 (A.bin .rem .i64 (A.conv .i64 n) 5))), (A.bin .add .i64 4 (A.bin .rem .i64 (A.conv .i64 n) 5)), (A.bin .and .i64 set1 (A.bin .sub .i64 (A.bin .shl .i64 1 (A.conv .u64 (A.bin .add .i64 4 (A.bin .rem .i64 (A.conv .i64 n) 5)))) 1)))).1.2.2.1, 1, (A.call fn21 ((A.bin .rem .i64 (A.conv .i64 id) (A.bin .add .i64 4 (A.bin .rem .i64 (A.conv .i64 n) 5))), (A.bin .add .i64 4 (A.bin .rem .i64 (A.conv .i64 n) 5)), (A.bin .and .i64 set1 (A.bin .sub .i64 (A.bin .shl .i64 1 (A.conv .u64 (A.bin .add .i64 4 (A.bin .rem .i64 (A.conv .i64 n) 5)))) 1)))).1.2.2.2.2)).2.2 0)
        (.ret false)
        (.br (A.cmp .neq (A.call fn23 ((A.call fn21 ((A.bin .rem .i64 (A.conv .i64 id) (A.bin .add .i64 4 (A.bin .rem .i64 (A.conv .i64 n) 5))), (A.bin .add .i64 4 (A.bin .rem .i64 (A.conv .i64 n) 5)), (A.bin .and .i64 set1 (A.bin .sub .i64 (A.bin .shl .i64 1 (A.conv .u64 (A.bin .add .i64 4 (A.bin .rem .i64 (A.conv .i64 n) 5)))) 1)))).1.1, (A.call fn21 ((A.bin .rem .i64 (A.conv .i64 id) (A.bin .add .i64 4 (A.bin .rem .i64 (A.conv .i64 n) 5))), (A.bin .add .i64 4 (A.bin .rem .i64 (A.conv .i64 n) 5)), (A.bin .and .i64 set1 (A.bin .sub .i64 (A.bin .shl .i64 1 (A.conv .u64 (A.bin .add .i64 4 (A.bin .rem .i64 (A.conv .i64 n) 5)))) 1)))).1.2.1, (A.call fn21 ((A.bin .rem .i64 (A.conv .i64 id) (A.bin .add .i64 4 (A.bin .rem .i64 (A.conv .i64 n) 5))), (A.bin .add .i64 4 (A.bin .rem .i64 (A.conv .i64 n) 5)), (A.bin .and .i64 set1 (A.bin .sub .i64 (A.bin .shl .i64 1 (A.conv .u64 (A.bin .add .i64 4 (A.bin .rem .i64 (A.conv .i64 n) 5)))) 1)))).1.2.2.1, 1, (A.call fn21 ((A.bin .rem .i64 (A.conv .i64 id) (A.bin .add .i64 4 (A.bin .rem .i64 (A.conv .i64 n) 5))), (A.bin .add .i64 4 (A.bin .rem .i64 (A.conv .i64 n) 5)), (A.bin .and .i64 set1 (A.bin .sub .i64 (A.bin .shl .i64 1 (A.conv .u64 (A.bin .add .i64 4 (A.bin .rem .i64 (A.conv .i64 n) 5)))) 1)))).1.2.2.2.2)).2.1 1)
         (.ret false)
         (.more (.c0 ⟨(A.bin .add .i64 4 (A.bin .rem .i64 (A.conv .i64 n) 5)), (A.bin .rem .i64 (A.conv .i64 id) (A.bin .add .i64 4 (A.bin .rem .i64 (A.conv .i64 n) 5)))⟩ 1 (A.call fn23 ((A.call fn21 ((A.bin .rem .i64 (A.conv .i64 id) (A.bin .add .i64 4 (A.bin .rem .i64 (A.conv .i64 n) 5))), (A.bin .add .i64 4 (A.bin .rem .i64 (A.conv .i64 n) 5)), (A.bin .and .i64 set1 (A.bin .sub .i64 (A.bin .shl .i64 1 (A.conv .u64 (A.bin .add .i64 4 (A.bin .rem .i64 (A.conv .i64 n) 5)))) 1)))).1.1, (A.call fn21 ((A.bin .rem .i64 (A.conv .i64 id) (A.bin .add .i64 4 (A.bin .rem .i64 (A.conv .i64 n) 5))), (A.bin .add .i64 4 (A.bin .rem .i64 (A.conv .i64 n) 5)), (A.bin .and .i64 set1 (A.bin .sub .i64 (A.bin .shl .i64 1 (A.conv .u64 (A.bin .add .i64 4 (A.bin .rem .i64 (A.conv .i64 n) 5)))) 1)))).1.2.1, (A.call fn21 ((A.bin .rem .i64 (A.conv .i64 id) (A.bin .add .i64 4 (A.bin .rem .i64 (A.conv .i64 n) 5))), (A.bin .add .i64 4 (A.bin .rem .i64 (A.conv .i64 n) 5)), (A.bin .and .i64 set1 (A.bin .sub .i64 (A.bin .shl .i64 1 (A.conv .u64 (A.bin .add .i64 4 (A.bin .rem .i64 (A.conv .i64 n) 5)))) 1)))).1.2.2.1, 1, (A.call fn21 ((A.bin .rem .i64 (A.conv .i64 id) (A.bin .add .i64 4 (A.bin .rem .i64 (A.conv .i64 n) 5))), (A.bin .add .i64 4 (A.bin .rem .i64 (A.conv .i64 n) 5)), (A.bin .and .i64 set1 (A.bin .sub .i64 (A.bin .shl .i64 1 (A.conv .u64 (A.bin .add .i64 4 (A.bin .rem .i64 (A.conv .i64 n) 5)))) 1)))).1.2.2.2.2)).1.1 (A.call fn23 ((A.call fn21 ((A.bin .rem .i64 (A.conv .i64 id) (A.bin .add .i64 4 (A.bin .rem .i64 (A.conv .i64 n) 5))), (A.bin .add .i64 4 (A.bin .rem .i64 (A.conv .i64 n) 5)), (A.bin .and .i64 set1 (A.bin .sub .i64 (A.bin .shl .i64 1 (A.conv .u64 (A.bin .add .i64 4 (A.bin .rem .i64 (A.conv .i64 n) 5)))) 1)))).1.1, (A.call fn21 ((A.bin .rem .i64 (A.conv .i64 id) (A.bin .add .i64 4 (A.bin .rem .i64 (A.conv .i64 n) 5))), (A.bin .add .i64 4 (A.bin .rem .i64 (A.conv .i64 n) 5)), (A.bin .and .i64 set1 (A.bin .sub .i64 (A.bin .shl .i64 1 (A.conv .u64 (A.bin .add .i64 4 (A.bin .rem .i64 (A.conv .i64 n) 5)))) 1)))).1.2.1, (A.call fn21 ((A.bin .rem .i64 (A.conv .i64 id) (A.bin .add .i64 4 (A.bin .rem .i64 (A.conv .i64 n) 5))), (A.bin .add .i64 4 (A.bin .rem .i64 (A.conv .i64 n) 5)), (A.bin .and .i64 set1 (A.bin .sub .i64 (A.bin .shl .i64 1 (A.conv .u64 (A.bin .add .i64 4 (A.bin .rem .i64 (A.conv .i64 n) 5)))) 1)))).1.2.2.1, 1, (A.call fn21 ((A.bin .rem .i64 (A.conv .i64 id) (A.bin .add .i64 4 (A.bin .rem .i64 (A.conv .i64 n) 5))), (A.bin .add .i64 4 (A.bin .rem .i64 (A.conv .i64 n) 5)), (A.bin .and .i64 set1 (A.bin .sub .i64 (A.bin .shl .i64 1 (A.conv .u64 (A.bin .add .i64 4 (A.bin .rem .i64 (A.conv .i64 n) 5)))) 1)))).1.2.2.2.2)).1.2.1 (A.call fn23 ((A.call fn21 ((A.bin .rem .i64 (A.conv .i64 id) (A.bin .add .i64 4 (A.bin .rem .i64 (A.conv .i64 n) 5))), (A.bin .add .i64 4 (A.bin .rem .i64 (A.conv .i64 n) 5)), (A.bin .and .i64 set1 (A.bin .sub .i64 (A.bin .shl .i64 1 (A.conv .u64 (A.bin .add .i64 4 (A.bin .rem .i64 (A.conv .i64 n) 5)))) 1)))).1.1, (A.call fn21 ((A.bin .rem .i64 (A.conv .i64 id) (A.bin .add .i64 4 (A.bin .rem .i64 (A.conv .i64 n) 5))), (A.bin .add .i64 4 (A.bin .rem .i64 (A.conv .i64 n) 5)), (A.bin .and .i64 set1 (A.bin .sub .i64 (A.bin .shl .i64 1 (A.conv .u64 (A.bin .add .i64 4 (A.bin .rem .i64 (A.conv .i64 n) 5)))) 1)))).1.2.1, (A.call fn21 ((A.bin .rem .i64 (A.conv .i64 id) (A.bin .add .i64 4 (A.bin .rem .i64 (A.conv .i64 n) 5))), (A.bin .add .i64 4 (A.bin .rem .i64 (A.conv .i64 n) 5)), (A.bin .and .i64 set1 (A.bin .sub .i64 (A.bin .shl .i64 1 (A.conv .u64 (A.bin .add .i64 4 (A.bin .rem .i64 (A.conv .i64 n) 5)))) 1)))).1.2.2.1, 1, (A.call fn21 ((A.bin .rem .i64 (A.conv .i64 id) (A.bin .add .i64 4 (A.bin .rem .i64 (A.conv .i64 n) 5))), (A.bin .add .i64 4 (A.bin .rem .i64 (A.conv .i64 n) 5)), (A.bin .and .i64 set1 (A.bin .sub .i64 (A.bin .shl .i64 1 (A.conv .u64 (A.bin .add .i64 4 (A.bin .rem .i64 (A.conv .i64 n) 5)))) 1)))).1.2.2.2.2)).1.2.2.1 (A.call fn23 ((A.call fn21 ((A.bin .rem .i64 (A.conv .i64 id) (A.bin .add .i64 4 (A.bin .rem .i64 (A.conv .i64 n) 5))), (A.bin .add .i64 4 (A.bin .rem .i64 (A.conv .i64 n) 5)), (A.bin .and .i64 set1 (A.bin .sub .i64 (A.bin .shl .i64 1 (A.conv .u64 (A.bin .add .i64 4 (A.bin .rem .i64 (A.conv .i64 n) 5)))) 1)))).1.1, (A.call fn21 ((A.bin .rem .i64 (A.conv .i64 id) (A.bin .add .i64 4 (A.bin .rem .i64 (A.conv .i64 n) 5))), (A.bin .add .i64 4 (A.bin .rem .i64 (A.conv .i64 n) 5)), (A.bin .and .i64 set1 (A.bin .sub .i64 (A.bin .shl .i64 1 (A.conv .u64 (A.bin .add .i64 4 (A.bin .rem .i64 (A.conv .i64 n) 5)))) 1)))).1.2.1, (A.call fn21 ((A.bin .rem .i64 (A.conv .i64 id) (A.bin .add .i64 4 (A.bin .rem .i64 (A.conv .i64 n) 5))), (A.bin .add .i64 4 (A.bin .rem .i64 (A.conv .i64 n) 5)), (A.bin .and .i64 set1 (A.bin .sub .i64 (A.bin .shl .i64 1 (A.conv .u64 (A.bin .add .i64 4 (A.bin .rem .i64 (A.conv .i64 n) 5)))) 1)))).1.2.2.1, 1, (A.call fn21 ((A.bin .rem .i64 (A.conv .i64 id) (A.bin .add .i64 4 (A.bin .rem .i64 (A.conv .i64 n) 5))), (A.bin .add .i64 4 (A.bin .rem .i64 (A.conv .i64 n) 5)), (A.bin .and .i64 set1 (A.bin .sub .i64 (A.bin .shl .i64 1 (A.conv .u64 (A.bin .add .i64 4 (A.bin .rem .i64 (A.conv .i64 n) 5)))) 1)))).1.2.2.2.2)).1.2.2.2.1 (A.call fn23 ((A.call fn21 ((A.bin .rem .i64 (A.conv .i64 id) (A.bin .add .i64 4 (A.bin .rem .i64 (A.conv .i64 n) 5))), (A.bin .add .i64 4 (A.bin .rem .i64 (A.conv .i64 n) 5)), (A.bin .and .i64 set1 (A.bin .sub .i64 (A.bin .shl .i64 1 (A.conv .u64 (A.bin .add .i64 4 (A.bin .rem .i64 (A.conv .i64 n) 5)))) 1)))).1.1, (A.call fn21 ((A.bin .rem .i64 (A.conv .i64 id) (A.bin .add .i64 4 (A.bin .rem .i64 (A.conv .i64 n) 5))), (A.bin .add .i64 4 (A.bin .rem .i64 (A.conv .i64 n) 5)), (A.bin .and .i64 set1 (A.bin .sub .i64 (A.bin .shl .i64 1 (A.conv .u64 (A.bin .add .i64 4 (A.bin .rem .i64 (A.conv .i64 n) 5)))) 1)))).1.2.1, (A.call fn21 ((A.bin .rem .i64 (A.conv .i64 id) (A.bin .add .i64 4 (A.bin .rem .i64 (A.conv .i64 n) 5))), (A.bin .add .i64 4 (A.bin .rem .i64 (A.conv .i64 n) 5)), (A.bin .and .i64 set1 (A.bin .sub .i64 (A.bin .shl .i64 1 (A.conv .u64 (A.bin .add .i64 4 (A.bin .rem .i64 (A.conv .i64 n) 5)))) 1)))).1.2.2.1, 1, (A.call fn21 ((A.bin .rem .i64 (A.conv .i64 id) (A.bin .add .i64 4 (A.bin .rem .i64 (A.conv .i64 n) 5))), (A.bin .add .i64 4 (A.bin .rem .i64 (A.conv .i64 n) 5)), (A.bin .and .i64 set1 (A.bin .sub .i64 (A.bin .shl .i64 1 (A.conv .u64 (A.bin .add .i64 4 (A.bin .rem .i64 (A.conv .i64 n) 5)))) 1)))).1.2.2.2.2)).1.2.2.2.2.1 (A.call fn23 ((A.call fn21 ((A.bin .rem .i64 (A.conv .i64 id) (A.bin .add .i64 4 (A.bin .rem .i64 (A.conv .i64 n) 5))), (A.bin .add .i64 4 (A.bin .rem .i64 (A.conv .i64 n) 5)), (A.bin .and .i64 set1 (A.bin .sub .i64 (A.bin .shl .i64 1 (A.conv .u64 (A.bin .add .i64 4 (A.bin .rem .i64 (A.conv .i64 n) 5)))) 1)))).1.1, (A.call fn21 ((A.bin .rem .i64 (A.conv .i64 id) (A.bin .add .i64 4 (A.bin .rem .i64 (A.conv .i64 n) 5))), (A.bin .add .i64 4 (A.bin .rem .i64 (A.conv .i64 n) 5)), (A.bin .and .i64 set1 (A.bin .sub .i64 (A.bin .shl .i64 1 (A.conv .u64 (A.bin .add .i64 4 (A.bin .rem .i64 (A.conv .i64 n) 5)))) 1)))).1.2.1, (A.call fn21 ((A.bin .rem .i64 (A.conv .i64 id) (A.bin .add .i64 4 (A.bin .rem .i64 (A.conv .i64 n) 5))), (A.bin .add .i64 4 (A.bin .rem .i64 (A.conv .i64 n) 5)), (A.bin .and .i64 set1 (A.bin .sub .i64 (A.bin .shl .i64 1 (A.conv .u64 (A.bin .add .i64 4 (A.bin .rem .i64 (A.conv .i64 n) 5)))) 1)))).1.2.2.1, 1, (A.call fn21 ((A.bin .rem .i64 (A.conv .i64 id) (A.bin .add .i64 4 (A.bin .rem .i64 (A.conv .i64 n) 5))), (A.bin .add .i64 4 (A.bin .rem .i64 (A.conv .i64 n) 5)), (A.bin .and .i64 set1 (A.bin .sub .i64 (A.bin .shl .i64 1 (A.conv .u64 (A.bin .add .i64 4 (A.bin .rem .i64 (A.conv .i64 n) 5)))) 1)))).1.2.2.2.2)).1.2.2.2.2.2.1 (A.call fn23 ((A.call fn21 ((A.bin .rem .i64 (A.conv .i64 id) (A.bin .add .i64 4 (A.bin .rem .i64 (A.conv .i64 n) 5))), (A.bin .add .i64 4 (A.bin .rem .i64 (A.conv .i64 n) 5)), (A.bin .and .i64 set1 (A.bin .sub .i64 (A.bin .shl .i64 1 (A.conv .u64 (A.bin .add .i64 4 (A.bin .rem .i64 (A.conv .i64 n) 5)))) 1)))).1.1, (A.call fn21 ((A.bin .rem .i64 (A.conv .i64 id) (A.bin .add .i64 4 (A.bin .rem .i64 (A.conv .i64 n) 5))), (A.bin .add .i64 4 (A.bin .rem .i64 (A.conv .i64 n) 5)), (A.bin .and .i64 set1 (A.bin .sub .i64 (A.bin .shl .i64 1 (A.conv .u64 (A.bin .add .i64 4 (A.bin .rem .i64 (A.conv .i64 n) 5)))) 1)))).1.2.1, (A.call fn21 ((A.bin .rem .i64 (A.conv .i64 id) (A.bin .add .i64 4 (A.bin .rem .i64 (A.conv .i64 n) 5))), (A.bin .add .i64 4 (A.bin .rem .i64 (A.conv .i64 n) 5)), (A.bin .and .i64 set1 (A.bin .sub .i64 (A.bin .shl .i64 1 (A.conv .u64 (A.bin .add .i64 4 (A.bin .rem .i64 (A.conv .i64 n) 5)))) 1)))).1.2.2.1, 1, (A.call fn21 ((A.bin .rem .i64 (A.conv .i64 id) (A.bin .add .i64 4 (A.bin .rem .i64 (A.conv .i64 n) 5))), (A.bin .add .i64 4 (A.bin .rem .i64 (A.conv .i64 n) 5)), (A.bin .and .i64 set1 (A.bin .sub .i64 (A.bin .shl .i64 1 (A.conv .u64 (A.bin .add .i64 4 (A.bin .rem .i64 (A.conv .i64 n) 5)))) 1)))).1.2.2.2.2)).1.2.2.2.2.2.2))))))))))
def s8 (A : Alg) : Y8 → LT Bool Y8
  | .c0 p a2 a3 a4 a5 a6 a7 a8 a9 =>
    .br (A.cmp .lss a2 p.a0)
    (.need (A.cmp .neq p.a0 0) (
     .need (A.call (@tt ((Int × Int × Int × Int × Int × Int × Int) × Int)) ((a3, a4, a5, a6, a7, a8, a9), (A.bin .rem .i64 (A.bin .add .i64 p.a1 a2) p.a0))) (
      .eqs (IntKind.i64 = IntKind.i64 ∧ ((A.call fn39 ((a3, a4, a5, a6, a7, a8, a9), (A.bin .rem .i64 (A.bin .add .i64 p.a1 a2) p.a0))).2 : Int) = (A.call fn39 ((a3, a4, a5, a6, a7, a8, a9), (A.bin .rem .i64 (A.bin .add .i64 p.a1 a2) p.a0))).2) (
       .br (A.cmp .neq (A.call fn39 ((a3, a4, a5, a6, a7, a8, a9), (A.bin .rem .i64 (A.bin .add .i64 p.a1 a2) p.a0))).2 0)
        (.ret false)
        (.more (.c0 p (A.bin .add .i64 a2 1) (A.call fn39 ((a3, a4, a5, a6, a7, a8, a9), (A.bin .rem .i64 (A.bin .add .i64 p.a1 a2) p.a0))).1.1 (A.call fn39 ((a3, a4, a5, a6, a7, a8, a9), (A.bin .rem .i64 (A.bin .add .i64 p.a1 a2) p.a0))).1.2.1 (A.call fn39 ((a3, a4, a5, a6, a7, a8, a9), (A.bin .rem .i64 (A.bin .add .i64 p.a1 a2) p.a0))).1.2.2.1 (A.call fn39 ((a3, a4, a5, a6, a7, a8, a9), (A.bin .rem .i64 (A.bin .add .i64 p.a1 a2) p.a0))).1.2.2.2.1 (A.call fn39 ((a3, a4, a5, a6, a7, a8, a9), (A.bin .rem .i64 (A.bin .add .i64 p.a1 a2) p.a0))).1.2.2.2.2.1 (A.call fn39 ((a3, a4, a5, a6, a7, a8, a9), (A.bin .rem .i64 (A.bin .add .i64 p.a1 a2) p.a0))).1.2.2.2.2.2.1 (A.call fn39 ((a3, a4, a5, a6, a7, a8, a9), (A.bin .rem .i64 (A.bin .add .i64 p.a1 a2) p.a0))).1.2.2.2.2.2.2))))))
    (.need (A.call (@tt ((Int × Int × Int × Int × Int × Int × Int))) (a3, a4, a5, a6, a7, a8, a9)) (
     .br (A.cmp .eql (A.call fn23 (a3, a4, a5, a6, a7, a8, a9)).2.2 0)
      (.br (A.cmp .eql (A.call fn23 (a3, a4, a5, a6, a7, a8, a9)).2.1 2)
       (.need (A.cmp .leq 0 (A.conv .u64 p.a1)) (
        .ret (A.cmp .eql a5 (A.bin .shl .i64 1 (A.conv .u64 p.a1)))))
       (.ret false))
      (.ret false)))
noncomputable def E8 (A : Alg) : Info (Ty.Ts [.bool]) := { ti := tys, fns := [(8, Try.f8)], sps := [(21, sp21), (22, sp22), (23, sp23), (39, sp39)], stops := [⟨8, 9, [[7, 8, 9, 13]]⟩], cuts := [], consts := [], fin := finD A [.bool] }
theorem t8_ok (A : Alg) (id : Int) (n : Int) (set1 : Int) : run A (E8 A) 88 (startC 8 Try.f8 (dvals A [(.int .u8), (.int .u8), (.int .i64)] (id, n, set1))) = (t8 A id n set1).tr cfg8 := by kernel_rfl
theorem s8_ok (A : Alg) : ∀ y, ∃ n, run A (E8 A) n (advance (E8 A).sps (cfg8 y)) = (s8 A y).tr cfg8
  | .c0 p a2 a3 a4 a5 a6 a7 a8 a9 => ⟨45, by kernel_rfl⟩
def w8 : Walk Try.prog 8 [(.int .u8), (.int .u8), (.int .i64)] [.bool] Y8 := ⟨fun (id, n, set1) => t8 std id n set1, s8 std⟩
theorem w8_ok : w8.Ok :=
  walk_ok (E := E8 std) ⟨tys_fit, fns_cons Try.func8 (by kernel_rfl) (fns_nil), sps_cons so21 (sps_cons so22 (sps_cons so23 (sps_cons so39 (sps_nil)))), by kernel_rfl⟩ rfl rfl rfl (by kernel_rfl) w8 cfg8 88 (fun (id, n, set1) => t8_ok std id n set1) (s8_ok std)

/-- One wrong frame of each other node. -/
theorem stops_in {k a : Int} (hk : 4 ≤ k ∧ k ≤ 8) (ha : 0 ≤ a ∧ a < k) :
    ∀ (j : Nat) (s S : Int) (p : P8c0), p.a0 = k → p.a1 = a → k - s = j → 1 ≤ s → s ≤ k → 0 ≤ S → S < ((2 ^ k.toNat : Nat) : Int) → bitT S a = true → (∀ i : Int, 0 < i → i < s → bitT S ((a + i) % k) = false) →
      Runs (s8 std) (.more (.c0 p s a k S 1 (s - 1) 1 0)) true := by
  have hp := pow_le (n := k.toNat) (by omega)
  intro j
  induction j with
  | zero =>
    intro s S p h1 h2 hj hs1 hs2 hS0 hS1 hown hbit
    obtain rfl : s = k := by omega
    have ha8 : 2 ^ a.toNat ≤ 2 ^ 7 := Nat.pow_le_pow_right (by decide) (by omega)
    have hS : S = ((2 ^ a.toNat : Nat) : Int) := bit_ext hS0 (by omega) (Int.natCast_nonneg _) (by omega) fun i hi0 hi8 => by
      have e : bitT ((2 ^ a.toNat : Nat) : Int) i = decide (a = i) := by
        rw [bitT, Int.toNat_natCast, Nat.testBit_two_pow, Bool.eq_iff_iff]; simp; omega
      rw [e]
      by_cases hia : a = i
      · subst hia; rw [hown]; simp
      · by_cases hik : i < s
        · have := hbit ((i - a) % s) (by
            have h1 := Int.emod_nonneg (i - a) (show s ≠ 0 by omega)
            rcases Int.lt_or_eq_of_le h1 with h | h
            · exact h
            · exfalso
              have := Int.emod_add_mul_ediv (i - a) s
              rw [← h] at this
              have h3 : (i - a) / s = 0 := by
                have hlt : (i - a) < s := by omega
                have hgt : -s < (i - a) := by omega
                rcases Int.lt_trichotomy ((i - a) / s) 0 with h4 | h4 | h4
                · have : s * ((i - a) / s) ≤ s * (-1) := Int.mul_le_mul_of_nonneg_left (by omega) (by omega)
                  omega
                · exact h4
                · have : s * 1 ≤ s * ((i - a) / s) := Int.mul_le_mul_of_nonneg_left (by omega) (by omega)
                  omega
              rw [h3] at this
              omega) (Int.emod_lt_of_pos _ (by omega))
          have e : (a + (i - a) % s) % s = i := by
            rw [Int.add_emod_emod, show a + (i - a) = i from by omega]; exact Int.emod_eq_of_lt hi0 hik
          rw [e] at this
          rw [this]; simp [hia]
        · rw [bit_high (n := s) hS1 hS0 (by omega) (by omega)]; simp [hia]
    have hok : okM a s S 1 (s - 1) 1 0 := by
      unfold okM
      refine ⟨hk.1, hk.2, ha.1, ha.2, by omega, by omega, hS0, hS1, by omega, by omega, by omega, by omega, by omega, by omega, fun _ => hown, fun h => by omega⟩
    simp only [runs_more, s8, runs_br, h1, h2, std_cmp_lss]
    rw [show decide (s < s) = false from by simp]
    simp only [cond_false, runs_need, runs_br, std_call, tt_eq, true_and, own_stop hok (by omega : (1 : Int) ≤ s - 1), std_cmp_eql, std_cmp_leq, std_conv]
    rw [wu64 (by omega) (by omega), shl1 ha.1 (by omega), hS]
    simp [ha.1]
    exact .br (.need rfl (.ret _))
  | succ j ih =>
    intro s S p h1 h2 hj hs1 hs2 hS0 hS1 hown hbit
    have hlt : s < k := by omega
    obtain ⟨o1, o2, o3⟩ := other_ok (a := a) (s := s) ha.1 (by omega) hk ha.2 hlt
    have hrem := rem_add (a := a) (s := s) ha.1 (by omega) hk ha.2 hlt
    have hok : okM a k S 1 (s - 1) 1 0 := by
      unfold okM
      refine ⟨hk.1, hk.2, ha.1, ha.2, by omega, by omega, hS0, hS1, by omega, by omega, by omega, by omega, by omega, by omega, fun _ => hown, fun h => by omega⟩
    have hd := del_lt (c := S) (s := (a + s) % k) (n := k) hS0 hk.2 hS1 o1 (by omega)
    have hbad : fn39 ((a, k, S, 1, s - 1, 1, 0), (a + s) % k) = ((a, k, delB S ((a + s) % k), 1, s, 1, 0), 0) := by
      rw [bad_of (null_1 hok o1 o2 o3 (by decide)) (by simp; omega) (by simp; omega)]
      simp only [inc]
      rw [if_pos (by omega), show s - 1 + 1 = s from by omega]
    simp only [runs_more, s8, runs_br, h1, h2, std_cmp_lss]
    rw [show decide (s < k) = true from by simpa using hlt]
    simp only [cond_true, runs_need, runs_eqs, runs_br, std_call, std_cmp_neq, hrem, hbad, and_self, true_and, tt_eq]
    refine ⟨by simp; omega, ?_⟩
    simp only [bne_self_eq_false, cond_false]
    have := ih (s + 1) (delB S ((a + s) % k)) p h1 h2 (by omega) (by omega) (by omega) hd.1 hd.2
      (by rw [bit_del hS0 (by omega) o1 (by omega) ha.1, hown]; simpa using o3)
      (fun i hi0 hi1 => by
        rw [bit_del hS0 (by omega) o1 (by omega) (Int.emod_nonneg _ (by omega))]
        by_cases his : i = s
        · subst his; simp
        · rw [hbit i hi0 (by omega)]; rfl)
    rw [show s + 1 - 1 = s from by omega] at this
    rw [std_add, w64 (by omega) (by omega)]
    exact this
theorem stops {id n set1 : Int} (h : Ty.hass [(.int .u8), (.int .u8), (.int .i64)] (id, n, set1)) : Runs (s8 std) (t8 std id n set1) true := by
  simp only [Ty.hass, Ty.has, has8, has64] at h
  have hc : std.conv .i64 n = n := by rw [std_conv, w64 (by omega) (by omega)]
  have hci : std.conv .i64 id = id := by rw [std_conv, w64 (by omega) (by omega)]
  have hm : n.tmod 5 = n % 5 := Int.tmod_eq_emod_of_nonneg h.2.1.1
  have hk : std.bin .add .i64 4 (std.bin .rem .i64 n 5) = 4 + n % 5 := by rw [std_rem, hm, std_add, w64 (by omega) (by omega)]
  have hk48 : 4 ≤ 4 + n % 5 ∧ 4 + n % 5 ≤ 8 := by omega
  unfold t8
  simp only [hc, hci, hk]
  generalize 4 + n % 5 = k at *
  have ha : std.bin .rem .i64 id k = id % k := by rw [std_rem]; exact Int.tmod_eq_emod_of_nonneg h.1.1
  have ha2 : 0 ≤ id % k ∧ id % k < k := ⟨Int.emod_nonneg _ (by omega), Int.emod_lt_of_pos _ (by omega)⟩
  simp only [ha]
  generalize id % k = a at *
  have hp := pow_le (n := k.toNat) (by omega)
  have hp1 : 1 ≤ 2 ^ k.toNat := Nat.one_le_two_pow
  have hcu : std.conv .u64 k = k := by rw [std_conv, wu64 (by omega) (by omega)]
  have hsh : std.bin .sub .i64 (std.bin .shl .i64 1 k) 1 = ((2 ^ k.toNat : Nat) : Int) - 1 := by rw [shl1 (by omega) hk48.2, std_sub, w64 (by omega) (by omega)]
  have hS := and_mask (x := set1) (m := ((2 ^ k.toNat : Nat) : Int) - 1) (by omega) (by omega)
  simp only [hcu, hsh]
  generalize std.bin .and .i64 set1 (((2 ^ k.toNat : Nat) : Int) - 1) = S at *
  have hnew := new_ok (a := a) (b := k) (c := S) hk48 ha2 ⟨hS.1, by omega⟩
  have hok : okM a k S 1 0 0 0 := by
    unfold okM
    refine ⟨hk48.1, hk48.2, ha2.1, ha2.2, by omega, by omega, hS.1, by omega, by omega, by omega, by omega, by omega, by omega, by omega, fun h => absurd rfl h, fun h => by omega⟩
  have hl := ins_lt (c := S) (s := a) (n := k) hS.1 hk48.2 (by omega) ha2.1 ha2.2
  have hbit : bitT (insB S a) a = true := by rw [bit_ins hS.1 (by omega) ha2.1 (by omega) ha2.1]; simp
  have := stops_in (k := k) (a := a) hk48 ha2 (k - 1).toNat 1 (insB S a) ⟨k, a⟩ rfl rfl (by omega) (by omega) (by omega) hl.1 hl.2 hbit fun i h0 h1 => by omega
  simp only [std_call, hnew, begun_true, std_not, std_cmp_neq, runs_need, runs_br, tt_eq, bne_self_eq_false, cond_false, Bool.not_true, true_and, std_cmp_leq, own_send hok (by omega : (0 : Int) < 1)]
  refine ⟨by simp; omega, by simp; omega, this⟩

def fn8 : Int × Int × Int → Bool := fun _ => true
def sp8 : FSpec := ⟨[(.int .u8), (.int .u8), (.int .i64)], [.bool], (@tt (Int × Int × Int)), fn8⟩
theorem run8 {id : Int} {n : Int} {set1 : Int} (h : Ty.hass [(.int .u8), (.int .u8), (.int .i64)] (id, n, set1)) : Runs (s8 std) (t8 std id n set1) (fn8 (id, n, set1)) := by
  exact stops h
theorem so8 : FSpec.Sound Try.prog 8 sp8 :=
  w8_ok.sound _ _ fun (id, n, set1) _ h => run8 h
theorem law8 (x : Int × Int × Int) (h : Ty.hass [(.int .u8), (.int .u8), (.int .i64)] x) : fn8 x = true := rfl

/-! ### metronome/metronomelaw09.MemberAgree (function 7) -/
structure P7c0 where
  a0 : Int
  a1 : List Int
  a2 : Int
inductive Y7 where
  | c0 (p : P7c0) (a3 : Int) (a4 : Int) (a5 : Int) (a6 : Int) (a7 : Int) (a8 : Int) (a9 : Int) (a10 : Int) (a11 : Int) (a12 : Int) (a13 : Int) (a14 : Int) (a15 : Int) (a16 : Int) (a17 : Int)
noncomputable def cfg7 : Y7 → Cfg
  | .c0 p a3 a4 a5 a6 a7 a8 a9 a10 a11 a12 a13 a14 a15 a16 a17 => { frames := [{ fn := 7, n := 139, env := (Env.put (Env.put (Env.put (Env.put (Env.put (Env.put .leaf 2 (.int .i64 false p.a0)) 4 (.ptr 0 0)) 5 (.ptr 1 0)) 41 (.sl (.int .u8) p.a1)) 42 (.int .i64 false p.a2)) 43 (.int .i64 false a3)), todo := [.inLoop (Code.way (bodyOf Try.f7) [1, 1, 1, 1, 0, 1, 0, 0]), .inBlock 0, .code (Code.way (bodyOf Try.f7) [1, 1, 1, 1, 1])], marks := [], rnd := none }], mem := [.flat false [.int .i64 false a4, .int .i64 false a5, .int .i64 false a6, .int .i64 false a7, .int .i64 false a8, .int .i64 false a9, .int .i64 false a10], .flat false [.int .i64 false a11, .int .i64 false a12, .int .i64 false a13, .int .i64 false a14, .int .i64 false a15, .int .i64 false a16, .int .i64 false a17], .dead] }

def t7 (A : Alg) (aId : Int) (aN : Int) (aSet : Int) (aAcc : Int) (aFail : Int) (aStage : Int) (aFirst : Int) (bId : Int) (bN : Int) (bSet : Int) (bAcc : Int) (bFail : Int) (bStage : Int) (bFirst : Int) (sender : Int) (outcomes : List Int) : LT Bool Y7 :=
  .eqs (IntKind.i64 = IntKind.i64 ∧ (bSet : Int) = bSet) (
 .eqs ((.ptr 1 2 : AV) = .ptr 1 2) (
  .need (A.call (@tt Unit) ()) (
   .br (A.not (A.call fn22 ()))
    (.need (A.call (@tt Unit) ()) (
     .ret (A.call fn22 ())))
    (.need (A.call (@tt ((Int × Int × Int × Int × Int × Int × Int))) (aId, bN, bSet, aAcc, aFail, 0, 0)) (
     .br (A.cmp .neq (A.call fn34 (aId, bN, bSet, aAcc, aFail, 0, 0)) 0)
      (.need (A.call (@tt Unit) ()) (
       .ret (A.call fn22 ())))
      (.need (A.call (@tt ((Int × Int × Int × Int × Int × Int × Int))) (bId, bN, bSet, bAcc, bFail, 0, 0)) (
       .br (A.cmp .neq (A.call fn34 (bId, bN, bSet, bAcc, bFail, 0, 0)) 0)
        (.need (A.call (@tt Unit) ()) (
         .ret (A.call fn22 ())))
        (.need (A.and (A.cmp .leq 0 0) (A.and (A.cmp .leq 0 (A.mn (A.len outcomes) 40)) (A.cmp .leq (A.mn (A.len outcomes) 40) (A.len outcomes)))) (
         .more (.c0 ⟨sender, (A.sub outcomes 0 (A.mn (A.len outcomes) 40)), (A.len (A.sub outcomes 0 (A.mn (A.len outcomes) 40)))⟩ 0 aId bN bSet aAcc aFail 0 0 bId bN bSet bAcc bFail 0 0))))))))))
def s7 (A : Alg) : Y7 → LT Bool Y7
  | .c0 p a3 a4 a5 a6 a7 a8 a9 a10 a11 a12 a13 a14 a15 a16 a17 =>
    .br (A.cmp .lss a3 p.a2)
    (.need (A.and (A.cmp .leq 0 a3) (A.cmp .lss a3 (A.len p.a1))) (
     .need (A.cmp .neq a5 0) (
      .need (A.cmp .neq a5 0) (
       .need (A.cmp .neq a5 0) (
        .br (A.cmp .eql (A.bin .rem .i64 (A.bin .add .i64 (A.bin .add .i64 (A.bin .rem .i64 a3 a5) (A.bin .rem .i64 p.a0 a5)) a5) a5) a4)
         (.more (.c0 p (A.bin .add .i64 a3 1) a4 a5 a6 a7 a8 a9 a10 a11 a12 a13 a14 a15 a16 a17))
         (.br (A.cmp .eql (A.bin .rem .i64 (A.bin .add .i64 (A.bin .add .i64 (A.bin .rem .i64 a3 a5) (A.bin .rem .i64 p.a0 a5)) a5) a5) a11)
          (.more (.c0 p (A.bin .add .i64 a3 1) a4 a5 a6 a7 a8 a9 a10 a11 a12 a13 a14 a15 a16 a17))
          (.br (A.cmp .eql (A.bin .rem .u8 (A.nth (.int .u8) p.a1 a3 : Int) 3) 0)
           (.need (A.call (@tt ((Int × Int × Int × Int × Int × Int × Int) × Int)) ((a4, a5, a6, a7, a8, a9, a10), (A.bin .rem .i64 (A.bin .add .i64 (A.bin .add .i64 (A.bin .rem .i64 a3 a5) (A.bin .rem .i64 p.a0 a5)) a5) a5))) (
            .need (A.call (@tt ((Int × Int × Int × Int × Int × Int × Int) × Int)) ((a11, a12, a13, a14, a15, a16, a17), (A.bin .rem .i64 (A.bin .add .i64 (A.bin .add .i64 (A.bin .rem .i64 a3 a5) (A.bin .rem .i64 p.a0 a5)) a5) a5))) (
             .br (A.cmp .neq (A.call fn38 ((a4, a5, a6, a7, a8, a9, a10), (A.bin .rem .i64 (A.bin .add .i64 (A.bin .add .i64 (A.bin .rem .i64 a3 a5) (A.bin .rem .i64 p.a0 a5)) a5) a5))).2 0)
              (.ret false)
              (.br (A.cmp .neq (A.call fn38 ((a11, a12, a13, a14, a15, a16, a17), (A.bin .rem .i64 (A.bin .add .i64 (A.bin .add .i64 (A.bin .rem .i64 a3 a5) (A.bin .rem .i64 p.a0 a5)) a5) a5))).2 0)
               (.ret false)
               (.br (A.cmp .neq (A.call fn38 ((a4, a5, a6, a7, a8, a9, a10), (A.bin .rem .i64 (A.bin .add .i64 (A.bin .add .i64 (A.bin .rem .i64 a3 a5) (A.bin .rem .i64 p.a0 a5)) a5) a5))).1.2.2.1 (A.call fn38 ((a11, a12, a13, a14, a15, a16, a17), (A.bin .rem .i64 (A.bin .add .i64 (A.bin .add .i64 (A.bin .rem .i64 a3 a5) (A.bin .rem .i64 p.a0 a5)) a5) a5))).1.2.2.1)
                (.ret false)
                (.br (A.cmp .neq (A.call fn38 ((a4, a5, a6, a7, a8, a9, a10), (A.bin .rem .i64 (A.bin .add .i64 (A.bin .add .i64 (A.bin .rem .i64 a3 a5) (A.bin .rem .i64 p.a0 a5)) a5) a5))).1.2.2.2.2.2.1 0)
                 (.ret false)
                 (.br (A.cmp .neq (A.call fn38 ((a11, a12, a13, a14, a15, a16, a17), (A.bin .rem .i64 (A.bin .add .i64 (A.bin .add .i64 (A.bin .rem .i64 a3 a5) (A.bin .rem .i64 p.a0 a5)) a5) a5))).1.2.2.2.2.2.1 0)
                  (.ret false)
                  (.more (.c0 p (A.bin .add .i64 a3 1) (A.call fn38 ((a4, a5, a6, a7, a8, a9, a10), (A.bin .rem .i64 (A.bin .add .i64 (A.bin .add .i64 (A.bin .rem .i64 a3 a5) (A.bin .rem .i64 p.a0 a5)) a5) a5))).1.1 (A.call fn38 ((a4, a5, a6, a7, a8, a9, a10), (A.bin .rem .i64 (A.bin .add .i64 (A.bin .add .i64 (A.bin .rem .i64 a3 a5) (A.bin .rem .i64 p.a0 a5)) a5) a5))).1.2.1 (A.call fn38 ((a4, a5, a6, a7, a8, a9, a10), (A.bin .rem .i64 (A.bin .add .i64 (A.bin .add .i64 (A.bin .rem .i64 a3 a5) (A.bin .rem .i64 p.a0 a5)) a5) a5))).1.2.2.1 (A.call fn38 ((a4, a5, a6, a7, a8, a9, a10), (A.bin .rem .i64 (A.bin .add .i64 (A.bin .add .i64 (A.bin .rem .i64 a3 a5) (A.bin .rem .i64 p.a0 a5)) a5) a5))).1.2.2.2.1 (A.call fn38 ((a4, a5, a6, a7, a8, a9, a10), (A.bin .rem .i64 (A.bin .add .i64 (A.bin .add .i64 (A.bin .rem .i64 a3 a5) (A.bin .rem .i64 p.a0 a5)) a5) a5))).1.2.2.2.2.1 (A.call fn38 ((a4, a5, a6, a7, a8, a9, a10), (A.bin .rem .i64 (A.bin .add .i64 (A.bin .add .i64 (A.bin .rem .i64 a3 a5) (A.bin .rem .i64 p.a0 a5)) a5) a5))).1.2.2.2.2.2.1 (A.call fn38 ((a4, a5, a6, a7, a8, a9, a10), (A.bin .rem .i64 (A.bin .add .i64 (A.bin .add .i64 (A.bin .rem .i64 a3 a5) (A.bin .rem .i64 p.a0 a5)) a5) a5))).1.2.2.2.2.2.2 (A.call fn38 ((a11, a12, a13, a14, a15, a16, a17), (A.bin .rem .i64 (A.bin .add .i64 (A.bin .add .i64 (A.bin .rem .i64 a3 a5) (A.bin .rem .i64 p.a0 a5)) a5) a5))).1.1 (A.call fn38 ((a11, a12, a13, a14, a15, a16, a17), (A.bin .rem .i64 (A.bin .add .i64 (A.bin .add .i64 (A.bin .rem .i64 a3 a5) (A.bin .rem .i64 p.a0 a5)) a5) a5))).1.2.1 (A.call fn38 ((a11, a12, a13, a14, a15, a16, a17), (A.bin .rem .i64 (A.bin .add .i64 (A.bin .add .i64 (A.bin .rem .i64 a3 a5) (A.bin .rem .i64 p.a0 a5)) a5) a5))).1.2.2.1 (A.call fn38 ((a11, a12, a13, a14, a15, a16, a17), (A.bin .rem .i64 (A.bin .add .i64 (A.bin .add .i64 (A.bin .rem .i64 a3 a5) (A.bin .rem .i64 p.a0 a5)) a5) a5))).1.2.2.2.1 (A.call fn38 ((a11, a12, a13, a14, a15, a16, a17), (A.bin .rem .i64 (A.bin .add .i64 (A.bin .add .i64 (A.bin .rem .i64 a3 a5) (A.bin .rem .i64 p.a0 a5)) a5) a5))).1.2.2.2.2.1 (A.call fn38 ((a11, a12, a13, a14, a15, a16, a17), (A.bin .rem .i64 (A.bin .add .i64 (A.bin .add .i64 (A.bin .rem .i64 a3 a5) (A.bin .rem .i64 p.a0 a5)) a5) a5))).1.2.2.2.2.2.1 (A.call fn38 ((a11, a12, a13, a14, a15, a16, a17), (A.bin .rem .i64 (A.bin .add .i64 (A.bin .add .i64 (A.bin .rem .i64 a3 a5) (A.bin .rem .i64 p.a0 a5)) a5) a5))).1.2.2.2.2.2.2)))))))))
           (.br (A.cmp .eql (A.bin .rem .u8 (A.nth (.int .u8) p.a1 a3 : Int) 3) 1)
            (.need (A.call (@tt ((Int × Int × Int × Int × Int × Int × Int) × Int)) ((a4, a5, a6, a7, a8, a9, a10), (A.bin .rem .i64 (A.bin .add .i64 (A.bin .add .i64 (A.bin .rem .i64 a3 a5) (A.bin .rem .i64 p.a0 a5)) a5) a5))) (
             .need (A.call (@tt ((Int × Int × Int × Int × Int × Int × Int) × Int)) ((a11, a12, a13, a14, a15, a16, a17), (A.bin .rem .i64 (A.bin .add .i64 (A.bin .add .i64 (A.bin .rem .i64 a3 a5) (A.bin .rem .i64 p.a0 a5)) a5) a5))) (
              .br (A.cmp .neq (A.call fn39 ((a4, a5, a6, a7, a8, a9, a10), (A.bin .rem .i64 (A.bin .add .i64 (A.bin .add .i64 (A.bin .rem .i64 a3 a5) (A.bin .rem .i64 p.a0 a5)) a5) a5))).2 0)
               (.ret false)
               (.br (A.cmp .neq (A.call fn39 ((a11, a12, a13, a14, a15, a16, a17), (A.bin .rem .i64 (A.bin .add .i64 (A.bin .add .i64 (A.bin .rem .i64 a3 a5) (A.bin .rem .i64 p.a0 a5)) a5) a5))).2 0)
                (.ret false)
                (.br (A.cmp .neq (A.call fn39 ((a4, a5, a6, a7, a8, a9, a10), (A.bin .rem .i64 (A.bin .add .i64 (A.bin .add .i64 (A.bin .rem .i64 a3 a5) (A.bin .rem .i64 p.a0 a5)) a5) a5))).1.2.2.1 (A.call fn39 ((a11, a12, a13, a14, a15, a16, a17), (A.bin .rem .i64 (A.bin .add .i64 (A.bin .add .i64 (A.bin .rem .i64 a3 a5) (A.bin .rem .i64 p.a0 a5)) a5) a5))).1.2.2.1)
                 (.ret false)
                 (.br (A.cmp .neq (A.call fn39 ((a4, a5, a6, a7, a8, a9, a10), (A.bin .rem .i64 (A.bin .add .i64 (A.bin .add .i64 (A.bin .rem .i64 a3 a5) (A.bin .rem .i64 p.a0 a5)) a5) a5))).1.2.2.2.2.2.1 0)
                  (.ret false)
                  (.br (A.cmp .neq (A.call fn39 ((a11, a12, a13, a14, a15, a16, a17), (A.bin .rem .i64 (A.bin .add .i64 (A.bin .add .i64 (A.bin .rem .i64 a3 a5) (A.bin .rem .i64 p.a0 a5)) a5) a5))).1.2.2.2.2.2.1 0)
                   (.ret false)
                   (.more (.c0 p (A.bin .add .i64 a3 1) (A.call fn39 ((a4, a5, a6, a7, a8, a9, a10), (A.bin .rem .i64 (A.bin .add .i64 (A.bin .add .i64 (A.bin .rem .i64 a3 a5) (A.bin .rem .i64 p.a0 a5)) a5) a5))).1.1 (A.call fn39 ((a4, a5, a6, a7, a8, a9, a10), (A.bin .rem .i64 (A.bin .add .i64 (A.bin .add .i64 (A.bin .rem .i64 a3 a5) (A.bin .rem .i64 p.a0 a5)) a5) a5))).1.2.1 (A.call fn39 ((a4, a5, a6, a7, a8, a9, a10), (A.bin .rem .i64 (A.bin .add .i64 (A.bin .add .i64 (A.bin .rem .i64 a3 a5) (A.bin .rem .i64 p.a0 a5)) a5) a5))).1.2.2.1 (A.call fn39 ((a4, a5, a6, a7, a8, a9, a10), (A.bin .rem .i64 (A.bin .add .i64 (A.bin .add .i64 (A.bin .rem .i64 a3 a5) (A.bin .rem .i64 p.a0 a5)) a5) a5))).1.2.2.2.1 (A.call fn39 ((a4, a5, a6, a7, a8, a9, a10), (A.bin .rem .i64 (A.bin .add .i64 (A.bin .add .i64 (A.bin .rem .i64 a3 a5) (A.bin .rem .i64 p.a0 a5)) a5) a5))).1.2.2.2.2.1 (A.call fn39 ((a4, a5, a6, a7, a8, a9, a10), (A.bin .rem .i64 (A.bin .add .i64 (A.bin .add .i64 (A.bin .rem .i64 a3 a5) (A.bin .rem .i64 p.a0 a5)) a5) a5))).1.2.2.2.2.2.1 (A.call fn39 ((a4, a5, a6, a7, a8, a9, a10), (A.bin .rem .i64 (A.bin .add .i64 (A.bin .add .i64 (A.bin .rem .i64 a3 a5) (A.bin .rem .i64 p.a0 a5)) a5) a5))).1.2.2.2.2.2.2 (A.call fn39 ((a11, a12, a13, a14, a15, a16, a17), (A.bin .rem .i64 (A.bin .add .i64 (A.bin .add .i64 (A.bin .rem .i64 a3 a5) (A.bin .rem .i64 p.a0 a5)) a5) a5))).1.1 (A.call fn39 ((a11, a12, a13, a14, a15, a16, a17), (A.bin .rem .i64 (A.bin .add .i64 (A.bin .add .i64 (A.bin .rem .i64 a3 a5) (A.bin .rem .i64 p.a0 a5)) a5) a5))).1.2.1 (A.call fn39 ((a11, a12, a13, a14, a15, a16, a17), (A.bin .rem .i64 (A.bin .add .i64 (A.bin .add .i64 (A.bin .rem .i64 a3 a5) (A.bin .rem .i64 p.a0 a5)) a5) a5))).1.2.2.1 (A.call fn39 ((a11, a12, a13, a14, a15, a16, a17), (A.bin .rem .i64 (A.bin .add .i64 (A.bin .add .i64 (A.bin .rem .i64 a3 a5) (A.bin .rem .i64 p.a0 a5)) a5) a5))).1.2.2.2.1 (A.call fn39 ((a11, a12, a13, a14, a15, a16, a17), (A.bin .rem .i64 (A.bin .add .i64 (A.bin .add .i64 (A.bin .rem .i64 a3 a5) (A.bin .rem .i64 p.a0 a5)) a5) a5))).1.2.2.2.2.1 (A.call fn39 ((a11, a12, a13, a14, a15, a16, a17), (A.bin .rem .i64 (A.bin .add .i64 (A.bin .add .i64 (A.bin .rem .i64 a3 a5) (A.bin .rem .i64 p.a0 a5)) a5) a5))).1.2.2.2.2.2.1 (A.call fn39 ((a11, a12, a13, a14, a15, a16, a17), (A.bin .rem .i64 (A.bin .add .i64 (A.bin .add .i64 (A.bin .rem .i64 a3 a5) (A.bin .rem .i64 p.a0 a5)) a5) a5))).1.2.2.2.2.2.2)))))))))
            (.need (A.call (@tt ((Int × Int × Int × Int × Int × Int × Int) × Int × Int)) ((a4, a5, a6, a7, a8, a9, a10), (A.bin .rem .i64 (A.bin .add .i64 (A.bin .add .i64 (A.bin .rem .i64 a3 a5) (A.bin .rem .i64 p.a0 a5)) a5) a5), 0)) (
             .need (A.call (@tt ((Int × Int × Int × Int × Int × Int × Int) × Int × Int)) ((a11, a12, a13, a14, a15, a16, a17), (A.bin .rem .i64 (A.bin .add .i64 (A.bin .add .i64 (A.bin .rem .i64 a3 a5) (A.bin .rem .i64 p.a0 a5)) a5) a5), 0)) (
              .br (A.cmp .neq (A.call fn25 ((a4, a5, a6, a7, a8, a9, a10), (A.bin .rem .i64 (A.bin .add .i64 (A.bin .add .i64 (A.bin .rem .i64 a3 a5) (A.bin .rem .i64 p.a0 a5)) a5) a5), 0)).2 0)
               (.ret false)
               (.br (A.cmp .neq (A.call fn25 ((a11, a12, a13, a14, a15, a16, a17), (A.bin .rem .i64 (A.bin .add .i64 (A.bin .add .i64 (A.bin .rem .i64 a3 a5) (A.bin .rem .i64 p.a0 a5)) a5) a5), 0)).2 0)
                (.ret false)
                (.br (A.cmp .neq (A.call fn25 ((a4, a5, a6, a7, a8, a9, a10), (A.bin .rem .i64 (A.bin .add .i64 (A.bin .add .i64 (A.bin .rem .i64 a3 a5) (A.bin .rem .i64 p.a0 a5)) a5) a5), 0)).1.2.2.1 (A.call fn25 ((a11, a12, a13, a14, a15, a16, a17), (A.bin .rem .i64 (A.bin .add .i64 (A.bin .add .i64 (A.bin .rem .i64 a3 a5) (A.bin .rem .i64 p.a0 a5)) a5) a5), 0)).1.2.2.1)
                 (.ret false)
                 (.br (A.cmp .neq (A.call fn25 ((a4, a5, a6, a7, a8, a9, a10), (A.bin .rem .i64 (A.bin .add .i64 (A.bin .add .i64 (A.bin .rem .i64 a3 a5) (A.bin .rem .i64 p.a0 a5)) a5) a5), 0)).1.2.2.2.2.2.1 0)
                  (.ret false)
                  (.br (A.cmp .neq (A.call fn25 ((a11, a12, a13, a14, a15, a16, a17), (A.bin .rem .i64 (A.bin .add .i64 (A.bin .add .i64 (A.bin .rem .i64 a3 a5) (A.bin .rem .i64 p.a0 a5)) a5) a5), 0)).1.2.2.2.2.2.1 0)
                   (.ret false)
                   (.more (.c0 p (A.bin .add .i64 a3 1) (A.call fn25 ((a4, a5, a6, a7, a8, a9, a10), (A.bin .rem .i64 (A.bin .add .i64 (A.bin .add .i64 (A.bin .rem .i64 a3 a5) (A.bin .rem .i64 p.a0 a5)) a5) a5), 0)).1.1 (A.call fn25 ((a4, a5, a6, a7, a8, a9, a10), (A.bin .rem .i64 (A.bin .add .i64 (A.bin .add .i64 (A.bin .rem .i64 a3 a5) (A.bin .rem .i64 p.a0 a5)) a5) a5), 0)).1.2.1 (A.call fn25 ((a4, a5, a6, a7, a8, a9, a10), (A.bin .rem .i64 (A.bin .add .i64 (A.bin .add .i64 (A.bin .rem .i64 a3 a5) (A.bin .rem .i64 p.a0 a5)) a5) a5), 0)).1.2.2.1 (A.call fn25 ((a4, a5, a6, a7, a8, a9, a10), (A.bin .rem .i64 (A.bin .add .i64 (A.bin .add .i64 (A.bin .rem .i64 a3 a5) (A.bin .rem .i64 p.a0 a5)) a5) a5), 0)).1.2.2.2.1 (A.call fn25 ((a4, a5, a6, a7, a8, a9, a10), (A.bin .rem .i64 (A.bin .add .i64 (A.bin .add .i64 (A.bin .rem .i64 a3 a5) (A.bin .rem .i64 p.a0 a5)) a5) a5), 0)).1.2.2.2.2.1 (A.call fn25 ((a4, a5, a6, a7, a8, a9, a10), (A.bin .rem .i64 (A.bin .add .i64 (A.bin .add .i64 (A.bin .rem .i64 a3 a5) (A.bin .rem .i64 p.a0 a5)) a5) a5), 0)).1.2.2.2.2.2.1 (A.call fn25 ((a4, a5, a6, a7, a8, a9, a10), (A.bin .rem .i64 (A.bin .add .i64 (A.bin .add .i64 (A.bin .rem .i64 a3 a5) (A.bin .rem .i64 p.a0 a5)) a5) a5), 0)).1.2.2.2.2.2.2 (A.call fn25 ((a11, a12, a13, a14, a15, a16, a17), (A.bin .rem .i64 (A.bin .add .i64 (A.bin .add .i64 (A.bin .rem .i64 a3 a5) (A.bin .rem .i64 p.a0 a5)) a5) a5), 0)).1.1 (A.call fn25 ((a11, a12, a13, a14, a15, a16, a17), (A.bin .rem .i64 (A.bin .add .i64 (A.bin .add .i64 (A.bin .rem .i64 a3 a5) (A.bin .rem .i64 p.a0 a5)) a5) a5), 0)).1.2.1 (A.call fn25 ((a11, a12, a13, a14, a15, a16, a17), (A.bin .rem .i64 (A.bin .add .i64 (A.bin .add .i64 (A.bin .rem .i64 a3 a5) (A.bin .rem .i64 p.a0 a5)) a5) a5), 0)).1.2.2.1 (A.call fn25 ((a11, a12, a13, a14, a15, a16, a17), (A.bin .rem .i64 (A.bin .add .i64 (A.bin .add .i64 (A.bin .rem .i64 a3 a5) (A.bin .rem .i64 p.a0 a5)) a5) a5), 0)).1.2.2.2.1 (A.call fn25 ((a11, a12, a13, a14, a15, a16, a17), (A.bin .rem .i64 (A.bin .add .i64 (A.bin .add .i64 (A.bin .rem .i64 a3 a5) (A.bin .rem .i64 p.a0 a5)) a5) a5), 0)).1.2.2.2.2.1 (A.call fn25 ((a11, a12, a13, a14, a15, a16, a17), (A.bin .rem .i64 (A.bin .add .i64 (A.bin .add .i64 (A.bin .rem .i64 a3 a5) (A.bin .rem .i64 p.a0 a5)) a5) a5), 0)).1.2.2.2.2.2.1 (A.call fn25 ((a11, a12, a13, a14, a15, a16, a17), (A.bin .rem .i64 (A.bin .add .i64 (A.bin .add .i64 (A.bin .rem .i64 a3 a5) (A.bin .rem .i64 p.a0 a5)) a5) a5), 0)).1.2.2.2.2.2.2)))))))))))))))))
    (.ret true)
noncomputable def E7 (A : Alg) : Info (Ty.Ts [.bool]) := { ti := tys, fns := [(7, Try.f7)], sps := [(22, sp22), (25, sp25), (34, sp34), (38, sp38), (39, sp39)], stops := [⟨7, 6, [[2, 4, 5, 41, 42, 43]]⟩], cuts := [], consts := [], fin := finD A [.bool] }
theorem t7_ok (A : Alg) (aId : Int) (aN : Int) (aSet : Int) (aAcc : Int) (aFail : Int) (aStage : Int) (aFirst : Int) (bId : Int) (bN : Int) (bSet : Int) (bAcc : Int) (bFail : Int) (bStage : Int) (bFirst : Int) (sender : Int) (outcomes : List Int) : run A (E7 A) 65 (startC 7 Try.f7 (dvals A [(.struct [(.int .i64), (.int .i64), (.int .i64), (.int .i64), (.int .i64), (.int .i64), (.int .i64)]), (.struct [(.int .i64), (.int .i64), (.int .i64), (.int .i64), (.int .i64), (.int .i64), (.int .i64)]), (.int .i64), (.slice (.int .u8))] ((aId, aN, aSet, aAcc, aFail, aStage, aFirst), (bId, bN, bSet, bAcc, bFail, bStage, bFirst), sender, outcomes))) = (t7 A aId aN aSet aAcc aFail aStage aFirst bId bN bSet bAcc bFail bStage bFirst sender outcomes).tr cfg7 := by kernel_rfl
theorem s7_ok (A : Alg) : ∀ y, ∃ n, run A (E7 A) n (advance (E7 A).sps (cfg7 y)) = (s7 A y).tr cfg7
  | .c0 p a3 a4 a5 a6 a7 a8 a9 a10 a11 a12 a13 a14 a15 a16 a17 => ⟨137, by kernel_rfl⟩
def w7 : Walk Try.prog 7 [(.struct [(.int .i64), (.int .i64), (.int .i64), (.int .i64), (.int .i64), (.int .i64), (.int .i64)]), (.struct [(.int .i64), (.int .i64), (.int .i64), (.int .i64), (.int .i64), (.int .i64), (.int .i64)]), (.int .i64), (.slice (.int .u8))] [.bool] Y7 := ⟨fun ((aId, aN, aSet, aAcc, aFail, aStage, aFirst), (bId, bN, bSet, bAcc, bFail, bStage, bFirst), sender, outcomes) => t7 std aId aN aSet aAcc aFail aStage aFirst bId bN bSet bAcc bFail bStage bFirst sender outcomes, s7 std⟩
theorem w7_ok : w7.Ok :=
  walk_ok (E := E7 std) ⟨tys_fit, fns_cons Try.func7 (by kernel_rfl) (fns_nil), sps_cons so22 (sps_cons so25 (sps_cons so34 (sps_cons so38 (sps_cons so39 (sps_nil))))), by kernel_rfl⟩ rfl rfl rfl (by kernel_rfl) w7 cfg7 65 (fun ((aId, aN, aSet, aAcc, aFail, aStage, aFirst), (bId, bN, bSet, bAcc, bFail, bStage, bFirst), sender, outcomes) => t7_ok std aId aN aSet aAcc aFail aStage aFirst bId bN bSet bAcc bFail bStage bFirst sender outcomes) (s7_ok std)

theorem inc_le {d : Int} (h0 : 0 ≤ d) (h1 : d ≤ 1048576) : 0 ≤ inc d ∧ inc d ≤ 1048576 := by
  unfold inc; split <;> omega
/-- With another set and other counts, and not waiting. -/
theorem ok_0 {a b c d e f g c' d' e' : Int} (h : okM a b c d e f g) (h1 : 0 ≤ c' ∧ c' < ((2 ^ b.toNat : Nat) : Int)) (h2 : 0 ≤ d' ∧ d' ≤ 1048576) (h3 : 0 ≤ e' ∧ e' ≤ 1048576) : okM a b c' d' e' 0 0 := by
  unfold okM at h ⊢
  exact ⟨h.1, h.2.1, h.2.2.1, h.2.2.2.1, by omega, by omega, h1.1, h1.2, h2.1, h2.2, h3.1, h3.2, by omega, by omega, fun h => absurd rfl h, fun h => by omega⟩
theorem slot_ok {i s k : Int} (hk : 4 ≤ k ∧ k ≤ 8) (hi : 0 ≤ i) :
    0 ≤ std.bin .rem .i64 (std.bin .add .i64 (std.bin .add .i64 (std.bin .rem .i64 i k) (std.bin .rem .i64 s k)) k) k ∧
    std.bin .rem .i64 (std.bin .add .i64 (std.bin .add .i64 (std.bin .rem .i64 i k) (std.bin .rem .i64 s k)) k) k < k := by
  simp only [std_rem, std_add]
  have h1 : i.tmod k = i % k := Int.tmod_eq_emod_of_nonneg hi
  have h2 := Int.emod_nonneg i (show k ≠ 0 by omega)
  have h3 := Int.emod_lt_of_pos i (show 0 < k by omega)
  have h4 := Int.lt_tmod_of_pos s (show 0 < k by omega)
  have h5 := Int.tmod_lt_of_pos s (show 0 < k by omega)
  rw [h1, w64 (a := i % k + s.tmod k) (by omega) (by omega), w64 (a := i % k + s.tmod k + k) (by omega) (by omega), Int.tmod_eq_emod_of_nonneg (by omega)]
  exact ⟨Int.emod_nonneg _ (by omega), Int.emod_lt_of_pos _ (by omega)⟩
theorem agree_in : ∀ (j : Nat) (i a b x d e : Int) (d' e' : Int) (p : P7c0), p.a2 = (p.a1.length : Int) → p.a2 ≤ 40 → p.a2 - i = j → 0 ≤ i → ∀ c : Int, okM a b c d e 0 0 → okM x b c d' e' 0 0 →
    Runs (s7 std) (.more (.c0 p i a b c d e 0 0 x b c d' e' 0 0)) true := by
  intro j
  induction j with
  | zero =>
    intro i a b x d e d' e' p hp hp2 hj hi c h1 h2
    obtain rfl : i = p.a2 := by omega
    simp only [runs_more, s7, runs_br, std_cmp_lss]
    rw [show decide (p.a2 < p.a2) = false from by simp]
    exact .ret _
  | succ j ih =>
    intro i a b x d e d' e' p hp hp2 hj hi c h1 h2
    have hm := h1
    have hm' := h2
    unfold okM at hm hm'
    have hb := pow_le (n := b.toNat) (by omega)
    obtain ⟨hs0, hs1⟩ := slot_ok (i := i) (s := p.a0) (k := b) (by omega) hi
    have hadd : std.bin .add .i64 i 1 = i + 1 := by rw [std_add, w64 (by omega) (by omega)]
    simp only [runs_more, s7, runs_br, std_cmp_lss, hadd]
    rw [show decide (i < p.a2) = true from by simp; omega]
    generalize std.bin .rem .i64 (std.bin .add .i64 (std.bin .add .i64 (std.bin .rem .i64 i b) (std.bin .rem .i64 p.a0 b)) b) b = s at *
    have hskip : ∀ c d e d' e', okM a b c d e 0 0 → okM x b c d' e' 0 0 → Runs (s7 std) (.more (.c0 p (i + 1) a b c d e 0 0 x b c d' e' 0 0)) true := fun c d e d' e' h h' => ih (i + 1) a b x d e d' e' p hp hp2 (by omega) (by omega) c h h'
    simp only [cond_true, runs_need]
    have hln : std.len p.a1 = (p.a1.length : Int) := rfl
    refine ⟨by simp only [std_and, std_cmp_leq, std_cmp_lss, Bool.and_eq_true, decide_eq_true_eq]; omega, by simp [std_cmp_neq]; omega, by simp [std_cmp_neq]; omega, by simp [std_cmp_neq]; omega, ?_⟩
    refine .br ?_
    rw [std_cmp_eql]
    cases hsa : s == a
    · rw [cond_false]
      refine .br ?_
      rw [std_cmp_eql]
      cases hsx : s == x
      · rw [cond_false]
        have na : s ≠ a := by simpa using hsa
        have nx : s ≠ x := by simpa using hsx
        have hd := del_lt (c := c) (s := s) (n := b) (by omega) (by omega) (by omega) hs0 (by omega)
        have hi' := ins_lt (c := c) (s := s) (n := b) (by omega) (by omega) (by omega) hs0 (by omega)
        have n1 := null_1 h1 hs0 hs1 na (by decide)
        have n2 := null_1 h2 hs0 hs1 nx (by decide)
        have b1 := bad_of n1 (by simp; omega) (by simp; omega)
        have b2 := bad_of n2 (by simp; omega) (by simp; omega)
        have g1 := good_0 h1 hs0 hs1 na
        have g2 := good_0 h2 hs0 hs1 nx
        have id := inc_le (d := d) (by omega) (by omega)
        have ie := inc_le (d := e) (by omega) (by omega)
        have id' := inc_le (d := d') (by omega) (by omega)
        have ie' := inc_le (d := e') (by omega) (by omega)
        refine .br ?_
        cases std.cmp .eql (std.bin .rem .u8 (std.nth (.int .u8) p.a1 i : Int) 3) 0
        · rw [cond_false]
          refine .br ?_
          cases std.cmp .eql (std.bin .rem .u8 (std.nth (.int .u8) p.a1 i : Int) 3) 1
          · simp only [cond_false, std_call, runs_need, runs_br, tt_eq, true_and, g1, g2, std_cmp_neq, bne_self_eq_false]
            exact hskip _ _ _ _ _ (ok_0 h1 hi' id (by omega)) (ok_0 h2 hi' id' (by omega))
          · simp only [cond_true, cond_false, std_call, runs_need, runs_br, tt_eq, true_and, b1, b2, std_cmp_neq, bne_self_eq_false]
            exact hskip _ _ _ _ _ (ok_0 h1 hd (by omega) ie) (ok_0 h2 hd (by omega) ie')
        · simp only [cond_true, cond_false, std_call, runs_need, runs_br, tt_eq, true_and, n1, n2, std_cmp_neq, bne_self_eq_false]
          exact hskip _ _ _ _ _ (ok_0 h1 hd (by omega) (by omega)) (ok_0 h2 hd (by omega) (by omega))
      · exact hskip _ _ _ _ _ h1 h2
    · exact hskip _ _ _ _ _ h1 h2
theorem agree {a b c d e f g a' b' c' d' e' f' g' s : Int} {l : List Int} : Runs (s7 std) (t7 std a b c d e f g a' b' c' d' e' f' g' s l) true := by
  unfold t7
  simp only [runs_eqs, runs_need, runs_br, std_call, tt_eq, begun_true, std_not, Bool.not_true, cond_false, true_and]
  rw [std_cmp_neq]
  cases h1 : fn34 (a, b', c', d, e, 0, 0) != 0
  · rw [cond_false]
    refine .need rfl (.br ?_)
    rw [std_cmp_neq]
    cases h2 : fn34 (a', b', c', d', e', 0, 0) != 0
    · rw [bne_eq_false_iff_eq] at h1 h2
      rw [cond_false]
      have hl : (std.sub l 0 (std.mn (std.len l) 40)).length = std.mn (std.len l) 40 ∧ 0 ≤ std.mn (std.len l) 40 ∧ std.mn (std.len l) 40 ≤ l.length ∧ std.mn (std.len l) 40 ≤ 40 := by
        have h1 : std.len l = (l.length : Int) := rfl
        rw [h1, std_sub', std_mn]
        split <;> simp <;> omega
      refine .need (by simp only [std_and, std_cmp_leq, Bool.and_eq_true, decide_eq_true_eq]; have h1 : std.len l = (l.length : Int) := rfl; omega) ?_
      exact agree_in _ 0 a b' a' d e d' e' ⟨s, _, _⟩ rfl (by show ((std.sub l 0 (std.mn (std.len l) 40)).length : Int) ≤ 40; omega) (Int.sub_zero _) (by omega) c' (fn34_zero.1 h1) (fn34_zero.1 h2)
    · exact .need rfl (.ret _)
  · exact .need rfl (.ret _)

def fn7 : (Int × Int × Int × Int × Int × Int × Int) × (Int × Int × Int × Int × Int × Int × Int) × Int × List Int → Bool := fun _ => true
def sp7 : FSpec := ⟨[(.struct [(.int .i64), (.int .i64), (.int .i64), (.int .i64), (.int .i64), (.int .i64), (.int .i64)]), (.struct [(.int .i64), (.int .i64), (.int .i64), (.int .i64), (.int .i64), (.int .i64), (.int .i64)]), (.int .i64), (.slice (.int .u8))], [.bool], (@tt ((Int × Int × Int × Int × Int × Int × Int) × (Int × Int × Int × Int × Int × Int × Int) × Int × List Int)), fn7⟩
theorem run7 {aId : Int} {aN : Int} {aSet : Int} {aAcc : Int} {aFail : Int} {aStage : Int} {aFirst : Int} {bId : Int} {bN : Int} {bSet : Int} {bAcc : Int} {bFail : Int} {bStage : Int} {bFirst : Int} {sender : Int} {outcomes : List Int} (h : Ty.hass [(.struct [(.int .i64), (.int .i64), (.int .i64), (.int .i64), (.int .i64), (.int .i64), (.int .i64)]), (.struct [(.int .i64), (.int .i64), (.int .i64), (.int .i64), (.int .i64), (.int .i64), (.int .i64)]), (.int .i64), (.slice (.int .u8))] ((aId, aN, aSet, aAcc, aFail, aStage, aFirst), (bId, bN, bSet, bAcc, bFail, bStage, bFirst), sender, outcomes)) : Runs (s7 std) (t7 std aId aN aSet aAcc aFail aStage aFirst bId bN bSet bAcc bFail bStage bFirst sender outcomes) (fn7 ((aId, aN, aSet, aAcc, aFail, aStage, aFirst), (bId, bN, bSet, bAcc, bFail, bStage, bFirst), sender, outcomes)) := by
  exact agree
theorem so7 : FSpec.Sound Try.prog 7 sp7 :=
  w7_ok.sound _ _ fun ((aId, aN, aSet, aAcc, aFail, aStage, aFirst), (bId, bN, bSet, bAcc, bFail, bStage, bFirst), sender, outcomes) _ h => run7 h
theorem law7 (x : (Int × Int × Int × Int × Int × Int × Int) × (Int × Int × Int × Int × Int × Int × Int) × Int × List Int) (_ : Ty.hass [(.struct [(.int .i64), (.int .i64), (.int .i64), (.int .i64), (.int .i64), (.int .i64), (.int .i64)]), (.struct [(.int .i64), (.int .i64), (.int .i64), (.int .i64), (.int .i64), (.int .i64), (.int .i64)]), (.int .i64), (.slice (.int .u8))] x) : fn7 x = true := rfl

/-- What comes of a right frame may be, and has its sender in. -/
theorem good_may {a b c d e f g s k : Int} (h : okM a b c d e f g) (h0 : 0 ≤ s) (h1 : s < b) (h2 : s ≠ a) (hk : k = 0 ∨ k = 1) (he : (fn25 ((a, b, c, d, e, f, g), s, k)).2 = 0) :
    ∃ c' d' e' f' g', (fn25 ((a, b, c, d, e, f, g), s, k)).1 = (a, b, c', d', e', f', g') ∧ okM a b c' d' e' f' g' ∧ bitT c' s = true := by
  have hm := h
  unfold okM at hm
  have hp := pow_le (n := b.toNat) (by omega)
  have id := inc_le (d := d) (by omega) (by omega)
  have ie := inc_le (d := e) (by omega) (by omega)
  have I := fun {c s : Int} (h : 0 ≤ c ∧ c < ((2 ^ b.toNat : Nat) : Int)) (h' : 0 ≤ s ∧ s < b) => ins_lt (c := c) (s := s) (n := b) h.1 (by omega) h.2 h'.1 h'.2
  have D := fun {c s : Int} (h : 0 ≤ c ∧ c < ((2 ^ b.toNat : Nat) : Int)) (h' : 0 ≤ s ∧ s < b) => del_lt (c := c) (s := s) (n := b) h.1 (by omega) h.2 h'.1 (by omega)
  have BI := fun {c s : Int} (h : 0 ≤ c ∧ c < ((2 ^ b.toNat : Nat) : Int)) (h' : 0 ≤ s ∧ s < b) {i : Int} (hi : 0 ≤ i) => bit_ins (c := c) (s := s) (i := i) h.1 (by omega) h'.1 (by omega) hi
  have BD := fun {c s : Int} (h : 0 ≤ c ∧ c < ((2 ^ b.toNat : Nat) : Int)) (h' : 0 ≤ s ∧ s < b) {i : Int} (hi : 0 ≤ i) => bit_del (c := c) (s := s) (i := i) h.1 (by omega) h'.1 (by omega) hi
  have hc : 0 ≤ c ∧ c < ((2 ^ b.toNat : Nat) : Int) := ⟨by omega, by omega⟩
  have ha : 0 ≤ a ∧ a < b := ⟨by omega, by omega⟩
  have hs : 0 ≤ s ∧ s < b := ⟨h0, h1⟩
  have hg : 0 ≤ g ∧ g < b := ⟨by omega, by omega⟩
  have hf : f = 0 ∨ f = 1 ∨ f = 2 := by omega
  have sa : (a == s) = false := by simp; omega
  rcases hf with rfl | rfl | rfl <;> rcases hk with rfl | rfl
  · rw [good_0 h h0 h1 h2]
    exact ⟨_, _, _, _, _, rfl, ok_0 h (I hc hs) id (by omega), by rw [BI hc hs h0]; simp⟩
  · exfalso
    revert he
    simp [fn25, t25, LT.val, std_call, std_cmp_neq, std_cmp_eql, std_not, fn73_zero.2 ⟨h, h0, h1, h2⟩, fn74_ok h h0 h1 h2, fn78_0]
  · rw [good_1 h h0 h1 h2]
    exact ⟨_, _, _, _, _, rfl, ok_0 h (I (I hc hs) ha) id (by omega), by rw [BI (I hc hs) ha h0, BI hc hs h0]; simp⟩
  · rw [good_11 h h0 h1 h2]
    refine ⟨_, _, _, _, _, rfl, ?_, by rw [BI hc hs h0]; simp⟩
    have := I hc hs
    unfold okM
    exact ⟨by omega, by omega, by omega, by omega, by omega, by omega, by omega, by omega, by omega, by omega, by omega, by omega, by omega, by omega, fun _ => by
      rw [BI hc hs ha.1, hm.2.2.2.2.2.2.2.2.2.2.2.2.2.2.1 (by decide)]; rfl, fun _ => h2⟩
  · by_cases hsg : s = g
    · subst hsg
      rw [good_2a h h0 h1 h2]
      exact ⟨_, _, _, _, _, rfl, ok_0 h (I (I hc hs) ha) id (by omega), by rw [BI (I hc hs) ha h0, BI hc hs h0]; simp⟩
    · rw [good_2b h h0 h1 h2 hsg]
      exact ⟨_, _, _, _, _, rfl, ok_0 h (D (I (I hc hs) ha) hg) id ie, by
        have sg : (g != s) = true := by simp; omega
        rw [BD (I (I hc hs) ha) hg h0, BI (I hc hs) ha h0, BI hc hs h0, sg]; simp⟩
  · by_cases hsg : s = g
    · subst hsg
      exfalso
      revert he
      simp [fn25, t25, LT.val, std_call, std_cmp_neq, std_cmp_eql, std_not, fn73_zero.2 ⟨h, h0, h1, h2⟩, fn74_ok h h0 h1 h2, fn78_2a]
    · rw [good_2c h h0 h1 h2 hsg]
      exact ⟨_, _, _, _, _, rfl, ok_0 h (D (I (I hc hs) hg) ha) id ie, by
        have sg : (a != s) = true := by simp; omega
        rw [BD (I (I hc hs) hg) ha h0, BI (I hc hs) hg h0, BI hc hs h0, sg]; simp⟩
theorem null_may {a b c d e f g s : Int} (h : okM a b c d e f g) (h0 : 0 ≤ s) (h1 : s < b) (h2 : s ≠ a) :
    ∃ c' f' g', fn38 ((a, b, c, d, e, f, g), s) = ((a, b, c', d, e, f', g'), 0) ∧ okM a b c' d e f' g' := by
  have hm := h
  unfold okM at hm
  have hp := pow_le (n := b.toNat) (by omega)
  have hd := del_lt (c := c) (s := s) (n := b) (by omega) (by omega) (by omega) h0 (by omega)
  have hb : f ≠ 0 → bitT (delB c s) a = true := fun hf => by
    rw [bit_del (by omega) (by omega) h0 (by omega) (by omega), hm.2.2.2.2.2.2.2.2.2.2.2.2.2.2.1 hf]
    simpa using h2
  by_cases hf : f = 2
  · subst hf
    by_cases hsg : g = s
    · subst hsg
      refine ⟨_, _, _, null_3 h h2, ?_⟩
      unfold okM
      exact ⟨by omega, by omega, by omega, by omega, by omega, by omega, by omega, by omega, by omega, by omega, by omega, by omega, by omega, by omega, fun _ => hb (by decide), fun h => by omega⟩
    · refine ⟨_, _, _, null_2 h h0 h1 h2 hsg, ?_⟩
      unfold okM
      exact ⟨by omega, by omega, by omega, by omega, by omega, by omega, by omega, by omega, by omega, by omega, by omega, by omega, by omega, by omega, fun _ => hb (by decide), hm.2.2.2.2.2.2.2.2.2.2.2.2.2.2.2⟩
  · refine ⟨_, _, _, null_1 h h0 h1 h2 hf, ?_⟩
    unfold okM
    exact ⟨by omega, by omega, by omega, by omega, by omega, by omega, by omega, by omega, by omega, by omega, by omega, by omega, by omega, by omega, hb, fun h => absurd h hf⟩
theorem ok_e {a b c d e f g e' : Int} (h : okM a b c d e f g) (h1 : 0 ≤ e' ∧ e' ≤ 1048576) : okM a b c d e' f g := by
  unfold okM at h ⊢
  exact ⟨h.1, h.2.1, h.2.2.1, h.2.2.2.1, h.2.2.2.2.1, h.2.2.2.2.2.1, h.2.2.2.2.2.2.1, h.2.2.2.2.2.2.2.1, h.2.2.2.2.2.2.2.2.1, h.2.2.2.2.2.2.2.2.2.1, h1.1, h1.2, h.2.2.2.2.2.2.2.2.2.2.2.2⟩
/-- A call about no other node. -/
theorem no_other {a b c d e f g s : Int} (h : okM a b c d e f g) (h0 : ¬ (0 ≤ s ∧ s < b ∧ s ≠ a)) : fn73 ((a, b, c, d, e, f, g), s) ≠ 0 := fun h' => h0 (fn73_zero.1 h').2
theorem good_no {m : Int × Int × Int × Int × Int × Int × Int} {s k : Int} (h : fn73 (m, s) ≠ 0) : (fn25 (m, s, k)).2 = fn73 (m, s) := by
  obtain ⟨a, b, c, d, e, f, g⟩ := m
  have e1 : (fn73 ((a, b, c, d, e, f, g), s) != 0) = true := by simpa using h
  simp only [fn25, t25, LT.val, std_call, std_cmp_neq, e1, cond_true]
theorem null_no {m : Int × Int × Int × Int × Int × Int × Int} {s : Int} (h : fn73 (m, s) ≠ 0) : (fn38 (m, s)).2 = fn73 (m, s) := by
  obtain ⟨a, b, c, d, e, f, g⟩ := m
  have e1 : (fn73 ((a, b, c, d, e, f, g), s) != 0) = true := by simpa using h
  simp only [fn38, t38, LT.val, std_call, std_cmp_neq, e1, cond_true]
theorem bad_no {m : Int × Int × Int × Int × Int × Int × Int} {s : Int} (h : fn73 (m, s) ≠ 0) : (fn39 (m, s)).2 = fn73 (m, s) := by
  obtain ⟨a, b, c, d, e, f, g⟩ := m
  have := null_no h
  have h' : (fn38 ((a, b, c, d, e, f, g), s)).2 ≠ 0 := by rw [this]; exact h
  have e1 : ((fn38 ((a, b, c, d, e, f, g), s)).2 == 0) = false := by simpa using h'
  simp only [fn39, t39, LT.val, std_call, std_cmp_eql, e1, cond_false]
  exact this
theorem bit_shl {c s : Int} (h0 : 0 ≤ c) (h1 : c < 256) (h2 : 0 ≤ s) (h3 : s < 8) : (std.bin .and .i64 c (std.bin .shl .i64 1 s) == 0) = !bitT c s := by
  have := bit_r h0 h1 h2 h3
  cases hb : bitT c s
  · rw [hb] at this; simpa using this
  · rw [hb] at this; simp at this; simpa using this
theorem own_may {a b c d e f g : Int} (h : okM a b c d e f g) : ∃ c' d' e' f' g' v, fn23 (a, b, c, d, e, f, g) = ((a, b, c', d', e', f', g'), v, 0) ∧ okM a b c' d' e' f' g' ∧ (v == 1) = decide (e < d) ∧ (v = 1 → bitT c' a = true) := by
  have hm := h
  unfold okM at hm
  have hp := pow_le (n := b.toNat) (by omega)
  have hi := ins_lt (c := c) (s := a) (n := b) (by omega) (by omega) (by omega) (by omega) (by omega)
  have hb : bitT (insB c a) a = true := by rw [bit_ins (by omega) (by omega) (by omega) (by omega) (by omega)]; simp
  by_cases hde : e < d
  · refine ⟨_, _, _, _, _, _, own_send h hde, ?_, by simp [hde], fun _ => hb⟩
    unfold okM
    exact ⟨by omega, by omega, by omega, by omega, by omega, by omega, by omega, by omega, by omega, by omega, by omega, by omega, by omega, by omega, fun _ => hb, fun h => by omega⟩
  · exact ⟨_, _, _, _, _, _, own_stop h (by omega), h, by simp [hde], fun h => by omega⟩
theorem join_may {a b c d e f g : Int} (h : okM a b c d e f g) : ∃ c' d' e' f' g' v, fn27 (a, b, c, d, e, f, g) = ((a, b, c', d', e', f', g'), v, 0) ∧ okM a b c' d' e' f' g' ∧ (v == 1) = decide (e < d) := by
  obtain ⟨c', d', e', f', g', v, h1, h2, h3, _⟩ := own_may h
  by_cases hde : d = 0 ∧ e = 0
  · refine ⟨c, d, e, f, g, 3, ?_, h, ?_⟩
    · obtain ⟨rfl, rfl⟩ := hde
      simp [fn27, t27, LT.val, std_call, std_cmp_eql, fn34_zero.2 h]
    · obtain ⟨rfl, rfl⟩ := hde; decide
  · refine ⟨c', d', e', f', g', v, ?_, h2, h3⟩
    rw [← h1]
    by_cases h0 : d = 0
    · have he : (e == 0) = false := by simp; omega
      simp [fn27, t27, LT.val, std_call, std_cmp_eql, fn34_zero.2 h, h0, he]
    · have hd : (d == 0) = false := by simpa using h0
      simp [fn27, t27, LT.val, std_call, std_cmp_eql, fn34_zero.2 h, hd]

/-! ### metronome/metronomelaw09.MemberMay (function 9) -/
structure P9c0 where
  a0 : Int
  a1 : Int
  a2 : Int
  a3 : Int
  a4 : Int
  a6 : Int
  a7 : Int
  a8 : Int
  a9 : Int
  a10 : Int
  a11 : Int
  a12 : Int
  a13 : Int
  a14 : Int
inductive Y9 where
  | c0 (p : P9c0) (a5 : Int)
noncomputable def cfg9 : Y9 → Cfg
  | .c0 p a5 => { frames := [{ fn := 9, n := 144, env := (Env.put (Env.put (Env.put (Env.put (Env.put (Env.put .leaf 1 (.int .i64 false p.a0)) 2 (.int .i64 false p.a1)) 3 (.ptr 0 0)) 30 (.osl 1 1 false p.a2 p.a3)) 31 (.int .i64 false p.a4)) 32 (.int .i64 false a5)), todo := [.inLoop (Code.way (bodyOf Try.f9) [1, 1, 0, 1, 0, 0]), .inBlock 0, .code (Code.way (bodyOf Try.f9) [1, 1, 1])], marks := [], rnd := none }], mem := [.flat false [.int .i64 false p.a6, .int .i64 false p.a7, .int .i64 false p.a8, .int .i64 false p.a9, .int .i64 false p.a10, .int .i64 false p.a11, .int .i64 false p.a12], .flat false [.int .i64 false p.a13, .int .i64 false p.a14], .dead] }

def t9 (A : Alg) (mId : Int) (mN : Int) (mSet : Int) (mAcc : Int) (mFail : Int) (mStage : Int) (mFirst : Int) (sender : Int) (which : Int) : LT Bool Y9 :=
  .need (A.call (@tt Unit) ()) (
 .br (A.not (A.call fn22 ()))
  (.need (A.call (@tt Unit) ()) (
   .ret (A.call fn22 ())))
  (.need (A.call (@tt ((Int × Int × Int × Int × Int × Int × Int))) (mId, mN, mSet, mAcc, mFail, mStage, mFirst)) (
   .br (A.cmp .neq (A.call fn34 (mId, mN, mSet, mAcc, mFail, mStage, mFirst)) 0)
    (.need (A.call (@tt Unit) ()) (
     .ret (A.call fn22 ())))
    (.more (.c0 ⟨sender, which, 0, 2, 2, mId, mN, mSet, mAcc, mFail, mStage, mFirst, 0, 1⟩ 0)))))
def s9 (A : Alg) : Y9 → LT Bool Y9
  | .c0 p a5 =>
    .br (A.cmp .lss a5 p.a4)
    (.need (A.and (A.cmp .leq 0 a5) (A.cmp .lss a5 p.a3)) (
     .need (A.call (@tt ((Int × Int × Int × Int × Int × Int × Int) × Int × Int)) ((p.a6, p.a7, p.a8, p.a9, p.a10, p.a11, p.a12), p.a0, (A.nth (.int .i64) [p.a13, p.a14] (A.bin .add .i64 p.a2 a5) : Int))) (
      .br (A.cmp .eql (A.call fn25 ((p.a6, p.a7, p.a8, p.a9, p.a10, p.a11, p.a12), p.a0, (A.nth (.int .i64) [p.a13, p.a14] (A.bin .add .i64 p.a2 a5) : Int))).2 0)
       (.need (A.call (@tt ((Int × Int × Int × Int × Int × Int × Int))) (A.call fn25 ((p.a6, p.a7, p.a8, p.a9, p.a10, p.a11, p.a12), p.a0, (A.nth (.int .i64) [p.a13, p.a14] (A.bin .add .i64 p.a2 a5) : Int))).1) (
        .br (A.cmp .neq (A.call fn34 (A.call fn25 ((p.a6, p.a7, p.a8, p.a9, p.a10, p.a11, p.a12), p.a0, (A.nth (.int .i64) [p.a13, p.a14] (A.bin .add .i64 p.a2 a5) : Int))).1) 0)
         (.ret false)
         (.br (A.cmp .eql p.a1 (A.nth (.int .i64) [p.a13, p.a14] (A.bin .add .i64 p.a2 a5) : Int))
          (.need (A.cmp .leq 0 (A.conv .u64 p.a0)) (
           .br (A.cmp .eql (A.bin .and .i64 (A.call fn25 ((p.a6, p.a7, p.a8, p.a9, p.a10, p.a11, p.a12), p.a0, (A.nth (.int .i64) [p.a13, p.a14] (A.bin .add .i64 p.a2 a5) : Int))).1.2.2.1 (A.bin .shl .i64 1 (A.conv .u64 p.a0))) 0)
            (.ret false)
            (.more (.c0 p (A.bin .add .i64 a5 1)))))
          (.more (.c0 p (A.bin .add .i64 a5 1))))))
       (.more (.c0 p (A.bin .add .i64 a5 1))))))
    (.need (A.call (@tt ((Int × Int × Int × Int × Int × Int × Int) × Int)) ((p.a6, p.a7, p.a8, p.a9, p.a10, p.a11, p.a12), p.a0)) (
     .br (A.cmp .eql (A.call fn39 ((p.a6, p.a7, p.a8, p.a9, p.a10, p.a11, p.a12), p.a0)).2 0)
      (.need (A.call (@tt ((Int × Int × Int × Int × Int × Int × Int))) (A.call fn39 ((p.a6, p.a7, p.a8, p.a9, p.a10, p.a11, p.a12), p.a0)).1) (
       .br (A.cmp .neq (A.call fn34 (A.call fn39 ((p.a6, p.a7, p.a8, p.a9, p.a10, p.a11, p.a12), p.a0)).1) 0)
        (.ret false)
        (.need (A.call (@tt ((Int × Int × Int × Int × Int × Int × Int) × Int)) ((p.a6, p.a7, p.a8, p.a9, p.a10, p.a11, p.a12), p.a0)) (
         .br (A.cmp .eql (A.call fn38 ((p.a6, p.a7, p.a8, p.a9, p.a10, p.a11, p.a12), p.a0)).2 0)
          (.need (A.call (@tt ((Int × Int × Int × Int × Int × Int × Int))) (A.call fn38 ((p.a6, p.a7, p.a8, p.a9, p.a10, p.a11, p.a12), p.a0)).1) (
           .br (A.cmp .neq (A.call fn34 (A.call fn38 ((p.a6, p.a7, p.a8, p.a9, p.a10, p.a11, p.a12), p.a0)).1) 0)
            (.ret false)
            (.need (A.call (@tt ((Int × Int × Int × Int × Int × Int × Int))) (p.a6, p.a7, p.a8, p.a9, p.a10, p.a11, p.a12)) (
             .need (A.call (@tt ((Int × Int × Int × Int × Int × Int × Int))) (p.a6, p.a7, p.a8, p.a9, p.a10, p.a11, p.a12)) (
              .br (A.cmp .eql (A.call fn23 (p.a6, p.a7, p.a8, p.a9, p.a10, p.a11, p.a12)).2.2 0)
               (.br (A.cmp .eql (A.call fn27 (p.a6, p.a7, p.a8, p.a9, p.a10, p.a11, p.a12)).2.2 0)
                (.need (A.call (@tt ((Int × Int × Int × Int × Int × Int × Int))) (A.call fn23 (p.a6, p.a7, p.a8, p.a9, p.a10, p.a11, p.a12)).1) (
                 .br (A.cmp .eql (A.call fn34 (A.call fn23 (p.a6, p.a7, p.a8, p.a9, p.a10, p.a11, p.a12)).1) 0)
                  (.need (A.call (@tt ((Int × Int × Int × Int × Int × Int × Int))) (A.call fn27 (p.a6, p.a7, p.a8, p.a9, p.a10, p.a11, p.a12)).1) (
                   .br (A.cmp .eql (A.call fn34 (A.call fn27 (p.a6, p.a7, p.a8, p.a9, p.a10, p.a11, p.a12)).1) 0)
                    (.br (A.beq (A.cmp .eql (A.call fn23 (p.a6, p.a7, p.a8, p.a9, p.a10, p.a11, p.a12)).2.1 1) (A.cmp .gtr p.a9 p.a10))
                     (.br (A.beq (A.cmp .eql (A.call fn27 (p.a6, p.a7, p.a8, p.a9, p.a10, p.a11, p.a12)).2.1 1) (A.cmp .gtr p.a9 p.a10))
                      (.br (A.cmp .neq (A.call fn23 (p.a6, p.a7, p.a8, p.a9, p.a10, p.a11, p.a12)).2.1 1)
                       (.ret true)
                       (.need (A.call (@tt ((Int × Int × Int × Int × Int × Int × Int))) (A.call fn23 (p.a6, p.a7, p.a8, p.a9, p.a10, p.a11, p.a12)).1) (
                        .ret (A.call fn24 (A.call fn23 (p.a6, p.a7, p.a8, p.a9, p.a10, p.a11, p.a12)).1))))
                      (.ret false))
                     (.ret false))
                    (.ret false)))
                  (.ret false)))
                (.ret false))
               (.ret false))))))
          (.need (A.call (@tt ((Int × Int × Int × Int × Int × Int × Int))) (p.a6, p.a7, p.a8, p.a9, p.a10, p.a11, p.a12)) (
           .need (A.call (@tt ((Int × Int × Int × Int × Int × Int × Int))) (p.a6, p.a7, p.a8, p.a9, p.a10, p.a11, p.a12)) (
            .br (A.cmp .eql (A.call fn23 (p.a6, p.a7, p.a8, p.a9, p.a10, p.a11, p.a12)).2.2 0)
             (.br (A.cmp .eql (A.call fn27 (p.a6, p.a7, p.a8, p.a9, p.a10, p.a11, p.a12)).2.2 0)
              (.need (A.call (@tt ((Int × Int × Int × Int × Int × Int × Int))) (A.call fn23 (p.a6, p.a7, p.a8, p.a9, p.a10, p.a11, p.a12)).1) (
               .br (A.cmp .eql (A.call fn34 (A.call fn23 (p.a6, p.a7, p.a8, p.a9, p.a10, p.a11, p.a12)).1) 0)
                (.need (A.call (@tt ((Int × Int × Int × Int × Int × Int × Int))) (A.call fn27 (p.a6, p.a7, p.a8, p.a9, p.a10, p.a11, p.a12)).1) (
                 .br (A.cmp .eql (A.call fn34 (A.call fn27 (p.a6, p.a7, p.a8, p.a9, p.a10, p.a11, p.a12)).1) 0)
                  (.br (A.beq (A.cmp .eql (A.call fn23 (p.a6, p.a7, p.a8, p.a9, p.a10, p.a11, p.a12)).2.1 1) (A.cmp .gtr p.a9 p.a10))
                   (.br (A.beq (A.cmp .eql (A.call fn27 (p.a6, p.a7, p.a8, p.a9, p.a10, p.a11, p.a12)).2.1 1) (A.cmp .gtr p.a9 p.a10))
                    (.br (A.cmp .neq (A.call fn23 (p.a6, p.a7, p.a8, p.a9, p.a10, p.a11, p.a12)).2.1 1)
                     (.ret true)
                     (.need (A.call (@tt ((Int × Int × Int × Int × Int × Int × Int))) (A.call fn23 (p.a6, p.a7, p.a8, p.a9, p.a10, p.a11, p.a12)).1) (
                      .ret (A.call fn24 (A.call fn23 (p.a6, p.a7, p.a8, p.a9, p.a10, p.a11, p.a12)).1))))
                    (.ret false))
                   (.ret false))
                  (.ret false)))
                (.ret false)))
              (.ret false))
             (.ret false))))))))
      (.need (A.call (@tt ((Int × Int × Int × Int × Int × Int × Int) × Int)) ((p.a6, p.a7, p.a8, p.a9, p.a10, p.a11, p.a12), p.a0)) (
       .br (A.cmp .eql (A.call fn38 ((p.a6, p.a7, p.a8, p.a9, p.a10, p.a11, p.a12), p.a0)).2 0)
        (.need (A.call (@tt ((Int × Int × Int × Int × Int × Int × Int))) (A.call fn38 ((p.a6, p.a7, p.a8, p.a9, p.a10, p.a11, p.a12), p.a0)).1) (
         .br (A.cmp .neq (A.call fn34 (A.call fn38 ((p.a6, p.a7, p.a8, p.a9, p.a10, p.a11, p.a12), p.a0)).1) 0)
          (.ret false)
          (.need (A.call (@tt ((Int × Int × Int × Int × Int × Int × Int))) (p.a6, p.a7, p.a8, p.a9, p.a10, p.a11, p.a12)) (
           .need (A.call (@tt ((Int × Int × Int × Int × Int × Int × Int))) (p.a6, p.a7, p.a8, p.a9, p.a10, p.a11, p.a12)) (
            .br (A.cmp .eql (A.call fn23 (p.a6, p.a7, p.a8, p.a9, p.a10, p.a11, p.a12)).2.2 0)
             (.br (A.cmp .eql (A.call fn27 (p.a6, p.a7, p.a8, p.a9, p.a10, p.a11, p.a12)).2.2 0)
              (.need (A.call (@tt ((Int × Int × Int × Int × Int × Int × Int))) (A.call fn23 (p.a6, p.a7, p.a8, p.a9, p.a10, p.a11, p.a12)).1) (
               .br (A.cmp .eql (A.call fn34 (A.call fn23 (p.a6, p.a7, p.a8, p.a9, p.a10, p.a11, p.a12)).1) 0)
                (.need (A.call (@tt ((Int × Int × Int × Int × Int × Int × Int))) (A.call fn27 (p.a6, p.a7, p.a8, p.a9, p.a10, p.a11, p.a12)).1) (
                 .br (A.cmp .eql (A.call fn34 (A.call fn27 (p.a6, p.a7, p.a8, p.a9, p.a10, p.a11, p.a12)).1) 0)
                  (.br (A.beq (A.cmp .eql (A.call fn23 (p.a6, p.a7, p.a8, p.a9, p.a10, p.a11, p.a12)).2.1 1) (A.cmp .gtr p.a9 p.a10))
                   (.br (A.beq (A.cmp .eql (A.call fn27 (p.a6, p.a7, p.a8, p.a9, p.a10, p.a11, p.a12)).2.1 1) (A.cmp .gtr p.a9 p.a10))
                    (.br (A.cmp .neq (A.call fn23 (p.a6, p.a7, p.a8, p.a9, p.a10, p.a11, p.a12)).2.1 1)
                     (.ret true)
                     (.need (A.call (@tt ((Int × Int × Int × Int × Int × Int × Int))) (A.call fn23 (p.a6, p.a7, p.a8, p.a9, p.a10, p.a11, p.a12)).1) (
                      .ret (A.call fn24 (A.call fn23 (p.a6, p.a7, p.a8, p.a9, p.a10, p.a11, p.a12)).1))))
                    (.ret false))
                   (.ret false))
                  (.ret false)))
                (.ret false)))
              (.ret false))
             (.ret false))))))
        (.need (A.call (@tt ((Int × Int × Int × Int × Int × Int × Int))) (p.a6, p.a7, p.a8, p.a9, p.a10, p.a11, p.a12)) (
         .need (A.call (@tt ((Int × Int × Int × Int × Int × Int × Int))) (p.a6, p.a7, p.a8, p.a9, p.a10, p.a11, p.a12)) (
          .br (A.cmp .eql (A.call fn23 (p.a6, p.a7, p.a8, p.a9, p.a10, p.a11, p.a12)).2.2 0)
           (.br (A.cmp .eql (A.call fn27 (p.a6, p.a7, p.a8, p.a9, p.a10, p.a11, p.a12)).2.2 0)
            (.need (A.call (@tt ((Int × Int × Int × Int × Int × Int × Int))) (A.call fn23 (p.a6, p.a7, p.a8, p.a9, p.a10, p.a11, p.a12)).1) (
             .br (A.cmp .eql (A.call fn34 (A.call fn23 (p.a6, p.a7, p.a8, p.a9, p.a10, p.a11, p.a12)).1) 0)
              (.need (A.call (@tt ((Int × Int × Int × Int × Int × Int × Int))) (A.call fn27 (p.a6, p.a7, p.a8, p.a9, p.a10, p.a11, p.a12)).1) (
               .br (A.cmp .eql (A.call fn34 (A.call fn27 (p.a6, p.a7, p.a8, p.a9, p.a10, p.a11, p.a12)).1) 0)
                (.br (A.beq (A.cmp .eql (A.call fn23 (p.a6, p.a7, p.a8, p.a9, p.a10, p.a11, p.a12)).2.1 1) (A.cmp .gtr p.a9 p.a10))
                 (.br (A.beq (A.cmp .eql (A.call fn27 (p.a6, p.a7, p.a8, p.a9, p.a10, p.a11, p.a12)).2.1 1) (A.cmp .gtr p.a9 p.a10))
                  (.br (A.cmp .neq (A.call fn23 (p.a6, p.a7, p.a8, p.a9, p.a10, p.a11, p.a12)).2.1 1)
                   (.ret true)
                   (.need (A.call (@tt ((Int × Int × Int × Int × Int × Int × Int))) (A.call fn23 (p.a6, p.a7, p.a8, p.a9, p.a10, p.a11, p.a12)).1) (
                    .ret (A.call fn24 (A.call fn23 (p.a6, p.a7, p.a8, p.a9, p.a10, p.a11, p.a12)).1))))
                  (.ret false))
                 (.ret false))
                (.ret false)))
              (.ret false)))
            (.ret false))
           (.ret false))))))))
noncomputable def E9 (A : Alg) : Info (Ty.Ts [.bool]) := { ti := tys, fns := [(9, Try.f9)], sps := [(22, sp22), (23, sp23), (24, sp24), (25, sp25), (27, sp27), (34, sp34), (38, sp38), (39, sp39)], stops := [⟨9, 4, [[1, 2, 3, 30, 31, 32]]⟩], cuts := [], consts := [], fin := finD A [.bool] }
theorem t9_ok (A : Alg) (mId : Int) (mN : Int) (mSet : Int) (mAcc : Int) (mFail : Int) (mStage : Int) (mFirst : Int) (sender : Int) (which : Int) : run A (E9 A) 33 (startC 9 Try.f9 (dvals A [(.struct [(.int .i64), (.int .i64), (.int .i64), (.int .i64), (.int .i64), (.int .i64), (.int .i64)]), (.int .i64), (.int .i64)] ((mId, mN, mSet, mAcc, mFail, mStage, mFirst), sender, which))) = (t9 A mId mN mSet mAcc mFail mStage mFirst sender which).tr cfg9 := by kernel_rfl
theorem s9_ok (A : Alg) : ∀ y, ∃ n, run A (E9 A) n (advance (E9 A).sps (cfg9 y)) = (s9 A y).tr cfg9
  | .c0 p a5 => ⟨138, by kernel_rfl⟩
def w9 : Walk Try.prog 9 [(.struct [(.int .i64), (.int .i64), (.int .i64), (.int .i64), (.int .i64), (.int .i64), (.int .i64)]), (.int .i64), (.int .i64)] [.bool] Y9 := ⟨fun ((mId, mN, mSet, mAcc, mFail, mStage, mFirst), sender, which) => t9 std mId mN mSet mAcc mFail mStage mFirst sender which, s9 std⟩
theorem w9_ok : w9.Ok :=
  walk_ok (E := E9 std) ⟨tys_fit, fns_cons Try.func9 (by kernel_rfl) (fns_nil), sps_cons so22 (sps_cons so23 (sps_cons so24 (sps_cons so25 (sps_cons so27 (sps_cons so34 (sps_cons so38 (sps_cons so39 (sps_nil)))))))), by kernel_rfl⟩ rfl rfl rfl (by kernel_rfl) w9 cfg9 33 (fun ((mId, mN, mSet, mAcc, mFail, mStage, mFirst), sender, which) => t9_ok std mId mN mSet mAcc mFail mStage mFirst sender which) (s9_ok std)

theorem may {a b c d e f g s w : Int} (hs64 : -9223372036854775808 ≤ s ∧ s ≤ 9223372036854775807) : Runs (s9 std) (t9 std a b c d e f g s w) true := by
  unfold t9
  simp only [runs_need, runs_br, std_call, tt_eq, begun_true, std_not, Bool.not_true, cond_false, true_and]
  rw [std_cmp_neq]
  cases h1 : fn34 (a, b, c, d, e, f, g) != 0
  · rw [bne_eq_false_iff_eq] at h1
    have h := fn34_zero.1 h1
    have hm := h
    unfold okM at hm
    have hp := pow_le (n := b.toNat) (by omega)
    rw [cond_false]
    -- the end: own and join
    have hend : Runs (s9 std) (.more (.c0 ⟨s, w, 0, 2, 2, a, b, c, d, e, f, g, 0, 1⟩ 2)) true := by
      obtain ⟨c1, d1, e1, f1, g1, v1, o1, o2, o3, o4⟩ := own_may h
      obtain ⟨c2, d2, e2, f2, g2, v2, j1, j2, j3⟩ := join_may h
      have hfin : v1 = 1 → fn24 (a, b, c1, d1, e1, f1, g1) = true := fun hv => by rw [in_iff o2, o4 hv]
      have hne : (v1 != 1) = !(v1 == 1) := rfl
      have hv' : v1 = 1 ∨ (v1 == 1) = false := by
        by_cases h : v1 = 1
        · exact .inl h
        · exact .inr (by simpa using h)
      simp only [runs_more, s9, runs_br, std_cmp_lss, std_call, std_cmp_neq, std_cmp_eql, std_cmp_gtr, std_beq]
      rw [show decide ((2 : Int) < 2) = false from by decide]
      simp only [cond_false, runs_need, tt_eq, true_and, runs_br]
      by_cases ho : 0 ≤ s ∧ s < b ∧ s ≠ a
      · obtain ⟨c3, f3, g3, n1, n2⟩ := null_may h ho.1 ho.2.1 ho.2.2
        have b1 := bad_of n1 (by simp; omega) (by simp; omega)
        have ie := inc_le (d := e) (by omega) (by omega)
        have b2 := ok_e n2 ie
        simp only [b1, n1, fn34_zero.2 b2, fn34_zero.2 n2, bne_self_eq_false, beq_self_eq_true, cond_true, cond_false, o1, j1, o3, j3, fn34_zero.2 o2, fn34_zero.2 j2, hne, runs_need, runs_br, tt_eq, true_and]
        rcases hv' with hv | hv
        · rw [← o3, hv]
          simp only [beq_self_eq_true, Bool.not_true, cond_false, runs_need, tt_eq, true_and, runs_ret]
          exact hfin hv
        · rw [← o3, hv]
          simp only [Bool.not_false, cond_true, runs_ret]
      · have hn := no_other h ho
        have e38 := null_no (m := (a, b, c, d, e, f, g)) hn
        have e39 := bad_no (m := (a, b, c, d, e, f, g)) hn
        have z : (fn73 ((a, b, c, d, e, f, g), s) == 0) = false := by simpa using hn
        simp only [e38, e39, z, bne_self_eq_false, beq_self_eq_true, cond_true, cond_false, o1, j1, o3, j3, fn34_zero.2 o2, fn34_zero.2 j2, hne, runs_need, runs_br, tt_eq, true_and]
        rcases hv' with hv | hv
        · rw [← o3, hv]
          simp only [beq_self_eq_true, Bool.not_true, cond_false, runs_need, tt_eq, true_and, runs_ret]
          exact hfin hv
        · rw [← o3, hv]
          simp only [Bool.not_false, cond_true, runs_ret]
    have hstep : ∀ k : Int, (k = 0 ∨ k = 1) → Runs (s9 std) (.more (.c0 ⟨s, w, 0, 2, 2, a, b, c, d, e, f, g, 0, 1⟩ (k + 1))) true → Runs (s9 std) (.more (.c0 ⟨s, w, 0, 2, 2, a, b, c, d, e, f, g, 0, 1⟩ k)) true := by
      intro k hk hnext
      have hnth : (std.nth (.int .i64) (@List.cons (Ty.int .i64).T (0 : Int) (@List.cons (Ty.int .i64).T (1 : Int) [])) (std.bin .add .i64 0 k) : Int) = k := by rcases hk with rfl | rfl <;> rfl
      have hadd : std.bin .add .i64 k 1 = k + 1 := by rw [std_add, w64 (by omega) (by omega)]
      rw [runs_more]
      simp only [s9, runs_br, std_cmp_lss, std_call, std_cmp_neq, std_cmp_eql, hnth, hadd]
      rw [show decide (k < 2) = true from by simp; omega]
      simp only [cond_true, runs_need, tt_eq, true_and, runs_br]
      refine ⟨by rcases hk with rfl | rfl <;> rfl, ?_⟩
      by_cases ho : 0 ≤ s ∧ s < b ∧ s ≠ a
      · by_cases he : (fn25 ((a, b, c, d, e, f, g), s, k)).2 = 0
        · obtain ⟨c', d', e', f', g', h1, h2, h3⟩ := good_may h ho.1 ho.2.1 ho.2.2 hk he
          have hm2 := h2
          unfold okM at hm2
          rw [he, h1]
          simp only [fn34_zero.2 h2, bne_self_eq_false, beq_self_eq_true, cond_true, cond_false, runs_need, runs_br, tt_eq, true_and]
          cases hw : w == k
          · exact hnext
          · simp only [cond_true, runs_need, runs_br, std_conv]
            rw [wu64 (by omega) (by omega), bit_shl (by omega) (by omega) ho.1 (by omega), h3]
            exact ⟨by simp only [std_cmp_leq, decide_eq_true_eq]; omega, hnext⟩
        · rw [show ((fn25 ((a, b, c, d, e, f, g), s, k)).2 == 0) = false from by simpa using he]
          exact hnext
      · have hn := no_other h ho
        rw [good_no hn, show (fn73 ((a, b, c, d, e, f, g), s) == 0) = false from by simpa using hn]
        exact hnext
    exact hstep 0 (.inl rfl) (hstep 1 (.inr rfl) hend)
  · exact .need rfl (.ret _)

def fn9 : (Int × Int × Int × Int × Int × Int × Int) × Int × Int → Bool := fun _ => true
def sp9 : FSpec := ⟨[(.struct [(.int .i64), (.int .i64), (.int .i64), (.int .i64), (.int .i64), (.int .i64), (.int .i64)]), (.int .i64), (.int .i64)], [.bool], (@tt ((Int × Int × Int × Int × Int × Int × Int) × Int × Int)), fn9⟩
theorem run9 {mId : Int} {mN : Int} {mSet : Int} {mAcc : Int} {mFail : Int} {mStage : Int} {mFirst : Int} {sender : Int} {which : Int} (h : Ty.hass [(.struct [(.int .i64), (.int .i64), (.int .i64), (.int .i64), (.int .i64), (.int .i64), (.int .i64)]), (.int .i64), (.int .i64)] ((mId, mN, mSet, mAcc, mFail, mStage, mFirst), sender, which)) : Runs (s9 std) (t9 std mId mN mSet mAcc mFail mStage mFirst sender which) (fn9 ((mId, mN, mSet, mAcc, mFail, mStage, mFirst), sender, which)) := by
  exact may h.2.1
theorem so9 : FSpec.Sound Try.prog 9 sp9 :=
  w9_ok.sound _ _ fun ((mId, mN, mSet, mAcc, mFail, mStage, mFirst), sender, which) _ h => run9 h
theorem law9 (x : (Int × Int × Int × Int × Int × Int × Int) × Int × Int) (_ : Ty.hass [(.struct [(.int .i64), (.int .i64), (.int .i64), (.int .i64), (.int .i64), (.int .i64), (.int .i64)]), (.int .i64), (.int .i64)] x) : fn9 x = true := rfl

end Go.Ev.M
