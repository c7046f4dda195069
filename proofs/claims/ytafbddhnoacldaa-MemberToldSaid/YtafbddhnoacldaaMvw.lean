/-
  PROVED: what functions of the packages member, metronomelaw09 and metronomeref09 compute. Conditions: none.
-/
import Derived.Test.YtafbddhnoacldaaTy
import Derived.Test.YtafbddhnoacldaaEvC
import Derived.Test.YtafbddhnoacldaaMem
namespace Go.Ev.M
open Go.Proofs
set_option maxRecDepth 100000
set_option linter.unusedVariables false
set_option linter.unusedSimpArgs false

/-! ### metronome/metronomeref09.Views (function 33) -/
def t33 (A : Alg) (mId : Int) (mN : Int) (mSet : Int) (mAcc : Int) (mFail : Int) (mStage : Int) (mFirst : Int) (sender : Int) : LT (List Int) Empty :=
  .need (A.call (@tt ((Int × Int × Int × Int × Int × Int × Int))) (mId, mN, mSet, mAcc, mFail, mStage, mFirst)) (
 .br (A.cmp .neq (A.call fn35 (mId, mN, mSet, mAcc, mFail, mStage, mFirst)) 0)
  (.ret ([] : List Int))
  (.br (A.cmp .geq sender 0)
   (.br (A.cmp .lss sender mN)
    (.br (A.not (A.cmp .neq sender mId))
     (.ret ([] : List Int))
     (.need (A.call (@tt Int) sender) (
      .need (A.call (@tt Int) mId) (
       .br (A.cmp .eql mStage 1)
        (.ret [(A.bin .or .i64 (A.bin .or .i64 mSet (A.call fn80 sender)) (A.call fn80 mId)), (A.bin .andNot .i64 (A.bin .or .i64 mSet (A.call fn80 sender)) (A.call fn80 mId))])
        (.br (A.cmp .eql mStage 2)
         (.br (A.cmp .eql sender mFirst)
          (.ret [(A.bin .or .i64 (A.bin .or .i64 mSet (A.call fn80 sender)) (A.call fn80 mId))])
          (.br (A.cmp .eql mStage 2)
           (.need (A.call (@tt Int) mFirst) (
            .need (A.call (@tt Int) mFirst) (
             .ret [(A.bin .andNot .i64 (A.bin .or .i64 (A.bin .or .i64 mSet (A.call fn80 sender)) (A.call fn80 mId)) (A.call fn80 mFirst)), (A.bin .andNot .i64 (A.bin .or .i64 (A.bin .or .i64 mSet (A.call fn80 sender)) (A.call fn80 mFirst)) (A.call fn80 mId))])))
           (.ret [(A.bin .or .i64 mSet (A.call fn80 sender))])))
         (.br (A.cmp .eql mStage 2)
          (.need (A.call (@tt Int) mFirst) (
           .need (A.call (@tt Int) mFirst) (
            .ret [(A.bin .andNot .i64 (A.bin .or .i64 (A.bin .or .i64 mSet (A.call fn80 sender)) (A.call fn80 mId)) (A.call fn80 mFirst)), (A.bin .andNot .i64 (A.bin .or .i64 (A.bin .or .i64 mSet (A.call fn80 sender)) (A.call fn80 mFirst)) (A.call fn80 mId))])))
          (.ret [(A.bin .or .i64 mSet (A.call fn80 sender))])))))))
    (.ret ([] : List Int)))
   (.ret ([] : List Int))))
noncomputable def E33 (A : Alg) : Info (Ty.Ts [(.slice (.int .i64))]) := { ti := tys, fns := [(33, Try.f33), (79, Try.f79)], sps := [(35, sp35), (80, sp80)], stops := [], cuts := [], consts := [], fin := finD A [(.slice (.int .i64))] }
theorem t33_ok (A : Alg) (mId : Int) (mN : Int) (mSet : Int) (mAcc : Int) (mFail : Int) (mStage : Int) (mFirst : Int) (sender : Int) : run A (E33 A) 117 (startC 33 Try.f33 (dvals A [(.struct [(.int .i64), (.int .i64), (.int .i64), (.int .i64), (.int .i64), (.int .i64), (.int .i64)]), (.int .i64)] ((mId, mN, mSet, mAcc, mFail, mStage, mFirst), sender))) = (t33 A mId mN mSet mAcc mFail mStage mFirst sender).tr Empty.elim := by kernel_rfl
def w33 : Walk Try.prog 33 [(.struct [(.int .i64), (.int .i64), (.int .i64), (.int .i64), (.int .i64), (.int .i64), (.int .i64)]), (.int .i64)] [(.slice (.int .i64))] Empty := ⟨fun ((mId, mN, mSet, mAcc, mFail, mStage, mFirst), sender) => t33 std mId mN mSet mAcc mFail mStage mFirst sender, Empty.elim⟩
theorem w33_ok : w33.Ok :=
  walk_ok (E := E33 std) ⟨tys_fit, fns_cons Try.func33 (by kernel_rfl) (fns_cons Try.func79 (by kernel_rfl) (fns_nil)), sps_cons so35 (sps_cons so80 (sps_nil)), by kernel_rfl⟩ rfl rfl rfl (by kernel_rfl) w33 Empty.elim 117 (fun ((mId, mN, mSet, mAcc, mFail, mStage, mFirst), sender) => t33_ok std mId mN mSet mAcc mFail mStage mFirst sender) (fun y => y.elim)

def fn33 : ((Int × Int × Int × Int × Int × Int × Int) × Int) → (List Int) := fun ((mId, mN, mSet, mAcc, mFail, mStage, mFirst), sender) => (t33 std mId mN mSet mAcc mFail mStage mFirst sender).val (Ty.dflts [(.slice (.int .i64))])
def sp33 : FSpec := ⟨[(.struct [(.int .i64), (.int .i64), (.int .i64), (.int .i64), (.int .i64), (.int .i64), (.int .i64)]), (.int .i64)], [(.slice (.int .i64))], (@tt ((Int × Int × Int × Int × Int × Int × Int) × Int)), fn33⟩
theorem eqs33 (mId : Int) (mN : Int) (mSet : Int) (mAcc : Int) (mFail : Int) (mStage : Int) (mFirst : Int) (sender : Int) : (t33 std mId mN mSet mAcc mFail mStage mFirst sender).Eqs := by simp only [t33, LT.Eqs, and_self, true_and, and_true]
theorem pre33_ok {mId : Int} {mN : Int} {mSet : Int} {mAcc : Int} {mFail : Int} {mStage : Int} {mFirst : Int} {sender : Int} (h : Ty.hass [(.struct [(.int .i64), (.int .i64), (.int .i64), (.int .i64), (.int .i64), (.int .i64), (.int .i64)]), (.int .i64)] ((mId, mN, mSet, mAcc, mFail, mStage, mFirst), sender)) : (t33 std mId mN mSet mAcc mFail mStage mFirst sender).pre = true := by
  simp only [t33, LT.pre, cond_iff, std_cmp_eql, std_cmp_neq, std_cmp_lss, std_cmp_leq, std_cmp_gtr, std_cmp_geq, std_and, std_not, std_beq, std_call, std_add, std_sub, std_conv, std_len, tt_eq, Bool.and_eq_true, Bool.or_eq_true, Bool.and_eq_false_iff, Bool.or_eq_false_iff, Bool.not_eq_true', Bool.not_eq_false', decide_eq_true_eq, decide_eq_false_iff_not, bne_iff_ne, beq_iff_eq, bne_eq_false_iff_eq, beq_eq_false_iff_ne]
  simp only [Ty.hass, Ty.has, has64, has8] at h
  (repeat' (first | intro _ | constructor)) <;> (try omega)
theorem so33 : FSpec.Sound Try.prog 33 sp33 :=
  w33_ok.sound _ _ fun ((mId, mN, mSet, mAcc, mFail, mStage, mFirst), sender) _ h => LT.runs (d := Ty.dflts [(.slice (.int .i64))]) (eqs33 mId mN mSet mAcc mFail mStage mFirst sender) (pre33_ok h)
/-! ### metronome/metronomeref09.In (function 36) -/
def t36 (A : Alg) (mId : Int) (mN : Int) (mSet : Int) (mAcc : Int) (mFail : Int) (mStage : Int) (mFirst : Int) : LT Bool Empty :=
  .need (A.call (@tt ((Int × Int × Int × Int × Int × Int × Int))) (mId, mN, mSet, mAcc, mFail, mStage, mFirst)) (
 .br (A.cmp .eql (A.call fn35 (mId, mN, mSet, mAcc, mFail, mStage, mFirst)) 0)
  (.need (A.call (@tt Int) mId) (
   .ret (A.cmp .neq (A.bin .and .i64 mSet (A.call fn80 mId)) 0)))
  (.ret false))
noncomputable def E36 (A : Alg) : Info (Ty.Ts [.bool]) := { ti := tys, fns := [(36, Try.f36)], sps := [(35, sp35), (80, sp80)], stops := [], cuts := [], consts := [], fin := finD A [.bool] }
theorem t36_ok (A : Alg) (mId : Int) (mN : Int) (mSet : Int) (mAcc : Int) (mFail : Int) (mStage : Int) (mFirst : Int) : run A (E36 A) 27 (startC 36 Try.f36 (dvals A [(.struct [(.int .i64), (.int .i64), (.int .i64), (.int .i64), (.int .i64), (.int .i64), (.int .i64)])] (mId, mN, mSet, mAcc, mFail, mStage, mFirst))) = (t36 A mId mN mSet mAcc mFail mStage mFirst).tr Empty.elim := by kernel_rfl
def w36 : Walk Try.prog 36 [(.struct [(.int .i64), (.int .i64), (.int .i64), (.int .i64), (.int .i64), (.int .i64), (.int .i64)])] [.bool] Empty := ⟨fun (mId, mN, mSet, mAcc, mFail, mStage, mFirst) => t36 std mId mN mSet mAcc mFail mStage mFirst, Empty.elim⟩
theorem w36_ok : w36.Ok :=
  walk_ok (E := E36 std) ⟨tys_fit, fns_cons Try.func36 (by kernel_rfl) (fns_nil), sps_cons so35 (sps_cons so80 (sps_nil)), by kernel_rfl⟩ rfl rfl rfl (by kernel_rfl) w36 Empty.elim 27 (fun (mId, mN, mSet, mAcc, mFail, mStage, mFirst) => t36_ok std mId mN mSet mAcc mFail mStage mFirst) (fun y => y.elim)

def fn36 : ((Int × Int × Int × Int × Int × Int × Int)) → Bool := fun (mId, mN, mSet, mAcc, mFail, mStage, mFirst) => (t36 std mId mN mSet mAcc mFail mStage mFirst).val (Ty.dflts [.bool])
def sp36 : FSpec := ⟨[(.struct [(.int .i64), (.int .i64), (.int .i64), (.int .i64), (.int .i64), (.int .i64), (.int .i64)])], [.bool], (@tt ((Int × Int × Int × Int × Int × Int × Int))), fn36⟩
theorem eqs36 (mId : Int) (mN : Int) (mSet : Int) (mAcc : Int) (mFail : Int) (mStage : Int) (mFirst : Int) : (t36 std mId mN mSet mAcc mFail mStage mFirst).Eqs := by simp only [t36, LT.Eqs, and_self, true_and, and_true]
theorem pre36_ok {mId : Int} {mN : Int} {mSet : Int} {mAcc : Int} {mFail : Int} {mStage : Int} {mFirst : Int} (h : Ty.hass [(.struct [(.int .i64), (.int .i64), (.int .i64), (.int .i64), (.int .i64), (.int .i64), (.int .i64)])] (mId, mN, mSet, mAcc, mFail, mStage, mFirst)) : (t36 std mId mN mSet mAcc mFail mStage mFirst).pre = true := by
  simp only [t36, LT.pre, cond_iff, std_cmp_eql, std_cmp_neq, std_cmp_lss, std_cmp_leq, std_cmp_gtr, std_cmp_geq, std_and, std_not, std_beq, std_call, std_add, std_sub, std_conv, std_len, tt_eq, Bool.and_eq_true, Bool.or_eq_true, Bool.and_eq_false_iff, Bool.or_eq_false_iff, Bool.not_eq_true', Bool.not_eq_false', decide_eq_true_eq, decide_eq_false_iff_not, bne_iff_ne, beq_iff_eq, bne_eq_false_iff_eq, beq_eq_false_iff_ne]
  simp only [Ty.hass, Ty.has, has64, has8] at h
  (repeat' (first | intro _ | constructor)) <;> (try omega)
theorem so36 : FSpec.Sound Try.prog 36 sp36 :=
  w36_ok.sound _ _ fun (mId, mN, mSet, mAcc, mFail, mStage, mFirst) _ h => LT.runs (d := Ty.dflts [.bool]) (eqs36 mId mN mSet mAcc mFail mStage mFirst) (pre36_ok h)
theorem fn24_36 {m : Int × Int × Int × Int × Int × Int × Int} : fn24 m = fn36 m := by
  obtain ⟨a, b, c, d, e, f, g⟩ := m
  have hr := fn35_range (x := (a, b, c, d, e, f, g))
  simp only [fn24, fn36, t24, t36, LT.val, std_call, chk, std_cmp_eql]
  rcases hr with h | h
  · have hm := fn35_zero.1 h
    have hc := okM_c hm
    unfold okM at hm
    rw [h]
    simp only [beq_self_eq_true, cond_true, std_cmp_neq]
    rw [bit_one (by omega) hc (by omega) (by omega), fn80_shl (by omega) (by omega)]
    have := bit_r (c := c) (a := a) (by omega) hc (by omega) (by omega)
    cases hb : bitT c a
    · rw [this.2 hb]; rfl
    · have h2 : std.bin .and .i64 c (std.bin .shl .i64 1 a) ≠ 0 := fun h => by rw [this.1 h] at hb; cases hb
      simpa using h2
  · rw [h]; rfl
theorem fn33_no {m : Int × Int × Int × Int × Int × Int × Int} {s : Int} (h : fn73 (m, s) ≠ 0) : fn33 (m, s) = [] := by
  obtain ⟨a, b, c, d, e, f, g⟩ := m
  by_cases hm : fn35 (a, b, c, d, e, f, g) = 0
  · have ho : ¬ (0 ≤ s ∧ s < b ∧ s ≠ a) := fun ho => h (fn73_zero.2 ⟨fn35_zero.1 hm, ho⟩)
    simp only [fn33, t33, LT.val, std_call, hm, std_cmp_neq, std_cmp_geq, std_cmp_lss, std_not, bne_self_eq_false, cond_false]
    by_cases h0 : 0 ≤ s
    · by_cases h1 : s < b
      · obtain rfl : s = a := Decidable.byContradiction fun h2 => ho ⟨h0, h1, h2⟩
        simp [h0, h1]
      · simp [h0, h1]
    · simp [h0]
  · have e1 : (fn35 (a, b, c, d, e, f, g) != 0) = true := by simpa using hm
    simp only [fn33, t33, LT.val, std_call, std_cmp_neq, e1, cond_true]
theorem fn33_ok {a b c d e f g s : Int} (h : okM a b c d e f g) (h0 : 0 ≤ s) (h1 : s < b) (h2 : s ≠ a) : fn33 ((a, b, c, d, e, f, g), s) = (fn78 ((a, b, c, d, e, f, g), s)).1.take (fn78 ((a, b, c, d, e, f, g), s)).2.toNat := by
  have hm := h
  unfold okM at hm
  have es := fn80_shl (n := s) (by omega) (by omega)
  have ea := fn80_shl (n := a) (by omega) (by omega)
  have eg := fn80_shl (n := g) (by omega) (by omega)
  have sa : (s != a) = true := by simpa using h2
  have hf : f = 0 ∨ f = 1 ∨ f = 2 := by omega
  simp only [fn33, t33, LT.val, std_call, fn35_zero.2 h, std_cmp_neq, std_cmp_geq, std_cmp_lss, std_cmp_eql, std_not, bne_self_eq_false, cond_false, es, ea, eg, sa, h0, h1, decide_true, cond_true, Bool.not_true]
  rcases hf with rfl | rfl | rfl
  · rw [fn78_0]; rfl
  · rw [fn78_1]; rfl
  · by_cases hsg : s = g
    · subst hsg
      rw [fn78_2a]; simp [insB]
    · rw [fn78_2b hsg]
      have e : (s == g) = false := by simpa using hsg
      simp [e, insB, delB]

/-! ### slices.Equal[[]int,int] (function 37) -/
structure P37c0 where
  a0 : List Int
  a1 : List Int
  a2 : Int
inductive Y37 where
  | c0 (p : P37c0) (a3 : Int)
noncomputable def cfg37 : Y37 → Cfg
  | .c0 p a3 => { frames := [{ fn := 37, n := 26, env := (Env.put (Env.put (Env.put (Env.put .leaf 0 (.sl (.int .i64) p.a0)) 1 (.sl (.int .i64) p.a1)) 12 (.int .i64 false p.a2)) 13 (.int .i64 false a3)), todo := [.inLoop (Code.way (bodyOf Try.f37) [1, 1, 0, 1, 0, 0]), .inBlock 0, .code (Code.way (bodyOf Try.f37) [1, 1, 1])], marks := [], rnd := none }], mem := [.dead] }

def t37 (A : Alg) (s1 : List Int) (s2 : List Int) : LT Bool Y37 :=
  .br (A.cmp .neq (A.len s1) (A.len s2))
 (.ret false)
 (.more (.c0 ⟨s1, s2, (A.len s1)⟩ 0))
def s37 (A : Alg) : Y37 → LT Bool Y37
  | .c0 p a3 =>
    .br (A.cmp .lss a3 p.a2)
    (.need (A.and (A.cmp .leq 0 a3) (A.cmp .lss a3 (A.len p.a0))) (
     .need (A.and (A.cmp .leq 0 a3) (A.cmp .lss a3 (A.len p.a1))) (
      .br (A.cmp .neq (A.nth (.int .i64) p.a0 a3 : Int) (A.nth (.int .i64) p.a1 a3 : Int))
       (.ret false)
       (.more (.c0 p (A.bin .add .i64 a3 1))))))
    (.ret true)
noncomputable def E37 (A : Alg) : Info (Ty.Ts [.bool]) := { ti := tys, fns := [(37, Try.f37)], sps := [], stops := [⟨37, 4, [[0, 1, 12, 13]]⟩], cuts := [], consts := [], fin := finD A [.bool] }
theorem t37_ok (A : Alg) (s1 : List Int) (s2 : List Int) : run A (E37 A) 30 (startC 37 Try.f37 (dvals A [(.slice (.int .i64)), (.slice (.int .i64))] (s1, s2))) = (t37 A s1 s2).tr cfg37 := by kernel_rfl
theorem s37_ok (A : Alg) : ∀ y, ∃ n, run A (E37 A) n (advance (E37 A).sps (cfg37 y)) = (s37 A y).tr cfg37
  | .c0 p a3 => ⟨39, by kernel_rfl⟩
def w37 : Walk Try.prog 37 [(.slice (.int .i64)), (.slice (.int .i64))] [.bool] Y37 := ⟨fun (s1, s2) => t37 std s1 s2, s37 std⟩
theorem w37_ok : w37.Ok :=
  walk_ok (E := E37 std) ⟨tys_fit, fns_cons Try.func37 (by kernel_rfl) (fns_nil), sps_nil, by kernel_rfl⟩ rfl rfl rfl (by kernel_rfl) w37 cfg37 30 (fun (s1, s2) => t37_ok std s1 s2) (s37_ok std)

theorem list_at {l : List Int} {i : Int} (h0 : 0 ≤ i) (h1 : i < (l.length : Int)) : (std.nth (.int .i64) l i : Int) = l[i.toNat]'(by omega) := by
  show l.getD i.toNat 0 = _
  rw [List.getD_eq_getElem?_getD, List.getElem?_eq_getElem (by omega)]; rfl
theorem cmp_neq_f {u v : Int} (h : u = v) : std.cmp .neq u v = false := by rw [std_cmp_neq, h]; exact bne_self_eq_false _
theorem cmp_neq_t {u v : Int} (h : u ≠ v) : std.cmp .neq u v = true := by rw [std_cmp_neq]; exact bne_iff_ne.2 h
theorem nth_int {k : IntKind} {l : List Int} {i : Int} : (std.nth (.int k) l i : Int) = l.getD i.toNat 0 := rfl
theorem eq_in {a b : List Int} (hl : a.length = b.length) : ∀ (j : Nat) (i : Int) (p : P37c0), p.a0 = a → p.a1 = b → p.a2 = (a.length : Int) → (a.length : Int) - i = j → 0 ≤ i → a.length ≤ 4611686018427387904 → a.take i.toNat = b.take i.toNat →
    Runs (s37 std) (.more (.c0 p i)) (a == b) := by
  intro j
  induction j with
  | zero =>
    intro i p h1 h2 h3 hj hi hb he
    have e : i.toNat = a.length := by omega
    rw [e, List.take_length, hl, List.take_length] at he
    simp only [runs_more, s37, runs_br, std_cmp_lss, h3]
    rw [show decide (i < (a.length : Int)) = false from by simp; omega]
    rw [he]
    simp only [cond_false, runs_ret, beq_self_eq_true]
  | succ j ih =>
    intro i p h1 h2 h3 hj hi hb he
    have hlen1 : std.len p.a0 = (a.length : Int) := by rw [h1]; rfl
    have hlen2 : std.len p.a1 = (b.length : Int) := by rw [h2]; rfl
    simp only [runs_more, s37, runs_br, std_cmp_lss, h3, runs_need, std_and, std_cmp_leq, hlen1, hlen2]
    rw [show decide (i < (a.length : Int)) = true from by simp; omega]
    simp only [cond_true, runs_need]
    have h0 : decide (0 ≤ i) = true := by simpa using hi
    refine ⟨by rw [h0]; rfl, by rw [h0]; simp; omega, ?_⟩
    have e1 : (std.nth (.int .i64) p.a0 i : Int) = a[i.toNat]'(by omega) := by rw [h1]; exact list_at hi (by omega)
    have e2 : (std.nth (.int .i64) p.a1 i : Int) = b[i.toNat]'(by omega) := by rw [h2]; exact list_at hi (by omega)
    by_cases hne : (std.nth (.int .i64) p.a0 i : Int) = (std.nth (.int .i64) p.a1 i : Int)
    · refine (runs_brF (cmp_neq_f hne)).2 ?_
      rw [std_add, w64 (by omega) (by omega)]
      refine ih (i + 1) p h1 h2 h3 (by omega) (by omega) hb ?_
      rw [show (i + 1).toNat = i.toNat + 1 from by omega, List.take_succ_eq_append_getElem (by omega), List.take_succ_eq_append_getElem (by omega), he]
      have := e1.symm.trans (hne.trans e2)
      rw [this]
    · refine (runs_brT (cmp_neq_t hne)).2 ?_
      rw [runs_ret]
      symm
      rw [beq_eq_false_iff_ne]
      intro hab
      apply hne
      refine e1.trans (.trans ?_ e2.symm)
      subst hab; rfl
theorem equal {a b : List Int} (h : Ty.hass [(.slice (.int .i64)), (.slice (.int .i64))] (a, b)) : Runs (s37 std) (t37 std a b) (a == b) := by
  have hb : a.length ≤ 4611686018427387904 := by
    simp only [Ty.hass, Ty.has] at h
    have := h.1.1
    exact Nat.le_trans this (by decide)
  unfold t37
  rw [runs_br, std_cmp_neq]
  by_cases hl : a.length = b.length
  · rw [show (std.len a != std.len b) = false from by rw [show std.len a = std.len b from by show (a.length : Int) = b.length; rw [hl]]; exact bne_self_eq_false _, cond_false]
    exact eq_in hl a.length 0 ⟨a, b, _⟩ rfl rfl rfl (by omega) (by omega) hb rfl
  · rw [show (std.len a != std.len b) = true from bne_iff_ne.2 (fun h => hl (by have h' : (a.length : Int) = b.length := h; omega)), cond_true, runs_ret]
    symm
    rw [beq_eq_false_iff_ne]
    exact fun h => hl (by rw [h])

def fn37 : (List Int × List Int) → Bool := fun (a, b) => a == b
def sp37 : FSpec := ⟨[(.slice (.int .i64)), (.slice (.int .i64))], [.bool], (@tt (List Int × List Int)), fn37⟩
theorem run37 {s1 : List Int} {s2 : List Int} (h : Ty.hass [(.slice (.int .i64)), (.slice (.int .i64))] (s1, s2)) : Runs (s37 std) (t37 std s1 s2) (fn37 (s1, s2)) := by
  exact equal h
theorem so37 : FSpec.Sound Try.prog 37 sp37 :=
  w37_ok.sound _ _ fun (s1, s2) _ h => run37 h
/-! ### metronome/metronomelaw09.MemberViews (function 6) -/
structure P6c0 where
  a0 : Int
  a1 : Int
  a2 : Int
  a3 : Int
  a4 : Int
  a5 : Int
  a6 : Int
  a7 : Int
  a8 : List Int
  a9 : Bool
  a10 : Int
  a11 : Bool
  a12 : Int
  a13 : Int
  a14 : Bool
  a15 : Int
  a16 : Int
  a17 : Int
  a18 : Int
  a19 : Int
  a20 : Int
  a21 : Int
  a22 : Int
  a23 : Int
  a24 : Int
  a25 : Int
  a26 : Int
  a27 : Int
  a28 : Int
  a29 : Int
  a30 : Int
  a31 : Int
  a32 : Int
  a33 : Int
  a34 : Int
  a35 : Int
  a36 : Int
  a37 : Int
  a38 : Int
  a39 : Int
  a40 : Int
  a41 : Int
  a42 : Int
  a43 : Int
  a44 : Int
structure P6c1 where
  b0 : Int
  b1 : Int
  b2 : Int
  b3 : Int
  b4 : Int
  b5 : Int
  b6 : Int
  b7 : Int
  b8 : List Int
  b9 : Int
  b10 : Bool
  b11 : Int
  b12 : Int
  b13 : Bool
  b14 : Int
  b15 : Int
  b16 : Int
  b17 : Int
  b18 : Int
  b19 : Int
  b20 : Int
  b21 : Int
  b22 : Int
  b23 : Int
  b24 : Int
  b25 : Int
  b26 : Int
  b27 : Int
  b28 : Int
  b29 : Int
  b30 : Int
  b31 : Int
  b32 : Int
  b33 : Int
  b34 : Int
  b35 : Int
  b36 : Int
  b37 : Int
  b38 : Int
  b39 : Int
  b40 : Int
  b41 : Int
  b42 : Int
  b43 : Int
structure P6c2 where
  c0 : Int
  c1 : Int
  c2 : Int
  c4 : Int
  c5 : Int
  c6 : Int
  c7 : Int
  c8 : List Int
  c9 : Bool
  c10 : Int
  c11 : Bool
  c12 : Int
  c13 : Int
  c14 : Bool
  c15 : Int
  c16 : Int
  c17 : Int
  c18 : Int
  c19 : Int
  c20 : Int
  c21 : Int
  c22 : Int
  c23 : Int
  c24 : Int
  c25 : Int
  c26 : Int
  c27 : Int
  c28 : Int
  c29 : Int
  c30 : Int
  c31 : Int
  c32 : Int
  c33 : Int
  c34 : Int
  c35 : Int
  c36 : Int
  c37 : Int
  c38 : Int
  c39 : Int
  c40 : Int
  c41 : Int
  c42 : Int
  c43 : Int
  c44 : Int
structure P6c3 where
  d0 : Int
  d1 : Int
  d2 : Int
  d4 : Int
  d5 : Int
  d6 : Int
  d7 : Int
  d8 : List Int
  d9 : Int
  d10 : Bool
  d11 : Int
  d12 : Int
  d13 : Bool
  d14 : Int
  d15 : Int
  d16 : Int
  d17 : Int
  d18 : Int
  d19 : Int
  d20 : Int
  d21 : Int
  d22 : Int
  d23 : Int
  d24 : Int
  d25 : Int
  d26 : Int
  d27 : Int
  d28 : Int
  d29 : Int
  d30 : Int
  d31 : Int
  d32 : Int
  d33 : Int
  d34 : Int
  d35 : Int
  d36 : Int
  d37 : Int
  d38 : Int
  d39 : Int
  d40 : Int
  d41 : Int
  d42 : Int
  d43 : Int
structure P6c4 where
  e0 : Int
  e1 : Int
  e2 : Int
  e3 : Int
  e4 : Int
  e5 : Int
  e6 : Int
  e7 : Int
  e8 : List Int
  e9 : Bool
  e10 : Int
  e11 : Bool
  e12 : Int
  e13 : Int
  e14 : Bool
  e15 : Int
  e16 : Int
  e17 : Int
  e18 : Int
  e19 : Int
  e20 : Int
  e21 : Int
  e22 : Int
  e23 : Int
  e24 : Int
  e25 : Int
  e26 : Int
  e27 : Int
  e28 : Int
  e29 : Int
  e30 : Int
  e31 : Int
  e32 : Int
  e33 : Int
  e34 : Int
  e35 : Int
  e36 : List Int
  e37 : Int
  e38 : Int
  e39 : Int
  e40 : Int
  e41 : Int
  e42 : Int
  e43 : Int
  e44 : Int
  e45 : Int
structure P6c5 where
  f0 : Int
  f1 : Int
  f2 : Int
  f4 : Int
  f5 : Int
  f6 : Int
  f7 : Int
  f8 : List Int
  f9 : Bool
  f10 : Int
  f11 : Bool
  f12 : Int
  f13 : Int
  f14 : Bool
  f15 : Int
  f16 : Int
  f17 : Int
  f18 : Int
  f19 : Int
  f20 : Int
  f21 : Int
  f22 : Int
  f23 : Int
  f24 : Int
  f25 : Int
  f26 : Int
  f27 : Int
  f28 : Int
  f29 : Int
  f30 : Int
  f31 : Int
  f32 : Int
  f33 : Int
  f34 : Int
  f35 : Int
  f36 : List Int
  f37 : Int
  f38 : Int
  f39 : Int
  f40 : Int
  f41 : Int
  f42 : Int
  f43 : Int
  f44 : Int
  f45 : Int
inductive Y6 where
  | c0 (p : P6c0)
  | c1 (p : P6c1)
  | c2 (p : P6c2) (c3 : Int) (c45 : List Int)
  | c3 (p : P6c3) (d3 : Int) (d44 : List Int)
  | c4 (p : P6c4)
  | c5 (p : P6c5) (f3 : Int) (f46 : List Int)
noncomputable def cfg6 : Y6 → Cfg
  | .c0 p => { frames := [{ fn := 76, n := 37, env := (Env.put (Env.put (Env.put (Env.put .leaf 0 (.yield 0)) 24 (.osl 1 1 false p.a0 p.a1)) 25 (.int .i64 false p.a2)) 26 (.int .i64 false p.a3)), todo := [.inLoop (Code.way (bodyOf Try.f76) [1, 1, 1, 0, 0]), .inBlock 0], marks := [], rnd := none }, { fn := 29, n := 27, env := (Env.put (Env.put (Env.put .leaf 4 (.ptr 2 0)) 5 (.ptr 3 0)) 6 (.ptr 4 0)), todo := [.inRF 0, .inBlock 0, .code (Code.way (bodyOf Try.f29) [1, 1, 1, 1])], marks := [5], rnd := none }, { fn := 6, n := 102, env := (Env.put (Env.put (Env.put (Env.put (Env.put (Env.put (Env.put (Env.put (Env.put (Env.put .leaf 4 (.int .i64 false p.a4)) 5 (.int .u8 false p.a5)) 6 (.ptr 6 0)) 13 (.ptr 7 0)) 14 (.int .i64 false p.a6)) 15 (.ptr 8 0)) 16 (.int .i64 false p.a7)) 17 (.sl (.int .i64) p.a8)) 18 (.esl true)) 19 (.bool false p.a9)), todo := [.ops (opsOf (Code.way (bodyOf Try.f6) [1, 1, 1, 1, 1, 0])) ((opsOf (Code.way (bodyOf Try.f6) [1, 1, 1, 1, 1, 0])).toList.drop 5), .code (Code.way (bodyOf Try.f6) [1, 1, 1, 1, 1, 1])], marks := [], rnd := none }], mem := [.loop { fn := 29, n := 27, env := (Env.put (Env.put (Env.put (Env.put (Env.put (Env.put (Env.put (Env.put (Env.put .leaf 0 (.fn 76 [] [.ptr 9 0, .ptr 10 0])) 1 (.int .i64 false p.a10)) 3 (.ptr 11 0)) 4 (.ptr 2 0)) 5 (.ptr 3 0)) 6 (.ptr 4 0)) 9 (.fn 76 [] [.ptr 9 0, .ptr 10 0])) 10 (.bool false p.a11)) 11 (.fn 76 [] [.ptr 9 0, .ptr 10 0])), params := [12, 13], assign := (Code.way (bodyOf Try.f29) [1, 1, 1, 0, 1, 0, 0]), body := (Code.way (bodyOf Try.f29) [1, 1, 1, 0, 1, 0, 1]), state := 0, pending := none }, .flat false [.int .i64 false p.a12, .int .i64 false p.a13], .flat false [.esl true], .flat false [.bool false p.a14], .flat false [.esl true], .dfr, .flat false [.int .i64 false p.a15, .int .i64 false p.a16, .int .i64 false p.a17, .int .i64 false p.a18, .int .i64 false p.a19, .int .i64 false p.a20, .int .i64 false p.a21], .flat false [.int .i64 false p.a22, .int .i64 false p.a23, .int .i64 false p.a24, .int .i64 false p.a25, .int .i64 false p.a26, .int .i64 false p.a27, .int .i64 false p.a28], .flat false [.int .i64 false p.a29, .int .i64 false p.a30, .int .i64 false p.a31, .int .i64 false p.a32, .int .i64 false p.a33, .int .i64 false p.a34, .int .i64 false p.a35], .flat false [.int .i64 false p.a36, .int .i64 false p.a37, .int .i64 false p.a38, .int .i64 false p.a39, .int .i64 false p.a40, .int .i64 false p.a41, .int .i64 false p.a42], .flat false [.int .i64 false p.a43], .flat false [.int .i64 false p.a44], .dead] }
  | .c1 p => { frames := [{ fn := 76, n := 37, env := (Env.put (Env.put (Env.put (Env.put .leaf 0 (.yield 0)) 24 (.osl 1 1 false p.b0 p.b1)) 25 (.int .i64 false p.b2)) 26 (.int .i64 false p.b3)), todo := [.inLoop (Code.way (bodyOf Try.f76) [1, 1, 1, 0, 0]), .inBlock 0], marks := [], rnd := none }, { fn := 29, n := 27, env := (Env.put (Env.put (Env.put .leaf 4 (.ptr 2 0)) 5 (.ptr 3 0)) 6 (.ptr 4 0)), todo := [.inRF 0, .inBlock 0, .code (Code.way (bodyOf Try.f29) [1, 1, 1, 1])], marks := [5], rnd := none }, { fn := 6, n := 102, env := (Env.put (Env.put (Env.put (Env.put (Env.put (Env.put (Env.put (Env.put (Env.put (Env.put .leaf 4 (.int .i64 false p.b4)) 5 (.int .u8 false p.b5)) 6 (.ptr 6 0)) 13 (.ptr 7 0)) 14 (.int .i64 false p.b6)) 15 (.ptr 8 0)) 16 (.int .i64 false p.b7)) 17 (.sl (.int .i64) p.b8)) 18 .undef) 19 .undef), todo := [.ops (opsOf (Code.way (bodyOf Try.f6) [1, 1, 1, 1, 0])) ((opsOf (Code.way (bodyOf Try.f6) [1, 1, 1, 1, 0])).toList.drop 3), .code (Code.way (bodyOf Try.f6) [1, 1, 1, 1, 1])], marks := [], rnd := none }], mem := [.loop { fn := 29, n := 27, env := (Env.put (Env.put (Env.put (Env.put (Env.put (Env.put (Env.put (Env.put (Env.put .leaf 0 (.fn 76 [] [.ptr 9 0, .ptr 10 0])) 1 (.int .i64 false p.b9)) 3 (.ptr 11 0)) 4 (.ptr 2 0)) 5 (.ptr 3 0)) 6 (.ptr 4 0)) 9 (.fn 76 [] [.ptr 9 0, .ptr 10 0])) 10 (.bool false p.b10)) 11 (.fn 76 [] [.ptr 9 0, .ptr 10 0])), params := [12, 13], assign := (Code.way (bodyOf Try.f29) [1, 1, 1, 0, 1, 0, 0]), body := (Code.way (bodyOf Try.f29) [1, 1, 1, 0, 1, 0, 1]), state := 0, pending := none }, .flat false [.int .i64 false p.b11, .int .i64 false p.b12], .flat false [.esl true], .flat false [.bool false p.b13], .flat false [.esl true], .dfr, .flat false [.int .i64 false p.b14, .int .i64 false p.b15, .int .i64 false p.b16, .int .i64 false p.b17, .int .i64 false p.b18, .int .i64 false p.b19, .int .i64 false p.b20], .flat false [.int .i64 false p.b21, .int .i64 false p.b22, .int .i64 false p.b23, .int .i64 false p.b24, .int .i64 false p.b25, .int .i64 false p.b26, .int .i64 false p.b27], .flat false [.int .i64 false p.b28, .int .i64 false p.b29, .int .i64 false p.b30, .int .i64 false p.b31, .int .i64 false p.b32, .int .i64 false p.b33, .int .i64 false p.b34], .flat false [.int .i64 false p.b35, .int .i64 false p.b36, .int .i64 false p.b37, .int .i64 false p.b38, .int .i64 false p.b39, .int .i64 false p.b40, .int .i64 false p.b41], .flat false [.int .i64 false p.b42], .flat false [.int .i64 false p.b43], .dead] }
  | .c2 p c3 c45 => { frames := [{ fn := 76, n := 37, env := (Env.put (Env.put (Env.put (Env.put .leaf 0 (.yield 0)) 24 (.osl 1 1 false p.c0 p.c1)) 25 (.int .i64 false p.c2)) 26 (.int .i64 false c3)), todo := [.inLoop (Code.way (bodyOf Try.f76) [1, 1, 1, 0, 0]), .inBlock 0], marks := [], rnd := none }, { fn := 29, n := 27, env := (Env.put (Env.put (Env.put .leaf 4 (.ptr 2 0)) 5 (.ptr 3 0)) 6 (.ptr 4 0)), todo := [.inRF 0, .inBlock 0, .code (Code.way (bodyOf Try.f29) [1, 1, 1, 1])], marks := [5], rnd := none }, { fn := 6, n := 102, env := (Env.put (Env.put (Env.put (Env.put (Env.put (Env.put (Env.put (Env.put (Env.put (Env.put .leaf 4 (.int .i64 false p.c4)) 5 (.int .u8 false p.c5)) 6 (.ptr 6 0)) 13 (.ptr 7 0)) 14 (.int .i64 false p.c6)) 15 (.ptr 8 0)) 16 (.int .i64 false p.c7)) 17 (.sl (.int .i64) p.c8)) 18 (.esl true)) 19 (.bool false p.c9)), todo := [.ops (opsOf (Code.way (bodyOf Try.f6) [1, 1, 1, 1, 1, 0])) ((opsOf (Code.way (bodyOf Try.f6) [1, 1, 1, 1, 1, 0])).toList.drop 5), .code (Code.way (bodyOf Try.f6) [1, 1, 1, 1, 1, 1])], marks := [], rnd := none }], mem := [.loop { fn := 29, n := 27, env := (Env.put (Env.put (Env.put (Env.put (Env.put (Env.put (Env.put (Env.put (Env.put .leaf 0 (.fn 76 [] [.ptr 9 0, .ptr 10 0])) 1 (.int .i64 false p.c10)) 3 (.ptr 11 0)) 4 (.ptr 2 0)) 5 (.ptr 3 0)) 6 (.ptr 4 0)) 9 (.fn 76 [] [.ptr 9 0, .ptr 10 0])) 10 (.bool false p.c11)) 11 (.fn 76 [] [.ptr 9 0, .ptr 10 0])), params := [12, 13], assign := (Code.way (bodyOf Try.f29) [1, 1, 1, 0, 1, 0, 0]), body := (Code.way (bodyOf Try.f29) [1, 1, 1, 0, 1, 0, 1]), state := 0, pending := none }, .flat false [.int .i64 false p.c12, .int .i64 false p.c13], .flat false [.esl true], .flat false [.bool false p.c14], .flat false [.own 12], .dfr, .flat false [.int .i64 false p.c15, .int .i64 false p.c16, .int .i64 false p.c17, .int .i64 false p.c18, .int .i64 false p.c19, .int .i64 false p.c20, .int .i64 false p.c21], .flat false [.int .i64 false p.c22, .int .i64 false p.c23, .int .i64 false p.c24, .int .i64 false p.c25, .int .i64 false p.c26, .int .i64 false p.c27, .int .i64 false p.c28], .flat false [.int .i64 false p.c29, .int .i64 false p.c30, .int .i64 false p.c31, .int .i64 false p.c32, .int .i64 false p.c33, .int .i64 false p.c34, .int .i64 false p.c35], .flat false [.int .i64 false p.c36, .int .i64 false p.c37, .int .i64 false p.c38, .int .i64 false p.c39, .int .i64 false p.c40, .int .i64 false p.c41, .int .i64 false p.c42], .flat false [.int .i64 false p.c43], .flat false [.int .i64 false p.c44], .arr false (.int .i64) c45, .dead] }
  | .c3 p d3 d44 => { frames := [{ fn := 76, n := 37, env := (Env.put (Env.put (Env.put (Env.put .leaf 0 (.yield 0)) 24 (.osl 1 1 false p.d0 p.d1)) 25 (.int .i64 false p.d2)) 26 (.int .i64 false d3)), todo := [.inLoop (Code.way (bodyOf Try.f76) [1, 1, 1, 0, 0]), .inBlock 0], marks := [], rnd := none }, { fn := 29, n := 27, env := (Env.put (Env.put (Env.put .leaf 4 (.ptr 2 0)) 5 (.ptr 3 0)) 6 (.ptr 4 0)), todo := [.inRF 0, .inBlock 0, .code (Code.way (bodyOf Try.f29) [1, 1, 1, 1])], marks := [5], rnd := none }, { fn := 6, n := 102, env := (Env.put (Env.put (Env.put (Env.put (Env.put (Env.put (Env.put (Env.put (Env.put (Env.put .leaf 4 (.int .i64 false p.d4)) 5 (.int .u8 false p.d5)) 6 (.ptr 6 0)) 13 (.ptr 7 0)) 14 (.int .i64 false p.d6)) 15 (.ptr 8 0)) 16 (.int .i64 false p.d7)) 17 (.sl (.int .i64) p.d8)) 18 .undef) 19 .undef), todo := [.ops (opsOf (Code.way (bodyOf Try.f6) [1, 1, 1, 1, 0])) ((opsOf (Code.way (bodyOf Try.f6) [1, 1, 1, 1, 0])).toList.drop 3), .code (Code.way (bodyOf Try.f6) [1, 1, 1, 1, 1])], marks := [], rnd := none }], mem := [.loop { fn := 29, n := 27, env := (Env.put (Env.put (Env.put (Env.put (Env.put (Env.put (Env.put (Env.put (Env.put .leaf 0 (.fn 76 [] [.ptr 9 0, .ptr 10 0])) 1 (.int .i64 false p.d9)) 3 (.ptr 11 0)) 4 (.ptr 2 0)) 5 (.ptr 3 0)) 6 (.ptr 4 0)) 9 (.fn 76 [] [.ptr 9 0, .ptr 10 0])) 10 (.bool false p.d10)) 11 (.fn 76 [] [.ptr 9 0, .ptr 10 0])), params := [12, 13], assign := (Code.way (bodyOf Try.f29) [1, 1, 1, 0, 1, 0, 0]), body := (Code.way (bodyOf Try.f29) [1, 1, 1, 0, 1, 0, 1]), state := 0, pending := none }, .flat false [.int .i64 false p.d11, .int .i64 false p.d12], .flat false [.esl true], .flat false [.bool false p.d13], .flat false [.own 12], .dfr, .flat false [.int .i64 false p.d14, .int .i64 false p.d15, .int .i64 false p.d16, .int .i64 false p.d17, .int .i64 false p.d18, .int .i64 false p.d19, .int .i64 false p.d20], .flat false [.int .i64 false p.d21, .int .i64 false p.d22, .int .i64 false p.d23, .int .i64 false p.d24, .int .i64 false p.d25, .int .i64 false p.d26, .int .i64 false p.d27], .flat false [.int .i64 false p.d28, .int .i64 false p.d29, .int .i64 false p.d30, .int .i64 false p.d31, .int .i64 false p.d32, .int .i64 false p.d33, .int .i64 false p.d34], .flat false [.int .i64 false p.d35, .int .i64 false p.d36, .int .i64 false p.d37, .int .i64 false p.d38, .int .i64 false p.d39, .int .i64 false p.d40, .int .i64 false p.d41], .flat false [.int .i64 false p.d42], .flat false [.int .i64 false p.d43], .arr false (.int .i64) d44, .dead] }
  | .c4 p => { frames := [{ fn := 76, n := 37, env := (Env.put (Env.put (Env.put (Env.put .leaf 0 (.yield 0)) 24 (.osl 1 1 false p.e0 p.e1)) 25 (.int .i64 false p.e2)) 26 (.int .i64 false p.e3)), todo := [.inLoop (Code.way (bodyOf Try.f76) [1, 1, 1, 0, 0]), .inBlock 0], marks := [], rnd := none }, { fn := 29, n := 27, env := (Env.put (Env.put (Env.put .leaf 4 (.ptr 2 0)) 5 (.ptr 3 0)) 6 (.ptr 4 0)), todo := [.inRF 0, .inBlock 0, .code (Code.way (bodyOf Try.f29) [1, 1, 1, 1])], marks := [5], rnd := none }, { fn := 6, n := 102, env := (Env.put (Env.put (Env.put (Env.put (Env.put (Env.put (Env.put (Env.put (Env.put (Env.put .leaf 4 (.int .i64 false p.e4)) 5 (.int .u8 false p.e5)) 6 (.ptr 6 0)) 13 (.ptr 7 0)) 14 (.int .i64 false p.e6)) 15 (.ptr 8 0)) 16 (.int .i64 false p.e7)) 17 (.sl (.int .i64) p.e8)) 18 (.own 9)) 19 (.bool false p.e9)), todo := [.ops (opsOf (Code.way (bodyOf Try.f6) [1, 1, 1, 1, 1, 0])) ((opsOf (Code.way (bodyOf Try.f6) [1, 1, 1, 1, 1, 0])).toList.drop 5), .code (Code.way (bodyOf Try.f6) [1, 1, 1, 1, 1, 1])], marks := [], rnd := none }], mem := [.loop { fn := 29, n := 27, env := (Env.put (Env.put (Env.put (Env.put (Env.put (Env.put (Env.put (Env.put (Env.put .leaf 0 (.fn 76 [] [.ptr 10 0, .ptr 11 0])) 1 (.int .i64 false p.e10)) 3 (.ptr 12 0)) 4 (.ptr 2 0)) 5 (.ptr 3 0)) 6 (.ptr 4 0)) 9 (.fn 76 [] [.ptr 10 0, .ptr 11 0])) 10 (.bool false p.e11)) 11 (.fn 76 [] [.ptr 10 0, .ptr 11 0])), params := [12, 13], assign := (Code.way (bodyOf Try.f29) [1, 1, 1, 0, 1, 0, 0]), body := (Code.way (bodyOf Try.f29) [1, 1, 1, 0, 1, 0, 1]), state := 0, pending := none }, .flat false [.int .i64 false p.e12, .int .i64 false p.e13], .flat false [.esl true], .flat false [.bool false p.e14], .flat false [.esl true], .dfr, .flat false [.int .i64 false p.e15, .int .i64 false p.e16, .int .i64 false p.e17, .int .i64 false p.e18, .int .i64 false p.e19, .int .i64 false p.e20, .int .i64 false p.e21], .flat false [.int .i64 false p.e22, .int .i64 false p.e23, .int .i64 false p.e24, .int .i64 false p.e25, .int .i64 false p.e26, .int .i64 false p.e27, .int .i64 false p.e28], .flat false [.int .i64 false p.e29, .int .i64 false p.e30, .int .i64 false p.e31, .int .i64 false p.e32, .int .i64 false p.e33, .int .i64 false p.e34, .int .i64 false p.e35], .arr false (.int .i64) p.e36, .flat false [.int .i64 false p.e37, .int .i64 false p.e38, .int .i64 false p.e39, .int .i64 false p.e40, .int .i64 false p.e41, .int .i64 false p.e42, .int .i64 false p.e43], .flat false [.int .i64 false p.e44], .flat false [.int .i64 false p.e45], .dead] }
  | .c5 p f3 f46 => { frames := [{ fn := 76, n := 37, env := (Env.put (Env.put (Env.put (Env.put .leaf 0 (.yield 0)) 24 (.osl 1 1 false p.f0 p.f1)) 25 (.int .i64 false p.f2)) 26 (.int .i64 false f3)), todo := [.inLoop (Code.way (bodyOf Try.f76) [1, 1, 1, 0, 0]), .inBlock 0], marks := [], rnd := none }, { fn := 29, n := 27, env := (Env.put (Env.put (Env.put .leaf 4 (.ptr 2 0)) 5 (.ptr 3 0)) 6 (.ptr 4 0)), todo := [.inRF 0, .inBlock 0, .code (Code.way (bodyOf Try.f29) [1, 1, 1, 1])], marks := [5], rnd := none }, { fn := 6, n := 102, env := (Env.put (Env.put (Env.put (Env.put (Env.put (Env.put (Env.put (Env.put (Env.put (Env.put .leaf 4 (.int .i64 false p.f4)) 5 (.int .u8 false p.f5)) 6 (.ptr 6 0)) 13 (.ptr 7 0)) 14 (.int .i64 false p.f6)) 15 (.ptr 8 0)) 16 (.int .i64 false p.f7)) 17 (.sl (.int .i64) p.f8)) 18 (.own 9)) 19 (.bool false p.f9)), todo := [.ops (opsOf (Code.way (bodyOf Try.f6) [1, 1, 1, 1, 1, 0])) ((opsOf (Code.way (bodyOf Try.f6) [1, 1, 1, 1, 1, 0])).toList.drop 5), .code (Code.way (bodyOf Try.f6) [1, 1, 1, 1, 1, 1])], marks := [], rnd := none }], mem := [.loop { fn := 29, n := 27, env := (Env.put (Env.put (Env.put (Env.put (Env.put (Env.put (Env.put (Env.put (Env.put .leaf 0 (.fn 76 [] [.ptr 10 0, .ptr 11 0])) 1 (.int .i64 false p.f10)) 3 (.ptr 12 0)) 4 (.ptr 2 0)) 5 (.ptr 3 0)) 6 (.ptr 4 0)) 9 (.fn 76 [] [.ptr 10 0, .ptr 11 0])) 10 (.bool false p.f11)) 11 (.fn 76 [] [.ptr 10 0, .ptr 11 0])), params := [12, 13], assign := (Code.way (bodyOf Try.f29) [1, 1, 1, 0, 1, 0, 0]), body := (Code.way (bodyOf Try.f29) [1, 1, 1, 0, 1, 0, 1]), state := 0, pending := none }, .flat false [.int .i64 false p.f12, .int .i64 false p.f13], .flat false [.esl true], .flat false [.bool false p.f14], .flat false [.own 13], .dfr, .flat false [.int .i64 false p.f15, .int .i64 false p.f16, .int .i64 false p.f17, .int .i64 false p.f18, .int .i64 false p.f19, .int .i64 false p.f20, .int .i64 false p.f21], .flat false [.int .i64 false p.f22, .int .i64 false p.f23, .int .i64 false p.f24, .int .i64 false p.f25, .int .i64 false p.f26, .int .i64 false p.f27, .int .i64 false p.f28], .flat false [.int .i64 false p.f29, .int .i64 false p.f30, .int .i64 false p.f31, .int .i64 false p.f32, .int .i64 false p.f33, .int .i64 false p.f34, .int .i64 false p.f35], .arr false (.int .i64) p.f36, .flat false [.int .i64 false p.f37, .int .i64 false p.f38, .int .i64 false p.f39, .int .i64 false p.f40, .int .i64 false p.f41, .int .i64 false p.f42, .int .i64 false p.f43], .flat false [.int .i64 false p.f44], .flat false [.int .i64 false p.f45], .arr false (.int .i64) f46, .dead] }

def t6 (A : Alg) (mId : Int) (mN : Int) (mSet : Int) (mAcc : Int) (mFail : Int) (mStage : Int) (mFirst : Int) (id : Int) (n : Int) (set1 : Int) (sender : Int) (most : Int) : LT Bool Y6 :=
  .need (A.call (@tt (Int × Int × Int)) (id, n, set1)) (
 .need (A.call (@tt (Int × Int × Int)) (id, n, set1)) (
  .need (A.call (@tt ((Int × Int × Int × Int × Int × Int × Int) × Int)) ((mId, mN, mSet, mAcc, mFail, mStage, mFirst), sender)) (
   .need (A.call (@tt ((Int × Int × Int × Int × Int × Int × Int))) (mId, mN, mSet, mAcc, mFail, mStage, mFirst)) (
    .br (A.cmp .neq (A.call fn34 (mId, mN, mSet, mAcc, mFail, mStage, mFirst)) 0)
     (.need (A.call (@tt ((Int × Int × Int × Int × Int × Int × Int))) (mId, mN, mSet, mAcc, mFail, mStage, mFirst)) (
      .br (A.cmp .neq (A.call fn34 (mId, mN, mSet, mAcc, mFail, mStage, mFirst)) 0)
       (.need (A.call (@tt Unit) ()) (
        .br (A.call fn22 ())
         (.br (A.and (A.cmp .eql (A.call fn21 (id, n, set1)).1.1 (A.call fn32 (id, n, set1)).1.1) (A.and (A.cmp .eql (A.call fn21 (id, n, set1)).1.2.1 (A.call fn32 (id, n, set1)).1.2.1) (A.and (A.cmp .eql (A.call fn21 (id, n, set1)).1.2.2.1 (A.call fn32 (id, n, set1)).1.2.2.1) (A.and (A.cmp .eql (A.call fn21 (id, n, set1)).1.2.2.2.1 (A.call fn32 (id, n, set1)).1.2.2.2.1) (A.and (A.cmp .eql (A.call fn21 (id, n, set1)).1.2.2.2.2.1 (A.call fn32 (id, n, set1)).1.2.2.2.2.1) (A.and (A.cmp .eql (A.call fn21 (id, n, set1)).1.2.2.2.2.2.1 (A.call fn32 (id, n, set1)).1.2.2.2.2.2.1) (A.and (A.cmp .eql (A.call fn21 (id, n, set1)).1.2.2.2.2.2.2 (A.call fn32 (id, n, set1)).1.2.2.2.2.2.2) true)))))))
          (.br (A.cmp .eql (A.call fn21 (id, n, set1)).2 (A.call fn32 (id, n, set1)).2)
           (.need (A.call (@tt ((Int × Int × Int × Int × Int × Int × Int))) (mId, mN, mSet, mAcc, mFail, mStage, mFirst)) (
            .need (A.call (@tt ((Int × Int × Int × Int × Int × Int × Int))) (mId, mN, mSet, mAcc, mFail, mStage, mFirst)) (
             .br (A.cmp .eql (A.call fn34 (mId, mN, mSet, mAcc, mFail, mStage, mFirst)) (A.call fn35 (mId, mN, mSet, mAcc, mFail, mStage, mFirst)))
              (.need (A.call (@tt ((Int × Int × Int × Int × Int × Int × Int))) (mId, mN, mSet, mAcc, mFail, mStage, mFirst)) (
               .need (A.call (@tt ((Int × Int × Int × Int × Int × Int × Int))) (mId, mN, mSet, mAcc, mFail, mStage, mFirst)) (
                .br (A.beq (A.call fn24 (mId, mN, mSet, mAcc, mFail, mStage, mFirst)) (A.call fn36 (mId, mN, mSet, mAcc, mFail, mStage, mFirst)))
                 (.need (A.call (@tt (List Int × List Int)) (([] : List Int), (A.call fn33 ((mId, mN, mSet, mAcc, mFail, mStage, mFirst), sender)))) (
                  .br (A.call fn37 (([] : List Int), (A.call fn33 ((mId, mN, mSet, mAcc, mFail, mStage, mFirst), sender))))
                   (.need (A.and (A.cmp .leq 0 0) (A.and (A.cmp .leq 0 (A.mn (A.len (A.call fn33 ((mId, mN, mSet, mAcc, mFail, mStage, mFirst), sender))) (A.conv .i64 most))) (A.cmp .leq (A.mn (A.len (A.call fn33 ((mId, mN, mSet, mAcc, mFail, mStage, mFirst), sender))) (A.conv .i64 most)) (A.len (A.call fn33 ((mId, mN, mSet, mAcc, mFail, mStage, mFirst), sender)))))) (
                    .need (A.call (@tt (List Int × List Int)) (([] : List Int), (A.sub (A.call fn33 ((mId, mN, mSet, mAcc, mFail, mStage, mFirst), sender)) 0 (A.mn (A.len (A.call fn33 ((mId, mN, mSet, mAcc, mFail, mStage, mFirst), sender))) (A.conv .i64 most))))) (
                     .ret (A.call fn37 (([] : List Int), (A.sub (A.call fn33 ((mId, mN, mSet, mAcc, mFail, mStage, mFirst), sender)) 0 (A.mn (A.len (A.call fn33 ((mId, mN, mSet, mAcc, mFail, mStage, mFirst), sender))) (A.conv .i64 most))))))))
                   (.ret false)))
                 (.ret false))))
              (.ret false))))
           (.ret false))
          (.ret false))
         (.ret false)))
       (.need (A.call (@tt ((Int × Int × Int × Int × Int × Int × Int) × Int)) ((mId, mN, mSet, mAcc, mFail, mStage, mFirst), sender)) (
        .br (A.not (A.call fn77 ((mId, mN, mSet, mAcc, mFail, mStage, mFirst), sender)))
         (.need (A.call (@tt Unit) ()) (
          .br (A.call fn22 ())
           (.br (A.and (A.cmp .eql (A.call fn21 (id, n, set1)).1.1 (A.call fn32 (id, n, set1)).1.1) (A.and (A.cmp .eql (A.call fn21 (id, n, set1)).1.2.1 (A.call fn32 (id, n, set1)).1.2.1) (A.and (A.cmp .eql (A.call fn21 (id, n, set1)).1.2.2.1 (A.call fn32 (id, n, set1)).1.2.2.1) (A.and (A.cmp .eql (A.call fn21 (id, n, set1)).1.2.2.2.1 (A.call fn32 (id, n, set1)).1.2.2.2.1) (A.and (A.cmp .eql (A.call fn21 (id, n, set1)).1.2.2.2.2.1 (A.call fn32 (id, n, set1)).1.2.2.2.2.1) (A.and (A.cmp .eql (A.call fn21 (id, n, set1)).1.2.2.2.2.2.1 (A.call fn32 (id, n, set1)).1.2.2.2.2.2.1) (A.and (A.cmp .eql (A.call fn21 (id, n, set1)).1.2.2.2.2.2.2 (A.call fn32 (id, n, set1)).1.2.2.2.2.2.2) true)))))))
            (.br (A.cmp .eql (A.call fn21 (id, n, set1)).2 (A.call fn32 (id, n, set1)).2)
             (.need (A.call (@tt ((Int × Int × Int × Int × Int × Int × Int))) (mId, mN, mSet, mAcc, mFail, mStage, mFirst)) (
              .need (A.call (@tt ((Int × Int × Int × Int × Int × Int × Int))) (mId, mN, mSet, mAcc, mFail, mStage, mFirst)) (
               .br (A.cmp .eql (A.call fn34 (mId, mN, mSet, mAcc, mFail, mStage, mFirst)) (A.call fn35 (mId, mN, mSet, mAcc, mFail, mStage, mFirst)))
                (.need (A.call (@tt ((Int × Int × Int × Int × Int × Int × Int))) (mId, mN, mSet, mAcc, mFail, mStage, mFirst)) (
                 .need (A.call (@tt ((Int × Int × Int × Int × Int × Int × Int))) (mId, mN, mSet, mAcc, mFail, mStage, mFirst)) (
                  .br (A.beq (A.call fn24 (mId, mN, mSet, mAcc, mFail, mStage, mFirst)) (A.call fn36 (mId, mN, mSet, mAcc, mFail, mStage, mFirst)))
                   (.need (A.call (@tt (List Int × List Int)) (([] : List Int), (A.call fn33 ((mId, mN, mSet, mAcc, mFail, mStage, mFirst), sender)))) (
                    .br (A.call fn37 (([] : List Int), (A.call fn33 ((mId, mN, mSet, mAcc, mFail, mStage, mFirst), sender))))
                     (.need (A.and (A.cmp .leq 0 0) (A.and (A.cmp .leq 0 (A.mn (A.len (A.call fn33 ((mId, mN, mSet, mAcc, mFail, mStage, mFirst), sender))) (A.conv .i64 most))) (A.cmp .leq (A.mn (A.len (A.call fn33 ((mId, mN, mSet, mAcc, mFail, mStage, mFirst), sender))) (A.conv .i64 most)) (A.len (A.call fn33 ((mId, mN, mSet, mAcc, mFail, mStage, mFirst), sender)))))) (
                      .need (A.call (@tt (List Int × List Int)) (([] : List Int), (A.sub (A.call fn33 ((mId, mN, mSet, mAcc, mFail, mStage, mFirst), sender)) 0 (A.mn (A.len (A.call fn33 ((mId, mN, mSet, mAcc, mFail, mStage, mFirst), sender))) (A.conv .i64 most))))) (
                       .ret (A.call fn37 (([] : List Int), (A.sub (A.call fn33 ((mId, mN, mSet, mAcc, mFail, mStage, mFirst), sender)) 0 (A.mn (A.len (A.call fn33 ((mId, mN, mSet, mAcc, mFail, mStage, mFirst), sender))) (A.conv .i64 most))))))))
                     (.ret false)))
                   (.ret false))))
                (.ret false))))
             (.ret false))
            (.ret false))
           (.ret false)))
         (.need (A.call pre78 ((mId, mN, mSet, mAcc, mFail, mStage, mFirst), sender)) (
          .need (A.and (A.cmp .leq 0 0) (A.and (A.cmp .leq 0 (A.call fn78 ((mId, mN, mSet, mAcc, mFail, mStage, mFirst), sender)).2) (A.cmp .leq (A.call fn78 ((mId, mN, mSet, mAcc, mFail, mStage, mFirst), sender)).2 2))) (
           .more (.c0 ⟨(A.bin .add .i64 0 0), (A.bin .sub .i64 (A.call fn78 ((mId, mN, mSet, mAcc, mFail, mStage, mFirst), sender)).2 0), (A.bin .sub .i64 (A.call fn78 ((mId, mN, mSet, mAcc, mFail, mStage, mFirst), sender)).2 0), 0, sender, most, (A.call fn21 (id, n, set1)).2, (A.call fn32 (id, n, set1)).2, (A.call fn33 ((mId, mN, mSet, mAcc, mFail, mStage, mFirst), sender)), true, (A.conv .i64 most), false, (A.nth (.int .i64) (A.call fn78 ((mId, mN, mSet, mAcc, mFail, mStage, mFirst), sender)).1 0 : Int), (A.nth (.int .i64) (A.call fn78 ((mId, mN, mSet, mAcc, mFail, mStage, mFirst), sender)).1 1 : Int), false, mId, mN, mSet, mAcc, mFail, mStage, mFirst, (A.call fn21 (id, n, set1)).1.1, (A.call fn21 (id, n, set1)).1.2.1, (A.call fn21 (id, n, set1)).1.2.2.1, (A.call fn21 (id, n, set1)).1.2.2.2.1, (A.call fn21 (id, n, set1)).1.2.2.2.2.1, (A.call fn21 (id, n, set1)).1.2.2.2.2.2.1, (A.call fn21 (id, n, set1)).1.2.2.2.2.2.2, (A.call fn32 (id, n, set1)).1.1, (A.call fn32 (id, n, set1)).1.2.1, (A.call fn32 (id, n, set1)).1.2.2.1, (A.call fn32 (id, n, set1)).1.2.2.2.1, (A.call fn32 (id, n, set1)).1.2.2.2.2.1, (A.call fn32 (id, n, set1)).1.2.2.2.2.2.1, (A.call fn32 (id, n, set1)).1.2.2.2.2.2.2, mId, mN, mSet, mAcc, mFail, mStage, mFirst, sender, (A.conv .i64 most)⟩))))))))
     (.need (A.call (@tt ((Int × Int × Int × Int × Int × Int × Int) × Int)) ((mId, mN, mSet, mAcc, mFail, mStage, mFirst), sender)) (
      .br (A.not (A.call fn77 ((mId, mN, mSet, mAcc, mFail, mStage, mFirst), sender)))
       (.need (A.call (@tt ((Int × Int × Int × Int × Int × Int × Int))) (mId, mN, mSet, mAcc, mFail, mStage, mFirst)) (
        .br (A.cmp .neq (A.call fn34 (mId, mN, mSet, mAcc, mFail, mStage, mFirst)) 0)
         (.need (A.call (@tt Unit) ()) (
          .br (A.call fn22 ())
           (.br (A.and (A.cmp .eql (A.call fn21 (id, n, set1)).1.1 (A.call fn32 (id, n, set1)).1.1) (A.and (A.cmp .eql (A.call fn21 (id, n, set1)).1.2.1 (A.call fn32 (id, n, set1)).1.2.1) (A.and (A.cmp .eql (A.call fn21 (id, n, set1)).1.2.2.1 (A.call fn32 (id, n, set1)).1.2.2.1) (A.and (A.cmp .eql (A.call fn21 (id, n, set1)).1.2.2.2.1 (A.call fn32 (id, n, set1)).1.2.2.2.1) (A.and (A.cmp .eql (A.call fn21 (id, n, set1)).1.2.2.2.2.1 (A.call fn32 (id, n, set1)).1.2.2.2.2.1) (A.and (A.cmp .eql (A.call fn21 (id, n, set1)).1.2.2.2.2.2.1 (A.call fn32 (id, n, set1)).1.2.2.2.2.2.1) (A.and (A.cmp .eql (A.call fn21 (id, n, set1)).1.2.2.2.2.2.2 (A.call fn32 (id, n, set1)).1.2.2.2.2.2.2) true)))))))
            (.br (A.cmp .eql (A.call fn21 (id, n, set1)).2 (A.call fn32 (id, n, set1)).2)
             (.need (A.call (@tt ((Int × Int × Int × Int × Int × Int × Int))) (mId, mN, mSet, mAcc, mFail, mStage, mFirst)) (
              .need (A.call (@tt ((Int × Int × Int × Int × Int × Int × Int))) (mId, mN, mSet, mAcc, mFail, mStage, mFirst)) (
               .br (A.cmp .eql (A.call fn34 (mId, mN, mSet, mAcc, mFail, mStage, mFirst)) (A.call fn35 (mId, mN, mSet, mAcc, mFail, mStage, mFirst)))
                (.need (A.call (@tt ((Int × Int × Int × Int × Int × Int × Int))) (mId, mN, mSet, mAcc, mFail, mStage, mFirst)) (
                 .need (A.call (@tt ((Int × Int × Int × Int × Int × Int × Int))) (mId, mN, mSet, mAcc, mFail, mStage, mFirst)) (
                  .br (A.beq (A.call fn24 (mId, mN, mSet, mAcc, mFail, mStage, mFirst)) (A.call fn36 (mId, mN, mSet, mAcc, mFail, mStage, mFirst)))
                   (.need (A.call (@tt (List Int × List Int)) (([] : List Int), (A.call fn33 ((mId, mN, mSet, mAcc, mFail, mStage, mFirst), sender)))) (
                    .br (A.call fn37 (([] : List Int), (A.call fn33 ((mId, mN, mSet, mAcc, mFail, mStage, mFirst), sender))))
                     (.need (A.and (A.cmp .leq 0 0) (A.and (A.cmp .leq 0 (A.mn (A.len (A.call fn33 ((mId, mN, mSet, mAcc, mFail, mStage, mFirst), sender))) (A.conv .i64 most))) (A.cmp .leq (A.mn (A.len (A.call fn33 ((mId, mN, mSet, mAcc, mFail, mStage, mFirst), sender))) (A.conv .i64 most)) (A.len (A.call fn33 ((mId, mN, mSet, mAcc, mFail, mStage, mFirst), sender)))))) (
                      .need (A.call (@tt (List Int × List Int)) (([] : List Int), (A.sub (A.call fn33 ((mId, mN, mSet, mAcc, mFail, mStage, mFirst), sender)) 0 (A.mn (A.len (A.call fn33 ((mId, mN, mSet, mAcc, mFail, mStage, mFirst), sender))) (A.conv .i64 most))))) (
                       .ret (A.call fn37 (([] : List Int), (A.sub (A.call fn33 ((mId, mN, mSet, mAcc, mFail, mStage, mFirst), sender)) 0 (A.mn (A.len (A.call fn33 ((mId, mN, mSet, mAcc, mFail, mStage, mFirst), sender))) (A.conv .i64 most))))))))
                     (.ret false)))
                   (.ret false))))
                (.ret false))))
             (.ret false))
            (.ret false))
           (.ret false)))
         (.need (A.call (@tt ((Int × Int × Int × Int × Int × Int × Int) × Int)) ((mId, mN, mSet, mAcc, mFail, mStage, mFirst), sender)) (
          .br (A.not (A.call fn77 ((mId, mN, mSet, mAcc, mFail, mStage, mFirst), sender)))
           (.need (A.call (@tt Unit) ()) (
            .br (A.call fn22 ())
             (.br (A.and (A.cmp .eql (A.call fn21 (id, n, set1)).1.1 (A.call fn32 (id, n, set1)).1.1) (A.and (A.cmp .eql (A.call fn21 (id, n, set1)).1.2.1 (A.call fn32 (id, n, set1)).1.2.1) (A.and (A.cmp .eql (A.call fn21 (id, n, set1)).1.2.2.1 (A.call fn32 (id, n, set1)).1.2.2.1) (A.and (A.cmp .eql (A.call fn21 (id, n, set1)).1.2.2.2.1 (A.call fn32 (id, n, set1)).1.2.2.2.1) (A.and (A.cmp .eql (A.call fn21 (id, n, set1)).1.2.2.2.2.1 (A.call fn32 (id, n, set1)).1.2.2.2.2.1) (A.and (A.cmp .eql (A.call fn21 (id, n, set1)).1.2.2.2.2.2.1 (A.call fn32 (id, n, set1)).1.2.2.2.2.2.1) (A.and (A.cmp .eql (A.call fn21 (id, n, set1)).1.2.2.2.2.2.2 (A.call fn32 (id, n, set1)).1.2.2.2.2.2.2) true)))))))
              (.br (A.cmp .eql (A.call fn21 (id, n, set1)).2 (A.call fn32 (id, n, set1)).2)
               (.need (A.call (@tt ((Int × Int × Int × Int × Int × Int × Int))) (mId, mN, mSet, mAcc, mFail, mStage, mFirst)) (
                .need (A.call (@tt ((Int × Int × Int × Int × Int × Int × Int))) (mId, mN, mSet, mAcc, mFail, mStage, mFirst)) (
                 .br (A.cmp .eql (A.call fn34 (mId, mN, mSet, mAcc, mFail, mStage, mFirst)) (A.call fn35 (mId, mN, mSet, mAcc, mFail, mStage, mFirst)))
                  (.need (A.call (@tt ((Int × Int × Int × Int × Int × Int × Int))) (mId, mN, mSet, mAcc, mFail, mStage, mFirst)) (
                   .need (A.call (@tt ((Int × Int × Int × Int × Int × Int × Int))) (mId, mN, mSet, mAcc, mFail, mStage, mFirst)) (
                    .br (A.beq (A.call fn24 (mId, mN, mSet, mAcc, mFail, mStage, mFirst)) (A.call fn36 (mId, mN, mSet, mAcc, mFail, mStage, mFirst)))
                     (.need (A.call (@tt (List Int × List Int)) (([] : List Int), (A.call fn33 ((mId, mN, mSet, mAcc, mFail, mStage, mFirst), sender)))) (
                      .br (A.call fn37 (([] : List Int), (A.call fn33 ((mId, mN, mSet, mAcc, mFail, mStage, mFirst), sender))))
                       (.need (A.and (A.cmp .leq 0 0) (A.and (A.cmp .leq 0 (A.mn (A.len (A.call fn33 ((mId, mN, mSet, mAcc, mFail, mStage, mFirst), sender))) (A.conv .i64 most))) (A.cmp .leq (A.mn (A.len (A.call fn33 ((mId, mN, mSet, mAcc, mFail, mStage, mFirst), sender))) (A.conv .i64 most)) (A.len (A.call fn33 ((mId, mN, mSet, mAcc, mFail, mStage, mFirst), sender)))))) (
                        .need (A.call (@tt (List Int × List Int)) (([] : List Int), (A.sub (A.call fn33 ((mId, mN, mSet, mAcc, mFail, mStage, mFirst), sender)) 0 (A.mn (A.len (A.call fn33 ((mId, mN, mSet, mAcc, mFail, mStage, mFirst), sender))) (A.conv .i64 most))))) (
                         .ret (A.call fn37 (([] : List Int), (A.sub (A.call fn33 ((mId, mN, mSet, mAcc, mFail, mStage, mFirst), sender)) 0 (A.mn (A.len (A.call fn33 ((mId, mN, mSet, mAcc, mFail, mStage, mFirst), sender))) (A.conv .i64 most))))))))
                       (.ret false)))
                     (.ret false))))
                  (.ret false))))
               (.ret false))
              (.ret false))
             (.ret false)))
           (.need (A.call pre78 ((mId, mN, mSet, mAcc, mFail, mStage, mFirst), sender)) (
            .need (A.and (A.cmp .leq 0 0) (A.and (A.cmp .leq 0 (A.call fn78 ((mId, mN, mSet, mAcc, mFail, mStage, mFirst), sender)).2) (A.cmp .leq (A.call fn78 ((mId, mN, mSet, mAcc, mFail, mStage, mFirst), sender)).2 2))) (
             .more (.c0 ⟨(A.bin .add .i64 0 0), (A.bin .sub .i64 (A.call fn78 ((mId, mN, mSet, mAcc, mFail, mStage, mFirst), sender)).2 0), (A.bin .sub .i64 (A.call fn78 ((mId, mN, mSet, mAcc, mFail, mStage, mFirst), sender)).2 0), 0, sender, most, (A.call fn21 (id, n, set1)).2, (A.call fn32 (id, n, set1)).2, (A.call fn33 ((mId, mN, mSet, mAcc, mFail, mStage, mFirst), sender)), true, (A.conv .i64 most), false, (A.nth (.int .i64) (A.call fn78 ((mId, mN, mSet, mAcc, mFail, mStage, mFirst), sender)).1 0 : Int), (A.nth (.int .i64) (A.call fn78 ((mId, mN, mSet, mAcc, mFail, mStage, mFirst), sender)).1 1 : Int), false, mId, mN, mSet, mAcc, mFail, mStage, mFirst, (A.call fn21 (id, n, set1)).1.1, (A.call fn21 (id, n, set1)).1.2.1, (A.call fn21 (id, n, set1)).1.2.2.1, (A.call fn21 (id, n, set1)).1.2.2.2.1, (A.call fn21 (id, n, set1)).1.2.2.2.2.1, (A.call fn21 (id, n, set1)).1.2.2.2.2.2.1, (A.call fn21 (id, n, set1)).1.2.2.2.2.2.2, (A.call fn32 (id, n, set1)).1.1, (A.call fn32 (id, n, set1)).1.2.1, (A.call fn32 (id, n, set1)).1.2.2.1, (A.call fn32 (id, n, set1)).1.2.2.2.1, (A.call fn32 (id, n, set1)).1.2.2.2.2.1, (A.call fn32 (id, n, set1)).1.2.2.2.2.2.1, (A.call fn32 (id, n, set1)).1.2.2.2.2.2.2, mId, mN, mSet, mAcc, mFail, mStage, mFirst, sender, (A.conv .i64 most)⟩))))))))
       (.need (A.call pre78 ((mId, mN, mSet, mAcc, mFail, mStage, mFirst), sender)) (
        .need (A.and (A.cmp .leq 0 0) (A.and (A.cmp .leq 0 (A.call fn78 ((mId, mN, mSet, mAcc, mFail, mStage, mFirst), sender)).2) (A.cmp .leq (A.call fn78 ((mId, mN, mSet, mAcc, mFail, mStage, mFirst), sender)).2 2))) (
         .more (.c1 ⟨(A.bin .add .i64 0 0), (A.bin .sub .i64 (A.call fn78 ((mId, mN, mSet, mAcc, mFail, mStage, mFirst), sender)).2 0), (A.bin .sub .i64 (A.call fn78 ((mId, mN, mSet, mAcc, mFail, mStage, mFirst), sender)).2 0), 0, sender, most, (A.call fn21 (id, n, set1)).2, (A.call fn32 (id, n, set1)).2, (A.call fn33 ((mId, mN, mSet, mAcc, mFail, mStage, mFirst), sender)), 9, false, (A.nth (.int .i64) (A.call fn78 ((mId, mN, mSet, mAcc, mFail, mStage, mFirst), sender)).1 0 : Int), (A.nth (.int .i64) (A.call fn78 ((mId, mN, mSet, mAcc, mFail, mStage, mFirst), sender)).1 1 : Int), false, mId, mN, mSet, mAcc, mFail, mStage, mFirst, (A.call fn21 (id, n, set1)).1.1, (A.call fn21 (id, n, set1)).1.2.1, (A.call fn21 (id, n, set1)).1.2.2.1, (A.call fn21 (id, n, set1)).1.2.2.2.1, (A.call fn21 (id, n, set1)).1.2.2.2.2.1, (A.call fn21 (id, n, set1)).1.2.2.2.2.2.1, (A.call fn21 (id, n, set1)).1.2.2.2.2.2.2, (A.call fn32 (id, n, set1)).1.1, (A.call fn32 (id, n, set1)).1.2.1, (A.call fn32 (id, n, set1)).1.2.2.1, (A.call fn32 (id, n, set1)).1.2.2.2.1, (A.call fn32 (id, n, set1)).1.2.2.2.2.1, (A.call fn32 (id, n, set1)).1.2.2.2.2.2.1, (A.call fn32 (id, n, set1)).1.2.2.2.2.2.2, mId, mN, mSet, mAcc, mFail, mStage, mFirst, sender, 9⟩))))))))))
def s6 (A : Alg) : Y6 → LT Bool Y6
  | .c0 p =>
    .br (A.cmp .lss p.a3 p.a2)
    (.need (A.and (A.cmp .leq 0 p.a3) (A.cmp .lss p.a3 p.a1)) (
     .br (A.cmp .geq 0 p.a44)
      (.need (A.call (@tt Unit) ()) (
       .br (A.call fn22 ())
        (.br (A.and (A.cmp .eql p.a22 p.a29) (A.and (A.cmp .eql p.a23 p.a30) (A.and (A.cmp .eql p.a24 p.a31) (A.and (A.cmp .eql p.a25 p.a32) (A.and (A.cmp .eql p.a26 p.a33) (A.and (A.cmp .eql p.a27 p.a34) (A.and (A.cmp .eql p.a28 p.a35) true)))))))
         (.br (A.cmp .eql p.a6 p.a7)
          (.need (A.call (@tt ((Int × Int × Int × Int × Int × Int × Int))) (p.a15, p.a16, p.a17, p.a18, p.a19, p.a20, p.a21)) (
           .need (A.call (@tt ((Int × Int × Int × Int × Int × Int × Int))) (p.a15, p.a16, p.a17, p.a18, p.a19, p.a20, p.a21)) (
            .br (A.cmp .eql (A.call fn34 (p.a15, p.a16, p.a17, p.a18, p.a19, p.a20, p.a21)) (A.call fn35 (p.a15, p.a16, p.a17, p.a18, p.a19, p.a20, p.a21)))
             (.need (A.call (@tt ((Int × Int × Int × Int × Int × Int × Int))) (p.a15, p.a16, p.a17, p.a18, p.a19, p.a20, p.a21)) (
              .need (A.call (@tt ((Int × Int × Int × Int × Int × Int × Int))) (p.a15, p.a16, p.a17, p.a18, p.a19, p.a20, p.a21)) (
               .br (A.beq (A.call fn24 (p.a15, p.a16, p.a17, p.a18, p.a19, p.a20, p.a21)) (A.call fn36 (p.a15, p.a16, p.a17, p.a18, p.a19, p.a20, p.a21)))
                (.br p.a9
                 (.need (A.call (@tt (List Int × List Int)) (([] : List Int), p.a8)) (
                  .br (A.call fn37 (([] : List Int), p.a8))
                   (.need (A.and (A.cmp .leq 0 0) (A.and (A.cmp .leq 0 (A.mn (A.len p.a8) (A.conv .i64 p.a5))) (A.cmp .leq (A.mn (A.len p.a8) (A.conv .i64 p.a5)) (A.len p.a8)))) (
                    .need (A.call (@tt (List Int × List Int)) (([] : List Int), (A.sub p.a8 0 (A.mn (A.len p.a8) (A.conv .i64 p.a5))))) (
                     .ret (A.call fn37 (([] : List Int), (A.sub p.a8 0 (A.mn (A.len p.a8) (A.conv .i64 p.a5))))))))
                   (.ret false)))
                 (.ret false))
                (.ret false))))
             (.ret false))))
          (.ret false))
         (.ret false))
        (.ret false)))
      (.br (A.cmp .neq p.a3 0)
       (.need (A.call (@tt Unit) ()) (
        .br (A.call fn22 ())
         (.br (A.and (A.cmp .eql p.a22 p.a29) (A.and (A.cmp .eql p.a23 p.a30) (A.and (A.cmp .eql p.a24 p.a31) (A.and (A.cmp .eql p.a25 p.a32) (A.and (A.cmp .eql p.a26 p.a33) (A.and (A.cmp .eql p.a27 p.a34) (A.and (A.cmp .eql p.a28 p.a35) true)))))))
          (.br (A.cmp .eql p.a6 p.a7)
           (.need (A.call (@tt ((Int × Int × Int × Int × Int × Int × Int))) (p.a15, p.a16, p.a17, p.a18, p.a19, p.a20, p.a21)) (
            .need (A.call (@tt ((Int × Int × Int × Int × Int × Int × Int))) (p.a15, p.a16, p.a17, p.a18, p.a19, p.a20, p.a21)) (
             .br (A.cmp .eql (A.call fn34 (p.a15, p.a16, p.a17, p.a18, p.a19, p.a20, p.a21)) (A.call fn35 (p.a15, p.a16, p.a17, p.a18, p.a19, p.a20, p.a21)))
              (.need (A.call (@tt ((Int × Int × Int × Int × Int × Int × Int))) (p.a15, p.a16, p.a17, p.a18, p.a19, p.a20, p.a21)) (
               .need (A.call (@tt ((Int × Int × Int × Int × Int × Int × Int))) (p.a15, p.a16, p.a17, p.a18, p.a19, p.a20, p.a21)) (
                .br (A.beq (A.call fn24 (p.a15, p.a16, p.a17, p.a18, p.a19, p.a20, p.a21)) (A.call fn36 (p.a15, p.a16, p.a17, p.a18, p.a19, p.a20, p.a21)))
                 (.br p.a9
                  (.ret false)
                  (.ret false))
                 (.ret false))))
              (.ret false))))
           (.ret false))
          (.ret false))
         (.ret false)))
       (.need (A.cmp .leq (A.len [(A.nth (.int .i64) [p.a12, p.a13] (A.bin .add .i64 p.a0 p.a3) : Int)]) 15637498706147) (
        .more (.c2 ⟨p.a0, p.a1, p.a2, p.a4, p.a5, p.a6, p.a7, p.a8, p.a9, p.a10, p.a11, p.a12, p.a13, p.a14, p.a15, p.a16, p.a17, p.a18, p.a19, p.a20, p.a21, p.a22, p.a23, p.a24, p.a25, p.a26, p.a27, p.a28, p.a29, p.a30, p.a31, p.a32, p.a33, p.a34, p.a35, p.a36, p.a37, p.a38, p.a39, p.a40, p.a41, p.a42, p.a43, p.a44⟩ (A.bin .add .i64 p.a3 1) [(A.nth (.int .i64) [p.a12, p.a13] (A.bin .add .i64 p.a0 p.a3) : Int)]))))))
    (.need (A.call (@tt Unit) ()) (
     .br (A.call fn22 ())
      (.br (A.and (A.cmp .eql p.a22 p.a29) (A.and (A.cmp .eql p.a23 p.a30) (A.and (A.cmp .eql p.a24 p.a31) (A.and (A.cmp .eql p.a25 p.a32) (A.and (A.cmp .eql p.a26 p.a33) (A.and (A.cmp .eql p.a27 p.a34) (A.and (A.cmp .eql p.a28 p.a35) true)))))))
       (.br (A.cmp .eql p.a6 p.a7)
        (.need (A.call (@tt ((Int × Int × Int × Int × Int × Int × Int))) (p.a15, p.a16, p.a17, p.a18, p.a19, p.a20, p.a21)) (
         .need (A.call (@tt ((Int × Int × Int × Int × Int × Int × Int))) (p.a15, p.a16, p.a17, p.a18, p.a19, p.a20, p.a21)) (
          .br (A.cmp .eql (A.call fn34 (p.a15, p.a16, p.a17, p.a18, p.a19, p.a20, p.a21)) (A.call fn35 (p.a15, p.a16, p.a17, p.a18, p.a19, p.a20, p.a21)))
           (.need (A.call (@tt ((Int × Int × Int × Int × Int × Int × Int))) (p.a15, p.a16, p.a17, p.a18, p.a19, p.a20, p.a21)) (
            .need (A.call (@tt ((Int × Int × Int × Int × Int × Int × Int))) (p.a15, p.a16, p.a17, p.a18, p.a19, p.a20, p.a21)) (
             .br (A.beq (A.call fn24 (p.a15, p.a16, p.a17, p.a18, p.a19, p.a20, p.a21)) (A.call fn36 (p.a15, p.a16, p.a17, p.a18, p.a19, p.a20, p.a21)))
              (.br p.a9
               (.need (A.call (@tt (List Int × List Int)) (([] : List Int), p.a8)) (
                .br (A.call fn37 (([] : List Int), p.a8))
                 (.need (A.and (A.cmp .leq 0 0) (A.and (A.cmp .leq 0 (A.mn (A.len p.a8) (A.conv .i64 p.a5))) (A.cmp .leq (A.mn (A.len p.a8) (A.conv .i64 p.a5)) (A.len p.a8)))) (
                  .need (A.call (@tt (List Int × List Int)) (([] : List Int), (A.sub p.a8 0 (A.mn (A.len p.a8) (A.conv .i64 p.a5))))) (
                   .ret (A.call fn37 (([] : List Int), (A.sub p.a8 0 (A.mn (A.len p.a8) (A.conv .i64 p.a5))))))))
                 (.ret false)))
               (.ret false))
              (.ret false))))
           (.ret false))))
        (.ret false))
       (.ret false))
      (.ret false)))
  | .c1 p =>
    .br (A.cmp .lss p.b3 p.b2)
    (.need (A.and (A.cmp .leq 0 p.b3) (A.cmp .lss p.b3 p.b1)) (
     .br (A.cmp .geq 0 p.b43)
      (.need (A.call (@tt ((Int × Int × Int × Int × Int × Int × Int))) (p.b14, p.b15, p.b16, p.b17, p.b18, p.b19, p.b20)) (
       .br (A.cmp .neq (A.call fn34 (p.b14, p.b15, p.b16, p.b17, p.b18, p.b19, p.b20)) 0)
        (.need (A.call (@tt Unit) ()) (
         .br (A.call fn22 ())
          (.br (A.and (A.cmp .eql p.b21 p.b28) (A.and (A.cmp .eql p.b22 p.b29) (A.and (A.cmp .eql p.b23 p.b30) (A.and (A.cmp .eql p.b24 p.b31) (A.and (A.cmp .eql p.b25 p.b32) (A.and (A.cmp .eql p.b26 p.b33) (A.and (A.cmp .eql p.b27 p.b34) true)))))))
           (.br (A.cmp .eql p.b6 p.b7)
            (.need (A.call (@tt ((Int × Int × Int × Int × Int × Int × Int))) (p.b14, p.b15, p.b16, p.b17, p.b18, p.b19, p.b20)) (
             .need (A.call (@tt ((Int × Int × Int × Int × Int × Int × Int))) (p.b14, p.b15, p.b16, p.b17, p.b18, p.b19, p.b20)) (
              .br (A.cmp .eql (A.call fn34 (p.b14, p.b15, p.b16, p.b17, p.b18, p.b19, p.b20)) (A.call fn35 (p.b14, p.b15, p.b16, p.b17, p.b18, p.b19, p.b20)))
               (.need (A.call (@tt ((Int × Int × Int × Int × Int × Int × Int))) (p.b14, p.b15, p.b16, p.b17, p.b18, p.b19, p.b20)) (
                .need (A.call (@tt ((Int × Int × Int × Int × Int × Int × Int))) (p.b14, p.b15, p.b16, p.b17, p.b18, p.b19, p.b20)) (
                 .br (A.beq (A.call fn24 (p.b14, p.b15, p.b16, p.b17, p.b18, p.b19, p.b20)) (A.call fn36 (p.b14, p.b15, p.b16, p.b17, p.b18, p.b19, p.b20)))
                  (.need (A.call (@tt (List Int × List Int)) (([] : List Int), p.b8)) (
                   .br (A.call fn37 (([] : List Int), p.b8))
                    (.need (A.and (A.cmp .leq 0 0) (A.and (A.cmp .leq 0 (A.mn (A.len p.b8) (A.conv .i64 p.b5))) (A.cmp .leq (A.mn (A.len p.b8) (A.conv .i64 p.b5)) (A.len p.b8)))) (
                     .need (A.call (@tt (List Int × List Int)) (([] : List Int), (A.sub p.b8 0 (A.mn (A.len p.b8) (A.conv .i64 p.b5))))) (
                      .ret (A.call fn37 (([] : List Int), (A.sub p.b8 0 (A.mn (A.len p.b8) (A.conv .i64 p.b5))))))))
                    (.ret false)))
                  (.ret false))))
               (.ret false))))
            (.ret false))
           (.ret false))
          (.ret false)))
        (.need (A.call (@tt ((Int × Int × Int × Int × Int × Int × Int) × Int)) ((p.b14, p.b15, p.b16, p.b17, p.b18, p.b19, p.b20), p.b4)) (
         .br (A.not (A.call fn77 ((p.b14, p.b15, p.b16, p.b17, p.b18, p.b19, p.b20), p.b4)))
          (.need (A.call (@tt Unit) ()) (
           .br (A.call fn22 ())
            (.br (A.and (A.cmp .eql p.b21 p.b28) (A.and (A.cmp .eql p.b22 p.b29) (A.and (A.cmp .eql p.b23 p.b30) (A.and (A.cmp .eql p.b24 p.b31) (A.and (A.cmp .eql p.b25 p.b32) (A.and (A.cmp .eql p.b26 p.b33) (A.and (A.cmp .eql p.b27 p.b34) true)))))))
             (.br (A.cmp .eql p.b6 p.b7)
              (.need (A.call (@tt ((Int × Int × Int × Int × Int × Int × Int))) (p.b14, p.b15, p.b16, p.b17, p.b18, p.b19, p.b20)) (
               .need (A.call (@tt ((Int × Int × Int × Int × Int × Int × Int))) (p.b14, p.b15, p.b16, p.b17, p.b18, p.b19, p.b20)) (
                .br (A.cmp .eql (A.call fn34 (p.b14, p.b15, p.b16, p.b17, p.b18, p.b19, p.b20)) (A.call fn35 (p.b14, p.b15, p.b16, p.b17, p.b18, p.b19, p.b20)))
                 (.need (A.call (@tt ((Int × Int × Int × Int × Int × Int × Int))) (p.b14, p.b15, p.b16, p.b17, p.b18, p.b19, p.b20)) (
                  .need (A.call (@tt ((Int × Int × Int × Int × Int × Int × Int))) (p.b14, p.b15, p.b16, p.b17, p.b18, p.b19, p.b20)) (
                   .br (A.beq (A.call fn24 (p.b14, p.b15, p.b16, p.b17, p.b18, p.b19, p.b20)) (A.call fn36 (p.b14, p.b15, p.b16, p.b17, p.b18, p.b19, p.b20)))
                    (.need (A.call (@tt (List Int × List Int)) (([] : List Int), p.b8)) (
                     .br (A.call fn37 (([] : List Int), p.b8))
                      (.need (A.and (A.cmp .leq 0 0) (A.and (A.cmp .leq 0 (A.mn (A.len p.b8) (A.conv .i64 p.b5))) (A.cmp .leq (A.mn (A.len p.b8) (A.conv .i64 p.b5)) (A.len p.b8)))) (
                       .need (A.call (@tt (List Int × List Int)) (([] : List Int), (A.sub p.b8 0 (A.mn (A.len p.b8) (A.conv .i64 p.b5))))) (
                        .ret (A.call fn37 (([] : List Int), (A.sub p.b8 0 (A.mn (A.len p.b8) (A.conv .i64 p.b5))))))))
                      (.ret false)))
                    (.ret false))))
                 (.ret false))))
              (.ret false))
             (.ret false))
            (.ret false)))
          (.need (A.call pre78 ((p.b14, p.b15, p.b16, p.b17, p.b18, p.b19, p.b20), p.b4)) (
           .need (A.and (A.cmp .leq 0 0) (A.and (A.cmp .leq 0 (A.call fn78 ((p.b14, p.b15, p.b16, p.b17, p.b18, p.b19, p.b20), p.b4)).2) (A.cmp .leq (A.call fn78 ((p.b14, p.b15, p.b16, p.b17, p.b18, p.b19, p.b20), p.b4)).2 2))) (
            .more (.c0 ⟨(A.bin .add .i64 0 0), (A.bin .sub .i64 (A.call fn78 ((p.b14, p.b15, p.b16, p.b17, p.b18, p.b19, p.b20), p.b4)).2 0), (A.bin .sub .i64 (A.call fn78 ((p.b14, p.b15, p.b16, p.b17, p.b18, p.b19, p.b20), p.b4)).2 0), 0, p.b4, p.b5, p.b6, p.b7, p.b8, true, (A.conv .i64 p.b5), false, (A.nth (.int .i64) (A.call fn78 ((p.b14, p.b15, p.b16, p.b17, p.b18, p.b19, p.b20), p.b4)).1 0 : Int), (A.nth (.int .i64) (A.call fn78 ((p.b14, p.b15, p.b16, p.b17, p.b18, p.b19, p.b20), p.b4)).1 1 : Int), false, p.b14, p.b15, p.b16, p.b17, p.b18, p.b19, p.b20, p.b21, p.b22, p.b23, p.b24, p.b25, p.b26, p.b27, p.b28, p.b29, p.b30, p.b31, p.b32, p.b33, p.b34, p.b14, p.b15, p.b16, p.b17, p.b18, p.b19, p.b20, p.b4, (A.conv .i64 p.b5)⟩))))))))
      (.br (A.cmp .neq p.b3 0)
       (.need (A.call (@tt ((Int × Int × Int × Int × Int × Int × Int))) (p.b14, p.b15, p.b16, p.b17, p.b18, p.b19, p.b20)) (
        .br (A.cmp .neq (A.call fn34 (p.b14, p.b15, p.b16, p.b17, p.b18, p.b19, p.b20)) 0)
         (.need (A.call (@tt Unit) ()) (
          .br (A.call fn22 ())
           (.br (A.and (A.cmp .eql p.b21 p.b28) (A.and (A.cmp .eql p.b22 p.b29) (A.and (A.cmp .eql p.b23 p.b30) (A.and (A.cmp .eql p.b24 p.b31) (A.and (A.cmp .eql p.b25 p.b32) (A.and (A.cmp .eql p.b26 p.b33) (A.and (A.cmp .eql p.b27 p.b34) true)))))))
            (.br (A.cmp .eql p.b6 p.b7)
             (.need (A.call (@tt ((Int × Int × Int × Int × Int × Int × Int))) (p.b14, p.b15, p.b16, p.b17, p.b18, p.b19, p.b20)) (
              .need (A.call (@tt ((Int × Int × Int × Int × Int × Int × Int))) (p.b14, p.b15, p.b16, p.b17, p.b18, p.b19, p.b20)) (
               .br (A.cmp .eql (A.call fn34 (p.b14, p.b15, p.b16, p.b17, p.b18, p.b19, p.b20)) (A.call fn35 (p.b14, p.b15, p.b16, p.b17, p.b18, p.b19, p.b20)))
                (.need (A.call (@tt ((Int × Int × Int × Int × Int × Int × Int))) (p.b14, p.b15, p.b16, p.b17, p.b18, p.b19, p.b20)) (
                 .need (A.call (@tt ((Int × Int × Int × Int × Int × Int × Int))) (p.b14, p.b15, p.b16, p.b17, p.b18, p.b19, p.b20)) (
                  .br (A.beq (A.call fn24 (p.b14, p.b15, p.b16, p.b17, p.b18, p.b19, p.b20)) (A.call fn36 (p.b14, p.b15, p.b16, p.b17, p.b18, p.b19, p.b20)))
                   (.ret false)
                   (.ret false))))
                (.ret false))))
             (.ret false))
            (.ret false))
           (.ret false)))
         (.need (A.call (@tt ((Int × Int × Int × Int × Int × Int × Int) × Int)) ((p.b14, p.b15, p.b16, p.b17, p.b18, p.b19, p.b20), p.b4)) (
          .br (A.not (A.call fn77 ((p.b14, p.b15, p.b16, p.b17, p.b18, p.b19, p.b20), p.b4)))
           (.need (A.call (@tt Unit) ()) (
            .br (A.call fn22 ())
             (.br (A.and (A.cmp .eql p.b21 p.b28) (A.and (A.cmp .eql p.b22 p.b29) (A.and (A.cmp .eql p.b23 p.b30) (A.and (A.cmp .eql p.b24 p.b31) (A.and (A.cmp .eql p.b25 p.b32) (A.and (A.cmp .eql p.b26 p.b33) (A.and (A.cmp .eql p.b27 p.b34) true)))))))
              (.br (A.cmp .eql p.b6 p.b7)
               (.need (A.call (@tt ((Int × Int × Int × Int × Int × Int × Int))) (p.b14, p.b15, p.b16, p.b17, p.b18, p.b19, p.b20)) (
                .need (A.call (@tt ((Int × Int × Int × Int × Int × Int × Int))) (p.b14, p.b15, p.b16, p.b17, p.b18, p.b19, p.b20)) (
                 .br (A.cmp .eql (A.call fn34 (p.b14, p.b15, p.b16, p.b17, p.b18, p.b19, p.b20)) (A.call fn35 (p.b14, p.b15, p.b16, p.b17, p.b18, p.b19, p.b20)))
                  (.need (A.call (@tt ((Int × Int × Int × Int × Int × Int × Int))) (p.b14, p.b15, p.b16, p.b17, p.b18, p.b19, p.b20)) (
                   .need (A.call (@tt ((Int × Int × Int × Int × Int × Int × Int))) (p.b14, p.b15, p.b16, p.b17, p.b18, p.b19, p.b20)) (
                    .br (A.beq (A.call fn24 (p.b14, p.b15, p.b16, p.b17, p.b18, p.b19, p.b20)) (A.call fn36 (p.b14, p.b15, p.b16, p.b17, p.b18, p.b19, p.b20)))
                     (.ret false)
                     (.ret false))))
                  (.ret false))))
               (.ret false))
              (.ret false))
             (.ret false)))
           (.need (A.call pre78 ((p.b14, p.b15, p.b16, p.b17, p.b18, p.b19, p.b20), p.b4)) (
            .need (A.and (A.cmp .leq 0 0) (A.and (A.cmp .leq 0 (A.call fn78 ((p.b14, p.b15, p.b16, p.b17, p.b18, p.b19, p.b20), p.b4)).2) (A.cmp .leq (A.call fn78 ((p.b14, p.b15, p.b16, p.b17, p.b18, p.b19, p.b20), p.b4)).2 2))) (
             .more (.c0 ⟨(A.bin .add .i64 0 0), (A.bin .sub .i64 (A.call fn78 ((p.b14, p.b15, p.b16, p.b17, p.b18, p.b19, p.b20), p.b4)).2 0), (A.bin .sub .i64 (A.call fn78 ((p.b14, p.b15, p.b16, p.b17, p.b18, p.b19, p.b20), p.b4)).2 0), 0, p.b4, p.b5, p.b6, p.b7, p.b8, false, (A.conv .i64 p.b5), false, (A.nth (.int .i64) (A.call fn78 ((p.b14, p.b15, p.b16, p.b17, p.b18, p.b19, p.b20), p.b4)).1 0 : Int), (A.nth (.int .i64) (A.call fn78 ((p.b14, p.b15, p.b16, p.b17, p.b18, p.b19, p.b20), p.b4)).1 1 : Int), false, p.b14, p.b15, p.b16, p.b17, p.b18, p.b19, p.b20, p.b21, p.b22, p.b23, p.b24, p.b25, p.b26, p.b27, p.b28, p.b29, p.b30, p.b31, p.b32, p.b33, p.b34, p.b14, p.b15, p.b16, p.b17, p.b18, p.b19, p.b20, p.b4, (A.conv .i64 p.b5)⟩))))))))
       (.need (A.cmp .leq (A.len [(A.nth (.int .i64) [p.b11, p.b12] (A.bin .add .i64 p.b0 p.b3) : Int)]) 15637498706147) (
        .more (.c3 ⟨p.b0, p.b1, p.b2, p.b4, p.b5, p.b6, p.b7, p.b8, p.b9, p.b10, p.b11, p.b12, p.b13, p.b14, p.b15, p.b16, p.b17, p.b18, p.b19, p.b20, p.b21, p.b22, p.b23, p.b24, p.b25, p.b26, p.b27, p.b28, p.b29, p.b30, p.b31, p.b32, p.b33, p.b34, p.b35, p.b36, p.b37, p.b38, p.b39, p.b40, p.b41, p.b42, p.b43⟩ (A.bin .add .i64 p.b3 1) [(A.nth (.int .i64) [p.b11, p.b12] (A.bin .add .i64 p.b0 p.b3) : Int)]))))))
    (.need (A.call (@tt ((Int × Int × Int × Int × Int × Int × Int))) (p.b14, p.b15, p.b16, p.b17, p.b18, p.b19, p.b20)) (
     .br (A.cmp .neq (A.call fn34 (p.b14, p.b15, p.b16, p.b17, p.b18, p.b19, p.b20)) 0)
      (.need (A.call (@tt Unit) ()) (
       .br (A.call fn22 ())
        (.br (A.and (A.cmp .eql p.b21 p.b28) (A.and (A.cmp .eql p.b22 p.b29) (A.and (A.cmp .eql p.b23 p.b30) (A.and (A.cmp .eql p.b24 p.b31) (A.and (A.cmp .eql p.b25 p.b32) (A.and (A.cmp .eql p.b26 p.b33) (A.and (A.cmp .eql p.b27 p.b34) true)))))))
         (.br (A.cmp .eql p.b6 p.b7)
          (.need (A.call (@tt ((Int × Int × Int × Int × Int × Int × Int))) (p.b14, p.b15, p.b16, p.b17, p.b18, p.b19, p.b20)) (
           .need (A.call (@tt ((Int × Int × Int × Int × Int × Int × Int))) (p.b14, p.b15, p.b16, p.b17, p.b18, p.b19, p.b20)) (
            .br (A.cmp .eql (A.call fn34 (p.b14, p.b15, p.b16, p.b17, p.b18, p.b19, p.b20)) (A.call fn35 (p.b14, p.b15, p.b16, p.b17, p.b18, p.b19, p.b20)))
             (.need (A.call (@tt ((Int × Int × Int × Int × Int × Int × Int))) (p.b14, p.b15, p.b16, p.b17, p.b18, p.b19, p.b20)) (
              .need (A.call (@tt ((Int × Int × Int × Int × Int × Int × Int))) (p.b14, p.b15, p.b16, p.b17, p.b18, p.b19, p.b20)) (
               .br (A.beq (A.call fn24 (p.b14, p.b15, p.b16, p.b17, p.b18, p.b19, p.b20)) (A.call fn36 (p.b14, p.b15, p.b16, p.b17, p.b18, p.b19, p.b20)))
                (.need (A.call (@tt (List Int × List Int)) (([] : List Int), p.b8)) (
                 .br (A.call fn37 (([] : List Int), p.b8))
                  (.need (A.and (A.cmp .leq 0 0) (A.and (A.cmp .leq 0 (A.mn (A.len p.b8) (A.conv .i64 p.b5))) (A.cmp .leq (A.mn (A.len p.b8) (A.conv .i64 p.b5)) (A.len p.b8)))) (
                   .need (A.call (@tt (List Int × List Int)) (([] : List Int), (A.sub p.b8 0 (A.mn (A.len p.b8) (A.conv .i64 p.b5))))) (
                    .ret (A.call fn37 (([] : List Int), (A.sub p.b8 0 (A.mn (A.len p.b8) (A.conv .i64 p.b5))))))))
                  (.ret false)))
                (.ret false))))
             (.ret false))))
          (.ret false))
         (.ret false))
        (.ret false)))
      (.need (A.call (@tt ((Int × Int × Int × Int × Int × Int × Int) × Int)) ((p.b14, p.b15, p.b16, p.b17, p.b18, p.b19, p.b20), p.b4)) (
       .br (A.not (A.call fn77 ((p.b14, p.b15, p.b16, p.b17, p.b18, p.b19, p.b20), p.b4)))
        (.need (A.call (@tt Unit) ()) (
         .br (A.call fn22 ())
          (.br (A.and (A.cmp .eql p.b21 p.b28) (A.and (A.cmp .eql p.b22 p.b29) (A.and (A.cmp .eql p.b23 p.b30) (A.and (A.cmp .eql p.b24 p.b31) (A.and (A.cmp .eql p.b25 p.b32) (A.and (A.cmp .eql p.b26 p.b33) (A.and (A.cmp .eql p.b27 p.b34) true)))))))
           (.br (A.cmp .eql p.b6 p.b7)
            (.need (A.call (@tt ((Int × Int × Int × Int × Int × Int × Int))) (p.b14, p.b15, p.b16, p.b17, p.b18, p.b19, p.b20)) (
             .need (A.call (@tt ((Int × Int × Int × Int × Int × Int × Int))) (p.b14, p.b15, p.b16, p.b17, p.b18, p.b19, p.b20)) (
              .br (A.cmp .eql (A.call fn34 (p.b14, p.b15, p.b16, p.b17, p.b18, p.b19, p.b20)) (A.call fn35 (p.b14, p.b15, p.b16, p.b17, p.b18, p.b19, p.b20)))
               (.need (A.call (@tt ((Int × Int × Int × Int × Int × Int × Int))) (p.b14, p.b15, p.b16, p.b17, p.b18, p.b19, p.b20)) (
                .need (A.call (@tt ((Int × Int × Int × Int × Int × Int × Int))) (p.b14, p.b15, p.b16, p.b17, p.b18, p.b19, p.b20)) (
                 .br (A.beq (A.call fn24 (p.b14, p.b15, p.b16, p.b17, p.b18, p.b19, p.b20)) (A.call fn36 (p.b14, p.b15, p.b16, p.b17, p.b18, p.b19, p.b20)))
                  (.need (A.call (@tt (List Int × List Int)) (([] : List Int), p.b8)) (
                   .br (A.call fn37 (([] : List Int), p.b8))
                    (.need (A.and (A.cmp .leq 0 0) (A.and (A.cmp .leq 0 (A.mn (A.len p.b8) (A.conv .i64 p.b5))) (A.cmp .leq (A.mn (A.len p.b8) (A.conv .i64 p.b5)) (A.len p.b8)))) (
                     .need (A.call (@tt (List Int × List Int)) (([] : List Int), (A.sub p.b8 0 (A.mn (A.len p.b8) (A.conv .i64 p.b5))))) (
                      .ret (A.call fn37 (([] : List Int), (A.sub p.b8 0 (A.mn (A.len p.b8) (A.conv .i64 p.b5))))))))
                    (.ret false)))
                  (.ret false))))
               (.ret false))))
            (.ret false))
           (.ret false))
          (.ret false)))
        (.need (A.call pre78 ((p.b14, p.b15, p.b16, p.b17, p.b18, p.b19, p.b20), p.b4)) (
         .need (A.and (A.cmp .leq 0 0) (A.and (A.cmp .leq 0 (A.call fn78 ((p.b14, p.b15, p.b16, p.b17, p.b18, p.b19, p.b20), p.b4)).2) (A.cmp .leq (A.call fn78 ((p.b14, p.b15, p.b16, p.b17, p.b18, p.b19, p.b20), p.b4)).2 2))) (
          .more (.c0 ⟨(A.bin .add .i64 0 0), (A.bin .sub .i64 (A.call fn78 ((p.b14, p.b15, p.b16, p.b17, p.b18, p.b19, p.b20), p.b4)).2 0), (A.bin .sub .i64 (A.call fn78 ((p.b14, p.b15, p.b16, p.b17, p.b18, p.b19, p.b20), p.b4)).2 0), 0, p.b4, p.b5, p.b6, p.b7, p.b8, true, (A.conv .i64 p.b5), false, (A.nth (.int .i64) (A.call fn78 ((p.b14, p.b15, p.b16, p.b17, p.b18, p.b19, p.b20), p.b4)).1 0 : Int), (A.nth (.int .i64) (A.call fn78 ((p.b14, p.b15, p.b16, p.b17, p.b18, p.b19, p.b20), p.b4)).1 1 : Int), false, p.b14, p.b15, p.b16, p.b17, p.b18, p.b19, p.b20, p.b21, p.b22, p.b23, p.b24, p.b25, p.b26, p.b27, p.b28, p.b29, p.b30, p.b31, p.b32, p.b33, p.b34, p.b14, p.b15, p.b16, p.b17, p.b18, p.b19, p.b20, p.b4, (A.conv .i64 p.b5)⟩))))))))
  | .c2 p c3 c45 =>
    .br (A.cmp .lss c3 p.c2)
    (.need (A.and (A.cmp .leq 0 c3) (A.cmp .lss c3 p.c1)) (
     .br (A.cmp .geq (A.len c45) p.c44)
      (.need (A.call (@tt Unit) ()) (
       .br (A.call fn22 ())
        (.br (A.and (A.cmp .eql p.c22 p.c29) (A.and (A.cmp .eql p.c23 p.c30) (A.and (A.cmp .eql p.c24 p.c31) (A.and (A.cmp .eql p.c25 p.c32) (A.and (A.cmp .eql p.c26 p.c33) (A.and (A.cmp .eql p.c27 p.c34) (A.and (A.cmp .eql p.c28 p.c35) true)))))))
         (.br (A.cmp .eql p.c6 p.c7)
          (.need (A.call (@tt ((Int × Int × Int × Int × Int × Int × Int))) (p.c15, p.c16, p.c17, p.c18, p.c19, p.c20, p.c21)) (
           .need (A.call (@tt ((Int × Int × Int × Int × Int × Int × Int))) (p.c15, p.c16, p.c17, p.c18, p.c19, p.c20, p.c21)) (
            .br (A.cmp .eql (A.call fn34 (p.c15, p.c16, p.c17, p.c18, p.c19, p.c20, p.c21)) (A.call fn35 (p.c15, p.c16, p.c17, p.c18, p.c19, p.c20, p.c21)))
             (.need (A.call (@tt ((Int × Int × Int × Int × Int × Int × Int))) (p.c15, p.c16, p.c17, p.c18, p.c19, p.c20, p.c21)) (
              .need (A.call (@tt ((Int × Int × Int × Int × Int × Int × Int))) (p.c15, p.c16, p.c17, p.c18, p.c19, p.c20, p.c21)) (
               .br (A.beq (A.call fn24 (p.c15, p.c16, p.c17, p.c18, p.c19, p.c20, p.c21)) (A.call fn36 (p.c15, p.c16, p.c17, p.c18, p.c19, p.c20, p.c21)))
                (.br p.c9
                 (.need (A.call (@tt (List Int × List Int)) (([] : List Int), p.c8)) (
                  .br (A.call fn37 (([] : List Int), p.c8))
                   (.need (A.and (A.cmp .leq 0 0) (A.and (A.cmp .leq 0 (A.mn (A.len p.c8) (A.conv .i64 p.c5))) (A.cmp .leq (A.mn (A.len p.c8) (A.conv .i64 p.c5)) (A.len p.c8)))) (
                    .need (A.call (@tt (List Int × List Int)) (c45, (A.sub p.c8 0 (A.mn (A.len p.c8) (A.conv .i64 p.c5))))) (
                     .ret (A.call fn37 (c45, (A.sub p.c8 0 (A.mn (A.len p.c8) (A.conv .i64 p.c5))))))))
                   (.ret false)))
                 (.ret false))
                (.ret false))))
             (.ret false))))
          (.ret false))
         (.ret false))
        (.ret false)))
      (.br (A.cmp .neq c3 (A.len c45))
       (.need (A.call (@tt Unit) ()) (
        .br (A.call fn22 ())
         (.br (A.and (A.cmp .eql p.c22 p.c29) (A.and (A.cmp .eql p.c23 p.c30) (A.and (A.cmp .eql p.c24 p.c31) (A.and (A.cmp .eql p.c25 p.c32) (A.and (A.cmp .eql p.c26 p.c33) (A.and (A.cmp .eql p.c27 p.c34) (A.and (A.cmp .eql p.c28 p.c35) true)))))))
          (.br (A.cmp .eql p.c6 p.c7)
           (.need (A.call (@tt ((Int × Int × Int × Int × Int × Int × Int))) (p.c15, p.c16, p.c17, p.c18, p.c19, p.c20, p.c21)) (
            .need (A.call (@tt ((Int × Int × Int × Int × Int × Int × Int))) (p.c15, p.c16, p.c17, p.c18, p.c19, p.c20, p.c21)) (
             .br (A.cmp .eql (A.call fn34 (p.c15, p.c16, p.c17, p.c18, p.c19, p.c20, p.c21)) (A.call fn35 (p.c15, p.c16, p.c17, p.c18, p.c19, p.c20, p.c21)))
              (.need (A.call (@tt ((Int × Int × Int × Int × Int × Int × Int))) (p.c15, p.c16, p.c17, p.c18, p.c19, p.c20, p.c21)) (
               .need (A.call (@tt ((Int × Int × Int × Int × Int × Int × Int))) (p.c15, p.c16, p.c17, p.c18, p.c19, p.c20, p.c21)) (
                .br (A.beq (A.call fn24 (p.c15, p.c16, p.c17, p.c18, p.c19, p.c20, p.c21)) (A.call fn36 (p.c15, p.c16, p.c17, p.c18, p.c19, p.c20, p.c21)))
                 (.br p.c9
                  (.ret false)
                  (.ret false))
                 (.ret false))))
              (.ret false))))
           (.ret false))
          (.ret false))
         (.ret false)))
       (.need (A.cmp .leq (A.len (A.app c45 [(A.nth (.int .i64) [p.c12, p.c13] (A.bin .add .i64 p.c0 c3) : Int)])) 15637498706147) (
        .more (.c2 p (A.bin .add .i64 c3 1) (A.app c45 [(A.nth (.int .i64) [p.c12, p.c13] (A.bin .add .i64 p.c0 c3) : Int)])))))))
    (.need (A.call (@tt Unit) ()) (
     .br (A.call fn22 ())
      (.br (A.and (A.cmp .eql p.c22 p.c29) (A.and (A.cmp .eql p.c23 p.c30) (A.and (A.cmp .eql p.c24 p.c31) (A.and (A.cmp .eql p.c25 p.c32) (A.and (A.cmp .eql p.c26 p.c33) (A.and (A.cmp .eql p.c27 p.c34) (A.and (A.cmp .eql p.c28 p.c35) true)))))))
       (.br (A.cmp .eql p.c6 p.c7)
        (.need (A.call (@tt ((Int × Int × Int × Int × Int × Int × Int))) (p.c15, p.c16, p.c17, p.c18, p.c19, p.c20, p.c21)) (
         .need (A.call (@tt ((Int × Int × Int × Int × Int × Int × Int))) (p.c15, p.c16, p.c17, p.c18, p.c19, p.c20, p.c21)) (
          .br (A.cmp .eql (A.call fn34 (p.c15, p.c16, p.c17, p.c18, p.c19, p.c20, p.c21)) (A.call fn35 (p.c15, p.c16, p.c17, p.c18, p.c19, p.c20, p.c21)))
           (.need (A.call (@tt ((Int × Int × Int × Int × Int × Int × Int))) (p.c15, p.c16, p.c17, p.c18, p.c19, p.c20, p.c21)) (
            .need (A.call (@tt ((Int × Int × Int × Int × Int × Int × Int))) (p.c15, p.c16, p.c17, p.c18, p.c19, p.c20, p.c21)) (
             .br (A.beq (A.call fn24 (p.c15, p.c16, p.c17, p.c18, p.c19, p.c20, p.c21)) (A.call fn36 (p.c15, p.c16, p.c17, p.c18, p.c19, p.c20, p.c21)))
              (.br p.c9
               (.need (A.call (@tt (List Int × List Int)) (([] : List Int), p.c8)) (
                .br (A.call fn37 (([] : List Int), p.c8))
                 (.need (A.and (A.cmp .leq 0 0) (A.and (A.cmp .leq 0 (A.mn (A.len p.c8) (A.conv .i64 p.c5))) (A.cmp .leq (A.mn (A.len p.c8) (A.conv .i64 p.c5)) (A.len p.c8)))) (
                  .need (A.call (@tt (List Int × List Int)) (c45, (A.sub p.c8 0 (A.mn (A.len p.c8) (A.conv .i64 p.c5))))) (
                   .ret (A.call fn37 (c45, (A.sub p.c8 0 (A.mn (A.len p.c8) (A.conv .i64 p.c5))))))))
                 (.ret false)))
               (.ret false))
              (.ret false))))
           (.ret false))))
        (.ret false))
       (.ret false))
      (.ret false)))
  | .c3 p d3 d44 =>
    .br (A.cmp .lss d3 p.d2)
    (.need (A.and (A.cmp .leq 0 d3) (A.cmp .lss d3 p.d1)) (
     .br (A.cmp .geq (A.len d44) p.d43)
      (.need (A.call (@tt ((Int × Int × Int × Int × Int × Int × Int))) (p.d14, p.d15, p.d16, p.d17, p.d18, p.d19, p.d20)) (
       .br (A.cmp .neq (A.call fn34 (p.d14, p.d15, p.d16, p.d17, p.d18, p.d19, p.d20)) 0)
        (.need (A.call (@tt Unit) ()) (
         .br (A.call fn22 ())
          (.br (A.and (A.cmp .eql p.d21 p.d28) (A.and (A.cmp .eql p.d22 p.d29) (A.and (A.cmp .eql p.d23 p.d30) (A.and (A.cmp .eql p.d24 p.d31) (A.and (A.cmp .eql p.d25 p.d32) (A.and (A.cmp .eql p.d26 p.d33) (A.and (A.cmp .eql p.d27 p.d34) true)))))))
           (.br (A.cmp .eql p.d6 p.d7)
            (.need (A.call (@tt ((Int × Int × Int × Int × Int × Int × Int))) (p.d14, p.d15, p.d16, p.d17, p.d18, p.d19, p.d20)) (
             .need (A.call (@tt ((Int × Int × Int × Int × Int × Int × Int))) (p.d14, p.d15, p.d16, p.d17, p.d18, p.d19, p.d20)) (
              .br (A.cmp .eql (A.call fn34 (p.d14, p.d15, p.d16, p.d17, p.d18, p.d19, p.d20)) (A.call fn35 (p.d14, p.d15, p.d16, p.d17, p.d18, p.d19, p.d20)))
               (.need (A.call (@tt ((Int × Int × Int × Int × Int × Int × Int))) (p.d14, p.d15, p.d16, p.d17, p.d18, p.d19, p.d20)) (
                .need (A.call (@tt ((Int × Int × Int × Int × Int × Int × Int))) (p.d14, p.d15, p.d16, p.d17, p.d18, p.d19, p.d20)) (
                 .br (A.beq (A.call fn24 (p.d14, p.d15, p.d16, p.d17, p.d18, p.d19, p.d20)) (A.call fn36 (p.d14, p.d15, p.d16, p.d17, p.d18, p.d19, p.d20)))
                  (.need (A.call (@tt (List Int × List Int)) (d44, p.d8)) (
                   .br (A.call fn37 (d44, p.d8))
                    (.need (A.and (A.cmp .leq 0 0) (A.and (A.cmp .leq 0 (A.mn (A.len p.d8) (A.conv .i64 p.d5))) (A.cmp .leq (A.mn (A.len p.d8) (A.conv .i64 p.d5)) (A.len p.d8)))) (
                     .need (A.call (@tt (List Int × List Int)) (([] : List Int), (A.sub p.d8 0 (A.mn (A.len p.d8) (A.conv .i64 p.d5))))) (
                      .ret (A.call fn37 (([] : List Int), (A.sub p.d8 0 (A.mn (A.len p.d8) (A.conv .i64 p.d5))))))))
                    (.ret false)))
                  (.ret false))))
               (.ret false))))
            (.ret false))
           (.ret false))
          (.ret false)))
        (.need (A.call (@tt ((Int × Int × Int × Int × Int × Int × Int) × Int)) ((p.d14, p.d15, p.d16, p.d17, p.d18, p.d19, p.d20), p.d4)) (
         .br (A.not (A.call fn77 ((p.d14, p.d15, p.d16, p.d17, p.d18, p.d19, p.d20), p.d4)))
          (.need (A.call (@tt Unit) ()) (
           .br (A.call fn22 ())
            (.br (A.and (A.cmp .eql p.d21 p.d28) (A.and (A.cmp .eql p.d22 p.d29) (A.and (A.cmp .eql p.d23 p.d30) (A.and (A.cmp .eql p.d24 p.d31) (A.and (A.cmp .eql p.d25 p.d32) (A.and (A.cmp .eql p.d26 p.d33) (A.and (A.cmp .eql p.d27 p.d34) true)))))))
             (.br (A.cmp .eql p.d6 p.d7)
              (.need (A.call (@tt ((Int × Int × Int × Int × Int × Int × Int))) (p.d14, p.d15, p.d16, p.d17, p.d18, p.d19, p.d20)) (
               .need (A.call (@tt ((Int × Int × Int × Int × Int × Int × Int))) (p.d14, p.d15, p.d16, p.d17, p.d18, p.d19, p.d20)) (
                .br (A.cmp .eql (A.call fn34 (p.d14, p.d15, p.d16, p.d17, p.d18, p.d19, p.d20)) (A.call fn35 (p.d14, p.d15, p.d16, p.d17, p.d18, p.d19, p.d20)))
                 (.need (A.call (@tt ((Int × Int × Int × Int × Int × Int × Int))) (p.d14, p.d15, p.d16, p.d17, p.d18, p.d19, p.d20)) (
                  .need (A.call (@tt ((Int × Int × Int × Int × Int × Int × Int))) (p.d14, p.d15, p.d16, p.d17, p.d18, p.d19, p.d20)) (
                   .br (A.beq (A.call fn24 (p.d14, p.d15, p.d16, p.d17, p.d18, p.d19, p.d20)) (A.call fn36 (p.d14, p.d15, p.d16, p.d17, p.d18, p.d19, p.d20)))
                    (.need (A.call (@tt (List Int × List Int)) (d44, p.d8)) (
                     .br (A.call fn37 (d44, p.d8))
                      (.need (A.and (A.cmp .leq 0 0) (A.and (A.cmp .leq 0 (A.mn (A.len p.d8) (A.conv .i64 p.d5))) (A.cmp .leq (A.mn (A.len p.d8) (A.conv .i64 p.d5)) (A.len p.d8)))) (
                       .need (A.call (@tt (List Int × List Int)) (([] : List Int), (A.sub p.d8 0 (A.mn (A.len p.d8) (A.conv .i64 p.d5))))) (
                        .ret (A.call fn37 (([] : List Int), (A.sub p.d8 0 (A.mn (A.len p.d8) (A.conv .i64 p.d5))))))))
                      (.ret false)))
                    (.ret false))))
                 (.ret false))))
              (.ret false))
             (.ret false))
            (.ret false)))
          (.need (A.call pre78 ((p.d14, p.d15, p.d16, p.d17, p.d18, p.d19, p.d20), p.d4)) (
           .need (A.and (A.cmp .leq 0 0) (A.and (A.cmp .leq 0 (A.call fn78 ((p.d14, p.d15, p.d16, p.d17, p.d18, p.d19, p.d20), p.d4)).2) (A.cmp .leq (A.call fn78 ((p.d14, p.d15, p.d16, p.d17, p.d18, p.d19, p.d20), p.d4)).2 2))) (
            .more (.c4 ⟨(A.bin .add .i64 0 0), (A.bin .sub .i64 (A.call fn78 ((p.d14, p.d15, p.d16, p.d17, p.d18, p.d19, p.d20), p.d4)).2 0), (A.bin .sub .i64 (A.call fn78 ((p.d14, p.d15, p.d16, p.d17, p.d18, p.d19, p.d20), p.d4)).2 0), 0, p.d4, p.d5, p.d6, p.d7, p.d8, true, (A.conv .i64 p.d5), false, (A.nth (.int .i64) (A.call fn78 ((p.d14, p.d15, p.d16, p.d17, p.d18, p.d19, p.d20), p.d4)).1 0 : Int), (A.nth (.int .i64) (A.call fn78 ((p.d14, p.d15, p.d16, p.d17, p.d18, p.d19, p.d20), p.d4)).1 1 : Int), false, p.d14, p.d15, p.d16, p.d17, p.d18, p.d19, p.d20, p.d21, p.d22, p.d23, p.d24, p.d25, p.d26, p.d27, p.d28, p.d29, p.d30, p.d31, p.d32, p.d33, p.d34, d44, p.d14, p.d15, p.d16, p.d17, p.d18, p.d19, p.d20, p.d4, (A.conv .i64 p.d5)⟩))))))))
      (.br (A.cmp .neq d3 (A.len d44))
       (.need (A.call (@tt ((Int × Int × Int × Int × Int × Int × Int))) (p.d14, p.d15, p.d16, p.d17, p.d18, p.d19, p.d20)) (
        .br (A.cmp .neq (A.call fn34 (p.d14, p.d15, p.d16, p.d17, p.d18, p.d19, p.d20)) 0)
         (.need (A.call (@tt Unit) ()) (
          .br (A.call fn22 ())
           (.br (A.and (A.cmp .eql p.d21 p.d28) (A.and (A.cmp .eql p.d22 p.d29) (A.and (A.cmp .eql p.d23 p.d30) (A.and (A.cmp .eql p.d24 p.d31) (A.and (A.cmp .eql p.d25 p.d32) (A.and (A.cmp .eql p.d26 p.d33) (A.and (A.cmp .eql p.d27 p.d34) true)))))))
            (.br (A.cmp .eql p.d6 p.d7)
             (.need (A.call (@tt ((Int × Int × Int × Int × Int × Int × Int))) (p.d14, p.d15, p.d16, p.d17, p.d18, p.d19, p.d20)) (
              .need (A.call (@tt ((Int × Int × Int × Int × Int × Int × Int))) (p.d14, p.d15, p.d16, p.d17, p.d18, p.d19, p.d20)) (
               .br (A.cmp .eql (A.call fn34 (p.d14, p.d15, p.d16, p.d17, p.d18, p.d19, p.d20)) (A.call fn35 (p.d14, p.d15, p.d16, p.d17, p.d18, p.d19, p.d20)))
                (.need (A.call (@tt ((Int × Int × Int × Int × Int × Int × Int))) (p.d14, p.d15, p.d16, p.d17, p.d18, p.d19, p.d20)) (
                 .need (A.call (@tt ((Int × Int × Int × Int × Int × Int × Int))) (p.d14, p.d15, p.d16, p.d17, p.d18, p.d19, p.d20)) (
                  .br (A.beq (A.call fn24 (p.d14, p.d15, p.d16, p.d17, p.d18, p.d19, p.d20)) (A.call fn36 (p.d14, p.d15, p.d16, p.d17, p.d18, p.d19, p.d20)))
                   (.ret false)
                   (.ret false))))
                (.ret false))))
             (.ret false))
            (.ret false))
           (.ret false)))
         (.need (A.call (@tt ((Int × Int × Int × Int × Int × Int × Int) × Int)) ((p.d14, p.d15, p.d16, p.d17, p.d18, p.d19, p.d20), p.d4)) (
          .br (A.not (A.call fn77 ((p.d14, p.d15, p.d16, p.d17, p.d18, p.d19, p.d20), p.d4)))
           (.need (A.call (@tt Unit) ()) (
            .br (A.call fn22 ())
             (.br (A.and (A.cmp .eql p.d21 p.d28) (A.and (A.cmp .eql p.d22 p.d29) (A.and (A.cmp .eql p.d23 p.d30) (A.and (A.cmp .eql p.d24 p.d31) (A.and (A.cmp .eql p.d25 p.d32) (A.and (A.cmp .eql p.d26 p.d33) (A.and (A.cmp .eql p.d27 p.d34) true)))))))
              (.br (A.cmp .eql p.d6 p.d7)
               (.need (A.call (@tt ((Int × Int × Int × Int × Int × Int × Int))) (p.d14, p.d15, p.d16, p.d17, p.d18, p.d19, p.d20)) (
                .need (A.call (@tt ((Int × Int × Int × Int × Int × Int × Int))) (p.d14, p.d15, p.d16, p.d17, p.d18, p.d19, p.d20)) (
                 .br (A.cmp .eql (A.call fn34 (p.d14, p.d15, p.d16, p.d17, p.d18, p.d19, p.d20)) (A.call fn35 (p.d14, p.d15, p.d16, p.d17, p.d18, p.d19, p.d20)))
                  (.need (A.call (@tt ((Int × Int × Int × Int × Int × Int × Int))) (p.d14, p.d15, p.d16, p.d17, p.d18, p.d19, p.d20)) (
                   .need (A.call (@tt ((Int × Int × Int × Int × Int × Int × Int))) (p.d14, p.d15, p.d16, p.d17, p.d18, p.d19, p.d20)) (
                    .br (A.beq (A.call fn24 (p.d14, p.d15, p.d16, p.d17, p.d18, p.d19, p.d20)) (A.call fn36 (p.d14, p.d15, p.d16, p.d17, p.d18, p.d19, p.d20)))
                     (.ret false)
                     (.ret false))))
                  (.ret false))))
               (.ret false))
              (.ret false))
             (.ret false)))
           (.need (A.call pre78 ((p.d14, p.d15, p.d16, p.d17, p.d18, p.d19, p.d20), p.d4)) (
            .need (A.and (A.cmp .leq 0 0) (A.and (A.cmp .leq 0 (A.call fn78 ((p.d14, p.d15, p.d16, p.d17, p.d18, p.d19, p.d20), p.d4)).2) (A.cmp .leq (A.call fn78 ((p.d14, p.d15, p.d16, p.d17, p.d18, p.d19, p.d20), p.d4)).2 2))) (
             .more (.c0 ⟨(A.bin .add .i64 0 0), (A.bin .sub .i64 (A.call fn78 ((p.d14, p.d15, p.d16, p.d17, p.d18, p.d19, p.d20), p.d4)).2 0), (A.bin .sub .i64 (A.call fn78 ((p.d14, p.d15, p.d16, p.d17, p.d18, p.d19, p.d20), p.d4)).2 0), 0, p.d4, p.d5, p.d6, p.d7, p.d8, false, (A.conv .i64 p.d5), false, (A.nth (.int .i64) (A.call fn78 ((p.d14, p.d15, p.d16, p.d17, p.d18, p.d19, p.d20), p.d4)).1 0 : Int), (A.nth (.int .i64) (A.call fn78 ((p.d14, p.d15, p.d16, p.d17, p.d18, p.d19, p.d20), p.d4)).1 1 : Int), false, p.d14, p.d15, p.d16, p.d17, p.d18, p.d19, p.d20, p.d21, p.d22, p.d23, p.d24, p.d25, p.d26, p.d27, p.d28, p.d29, p.d30, p.d31, p.d32, p.d33, p.d34, p.d14, p.d15, p.d16, p.d17, p.d18, p.d19, p.d20, p.d4, (A.conv .i64 p.d5)⟩))))))))
       (.need (A.cmp .leq (A.len (A.app d44 [(A.nth (.int .i64) [p.d11, p.d12] (A.bin .add .i64 p.d0 d3) : Int)])) 15637498706147) (
        .more (.c3 p (A.bin .add .i64 d3 1) (A.app d44 [(A.nth (.int .i64) [p.d11, p.d12] (A.bin .add .i64 p.d0 d3) : Int)])))))))
    (.need (A.call (@tt ((Int × Int × Int × Int × Int × Int × Int))) (p.d14, p.d15, p.d16, p.d17, p.d18, p.d19, p.d20)) (
     .br (A.cmp .neq (A.call fn34 (p.d14, p.d15, p.d16, p.d17, p.d18, p.d19, p.d20)) 0)
      (.need (A.call (@tt Unit) ()) (
       .br (A.call fn22 ())
        (.br (A.and (A.cmp .eql p.d21 p.d28) (A.and (A.cmp .eql p.d22 p.d29) (A.and (A.cmp .eql p.d23 p.d30) (A.and (A.cmp .eql p.d24 p.d31) (A.and (A.cmp .eql p.d25 p.d32) (A.and (A.cmp .eql p.d26 p.d33) (A.and (A.cmp .eql p.d27 p.d34) true)))))))
         (.br (A.cmp .eql p.d6 p.d7)
          (.need (A.call (@tt ((Int × Int × Int × Int × Int × Int × Int))) (p.d14, p.d15, p.d16, p.d17, p.d18, p.d19, p.d20)) (
           .need (A.call (@tt ((Int × Int × Int × Int × Int × Int × Int))) (p.d14, p.d15, p.d16, p.d17, p.d18, p.d19, p.d20)) (
            .br (A.cmp .eql (A.call fn34 (p.d14, p.d15, p.d16, p.d17, p.d18, p.d19, p.d20)) (A.call fn35 (p.d14, p.d15, p.d16, p.d17, p.d18, p.d19, p.d20)))
             (.need (A.call (@tt ((Int × Int × Int × Int × Int × Int × Int))) (p.d14, p.d15, p.d16, p.d17, p.d18, p.d19, p.d20)) (
              .need (A.call (@tt ((Int × Int × Int × Int × Int × Int × Int))) (p.d14, p.d15, p.d16, p.d17, p.d18, p.d19, p.d20)) (
               .br (A.beq (A.call fn24 (p.d14, p.d15, p.d16, p.d17, p.d18, p.d19, p.d20)) (A.call fn36 (p.d14, p.d15, p.d16, p.d17, p.d18, p.d19, p.d20)))
                (.need (A.call (@tt (List Int × List Int)) (d44, p.d8)) (
                 .br (A.call fn37 (d44, p.d8))
                  (.need (A.and (A.cmp .leq 0 0) (A.and (A.cmp .leq 0 (A.mn (A.len p.d8) (A.conv .i64 p.d5))) (A.cmp .leq (A.mn (A.len p.d8) (A.conv .i64 p.d5)) (A.len p.d8)))) (
                   .need (A.call (@tt (List Int × List Int)) (([] : List Int), (A.sub p.d8 0 (A.mn (A.len p.d8) (A.conv .i64 p.d5))))) (
                    .ret (A.call fn37 (([] : List Int), (A.sub p.d8 0 (A.mn (A.len p.d8) (A.conv .i64 p.d5))))))))
                  (.ret false)))
                (.ret false))))
             (.ret false))))
          (.ret false))
         (.ret false))
        (.ret false)))
      (.need (A.call (@tt ((Int × Int × Int × Int × Int × Int × Int) × Int)) ((p.d14, p.d15, p.d16, p.d17, p.d18, p.d19, p.d20), p.d4)) (
       .br (A.not (A.call fn77 ((p.d14, p.d15, p.d16, p.d17, p.d18, p.d19, p.d20), p.d4)))
        (.need (A.call (@tt Unit) ()) (
         .br (A.call fn22 ())
          (.br (A.and (A.cmp .eql p.d21 p.d28) (A.and (A.cmp .eql p.d22 p.d29) (A.and (A.cmp .eql p.d23 p.d30) (A.and (A.cmp .eql p.d24 p.d31) (A.and (A.cmp .eql p.d25 p.d32) (A.and (A.cmp .eql p.d26 p.d33) (A.and (A.cmp .eql p.d27 p.d34) true)))))))
           (.br (A.cmp .eql p.d6 p.d7)
            (.need (A.call (@tt ((Int × Int × Int × Int × Int × Int × Int))) (p.d14, p.d15, p.d16, p.d17, p.d18, p.d19, p.d20)) (
             .need (A.call (@tt ((Int × Int × Int × Int × Int × Int × Int))) (p.d14, p.d15, p.d16, p.d17, p.d18, p.d19, p.d20)) (
              .br (A.cmp .eql (A.call fn34 (p.d14, p.d15, p.d16, p.d17, p.d18, p.d19, p.d20)) (A.call fn35 (p.d14, p.d15, p.d16, p.d17, p.d18, p.d19, p.d20)))
               (.need (A.call (@tt ((Int × Int × Int × Int × Int × Int × Int))) (p.d14, p.d15, p.d16, p.d17, p.d18, p.d19, p.d20)) (
                .need (A.call (@tt ((Int × Int × Int × Int × Int × Int × Int))) (p.d14, p.d15, p.d16, p.d17, p.d18, p.d19, p.d20)) (
                 .br (A.beq (A.call fn24 (p.d14, p.d15, p.d16, p.d17, p.d18, p.d19, p.d20)) (A.call fn36 (p.d14, p.d15, p.d16, p.d17, p.d18, p.d19, p.d20)))
                  (.need (A.call (@tt (List Int × List Int)) (d44, p.d8)) (
                   .br (A.call fn37 (d44, p.d8))
                    (.need (A.and (A.cmp .leq 0 0) (A.and (A.cmp .leq 0 (A.mn (A.len p.d8) (A.conv .i64 p.d5))) (A.cmp .leq (A.mn (A.len p.d8) (A.conv .i64 p.d5)) (A.len p.d8)))) (
                     .need (A.call (@tt (List Int × List Int)) (([] : List Int), (A.sub p.d8 0 (A.mn (A.len p.d8) (A.conv .i64 p.d5))))) (
                      .ret (A.call fn37 (([] : List Int), (A.sub p.d8 0 (A.mn (A.len p.d8) (A.conv .i64 p.d5))))))))
                    (.ret false)))
                  (.ret false))))
               (.ret false))))
            (.ret false))
           (.ret false))
          (.ret false)))
        (.need (A.call pre78 ((p.d14, p.d15, p.d16, p.d17, p.d18, p.d19, p.d20), p.d4)) (
         .need (A.and (A.cmp .leq 0 0) (A.and (A.cmp .leq 0 (A.call fn78 ((p.d14, p.d15, p.d16, p.d17, p.d18, p.d19, p.d20), p.d4)).2) (A.cmp .leq (A.call fn78 ((p.d14, p.d15, p.d16, p.d17, p.d18, p.d19, p.d20), p.d4)).2 2))) (
          .more (.c4 ⟨(A.bin .add .i64 0 0), (A.bin .sub .i64 (A.call fn78 ((p.d14, p.d15, p.d16, p.d17, p.d18, p.d19, p.d20), p.d4)).2 0), (A.bin .sub .i64 (A.call fn78 ((p.d14, p.d15, p.d16, p.d17, p.d18, p.d19, p.d20), p.d4)).2 0), 0, p.d4, p.d5, p.d6, p.d7, p.d8, true, (A.conv .i64 p.d5), false, (A.nth (.int .i64) (A.call fn78 ((p.d14, p.d15, p.d16, p.d17, p.d18, p.d19, p.d20), p.d4)).1 0 : Int), (A.nth (.int .i64) (A.call fn78 ((p.d14, p.d15, p.d16, p.d17, p.d18, p.d19, p.d20), p.d4)).1 1 : Int), false, p.d14, p.d15, p.d16, p.d17, p.d18, p.d19, p.d20, p.d21, p.d22, p.d23, p.d24, p.d25, p.d26, p.d27, p.d28, p.d29, p.d30, p.d31, p.d32, p.d33, p.d34, d44, p.d14, p.d15, p.d16, p.d17, p.d18, p.d19, p.d20, p.d4, (A.conv .i64 p.d5)⟩))))))))
  | .c4 p =>
    .br (A.cmp .lss p.e3 p.e2)
    (.need (A.and (A.cmp .leq 0 p.e3) (A.cmp .lss p.e3 p.e1)) (
     .br (A.cmp .geq 0 p.e45)
      (.need (A.call (@tt Unit) ()) (
       .br (A.call fn22 ())
        (.br (A.and (A.cmp .eql p.e22 p.e29) (A.and (A.cmp .eql p.e23 p.e30) (A.and (A.cmp .eql p.e24 p.e31) (A.and (A.cmp .eql p.e25 p.e32) (A.and (A.cmp .eql p.e26 p.e33) (A.and (A.cmp .eql p.e27 p.e34) (A.and (A.cmp .eql p.e28 p.e35) true)))))))
         (.br (A.cmp .eql p.e6 p.e7)
          (.need (A.call (@tt ((Int × Int × Int × Int × Int × Int × Int))) (p.e15, p.e16, p.e17, p.e18, p.e19, p.e20, p.e21)) (
           .need (A.call (@tt ((Int × Int × Int × Int × Int × Int × Int))) (p.e15, p.e16, p.e17, p.e18, p.e19, p.e20, p.e21)) (
            .br (A.cmp .eql (A.call fn34 (p.e15, p.e16, p.e17, p.e18, p.e19, p.e20, p.e21)) (A.call fn35 (p.e15, p.e16, p.e17, p.e18, p.e19, p.e20, p.e21)))
             (.need (A.call (@tt ((Int × Int × Int × Int × Int × Int × Int))) (p.e15, p.e16, p.e17, p.e18, p.e19, p.e20, p.e21)) (
              .need (A.call (@tt ((Int × Int × Int × Int × Int × Int × Int))) (p.e15, p.e16, p.e17, p.e18, p.e19, p.e20, p.e21)) (
               .br (A.beq (A.call fn24 (p.e15, p.e16, p.e17, p.e18, p.e19, p.e20, p.e21)) (A.call fn36 (p.e15, p.e16, p.e17, p.e18, p.e19, p.e20, p.e21)))
                (.br p.e9
                 (.need (A.call (@tt (List Int × List Int)) (p.e36, p.e8)) (
                  .br (A.call fn37 (p.e36, p.e8))
                   (.need (A.and (A.cmp .leq 0 0) (A.and (A.cmp .leq 0 (A.mn (A.len p.e8) (A.conv .i64 p.e5))) (A.cmp .leq (A.mn (A.len p.e8) (A.conv .i64 p.e5)) (A.len p.e8)))) (
                    .need (A.call (@tt (List Int × List Int)) (([] : List Int), (A.sub p.e8 0 (A.mn (A.len p.e8) (A.conv .i64 p.e5))))) (
                     .ret (A.call fn37 (([] : List Int), (A.sub p.e8 0 (A.mn (A.len p.e8) (A.conv .i64 p.e5))))))))
                   (.ret false)))
                 (.ret false))
                (.ret false))))
             (.ret false))))
          (.ret false))
         (.ret false))
        (.ret false)))
      (.br (A.cmp .neq p.e3 0)
       (.need (A.call (@tt Unit) ()) (
        .br (A.call fn22 ())
         (.br (A.and (A.cmp .eql p.e22 p.e29) (A.and (A.cmp .eql p.e23 p.e30) (A.and (A.cmp .eql p.e24 p.e31) (A.and (A.cmp .eql p.e25 p.e32) (A.and (A.cmp .eql p.e26 p.e33) (A.and (A.cmp .eql p.e27 p.e34) (A.and (A.cmp .eql p.e28 p.e35) true)))))))
          (.br (A.cmp .eql p.e6 p.e7)
           (.need (A.call (@tt ((Int × Int × Int × Int × Int × Int × Int))) (p.e15, p.e16, p.e17, p.e18, p.e19, p.e20, p.e21)) (
            .need (A.call (@tt ((Int × Int × Int × Int × Int × Int × Int))) (p.e15, p.e16, p.e17, p.e18, p.e19, p.e20, p.e21)) (
             .br (A.cmp .eql (A.call fn34 (p.e15, p.e16, p.e17, p.e18, p.e19, p.e20, p.e21)) (A.call fn35 (p.e15, p.e16, p.e17, p.e18, p.e19, p.e20, p.e21)))
              (.need (A.call (@tt ((Int × Int × Int × Int × Int × Int × Int))) (p.e15, p.e16, p.e17, p.e18, p.e19, p.e20, p.e21)) (
               .need (A.call (@tt ((Int × Int × Int × Int × Int × Int × Int))) (p.e15, p.e16, p.e17, p.e18, p.e19, p.e20, p.e21)) (
                .br (A.beq (A.call fn24 (p.e15, p.e16, p.e17, p.e18, p.e19, p.e20, p.e21)) (A.call fn36 (p.e15, p.e16, p.e17, p.e18, p.e19, p.e20, p.e21)))
                 (.br p.e9
                  (.ret false)
                  (.ret false))
                 (.ret false))))
              (.ret false))))
           (.ret false))
          (.ret false))
         (.ret false)))
       (.need (A.cmp .leq (A.len [(A.nth (.int .i64) [p.e12, p.e13] (A.bin .add .i64 p.e0 p.e3) : Int)]) 15637498706147) (
        .more (.c5 ⟨p.e0, p.e1, p.e2, p.e4, p.e5, p.e6, p.e7, p.e8, p.e9, p.e10, p.e11, p.e12, p.e13, p.e14, p.e15, p.e16, p.e17, p.e18, p.e19, p.e20, p.e21, p.e22, p.e23, p.e24, p.e25, p.e26, p.e27, p.e28, p.e29, p.e30, p.e31, p.e32, p.e33, p.e34, p.e35, p.e36, p.e37, p.e38, p.e39, p.e40, p.e41, p.e42, p.e43, p.e44, p.e45⟩ (A.bin .add .i64 p.e3 1) [(A.nth (.int .i64) [p.e12, p.e13] (A.bin .add .i64 p.e0 p.e3) : Int)]))))))
    (.need (A.call (@tt Unit) ()) (
     .br (A.call fn22 ())
      (.br (A.and (A.cmp .eql p.e22 p.e29) (A.and (A.cmp .eql p.e23 p.e30) (A.and (A.cmp .eql p.e24 p.e31) (A.and (A.cmp .eql p.e25 p.e32) (A.and (A.cmp .eql p.e26 p.e33) (A.and (A.cmp .eql p.e27 p.e34) (A.and (A.cmp .eql p.e28 p.e35) true)))))))
       (.br (A.cmp .eql p.e6 p.e7)
        (.need (A.call (@tt ((Int × Int × Int × Int × Int × Int × Int))) (p.e15, p.e16, p.e17, p.e18, p.e19, p.e20, p.e21)) (
         .need (A.call (@tt ((Int × Int × Int × Int × Int × Int × Int))) (p.e15, p.e16, p.e17, p.e18, p.e19, p.e20, p.e21)) (
          .br (A.cmp .eql (A.call fn34 (p.e15, p.e16, p.e17, p.e18, p.e19, p.e20, p.e21)) (A.call fn35 (p.e15, p.e16, p.e17, p.e18, p.e19, p.e20, p.e21)))
           (.need (A.call (@tt ((Int × Int × Int × Int × Int × Int × Int))) (p.e15, p.e16, p.e17, p.e18, p.e19, p.e20, p.e21)) (
            .need (A.call (@tt ((Int × Int × Int × Int × Int × Int × Int))) (p.e15, p.e16, p.e17, p.e18, p.e19, p.e20, p.e21)) (
             .br (A.beq (A.call fn24 (p.e15, p.e16, p.e17, p.e18, p.e19, p.e20, p.e21)) (A.call fn36 (p.e15, p.e16, p.e17, p.e18, p.e19, p.e20, p.e21)))
              (.br p.e9
               (.need (A.call (@tt (List Int × List Int)) (p.e36, p.e8)) (
                .br (A.call fn37 (p.e36, p.e8))
                 (.need (A.and (A.cmp .leq 0 0) (A.and (A.cmp .leq 0 (A.mn (A.len p.e8) (A.conv .i64 p.e5))) (A.cmp .leq (A.mn (A.len p.e8) (A.conv .i64 p.e5)) (A.len p.e8)))) (
                  .need (A.call (@tt (List Int × List Int)) (([] : List Int), (A.sub p.e8 0 (A.mn (A.len p.e8) (A.conv .i64 p.e5))))) (
                   .ret (A.call fn37 (([] : List Int), (A.sub p.e8 0 (A.mn (A.len p.e8) (A.conv .i64 p.e5))))))))
                 (.ret false)))
               (.ret false))
              (.ret false))))
           (.ret false))))
        (.ret false))
       (.ret false))
      (.ret false)))
  | .c5 p f3 f46 =>
    .br (A.cmp .lss f3 p.f2)
    (.need (A.and (A.cmp .leq 0 f3) (A.cmp .lss f3 p.f1)) (
     .br (A.cmp .geq (A.len f46) p.f45)
      (.need (A.call (@tt Unit) ()) (
       .br (A.call fn22 ())
        (.br (A.and (A.cmp .eql p.f22 p.f29) (A.and (A.cmp .eql p.f23 p.f30) (A.and (A.cmp .eql p.f24 p.f31) (A.and (A.cmp .eql p.f25 p.f32) (A.and (A.cmp .eql p.f26 p.f33) (A.and (A.cmp .eql p.f27 p.f34) (A.and (A.cmp .eql p.f28 p.f35) true)))))))
         (.br (A.cmp .eql p.f6 p.f7)
          (.need (A.call (@tt ((Int × Int × Int × Int × Int × Int × Int))) (p.f15, p.f16, p.f17, p.f18, p.f19, p.f20, p.f21)) (
           .need (A.call (@tt ((Int × Int × Int × Int × Int × Int × Int))) (p.f15, p.f16, p.f17, p.f18, p.f19, p.f20, p.f21)) (
            .br (A.cmp .eql (A.call fn34 (p.f15, p.f16, p.f17, p.f18, p.f19, p.f20, p.f21)) (A.call fn35 (p.f15, p.f16, p.f17, p.f18, p.f19, p.f20, p.f21)))
             (.need (A.call (@tt ((Int × Int × Int × Int × Int × Int × Int))) (p.f15, p.f16, p.f17, p.f18, p.f19, p.f20, p.f21)) (
              .need (A.call (@tt ((Int × Int × Int × Int × Int × Int × Int))) (p.f15, p.f16, p.f17, p.f18, p.f19, p.f20, p.f21)) (
               .br (A.beq (A.call fn24 (p.f15, p.f16, p.f17, p.f18, p.f19, p.f20, p.f21)) (A.call fn36 (p.f15, p.f16, p.f17, p.f18, p.f19, p.f20, p.f21)))
                (.br p.f9
                 (.need (A.call (@tt (List Int × List Int)) (p.f36, p.f8)) (
                  .br (A.call fn37 (p.f36, p.f8))
                   (.need (A.and (A.cmp .leq 0 0) (A.and (A.cmp .leq 0 (A.mn (A.len p.f8) (A.conv .i64 p.f5))) (A.cmp .leq (A.mn (A.len p.f8) (A.conv .i64 p.f5)) (A.len p.f8)))) (
                    .need (A.call (@tt (List Int × List Int)) (f46, (A.sub p.f8 0 (A.mn (A.len p.f8) (A.conv .i64 p.f5))))) (
                     .ret (A.call fn37 (f46, (A.sub p.f8 0 (A.mn (A.len p.f8) (A.conv .i64 p.f5))))))))
                   (.ret false)))
                 (.ret false))
                (.ret false))))
             (.ret false))))
          (.ret false))
         (.ret false))
        (.ret false)))
      (.br (A.cmp .neq f3 (A.len f46))
       (.need (A.call (@tt Unit) ()) (
        .br (A.call fn22 ())
         (.br (A.and (A.cmp .eql p.f22 p.f29) (A.and (A.cmp .eql p.f23 p.f30) (A.and (A.cmp .eql p.f24 p.f31) (A.and (A.cmp .eql p.f25 p.f32) (A.and (A.cmp .eql p.f26 p.f33) (A.and (A.cmp .eql p.f27 p.f34) (A.and (A.cmp .eql p.f28 p.f35) true)))))))
          (.br (A.cmp .eql p.f6 p.f7)
           (.need (A.call (@tt ((Int × Int × Int × Int × Int × Int × Int))) (p.f15, p.f16, p.f17, p.f18, p.f19, p.f20, p.f21)) (
            .need (A.call (@tt ((Int × Int × Int × Int × Int × Int × Int))) (p.f15, p.f16, p.f17, p.f18, p.f19, p.f20, p.f21)) (
             .br (A.cmp .eql (A.call fn34 (p.f15, p.f16, p.f17, p.f18, p.f19, p.f20, p.f21)) (A.call fn35 (p.f15, p.f16, p.f17, p.f18, p.f19, p.f20, p.f21)))
              (.need (A.call (@tt ((Int × Int × Int × Int × Int × Int × Int))) (p.f15, p.f16, p.f17, p.f18, p.f19, p.f20, p.f21)) (
               .need (A.call (@tt ((Int × Int × Int × Int × Int × Int × Int))) (p.f15, p.f16, p.f17, p.f18, p.f19, p.f20, p.f21)) (
                .br (A.beq (A.call fn24 (p.f15, p.f16, p.f17, p.f18, p.f19, p.f20, p.f21)) (A.call fn36 (p.f15, p.f16, p.f17, p.f18, p.f19, p.f20, p.f21)))
                 (.br p.f9
                  (.ret false)
                  (.ret false))
                 (.ret false))))
              (.ret false))))
           (.ret false))
          (.ret false))
         (.ret false)))
       (.need (A.cmp .leq (A.len (A.app f46 [(A.nth (.int .i64) [p.f12, p.f13] (A.bin .add .i64 p.f0 f3) : Int)])) 15637498706147) (
        .more (.c5 p (A.bin .add .i64 f3 1) (A.app f46 [(A.nth (.int .i64) [p.f12, p.f13] (A.bin .add .i64 p.f0 f3) : Int)])))))))
    (.need (A.call (@tt Unit) ()) (
     .br (A.call fn22 ())
      (.br (A.and (A.cmp .eql p.f22 p.f29) (A.and (A.cmp .eql p.f23 p.f30) (A.and (A.cmp .eql p.f24 p.f31) (A.and (A.cmp .eql p.f25 p.f32) (A.and (A.cmp .eql p.f26 p.f33) (A.and (A.cmp .eql p.f27 p.f34) (A.and (A.cmp .eql p.f28 p.f35) true)))))))
       (.br (A.cmp .eql p.f6 p.f7)
        (.need (A.call (@tt ((Int × Int × Int × Int × Int × Int × Int))) (p.f15, p.f16, p.f17, p.f18, p.f19, p.f20, p.f21)) (
         .need (A.call (@tt ((Int × Int × Int × Int × Int × Int × Int))) (p.f15, p.f16, p.f17, p.f18, p.f19, p.f20, p.f21)) (
          .br (A.cmp .eql (A.call fn34 (p.f15, p.f16, p.f17, p.f18, p.f19, p.f20, p.f21)) (A.call fn35 (p.f15, p.f16, p.f17, p.f18, p.f19, p.f20, p.f21)))
           (.need (A.call (@tt ((Int × Int × Int × Int × Int × Int × Int))) (p.f15, p.f16, p.f17, p.f18, p.f19, p.f20, p.f21)) (
            .need (A.call (@tt ((Int × Int × Int × Int × Int × Int × Int))) (p.f15, p.f16, p.f17, p.f18, p.f19, p.f20, p.f21)) (
             .br (A.beq (A.call fn24 (p.f15, p.f16, p.f17, p.f18, p.f19, p.f20, p.f21)) (A.call fn36 (p.f15, p.f16, p.f17, p.f18, p.f19, p.f20, p.f21)))
              (.br p.f9
               (.need (A.call (@tt (List Int × List Int)) (p.f36, p.f8)) (
                .br (A.call fn37 (p.f36, p.f8))
                 (.need (A.and (A.cmp .leq 0 0) (A.and (A.cmp .leq 0 (A.mn (A.len p.f8) (A.conv .i64 p.f5))) (A.cmp .leq (A.mn (A.len p.f8) (A.conv .i64 p.f5)) (A.len p.f8)))) (
                  .need (A.call (@tt (List Int × List Int)) (f46, (A.sub p.f8 0 (A.mn (A.len p.f8) (A.conv .i64 p.f5))))) (
                   .ret (A.call fn37 (f46, (A.sub p.f8 0 (A.mn (A.len p.f8) (A.conv .i64 p.f5))))))))
                 (.ret false)))
               (.ret false))
              (.ret false))))
           (.ret false))))
        (.ret false))
       (.ret false))
      (.ret false)))
noncomputable def E6 (A : Alg) : Info (Ty.Ts [.bool]) := { ti := tys, fns := [(6, Try.f6), (29, Try.f29), (30, Try.f30), (76, Try.f76)], sps := [(21, sp21), (22, sp22), (24, sp24), (32, sp32), (33, sp33), (34, sp34), (35, sp35), (36, sp36), (37, sp37), (77, sp77), (78, sp78)], stops := [⟨76, 3, [[0, 24, 25, 26], [4, 5, 6], [4, 5, 6, 13, 14, 15, 16, 17, 18, 19]]⟩], cuts := [], consts := [], fin := finD A [.bool] }
theorem t6_ok (A : Alg) (mId : Int) (mN : Int) (mSet : Int) (mAcc : Int) (mFail : Int) (mStage : Int) (mFirst : Int) (id : Int) (n : Int) (set1 : Int) (sender : Int) (most : Int) : run A (E6 A) 243 (startC 6 Try.f6 (dvals A [(.struct [(.int .i64), (.int .i64), (.int .i64), (.int .i64), (.int .i64), (.int .i64), (.int .i64)]), (.int .i64), (.int .i64), (.int .i64), (.int .i64), (.int .u8)] ((mId, mN, mSet, mAcc, mFail, mStage, mFirst), id, n, set1, sender, most))) = (t6 A mId mN mSet mAcc mFail mStage mFirst id n set1 sender most).tr cfg6 := by kernel_rfl
theorem s6_ok (A : Alg) : ∀ y, ∃ n, run A (E6 A) n (advance (E6 A).sps (cfg6 y)) = (s6 A y).tr cfg6
  | .c0 p => ⟨126, by kernel_rfl⟩
  | .c1 p => ⟨201, by kernel_rfl⟩
  | .c2 p c3 c45 => ⟨126, by kernel_rfl⟩
  | .c3 p d3 d44 => ⟨201, by kernel_rfl⟩
  | .c4 p => ⟨126, by kernel_rfl⟩
  | .c5 p f3 f46 => ⟨126, by kernel_rfl⟩
def w6 : Walk Try.prog 6 [(.struct [(.int .i64), (.int .i64), (.int .i64), (.int .i64), (.int .i64), (.int .i64), (.int .i64)]), (.int .i64), (.int .i64), (.int .i64), (.int .i64), (.int .u8)] [.bool] Y6 := ⟨fun ((mId, mN, mSet, mAcc, mFail, mStage, mFirst), id, n, set1, sender, most) => t6 std mId mN mSet mAcc mFail mStage mFirst id n set1 sender most, s6 std⟩
theorem w6_ok : w6.Ok :=
  walk_ok (E := E6 std) ⟨tys_fit, fns_cons Try.func6 (by kernel_rfl) (fns_cons Try.func29 (by kernel_rfl) (fns_cons Try.func30 (by kernel_rfl) (fns_cons Try.func76 (by kernel_rfl) (fns_nil)))), sps_cons so21 (sps_cons so22 (sps_cons so24 (sps_cons so32 (sps_cons so33 (sps_cons so34 (sps_cons so35 (sps_cons so36 (sps_cons so37 (sps_cons so77 (sps_cons so78 (sps_nil))))))))))), by kernel_rfl⟩ rfl rfl rfl (by kernel_rfl) w6 cfg6 243 (fun ((mId, mN, mSet, mAcc, mFail, mStage, mFirst), id, n, set1, sender, most) => t6_ok std mId mN mSet mAcc mFail mStage mFirst id n set1 sender most) (s6_ok std)

theorem fn78_two {a b c d e f g s : Int} (h : okM a b c d e f g) : ∃ x y n, fn78 ((a, b, c, d, e, f, g), s) = ([x, y], n) ∧ (n = 1 ∨ n = 2) := by
  unfold okM at h
  have hf : f = 0 ∨ f = 1 ∨ f = 2 := by omega
  rcases hf with rfl | rfl | rfl
  · exact ⟨_, _, _, fn78_0, .inl rfl⟩
  · exact ⟨_, _, _, fn78_1, .inr rfl⟩
  · by_cases hsg : s = g
    · subst hsg; exact ⟨_, _, _, fn78_2a, .inl rfl⟩
    · exact ⟨_, _, _, fn78_2b hsg, .inr rfl⟩
theorem views {a b c d e f g id n set1 s most : Int} (h : Ty.hass [(.struct [(.int .i64), (.int .i64), (.int .i64), (.int .i64), (.int .i64), (.int .i64), (.int .i64)]), (.int .i64), (.int .i64), (.int .i64), (.int .i64), (.int .u8)] ((a, b, c, d, e, f, g), id, n, set1, s, most)) : Runs (s6 std) (t6 std a b c d e f g id n set1 s most) true := by
  simp only [Ty.hass, Ty.has, has64, has8] at h
  have hm : 0 ≤ most ∧ most ≤ 255 := by omega
  have em : std.conv .i64 most = most := by rw [std_conv, w64 (by omega) (by omega)]
  have hlen : ∀ l : List Int, std.len l = (l.length : Int) := fun _ => rfl
  by_cases ho : fn73 ((a, b, c, d, e, f, g), s) = 0
  · have hk := fn73_zero.1 ho
    have hv := fn33_ok hk.1 hk.2.1 hk.2.2.1 hk.2.2.2
    obtain ⟨x, y, k, h78, hkk⟩ := fn78_two (s := s) hk.1
    have h77 : fn77 ((a, b, c, d, e, f, g), s) = true := (fn77_iff (by have := hk.1; unfold okM at this; omega) (by have := hk.1; unfold okM at this; omega)).2 hk.2
    have h34 := fn34_zero.2 hk.1
    have hp : pre78 ((a, b, c, d, e, f, g), s) = true := by have := hk.1; unfold okM at this; simp [pre78]; omega
    rw [h78] at hv
    have e1 : IntKind.i64.wrap 1 = 1 := by decide
    have e2 : IntKind.i64.wrap 2 = 2 := by decide
    have e0 : IntKind.i64.wrap 0 = 0 := by decide
    have hmo : most = 0 ∨ most = 1 ∨ 2 ≤ most := by omega
    have h35 := fn35_zero.2 hk.1
    have hs0 : (0 : Int) ≤ s := hk.2.1
    have ea0 : std.bin .add .i64 0 0 = 0 := by decide
    have ea1 : std.bin .add .i64 0 1 = 1 := by decide
    have ea2 : std.bin .add .i64 1 1 = 2 := by decide
    have es1 : std.bin .sub .i64 1 0 = 1 := by decide
    have es2 : std.bin .sub .i64 2 0 = 2 := by decide
    have c01 : std.cmp .lss 0 1 = true := by decide
    have c02 : std.cmp .lss 0 2 = true := by decide
    have c11 : std.cmp .lss 1 1 = false := by decide
    have c12 : std.cmp .lss 1 2 = true := by decide
    have c22 : std.cmp .lss 2 2 = false := by decide
    have f37 : ∀ l m : List Int, fn37 (l, m) = (l == m) := fun _ _ => rfl
    have happ : ∀ l m : List Int, std.app l m = l ++ m := fun _ _ => rfl
    have hsub : ∀ (l : List Int) (i j : Int), std.sub l i j = (l.take j.toNat).drop i.toNat := fun _ _ _ => rfl
    have z : fn35 (a, b, c, d, e, f, g) = 0 := h35
    have n0 : std.nth (.int .i64) (@List.cons (Ty.int .i64).T x (@List.cons (Ty.int .i64).T y [])) 0 = x := rfl
    have n1 : std.nth (.int .i64) (@List.cons (Ty.int .i64).T x (@List.cons (Ty.int .i64).T y [])) 1 = y := rfl
    have hlT : ∀ x : Int, std.len (@List.cons (Ty.int .i64).T x []) = 1 := fun _ => rfl
    have haT : ∀ x y : Int, std.app (@List.cons (Ty.int .i64).T x []) (@List.cons (Ty.int .i64).T y []) = ([x, y] : List Int) := fun _ _ => rfl
    have hmost : most = 0 ∨ most = 1 ∨ 2 ≤ most := hmo
    rcases hkk with rfl | rfl
    · have hv' : fn33 ((a, b, c, d, e, f, g), s) = [x] := hv
      rcases hmo with rfl | rfl | hmo
      · simp [t6, runs_more, s6, runs_need, runs_br, runs_ret, std_call, tt_eq, h34, h77, hp, h78, std_cmp_neq, std_cmp_eql, std_cmp_lss, std_cmp_geq, std_cmp_leq, std_not, std_and, std_beq, new_same, chk, z, fn24_36, begun_true, hv', nth_int, f37, happ, hsub, hlen, em, ea0, ea1, ea2, es1, es2, std_mn, n0, n1, hlT, haT]
      · simp [t6, runs_more, s6, runs_need, runs_br, runs_ret, std_call, tt_eq, h34, h77, hp, h78, std_cmp_neq, std_cmp_eql, std_cmp_lss, std_cmp_geq, std_cmp_leq, std_not, std_and, std_beq, new_same, chk, z, fn24_36, begun_true, hv', nth_int, f37, happ, hsub, hlen, em, ea0, ea1, ea2, es1, es2, std_mn, n0, n1, hlT, haT]
      · have m1 : ¬ most ≤ 1 := by omega
        have m0 : ¬ most ≤ 0 := by omega
        have m2 : ¬ most < 1 := by omega
        have m3 : ¬ most < 2 := by omega
        simp [t6, runs_more, s6, runs_need, runs_br, runs_ret, std_call, tt_eq, h34, h77, hp, h78, std_cmp_neq, std_cmp_eql, std_cmp_lss, std_cmp_geq, std_cmp_leq, std_not, std_and, std_beq, new_same, chk, z, fn24_36, begun_true, hv', nth_int, f37, happ, hsub, hlen, em, ea0, ea1, ea2, es1, es2, std_mn, n0, n1, hlT, haT, m0, m1, m2, m3]
    · have hv' : fn33 ((a, b, c, d, e, f, g), s) = [x, y] := hv
      rcases hmo with rfl | rfl | hmo
      · simp [t6, runs_more, s6, runs_need, runs_br, runs_ret, std_call, tt_eq, h34, h77, hp, h78, std_cmp_neq, std_cmp_eql, std_cmp_lss, std_cmp_geq, std_cmp_leq, std_not, std_and, std_beq, new_same, chk, z, fn24_36, begun_true, hv', nth_int, f37, happ, hsub, hlen, em, ea0, ea1, ea2, es1, es2, std_mn, n0, n1, hlT, haT]
      · simp [t6, runs_more, s6, runs_need, runs_br, runs_ret, std_call, tt_eq, h34, h77, hp, h78, std_cmp_neq, std_cmp_eql, std_cmp_lss, std_cmp_geq, std_cmp_leq, std_not, std_and, std_beq, new_same, chk, z, fn24_36, begun_true, hv', nth_int, f37, happ, hsub, hlen, em, ea0, ea1, ea2, es1, es2, std_mn, n0, n1, hlT, haT]
      · have m1 : ¬ most ≤ 1 := by omega
        have m0 : ¬ most ≤ 0 := by omega
        have m2 : ¬ most < 1 := by omega
        have m3 : ¬ most < 2 := by omega
        simp [t6, runs_more, s6, runs_need, runs_br, runs_ret, std_call, tt_eq, h34, h77, hp, h78, std_cmp_neq, std_cmp_eql, std_cmp_lss, std_cmp_geq, std_cmp_leq, std_not, std_and, std_beq, new_same, chk, z, fn24_36, begun_true, hv', nth_int, f37, happ, hsub, hlen, em, ea0, ea1, ea2, es1, es2, std_mn, n0, n1, hlT, haT, m0, m1, m2, m3]
  · have hv := fn33_no ho
    have f37 : ∀ l m : List Int, fn37 (l, m) = (l == m) := fun _ _ => rfl
    have hsub : ∀ (l : List Int) (i j : Int), std.sub l i j = (l.take j.toNat).drop i.toNat := fun _ _ _ => rfl
    have hmz : ¬ most < 0 := by omega
    by_cases h35 : fn35 (a, b, c, d, e, f, g) = 0
    · have hk := fn35_zero.1 h35
      have h77 : fn77 ((a, b, c, d, e, f, g), s) = false := by
        cases h : fn77 ((a, b, c, d, e, f, g), s)
        · rfl
        · exact absurd (fn73_zero.2 ⟨hk, (fn77_iff (by unfold okM at hk; omega) (by unfold okM at hk; omega)).1 h⟩) ho
      simp [t6, runs_need, runs_br, runs_ret, std_call, tt_eq, h77, std_cmp_neq, std_cmp_eql, std_cmp_leq, std_not, std_and, std_beq, new_same, chk, h35, fn24_36, begun_true, hv, f37, hsub, hlen, em, std_mn, hmz]
    · have h35' : (fn35 (a, b, c, d, e, f, g) != 0) = true := by simpa using h35
      simp [t6, runs_need, runs_br, runs_ret, std_call, tt_eq, std_cmp_neq, std_cmp_eql, std_cmp_leq, std_not, std_and, std_beq, new_same, chk, h35', fn24_36, begun_true, hv, f37, hsub, hlen, em, std_mn, hmz]

def fn6 : (Int × Int × Int × Int × Int × Int × Int) × Int × Int × Int × Int × Int → Bool := fun _ => true
def sp6 : FSpec := ⟨[(.struct [(.int .i64), (.int .i64), (.int .i64), (.int .i64), (.int .i64), (.int .i64), (.int .i64)]), (.int .i64), (.int .i64), (.int .i64), (.int .i64), (.int .u8)], [.bool], (@tt ((Int × Int × Int × Int × Int × Int × Int) × Int × Int × Int × Int × Int)), fn6⟩
theorem run6 {mId : Int} {mN : Int} {mSet : Int} {mAcc : Int} {mFail : Int} {mStage : Int} {mFirst : Int} {id : Int} {n : Int} {set1 : Int} {sender : Int} {most : Int} (h : Ty.hass [(.struct [(.int .i64), (.int .i64), (.int .i64), (.int .i64), (.int .i64), (.int .i64), (.int .i64)]), (.int .i64), (.int .i64), (.int .i64), (.int .i64), (.int .u8)] ((mId, mN, mSet, mAcc, mFail, mStage, mFirst), id, n, set1, sender, most)) : Runs (s6 std) (t6 std mId mN mSet mAcc mFail mStage mFirst id n set1 sender most) (fn6 ((mId, mN, mSet, mAcc, mFail, mStage, mFirst), id, n, set1, sender, most)) := by
  exact views h
theorem so6 : FSpec.Sound Try.prog 6 sp6 :=
  w6_ok.sound _ _ fun ((mId, mN, mSet, mAcc, mFail, mStage, mFirst), id, n, set1, sender, most) _ h => run6 h
theorem law6 (x : (Int × Int × Int × Int × Int × Int × Int) × Int × Int × Int × Int × Int) (_ : Ty.hass [(.struct [(.int .i64), (.int .i64), (.int .i64), (.int .i64), (.int .i64), (.int .i64), (.int .i64)]), (.int .i64), (.int .i64), (.int .i64), (.int .i64), (.int .u8)] x) : fn6 x = true := rfl

end Go.Ev.M
