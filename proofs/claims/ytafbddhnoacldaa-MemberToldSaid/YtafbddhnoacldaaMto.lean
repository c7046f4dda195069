/-
  PROVED: what functions of the packages member, metronomelaw09 and metronomeref09 compute. Conditions: none.
-/
import Derived.Test.YtafbddhnoacldaaTy
import Derived.Test.YtafbddhnoacldaaEvC
import Derived.Test.YtafbddhnoacldaaMvw
namespace Go.Ev.M
open Go.Proofs
set_option maxRecDepth 100000
set_option linter.unusedVariables false
set_option linter.unusedSimpArgs false

/-- Where a number stands first in a list, counted from a number; or -1. -/
def ixAt (v : Int) : List Int → Int → Int
  | [], _ => -1
  | x :: r, i => if v = x then i else ixAt v r (i + 1)
theorem cmp_eql_t {u v : Int} (h : u = v) : std.cmp .eql u v = true := by rw [std_cmp_eql, h]; exact beq_self_eq_true _
theorem cmp_eql_f {u v : Int} (h : u ≠ v) : std.cmp .eql u v = false := by rw [std_cmp_eql]; exact beq_eq_false_iff_ne.2 h

/-! ### slices.Index[[]int,int] (function 31) -/
structure P31c0 where
  a0 : List Int
  a1 : Int
  a2 : Int
inductive Y31 where
  | c0 (p : P31c0) (a3 : Int)
noncomputable def cfg31 : Y31 → Cfg
  | .c0 p a3 => { frames := [{ fn := 31, n := 19, env := (Env.put (Env.put (Env.put (Env.put .leaf 0 (.sl (.int .i64) p.a0)) 1 (.int .i64 false p.a1)) 7 (.int .i64 false p.a2)) 8 (.int .i64 false a3)), todo := [.inLoop (Code.way (bodyOf Try.f31) [1, 0, 1, 0, 0]), .inBlock 0, .code (Code.way (bodyOf Try.f31) [1, 1])], marks := [], rnd := none }], mem := [.dead] }

def t31 (A : Alg) (s : List Int) (v : Int) : LT Int Y31 :=
  .more (.c0 ⟨s, v, (A.len s)⟩ 0)
def s31 (A : Alg) : Y31 → LT Int Y31
  | .c0 p a3 =>
    .br (A.cmp .lss a3 p.a2)
    (.need (A.and (A.cmp .leq 0 a3) (A.cmp .lss a3 (A.len p.a0))) (
     .br (A.cmp .eql p.a1 (A.nth (.int .i64) p.a0 a3 : Int))
      (.ret a3)
      (.more (.c0 p (A.bin .add .i64 a3 1)))))
    (.ret (-1))
noncomputable def E31 (A : Alg) : Info (Ty.Ts [(.int .i64)]) := { ti := tys, fns := [(31, Try.f31)], sps := [], stops := [⟨31, 2, [[0, 1, 7, 8]]⟩], cuts := [], consts := [], fin := finD A [(.int .i64)] }
theorem t31_ok (A : Alg) (s : List Int) (v : Int) : run A (E31 A) 19 (startC 31 Try.f31 (dvals A [(.slice (.int .i64)), (.int .i64)] (s, v))) = (t31 A s v).tr cfg31 := by kernel_rfl
theorem s31_ok (A : Alg) : ∀ y, ∃ n, run A (E31 A) n (advance (E31 A).sps (cfg31 y)) = (s31 A y).tr cfg31
  | .c0 p a3 => ⟨36, by kernel_rfl⟩
def w31 : Walk Try.prog 31 [(.slice (.int .i64)), (.int .i64)] [(.int .i64)] Y31 := ⟨fun (s, v) => t31 std s v, s31 std⟩
theorem w31_ok : w31.Ok :=
  walk_ok (E := E31 std) ⟨tys_fit, fns_cons Try.func31 (by kernel_rfl) (fns_nil), sps_nil, by kernel_rfl⟩ rfl rfl rfl (by kernel_rfl) w31 cfg31 19 (fun (s, v) => t31_ok std s v) (s31_ok std)

theorem ix_in {l : List Int} {v : Int} : ∀ (j : Nat) (i : Int) (p : P31c0), p.a0 = l → p.a1 = v → p.a2 = (l.length : Int) → (l.length : Int) - i = j → 0 ≤ i → l.length ≤ 4611686018427387904 →
    Runs (s31 std) (.more (.c0 p i)) (ixAt v (l.drop i.toNat) i) := by
  intro j
  induction j with
  | zero =>
    intro i p h1 h2 h3 hj hi hb
    rw [List.drop_eq_nil_of_le (by omega)]
    simp only [runs_more, s31, runs_br, std_cmp_lss, h3]
    rw [show decide (i < (l.length : Int)) = false from by simp; omega]
    exact .ret _
  | succ j ih =>
    intro i p h1 h2 h3 hj hi hb
    have hlen1 : std.len p.a0 = (l.length : Int) := by rw [h1]; rfl
    simp only [runs_more, s31, runs_br, std_cmp_lss, h3, runs_need, std_and, std_cmp_leq, hlen1]
    rw [show decide (i < (l.length : Int)) = true from by simp; omega]
    simp only [cond_true, runs_need]
    have h0 : decide (0 ≤ i) = true := by simpa using hi
    refine ⟨by rw [h0]; rfl, ?_⟩
    have e1 : (std.nth (.int .i64) p.a0 i : Int) = l[i.toNat]'(by omega) := by rw [h1]; exact list_at hi (by omega)
    rw [List.drop_eq_getElem_cons (by omega)]
    by_cases hne : p.a1 = (std.nth (.int .i64) p.a0 i : Int)
    · refine (runs_brT (cmp_eql_t hne)).2 ?_
      have e2 : v = l[i.toNat]'(by omega) := h2.symm.trans (hne.trans e1)
      rw [ixAt, if_pos e2]
      exact .ret _
    · refine (runs_brF (cmp_eql_f hne)).2 ?_
      have e2 : ¬ v = l[i.toNat]'(by omega) := fun h => hne (h2.trans (h.trans e1.symm))
      rw [ixAt, if_neg e2, std_add, w64 (by omega) (by omega)]
      have := ih (i + 1) p h1 h2 h3 (by omega) (by omega) hb
      rw [show (i + 1).toNat = i.toNat + 1 from by omega] at this
      exact this
theorem index {l : List Int} {v : Int} (h : Ty.hass [(.slice (.int .i64)), (.int .i64)] (l, v)) : Runs (s31 std) (t31 std l v) (ixAt v l 0) := by
  have hb : l.length ≤ 4611686018427387904 := by
    simp only [Ty.hass, Ty.has] at h
    have := h.1.1
    exact Nat.le_trans this (by decide)
  exact ix_in l.length 0 ⟨l, v, _⟩ rfl rfl rfl (by omega) (by omega) hb

def fn31 : (List Int × Int) → Int := fun (l, v) => ixAt v l 0
def sp31 : FSpec := ⟨[(.slice (.int .i64)), (.int .i64)], [(.int .i64)], (@tt (List Int × Int)), fn31⟩
theorem run31 {s : List Int} {v : Int} (h : Ty.hass [(.slice (.int .i64)), (.int .i64)] (s, v)) : Runs (s31 std) (t31 std s v) (fn31 (s, v)) := by
  exact index h
theorem so31 : FSpec.Sound Try.prog 31 sp31 :=
  w31_ok.sound _ _ fun (s, v) _ h => run31 h
/-! ### metronome/metronomelaw09.MemberTold (function 5) -/
structure P5c0 where
  a0 : Int
  a1 : Bool
  a2 : Int
  a3 : Int
  a4 : Int
  a5 : Int
  a6 : Int
  a7 : Int
  a8 : Int
  a9 : Int
  a10 : Int
  a11 : Int
structure P5c1 where
  b0 : Int
  b1 : Bool
  b2 : Int
  b3 : Int
  b4 : Int
  b5 : Bool
  b6 : Int
  b7 : Int
  b8 : Int
  b9 : Int
  b10 : Int
  b11 : Int
  b12 : Int
structure P5c2 where
  c0 : Int
  c1 : Int
  c2 : Int
  c3 : Int
  c4 : Int
  c5 : Bool
  c6 : Int
  c7 : Int
  c8 : Int
  c9 : Int
  c10 : Bool
  c11 : Int
  c12 : Int
  c13 : Bool
  c14 : Int
  c15 : Int
  c16 : Int
  c17 : Int
  c18 : Int
  c19 : Int
  c20 : Int
  c21 : Int
  c22 : Int
  c23 : Int
  c24 : Int
  c25 : Int
  c26 : Int
  c27 : Int
  c28 : Int
  c29 : Int
structure P5c3 where
  d0 : Int
  d1 : Bool
  d2 : Int
  d3 : Int
  d4 : Int
  d5 : Int
  d6 : Bool
  d7 : Int
  d8 : Int
  d9 : Int
  d10 : Int
  d11 : Int
  d12 : Int
  d13 : Int
  d14 : Int
structure P5c4 where
  e0 : Int
  e1 : Int
  e2 : Int
  e4 : Int
  e5 : Bool
  e6 : Int
  e7 : Int
  e8 : Int
  e9 : Int
  e10 : Bool
  e11 : Int
  e12 : Int
  e13 : Bool
  e14 : Int
  e15 : Int
  e16 : Int
  e17 : Int
  e18 : Int
  e19 : Int
  e20 : Int
  e21 : Int
  e22 : Int
  e23 : Int
  e24 : Int
  e25 : Int
  e26 : Int
  e27 : Int
  e28 : Int
  e29 : Int
structure P5c5 where
  f0 : Bool
  f1 : Int
  f2 : Int
  f3 : Int
  f4 : Int
  f5 : Int
  f6 : Int
  f7 : Int
  f8 : Int
  f9 : Int
structure P5c6 where
  g0 : Int
  g1 : Bool
  g2 : Int
  g3 : Int
  g4 : Int
  g5 : Bool
  g6 : Int
  g7 : Int
  g8 : Int
  g9 : Int
  g10 : Int
  g11 : Int
  g12 : Int
  g13 : List Int
structure P5c7 where
  h0 : Int
  h1 : Int
  h2 : Int
  h3 : Int
  h4 : Bool
  h5 : Int
  h6 : Int
  h7 : Int
  h8 : Bool
  h9 : Int
  h10 : Int
  h11 : Bool
  h12 : Int
  h13 : Int
  h14 : Int
  h15 : Int
  h16 : Int
  h17 : Int
  h18 : Int
  h19 : Int
  h20 : Int
  h21 : Int
  h22 : Int
  h23 : Int
  h24 : Int
  h25 : Int
  h26 : Int
  h27 : Int
structure P5c8 where
  z80 : Int
  z81 : Int
  z82 : Int
  z84 : Bool
  z85 : Int
  z86 : Int
  z87 : Int
  z88 : Bool
  z89 : Int
  z810 : Int
  z811 : Bool
  z812 : Int
  z813 : Int
  z814 : Int
  z815 : Int
  z816 : Int
  z817 : Int
  z818 : Int
  z819 : Int
  z820 : Int
  z821 : Int
  z822 : Int
  z823 : Int
  z824 : Int
  z825 : Int
  z826 : Int
  z827 : Int
inductive Y5 where
  | c0 (p : P5c0)
  | c1 (p : P5c1)
  | c2 (p : P5c2)
  | c3 (p : P5c3)
  | c4 (p : P5c4) (e3 : Int) (e30 : List Int)
  | c5 (p : P5c5)
  | c6 (p : P5c6)
  | c7 (p : P5c7)
  | c8 (p : P5c8) (z83 : Int) (z828 : List Int)
noncomputable def cfg5 : Y5 → Cfg
  | .c0 p => { frames := [{ fn := 5, n := 168, env := (Env.put (Env.put (Env.put (Env.put (Env.put (Env.put .leaf 2 (.int .i64 false p.a0)) 3 (.bool false p.a1)) 10 (.int .i64 false p.a2)) 11 (.int .i64 false p.a3)) 12 (.int .i64 false p.a4)) 13 (.ptr 0 0)), todo := [.code (Code.way (bodyOf Try.f5) [1, 1, 1, 1, 1, 1, 1, 1, 0]), .code (Code.way (bodyOf Try.f5) [1, 1, 1, 1, 1, 1, 1, 1, 1])], marks := [], rnd := none }], mem := [.flat false [.int .i64 false p.a5, .int .i64 false p.a6, .int .i64 false p.a7, .int .i64 false p.a8, .int .i64 false p.a9, .int .i64 false p.a10, .int .i64 false p.a11], .dead] }
  | .c1 p => { frames := [{ fn := 5, n := 168, env := (Env.put (Env.put (Env.put (Env.put (Env.put (Env.put (Env.put (Env.put .leaf 2 (.int .i64 false p.b0)) 3 (.bool false p.b1)) 11 (.int .i64 false p.b2)) 12 (.int .i64 false p.b3)) 13 (.ptr 0 0)) 17 (.int .i64 false p.b4)) 18 (.esl true)) 19 (.bool false p.b5)), todo := [.code (Code.way (bodyOf Try.f5) [1, 1, 1, 1, 1, 1, 1, 1, 1, 1, 0]), .code (Code.way (bodyOf Try.f5) [1, 1, 1, 1, 1, 1, 1, 1, 1, 1, 1])], marks := [], rnd := none }], mem := [.flat false [.int .i64 false p.b6, .int .i64 false p.b7, .int .i64 false p.b8, .int .i64 false p.b9, .int .i64 false p.b10, .int .i64 false p.b11, .int .i64 false p.b12], .dead] }
  | .c2 p => { frames := [{ fn := 76, n := 37, env := (Env.put (Env.put (Env.put (Env.put .leaf 0 (.yield 0)) 24 (.osl 1 1 false p.c0 p.c1)) 25 (.int .i64 false p.c2)) 26 (.int .i64 false p.c3)), todo := [.inLoop (Code.way (bodyOf Try.f76) [1, 1, 1, 0, 0]), .inBlock 0], marks := [], rnd := none }, { fn := 29, n := 27, env := (Env.put (Env.put (Env.put .leaf 4 (.ptr 2 0)) 5 (.ptr 3 0)) 6 (.ptr 4 0)), todo := [.inRF 0, .inBlock 0, .code (Code.way (bodyOf Try.f29) [1, 1, 1, 1])], marks := [5], rnd := none }, { fn := 5, n := 168, env := (Env.put (Env.put (Env.put (Env.put (Env.put (Env.put (Env.put .leaf 2 (.int .i64 false p.c4)) 3 (.bool false p.c5)) 11 (.int .i64 false p.c6)) 12 (.int .i64 false p.c7)) 13 (.ptr 6 0)) 17 (.int .i64 false p.c8)) 21 .undef), todo := [.ops (opsOf (Code.way (bodyOf Try.f5) [1, 1, 1, 1, 1, 1, 1, 1, 1, 0])) ((opsOf (Code.way (bodyOf Try.f5) [1, 1, 1, 1, 1, 1, 1, 1, 1, 0])).toList.drop 3), .code (Code.way (bodyOf Try.f5) [1, 1, 1, 1, 1, 1, 1, 1, 1, 1])], marks := [], rnd := none }], mem := [.loop { fn := 29, n := 27, env := (Env.put (Env.put (Env.put (Env.put (Env.put (Env.put (Env.put (Env.put (Env.put .leaf 0 (.fn 76 [] [.ptr 7 0, .ptr 8 0])) 1 (.int .i64 false p.c9)) 3 (.ptr 9 0)) 4 (.ptr 2 0)) 5 (.ptr 3 0)) 6 (.ptr 4 0)) 9 (.fn 76 [] [.ptr 7 0, .ptr 8 0])) 10 (.bool false p.c10)) 11 (.fn 76 [] [.ptr 7 0, .ptr 8 0])), params := [12, 13], assign := (Code.way (bodyOf Try.f29) [1, 1, 1, 0, 1, 0, 0]), body := (Code.way (bodyOf Try.f29) [1, 1, 1, 0, 1, 0, 1]), state := 0, pending := none }, .flat false [.int .i64 false p.c11, .int .i64 false p.c12], .flat false [.esl true], .flat false [.bool false p.c13], .flat false [.esl true], .dfr, .flat false [.int .i64 false p.c14, .int .i64 false p.c15, .int .i64 false p.c16, .int .i64 false p.c17, .int .i64 false p.c18, .int .i64 false p.c19, .int .i64 false p.c20], .flat false [.int .i64 false p.c21, .int .i64 false p.c22, .int .i64 false p.c23, .int .i64 false p.c24, .int .i64 false p.c25, .int .i64 false p.c26, .int .i64 false p.c27], .flat false [.int .i64 false p.c28], .flat false [.int .i64 false p.c29], .dead] }
  | .c3 p => { frames := [{ fn := 5, n := 168, env := (Env.put (Env.put (Env.put (Env.put (Env.put (Env.put (Env.put (Env.put (Env.put .leaf 2 (.int .i64 false p.d0)) 3 (.bool false p.d1)) 11 (.int .i64 false p.d2)) 12 (.int .i64 false p.d3)) 13 (.ptr 0 0)) 14 (.int .i64 false p.d4)) 17 (.int .i64 false p.d5)) 19 (.bool false p.d6)) 20 (.int .i64 false p.d7)), todo := [.code (Code.way (bodyOf Try.f5) [1, 1, 1, 1, 1, 1, 1, 1, 1, 1, 1, 1, 0, 0]), .code (Code.way (bodyOf Try.f5) [1, 1, 1, 1, 1, 1, 1, 1, 1, 1, 1, 1, 0, 1]), .code (Code.way (bodyOf Try.f5) [1, 1, 1, 1, 1, 1, 1, 1, 1, 1, 1, 1, 1])], marks := [], rnd := none }], mem := [.flat false [.int .i64 false p.d8, .int .i64 false p.d9, .int .i64 false p.d10, .int .i64 false p.d11, .int .i64 false p.d12, .int .i64 false p.d13, .int .i64 false p.d14], .dead] }
  | .c4 p e3 e30 => { frames := [{ fn := 76, n := 37, env := (Env.put (Env.put (Env.put (Env.put .leaf 0 (.yield 0)) 24 (.osl 1 1 false p.e0 p.e1)) 25 (.int .i64 false p.e2)) 26 (.int .i64 false e3)), todo := [.inLoop (Code.way (bodyOf Try.f76) [1, 1, 1, 0, 0]), .inBlock 0], marks := [], rnd := none }, { fn := 29, n := 27, env := (Env.put (Env.put (Env.put .leaf 4 (.ptr 2 0)) 5 (.ptr 3 0)) 6 (.ptr 4 0)), todo := [.inRF 0, .inBlock 0, .code (Code.way (bodyOf Try.f29) [1, 1, 1, 1])], marks := [5], rnd := none }, { fn := 5, n := 168, env := (Env.put (Env.put (Env.put (Env.put (Env.put (Env.put (Env.put .leaf 2 (.int .i64 false p.e4)) 3 (.bool false p.e5)) 11 (.int .i64 false p.e6)) 12 (.int .i64 false p.e7)) 13 (.ptr 6 0)) 17 (.int .i64 false p.e8)) 21 .undef), todo := [.ops (opsOf (Code.way (bodyOf Try.f5) [1, 1, 1, 1, 1, 1, 1, 1, 1, 0])) ((opsOf (Code.way (bodyOf Try.f5) [1, 1, 1, 1, 1, 1, 1, 1, 1, 0])).toList.drop 3), .code (Code.way (bodyOf Try.f5) [1, 1, 1, 1, 1, 1, 1, 1, 1, 1])], marks := [], rnd := none }], mem := [.loop { fn := 29, n := 27, env := (Env.put (Env.put (Env.put (Env.put (Env.put (Env.put (Env.put (Env.put (Env.put .leaf 0 (.fn 76 [] [.ptr 7 0, .ptr 8 0])) 1 (.int .i64 false p.e9)) 3 (.ptr 9 0)) 4 (.ptr 2 0)) 5 (.ptr 3 0)) 6 (.ptr 4 0)) 9 (.fn 76 [] [.ptr 7 0, .ptr 8 0])) 10 (.bool false p.e10)) 11 (.fn 76 [] [.ptr 7 0, .ptr 8 0])), params := [12, 13], assign := (Code.way (bodyOf Try.f29) [1, 1, 1, 0, 1, 0, 0]), body := (Code.way (bodyOf Try.f29) [1, 1, 1, 0, 1, 0, 1]), state := 0, pending := none }, .flat false [.int .i64 false p.e11, .int .i64 false p.e12], .flat false [.esl true], .flat false [.bool false p.e13], .flat false [.own 10], .dfr, .flat false [.int .i64 false p.e14, .int .i64 false p.e15, .int .i64 false p.e16, .int .i64 false p.e17, .int .i64 false p.e18, .int .i64 false p.e19, .int .i64 false p.e20], .flat false [.int .i64 false p.e21, .int .i64 false p.e22, .int .i64 false p.e23, .int .i64 false p.e24, .int .i64 false p.e25, .int .i64 false p.e26, .int .i64 false p.e27], .flat false [.int .i64 false p.e28], .flat false [.int .i64 false p.e29], .arr false (.int .i64) e30, .dead] }
  | .c5 p => { frames := [{ fn := 5, n := 168, env := (Env.put (Env.put (Env.put (Env.put .leaf 3 (.bool false p.f0)) 12 (.int .i64 false p.f1)) 13 (.ptr 0 0)) 21 (.int .i64 false p.f2)), todo := [.code (Code.way (bodyOf Try.f5) [1, 1, 1, 1, 1, 1, 1, 1, 1, 1, 1, 1, 1, 1, 1, 0]), .code (Code.way (bodyOf Try.f5) [1, 1, 1, 1, 1, 1, 1, 1, 1, 1, 1, 1, 1, 1, 1, 1])], marks := [], rnd := none }], mem := [.flat false [.int .i64 false p.f3, .int .i64 false p.f4, .int .i64 false p.f5, .int .i64 false p.f6, .int .i64 false p.f7, .int .i64 false p.f8, .int .i64 false p.f9], .dead] }
  | .c6 p => { frames := [{ fn := 5, n := 168, env := (Env.put (Env.put (Env.put (Env.put (Env.put (Env.put (Env.put (Env.put .leaf 2 (.int .i64 false p.g0)) 3 (.bool false p.g1)) 11 (.int .i64 false p.g2)) 12 (.int .i64 false p.g3)) 13 (.ptr 0 0)) 17 (.int .i64 false p.g4)) 18 (.own 1)) 19 (.bool false p.g5)), todo := [.code (Code.way (bodyOf Try.f5) [1, 1, 1, 1, 1, 1, 1, 1, 1, 1, 0]), .code (Code.way (bodyOf Try.f5) [1, 1, 1, 1, 1, 1, 1, 1, 1, 1, 1])], marks := [], rnd := none }], mem := [.flat false [.int .i64 false p.g6, .int .i64 false p.g7, .int .i64 false p.g8, .int .i64 false p.g9, .int .i64 false p.g10, .int .i64 false p.g11, .int .i64 false p.g12], .arr false (.int .i64) p.g13, .dead] }
  | .c7 p => { frames := [{ fn := 76, n := 37, env := (Env.put (Env.put (Env.put (Env.put .leaf 0 (.yield 0)) 24 (.osl 1 1 false p.h0 p.h1)) 25 (.int .i64 false p.h2)) 26 (.int .i64 false p.h3)), todo := [.inLoop (Code.way (bodyOf Try.f76) [1, 1, 1, 0, 0]), .inBlock 0], marks := [], rnd := none }, { fn := 29, n := 27, env := (Env.put (Env.put (Env.put .leaf 4 (.ptr 2 0)) 5 (.ptr 3 0)) 6 (.ptr 4 0)), todo := [.inRF 0, .inBlock 0, .code (Code.way (bodyOf Try.f29) [1, 1, 1, 1])], marks := [5], rnd := none }, { fn := 5, n := 168, env := (Env.put (Env.put (Env.put (Env.put (Env.put (Env.put (Env.put .leaf 2 .undef) 3 (.bool false p.h4)) 11 .undef) 12 (.int .i64 false p.h5)) 13 (.ptr 6 0)) 17 .undef) 21 (.int .i64 false p.h6)), todo := [.ops (opsOf (Code.way (bodyOf Try.f5) [1, 1, 1, 1, 1, 1, 1, 1, 1, 1, 1, 1, 1, 1, 1, 0])) ((opsOf (Code.way (bodyOf Try.f5) [1, 1, 1, 1, 1, 1, 1, 1, 1, 1, 1, 1, 1, 1, 1, 0])).toList.drop 3), .code (Code.way (bodyOf Try.f5) [1, 1, 1, 1, 1, 1, 1, 1, 1, 1, 1, 1, 1, 1, 1, 1])], marks := [], rnd := none }], mem := [.loop { fn := 29, n := 27, env := (Env.put (Env.put (Env.put (Env.put (Env.put (Env.put (Env.put (Env.put (Env.put .leaf 0 (.fn 76 [] [.ptr 7 0, .ptr 8 0])) 1 (.int .i64 false p.h7)) 3 (.ptr 9 0)) 4 (.ptr 2 0)) 5 (.ptr 3 0)) 6 (.ptr 4 0)) 9 (.fn 76 [] [.ptr 7 0, .ptr 8 0])) 10 (.bool false p.h8)) 11 (.fn 76 [] [.ptr 7 0, .ptr 8 0])), params := [12, 13], assign := (Code.way (bodyOf Try.f29) [1, 1, 1, 0, 1, 0, 0]), body := (Code.way (bodyOf Try.f29) [1, 1, 1, 0, 1, 0, 1]), state := 0, pending := none }, .flat false [.int .i64 false p.h9, .int .i64 false p.h10], .flat false [.esl true], .flat false [.bool false p.h11], .flat false [.esl true], .dfr, .flat false [.int .i64 false p.h12, .int .i64 false p.h13, .int .i64 false p.h14, .int .i64 false p.h15, .int .i64 false p.h16, .int .i64 false p.h17, .int .i64 false p.h18], .flat false [.int .i64 false p.h19, .int .i64 false p.h20, .int .i64 false p.h21, .int .i64 false p.h22, .int .i64 false p.h23, .int .i64 false p.h24, .int .i64 false p.h25], .flat false [.int .i64 false p.h26], .flat false [.int .i64 false p.h27], .dead] }
  | .c8 p z83 z828 => { frames := [{ fn := 76, n := 37, env := (Env.put (Env.put (Env.put (Env.put .leaf 0 (.yield 0)) 24 (.osl 1 1 false p.z80 p.z81)) 25 (.int .i64 false p.z82)) 26 (.int .i64 false z83)), todo := [.inLoop (Code.way (bodyOf Try.f76) [1, 1, 1, 0, 0]), .inBlock 0], marks := [], rnd := none }, { fn := 29, n := 27, env := (Env.put (Env.put (Env.put .leaf 4 (.ptr 2 0)) 5 (.ptr 3 0)) 6 (.ptr 4 0)), todo := [.inRF 0, .inBlock 0, .code (Code.way (bodyOf Try.f29) [1, 1, 1, 1])], marks := [5], rnd := none }, { fn := 5, n := 168, env := (Env.put (Env.put (Env.put (Env.put (Env.put (Env.put (Env.put .leaf 2 .undef) 3 (.bool false p.z84)) 11 .undef) 12 (.int .i64 false p.z85)) 13 (.ptr 6 0)) 17 .undef) 21 (.int .i64 false p.z86)), todo := [.ops (opsOf (Code.way (bodyOf Try.f5) [1, 1, 1, 1, 1, 1, 1, 1, 1, 1, 1, 1, 1, 1, 1, 0])) ((opsOf (Code.way (bodyOf Try.f5) [1, 1, 1, 1, 1, 1, 1, 1, 1, 1, 1, 1, 1, 1, 1, 0])).toList.drop 3), .code (Code.way (bodyOf Try.f5) [1, 1, 1, 1, 1, 1, 1, 1, 1, 1, 1, 1, 1, 1, 1, 1])], marks := [], rnd := none }], mem := [.loop { fn := 29, n := 27, env := (Env.put (Env.put (Env.put (Env.put (Env.put (Env.put (Env.put (Env.put (Env.put .leaf 0 (.fn 76 [] [.ptr 7 0, .ptr 8 0])) 1 (.int .i64 false p.z87)) 3 (.ptr 9 0)) 4 (.ptr 2 0)) 5 (.ptr 3 0)) 6 (.ptr 4 0)) 9 (.fn 76 [] [.ptr 7 0, .ptr 8 0])) 10 (.bool false p.z88)) 11 (.fn 76 [] [.ptr 7 0, .ptr 8 0])), params := [12, 13], assign := (Code.way (bodyOf Try.f29) [1, 1, 1, 0, 1, 0, 0]), body := (Code.way (bodyOf Try.f29) [1, 1, 1, 0, 1, 0, 1]), state := 0, pending := none }, .flat false [.int .i64 false p.z89, .int .i64 false p.z810], .flat false [.esl true], .flat false [.bool false p.z811], .flat false [.own 10], .dfr, .flat false [.int .i64 false p.z812, .int .i64 false p.z813, .int .i64 false p.z814, .int .i64 false p.z815, .int .i64 false p.z816, .int .i64 false p.z817, .int .i64 false p.z818], .flat false [.int .i64 false p.z819, .int .i64 false p.z820, .int .i64 false p.z821, .int .i64 false p.z822, .int .i64 false p.z823, .int .i64 false p.z824, .int .i64 false p.z825], .flat false [.int .i64 false p.z826], .flat false [.int .i64 false p.z827], .arr false (.int .i64) z828, .dead] }

def t5 (A : Alg) (id : Int) (n : Int) (set1 : Int) (came : Bool) : LT Bool Y5 :=
  .need (A.cmp .neq (A.bin .add .i64 4 (A.bin .rem .i64 (A.conv .i64 n) 5)) 0) (
 .need (A.cmp .neq (A.bin .add .i64 4 (A.bin .rem .i64 (A.conv .i64 n) 5)) 0) (
  .need (A.cmp .neq (A.bin .add .i64 4 (A.bin .rem .i64 (A.conv .i64 n) 5)) 0) (
   .need (A.cmp .leq 0 (A.conv .u64 (A.bin .add .i64 4 (A.bin .rem .i64 (A.conv .i64 n) 5)))) (
    .need (A.cmp .leq 0 (A.conv .u64 (A.bin .rem .i64 (A.conv .i64 id) (A.bin .add .i64 4 (A.bin .rem .i64 (A.conv .i64 n) 5))))) (
     .need (A.cmp .leq 0 (A.conv .u64 (A.bin .rem .i64 (A.bin .add .i64 (A.conv .i64 id) 1) (A.bin .add .i64 4 (A.bin .rem .i64 (A.conv .i64 n) 5))))) (
      .need (A.cmp .leq 0 (A.conv .u64 (A.bin .rem .i64 (A.bin .add .i64 (A.conv .i64 id) 2) (A.bin .add .i64 4 (A.bin .rem .i64 (A.conv .i64 n) 5))))) (
       .need (A.call (@tt (Int × Int × Int)) ((A.bin .rem .i64 (A.conv .i64 id) (A.bin .add .i64 4 (A.bin .rem .i64 (A.conv .i64 n) 5))), (A.bin .add .i64 4 (A.bin .rem .i64 (A.conv .i64 n) 5)), (A.bin .or .i64 (A.bin .or .i64 (A.bin .or .i64 (A.bin .and .i64 set1 (A.bin .sub .i64 (A.bin .shl .i64 1 (A.conv .u64 (A.bin .add .i64 4 (A.bin .rem .i64 (A.conv .i64 n) 5)))) 1)) (A.bin .shl .i64 1 (A.conv .u64 (A.bin .rem .i64 (A.conv .i64 id) (A.bin .add .i64 4 (A.bin .rem .i64 (A.conv .i64 n) 5)))))) (A.bin .shl .i64 1 (A.conv .u64 (A.bin .rem .i64 (A.bin .add .i64 (A.conv .i64 id) 1) (A.bin .add .i64 4 (A.bin .rem .i64 (A.conv .i64 n) 5)))))) (A.bin .shl .i64 1 (A.conv .u64 (A.bin .rem .i64 (A.bin .add .i64 (A.conv .i64 id) 2) (A.bin .add .i64 4 (A.bin .rem .i64 (A.conv .i64 n) 5)))))))) (
        .need (A.call (@tt ((Int × Int × Int × Int × Int × Int × Int))) ((A.call fn21 ((A.bin .rem .i64 (A.conv .i64 id) (A.bin .add .i64 4 (A.bin .rem .i64 (A.conv .i64 n) 5))), (A.bin .add .i64 4 (A.bin .rem .i64 (A.conv .i64 n) 5)), (A.bin .or .i64 (A.bin .or .i64 (A.bin .or .i64 (A.bin .and .i64 set1 (A.bin .sub .i64 (A.bin .shl .i64 1 (A.conv .u64 (A.bin .add .i64 4 (A.bin .rem .i64 (A.conv .i64 n) 5)))) 1)) (A.bin .shl .i64 1 (A.conv .u64 (A.bin .rem .i64 (A.conv .i64 id) (A.bin .add .i64 4 (A.bin .rem .i64 (A.conv .i64 n) 5)))))) (A.bin .shl .i64 1 (A.conv .u64 (A.bin .rem .i64 (A.bin .add .i64 (A.conv .i64 id) 1) (A.bin .add .i64 4 (A.bin .rem .i64 (A.conv .i64 n) 5)))))) (A.bin .shl .i64 1 (A.conv .u64 (A.bin .rem .i64 (A.bin .add .i64 (A.conv .i64 id) 2) (A.bin .add .i64 4 (A.bin .rem .i64 (A.conv .i64 n) 5)))))))).1.1, (A.call fn21 ((A.bin .rem .i64 (A.conv .i64 id) (A.bin .add .i64 4 (A.bin .rem .i64 (A.conv .i64 n) 5))), (A.bin .add .i64 4 (A.bin .rem .i64 (A.conv .i64 n) 5)), (A.bin .or .i64 (A.bin .or .i64 (A.bin .or .i64 (A.bin .and .i64 set1 (A.bin .sub .i64 (A.bin .shl .i64 1 (A.conv .u64 (A.bin .add .i64 4 (A.bin .rem .i64 (A.conv .i64 n) 5)))) 1)) (A.bin .shl .i64 1 (A.conv .u64 (A.bin .rem .i64 (A.conv .i64 id) (A.bin .add .i64 4 (A.bin .rem .i64 (A.conv .i64 n) 5)))))) (A.bin .shl .i64 1 (A.conv .u64 (A.bin .rem .i64 (A.bin .add .i64 (A.conv .i64 id) 1) (A.bin .add .i64 4 (A.bin .rem .i64 (A.conv .i64 n) 5)))))) (A.bin .shl .i64 1 (A.conv .u64 (A.bin .rem .i64 (A.bin .add .i64 (A.conv .i64 id) 2) (A.bin .add .i64 4 (A.bin .rem .i64 (A.conv .i64 n) 5)))))))).1.2.1, (A.call fn21 ((A.bin .rem .i64 (A.conv .i64 id) (A.bin .add .i64 4 (A.bin .rem .i64 (A.conv .i64 n) 5))), (A.bin .add .i64 4 (A.bin .rem .i64 (A.conv .i64 n) 5)), (A.bin .or .i64 (A.bin .or .i64 (A.bin .or .i64 (A.bin .and .i64 set1 (A.bin .sub .i64 (A.bin .shl .i64 1 (A.conv .u64 (A.bin .add .i64 4 (A.bin .rem .i64 (A.conv .i64 n) 5)))) 1)) (A.bin .shl .i64 1 (A.conv .u64 (A.bin .rem .i64 (A.conv .i64 id) (A.bin .add .i64 4 (A.bin .rem .i64 (A.conv .i64 n) 5)))))) (A.bin .shl .i64 1 (A.conv .u64 (A.bin .rem .i64 (A.bin .add .i64 (A.conv .i64 id) 1) (A.bin .add .i64 4 (A.bin .rem .i64 (A.conv .i64 n) 5)))))) (A.bin .shl .i64 1 (A.conv .u64 (A.bin .rem .i64 (A.bin .add .i64 (A.conv .i64 id) 2) (A.bin .add .i64 4 (A.bin .rem .i64 (A.conv .i64 n) 5)))))))).1.2.2.1, 1, (A.call fn21 ((A.bin .rem .i64 (A.conv .i64 id) (A.bin .add .i64 4 (A.bin .rem .i64 (A.conv .i64 n) 5))), (A.bin .add .i64 4 (A.bin .rem .i64 (A.conv .i64 n) 5)), (A.bin .or .i64 (A.bin .or .i64 (A.bin .or .i64 (A.bin .and .i64 set1 (A.bin .sub .i64 (A.bin .shl .i64 1 (A.conv .u64 (A.bin .add .i64 4 (A.bin .rem .i64 (A.conv .i64 n) 5)))) 1)) (A.bin .shl .i64 1 (A.conv .u64 (A.bin .rem .i64 (A.conv .i64 id) (A.bin .add .i64 4 (A.bin .rem .i64 (A.conv .i64 n) 5)))))) (A.bin .shl .i64 1 (A.conv .u64 (A.bin .rem .i64 (A.bin .add .i64 (A.conv .i64 id) 1) (A.bin .add .i64 4 (A.bin .rem .i64 (A.conv .i64 n) 5)))))) (A.bin .shl .i64 1 (A.conv .u64 (A.bin .rem .i64 (A.bin .add .i64 (A.conv .i64 id) 2) (A.bin .add .i64 4 (A.bin .rem .i64 (A.conv .i64 n) 5)))))))).1.2.2.2.2)) (
         .need (A.call (@tt Unit) ()) (
          .br (A.not (A.call fn22 ()))
           (.ret false)
           (.br (A.cmp .neq (A.call fn21 ((A.bin .rem .i64 (A.conv .i64 id) (A.bin .add .i64 4 (A.bin .rem .i64 (A.conv .i64 n) 5))), (A.bin .add .i64 4 (A.bin .rem .i64 (A.conv .i64 n) 5)), (A.bin .or .i64 (A.bin .or .i64 (A.bin .or .i64 (A.bin .and .i64 set1 (A.bin .sub .i64 (A.bin .shl .i64 1 (A.conv .u64 (A.bin .add .i64 4 (A.bin .rem .i64 (A.conv .i64 n) 5)))) 1)) (A.bin .shl .i64 1 (A.conv .u64 (A.bin .rem .i64 (A.conv .i64 id) (A.bin .add .i64 4 (A.bin .rem .i64 (A.conv .i64 n) 5)))))) (A.bin .shl .i64 1 (A.conv .u64 (A.bin .rem .i64 (A.bin .add .i64 (A.conv .i64 id) 1) (A.bin .add .i64 4 (A.bin .rem .i64 (A.conv .i64 n) 5)))))) (A.bin .shl .i64 1 (A.conv .u64 (A.bin .rem .i64 (A.bin .add .i64 (A.conv .i64 id) 2) (A.bin .add .i64 4 (A.bin .rem .i64 (A.conv .i64 n) 5)))))))).2 0)
            (.ret false)
            (.br (A.cmp .neq (A.call fn23 ((A.call fn21 ((A.bin .rem .i64 (A.conv .i64 id) (A.bin .add .i64 4 (A.bin .rem .i64 (A.conv .i64 n) 5))), (A.bin .add .i64 4 (A.bin .rem .i64 (A.conv .i64 n) 5)), (A.bin .or .i64 (A.bin .or .i64 (A.bin .or .i64 (A.bin .and .i64 set1 (A.bin .sub .i64 (A.bin .shl .i64 1 (A.conv .u64 (A.bin .add .i64 4 (A.bin .rem .i64 (A.conv .i64 n) 5)))) 1)) (A.bin .shl .i64 1 (A.conv .u64 (A.bin .rem .i64 (A.conv .i64 id) (A.bin .add .i64 4 (A.bin .rem .i64 (A.conv .i64 n) 5)))))) (A.bin .shl .i64 1 (A.conv .u64 (A.bin .rem .i64 (A.bin .add .i64 (A.conv .i64 id) 1) (A.bin .add .i64 4 (A.bin .rem .i64 (A.conv .i64 n) 5)))))) (A.bin .shl .i64 1 (A.conv .u64 (A.bin .rem .i64 (A.bin .add .i64 (A.conv .i64 id) 2) (A.bin .add .i64 4 (A.bin .rem .i64 (A.conv .i64 n) 5)))))))).1.1, (A.call fn21 ((A.bin .rem .i64 (A.conv .i64 id) (A.bin .add .i64 4 (A.bin .rem .i64 (A.conv .i64 n) 5))), (A.bin .add .i64 4 (A.bin .rem .i64 (A.conv .i64 n) 5)), (A.bin .or .i64 (A.bin .or .i64 (A.bin .or .i64 (A.bin .and .i64 set1 (A.bin .sub .i64 (A.bin .shl .i64 1 (A.conv .u64 (A.bin .add .i64 4 (A.bin .rem .i64 (A.conv .i64 n) 5)))) 1)) (A.bin .shl .i64 1 (A.conv .u64 (A.bin .rem .i64 (A.conv .i64 id) (A.bin .add .i64 4 (A.bin .rem .i64 (A.conv .i64 n) 5)))))) (A.bin .shl .i64 1 (A.conv .u64 (A.bin .rem .i64 (A.bin .add .i64 (A.conv .i64 id) 1) (A.bin .add .i64 4 (A.bin .rem .i64 (A.conv .i64 n) 5)))))) (A.bin .shl .i64 1 (A.conv .u64 (A.bin .rem .i64 (A.bin .add .i64 (A.conv .i64 id) 2) (A.bin .add .i64 4 (A.bin .rem .i64 (A.conv .i64 n) 5)))))))).1.2.1, (A.call fn21 ((A.bin .rem .i64 (A.conv .i64 id) (A.bin .add .i64 4 (A.bin .rem .i64 (A.conv .i64 n) 5))), (A.bin .add .i64 4 (A.bin .rem .i64 (A.conv .i64 n) 5)), (A.bin .or .i64 (A.bin .or .i64 (A.bin .or .i64 (A.bin .and .i64 set1 (A.bin .sub .i64 (A.bin .shl .i64 1 (A.conv .u64 (A.bin .add .i64 4 (A.bin .rem .i64 (A.conv .i64 n) 5)))) 1)) (A.bin .shl .i64 1 (A.conv .u64 (A.bin .rem .i64 (A.conv .i64 id) (A.bin .add .i64 4 (A.bin .rem .i64 (A.conv .i64 n) 5)))))) (A.bin .shl .i64 1 (A.conv .u64 (A.bin .rem .i64 (A.bin .add .i64 (A.conv .i64 id) 1) (A.bin .add .i64 4 (A.bin .rem .i64 (A.conv .i64 n) 5)))))) (A.bin .shl .i64 1 (A.conv .u64 (A.bin .rem .i64 (A.bin .add .i64 (A.conv .i64 id) 2) (A.bin .add .i64 4 (A.bin .rem .i64 (A.conv .i64 n) 5)))))))).1.2.2.1, 1, (A.call fn21 ((A.bin .rem .i64 (A.conv .i64 id) (A.bin .add .i64 4 (A.bin .rem .i64 (A.conv .i64 n) 5))), (A.bin .add .i64 4 (A.bin .rem .i64 (A.conv .i64 n) 5)), (A.bin .or .i64 (A.bin .or .i64 (A.bin .or .i64 (A.bin .and .i64 set1 (A.bin .sub .i64 (A.bin .shl .i64 1 (A.conv .u64 (A.bin .add .i64 4 (A.bin .rem .i64 (A.conv .i64 n) 5)))) 1)) (A.bin .shl .i64 1 (A.conv .u64 (A.bin .rem .i64 (A.conv .i64 id) (A.bin .add .i64 4 (A.bin .rem .i64 (A.conv .i64 n) 5)))))) (A.bin .shl .i64 1 (A.conv .u64 (A.bin .rem .i64 (A.bin .add .i64 (A.conv .i64 id) 1) (A.bin .add .i64 4 (A.bin .rem .i64 (A.conv .i64 n) 5)))))) (A.bin .shl .i64 1 (A.conv .u64 (A.bin .rem .i64 (A.bin .add .i64 (A.conv .i64 id) 2) (A.bin .add .i64 4 (A.bin .rem .i64 (A.conv .i64 n) 5)))))))).1.2.2.2.2)).2.2 0)
             (.ret false)
             (.br (A.cmp .neq (A.call fn23 ((A.call fn21 ((A.bin .rem .i64 (A.conv .i64 id) (A.bin .add .i64 4 (A.bin .rem .i64 (A.conv .i64 n) 5))), (A.bin .add .i64 4 (A.bin .rem .i64 (A.conv .i64 n) 5)), (A.bin .or .i64 (A.bin .or .i64 (A.bin .or .i64 (A.bin .and .i64 set1 (A.bin .sub .i64 (A.bin .shl .i64 1 (A.conv .u64 (A.bin .add .i64 4 (A.bin .rem .i64 (A.conv .i64 n) 5)))) 1)) (A.bin .shl .i64 1 (A.conv .u64 (A.bin .rem .i64 (A.conv .i64 id) (A.bin .add .i64 4 (A.bin .rem .i64 (A.conv .i64 n) 5)))))) (A.bin .shl .i64 1 (A.conv .u64 (A.bin .rem .i64 (A.bin .add .i64 (A.conv .i64 id) 1) (A.bin .add .i64 4 (A.bin .rem .i64 (A.conv .i64 n) 5)))))) (A.bin .shl .i64 1 (A.conv .u64 (A.bin .rem .i64 (A.bin .add .i64 (A.conv .i64 id) 2) (A.bin .add .i64 4 (A.bin .rem .i64 (A.conv .i64 n) 5)))))))).1.1, (A.call fn21 ((A.bin .rem .i64 (A.conv .i64 id) (A.bin .add .i64 4 (A.bin .rem .i64 (A.conv .i64 n) 5))), (A.bin .add .i64 4 (A.bin .rem .i64 (A.conv .i64 n) 5)), (A.bin .or .i64 (A.bin .or .i64 (A.bin .or .i64 (A.bin .and .i64 set1 (A.bin .sub .i64 (A.bin .shl .i64 1 (A.conv .u64 (A.bin .add .i64 4 (A.bin .rem .i64 (A.conv .i64 n) 5)))) 1)) (A.bin .shl .i64 1 (A.conv .u64 (A.bin .rem .i64 (A.conv .i64 id) (A.bin .add .i64 4 (A.bin .rem .i64 (A.conv .i64 n) 5)))))) (A.bin .shl .i64 1 (A.conv .u64 (A.bin .rem .i64 (A.bin .add .i64 (A.conv .i64 id) 1) (A.bin .add .i64 4 (A.bin .rem .i64 (A.conv .i64 n) 5)))))) (A.bin .shl .i64 1 (A.conv .u64 (A.bin .rem .i64 (A.bin .add .i64 (A.conv .i64 id) 2) (A.bin .add .i64 4 (A.bin .rem .i64 (A.conv .i64 n) 5)))))))).1.2.1, (A.call fn21 ((A.bin .rem .i64 (A.conv .i64 id) (A.bin .add .i64 4 (A.bin .rem .i64 (A.conv .i64 n) 5))), (A.bin .add .i64 4 (A.bin .rem .i64 (A.conv .i64 n) 5)), (A.bin .or .i64 (A.bin .or .i64 (A.bin .or .i64 (A.bin .and .i64 set1 (A.bin .sub .i64 (A.bin .shl .i64 1 (A.conv .u64 (A.bin .add .i64 4 (A.bin .rem .i64 (A.conv .i64 n) 5)))) 1)) (A.bin .shl .i64 1 (A.conv .u64 (A.bin .rem .i64 (A.conv .i64 id) (A.bin .add .i64 4 (A.bin .rem .i64 (A.conv .i64 n) 5)))))) (A.bin .shl .i64 1 (A.conv .u64 (A.bin .rem .i64 (A.bin .add .i64 (A.conv .i64 id) 1) (A.bin .add .i64 4 (A.bin .rem .i64 (A.conv .i64 n) 5)))))) (A.bin .shl .i64 1 (A.conv .u64 (A.bin .rem .i64 (A.bin .add .i64 (A.conv .i64 id) 2) (A.bin .add .i64 4 (A.bin .rem .i64 (A.conv .i64 n) 5)))))))).1.2.2.1, 1, (A.call fn21 ((A.bin .rem .i64 (A.conv .i64 id) (A.bin .add .i64 4 (A.bin .rem .i64 (A.conv .i64 n) 5))), (A.bin .add .i64 4 (A.bin .rem .i64 (A.conv .i64 n) 5)), (A.bin .or .i64 (A.bin .or .i64 (A.bin .or .i64 (A.bin .and .i64 set1 (A.bin .sub .i64 (A.bin .shl .i64 1 (A.conv .u64 (A.bin .add .i64 4 (A.bin .rem .i64 (A.conv .i64 n) 5)))) 1)) (A.bin .shl .i64 1 (A.conv .u64 (A.bin .rem .i64 (A.conv .i64 id) (A.bin .add .i64 4 (A.bin .rem .i64 (A.conv .i64 n) 5)))))) (A.bin .shl .i64 1 (A.conv .u64 (A.bin .rem .i64 (A.bin .add .i64 (A.conv .i64 id) 1) (A.bin .add .i64 4 (A.bin .rem .i64 (A.conv .i64 n) 5)))))) (A.bin .shl .i64 1 (A.conv .u64 (A.bin .rem .i64 (A.bin .add .i64 (A.conv .i64 id) 2) (A.bin .add .i64 4 (A.bin .rem .i64 (A.conv .i64 n) 5)))))))).1.2.2.2.2)).2.1 1)
              (.ret false)
              (.more (.c0 ⟨(A.bin .or .i64 (A.bin .or .i64 (A.bin .or .i64 (A.bin .and .i64 set1 (A.bin .sub .i64 (A.bin .shl .i64 1 (A.conv .u64 (A.bin .add .i64 4 (A.bin .rem .i64 (A.conv .i64 n) 5)))) 1)) (A.bin .shl .i64 1 (A.conv .u64 (A.bin .rem .i64 (A.conv .i64 id) (A.bin .add .i64 4 (A.bin .rem .i64 (A.conv .i64 n) 5)))))) (A.bin .shl .i64 1 (A.conv .u64 (A.bin .rem .i64 (A.bin .add .i64 (A.conv .i64 id) 1) (A.bin .add .i64 4 (A.bin .rem .i64 (A.conv .i64 n) 5)))))) (A.bin .shl .i64 1 (A.conv .u64 (A.bin .rem .i64 (A.bin .add .i64 (A.conv .i64 id) 2) (A.bin .add .i64 4 (A.bin .rem .i64 (A.conv .i64 n) 5)))))), came, (A.bin .rem .i64 (A.conv .i64 id) (A.bin .add .i64 4 (A.bin .rem .i64 (A.conv .i64 n) 5))), (A.bin .rem .i64 (A.bin .add .i64 (A.conv .i64 id) 1) (A.bin .add .i64 4 (A.bin .rem .i64 (A.conv .i64 n) 5))), (A.bin .rem .i64 (A.bin .add .i64 (A.conv .i64 id) 2) (A.bin .add .i64 4 (A.bin .rem .i64 (A.conv .i64 n) 5))), (A.call fn23 ((A.call fn21 ((A.bin .rem .i64 (A.conv .i64 id) (A.bin .add .i64 4 (A.bin .rem .i64 (A.conv .i64 n) 5))), (A.bin .add .i64 4 (A.bin .rem .i64 (A.conv .i64 n) 5)), (A.bin .or .i64 (A.bin .or .i64 (A.bin .or .i64 (A.bin .and .i64 set1 (A.bin .sub .i64 (A.bin .shl .i64 1 (A.conv .u64 (A.bin .add .i64 4 (A.bin .rem .i64 (A.conv .i64 n) 5)))) 1)) (A.bin .shl .i64 1 (A.conv .u64 (A.bin .rem .i64 (A.conv .i64 id) (A.bin .add .i64 4 (A.bin .rem .i64 (A.conv .i64 n) 5)))))) (A.bin .shl .i64 1 (A.conv .u64 (A.bin .rem .i64 (A.bin .add .i64 (A.conv .i64 id) 1) (A.bin .add .i64 4 (A.bin .rem .i64 (A.conv .i64 n) 5)))))) (A.bin .shl .i64 1 (A.conv .u64 (A.bin .rem .i64 (A.bin .add .i64 (A.conv .i64 id) 2) (A.bin .add .i64 4 (A.bin .rem .i64 (A.conv .i64 n) 5)))))))).1.1, (A.call fn21 ((A.bin .rem .i64 (A.conv .i64 id) (A.bin .add .i64 4 (A.bin .rem .i64 (A.conv .i64 n) 5))), (A.bin .add .i64 4 (A.bin .rem .i64 (A.conv .i64 n) 5)), (A.bin .or .i64 (A.bin .or .i64 (A.bin .or .i64 (A.bin .and .i64 set1 (A.bin .sub .i64 (A.bin .shl .i64 1 (A.conv .u64 (A.bin .add .i64 4 (A.bin .rem .i64 (A.conv .i64 n) 5)))) 1)) (A.bin .shl .i64 1 (A.conv .u64 (A.bin .rem .i64 (A.conv .i64 id) (A.bin .add .i64 4 (A.bin .rem .i64 (A.conv .i64 n) 5)))))) (A.bin .shl .i64 1 (A.conv .u64 (A.bin .rem .i64 (A.bin .add .i64 (A.conv .i64 id) 1) (A.bin .add .i64 4 (A.bin .rem .i64 (A.conv .i64 n) 5)))))) (A.bin .shl .i64 1 (A.conv .u64 (A.bin .rem .i64 (A.bin .add .i64 (A.conv .i64 id) 2) (A.bin .add .i64 4 (A.bin .rem .i64 (A.conv .i64 n) 5)))))))).1.2.1, (A.call fn21 ((A.bin .rem .i64 (A.conv .i64 id) (A.bin .add .i64 4 (A.bin .rem .i64 (A.conv .i64 n) 5))), (A.bin .add .i64 4 (A.bin .rem .i64 (A.conv .i64 n) 5)), (A.bin .or .i64 (A.bin .or .i64 (A.bin .or .i64 (A.bin .and .i64 set1 (A.bin .sub .i64 (A.bin .shl .i64 1 (A.conv .u64 (A.bin .add .i64 4 (A.bin .rem .i64 (A.conv .i64 n) 5)))) 1)) (A.bin .shl .i64 1 (A.conv .u64 (A.bin .rem .i64 (A.conv .i64 id) (A.bin .add .i64 4 (A.bin .rem .i64 (A.conv .i64 n) 5)))))) (A.bin .shl .i64 1 (A.conv .u64 (A.bin .rem .i64 (A.bin .add .i64 (A.conv .i64 id) 1) (A.bin .add .i64 4 (A.bin .rem .i64 (A.conv .i64 n) 5)))))) (A.bin .shl .i64 1 (A.conv .u64 (A.bin .rem .i64 (A.bin .add .i64 (A.conv .i64 id) 2) (A.bin .add .i64 4 (A.bin .rem .i64 (A.conv .i64 n) 5)))))))).1.2.2.1, 1, (A.call fn21 ((A.bin .rem .i64 (A.conv .i64 id) (A.bin .add .i64 4 (A.bin .rem .i64 (A.conv .i64 n) 5))), (A.bin .add .i64 4 (A.bin .rem .i64 (A.conv .i64 n) 5)), (A.bin .or .i64 (A.bin .or .i64 (A.bin .or .i64 (A.bin .and .i64 set1 (A.bin .sub .i64 (A.bin .shl .i64 1 (A.conv .u64 (A.bin .add .i64 4 (A.bin .rem .i64 (A.conv .i64 n) 5)))) 1)) (A.bin .shl .i64 1 (A.conv .u64 (A.bin .rem .i64 (A.conv .i64 id) (A.bin .add .i64 4 (A.bin .rem .i64 (A.conv .i64 n) 5)))))) (A.bin .shl .i64 1 (A.conv .u64 (A.bin .rem .i64 (A.bin .add .i64 (A.conv .i64 id) 1) (A.bin .add .i64 4 (A.bin .rem .i64 (A.conv .i64 n) 5)))))) (A.bin .shl .i64 1 (A.conv .u64 (A.bin .rem .i64 (A.bin .add .i64 (A.conv .i64 id) 2) (A.bin .add .i64 4 (A.bin .rem .i64 (A.conv .i64 n) 5)))))))).1.2.2.2.2)).1.1, (A.call fn23 ((A.call fn21 ((A.bin .rem .i64 (A.conv .i64 id) (A.bin .add .i64 4 (A.bin .rem .i64 (A.conv .i64 n) 5))), (A.bin .add .i64 4 (A.bin .rem .i64 (A.conv .i64 n) 5)), (A.bin .or .i64 (A.bin .or .i64 (A.bin .or .i64 (A.bin .and .i64 set1 (A.bin .sub .i64 (A.bin .shl .i64 1 (A.conv .u64 (A.bin .add .i64 4 (A.bin .rem .i64 (A.conv .i64 n) 5)))) 1)) (A.bin .shl .i64 1 (A.conv .u64 (A.bin .rem .i64 (A.conv .i64 id) (A.bin .add .i64 4 (A.bin .rem .i64 (A.conv .i64 n) 5)))))) (A.bin .shl .i64 1 (A.conv .u64 (A.bin .rem .i64 (A.bin .add .i64 (A.conv .i64 id) 1) (A.bin .add .i64 4 (A.bin .rem .i64 (A.conv .i64 n) 5)))))) (A.bin .shl .i64 1 (A.conv .u64 (A.bin .rem .i64 (A.bin .add .i64 (A.conv .i64 id) 2) (A.bin .add .i64 4 (A.bin .rem .i64 (A.conv .i64 n) 5)))))))).1.1, (A.call fn21 ((A.bin .rem .i64 (A.conv .i64 id) (A.bin .add .i64 4 (A.bin .rem .i64 (A.conv .i64 n) 5))), (A.bin .add .i64 4 (A.bin .rem .i64 (A.conv .i64 n) 5)), (A.bin .or .i64 (A.bin .or .i64 (A.bin .or .i64 (A.bin .and .i64 set1 (A.bin .sub .i64 (A.bin .shl .i64 1 (A.conv .u64 (A.bin .add .i64 4 (A.bin .rem .i64 (A.conv .i64 n) 5)))) 1)) (A.bin .shl .i64 1 (A.conv .u64 (A.bin .rem .i64 (A.conv .i64 id) (A.bin .add .i64 4 (A.bin .rem .i64 (A.conv .i64 n) 5)))))) (A.bin .shl .i64 1 (A.conv .u64 (A.bin .rem .i64 (A.bin .add .i64 (A.conv .i64 id) 1) (A.bin .add .i64 4 (A.bin .rem .i64 (A.conv .i64 n) 5)))))) (A.bin .shl .i64 1 (A.conv .u64 (A.bin .rem .i64 (A.bin .add .i64 (A.conv .i64 id) 2) (A.bin .add .i64 4 (A.bin .rem .i64 (A.conv .i64 n) 5)))))))).1.2.1, (A.call fn21 ((A.bin .rem .i64 (A.conv .i64 id) (A.bin .add .i64 4 (A.bin .rem .i64 (A.conv .i64 n) 5))), (A.bin .add .i64 4 (A.bin .rem .i64 (A.conv .i64 n) 5)), (A.bin .or .i64 (A.bin .or .i64 (A.bin .or .i64 (A.bin .and .i64 set1 (A.bin .sub .i64 (A.bin .shl .i64 1 (A.conv .u64 (A.bin .add .i64 4 (A.bin .rem .i64 (A.conv .i64 n) 5)))) 1)) (A.bin .shl .i64 1 (A.conv .u64 (A.bin .rem .i64 (A.conv .i64 id) (A.bin .add .i64 4 (A.bin .rem .i64 (A.conv .i64 n) 5)))))) (A.bin .shl .i64 1 (A.conv .u64 (A.bin .rem .i64 (A.bin .add .i64 (A.conv .i64 id) 1) (A.bin .add .i64 4 (A.bin .rem .i64 (A.conv .i64 n) 5)))))) (A.bin .shl .i64 1 (A.conv .u64 (A.bin .rem .i64 (A.bin .add .i64 (A.conv .i64 id) 2) (A.bin .add .i64 4 (A.bin .rem .i64 (A.conv .i64 n) 5)))))))).1.2.2.1, 1, (A.call fn21 ((A.bin .rem .i64 (A.conv .i64 id) (A.bin .add .i64 4 (A.bin .rem .i64 (A.conv .i64 n) 5))), (A.bin .add .i64 4 (A.bin .rem .i64 (A.conv .i64 n) 5)), (A.bin .or .i64 (A.bin .or .i64 (A.bin .or .i64 (A.bin .and .i64 set1 (A.bin .sub .i64 (A.bin .shl .i64 1 (A.conv .u64 (A.bin .add .i64 4 (A.bin .rem .i64 (A.conv .i64 n) 5)))) 1)) (A.bin .shl .i64 1 (A.conv .u64 (A.bin .rem .i64 (A.conv .i64 id) (A.bin .add .i64 4 (A.bin .rem .i64 (A.conv .i64 n) 5)))))) (A.bin .shl .i64 1 (A.conv .u64 (A.bin .rem .i64 (A.bin .add .i64 (A.conv .i64 id) 1) (A.bin .add .i64 4 (A.bin .rem .i64 (A.conv .i64 n) 5)))))) (A.bin .shl .i64 1 (A.conv .u64 (A.bin .rem .i64 (A.bin .add .i64 (A.conv .i64 id) 2) (A.bin .add .i64 4 (A.bin .rem .i64 (A.conv .i64 n) 5)))))))).1.2.2.2.2)).1.2.1, (A.call fn23 ((A.call fn21 ((A.bin .rem .i64 (A.conv .i64 id) (A.bin .add .i64 4 (A.bin .rem .i64 (A.conv .i64 n) 5))), (A.bin .add .i64 4 (A.bin .rem .i64 (A.conv .i64 n) 5)), (A.bin .or .i64 (A.bin .or .i64 (A.bin .or .i64 (A.bin .and .i64 set1 (A.bin .sub .i64 (A.bin .shl .i64 1 (A.conv .u64 (A.bin .add .i64 4 (A.bin .rem .i64 (A.conv .i64 n) 5)))) 1)) (A.bin .shl .i64 1 (A.conv .u64 (A.bin .rem .i64 (A.conv .i64 id) (A.bin .add .i64 4 (A.bin .rem .i64 (A.conv .i64 n) 5)))))) (A.bin .shl .i64 1 (A.conv .u64 (A.bin .rem .i64 (A.bin .add .i64 (A.conv .i64 id) 1) (A.bin .add .i64 4 (A.bin .rem .i64 (A.conv .i64 n) 5)))))) (A.bin .shl .i64 1 (A.conv .u64 (A.bin .rem .i64 (A.bin .add .i64 (A.conv .i64 id) 2) (A.bin .add .i64 4 (A.bin .rem .i64 (A.conv .i64 n) 5)))))))).1.1, (A.call fn21 ((A.bin .rem .i64 (A.conv .i64 id) (A.bin .add .i64 4 (A.bin .rem .i64 (A.conv .i64 n) 5))), (A.bin .add .i64 4 (A.bin .rem .i64 (A.conv .i64 n) 5)), (A.bin .or .i64 (A.bin .or .i64 (A.bin .or .i64 (A.bin .and .i64 set1 (A.bin .sub .i64 (A.bin .shl .i64 1 (A.conv .u64 (A.bin .add .i64 4 (A.bin .rem .i64 (A.conv .i64 n) 5)))) 1)) (A.bin .shl .i64 1 (A.conv .u64 (A.bin .rem .i64 (A.conv .i64 id) (A.bin .add .i64 4 (A.bin .rem .i64 (A.conv .i64 n) 5)))))) (A.bin .shl .i64 1 (A.conv .u64 (A.bin .rem .i64 (A.bin .add .i64 (A.conv .i64 id) 1) (A.bin .add .i64 4 (A.bin .rem .i64 (A.conv .i64 n) 5)))))) (A.bin .shl .i64 1 (A.conv .u64 (A.bin .rem .i64 (A.bin .add .i64 (A.conv .i64 id) 2) (A.bin .add .i64 4 (A.bin .rem .i64 (A.conv .i64 n) 5)))))))).1.2.1, (A.call fn21 ((A.bin .rem .i64 (A.conv .i64 id) (A.bin .add .i64 4 (A.bin .rem .i64 (A.conv .i64 n) 5))), (A.bin .add .i64 4 (A.bin .rem .i64 (A.conv .i64 n) 5)), (A.bin .or .i64 (A.bin .or .i64 (A.bin .or .i64 (A.bin .and .i64 set1 (A.bin .sub .i64 (A.bin .shl .i64 1 (A.conv .u64 (A.bin .add .i64 4 (A.bin .rem .i64 (A.conv .i64 n) 5)))) 1)) (A.bin .shl .i64 1 (A.conv .u64 (A.bin .rem .i64 (A.conv .i64 id) (A.bin .add .i64 4 (A.bin .rem .i64 (A.conv .i64 n) 5)))))) (A.bin .shl .i64 1 (A.conv .u64 (A.bin .rem .i64 (A.bin .add .i64 (A.conv .i64 id) 1) (A.bin .add .i64 4 (A.bin .rem .i64 (A.conv .i64 n) 5)))))) (A.bin .shl .i64 1 (A.conv .u64 (A.bin .rem .i64 (A.bin .add .i64 (A.conv .i64 id) 2) (A.bin .add .i64 4 (A.bin .rem .i64 (A.conv .i64 n) 5)))))))).1.2.2.1, 1, (A.call fn21 ((A.bin .rem .i64 (A.conv .i64 id) (A.bin .add .i64 4 (A.bin .rem .i64 (A.conv .i64 n) 5))), (A.bin .add .i64 4 (A.bin .rem .i64 (A.conv .i64 n) 5)), (A.bin .or .i64 (A.bin .or .i64 (A.bin .or .i64 (A.bin .and .i64 set1 (A.bin .sub .i64 (A.bin .shl .i64 1 (A.conv .u64 (A.bin .add .i64 4 (A.bin .rem .i64 (A.conv .i64 n) 5)))) 1)) (A.bin .shl .i64 1 (A.conv .u64 (A.bin .rem .i64 (A.conv .i64 id) (A.bin .add .i64 4 (A.bin .rem .i64 (A.conv .i64 n) 5)))))) (A.bin .shl .i64 1 (A.conv .u64 (A.bin .rem .i64 (A.bin .add .i64 (A.conv .i64 id) 1) (A.bin .add .i64 4 (A.bin .rem .i64 (A.conv .i64 n) 5)))))) (A.bin .shl .i64 1 (A.conv .u64 (A.bin .rem .i64 (A.bin .add .i64 (A.conv .i64 id) 2) (A.bin .add .i64 4 (A.bin .rem .i64 (A.conv .i64 n) 5)))))))).1.2.2.2.2)).1.2.2.1, (A.call fn23 ((A.call fn21 ((A.bin .rem .i64 (A.conv .i64 id) (A.bin .add .i64 4 (A.bin .rem .i64 (A.conv .i64 n) 5))), (A.bin .add .i64 4 (A.bin .rem .i64 (A.conv .i64 n) 5)), (A.bin .or .i64 (A.bin .or .i64 (A.bin .or .i64 (A.bin .and .i64 set1 (A.bin .sub .i64 (A.bin .shl .i64 1 (A.conv .u64 (A.bin .add .i64 4 (A.bin .rem .i64 (A.conv .i64 n) 5)))) 1)) (A.bin .shl .i64 1 (A.conv .u64 (A.bin .rem .i64 (A.conv .i64 id) (A.bin .add .i64 4 (A.bin .rem .i64 (A.conv .i64 n) 5)))))) (A.bin .shl .i64 1 (A.conv .u64 (A.bin .rem .i64 (A.bin .add .i64 (A.conv .i64 id) 1) (A.bin .add .i64 4 (A.bin .rem .i64 (A.conv .i64 n) 5)))))) (A.bin .shl .i64 1 (A.conv .u64 (A.bin .rem .i64 (A.bin .add .i64 (A.conv .i64 id) 2) (A.bin .add .i64 4 (A.bin .rem .i64 (A.conv .i64 n) 5)))))))).1.1, (A.call fn21 ((A.bin .rem .i64 (A.conv .i64 id) (A.bin .add .i64 4 (A.bin .rem .i64 (A.conv .i64 n) 5))), (A.bin .add .i64 4 (A.bin .rem .i64 (A.conv .i64 n) 5)), (A.bin .or .i64 (A.bin .or .i64 (A.bin .or .i64 (A.bin .and .i64 set1 (A.bin .sub .i64 (A.bin .shl .i64 1 (A.conv .u64 (A.bin .add .i64 4 (A.bin .rem .i64 (A.conv .i64 n) 5)))) 1)) (A.bin .shl .i64 1 (A.conv .u64 (A.bin .rem .i64 (A.conv .i64 id) (A.bin .add .i64 4 (A.bin .rem .i64 (A.conv .i64 n) 5)))))) (A.bin .shl .i64 1 (A.conv .u64 (A.bin .rem .i64 (A.bin .add .i64 (A.conv .i64 id) 1) (A.bin .add .i64 4 (A.bin .rem .i64 (A.conv .i64 n) 5)))))) (A.bin .shl .i64 1 (A.conv .u64 (A.bin .rem .i64 (A.bin .add .i64 (A.conv .i64 id) 2) (A.bin .add .i64 4 (A.bin .rem .i64 (A.conv .i64 n) 5)))))))).1.2.1, (A.call fn21 ((A.bin .rem .i64 (A.conv .i64 id) (A.bin .add .i64 4 (A.bin .rem .i64 (A.conv .i64 n) 5))), (A.bin .add .i64 4 (A.bin .rem .i64 (A.conv .i64 n) 5)), (A.bin .or .i64 (A.bin .or .i64 (A.bin .or .i64 (A.bin .and .i64 set1 (A.bin .sub .i64 (A.bin .shl .i64 1 (A.conv .u64 (A.bin .add .i64 4 (A.bin .rem .i64 (A.conv .i64 n) 5)))) 1)) (A.bin .shl .i64 1 (A.conv .u64 (A.bin .rem .i64 (A.conv .i64 id) (A.bin .add .i64 4 (A.bin .rem .i64 (A.conv .i64 n) 5)))))) (A.bin .shl .i64 1 (A.conv .u64 (A.bin .rem .i64 (A.bin .add .i64 (A.conv .i64 id) 1) (A.bin .add .i64 4 (A.bin .rem .i64 (A.conv .i64 n) 5)))))) (A.bin .shl .i64 1 (A.conv .u64 (A.bin .rem .i64 (A.bin .add .i64 (A.conv .i64 id) 2) (A.bin .add .i64 4 (A.bin .rem .i64 (A.conv .i64 n) 5)))))))).1.2.2.1, 1, (A.call fn21 ((A.bin .rem .i64 (A.conv .i64 id) (A.bin .add .i64 4 (A.bin .rem .i64 (A.conv .i64 n) 5))), (A.bin .add .i64 4 (A.bin .rem .i64 (A.conv .i64 n) 5)), (A.bin .or .i64 (A.bin .or .i64 (A.bin .or .i64 (A.bin .and .i64 set1 (A.bin .sub .i64 (A.bin .shl .i64 1 (A.conv .u64 (A.bin .add .i64 4 (A.bin .rem .i64 (A.conv .i64 n) 5)))) 1)) (A.bin .shl .i64 1 (A.conv .u64 (A.bin .rem .i64 (A.conv .i64 id) (A.bin .add .i64 4 (A.bin .rem .i64 (A.conv .i64 n) 5)))))) (A.bin .shl .i64 1 (A.conv .u64 (A.bin .rem .i64 (A.bin .add .i64 (A.conv .i64 id) 1) (A.bin .add .i64 4 (A.bin .rem .i64 (A.conv .i64 n) 5)))))) (A.bin .shl .i64 1 (A.conv .u64 (A.bin .rem .i64 (A.bin .add .i64 (A.conv .i64 id) 2) (A.bin .add .i64 4 (A.bin .rem .i64 (A.conv .i64 n) 5)))))))).1.2.2.2.2)).1.2.2.2.1, (A.call fn23 ((A.call fn21 ((A.bin .rem .i64 (A.conv .i64 id) (A.bin .add .i64 4 (A.bin .rem .i64 (A.conv .i64 n) 5))), (A.bin .add .i64 4 (A.bin .rem .i64 (A.conv .i64 n) 5)), (A.bin .or .i64 (A.bin .or .i64 (A.bin .or .i64 (A.bin .and .i64 set1 (A.bin .sub .i64 (A.bin .shl .i64 1 (A.conv .u64 (A.bin .add .i64 4 (A.bin .rem .i64 (A.conv .i64 n) 5)))) 1)) (A.bin .shl .i64 1 (A.conv .u64 (A.bin .rem .i64 (A.conv .i64 id) (A.bin .add .i64 4 (A.bin .rem .i64 (A.conv .i64 n) 5)))))) (A.bin .shl .i64 1 (A.conv .u64 (A.bin .rem .i64 (A.bin .add .i64 (A.conv .i64 id) 1) (A.bin .add .i64 4 (A.bin .rem .i64 (A.conv .i64 n) 5)))))) (A.bin .shl .i64 1 (A.conv .u64 (A.bin .rem .i64 (A.bin .add .i64 (A.conv .i64 id) 2) (A.bin .add .i64 4 (A.bin .rem .i64 (A.conv .i64 n) 5)))))))).1.1, (A.call fn21 ((A.bin .rem .i64 (A.conv .i64 id) (A.bin .add .i64 4 (A.bin .rem .i64 (A.conv .i64 n) 5))), (A.bin .add .i64 4 (A.bin .rem .i64 (A.conv .i64 n) 5)), (A.bin .or .i64 (A.bin .or .i64 (A.bin .or .i64 (A.bin .and .i64 set1 (A.bin .sub .i64 (A.bin .shl .i64 1 (A.conv .u64 (A.bin .add .i64 4 (A.bin .rem .i64 (A.conv .i64 n) 5)))) 1)) (A.bin .shl .i64 1 (A.conv .u64 (A.bin .rem .i64 (A.conv .i64 id) (A.bin .add .i64 4 (A.bin .rem .i64 (A.conv .i64 n) 5)))))) (A.bin .shl .i64 1 (A.conv .u64 (A.bin .rem .i64 (A.bin .add .i64 (A.conv .i64 id) 1) (A.bin .add .i64 4 (A.bin .rem .i64 (A.conv .i64 n) 5)))))) (A.bin .shl .i64 1 (A.conv .u64 (A.bin .rem .i64 (A.bin .add .i64 (A.conv .i64 id) 2) (A.bin .add .i64 4 (A.bin .rem .i64 (A.conv .i64 n) 5)))))))).1.2.1, (A.call fn21 ((A.bin .rem .i64 (A.conv .i64 id) (A.bin .add .i64 4 (A.bin .rem .i64 (A.conv .i64 n) 5))), (A.bin .add .i64 4 (A.bin .rem .i64 (A.conv .i64 n) 5)), (A.bin .or .i64 (A.bin .or .i64 (A.bin .or .i64 (A.bin .and .i64 set1 (A.bin .sub .i64 (A.bin .shl .i64 1 (A.conv .u64 (A.bin .add .i64 4 (A.bin .rem .i64 (A.conv .i64 n) 5)))) 1)) (A.bin .shl .i64 1 (A.conv .u64 (A.bin .rem .i64 (A.conv .i64 id) (A.bin .add .i64 4 (A.bin .rem .i64 (A.conv .i64 n) 5)))))) (A.bin .shl .i64 1 (A.conv .u64 (A.bin .rem .i64 (A.bin .add .i64 (A.conv .i64 id) 1) (A.bin .add .i64 4 (A.bin .rem .i64 (A.conv .i64 n) 5)))))) (A.bin .shl .i64 1 (A.conv .u64 (A.bin .rem .i64 (A.bin .add .i64 (A.conv .i64 id) 2) (A.bin .add .i64 4 (A.bin .rem .i64 (A.conv .i64 n) 5)))))))).1.2.2.1, 1, (A.call fn21 ((A.bin .rem .i64 (A.conv .i64 id) (A.bin .add .i64 4 (A.bin .rem .i64 (A.conv .i64 n) 5))), (A.bin .add .i64 4 (A.bin .rem .i64 (A.conv .i64 n) 5)), (A.bin .or .i64 (A.bin .or .i64 (A.bin .or .i64 (A.bin .and .i64 set1 (A.bin .sub .i64 (A.bin .shl .i64 1 (A.conv .u64 (A.bin .add .i64 4 (A.bin .rem .i64 (A.conv .i64 n) 5)))) 1)) (A.bin .shl .i64 1 (A.conv .u64 (A.bin .rem .i64 (A.conv .i64 id) (A.bin .add .i64 4 (A.bin .rem .i64 (A.conv .i64 n) 5)))))) (A.bin .shl .i64 1 (A.conv .u64 (A.bin .rem .i64 (A.bin .add .i64 (A.conv .i64 id) 1) (A.bin .add .i64 4 (A.bin .rem .i64 (A.conv .i64 n) 5)))))) (A.bin .shl .i64 1 (A.conv .u64 (A.bin .rem .i64 (A.bin .add .i64 (A.conv .i64 id) 2) (A.bin .add .i64 4 (A.bin .rem .i64 (A.conv .i64 n) 5)))))))).1.2.2.2.2)).1.2.2.2.2.1, (A.call fn23 ((A.call fn21 ((A.bin .rem .i64 (A.conv .i64 id) (A.bin .add .i64 4 (A.bin .rem .i64 (A.conv .i64 n) 5))), (A.bin .add .i64 4 (A.bin .rem .i64 (A.conv .i64 n) 5)), (A.bin .or .i64 (A.bin .or .i64 (A.bin .or .i64 (A.bin .and .i64 set1 (A.bin .sub .i64 (A.bin .shl .i64 1 (A.conv .u64 (A.bin .add .i64 4 (A.bin .rem .i64 (A.conv .i64 n) 5)))) 1)) (A.bin .shl .i64 1 (A.conv .u64 (A.bin .rem .i64 (A.conv .i64 id) (A.bin .add .i64 4 (A.bin .rem .i64 (A.conv .i64 n) 5)))))) (A.bin .shl .i64 1 (A.conv .u64 (A.bin .rem .i64 (A.bin .add .i64 (A.conv .i64 id) 1) (A.bin .add .i64 4 (A.bin .rem .i64 (A.conv .i64 n) 5)))))) (A.bin .shl .i64 1 (A.conv .u64 (A.bin .rem .i64 (A.bin .add .i64 (A.conv .i64 id) 2) (A.bin .add .i64 4 (A.bin .rem .i64 (A.conv .i64 n) 5)))))))).1.1, (A.call fn21 ((A.bin .rem .i64 (A.conv .i64 id) (A.bin .add .i64 4 (A.bin .rem .i64 (A.conv .i64 n) 5))), (A.bin .add .i64 4 (A.bin .rem .i64 (A.conv .i64 n) 5)), (A.bin .or .i64 (A.bin .or .i64 (A.bin .or .i64 (A.bin .and .i64 set1 (A.bin .sub .i64 (A.bin .shl .i64 1 (A.conv .u64 (A.bin .add .i64 4 (A.bin .rem .i64 (A.conv .i64 n) 5)))) 1)) (A.bin .shl .i64 1 (A.conv .u64 (A.bin .rem .i64 (A.conv .i64 id) (A.bin .add .i64 4 (A.bin .rem .i64 (A.conv .i64 n) 5)))))) (A.bin .shl .i64 1 (A.conv .u64 (A.bin .rem .i64 (A.bin .add .i64 (A.conv .i64 id) 1) (A.bin .add .i64 4 (A.bin .rem .i64 (A.conv .i64 n) 5)))))) (A.bin .shl .i64 1 (A.conv .u64 (A.bin .rem .i64 (A.bin .add .i64 (A.conv .i64 id) 2) (A.bin .add .i64 4 (A.bin .rem .i64 (A.conv .i64 n) 5)))))))).1.2.1, (A.call fn21 ((A.bin .rem .i64 (A.conv .i64 id) (A.bin .add .i64 4 (A.bin .rem .i64 (A.conv .i64 n) 5))), (A.bin .add .i64 4 (A.bin .rem .i64 (A.conv .i64 n) 5)), (A.bin .or .i64 (A.bin .or .i64 (A.bin .or .i64 (A.bin .and .i64 set1 (A.bin .sub .i64 (A.bin .shl .i64 1 (A.conv .u64 (A.bin .add .i64 4 (A.bin .rem .i64 (A.conv .i64 n) 5)))) 1)) (A.bin .shl .i64 1 (A.conv .u64 (A.bin .rem .i64 (A.conv .i64 id) (A.bin .add .i64 4 (A.bin .rem .i64 (A.conv .i64 n) 5)))))) (A.bin .shl .i64 1 (A.conv .u64 (A.bin .rem .i64 (A.bin .add .i64 (A.conv .i64 id) 1) (A.bin .add .i64 4 (A.bin .rem .i64 (A.conv .i64 n) 5)))))) (A.bin .shl .i64 1 (A.conv .u64 (A.bin .rem .i64 (A.bin .add .i64 (A.conv .i64 id) 2) (A.bin .add .i64 4 (A.bin .rem .i64 (A.conv .i64 n) 5)))))))).1.2.2.1, 1, (A.call fn21 ((A.bin .rem .i64 (A.conv .i64 id) (A.bin .add .i64 4 (A.bin .rem .i64 (A.conv .i64 n) 5))), (A.bin .add .i64 4 (A.bin .rem .i64 (A.conv .i64 n) 5)), (A.bin .or .i64 (A.bin .or .i64 (A.bin .or .i64 (A.bin .and .i64 set1 (A.bin .sub .i64 (A.bin .shl .i64 1 (A.conv .u64 (A.bin .add .i64 4 (A.bin .rem .i64 (A.conv .i64 n) 5)))) 1)) (A.bin .shl .i64 1 (A.conv .u64 (A.bin .rem .i64 (A.conv .i64 id) (A.bin .add .i64 4 (A.bin .rem .i64 (A.conv .i64 n) 5)))))) (A.bin .shl .i64 1 (A.conv .u64 (A.bin .rem .i64 (A.bin .add .i64 (A.conv .i64 id) 1) (A.bin .add .i64 4 (A.bin .rem .i64 (A.conv .i64 n) 5)))))) (A.bin .shl .i64 1 (A.conv .u64 (A.bin .rem .i64 (A.bin .add .i64 (A.conv .i64 id) 2) (A.bin .add .i64 4 (A.bin .rem .i64 (A.conv .i64 n) 5)))))))).1.2.2.2.2)).1.2.2.2.2.2.1, (A.call fn23 ((A.call fn21 ((A.bin .rem .i64 (A.conv .i64 id) (A.bin .add .i64 4 (A.bin .rem .i64 (A.conv .i64 n) 5))), (A.bin .add .i64 4 (A.bin .rem .i64 (A.conv .i64 n) 5)), (A.bin .or .i64 (A.bin .or .i64 (A.bin .or .i64 (A.bin .and .i64 set1 (A.bin .sub .i64 (A.bin .shl .i64 1 (A.conv .u64 (A.bin .add .i64 4 (A.bin .rem .i64 (A.conv .i64 n) 5)))) 1)) (A.bin .shl .i64 1 (A.conv .u64 (A.bin .rem .i64 (A.conv .i64 id) (A.bin .add .i64 4 (A.bin .rem .i64 (A.conv .i64 n) 5)))))) (A.bin .shl .i64 1 (A.conv .u64 (A.bin .rem .i64 (A.bin .add .i64 (A.conv .i64 id) 1) (A.bin .add .i64 4 (A.bin .rem .i64 (A.conv .i64 n) 5)))))) (A.bin .shl .i64 1 (A.conv .u64 (A.bin .rem .i64 (A.bin .add .i64 (A.conv .i64 id) 2) (A.bin .add .i64 4 (A.bin .rem .i64 (A.conv .i64 n) 5)))))))).1.1, (A.call fn21 ((A.bin .rem .i64 (A.conv .i64 id) (A.bin .add .i64 4 (A.bin .rem .i64 (A.conv .i64 n) 5))), (A.bin .add .i64 4 (A.bin .rem .i64 (A.conv .i64 n) 5)), (A.bin .or .i64 (A.bin .or .i64 (A.bin .or .i64 (A.bin .and .i64 set1 (A.bin .sub .i64 (A.bin .shl .i64 1 (A.conv .u64 (A.bin .add .i64 4 (A.bin .rem .i64 (A.conv .i64 n) 5)))) 1)) (A.bin .shl .i64 1 (A.conv .u64 (A.bin .rem .i64 (A.conv .i64 id) (A.bin .add .i64 4 (A.bin .rem .i64 (A.conv .i64 n) 5)))))) (A.bin .shl .i64 1 (A.conv .u64 (A.bin .rem .i64 (A.bin .add .i64 (A.conv .i64 id) 1) (A.bin .add .i64 4 (A.bin .rem .i64 (A.conv .i64 n) 5)))))) (A.bin .shl .i64 1 (A.conv .u64 (A.bin .rem .i64 (A.bin .add .i64 (A.conv .i64 id) 2) (A.bin .add .i64 4 (A.bin .rem .i64 (A.conv .i64 n) 5)))))))).1.2.1, (A.call fn21 ((A.bin .rem .i64 (A.conv .i64 id) (A.bin .add .i64 4 (A.bin .rem .i64 (A.conv .i64 n) 5))), (A.bin .add .i64 4 (A.bin .rem .i64 (A.conv .i64 n) 5)), (A.bin .or .i64 (A.bin .or .i64 (A.bin .or .i64 (A.bin .and .i64 set1 (A.bin .sub .i64 (A.bin .shl .i64 1 (A.conv .u64 (A.bin .add .i64 4 (A.bin .rem .i64 (A.conv .i64 n) 5)))) 1)) (A.bin .shl .i64 1 (A.conv .u64 (A.bin .rem .i64 (A.conv .i64 id) (A.bin .add .i64 4 (A.bin .rem .i64 (A.conv .i64 n) 5)))))) (A.bin .shl .i64 1 (A.conv .u64 (A.bin .rem .i64 (A.bin .add .i64 (A.conv .i64 id) 1) (A.bin .add .i64 4 (A.bin .rem .i64 (A.conv .i64 n) 5)))))) (A.bin .shl .i64 1 (A.conv .u64 (A.bin .rem .i64 (A.bin .add .i64 (A.conv .i64 id) 2) (A.bin .add .i64 4 (A.bin .rem .i64 (A.conv .i64 n) 5)))))))).1.2.2.1, 1, (A.call fn21 ((A.bin .rem .i64 (A.conv .i64 id) (A.bin .add .i64 4 (A.bin .rem .i64 (A.conv .i64 n) 5))), (A.bin .add .i64 4 (A.bin .rem .i64 (A.conv .i64 n) 5)), (A.bin .or .i64 (A.bin .or .i64 (A.bin .or .i64 (A.bin .and .i64 set1 (A.bin .sub .i64 (A.bin .shl .i64 1 (A.conv .u64 (A.bin .add .i64 4 (A.bin .rem .i64 (A.conv .i64 n) 5)))) 1)) (A.bin .shl .i64 1 (A.conv .u64 (A.bin .rem .i64 (A.conv .i64 id) (A.bin .add .i64 4 (A.bin .rem .i64 (A.conv .i64 n) 5)))))) (A.bin .shl .i64 1 (A.conv .u64 (A.bin .rem .i64 (A.bin .add .i64 (A.conv .i64 id) 1) (A.bin .add .i64 4 (A.bin .rem .i64 (A.conv .i64 n) 5)))))) (A.bin .shl .i64 1 (A.conv .u64 (A.bin .rem .i64 (A.bin .add .i64 (A.conv .i64 id) 2) (A.bin .add .i64 4 (A.bin .rem .i64 (A.conv .i64 n) 5)))))))).1.2.2.2.2)).1.2.2.2.2.2.2⟩)))))))))))))))
def s5 (A : Alg) : Y5 → LT Bool Y5
  | .c0 p =>
    .need (A.cmp .leq 0 (A.conv .u64 p.a2)) (
    .need (A.call (@tt ((Int × Int × Int × Int × Int × Int × Int))) (p.a5, p.a6, p.a7, p.a8, p.a9, p.a10, p.a11)) (
     .br (A.cmp .neq (A.call fn34 (p.a5, p.a6, p.a7, p.a8, p.a9, p.a10, p.a11)) 0)
      (.more (.c1 ⟨p.a0, p.a1, p.a3, p.a4, (A.bin .andNot .i64 p.a0 (A.bin .shl .i64 1 (A.conv .u64 p.a2))), true, p.a5, p.a6, p.a7, p.a8, p.a9, p.a10, p.a11⟩))
      (.need (A.call (@tt ((Int × Int × Int × Int × Int × Int × Int) × Int)) ((p.a5, p.a6, p.a7, p.a8, p.a9, p.a10, p.a11), p.a3)) (
       .br (A.not (A.call fn77 ((p.a5, p.a6, p.a7, p.a8, p.a9, p.a10, p.a11), p.a3)))
        (.more (.c1 ⟨p.a0, p.a1, p.a3, p.a4, (A.bin .andNot .i64 p.a0 (A.bin .shl .i64 1 (A.conv .u64 p.a2))), true, p.a5, p.a6, p.a7, p.a8, p.a9, p.a10, p.a11⟩))
        (.need (A.call pre78 ((p.a5, p.a6, p.a7, p.a8, p.a9, p.a10, p.a11), p.a3)) (
         .need (A.and (A.cmp .leq 0 0) (A.and (A.cmp .leq 0 (A.call fn78 ((p.a5, p.a6, p.a7, p.a8, p.a9, p.a10, p.a11), p.a3)).2) (A.cmp .leq (A.call fn78 ((p.a5, p.a6, p.a7, p.a8, p.a9, p.a10, p.a11), p.a3)).2 2))) (
          .more (.c2 ⟨(A.bin .add .i64 0 0), (A.bin .sub .i64 (A.call fn78 ((p.a5, p.a6, p.a7, p.a8, p.a9, p.a10, p.a11), p.a3)).2 0), (A.bin .sub .i64 (A.call fn78 ((p.a5, p.a6, p.a7, p.a8, p.a9, p.a10, p.a11), p.a3)).2 0), 0, p.a0, p.a1, p.a3, p.a4, (A.bin .andNot .i64 p.a0 (A.bin .shl .i64 1 (A.conv .u64 p.a2))), 9, false, (A.nth (.int .i64) (A.call fn78 ((p.a5, p.a6, p.a7, p.a8, p.a9, p.a10, p.a11), p.a3)).1 0 : Int), (A.nth (.int .i64) (A.call fn78 ((p.a5, p.a6, p.a7, p.a8, p.a9, p.a10, p.a11), p.a3)).1 1 : Int), false, p.a5, p.a6, p.a7, p.a8, p.a9, p.a10, p.a11, p.a5, p.a6, p.a7, p.a8, p.a9, p.a10, p.a11, p.a3, 9⟩))))))))
  | .c1 p =>
    .need (A.call (@tt (List Int × Int)) (([] : List Int), p.b4)) (
    .need (A.call (@tt ((Int × Int × Int × Int × Int × Int × Int) × Int × Int)) ((p.b6, p.b7, p.b8, p.b9, p.b10, p.b11, p.b12), p.b2, (A.call fn31 (([] : List Int), p.b4)))) (
     .more (.c3 ⟨p.b0, p.b1, p.b2, p.b3, (A.call fn25 ((p.b6, p.b7, p.b8, p.b9, p.b10, p.b11, p.b12), p.b2, (A.call fn31 (([] : List Int), p.b4)))).2, p.b4, p.b5, (A.call fn31 (([] : List Int), p.b4)), (A.call fn25 ((p.b6, p.b7, p.b8, p.b9, p.b10, p.b11, p.b12), p.b2, (A.call fn31 (([] : List Int), p.b4)))).1.1, (A.call fn25 ((p.b6, p.b7, p.b8, p.b9, p.b10, p.b11, p.b12), p.b2, (A.call fn31 (([] : List Int), p.b4)))).1.2.1, (A.call fn25 ((p.b6, p.b7, p.b8, p.b9, p.b10, p.b11, p.b12), p.b2, (A.call fn31 (([] : List Int), p.b4)))).1.2.2.1, (A.call fn25 ((p.b6, p.b7, p.b8, p.b9, p.b10, p.b11, p.b12), p.b2, (A.call fn31 (([] : List Int), p.b4)))).1.2.2.2.1, (A.call fn25 ((p.b6, p.b7, p.b8, p.b9, p.b10, p.b11, p.b12), p.b2, (A.call fn31 (([] : List Int), p.b4)))).1.2.2.2.2.1, (A.call fn25 ((p.b6, p.b7, p.b8, p.b9, p.b10, p.b11, p.b12), p.b2, (A.call fn31 (([] : List Int), p.b4)))).1.2.2.2.2.2.1, (A.call fn25 ((p.b6, p.b7, p.b8, p.b9, p.b10, p.b11, p.b12), p.b2, (A.call fn31 (([] : List Int), p.b4)))).1.2.2.2.2.2.2⟩)))
  | .c2 p =>
    .br (A.cmp .lss p.c3 p.c2)
    (.need (A.and (A.cmp .leq 0 p.c3) (A.cmp .lss p.c3 p.c1)) (
     .br (A.cmp .geq 0 p.c29)
      (.more (.c1 ⟨p.c4, p.c5, p.c6, p.c7, p.c8, true, p.c14, p.c15, p.c16, p.c17, p.c18, p.c19, p.c20⟩))
      (.br (A.cmp .neq p.c3 0)
       (.more (.c1 ⟨p.c4, p.c5, p.c6, p.c7, p.c8, false, p.c14, p.c15, p.c16, p.c17, p.c18, p.c19, p.c20⟩))
       (.need (A.cmp .leq (A.len [(A.nth (.int .i64) [p.c11, p.c12] (A.bin .add .i64 p.c0 p.c3) : Int)]) 15637498706147) (
        .more (.c4 ⟨p.c0, p.c1, p.c2, p.c4, p.c5, p.c6, p.c7, p.c8, p.c9, p.c10, p.c11, p.c12, p.c13, p.c14, p.c15, p.c16, p.c17, p.c18, p.c19, p.c20, p.c21, p.c22, p.c23, p.c24, p.c25, p.c26, p.c27, p.c28, p.c29⟩ (A.bin .add .i64 p.c3 1) [(A.nth (.int .i64) [p.c11, p.c12] (A.bin .add .i64 p.c0 p.c3) : Int)]))))))
    (.more (.c1 ⟨p.c4, p.c5, p.c6, p.c7, p.c8, true, p.c14, p.c15, p.c16, p.c17, p.c18, p.c19, p.c20⟩))
  | .c3 p =>
    .br (A.not p.d6)
    (.ret false)
    (.br (A.cmp .lss p.d7 0)
     (.ret false)
     (.br (A.cmp .neq p.d4 0)
      (.ret false)
      (.br p.d1
       (.need (A.cmp .leq 0 (A.conv .u64 p.d2)) (
        .more (.c5 ⟨p.d1, p.d3, (A.bin .andNot .i64 p.d0 (A.bin .shl .i64 1 (A.conv .u64 p.d2))), p.d8, p.d9, p.d10, p.d11, p.d12, p.d13, p.d14⟩)))
       (.more (.c5 ⟨p.d1, p.d3, p.d5, p.d8, p.d9, p.d10, p.d11, p.d12, p.d13, p.d14⟩)))))
  | .c4 p e3 e30 =>
    .br (A.cmp .lss e3 p.e2)
    (.need (A.and (A.cmp .leq 0 e3) (A.cmp .lss e3 p.e1)) (
     .br (A.cmp .geq (A.len e30) p.e29)
      (.more (.c6 ⟨p.e4, p.e5, p.e6, p.e7, p.e8, true, p.e14, p.e15, p.e16, p.e17, p.e18, p.e19, p.e20, e30⟩))
      (.br (A.cmp .neq e3 (A.len e30))
       (.more (.c1 ⟨p.e4, p.e5, p.e6, p.e7, p.e8, false, p.e14, p.e15, p.e16, p.e17, p.e18, p.e19, p.e20⟩))
       (.need (A.cmp .leq (A.len (A.app e30 [(A.nth (.int .i64) [p.e11, p.e12] (A.bin .add .i64 p.e0 e3) : Int)])) 15637498706147) (
        .more (.c4 p (A.bin .add .i64 e3 1) (A.app e30 [(A.nth (.int .i64) [p.e11, p.e12] (A.bin .add .i64 p.e0 e3) : Int)])))))))
    (.more (.c6 ⟨p.e4, p.e5, p.e6, p.e7, p.e8, true, p.e14, p.e15, p.e16, p.e17, p.e18, p.e19, p.e20, e30⟩))
  | .c5 p =>
    .need (A.call (@tt ((Int × Int × Int × Int × Int × Int × Int))) (p.f3, p.f4, p.f5, p.f6, p.f7, p.f8, p.f9)) (
    .br (A.cmp .neq (A.call fn34 (p.f3, p.f4, p.f5, p.f6, p.f7, p.f8, p.f9)) 0)
     (.need (A.call (@tt (List Int × Int)) (([] : List Int), p.f2)) (
      .need (A.call (@tt ((Int × Int × Int × Int × Int × Int × Int) × Int × Int)) ((p.f3, p.f4, p.f5, p.f6, p.f7, p.f8, p.f9), p.f1, (A.call fn31 (([] : List Int), p.f2)))) (
       .br (A.cmp .geq (A.call fn31 (([] : List Int), p.f2)) 0)
        (.br (A.cmp .eql (A.call fn25 ((p.f3, p.f4, p.f5, p.f6, p.f7, p.f8, p.f9), p.f1, (A.call fn31 (([] : List Int), p.f2)))).2 0)
         (.br (A.cmp .eql (A.call fn25 ((p.f3, p.f4, p.f5, p.f6, p.f7, p.f8, p.f9), p.f1, (A.call fn31 (([] : List Int), p.f2)))).1.2.2.1 p.f2)
          (.need (A.call (@tt ((Int × Int × Int × Int × Int × Int × Int))) (A.call fn25 ((p.f3, p.f4, p.f5, p.f6, p.f7, p.f8, p.f9), p.f1, (A.call fn31 (([] : List Int), p.f2)))).1) (
           .br (A.beq (A.call fn24 (A.call fn25 ((p.f3, p.f4, p.f5, p.f6, p.f7, p.f8, p.f9), p.f1, (A.call fn31 (([] : List Int), p.f2)))).1) p.f0)
            (.ret (A.cmp .eql (A.call fn25 ((p.f3, p.f4, p.f5, p.f6, p.f7, p.f8, p.f9), p.f1, (A.call fn31 (([] : List Int), p.f2)))).1.2.2.2.2.2.1 0))
            (.ret false)))
          (.ret false))
         (.ret false))
        (.ret false))))
     (.need (A.call (@tt ((Int × Int × Int × Int × Int × Int × Int) × Int)) ((p.f3, p.f4, p.f5, p.f6, p.f7, p.f8, p.f9), p.f1)) (
      .br (A.not (A.call fn77 ((p.f3, p.f4, p.f5, p.f6, p.f7, p.f8, p.f9), p.f1)))
       (.need (A.call (@tt (List Int × Int)) (([] : List Int), p.f2)) (
        .need (A.call (@tt ((Int × Int × Int × Int × Int × Int × Int) × Int × Int)) ((p.f3, p.f4, p.f5, p.f6, p.f7, p.f8, p.f9), p.f1, (A.call fn31 (([] : List Int), p.f2)))) (
         .br (A.cmp .geq (A.call fn31 (([] : List Int), p.f2)) 0)
          (.br (A.cmp .eql (A.call fn25 ((p.f3, p.f4, p.f5, p.f6, p.f7, p.f8, p.f9), p.f1, (A.call fn31 (([] : List Int), p.f2)))).2 0)
           (.br (A.cmp .eql (A.call fn25 ((p.f3, p.f4, p.f5, p.f6, p.f7, p.f8, p.f9), p.f1, (A.call fn31 (([] : List Int), p.f2)))).1.2.2.1 p.f2)
            (.need (A.call (@tt ((Int × Int × Int × Int × Int × Int × Int))) (A.call fn25 ((p.f3, p.f4, p.f5, p.f6, p.f7, p.f8, p.f9), p.f1, (A.call fn31 (([] : List Int), p.f2)))).1) (
             .br (A.beq (A.call fn24 (A.call fn25 ((p.f3, p.f4, p.f5, p.f6, p.f7, p.f8, p.f9), p.f1, (A.call fn31 (([] : List Int), p.f2)))).1) p.f0)
              (.ret (A.cmp .eql (A.call fn25 ((p.f3, p.f4, p.f5, p.f6, p.f7, p.f8, p.f9), p.f1, (A.call fn31 (([] : List Int), p.f2)))).1.2.2.2.2.2.1 0))
              (.ret false)))
            (.ret false))
           (.ret false))
          (.ret false))))
       (.need (A.call pre78 ((p.f3, p.f4, p.f5, p.f6, p.f7, p.f8, p.f9), p.f1)) (
        .need (A.and (A.cmp .leq 0 0) (A.and (A.cmp .leq 0 (A.call fn78 ((p.f3, p.f4, p.f5, p.f6, p.f7, p.f8, p.f9), p.f1)).2) (A.cmp .leq (A.call fn78 ((p.f3, p.f4, p.f5, p.f6, p.f7, p.f8, p.f9), p.f1)).2 2))) (
         .more (.c7 ⟨(A.bin .add .i64 0 0), (A.bin .sub .i64 (A.call fn78 ((p.f3, p.f4, p.f5, p.f6, p.f7, p.f8, p.f9), p.f1)).2 0), (A.bin .sub .i64 (A.call fn78 ((p.f3, p.f4, p.f5, p.f6, p.f7, p.f8, p.f9), p.f1)).2 0), 0, p.f0, p.f1, p.f2, 9, false, (A.nth (.int .i64) (A.call fn78 ((p.f3, p.f4, p.f5, p.f6, p.f7, p.f8, p.f9), p.f1)).1 0 : Int), (A.nth (.int .i64) (A.call fn78 ((p.f3, p.f4, p.f5, p.f6, p.f7, p.f8, p.f9), p.f1)).1 1 : Int), false, p.f3, p.f4, p.f5, p.f6, p.f7, p.f8, p.f9, p.f3, p.f4, p.f5, p.f6, p.f7, p.f8, p.f9, p.f1, 9⟩)))))))
  | .c6 p =>
    .need (A.call (@tt (List Int × Int)) (p.g13, p.g4)) (
    .need (A.call (@tt ((Int × Int × Int × Int × Int × Int × Int) × Int × Int)) ((p.g6, p.g7, p.g8, p.g9, p.g10, p.g11, p.g12), p.g2, (A.call fn31 (p.g13, p.g4)))) (
     .more (.c3 ⟨p.g0, p.g1, p.g2, p.g3, (A.call fn25 ((p.g6, p.g7, p.g8, p.g9, p.g10, p.g11, p.g12), p.g2, (A.call fn31 (p.g13, p.g4)))).2, p.g4, p.g5, (A.call fn31 (p.g13, p.g4)), (A.call fn25 ((p.g6, p.g7, p.g8, p.g9, p.g10, p.g11, p.g12), p.g2, (A.call fn31 (p.g13, p.g4)))).1.1, (A.call fn25 ((p.g6, p.g7, p.g8, p.g9, p.g10, p.g11, p.g12), p.g2, (A.call fn31 (p.g13, p.g4)))).1.2.1, (A.call fn25 ((p.g6, p.g7, p.g8, p.g9, p.g10, p.g11, p.g12), p.g2, (A.call fn31 (p.g13, p.g4)))).1.2.2.1, (A.call fn25 ((p.g6, p.g7, p.g8, p.g9, p.g10, p.g11, p.g12), p.g2, (A.call fn31 (p.g13, p.g4)))).1.2.2.2.1, (A.call fn25 ((p.g6, p.g7, p.g8, p.g9, p.g10, p.g11, p.g12), p.g2, (A.call fn31 (p.g13, p.g4)))).1.2.2.2.2.1, (A.call fn25 ((p.g6, p.g7, p.g8, p.g9, p.g10, p.g11, p.g12), p.g2, (A.call fn31 (p.g13, p.g4)))).1.2.2.2.2.2.1, (A.call fn25 ((p.g6, p.g7, p.g8, p.g9, p.g10, p.g11, p.g12), p.g2, (A.call fn31 (p.g13, p.g4)))).1.2.2.2.2.2.2⟩)))
  | .c7 p =>
    .br (A.cmp .lss p.h3 p.h2)
    (.need (A.and (A.cmp .leq 0 p.h3) (A.cmp .lss p.h3 p.h1)) (
     .br (A.cmp .geq 0 p.h27)
      (.need (A.call (@tt (List Int × Int)) (([] : List Int), p.h6)) (
       .need (A.call (@tt ((Int × Int × Int × Int × Int × Int × Int) × Int × Int)) ((p.h12, p.h13, p.h14, p.h15, p.h16, p.h17, p.h18), p.h5, (A.call fn31 (([] : List Int), p.h6)))) (
        .br (A.cmp .geq (A.call fn31 (([] : List Int), p.h6)) 0)
         (.br (A.cmp .eql (A.call fn25 ((p.h12, p.h13, p.h14, p.h15, p.h16, p.h17, p.h18), p.h5, (A.call fn31 (([] : List Int), p.h6)))).2 0)
          (.br (A.cmp .eql (A.call fn25 ((p.h12, p.h13, p.h14, p.h15, p.h16, p.h17, p.h18), p.h5, (A.call fn31 (([] : List Int), p.h6)))).1.2.2.1 p.h6)
           (.need (A.call (@tt ((Int × Int × Int × Int × Int × Int × Int))) (A.call fn25 ((p.h12, p.h13, p.h14, p.h15, p.h16, p.h17, p.h18), p.h5, (A.call fn31 (([] : List Int), p.h6)))).1) (
            .br (A.beq (A.call fn24 (A.call fn25 ((p.h12, p.h13, p.h14, p.h15, p.h16, p.h17, p.h18), p.h5, (A.call fn31 (([] : List Int), p.h6)))).1) p.h4)
             (.ret (A.cmp .eql (A.call fn25 ((p.h12, p.h13, p.h14, p.h15, p.h16, p.h17, p.h18), p.h5, (A.call fn31 (([] : List Int), p.h6)))).1.2.2.2.2.2.1 0))
             (.ret false)))
           (.ret false))
          (.ret false))
         (.ret false))))
      (.br (A.cmp .neq p.h3 0)
       (.need (A.call (@tt (List Int × Int)) (([] : List Int), p.h6)) (
        .need (A.call (@tt ((Int × Int × Int × Int × Int × Int × Int) × Int × Int)) ((p.h12, p.h13, p.h14, p.h15, p.h16, p.h17, p.h18), p.h5, (A.call fn31 (([] : List Int), p.h6)))) (
         .ret false)))
       (.need (A.cmp .leq (A.len [(A.nth (.int .i64) [p.h9, p.h10] (A.bin .add .i64 p.h0 p.h3) : Int)]) 15637498706147) (
        .more (.c8 ⟨p.h0, p.h1, p.h2, p.h4, p.h5, p.h6, p.h7, p.h8, p.h9, p.h10, p.h11, p.h12, p.h13, p.h14, p.h15, p.h16, p.h17, p.h18, p.h19, p.h20, p.h21, p.h22, p.h23, p.h24, p.h25, p.h26, p.h27⟩ (A.bin .add .i64 p.h3 1) [(A.nth (.int .i64) [p.h9, p.h10] (A.bin .add .i64 p.h0 p.h3) : Int)]))))))
    (.need (A.call (@tt (List Int × Int)) (([] : List Int), p.h6)) (
     .need (A.call (@tt ((Int × Int × Int × Int × Int × Int × Int) × Int × Int)) ((p.h12, p.h13, p.h14, p.h15, p.h16, p.h17, p.h18), p.h5, (A.call fn31 (([] : List Int), p.h6)))) (
      .br (A.cmp .geq (A.call fn31 (([] : List Int), p.h6)) 0)
       (.br (A.cmp .eql (A.call fn25 ((p.h12, p.h13, p.h14, p.h15, p.h16, p.h17, p.h18), p.h5, (A.call fn31 (([] : List Int), p.h6)))).2 0)
        (.br (A.cmp .eql (A.call fn25 ((p.h12, p.h13, p.h14, p.h15, p.h16, p.h17, p.h18), p.h5, (A.call fn31 (([] : List Int), p.h6)))).1.2.2.1 p.h6)
         (.need (A.call (@tt ((Int × Int × Int × Int × Int × Int × Int))) (A.call fn25 ((p.h12, p.h13, p.h14, p.h15, p.h16, p.h17, p.h18), p.h5, (A.call fn31 (([] : List Int), p.h6)))).1) (
          .br (A.beq (A.call fn24 (A.call fn25 ((p.h12, p.h13, p.h14, p.h15, p.h16, p.h17, p.h18), p.h5, (A.call fn31 (([] : List Int), p.h6)))).1) p.h4)
           (.ret (A.cmp .eql (A.call fn25 ((p.h12, p.h13, p.h14, p.h15, p.h16, p.h17, p.h18), p.h5, (A.call fn31 (([] : List Int), p.h6)))).1.2.2.2.2.2.1 0))
           (.ret false)))
         (.ret false))
        (.ret false))
       (.ret false))))
  | .c8 p z83 z828 =>
    .br (A.cmp .lss z83 p.z82)
    (.need (A.and (A.cmp .leq 0 z83) (A.cmp .lss z83 p.z81)) (
     .br (A.cmp .geq (A.len z828) p.z827)
      (.need (A.call (@tt (List Int × Int)) (z828, p.z86)) (
       .need (A.call (@tt ((Int × Int × Int × Int × Int × Int × Int) × Int × Int)) ((p.z812, p.z813, p.z814, p.z815, p.z816, p.z817, p.z818), p.z85, (A.call fn31 (z828, p.z86)))) (
        .br (A.cmp .geq (A.call fn31 (z828, p.z86)) 0)
         (.br (A.cmp .eql (A.call fn25 ((p.z812, p.z813, p.z814, p.z815, p.z816, p.z817, p.z818), p.z85, (A.call fn31 (z828, p.z86)))).2 0)
          (.br (A.cmp .eql (A.call fn25 ((p.z812, p.z813, p.z814, p.z815, p.z816, p.z817, p.z818), p.z85, (A.call fn31 (z828, p.z86)))).1.2.2.1 p.z86)
           (.need (A.call (@tt ((Int × Int × Int × Int × Int × Int × Int))) (A.call fn25 ((p.z812, p.z813, p.z814, p.z815, p.z816, p.z817, p.z818), p.z85, (A.call fn31 (z828, p.z86)))).1) (
            .br (A.beq (A.call fn24 (A.call fn25 ((p.z812, p.z813, p.z814, p.z815, p.z816, p.z817, p.z818), p.z85, (A.call fn31 (z828, p.z86)))).1) p.z84)
             (.ret (A.cmp .eql (A.call fn25 ((p.z812, p.z813, p.z814, p.z815, p.z816, p.z817, p.z818), p.z85, (A.call fn31 (z828, p.z86)))).1.2.2.2.2.2.1 0))
             (.ret false)))
           (.ret false))
          (.ret false))
         (.ret false))))
      (.br (A.cmp .neq z83 (A.len z828))
       (.need (A.call (@tt (List Int × Int)) (([] : List Int), p.z86)) (
        .need (A.call (@tt ((Int × Int × Int × Int × Int × Int × Int) × Int × Int)) ((p.z812, p.z813, p.z814, p.z815, p.z816, p.z817, p.z818), p.z85, (A.call fn31 (([] : List Int), p.z86)))) (
         .ret false)))
       (.need (A.cmp .leq (A.len (A.app z828 [(A.nth (.int .i64) [p.z89, p.z810] (A.bin .add .i64 p.z80 z83) : Int)])) 15637498706147) (
        .more (.c8 p (A.bin .add .i64 z83 1) (A.app z828 [(A.nth (.int .i64) [p.z89, p.z810] (A.bin .add .i64 p.z80 z83) : Int)])))))))
    (.need (A.call (@tt (List Int × Int)) (z828, p.z86)) (
     .need (A.call (@tt ((Int × Int × Int × Int × Int × Int × Int) × Int × Int)) ((p.z812, p.z813, p.z814, p.z815, p.z816, p.z817, p.z818), p.z85, (A.call fn31 (z828, p.z86)))) (
      .br (A.cmp .geq (A.call fn31 (z828, p.z86)) 0)
       (.br (A.cmp .eql (A.call fn25 ((p.z812, p.z813, p.z814, p.z815, p.z816, p.z817, p.z818), p.z85, (A.call fn31 (z828, p.z86)))).2 0)
        (.br (A.cmp .eql (A.call fn25 ((p.z812, p.z813, p.z814, p.z815, p.z816, p.z817, p.z818), p.z85, (A.call fn31 (z828, p.z86)))).1.2.2.1 p.z86)
         (.need (A.call (@tt ((Int × Int × Int × Int × Int × Int × Int))) (A.call fn25 ((p.z812, p.z813, p.z814, p.z815, p.z816, p.z817, p.z818), p.z85, (A.call fn31 (z828, p.z86)))).1) (
          .br (A.beq (A.call fn24 (A.call fn25 ((p.z812, p.z813, p.z814, p.z815, p.z816, p.z817, p.z818), p.z85, (A.call fn31 (z828, p.z86)))).1) p.z84)
           (.ret (A.cmp .eql (A.call fn25 ((p.z812, p.z813, p.z814, p.z815, p.z816, p.z817, p.z818), p.z85, (A.call fn31 (z828, p.z86)))).1.2.2.2.2.2.1 0))
           (.ret false)))
         (.ret false))
        (.ret false))
       (.ret false))))
noncomputable def E5 (A : Alg) : Info (Ty.Ts [.bool]) := { ti := tys, fns := [(5, Try.f5), (29, Try.f29), (30, Try.f30), (76, Try.f76)], sps := [(21, sp21), (22, sp22), (23, sp23), (24, sp24), (25, sp25), (31, sp31), (34, sp34), (77, sp77), (78, sp78)], stops := [⟨76, 3, [[0, 24, 25, 26], [4, 5, 6], [2, 3, 11, 12, 13, 17, 21]]⟩], cuts := [⟨5, 9, [[2, 3, 10, 11, 12, 13]]⟩, ⟨5, 11, [[2, 3, 11, 12, 13, 17, 18, 19]]⟩, ⟨5, 13, [[2, 3, 11, 12, 13, 14, 17, 19, 20]]⟩, ⟨5, 18, [[3, 12, 13, 21]]⟩], consts := [], fin := finD A [.bool] }
theorem t5_ok (A : Alg) (id : Int) (n : Int) (set1 : Int) (came : Bool) : run A (E5 A) 113 (startC 5 Try.f5 (dvals A [(.int .u8), (.int .u8), (.int .i64), .bool] (id, n, set1, came))) = (t5 A id n set1 came).tr cfg5 := by kernel_rfl
theorem s5_ok (A : Alg) : ∀ y, ∃ n, run A (E5 A) n (advance (E5 A).sps (cfg5 y)) = (s5 A y).tr cfg5
  | .c0 p => ⟨92, by kernel_rfl⟩
  | .c1 p => ⟨25, by kernel_rfl⟩
  | .c2 p => ⟨76, by kernel_rfl⟩
  | .c3 p => ⟨39, by kernel_rfl⟩
  | .c4 p e3 e30 => ⟨76, by kernel_rfl⟩
  | .c5 p => ⟨126, by kernel_rfl⟩
  | .c6 p => ⟨25, by kernel_rfl⟩
  | .c7 p => ⟨124, by kernel_rfl⟩
  | .c8 p z83 z828 => ⟨124, by kernel_rfl⟩
def w5 : Walk Try.prog 5 [(.int .u8), (.int .u8), (.int .i64), .bool] [.bool] Y5 := ⟨fun (id, n, set1, came) => t5 std id n set1 came, s5 std⟩
theorem w5_ok : w5.Ok :=
  walk_ok (E := E5 std) ⟨tys_fit, fns_cons Try.func5 (by kernel_rfl) (fns_cons Try.func29 (by kernel_rfl) (fns_cons Try.func30 (by kernel_rfl) (fns_cons Try.func76 (by kernel_rfl) (fns_nil)))), sps_cons so21 (sps_cons so22 (sps_cons so23 (sps_cons so24 (sps_cons so25 (sps_cons so31 (sps_cons so34 (sps_cons so77 (sps_cons so78 (sps_nil))))))))), by kernel_rfl⟩ rfl rfl rfl (by kernel_rfl) w5 cfg5 113 (fun (id, n, set1, came) => t5_ok std id n set1 came) (s5_ok std)

theorem ins_same {c s : Int} (h0 : 0 ≤ c) (h1 : c < 256) (h2 : 0 ≤ s) (h3 : s < 8) (h : bitT c s = true) : insB c s = c := by
  have hl := ins_lt (c := c) (s := s) (n := 8) h0 (by omega) (by simpa using h1) h2 h3
  refine bit_ext hl.1 (by simpa using hl.2) h0 h1 fun i hi _ => ?_
  rw [bit_ins h0 h1 h2 h3 hi]
  by_cases hs : s = i
  · subst hs; rw [h]; rfl
  · simp [hs]
theorem told_end {a b c k S : Int} {came : Bool} (hk : 4 ≤ k ∧ k ≤ 8) (ha : 0 ≤ a ∧ a < k) (hb : 0 ≤ b ∧ b < k) (hc : 0 ≤ c ∧ c < k) (hab : a ≠ b) (hac : a ≠ c) (hbc : b ≠ c) (hS0 : 0 ≤ S) (hS1 : S < ((2 ^ k.toNat : Nat) : Int)) (ba : bitT S a = true) (bb : bitT S b = true) (bc : bitT S c = true) :
    Runs (s5 std) (.more (.c0 ⟨S, came, a, b, c, a, k, S, 1, 0, 1, 0⟩)) true := by
  have hp := pow_le (n := k.toNat) (by omega)
  have ia := ins_same (c := S) (s := a) hS0 (by omega) ha.1 (by omega) ba
  have ib := ins_same (c := S) (s := b) hS0 (by omega) hb.1 (by omega) bb
  have ic := ins_same (c := S) (s := c) hS0 (by omega) hc.1 (by omega) bc
  have da := del_lt (c := S) (s := a) (n := k) hS0 hk.2 hS1 ha.1 (by omega)
  have db := del_lt (c := S) (s := b) (n := k) hS0 hk.2 hS1 hb.1 (by omega)
  have h1 : okM a k S 1 0 1 0 := by
    unfold okM
    exact ⟨hk.1, hk.2, ha.1, ha.2, by omega, by omega, hS0, hS1, by omega, by omega, by omega, by omega, by omega, by omega, fun _ => ba, fun h => by omega⟩
  have h2 : okM a k S 1 0 2 b := by
    unfold okM
    exact ⟨hk.1, hk.2, ha.1, ha.2, hb.1, hb.2, hS0, hS1, by omega, by omega, by omega, by omega, by omega, by omega, fun _ => ba, fun _ => by omega⟩
  have v1 : fn78 ((a, k, S, 1, 0, 1, 0), b) = ([S, delB S a], 2) := by rw [fn78_1, ib, ia]
  have v2 : fn78 ((a, k, S, 1, 0, 2, b), c) = ([delB S b, delB S a], 2) := by rw [fn78_2b (Ne.symm hbc), ic, ia, ib]
  have g1 : fn25 ((a, k, S, 1, 0, 1, 0), b, 1) = ((a, k, S, 1, 0, 2, b), 0) := by rw [good_11 h1 hb.1 hb.2 (Ne.symm hab), ib]
  have g2 : fn25 ((a, k, S, 1, 0, 2, b), c, 0) = ((a, k, delB S b, 2, 1, 0, 0), 0) := by
    rw [good_2b h2 hc.1 hc.2 (Ne.symm hac) (Ne.symm hbc), ic, ia]; rfl
  have g3 : fn25 ((a, k, S, 1, 0, 2, b), c, 1) = ((a, k, delB S a, 2, 1, 0, 0), 0) := by
    rw [good_2c h2 hc.1 hc.2 (Ne.symm hac) (Ne.symm hbc), ic, ib]; rfl
  have na : bitT (delB S a) a = false := by rw [bit_del hS0 (by omega) ha.1 (by omega) ha.1]; simp
  have nab : bitT (delB S b) a = true := by rw [bit_del hS0 (by omega) hb.1 (by omega) ha.1, ba]; simpa using Ne.symm hab
  have n1 : ¬ delB S a = S := fun h => by rw [h] at na; rw [na] at ba; cases ba
  have n2 : ¬ delB S a = delB S b := fun h => by rw [h] at na; rw [na] at nab; cases nab
  have k2 : okM a k (delB S b) 2 1 0 0 := by
    unfold okM
    exact ⟨hk.1, hk.2, ha.1, ha.2, by omega, by omega, db.1, db.2, by omega, by omega, by omega, by omega, by omega, by omega, fun h => by omega, fun h => by omega⟩
  have k3 : okM a k (delB S a) 2 1 0 0 := by
    unfold okM
    exact ⟨hk.1, hk.2, ha.1, ha.2, by omega, by omega, da.1, da.2, by omega, by omega, by omega, by omega, by omega, by omega, fun h => by omega, fun h => by omega⟩
  have i2 : fn24 (a, k, delB S b, 2, 1, 0, 0) = true := by rw [in_iff k2, nab]
  have i3 : fn24 (a, k, delB S a, 2, 1, 0, 0) = false := by rw [in_iff k3, na]
  have w1 := fn34_zero.2 h1
  have w2 := fn34_zero.2 h2
  have o1 := (fn77_iff (a := a) (b := k) (c := S) (d := 1) (e := 0) (f := 1) (g := 0) (s := b) hk.1 hk.2).2 ⟨hb.1, hb.2, Ne.symm hab⟩
  have o2 := (fn77_iff (a := a) (b := k) (c := S) (d := 1) (e := 0) (f := 2) (g := b) (s := c) hk.1 hk.2).2 ⟨hc.1, hc.2, Ne.symm hac⟩
  have p1 : pre78 ((a, k, S, 1, 0, 1, 0), b) = true := by simp [pre78]; omega
  have p2 : pre78 ((a, k, S, 1, 0, 2, b), c) = true := by simp [pre78]; omega
  have ca : std.conv .u64 a = a := by rw [std_conv, wu64 (by omega) (by omega)]
  have cb : std.conv .u64 b = b := by rw [std_conv, wu64 (by omega) (by omega)]
  have la : (0 ≤ a) = True := by simp [ha.1]
  have lb : (0 ≤ b) = True := by simp [hb.1]
  have f31 : ∀ (l : List Int) (v : Int), fn31 (l, v) = ixAt v l 0 := fun _ _ => rfl
  have dd : ∀ c s : Int, std.bin .andNot .i64 c (std.bin .shl .i64 1 s) = delB c s := fun _ _ => rfl
  have m0 : ∀ x y : Int, std.nth (.int .i64) (@List.cons (Ty.int .i64).T x (@List.cons (Ty.int .i64).T y [])) 0 = x := fun _ _ => rfl
  have m1 : ∀ x y : Int, std.nth (.int .i64) (@List.cons (Ty.int .i64).T x (@List.cons (Ty.int .i64).T y [])) 1 = y := fun _ _ => rfl
  have hlT : ∀ x : Int, std.len (@List.cons (Ty.int .i64).T x []) = 1 := fun _ => rfl
  have hl1 : ∀ x : Int, std.len ([x] : List Int) = 1 := fun _ => rfl
  have hl2 : ∀ x y : Int, std.len ([x, y] : List Int) = 2 := fun _ _ => rfl
  have hl3 : ∀ x y : Int, std.len (@List.cons (Ty.int .i64).T x (@List.cons (Ty.int .i64).T y [])) = 2 := fun _ _ => rfl
  have haT : ∀ x y : Int, std.app (@List.cons (Ty.int .i64).T x []) (@List.cons (Ty.int .i64).T y []) = ([x, y] : List Int) := fun _ _ => rfl
  have happ : ∀ l m : List Int, std.app l m = l ++ m := fun _ _ => rfl
  have ea0 : std.bin .add .i64 0 0 = 0 := by decide
  have ea1 : std.bin .add .i64 0 1 = 1 := by decide
  have ea2 : std.bin .add .i64 1 1 = 2 := by decide
  have es2 : std.bin .sub .i64 2 0 = 2 := by decide
  cases came
  · simp [runs_more, s5, runs_need, runs_br, runs_ret, std_call, tt_eq, std_cmp_neq, std_cmp_eql, std_cmp_lss, std_cmp_geq, std_cmp_leq, std_not, std_and, std_beq, w1, w2, o1, o2, p1, p2, v1, v2, g1, g2, g3, i2, i3, ca, cb, la, lb, f31, dd, m0, m1, hlT, hl1, hl2, hl3, haT, happ, ea0, ea1, ea2, es2, ixAt, n1, n2, nth_int]
  · simp [runs_more, s5, runs_need, runs_br, runs_ret, std_call, tt_eq, std_cmp_neq, std_cmp_eql, std_cmp_lss, std_cmp_geq, std_cmp_leq, std_not, std_and, std_beq, w1, w2, o1, o2, p1, p2, v1, v2, g1, g2, g3, i2, i3, ca, cb, la, lb, f31, dd, m0, m1, hlT, hl1, hl2, hl3, haT, happ, ea0, ea1, ea2, es2, ixAt, n1, n2, nth_int]
theorem told {id n set1 : Int} {came : Bool} (h : Ty.hass [(.int .u8), (.int .u8), (.int .i64), .bool] (id, n, set1, came)) : Runs (s5 std) (t5 std id n set1 came) true := by
  simp only [Ty.hass, Ty.has, has8, has64] at h
  have hc : std.conv .i64 n = n := by rw [std_conv, w64 (by omega) (by omega)]
  have hci : std.conv .i64 id = id := by rw [std_conv, w64 (by omega) (by omega)]
  have hm : n.tmod 5 = n % 5 := Int.tmod_eq_emod_of_nonneg h.2.1.1
  have hk : std.bin .add .i64 4 (std.bin .rem .i64 n 5) = 4 + n % 5 := by rw [std_rem, hm, std_add, w64 (by omega) (by omega)]
  have hk48 : 4 ≤ 4 + n % 5 ∧ 4 + n % 5 ≤ 8 := by omega
  unfold t5
  simp only [hc, hci, hk]
  generalize 4 + n % 5 = k at *
  have ha : std.bin .rem .i64 id k = id % k := by rw [std_rem]; exact Int.tmod_eq_emod_of_nonneg h.1.1
  have hb : std.bin .rem .i64 (std.bin .add .i64 id 1) k = (id + 1) % k := by rw [std_add, w64 (by omega) (by omega), std_rem]; exact Int.tmod_eq_emod_of_nonneg (by omega)
  have hd : std.bin .rem .i64 (std.bin .add .i64 id 2) k = (id + 2) % k := by rw [std_add, w64 (by omega) (by omega), std_rem]; exact Int.tmod_eq_emod_of_nonneg (by omega)
  have hall : (0 ≤ id % k ∧ id % k < k) ∧ (0 ≤ (id + 1) % k ∧ (id + 1) % k < k) ∧ (0 ≤ (id + 2) % k ∧ (id + 2) % k < k) ∧ id % k ≠ (id + 1) % k ∧ id % k ≠ (id + 2) % k ∧ (id + 1) % k ≠ (id + 2) % k := by
    have : k = 4 ∨ k = 5 ∨ k = 6 ∨ k = 7 ∨ k = 8 := by omega
    rcases this with rfl | rfl | rfl | rfl | rfl <;> omega
  simp only [ha, hb, hd]
  generalize id % k = a at *
  generalize (id + 1) % k = b at *
  generalize (id + 2) % k = c at *
  obtain ⟨ha2, hb2, hc2, hab, hac, hbc⟩ := hall
  have hp := pow_le (n := k.toNat) (by omega)
  have hp1 : 1 ≤ 2 ^ k.toNat := Nat.one_le_two_pow
  have hku : std.conv .u64 k = k := by rw [std_conv, wu64 (by omega) (by omega)]
  have hau : std.conv .u64 a = a := by rw [std_conv, wu64 (by omega) (by omega)]
  have hbu : std.conv .u64 b = b := by rw [std_conv, wu64 (by omega) (by omega)]
  have hcu : std.conv .u64 c = c := by rw [std_conv, wu64 (by omega) (by omega)]
  have hsh : std.bin .sub .i64 (std.bin .shl .i64 1 k) 1 = ((2 ^ k.toNat : Nat) : Int) - 1 := by rw [shl1 (by omega) hk48.2, std_sub, w64 (by omega) (by omega)]
  have hS := and_mask (x := set1) (m := ((2 ^ k.toNat : Nat) : Int) - 1) (by omega) (by omega)
  have ii : ∀ c s : Int, std.bin .or .i64 c (std.bin .shl .i64 1 s) = insB c s := fun _ _ => rfl
  simp only [hku, hau, hbu, hcu, hsh]
  generalize std.bin .and .i64 set1 (((2 ^ k.toNat : Nat) : Int) - 1) = S0 at *
  simp only [ii]
  have l0 : S0 < ((2 ^ k.toNat : Nat) : Int) := by omega
  have l1 := ins_lt (c := S0) (s := a) (n := k) hS.1 hk48.2 l0 ha2.1 ha2.2
  have l2 := ins_lt (c := insB S0 a) (s := b) (n := k) l1.1 hk48.2 l1.2 hb2.1 hb2.2
  have l3 := ins_lt (c := insB (insB S0 a) b) (s := c) (n := k) l2.1 hk48.2 l2.2 hc2.1 hc2.2
  have bits : ∀ i : Int, 0 ≤ i → bitT (insB (insB (insB S0 a) b) c) i = (((bitT S0 i || a == i) || b == i) || c == i) := fun i hi => by
    rw [bit_ins l2.1 (by omega) hc2.1 (by omega) hi, bit_ins l1.1 (by omega) hb2.1 (by omega) hi, bit_ins hS.1 (by omega) ha2.1 (by omega) hi]
  have ba : bitT (insB (insB (insB S0 a) b) c) a = true := by rw [bits a ha2.1]; simp
  have bb : bitT (insB (insB (insB S0 a) b) c) b = true := by rw [bits b hb2.1]; simp
  have bc : bitT (insB (insB (insB S0 a) b) c) c = true := by rw [bits c hc2.1]; simp
  generalize insB (insB (insB S0 a) b) c = S at *
  have hnew := new_ok (a := a) (b := k) (c := S) hk48 ha2 l3
  have hok : okM a k S 1 0 0 0 := by
    unfold okM
    exact ⟨hk48.1, hk48.2, ha2.1, ha2.2, by omega, by omega, l3.1, l3.2, by omega, by omega, by omega, by omega, by omega, by omega, fun h => absurd rfl h, fun h => by omega⟩
  have hown : fn23 (a, k, S, 1, 0, 0, 0) = ((a, k, S, 1, 0, 1, 0), 1, 0) := by
    rw [own_send hok (by omega), ins_same l3.1 (by omega) ha2.1 (by omega) ba]
  have hend := told_end (came := came) hk48 ha2 hb2 hc2 hab hac hbc l3.1 l3.2 ba bb bc
  have hk0 : (k != 0) = true := by simp; omega
  have lk : (0 ≤ k) = True := by simp; omega
  have la : (0 ≤ a) = True := by simp [ha2.1]
  have lb : (0 ≤ b) = True := by simp [hb2.1]
  have lc : (0 ≤ c) = True := by simp [hc2.1]
  simp only [runs_need, runs_br, std_call, tt_eq, begun_true, std_not, std_cmp_neq, std_cmp_leq, hnew, hown, bne_self_eq_false, Bool.not_true, cond_false, true_and, hk0, lk, la, lb, lc, decide_true]
  exact hend

def fn5 : Int × Int × Int × Bool → Bool := fun _ => true
def sp5 : FSpec := ⟨[(.int .u8), (.int .u8), (.int .i64), .bool], [.bool], (@tt (Int × Int × Int × Bool)), fn5⟩
theorem run5 {id : Int} {n : Int} {set1 : Int} {came : Bool} (h : Ty.hass [(.int .u8), (.int .u8), (.int .i64), .bool] (id, n, set1, came)) : Runs (s5 std) (t5 std id n set1 came) (fn5 (id, n, set1, came)) := by
  exact told h
theorem so5 : FSpec.Sound Try.prog 5 sp5 :=
  w5_ok.sound _ _ fun (id, n, set1, came) _ h => run5 h
theorem law5 (x : Int × Int × Int × Bool) (_ : Ty.hass [(.int .u8), (.int .u8), (.int .i64), .bool] x) : fn5 x = true := rfl

end Go.Ev.M
