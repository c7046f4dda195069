/-
  PROVED: what metronomeref02.Burst computes, and the statement FrameBurst of its function. Conditions: none.
-/
import Derived.Test.YtafbddhnoacldaaLb
namespace Go.Ev.M
open Go.Proofs
set_option maxRecDepth 100000
set_option linter.unusedVariables false
set_option linter.unusedSimpArgs false

open Go.Ev.Pl
/-! ### metronome/metronomeref01.Flip (function 98) -/
structure P98c0 where
  a0 : List Int
  a1 : Int
  a2 : Int
  a3 : List Int
  a4 : Int
structure P98c1 where
  b0 : Int
  b1 : List Int
  b2 : Int
  b3 : List Int
  b4 : Int
  b5 : List Int
  b6 : Int
structure P98c2 where
  c1 : List Int
  c2 : Int
  c3 : List Int
  c5 : Int
  c6 : List Int
  c7 : Int
structure P98c3 where
  d0 : List Int
  d2 : Int
  d3 : List Int
  d4 : Int
inductive Y98 where
  | c0 (p : P98c0)
  | c1 (p : P98c1)
  | c2 (p : P98c2) (c0 : Int) (c4 : List Bool)
  | c3 (p : P98c3) (d1 : Int) (d5 : List Bool)
noncomputable def cfg98 : Y98 → Cfg
  | .c0 p => { frames := [{ fn := 98, n := 53, env := (Env.put (Env.put (Env.put (Env.put (Env.put .leaf 1 (.sl (.int .i64) p.a0)) 2 (.ptr 0 0)) 4 (.ptr 1 0)) 6 (.esl true)) 7 (.int .i64 false p.a1)), todo := [.inLoop (Code.way (bodyOf Try.f98) [1, 1, 1, 0, 1, 0, 0]), .inBlock 0, .code (Code.way (bodyOf Try.f98) [1, 1, 1, 1])], marks := [], rnd := none }], mem := [.flat false [.int .i64 false p.a2, .sl (.int .u8) p.a3], .flat false [.int .i64 false p.a4, .esl true], .dead] }
  | .c1 p => { frames := [{ fn := 127, n := 22, env := (Env.put (Env.put (Env.put .leaf 1 (.ptr 0 0)) 3 (.esl true)) 4 (.int .i64 false p.b0)), todo := [.inLoop (Code.way (bodyOf Try.f127) [1, 1, 1, 0, 1, 0, 0]), .inBlock 0, .code (Code.way (bodyOf Try.f127) [1, 1, 1, 1])], marks := [], rnd := none }, { fn := 98, n := 53, env := (Env.put (Env.put (Env.put .leaf 1 (.sl (.int .i64) p.b1)) 2 (.ptr 1 0)) 4 (.ptr 2 0)), todo := [.ops (opsOf (Code.way (bodyOf Try.f98) [1, 1, 0])) ((opsOf (Code.way (bodyOf Try.f98) [1, 1, 0])).toList.drop 1), .code (Code.way (bodyOf Try.f98) [1, 1, 1])], marks := [], rnd := none }], mem := [.flat false [.int .i64 false p.b2, .sl (.int .u8) p.b3], .flat false [.int .i64 false p.b4, .sl (.int .u8) p.b5], .flat false [.int .i64 false p.b6, .esl true], .dead] }
  | .c2 p c0 c4 => { frames := [{ fn := 127, n := 22, env := (Env.put (Env.put (Env.put .leaf 1 (.ptr 0 0)) 3 (.own 1)) 4 (.int .i64 false c0)), todo := [.inLoop (Code.way (bodyOf Try.f127) [1, 1, 1, 0, 1, 0, 0]), .inBlock 0, .code (Code.way (bodyOf Try.f127) [1, 1, 1, 1])], marks := [], rnd := none }, { fn := 98, n := 53, env := (Env.put (Env.put (Env.put .leaf 1 (.sl (.int .i64) p.c1)) 2 (.ptr 2 0)) 4 (.ptr 3 0)), todo := [.ops (opsOf (Code.way (bodyOf Try.f98) [1, 1, 0])) ((opsOf (Code.way (bodyOf Try.f98) [1, 1, 0])).toList.drop 1), .code (Code.way (bodyOf Try.f98) [1, 1, 1])], marks := [], rnd := none }], mem := [.flat false [.int .i64 false p.c2, .sl (.int .u8) p.c3], .arr false .bool c4, .flat false [.int .i64 false p.c5, .sl (.int .u8) p.c6], .flat false [.int .i64 false p.c7, .esl true], .dead] }
  | .c3 p d1 d5 => { frames := [{ fn := 98, n := 53, env := (Env.put (Env.put (Env.put (Env.put (Env.put .leaf 1 (.sl (.int .i64) p.d0)) 2 (.ptr 0 0)) 4 (.ptr 1 0)) 6 (.own 2)) 7 (.int .i64 false d1)), todo := [.inLoop (Code.way (bodyOf Try.f98) [1, 1, 1, 0, 1, 0, 0]), .inBlock 0, .code (Code.way (bodyOf Try.f98) [1, 1, 1, 1])], marks := [], rnd := none }], mem := [.flat false [.int .i64 false p.d2, .sl (.int .u8) p.d3], .flat false [.int .i64 false p.d4, .esl true], .arr false .bool d5, .dead] }

def t98 (A : Alg) (bN : Int) (bB : List Int) (at1 : List Int) : LT ((Int × List Int) × Int) Y98 :=
  .need (A.call (@tt ((Int × List Int))) (bN, bB)) (
  .br (A.cmp .neq (A.call fn97 (bN, bB)) 0)
  (.ret ((0, ([] : List Int)), 10))
  (.need (A.call (@tt ((Int × List Int))) (bN, bB)) (
  .br (A.cmp .neq (A.call fn97 (bN, bB)) 0)
  (.more (.c0 ⟨at1, 0, bN, bB, 0⟩))
  (.more (.c1 ⟨0, at1, bN, bB, bN, bB, 0⟩)))))
def s98 (A : Alg) : Y98 → LT ((Int × List Int) × Int) Y98
 | .c0 p =>
  .br (A.cmp .lss p.a1 (A.len p.a0))
  (.need (A.and (A.cmp .leq 0 p.a1) (A.cmp .lss p.a1 (A.len p.a0))) (
  .br (A.cmp .lss (A.nth (.int .i64) p.a0 p.a1 : Int) 0)
  (.ret ((0, ([] : List Int)), 2))
  (.need (A.and (A.cmp .leq 0 p.a1) (A.cmp .lss p.a1 (A.len p.a0))) (
  .br (A.cmp .geq (A.nth (.int .i64) p.a0 p.a1 : Int) p.a2)
  (.ret ((0, ([] : List Int)), 2))
  (.need (A.and (A.cmp .leq 0 p.a1) (A.cmp .lss p.a1 (A.len p.a0))) (
  .need (A.and (A.cmp .leq 0 p.a1) (A.cmp .lss p.a1 (A.len p.a0))) (
  .bad 37 "ref.go:116")))))))
  (.need (A.call (@tt (List Bool)) ([] : List Bool)) (
  .ret (A.call fn128 ([] : List Bool))))
 | .c1 p =>
  .br (A.cmp .lss p.b0 p.b2)
  (.need (A.call pre136 (p.b3, p.b0)) (
  .need (A.cmp .leq (A.len [(A.call fn136 (p.b3, p.b0))]) 70368744177664) (
  .more (.c2 ⟨p.b1, p.b2, p.b3, p.b4, p.b5, p.b6⟩ (A.bin .add .i64 p.b0 1) [(A.call fn136 (p.b3, p.b0))]))))
  (.more (.c0 ⟨p.b1, 0, p.b4, p.b5, p.b6⟩))
 | .c2 p c0 c4 =>
  .br (A.cmp .lss c0 p.c2)
  (.need (A.call pre136 (p.c3, c0)) (
  .need (A.cmp .leq (A.len (A.app c4 [(A.call fn136 (p.c3, c0))])) 70368744177664) (
  .more (.c2 p (A.bin .add .i64 c0 1) (A.app c4 [(A.call fn136 (p.c3, c0))])))))
  (.more (.c3 ⟨p.c1, p.c5, p.c6, p.c7⟩ 0 c4))
 | .c3 p d1 d5 =>
  .br (A.cmp .lss d1 (A.len p.d0))
  (.need (A.and (A.cmp .leq 0 d1) (A.cmp .lss d1 (A.len p.d0))) (
  .br (A.cmp .lss (A.nth (.int .i64) p.d0 d1 : Int) 0)
  (.ret ((0, ([] : List Int)), 2))
  (.need (A.and (A.cmp .leq 0 d1) (A.cmp .lss d1 (A.len p.d0))) (
  .br (A.cmp .geq (A.nth (.int .i64) p.d0 d1 : Int) p.d2)
  (.ret ((0, ([] : List Int)), 2))
  (.need (A.and (A.cmp .leq 0 d1) (A.cmp .lss d1 (A.len p.d0))) (
  .need (A.and (A.cmp .leq 0 d1) (A.cmp .lss d1 (A.len p.d0))) (
  .need (A.and (A.cmp .leq 0 (A.nth (.int .i64) p.d0 d1 : Int)) (A.cmp .lss (A.nth (.int .i64) p.d0 d1 : Int) (A.len d5))) (
  .need (A.and (A.cmp .leq 0 (A.nth (.int .i64) p.d0 d1 : Int)) (A.cmp .lss (A.nth (.int .i64) p.d0 d1 : Int) (A.len d5))) (
  .more (.c3 p (A.bin .add .i64 d1 1) (A.set d5 (A.nth (.int .i64) p.d0 d1 : Int) (A.not (A.nth .bool d5 (A.nth (.int .i64) p.d0 d1 : Int) : Bool)))))))))))))
  (.need (A.call (@tt (List Bool)) d5) (
  .ret (A.call fn128 d5)))
noncomputable def E98 (A : Alg) : Info (Ty.Ts [(.struct [(.int .i64), (.slice (.int .u8))]), (.int .i64)]) := { ti := tys, fns := [(98, Try.f98), (127, Try.f127)], sps := [(97, sp97), (128, sp128), (136, sp136)], stops := [⟨98, 5, [[1, 2, 4, 6, 7]]⟩, ⟨127, 5, [[1, 3, 4], [1, 2, 4]]⟩], cuts := [], consts := [], fin := finD A [(.struct [(.int .i64), (.slice (.int .u8))]), (.int .i64)] }
theorem t98_ok (A : Alg) (bN : Int) (bB : List Int) (at1 : List Int) : run A (E98 A) 56 (startC 98 Try.f98 (dvals A [(.struct [(.int .i64), (.slice (.int .u8))]), (.slice (.int .i64))] ((bN, bB), at1))) = (t98 A bN bB at1).tr cfg98 := by kernel_rfl
theorem s98_ok (A : Alg) : ∀ y, ∃ n, run A (E98 A) n (advance (E98 A).sps (cfg98 y)) = (s98 A y).tr cfg98
  | .c0 p => ⟨49, by kernel_rfl⟩
  | .c1 p => ⟨34, by kernel_rfl⟩
  | .c2 p c0 c4 => ⟨34, by kernel_rfl⟩
  | .c3 p d1 d5 => ⟨61, by kernel_rfl⟩
def w98 : Walk Try.prog 98 [(.struct [(.int .i64), (.slice (.int .u8))]), (.slice (.int .i64))] [(.struct [(.int .i64), (.slice (.int .u8))]), (.int .i64)] Y98 := ⟨fun ((bN, bB), at1) => t98 std bN bB at1, s98 std⟩
theorem w98_ok : w98.Ok :=
  walk_ok (E := E98 std) ⟨tys_fit, fns_cons Try.func98 (by kernel_rfl) (fns_cons Try.func127 (by kernel_rfl) (fns_nil)), sps_cons so97 (sps_cons so128 (sps_cons so136 (sps_nil))), by kernel_rfl⟩ rfl rfl rfl (by kernel_rfl) w98 cfg98 56 (fun ((bN, bB), at1) => t98_ok std bN bB at1) (s98_ok std)

/-- Truths turned at places. -/
def flips (l : List Bool) (a : List Int) : List Bool := a.foldl (fun l i => l.set i.toNat (!l.getD i.toNat false)) l
def flipS : (Int × List Int) × List Int → (Int × List Int) × Int := fun (b, a) =>
  bif !bsOk b then (zB, 10) else bif a.any (fun i => decide (i < 0) || decide (b.1 ≤ i)) then (zB, 2) else ofS (flips (bsL b) a)
theorem flips_length (a : List Int) : ∀ l : List Bool, (flips l a).length = l.length := by
  induction a with
  | nil => intro l; rfl
  | cons x a ih => intro l; rw [flips, List.foldl_cons]; exact (ih _).trans (by rw [List.length_set])
theorem nth_int64 {l : List Int} {i : Nat} (h : i < l.length) : (std.nth (.int .i64) l (i : Int) : Int) = l[i] := getD_in h _
theorem flip_c3 {a : List Int} {n : Nat} (ha : a.length ≤ 140737488355328) : ∀ (j i : Nat) (p : P98c3) (l : List Bool), p.d0 = a → p.d2 = (n : Int) → l.length = n → a.length - i = j → i ≤ a.length → Runs (s98 std) (.more (.c3 p (i : Int) l)) (bif (a.drop i).any (fun i => decide (i < 0) || decide ((n : Int) ≤ i)) then (zB, 2) else ofS (flips l (a.drop i))) := by
  intro j
  induction j with
  | zero =>
    intro i p l h0 h2 hl hj hi
    have : i = a.length := by omega
    subst this
    rw [runs_more, s98]
    refine (runs_brF (by rw [show std.len p.d0 = (a.length : Int) from by rw [h0]; rfl, lss_nat]; simp)).2 (runs_need.2 ⟨rfl, ?_⟩)
    rw [List.drop_length]
    exact .ret _
  | succ j ih =>
    intro i p l h0 h2 hl hj hi
    have hi' : i < a.length := by omega
    rw [runs_more, s98]
    have hn : (std.nth (.int .i64) p.d0 (i : Int) : Int) = a[i] := by rw [h0]; exact nth_int64 hi'
    have hix : std.and (std.cmp .leq 0 (i : Int)) (std.cmp .lss (i : Int) (std.len p.d0)) = true := by rw [h0]; exact need_ix hi'
    refine (runs_brT (by rw [show std.len p.d0 = (a.length : Int) from by rw [h0]; rfl, lss_nat]; simp; omega)).2 (runs_need.2 ⟨hix, ?_⟩)
    rw [List.drop_eq_getElem_cons hi', List.any_cons]
    by_cases h1 : a[i] < 0
    · refine (runs_brT ((clss hn).trans (by simpa using h1))).2 ?_
      rw [show decide (a[i] < 0) = true from by simpa using h1]
      exact .ret _
    refine (runs_brF ((clss hn).trans (by simpa using h1))).2 (runs_need.2 ⟨hix, ?_⟩)
    by_cases h3 : (n : Int) ≤ a[i]
    · refine (runs_brT (show std.cmp .geq (std.nth (.int .i64) p.d0 (i : Int) : Int) p.d2 = true from (congr (congrArg (std.cmp .geq) hn) h2).trans (by rw [std_cmp_geq]; simpa using h3))).2 ?_
      rw [show decide ((n : Int) ≤ a[i]) = true from by simpa using h3, Bool.or_true]
      exact .ret _
    refine (runs_brF (show std.cmp .geq (std.nth (.int .i64) p.d0 (i : Int) : Int) p.d2 = false from (congr (congrArg (std.cmp .geq) hn) h2).trans (by rw [std_cmp_geq]; simpa using h3))).2 ?_
    rw [show decide (a[i] < 0) = false from by simpa using h1, show decide ((n : Int) ≤ a[i]) = false from by simpa using h3, Bool.or_false, Bool.false_or]
    have hin : std.and (std.cmp .leq 0 (std.nth (.int .i64) p.d0 (i : Int) : Int)) (std.cmp .lss (std.nth (.int .i64) p.d0 (i : Int) : Int) (std.len l)) = true := by
      refine (congrArg (fun z => std.and (std.cmp .leq 0 z) (std.cmp .lss z (std.len l))) hn).trans ?_
      show (decide (0 ≤ a[i]) && decide (a[i] < (l.length : Int))) = true
      rw [hl]; simp; omega
    refine runs_need.2 ⟨hix, runs_need.2 ⟨hix, runs_need.2 ⟨hin, runs_need.2 ⟨hin, ?_⟩⟩⟩⟩
    have hset : (std.set l (std.nth (.int .i64) p.d0 (i : Int) : Int) (std.not (std.nth .bool l (std.nth (.int .i64) p.d0 (i : Int) : Int) : Bool)) : List Bool) = l.set a[i].toNat (!l.getD a[i].toNat false) :=
      congrArg (fun z : Int => (std.set l z (std.not (std.nth .bool l z : Bool)) : List Bool)) hn
    have hm := ih (i + 1) p (l.set a[i].toNat (!l.getD a[i].toNat false)) h0 h2 (by rw [List.length_set]; exact hl) (by omega) (by omega)
    exact runs_c (congrArg LT.more (congr (congrArg (Y98.c3 p) (inc1 (by omega))) hset)) hm
theorem flip_c2 {a : List Int} {n : Nat} {b : List Int} (ha : a.length ≤ 140737488355328) (hb : bytesOk b) (hn : n ≤ 4096) (hok : n ≤ 8 * b.length) (hl : b.length ≤ 140737488355328) : ∀ (j i : Nat) (p : P98c2), p.c1 = a → p.c2 = (n : Int) → p.c3 = b → p.c5 = (n : Int) → n - i = j → i ≤ n → Runs (s98 std) (.more (.c2 p (i : Int) (unpack i b))) (bif a.any (fun i => decide (i < 0) || decide ((n : Int) ≤ i)) then (zB, 2) else ofS (flips (unpack n b) a)) := by
  intro j
  induction j with
  | zero =>
    intro i p h1 h2 h3 h5 hj hi
    have : i = n := by omega
    subst this
    rw [runs_more, s98]
    refine (runs_brF (by rw [h2, lss_nat]; simp)).2 ?_
    exact flip_c3 ha a.length 0 _ _ h1 h5 (unpack_length _ _) rfl (by omega)
  | succ j ih =>
    intro i p h1 h2 h3 h5 hj hi
    rw [runs_more, s98]
    refine (runs_brT (by rw [h2, lss_nat]; simp; omega)).2 (runs_need.2 ⟨?_, runs_need.2 ⟨?_, ?_⟩⟩)
    · rw [h3, std_call]; simp [pre136]; omega
    · show decide (((unpack i b ++ [_]).length : Int) ≤ 70368744177664) = true
      rw [List.length_append, unpack_length]
      simp; omega
    · have e : (std.app (unpack i b) [(std.call fn136 (p.c3, (i : Int)))] : List Bool) = unpack (i + 1) b := by
        show unpack i b ++ [fn136 (p.c3, (i : Int))] = _
        rw [h3, fn136_eq hb (by omega) (by omega), unpack_succ, Int.toNat_natCast]
      exact runs_c (congrArg LT.more (congr (congrArg (Y98.c2 p) (inc1 (by omega))) e)) (ih (i + 1) p h1 h2 h3 h5 (by omega) (by omega))
theorem has_flip {n : Int} {b a : List Int} (h : Ty.hass [(.struct [(.int .i64), (.slice (.int .u8))]), (.slice (.int .i64))] ((n, b), a)) : Ty.has (.struct [(.int .i64), (.slice (.int .u8))]) (n, b) ∧ a.length ≤ 140737488355328 := ⟨h.1, h.2.1⟩
theorem flip1 {n : Int} {b a : List Int} (h : Ty.hass [(.struct [(.int .i64), (.slice (.int .u8))]), (.slice (.int .i64))] ((n, b), a)) : Runs (s98 std) (t98 std n b a) (flipS ((n, b), a)) := by
  obtain ⟨h1, ha⟩ := has_flip h
  have hb := (has_bits h1).2.2
  have hl := has_len h1
  unfold t98
  rw [flipS]
  refine runs_need.2 ⟨rfl, ?_⟩
  cases hok : bsOk (n, b)
  · exact (runs_brT (show (fn97 (n, b) != 0) = true by rw [fn97, hok]; rfl)).2 (.ret _)
  refine (runs_brF (show (fn97 (n, b) != 0) = false by rw [fn97, hok]; rfl)).2 (runs_need.2 ⟨rfl, (runs_brF (show (fn97 (n, b) != 0) = false by rw [fn97, hok]; rfl)).2 ?_⟩)
  rw [Bool.not_true, cond_false]
  obtain ⟨h2, h3, h4⟩ := (bsOk_iff hb).1 hok
  obtain ⟨n, rfl⟩ := Int.eq_ofNat_of_zero_le h2
  have h5 : b.length = (n + 7) / 8 := h4.1
  rw [runs_more, s98]
  show Runs (s98 std) _ (bif a.any (fun i => decide (i < 0) || decide ((n : Int) ≤ i)) then (zB, 2) else ofS (flips (unpack n b) a))
  by_cases h0 : 0 < n
  · refine (runs_brT (by rw [std_cmp_lss]; simp; omega)).2 (runs_need.2 ⟨?_, runs_need.2 ⟨rfl, ?_⟩⟩)
    · rw [std_call]; simp [pre136]; omega
    · have e : ([(std.call fn136 (b, (0 : Int)))] : List Bool) = unpack 1 b := by
        show [fn136 (b, (0 : Int))] = _
        rw [fn136_eq hb (by omega) (by omega)]; rfl
      refine runs_c (congrArg LT.more (congr (congrArg (Y98.c2 _) (inc1 (i := 0) (by omega))) e)) ?_
      exact flip_c2 ha hb (by omega) (by omega) hl (n - 1) 1 _ rfl rfl rfl rfl rfl (by omega)
  · have hn0 : n = 0 := by omega
    subst hn0
    refine (runs_brF rfl).2 ?_
    rw [runs_more, s98]
    cases a with
    | nil => exact (runs_brF rfl).2 (runs_need.2 ⟨rfl, .ret _⟩)
    | cons x a =>
      have hix : std.and (std.cmp .leq 0 0) (std.cmp .lss 0 (std.len (x :: a))) = true := need_ix (i := 0) (l := x :: a) (by simp)
      refine (runs_brT (show std.cmp .lss 0 (((x :: a).length : Nat) : Int) = true by rw [std_cmp_lss]; simp <;> omega)).2 (runs_need.2 ⟨hix, ?_⟩)
      rw [List.any_cons]
      by_cases hx : x < 0
      · refine (runs_brT (show std.cmp .lss x 0 = true by rw [std_cmp_lss]; simpa using hx)).2 ?_
        rw [show decide (x < 0) = true from by simpa using hx]
        exact .ret _
      · refine (runs_brF (show std.cmp .lss x 0 = false by rw [std_cmp_lss]; simpa using hx)).2 (runs_need.2 ⟨hix, (runs_brT (show std.cmp .geq x 0 = true by rw [std_cmp_geq]; simp <;> omega)).2 ?_⟩)
        rw [show decide (((0 : Nat) : Int) ≤ x) = true from by simp <;> omega, Bool.or_true]
        exact .ret _

def fn98 : ((Int × List Int) × List Int) → ((Int × List Int) × Int) := flipS
def sp98 : FSpec := ⟨[(.struct [(.int .i64), (.slice (.int .u8))]), (.slice (.int .i64))], [(.struct [(.int .i64), (.slice (.int .u8))]), (.int .i64)], (@tt ((Int × List Int) × List Int)), fn98⟩
theorem run98 {bN : Int} {bB : List Int} {at1 : List Int} (h : Ty.hass [(.struct [(.int .i64), (.slice (.int .u8))]), (.slice (.int .i64))] ((bN, bB), at1)) : Runs (s98 std) (t98 std bN bB at1) (fn98 ((bN, bB), at1)) := by
  exact flip1 h
theorem so98 : FSpec.Sound Try.prog 98 sp98 :=
  w98_ok.sound _ _ fun ((bN, bB), at1) _ h => run98 h
/-! ### metronome/metronomeref02.Burst (function 48) -/
structure P48c0 where
  a0 : Int
  a1 : Int
  a3 : Int
  a4 : List Int
  a5 : Int
structure P48c1 where
  b0 : Int
  b1 : Int
  b3 : Int
  b4 : List Int
  b5 : Int
inductive Y48 where
  | c0 (p : P48c0) (a2 : Int)
  | c1 (p : P48c1) (b2 : Int) (b6 : List Int)
noncomputable def cfg48 : Y48 → Cfg
  | .c0 p a2 => { frames := [{ fn := 48, n := 52, env := (Env.put (Env.put (Env.put (Env.put (Env.put (Env.put .leaf 1 (.int .i64 false p.a0)) 2 (.int .u32 false p.a1)) 3 (.ptr 0 0)) 6 (.ptr 1 0)) 8 (.esl true)) 9 (.int .i64 false a2)), todo := [.inLoop (Code.way (bodyOf Try.f48) [1, 1, 1, 1, 0, 1, 0, 0]), .inBlock 0, .code (Code.way (bodyOf Try.f48) [1, 1, 1, 1, 1])], marks := [], rnd := none }], mem := [.flat false [.int .i64 false p.a3, .sl (.int .u8) p.a4], .flat false [.int .i64 false p.a5, .esl true], .dead] }
  | .c1 p b2 b6 => { frames := [{ fn := 48, n := 52, env := (Env.put (Env.put (Env.put (Env.put (Env.put (Env.put .leaf 1 (.int .i64 false p.b0)) 2 (.int .u32 false p.b1)) 3 (.ptr 0 0)) 6 (.ptr 1 0)) 8 (.own 2)) 9 (.int .i64 false b2)), todo := [.inLoop (Code.way (bodyOf Try.f48) [1, 1, 1, 1, 0, 1, 0, 0]), .inBlock 0, .code (Code.way (bodyOf Try.f48) [1, 1, 1, 1, 1])], marks := [], rnd := none }], mem := [.flat false [.int .i64 false p.b3, .sl (.int .u8) p.b4], .flat false [.int .i64 false p.b5, .esl true], .arr false (.int .i64) b6, .dead] }

def t48 (A : Alg) (bN : Int) (bB : List Int) (at1 : Int) (pattern : Int) : LT ((Int × List Int) × Int) Y48 :=
  .need (A.call (@tt ((Int × List Int))) (bN, bB)) (
  .br (A.cmp .neq (A.call fn97 (bN, bB)) 0)
  (.ret ((0, ([] : List Int)), 10))
  (.br (A.cmp .lss at1 0)
  (.ret ((0, ([] : List Int)), 2))
  (.br (A.cmp .gtr at1 bN)
  (.ret ((0, ([] : List Int)), 2))
  (.more (.c0 ⟨at1, pattern, bN, bB, 0⟩ 0)))))
def s48 (A : Alg) : Y48 → LT ((Int × List Int) × Int) Y48
 | .c0 p a2 =>
  .br (A.cmp .lss a2 32)
  (.br (A.cmp .lss (A.bin .add .i64 p.a0 a2) p.a3)
  (.need (A.cmp .leq 0 (A.conv .u64 a2)) (
  .br (A.cmp .eql (A.bin .rem .u32 (A.bin .shr .u32 p.a1 (A.conv .u64 a2)) 2) 1)
  (.need (A.cmp .leq (A.len [(A.bin .add .i64 p.a0 a2)]) 15637498706147) (
  .more (.c1 ⟨p.a0, p.a1, p.a3, p.a4, p.a5⟩ (A.bin .add .i64 a2 1) [(A.bin .add .i64 p.a0 a2)])))
  (.more (.c0 p (A.bin .add .i64 a2 1)))))
  (.need (A.call (@tt ((Int × List Int) × List Int)) ((p.a3, p.a4), ([] : List Int))) (
  .ret (A.call fn98 ((p.a3, p.a4), ([] : List Int))))))
  (.need (A.call (@tt ((Int × List Int) × List Int)) ((p.a3, p.a4), ([] : List Int))) (
  .ret (A.call fn98 ((p.a3, p.a4), ([] : List Int)))))
 | .c1 p b2 b6 =>
  .br (A.cmp .lss b2 32)
  (.br (A.cmp .lss (A.bin .add .i64 p.b0 b2) p.b3)
  (.need (A.cmp .leq 0 (A.conv .u64 b2)) (
  .br (A.cmp .eql (A.bin .rem .u32 (A.bin .shr .u32 p.b1 (A.conv .u64 b2)) 2) 1)
  (.need (A.cmp .leq (A.len (A.app b6 [(A.bin .add .i64 p.b0 b2)])) 15637498706147) (
  .more (.c1 p (A.bin .add .i64 b2 1) (A.app b6 [(A.bin .add .i64 p.b0 b2)]))))
  (.more (.c1 p (A.bin .add .i64 b2 1) b6))))
  (.need (A.call (@tt ((Int × List Int) × List Int)) ((p.b3, p.b4), b6)) (
  .ret (A.call fn98 ((p.b3, p.b4), b6)))))
  (.need (A.call (@tt ((Int × List Int) × List Int)) ((p.b3, p.b4), b6)) (
  .ret (A.call fn98 ((p.b3, p.b4), b6))))
noncomputable def E48 (A : Alg) : Info (Ty.Ts [(.struct [(.int .i64), (.slice (.int .u8))]), (.int .i64)]) := { ti := tys, fns := [(48, Try.f48)], sps := [(97, sp97), (98, sp98)], stops := [⟨48, 7, [[1, 2, 3, 6, 8, 9]]⟩], cuts := [], consts := [], fin := finD A [(.struct [(.int .i64), (.slice (.int .u8))]), (.int .i64)] }
theorem t48_ok (A : Alg) (bN : Int) (bB : List Int) (at1 : Int) (pattern : Int) : run A (E48 A) 46 (startC 48 Try.f48 (dvals A [(.struct [(.int .i64), (.slice (.int .u8))]), (.int .i64), (.int .u32)] ((bN, bB), at1, pattern))) = (t48 A bN bB at1 pattern).tr cfg48 := by kernel_rfl
theorem s48_ok (A : Alg) : ∀ y, ∃ n, run A (E48 A) n (advance (E48 A).sps (cfg48 y)) = (s48 A y).tr cfg48
  | .c0 p a2 => ⟨49, by kernel_rfl⟩
  | .c1 p b2 b6 => ⟨49, by kernel_rfl⟩
def w48 : Walk Try.prog 48 [(.struct [(.int .i64), (.slice (.int .u8))]), (.int .i64), (.int .u32)] [(.struct [(.int .i64), (.slice (.int .u8))]), (.int .i64)] Y48 := ⟨fun ((bN, bB), at1, pattern) => t48 std bN bB at1 pattern, s48 std⟩
theorem w48_ok : w48.Ok :=
  walk_ok (E := E48 std) ⟨tys_fit, fns_cons Try.func48 (by kernel_rfl) (fns_nil), sps_cons so97 (sps_cons so98 (sps_nil)), by kernel_rfl⟩ rfl rfl rfl (by kernel_rfl) w48 cfg48 46 (fun ((bN, bB), at1, pattern) => t48_ok std bN bB at1 pattern) (s48_ok std)

/-- The places that a burst turns. -/
def posL (a n : Int) (p : Nat) : Nat → Nat → List Int
  | 0, _ => []
  | k + 1, i => bif decide (a + (i : Int) < n) then (bif p.testBit i then (a + (i : Int)) :: posL a n p k (i + 1) else posL a n p k (i + 1)) else []
theorem posL_in {a n : Int} {p : Nat} (hp : p < 2 ^ 24) : ∀ (k i : Nat), ∀ x ∈ posL a n p k i, a ≤ x ∧ x < a + 24 ∧ x < n := by
  intro k
  induction k with
  | zero => intro i x hx; cases hx
  | succ k ih =>
    intro i x hx
    rw [posL] at hx
    cases h1 : decide (a + (i : Int) < n)
    · rw [h1] at hx; cases hx
    · rw [h1, cond_true] at hx
      cases h2 : p.testBit i
      · rw [h2] at hx; exact ih _ x hx
      · rw [h2, cond_true] at hx
        rcases List.mem_cons.1 hx with rfl | hx
        · have : i < 24 := Decidable.byContradiction fun h => by
            rw [Nat.testBit_lt_two_pow (Nat.lt_of_lt_of_le hp (Nat.pow_le_pow_right (by decide) (by omega)))] at h2
            cases h2
          have := of_decide_eq_true h1
          omega
        · exact ih _ x hx
def burstS : (Int × List Int) × Int × Int → (Int × List Int) × Int := fun (b, a, p) =>
  bif !bsOk b then (zB, 10) else bif decide (a < 0) || decide (b.1 < a) then (zB, 2) else flipS (b, posL a b.1 p.toNat 32 0)
theorem bit32 {v : Int} {k : Nat} (h : 0 ≤ v) (hk : k ≤ 32) : std.cmp .eql (std.bin .rem .u32 (std.bin .shr .u32 v (std.conv .u64 (k : Int))) 2) 1 = v.toNat.testBit k := by
  rw [conv_nat (by omega), shr32 h hk, rem2_nat, Nat.testBit_eq_decide_div_mod_eq]
theorem burst_c1 {a n : Int} {p : Int} {b : List Int} (ha : 0 ≤ a) (hn : n ≤ 4096) (han : a ≤ n) (hp : 0 ≤ p) : ∀ (j i : Nat) (q : P48c1) (l : List Int), q.b0 = a → q.b1 = p → q.b3 = n → q.b4 = b → 32 - i = j → i ≤ 32 → l.length ≤ i → Runs (s48 std) (.more (.c1 q (i : Int) l)) (flipS ((n, b), l ++ posL a n p.toNat j i)) := by
  intro j
  induction j with
  | zero =>
    intro i q l h0 h1 h3 h4 hj hi hl
    have : i = 32 := by omega
    subst this
    rw [runs_more, s48]
    refine (runs_brF rfl).2 (runs_need.2 ⟨rfl, ?_⟩)
    rw [posL, List.append_nil, h3, h4]
    exact .ret _
  | succ j ih =>
    intro i q l h0 h1 h3 h4 hj hi hl
    rw [runs_more, s48]
    have ea : std.bin .add .i64 q.b0 (i : Int) = a + (i : Int) := by rw [h0, std_add, w64 (by omega) (by omega)]
    refine (runs_brT (by rw [std_cmp_lss]; simp; omega)).2 ?_
    rw [posL]
    by_cases hb : a + (i : Int) < n
    · rw [show decide (a + (i : Int) < n) = true from by simpa using hb, cond_true]
      refine (runs_brT (by rw [ea, h3, std_cmp_lss]; simpa using hb)).2 (runs_need.2 ⟨by rw [conv_nat (by omega), leq_0], ?_⟩)
      have hbit : std.cmp .eql (std.bin .rem .u32 (std.bin .shr .u32 q.b1 (std.conv .u64 (i : Int))) 2) 1 = p.toNat.testBit i := by rw [h1]; exact bit32 hp (by omega)
      cases hx : p.toNat.testBit i
      · refine (runs_brF (hbit.trans hx)).2 ?_
        exact runs_c (congrArg LT.more (congr (congrArg (Y48.c1 q) (inc1 (by omega))) rfl)) (ih (i + 1) q l h0 h1 h3 h4 (by omega) (by omega) (by omega))
      · refine (runs_brT (hbit.trans hx)).2 (runs_need.2 ⟨?_, ?_⟩)
        · show decide (((l ++ [_]).length : Int) ≤ 15637498706147) = true
          rw [List.length_append]; simp; omega
        · have hm := ih (i + 1) q (l ++ [a + (i : Int)]) h0 h1 h3 h4 (by omega) (by omega) (by rw [List.length_append]; simp; omega)
          rw [List.append_assoc] at hm
          have e : (std.app l [(std.bin .add .i64 q.b0 (i : Int))] : List Int) = l ++ [a + (i : Int)] := by rw [ea]; rfl
          exact runs_c (congrArg LT.more (congr (congrArg (Y48.c1 q) (inc1 (by omega))) e)) hm
    · rw [show decide (a + (i : Int) < n) = false from by simpa using hb, cond_false, List.append_nil]
      refine (runs_brF (by rw [ea, h3, std_cmp_lss]; simpa using hb)).2 (runs_need.2 ⟨rfl, ?_⟩)
      rw [h3, h4]
      exact .ret _
theorem burst_c0 {a n : Int} {p : Int} {b : List Int} (ha : 0 ≤ a) (hn : n ≤ 4096) (han : a ≤ n) (hp : 0 ≤ p) : ∀ (j i : Nat) (q : P48c0), q.a0 = a → q.a1 = p → q.a3 = n → q.a4 = b → 32 - i = j → i ≤ 32 → Runs (s48 std) (.more (.c0 q (i : Int))) (flipS ((n, b), posL a n p.toNat j i)) := by
  intro j
  induction j with
  | zero =>
    intro i q h0 h1 h3 h4 hj hi
    have : i = 32 := by omega
    subst this
    rw [runs_more, s48]
    refine (runs_brF rfl).2 (runs_need.2 ⟨rfl, ?_⟩)
    rw [posL, h3, h4]
    exact .ret _
  | succ j ih =>
    intro i q h0 h1 h3 h4 hj hi
    rw [runs_more, s48]
    have ea : std.bin .add .i64 q.a0 (i : Int) = a + (i : Int) := by rw [h0, std_add, w64 (by omega) (by omega)]
    refine (runs_brT (by rw [std_cmp_lss]; simp; omega)).2 ?_
    rw [posL]
    by_cases hb : a + (i : Int) < n
    · rw [show decide (a + (i : Int) < n) = true from by simpa using hb, cond_true]
      refine (runs_brT (by rw [ea, h3, std_cmp_lss]; simpa using hb)).2 (runs_need.2 ⟨by rw [conv_nat (by omega), leq_0], ?_⟩)
      have hbit : std.cmp .eql (std.bin .rem .u32 (std.bin .shr .u32 q.a1 (std.conv .u64 (i : Int))) 2) 1 = p.toNat.testBit i := by rw [h1]; exact bit32 hp (by omega)
      cases hx : p.toNat.testBit i
      · refine (runs_brF (hbit.trans hx)).2 ?_
        exact runs_c (congrArg LT.more (congrArg (Y48.c0 q) (inc1 (by omega)))) (ih (i + 1) q h0 h1 h3 h4 (by omega) (by omega))
      · refine (runs_brT (hbit.trans hx)).2 (runs_need.2 ⟨rfl, ?_⟩)
        have hm := burst_c1 (b := b) ha hn han hp j (i + 1) ⟨q.a0, q.a1, q.a3, q.a4, q.a5⟩ [a + (i : Int)] h0 h1 h3 h4 (by omega) (by omega) (by simp)
        have e : ([(std.bin .add .i64 q.a0 (i : Int))] : List Int) = [a + (i : Int)] := by rw [ea]
        exact runs_c (congrArg LT.more (congr (congrArg (Y48.c1 _) (inc1 (by omega))) e)) hm
    · rw [show decide (a + (i : Int) < n) = false from by simpa using hb, cond_false]
      refine (runs_brF (by rw [ea, h3, std_cmp_lss]; simpa using hb)).2 (runs_need.2 ⟨rfl, ?_⟩)
      rw [h3, h4]
      exact .ret _
theorem has_burst {n a p : Int} {b : List Int} (h : Ty.hass [(.struct [(.int .i64), (.slice (.int .u8))]), (.int .i64), (.int .u32)] ((n, b), a, p)) : Ty.has (.struct [(.int .i64), (.slice (.int .u8))]) (n, b) ∧ (0 ≤ p ∧ p ≤ 4294967295) := ⟨h.1, h.2.2⟩
theorem burst1 {n a p : Int} {b : List Int} (h : Ty.hass [(.struct [(.int .i64), (.slice (.int .u8))]), (.int .i64), (.int .u32)] ((n, b), a, p)) : Runs (s48 std) (t48 std n b a p) (burstS ((n, b), a, p)) := by
  obtain ⟨h1, hp⟩ := has_burst h
  have hb := (has_bits h1).2.2
  unfold t48
  rw [burstS]
  refine runs_need.2 ⟨rfl, ?_⟩
  cases hok : bsOk (n, b)
  · exact (runs_brT (show (fn97 (n, b) != 0) = true by rw [fn97, hok]; rfl)).2 (.ret _)
  refine (runs_brF (show (fn97 (n, b) != 0) = false by rw [fn97, hok]; rfl)).2 ?_
  rw [Bool.not_true, cond_false]
  obtain ⟨h2, h3, h4⟩ := (bsOk_iff hb).1 hok
  by_cases h5 : a < 0
  · refine (runs_brT (by rw [std_cmp_lss]; simpa using h5)).2 ?_
    rw [show decide (a < 0) = true from by simpa using h5]
    exact .ret _
  refine (runs_brF (by rw [std_cmp_lss]; simpa using h5)).2 ?_
  by_cases h6 : n < a
  · refine (runs_brT (by rw [std_cmp_gtr]; simpa using h6)).2 ?_
    rw [show decide (n < a) = true from by simpa using h6, Bool.or_true]
    exact .ret _
  refine (runs_brF (by rw [std_cmp_gtr]; simpa using h6)).2 ?_
  rw [show decide (a < 0) = false from by simpa using h5, show decide (n < a) = false from by simpa using h6]
  exact burst_c0 (by omega) h3 (by omega) hp.1 32 0 _ rfl rfl rfl rfl rfl (by decide)

def fn48 : ((Int × List Int) × Int × Int) → ((Int × List Int) × Int) := burstS
def sp48 : FSpec := ⟨[(.struct [(.int .i64), (.slice (.int .u8))]), (.int .i64), (.int .u32)], [(.struct [(.int .i64), (.slice (.int .u8))]), (.int .i64)], (@tt ((Int × List Int) × Int × Int)), fn48⟩
theorem run48 {bN : Int} {bB : List Int} {at1 : Int} {pattern : Int} (h : Ty.hass [(.struct [(.int .i64), (.slice (.int .u8))]), (.int .i64), (.int .u32)] ((bN, bB), at1, pattern)) : Runs (s48 std) (t48 std bN bB at1 pattern) (fn48 ((bN, bB), at1, pattern)) := by
  exact burst1 h
theorem so48 : FSpec.Sound Try.prog 48 sp48 :=
  w48_ok.sound _ _ fun ((bN, bB), at1, pattern) _ h => run48 h
theorem flips_far {lo hi : Int} : ∀ {a : List Int} {l : List Bool} {j : Nat}, (∀ x ∈ a, lo ≤ x ∧ x < hi) → 0 ≤ lo → (flips l a).getD j false ≠ l.getD j false → lo ≤ (j : Int) ∧ (j : Int) < hi := by
  intro a
  induction a with
  | nil => intro l j _ _ h; exact absurd rfl h
  | cons x a ih =>
    intro l j ha h0 h
    rw [flips, List.foldl_cons] at h
    by_cases he : (flips (l.set x.toNat (!l.getD x.toNat false)) a).getD j false = (l.set x.toNat (!l.getD x.toNat false)).getD j false
    · have h1 : (l.set x.toNat (!l.getD x.toNat false)).getD j false ≠ l.getD j false := fun h2 => h (he.trans h2)
      by_cases hj : x.toNat = j
      · have := ha x (List.mem_cons_self ..)
        omega
      · exfalso
        apply h1
        rw [List.getD_eq_getElem?_getD, List.getElem?_set_ne hj, ← List.getD_eq_getElem?_getD]
    · exact ih (fun y hy => ha y (List.mem_cons_of_mem _ hy)) h0 he
theorem stOk_zS : stOk zS = true := rfl
theorem burst_law {k r t p m n s fr a q : Int} {d : List Int} (hok : frOk (k, r, (t, p, m, n, s), fr, d) = true) (hd : bytesOk d) (hq : 0 ≤ q ∧ q < 16777216) (h2 : (burstS (bsP (frBits (k, r, (t, p, m, n, s), fr, d)), a, q)).2 = 0) (h3 : (burstS (bsP (frBits (k, r, (t, p, m, n, s), fr, d)), a, q)).1 ≠ bsP (frBits (k, r, (t, p, m, n, s), fr, d))) :
    (parS ((burstS (bsP (frBits (k, r, (t, p, m, n, s), fr, d)), a, q)).1, (t, p, m, n, s))).2 ≠ 0 ∧ (explS (burstS (bsP (frBits (k, r, (t, p, m, n, s), fr, d)), a, q)).1).2 = false := by
  have hlen := (frBits_length hok).2
  have hown := frOf_frBits hok hd
  have hst := (frOk_iff.1 hok).1
  generalize hL : frBits (k, r, (t, p, m, n, s), fr, d) = L at *
  have hbo : bsOk (bsP L) = true := bsP_ok (by omega)
  rw [burstS] at h2 h3 ⊢
  simp only [hbo, Bool.not_true, cond_false] at h2 h3 ⊢
  by_cases h4 : (decide (a < 0) || decide ((bsP L).1 < a)) = true
  · rw [h4] at h2; cases h2
  rw [Bool.not_eq_true] at h4
  rw [h4] at h2 h3 ⊢
  rw [cond_false] at h2 h3 ⊢
  rw [flipS] at h2 h3 ⊢
  simp only [hbo, Bool.not_true, cond_false] at h2 h3 ⊢
  rw [Bool.or_eq_false_iff, decide_eq_false_iff_not, decide_eq_false_iff_not] at h4
  have hpos := posL_in (a := a) (n := (bsP L).1) (p := q.toNat) (by omega) 32 0
  by_cases h5 : (posL a (bsP L).1 q.toNat 32 0).any (fun i => decide (i < 0) || decide ((bsP L).1 ≤ i)) = true
  · rw [h5] at h2; cases h2
  rw [Bool.not_eq_true] at h5
  rw [h5] at h3 ⊢
  rw [cond_false] at h3 ⊢
  rw [bsL_bsP] at h3 ⊢
  have hxl := flips_length (posL a (bsP L).1 q.toNat 32 0) L
  rw [ofS_short (by omega)] at h3 ⊢
  generalize hX : flips L (posL a (bsP L).1 q.toNat 32 0) = X at *
  have hne : X ≠ L := fun h => h3 (by rw [h])
  have hw : ∀ j, X.getD j false ≠ L.getD j false → a.toNat ≤ j ∧ j < a.toNat + 24 := by
    intro j hj
    rw [← hX] at hj
    have := flips_far (lo := a) (hi := a + 24) (fun x hx => ⟨(hpos x hx).1, (hpos x hx).2.1⟩) (by omega) hj
    omega
  constructor
  · intro he
    rw [parS_bsP (by omega), hst, Bool.not_true, cond_false] at he
    obtain ⟨g, hg⟩ : ∃ g, frOf X (t, p, m, n, s) = (g, 0) := ⟨_, Prod.ext rfl he⟩
    exact hne (frOf_burst hown hxl hw hg (fun _ => rfl))
  · rw [explS, parS_bsP (by omega), stOk_zS, Bool.not_true, cond_false]
    cases h6 : ((frOf X zS).2 != 0 || (frOf X zS).1.1 == 2)
    · exfalso
      rw [Bool.or_eq_false_iff] at h6
      have he : (frOf X zS).2 = 0 := by simpa using h6.1
      obtain ⟨g, hg⟩ : ∃ g, frOf X zS = (g, 0) := ⟨_, Prod.ext rfl he⟩
      rw [hg] at h6
      exact hne (frOf_burst hown hxl hw hg (fun h7 => by have := h6.2; simp only [beq_eq_false_iff_ne] at this; exact absurd h7 this))
    · rfl

/-! ### metronome/metronomelaw05.FrameBurst (function 12) -/
def t12 (A : Alg) (fKind : Int) (fReq : Int) (fCTime : Int) (fCPos : Int) (fCMode : Int) (fCNext : Int) (fCMember : Int) (fFrom : Int) (fData : List Int) (at1 : Int) (pattern : Int) : LT Bool Empty :=
  .need (A.call (@tt ((Int × Int × (Int × Int × Int × Int × Int) × Int × List Int))) (fKind, fReq, (fCTime, fCPos, fCMode, fCNext, fCMember), fFrom, fData)) (
  .need (A.call (@tt Unit) ()) (
  .br (A.not (A.call fn47 ()))
  (.need (A.call (@tt Unit) ()) (
  .ret (A.call fn47 ())))
  (.br (A.cmp .neq (A.call fn46 (fKind, fReq, (fCTime, fCPos, fCMode, fCNext, fCMember), fFrom, fData)).2 0)
  (.need (A.call (@tt Unit) ()) (
  .ret (A.call fn47 ())))
  (.need (A.call (@tt ((Int × List Int) × Int × Int)) ((A.call fn46 (fKind, fReq, (fCTime, fCPos, fCMode, fCNext, fCMember), fFrom, fData)).1, at1, (A.bin .and .u32 pattern 16777215))) (
  .br (A.cmp .neq (A.call fn48 ((A.call fn46 (fKind, fReq, (fCTime, fCPos, fCMode, fCNext, fCMember), fFrom, fData)).1, at1, (A.bin .and .u32 pattern 16777215))).2 0)
  (.ret true)
  (.need (A.call (@tt ((Int × List Int) × (Int × List Int))) ((A.call fn48 ((A.call fn46 (fKind, fReq, (fCTime, fCPos, fCMode, fCNext, fCMember), fFrom, fData)).1, at1, (A.bin .and .u32 pattern 16777215))).1, (A.call fn46 (fKind, fReq, (fCTime, fCPos, fCMode, fCNext, fCMember), fFrom, fData)).1)) (
  .br (A.call fn49 ((A.call fn48 ((A.call fn46 (fKind, fReq, (fCTime, fCPos, fCMode, fCNext, fCMember), fFrom, fData)).1, at1, (A.bin .and .u32 pattern 16777215))).1, (A.call fn46 (fKind, fReq, (fCTime, fCPos, fCMode, fCNext, fCMember), fFrom, fData)).1))
  (.ret true)
  (.need (A.call (@tt ((Int × List Int) × (Int × Int × Int × Int × Int))) ((A.call fn48 ((A.call fn46 (fKind, fReq, (fCTime, fCPos, fCMode, fCNext, fCMember), fFrom, fData)).1, at1, (A.bin .and .u32 pattern 16777215))).1, fCTime, fCPos, fCMode, fCNext, fCMember)) (
  .need (A.call (@tt ((Int × List Int))) (A.call fn48 ((A.call fn46 (fKind, fReq, (fCTime, fCPos, fCMode, fCNext, fCMember), fFrom, fData)).1, at1, (A.bin .and .u32 pattern 16777215))).1) (
  .br (A.cmp .neq (A.call fn50 ((A.call fn48 ((A.call fn46 (fKind, fReq, (fCTime, fCPos, fCMode, fCNext, fCMember), fFrom, fData)).1, at1, (A.bin .and .u32 pattern 16777215))).1, fCTime, fCPos, fCMode, fCNext, fCMember)).2 0)
  (.ret (A.not (A.call fn51 (A.call fn48 ((A.call fn46 (fKind, fReq, (fCTime, fCPos, fCMode, fCNext, fCMember), fFrom, fData)).1, at1, (A.bin .and .u32 pattern 16777215))).1).2))
  (.ret false)))))))))))
noncomputable def E12 (A : Alg) : Info (Ty.Ts [.bool]) := { ti := tys, fns := [(12, Try.f12)], sps := [(46, sp46), (47, sp47), (48, sp48), (49, sp49), (50, sp50), (51, sp51)], stops := [], cuts := [], consts := [], fin := finD A [.bool] }
theorem t12_ok (A : Alg) (fKind : Int) (fReq : Int) (fCTime : Int) (fCPos : Int) (fCMode : Int) (fCNext : Int) (fCMember : Int) (fFrom : Int) (fData : List Int) (at1 : Int) (pattern : Int) : run A (E12 A) 95 (startC 12 Try.f12 (dvals A [(.struct [(.int .i64), (.int .i64), (.struct [(.int .i64), (.int .i64), (.int .i64), (.int .i64), (.int .i64)]), (.int .i64), (.slice (.int .u8))]), (.int .i64), (.int .u32)] ((fKind, fReq, (fCTime, fCPos, fCMode, fCNext, fCMember), fFrom, fData), at1, pattern))) = (t12 A fKind fReq fCTime fCPos fCMode fCNext fCMember fFrom fData at1 pattern).tr Empty.elim := by kernel_rfl
def w12 : Walk Try.prog 12 [(.struct [(.int .i64), (.int .i64), (.struct [(.int .i64), (.int .i64), (.int .i64), (.int .i64), (.int .i64)]), (.int .i64), (.slice (.int .u8))]), (.int .i64), (.int .u32)] [.bool] Empty := ⟨fun ((fKind, fReq, (fCTime, fCPos, fCMode, fCNext, fCMember), fFrom, fData), at1, pattern) => t12 std fKind fReq fCTime fCPos fCMode fCNext fCMember fFrom fData at1 pattern, Empty.elim⟩
theorem w12_ok : w12.Ok :=
  walk_ok (E := E12 std) ⟨tys_fit, fns_cons Try.func12 (by kernel_rfl) (fns_nil), sps_cons so46 (sps_cons so47 (sps_cons so48 (sps_cons so49 (sps_cons so50 (sps_cons so51 (sps_nil)))))), by kernel_rfl⟩ rfl rfl rfl (by kernel_rfl) w12 Empty.elim 95 (fun ((fKind, fReq, (fCTime, fCPos, fCMode, fCNext, fCMember), fFrom, fData), at1, pattern) => t12_ok std fKind fReq fCTime fCPos fCMode fCNext fCMember fFrom fData at1 pattern) (fun y => y.elim)

def fn12 : ((Int × Int × (Int × Int × Int × Int × Int) × Int × List Int) × Int × Int) → Bool := fun ((fKind, fReq, (fCTime, fCPos, fCMode, fCNext, fCMember), fFrom, fData), at1, pattern) => (t12 std fKind fReq fCTime fCPos fCMode fCNext fCMember fFrom fData at1 pattern).val (Ty.dflts [.bool])
def sp12 : FSpec := ⟨[(.struct [(.int .i64), (.int .i64), (.struct [(.int .i64), (.int .i64), (.int .i64), (.int .i64), (.int .i64)]), (.int .i64), (.slice (.int .u8))]), (.int .i64), (.int .u32)], [.bool], (@tt ((Int × Int × (Int × Int × Int × Int × Int) × Int × List Int) × Int × Int)), fn12⟩
theorem eqs12 (fKind : Int) (fReq : Int) (fCTime : Int) (fCPos : Int) (fCMode : Int) (fCNext : Int) (fCMember : Int) (fFrom : Int) (fData : List Int) (at1 : Int) (pattern : Int) : (t12 std fKind fReq fCTime fCPos fCMode fCNext fCMember fFrom fData at1 pattern).Eqs := by simp only [t12, LT.Eqs, and_self, true_and, and_true]
theorem pre12_ok {fKind : Int} {fReq : Int} {fCTime : Int} {fCPos : Int} {fCMode : Int} {fCNext : Int} {fCMember : Int} {fFrom : Int} {fData : List Int} {at1 : Int} {pattern : Int} (h : Ty.hass [(.struct [(.int .i64), (.int .i64), (.struct [(.int .i64), (.int .i64), (.int .i64), (.int .i64), (.int .i64)]), (.int .i64), (.slice (.int .u8))]), (.int .i64), (.int .u32)] ((fKind, fReq, (fCTime, fCPos, fCMode, fCNext, fCMember), fFrom, fData), at1, pattern)) : (t12 std fKind fReq fCTime fCPos fCMode fCNext fCMember fFrom fData at1 pattern).pre = true := by
  simp [t12, LT.pre, std_call, tt_eq]
theorem so12 : FSpec.Sound Try.prog 12 sp12 :=
  w12_ok.sound _ _ fun ((fKind, fReq, (fCTime, fCPos, fCMode, fCNext, fCMember), fFrom, fData), at1, pattern) _ h => LT.runs (d := Ty.dflts [.bool]) (eqs12 fKind fReq fCTime fCPos fCMode fCNext fCMember fFrom fData at1 pattern) (pre12_ok h)
theorem has_law12 {k r t p m n s fr a q : Int} {d : List Int} (h : Ty.hass [(.struct [(.int .i64), (.int .i64), (.struct [(.int .i64), (.int .i64), (.int .i64), (.int .i64), (.int .i64)]), (.int .i64), (.slice (.int .u8))]), (.int .i64), (.int .u32)] ((k, r, (t, p, m, n, s), fr, d), a, q)) : bytesOk d ∧ (0 ≤ q ∧ q ≤ 4294967295) := ⟨has_frame h.1, h.2.2⟩
theorem burstS_bytes {b : Int × List Int} {a q : Int} : bytesOk (burstS (b, a, q)).1.2 := by
  have hz : bytesOk zB.2 := fun x hx => by cases hx
  have hof : ∀ l, bytesOk (ofS l).1.2 := fun l => by
    rw [ofS]
    cases decide (4096 < l.length)
    · exact pack_ok l
    · exact hz
  rw [burstS]
  cases !bsOk b
  · rw [cond_false]
    cases (decide (a < 0) || decide (b.1 < a))
    · rw [cond_false, flipS]
      cases !bsOk b
      · rw [cond_false]
        cases (posL a b.1 q.toNat 32 0).any (fun i => decide (i < 0) || decide (b.1 ≤ i))
        · exact hof _
        · exact hz
      · exact hz
    · exact hz
  · exact hz
theorem law12 (x : (Int × Int × (Int × Int × Int × Int × Int) × Int × List Int) × Int × Int) (h : Ty.hass [(.struct [(.int .i64), (.int .i64), (.struct [(.int .i64), (.int .i64), (.int .i64), (.int .i64), (.int .i64)]), (.int .i64), (.slice (.int .u8))]), (.int .i64), (.int .u32)] x) : fn12 x = true := by
  obtain ⟨⟨k, r, ⟨t, p, m, n, s⟩, fr, d⟩, a, q⟩ := x
  obtain ⟨hd, hq⟩ := has_law12 h
  have hcut : std.bin .and .u32 q 16777215 = ((q.toNat % 16777216 : Nat) : Int) := by
    obtain ⟨v, rfl⟩ := Int.eq_ofNat_of_zero_le hq.1
    exact cut32 (by omega)
  simp only [fn12, t12, LT.val, std_call, begun05, fn46, fn50, fn48, fn51_eq, std_not, Bool.not_true, cond_false, std_cmp_neq, hcut]
  have hq2 : 0 ≤ ((q.toNat % 16777216 : Nat) : Int) ∧ ((q.toNat % 16777216 : Nat) : Int) < 16777216 := by omega
  generalize ((q.toNat % 16777216 : Nat) : Int) = q2 at hq2
  cases hok : frOk (k, r, (t, p, m, n, s), fr, d)
  · rw [show encS (k, r, (t, p, m, n, s), fr, d) = (zB, 50) from by rw [encS, hok]; rfl]
    rfl
  · rw [show encS (k, r, (t, p, m, n, s), fr, d) = (bsP (frBits (k, r, (t, p, m, n, s), fr, d)), 0) from by rw [encS, hok]; rfl]
    rw [bne_self_eq_false, cond_false]
    by_cases h2 : (burstS (bsP (frBits (k, r, (t, p, m, n, s), fr, d)), a, q2)).2 = 0
    · rw [h2, bne_self_eq_false, cond_false]
      by_cases h3 : (burstS (bsP (frBits (k, r, (t, p, m, n, s), fr, d)), a, q2)).1 = bsP (frBits (k, r, (t, p, m, n, s), fr, d))
      · rw [h3, same_bits (pack_ok _)]; rfl
      · obtain ⟨h4, h5⟩ := burst_law hok hd hq2 h2 h3
        have h6 : fn49 ((burstS (bsP (frBits (k, r, (t, p, m, n, s), fr, d)), a, q2)).1, bsP (frBits (k, r, (t, p, m, n, s), fr, d))) = false := by
          have := fn49_eq (n := (burstS (bsP (frBits (k, r, (t, p, m, n, s), fr, d)), a, q2)).1.1) (m := (bsP (frBits (k, r, (t, p, m, n, s), fr, d))).1) (burstS_bytes (b := bsP (frBits (k, r, (t, p, m, n, s), fr, d))) (a := a) (q := q2)) (pack_ok (frBits (k, r, (t, p, m, n, s), fr, d)))
          exact this.trans (decide_eq_false h3)
        rw [h6, h5, bne_iff_ne.2 h4]; rfl
    · rw [bne_iff_ne.2 h2]; rfl

end Go.Ev.M
