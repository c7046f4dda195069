/-
  PROVED: what metronomeref17 computes, and the statement JudgeSlots of its function. Conditions: none.
-/
import Derived.Test.YtafbddhnoacldaaJa
import Derived.Test.YtafbddhnoacldaaDb
namespace Go.Ev.M
open Go.Proofs
set_option maxRecDepth 100000
set_option linter.unusedVariables false
set_option linter.unusedSimpArgs false

open Go.Ev.Pl
/-! ### metronome/metronomeref17.Slot (function 62) -/
structure P62c0 where
  a0 : List (Int × Int × (Int × List Int))
  a1 : List Int
  a2 : Int
  a3 : Int
  a4 : Int
  a5 : Int
  a6 : Int
  a7 : Int
  a8 : Int
  a9 : Int
  a10 : Int
  a11 : Int
  a12 : Int
  a13 : Int
  a14 : Int
  a15 : Int
  a16 : Int
  a17 : Int
  a18 : Int
  a19 : Int
structure P62c1 where
  b0 : List (Int × Int × (Int × List Int))
  b1 : List Int
  b2 : Int
  b4 : Int
  b5 : Int
  b6 : Int
  b7 : Int
  b8 : Int
  b9 : Int
  b10 : Int
  b11 : Int
  b12 : Int
  b13 : Int
  b14 : Int
  b15 : Int
  b16 : Int
  b17 : Int
  b18 : Int
  b19 : Int
  b20 : Int
  b21 : Int
  b22 : Int
  b23 : Int
  b24 : Int
  b25 : Int
structure P62c2 where
  c0 : List (Int × Int × (Int × List Int))
  c2 : Int
  c3 : Int
  c4 : Int
  c5 : Int
  c6 : Int
  c7 : Int
  c8 : Int
  c9 : Int
  c10 : Int
  c11 : Int
  c12 : Int
  c13 : Int
inductive Y62 where
  | c0 (p : P62c0)
  | c1 (p : P62c1) (b3 : Int)
  | c2 (p : P62c2) (c1 : Int)
noncomputable def cfg62 : Y62 → Cfg
  | .c0 p => { frames := [{ fn := 62, n := 109, env := (Env.put (Env.put (Env.put (Env.put (Env.put .leaf 3 (.sl (.struct [(.int .i64), (.int .i64), (.struct [(.int .i64), (.slice (.int .u8))])]) p.a0)) 4 (.ptr 0 0)) 8 (.ptr 1 0)) 10 (.sl (.int .i64) p.a1)) 11 (.int .i64 false p.a2)), todo := [.inLoop (Code.way (bodyOf Try.f62) [1, 1, 1, 1, 0, 1, 0, 0]), .inBlock 0, .code (Code.way (bodyOf Try.f62) [1, 1, 1, 1, 1])], marks := [], rnd := none }], mem := [.flat false [.int .i64 false p.a3, .int .i64 false p.a4, .int .i64 false p.a5, .int .i64 false p.a6, .int .i64 false p.a7], .flat false [.int .i64 false p.a8, .int .i64 false p.a9, .int .i64 false p.a10, .int .i64 false p.a11, .int .i64 false p.a12, .int .i64 false p.a13, .int .i64 false p.a14, .int .i64 false p.a15, .int .i64 false p.a16, .int .i64 false p.a17, .int .i64 false p.a18, .esl true, .int .i64 false p.a19], .dead] }
  | .c1 p b3 => { frames := [{ fn := 62, n := 109, env := (Env.put (Env.put (Env.put (Env.put (Env.put (Env.put (Env.put .leaf 3 (.sl (.struct [(.int .i64), (.int .i64), (.struct [(.int .i64), (.slice (.int .u8))])]) p.b0)) 4 (.ptr 0 0)) 8 (.ptr 1 0)) 10 (.sl (.int .i64) p.b1)) 11 (.int .i64 false p.b2)) 12 (.ptr 2 0)) 13 (.int .i64 false b3)), todo := [.inLoop (Code.way (bodyOf Try.f62) [1, 1, 1, 1, 0, 1, 0, 0, 1, 0, 0, 1, 1, 1, 0, 0]), .inBlock 2, .inBlock 1, .code (Code.way (bodyOf Try.f62) [1, 1, 1, 1, 0, 1, 0, 0, 1, 1]), .inLoop (Code.way (bodyOf Try.f62) [1, 1, 1, 1, 0, 1, 0, 0]), .inBlock 0, .code (Code.way (bodyOf Try.f62) [1, 1, 1, 1, 1])], marks := [], rnd := none }], mem := [.flat false [.int .i64 false p.b4, .int .i64 false p.b5, .int .i64 false p.b6, .int .i64 false p.b7, .int .i64 false p.b8], .flat false [.int .i64 false p.b9, .int .i64 false p.b10, .int .i64 false p.b11, .int .i64 false p.b12, .int .i64 false p.b13, .int .i64 false p.b14, .int .i64 false p.b15, .int .i64 false p.b16, .int .i64 false p.b17, .int .i64 false p.b18, .int .i64 false p.b19, .esl true, .int .i64 false p.b20], .flat false [.int .i64 false p.b21, .int .i64 false p.b22, .int .i64 false p.b23, .int .i64 false p.b24, .int .i64 false p.b25], .dead] }
  | .c2 p c1 => { frames := [{ fn := 62, n := 109, env := (Env.put (Env.put (Env.put .leaf 3 (.sl (.struct [(.int .i64), (.int .i64), (.struct [(.int .i64), (.slice (.int .u8))])]) p.c0)) 8 (.ptr 0 0)) 16 (.int .i64 false c1)), todo := [.inLoop (Code.way (bodyOf Try.f62) [1, 1, 1, 1, 1, 0, 1, 0, 0]), .inBlock 4, .code (Code.way (bodyOf Try.f62) [1, 1, 1, 1, 1, 1])], marks := [], rnd := none }], mem := [.flat false [.int .i64 false p.c2, .int .i64 false p.c3, .int .i64 false p.c4, .int .i64 false p.c5, .int .i64 false p.c6, .int .i64 false p.c7, .int .i64 false p.c8, .int .i64 false p.c9, .int .i64 false p.c10, .int .i64 false p.c11, .int .i64 false p.c12, .esl true, .int .i64 false p.c13], .dead] }

def t62 (A : Alg) (cTime : Int) (cPos : Int) (cMode : Int) (cNext : Int) (cMember : Int) (vId : Int) (vN : Int) (vSet : Int) (vAcc : Int) (vFail : Int) (vStage : Int) (vFirst : Int) (sender : Int) (seen : List (Int × Int × (Int × List Int))) : LT ((Int × Int × Int × (Int × Int × (Int × Int × Int × Int × Int) × Int × List Int) × Int) × Int) Y62 :=
  .need (A.call (@tt ((Int × Int × Int × Int × Int × Int × Int))) (vId, vN, vSet, vAcc, vFail, vStage, vFirst)) (
  .br (A.cmp .neq (A.call fn35 (vId, vN, vSet, vAcc, vFail, vStage, vFirst)) 0)
  (.ret ((0, 0, 0, (0, 0, (0, 0, 0, 0, 0), 0, ([] : List Int)), 0), 170))
  (.need (A.call (@tt ((Int × Int × Int × Int × Int) × Int)) ((cTime, cPos, cMode, cNext, cMember), vN)) (
  .br (A.cmp .neq (A.call fn42 ((cTime, cPos, cMode, cNext, cMember), vN)) 0)
  (.ret ((0, 0, 0, (0, 0, (0, 0, 0, 0, 0), 0, ([] : List Int)), 0), 170))
  (.br (A.cmp .lss sender 0)
  (.ret ((0, 0, 0, (0, 0, (0, 0, 0, 0, 0), 0, ([] : List Int)), 0), 2))
  (.br (A.cmp .geq sender vN)
  (.ret ((0, 0, 0, (0, 0, (0, 0, 0, 0, 0), 0, ([] : List Int)), 0), 2))
  (.br (A.cmp .eql sender vId)
  (.ret ((0, 0, 0, (0, 0, (0, 0, 0, 0, 0), 0, ([] : List Int)), 0), 2))
  (.br (A.cmp .neq (A.len seen) 2)
  (.ret ((0, 0, 0, (0, 0, (0, 0, 0, 0, 0), 0, ([] : List Int)), 0), 2))
  (.need (A.call (@tt ((Int × Int × Int × Int × Int × Int × Int) × Int)) ((vId, vN, vSet, vAcc, vFail, vStage, vFirst), sender)) (
  .more (.c0 ⟨seen, (A.call fn33 ((vId, vN, vSet, vAcc, vFail, vStage, vFirst), sender)), 0, cTime, cPos, cMode, cNext, cMember, 0, 0, 0, 0, 0, 0, 0, 0, 0, 0, 0, 0⟩))))))))))
def s62 (A : Alg) : Y62 → LT ((Int × Int × Int × (Int × Int × (Int × Int × Int × Int × Int) × Int × List Int) × Int) × Int) Y62
 | .c0 p =>
  .br (A.cmp .lss p.a2 (A.len p.a1))
  (.need (A.and (A.cmp .leq 0 p.a2) (A.cmp .lss p.a2 (A.len p.a1))) (
  .more (.c1 ⟨p.a0, p.a1, p.a2, p.a3, p.a4, p.a5, p.a6, p.a7, p.a8, p.a9, p.a10, p.a11, p.a12, p.a13, p.a14, p.a15, p.a16, p.a17, p.a18, p.a19, p.a3, p.a4, p.a5, p.a6, (A.nth (.int .i64) p.a1 p.a2 : Int)⟩ 0)))
  (.more (.c2 ⟨p.a0, p.a8, p.a9, p.a10, p.a11, p.a12, p.a13, p.a14, p.a15, p.a16, p.a17, p.a18, p.a19⟩ 0))
 | .c1 p b3 =>
  .br (A.cmp .lss b3 (A.len p.b0))
  (.need (A.and (A.cmp .leq 0 b3) (A.cmp .lss b3 (A.len p.b0))) (
  .br (A.cmp .neq (A.nth (.struct [(.int .i64), (.int .i64), (.struct [(.int .i64), (.slice (.int .u8))])]) p.b0 b3 : Int × Int × (Int × List Int)).1 2)
  (.more (.c1 p (A.bin .add .i64 b3 1)))
  (.need (A.and (A.cmp .leq 0 b3) (A.cmp .lss b3 (A.len p.b0))) (
  .need (A.call (@tt ((Int × List Int) × (Int × Int × Int × Int × Int))) ((A.nth (.struct [(.int .i64), (.int .i64), (.struct [(.int .i64), (.slice (.int .u8))])]) p.b0 b3 : Int × Int × (Int × List Int)).2.2, p.b21, p.b22, p.b23, p.b24, p.b25)) (
  .eqs (((A.call fn54 ((A.nth (.struct [(.int .i64), (.int .i64), (.struct [(.int .i64), (.slice (.int .u8))])]) p.b0 b3 : Int × Int × (Int × List Int)).2.2, p.b21, p.b22, p.b23, p.b24, p.b25)).2 : Bool) = (A.call fn54 ((A.nth (.struct [(.int .i64), (.int .i64), (.struct [(.int .i64), (.slice (.int .u8))])]) p.b0 b3 : Int × Int × (Int × List Int)).2.2, p.b21, p.b22, p.b23, p.b24, p.b25)).2) (
  .eqs ((.agg [.int .i64 false (A.call fn54 ((A.nth (.struct [(.int .i64), (.int .i64), (.struct [(.int .i64), (.slice (.int .u8))])]) p.b0 b3 : Int × Int × (Int × List Int)).2.2, p.b21, p.b22, p.b23, p.b24, p.b25)).1.1, .int .i64 false (A.call fn54 ((A.nth (.struct [(.int .i64), (.int .i64), (.struct [(.int .i64), (.slice (.int .u8))])]) p.b0 b3 : Int × Int × (Int × List Int)).2.2, p.b21, p.b22, p.b23, p.b24, p.b25)).1.2.1, .int .i64 false (A.call fn54 ((A.nth (.struct [(.int .i64), (.int .i64), (.struct [(.int .i64), (.slice (.int .u8))])]) p.b0 b3 : Int × Int × (Int × List Int)).2.2, p.b21, p.b22, p.b23, p.b24, p.b25)).1.2.2.1.1, .int .i64 false (A.call fn54 ((A.nth (.struct [(.int .i64), (.int .i64), (.struct [(.int .i64), (.slice (.int .u8))])]) p.b0 b3 : Int × Int × (Int × List Int)).2.2, p.b21, p.b22, p.b23, p.b24, p.b25)).1.2.2.1.2.1, .int .i64 false (A.call fn54 ((A.nth (.struct [(.int .i64), (.int .i64), (.struct [(.int .i64), (.slice (.int .u8))])]) p.b0 b3 : Int × Int × (Int × List Int)).2.2, p.b21, p.b22, p.b23, p.b24, p.b25)).1.2.2.1.2.2.1, .int .i64 false (A.call fn54 ((A.nth (.struct [(.int .i64), (.int .i64), (.struct [(.int .i64), (.slice (.int .u8))])]) p.b0 b3 : Int × Int × (Int × List Int)).2.2, p.b21, p.b22, p.b23, p.b24, p.b25)).1.2.2.1.2.2.2.1, .int .i64 false (A.call fn54 ((A.nth (.struct [(.int .i64), (.int .i64), (.struct [(.int .i64), (.slice (.int .u8))])]) p.b0 b3 : Int × Int × (Int × List Int)).2.2, p.b21, p.b22, p.b23, p.b24, p.b25)).1.2.2.1.2.2.2.2, .int .i64 false (A.call fn54 ((A.nth (.struct [(.int .i64), (.int .i64), (.struct [(.int .i64), (.slice (.int .u8))])]) p.b0 b3 : Int × Int × (Int × List Int)).2.2, p.b21, p.b22, p.b23, p.b24, p.b25)).1.2.2.2.1, .sl (.int .u8) (A.call fn54 ((A.nth (.struct [(.int .i64), (.int .i64), (.struct [(.int .i64), (.slice (.int .u8))])]) p.b0 b3 : Int × Int × (Int × List Int)).2.2, p.b21, p.b22, p.b23, p.b24, p.b25)).1.2.2.2.2] : AV) = .agg [.int .i64 false (A.call fn54 ((A.nth (.struct [(.int .i64), (.int .i64), (.struct [(.int .i64), (.slice (.int .u8))])]) p.b0 b3 : Int × Int × (Int × List Int)).2.2, p.b21, p.b22, p.b23, p.b24, p.b25)).1.1, .int .i64 false (A.call fn54 ((A.nth (.struct [(.int .i64), (.int .i64), (.struct [(.int .i64), (.slice (.int .u8))])]) p.b0 b3 : Int × Int × (Int × List Int)).2.2, p.b21, p.b22, p.b23, p.b24, p.b25)).1.2.1, .int .i64 false (A.call fn54 ((A.nth (.struct [(.int .i64), (.int .i64), (.struct [(.int .i64), (.slice (.int .u8))])]) p.b0 b3 : Int × Int × (Int × List Int)).2.2, p.b21, p.b22, p.b23, p.b24, p.b25)).1.2.2.1.1, .int .i64 false (A.call fn54 ((A.nth (.struct [(.int .i64), (.int .i64), (.struct [(.int .i64), (.slice (.int .u8))])]) p.b0 b3 : Int × Int × (Int × List Int)).2.2, p.b21, p.b22, p.b23, p.b24, p.b25)).1.2.2.1.2.1, .int .i64 false (A.call fn54 ((A.nth (.struct [(.int .i64), (.int .i64), (.struct [(.int .i64), (.slice (.int .u8))])]) p.b0 b3 : Int × Int × (Int × List Int)).2.2, p.b21, p.b22, p.b23, p.b24, p.b25)).1.2.2.1.2.2.1, .int .i64 false (A.call fn54 ((A.nth (.struct [(.int .i64), (.int .i64), (.struct [(.int .i64), (.slice (.int .u8))])]) p.b0 b3 : Int × Int × (Int × List Int)).2.2, p.b21, p.b22, p.b23, p.b24, p.b25)).1.2.2.1.2.2.2.1, .int .i64 false (A.call fn54 ((A.nth (.struct [(.int .i64), (.int .i64), (.struct [(.int .i64), (.slice (.int .u8))])]) p.b0 b3 : Int × Int × (Int × List Int)).2.2, p.b21, p.b22, p.b23, p.b24, p.b25)).1.2.2.1.2.2.2.2, .int .i64 false (A.call fn54 ((A.nth (.struct [(.int .i64), (.int .i64), (.struct [(.int .i64), (.slice (.int .u8))])]) p.b0 b3 : Int × Int × (Int × List Int)).2.2, p.b21, p.b22, p.b23, p.b24, p.b25)).1.2.2.2.1, .sl (.int .u8) (A.call fn54 ((A.nth (.struct [(.int .i64), (.int .i64), (.struct [(.int .i64), (.slice (.int .u8))])]) p.b0 b3 : Int × Int × (Int × List Int)).2.2, p.b21, p.b22, p.b23, p.b24, p.b25)).1.2.2.2.2]) (
  .eqs ((.tup [.agg [.int .i64 false (A.call fn54 ((A.nth (.struct [(.int .i64), (.int .i64), (.struct [(.int .i64), (.slice (.int .u8))])]) p.b0 b3 : Int × Int × (Int × List Int)).2.2, p.b21, p.b22, p.b23, p.b24, p.b25)).1.1, .int .i64 false (A.call fn54 ((A.nth (.struct [(.int .i64), (.int .i64), (.struct [(.int .i64), (.slice (.int .u8))])]) p.b0 b3 : Int × Int × (Int × List Int)).2.2, p.b21, p.b22, p.b23, p.b24, p.b25)).1.2.1, .int .i64 false (A.call fn54 ((A.nth (.struct [(.int .i64), (.int .i64), (.struct [(.int .i64), (.slice (.int .u8))])]) p.b0 b3 : Int × Int × (Int × List Int)).2.2, p.b21, p.b22, p.b23, p.b24, p.b25)).1.2.2.1.1, .int .i64 false (A.call fn54 ((A.nth (.struct [(.int .i64), (.int .i64), (.struct [(.int .i64), (.slice (.int .u8))])]) p.b0 b3 : Int × Int × (Int × List Int)).2.2, p.b21, p.b22, p.b23, p.b24, p.b25)).1.2.2.1.2.1, .int .i64 false (A.call fn54 ((A.nth (.struct [(.int .i64), (.int .i64), (.struct [(.int .i64), (.slice (.int .u8))])]) p.b0 b3 : Int × Int × (Int × List Int)).2.2, p.b21, p.b22, p.b23, p.b24, p.b25)).1.2.2.1.2.2.1, .int .i64 false (A.call fn54 ((A.nth (.struct [(.int .i64), (.int .i64), (.struct [(.int .i64), (.slice (.int .u8))])]) p.b0 b3 : Int × Int × (Int × List Int)).2.2, p.b21, p.b22, p.b23, p.b24, p.b25)).1.2.2.1.2.2.2.1, .int .i64 false (A.call fn54 ((A.nth (.struct [(.int .i64), (.int .i64), (.struct [(.int .i64), (.slice (.int .u8))])]) p.b0 b3 : Int × Int × (Int × List Int)).2.2, p.b21, p.b22, p.b23, p.b24, p.b25)).1.2.2.1.2.2.2.2, .int .i64 false (A.call fn54 ((A.nth (.struct [(.int .i64), (.int .i64), (.struct [(.int .i64), (.slice (.int .u8))])]) p.b0 b3 : Int × Int × (Int × List Int)).2.2, p.b21, p.b22, p.b23, p.b24, p.b25)).1.2.2.2.1, .sl (.int .u8) (A.call fn54 ((A.nth (.struct [(.int .i64), (.int .i64), (.struct [(.int .i64), (.slice (.int .u8))])]) p.b0 b3 : Int × Int × (Int × List Int)).2.2, p.b21, p.b22, p.b23, p.b24, p.b25)).1.2.2.2.2], .bool false (A.call fn54 ((A.nth (.struct [(.int .i64), (.int .i64), (.struct [(.int .i64), (.slice (.int .u8))])]) p.b0 b3 : Int × Int × (Int × List Int)).2.2, p.b21, p.b22, p.b23, p.b24, p.b25)).2] : AV) = .tup [.agg [.int .i64 false (A.call fn54 ((A.nth (.struct [(.int .i64), (.int .i64), (.struct [(.int .i64), (.slice (.int .u8))])]) p.b0 b3 : Int × Int × (Int × List Int)).2.2, p.b21, p.b22, p.b23, p.b24, p.b25)).1.1, .int .i64 false (A.call fn54 ((A.nth (.struct [(.int .i64), (.int .i64), (.struct [(.int .i64), (.slice (.int .u8))])]) p.b0 b3 : Int × Int × (Int × List Int)).2.2, p.b21, p.b22, p.b23, p.b24, p.b25)).1.2.1, .int .i64 false (A.call fn54 ((A.nth (.struct [(.int .i64), (.int .i64), (.struct [(.int .i64), (.slice (.int .u8))])]) p.b0 b3 : Int × Int × (Int × List Int)).2.2, p.b21, p.b22, p.b23, p.b24, p.b25)).1.2.2.1.1, .int .i64 false (A.call fn54 ((A.nth (.struct [(.int .i64), (.int .i64), (.struct [(.int .i64), (.slice (.int .u8))])]) p.b0 b3 : Int × Int × (Int × List Int)).2.2, p.b21, p.b22, p.b23, p.b24, p.b25)).1.2.2.1.2.1, .int .i64 false (A.call fn54 ((A.nth (.struct [(.int .i64), (.int .i64), (.struct [(.int .i64), (.slice (.int .u8))])]) p.b0 b3 : Int × Int × (Int × List Int)).2.2, p.b21, p.b22, p.b23, p.b24, p.b25)).1.2.2.1.2.2.1, .int .i64 false (A.call fn54 ((A.nth (.struct [(.int .i64), (.int .i64), (.struct [(.int .i64), (.slice (.int .u8))])]) p.b0 b3 : Int × Int × (Int × List Int)).2.2, p.b21, p.b22, p.b23, p.b24, p.b25)).1.2.2.1.2.2.2.1, .int .i64 false (A.call fn54 ((A.nth (.struct [(.int .i64), (.int .i64), (.struct [(.int .i64), (.slice (.int .u8))])]) p.b0 b3 : Int × Int × (Int × List Int)).2.2, p.b21, p.b22, p.b23, p.b24, p.b25)).1.2.2.1.2.2.2.2, .int .i64 false (A.call fn54 ((A.nth (.struct [(.int .i64), (.int .i64), (.struct [(.int .i64), (.slice (.int .u8))])]) p.b0 b3 : Int × Int × (Int × List Int)).2.2, p.b21, p.b22, p.b23, p.b24, p.b25)).1.2.2.2.1, .sl (.int .u8) (A.call fn54 ((A.nth (.struct [(.int .i64), (.int .i64), (.struct [(.int .i64), (.slice (.int .u8))])]) p.b0 b3 : Int × Int × (Int × List Int)).2.2, p.b21, p.b22, p.b23, p.b24, p.b25)).1.2.2.2.2], .bool false (A.call fn54 ((A.nth (.struct [(.int .i64), (.int .i64), (.struct [(.int .i64), (.slice (.int .u8))])]) p.b0 b3 : Int × Int × (Int × List Int)).2.2, p.b21, p.b22, p.b23, p.b24, p.b25)).2]) (
  .need (A.call (@tt ((Int × List Int) × (Int × Int × Int × Int × Int))) ((A.nth (.struct [(.int .i64), (.int .i64), (.struct [(.int .i64), (.slice (.int .u8))])]) p.b0 b3 : Int × Int × (Int × List Int)).2.2, p.b21, p.b22, p.b23, p.b24, p.b25)) (
  .eqs ((.tup [.agg [.int .i64 false (A.call fn54 ((A.nth (.struct [(.int .i64), (.int .i64), (.struct [(.int .i64), (.slice (.int .u8))])]) p.b0 b3 : Int × Int × (Int × List Int)).2.2, p.b21, p.b22, p.b23, p.b24, p.b25)).1.1, .int .i64 false (A.call fn54 ((A.nth (.struct [(.int .i64), (.int .i64), (.struct [(.int .i64), (.slice (.int .u8))])]) p.b0 b3 : Int × Int × (Int × List Int)).2.2, p.b21, p.b22, p.b23, p.b24, p.b25)).1.2.1, .int .i64 false (A.call fn54 ((A.nth (.struct [(.int .i64), (.int .i64), (.struct [(.int .i64), (.slice (.int .u8))])]) p.b0 b3 : Int × Int × (Int × List Int)).2.2, p.b21, p.b22, p.b23, p.b24, p.b25)).1.2.2.1.1, .int .i64 false (A.call fn54 ((A.nth (.struct [(.int .i64), (.int .i64), (.struct [(.int .i64), (.slice (.int .u8))])]) p.b0 b3 : Int × Int × (Int × List Int)).2.2, p.b21, p.b22, p.b23, p.b24, p.b25)).1.2.2.1.2.1, .int .i64 false (A.call fn54 ((A.nth (.struct [(.int .i64), (.int .i64), (.struct [(.int .i64), (.slice (.int .u8))])]) p.b0 b3 : Int × Int × (Int × List Int)).2.2, p.b21, p.b22, p.b23, p.b24, p.b25)).1.2.2.1.2.2.1, .int .i64 false (A.call fn54 ((A.nth (.struct [(.int .i64), (.int .i64), (.struct [(.int .i64), (.slice (.int .u8))])]) p.b0 b3 : Int × Int × (Int × List Int)).2.2, p.b21, p.b22, p.b23, p.b24, p.b25)).1.2.2.1.2.2.2.1, .int .i64 false (A.call fn54 ((A.nth (.struct [(.int .i64), (.int .i64), (.struct [(.int .i64), (.slice (.int .u8))])]) p.b0 b3 : Int × Int × (Int × List Int)).2.2, p.b21, p.b22, p.b23, p.b24, p.b25)).1.2.2.1.2.2.2.2, .int .i64 false (A.call fn54 ((A.nth (.struct [(.int .i64), (.int .i64), (.struct [(.int .i64), (.slice (.int .u8))])]) p.b0 b3 : Int × Int × (Int × List Int)).2.2, p.b21, p.b22, p.b23, p.b24, p.b25)).1.2.2.2.1, .sl (.int .u8) (A.call fn54 ((A.nth (.struct [(.int .i64), (.int .i64), (.struct [(.int .i64), (.slice (.int .u8))])]) p.b0 b3 : Int × Int × (Int × List Int)).2.2, p.b21, p.b22, p.b23, p.b24, p.b25)).1.2.2.2.2], .bool false (A.call fn54 ((A.nth (.struct [(.int .i64), (.int .i64), (.struct [(.int .i64), (.slice (.int .u8))])]) p.b0 b3 : Int × Int × (Int × List Int)).2.2, p.b21, p.b22, p.b23, p.b24, p.b25)).2] : AV) = .tup [.agg [.int .i64 false (A.call fn54 ((A.nth (.struct [(.int .i64), (.int .i64), (.struct [(.int .i64), (.slice (.int .u8))])]) p.b0 b3 : Int × Int × (Int × List Int)).2.2, p.b21, p.b22, p.b23, p.b24, p.b25)).1.1, .int .i64 false (A.call fn54 ((A.nth (.struct [(.int .i64), (.int .i64), (.struct [(.int .i64), (.slice (.int .u8))])]) p.b0 b3 : Int × Int × (Int × List Int)).2.2, p.b21, p.b22, p.b23, p.b24, p.b25)).1.2.1, .int .i64 false (A.call fn54 ((A.nth (.struct [(.int .i64), (.int .i64), (.struct [(.int .i64), (.slice (.int .u8))])]) p.b0 b3 : Int × Int × (Int × List Int)).2.2, p.b21, p.b22, p.b23, p.b24, p.b25)).1.2.2.1.1, .int .i64 false (A.call fn54 ((A.nth (.struct [(.int .i64), (.int .i64), (.struct [(.int .i64), (.slice (.int .u8))])]) p.b0 b3 : Int × Int × (Int × List Int)).2.2, p.b21, p.b22, p.b23, p.b24, p.b25)).1.2.2.1.2.1, .int .i64 false (A.call fn54 ((A.nth (.struct [(.int .i64), (.int .i64), (.struct [(.int .i64), (.slice (.int .u8))])]) p.b0 b3 : Int × Int × (Int × List Int)).2.2, p.b21, p.b22, p.b23, p.b24, p.b25)).1.2.2.1.2.2.1, .int .i64 false (A.call fn54 ((A.nth (.struct [(.int .i64), (.int .i64), (.struct [(.int .i64), (.slice (.int .u8))])]) p.b0 b3 : Int × Int × (Int × List Int)).2.2, p.b21, p.b22, p.b23, p.b24, p.b25)).1.2.2.1.2.2.2.1, .int .i64 false (A.call fn54 ((A.nth (.struct [(.int .i64), (.int .i64), (.struct [(.int .i64), (.slice (.int .u8))])]) p.b0 b3 : Int × Int × (Int × List Int)).2.2, p.b21, p.b22, p.b23, p.b24, p.b25)).1.2.2.1.2.2.2.2, .int .i64 false (A.call fn54 ((A.nth (.struct [(.int .i64), (.int .i64), (.struct [(.int .i64), (.slice (.int .u8))])]) p.b0 b3 : Int × Int × (Int × List Int)).2.2, p.b21, p.b22, p.b23, p.b24, p.b25)).1.2.2.2.1, .sl (.int .u8) (A.call fn54 ((A.nth (.struct [(.int .i64), (.int .i64), (.struct [(.int .i64), (.slice (.int .u8))])]) p.b0 b3 : Int × Int × (Int × List Int)).2.2, p.b21, p.b22, p.b23, p.b24, p.b25)).1.2.2.2.2], .bool false (A.call fn54 ((A.nth (.struct [(.int .i64), (.int .i64), (.struct [(.int .i64), (.slice (.int .u8))])]) p.b0 b3 : Int × Int × (Int × List Int)).2.2, p.b21, p.b22, p.b23, p.b24, p.b25)).2]) (
  .eqs ((.agg [.int .i64 false p.b21, .int .i64 false p.b22, .int .i64 false p.b23, .int .i64 false p.b24, .int .i64 false p.b25] : AV) = .agg [.int .i64 false p.b21, .int .i64 false p.b22, .int .i64 false p.b23, .int .i64 false p.b24, .int .i64 false p.b25]) (
  .eqs ((.agg [.int .i64 false (A.nth (.struct [(.int .i64), (.int .i64), (.struct [(.int .i64), (.slice (.int .u8))])]) p.b0 b3 : Int × Int × (Int × List Int)).2.2.1, .sl (.int .u8) (A.nth (.struct [(.int .i64), (.int .i64), (.struct [(.int .i64), (.slice (.int .u8))])]) p.b0 b3 : Int × Int × (Int × List Int)).2.2.2] : AV) = .agg [.int .i64 false (A.nth (.struct [(.int .i64), (.int .i64), (.struct [(.int .i64), (.slice (.int .u8))])]) p.b0 b3 : Int × Int × (Int × List Int)).2.2.1, .sl (.int .u8) (A.nth (.struct [(.int .i64), (.int .i64), (.struct [(.int .i64), (.slice (.int .u8))])]) p.b0 b3 : Int × Int × (Int × List Int)).2.2.2]) (
  .eqs ((.iptr (.struct [(.int .i64), (.int .i64), (.struct [(.int .i64), (.slice (.int .u8))])]) (A.nth (.struct [(.int .i64), (.int .i64), (.struct [(.int .i64), (.slice (.int .u8))])]) p.b0 b3 : Int × Int × (Int × List Int)) 2 : AV) = .iptr (.struct [(.int .i64), (.int .i64), (.struct [(.int .i64), (.slice (.int .u8))])]) (A.nth (.struct [(.int .i64), (.int .i64), (.struct [(.int .i64), (.slice (.int .u8))])]) p.b0 b3 : Int × Int × (Int × List Int)) 2) (
  .need (A.and (A.cmp .leq 0 b3) (A.cmp .lss b3 (A.len p.b0))) (
  .eqs ((.iptr (.struct [(.int .i64), (.int .i64), (.struct [(.int .i64), (.slice (.int .u8))])]) (A.nth (.struct [(.int .i64), (.int .i64), (.struct [(.int .i64), (.slice (.int .u8))])]) p.b0 b3 : Int × Int × (Int × List Int)) 0 : AV) = .iptr (.struct [(.int .i64), (.int .i64), (.struct [(.int .i64), (.slice (.int .u8))])]) (A.nth (.struct [(.int .i64), (.int .i64), (.struct [(.int .i64), (.slice (.int .u8))])]) p.b0 b3 : Int × Int × (Int × List Int)) 0) (
  .eqs (IntKind.i64 = IntKind.i64 ∧ (b3 : Int) = b3) (
  .eqs ((.sl (.struct [(.int .i64), (.int .i64), (.struct [(.int .i64), (.slice (.int .u8))])]) p.b0 : AV) = .sl (.struct [(.int .i64), (.int .i64), (.struct [(.int .i64), (.slice (.int .u8))])]) p.b0) (
  .eqs (((A.call fn54 ((A.nth (.struct [(.int .i64), (.int .i64), (.struct [(.int .i64), (.slice (.int .u8))])]) p.b0 b3 : Int × Int × (Int × List Int)).2.2, p.b21, p.b22, p.b23, p.b24, p.b25)).2 : Bool) = (A.call fn54 ((A.nth (.struct [(.int .i64), (.int .i64), (.struct [(.int .i64), (.slice (.int .u8))])]) p.b0 b3 : Int × Int × (Int × List Int)).2.2, p.b21, p.b22, p.b23, p.b24, p.b25)).2) (
  .br (A.call fn54 ((A.nth (.struct [(.int .i64), (.int .i64), (.struct [(.int .i64), (.slice (.int .u8))])]) p.b0 b3 : Int × Int × (Int × List Int)).2.2, p.b21, p.b22, p.b23, p.b24, p.b25)).2
  (.need (A.and (A.cmp .leq 0 b3) (A.cmp .lss b3 (A.len p.b0))) (
  .ret ((3, p.b2, b3, (A.call fn54 ((A.nth (.struct [(.int .i64), (.int .i64), (.struct [(.int .i64), (.slice (.int .u8))])]) p.b0 b3 : Int × Int × (Int × List Int)).2.2, p.b21, p.b22, p.b23, p.b24, p.b25)).1, (A.nth (.struct [(.int .i64), (.int .i64), (.struct [(.int .i64), (.slice (.int .u8))])]) p.b0 b3 : Int × Int × (Int × List Int)).2.1), 0)))
  (.more (.c1 p (A.bin .add .i64 b3 1)))))))))))))))))))))
  (.more (.c0 ⟨p.b0, p.b1, (A.bin .add .i64 p.b2 1), p.b4, p.b5, p.b6, p.b7, p.b8, p.b9, p.b10, p.b11, p.b12, p.b13, p.b14, p.b15, p.b16, p.b17, p.b18, p.b19, p.b20⟩))
 | .c2 p c1 =>
  .br (A.cmp .lss c1 (A.len p.c0))
  (.need (A.and (A.cmp .leq 0 c1) (A.cmp .lss c1 (A.len p.c0))) (
  .br (A.cmp .neq (A.nth (.struct [(.int .i64), (.int .i64), (.struct [(.int .i64), (.slice (.int .u8))])]) p.c0 c1 : Int × Int × (Int × List Int)).1 0)
  (.ret ((2, 0, 0, (0, 0, (0, 0, 0, 0, 0), 0, ([] : List Int)), 0), 0))
  (.more (.c2 p (A.bin .add .i64 c1 1)))))
  (.ret ((1, 0, 0, (0, 0, (0, 0, 0, 0, 0), 0, ([] : List Int)), 0), 0))
noncomputable def E62 (A : Alg) : Info (Ty.Ts [(.struct [(.int .i64), (.int .i64), (.int .i64), (.struct [(.int .i64), (.int .i64), (.struct [(.int .i64), (.int .i64), (.int .i64), (.int .i64), (.int .i64)]), (.int .i64), (.slice (.int .u8))]), (.int .i64)]), (.int .i64)]) := { ti := tys, fns := [(62, Try.f62)], sps := [(33, sp33), (35, sp35), (42, sp42), (54, sp54)], stops := [⟨62, 7, [[3, 4, 8, 10, 11]]⟩, ⟨62, 12, [[3, 4, 8, 10, 11, 12, 13]]⟩, ⟨62, 19, [[3, 8, 16]]⟩], cuts := [], consts := [], fin := finD A [(.struct [(.int .i64), (.int .i64), (.int .i64), (.struct [(.int .i64), (.int .i64), (.struct [(.int .i64), (.int .i64), (.int .i64), (.int .i64), (.int .i64)]), (.int .i64), (.slice (.int .u8))]), (.int .i64)]), (.int .i64)] }
theorem t62_ok (A : Alg) (cTime : Int) (cPos : Int) (cMode : Int) (cNext : Int) (cMember : Int) (vId : Int) (vN : Int) (vSet : Int) (vAcc : Int) (vFail : Int) (vStage : Int) (vFirst : Int) (sender : Int) (seen : List (Int × Int × (Int × List Int))) : run A (E62 A) 68 (startC 62 Try.f62 (dvals A [(.struct [(.int .i64), (.int .i64), (.int .i64), (.int .i64), (.int .i64)]), (.struct [(.int .i64), (.int .i64), (.int .i64), (.int .i64), (.int .i64), (.int .i64), (.int .i64)]), (.int .i64), (.slice (.struct [(.int .i64), (.int .i64), (.struct [(.int .i64), (.slice (.int .u8))])]))] ((cTime, cPos, cMode, cNext, cMember), (vId, vN, vSet, vAcc, vFail, vStage, vFirst), sender, seen))) = (t62 A cTime cPos cMode cNext cMember vId vN vSet vAcc vFail vStage vFirst sender seen).tr cfg62 := by kernel_rfl
theorem s62_ok (A : Alg) : ∀ y, ∃ n, run A (E62 A) n (advance (E62 A).sps (cfg62 y)) = (s62 A y).tr cfg62
  | .c0 p => ⟨39, by kernel_rfl⟩
  | .c1 p b3 => ⟨65, by kernel_rfl⟩
  | .c2 p c1 => ⟨35, by kernel_rfl⟩
def w62 : Walk Try.prog 62 [(.struct [(.int .i64), (.int .i64), (.int .i64), (.int .i64), (.int .i64)]), (.struct [(.int .i64), (.int .i64), (.int .i64), (.int .i64), (.int .i64), (.int .i64), (.int .i64)]), (.int .i64), (.slice (.struct [(.int .i64), (.int .i64), (.struct [(.int .i64), (.slice (.int .u8))])]))] [(.struct [(.int .i64), (.int .i64), (.int .i64), (.struct [(.int .i64), (.int .i64), (.struct [(.int .i64), (.int .i64), (.int .i64), (.int .i64), (.int .i64)]), (.int .i64), (.slice (.int .u8))]), (.int .i64)]), (.int .i64)] Y62 := ⟨fun ((cTime, cPos, cMode, cNext, cMember), (vId, vN, vSet, vAcc, vFail, vStage, vFirst), sender, seen) => t62 std cTime cPos cMode cNext cMember vId vN vSet vAcc vFail vStage vFirst sender seen, s62 std⟩
theorem w62_ok : w62.Ok :=
  walk_ok (E := E62 std) ⟨tys_fit, fns_cons Try.func62 (by kernel_rfl) (fns_nil), sps_cons so33 (sps_cons so35 (sps_cons so42 (sps_cons so54 (sps_nil)))), by kernel_rfl⟩ rfl rfl rfl (by kernel_rfl) w62 cfg62 68 (fun ((cTime, cPos, cMode, cNext, cMember), (vId, vN, vSet, vAcc, vFail, vStage, vFirst), sender, seen) => t62_ok std cTime cPos cMode cNext cMember vId vN vSet vAcc vFail vStage vFirst sender seen) (s62_ok std)

theorem slot_d2 {seen : List (Int × Int × (Int × List Int))} (hl : seen.length ≤ 140737488355328) : ∀ (j i : Nat) (p : P62c2), p.c0 = seen → seen.length - i = j → i ≤ seen.length → (seen.take i).any (fun s => s.1 != 0) = false → Runs (s62 std) (.more (.c2 p (i : Int))) (slotEnd seen, 0) := by
  intro j
  induction j with
  | zero =>
    intro i p h0 hj hi ha
    have : i = seen.length := by omega
    subst this
    rw [List.take_length] at ha
    rw [runs_more, s62]
    refine (runs_brF (by rw [show std.len p.c0 = (seen.length : Int) from by rw [h0]; rfl, lss_nat]; simp)).2 ?_
    rw [slotEnd, ha]
    exact .ret _
  | succ j ih =>
    intro i p h0 hj hi ha
    have hi' : i < seen.length := by omega
    rw [runs_more, s62]
    refine (runs_brT (by rw [show std.len p.c0 = (seen.length : Int) from by rw [h0]; rfl, lss_nat]; simp; omega)).2 (runs_need.2 ⟨by rw [h0]; exact need_ix hi', ?_⟩)
    have hn : (std.nth (.struct [(.int .i64), (.int .i64), (.struct [(.int .i64), (.slice (.int .u8))])]) p.c0 (i : Int) : Int × Int × (Int × List Int)).1 = seen[i].1 := congrArg (fun z => z.1) ((congrArg (fun z => (std.nth (.struct [(.int .i64), (.int .i64), (.struct [(.int .i64), (.slice (.int .u8))])]) z (i : Int) : Int × Int × (Int × List Int))) h0).trans (nth_seen hi'))
    have htk := List.take_succ_eq_append_getElem hi'
    by_cases hk : seen[i].1 = 0
    · refine (runs_brF (cne_f (hn.trans hk))).2 ?_
      refine runs_c (congrArg LT.more (congrArg (Y62.c2 p) (inc1 (by omega)))) (ih (i + 1) p h0 (by omega) (by omega) ?_)
      rw [htk, List.any_append, ha]
      simp [hk]
    · refine (runs_brT (cne_t (fun h => hk (hn.symm.trans h)))).2 ?_
      have : seen.any (fun s => s.1 != 0) = true := List.any_eq_true.2 ⟨seen[i], List.getElem_mem hi', by simpa using hk⟩
      rw [slotEnd, this]
      exact .ret _
def J0 (p : P62c0) (seen : List (Int × Int × (Int × List Int))) (vs : List Int) (i t po m n : Int) : Prop := p.a0 = seen ∧ p.a1 = vs ∧ p.a2 = i ∧ p.a3 = t ∧ p.a4 = po ∧ p.a5 = m ∧ p.a6 = n
def J1 (p : P62c1) (seen : List (Int × Int × (Int × List Int))) (vs : List Int) (i t po m n v : Int) : Prop := p.b0 = seen ∧ p.b1 = vs ∧ p.b2 = i ∧ p.b4 = t ∧ p.b5 = po ∧ p.b6 = m ∧ p.b7 = n ∧ p.b21 = t ∧ p.b22 = po ∧ p.b23 = m ∧ p.b24 = n ∧ p.b25 = v
theorem slot_d1 {seen : List (Int × Int × (Int × List Int))} {vs : List Int} {t po m n v : Int} {i : Nat} (hi : i < 4) (hl : seen.length ≤ 140737488355328) {R : (Int × Int × Int × (Int × Int × (Int × Int × Int × Int × Int) × Int × List Int) × Int) × Int} (hnext : ∀ p' : P62c0, J0 p' seen vs ((i + 1 : Nat) : Int) t po m n → Runs (s62 std) (.more (.c0 p')) R) :
    ∀ (j k : Nat) (p : P62c1), J1 p seen vs (i : Int) t po m n v → seen.length - k = j → k ≤ seen.length → Runs (s62 std) (.more (.c1 p (k : Int))) (match slotIn (t, po, m, n, v) (i : Int) k (seen.drop k) with | some o => (o, 0) | none => R) := by
  intro j
  induction j with
  | zero =>
    intro k p hI hj hk
    have : k = seen.length := by omega
    subst this
    obtain ⟨h0, h1, h2, h4, h5, h6, h7, h21, h22, h23, h24, h25⟩ := hI
    rw [runs_more, s62]
    refine (runs_brF (by rw [show std.len p.b0 = (seen.length : Int) from by rw [h0]; rfl, lss_nat]; simp)).2 ?_
    rw [List.drop_length]
    exact hnext _ ⟨h0, h1, by show std.bin .add .i64 p.b2 1 = _; rw [h2, inc1 (by omega)], h4, h5, h6, h7⟩
  | succ j ih =>
    intro k p hI hj hk
    have hk' : k < seen.length := by omega
    have hm := ih (k + 1) p hI (by omega) (by omega)
    obtain ⟨h0, h1, h2, h4, h5, h6, h7, h21, h22, h23, h24, h25⟩ := hI
    rw [runs_more, s62]
    have hn : (std.nth (.struct [(.int .i64), (.int .i64), (.struct [(.int .i64), (.slice (.int .u8))])]) p.b0 (k : Int) : Int × Int × (Int × List Int)) = seen[k] := (congrArg (fun z => (std.nth (.struct [(.int .i64), (.int .i64), (.struct [(.int .i64), (.slice (.int .u8))])]) z (k : Int) : Int × Int × (Int × List Int))) h0).trans (nth_seen hk')
    have hd : seen.drop k = seen[k] :: seen.drop (k + 1) := List.drop_eq_getElem_cons hk'
    have hix : std.and (std.cmp .leq 0 (k : Int)) (std.cmp .lss (k : Int) (std.len p.b0)) = true := by rw [h0]; exact need_ix hk'
    have hg : std.call fn54 ((std.nth (.struct [(.int .i64), (.int .i64), (.struct [(.int .i64), (.slice (.int .u8))])]) p.b0 (k : Int) : Int × Int × (Int × List Int)).2.2, p.b21, p.b22, p.b23, p.b24, p.b25) = goodS (seen[k].2.2, (t, po, m, n, v)) := by
      refine (congrArg (fun z : Int × Int × (Int × List Int) => fn54 (z.2.2, p.b21, p.b22, p.b23, p.b24, p.b25)) hn).trans ?_
      rw [h21, h22, h23, h24, h25]
      exact fn54_eq
    refine (runs_brT (by rw [show std.len p.b0 = (seen.length : Int) from by rw [h0]; rfl, lss_nat]; simp; omega)).2 (runs_need.2 ⟨hix, ?_⟩)
    rw [hd, slotIn]
    by_cases hkd : seen[k].1 = 2
    · refine (runs_brF (cne_f ((congrArg (fun z => z.1) hn).trans hkd))).2 ?_
      repeat (first | refine runs_eqs.2 ⟨⟨rfl, rfl⟩, ?_⟩ | refine runs_eqs.2 ⟨rfl, ?_⟩ | refine runs_need.2 ⟨rfl, ?_⟩ | refine runs_need.2 ⟨hix, ?_⟩)
      rw [show (seen[k].1 == 2) = true from by simpa using hkd, Bool.true_and]
      cases hgd : (goodS (seen[k].2.2, (t, po, m, n, v))).2
      · refine (runs_brF ((congrArg (fun z => z.2) hg).trans hgd)).2 ?_
        exact runs_c (congrArg LT.more (congrArg (Y62.c1 p) (inc1 (by omega)))) hm
      · refine (runs_brT ((congrArg (fun z => z.2) hg).trans hgd)).2 (runs_need.2 ⟨hix, ?_⟩)
        have e := congr (congr (congrArg (fun (x : Int) (y : Int × Int × (Int × Int × Int × Int × Int) × Int × List Int) (z : Int) => (LT.ret (((3 : Int), x, (k : Int), y, z), (0 : Int)) : LT ((Int × Int × Int × (Int × Int × (Int × Int × Int × Int × Int) × Int × List Int) × Int) × Int) Y62)) h2) (congrArg (fun z => z.1) hg)) (congrArg (fun z => z.2.1) hn)
        exact runs_c e (.ret _)
    · refine (runs_brT (cne_t (fun h => hkd ((congrArg (fun z => z.1) hn).symm.trans h)))).2 ?_
      rw [show (seen[k].1 == 2) = false from by simpa using hkd, Bool.false_and]
      exact runs_c (congrArg LT.more (congrArg (Y62.c1 p) (inc1 (by omega)))) hm
theorem slot_d0 {seen : List (Int × Int × (Int × List Int))} {vs : List Int} {t po m n : Int} (hl : seen.length ≤ 140737488355328) (hv2 : vs.length ≤ 2) : ∀ (j i : Nat) (p : P62c0), J0 p seen vs (i : Int) t po m n → vs.length - i = j → i ≤ vs.length → Runs (s62 std) (.more (.c0 p)) (slotR t po m n seen i (vs.drop i)) := by
  intro j
  induction j with
  | zero =>
    intro i p hI hj hi
    have : i = vs.length := by omega
    subst this
    obtain ⟨h0, h1, h2, h3, h4, h5, h6⟩ := hI
    rw [runs_more, s62]
    refine (runs_brF (by rw [h2, show std.len p.a1 = (vs.length : Int) from by rw [h1]; rfl, lss_nat]; simp)).2 ?_
    rw [List.drop_length]
    exact slot_d2 hl seen.length 0 _ h0 rfl (by omega) rfl
  | succ j ih =>
    intro i p hI hj hi
    obtain ⟨h0, h1, h2, h3, h4, h5, h6⟩ := hI
    have hi' : i < vs.length := by omega
    rw [runs_more, s62]
    refine (runs_brT (by rw [h2, show std.len p.a1 = (vs.length : Int) from by rw [h1]; rfl, lss_nat]; simp; omega)).2 (runs_need.2 ⟨by rw [h1, h2]; exact need_ix hi', ?_⟩)
    have hnv : (std.nth (.int .i64) p.a1 p.a2 : Int) = vs[i] := by
      rw [h1, h2]; exact getD_in hi' _
    have hm := slot_d1 (seen := seen) (vs := vs) (t := t) (po := po) (m := m) (n := n) (v := vs[i]) (i := i) (by omega) hl (R := slotR t po m n seen (i + 1) (vs.drop (i + 1))) (fun p' hp' => ih (i + 1) p' hp' (by omega) (by omega)) seen.length 0
    refine runs_r ?_ (hm _ ⟨h0, h1, h2, h3, h4, h5, h6, h3, h4, h5, h6, hnv⟩ rfl (by omega))
    rw [slotR, slotR, List.drop_eq_getElem_cons hi', slotOut, List.drop_zero]
    cases slotIn (t, po, m, n, vs[i]) (i : Int) 0 seen <;> rfl
theorem slot1 {t po m n s a b c d e f g sender : Int} {seen : List (Int × Int × (Int × List Int))} (h : Ty.hass [(.struct [(.int .i64), (.int .i64), (.int .i64), (.int .i64), (.int .i64)]), (.struct [(.int .i64), (.int .i64), (.int .i64), (.int .i64), (.int .i64), (.int .i64), (.int .i64)]), (.int .i64), (.slice (.struct [(.int .i64), (.int .i64), (.struct [(.int .i64), (.slice (.int .u8))])]))] ((t, po, m, n, s), (a, b, c, d, e, f, g), sender, seen)) :
    Runs (s62 std) (t62 std t po m n s a b c d e f g sender seen) (slotS ((t, po, m, n, s), (a, b, c, d, e, f, g), sender, seen)) := by
  have hl := has_slot h
  unfold t62
  rw [slotS, chk]
  refine runs_need.2 ⟨rfl, ?_⟩
  by_cases h1 : (fn35 (a, b, c, d, e, f, g) != 0) = true
  · rw [h1]
    exact (runs_brT h1).2 (.ret _)
  rw [Bool.not_eq_true] at h1
  rw [h1]
  refine (runs_brF h1).2 (runs_need.2 ⟨rfl, ?_⟩)
  rw [Bool.false_or]
  by_cases h2 : (chkS ((t, po, m, n, s), b) != 0) = true
  · rw [h2]
    exact (runs_brT h2).2 (.ret _)
  rw [Bool.not_eq_true] at h2
  rw [h2]
  refine (runs_brF h2).2 ?_
  rw [cond_false]
  have hz : fn35 (a, b, c, d, e, f, g) = 0 := by simpa using h1
  have hok := fn35_zero.1 hz
  by_cases h3 : sender < 0
  · refine (runs_brT (by rw [std_cmp_lss]; simpa using h3)).2 ?_
    rw [show decide (sender < 0) = true from by simpa using h3]
    exact .ret _
  refine (runs_brF (by rw [std_cmp_lss]; simpa using h3)).2 ?_
  by_cases h4 : b ≤ sender
  · refine (runs_brT (by rw [std_cmp_geq]; simpa using h4)).2 ?_
    rw [show decide (b ≤ sender) = true from by simpa using h4, Bool.or_true]
    exact .ret _
  refine (runs_brF (by rw [std_cmp_geq]; simpa using h4)).2 ?_
  by_cases h5 : sender = a
  · refine (runs_brT (ceq_t h5)).2 ?_
    rw [show (sender == a) = true from by simpa using h5, Bool.or_true]
    exact .ret _
  refine (runs_brF (ceq_f h5)).2 ?_
  by_cases h6 : ¬ seen.length = 2
  · refine (runs_brT (cne_t (show (seen.length : Int) ≠ 2 by omega))).2 ?_
    rw [show (seen.length != 2) = true from by simpa using h6, Bool.or_true]
    exact .ret _
  rw [Decidable.not_not] at h6
  refine (runs_brF (cne_f (show (seen.length : Int) = 2 by omega))).2 (runs_need.2 ⟨rfl, ?_⟩)
  rw [show decide (sender < 0) = false from by simpa using h3, show decide (b ≤ sender) = false from by simpa using h4, show (sender == a) = false from by simpa using h5, show (seen.length != 2) = false from by simpa using h6]
  have hv : fn33 ((a, b, c, d, e, f, g), sender) = vws ((a, b, c, d, e, f, g), sender) := fn33_ok hok (by omega) (by omega) h5
  have hv2 : (vws ((a, b, c, d, e, f, g), sender)).length ≤ 2 := by
    rw [vws, List.length_take, fn78_two]; omega
  show Runs (s62 std) _ (slotR t po m n seen 0 (vws ((a, b, c, d, e, f, g), sender)))
  exact slot_d0 (vs := vws ((a, b, c, d, e, f, g), sender)) hl hv2 _ 0 _ ⟨rfl, hv, rfl, rfl, rfl, rfl, rfl⟩ rfl (by omega)

def fn62 : ((Int × Int × Int × Int × Int) × (Int × Int × Int × Int × Int × Int × Int) × Int × List (Int × Int × (Int × List Int))) → ((Int × Int × Int × (Int × Int × (Int × Int × Int × Int × Int) × Int × List Int) × Int) × Int) := slotS
def sp62 : FSpec := ⟨[(.struct [(.int .i64), (.int .i64), (.int .i64), (.int .i64), (.int .i64)]), (.struct [(.int .i64), (.int .i64), (.int .i64), (.int .i64), (.int .i64), (.int .i64), (.int .i64)]), (.int .i64), (.slice (.struct [(.int .i64), (.int .i64), (.struct [(.int .i64), (.slice (.int .u8))])]))], [(.struct [(.int .i64), (.int .i64), (.int .i64), (.struct [(.int .i64), (.int .i64), (.struct [(.int .i64), (.int .i64), (.int .i64), (.int .i64), (.int .i64)]), (.int .i64), (.slice (.int .u8))]), (.int .i64)]), (.int .i64)], (@tt ((Int × Int × Int × Int × Int) × (Int × Int × Int × Int × Int × Int × Int) × Int × List (Int × Int × (Int × List Int)))), fn62⟩
theorem run62 {cTime : Int} {cPos : Int} {cMode : Int} {cNext : Int} {cMember : Int} {vId : Int} {vN : Int} {vSet : Int} {vAcc : Int} {vFail : Int} {vStage : Int} {vFirst : Int} {sender : Int} {seen : List (Int × Int × (Int × List Int))} (h : Ty.hass [(.struct [(.int .i64), (.int .i64), (.int .i64), (.int .i64), (.int .i64)]), (.struct [(.int .i64), (.int .i64), (.int .i64), (.int .i64), (.int .i64), (.int .i64), (.int .i64)]), (.int .i64), (.slice (.struct [(.int .i64), (.int .i64), (.struct [(.int .i64), (.slice (.int .u8))])]))] ((cTime, cPos, cMode, cNext, cMember), (vId, vN, vSet, vAcc, vFail, vStage, vFirst), sender, seen)) : Runs (s62 std) (t62 std cTime cPos cMode cNext cMember vId vN vSet vAcc vFail vStage vFirst sender seen) (fn62 ((cTime, cPos, cMode, cNext, cMember), (vId, vN, vSet, vAcc, vFail, vStage, vFirst), sender, seen)) := by
  exact slot1 h
theorem so62 : FSpec.Sound Try.prog 62 sp62 :=
  w62_ok.sound _ _ fun ((cTime, cPos, cMode, cNext, cMember), (vId, vN, vSet, vAcc, vFail, vStage, vFirst), sender, seen) _ h => run62 h
/-! ### metronome/metronomeref09.asked (function 144) -/
def t144 (A : Alg) (mId : Int) (mN : Int) (mSet : Int) (mAcc : Int) (mFail : Int) (mStage : Int) (mFirst : Int) (sender : Int) : LT Int Empty :=
  .need (A.call (@tt ((Int × Int × Int × Int × Int × Int × Int))) (mId, mN, mSet, mAcc, mFail, mStage, mFirst)) (
  .br (A.cmp .neq (A.call fn35 (mId, mN, mSet, mAcc, mFail, mStage, mFirst)) 0)
  (.ret (A.call fn35 (mId, mN, mSet, mAcc, mFail, mStage, mFirst)))
  (.br (A.cmp .geq sender 0)
  (.br (A.cmp .lss sender mN)
  (.br (A.not (A.cmp .neq sender mId))
  (.ret 2)
  (.ret 0))
  (.ret 2))
  (.ret 2)))
noncomputable def E144 (A : Alg) : Info (Ty.Ts [(.int .i64)]) := { ti := tys, fns := [(79, Try.f79), (144, Try.f144)], sps := [(35, sp35)], stops := [], cuts := [], consts := [], fin := finD A [(.int .i64)] }
theorem t144_ok (A : Alg) (mId : Int) (mN : Int) (mSet : Int) (mAcc : Int) (mFail : Int) (mStage : Int) (mFirst : Int) (sender : Int) : run A (E144 A) 63 (startC 144 Try.f144 (dvals A [(.struct [(.int .i64), (.int .i64), (.int .i64), (.int .i64), (.int .i64), (.int .i64), (.int .i64)]), (.int .i64)] ((mId, mN, mSet, mAcc, mFail, mStage, mFirst), sender))) = (t144 A mId mN mSet mAcc mFail mStage mFirst sender).tr Empty.elim := by kernel_rfl
def w144 : Walk Try.prog 144 [(.struct [(.int .i64), (.int .i64), (.int .i64), (.int .i64), (.int .i64), (.int .i64), (.int .i64)]), (.int .i64)] [(.int .i64)] Empty := ⟨fun ((mId, mN, mSet, mAcc, mFail, mStage, mFirst), sender) => t144 std mId mN mSet mAcc mFail mStage mFirst sender, Empty.elim⟩
theorem w144_ok : w144.Ok :=
  walk_ok (E := E144 std) ⟨tys_fit, fns_cons Try.func79 (by kernel_rfl) (fns_cons Try.func144 (by kernel_rfl) (fns_nil)), sps_cons so35 (sps_nil), by kernel_rfl⟩ rfl rfl rfl (by kernel_rfl) w144 Empty.elim 63 (fun ((mId, mN, mSet, mAcc, mFail, mStage, mFirst), sender) => t144_ok std mId mN mSet mAcc mFail mStage mFirst sender) (fun y => y.elim)

def fn144 : ((Int × Int × Int × Int × Int × Int × Int) × Int) → Int := fun ((mId, mN, mSet, mAcc, mFail, mStage, mFirst), sender) => (t144 std mId mN mSet mAcc mFail mStage mFirst sender).val (Ty.dflts [(.int .i64)])
def sp144 : FSpec := ⟨[(.struct [(.int .i64), (.int .i64), (.int .i64), (.int .i64), (.int .i64), (.int .i64), (.int .i64)]), (.int .i64)], [(.int .i64)], (@tt ((Int × Int × Int × Int × Int × Int × Int) × Int)), fn144⟩
theorem eqs144 (mId : Int) (mN : Int) (mSet : Int) (mAcc : Int) (mFail : Int) (mStage : Int) (mFirst : Int) (sender : Int) : (t144 std mId mN mSet mAcc mFail mStage mFirst sender).Eqs := by simp only [t144, LT.Eqs, and_self, true_and, and_true]
theorem pre144_ok {mId : Int} {mN : Int} {mSet : Int} {mAcc : Int} {mFail : Int} {mStage : Int} {mFirst : Int} {sender : Int} (h : Ty.hass [(.struct [(.int .i64), (.int .i64), (.int .i64), (.int .i64), (.int .i64), (.int .i64), (.int .i64)]), (.int .i64)] ((mId, mN, mSet, mAcc, mFail, mStage, mFirst), sender)) : (t144 std mId mN mSet mAcc mFail mStage mFirst sender).pre = true := by
  simp only [t144, LT.pre, cond_iff, std_cmp_eql, std_cmp_neq, std_cmp_lss, std_cmp_leq, std_cmp_gtr, std_cmp_geq, std_and, std_not, std_beq, std_call, std_add, std_sub, std_conv, std_len, tt_eq, Bool.and_eq_true, Bool.or_eq_true, Bool.and_eq_false_iff, Bool.or_eq_false_iff, Bool.not_eq_true', Bool.not_eq_false', decide_eq_true_eq, decide_eq_false_iff_not, bne_iff_ne, beq_iff_eq, bne_eq_false_iff_eq, beq_eq_false_iff_ne]
  simp only [Ty.hass, Ty.has, has64, has8] at h
  (repeat' (first | intro _ | constructor)) <;> (try omega)
theorem so144 : FSpec.Sound Try.prog 144 sp144 :=
  w144_ok.sound _ _ fun ((mId, mN, mSet, mAcc, mFail, mStage, mFirst), sender) _ h => LT.runs (d := Ty.dflts [(.int .i64)]) (eqs144 mId mN mSet mAcc mFail mStage mFirst sender) (pre144_ok h)
/-! ### metronome/metronomeref09.gone (function 145) -/
def t145 (A : Alg) (mId : Int) (mN : Int) (mSet : Int) (mAcc : Int) (mFail : Int) (mStage : Int) (mFirst : Int) (sender : Int) : LT ((Int × Int × Int × Int × Int × Int × Int)) Empty :=
  .need (A.call (@tt Int) sender) (
  .br (A.cmp .eql mStage 2)
  (.br (A.cmp .eql mFirst sender)
  (.ret (mId, mN, (A.bin .andNot .i64 mSet (A.call fn80 sender)), mAcc, mFail, 1, 0))
  (.ret (mId, mN, (A.bin .andNot .i64 mSet (A.call fn80 sender)), mAcc, mFail, mStage, mFirst)))
  (.ret (mId, mN, (A.bin .andNot .i64 mSet (A.call fn80 sender)), mAcc, mFail, mStage, mFirst)))
noncomputable def E145 (A : Alg) : Info (Ty.Ts [(.struct [(.int .i64), (.int .i64), (.int .i64), (.int .i64), (.int .i64), (.int .i64), (.int .i64)])]) := { ti := tys, fns := [(145, Try.f145)], sps := [(80, sp80)], stops := [], cuts := [], consts := [], fin := finD A [(.struct [(.int .i64), (.int .i64), (.int .i64), (.int .i64), (.int .i64), (.int .i64), (.int .i64)])] }
theorem t145_ok (A : Alg) (mId : Int) (mN : Int) (mSet : Int) (mAcc : Int) (mFail : Int) (mStage : Int) (mFirst : Int) (sender : Int) : run A (E145 A) 49 (startC 145 Try.f145 (dvals A [(.struct [(.int .i64), (.int .i64), (.int .i64), (.int .i64), (.int .i64), (.int .i64), (.int .i64)]), (.int .i64)] ((mId, mN, mSet, mAcc, mFail, mStage, mFirst), sender))) = (t145 A mId mN mSet mAcc mFail mStage mFirst sender).tr Empty.elim := by kernel_rfl
def w145 : Walk Try.prog 145 [(.struct [(.int .i64), (.int .i64), (.int .i64), (.int .i64), (.int .i64), (.int .i64), (.int .i64)]), (.int .i64)] [(.struct [(.int .i64), (.int .i64), (.int .i64), (.int .i64), (.int .i64), (.int .i64), (.int .i64)])] Empty := ⟨fun ((mId, mN, mSet, mAcc, mFail, mStage, mFirst), sender) => t145 std mId mN mSet mAcc mFail mStage mFirst sender, Empty.elim⟩
theorem w145_ok : w145.Ok :=
  walk_ok (E := E145 std) ⟨tys_fit, fns_cons Try.func145 (by kernel_rfl) (fns_nil), sps_cons so80 (sps_nil), by kernel_rfl⟩ rfl rfl rfl (by kernel_rfl) w145 Empty.elim 49 (fun ((mId, mN, mSet, mAcc, mFail, mStage, mFirst), sender) => t145_ok std mId mN mSet mAcc mFail mStage mFirst sender) (fun y => y.elim)

def fn145 : ((Int × Int × Int × Int × Int × Int × Int) × Int) → ((Int × Int × Int × Int × Int × Int × Int)) := fun ((mId, mN, mSet, mAcc, mFail, mStage, mFirst), sender) => (t145 std mId mN mSet mAcc mFail mStage mFirst sender).val (Ty.dflts [(.struct [(.int .i64), (.int .i64), (.int .i64), (.int .i64), (.int .i64), (.int .i64), (.int .i64)])])
def sp145 : FSpec := ⟨[(.struct [(.int .i64), (.int .i64), (.int .i64), (.int .i64), (.int .i64), (.int .i64), (.int .i64)]), (.int .i64)], [(.struct [(.int .i64), (.int .i64), (.int .i64), (.int .i64), (.int .i64), (.int .i64), (.int .i64)])], (@tt ((Int × Int × Int × Int × Int × Int × Int) × Int)), fn145⟩
theorem eqs145 (mId : Int) (mN : Int) (mSet : Int) (mAcc : Int) (mFail : Int) (mStage : Int) (mFirst : Int) (sender : Int) : (t145 std mId mN mSet mAcc mFail mStage mFirst sender).Eqs := by simp only [t145, LT.Eqs, and_self, true_and, and_true]
theorem pre145_ok {mId : Int} {mN : Int} {mSet : Int} {mAcc : Int} {mFail : Int} {mStage : Int} {mFirst : Int} {sender : Int} (h : Ty.hass [(.struct [(.int .i64), (.int .i64), (.int .i64), (.int .i64), (.int .i64), (.int .i64), (.int .i64)]), (.int .i64)] ((mId, mN, mSet, mAcc, mFail, mStage, mFirst), sender)) : (t145 std mId mN mSet mAcc mFail mStage mFirst sender).pre = true := by
  simp [t145, LT.pre, std_call, tt_eq]
theorem so145 : FSpec.Sound Try.prog 145 sp145 :=
  w145_ok.sound _ _ fun ((mId, mN, mSet, mAcc, mFail, mStage, mFirst), sender) _ h => LT.runs (d := Ty.dflts [(.struct [(.int .i64), (.int .i64), (.int .i64), (.int .i64), (.int .i64), (.int .i64), (.int .i64)])]) (eqs145 mId mN mSet mAcc mFail mStage mFirst sender) (pre145_ok h)
/-! ### metronome/metronomeref09.more (function 146) -/
def t146 (A : Alg) (n : Int) : LT Int Empty :=
  .ret (A.mn (A.bin .add .i64 n 1) 1048576)
noncomputable def E146 (A : Alg) : Info (Ty.Ts [(.int .i64)]) := { ti := tys, fns := [(146, Try.f146)], sps := [], stops := [], cuts := [], consts := [], fin := finD A [(.int .i64)] }
theorem t146_ok (A : Alg) (n : Int) : run A (E146 A) 17 (startC 146 Try.f146 (dvals A [(.int .i64)] n)) = (t146 A n).tr Empty.elim := by kernel_rfl
def w146 : Walk Try.prog 146 [(.int .i64)] [(.int .i64)] Empty := ⟨fun n => t146 std n, Empty.elim⟩
theorem w146_ok : w146.Ok :=
  walk_ok (E := E146 std) ⟨tys_fit, fns_cons Try.func146 (by kernel_rfl) (fns_nil), sps_nil, by kernel_rfl⟩ rfl rfl rfl (by kernel_rfl) w146 Empty.elim 17 (fun n => t146_ok std n) (fun y => y.elim)

def fn146 : Int → Int := fun n => (t146 std n).val (Ty.dflts [(.int .i64)])
def sp146 : FSpec := ⟨[(.int .i64)], [(.int .i64)], (@tt Int), fn146⟩
theorem eqs146 (n : Int) : (t146 std n).Eqs := by simp only [t146, LT.Eqs, and_self, true_and, and_true]
theorem pre146_ok {n : Int} (h : Ty.hass [(.int .i64)] n) : (t146 std n).pre = true := by
  rfl
theorem so146 : FSpec.Sound Try.prog 146 sp146 :=
  w146_ok.sound _ _ fun n _ h => LT.runs (d := Ty.dflts [(.int .i64)]) (eqs146 n) (pre146_ok h)
/-! ### metronome/metronomeref09.Null (function 113) -/
def t113 (A : Alg) (mId : Int) (mN : Int) (mSet : Int) (mAcc : Int) (mFail : Int) (mStage : Int) (mFirst : Int) (sender : Int) : LT ((Int × Int × Int × Int × Int × Int × Int) × Int) Empty :=
  .need (A.call (@tt ((Int × Int × Int × Int × Int × Int × Int) × Int)) ((mId, mN, mSet, mAcc, mFail, mStage, mFirst), sender)) (
  .br (A.cmp .neq (A.call fn144 ((mId, mN, mSet, mAcc, mFail, mStage, mFirst), sender)) 0)
  (.ret ((0, 0, 0, 0, 0, 0, 0), (A.call fn144 ((mId, mN, mSet, mAcc, mFail, mStage, mFirst), sender))))
  (.need (A.call (@tt ((Int × Int × Int × Int × Int × Int × Int) × Int)) ((mId, mN, mSet, mAcc, mFail, mStage, mFirst), sender)) (
  .ret ((A.call fn145 ((mId, mN, mSet, mAcc, mFail, mStage, mFirst), sender)), 0))))
noncomputable def E113 (A : Alg) : Info (Ty.Ts [(.struct [(.int .i64), (.int .i64), (.int .i64), (.int .i64), (.int .i64), (.int .i64), (.int .i64)]), (.int .i64)]) := { ti := tys, fns := [(113, Try.f113)], sps := [(144, sp144), (145, sp145)], stops := [], cuts := [], consts := [], fin := finD A [(.struct [(.int .i64), (.int .i64), (.int .i64), (.int .i64), (.int .i64), (.int .i64), (.int .i64)]), (.int .i64)] }
theorem t113_ok (A : Alg) (mId : Int) (mN : Int) (mSet : Int) (mAcc : Int) (mFail : Int) (mStage : Int) (mFirst : Int) (sender : Int) : run A (E113 A) 35 (startC 113 Try.f113 (dvals A [(.struct [(.int .i64), (.int .i64), (.int .i64), (.int .i64), (.int .i64), (.int .i64), (.int .i64)]), (.int .i64)] ((mId, mN, mSet, mAcc, mFail, mStage, mFirst), sender))) = (t113 A mId mN mSet mAcc mFail mStage mFirst sender).tr Empty.elim := by kernel_rfl
def w113 : Walk Try.prog 113 [(.struct [(.int .i64), (.int .i64), (.int .i64), (.int .i64), (.int .i64), (.int .i64), (.int .i64)]), (.int .i64)] [(.struct [(.int .i64), (.int .i64), (.int .i64), (.int .i64), (.int .i64), (.int .i64), (.int .i64)]), (.int .i64)] Empty := ⟨fun ((mId, mN, mSet, mAcc, mFail, mStage, mFirst), sender) => t113 std mId mN mSet mAcc mFail mStage mFirst sender, Empty.elim⟩
theorem w113_ok : w113.Ok :=
  walk_ok (E := E113 std) ⟨tys_fit, fns_cons Try.func113 (by kernel_rfl) (fns_nil), sps_cons so144 (sps_cons so145 (sps_nil)), by kernel_rfl⟩ rfl rfl rfl (by kernel_rfl) w113 Empty.elim 35 (fun ((mId, mN, mSet, mAcc, mFail, mStage, mFirst), sender) => t113_ok std mId mN mSet mAcc mFail mStage mFirst sender) (fun y => y.elim)

def fn113 : ((Int × Int × Int × Int × Int × Int × Int) × Int) → ((Int × Int × Int × Int × Int × Int × Int) × Int) := fun ((mId, mN, mSet, mAcc, mFail, mStage, mFirst), sender) => (t113 std mId mN mSet mAcc mFail mStage mFirst sender).val (Ty.dflts [(.struct [(.int .i64), (.int .i64), (.int .i64), (.int .i64), (.int .i64), (.int .i64), (.int .i64)]), (.int .i64)])
def sp113 : FSpec := ⟨[(.struct [(.int .i64), (.int .i64), (.int .i64), (.int .i64), (.int .i64), (.int .i64), (.int .i64)]), (.int .i64)], [(.struct [(.int .i64), (.int .i64), (.int .i64), (.int .i64), (.int .i64), (.int .i64), (.int .i64)]), (.int .i64)], (@tt ((Int × Int × Int × Int × Int × Int × Int) × Int)), fn113⟩
theorem eqs113 (mId : Int) (mN : Int) (mSet : Int) (mAcc : Int) (mFail : Int) (mStage : Int) (mFirst : Int) (sender : Int) : (t113 std mId mN mSet mAcc mFail mStage mFirst sender).Eqs := by simp only [t113, LT.Eqs, and_self, true_and, and_true]
theorem pre113_ok {mId : Int} {mN : Int} {mSet : Int} {mAcc : Int} {mFail : Int} {mStage : Int} {mFirst : Int} {sender : Int} (h : Ty.hass [(.struct [(.int .i64), (.int .i64), (.int .i64), (.int .i64), (.int .i64), (.int .i64), (.int .i64)]), (.int .i64)] ((mId, mN, mSet, mAcc, mFail, mStage, mFirst), sender)) : (t113 std mId mN mSet mAcc mFail mStage mFirst sender).pre = true := by
  simp [t113, LT.pre, std_call, tt_eq]
theorem so113 : FSpec.Sound Try.prog 113 sp113 :=
  w113_ok.sound _ _ fun ((mId, mN, mSet, mAcc, mFail, mStage, mFirst), sender) _ h => LT.runs (d := Ty.dflts [(.struct [(.int .i64), (.int .i64), (.int .i64), (.int .i64), (.int .i64), (.int .i64), (.int .i64)]), (.int .i64)]) (eqs113 mId mN mSet mAcc mFail mStage mFirst sender) (pre113_ok h)
/-! ### metronome/metronomeref09.Bad (function 114) -/
def t114 (A : Alg) (mId : Int) (mN : Int) (mSet : Int) (mAcc : Int) (mFail : Int) (mStage : Int) (mFirst : Int) (sender : Int) : LT ((Int × Int × Int × Int × Int × Int × Int) × Int) Empty :=
  .need (A.call (@tt ((Int × Int × Int × Int × Int × Int × Int) × Int)) ((mId, mN, mSet, mAcc, mFail, mStage, mFirst), sender)) (
  .br (A.cmp .neq (A.call fn144 ((mId, mN, mSet, mAcc, mFail, mStage, mFirst), sender)) 0)
  (.ret ((0, 0, 0, 0, 0, 0, 0), (A.call fn144 ((mId, mN, mSet, mAcc, mFail, mStage, mFirst), sender))))
  (.need (A.call (@tt ((Int × Int × Int × Int × Int × Int × Int) × Int)) ((mId, mN, mSet, mAcc, mFail, mStage, mFirst), sender)) (
  .need (A.call (@tt Int) (A.call fn145 ((mId, mN, mSet, mAcc, mFail, mStage, mFirst), sender)).2.2.2.2.1) (
  .ret (((A.call fn145 ((mId, mN, mSet, mAcc, mFail, mStage, mFirst), sender)).1, (A.call fn145 ((mId, mN, mSet, mAcc, mFail, mStage, mFirst), sender)).2.1, (A.call fn145 ((mId, mN, mSet, mAcc, mFail, mStage, mFirst), sender)).2.2.1, (A.call fn145 ((mId, mN, mSet, mAcc, mFail, mStage, mFirst), sender)).2.2.2.1, (A.call fn146 (A.call fn145 ((mId, mN, mSet, mAcc, mFail, mStage, mFirst), sender)).2.2.2.2.1), (A.call fn145 ((mId, mN, mSet, mAcc, mFail, mStage, mFirst), sender)).2.2.2.2.2), 0)))))
noncomputable def E114 (A : Alg) : Info (Ty.Ts [(.struct [(.int .i64), (.int .i64), (.int .i64), (.int .i64), (.int .i64), (.int .i64), (.int .i64)]), (.int .i64)]) := { ti := tys, fns := [(114, Try.f114)], sps := [(144, sp144), (145, sp145), (146, sp146)], stops := [], cuts := [], consts := [], fin := finD A [(.struct [(.int .i64), (.int .i64), (.int .i64), (.int .i64), (.int .i64), (.int .i64), (.int .i64)]), (.int .i64)] }
theorem t114_ok (A : Alg) (mId : Int) (mN : Int) (mSet : Int) (mAcc : Int) (mFail : Int) (mStage : Int) (mFirst : Int) (sender : Int) : run A (E114 A) 48 (startC 114 Try.f114 (dvals A [(.struct [(.int .i64), (.int .i64), (.int .i64), (.int .i64), (.int .i64), (.int .i64), (.int .i64)]), (.int .i64)] ((mId, mN, mSet, mAcc, mFail, mStage, mFirst), sender))) = (t114 A mId mN mSet mAcc mFail mStage mFirst sender).tr Empty.elim := by kernel_rfl
def w114 : Walk Try.prog 114 [(.struct [(.int .i64), (.int .i64), (.int .i64), (.int .i64), (.int .i64), (.int .i64), (.int .i64)]), (.int .i64)] [(.struct [(.int .i64), (.int .i64), (.int .i64), (.int .i64), (.int .i64), (.int .i64), (.int .i64)]), (.int .i64)] Empty := ⟨fun ((mId, mN, mSet, mAcc, mFail, mStage, mFirst), sender) => t114 std mId mN mSet mAcc mFail mStage mFirst sender, Empty.elim⟩
theorem w114_ok : w114.Ok :=
  walk_ok (E := E114 std) ⟨tys_fit, fns_cons Try.func114 (by kernel_rfl) (fns_nil), sps_cons so144 (sps_cons so145 (sps_cons so146 (sps_nil))), by kernel_rfl⟩ rfl rfl rfl (by kernel_rfl) w114 Empty.elim 48 (fun ((mId, mN, mSet, mAcc, mFail, mStage, mFirst), sender) => t114_ok std mId mN mSet mAcc mFail mStage mFirst sender) (fun y => y.elim)

def fn114 : ((Int × Int × Int × Int × Int × Int × Int) × Int) → ((Int × Int × Int × Int × Int × Int × Int) × Int) := fun ((mId, mN, mSet, mAcc, mFail, mStage, mFirst), sender) => (t114 std mId mN mSet mAcc mFail mStage mFirst sender).val (Ty.dflts [(.struct [(.int .i64), (.int .i64), (.int .i64), (.int .i64), (.int .i64), (.int .i64), (.int .i64)]), (.int .i64)])
def sp114 : FSpec := ⟨[(.struct [(.int .i64), (.int .i64), (.int .i64), (.int .i64), (.int .i64), (.int .i64), (.int .i64)]), (.int .i64)], [(.struct [(.int .i64), (.int .i64), (.int .i64), (.int .i64), (.int .i64), (.int .i64), (.int .i64)]), (.int .i64)], (@tt ((Int × Int × Int × Int × Int × Int × Int) × Int)), fn114⟩
theorem eqs114 (mId : Int) (mN : Int) (mSet : Int) (mAcc : Int) (mFail : Int) (mStage : Int) (mFirst : Int) (sender : Int) : (t114 std mId mN mSet mAcc mFail mStage mFirst sender).Eqs := by simp only [t114, LT.Eqs, and_self, true_and, and_true]
theorem pre114_ok {mId : Int} {mN : Int} {mSet : Int} {mAcc : Int} {mFail : Int} {mStage : Int} {mFirst : Int} {sender : Int} (h : Ty.hass [(.struct [(.int .i64), (.int .i64), (.int .i64), (.int .i64), (.int .i64), (.int .i64), (.int .i64)]), (.int .i64)] ((mId, mN, mSet, mAcc, mFail, mStage, mFirst), sender)) : (t114 std mId mN mSet mAcc mFail mStage mFirst sender).pre = true := by
  simp [t114, LT.pre, std_call, tt_eq]
theorem so114 : FSpec.Sound Try.prog 114 sp114 :=
  w114_ok.sound _ _ fun ((mId, mN, mSet, mAcc, mFail, mStage, mFirst), sender) _ h => LT.runs (d := Ty.dflts [(.struct [(.int .i64), (.int .i64), (.int .i64), (.int .i64), (.int .i64), (.int .i64), (.int .i64)]), (.int .i64)]) (eqs114 mId mN mSet mAcc mFail mStage mFirst sender) (pre114_ok h)
/-! ### metronome/metronomeref09.Good (function 115) -/
def t115 (A : Alg) (mId : Int) (mN : Int) (mSet : Int) (mAcc : Int) (mFail : Int) (mStage : Int) (mFirst : Int) (sender : Int) (which : Int) : LT ((Int × Int × Int × Int × Int × Int × Int) × Int) Empty :=
  .need (A.call (@tt ((Int × Int × Int × Int × Int × Int × Int) × Int)) ((mId, mN, mSet, mAcc, mFail, mStage, mFirst), sender)) (
  .br (A.cmp .neq (A.call fn144 ((mId, mN, mSet, mAcc, mFail, mStage, mFirst), sender)) 0)
  (.ret ((0, 0, 0, 0, 0, 0, 0), (A.call fn144 ((mId, mN, mSet, mAcc, mFail, mStage, mFirst), sender))))
  (.need (A.call (@tt ((Int × Int × Int × Int × Int × Int × Int) × Int)) ((mId, mN, mSet, mAcc, mFail, mStage, mFirst), sender)) (
  .br (A.cmp .lss which 0)
  (.ret ((0, 0, 0, 0, 0, 0, 0), 2))
  (.br (A.cmp .geq which (A.len (A.call fn33 ((mId, mN, mSet, mAcc, mFail, mStage, mFirst), sender))))
  (.ret ((0, 0, 0, 0, 0, 0, 0), 2))
  (.br (A.cmp .eql mStage 1)
  (.br (A.cmp .eql which 1)
  (.need (A.call (@tt Int) sender) (
  .ret ((mId, mN, (A.bin .or .i64 mSet (A.call fn80 sender)), mAcc, mFail, 2, sender), 0)))
  (.need (A.and (A.cmp .leq 0 which) (A.cmp .lss which (A.len (A.call fn33 ((mId, mN, mSet, mAcc, mFail, mStage, mFirst), sender))))) (
  .need (A.call (@tt Int) mAcc) (
  .br (A.cmp .eql mStage 2)
  (.br (A.cmp .neq sender mFirst)
  (.need (A.call (@tt Int) mFail) (
  .ret ((mId, mN, (A.nth (.int .i64) (A.call fn33 ((mId, mN, mSet, mAcc, mFail, mStage, mFirst), sender)) which : Int), (A.call fn146 mAcc), (A.call fn146 mFail), 0, 0), 0)))
  (.ret ((mId, mN, (A.nth (.int .i64) (A.call fn33 ((mId, mN, mSet, mAcc, mFail, mStage, mFirst), sender)) which : Int), (A.call fn146 mAcc), mFail, 0, 0), 0)))
  (.ret ((mId, mN, (A.nth (.int .i64) (A.call fn33 ((mId, mN, mSet, mAcc, mFail, mStage, mFirst), sender)) which : Int), (A.call fn146 mAcc), mFail, 0, 0), 0))))))
  (.need (A.and (A.cmp .leq 0 which) (A.cmp .lss which (A.len (A.call fn33 ((mId, mN, mSet, mAcc, mFail, mStage, mFirst), sender))))) (
  .need (A.call (@tt Int) mAcc) (
  .br (A.cmp .eql mStage 2)
  (.br (A.cmp .neq sender mFirst)
  (.need (A.call (@tt Int) mFail) (
  .ret ((mId, mN, (A.nth (.int .i64) (A.call fn33 ((mId, mN, mSet, mAcc, mFail, mStage, mFirst), sender)) which : Int), (A.call fn146 mAcc), (A.call fn146 mFail), 0, 0), 0)))
  (.ret ((mId, mN, (A.nth (.int .i64) (A.call fn33 ((mId, mN, mSet, mAcc, mFail, mStage, mFirst), sender)) which : Int), (A.call fn146 mAcc), mFail, 0, 0), 0)))
  (.ret ((mId, mN, (A.nth (.int .i64) (A.call fn33 ((mId, mN, mSet, mAcc, mFail, mStage, mFirst), sender)) which : Int), (A.call fn146 mAcc), mFail, 0, 0), 0))))))))))
noncomputable def E115 (A : Alg) : Info (Ty.Ts [(.struct [(.int .i64), (.int .i64), (.int .i64), (.int .i64), (.int .i64), (.int .i64), (.int .i64)]), (.int .i64)]) := { ti := tys, fns := [(115, Try.f115)], sps := [(33, sp33), (80, sp80), (144, sp144), (146, sp146)], stops := [], cuts := [], consts := [], fin := finD A [(.struct [(.int .i64), (.int .i64), (.int .i64), (.int .i64), (.int .i64), (.int .i64), (.int .i64)]), (.int .i64)] }
theorem t115_ok (A : Alg) (mId : Int) (mN : Int) (mSet : Int) (mAcc : Int) (mFail : Int) (mStage : Int) (mFirst : Int) (sender : Int) (which : Int) : run A (E115 A) 115 (startC 115 Try.f115 (dvals A [(.struct [(.int .i64), (.int .i64), (.int .i64), (.int .i64), (.int .i64), (.int .i64), (.int .i64)]), (.int .i64), (.int .i64)] ((mId, mN, mSet, mAcc, mFail, mStage, mFirst), sender, which))) = (t115 A mId mN mSet mAcc mFail mStage mFirst sender which).tr Empty.elim := by kernel_rfl
def w115 : Walk Try.prog 115 [(.struct [(.int .i64), (.int .i64), (.int .i64), (.int .i64), (.int .i64), (.int .i64), (.int .i64)]), (.int .i64), (.int .i64)] [(.struct [(.int .i64), (.int .i64), (.int .i64), (.int .i64), (.int .i64), (.int .i64), (.int .i64)]), (.int .i64)] Empty := ⟨fun ((mId, mN, mSet, mAcc, mFail, mStage, mFirst), sender, which) => t115 std mId mN mSet mAcc mFail mStage mFirst sender which, Empty.elim⟩
theorem w115_ok : w115.Ok :=
  walk_ok (E := E115 std) ⟨tys_fit, fns_cons Try.func115 (by kernel_rfl) (fns_nil), sps_cons so33 (sps_cons so80 (sps_cons so144 (sps_cons so146 (sps_nil)))), by kernel_rfl⟩ rfl rfl rfl (by kernel_rfl) w115 Empty.elim 115 (fun ((mId, mN, mSet, mAcc, mFail, mStage, mFirst), sender, which) => t115_ok std mId mN mSet mAcc mFail mStage mFirst sender which) (fun y => y.elim)

def fn115 : ((Int × Int × Int × Int × Int × Int × Int) × Int × Int) → ((Int × Int × Int × Int × Int × Int × Int) × Int) := fun ((mId, mN, mSet, mAcc, mFail, mStage, mFirst), sender, which) => (t115 std mId mN mSet mAcc mFail mStage mFirst sender which).val (Ty.dflts [(.struct [(.int .i64), (.int .i64), (.int .i64), (.int .i64), (.int .i64), (.int .i64), (.int .i64)]), (.int .i64)])
def sp115 : FSpec := ⟨[(.struct [(.int .i64), (.int .i64), (.int .i64), (.int .i64), (.int .i64), (.int .i64), (.int .i64)]), (.int .i64), (.int .i64)], [(.struct [(.int .i64), (.int .i64), (.int .i64), (.int .i64), (.int .i64), (.int .i64), (.int .i64)]), (.int .i64)], (@tt ((Int × Int × Int × Int × Int × Int × Int) × Int × Int)), fn115⟩
theorem eqs115 (mId : Int) (mN : Int) (mSet : Int) (mAcc : Int) (mFail : Int) (mStage : Int) (mFirst : Int) (sender : Int) (which : Int) : (t115 std mId mN mSet mAcc mFail mStage mFirst sender which).Eqs := by simp only [t115, LT.Eqs, and_self, true_and, and_true]
theorem pre115_ok {mId : Int} {mN : Int} {mSet : Int} {mAcc : Int} {mFail : Int} {mStage : Int} {mFirst : Int} {sender : Int} {which : Int} (h : Ty.hass [(.struct [(.int .i64), (.int .i64), (.int .i64), (.int .i64), (.int .i64), (.int .i64), (.int .i64)]), (.int .i64), (.int .i64)] ((mId, mN, mSet, mAcc, mFail, mStage, mFirst), sender, which)) : (t115 std mId mN mSet mAcc mFail mStage mFirst sender which).pre = true := by
  simp only [t115, LT.pre, std_call, tt_eq, Bool.true_and, cond_iff, implies_true, and_true, true_and, std_and, std_cmp_leq, std_cmp_lss, std_cmp_geq, decide_eq_false_iff_not, Bool.and_eq_true, decide_eq_true_eq]
  intros
  first | trivial | (constructor <;> omega) | (repeat' constructor) <;> (try intros) <;> omega
theorem so115 : FSpec.Sound Try.prog 115 sp115 :=
  w115_ok.sound _ _ fun ((mId, mN, mSet, mAcc, mFail, mStage, mFirst), sender, which) _ h => LT.runs (d := Ty.dflts [(.struct [(.int .i64), (.int .i64), (.int .i64), (.int .i64), (.int .i64), (.int .i64), (.int .i64)]), (.int .i64)]) (eqs115 mId mN mSet mAcc mFail mStage mFirst sender which) (pre115_ok h)
/-! ### metronome/metronomeref17.Apply (function 63) -/
def t63 (A : Alg) (vId : Int) (vN : Int) (vSet : Int) (vAcc : Int) (vFail : Int) (vStage : Int) (vFirst : Int) (sender : Int) (oKind : Int) (oWhich : Int) (oChan : Int) (oFKind : Int) (oFReq : Int) (oFCTime : Int) (oFCPos : Int) (oFCMode : Int) (oFCNext : Int) (oFCMember : Int) (oFFrom : Int) (oFData : List Int) (oAt : Int) : LT ((Int × Int × Int × Int × Int × Int × Int) × Int) Empty :=
  .br (A.cmp .eql oKind 1)
  (.need (A.call (@tt ((Int × Int × Int × Int × Int × Int × Int) × Int)) ((vId, vN, vSet, vAcc, vFail, vStage, vFirst), sender)) (
  .ret (A.call fn113 ((vId, vN, vSet, vAcc, vFail, vStage, vFirst), sender))))
  (.br (A.cmp .eql oKind 2)
  (.need (A.call (@tt ((Int × Int × Int × Int × Int × Int × Int) × Int)) ((vId, vN, vSet, vAcc, vFail, vStage, vFirst), sender)) (
  .ret (A.call fn114 ((vId, vN, vSet, vAcc, vFail, vStage, vFirst), sender))))
  (.br (A.cmp .eql oKind 3)
  (.need (A.call (@tt ((Int × Int × Int × Int × Int × Int × Int) × Int × Int)) ((vId, vN, vSet, vAcc, vFail, vStage, vFirst), sender, oWhich)) (
  .ret (A.call fn115 ((vId, vN, vSet, vAcc, vFail, vStage, vFirst), sender, oWhich))))
  (.ret ((0, 0, 0, 0, 0, 0, 0), 2))))
noncomputable def E63 (A : Alg) : Info (Ty.Ts [(.struct [(.int .i64), (.int .i64), (.int .i64), (.int .i64), (.int .i64), (.int .i64), (.int .i64)]), (.int .i64)]) := { ti := tys, fns := [(63, Try.f63)], sps := [(113, sp113), (114, sp114), (115, sp115)], stops := [], cuts := [], consts := [], fin := finD A [(.struct [(.int .i64), (.int .i64), (.int .i64), (.int .i64), (.int .i64), (.int .i64), (.int .i64)]), (.int .i64)] }
theorem t63_ok (A : Alg) (vId : Int) (vN : Int) (vSet : Int) (vAcc : Int) (vFail : Int) (vStage : Int) (vFirst : Int) (sender : Int) (oKind : Int) (oWhich : Int) (oChan : Int) (oFKind : Int) (oFReq : Int) (oFCTime : Int) (oFCPos : Int) (oFCMode : Int) (oFCNext : Int) (oFCMember : Int) (oFFrom : Int) (oFData : List Int) (oAt : Int) : run A (E63 A) 50 (startC 63 Try.f63 (dvals A [(.struct [(.int .i64), (.int .i64), (.int .i64), (.int .i64), (.int .i64), (.int .i64), (.int .i64)]), (.int .i64), (.struct [(.int .i64), (.int .i64), (.int .i64), (.struct [(.int .i64), (.int .i64), (.struct [(.int .i64), (.int .i64), (.int .i64), (.int .i64), (.int .i64)]), (.int .i64), (.slice (.int .u8))]), (.int .i64)])] ((vId, vN, vSet, vAcc, vFail, vStage, vFirst), sender, oKind, oWhich, oChan, (oFKind, oFReq, (oFCTime, oFCPos, oFCMode, oFCNext, oFCMember), oFFrom, oFData), oAt))) = (t63 A vId vN vSet vAcc vFail vStage vFirst sender oKind oWhich oChan oFKind oFReq oFCTime oFCPos oFCMode oFCNext oFCMember oFFrom oFData oAt).tr Empty.elim := by kernel_rfl
def w63 : Walk Try.prog 63 [(.struct [(.int .i64), (.int .i64), (.int .i64), (.int .i64), (.int .i64), (.int .i64), (.int .i64)]), (.int .i64), (.struct [(.int .i64), (.int .i64), (.int .i64), (.struct [(.int .i64), (.int .i64), (.struct [(.int .i64), (.int .i64), (.int .i64), (.int .i64), (.int .i64)]), (.int .i64), (.slice (.int .u8))]), (.int .i64)])] [(.struct [(.int .i64), (.int .i64), (.int .i64), (.int .i64), (.int .i64), (.int .i64), (.int .i64)]), (.int .i64)] Empty := ⟨fun ((vId, vN, vSet, vAcc, vFail, vStage, vFirst), sender, oKind, oWhich, oChan, (oFKind, oFReq, (oFCTime, oFCPos, oFCMode, oFCNext, oFCMember), oFFrom, oFData), oAt) => t63 std vId vN vSet vAcc vFail vStage vFirst sender oKind oWhich oChan oFKind oFReq oFCTime oFCPos oFCMode oFCNext oFCMember oFFrom oFData oAt, Empty.elim⟩
theorem w63_ok : w63.Ok :=
  walk_ok (E := E63 std) ⟨tys_fit, fns_cons Try.func63 (by kernel_rfl) (fns_nil), sps_cons so113 (sps_cons so114 (sps_cons so115 (sps_nil))), by kernel_rfl⟩ rfl rfl rfl (by kernel_rfl) w63 Empty.elim 50 (fun ((vId, vN, vSet, vAcc, vFail, vStage, vFirst), sender, oKind, oWhich, oChan, (oFKind, oFReq, (oFCTime, oFCPos, oFCMode, oFCNext, oFCMember), oFFrom, oFData), oAt) => t63_ok std vId vN vSet vAcc vFail vStage vFirst sender oKind oWhich oChan oFKind oFReq oFCTime oFCPos oFCMode oFCNext oFCMember oFFrom oFData oAt) (fun y => y.elim)

def fn63 : ((Int × Int × Int × Int × Int × Int × Int) × Int × (Int × Int × Int × (Int × Int × (Int × Int × Int × Int × Int) × Int × List Int) × Int)) → ((Int × Int × Int × Int × Int × Int × Int) × Int) := fun ((vId, vN, vSet, vAcc, vFail, vStage, vFirst), sender, oKind, oWhich, oChan, (oFKind, oFReq, (oFCTime, oFCPos, oFCMode, oFCNext, oFCMember), oFFrom, oFData), oAt) => (t63 std vId vN vSet vAcc vFail vStage vFirst sender oKind oWhich oChan oFKind oFReq oFCTime oFCPos oFCMode oFCNext oFCMember oFFrom oFData oAt).val (Ty.dflts [(.struct [(.int .i64), (.int .i64), (.int .i64), (.int .i64), (.int .i64), (.int .i64), (.int .i64)]), (.int .i64)])
def sp63 : FSpec := ⟨[(.struct [(.int .i64), (.int .i64), (.int .i64), (.int .i64), (.int .i64), (.int .i64), (.int .i64)]), (.int .i64), (.struct [(.int .i64), (.int .i64), (.int .i64), (.struct [(.int .i64), (.int .i64), (.struct [(.int .i64), (.int .i64), (.int .i64), (.int .i64), (.int .i64)]), (.int .i64), (.slice (.int .u8))]), (.int .i64)])], [(.struct [(.int .i64), (.int .i64), (.int .i64), (.int .i64), (.int .i64), (.int .i64), (.int .i64)]), (.int .i64)], (@tt ((Int × Int × Int × Int × Int × Int × Int) × Int × (Int × Int × Int × (Int × Int × (Int × Int × Int × Int × Int) × Int × List Int) × Int))), fn63⟩
theorem eqs63 (vId : Int) (vN : Int) (vSet : Int) (vAcc : Int) (vFail : Int) (vStage : Int) (vFirst : Int) (sender : Int) (oKind : Int) (oWhich : Int) (oChan : Int) (oFKind : Int) (oFReq : Int) (oFCTime : Int) (oFCPos : Int) (oFCMode : Int) (oFCNext : Int) (oFCMember : Int) (oFFrom : Int) (oFData : List Int) (oAt : Int) : (t63 std vId vN vSet vAcc vFail vStage vFirst sender oKind oWhich oChan oFKind oFReq oFCTime oFCPos oFCMode oFCNext oFCMember oFFrom oFData oAt).Eqs := by simp only [t63, LT.Eqs, and_self, true_and, and_true]
theorem pre63_ok {vId : Int} {vN : Int} {vSet : Int} {vAcc : Int} {vFail : Int} {vStage : Int} {vFirst : Int} {sender : Int} {oKind : Int} {oWhich : Int} {oChan : Int} {oFKind : Int} {oFReq : Int} {oFCTime : Int} {oFCPos : Int} {oFCMode : Int} {oFCNext : Int} {oFCMember : Int} {oFFrom : Int} {oFData : List Int} {oAt : Int} (h : Ty.hass [(.struct [(.int .i64), (.int .i64), (.int .i64), (.int .i64), (.int .i64), (.int .i64), (.int .i64)]), (.int .i64), (.struct [(.int .i64), (.int .i64), (.int .i64), (.struct [(.int .i64), (.int .i64), (.struct [(.int .i64), (.int .i64), (.int .i64), (.int .i64), (.int .i64)]), (.int .i64), (.slice (.int .u8))]), (.int .i64)])] ((vId, vN, vSet, vAcc, vFail, vStage, vFirst), sender, oKind, oWhich, oChan, (oFKind, oFReq, (oFCTime, oFCPos, oFCMode, oFCNext, oFCMember), oFFrom, oFData), oAt)) : (t63 std vId vN vSet vAcc vFail vStage vFirst sender oKind oWhich oChan oFKind oFReq oFCTime oFCPos oFCMode oFCNext oFCMember oFFrom oFData oAt).pre = true := by
  simp [t63, LT.pre, std_call, tt_eq]
theorem so63 : FSpec.Sound Try.prog 63 sp63 :=
  w63_ok.sound _ _ fun ((vId, vN, vSet, vAcc, vFail, vStage, vFirst), sender, oKind, oWhich, oChan, (oFKind, oFReq, (oFCTime, oFCPos, oFCMode, oFCNext, oFCMember), oFFrom, oFData), oAt) _ h => LT.runs (d := Ty.dflts [(.struct [(.int .i64), (.int .i64), (.int .i64), (.int .i64), (.int .i64), (.int .i64), (.int .i64)]), (.int .i64)]) (eqs63 vId vN vSet vAcc vFail vStage vFirst sender oKind oWhich oChan oFKind oFReq oFCTime oFCPos oFCMode oFCNext oFCMember oFFrom oFData oAt) (pre63_ok h)
/-! ### metronome/metronomeref17.Same (function 64) -/
def t64 (A : Alg) (aKind : Int) (aWhich : Int) (aChan : Int) (aFKind : Int) (aFReq : Int) (aFCTime : Int) (aFCPos : Int) (aFCMode : Int) (aFCNext : Int) (aFCMember : Int) (aFFrom : Int) (aFData : List Int) (aAt : Int) (bKind : Int) (bWhich : Int) (bChan : Int) (bFKind : Int) (bFReq : Int) (bFCTime : Int) (bFCPos : Int) (bFCMode : Int) (bFCNext : Int) (bFCMember : Int) (bFFrom : Int) (bFData : List Int) (bAt : Int) : LT Bool Empty :=
  .br (A.cmp .eql aKind bKind)
  (.br (A.cmp .eql aWhich bWhich)
  (.br (A.cmp .eql aChan bChan)
  (.need (A.call (@tt ((Int × Int × (Int × Int × Int × Int × Int) × Int × List Int) × (Int × Int × (Int × Int × Int × Int × Int) × Int × List Int))) ((aFKind, aFReq, (aFCTime, aFCPos, aFCMode, aFCNext, aFCMember), aFFrom, aFData), bFKind, bFReq, (bFCTime, bFCPos, bFCMode, bFCNext, bFCMember), bFFrom, bFData)) (
  .br (A.call fn44 ((aFKind, aFReq, (aFCTime, aFCPos, aFCMode, aFCNext, aFCMember), aFFrom, aFData), bFKind, bFReq, (bFCTime, bFCPos, bFCMode, bFCNext, bFCMember), bFFrom, bFData))
  (.ret (A.cmp .eql aAt bAt))
  (.ret false)))
  (.ret false))
  (.ret false))
  (.ret false)
noncomputable def E64 (A : Alg) : Info (Ty.Ts [.bool]) := { ti := tys, fns := [(64, Try.f64)], sps := [(44, sp44)], stops := [], cuts := [], consts := [], fin := finD A [.bool] }
theorem t64_ok (A : Alg) (aKind : Int) (aWhich : Int) (aChan : Int) (aFKind : Int) (aFReq : Int) (aFCTime : Int) (aFCPos : Int) (aFCMode : Int) (aFCNext : Int) (aFCMember : Int) (aFFrom : Int) (aFData : List Int) (aAt : Int) (bKind : Int) (bWhich : Int) (bChan : Int) (bFKind : Int) (bFReq : Int) (bFCTime : Int) (bFCPos : Int) (bFCMode : Int) (bFCNext : Int) (bFCMember : Int) (bFFrom : Int) (bFData : List Int) (bAt : Int) : run A (E64 A) 49 (startC 64 Try.f64 (dvals A [(.struct [(.int .i64), (.int .i64), (.int .i64), (.struct [(.int .i64), (.int .i64), (.struct [(.int .i64), (.int .i64), (.int .i64), (.int .i64), (.int .i64)]), (.int .i64), (.slice (.int .u8))]), (.int .i64)]), (.struct [(.int .i64), (.int .i64), (.int .i64), (.struct [(.int .i64), (.int .i64), (.struct [(.int .i64), (.int .i64), (.int .i64), (.int .i64), (.int .i64)]), (.int .i64), (.slice (.int .u8))]), (.int .i64)])] ((aKind, aWhich, aChan, (aFKind, aFReq, (aFCTime, aFCPos, aFCMode, aFCNext, aFCMember), aFFrom, aFData), aAt), bKind, bWhich, bChan, (bFKind, bFReq, (bFCTime, bFCPos, bFCMode, bFCNext, bFCMember), bFFrom, bFData), bAt))) = (t64 A aKind aWhich aChan aFKind aFReq aFCTime aFCPos aFCMode aFCNext aFCMember aFFrom aFData aAt bKind bWhich bChan bFKind bFReq bFCTime bFCPos bFCMode bFCNext bFCMember bFFrom bFData bAt).tr Empty.elim := by kernel_rfl
def wk64 : Walk Try.prog 64 [(.struct [(.int .i64), (.int .i64), (.int .i64), (.struct [(.int .i64), (.int .i64), (.struct [(.int .i64), (.int .i64), (.int .i64), (.int .i64), (.int .i64)]), (.int .i64), (.slice (.int .u8))]), (.int .i64)]), (.struct [(.int .i64), (.int .i64), (.int .i64), (.struct [(.int .i64), (.int .i64), (.struct [(.int .i64), (.int .i64), (.int .i64), (.int .i64), (.int .i64)]), (.int .i64), (.slice (.int .u8))]), (.int .i64)])] [.bool] Empty := ⟨fun ((aKind, aWhich, aChan, (aFKind, aFReq, (aFCTime, aFCPos, aFCMode, aFCNext, aFCMember), aFFrom, aFData), aAt), bKind, bWhich, bChan, (bFKind, bFReq, (bFCTime, bFCPos, bFCMode, bFCNext, bFCMember), bFFrom, bFData), bAt) => t64 std aKind aWhich aChan aFKind aFReq aFCTime aFCPos aFCMode aFCNext aFCMember aFFrom aFData aAt bKind bWhich bChan bFKind bFReq bFCTime bFCPos bFCMode bFCNext bFCMember bFFrom bFData bAt, Empty.elim⟩
theorem wk64_ok : wk64.Ok :=
  walk_ok (E := E64 std) ⟨tys_fit, fns_cons Try.func64 (by kernel_rfl) (fns_nil), sps_cons so44 (sps_nil), by kernel_rfl⟩ rfl rfl rfl (by kernel_rfl) wk64 Empty.elim 49 (fun ((aKind, aWhich, aChan, (aFKind, aFReq, (aFCTime, aFCPos, aFCMode, aFCNext, aFCMember), aFFrom, aFData), aAt), bKind, bWhich, bChan, (bFKind, bFReq, (bFCTime, bFCPos, bFCMode, bFCNext, bFCMember), bFFrom, bFData), bAt) => t64_ok std aKind aWhich aChan aFKind aFReq aFCTime aFCPos aFCMode aFCNext aFCMember aFFrom aFData aAt bKind bWhich bChan bFKind bFReq bFCTime bFCPos bFCMode bFCNext bFCMember bFFrom bFData bAt) (fun y => y.elim)

def fn64 : ((Int × Int × Int × (Int × Int × (Int × Int × Int × Int × Int) × Int × List Int) × Int) × (Int × Int × Int × (Int × Int × (Int × Int × Int × Int × Int) × Int × List Int) × Int)) → Bool := fun ((aKind, aWhich, aChan, (aFKind, aFReq, (aFCTime, aFCPos, aFCMode, aFCNext, aFCMember), aFFrom, aFData), aAt), bKind, bWhich, bChan, (bFKind, bFReq, (bFCTime, bFCPos, bFCMode, bFCNext, bFCMember), bFFrom, bFData), bAt) => (t64 std aKind aWhich aChan aFKind aFReq aFCTime aFCPos aFCMode aFCNext aFCMember aFFrom aFData aAt bKind bWhich bChan bFKind bFReq bFCTime bFCPos bFCMode bFCNext bFCMember bFFrom bFData bAt).val (Ty.dflts [.bool])
def sp64 : FSpec := ⟨[(.struct [(.int .i64), (.int .i64), (.int .i64), (.struct [(.int .i64), (.int .i64), (.struct [(.int .i64), (.int .i64), (.int .i64), (.int .i64), (.int .i64)]), (.int .i64), (.slice (.int .u8))]), (.int .i64)]), (.struct [(.int .i64), (.int .i64), (.int .i64), (.struct [(.int .i64), (.int .i64), (.struct [(.int .i64), (.int .i64), (.int .i64), (.int .i64), (.int .i64)]), (.int .i64), (.slice (.int .u8))]), (.int .i64)])], [.bool], (@tt ((Int × Int × Int × (Int × Int × (Int × Int × Int × Int × Int) × Int × List Int) × Int) × (Int × Int × Int × (Int × Int × (Int × Int × Int × Int × Int) × Int × List Int) × Int))), fn64⟩
theorem eqs64 (aKind : Int) (aWhich : Int) (aChan : Int) (aFKind : Int) (aFReq : Int) (aFCTime : Int) (aFCPos : Int) (aFCMode : Int) (aFCNext : Int) (aFCMember : Int) (aFFrom : Int) (aFData : List Int) (aAt : Int) (bKind : Int) (bWhich : Int) (bChan : Int) (bFKind : Int) (bFReq : Int) (bFCTime : Int) (bFCPos : Int) (bFCMode : Int) (bFCNext : Int) (bFCMember : Int) (bFFrom : Int) (bFData : List Int) (bAt : Int) : (t64 std aKind aWhich aChan aFKind aFReq aFCTime aFCPos aFCMode aFCNext aFCMember aFFrom aFData aAt bKind bWhich bChan bFKind bFReq bFCTime bFCPos bFCMode bFCNext bFCMember bFFrom bFData bAt).Eqs := by simp only [t64, LT.Eqs, and_self, true_and, and_true]
theorem pre64_ok {aKind : Int} {aWhich : Int} {aChan : Int} {aFKind : Int} {aFReq : Int} {aFCTime : Int} {aFCPos : Int} {aFCMode : Int} {aFCNext : Int} {aFCMember : Int} {aFFrom : Int} {aFData : List Int} {aAt : Int} {bKind : Int} {bWhich : Int} {bChan : Int} {bFKind : Int} {bFReq : Int} {bFCTime : Int} {bFCPos : Int} {bFCMode : Int} {bFCNext : Int} {bFCMember : Int} {bFFrom : Int} {bFData : List Int} {bAt : Int} (h : Ty.hass [(.struct [(.int .i64), (.int .i64), (.int .i64), (.struct [(.int .i64), (.int .i64), (.struct [(.int .i64), (.int .i64), (.int .i64), (.int .i64), (.int .i64)]), (.int .i64), (.slice (.int .u8))]), (.int .i64)]), (.struct [(.int .i64), (.int .i64), (.int .i64), (.struct [(.int .i64), (.int .i64), (.struct [(.int .i64), (.int .i64), (.int .i64), (.int .i64), (.int .i64)]), (.int .i64), (.slice (.int .u8))]), (.int .i64)])] ((aKind, aWhich, aChan, (aFKind, aFReq, (aFCTime, aFCPos, aFCMode, aFCNext, aFCMember), aFFrom, aFData), aAt), bKind, bWhich, bChan, (bFKind, bFReq, (bFCTime, bFCPos, bFCMode, bFCNext, bFCMember), bFFrom, bFData), bAt)) : (t64 std aKind aWhich aChan aFKind aFReq aFCTime aFCPos aFCMode aFCNext aFCMember aFFrom aFData aAt bKind bWhich bChan bFKind bFReq bFCTime bFCPos bFCMode bFCNext bFCMember bFFrom bFData bAt).pre = true := by
  simp [t64, LT.pre, std_call, tt_eq]
theorem so64 : FSpec.Sound Try.prog 64 sp64 :=
  wk64_ok.sound _ _ fun ((aKind, aWhich, aChan, (aFKind, aFReq, (aFCTime, aFCPos, aFCMode, aFCNext, aFCMember), aFFrom, aFData), aAt), bKind, bWhich, bChan, (bFKind, bFReq, (bFCTime, bFCPos, bFCMode, bFCNext, bFCMember), bFFrom, bFData), bAt) _ h => LT.runs (d := Ty.dflts [.bool]) (eqs64 aKind aWhich aChan aFKind aFReq aFCTime aFCPos aFCMode aFCNext aFCMember aFFrom aFData aAt bKind bWhich bChan bFKind bFReq bFCTime bFCPos bFCMode bFCNext bFCMember bFFrom bFData bAt) (pre64_ok h)
/-! ### metronome/judge.Same (function 65) -/
def t65 (A : Alg) (aKind : Int) (aWhich : Int) (aChan : Int) (aFKind : Int) (aFReq : Int) (aFCTime : Int) (aFCPos : Int) (aFCMode : Int) (aFCNext : Int) (aFCMember : Int) (aFFrom : Int) (aFData : List Int) (aAt : Int) (bKind : Int) (bWhich : Int) (bChan : Int) (bFKind : Int) (bFReq : Int) (bFCTime : Int) (bFCPos : Int) (bFCMode : Int) (bFCNext : Int) (bFCMember : Int) (bFFrom : Int) (bFData : List Int) (bAt : Int) : LT Bool Empty :=
  .br (A.cmp .eql aKind bKind)
  (.br (A.cmp .eql aWhich bWhich)
  (.br (A.cmp .eql aChan bChan)
  (.br (A.cmp .eql aAt bAt)
  (.need (A.call (@tt ((Int × Int × (Int × Int × Int × Int × Int) × Int × List Int) × (Int × Int × (Int × Int × Int × Int × Int) × Int × List Int))) ((aFKind, aFReq, (aFCTime, aFCPos, aFCMode, aFCNext, aFCMember), aFFrom, aFData), bFKind, bFReq, (bFCTime, bFCPos, bFCMode, bFCNext, bFCMember), bFFrom, bFData)) (
  .ret (A.call fn60 ((aFKind, aFReq, (aFCTime, aFCPos, aFCMode, aFCNext, aFCMember), aFFrom, aFData), bFKind, bFReq, (bFCTime, bFCPos, bFCMode, bFCNext, bFCMember), bFFrom, bFData))))
  (.ret false))
  (.ret false))
  (.ret false))
  (.ret false)
noncomputable def E65 (A : Alg) : Info (Ty.Ts [.bool]) := { ti := tys, fns := [(65, Try.f65)], sps := [(60, sp60)], stops := [], cuts := [], consts := [], fin := finD A [.bool] }
theorem t65_ok (A : Alg) (aKind : Int) (aWhich : Int) (aChan : Int) (aFKind : Int) (aFReq : Int) (aFCTime : Int) (aFCPos : Int) (aFCMode : Int) (aFCNext : Int) (aFCMember : Int) (aFFrom : Int) (aFData : List Int) (aAt : Int) (bKind : Int) (bWhich : Int) (bChan : Int) (bFKind : Int) (bFReq : Int) (bFCTime : Int) (bFCPos : Int) (bFCMode : Int) (bFCNext : Int) (bFCMember : Int) (bFFrom : Int) (bFData : List Int) (bAt : Int) : run A (E65 A) 49 (startC 65 Try.f65 (dvals A [(.struct [(.int .i64), (.int .i64), (.int .i64), (.struct [(.int .i64), (.int .i64), (.struct [(.int .i64), (.int .i64), (.int .i64), (.int .i64), (.int .i64)]), (.int .i64), (.slice (.int .u8))]), (.int .i64)]), (.struct [(.int .i64), (.int .i64), (.int .i64), (.struct [(.int .i64), (.int .i64), (.struct [(.int .i64), (.int .i64), (.int .i64), (.int .i64), (.int .i64)]), (.int .i64), (.slice (.int .u8))]), (.int .i64)])] ((aKind, aWhich, aChan, (aFKind, aFReq, (aFCTime, aFCPos, aFCMode, aFCNext, aFCMember), aFFrom, aFData), aAt), bKind, bWhich, bChan, (bFKind, bFReq, (bFCTime, bFCPos, bFCMode, bFCNext, bFCMember), bFFrom, bFData), bAt))) = (t65 A aKind aWhich aChan aFKind aFReq aFCTime aFCPos aFCMode aFCNext aFCMember aFFrom aFData aAt bKind bWhich bChan bFKind bFReq bFCTime bFCPos bFCMode bFCNext bFCMember bFFrom bFData bAt).tr Empty.elim := by kernel_rfl
def w65 : Walk Try.prog 65 [(.struct [(.int .i64), (.int .i64), (.int .i64), (.struct [(.int .i64), (.int .i64), (.struct [(.int .i64), (.int .i64), (.int .i64), (.int .i64), (.int .i64)]), (.int .i64), (.slice (.int .u8))]), (.int .i64)]), (.struct [(.int .i64), (.int .i64), (.int .i64), (.struct [(.int .i64), (.int .i64), (.struct [(.int .i64), (.int .i64), (.int .i64), (.int .i64), (.int .i64)]), (.int .i64), (.slice (.int .u8))]), (.int .i64)])] [.bool] Empty := ⟨fun ((aKind, aWhich, aChan, (aFKind, aFReq, (aFCTime, aFCPos, aFCMode, aFCNext, aFCMember), aFFrom, aFData), aAt), bKind, bWhich, bChan, (bFKind, bFReq, (bFCTime, bFCPos, bFCMode, bFCNext, bFCMember), bFFrom, bFData), bAt) => t65 std aKind aWhich aChan aFKind aFReq aFCTime aFCPos aFCMode aFCNext aFCMember aFFrom aFData aAt bKind bWhich bChan bFKind bFReq bFCTime bFCPos bFCMode bFCNext bFCMember bFFrom bFData bAt, Empty.elim⟩
theorem w65_ok : w65.Ok :=
  walk_ok (E := E65 std) ⟨tys_fit, fns_cons Try.func65 (by kernel_rfl) (fns_nil), sps_cons so60 (sps_nil), by kernel_rfl⟩ rfl rfl rfl (by kernel_rfl) w65 Empty.elim 49 (fun ((aKind, aWhich, aChan, (aFKind, aFReq, (aFCTime, aFCPos, aFCMode, aFCNext, aFCMember), aFFrom, aFData), aAt), bKind, bWhich, bChan, (bFKind, bFReq, (bFCTime, bFCPos, bFCMode, bFCNext, bFCMember), bFFrom, bFData), bAt) => t65_ok std aKind aWhich aChan aFKind aFReq aFCTime aFCPos aFCMode aFCNext aFCMember aFFrom aFData aAt bKind bWhich bChan bFKind bFReq bFCTime bFCPos bFCMode bFCNext bFCMember bFFrom bFData bAt) (fun y => y.elim)

def fn65 : ((Int × Int × Int × (Int × Int × (Int × Int × Int × Int × Int) × Int × List Int) × Int) × (Int × Int × Int × (Int × Int × (Int × Int × Int × Int × Int) × Int × List Int) × Int)) → Bool := fun ((aKind, aWhich, aChan, (aFKind, aFReq, (aFCTime, aFCPos, aFCMode, aFCNext, aFCMember), aFFrom, aFData), aAt), bKind, bWhich, bChan, (bFKind, bFReq, (bFCTime, bFCPos, bFCMode, bFCNext, bFCMember), bFFrom, bFData), bAt) => (t65 std aKind aWhich aChan aFKind aFReq aFCTime aFCPos aFCMode aFCNext aFCMember aFFrom aFData aAt bKind bWhich bChan bFKind bFReq bFCTime bFCPos bFCMode bFCNext bFCMember bFFrom bFData bAt).val (Ty.dflts [.bool])
def sp65 : FSpec := ⟨[(.struct [(.int .i64), (.int .i64), (.int .i64), (.struct [(.int .i64), (.int .i64), (.struct [(.int .i64), (.int .i64), (.int .i64), (.int .i64), (.int .i64)]), (.int .i64), (.slice (.int .u8))]), (.int .i64)]), (.struct [(.int .i64), (.int .i64), (.int .i64), (.struct [(.int .i64), (.int .i64), (.struct [(.int .i64), (.int .i64), (.int .i64), (.int .i64), (.int .i64)]), (.int .i64), (.slice (.int .u8))]), (.int .i64)])], [.bool], (@tt ((Int × Int × Int × (Int × Int × (Int × Int × Int × Int × Int) × Int × List Int) × Int) × (Int × Int × Int × (Int × Int × (Int × Int × Int × Int × Int) × Int × List Int) × Int))), fn65⟩
theorem eqs65 (aKind : Int) (aWhich : Int) (aChan : Int) (aFKind : Int) (aFReq : Int) (aFCTime : Int) (aFCPos : Int) (aFCMode : Int) (aFCNext : Int) (aFCMember : Int) (aFFrom : Int) (aFData : List Int) (aAt : Int) (bKind : Int) (bWhich : Int) (bChan : Int) (bFKind : Int) (bFReq : Int) (bFCTime : Int) (bFCPos : Int) (bFCMode : Int) (bFCNext : Int) (bFCMember : Int) (bFFrom : Int) (bFData : List Int) (bAt : Int) : (t65 std aKind aWhich aChan aFKind aFReq aFCTime aFCPos aFCMode aFCNext aFCMember aFFrom aFData aAt bKind bWhich bChan bFKind bFReq bFCTime bFCPos bFCMode bFCNext bFCMember bFFrom bFData bAt).Eqs := by simp only [t65, LT.Eqs, and_self, true_and, and_true]
theorem pre65_ok {aKind : Int} {aWhich : Int} {aChan : Int} {aFKind : Int} {aFReq : Int} {aFCTime : Int} {aFCPos : Int} {aFCMode : Int} {aFCNext : Int} {aFCMember : Int} {aFFrom : Int} {aFData : List Int} {aAt : Int} {bKind : Int} {bWhich : Int} {bChan : Int} {bFKind : Int} {bFReq : Int} {bFCTime : Int} {bFCPos : Int} {bFCMode : Int} {bFCNext : Int} {bFCMember : Int} {bFFrom : Int} {bFData : List Int} {bAt : Int} (h : Ty.hass [(.struct [(.int .i64), (.int .i64), (.int .i64), (.struct [(.int .i64), (.int .i64), (.struct [(.int .i64), (.int .i64), (.int .i64), (.int .i64), (.int .i64)]), (.int .i64), (.slice (.int .u8))]), (.int .i64)]), (.struct [(.int .i64), (.int .i64), (.int .i64), (.struct [(.int .i64), (.int .i64), (.struct [(.int .i64), (.int .i64), (.int .i64), (.int .i64), (.int .i64)]), (.int .i64), (.slice (.int .u8))]), (.int .i64)])] ((aKind, aWhich, aChan, (aFKind, aFReq, (aFCTime, aFCPos, aFCMode, aFCNext, aFCMember), aFFrom, aFData), aAt), bKind, bWhich, bChan, (bFKind, bFReq, (bFCTime, bFCPos, bFCMode, bFCNext, bFCMember), bFFrom, bFData), bAt)) : (t65 std aKind aWhich aChan aFKind aFReq aFCTime aFCPos aFCMode aFCNext aFCMember aFFrom aFData aAt bKind bWhich bChan bFKind bFReq bFCTime bFCPos bFCMode bFCNext bFCMember bFFrom bFData bAt).pre = true := by
  simp [t65, LT.pre, std_call, tt_eq]
theorem so65 : FSpec.Sound Try.prog 65 sp65 :=
  w65_ok.sound _ _ fun ((aKind, aWhich, aChan, (aFKind, aFReq, (aFCTime, aFCPos, aFCMode, aFCNext, aFCMember), aFFrom, aFData), aAt), bKind, bWhich, bChan, (bFKind, bFReq, (bFCTime, bFCPos, bFCMode, bFCNext, bFCMember), bFFrom, bFData), bAt) _ h => LT.runs (d := Ty.dflts [.bool]) (eqs65 aKind aWhich aChan aFKind aFReq aFCTime aFCPos aFCMode aFCNext aFCMember aFFrom aFData aAt bKind bWhich bChan bFKind bFReq bFCTime bFCPos bFCMode bFCNext bFCMember bFFrom bFData bAt) (pre65_ok h)
theorem asked_same {v : Int × Int × Int × Int × Int × Int × Int} {s : Int} : fn144 (v, s) = fn73 (v, s) := by
  obtain ⟨a, b, c, d, e, f, g⟩ := v
  simp only [fn144, fn73, t144, t73, LT.val, std_call, chk]
  by_cases h : fn35 (a, b, c, d, e, f, g) = 0
  · have hm := fn35_zero.1 h
    unfold okM at hm
    have h77 := fn77_iff (a := a) (b := b) (c := c) (d := d) (e := e) (f := f) (g := g) (s := s) (by omega) (by omega)
    rw [h]
    simp only [std_cmp_neq, std_cmp_geq, std_cmp_lss, std_not, bne_self_eq_false, cond_false]
    by_cases hs : 0 ≤ s ∧ s < b ∧ s ≠ a
    · rw [h77.2 hs]
      simp [hs.1, hs.2.1, show (s != a) = true from bne_iff_ne.2 hs.2.2]
    · have : fn77 ((a, b, c, d, e, f, g), s) = false := by rw [← Bool.not_eq_true, h77]; exact hs
      rw [this]
      by_cases h0 : 0 ≤ s
      · by_cases h1 : s < b
        · have : s = a := Decidable.byContradiction fun h2 => hs ⟨h0, h1, h2⟩
          subst this
          simp [h0, h1]
        · simp [h0, h1]
      · simp [h0]
  · have : (fn35 (a, b, c, d, e, f, g) != 0) = true := by simpa using h
    simp only [std_cmp_neq, this, cond_true]
theorem asks_ok {a b c d e f g s : Int} (h : (fn73 ((a, b, c, d, e, f, g), s) != 0) = false) : okM a b c d e f g ∧ 0 ≤ s ∧ s < b ∧ s ≠ a := fn73_zero.1 (by simpa using h)
theorem gone_same {a b c d e f g s : Int} (h : okM a b c d e f g) (h0 : 0 ≤ s) (h1 : s < b) : fn145 ((a, b, c, d, e, f, g), s) = (bif f == 2 then (bif g == s then (a, b, delB c s, d, e, 1, 0) else (a, b, delB c s, d, e, f, g)) else (a, b, delB c s, d, e, f, g)) := by
  have hm := h
  unfold okM at hm
  simp only [fn145, t145, LT.val, std_call, std_cmp_eql, fn80_shl (n := s) (by omega) (by omega), delB]
theorem null_same {v : Int × Int × Int × Int × Int × Int × Int} {s : Int} : fn113 (v, s) = fn38 (v, s) := by
  obtain ⟨a, b, c, d, e, f, g⟩ := v
  simp only [fn113, fn38, t113, t38, LT.val, std_call, asked_same, std_cmp_neq, std_cmp_eql]
  cases h : (fn73 ((a, b, c, d, e, f, g), s) != 0)
  · obtain ⟨h1, h2, h3, h4⟩ := asks_ok h
    rw [cond_false, cond_false, gone_same h1 h2 h3]
    simp only [delB]
    cases f == 2 <;> cases g == s <;> rfl
  · rfl
theorem bad_same {v : Int × Int × Int × Int × Int × Int × Int} {s : Int} : fn114 (v, s) = fn39 (v, s) := by
  have hn := null_same (v := v) (s := s)
  obtain ⟨a, b, c, d, e, f, g⟩ := v
  simp only [fn39, t39, LT.val, std_call, ← hn, std_cmp_eql]
  simp only [fn114, fn113, t114, t113, fn146, t146, LT.val, std_call, asked_same, std_cmp_neq]
  cases h : (fn73 ((a, b, c, d, e, f, g), s) != 0)
  · rfl
  · rw [cond_true]
    have h2 : (fn73 ((a, b, c, d, e, f, g), s) == 0) = false := by
      rw [bne, Bool.not_eq_true'] at h; exact h
    rw [cond_true, h2]; rfl
theorem good_same {v : Int × Int × Int × Int × Int × Int × Int} {s w : Int} : fn115 (v, s, w) = fn25 (v, s, w) := by
  obtain ⟨a, b, c, d, e, f, g⟩ := v
  simp only [fn115, fn25, t115, t25, LT.val, std_call, asked_same, std_cmp_neq, std_cmp_eql, std_cmp_lss, std_cmp_geq, std_not, fn146, t146]
  by_cases h : (fn73 ((a, b, c, d, e, f, g), s) != 0) = true
  · rw [h]; rfl
  rw [Bool.not_eq_true] at h
  rw [h, cond_false, cond_false]
  obtain ⟨h1, h2, h3, h4⟩ := asks_ok h
  have hm := h1
  unfold okM at hm
  have hq := fn78_len (x := ((a, b, c, d, e, f, g), s))
  have hq2 := fn78_two (x := ((a, b, c, d, e, f, g), s))
  have hv := fn33_ok h1 h2 h3 h4
  have hl : std.len (fn33 ((a, b, c, d, e, f, g), s)) = (fn78 ((a, b, c, d, e, f, g), s)).2 := by
    rw [hv]
    show (((fn78 ((a, b, c, d, e, f, g), s)).1.take (fn78 ((a, b, c, d, e, f, g), s)).2.toNat).length : Int) = _
    rw [List.length_take, hq2]; omega
  have hn : 0 ≤ w → w < (fn78 ((a, b, c, d, e, f, g), s)).2 → (std.nth (.int .i64) (std.call fn33 ((a, b, c, d, e, f, g), s)) w : Int) = (fn78 ((a, b, c, d, e, f, g), s)).1.getD w.toNat 0 := by
    intro hw0 hw1
    show (fn33 ((a, b, c, d, e, f, g), s)).getD w.toNat 0 = _
    rw [hv, List.getD_eq_getElem?_getD, List.getD_eq_getElem?_getD, List.getElem?_take_of_lt (by omega)]
  rw [hl, fn74_ok h1 h2 h3 h4, fn80_shl (n := s) (by omega) (by omega)]
  by_cases hw0 : w < 0
  · rw [show decide (w < 0) = true from by simpa using hw0, show decide (0 ≤ w) = false from by simp; omega]; rfl
  by_cases hw1 : (fn78 ((a, b, c, d, e, f, g), s)).2 ≤ w
  · rw [show decide ((fn78 ((a, b, c, d, e, f, g), s)).2 ≤ w) = true from by simpa using hw1, show decide (w < (fn78 ((a, b, c, d, e, f, g), s)).2) = false from by simp; omega, Bool.and_false]
    cases decide (w < 0) <;> rfl
  rw [show decide (w < 0) = false from by simpa using hw0, show decide ((fn78 ((a, b, c, d, e, f, g), s)).2 ≤ w) = false from by simpa using hw1, show decide (0 ≤ w) = true from by simp; omega, show decide (w < (fn78 ((a, b, c, d, e, f, g), s)).2) = true from by simp; omega, hn (by omega) (by omega)]
  rfl
theorem apply_same {x : (Int × Int × Int × Int × Int × Int × Int) × Int × (Int × Int × Int × (Int × Int × (Int × Int × Int × Int × Int) × Int × List Int) × Int)} : fn63 x = fn61 x := by
  obtain ⟨⟨a, b, c, d, e, f, g⟩, s, k, w, ch, ⟨fk, fr, ⟨t, p, m, n, y⟩, ff, fd⟩, at'⟩ := x
  simp only [fn63, fn61, t63, t61, LT.val, std_call, null_same, bad_same, good_same]
/-- The same outcome? -/
def outEq (x y : Int × Int × Int × (Int × Int × (Int × Int × Int × Int × Int) × Int × List Int) × Int) : Bool := decide (x.1 = y.1) && decide (x.2.1 = y.2.1) && decide (x.2.2.1 = y.2.2.1) && frEq x.2.2.2.1 y.2.2.2.1 && decide (x.2.2.2.2 = y.2.2.2.2)
theorem outEq_self (x : Int × Int × Int × (Int × Int × (Int × Int × Int × Int × Int) × Int × List Int) × Int) : outEq x x = true := by
  simp only [outEq, decide_true, frEq_self, Bool.and_self]
theorem same_17 {x y : Int × Int × Int × (Int × Int × (Int × Int × Int × Int × Int) × Int × List Int) × Int} (hx : bytesOk x.2.2.2.1.2.2.2.2) (hy : bytesOk y.2.2.2.1.2.2.2.2) : fn64 (x, y) = outEq x y := by
  obtain ⟨k, w, ch, ⟨fk, fr, ⟨t, p, m, n, s⟩, ff, fd⟩, at1⟩ := x
  obtain ⟨k', w', ch', ⟨fk', fr', ⟨t', p', m', n', s'⟩, ff', fd'⟩, at2⟩ := y
  simp only [fn64, t64, LT.val, std_call, fn44_eq hx hy, outEq, std_cmp_eql, Bool.cond_eq_ite, beq_iff_eq]
  have hbd : ∀ x y : Int, (x == y) = decide (x = y) := fun x y => by rw [Bool.eq_iff_iff]; simp
  repeat' split
  all_goals (simp_all <;> exact hbd _ _)
theorem same_j {x y : Int × Int × Int × (Int × Int × (Int × Int × Int × Int × Int) × Int × List Int) × Int} (hx : bytesOk x.2.2.2.1.2.2.2.2) (hy : bytesOk y.2.2.2.1.2.2.2.2) : fn65 (x, y) = outEq x y := by
  obtain ⟨k, w, ch, ⟨fk, fr, ⟨t, p, m, n, s⟩, ff, fd⟩, at1⟩ := x
  obtain ⟨k', w', ch', ⟨fk', fr', ⟨t', p', m', n', s'⟩, ff', fd'⟩, at2⟩ := y
  simp only [fn65, t65, LT.val, std_call, fn60_eq hx hy, outEq, std_cmp_eql, Bool.cond_eq_ite, beq_iff_eq]
  have hbd : ∀ x y : Int, (x == y) = decide (x = y) := fun x y => by rw [Bool.eq_iff_iff]; simp
  repeat' split
  all_goals (simp_all <;> exact hbd _ _)
theorem slotIn_bytes {c : Int × Int × Int × Int × Int} {w : Int} {o : Int × Int × Int × (Int × Int × (Int × Int × Int × Int × Int) × Int × List Int) × Int} : ∀ {l : List (Int × Int × (Int × List Int))} {k : Nat}, slotIn c w k l = some o → bytesOk o.2.2.2.1.2.2.2.2 := by
  intro l
  induction l with
  | nil => intro k h; cases h
  | cons s l ih =>
    intro k h
    rw [slotIn] at h
    cases hb : (s.1 == 2 && (goodS (s.2.2, c)).2)
    · rw [hb, cond_false] at h; exact ih h
    · rw [hb, cond_true] at h; cases h; exact goodS_bytes
theorem slotOut_bytes {t p m n : Int} {seen : List (Int × Int × (Int × List Int))} {o : Int × Int × Int × (Int × Int × (Int × Int × Int × Int × Int) × Int × List Int) × Int} : ∀ {l : List Int} {i : Nat}, slotOut t p m n seen i l = some o → bytesOk o.2.2.2.1.2.2.2.2 := by
  intro l
  induction l with
  | nil => intro i h; cases h
  | cons v l ih =>
    intro i h
    rw [slotOut] at h
    cases hs : slotIn (t, p, m, n, v) (i : Int) 0 seen with
    | none => rw [hs] at h; exact ih h
    | some o' => rw [hs] at h; cases h; exact slotIn_bytes hs
theorem slotS_bytes {x : (Int × Int × Int × Int × Int) × (Int × Int × Int × Int × Int × Int × Int) × Int × List (Int × Int × (Int × List Int))} : bytesOk (slotS x).1.2.2.2.1.2.2.2.2 := by
  obtain ⟨⟨t, p, m, n, s⟩, v, sender, seen⟩ := x
  have hz : bytesOk zeroF.2.2.2.2 := fun x hx => by cases hx
  rw [slotS]
  cases (fn34 v != 0 || chkS ((t, p, m, n, s), v.2.1) != 0)
  · rw [cond_false]
    cases (decide (sender < 0) || decide (v.2.1 ≤ sender) || sender == v.1 || seen.length != 2)
    · rw [cond_false, slotR]
      cases h3 : slotOut t p m n seen 0 (vws (v, sender)) with
      | some o => exact slotOut_bytes h3
      | none =>
        show bytesOk (slotEnd seen).2.2.2.1.2.2.2.2
        rw [slotEnd]
        cases seen.any fun s => s.1 != 0 <;> exact hz
    · exact hz
  · exact hz

/-! ### metronome/metronomelaw17.JudgeSlots (function 18) -/
def t18 (A : Alg) (cTime : Int) (cPos : Int) (cMode : Int) (cNext : Int) (cMember : Int) (vId : Int) (vN : Int) (vSet : Int) (vAcc : Int) (vFail : Int) (vStage : Int) (vFirst : Int) (sender : Int) (seen : List (Int × Int × (Int × List Int))) (oKind : Int) (oWhich : Int) (oChan : Int) (oFKind : Int) (oFReq : Int) (oFCTime : Int) (oFCPos : Int) (oFCMode : Int) (oFCNext : Int) (oFCMember : Int) (oFFrom : Int) (oFData : List Int) (oAt : Int) : LT Bool Empty :=
  .need (A.call (@tt (List (Int × Int × (Int × List Int)))) seen) (
  .need (A.call (@tt ((Int × Int × Int × Int × Int) × (Int × Int × Int × Int × Int × Int × Int) × Int × List (Int × Int × (Int × List Int)))) ((cTime, cPos, cMode, cNext, cMember), (vId, vN, vSet, vAcc, vFail, vStage, vFirst), sender, (A.call fn45 seen))) (
  .need (A.call (@tt ((Int × Int × Int × Int × Int) × (Int × Int × Int × Int × Int × Int × Int) × Int × List (Int × Int × (Int × List Int)))) ((cTime, cPos, cMode, cNext, cMember), (vId, vN, vSet, vAcc, vFail, vStage, vFirst), sender, (A.call fn45 seen))) (
  .need (A.call (@tt ((Int × Int × Int × Int × Int × Int × Int) × Int × (Int × Int × Int × (Int × Int × (Int × Int × Int × Int × Int) × Int × List Int) × Int))) ((vId, vN, vSet, vAcc, vFail, vStage, vFirst), sender, oKind, oWhich, oChan, (oFKind, oFReq, (oFCTime, oFCPos, oFCMode, oFCNext, oFCMember), oFFrom, oFData), oAt)) (
  .need (A.call (@tt ((Int × Int × Int × Int × Int × Int × Int) × Int × (Int × Int × Int × (Int × Int × (Int × Int × Int × Int × Int) × Int × List Int) × Int))) ((vId, vN, vSet, vAcc, vFail, vStage, vFirst), sender, oKind, oWhich, oChan, (oFKind, oFReq, (oFCTime, oFCPos, oFCMode, oFCNext, oFCMember), oFFrom, oFData), oAt)) (
  .need (A.call (@tt Unit) ()) (
  .br (A.call fn41 ())
  (.need (A.call (@tt ((Int × Int × Int × (Int × Int × (Int × Int × Int × Int × Int) × Int × List Int) × Int) × (Int × Int × Int × (Int × Int × (Int × Int × Int × Int × Int) × Int × List Int) × Int))) ((A.call fn43 ((cTime, cPos, cMode, cNext, cMember), (vId, vN, vSet, vAcc, vFail, vStage, vFirst), sender, (A.call fn45 seen))).1, (A.call fn62 ((cTime, cPos, cMode, cNext, cMember), (vId, vN, vSet, vAcc, vFail, vStage, vFirst), sender, (A.call fn45 seen))).1)) (
  .br (A.call fn64 ((A.call fn43 ((cTime, cPos, cMode, cNext, cMember), (vId, vN, vSet, vAcc, vFail, vStage, vFirst), sender, (A.call fn45 seen))).1, (A.call fn62 ((cTime, cPos, cMode, cNext, cMember), (vId, vN, vSet, vAcc, vFail, vStage, vFirst), sender, (A.call fn45 seen))).1))
  (.br (A.cmp .eql (A.call fn43 ((cTime, cPos, cMode, cNext, cMember), (vId, vN, vSet, vAcc, vFail, vStage, vFirst), sender, (A.call fn45 seen))).2 (A.call fn62 ((cTime, cPos, cMode, cNext, cMember), (vId, vN, vSet, vAcc, vFail, vStage, vFirst), sender, (A.call fn45 seen))).2)
  (.br (A.and (A.cmp .eql (A.call fn61 ((vId, vN, vSet, vAcc, vFail, vStage, vFirst), sender, oKind, oWhich, oChan, (oFKind, oFReq, (oFCTime, oFCPos, oFCMode, oFCNext, oFCMember), oFFrom, oFData), oAt)).1.1 (A.call fn63 ((vId, vN, vSet, vAcc, vFail, vStage, vFirst), sender, oKind, oWhich, oChan, (oFKind, oFReq, (oFCTime, oFCPos, oFCMode, oFCNext, oFCMember), oFFrom, oFData), oAt)).1.1) (A.and (A.cmp .eql (A.call fn61 ((vId, vN, vSet, vAcc, vFail, vStage, vFirst), sender, oKind, oWhich, oChan, (oFKind, oFReq, (oFCTime, oFCPos, oFCMode, oFCNext, oFCMember), oFFrom, oFData), oAt)).1.2.1 (A.call fn63 ((vId, vN, vSet, vAcc, vFail, vStage, vFirst), sender, oKind, oWhich, oChan, (oFKind, oFReq, (oFCTime, oFCPos, oFCMode, oFCNext, oFCMember), oFFrom, oFData), oAt)).1.2.1) (A.and (A.cmp .eql (A.call fn61 ((vId, vN, vSet, vAcc, vFail, vStage, vFirst), sender, oKind, oWhich, oChan, (oFKind, oFReq, (oFCTime, oFCPos, oFCMode, oFCNext, oFCMember), oFFrom, oFData), oAt)).1.2.2.1 (A.call fn63 ((vId, vN, vSet, vAcc, vFail, vStage, vFirst), sender, oKind, oWhich, oChan, (oFKind, oFReq, (oFCTime, oFCPos, oFCMode, oFCNext, oFCMember), oFFrom, oFData), oAt)).1.2.2.1) (A.and (A.cmp .eql (A.call fn61 ((vId, vN, vSet, vAcc, vFail, vStage, vFirst), sender, oKind, oWhich, oChan, (oFKind, oFReq, (oFCTime, oFCPos, oFCMode, oFCNext, oFCMember), oFFrom, oFData), oAt)).1.2.2.2.1 (A.call fn63 ((vId, vN, vSet, vAcc, vFail, vStage, vFirst), sender, oKind, oWhich, oChan, (oFKind, oFReq, (oFCTime, oFCPos, oFCMode, oFCNext, oFCMember), oFFrom, oFData), oAt)).1.2.2.2.1) (A.and (A.cmp .eql (A.call fn61 ((vId, vN, vSet, vAcc, vFail, vStage, vFirst), sender, oKind, oWhich, oChan, (oFKind, oFReq, (oFCTime, oFCPos, oFCMode, oFCNext, oFCMember), oFFrom, oFData), oAt)).1.2.2.2.2.1 (A.call fn63 ((vId, vN, vSet, vAcc, vFail, vStage, vFirst), sender, oKind, oWhich, oChan, (oFKind, oFReq, (oFCTime, oFCPos, oFCMode, oFCNext, oFCMember), oFFrom, oFData), oAt)).1.2.2.2.2.1) (A.and (A.cmp .eql (A.call fn61 ((vId, vN, vSet, vAcc, vFail, vStage, vFirst), sender, oKind, oWhich, oChan, (oFKind, oFReq, (oFCTime, oFCPos, oFCMode, oFCNext, oFCMember), oFFrom, oFData), oAt)).1.2.2.2.2.2.1 (A.call fn63 ((vId, vN, vSet, vAcc, vFail, vStage, vFirst), sender, oKind, oWhich, oChan, (oFKind, oFReq, (oFCTime, oFCPos, oFCMode, oFCNext, oFCMember), oFFrom, oFData), oAt)).1.2.2.2.2.2.1) (A.and (A.cmp .eql (A.call fn61 ((vId, vN, vSet, vAcc, vFail, vStage, vFirst), sender, oKind, oWhich, oChan, (oFKind, oFReq, (oFCTime, oFCPos, oFCMode, oFCNext, oFCMember), oFFrom, oFData), oAt)).1.2.2.2.2.2.2 (A.call fn63 ((vId, vN, vSet, vAcc, vFail, vStage, vFirst), sender, oKind, oWhich, oChan, (oFKind, oFReq, (oFCTime, oFCPos, oFCMode, oFCNext, oFCMember), oFFrom, oFData), oAt)).1.2.2.2.2.2.2) true)))))))
  (.br (A.cmp .eql (A.call fn61 ((vId, vN, vSet, vAcc, vFail, vStage, vFirst), sender, oKind, oWhich, oChan, (oFKind, oFReq, (oFCTime, oFCPos, oFCMode, oFCNext, oFCMember), oFFrom, oFData), oAt)).2 (A.call fn63 ((vId, vN, vSet, vAcc, vFail, vStage, vFirst), sender, oKind, oWhich, oChan, (oFKind, oFReq, (oFCTime, oFCPos, oFCMode, oFCNext, oFCMember), oFFrom, oFData), oAt)).2)
  (.need (A.call (@tt ((Int × Int × Int × (Int × Int × (Int × Int × Int × Int × Int) × Int × List Int) × Int) × (Int × Int × Int × (Int × Int × (Int × Int × Int × Int × Int) × Int × List Int) × Int))) ((A.call fn43 ((cTime, cPos, cMode, cNext, cMember), (vId, vN, vSet, vAcc, vFail, vStage, vFirst), sender, (A.call fn45 seen))).1, oKind, oWhich, oChan, (oFKind, oFReq, (oFCTime, oFCPos, oFCMode, oFCNext, oFCMember), oFFrom, oFData), oAt)) (
  .need (A.call (@tt ((Int × Int × Int × (Int × Int × (Int × Int × Int × Int × Int) × Int × List Int) × Int) × (Int × Int × Int × (Int × Int × (Int × Int × Int × Int × Int) × Int × List Int) × Int))) ((A.call fn62 ((cTime, cPos, cMode, cNext, cMember), (vId, vN, vSet, vAcc, vFail, vStage, vFirst), sender, (A.call fn45 seen))).1, oKind, oWhich, oChan, (oFKind, oFReq, (oFCTime, oFCPos, oFCMode, oFCNext, oFCMember), oFFrom, oFData), oAt)) (
  .br (A.beq (A.call fn65 ((A.call fn43 ((cTime, cPos, cMode, cNext, cMember), (vId, vN, vSet, vAcc, vFail, vStage, vFirst), sender, (A.call fn45 seen))).1, oKind, oWhich, oChan, (oFKind, oFReq, (oFCTime, oFCPos, oFCMode, oFCNext, oFCMember), oFFrom, oFData), oAt)) (A.call fn64 ((A.call fn62 ((cTime, cPos, cMode, cNext, cMember), (vId, vN, vSet, vAcc, vFail, vStage, vFirst), sender, (A.call fn45 seen))).1, oKind, oWhich, oChan, (oFKind, oFReq, (oFCTime, oFCPos, oFCMode, oFCNext, oFCMember), oFFrom, oFData), oAt)))
  (.need (A.call (@tt ((Int × Int × Int × (Int × Int × (Int × Int × Int × Int × Int) × Int × List Int) × Int) × (Int × Int × Int × (Int × Int × (Int × Int × Int × Int × Int) × Int × List Int) × Int))) ((A.call fn43 ((cTime, cPos, cMode, cNext, cMember), (vId, vN, vSet, vAcc, vFail, vStage, vFirst), sender, (A.call fn45 seen))).1, (A.call fn43 ((cTime, cPos, cMode, cNext, cMember), (vId, vN, vSet, vAcc, vFail, vStage, vFirst), sender, (A.call fn45 seen))).1)) (
  .ret (A.call fn65 ((A.call fn43 ((cTime, cPos, cMode, cNext, cMember), (vId, vN, vSet, vAcc, vFail, vStage, vFirst), sender, (A.call fn45 seen))).1, (A.call fn43 ((cTime, cPos, cMode, cNext, cMember), (vId, vN, vSet, vAcc, vFail, vStage, vFirst), sender, (A.call fn45 seen))).1))))
  (.ret false))))
  (.ret false))
  (.ret false))
  (.ret false))
  (.ret false)))
  (.ret false)))))))
noncomputable def E18 (A : Alg) : Info (Ty.Ts [.bool]) := { ti := tys, fns := [(18, Try.f18)], sps := [(41, sp41), (43, sp43), (45, sp45), (61, sp61), (62, sp62), (63, sp63), (64, sp64), (65, sp65)], stops := [], cuts := [], consts := [], fin := finD A [.bool] }
theorem t18_ok (A : Alg) (cTime : Int) (cPos : Int) (cMode : Int) (cNext : Int) (cMember : Int) (vId : Int) (vN : Int) (vSet : Int) (vAcc : Int) (vFail : Int) (vStage : Int) (vFirst : Int) (sender : Int) (seen : List (Int × Int × (Int × List Int))) (oKind : Int) (oWhich : Int) (oChan : Int) (oFKind : Int) (oFReq : Int) (oFCTime : Int) (oFCPos : Int) (oFCMode : Int) (oFCNext : Int) (oFCMember : Int) (oFFrom : Int) (oFData : List Int) (oAt : Int) : run A (E18 A) 112 (startC 18 Try.f18 (dvals A [(.struct [(.int .i64), (.int .i64), (.int .i64), (.int .i64), (.int .i64)]), (.struct [(.int .i64), (.int .i64), (.int .i64), (.int .i64), (.int .i64), (.int .i64), (.int .i64)]), (.int .i64), (.slice (.struct [(.int .i64), (.int .i64), (.struct [(.int .i64), (.slice (.int .u8))])])), (.struct [(.int .i64), (.int .i64), (.int .i64), (.struct [(.int .i64), (.int .i64), (.struct [(.int .i64), (.int .i64), (.int .i64), (.int .i64), (.int .i64)]), (.int .i64), (.slice (.int .u8))]), (.int .i64)])] ((cTime, cPos, cMode, cNext, cMember), (vId, vN, vSet, vAcc, vFail, vStage, vFirst), sender, seen, oKind, oWhich, oChan, (oFKind, oFReq, (oFCTime, oFCPos, oFCMode, oFCNext, oFCMember), oFFrom, oFData), oAt))) = (t18 A cTime cPos cMode cNext cMember vId vN vSet vAcc vFail vStage vFirst sender seen oKind oWhich oChan oFKind oFReq oFCTime oFCPos oFCMode oFCNext oFCMember oFFrom oFData oAt).tr Empty.elim := by kernel_rfl
def w18 : Walk Try.prog 18 [(.struct [(.int .i64), (.int .i64), (.int .i64), (.int .i64), (.int .i64)]), (.struct [(.int .i64), (.int .i64), (.int .i64), (.int .i64), (.int .i64), (.int .i64), (.int .i64)]), (.int .i64), (.slice (.struct [(.int .i64), (.int .i64), (.struct [(.int .i64), (.slice (.int .u8))])])), (.struct [(.int .i64), (.int .i64), (.int .i64), (.struct [(.int .i64), (.int .i64), (.struct [(.int .i64), (.int .i64), (.int .i64), (.int .i64), (.int .i64)]), (.int .i64), (.slice (.int .u8))]), (.int .i64)])] [.bool] Empty := ⟨fun ((cTime, cPos, cMode, cNext, cMember), (vId, vN, vSet, vAcc, vFail, vStage, vFirst), sender, seen, oKind, oWhich, oChan, (oFKind, oFReq, (oFCTime, oFCPos, oFCMode, oFCNext, oFCMember), oFFrom, oFData), oAt) => t18 std cTime cPos cMode cNext cMember vId vN vSet vAcc vFail vStage vFirst sender seen oKind oWhich oChan oFKind oFReq oFCTime oFCPos oFCMode oFCNext oFCMember oFFrom oFData oAt, Empty.elim⟩
theorem w18_ok : w18.Ok :=
  walk_ok (E := E18 std) ⟨tys_fit, fns_cons Try.func18 (by kernel_rfl) (fns_nil), sps_cons so41 (sps_cons so43 (sps_cons so45 (sps_cons so61 (sps_cons so62 (sps_cons so63 (sps_cons so64 (sps_cons so65 (sps_nil)))))))), by kernel_rfl⟩ rfl rfl rfl (by kernel_rfl) w18 Empty.elim 112 (fun ((cTime, cPos, cMode, cNext, cMember), (vId, vN, vSet, vAcc, vFail, vStage, vFirst), sender, seen, oKind, oWhich, oChan, (oFKind, oFReq, (oFCTime, oFCPos, oFCMode, oFCNext, oFCMember), oFFrom, oFData), oAt) => t18_ok std cTime cPos cMode cNext cMember vId vN vSet vAcc vFail vStage vFirst sender seen oKind oWhich oChan oFKind oFReq oFCTime oFCPos oFCMode oFCNext oFCMember oFFrom oFData oAt) (fun y => y.elim)

def fn18 : ((Int × Int × Int × Int × Int) × (Int × Int × Int × Int × Int × Int × Int) × Int × List (Int × Int × (Int × List Int)) × (Int × Int × Int × (Int × Int × (Int × Int × Int × Int × Int) × Int × List Int) × Int)) → Bool := fun ((cTime, cPos, cMode, cNext, cMember), (vId, vN, vSet, vAcc, vFail, vStage, vFirst), sender, seen, oKind, oWhich, oChan, (oFKind, oFReq, (oFCTime, oFCPos, oFCMode, oFCNext, oFCMember), oFFrom, oFData), oAt) => (t18 std cTime cPos cMode cNext cMember vId vN vSet vAcc vFail vStage vFirst sender seen oKind oWhich oChan oFKind oFReq oFCTime oFCPos oFCMode oFCNext oFCMember oFFrom oFData oAt).val (Ty.dflts [.bool])
def sp18 : FSpec := ⟨[(.struct [(.int .i64), (.int .i64), (.int .i64), (.int .i64), (.int .i64)]), (.struct [(.int .i64), (.int .i64), (.int .i64), (.int .i64), (.int .i64), (.int .i64), (.int .i64)]), (.int .i64), (.slice (.struct [(.int .i64), (.int .i64), (.struct [(.int .i64), (.slice (.int .u8))])])), (.struct [(.int .i64), (.int .i64), (.int .i64), (.struct [(.int .i64), (.int .i64), (.struct [(.int .i64), (.int .i64), (.int .i64), (.int .i64), (.int .i64)]), (.int .i64), (.slice (.int .u8))]), (.int .i64)])], [.bool], (@tt ((Int × Int × Int × Int × Int) × (Int × Int × Int × Int × Int × Int × Int) × Int × List (Int × Int × (Int × List Int)) × (Int × Int × Int × (Int × Int × (Int × Int × Int × Int × Int) × Int × List Int) × Int))), fn18⟩
theorem eqs18 (cTime : Int) (cPos : Int) (cMode : Int) (cNext : Int) (cMember : Int) (vId : Int) (vN : Int) (vSet : Int) (vAcc : Int) (vFail : Int) (vStage : Int) (vFirst : Int) (sender : Int) (seen : List (Int × Int × (Int × List Int))) (oKind : Int) (oWhich : Int) (oChan : Int) (oFKind : Int) (oFReq : Int) (oFCTime : Int) (oFCPos : Int) (oFCMode : Int) (oFCNext : Int) (oFCMember : Int) (oFFrom : Int) (oFData : List Int) (oAt : Int) : (t18 std cTime cPos cMode cNext cMember vId vN vSet vAcc vFail vStage vFirst sender seen oKind oWhich oChan oFKind oFReq oFCTime oFCPos oFCMode oFCNext oFCMember oFFrom oFData oAt).Eqs := by simp only [t18, LT.Eqs, and_self, true_and, and_true]
theorem pre18_ok {cTime : Int} {cPos : Int} {cMode : Int} {cNext : Int} {cMember : Int} {vId : Int} {vN : Int} {vSet : Int} {vAcc : Int} {vFail : Int} {vStage : Int} {vFirst : Int} {sender : Int} {seen : List (Int × Int × (Int × List Int))} {oKind : Int} {oWhich : Int} {oChan : Int} {oFKind : Int} {oFReq : Int} {oFCTime : Int} {oFCPos : Int} {oFCMode : Int} {oFCNext : Int} {oFCMember : Int} {oFFrom : Int} {oFData : List Int} {oAt : Int} (h : Ty.hass [(.struct [(.int .i64), (.int .i64), (.int .i64), (.int .i64), (.int .i64)]), (.struct [(.int .i64), (.int .i64), (.int .i64), (.int .i64), (.int .i64), (.int .i64), (.int .i64)]), (.int .i64), (.slice (.struct [(.int .i64), (.int .i64), (.struct [(.int .i64), (.slice (.int .u8))])])), (.struct [(.int .i64), (.int .i64), (.int .i64), (.struct [(.int .i64), (.int .i64), (.struct [(.int .i64), (.int .i64), (.int .i64), (.int .i64), (.int .i64)]), (.int .i64), (.slice (.int .u8))]), (.int .i64)])] ((cTime, cPos, cMode, cNext, cMember), (vId, vN, vSet, vAcc, vFail, vStage, vFirst), sender, seen, oKind, oWhich, oChan, (oFKind, oFReq, (oFCTime, oFCPos, oFCMode, oFCNext, oFCMember), oFFrom, oFData), oAt)) : (t18 std cTime cPos cMode cNext cMember vId vN vSet vAcc vFail vStage vFirst sender seen oKind oWhich oChan oFKind oFReq oFCTime oFCPos oFCMode oFCNext oFCMember oFFrom oFData oAt).pre = true := by
  simp [t18, LT.pre, std_call, tt_eq]
theorem so18 : FSpec.Sound Try.prog 18 sp18 :=
  w18_ok.sound _ _ fun ((cTime, cPos, cMode, cNext, cMember), (vId, vN, vSet, vAcc, vFail, vStage, vFirst), sender, seen, oKind, oWhich, oChan, (oFKind, oFReq, (oFCTime, oFCPos, oFCMode, oFCNext, oFCMember), oFFrom, oFData), oAt) _ h => LT.runs (d := Ty.dflts [.bool]) (eqs18 cTime cPos cMode cNext cMember vId vN vSet vAcc vFail vStage vFirst sender seen oKind oWhich oChan oFKind oFReq oFCTime oFCPos oFCMode oFCNext oFCMember oFFrom oFData oAt) (pre18_ok h)
theorem has_18 {c : Int × Int × Int × Int × Int} {v : Int × Int × Int × Int × Int × Int × Int} {sender k w ch fk fr t p m n s ff a : Int} {fd : List Int} {seen : List (Int × Int × (Int × List Int))} (h : Ty.hass [(.struct [(.int .i64), (.int .i64), (.int .i64), (.int .i64), (.int .i64)]), (.struct [(.int .i64), (.int .i64), (.int .i64), (.int .i64), (.int .i64), (.int .i64), (.int .i64)]), (.int .i64), (.slice (.struct [(.int .i64), (.int .i64), (.struct [(.int .i64), (.slice (.int .u8))])])), (.struct [(.int .i64), (.int .i64), (.int .i64), (.struct [(.int .i64), (.int .i64), (.struct [(.int .i64), (.int .i64), (.int .i64), (.int .i64), (.int .i64)]), (.int .i64), (.slice (.int .u8))]), (.int .i64)])] (c, v, sender, seen, k, w, ch, (fk, fr, (t, p, m, n, s), ff, fd), a)) : bytesOk fd := by
  have h2 : fd.length ≤ lenMax ∧ ∀ x ∈ fd, 0 ≤ x ∧ x ≤ 255 := h.2.2.2.2.2.2.2.1.2.2.2.2
  exact h2.2
theorem law18 (x : (Int × Int × Int × Int × Int) × (Int × Int × Int × Int × Int × Int × Int) × Int × (List (Int × Int × (Int × List Int))) × (Int × Int × Int × (Int × Int × (Int × Int × Int × Int × Int) × Int × List Int) × Int)) (h : Ty.hass [(.struct [(.int .i64), (.int .i64), (.int .i64), (.int .i64), (.int .i64)]), (.struct [(.int .i64), (.int .i64), (.int .i64), (.int .i64), (.int .i64), (.int .i64), (.int .i64)]), (.int .i64), (.slice (.struct [(.int .i64), (.int .i64), (.struct [(.int .i64), (.slice (.int .u8))])])), (.struct [(.int .i64), (.int .i64), (.int .i64), (.struct [(.int .i64), (.int .i64), (.struct [(.int .i64), (.int .i64), (.int .i64), (.int .i64), (.int .i64)]), (.int .i64), (.slice (.int .u8))]), (.int .i64)])] x) : fn18 x = true := by
  obtain ⟨⟨t', p', m', n', s'⟩, ⟨a, b, c, d, e, f, g⟩, sender, seen, k, w, ch, ⟨fk, fr, ⟨t, p, m, n, s⟩, ff, fd⟩, at1⟩ := x
  have hb := has_18 h
  simp only [fn18, t18, LT.val, std_call, begun17, fn43, fn62, apply_same, same_17 slotS_bytes slotS_bytes, same_j slotS_bytes slotS_bytes, outEq_self, std_cmp_eql, std_and, std_beq, beq_self_eq_true, Bool.and_self, cond_true]
  rw [same_17 (y := (k, w, ch, (fk, fr, (t, p, m, n, s), ff, fd), at1)) slotS_bytes hb, same_j (y := (k, w, ch, (fk, fr, (t, p, m, n, s), ff, fd), at1)) slotS_bytes hb, beq_self_eq_true]
  rfl

end Go.Ev.M
