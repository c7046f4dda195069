/-
  PROVED: what judge.Slot and judge.Apply compute. Conditions: none.
-/
import Derived.Test.YtafbddhnoacldaaFc
import Derived.Test.YtafbddhnoacldaaMb
namespace Go.Ev.M
open Go.Proofs
set_option maxRecDepth 100000
set_option linter.unusedVariables false
set_option linter.unusedSimpArgs false

open Go.Ev.Pl
/-! ### metronome/judge.Slot (function 43) -/
structure P43c0 where
  a0 : List (Int × Int × (Int × List Int))
  a1 : Int
  a3 : Int
  a4 : Int
  a5 : Int
  a6 : Int
  a7 : Int
  a8 : Int
  a9 : Int
  a10 : Int
  a11 : Int
  a12 : Int
  a13 : Int
  a14 : Int
  a15 : Int
structure P43c1 where
  b0 : Int
  b1 : Int
  b2 : Int
  b3 : Int
  b4 : Int
  b5 : Int
  b6 : Int
  b7 : Int
  b8 : Int
  b9 : Int
  b10 : Int
  b11 : Int
  b12 : Int
  b13 : Int
  b14 : Int
  b15 : Int
  b16 : Int
  b17 : List (Int × Int × (Int × List Int))
  b18 : Bool
  b19 : Int
  b20 : Int
  b21 : Int
  b22 : Int
  b23 : Int
  b24 : Int
  b25 : Int
  b26 : Int
  b27 : Bool
  b28 : Bool
  b29 : Int
  b30 : Int
  b31 : Int
  b32 : Int
  b33 : Int
  b34 : Int
  b35 : Int
  b36 : Bool
  b37 : Bool
  b38 : Bool
  b39 : Int
  b40 : Bool
  b41 : Bool
  b42 : Int
  b43 : Int
  b44 : Bool
  b45 : Bool
  b46 : Bool
  b47 : Int
  b48 : Int
  b49 : Bool
  b50 : Bool
  b51 : Bool
  b52 : List (Int × Int × (Int × List Int))
  b53 : Int
  b54 : Bool
  b55 : Bool
  b56 : Int
  b57 : Int
  b58 : Int
  b59 : Int
  b60 : Int
  b61 : Int
  b62 : Int
  b63 : Int
  b64 : Int
  b65 : Int
  b66 : List (Int × Int × (Int × List Int))
  b67 : Int
  b68 : Int
  b69 : Int
  b70 : Int
  b71 : Int
  b72 : Int
  b73 : Int
  b74 : Int
  b75 : Int
  b76 : Int
  b77 : Int
  b78 : Int
  b79 : Int
  b80 : Int
  b81 : Int
  b82 : Int
  b83 : Int
  b84 : Int
  b85 : Int
  b86 : Int
  b87 : Int
  b88 : Int
  b89 : Int
  b90 : Int
  b91 : Int
  b92 : Int
  b93 : Int
  b94 : Int
  b95 : Int
  b96 : Int
  b97 : Int
  b98 : Int
  b99 : Int
structure P43c2 where
  c0 : Int
  c1 : List (Int × Int × (Int × List Int))
  c2 : Int
  c4 : Int
  c5 : Int
  c6 : Int
  c7 : Int
  c8 : Int
  c9 : Int
  c10 : Int
  c11 : Int
  c12 : Int
  c13 : Int
  c14 : Int
  c15 : Int
  c16 : Int
  c17 : Int
  c18 : Int
  c19 : Int
  c20 : Int
  c21 : Int
  c22 : Int
  c23 : Int
  c24 : Int
  c25 : Int
  c26 : Int
  c27 : Int
  c28 : Int
  c29 : Int
  c30 : Int
  c31 : Int
  c32 : Int
  c33 : Int
  c34 : Int
  c35 : Int
  c36 : Int
  c37 : Int
  c38 : Int
  c39 : List (Int × Int × (Int × List Int))
  c40 : Bool
  c41 : Int
  c42 : Int
  c43 : Int
  c44 : Int
  c45 : Int
  c46 : Int
  c47 : Int
  c48 : Int
  c49 : Bool
  c50 : Bool
  c51 : Int
  c52 : Int
  c53 : Int
  c54 : Int
  c55 : Int
  c56 : Int
  c57 : Int
  c58 : Bool
  c59 : Bool
  c60 : Bool
  c61 : Int
  c62 : Bool
  c63 : Bool
  c64 : Int
  c65 : Int
  c66 : Bool
  c67 : Bool
  c68 : Bool
  c69 : Int
  c70 : Int
  c71 : Bool
  c72 : Bool
  c73 : Bool
  c74 : List (Int × Int × (Int × List Int))
  c75 : Int
  c76 : Bool
  c77 : Bool
  c78 : Int
  c79 : Int
  c80 : Int
  c81 : Int
  c82 : Int
  c83 : Int
  c84 : Int
  c85 : Int
  c86 : Int
  c87 : Int
  c88 : List (Int × Int × (Int × List Int))
  c89 : Int
  c90 : Int
  c91 : Int
  c92 : Int
  c93 : Int
  c94 : Int
  c95 : Int
  c96 : Int
  c97 : Int
  c98 : Int
  c99 : Int
  c100 : Int
  c101 : Int
  c102 : Int
  c103 : Int
inductive Y43 where
  | c0 (p : P43c0) (a2 : Int)
  | c1 (p : P43c1)
  | c2 (p : P43c2) (c3 : Int)
noncomputable def cfg43 : Y43 → Cfg
  | .c0 p a2 => { frames := [{ fn := 130, n := 19, env := (Env.put (Env.put (Env.put (Env.put .leaf 0 (.sl (.struct [(.int .i64), (.int .i64), (.struct [(.int .i64), (.slice (.int .u8))])]) p.a0)) 1 (.fn 89 [] [])) 7 (.int .i64 false p.a1)) 8 (.int .i64 false a2)), todo := [.inLoop (Code.way (bodyOf Try.f130) [1, 0, 1, 0, 0]), .inBlock 0, .code (Code.way (bodyOf Try.f130) [1, 1])], marks := [], rnd := none }, { fn := 88, n := 9, env := .leaf, todo := [.ops (opsOf (Code.way (bodyOf Try.f88) [1, 0])) ((opsOf (Code.way (bodyOf Try.f88) [1, 0])).toList.drop 2), .code .ret], marks := [], rnd := none }, { fn := 43, n := 85, env := (Env.put (Env.put .leaf 8 (.ptr 0 0)) 9 (.ptr 1 0)), todo := [.ops (opsOf (Code.way (bodyOf Try.f43) [1, 1, 1, 0, 0])) ((opsOf (Code.way (bodyOf Try.f43) [1, 1, 1, 0, 0])).toList.drop 1), .code (Code.way (bodyOf Try.f43) [1, 1, 1, 0, 1]), .code (Code.way (bodyOf Try.f43) [1, 1, 1, 1])], marks := [2], rnd := none }], mem := [.flat false [.int .i64 false p.a3, .int .i64 false p.a4, .int .i64 false p.a5, .int .i64 false p.a6, .int .i64 false p.a7, .int .i64 false p.a8, .int .i64 false p.a9, .int .i64 false p.a10, .int .i64 false p.a11, .int .i64 false p.a12, .int .i64 false p.a13, .esl true, .int .i64 false p.a14], .flat false [.int .i64 false p.a15], .dfr, .dead] }
  | .c1 p => { frames := [{ fn := 76, n := 37, env := (Env.put (Env.put (Env.put (Env.put .leaf 0 (.yield 0)) 24 (.osl 1 1 false p.b0 p.b1)) 25 (.int .i64 false p.b2)) 26 (.int .i64 false p.b3)), todo := [.inLoop (Code.way (bodyOf Try.f76) [1, 1, 1, 0, 0]), .inBlock 0], marks := [], rnd := none }, { fn := 43, n := 85, env := (Env.put (Env.put (Env.put .leaf 7 (.ptr 2 0)) 8 (.ptr 3 0)) 9 (.ptr 4 0)), todo := [.inRF 0, .inBlock 1, .code (Code.way (bodyOf Try.f43) [1, 1, 1])], marks := [5], rnd := none }], mem := [.loop { fn := 43, n := 85, env := (Env.put (Env.put (Env.put (Env.put (Env.put (Env.put (Env.put (Env.put (Env.put (Env.put (Env.put (Env.put (Env.put (Env.put (Env.put (Env.put (Env.put (Env.put (Env.put (Env.put (Env.put (Env.put (Env.put (Env.put (Env.put (Env.put (Env.put (Env.put (Env.put (Env.put (Env.put (Env.put (Env.put (Env.put (Env.put (Env.put (Env.put (Env.put (Env.put (Env.put (Env.put (Env.put (Env.put .leaf 0 (.agg [.int .i64 false p.b4, .int .i64 false p.b5, .int .i64 false p.b6, .int .i64 false p.b7, .int .i64 false p.b8])) 1 (.agg [.int .i64 false p.b9, .int .i64 false p.b10, .int .i64 false p.b11, .int .i64 false p.b12, .int .i64 false p.b13, .int .i64 false p.b14, .int .i64 false p.b15])) 2 (.int .i64 false p.b16)) 3 (.sl (.struct [(.int .i64), (.int .i64), (.struct [(.int .i64), (.slice (.int .u8))])]) p.b17)) 4 (.ptr 9 0)) 5 (.ptr 6 0)) 7 (.ptr 2 0)) 8 (.ptr 3 0)) 9 (.ptr 4 0)) 16 (.bool false p.b18)) 17 (.agg [.int .i64 false p.b19, .int .i64 false p.b20, .int .i64 false p.b21, .int .i64 false p.b22, .int .i64 false p.b23, .int .i64 false p.b24, .int .i64 false p.b25])) 18 (.int .i64 false p.b26)) 19 (.bool false p.b27)) 20 (.bool false p.b28)) 21 (.agg [.int .i64 false p.b29, .int .i64 false p.b30, .int .i64 false p.b31, .int .i64 false p.b32, .int .i64 false p.b33])) 22 (.ptr 6 1)) 23 (.int .i64 false p.b34)) 24 (.int .i64 false p.b35)) 25 (.bool false p.b36)) 26 (.bool false p.b37)) 28 (.bool false p.b38)) 29 (.int .i64 false p.b39)) 30 (.bool false p.b40)) 31 (.bool false p.b41)) 32 (.int .i64 false p.b42)) 33 (.ptr 6 1)) 34 (.int .i64 false p.b43)) 35 (.bool false p.b44)) 36 (.bool false p.b45)) 37 (.bool false p.b46)) 38 (.int .i64 false p.b47)) 39 (.ptr 6 0)) 40 (.int .i64 false p.b48)) 41 (.bool false p.b49)) 42 (.bool false p.b50)) 43 (.bool false p.b51)) 44 (.sl (.struct [(.int .i64), (.int .i64), (.struct [(.int .i64), (.slice (.int .u8))])]) p.b52)) 45 (.int .i64 false p.b53)) 46 (.bool false p.b54)) 47 (.bool false p.b55)) 49 (.agg [.int .i64 false p.b56, .int .i64 false p.b57, .int .i64 false p.b58, .int .i64 false p.b59, .int .i64 false p.b60, .int .i64 false p.b61, .int .i64 false p.b62])) 50 (.int .i64 false p.b63)) 51 (.fn 76 [] [.ptr 7 0, .ptr 8 0])), params := [52, 53], assign := (Code.way (bodyOf Try.f43) [1, 1, 0, 1, 0, 0]), body := (Code.way (bodyOf Try.f43) [1, 1, 0, 1, 0, 1]), state := 0, pending := none }, .flat false [.int .i64 false p.b64, .int .i64 false p.b65], .flat false [.sl (.struct [(.int .i64), (.int .i64), (.struct [(.int .i64), (.slice (.int .u8))])]) p.b66], .flat false [.int .i64 false p.b67, .int .i64 false p.b68, .int .i64 false p.b69, .int .i64 false p.b70, .int .i64 false p.b71, .int .i64 false p.b72, .int .i64 false p.b73, .int .i64 false p.b74, .int .i64 false p.b75, .int .i64 false p.b76, .int .i64 false p.b77, .esl true, .int .i64 false p.b78], .flat false [.int .i64 false p.b79], .dfr, .flat false [.int .i64 false p.b80, .int .i64 false p.b81, .int .i64 false p.b82, .int .i64 false p.b83, .int .i64 false p.b84, .int .i64 false p.b85, .int .i64 false p.b86], .flat false [.int .i64 false p.b87, .int .i64 false p.b88, .int .i64 false p.b89, .int .i64 false p.b90, .int .i64 false p.b91, .int .i64 false p.b92, .int .i64 false p.b93], .flat false [.int .i64 false p.b94], .flat false [.int .i64 false p.b95, .int .i64 false p.b96, .int .i64 false p.b97, .int .i64 false p.b98, .int .i64 false p.b99], .dead] }
  | .c2 p c3 => { frames := [{ fn := 43, n := 85, env := (Env.put (Env.put (Env.put (Env.put (Env.put (Env.put (Env.put .leaf 4 (.ptr 0 0)) 8 (.ptr 1 0)) 9 (.ptr 2 0)) 10 (.int .i64 false p.c0)) 56 (.sl (.struct [(.int .i64), (.int .i64), (.struct [(.int .i64), (.slice (.int .u8))])]) p.c1)) 57 (.int .i64 false p.c2)) 58 (.int .i64 false c3)), todo := [.inLoop (Code.way (bodyOf Try.f43) [1, 1, 0, 1, 0, 1, 0, 1, 1, 0, 0]), .inBlock 3, .inBlock 2], marks := [], rnd := some 3 }, { fn := 76, n := 37, env := (Env.put (Env.put (Env.put (Env.put .leaf 0 (.yield 3)) 24 (.osl 4 1 false p.c4 p.c5)) 25 (.int .i64 false p.c6)) 26 (.int .i64 false p.c7)), todo := [.ops (opsOf (Code.way (bodyOf Try.f76) [1, 1, 1, 0, 0, 1, 1, 0, 0, 1, 0])) ((opsOf (Code.way (bodyOf Try.f76) [1, 1, 1, 0, 0, 1, 1, 0, 0, 1, 0])).toList.drop 3), .code (Code.way (bodyOf Try.f76) [1, 1, 1, 0, 0, 1, 1, 0, 0, 1, 1]), .inBlock 1, .code (Code.way (bodyOf Try.f76) [1, 1, 1, 0, 0, 1, 1, 1]), .inLoop (Code.way (bodyOf Try.f76) [1, 1, 1, 0, 0]), .inBlock 0], marks := [], rnd := none }, { fn := 43, n := 85, env := (Env.put (Env.put (Env.put .leaf 7 (.ptr 5 0)) 8 (.ptr 1 0)) 9 (.ptr 2 0)), todo := [.inRF 3, .inBlock 1, .code (Code.way (bodyOf Try.f43) [1, 1, 1])], marks := [6], rnd := none }], mem := [.flat false [.int .i64 false p.c8, .int .i64 false p.c9, .int .i64 false p.c10, .int .i64 false p.c11, .int .i64 false p.c12], .flat false [.int .i64 false p.c13, .int .i64 false p.c14, .int .i64 false p.c15, .int .i64 false p.c16, .int .i64 false p.c17, .int .i64 false p.c18, .int .i64 false p.c19, .int .i64 false p.c20, .int .i64 false p.c21, .int .i64 false p.c22, .int .i64 false p.c23, .esl true, .int .i64 false p.c24], .flat false [.int .i64 false p.c25], .loop { fn := 43, n := 85, env := (Env.put (Env.put (Env.put (Env.put (Env.put (Env.put (Env.put (Env.put (Env.put (Env.put (Env.put (Env.put (Env.put (Env.put (Env.put (Env.put (Env.put (Env.put (Env.put (Env.put (Env.put (Env.put (Env.put (Env.put (Env.put (Env.put (Env.put (Env.put (Env.put (Env.put (Env.put (Env.put (Env.put (Env.put (Env.put (Env.put (Env.put (Env.put (Env.put (Env.put (Env.put (Env.put (Env.put .leaf 0 (.agg [.int .i64 false p.c26, .int .i64 false p.c27, .int .i64 false p.c28, .int .i64 false p.c29, .int .i64 false p.c30])) 1 (.agg [.int .i64 false p.c31, .int .i64 false p.c32, .int .i64 false p.c33, .int .i64 false p.c34, .int .i64 false p.c35, .int .i64 false p.c36, .int .i64 false p.c37])) 2 (.int .i64 false p.c38)) 3 (.sl (.struct [(.int .i64), (.int .i64), (.struct [(.int .i64), (.slice (.int .u8))])]) p.c39)) 4 (.ptr 0 0)) 5 (.ptr 7 0)) 7 (.ptr 5 0)) 8 (.ptr 1 0)) 9 (.ptr 2 0)) 16 (.bool false p.c40)) 17 (.agg [.int .i64 false p.c41, .int .i64 false p.c42, .int .i64 false p.c43, .int .i64 false p.c44, .int .i64 false p.c45, .int .i64 false p.c46, .int .i64 false p.c47])) 18 (.int .i64 false p.c48)) 19 (.bool false p.c49)) 20 (.bool false p.c50)) 21 (.agg [.int .i64 false p.c51, .int .i64 false p.c52, .int .i64 false p.c53, .int .i64 false p.c54, .int .i64 false p.c55])) 22 (.ptr 7 1)) 23 (.int .i64 false p.c56)) 24 (.int .i64 false p.c57)) 25 (.bool false p.c58)) 26 (.bool false p.c59)) 28 (.bool false p.c60)) 29 (.int .i64 false p.c61)) 30 (.bool false p.c62)) 31 (.bool false p.c63)) 32 (.int .i64 false p.c64)) 33 (.ptr 7 1)) 34 (.int .i64 false p.c65)) 35 (.bool false p.c66)) 36 (.bool false p.c67)) 37 (.bool false p.c68)) 38 (.int .i64 false p.c69)) 39 (.ptr 7 0)) 40 (.int .i64 false p.c70)) 41 (.bool false p.c71)) 42 (.bool false p.c72)) 43 (.bool false p.c73)) 44 (.sl (.struct [(.int .i64), (.int .i64), (.struct [(.int .i64), (.slice (.int .u8))])]) p.c74)) 45 (.int .i64 false p.c75)) 46 (.bool false p.c76)) 47 (.bool false p.c77)) 49 (.agg [.int .i64 false p.c78, .int .i64 false p.c79, .int .i64 false p.c80, .int .i64 false p.c81, .int .i64 false p.c82, .int .i64 false p.c83, .int .i64 false p.c84])) 50 (.int .i64 false p.c85)) 51 (.fn 76 [] [.ptr 8 0, .ptr 9 0])), params := [52, 53], assign := (Code.way (bodyOf Try.f43) [1, 1, 0, 1, 0, 0]), body := (Code.way (bodyOf Try.f43) [1, 1, 0, 1, 0, 1]), state := 1, pending := none }, .flat false [.int .i64 false p.c86, .int .i64 false p.c87], .flat false [.sl (.struct [(.int .i64), (.int .i64), (.struct [(.int .i64), (.slice (.int .u8))])]) p.c88], .dfr, .flat false [.int .i64 false p.c89, .int .i64 false p.c90, .int .i64 false p.c91, .int .i64 false p.c92, .int .i64 false p.c93, .int .i64 false p.c94, .int .i64 false p.c95], .flat false [.int .i64 false p.c96, .int .i64 false p.c97, .int .i64 false p.c98, .int .i64 false p.c99, .int .i64 false p.c100, .int .i64 false p.c101, .int .i64 false p.c102], .flat false [.int .i64 false p.c103], .dead] }

def t43 (A : Alg) (cTime : Int) (cPos : Int) (cMode : Int) (cNext : Int) (cMember : Int) (vId : Int) (vN : Int) (vSet : Int) (vAcc : Int) (vFail : Int) (vStage : Int) (vFirst : Int) (sender : Int) (seen : List (Int × Int × (Int × List Int))) : LT ((Int × Int × Int × (Int × Int × (Int × Int × Int × Int × Int) × Int × List Int) × Int) × Int) Y43 :=
  .need (A.call (@tt ((Int × Int × Int × Int × Int × Int × Int))) (vId, vN, vSet, vAcc, vFail, vStage, vFirst)) (
  .br (A.cmp .neq (A.call fn34 (vId, vN, vSet, vAcc, vFail, vStage, vFirst)) 0)
  (.ret ((0, 0, 0, (0, 0, (0, 0, 0, 0, 0), 0, ([] : List Int)), 0), 170))
  (.need (A.call (@tt ((Int × Int × Int × Int × Int) × Int)) ((cTime, cPos, cMode, cNext, cMember), vN)) (
  .br (A.cmp .neq (A.call fn87 ((cTime, cPos, cMode, cNext, cMember), vN)) 0)
  (.ret ((0, 0, 0, (0, 0, (0, 0, 0, 0, 0), 0, ([] : List Int)), 0), 170))
  (.br (A.cmp .lss sender 0)
  (.ret ((0, 0, 0, (0, 0, (0, 0, 0, 0, 0), 0, ([] : List Int)), 0), 2))
  (.br (A.cmp .geq sender vN)
  (.ret ((0, 0, 0, (0, 0, (0, 0, 0, 0, 0), 0, ([] : List Int)), 0), 2))
  (.br (A.cmp .eql sender vId)
  (.ret ((0, 0, 0, (0, 0, (0, 0, 0, 0, 0), 0, ([] : List Int)), 0), 2))
  (.br (A.cmp .neq (A.len seen) 2)
  (.ret ((0, 0, 0, (0, 0, (0, 0, 0, 0, 0), 0, ([] : List Int)), 0), 2))
  (.need (A.call (@tt ((Int × Int × Int × Int × Int × Int × Int))) (vId, vN, vSet, vAcc, vFail, vStage, vFirst)) (
  .br (A.cmp .neq (A.call fn34 (vId, vN, vSet, vAcc, vFail, vStage, vFirst)) 0)
  (.more (.c0 ⟨seen, (A.len seen), 0, 0, 0, 0, 0, 0, 0, 0, 0, 0, 0, 0, 0⟩ 0))
  (.need (A.call (@tt ((Int × Int × Int × Int × Int × Int × Int) × Int)) ((vId, vN, vSet, vAcc, vFail, vStage, vFirst), sender)) (
  .br (A.not (A.call fn77 ((vId, vN, vSet, vAcc, vFail, vStage, vFirst), sender)))
  (.more (.c0 ⟨seen, (A.len seen), 0, 0, 0, 0, 0, 0, 0, 0, 0, 0, 0, 0, 0⟩ 0))
  (.need (A.call pre78 ((vId, vN, vSet, vAcc, vFail, vStage, vFirst), sender)) (
  .need (A.and (A.cmp .leq 0 0) (A.and (A.cmp .leq 0 (A.call fn78 ((vId, vN, vSet, vAcc, vFail, vStage, vFirst), sender)).2) (A.cmp .leq (A.call fn78 ((vId, vN, vSet, vAcc, vFail, vStage, vFirst), sender)).2 2))) (
  .more (.c1 ⟨(A.bin .add .i64 0 0), (A.bin .sub .i64 (A.call fn78 ((vId, vN, vSet, vAcc, vFail, vStage, vFirst), sender)).2 0), (A.bin .sub .i64 (A.call fn78 ((vId, vN, vSet, vAcc, vFail, vStage, vFirst), sender)).2 0), 0, cTime, cPos, cMode, cNext, cMember, vId, vN, vSet, vAcc, vFail, vStage, vFirst, sender, seen, (A.cmp .neq (A.call fn87 ((cTime, cPos, cMode, cNext, cMember), vN)) 0), vId, vN, vSet, vAcc, vFail, vStage, vFirst, (A.call fn34 (vId, vN, vSet, vAcc, vFail, vStage, vFirst)), (A.cmp .neq (A.call fn34 (vId, vN, vSet, vAcc, vFail, vStage, vFirst)) 0), false, cTime, cPos, cMode, cNext, cMember, vN, (A.call fn87 ((cTime, cPos, cMode, cNext, cMember), vN)), (A.cmp .neq (A.call fn87 ((cTime, cPos, cMode, cNext, cMember), vN)) 0), (A.cmp .neq (A.call fn87 ((cTime, cPos, cMode, cNext, cMember), vN)) 0), (A.cmp .neq (A.len seen) 2), sender, (A.cmp .lss sender 0), false, sender, vN, (A.cmp .geq sender vN), (A.cmp .geq sender vN), false, sender, vId, (A.cmp .eql sender vId), (A.cmp .eql sender vId), false, seen, (A.len seen), (A.cmp .neq (A.len seen) 2), (A.cmp .neq (A.len seen) 2), vId, vN, vSet, vAcc, vFail, vStage, vFirst, sender, (A.nth (.int .i64) (A.call fn78 ((vId, vN, vSet, vAcc, vFail, vStage, vFirst), sender)).1 0 : Int), (A.nth (.int .i64) (A.call fn78 ((vId, vN, vSet, vAcc, vFail, vStage, vFirst), sender)).1 1 : Int), seen, 0, 0, 0, 0, 0, 0, 0, 0, 0, 0, 0, 0, 0, vId, vN, vSet, vAcc, vFail, vStage, vFirst, vId, vN, vSet, vAcc, vFail, vStage, vFirst, sender, cTime, cPos, cMode, cNext, cMember⟩)))))))))))))))
def s43 (A : Alg) : Y43 → LT ((Int × Int × Int × (Int × Int × (Int × Int × Int × Int × Int) × Int × List Int) × Int) × Int) Y43
 | .c0 p a2 =>
  .br (A.cmp .lss a2 p.a1)
  (.need (A.and (A.cmp .leq 0 a2) (A.cmp .lss a2 (A.len p.a0))) (
  .br (A.cmp .neq (A.nth (.struct [(.int .i64), (.int .i64), (.struct [(.int .i64), (.slice (.int .u8))])]) p.a0 a2 : Int × Int × (Int × List Int)).1 0)
  (.br (A.cmp .geq a2 0)
  (.ret ((2, 0, 0, (0, 0, (0, 0, 0, 0, 0), 0, ([] : List Int)), 0), 0))
  (.ret ((1, 0, 0, (0, 0, (0, 0, 0, 0, 0), 0, ([] : List Int)), 0), 0)))
  (.more (.c0 p (A.bin .add .i64 a2 1)))))
  (.ret ((1, 0, 0, (0, 0, (0, 0, 0, 0, 0), 0, ([] : List Int)), 0), 0))
 | .c1 p =>
  .br (A.cmp .lss p.b3 p.b2)
  (.need (A.and (A.cmp .leq 0 p.b3) (A.cmp .lss p.b3 p.b1)) (
  .more (.c2 ⟨p.b3, p.b66, (A.len p.b66), p.b0, p.b1, p.b2, p.b3, p.b95, p.b96, p.b97, p.b98, (A.nth (.int .i64) [p.b64, p.b65] (A.bin .add .i64 p.b0 p.b3) : Int), p.b67, p.b68, p.b69, p.b70, p.b71, p.b72, p.b73, p.b74, p.b75, p.b76, p.b77, p.b78, p.b79, p.b4, p.b5, p.b6, p.b7, p.b8, p.b9, p.b10, p.b11, p.b12, p.b13, p.b14, p.b15, p.b16, p.b17, p.b18, p.b19, p.b20, p.b21, p.b22, p.b23, p.b24, p.b25, p.b26, p.b27, p.b28, p.b29, p.b30, p.b31, p.b32, p.b33, p.b34, p.b35, p.b36, p.b37, p.b38, p.b39, p.b40, p.b41, p.b42, p.b43, p.b44, p.b45, p.b46, p.b47, p.b48, p.b49, p.b50, p.b51, p.b52, p.b53, p.b54, p.b55, p.b56, p.b57, p.b58, p.b59, p.b60, p.b61, p.b62, p.b63, p.b64, p.b65, p.b66, p.b80, p.b81, p.b82, p.b83, p.b84, p.b85, p.b86, p.b87, p.b88, p.b89, p.b90, p.b91, p.b92, p.b93, p.b94⟩ 0)))
  (.more (.c0 ⟨p.b66, (A.len p.b66), p.b67, p.b68, p.b69, p.b70, p.b71, p.b72, p.b73, p.b74, p.b75, p.b76, p.b77, p.b78, p.b79⟩ 0))
 | .c2 p c3 =>
  .br (A.cmp .lss c3 p.c2)
  (.need (A.and (A.cmp .leq 0 c3) (A.cmp .lss c3 (A.len p.c1))) (
  .br (A.cmp .neq (A.nth (.struct [(.int .i64), (.int .i64), (.struct [(.int .i64), (.slice (.int .u8))])]) p.c1 c3 : Int × Int × (Int × List Int)).1 2)
  (.more (.c2 p (A.bin .add .i64 c3 1)))
  (.need (A.call (@tt ((Int × List Int) × (Int × Int × Int × Int × Int))) ((A.nth (.struct [(.int .i64), (.int .i64), (.struct [(.int .i64), (.slice (.int .u8))])]) p.c1 c3 : Int × Int × (Int × List Int)).2.2, p.c8, p.c9, p.c10, p.c11, p.c12)) (
  .br (A.call fn53 ((A.nth (.struct [(.int .i64), (.int .i64), (.struct [(.int .i64), (.slice (.int .u8))])]) p.c1 c3 : Int × Int × (Int × List Int)).2.2, p.c8, p.c9, p.c10, p.c11, p.c12)).2
  (.ret ((3, p.c0, c3, (A.call fn53 ((A.nth (.struct [(.int .i64), (.int .i64), (.struct [(.int .i64), (.slice (.int .u8))])]) p.c1 c3 : Int × Int × (Int × List Int)).2.2, p.c8, p.c9, p.c10, p.c11, p.c12)).1, (A.nth (.struct [(.int .i64), (.int .i64), (.struct [(.int .i64), (.slice (.int .u8))])]) p.c1 c3 : Int × Int × (Int × List Int)).2.1), 0))
  (.more (.c2 p (A.bin .add .i64 c3 1)))))))
  (.more (.c1 ⟨p.c4, p.c5, p.c6, (A.bin .add .i64 p.c7 1), p.c26, p.c27, p.c28, p.c29, p.c30, p.c31, p.c32, p.c33, p.c34, p.c35, p.c36, p.c37, p.c38, p.c39, p.c40, p.c41, p.c42, p.c43, p.c44, p.c45, p.c46, p.c47, p.c48, p.c49, p.c50, p.c51, p.c52, p.c53, p.c54, p.c55, p.c56, p.c57, p.c58, p.c59, p.c60, p.c61, p.c62, p.c63, p.c64, p.c65, p.c66, p.c67, p.c68, p.c69, p.c70, p.c71, p.c72, p.c73, p.c74, p.c75, p.c76, p.c77, p.c78, p.c79, p.c80, p.c81, p.c82, p.c83, p.c84, p.c85, p.c86, p.c87, p.c88, p.c13, p.c14, p.c15, p.c16, p.c17, p.c18, p.c19, p.c20, p.c21, p.c22, p.c23, p.c24, p.c25, p.c89, p.c90, p.c91, p.c92, p.c93, p.c94, p.c95, p.c96, p.c97, p.c98, p.c99, p.c100, p.c101, p.c102, p.c103, p.c8, p.c9, p.c10, p.c11, p.c12⟩))
noncomputable def E43 (A : Alg) : Info (Ty.Ts [(.struct [(.int .i64), (.int .i64), (.int .i64), (.struct [(.int .i64), (.int .i64), (.struct [(.int .i64), (.int .i64), (.int .i64), (.int .i64), (.int .i64)]), (.int .i64), (.slice (.int .u8))]), (.int .i64)]), (.int .i64)]) := { ti := tys, fns := [(30, Try.f30), (43, Try.f43), (76, Try.f76), (88, Try.f88), (89, Try.f89), (130, Try.f130)], sps := [(34, sp34), (53, sp53), (77, sp77), (78, sp78), (87, sp87)], stops := [⟨43, 10, [[4, 8, 9, 10, 56, 57, 58], [0, 24, 25, 26], [7, 8, 9]]⟩, ⟨76, 3, [[0, 24, 25, 26], [7, 8, 9]]⟩, ⟨130, 2, [[0, 1, 7, 8], [], [8, 9]]⟩], cuts := [], consts := [], fin := finD A [(.struct [(.int .i64), (.int .i64), (.int .i64), (.struct [(.int .i64), (.int .i64), (.struct [(.int .i64), (.int .i64), (.int .i64), (.int .i64), (.int .i64)]), (.int .i64), (.slice (.int .u8))]), (.int .i64)]), (.int .i64)] }
theorem t43_ok (A : Alg) (cTime : Int) (cPos : Int) (cMode : Int) (cNext : Int) (cMember : Int) (vId : Int) (vN : Int) (vSet : Int) (vAcc : Int) (vFail : Int) (vStage : Int) (vFirst : Int) (sender : Int) (seen : List (Int × Int × (Int × List Int))) : run A (E43 A) 122 (startC 43 Try.f43 (dvals A [(.struct [(.int .i64), (.int .i64), (.int .i64), (.int .i64), (.int .i64)]), (.struct [(.int .i64), (.int .i64), (.int .i64), (.int .i64), (.int .i64), (.int .i64), (.int .i64)]), (.int .i64), (.slice (.struct [(.int .i64), (.int .i64), (.struct [(.int .i64), (.slice (.int .u8))])]))] ((cTime, cPos, cMode, cNext, cMember), (vId, vN, vSet, vAcc, vFail, vStage, vFirst), sender, seen))) = (t43 A cTime cPos cMode cNext cMember vId vN vSet vAcc vFail vStage vFirst sender seen).tr cfg43 := by kernel_rfl
theorem s43_ok (A : Alg) : ∀ y, ∃ n, run A (E43 A) n (advance (E43 A).sps (cfg43 y)) = (s43 A y).tr cfg43
  | .c0 p a2 => ⟨62, by kernel_rfl⟩
  | .c1 p => ⟨52, by kernel_rfl⟩
  | .c2 p c3 => ⟨68, by kernel_rfl⟩
def w43 : Walk Try.prog 43 [(.struct [(.int .i64), (.int .i64), (.int .i64), (.int .i64), (.int .i64)]), (.struct [(.int .i64), (.int .i64), (.int .i64), (.int .i64), (.int .i64), (.int .i64), (.int .i64)]), (.int .i64), (.slice (.struct [(.int .i64), (.int .i64), (.struct [(.int .i64), (.slice (.int .u8))])]))] [(.struct [(.int .i64), (.int .i64), (.int .i64), (.struct [(.int .i64), (.int .i64), (.struct [(.int .i64), (.int .i64), (.int .i64), (.int .i64), (.int .i64)]), (.int .i64), (.slice (.int .u8))]), (.int .i64)]), (.int .i64)] Y43 := ⟨fun ((cTime, cPos, cMode, cNext, cMember), (vId, vN, vSet, vAcc, vFail, vStage, vFirst), sender, seen) => t43 std cTime cPos cMode cNext cMember vId vN vSet vAcc vFail vStage vFirst sender seen, s43 std⟩
theorem w43_ok : w43.Ok :=
  walk_ok (E := E43 std) ⟨tys_fit, fns_cons Try.func30 (by kernel_rfl) (fns_cons Try.func43 (by kernel_rfl) (fns_cons Try.func76 (by kernel_rfl) (fns_cons Try.func88 (by kernel_rfl) (fns_cons Try.func89 (by kernel_rfl) (fns_cons Try.func130 (by kernel_rfl) (fns_nil)))))), sps_cons so34 (sps_cons so53 (sps_cons so77 (sps_cons so78 (sps_cons so87 (sps_nil))))), by kernel_rfl⟩ rfl rfl rfl (by kernel_rfl) w43 cfg43 122 (fun ((cTime, cPos, cMode, cNext, cMember), (vId, vN, vSet, vAcc, vFail, vStage, vFirst), sender, seen) => t43_ok std cTime cPos cMode cNext cMember vId vN vSet vAcc vFail vStage vFirst sender seen) (s43_ok std)

/-- What is made of one view: the first channel with a frame that is good for it. -/
def slotIn (c : Int × Int × Int × Int × Int) (w : Int) : Nat → List (Int × Int × (Int × List Int)) → Option (Int × Int × Int × (Int × Int × (Int × Int × Int × Int × Int) × Int × List Int) × Int)
  | _, [] => none
  | k, s :: l => bif s.1 == 2 && (goodS (s.2.2, c)).2 then some (3, w, (k : Int), (goodS (s.2.2, c)).1, s.2.1) else slotIn c w (k + 1) l
/-- What is made of all views, one behind the other. -/
def slotOut (t p m n : Int) (seen : List (Int × Int × (Int × List Int))) : Nat → List Int → Option (Int × Int × Int × (Int × Int × (Int × Int × Int × Int × Int) × Int × List Int) × Int)
  | _, [] => none
  | i, v :: l => match slotIn (t, p, m, n, v) (i : Int) 0 seen with
    | some o => some o
    | none => slotOut t p m n seen (i + 1) l
def zeroO : Int × Int × Int × (Int × Int × (Int × Int × Int × Int × Int) × Int × List Int) × Int := (0, 0, 0, zeroF, 0)
def slotEnd (seen : List (Int × Int × (Int × List Int))) : Int × Int × Int × (Int × Int × (Int × Int × Int × Int × Int) × Int × List Int) × Int := bif seen.any fun s => s.1 != 0 then (2, 0, 0, zeroF, 0) else (1, 0, 0, zeroF, 0)
def slotR (t p m n : Int) (seen : List (Int × Int × (Int × List Int))) (i : Nat) (vs : List Int) : (Int × Int × Int × (Int × Int × (Int × Int × Int × Int × Int) × Int × List Int) × Int) × Int :=
  match slotOut t p m n seen i vs with
  | some o => (o, 0)
  | none => (slotEnd seen, 0)
def vws (x : (Int × Int × Int × Int × Int × Int × Int) × Int) : List Int := (fn78 x).1.take (fn78 x).2.toNat
def slotS : (Int × Int × Int × Int × Int) × (Int × Int × Int × Int × Int × Int × Int) × Int × List (Int × Int × (Int × List Int)) → (Int × Int × Int × (Int × Int × (Int × Int × Int × Int × Int) × Int × List Int) × Int) × Int := fun ((t, p, m, n, s), v, sender, seen) =>
  bif fn34 v != 0 || chkS ((t, p, m, n, s), v.2.1) != 0 then (zeroO, 170)
  else bif decide (sender < 0) || decide (v.2.1 ≤ sender) || sender == v.1 || seen.length != 2 then (zeroO, 2)
  else slotR t p m n seen 0 (vws (v, sender))
theorem fn78_two {x : (Int × Int × Int × Int × Int × Int × Int) × Int} : (fn78 x).1.length = 2 := by
  obtain ⟨⟨a, b, c, d, e, f, g⟩, s⟩ := x
  exact LT.val_all (p := fun y : List Int × Int => y.1.length = 2) rfl (by simp [t78, LT.all])
theorem nth_seen {l : List (Int × Int × (Int × List Int))} {i : Nat} (h : i < l.length) : (std.nth (.struct [(.int .i64), (.int .i64), (.struct [(.int .i64), (.slice (.int .u8))])]) l (i : Int) : Int × Int × (Int × List Int)) = l[i] := getD_in h _
theorem slot_c0 {seen : List (Int × Int × (Int × List Int))} (hl : seen.length ≤ 140737488355328) : ∀ (j i : Nat) (p : P43c0), p.a0 = seen → p.a1 = (seen.length : Int) → seen.length - i = j → i ≤ seen.length → (seen.take i).any (fun s => s.1 != 0) = false → Runs (s43 std) (.more (.c0 p (i : Int))) (slotEnd seen, 0) := by
  intro j
  induction j with
  | zero =>
    intro i p h0 h1 hj hi ha
    have : i = seen.length := by omega
    subst this
    rw [List.take_length] at ha
    rw [runs_more, s43]
    refine (runs_brF (by rw [h1, lss_nat]; simp)).2 ?_
    rw [slotEnd, ha]
    exact .ret _
  | succ j ih =>
    intro i p h0 h1 hj hi ha
    have hi' : i < seen.length := by omega
    rw [runs_more, s43]
    refine (runs_brT (by rw [h1, lss_nat]; simp; omega)).2 (runs_need.2 ⟨by rw [h0]; exact need_ix hi', ?_⟩)
    have hn : (std.nth (.struct [(.int .i64), (.int .i64), (.struct [(.int .i64), (.slice (.int .u8))])]) p.a0 (i : Int) : Int × Int × (Int × List Int)).1 = seen[i].1 := congrArg (fun z => z.1) ((congrArg (fun z => (std.nth (.struct [(.int .i64), (.int .i64), (.struct [(.int .i64), (.slice (.int .u8))])]) z (i : Int) : Int × Int × (Int × List Int))) h0).trans (nth_seen hi'))
    have htk := List.take_succ_eq_append_getElem hi'
    by_cases hk : seen[i].1 = 0
    · refine (runs_brF (cne_f (hn.trans hk))).2 ?_
      refine runs_c (congrArg LT.more (congrArg (Y43.c0 p) (inc1 (by omega)))) (ih (i + 1) p h0 h1 (by omega) (by omega) ?_)
      rw [htk, List.any_append, ha]
      simp [hk]
    · refine (runs_brT (cne_t (fun h => hk (hn.symm.trans h)))).2 ((runs_brT (by rw [std_cmp_geq]; simp)).2 ?_)
      have : seen.any (fun s => s.1 != 0) = true := List.any_eq_true.2 ⟨seen[i], List.getElem_mem hi', by simpa using hk⟩
      rw [slotEnd, this]
      exact .ret _
def I1 (p : P43c1) (seen : List (Int × Int × (Int × List Int))) (vs : List Int) (cnt i t po m n : Int) : Prop := p.b0 = 0 ∧ p.b1 = cnt ∧ p.b2 = cnt ∧ p.b3 = i ∧ p.b66 = seen ∧ [p.b64, p.b65] = vs ∧ p.b95 = t ∧ p.b96 = po ∧ p.b97 = m ∧ p.b98 = n
def I2 (p : P43c2) (seen : List (Int × Int × (Int × List Int))) (vs : List Int) (cnt i t po m n v : Int) : Prop := p.c0 = i ∧ p.c1 = seen ∧ p.c2 = (seen.length : Int) ∧ p.c4 = 0 ∧ p.c5 = cnt ∧ p.c6 = cnt ∧ p.c7 = i ∧ p.c88 = seen ∧ [p.c86, p.c87] = vs ∧ p.c8 = t ∧ p.c9 = po ∧ p.c10 = m ∧ p.c11 = n ∧ p.c12 = v
theorem slot_c2 {seen : List (Int × Int × (Int × List Int))} {vs : List Int} {cnt t po m n v : Int} {i : Nat} (hi : i < 4) (hl : seen.length ≤ 140737488355328) {R : (Int × Int × Int × (Int × Int × (Int × Int × Int × Int × Int) × Int × List Int) × Int) × Int} (hnext : ∀ p' : P43c1, I1 p' seen vs cnt ((i + 1 : Nat) : Int) t po m n → Runs (s43 std) (.more (.c1 p')) R) :
    ∀ (j k : Nat) (p : P43c2), I2 p seen vs cnt (i : Int) t po m n v → seen.length - k = j → k ≤ seen.length → Runs (s43 std) (.more (.c2 p (k : Int))) (match slotIn (t, po, m, n, v) (i : Int) k (seen.drop k) with | some o => (o, 0) | none => R) := by
  intro j
  induction j with
  | zero =>
    intro k p hI hj hk
    have : k = seen.length := by omega
    subst this
    obtain ⟨h0, h1, h2, h4, h5, h6, h7, h88, hv, h8, h9, h10, h11, h12⟩ := hI
    rw [runs_more, s43]
    refine (runs_brF (by rw [h2, lss_nat]; simp)).2 ?_
    rw [List.drop_length]
    exact hnext _ ⟨h4, h5, h6, by show std.bin .add .i64 p.c7 1 = _; rw [h7, inc1 (by omega)], h88, hv, h8, h9, h10, h11⟩
  | succ j ih =>
    intro k p hI hj hk
    have hk' : k < seen.length := by omega
    have hm := ih (k + 1) p hI (by omega) (by omega)
    obtain ⟨h0, h1, h2, h4, h5, h6, h7, h88, hv, h8, h9, h10, h11, h12⟩ := hI
    rw [runs_more, s43]
    have hn : (std.nth (.struct [(.int .i64), (.int .i64), (.struct [(.int .i64), (.slice (.int .u8))])]) p.c1 (k : Int) : Int × Int × (Int × List Int)) = seen[k] := (congrArg (fun z => (std.nth (.struct [(.int .i64), (.int .i64), (.struct [(.int .i64), (.slice (.int .u8))])]) z (k : Int) : Int × Int × (Int × List Int))) h1).trans (nth_seen hk')
    have hd : seen.drop k = seen[k] :: seen.drop (k + 1) := List.drop_eq_getElem_cons hk'
    have hg : std.call fn53 ((std.nth (.struct [(.int .i64), (.int .i64), (.struct [(.int .i64), (.slice (.int .u8))])]) p.c1 (k : Int) : Int × Int × (Int × List Int)).2.2, p.c8, p.c9, p.c10, p.c11, p.c12) = goodS (seen[k].2.2, (t, po, m, n, v)) := by
      refine (congrArg (fun z : Int × Int × (Int × List Int) => fn53 (z.2.2, p.c8, p.c9, p.c10, p.c11, p.c12)) hn).trans ?_
      rw [h8, h9, h10, h11, h12]
      exact fn53_eq
    refine (runs_brT (by rw [h2, lss_nat]; simp; omega)).2 (runs_need.2 ⟨by rw [h1]; exact need_ix hk', ?_⟩)
    rw [hd, slotIn]
    by_cases hkd : seen[k].1 = 2
    · refine (runs_brF (cne_f ((congrArg (fun z => z.1) hn).trans hkd))).2 (runs_need.2 ⟨rfl, ?_⟩)
      rw [show (seen[k].1 == 2) = true from by simpa using hkd, Bool.true_and]
      cases hgd : (goodS (seen[k].2.2, (t, po, m, n, v))).2
      · refine (runs_brF ((congrArg (fun z => z.2) hg).trans hgd)).2 ?_
        exact runs_c (congrArg LT.more (congrArg (Y43.c2 p) (inc1 (by omega)))) hm
      · refine (runs_brT ((congrArg (fun z => z.2) hg).trans hgd)).2 ?_
        have e := congr (congr (congrArg (fun (x : Int) (y : Int × Int × (Int × Int × Int × Int × Int) × Int × List Int) (z : Int) => (LT.ret (((3 : Int), x, (k : Int), y, z), (0 : Int)) : LT ((Int × Int × Int × (Int × Int × (Int × Int × Int × Int × Int) × Int × List Int) × Int) × Int) Y43)) h0) (congrArg (fun z => z.1) hg)) (congrArg (fun z => z.2.1) hn)
        exact runs_c e (.ret _)
    · refine (runs_brT (cne_t (fun h => hkd ((congrArg (fun z => z.1) hn).symm.trans h)))).2 ?_
      rw [show (seen[k].1 == 2) = false from by simpa using hkd, Bool.false_and]
      exact runs_c (congrArg LT.more (congrArg (Y43.c2 p) (inc1 (by omega)))) hm
theorem slot_c1 {seen : List (Int × Int × (Int × List Int))} {vs : List Int} {cnt : Nat} {t po m n : Int} (hl : seen.length ≤ 140737488355328) (hv2 : vs.length = 2) (hc : cnt ≤ 2) : ∀ (j i : Nat) (p : P43c1), I1 p seen vs (cnt : Int) (i : Int) t po m n → cnt - i = j → i ≤ cnt → Runs (s43 std) (.more (.c1 p)) (slotR t po m n seen i ((vs.take cnt).drop i)) := by
  intro j
  induction j with
  | zero =>
    intro i p hI hj hi
    have : i = cnt := by omega
    subst this
    obtain ⟨h0, h1, h2, h3, h66, hv, h95, h96, h97, h98⟩ := hI
    rw [runs_more, s43]
    refine (runs_brF (by rw [h2, h3, lss_nat]; simp)).2 ?_
    rw [List.drop_of_length_le (by rw [List.length_take]; omega)]
    exact slot_c0 hl seen.length 0 _ h66 (by show std.len p.b66 = _; rw [h66]; rfl) rfl (by omega) rfl
  | succ j ih =>
    intro i p hI hj hi
    obtain ⟨h0, h1, h2, h3, h66, hv, h95, h96, h97, h98⟩ := hI
    have hiv : i < (vs.take cnt).length := by rw [List.length_take]; omega
    rw [runs_more, s43]
    refine (runs_brT (by rw [h2, h3, lss_nat]; simp; omega)).2 (runs_need.2 ⟨by rw [h1, h3, leq_0, lss_nat, std_and]; simp; omega, ?_⟩)
    have hnv : (std.nth (.int .i64) [p.b64, p.b65] (std.bin .add .i64 p.b0 p.b3) : Int) = (vs.take cnt)[i] := by
      have e : std.bin .add .i64 p.b0 p.b3 = (i : Int) := by rw [h0, h3, std_add, w64 (by omega) (by omega)]; omega
      refine ((congrArg (fun z => (std.nth (.int .i64) [p.b64, p.b65] z : Int)) e).trans ((congrArg (fun z => (std.nth (.int .i64) z (i : Int) : Int)) hv).trans (getD_in (l := vs) (by omega) _))).trans ?_
      rw [List.getElem_take]
    have hm := slot_c2 (seen := seen) (vs := vs) (cnt := (cnt : Int)) (t := t) (po := po) (m := m) (n := n) (v := (vs.take cnt)[i]) (i := i) (by omega) hl (R := slotR t po m n seen (i + 1) ((vs.take cnt).drop (i + 1))) (fun p' hp' => ih (i + 1) p' hp' (by omega) (by omega)) seen.length 0
    refine runs_r ?_ (hm _ ⟨h3, h66, ?_, h0, h1, h2, h3, h66, hv, h95, h96, h97, h98, hnv⟩ rfl (by omega))
    rotate_left
    · show std.len p.b66 = _; rw [h66]; rfl
    rw [slotR, slotR, List.drop_eq_getElem_cons hiv, slotOut, List.drop_zero]
    cases slotIn (t, po, m, n, (vs.take cnt)[i]) (i : Int) 0 seen <;> rfl
theorem has_slot {t po m n s a b c d e f g sender : Int} {seen : List (Int × Int × (Int × List Int))} (h : Ty.hass [(.struct [(.int .i64), (.int .i64), (.int .i64), (.int .i64), (.int .i64)]), (.struct [(.int .i64), (.int .i64), (.int .i64), (.int .i64), (.int .i64), (.int .i64), (.int .i64)]), (.int .i64), (.slice (.struct [(.int .i64), (.int .i64), (.struct [(.int .i64), (.slice (.int .u8))])]))] ((t, po, m, n, s), (a, b, c, d, e, f, g), sender, seen)) : seen.length ≤ 140737488355328 := h.2.2.2.1
theorem slot2 {t po m n s a b c d e f g sender : Int} {seen : List (Int × Int × (Int × List Int))} (h : Ty.hass [(.struct [(.int .i64), (.int .i64), (.int .i64), (.int .i64), (.int .i64)]), (.struct [(.int .i64), (.int .i64), (.int .i64), (.int .i64), (.int .i64), (.int .i64), (.int .i64)]), (.int .i64), (.slice (.struct [(.int .i64), (.int .i64), (.struct [(.int .i64), (.slice (.int .u8))])]))] ((t, po, m, n, s), (a, b, c, d, e, f, g), sender, seen)) :
    Runs (s43 std) (t43 std t po m n s a b c d e f g sender seen) (slotS ((t, po, m, n, s), (a, b, c, d, e, f, g), sender, seen)) := by
  have hl := has_slot h
  unfold t43
  rw [slotS]
  refine runs_need.2 ⟨rfl, ?_⟩
  by_cases h1 : (fn34 (a, b, c, d, e, f, g) != 0) = true
  · rw [h1]
    exact (runs_brT h1).2 (.ret _)
  rw [Bool.not_eq_true] at h1
  rw [h1]
  refine (runs_brF h1).2 (runs_need.2 ⟨rfl, ?_⟩)
  rw [Bool.false_or]
  by_cases h2 : (chkS ((t, po, m, n, s), b) != 0) = true
  · rw [h2]
    exact (runs_brT h2).2 (.ret _)
  rw [Bool.not_eq_true] at h2
  rw [h2]
  refine (runs_brF h2).2 ?_
  rw [cond_false]
  have hz : fn34 (a, b, c, d, e, f, g) = 0 := by simpa using h1
  have hok := fn34_zero.1 hz
  unfold okM at hok
  by_cases h3 : sender < 0
  · refine (runs_brT (by rw [std_cmp_lss]; simpa using h3)).2 ?_
    rw [show decide (sender < 0) = true from by simpa using h3]
    exact .ret _
  refine (runs_brF (by rw [std_cmp_lss]; simpa using h3)).2 ?_
  by_cases h4 : b ≤ sender
  · refine (runs_brT (by rw [std_cmp_geq]; simpa using h4)).2 ?_
    rw [show decide (b ≤ sender) = true from by simpa using h4, Bool.or_true]
    exact .ret _
  refine (runs_brF (by rw [std_cmp_geq]; simpa using h4)).2 ?_
  by_cases h5 : sender = a
  · refine (runs_brT (ceq_t h5)).2 ?_
    rw [show (sender == a) = true from by simpa using h5, Bool.or_true]
    exact .ret _
  refine (runs_brF (ceq_f h5)).2 ?_
  by_cases h6 : ¬ seen.length = 2
  · refine (runs_brT (cne_t (show (seen.length : Int) ≠ 2 by omega))).2 ?_
    rw [show (seen.length != 2) = true from by simpa using h6, Bool.or_true]
    exact .ret _
  rw [Decidable.not_not] at h6
  refine (runs_brF (cne_f (show (seen.length : Int) = 2 by omega))).2 (runs_need.2 ⟨rfl, (runs_brF h1).2 (runs_need.2 ⟨rfl, ?_⟩)⟩)
  rw [show decide (sender < 0) = false from by simpa using h3, show decide (b ≤ sender) = false from by simpa using h4, show (sender == a) = false from by simpa using h5, show (seen.length != 2) = false from by simpa using h6]
  have h77 : fn77 ((a, b, c, d, e, f, g), sender) = true := (fn77_iff (by omega) (by omega)).2 ⟨by omega, by omega, by omega⟩
  have hq := fn78_len (x := ((a, b, c, d, e, f, g), sender))
  have hq2 := fn78_two (x := ((a, b, c, d, e, f, g), sender))
  refine (runs_brF (show std.not (std.call fn77 ((a, b, c, d, e, f, g), sender)) = false by rw [std_not, std_call, h77]; rfl)).2 (runs_need.2 ⟨by rw [std_call]; simp [pre78]; omega, runs_need.2 ⟨?_, ?_⟩⟩)
  · rw [std_call, std_and, std_and, std_cmp_leq, std_cmp_leq, std_cmp_leq]; simp; omega
  · obtain ⟨cnt, hcnt⟩ := Int.eq_ofNat_of_zero_le hq.1
    show Runs (s43 std) _ (slotR t po m n seen 0 (vws ((a, b, c, d, e, f, g), sender)))
    rw [vws, hcnt, Int.toNat_natCast]
    have hs : std.bin .sub .i64 (std.call fn78 ((a, b, c, d, e, f, g), sender)).2 0 = (cnt : Int) := by
      rw [std_call, hcnt, std_sub, w64 (by omega) (by omega)]; omega
    refine slot_c1 (vs := (fn78 ((a, b, c, d, e, f, g), sender)).1) hl hq2 (by omega) cnt 0 _ ⟨rfl, hs, hs, rfl, rfl, ?_, rfl, rfl, rfl, rfl⟩ (by omega) (by omega)
    show [(fn78 ((a, b, c, d, e, f, g), sender)).1.getD 0 0, (fn78 ((a, b, c, d, e, f, g), sender)).1.getD 1 0] = _
    match (fn78 ((a, b, c, d, e, f, g), sender)).1, hq2 with
    | [_, _], _ => rfl

def fn43 : ((Int × Int × Int × Int × Int) × (Int × Int × Int × Int × Int × Int × Int) × Int × List (Int × Int × (Int × List Int))) → ((Int × Int × Int × (Int × Int × (Int × Int × Int × Int × Int) × Int × List Int) × Int) × Int) := slotS
def sp43 : FSpec := ⟨[(.struct [(.int .i64), (.int .i64), (.int .i64), (.int .i64), (.int .i64)]), (.struct [(.int .i64), (.int .i64), (.int .i64), (.int .i64), (.int .i64), (.int .i64), (.int .i64)]), (.int .i64), (.slice (.struct [(.int .i64), (.int .i64), (.struct [(.int .i64), (.slice (.int .u8))])]))], [(.struct [(.int .i64), (.int .i64), (.int .i64), (.struct [(.int .i64), (.int .i64), (.struct [(.int .i64), (.int .i64), (.int .i64), (.int .i64), (.int .i64)]), (.int .i64), (.slice (.int .u8))]), (.int .i64)]), (.int .i64)], (@tt ((Int × Int × Int × Int × Int) × (Int × Int × Int × Int × Int × Int × Int) × Int × List (Int × Int × (Int × List Int)))), fn43⟩
theorem run43 {cTime : Int} {cPos : Int} {cMode : Int} {cNext : Int} {cMember : Int} {vId : Int} {vN : Int} {vSet : Int} {vAcc : Int} {vFail : Int} {vStage : Int} {vFirst : Int} {sender : Int} {seen : List (Int × Int × (Int × List Int))} (h : Ty.hass [(.struct [(.int .i64), (.int .i64), (.int .i64), (.int .i64), (.int .i64)]), (.struct [(.int .i64), (.int .i64), (.int .i64), (.int .i64), (.int .i64), (.int .i64), (.int .i64)]), (.int .i64), (.slice (.struct [(.int .i64), (.int .i64), (.struct [(.int .i64), (.slice (.int .u8))])]))] ((cTime, cPos, cMode, cNext, cMember), (vId, vN, vSet, vAcc, vFail, vStage, vFirst), sender, seen)) : Runs (s43 std) (t43 std cTime cPos cMode cNext cMember vId vN vSet vAcc vFail vStage vFirst sender seen) (fn43 ((cTime, cPos, cMode, cNext, cMember), (vId, vN, vSet, vAcc, vFail, vStage, vFirst), sender, seen)) := by
  exact slot2 h
theorem so43 : FSpec.Sound Try.prog 43 sp43 :=
  w43_ok.sound _ _ fun ((cTime, cPos, cMode, cNext, cMember), (vId, vN, vSet, vAcc, vFail, vStage, vFirst), sender, seen) _ h => run43 h
open Go.Ev.Pl
/-! ### metronome/judge.Apply (function 61) -/
def t61 (A : Alg) (vId : Int) (vN : Int) (vSet : Int) (vAcc : Int) (vFail : Int) (vStage : Int) (vFirst : Int) (sender : Int) (oKind : Int) (oWhich : Int) (oChan : Int) (oFKind : Int) (oFReq : Int) (oFCTime : Int) (oFCPos : Int) (oFCMode : Int) (oFCNext : Int) (oFCMember : Int) (oFFrom : Int) (oFData : List Int) (oAt : Int) : LT ((Int × Int × Int × Int × Int × Int × Int) × Int) Empty :=
  .br (A.cmp .eql oKind 1)
  (.need (A.call (@tt ((Int × Int × Int × Int × Int × Int × Int) × Int)) ((vId, vN, vSet, vAcc, vFail, vStage, vFirst), sender)) (
  .ret (A.call fn38 ((vId, vN, vSet, vAcc, vFail, vStage, vFirst), sender))))
  (.br (A.cmp .eql oKind 2)
  (.need (A.call (@tt ((Int × Int × Int × Int × Int × Int × Int) × Int)) ((vId, vN, vSet, vAcc, vFail, vStage, vFirst), sender)) (
  .ret (A.call fn39 ((vId, vN, vSet, vAcc, vFail, vStage, vFirst), sender))))
  (.br (A.cmp .eql oKind 3)
  (.need (A.call (@tt ((Int × Int × Int × Int × Int × Int × Int) × Int × Int)) ((vId, vN, vSet, vAcc, vFail, vStage, vFirst), sender, oWhich)) (
  .ret (A.call fn25 ((vId, vN, vSet, vAcc, vFail, vStage, vFirst), sender, oWhich))))
  (.ret ((0, 0, 0, 0, 0, 0, 0), 2))))
noncomputable def E61 (A : Alg) : Info (Ty.Ts [(.struct [(.int .i64), (.int .i64), (.int .i64), (.int .i64), (.int .i64), (.int .i64), (.int .i64)]), (.int .i64)]) := { ti := tys, fns := [(61, Try.f61)], sps := [(25, sp25), (38, sp38), (39, sp39)], stops := [], cuts := [], consts := [], fin := finD A [(.struct [(.int .i64), (.int .i64), (.int .i64), (.int .i64), (.int .i64), (.int .i64), (.int .i64)]), (.int .i64)] }
theorem t61_ok (A : Alg) (vId : Int) (vN : Int) (vSet : Int) (vAcc : Int) (vFail : Int) (vStage : Int) (vFirst : Int) (sender : Int) (oKind : Int) (oWhich : Int) (oChan : Int) (oFKind : Int) (oFReq : Int) (oFCTime : Int) (oFCPos : Int) (oFCMode : Int) (oFCNext : Int) (oFCMember : Int) (oFFrom : Int) (oFData : List Int) (oAt : Int) : run A (E61 A) 50 (startC 61 Try.f61 (dvals A [(.struct [(.int .i64), (.int .i64), (.int .i64), (.int .i64), (.int .i64), (.int .i64), (.int .i64)]), (.int .i64), (.struct [(.int .i64), (.int .i64), (.int .i64), (.struct [(.int .i64), (.int .i64), (.struct [(.int .i64), (.int .i64), (.int .i64), (.int .i64), (.int .i64)]), (.int .i64), (.slice (.int .u8))]), (.int .i64)])] ((vId, vN, vSet, vAcc, vFail, vStage, vFirst), sender, oKind, oWhich, oChan, (oFKind, oFReq, (oFCTime, oFCPos, oFCMode, oFCNext, oFCMember), oFFrom, oFData), oAt))) = (t61 A vId vN vSet vAcc vFail vStage vFirst sender oKind oWhich oChan oFKind oFReq oFCTime oFCPos oFCMode oFCNext oFCMember oFFrom oFData oAt).tr Empty.elim := by kernel_rfl
def w61 : Walk Try.prog 61 [(.struct [(.int .i64), (.int .i64), (.int .i64), (.int .i64), (.int .i64), (.int .i64), (.int .i64)]), (.int .i64), (.struct [(.int .i64), (.int .i64), (.int .i64), (.struct [(.int .i64), (.int .i64), (.struct [(.int .i64), (.int .i64), (.int .i64), (.int .i64), (.int .i64)]), (.int .i64), (.slice (.int .u8))]), (.int .i64)])] [(.struct [(.int .i64), (.int .i64), (.int .i64), (.int .i64), (.int .i64), (.int .i64), (.int .i64)]), (.int .i64)] Empty := ⟨fun ((vId, vN, vSet, vAcc, vFail, vStage, vFirst), sender, oKind, oWhich, oChan, (oFKind, oFReq, (oFCTime, oFCPos, oFCMode, oFCNext, oFCMember), oFFrom, oFData), oAt) => t61 std vId vN vSet vAcc vFail vStage vFirst sender oKind oWhich oChan oFKind oFReq oFCTime oFCPos oFCMode oFCNext oFCMember oFFrom oFData oAt, Empty.elim⟩
theorem w61_ok : w61.Ok :=
  walk_ok (E := E61 std) ⟨tys_fit, fns_cons Try.func61 (by kernel_rfl) (fns_nil), sps_cons so25 (sps_cons so38 (sps_cons so39 (sps_nil))), by kernel_rfl⟩ rfl rfl rfl (by kernel_rfl) w61 Empty.elim 50 (fun ((vId, vN, vSet, vAcc, vFail, vStage, vFirst), sender, oKind, oWhich, oChan, (oFKind, oFReq, (oFCTime, oFCPos, oFCMode, oFCNext, oFCMember), oFFrom, oFData), oAt) => t61_ok std vId vN vSet vAcc vFail vStage vFirst sender oKind oWhich oChan oFKind oFReq oFCTime oFCPos oFCMode oFCNext oFCMember oFFrom oFData oAt) (fun y => y.elim)

def fn61 : ((Int × Int × Int × Int × Int × Int × Int) × Int × (Int × Int × Int × (Int × Int × (Int × Int × Int × Int × Int) × Int × List Int) × Int)) → ((Int × Int × Int × Int × Int × Int × Int) × Int) := fun ((vId, vN, vSet, vAcc, vFail, vStage, vFirst), sender, oKind, oWhich, oChan, (oFKind, oFReq, (oFCTime, oFCPos, oFCMode, oFCNext, oFCMember), oFFrom, oFData), oAt) => (t61 std vId vN vSet vAcc vFail vStage vFirst sender oKind oWhich oChan oFKind oFReq oFCTime oFCPos oFCMode oFCNext oFCMember oFFrom oFData oAt).val (Ty.dflts [(.struct [(.int .i64), (.int .i64), (.int .i64), (.int .i64), (.int .i64), (.int .i64), (.int .i64)]), (.int .i64)])
def sp61 : FSpec := ⟨[(.struct [(.int .i64), (.int .i64), (.int .i64), (.int .i64), (.int .i64), (.int .i64), (.int .i64)]), (.int .i64), (.struct [(.int .i64), (.int .i64), (.int .i64), (.struct [(.int .i64), (.int .i64), (.struct [(.int .i64), (.int .i64), (.int .i64), (.int .i64), (.int .i64)]), (.int .i64), (.slice (.int .u8))]), (.int .i64)])], [(.struct [(.int .i64), (.int .i64), (.int .i64), (.int .i64), (.int .i64), (.int .i64), (.int .i64)]), (.int .i64)], (@tt ((Int × Int × Int × Int × Int × Int × Int) × Int × (Int × Int × Int × (Int × Int × (Int × Int × Int × Int × Int) × Int × List Int) × Int))), fn61⟩
theorem eqs61 (vId : Int) (vN : Int) (vSet : Int) (vAcc : Int) (vFail : Int) (vStage : Int) (vFirst : Int) (sender : Int) (oKind : Int) (oWhich : Int) (oChan : Int) (oFKind : Int) (oFReq : Int) (oFCTime : Int) (oFCPos : Int) (oFCMode : Int) (oFCNext : Int) (oFCMember : Int) (oFFrom : Int) (oFData : List Int) (oAt : Int) : (t61 std vId vN vSet vAcc vFail vStage vFirst sender oKind oWhich oChan oFKind oFReq oFCTime oFCPos oFCMode oFCNext oFCMember oFFrom oFData oAt).Eqs := by simp only [t61, LT.Eqs, and_self, true_and, and_true]
theorem pre61_ok {vId : Int} {vN : Int} {vSet : Int} {vAcc : Int} {vFail : Int} {vStage : Int} {vFirst : Int} {sender : Int} {oKind : Int} {oWhich : Int} {oChan : Int} {oFKind : Int} {oFReq : Int} {oFCTime : Int} {oFCPos : Int} {oFCMode : Int} {oFCNext : Int} {oFCMember : Int} {oFFrom : Int} {oFData : List Int} {oAt : Int} (h : Ty.hass [(.struct [(.int .i64), (.int .i64), (.int .i64), (.int .i64), (.int .i64), (.int .i64), (.int .i64)]), (.int .i64), (.struct [(.int .i64), (.int .i64), (.int .i64), (.struct [(.int .i64), (.int .i64), (.struct [(.int .i64), (.int .i64), (.int .i64), (.int .i64), (.int .i64)]), (.int .i64), (.slice (.int .u8))]), (.int .i64)])] ((vId, vN, vSet, vAcc, vFail, vStage, vFirst), sender, oKind, oWhich, oChan, (oFKind, oFReq, (oFCTime, oFCPos, oFCMode, oFCNext, oFCMember), oFFrom, oFData), oAt)) : (t61 std vId vN vSet vAcc vFail vStage vFirst sender oKind oWhich oChan oFKind oFReq oFCTime oFCPos oFCMode oFCNext oFCMember oFFrom oFData oAt).pre = true := by
  simp [t61, LT.pre, std_call, tt_eq]
theorem so61 : FSpec.Sound Try.prog 61 sp61 :=
  w61_ok.sound _ _ fun ((vId, vN, vSet, vAcc, vFail, vStage, vFirst), sender, oKind, oWhich, oChan, (oFKind, oFReq, (oFCTime, oFCPos, oFCMode, oFCNext, oFCMember), oFFrom, oFData), oAt) _ h => LT.runs (d := Ty.dflts [(.struct [(.int .i64), (.int .i64), (.int .i64), (.int .i64), (.int .i64), (.int .i64), (.int .i64)]), (.int .i64)]) (eqs61 vId vN vSet vAcc vFail vStage vFirst sender oKind oWhich oChan oFKind oFReq oFCTime oFCPos oFCMode oFCNext oFCMember oFFrom oFData oAt) (pre61_ok h)
/-! ### metronome/metronomelaw17.few (function 45) -/
def t45 (A : Alg) (l : List (Int × Int × (Int × List Int))) : LT (List (Int × Int × (Int × List Int))) Empty :=
  .need (A.and (A.cmp .leq 0 0) (A.and (A.cmp .leq 0 (A.mn (A.len l) 9)) (A.cmp .leq (A.mn (A.len l) 9) (A.len l)))) (
  .ret (A.sub l 0 (A.mn (A.len l) 9)))
noncomputable def E45 (A : Alg) : Info (Ty.Ts [(.slice (.struct [(.int .i64), (.int .i64), (.struct [(.int .i64), (.slice (.int .u8))])]))]) := { ti := tys, fns := [(45, Try.f45)], sps := [], stops := [], cuts := [], consts := [], fin := finD A [(.slice (.struct [(.int .i64), (.int .i64), (.struct [(.int .i64), (.slice (.int .u8))])]))] }
theorem t45_ok (A : Alg) (l : List (Int × Int × (Int × List Int))) : run A (E45 A) 19 (startC 45 Try.f45 (dvals A [(.slice (.struct [(.int .i64), (.int .i64), (.struct [(.int .i64), (.slice (.int .u8))])]))] l)) = (t45 A l).tr Empty.elim := by kernel_rfl
def w45 : Walk Try.prog 45 [(.slice (.struct [(.int .i64), (.int .i64), (.struct [(.int .i64), (.slice (.int .u8))])]))] [(.slice (.struct [(.int .i64), (.int .i64), (.struct [(.int .i64), (.slice (.int .u8))])]))] Empty := ⟨fun l => t45 std l, Empty.elim⟩
theorem w45_ok : w45.Ok :=
  walk_ok (E := E45 std) ⟨tys_fit, fns_cons Try.func45 (by kernel_rfl) (fns_nil), sps_nil, by kernel_rfl⟩ rfl rfl rfl (by kernel_rfl) w45 Empty.elim 19 (fun l => t45_ok std l) (fun y => y.elim)

def fn45 : (List (Int × Int × (Int × List Int))) → (List (Int × Int × (Int × List Int))) := fun l => (t45 std l).val (Ty.dflts [(.slice (.struct [(.int .i64), (.int .i64), (.struct [(.int .i64), (.slice (.int .u8))])]))])
def sp45 : FSpec := ⟨[(.slice (.struct [(.int .i64), (.int .i64), (.struct [(.int .i64), (.slice (.int .u8))])]))], [(.slice (.struct [(.int .i64), (.int .i64), (.struct [(.int .i64), (.slice (.int .u8))])]))], (@tt (List (Int × Int × (Int × List Int)))), fn45⟩
theorem eqs45 (l : List (Int × Int × (Int × List Int))) : (t45 std l).Eqs := by simp only [t45, LT.Eqs, and_self, true_and, and_true]
theorem pre45_ok {l : List (Int × Int × (Int × List Int))} (h : Ty.hass [(.slice (.struct [(.int .i64), (.int .i64), (.struct [(.int .i64), (.slice (.int .u8))])]))] l) : (t45 std l).pre = true := by
  simp only [t45, LT.pre, std_and, std_cmp_leq, std_mn, Bool.and_true]
  have hz : (0 : Int) ≤ std.len l := Int.natCast_nonneg _
  by_cases h9 : (9 : Int) < std.len l
  · rw [if_pos h9]; simp; omega
  · rw [if_neg h9]; simp; omega
theorem so45 : FSpec.Sound Try.prog 45 sp45 :=
  w45_ok.sound _ _ fun l _ h => LT.runs (d := Ty.dflts [(.slice (.struct [(.int .i64), (.int .i64), (.struct [(.int .i64), (.slice (.int .u8))])]))]) (eqs45 l) (pre45_ok h)
/-! ### metronome/metronomelaw17.begun (function 41) -/
def t41 (A : Alg) : LT Bool Empty :=
  .need (A.call (@tt (Int × Int × Int)) (0, 4, 15)) (
  .need (A.call (@tt ((Int × Int × Int × Int × Int) × (Int × Int × Int × Int × Int × Int × Int) × Int × List (Int × Int × (Int × List Int)))) ((0, 1, 0, 0, 15), (A.call fn32 (0, 4, 15)).1, 1, [(0, 0, 0, ([] : List Int)), (0, 0, 0, ([] : List Int))])) (
  .need (A.call (@tt ((Int × Int × Int × Int × Int) × (Int × Int × Int × Int × Int × Int × Int) × Int × List (Int × Int × (Int × List Int)))) ((0, 1, 0, 0, 15), (A.call fn32 (0, 4, 15)).1, 1, [(0, 0, 0, ([] : List Int)), (1, 0, 0, ([] : List Int))])) (
  .br (A.cmp .eql (A.call fn32 (0, 4, 15)).2 0)
  (.br (A.cmp .eql (A.call fn43 ((0, 1, 0, 0, 15), (A.call fn32 (0, 4, 15)).1, 1, [(0, 0, 0, ([] : List Int)), (0, 0, 0, ([] : List Int))])).2 0)
  (.br (A.cmp .eql (A.call fn43 ((0, 1, 0, 0, 15), (A.call fn32 (0, 4, 15)).1, 1, [(0, 0, 0, ([] : List Int)), (0, 0, 0, ([] : List Int))])).1.1 1)
  (.br (A.cmp .eql (A.call fn43 ((0, 1, 0, 0, 15), (A.call fn32 (0, 4, 15)).1, 1, [(0, 0, 0, ([] : List Int)), (1, 0, 0, ([] : List Int))])).2 0)
  (.ret (A.cmp .eql (A.call fn43 ((0, 1, 0, 0, 15), (A.call fn32 (0, 4, 15)).1, 1, [(0, 0, 0, ([] : List Int)), (1, 0, 0, ([] : List Int))])).1.1 2))
  (.ret false))
  (.ret false))
  (.ret false))
  (.ret false))))
noncomputable def E41 (A : Alg) : Info (Ty.Ts [.bool]) := { ti := tys, fns := [(41, Try.f41)], sps := [(32, sp32), (43, sp43)], stops := [], cuts := [], consts := [], fin := finD A [.bool] }
theorem t41_ok (A : Alg) : run A (E41 A) 74 (startC 41 Try.f41 (dvals A [] ())) = (t41 A).tr Empty.elim := by kernel_rfl
def w41 : Walk Try.prog 41 [] [.bool] Empty := ⟨fun _ => t41 std, Empty.elim⟩
theorem w41_ok : w41.Ok :=
  walk_ok (E := E41 std) ⟨tys_fit, fns_cons Try.func41 (by kernel_rfl) (fns_nil), sps_cons so32 (sps_cons so43 (sps_nil)), by kernel_rfl⟩ rfl rfl rfl (by kernel_rfl) w41 Empty.elim 74 (fun _ => t41_ok std) (fun y => y.elim)

def fn41 : Unit → Bool := fun _ => (t41 std).val (Ty.dflts [.bool])
def sp41 : FSpec := ⟨[], [.bool], (@tt Unit), fn41⟩
theorem eqs41 : (t41 std).Eqs := by simp only [t41, LT.Eqs, and_self, true_and, and_true]
theorem pre41_ok (h : Ty.hass [] ()) : (t41 std).pre = true := by
  simp [t41, LT.pre, std_call, tt_eq]
theorem so41 : FSpec.Sound Try.prog 41 sp41 :=
  w41_ok.sound _ _ fun _ _ h => LT.runs (d := Ty.dflts [.bool]) (eqs41) (pre41_ok h)
theorem begun17 : fn41 () = true := by kernel_rfl

end Go.Ev.M
