/-
  PROVED: what frame.Encode and metronomeref01.Text compute. Conditions: none.
-/
import Derived.Test.YtafbddhnoacldaaFc
namespace Go.Ev.M
open Go.Proofs
set_option maxRecDepth 100000
set_option linter.unusedVariables false
set_option linter.unusedSimpArgs false

open Go.Ev.Pl
/-! ### metronome/frame.Encode (function 46) -/
structure P46c0 where
  a0 : List Int
  a1 : Int
  a3 : Int
  a4 : List Int
  a8 : Int
  a9 : Int
  a10 : List Int
structure P46c1 where
  b0 : List Int
  b1 : Int
  b3 : Int
  b4 : List Int
  b8 : Int
  b9 : Int
  b10 : List Int
inductive Y46 where
  | c0 (p : P46c0) (a2 : Int) (a5 : Int) (a6 : List Int) (a7 : Int)
  | c1 (p : P46c1) (b2 : Int) (b5 : Int) (b6 : List Int) (b7 : Int)
noncomputable def cfg46 : Y46 → Cfg
  | .c0 p a2 a5 a6 a7 => { frames := [{ fn := 93, n := 19, env := (Env.put (Env.put (Env.put (Env.put .leaf 0 (.ptr 0 0)) 7 (.sl (.int .u8) p.a0)) 8 (.int .i64 false p.a1)) 9 (.int .i64 false a2)), todo := [.inLoop (Code.way (bodyOf Try.f93) [1, 0, 1, 0, 0]), .inBlock 0, .code (Code.way (bodyOf Try.f93) [1, 1])], marks := [], rnd := none }, { fn := 46, n := 91, env := (Env.put (Env.put (Env.put (Env.put (Env.put .leaf 2 (.ptr 1 0)) 5 (.ptr 2 0)) 8 (.ptr 0 0)) 54 (.agg [.int .i64 false p.a3, .sl (.int .u8) p.a4])) 81 .undef), todo := [.dopw (opsOf (Code.way (bodyOf Try.f46) [1, 1, 1, 1, 1, 1, 0, 1, 0, 1, 1, 1, 0])) [0, 0, 2, 7, 0, 16, 63, 0, 255] 6 [8] [7], .inBlock 0, .code (Code.way (bodyOf Try.f46) [1, 1, 1, 1, 1, 1, 1])], marks := [], rnd := none }], mem := [.flat false [.int .i64 false a5, .sl (.int .u8) a6, .int .i64 false a7], .flat false [.int .i64 false p.a8, .esl true], .flat false [.int .i64 false p.a9, .sl (.int .u8) p.a10], .dead] }
  | .c1 p b2 b5 b6 b7 => { frames := [{ fn := 93, n := 19, env := (Env.put (Env.put (Env.put (Env.put .leaf 0 (.ptr 0 0)) 7 (.sl (.int .u8) p.b0)) 8 (.int .i64 false p.b1)) 9 (.int .i64 false b2)), todo := [.inLoop (Code.way (bodyOf Try.f93) [1, 0, 1, 0, 0]), .inBlock 0, .code (Code.way (bodyOf Try.f93) [1, 1])], marks := [], rnd := none }, { fn := 46, n := 91, env := (Env.put (Env.put (Env.put (Env.put (Env.put .leaf 2 (.ptr 1 0)) 5 (.ptr 2 0)) 8 (.ptr 0 0)) 54 .undef) 81 (.agg [.int .i64 false p.b3, .sl (.int .u8) p.b4])), todo := [.dopw (opsOf (Code.way (bodyOf Try.f46) [1, 1, 1, 1, 1, 1, 0, 1, 0, 1, 1, 1, 1, 1, 1, 1, 0])) [0, 0, 2, 7, 15, 0, 63, 0, 255, 0, 512, 2047, 0, 8191] 11 [13] [12], .inBlock 0, .code (Code.way (bodyOf Try.f46) [1, 1, 1, 1, 1, 1, 1])], marks := [], rnd := none }], mem := [.flat false [.int .i64 false b5, .sl (.int .u8) b6, .int .i64 false b7], .flat false [.int .i64 false p.b8, .esl true], .flat false [.int .i64 false p.b9, .sl (.int .u8) p.b10], .dead] }

def t46 (A : Alg) (fKind : Int) (fReq : Int) (fCTime : Int) (fCPos : Int) (fCMode : Int) (fCNext : Int) (fCMember : Int) (fFrom : Int) (fData : List Int) : LT ((Int × List Int) × Int) Y46 :=
  .need (A.call (@tt ((Int × Int × (Int × Int × Int × Int × Int) × Int × List Int))) (fKind, fReq, (fCTime, fCPos, fCMode, fCNext, fCMember), fFrom, fData)) (
  .br (A.cmp .neq (A.call fn57 (fKind, fReq, (fCTime, fCPos, fCMode, fCNext, fCMember), fFrom, fData)) 0)
  (.ret ((0, ([] : List Int)), (A.call fn57 (fKind, fReq, (fCTime, fCPos, fCMode, fCNext, fCMember), fFrom, fData))))
  (.need (A.call (@tt ((Int × Int × Int × Int × Int))) (fCTime, fCPos, fCMode, fCNext, fCMember)) (
  .br (A.cmp .neq (A.call fn90 (fCTime, fCPos, fCMode, fCNext, fCMember)).2 0)
  (.ret ((0, ([] : List Int)), (A.call fn90 (fCTime, fCPos, fCMode, fCNext, fCMember)).2))
  (.need (A.call (@tt ((Int × List Int) × Int × Int)) ((0, ([] : List Int)), (A.conv .u64 (A.bin .sub .i64 fKind 1)), 2)) (
  .br (A.cmp .eql fKind 1)
  (.br (A.cmp .eql (A.call fn132 ((0, ([] : List Int)), (A.conv .u64 (A.bin .sub .i64 fKind 1)), 2)).2 0)
  (.need (A.call (@tt ((Int × List Int) × Int × Int)) ((A.call fn132 ((0, ([] : List Int)), (A.conv .u64 (A.bin .sub .i64 fKind 1)), 2)).1, (A.conv .u64 fFrom), 3)) (
  .eqs ((.agg [.int .i64 true 0, .esl true] : AV) = .agg [.int .i64 true 0, .esl true]) (
  .eqs (IntKind.i64 = IntKind.i64 ∧ (fCTime : Int) = fCTime) (
  .eqs ((.ptr 0 2 : AV) = .ptr 0 2) (
  .eqs ((.ptr 0 2 : AV) = .ptr 0 2) (
  .br (A.cmp .eql (A.call fn132 ((A.call fn132 ((0, ([] : List Int)), (A.conv .u64 (A.bin .sub .i64 fKind 1)), 2)).1, (A.conv .u64 fFrom), 3)).2 0)
  (.need (A.call (@tt ((Int × List Int) × Int × Int)) ((A.call fn132 ((A.call fn132 ((0, ([] : List Int)), (A.conv .u64 (A.bin .sub .i64 fKind 1)), 2)).1, (A.conv .u64 fFrom), 3)).1, (A.conv .u64 fCTime), 8)) (
  .eqs ((.agg [.int .i64 true 0, .esl true] : AV) = .agg [.int .i64 true 0, .esl true]) (
  .br (A.cmp .eql (A.call fn132 ((A.call fn132 ((A.call fn132 ((0, ([] : List Int)), (A.conv .u64 (A.bin .sub .i64 fKind 1)), 2)).1, (A.conv .u64 fFrom), 3)).1, (A.conv .u64 fCTime), 8)).2 0)
  (.need (A.call (@tt ((Int × List Int) × Int × Int)) ((A.call fn132 ((A.call fn132 ((A.call fn132 ((0, ([] : List Int)), (A.conv .u64 (A.bin .sub .i64 fKind 1)), 2)).1, (A.conv .u64 fFrom), 3)).1, (A.conv .u64 fCTime), 8)).1, 0, 3)) (
  .eqs ((.agg [.int .i64 true 0, .esl true] : AV) = .agg [.int .i64 true 0, .esl true]) (
  .br (A.cmp .eql (A.call fn132 ((A.call fn132 ((A.call fn132 ((A.call fn132 ((0, ([] : List Int)), (A.conv .u64 (A.bin .sub .i64 fKind 1)), 2)).1, (A.conv .u64 fFrom), 3)).1, (A.conv .u64 fCTime), 8)).1, 0, 3)).2 0)
  (.need (A.call (@tt ((Int × List Int) × (Int × List Int))) ((A.call fn132 ((A.call fn132 ((A.call fn132 ((A.call fn132 ((0, ([] : List Int)), (A.conv .u64 (A.bin .sub .i64 fKind 1)), 2)).1, (A.conv .u64 fFrom), 3)).1, (A.conv .u64 fCTime), 8)).1, 0, 3)).1, 0, ([] : List Int))) (
  .eqs (IntKind.i64 = IntKind.i64 ∧ ((A.call fn133 ((A.call fn132 ((A.call fn132 ((A.call fn132 ((A.call fn132 ((0, ([] : List Int)), (A.conv .u64 (A.bin .sub .i64 fKind 1)), 2)).1, (A.conv .u64 fFrom), 3)).1, (A.conv .u64 fCTime), 8)).1, 0, 3)).1, 0, ([] : List Int))).2 : Int) = (A.call fn133 ((A.call fn132 ((A.call fn132 ((A.call fn132 ((A.call fn132 ((0, ([] : List Int)), (A.conv .u64 (A.bin .sub .i64 fKind 1)), 2)).1, (A.conv .u64 fFrom), 3)).1, (A.conv .u64 fCTime), 8)).1, 0, 3)).1, 0, ([] : List Int))).2) (
  .eqs ((.ptr 4 0 : AV) = .ptr 4 0) (
  .eqs (IntKind.i64 = IntKind.i64 ∧ ((A.call fn133 ((A.call fn132 ((A.call fn132 ((A.call fn132 ((A.call fn132 ((0, ([] : List Int)), (A.conv .u64 (A.bin .sub .i64 fKind 1)), 2)).1, (A.conv .u64 fFrom), 3)).1, (A.conv .u64 fCTime), 8)).1, 0, 3)).1, 0, ([] : List Int))).2 : Int) = (A.call fn133 ((A.call fn132 ((A.call fn132 ((A.call fn132 ((A.call fn132 ((0, ([] : List Int)), (A.conv .u64 (A.bin .sub .i64 fKind 1)), 2)).1, (A.conv .u64 fFrom), 3)).1, (A.conv .u64 fCTime), 8)).1, 0, 3)).1, 0, ([] : List Int))).2) (
  .eqs ((.ptr 4 2 : AV) = .ptr 4 2) (
  .eqs ((.ptr 4 0 : AV) = .ptr 4 0) (
  .eqs ((.ptr 4 0 : AV) = .ptr 4 0) (
  .ret (A.call fn133 ((A.call fn132 ((A.call fn132 ((A.call fn132 ((A.call fn132 ((0, ([] : List Int)), (A.conv .u64 (A.bin .sub .i64 fKind 1)), 2)).1, (A.conv .u64 fFrom), 3)).1, (A.conv .u64 fCTime), 8)).1, 0, 3)).1, 0, ([] : List Int)))))))))))
  (.eqs (IntKind.i64 = IntKind.i64 ∧ ((A.call fn132 ((A.call fn132 ((A.call fn132 ((A.call fn132 ((0, ([] : List Int)), (A.conv .u64 (A.bin .sub .i64 fKind 1)), 2)).1, (A.conv .u64 fFrom), 3)).1, (A.conv .u64 fCTime), 8)).1, 0, 3)).2 : Int) = (A.call fn132 ((A.call fn132 ((A.call fn132 ((A.call fn132 ((0, ([] : List Int)), (A.conv .u64 (A.bin .sub .i64 fKind 1)), 2)).1, (A.conv .u64 fFrom), 3)).1, (A.conv .u64 fCTime), 8)).1, 0, 3)).2) (
  .eqs ((.ptr 4 2 : AV) = .ptr 4 2) (
  .eqs ((.ptr 4 0 : AV) = .ptr 4 0) (
  .eqs ((.ptr 4 0 : AV) = .ptr 4 0) (
  .ret (A.call fn132 ((A.call fn132 ((A.call fn132 ((A.call fn132 ((0, ([] : List Int)), (A.conv .u64 (A.bin .sub .i64 fKind 1)), 2)).1, (A.conv .u64 fFrom), 3)).1, (A.conv .u64 fCTime), 8)).1, 0, 3))))))))))
  (.eqs ((.agg [.int .i64 true 0, .esl true] : AV) = .agg [.int .i64 true 0, .esl true]) (
  .br (A.cmp .eql (A.call fn132 ((A.call fn132 ((A.call fn132 ((0, ([] : List Int)), (A.conv .u64 (A.bin .sub .i64 fKind 1)), 2)).1, (A.conv .u64 fFrom), 3)).1, (A.conv .u64 fCTime), 8)).2 0)
  (.need (A.call (@tt ((Int × List Int) × (Int × List Int))) ((A.call fn132 ((A.call fn132 ((A.call fn132 ((0, ([] : List Int)), (A.conv .u64 (A.bin .sub .i64 fKind 1)), 2)).1, (A.conv .u64 fFrom), 3)).1, (A.conv .u64 fCTime), 8)).1, 0, ([] : List Int))) (
  .eqs (IntKind.i64 = IntKind.i64 ∧ ((A.call fn133 ((A.call fn132 ((A.call fn132 ((A.call fn132 ((0, ([] : List Int)), (A.conv .u64 (A.bin .sub .i64 fKind 1)), 2)).1, (A.conv .u64 fFrom), 3)).1, (A.conv .u64 fCTime), 8)).1, 0, ([] : List Int))).2 : Int) = (A.call fn133 ((A.call fn132 ((A.call fn132 ((A.call fn132 ((0, ([] : List Int)), (A.conv .u64 (A.bin .sub .i64 fKind 1)), 2)).1, (A.conv .u64 fFrom), 3)).1, (A.conv .u64 fCTime), 8)).1, 0, ([] : List Int))).2) (
  .eqs ((.ptr 4 0 : AV) = .ptr 4 0) (
  .eqs (IntKind.i64 = IntKind.i64 ∧ ((A.call fn133 ((A.call fn132 ((A.call fn132 ((A.call fn132 ((0, ([] : List Int)), (A.conv .u64 (A.bin .sub .i64 fKind 1)), 2)).1, (A.conv .u64 fFrom), 3)).1, (A.conv .u64 fCTime), 8)).1, 0, ([] : List Int))).2 : Int) = (A.call fn133 ((A.call fn132 ((A.call fn132 ((A.call fn132 ((0, ([] : List Int)), (A.conv .u64 (A.bin .sub .i64 fKind 1)), 2)).1, (A.conv .u64 fFrom), 3)).1, (A.conv .u64 fCTime), 8)).1, 0, ([] : List Int))).2) (
  .eqs ((.ptr 4 2 : AV) = .ptr 4 2) (
  .eqs ((.ptr 4 0 : AV) = .ptr 4 0) (
  .eqs ((.ptr 4 0 : AV) = .ptr 4 0) (
  .ret (A.call fn133 ((A.call fn132 ((A.call fn132 ((A.call fn132 ((0, ([] : List Int)), (A.conv .u64 (A.bin .sub .i64 fKind 1)), 2)).1, (A.conv .u64 fFrom), 3)).1, (A.conv .u64 fCTime), 8)).1, 0, ([] : List Int)))))))))))
  (.eqs (IntKind.i64 = IntKind.i64 ∧ ((A.call fn132 ((A.call fn132 ((A.call fn132 ((0, ([] : List Int)), (A.conv .u64 (A.bin .sub .i64 fKind 1)), 2)).1, (A.conv .u64 fFrom), 3)).1, (A.conv .u64 fCTime), 8)).2 : Int) = (A.call fn132 ((A.call fn132 ((A.call fn132 ((0, ([] : List Int)), (A.conv .u64 (A.bin .sub .i64 fKind 1)), 2)).1, (A.conv .u64 fFrom), 3)).1, (A.conv .u64 fCTime), 8)).2) (
  .eqs ((.ptr 4 2 : AV) = .ptr 4 2) (
  .eqs ((.ptr 4 0 : AV) = .ptr 4 0) (
  .eqs ((.ptr 4 0 : AV) = .ptr 4 0) (
  .ret (A.call fn132 ((A.call fn132 ((A.call fn132 ((0, ([] : List Int)), (A.conv .u64 (A.bin .sub .i64 fKind 1)), 2)).1, (A.conv .u64 fFrom), 3)).1, (A.conv .u64 fCTime), 8))))))))))))
  (.eqs ((.agg [.int .i64 true 0, .esl true] : AV) = .agg [.int .i64 true 0, .esl true]) (
  .br (A.cmp .eql (A.call fn132 ((A.call fn132 ((0, ([] : List Int)), (A.conv .u64 (A.bin .sub .i64 fKind 1)), 2)).1, (A.conv .u64 fFrom), 3)).2 0)
  (.need (A.call (@tt ((Int × List Int) × Int × Int)) ((A.call fn132 ((A.call fn132 ((0, ([] : List Int)), (A.conv .u64 (A.bin .sub .i64 fKind 1)), 2)).1, (A.conv .u64 fFrom), 3)).1, 0, 3)) (
  .eqs ((.agg [.int .i64 true 0, .esl true] : AV) = .agg [.int .i64 true 0, .esl true]) (
  .br (A.cmp .eql (A.call fn132 ((A.call fn132 ((A.call fn132 ((0, ([] : List Int)), (A.conv .u64 (A.bin .sub .i64 fKind 1)), 2)).1, (A.conv .u64 fFrom), 3)).1, 0, 3)).2 0)
  (.need (A.call (@tt ((Int × List Int) × (Int × List Int))) ((A.call fn132 ((A.call fn132 ((A.call fn132 ((0, ([] : List Int)), (A.conv .u64 (A.bin .sub .i64 fKind 1)), 2)).1, (A.conv .u64 fFrom), 3)).1, 0, 3)).1, 0, ([] : List Int))) (
  .eqs (IntKind.i64 = IntKind.i64 ∧ ((A.call fn133 ((A.call fn132 ((A.call fn132 ((A.call fn132 ((0, ([] : List Int)), (A.conv .u64 (A.bin .sub .i64 fKind 1)), 2)).1, (A.conv .u64 fFrom), 3)).1, 0, 3)).1, 0, ([] : List Int))).2 : Int) = (A.call fn133 ((A.call fn132 ((A.call fn132 ((A.call fn132 ((0, ([] : List Int)), (A.conv .u64 (A.bin .sub .i64 fKind 1)), 2)).1, (A.conv .u64 fFrom), 3)).1, 0, 3)).1, 0, ([] : List Int))).2) (
  .eqs ((.ptr 4 0 : AV) = .ptr 4 0) (
  .eqs (IntKind.i64 = IntKind.i64 ∧ ((A.call fn133 ((A.call fn132 ((A.call fn132 ((A.call fn132 ((0, ([] : List Int)), (A.conv .u64 (A.bin .sub .i64 fKind 1)), 2)).1, (A.conv .u64 fFrom), 3)).1, 0, 3)).1, 0, ([] : List Int))).2 : Int) = (A.call fn133 ((A.call fn132 ((A.call fn132 ((A.call fn132 ((0, ([] : List Int)), (A.conv .u64 (A.bin .sub .i64 fKind 1)), 2)).1, (A.conv .u64 fFrom), 3)).1, 0, 3)).1, 0, ([] : List Int))).2) (
  .eqs ((.ptr 4 2 : AV) = .ptr 4 2) (
  .eqs ((.ptr 4 0 : AV) = .ptr 4 0) (
  .eqs ((.ptr 4 0 : AV) = .ptr 4 0) (
  .ret (A.call fn133 ((A.call fn132 ((A.call fn132 ((A.call fn132 ((0, ([] : List Int)), (A.conv .u64 (A.bin .sub .i64 fKind 1)), 2)).1, (A.conv .u64 fFrom), 3)).1, 0, 3)).1, 0, ([] : List Int)))))))))))
  (.eqs (IntKind.i64 = IntKind.i64 ∧ ((A.call fn132 ((A.call fn132 ((A.call fn132 ((0, ([] : List Int)), (A.conv .u64 (A.bin .sub .i64 fKind 1)), 2)).1, (A.conv .u64 fFrom), 3)).1, 0, 3)).2 : Int) = (A.call fn132 ((A.call fn132 ((A.call fn132 ((0, ([] : List Int)), (A.conv .u64 (A.bin .sub .i64 fKind 1)), 2)).1, (A.conv .u64 fFrom), 3)).1, 0, 3)).2) (
  .eqs ((.ptr 4 2 : AV) = .ptr 4 2) (
  .eqs ((.ptr 4 0 : AV) = .ptr 4 0) (
  .eqs ((.ptr 4 0 : AV) = .ptr 4 0) (
  .ret (A.call fn132 ((A.call fn132 ((A.call fn132 ((0, ([] : List Int)), (A.conv .u64 (A.bin .sub .i64 fKind 1)), 2)).1, (A.conv .u64 fFrom), 3)).1, 0, 3))))))))))
  (.eqs ((.agg [.int .i64 true 0, .esl true] : AV) = .agg [.int .i64 true 0, .esl true]) (
  .br (A.cmp .eql (A.call fn132 ((A.call fn132 ((0, ([] : List Int)), (A.conv .u64 (A.bin .sub .i64 fKind 1)), 2)).1, (A.conv .u64 fFrom), 3)).2 0)
  (.need (A.call (@tt ((Int × List Int) × (Int × List Int))) ((A.call fn132 ((A.call fn132 ((0, ([] : List Int)), (A.conv .u64 (A.bin .sub .i64 fKind 1)), 2)).1, (A.conv .u64 fFrom), 3)).1, 0, ([] : List Int))) (
  .eqs (IntKind.i64 = IntKind.i64 ∧ ((A.call fn133 ((A.call fn132 ((A.call fn132 ((0, ([] : List Int)), (A.conv .u64 (A.bin .sub .i64 fKind 1)), 2)).1, (A.conv .u64 fFrom), 3)).1, 0, ([] : List Int))).2 : Int) = (A.call fn133 ((A.call fn132 ((A.call fn132 ((0, ([] : List Int)), (A.conv .u64 (A.bin .sub .i64 fKind 1)), 2)).1, (A.conv .u64 fFrom), 3)).1, 0, ([] : List Int))).2) (
  .eqs ((.ptr 4 0 : AV) = .ptr 4 0) (
  .eqs (IntKind.i64 = IntKind.i64 ∧ ((A.call fn133 ((A.call fn132 ((A.call fn132 ((0, ([] : List Int)), (A.conv .u64 (A.bin .sub .i64 fKind 1)), 2)).1, (A.conv .u64 fFrom), 3)).1, 0, ([] : List Int))).2 : Int) = (A.call fn133 ((A.call fn132 ((A.call fn132 ((0, ([] : List Int)), (A.conv .u64 (A.bin .sub .i64 fKind 1)), 2)).1, (A.conv .u64 fFrom), 3)).1, 0, ([] : List Int))).2) (
  .eqs ((.ptr 4 2 : AV) = .ptr 4 2) (
  .eqs ((.ptr 4 0 : AV) = .ptr 4 0) (
  .eqs ((.ptr 4 0 : AV) = .ptr 4 0) (
  .ret (A.call fn133 ((A.call fn132 ((A.call fn132 ((0, ([] : List Int)), (A.conv .u64 (A.bin .sub .i64 fKind 1)), 2)).1, (A.conv .u64 fFrom), 3)).1, 0, ([] : List Int)))))))))))
  (.eqs (IntKind.i64 = IntKind.i64 ∧ ((A.call fn132 ((A.call fn132 ((0, ([] : List Int)), (A.conv .u64 (A.bin .sub .i64 fKind 1)), 2)).1, (A.conv .u64 fFrom), 3)).2 : Int) = (A.call fn132 ((A.call fn132 ((0, ([] : List Int)), (A.conv .u64 (A.bin .sub .i64 fKind 1)), 2)).1, (A.conv .u64 fFrom), 3)).2) (
  .eqs ((.ptr 4 2 : AV) = .ptr 4 2) (
  .eqs ((.ptr 4 0 : AV) = .ptr 4 0) (
  .eqs ((.ptr 4 0 : AV) = .ptr 4 0) (
  .ret (A.call fn132 ((A.call fn132 ((0, ([] : List Int)), (A.conv .u64 (A.bin .sub .i64 fKind 1)), 2)).1, (A.conv .u64 fFrom), 3)))))))))))))))))
  (.eqs ((.agg [.int .i64 true 0, .esl true] : AV) = .agg [.int .i64 true 0, .esl true]) (
  .eqs (IntKind.i64 = IntKind.i64 ∧ (fCTime : Int) = fCTime) (
  .eqs ((.ptr 0 2 : AV) = .ptr 0 2) (
  .eqs ((.ptr 0 2 : AV) = .ptr 0 2) (
  .br (A.cmp .eql (A.call fn132 ((0, ([] : List Int)), (A.conv .u64 (A.bin .sub .i64 fKind 1)), 2)).2 0)
  (.need (A.call (@tt ((Int × List Int) × Int × Int)) ((A.call fn132 ((0, ([] : List Int)), (A.conv .u64 (A.bin .sub .i64 fKind 1)), 2)).1, (A.conv .u64 fCTime), 8)) (
  .eqs ((.agg [.int .i64 true 0, .esl true] : AV) = .agg [.int .i64 true 0, .esl true]) (
  .br (A.cmp .eql (A.call fn132 ((A.call fn132 ((0, ([] : List Int)), (A.conv .u64 (A.bin .sub .i64 fKind 1)), 2)).1, (A.conv .u64 fCTime), 8)).2 0)
  (.need (A.call (@tt ((Int × List Int) × Int × Int)) ((A.call fn132 ((A.call fn132 ((0, ([] : List Int)), (A.conv .u64 (A.bin .sub .i64 fKind 1)), 2)).1, (A.conv .u64 fCTime), 8)).1, 0, 3)) (
  .eqs ((.agg [.int .i64 true 0, .esl true] : AV) = .agg [.int .i64 true 0, .esl true]) (
  .br (A.cmp .eql (A.call fn132 ((A.call fn132 ((A.call fn132 ((0, ([] : List Int)), (A.conv .u64 (A.bin .sub .i64 fKind 1)), 2)).1, (A.conv .u64 fCTime), 8)).1, 0, 3)).2 0)
  (.need (A.call (@tt ((Int × List Int) × (Int × List Int))) ((A.call fn132 ((A.call fn132 ((A.call fn132 ((0, ([] : List Int)), (A.conv .u64 (A.bin .sub .i64 fKind 1)), 2)).1, (A.conv .u64 fCTime), 8)).1, 0, 3)).1, 0, ([] : List Int))) (
  .eqs (IntKind.i64 = IntKind.i64 ∧ ((A.call fn133 ((A.call fn132 ((A.call fn132 ((A.call fn132 ((0, ([] : List Int)), (A.conv .u64 (A.bin .sub .i64 fKind 1)), 2)).1, (A.conv .u64 fCTime), 8)).1, 0, 3)).1, 0, ([] : List Int))).2 : Int) = (A.call fn133 ((A.call fn132 ((A.call fn132 ((A.call fn132 ((0, ([] : List Int)), (A.conv .u64 (A.bin .sub .i64 fKind 1)), 2)).1, (A.conv .u64 fCTime), 8)).1, 0, 3)).1, 0, ([] : List Int))).2) (
  .eqs ((.ptr 4 0 : AV) = .ptr 4 0) (
  .eqs (IntKind.i64 = IntKind.i64 ∧ ((A.call fn133 ((A.call fn132 ((A.call fn132 ((A.call fn132 ((0, ([] : List Int)), (A.conv .u64 (A.bin .sub .i64 fKind 1)), 2)).1, (A.conv .u64 fCTime), 8)).1, 0, 3)).1, 0, ([] : List Int))).2 : Int) = (A.call fn133 ((A.call fn132 ((A.call fn132 ((A.call fn132 ((0, ([] : List Int)), (A.conv .u64 (A.bin .sub .i64 fKind 1)), 2)).1, (A.conv .u64 fCTime), 8)).1, 0, 3)).1, 0, ([] : List Int))).2) (
  .eqs ((.ptr 4 2 : AV) = .ptr 4 2) (
  .eqs ((.ptr 4 0 : AV) = .ptr 4 0) (
  .eqs ((.ptr 4 0 : AV) = .ptr 4 0) (
  .ret (A.call fn133 ((A.call fn132 ((A.call fn132 ((A.call fn132 ((0, ([] : List Int)), (A.conv .u64 (A.bin .sub .i64 fKind 1)), 2)).1, (A.conv .u64 fCTime), 8)).1, 0, 3)).1, 0, ([] : List Int)))))))))))
  (.eqs (IntKind.i64 = IntKind.i64 ∧ ((A.call fn132 ((A.call fn132 ((A.call fn132 ((0, ([] : List Int)), (A.conv .u64 (A.bin .sub .i64 fKind 1)), 2)).1, (A.conv .u64 fCTime), 8)).1, 0, 3)).2 : Int) = (A.call fn132 ((A.call fn132 ((A.call fn132 ((0, ([] : List Int)), (A.conv .u64 (A.bin .sub .i64 fKind 1)), 2)).1, (A.conv .u64 fCTime), 8)).1, 0, 3)).2) (
  .eqs ((.ptr 4 2 : AV) = .ptr 4 2) (
  .eqs ((.ptr 4 0 : AV) = .ptr 4 0) (
  .eqs ((.ptr 4 0 : AV) = .ptr 4 0) (
  .ret (A.call fn132 ((A.call fn132 ((A.call fn132 ((0, ([] : List Int)), (A.conv .u64 (A.bin .sub .i64 fKind 1)), 2)).1, (A.conv .u64 fCTime), 8)).1, 0, 3))))))))))
  (.eqs ((.agg [.int .i64 true 0, .esl true] : AV) = .agg [.int .i64 true 0, .esl true]) (
  .br (A.cmp .eql (A.call fn132 ((A.call fn132 ((0, ([] : List Int)), (A.conv .u64 (A.bin .sub .i64 fKind 1)), 2)).1, (A.conv .u64 fCTime), 8)).2 0)
  (.need (A.call (@tt ((Int × List Int) × (Int × List Int))) ((A.call fn132 ((A.call fn132 ((0, ([] : List Int)), (A.conv .u64 (A.bin .sub .i64 fKind 1)), 2)).1, (A.conv .u64 fCTime), 8)).1, 0, ([] : List Int))) (
  .eqs (IntKind.i64 = IntKind.i64 ∧ ((A.call fn133 ((A.call fn132 ((A.call fn132 ((0, ([] : List Int)), (A.conv .u64 (A.bin .sub .i64 fKind 1)), 2)).1, (A.conv .u64 fCTime), 8)).1, 0, ([] : List Int))).2 : Int) = (A.call fn133 ((A.call fn132 ((A.call fn132 ((0, ([] : List Int)), (A.conv .u64 (A.bin .sub .i64 fKind 1)), 2)).1, (A.conv .u64 fCTime), 8)).1, 0, ([] : List Int))).2) (
  .eqs ((.ptr 4 0 : AV) = .ptr 4 0) (
  .eqs (IntKind.i64 = IntKind.i64 ∧ ((A.call fn133 ((A.call fn132 ((A.call fn132 ((0, ([] : List Int)), (A.conv .u64 (A.bin .sub .i64 fKind 1)), 2)).1, (A.conv .u64 fCTime), 8)).1, 0, ([] : List Int))).2 : Int) = (A.call fn133 ((A.call fn132 ((A.call fn132 ((0, ([] : List Int)), (A.conv .u64 (A.bin .sub .i64 fKind 1)), 2)).1, (A.conv .u64 fCTime), 8)).1, 0, ([] : List Int))).2) (
  .eqs ((.ptr 4 2 : AV) = .ptr 4 2) (
  .eqs ((.ptr 4 0 : AV) = .ptr 4 0) (
  .eqs ((.ptr 4 0 : AV) = .ptr 4 0) (
  .ret (A.call fn133 ((A.call fn132 ((A.call fn132 ((0, ([] : List Int)), (A.conv .u64 (A.bin .sub .i64 fKind 1)), 2)).1, (A.conv .u64 fCTime), 8)).1, 0, ([] : List Int)))))))))))
  (.eqs (IntKind.i64 = IntKind.i64 ∧ ((A.call fn132 ((A.call fn132 ((0, ([] : List Int)), (A.conv .u64 (A.bin .sub .i64 fKind 1)), 2)).1, (A.conv .u64 fCTime), 8)).2 : Int) = (A.call fn132 ((A.call fn132 ((0, ([] : List Int)), (A.conv .u64 (A.bin .sub .i64 fKind 1)), 2)).1, (A.conv .u64 fCTime), 8)).2) (
  .eqs ((.ptr 4 2 : AV) = .ptr 4 2) (
  .eqs ((.ptr 4 0 : AV) = .ptr 4 0) (
  .eqs ((.ptr 4 0 : AV) = .ptr 4 0) (
  .ret (A.call fn132 ((A.call fn132 ((0, ([] : List Int)), (A.conv .u64 (A.bin .sub .i64 fKind 1)), 2)).1, (A.conv .u64 fCTime), 8))))))))))))
  (.eqs ((.agg [.int .i64 true 0, .esl true] : AV) = .agg [.int .i64 true 0, .esl true]) (
  .br (A.cmp .eql (A.call fn132 ((0, ([] : List Int)), (A.conv .u64 (A.bin .sub .i64 fKind 1)), 2)).2 0)
  (.need (A.call (@tt ((Int × List Int) × Int × Int)) ((A.call fn132 ((0, ([] : List Int)), (A.conv .u64 (A.bin .sub .i64 fKind 1)), 2)).1, 0, 3)) (
  .eqs ((.agg [.int .i64 true 0, .esl true] : AV) = .agg [.int .i64 true 0, .esl true]) (
  .br (A.cmp .eql (A.call fn132 ((A.call fn132 ((0, ([] : List Int)), (A.conv .u64 (A.bin .sub .i64 fKind 1)), 2)).1, 0, 3)).2 0)
  (.need (A.call (@tt ((Int × List Int) × (Int × List Int))) ((A.call fn132 ((A.call fn132 ((0, ([] : List Int)), (A.conv .u64 (A.bin .sub .i64 fKind 1)), 2)).1, 0, 3)).1, 0, ([] : List Int))) (
  .eqs (IntKind.i64 = IntKind.i64 ∧ ((A.call fn133 ((A.call fn132 ((A.call fn132 ((0, ([] : List Int)), (A.conv .u64 (A.bin .sub .i64 fKind 1)), 2)).1, 0, 3)).1, 0, ([] : List Int))).2 : Int) = (A.call fn133 ((A.call fn132 ((A.call fn132 ((0, ([] : List Int)), (A.conv .u64 (A.bin .sub .i64 fKind 1)), 2)).1, 0, 3)).1, 0, ([] : List Int))).2) (
  .eqs ((.ptr 4 0 : AV) = .ptr 4 0) (
  .eqs (IntKind.i64 = IntKind.i64 ∧ ((A.call fn133 ((A.call fn132 ((A.call fn132 ((0, ([] : List Int)), (A.conv .u64 (A.bin .sub .i64 fKind 1)), 2)).1, 0, 3)).1, 0, ([] : List Int))).2 : Int) = (A.call fn133 ((A.call fn132 ((A.call fn132 ((0, ([] : List Int)), (A.conv .u64 (A.bin .sub .i64 fKind 1)), 2)).1, 0, 3)).1, 0, ([] : List Int))).2) (
  .eqs ((.ptr 4 2 : AV) = .ptr 4 2) (
  .eqs ((.ptr 4 0 : AV) = .ptr 4 0) (
  .eqs ((.ptr 4 0 : AV) = .ptr 4 0) (
  .ret (A.call fn133 ((A.call fn132 ((A.call fn132 ((0, ([] : List Int)), (A.conv .u64 (A.bin .sub .i64 fKind 1)), 2)).1, 0, 3)).1, 0, ([] : List Int)))))))))))
  (.eqs (IntKind.i64 = IntKind.i64 ∧ ((A.call fn132 ((A.call fn132 ((0, ([] : List Int)), (A.conv .u64 (A.bin .sub .i64 fKind 1)), 2)).1, 0, 3)).2 : Int) = (A.call fn132 ((A.call fn132 ((0, ([] : List Int)), (A.conv .u64 (A.bin .sub .i64 fKind 1)), 2)).1, 0, 3)).2) (
  .eqs ((.ptr 4 2 : AV) = .ptr 4 2) (
  .eqs ((.ptr 4 0 : AV) = .ptr 4 0) (
  .eqs ((.ptr 4 0 : AV) = .ptr 4 0) (
  .ret (A.call fn132 ((A.call fn132 ((0, ([] : List Int)), (A.conv .u64 (A.bin .sub .i64 fKind 1)), 2)).1, 0, 3))))))))))
  (.eqs ((.agg [.int .i64 true 0, .esl true] : AV) = .agg [.int .i64 true 0, .esl true]) (
  .br (A.cmp .eql (A.call fn132 ((0, ([] : List Int)), (A.conv .u64 (A.bin .sub .i64 fKind 1)), 2)).2 0)
  (.need (A.call (@tt ((Int × List Int) × (Int × List Int))) ((A.call fn132 ((0, ([] : List Int)), (A.conv .u64 (A.bin .sub .i64 fKind 1)), 2)).1, 0, ([] : List Int))) (
  .eqs (IntKind.i64 = IntKind.i64 ∧ ((A.call fn133 ((A.call fn132 ((0, ([] : List Int)), (A.conv .u64 (A.bin .sub .i64 fKind 1)), 2)).1, 0, ([] : List Int))).2 : Int) = (A.call fn133 ((A.call fn132 ((0, ([] : List Int)), (A.conv .u64 (A.bin .sub .i64 fKind 1)), 2)).1, 0, ([] : List Int))).2) (
  .eqs ((.ptr 4 0 : AV) = .ptr 4 0) (
  .eqs (IntKind.i64 = IntKind.i64 ∧ ((A.call fn133 ((A.call fn132 ((0, ([] : List Int)), (A.conv .u64 (A.bin .sub .i64 fKind 1)), 2)).1, 0, ([] : List Int))).2 : Int) = (A.call fn133 ((A.call fn132 ((0, ([] : List Int)), (A.conv .u64 (A.bin .sub .i64 fKind 1)), 2)).1, 0, ([] : List Int))).2) (
  .eqs ((.ptr 4 2 : AV) = .ptr 4 2) (
  .eqs ((.ptr 4 0 : AV) = .ptr 4 0) (
  .eqs ((.ptr 4 0 : AV) = .ptr 4 0) (
  .ret (A.call fn133 ((A.call fn132 ((0, ([] : List Int)), (A.conv .u64 (A.bin .sub .i64 fKind 1)), 2)).1, 0, ([] : List Int)))))))))))
  (.eqs (IntKind.i64 = IntKind.i64 ∧ ((A.call fn132 ((0, ([] : List Int)), (A.conv .u64 (A.bin .sub .i64 fKind 1)), 2)).2 : Int) = (A.call fn132 ((0, ([] : List Int)), (A.conv .u64 (A.bin .sub .i64 fKind 1)), 2)).2) (
  .eqs ((.ptr 4 2 : AV) = .ptr 4 2) (
  .eqs ((.ptr 4 0 : AV) = .ptr 4 0) (
  .eqs ((.ptr 4 0 : AV) = .ptr 4 0) (
  .ret (A.call fn132 ((0, ([] : List Int)), (A.conv .u64 (A.bin .sub .i64 fKind 1)), 2)))))))))))))))))
  (.br (A.cmp .eql fKind 2)
  (.br (A.cmp .eql (A.call fn132 ((0, ([] : List Int)), (A.conv .u64 (A.bin .sub .i64 fKind 1)), 2)).2 0)
  (.need (A.call (@tt ((Int × List Int) × Int × Int)) ((A.call fn132 ((0, ([] : List Int)), (A.conv .u64 (A.bin .sub .i64 fKind 1)), 2)).1, (A.conv .u64 fReq), 3)) (
  .eqs ((.agg [.int .i64 false (A.call fn90 (fCTime, fCPos, fCMode, fCNext, fCMember)).1.1, .sl (.int .u8) (A.call fn90 (fCTime, fCPos, fCMode, fCNext, fCMember)).1.2] : AV) = .agg [.int .i64 false (A.call fn90 (fCTime, fCPos, fCMode, fCNext, fCMember)).1.1, .sl (.int .u8) (A.call fn90 (fCTime, fCPos, fCMode, fCNext, fCMember)).1.2]) (
  .eqs ((.sl (.int .u8) fData : AV) = .sl (.int .u8) fData) (
  .eqs ((.ptr 0 8 : AV) = .ptr 0 8) (
  .more (.c0 ⟨fData, (A.len fData), (A.call fn90 (fCTime, fCPos, fCMode, fCNext, fCMember)).1.1, (A.call fn90 (fCTime, fCPos, fCMode, fCNext, fCMember)).1.2, 0, (A.call fn90 (fCTime, fCPos, fCMode, fCNext, fCMember)).1.1, (A.call fn90 (fCTime, fCPos, fCMode, fCNext, fCMember)).1.2⟩ 0 (A.call fn132 ((A.call fn132 ((0, ([] : List Int)), (A.conv .u64 (A.bin .sub .i64 fKind 1)), 2)).1, (A.conv .u64 fReq), 3)).1.1 (A.call fn132 ((A.call fn132 ((0, ([] : List Int)), (A.conv .u64 (A.bin .sub .i64 fKind 1)), 2)).1, (A.conv .u64 fReq), 3)).1.2 (A.call fn132 ((A.call fn132 ((0, ([] : List Int)), (A.conv .u64 (A.bin .sub .i64 fKind 1)), 2)).1, (A.conv .u64 fReq), 3)).2))))))
  (.eqs ((.agg [.int .i64 false (A.call fn90 (fCTime, fCPos, fCMode, fCNext, fCMember)).1.1, .sl (.int .u8) (A.call fn90 (fCTime, fCPos, fCMode, fCNext, fCMember)).1.2] : AV) = .agg [.int .i64 false (A.call fn90 (fCTime, fCPos, fCMode, fCNext, fCMember)).1.1, .sl (.int .u8) (A.call fn90 (fCTime, fCPos, fCMode, fCNext, fCMember)).1.2]) (
  .eqs ((.sl (.int .u8) fData : AV) = .sl (.int .u8) fData) (
  .eqs ((.ptr 0 8 : AV) = .ptr 0 8) (
  .more (.c0 ⟨fData, (A.len fData), (A.call fn90 (fCTime, fCPos, fCMode, fCNext, fCMember)).1.1, (A.call fn90 (fCTime, fCPos, fCMode, fCNext, fCMember)).1.2, 0, (A.call fn90 (fCTime, fCPos, fCMode, fCNext, fCMember)).1.1, (A.call fn90 (fCTime, fCPos, fCMode, fCNext, fCMember)).1.2⟩ 0 (A.call fn132 ((0, ([] : List Int)), (A.conv .u64 (A.bin .sub .i64 fKind 1)), 2)).1.1 (A.call fn132 ((0, ([] : List Int)), (A.conv .u64 (A.bin .sub .i64 fKind 1)), 2)).1.2 (A.call fn132 ((0, ([] : List Int)), (A.conv .u64 (A.bin .sub .i64 fKind 1)), 2)).2))))))
  (.br (A.cmp .eql fKind 3)
  (.br (A.cmp .eql (A.call fn132 ((0, ([] : List Int)), (A.conv .u64 (A.bin .sub .i64 fKind 1)), 2)).2 0)
  (.need (A.call (@tt ((Int × List Int) × Int × Int)) ((A.call fn132 ((0, ([] : List Int)), (A.conv .u64 (A.bin .sub .i64 fKind 1)), 2)).1, (A.conv .u64 fReq), 3)) (
  .eqs ((.agg [.int .i64 true 0, .esl true] : AV) = .agg [.int .i64 true 0, .esl true]) (
  .eqs ((.agg [.int .i64 false (A.call fn90 (fCTime, fCPos, fCMode, fCNext, fCMember)).1.1, .sl (.int .u8) (A.call fn90 (fCTime, fCPos, fCMode, fCNext, fCMember)).1.2] : AV) = .agg [.int .i64 false (A.call fn90 (fCTime, fCPos, fCMode, fCNext, fCMember)).1.1, .sl (.int .u8) (A.call fn90 (fCTime, fCPos, fCMode, fCNext, fCMember)).1.2]) (
  .br (A.cmp .eql (A.call fn132 ((A.call fn132 ((0, ([] : List Int)), (A.conv .u64 (A.bin .sub .i64 fKind 1)), 2)).1, (A.conv .u64 fReq), 3)).2 0)
  (.need (A.call (@tt ((Int × List Int) × Int × Int)) ((A.call fn132 ((A.call fn132 ((0, ([] : List Int)), (A.conv .u64 (A.bin .sub .i64 fKind 1)), 2)).1, (A.conv .u64 fReq), 3)).1, 0, 1)) (
  .eqs ((.agg [.int .i64 true 0, .esl true] : AV) = .agg [.int .i64 true 0, .esl true]) (
  .eqs ((.agg [.int .i64 false (A.call fn90 (fCTime, fCPos, fCMode, fCNext, fCMember)).1.1, .sl (.int .u8) (A.call fn90 (fCTime, fCPos, fCMode, fCNext, fCMember)).1.2] : AV) = .agg [.int .i64 false (A.call fn90 (fCTime, fCPos, fCMode, fCNext, fCMember)).1.1, .sl (.int .u8) (A.call fn90 (fCTime, fCPos, fCMode, fCNext, fCMember)).1.2]) (
  .br (A.cmp .eql (A.call fn132 ((A.call fn132 ((A.call fn132 ((0, ([] : List Int)), (A.conv .u64 (A.bin .sub .i64 fKind 1)), 2)).1, (A.conv .u64 fReq), 3)).1, 0, 1)).2 0)
  (.eqs ((.ptr 4 0 : AV) = .ptr 4 0) (
  .eqs ((.ptr 4 0 : AV) = .ptr 4 0) (
  .need (A.call (@tt (List (Int × List Int))) [(A.call fn132 ((A.call fn132 ((A.call fn132 ((0, ([] : List Int)), (A.conv .u64 (A.bin .sub .i64 fKind 1)), 2)).1, (A.conv .u64 fReq), 3)).1, 0, 1)).1, (A.call fn90 (fCTime, fCPos, fCMode, fCNext, fCMember)).1]) (
  .eqs ((.ptr 4 0 : AV) = .ptr 4 0) (
  .eqs ((.ptr 4 0 : AV) = .ptr 4 0) (
  .eqs (IntKind.i64 = IntKind.i64 ∧ ((A.call fn134 [(A.call fn132 ((A.call fn132 ((A.call fn132 ((0, ([] : List Int)), (A.conv .u64 (A.bin .sub .i64 fKind 1)), 2)).1, (A.conv .u64 fReq), 3)).1, 0, 1)).1, (A.call fn90 (fCTime, fCPos, fCMode, fCNext, fCMember)).1]).2 : Int) = (A.call fn134 [(A.call fn132 ((A.call fn132 ((A.call fn132 ((0, ([] : List Int)), (A.conv .u64 (A.bin .sub .i64 fKind 1)), 2)).1, (A.conv .u64 fReq), 3)).1, 0, 1)).1, (A.call fn90 (fCTime, fCPos, fCMode, fCNext, fCMember)).1]).2) (
  .eqs ((.ptr 4 0 : AV) = .ptr 4 0) (
  .eqs ((.agg [.int .i64 true 0, .esl true] : AV) = .agg [.int .i64 true 0, .esl true]) (
  .br (A.cmp .eql (A.call fn134 [(A.call fn132 ((A.call fn132 ((A.call fn132 ((0, ([] : List Int)), (A.conv .u64 (A.bin .sub .i64 fKind 1)), 2)).1, (A.conv .u64 fReq), 3)).1, 0, 1)).1, (A.call fn90 (fCTime, fCPos, fCMode, fCNext, fCMember)).1]).2 0)
  (.need (A.call (@tt ((Int × List Int) × (Int × List Int))) ((A.call fn134 [(A.call fn132 ((A.call fn132 ((A.call fn132 ((0, ([] : List Int)), (A.conv .u64 (A.bin .sub .i64 fKind 1)), 2)).1, (A.conv .u64 fReq), 3)).1, 0, 1)).1, (A.call fn90 (fCTime, fCPos, fCMode, fCNext, fCMember)).1]).1, 0, ([] : List Int))) (
  .eqs (IntKind.i64 = IntKind.i64 ∧ ((A.call fn133 ((A.call fn134 [(A.call fn132 ((A.call fn132 ((A.call fn132 ((0, ([] : List Int)), (A.conv .u64 (A.bin .sub .i64 fKind 1)), 2)).1, (A.conv .u64 fReq), 3)).1, 0, 1)).1, (A.call fn90 (fCTime, fCPos, fCMode, fCNext, fCMember)).1]).1, 0, ([] : List Int))).2 : Int) = (A.call fn133 ((A.call fn134 [(A.call fn132 ((A.call fn132 ((A.call fn132 ((0, ([] : List Int)), (A.conv .u64 (A.bin .sub .i64 fKind 1)), 2)).1, (A.conv .u64 fReq), 3)).1, 0, 1)).1, (A.call fn90 (fCTime, fCPos, fCMode, fCNext, fCMember)).1]).1, 0, ([] : List Int))).2) (
  .eqs ((.ptr 4 0 : AV) = .ptr 4 0) (
  .eqs (IntKind.i64 = IntKind.i64 ∧ ((A.call fn133 ((A.call fn134 [(A.call fn132 ((A.call fn132 ((A.call fn132 ((0, ([] : List Int)), (A.conv .u64 (A.bin .sub .i64 fKind 1)), 2)).1, (A.conv .u64 fReq), 3)).1, 0, 1)).1, (A.call fn90 (fCTime, fCPos, fCMode, fCNext, fCMember)).1]).1, 0, ([] : List Int))).2 : Int) = (A.call fn133 ((A.call fn134 [(A.call fn132 ((A.call fn132 ((A.call fn132 ((0, ([] : List Int)), (A.conv .u64 (A.bin .sub .i64 fKind 1)), 2)).1, (A.conv .u64 fReq), 3)).1, 0, 1)).1, (A.call fn90 (fCTime, fCPos, fCMode, fCNext, fCMember)).1]).1, 0, ([] : List Int))).2) (
  .eqs ((.ptr 4 2 : AV) = .ptr 4 2) (
  .eqs ((.ptr 4 0 : AV) = .ptr 4 0) (
  .eqs ((.ptr 4 0 : AV) = .ptr 4 0) (
  .ret (A.call fn133 ((A.call fn134 [(A.call fn132 ((A.call fn132 ((A.call fn132 ((0, ([] : List Int)), (A.conv .u64 (A.bin .sub .i64 fKind 1)), 2)).1, (A.conv .u64 fReq), 3)).1, 0, 1)).1, (A.call fn90 (fCTime, fCPos, fCMode, fCNext, fCMember)).1]).1, 0, ([] : List Int)))))))))))
  (.eqs (IntKind.i64 = IntKind.i64 ∧ ((A.call fn134 [(A.call fn132 ((A.call fn132 ((A.call fn132 ((0, ([] : List Int)), (A.conv .u64 (A.bin .sub .i64 fKind 1)), 2)).1, (A.conv .u64 fReq), 3)).1, 0, 1)).1, (A.call fn90 (fCTime, fCPos, fCMode, fCNext, fCMember)).1]).2 : Int) = (A.call fn134 [(A.call fn132 ((A.call fn132 ((A.call fn132 ((0, ([] : List Int)), (A.conv .u64 (A.bin .sub .i64 fKind 1)), 2)).1, (A.conv .u64 fReq), 3)).1, 0, 1)).1, (A.call fn90 (fCTime, fCPos, fCMode, fCNext, fCMember)).1]).2) (
  .eqs ((.ptr 4 2 : AV) = .ptr 4 2) (
  .eqs ((.ptr 4 0 : AV) = .ptr 4 0) (
  .eqs ((.ptr 4 0 : AV) = .ptr 4 0) (
  .ret (A.call fn134 [(A.call fn132 ((A.call fn132 ((A.call fn132 ((0, ([] : List Int)), (A.conv .u64 (A.bin .sub .i64 fKind 1)), 2)).1, (A.conv .u64 fReq), 3)).1, 0, 1)).1, (A.call fn90 (fCTime, fCPos, fCMode, fCNext, fCMember)).1])))))))))))))))
  (.eqs ((.agg [.int .i64 true 0, .esl true] : AV) = .agg [.int .i64 true 0, .esl true]) (
  .br (A.cmp .eql (A.call fn132 ((A.call fn132 ((A.call fn132 ((0, ([] : List Int)), (A.conv .u64 (A.bin .sub .i64 fKind 1)), 2)).1, (A.conv .u64 fReq), 3)).1, 0, 1)).2 0)
  (.need (A.call (@tt ((Int × List Int) × (Int × List Int))) ((A.call fn132 ((A.call fn132 ((A.call fn132 ((0, ([] : List Int)), (A.conv .u64 (A.bin .sub .i64 fKind 1)), 2)).1, (A.conv .u64 fReq), 3)).1, 0, 1)).1, 0, ([] : List Int))) (
  .eqs (IntKind.i64 = IntKind.i64 ∧ ((A.call fn133 ((A.call fn132 ((A.call fn132 ((A.call fn132 ((0, ([] : List Int)), (A.conv .u64 (A.bin .sub .i64 fKind 1)), 2)).1, (A.conv .u64 fReq), 3)).1, 0, 1)).1, 0, ([] : List Int))).2 : Int) = (A.call fn133 ((A.call fn132 ((A.call fn132 ((A.call fn132 ((0, ([] : List Int)), (A.conv .u64 (A.bin .sub .i64 fKind 1)), 2)).1, (A.conv .u64 fReq), 3)).1, 0, 1)).1, 0, ([] : List Int))).2) (
  .eqs ((.ptr 4 0 : AV) = .ptr 4 0) (
  .eqs (IntKind.i64 = IntKind.i64 ∧ ((A.call fn133 ((A.call fn132 ((A.call fn132 ((A.call fn132 ((0, ([] : List Int)), (A.conv .u64 (A.bin .sub .i64 fKind 1)), 2)).1, (A.conv .u64 fReq), 3)).1, 0, 1)).1, 0, ([] : List Int))).2 : Int) = (A.call fn133 ((A.call fn132 ((A.call fn132 ((A.call fn132 ((0, ([] : List Int)), (A.conv .u64 (A.bin .sub .i64 fKind 1)), 2)).1, (A.conv .u64 fReq), 3)).1, 0, 1)).1, 0, ([] : List Int))).2) (
  .eqs ((.ptr 4 2 : AV) = .ptr 4 2) (
  .eqs ((.ptr 4 0 : AV) = .ptr 4 0) (
  .eqs ((.ptr 4 0 : AV) = .ptr 4 0) (
  .ret (A.call fn133 ((A.call fn132 ((A.call fn132 ((A.call fn132 ((0, ([] : List Int)), (A.conv .u64 (A.bin .sub .i64 fKind 1)), 2)).1, (A.conv .u64 fReq), 3)).1, 0, 1)).1, 0, ([] : List Int)))))))))))
  (.eqs (IntKind.i64 = IntKind.i64 ∧ ((A.call fn132 ((A.call fn132 ((A.call fn132 ((0, ([] : List Int)), (A.conv .u64 (A.bin .sub .i64 fKind 1)), 2)).1, (A.conv .u64 fReq), 3)).1, 0, 1)).2 : Int) = (A.call fn132 ((A.call fn132 ((A.call fn132 ((0, ([] : List Int)), (A.conv .u64 (A.bin .sub .i64 fKind 1)), 2)).1, (A.conv .u64 fReq), 3)).1, 0, 1)).2) (
  .eqs ((.ptr 4 2 : AV) = .ptr 4 2) (
  .eqs ((.ptr 4 0 : AV) = .ptr 4 0) (
  .eqs ((.ptr 4 0 : AV) = .ptr 4 0) (
  .ret (A.call fn132 ((A.call fn132 ((A.call fn132 ((0, ([] : List Int)), (A.conv .u64 (A.bin .sub .i64 fKind 1)), 2)).1, (A.conv .u64 fReq), 3)).1, 0, 1)))))))))))))
  (.eqs ((.agg [.int .i64 true 0, .esl true] : AV) = .agg [.int .i64 true 0, .esl true]) (
  .eqs ((.agg [.int .i64 false (A.call fn90 (fCTime, fCPos, fCMode, fCNext, fCMember)).1.1, .sl (.int .u8) (A.call fn90 (fCTime, fCPos, fCMode, fCNext, fCMember)).1.2] : AV) = .agg [.int .i64 false (A.call fn90 (fCTime, fCPos, fCMode, fCNext, fCMember)).1.1, .sl (.int .u8) (A.call fn90 (fCTime, fCPos, fCMode, fCNext, fCMember)).1.2]) (
  .br (A.cmp .eql (A.call fn132 ((A.call fn132 ((0, ([] : List Int)), (A.conv .u64 (A.bin .sub .i64 fKind 1)), 2)).1, (A.conv .u64 fReq), 3)).2 0)
  (.eqs ((.ptr 4 0 : AV) = .ptr 4 0) (
  .eqs ((.ptr 4 0 : AV) = .ptr 4 0) (
  .need (A.call (@tt (List (Int × List Int))) [(A.call fn132 ((A.call fn132 ((0, ([] : List Int)), (A.conv .u64 (A.bin .sub .i64 fKind 1)), 2)).1, (A.conv .u64 fReq), 3)).1, (A.call fn90 (fCTime, fCPos, fCMode, fCNext, fCMember)).1]) (
  .eqs ((.ptr 4 0 : AV) = .ptr 4 0) (
  .eqs ((.ptr 4 0 : AV) = .ptr 4 0) (
  .eqs (IntKind.i64 = IntKind.i64 ∧ ((A.call fn134 [(A.call fn132 ((A.call fn132 ((0, ([] : List Int)), (A.conv .u64 (A.bin .sub .i64 fKind 1)), 2)).1, (A.conv .u64 fReq), 3)).1, (A.call fn90 (fCTime, fCPos, fCMode, fCNext, fCMember)).1]).2 : Int) = (A.call fn134 [(A.call fn132 ((A.call fn132 ((0, ([] : List Int)), (A.conv .u64 (A.bin .sub .i64 fKind 1)), 2)).1, (A.conv .u64 fReq), 3)).1, (A.call fn90 (fCTime, fCPos, fCMode, fCNext, fCMember)).1]).2) (
  .eqs ((.ptr 4 0 : AV) = .ptr 4 0) (
  .eqs ((.agg [.int .i64 true 0, .esl true] : AV) = .agg [.int .i64 true 0, .esl true]) (
  .br (A.cmp .eql (A.call fn134 [(A.call fn132 ((A.call fn132 ((0, ([] : List Int)), (A.conv .u64 (A.bin .sub .i64 fKind 1)), 2)).1, (A.conv .u64 fReq), 3)).1, (A.call fn90 (fCTime, fCPos, fCMode, fCNext, fCMember)).1]).2 0)
  (.need (A.call (@tt ((Int × List Int) × (Int × List Int))) ((A.call fn134 [(A.call fn132 ((A.call fn132 ((0, ([] : List Int)), (A.conv .u64 (A.bin .sub .i64 fKind 1)), 2)).1, (A.conv .u64 fReq), 3)).1, (A.call fn90 (fCTime, fCPos, fCMode, fCNext, fCMember)).1]).1, 0, ([] : List Int))) (
  .eqs (IntKind.i64 = IntKind.i64 ∧ ((A.call fn133 ((A.call fn134 [(A.call fn132 ((A.call fn132 ((0, ([] : List Int)), (A.conv .u64 (A.bin .sub .i64 fKind 1)), 2)).1, (A.conv .u64 fReq), 3)).1, (A.call fn90 (fCTime, fCPos, fCMode, fCNext, fCMember)).1]).1, 0, ([] : List Int))).2 : Int) = (A.call fn133 ((A.call fn134 [(A.call fn132 ((A.call fn132 ((0, ([] : List Int)), (A.conv .u64 (A.bin .sub .i64 fKind 1)), 2)).1, (A.conv .u64 fReq), 3)).1, (A.call fn90 (fCTime, fCPos, fCMode, fCNext, fCMember)).1]).1, 0, ([] : List Int))).2) (
  .eqs ((.ptr 4 0 : AV) = .ptr 4 0) (
  .eqs (IntKind.i64 = IntKind.i64 ∧ ((A.call fn133 ((A.call fn134 [(A.call fn132 ((A.call fn132 ((0, ([] : List Int)), (A.conv .u64 (A.bin .sub .i64 fKind 1)), 2)).1, (A.conv .u64 fReq), 3)).1, (A.call fn90 (fCTime, fCPos, fCMode, fCNext, fCMember)).1]).1, 0, ([] : List Int))).2 : Int) = (A.call fn133 ((A.call fn134 [(A.call fn132 ((A.call fn132 ((0, ([] : List Int)), (A.conv .u64 (A.bin .sub .i64 fKind 1)), 2)).1, (A.conv .u64 fReq), 3)).1, (A.call fn90 (fCTime, fCPos, fCMode, fCNext, fCMember)).1]).1, 0, ([] : List Int))).2) (
  .eqs ((.ptr 4 2 : AV) = .ptr 4 2) (
  .eqs ((.ptr 4 0 : AV) = .ptr 4 0) (
  .eqs ((.ptr 4 0 : AV) = .ptr 4 0) (
  .ret (A.call fn133 ((A.call fn134 [(A.call fn132 ((A.call fn132 ((0, ([] : List Int)), (A.conv .u64 (A.bin .sub .i64 fKind 1)), 2)).1, (A.conv .u64 fReq), 3)).1, (A.call fn90 (fCTime, fCPos, fCMode, fCNext, fCMember)).1]).1, 0, ([] : List Int)))))))))))
  (.eqs (IntKind.i64 = IntKind.i64 ∧ ((A.call fn134 [(A.call fn132 ((A.call fn132 ((0, ([] : List Int)), (A.conv .u64 (A.bin .sub .i64 fKind 1)), 2)).1, (A.conv .u64 fReq), 3)).1, (A.call fn90 (fCTime, fCPos, fCMode, fCNext, fCMember)).1]).2 : Int) = (A.call fn134 [(A.call fn132 ((A.call fn132 ((0, ([] : List Int)), (A.conv .u64 (A.bin .sub .i64 fKind 1)), 2)).1, (A.conv .u64 fReq), 3)).1, (A.call fn90 (fCTime, fCPos, fCMode, fCNext, fCMember)).1]).2) (
  .eqs ((.ptr 4 2 : AV) = .ptr 4 2) (
  .eqs ((.ptr 4 0 : AV) = .ptr 4 0) (
  .eqs ((.ptr 4 0 : AV) = .ptr 4 0) (
  .ret (A.call fn134 [(A.call fn132 ((A.call fn132 ((0, ([] : List Int)), (A.conv .u64 (A.bin .sub .i64 fKind 1)), 2)).1, (A.conv .u64 fReq), 3)).1, (A.call fn90 (fCTime, fCPos, fCMode, fCNext, fCMember)).1])))))))))))))))
  (.eqs ((.agg [.int .i64 true 0, .esl true] : AV) = .agg [.int .i64 true 0, .esl true]) (
  .br (A.cmp .eql (A.call fn132 ((A.call fn132 ((0, ([] : List Int)), (A.conv .u64 (A.bin .sub .i64 fKind 1)), 2)).1, (A.conv .u64 fReq), 3)).2 0)
  (.need (A.call (@tt ((Int × List Int) × (Int × List Int))) ((A.call fn132 ((A.call fn132 ((0, ([] : List Int)), (A.conv .u64 (A.bin .sub .i64 fKind 1)), 2)).1, (A.conv .u64 fReq), 3)).1, 0, ([] : List Int))) (
  .eqs (IntKind.i64 = IntKind.i64 ∧ ((A.call fn133 ((A.call fn132 ((A.call fn132 ((0, ([] : List Int)), (A.conv .u64 (A.bin .sub .i64 fKind 1)), 2)).1, (A.conv .u64 fReq), 3)).1, 0, ([] : List Int))).2 : Int) = (A.call fn133 ((A.call fn132 ((A.call fn132 ((0, ([] : List Int)), (A.conv .u64 (A.bin .sub .i64 fKind 1)), 2)).1, (A.conv .u64 fReq), 3)).1, 0, ([] : List Int))).2) (
  .eqs ((.ptr 4 0 : AV) = .ptr 4 0) (
  .eqs (IntKind.i64 = IntKind.i64 ∧ ((A.call fn133 ((A.call fn132 ((A.call fn132 ((0, ([] : List Int)), (A.conv .u64 (A.bin .sub .i64 fKind 1)), 2)).1, (A.conv .u64 fReq), 3)).1, 0, ([] : List Int))).2 : Int) = (A.call fn133 ((A.call fn132 ((A.call fn132 ((0, ([] : List Int)), (A.conv .u64 (A.bin .sub .i64 fKind 1)), 2)).1, (A.conv .u64 fReq), 3)).1, 0, ([] : List Int))).2) (
  .eqs ((.ptr 4 2 : AV) = .ptr 4 2) (
  .eqs ((.ptr 4 0 : AV) = .ptr 4 0) (
  .eqs ((.ptr 4 0 : AV) = .ptr 4 0) (
  .ret (A.call fn133 ((A.call fn132 ((A.call fn132 ((0, ([] : List Int)), (A.conv .u64 (A.bin .sub .i64 fKind 1)), 2)).1, (A.conv .u64 fReq), 3)).1, 0, ([] : List Int)))))))))))
  (.eqs (IntKind.i64 = IntKind.i64 ∧ ((A.call fn132 ((A.call fn132 ((0, ([] : List Int)), (A.conv .u64 (A.bin .sub .i64 fKind 1)), 2)).1, (A.conv .u64 fReq), 3)).2 : Int) = (A.call fn132 ((A.call fn132 ((0, ([] : List Int)), (A.conv .u64 (A.bin .sub .i64 fKind 1)), 2)).1, (A.conv .u64 fReq), 3)).2) (
  .eqs ((.ptr 4 2 : AV) = .ptr 4 2) (
  .eqs ((.ptr 4 0 : AV) = .ptr 4 0) (
  .eqs ((.ptr 4 0 : AV) = .ptr 4 0) (
  .ret (A.call fn132 ((A.call fn132 ((0, ([] : List Int)), (A.conv .u64 (A.bin .sub .i64 fKind 1)), 2)).1, (A.conv .u64 fReq), 3))))))))))))))))
  (.eqs ((.agg [.int .i64 true 0, .esl true] : AV) = .agg [.int .i64 true 0, .esl true]) (
  .eqs ((.agg [.int .i64 false (A.call fn90 (fCTime, fCPos, fCMode, fCNext, fCMember)).1.1, .sl (.int .u8) (A.call fn90 (fCTime, fCPos, fCMode, fCNext, fCMember)).1.2] : AV) = .agg [.int .i64 false (A.call fn90 (fCTime, fCPos, fCMode, fCNext, fCMember)).1.1, .sl (.int .u8) (A.call fn90 (fCTime, fCPos, fCMode, fCNext, fCMember)).1.2]) (
  .br (A.cmp .eql (A.call fn132 ((0, ([] : List Int)), (A.conv .u64 (A.bin .sub .i64 fKind 1)), 2)).2 0)
  (.need (A.call (@tt ((Int × List Int) × Int × Int)) ((A.call fn132 ((0, ([] : List Int)), (A.conv .u64 (A.bin .sub .i64 fKind 1)), 2)).1, 0, 1)) (
  .eqs ((.agg [.int .i64 true 0, .esl true] : AV) = .agg [.int .i64 true 0, .esl true]) (
  .eqs ((.agg [.int .i64 false (A.call fn90 (fCTime, fCPos, fCMode, fCNext, fCMember)).1.1, .sl (.int .u8) (A.call fn90 (fCTime, fCPos, fCMode, fCNext, fCMember)).1.2] : AV) = .agg [.int .i64 false (A.call fn90 (fCTime, fCPos, fCMode, fCNext, fCMember)).1.1, .sl (.int .u8) (A.call fn90 (fCTime, fCPos, fCMode, fCNext, fCMember)).1.2]) (
  .br (A.cmp .eql (A.call fn132 ((A.call fn132 ((0, ([] : List Int)), (A.conv .u64 (A.bin .sub .i64 fKind 1)), 2)).1, 0, 1)).2 0)
  (.eqs ((.ptr 4 0 : AV) = .ptr 4 0) (
  .eqs ((.ptr 4 0 : AV) = .ptr 4 0) (
  .need (A.call (@tt (List (Int × List Int))) [(A.call fn132 ((A.call fn132 ((0, ([] : List Int)), (A.conv .u64 (A.bin .sub .i64 fKind 1)), 2)).1, 0, 1)).1, (A.call fn90 (fCTime, fCPos, fCMode, fCNext, fCMember)).1]) (
  .eqs ((.ptr 4 0 : AV) = .ptr 4 0) (
  .eqs ((.ptr 4 0 : AV) = .ptr 4 0) (
  .eqs (IntKind.i64 = IntKind.i64 ∧ ((A.call fn134 [(A.call fn132 ((A.call fn132 ((0, ([] : List Int)), (A.conv .u64 (A.bin .sub .i64 fKind 1)), 2)).1, 0, 1)).1, (A.call fn90 (fCTime, fCPos, fCMode, fCNext, fCMember)).1]).2 : Int) = (A.call fn134 [(A.call fn132 ((A.call fn132 ((0, ([] : List Int)), (A.conv .u64 (A.bin .sub .i64 fKind 1)), 2)).1, 0, 1)).1, (A.call fn90 (fCTime, fCPos, fCMode, fCNext, fCMember)).1]).2) (
  .eqs ((.ptr 4 0 : AV) = .ptr 4 0) (
  .eqs ((.agg [.int .i64 true 0, .esl true] : AV) = .agg [.int .i64 true 0, .esl true]) (
  .br (A.cmp .eql (A.call fn134 [(A.call fn132 ((A.call fn132 ((0, ([] : List Int)), (A.conv .u64 (A.bin .sub .i64 fKind 1)), 2)).1, 0, 1)).1, (A.call fn90 (fCTime, fCPos, fCMode, fCNext, fCMember)).1]).2 0)
  (.need (A.call (@tt ((Int × List Int) × (Int × List Int))) ((A.call fn134 [(A.call fn132 ((A.call fn132 ((0, ([] : List Int)), (A.conv .u64 (A.bin .sub .i64 fKind 1)), 2)).1, 0, 1)).1, (A.call fn90 (fCTime, fCPos, fCMode, fCNext, fCMember)).1]).1, 0, ([] : List Int))) (
  .eqs (IntKind.i64 = IntKind.i64 ∧ ((A.call fn133 ((A.call fn134 [(A.call fn132 ((A.call fn132 ((0, ([] : List Int)), (A.conv .u64 (A.bin .sub .i64 fKind 1)), 2)).1, 0, 1)).1, (A.call fn90 (fCTime, fCPos, fCMode, fCNext, fCMember)).1]).1, 0, ([] : List Int))).2 : Int) = (A.call fn133 ((A.call fn134 [(A.call fn132 ((A.call fn132 ((0, ([] : List Int)), (A.conv .u64 (A.bin .sub .i64 fKind 1)), 2)).1, 0, 1)).1, (A.call fn90 (fCTime, fCPos, fCMode, fCNext, fCMember)).1]).1, 0, ([] : List Int))).2) (
  .eqs ((.ptr 4 0 : AV) = .ptr 4 0) (
  .eqs (IntKind.i64 = IntKind.i64 ∧ ((A.call fn133 ((A.call fn134 [(A.call fn132 ((A.call fn132 ((0, ([] : List Int)), (A.conv .u64 (A.bin .sub .i64 fKind 1)), 2)).1, 0, 1)).1, (A.call fn90 (fCTime, fCPos, fCMode, fCNext, fCMember)).1]).1, 0, ([] : List Int))).2 : Int) = (A.call fn133 ((A.call fn134 [(A.call fn132 ((A.call fn132 ((0, ([] : List Int)), (A.conv .u64 (A.bin .sub .i64 fKind 1)), 2)).1, 0, 1)).1, (A.call fn90 (fCTime, fCPos, fCMode, fCNext, fCMember)).1]).1, 0, ([] : List Int))).2) (
  .eqs ((.ptr 4 2 : AV) = .ptr 4 2) (
  .eqs ((.ptr 4 0 : AV) = .ptr 4 0) (
  .eqs ((.ptr 4 0 : AV) = .ptr 4 0) (
  .ret (A.call fn133 ((A.call fn134 [(A.call fn132 ((A.call fn132 ((0, ([] : List Int)), (A.conv .u64 (A.bin .sub .i64 fKind 1)), 2)).1, 0, 1)).1, (A.call fn90 (fCTime, fCPos, fCMode, fCNext, fCMember)).1]).1, 0, ([] : List Int)))))))))))
  (.eqs (IntKind.i64 = IntKind.i64 ∧ ((A.call fn134 [(A.call fn132 ((A.call fn132 ((0, ([] : List Int)), (A.conv .u64 (A.bin .sub .i64 fKind 1)), 2)).1, 0, 1)).1, (A.call fn90 (fCTime, fCPos, fCMode, fCNext, fCMember)).1]).2 : Int) = (A.call fn134 [(A.call fn132 ((A.call fn132 ((0, ([] : List Int)), (A.conv .u64 (A.bin .sub .i64 fKind 1)), 2)).1, 0, 1)).1, (A.call fn90 (fCTime, fCPos, fCMode, fCNext, fCMember)).1]).2) (
  .eqs ((.ptr 4 2 : AV) = .ptr 4 2) (
  .eqs ((.ptr 4 0 : AV) = .ptr 4 0) (
  .eqs ((.ptr 4 0 : AV) = .ptr 4 0) (
  .ret (A.call fn134 [(A.call fn132 ((A.call fn132 ((0, ([] : List Int)), (A.conv .u64 (A.bin .sub .i64 fKind 1)), 2)).1, 0, 1)).1, (A.call fn90 (fCTime, fCPos, fCMode, fCNext, fCMember)).1])))))))))))))))
  (.eqs ((.agg [.int .i64 true 0, .esl true] : AV) = .agg [.int .i64 true 0, .esl true]) (
  .br (A.cmp .eql (A.call fn132 ((A.call fn132 ((0, ([] : List Int)), (A.conv .u64 (A.bin .sub .i64 fKind 1)), 2)).1, 0, 1)).2 0)
  (.need (A.call (@tt ((Int × List Int) × (Int × List Int))) ((A.call fn132 ((A.call fn132 ((0, ([] : List Int)), (A.conv .u64 (A.bin .sub .i64 fKind 1)), 2)).1, 0, 1)).1, 0, ([] : List Int))) (
  .eqs (IntKind.i64 = IntKind.i64 ∧ ((A.call fn133 ((A.call fn132 ((A.call fn132 ((0, ([] : List Int)), (A.conv .u64 (A.bin .sub .i64 fKind 1)), 2)).1, 0, 1)).1, 0, ([] : List Int))).2 : Int) = (A.call fn133 ((A.call fn132 ((A.call fn132 ((0, ([] : List Int)), (A.conv .u64 (A.bin .sub .i64 fKind 1)), 2)).1, 0, 1)).1, 0, ([] : List Int))).2) (
  .eqs ((.ptr 4 0 : AV) = .ptr 4 0) (
  .eqs (IntKind.i64 = IntKind.i64 ∧ ((A.call fn133 ((A.call fn132 ((A.call fn132 ((0, ([] : List Int)), (A.conv .u64 (A.bin .sub .i64 fKind 1)), 2)).1, 0, 1)).1, 0, ([] : List Int))).2 : Int) = (A.call fn133 ((A.call fn132 ((A.call fn132 ((0, ([] : List Int)), (A.conv .u64 (A.bin .sub .i64 fKind 1)), 2)).1, 0, 1)).1, 0, ([] : List Int))).2) (
  .eqs ((.ptr 4 2 : AV) = .ptr 4 2) (
  .eqs ((.ptr 4 0 : AV) = .ptr 4 0) (
  .eqs ((.ptr 4 0 : AV) = .ptr 4 0) (
  .ret (A.call fn133 ((A.call fn132 ((A.call fn132 ((0, ([] : List Int)), (A.conv .u64 (A.bin .sub .i64 fKind 1)), 2)).1, 0, 1)).1, 0, ([] : List Int)))))))))))
  (.eqs (IntKind.i64 = IntKind.i64 ∧ ((A.call fn132 ((A.call fn132 ((0, ([] : List Int)), (A.conv .u64 (A.bin .sub .i64 fKind 1)), 2)).1, 0, 1)).2 : Int) = (A.call fn132 ((A.call fn132 ((0, ([] : List Int)), (A.conv .u64 (A.bin .sub .i64 fKind 1)), 2)).1, 0, 1)).2) (
  .eqs ((.ptr 4 2 : AV) = .ptr 4 2) (
  .eqs ((.ptr 4 0 : AV) = .ptr 4 0) (
  .eqs ((.ptr 4 0 : AV) = .ptr 4 0) (
  .ret (A.call fn132 ((A.call fn132 ((0, ([] : List Int)), (A.conv .u64 (A.bin .sub .i64 fKind 1)), 2)).1, 0, 1)))))))))))))
  (.eqs ((.agg [.int .i64 true 0, .esl true] : AV) = .agg [.int .i64 true 0, .esl true]) (
  .eqs ((.agg [.int .i64 false (A.call fn90 (fCTime, fCPos, fCMode, fCNext, fCMember)).1.1, .sl (.int .u8) (A.call fn90 (fCTime, fCPos, fCMode, fCNext, fCMember)).1.2] : AV) = .agg [.int .i64 false (A.call fn90 (fCTime, fCPos, fCMode, fCNext, fCMember)).1.1, .sl (.int .u8) (A.call fn90 (fCTime, fCPos, fCMode, fCNext, fCMember)).1.2]) (
  .br (A.cmp .eql (A.call fn132 ((0, ([] : List Int)), (A.conv .u64 (A.bin .sub .i64 fKind 1)), 2)).2 0)
  (.eqs ((.ptr 4 0 : AV) = .ptr 4 0) (
  .eqs ((.ptr 4 0 : AV) = .ptr 4 0) (
  .need (A.call (@tt (List (Int × List Int))) [(A.call fn132 ((0, ([] : List Int)), (A.conv .u64 (A.bin .sub .i64 fKind 1)), 2)).1, (A.call fn90 (fCTime, fCPos, fCMode, fCNext, fCMember)).1]) (
  .eqs ((.ptr 4 0 : AV) = .ptr 4 0) (
  .eqs ((.ptr 4 0 : AV) = .ptr 4 0) (
  .eqs (IntKind.i64 = IntKind.i64 ∧ ((A.call fn134 [(A.call fn132 ((0, ([] : List Int)), (A.conv .u64 (A.bin .sub .i64 fKind 1)), 2)).1, (A.call fn90 (fCTime, fCPos, fCMode, fCNext, fCMember)).1]).2 : Int) = (A.call fn134 [(A.call fn132 ((0, ([] : List Int)), (A.conv .u64 (A.bin .sub .i64 fKind 1)), 2)).1, (A.call fn90 (fCTime, fCPos, fCMode, fCNext, fCMember)).1]).2) (
  .eqs ((.ptr 4 0 : AV) = .ptr 4 0) (
  .eqs ((.agg [.int .i64 true 0, .esl true] : AV) = .agg [.int .i64 true 0, .esl true]) (
  .br (A.cmp .eql (A.call fn134 [(A.call fn132 ((0, ([] : List Int)), (A.conv .u64 (A.bin .sub .i64 fKind 1)), 2)).1, (A.call fn90 (fCTime, fCPos, fCMode, fCNext, fCMember)).1]).2 0)
  (.need (A.call (@tt ((Int × List Int) × (Int × List Int))) ((A.call fn134 [(A.call fn132 ((0, ([] : List Int)), (A.conv .u64 (A.bin .sub .i64 fKind 1)), 2)).1, (A.call fn90 (fCTime, fCPos, fCMode, fCNext, fCMember)).1]).1, 0, ([] : List Int))) (
  .eqs (IntKind.i64 = IntKind.i64 ∧ ((A.call fn133 ((A.call fn134 [(A.call fn132 ((0, ([] : List Int)), (A.conv .u64 (A.bin .sub .i64 fKind 1)), 2)).1, (A.call fn90 (fCTime, fCPos, fCMode, fCNext, fCMember)).1]).1, 0, ([] : List Int))).2 : Int) = (A.call fn133 ((A.call fn134 [(A.call fn132 ((0, ([] : List Int)), (A.conv .u64 (A.bin .sub .i64 fKind 1)), 2)).1, (A.call fn90 (fCTime, fCPos, fCMode, fCNext, fCMember)).1]).1, 0, ([] : List Int))).2) (
  .eqs ((.ptr 4 0 : AV) = .ptr 4 0) (
  .eqs (IntKind.i64 = IntKind.i64 ∧ ((A.call fn133 ((A.call fn134 [(A.call fn132 ((0, ([] : List Int)), (A.conv .u64 (A.bin .sub .i64 fKind 1)), 2)).1, (A.call fn90 (fCTime, fCPos, fCMode, fCNext, fCMember)).1]).1, 0, ([] : List Int))).2 : Int) = (A.call fn133 ((A.call fn134 [(A.call fn132 ((0, ([] : List Int)), (A.conv .u64 (A.bin .sub .i64 fKind 1)), 2)).1, (A.call fn90 (fCTime, fCPos, fCMode, fCNext, fCMember)).1]).1, 0, ([] : List Int))).2) (
  .eqs ((.ptr 4 2 : AV) = .ptr 4 2) (
  .eqs ((.ptr 4 0 : AV) = .ptr 4 0) (
  .eqs ((.ptr 4 0 : AV) = .ptr 4 0) (
  .ret (A.call fn133 ((A.call fn134 [(A.call fn132 ((0, ([] : List Int)), (A.conv .u64 (A.bin .sub .i64 fKind 1)), 2)).1, (A.call fn90 (fCTime, fCPos, fCMode, fCNext, fCMember)).1]).1, 0, ([] : List Int)))))))))))
  (.eqs (IntKind.i64 = IntKind.i64 ∧ ((A.call fn134 [(A.call fn132 ((0, ([] : List Int)), (A.conv .u64 (A.bin .sub .i64 fKind 1)), 2)).1, (A.call fn90 (fCTime, fCPos, fCMode, fCNext, fCMember)).1]).2 : Int) = (A.call fn134 [(A.call fn132 ((0, ([] : List Int)), (A.conv .u64 (A.bin .sub .i64 fKind 1)), 2)).1, (A.call fn90 (fCTime, fCPos, fCMode, fCNext, fCMember)).1]).2) (
  .eqs ((.ptr 4 2 : AV) = .ptr 4 2) (
  .eqs ((.ptr 4 0 : AV) = .ptr 4 0) (
  .eqs ((.ptr 4 0 : AV) = .ptr 4 0) (
  .ret (A.call fn134 [(A.call fn132 ((0, ([] : List Int)), (A.conv .u64 (A.bin .sub .i64 fKind 1)), 2)).1, (A.call fn90 (fCTime, fCPos, fCMode, fCNext, fCMember)).1])))))))))))))))
  (.eqs ((.agg [.int .i64 true 0, .esl true] : AV) = .agg [.int .i64 true 0, .esl true]) (
  .br (A.cmp .eql (A.call fn132 ((0, ([] : List Int)), (A.conv .u64 (A.bin .sub .i64 fKind 1)), 2)).2 0)
  (.need (A.call (@tt ((Int × List Int) × (Int × List Int))) ((A.call fn132 ((0, ([] : List Int)), (A.conv .u64 (A.bin .sub .i64 fKind 1)), 2)).1, 0, ([] : List Int))) (
  .eqs (IntKind.i64 = IntKind.i64 ∧ ((A.call fn133 ((A.call fn132 ((0, ([] : List Int)), (A.conv .u64 (A.bin .sub .i64 fKind 1)), 2)).1, 0, ([] : List Int))).2 : Int) = (A.call fn133 ((A.call fn132 ((0, ([] : List Int)), (A.conv .u64 (A.bin .sub .i64 fKind 1)), 2)).1, 0, ([] : List Int))).2) (
  .eqs ((.ptr 4 0 : AV) = .ptr 4 0) (
  .eqs (IntKind.i64 = IntKind.i64 ∧ ((A.call fn133 ((A.call fn132 ((0, ([] : List Int)), (A.conv .u64 (A.bin .sub .i64 fKind 1)), 2)).1, 0, ([] : List Int))).2 : Int) = (A.call fn133 ((A.call fn132 ((0, ([] : List Int)), (A.conv .u64 (A.bin .sub .i64 fKind 1)), 2)).1, 0, ([] : List Int))).2) (
  .eqs ((.ptr 4 2 : AV) = .ptr 4 2) (
  .eqs ((.ptr 4 0 : AV) = .ptr 4 0) (
  .eqs ((.ptr 4 0 : AV) = .ptr 4 0) (
  .ret (A.call fn133 ((A.call fn132 ((0, ([] : List Int)), (A.conv .u64 (A.bin .sub .i64 fKind 1)), 2)).1, 0, ([] : List Int)))))))))))
  (.eqs (IntKind.i64 = IntKind.i64 ∧ ((A.call fn132 ((0, ([] : List Int)), (A.conv .u64 (A.bin .sub .i64 fKind 1)), 2)).2 : Int) = (A.call fn132 ((0, ([] : List Int)), (A.conv .u64 (A.bin .sub .i64 fKind 1)), 2)).2) (
  .eqs ((.ptr 4 2 : AV) = .ptr 4 2) (
  .eqs ((.ptr 4 0 : AV) = .ptr 4 0) (
  .eqs ((.ptr 4 0 : AV) = .ptr 4 0) (
  .ret (A.call fn132 ((0, ([] : List Int)), (A.conv .u64 (A.bin .sub .i64 fKind 1)), 2))))))))))))))))
  (.br (A.cmp .eql fKind 4)
  (.br (A.cmp .eql (A.call fn132 ((0, ([] : List Int)), (A.conv .u64 (A.bin .sub .i64 fKind 1)), 2)).2 0)
  (.need (A.call (@tt ((Int × List Int) × Int × Int)) ((A.call fn132 ((0, ([] : List Int)), (A.conv .u64 (A.bin .sub .i64 fKind 1)), 2)).1, (A.conv .u64 fReq), 3)) (
  .eqs ((.agg [.int .i64 false (A.call fn90 (fCTime, fCPos, fCMode, fCNext, fCMember)).1.1, .sl (.int .u8) (A.call fn90 (fCTime, fCPos, fCMode, fCNext, fCMember)).1.2] : AV) = .agg [.int .i64 false (A.call fn90 (fCTime, fCPos, fCMode, fCNext, fCMember)).1.1, .sl (.int .u8) (A.call fn90 (fCTime, fCPos, fCMode, fCNext, fCMember)).1.2]) (
  .eqs ((.sl (.int .u8) fData : AV) = .sl (.int .u8) fData) (
  .eqs ((.ptr 0 8 : AV) = .ptr 0 8) (
  .eqs ((.agg [.int .i64 true 0, .esl true] : AV) = .agg [.int .i64 true 0, .esl true]) (
  .eqs ((.agg [.int .i64 false (A.call fn90 (fCTime, fCPos, fCMode, fCNext, fCMember)).1.1, .sl (.int .u8) (A.call fn90 (fCTime, fCPos, fCMode, fCNext, fCMember)).1.2] : AV) = .agg [.int .i64 false (A.call fn90 (fCTime, fCPos, fCMode, fCNext, fCMember)).1.1, .sl (.int .u8) (A.call fn90 (fCTime, fCPos, fCMode, fCNext, fCMember)).1.2]) (
  .br (A.cmp .eql (A.call fn132 ((A.call fn132 ((0, ([] : List Int)), (A.conv .u64 (A.bin .sub .i64 fKind 1)), 2)).1, (A.conv .u64 fReq), 3)).2 0)
  (.need (A.call (@tt ((Int × List Int) × Int × Int)) ((A.call fn132 ((A.call fn132 ((0, ([] : List Int)), (A.conv .u64 (A.bin .sub .i64 fKind 1)), 2)).1, (A.conv .u64 fReq), 3)).1, 0, 2)) (
  .eqs ((.agg [.int .i64 false (A.call fn90 (fCTime, fCPos, fCMode, fCNext, fCMember)).1.1, .sl (.int .u8) (A.call fn90 (fCTime, fCPos, fCMode, fCNext, fCMember)).1.2] : AV) = .agg [.int .i64 false (A.call fn90 (fCTime, fCPos, fCMode, fCNext, fCMember)).1.1, .sl (.int .u8) (A.call fn90 (fCTime, fCPos, fCMode, fCNext, fCMember)).1.2]) (
  .eqs ((.sl (.int .u8) fData : AV) = .sl (.int .u8) fData) (
  .eqs ((.ptr 0 8 : AV) = .ptr 0 8) (
  .eqs ((.agg [.int .i64 true 0, .esl true] : AV) = .agg [.int .i64 true 0, .esl true]) (
  .eqs ((.agg [.int .i64 false (A.call fn90 (fCTime, fCPos, fCMode, fCNext, fCMember)).1.1, .sl (.int .u8) (A.call fn90 (fCTime, fCPos, fCMode, fCNext, fCMember)).1.2] : AV) = .agg [.int .i64 false (A.call fn90 (fCTime, fCPos, fCMode, fCNext, fCMember)).1.1, .sl (.int .u8) (A.call fn90 (fCTime, fCPos, fCMode, fCNext, fCMember)).1.2]) (
  .br (A.cmp .eql (A.call fn132 ((A.call fn132 ((A.call fn132 ((0, ([] : List Int)), (A.conv .u64 (A.bin .sub .i64 fKind 1)), 2)).1, (A.conv .u64 fReq), 3)).1, 0, 2)).2 0)
  (.eqs ((.ptr 4 0 : AV) = .ptr 4 0) (
  .eqs ((.ptr 4 0 : AV) = .ptr 4 0) (
  .need (A.call (@tt (List (Int × List Int))) [(A.call fn132 ((A.call fn132 ((A.call fn132 ((0, ([] : List Int)), (A.conv .u64 (A.bin .sub .i64 fKind 1)), 2)).1, (A.conv .u64 fReq), 3)).1, 0, 2)).1, (A.call fn90 (fCTime, fCPos, fCMode, fCNext, fCMember)).1]) (
  .eqs ((.ptr 4 0 : AV) = .ptr 4 0) (
  .eqs ((.ptr 4 0 : AV) = .ptr 4 0) (
  .eqs (IntKind.i64 = IntKind.i64 ∧ ((A.call fn134 [(A.call fn132 ((A.call fn132 ((A.call fn132 ((0, ([] : List Int)), (A.conv .u64 (A.bin .sub .i64 fKind 1)), 2)).1, (A.conv .u64 fReq), 3)).1, 0, 2)).1, (A.call fn90 (fCTime, fCPos, fCMode, fCNext, fCMember)).1]).2 : Int) = (A.call fn134 [(A.call fn132 ((A.call fn132 ((A.call fn132 ((0, ([] : List Int)), (A.conv .u64 (A.bin .sub .i64 fKind 1)), 2)).1, (A.conv .u64 fReq), 3)).1, 0, 2)).1, (A.call fn90 (fCTime, fCPos, fCMode, fCNext, fCMember)).1]).2) (
  .eqs ((.ptr 4 0 : AV) = .ptr 4 0) (
  .eqs ((.agg [.int .i64 false (A.call fn90 (fCTime, fCPos, fCMode, fCNext, fCMember)).1.1, .sl (.int .u8) (A.call fn90 (fCTime, fCPos, fCMode, fCNext, fCMember)).1.2] : AV) = .agg [.int .i64 false (A.call fn90 (fCTime, fCPos, fCMode, fCNext, fCMember)).1.1, .sl (.int .u8) (A.call fn90 (fCTime, fCPos, fCMode, fCNext, fCMember)).1.2]) (
  .eqs ((.sl (.int .u8) fData : AV) = .sl (.int .u8) fData) (
  .eqs ((.ptr 0 8 : AV) = .ptr 0 8) (
  .eqs ((.agg [.int .i64 true 0, .esl true] : AV) = .agg [.int .i64 true 0, .esl true]) (
  .br (A.cmp .eql (A.call fn134 [(A.call fn132 ((A.call fn132 ((A.call fn132 ((0, ([] : List Int)), (A.conv .u64 (A.bin .sub .i64 fKind 1)), 2)).1, (A.conv .u64 fReq), 3)).1, 0, 2)).1, (A.call fn90 (fCTime, fCPos, fCMode, fCNext, fCMember)).1]).2 0)
  (.need (A.call (@tt ((Int × List Int) × (Int × List Int))) ((A.call fn134 [(A.call fn132 ((A.call fn132 ((A.call fn132 ((0, ([] : List Int)), (A.conv .u64 (A.bin .sub .i64 fKind 1)), 2)).1, (A.conv .u64 fReq), 3)).1, 0, 2)).1, (A.call fn90 (fCTime, fCPos, fCMode, fCNext, fCMember)).1]).1, 0, ([] : List Int))) (
  .eqs (IntKind.i64 = IntKind.i64 ∧ ((A.call fn133 ((A.call fn134 [(A.call fn132 ((A.call fn132 ((A.call fn132 ((0, ([] : List Int)), (A.conv .u64 (A.bin .sub .i64 fKind 1)), 2)).1, (A.conv .u64 fReq), 3)).1, 0, 2)).1, (A.call fn90 (fCTime, fCPos, fCMode, fCNext, fCMember)).1]).1, 0, ([] : List Int))).2 : Int) = (A.call fn133 ((A.call fn134 [(A.call fn132 ((A.call fn132 ((A.call fn132 ((0, ([] : List Int)), (A.conv .u64 (A.bin .sub .i64 fKind 1)), 2)).1, (A.conv .u64 fReq), 3)).1, 0, 2)).1, (A.call fn90 (fCTime, fCPos, fCMode, fCNext, fCMember)).1]).1, 0, ([] : List Int))).2) (
  .eqs ((.ptr 4 0 : AV) = .ptr 4 0) (
  .eqs ((.agg [.int .i64 false (A.call fn90 (fCTime, fCPos, fCMode, fCNext, fCMember)).1.1, .sl (.int .u8) (A.call fn90 (fCTime, fCPos, fCMode, fCNext, fCMember)).1.2] : AV) = .agg [.int .i64 false (A.call fn90 (fCTime, fCPos, fCMode, fCNext, fCMember)).1.1, .sl (.int .u8) (A.call fn90 (fCTime, fCPos, fCMode, fCNext, fCMember)).1.2]) (
  .eqs ((.sl (.int .u8) fData : AV) = .sl (.int .u8) fData) (
  .eqs ((.ptr 0 8 : AV) = .ptr 0 8) (
  .more (.c1 ⟨fData, (A.len fData), (A.call fn90 (fCTime, fCPos, fCMode, fCNext, fCMember)).1.1, (A.call fn90 (fCTime, fCPos, fCMode, fCNext, fCMember)).1.2, 0, (A.call fn90 (fCTime, fCPos, fCMode, fCNext, fCMember)).1.1, (A.call fn90 (fCTime, fCPos, fCMode, fCNext, fCMember)).1.2⟩ 0 (A.call fn133 ((A.call fn134 [(A.call fn132 ((A.call fn132 ((A.call fn132 ((0, ([] : List Int)), (A.conv .u64 (A.bin .sub .i64 fKind 1)), 2)).1, (A.conv .u64 fReq), 3)).1, 0, 2)).1, (A.call fn90 (fCTime, fCPos, fCMode, fCNext, fCMember)).1]).1, 0, ([] : List Int))).1.1 (A.call fn133 ((A.call fn134 [(A.call fn132 ((A.call fn132 ((A.call fn132 ((0, ([] : List Int)), (A.conv .u64 (A.bin .sub .i64 fKind 1)), 2)).1, (A.conv .u64 fReq), 3)).1, 0, 2)).1, (A.call fn90 (fCTime, fCPos, fCMode, fCNext, fCMember)).1]).1, 0, ([] : List Int))).1.2 (A.call fn133 ((A.call fn134 [(A.call fn132 ((A.call fn132 ((A.call fn132 ((0, ([] : List Int)), (A.conv .u64 (A.bin .sub .i64 fKind 1)), 2)).1, (A.conv .u64 fReq), 3)).1, 0, 2)).1, (A.call fn90 (fCTime, fCPos, fCMode, fCNext, fCMember)).1]).1, 0, ([] : List Int))).2))))))))
  (.eqs ((.agg [.int .i64 false (A.call fn90 (fCTime, fCPos, fCMode, fCNext, fCMember)).1.1, .sl (.int .u8) (A.call fn90 (fCTime, fCPos, fCMode, fCNext, fCMember)).1.2] : AV) = .agg [.int .i64 false (A.call fn90 (fCTime, fCPos, fCMode, fCNext, fCMember)).1.1, .sl (.int .u8) (A.call fn90 (fCTime, fCPos, fCMode, fCNext, fCMember)).1.2]) (
  .eqs ((.sl (.int .u8) fData : AV) = .sl (.int .u8) fData) (
  .eqs ((.ptr 0 8 : AV) = .ptr 0 8) (
  .more (.c1 ⟨fData, (A.len fData), (A.call fn90 (fCTime, fCPos, fCMode, fCNext, fCMember)).1.1, (A.call fn90 (fCTime, fCPos, fCMode, fCNext, fCMember)).1.2, 0, (A.call fn90 (fCTime, fCPos, fCMode, fCNext, fCMember)).1.1, (A.call fn90 (fCTime, fCPos, fCMode, fCNext, fCMember)).1.2⟩ 0 (A.call fn134 [(A.call fn132 ((A.call fn132 ((A.call fn132 ((0, ([] : List Int)), (A.conv .u64 (A.bin .sub .i64 fKind 1)), 2)).1, (A.conv .u64 fReq), 3)).1, 0, 2)).1, (A.call fn90 (fCTime, fCPos, fCMode, fCNext, fCMember)).1]).1.1 (A.call fn134 [(A.call fn132 ((A.call fn132 ((A.call fn132 ((0, ([] : List Int)), (A.conv .u64 (A.bin .sub .i64 fKind 1)), 2)).1, (A.conv .u64 fReq), 3)).1, 0, 2)).1, (A.call fn90 (fCTime, fCPos, fCMode, fCNext, fCMember)).1]).1.2 (A.call fn134 [(A.call fn132 ((A.call fn132 ((A.call fn132 ((0, ([] : List Int)), (A.conv .u64 (A.bin .sub .i64 fKind 1)), 2)).1, (A.conv .u64 fReq), 3)).1, 0, 2)).1, (A.call fn90 (fCTime, fCPos, fCMode, fCNext, fCMember)).1]).2)))))))))))))))))
  (.eqs ((.agg [.int .i64 false (A.call fn90 (fCTime, fCPos, fCMode, fCNext, fCMember)).1.1, .sl (.int .u8) (A.call fn90 (fCTime, fCPos, fCMode, fCNext, fCMember)).1.2] : AV) = .agg [.int .i64 false (A.call fn90 (fCTime, fCPos, fCMode, fCNext, fCMember)).1.1, .sl (.int .u8) (A.call fn90 (fCTime, fCPos, fCMode, fCNext, fCMember)).1.2]) (
  .eqs ((.sl (.int .u8) fData : AV) = .sl (.int .u8) fData) (
  .eqs ((.ptr 0 8 : AV) = .ptr 0 8) (
  .eqs ((.agg [.int .i64 true 0, .esl true] : AV) = .agg [.int .i64 true 0, .esl true]) (
  .br (A.cmp .eql (A.call fn132 ((A.call fn132 ((A.call fn132 ((0, ([] : List Int)), (A.conv .u64 (A.bin .sub .i64 fKind 1)), 2)).1, (A.conv .u64 fReq), 3)).1, 0, 2)).2 0)
  (.need (A.call (@tt ((Int × List Int) × (Int × List Int))) ((A.call fn132 ((A.call fn132 ((A.call fn132 ((0, ([] : List Int)), (A.conv .u64 (A.bin .sub .i64 fKind 1)), 2)).1, (A.conv .u64 fReq), 3)).1, 0, 2)).1, 0, ([] : List Int))) (
  .eqs (IntKind.i64 = IntKind.i64 ∧ ((A.call fn133 ((A.call fn132 ((A.call fn132 ((A.call fn132 ((0, ([] : List Int)), (A.conv .u64 (A.bin .sub .i64 fKind 1)), 2)).1, (A.conv .u64 fReq), 3)).1, 0, 2)).1, 0, ([] : List Int))).2 : Int) = (A.call fn133 ((A.call fn132 ((A.call fn132 ((A.call fn132 ((0, ([] : List Int)), (A.conv .u64 (A.bin .sub .i64 fKind 1)), 2)).1, (A.conv .u64 fReq), 3)).1, 0, 2)).1, 0, ([] : List Int))).2) (
  .eqs ((.ptr 4 0 : AV) = .ptr 4 0) (
  .eqs ((.agg [.int .i64 false (A.call fn90 (fCTime, fCPos, fCMode, fCNext, fCMember)).1.1, .sl (.int .u8) (A.call fn90 (fCTime, fCPos, fCMode, fCNext, fCMember)).1.2] : AV) = .agg [.int .i64 false (A.call fn90 (fCTime, fCPos, fCMode, fCNext, fCMember)).1.1, .sl (.int .u8) (A.call fn90 (fCTime, fCPos, fCMode, fCNext, fCMember)).1.2]) (
  .eqs ((.sl (.int .u8) fData : AV) = .sl (.int .u8) fData) (
  .eqs ((.ptr 0 8 : AV) = .ptr 0 8) (
  .more (.c1 ⟨fData, (A.len fData), (A.call fn90 (fCTime, fCPos, fCMode, fCNext, fCMember)).1.1, (A.call fn90 (fCTime, fCPos, fCMode, fCNext, fCMember)).1.2, 0, (A.call fn90 (fCTime, fCPos, fCMode, fCNext, fCMember)).1.1, (A.call fn90 (fCTime, fCPos, fCMode, fCNext, fCMember)).1.2⟩ 0 (A.call fn133 ((A.call fn132 ((A.call fn132 ((A.call fn132 ((0, ([] : List Int)), (A.conv .u64 (A.bin .sub .i64 fKind 1)), 2)).1, (A.conv .u64 fReq), 3)).1, 0, 2)).1, 0, ([] : List Int))).1.1 (A.call fn133 ((A.call fn132 ((A.call fn132 ((A.call fn132 ((0, ([] : List Int)), (A.conv .u64 (A.bin .sub .i64 fKind 1)), 2)).1, (A.conv .u64 fReq), 3)).1, 0, 2)).1, 0, ([] : List Int))).1.2 (A.call fn133 ((A.call fn132 ((A.call fn132 ((A.call fn132 ((0, ([] : List Int)), (A.conv .u64 (A.bin .sub .i64 fKind 1)), 2)).1, (A.conv .u64 fReq), 3)).1, 0, 2)).1, 0, ([] : List Int))).2))))))))
  (.eqs ((.agg [.int .i64 false (A.call fn90 (fCTime, fCPos, fCMode, fCNext, fCMember)).1.1, .sl (.int .u8) (A.call fn90 (fCTime, fCPos, fCMode, fCNext, fCMember)).1.2] : AV) = .agg [.int .i64 false (A.call fn90 (fCTime, fCPos, fCMode, fCNext, fCMember)).1.1, .sl (.int .u8) (A.call fn90 (fCTime, fCPos, fCMode, fCNext, fCMember)).1.2]) (
  .eqs ((.sl (.int .u8) fData : AV) = .sl (.int .u8) fData) (
  .eqs ((.ptr 0 8 : AV) = .ptr 0 8) (
  .more (.c1 ⟨fData, (A.len fData), (A.call fn90 (fCTime, fCPos, fCMode, fCNext, fCMember)).1.1, (A.call fn90 (fCTime, fCPos, fCMode, fCNext, fCMember)).1.2, 0, (A.call fn90 (fCTime, fCPos, fCMode, fCNext, fCMember)).1.1, (A.call fn90 (fCTime, fCPos, fCMode, fCNext, fCMember)).1.2⟩ 0 (A.call fn132 ((A.call fn132 ((A.call fn132 ((0, ([] : List Int)), (A.conv .u64 (A.bin .sub .i64 fKind 1)), 2)).1, (A.conv .u64 fReq), 3)).1, 0, 2)).1.1 (A.call fn132 ((A.call fn132 ((A.call fn132 ((0, ([] : List Int)), (A.conv .u64 (A.bin .sub .i64 fKind 1)), 2)).1, (A.conv .u64 fReq), 3)).1, 0, 2)).1.2 (A.call fn132 ((A.call fn132 ((A.call fn132 ((0, ([] : List Int)), (A.conv .u64 (A.bin .sub .i64 fKind 1)), 2)).1, (A.conv .u64 fReq), 3)).1, 0, 2)).2)))))))))))))))))
  (.eqs ((.agg [.int .i64 false (A.call fn90 (fCTime, fCPos, fCMode, fCNext, fCMember)).1.1, .sl (.int .u8) (A.call fn90 (fCTime, fCPos, fCMode, fCNext, fCMember)).1.2] : AV) = .agg [.int .i64 false (A.call fn90 (fCTime, fCPos, fCMode, fCNext, fCMember)).1.1, .sl (.int .u8) (A.call fn90 (fCTime, fCPos, fCMode, fCNext, fCMember)).1.2]) (
  .eqs ((.sl (.int .u8) fData : AV) = .sl (.int .u8) fData) (
  .eqs ((.ptr 0 8 : AV) = .ptr 0 8) (
  .eqs ((.agg [.int .i64 true 0, .esl true] : AV) = .agg [.int .i64 true 0, .esl true]) (
  .eqs ((.agg [.int .i64 false (A.call fn90 (fCTime, fCPos, fCMode, fCNext, fCMember)).1.1, .sl (.int .u8) (A.call fn90 (fCTime, fCPos, fCMode, fCNext, fCMember)).1.2] : AV) = .agg [.int .i64 false (A.call fn90 (fCTime, fCPos, fCMode, fCNext, fCMember)).1.1, .sl (.int .u8) (A.call fn90 (fCTime, fCPos, fCMode, fCNext, fCMember)).1.2]) (
  .br (A.cmp .eql (A.call fn132 ((A.call fn132 ((0, ([] : List Int)), (A.conv .u64 (A.bin .sub .i64 fKind 1)), 2)).1, (A.conv .u64 fReq), 3)).2 0)
  (.eqs ((.ptr 4 0 : AV) = .ptr 4 0) (
  .eqs ((.ptr 4 0 : AV) = .ptr 4 0) (
  .need (A.call (@tt (List (Int × List Int))) [(A.call fn132 ((A.call fn132 ((0, ([] : List Int)), (A.conv .u64 (A.bin .sub .i64 fKind 1)), 2)).1, (A.conv .u64 fReq), 3)).1, (A.call fn90 (fCTime, fCPos, fCMode, fCNext, fCMember)).1]) (
  .eqs ((.ptr 4 0 : AV) = .ptr 4 0) (
  .eqs ((.ptr 4 0 : AV) = .ptr 4 0) (
  .eqs (IntKind.i64 = IntKind.i64 ∧ ((A.call fn134 [(A.call fn132 ((A.call fn132 ((0, ([] : List Int)), (A.conv .u64 (A.bin .sub .i64 fKind 1)), 2)).1, (A.conv .u64 fReq), 3)).1, (A.call fn90 (fCTime, fCPos, fCMode, fCNext, fCMember)).1]).2 : Int) = (A.call fn134 [(A.call fn132 ((A.call fn132 ((0, ([] : List Int)), (A.conv .u64 (A.bin .sub .i64 fKind 1)), 2)).1, (A.conv .u64 fReq), 3)).1, (A.call fn90 (fCTime, fCPos, fCMode, fCNext, fCMember)).1]).2) (
  .eqs ((.ptr 4 0 : AV) = .ptr 4 0) (
  .eqs ((.agg [.int .i64 false (A.call fn90 (fCTime, fCPos, fCMode, fCNext, fCMember)).1.1, .sl (.int .u8) (A.call fn90 (fCTime, fCPos, fCMode, fCNext, fCMember)).1.2] : AV) = .agg [.int .i64 false (A.call fn90 (fCTime, fCPos, fCMode, fCNext, fCMember)).1.1, .sl (.int .u8) (A.call fn90 (fCTime, fCPos, fCMode, fCNext, fCMember)).1.2]) (
  .eqs ((.sl (.int .u8) fData : AV) = .sl (.int .u8) fData) (
  .eqs ((.ptr 0 8 : AV) = .ptr 0 8) (
  .eqs ((.agg [.int .i64 true 0, .esl true] : AV) = .agg [.int .i64 true 0, .esl true]) (
  .br (A.cmp .eql (A.call fn134 [(A.call fn132 ((A.call fn132 ((0, ([] : List Int)), (A.conv .u64 (A.bin .sub .i64 fKind 1)), 2)).1, (A.conv .u64 fReq), 3)).1, (A.call fn90 (fCTime, fCPos, fCMode, fCNext, fCMember)).1]).2 0)
  (.need (A.call (@tt ((Int × List Int) × (Int × List Int))) ((A.call fn134 [(A.call fn132 ((A.call fn132 ((0, ([] : List Int)), (A.conv .u64 (A.bin .sub .i64 fKind 1)), 2)).1, (A.conv .u64 fReq), 3)).1, (A.call fn90 (fCTime, fCPos, fCMode, fCNext, fCMember)).1]).1, 0, ([] : List Int))) (
  .eqs (IntKind.i64 = IntKind.i64 ∧ ((A.call fn133 ((A.call fn134 [(A.call fn132 ((A.call fn132 ((0, ([] : List Int)), (A.conv .u64 (A.bin .sub .i64 fKind 1)), 2)).1, (A.conv .u64 fReq), 3)).1, (A.call fn90 (fCTime, fCPos, fCMode, fCNext, fCMember)).1]).1, 0, ([] : List Int))).2 : Int) = (A.call fn133 ((A.call fn134 [(A.call fn132 ((A.call fn132 ((0, ([] : List Int)), (A.conv .u64 (A.bin .sub .i64 fKind 1)), 2)).1, (A.conv .u64 fReq), 3)).1, (A.call fn90 (fCTime, fCPos, fCMode, fCNext, fCMember)).1]).1, 0, ([] : List Int))).2) (
  .eqs ((.ptr 4 0 : AV) = .ptr 4 0) (
  .eqs ((.agg [.int .i64 false (A.call fn90 (fCTime, fCPos, fCMode, fCNext, fCMember)).1.1, .sl (.int .u8) (A.call fn90 (fCTime, fCPos, fCMode, fCNext, fCMember)).1.2] : AV) = .agg [.int .i64 false (A.call fn90 (fCTime, fCPos, fCMode, fCNext, fCMember)).1.1, .sl (.int .u8) (A.call fn90 (fCTime, fCPos, fCMode, fCNext, fCMember)).1.2]) (
  .eqs ((.sl (.int .u8) fData : AV) = .sl (.int .u8) fData) (
  .eqs ((.ptr 0 8 : AV) = .ptr 0 8) (
  .more (.c1 ⟨fData, (A.len fData), (A.call fn90 (fCTime, fCPos, fCMode, fCNext, fCMember)).1.1, (A.call fn90 (fCTime, fCPos, fCMode, fCNext, fCMember)).1.2, 0, (A.call fn90 (fCTime, fCPos, fCMode, fCNext, fCMember)).1.1, (A.call fn90 (fCTime, fCPos, fCMode, fCNext, fCMember)).1.2⟩ 0 (A.call fn133 ((A.call fn134 [(A.call fn132 ((A.call fn132 ((0, ([] : List Int)), (A.conv .u64 (A.bin .sub .i64 fKind 1)), 2)).1, (A.conv .u64 fReq), 3)).1, (A.call fn90 (fCTime, fCPos, fCMode, fCNext, fCMember)).1]).1, 0, ([] : List Int))).1.1 (A.call fn133 ((A.call fn134 [(A.call fn132 ((A.call fn132 ((0, ([] : List Int)), (A.conv .u64 (A.bin .sub .i64 fKind 1)), 2)).1, (A.conv .u64 fReq), 3)).1, (A.call fn90 (fCTime, fCPos, fCMode, fCNext, fCMember)).1]).1, 0, ([] : List Int))).1.2 (A.call fn133 ((A.call fn134 [(A.call fn132 ((A.call fn132 ((0, ([] : List Int)), (A.conv .u64 (A.bin .sub .i64 fKind 1)), 2)).1, (A.conv .u64 fReq), 3)).1, (A.call fn90 (fCTime, fCPos, fCMode, fCNext, fCMember)).1]).1, 0, ([] : List Int))).2))))))))
  (.eqs ((.agg [.int .i64 false (A.call fn90 (fCTime, fCPos, fCMode, fCNext, fCMember)).1.1, .sl (.int .u8) (A.call fn90 (fCTime, fCPos, fCMode, fCNext, fCMember)).1.2] : AV) = .agg [.int .i64 false (A.call fn90 (fCTime, fCPos, fCMode, fCNext, fCMember)).1.1, .sl (.int .u8) (A.call fn90 (fCTime, fCPos, fCMode, fCNext, fCMember)).1.2]) (
  .eqs ((.sl (.int .u8) fData : AV) = .sl (.int .u8) fData) (
  .eqs ((.ptr 0 8 : AV) = .ptr 0 8) (
  .more (.c1 ⟨fData, (A.len fData), (A.call fn90 (fCTime, fCPos, fCMode, fCNext, fCMember)).1.1, (A.call fn90 (fCTime, fCPos, fCMode, fCNext, fCMember)).1.2, 0, (A.call fn90 (fCTime, fCPos, fCMode, fCNext, fCMember)).1.1, (A.call fn90 (fCTime, fCPos, fCMode, fCNext, fCMember)).1.2⟩ 0 (A.call fn134 [(A.call fn132 ((A.call fn132 ((0, ([] : List Int)), (A.conv .u64 (A.bin .sub .i64 fKind 1)), 2)).1, (A.conv .u64 fReq), 3)).1, (A.call fn90 (fCTime, fCPos, fCMode, fCNext, fCMember)).1]).1.1 (A.call fn134 [(A.call fn132 ((A.call fn132 ((0, ([] : List Int)), (A.conv .u64 (A.bin .sub .i64 fKind 1)), 2)).1, (A.conv .u64 fReq), 3)).1, (A.call fn90 (fCTime, fCPos, fCMode, fCNext, fCMember)).1]).1.2 (A.call fn134 [(A.call fn132 ((A.call fn132 ((0, ([] : List Int)), (A.conv .u64 (A.bin .sub .i64 fKind 1)), 2)).1, (A.conv .u64 fReq), 3)).1, (A.call fn90 (fCTime, fCPos, fCMode, fCNext, fCMember)).1]).2)))))))))))))))))
  (.eqs ((.agg [.int .i64 false (A.call fn90 (fCTime, fCPos, fCMode, fCNext, fCMember)).1.1, .sl (.int .u8) (A.call fn90 (fCTime, fCPos, fCMode, fCNext, fCMember)).1.2] : AV) = .agg [.int .i64 false (A.call fn90 (fCTime, fCPos, fCMode, fCNext, fCMember)).1.1, .sl (.int .u8) (A.call fn90 (fCTime, fCPos, fCMode, fCNext, fCMember)).1.2]) (
  .eqs ((.sl (.int .u8) fData : AV) = .sl (.int .u8) fData) (
  .eqs ((.ptr 0 8 : AV) = .ptr 0 8) (
  .eqs ((.agg [.int .i64 true 0, .esl true] : AV) = .agg [.int .i64 true 0, .esl true]) (
  .br (A.cmp .eql (A.call fn132 ((A.call fn132 ((0, ([] : List Int)), (A.conv .u64 (A.bin .sub .i64 fKind 1)), 2)).1, (A.conv .u64 fReq), 3)).2 0)
  (.need (A.call (@tt ((Int × List Int) × (Int × List Int))) ((A.call fn132 ((A.call fn132 ((0, ([] : List Int)), (A.conv .u64 (A.bin .sub .i64 fKind 1)), 2)).1, (A.conv .u64 fReq), 3)).1, 0, ([] : List Int))) (
  .eqs (IntKind.i64 = IntKind.i64 ∧ ((A.call fn133 ((A.call fn132 ((A.call fn132 ((0, ([] : List Int)), (A.conv .u64 (A.bin .sub .i64 fKind 1)), 2)).1, (A.conv .u64 fReq), 3)).1, 0, ([] : List Int))).2 : Int) = (A.call fn133 ((A.call fn132 ((A.call fn132 ((0, ([] : List Int)), (A.conv .u64 (A.bin .sub .i64 fKind 1)), 2)).1, (A.conv .u64 fReq), 3)).1, 0, ([] : List Int))).2) (
  .eqs ((.ptr 4 0 : AV) = .ptr 4 0) (
  .eqs ((.agg [.int .i64 false (A.call fn90 (fCTime, fCPos, fCMode, fCNext, fCMember)).1.1, .sl (.int .u8) (A.call fn90 (fCTime, fCPos, fCMode, fCNext, fCMember)).1.2] : AV) = .agg [.int .i64 false (A.call fn90 (fCTime, fCPos, fCMode, fCNext, fCMember)).1.1, .sl (.int .u8) (A.call fn90 (fCTime, fCPos, fCMode, fCNext, fCMember)).1.2]) (
  .eqs ((.sl (.int .u8) fData : AV) = .sl (.int .u8) fData) (
  .eqs ((.ptr 0 8 : AV) = .ptr 0 8) (
  .more (.c1 ⟨fData, (A.len fData), (A.call fn90 (fCTime, fCPos, fCMode, fCNext, fCMember)).1.1, (A.call fn90 (fCTime, fCPos, fCMode, fCNext, fCMember)).1.2, 0, (A.call fn90 (fCTime, fCPos, fCMode, fCNext, fCMember)).1.1, (A.call fn90 (fCTime, fCPos, fCMode, fCNext, fCMember)).1.2⟩ 0 (A.call fn133 ((A.call fn132 ((A.call fn132 ((0, ([] : List Int)), (A.conv .u64 (A.bin .sub .i64 fKind 1)), 2)).1, (A.conv .u64 fReq), 3)).1, 0, ([] : List Int))).1.1 (A.call fn133 ((A.call fn132 ((A.call fn132 ((0, ([] : List Int)), (A.conv .u64 (A.bin .sub .i64 fKind 1)), 2)).1, (A.conv .u64 fReq), 3)).1, 0, ([] : List Int))).1.2 (A.call fn133 ((A.call fn132 ((A.call fn132 ((0, ([] : List Int)), (A.conv .u64 (A.bin .sub .i64 fKind 1)), 2)).1, (A.conv .u64 fReq), 3)).1, 0, ([] : List Int))).2))))))))
  (.eqs ((.agg [.int .i64 false (A.call fn90 (fCTime, fCPos, fCMode, fCNext, fCMember)).1.1, .sl (.int .u8) (A.call fn90 (fCTime, fCPos, fCMode, fCNext, fCMember)).1.2] : AV) = .agg [.int .i64 false (A.call fn90 (fCTime, fCPos, fCMode, fCNext, fCMember)).1.1, .sl (.int .u8) (A.call fn90 (fCTime, fCPos, fCMode, fCNext, fCMember)).1.2]) (
  .eqs ((.sl (.int .u8) fData : AV) = .sl (.int .u8) fData) (
  .eqs ((.ptr 0 8 : AV) = .ptr 0 8) (
  .more (.c1 ⟨fData, (A.len fData), (A.call fn90 (fCTime, fCPos, fCMode, fCNext, fCMember)).1.1, (A.call fn90 (fCTime, fCPos, fCMode, fCNext, fCMember)).1.2, 0, (A.call fn90 (fCTime, fCPos, fCMode, fCNext, fCMember)).1.1, (A.call fn90 (fCTime, fCPos, fCMode, fCNext, fCMember)).1.2⟩ 0 (A.call fn132 ((A.call fn132 ((0, ([] : List Int)), (A.conv .u64 (A.bin .sub .i64 fKind 1)), 2)).1, (A.conv .u64 fReq), 3)).1.1 (A.call fn132 ((A.call fn132 ((0, ([] : List Int)), (A.conv .u64 (A.bin .sub .i64 fKind 1)), 2)).1, (A.conv .u64 fReq), 3)).1.2 (A.call fn132 ((A.call fn132 ((0, ([] : List Int)), (A.conv .u64 (A.bin .sub .i64 fKind 1)), 2)).1, (A.conv .u64 fReq), 3)).2)))))))))))))))))))))))
  (.eqs ((.agg [.int .i64 false (A.call fn90 (fCTime, fCPos, fCMode, fCNext, fCMember)).1.1, .sl (.int .u8) (A.call fn90 (fCTime, fCPos, fCMode, fCNext, fCMember)).1.2] : AV) = .agg [.int .i64 false (A.call fn90 (fCTime, fCPos, fCMode, fCNext, fCMember)).1.1, .sl (.int .u8) (A.call fn90 (fCTime, fCPos, fCMode, fCNext, fCMember)).1.2]) (
  .eqs ((.sl (.int .u8) fData : AV) = .sl (.int .u8) fData) (
  .eqs ((.ptr 0 8 : AV) = .ptr 0 8) (
  .eqs ((.agg [.int .i64 true 0, .esl true] : AV) = .agg [.int .i64 true 0, .esl true]) (
  .eqs ((.agg [.int .i64 false (A.call fn90 (fCTime, fCPos, fCMode, fCNext, fCMember)).1.1, .sl (.int .u8) (A.call fn90 (fCTime, fCPos, fCMode, fCNext, fCMember)).1.2] : AV) = .agg [.int .i64 false (A.call fn90 (fCTime, fCPos, fCMode, fCNext, fCMember)).1.1, .sl (.int .u8) (A.call fn90 (fCTime, fCPos, fCMode, fCNext, fCMember)).1.2]) (
  .br (A.cmp .eql (A.call fn132 ((0, ([] : List Int)), (A.conv .u64 (A.bin .sub .i64 fKind 1)), 2)).2 0)
  (.need (A.call (@tt ((Int × List Int) × Int × Int)) ((A.call fn132 ((0, ([] : List Int)), (A.conv .u64 (A.bin .sub .i64 fKind 1)), 2)).1, 0, 2)) (
  .eqs ((.agg [.int .i64 false (A.call fn90 (fCTime, fCPos, fCMode, fCNext, fCMember)).1.1, .sl (.int .u8) (A.call fn90 (fCTime, fCPos, fCMode, fCNext, fCMember)).1.2] : AV) = .agg [.int .i64 false (A.call fn90 (fCTime, fCPos, fCMode, fCNext, fCMember)).1.1, .sl (.int .u8) (A.call fn90 (fCTime, fCPos, fCMode, fCNext, fCMember)).1.2]) (
  .eqs ((.sl (.int .u8) fData : AV) = .sl (.int .u8) fData) (
  .eqs ((.ptr 0 8 : AV) = .ptr 0 8) (
  .eqs ((.agg [.int .i64 true 0, .esl true] : AV) = .agg [.int .i64 true 0, .esl true]) (
  .eqs ((.agg [.int .i64 false (A.call fn90 (fCTime, fCPos, fCMode, fCNext, fCMember)).1.1, .sl (.int .u8) (A.call fn90 (fCTime, fCPos, fCMode, fCNext, fCMember)).1.2] : AV) = .agg [.int .i64 false (A.call fn90 (fCTime, fCPos, fCMode, fCNext, fCMember)).1.1, .sl (.int .u8) (A.call fn90 (fCTime, fCPos, fCMode, fCNext, fCMember)).1.2]) (
  .br (A.cmp .eql (A.call fn132 ((A.call fn132 ((0, ([] : List Int)), (A.conv .u64 (A.bin .sub .i64 fKind 1)), 2)).1, 0, 2)).2 0)
  (.eqs ((.ptr 4 0 : AV) = .ptr 4 0) (
  .eqs ((.ptr 4 0 : AV) = .ptr 4 0) (
  .need (A.call (@tt (List (Int × List Int))) [(A.call fn132 ((A.call fn132 ((0, ([] : List Int)), (A.conv .u64 (A.bin .sub .i64 fKind 1)), 2)).1, 0, 2)).1, (A.call fn90 (fCTime, fCPos, fCMode, fCNext, fCMember)).1]) (
  .eqs ((.ptr 4 0 : AV) = .ptr 4 0) (
  .eqs ((.ptr 4 0 : AV) = .ptr 4 0) (
  .eqs (IntKind.i64 = IntKind.i64 ∧ ((A.call fn134 [(A.call fn132 ((A.call fn132 ((0, ([] : List Int)), (A.conv .u64 (A.bin .sub .i64 fKind 1)), 2)).1, 0, 2)).1, (A.call fn90 (fCTime, fCPos, fCMode, fCNext, fCMember)).1]).2 : Int) = (A.call fn134 [(A.call fn132 ((A.call fn132 ((0, ([] : List Int)), (A.conv .u64 (A.bin .sub .i64 fKind 1)), 2)).1, 0, 2)).1, (A.call fn90 (fCTime, fCPos, fCMode, fCNext, fCMember)).1]).2) (
  .eqs ((.ptr 4 0 : AV) = .ptr 4 0) (
  .eqs ((.agg [.int .i64 false (A.call fn90 (fCTime, fCPos, fCMode, fCNext, fCMember)).1.1, .sl (.int .u8) (A.call fn90 (fCTime, fCPos, fCMode, fCNext, fCMember)).1.2] : AV) = .agg [.int .i64 false (A.call fn90 (fCTime, fCPos, fCMode, fCNext, fCMember)).1.1, .sl (.int .u8) (A.call fn90 (fCTime, fCPos, fCMode, fCNext, fCMember)).1.2]) (
  .eqs ((.sl (.int .u8) fData : AV) = .sl (.int .u8) fData) (
  .eqs ((.ptr 0 8 : AV) = .ptr 0 8) (
  .eqs ((.agg [.int .i64 true 0, .esl true] : AV) = .agg [.int .i64 true 0, .esl true]) (
  .br (A.cmp .eql (A.call fn134 [(A.call fn132 ((A.call fn132 ((0, ([] : List Int)), (A.conv .u64 (A.bin .sub .i64 fKind 1)), 2)).1, 0, 2)).1, (A.call fn90 (fCTime, fCPos, fCMode, fCNext, fCMember)).1]).2 0)
  (.need (A.call (@tt ((Int × List Int) × (Int × List Int))) ((A.call fn134 [(A.call fn132 ((A.call fn132 ((0, ([] : List Int)), (A.conv .u64 (A.bin .sub .i64 fKind 1)), 2)).1, 0, 2)).1, (A.call fn90 (fCTime, fCPos, fCMode, fCNext, fCMember)).1]).1, 0, ([] : List Int))) (
  .eqs (IntKind.i64 = IntKind.i64 ∧ ((A.call fn133 ((A.call fn134 [(A.call fn132 ((A.call fn132 ((0, ([] : List Int)), (A.conv .u64 (A.bin .sub .i64 fKind 1)), 2)).1, 0, 2)).1, (A.call fn90 (fCTime, fCPos, fCMode, fCNext, fCMember)).1]).1, 0, ([] : List Int))).2 : Int) = (A.call fn133 ((A.call fn134 [(A.call fn132 ((A.call fn132 ((0, ([] : List Int)), (A.conv .u64 (A.bin .sub .i64 fKind 1)), 2)).1, 0, 2)).1, (A.call fn90 (fCTime, fCPos, fCMode, fCNext, fCMember)).1]).1, 0, ([] : List Int))).2) (
  .eqs ((.ptr 4 0 : AV) = .ptr 4 0) (
  .eqs ((.agg [.int .i64 false (A.call fn90 (fCTime, fCPos, fCMode, fCNext, fCMember)).1.1, .sl (.int .u8) (A.call fn90 (fCTime, fCPos, fCMode, fCNext, fCMember)).1.2] : AV) = .agg [.int .i64 false (A.call fn90 (fCTime, fCPos, fCMode, fCNext, fCMember)).1.1, .sl (.int .u8) (A.call fn90 (fCTime, fCPos, fCMode, fCNext, fCMember)).1.2]) (
  .eqs ((.sl (.int .u8) fData : AV) = .sl (.int .u8) fData) (
  .eqs ((.ptr 0 8 : AV) = .ptr 0 8) (
  .more (.c1 ⟨fData, (A.len fData), (A.call fn90 (fCTime, fCPos, fCMode, fCNext, fCMember)).1.1, (A.call fn90 (fCTime, fCPos, fCMode, fCNext, fCMember)).1.2, 0, (A.call fn90 (fCTime, fCPos, fCMode, fCNext, fCMember)).1.1, (A.call fn90 (fCTime, fCPos, fCMode, fCNext, fCMember)).1.2⟩ 0 (A.call fn133 ((A.call fn134 [(A.call fn132 ((A.call fn132 ((0, ([] : List Int)), (A.conv .u64 (A.bin .sub .i64 fKind 1)), 2)).1, 0, 2)).1, (A.call fn90 (fCTime, fCPos, fCMode, fCNext, fCMember)).1]).1, 0, ([] : List Int))).1.1 (A.call fn133 ((A.call fn134 [(A.call fn132 ((A.call fn132 ((0, ([] : List Int)), (A.conv .u64 (A.bin .sub .i64 fKind 1)), 2)).1, 0, 2)).1, (A.call fn90 (fCTime, fCPos, fCMode, fCNext, fCMember)).1]).1, 0, ([] : List Int))).1.2 (A.call fn133 ((A.call fn134 [(A.call fn132 ((A.call fn132 ((0, ([] : List Int)), (A.conv .u64 (A.bin .sub .i64 fKind 1)), 2)).1, 0, 2)).1, (A.call fn90 (fCTime, fCPos, fCMode, fCNext, fCMember)).1]).1, 0, ([] : List Int))).2))))))))
  (.eqs ((.agg [.int .i64 false (A.call fn90 (fCTime, fCPos, fCMode, fCNext, fCMember)).1.1, .sl (.int .u8) (A.call fn90 (fCTime, fCPos, fCMode, fCNext, fCMember)).1.2] : AV) = .agg [.int .i64 false (A.call fn90 (fCTime, fCPos, fCMode, fCNext, fCMember)).1.1, .sl (.int .u8) (A.call fn90 (fCTime, fCPos, fCMode, fCNext, fCMember)).1.2]) (
  .eqs ((.sl (.int .u8) fData : AV) = .sl (.int .u8) fData) (
  .eqs ((.ptr 0 8 : AV) = .ptr 0 8) (
  .more (.c1 ⟨fData, (A.len fData), (A.call fn90 (fCTime, fCPos, fCMode, fCNext, fCMember)).1.1, (A.call fn90 (fCTime, fCPos, fCMode, fCNext, fCMember)).1.2, 0, (A.call fn90 (fCTime, fCPos, fCMode, fCNext, fCMember)).1.1, (A.call fn90 (fCTime, fCPos, fCMode, fCNext, fCMember)).1.2⟩ 0 (A.call fn134 [(A.call fn132 ((A.call fn132 ((0, ([] : List Int)), (A.conv .u64 (A.bin .sub .i64 fKind 1)), 2)).1, 0, 2)).1, (A.call fn90 (fCTime, fCPos, fCMode, fCNext, fCMember)).1]).1.1 (A.call fn134 [(A.call fn132 ((A.call fn132 ((0, ([] : List Int)), (A.conv .u64 (A.bin .sub .i64 fKind 1)), 2)).1, 0, 2)).1, (A.call fn90 (fCTime, fCPos, fCMode, fCNext, fCMember)).1]).1.2 (A.call fn134 [(A.call fn132 ((A.call fn132 ((0, ([] : List Int)), (A.conv .u64 (A.bin .sub .i64 fKind 1)), 2)).1, 0, 2)).1, (A.call fn90 (fCTime, fCPos, fCMode, fCNext, fCMember)).1]).2)))))))))))))))))
  (.eqs ((.agg [.int .i64 false (A.call fn90 (fCTime, fCPos, fCMode, fCNext, fCMember)).1.1, .sl (.int .u8) (A.call fn90 (fCTime, fCPos, fCMode, fCNext, fCMember)).1.2] : AV) = .agg [.int .i64 false (A.call fn90 (fCTime, fCPos, fCMode, fCNext, fCMember)).1.1, .sl (.int .u8) (A.call fn90 (fCTime, fCPos, fCMode, fCNext, fCMember)).1.2]) (
  .eqs ((.sl (.int .u8) fData : AV) = .sl (.int .u8) fData) (
  .eqs ((.ptr 0 8 : AV) = .ptr 0 8) (
  .eqs ((.agg [.int .i64 true 0, .esl true] : AV) = .agg [.int .i64 true 0, .esl true]) (
  .br (A.cmp .eql (A.call fn132 ((A.call fn132 ((0, ([] : List Int)), (A.conv .u64 (A.bin .sub .i64 fKind 1)), 2)).1, 0, 2)).2 0)
  (.need (A.call (@tt ((Int × List Int) × (Int × List Int))) ((A.call fn132 ((A.call fn132 ((0, ([] : List Int)), (A.conv .u64 (A.bin .sub .i64 fKind 1)), 2)).1, 0, 2)).1, 0, ([] : List Int))) (
  .eqs (IntKind.i64 = IntKind.i64 ∧ ((A.call fn133 ((A.call fn132 ((A.call fn132 ((0, ([] : List Int)), (A.conv .u64 (A.bin .sub .i64 fKind 1)), 2)).1, 0, 2)).1, 0, ([] : List Int))).2 : Int) = (A.call fn133 ((A.call fn132 ((A.call fn132 ((0, ([] : List Int)), (A.conv .u64 (A.bin .sub .i64 fKind 1)), 2)).1, 0, 2)).1, 0, ([] : List Int))).2) (
  .eqs ((.ptr 4 0 : AV) = .ptr 4 0) (
  .eqs ((.agg [.int .i64 false (A.call fn90 (fCTime, fCPos, fCMode, fCNext, fCMember)).1.1, .sl (.int .u8) (A.call fn90 (fCTime, fCPos, fCMode, fCNext, fCMember)).1.2] : AV) = .agg [.int .i64 false (A.call fn90 (fCTime, fCPos, fCMode, fCNext, fCMember)).1.1, .sl (.int .u8) (A.call fn90 (fCTime, fCPos, fCMode, fCNext, fCMember)).1.2]) (
  .eqs ((.sl (.int .u8) fData : AV) = .sl (.int .u8) fData) (
  .eqs ((.ptr 0 8 : AV) = .ptr 0 8) (
  .more (.c1 ⟨fData, (A.len fData), (A.call fn90 (fCTime, fCPos, fCMode, fCNext, fCMember)).1.1, (A.call fn90 (fCTime, fCPos, fCMode, fCNext, fCMember)).1.2, 0, (A.call fn90 (fCTime, fCPos, fCMode, fCNext, fCMember)).1.1, (A.call fn90 (fCTime, fCPos, fCMode, fCNext, fCMember)).1.2⟩ 0 (A.call fn133 ((A.call fn132 ((A.call fn132 ((0, ([] : List Int)), (A.conv .u64 (A.bin .sub .i64 fKind 1)), 2)).1, 0, 2)).1, 0, ([] : List Int))).1.1 (A.call fn133 ((A.call fn132 ((A.call fn132 ((0, ([] : List Int)), (A.conv .u64 (A.bin .sub .i64 fKind 1)), 2)).1, 0, 2)).1, 0, ([] : List Int))).1.2 (A.call fn133 ((A.call fn132 ((A.call fn132 ((0, ([] : List Int)), (A.conv .u64 (A.bin .sub .i64 fKind 1)), 2)).1, 0, 2)).1, 0, ([] : List Int))).2))))))))
  (.eqs ((.agg [.int .i64 false (A.call fn90 (fCTime, fCPos, fCMode, fCNext, fCMember)).1.1, .sl (.int .u8) (A.call fn90 (fCTime, fCPos, fCMode, fCNext, fCMember)).1.2] : AV) = .agg [.int .i64 false (A.call fn90 (fCTime, fCPos, fCMode, fCNext, fCMember)).1.1, .sl (.int .u8) (A.call fn90 (fCTime, fCPos, fCMode, fCNext, fCMember)).1.2]) (
  .eqs ((.sl (.int .u8) fData : AV) = .sl (.int .u8) fData) (
  .eqs ((.ptr 0 8 : AV) = .ptr 0 8) (
  .more (.c1 ⟨fData, (A.len fData), (A.call fn90 (fCTime, fCPos, fCMode, fCNext, fCMember)).1.1, (A.call fn90 (fCTime, fCPos, fCMode, fCNext, fCMember)).1.2, 0, (A.call fn90 (fCTime, fCPos, fCMode, fCNext, fCMember)).1.1, (A.call fn90 (fCTime, fCPos, fCMode, fCNext, fCMember)).1.2⟩ 0 (A.call fn132 ((A.call fn132 ((0, ([] : List Int)), (A.conv .u64 (A.bin .sub .i64 fKind 1)), 2)).1, 0, 2)).1.1 (A.call fn132 ((A.call fn132 ((0, ([] : List Int)), (A.conv .u64 (A.bin .sub .i64 fKind 1)), 2)).1, 0, 2)).1.2 (A.call fn132 ((A.call fn132 ((0, ([] : List Int)), (A.conv .u64 (A.bin .sub .i64 fKind 1)), 2)).1, 0, 2)).2)))))))))))))))))
  (.eqs ((.agg [.int .i64 false (A.call fn90 (fCTime, fCPos, fCMode, fCNext, fCMember)).1.1, .sl (.int .u8) (A.call fn90 (fCTime, fCPos, fCMode, fCNext, fCMember)).1.2] : AV) = .agg [.int .i64 false (A.call fn90 (fCTime, fCPos, fCMode, fCNext, fCMember)).1.1, .sl (.int .u8) (A.call fn90 (fCTime, fCPos, fCMode, fCNext, fCMember)).1.2]) (
  .eqs ((.sl (.int .u8) fData : AV) = .sl (.int .u8) fData) (
  .eqs ((.ptr 0 8 : AV) = .ptr 0 8) (
  .eqs ((.agg [.int .i64 true 0, .esl true] : AV) = .agg [.int .i64 true 0, .esl true]) (
  .eqs ((.agg [.int .i64 false (A.call fn90 (fCTime, fCPos, fCMode, fCNext, fCMember)).1.1, .sl (.int .u8) (A.call fn90 (fCTime, fCPos, fCMode, fCNext, fCMember)).1.2] : AV) = .agg [.int .i64 false (A.call fn90 (fCTime, fCPos, fCMode, fCNext, fCMember)).1.1, .sl (.int .u8) (A.call fn90 (fCTime, fCPos, fCMode, fCNext, fCMember)).1.2]) (
  .br (A.cmp .eql (A.call fn132 ((0, ([] : List Int)), (A.conv .u64 (A.bin .sub .i64 fKind 1)), 2)).2 0)
  (.eqs ((.ptr 4 0 : AV) = .ptr 4 0) (
  .eqs ((.ptr 4 0 : AV) = .ptr 4 0) (
  .need (A.call (@tt (List (Int × List Int))) [(A.call fn132 ((0, ([] : List Int)), (A.conv .u64 (A.bin .sub .i64 fKind 1)), 2)).1, (A.call fn90 (fCTime, fCPos, fCMode, fCNext, fCMember)).1]) (
  .eqs ((.ptr 4 0 : AV) = .ptr 4 0) (
  .eqs ((.ptr 4 0 : AV) = .ptr 4 0) (
  .eqs (IntKind.i64 = IntKind.i64 ∧ ((A.call fn134 [(A.call fn132 ((0, ([] : List Int)), (A.conv .u64 (A.bin .sub .i64 fKind 1)), 2)).1, (A.call fn90 (fCTime, fCPos, fCMode, fCNext, fCMember)).1]).2 : Int) = (A.call fn134 [(A.call fn132 ((0, ([] : List Int)), (A.conv .u64 (A.bin .sub .i64 fKind 1)), 2)).1, (A.call fn90 (fCTime, fCPos, fCMode, fCNext, fCMember)).1]).2) (
  .eqs ((.ptr 4 0 : AV) = .ptr 4 0) (
  .eqs ((.agg [.int .i64 false (A.call fn90 (fCTime, fCPos, fCMode, fCNext, fCMember)).1.1, .sl (.int .u8) (A.call fn90 (fCTime, fCPos, fCMode, fCNext, fCMember)).1.2] : AV) = .agg [.int .i64 false (A.call fn90 (fCTime, fCPos, fCMode, fCNext, fCMember)).1.1, .sl (.int .u8) (A.call fn90 (fCTime, fCPos, fCMode, fCNext, fCMember)).1.2]) (
  .eqs ((.sl (.int .u8) fData : AV) = .sl (.int .u8) fData) (
  .eqs ((.ptr 0 8 : AV) = .ptr 0 8) (
  .eqs ((.agg [.int .i64 true 0, .esl true] : AV) = .agg [.int .i64 true 0, .esl true]) (
  .br (A.cmp .eql (A.call fn134 [(A.call fn132 ((0, ([] : List Int)), (A.conv .u64 (A.bin .sub .i64 fKind 1)), 2)).1, (A.call fn90 (fCTime, fCPos, fCMode, fCNext, fCMember)).1]).2 0)
  (.need (A.call (@tt ((Int × List Int) × (Int × List Int))) ((A.call fn134 [(A.call fn132 ((0, ([] : List Int)), (A.conv .u64 (A.bin .sub .i64 fKind 1)), 2)).1, (A.call fn90 (fCTime, fCPos, fCMode, fCNext, fCMember)).1]).1, 0, ([] : List Int))) (
  .eqs (IntKind.i64 = IntKind.i64 ∧ ((A.call fn133 ((A.call fn134 [(A.call fn132 ((0, ([] : List Int)), (A.conv .u64 (A.bin .sub .i64 fKind 1)), 2)).1, (A.call fn90 (fCTime, fCPos, fCMode, fCNext, fCMember)).1]).1, 0, ([] : List Int))).2 : Int) = (A.call fn133 ((A.call fn134 [(A.call fn132 ((0, ([] : List Int)), (A.conv .u64 (A.bin .sub .i64 fKind 1)), 2)).1, (A.call fn90 (fCTime, fCPos, fCMode, fCNext, fCMember)).1]).1, 0, ([] : List Int))).2) (
  .eqs ((.ptr 4 0 : AV) = .ptr 4 0) (
  .eqs ((.agg [.int .i64 false (A.call fn90 (fCTime, fCPos, fCMode, fCNext, fCMember)).1.1, .sl (.int .u8) (A.call fn90 (fCTime, fCPos, fCMode, fCNext, fCMember)).1.2] : AV) = .agg [.int .i64 false (A.call fn90 (fCTime, fCPos, fCMode, fCNext, fCMember)).1.1, .sl (.int .u8) (A.call fn90 (fCTime, fCPos, fCMode, fCNext, fCMember)).1.2]) (
  .eqs ((.sl (.int .u8) fData : AV) = .sl (.int .u8) fData) (
  .eqs ((.ptr 0 8 : AV) = .ptr 0 8) (
  .more (.c1 ⟨fData, (A.len fData), (A.call fn90 (fCTime, fCPos, fCMode, fCNext, fCMember)).1.1, (A.call fn90 (fCTime, fCPos, fCMode, fCNext, fCMember)).1.2, 0, (A.call fn90 (fCTime, fCPos, fCMode, fCNext, fCMember)).1.1, (A.call fn90 (fCTime, fCPos, fCMode, fCNext, fCMember)).1.2⟩ 0 (A.call fn133 ((A.call fn134 [(A.call fn132 ((0, ([] : List Int)), (A.conv .u64 (A.bin .sub .i64 fKind 1)), 2)).1, (A.call fn90 (fCTime, fCPos, fCMode, fCNext, fCMember)).1]).1, 0, ([] : List Int))).1.1 (A.call fn133 ((A.call fn134 [(A.call fn132 ((0, ([] : List Int)), (A.conv .u64 (A.bin .sub .i64 fKind 1)), 2)).1, (A.call fn90 (fCTime, fCPos, fCMode, fCNext, fCMember)).1]).1, 0, ([] : List Int))).1.2 (A.call fn133 ((A.call fn134 [(A.call fn132 ((0, ([] : List Int)), (A.conv .u64 (A.bin .sub .i64 fKind 1)), 2)).1, (A.call fn90 (fCTime, fCPos, fCMode, fCNext, fCMember)).1]).1, 0, ([] : List Int))).2))))))))
  (.eqs ((.agg [.int .i64 false (A.call fn90 (fCTime, fCPos, fCMode, fCNext, fCMember)).1.1, .sl (.int .u8) (A.call fn90 (fCTime, fCPos, fCMode, fCNext, fCMember)).1.2] : AV) = .agg [.int .i64 false (A.call fn90 (fCTime, fCPos, fCMode, fCNext, fCMember)).1.1, .sl (.int .u8) (A.call fn90 (fCTime, fCPos, fCMode, fCNext, fCMember)).1.2]) (
  .eqs ((.sl (.int .u8) fData : AV) = .sl (.int .u8) fData) (
  .eqs ((.ptr 0 8 : AV) = .ptr 0 8) (
  .more (.c1 ⟨fData, (A.len fData), (A.call fn90 (fCTime, fCPos, fCMode, fCNext, fCMember)).1.1, (A.call fn90 (fCTime, fCPos, fCMode, fCNext, fCMember)).1.2, 0, (A.call fn90 (fCTime, fCPos, fCMode, fCNext, fCMember)).1.1, (A.call fn90 (fCTime, fCPos, fCMode, fCNext, fCMember)).1.2⟩ 0 (A.call fn134 [(A.call fn132 ((0, ([] : List Int)), (A.conv .u64 (A.bin .sub .i64 fKind 1)), 2)).1, (A.call fn90 (fCTime, fCPos, fCMode, fCNext, fCMember)).1]).1.1 (A.call fn134 [(A.call fn132 ((0, ([] : List Int)), (A.conv .u64 (A.bin .sub .i64 fKind 1)), 2)).1, (A.call fn90 (fCTime, fCPos, fCMode, fCNext, fCMember)).1]).1.2 (A.call fn134 [(A.call fn132 ((0, ([] : List Int)), (A.conv .u64 (A.bin .sub .i64 fKind 1)), 2)).1, (A.call fn90 (fCTime, fCPos, fCMode, fCNext, fCMember)).1]).2)))))))))))))))))
  (.eqs ((.agg [.int .i64 false (A.call fn90 (fCTime, fCPos, fCMode, fCNext, fCMember)).1.1, .sl (.int .u8) (A.call fn90 (fCTime, fCPos, fCMode, fCNext, fCMember)).1.2] : AV) = .agg [.int .i64 false (A.call fn90 (fCTime, fCPos, fCMode, fCNext, fCMember)).1.1, .sl (.int .u8) (A.call fn90 (fCTime, fCPos, fCMode, fCNext, fCMember)).1.2]) (
  .eqs ((.sl (.int .u8) fData : AV) = .sl (.int .u8) fData) (
  .eqs ((.ptr 0 8 : AV) = .ptr 0 8) (
  .eqs ((.agg [.int .i64 true 0, .esl true] : AV) = .agg [.int .i64 true 0, .esl true]) (
  .br (A.cmp .eql (A.call fn132 ((0, ([] : List Int)), (A.conv .u64 (A.bin .sub .i64 fKind 1)), 2)).2 0)
  (.need (A.call (@tt ((Int × List Int) × (Int × List Int))) ((A.call fn132 ((0, ([] : List Int)), (A.conv .u64 (A.bin .sub .i64 fKind 1)), 2)).1, 0, ([] : List Int))) (
  .eqs (IntKind.i64 = IntKind.i64 ∧ ((A.call fn133 ((A.call fn132 ((0, ([] : List Int)), (A.conv .u64 (A.bin .sub .i64 fKind 1)), 2)).1, 0, ([] : List Int))).2 : Int) = (A.call fn133 ((A.call fn132 ((0, ([] : List Int)), (A.conv .u64 (A.bin .sub .i64 fKind 1)), 2)).1, 0, ([] : List Int))).2) (
  .eqs ((.ptr 4 0 : AV) = .ptr 4 0) (
  .eqs ((.agg [.int .i64 false (A.call fn90 (fCTime, fCPos, fCMode, fCNext, fCMember)).1.1, .sl (.int .u8) (A.call fn90 (fCTime, fCPos, fCMode, fCNext, fCMember)).1.2] : AV) = .agg [.int .i64 false (A.call fn90 (fCTime, fCPos, fCMode, fCNext, fCMember)).1.1, .sl (.int .u8) (A.call fn90 (fCTime, fCPos, fCMode, fCNext, fCMember)).1.2]) (
  .eqs ((.sl (.int .u8) fData : AV) = .sl (.int .u8) fData) (
  .eqs ((.ptr 0 8 : AV) = .ptr 0 8) (
  .more (.c1 ⟨fData, (A.len fData), (A.call fn90 (fCTime, fCPos, fCMode, fCNext, fCMember)).1.1, (A.call fn90 (fCTime, fCPos, fCMode, fCNext, fCMember)).1.2, 0, (A.call fn90 (fCTime, fCPos, fCMode, fCNext, fCMember)).1.1, (A.call fn90 (fCTime, fCPos, fCMode, fCNext, fCMember)).1.2⟩ 0 (A.call fn133 ((A.call fn132 ((0, ([] : List Int)), (A.conv .u64 (A.bin .sub .i64 fKind 1)), 2)).1, 0, ([] : List Int))).1.1 (A.call fn133 ((A.call fn132 ((0, ([] : List Int)), (A.conv .u64 (A.bin .sub .i64 fKind 1)), 2)).1, 0, ([] : List Int))).1.2 (A.call fn133 ((A.call fn132 ((0, ([] : List Int)), (A.conv .u64 (A.bin .sub .i64 fKind 1)), 2)).1, 0, ([] : List Int))).2))))))))
  (.eqs ((.agg [.int .i64 false (A.call fn90 (fCTime, fCPos, fCMode, fCNext, fCMember)).1.1, .sl (.int .u8) (A.call fn90 (fCTime, fCPos, fCMode, fCNext, fCMember)).1.2] : AV) = .agg [.int .i64 false (A.call fn90 (fCTime, fCPos, fCMode, fCNext, fCMember)).1.1, .sl (.int .u8) (A.call fn90 (fCTime, fCPos, fCMode, fCNext, fCMember)).1.2]) (
  .eqs ((.sl (.int .u8) fData : AV) = .sl (.int .u8) fData) (
  .eqs ((.ptr 0 8 : AV) = .ptr 0 8) (
  .more (.c1 ⟨fData, (A.len fData), (A.call fn90 (fCTime, fCPos, fCMode, fCNext, fCMember)).1.1, (A.call fn90 (fCTime, fCPos, fCMode, fCNext, fCMember)).1.2, 0, (A.call fn90 (fCTime, fCPos, fCMode, fCNext, fCMember)).1.1, (A.call fn90 (fCTime, fCPos, fCMode, fCNext, fCMember)).1.2⟩ 0 (A.call fn132 ((0, ([] : List Int)), (A.conv .u64 (A.bin .sub .i64 fKind 1)), 2)).1.1 (A.call fn132 ((0, ([] : List Int)), (A.conv .u64 (A.bin .sub .i64 fKind 1)), 2)).1.2 (A.call fn132 ((0, ([] : List Int)), (A.conv .u64 (A.bin .sub .i64 fKind 1)), 2)).2)))))))))))))))))))))))
  (.eqs (IntKind.i64 = IntKind.i64 ∧ ((A.call fn132 ((0, ([] : List Int)), (A.conv .u64 (A.bin .sub .i64 fKind 1)), 2)).2 : Int) = (A.call fn132 ((0, ([] : List Int)), (A.conv .u64 (A.bin .sub .i64 fKind 1)), 2)).2) (
  .eqs ((.ptr 4 2 : AV) = .ptr 4 2) (
  .eqs ((.ptr 4 0 : AV) = .ptr 4 0) (
  .eqs ((.ptr 4 0 : AV) = .ptr 4 0) (
  .ret (A.call fn132 ((0, ([] : List Int)), (A.conv .u64 (A.bin .sub .i64 fKind 1)), 2)))))))))))))))
def s46 (A : Alg) : Y46 → LT ((Int × List Int) × Int) Y46
 | .c0 p a2 a5 a6 a7 =>
  .br (A.cmp .lss a2 p.a1)
  (.need (A.and (A.cmp .leq 0 a2) (A.cmp .lss a2 (A.len p.a0))) (
  .br (A.cmp .eql a7 0)
  (.need (A.call (@tt ((Int × List Int) × Int × Int)) ((a5, a6), (A.conv .u64 (A.conv .i64 (A.nth (.int .u8) p.a0 a2 : Int))), 8)) (
  .more (.c0 p (A.bin .add .i64 a2 1) (A.call fn132 ((a5, a6), (A.conv .u64 (A.conv .i64 (A.nth (.int .u8) p.a0 a2 : Int))), 8)).1.1 (A.call fn132 ((a5, a6), (A.conv .u64 (A.conv .i64 (A.nth (.int .u8) p.a0 a2 : Int))), 8)).1.2 (A.call fn132 ((a5, a6), (A.conv .u64 (A.conv .i64 (A.nth (.int .u8) p.a0 a2 : Int))), 8)).2)))
  (.more (.c0 p (A.bin .add .i64 a2 1) a5 a6 a7))))
  (.eqs ((.agg [.int .i64 false p.a9, .sl (.int .u8) p.a10] : AV) = .agg [.int .i64 false p.a3, .sl (.int .u8) p.a4]) (
  .br (A.cmp .eql a7 0)
  (.need (A.call (@tt ((Int × List Int) × (Int × List Int))) ((a5, a6), p.a3, p.a4)) (
  .eqs (IntKind.i64 = IntKind.i64 ∧ ((A.call fn133 ((a5, a6), p.a3, p.a4)).2 : Int) = (A.call fn133 ((a5, a6), p.a3, p.a4)).2) (
  .eqs ((.ptr 0 0 : AV) = .ptr 0 0) (
  .eqs (IntKind.i64 = IntKind.i64 ∧ ((A.call fn133 ((a5, a6), p.a3, p.a4)).2 : Int) = (A.call fn133 ((a5, a6), p.a3, p.a4)).2) (
  .eqs ((.ptr 0 2 : AV) = .ptr 0 2) (
  .eqs ((.ptr 0 0 : AV) = .ptr 0 0) (
  .eqs ((.ptr 0 0 : AV) = .ptr 0 0) (
  .ret (A.call fn133 ((a5, a6), p.a3, p.a4))))))))))
  (.eqs (IntKind.i64 = IntKind.i64 ∧ (a7 : Int) = a7) (
  .eqs ((.ptr 0 2 : AV) = .ptr 0 2) (
  .eqs ((.ptr 0 0 : AV) = .ptr 0 0) (
  .eqs ((.ptr 0 0 : AV) = .ptr 0 0) (
  .ret ((a5, a6), a7))))))))
 | .c1 p b2 b5 b6 b7 =>
  .br (A.cmp .lss b2 p.b1)
  (.need (A.and (A.cmp .leq 0 b2) (A.cmp .lss b2 (A.len p.b0))) (
  .br (A.cmp .eql b7 0)
  (.need (A.call (@tt ((Int × List Int) × Int × Int)) ((b5, b6), (A.conv .u64 (A.conv .i64 (A.nth (.int .u8) p.b0 b2 : Int))), 8)) (
  .more (.c1 p (A.bin .add .i64 b2 1) (A.call fn132 ((b5, b6), (A.conv .u64 (A.conv .i64 (A.nth (.int .u8) p.b0 b2 : Int))), 8)).1.1 (A.call fn132 ((b5, b6), (A.conv .u64 (A.conv .i64 (A.nth (.int .u8) p.b0 b2 : Int))), 8)).1.2 (A.call fn132 ((b5, b6), (A.conv .u64 (A.conv .i64 (A.nth (.int .u8) p.b0 b2 : Int))), 8)).2)))
  (.more (.c1 p (A.bin .add .i64 b2 1) b5 b6 b7))))
  (.eqs ((.agg [.int .i64 false p.b9, .sl (.int .u8) p.b10] : AV) = .agg [.int .i64 false p.b3, .sl (.int .u8) p.b4]) (
  .br (A.cmp .eql b7 0)
  (.need (A.call (@tt ((Int × List Int) × (Int × List Int))) ((b5, b6), p.b3, p.b4)) (
  .eqs (IntKind.i64 = IntKind.i64 ∧ ((A.call fn133 ((b5, b6), p.b3, p.b4)).2 : Int) = (A.call fn133 ((b5, b6), p.b3, p.b4)).2) (
  .eqs ((.ptr 0 0 : AV) = .ptr 0 0) (
  .eqs (IntKind.i64 = IntKind.i64 ∧ ((A.call fn133 ((b5, b6), p.b3, p.b4)).2 : Int) = (A.call fn133 ((b5, b6), p.b3, p.b4)).2) (
  .eqs ((.ptr 0 2 : AV) = .ptr 0 2) (
  .eqs ((.ptr 0 0 : AV) = .ptr 0 0) (
  .eqs ((.ptr 0 0 : AV) = .ptr 0 0) (
  .ret (A.call fn133 ((b5, b6), p.b3, p.b4))))))))))
  (.eqs (IntKind.i64 = IntKind.i64 ∧ (b7 : Int) = b7) (
  .eqs ((.ptr 0 2 : AV) = .ptr 0 2) (
  .eqs ((.ptr 0 0 : AV) = .ptr 0 0) (
  .eqs ((.ptr 0 0 : AV) = .ptr 0 0) (
  .ret ((b5, b6), b7))))))))
noncomputable def E46 (A : Alg) : Info (Ty.Ts [(.struct [(.int .i64), (.slice (.int .u8))]), (.int .i64)]) := { ti := tys, fns := [(46, Try.f46), (91, Try.f91), (92, Try.f92), (93, Try.f93), (94, Try.f94)], sps := [(57, sp57), (90, sp90), (132, sp132), (133, sp133), (134, sp134)], stops := [⟨93, 2, [[0, 7, 8, 9], [2, 5, 8, 54, 81]]⟩], cuts := [], consts := [], fin := finD A [(.struct [(.int .i64), (.slice (.int .u8))]), (.int .i64)] }
theorem t46_ok (A : Alg) (fKind : Int) (fReq : Int) (fCTime : Int) (fCPos : Int) (fCMode : Int) (fCNext : Int) (fCMember : Int) (fFrom : Int) (fData : List Int) : run A (E46 A) 321 (startC 46 Try.f46 (dvals A [(.struct [(.int .i64), (.int .i64), (.struct [(.int .i64), (.int .i64), (.int .i64), (.int .i64), (.int .i64)]), (.int .i64), (.slice (.int .u8))])] (fKind, fReq, (fCTime, fCPos, fCMode, fCNext, fCMember), fFrom, fData))) = (t46 A fKind fReq fCTime fCPos fCMode fCNext fCMember fFrom fData).tr cfg46 := by kernel_rfl
theorem s46_ok (A : Alg) : ∀ y, ∃ n, run A (E46 A) n (advance (E46 A).sps (cfg46 y)) = (s46 A y).tr cfg46
  | .c0 p a2 a5 a6 a7 => ⟨75, by kernel_rfl⟩
  | .c1 p b2 b5 b6 b7 => ⟨75, by kernel_rfl⟩
def w46 : Walk Try.prog 46 [(.struct [(.int .i64), (.int .i64), (.struct [(.int .i64), (.int .i64), (.int .i64), (.int .i64), (.int .i64)]), (.int .i64), (.slice (.int .u8))])] [(.struct [(.int .i64), (.slice (.int .u8))]), (.int .i64)] Y46 := ⟨fun (fKind, fReq, (fCTime, fCPos, fCMode, fCNext, fCMember), fFrom, fData) => t46 std fKind fReq fCTime fCPos fCMode fCNext fCMember fFrom fData, s46 std⟩
theorem w46_ok : w46.Ok :=
  walk_ok (E := E46 std) ⟨tys_fit, fns_cons Try.func46 (by kernel_rfl) (fns_cons Try.func91 (by kernel_rfl) (fns_cons Try.func92 (by kernel_rfl) (fns_cons Try.func93 (by kernel_rfl) (fns_cons Try.func94 (by kernel_rfl) (fns_nil))))), sps_cons so57 (sps_cons so90 (sps_cons so132 (sps_cons so133 (sps_cons so134 (sps_nil))))), by kernel_rfl⟩ rfl rfl rfl (by kernel_rfl) w46 cfg46 321 (fun (fKind, fReq, (fCTime, fCPos, fCMode, fCNext, fCMember), fFrom, fData) => t46_ok std fKind fReq fCTime fCPos fCMode fCNext fCMember fFrom fData) (s46_ok std)

theorem enc_c0 {data : List Int} {u : List Bool} (hd : data.length ≤ 8) (hb : bytesOk data) (hu : u.length ≤ 4096) : ∀ (j i : Nat) (p : P46c0) (l : List Bool), p.a0 = data → p.a1 = (data.length : Int) → p.a9 = p.a3 → p.a10 = p.a4 → (p.a3, p.a4) = bsP u → data.length - i = j → i ≤ data.length → l.length + 8 * j ≤ 4000 →
    Runs (s46 std) (.more (.c0 p (i : Int) (bsP l).1 (bsP l).2 0)) (bsP (sealL (over 0 u) (l ++ dataBits (data.drop i))), 0) := by
  intro j
  induction j with
  | zero =>
    intro i p l h0 h1 h9 h10 h3 hj hi hl
    have : i = data.length := by omega
    subst this
    rw [runs_more, s46]
    refine (runs_brF (by rw [h1, lss_nat]; simp)).2 (runs_eqs.2 ⟨by rw [h9, h10], (runs_brT rfl).2 (runs_need.2 ⟨rfl, ?_⟩)⟩)
    repeat (first | refine runs_eqs.2 ⟨⟨rfl, rfl⟩, ?_⟩ | refine runs_eqs.2 ⟨rfl, ?_⟩ | refine runs_need.2 ⟨rfl, ?_⟩)
    have hs : std.call fn133 (((bsP l).1, (bsP l).2), p.a3, p.a4) = (bsP (sealL (over 0 u) l), 0) := by
      rw [h3]; exact seal_ok (by omega) hu
    rw [hs, List.drop_length, show dataBits [] = [] from rfl, List.append_nil]
    exact .ret _
  | succ j ih =>
    intro i p l h0 h1 h9 h10 h3 hj hi hl
    have hi' : i < data.length := by omega
    have hx := hb _ (List.getElem_mem hi')
    obtain ⟨v, hv⟩ := Int.eq_ofNat_of_zero_le hx.1
    have hv : data[i] = (v : Int) := hv
    rw [hv] at hx
    rw [runs_more, s46]
    refine (runs_brT (by rw [h1, lss_nat]; simp; omega)).2 (runs_need.2 ⟨by rw [h0]; exact need_ix hi', (runs_brT rfl).2 (runs_need.2 ⟨rfl, ?_⟩)⟩)
    have hn : (std.nth (.int .u8) p.a0 (i : Int) : Int) = (v : Int) := by rw [h0]; exact (getD_in hi' _).trans hv
    have hc : std.conv .u64 (std.conv .i64 (std.nth (.int .u8) p.a0 (i : Int) : Int)) = (v : Int) := (congrArg (fun z => std.conv .u64 (std.conv .i64 z)) hn).trans (by rw [conv_in (by omega), conv_nat (by omega)])
    have hq : std.call fn132 (((bsP l).1, (bsP l).2), std.conv .u64 (std.conv .i64 (std.nth (.int .u8) p.a0 (i : Int) : Int)), 8) = (bsP (l ++ bitsOf v 8), 0) := (congrArg (fun z => fn132 (((bsP l).1, (bsP l).2), z, 8)) hc).trans (put_ok (w := 8) (by omega) (by decide) (by omega))
    have hm := ih (i + 1) p (l ++ bitsOf v 8) h0 h1 h9 h10 h3 (by omega) (by omega) (by rw [List.length_append, bitsOf_length]; omega)
    rw [show data.drop i = data[i] :: data.drop (i + 1) from List.drop_eq_getElem_cons hi', hv, show dataBits ((v : Int) :: data.drop (i + 1)) = bitsOf v 8 ++ dataBits (data.drop (i + 1)) from by rw [dataBits, List.flatMap_cons, Int.toNat_natCast]; rfl, ← List.append_assoc]
    exact runs_c (congrArg LT.more (congr (congr (congr (congrArg (Y46.c0 p) (inc1 (by omega))) (congrArg (fun z => z.1.1) hq)) (congrArg (fun z => z.1.2) hq)) (congrArg (fun z => z.2) hq))) hm
theorem enc_c1 {data : List Int} {u : List Bool} (hd : data.length ≤ 8) (hb : bytesOk data) (hu : u.length ≤ 4096) : ∀ (j i : Nat) (p : P46c1) (l : List Bool), p.b0 = data → p.b1 = (data.length : Int) → p.b9 = p.b3 → p.b10 = p.b4 → (p.b3, p.b4) = bsP u → data.length - i = j → i ≤ data.length → l.length + 8 * j ≤ 4000 →
    Runs (s46 std) (.more (.c1 p (i : Int) (bsP l).1 (bsP l).2 0)) (bsP (sealL (over 0 u) (l ++ dataBits (data.drop i))), 0) := by
  intro j
  induction j with
  | zero =>
    intro i p l h0 h1 h9 h10 h3 hj hi hl
    have : i = data.length := by omega
    subst this
    rw [runs_more, s46]
    refine (runs_brF (by rw [h1, lss_nat]; simp)).2 (runs_eqs.2 ⟨by rw [h9, h10], (runs_brT rfl).2 (runs_need.2 ⟨rfl, ?_⟩)⟩)
    repeat (first | refine runs_eqs.2 ⟨⟨rfl, rfl⟩, ?_⟩ | refine runs_eqs.2 ⟨rfl, ?_⟩ | refine runs_need.2 ⟨rfl, ?_⟩)
    have hs : std.call fn133 (((bsP l).1, (bsP l).2), p.b3, p.b4) = (bsP (sealL (over 0 u) l), 0) := by
      rw [h3]; exact seal_ok (by omega) hu
    rw [hs, List.drop_length, show dataBits [] = [] from rfl, List.append_nil]
    exact .ret _
  | succ j ih =>
    intro i p l h0 h1 h9 h10 h3 hj hi hl
    have hi' : i < data.length := by omega
    have hx := hb _ (List.getElem_mem hi')
    obtain ⟨v, hv⟩ := Int.eq_ofNat_of_zero_le hx.1
    have hv : data[i] = (v : Int) := hv
    rw [hv] at hx
    rw [runs_more, s46]
    refine (runs_brT (by rw [h1, lss_nat]; simp; omega)).2 (runs_need.2 ⟨by rw [h0]; exact need_ix hi', (runs_brT rfl).2 (runs_need.2 ⟨rfl, ?_⟩)⟩)
    have hn : (std.nth (.int .u8) p.b0 (i : Int) : Int) = (v : Int) := by rw [h0]; exact (getD_in hi' _).trans hv
    have hc : std.conv .u64 (std.conv .i64 (std.nth (.int .u8) p.b0 (i : Int) : Int)) = (v : Int) := (congrArg (fun z => std.conv .u64 (std.conv .i64 z)) hn).trans (by rw [conv_in (by omega), conv_nat (by omega)])
    have hq : std.call fn132 (((bsP l).1, (bsP l).2), std.conv .u64 (std.conv .i64 (std.nth (.int .u8) p.b0 (i : Int) : Int)), 8) = (bsP (l ++ bitsOf v 8), 0) := (congrArg (fun z => fn132 (((bsP l).1, (bsP l).2), z, 8)) hc).trans (put_ok (w := 8) (by omega) (by decide) (by omega))
    have hm := ih (i + 1) p (l ++ bitsOf v 8) h0 h1 h9 h10 h3 (by omega) (by omega) (by rw [List.length_append, bitsOf_length]; omega)
    rw [show data.drop i = data[i] :: data.drop (i + 1) from List.drop_eq_getElem_cons hi', hv, show dataBits ((v : Int) :: data.drop (i + 1)) = bitsOf v 8 ++ dataBits (data.drop (i + 1)) from by rw [dataBits, List.flatMap_cons, Int.toNat_natCast]; rfl, ← List.append_assoc]
    exact runs_c (congrArg LT.more (congr (congr (congr (congrArg (Y46.c1 p) (inc1 (by omega))) (congrArg (fun z => z.1.1) hq)) (congrArg (fun z => z.1.2) hq)) (congrArg (fun z => z.2) hq))) hm
theorem enc2 {k r t p m n s fr : Int} {d : List Int} (h : Ty.hass [.struct [(.int .i64), (.int .i64), (.struct [(.int .i64), (.int .i64), (.int .i64), (.int .i64), (.int .i64)]), (.int .i64), (.slice (.int .u8))]] (k, r, (t, p, m, n, s), fr, d)) : Runs (s46 std) (t46 std k r t p m n s fr d) (encS (k, r, (t, p, m, n, s), fr, d)) := by
  have hb := has_data h
  unfold t46
  rw [encS]
  refine runs_need.2 ⟨rfl, ?_⟩
  have hchk : std.call fn57 (k, r, (t, p, m, n, s), fr, d) = bif frOk (k, r, (t, p, m, n, s), fr, d) then 0 else 50 := by rw [std_call]; exact fn57_eq
  cases hok : frOk (k, r, (t, p, m, n, s), fr, d)
  · rw [hok] at hchk
    refine (runs_brT (cne_t (by rw [hchk]; decide))).2 ?_
    exact runs_c (congrArg (fun z => LT.ret (((0, ([] : List Int)) : Int × List Int), z)) hchk) (.ret _)
  rw [hok] at hchk
  refine (runs_brF (cne_f hchk)).2 (runs_need.2 ⟨rfl, ?_⟩)
  rw [cond_true]
  obtain ⟨hst, hr, hdl, hk⟩ := frOk_iff.1 hok
  have hst' := stOk_iff.1 hst
  obtain ⟨r, rfl⟩ := Int.eq_ofNat_of_zero_le hr.1
  obtain ⟨t, rfl⟩ := Int.eq_ofNat_of_zero_le hst'.1.1
  have hsl := stBits_length ((t : Int), p, m, n, s)
  have hsb : std.call fn90 ((t : Int), p, m, n, s) = (bsP (stBits ((t : Int), p, m, n, s)), 0) := by rw [std_call, fn90, stBitsS, hst]; rfl
  refine (runs_brF (cne_f (congrArg Prod.snd hsb))).2 (runs_need.2 ⟨rfl, ?_⟩)
  rw [hsb]
  have hcr : std.conv .u64 (r : Int) = (r : Int) := conv_nat (by omega)
  have hct : std.conv .u64 (t : Int) = (t : Int) := conv_nat (by omega)
  rcases hk with ⟨rfl, hr0, hd0, hf, hp0, hm0, hn0, hs0⟩ | ⟨rfl, rfl⟩ | ⟨rfl, hd0, rfl⟩ | ⟨rfl, rfl⟩
  · obtain ⟨fr, rfl⟩ := Int.eq_ofNat_of_zero_le hf.1
    have hcf : std.conv .u64 (fr : Int) = (fr : Int) := conv_nat (by omega)
    rw [List.length_eq_zero_iff.1 hd0]
    have q0 : std.call fn132 (((0 : Int), ([] : List Int)), std.conv .u64 (std.bin .sub .i64 1 1), 2) = (bsP ([] ++ bitsOf 0 2), 0) := by
      rw [std_call]
      exact put_ok (l := []) (v := 0) (w := 2) (by omega) (by decide) (by simp [bitsOf_length])
    have q1 : std.call fn132 (bsP ([] ++ bitsOf 0 2), (fr : Int), 3) = (bsP ([] ++ bitsOf 0 2 ++ bitsOf fr 3), 0) := by
      rw [std_call]
      exact put_ok (l := [] ++ bitsOf 0 2) (v := fr) (w := 3) (by omega) (by decide) (by simp [bitsOf_length])
    have q2 : std.call fn132 (bsP ([] ++ bitsOf 0 2 ++ bitsOf fr 3), (t : Int), 8) = (bsP ([] ++ bitsOf 0 2 ++ bitsOf fr 3 ++ bitsOf t 8), 0) := by
      rw [std_call]
      exact put_ok (l := [] ++ bitsOf 0 2 ++ bitsOf fr 3) (v := t) (w := 8) (by omega) (by decide) (by simp [bitsOf_length])
    have q3 : std.call fn132 (bsP ([] ++ bitsOf 0 2 ++ bitsOf fr 3 ++ bitsOf t 8), 0, 3) = (bsP ([] ++ bitsOf 0 2 ++ bitsOf fr 3 ++ bitsOf t 8 ++ bitsOf 0 3), 0) := by
      rw [std_call]
      exact put_ok (l := [] ++ bitsOf 0 2 ++ bitsOf fr 3 ++ bitsOf t 8) (v := 0) (w := 3) (by omega) (by decide) (by simp [bitsOf_length])
    have hs : std.call fn133 (bsP ([] ++ bitsOf 0 2 ++ bitsOf fr 3 ++ bitsOf t 8 ++ bitsOf 0 3), ((0 : Int), ([] : List Int))) = (bsP (sealL 0 ([] ++ bitsOf 0 2 ++ bitsOf fr 3 ++ bitsOf t 8 ++ bitsOf 0 3)), 0) := by rw [std_call]; exact seal_ok (u := []) (by simp [bitsOf_length]) (by decide)
    rw [hcf, hct]
    refine (runs_brT rfl).2 ?_
    rw [q0]
    dsimp only
    repeat (first | refine runs_eqs.2 ⟨⟨rfl, rfl⟩, ?_⟩ | refine runs_eqs.2 ⟨rfl, ?_⟩ | refine runs_need.2 ⟨rfl, ?_⟩)
    refine (runs_brT rfl).2 ?_
    rw [q1]
    dsimp only
    repeat (first | refine runs_eqs.2 ⟨⟨rfl, rfl⟩, ?_⟩ | refine runs_eqs.2 ⟨rfl, ?_⟩ | refine runs_need.2 ⟨rfl, ?_⟩)
    refine (runs_brT rfl).2 ?_
    rw [q2]
    dsimp only
    repeat (first | refine runs_eqs.2 ⟨⟨rfl, rfl⟩, ?_⟩ | refine runs_eqs.2 ⟨rfl, ?_⟩ | refine runs_need.2 ⟨rfl, ?_⟩)
    refine (runs_brT rfl).2 ?_
    rw [q3]
    dsimp only
    repeat (first | refine runs_eqs.2 ⟨⟨rfl, rfl⟩, ?_⟩ | refine runs_eqs.2 ⟨rfl, ?_⟩ | refine runs_need.2 ⟨rfl, ?_⟩)
    refine (runs_brT rfl).2 ?_
    repeat (first | refine runs_eqs.2 ⟨⟨rfl, rfl⟩, ?_⟩ | refine runs_eqs.2 ⟨rfl, ?_⟩ | refine runs_need.2 ⟨rfl, ?_⟩)
    rw [hs]
    refine runs_r ?_ (.ret _)
    show (bsP (sealL 0 ([] ++ bitsOf 0 2 ++ bitsOf fr 3 ++ bitsOf t 8 ++ bitsOf 0 3)), (0 : Int)) = (bsP (sealL 0 (bitsOf 0 2 ++ (bitsOf fr 3 ++ (bitsOf t 8 ++ bitsOf 0 3)))), 0)
    simp only [List.nil_append, List.append_assoc]
  ·
    have q0 : std.call fn132 (((0 : Int), ([] : List Int)), std.conv .u64 (std.bin .sub .i64 2 1), 2) = (bsP ([] ++ bitsOf 1 2), 0) := by
      rw [std_call]
      exact put_ok (l := []) (v := 1) (w := 2) (by omega) (by decide) (by simp [bitsOf_length])
    have q1 : std.call fn132 (bsP ([] ++ bitsOf 1 2), (r : Int), 3) = (bsP ([] ++ bitsOf 1 2 ++ bitsOf r 3), 0) := by
      rw [std_call]
      exact put_ok (l := [] ++ bitsOf 1 2) (v := r) (w := 3) (by omega) (by decide) (by simp [bitsOf_length])
    rw [hcr]
    refine (runs_brF rfl).2 ((runs_brT rfl).2 ?_)
    rw [q0]
    dsimp only
    repeat (first | refine runs_eqs.2 ⟨⟨rfl, rfl⟩, ?_⟩ | refine runs_eqs.2 ⟨rfl, ?_⟩ | refine runs_need.2 ⟨rfl, ?_⟩)
    refine (runs_brT rfl).2 ?_
    rw [q1]
    dsimp only
    repeat (first | refine runs_eqs.2 ⟨⟨rfl, rfl⟩, ?_⟩ | refine runs_eqs.2 ⟨rfl, ?_⟩ | refine runs_need.2 ⟨rfl, ?_⟩)
    refine runs_r ?_ (enc_c0 (data := d) (u := stBits ((t : Int), p, m, n, s)) hdl hb (by omega) d.length 0 _ ([] ++ bitsOf 1 2 ++ bitsOf r 3) rfl rfl rfl rfl rfl (by omega) (by omega) (by simp [bitsOf_length]; omega))
    show (bsP (sealL (over 0 (stBits ((t : Int), p, m, n, s))) ([] ++ bitsOf 1 2 ++ bitsOf r 3 ++ dataBits d)), (0 : Int)) = (bsP (sealL (over 0 (stBits ((t : Int), p, m, n, s))) (bitsOf 1 2 ++ (bitsOf r 3 ++ dataBits d))), 0)
    simp only [List.nil_append, List.append_assoc]
  · rw [List.length_eq_zero_iff.1 hd0]
    have q0 : std.call fn132 (((0 : Int), ([] : List Int)), std.conv .u64 (std.bin .sub .i64 3 1), 2) = (bsP ([] ++ bitsOf 2 2), 0) := by
      rw [std_call]
      exact put_ok (l := []) (v := 2) (w := 2) (by omega) (by decide) (by simp [bitsOf_length])
    have q1 : std.call fn132 (bsP ([] ++ bitsOf 2 2), (r : Int), 3) = (bsP ([] ++ bitsOf 2 2 ++ bitsOf r 3), 0) := by
      rw [std_call]
      exact put_ok (l := [] ++ bitsOf 2 2) (v := r) (w := 3) (by omega) (by decide) (by simp [bitsOf_length])
    have q2 : std.call fn132 (bsP ([] ++ bitsOf 2 2 ++ bitsOf r 3), 0, 1) = (bsP ([] ++ bitsOf 2 2 ++ bitsOf r 3 ++ bitsOf 0 1), 0) := by
      rw [std_call]
      exact put_ok (l := [] ++ bitsOf 2 2 ++ bitsOf r 3) (v := 0) (w := 1) (by omega) (by decide) (by simp [bitsOf_length])
    have hj : std.call fn134 [bsP ([] ++ bitsOf 2 2 ++ bitsOf r 3 ++ bitsOf 0 1), bsP (stBits ((t : Int), p, m, n, s))] = (bsP ([] ++ bitsOf 2 2 ++ bitsOf r 3 ++ bitsOf 0 1 ++ stBits ((t : Int), p, m, n, s)), 0) := by rw [std_call]; exact join_ok (by simp [bitsOf_length, hsl])
    have hs : std.call fn133 (bsP ([] ++ bitsOf 2 2 ++ bitsOf r 3 ++ bitsOf 0 1 ++ stBits ((t : Int), p, m, n, s)), ((0 : Int), ([] : List Int))) = (bsP (sealL 0 ([] ++ bitsOf 2 2 ++ bitsOf r 3 ++ bitsOf 0 1 ++ stBits ((t : Int), p, m, n, s))), 0) := by rw [std_call]; exact seal_ok (u := []) (by simp [bitsOf_length, hsl]) (by decide)
    rw [hcr]
    refine (runs_brF rfl).2 ((runs_brF rfl).2 ((runs_brT rfl).2 ?_))
    rw [q0]
    dsimp only
    repeat (first | refine runs_eqs.2 ⟨⟨rfl, rfl⟩, ?_⟩ | refine runs_eqs.2 ⟨rfl, ?_⟩ | refine runs_need.2 ⟨rfl, ?_⟩)
    refine (runs_brT rfl).2 ?_
    rw [q1]
    dsimp only
    repeat (first | refine runs_eqs.2 ⟨⟨rfl, rfl⟩, ?_⟩ | refine runs_eqs.2 ⟨rfl, ?_⟩ | refine runs_need.2 ⟨rfl, ?_⟩)
    refine (runs_brT rfl).2 ?_
    rw [q2]
    dsimp only
    repeat (first | refine runs_eqs.2 ⟨⟨rfl, rfl⟩, ?_⟩ | refine runs_eqs.2 ⟨rfl, ?_⟩ | refine runs_need.2 ⟨rfl, ?_⟩)
    refine (runs_brT rfl).2 ?_
    rw [hj]
    dsimp only
    repeat (first | refine runs_eqs.2 ⟨⟨rfl, rfl⟩, ?_⟩ | refine runs_eqs.2 ⟨rfl, ?_⟩ | refine runs_need.2 ⟨rfl, ?_⟩)
    refine (runs_brT rfl).2 ?_
    repeat (first | refine runs_eqs.2 ⟨⟨rfl, rfl⟩, ?_⟩ | refine runs_eqs.2 ⟨rfl, ?_⟩ | refine runs_need.2 ⟨rfl, ?_⟩)
    rw [hs]
    repeat (first | refine runs_eqs.2 ⟨⟨rfl, rfl⟩, ?_⟩ | refine runs_eqs.2 ⟨rfl, ?_⟩ | refine runs_need.2 ⟨rfl, ?_⟩)
    refine runs_r ?_ (.ret _)
    show (bsP (sealL 0 ([] ++ bitsOf 2 2 ++ bitsOf r 3 ++ bitsOf 0 1 ++ stBits ((t : Int), p, m, n, s))), (0 : Int)) = (bsP (sealL 0 (bitsOf 2 2 ++ (bitsOf r 3 ++ (bitsOf 0 1 ++ stBits ((t : Int), p, m, n, s))))), 0)
    simp only [List.nil_append, List.append_assoc]
  ·
    have q0 : std.call fn132 (((0 : Int), ([] : List Int)), std.conv .u64 (std.bin .sub .i64 4 1), 2) = (bsP ([] ++ bitsOf 3 2), 0) := by
      rw [std_call]
      exact put_ok (l := []) (v := 3) (w := 2) (by omega) (by decide) (by simp [bitsOf_length])
    have q1 : std.call fn132 (bsP ([] ++ bitsOf 3 2), (r : Int), 3) = (bsP ([] ++ bitsOf 3 2 ++ bitsOf r 3), 0) := by
      rw [std_call]
      exact put_ok (l := [] ++ bitsOf 3 2) (v := r) (w := 3) (by omega) (by decide) (by simp [bitsOf_length])
    have q2 : std.call fn132 (bsP ([] ++ bitsOf 3 2 ++ bitsOf r 3), 0, 2) = (bsP ([] ++ bitsOf 3 2 ++ bitsOf r 3 ++ bitsOf 0 2), 0) := by
      rw [std_call]
      exact put_ok (l := [] ++ bitsOf 3 2 ++ bitsOf r 3) (v := 0) (w := 2) (by omega) (by decide) (by simp [bitsOf_length])
    have hj : std.call fn134 [bsP ([] ++ bitsOf 3 2 ++ bitsOf r 3 ++ bitsOf 0 2), bsP (stBits ((t : Int), p, m, n, s))] = (bsP ([] ++ bitsOf 3 2 ++ bitsOf r 3 ++ bitsOf 0 2 ++ stBits ((t : Int), p, m, n, s)), 0) := by rw [std_call]; exact join_ok (by simp [bitsOf_length, hsl])
    have hs : std.call fn133 (bsP ([] ++ bitsOf 3 2 ++ bitsOf r 3 ++ bitsOf 0 2 ++ stBits ((t : Int), p, m, n, s)), ((0 : Int), ([] : List Int))) = (bsP (sealL 0 ([] ++ bitsOf 3 2 ++ bitsOf r 3 ++ bitsOf 0 2 ++ stBits ((t : Int), p, m, n, s))), 0) := by rw [std_call]; exact seal_ok (u := []) (by simp [bitsOf_length, hsl]) (by decide)
    rw [hcr]
    refine (runs_brF rfl).2 ((runs_brF rfl).2 ((runs_brF rfl).2 ((runs_brT rfl).2 ?_)))
    rw [q0]
    dsimp only
    repeat (first | refine runs_eqs.2 ⟨⟨rfl, rfl⟩, ?_⟩ | refine runs_eqs.2 ⟨rfl, ?_⟩ | refine runs_need.2 ⟨rfl, ?_⟩)
    refine (runs_brT rfl).2 ?_
    rw [q1]
    dsimp only
    repeat (first | refine runs_eqs.2 ⟨⟨rfl, rfl⟩, ?_⟩ | refine runs_eqs.2 ⟨rfl, ?_⟩ | refine runs_need.2 ⟨rfl, ?_⟩)
    refine (runs_brT rfl).2 ?_
    rw [q2]
    dsimp only
    repeat (first | refine runs_eqs.2 ⟨⟨rfl, rfl⟩, ?_⟩ | refine runs_eqs.2 ⟨rfl, ?_⟩ | refine runs_need.2 ⟨rfl, ?_⟩)
    refine (runs_brT rfl).2 ?_
    rw [hj]
    dsimp only
    repeat (first | refine runs_eqs.2 ⟨⟨rfl, rfl⟩, ?_⟩ | refine runs_eqs.2 ⟨rfl, ?_⟩ | refine runs_need.2 ⟨rfl, ?_⟩)
    refine (runs_brT rfl).2 ?_
    repeat (first | refine runs_eqs.2 ⟨⟨rfl, rfl⟩, ?_⟩ | refine runs_eqs.2 ⟨rfl, ?_⟩ | refine runs_need.2 ⟨rfl, ?_⟩)
    rw [hs]
    dsimp only
    repeat (first | refine runs_eqs.2 ⟨⟨rfl, rfl⟩, ?_⟩ | refine runs_eqs.2 ⟨rfl, ?_⟩ | refine runs_need.2 ⟨rfl, ?_⟩)
    refine runs_r ?_ (enc_c1 (data := d) (u := stBits ((t : Int), p, m, n, s)) hdl hb (by omega) d.length 0 _ (sealL 0 ([] ++ bitsOf 3 2 ++ bitsOf r 3 ++ bitsOf 0 2 ++ stBits ((t : Int), p, m, n, s))) rfl rfl rfl rfl rfl (by omega) (by omega) (by rw [sealL_length]; simp [bitsOf_length, hsl]; omega))
    show (bsP (sealL (over 0 (stBits ((t : Int), p, m, n, s))) (sealL 0 ([] ++ bitsOf 3 2 ++ bitsOf r 3 ++ bitsOf 0 2 ++ stBits ((t : Int), p, m, n, s)) ++ dataBits d)), (0 : Int)) = (bsP (sealL (over 0 (stBits ((t : Int), p, m, n, s))) (sealL 0 (bitsOf 3 2 ++ (bitsOf r 3 ++ (bitsOf 0 2 ++ stBits ((t : Int), p, m, n, s)))) ++ dataBits d)), 0)
    simp only [List.nil_append, List.append_assoc]

def fn46 : ((Int × Int × (Int × Int × Int × Int × Int) × Int × List Int)) → ((Int × List Int) × Int) := encS
def sp46 : FSpec := ⟨[(.struct [(.int .i64), (.int .i64), (.struct [(.int .i64), (.int .i64), (.int .i64), (.int .i64), (.int .i64)]), (.int .i64), (.slice (.int .u8))])], [(.struct [(.int .i64), (.slice (.int .u8))]), (.int .i64)], (@tt ((Int × Int × (Int × Int × Int × Int × Int) × Int × List Int))), fn46⟩
theorem run46 {fKind : Int} {fReq : Int} {fCTime : Int} {fCPos : Int} {fCMode : Int} {fCNext : Int} {fCMember : Int} {fFrom : Int} {fData : List Int} (h : Ty.hass [(.struct [(.int .i64), (.int .i64), (.struct [(.int .i64), (.int .i64), (.int .i64), (.int .i64), (.int .i64)]), (.int .i64), (.slice (.int .u8))])] (fKind, fReq, (fCTime, fCPos, fCMode, fCNext, fCMember), fFrom, fData)) : Runs (s46 std) (t46 std fKind fReq fCTime fCPos fCMode fCNext fCMember fFrom fData) (fn46 (fKind, fReq, (fCTime, fCPos, fCMode, fCNext, fCMember), fFrom, fData)) := by
  exact enc2 h
theorem so46 : FSpec.Sound Try.prog 46 sp46 :=
  w46_ok.sound _ _ fun (fKind, fReq, (fCTime, fCPos, fCMode, fCNext, fCMember), fFrom, fData) _ h => run46 h
open Go.Ev.Pl
/-! ### metronome/metronomeref01.Text (function 96) -/
structure P96c0 where
  a0 : Int
structure P96c1 where
  b0 : Int
  b1 : Int
  b2 : List Int
structure P96c2 where
  c1 : Int
  c2 : List Int
structure P96c3 where
  d0 : Int
  d1 : List Bool
structure P96c4 where
  e2 : List Bool
inductive Y96 where
  | c0 (p : P96c0)
  | c1 (p : P96c1)
  | c2 (p : P96c2) (c0 : Int) (c3 : List Bool)
  | c3 (p : P96c3)
  | c4 (p : P96c4) (e0 : Int) (e1 : List Int)
noncomputable def cfg96 : Y96 → Cfg
  | .c0 p => { frames := [{ fn := 96, n := 26, env := (Env.put (Env.put (Env.put .leaf 3 (.esl true)) 4 (.esl true)) 5 (.int .i64 false p.a0)), todo := [.inLoop (Code.way (bodyOf Try.f96) [1, 1, 1, 0, 1, 0, 0]), .inBlock 0, .code (Code.way (bodyOf Try.f96) [1, 1, 1, 1])], marks := [], rnd := none }], mem := [.dead] }
  | .c1 p => { frames := [{ fn := 127, n := 22, env := (Env.put (Env.put (Env.put .leaf 1 (.ptr 0 0)) 3 (.esl true)) 4 (.int .i64 false p.b0)), todo := [.inLoop (Code.way (bodyOf Try.f127) [1, 1, 1, 0, 1, 0, 0]), .inBlock 0, .code (Code.way (bodyOf Try.f127) [1, 1, 1, 1])], marks := [], rnd := none }, { fn := 96, n := 26, env := (Env.put .leaf 3 (.esl true)), todo := [.ops (opsOf (Code.way (bodyOf Try.f96) [1, 1, 0])) ((opsOf (Code.way (bodyOf Try.f96) [1, 1, 0])).toList.drop 1), .code (Code.way (bodyOf Try.f96) [1, 1, 1])], marks := [], rnd := none }], mem := [.flat false [.int .i64 false p.b1, .sl (.int .u8) p.b2], .dead] }
  | .c2 p c0 c3 => { frames := [{ fn := 127, n := 22, env := (Env.put (Env.put (Env.put .leaf 1 (.ptr 0 0)) 3 (.own 1)) 4 (.int .i64 false c0)), todo := [.inLoop (Code.way (bodyOf Try.f127) [1, 1, 1, 0, 1, 0, 0]), .inBlock 0, .code (Code.way (bodyOf Try.f127) [1, 1, 1, 1])], marks := [], rnd := none }, { fn := 96, n := 26, env := (Env.put .leaf 3 (.esl true)), todo := [.ops (opsOf (Code.way (bodyOf Try.f96) [1, 1, 0])) ((opsOf (Code.way (bodyOf Try.f96) [1, 1, 0])).toList.drop 1), .code (Code.way (bodyOf Try.f96) [1, 1, 1])], marks := [], rnd := none }], mem := [.flat false [.int .i64 false p.c1, .sl (.int .u8) p.c2], .arr false .bool c3, .dead] }
  | .c3 p => { frames := [{ fn := 96, n := 26, env := (Env.put (Env.put (Env.put .leaf 3 (.esl true)) 4 (.own 0)) 5 (.int .i64 false p.d0)), todo := [.inLoop (Code.way (bodyOf Try.f96) [1, 1, 1, 0, 1, 0, 0]), .inBlock 0, .code (Code.way (bodyOf Try.f96) [1, 1, 1, 1])], marks := [], rnd := none }], mem := [.arr false .bool p.d1, .dead] }
  | .c4 p e0 e1 => { frames := [{ fn := 96, n := 26, env := (Env.put (Env.put (Env.put .leaf 3 (.own 0)) 4 (.own 1)) 5 (.int .i64 false e0)), todo := [.inLoop (Code.way (bodyOf Try.f96) [1, 1, 1, 0, 1, 0, 0]), .inBlock 0, .code (Code.way (bodyOf Try.f96) [1, 1, 1, 1])], marks := [], rnd := none }], mem := [.arr false (.int .u8) e1, .arr false .bool p.e2, .dead] }

def t96 (A : Alg) (bN : Int) (bB : List Int) : LT (List UInt8) Y96 :=
  .need (A.call (@tt ((Int × List Int))) (bN, bB)) (
  .br (A.cmp .neq (A.call fn97 (bN, bB)) 0)
  (.more (.c0 ⟨0⟩))
  (.more (.c1 ⟨0, bN, bB⟩)))
def s96 (A : Alg) : Y96 → LT (List UInt8) Y96
 | .c0 p =>
  .br (A.cmp .lss p.a0 0)
  (.bad 37 "ref.go:138")
  (.ret (A.bytes ([] : List Int)))
 | .c1 p =>
  .br (A.cmp .lss p.b0 p.b1)
  (.need (A.call pre136 (p.b2, p.b0)) (
  .need (A.cmp .leq (A.len [(A.call fn136 (p.b2, p.b0))]) 70368744177664) (
  .more (.c2 ⟨p.b1, p.b2⟩ (A.bin .add .i64 p.b0 1) [(A.call fn136 (p.b2, p.b0))]))))
  (.more (.c0 ⟨0⟩))
 | .c2 p c0 c3 =>
  .br (A.cmp .lss c0 p.c1)
  (.need (A.call pre136 (p.c2, c0)) (
  .need (A.cmp .leq (A.len (A.app c3 [(A.call fn136 (p.c2, c0))])) 70368744177664) (
  .more (.c2 p (A.bin .add .i64 c0 1) (A.app c3 [(A.call fn136 (p.c2, c0))])))))
  (.more (.c3 ⟨0, c3⟩))
 | .c3 p =>
  .br (A.cmp .lss p.d0 (A.len p.d1))
  (.need (A.and (A.cmp .leq 0 p.d0) (A.cmp .lss p.d0 (A.len p.d1))) (
  .br (A.nth .bool p.d1 p.d0 : Bool)
  (.need (A.cmp .leq (A.len ([49] : List Int)) 70368744177664) (
  .more (.c4 ⟨p.d1⟩ (A.bin .add .i64 p.d0 1) ([49] : List Int))))
  (.need (A.cmp .leq (A.len ([48] : List Int)) 70368744177664) (
  .more (.c4 ⟨p.d1⟩ (A.bin .add .i64 p.d0 1) ([48] : List Int))))))
  (.ret (A.bytes ([] : List Int)))
 | .c4 p e0 e1 =>
  .br (A.cmp .lss e0 (A.len p.e2))
  (.need (A.and (A.cmp .leq 0 e0) (A.cmp .lss e0 (A.len p.e2))) (
  .br (A.nth .bool p.e2 e0 : Bool)
  (.need (A.cmp .leq (A.len (A.app e1 ([49] : List Int))) 70368744177664) (
  .more (.c4 p (A.bin .add .i64 e0 1) (A.app e1 ([49] : List Int)))))
  (.need (A.cmp .leq (A.len (A.app e1 ([48] : List Int))) 70368744177664) (
  .more (.c4 p (A.bin .add .i64 e0 1) (A.app e1 ([48] : List Int)))))))
  (.ret (A.bytes e1))
noncomputable def E96 (A : Alg) : Info (Ty.Ts [.str]) := { ti := tys, fns := [(96, Try.f96), (127, Try.f127)], sps := [(97, sp97), (136, sp136)], stops := [⟨96, 4, [[3, 4, 5]]⟩, ⟨127, 5, [[1, 3, 4], [3]]⟩], cuts := [], consts := [], fin := finD A [.str] }
theorem t96_ok (A : Alg) (bN : Int) (bB : List Int) : run A (E96 A) 50 (startC 96 Try.f96 (dvals A [(.struct [(.int .i64), (.slice (.int .u8))])] (bN, bB))) = (t96 A bN bB).tr cfg96 := by kernel_rfl
theorem s96_ok (A : Alg) : ∀ y, ∃ n, run A (E96 A) n (advance (E96 A).sps (cfg96 y)) = (s96 A y).tr cfg96
  | .c0 p => ⟨22, by kernel_rfl⟩
  | .c1 p => ⟨34, by kernel_rfl⟩
  | .c2 p c0 c3 => ⟨34, by kernel_rfl⟩
  | .c3 p => ⟨38, by kernel_rfl⟩
  | .c4 p e0 e1 => ⟨38, by kernel_rfl⟩
def w96 : Walk Try.prog 96 [(.struct [(.int .i64), (.slice (.int .u8))])] [.str] Y96 := ⟨fun (bN, bB) => t96 std bN bB, s96 std⟩
theorem w96_ok : w96.Ok :=
  walk_ok (E := E96 std) ⟨tys_fit, fns_cons Try.func96 (by kernel_rfl) (fns_cons Try.func127 (by kernel_rfl) (fns_nil)), sps_cons so97 (sps_cons so136 (sps_nil)), by kernel_rfl⟩ rfl rfl rfl (by kernel_rfl) w96 cfg96 50 (fun (bN, bB) => t96_ok std bN bB) (s96_ok std)

def digs (l : List Bool) : List Int := l.map fun x => bif x then 49 else 48
theorem text_c4 {l : List Bool} (hl : l.length ≤ 5000) : ∀ (j i : Nat) (p : P96c4) (e : List Int), p.e2 = l → l.length - i = j → i ≤ l.length → e.length + j ≤ 10000 → Runs (s96 std) (.more (.c4 p (i : Int) e)) ((e ++ digs (l.drop i)).map fun n => UInt8.ofNat n.toNat) := by
  intro j
  induction j with
  | zero =>
    intro i p e h0 hj hi he
    have : i = l.length := by omega
    subst this
    rw [runs_more, s96]
    refine (runs_brF (by rw [show std.len p.e2 = (l.length : Int) from by rw [h0]; rfl, lss_nat]; simp)).2 ?_
    rw [List.drop_length, show digs [] = [] from rfl, List.append_nil]
    exact .ret _
  | succ j ih =>
    intro i p e h0 hj hi he
    have hi' : i < l.length := by omega
    rw [runs_more, s96]
    refine (runs_brT (by rw [show std.len p.e2 = (l.length : Int) from by rw [h0]; rfl, lss_nat]; simp; omega)).2 (runs_need.2 ⟨by rw [h0]; exact need_ix hi', ?_⟩)
    have hn : (std.nth .bool p.e2 (i : Int) : Bool) = l[i] := by rw [h0]; exact getD_in hi' _
    have hd : digs (l.drop i) = (bif l[i] then 49 else 48) :: digs (l.drop (i + 1)) := by rw [List.drop_eq_getElem_cons hi']; rfl
    rw [hd]
    cases hx : l[i]
    · refine (runs_brF (hn.trans hx)).2 (runs_need.2 ⟨?_, ?_⟩)
      · show decide (((e ++ [48]).length : Int) ≤ 70368744177664) = true
        rw [List.length_append]; simp; omega
      · have hm := ih (i + 1) p (e ++ [48]) h0 (by omega) (by omega) (by rw [List.length_append]; simp; omega)
        rw [List.append_assoc] at hm
        exact runs_c (congrArg LT.more (congr (congrArg (Y96.c4 p) (inc1 (by omega))) rfl)) hm
    · refine (runs_brT (hn.trans hx)).2 (runs_need.2 ⟨?_, ?_⟩)
      · show decide (((e ++ [49]).length : Int) ≤ 70368744177664) = true
        rw [List.length_append]; simp; omega
      · have hm := ih (i + 1) p (e ++ [49]) h0 (by omega) (by omega) (by rw [List.length_append]; simp; omega)
        rw [List.append_assoc] at hm
        exact runs_c (congrArg LT.more (congr (congrArg (Y96.c4 p) (inc1 (by omega))) rfl)) hm
theorem text_c3 {l : List Bool} (hl : l.length ≤ 5000) (p : P96c3) (h0 : p.d0 = 0) (h1 : p.d1 = l) : Runs (s96 std) (.more (.c3 p)) ((digs l).map fun n => UInt8.ofNat n.toNat) := by
  rw [runs_more, s96, h0, h1]
  cases l with
  | nil => exact (runs_brF rfl).2 (.ret _)
  | cons x l =>
    refine (runs_brT (by rw [show std.len (x :: l) = (((x :: l).length : Nat) : Int) from rfl, show (0 : Int) = ((0 : Nat) : Int) from rfl, lss_nat]; simp)).2 (runs_need.2 ⟨need_ix (i := 0) (by simp), ?_⟩)
    cases x
    · refine (runs_brF rfl).2 (runs_need.2 ⟨rfl, ?_⟩)
      exact text_c4 (l := false :: l) hl l.length 1 _ [48] rfl (by simp) (by simp) (by simp at hl ⊢; omega)
    · refine (runs_brT rfl).2 (runs_need.2 ⟨rfl, ?_⟩)
      exact text_c4 (l := true :: l) hl l.length 1 _ [49] rfl (by simp) (by simp) (by simp at hl ⊢; omega)
theorem text_c2 {n : Nat} {b : List Int} (hb : bytesOk b) (hl : b.length ≤ 140737488355328) (hn : n ≤ 4096) (hok : n ≤ 8 * b.length) : ∀ (j i : Nat) (p : P96c2), p.c1 = (n : Int) → p.c2 = b → n - i = j → i ≤ n → Runs (s96 std) (.more (.c2 p (i : Int) (unpack i b))) ((digs (unpack n b)).map fun n => UInt8.ofNat n.toNat) := by
  intro j
  induction j with
  | zero =>
    intro i p h1 h2 hj hi
    have : i = n := by omega
    subst this
    rw [runs_more, s96]
    refine (runs_brF (by rw [h1, lss_nat]; simp)).2 ?_
    exact text_c3 (by rw [unpack_length]; omega) _ rfl rfl
  | succ j ih =>
    intro i p h1 h2 hj hi
    rw [runs_more, s96]
    refine (runs_brT (by rw [h1, lss_nat]; simp; omega)).2 (runs_need.2 ⟨?_, runs_need.2 ⟨?_, ?_⟩⟩)
    · rw [h2, std_call]; simp [pre136]; omega
    · show decide (((unpack i b ++ [_]).length : Int) ≤ 70368744177664) = true
      rw [List.length_append, unpack_length]
      simp; omega
    · have e : (std.app (unpack i b) [(std.call fn136 (p.c2, (i : Int)))] : List Bool) = unpack (i + 1) b := by
        show unpack i b ++ [fn136 (p.c2, (i : Int))] = _
        rw [h2, fn136_eq hb (by omega) (by omega), unpack_succ, Int.toNat_natCast]
      exact runs_c (congrArg LT.more (congr (congrArg (Y96.c2 p) (inc1 (by omega))) e)) (ih (i + 1) p h1 h2 (by omega) (by omega))
theorem text1 {n : Int} {b : List Int} (h : Ty.hass [(.struct [(.int .i64), (.slice (.int .u8))])] (n, b)) : Runs (s96 std) (t96 std n b) ((bif bsOk (n, b) then digs (bsL (n, b)) else []).map fun n => UInt8.ofNat n.toNat) := by
  have hb := (has_bits h).2.2
  have hl := has_len h
  unfold t96
  refine runs_need.2 ⟨rfl, ?_⟩
  cases hok : bsOk (n, b)
  · refine (runs_brT (show (fn97 (n, b) != 0) = true by rw [fn97, hok]; rfl)).2 ?_
    rw [runs_more, s96]
    exact (runs_brF rfl).2 (.ret _)
  · refine (runs_brF (show (fn97 (n, b) != 0) = false by rw [fn97, hok]; rfl)).2 ?_
    obtain ⟨h1, h2, h3⟩ := (bsOk_iff hb).1 hok
    have h4 := h3.1
    rw [cond_true, runs_more, s96]
    show Runs (s96 std) _ ((digs (unpack n.toNat b)).map fun n => UInt8.ofNat n.toNat)
    by_cases h0 : 0 < n
    · refine (runs_brT (by rw [std_cmp_lss]; simpa using h0)).2 (runs_need.2 ⟨?_, runs_need.2 ⟨rfl, ?_⟩⟩)
      · rw [std_call]; simp [pre136]; omega
      · have e : ([(std.call fn136 (b, (0 : Int)))] : List Bool) = unpack 1 b := by
          show [fn136 (b, (0 : Int))] = _
          rw [fn136_eq hb (by omega) (by omega)]; rfl
        refine runs_c (congrArg LT.more (congr (congrArg (Y96.c2 ⟨n, b⟩) (inc1 (i := 0) (by omega))) e)) ?_
        exact text_c2 hb hl (by omega) (by omega) (n.toNat - 1) 1 ⟨n, b⟩ (by show n = _; omega) rfl (by omega) (by omega)
    · refine (runs_brF (by rw [std_cmp_lss]; simp; omega)).2 ?_
      rw [show n.toNat = 0 from by omega, runs_more, s96]
      exact (runs_brF rfl).2 (.ret _)

def fn96 : ((Int × List Int)) → (List UInt8) := fun b => (bif bsOk b then digs (bsL b) else []).map fun n => UInt8.ofNat n.toNat
def sp96 : FSpec := ⟨[(.struct [(.int .i64), (.slice (.int .u8))])], [.str], (@tt ((Int × List Int))), fn96⟩
theorem run96 {bN : Int} {bB : List Int} (h : Ty.hass [(.struct [(.int .i64), (.slice (.int .u8))])] (bN, bB)) : Runs (s96 std) (t96 std bN bB) (fn96 (bN, bB)) := by
  exact text1 h
theorem so96 : FSpec.Sound Try.prog 96 sp96 :=
  w96_ok.sound _ _ fun (bN, bB) _ h => run96 h
/-! ### internal/stringslite.HasPrefix (function 135) -/
def t135 (A : Alg) (s : List UInt8) (prefix1 : List UInt8) : LT Bool Empty :=
  .br (A.cmp .geq (A.len s) (A.len prefix1))
  (.need (A.and (A.cmp .leq 0 0) (A.and (A.cmp .leq 0 (A.len prefix1)) (A.cmp .leq (A.len prefix1) (A.len s)))) (
  .ret (A.scmp .eql (A.sub s 0 (A.len prefix1)) prefix1)))
  (.ret false)
noncomputable def E135 (A : Alg) : Info (Ty.Ts [.bool]) := { ti := tys, fns := [(135, Try.f135)], sps := [], stops := [], cuts := [], consts := [], fin := finD A [.bool] }
theorem t135_ok (A : Alg) (s : List UInt8) (prefix1 : List UInt8) : run A (E135 A) 27 (startC 135 Try.f135 (dvals A [.str, .str] (s, prefix1))) = (t135 A s prefix1).tr Empty.elim := by kernel_rfl
def w135 : Walk Try.prog 135 [.str, .str] [.bool] Empty := ⟨fun (s, prefix1) => t135 std s prefix1, Empty.elim⟩
theorem w135_ok : w135.Ok :=
  walk_ok (E := E135 std) ⟨tys_fit, fns_cons Try.func135 (by kernel_rfl) (fns_nil), sps_nil, by kernel_rfl⟩ rfl rfl rfl (by kernel_rfl) w135 Empty.elim 27 (fun (s, prefix1) => t135_ok std s prefix1) (fun y => y.elim)

def fn135 : (List UInt8 × List UInt8) → Bool := fun (s, prefix1) => (t135 std s prefix1).val (Ty.dflts [.bool])
def sp135 : FSpec := ⟨[.str, .str], [.bool], (@tt (List UInt8 × List UInt8)), fn135⟩
theorem eqs135 (s : List UInt8) (prefix1 : List UInt8) : (t135 std s prefix1).Eqs := by simp only [t135, LT.Eqs, and_self, true_and, and_true]
theorem pre135_ok {s : List UInt8} {prefix1 : List UInt8} (h : Ty.hass [.str, .str] (s, prefix1)) : (t135 std s prefix1).pre = true := by
  simp only [t135, LT.pre, cond_iff, std_cmp_eql, std_cmp_neq, std_cmp_lss, std_cmp_leq, std_cmp_gtr, std_cmp_geq, std_and, std_not, std_beq, std_call, std_add, std_sub, std_conv, std_len, tt_eq, Bool.and_eq_true, Bool.or_eq_true, Bool.and_eq_false_iff, Bool.or_eq_false_iff, Bool.not_eq_true', Bool.not_eq_false', decide_eq_true_eq, decide_eq_false_iff_not, bne_iff_ne, beq_iff_eq, bne_eq_false_iff_eq, beq_eq_false_iff_ne]
  simp only [Ty.hass, Ty.has, has64, has8] at h
  (repeat' (first | intro _ | constructor)) <;> (try omega)
theorem so135 : FSpec.Sound Try.prog 135 sp135 :=
  w135_ok.sound _ _ fun (s, prefix1) _ h => LT.runs (d := Ty.dflts [.bool]) (eqs135 s prefix1) (pre135_ok h)
/-! ### strings.HasPrefix (function 95) -/
def t95 (A : Alg) (s : List UInt8) (prefix1 : List UInt8) : LT Bool Empty :=
  .need (A.call (@tt (List UInt8 × List UInt8)) (s, prefix1)) (
  .ret (A.call fn135 (s, prefix1)))
noncomputable def E95 (A : Alg) : Info (Ty.Ts [.bool]) := { ti := tys, fns := [(95, Try.f95)], sps := [(135, sp135)], stops := [], cuts := [], consts := [], fin := finD A [.bool] }
theorem t95_ok (A : Alg) (s : List UInt8) (prefix1 : List UInt8) : run A (E95 A) 17 (startC 95 Try.f95 (dvals A [.str, .str] (s, prefix1))) = (t95 A s prefix1).tr Empty.elim := by kernel_rfl
def w95 : Walk Try.prog 95 [.str, .str] [.bool] Empty := ⟨fun (s, prefix1) => t95 std s prefix1, Empty.elim⟩
theorem w95_ok : w95.Ok :=
  walk_ok (E := E95 std) ⟨tys_fit, fns_cons Try.func95 (by kernel_rfl) (fns_nil), sps_cons so135 (sps_nil), by kernel_rfl⟩ rfl rfl rfl (by kernel_rfl) w95 Empty.elim 17 (fun (s, prefix1) => t95_ok std s prefix1) (fun y => y.elim)

def fn95 : (List UInt8 × List UInt8) → Bool := fun (s, prefix1) => (t95 std s prefix1).val (Ty.dflts [.bool])
def sp95 : FSpec := ⟨[.str, .str], [.bool], (@tt (List UInt8 × List UInt8)), fn95⟩
theorem eqs95 (s : List UInt8) (prefix1 : List UInt8) : (t95 std s prefix1).Eqs := by simp only [t95, LT.Eqs, and_self, true_and, and_true]
theorem pre95_ok {s : List UInt8} {prefix1 : List UInt8} (h : Ty.hass [.str, .str] (s, prefix1)) : (t95 std s prefix1).pre = true := by
  simp only [t95, LT.pre, cond_iff, std_cmp_eql, std_cmp_neq, std_cmp_lss, std_cmp_leq, std_cmp_gtr, std_cmp_geq, std_and, std_not, std_beq, std_call, std_add, std_sub, std_conv, std_len, tt_eq, Bool.and_eq_true, Bool.or_eq_true, Bool.and_eq_false_iff, Bool.or_eq_false_iff, Bool.not_eq_true', Bool.not_eq_false', decide_eq_true_eq, decide_eq_false_iff_not, bne_iff_ne, beq_iff_eq, bne_eq_false_iff_eq, beq_eq_false_iff_ne]
  simp only [Ty.hass, Ty.has, has64, has8] at h
  (repeat' (first | intro _ | constructor)) <;> (try omega)
theorem so95 : FSpec.Sound Try.prog 95 sp95 :=
  w95_ok.sound _ _ fun (s, prefix1) _ h => LT.runs (d := Ty.dflts [.bool]) (eqs95 s prefix1) (pre95_ok h)
/-! ### metronome/metronomelaw05.begun (function 47) -/
def t47 (A : Alg) : LT Bool Empty :=
  .need (A.call (@tt ((Int × Int × (Int × Int × Int × Int × Int) × Int × List Int))) (1, 0, (7, 0, 0, 0, 0), 3, ([] : List Int))) (
  .need (A.call (@tt ((Int × List Int))) (A.call fn46 (1, 0, (7, 0, 0, 0, 0), 3, ([] : List Int))).1) (
  .br (A.cmp .eql (A.call fn46 (1, 0, (7, 0, 0, 0, 0), 3, ([] : List Int))).2 0)
  (.br (A.cmp .eql (A.call fn46 (1, 0, (7, 0, 0, 0, 0), 3, ([] : List Int))).1.1 40)
  (.need (A.call (@tt ((Int × List Int))) (A.call fn46 (1, 0, (7, 0, 0, 0, 0), 3, ([] : List Int))).1) (
  .need (A.call (@tt (List UInt8 × List UInt8)) ((A.call fn96 (A.call fn46 (1, 0, (7, 0, 0, 0, 0), 3, ([] : List Int))).1), ([48, 48, 48, 49, 49, 48, 48, 48, 48, 48, 49, 49, 49, 48, 48, 48] : List UInt8))) (
  .br (A.call fn95 ((A.call fn96 (A.call fn46 (1, 0, (7, 0, 0, 0, 0), 3, ([] : List Int))).1), ([48, 48, 48, 49, 49, 48, 48, 48, 48, 48, 49, 49, 49, 48, 48, 48] : List UInt8)))
  (.br (A.call fn51 (A.call fn46 (1, 0, (7, 0, 0, 0, 0), 3, ([] : List Int))).1).2
  (.br (A.cmp .eql (A.call fn51 (A.call fn46 (1, 0, (7, 0, 0, 0, 0), 3, ([] : List Int))).1).1.2.2.2.1 3)
  (.ret (A.cmp .eql (A.call fn51 (A.call fn46 (1, 0, (7, 0, 0, 0, 0), 3, ([] : List Int))).1).1.2.2.1.1 7))
  (.ret false))
  (.ret false))
  (.ret false))))
  (.ret false))
  (.ret false)))
noncomputable def E47 (A : Alg) : Info (Ty.Ts [.bool]) := { ti := tys, fns := [(47, Try.f47)], sps := [(46, sp46), (51, sp51), (95, sp95), (96, sp96)], stops := [], cuts := [], consts := [], fin := finD A [.bool] }
theorem t47_ok (A : Alg) : run A (E47 A) 63 (startC 47 Try.f47 (dvals A [] ())) = (t47 A).tr Empty.elim := by kernel_rfl
def w47 : Walk Try.prog 47 [] [.bool] Empty := ⟨fun _ => t47 std, Empty.elim⟩
theorem w47_ok : w47.Ok :=
  walk_ok (E := E47 std) ⟨tys_fit, fns_cons Try.func47 (by kernel_rfl) (fns_nil), sps_cons so46 (sps_cons so51 (sps_cons so95 (sps_cons so96 (sps_nil)))), by kernel_rfl⟩ rfl rfl rfl (by kernel_rfl) w47 Empty.elim 63 (fun _ => t47_ok std) (fun y => y.elim)

def fn47 : Unit → Bool := fun _ => (t47 std).val (Ty.dflts [.bool])
def sp47 : FSpec := ⟨[], [.bool], (@tt Unit), fn47⟩
theorem eqs47 : (t47 std).Eqs := by simp only [t47, LT.Eqs, and_self, true_and, and_true]
theorem pre47_ok (h : Ty.hass [] ()) : (t47 std).pre = true := by
  simp [t47, LT.pre, std_call, tt_eq]
theorem so47 : FSpec.Sound Try.prog 47 sp47 :=
  w47_ok.sound _ _ fun _ _ h => LT.runs (d := Ty.dflts [.bool]) (eqs47) (pre47_ok h)
theorem begun05 : fn47 () = true := by kernel_rfl

end Go.Ev.M
