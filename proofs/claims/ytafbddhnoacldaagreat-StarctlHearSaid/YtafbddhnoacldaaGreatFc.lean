/-
  PROVED: what frame.Parse, Good and Explicit compute. Conditions: none.
-/
import Derived.Test.YtafbddhnoacldaaGreatFb
namespace Go.Ev.M
open Go.Proofs
set_option maxRecDepth 100000
set_option linter.unusedVariables false
set_option linter.unusedSimpArgs false
open Go.Ev.Pl
structure P50c0 where
 (a0 a1:Int) (a2:List Int) (a3 a4 a5 a6 a7 a8 a9 a10 a11 a12 a13 a14 a15 a16:Int) (a17:List Int) (a18 a19 a20 a21 a22 a23 a24 a25 a26 a27:Int)
structure P50c1 where
 (b0 b1:Int) (b2:List Int) (b3 b4 b5 b6 b7 b8 b9 b10 b11 b12 b13 b14 b15 b16:Int) (b17:List Int) (b18 b19 b20 b21 b22 b23 b24 b25 b26 b27:Int) (b28:List Int)
structure P50c2 where
 (c1 c2 c3 c4 c5 c6:Int) (c7:List Int) (c17 c18 c19 c20 c21 c22 c23 c24 c25 c26 c27 c28 c29 c30 c31 c32 c33 c34 c35 c36 c37 c38:Int) (c39:List Int)
structure P50c3 where
 (d1:Int) (d2:List Int) (d12 d13 d14 d15 d16 d17 d18 d19 d20 d21 d22 d23 d24 d25 d26 d27 d28 d29 d30 d31 d32 d33:Int) (d34:List Int)
inductive Y50 where
 | c0 (p:P50c0)
 | c1 (p:P50c1)
 | c2 (p:P50c2) (c0:Int) (c8:Int) (c9:Int) (c10:Int) (c11:Int) (c12:Int) (c13:Int) (c14:Int) (c15:Int) (c16:Int)
 | c3 (p:P50c3) (d0:Int) (d3:Int) (d4:Int) (d5:Int) (d6:Int) (d7:Int) (d8:Int) (d9:Int) (d10:Int) (d11:Int)
noncomputable def cfg50:Y50→Cfg
 | .c0 p=>{frames:=[{fn:=241,n:=122,env:=(Env.put (Env.put (Env.put (Env.put (Env.put (Env.put (Env.put .leaf 2 (.ptr 0 0)) 3 (.ptr 1 0)) 4 (.ptr 2 0)) 7 (.ptr 3 0)) 8 (.ptr 4 0)) 9 (.ptr 5 0)) 10 (.int .i64 false p.a0)),todo:=[.code (Code.way (bodyOf Tryz.f241) [1,1,1,1,1,1,1,1,1,0,0]),.code (Code.way (bodyOf Tryz.f241) [1,1,1,1,1,1,1,1,1,0,1]),.code (Code.way (bodyOf Tryz.f241) [1,1,1,1,1,1,1,1,1,1])],marks:=[],rnd:=none}],mem:=[.flat false [.int .i64 false p.a1,.sl (.int .u8) p.a2],.flat false [.int .i64 false p.a3,.int .i64 false p.a4,.int .i64 false p.a5,.int .i64 false p.a6,.int .i64 false p.a7],.flat false [.int .i64 false p.a8,.int .i64 false p.a9,.int .i64 false p.a10,.int .i64 false p.a11,.int .i64 false p.a12,.int .i64 false p.a13,.int .i64 false p.a14,.int .i64 false p.a15,.esl true],.flat false [.int .i64 false p.a16,.sl (.int .u8) p.a17,.int .i64 false p.a18],.flat false [.int .i64 false p.a19,.int .i64 false p.a20,.int .i64 false p.a21,.int .i64 false p.a22,.int .i64 false p.a23,.int .i64 false p.a24,.int .i64 false p.a25,.int .i64 false p.a26,.esl true],.flat false [.int .i64 false p.a27,.esl true],.dead]}
 | .c1 p=>{frames:=[{fn:=241,n:=122,env:=(Env.put (Env.put (Env.put (Env.put (Env.put (Env.put (Env.put .leaf 2 (.ptr 0 0)) 3 (.ptr 1 0)) 4 (.ptr 2 0)) 7 (.ptr 3 0)) 8 (.ptr 4 0)) 9 (.ptr 5 0)) 10 (.int .i64 false p.b0)),todo:=[.code (Code.way (bodyOf Tryz.f241) [1,1,1,1,1,1,1,1,1,0,0]),.code (Code.way (bodyOf Tryz.f241) [1,1,1,1,1,1,1,1,1,0,1]),.code (Code.way (bodyOf Tryz.f241) [1,1,1,1,1,1,1,1,1,1])],marks:=[],rnd:=none}],mem:=[.flat false [.int .i64 false p.b1,.sl (.int .u8) p.b2],.flat false [.int .i64 false p.b3,.int .i64 false p.b4,.int .i64 false p.b5,.int .i64 false p.b6,.int .i64 false p.b7],.flat false [.int .i64 false p.b8,.int .i64 false p.b9,.int .i64 false p.b10,.int .i64 false p.b11,.int .i64 false p.b12,.int .i64 false p.b13,.int .i64 false p.b14,.int .i64 false p.b15,.esl true],.flat false [.int .i64 false p.b16,.sl (.int .u8) p.b17,.int .i64 false p.b18],.flat false [.int .i64 false p.b19,.int .i64 false p.b20,.int .i64 false p.b21,.int .i64 false p.b22,.int .i64 false p.b23,.int .i64 false p.b24,.int .i64 false p.b25,.int .i64 false p.b26,.esl true],.flat false [.int .i64 false p.b27,.sl (.int .u8) p.b28],.dead]}
 | .c2 p c0 c8 c9 c10 c11 c12 c13 c14 c15 c16=>{frames:=[{fn:=282,n:=34,env:=(Env.put (Env.put (Env.put .leaf 0 (.ptr 0 0)) 3 (.ptr 1 0)) 4 (.int .i64 false c0)),todo:=[.inLoop (Code.way (bodyOf Tryz.f282) [1,1,1,0,0,0]),.inBlock 0,.code (Code.way (bodyOf Tryz.f282) [1,1,1,1])],marks:=[],rnd:=none},{fn:=241,n:=122,env:=(Env.put (Env.put (Env.put (Env.put (Env.put (Env.put .leaf 3 (.ptr 2 0)) 4 (.ptr 3 0)) 8 (.ptr 4 0)) 12 (.ptr 5 0)) 97 (.agg [.int .i64 false p.c1,.int .i64 false p.c2,.int .i64 false p.c3,.int .i64 false p.c4,.int .i64 false p.c5])) 100 (.ptr 4 2)),todo:=[.dopw (opsOf (Code.way (bodyOf Tryz.f241) [1,1,1,1,1,1,1,1,1,1,1,1,1,0,1,0,0,0,0,0,1,0])) [0,0,2,1,15,31,63] 2 [4,5,6] [3,0],.code (.exit 1),.inBlock 3,.code (Code.way (bodyOf Tryz.f241) [1,1,1,1,1,1,1,1,1,1,1,1,1,0,1,0,0,0,1]),.inBlock 4,.code (Code.way (bodyOf Tryz.f241) [1,1,1,1,1,1,1,1,1,1,1,1,1,0,1,0,1]),.inBlock 1,.code (Code.way (bodyOf Tryz.f241) [1,1,1,1,1,1,1,1,1,1,1,1,1,1])],marks:=[],rnd:=none}],mem:=[.flat false [.int .i64 false p.c6,.sl (.int .u8) p.c7,.int .i64 false c8],.flat false [.int .u8 false c9,.int .u8 false c10,.int .u8 false c11,.int .u8 false c12,.int .u8 false c13,.int .u8 false c14,.int .u8 false c15,.int .u8 false c16],.flat false [.int .i64 false p.c17,.int .i64 false p.c18,.int .i64 false p.c19,.int .i64 false p.c20,.int .i64 false p.c21],.flat false [.int .i64 false p.c22,.int .i64 false p.c23,.int .i64 false p.c24,.int .i64 false p.c25,.int .i64 false p.c26,.int .i64 false p.c27,.int .i64 false p.c28,.int .i64 false p.c29,.esl true],.flat false [.int .i64 false p.c30,.int .i64 false p.c31,.int .i64 false p.c32,.int .i64 false p.c33,.int .i64 false p.c34,.int .i64 false p.c35,.int .i64 false p.c36,.int .i64 false p.c37,.esl true],.flat false [.int .i64 false p.c38,.sl (.int .u8) p.c39],.dead]}
 | .c3 p d0 d3 d4 d5 d6 d7 d8 d9 d10 d11=>{frames:=[{fn:=282,n:=34,env:=(Env.put (Env.put (Env.put .leaf 0 (.ptr 0 0)) 3 (.ptr 1 0)) 4 (.int .i64 false d0)),todo:=[.inLoop (Code.way (bodyOf Tryz.f282) [1,1,1,0,0,0]),.inBlock 0,.code (Code.way (bodyOf Tryz.f282) [1,1,1,1])],marks:=[],rnd:=none},{fn:=241,n:=122,env:=(Env.put (Env.put (Env.put (Env.put (Env.put (Env.put .leaf 3 (.ptr 2 0)) 4 (.ptr 3 0)) 8 (.ptr 4 0)) 12 (.ptr 5 0)) 97 .undef) 100 .undef),todo:=[.ops (opsOf (Code.way (bodyOf Tryz.f241) [1,1,1,1,1,1,1,1,1,1,1,1,1,0,1,0,0,0,1,1])) ((opsOf (Code.way (bodyOf Tryz.f241) [1,1,1,1,1,1,1,1,1,1,1,1,1,0,1,0,0,0,1,1])).toList.drop 1),.inBlock 4,.code (Code.way (bodyOf Tryz.f241) [1,1,1,1,1,1,1,1,1,1,1,1,1,0,1,0,1]),.inBlock 1,.code (Code.way (bodyOf Tryz.f241) [1,1,1,1,1,1,1,1,1,1,1,1,1,1])],marks:=[],rnd:=none}],mem:=[.flat false [.int .i64 false p.d1,.sl (.int .u8) p.d2,.int .i64 false d3],.flat false [.int .u8 false d4,.int .u8 false d5,.int .u8 false d6,.int .u8 false d7,.int .u8 false d8,.int .u8 false d9,.int .u8 false d10,.int .u8 false d11],.flat false [.int .i64 false p.d12,.int .i64 false p.d13,.int .i64 false p.d14,.int .i64 false p.d15,.int .i64 false p.d16],.flat false [.int .i64 false p.d17,.int .i64 false p.d18,.int .i64 false p.d19,.int .i64 false p.d20,.int .i64 false p.d21,.int .i64 false p.d22,.int .i64 false p.d23,.int .i64 false p.d24,.esl true],.flat false [.int .i64 false p.d25,.int .i64 false p.d26,.int .i64 false p.d27,.int .i64 false p.d28,.int .i64 false p.d29,.int .i64 false p.d30,.int .i64 false p.d31,.int .i64 false p.d32,.esl true],.flat false [.int .i64 false p.d33,.sl (.int .u8) p.d34],.dead]}
def t50 (A:Alg) (bN:Int) (bB:List Int) (cTime:Int) (cPos:Int) (cMode:Int) (cNext:Int) (cMember:Int):LT ((Int×Int×(Int×Int×Int×Int×Int)×Int×List Int)×Int) Y50:=
 .need (A.call (@tt ((Int×List Int))) (bN,bB)) (
 .br (A.cmp .neq (A.call fn99 (bN,bB)) 0)
 (.ret ((0,0,(0,0,0,0,0),0,([]:List Int)),(A.call fn99 (bN,bB))))
 (.need (A.call (@tt ((Int×Int×Int×Int×Int)×Int)) ((cTime,cPos,cMode,cNext,cMember),8)) (
  .br (A.cmp .neq (A.call fn87 ((cTime,cPos,cMode,cNext,cMember),8)) 0)
  (.ret ((0,0,(0,0,0,0,0),0,([]:List Int)),40))
  (.need (A.call (@tt ((Int×List Int)×Int×Int)) ((bN,bB),0,2)) (
   .br (A.cmp .neq (A.call fn138 ((bN,bB),0,2)).2 0)
   (.need (A.call (@tt (Int×Int)) (bN,1)) (
    .br (A.not (A.call fn101 (bN,1)))
    (.ret ((0,0,(0,0,0,0,0),0,([]:List Int)),51))
    (.need (A.call (@tt ((Int×List Int)×Int×Int)) ((bN,bB),0,3)) (
     .br (A.cmp .neq (A.call fn138 ((bN,bB),0,3)).2 0)
     (.need (A.call (@tt ((Int×List Int)×Int×Int)) ((bN,bB),0,8)) (
      .br (A.cmp .neq (A.call fn138 ((bN,bB),0,8)).2 0)
      (.need (A.call (@tt ((Int×List Int)×Int×Int)) ((bN,bB),0,3)) (
       .br (A.cmp .neq (A.call fn138 ((bN,bB),0,3)).2 0)
       (.more (.c0 ⟨0,bN,bB,cTime,cPos,cMode,cNext,cMember,0,0,0,0,0,0,0,0,bN,bB,0,1,0,0,0,0,0,0,0,0⟩))
       (.more (.c0 ⟨(A.conv .i64 (A.call fn138 ((bN,bB),0,3)).1),bN,bB,cTime,cPos,cMode,cNext,cMember,0,0,0,0,0,0,0,0,bN,bB,3,1,0,0,0,0,0,0,0,0⟩))))
      (.need (A.call (@tt ((Int×List Int)×Int×Int)) ((bN,bB),8,3)) (
       .br (A.cmp .neq (A.call fn138 ((bN,bB),8,3)).2 0)
       (.more (.c0 ⟨0,bN,bB,cTime,cPos,cMode,cNext,cMember,0,0,0,0,0,0,0,0,bN,bB,8,1,0,(A.conv .i64 (A.call fn138 ((bN,bB),0,8)).1),0,0,0,0,0,0⟩))
       (.more (.c0 ⟨(A.conv .i64 (A.call fn138 ((bN,bB),8,3)).1),bN,bB,cTime,cPos,cMode,cNext,cMember,0,0,0,0,0,0,0,0,bN,bB,11,1,0,(A.conv .i64 (A.call fn138 ((bN,bB),0,8)).1),0,0,0,0,0,0⟩))))))
     (.need (A.call (@tt ((Int×List Int)×Int×Int)) ((bN,bB),3,8)) (
      .br (A.cmp .neq (A.call fn138 ((bN,bB),3,8)).2 0)
      (.need (A.call (@tt ((Int×List Int)×Int×Int)) ((bN,bB),3,3)) (
       .br (A.cmp .neq (A.call fn138 ((bN,bB),3,3)).2 0)
       (.more (.c0 ⟨0,bN,bB,cTime,cPos,cMode,cNext,cMember,0,0,0,0,0,0,0,0,bN,bB,3,1,0,0,0,0,0,0,(A.conv .i64 (A.call fn138 ((bN,bB),0,3)).1),0⟩))
       (.more (.c0 ⟨(A.conv .i64 (A.call fn138 ((bN,bB),3,3)).1),bN,bB,cTime,cPos,cMode,cNext,cMember,0,0,0,0,0,0,0,0,bN,bB,6,1,0,0,0,0,0,0,(A.conv .i64 (A.call fn138 ((bN,bB),0,3)).1),0⟩))))
      (.need (A.call (@tt ((Int×List Int)×Int×Int)) ((bN,bB),11,3)) (
       .br (A.cmp .neq (A.call fn138 ((bN,bB),11,3)).2 0)
       (.more (.c0 ⟨0,bN,bB,cTime,cPos,cMode,cNext,cMember,0,0,0,0,0,0,0,0,bN,bB,11,1,0,(A.conv .i64 (A.call fn138 ((bN,bB),3,8)).1),0,0,0,0,(A.conv .i64 (A.call fn138 ((bN,bB),0,3)).1),0⟩))
       (.more (.c0 ⟨(A.conv .i64 (A.call fn138 ((bN,bB),11,3)).1),bN,bB,cTime,cPos,cMode,cNext,cMember,0,0,0,0,0,0,0,0,bN,bB,14,1,0,(A.conv .i64 (A.call fn138 ((bN,bB),3,8)).1),0,0,0,0,(A.conv .i64 (A.call fn138 ((bN,bB),0,3)).1),0⟩))))))))))
   (.need (A.call (@tt (Int×Int)) (bN,(A.bin .add .i64 (A.conv .i64 (A.call fn138 ((bN,bB),0,2)).1) 1))) (
    .br (A.not (A.call fn101 (bN,(A.bin .add .i64 (A.conv .i64 (A.call fn138 ((bN,bB),0,2)).1) 1))))
    (.ret ((0,0,(0,0,0,0,0),0,([]:List Int)),51))
    (.br (A.cmp .eql (A.bin .add .i64 (A.conv .i64 (A.call fn138 ((bN,bB),0,2)).1) 1) 1)
     (.need (A.call (@tt ((Int×List Int)×Int×Int)) ((bN,bB),2,3)) (
     .br (A.cmp .neq (A.call fn138 ((bN,bB),2,3)).2 0)
      (.need (A.call (@tt ((Int×List Int)×Int×Int)) ((bN,bB),2,8)) (
      .br (A.cmp .neq (A.call fn138 ((bN,bB),2,8)).2 0)
       (.need (A.call (@tt ((Int×List Int)×Int×Int)) ((bN,bB),2,3)) (
       .br (A.cmp .neq (A.call fn138 ((bN,bB),2,3)).2 0)
        (.more (.c0 ⟨0,bN,bB,cTime,cPos,cMode,cNext,cMember,0,0,0,0,0,0,0,0,bN,bB,2,(A.bin .add .i64 (A.conv .i64 (A.call fn138 ((bN,bB),0,2)).1) 1),0,0,0,0,0,0,0,0⟩))
        (.more (.c0 ⟨(A.conv .i64 (A.call fn138 ((bN,bB),2,3)).1),bN,bB,cTime,cPos,cMode,cNext,cMember,0,0,0,0,0,0,0,0,bN,bB,5,(A.bin .add .i64 (A.conv .i64 (A.call fn138 ((bN,bB),0,2)).1) 1),0,0,0,0,0,0,0,0⟩))))
       (.need (A.call (@tt ((Int×List Int)×Int×Int)) ((bN,bB),10,3)) (
       .br (A.cmp .neq (A.call fn138 ((bN,bB),10,3)).2 0)
        (.more (.c0 ⟨0,bN,bB,cTime,cPos,cMode,cNext,cMember,0,0,0,0,0,0,0,0,bN,bB,10,(A.bin .add .i64 (A.conv .i64 (A.call fn138 ((bN,bB),0,2)).1) 1),0,(A.conv .i64 (A.call fn138 ((bN,bB),2,8)).1),0,0,0,0,0,0⟩))
        (.more (.c0 ⟨(A.conv .i64 (A.call fn138 ((bN,bB),10,3)).1),bN,bB,cTime,cPos,cMode,cNext,cMember,0,0,0,0,0,0,0,0,bN,bB,13,(A.bin .add .i64 (A.conv .i64 (A.call fn138 ((bN,bB),0,2)).1) 1),0,(A.conv .i64 (A.call fn138 ((bN,bB),2,8)).1),0,0,0,0,0,0⟩))))))
      (.need (A.call (@tt ((Int×List Int)×Int×Int)) ((bN,bB),5,8)) (
      .br (A.cmp .neq (A.call fn138 ((bN,bB),5,8)).2 0)
       (.need (A.call (@tt ((Int×List Int)×Int×Int)) ((bN,bB),5,3)) (
       .br (A.cmp .neq (A.call fn138 ((bN,bB),5,3)).2 0)
        (.more (.c0 ⟨0,bN,bB,cTime,cPos,cMode,cNext,cMember,0,0,0,0,0,0,0,0,bN,bB,5,(A.bin .add .i64 (A.conv .i64 (A.call fn138 ((bN,bB),0,2)).1) 1),0,0,0,0,0,0,(A.conv .i64 (A.call fn138 ((bN,bB),2,3)).1),0⟩))
        (.more (.c0 ⟨(A.conv .i64 (A.call fn138 ((bN,bB),5,3)).1),bN,bB,cTime,cPos,cMode,cNext,cMember,0,0,0,0,0,0,0,0,bN,bB,8,(A.bin .add .i64 (A.conv .i64 (A.call fn138 ((bN,bB),0,2)).1) 1),0,0,0,0,0,0,(A.conv .i64 (A.call fn138 ((bN,bB),2,3)).1),0⟩))))
       (.need (A.call (@tt ((Int×List Int)×Int×Int)) ((bN,bB),13,3)) (
       .br (A.cmp .neq (A.call fn138 ((bN,bB),13,3)).2 0)
        (.more (.c0 ⟨0,bN,bB,cTime,cPos,cMode,cNext,cMember,0,0,0,0,0,0,0,0,bN,bB,13,(A.bin .add .i64 (A.conv .i64 (A.call fn138 ((bN,bB),0,2)).1) 1),0,(A.conv .i64 (A.call fn138 ((bN,bB),5,8)).1),0,0,0,0,(A.conv .i64 (A.call fn138 ((bN,bB),2,3)).1),0⟩))
        (.more (.c0 ⟨(A.conv .i64 (A.call fn138 ((bN,bB),13,3)).1),bN,bB,cTime,cPos,cMode,cNext,cMember,0,0,0,0,0,0,0,0,bN,bB,16,(A.bin .add .i64 (A.conv .i64 (A.call fn138 ((bN,bB),0,2)).1) 1),0,(A.conv .i64 (A.call fn138 ((bN,bB),5,8)).1),0,0,0,0,(A.conv .i64 (A.call fn138 ((bN,bB),2,3)).1),0⟩))))))))
     (.br (A.cmp .eql (A.bin .add .i64 (A.conv .i64 (A.call fn138 ((bN,bB),0,2)).1) 1) 2)
     (.need (A.call (@tt ((Int×List Int)×Int×Int)) ((bN,bB),2,3)) (
      .br (A.cmp .neq (A.call fn138 ((bN,bB),2,3)).2 0)
      (.need (A.call (@tt ((Int×Int×Int×Int×Int))) (cTime,cPos,cMode,cNext,cMember)) (
       .more (.c1 ⟨0,bN,bB,cTime,cPos,cMode,cNext,cMember,0,0,0,0,0,0,0,0,bN,bB,2,(A.bin .add .i64 (A.conv .i64 (A.call fn138 ((bN,bB),0,2)).1) 1),0,0,0,0,0,0,0,(A.call fn90 (cTime,cPos,cMode,cNext,cMember)).1.1,(A.call fn90 (cTime,cPos,cMode,cNext,cMember)).1.2⟩)))
      (.need (A.call (@tt ((Int×Int×Int×Int×Int))) (cTime,cPos,cMode,cNext,cMember)) (
       .more (.c1 ⟨0,bN,bB,cTime,cPos,cMode,cNext,cMember,0,0,0,0,0,0,0,0,bN,bB,5,(A.bin .add .i64 (A.conv .i64 (A.call fn138 ((bN,bB),0,2)).1) 1),(A.conv .i64 (A.call fn138 ((bN,bB),2,3)).1),0,0,0,0,0,0,(A.call fn90 (cTime,cPos,cMode,cNext,cMember)).1.1,(A.call fn90 (cTime,cPos,cMode,cNext,cMember)).1.2⟩)))))
     (.need (A.call (@tt ((Int×List Int)×Int×Int)) ((bN,bB),2,3)) (
      .br (A.cmp .neq (A.call fn138 ((bN,bB),2,3)).2 0)
      (.eqs (IntKind.i64=IntKind.i64∧((A.bin .sub .i64 (A.bin .add .i64 (A.conv .i64 (A.call fn138 ((bN,bB),0,2)).1) 1) 2):Int)=(A.bin .sub .i64 (A.bin .add .i64 (A.conv .i64 (A.call fn138 ((bN,bB),0,2)).1) 1) 2)) (
       .eqs (IntKind.i64=IntKind.i64∧((A.bin .add .i64 (A.conv .i64 (A.call fn138 ((bN,bB),0,2)).1) 1):Int)=(A.bin .add .i64 (A.conv .i64 (A.call fn138 ((bN,bB),0,2)).1) 1)) (
       .eqs ((.ptr 4 0:AV)=.ptr 4 0) (
        .eqs ((.ptr 3 0:AV)=.ptr 3 0) (
        .need (A.call (@tt ((Int×List Int)×Int×Int)) ((bN,bB),2,(A.bin .sub .i64 (A.bin .add .i64 (A.conv .i64 (A.call fn138 ((bN,bB),0,2)).1) 1) 2))) (
         .br (A.cmp .neq (A.call fn138 ((bN,bB),2,(A.bin .sub .i64 (A.bin .add .i64 (A.conv .i64 (A.call fn138 ((bN,bB),0,2)).1) 1) 2))).2 0)
         (.eqs ((.ptr 4 1:AV)=.ptr 4 1) (
          .more (.c0 ⟨0,bN,bB,cTime,cPos,cMode,cNext,cMember,0,0,0,0,0,0,0,0,bN,bB,2,(A.bin .add .i64 (A.conv .i64 (A.call fn138 ((bN,bB),0,2)).1) 1),0,0,0,0,0,0,0,0⟩)))
         (.eqs ((.ptr 4 1:AV)=.ptr 4 1) (
          .more (.c0 ⟨(A.conv .i64 (A.call fn138 ((bN,bB),2,(A.bin .sub .i64 (A.bin .add .i64 (A.conv .i64 (A.call fn138 ((bN,bB),0,2)).1) 1) 2))).1),bN,bB,cTime,cPos,cMode,cNext,cMember,0,0,0,0,0,0,0,0,bN,bB,(A.bin .add .i64 2 (A.bin .sub .i64 (A.bin .add .i64 (A.conv .i64 (A.call fn138 ((bN,bB),0,2)).1) 1) 2)),(A.bin .add .i64 (A.conv .i64 (A.call fn138 ((bN,bB),0,2)).1) 1),0,0,0,0,0,0,0,0⟩)))))))))
      (.eqs (IntKind.i64=IntKind.i64∧((A.bin .sub .i64 (A.bin .add .i64 (A.conv .i64 (A.call fn138 ((bN,bB),0,2)).1) 1) 2):Int)=(A.bin .sub .i64 (A.bin .add .i64 (A.conv .i64 (A.call fn138 ((bN,bB),0,2)).1) 1) 2)) (
       .eqs (IntKind.i64=IntKind.i64∧((A.bin .add .i64 (A.conv .i64 (A.call fn138 ((bN,bB),0,2)).1) 1):Int)=(A.bin .add .i64 (A.conv .i64 (A.call fn138 ((bN,bB),0,2)).1) 1)) (
       .eqs ((.ptr 4 0:AV)=.ptr 4 0) (
        .eqs ((.ptr 3 0:AV)=.ptr 3 0) (
        .need (A.call (@tt ((Int×List Int)×Int×Int)) ((bN,bB),5,(A.bin .sub .i64 (A.bin .add .i64 (A.conv .i64 (A.call fn138 ((bN,bB),0,2)).1) 1) 2))) (
         .br (A.cmp .neq (A.call fn138 ((bN,bB),5,(A.bin .sub .i64 (A.bin .add .i64 (A.conv .i64 (A.call fn138 ((bN,bB),0,2)).1) 1) 2))).2 0)
         (.eqs ((.ptr 4 1:AV)=.ptr 4 1) (
          .more (.c0 ⟨0,bN,bB,cTime,cPos,cMode,cNext,cMember,0,0,0,0,0,0,0,0,bN,bB,5,(A.bin .add .i64 (A.conv .i64 (A.call fn138 ((bN,bB),0,2)).1) 1),(A.conv .i64 (A.call fn138 ((bN,bB),2,3)).1),0,0,0,0,0,0,0⟩)))
         (.eqs ((.ptr 4 1:AV)=.ptr 4 1) (
          .more (.c0 ⟨(A.conv .i64 (A.call fn138 ((bN,bB),5,(A.bin .sub .i64 (A.bin .add .i64 (A.conv .i64 (A.call fn138 ((bN,bB),0,2)).1) 1) 2))).1),bN,bB,cTime,cPos,cMode,cNext,cMember,0,0,0,0,0,0,0,0,bN,bB,(A.bin .add .i64 5 (A.bin .sub .i64 (A.bin .add .i64 (A.conv .i64 (A.call fn138 ((bN,bB),0,2)).1) 1) 2)),(A.bin .add .i64 (A.conv .i64 (A.call fn138 ((bN,bB),0,2)).1) 1),(A.conv .i64 (A.call fn138 ((bN,bB),2,3)).1),0,0,0,0,0,0,0⟩))))))))))))))))))))
def s50 (A:Alg):Y50→LT ((Int×Int×(Int×Int×Int×Int×Int)×Int×List Int)×Int) Y50
 | .c0 p=>
  .br (A.cmp .neq p.a0 0)
  (.ret ((0,0,(0,0,0,0,0),0,([]:List Int)),51))
  (.need (A.call (@tt ((Int×List Int)×Int×(Int×List Int))) ((p.a1,p.a2),p.a19,p.a27,([]:List Int))) (
   .br (A.cmp .neq (A.call fn102 ((p.a1,p.a2),p.a19,p.a27,([]:List Int))).2.2 0)
   (.ret ((0,0,(0,0,0,0,0),0,([]:List Int)),(A.call fn102 ((p.a1,p.a2),p.a19,p.a27,([]:List Int))).2.2))
   (.br (A.cmp .eql p.a19 2)
    (.more (.c2 ⟨p.a3,p.a4,p.a5,p.a6,p.a7,(A.call fn102 ((p.a1,p.a2),p.a19,p.a27,([]:List Int))).1.1,(A.call fn102 ((p.a1,p.a2),p.a19,p.a27,([]:List Int))).1.2,p.a3,p.a4,p.a5,p.a6,p.a7,p.a8,p.a9,p.a10,p.a11,p.a12,p.a13,p.a14,p.a15,p.a19,p.a20,p.a21,p.a22,p.a23,p.a24,p.a25,p.a26,(A.call fn102 ((p.a1,p.a2),p.a19,p.a27,([]:List Int))).2.1.1,(A.call fn102 ((p.a1,p.a2),p.a19,p.a27,([]:List Int))).2.1.2⟩ 0 p.a18 0 0 0 0 0 0 0 0))
    (.br (A.cmp .eql p.a19 4)
    (.more (.c3 ⟨(A.call fn102 ((p.a1,p.a2),p.a19,p.a27,([]:List Int))).1.1,(A.call fn102 ((p.a1,p.a2),p.a19,p.a27,([]:List Int))).1.2,p.a3,p.a4,p.a5,p.a6,p.a7,p.a8,p.a9,p.a10,p.a11,p.a12,p.a13,p.a14,p.a15,p.a19,p.a20,p.a21,p.a22,p.a23,p.a24,p.a25,p.a26,(A.call fn102 ((p.a1,p.a2),p.a19,p.a27,([]:List Int))).2.1.1,(A.call fn102 ((p.a1,p.a2),p.a19,p.a27,([]:List Int))).2.1.2⟩ 0 55 0 0 0 0 0 0 0 0))
    (.br (A.cmp .eql p.a19 3)
     (.need (A.call (@tt ((Int×List Int))) (A.call fn102 ((p.a1,p.a2),p.a19,p.a27,([]:List Int))).2.1) (
     .br (A.cmp .neq (A.call fn104 (A.call fn102 ((p.a1,p.a2),p.a19,p.a27,([]:List Int))).2.1).2 0)
      (.ret ((0,0,(0,0,0,0,0),0,([]:List Int)),51))
      (.need (A.call (@tt ((Int×Int×(Int×Int×Int×Int×Int)×Int×List Int))) (p.a19,p.a20,(A.call fn104 (A.call fn102 ((p.a1,p.a2),p.a19,p.a27,([]:List Int))).2.1).1,p.a26,([]:List Int))) (
      .br (A.cmp .neq (A.call fn57 (p.a19,p.a20,(A.call fn104 (A.call fn102 ((p.a1,p.a2),p.a19,p.a27,([]:List Int))).2.1).1,p.a26,([]:List Int))) 0)
       (.ret ((0,0,(0,0,0,0,0),0,([]:List Int)),51))
       (.ret ((p.a19,p.a20,(A.call fn104 (A.call fn102 ((p.a1,p.a2),p.a19,p.a27,([]:List Int))).2.1).1,p.a26,([]:List Int)),0))))))
     (.need (A.call (@tt ((Int×Int×(Int×Int×Int×Int×Int)×Int×List Int))) (p.a19,p.a20,(p.a21,p.a22,p.a23,p.a24,p.a25),p.a26,([]:List Int))) (
     .br (A.cmp .neq (A.call fn57 (p.a19,p.a20,(p.a21,p.a22,p.a23,p.a24,p.a25),p.a26,([]:List Int))) 0)
      (.ret ((0,0,(0,0,0,0,0),0,([]:List Int)),51))
      (.ret ((p.a19,p.a20,(p.a21,p.a22,p.a23,p.a24,p.a25),p.a26,([]:List Int)),0)))))))))
 | .c1 p=>
  .br (A.cmp .neq p.b0 0)
  (.ret ((0,0,(0,0,0,0,0),0,([]:List Int)),51))
  (.need (A.call (@tt ((Int×List Int)×Int×(Int×List Int))) ((p.b1,p.b2),p.b19,p.b27,p.b28)) (
   .br (A.cmp .neq (A.call fn102 ((p.b1,p.b2),p.b19,p.b27,p.b28)).2.2 0)
   (.ret ((0,0,(0,0,0,0,0),0,([]:List Int)),(A.call fn102 ((p.b1,p.b2),p.b19,p.b27,p.b28)).2.2))
   (.br (A.cmp .eql p.b19 2)
    (.more (.c2 ⟨p.b3,p.b4,p.b5,p.b6,p.b7,(A.call fn102 ((p.b1,p.b2),p.b19,p.b27,p.b28)).1.1,(A.call fn102 ((p.b1,p.b2),p.b19,p.b27,p.b28)).1.2,p.b3,p.b4,p.b5,p.b6,p.b7,p.b8,p.b9,p.b10,p.b11,p.b12,p.b13,p.b14,p.b15,p.b19,p.b20,p.b21,p.b22,p.b23,p.b24,p.b25,p.b26,(A.call fn102 ((p.b1,p.b2),p.b19,p.b27,p.b28)).2.1.1,(A.call fn102 ((p.b1,p.b2),p.b19,p.b27,p.b28)).2.1.2⟩ 0 p.b18 0 0 0 0 0 0 0 0))
    (.br (A.cmp .eql p.b19 4)
    (.more (.c3 ⟨(A.call fn102 ((p.b1,p.b2),p.b19,p.b27,p.b28)).1.1,(A.call fn102 ((p.b1,p.b2),p.b19,p.b27,p.b28)).1.2,p.b3,p.b4,p.b5,p.b6,p.b7,p.b8,p.b9,p.b10,p.b11,p.b12,p.b13,p.b14,p.b15,p.b19,p.b20,p.b21,p.b22,p.b23,p.b24,p.b25,p.b26,(A.call fn102 ((p.b1,p.b2),p.b19,p.b27,p.b28)).2.1.1,(A.call fn102 ((p.b1,p.b2),p.b19,p.b27,p.b28)).2.1.2⟩ 0 55 0 0 0 0 0 0 0 0))
    (.br (A.cmp .eql p.b19 3)
     (.need (A.call (@tt ((Int×List Int))) (A.call fn102 ((p.b1,p.b2),p.b19,p.b27,p.b28)).2.1) (
     .br (A.cmp .neq (A.call fn104 (A.call fn102 ((p.b1,p.b2),p.b19,p.b27,p.b28)).2.1).2 0)
      (.ret ((0,0,(0,0,0,0,0),0,([]:List Int)),51))
      (.need (A.call (@tt ((Int×Int×(Int×Int×Int×Int×Int)×Int×List Int))) (p.b19,p.b20,(A.call fn104 (A.call fn102 ((p.b1,p.b2),p.b19,p.b27,p.b28)).2.1).1,p.b26,([]:List Int))) (
      .br (A.cmp .neq (A.call fn57 (p.b19,p.b20,(A.call fn104 (A.call fn102 ((p.b1,p.b2),p.b19,p.b27,p.b28)).2.1).1,p.b26,([]:List Int))) 0)
       (.ret ((0,0,(0,0,0,0,0),0,([]:List Int)),51))
       (.ret ((p.b19,p.b20,(A.call fn104 (A.call fn102 ((p.b1,p.b2),p.b19,p.b27,p.b28)).2.1).1,p.b26,([]:List Int)),0))))))
     (.need (A.call (@tt ((Int×Int×(Int×Int×Int×Int×Int)×Int×List Int))) (p.b19,p.b20,(p.b21,p.b22,p.b23,p.b24,p.b25),p.b26,([]:List Int))) (
     .br (A.cmp .neq (A.call fn57 (p.b19,p.b20,(p.b21,p.b22,p.b23,p.b24,p.b25),p.b26,([]:List Int))) 0)
      (.ret ((0,0,(0,0,0,0,0),0,([]:List Int)),51))
      (.ret ((p.b19,p.b20,(p.b21,p.b22,p.b23,p.b24,p.b25),p.b26,([]:List Int)),0)))))))))
 | .c2 p c0 c8 c9 c10 c11 c12 c13 c14 c15 c16=>
  .br (A.cmp .leq (A.bin .add .i64 c8 8) p.c6)
  (.br (A.cmp .lss c0 8)
   (.need (A.call (@tt ((Int×List Int)×Int×Int)) ((p.c6,p.c7),c8,8)) (
   .br (A.cmp .neq (A.call fn138 ((p.c6,p.c7),c8,8)).2 0)
    (.need (A.and (A.cmp .leq 0 c0) (A.cmp .lss c0 8)) (
    .more (.c2 p (A.bin .add .i64 c0 1) c8 (A.nth (.int .u8) (A.set [c9,c10,c11,c12,c13,c14,c15,c16] c0 (0:Int)) 0:Int) (A.nth (.int .u8) (A.set [c9,c10,c11,c12,c13,c14,c15,c16] c0 (0:Int)) 1:Int) (A.nth (.int .u8) (A.set [c9,c10,c11,c12,c13,c14,c15,c16] c0 (0:Int)) 2:Int) (A.nth (.int .u8) (A.set [c9,c10,c11,c12,c13,c14,c15,c16] c0 (0:Int)) 3:Int) (A.nth (.int .u8) (A.set [c9,c10,c11,c12,c13,c14,c15,c16] c0 (0:Int)) 4:Int) (A.nth (.int .u8) (A.set [c9,c10,c11,c12,c13,c14,c15,c16] c0 (0:Int)) 5:Int) (A.nth (.int .u8) (A.set [c9,c10,c11,c12,c13,c14,c15,c16] c0 (0:Int)) 6:Int) (A.nth (.int .u8) (A.set [c9,c10,c11,c12,c13,c14,c15,c16] c0 (0:Int)) 7:Int))))
    (.need (A.and (A.cmp .leq 0 c0) (A.cmp .lss c0 8)) (
    .more (.c2 p (A.bin .add .i64 c0 1) (A.bin .add .i64 c8 8) (A.nth (.int .u8) (A.set [c9,c10,c11,c12,c13,c14,c15,c16] c0 (A.conv .u8 (A.conv .i64 (A.call fn138 ((p.c6,p.c7),c8,8)).1))) 0:Int) (A.nth (.int .u8) (A.set [c9,c10,c11,c12,c13,c14,c15,c16] c0 (A.conv .u8 (A.conv .i64 (A.call fn138 ((p.c6,p.c7),c8,8)).1))) 1:Int) (A.nth (.int .u8) (A.set [c9,c10,c11,c12,c13,c14,c15,c16] c0 (A.conv .u8 (A.conv .i64 (A.call fn138 ((p.c6,p.c7),c8,8)).1))) 2:Int) (A.nth (.int .u8) (A.set [c9,c10,c11,c12,c13,c14,c15,c16] c0 (A.conv .u8 (A.conv .i64 (A.call fn138 ((p.c6,p.c7),c8,8)).1))) 3:Int) (A.nth (.int .u8) (A.set [c9,c10,c11,c12,c13,c14,c15,c16] c0 (A.conv .u8 (A.conv .i64 (A.call fn138 ((p.c6,p.c7),c8,8)).1))) 4:Int) (A.nth (.int .u8) (A.set [c9,c10,c11,c12,c13,c14,c15,c16] c0 (A.conv .u8 (A.conv .i64 (A.call fn138 ((p.c6,p.c7),c8,8)).1))) 5:Int) (A.nth (.int .u8) (A.set [c9,c10,c11,c12,c13,c14,c15,c16] c0 (A.conv .u8 (A.conv .i64 (A.call fn138 ((p.c6,p.c7),c8,8)).1))) 6:Int) (A.nth (.int .u8) (A.set [c9,c10,c11,c12,c13,c14,c15,c16] c0 (A.conv .u8 (A.conv .i64 (A.call fn138 ((p.c6,p.c7),c8,8)).1))) 7:Int))))))
   (.need (A.and (A.cmp .eql c0 c0) (A.and (A.cmp .leq 0 c0) (A.cmp .leq c0 70368744177664))) (
   .eqs ((.ptr 4 2:AV)=.ptr 4 2) (
    .eqs ((.agg [.int .i64 false p.c17,.int .i64 false p.c18,.int .i64 false p.c19,.int .i64 false p.c20,.int .i64 false p.c21]:AV)=.agg [.int .i64 false p.c1,.int .i64 false p.c2,.int .i64 false p.c3,.int .i64 false p.c4,.int .i64 false p.c5]) (
    .need (A.call (@tt ((Int×Int×(Int×Int×Int×Int×Int)×Int×List Int))) (p.c30,p.c31,(p.c1,p.c2,p.c3,p.c4,p.c5),p.c37,(A.spl (A.rep c0 (0:Int)) 0 (A.sub [c9,c10,c11,c12,c13,c14,c15,c16] 0 (A.mn (A.len [c9,c10,c11,c12,c13,c14,c15,c16]) (A.len (A.rep c0 (0:Int)))))))) (
     .br (A.cmp .neq (A.call fn57 (p.c30,p.c31,(p.c1,p.c2,p.c3,p.c4,p.c5),p.c37,(A.spl (A.rep c0 (0:Int)) 0 (A.sub [c9,c10,c11,c12,c13,c14,c15,c16] 0 (A.mn (A.len [c9,c10,c11,c12,c13,c14,c15,c16]) (A.len (A.rep c0 (0:Int)))))))) 0)
     (.ret ((0,0,(0,0,0,0,0),0,([]:List Int)),51))
     (.ret ((p.c30,p.c31,(p.c1,p.c2,p.c3,p.c4,p.c5),p.c37,(A.spl (A.rep c0 (0:Int)) 0 (A.sub [c9,c10,c11,c12,c13,c14,c15,c16] 0 (A.mn (A.len [c9,c10,c11,c12,c13,c14,c15,c16]) (A.len (A.rep c0 (0:Int))))))),0))))))))
  (.need (A.and (A.cmp .eql c0 c0) (A.and (A.cmp .leq 0 c0) (A.cmp .leq c0 70368744177664))) (
   .eqs ((.ptr 4 2:AV)=.ptr 4 2) (
   .eqs ((.agg [.int .i64 false p.c17,.int .i64 false p.c18,.int .i64 false p.c19,.int .i64 false p.c20,.int .i64 false p.c21]:AV)=.agg [.int .i64 false p.c1,.int .i64 false p.c2,.int .i64 false p.c3,.int .i64 false p.c4,.int .i64 false p.c5]) (
    .need (A.call (@tt ((Int×Int×(Int×Int×Int×Int×Int)×Int×List Int))) (p.c30,p.c31,(p.c1,p.c2,p.c3,p.c4,p.c5),p.c37,(A.spl (A.rep c0 (0:Int)) 0 (A.sub [c9,c10,c11,c12,c13,c14,c15,c16] 0 (A.mn (A.len [c9,c10,c11,c12,c13,c14,c15,c16]) (A.len (A.rep c0 (0:Int)))))))) (
    .br (A.cmp .neq (A.call fn57 (p.c30,p.c31,(p.c1,p.c2,p.c3,p.c4,p.c5),p.c37,(A.spl (A.rep c0 (0:Int)) 0 (A.sub [c9,c10,c11,c12,c13,c14,c15,c16] 0 (A.mn (A.len [c9,c10,c11,c12,c13,c14,c15,c16]) (A.len (A.rep c0 (0:Int)))))))) 0)
     (.ret ((0,0,(0,0,0,0,0),0,([]:List Int)),51))
     (.ret ((p.c30,p.c31,(p.c1,p.c2,p.c3,p.c4,p.c5),p.c37,(A.spl (A.rep c0 (0:Int)) 0 (A.sub [c9,c10,c11,c12,c13,c14,c15,c16] 0 (A.mn (A.len [c9,c10,c11,c12,c13,c14,c15,c16]) (A.len (A.rep c0 (0:Int))))))),0)))))))
 | .c3 p d0 d3 d4 d5 d6 d7 d8 d9 d10 d11=>
  .br (A.cmp .leq (A.bin .add .i64 d3 8) p.d1)
  (.br (A.cmp .lss d0 8)
   (.need (A.call (@tt ((Int×List Int)×Int×Int)) ((p.d1,p.d2),d3,8)) (
   .br (A.cmp .neq (A.call fn138 ((p.d1,p.d2),d3,8)).2 0)
    (.need (A.and (A.cmp .leq 0 d0) (A.cmp .lss d0 8)) (
    .more (.c3 p (A.bin .add .i64 d0 1) d3 (A.nth (.int .u8) (A.set [d4,d5,d6,d7,d8,d9,d10,d11] d0 (0:Int)) 0:Int) (A.nth (.int .u8) (A.set [d4,d5,d6,d7,d8,d9,d10,d11] d0 (0:Int)) 1:Int) (A.nth (.int .u8) (A.set [d4,d5,d6,d7,d8,d9,d10,d11] d0 (0:Int)) 2:Int) (A.nth (.int .u8) (A.set [d4,d5,d6,d7,d8,d9,d10,d11] d0 (0:Int)) 3:Int) (A.nth (.int .u8) (A.set [d4,d5,d6,d7,d8,d9,d10,d11] d0 (0:Int)) 4:Int) (A.nth (.int .u8) (A.set [d4,d5,d6,d7,d8,d9,d10,d11] d0 (0:Int)) 5:Int) (A.nth (.int .u8) (A.set [d4,d5,d6,d7,d8,d9,d10,d11] d0 (0:Int)) 6:Int) (A.nth (.int .u8) (A.set [d4,d5,d6,d7,d8,d9,d10,d11] d0 (0:Int)) 7:Int))))
    (.need (A.and (A.cmp .leq 0 d0) (A.cmp .lss d0 8)) (
    .more (.c3 p (A.bin .add .i64 d0 1) (A.bin .add .i64 d3 8) (A.nth (.int .u8) (A.set [d4,d5,d6,d7,d8,d9,d10,d11] d0 (A.conv .u8 (A.conv .i64 (A.call fn138 ((p.d1,p.d2),d3,8)).1))) 0:Int) (A.nth (.int .u8) (A.set [d4,d5,d6,d7,d8,d9,d10,d11] d0 (A.conv .u8 (A.conv .i64 (A.call fn138 ((p.d1,p.d2),d3,8)).1))) 1:Int) (A.nth (.int .u8) (A.set [d4,d5,d6,d7,d8,d9,d10,d11] d0 (A.conv .u8 (A.conv .i64 (A.call fn138 ((p.d1,p.d2),d3,8)).1))) 2:Int) (A.nth (.int .u8) (A.set [d4,d5,d6,d7,d8,d9,d10,d11] d0 (A.conv .u8 (A.conv .i64 (A.call fn138 ((p.d1,p.d2),d3,8)).1))) 3:Int) (A.nth (.int .u8) (A.set [d4,d5,d6,d7,d8,d9,d10,d11] d0 (A.conv .u8 (A.conv .i64 (A.call fn138 ((p.d1,p.d2),d3,8)).1))) 4:Int) (A.nth (.int .u8) (A.set [d4,d5,d6,d7,d8,d9,d10,d11] d0 (A.conv .u8 (A.conv .i64 (A.call fn138 ((p.d1,p.d2),d3,8)).1))) 5:Int) (A.nth (.int .u8) (A.set [d4,d5,d6,d7,d8,d9,d10,d11] d0 (A.conv .u8 (A.conv .i64 (A.call fn138 ((p.d1,p.d2),d3,8)).1))) 6:Int) (A.nth (.int .u8) (A.set [d4,d5,d6,d7,d8,d9,d10,d11] d0 (A.conv .u8 (A.conv .i64 (A.call fn138 ((p.d1,p.d2),d3,8)).1))) 7:Int))))))
   (.need (A.and (A.cmp .eql d0 d0) (A.and (A.cmp .leq 0 d0) (A.cmp .leq d0 70368744177664))) (
   .need (A.call (@tt ((Int×List Int))) (p.d33,p.d34)) (
    .br (A.cmp .neq (A.call fn104 (p.d33,p.d34)).2 0)
    (.ret ((0,0,(0,0,0,0,0),0,([]:List Int)),51))
    (.need (A.call (@tt ((Int×Int×(Int×Int×Int×Int×Int)×Int×List Int))) (p.d25,p.d26,(A.call fn104 (p.d33,p.d34)).1,p.d32,(A.spl (A.rep d0 (0:Int)) 0 (A.sub [d4,d5,d6,d7,d8,d9,d10,d11] 0 (A.mn (A.len [d4,d5,d6,d7,d8,d9,d10,d11]) (A.len (A.rep d0 (0:Int)))))))) (
     .br (A.cmp .neq (A.call fn57 (p.d25,p.d26,(A.call fn104 (p.d33,p.d34)).1,p.d32,(A.spl (A.rep d0 (0:Int)) 0 (A.sub [d4,d5,d6,d7,d8,d9,d10,d11] 0 (A.mn (A.len [d4,d5,d6,d7,d8,d9,d10,d11]) (A.len (A.rep d0 (0:Int)))))))) 0)
     (.ret ((0,0,(0,0,0,0,0),0,([]:List Int)),51))
     (.ret ((p.d25,p.d26,(A.call fn104 (p.d33,p.d34)).1,p.d32,(A.spl (A.rep d0 (0:Int)) 0 (A.sub [d4,d5,d6,d7,d8,d9,d10,d11] 0 (A.mn (A.len [d4,d5,d6,d7,d8,d9,d10,d11]) (A.len (A.rep d0 (0:Int))))))),0))))))))
  (.need (A.and (A.cmp .eql d0 d0) (A.and (A.cmp .leq 0 d0) (A.cmp .leq d0 70368744177664))) (
   .need (A.call (@tt ((Int×List Int))) (p.d33,p.d34)) (
   .br (A.cmp .neq (A.call fn104 (p.d33,p.d34)).2 0)
    (.ret ((0,0,(0,0,0,0,0),0,([]:List Int)),51))
    (.need (A.call (@tt ((Int×Int×(Int×Int×Int×Int×Int)×Int×List Int))) (p.d25,p.d26,(A.call fn104 (p.d33,p.d34)).1,p.d32,(A.spl (A.rep d0 (0:Int)) 0 (A.sub [d4,d5,d6,d7,d8,d9,d10,d11] 0 (A.mn (A.len [d4,d5,d6,d7,d8,d9,d10,d11]) (A.len (A.rep d0 (0:Int)))))))) (
    .br (A.cmp .neq (A.call fn57 (p.d25,p.d26,(A.call fn104 (p.d33,p.d34)).1,p.d32,(A.spl (A.rep d0 (0:Int)) 0 (A.sub [d4,d5,d6,d7,d8,d9,d10,d11] 0 (A.mn (A.len [d4,d5,d6,d7,d8,d9,d10,d11]) (A.len (A.rep d0 (0:Int)))))))) 0)
     (.ret ((0,0,(0,0,0,0,0),0,([]:List Int)),51))
     (.ret ((p.d25,p.d26,(A.call fn104 (p.d33,p.d34)).1,p.d32,(A.spl (A.rep d0 (0:Int)) 0 (A.sub [d4,d5,d6,d7,d8,d9,d10,d11] 0 (A.mn (A.len [d4,d5,d6,d7,d8,d9,d10,d11]) (A.len (A.rep d0 (0:Int))))))),0)))))))
noncomputable def E50 (A:Alg):Info (Ty.Ts [(.struct [(.int .i64),(.int .i64),(.struct [(.int .i64),(.int .i64),(.int .i64),(.int .i64),(.int .i64)]),(.int .i64),(.slice (.int .u8))]),(.int .i64)]):={ti:=tys,fns:=[(241,Tryz.f241),(278,Tryz.f278),(282,Tryz.f282)],sps:=[(284,sp57),(187,sp87),(280,sp90),(83,sp99),(279,sp101),(281,sp102),(283,sp104),(293,sp138)],stops:=[⟨282,3, [[0,3,4], [3,4,8,12,97,100]]⟩],cuts:=[⟨241,19, [[2,3,4,7,8,9,10]]⟩],consts:=[],fin:=finD A [(.struct [(.int .i64),(.int .i64),(.struct [(.int .i64),(.int .i64),(.int .i64),(.int .i64),(.int .i64)]),(.int .i64),(.slice (.int .u8))]),(.int .i64)]}
theorem t50_ok (A:Alg) (bN:Int) (bB:List Int) (cTime:Int) (cPos:Int) (cMode:Int) (cNext:Int) (cMember:Int):run A (E50 A) 298 (startC 241 Tryz.f241 (dvals A [(.struct [(.int .i64),(.slice (.int .u8))]),(.struct [(.int .i64),(.int .i64),(.int .i64),(.int .i64),(.int .i64)])] ((bN,bB),cTime,cPos,cMode,cNext,cMember)))=(t50 A bN bB cTime cPos cMode cNext cMember).tr cfg50:=by kernel_rfl
theorem s50_ok (A:Alg):∀y,∃n,run A (E50 A) n (advance (E50 A).sps (cfg50 y))=(s50 A y).tr cfg50
 | .c0 p=>⟨116,by kernel_rfl⟩
 | .c1 p=>⟨116,by kernel_rfl⟩
 | .c2 p c0 c8 c9 c10 c11 c12 c13 c14 c15 c16=>⟨92,by kernel_rfl⟩
 | .c3 p d0 d3 d4 d5 d6 d7 d8 d9 d10 d11=>⟨92,by kernel_rfl⟩
def w50:Walk Tryz.prog 241 [(.struct [(.int .i64),(.slice (.int .u8))]),(.struct [(.int .i64),(.int .i64),(.int .i64),(.int .i64),(.int .i64)])] [(.struct [(.int .i64),(.int .i64),(.struct [(.int .i64),(.int .i64),(.int .i64),(.int .i64),(.int .i64)]),(.int .i64),(.slice (.int .u8))]),(.int .i64)] Y50:=⟨fun ((bN,bB),cTime,cPos,cMode,cNext,cMember)=>t50 std bN bB cTime cPos cMode cNext cMember,s50 std⟩
theorem w50_ok:w50.Ok:=
 walk_ok (E:=E50 std) ⟨tys_fit,fns_cons Tryz.func241 (by kernel_rfl) (fns_cons Tryz.func278 (by kernel_rfl) (fns_cons Tryz.func282 (by kernel_rfl) (fns_nil))),sps_cons so57 (sps_cons so87 (sps_cons so90 (sps_cons so99 (sps_cons so101 (sps_cons so102 (sps_cons so104 (sps_cons so138 (sps_nil)))))))),by kernel_rfl⟩ rfl rfl rfl (by kernel_rfl) w50 cfg50 298 (fun ((bN,bB),cTime,cPos,cMode,cNext,cMember)=>t50_ok std bN bB cTime cPos cMode cNext cMember) (s50_ok std)
theorem runs_r {R Y:Type} {step:Y→LT R Y} {t:LT R Y} {r r':R} (h:r=r') (h2:Runs step t r):Runs step t r':=h ▸ h2
theorem list8 {S:List Int} (h:S.length=8):[S.getD 0 0,S.getD 1 0,S.getD 2 0,S.getD 3 0,S.getD 4 0,S.getD 5 0,S.getD 6 0,S.getD 7 0]=S:=by
 match S,h with
 | [_,_,_,_,_,_,_,_],_=>rfl
theorem dataOf_snoc (k:Nat):∀l:List Bool,dataOf (k + 1) l=dataOf k l ++ [((natOf ((l.drop (8 * k)).take 8):Nat):Int)]:=by
 induction k with
 | zero=>intro l; rfl
 | succ k ih=>
  intro l
  rw [dataOf,ih,dataOf,List.cons_append,List.drop_drop,show 8 + 8 * k=8 * (k + 1) from by omega]
theorem rest_c0 {m d a:Nat} {b:List Int} (hok:bsOk ((m:Int),b)=true) (hm:m=a + 8 * d) (hd:d≤8) (ha:a≤100):∀(j i:Nat) (p:P50c2) (x0 x1 x2 x3 x4 x5 x6 x7:Int),p.c6=(m:Int)→p.c7=b→p.c17=p.c1→p.c18=p.c2→p.c19=p.c3→p.c20=p.c4→p.c21=p.c5→ [x0,x1,x2,x3,x4,x5,x6,x7]=dataOf i ((unpack m b).drop a) ++ List.replicate (8 - i) 0→d - i=j→i≤d→
  Runs (s50 std) (.more (.c2 p (i:Int) ((a + 8 * i:Nat):Int) x0 x1 x2 x3 x4 x5 x6 x7)) (bif frOk (p.c30,p.c31,(p.c1,p.c2,p.c3,p.c4,p.c5),p.c37,dataOf d ((unpack m b).drop a)) then ((p.c30,p.c31,(p.c1,p.c2,p.c3,p.c4,p.c5),p.c37,dataOf d ((unpack m b).drop a)),0) else (zeroF,51)):=by
 intro j
 induction j with
 | zero=>
  intro i p x0 x1 x2 x3 x4 x5 x6 x7 h6 h7 h17 h18 h19 h20 h21 hR hj hi
  have:i=d:=by omega
  subst this
  have hdl:=dataOf_length i ((unpack m b).drop a)
  have hD:(std.spl (std.rep (i:Int) (0:Int)) 0 (std.sub [x0,x1,x2,x3,x4,x5,x6,x7] 0 (std.mn (std.len [x0,x1,x2,x3,x4,x5,x6,x7]) (std.len (std.rep (i:Int) (0:Int))))):List Int)=dataOf i ((unpack m b).drop a):=by
   rw [hR]
   have e1:std.rep (i:Int) (0:Int)=List.replicate i 0:=by rw [std_rep,Int.toNat_natCast]
   rw [e1]
   have e2:std.mn (std.len (dataOf i ((unpack m b).drop a) ++ List.replicate (8 - i) (0:Int))) (std.len (List.replicate i (0:Int)))=(i:Int):=by
    show (if ((List.replicate i (0:Int)).length:Int) < ((dataOf i ((unpack m b).drop a) ++ List.replicate (8 - i) (0:Int)).length:Int) then ((List.replicate i (0:Int)).length:Int) else ((dataOf i ((unpack m b).drop a) ++ List.replicate (8 - i) (0:Int)).length:Int))=_
    rw [List.length_append,hdl,List.length_replicate,List.length_replicate]
    split <;> omega
   have hT:(dataOf i ((unpack m b).drop a) ++ List.replicate (8 - i) (0:Int)).take i=dataOf i ((unpack m b).drop a):=by rw [List.take_append_of_le_length (by omega),List.take_of_length_le (by omega)]
   rw [e2,std_sub',std_spl,Int.toNat_natCast,hT]
   show (List.replicate i (0:Int)).take 0 ++ (dataOf i ((unpack m b).drop a)).drop 0 ++ (List.replicate i (0:Int)).drop (0 + ((dataOf i ((unpack m b).drop a)).drop 0).length)=_
   rw [List.drop_zero,hdl,List.drop_replicate,show i - (0 + i)=0 from by omega,List.replicate_zero,List.take_zero,List.nil_append,List.append_nil]
  rw [runs_more,s50]
  refine (runs_brF (by rw [h6,show std.bin .add .i64 ((a + 8 * i:Nat):Int) 8=((a + 8 * i + 8:Nat):Int) from add_nat (j:=8) (by omega),leq_nat]; simp; omega)).2 ?_
  refine runs_need.2 ⟨by rw [ceq_t rfl,leq_0,std_cmp_leq,std_and,std_and]; simp; omega,runs_eqs.2 ⟨rfl,runs_eqs.2 ⟨by rw [h17,h18,h19,h20,h21],runs_need.2 ⟨rfl,?_⟩⟩⟩⟩
  have hchk:std.call fn57 (p.c30,p.c31,(p.c1,p.c2,p.c3,p.c4,p.c5),p.c37,(std.spl (std.rep (i:Int) (0:Int)) 0 (std.sub [x0,x1,x2,x3,x4,x5,x6,x7] 0 (std.mn (std.len [x0,x1,x2,x3,x4,x5,x6,x7]) (std.len (std.rep (i:Int) (0:Int)))))))=bif frOk (p.c30,p.c31,(p.c1,p.c2,p.c3,p.c4,p.c5),p.c37,dataOf i ((unpack m b).drop a)) then 0 else 50:=by rw [hD]; exact fn57_eq
  cases hf:frOk (p.c30,p.c31,(p.c1,p.c2,p.c3,p.c4,p.c5),p.c37,dataOf i ((unpack m b).drop a))
  ·rw [hf] at hchk
   exact (runs_brT (cne_t (by rw [hchk]; decide))).2 (.ret _)
  ·rw [hf] at hchk
   refine (runs_brF (cne_f hchk)).2 ?_
   exact runs_c (congrArg (fun z=>LT.ret ((p.c30,p.c31,(p.c1,p.c2,p.c3,p.c4,p.c5),p.c37,z),(0:Int))) hD) (.ret _)
 | succ j ih=>
  intro i p x0 x1 x2 x3 x4 x5 x6 x7 h6 h7 h17 h18 h19 h20 h21 hR hj hi
  have hmb:m≤4096:=by
   simp only [bsOk,Bool.and_eq_true,decide_eq_true_eq] at hok
   omega
  have hg:std.call fn138 ((p.c6,p.c7),((a + 8 * i:Nat):Int),8)=(((fld (unpack m b) (a + 8 * i) 8:Nat):Int),0):=by
   rw [h6,h7]; exact get_in hok (w:=8) (by omega) (by decide) hmb
  have hf:=fld_lt (unpack m b) (a + 8 * i) 8
  have hv:std.conv .u8 (std.conv .i64 (std.call fn138 ((p.c6,p.c7),((a + 8 * i:Nat):Int),8)).1)=((fld (unpack m b) (a + 8 * i) 8:Nat):Int):=by
   rw [hg,std_conv,std_conv,w64 (by omega) (by omega),w8 (by omega) (by omega)]
  have hn8:std.and (std.cmp .leq 0 (i:Int)) (std.cmp .lss (i:Int) 8)=true:=by rw [leq_0,std_cmp_lss,std_and]; simp; omega
  rw [runs_more,s50]
  refine (runs_brT (by rw [h6,show std.bin .add .i64 ((a + 8 * i:Nat):Int) 8=((a + 8 * i + 8:Nat):Int) from add_nat (j:=8) (by omega),leq_nat]; simp; omega)).2 ?_
  refine (runs_brT (by rw [std_cmp_lss]; simp; omega)).2 (runs_need.2 ⟨rfl,(runs_brF (cne_f (congrArg Prod.snd hg))).2 (runs_need.2 ⟨hn8,?_⟩)⟩)
  obtain ⟨S,hS⟩:∃S:List Int,S=([x0,x1,x2,x3,x4,x5,x6,x7]:List Int).set (i:Int).toNat (std.conv .u8 (std.conv .i64 (std.call fn138 ((p.c6,p.c7),((a + 8 * i:Nat):Int),8)).1)):=⟨_,rfl⟩
  have hSl:S.length=8:=by rw [hS,List.length_set]; rfl
  have hSv:S=dataOf (i + 1) ((unpack m b).drop a) ++ List.replicate (8 - (i + 1)) 0:=by
   rw [hS,hv,hR,Int.toNat_natCast,List.set_append_right _ _ (by rw [dataOf_length]; exact Nat.le_refl _),dataOf_length,Nat.sub_self,dataOf_snoc,show 8 - i=(8 - (i + 1)) + 1 from by omega,List.replicate_succ,List.set_cons_zero,List.append_assoc,List.drop_drop]
   rfl
  have hm':=ih (i + 1) p (S.getD 0 0) (S.getD 1 0) (S.getD 2 0) (S.getD 3 0) (S.getD 4 0) (S.getD 5 0) (S.getD 6 0) (S.getD 7 0) h6 h7 h17 h18 h19 h20 h21 ((list8 hSl).trans hSv) (by omega) (by omega)
  have e:Y50.c2 p (std.bin .add .i64 (i:Int) 1) (std.bin .add .i64 ((a + 8 * i:Nat):Int) 8) (S.getD 0 0) (S.getD 1 0) (S.getD 2 0) (S.getD 3 0) (S.getD 4 0) (S.getD 5 0) (S.getD 6 0) (S.getD 7 0)=Y50.c2 p ((i + 1:Nat):Int) ((a + 8 * (i + 1):Nat):Int) (S.getD 0 0) (S.getD 1 0) (S.getD 2 0) (S.getD 3 0) (S.getD 4 0) (S.getD 5 0) (S.getD 6 0) (S.getD 7 0):=by
   rw [inc1 (by omega),show std.bin .add .i64 ((a + 8 * i:Nat):Int) 8=((a + 8 * (i + 1):Nat):Int) from add_nat (j:=8) (by omega)]
  have hm2:=runs_c (congrArg LT.more e) hm'
  subst hS
  exact hm2
theorem rest_c1 {m d a:Nat} {b:List Int} (hok:bsOk ((m:Int),b)=true) (hm:m=a + 8 * d) (hd:d≤8) (ha:a≤100):∀(j i:Nat) (p:P50c3) (x0 x1 x2 x3 x4 x5 x6 x7:Int),p.d1=(m:Int)→p.d2=b→ [x0,x1,x2,x3,x4,x5,x6,x7]=dataOf i ((unpack m b).drop a) ++ List.replicate (8 - i) 0→d - i=j→i≤d→
  Runs (s50 std) (.more (.c3 p (i:Int) ((a + 8 * i:Nat):Int) x0 x1 x2 x3 x4 x5 x6 x7)) (bif (stParseS (p.d33,p.d34)).2 != 0 then (zeroF,51) else bif frOk (p.d25,p.d26,(stParseS (p.d33,p.d34)).1,p.d32,dataOf d ((unpack m b).drop a)) then ((p.d25,p.d26,(stParseS (p.d33,p.d34)).1,p.d32,dataOf d ((unpack m b).drop a)),0) else (zeroF,51)):=by
 intro j
 induction j with
 | zero=>
  intro i p x0 x1 x2 x3 x4 x5 x6 x7 h6 h7 hR hj hi
  have:i=d:=by omega
  subst this
  have hdl:=dataOf_length i ((unpack m b).drop a)
  have hD:(std.spl (std.rep (i:Int) (0:Int)) 0 (std.sub [x0,x1,x2,x3,x4,x5,x6,x7] 0 (std.mn (std.len [x0,x1,x2,x3,x4,x5,x6,x7]) (std.len (std.rep (i:Int) (0:Int))))):List Int)=dataOf i ((unpack m b).drop a):=by
   rw [hR]
   have e1:std.rep (i:Int) (0:Int)=List.replicate i 0:=by rw [std_rep,Int.toNat_natCast]
   rw [e1]
   have e2:std.mn (std.len (dataOf i ((unpack m b).drop a) ++ List.replicate (8 - i) (0:Int))) (std.len (List.replicate i (0:Int)))=(i:Int):=by
    show (if ((List.replicate i (0:Int)).length:Int) < ((dataOf i ((unpack m b).drop a) ++ List.replicate (8 - i) (0:Int)).length:Int) then ((List.replicate i (0:Int)).length:Int) else ((dataOf i ((unpack m b).drop a) ++ List.replicate (8 - i) (0:Int)).length:Int))=_
    rw [List.length_append,hdl,List.length_replicate,List.length_replicate]
    split <;> omega
   have hT:(dataOf i ((unpack m b).drop a) ++ List.replicate (8 - i) (0:Int)).take i=dataOf i ((unpack m b).drop a):=by rw [List.take_append_of_le_length (by omega),List.take_of_length_le (by omega)]
   rw [e2,std_sub',std_spl,Int.toNat_natCast,hT]
   show (List.replicate i (0:Int)).take 0 ++ (dataOf i ((unpack m b).drop a)).drop 0 ++ (List.replicate i (0:Int)).drop (0 + ((dataOf i ((unpack m b).drop a)).drop 0).length)=_
   rw [List.drop_zero,hdl,List.drop_replicate,show i - (0 + i)=0 from by omega,List.replicate_zero,List.take_zero,List.nil_append,List.append_nil]
  rw [runs_more,s50]
  refine (runs_brF (by rw [h6,show std.bin .add .i64 ((a + 8 * i:Nat):Int) 8=((a + 8 * i + 8:Nat):Int) from add_nat (j:=8) (by omega),leq_nat]; simp; omega)).2 ?_
  refine runs_need.2 ⟨by rw [ceq_t rfl,leq_0,std_cmp_leq,std_and,std_and]; simp; omega,runs_need.2 ⟨rfl,?_⟩⟩
  cases he:((stParseS (p.d33,p.d34)).2 != 0)
  ·refine (runs_brF he).2 (runs_need.2 ⟨rfl,?_⟩)
   have hchk:std.call fn57 (p.d25,p.d26,(std.call fn104 (p.d33,p.d34)).1,p.d32,(std.spl (std.rep (i:Int) (0:Int)) 0 (std.sub [x0,x1,x2,x3,x4,x5,x6,x7] 0 (std.mn (std.len [x0,x1,x2,x3,x4,x5,x6,x7]) (std.len (std.rep (i:Int) (0:Int)))))))=bif frOk (p.d25,p.d26,(stParseS (p.d33,p.d34)).1,p.d32,dataOf i ((unpack m b).drop a)) then 0 else 50:=by rw [hD]; exact fn57_eq
   cases hf:frOk (p.d25,p.d26,(stParseS (p.d33,p.d34)).1,p.d32,dataOf i ((unpack m b).drop a))
   ·rw [hf] at hchk
    exact (runs_brT (cne_t (by rw [hchk]; decide))).2 (.ret _)
   ·rw [hf] at hchk
    refine (runs_brF (cne_f hchk)).2 ?_
    exact runs_c (congrArg (fun z=>LT.ret ((p.d25,p.d26,(stParseS (p.d33,p.d34)).1,p.d32,z),(0:Int))) hD) (.ret _)
  ·exact (runs_brT he).2 (.ret _)
 | succ j ih=>
  intro i p x0 x1 x2 x3 x4 x5 x6 x7 h6 h7 hR hj hi
  have hmb:m≤4096:=by
   simp only [bsOk,Bool.and_eq_true,decide_eq_true_eq] at hok
   omega
  have hg:std.call fn138 ((p.d1,p.d2),((a + 8 * i:Nat):Int),8)=(((fld (unpack m b) (a + 8 * i) 8:Nat):Int),0):=by
   rw [h6,h7]; exact get_in hok (w:=8) (by omega) (by decide) hmb
  have hf:=fld_lt (unpack m b) (a + 8 * i) 8
  have hv:std.conv .u8 (std.conv .i64 (std.call fn138 ((p.d1,p.d2),((a + 8 * i:Nat):Int),8)).1)=((fld (unpack m b) (a + 8 * i) 8:Nat):Int):=by
   rw [hg,std_conv,std_conv,w64 (by omega) (by omega),w8 (by omega) (by omega)]
  have hn8:std.and (std.cmp .leq 0 (i:Int)) (std.cmp .lss (i:Int) 8)=true:=by rw [leq_0,std_cmp_lss,std_and]; simp; omega
  rw [runs_more,s50]
  refine (runs_brT (by rw [h6,show std.bin .add .i64 ((a + 8 * i:Nat):Int) 8=((a + 8 * i + 8:Nat):Int) from add_nat (j:=8) (by omega),leq_nat]; simp; omega)).2 ?_
  refine (runs_brT (by rw [std_cmp_lss]; simp; omega)).2 (runs_need.2 ⟨rfl,(runs_brF (cne_f (congrArg Prod.snd hg))).2 (runs_need.2 ⟨hn8,?_⟩)⟩)
  obtain ⟨S,hS⟩:∃S:List Int,S=([x0,x1,x2,x3,x4,x5,x6,x7]:List Int).set (i:Int).toNat (std.conv .u8 (std.conv .i64 (std.call fn138 ((p.d1,p.d2),((a + 8 * i:Nat):Int),8)).1)):=⟨_,rfl⟩
  have hSl:S.length=8:=by rw [hS,List.length_set]; rfl
  have hSv:S=dataOf (i + 1) ((unpack m b).drop a) ++ List.replicate (8 - (i + 1)) 0:=by
   rw [hS,hv,hR,Int.toNat_natCast,List.set_append_right _ _ (by rw [dataOf_length]; exact Nat.le_refl _),dataOf_length,Nat.sub_self,dataOf_snoc,show 8 - i=(8 - (i + 1)) + 1 from by omega,List.replicate_succ,List.set_cons_zero,List.append_assoc,List.drop_drop]
   rfl
  have hm':=ih (i + 1) p (S.getD 0 0) (S.getD 1 0) (S.getD 2 0) (S.getD 3 0) (S.getD 4 0) (S.getD 5 0) (S.getD 6 0) (S.getD 7 0) h6 h7 ((list8 hSl).trans hSv) (by omega) (by omega)
  have e:Y50.c3 p (std.bin .add .i64 (i:Int) 1) (std.bin .add .i64 ((a + 8 * i:Nat):Int) 8) (S.getD 0 0) (S.getD 1 0) (S.getD 2 0) (S.getD 3 0) (S.getD 4 0) (S.getD 5 0) (S.getD 6 0) (S.getD 7 0)=Y50.c3 p ((i + 1:Nat):Int) ((a + 8 * (i + 1):Nat):Int) (S.getD 0 0) (S.getD 1 0) (S.getD 2 0) (S.getD 3 0) (S.getD 4 0) (S.getD 5 0) (S.getD 6 0) (S.getD 7 0):=by
   rw [inc1 (by omega),show std.bin .add .i64 ((a + 8 * i:Nat):Int) 8=((a + 8 * (i + 1):Nat):Int) from add_nat (j:=8) (by omega)]
  have hm2:=runs_c (congrArg LT.more e) hm'
  subst hS
  exact hm2
theorem dataOf_take {k:Nat}:∀{a c:Nat} {l:List Bool},a + 8 * k≤c→c≤l.length→dataOf k ((l.take c).drop a)=dataOf k (l.drop a):=by
 induction k with
 | zero=>intro a c l _ _; rfl
 | succ k ih=>
  intro a c l h hc
  rw [dataOf,dataOf,List.drop_drop,List.drop_drop,ih (by omega) hc]
  congr 2
  congr 1
  rw [List.drop_take,List.take_take,Nat.min_eq_left (by omega)]
theorem get_err {n a w:Nat} {b:List Int} (hok:bsOk ((n:Int),b)=true) (h:n < a + w):std.call fn138 (((n:Int),b),(a:Int),(w:Int))=(0,2):=by
 rw [std_call,fn138,getS]
 simp only [hok,Bool.not_true,cond_false]
 rw [show decide ((n:Int) < (a:Int) + (w:Int))=true from by simp; omega,Bool.or_true]
 rfl
theorem has_parse {n t p m x s:Int} {b:List Int} (h:Ty.hass [(.struct [(.int .i64),(.slice (.int .u8))]),(.struct [(.int .i64),(.int .i64),(.int .i64),(.int .i64),(.int .i64)])] ((n,b),(t,p,m,x,s))):Ty.has (.struct [(.int .i64),(.slice (.int .u8))]) (n,b):=h.1
theorem stParse_24 {q:List Bool} (h:q.length=24):stParseS (bsP q)=bif stOk (stOf q) then (stOf q,0) else (zS,40):=by
 rw [stParseS,bsP_ok (by omega),bsL_bsP,show (bsP q).1=24 from by show ((q.length:Nat):Int)=24; rw [h]; rfl]
 rfl
theorem parse2 {n t p m x s:Int} {b:List Int} (h:Ty.hass [(.struct [(.int .i64),(.slice (.int .u8))]),(.struct [(.int .i64),(.int .i64),(.int .i64),(.int .i64),(.int .i64)])] ((n,b),(t,p,m,x,s))):Runs (s50 std) (t50 std n b t p m x s) (parS ((n,b),(t,p,m,x,s))):=by
 have h1:=has_parse h
 have hb:=(has_bits h1).2.2
 have hl:=has_len h1
 unfold t50
 have hc:std.call fn99 (n,b)=bif bsOk (n,b) then 0 else 10:=fn99_eq hb hl
 refine runs_need.2 ⟨rfl,?_⟩
 show Runs (s50 std) _ (bif !bsOk (n,b) then (zeroF,10) else bif !stOk (t,p,m,x,s) then (zeroF,40) else frOf (bsL (n,b)) (t,p,m,x,s))
 cases hok:bsOk (n,b)
 ·rw [hok] at hc
  refine (runs_brT (cne_t (by rw [hc]; decide))).2 ?_
  exact runs_c (congrArg (fun z=>LT.ret (((0,0,(0,0,0,0,0),0,([]:List Int)):Int×Int×(Int×Int×Int×Int×Int)×Int×List Int),z)) hc) (.ret _)
 rw [hok] at hc
 refine (runs_brF (cne_f hc)).2 (runs_need.2 ⟨rfl,?_⟩)
 rw [Bool.not_true,cond_false]
 have hchk:std.call fn87 ((t,p,m,x,s),8)=bif stOk (t,p,m,x,s) then 0 else 40:=chkS_8 (t,p,m,x,s)
 cases hst:stOk (t,p,m,x,s)
 ·rw [hst] at hchk
  exact (runs_brT (cne_t (by rw [hchk]; decide))).2 (.ret _)
 rw [hst] at hchk
 refine (runs_brF (cne_f hchk)).2 (runs_need.2 ⟨rfl,?_⟩)
 rw [Bool.not_true,cond_false]
 obtain ⟨h2,h3,h4⟩:=(bsOk_iff hb).1 hok
 obtain ⟨n,rfl⟩:=Int.eq_ofNat_of_zero_le h2
 have hn:n≤4096:=by omega
 have hlen:(bsL ((n:Int),b)).length=n:=by rw [bsL_length]; rfl
 have hun:bsL ((n:Int),b)=unpack n b:=rfl
 have hlu:(unpack n b).length=n:=unpack_length n b
 rw [hun]
 obtain ⟨hp1,hp2,hp3,hp4⟩:=fits_prog hn
 obtain ⟨f2,f4,f1,f3⟩:=fits_len (n:=n)
 by_cases hs:n < 2
 ·refine (runs_brT (cne_t (by rw [show std.call fn138 (((n:Int),b),0,2)=(0,2) from get_err (a:=0) (w:=2) hok (by omega)]; decide))).2 (runs_need.2 ⟨rfl,?_⟩)
  rw [frOf_short (by omega)]
  refine (runs_brT (show std.not (std.call fn101 ((n:Int),1))=true from ?_)).2 (.ret _)
  rw [std_not,std_call,hp1,show fitsL n 1=false from by rw [←Bool.not_eq_true,f1]; omega]; rfl
 have g0:std.call fn138 (((n:Int),b),0,2)=(((fld (unpack n b) 0 2:Nat):Int),0):=get_in (a:=0) (w:=2) hok (by omega) (by decide) hn
 refine (runs_brF (cne_f (congrArg Prod.snd g0))).2 (runs_need.2 ⟨rfl,?_⟩)
 have hk:=kind_is (l:=unpack n b) (by omega)
 have hf:=fld_lt (unpack n b) 0 2
 have hK:std.bin .add .i64 (std.conv .i64 (std.call fn138 (((n:Int),b),0,2)).1) 1=((fld (unpack n b) 0 2 + 1:Nat):Int):=by
  rw [g0,std_conv,w64 (by omega) (by omega)]; exact inc1 (by omega)
 rw [hK]
 have g:∀a w:Nat,a + w≤n→w≤64→std.call fn138 (((n:Int),b),(a:Int),(w:Int))=(((fld (unpack n b) a w:Nat):Int),0):=fun a w h1 h2=>get_in hok h1 h2 hn
 have hcv:∀a w:Nat,w≤8→std.conv .i64 ((fld (unpack n b) a w:Nat):Int)=((fld (unpack n b) a w:Nat):Int):=fun a w hw=>by
  have:=fld_lt (unpack n b) a w
  have hp:2 ^ w≤2 ^ 8:=Nat.pow_le_pow_right (by decide) hw
  rw [std_conv,w64 (by omega) (by omega)]
 have hcase:fld (unpack n b) 0 2=0∨fld (unpack n b) 0 2=1∨fld (unpack n b) 0 2=2∨fld (unpack n b) 0 2=3:=by omega
 rcases hcase with h0 | h0 | h0 | h0
 ·-- FrCold
  rw [h0] at hk ⊢
  by_cases hfit:fitsL n 1=true
  ·have h40:=f1.1 hfit
   refine (runs_brF (show std.not (std.call fn101 ((n:Int),1))=false by rw [std_not,std_call,hp1,hfit]; rfl)).2 ((runs_brT rfl).2 ?_)
   have g1:std.call fn138 (((n:Int),b),2,3)=(((fld (unpack n b) 2 3:Nat):Int),0):=g 2 3 (by omega) (by decide)
   have g2:std.call fn138 (((n:Int),b),5,8)=(((fld (unpack n b) 5 8:Nat):Int),0):=g 5 8 (by omega) (by decide)
   have g3:std.call fn138 (((n:Int),b),13,3)=(((fld (unpack n b) 13 3:Nat):Int),0):=g 13 3 (by omega) (by decide)
   refine runs_need.2 ⟨rfl,(runs_brF (cne_f (congrArg Prod.snd g1))).2 (runs_need.2 ⟨rfl,(runs_brF (cne_f (congrArg Prod.snd g2))).2 (runs_need.2 ⟨rfl,(runs_brF (cne_f (congrArg Prod.snd g3))).2 ?_⟩)⟩)⟩
   rw [runs_more,s50]
   dsimp only
   rw [frOf_1 hk (by omega)]
   have hz:std.cmp .neq (std.conv .i64 (std.call fn138 (((n:Int),b),13,3)).1) 0=(fld (unpack n b) 13 3 != 0):=by
    rw [g3,hcv 13 3 (by decide),std_cmp_neq,Bool.eq_iff_iff]; simp
   cases hzz:(fld (unpack n b) 13 3 != 0)
   ·refine (runs_brF (hz.trans hzz)).2 (runs_need.2 ⟨rfl,?_⟩)
    have ho:std.call fn102 (((n:Int),b),1,((0:Int),([]:List Int)))=((openS (((n:Int),b),(0, []))).1,zB,(openS (((n:Int),b),(0, []))).2):=opened_12 (.inl rfl)
    rw [openS_eq (u:=(0, [])) hok rfl (by omega),show over 0 (bsL ((0:Int),([]:List Int)))=0 from rfl,hun] at ho
    cases hov:(over 0 (unpack n b) != 0)
    ·rw [hov] at ho
     refine (runs_brF (cne_f (congrArg (fun z=>z.2.2) ho))).2 ?_
     refine (runs_brF rfl).2 ((runs_brF rfl).2 ((runs_brF rfl).2 (runs_need.2 ⟨rfl,?_⟩)))
     have l1:=fld_lt (unpack n b) 2 3
     have l2:=fld_lt (unpack n b) 5 8
     have e1:(std.conv .i64 (std.call fn138 (((n:Int),b),5,8)).1)=((fld (unpack n b) 5 8:Nat):Int):=by rw [g2]; exact hcv 5 8 (by decide)
     have e2:(std.conv .i64 (std.call fn138 (((n:Int),b),2,3)).1)=((fld (unpack n b) 2 3:Nat):Int):=by rw [g1]; exact hcv 2 3 (by decide)
     rw [e1,e2]
     have hfo:frOk (1,0,(((fld (unpack n b) 5 8:Nat):Int),0,0,0,0),((fld (unpack n b) 2 3:Nat):Int), [])=true:=by
      rw [frOk_iff,stOk_iff]; simp; omega
     have hch:std.call fn57 (1,0,(((fld (unpack n b) 5 8:Nat):Int),0,0,0,0),((fld (unpack n b) 2 3:Nat):Int), [])=0:=by
      rw [std_call,fn57_eq,hfo]; rfl
     exact (runs_brF (cne_f hch)).2 (.ret _)
    ·rw [hov] at ho
     have e2:=congrArg (fun z=>z.2.2) ho
     refine (runs_brT (cne_t (show (std.call fn102 (((n:Int),b),1,((0:Int),([]:List Int)))).2.2≠0 from by rw [e2]; exact (by decide:(21:Int)≠0)))).2 ?_
     exact runs_c (congrArg (fun z=>LT.ret (((0,0,(0,0,0,0,0),0,([]:List Int)):Int×Int×(Int×Int×Int×Int×Int)×Int×List Int),z)) e2) (.ret _)
   ·exact (runs_brT (hz.trans hzz)).2 (.ret _)
  ·rw [Bool.not_eq_true] at hfit
   rw [frOf_unfit (by rw [hlu,hk]; exact hfit)]
   exact (runs_brT (show std.not (std.call fn101 ((n:Int),1))=true by rw [std_not,std_call,hp1,hfit]; rfl)).2 (.ret _)
 ·-- FrN
  rw [h0] at hk ⊢
  by_cases hfit:fitsL n 2=true
  ·have h29:=f2.1 hfit
   refine (runs_brF (show std.not (std.call fn101 ((n:Int),2))=false by rw [std_not,std_call,hp2,hfit]; rfl)).2 ((runs_brF rfl).2 ((runs_brT rfl).2 ?_))
   have g1:std.call fn138 (((n:Int),b),2,3)=(((fld (unpack n b) 2 3:Nat):Int),0):=g 2 3 (by omega) (by decide)
   refine runs_need.2 ⟨rfl,(runs_brF (cne_f (congrArg Prod.snd g1))).2 (runs_need.2 ⟨rfl,?_⟩)⟩
   rw [runs_more,s50]
   dsimp only
   refine (runs_brF rfl).2 (runs_need.2 ⟨rfl,?_⟩)
   rw [frOf_2 hk (by rw [hlu]; exact hfit)]
   have hsb:std.call fn90 (t,p,m,x,s)=(bsP (stBits (t,p,m,x,s)),0):=by rw [std_call,fn90,stBitsS,hst]; rfl
   have ho:std.call fn102 (((n:Int),b),2,(std.call fn90 (t,p,m,x,s)).1)=((openS (((n:Int),b),bsP (stBits (t,p,m,x,s)))).1,zB,(openS (((n:Int),b),bsP (stBits (t,p,m,x,s)))).2):=by
    rw [hsb]; exact opened_12 (.inr rfl)
   rw [openS_eq hok (bsP_ok (by rw [stBits_length]; decide)) (by omega),bsL_bsP,hun,hlu] at ho
   cases hov:(over (over 0 (stBits (t,p,m,x,s))) (unpack n b) != 0)
   ·rw [hov] at ho
    have o1:=congrArg (fun z=>z.1) ho
    refine (runs_brF (cne_f (congrArg (fun z=>z.2.2) ho))).2 ((runs_brT rfl).2 ?_)
    have e2:(std.conv .i64 (std.call fn138 (((n:Int),b),2,3)).1)=((fld (unpack n b) 2 3:Nat):Int):=by rw [g1]; exact hcv 2 3 (by decide)
    rw [e2]
    have hfl:((unpack n b).take (n - 24)).length=n - 24:=by rw [List.length_take,hlu]; omega
    have hrest:=rest_c0 (m:=n - 24) (d:=(n - 29) / 8) (a:=5) (b:=pack ((unpack n b).take (n - 24))) (by have:=bsP_ok (l:=(unpack n b).take (n - 24)) (by omega); rwa [bsP,hfl] at this) (by omega) (by omega) (by decide) ((n - 29) / 8) 0
     ⟨t,p,m,x,s,(std.call fn102 (((n:Int),b),2,(std.call fn90 (t,p,m,x,s)).1)).1.1,(std.call fn102 (((n:Int),b),2,(std.call fn90 (t,p,m,x,s)).1)).1.2,t,p,m,x,s,0,0,0,0,0,0,0,0,2,((fld (unpack n b) 2 3:Nat):Int),0,0,0,0,0,0,(std.call fn102 (((n:Int),b),2,(std.call fn90 (t,p,m,x,s)).1)).2.1.1,(std.call fn102 (((n:Int),b),2,(std.call fn90 (t,p,m,x,s)).1)).2.1.2⟩ 0 0 0 0 0 0 0 0
     (by show (std.call fn102 (((n:Int),b),2,(std.call fn90 (t,p,m,x,s)).1)).1.1=_; rw [o1]; show (((unpack n b).take (n - 24)).length:Int)=_; rw [hfl]) (by show (std.call fn102 (((n:Int),b),2,(std.call fn90 (t,p,m,x,s)).1)).1.2=_; rw [o1]; rfl) rfl rfl rfl rfl rfl rfl (by omega) (by omega)
    rw [show unpack (n - 24) (pack ((unpack n b).take (n - 24)))=(unpack n b).take (n - 24) from by have:=unpack_pack ((unpack n b).take (n - 24)); rwa [hfl] at this] at hrest
    refine Eq.mp (congrArg (Runs (s50 std) _) ?_) hrest
    have hdd:dataOf ((n - 29) / 8) (((unpack n b).take (n - 24)).drop 5)=dataOf (((unpack n b).length - 29) / 8) ((unpack n b).drop 5):=by
     rw [hlu]
     exact dataOf_take (by omega) (by rw [hlu]; omega)
    show (bif frOk (2,((fld (unpack n b) 2 3:Nat):Int),(t,p,m,x,s),0,dataOf ((n - 29) / 8) (((unpack n b).take (n - 24)).drop 5)) then ((2,((fld (unpack n b) 2 3:Nat):Int),(t,p,m,x,s),0,dataOf ((n - 29) / 8) (((unpack n b).take (n - 24)).drop 5)),0) else (zeroF,51))=_
    rw [hdd,cond_false]
    have hfo:frOk (2,((fld (unpack n b) 2 3:Nat):Int),(t,p,m,x,s),0,dataOf (((unpack n b).length - 29) / 8) ((unpack n b).drop 5))=!decide (4 < fld (unpack n b) 2 3):=by
     rw [Bool.eq_iff_iff,frOk_iff,hst,dataOf_length]; simp; omega
    rw [hfo]
    cases decide (4 < fld (unpack n b) 2 3) <;> rfl
   ·rw [hov] at ho
    have e2:=congrArg (fun z=>z.2.2) ho
    refine (runs_brT (cne_t (show (std.call fn102 (((n:Int),b),2,(std.call fn90 (t,p,m,x,s)).1)).2.2≠0 from by rw [e2]; exact (by decide:(21:Int)≠0)))).2 ?_
    exact runs_c (congrArg (fun z=>LT.ret (((0,0,(0,0,0,0,0),0,([]:List Int)):Int×Int×(Int×Int×Int×Int×Int)×Int×List Int),z)) e2) (.ret _)
  ·rw [Bool.not_eq_true] at hfit
   rw [frOf_unfit (by rw [hlu,hk]; exact hfit)]
   exact (runs_brT (show std.not (std.call fn101 ((n:Int),2))=true by rw [std_not,std_call,hp2,hfit]; rfl)).2 (.ret _)
 ·-- FrI
  rw [h0] at hk ⊢
  rw [show ((2 + 1:Nat):Int)=3 from rfl]
  by_cases hfit:fitsL n 3=true
  ·have h54:=f3.1 hfit
   refine (runs_brF (show std.not (std.call fn101 ((n:Int),3))=false by rw [std_not,std_call,hp3,hfit]; rfl)).2 ((runs_brF rfl).2 ((runs_brF rfl).2 ?_))
   have g1:std.call fn138 (((n:Int),b),2,3)=(((fld (unpack n b) 2 3:Nat):Int),0):=g 2 3 (by omega) (by decide)
   have g2:std.call fn138 (((n:Int),b),5,(std.bin .sub .i64 3 2))=(((fld (unpack n b) 5 1:Nat):Int),0):=g 5 1 (by omega) (by decide)
   have e2:(std.conv .i64 (std.call fn138 (((n:Int),b),2,3)).1)=((fld (unpack n b) 2 3:Nat):Int):=by rw [g1]; exact hcv 2 3 (by decide)
   have hql:(((unpack n b).drop 6).take 24).length=24:=by rw [List.length_take,List.length_drop,hlu]; omega
   refine runs_need.2 ⟨rfl,(runs_brF (cne_f (congrArg Prod.snd g1))).2 ?_⟩
   repeat (first | refine runs_eqs.2 ⟨⟨rfl,rfl⟩,?_⟩ | refine runs_eqs.2 ⟨rfl,?_⟩ | refine runs_need.2 ⟨rfl,?_⟩)
   refine (runs_brF (cne_f (congrArg Prod.snd g2))).2 ?_
   repeat (first | refine runs_eqs.2 ⟨⟨rfl,rfl⟩,?_⟩ | refine runs_eqs.2 ⟨rfl,?_⟩ | refine runs_need.2 ⟨rfl,?_⟩)
   rw [runs_more,s50]
   dsimp only
   rw [frOf_3 hk (by omega)]
   have hz:std.cmp .neq (std.conv .i64 (std.call fn138 (((n:Int),b),5,(std.bin .sub .i64 3 2))).1) 0=(fld (unpack n b) 5 1 != 0):=by
    rw [g2,hcv 5 1 (by decide),std_cmp_neq,Bool.eq_iff_iff]; simp
   cases hzz:(fld (unpack n b) 5 1 != 0)
   ·refine (runs_brF (hz.trans hzz)).2 (runs_need.2 ⟨rfl,?_⟩)
    have ho:std.call fn102 (((n:Int),b),3,((0:Int),([]:List Int)))=_:=opened_3' hok h54
    cases hov:(over 0 (unpack n b) != 0)
    ·rw [hov,cond_false] at ho
     refine (runs_brF (cne_f (congrArg (fun z=>z.2.2) ho))).2 ((runs_brF rfl).2 ((runs_brF rfl).2 ((runs_brT rfl).2 (runs_need.2 ⟨rfl,?_⟩))))
     have hpz:std.call fn104 (std.call fn102 (((n:Int),b),3,((0:Int),([]:List Int)))).2.1=bif stOk (stOf (((unpack n b).drop 6).take 24)) then (stOf (((unpack n b).drop 6).take 24),0) else (zS,40):=by
      rw [ho]; exact stParse_24 hql
     cases hso:stOk (stOf (((unpack n b).drop 6).take 24))
     ·rw [hso] at hpz
      exact (runs_brT (cne_t (show (std.call fn104 (std.call fn102 (((n:Int),b),3,((0:Int),([]:List Int)))).2.1).2≠0 from by rw [hpz]; exact (by decide:(40:Int)≠0)))).2 (.ret _)
     ·rw [hso,cond_true] at hpz
      refine (runs_brF (cne_f (congrArg Prod.snd hpz))).2 (runs_need.2 ⟨rfl,?_⟩)
      rw [e2,hpz]
      have hfo:frOk (3,((fld (unpack n b) 2 3:Nat):Int),stOf (((unpack n b).drop 6).take 24),0, [])=!decide (4 < fld (unpack n b) 2 3):=by
       have hso':=hso
       rw [stOf] at hso' ⊢
       rw [Bool.eq_iff_iff,frOk_iff,hso']; simp; omega
      have hch:std.call fn57 (3,((fld (unpack n b) 2 3:Nat):Int),stOf (((unpack n b).drop 6).take 24),0, [])=bif !decide (4 < fld (unpack n b) 2 3) then 0 else 50:=by
       rw [←hfo]; exact fn57_eq
      cases hd:decide (4 < fld (unpack n b) 2 3)
      ·rw [hd] at hch
       exact (runs_brF (cne_f hch)).2 (.ret _)
      ·rw [hd] at hch
       exact (runs_brT (cne_t (show std.call fn57 (3,((fld (unpack n b) 2 3:Nat):Int),stOf (((unpack n b).drop 6).take 24),0, [])≠0 from by rw [hch]; exact (by decide:(50:Int)≠0)))).2 (.ret _)
    ·rw [hov,cond_true] at ho
     have e3:=congrArg (fun z=>z.2.2) ho
     refine (runs_brT (cne_t (show (std.call fn102 (((n:Int),b),3,((0:Int),([]:List Int)))).2.2≠0 from by rw [e3]; exact (by decide:(21:Int)≠0)))).2 ?_
     exact runs_c (congrArg (fun z=>LT.ret (((0,0,(0,0,0,0,0),0,([]:List Int)):Int×Int×(Int×Int×Int×Int×Int)×Int×List Int),z)) e3) (.ret _)
   ·exact (runs_brT (hz.trans hzz)).2 (.ret _)
  ·rw [Bool.not_eq_true] at hfit
   rw [frOf_unfit (by rw [hlu,hk]; exact hfit)]
   exact (runs_brT (show std.not (std.call fn101 ((n:Int),3))=true by rw [std_not,std_call,hp3,hfit]; rfl)).2 (.ret _)
 ·-- FrX
  rw [h0] at hk ⊢
  rw [show ((3 + 1:Nat):Int)=4 from rfl]
  by_cases hfit:fitsL n 4=true
  ·have h79:=f4.1 hfit
   refine (runs_brF (show std.not (std.call fn101 ((n:Int),4))=false by rw [std_not,std_call,hp4,hfit]; rfl)).2 ((runs_brF rfl).2 ((runs_brF rfl).2 ?_))
   have g1:std.call fn138 (((n:Int),b),2,3)=(((fld (unpack n b) 2 3:Nat):Int),0):=g 2 3 (by omega) (by decide)
   have g2:std.call fn138 (((n:Int),b),5,(std.bin .sub .i64 4 2))=(((fld (unpack n b) 5 2:Nat):Int),0):=g 5 2 (by omega) (by decide)
   have e2:(std.conv .i64 (std.call fn138 (((n:Int),b),2,3)).1)=((fld (unpack n b) 2 3:Nat):Int):=by rw [g1]; exact hcv 2 3 (by decide)
   have hql:(((unpack n b).drop 7).take 24).length=24:=by rw [List.length_take,List.length_drop,hlu]; omega
   refine runs_need.2 ⟨rfl,(runs_brF (cne_f (congrArg Prod.snd g1))).2 ?_⟩
   repeat (first | refine runs_eqs.2 ⟨⟨rfl,rfl⟩,?_⟩ | refine runs_eqs.2 ⟨rfl,?_⟩ | refine runs_need.2 ⟨rfl,?_⟩)
   refine (runs_brF (cne_f (congrArg Prod.snd g2))).2 ?_
   repeat (first | refine runs_eqs.2 ⟨⟨rfl,rfl⟩,?_⟩ | refine runs_eqs.2 ⟨rfl,?_⟩ | refine runs_need.2 ⟨rfl,?_⟩)
   rw [runs_more,s50]
   dsimp only
   rw [frOf_4 hk (by rw [hlu]; exact hfit)]
   have hz:std.cmp .neq (std.conv .i64 (std.call fn138 (((n:Int),b),5,(std.bin .sub .i64 4 2))).1) 0=(fld (unpack n b) 5 2 != 0):=by
    rw [g2,hcv 5 2 (by decide),std_cmp_neq,Bool.eq_iff_iff]; simp
   cases hzz:(fld (unpack n b) 5 2 != 0)
   ·refine (runs_brF (hz.trans hzz)).2 (runs_need.2 ⟨rfl,?_⟩)
    have ho:std.call fn102 (((n:Int),b),4,((0:Int),([]:List Int)))=_:=opened_4' hok h79.1 h79.2.1
    cases hov:(over 0 ((unpack n b).take 55) != 0)
    ·cases hov2:(over (over 0 (((unpack n b).drop 7).take 24)) (unpack n b) != 0)
     ·rw [hov,cond_false,hov2,cond_false] at ho
      have o1:=congrArg (fun z=>z.1) ho
      have o2:=congrArg (fun z=>z.2.1) ho
      refine (runs_brF (cne_f (congrArg (fun z=>z.2.2) ho))).2 ((runs_brF rfl).2 ((runs_brT rfl).2 ?_))
      rw [e2]
      have hfl:((unpack n b).take (n - 24)).length=n - 24:=by rw [List.length_take,hlu]; omega
      have hrest:=rest_c1 (m:=n - 24) (d:=(n - 79) / 8) (a:=55) (b:=pack ((unpack n b).take (n - 24))) (by have:=bsP_ok (l:=(unpack n b).take (n - 24)) (by omega); rwa [bsP,hfl] at this) (by omega) (by omega) (by decide) ((n - 79) / 8) 0
       ⟨(std.call fn102 (((n:Int),b),4,((0:Int),([]:List Int)))).1.1,(std.call fn102 (((n:Int),b),4,((0:Int),([]:List Int)))).1.2,t,p,m,x,s,0,0,0,0,0,0,0,0,4,((fld (unpack n b) 2 3:Nat):Int),0,0,0,0,0,0,(std.call fn102 (((n:Int),b),4,((0:Int),([]:List Int)))).2.1.1,(std.call fn102 (((n:Int),b),4,((0:Int),([]:List Int)))).2.1.2⟩ 0 0 0 0 0 0 0 0
       (by show (std.call fn102 (((n:Int),b),4,((0:Int),([]:List Int)))).1.1=_; rw [o1]; show (((unpack n b).take (n - 24)).length:Int)=_; rw [hfl]) (by show (std.call fn102 (((n:Int),b),4,((0:Int),([]:List Int)))).1.2=_; rw [o1]; rfl) rfl (by omega) (by omega)
      rw [show unpack (n - 24) (pack ((unpack n b).take (n - 24)))=(unpack n b).take (n - 24) from by have:=unpack_pack ((unpack n b).take (n - 24)); rwa [hfl] at this] at hrest
      refine Eq.mp (congrArg (Runs (s50 std) _) ?_) hrest
      have hdd:dataOf ((n - 79) / 8) (((unpack n b).take (n - 24)).drop 55)=dataOf (((unpack n b).length - 79) / 8) ((unpack n b).drop 55):=by
       rw [hlu]
       exact dataOf_take (by omega) (by rw [hlu]; omega)
      have hpz:stParseS ((std.call fn102 (((n:Int),b),4,((0:Int),([]:List Int)))).2.1.1,(std.call fn102 (((n:Int),b),4,((0:Int),([]:List Int)))).2.1.2)=bif stOk (stOf (((unpack n b).drop 7).take 24)) then (stOf (((unpack n b).drop 7).take 24),0) else (zS,40):=by
       rw [o2]; exact stParse_24 hql
      show (bif (stParseS ((std.call fn102 (((n:Int),b),4,((0:Int),([]:List Int)))).2.1.1,(std.call fn102 (((n:Int),b),4,((0:Int),([]:List Int)))).2.1.2)).2 != 0 then (zeroF,51) else bif frOk (4,((fld (unpack n b) 2 3:Nat):Int),(stParseS ((std.call fn102 (((n:Int),b),4,((0:Int),([]:List Int)))).2.1.1,(std.call fn102 (((n:Int),b),4,((0:Int),([]:List Int)))).2.1.2)).1,0,dataOf ((n - 79) / 8) (((unpack n b).take (n - 24)).drop 55)) then ((4,((fld (unpack n b) 2 3:Nat):Int),(stParseS ((std.call fn102 (((n:Int),b),4,((0:Int),([]:List Int)))).2.1.1,(std.call fn102 (((n:Int),b),4,((0:Int),([]:List Int)))).2.1.2)).1,0,dataOf ((n - 79) / 8) (((unpack n b).take (n - 24)).drop 55)),0) else (zeroF,51))=_
      rw [hpz,hdd,Bool.or_false,cond_false,cond_false]
      cases hso:stOk (stOf (((unpack n b).drop 7).take 24))
      ·rfl
      ·have hfo:frOk (4,((fld (unpack n b) 2 3:Nat):Int),stOf (((unpack n b).drop 7).take 24),0,dataOf (((unpack n b).length - 79) / 8) ((unpack n b).drop 55))=!decide (4 < fld (unpack n b) 2 3):=by
        have hso':=hso
        rw [stOf] at hso' ⊢
        rw [Bool.eq_iff_iff,frOk_iff,hso',dataOf_length]; simp; omega
       rw [cond_true,hfo]
       cases decide (4 < fld (unpack n b) 2 3) <;> rfl
     ·rw [hov,cond_false,hov2,cond_true] at ho
      have e3:=congrArg (fun z=>z.2.2) ho
      refine (runs_brT (cne_t (show (std.call fn102 (((n:Int),b),4,((0:Int),([]:List Int)))).2.2≠0 from by rw [e3]; exact (by decide:(21:Int)≠0)))).2 ?_
      exact runs_c (congrArg (fun z=>LT.ret (((0,0,(0,0,0,0,0),0,([]:List Int)):Int×Int×(Int×Int×Int×Int×Int)×Int×List Int),z)) e3) (.ret _)
    ·rw [hov,cond_true] at ho
     have e3:=congrArg (fun z=>z.2.2) ho
     refine (runs_brT (cne_t (show (std.call fn102 (((n:Int),b),4,((0:Int),([]:List Int)))).2.2≠0 from by rw [e3]; exact (by decide:(21:Int)≠0)))).2 ?_
     exact runs_c (congrArg (fun z=>LT.ret (((0,0,(0,0,0,0,0),0,([]:List Int)):Int×Int×(Int×Int×Int×Int×Int)×Int×List Int),z)) e3) (.ret _)
   ·exact (runs_brT (hz.trans hzz)).2 (.ret _)
  ·rw [Bool.not_eq_true] at hfit
   rw [frOf_unfit (by rw [hlu,hk]; exact hfit)]
   exact (runs_brT (show std.not (std.call fn101 ((n:Int),4))=true by rw [std_not,std_call,hp4,hfit]; rfl)).2 (.ret _)
def fn50:((Int×List Int)×(Int×Int×Int×Int×Int))→((Int×Int×(Int×Int×Int×Int×Int)×Int×List Int)×Int):=parS
def sp50:FSpec:=⟨[(.struct [(.int .i64),(.slice (.int .u8))]),(.struct [(.int .i64),(.int .i64),(.int .i64),(.int .i64),(.int .i64)])], [(.struct [(.int .i64),(.int .i64),(.struct [(.int .i64),(.int .i64),(.int .i64),(.int .i64),(.int .i64)]),(.int .i64),(.slice (.int .u8))]),(.int .i64)],(@tt ((Int×List Int)×(Int×Int×Int×Int×Int))),fn50⟩
theorem run50 {bN:Int} {bB:List Int} {cTime:Int} {cPos:Int} {cMode:Int} {cNext:Int} {cMember:Int} (h:Ty.hass [(.struct [(.int .i64),(.slice (.int .u8))]),(.struct [(.int .i64),(.int .i64),(.int .i64),(.int .i64),(.int .i64)])] ((bN,bB),cTime,cPos,cMode,cNext,cMember)):Runs (s50 std) (t50 std bN bB cTime cPos cMode cNext cMember) (fn50 ((bN,bB),cTime,cPos,cMode,cNext,cMember)):=by
 exact parse2 h
theorem so50:FSpec.Sound Tryz.prog 241 sp50:=
 w50_ok.sound _ _ fun ((bN,bB),cTime,cPos,cMode,cNext,cMember) _ h=>run50 h
open Go.Ev.Pl
def t51 (A:Alg) (bN:Int) (bB:List Int):LT ((Int×Int×(Int×Int×Int×Int×Int)×Int×List Int)×Bool) Empty:=
 .need (A.call (@tt ((Int×List Int)×(Int×Int×Int×Int×Int))) ((bN,bB),0,0,0,0,0)) (
 .br (A.cmp .neq (A.call fn50 ((bN,bB),0,0,0,0,0)).2 0)
 (.ret ((0,0,(0,0,0,0,0),0,([]:List Int)),false))
 (.br (A.cmp .eql (A.call fn50 ((bN,bB),0,0,0,0,0)).1.1 2)
  (.ret ((0,0,(0,0,0,0,0),0,([]:List Int)),false))
  (.ret ((A.call fn50 ((bN,bB),0,0,0,0,0)).1,true))))
noncomputable def E51 (A:Alg):Info (Ty.Ts [(.struct [(.int .i64),(.int .i64),(.struct [(.int .i64),(.int .i64),(.int .i64),(.int .i64),(.int .i64)]),(.int .i64),(.slice (.int .u8))]),.bool]):={ti:=tys,fns:=[(184,Tryz.f184)],sps:=[(241,sp50)],stops:=[],cuts:=[],consts:=[],fin:=finD A [(.struct [(.int .i64),(.int .i64),(.struct [(.int .i64),(.int .i64),(.int .i64),(.int .i64),(.int .i64)]),(.int .i64),(.slice (.int .u8))]),.bool]}
theorem t51_ok (A:Alg) (bN:Int) (bB:List Int):run A (E51 A) 43 (startC 184 Tryz.f184 (dvals A [(.struct [(.int .i64),(.slice (.int .u8))])] (bN,bB)))=(t51 A bN bB).tr Empty.elim:=by kernel_rfl
def w51:Walk Tryz.prog 184 [(.struct [(.int .i64),(.slice (.int .u8))])] [(.struct [(.int .i64),(.int .i64),(.struct [(.int .i64),(.int .i64),(.int .i64),(.int .i64),(.int .i64)]),(.int .i64),(.slice (.int .u8))]),.bool] Empty:=⟨fun (bN,bB)=>t51 std bN bB,Empty.elim⟩
theorem w51_ok:w51.Ok:=
 walk_ok (E:=E51 std) ⟨tys_fit,fns_cons Tryz.func184 (by kernel_rfl) (fns_nil),sps_cons so50 (sps_nil),by kernel_rfl⟩ rfl rfl rfl (by kernel_rfl) w51 Empty.elim 43 (fun (bN,bB)=>t51_ok std bN bB) (fun y=>y.elim)
def fn51:((Int×List Int))→((Int×Int×(Int×Int×Int×Int×Int)×Int×List Int)×Bool):=fun (bN,bB)=>(t51 std bN bB).val (Ty.dflts [(.struct [(.int .i64),(.int .i64),(.struct [(.int .i64),(.int .i64),(.int .i64),(.int .i64),(.int .i64)]),(.int .i64),(.slice (.int .u8))]),.bool])
def sp51:FSpec:=⟨[(.struct [(.int .i64),(.slice (.int .u8))])], [(.struct [(.int .i64),(.int .i64),(.struct [(.int .i64),(.int .i64),(.int .i64),(.int .i64),(.int .i64)]),(.int .i64),(.slice (.int .u8))]),.bool],(@tt ((Int×List Int))),fn51⟩
theorem eqs51 (bN:Int) (bB:List Int):(t51 std bN bB).Eqs:=by simp only [t51,LT.Eqs,and_self,true_and,and_true]
theorem pre51_ok {bN:Int} {bB:List Int} (h:Ty.hass [(.struct [(.int .i64),(.slice (.int .u8))])] (bN,bB)):(t51 std bN bB).pre=true:=by
 simp [t51,LT.pre,std_call,tt_eq]
theorem so51:FSpec.Sound Tryz.prog 184 sp51:=
 w51_ok.sound _ _ fun (bN,bB) _ h=>LT.runs (d:=Ty.dflts [(.struct [(.int .i64),(.int .i64),(.struct [(.int .i64),(.int .i64),(.int .i64),(.int .i64),(.int .i64)]),(.int .i64),(.slice (.int .u8))]),.bool]) (eqs51 bN bB) (pre51_ok h)
theorem fn51_eq {b:Int×List Int}:fn51 b=explS b:=by
 obtain ⟨bn,bb⟩:=b
 simp only [fn51,t51,LT.val,explS,std_call,std_cmp_neq,std_cmp_eql,fn50]
 show (bif (parS ((bn,bb),zS)).2 != 0 then (zeroF,false) else bif (parS ((bn,bb),zS)).1.1 == 2 then (zeroF,false) else ((parS ((bn,bb),zS)).1,true))=_
 cases (parS ((bn,bb),zS)).2 != 0 <;> cases (parS ((bn,bb),zS)).1.1 == 2 <;> rfl
theorem val_of_runs {R:Type} {d r:R} {t:LT R Empty} (h:Runs Empty.elim t r):t.val d=r:=by
 induction h with
 | ret r=>rfl
 | @more y _ _ _=>exact y.elim
 | br h ih=>
  rename_i b t e r
  cases b <;> exact ih
 | need h _ ih=>exact ih
 | eqs h _ ih=>exact ih
theorem conv_in {v:Nat} (h:v < 4611686018427387904):std.conv .i64 (v:Int)=(v:Int):=by rw [std_conv,w64 (by omega) (by omega)]
theorem seal_ok {l u:List Bool} (hl:l.length + 24≤4096) (hu:u.length≤4096):sealS (bsP l,bsP u)=(bsP (sealL (over 0 u) l),0):=by
 rw [sealS]
 show (bif bsOk (bsP u) && bsOk (bsP l) then ofS (sealL (over 0 (bsL (bsP u))) (bsL (bsP l))) else (zB,10))=_
 rw [bsP_ok hu,bsP_ok (l:=l) (by omega),bsL_bsP,bsL_bsP,ofS_short (by rw [sealL_length]; omega)]
 rfl
theorem join_ok {l u:List Bool} (h:l.length + u.length≤4096):joinS [bsP l,bsP u]=(bsP (l ++ u),0):=by
 rw [joinS]
 show (bif (bsOk (bsP l) && (bsOk (bsP u) && true)) then ofS (bsL (bsP l) ++ (bsL (bsP u) ++ [])) else (zB,10))=_
 rw [bsP_ok (l:=l) (by omega),bsP_ok (l:=u) (by omega),bsL_bsP,bsL_bsP,List.append_nil,ofS_short (by rw [List.length_append]; exact h)]
 rfl
theorem has_data {k r t p m n s fr:Int} {d:List Int} (h:Ty.hass [.struct [(.int .i64),(.int .i64),(.struct [(.int .i64),(.int .i64),(.int .i64),(.int .i64),(.int .i64)]),(.int .i64),(.slice (.int .u8))]] (k,r,(t,p,m,n,s),fr,d)):bytesOk d:=by
 have h2:d.length≤lenMax∧∀x∈d,0≤x∧x≤255:=h.2.2.2.2
 exact h2.2
end Go.Ev.M
