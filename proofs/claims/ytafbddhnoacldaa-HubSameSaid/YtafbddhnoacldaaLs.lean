/-
  PROVED: the statement HubSame of its function. Conditions: none.
-/
import Derived.Test.YtafbddhnoacldaaHd
namespace Go.Ev.M
open Go.Proofs
set_option maxRecDepth 100000
set_option linter.unusedVariables false
set_option linter.unusedSimpArgs false
open Go.Ev.Pl
structure P19c0 where
 a0:Int
 a1:Int
 a2:Int
 a3:Int
 a4:Int
 a5:Int
 a6:Int
 a7:Int
 a8:Int
 a9:Int
 a10:Int
 a11:List Bool
 a12:List Mode
 a13:Bool
 a14:Int
 a15:Int
 a16:Int
 a17:List Int
 a18:Int
 a19:Int
structure P19c1 where
 b0:Int
 b1:Int
 b2:Int
 b3:Int
 b4:Int
 b5:Int
 b6:List Bool
 b7:List Mode
 b8:Bool
 b9:Int
 b10:Int
 b11:Int
 b12:Int
 b13:Int
 b14:Int
 b15:Int
 b16:List Int
 b17:Int
 b18:Int
 b19:Int
 b20:Int
 b21:Int
 b22:List Int
inductive Y19 where
 | c0 (p:P19c0)
 | c1 (p:P19c1)
noncomputable def cfg19:Y19→Cfg
 | .c0 p=>{frames:=[{fn:=19,n:=142,env:=(Env.put (Env.put (Env.put (Env.put (Env.put (Env.put (Env.put (Env.put (Env.put .leaf 3 (.int .i64 false p.a0)) 4 (.int .i64 false p.a1)) 5 (.int .u8 false p.a2)) 6 (.int .u8 false p.a3)) 7 (.ptr 0 0)) 8 (.ptr 1 0)) 9 (.ptr 2 0)) 15 (.ptr 3 0)) 17 (.int .i64 false p.a4)),todo:=[.code (Code.way (bodyOf Try.f19) [1,1,1,1,0]),.code (Code.way (bodyOf Try.f19) [1,1,1,1,1])],marks:=[],rnd:=none}],mem:=[.flat false [.int .i64 false p.a5,.int .i64 false p.a6,.int .i64 false p.a7,.int .i64 false p.a8,.int .i64 false p.a9,.int .i64 false p.a10,.sl .bool p.a11,.sl yMode p.a12],.flat false [.bool false p.a13,.int .i64 false p.a14,.int .i64 false p.a15],.flat false [.int .i64 false p.a16,.sl (.int .u8) p.a17],.flat false [.int .i64 false p.a18,.int .i64 false p.a19],.dead]}
 | .c1 p=>{frames:=[{fn:=19,n:=142,env:=(Env.put (Env.put (Env.put (Env.put .leaf 7 (.ptr 0 0)) 8 (.ptr 1 0)) 18 (.ptr 2 0)) 20 (.ptr 3 0)),todo:=[.code (Code.way (bodyOf Try.f19) [1,1,1,1,1,1,1,0]),.code (Code.way (bodyOf Try.f19) [1,1,1,1,1,1,1,1])],marks:=[],rnd:=none}],mem:=[.flat false [.int .i64 false p.b0,.int .i64 false p.b1,.int .i64 false p.b2,.int .i64 false p.b3,.int .i64 false p.b4,.int .i64 false p.b5,.sl .bool p.b6,.sl yMode p.b7],.flat false [.bool false p.b8,.int .i64 false p.b9,.int .i64 false p.b10],.flat false [.int .i64 false p.b11,.int .i64 false p.b12,.int .i64 false p.b13,.int .i64 false p.b14,.int .i64 false p.b15,.sl (.int .u8) p.b16],.flat false [.int .i64 false p.b17,.int .i64 false p.b18,.int .i64 false p.b19,.int .i64 false p.b20,.int .i64 false p.b21,.sl (.int .u8) p.b22],.dead]}
def t19 (A:Alg) (mNodes:Int) (mSlot:Int) (mGap:Int) (mWindow:Int) (mDrift:Int) (mDelay:Int) (mCold:List Bool) (mModes:List Mode) (hSync:Bool) (hStart:Int) (hPos:Int) (bN:Int) (bB:List Int) (early:Int) (late:Int) (p:Int) (q:Int):LT Bool Y19:=
 .need (A.call (@tt (Medl×Hub)) ((mNodes,mSlot,mGap,mWindow,mDrift,mDelay,mCold,mModes),hSync,hStart,hPos)) (
 .need (A.call (@tt Unit) ()) (
 .br (A.not (A.call fn67 ()))
  (.need (A.call (@tt Unit) ()) (
  .ret (A.call fn67 ())))
  (.br (A.cmp .neq (A.call fn66 ((mNodes,mSlot,mGap,mWindow,mDrift,mDelay,mCold,mModes),hSync,hStart,hPos)).2 0)
  (.need (A.call (@tt Unit) ()) (
   .ret (A.call fn67 ())))
  (.br (A.not hSync)
   (.need (A.call (@tt Unit) ()) (
   .ret (A.call fn67 ())))
   (.more (.c0 ⟨early,late,p,q,(A.bin .sub .i64 (A.call fn66 ((mNodes,mSlot,mGap,mWindow,mDrift,mDelay,mCold,mModes),hSync,hStart,hPos)).1.2 (A.call fn66 ((mNodes,mSlot,mGap,mWindow,mDrift,mDelay,mCold,mModes),hSync,hStart,hPos)).1.1),mNodes,mSlot,mGap,mWindow,mDrift,mDelay,mCold,mModes,hSync,hStart,hPos,bN,bB,(A.call fn66 ((mNodes,mSlot,mGap,mWindow,mDrift,mDelay,mCold,mModes),hSync,hStart,hPos)).1.1,(A.call fn66 ((mNodes,mSlot,mGap,mWindow,mDrift,mDelay,mCold,mModes),hSync,hStart,hPos)).1.2⟩))))))
def s19 (A:Alg):Y19→LT Bool Y19
 | .c0 p=>
  .need (A.cmp .neq p.a4 0) (
  .need (A.cmp .neq p.a4 0) (
   .need (A.call (@tt (Int×Int×Int×Bits)) (p.a15,(A.bin .add .i64 p.a18 (A.bin .rem .i64 (A.bin .add .i64 (A.bin .rem .i64 p.a0 p.a4) p.a4) p.a4)),(A.bin .add .i64 40 (A.bin .rem .i64 (A.conv .i64 p.a2) 61)),p.a16,p.a17)) (
   .eqs (IntKind.i64=IntKind.i64∧((A.call fn68 (p.a15,(A.bin .add .i64 p.a18 (A.bin .rem .i64 (A.bin .add .i64 (A.bin .rem .i64 p.a0 p.a4) p.a4) p.a4)),(A.bin .add .i64 40 (A.bin .rem .i64 (A.conv .i64 p.a2) 61)),p.a16,p.a17)).2:Int)=(A.call fn68 (p.a15,(A.bin .add .i64 p.a18 (A.bin .rem .i64 (A.bin .add .i64 (A.bin .rem .i64 p.a0 p.a4) p.a4) p.a4)),(A.bin .add .i64 40 (A.bin .rem .i64 (A.conv .i64 p.a2) 61)),p.a16,p.a17)).2) (
    .eqs ((.agg [.int .i64 false (A.call fn68 (p.a15,(A.bin .add .i64 p.a18 (A.bin .rem .i64 (A.bin .add .i64 (A.bin .rem .i64 p.a0 p.a4) p.a4) p.a4)),(A.bin .add .i64 40 (A.bin .rem .i64 (A.conv .i64 p.a2) 61)),p.a16,p.a17)).1.1,.int .i64 false (A.call fn68 (p.a15,(A.bin .add .i64 p.a18 (A.bin .rem .i64 (A.bin .add .i64 (A.bin .rem .i64 p.a0 p.a4) p.a4) p.a4)),(A.bin .add .i64 40 (A.bin .rem .i64 (A.conv .i64 p.a2) 61)),p.a16,p.a17)).1.2.1.1,.int .i64 false (A.call fn68 (p.a15,(A.bin .add .i64 p.a18 (A.bin .rem .i64 (A.bin .add .i64 (A.bin .rem .i64 p.a0 p.a4) p.a4) p.a4)),(A.bin .add .i64 40 (A.bin .rem .i64 (A.conv .i64 p.a2) 61)),p.a16,p.a17)).1.2.1.2,.int .i64 false (A.call fn68 (p.a15,(A.bin .add .i64 p.a18 (A.bin .rem .i64 (A.bin .add .i64 (A.bin .rem .i64 p.a0 p.a4) p.a4) p.a4)),(A.bin .add .i64 40 (A.bin .rem .i64 (A.conv .i64 p.a2) 61)),p.a16,p.a17)).1.2.2.1,.int .i64 false (A.call fn68 (p.a15,(A.bin .add .i64 p.a18 (A.bin .rem .i64 (A.bin .add .i64 (A.bin .rem .i64 p.a0 p.a4) p.a4) p.a4)),(A.bin .add .i64 40 (A.bin .rem .i64 (A.conv .i64 p.a2) 61)),p.a16,p.a17)).1.2.2.2.1,.sl (.int .u8) (A.call fn68 (p.a15,(A.bin .add .i64 p.a18 (A.bin .rem .i64 (A.bin .add .i64 (A.bin .rem .i64 p.a0 p.a4) p.a4) p.a4)),(A.bin .add .i64 40 (A.bin .rem .i64 (A.conv .i64 p.a2) 61)),p.a16,p.a17)).1.2.2.2.2]:AV)=.agg [.int .i64 false (A.call fn68 (p.a15,(A.bin .add .i64 p.a18 (A.bin .rem .i64 (A.bin .add .i64 (A.bin .rem .i64 p.a0 p.a4) p.a4) p.a4)),(A.bin .add .i64 40 (A.bin .rem .i64 (A.conv .i64 p.a2) 61)),p.a16,p.a17)).1.1,.int .i64 false (A.call fn68 (p.a15,(A.bin .add .i64 p.a18 (A.bin .rem .i64 (A.bin .add .i64 (A.bin .rem .i64 p.a0 p.a4) p.a4) p.a4)),(A.bin .add .i64 40 (A.bin .rem .i64 (A.conv .i64 p.a2) 61)),p.a16,p.a17)).1.2.1.1,.int .i64 false (A.call fn68 (p.a15,(A.bin .add .i64 p.a18 (A.bin .rem .i64 (A.bin .add .i64 (A.bin .rem .i64 p.a0 p.a4) p.a4) p.a4)),(A.bin .add .i64 40 (A.bin .rem .i64 (A.conv .i64 p.a2) 61)),p.a16,p.a17)).1.2.1.2,.int .i64 false (A.call fn68 (p.a15,(A.bin .add .i64 p.a18 (A.bin .rem .i64 (A.bin .add .i64 (A.bin .rem .i64 p.a0 p.a4) p.a4) p.a4)),(A.bin .add .i64 40 (A.bin .rem .i64 (A.conv .i64 p.a2) 61)),p.a16,p.a17)).1.2.2.1,.int .i64 false (A.call fn68 (p.a15,(A.bin .add .i64 p.a18 (A.bin .rem .i64 (A.bin .add .i64 (A.bin .rem .i64 p.a0 p.a4) p.a4) p.a4)),(A.bin .add .i64 40 (A.bin .rem .i64 (A.conv .i64 p.a2) 61)),p.a16,p.a17)).1.2.2.2.1,.sl (.int .u8) (A.call fn68 (p.a15,(A.bin .add .i64 p.a18 (A.bin .rem .i64 (A.bin .add .i64 (A.bin .rem .i64 p.a0 p.a4) p.a4) p.a4)),(A.bin .add .i64 40 (A.bin .rem .i64 (A.conv .i64 p.a2) 61)),p.a16,p.a17)).1.2.2.2.2]) (
    .eqs ((.tup [.agg [.int .i64 false (A.call fn68 (p.a15,(A.bin .add .i64 p.a18 (A.bin .rem .i64 (A.bin .add .i64 (A.bin .rem .i64 p.a0 p.a4) p.a4) p.a4)),(A.bin .add .i64 40 (A.bin .rem .i64 (A.conv .i64 p.a2) 61)),p.a16,p.a17)).1.1,.int .i64 false (A.call fn68 (p.a15,(A.bin .add .i64 p.a18 (A.bin .rem .i64 (A.bin .add .i64 (A.bin .rem .i64 p.a0 p.a4) p.a4) p.a4)),(A.bin .add .i64 40 (A.bin .rem .i64 (A.conv .i64 p.a2) 61)),p.a16,p.a17)).1.2.1.1,.int .i64 false (A.call fn68 (p.a15,(A.bin .add .i64 p.a18 (A.bin .rem .i64 (A.bin .add .i64 (A.bin .rem .i64 p.a0 p.a4) p.a4) p.a4)),(A.bin .add .i64 40 (A.bin .rem .i64 (A.conv .i64 p.a2) 61)),p.a16,p.a17)).1.2.1.2,.int .i64 false (A.call fn68 (p.a15,(A.bin .add .i64 p.a18 (A.bin .rem .i64 (A.bin .add .i64 (A.bin .rem .i64 p.a0 p.a4) p.a4) p.a4)),(A.bin .add .i64 40 (A.bin .rem .i64 (A.conv .i64 p.a2) 61)),p.a16,p.a17)).1.2.2.1,.int .i64 false (A.call fn68 (p.a15,(A.bin .add .i64 p.a18 (A.bin .rem .i64 (A.bin .add .i64 (A.bin .rem .i64 p.a0 p.a4) p.a4) p.a4)),(A.bin .add .i64 40 (A.bin .rem .i64 (A.conv .i64 p.a2) 61)),p.a16,p.a17)).1.2.2.2.1,.sl (.int .u8) (A.call fn68 (p.a15,(A.bin .add .i64 p.a18 (A.bin .rem .i64 (A.bin .add .i64 (A.bin .rem .i64 p.a0 p.a4) p.a4) p.a4)),(A.bin .add .i64 40 (A.bin .rem .i64 (A.conv .i64 p.a2) 61)),p.a16,p.a17)).1.2.2.2.2],.int .i64 false (A.call fn68 (p.a15,(A.bin .add .i64 p.a18 (A.bin .rem .i64 (A.bin .add .i64 (A.bin .rem .i64 p.a0 p.a4) p.a4) p.a4)),(A.bin .add .i64 40 (A.bin .rem .i64 (A.conv .i64 p.a2) 61)),p.a16,p.a17)).2]:AV)=.tup [.agg [.int .i64 false (A.call fn68 (p.a15,(A.bin .add .i64 p.a18 (A.bin .rem .i64 (A.bin .add .i64 (A.bin .rem .i64 p.a0 p.a4) p.a4) p.a4)),(A.bin .add .i64 40 (A.bin .rem .i64 (A.conv .i64 p.a2) 61)),p.a16,p.a17)).1.1,.int .i64 false (A.call fn68 (p.a15,(A.bin .add .i64 p.a18 (A.bin .rem .i64 (A.bin .add .i64 (A.bin .rem .i64 p.a0 p.a4) p.a4) p.a4)),(A.bin .add .i64 40 (A.bin .rem .i64 (A.conv .i64 p.a2) 61)),p.a16,p.a17)).1.2.1.1,.int .i64 false (A.call fn68 (p.a15,(A.bin .add .i64 p.a18 (A.bin .rem .i64 (A.bin .add .i64 (A.bin .rem .i64 p.a0 p.a4) p.a4) p.a4)),(A.bin .add .i64 40 (A.bin .rem .i64 (A.conv .i64 p.a2) 61)),p.a16,p.a17)).1.2.1.2,.int .i64 false (A.call fn68 (p.a15,(A.bin .add .i64 p.a18 (A.bin .rem .i64 (A.bin .add .i64 (A.bin .rem .i64 p.a0 p.a4) p.a4) p.a4)),(A.bin .add .i64 40 (A.bin .rem .i64 (A.conv .i64 p.a2) 61)),p.a16,p.a17)).1.2.2.1,.int .i64 false (A.call fn68 (p.a15,(A.bin .add .i64 p.a18 (A.bin .rem .i64 (A.bin .add .i64 (A.bin .rem .i64 p.a0 p.a4) p.a4) p.a4)),(A.bin .add .i64 40 (A.bin .rem .i64 (A.conv .i64 p.a2) 61)),p.a16,p.a17)).1.2.2.2.1,.sl (.int .u8) (A.call fn68 (p.a15,(A.bin .add .i64 p.a18 (A.bin .rem .i64 (A.bin .add .i64 (A.bin .rem .i64 p.a0 p.a4) p.a4) p.a4)),(A.bin .add .i64 40 (A.bin .rem .i64 (A.conv .i64 p.a2) 61)),p.a16,p.a17)).1.2.2.2.2],.int .i64 false (A.call fn68 (p.a15,(A.bin .add .i64 p.a18 (A.bin .rem .i64 (A.bin .add .i64 (A.bin .rem .i64 p.a0 p.a4) p.a4) p.a4)),(A.bin .add .i64 40 (A.bin .rem .i64 (A.conv .i64 p.a2) 61)),p.a16,p.a17)).2]) (
     .need (A.call (@tt (Int×Int×Int×Bits)) (p.a15,(A.bin .add .i64 p.a18 (A.bin .rem .i64 (A.bin .add .i64 (A.bin .rem .i64 p.a0 p.a4) p.a4) p.a4)),(A.bin .add .i64 40 (A.bin .rem .i64 (A.conv .i64 p.a2) 61)),p.a16,p.a17)) (
     .eqs ((.tup [.agg [.int .i64 false (A.call fn68 (p.a15,(A.bin .add .i64 p.a18 (A.bin .rem .i64 (A.bin .add .i64 (A.bin .rem .i64 p.a0 p.a4) p.a4) p.a4)),(A.bin .add .i64 40 (A.bin .rem .i64 (A.conv .i64 p.a2) 61)),p.a16,p.a17)).1.1,.int .i64 false (A.call fn68 (p.a15,(A.bin .add .i64 p.a18 (A.bin .rem .i64 (A.bin .add .i64 (A.bin .rem .i64 p.a0 p.a4) p.a4) p.a4)),(A.bin .add .i64 40 (A.bin .rem .i64 (A.conv .i64 p.a2) 61)),p.a16,p.a17)).1.2.1.1,.int .i64 false (A.call fn68 (p.a15,(A.bin .add .i64 p.a18 (A.bin .rem .i64 (A.bin .add .i64 (A.bin .rem .i64 p.a0 p.a4) p.a4) p.a4)),(A.bin .add .i64 40 (A.bin .rem .i64 (A.conv .i64 p.a2) 61)),p.a16,p.a17)).1.2.1.2,.int .i64 false (A.call fn68 (p.a15,(A.bin .add .i64 p.a18 (A.bin .rem .i64 (A.bin .add .i64 (A.bin .rem .i64 p.a0 p.a4) p.a4) p.a4)),(A.bin .add .i64 40 (A.bin .rem .i64 (A.conv .i64 p.a2) 61)),p.a16,p.a17)).1.2.2.1,.int .i64 false (A.call fn68 (p.a15,(A.bin .add .i64 p.a18 (A.bin .rem .i64 (A.bin .add .i64 (A.bin .rem .i64 p.a0 p.a4) p.a4) p.a4)),(A.bin .add .i64 40 (A.bin .rem .i64 (A.conv .i64 p.a2) 61)),p.a16,p.a17)).1.2.2.2.1,.sl (.int .u8) (A.call fn68 (p.a15,(A.bin .add .i64 p.a18 (A.bin .rem .i64 (A.bin .add .i64 (A.bin .rem .i64 p.a0 p.a4) p.a4) p.a4)),(A.bin .add .i64 40 (A.bin .rem .i64 (A.conv .i64 p.a2) 61)),p.a16,p.a17)).1.2.2.2.2],.int .i64 false (A.call fn68 (p.a15,(A.bin .add .i64 p.a18 (A.bin .rem .i64 (A.bin .add .i64 (A.bin .rem .i64 p.a0 p.a4) p.a4) p.a4)),(A.bin .add .i64 40 (A.bin .rem .i64 (A.conv .i64 p.a2) 61)),p.a16,p.a17)).2]:AV)=.tup [.agg [.int .i64 false (A.call fn68 (p.a15,(A.bin .add .i64 p.a18 (A.bin .rem .i64 (A.bin .add .i64 (A.bin .rem .i64 p.a0 p.a4) p.a4) p.a4)),(A.bin .add .i64 40 (A.bin .rem .i64 (A.conv .i64 p.a2) 61)),p.a16,p.a17)).1.1,.int .i64 false (A.call fn68 (p.a15,(A.bin .add .i64 p.a18 (A.bin .rem .i64 (A.bin .add .i64 (A.bin .rem .i64 p.a0 p.a4) p.a4) p.a4)),(A.bin .add .i64 40 (A.bin .rem .i64 (A.conv .i64 p.a2) 61)),p.a16,p.a17)).1.2.1.1,.int .i64 false (A.call fn68 (p.a15,(A.bin .add .i64 p.a18 (A.bin .rem .i64 (A.bin .add .i64 (A.bin .rem .i64 p.a0 p.a4) p.a4) p.a4)),(A.bin .add .i64 40 (A.bin .rem .i64 (A.conv .i64 p.a2) 61)),p.a16,p.a17)).1.2.1.2,.int .i64 false (A.call fn68 (p.a15,(A.bin .add .i64 p.a18 (A.bin .rem .i64 (A.bin .add .i64 (A.bin .rem .i64 p.a0 p.a4) p.a4) p.a4)),(A.bin .add .i64 40 (A.bin .rem .i64 (A.conv .i64 p.a2) 61)),p.a16,p.a17)).1.2.2.1,.int .i64 false (A.call fn68 (p.a15,(A.bin .add .i64 p.a18 (A.bin .rem .i64 (A.bin .add .i64 (A.bin .rem .i64 p.a0 p.a4) p.a4) p.a4)),(A.bin .add .i64 40 (A.bin .rem .i64 (A.conv .i64 p.a2) 61)),p.a16,p.a17)).1.2.2.2.1,.sl (.int .u8) (A.call fn68 (p.a15,(A.bin .add .i64 p.a18 (A.bin .rem .i64 (A.bin .add .i64 (A.bin .rem .i64 p.a0 p.a4) p.a4) p.a4)),(A.bin .add .i64 40 (A.bin .rem .i64 (A.conv .i64 p.a2) 61)),p.a16,p.a17)).1.2.2.2.2],.int .i64 false (A.call fn68 (p.a15,(A.bin .add .i64 p.a18 (A.bin .rem .i64 (A.bin .add .i64 (A.bin .rem .i64 p.a0 p.a4) p.a4) p.a4)),(A.bin .add .i64 40 (A.bin .rem .i64 (A.conv .i64 p.a2) 61)),p.a16,p.a17)).2]) (
      .eqs ((.agg [.int .i64 false p.a16,.sl (.int .u8) p.a17]:AV)=.agg [.int .i64 false p.a16,.sl (.int .u8) p.a17]) (
      .eqs (IntKind.i64=IntKind.i64∧((A.bin .add .i64 40 (A.bin .rem .i64 (A.conv .i64 p.a2) 61)):Int)=(A.bin .add .i64 40 (A.bin .rem .i64 (A.conv .i64 p.a2) 61))) (
       .eqs (IntKind.i64=IntKind.i64∧((A.bin .rem .i64 (A.conv .i64 p.a2) 61):Int)=(A.bin .rem .i64 (A.conv .i64 p.a2) 61)) (
       .eqs (IntKind.i64=IntKind.i64∧((A.conv .i64 p.a2):Int)=(A.conv .i64 p.a2)) (
        .eqs (IntKind.u8=IntKind.u8∧(p.a2:Int)=p.a2) (
        .eqs (IntKind.i64=IntKind.i64∧((A.bin .add .i64 p.a18 (A.bin .rem .i64 (A.bin .add .i64 (A.bin .rem .i64 p.a0 p.a4) p.a4) p.a4)):Int)=(A.bin .add .i64 p.a18 (A.bin .rem .i64 (A.bin .add .i64 (A.bin .rem .i64 p.a0 p.a4) p.a4) p.a4))) (
         .need (A.cmp .neq p.a4 0) (
         .eqs (IntKind.i64=IntKind.i64∧((A.bin .rem .i64 (A.bin .add .i64 (A.bin .rem .i64 p.a0 p.a4) p.a4) p.a4):Int)=(A.bin .rem .i64 (A.bin .add .i64 (A.bin .rem .i64 p.a0 p.a4) p.a4) p.a4)) (
          .eqs (IntKind.i64=IntKind.i64∧(p.a4:Int)=p.a4) (
          .eqs (IntKind.i64=IntKind.i64∧((A.bin .add .i64 (A.bin .rem .i64 p.a0 p.a4) p.a4):Int)=(A.bin .add .i64 (A.bin .rem .i64 p.a0 p.a4) p.a4)) (
           .eqs (IntKind.i64=IntKind.i64∧(p.a4:Int)=p.a4) (
           .need (A.cmp .neq p.a4 0) (
            .eqs (IntKind.i64=IntKind.i64∧((A.bin .rem .i64 p.a0 p.a4):Int)=(A.bin .rem .i64 p.a0 p.a4)) (
            .eqs (IntKind.i64=IntKind.i64∧(p.a4:Int)=p.a4) (
             .eqs (IntKind.i64=IntKind.i64∧(p.a0:Int)=p.a0) (
             .eqs (IntKind.i64=IntKind.i64∧(p.a18:Int)=p.a18) (
              .eqs ((.ptr 3 0:AV)=.ptr 3 0) (
              .eqs (IntKind.i64=IntKind.i64∧(p.a15:Int)=p.a15) (
               .eqs ((.ptr 1 2:AV)=.ptr 1 2) (
               .eqs (IntKind.i64=IntKind.i64∧((A.call fn68 (p.a15,(A.bin .add .i64 p.a18 (A.bin .rem .i64 (A.bin .add .i64 (A.bin .rem .i64 p.a0 p.a4) p.a4) p.a4)),(A.bin .add .i64 40 (A.bin .rem .i64 (A.conv .i64 p.a2) 61)),p.a16,p.a17)).2:Int)=(A.call fn68 (p.a15,(A.bin .add .i64 p.a18 (A.bin .rem .i64 (A.bin .add .i64 (A.bin .rem .i64 p.a0 p.a4) p.a4) p.a4)),(A.bin .add .i64 40 (A.bin .rem .i64 (A.conv .i64 p.a2) 61)),p.a16,p.a17)).2) (
                .need (A.cmp .neq p.a4 0) (
                .need (A.cmp .neq p.a4 0) (
                 .need (A.call (@tt (Int×Int×Int×Bits)) (p.a15,(A.bin .add .i64 p.a18 (A.bin .rem .i64 (A.bin .add .i64 (A.bin .rem .i64 p.a1 p.a4) p.a4) p.a4)),(A.bin .add .i64 40 (A.bin .rem .i64 (A.conv .i64 p.a3) 61)),p.a16,p.a17)) (
                 .eqs (IntKind.i64=IntKind.i64∧((A.call fn68 (p.a15,(A.bin .add .i64 p.a18 (A.bin .rem .i64 (A.bin .add .i64 (A.bin .rem .i64 p.a1 p.a4) p.a4) p.a4)),(A.bin .add .i64 40 (A.bin .rem .i64 (A.conv .i64 p.a3) 61)),p.a16,p.a17)).2:Int)=(A.call fn68 (p.a15,(A.bin .add .i64 p.a18 (A.bin .rem .i64 (A.bin .add .i64 (A.bin .rem .i64 p.a1 p.a4) p.a4) p.a4)),(A.bin .add .i64 40 (A.bin .rem .i64 (A.conv .i64 p.a3) 61)),p.a16,p.a17)).2) (
                  .eqs ((.agg [.int .i64 false (A.call fn68 (p.a15,(A.bin .add .i64 p.a18 (A.bin .rem .i64 (A.bin .add .i64 (A.bin .rem .i64 p.a1 p.a4) p.a4) p.a4)),(A.bin .add .i64 40 (A.bin .rem .i64 (A.conv .i64 p.a3) 61)),p.a16,p.a17)).1.1,.int .i64 false (A.call fn68 (p.a15,(A.bin .add .i64 p.a18 (A.bin .rem .i64 (A.bin .add .i64 (A.bin .rem .i64 p.a1 p.a4) p.a4) p.a4)),(A.bin .add .i64 40 (A.bin .rem .i64 (A.conv .i64 p.a3) 61)),p.a16,p.a17)).1.2.1.1,.int .i64 false (A.call fn68 (p.a15,(A.bin .add .i64 p.a18 (A.bin .rem .i64 (A.bin .add .i64 (A.bin .rem .i64 p.a1 p.a4) p.a4) p.a4)),(A.bin .add .i64 40 (A.bin .rem .i64 (A.conv .i64 p.a3) 61)),p.a16,p.a17)).1.2.1.2,.int .i64 false (A.call fn68 (p.a15,(A.bin .add .i64 p.a18 (A.bin .rem .i64 (A.bin .add .i64 (A.bin .rem .i64 p.a1 p.a4) p.a4) p.a4)),(A.bin .add .i64 40 (A.bin .rem .i64 (A.conv .i64 p.a3) 61)),p.a16,p.a17)).1.2.2.1,.int .i64 false (A.call fn68 (p.a15,(A.bin .add .i64 p.a18 (A.bin .rem .i64 (A.bin .add .i64 (A.bin .rem .i64 p.a1 p.a4) p.a4) p.a4)),(A.bin .add .i64 40 (A.bin .rem .i64 (A.conv .i64 p.a3) 61)),p.a16,p.a17)).1.2.2.2.1,.sl (.int .u8) (A.call fn68 (p.a15,(A.bin .add .i64 p.a18 (A.bin .rem .i64 (A.bin .add .i64 (A.bin .rem .i64 p.a1 p.a4) p.a4) p.a4)),(A.bin .add .i64 40 (A.bin .rem .i64 (A.conv .i64 p.a3) 61)),p.a16,p.a17)).1.2.2.2.2]:AV)=.agg [.int .i64 false (A.call fn68 (p.a15,(A.bin .add .i64 p.a18 (A.bin .rem .i64 (A.bin .add .i64 (A.bin .rem .i64 p.a1 p.a4) p.a4) p.a4)),(A.bin .add .i64 40 (A.bin .rem .i64 (A.conv .i64 p.a3) 61)),p.a16,p.a17)).1.1,.int .i64 false (A.call fn68 (p.a15,(A.bin .add .i64 p.a18 (A.bin .rem .i64 (A.bin .add .i64 (A.bin .rem .i64 p.a1 p.a4) p.a4) p.a4)),(A.bin .add .i64 40 (A.bin .rem .i64 (A.conv .i64 p.a3) 61)),p.a16,p.a17)).1.2.1.1,.int .i64 false (A.call fn68 (p.a15,(A.bin .add .i64 p.a18 (A.bin .rem .i64 (A.bin .add .i64 (A.bin .rem .i64 p.a1 p.a4) p.a4) p.a4)),(A.bin .add .i64 40 (A.bin .rem .i64 (A.conv .i64 p.a3) 61)),p.a16,p.a17)).1.2.1.2,.int .i64 false (A.call fn68 (p.a15,(A.bin .add .i64 p.a18 (A.bin .rem .i64 (A.bin .add .i64 (A.bin .rem .i64 p.a1 p.a4) p.a4) p.a4)),(A.bin .add .i64 40 (A.bin .rem .i64 (A.conv .i64 p.a3) 61)),p.a16,p.a17)).1.2.2.1,.int .i64 false (A.call fn68 (p.a15,(A.bin .add .i64 p.a18 (A.bin .rem .i64 (A.bin .add .i64 (A.bin .rem .i64 p.a1 p.a4) p.a4) p.a4)),(A.bin .add .i64 40 (A.bin .rem .i64 (A.conv .i64 p.a3) 61)),p.a16,p.a17)).1.2.2.2.1,.sl (.int .u8) (A.call fn68 (p.a15,(A.bin .add .i64 p.a18 (A.bin .rem .i64 (A.bin .add .i64 (A.bin .rem .i64 p.a1 p.a4) p.a4) p.a4)),(A.bin .add .i64 40 (A.bin .rem .i64 (A.conv .i64 p.a3) 61)),p.a16,p.a17)).1.2.2.2.2]) (
                  .eqs ((.tup [.agg [.int .i64 false (A.call fn68 (p.a15,(A.bin .add .i64 p.a18 (A.bin .rem .i64 (A.bin .add .i64 (A.bin .rem .i64 p.a1 p.a4) p.a4) p.a4)),(A.bin .add .i64 40 (A.bin .rem .i64 (A.conv .i64 p.a3) 61)),p.a16,p.a17)).1.1,.int .i64 false (A.call fn68 (p.a15,(A.bin .add .i64 p.a18 (A.bin .rem .i64 (A.bin .add .i64 (A.bin .rem .i64 p.a1 p.a4) p.a4) p.a4)),(A.bin .add .i64 40 (A.bin .rem .i64 (A.conv .i64 p.a3) 61)),p.a16,p.a17)).1.2.1.1,.int .i64 false (A.call fn68 (p.a15,(A.bin .add .i64 p.a18 (A.bin .rem .i64 (A.bin .add .i64 (A.bin .rem .i64 p.a1 p.a4) p.a4) p.a4)),(A.bin .add .i64 40 (A.bin .rem .i64 (A.conv .i64 p.a3) 61)),p.a16,p.a17)).1.2.1.2,.int .i64 false (A.call fn68 (p.a15,(A.bin .add .i64 p.a18 (A.bin .rem .i64 (A.bin .add .i64 (A.bin .rem .i64 p.a1 p.a4) p.a4) p.a4)),(A.bin .add .i64 40 (A.bin .rem .i64 (A.conv .i64 p.a3) 61)),p.a16,p.a17)).1.2.2.1,.int .i64 false (A.call fn68 (p.a15,(A.bin .add .i64 p.a18 (A.bin .rem .i64 (A.bin .add .i64 (A.bin .rem .i64 p.a1 p.a4) p.a4) p.a4)),(A.bin .add .i64 40 (A.bin .rem .i64 (A.conv .i64 p.a3) 61)),p.a16,p.a17)).1.2.2.2.1,.sl (.int .u8) (A.call fn68 (p.a15,(A.bin .add .i64 p.a18 (A.bin .rem .i64 (A.bin .add .i64 (A.bin .rem .i64 p.a1 p.a4) p.a4) p.a4)),(A.bin .add .i64 40 (A.bin .rem .i64 (A.conv .i64 p.a3) 61)),p.a16,p.a17)).1.2.2.2.2],.int .i64 false (A.call fn68 (p.a15,(A.bin .add .i64 p.a18 (A.bin .rem .i64 (A.bin .add .i64 (A.bin .rem .i64 p.a1 p.a4) p.a4) p.a4)),(A.bin .add .i64 40 (A.bin .rem .i64 (A.conv .i64 p.a3) 61)),p.a16,p.a17)).2]:AV)=.tup [.agg [.int .i64 false (A.call fn68 (p.a15,(A.bin .add .i64 p.a18 (A.bin .rem .i64 (A.bin .add .i64 (A.bin .rem .i64 p.a1 p.a4) p.a4) p.a4)),(A.bin .add .i64 40 (A.bin .rem .i64 (A.conv .i64 p.a3) 61)),p.a16,p.a17)).1.1,.int .i64 false (A.call fn68 (p.a15,(A.bin .add .i64 p.a18 (A.bin .rem .i64 (A.bin .add .i64 (A.bin .rem .i64 p.a1 p.a4) p.a4) p.a4)),(A.bin .add .i64 40 (A.bin .rem .i64 (A.conv .i64 p.a3) 61)),p.a16,p.a17)).1.2.1.1,.int .i64 false (A.call fn68 (p.a15,(A.bin .add .i64 p.a18 (A.bin .rem .i64 (A.bin .add .i64 (A.bin .rem .i64 p.a1 p.a4) p.a4) p.a4)),(A.bin .add .i64 40 (A.bin .rem .i64 (A.conv .i64 p.a3) 61)),p.a16,p.a17)).1.2.1.2,.int .i64 false (A.call fn68 (p.a15,(A.bin .add .i64 p.a18 (A.bin .rem .i64 (A.bin .add .i64 (A.bin .rem .i64 p.a1 p.a4) p.a4) p.a4)),(A.bin .add .i64 40 (A.bin .rem .i64 (A.conv .i64 p.a3) 61)),p.a16,p.a17)).1.2.2.1,.int .i64 false (A.call fn68 (p.a15,(A.bin .add .i64 p.a18 (A.bin .rem .i64 (A.bin .add .i64 (A.bin .rem .i64 p.a1 p.a4) p.a4) p.a4)),(A.bin .add .i64 40 (A.bin .rem .i64 (A.conv .i64 p.a3) 61)),p.a16,p.a17)).1.2.2.2.1,.sl (.int .u8) (A.call fn68 (p.a15,(A.bin .add .i64 p.a18 (A.bin .rem .i64 (A.bin .add .i64 (A.bin .rem .i64 p.a1 p.a4) p.a4) p.a4)),(A.bin .add .i64 40 (A.bin .rem .i64 (A.conv .i64 p.a3) 61)),p.a16,p.a17)).1.2.2.2.2],.int .i64 false (A.call fn68 (p.a15,(A.bin .add .i64 p.a18 (A.bin .rem .i64 (A.bin .add .i64 (A.bin .rem .i64 p.a1 p.a4) p.a4) p.a4)),(A.bin .add .i64 40 (A.bin .rem .i64 (A.conv .i64 p.a3) 61)),p.a16,p.a17)).2]) (
                   .need (A.call (@tt (Int×Int×Int×Bits)) (p.a15,(A.bin .add .i64 p.a18 (A.bin .rem .i64 (A.bin .add .i64 (A.bin .rem .i64 p.a1 p.a4) p.a4) p.a4)),(A.bin .add .i64 40 (A.bin .rem .i64 (A.conv .i64 p.a3) 61)),p.a16,p.a17)) (
                   .eqs ((.tup [.agg [.int .i64 false (A.call fn68 (p.a15,(A.bin .add .i64 p.a18 (A.bin .rem .i64 (A.bin .add .i64 (A.bin .rem .i64 p.a1 p.a4) p.a4) p.a4)),(A.bin .add .i64 40 (A.bin .rem .i64 (A.conv .i64 p.a3) 61)),p.a16,p.a17)).1.1,.int .i64 false (A.call fn68 (p.a15,(A.bin .add .i64 p.a18 (A.bin .rem .i64 (A.bin .add .i64 (A.bin .rem .i64 p.a1 p.a4) p.a4) p.a4)),(A.bin .add .i64 40 (A.bin .rem .i64 (A.conv .i64 p.a3) 61)),p.a16,p.a17)).1.2.1.1,.int .i64 false (A.call fn68 (p.a15,(A.bin .add .i64 p.a18 (A.bin .rem .i64 (A.bin .add .i64 (A.bin .rem .i64 p.a1 p.a4) p.a4) p.a4)),(A.bin .add .i64 40 (A.bin .rem .i64 (A.conv .i64 p.a3) 61)),p.a16,p.a17)).1.2.1.2,.int .i64 false (A.call fn68 (p.a15,(A.bin .add .i64 p.a18 (A.bin .rem .i64 (A.bin .add .i64 (A.bin .rem .i64 p.a1 p.a4) p.a4) p.a4)),(A.bin .add .i64 40 (A.bin .rem .i64 (A.conv .i64 p.a3) 61)),p.a16,p.a17)).1.2.2.1,.int .i64 false (A.call fn68 (p.a15,(A.bin .add .i64 p.a18 (A.bin .rem .i64 (A.bin .add .i64 (A.bin .rem .i64 p.a1 p.a4) p.a4) p.a4)),(A.bin .add .i64 40 (A.bin .rem .i64 (A.conv .i64 p.a3) 61)),p.a16,p.a17)).1.2.2.2.1,.sl (.int .u8) (A.call fn68 (p.a15,(A.bin .add .i64 p.a18 (A.bin .rem .i64 (A.bin .add .i64 (A.bin .rem .i64 p.a1 p.a4) p.a4) p.a4)),(A.bin .add .i64 40 (A.bin .rem .i64 (A.conv .i64 p.a3) 61)),p.a16,p.a17)).1.2.2.2.2],.int .i64 false (A.call fn68 (p.a15,(A.bin .add .i64 p.a18 (A.bin .rem .i64 (A.bin .add .i64 (A.bin .rem .i64 p.a1 p.a4) p.a4) p.a4)),(A.bin .add .i64 40 (A.bin .rem .i64 (A.conv .i64 p.a3) 61)),p.a16,p.a17)).2]:AV)=.tup [.agg [.int .i64 false (A.call fn68 (p.a15,(A.bin .add .i64 p.a18 (A.bin .rem .i64 (A.bin .add .i64 (A.bin .rem .i64 p.a1 p.a4) p.a4) p.a4)),(A.bin .add .i64 40 (A.bin .rem .i64 (A.conv .i64 p.a3) 61)),p.a16,p.a17)).1.1,.int .i64 false (A.call fn68 (p.a15,(A.bin .add .i64 p.a18 (A.bin .rem .i64 (A.bin .add .i64 (A.bin .rem .i64 p.a1 p.a4) p.a4) p.a4)),(A.bin .add .i64 40 (A.bin .rem .i64 (A.conv .i64 p.a3) 61)),p.a16,p.a17)).1.2.1.1,.int .i64 false (A.call fn68 (p.a15,(A.bin .add .i64 p.a18 (A.bin .rem .i64 (A.bin .add .i64 (A.bin .rem .i64 p.a1 p.a4) p.a4) p.a4)),(A.bin .add .i64 40 (A.bin .rem .i64 (A.conv .i64 p.a3) 61)),p.a16,p.a17)).1.2.1.2,.int .i64 false (A.call fn68 (p.a15,(A.bin .add .i64 p.a18 (A.bin .rem .i64 (A.bin .add .i64 (A.bin .rem .i64 p.a1 p.a4) p.a4) p.a4)),(A.bin .add .i64 40 (A.bin .rem .i64 (A.conv .i64 p.a3) 61)),p.a16,p.a17)).1.2.2.1,.int .i64 false (A.call fn68 (p.a15,(A.bin .add .i64 p.a18 (A.bin .rem .i64 (A.bin .add .i64 (A.bin .rem .i64 p.a1 p.a4) p.a4) p.a4)),(A.bin .add .i64 40 (A.bin .rem .i64 (A.conv .i64 p.a3) 61)),p.a16,p.a17)).1.2.2.2.1,.sl (.int .u8) (A.call fn68 (p.a15,(A.bin .add .i64 p.a18 (A.bin .rem .i64 (A.bin .add .i64 (A.bin .rem .i64 p.a1 p.a4) p.a4) p.a4)),(A.bin .add .i64 40 (A.bin .rem .i64 (A.conv .i64 p.a3) 61)),p.a16,p.a17)).1.2.2.2.2],.int .i64 false (A.call fn68 (p.a15,(A.bin .add .i64 p.a18 (A.bin .rem .i64 (A.bin .add .i64 (A.bin .rem .i64 p.a1 p.a4) p.a4) p.a4)),(A.bin .add .i64 40 (A.bin .rem .i64 (A.conv .i64 p.a3) 61)),p.a16,p.a17)).2]) (
                    .eqs ((.agg [.int .i64 false p.a16,.sl (.int .u8) p.a17]:AV)=.agg [.int .i64 false p.a16,.sl (.int .u8) p.a17]) (
                    .eqs (IntKind.i64=IntKind.i64∧((A.bin .add .i64 40 (A.bin .rem .i64 (A.conv .i64 p.a3) 61)):Int)=(A.bin .add .i64 40 (A.bin .rem .i64 (A.conv .i64 p.a3) 61))) (
                    .eqs (IntKind.i64=IntKind.i64∧((A.bin .rem .i64 (A.conv .i64 p.a3) 61):Int)=(A.bin .rem .i64 (A.conv .i64 p.a3) 61)) (
                    .eqs (IntKind.i64=IntKind.i64∧((A.conv .i64 p.a3):Int)=(A.conv .i64 p.a3)) (
                    .eqs (IntKind.u8=IntKind.u8∧(p.a3:Int)=p.a3) (
                    .eqs (IntKind.i64=IntKind.i64∧((A.bin .add .i64 p.a18 (A.bin .rem .i64 (A.bin .add .i64 (A.bin .rem .i64 p.a1 p.a4) p.a4) p.a4)):Int)=(A.bin .add .i64 p.a18 (A.bin .rem .i64 (A.bin .add .i64 (A.bin .rem .i64 p.a1 p.a4) p.a4) p.a4))) (
                    .need (A.cmp .neq p.a4 0) (
                    .eqs (IntKind.i64=IntKind.i64∧((A.bin .rem .i64 (A.bin .add .i64 (A.bin .rem .i64 p.a1 p.a4) p.a4) p.a4):Int)=(A.bin .rem .i64 (A.bin .add .i64 (A.bin .rem .i64 p.a1 p.a4) p.a4) p.a4)) (
                    .eqs (IntKind.i64=IntKind.i64∧(p.a4:Int)=p.a4) (
                    .eqs (IntKind.i64=IntKind.i64∧((A.bin .add .i64 (A.bin .rem .i64 p.a1 p.a4) p.a4):Int)=(A.bin .add .i64 (A.bin .rem .i64 p.a1 p.a4) p.a4)) (
                    .eqs (IntKind.i64=IntKind.i64∧(p.a4:Int)=p.a4) (
                    .need (A.cmp .neq p.a4 0) (
                    .eqs (IntKind.i64=IntKind.i64∧((A.bin .rem .i64 p.a1 p.a4):Int)=(A.bin .rem .i64 p.a1 p.a4)) (
                    .eqs (IntKind.i64=IntKind.i64∧(p.a4:Int)=p.a4) (
                    .eqs (IntKind.i64=IntKind.i64∧(p.a1:Int)=p.a1) (
                    .eqs (IntKind.i64=IntKind.i64∧(p.a18:Int)=p.a18) (
                    .eqs ((.ptr 3 0:AV)=.ptr 3 0) (
                    .eqs (IntKind.i64=IntKind.i64∧(p.a15:Int)=p.a15) (
                    .eqs ((.ptr 1 2:AV)=.ptr 1 2) (
                    .eqs (IntKind.i64=IntKind.i64∧((A.call fn68 (p.a15,(A.bin .add .i64 p.a18 (A.bin .rem .i64 (A.bin .add .i64 (A.bin .rem .i64 p.a1 p.a4) p.a4) p.a4)),(A.bin .add .i64 40 (A.bin .rem .i64 (A.conv .i64 p.a3) 61)),p.a16,p.a17)).2:Int)=(A.call fn68 (p.a15,(A.bin .add .i64 p.a18 (A.bin .rem .i64 (A.bin .add .i64 (A.bin .rem .i64 p.a1 p.a4) p.a4) p.a4)),(A.bin .add .i64 40 (A.bin .rem .i64 (A.conv .i64 p.a3) 61)),p.a16,p.a17)).2) (
                    .br (A.cmp .neq (A.call fn68 (p.a15,(A.bin .add .i64 p.a18 (A.bin .rem .i64 (A.bin .add .i64 (A.bin .rem .i64 p.a0 p.a4) p.a4) p.a4)),(A.bin .add .i64 40 (A.bin .rem .i64 (A.conv .i64 p.a2) 61)),p.a16,p.a17)).2 0)
                    (.ret true)
                    (.br (A.cmp .neq (A.call fn68 (p.a15,(A.bin .add .i64 p.a18 (A.bin .rem .i64 (A.bin .add .i64 (A.bin .rem .i64 p.a1 p.a4) p.a4) p.a4)),(A.bin .add .i64 40 (A.bin .rem .i64 (A.conv .i64 p.a3) 61)),p.a16,p.a17)).2 0)
                    (.ret true)
                    (.more (.c1 ⟨p.a5,p.a6,p.a7,p.a8,p.a9,p.a10,p.a11,p.a12,p.a13,p.a14,p.a15,(A.call fn68 (p.a15,(A.bin .add .i64 p.a18 (A.bin .rem .i64 (A.bin .add .i64 (A.bin .rem .i64 p.a0 p.a4) p.a4) p.a4)),(A.bin .add .i64 40 (A.bin .rem .i64 (A.conv .i64 p.a2) 61)),p.a16,p.a17)).1.1,(A.call fn68 (p.a15,(A.bin .add .i64 p.a18 (A.bin .rem .i64 (A.bin .add .i64 (A.bin .rem .i64 p.a0 p.a4) p.a4) p.a4)),(A.bin .add .i64 40 (A.bin .rem .i64 (A.conv .i64 p.a2) 61)),p.a16,p.a17)).1.2.1.1,(A.call fn68 (p.a15,(A.bin .add .i64 p.a18 (A.bin .rem .i64 (A.bin .add .i64 (A.bin .rem .i64 p.a0 p.a4) p.a4) p.a4)),(A.bin .add .i64 40 (A.bin .rem .i64 (A.conv .i64 p.a2) 61)),p.a16,p.a17)).1.2.1.2,(A.call fn68 (p.a15,(A.bin .add .i64 p.a18 (A.bin .rem .i64 (A.bin .add .i64 (A.bin .rem .i64 p.a0 p.a4) p.a4) p.a4)),(A.bin .add .i64 40 (A.bin .rem .i64 (A.conv .i64 p.a2) 61)),p.a16,p.a17)).1.2.2.1,(A.call fn68 (p.a15,(A.bin .add .i64 p.a18 (A.bin .rem .i64 (A.bin .add .i64 (A.bin .rem .i64 p.a0 p.a4) p.a4) p.a4)),(A.bin .add .i64 40 (A.bin .rem .i64 (A.conv .i64 p.a2) 61)),p.a16,p.a17)).1.2.2.2.1,(A.call fn68 (p.a15,(A.bin .add .i64 p.a18 (A.bin .rem .i64 (A.bin .add .i64 (A.bin .rem .i64 p.a0 p.a4) p.a4) p.a4)),(A.bin .add .i64 40 (A.bin .rem .i64 (A.conv .i64 p.a2) 61)),p.a16,p.a17)).1.2.2.2.2,(A.call fn68 (p.a15,(A.bin .add .i64 p.a18 (A.bin .rem .i64 (A.bin .add .i64 (A.bin .rem .i64 p.a1 p.a4) p.a4) p.a4)),(A.bin .add .i64 40 (A.bin .rem .i64 (A.conv .i64 p.a3) 61)),p.a16,p.a17)).1.1,(A.call fn68 (p.a15,(A.bin .add .i64 p.a18 (A.bin .rem .i64 (A.bin .add .i64 (A.bin .rem .i64 p.a1 p.a4) p.a4) p.a4)),(A.bin .add .i64 40 (A.bin .rem .i64 (A.conv .i64 p.a3) 61)),p.a16,p.a17)).1.2.1.1,(A.call fn68 (p.a15,(A.bin .add .i64 p.a18 (A.bin .rem .i64 (A.bin .add .i64 (A.bin .rem .i64 p.a1 p.a4) p.a4) p.a4)),(A.bin .add .i64 40 (A.bin .rem .i64 (A.conv .i64 p.a3) 61)),p.a16,p.a17)).1.2.1.2,(A.call fn68 (p.a15,(A.bin .add .i64 p.a18 (A.bin .rem .i64 (A.bin .add .i64 (A.bin .rem .i64 p.a1 p.a4) p.a4) p.a4)),(A.bin .add .i64 40 (A.bin .rem .i64 (A.conv .i64 p.a3) 61)),p.a16,p.a17)).1.2.2.1,(A.call fn68 (p.a15,(A.bin .add .i64 p.a18 (A.bin .rem .i64 (A.bin .add .i64 (A.bin .rem .i64 p.a1 p.a4) p.a4) p.a4)),(A.bin .add .i64 40 (A.bin .rem .i64 (A.conv .i64 p.a3) 61)),p.a16,p.a17)).1.2.2.2.1,(A.call fn68 (p.a15,(A.bin .add .i64 p.a18 (A.bin .rem .i64 (A.bin .add .i64 (A.bin .rem .i64 p.a1 p.a4) p.a4) p.a4)),(A.bin .add .i64 40 (A.bin .rem .i64 (A.conv .i64 p.a3) 61)),p.a16,p.a17)).1.2.2.2.2⟩)))))))))))))))))))))))))))))))))))))))))))))))))))))))))))
 | .c1 p=>
  .need (A.call pre69 ((p.b0,p.b1,p.b2,p.b3,p.b4,p.b5,p.b6,p.b7),(p.b8,p.b9,p.b10), [(p.b11,(p.b12,p.b13),p.b14,p.b15,p.b16)])) (
  .need (A.call pre69 ((p.b0,p.b1,p.b2,p.b3,p.b4,p.b5,p.b6,p.b7),(p.b8,p.b9,p.b10), [(p.b17,(p.b18,p.b19),p.b20,p.b21,p.b22)])) (
   .br (A.cmp .eql (A.call fn69 ((p.b0,p.b1,p.b2,p.b3,p.b4,p.b5,p.b6,p.b7),(p.b8,p.b9,p.b10), [(p.b11,(p.b12,p.b13),p.b14,p.b15,p.b16)])).2.2.2 0)
   (.br (A.cmp .eql (A.call fn69 ((p.b0,p.b1,p.b2,p.b3,p.b4,p.b5,p.b6,p.b7),(p.b8,p.b9,p.b10), [(p.b17,(p.b18,p.b19),p.b20,p.b21,p.b22)])).2.2.2 0)
    (.br (A.and (A.beq (A.call fn69 ((p.b0,p.b1,p.b2,p.b3,p.b4,p.b5,p.b6,p.b7),(p.b8,p.b9,p.b10), [(p.b11,(p.b12,p.b13),p.b14,p.b15,p.b16)])).1.1 (A.call fn69 ((p.b0,p.b1,p.b2,p.b3,p.b4,p.b5,p.b6,p.b7),(p.b8,p.b9,p.b10), [(p.b17,(p.b18,p.b19),p.b20,p.b21,p.b22)])).1.1) (A.and (A.cmp .eql (A.call fn69 ((p.b0,p.b1,p.b2,p.b3,p.b4,p.b5,p.b6,p.b7),(p.b8,p.b9,p.b10), [(p.b11,(p.b12,p.b13),p.b14,p.b15,p.b16)])).1.2.1 (A.call fn69 ((p.b0,p.b1,p.b2,p.b3,p.b4,p.b5,p.b6,p.b7),(p.b8,p.b9,p.b10), [(p.b17,(p.b18,p.b19),p.b20,p.b21,p.b22)])).1.2.1) (A.and (A.cmp .eql (A.call fn69 ((p.b0,p.b1,p.b2,p.b3,p.b4,p.b5,p.b6,p.b7),(p.b8,p.b9,p.b10), [(p.b11,(p.b12,p.b13),p.b14,p.b15,p.b16)])).1.2.2 (A.call fn69 ((p.b0,p.b1,p.b2,p.b3,p.b4,p.b5,p.b6,p.b7),(p.b8,p.b9,p.b10), [(p.b17,(p.b18,p.b19),p.b20,p.b21,p.b22)])).1.2.2) true)))
    (.br (A.beq (A.call fn69 ((p.b0,p.b1,p.b2,p.b3,p.b4,p.b5,p.b6,p.b7),(p.b8,p.b9,p.b10), [(p.b11,(p.b12,p.b13),p.b14,p.b15,p.b16)])).2.2.1 (A.call fn69 ((p.b0,p.b1,p.b2,p.b3,p.b4,p.b5,p.b6,p.b7),(p.b8,p.b9,p.b10), [(p.b17,(p.b18,p.b19),p.b20,p.b21,p.b22)])).2.2.1)
     (.br (A.cmp .eql (A.call fn69 ((p.b0,p.b1,p.b2,p.b3,p.b4,p.b5,p.b6,p.b7),(p.b8,p.b9,p.b10), [(p.b11,(p.b12,p.b13),p.b14,p.b15,p.b16)])).2.1.1 (A.call fn69 ((p.b0,p.b1,p.b2,p.b3,p.b4,p.b5,p.b6,p.b7),(p.b8,p.b9,p.b10), [(p.b17,(p.b18,p.b19),p.b20,p.b21,p.b22)])).2.1.1)
     (.br (A.and (A.cmp .eql (A.call fn69 ((p.b0,p.b1,p.b2,p.b3,p.b4,p.b5,p.b6,p.b7),(p.b8,p.b9,p.b10), [(p.b11,(p.b12,p.b13),p.b14,p.b15,p.b16)])).2.1.2.1.1 (A.call fn69 ((p.b0,p.b1,p.b2,p.b3,p.b4,p.b5,p.b6,p.b7),(p.b8,p.b9,p.b10), [(p.b17,(p.b18,p.b19),p.b20,p.b21,p.b22)])).2.1.2.1.1) (A.and (A.cmp .eql (A.call fn69 ((p.b0,p.b1,p.b2,p.b3,p.b4,p.b5,p.b6,p.b7),(p.b8,p.b9,p.b10), [(p.b11,(p.b12,p.b13),p.b14,p.b15,p.b16)])).2.1.2.1.2 (A.call fn69 ((p.b0,p.b1,p.b2,p.b3,p.b4,p.b5,p.b6,p.b7),(p.b8,p.b9,p.b10), [(p.b17,(p.b18,p.b19),p.b20,p.b21,p.b22)])).2.1.2.1.2) true))
      (.br (A.cmp .eql (A.call fn69 ((p.b0,p.b1,p.b2,p.b3,p.b4,p.b5,p.b6,p.b7),(p.b8,p.b9,p.b10), [(p.b11,(p.b12,p.b13),p.b14,p.b15,p.b16)])).2.1.2.2.1 (A.call fn69 ((p.b0,p.b1,p.b2,p.b3,p.b4,p.b5,p.b6,p.b7),(p.b8,p.b9,p.b10), [(p.b17,(p.b18,p.b19),p.b20,p.b21,p.b22)])).2.1.2.2.1)
      (.need (A.call (@tt ((Int×List Int)×(Int×List Int))) ((A.call fn69 ((p.b0,p.b1,p.b2,p.b3,p.b4,p.b5,p.b6,p.b7),(p.b8,p.b9,p.b10), [(p.b11,(p.b12,p.b13),p.b14,p.b15,p.b16)])).2.1.2.2.2,(A.call fn69 ((p.b0,p.b1,p.b2,p.b3,p.b4,p.b5,p.b6,p.b7),(p.b8,p.b9,p.b10), [(p.b17,(p.b18,p.b19),p.b20,p.b21,p.b22)])).2.1.2.2.2)) (
       .ret (A.call fn49 ((A.call fn69 ((p.b0,p.b1,p.b2,p.b3,p.b4,p.b5,p.b6,p.b7),(p.b8,p.b9,p.b10), [(p.b11,(p.b12,p.b13),p.b14,p.b15,p.b16)])).2.1.2.2.2,(A.call fn69 ((p.b0,p.b1,p.b2,p.b3,p.b4,p.b5,p.b6,p.b7),(p.b8,p.b9,p.b10), [(p.b17,(p.b18,p.b19),p.b20,p.b21,p.b22)])).2.1.2.2.2))))
      (.ret false))
      (.ret false))
     (.ret false))
     (.ret false))
    (.ret false))
    (.ret false))
   (.ret false)))
noncomputable def E19 (A:Alg):Info (Ty.Ts [.bool]):={ti:=tys,fns:=[(19,Try.f19),(70,Try.f70)],sps:=[(49,sp49),(66,sp66),(67,sp67),(68,sp68),(69,sp69)],stops:=[],cuts:=[⟨19,5, [[3,4,5,6,7,8,9,15,17]]⟩,⟨19,9, [[7,8,18,20]]⟩],consts:=[],fin:=finD A [.bool]}
theorem t19_ok (A:Alg) (mNodes:Int) (mSlot:Int) (mGap:Int) (mWindow:Int) (mDrift:Int) (mDelay:Int) (mCold:List Bool) (mModes:List Mode) (hSync:Bool) (hStart:Int) (hPos:Int) (bN:Int) (bB:List Int) (early:Int) (late:Int) (p:Int) (q:Int):run A (E19 A) 52 (startC 19 Try.f19 (dvals A [yMedl,yHub,yBits,(.int .i64),(.int .i64),(.int .u8),(.int .u8)] ((mNodes,mSlot,mGap,mWindow,mDrift,mDelay,mCold,mModes),(hSync,hStart,hPos),(bN,bB),early,late,p,q)))=(t19 A mNodes mSlot mGap mWindow mDrift mDelay mCold mModes hSync hStart hPos bN bB early late p q).tr cfg19:=by kernel_rfl
theorem s19_ok (A:Alg):∀y,∃n,run A (E19 A) n (advance (E19 A).sps (cfg19 y))=(s19 A y).tr cfg19
 | .c0 p=>⟨73,by kernel_rfl⟩
 | .c1 p=>⟨104,by kernel_rfl⟩
def w19:Walk Try.prog 19 [yMedl,yHub,yBits,(.int .i64),(.int .i64),(.int .u8),(.int .u8)] [.bool] Y19:=⟨fun ((mNodes,mSlot,mGap,mWindow,mDrift,mDelay,mCold,mModes),(hSync,hStart,hPos),(bN,bB),early,late,p,q)=>t19 std mNodes mSlot mGap mWindow mDrift mDelay mCold mModes hSync hStart hPos bN bB early late p q,s19 std⟩
theorem w19_ok:w19.Ok:=
 walk_ok (E:=E19 std) ⟨tys_fit,fns_cons Try.func19 (by kernel_rfl) (fns_cons Try.func70 (by kernel_rfl) (fns_nil)),sps_cons so49 (sps_cons so66 (sps_cons so67 (sps_cons so68 (sps_cons so69 (sps_nil))))),by kernel_rfl⟩ rfl rfl rfl (by kernel_rfl) w19 cfg19 52 (fun ((mNodes,mSlot,mGap,mWindow,mDrift,mDelay,mCold,mModes),(hSync,hStart,hPos),(bN,bB),early,late,p,q)=>t19_ok std mNodes mSlot mGap mWindow mDrift mDelay mCold mModes hSync hStart hPos bN bB early late p q) (s19_ok std)
theorem whole_eq {f a c l n:Int} {b:List Int} (hb:bytesOk b) (hl:b.length≤140737488355328):fn171 (f,(a,c),l,n,b)=fn119 (f,(a,c),l,n,b):=by
 have h1:fn182 (f,(a,c),l,n,b)=fn150 (f,(a,c),l,n,b):=by
  simp only [fn182,t182,fn150,t150,LT.val,std_call,fn97_99 hb hl]
  rw [show fn170 (a,c)=fn186 (a,c) from rfl]
  cases std.cmp .lss f (-1) <;> cases std.cmp .geq f 8 <;> cases std.cmp .lss l 0 <;> cases std.cmp .gtr l 200 <;> cases std.cmp .neq (fn186 (a,c)) 0 <;> cases std.cmp .neq (fn99 (n,b)) 0 <;> rfl
 simp only [fn171,t171,fn119,t119,LT.val,std_call,h1]
 rw [show fn118 n=fn173 n from rfl,std_cmp_gtr,std_cmp_geq,show decide (0 < n)=decide (1≤n) from by simp; omega]
theorem make_ok {f a l n:Int} {b:List Int} (h:(fn68 (f,a,l,n,b)).2=0):(fn68 (f,a,l,n,b)).1=(f,(a,std.bin .add .i64 a (fn118 n)),l,n,b)∧fn119 (f,(a,std.bin .add .i64 a (fn118 n)),l,n,b)=true:=by
 simp only [fn68,t68,LT.val,std_call,std_not] at h ⊢
 cases h1:std.cmp .lss a 0
 ·rw [h1] at h
  cases h2:std.cmp .gtr a 1099511627776
  ·rw [h2] at h
   cases h3:fn119 (f,(a,std.bin .add .i64 a (fn118 n)),l,n,b)
   ·rw [h3] at h; cases h
   ·refine ⟨?_,rfl⟩
    cases h4:std.cmp .eql (std.len b) 0
    ·rfl
    ·have:b=[]:=List.eq_nil_of_length_eq_zero (by rw [std_cmp_eql,lenI,beq_iff_eq] at h4; omega)
     subst this; rfl
  ·rw [h2] at h; cases h
 ·rw [h1] at h; cases h
def passes (c:Bool) (h:Hub) (x:Sig×Int):Hub×Sig×Bool×Int:=
 bif c then (bif x.2 == 0 then (h,x.1,true,0) else (h,(0,(0,0),0,0,([]:List Int)),false,0)) else (h,(0,(0,0),0,0,([]:List Int)),false,0)
theorem filter_eq {n s g w d de st p:Int} {cold:List Bool} {modes:List Mode} {x:Sig} {c:Bool} (hW:(fn66 ((n,s,g,w,d,de,cold,modes),true,st,p)).2=0) (h2:fn122 ((n,s,g,w,d,de,cold,modes),true,st,p)=true)
  (hc:ownOne (n,s,g,w,d,de,cold,modes) (true,st,p) (fn66 ((n,s,g,w,d,de,cold,modes),true,st,p)).1 x=bif c then (x,true) else ((0,(0,0),0,0,([]:List Int)),false)) :
  fn69 ((n,s,g,w,d,de,cold,modes),(true,st,p), [x])=passes c (true,st,p) (fn153 (x.1,std.bin .add .i64 st (std.bin .add .i64 g de),100,x.2.2.2)):=by
 obtain ⟨f,⟨q,r⟩,lv,bn,bb⟩:=x
 simp only [fn69,t69,LT.val,std_call,cne_f hW,cond_false,std_not,Bool.not_true]
 rw [show fn120 ((n,s,g,w,d,de,cold,modes),(true,st,p),(fn66 ((n,s,g,w,d,de,cold,modes),true,st,p)).1, [(f,(q,r),lv,bn,bb)])=ownOne (n,s,g,w,d,de,cold,modes) (true,st,p) (fn66 ((n,s,g,w,d,de,cold,modes),true,st,p)).1 (f,(q,r),lv,bn,bb) from rfl,hc,h2]
 cases c
 ·rfl
 ·simp only [cond_true,Bool.not_true,cond_false,fn123,t123,LT.val,std_call,passes,std_cmp_eql]
  cases (fn153 (f,std.bin .add .i64 st (std.bin .add .i64 g de),100,bn,bb)).2 == 0 <;> rfl
theorem win_in {n s g w d de st p:Int} {sy:Bool} {cold:List Bool} {modes:List Mode} (hW:(fn66 ((n,s,g,w,d,de,cold,modes),sy,st,p)).2=0) :
  fn71 ((n,s,g,w,d,de,cold,modes),sy,st,p)=0∧∃a b:Int,(fn66 ((n,s,g,w,d,de,cold,modes),sy,st,p)).1=(a,b)∧0≤a∧a < b∧b≤2000000000000:=by
 simp only [fn66,t66,LT.val,std_call] at hW ⊢
 by_cases h0:fn71 ((n,s,g,w,d,de,cold,modes),sy,st,p)=0
 ·refine ⟨h0,?_⟩
  rw [cne_f h0,cond_false] at hW ⊢
  obtain ⟨hm,h1,h2,h3,h4,_⟩:=hub_zero h0
  obtain ⟨_,_,_,_,h5⟩:=medl_n hm
  simp only [fn116,t116,LT.val,std_call,fn148,t148] at hW ⊢
  have hk:fn147 ((n,s,g,w,d,de,cold,modes),st,0,([]:List Int))=0:=by
   rw [fn147_eq,clkS,hm,clkB,decide_eq_false (show ¬st < 0 by omega),decide_eq_false (show ¬1099494850560 < st by omega)]; rfl
  rw [cne_f hk,cond_false]
  refine ⟨_,_,rfl,?_⟩
  rw [std_add,std_add,std_add,std_add,std_sub,std_mx,w64 (a:=g + de) (by omega) (by omega),w64 (a:=st + (g + de)) (by omega) (by omega),w64 (a:=st + (g + de) - w) (by omega) (by omega),w64 (a:=st + (g + de) + w) (by omega) (by omega),w64 (by omega) (by omega)]
  split <;> omega
 ·rw [cne_t h0] at hW
  exact absurd hW h0
theorem rem_in {x k:Int} (h:0 < k∧k≤2000000000000) (hx:IntKind.i64.has x):0≤std.bin .rem .i64 (std.bin .add .i64 (std.bin .rem .i64 x k) k) k∧std.bin .rem .i64 (std.bin .add .i64 (std.bin .rem .i64 x k) k) k < k:=by
 have h1:=Int.tmod_lt_of_pos x h.1
 have h2:-k < x.tmod k:=by
  have:=Int.neg_tmod x k
  have h3:=Int.tmod_lt_of_pos (-x) h.1
  omega
 rw [std_rem,std_add,std_rem,w64 (by omega) (by omega)]
 exact ⟨Int.tmod_nonneg _ (by omega),Int.tmod_lt_of_pos _ h.1⟩
theorem level_in {p:Int} (h:0≤p∧p≤255):40≤std.bin .add .i64 40 (std.bin .rem .i64 (std.conv .i64 p) 61):=by
 have h1:=Int.tmod_lt_of_pos p (show (0:Int) < 61 by omega)
 have h2:=Int.tmod_nonneg (a:=p) 61 h.1
 rw [std_add,std_rem,std_conv,w64 (a:=p) (by omega) (by omega),w64 (by omega) (by omega)]
 omega
theorem own_in {n s g w d de st p q l bn a b:Int} {cold:List Bool} {modes:List Mode} {bb:List Int} (hb:bytesOk bb) (hlb:bb.length≤140737488355328) (hq:a≤q∧q < b) (hl:40≤l) (hw:fn119 (p,(q,std.bin .add .i64 q (fn118 bn)),l,bn,bb)=true) :
  ownOne (n,s,g,w,d,de,cold,modes) (true,st,p) (a,b) (p,(q,std.bin .add .i64 q (fn118 bn)),l,bn,bb)=bif fn172 ((n,s,g,w,d,de,cold,modes),p,bn,bb) then ((p,(q,std.bin .add .i64 q (fn118 bn)),l,bn,bb),true) else ((0,(0,0),0,0,([]:List Int)),false):=by
 rw [ownOne,ceq_t rfl,std_cmp_geq,std_cmp_lss,decide_eq_true (show a≤q from hq.1),decide_eq_true (show q < b from hq.2)]
 simp only [fn151,t151,LT.val,std_call,whole_eq hb hlb,hw,std_cmp_geq,decide_eq_true hl,cond_true,Bool.true_and]
theorem passes_zero {c:Bool} {h:Hub} {x:Sig×Int}:(passes c h x).2.2.2=0:=by
 unfold passes; cases c <;> cases x.2 == 0 <;> rfl
theorem made_bits {f a l n:Int} {b:List Int} (hb:bytesOk b):bytesOk (fn153 (f,a,l,n,b)).1.2.2.2.2:=by
 simp only [fn153,t153,LT.val,std_call,fn174]
 have hz:bytesOk ([]:List Int):=fun x hx=>by cases hx
 cases std.cmp .lss a 0 <;> cases std.cmp .gtr a 1099511627776 <;> cases std.not (fn171 (f,(a,std.bin .add .i64 a (fn173 n)),l,n,b)) <;> first | exact hz | exact hb
theorem passes_bits {c:Bool} {h:Hub} {x:Sig×Int} (hb:bytesOk x.1.2.2.2.2):bytesOk (passes c h x).2.1.2.2.2.2:=by
 have hz:bytesOk ([]:List Int):=fun x hx=>by cases hx
 unfold passes; cases c <;> cases x.2 == 0 <;> first | exact hz | exact hb
theorem bits_self {x:Int×List Int} (h:bytesOk x.2):fn49 (x,x)=true:=by
 obtain ⟨n,b⟩:=x
 rw [fn49_eq h h]; simp
theorem same1 {n s g w d de:Int} {cold:List Bool} {modes:List Mode} {sy:Bool} {st p bn ea la q r:Int} {bb:List Int} (h:Ty.hass [yMedl,yHub,yBits,(.int .i64),(.int .i64),(.int .u8),(.int .u8)] ((n,s,g,w,d,de,cold,modes),(sy,st,p),(bn,bb),ea,la,q,r)) :
  Runs (s19 std) (t19 std n s g w d de cold modes sy st p bn bb ea la q r) true:=by
 obtain ⟨_,_,hbits,hea,hla,hq,hr⟩:=h
 have hb:bytesOk bb:=hbits.2.2
 have hlb:bb.length≤140737488355328:=hbits.2.1
 unfold t19
 refine runs_need.2 ⟨rfl,runs_need.2 ⟨rfl,(runs_brF (by rw [std_call,begun21]; rfl)).2 ?_⟩⟩
 by_cases hW:(fn66 ((n,s,g,w,d,de,cold,modes),sy,st,p)).2=0
 ·refine (runs_brF (cne_f hW)).2 ?_
  cases sy
  ·exact (runs_brT rfl).2 (runs_need.2 ⟨rfl,runs_c (congrArg LT.ret (show std.call fn67 ()=true from begun21)) (.ret _)⟩)
  ·refine (runs_brF rfl).2 ?_
   obtain ⟨h71,a,b,hab,ha,hlt,hb2⟩:=win_in hW
   obtain ⟨hm,_,_,_,_,h122⟩:=hub_zero h71
   have hwd:std.bin .sub .i64 b a=b - a:=by rw [std_sub,w64 (by omega) (by omega)]
   have hne:std.cmp .neq (std.bin .sub .i64 b a) 0=true:=cne_t (by rw [hwd]; omega)
   rw [std_call,hab,runs_more,s19]
   repeat (first | refine runs_eqs.2 ⟨rfl,?_⟩ | refine runs_eqs.2 ⟨⟨rfl,rfl⟩,?_⟩ | refine runs_need.2 ⟨hne,?_⟩ | refine runs_need.2 ⟨rfl,?_⟩)
   have he:=rem_in (k:=b - a) (by omega) hea
   have hl:=rem_in (k:=b - a) (by omega) hla
   simp only [hwd,std_call]
   have adds:∀x:Int,0≤x∧x < b - a→std.bin .add .i64 a x=a + x:=fun x hx=>by rw [std_add,w64 (by omega) (by omega)]
   rw [adds _ he,adds _ hl]
   generalize std.bin .rem .i64 (std.bin .add .i64 (std.bin .rem .i64 ea (b - a)) (b - a)) (b - a)=X at he ⊢
   generalize std.bin .rem .i64 (std.bin .add .i64 (std.bin .rem .i64 la (b - a)) (b - a)) (b - a)=Y at hl ⊢
   have q1:a≤a + X∧a + X < b:=by omega
   have q2:a≤a + Y∧a + Y < b:=by omega
   by_cases h1:(fn68 (p,a + X,std.bin .add .i64 40 (std.bin .rem .i64 (std.conv .i64 q) 61),bn,bb)).2=0
   ·refine (runs_brF (cne_f h1)).2 ?_
    by_cases h2:(fn68 (p,a + Y,std.bin .add .i64 40 (std.bin .rem .i64 (std.conv .i64 r) 61),bn,bb)).2=0
    ·refine (runs_brF (cne_f h2)).2 ?_
     obtain ⟨e1,k1⟩:=make_ok h1
     obtain ⟨e2,k2⟩:=make_ok h2
     rw [e1,e2,runs_more,s19]
     have f1:=filter_eq hW h122 ((congrArg (fun z=>ownOne _ _ z _) hab).trans (own_in hb hlb q1 (level_in hq) k1))
     have f2:=filter_eq hW h122 ((congrArg (fun z=>ownOne _ _ z _) hab).trans (own_in hb hlb q2 (level_in hr) k2))
     simp only [std_call,f1,f2]
     refine runs_need.2 ⟨rfl,runs_need.2 ⟨rfl,?_⟩⟩
     have hbb:=passes_bits (c:=fn172 ((n,s,g,w,d,de,cold,modes),p,bn,bb)) (h:=(true,st,p)) (made_bits (f:=p) (a:=std.bin .add .i64 st (std.bin .add .i64 g de)) (l:=100) (n:=bn) hb)
     simp only [passes_zero,std_cmp_eql,std_beq,std_and,beq_self_eq_true,Bool.and_self,runs_br,cond_true,runs_need,runs_ret,tt_eq,true_and,bits_self hbb]
    ·exact (runs_brT (cne_t h2)).2 (.ret _)
   ·exact (runs_brT (cne_t h1)).2 (.ret _)
 ·exact (runs_brT (cne_t hW)).2 (runs_need.2 ⟨rfl,runs_c (congrArg LT.ret (show std.call fn67 ()=true from begun21)) (.ret _)⟩)
def fn19:Medl×Hub×Bits×Int×Int×Int×Int→Bool:=fun _=>true
def sp19:FSpec:=⟨[yMedl,yHub,yBits,(.int .i64),(.int .i64),(.int .u8),(.int .u8)], [.bool],(@tt (Medl×Hub×Bits×Int×Int×Int×Int)),fn19⟩
theorem run19 {mNodes:Int} {mSlot:Int} {mGap:Int} {mWindow:Int} {mDrift:Int} {mDelay:Int} {mCold:List Bool} {mModes:List Mode} {hSync:Bool} {hStart:Int} {hPos:Int} {bN:Int} {bB:List Int} {early:Int} {late:Int} {p:Int} {q:Int} (h:Ty.hass [yMedl,yHub,yBits,(.int .i64),(.int .i64),(.int .u8),(.int .u8)] ((mNodes,mSlot,mGap,mWindow,mDrift,mDelay,mCold,mModes),(hSync,hStart,hPos),(bN,bB),early,late,p,q)):Runs (s19 std) (t19 std mNodes mSlot mGap mWindow mDrift mDelay mCold mModes hSync hStart hPos bN bB early late p q) (fn19 ((mNodes,mSlot,mGap,mWindow,mDrift,mDelay,mCold,mModes),(hSync,hStart,hPos),(bN,bB),early,late,p,q)):=by
 exact same1 h
theorem so19:FSpec.Sound Try.prog 19 sp19:=
 w19_ok.sound _ _ fun ((mNodes,mSlot,mGap,mWindow,mDrift,mDelay,mCold,mModes),(hSync,hStart,hPos),(bN,bB),early,late,p,q) _ h=>run19 h
theorem law19 (x:Medl×Hub×Bits×Int×Int×Int×Int) (_:Ty.hass [yMedl,yHub,yBits,(.int .i64),(.int .i64),(.int .u8),(.int .u8)] x):fn19 x=true:=rfl
end Go.Ev.M
