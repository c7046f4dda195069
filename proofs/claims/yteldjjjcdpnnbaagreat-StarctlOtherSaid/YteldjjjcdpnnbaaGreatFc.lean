/-
  PROVED: what frame.Parse, Good and Explicit compute. Conditions: none.
-/
import Derived.Test.YteldjjjcdpnnbaaGreatFb
namespace Go.Ev.M
open Go.Proofs
set_option maxRecDepth 100000
set_option linter.unusedVariables false
set_option linter.unusedSimpArgs false
open Go.Ev.Pl
structure ad7 where
 (a0 a1:Int) (a2:List Int) (a3 a4 a5 a6 a7 a8 a9 bV dT a12 lk ku qs a16:Int) (a17:List Int) (qU mq a20 a21 a22 a23 a24 a25 a26 a27:Int)
structure abi where
 (b0 b1:Int) (b2:List Int) (b3 b4 b5 b6 b7 b8 b9 b10 b11 b12 b13 sn zQ dA:Int) (ib:List Int) (sR lH mM kN kT nY nX nZ qT nP:Int) (nQ:List Int)
structure Rk where
 (c1 c2 c3 c4 c5 c6:Int) (c7:List Int) (zT Kq c19 c20 c21 Rn c23 c24 c25 c26 c27 c28 c29 E5 c31 c32 c33 c34 c35 c36 c37 c38:Int) (c39:List Int)
structure R0 where
 (d1:Int) (d2:List Int) (Gl d13 d14 mA E9 XI XH JL d20 d21 d22 d23 d24 Jc Jx d27 d28 d29 d30 d31 Jj CZ:Int) (Cp:List Int)
inductive Se where
 | c0 (p:ad7)
 | c1 (p:abi)
 | c2 (p:Rk) (c0:Int) (c8:Int) (c9:Int) (c10:Int) (c11:Int) (c12:Int) (c13:Int) (c14:Int) (ni:Int) (c16:Int)
 | c3 (p:R0) (d0:Int) (d3:Int) (d4:Int) (d5:Int) (d6:Int) (d7:Int) (d8:Int) (d9:Int) (fD:Int) (gX:Int)
noncomputable def afg:Se→fL
 | .c0 p=>⟨[⟨206,122,(en [(2,.ptr 0 0),(3,.ptr 1 0),(4,.ptr 2 0),(7,.ptr 3 0),(8,.ptr 4 0),(9,.ptr 5 0),(10,vi p.a0)]),[.code (cw Tryz.f206 [1,1,1,1,1,1,1,1,1,0,0]),.code (cw Tryz.f206 [1,1,1,1,1,1,1,1,1,0,1]),.code (cw Tryz.f206 [1,1,1,1,1,1,1,1,1,1])],[],none⟩],[.flat false [vi p.a1,.sl yU p.a2],.flat false [vi p.a3,vi p.a4,vi p.a5,vi p.a6,vi p.a7],.flat false [vi p.a8,vi p.a9,vi p.bV,vi p.dT,vi p.a12,vi p.lk,vi p.ku,vi p.qs,.bi true],.flat false [vi p.a16,.sl yU p.a17,vi p.qU],.flat false [vi p.mq,vi p.a20,vi p.a21,vi p.a22,vi p.a23,vi p.a24,vi p.a25,vi p.a26,.bi true],.flat false [vi p.a27,.bi true],.dead]⟩
 | .c1 p=>⟨[⟨206,122,(en [(2,.ptr 0 0),(3,.ptr 1 0),(4,.ptr 2 0),(7,.ptr 3 0),(8,.ptr 4 0),(9,.ptr 5 0),(10,vi p.b0)]),[.code (cw Tryz.f206 [1,1,1,1,1,1,1,1,1,0,0]),.code (cw Tryz.f206 [1,1,1,1,1,1,1,1,1,0,1]),.code (cw Tryz.f206 [1,1,1,1,1,1,1,1,1,1])],[],none⟩],[.flat false [vi p.b1,.sl yU p.b2],.flat false [vi p.b3,vi p.b4,vi p.b5,vi p.b6,vi p.b7],.flat false [vi p.b8,vi p.b9,vi p.b10,vi p.b11,vi p.b12,vi p.b13,vi p.sn,vi p.zQ,.bi true],.flat false [vi p.dA,.sl yU p.ib,vi p.sR],.flat false [vi p.lH,vi p.mM,vi p.kN,vi p.kT,vi p.nY,vi p.nX,vi p.nZ,vi p.qT,.bi true],.flat false [vi p.nP,.sl yU p.nQ],.dead]⟩
 | .c2 p c0 c8 c9 c10 c11 c12 c13 c14 ni c16=>⟨[⟨235,34,(en [(0,.ptr 0 0),(3,.ptr 1 0),(4,vi c0)]),[.inLoop (cw Tryz.f235 [1,1,1,0,0,0]),.inBlock 0,.code (cw Tryz.f235 [1,1,1,1])],[],none⟩,⟨206,122,(en [(3,.ptr 2 0),(4,.ptr 3 0),(8,.ptr 4 0),(12,.ptr 5 0),(97,.agg [vi p.c1,vi p.c2,vi p.c3,vi p.c4,vi p.c5]),(100,.ptr 4 2)]),[.mh (ow Tryz.f206 [1,1,1,1,1,1,1,1,1,1,1,1,1,0,1,0,0,0,0,0,1,0]) [0,0,2,1,15,31,63] 2 [4,5,6] [3,0],.code (.exit 1),.inBlock 3,.code (cw Tryz.f206 [1,1,1,1,1,1,1,1,1,1,1,1,1,0,1,0,0,0,1]),.inBlock 4,.code (cw Tryz.f206 [1,1,1,1,1,1,1,1,1,1,1,1,1,0,1,0,1]),.inBlock 1,.code (cw Tryz.f206 [1,1,1,1,1,1,1,1,1,1,1,1,1,1])],[],none⟩],[.flat false [vi p.c6,.sl yU p.c7,vi c8],.flat false [.int .u8 false c9,.int .u8 false c10,.int .u8 false c11,.int .u8 false c12,.int .u8 false c13,.int .u8 false c14,.int .u8 false ni,.int .u8 false c16],.flat false [vi p.zT,vi p.Kq,vi p.c19,vi p.c20,vi p.c21],.flat false [vi p.Rn,vi p.c23,vi p.c24,vi p.c25,vi p.c26,vi p.c27,vi p.c28,vi p.c29,.bi true],.flat false [vi p.E5,vi p.c31,vi p.c32,vi p.c33,vi p.c34,vi p.c35,vi p.c36,vi p.c37,.bi true],.flat false [vi p.c38,.sl yU p.c39],.dead]⟩
 | .c3 p d0 d3 d4 d5 d6 d7 d8 d9 fD gX=>⟨[⟨235,34,(en [(0,.ptr 0 0),(3,.ptr 1 0),(4,vi d0)]),[.inLoop (cw Tryz.f235 [1,1,1,0,0,0]),.inBlock 0,.code (cw Tryz.f235 [1,1,1,1])],[],none⟩,⟨206,122,(en [(3,.ptr 2 0),(4,.ptr 3 0),(8,.ptr 4 0),(12,.ptr 5 0),(97,.undef),(100,.undef)]),[.ops (ow Tryz.f206 [1,1,1,1,1,1,1,1,1,1,1,1,1,0,1,0,0,0,1,1]) ((ow Tryz.f206 [1,1,1,1,1,1,1,1,1,1,1,1,1,0,1,0,0,0,1,1]).toList.drop 1),.inBlock 4,.code (cw Tryz.f206 [1,1,1,1,1,1,1,1,1,1,1,1,1,0,1,0,1]),.inBlock 1,.code (cw Tryz.f206 [1,1,1,1,1,1,1,1,1,1,1,1,1,1])],[],none⟩],[.flat false [vi p.d1,.sl yU p.d2,vi d3],.flat false [.int .u8 false d4,.int .u8 false d5,.int .u8 false d6,.int .u8 false d7,.int .u8 false d8,.int .u8 false d9,.int .u8 false fD,.int .u8 false gX],.flat false [vi p.Gl,vi p.d13,vi p.d14,vi p.mA,vi p.E9],.flat false [vi p.XI,vi p.XH,vi p.JL,vi p.d20,vi p.d21,vi p.d22,vi p.d23,vi p.d24,.bi true],.flat false [vi p.Jc,vi p.Jx,vi p.d27,vi p.d28,vi p.d29,vi p.d30,vi p.d31,vi p.Jj,.bi true],.flat false [vi p.CZ,.sl yU p.Cp],.dead]⟩
def t50(A:a_)(bN:Int)(bB:List Int)(cTime:Int)(cPos:Int)(cMode:Int)(cNext:Int)(cMember:Int):LT ((Int×Int×(Int×Int×Int×Int×Int)×Int×List Int)×Int) Se:=.need (A.k (@tt ((Int×List Int))) (bN,bB)) (.br (A.c .neq (A.k kD (bN,bB)) 0) (.ret ((0,0,(0,0,0,0,0),0,([]:List Int)),(A.k kD (bN,bB)))) (.need (A.k (@tt ((Int×Int×Int×Int×Int)×Int)) ((cTime,cPos,cMode,cNext,cMember),8)) (.br (A.c .neq (A.k jZ ((cTime,cPos,cMode,cNext,cMember),8)) 0) (.ret ((0,0,(0,0,0,0,0),0,([]:List Int)),40)) (.need (A.k (@tt ((Int×List Int)×Int×Int)) ((bN,bB),0,2)) (.br (A.c .neq (A.k aK ((bN,bB),0,2)).2 0) (.need (A.k (@tt (Int×Int)) (bN,1)) (.br (A.not (A.k kv (bN,1))) (.ret ((0,0,(0,0,0,0,0),0,([]:List Int)),51)) (.need (A.k (@tt ((Int×List Int)×Int×Int)) ((bN,bB),0,3)) (.br (A.c .neq (A.k aK ((bN,bB),0,3)).2 0) (.need (A.k (@tt ((Int×List Int)×Int×Int)) ((bN,bB),0,8)) (.br (A.c .neq (A.k aK ((bN,bB),0,8)).2 0) (.need (A.k (@tt ((Int×List Int)×Int×Int)) ((bN,bB),0,3)) (.br (A.c .neq (A.k aK ((bN,bB),0,3)).2 0) (.more (.c0 ⟨0,bN,bB,cTime,cPos,cMode,cNext,cMember,0,0,0,0,0,0,0,0,bN,bB,0,1,0,0,0,0,0,0,0,0⟩)) (.more (.c0 ⟨(A.v .i64 (A.k aK ((bN,bB),0,3)).1),bN,bB,cTime,cPos,cMode,cNext,cMember,0,0,0,0,0,0,0,0,bN,bB,3,1,0,0,0,0,0,0,0,0⟩)))) (.need (A.k (@tt ((Int×List Int)×Int×Int)) ((bN,bB),8,3)) (.br (A.c .neq (A.k aK ((bN,bB),8,3)).2 0) (.more (.c0 ⟨0,bN,bB,cTime,cPos,cMode,cNext,cMember,0,0,0,0,0,0,0,0,bN,bB,8,1,0,(A.v .i64 (A.k aK ((bN,bB),0,8)).1),0,0,0,0,0,0⟩)) (.more (.c0 ⟨(A.v .i64 (A.k aK ((bN,bB),8,3)).1),bN,bB,cTime,cPos,cMode,cNext,cMember,0,0,0,0,0,0,0,0,bN,bB,11,1,0,(A.v .i64 (A.k aK ((bN,bB),0,8)).1),0,0,0,0,0,0⟩)))))) (.need (A.k (@tt ((Int×List Int)×Int×Int)) ((bN,bB),3,8)) (.br (A.c .neq (A.k aK ((bN,bB),3,8)).2 0) (.need (A.k (@tt ((Int×List Int)×Int×Int)) ((bN,bB),3,3)) (.br (A.c .neq (A.k aK ((bN,bB),3,3)).2 0) (.more (.c0 ⟨0,bN,bB,cTime,cPos,cMode,cNext,cMember,0,0,0,0,0,0,0,0,bN,bB,3,1,0,0,0,0,0,0,(A.v .i64 (A.k aK ((bN,bB),0,3)).1),0⟩)) (.more (.c0 ⟨(A.v .i64 (A.k aK ((bN,bB),3,3)).1),bN,bB,cTime,cPos,cMode,cNext,cMember,0,0,0,0,0,0,0,0,bN,bB,6,1,0,0,0,0,0,0,(A.v .i64 (A.k aK ((bN,bB),0,3)).1),0⟩)))) (.need (A.k (@tt ((Int×List Int)×Int×Int)) ((bN,bB),11,3)) (.br (A.c .neq (A.k aK ((bN,bB),11,3)).2 0) (.more (.c0 ⟨0,bN,bB,cTime,cPos,cMode,cNext,cMember,0,0,0,0,0,0,0,0,bN,bB,11,1,0,(A.v .i64 (A.k aK ((bN,bB),3,8)).1),0,0,0,0,(A.v .i64 (A.k aK ((bN,bB),0,3)).1),0⟩)) (.more (.c0 ⟨(A.v .i64 (A.k aK ((bN,bB),11,3)).1),bN,bB,cTime,cPos,cMode,cNext,cMember,0,0,0,0,0,0,0,0,bN,bB,14,1,0,(A.v .i64 (A.k aK ((bN,bB),3,8)).1),0,0,0,0,(A.v .i64 (A.k aK ((bN,bB),0,3)).1),0⟩)))))))))) (.need (A.k (@tt (Int×Int)) (bN,(A.b .add .i64 (A.v .i64 (A.k aK ((bN,bB),0,2)).1) 1))) (.br (A.not (A.k kv (bN,(A.b .add .i64 (A.v .i64 (A.k aK ((bN,bB),0,2)).1) 1)))) (.ret ((0,0,(0,0,0,0,0),0,([]:List Int)),51)) (.br (A.c .eql (A.b .add .i64 (A.v .i64 (A.k aK ((bN,bB),0,2)).1) 1) 1) (.need (A.k (@tt ((Int×List Int)×Int×Int)) ((bN,bB),2,3)) (.br (A.c .neq (A.k aK ((bN,bB),2,3)).2 0) (.need (A.k (@tt ((Int×List Int)×Int×Int)) ((bN,bB),2,8)) (.br (A.c .neq (A.k aK ((bN,bB),2,8)).2 0) (.need (A.k (@tt ((Int×List Int)×Int×Int)) ((bN,bB),2,3)) (.br (A.c .neq (A.k aK ((bN,bB),2,3)).2 0) (.more (.c0 ⟨0,bN,bB,cTime,cPos,cMode,cNext,cMember,0,0,0,0,0,0,0,0,bN,bB,2,(A.b .add .i64 (A.v .i64 (A.k aK ((bN,bB),0,2)).1) 1),0,0,0,0,0,0,0,0⟩)) (.more (.c0 ⟨(A.v .i64 (A.k aK ((bN,bB),2,3)).1),bN,bB,cTime,cPos,cMode,cNext,cMember,0,0,0,0,0,0,0,0,bN,bB,5,(A.b .add .i64 (A.v .i64 (A.k aK ((bN,bB),0,2)).1) 1),0,0,0,0,0,0,0,0⟩)))) (.need (A.k (@tt ((Int×List Int)×Int×Int)) ((bN,bB),10,3)) (.br (A.c .neq (A.k aK ((bN,bB),10,3)).2 0) (.more (.c0 ⟨0,bN,bB,cTime,cPos,cMode,cNext,cMember,0,0,0,0,0,0,0,0,bN,bB,10,(A.b .add .i64 (A.v .i64 (A.k aK ((bN,bB),0,2)).1) 1),0,(A.v .i64 (A.k aK ((bN,bB),2,8)).1),0,0,0,0,0,0⟩)) (.more (.c0 ⟨(A.v .i64 (A.k aK ((bN,bB),10,3)).1),bN,bB,cTime,cPos,cMode,cNext,cMember,0,0,0,0,0,0,0,0,bN,bB,13,(A.b .add .i64 (A.v .i64 (A.k aK ((bN,bB),0,2)).1) 1),0,(A.v .i64 (A.k aK ((bN,bB),2,8)).1),0,0,0,0,0,0⟩)))))) (.need (A.k (@tt ((Int×List Int)×Int×Int)) ((bN,bB),5,8)) (.br (A.c .neq (A.k aK ((bN,bB),5,8)).2 0) (.need (A.k (@tt ((Int×List Int)×Int×Int)) ((bN,bB),5,3)) (.br (A.c .neq (A.k aK ((bN,bB),5,3)).2 0) (.more (.c0 ⟨0,bN,bB,cTime,cPos,cMode,cNext,cMember,0,0,0,0,0,0,0,0,bN,bB,5,(A.b .add .i64 (A.v .i64 (A.k aK ((bN,bB),0,2)).1) 1),0,0,0,0,0,0,(A.v .i64 (A.k aK ((bN,bB),2,3)).1),0⟩)) (.more (.c0 ⟨(A.v .i64 (A.k aK ((bN,bB),5,3)).1),bN,bB,cTime,cPos,cMode,cNext,cMember,0,0,0,0,0,0,0,0,bN,bB,8,(A.b .add .i64 (A.v .i64 (A.k aK ((bN,bB),0,2)).1) 1),0,0,0,0,0,0,(A.v .i64 (A.k aK ((bN,bB),2,3)).1),0⟩)))) (.need (A.k (@tt ((Int×List Int)×Int×Int)) ((bN,bB),13,3)) (.br (A.c .neq (A.k aK ((bN,bB),13,3)).2 0) (.more (.c0 ⟨0,bN,bB,cTime,cPos,cMode,cNext,cMember,0,0,0,0,0,0,0,0,bN,bB,13,(A.b .add .i64 (A.v .i64 (A.k aK ((bN,bB),0,2)).1) 1),0,(A.v .i64 (A.k aK ((bN,bB),5,8)).1),0,0,0,0,(A.v .i64 (A.k aK ((bN,bB),2,3)).1),0⟩)) (.more (.c0 ⟨(A.v .i64 (A.k aK ((bN,bB),13,3)).1),bN,bB,cTime,cPos,cMode,cNext,cMember,0,0,0,0,0,0,0,0,bN,bB,16,(A.b .add .i64 (A.v .i64 (A.k aK ((bN,bB),0,2)).1) 1),0,(A.v .i64 (A.k aK ((bN,bB),5,8)).1),0,0,0,0,(A.v .i64 (A.k aK ((bN,bB),2,3)).1),0⟩)))))))) (.br (A.c .eql (A.b .add .i64 (A.v .i64 (A.k aK ((bN,bB),0,2)).1) 1) 2) (.need (A.k (@tt ((Int×List Int)×Int×Int)) ((bN,bB),2,3)) (.br (A.c .neq (A.k aK ((bN,bB),2,3)).2 0) (.need (A.k (@tt ((Int×Int×Int×Int×Int))) (cTime,cPos,cMode,cNext,cMember)) (.more (.c1 ⟨0,bN,bB,cTime,cPos,cMode,cNext,cMember,0,0,0,0,0,0,0,0,bN,bB,2,(A.b .add .i64 (A.v .i64 (A.k aK ((bN,bB),0,2)).1) 1),0,0,0,0,0,0,0,(A.k qO (cTime,cPos,cMode,cNext,cMember)).1.1,(A.k qO (cTime,cPos,cMode,cNext,cMember)).1.2⟩))) (.need (A.k (@tt ((Int×Int×Int×Int×Int))) (cTime,cPos,cMode,cNext,cMember)) (.more (.c1 ⟨0,bN,bB,cTime,cPos,cMode,cNext,cMember,0,0,0,0,0,0,0,0,bN,bB,5,(A.b .add .i64 (A.v .i64 (A.k aK ((bN,bB),0,2)).1) 1),(A.v .i64 (A.k aK ((bN,bB),2,3)).1),0,0,0,0,0,0,(A.k qO (cTime,cPos,cMode,cNext,cMember)).1.1,(A.k qO (cTime,cPos,cMode,cNext,cMember)).1.2⟩))))) (.need (A.k (@tt ((Int×List Int)×Int×Int)) ((bN,bB),2,3)) (.br (A.c .neq (A.k aK ((bN,bB),2,3)).2 0) (.eqs (IntKind.i64=IntKind.i64∧((A.b .sub .i64 (A.b .add .i64 (A.v .i64 (A.k aK ((bN,bB),0,2)).1) 1) 2):Int)=(A.b .sub .i64 (A.b .add .i64 (A.v .i64 (A.k aK ((bN,bB),0,2)).1) 1) 2)) (.eqs (IntKind.i64=IntKind.i64∧((A.b .add .i64 (A.v .i64 (A.k aK ((bN,bB),0,2)).1) 1):Int)=(A.b .add .i64 (A.v .i64 (A.k aK ((bN,bB),0,2)).1) 1)) (.eqs ((.ptr 4 0:AV)=.ptr 4 0) (.eqs ((.ptr 3 0:AV)=.ptr 3 0) (.need (A.k (@tt ((Int×List Int)×Int×Int)) ((bN,bB),2,(A.b .sub .i64 (A.b .add .i64 (A.v .i64 (A.k aK ((bN,bB),0,2)).1) 1) 2))) (.br (A.c .neq (A.k aK ((bN,bB),2,(A.b .sub .i64 (A.b .add .i64 (A.v .i64 (A.k aK ((bN,bB),0,2)).1) 1) 2))).2 0) (.eqs ((.ptr 4 1:AV)=.ptr 4 1) (.more (.c0 ⟨0,bN,bB,cTime,cPos,cMode,cNext,cMember,0,0,0,0,0,0,0,0,bN,bB,2,(A.b .add .i64 (A.v .i64 (A.k aK ((bN,bB),0,2)).1) 1),0,0,0,0,0,0,0,0⟩))) (.eqs ((.ptr 4 1:AV)=.ptr 4 1) (.more (.c0 ⟨(A.v .i64 (A.k aK ((bN,bB),2,(A.b .sub .i64 (A.b .add .i64 (A.v .i64 (A.k aK ((bN,bB),0,2)).1) 1) 2))).1),bN,bB,cTime,cPos,cMode,cNext,cMember,0,0,0,0,0,0,0,0,bN,bB,(A.b .add .i64 2 (A.b .sub .i64 (A.b .add .i64 (A.v .i64 (A.k aK ((bN,bB),0,2)).1) 1) 2)),(A.b .add .i64 (A.v .i64 (A.k aK ((bN,bB),0,2)).1) 1),0,0,0,0,0,0,0,0⟩))))))))) (.eqs (IntKind.i64=IntKind.i64∧((A.b .sub .i64 (A.b .add .i64 (A.v .i64 (A.k aK ((bN,bB),0,2)).1) 1) 2):Int)=(A.b .sub .i64 (A.b .add .i64 (A.v .i64 (A.k aK ((bN,bB),0,2)).1) 1) 2)) (.eqs (IntKind.i64=IntKind.i64∧((A.b .add .i64 (A.v .i64 (A.k aK ((bN,bB),0,2)).1) 1):Int)=(A.b .add .i64 (A.v .i64 (A.k aK ((bN,bB),0,2)).1) 1)) (.eqs ((.ptr 4 0:AV)=.ptr 4 0) (.eqs ((.ptr 3 0:AV)=.ptr 3 0) (.need (A.k (@tt ((Int×List Int)×Int×Int)) ((bN,bB),5,(A.b .sub .i64 (A.b .add .i64 (A.v .i64 (A.k aK ((bN,bB),0,2)).1) 1) 2))) (.br (A.c .neq (A.k aK ((bN,bB),5,(A.b .sub .i64 (A.b .add .i64 (A.v .i64 (A.k aK ((bN,bB),0,2)).1) 1) 2))).2 0) (.eqs ((.ptr 4 1:AV)=.ptr 4 1) (.more (.c0 ⟨0,bN,bB,cTime,cPos,cMode,cNext,cMember,0,0,0,0,0,0,0,0,bN,bB,5,(A.b .add .i64 (A.v .i64 (A.k aK ((bN,bB),0,2)).1) 1),(A.v .i64 (A.k aK ((bN,bB),2,3)).1),0,0,0,0,0,0,0⟩))) (.eqs ((.ptr 4 1:AV)=.ptr 4 1) (.more (.c0 ⟨(A.v .i64 (A.k aK ((bN,bB),5,(A.b .sub .i64 (A.b .add .i64 (A.v .i64 (A.k aK ((bN,bB),0,2)).1) 1) 2))).1),bN,bB,cTime,cPos,cMode,cNext,cMember,0,0,0,0,0,0,0,0,bN,bB,(A.b .add .i64 5 (A.b .sub .i64 (A.b .add .i64 (A.v .i64 (A.k aK ((bN,bB),0,2)).1) 1) 2)),(A.b .add .i64 (A.v .i64 (A.k aK ((bN,bB),0,2)).1) 1),(A.v .i64 (A.k aK ((bN,bB),2,3)).1),0,0,0,0,0,0,0⟩))))))))))))))))))))
def Fh(A:a_):Se→LT ((Int×Int×(Int×Int×Int×Int×Int)×Int×List Int)×Int) Se
 | .c0 p=>.br (A.c .neq p.a0 0) (.ret ((0,0,(0,0,0,0,0),0,([]:List Int)),51)) (.need (A.k (@tt ((Int×List Int)×Int×(Int×List Int))) ((p.a1,p.a2),p.mq,p.a27,([]:List Int))) (.br (A.c .neq (A.k bI ((p.a1,p.a2),p.mq,p.a27,([]:List Int))).2.2 0) (.ret ((0,0,(0,0,0,0,0),0,([]:List Int)),(A.k bI ((p.a1,p.a2),p.mq,p.a27,([]:List Int))).2.2)) (.br (A.c .eql p.mq 2) (.more (.c2 ⟨p.a3,p.a4,p.a5,p.a6,p.a7,(A.k bI ((p.a1,p.a2),p.mq,p.a27,([]:List Int))).1.1,(A.k bI ((p.a1,p.a2),p.mq,p.a27,([]:List Int))).1.2,p.a3,p.a4,p.a5,p.a6,p.a7,p.a8,p.a9,p.bV,p.dT,p.a12,p.lk,p.ku,p.qs,p.mq,p.a20,p.a21,p.a22,p.a23,p.a24,p.a25,p.a26,(A.k bI ((p.a1,p.a2),p.mq,p.a27,([]:List Int))).2.1.1,(A.k bI ((p.a1,p.a2),p.mq,p.a27,([]:List Int))).2.1.2⟩ 0 p.qU 0 0 0 0 0 0 0 0)) (.br (A.c .eql p.mq 4) (.more (.c3 ⟨(A.k bI ((p.a1,p.a2),p.mq,p.a27,([]:List Int))).1.1,(A.k bI ((p.a1,p.a2),p.mq,p.a27,([]:List Int))).1.2,p.a3,p.a4,p.a5,p.a6,p.a7,p.a8,p.a9,p.bV,p.dT,p.a12,p.lk,p.ku,p.qs,p.mq,p.a20,p.a21,p.a22,p.a23,p.a24,p.a25,p.a26,(A.k bI ((p.a1,p.a2),p.mq,p.a27,([]:List Int))).2.1.1,(A.k bI ((p.a1,p.a2),p.mq,p.a27,([]:List Int))).2.1.2⟩ 0 55 0 0 0 0 0 0 0 0)) (.br (A.c .eql p.mq 3) (.need (A.k (@tt ((Int×List Int))) (A.k bI ((p.a1,p.a2),p.mq,p.a27,([]:List Int))).2.1) (.br (A.c .neq (A.k iE (A.k bI ((p.a1,p.a2),p.mq,p.a27,([]:List Int))).2.1).2 0) (.ret ((0,0,(0,0,0,0,0),0,([]:List Int)),51)) (.need (A.k (@tt ((Int×Int×(Int×Int×Int×Int×Int)×Int×List Int))) (p.mq,p.a20,(A.k iE (A.k bI ((p.a1,p.a2),p.mq,p.a27,([]:List Int))).2.1).1,p.a26,([]:List Int))) (.br (A.c .neq (A.k pP (p.mq,p.a20,(A.k iE (A.k bI ((p.a1,p.a2),p.mq,p.a27,([]:List Int))).2.1).1,p.a26,([]:List Int))) 0) (.ret ((0,0,(0,0,0,0,0),0,([]:List Int)),51)) (.ret ((p.mq,p.a20,(A.k iE (A.k bI ((p.a1,p.a2),p.mq,p.a27,([]:List Int))).2.1).1,p.a26,([]:List Int)),0)))))) (.need (A.k (@tt ((Int×Int×(Int×Int×Int×Int×Int)×Int×List Int))) (p.mq,p.a20,(p.a21,p.a22,p.a23,p.a24,p.a25),p.a26,([]:List Int))) (.br (A.c .neq (A.k pP (p.mq,p.a20,(p.a21,p.a22,p.a23,p.a24,p.a25),p.a26,([]:List Int))) 0) (.ret ((0,0,(0,0,0,0,0),0,([]:List Int)),51)) (.ret ((p.mq,p.a20,(p.a21,p.a22,p.a23,p.a24,p.a25),p.a26,([]:List Int)),0)))))))))
 | .c1 p=>.br (A.c .neq p.b0 0) (.ret ((0,0,(0,0,0,0,0),0,([]:List Int)),51)) (.need (A.k (@tt ((Int×List Int)×Int×(Int×List Int))) ((p.b1,p.b2),p.lH,p.nP,p.nQ)) (.br (A.c .neq (A.k bI ((p.b1,p.b2),p.lH,p.nP,p.nQ)).2.2 0) (.ret ((0,0,(0,0,0,0,0),0,([]:List Int)),(A.k bI ((p.b1,p.b2),p.lH,p.nP,p.nQ)).2.2)) (.br (A.c .eql p.lH 2) (.more (.c2 ⟨p.b3,p.b4,p.b5,p.b6,p.b7,(A.k bI ((p.b1,p.b2),p.lH,p.nP,p.nQ)).1.1,(A.k bI ((p.b1,p.b2),p.lH,p.nP,p.nQ)).1.2,p.b3,p.b4,p.b5,p.b6,p.b7,p.b8,p.b9,p.b10,p.b11,p.b12,p.b13,p.sn,p.zQ,p.lH,p.mM,p.kN,p.kT,p.nY,p.nX,p.nZ,p.qT,(A.k bI ((p.b1,p.b2),p.lH,p.nP,p.nQ)).2.1.1,(A.k bI ((p.b1,p.b2),p.lH,p.nP,p.nQ)).2.1.2⟩ 0 p.sR 0 0 0 0 0 0 0 0)) (.br (A.c .eql p.lH 4) (.more (.c3 ⟨(A.k bI ((p.b1,p.b2),p.lH,p.nP,p.nQ)).1.1,(A.k bI ((p.b1,p.b2),p.lH,p.nP,p.nQ)).1.2,p.b3,p.b4,p.b5,p.b6,p.b7,p.b8,p.b9,p.b10,p.b11,p.b12,p.b13,p.sn,p.zQ,p.lH,p.mM,p.kN,p.kT,p.nY,p.nX,p.nZ,p.qT,(A.k bI ((p.b1,p.b2),p.lH,p.nP,p.nQ)).2.1.1,(A.k bI ((p.b1,p.b2),p.lH,p.nP,p.nQ)).2.1.2⟩ 0 55 0 0 0 0 0 0 0 0)) (.br (A.c .eql p.lH 3) (.need (A.k (@tt ((Int×List Int))) (A.k bI ((p.b1,p.b2),p.lH,p.nP,p.nQ)).2.1) (.br (A.c .neq (A.k iE (A.k bI ((p.b1,p.b2),p.lH,p.nP,p.nQ)).2.1).2 0) (.ret ((0,0,(0,0,0,0,0),0,([]:List Int)),51)) (.need (A.k (@tt ((Int×Int×(Int×Int×Int×Int×Int)×Int×List Int))) (p.lH,p.mM,(A.k iE (A.k bI ((p.b1,p.b2),p.lH,p.nP,p.nQ)).2.1).1,p.qT,([]:List Int))) (.br (A.c .neq (A.k pP (p.lH,p.mM,(A.k iE (A.k bI ((p.b1,p.b2),p.lH,p.nP,p.nQ)).2.1).1,p.qT,([]:List Int))) 0) (.ret ((0,0,(0,0,0,0,0),0,([]:List Int)),51)) (.ret ((p.lH,p.mM,(A.k iE (A.k bI ((p.b1,p.b2),p.lH,p.nP,p.nQ)).2.1).1,p.qT,([]:List Int)),0)))))) (.need (A.k (@tt ((Int×Int×(Int×Int×Int×Int×Int)×Int×List Int))) (p.lH,p.mM,(p.kN,p.kT,p.nY,p.nX,p.nZ),p.qT,([]:List Int))) (.br (A.c .neq (A.k pP (p.lH,p.mM,(p.kN,p.kT,p.nY,p.nX,p.nZ),p.qT,([]:List Int))) 0) (.ret ((0,0,(0,0,0,0,0),0,([]:List Int)),51)) (.ret ((p.lH,p.mM,(p.kN,p.kT,p.nY,p.nX,p.nZ),p.qT,([]:List Int)),0)))))))))
 | .c2 p c0 c8 c9 c10 c11 c12 c13 c14 ni c16=>.br (A.c .leq (A.b .add .i64 c8 8) p.c6) (.br (A.c .lss c0 8) (.need (A.k (@tt ((Int×List Int)×Int×Int)) ((p.c6,p.c7),c8,8)) (.br (A.c .neq (A.k aK ((p.c6,p.c7),c8,8)).2 0) (.need (A.and (A.c .leq 0 c0) (A.c .lss c0 8)) (.more (.c2 p (A.b .add .i64 c0 1) c8 (A.n yU (A.set [c9,c10,c11,c12,c13,c14,ni,c16] c0 (0:Int)) 0:Int) (A.n yU (A.set [c9,c10,c11,c12,c13,c14,ni,c16] c0 (0:Int)) 1:Int) (A.n yU (A.set [c9,c10,c11,c12,c13,c14,ni,c16] c0 (0:Int)) 2:Int) (A.n yU (A.set [c9,c10,c11,c12,c13,c14,ni,c16] c0 (0:Int)) 3:Int) (A.n yU (A.set [c9,c10,c11,c12,c13,c14,ni,c16] c0 (0:Int)) 4:Int) (A.n yU (A.set [c9,c10,c11,c12,c13,c14,ni,c16] c0 (0:Int)) 5:Int) (A.n yU (A.set [c9,c10,c11,c12,c13,c14,ni,c16] c0 (0:Int)) 6:Int) (A.n yU (A.set [c9,c10,c11,c12,c13,c14,ni,c16] c0 (0:Int)) 7:Int)))) (.need (A.and (A.c .leq 0 c0) (A.c .lss c0 8)) (.more (.c2 p (A.b .add .i64 c0 1) (A.b .add .i64 c8 8) (A.n yU (A.set [c9,c10,c11,c12,c13,c14,ni,c16] c0 (A.v .u8 (A.v .i64 (A.k aK ((p.c6,p.c7),c8,8)).1))) 0:Int) (A.n yU (A.set [c9,c10,c11,c12,c13,c14,ni,c16] c0 (A.v .u8 (A.v .i64 (A.k aK ((p.c6,p.c7),c8,8)).1))) 1:Int) (A.n yU (A.set [c9,c10,c11,c12,c13,c14,ni,c16] c0 (A.v .u8 (A.v .i64 (A.k aK ((p.c6,p.c7),c8,8)).1))) 2:Int) (A.n yU (A.set [c9,c10,c11,c12,c13,c14,ni,c16] c0 (A.v .u8 (A.v .i64 (A.k aK ((p.c6,p.c7),c8,8)).1))) 3:Int) (A.n yU (A.set [c9,c10,c11,c12,c13,c14,ni,c16] c0 (A.v .u8 (A.v .i64 (A.k aK ((p.c6,p.c7),c8,8)).1))) 4:Int) (A.n yU (A.set [c9,c10,c11,c12,c13,c14,ni,c16] c0 (A.v .u8 (A.v .i64 (A.k aK ((p.c6,p.c7),c8,8)).1))) 5:Int) (A.n yU (A.set [c9,c10,c11,c12,c13,c14,ni,c16] c0 (A.v .u8 (A.v .i64 (A.k aK ((p.c6,p.c7),c8,8)).1))) 6:Int) (A.n yU (A.set [c9,c10,c11,c12,c13,c14,ni,c16] c0 (A.v .u8 (A.v .i64 (A.k aK ((p.c6,p.c7),c8,8)).1))) 7:Int)))))) (.need (A.and (A.c .eql c0 c0) (A.and (A.c .leq 0 c0) (A.c .leq c0 140737488355328))) (.eqs ((.ptr 4 2:AV)=.ptr 4 2) (.eqs ((.agg [.int .i64 false p.zT,.int .i64 false p.Kq,.int .i64 false p.c19,.int .i64 false p.c20,.int .i64 false p.c21]:AV)=.agg [.int .i64 false p.c1,.int .i64 false p.c2,.int .i64 false p.c3,.int .i64 false p.c4,.int .i64 false p.c5]) (.need (A.k (@tt ((Int×Int×(Int×Int×Int×Int×Int)×Int×List Int))) (p.E5,p.c31,(p.c1,p.c2,p.c3,p.c4,p.c5),p.c37,(A.spl (A.r c0 (0:Int)) 0 (A.s [c9,c10,c11,c12,c13,c14,ni,c16] 0 (A.mn (A.l [c9,c10,c11,c12,c13,c14,ni,c16]) (A.l (A.r c0 (0:Int)))))))) (.br (A.c .neq (A.k pP (p.E5,p.c31,(p.c1,p.c2,p.c3,p.c4,p.c5),p.c37,(A.spl (A.r c0 (0:Int)) 0 (A.s [c9,c10,c11,c12,c13,c14,ni,c16] 0 (A.mn (A.l [c9,c10,c11,c12,c13,c14,ni,c16]) (A.l (A.r c0 (0:Int)))))))) 0) (.ret ((0,0,(0,0,0,0,0),0,([]:List Int)),51)) (.ret ((p.E5,p.c31,(p.c1,p.c2,p.c3,p.c4,p.c5),p.c37,(A.spl (A.r c0 (0:Int)) 0 (A.s [c9,c10,c11,c12,c13,c14,ni,c16] 0 (A.mn (A.l [c9,c10,c11,c12,c13,c14,ni,c16]) (A.l (A.r c0 (0:Int))))))),0)))))))) (.need (A.and (A.c .eql c0 c0) (A.and (A.c .leq 0 c0) (A.c .leq c0 140737488355328))) (.eqs ((.ptr 4 2:AV)=.ptr 4 2) (.eqs ((.agg [.int .i64 false p.zT,.int .i64 false p.Kq,.int .i64 false p.c19,.int .i64 false p.c20,.int .i64 false p.c21]:AV)=.agg [.int .i64 false p.c1,.int .i64 false p.c2,.int .i64 false p.c3,.int .i64 false p.c4,.int .i64 false p.c5]) (.need (A.k (@tt ((Int×Int×(Int×Int×Int×Int×Int)×Int×List Int))) (p.E5,p.c31,(p.c1,p.c2,p.c3,p.c4,p.c5),p.c37,(A.spl (A.r c0 (0:Int)) 0 (A.s [c9,c10,c11,c12,c13,c14,ni,c16] 0 (A.mn (A.l [c9,c10,c11,c12,c13,c14,ni,c16]) (A.l (A.r c0 (0:Int)))))))) (.br (A.c .neq (A.k pP (p.E5,p.c31,(p.c1,p.c2,p.c3,p.c4,p.c5),p.c37,(A.spl (A.r c0 (0:Int)) 0 (A.s [c9,c10,c11,c12,c13,c14,ni,c16] 0 (A.mn (A.l [c9,c10,c11,c12,c13,c14,ni,c16]) (A.l (A.r c0 (0:Int)))))))) 0) (.ret ((0,0,(0,0,0,0,0),0,([]:List Int)),51)) (.ret ((p.E5,p.c31,(p.c1,p.c2,p.c3,p.c4,p.c5),p.c37,(A.spl (A.r c0 (0:Int)) 0 (A.s [c9,c10,c11,c12,c13,c14,ni,c16] 0 (A.mn (A.l [c9,c10,c11,c12,c13,c14,ni,c16]) (A.l (A.r c0 (0:Int))))))),0)))))))
 | .c3 p d0 d3 d4 d5 d6 d7 d8 d9 fD gX=>.br (A.c .leq (A.b .add .i64 d3 8) p.d1) (.br (A.c .lss d0 8) (.need (A.k (@tt ((Int×List Int)×Int×Int)) ((p.d1,p.d2),d3,8)) (.br (A.c .neq (A.k aK ((p.d1,p.d2),d3,8)).2 0) (.need (A.and (A.c .leq 0 d0) (A.c .lss d0 8)) (.more (.c3 p (A.b .add .i64 d0 1) d3 (A.n yU (A.set [d4,d5,d6,d7,d8,d9,fD,gX] d0 (0:Int)) 0:Int) (A.n yU (A.set [d4,d5,d6,d7,d8,d9,fD,gX] d0 (0:Int)) 1:Int) (A.n yU (A.set [d4,d5,d6,d7,d8,d9,fD,gX] d0 (0:Int)) 2:Int) (A.n yU (A.set [d4,d5,d6,d7,d8,d9,fD,gX] d0 (0:Int)) 3:Int) (A.n yU (A.set [d4,d5,d6,d7,d8,d9,fD,gX] d0 (0:Int)) 4:Int) (A.n yU (A.set [d4,d5,d6,d7,d8,d9,fD,gX] d0 (0:Int)) 5:Int) (A.n yU (A.set [d4,d5,d6,d7,d8,d9,fD,gX] d0 (0:Int)) 6:Int) (A.n yU (A.set [d4,d5,d6,d7,d8,d9,fD,gX] d0 (0:Int)) 7:Int)))) (.need (A.and (A.c .leq 0 d0) (A.c .lss d0 8)) (.more (.c3 p (A.b .add .i64 d0 1) (A.b .add .i64 d3 8) (A.n yU (A.set [d4,d5,d6,d7,d8,d9,fD,gX] d0 (A.v .u8 (A.v .i64 (A.k aK ((p.d1,p.d2),d3,8)).1))) 0:Int) (A.n yU (A.set [d4,d5,d6,d7,d8,d9,fD,gX] d0 (A.v .u8 (A.v .i64 (A.k aK ((p.d1,p.d2),d3,8)).1))) 1:Int) (A.n yU (A.set [d4,d5,d6,d7,d8,d9,fD,gX] d0 (A.v .u8 (A.v .i64 (A.k aK ((p.d1,p.d2),d3,8)).1))) 2:Int) (A.n yU (A.set [d4,d5,d6,d7,d8,d9,fD,gX] d0 (A.v .u8 (A.v .i64 (A.k aK ((p.d1,p.d2),d3,8)).1))) 3:Int) (A.n yU (A.set [d4,d5,d6,d7,d8,d9,fD,gX] d0 (A.v .u8 (A.v .i64 (A.k aK ((p.d1,p.d2),d3,8)).1))) 4:Int) (A.n yU (A.set [d4,d5,d6,d7,d8,d9,fD,gX] d0 (A.v .u8 (A.v .i64 (A.k aK ((p.d1,p.d2),d3,8)).1))) 5:Int) (A.n yU (A.set [d4,d5,d6,d7,d8,d9,fD,gX] d0 (A.v .u8 (A.v .i64 (A.k aK ((p.d1,p.d2),d3,8)).1))) 6:Int) (A.n yU (A.set [d4,d5,d6,d7,d8,d9,fD,gX] d0 (A.v .u8 (A.v .i64 (A.k aK ((p.d1,p.d2),d3,8)).1))) 7:Int)))))) (.need (A.and (A.c .eql d0 d0) (A.and (A.c .leq 0 d0) (A.c .leq d0 140737488355328))) (.need (A.k (@tt ((Int×List Int))) (p.CZ,p.Cp)) (.br (A.c .neq (A.k iE (p.CZ,p.Cp)).2 0) (.ret ((0,0,(0,0,0,0,0),0,([]:List Int)),51)) (.need (A.k (@tt ((Int×Int×(Int×Int×Int×Int×Int)×Int×List Int))) (p.Jc,p.Jx,(A.k iE (p.CZ,p.Cp)).1,p.Jj,(A.spl (A.r d0 (0:Int)) 0 (A.s [d4,d5,d6,d7,d8,d9,fD,gX] 0 (A.mn (A.l [d4,d5,d6,d7,d8,d9,fD,gX]) (A.l (A.r d0 (0:Int)))))))) (.br (A.c .neq (A.k pP (p.Jc,p.Jx,(A.k iE (p.CZ,p.Cp)).1,p.Jj,(A.spl (A.r d0 (0:Int)) 0 (A.s [d4,d5,d6,d7,d8,d9,fD,gX] 0 (A.mn (A.l [d4,d5,d6,d7,d8,d9,fD,gX]) (A.l (A.r d0 (0:Int)))))))) 0) (.ret ((0,0,(0,0,0,0,0),0,([]:List Int)),51)) (.ret ((p.Jc,p.Jx,(A.k iE (p.CZ,p.Cp)).1,p.Jj,(A.spl (A.r d0 (0:Int)) 0 (A.s [d4,d5,d6,d7,d8,d9,fD,gX] 0 (A.mn (A.l [d4,d5,d6,d7,d8,d9,fD,gX]) (A.l (A.r d0 (0:Int))))))),0)))))))) (.need (A.and (A.c .eql d0 d0) (A.and (A.c .leq 0 d0) (A.c .leq d0 140737488355328))) (.need (A.k (@tt ((Int×List Int))) (p.CZ,p.Cp)) (.br (A.c .neq (A.k iE (p.CZ,p.Cp)).2 0) (.ret ((0,0,(0,0,0,0,0),0,([]:List Int)),51)) (.need (A.k (@tt ((Int×Int×(Int×Int×Int×Int×Int)×Int×List Int))) (p.Jc,p.Jx,(A.k iE (p.CZ,p.Cp)).1,p.Jj,(A.spl (A.r d0 (0:Int)) 0 (A.s [d4,d5,d6,d7,d8,d9,fD,gX] 0 (A.mn (A.l [d4,d5,d6,d7,d8,d9,fD,gX]) (A.l (A.r d0 (0:Int)))))))) (.br (A.c .neq (A.k pP (p.Jc,p.Jx,(A.k iE (p.CZ,p.Cp)).1,p.Jj,(A.spl (A.r d0 (0:Int)) 0 (A.s [d4,d5,d6,d7,d8,d9,fD,gX] 0 (A.mn (A.l [d4,d5,d6,d7,d8,d9,fD,gX]) (A.l (A.r d0 (0:Int)))))))) 0) (.ret ((0,0,(0,0,0,0,0),0,([]:List Int)),51)) (.ret ((p.Jc,p.Jx,(A.k iE (p.CZ,p.Cp)).1,p.Jj,(A.spl (A.r d0 (0:Int)) 0 (A.s [d4,d5,d6,d7,d8,d9,fD,gX] 0 (A.mn (A.l [d4,d5,d6,d7,d8,d9,fD,gX]) (A.l (A.r d0 (0:Int))))))),0)))))))
theorem au{R Y:Type}{step:Y→LT R Y}{t:LT R Y}{r r':R}(h:r=r')(h2:aA step t r):aA step t r':=h▸h2
theorem Rs{S:List Int}(h:S.length=8):[S.getD 0 0,S.getD 1 0,S.getD 2 0,S.getD 3 0,S.getD 4 0,S.getD 5 0,S.getD 6 0,S.getD 7 0]=S:=by
 match S,h with
 | [_,_,_,_,_,_,_,_],_=>rfl
theorem vm(k:Nat):∀l:List Bool,aZ (k+1) l=aZ k l ++ [((ei ((l.drop (8*k)).take 8):Nat):Int)]:=by
 induction k with
 | zero=>intro l;rfl
 | succ k ih=>
   intro l
   rw[aZ,ih,aZ,List.cons_append,List.drop_drop,show 8+8*k=8*(k+1) from by omega]
theorem P7{m d a:Nat}{b:List Int}(hok:bC ((m:Int),b)=true)(hm:m=a+8*d)(hd:d≤8)(ha:a≤100):∀(j i:Nat) (p:Rk) (x0 x1 x2 x3 x4 x5 x6 x7:Int),p.c6=(m:Int)→p.c7=b→p.zT=p.c1→p.Kq=p.c2→p.c19=p.c3→p.c20=p.c4→p.c21=p.c5→ [x0,x1,x2,x3,x4,x5,x6,x7]=aZ i ((unpack m b).drop a)++List.replicate (8-i) 0→d-i=j→i≤d→
  aA (Fh aj) (.more (.c2 p (i:Int) ((a+8*i:Nat):Int) x0 x1 x2 x3 x4 x5 x6 x7)) (bif fO (p.E5,p.c31,(p.c1,p.c2,p.c3,p.c4,p.c5),p.c37,aZ d ((unpack m b).drop a)) then((p.E5,p.c31,(p.c1,p.c2,p.c3,p.c4,p.c5),p.c37,aZ d ((unpack m b).drop a)),0) else(cX,51)):=by
 intro j
 induction j with
 | zero=>
   intro i p x0 x1 x2 x3 x4 x5 x6 x7 h6 h7 iM h18 vF h20 h21 hR hj hi
   have:i=d:=by omega
   subst this
   have hdl:=da i ((unpack m b).drop a)
   have hD:(aj.spl (aj.r (i:Int) (0:Int)) 0 (aj.s [x0,x1,x2,x3,x4,x5,x6,x7] 0 (aj.mn (aj.l [x0,x1,x2,x3,x4,x5,x6,x7]) (aj.l (aj.r (i:Int) (0:Int))))):List Int)=aZ i ((unpack m b).drop a):=by
    rw[hR]
    have e1:aj.r (i:Int) (0:Int)=List.replicate i 0:=by rw[mY,Int.toNat_natCast]
    rw[e1]
    have e2:aj.mn (aj.l (aZ i ((unpack m b).drop a)++List.replicate (8-i) (0:Int))) (aj.l (List.replicate i (0:Int)))=(i:Int):=by
     show(if ((List.replicate i (0:Int)).length:Int)<((aZ i ((unpack m b).drop a)++List.replicate (8-i) (0:Int)).length:Int) then((List.replicate i (0:Int)).length:Int) else((aZ i ((unpack m b).drop a)++List.replicate (8-i) (0:Int)).length:Int))=_
     rw[List.length_append,hdl,List.length_replicate,List.length_replicate]
     split<;>omega
    have hT:(aZ i ((unpack m b).drop a)++List.replicate (8-i) (0:Int)).take i=aZ i ((unpack m b).drop a):=by rw[List.take_append_of_le_length (by omega),List.take_of_length_le (by omega)]
    rw[e2,mI,pz,Int.toNat_natCast,hT]
    show(List.replicate i (0:Int)).take 0++(aZ i ((unpack m b).drop a)).drop 0++(List.replicate i (0:Int)).drop (0+((aZ i ((unpack m b).drop a)).drop 0).length)=_
    rw[List.drop_zero,hdl,List.drop_replicate,show i-(0+i)=0 from by omega,List.replicate_zero,List.take_zero,List.nil_append,List.append_nil]
   rw[ak,Fh]
   refine(ah (by rw[h6,show aj.b .add .i64 ((a+8*i:Nat):Int) 8=((a+8*i+8:Nat):Int) from fC (j:=8) (by omega),kF];simp;omega)).2 ?_
   refine af.2 ⟨by rw[qk rfl,ij,ay,aQ,aQ];simp;omega,fo.2 ⟨rfl,fo.2 ⟨by rw[iM,h18,vF,h20,h21],af.2 ⟨rfl,?_⟩⟩⟩⟩
   have hchk:aj.k pP (p.E5,p.c31,(p.c1,p.c2,p.c3,p.c4,p.c5),p.c37,(aj.spl (aj.r (i:Int) (0:Int)) 0 (aj.s [x0,x1,x2,x3,x4,x5,x6,x7] 0 (aj.mn (aj.l [x0,x1,x2,x3,x4,x5,x6,x7]) (aj.l (aj.r (i:Int) (0:Int)))))))=bif fO (p.E5,p.c31,(p.c1,p.c2,p.c3,p.c4,p.c5),p.c37,aZ i ((unpack m b).drop a)) then 0 else 50:=by rw[hD];exact wN
   cases hf:fO (p.E5,p.c31,(p.c1,p.c2,p.c3,p.c4,p.c5),p.c37,aZ i ((unpack m b).drop a))
   ·rw[hf] at hchk
    exact(ai (dE (by rw[hchk];decide))).2 (.ret _)
   ·rw[hf] at hchk
    refine(ah (b_ hchk)).2 ?_
    exact bo (congrArg (fun z=>LT.ret ((p.E5,p.c31,(p.c1,p.c2,p.c3,p.c4,p.c5),p.c37,z),(0:Int))) hD) (.ret _)
 | succ j ih=>
   intro i p x0 x1 x2 x3 x4 x5 x6 x7 h6 h7 iM h18 vF h20 h21 hR hj hi
   have hmb:m≤4096:=by
    simp only[bC,Bool.and_eq_true,decide_eq_true_eq] at hok
    omega
   have hg:aj.k aK ((p.c6,p.c7),((a+8*i:Nat):Int),8)=(((bl (unpack m b) (a+8*i) 8:Nat):Int),0):=by
    rw[h6,h7];exact kl hok (w:=8) (by omega) (by decide) hmb
   have hf:=c_ (unpack m b) (a+8*i) 8
   have hv:aj.v .u8 (aj.v .i64 (aj.k aK ((p.c6,p.c7),((a+8*i:Nat):Int),8)).1)=((bl (unpack m b) (a+8*i) 8:Nat):Int):=by
    rw[hg,bd,bd,fV (by omega) (by omega),w8 (by omega) (by omega)]
   have hn8:aj.and (aj.c .leq 0 (i:Int)) (aj.c .lss (i:Int) 8)=true:=by rw[ij,ar,aQ];simp;omega
   rw[ak,Fh]
   refine(ai (by rw[h6,show aj.b .add .i64 ((a+8*i:Nat):Int) 8=((a+8*i+8:Nat):Int) from fC (j:=8) (by omega),kF];simp;omega)).2 ?_
   refine(ai (by rw[ar];simp;omega)).2 (af.2 ⟨rfl,(ah (b_ (congrArg Prod.snd hg))).2 (af.2 ⟨hn8,?_⟩)⟩)
   obtain⟨S,hS⟩:∃S:List Int,S=([x0,x1,x2,x3,x4,x5,x6,x7]:List Int).set (i:Int).toNat (aj.v .u8 (aj.v .i64 (aj.k aK ((p.c6,p.c7),((a+8*i:Nat):Int),8)).1)):=⟨_,rfl⟩
   have hSl:S.length=8:=by rw[hS,List.length_set];rfl
   have hSv:S=aZ (i+1) ((unpack m b).drop a)++List.replicate (8-(i+1)) 0:=by
    rw[hS,hv,hR,Int.toNat_natCast,List.set_append_right _ _ (by rw[da];exact Nat.le_refl _),da,Nat.sub_self,vm,show 8-i=(8-(i+1))+1 from by omega,List.replicate_succ,List.set_cons_zero,List.append_assoc,List.drop_drop]
    rfl
   have hm':=ih (i+1) p (S.getD 0 0) (S.getD 1 0) (S.getD 2 0) (S.getD 3 0) (S.getD 4 0) (S.getD 5 0) (S.getD 6 0) (S.getD 7 0) h6 h7 iM h18 vF h20 h21 ((Rs hSl).trans hSv) (by omega) (by omega)
   have e:Se.c2 p (aj.b .add .i64 (i:Int) 1) (aj.b .add .i64 ((a+8*i:Nat):Int) 8) (S.getD 0 0) (S.getD 1 0) (S.getD 2 0) (S.getD 3 0) (S.getD 4 0) (S.getD 5 0) (S.getD 6 0) (S.getD 7 0)=Se.c2 p ((i+1:Nat):Int) ((a+8*(i+1):Nat):Int) (S.getD 0 0) (S.getD 1 0) (S.getD 2 0) (S.getD 3 0) (S.getD 4 0) (S.getD 5 0) (S.getD 6 0) (S.getD 7 0):=by
    rw[cf (by omega),show aj.b .add .i64 ((a+8*i:Nat):Int) 8=((a+8*(i+1):Nat):Int) from fC (j:=8) (by omega)]
   have hm2:=bo (congrArg LT.more e) hm'
   subst hS
   exact hm2
theorem QO{m d a:Nat}{b:List Int}(hok:bC ((m:Int),b)=true)(hm:m=a+8*d)(hd:d≤8)(ha:a≤100):∀(j i:Nat) (p:R0) (x0 x1 x2 x3 x4 x5 x6 x7:Int),p.d1=(m:Int)→p.d2=b→ [x0,x1,x2,x3,x4,x5,x6,x7]=aZ i ((unpack m b).drop a)++List.replicate (8-i) 0→d-i=j→i≤d→
  aA (Fh aj) (.more (.c3 p (i:Int) ((a+8*i:Nat):Int) x0 x1 x2 x3 x4 x5 x6 x7)) (bif (dL (p.CZ,p.Cp)).2 != 0 then(cX,51) else bif fO (p.Jc,p.Jx,(dL (p.CZ,p.Cp)).1,p.Jj,aZ d ((unpack m b).drop a)) then((p.Jc,p.Jx,(dL (p.CZ,p.Cp)).1,p.Jj,aZ d ((unpack m b).drop a)),0) else(cX,51)):=by
 intro j
 induction j with
 | zero=>
   intro i p x0 x1 x2 x3 x4 x5 x6 x7 h6 h7 hR hj hi
   have:i=d:=by omega
   subst this
   have hdl:=da i ((unpack m b).drop a)
   have hD:(aj.spl (aj.r (i:Int) (0:Int)) 0 (aj.s [x0,x1,x2,x3,x4,x5,x6,x7] 0 (aj.mn (aj.l [x0,x1,x2,x3,x4,x5,x6,x7]) (aj.l (aj.r (i:Int) (0:Int))))):List Int)=aZ i ((unpack m b).drop a):=by
    rw[hR]
    have e1:aj.r (i:Int) (0:Int)=List.replicate i 0:=by rw[mY,Int.toNat_natCast]
    rw[e1]
    have e2:aj.mn (aj.l (aZ i ((unpack m b).drop a)++List.replicate (8-i) (0:Int))) (aj.l (List.replicate i (0:Int)))=(i:Int):=by
     show(if ((List.replicate i (0:Int)).length:Int)<((aZ i ((unpack m b).drop a)++List.replicate (8-i) (0:Int)).length:Int) then((List.replicate i (0:Int)).length:Int) else((aZ i ((unpack m b).drop a)++List.replicate (8-i) (0:Int)).length:Int))=_
     rw[List.length_append,hdl,List.length_replicate,List.length_replicate]
     split<;>omega
    have hT:(aZ i ((unpack m b).drop a)++List.replicate (8-i) (0:Int)).take i=aZ i ((unpack m b).drop a):=by rw[List.take_append_of_le_length (by omega),List.take_of_length_le (by omega)]
    rw[e2,mI,pz,Int.toNat_natCast,hT]
    show(List.replicate i (0:Int)).take 0++(aZ i ((unpack m b).drop a)).drop 0++(List.replicate i (0:Int)).drop (0+((aZ i ((unpack m b).drop a)).drop 0).length)=_
    rw[List.drop_zero,hdl,List.drop_replicate,show i-(0+i)=0 from by omega,List.replicate_zero,List.take_zero,List.nil_append,List.append_nil]
   rw[ak,Fh]
   refine(ah (by rw[h6,show aj.b .add .i64 ((a+8*i:Nat):Int) 8=((a+8*i+8:Nat):Int) from fC (j:=8) (by omega),kF];simp;omega)).2 ?_
   refine af.2 ⟨by rw[qk rfl,ij,ay,aQ,aQ];simp;omega,af.2 ⟨rfl,?_⟩⟩
   cases he:((dL (p.CZ,p.Cp)).2 != 0)
   ·refine(ah he).2 (af.2 ⟨rfl,?_⟩)
    have hchk:aj.k pP (p.Jc,p.Jx,(aj.k iE (p.CZ,p.Cp)).1,p.Jj,(aj.spl (aj.r (i:Int) (0:Int)) 0 (aj.s [x0,x1,x2,x3,x4,x5,x6,x7] 0 (aj.mn (aj.l [x0,x1,x2,x3,x4,x5,x6,x7]) (aj.l (aj.r (i:Int) (0:Int)))))))=bif fO (p.Jc,p.Jx,(dL (p.CZ,p.Cp)).1,p.Jj,aZ i ((unpack m b).drop a)) then 0 else 50:=by rw[hD];exact wN
    cases hf:fO (p.Jc,p.Jx,(dL (p.CZ,p.Cp)).1,p.Jj,aZ i ((unpack m b).drop a))
    ·rw[hf] at hchk
     exact(ai (dE (by rw[hchk];decide))).2 (.ret _)
    ·rw[hf] at hchk
     refine(ah (b_ hchk)).2 ?_
     exact bo (congrArg (fun z=>LT.ret ((p.Jc,p.Jx,(dL (p.CZ,p.Cp)).1,p.Jj,z),(0:Int))) hD) (.ret _)
   ·exact(ai he).2 (.ret _)
 | succ j ih=>
   intro i p x0 x1 x2 x3 x4 x5 x6 x7 h6 h7 hR hj hi
   have hmb:m≤4096:=by
    simp only[bC,Bool.and_eq_true,decide_eq_true_eq] at hok
    omega
   have hg:aj.k aK ((p.d1,p.d2),((a+8*i:Nat):Int),8)=(((bl (unpack m b) (a+8*i) 8:Nat):Int),0):=by
    rw[h6,h7];exact kl hok (w:=8) (by omega) (by decide) hmb
   have hf:=c_ (unpack m b) (a+8*i) 8
   have hv:aj.v .u8 (aj.v .i64 (aj.k aK ((p.d1,p.d2),((a+8*i:Nat):Int),8)).1)=((bl (unpack m b) (a+8*i) 8:Nat):Int):=by
    rw[hg,bd,bd,fV (by omega) (by omega),w8 (by omega) (by omega)]
   have hn8:aj.and (aj.c .leq 0 (i:Int)) (aj.c .lss (i:Int) 8)=true:=by rw[ij,ar,aQ];simp;omega
   rw[ak,Fh]
   refine(ai (by rw[h6,show aj.b .add .i64 ((a+8*i:Nat):Int) 8=((a+8*i+8:Nat):Int) from fC (j:=8) (by omega),kF];simp;omega)).2 ?_
   refine(ai (by rw[ar];simp;omega)).2 (af.2 ⟨rfl,(ah (b_ (congrArg Prod.snd hg))).2 (af.2 ⟨hn8,?_⟩)⟩)
   obtain⟨S,hS⟩:∃S:List Int,S=([x0,x1,x2,x3,x4,x5,x6,x7]:List Int).set (i:Int).toNat (aj.v .u8 (aj.v .i64 (aj.k aK ((p.d1,p.d2),((a+8*i:Nat):Int),8)).1)):=⟨_,rfl⟩
   have hSl:S.length=8:=by rw[hS,List.length_set];rfl
   have hSv:S=aZ (i+1) ((unpack m b).drop a)++List.replicate (8-(i+1)) 0:=by
    rw[hS,hv,hR,Int.toNat_natCast,List.set_append_right _ _ (by rw[da];exact Nat.le_refl _),da,Nat.sub_self,vm,show 8-i=(8-(i+1))+1 from by omega,List.replicate_succ,List.set_cons_zero,List.append_assoc,List.drop_drop]
    rfl
   have hm':=ih (i+1) p (S.getD 0 0) (S.getD 1 0) (S.getD 2 0) (S.getD 3 0) (S.getD 4 0) (S.getD 5 0) (S.getD 6 0) (S.getD 7 0) h6 h7 ((Rs hSl).trans hSv) (by omega) (by omega)
   have e:Se.c3 p (aj.b .add .i64 (i:Int) 1) (aj.b .add .i64 ((a+8*i:Nat):Int) 8) (S.getD 0 0) (S.getD 1 0) (S.getD 2 0) (S.getD 3 0) (S.getD 4 0) (S.getD 5 0) (S.getD 6 0) (S.getD 7 0)=Se.c3 p ((i+1:Nat):Int) ((a+8*(i+1):Nat):Int) (S.getD 0 0) (S.getD 1 0) (S.getD 2 0) (S.getD 3 0) (S.getD 4 0) (S.getD 5 0) (S.getD 6 0) (S.getD 7 0):=by
    rw[cf (by omega),show aj.b .add .i64 ((a+8*i:Nat):Int) 8=((a+8*(i+1):Nat):Int) from fC (j:=8) (by omega)]
   have hm2:=bo (congrArg LT.more e) hm'
   subst hS
   exact hm2
theorem l7{k:Nat}:∀{a c:Nat} {l:List Bool},a+8*k≤c→c≤l.length→aZ k ((l.take c).drop a)=aZ k (l.drop a):=by
 induction k with
 | zero=>intro a c l _ _;rfl
 | succ k ih=>
   intro a c l h hc
   rw[aZ,aZ,List.drop_drop,List.drop_drop,ih (by omega) hc]
   congr 2
   congr 1
   rw[List.drop_take,List.take_take,Nat.min_eq_left (by omega)]
theorem Hl{n a w:Nat}{b:List Int}(hok:bC ((n:Int),b)=true)(h:n<a+w):aj.k aK (((n:Int),b),(a:Int),(w:Int))=(0,2):=by
 rw[al,aK,zY]
 simp only[hok,Bool.not_true,cond_false]
 rw[show decide ((n:Int)<(a:Int)+(w:Int))=true from by simp;omega,Bool.or_true]
 rfl
theorem Bu{n t p m x s:Int}{b:List Int}(h:Ty.cB [(.struct [(.int .i64),(.slice (.int .u8))]),(.struct [(.int .i64),(.int .i64),(.int .i64),(.int .i64),(.int .i64)])] ((n,b),(t,p,m,x,s))):Ty.has (.struct [(.int .i64),(.slice (.int .u8))]) (n,b):=h.1
theorem nJ{q:List Bool}(h:q.length=24):dL (bJ q)=bif dQ (dH q) then(dH q,0) else(zS,40):=by
 rw[dL,fE (by omega),eF,show(bJ q).1=24 from by show((q.length:Nat):Int)=24;rw[h];rfl]
 rfl
theorem Xo{n t p m x s:Int}{b:List Int}(h:Ty.cB [(.struct [(.int .i64),(.slice (.int .u8))]),(.struct [(.int .i64),(.int .i64),(.int .i64),(.int .i64),(.int .i64)])] ((n,b),(t,p,m,x,s))):aA (Fh aj) (t50 aj n b t p m x s) (kY ((n,b),(t,p,m,x,s))):=by
 have h1:=Bu h
 have hb:=(dF h1).2.2
 have hl:=du h1
 unfold t50
 have hc:aj.k kD (n,b)=bif bC (n,b) then 0 else 10:=lT hb hl
 refine af.2 ⟨rfl,?_⟩
 show aA (Fh aj) _ (bif !bC (n,b) then(cX,10) else bif !dQ (t,p,m,x,s) then(cX,40) else oc (bw (n,b)) (t,p,m,x,s))
 cases hok:bC (n,b)
 ·rw[hok] at hc
  refine(ai (dE (by rw[hc];decide))).2 ?_
  exact bo (congrArg (fun z=>LT.ret (((0,0,(0,0,0,0,0),0,([]:List Int)):Int×Int×(Int×Int×Int×Int×Int)×Int×List Int),z)) hc) (.ret _)
 rw[hok] at hc
 refine(ah (b_ hc)).2 (af.2 ⟨rfl,?_⟩)
 rw[Bool.not_true,cond_false]
 have hchk:aj.k jZ ((t,p,m,x,s),8)=bif dQ (t,p,m,x,s) then 0 else 40:=ox (t,p,m,x,s)
 cases hst:dQ (t,p,m,x,s)
 ·rw[hst] at hchk
  exact(ai (dE (by rw[hchk];decide))).2 (.ret _)
 rw[hst] at hchk
 refine(ah (b_ hchk)).2 (af.2 ⟨rfl,?_⟩)
 rw[Bool.not_true,cond_false]
 obtain⟨h2,h3,h4⟩:=(fh hb).1 hok
 obtain⟨n,rfl⟩:=Int.eq_ofNat_of_zero_le h2
 have hn:n≤4096:=by omega
 have hlen:(bw ((n:Int),b)).length=n:=by rw[dO];rfl
 have hun:bw ((n:Int),b)=unpack n b:=rfl
 have hlu:(unpack n b).length=n:=bg n b
 rw[hun]
 obtain⟨hp1,hp2,hp3,hp4⟩:=IB hn
 obtain⟨f2,f4,f1,f3⟩:=yp (n:=n)
 by_cases hs:n<2
 ·refine(ai (dE (by rw[show aj.k aK (((n:Int),b),0,2)=(0,2) from Hl (a:=0) (w:=2) hok (by omega)];decide))).2 (af.2 ⟨rfl,?_⟩)
  rw[yb (by omega)]
  refine(ai (show aj.not (aj.k kv ((n:Int),1))=true from ?_)).2 (.ret _)
  rw[aT,al,hp1,show dX n 1=false from by rw[←Bool.not_eq_true,f1];omega];rfl
 have g0:aj.k aK (((n:Int),b),0,2)=(((bl (unpack n b) 0 2:Nat):Int),0):=kl (a:=0) (w:=2) hok (by omega) (by decide) hn
 refine(ah (b_ (congrArg Prod.snd g0))).2 (af.2 ⟨rfl,?_⟩)
 have hk:=Ir (l:=unpack n b) (by omega)
 have hf:=c_ (unpack n b) 0 2
 have hK:aj.b .add .i64 (aj.v .i64 (aj.k aK (((n:Int),b),0,2)).1) 1=((bl (unpack n b) 0 2+1:Nat):Int):=by
  rw[g0,bd,fV (by omega) (by omega)];exact cf (by omega)
 rw[hK]
 have g:∀a w:Nat,a+w≤n→w≤64→aj.k aK (((n:Int),b),(a:Int),(w:Int))=(((bl (unpack n b) a w:Nat):Int),0):=fun a w h1 h2=>kl hok h1 h2 hn
 have hcv:∀a w:Nat,w≤8→aj.v .i64 ((bl (unpack n b) a w:Nat):Int)=((bl (unpack n b) a w:Nat):Int):=fun a w hw=>by
  have:=c_ (unpack n b) a w
  have hp:2^w≤2^8:=Nat.pow_le_pow_right (by decide) hw
  rw[bd,fV (by omega) (by omega)]
 have hcase:bl (unpack n b) 0 2=0∨bl (unpack n b) 0 2=1∨bl (unpack n b) 0 2=2∨bl (unpack n b) 0 2=3:=by omega
 rcases hcase with h0|h0|h0|h0
 ·-- FrCold
  rw[h0] at hk ⊢
  by_cases hfit:dX n 1=true
  ·have h40:=f1.1 hfit
   refine(ah (show aj.not (aj.k kv ((n:Int),1))=false by rw[aT,al,hp1,hfit];rfl)).2 ((ai rfl).2 ?_)
   have g1:aj.k aK (((n:Int),b),2,3)=(((bl (unpack n b) 2 3:Nat):Int),0):=g 2 3 (by omega) (by decide)
   have g2:aj.k aK (((n:Int),b),5,8)=(((bl (unpack n b) 5 8:Nat):Int),0):=g 5 8 (by omega) (by decide)
   have g3:aj.k aK (((n:Int),b),13,3)=(((bl (unpack n b) 13 3:Nat):Int),0):=g 13 3 (by omega) (by decide)
   refine af.2 ⟨rfl,(ah (b_ (congrArg Prod.snd g1))).2 (af.2 ⟨rfl,(ah (b_ (congrArg Prod.snd g2))).2 (af.2 ⟨rfl,(ah (b_ (congrArg Prod.snd g3))).2 ?_⟩)⟩)⟩
   rw[ak,Fh]
   dsimp only
   rw[Ni hk (by omega)]
   have hz:aj.c .neq (aj.v .i64 (aj.k aK (((n:Int),b),13,3)).1) 0=(bl (unpack n b) 13 3 != 0):=by
    rw[g3,hcv 13 3 (by decide),aH,Bool.eq_iff_iff];simp
   cases hzz:(bl (unpack n b) 13 3 != 0)
   ·refine(ah (hz.trans hzz)).2 (af.2 ⟨rfl,?_⟩)
    have ho:aj.k bI (((n:Int),b),1,((0:Int),([]:List Int)))=((dd (((n:Int),b),(0, []))).1,zB,(dd (((n:Int),b),(0, []))).2):=AR (.inl rfl)
    rw[gL (u:=(0, [])) hok rfl (by omega),show over 0 (bw ((0:Int),([]:List Int)))=0 from rfl,hun] at ho
    cases hov:(over 0 (unpack n b) != 0)
    ·rw[hov] at ho
     refine(ah (b_ (congrArg (fun z=>z.2.2) ho))).2 ?_
     refine(ah rfl).2 ((ah rfl).2 ((ah rfl).2 (af.2 ⟨rfl,?_⟩)))
     have l1:=c_ (unpack n b) 2 3
     have l2:=c_ (unpack n b) 5 8
     have e1:(aj.v .i64 (aj.k aK (((n:Int),b),5,8)).1)=((bl (unpack n b) 5 8:Nat):Int):=by rw[g2];exact hcv 5 8 (by decide)
     have e2:(aj.v .i64 (aj.k aK (((n:Int),b),2,3)).1)=((bl (unpack n b) 2 3:Nat):Int):=by rw[g1];exact hcv 2 3 (by decide)
     rw[e1,e2]
     have hfo:fO (1,0,(((bl (unpack n b) 5 8:Nat):Int),0,0,0,0),((bl (unpack n b) 2 3:Nat):Int), [])=true:=by
      rw[gJ,mF];simp;omega
     have hch:aj.k pP (1,0,(((bl (unpack n b) 5 8:Nat):Int),0,0,0,0),((bl (unpack n b) 2 3:Nat):Int), [])=0:=by
      rw[al,wN,hfo];rfl
     exact(ah (b_ hch)).2 (.ret _)
    ·rw[hov] at ho
     have e2:=congrArg (fun z=>z.2.2) ho
     refine(ai (dE (show(aj.k bI (((n:Int),b),1,((0:Int),([]:List Int)))).2.2≠0 from by rw[e2];exact(by decide:(21:Int)≠0)))).2 ?_
     exact bo (congrArg (fun z=>LT.ret (((0,0,(0,0,0,0,0),0,([]:List Int)):Int×Int×(Int×Int×Int×Int×Int)×Int×List Int),z)) e2) (.ret _)
   ·exact(ai (hz.trans hzz)).2 (.ret _)
  ·rw[Bool.not_eq_true] at hfit
   rw[fZ (by rw[hlu,hk];exact hfit)]
   exact(ai (show aj.not (aj.k kv ((n:Int),1))=true by rw[aT,al,hp1,hfit];rfl)).2 (.ret _)
 ·-- FrN
  rw[h0] at hk ⊢
  by_cases hfit:dX n 2=true
  ·have h29:=f2.1 hfit
   refine(ah (show aj.not (aj.k kv ((n:Int),2))=false by rw[aT,al,hp2,hfit];rfl)).2 ((ah rfl).2 ((ai rfl).2 ?_))
   have g1:aj.k aK (((n:Int),b),2,3)=(((bl (unpack n b) 2 3:Nat):Int),0):=g 2 3 (by omega) (by decide)
   refine af.2 ⟨rfl,(ah (b_ (congrArg Prod.snd g1))).2 (af.2 ⟨rfl,?_⟩)⟩
   rw[ak,Fh]
   dsimp only
   refine(ah rfl).2 (af.2 ⟨rfl,?_⟩)
   rw[Mw hk (by rw[hlu];exact hfit)]
   have hsb:aj.k qO (t,p,m,x,s)=(bJ (bD (t,p,m,x,s)),0):=by rw[al,qO,kC,hst];rfl
   have ho:aj.k bI (((n:Int),b),2,(aj.k qO (t,p,m,x,s)).1)=((dd (((n:Int),b),bJ (bD (t,p,m,x,s)))).1,zB,(dd (((n:Int),b),bJ (bD (t,p,m,x,s)))).2):=by
    rw[hsb];exact AR (.inr rfl)
   rw[gL hok (fE (by rw[mj];decide)) (by omega),eF,hun,hlu] at ho
   cases hov:(over (over 0 (bD (t,p,m,x,s))) (unpack n b) != 0)
   ·rw[hov] at ho
    have o1:=congrArg (fun z=>z.1) ho
    refine(ah (b_ (congrArg (fun z=>z.2.2) ho))).2 ((ai rfl).2 ?_)
    have e2:(aj.v .i64 (aj.k aK (((n:Int),b),2,3)).1)=((bl (unpack n b) 2 3:Nat):Int):=by rw[g1];exact hcv 2 3 (by decide)
    rw[e2]
    have hfl:((unpack n b).take (n-24)).length=n-24:=by rw[List.length_take,hlu];omega
    have hrest:=P7 (m:=n-24) (d:=(n-29)/8) (a:=5) (b:=pack ((unpack n b).take (n-24))) (by have:=fE (l:=(unpack n b).take (n-24)) (by omega);rwa [bJ,hfl] at this) (by omega) (by omega) (by decide) ((n-29)/8) 0
     ⟨t,p,m,x,s,(aj.k bI (((n:Int),b),2,(aj.k qO (t,p,m,x,s)).1)).1.1,(aj.k bI (((n:Int),b),2,(aj.k qO (t,p,m,x,s)).1)).1.2,t,p,m,x,s,0,0,0,0,0,0,0,0,2,((bl (unpack n b) 2 3:Nat):Int),0,0,0,0,0,0,(aj.k bI (((n:Int),b),2,(aj.k qO (t,p,m,x,s)).1)).2.1.1,(aj.k bI (((n:Int),b),2,(aj.k qO (t,p,m,x,s)).1)).2.1.2⟩ 0 0 0 0 0 0 0 0
     (by show(aj.k bI (((n:Int),b),2,(aj.k qO (t,p,m,x,s)).1)).1.1=_;rw[o1];show(((unpack n b).take (n-24)).length:Int)=_;rw[hfl]) (by show(aj.k bI (((n:Int),b),2,(aj.k qO (t,p,m,x,s)).1)).1.2=_;rw[o1];rfl) rfl rfl rfl rfl rfl rfl (by omega) (by omega)
    rw[show unpack (n-24) (pack ((unpack n b).take (n-24)))=(unpack n b).take (n-24) from by have:=unpack_pack ((unpack n b).take (n-24));rwa [hfl] at this] at hrest
    refine Eq.mp (congrArg (aA (Fh aj) _) ?_) hrest
    have hdd:aZ ((n-29)/8) (((unpack n b).take (n-24)).drop 5)=aZ (((unpack n b).length-29)/8) ((unpack n b).drop 5):=by
     rw[hlu]
     exact l7 (by omega) (by rw[hlu];omega)
    show(bif fO (2,((bl (unpack n b) 2 3:Nat):Int),(t,p,m,x,s),0,aZ ((n-29)/8) (((unpack n b).take (n-24)).drop 5)) then((2,((bl (unpack n b) 2 3:Nat):Int),(t,p,m,x,s),0,aZ ((n-29)/8) (((unpack n b).take (n-24)).drop 5)),0) else(cX,51))=_
    rw[hdd,cond_false]
    have hfo:fO (2,((bl (unpack n b) 2 3:Nat):Int),(t,p,m,x,s),0,aZ (((unpack n b).length-29)/8) ((unpack n b).drop 5))=!decide (4<bl (unpack n b) 2 3):=by
     rw[Bool.eq_iff_iff,gJ,hst,da];simp;omega
    rw[hfo]
    cases decide (4<bl (unpack n b) 2 3)<;>rfl
   ·rw[hov] at ho
    have e2:=congrArg (fun z=>z.2.2) ho
    refine(ai (dE (show(aj.k bI (((n:Int),b),2,(aj.k qO (t,p,m,x,s)).1)).2.2≠0 from by rw[e2];exact(by decide:(21:Int)≠0)))).2 ?_
    exact bo (congrArg (fun z=>LT.ret (((0,0,(0,0,0,0,0),0,([]:List Int)):Int×Int×(Int×Int×Int×Int×Int)×Int×List Int),z)) e2) (.ret _)
  ·rw[Bool.not_eq_true] at hfit
   rw[fZ (by rw[hlu,hk];exact hfit)]
   exact(ai (show aj.not (aj.k kv ((n:Int),2))=true by rw[aT,al,hp2,hfit];rfl)).2 (.ret _)
 ·-- FrI
  rw[h0] at hk ⊢
  rw[show((2+1:Nat):Int)=3 from rfl]
  by_cases hfit:dX n 3=true
  ·have h54:=f3.1 hfit
   refine(ah (show aj.not (aj.k kv ((n:Int),3))=false by rw[aT,al,hp3,hfit];rfl)).2 ((ah rfl).2 ((ah rfl).2 ?_))
   have g1:aj.k aK (((n:Int),b),2,3)=(((bl (unpack n b) 2 3:Nat):Int),0):=g 2 3 (by omega) (by decide)
   have g2:aj.k aK (((n:Int),b),5,(aj.b .sub .i64 3 2))=(((bl (unpack n b) 5 1:Nat):Int),0):=g 5 1 (by omega) (by decide)
   have e2:(aj.v .i64 (aj.k aK (((n:Int),b),2,3)).1)=((bl (unpack n b) 2 3:Nat):Int):=by rw[g1];exact hcv 2 3 (by decide)
   have hql:(((unpack n b).drop 6).take 24).length=24:=by rw[List.length_take,List.length_drop,hlu];omega
   refine af.2 ⟨rfl,(ah (b_ (congrArg Prod.snd g1))).2 ?_⟩
   repeat (first|refine fo.2 ⟨⟨rfl,rfl⟩,?_⟩|refine fo.2 ⟨rfl,?_⟩|refine af.2 ⟨rfl,?_⟩)
   refine(ah (b_ (congrArg Prod.snd g2))).2 ?_
   repeat (first|refine fo.2 ⟨⟨rfl,rfl⟩,?_⟩|refine fo.2 ⟨rfl,?_⟩|refine af.2 ⟨rfl,?_⟩)
   rw[ak,Fh]
   dsimp only
   rw[Kx hk (by omega)]
   have hz:aj.c .neq (aj.v .i64 (aj.k aK (((n:Int),b),5,(aj.b .sub .i64 3 2))).1) 0=(bl (unpack n b) 5 1 != 0):=by
    rw[g2,hcv 5 1 (by decide),aH,Bool.eq_iff_iff];simp
   cases hzz:(bl (unpack n b) 5 1 != 0)
   ·refine(ah (hz.trans hzz)).2 (af.2 ⟨rfl,?_⟩)
    have ho:aj.k bI (((n:Int),b),3,((0:Int),([]:List Int)))=_:=IX hok h54
    cases hov:(over 0 (unpack n b) != 0)
    ·rw[hov,cond_false] at ho
     refine(ah (b_ (congrArg (fun z=>z.2.2) ho))).2 ((ah rfl).2 ((ah rfl).2 ((ai rfl).2 (af.2 ⟨rfl,?_⟩))))
     have hpz:aj.k iE (aj.k bI (((n:Int),b),3,((0:Int),([]:List Int)))).2.1=bif dQ (dH (((unpack n b).drop 6).take 24)) then(dH (((unpack n b).drop 6).take 24),0) else(zS,40):=by
      rw[ho];exact nJ hql
     cases hso:dQ (dH (((unpack n b).drop 6).take 24))
     ·rw[hso] at hpz
      exact(ai (dE (show(aj.k iE (aj.k bI (((n:Int),b),3,((0:Int),([]:List Int)))).2.1).2≠0 from by rw[hpz];exact(by decide:(40:Int)≠0)))).2 (.ret _)
     ·rw[hso,cond_true] at hpz
      refine(ah (b_ (congrArg Prod.snd hpz))).2 (af.2 ⟨rfl,?_⟩)
      rw[e2,hpz]
      have hfo:fO (3,((bl (unpack n b) 2 3:Nat):Int),dH (((unpack n b).drop 6).take 24),0, [])=!decide (4<bl (unpack n b) 2 3):=by
       have hso':=hso
       rw[dH] at hso' ⊢
       rw[Bool.eq_iff_iff,gJ,hso'];simp;omega
      have hch:aj.k pP (3,((bl (unpack n b) 2 3:Nat):Int),dH (((unpack n b).drop 6).take 24),0, [])=bif !decide (4<bl (unpack n b) 2 3) then 0 else 50:=by
       rw[←hfo];exact wN
      cases hd:decide (4<bl (unpack n b) 2 3)
      ·rw[hd] at hch
       exact(ah (b_ hch)).2 (.ret _)
      ·rw[hd] at hch
       exact(ai (dE (show aj.k pP (3,((bl (unpack n b) 2 3:Nat):Int),dH (((unpack n b).drop 6).take 24),0, [])≠0 from by rw[hch];exact(by decide:(50:Int)≠0)))).2 (.ret _)
    ·rw[hov,cond_true] at ho
     have e3:=congrArg (fun z=>z.2.2) ho
     refine(ai (dE (show(aj.k bI (((n:Int),b),3,((0:Int),([]:List Int)))).2.2≠0 from by rw[e3];exact(by decide:(21:Int)≠0)))).2 ?_
     exact bo (congrArg (fun z=>LT.ret (((0,0,(0,0,0,0,0),0,([]:List Int)):Int×Int×(Int×Int×Int×Int×Int)×Int×List Int),z)) e3) (.ret _)
   ·exact(ai (hz.trans hzz)).2 (.ret _)
  ·rw[Bool.not_eq_true] at hfit
   rw[fZ (by rw[hlu,hk];exact hfit)]
   exact(ai (show aj.not (aj.k kv ((n:Int),3))=true by rw[aT,al,hp3,hfit];rfl)).2 (.ret _)
 ·-- FrX
  rw[h0] at hk ⊢
  rw[show((3+1:Nat):Int)=4 from rfl]
  by_cases hfit:dX n 4=true
  ·have h79:=f4.1 hfit
   refine(ah (show aj.not (aj.k kv ((n:Int),4))=false by rw[aT,al,hp4,hfit];rfl)).2 ((ah rfl).2 ((ah rfl).2 ?_))
   have g1:aj.k aK (((n:Int),b),2,3)=(((bl (unpack n b) 2 3:Nat):Int),0):=g 2 3 (by omega) (by decide)
   have g2:aj.k aK (((n:Int),b),5,(aj.b .sub .i64 4 2))=(((bl (unpack n b) 5 2:Nat):Int),0):=g 5 2 (by omega) (by decide)
   have e2:(aj.v .i64 (aj.k aK (((n:Int),b),2,3)).1)=((bl (unpack n b) 2 3:Nat):Int):=by rw[g1];exact hcv 2 3 (by decide)
   have hql:(((unpack n b).drop 7).take 24).length=24:=by rw[List.length_take,List.length_drop,hlu];omega
   refine af.2 ⟨rfl,(ah (b_ (congrArg Prod.snd g1))).2 ?_⟩
   repeat (first|refine fo.2 ⟨⟨rfl,rfl⟩,?_⟩|refine fo.2 ⟨rfl,?_⟩|refine af.2 ⟨rfl,?_⟩)
   refine(ah (b_ (congrArg Prod.snd g2))).2 ?_
   repeat (first|refine fo.2 ⟨⟨rfl,rfl⟩,?_⟩|refine fo.2 ⟨rfl,?_⟩|refine af.2 ⟨rfl,?_⟩)
   rw[ak,Fh]
   dsimp only
   rw[Nk hk (by rw[hlu];exact hfit)]
   have hz:aj.c .neq (aj.v .i64 (aj.k aK (((n:Int),b),5,(aj.b .sub .i64 4 2))).1) 0=(bl (unpack n b) 5 2 != 0):=by
    rw[g2,hcv 5 2 (by decide),aH,Bool.eq_iff_iff];simp
   cases hzz:(bl (unpack n b) 5 2 != 0)
   ·refine(ah (hz.trans hzz)).2 (af.2 ⟨rfl,?_⟩)
    have ho:aj.k bI (((n:Int),b),4,((0:Int),([]:List Int)))=_:=IJ hok h79.1 h79.2.1
    cases hov:(over 0 ((unpack n b).take 55) != 0)
    ·cases hov2:(over (over 0 (((unpack n b).drop 7).take 24)) (unpack n b) != 0)
     ·rw[hov,cond_false,hov2,cond_false] at ho
      have o1:=congrArg (fun z=>z.1) ho
      have o2:=congrArg (fun z=>z.2.1) ho
      refine(ah (b_ (congrArg (fun z=>z.2.2) ho))).2 ((ah rfl).2 ((ai rfl).2 ?_))
      rw[e2]
      have hfl:((unpack n b).take (n-24)).length=n-24:=by rw[List.length_take,hlu];omega
      have hrest:=QO (m:=n-24) (d:=(n-79)/8) (a:=55) (b:=pack ((unpack n b).take (n-24))) (by have:=fE (l:=(unpack n b).take (n-24)) (by omega);rwa [bJ,hfl] at this) (by omega) (by omega) (by decide) ((n-79)/8) 0
       ⟨(aj.k bI (((n:Int),b),4,((0:Int),([]:List Int)))).1.1,(aj.k bI (((n:Int),b),4,((0:Int),([]:List Int)))).1.2,t,p,m,x,s,0,0,0,0,0,0,0,0,4,((bl (unpack n b) 2 3:Nat):Int),0,0,0,0,0,0,(aj.k bI (((n:Int),b),4,((0:Int),([]:List Int)))).2.1.1,(aj.k bI (((n:Int),b),4,((0:Int),([]:List Int)))).2.1.2⟩ 0 0 0 0 0 0 0 0
       (by show(aj.k bI (((n:Int),b),4,((0:Int),([]:List Int)))).1.1=_;rw[o1];show(((unpack n b).take (n-24)).length:Int)=_;rw[hfl]) (by show(aj.k bI (((n:Int),b),4,((0:Int),([]:List Int)))).1.2=_;rw[o1];rfl) rfl (by omega) (by omega)
      rw[show unpack (n-24) (pack ((unpack n b).take (n-24)))=(unpack n b).take (n-24) from by have:=unpack_pack ((unpack n b).take (n-24));rwa [hfl] at this] at hrest
      refine Eq.mp (congrArg (aA (Fh aj) _) ?_) hrest
      have hdd:aZ ((n-79)/8) (((unpack n b).take (n-24)).drop 55)=aZ (((unpack n b).length-79)/8) ((unpack n b).drop 55):=by
       rw[hlu]
       exact l7 (by omega) (by rw[hlu];omega)
      have hpz:dL ((aj.k bI (((n:Int),b),4,((0:Int),([]:List Int)))).2.1.1,(aj.k bI (((n:Int),b),4,((0:Int),([]:List Int)))).2.1.2)=bif dQ (dH (((unpack n b).drop 7).take 24)) then(dH (((unpack n b).drop 7).take 24),0) else(zS,40):=by
       rw[o2];exact nJ hql
      show(bif (dL ((aj.k bI (((n:Int),b),4,((0:Int),([]:List Int)))).2.1.1,(aj.k bI (((n:Int),b),4,((0:Int),([]:List Int)))).2.1.2)).2 != 0 then(cX,51) else bif fO (4,((bl (unpack n b) 2 3:Nat):Int),(dL ((aj.k bI (((n:Int),b),4,((0:Int),([]:List Int)))).2.1.1,(aj.k bI (((n:Int),b),4,((0:Int),([]:List Int)))).2.1.2)).1,0,aZ ((n-79)/8) (((unpack n b).take (n-24)).drop 55)) then((4,((bl (unpack n b) 2 3:Nat):Int),(dL ((aj.k bI (((n:Int),b),4,((0:Int),([]:List Int)))).2.1.1,(aj.k bI (((n:Int),b),4,((0:Int),([]:List Int)))).2.1.2)).1,0,aZ ((n-79)/8) (((unpack n b).take (n-24)).drop 55)),0) else(cX,51))=_
      rw[hpz,hdd,Bool.or_false,cond_false,cond_false]
      cases hso:dQ (dH (((unpack n b).drop 7).take 24))
      ·rfl
      ·have hfo:fO (4,((bl (unpack n b) 2 3:Nat):Int),dH (((unpack n b).drop 7).take 24),0,aZ (((unpack n b).length-79)/8) ((unpack n b).drop 55))=!decide (4<bl (unpack n b) 2 3):=by
        have hso':=hso
        rw[dH] at hso' ⊢
        rw[Bool.eq_iff_iff,gJ,hso',da];simp;omega
       rw[cond_true,hfo]
       cases decide (4<bl (unpack n b) 2 3)<;>rfl
     ·rw[hov,cond_false,hov2,cond_true] at ho
      have e3:=congrArg (fun z=>z.2.2) ho
      refine(ai (dE (show(aj.k bI (((n:Int),b),4,((0:Int),([]:List Int)))).2.2≠0 from by rw[e3];exact(by decide:(21:Int)≠0)))).2 ?_
      exact bo (congrArg (fun z=>LT.ret (((0,0,(0,0,0,0,0),0,([]:List Int)):Int×Int×(Int×Int×Int×Int×Int)×Int×List Int),z)) e3) (.ret _)
    ·rw[hov,cond_true] at ho
     have e3:=congrArg (fun z=>z.2.2) ho
     refine(ai (dE (show(aj.k bI (((n:Int),b),4,((0:Int),([]:List Int)))).2.2≠0 from by rw[e3];exact(by decide:(21:Int)≠0)))).2 ?_
     exact bo (congrArg (fun z=>LT.ret (((0,0,(0,0,0,0,0),0,([]:List Int)):Int×Int×(Int×Int×Int×Int×Int)×Int×List Int),z)) e3) (.ret _)
   ·exact(ai (hz.trans hzz)).2 (.ret _)
  ·rw[Bool.not_eq_true] at hfit
   rw[fZ (by rw[hlu,hk];exact hfit)]
   exact(ai (show aj.not (aj.k kv ((n:Int),4))=true by rw[aT,al,hp4,hfit];rfl)).2 (.ret _)
def rG:((Int×List Int)×(Int×Int×Int×Int×Int))→((Int×Int×(Int×Int×Int×Int×Int)×Int×List Int)×Int):=kY
def agS:aB:=⟨[(.struct [yI,yB]),(.struct [yI,yI,yI,yI,yI])], [(.struct [yI,yI,(.struct [yI,yI,yI,yI,yI]),yI,yB]),yI],(@tt ((Int×List Int)×(Int×Int×Int×Int×Int))),rG⟩
theorem X3:Sd 206 agS:=aL ax bK false 298 [⟨235,3, [[0,3,4], [3,4,8,12,97,100]]⟩] [⟨206,19, [[2,3,4,7,8,9,10]]⟩] (fun A ((bN,bB),cTime,cPos,cMode,cNext,cMember)=>t50 A bN bB cTime cPos cMode cNext cMember) Fh afg (fc Tryz.func206 (fc Tryz.func231 (fc Tryz.func235 fz))) (sc ai6 (sc yZ (sc ahQ (sc FJ (sc aaI (sc ZP (sc Zg (sc GY sz)))))))) (fun A y=>match y with |.c0 p=>⟨116,zf (by kernel_rfl)⟩|.c1 p=>⟨116,zf (by kernel_rfl)⟩|.c2 p c0 c8 c9 c10 c11 c12 c13 c14 ni c16=>⟨92,zf (by kernel_rfl)⟩|.c3 p d0 d3 d4 d5 d6 d7 d8 d9 fD gX=>⟨92,zf (by kernel_rfl)⟩) fun((bN,bB),cTime,cPos,cMode,cNext,cMember) hp h=>Xo h
open Go.Ev.Pl
def t53(A:a_)(bN:Int)(bB:List Int)(cTime:Int)(cPos:Int)(cMode:Int)(cNext:Int)(cMember:Int):LT ((Int×Int×(Int×Int×Int×Int×Int)×Int×List Int)×Bool) Empty:=.need (A.k (@tt ((Int×List Int)×(Int×Int×Int×Int×Int))) ((bN,bB),cTime,cPos,cMode,cNext,cMember)) (.br (A.c .neq (A.k rG ((bN,bB),cTime,cPos,cMode,cNext,cMember)).2 0) (.ret ((0,0,(0,0,0,0,0),0,([]:List Int)),false)) (.br (A.c .eql (A.k rG ((bN,bB),cTime,cPos,cMode,cNext,cMember)).1.1 1) (.ret ((0,0,(0,0,0,0,0),0,([]:List Int)),false)) (.br (A.not (A.and (A.c .eql (A.k rG ((bN,bB),cTime,cPos,cMode,cNext,cMember)).1.2.2.1.1 cTime) (A.and (A.c .eql (A.k rG ((bN,bB),cTime,cPos,cMode,cNext,cMember)).1.2.2.1.2.1 cPos) (A.and (A.c .eql (A.k rG ((bN,bB),cTime,cPos,cMode,cNext,cMember)).1.2.2.1.2.2.1 cMode) (A.and (A.c .eql (A.k rG ((bN,bB),cTime,cPos,cMode,cNext,cMember)).1.2.2.1.2.2.2.1 cNext) (A.and (A.c .eql (A.k rG ((bN,bB),cTime,cPos,cMode,cNext,cMember)).1.2.2.1.2.2.2.2 cMember) true)))))) (.ret ((0,0,(0,0,0,0,0),0,([]:List Int)),false)) (.ret ((A.k rG ((bN,bB),cTime,cPos,cMode,cNext,cMember)).1,true)))))
def FU:((Int×List Int)×(Int×Int×Int×Int×Int))→((Int×Int×(Int×Int×Int×Int×Int)×Int×List Int)×Bool):=fun((bN,bB),cTime,cPos,cMode,cNext,cMember)=>(t53 aj bN bB cTime cPos cMode cNext cMember).val (Ty.bE [(.struct [yI,yI,(.struct [yI,yI,yI,yI,yI]),yI,yB]),.bool])
def ahL:aB:=⟨[(.struct [yI,yB]),(.struct [yI,yI,yI,yI,yI])], [(.struct [yI,yI,(.struct [yI,yI,yI,yI,yI]),yI,yB]),.bool],(@tt ((Int×List Int)×(Int×Int×Int×Int×Int))),FU⟩
theorem ahv:Sd 159 ahL:=aJ ax bK true 50 [] (fun A ((bN,bB),cTime,cPos,cMode,cNext,cMember)=>t53 A bN bB cTime cPos cMode cNext cMember) (fc Tryz.func159 fz) (sc X3 sz) (fun(((bN,bB),cTime,cPos,cMode,cNext,cMember):(Int×List Int)×(Int×Int×Int×Int×Int)) hp h=>by
 show(t53 aj bN bB cTime cPos cMode cNext cMember).pre=true
 simp[t53,LT.pre,al,bH])
def t51(A:a_)(bN:Int)(bB:List Int):LT ((Int×Int×(Int×Int×Int×Int×Int)×Int×List Int)×Bool) Empty:=.need (A.k (@tt ((Int×List Int)×(Int×Int×Int×Int×Int))) ((bN,bB),0,0,0,0,0)) (.br (A.c .neq (A.k rG ((bN,bB),0,0,0,0,0)).2 0) (.ret ((0,0,(0,0,0,0,0),0,([]:List Int)),false)) (.br (A.c .eql (A.k rG ((bN,bB),0,0,0,0,0)).1.1 2) (.ret ((0,0,(0,0,0,0,0),0,([]:List Int)),false)) (.ret ((A.k rG ((bN,bB),0,0,0,0,0)).1,true))))
def Dh:((Int×List Int))→((Int×Int×(Int×Int×Int×Int×Int)×Int×List Int)×Bool):=fun(bN,bB)=>(t51 aj bN bB).val (Ty.bE [(.struct [yI,yI,(.struct [yI,yI,yI,yI,yI]),yI,yB]),.bool])
def agN:aB:=⟨[(.struct [yI,yB])], [(.struct [yI,yI,(.struct [yI,yI,yI,yI,yI]),yI,yB]),.bool],(@tt ((Int×List Int))),Dh⟩
theorem aiD:Sd 193 agN:=aJ ax bK true 43 [] (fun A (bN,bB)=>t51 A bN bB) (fc Tryz.func193 fz) (sc X3 sz) (fun((bN,bB):(Int×List Int)) hp h=>by
 show(t51 aj bN bB).pre=true
 simp[t51,LT.pre,al,bH])
theorem Pz{b:Int×List Int}{t p m n s:Int}:FU (b,(t,p,m,n,s))=nR (b,(t,p,m,n,s)):=by
 obtain⟨bn,bb⟩:=b
 simp only[FU,t53,LT.val,nR,al,aH,aC,aQ,aT,rG,Bool.and_true]
 generalize kY ((bn,bb),(t,p,m,n,s))=q
 obtain⟨⟨k,r,⟨t',p',m',n',s'⟩,fr,d⟩,e⟩:=q
 simp only[]
 have hx:((t',p',m',n',s') != (t,p,m,n,s))=!(t'==t&&(p'==p&&(m'==m&&(n'==n&&s'==s)))):=by
  rw[Bool.eq_iff_iff]
  simp only[bne_iff_ne,ne_eq,Bool.not_eq_true',Prod.mk.injEq]
  rw[←Bool.not_eq_true]
  simp only[Bool.and_eq_true,beq_iff_eq]
 rw[hx]
 cases e != 0<;>cases k==1<;>cases (t'==t&&(p'==p&&(m'==m&&(n'==n&&s'==s))))<;>rfl
theorem QI{b:Int×List Int}:Dh b=lN b:=by
 obtain⟨bn,bb⟩:=b
 simp only[Dh,t51,LT.val,lN,al,aH,aC,rG]
 show(bif (kY ((bn,bb),zS)).2 != 0 then(cX,false) else bif (kY ((bn,bb),zS)).1.1==2 then(cX,false) else((kY ((bn,bb),zS)).1,true))=_
 cases (kY ((bn,bb),zS)).2 != 0<;>cases (kY ((bn,bb),zS)).1.1==2<;>rfl
theorem o5{R:Type}{d r:R}{t:LT R Empty}(h:aA Empty.elim t r):t.val d=r:=by
 induction h with
 | ret r=>rfl
 | @more y _ _ _=>exact y.elim
 | br h ih=>
   rename_i b t e r
   cases b<;>exact ih
 | need h _ ih=>exact ih
 | eqs h _ ih=>exact ih
theorem PV{v:Nat}(h:v<4611686018427387904):aj.v .i64 (v:Int)=(v:Int):=by rw[bd,fV (by omega) (by omega)]
theorem rQ{l u:List Bool}(hl:l.length+24≤4096)(hu:u.length≤4096):Ee (bJ l,bJ u)=(bJ (dR (over 0 u) l),0):=by
 rw[Ee]
 show(bif bC (bJ u)&&bC (bJ l) then zR (dR (over 0 (bw (bJ u))) (bw (bJ l))) else(zB,10))=_
 rw[fE hu,fE (l:=l) (by omega),eF,eF,pJ (by rw[nH];omega)]
 rfl
theorem GL{l u:List Bool}(h:l.length+u.length≤4096):BV [bJ l,bJ u]=(bJ (l++u),0):=by
 rw[BV]
 show(bif (bC (bJ l)&&(bC (bJ u)&&true)) then zR (bw (bJ l)++(bw (bJ u) ++ [])) else(zB,10))=_
 rw[fE (l:=l) (by omega),fE (l:=u) (by omega),eF,eF,List.append_nil,pJ (by rw[List.length_append];exact h)]
 rfl
theorem Ly{k r t p m n s fr:Int}{d:List Int}(h:Ty.cB [.struct [(.int .i64),(.int .i64),(.struct [(.int .i64),(.int .i64),(.int .i64),(.int .i64),(.int .i64)]),(.int .i64),(.slice (.int .u8))]] (k,r,(t,p,m,n,s),fr,d)):bX d:=by
 have h2:d.length≤dI∧∀x∈d,0≤x∧x≤255:=h.2.2.2.2
 exact h2.2
end Go.Ev.M
