/-
  PROVED: what frame.Parse, Good and Explicit compute. Conditions: none.
-/
import Derived.Test.YtjceiokllpmnkaaGreatFb
namespace Go.Ev.M
open Go.Proofs
set_option maxRecDepth 100000
set_option linter.unusedVariables false
set_option linter.unusedSimpArgs false
open Go.Ev.Pl
structure P9 where
 (a0 a1:Int) (a2:List Int) (a3 a4 a5 a6 a7 a8 a9 b_ dY a12 lW jQ pV a16:Int) (a17:List Int) (qT kL a20 a21 a22 a23 a24 a25 a26 a27:Int)
structure UI where
 (b0 b1:Int) (b2:List Int) (b3 b4 b5 b6 b7 b8 b9 b10 b11 b12 b13 wJ xF dd:Int) (jZ:List Int) (zW kp lH lq lC qq qD qJ oy lJ:Int) (lD:List Int)
structure Kj where
 (c1 c2 c3 c4 c5 c6:Int) (c7:List Int) (GL E2 c19 c20 c21 JG c23 c24 VO VR VX c28 VT zX c31 c32 VP c34 VL VW c37 VV:Int) (VQ:List Int)
structure JF where
 (d1:Int) (d2:List Int) (d12 d13 d14 tH AB d17 d18 d19 d20 d21 d22 d23 d24 Cu C6 d27 d28 d29 d30 d31 Cq xR:Int) (xf:List Int)
inductive Kd where
 | c0 (p:P9)
 | c1 (p:UI)
 | c2 (p:Kj) (c0:Int) (c8:Int) (c9:Int) (c10:Int) (c11:Int) (c12:Int) (c13:Int) (c14:Int) (kY:Int) (c16:Int)
 | c3 (p:JF) (d0:Int) (d3:Int) (d4:Int) (d5:Int) (d6:Int) (d7:Int) (d8:Int) (d9:Int) (nj:Int) (mZ:Int)
noncomputable def PV:Kd→f_
 | .c0 p=>⟨[⟨179,122,(en [(2,.ptr 0 0),(3,.ptr 1 0),(4,.ptr 2 0),(7,.ptr 3 0),(8,.ptr 4 0),(9,.ptr 5 0),(10,vi p.a0)]),[.code (cw Tryz.f179 [1,1,1,1,1,1,1,1,1,0,0]),.code (cw Tryz.f179 [1,1,1,1,1,1,1,1,1,0,1]),.code (cw Tryz.f179 [1,1,1,1,1,1,1,1,1,1])],[],none⟩],[.flat false [vi p.a1,.sl yU p.a2],.flat false [vi p.a3,vi p.a4,vi p.a5,vi p.a6,vi p.a7],.flat false [vi p.a8,vi p.a9,vi p.b_,vi p.dY,vi p.a12,vi p.lW,vi p.jQ,vi p.pV,.dp true],.flat false [vi p.a16,.sl yU p.a17,vi p.qT],.flat false [vi p.kL,vi p.a20,vi p.a21,vi p.a22,vi p.a23,vi p.a24,vi p.a25,vi p.a26,.dp true],.flat false [vi p.a27,.dp true],.dead]⟩
 | .c1 p=>⟨[⟨179,122,(en [(2,.ptr 0 0),(3,.ptr 1 0),(4,.ptr 2 0),(7,.ptr 3 0),(8,.ptr 4 0),(9,.ptr 5 0),(10,vi p.b0)]),[.code (cw Tryz.f179 [1,1,1,1,1,1,1,1,1,0,0]),.code (cw Tryz.f179 [1,1,1,1,1,1,1,1,1,0,1]),.code (cw Tryz.f179 [1,1,1,1,1,1,1,1,1,1])],[],none⟩],[.flat false [vi p.b1,.sl yU p.b2],.flat false [vi p.b3,vi p.b4,vi p.b5,vi p.b6,vi p.b7],.flat false [vi p.b8,vi p.b9,vi p.b10,vi p.b11,vi p.b12,vi p.b13,vi p.wJ,vi p.xF,.dp true],.flat false [vi p.dd,.sl yU p.jZ,vi p.zW],.flat false [vi p.kp,vi p.lH,vi p.lq,vi p.lC,vi p.qq,vi p.qD,vi p.qJ,vi p.oy,.dp true],.flat false [vi p.lJ,.sl yU p.lD],.dead]⟩
 | .c2 p c0 c8 c9 c10 c11 c12 c13 c14 kY c16=>⟨[⟨241,34,(en [(0,.ptr 0 0),(3,.ptr 1 0),(4,vi c0)]),[.inLoop (cw Tryz.f241 [1,1,1,0,0,0]),.inBlock 0,.code (cw Tryz.f241 [1,1,1,1])],[],none⟩,⟨179,122,(en [(3,.ptr 2 0),(4,.ptr 3 0),(8,.ptr 4 0),(12,.ptr 5 0),(97,.agg [vi p.c1,vi p.c2,vi p.c3,vi p.c4,vi p.c5]),(100,.ptr 4 2)]),[.kh (ow Tryz.f179 [1,1,1,1,1,1,1,1,1,1,1,1,1,0,1,0,0,0,0,0,1,0]) [0,0,2,1,15,31,63] 2 [4,5,6] [3,0],.code (.exit 1),.inBlock 3,.code (cw Tryz.f179 [1,1,1,1,1,1,1,1,1,1,1,1,1,0,1,0,0,0,1]),.inBlock 4,.code (cw Tryz.f179 [1,1,1,1,1,1,1,1,1,1,1,1,1,0,1,0,1]),.inBlock 1,.code (cw Tryz.f179 [1,1,1,1,1,1,1,1,1,1,1,1,1,1])],[],none⟩],[.flat false [vi p.c6,.sl yU p.c7,vi c8],.flat false [.int .u8 false c9,.int .u8 false c10,.int .u8 false c11,.int .u8 false c12,.int .u8 false c13,.int .u8 false c14,.int .u8 false kY,.int .u8 false c16],.flat false [vi p.GL,vi p.E2,vi p.c19,vi p.c20,vi p.c21],.flat false [vi p.JG,vi p.c23,vi p.c24,vi p.VO,vi p.VR,vi p.VX,vi p.c28,vi p.VT,.dp true],.flat false [vi p.zX,vi p.c31,vi p.c32,vi p.VP,vi p.c34,vi p.VL,vi p.VW,vi p.c37,.dp true],.flat false [vi p.VV,.sl yU p.VQ],.dead]⟩
 | .c3 p d0 d3 d4 d5 d6 d7 d8 d9 nj mZ=>⟨[⟨241,34,(en [(0,.ptr 0 0),(3,.ptr 1 0),(4,vi d0)]),[.inLoop (cw Tryz.f241 [1,1,1,0,0,0]),.inBlock 0,.code (cw Tryz.f241 [1,1,1,1])],[],none⟩,⟨179,122,(en [(3,.ptr 2 0),(4,.ptr 3 0),(8,.ptr 4 0),(12,.ptr 5 0),(97,.undef),(100,.undef)]),[.ops (ow Tryz.f179 [1,1,1,1,1,1,1,1,1,1,1,1,1,0,1,0,0,0,1,1]) ((ow Tryz.f179 [1,1,1,1,1,1,1,1,1,1,1,1,1,0,1,0,0,0,1,1]).toList.drop 1),.inBlock 4,.code (cw Tryz.f179 [1,1,1,1,1,1,1,1,1,1,1,1,1,0,1,0,1]),.inBlock 1,.code (cw Tryz.f179 [1,1,1,1,1,1,1,1,1,1,1,1,1,1])],[],none⟩],[.flat false [vi p.d1,.sl yU p.d2,vi d3],.flat false [.int .u8 false d4,.int .u8 false d5,.int .u8 false d6,.int .u8 false d7,.int .u8 false d8,.int .u8 false d9,.int .u8 false nj,.int .u8 false mZ],.flat false [vi p.d12,vi p.d13,vi p.d14,vi p.tH,vi p.AB],.flat false [vi p.d17,vi p.d18,vi p.d19,vi p.d20,vi p.d21,vi p.d22,vi p.d23,vi p.d24,.dp true],.flat false [vi p.Cu,vi p.C6,vi p.d27,vi p.d28,vi p.d29,vi p.d30,vi p.d31,vi p.Cq,.dp true],.flat false [vi p.xR,.sl yU p.xf],.dead]⟩
def t50(A:bu)(bN:Int)(bB:List Int)(cTime:Int)(cPos:Int)(cMode:Int)(cNext:Int)(cMember:Int):LT ((Int×Int×(Int×Int×Int×Int×Int)×Int×List Int)×Int) Kd:=.need (A.k (@tt ((Int×List Int))) (bN,bB)) (.br (A.c .neq (A.k iZ (bN,bB)) 0) (.ret ((0,0,(0,0,0,0,0),0,([]:List Int)),(A.k iZ (bN,bB)))) (.need (A.k (@tt ((Int×Int×Int×Int×Int)×Int)) ((cTime,cPos,cMode,cNext,cMember),8)) (.br (A.c .neq (A.k jB ((cTime,cPos,cMode,cNext,cMember),8)) 0) (.ret ((0,0,(0,0,0,0,0),0,([]:List Int)),40)) (.need (A.k (@tt ((Int×List Int)×Int×Int)) ((bN,bB),0,2)) (.br (A.c .neq (A.k ar ((bN,bB),0,2)).2 0) (.need (A.k (@tt (Int×Int)) (bN,1)) (.br (A.not (A.k iQ (bN,1))) (.ret ((0,0,(0,0,0,0,0),0,([]:List Int)),51)) (.need (A.k (@tt ((Int×List Int)×Int×Int)) ((bN,bB),0,3)) (.br (A.c .neq (A.k ar ((bN,bB),0,3)).2 0) (.need (A.k (@tt ((Int×List Int)×Int×Int)) ((bN,bB),0,8)) (.br (A.c .neq (A.k ar ((bN,bB),0,8)).2 0) (.need (A.k (@tt ((Int×List Int)×Int×Int)) ((bN,bB),0,3)) (.br (A.c .neq (A.k ar ((bN,bB),0,3)).2 0) (.more (.c0 ⟨0,bN,bB,cTime,cPos,cMode,cNext,cMember,0,0,0,0,0,0,0,0,bN,bB,0,1,0,0,0,0,0,0,0,0⟩)) (.more (.c0 ⟨(A.v .i64 (A.k ar ((bN,bB),0,3)).1),bN,bB,cTime,cPos,cMode,cNext,cMember,0,0,0,0,0,0,0,0,bN,bB,3,1,0,0,0,0,0,0,0,0⟩)))) (.need (A.k (@tt ((Int×List Int)×Int×Int)) ((bN,bB),8,3)) (.br (A.c .neq (A.k ar ((bN,bB),8,3)).2 0) (.more (.c0 ⟨0,bN,bB,cTime,cPos,cMode,cNext,cMember,0,0,0,0,0,0,0,0,bN,bB,8,1,0,(A.v .i64 (A.k ar ((bN,bB),0,8)).1),0,0,0,0,0,0⟩)) (.more (.c0 ⟨(A.v .i64 (A.k ar ((bN,bB),8,3)).1),bN,bB,cTime,cPos,cMode,cNext,cMember,0,0,0,0,0,0,0,0,bN,bB,11,1,0,(A.v .i64 (A.k ar ((bN,bB),0,8)).1),0,0,0,0,0,0⟩)))))) (.need (A.k (@tt ((Int×List Int)×Int×Int)) ((bN,bB),3,8)) (.br (A.c .neq (A.k ar ((bN,bB),3,8)).2 0) (.need (A.k (@tt ((Int×List Int)×Int×Int)) ((bN,bB),3,3)) (.br (A.c .neq (A.k ar ((bN,bB),3,3)).2 0) (.more (.c0 ⟨0,bN,bB,cTime,cPos,cMode,cNext,cMember,0,0,0,0,0,0,0,0,bN,bB,3,1,0,0,0,0,0,0,(A.v .i64 (A.k ar ((bN,bB),0,3)).1),0⟩)) (.more (.c0 ⟨(A.v .i64 (A.k ar ((bN,bB),3,3)).1),bN,bB,cTime,cPos,cMode,cNext,cMember,0,0,0,0,0,0,0,0,bN,bB,6,1,0,0,0,0,0,0,(A.v .i64 (A.k ar ((bN,bB),0,3)).1),0⟩)))) (.need (A.k (@tt ((Int×List Int)×Int×Int)) ((bN,bB),11,3)) (.br (A.c .neq (A.k ar ((bN,bB),11,3)).2 0) (.more (.c0 ⟨0,bN,bB,cTime,cPos,cMode,cNext,cMember,0,0,0,0,0,0,0,0,bN,bB,11,1,0,(A.v .i64 (A.k ar ((bN,bB),3,8)).1),0,0,0,0,(A.v .i64 (A.k ar ((bN,bB),0,3)).1),0⟩)) (.more (.c0 ⟨(A.v .i64 (A.k ar ((bN,bB),11,3)).1),bN,bB,cTime,cPos,cMode,cNext,cMember,0,0,0,0,0,0,0,0,bN,bB,14,1,0,(A.v .i64 (A.k ar ((bN,bB),3,8)).1),0,0,0,0,(A.v .i64 (A.k ar ((bN,bB),0,3)).1),0⟩)))))))))) (.need (A.k (@tt (Int×Int)) (bN,(A.b .add .i64 (A.v .i64 (A.k ar ((bN,bB),0,2)).1) 1))) (.br (A.not (A.k iQ (bN,(A.b .add .i64 (A.v .i64 (A.k ar ((bN,bB),0,2)).1) 1)))) (.ret ((0,0,(0,0,0,0,0),0,([]:List Int)),51)) (.br (A.c .eql (A.b .add .i64 (A.v .i64 (A.k ar ((bN,bB),0,2)).1) 1) 1) (.need (A.k (@tt ((Int×List Int)×Int×Int)) ((bN,bB),2,3)) (.br (A.c .neq (A.k ar ((bN,bB),2,3)).2 0) (.need (A.k (@tt ((Int×List Int)×Int×Int)) ((bN,bB),2,8)) (.br (A.c .neq (A.k ar ((bN,bB),2,8)).2 0) (.need (A.k (@tt ((Int×List Int)×Int×Int)) ((bN,bB),2,3)) (.br (A.c .neq (A.k ar ((bN,bB),2,3)).2 0) (.more (.c0 ⟨0,bN,bB,cTime,cPos,cMode,cNext,cMember,0,0,0,0,0,0,0,0,bN,bB,2,(A.b .add .i64 (A.v .i64 (A.k ar ((bN,bB),0,2)).1) 1),0,0,0,0,0,0,0,0⟩)) (.more (.c0 ⟨(A.v .i64 (A.k ar ((bN,bB),2,3)).1),bN,bB,cTime,cPos,cMode,cNext,cMember,0,0,0,0,0,0,0,0,bN,bB,5,(A.b .add .i64 (A.v .i64 (A.k ar ((bN,bB),0,2)).1) 1),0,0,0,0,0,0,0,0⟩)))) (.need (A.k (@tt ((Int×List Int)×Int×Int)) ((bN,bB),10,3)) (.br (A.c .neq (A.k ar ((bN,bB),10,3)).2 0) (.more (.c0 ⟨0,bN,bB,cTime,cPos,cMode,cNext,cMember,0,0,0,0,0,0,0,0,bN,bB,10,(A.b .add .i64 (A.v .i64 (A.k ar ((bN,bB),0,2)).1) 1),0,(A.v .i64 (A.k ar ((bN,bB),2,8)).1),0,0,0,0,0,0⟩)) (.more (.c0 ⟨(A.v .i64 (A.k ar ((bN,bB),10,3)).1),bN,bB,cTime,cPos,cMode,cNext,cMember,0,0,0,0,0,0,0,0,bN,bB,13,(A.b .add .i64 (A.v .i64 (A.k ar ((bN,bB),0,2)).1) 1),0,(A.v .i64 (A.k ar ((bN,bB),2,8)).1),0,0,0,0,0,0⟩)))))) (.need (A.k (@tt ((Int×List Int)×Int×Int)) ((bN,bB),5,8)) (.br (A.c .neq (A.k ar ((bN,bB),5,8)).2 0) (.need (A.k (@tt ((Int×List Int)×Int×Int)) ((bN,bB),5,3)) (.br (A.c .neq (A.k ar ((bN,bB),5,3)).2 0) (.more (.c0 ⟨0,bN,bB,cTime,cPos,cMode,cNext,cMember,0,0,0,0,0,0,0,0,bN,bB,5,(A.b .add .i64 (A.v .i64 (A.k ar ((bN,bB),0,2)).1) 1),0,0,0,0,0,0,(A.v .i64 (A.k ar ((bN,bB),2,3)).1),0⟩)) (.more (.c0 ⟨(A.v .i64 (A.k ar ((bN,bB),5,3)).1),bN,bB,cTime,cPos,cMode,cNext,cMember,0,0,0,0,0,0,0,0,bN,bB,8,(A.b .add .i64 (A.v .i64 (A.k ar ((bN,bB),0,2)).1) 1),0,0,0,0,0,0,(A.v .i64 (A.k ar ((bN,bB),2,3)).1),0⟩)))) (.need (A.k (@tt ((Int×List Int)×Int×Int)) ((bN,bB),13,3)) (.br (A.c .neq (A.k ar ((bN,bB),13,3)).2 0) (.more (.c0 ⟨0,bN,bB,cTime,cPos,cMode,cNext,cMember,0,0,0,0,0,0,0,0,bN,bB,13,(A.b .add .i64 (A.v .i64 (A.k ar ((bN,bB),0,2)).1) 1),0,(A.v .i64 (A.k ar ((bN,bB),5,8)).1),0,0,0,0,(A.v .i64 (A.k ar ((bN,bB),2,3)).1),0⟩)) (.more (.c0 ⟨(A.v .i64 (A.k ar ((bN,bB),13,3)).1),bN,bB,cTime,cPos,cMode,cNext,cMember,0,0,0,0,0,0,0,0,bN,bB,16,(A.b .add .i64 (A.v .i64 (A.k ar ((bN,bB),0,2)).1) 1),0,(A.v .i64 (A.k ar ((bN,bB),5,8)).1),0,0,0,0,(A.v .i64 (A.k ar ((bN,bB),2,3)).1),0⟩)))))))) (.br (A.c .eql (A.b .add .i64 (A.v .i64 (A.k ar ((bN,bB),0,2)).1) 1) 2) (.need (A.k (@tt ((Int×List Int)×Int×Int)) ((bN,bB),2,3)) (.br (A.c .neq (A.k ar ((bN,bB),2,3)).2 0) (.need (A.k (@tt ((Int×Int×Int×Int×Int))) (cTime,cPos,cMode,cNext,cMember)) (.more (.c1 ⟨0,bN,bB,cTime,cPos,cMode,cNext,cMember,0,0,0,0,0,0,0,0,bN,bB,2,(A.b .add .i64 (A.v .i64 (A.k ar ((bN,bB),0,2)).1) 1),0,0,0,0,0,0,0,(A.k nU (cTime,cPos,cMode,cNext,cMember)).1.1,(A.k nU (cTime,cPos,cMode,cNext,cMember)).1.2⟩))) (.need (A.k (@tt ((Int×Int×Int×Int×Int))) (cTime,cPos,cMode,cNext,cMember)) (.more (.c1 ⟨0,bN,bB,cTime,cPos,cMode,cNext,cMember,0,0,0,0,0,0,0,0,bN,bB,5,(A.b .add .i64 (A.v .i64 (A.k ar ((bN,bB),0,2)).1) 1),(A.v .i64 (A.k ar ((bN,bB),2,3)).1),0,0,0,0,0,0,(A.k nU (cTime,cPos,cMode,cNext,cMember)).1.1,(A.k nU (cTime,cPos,cMode,cNext,cMember)).1.2⟩))))) (.need (A.k (@tt ((Int×List Int)×Int×Int)) ((bN,bB),2,3)) (.br (A.c .neq (A.k ar ((bN,bB),2,3)).2 0) (.eqs (IntKind.i64=IntKind.i64∧((A.b .sub .i64 (A.b .add .i64 (A.v .i64 (A.k ar ((bN,bB),0,2)).1) 1) 2):Int)=(A.b .sub .i64 (A.b .add .i64 (A.v .i64 (A.k ar ((bN,bB),0,2)).1) 1) 2)) (.eqs (IntKind.i64=IntKind.i64∧((A.b .add .i64 (A.v .i64 (A.k ar ((bN,bB),0,2)).1) 1):Int)=(A.b .add .i64 (A.v .i64 (A.k ar ((bN,bB),0,2)).1) 1)) (.eqs ((.ptr 4 0:AV)=.ptr 4 0) (.eqs ((.ptr 3 0:AV)=.ptr 3 0) (.need (A.k (@tt ((Int×List Int)×Int×Int)) ((bN,bB),2,(A.b .sub .i64 (A.b .add .i64 (A.v .i64 (A.k ar ((bN,bB),0,2)).1) 1) 2))) (.br (A.c .neq (A.k ar ((bN,bB),2,(A.b .sub .i64 (A.b .add .i64 (A.v .i64 (A.k ar ((bN,bB),0,2)).1) 1) 2))).2 0) (.eqs ((.ptr 4 1:AV)=.ptr 4 1) (.more (.c0 ⟨0,bN,bB,cTime,cPos,cMode,cNext,cMember,0,0,0,0,0,0,0,0,bN,bB,2,(A.b .add .i64 (A.v .i64 (A.k ar ((bN,bB),0,2)).1) 1),0,0,0,0,0,0,0,0⟩))) (.eqs ((.ptr 4 1:AV)=.ptr 4 1) (.more (.c0 ⟨(A.v .i64 (A.k ar ((bN,bB),2,(A.b .sub .i64 (A.b .add .i64 (A.v .i64 (A.k ar ((bN,bB),0,2)).1) 1) 2))).1),bN,bB,cTime,cPos,cMode,cNext,cMember,0,0,0,0,0,0,0,0,bN,bB,(A.b .add .i64 2 (A.b .sub .i64 (A.b .add .i64 (A.v .i64 (A.k ar ((bN,bB),0,2)).1) 1) 2)),(A.b .add .i64 (A.v .i64 (A.k ar ((bN,bB),0,2)).1) 1),0,0,0,0,0,0,0,0⟩))))))))) (.eqs (IntKind.i64=IntKind.i64∧((A.b .sub .i64 (A.b .add .i64 (A.v .i64 (A.k ar ((bN,bB),0,2)).1) 1) 2):Int)=(A.b .sub .i64 (A.b .add .i64 (A.v .i64 (A.k ar ((bN,bB),0,2)).1) 1) 2)) (.eqs (IntKind.i64=IntKind.i64∧((A.b .add .i64 (A.v .i64 (A.k ar ((bN,bB),0,2)).1) 1):Int)=(A.b .add .i64 (A.v .i64 (A.k ar ((bN,bB),0,2)).1) 1)) (.eqs ((.ptr 4 0:AV)=.ptr 4 0) (.eqs ((.ptr 3 0:AV)=.ptr 3 0) (.need (A.k (@tt ((Int×List Int)×Int×Int)) ((bN,bB),5,(A.b .sub .i64 (A.b .add .i64 (A.v .i64 (A.k ar ((bN,bB),0,2)).1) 1) 2))) (.br (A.c .neq (A.k ar ((bN,bB),5,(A.b .sub .i64 (A.b .add .i64 (A.v .i64 (A.k ar ((bN,bB),0,2)).1) 1) 2))).2 0) (.eqs ((.ptr 4 1:AV)=.ptr 4 1) (.more (.c0 ⟨0,bN,bB,cTime,cPos,cMode,cNext,cMember,0,0,0,0,0,0,0,0,bN,bB,5,(A.b .add .i64 (A.v .i64 (A.k ar ((bN,bB),0,2)).1) 1),(A.v .i64 (A.k ar ((bN,bB),2,3)).1),0,0,0,0,0,0,0⟩))) (.eqs ((.ptr 4 1:AV)=.ptr 4 1) (.more (.c0 ⟨(A.v .i64 (A.k ar ((bN,bB),5,(A.b .sub .i64 (A.b .add .i64 (A.v .i64 (A.k ar ((bN,bB),0,2)).1) 1) 2))).1),bN,bB,cTime,cPos,cMode,cNext,cMember,0,0,0,0,0,0,0,0,bN,bB,(A.b .add .i64 5 (A.b .sub .i64 (A.b .add .i64 (A.v .i64 (A.k ar ((bN,bB),0,2)).1) 1) 2)),(A.b .add .i64 (A.v .i64 (A.k ar ((bN,bB),0,2)).1) 1),(A.v .i64 (A.k ar ((bN,bB),2,3)).1),0,0,0,0,0,0,0⟩))))))))))))))))))))
def Au(A:bu):Kd→LT ((Int×Int×(Int×Int×Int×Int×Int)×Int×List Int)×Int) Kd
 | .c0 p=>.br (A.c .neq p.a0 0) (.ret ((0,0,(0,0,0,0,0),0,([]:List Int)),51)) (.need (A.k (@tt ((Int×List Int)×Int×(Int×List Int))) ((p.a1,p.a2),p.kL,p.a27,([]:List Int))) (.br (A.c .neq (A.k aX ((p.a1,p.a2),p.kL,p.a27,([]:List Int))).2.2 0) (.ret ((0,0,(0,0,0,0,0),0,([]:List Int)),(A.k aX ((p.a1,p.a2),p.kL,p.a27,([]:List Int))).2.2)) (.br (A.c .eql p.kL 2) (.more (.c2 ⟨p.a3,p.a4,p.a5,p.a6,p.a7,(A.k aX ((p.a1,p.a2),p.kL,p.a27,([]:List Int))).1.1,(A.k aX ((p.a1,p.a2),p.kL,p.a27,([]:List Int))).1.2,p.a3,p.a4,p.a5,p.a6,p.a7,p.a8,p.a9,p.b_,p.dY,p.a12,p.lW,p.jQ,p.pV,p.kL,p.a20,p.a21,p.a22,p.a23,p.a24,p.a25,p.a26,(A.k aX ((p.a1,p.a2),p.kL,p.a27,([]:List Int))).2.1.1,(A.k aX ((p.a1,p.a2),p.kL,p.a27,([]:List Int))).2.1.2⟩ 0 p.qT 0 0 0 0 0 0 0 0)) (.br (A.c .eql p.kL 4) (.more (.c3 ⟨(A.k aX ((p.a1,p.a2),p.kL,p.a27,([]:List Int))).1.1,(A.k aX ((p.a1,p.a2),p.kL,p.a27,([]:List Int))).1.2,p.a3,p.a4,p.a5,p.a6,p.a7,p.a8,p.a9,p.b_,p.dY,p.a12,p.lW,p.jQ,p.pV,p.kL,p.a20,p.a21,p.a22,p.a23,p.a24,p.a25,p.a26,(A.k aX ((p.a1,p.a2),p.kL,p.a27,([]:List Int))).2.1.1,(A.k aX ((p.a1,p.a2),p.kL,p.a27,([]:List Int))).2.1.2⟩ 0 55 0 0 0 0 0 0 0 0)) (.br (A.c .eql p.kL 3) (.need (A.k (@tt ((Int×List Int))) (A.k aX ((p.a1,p.a2),p.kL,p.a27,([]:List Int))).2.1) (.br (A.c .neq (A.k gp (A.k aX ((p.a1,p.a2),p.kL,p.a27,([]:List Int))).2.1).2 0) (.ret ((0,0,(0,0,0,0,0),0,([]:List Int)),51)) (.need (A.k (@tt ((Int×Int×(Int×Int×Int×Int×Int)×Int×List Int))) (p.kL,p.a20,(A.k gp (A.k aX ((p.a1,p.a2),p.kL,p.a27,([]:List Int))).2.1).1,p.a26,([]:List Int))) (.br (A.c .neq (A.k nF (p.kL,p.a20,(A.k gp (A.k aX ((p.a1,p.a2),p.kL,p.a27,([]:List Int))).2.1).1,p.a26,([]:List Int))) 0) (.ret ((0,0,(0,0,0,0,0),0,([]:List Int)),51)) (.ret ((p.kL,p.a20,(A.k gp (A.k aX ((p.a1,p.a2),p.kL,p.a27,([]:List Int))).2.1).1,p.a26,([]:List Int)),0)))))) (.need (A.k (@tt ((Int×Int×(Int×Int×Int×Int×Int)×Int×List Int))) (p.kL,p.a20,(p.a21,p.a22,p.a23,p.a24,p.a25),p.a26,([]:List Int))) (.br (A.c .neq (A.k nF (p.kL,p.a20,(p.a21,p.a22,p.a23,p.a24,p.a25),p.a26,([]:List Int))) 0) (.ret ((0,0,(0,0,0,0,0),0,([]:List Int)),51)) (.ret ((p.kL,p.a20,(p.a21,p.a22,p.a23,p.a24,p.a25),p.a26,([]:List Int)),0)))))))))
 | .c1 p=>.br (A.c .neq p.b0 0) (.ret ((0,0,(0,0,0,0,0),0,([]:List Int)),51)) (.need (A.k (@tt ((Int×List Int)×Int×(Int×List Int))) ((p.b1,p.b2),p.kp,p.lJ,p.lD)) (.br (A.c .neq (A.k aX ((p.b1,p.b2),p.kp,p.lJ,p.lD)).2.2 0) (.ret ((0,0,(0,0,0,0,0),0,([]:List Int)),(A.k aX ((p.b1,p.b2),p.kp,p.lJ,p.lD)).2.2)) (.br (A.c .eql p.kp 2) (.more (.c2 ⟨p.b3,p.b4,p.b5,p.b6,p.b7,(A.k aX ((p.b1,p.b2),p.kp,p.lJ,p.lD)).1.1,(A.k aX ((p.b1,p.b2),p.kp,p.lJ,p.lD)).1.2,p.b3,p.b4,p.b5,p.b6,p.b7,p.b8,p.b9,p.b10,p.b11,p.b12,p.b13,p.wJ,p.xF,p.kp,p.lH,p.lq,p.lC,p.qq,p.qD,p.qJ,p.oy,(A.k aX ((p.b1,p.b2),p.kp,p.lJ,p.lD)).2.1.1,(A.k aX ((p.b1,p.b2),p.kp,p.lJ,p.lD)).2.1.2⟩ 0 p.zW 0 0 0 0 0 0 0 0)) (.br (A.c .eql p.kp 4) (.more (.c3 ⟨(A.k aX ((p.b1,p.b2),p.kp,p.lJ,p.lD)).1.1,(A.k aX ((p.b1,p.b2),p.kp,p.lJ,p.lD)).1.2,p.b3,p.b4,p.b5,p.b6,p.b7,p.b8,p.b9,p.b10,p.b11,p.b12,p.b13,p.wJ,p.xF,p.kp,p.lH,p.lq,p.lC,p.qq,p.qD,p.qJ,p.oy,(A.k aX ((p.b1,p.b2),p.kp,p.lJ,p.lD)).2.1.1,(A.k aX ((p.b1,p.b2),p.kp,p.lJ,p.lD)).2.1.2⟩ 0 55 0 0 0 0 0 0 0 0)) (.br (A.c .eql p.kp 3) (.need (A.k (@tt ((Int×List Int))) (A.k aX ((p.b1,p.b2),p.kp,p.lJ,p.lD)).2.1) (.br (A.c .neq (A.k gp (A.k aX ((p.b1,p.b2),p.kp,p.lJ,p.lD)).2.1).2 0) (.ret ((0,0,(0,0,0,0,0),0,([]:List Int)),51)) (.need (A.k (@tt ((Int×Int×(Int×Int×Int×Int×Int)×Int×List Int))) (p.kp,p.lH,(A.k gp (A.k aX ((p.b1,p.b2),p.kp,p.lJ,p.lD)).2.1).1,p.oy,([]:List Int))) (.br (A.c .neq (A.k nF (p.kp,p.lH,(A.k gp (A.k aX ((p.b1,p.b2),p.kp,p.lJ,p.lD)).2.1).1,p.oy,([]:List Int))) 0) (.ret ((0,0,(0,0,0,0,0),0,([]:List Int)),51)) (.ret ((p.kp,p.lH,(A.k gp (A.k aX ((p.b1,p.b2),p.kp,p.lJ,p.lD)).2.1).1,p.oy,([]:List Int)),0)))))) (.need (A.k (@tt ((Int×Int×(Int×Int×Int×Int×Int)×Int×List Int))) (p.kp,p.lH,(p.lq,p.lC,p.qq,p.qD,p.qJ),p.oy,([]:List Int))) (.br (A.c .neq (A.k nF (p.kp,p.lH,(p.lq,p.lC,p.qq,p.qD,p.qJ),p.oy,([]:List Int))) 0) (.ret ((0,0,(0,0,0,0,0),0,([]:List Int)),51)) (.ret ((p.kp,p.lH,(p.lq,p.lC,p.qq,p.qD,p.qJ),p.oy,([]:List Int)),0)))))))))
 | .c2 p c0 c8 c9 c10 c11 c12 c13 c14 kY c16=>.br (A.c .leq (A.b .add .i64 c8 8) p.c6) (.br (A.c .lss c0 8) (.need (A.k (@tt ((Int×List Int)×Int×Int)) ((p.c6,p.c7),c8,8)) (.br (A.c .neq (A.k ar ((p.c6,p.c7),c8,8)).2 0) (.need (A.and (A.c .leq 0 c0) (A.c .lss c0 8)) (.more (.c2 p (A.b .add .i64 c0 1) c8 (A.n yU (A.set [c9,c10,c11,c12,c13,c14,kY,c16] c0 (0:Int)) 0:Int) (A.n yU (A.set [c9,c10,c11,c12,c13,c14,kY,c16] c0 (0:Int)) 1:Int) (A.n yU (A.set [c9,c10,c11,c12,c13,c14,kY,c16] c0 (0:Int)) 2:Int) (A.n yU (A.set [c9,c10,c11,c12,c13,c14,kY,c16] c0 (0:Int)) 3:Int) (A.n yU (A.set [c9,c10,c11,c12,c13,c14,kY,c16] c0 (0:Int)) 4:Int) (A.n yU (A.set [c9,c10,c11,c12,c13,c14,kY,c16] c0 (0:Int)) 5:Int) (A.n yU (A.set [c9,c10,c11,c12,c13,c14,kY,c16] c0 (0:Int)) 6:Int) (A.n yU (A.set [c9,c10,c11,c12,c13,c14,kY,c16] c0 (0:Int)) 7:Int)))) (.need (A.and (A.c .leq 0 c0) (A.c .lss c0 8)) (.more (.c2 p (A.b .add .i64 c0 1) (A.b .add .i64 c8 8) (A.n yU (A.set [c9,c10,c11,c12,c13,c14,kY,c16] c0 (A.v .u8 (A.v .i64 (A.k ar ((p.c6,p.c7),c8,8)).1))) 0:Int) (A.n yU (A.set [c9,c10,c11,c12,c13,c14,kY,c16] c0 (A.v .u8 (A.v .i64 (A.k ar ((p.c6,p.c7),c8,8)).1))) 1:Int) (A.n yU (A.set [c9,c10,c11,c12,c13,c14,kY,c16] c0 (A.v .u8 (A.v .i64 (A.k ar ((p.c6,p.c7),c8,8)).1))) 2:Int) (A.n yU (A.set [c9,c10,c11,c12,c13,c14,kY,c16] c0 (A.v .u8 (A.v .i64 (A.k ar ((p.c6,p.c7),c8,8)).1))) 3:Int) (A.n yU (A.set [c9,c10,c11,c12,c13,c14,kY,c16] c0 (A.v .u8 (A.v .i64 (A.k ar ((p.c6,p.c7),c8,8)).1))) 4:Int) (A.n yU (A.set [c9,c10,c11,c12,c13,c14,kY,c16] c0 (A.v .u8 (A.v .i64 (A.k ar ((p.c6,p.c7),c8,8)).1))) 5:Int) (A.n yU (A.set [c9,c10,c11,c12,c13,c14,kY,c16] c0 (A.v .u8 (A.v .i64 (A.k ar ((p.c6,p.c7),c8,8)).1))) 6:Int) (A.n yU (A.set [c9,c10,c11,c12,c13,c14,kY,c16] c0 (A.v .u8 (A.v .i64 (A.k ar ((p.c6,p.c7),c8,8)).1))) 7:Int)))))) (.need (A.and (A.c .eql c0 c0) (A.and (A.c .leq 0 c0) (A.c .leq c0 140737488355328))) (.eqs ((.ptr 4 2:AV)=.ptr 4 2) (.eqs ((.agg [.int .i64 false p.GL,.int .i64 false p.E2,.int .i64 false p.c19,.int .i64 false p.c20,.int .i64 false p.c21]:AV)=.agg [.int .i64 false p.c1,.int .i64 false p.c2,.int .i64 false p.c3,.int .i64 false p.c4,.int .i64 false p.c5]) (.need (A.k (@tt ((Int×Int×(Int×Int×Int×Int×Int)×Int×List Int))) (p.zX,p.c31,(p.c1,p.c2,p.c3,p.c4,p.c5),p.c37,(A.spl (A.r c0 (0:Int)) 0 (A.s [c9,c10,c11,c12,c13,c14,kY,c16] 0 (A.mn (A.l [c9,c10,c11,c12,c13,c14,kY,c16]) (A.l (A.r c0 (0:Int)))))))) (.br (A.c .neq (A.k nF (p.zX,p.c31,(p.c1,p.c2,p.c3,p.c4,p.c5),p.c37,(A.spl (A.r c0 (0:Int)) 0 (A.s [c9,c10,c11,c12,c13,c14,kY,c16] 0 (A.mn (A.l [c9,c10,c11,c12,c13,c14,kY,c16]) (A.l (A.r c0 (0:Int)))))))) 0) (.ret ((0,0,(0,0,0,0,0),0,([]:List Int)),51)) (.ret ((p.zX,p.c31,(p.c1,p.c2,p.c3,p.c4,p.c5),p.c37,(A.spl (A.r c0 (0:Int)) 0 (A.s [c9,c10,c11,c12,c13,c14,kY,c16] 0 (A.mn (A.l [c9,c10,c11,c12,c13,c14,kY,c16]) (A.l (A.r c0 (0:Int))))))),0)))))))) (.need (A.and (A.c .eql c0 c0) (A.and (A.c .leq 0 c0) (A.c .leq c0 140737488355328))) (.eqs ((.ptr 4 2:AV)=.ptr 4 2) (.eqs ((.agg [.int .i64 false p.GL,.int .i64 false p.E2,.int .i64 false p.c19,.int .i64 false p.c20,.int .i64 false p.c21]:AV)=.agg [.int .i64 false p.c1,.int .i64 false p.c2,.int .i64 false p.c3,.int .i64 false p.c4,.int .i64 false p.c5]) (.need (A.k (@tt ((Int×Int×(Int×Int×Int×Int×Int)×Int×List Int))) (p.zX,p.c31,(p.c1,p.c2,p.c3,p.c4,p.c5),p.c37,(A.spl (A.r c0 (0:Int)) 0 (A.s [c9,c10,c11,c12,c13,c14,kY,c16] 0 (A.mn (A.l [c9,c10,c11,c12,c13,c14,kY,c16]) (A.l (A.r c0 (0:Int)))))))) (.br (A.c .neq (A.k nF (p.zX,p.c31,(p.c1,p.c2,p.c3,p.c4,p.c5),p.c37,(A.spl (A.r c0 (0:Int)) 0 (A.s [c9,c10,c11,c12,c13,c14,kY,c16] 0 (A.mn (A.l [c9,c10,c11,c12,c13,c14,kY,c16]) (A.l (A.r c0 (0:Int)))))))) 0) (.ret ((0,0,(0,0,0,0,0),0,([]:List Int)),51)) (.ret ((p.zX,p.c31,(p.c1,p.c2,p.c3,p.c4,p.c5),p.c37,(A.spl (A.r c0 (0:Int)) 0 (A.s [c9,c10,c11,c12,c13,c14,kY,c16] 0 (A.mn (A.l [c9,c10,c11,c12,c13,c14,kY,c16]) (A.l (A.r c0 (0:Int))))))),0)))))))
 | .c3 p d0 d3 d4 d5 d6 d7 d8 d9 nj mZ=>.br (A.c .leq (A.b .add .i64 d3 8) p.d1) (.br (A.c .lss d0 8) (.need (A.k (@tt ((Int×List Int)×Int×Int)) ((p.d1,p.d2),d3,8)) (.br (A.c .neq (A.k ar ((p.d1,p.d2),d3,8)).2 0) (.need (A.and (A.c .leq 0 d0) (A.c .lss d0 8)) (.more (.c3 p (A.b .add .i64 d0 1) d3 (A.n yU (A.set [d4,d5,d6,d7,d8,d9,nj,mZ] d0 (0:Int)) 0:Int) (A.n yU (A.set [d4,d5,d6,d7,d8,d9,nj,mZ] d0 (0:Int)) 1:Int) (A.n yU (A.set [d4,d5,d6,d7,d8,d9,nj,mZ] d0 (0:Int)) 2:Int) (A.n yU (A.set [d4,d5,d6,d7,d8,d9,nj,mZ] d0 (0:Int)) 3:Int) (A.n yU (A.set [d4,d5,d6,d7,d8,d9,nj,mZ] d0 (0:Int)) 4:Int) (A.n yU (A.set [d4,d5,d6,d7,d8,d9,nj,mZ] d0 (0:Int)) 5:Int) (A.n yU (A.set [d4,d5,d6,d7,d8,d9,nj,mZ] d0 (0:Int)) 6:Int) (A.n yU (A.set [d4,d5,d6,d7,d8,d9,nj,mZ] d0 (0:Int)) 7:Int)))) (.need (A.and (A.c .leq 0 d0) (A.c .lss d0 8)) (.more (.c3 p (A.b .add .i64 d0 1) (A.b .add .i64 d3 8) (A.n yU (A.set [d4,d5,d6,d7,d8,d9,nj,mZ] d0 (A.v .u8 (A.v .i64 (A.k ar ((p.d1,p.d2),d3,8)).1))) 0:Int) (A.n yU (A.set [d4,d5,d6,d7,d8,d9,nj,mZ] d0 (A.v .u8 (A.v .i64 (A.k ar ((p.d1,p.d2),d3,8)).1))) 1:Int) (A.n yU (A.set [d4,d5,d6,d7,d8,d9,nj,mZ] d0 (A.v .u8 (A.v .i64 (A.k ar ((p.d1,p.d2),d3,8)).1))) 2:Int) (A.n yU (A.set [d4,d5,d6,d7,d8,d9,nj,mZ] d0 (A.v .u8 (A.v .i64 (A.k ar ((p.d1,p.d2),d3,8)).1))) 3:Int) (A.n yU (A.set [d4,d5,d6,d7,d8,d9,nj,mZ] d0 (A.v .u8 (A.v .i64 (A.k ar ((p.d1,p.d2),d3,8)).1))) 4:Int) (A.n yU (A.set [d4,d5,d6,d7,d8,d9,nj,mZ] d0 (A.v .u8 (A.v .i64 (A.k ar ((p.d1,p.d2),d3,8)).1))) 5:Int) (A.n yU (A.set [d4,d5,d6,d7,d8,d9,nj,mZ] d0 (A.v .u8 (A.v .i64 (A.k ar ((p.d1,p.d2),d3,8)).1))) 6:Int) (A.n yU (A.set [d4,d5,d6,d7,d8,d9,nj,mZ] d0 (A.v .u8 (A.v .i64 (A.k ar ((p.d1,p.d2),d3,8)).1))) 7:Int)))))) (.need (A.and (A.c .eql d0 d0) (A.and (A.c .leq 0 d0) (A.c .leq d0 140737488355328))) (.need (A.k (@tt ((Int×List Int))) (p.xR,p.xf)) (.br (A.c .neq (A.k gp (p.xR,p.xf)).2 0) (.ret ((0,0,(0,0,0,0,0),0,([]:List Int)),51)) (.need (A.k (@tt ((Int×Int×(Int×Int×Int×Int×Int)×Int×List Int))) (p.Cu,p.C6,(A.k gp (p.xR,p.xf)).1,p.Cq,(A.spl (A.r d0 (0:Int)) 0 (A.s [d4,d5,d6,d7,d8,d9,nj,mZ] 0 (A.mn (A.l [d4,d5,d6,d7,d8,d9,nj,mZ]) (A.l (A.r d0 (0:Int)))))))) (.br (A.c .neq (A.k nF (p.Cu,p.C6,(A.k gp (p.xR,p.xf)).1,p.Cq,(A.spl (A.r d0 (0:Int)) 0 (A.s [d4,d5,d6,d7,d8,d9,nj,mZ] 0 (A.mn (A.l [d4,d5,d6,d7,d8,d9,nj,mZ]) (A.l (A.r d0 (0:Int)))))))) 0) (.ret ((0,0,(0,0,0,0,0),0,([]:List Int)),51)) (.ret ((p.Cu,p.C6,(A.k gp (p.xR,p.xf)).1,p.Cq,(A.spl (A.r d0 (0:Int)) 0 (A.s [d4,d5,d6,d7,d8,d9,nj,mZ] 0 (A.mn (A.l [d4,d5,d6,d7,d8,d9,nj,mZ]) (A.l (A.r d0 (0:Int))))))),0)))))))) (.need (A.and (A.c .eql d0 d0) (A.and (A.c .leq 0 d0) (A.c .leq d0 140737488355328))) (.need (A.k (@tt ((Int×List Int))) (p.xR,p.xf)) (.br (A.c .neq (A.k gp (p.xR,p.xf)).2 0) (.ret ((0,0,(0,0,0,0,0),0,([]:List Int)),51)) (.need (A.k (@tt ((Int×Int×(Int×Int×Int×Int×Int)×Int×List Int))) (p.Cu,p.C6,(A.k gp (p.xR,p.xf)).1,p.Cq,(A.spl (A.r d0 (0:Int)) 0 (A.s [d4,d5,d6,d7,d8,d9,nj,mZ] 0 (A.mn (A.l [d4,d5,d6,d7,d8,d9,nj,mZ]) (A.l (A.r d0 (0:Int)))))))) (.br (A.c .neq (A.k nF (p.Cu,p.C6,(A.k gp (p.xR,p.xf)).1,p.Cq,(A.spl (A.r d0 (0:Int)) 0 (A.s [d4,d5,d6,d7,d8,d9,nj,mZ] 0 (A.mn (A.l [d4,d5,d6,d7,d8,d9,nj,mZ]) (A.l (A.r d0 (0:Int)))))))) 0) (.ret ((0,0,(0,0,0,0,0),0,([]:List Int)),51)) (.ret ((p.Cu,p.C6,(A.k gp (p.xR,p.xf)).1,p.Cq,(A.spl (A.r d0 (0:Int)) 0 (A.s [d4,d5,d6,d7,d8,d9,nj,mZ] 0 (A.mn (A.l [d4,d5,d6,d7,d8,d9,nj,mZ]) (A.l (A.r d0 (0:Int))))))),0)))))))
theorem aH{R Y:Type}{step:Y→LT R Y}{t:LT R Y}{r r':R}(h:r=r')(h2:aD step t r):aD step t r':=h▸h2
theorem Ko{S:List Int}(h:S.length=8):[S.getD 0 0,S.getD 1 0,S.getD 2 0,S.getD 3 0,S.getD 4 0,S.getD 5 0,S.getD 6 0,S.getD 7 0]=S:=by
 match S,h with
 | [_,_,_,_,_,_,_,_],_=>rfl
theorem rq(k:Nat):∀l:List Bool,aO (k+1) l=aO k l ++ [((dD ((l.drop (8*k)).take 8):Nat):Int)]:=by
 induction k with
 | zero=>intro l;rfl
 | succ k ih=>
   intro l
   rw[aO,ih,aO,List.cons_append,List.drop_drop,show 8+8*k=8*(k+1) from by omega]
theorem He{m d a:Nat}{b:List Int}(hok:bw ((m:Int),b)=true)(hm:m=a+8*d)(hd:d≤8)(ha:a≤100):∀(j i:Nat) (p:Kj) (x0 x1 x2 x3 x4 x5 x6 x7:Int),p.c6=(m:Int)→p.c7=b→p.GL=p.c1→p.E2=p.c2→p.c19=p.c3→p.c20=p.c4→p.c21=p.c5→ [x0,x1,x2,x3,x4,x5,x6,x7]=aO i ((unpack m b).drop a)++List.replicate (8-i) 0→d-i=j→i≤d→
  aD (Au ah) (.more (.c2 p (i:Int) ((a+8*i:Nat):Int) x0 x1 x2 x3 x4 x5 x6 x7)) (bif fF (p.zX,p.c31,(p.c1,p.c2,p.c3,p.c4,p.c5),p.c37,aO d ((unpack m b).drop a)) then((p.zX,p.c31,(p.c1,p.c2,p.c3,p.c4,p.c5),p.c37,aO d ((unpack m b).drop a)),0) else(cy,51)):=by
 intro j
 induction j with
 | zero=>
   intro i p x0 x1 x2 x3 x4 x5 x6 x7 h6 h7 h17 h18 h19 h20 h21 hR hj hi
   have:i=d:=by omega
   subst this
   have hdl:=cH i ((unpack m b).drop a)
   have hD:(ah.spl (ah.r (i:Int) (0:Int)) 0 (ah.s [x0,x1,x2,x3,x4,x5,x6,x7] 0 (ah.mn (ah.l [x0,x1,x2,x3,x4,x5,x6,x7]) (ah.l (ah.r (i:Int) (0:Int))))):List Int)=aO i ((unpack m b).drop a):=by
    rw[hR]
    have e1:ah.r (i:Int) (0:Int)=List.replicate i 0:=by rw[mY,Int.toNat_natCast]
    rw[e1]
    have e2:ah.mn (ah.l (aO i ((unpack m b).drop a)++List.replicate (8-i) (0:Int))) (ah.l (List.replicate i (0:Int)))=(i:Int):=by
     show(if ((List.replicate i (0:Int)).length:Int)<((aO i ((unpack m b).drop a)++List.replicate (8-i) (0:Int)).length:Int) then((List.replicate i (0:Int)).length:Int) else((aO i ((unpack m b).drop a)++List.replicate (8-i) (0:Int)).length:Int))=_
     rw[List.length_append,hdl,List.length_replicate,List.length_replicate]
     split<;>omega
    have hT:(aO i ((unpack m b).drop a)++List.replicate (8-i) (0:Int)).take i=aO i ((unpack m b).drop a):=by rw[List.take_append_of_le_length (by omega),List.take_of_length_le (by omega)]
    rw[e2,kr,pQ,Int.toNat_natCast,hT]
    show(List.replicate i (0:Int)).take 0++(aO i ((unpack m b).drop a)).drop 0++(List.replicate i (0:Int)).drop (0+((aO i ((unpack m b).drop a)).drop 0).length)=_
    rw[List.drop_zero,hdl,List.drop_replicate,show i-(0+i)=0 from by omega,List.replicate_zero,List.take_zero,List.nil_append,List.append_nil]
   rw[ak,Au]
   refine(ai (by rw[h6,show ah.b .add .i64 ((a+8*i:Nat):Int) 8=((a+8*i+8:Nat):Int) from fC (j:=8) (by omega),i_];simp;omega)).2 ?_
   refine af.2 ⟨by rw[o_ rfl,gf,ax,aL,aL];simp;omega,e_.2 ⟨rfl,e_.2 ⟨by rw[h17,h18,h19,h20,h21],af.2 ⟨rfl,?_⟩⟩⟩⟩
   have hchk:ah.k nF (p.zX,p.c31,(p.c1,p.c2,p.c3,p.c4,p.c5),p.c37,(ah.spl (ah.r (i:Int) (0:Int)) 0 (ah.s [x0,x1,x2,x3,x4,x5,x6,x7] 0 (ah.mn (ah.l [x0,x1,x2,x3,x4,x5,x6,x7]) (ah.l (ah.r (i:Int) (0:Int)))))))=bif fF (p.zX,p.c31,(p.c1,p.c2,p.c3,p.c4,p.c5),p.c37,aO i ((unpack m b).drop a)) then 0 else 50:=by rw[hD];exact sZ
   cases hf:fF (p.zX,p.c31,(p.c1,p.c2,p.c3,p.c4,p.c5),p.c37,aO i ((unpack m b).drop a))
   ·rw[hf] at hchk
    exact(aj (eU (by rw[hchk];decide))).2 (.ret _)
   ·rw[hf] at hchk
    refine(ai (cr hchk)).2 ?_
    exact aT (congrArg (fun z=>LT.ret ((p.zX,p.c31,(p.c1,p.c2,p.c3,p.c4,p.c5),p.c37,z),(0:Int))) hD) (.ret _)
 | succ j ih=>
   intro i p x0 x1 x2 x3 x4 x5 x6 x7 h6 h7 h17 h18 h19 h20 h21 hR hj hi
   have hmb:m≤4096:=by
    simp only[bw,Bool.and_eq_true,decide_eq_true_eq] at hok
    omega
   have hg:ah.k ar ((p.c6,p.c7),((a+8*i:Nat):Int),8)=(((bf (unpack m b) (a+8*i) 8:Nat):Int),0):=by
    rw[h6,h7];exact jq hok (w:=8) (by omega) (by decide) hmb
   have hf:=dT (unpack m b) (a+8*i) 8
   have hv:ah.v .u8 (ah.v .i64 (ah.k ar ((p.c6,p.c7),((a+8*i:Nat):Int),8)).1)=((bf (unpack m b) (a+8*i) 8:Nat):Int):=by
    rw[hg,aY,aY,fU (by omega) (by omega),w8 (by omega) (by omega)]
   have hn8:ah.and (ah.c .leq 0 (i:Int)) (ah.c .lss (i:Int) 8)=true:=by rw[gf,ao,aL];simp;omega
   rw[ak,Au]
   refine(aj (by rw[h6,show ah.b .add .i64 ((a+8*i:Nat):Int) 8=((a+8*i+8:Nat):Int) from fC (j:=8) (by omega),i_];simp;omega)).2 ?_
   refine(aj (by rw[ao];simp;omega)).2 (af.2 ⟨rfl,(ai (cr (congrArg Prod.snd hg))).2 (af.2 ⟨hn8,?_⟩)⟩)
   obtain⟨S,hS⟩:∃S:List Int,S=([x0,x1,x2,x3,x4,x5,x6,x7]:List Int).set (i:Int).toNat (ah.v .u8 (ah.v .i64 (ah.k ar ((p.c6,p.c7),((a+8*i:Nat):Int),8)).1)):=⟨_,rfl⟩
   have hSl:S.length=8:=by rw[hS,List.length_set];rfl
   have hSv:S=aO (i+1) ((unpack m b).drop a)++List.replicate (8-(i+1)) 0:=by
    rw[hS,hv,hR,Int.toNat_natCast,List.set_append_right _ _ (by rw[cH];exact Nat.le_refl _),cH,Nat.sub_self,rq,show 8-i=(8-(i+1))+1 from by omega,List.replicate_succ,List.set_cons_zero,List.append_assoc,List.drop_drop]
    rfl
   have hm':=ih (i+1) p (S.getD 0 0) (S.getD 1 0) (S.getD 2 0) (S.getD 3 0) (S.getD 4 0) (S.getD 5 0) (S.getD 6 0) (S.getD 7 0) h6 h7 h17 h18 h19 h20 h21 ((Ko hSl).trans hSv) (by omega) (by omega)
   have e:Kd.c2 p (ah.b .add .i64 (i:Int) 1) (ah.b .add .i64 ((a+8*i:Nat):Int) 8) (S.getD 0 0) (S.getD 1 0) (S.getD 2 0) (S.getD 3 0) (S.getD 4 0) (S.getD 5 0) (S.getD 6 0) (S.getD 7 0)=Kd.c2 p ((i+1:Nat):Int) ((a+8*(i+1):Nat):Int) (S.getD 0 0) (S.getD 1 0) (S.getD 2 0) (S.getD 3 0) (S.getD 4 0) (S.getD 5 0) (S.getD 6 0) (S.getD 7 0):=by
    rw[dI (by omega),show ah.b .add .i64 ((a+8*i:Nat):Int) 8=((a+8*(i+1):Nat):Int) from fC (j:=8) (by omega)]
   have hm2:=aT (congrArg LT.more e) hm'
   subst hS
   exact hm2
theorem Il{m d a:Nat}{b:List Int}(hok:bw ((m:Int),b)=true)(hm:m=a+8*d)(hd:d≤8)(ha:a≤100):∀(j i:Nat) (p:JF) (x0 x1 x2 x3 x4 x5 x6 x7:Int),p.d1=(m:Int)→p.d2=b→ [x0,x1,x2,x3,x4,x5,x6,x7]=aO i ((unpack m b).drop a)++List.replicate (8-i) 0→d-i=j→i≤d→
  aD (Au ah) (.more (.c3 p (i:Int) ((a+8*i:Nat):Int) x0 x1 x2 x3 x4 x5 x6 x7)) (bif (dH (p.xR,p.xf)).2 != 0 then(cy,51) else bif fF (p.Cu,p.C6,(dH (p.xR,p.xf)).1,p.Cq,aO d ((unpack m b).drop a)) then((p.Cu,p.C6,(dH (p.xR,p.xf)).1,p.Cq,aO d ((unpack m b).drop a)),0) else(cy,51)):=by
 intro j
 induction j with
 | zero=>
   intro i p x0 x1 x2 x3 x4 x5 x6 x7 h6 h7 hR hj hi
   have:i=d:=by omega
   subst this
   have hdl:=cH i ((unpack m b).drop a)
   have hD:(ah.spl (ah.r (i:Int) (0:Int)) 0 (ah.s [x0,x1,x2,x3,x4,x5,x6,x7] 0 (ah.mn (ah.l [x0,x1,x2,x3,x4,x5,x6,x7]) (ah.l (ah.r (i:Int) (0:Int))))):List Int)=aO i ((unpack m b).drop a):=by
    rw[hR]
    have e1:ah.r (i:Int) (0:Int)=List.replicate i 0:=by rw[mY,Int.toNat_natCast]
    rw[e1]
    have e2:ah.mn (ah.l (aO i ((unpack m b).drop a)++List.replicate (8-i) (0:Int))) (ah.l (List.replicate i (0:Int)))=(i:Int):=by
     show(if ((List.replicate i (0:Int)).length:Int)<((aO i ((unpack m b).drop a)++List.replicate (8-i) (0:Int)).length:Int) then((List.replicate i (0:Int)).length:Int) else((aO i ((unpack m b).drop a)++List.replicate (8-i) (0:Int)).length:Int))=_
     rw[List.length_append,hdl,List.length_replicate,List.length_replicate]
     split<;>omega
    have hT:(aO i ((unpack m b).drop a)++List.replicate (8-i) (0:Int)).take i=aO i ((unpack m b).drop a):=by rw[List.take_append_of_le_length (by omega),List.take_of_length_le (by omega)]
    rw[e2,kr,pQ,Int.toNat_natCast,hT]
    show(List.replicate i (0:Int)).take 0++(aO i ((unpack m b).drop a)).drop 0++(List.replicate i (0:Int)).drop (0+((aO i ((unpack m b).drop a)).drop 0).length)=_
    rw[List.drop_zero,hdl,List.drop_replicate,show i-(0+i)=0 from by omega,List.replicate_zero,List.take_zero,List.nil_append,List.append_nil]
   rw[ak,Au]
   refine(ai (by rw[h6,show ah.b .add .i64 ((a+8*i:Nat):Int) 8=((a+8*i+8:Nat):Int) from fC (j:=8) (by omega),i_];simp;omega)).2 ?_
   refine af.2 ⟨by rw[o_ rfl,gf,ax,aL,aL];simp;omega,af.2 ⟨rfl,?_⟩⟩
   cases he:((dH (p.xR,p.xf)).2 != 0)
   ·refine(ai he).2 (af.2 ⟨rfl,?_⟩)
    have hchk:ah.k nF (p.Cu,p.C6,(ah.k gp (p.xR,p.xf)).1,p.Cq,(ah.spl (ah.r (i:Int) (0:Int)) 0 (ah.s [x0,x1,x2,x3,x4,x5,x6,x7] 0 (ah.mn (ah.l [x0,x1,x2,x3,x4,x5,x6,x7]) (ah.l (ah.r (i:Int) (0:Int)))))))=bif fF (p.Cu,p.C6,(dH (p.xR,p.xf)).1,p.Cq,aO i ((unpack m b).drop a)) then 0 else 50:=by rw[hD];exact sZ
    cases hf:fF (p.Cu,p.C6,(dH (p.xR,p.xf)).1,p.Cq,aO i ((unpack m b).drop a))
    ·rw[hf] at hchk
     exact(aj (eU (by rw[hchk];decide))).2 (.ret _)
    ·rw[hf] at hchk
     refine(ai (cr hchk)).2 ?_
     exact aT (congrArg (fun z=>LT.ret ((p.Cu,p.C6,(dH (p.xR,p.xf)).1,p.Cq,z),(0:Int))) hD) (.ret _)
   ·exact(aj he).2 (.ret _)
 | succ j ih=>
   intro i p x0 x1 x2 x3 x4 x5 x6 x7 h6 h7 hR hj hi
   have hmb:m≤4096:=by
    simp only[bw,Bool.and_eq_true,decide_eq_true_eq] at hok
    omega
   have hg:ah.k ar ((p.d1,p.d2),((a+8*i:Nat):Int),8)=(((bf (unpack m b) (a+8*i) 8:Nat):Int),0):=by
    rw[h6,h7];exact jq hok (w:=8) (by omega) (by decide) hmb
   have hf:=dT (unpack m b) (a+8*i) 8
   have hv:ah.v .u8 (ah.v .i64 (ah.k ar ((p.d1,p.d2),((a+8*i:Nat):Int),8)).1)=((bf (unpack m b) (a+8*i) 8:Nat):Int):=by
    rw[hg,aY,aY,fU (by omega) (by omega),w8 (by omega) (by omega)]
   have hn8:ah.and (ah.c .leq 0 (i:Int)) (ah.c .lss (i:Int) 8)=true:=by rw[gf,ao,aL];simp;omega
   rw[ak,Au]
   refine(aj (by rw[h6,show ah.b .add .i64 ((a+8*i:Nat):Int) 8=((a+8*i+8:Nat):Int) from fC (j:=8) (by omega),i_];simp;omega)).2 ?_
   refine(aj (by rw[ao];simp;omega)).2 (af.2 ⟨rfl,(ai (cr (congrArg Prod.snd hg))).2 (af.2 ⟨hn8,?_⟩)⟩)
   obtain⟨S,hS⟩:∃S:List Int,S=([x0,x1,x2,x3,x4,x5,x6,x7]:List Int).set (i:Int).toNat (ah.v .u8 (ah.v .i64 (ah.k ar ((p.d1,p.d2),((a+8*i:Nat):Int),8)).1)):=⟨_,rfl⟩
   have hSl:S.length=8:=by rw[hS,List.length_set];rfl
   have hSv:S=aO (i+1) ((unpack m b).drop a)++List.replicate (8-(i+1)) 0:=by
    rw[hS,hv,hR,Int.toNat_natCast,List.set_append_right _ _ (by rw[cH];exact Nat.le_refl _),cH,Nat.sub_self,rq,show 8-i=(8-(i+1))+1 from by omega,List.replicate_succ,List.set_cons_zero,List.append_assoc,List.drop_drop]
    rfl
   have hm':=ih (i+1) p (S.getD 0 0) (S.getD 1 0) (S.getD 2 0) (S.getD 3 0) (S.getD 4 0) (S.getD 5 0) (S.getD 6 0) (S.getD 7 0) h6 h7 ((Ko hSl).trans hSv) (by omega) (by omega)
   have e:Kd.c3 p (ah.b .add .i64 (i:Int) 1) (ah.b .add .i64 ((a+8*i:Nat):Int) 8) (S.getD 0 0) (S.getD 1 0) (S.getD 2 0) (S.getD 3 0) (S.getD 4 0) (S.getD 5 0) (S.getD 6 0) (S.getD 7 0)=Kd.c3 p ((i+1:Nat):Int) ((a+8*(i+1):Nat):Int) (S.getD 0 0) (S.getD 1 0) (S.getD 2 0) (S.getD 3 0) (S.getD 4 0) (S.getD 5 0) (S.getD 6 0) (S.getD 7 0):=by
    rw[dI (by omega),show ah.b .add .i64 ((a+8*i:Nat):Int) 8=((a+8*(i+1):Nat):Int) from fC (j:=8) (by omega)]
   have hm2:=aT (congrArg LT.more e) hm'
   subst hS
   exact hm2
theorem qX{k:Nat}:∀{a c:Nat} {l:List Bool},a+8*k≤c→c≤l.length→aO k ((l.take c).drop a)=aO k (l.drop a):=by
 induction k with
 | zero=>intro a c l _ _;rfl
 | succ k ih=>
   intro a c l h hc
   rw[aO,aO,List.drop_drop,List.drop_drop,ih (by omega) hc]
   congr 2
   congr 1
   rw[List.drop_take,List.take_take,Nat.min_eq_left (by omega)]
theorem Jd{n a w:Nat}{b:List Int}(hok:bw ((n:Int),b)=true)(h:n<a+w):ah.k ar (((n:Int),b),(a:Int),(w:Int))=(0,2):=by
 rw[al,ar,Dh]
 simp only[hok,Bool.not_true,cond_false]
 rw[show decide ((n:Int)<(a:Int)+(w:Int))=true from by simp;omega,Bool.or_true]
 rfl
theorem Cr{n t p m x s:Int}{b:List Int}(h:Ty.du [(.struct [(.int .i64),(.slice (.int .u8))]),(.struct [(.int .i64),(.int .i64),(.int .i64),(.int .i64),(.int .i64)])] ((n,b),(t,p,m,x,s))):Ty.has (.struct [(.int .i64),(.slice (.int .u8))]) (n,b):=h.1
theorem uJ{q:List Bool}(h:q.length=24):dH (bM q)=bif dX (eZ q) then(eZ q,0) else(zS,40):=by
 rw[dH,ig (by omega),gi,show(bM q).1=24 from by show((q.length:Nat):Int)=24;rw[h];rfl]
 rfl
theorem LP{n t p m x s:Int}{b:List Int}(h:Ty.du [(.struct [(.int .i64),(.slice (.int .u8))]),(.struct [(.int .i64),(.int .i64),(.int .i64),(.int .i64),(.int .i64)])] ((n,b),(t,p,m,x,s))):aD (Au ah) (t50 ah n b t p m x s) (ku ((n,b),(t,p,m,x,s))):=by
 have h1:=Cr h
 have hb:=(dW h1).2.2
 have hl:=dq h1
 unfold t50
 have hc:ah.k iZ (n,b)=bif bw (n,b) then 0 else 10:=jP hb hl
 refine af.2 ⟨rfl,?_⟩
 show aD (Au ah) _ (bif !bw (n,b) then(cy,10) else bif !dX (t,p,m,x,s) then(cy,40) else nC (bE (n,b)) (t,p,m,x,s))
 cases hok:bw (n,b)
 ·rw[hok] at hc
  refine(aj (eU (by rw[hc];decide))).2 ?_
  exact aT (congrArg (fun z=>LT.ret (((0,0,(0,0,0,0,0),0,([]:List Int)):Int×Int×(Int×Int×Int×Int×Int)×Int×List Int),z)) hc) (.ret _)
 rw[hok] at hc
 refine(ai (cr hc)).2 (af.2 ⟨rfl,?_⟩)
 rw[Bool.not_true,cond_false]
 have hchk:ah.k jB ((t,p,m,x,s),8)=bif dX (t,p,m,x,s) then 0 else 40:=qt (t,p,m,x,s)
 cases hst:dX (t,p,m,x,s)
 ·rw[hst] at hchk
  exact(aj (eU (by rw[hchk];decide))).2 (.ret _)
 rw[hst] at hchk
 refine(ai (cr hchk)).2 (af.2 ⟨rfl,?_⟩)
 rw[Bool.not_true,cond_false]
 obtain⟨h2,h3,h4⟩:=(fY hb).1 hok
 obtain⟨n,rfl⟩:=Int.eq_ofNat_of_zero_le h2
 have hn:n≤4096:=by omega
 have hlen:(bE ((n:Int),b)).length=n:=by rw[gl];rfl
 have hun:bE ((n:Int),b)=unpack n b:=rfl
 have hlu:(unpack n b).length=n:=aR n b
 rw[hun]
 obtain⟨hp1,hp2,hp3,hp4⟩:=Dd hn
 obtain⟨f2,f4,f1,f3⟩:=EL (n:=n)
 by_cases hs:n<2
 ·refine(aj (eU (by rw[show ah.k ar (((n:Int),b),0,2)=(0,2) from Jd (a:=0) (w:=2) hok (by omega)];decide))).2 (af.2 ⟨rfl,?_⟩)
  rw[AL (by omega)]
  refine(aj (show ah.not (ah.k iQ ((n:Int),1))=true from ?_)).2 (.ret _)
  rw[a_,al,hp1,show eO n 1=false from by rw[←Bool.not_eq_true,f1];omega];rfl
 have g0:ah.k ar (((n:Int),b),0,2)=(((bf (unpack n b) 0 2:Nat):Int),0):=jq (a:=0) (w:=2) hok (by omega) (by decide) hn
 refine(ai (cr (congrArg Prod.snd g0))).2 (af.2 ⟨rfl,?_⟩)
 have hk:=IE (l:=unpack n b) (by omega)
 have hf:=dT (unpack n b) 0 2
 have hK:ah.b .add .i64 (ah.v .i64 (ah.k ar (((n:Int),b),0,2)).1) 1=((bf (unpack n b) 0 2+1:Nat):Int):=by
  rw[g0,aY,fU (by omega) (by omega)];exact dI (by omega)
 rw[hK]
 have g:∀a w:Nat,a+w≤n→w≤64→ah.k ar (((n:Int),b),(a:Int),(w:Int))=(((bf (unpack n b) a w:Nat):Int),0):=fun a w h1 h2=>jq hok h1 h2 hn
 have hcv:∀a w:Nat,w≤8→ah.v .i64 ((bf (unpack n b) a w:Nat):Int)=((bf (unpack n b) a w:Nat):Int):=fun a w hw=>by
  have:=dT (unpack n b) a w
  have hp:2^w≤2^8:=Nat.pow_le_pow_right (by decide) hw
  rw[aY,fU (by omega) (by omega)]
 have hcase:bf (unpack n b) 0 2=0∨bf (unpack n b) 0 2=1∨bf (unpack n b) 0 2=2∨bf (unpack n b) 0 2=3:=by omega
 rcases hcase with h0|h0|h0|h0
 ·-- FrCold
  rw[h0] at hk ⊢
  by_cases hfit:eO n 1=true
  ·have h40:=f1.1 hfit
   refine(ai (show ah.not (ah.k iQ ((n:Int),1))=false by rw[a_,al,hp1,hfit];rfl)).2 ((aj rfl).2 ?_)
   have g1:ah.k ar (((n:Int),b),2,3)=(((bf (unpack n b) 2 3:Nat):Int),0):=g 2 3 (by omega) (by decide)
   have g2:ah.k ar (((n:Int),b),5,8)=(((bf (unpack n b) 5 8:Nat):Int),0):=g 5 8 (by omega) (by decide)
   have g3:ah.k ar (((n:Int),b),13,3)=(((bf (unpack n b) 13 3:Nat):Int),0):=g 13 3 (by omega) (by decide)
   refine af.2 ⟨rfl,(ai (cr (congrArg Prod.snd g1))).2 (af.2 ⟨rfl,(ai (cr (congrArg Prod.snd g2))).2 (af.2 ⟨rfl,(ai (cr (congrArg Prod.snd g3))).2 ?_⟩)⟩)⟩
   rw[ak,Au]
   dsimp only
   rw[Kz hk (by omega)]
   have hz:ah.c .neq (ah.v .i64 (ah.k ar (((n:Int),b),13,3)).1) 0=(bf (unpack n b) 13 3 != 0):=by
    rw[g3,hcv 13 3 (by decide),aF,Bool.eq_iff_iff];simp
   cases hzz:(bf (unpack n b) 13 3 != 0)
   ·refine(ai (hz.trans hzz)).2 (af.2 ⟨rfl,?_⟩)
    have ho:ah.k aX (((n:Int),b),1,((0:Int),([]:List Int)))=((cY (((n:Int),b),(0, []))).1,zB,(cY (((n:Int),b),(0, []))).2):=wO (.inl rfl)
    rw[lX (u:=(0, [])) hok rfl (by omega),show over 0 (bE ((0:Int),([]:List Int)))=0 from rfl,hun] at ho
    cases hov:(over 0 (unpack n b) != 0)
    ·rw[hov] at ho
     refine(ai (cr (congrArg (fun z=>z.2.2) ho))).2 ?_
     refine(ai rfl).2 ((ai rfl).2 ((ai rfl).2 (af.2 ⟨rfl,?_⟩)))
     have l1:=dT (unpack n b) 2 3
     have l2:=dT (unpack n b) 5 8
     have e1:(ah.v .i64 (ah.k ar (((n:Int),b),5,8)).1)=((bf (unpack n b) 5 8:Nat):Int):=by rw[g2];exact hcv 5 8 (by decide)
     have e2:(ah.v .i64 (ah.k ar (((n:Int),b),2,3)).1)=((bf (unpack n b) 2 3:Nat):Int):=by rw[g1];exact hcv 2 3 (by decide)
     rw[e1,e2]
     have hfo:fF (1,0,(((bf (unpack n b) 5 8:Nat):Int),0,0,0,0),((bf (unpack n b) 2 3:Nat):Int), [])=true:=by
      rw[jr,mo];simp;omega
     have hch:ah.k nF (1,0,(((bf (unpack n b) 5 8:Nat):Int),0,0,0,0),((bf (unpack n b) 2 3:Nat):Int), [])=0:=by
      rw[al,sZ,hfo];rfl
     exact(ai (cr hch)).2 (.ret _)
    ·rw[hov] at ho
     have e2:=congrArg (fun z=>z.2.2) ho
     refine(aj (eU (show(ah.k aX (((n:Int),b),1,((0:Int),([]:List Int)))).2.2≠0 from by rw[e2];exact(by decide:(21:Int)≠0)))).2 ?_
     exact aT (congrArg (fun z=>LT.ret (((0,0,(0,0,0,0,0),0,([]:List Int)):Int×Int×(Int×Int×Int×Int×Int)×Int×List Int),z)) e2) (.ret _)
   ·exact(aj (hz.trans hzz)).2 (.ret _)
  ·rw[Bool.not_eq_true] at hfit
   rw[ju (by rw[hlu,hk];exact hfit)]
   exact(aj (show ah.not (ah.k iQ ((n:Int),1))=true by rw[a_,al,hp1,hfit];rfl)).2 (.ret _)
 ·-- FrN
  rw[h0] at hk ⊢
  by_cases hfit:eO n 2=true
  ·have h29:=f2.1 hfit
   refine(ai (show ah.not (ah.k iQ ((n:Int),2))=false by rw[a_,al,hp2,hfit];rfl)).2 ((ai rfl).2 ((aj rfl).2 ?_))
   have g1:ah.k ar (((n:Int),b),2,3)=(((bf (unpack n b) 2 3:Nat):Int),0):=g 2 3 (by omega) (by decide)
   refine af.2 ⟨rfl,(ai (cr (congrArg Prod.snd g1))).2 (af.2 ⟨rfl,?_⟩)⟩
   rw[ak,Au]
   dsimp only
   refine(ai rfl).2 (af.2 ⟨rfl,?_⟩)
   rw[Na hk (by rw[hlu];exact hfit)]
   have hsb:ah.k nU (t,p,m,x,s)=(bM (aW (t,p,m,x,s)),0):=by rw[al,nU,jU,hst];rfl
   have ho:ah.k aX (((n:Int),b),2,(ah.k nU (t,p,m,x,s)).1)=((cY (((n:Int),b),bM (aW (t,p,m,x,s)))).1,zB,(cY (((n:Int),b),bM (aW (t,p,m,x,s)))).2):=by
    rw[hsb];exact wO (.inr rfl)
   rw[lX hok (ig (by rw[nP];decide)) (by omega),gi,hun,hlu] at ho
   cases hov:(over (over 0 (aW (t,p,m,x,s))) (unpack n b) != 0)
   ·rw[hov] at ho
    have o1:=congrArg (fun z=>z.1) ho
    refine(ai (cr (congrArg (fun z=>z.2.2) ho))).2 ((aj rfl).2 ?_)
    have e2:(ah.v .i64 (ah.k ar (((n:Int),b),2,3)).1)=((bf (unpack n b) 2 3:Nat):Int):=by rw[g1];exact hcv 2 3 (by decide)
    rw[e2]
    have hfl:((unpack n b).take (n-24)).length=n-24:=by rw[List.length_take,hlu];omega
    have hrest:=He (m:=n-24) (d:=(n-29)/8) (a:=5) (b:=pack ((unpack n b).take (n-24))) (by have:=ig (l:=(unpack n b).take (n-24)) (by omega);rwa [bM,hfl] at this) (by omega) (by omega) (by decide) ((n-29)/8) 0
     ⟨t,p,m,x,s,(ah.k aX (((n:Int),b),2,(ah.k nU (t,p,m,x,s)).1)).1.1,(ah.k aX (((n:Int),b),2,(ah.k nU (t,p,m,x,s)).1)).1.2,t,p,m,x,s,0,0,0,0,0,0,0,0,2,((bf (unpack n b) 2 3:Nat):Int),0,0,0,0,0,0,(ah.k aX (((n:Int),b),2,(ah.k nU (t,p,m,x,s)).1)).2.1.1,(ah.k aX (((n:Int),b),2,(ah.k nU (t,p,m,x,s)).1)).2.1.2⟩ 0 0 0 0 0 0 0 0
     (by show(ah.k aX (((n:Int),b),2,(ah.k nU (t,p,m,x,s)).1)).1.1=_;rw[o1];show(((unpack n b).take (n-24)).length:Int)=_;rw[hfl]) (by show(ah.k aX (((n:Int),b),2,(ah.k nU (t,p,m,x,s)).1)).1.2=_;rw[o1];rfl) rfl rfl rfl rfl rfl rfl (by omega) (by omega)
    rw[show unpack (n-24) (pack ((unpack n b).take (n-24)))=(unpack n b).take (n-24) from by have:=unpack_pack ((unpack n b).take (n-24));rwa [hfl] at this] at hrest
    refine Eq.mp (congrArg (aD (Au ah) _) ?_) hrest
    have hdd:aO ((n-29)/8) (((unpack n b).take (n-24)).drop 5)=aO (((unpack n b).length-29)/8) ((unpack n b).drop 5):=by
     rw[hlu]
     exact qX (by omega) (by rw[hlu];omega)
    show(bif fF (2,((bf (unpack n b) 2 3:Nat):Int),(t,p,m,x,s),0,aO ((n-29)/8) (((unpack n b).take (n-24)).drop 5)) then((2,((bf (unpack n b) 2 3:Nat):Int),(t,p,m,x,s),0,aO ((n-29)/8) (((unpack n b).take (n-24)).drop 5)),0) else(cy,51))=_
    rw[hdd,cond_false]
    have hfo:fF (2,((bf (unpack n b) 2 3:Nat):Int),(t,p,m,x,s),0,aO (((unpack n b).length-29)/8) ((unpack n b).drop 5))=!decide (4<bf (unpack n b) 2 3):=by
     rw[Bool.eq_iff_iff,jr,hst,cH];simp;omega
    rw[hfo]
    cases decide (4<bf (unpack n b) 2 3)<;>rfl
   ·rw[hov] at ho
    have e2:=congrArg (fun z=>z.2.2) ho
    refine(aj (eU (show(ah.k aX (((n:Int),b),2,(ah.k nU (t,p,m,x,s)).1)).2.2≠0 from by rw[e2];exact(by decide:(21:Int)≠0)))).2 ?_
    exact aT (congrArg (fun z=>LT.ret (((0,0,(0,0,0,0,0),0,([]:List Int)):Int×Int×(Int×Int×Int×Int×Int)×Int×List Int),z)) e2) (.ret _)
  ·rw[Bool.not_eq_true] at hfit
   rw[ju (by rw[hlu,hk];exact hfit)]
   exact(aj (show ah.not (ah.k iQ ((n:Int),2))=true by rw[a_,al,hp2,hfit];rfl)).2 (.ret _)
 ·-- FrI
  rw[h0] at hk ⊢
  rw[show((2+1:Nat):Int)=3 from rfl]
  by_cases hfit:eO n 3=true
  ·have h54:=f3.1 hfit
   refine(ai (show ah.not (ah.k iQ ((n:Int),3))=false by rw[a_,al,hp3,hfit];rfl)).2 ((ai rfl).2 ((ai rfl).2 ?_))
   have g1:ah.k ar (((n:Int),b),2,3)=(((bf (unpack n b) 2 3:Nat):Int),0):=g 2 3 (by omega) (by decide)
   have g2:ah.k ar (((n:Int),b),5,(ah.b .sub .i64 3 2))=(((bf (unpack n b) 5 1:Nat):Int),0):=g 5 1 (by omega) (by decide)
   have e2:(ah.v .i64 (ah.k ar (((n:Int),b),2,3)).1)=((bf (unpack n b) 2 3:Nat):Int):=by rw[g1];exact hcv 2 3 (by decide)
   have hql:(((unpack n b).drop 6).take 24).length=24:=by rw[List.length_take,List.length_drop,hlu];omega
   refine af.2 ⟨rfl,(ai (cr (congrArg Prod.snd g1))).2 ?_⟩
   repeat (first|refine e_.2 ⟨⟨rfl,rfl⟩,?_⟩|refine e_.2 ⟨rfl,?_⟩|refine af.2 ⟨rfl,?_⟩)
   refine(ai (cr (congrArg Prod.snd g2))).2 ?_
   repeat (first|refine e_.2 ⟨⟨rfl,rfl⟩,?_⟩|refine e_.2 ⟨rfl,?_⟩|refine af.2 ⟨rfl,?_⟩)
   rw[ak,Au]
   dsimp only
   rw[LJ hk (by omega)]
   have hz:ah.c .neq (ah.v .i64 (ah.k ar (((n:Int),b),5,(ah.b .sub .i64 3 2))).1) 0=(bf (unpack n b) 5 1 != 0):=by
    rw[g2,hcv 5 1 (by decide),aF,Bool.eq_iff_iff];simp
   cases hzz:(bf (unpack n b) 5 1 != 0)
   ·refine(ai (hz.trans hzz)).2 (af.2 ⟨rfl,?_⟩)
    have ho:ah.k aX (((n:Int),b),3,((0:Int),([]:List Int)))=_:=Cm hok h54
    cases hov:(over 0 (unpack n b) != 0)
    ·rw[hov,cond_false] at ho
     refine(ai (cr (congrArg (fun z=>z.2.2) ho))).2 ((ai rfl).2 ((ai rfl).2 ((aj rfl).2 (af.2 ⟨rfl,?_⟩))))
     have hpz:ah.k gp (ah.k aX (((n:Int),b),3,((0:Int),([]:List Int)))).2.1=bif dX (eZ (((unpack n b).drop 6).take 24)) then(eZ (((unpack n b).drop 6).take 24),0) else(zS,40):=by
      rw[ho];exact uJ hql
     cases hso:dX (eZ (((unpack n b).drop 6).take 24))
     ·rw[hso] at hpz
      exact(aj (eU (show(ah.k gp (ah.k aX (((n:Int),b),3,((0:Int),([]:List Int)))).2.1).2≠0 from by rw[hpz];exact(by decide:(40:Int)≠0)))).2 (.ret _)
     ·rw[hso,cond_true] at hpz
      refine(ai (cr (congrArg Prod.snd hpz))).2 (af.2 ⟨rfl,?_⟩)
      rw[e2,hpz]
      have hfo:fF (3,((bf (unpack n b) 2 3:Nat):Int),eZ (((unpack n b).drop 6).take 24),0, [])=!decide (4<bf (unpack n b) 2 3):=by
       have hso':=hso
       rw[eZ] at hso' ⊢
       rw[Bool.eq_iff_iff,jr,hso'];simp;omega
      have hch:ah.k nF (3,((bf (unpack n b) 2 3:Nat):Int),eZ (((unpack n b).drop 6).take 24),0, [])=bif !decide (4<bf (unpack n b) 2 3) then 0 else 50:=by
       rw[←hfo];exact sZ
      cases hd:decide (4<bf (unpack n b) 2 3)
      ·rw[hd] at hch
       exact(ai (cr hch)).2 (.ret _)
      ·rw[hd] at hch
       exact(aj (eU (show ah.k nF (3,((bf (unpack n b) 2 3:Nat):Int),eZ (((unpack n b).drop 6).take 24),0, [])≠0 from by rw[hch];exact(by decide:(50:Int)≠0)))).2 (.ret _)
    ·rw[hov,cond_true] at ho
     have e3:=congrArg (fun z=>z.2.2) ho
     refine(aj (eU (show(ah.k aX (((n:Int),b),3,((0:Int),([]:List Int)))).2.2≠0 from by rw[e3];exact(by decide:(21:Int)≠0)))).2 ?_
     exact aT (congrArg (fun z=>LT.ret (((0,0,(0,0,0,0,0),0,([]:List Int)):Int×Int×(Int×Int×Int×Int×Int)×Int×List Int),z)) e3) (.ret _)
   ·exact(aj (hz.trans hzz)).2 (.ret _)
  ·rw[Bool.not_eq_true] at hfit
   rw[ju (by rw[hlu,hk];exact hfit)]
   exact(aj (show ah.not (ah.k iQ ((n:Int),3))=true by rw[a_,al,hp3,hfit];rfl)).2 (.ret _)
 ·-- FrX
  rw[h0] at hk ⊢
  rw[show((3+1:Nat):Int)=4 from rfl]
  by_cases hfit:eO n 4=true
  ·have h79:=f4.1 hfit
   refine(ai (show ah.not (ah.k iQ ((n:Int),4))=false by rw[a_,al,hp4,hfit];rfl)).2 ((ai rfl).2 ((ai rfl).2 ?_))
   have g1:ah.k ar (((n:Int),b),2,3)=(((bf (unpack n b) 2 3:Nat):Int),0):=g 2 3 (by omega) (by decide)
   have g2:ah.k ar (((n:Int),b),5,(ah.b .sub .i64 4 2))=(((bf (unpack n b) 5 2:Nat):Int),0):=g 5 2 (by omega) (by decide)
   have e2:(ah.v .i64 (ah.k ar (((n:Int),b),2,3)).1)=((bf (unpack n b) 2 3:Nat):Int):=by rw[g1];exact hcv 2 3 (by decide)
   have hql:(((unpack n b).drop 7).take 24).length=24:=by rw[List.length_take,List.length_drop,hlu];omega
   refine af.2 ⟨rfl,(ai (cr (congrArg Prod.snd g1))).2 ?_⟩
   repeat (first|refine e_.2 ⟨⟨rfl,rfl⟩,?_⟩|refine e_.2 ⟨rfl,?_⟩|refine af.2 ⟨rfl,?_⟩)
   refine(ai (cr (congrArg Prod.snd g2))).2 ?_
   repeat (first|refine e_.2 ⟨⟨rfl,rfl⟩,?_⟩|refine e_.2 ⟨rfl,?_⟩|refine af.2 ⟨rfl,?_⟩)
   rw[ak,Au]
   dsimp only
   rw[LO hk (by rw[hlu];exact hfit)]
   have hz:ah.c .neq (ah.v .i64 (ah.k ar (((n:Int),b),5,(ah.b .sub .i64 4 2))).1) 0=(bf (unpack n b) 5 2 != 0):=by
    rw[g2,hcv 5 2 (by decide),aF,Bool.eq_iff_iff];simp
   cases hzz:(bf (unpack n b) 5 2 != 0)
   ·refine(ai (hz.trans hzz)).2 (af.2 ⟨rfl,?_⟩)
    have ho:ah.k aX (((n:Int),b),4,((0:Int),([]:List Int)))=_:=C8 hok h79.1 h79.2.1
    cases hov:(over 0 ((unpack n b).take 55) != 0)
    ·cases hov2:(over (over 0 (((unpack n b).drop 7).take 24)) (unpack n b) != 0)
     ·rw[hov,cond_false,hov2,cond_false] at ho
      have o1:=congrArg (fun z=>z.1) ho
      have o2:=congrArg (fun z=>z.2.1) ho
      refine(ai (cr (congrArg (fun z=>z.2.2) ho))).2 ((ai rfl).2 ((aj rfl).2 ?_))
      rw[e2]
      have hfl:((unpack n b).take (n-24)).length=n-24:=by rw[List.length_take,hlu];omega
      have hrest:=Il (m:=n-24) (d:=(n-79)/8) (a:=55) (b:=pack ((unpack n b).take (n-24))) (by have:=ig (l:=(unpack n b).take (n-24)) (by omega);rwa [bM,hfl] at this) (by omega) (by omega) (by decide) ((n-79)/8) 0
       ⟨(ah.k aX (((n:Int),b),4,((0:Int),([]:List Int)))).1.1,(ah.k aX (((n:Int),b),4,((0:Int),([]:List Int)))).1.2,t,p,m,x,s,0,0,0,0,0,0,0,0,4,((bf (unpack n b) 2 3:Nat):Int),0,0,0,0,0,0,(ah.k aX (((n:Int),b),4,((0:Int),([]:List Int)))).2.1.1,(ah.k aX (((n:Int),b),4,((0:Int),([]:List Int)))).2.1.2⟩ 0 0 0 0 0 0 0 0
       (by show(ah.k aX (((n:Int),b),4,((0:Int),([]:List Int)))).1.1=_;rw[o1];show(((unpack n b).take (n-24)).length:Int)=_;rw[hfl]) (by show(ah.k aX (((n:Int),b),4,((0:Int),([]:List Int)))).1.2=_;rw[o1];rfl) rfl (by omega) (by omega)
      rw[show unpack (n-24) (pack ((unpack n b).take (n-24)))=(unpack n b).take (n-24) from by have:=unpack_pack ((unpack n b).take (n-24));rwa [hfl] at this] at hrest
      refine Eq.mp (congrArg (aD (Au ah) _) ?_) hrest
      have hdd:aO ((n-79)/8) (((unpack n b).take (n-24)).drop 55)=aO (((unpack n b).length-79)/8) ((unpack n b).drop 55):=by
       rw[hlu]
       exact qX (by omega) (by rw[hlu];omega)
      have hpz:dH ((ah.k aX (((n:Int),b),4,((0:Int),([]:List Int)))).2.1.1,(ah.k aX (((n:Int),b),4,((0:Int),([]:List Int)))).2.1.2)=bif dX (eZ (((unpack n b).drop 7).take 24)) then(eZ (((unpack n b).drop 7).take 24),0) else(zS,40):=by
       rw[o2];exact uJ hql
      show(bif (dH ((ah.k aX (((n:Int),b),4,((0:Int),([]:List Int)))).2.1.1,(ah.k aX (((n:Int),b),4,((0:Int),([]:List Int)))).2.1.2)).2 != 0 then(cy,51) else bif fF (4,((bf (unpack n b) 2 3:Nat):Int),(dH ((ah.k aX (((n:Int),b),4,((0:Int),([]:List Int)))).2.1.1,(ah.k aX (((n:Int),b),4,((0:Int),([]:List Int)))).2.1.2)).1,0,aO ((n-79)/8) (((unpack n b).take (n-24)).drop 55)) then((4,((bf (unpack n b) 2 3:Nat):Int),(dH ((ah.k aX (((n:Int),b),4,((0:Int),([]:List Int)))).2.1.1,(ah.k aX (((n:Int),b),4,((0:Int),([]:List Int)))).2.1.2)).1,0,aO ((n-79)/8) (((unpack n b).take (n-24)).drop 55)),0) else(cy,51))=_
      rw[hpz,hdd,Bool.or_false,cond_false,cond_false]
      cases hso:dX (eZ (((unpack n b).drop 7).take 24))
      ·rfl
      ·have hfo:fF (4,((bf (unpack n b) 2 3:Nat):Int),eZ (((unpack n b).drop 7).take 24),0,aO (((unpack n b).length-79)/8) ((unpack n b).drop 55))=!decide (4<bf (unpack n b) 2 3):=by
        have hso':=hso
        rw[eZ] at hso' ⊢
        rw[Bool.eq_iff_iff,jr,hso',cH];simp;omega
       rw[cond_true,hfo]
       cases decide (4<bf (unpack n b) 2 3)<;>rfl
     ·rw[hov,cond_false,hov2,cond_true] at ho
      have e3:=congrArg (fun z=>z.2.2) ho
      refine(aj (eU (show(ah.k aX (((n:Int),b),4,((0:Int),([]:List Int)))).2.2≠0 from by rw[e3];exact(by decide:(21:Int)≠0)))).2 ?_
      exact aT (congrArg (fun z=>LT.ret (((0,0,(0,0,0,0,0),0,([]:List Int)):Int×Int×(Int×Int×Int×Int×Int)×Int×List Int),z)) e3) (.ret _)
    ·rw[hov,cond_true] at ho
     have e3:=congrArg (fun z=>z.2.2) ho
     refine(aj (eU (show(ah.k aX (((n:Int),b),4,((0:Int),([]:List Int)))).2.2≠0 from by rw[e3];exact(by decide:(21:Int)≠0)))).2 ?_
     exact aT (congrArg (fun z=>LT.ret (((0,0,(0,0,0,0,0),0,([]:List Int)):Int×Int×(Int×Int×Int×Int×Int)×Int×List Int),z)) e3) (.ret _)
   ·exact(aj (hz.trans hzz)).2 (.ret _)
  ·rw[Bool.not_eq_true] at hfit
   rw[ju (by rw[hlu,hk];exact hfit)]
   exact(aj (show ah.not (ah.k iQ ((n:Int),4))=true by rw[a_,al,hp4,hfit];rfl)).2 (.ret _)
def oS:((Int×List Int)×(Int×Int×Int×Int×Int))→((Int×Int×(Int×Int×Int×Int×Int)×Int×List Int)×Int):=ku
def Xq:aC:=⟨[(.struct [yI,yB]),(.struct [yI,yI,yI,yI,yI])], [(.struct [yI,yI,(.struct [yI,yI,yI,yI,yI]),yI,yB]),yI],(@tt ((Int×List Int)×(Int×Int×Int×Int×Int))),oS⟩
theorem Ul:Sd 179 Xq:=aJ au dC false 298 [⟨241,3, [[0,3,4], [3,4,8,12,97,100]]⟩] [⟨179,19, [[2,3,4,7,8,9,10]]⟩] (fun A ((bN,bB),cTime,cPos,cMode,cNext,cMember)=>t50 A bN bB cTime cPos cMode cNext cMember) Au PV (fc Tryz.func179 (fc Tryz.func237 (fc Tryz.func241 fz))) (sc W6 (sc yb (sc Wy (sc AA (sc O0 (sc TS (sc Vk (sc Bu sz)))))))) (fun A y=>match y with |.c0 p=>⟨116,zf (by kernel_rfl)⟩|.c1 p=>⟨116,zf (by kernel_rfl)⟩|.c2 p c0 c8 c9 c10 c11 c12 c13 c14 kY c16=>⟨92,zf (by kernel_rfl)⟩|.c3 p d0 d3 d4 d5 d6 d7 d8 d9 nj mZ=>⟨92,zf (by kernel_rfl)⟩) fun((bN,bB),cTime,cPos,cMode,cNext,cMember) hp h=>LP h
open Go.Ev.Pl
def t53(A:bu)(bN:Int)(bB:List Int)(cTime:Int)(cPos:Int)(cMode:Int)(cNext:Int)(cMember:Int):LT ((Int×Int×(Int×Int×Int×Int×Int)×Int×List Int)×Bool) Empty:=.need (A.k (@tt ((Int×List Int)×(Int×Int×Int×Int×Int))) ((bN,bB),cTime,cPos,cMode,cNext,cMember)) (.br (A.c .neq (A.k oS ((bN,bB),cTime,cPos,cMode,cNext,cMember)).2 0) (.ret ((0,0,(0,0,0,0,0),0,([]:List Int)),false)) (.br (A.c .eql (A.k oS ((bN,bB),cTime,cPos,cMode,cNext,cMember)).1.1 1) (.ret ((0,0,(0,0,0,0,0),0,([]:List Int)),false)) (.br (A.not (A.and (A.c .eql (A.k oS ((bN,bB),cTime,cPos,cMode,cNext,cMember)).1.2.2.1.1 cTime) (A.and (A.c .eql (A.k oS ((bN,bB),cTime,cPos,cMode,cNext,cMember)).1.2.2.1.2.1 cPos) (A.and (A.c .eql (A.k oS ((bN,bB),cTime,cPos,cMode,cNext,cMember)).1.2.2.1.2.2.1 cMode) (A.and (A.c .eql (A.k oS ((bN,bB),cTime,cPos,cMode,cNext,cMember)).1.2.2.1.2.2.2.1 cNext) (A.and (A.c .eql (A.k oS ((bN,bB),cTime,cPos,cMode,cNext,cMember)).1.2.2.1.2.2.2.2 cMember) true)))))) (.ret ((0,0,(0,0,0,0,0),0,([]:List Int)),false)) (.ret ((A.k oS ((bN,bB),cTime,cPos,cMode,cNext,cMember)).1,true)))))
def Al:((Int×List Int)×(Int×Int×Int×Int×Int))→((Int×Int×(Int×Int×Int×Int×Int)×Int×List Int)×Bool):=fun((bN,bB),cTime,cPos,cMode,cNext,cMember)=>(t53 ah bN bB cTime cPos cMode cNext cMember).val (Ty.bV [(.struct [yI,yI,(.struct [yI,yI,yI,yI,yI]),yI,yB]),.bool])
def W1:aC:=⟨[(.struct [yI,yB]),(.struct [yI,yI,yI,yI,yI])], [(.struct [yI,yI,(.struct [yI,yI,yI,yI,yI]),yI,yB]),.bool],(@tt ((Int×List Int)×(Int×Int×Int×Int×Int))),Al⟩
theorem Xc:Sd 103 W1:=aK au dC true 50 [] (fun A ((bN,bB),cTime,cPos,cMode,cNext,cMember)=>t53 A bN bB cTime cPos cMode cNext cMember) (fc Tryz.func103 fz) (sc Ul sz) (fun(((bN,bB),cTime,cPos,cMode,cNext,cMember):(Int×List Int)×(Int×Int×Int×Int×Int)) hp h=>by
 show(t53 ah bN bB cTime cPos cMode cNext cMember).pre=true
 simp[t53,LT.pre,al,cB])
def t51(A:bu)(bN:Int)(bB:List Int):LT ((Int×Int×(Int×Int×Int×Int×Int)×Int×List Int)×Bool) Empty:=.need (A.k (@tt ((Int×List Int)×(Int×Int×Int×Int×Int))) ((bN,bB),0,0,0,0,0)) (.br (A.c .neq (A.k oS ((bN,bB),0,0,0,0,0)).2 0) (.ret ((0,0,(0,0,0,0,0),0,([]:List Int)),false)) (.br (A.c .eql (A.k oS ((bN,bB),0,0,0,0,0)).1.1 2) (.ret ((0,0,(0,0,0,0,0),0,([]:List Int)),false)) (.ret ((A.k oS ((bN,bB),0,0,0,0,0)).1,true))))
def yn:((Int×List Int))→((Int×Int×(Int×Int×Int×Int×Int)×Int×List Int)×Bool):=fun(bN,bB)=>(t51 ah bN bB).val (Ty.bV [(.struct [yI,yI,(.struct [yI,yI,yI,yI,yI]),yI,yB]),.bool])
def Ya:aC:=⟨[(.struct [yI,yB])], [(.struct [yI,yI,(.struct [yI,yI,yI,yI,yI]),yI,yB]),.bool],(@tt ((Int×List Int))),yn⟩
theorem XF:Sd 163 Ya:=aK au dC true 43 [] (fun A (bN,bB)=>t51 A bN bB) (fc Tryz.func163 fz) (sc Ul sz) (fun((bN,bB):(Int×List Int)) hp h=>by
 show(t51 ah bN bB).pre=true
 simp[t51,LT.pre,al,cB])
theorem H9{b:Int×List Int}{t p m n s:Int}:Al (b,(t,p,m,n,s))=rH (b,(t,p,m,n,s)):=by
 obtain⟨bn,bb⟩:=b
 simp only[Al,t53,LT.val,rH,al,aF,aB,aL,a_,oS,Bool.and_true]
 generalize ku ((bn,bb),(t,p,m,n,s))=q
 obtain⟨⟨k,r,⟨t',p',m',n',s'⟩,fr,d⟩,e⟩:=q
 simp only[]
 have hx:((t',p',m',n',s') != (t,p,m,n,s))=!(t'==t&&(p'==p&&(m'==m&&(n'==n&&s'==s)))):=by
  rw[Bool.eq_iff_iff]
  simp only[bne_iff_ne,ne_eq,Bool.not_eq_true',Prod.mk.injEq]
  rw[←Bool.not_eq_true]
  simp only[Bool.and_eq_true,beq_iff_eq]
 rw[hx]
 cases e != 0<;>cases k==1<;>cases (t'==t&&(p'==p&&(m'==m&&(n'==n&&s'==s))))<;>rfl
theorem Jq{b:Int×List Int}:yn b=jY b:=by
 obtain⟨bn,bb⟩:=b
 simp only[yn,t51,LT.val,jY,al,aF,aB,oS]
 show(bif (ku ((bn,bb),zS)).2 != 0 then(cy,false) else bif (ku ((bn,bb),zS)).1.1==2 then(cy,false) else((ku ((bn,bb),zS)).1,true))=_
 cases (ku ((bn,bb),zS)).2 != 0<;>cases (ku ((bn,bb),zS)).1.1==2<;>rfl
theorem pF{l u:List Bool}(hl:l.length+24≤4096)(hu:u.length≤4096):zw (bM l,bM u)=(bM (dn (over 0 u) l),0):=by
 rw[zw]
 show(bif bw (bM u)&&bw (bM l) then vg (dn (over 0 (bE (bM u))) (bE (bM l))) else(zB,10))=_
 rw[ig hu,ig (l:=l) (by omega),gi,gi,qE (by rw[kX];omega)]
 rfl
theorem B5{l u:List Bool}(h:l.length+u.length≤4096):wM [bM l,bM u]=(bM (l++u),0):=by
 rw[wM]
 show(bif (bw (bM l)&&(bw (bM u)&&true)) then vg (bE (bM l)++(bE (bM u) ++ [])) else(zB,10))=_
 rw[ig (l:=l) (by omega),ig (l:=u) (by omega),gi,gi,List.append_nil,qE (by rw[List.length_append];exact h)]
 rfl
theorem GR{k r t p m n s fr:Int}{d:List Int}(h:Ty.du [.struct [(.int .i64),(.int .i64),(.struct [(.int .i64),(.int .i64),(.int .i64),(.int .i64),(.int .i64)]),(.int .i64),(.slice (.int .u8))]] (k,r,(t,p,m,n,s),fr,d)):bF d:=by
 have h2:d.length≤cv∧∀x∈d,0≤x∧x≤255:=h.2.2.2.2
 exact h2.2
end Go.Ev.M
