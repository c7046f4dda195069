/-
  PROVED: what frame.Parse, Good and Explicit compute. Conditions: none.
-/
import Derived.Test.YteldjjjcdpnnbaaGreatFb
namespace Go.Ev.M
open Go.Proofs
set_option maxRecDepth 100000
set_option linter.unusedVariables false
set_option linter.unusedSimpArgs false
open Go.Ev.Pl
structure UH where
 (a0 a1:Int) (a2:List Int) (a3 a4 a5 a6 a7 a8 a9 cd dS a12 jR jv oo a16:Int) (a17:List Int) (oV ky a20 a21 a22 a23 a24 a25 a26 a27:Int)
structure Xs where
 (b0 b1:Int) (b2:List Int) (b3 b4 b5 b6 b7 b8 b9 b10 b11 b12 b13 o9 vL cZ:Int) (jQ:List Int) (ye jU kG jr jO l9 l7 l_ oW lN:Int) (lU:List Int)
structure LC where
 (c1 c2 c3 c4 c5 c6:Int) (c7:List Int) (Ib GJ c19 c20 c21 LJ c23 c24 X1 Ya X7 c28 XZ Au c31 c32 X8 c34 X9 X0 c37 X3:Int) (X2:List Int)
structure LQ where
 (d1:Int) (d2:List Int) (Yq ZY SL kC AB d17 d18 d19 d20 d21 d22 d23 d24 DR Eb d27 d28 d29 d30 d31 DG xE:Int) (xC:List Int)
inductive LD where
 | c0 (p:UH)
 | c1 (p:Xs)
 | c2 (p:LC) (c0:Int) (c8:Int) (c9:Int) (c10:Int) (c11:Int) (c12:Int) (c13:Int) (c14:Int) (lC:Int) (c16:Int)
 | c3 (p:LQ) (d0:Int) (d3:Int) (d4:Int) (d5:Int) (d6:Int) (d7:Int) (d8:Int) (d9:Int) (kT:Int) (l8:Int)
noncomputable def TR:LD→fJ
 | .c0 p=>⟨[⟨206,122,(en [(2,.ptr 0 0),(3,.ptr 1 0),(4,.ptr 2 0),(7,.ptr 3 0),(8,.ptr 4 0),(9,.ptr 5 0),(10,vi p.a0)]),[.code (cw Tryz.f206 [1,1,1,1,1,1,1,1,1,0,0]),.code (cw Tryz.f206 [1,1,1,1,1,1,1,1,1,0,1]),.code (cw Tryz.f206 [1,1,1,1,1,1,1,1,1,1])],[],none⟩],[.flat false [vi p.a1,.sl yU p.a2],.flat false [vi p.a3,vi p.a4,vi p.a5,vi p.a6,vi p.a7],.flat false [vi p.a8,vi p.a9,vi p.cd,vi p.dS,vi p.a12,vi p.jR,vi p.jv,vi p.oo,.bZ true],.flat false [vi p.a16,.sl yU p.a17,vi p.oV],.flat false [vi p.ky,vi p.a20,vi p.a21,vi p.a22,vi p.a23,vi p.a24,vi p.a25,vi p.a26,.bZ true],.flat false [vi p.a27,.bZ true],.dead]⟩
 | .c1 p=>⟨[⟨206,122,(en [(2,.ptr 0 0),(3,.ptr 1 0),(4,.ptr 2 0),(7,.ptr 3 0),(8,.ptr 4 0),(9,.ptr 5 0),(10,vi p.b0)]),[.code (cw Tryz.f206 [1,1,1,1,1,1,1,1,1,0,0]),.code (cw Tryz.f206 [1,1,1,1,1,1,1,1,1,0,1]),.code (cw Tryz.f206 [1,1,1,1,1,1,1,1,1,1])],[],none⟩],[.flat false [vi p.b1,.sl yU p.b2],.flat false [vi p.b3,vi p.b4,vi p.b5,vi p.b6,vi p.b7],.flat false [vi p.b8,vi p.b9,vi p.b10,vi p.b11,vi p.b12,vi p.b13,vi p.o9,vi p.vL,.bZ true],.flat false [vi p.cZ,.sl yU p.jQ,vi p.ye],.flat false [vi p.jU,vi p.kG,vi p.jr,vi p.jO,vi p.l9,vi p.l7,vi p.l_,vi p.oW,.bZ true],.flat false [vi p.lN,.sl yU p.lU],.dead]⟩
 | .c2 p c0 c8 c9 c10 c11 c12 c13 c14 lC c16=>⟨[⟨235,34,(en [(0,.ptr 0 0),(3,.ptr 1 0),(4,vi c0)]),[.inLoop (cw Tryz.f235 [1,1,1,0,0,0]),.inBlock 0,.code (cw Tryz.f235 [1,1,1,1])],[],none⟩,⟨206,122,(en [(3,.ptr 2 0),(4,.ptr 3 0),(8,.ptr 4 0),(12,.ptr 5 0),(97,.agg [vi p.c1,vi p.c2,vi p.c3,vi p.c4,vi p.c5]),(100,.ptr 4 2)]),[.kp (ow Tryz.f206 [1,1,1,1,1,1,1,1,1,1,1,1,1,0,1,0,0,0,0,0,1,0]) [0,0,2,1,15,31,63] 2 [4,5,6] [3,0],.code (.exit 1),.inBlock 3,.code (cw Tryz.f206 [1,1,1,1,1,1,1,1,1,1,1,1,1,0,1,0,0,0,1]),.inBlock 4,.code (cw Tryz.f206 [1,1,1,1,1,1,1,1,1,1,1,1,1,0,1,0,1]),.inBlock 1,.code (cw Tryz.f206 [1,1,1,1,1,1,1,1,1,1,1,1,1,1])],[],none⟩],[.flat false [vi p.c6,.sl yU p.c7,vi c8],.flat false [.int .u8 false c9,.int .u8 false c10,.int .u8 false c11,.int .u8 false c12,.int .u8 false c13,.int .u8 false c14,.int .u8 false lC,.int .u8 false c16],.flat false [vi p.Ib,vi p.GJ,vi p.c19,vi p.c20,vi p.c21],.flat false [vi p.LJ,vi p.c23,vi p.c24,vi p.X1,vi p.Ya,vi p.X7,vi p.c28,vi p.XZ,.bZ true],.flat false [vi p.Au,vi p.c31,vi p.c32,vi p.X8,vi p.c34,vi p.X9,vi p.X0,vi p.c37,.bZ true],.flat false [vi p.X3,.sl yU p.X2],.dead]⟩
 | .c3 p d0 d3 d4 d5 d6 d7 d8 d9 kT l8=>⟨[⟨235,34,(en [(0,.ptr 0 0),(3,.ptr 1 0),(4,vi d0)]),[.inLoop (cw Tryz.f235 [1,1,1,0,0,0]),.inBlock 0,.code (cw Tryz.f235 [1,1,1,1])],[],none⟩,⟨206,122,(en [(3,.ptr 2 0),(4,.ptr 3 0),(8,.ptr 4 0),(12,.ptr 5 0),(97,.undef),(100,.undef)]),[.ops (ow Tryz.f206 [1,1,1,1,1,1,1,1,1,1,1,1,1,0,1,0,0,0,1,1]) ((ow Tryz.f206 [1,1,1,1,1,1,1,1,1,1,1,1,1,0,1,0,0,0,1,1]).toList.drop 1),.inBlock 4,.code (cw Tryz.f206 [1,1,1,1,1,1,1,1,1,1,1,1,1,0,1,0,1]),.inBlock 1,.code (cw Tryz.f206 [1,1,1,1,1,1,1,1,1,1,1,1,1,1])],[],none⟩],[.flat false [vi p.d1,.sl yU p.d2,vi d3],.flat false [.int .u8 false d4,.int .u8 false d5,.int .u8 false d6,.int .u8 false d7,.int .u8 false d8,.int .u8 false d9,.int .u8 false kT,.int .u8 false l8],.flat false [vi p.Yq,vi p.ZY,vi p.SL,vi p.kC,vi p.AB],.flat false [vi p.d17,vi p.d18,vi p.d19,vi p.d20,vi p.d21,vi p.d22,vi p.d23,vi p.d24,.bZ true],.flat false [vi p.DR,vi p.Eb,vi p.d27,vi p.d28,vi p.d29,vi p.d30,vi p.d31,vi p.DG,.bZ true],.flat false [vi p.xE,.sl yU p.xC],.dead]⟩
def t50(A:a_)(bN:Int)(bB:List Int)(cTime:Int)(cPos:Int)(cMode:Int)(cNext:Int)(cMember:Int):LT ((Int×Int×(Int×Int×Int×Int×Int)×Int×List Int)×Int) LD:=.need (A.k (@tt ((Int×List Int))) (bN,bB)) (.br (A.c .neq (A.k jq (bN,bB)) 0) (.ret ((0,0,(0,0,0,0,0),0,([]:List Int)),(A.k jq (bN,bB)))) (.need (A.k (@tt ((Int×Int×Int×Int×Int)×Int)) ((cTime,cPos,cMode,cNext,cMember),8)) (.br (A.c .neq (A.k lv ((cTime,cPos,cMode,cNext,cMember),8)) 0) (.ret ((0,0,(0,0,0,0,0),0,([]:List Int)),40)) (.need (A.k (@tt ((Int×List Int)×Int×Int)) ((bN,bB),0,2)) (.br (A.c .neq (A.k aD ((bN,bB),0,2)).2 0) (.need (A.k (@tt (Int×Int)) (bN,1)) (.br (A.not (A.k jc (bN,1))) (.ret ((0,0,(0,0,0,0,0),0,([]:List Int)),51)) (.need (A.k (@tt ((Int×List Int)×Int×Int)) ((bN,bB),0,3)) (.br (A.c .neq (A.k aD ((bN,bB),0,3)).2 0) (.need (A.k (@tt ((Int×List Int)×Int×Int)) ((bN,bB),0,8)) (.br (A.c .neq (A.k aD ((bN,bB),0,8)).2 0) (.need (A.k (@tt ((Int×List Int)×Int×Int)) ((bN,bB),0,3)) (.br (A.c .neq (A.k aD ((bN,bB),0,3)).2 0) (.more (.c0 ⟨0,bN,bB,cTime,cPos,cMode,cNext,cMember,0,0,0,0,0,0,0,0,bN,bB,0,1,0,0,0,0,0,0,0,0⟩)) (.more (.c0 ⟨(A.v .i64 (A.k aD ((bN,bB),0,3)).1),bN,bB,cTime,cPos,cMode,cNext,cMember,0,0,0,0,0,0,0,0,bN,bB,3,1,0,0,0,0,0,0,0,0⟩)))) (.need (A.k (@tt ((Int×List Int)×Int×Int)) ((bN,bB),8,3)) (.br (A.c .neq (A.k aD ((bN,bB),8,3)).2 0) (.more (.c0 ⟨0,bN,bB,cTime,cPos,cMode,cNext,cMember,0,0,0,0,0,0,0,0,bN,bB,8,1,0,(A.v .i64 (A.k aD ((bN,bB),0,8)).1),0,0,0,0,0,0⟩)) (.more (.c0 ⟨(A.v .i64 (A.k aD ((bN,bB),8,3)).1),bN,bB,cTime,cPos,cMode,cNext,cMember,0,0,0,0,0,0,0,0,bN,bB,11,1,0,(A.v .i64 (A.k aD ((bN,bB),0,8)).1),0,0,0,0,0,0⟩)))))) (.need (A.k (@tt ((Int×List Int)×Int×Int)) ((bN,bB),3,8)) (.br (A.c .neq (A.k aD ((bN,bB),3,8)).2 0) (.need (A.k (@tt ((Int×List Int)×Int×Int)) ((bN,bB),3,3)) (.br (A.c .neq (A.k aD ((bN,bB),3,3)).2 0) (.more (.c0 ⟨0,bN,bB,cTime,cPos,cMode,cNext,cMember,0,0,0,0,0,0,0,0,bN,bB,3,1,0,0,0,0,0,0,(A.v .i64 (A.k aD ((bN,bB),0,3)).1),0⟩)) (.more (.c0 ⟨(A.v .i64 (A.k aD ((bN,bB),3,3)).1),bN,bB,cTime,cPos,cMode,cNext,cMember,0,0,0,0,0,0,0,0,bN,bB,6,1,0,0,0,0,0,0,(A.v .i64 (A.k aD ((bN,bB),0,3)).1),0⟩)))) (.need (A.k (@tt ((Int×List Int)×Int×Int)) ((bN,bB),11,3)) (.br (A.c .neq (A.k aD ((bN,bB),11,3)).2 0) (.more (.c0 ⟨0,bN,bB,cTime,cPos,cMode,cNext,cMember,0,0,0,0,0,0,0,0,bN,bB,11,1,0,(A.v .i64 (A.k aD ((bN,bB),3,8)).1),0,0,0,0,(A.v .i64 (A.k aD ((bN,bB),0,3)).1),0⟩)) (.more (.c0 ⟨(A.v .i64 (A.k aD ((bN,bB),11,3)).1),bN,bB,cTime,cPos,cMode,cNext,cMember,0,0,0,0,0,0,0,0,bN,bB,14,1,0,(A.v .i64 (A.k aD ((bN,bB),3,8)).1),0,0,0,0,(A.v .i64 (A.k aD ((bN,bB),0,3)).1),0⟩)))))))))) (.need (A.k (@tt (Int×Int)) (bN,(A.b .add .i64 (A.v .i64 (A.k aD ((bN,bB),0,2)).1) 1))) (.br (A.not (A.k jc (bN,(A.b .add .i64 (A.v .i64 (A.k aD ((bN,bB),0,2)).1) 1)))) (.ret ((0,0,(0,0,0,0,0),0,([]:List Int)),51)) (.br (A.c .eql (A.b .add .i64 (A.v .i64 (A.k aD ((bN,bB),0,2)).1) 1) 1) (.need (A.k (@tt ((Int×List Int)×Int×Int)) ((bN,bB),2,3)) (.br (A.c .neq (A.k aD ((bN,bB),2,3)).2 0) (.need (A.k (@tt ((Int×List Int)×Int×Int)) ((bN,bB),2,8)) (.br (A.c .neq (A.k aD ((bN,bB),2,8)).2 0) (.need (A.k (@tt ((Int×List Int)×Int×Int)) ((bN,bB),2,3)) (.br (A.c .neq (A.k aD ((bN,bB),2,3)).2 0) (.more (.c0 ⟨0,bN,bB,cTime,cPos,cMode,cNext,cMember,0,0,0,0,0,0,0,0,bN,bB,2,(A.b .add .i64 (A.v .i64 (A.k aD ((bN,bB),0,2)).1) 1),0,0,0,0,0,0,0,0⟩)) (.more (.c0 ⟨(A.v .i64 (A.k aD ((bN,bB),2,3)).1),bN,bB,cTime,cPos,cMode,cNext,cMember,0,0,0,0,0,0,0,0,bN,bB,5,(A.b .add .i64 (A.v .i64 (A.k aD ((bN,bB),0,2)).1) 1),0,0,0,0,0,0,0,0⟩)))) (.need (A.k (@tt ((Int×List Int)×Int×Int)) ((bN,bB),10,3)) (.br (A.c .neq (A.k aD ((bN,bB),10,3)).2 0) (.more (.c0 ⟨0,bN,bB,cTime,cPos,cMode,cNext,cMember,0,0,0,0,0,0,0,0,bN,bB,10,(A.b .add .i64 (A.v .i64 (A.k aD ((bN,bB),0,2)).1) 1),0,(A.v .i64 (A.k aD ((bN,bB),2,8)).1),0,0,0,0,0,0⟩)) (.more (.c0 ⟨(A.v .i64 (A.k aD ((bN,bB),10,3)).1),bN,bB,cTime,cPos,cMode,cNext,cMember,0,0,0,0,0,0,0,0,bN,bB,13,(A.b .add .i64 (A.v .i64 (A.k aD ((bN,bB),0,2)).1) 1),0,(A.v .i64 (A.k aD ((bN,bB),2,8)).1),0,0,0,0,0,0⟩)))))) (.need (A.k (@tt ((Int×List Int)×Int×Int)) ((bN,bB),5,8)) (.br (A.c .neq (A.k aD ((bN,bB),5,8)).2 0) (.need (A.k (@tt ((Int×List Int)×Int×Int)) ((bN,bB),5,3)) (.br (A.c .neq (A.k aD ((bN,bB),5,3)).2 0) (.more (.c0 ⟨0,bN,bB,cTime,cPos,cMode,cNext,cMember,0,0,0,0,0,0,0,0,bN,bB,5,(A.b .add .i64 (A.v .i64 (A.k aD ((bN,bB),0,2)).1) 1),0,0,0,0,0,0,(A.v .i64 (A.k aD ((bN,bB),2,3)).1),0⟩)) (.more (.c0 ⟨(A.v .i64 (A.k aD ((bN,bB),5,3)).1),bN,bB,cTime,cPos,cMode,cNext,cMember,0,0,0,0,0,0,0,0,bN,bB,8,(A.b .add .i64 (A.v .i64 (A.k aD ((bN,bB),0,2)).1) 1),0,0,0,0,0,0,(A.v .i64 (A.k aD ((bN,bB),2,3)).1),0⟩)))) (.need (A.k (@tt ((Int×List Int)×Int×Int)) ((bN,bB),13,3)) (.br (A.c .neq (A.k aD ((bN,bB),13,3)).2 0) (.more (.c0 ⟨0,bN,bB,cTime,cPos,cMode,cNext,cMember,0,0,0,0,0,0,0,0,bN,bB,13,(A.b .add .i64 (A.v .i64 (A.k aD ((bN,bB),0,2)).1) 1),0,(A.v .i64 (A.k aD ((bN,bB),5,8)).1),0,0,0,0,(A.v .i64 (A.k aD ((bN,bB),2,3)).1),0⟩)) (.more (.c0 ⟨(A.v .i64 (A.k aD ((bN,bB),13,3)).1),bN,bB,cTime,cPos,cMode,cNext,cMember,0,0,0,0,0,0,0,0,bN,bB,16,(A.b .add .i64 (A.v .i64 (A.k aD ((bN,bB),0,2)).1) 1),0,(A.v .i64 (A.k aD ((bN,bB),5,8)).1),0,0,0,0,(A.v .i64 (A.k aD ((bN,bB),2,3)).1),0⟩)))))))) (.br (A.c .eql (A.b .add .i64 (A.v .i64 (A.k aD ((bN,bB),0,2)).1) 1) 2) (.need (A.k (@tt ((Int×List Int)×Int×Int)) ((bN,bB),2,3)) (.br (A.c .neq (A.k aD ((bN,bB),2,3)).2 0) (.need (A.k (@tt ((Int×Int×Int×Int×Int))) (cTime,cPos,cMode,cNext,cMember)) (.more (.c1 ⟨0,bN,bB,cTime,cPos,cMode,cNext,cMember,0,0,0,0,0,0,0,0,bN,bB,2,(A.b .add .i64 (A.v .i64 (A.k aD ((bN,bB),0,2)).1) 1),0,0,0,0,0,0,0,(A.k oP (cTime,cPos,cMode,cNext,cMember)).1.1,(A.k oP (cTime,cPos,cMode,cNext,cMember)).1.2⟩))) (.need (A.k (@tt ((Int×Int×Int×Int×Int))) (cTime,cPos,cMode,cNext,cMember)) (.more (.c1 ⟨0,bN,bB,cTime,cPos,cMode,cNext,cMember,0,0,0,0,0,0,0,0,bN,bB,5,(A.b .add .i64 (A.v .i64 (A.k aD ((bN,bB),0,2)).1) 1),(A.v .i64 (A.k aD ((bN,bB),2,3)).1),0,0,0,0,0,0,(A.k oP (cTime,cPos,cMode,cNext,cMember)).1.1,(A.k oP (cTime,cPos,cMode,cNext,cMember)).1.2⟩))))) (.need (A.k (@tt ((Int×List Int)×Int×Int)) ((bN,bB),2,3)) (.br (A.c .neq (A.k aD ((bN,bB),2,3)).2 0) (.eqs (IntKind.i64=IntKind.i64∧((A.b .sub .i64 (A.b .add .i64 (A.v .i64 (A.k aD ((bN,bB),0,2)).1) 1) 2):Int)=(A.b .sub .i64 (A.b .add .i64 (A.v .i64 (A.k aD ((bN,bB),0,2)).1) 1) 2)) (.eqs (IntKind.i64=IntKind.i64∧((A.b .add .i64 (A.v .i64 (A.k aD ((bN,bB),0,2)).1) 1):Int)=(A.b .add .i64 (A.v .i64 (A.k aD ((bN,bB),0,2)).1) 1)) (.eqs ((.ptr 4 0:AV)=.ptr 4 0) (.eqs ((.ptr 3 0:AV)=.ptr 3 0) (.need (A.k (@tt ((Int×List Int)×Int×Int)) ((bN,bB),2,(A.b .sub .i64 (A.b .add .i64 (A.v .i64 (A.k aD ((bN,bB),0,2)).1) 1) 2))) (.br (A.c .neq (A.k aD ((bN,bB),2,(A.b .sub .i64 (A.b .add .i64 (A.v .i64 (A.k aD ((bN,bB),0,2)).1) 1) 2))).2 0) (.eqs ((.ptr 4 1:AV)=.ptr 4 1) (.more (.c0 ⟨0,bN,bB,cTime,cPos,cMode,cNext,cMember,0,0,0,0,0,0,0,0,bN,bB,2,(A.b .add .i64 (A.v .i64 (A.k aD ((bN,bB),0,2)).1) 1),0,0,0,0,0,0,0,0⟩))) (.eqs ((.ptr 4 1:AV)=.ptr 4 1) (.more (.c0 ⟨(A.v .i64 (A.k aD ((bN,bB),2,(A.b .sub .i64 (A.b .add .i64 (A.v .i64 (A.k aD ((bN,bB),0,2)).1) 1) 2))).1),bN,bB,cTime,cPos,cMode,cNext,cMember,0,0,0,0,0,0,0,0,bN,bB,(A.b .add .i64 2 (A.b .sub .i64 (A.b .add .i64 (A.v .i64 (A.k aD ((bN,bB),0,2)).1) 1) 2)),(A.b .add .i64 (A.v .i64 (A.k aD ((bN,bB),0,2)).1) 1),0,0,0,0,0,0,0,0⟩))))))))) (.eqs (IntKind.i64=IntKind.i64∧((A.b .sub .i64 (A.b .add .i64 (A.v .i64 (A.k aD ((bN,bB),0,2)).1) 1) 2):Int)=(A.b .sub .i64 (A.b .add .i64 (A.v .i64 (A.k aD ((bN,bB),0,2)).1) 1) 2)) (.eqs (IntKind.i64=IntKind.i64∧((A.b .add .i64 (A.v .i64 (A.k aD ((bN,bB),0,2)).1) 1):Int)=(A.b .add .i64 (A.v .i64 (A.k aD ((bN,bB),0,2)).1) 1)) (.eqs ((.ptr 4 0:AV)=.ptr 4 0) (.eqs ((.ptr 3 0:AV)=.ptr 3 0) (.need (A.k (@tt ((Int×List Int)×Int×Int)) ((bN,bB),5,(A.b .sub .i64 (A.b .add .i64 (A.v .i64 (A.k aD ((bN,bB),0,2)).1) 1) 2))) (.br (A.c .neq (A.k aD ((bN,bB),5,(A.b .sub .i64 (A.b .add .i64 (A.v .i64 (A.k aD ((bN,bB),0,2)).1) 1) 2))).2 0) (.eqs ((.ptr 4 1:AV)=.ptr 4 1) (.more (.c0 ⟨0,bN,bB,cTime,cPos,cMode,cNext,cMember,0,0,0,0,0,0,0,0,bN,bB,5,(A.b .add .i64 (A.v .i64 (A.k aD ((bN,bB),0,2)).1) 1),(A.v .i64 (A.k aD ((bN,bB),2,3)).1),0,0,0,0,0,0,0⟩))) (.eqs ((.ptr 4 1:AV)=.ptr 4 1) (.more (.c0 ⟨(A.v .i64 (A.k aD ((bN,bB),5,(A.b .sub .i64 (A.b .add .i64 (A.v .i64 (A.k aD ((bN,bB),0,2)).1) 1) 2))).1),bN,bB,cTime,cPos,cMode,cNext,cMember,0,0,0,0,0,0,0,0,bN,bB,(A.b .add .i64 5 (A.b .sub .i64 (A.b .add .i64 (A.v .i64 (A.k aD ((bN,bB),0,2)).1) 1) 2)),(A.b .add .i64 (A.v .i64 (A.k aD ((bN,bB),0,2)).1) 1),(A.v .i64 (A.k aD ((bN,bB),2,3)).1),0,0,0,0,0,0,0⟩))))))))))))))))))))
def Bc(A:a_):LD→LT ((Int×Int×(Int×Int×Int×Int×Int)×Int×List Int)×Int) LD
 | .c0 p=>.br (A.c .neq p.a0 0) (.ret ((0,0,(0,0,0,0,0),0,([]:List Int)),51)) (.need (A.k (@tt ((Int×List Int)×Int×(Int×List Int))) ((p.a1,p.a2),p.ky,p.a27,([]:List Int))) (.br (A.c .neq (A.k bp ((p.a1,p.a2),p.ky,p.a27,([]:List Int))).2.2 0) (.ret ((0,0,(0,0,0,0,0),0,([]:List Int)),(A.k bp ((p.a1,p.a2),p.ky,p.a27,([]:List Int))).2.2)) (.br (A.c .eql p.ky 2) (.more (.c2 ⟨p.a3,p.a4,p.a5,p.a6,p.a7,(A.k bp ((p.a1,p.a2),p.ky,p.a27,([]:List Int))).1.1,(A.k bp ((p.a1,p.a2),p.ky,p.a27,([]:List Int))).1.2,p.a3,p.a4,p.a5,p.a6,p.a7,p.a8,p.a9,p.cd,p.dS,p.a12,p.jR,p.jv,p.oo,p.ky,p.a20,p.a21,p.a22,p.a23,p.a24,p.a25,p.a26,(A.k bp ((p.a1,p.a2),p.ky,p.a27,([]:List Int))).2.1.1,(A.k bp ((p.a1,p.a2),p.ky,p.a27,([]:List Int))).2.1.2⟩ 0 p.oV 0 0 0 0 0 0 0 0)) (.br (A.c .eql p.ky 4) (.more (.c3 ⟨(A.k bp ((p.a1,p.a2),p.ky,p.a27,([]:List Int))).1.1,(A.k bp ((p.a1,p.a2),p.ky,p.a27,([]:List Int))).1.2,p.a3,p.a4,p.a5,p.a6,p.a7,p.a8,p.a9,p.cd,p.dS,p.a12,p.jR,p.jv,p.oo,p.ky,p.a20,p.a21,p.a22,p.a23,p.a24,p.a25,p.a26,(A.k bp ((p.a1,p.a2),p.ky,p.a27,([]:List Int))).2.1.1,(A.k bp ((p.a1,p.a2),p.ky,p.a27,([]:List Int))).2.1.2⟩ 0 55 0 0 0 0 0 0 0 0)) (.br (A.c .eql p.ky 3) (.need (A.k (@tt ((Int×List Int))) (A.k bp ((p.a1,p.a2),p.ky,p.a27,([]:List Int))).2.1) (.br (A.c .neq (A.k gB (A.k bp ((p.a1,p.a2),p.ky,p.a27,([]:List Int))).2.1).2 0) (.ret ((0,0,(0,0,0,0,0),0,([]:List Int)),51)) (.need (A.k (@tt ((Int×Int×(Int×Int×Int×Int×Int)×Int×List Int))) (p.ky,p.a20,(A.k gB (A.k bp ((p.a1,p.a2),p.ky,p.a27,([]:List Int))).2.1).1,p.a26,([]:List Int))) (.br (A.c .neq (A.k nX (p.ky,p.a20,(A.k gB (A.k bp ((p.a1,p.a2),p.ky,p.a27,([]:List Int))).2.1).1,p.a26,([]:List Int))) 0) (.ret ((0,0,(0,0,0,0,0),0,([]:List Int)),51)) (.ret ((p.ky,p.a20,(A.k gB (A.k bp ((p.a1,p.a2),p.ky,p.a27,([]:List Int))).2.1).1,p.a26,([]:List Int)),0)))))) (.need (A.k (@tt ((Int×Int×(Int×Int×Int×Int×Int)×Int×List Int))) (p.ky,p.a20,(p.a21,p.a22,p.a23,p.a24,p.a25),p.a26,([]:List Int))) (.br (A.c .neq (A.k nX (p.ky,p.a20,(p.a21,p.a22,p.a23,p.a24,p.a25),p.a26,([]:List Int))) 0) (.ret ((0,0,(0,0,0,0,0),0,([]:List Int)),51)) (.ret ((p.ky,p.a20,(p.a21,p.a22,p.a23,p.a24,p.a25),p.a26,([]:List Int)),0)))))))))
 | .c1 p=>.br (A.c .neq p.b0 0) (.ret ((0,0,(0,0,0,0,0),0,([]:List Int)),51)) (.need (A.k (@tt ((Int×List Int)×Int×(Int×List Int))) ((p.b1,p.b2),p.jU,p.lN,p.lU)) (.br (A.c .neq (A.k bp ((p.b1,p.b2),p.jU,p.lN,p.lU)).2.2 0) (.ret ((0,0,(0,0,0,0,0),0,([]:List Int)),(A.k bp ((p.b1,p.b2),p.jU,p.lN,p.lU)).2.2)) (.br (A.c .eql p.jU 2) (.more (.c2 ⟨p.b3,p.b4,p.b5,p.b6,p.b7,(A.k bp ((p.b1,p.b2),p.jU,p.lN,p.lU)).1.1,(A.k bp ((p.b1,p.b2),p.jU,p.lN,p.lU)).1.2,p.b3,p.b4,p.b5,p.b6,p.b7,p.b8,p.b9,p.b10,p.b11,p.b12,p.b13,p.o9,p.vL,p.jU,p.kG,p.jr,p.jO,p.l9,p.l7,p.l_,p.oW,(A.k bp ((p.b1,p.b2),p.jU,p.lN,p.lU)).2.1.1,(A.k bp ((p.b1,p.b2),p.jU,p.lN,p.lU)).2.1.2⟩ 0 p.ye 0 0 0 0 0 0 0 0)) (.br (A.c .eql p.jU 4) (.more (.c3 ⟨(A.k bp ((p.b1,p.b2),p.jU,p.lN,p.lU)).1.1,(A.k bp ((p.b1,p.b2),p.jU,p.lN,p.lU)).1.2,p.b3,p.b4,p.b5,p.b6,p.b7,p.b8,p.b9,p.b10,p.b11,p.b12,p.b13,p.o9,p.vL,p.jU,p.kG,p.jr,p.jO,p.l9,p.l7,p.l_,p.oW,(A.k bp ((p.b1,p.b2),p.jU,p.lN,p.lU)).2.1.1,(A.k bp ((p.b1,p.b2),p.jU,p.lN,p.lU)).2.1.2⟩ 0 55 0 0 0 0 0 0 0 0)) (.br (A.c .eql p.jU 3) (.need (A.k (@tt ((Int×List Int))) (A.k bp ((p.b1,p.b2),p.jU,p.lN,p.lU)).2.1) (.br (A.c .neq (A.k gB (A.k bp ((p.b1,p.b2),p.jU,p.lN,p.lU)).2.1).2 0) (.ret ((0,0,(0,0,0,0,0),0,([]:List Int)),51)) (.need (A.k (@tt ((Int×Int×(Int×Int×Int×Int×Int)×Int×List Int))) (p.jU,p.kG,(A.k gB (A.k bp ((p.b1,p.b2),p.jU,p.lN,p.lU)).2.1).1,p.oW,([]:List Int))) (.br (A.c .neq (A.k nX (p.jU,p.kG,(A.k gB (A.k bp ((p.b1,p.b2),p.jU,p.lN,p.lU)).2.1).1,p.oW,([]:List Int))) 0) (.ret ((0,0,(0,0,0,0,0),0,([]:List Int)),51)) (.ret ((p.jU,p.kG,(A.k gB (A.k bp ((p.b1,p.b2),p.jU,p.lN,p.lU)).2.1).1,p.oW,([]:List Int)),0)))))) (.need (A.k (@tt ((Int×Int×(Int×Int×Int×Int×Int)×Int×List Int))) (p.jU,p.kG,(p.jr,p.jO,p.l9,p.l7,p.l_),p.oW,([]:List Int))) (.br (A.c .neq (A.k nX (p.jU,p.kG,(p.jr,p.jO,p.l9,p.l7,p.l_),p.oW,([]:List Int))) 0) (.ret ((0,0,(0,0,0,0,0),0,([]:List Int)),51)) (.ret ((p.jU,p.kG,(p.jr,p.jO,p.l9,p.l7,p.l_),p.oW,([]:List Int)),0)))))))))
 | .c2 p c0 c8 c9 c10 c11 c12 c13 c14 lC c16=>.br (A.c .leq (A.b .add .i64 c8 8) p.c6) (.br (A.c .lss c0 8) (.need (A.k (@tt ((Int×List Int)×Int×Int)) ((p.c6,p.c7),c8,8)) (.br (A.c .neq (A.k aD ((p.c6,p.c7),c8,8)).2 0) (.need (A.and (A.c .leq 0 c0) (A.c .lss c0 8)) (.more (.c2 p (A.b .add .i64 c0 1) c8 (A.n yU (A.set [c9,c10,c11,c12,c13,c14,lC,c16] c0 (0:Int)) 0:Int) (A.n yU (A.set [c9,c10,c11,c12,c13,c14,lC,c16] c0 (0:Int)) 1:Int) (A.n yU (A.set [c9,c10,c11,c12,c13,c14,lC,c16] c0 (0:Int)) 2:Int) (A.n yU (A.set [c9,c10,c11,c12,c13,c14,lC,c16] c0 (0:Int)) 3:Int) (A.n yU (A.set [c9,c10,c11,c12,c13,c14,lC,c16] c0 (0:Int)) 4:Int) (A.n yU (A.set [c9,c10,c11,c12,c13,c14,lC,c16] c0 (0:Int)) 5:Int) (A.n yU (A.set [c9,c10,c11,c12,c13,c14,lC,c16] c0 (0:Int)) 6:Int) (A.n yU (A.set [c9,c10,c11,c12,c13,c14,lC,c16] c0 (0:Int)) 7:Int)))) (.need (A.and (A.c .leq 0 c0) (A.c .lss c0 8)) (.more (.c2 p (A.b .add .i64 c0 1) (A.b .add .i64 c8 8) (A.n yU (A.set [c9,c10,c11,c12,c13,c14,lC,c16] c0 (A.v .u8 (A.v .i64 (A.k aD ((p.c6,p.c7),c8,8)).1))) 0:Int) (A.n yU (A.set [c9,c10,c11,c12,c13,c14,lC,c16] c0 (A.v .u8 (A.v .i64 (A.k aD ((p.c6,p.c7),c8,8)).1))) 1:Int) (A.n yU (A.set [c9,c10,c11,c12,c13,c14,lC,c16] c0 (A.v .u8 (A.v .i64 (A.k aD ((p.c6,p.c7),c8,8)).1))) 2:Int) (A.n yU (A.set [c9,c10,c11,c12,c13,c14,lC,c16] c0 (A.v .u8 (A.v .i64 (A.k aD ((p.c6,p.c7),c8,8)).1))) 3:Int) (A.n yU (A.set [c9,c10,c11,c12,c13,c14,lC,c16] c0 (A.v .u8 (A.v .i64 (A.k aD ((p.c6,p.c7),c8,8)).1))) 4:Int) (A.n yU (A.set [c9,c10,c11,c12,c13,c14,lC,c16] c0 (A.v .u8 (A.v .i64 (A.k aD ((p.c6,p.c7),c8,8)).1))) 5:Int) (A.n yU (A.set [c9,c10,c11,c12,c13,c14,lC,c16] c0 (A.v .u8 (A.v .i64 (A.k aD ((p.c6,p.c7),c8,8)).1))) 6:Int) (A.n yU (A.set [c9,c10,c11,c12,c13,c14,lC,c16] c0 (A.v .u8 (A.v .i64 (A.k aD ((p.c6,p.c7),c8,8)).1))) 7:Int)))))) (.need (A.and (A.c .eql c0 c0) (A.and (A.c .leq 0 c0) (A.c .leq c0 140737488355328))) (.eqs ((.ptr 4 2:AV)=.ptr 4 2) (.eqs ((.agg [.int .i64 false p.Ib,.int .i64 false p.GJ,.int .i64 false p.c19,.int .i64 false p.c20,.int .i64 false p.c21]:AV)=.agg [.int .i64 false p.c1,.int .i64 false p.c2,.int .i64 false p.c3,.int .i64 false p.c4,.int .i64 false p.c5]) (.need (A.k (@tt ((Int×Int×(Int×Int×Int×Int×Int)×Int×List Int))) (p.Au,p.c31,(p.c1,p.c2,p.c3,p.c4,p.c5),p.c37,(A.spl (A.r c0 (0:Int)) 0 (A.s [c9,c10,c11,c12,c13,c14,lC,c16] 0 (A.mn (A.l [c9,c10,c11,c12,c13,c14,lC,c16]) (A.l (A.r c0 (0:Int)))))))) (.br (A.c .neq (A.k nX (p.Au,p.c31,(p.c1,p.c2,p.c3,p.c4,p.c5),p.c37,(A.spl (A.r c0 (0:Int)) 0 (A.s [c9,c10,c11,c12,c13,c14,lC,c16] 0 (A.mn (A.l [c9,c10,c11,c12,c13,c14,lC,c16]) (A.l (A.r c0 (0:Int)))))))) 0) (.ret ((0,0,(0,0,0,0,0),0,([]:List Int)),51)) (.ret ((p.Au,p.c31,(p.c1,p.c2,p.c3,p.c4,p.c5),p.c37,(A.spl (A.r c0 (0:Int)) 0 (A.s [c9,c10,c11,c12,c13,c14,lC,c16] 0 (A.mn (A.l [c9,c10,c11,c12,c13,c14,lC,c16]) (A.l (A.r c0 (0:Int))))))),0)))))))) (.need (A.and (A.c .eql c0 c0) (A.and (A.c .leq 0 c0) (A.c .leq c0 140737488355328))) (.eqs ((.ptr 4 2:AV)=.ptr 4 2) (.eqs ((.agg [.int .i64 false p.Ib,.int .i64 false p.GJ,.int .i64 false p.c19,.int .i64 false p.c20,.int .i64 false p.c21]:AV)=.agg [.int .i64 false p.c1,.int .i64 false p.c2,.int .i64 false p.c3,.int .i64 false p.c4,.int .i64 false p.c5]) (.need (A.k (@tt ((Int×Int×(Int×Int×Int×Int×Int)×Int×List Int))) (p.Au,p.c31,(p.c1,p.c2,p.c3,p.c4,p.c5),p.c37,(A.spl (A.r c0 (0:Int)) 0 (A.s [c9,c10,c11,c12,c13,c14,lC,c16] 0 (A.mn (A.l [c9,c10,c11,c12,c13,c14,lC,c16]) (A.l (A.r c0 (0:Int)))))))) (.br (A.c .neq (A.k nX (p.Au,p.c31,(p.c1,p.c2,p.c3,p.c4,p.c5),p.c37,(A.spl (A.r c0 (0:Int)) 0 (A.s [c9,c10,c11,c12,c13,c14,lC,c16] 0 (A.mn (A.l [c9,c10,c11,c12,c13,c14,lC,c16]) (A.l (A.r c0 (0:Int)))))))) 0) (.ret ((0,0,(0,0,0,0,0),0,([]:List Int)),51)) (.ret ((p.Au,p.c31,(p.c1,p.c2,p.c3,p.c4,p.c5),p.c37,(A.spl (A.r c0 (0:Int)) 0 (A.s [c9,c10,c11,c12,c13,c14,lC,c16] 0 (A.mn (A.l [c9,c10,c11,c12,c13,c14,lC,c16]) (A.l (A.r c0 (0:Int))))))),0)))))))
 | .c3 p d0 d3 d4 d5 d6 d7 d8 d9 kT l8=>.br (A.c .leq (A.b .add .i64 d3 8) p.d1) (.br (A.c .lss d0 8) (.need (A.k (@tt ((Int×List Int)×Int×Int)) ((p.d1,p.d2),d3,8)) (.br (A.c .neq (A.k aD ((p.d1,p.d2),d3,8)).2 0) (.need (A.and (A.c .leq 0 d0) (A.c .lss d0 8)) (.more (.c3 p (A.b .add .i64 d0 1) d3 (A.n yU (A.set [d4,d5,d6,d7,d8,d9,kT,l8] d0 (0:Int)) 0:Int) (A.n yU (A.set [d4,d5,d6,d7,d8,d9,kT,l8] d0 (0:Int)) 1:Int) (A.n yU (A.set [d4,d5,d6,d7,d8,d9,kT,l8] d0 (0:Int)) 2:Int) (A.n yU (A.set [d4,d5,d6,d7,d8,d9,kT,l8] d0 (0:Int)) 3:Int) (A.n yU (A.set [d4,d5,d6,d7,d8,d9,kT,l8] d0 (0:Int)) 4:Int) (A.n yU (A.set [d4,d5,d6,d7,d8,d9,kT,l8] d0 (0:Int)) 5:Int) (A.n yU (A.set [d4,d5,d6,d7,d8,d9,kT,l8] d0 (0:Int)) 6:Int) (A.n yU (A.set [d4,d5,d6,d7,d8,d9,kT,l8] d0 (0:Int)) 7:Int)))) (.need (A.and (A.c .leq 0 d0) (A.c .lss d0 8)) (.more (.c3 p (A.b .add .i64 d0 1) (A.b .add .i64 d3 8) (A.n yU (A.set [d4,d5,d6,d7,d8,d9,kT,l8] d0 (A.v .u8 (A.v .i64 (A.k aD ((p.d1,p.d2),d3,8)).1))) 0:Int) (A.n yU (A.set [d4,d5,d6,d7,d8,d9,kT,l8] d0 (A.v .u8 (A.v .i64 (A.k aD ((p.d1,p.d2),d3,8)).1))) 1:Int) (A.n yU (A.set [d4,d5,d6,d7,d8,d9,kT,l8] d0 (A.v .u8 (A.v .i64 (A.k aD ((p.d1,p.d2),d3,8)).1))) 2:Int) (A.n yU (A.set [d4,d5,d6,d7,d8,d9,kT,l8] d0 (A.v .u8 (A.v .i64 (A.k aD ((p.d1,p.d2),d3,8)).1))) 3:Int) (A.n yU (A.set [d4,d5,d6,d7,d8,d9,kT,l8] d0 (A.v .u8 (A.v .i64 (A.k aD ((p.d1,p.d2),d3,8)).1))) 4:Int) (A.n yU (A.set [d4,d5,d6,d7,d8,d9,kT,l8] d0 (A.v .u8 (A.v .i64 (A.k aD ((p.d1,p.d2),d3,8)).1))) 5:Int) (A.n yU (A.set [d4,d5,d6,d7,d8,d9,kT,l8] d0 (A.v .u8 (A.v .i64 (A.k aD ((p.d1,p.d2),d3,8)).1))) 6:Int) (A.n yU (A.set [d4,d5,d6,d7,d8,d9,kT,l8] d0 (A.v .u8 (A.v .i64 (A.k aD ((p.d1,p.d2),d3,8)).1))) 7:Int)))))) (.need (A.and (A.c .eql d0 d0) (A.and (A.c .leq 0 d0) (A.c .leq d0 140737488355328))) (.need (A.k (@tt ((Int×List Int))) (p.xE,p.xC)) (.br (A.c .neq (A.k gB (p.xE,p.xC)).2 0) (.ret ((0,0,(0,0,0,0,0),0,([]:List Int)),51)) (.need (A.k (@tt ((Int×Int×(Int×Int×Int×Int×Int)×Int×List Int))) (p.DR,p.Eb,(A.k gB (p.xE,p.xC)).1,p.DG,(A.spl (A.r d0 (0:Int)) 0 (A.s [d4,d5,d6,d7,d8,d9,kT,l8] 0 (A.mn (A.l [d4,d5,d6,d7,d8,d9,kT,l8]) (A.l (A.r d0 (0:Int)))))))) (.br (A.c .neq (A.k nX (p.DR,p.Eb,(A.k gB (p.xE,p.xC)).1,p.DG,(A.spl (A.r d0 (0:Int)) 0 (A.s [d4,d5,d6,d7,d8,d9,kT,l8] 0 (A.mn (A.l [d4,d5,d6,d7,d8,d9,kT,l8]) (A.l (A.r d0 (0:Int)))))))) 0) (.ret ((0,0,(0,0,0,0,0),0,([]:List Int)),51)) (.ret ((p.DR,p.Eb,(A.k gB (p.xE,p.xC)).1,p.DG,(A.spl (A.r d0 (0:Int)) 0 (A.s [d4,d5,d6,d7,d8,d9,kT,l8] 0 (A.mn (A.l [d4,d5,d6,d7,d8,d9,kT,l8]) (A.l (A.r d0 (0:Int))))))),0)))))))) (.need (A.and (A.c .eql d0 d0) (A.and (A.c .leq 0 d0) (A.c .leq d0 140737488355328))) (.need (A.k (@tt ((Int×List Int))) (p.xE,p.xC)) (.br (A.c .neq (A.k gB (p.xE,p.xC)).2 0) (.ret ((0,0,(0,0,0,0,0),0,([]:List Int)),51)) (.need (A.k (@tt ((Int×Int×(Int×Int×Int×Int×Int)×Int×List Int))) (p.DR,p.Eb,(A.k gB (p.xE,p.xC)).1,p.DG,(A.spl (A.r d0 (0:Int)) 0 (A.s [d4,d5,d6,d7,d8,d9,kT,l8] 0 (A.mn (A.l [d4,d5,d6,d7,d8,d9,kT,l8]) (A.l (A.r d0 (0:Int)))))))) (.br (A.c .neq (A.k nX (p.DR,p.Eb,(A.k gB (p.xE,p.xC)).1,p.DG,(A.spl (A.r d0 (0:Int)) 0 (A.s [d4,d5,d6,d7,d8,d9,kT,l8] 0 (A.mn (A.l [d4,d5,d6,d7,d8,d9,kT,l8]) (A.l (A.r d0 (0:Int)))))))) 0) (.ret ((0,0,(0,0,0,0,0),0,([]:List Int)),51)) (.ret ((p.DR,p.Eb,(A.k gB (p.xE,p.xC)).1,p.DG,(A.spl (A.r d0 (0:Int)) 0 (A.s [d4,d5,d6,d7,d8,d9,kT,l8] 0 (A.mn (A.l [d4,d5,d6,d7,d8,d9,kT,l8]) (A.l (A.r d0 (0:Int))))))),0)))))))
theorem ax{R Y:Type}{step:Y→LT R Y}{t:LT R Y}{r r':R}(h:r=r')(h2:aF step t r):aF step t r':=h▸h2
theorem L_{S:List Int}(h:S.length=8):[S.getD 0 0,S.getD 1 0,S.getD 2 0,S.getD 3 0,S.getD 4 0,S.getD 5 0,S.getD 6 0,S.getD 7 0]=S:=by
 match S,h with
 | [_,_,_,_,_,_,_,_],_=>rfl
theorem rV(k:Nat):∀l:List Bool,aQ (k+1) l=aQ k l ++ [((dO ((l.drop (8*k)).take 8):Nat):Int)]:=by
 induction k with
 | zero=>intro l;rfl
 | succ k ih=>
   intro l
   rw[aQ,ih,aQ,List.cons_append,List.drop_drop,show 8+8*k=8*(k+1) from by omega]
theorem KJ{m d a:Nat}{b:List Int}(hok:bd ((m:Int),b)=true)(hm:m=a+8*d)(hd:d≤8)(ha:a≤100):∀(j i:Nat) (p:LC) (x0 x1 x2 x3 x4 x5 x6 x7:Int),p.c6=(m:Int)→p.c7=b→p.Ib=p.c1→p.GJ=p.c2→p.c19=p.c3→p.c20=p.c4→p.c21=p.c5→ [x0,x1,x2,x3,x4,x5,x6,x7]=aQ i ((unpack m b).drop a)++List.replicate (8-i) 0→d-i=j→i≤d→
  aF (Bc aj) (.more (.c2 p (i:Int) ((a+8*i:Nat):Int) x0 x1 x2 x3 x4 x5 x6 x7)) (bif fj (p.Au,p.c31,(p.c1,p.c2,p.c3,p.c4,p.c5),p.c37,aQ d ((unpack m b).drop a)) then((p.Au,p.c31,(p.c1,p.c2,p.c3,p.c4,p.c5),p.c37,aQ d ((unpack m b).drop a)),0) else(cq,51)):=by
 intro j
 induction j with
 | zero=>
   intro i p x0 x1 x2 x3 x4 x5 x6 x7 h6 h7 h17 h18 h19 h20 h21 hR hj hi
   have:i=d:=by omega
   subst this
   have hdl:=cv i ((unpack m b).drop a)
   have hD:(aj.spl (aj.r (i:Int) (0:Int)) 0 (aj.s [x0,x1,x2,x3,x4,x5,x6,x7] 0 (aj.mn (aj.l [x0,x1,x2,x3,x4,x5,x6,x7]) (aj.l (aj.r (i:Int) (0:Int))))):List Int)=aQ i ((unpack m b).drop a):=by
    rw[hR]
    have e1:aj.r (i:Int) (0:Int)=List.replicate i 0:=by rw[nO,Int.toNat_natCast]
    rw[e1]
    have e2:aj.mn (aj.l (aQ i ((unpack m b).drop a)++List.replicate (8-i) (0:Int))) (aj.l (List.replicate i (0:Int)))=(i:Int):=by
     show(if ((List.replicate i (0:Int)).length:Int)<((aQ i ((unpack m b).drop a)++List.replicate (8-i) (0:Int)).length:Int) then((List.replicate i (0:Int)).length:Int) else((aQ i ((unpack m b).drop a)++List.replicate (8-i) (0:Int)).length:Int))=_
     rw[List.length_append,hdl,List.length_replicate,List.length_replicate]
     split<;>omega
    have hT:(aQ i ((unpack m b).drop a)++List.replicate (8-i) (0:Int)).take i=aQ i ((unpack m b).drop a):=by rw[List.take_append_of_le_length (by omega),List.take_of_length_le (by omega)]
    rw[e2,mX,pV,Int.toNat_natCast,hT]
    show(List.replicate i (0:Int)).take 0++(aQ i ((unpack m b).drop a)).drop 0++(List.replicate i (0:Int)).drop (0+((aQ i ((unpack m b).drop a)).drop 0).length)=_
    rw[List.drop_zero,hdl,List.drop_replicate,show i-(0+i)=0 from by omega,List.replicate_zero,List.take_zero,List.nil_append,List.append_nil]
   rw[al,Bc]
   refine(ah (by rw[h6,show aj.b .add .i64 ((a+8*i:Nat):Int) 8=((a+8*i+8:Nat):Int) from eP (j:=8) (by omega),ji];simp;omega)).2 ?_
   refine af.2 ⟨by rw[nZ rfl,gp,ar,aN,aN];simp;omega,fB.2 ⟨rfl,fB.2 ⟨by rw[h17,h18,h19,h20,h21],af.2 ⟨rfl,?_⟩⟩⟩⟩
   have hchk:aj.k nX (p.Au,p.c31,(p.c1,p.c2,p.c3,p.c4,p.c5),p.c37,(aj.spl (aj.r (i:Int) (0:Int)) 0 (aj.s [x0,x1,x2,x3,x4,x5,x6,x7] 0 (aj.mn (aj.l [x0,x1,x2,x3,x4,x5,x6,x7]) (aj.l (aj.r (i:Int) (0:Int)))))))=bif fj (p.Au,p.c31,(p.c1,p.c2,p.c3,p.c4,p.c5),p.c37,aQ i ((unpack m b).drop a)) then 0 else 50:=by rw[hD];exact tG
   cases hf:fj (p.Au,p.c31,(p.c1,p.c2,p.c3,p.c4,p.c5),p.c37,aQ i ((unpack m b).drop a))
   ·rw[hf] at hchk
    exact(ai (dd (by rw[hchk];decide))).2 (.ret _)
   ·rw[hf] at hchk
    refine(ah (bO hchk)).2 ?_
    exact aX (congrArg (fun z=>LT.ret ((p.Au,p.c31,(p.c1,p.c2,p.c3,p.c4,p.c5),p.c37,z),(0:Int))) hD) (.ret _)
 | succ j ih=>
   intro i p x0 x1 x2 x3 x4 x5 x6 x7 h6 h7 h17 h18 h19 h20 h21 hR hj hi
   have hmb:m≤4096:=by
    simp only[bd,Bool.and_eq_true,decide_eq_true_eq] at hok
    omega
   have hg:aj.k aD ((p.c6,p.c7),((a+8*i:Nat):Int),8)=(((aT (unpack m b) (a+8*i) 8:Nat):Int),0):=by
    rw[h6,h7];exact i6 hok (w:=8) (by omega) (by decide) hmb
   have hf:=cu (unpack m b) (a+8*i) 8
   have hv:aj.v .u8 (aj.v .i64 (aj.k aD ((p.c6,p.c7),((a+8*i:Nat):Int),8)).1)=((aT (unpack m b) (a+8*i) 8:Nat):Int):=by
    rw[hg,aU,aU,gg (by omega) (by omega),w8 (by omega) (by omega)]
   have hn8:aj.and (aj.c .leq 0 (i:Int)) (aj.c .lss (i:Int) 8)=true:=by rw[gp,ao,aN];simp;omega
   rw[al,Bc]
   refine(ai (by rw[h6,show aj.b .add .i64 ((a+8*i:Nat):Int) 8=((a+8*i+8:Nat):Int) from eP (j:=8) (by omega),ji];simp;omega)).2 ?_
   refine(ai (by rw[ao];simp;omega)).2 (af.2 ⟨rfl,(ah (bO (congrArg Prod.snd hg))).2 (af.2 ⟨hn8,?_⟩)⟩)
   obtain⟨S,hS⟩:∃S:List Int,S=([x0,x1,x2,x3,x4,x5,x6,x7]:List Int).set (i:Int).toNat (aj.v .u8 (aj.v .i64 (aj.k aD ((p.c6,p.c7),((a+8*i:Nat):Int),8)).1)):=⟨_,rfl⟩
   have hSl:S.length=8:=by rw[hS,List.length_set];rfl
   have hSv:S=aQ (i+1) ((unpack m b).drop a)++List.replicate (8-(i+1)) 0:=by
    rw[hS,hv,hR,Int.toNat_natCast,List.set_append_right _ _ (by rw[cv];exact Nat.le_refl _),cv,Nat.sub_self,rV,show 8-i=(8-(i+1))+1 from by omega,List.replicate_succ,List.set_cons_zero,List.append_assoc,List.drop_drop]
    rfl
   have hm':=ih (i+1) p (S.getD 0 0) (S.getD 1 0) (S.getD 2 0) (S.getD 3 0) (S.getD 4 0) (S.getD 5 0) (S.getD 6 0) (S.getD 7 0) h6 h7 h17 h18 h19 h20 h21 ((L_ hSl).trans hSv) (by omega) (by omega)
   have e:LD.c2 p (aj.b .add .i64 (i:Int) 1) (aj.b .add .i64 ((a+8*i:Nat):Int) 8) (S.getD 0 0) (S.getD 1 0) (S.getD 2 0) (S.getD 3 0) (S.getD 4 0) (S.getD 5 0) (S.getD 6 0) (S.getD 7 0)=LD.c2 p ((i+1:Nat):Int) ((a+8*(i+1):Nat):Int) (S.getD 0 0) (S.getD 1 0) (S.getD 2 0) (S.getD 3 0) (S.getD 4 0) (S.getD 5 0) (S.getD 6 0) (S.getD 7 0):=by
    rw[cn (by omega),show aj.b .add .i64 ((a+8*i:Nat):Int) 8=((a+8*(i+1):Nat):Int) from eP (j:=8) (by omega)]
   have hm2:=aX (congrArg LT.more e) hm'
   subst hS
   exact hm2
theorem JJ{m d a:Nat}{b:List Int}(hok:bd ((m:Int),b)=true)(hm:m=a+8*d)(hd:d≤8)(ha:a≤100):∀(j i:Nat) (p:LQ) (x0 x1 x2 x3 x4 x5 x6 x7:Int),p.d1=(m:Int)→p.d2=b→ [x0,x1,x2,x3,x4,x5,x6,x7]=aQ i ((unpack m b).drop a)++List.replicate (8-i) 0→d-i=j→i≤d→
  aF (Bc aj) (.more (.c3 p (i:Int) ((a+8*i:Nat):Int) x0 x1 x2 x3 x4 x5 x6 x7)) (bif (dz (p.xE,p.xC)).2 != 0 then(cq,51) else bif fj (p.DR,p.Eb,(dz (p.xE,p.xC)).1,p.DG,aQ d ((unpack m b).drop a)) then((p.DR,p.Eb,(dz (p.xE,p.xC)).1,p.DG,aQ d ((unpack m b).drop a)),0) else(cq,51)):=by
 intro j
 induction j with
 | zero=>
   intro i p x0 x1 x2 x3 x4 x5 x6 x7 h6 h7 hR hj hi
   have:i=d:=by omega
   subst this
   have hdl:=cv i ((unpack m b).drop a)
   have hD:(aj.spl (aj.r (i:Int) (0:Int)) 0 (aj.s [x0,x1,x2,x3,x4,x5,x6,x7] 0 (aj.mn (aj.l [x0,x1,x2,x3,x4,x5,x6,x7]) (aj.l (aj.r (i:Int) (0:Int))))):List Int)=aQ i ((unpack m b).drop a):=by
    rw[hR]
    have e1:aj.r (i:Int) (0:Int)=List.replicate i 0:=by rw[nO,Int.toNat_natCast]
    rw[e1]
    have e2:aj.mn (aj.l (aQ i ((unpack m b).drop a)++List.replicate (8-i) (0:Int))) (aj.l (List.replicate i (0:Int)))=(i:Int):=by
     show(if ((List.replicate i (0:Int)).length:Int)<((aQ i ((unpack m b).drop a)++List.replicate (8-i) (0:Int)).length:Int) then((List.replicate i (0:Int)).length:Int) else((aQ i ((unpack m b).drop a)++List.replicate (8-i) (0:Int)).length:Int))=_
     rw[List.length_append,hdl,List.length_replicate,List.length_replicate]
     split<;>omega
    have hT:(aQ i ((unpack m b).drop a)++List.replicate (8-i) (0:Int)).take i=aQ i ((unpack m b).drop a):=by rw[List.take_append_of_le_length (by omega),List.take_of_length_le (by omega)]
    rw[e2,mX,pV,Int.toNat_natCast,hT]
    show(List.replicate i (0:Int)).take 0++(aQ i ((unpack m b).drop a)).drop 0++(List.replicate i (0:Int)).drop (0+((aQ i ((unpack m b).drop a)).drop 0).length)=_
    rw[List.drop_zero,hdl,List.drop_replicate,show i-(0+i)=0 from by omega,List.replicate_zero,List.take_zero,List.nil_append,List.append_nil]
   rw[al,Bc]
   refine(ah (by rw[h6,show aj.b .add .i64 ((a+8*i:Nat):Int) 8=((a+8*i+8:Nat):Int) from eP (j:=8) (by omega),ji];simp;omega)).2 ?_
   refine af.2 ⟨by rw[nZ rfl,gp,ar,aN,aN];simp;omega,af.2 ⟨rfl,?_⟩⟩
   cases he:((dz (p.xE,p.xC)).2 != 0)
   ·refine(ah he).2 (af.2 ⟨rfl,?_⟩)
    have hchk:aj.k nX (p.DR,p.Eb,(aj.k gB (p.xE,p.xC)).1,p.DG,(aj.spl (aj.r (i:Int) (0:Int)) 0 (aj.s [x0,x1,x2,x3,x4,x5,x6,x7] 0 (aj.mn (aj.l [x0,x1,x2,x3,x4,x5,x6,x7]) (aj.l (aj.r (i:Int) (0:Int)))))))=bif fj (p.DR,p.Eb,(dz (p.xE,p.xC)).1,p.DG,aQ i ((unpack m b).drop a)) then 0 else 50:=by rw[hD];exact tG
    cases hf:fj (p.DR,p.Eb,(dz (p.xE,p.xC)).1,p.DG,aQ i ((unpack m b).drop a))
    ·rw[hf] at hchk
     exact(ai (dd (by rw[hchk];decide))).2 (.ret _)
    ·rw[hf] at hchk
     refine(ah (bO hchk)).2 ?_
     exact aX (congrArg (fun z=>LT.ret ((p.DR,p.Eb,(dz (p.xE,p.xC)).1,p.DG,z),(0:Int))) hD) (.ret _)
   ·exact(ai he).2 (.ret _)
 | succ j ih=>
   intro i p x0 x1 x2 x3 x4 x5 x6 x7 h6 h7 hR hj hi
   have hmb:m≤4096:=by
    simp only[bd,Bool.and_eq_true,decide_eq_true_eq] at hok
    omega
   have hg:aj.k aD ((p.d1,p.d2),((a+8*i:Nat):Int),8)=(((aT (unpack m b) (a+8*i) 8:Nat):Int),0):=by
    rw[h6,h7];exact i6 hok (w:=8) (by omega) (by decide) hmb
   have hf:=cu (unpack m b) (a+8*i) 8
   have hv:aj.v .u8 (aj.v .i64 (aj.k aD ((p.d1,p.d2),((a+8*i:Nat):Int),8)).1)=((aT (unpack m b) (a+8*i) 8:Nat):Int):=by
    rw[hg,aU,aU,gg (by omega) (by omega),w8 (by omega) (by omega)]
   have hn8:aj.and (aj.c .leq 0 (i:Int)) (aj.c .lss (i:Int) 8)=true:=by rw[gp,ao,aN];simp;omega
   rw[al,Bc]
   refine(ai (by rw[h6,show aj.b .add .i64 ((a+8*i:Nat):Int) 8=((a+8*i+8:Nat):Int) from eP (j:=8) (by omega),ji];simp;omega)).2 ?_
   refine(ai (by rw[ao];simp;omega)).2 (af.2 ⟨rfl,(ah (bO (congrArg Prod.snd hg))).2 (af.2 ⟨hn8,?_⟩)⟩)
   obtain⟨S,hS⟩:∃S:List Int,S=([x0,x1,x2,x3,x4,x5,x6,x7]:List Int).set (i:Int).toNat (aj.v .u8 (aj.v .i64 (aj.k aD ((p.d1,p.d2),((a+8*i:Nat):Int),8)).1)):=⟨_,rfl⟩
   have hSl:S.length=8:=by rw[hS,List.length_set];rfl
   have hSv:S=aQ (i+1) ((unpack m b).drop a)++List.replicate (8-(i+1)) 0:=by
    rw[hS,hv,hR,Int.toNat_natCast,List.set_append_right _ _ (by rw[cv];exact Nat.le_refl _),cv,Nat.sub_self,rV,show 8-i=(8-(i+1))+1 from by omega,List.replicate_succ,List.set_cons_zero,List.append_assoc,List.drop_drop]
    rfl
   have hm':=ih (i+1) p (S.getD 0 0) (S.getD 1 0) (S.getD 2 0) (S.getD 3 0) (S.getD 4 0) (S.getD 5 0) (S.getD 6 0) (S.getD 7 0) h6 h7 ((L_ hSl).trans hSv) (by omega) (by omega)
   have e:LD.c3 p (aj.b .add .i64 (i:Int) 1) (aj.b .add .i64 ((a+8*i:Nat):Int) 8) (S.getD 0 0) (S.getD 1 0) (S.getD 2 0) (S.getD 3 0) (S.getD 4 0) (S.getD 5 0) (S.getD 6 0) (S.getD 7 0)=LD.c3 p ((i+1:Nat):Int) ((a+8*(i+1):Nat):Int) (S.getD 0 0) (S.getD 1 0) (S.getD 2 0) (S.getD 3 0) (S.getD 4 0) (S.getD 5 0) (S.getD 6 0) (S.getD 7 0):=by
    rw[cn (by omega),show aj.b .add .i64 ((a+8*i:Nat):Int) 8=((a+8*(i+1):Nat):Int) from eP (j:=8) (by omega)]
   have hm2:=aX (congrArg LT.more e) hm'
   subst hS
   exact hm2
theorem j_{k:Nat}:∀{a c:Nat} {l:List Bool},a+8*k≤c→c≤l.length→aQ k ((l.take c).drop a)=aQ k (l.drop a):=by
 induction k with
 | zero=>intro a c l _ _;rfl
 | succ k ih=>
   intro a c l h hc
   rw[aQ,aQ,List.drop_drop,List.drop_drop,ih (by omega) hc]
   congr 2
   congr 1
   rw[List.drop_take,List.take_take,Nat.min_eq_left (by omega)]
theorem Cy{n a w:Nat}{b:List Int}(hok:bd ((n:Int),b)=true)(h:n<a+w):aj.k aD (((n:Int),b),(a:Int),(w:Int))=(0,2):=by
 rw[ak,aD,vY]
 simp only[hok,Bool.not_true,cond_false]
 rw[show decide ((n:Int)<(a:Int)+(w:Int))=true from by simp;omega,Bool.or_true]
 rfl
theorem wO{n t p m x s:Int}{b:List Int}(h:Ty.cY [(.struct [(.int .i64),(.slice (.int .u8))]),(.struct [(.int .i64),(.int .i64),(.int .i64),(.int .i64),(.int .i64)])] ((n,b),(t,p,m,x,s))):Ty.has (.struct [(.int .i64),(.slice (.int .u8))]) (n,b):=h.1
theorem kW{q:List Bool}(h:q.length=24):dz (bq q)=bif dB (dn q) then(dn q,0) else(zS,40):=by
 rw[dz,eU (by omega),dT,show(bq q).1=24 from by show((q.length:Nat):Int)=24;rw[h];rfl]
 rfl
theorem NI{n t p m x s:Int}{b:List Int}(h:Ty.cY [(.struct [(.int .i64),(.slice (.int .u8))]),(.struct [(.int .i64),(.int .i64),(.int .i64),(.int .i64),(.int .i64)])] ((n,b),(t,p,m,x,s))):aF (Bc aj) (t50 aj n b t p m x s) (jP ((n,b),(t,p,m,x,s))):=by
 have h1:=wO h
 have hb:=(dh h1).2.2
 have hl:=cK h1
 unfold t50
 have hc:aj.k jq (n,b)=bif bd (n,b) then 0 else 10:=jW hb hl
 refine af.2 ⟨rfl,?_⟩
 show aF (Bc aj) _ (bif !bd (n,b) then(cq,10) else bif !dB (t,p,m,x,s) then(cq,40) else nc (aY (n,b)) (t,p,m,x,s))
 cases hok:bd (n,b)
 ·rw[hok] at hc
  refine(ai (dd (by rw[hc];decide))).2 ?_
  exact aX (congrArg (fun z=>LT.ret (((0,0,(0,0,0,0,0),0,([]:List Int)):Int×Int×(Int×Int×Int×Int×Int)×Int×List Int),z)) hc) (.ret _)
 rw[hok] at hc
 refine(ah (bO hc)).2 (af.2 ⟨rfl,?_⟩)
 rw[Bool.not_true,cond_false]
 have hchk:aj.k lv ((t,p,m,x,s),8)=bif dB (t,p,m,x,s) then 0 else 40:=mD (t,p,m,x,s)
 cases hst:dB (t,p,m,x,s)
 ·rw[hst] at hchk
  exact(ai (dd (by rw[hchk];decide))).2 (.ret _)
 rw[hst] at hchk
 refine(ah (bO hchk)).2 (af.2 ⟨rfl,?_⟩)
 rw[Bool.not_true,cond_false]
 obtain⟨h2,h3,h4⟩:=(eB hb).1 hok
 obtain⟨n,rfl⟩:=Int.eq_ofNat_of_zero_le h2
 have hn:n≤4096:=by omega
 have hlen:(aY ((n:Int),b)).length=n:=by rw[dx];rfl
 have hun:aY ((n:Int),b)=unpack n b:=rfl
 have hlu:(unpack n b).length=n:=aR n b
 rw[hun]
 obtain⟨hp1,hp2,hp3,hp4⟩:=Ef hn
 obtain⟨f2,f4,f1,f3⟩:=vc (n:=n)
 by_cases hs:n<2
 ·refine(ai (dd (by rw[show aj.k aD (((n:Int),b),0,2)=(0,2) from Cy (a:=0) (w:=2) hok (by omega)];decide))).2 (af.2 ⟨rfl,?_⟩)
  rw[uh (by omega)]
  refine(ai (show aj.not (aj.k jc ((n:Int),1))=true from ?_)).2 (.ret _)
  rw[aP,ak,hp1,show dJ n 1=false from by rw[←Bool.not_eq_true,f1];omega];rfl
 have g0:aj.k aD (((n:Int),b),0,2)=(((aT (unpack n b) 0 2:Nat):Int),0):=i6 (a:=0) (w:=2) hok (by omega) (by decide) hn
 refine(ah (bO (congrArg Prod.snd g0))).2 (af.2 ⟨rfl,?_⟩)
 have hk:=CG (l:=unpack n b) (by omega)
 have hf:=cu (unpack n b) 0 2
 have hK:aj.b .add .i64 (aj.v .i64 (aj.k aD (((n:Int),b),0,2)).1) 1=((aT (unpack n b) 0 2+1:Nat):Int):=by
  rw[g0,aU,gg (by omega) (by omega)];exact cn (by omega)
 rw[hK]
 have g:∀a w:Nat,a+w≤n→w≤64→aj.k aD (((n:Int),b),(a:Int),(w:Int))=(((aT (unpack n b) a w:Nat):Int),0):=fun a w h1 h2=>i6 hok h1 h2 hn
 have hcv:∀a w:Nat,w≤8→aj.v .i64 ((aT (unpack n b) a w:Nat):Int)=((aT (unpack n b) a w:Nat):Int):=fun a w hw=>by
  have:=cu (unpack n b) a w
  have hp:2^w≤2^8:=Nat.pow_le_pow_right (by decide) hw
  rw[aU,gg (by omega) (by omega)]
 have hcase:aT (unpack n b) 0 2=0∨aT (unpack n b) 0 2=1∨aT (unpack n b) 0 2=2∨aT (unpack n b) 0 2=3:=by omega
 rcases hcase with h0|h0|h0|h0
 ·-- FrCold
  rw[h0] at hk ⊢
  by_cases hfit:dJ n 1=true
  ·have h40:=f1.1 hfit
   refine(ah (show aj.not (aj.k jc ((n:Int),1))=false by rw[aP,ak,hp1,hfit];rfl)).2 ((ai rfl).2 ?_)
   have g1:aj.k aD (((n:Int),b),2,3)=(((aT (unpack n b) 2 3:Nat):Int),0):=g 2 3 (by omega) (by decide)
   have g2:aj.k aD (((n:Int),b),5,8)=(((aT (unpack n b) 5 8:Nat):Int),0):=g 5 8 (by omega) (by decide)
   have g3:aj.k aD (((n:Int),b),13,3)=(((aT (unpack n b) 13 3:Nat):Int),0):=g 13 3 (by omega) (by decide)
   refine af.2 ⟨rfl,(ah (bO (congrArg Prod.snd g1))).2 (af.2 ⟨rfl,(ah (bO (congrArg Prod.snd g2))).2 (af.2 ⟨rfl,(ah (bO (congrArg Prod.snd g3))).2 ?_⟩)⟩)⟩
   rw[al,Bc]
   dsimp only
   rw[EV hk (by omega)]
   have hz:aj.c .neq (aj.v .i64 (aj.k aD (((n:Int),b),13,3)).1) 0=(aT (unpack n b) 13 3 != 0):=by
    rw[g3,hcv 13 3 (by decide),aG,Bool.eq_iff_iff];simp
   cases hzz:(aT (unpack n b) 13 3 != 0)
   ·refine(ah (hz.trans hzz)).2 (af.2 ⟨rfl,?_⟩)
    have ho:aj.k bp (((n:Int),b),1,((0:Int),([]:List Int)))=((cy (((n:Int),b),(0, []))).1,zB,(cy (((n:Int),b),(0, []))).2):=wN (.inl rfl)
    rw[fO (u:=(0, [])) hok rfl (by omega),show over 0 (aY ((0:Int),([]:List Int)))=0 from rfl,hun] at ho
    cases hov:(over 0 (unpack n b) != 0)
    ·rw[hov] at ho
     refine(ah (bO (congrArg (fun z=>z.2.2) ho))).2 ?_
     refine(ah rfl).2 ((ah rfl).2 ((ah rfl).2 (af.2 ⟨rfl,?_⟩)))
     have l1:=cu (unpack n b) 2 3
     have l2:=cu (unpack n b) 5 8
     have e1:(aj.v .i64 (aj.k aD (((n:Int),b),5,8)).1)=((aT (unpack n b) 5 8:Nat):Int):=by rw[g2];exact hcv 5 8 (by decide)
     have e2:(aj.v .i64 (aj.k aD (((n:Int),b),2,3)).1)=((aT (unpack n b) 2 3:Nat):Int):=by rw[g1];exact hcv 2 3 (by decide)
     rw[e1,e2]
     have hfo:fj (1,0,(((aT (unpack n b) 5 8:Nat):Int),0,0,0,0),((aT (unpack n b) 2 3:Nat):Int), [])=true:=by
      rw[fS,kM];simp;omega
     have hch:aj.k nX (1,0,(((aT (unpack n b) 5 8:Nat):Int),0,0,0,0),((aT (unpack n b) 2 3:Nat):Int), [])=0:=by
      rw[ak,tG,hfo];rfl
     exact(ah (bO hch)).2 (.ret _)
    ·rw[hov] at ho
     have e2:=congrArg (fun z=>z.2.2) ho
     refine(ai (dd (show(aj.k bp (((n:Int),b),1,((0:Int),([]:List Int)))).2.2≠0 from by rw[e2];exact(by decide:(21:Int)≠0)))).2 ?_
     exact aX (congrArg (fun z=>LT.ret (((0,0,(0,0,0,0,0),0,([]:List Int)):Int×Int×(Int×Int×Int×Int×Int)×Int×List Int),z)) e2) (.ret _)
   ·exact(ai (hz.trans hzz)).2 (.ret _)
  ·rw[Bool.not_eq_true] at hfit
   rw[fw (by rw[hlu,hk];exact hfit)]
   exact(ai (show aj.not (aj.k jc ((n:Int),1))=true by rw[aP,ak,hp1,hfit];rfl)).2 (.ret _)
 ·-- FrN
  rw[h0] at hk ⊢
  by_cases hfit:dJ n 2=true
  ·have h29:=f2.1 hfit
   refine(ah (show aj.not (aj.k jc ((n:Int),2))=false by rw[aP,ak,hp2,hfit];rfl)).2 ((ah rfl).2 ((ai rfl).2 ?_))
   have g1:aj.k aD (((n:Int),b),2,3)=(((aT (unpack n b) 2 3:Nat):Int),0):=g 2 3 (by omega) (by decide)
   refine af.2 ⟨rfl,(ah (bO (congrArg Prod.snd g1))).2 (af.2 ⟨rfl,?_⟩)⟩
   rw[al,Bc]
   dsimp only
   refine(ah rfl).2 (af.2 ⟨rfl,?_⟩)
   rw[FZ hk (by rw[hlu];exact hfit)]
   have hsb:aj.k oP (t,p,m,x,s)=(bq (bf (t,p,m,x,s)),0):=by rw[ak,oP,jm,hst];rfl
   have ho:aj.k bp (((n:Int),b),2,(aj.k oP (t,p,m,x,s)).1)=((cy (((n:Int),b),bq (bf (t,p,m,x,s)))).1,zB,(cy (((n:Int),b),bq (bf (t,p,m,x,s)))).2):=by
    rw[hsb];exact wN (.inr rfl)
   rw[fO hok (eU (by rw[kr];decide)) (by omega),dT,hun,hlu] at ho
   cases hov:(over (over 0 (bf (t,p,m,x,s))) (unpack n b) != 0)
   ·rw[hov] at ho
    have o1:=congrArg (fun z=>z.1) ho
    refine(ah (bO (congrArg (fun z=>z.2.2) ho))).2 ((ai rfl).2 ?_)
    have e2:(aj.v .i64 (aj.k aD (((n:Int),b),2,3)).1)=((aT (unpack n b) 2 3:Nat):Int):=by rw[g1];exact hcv 2 3 (by decide)
    rw[e2]
    have hfl:((unpack n b).take (n-24)).length=n-24:=by rw[List.length_take,hlu];omega
    have hrest:=KJ (m:=n-24) (d:=(n-29)/8) (a:=5) (b:=pack ((unpack n b).take (n-24))) (by have:=eU (l:=(unpack n b).take (n-24)) (by omega);rwa [bq,hfl] at this) (by omega) (by omega) (by decide) ((n-29)/8) 0
     ⟨t,p,m,x,s,(aj.k bp (((n:Int),b),2,(aj.k oP (t,p,m,x,s)).1)).1.1,(aj.k bp (((n:Int),b),2,(aj.k oP (t,p,m,x,s)).1)).1.2,t,p,m,x,s,0,0,0,0,0,0,0,0,2,((aT (unpack n b) 2 3:Nat):Int),0,0,0,0,0,0,(aj.k bp (((n:Int),b),2,(aj.k oP (t,p,m,x,s)).1)).2.1.1,(aj.k bp (((n:Int),b),2,(aj.k oP (t,p,m,x,s)).1)).2.1.2⟩ 0 0 0 0 0 0 0 0
     (by show(aj.k bp (((n:Int),b),2,(aj.k oP (t,p,m,x,s)).1)).1.1=_;rw[o1];show(((unpack n b).take (n-24)).length:Int)=_;rw[hfl]) (by show(aj.k bp (((n:Int),b),2,(aj.k oP (t,p,m,x,s)).1)).1.2=_;rw[o1];rfl) rfl rfl rfl rfl rfl rfl (by omega) (by omega)
    rw[show unpack (n-24) (pack ((unpack n b).take (n-24)))=(unpack n b).take (n-24) from by have:=unpack_pack ((unpack n b).take (n-24));rwa [hfl] at this] at hrest
    refine Eq.mp (congrArg (aF (Bc aj) _) ?_) hrest
    have hdd:aQ ((n-29)/8) (((unpack n b).take (n-24)).drop 5)=aQ (((unpack n b).length-29)/8) ((unpack n b).drop 5):=by
     rw[hlu]
     exact j_ (by omega) (by rw[hlu];omega)
    show(bif fj (2,((aT (unpack n b) 2 3:Nat):Int),(t,p,m,x,s),0,aQ ((n-29)/8) (((unpack n b).take (n-24)).drop 5)) then((2,((aT (unpack n b) 2 3:Nat):Int),(t,p,m,x,s),0,aQ ((n-29)/8) (((unpack n b).take (n-24)).drop 5)),0) else(cq,51))=_
    rw[hdd,cond_false]
    have hfo:fj (2,((aT (unpack n b) 2 3:Nat):Int),(t,p,m,x,s),0,aQ (((unpack n b).length-29)/8) ((unpack n b).drop 5))=!decide (4<aT (unpack n b) 2 3):=by
     rw[Bool.eq_iff_iff,fS,hst,cv];simp;omega
    rw[hfo]
    cases decide (4<aT (unpack n b) 2 3)<;>rfl
   ·rw[hov] at ho
    have e2:=congrArg (fun z=>z.2.2) ho
    refine(ai (dd (show(aj.k bp (((n:Int),b),2,(aj.k oP (t,p,m,x,s)).1)).2.2≠0 from by rw[e2];exact(by decide:(21:Int)≠0)))).2 ?_
    exact aX (congrArg (fun z=>LT.ret (((0,0,(0,0,0,0,0),0,([]:List Int)):Int×Int×(Int×Int×Int×Int×Int)×Int×List Int),z)) e2) (.ret _)
  ·rw[Bool.not_eq_true] at hfit
   rw[fw (by rw[hlu,hk];exact hfit)]
   exact(ai (show aj.not (aj.k jc ((n:Int),2))=true by rw[aP,ak,hp2,hfit];rfl)).2 (.ret _)
 ·-- FrI
  rw[h0] at hk ⊢
  rw[show((2+1:Nat):Int)=3 from rfl]
  by_cases hfit:dJ n 3=true
  ·have h54:=f3.1 hfit
   refine(ah (show aj.not (aj.k jc ((n:Int),3))=false by rw[aP,ak,hp3,hfit];rfl)).2 ((ah rfl).2 ((ah rfl).2 ?_))
   have g1:aj.k aD (((n:Int),b),2,3)=(((aT (unpack n b) 2 3:Nat):Int),0):=g 2 3 (by omega) (by decide)
   have g2:aj.k aD (((n:Int),b),5,(aj.b .sub .i64 3 2))=(((aT (unpack n b) 5 1:Nat):Int),0):=g 5 1 (by omega) (by decide)
   have e2:(aj.v .i64 (aj.k aD (((n:Int),b),2,3)).1)=((aT (unpack n b) 2 3:Nat):Int):=by rw[g1];exact hcv 2 3 (by decide)
   have hql:(((unpack n b).drop 6).take 24).length=24:=by rw[List.length_take,List.length_drop,hlu];omega
   refine af.2 ⟨rfl,(ah (bO (congrArg Prod.snd g1))).2 ?_⟩
   repeat (first|refine fB.2 ⟨⟨rfl,rfl⟩,?_⟩|refine fB.2 ⟨rfl,?_⟩|refine af.2 ⟨rfl,?_⟩)
   refine(ah (bO (congrArg Prod.snd g2))).2 ?_
   repeat (first|refine fB.2 ⟨⟨rfl,rfl⟩,?_⟩|refine fB.2 ⟨rfl,?_⟩|refine af.2 ⟨rfl,?_⟩)
   rw[al,Bc]
   dsimp only
   rw[Fo hk (by omega)]
   have hz:aj.c .neq (aj.v .i64 (aj.k aD (((n:Int),b),5,(aj.b .sub .i64 3 2))).1) 0=(aT (unpack n b) 5 1 != 0):=by
    rw[g2,hcv 5 1 (by decide),aG,Bool.eq_iff_iff];simp
   cases hzz:(aT (unpack n b) 5 1 != 0)
   ·refine(ah (hz.trans hzz)).2 (af.2 ⟨rfl,?_⟩)
    have ho:aj.k bp (((n:Int),b),3,((0:Int),([]:List Int)))=_:=Ek hok h54
    cases hov:(over 0 (unpack n b) != 0)
    ·rw[hov,cond_false] at ho
     refine(ah (bO (congrArg (fun z=>z.2.2) ho))).2 ((ah rfl).2 ((ah rfl).2 ((ai rfl).2 (af.2 ⟨rfl,?_⟩))))
     have hpz:aj.k gB (aj.k bp (((n:Int),b),3,((0:Int),([]:List Int)))).2.1=bif dB (dn (((unpack n b).drop 6).take 24)) then(dn (((unpack n b).drop 6).take 24),0) else(zS,40):=by
      rw[ho];exact kW hql
     cases hso:dB (dn (((unpack n b).drop 6).take 24))
     ·rw[hso] at hpz
      exact(ai (dd (show(aj.k gB (aj.k bp (((n:Int),b),3,((0:Int),([]:List Int)))).2.1).2≠0 from by rw[hpz];exact(by decide:(40:Int)≠0)))).2 (.ret _)
     ·rw[hso,cond_true] at hpz
      refine(ah (bO (congrArg Prod.snd hpz))).2 (af.2 ⟨rfl,?_⟩)
      rw[e2,hpz]
      have hfo:fj (3,((aT (unpack n b) 2 3:Nat):Int),dn (((unpack n b).drop 6).take 24),0, [])=!decide (4<aT (unpack n b) 2 3):=by
       have hso':=hso
       rw[dn] at hso' ⊢
       rw[Bool.eq_iff_iff,fS,hso'];simp;omega
      have hch:aj.k nX (3,((aT (unpack n b) 2 3:Nat):Int),dn (((unpack n b).drop 6).take 24),0, [])=bif !decide (4<aT (unpack n b) 2 3) then 0 else 50:=by
       rw[←hfo];exact tG
      cases hd:decide (4<aT (unpack n b) 2 3)
      ·rw[hd] at hch
       exact(ah (bO hch)).2 (.ret _)
      ·rw[hd] at hch
       exact(ai (dd (show aj.k nX (3,((aT (unpack n b) 2 3:Nat):Int),dn (((unpack n b).drop 6).take 24),0, [])≠0 from by rw[hch];exact(by decide:(50:Int)≠0)))).2 (.ret _)
    ·rw[hov,cond_true] at ho
     have e3:=congrArg (fun z=>z.2.2) ho
     refine(ai (dd (show(aj.k bp (((n:Int),b),3,((0:Int),([]:List Int)))).2.2≠0 from by rw[e3];exact(by decide:(21:Int)≠0)))).2 ?_
     exact aX (congrArg (fun z=>LT.ret (((0,0,(0,0,0,0,0),0,([]:List Int)):Int×Int×(Int×Int×Int×Int×Int)×Int×List Int),z)) e3) (.ret _)
   ·exact(ai (hz.trans hzz)).2 (.ret _)
  ·rw[Bool.not_eq_true] at hfit
   rw[fw (by rw[hlu,hk];exact hfit)]
   exact(ai (show aj.not (aj.k jc ((n:Int),3))=true by rw[aP,ak,hp3,hfit];rfl)).2 (.ret _)
 ·-- FrX
  rw[h0] at hk ⊢
  rw[show((3+1:Nat):Int)=4 from rfl]
  by_cases hfit:dJ n 4=true
  ·have h79:=f4.1 hfit
   refine(ah (show aj.not (aj.k jc ((n:Int),4))=false by rw[aP,ak,hp4,hfit];rfl)).2 ((ah rfl).2 ((ah rfl).2 ?_))
   have g1:aj.k aD (((n:Int),b),2,3)=(((aT (unpack n b) 2 3:Nat):Int),0):=g 2 3 (by omega) (by decide)
   have g2:aj.k aD (((n:Int),b),5,(aj.b .sub .i64 4 2))=(((aT (unpack n b) 5 2:Nat):Int),0):=g 5 2 (by omega) (by decide)
   have e2:(aj.v .i64 (aj.k aD (((n:Int),b),2,3)).1)=((aT (unpack n b) 2 3:Nat):Int):=by rw[g1];exact hcv 2 3 (by decide)
   have hql:(((unpack n b).drop 7).take 24).length=24:=by rw[List.length_take,List.length_drop,hlu];omega
   refine af.2 ⟨rfl,(ah (bO (congrArg Prod.snd g1))).2 ?_⟩
   repeat (first|refine fB.2 ⟨⟨rfl,rfl⟩,?_⟩|refine fB.2 ⟨rfl,?_⟩|refine af.2 ⟨rfl,?_⟩)
   refine(ah (bO (congrArg Prod.snd g2))).2 ?_
   repeat (first|refine fB.2 ⟨⟨rfl,rfl⟩,?_⟩|refine fB.2 ⟨rfl,?_⟩|refine af.2 ⟨rfl,?_⟩)
   rw[al,Bc]
   dsimp only
   rw[H7 hk (by rw[hlu];exact hfit)]
   have hz:aj.c .neq (aj.v .i64 (aj.k aD (((n:Int),b),5,(aj.b .sub .i64 4 2))).1) 0=(aT (unpack n b) 5 2 != 0):=by
    rw[g2,hcv 5 2 (by decide),aG,Bool.eq_iff_iff];simp
   cases hzz:(aT (unpack n b) 5 2 != 0)
   ·refine(ah (hz.trans hzz)).2 (af.2 ⟨rfl,?_⟩)
    have ho:aj.k bp (((n:Int),b),4,((0:Int),([]:List Int)))=_:=De hok h79.1 h79.2.1
    cases hov:(over 0 ((unpack n b).take 55) != 0)
    ·cases hov2:(over (over 0 (((unpack n b).drop 7).take 24)) (unpack n b) != 0)
     ·rw[hov,cond_false,hov2,cond_false] at ho
      have o1:=congrArg (fun z=>z.1) ho
      have o2:=congrArg (fun z=>z.2.1) ho
      refine(ah (bO (congrArg (fun z=>z.2.2) ho))).2 ((ah rfl).2 ((ai rfl).2 ?_))
      rw[e2]
      have hfl:((unpack n b).take (n-24)).length=n-24:=by rw[List.length_take,hlu];omega
      have hrest:=JJ (m:=n-24) (d:=(n-79)/8) (a:=55) (b:=pack ((unpack n b).take (n-24))) (by have:=eU (l:=(unpack n b).take (n-24)) (by omega);rwa [bq,hfl] at this) (by omega) (by omega) (by decide) ((n-79)/8) 0
       ⟨(aj.k bp (((n:Int),b),4,((0:Int),([]:List Int)))).1.1,(aj.k bp (((n:Int),b),4,((0:Int),([]:List Int)))).1.2,t,p,m,x,s,0,0,0,0,0,0,0,0,4,((aT (unpack n b) 2 3:Nat):Int),0,0,0,0,0,0,(aj.k bp (((n:Int),b),4,((0:Int),([]:List Int)))).2.1.1,(aj.k bp (((n:Int),b),4,((0:Int),([]:List Int)))).2.1.2⟩ 0 0 0 0 0 0 0 0
       (by show(aj.k bp (((n:Int),b),4,((0:Int),([]:List Int)))).1.1=_;rw[o1];show(((unpack n b).take (n-24)).length:Int)=_;rw[hfl]) (by show(aj.k bp (((n:Int),b),4,((0:Int),([]:List Int)))).1.2=_;rw[o1];rfl) rfl (by omega) (by omega)
      rw[show unpack (n-24) (pack ((unpack n b).take (n-24)))=(unpack n b).take (n-24) from by have:=unpack_pack ((unpack n b).take (n-24));rwa [hfl] at this] at hrest
      refine Eq.mp (congrArg (aF (Bc aj) _) ?_) hrest
      have hdd:aQ ((n-79)/8) (((unpack n b).take (n-24)).drop 55)=aQ (((unpack n b).length-79)/8) ((unpack n b).drop 55):=by
       rw[hlu]
       exact j_ (by omega) (by rw[hlu];omega)
      have hpz:dz ((aj.k bp (((n:Int),b),4,((0:Int),([]:List Int)))).2.1.1,(aj.k bp (((n:Int),b),4,((0:Int),([]:List Int)))).2.1.2)=bif dB (dn (((unpack n b).drop 7).take 24)) then(dn (((unpack n b).drop 7).take 24),0) else(zS,40):=by
       rw[o2];exact kW hql
      show(bif (dz ((aj.k bp (((n:Int),b),4,((0:Int),([]:List Int)))).2.1.1,(aj.k bp (((n:Int),b),4,((0:Int),([]:List Int)))).2.1.2)).2 != 0 then(cq,51) else bif fj (4,((aT (unpack n b) 2 3:Nat):Int),(dz ((aj.k bp (((n:Int),b),4,((0:Int),([]:List Int)))).2.1.1,(aj.k bp (((n:Int),b),4,((0:Int),([]:List Int)))).2.1.2)).1,0,aQ ((n-79)/8) (((unpack n b).take (n-24)).drop 55)) then((4,((aT (unpack n b) 2 3:Nat):Int),(dz ((aj.k bp (((n:Int),b),4,((0:Int),([]:List Int)))).2.1.1,(aj.k bp (((n:Int),b),4,((0:Int),([]:List Int)))).2.1.2)).1,0,aQ ((n-79)/8) (((unpack n b).take (n-24)).drop 55)),0) else(cq,51))=_
      rw[hpz,hdd,Bool.or_false,cond_false,cond_false]
      cases hso:dB (dn (((unpack n b).drop 7).take 24))
      ·rfl
      ·have hfo:fj (4,((aT (unpack n b) 2 3:Nat):Int),dn (((unpack n b).drop 7).take 24),0,aQ (((unpack n b).length-79)/8) ((unpack n b).drop 55))=!decide (4<aT (unpack n b) 2 3):=by
        have hso':=hso
        rw[dn] at hso' ⊢
        rw[Bool.eq_iff_iff,fS,hso',cv];simp;omega
       rw[cond_true,hfo]
       cases decide (4<aT (unpack n b) 2 3)<;>rfl
     ·rw[hov,cond_false,hov2,cond_true] at ho
      have e3:=congrArg (fun z=>z.2.2) ho
      refine(ai (dd (show(aj.k bp (((n:Int),b),4,((0:Int),([]:List Int)))).2.2≠0 from by rw[e3];exact(by decide:(21:Int)≠0)))).2 ?_
      exact aX (congrArg (fun z=>LT.ret (((0,0,(0,0,0,0,0),0,([]:List Int)):Int×Int×(Int×Int×Int×Int×Int)×Int×List Int),z)) e3) (.ret _)
    ·rw[hov,cond_true] at ho
     have e3:=congrArg (fun z=>z.2.2) ho
     refine(ai (dd (show(aj.k bp (((n:Int),b),4,((0:Int),([]:List Int)))).2.2≠0 from by rw[e3];exact(by decide:(21:Int)≠0)))).2 ?_
     exact aX (congrArg (fun z=>LT.ret (((0,0,(0,0,0,0,0),0,([]:List Int)):Int×Int×(Int×Int×Int×Int×Int)×Int×List Int),z)) e3) (.ret _)
   ·exact(ai (hz.trans hzz)).2 (.ret _)
  ·rw[Bool.not_eq_true] at hfit
   rw[fw (by rw[hlu,hk];exact hfit)]
   exact(ai (show aj.not (aj.k jc ((n:Int),4))=true by rw[aP,ak,hp4,hfit];rfl)).2 (.ret _)
def pT:((Int×List Int)×(Int×Int×Int×Int×Int))→((Int×Int×(Int×Int×Int×Int×Int)×Int×List Int)×Int):=jP
def YF:aC:=⟨[(.struct [yI,yB]),(.struct [yI,yI,yI,yI,yI])], [(.struct [yI,yI,(.struct [yI,yI,yI,yI,yI]),yI,yB]),yI],(@tt ((Int×List Int)×(Int×Int×Int×Int×Int))),pT⟩
theorem SV:Sd 206 YF:=aK ap cm false 298 [⟨235,3, [[0,3,4], [3,4,8,12,97,100]]⟩] [⟨206,19, [[2,3,4,7,8,9,10]]⟩] (fun A ((bN,bB),cTime,cPos,cMode,cNext,cMember)=>t50 A bN bB cTime cPos cMode cNext cMember) Bc TR (fc Tryz.func206 (fc Tryz.func231 (fc Tryz.func235 fz))) (sc Zy (sc zw (sc Z1 (sc AA (sc Rn (sc VR (sc Un (sc BW sz)))))))) (fun A y=>match y with |.c0 p=>⟨116,zf (by kernel_rfl)⟩|.c1 p=>⟨116,zf (by kernel_rfl)⟩|.c2 p c0 c8 c9 c10 c11 c12 c13 c14 lC c16=>⟨92,zf (by kernel_rfl)⟩|.c3 p d0 d3 d4 d5 d6 d7 d8 d9 kT l8=>⟨92,zf (by kernel_rfl)⟩) fun((bN,bB),cTime,cPos,cMode,cNext,cMember) hp h=>NI h
open Go.Ev.Pl
def t53(A:a_)(bN:Int)(bB:List Int)(cTime:Int)(cPos:Int)(cMode:Int)(cNext:Int)(cMember:Int):LT ((Int×Int×(Int×Int×Int×Int×Int)×Int×List Int)×Bool) Empty:=.need (A.k (@tt ((Int×List Int)×(Int×Int×Int×Int×Int))) ((bN,bB),cTime,cPos,cMode,cNext,cMember)) (.br (A.c .neq (A.k pT ((bN,bB),cTime,cPos,cMode,cNext,cMember)).2 0) (.ret ((0,0,(0,0,0,0,0),0,([]:List Int)),false)) (.br (A.c .eql (A.k pT ((bN,bB),cTime,cPos,cMode,cNext,cMember)).1.1 1) (.ret ((0,0,(0,0,0,0,0),0,([]:List Int)),false)) (.br (A.not (A.and (A.c .eql (A.k pT ((bN,bB),cTime,cPos,cMode,cNext,cMember)).1.2.2.1.1 cTime) (A.and (A.c .eql (A.k pT ((bN,bB),cTime,cPos,cMode,cNext,cMember)).1.2.2.1.2.1 cPos) (A.and (A.c .eql (A.k pT ((bN,bB),cTime,cPos,cMode,cNext,cMember)).1.2.2.1.2.2.1 cMode) (A.and (A.c .eql (A.k pT ((bN,bB),cTime,cPos,cMode,cNext,cMember)).1.2.2.1.2.2.2.1 cNext) (A.and (A.c .eql (A.k pT ((bN,bB),cTime,cPos,cMode,cNext,cMember)).1.2.2.1.2.2.2.2 cMember) true)))))) (.ret ((0,0,(0,0,0,0,0),0,([]:List Int)),false)) (.ret ((A.k pT ((bN,bB),cTime,cPos,cMode,cNext,cMember)).1,true)))))
def AZ:((Int×List Int)×(Int×Int×Int×Int×Int))→((Int×Int×(Int×Int×Int×Int×Int)×Int×List Int)×Bool):=fun((bN,bB),cTime,cPos,cMode,cNext,cMember)=>(t53 aj bN bB cTime cPos cMode cNext cMember).val (Ty.bF [(.struct [yI,yI,(.struct [yI,yI,yI,yI,yI]),yI,yB]),.bool])
def ZA:aC:=⟨[(.struct [yI,yB]),(.struct [yI,yI,yI,yI,yI])], [(.struct [yI,yI,(.struct [yI,yI,yI,yI,yI]),yI,yB]),.bool],(@tt ((Int×List Int)×(Int×Int×Int×Int×Int))),AZ⟩
theorem ZH:Sd 159 ZA:=aH ap cm true 50 [] (fun A ((bN,bB),cTime,cPos,cMode,cNext,cMember)=>t53 A bN bB cTime cPos cMode cNext cMember) (fc Tryz.func159 fz) (sc SV sz) (fun(((bN,bB),cTime,cPos,cMode,cNext,cMember):(Int×List Int)×(Int×Int×Int×Int×Int)) hp h=>by
 show(t53 aj bN bB cTime cPos cMode cNext cMember).pre=true
 simp[t53,LT.pre,ak,bK])
def t51(A:a_)(bN:Int)(bB:List Int):LT ((Int×Int×(Int×Int×Int×Int×Int)×Int×List Int)×Bool) Empty:=.need (A.k (@tt ((Int×List Int)×(Int×Int×Int×Int×Int))) ((bN,bB),0,0,0,0,0)) (.br (A.c .neq (A.k pT ((bN,bB),0,0,0,0,0)).2 0) (.ret ((0,0,(0,0,0,0,0),0,([]:List Int)),false)) (.br (A.c .eql (A.k pT ((bN,bB),0,0,0,0,0)).1.1 2) (.ret ((0,0,(0,0,0,0,0),0,([]:List Int)),false)) (.ret ((A.k pT ((bN,bB),0,0,0,0,0)).1,true))))
def xY:((Int×List Int))→((Int×Int×(Int×Int×Int×Int×Int)×Int×List Int)×Bool):=fun(bN,bB)=>(t51 aj bN bB).val (Ty.bF [(.struct [yI,yI,(.struct [yI,yI,yI,yI,yI]),yI,yB]),.bool])
def Zo:aC:=⟨[(.struct [yI,yB])], [(.struct [yI,yI,(.struct [yI,yI,yI,yI,yI]),yI,yB]),.bool],(@tt ((Int×List Int))),xY⟩
theorem Yr:Sd 193 Zo:=aH ap cm true 43 [] (fun A (bN,bB)=>t51 A bN bB) (fc Tryz.func193 fz) (sc SV sz) (fun((bN,bB):(Int×List Int)) hp h=>by
 show(t51 aj bN bB).pre=true
 simp[t51,LT.pre,ak,bK])
theorem Kr{b:Int×List Int}{t p m n s:Int}:AZ (b,(t,p,m,n,s))=lW (b,(t,p,m,n,s)):=by
 obtain⟨bn,bb⟩:=b
 simp only[AZ,t53,LT.val,lW,ak,aG,aA,aN,aP,pT,Bool.and_true]
 generalize jP ((bn,bb),(t,p,m,n,s))=q
 obtain⟨⟨k,r,⟨t',p',m',n',s'⟩,fr,d⟩,e⟩:=q
 simp only[]
 have hx:((t',p',m',n',s') != (t,p,m,n,s))=!(t'==t&&(p'==p&&(m'==m&&(n'==n&&s'==s)))):=by
  rw[Bool.eq_iff_iff]
  simp only[bne_iff_ne,ne_eq,Bool.not_eq_true',Prod.mk.injEq]
  rw[←Bool.not_eq_true]
  simp only[Bool.and_eq_true,beq_iff_eq]
 rw[hx]
 cases e != 0<;>cases k==1<;>cases (t'==t&&(p'==p&&(m'==m&&(n'==n&&s'==s))))<;>rfl
theorem KC{b:Int×List Int}:xY b=kj b:=by
 obtain⟨bn,bb⟩:=b
 simp only[xY,t51,LT.val,kj,ak,aG,aA,pT]
 show(bif (jP ((bn,bb),zS)).2 != 0 then(cq,false) else bif (jP ((bn,bb),zS)).1.1==2 then(cq,false) else((jP ((bn,bb),zS)).1,true))=_
 cases (jP ((bn,bb),zS)).2 != 0<;>cases (jP ((bn,bb),zS)).1.1==2<;>rfl
theorem mm{R:Type}{d r:R}{t:LT R Empty}(h:aF Empty.elim t r):t.val d=r:=by
 induction h with
 | ret r=>rfl
 | @more y _ _ _=>exact y.elim
 | br h ih=>
   rename_i b t e r
   cases b<;>exact ih
 | need h _ ih=>exact ih
 | eqs h _ ih=>exact ih
theorem JU{v:Nat}(h:v<4611686018427387904):aj.v .i64 (v:Int)=(v:Int):=by rw[aU,gg (by omega) (by omega)]
theorem pz{l u:List Bool}(hl:l.length+24≤4096)(hu:u.length≤4096):zQ (bq l,bq u)=(bq (dE (over 0 u) l),0):=by
 rw[zQ]
 show(bif bd (bq u)&&bd (bq l) then vK (dE (over 0 (aY (bq u))) (aY (bq l))) else(zB,10))=_
 rw[eU hu,eU (l:=l) (by omega),dT,dT,nG (by rw[lf];omega)]
 rfl
theorem CX{l u:List Bool}(h:l.length+u.length≤4096):wL [bq l,bq u]=(bq (l++u),0):=by
 rw[wL]
 show(bif (bd (bq l)&&(bd (bq u)&&true)) then vK (aY (bq l)++(aY (bq u) ++ [])) else(zB,10))=_
 rw[eU (l:=l) (by omega),eU (l:=u) (by omega),dT,dT,List.append_nil,nG (by rw[List.length_append];exact h)]
 rfl
theorem FD{k r t p m n s fr:Int}{d:List Int}(h:Ty.cY [.struct [(.int .i64),(.int .i64),(.struct [(.int .i64),(.int .i64),(.int .i64),(.int .i64),(.int .i64)]),(.int .i64),(.slice (.int .u8))]] (k,r,(t,p,m,n,s),fr,d)):bJ d:=by
 have h2:d.length≤dp∧∀x∈d,0≤x∧x≤255:=h.2.2.2.2
 exact h2.2
end Go.Ev.M
