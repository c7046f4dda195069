/-
  PROVED: what frame.Parse, Good and Explicit compute. Conditions: none.
-/
import Derived.Test.YteldjjjcdpnnbaaGreatFb
namespace Go.Ev.M
open Go.Proofs
set_option maxRecDepth 100000
set_option linter.unusedVariables false
set_option linter.unusedSimpArgs false
open Go.Ev.Pl
structure UT where
 (a0 a1:Int) (a2:List Int) (a3 a4 a5 a6 a7 a8 a9 bH dP a12 jw iv rG a16:Int) (a17:List Int) (tG l_ a20 a21 a22 a23 a24 a25 a26 a27:Int)
structure Yw where
 (b0 b1:Int) (b2:List Int) (b3 b4 b5 b6 b7 b8 b9 b10 b11 b12 b13 z_ Bj dL:Int) (im:List Int) (tH lI mT lZ mU sj sQ rV qc mV:Int) (mQ:List Int)
structure OT where
 (c1 c2 c3 c4 c5 c6:Int) (c7:List Int) (xK JF c19 c20 c21 OG c23 c24 c25 c26 c27 c28 c29 DC c31 c32 c33 c34 c35 c36 c37 c38:Int) (c39:List Int)
structure Om where
 (d1:Int) (d2:List Int) (Ht d13 d14 vP EB TJ TL Hr d20 d21 d22 d23 d24 GZ Gk d27 d28 d29 d30 d31 GB Bq:Int) (AZ:List Int)
inductive OI where
 | c0 (p:UT)
 | c1 (p:Yw)
 | c2 (p:OT) (c0:Int) (c8:Int) (c9:Int) (c10:Int) (c11:Int) (c12:Int) (c13:Int) (c14:Int) (lX:Int) (c16:Int)
 | c3 (p:Om) (d0:Int) (d3:Int) (d4:Int) (d5:Int) (d6:Int) (d7:Int) (d8:Int) (d9:Int) (fO:Int) (gY:Int)
noncomputable def Wm:OI→gB
 | .c0 p=>⟨[⟨206,122,(en [(2,.ptr 0 0),(3,.ptr 1 0),(4,.ptr 2 0),(7,.ptr 3 0),(8,.ptr 4 0),(9,.ptr 5 0),(10,vi p.a0)]),[.code (cw Tryz.f206 [1,1,1,1,1,1,1,1,1,0,0]),.code (cw Tryz.f206 [1,1,1,1,1,1,1,1,1,0,1]),.code (cw Tryz.f206 [1,1,1,1,1,1,1,1,1,1])],[],none⟩],[.flat false [vi p.a1,.sl yU p.a2],.flat false [vi p.a3,vi p.a4,vi p.a5,vi p.a6,vi p.a7],.flat false [vi p.a8,vi p.a9,vi p.bH,vi p.dP,vi p.a12,vi p.jw,vi p.iv,vi p.rG,.bK true],.flat false [vi p.a16,.sl yU p.a17,vi p.tG],.flat false [vi p.l_,vi p.a20,vi p.a21,vi p.a22,vi p.a23,vi p.a24,vi p.a25,vi p.a26,.bK true],.flat false [vi p.a27,.bK true],.dead]⟩
 | .c1 p=>⟨[⟨206,122,(en [(2,.ptr 0 0),(3,.ptr 1 0),(4,.ptr 2 0),(7,.ptr 3 0),(8,.ptr 4 0),(9,.ptr 5 0),(10,vi p.b0)]),[.code (cw Tryz.f206 [1,1,1,1,1,1,1,1,1,0,0]),.code (cw Tryz.f206 [1,1,1,1,1,1,1,1,1,0,1]),.code (cw Tryz.f206 [1,1,1,1,1,1,1,1,1,1])],[],none⟩],[.flat false [vi p.b1,.sl yU p.b2],.flat false [vi p.b3,vi p.b4,vi p.b5,vi p.b6,vi p.b7],.flat false [vi p.b8,vi p.b9,vi p.b10,vi p.b11,vi p.b12,vi p.b13,vi p.z_,vi p.Bj,.bK true],.flat false [vi p.dL,.sl yU p.im,vi p.tH],.flat false [vi p.lI,vi p.mT,vi p.lZ,vi p.mU,vi p.sj,vi p.sQ,vi p.rV,vi p.qc,.bK true],.flat false [vi p.mV,.sl yU p.mQ],.dead]⟩
 | .c2 p c0 c8 c9 c10 c11 c12 c13 c14 lX c16=>⟨[⟨235,34,(en [(0,.ptr 0 0),(3,.ptr 1 0),(4,vi c0)]),[.inLoop (cw Tryz.f235 [1,1,1,0,0,0]),.inBlock 0,.code (cw Tryz.f235 [1,1,1,1])],[],none⟩,⟨206,122,(en [(3,.ptr 2 0),(4,.ptr 3 0),(8,.ptr 4 0),(12,.ptr 5 0),(97,.agg [vi p.c1,vi p.c2,vi p.c3,vi p.c4,vi p.c5]),(100,.ptr 4 2)]),[.ll (ow Tryz.f206 [1,1,1,1,1,1,1,1,1,1,1,1,1,0,1,0,0,0,0,0,1,0]) [0,0,2,1,15,31,63] 2 [4,5,6] [3,0],.code (.exit 1),.inBlock 3,.code (cw Tryz.f206 [1,1,1,1,1,1,1,1,1,1,1,1,1,0,1,0,0,0,1]),.inBlock 4,.code (cw Tryz.f206 [1,1,1,1,1,1,1,1,1,1,1,1,1,0,1,0,1]),.inBlock 1,.code (cw Tryz.f206 [1,1,1,1,1,1,1,1,1,1,1,1,1,1])],[],none⟩],[.flat false [vi p.c6,.sl yU p.c7,vi c8],.flat false [.int .u8 false c9,.int .u8 false c10,.int .u8 false c11,.int .u8 false c12,.int .u8 false c13,.int .u8 false c14,.int .u8 false lX,.int .u8 false c16],.flat false [vi p.xK,vi p.JF,vi p.c19,vi p.c20,vi p.c21],.flat false [vi p.OG,vi p.c23,vi p.c24,vi p.c25,vi p.c26,vi p.c27,vi p.c28,vi p.c29,.bK true],.flat false [vi p.DC,vi p.c31,vi p.c32,vi p.c33,vi p.c34,vi p.c35,vi p.c36,vi p.c37,.bK true],.flat false [vi p.c38,.sl yU p.c39],.dead]⟩
 | .c3 p d0 d3 d4 d5 d6 d7 d8 d9 fO gY=>⟨[⟨235,34,(en [(0,.ptr 0 0),(3,.ptr 1 0),(4,vi d0)]),[.inLoop (cw Tryz.f235 [1,1,1,0,0,0]),.inBlock 0,.code (cw Tryz.f235 [1,1,1,1])],[],none⟩,⟨206,122,(en [(3,.ptr 2 0),(4,.ptr 3 0),(8,.ptr 4 0),(12,.ptr 5 0),(97,.undef),(100,.undef)]),[.ops (ow Tryz.f206 [1,1,1,1,1,1,1,1,1,1,1,1,1,0,1,0,0,0,1,1]) ((ow Tryz.f206 [1,1,1,1,1,1,1,1,1,1,1,1,1,0,1,0,0,0,1,1]).toList.drop 1),.inBlock 4,.code (cw Tryz.f206 [1,1,1,1,1,1,1,1,1,1,1,1,1,0,1,0,1]),.inBlock 1,.code (cw Tryz.f206 [1,1,1,1,1,1,1,1,1,1,1,1,1,1])],[],none⟩],[.flat false [vi p.d1,.sl yU p.d2,vi d3],.flat false [.int .u8 false d4,.int .u8 false d5,.int .u8 false d6,.int .u8 false d7,.int .u8 false d8,.int .u8 false d9,.int .u8 false fO,.int .u8 false gY],.flat false [vi p.Ht,vi p.d13,vi p.d14,vi p.vP,vi p.EB],.flat false [vi p.TJ,vi p.TL,vi p.Hr,vi p.d20,vi p.d21,vi p.d22,vi p.d23,vi p.d24,.bK true],.flat false [vi p.GZ,vi p.Gk,vi p.d27,vi p.d28,vi p.d29,vi p.d30,vi p.d31,vi p.GB,.bK true],.flat false [vi p.Bq,.sl yU p.AZ],.dead]⟩
def t50(A:bi)(bN:Int)(bB:List Int)(cTime:Int)(cPos:Int)(cMode:Int)(cNext:Int)(cMember:Int):LT ((Int×Int×(Int×Int×Int×Int×Int)×Int×List Int)×Int) OI:=.need (A.k (@tt ((Int×List Int))) (bN,bB)) (.br (A.c .neq (A.k j_ (bN,bB)) 0) (.ret ((0,0,(0,0,0,0,0),0,([]:List Int)),(A.k j_ (bN,bB)))) (.need (A.k (@tt ((Int×Int×Int×Int×Int)×Int)) ((cTime,cPos,cMode,cNext,cMember),8)) (.br (A.c .neq (A.k jH ((cTime,cPos,cMode,cNext,cMember),8)) 0) (.ret ((0,0,(0,0,0,0,0),0,([]:List Int)),40)) (.need (A.k (@tt ((Int×List Int)×Int×Int)) ((bN,bB),0,2)) (.br (A.c .neq (A.k aC ((bN,bB),0,2)).2 0) (.need (A.k (@tt (Int×Int)) (bN,1)) (.br (A.not (A.k jS (bN,1))) (.ret ((0,0,(0,0,0,0,0),0,([]:List Int)),51)) (.need (A.k (@tt ((Int×List Int)×Int×Int)) ((bN,bB),0,3)) (.br (A.c .neq (A.k aC ((bN,bB),0,3)).2 0) (.need (A.k (@tt ((Int×List Int)×Int×Int)) ((bN,bB),0,8)) (.br (A.c .neq (A.k aC ((bN,bB),0,8)).2 0) (.need (A.k (@tt ((Int×List Int)×Int×Int)) ((bN,bB),0,3)) (.br (A.c .neq (A.k aC ((bN,bB),0,3)).2 0) (.more (.c0 ⟨0,bN,bB,cTime,cPos,cMode,cNext,cMember,0,0,0,0,0,0,0,0,bN,bB,0,1,0,0,0,0,0,0,0,0⟩)) (.more (.c0 ⟨(A.v .i64 (A.k aC ((bN,bB),0,3)).1),bN,bB,cTime,cPos,cMode,cNext,cMember,0,0,0,0,0,0,0,0,bN,bB,3,1,0,0,0,0,0,0,0,0⟩)))) (.need (A.k (@tt ((Int×List Int)×Int×Int)) ((bN,bB),8,3)) (.br (A.c .neq (A.k aC ((bN,bB),8,3)).2 0) (.more (.c0 ⟨0,bN,bB,cTime,cPos,cMode,cNext,cMember,0,0,0,0,0,0,0,0,bN,bB,8,1,0,(A.v .i64 (A.k aC ((bN,bB),0,8)).1),0,0,0,0,0,0⟩)) (.more (.c0 ⟨(A.v .i64 (A.k aC ((bN,bB),8,3)).1),bN,bB,cTime,cPos,cMode,cNext,cMember,0,0,0,0,0,0,0,0,bN,bB,11,1,0,(A.v .i64 (A.k aC ((bN,bB),0,8)).1),0,0,0,0,0,0⟩)))))) (.need (A.k (@tt ((Int×List Int)×Int×Int)) ((bN,bB),3,8)) (.br (A.c .neq (A.k aC ((bN,bB),3,8)).2 0) (.need (A.k (@tt ((Int×List Int)×Int×Int)) ((bN,bB),3,3)) (.br (A.c .neq (A.k aC ((bN,bB),3,3)).2 0) (.more (.c0 ⟨0,bN,bB,cTime,cPos,cMode,cNext,cMember,0,0,0,0,0,0,0,0,bN,bB,3,1,0,0,0,0,0,0,(A.v .i64 (A.k aC ((bN,bB),0,3)).1),0⟩)) (.more (.c0 ⟨(A.v .i64 (A.k aC ((bN,bB),3,3)).1),bN,bB,cTime,cPos,cMode,cNext,cMember,0,0,0,0,0,0,0,0,bN,bB,6,1,0,0,0,0,0,0,(A.v .i64 (A.k aC ((bN,bB),0,3)).1),0⟩)))) (.need (A.k (@tt ((Int×List Int)×Int×Int)) ((bN,bB),11,3)) (.br (A.c .neq (A.k aC ((bN,bB),11,3)).2 0) (.more (.c0 ⟨0,bN,bB,cTime,cPos,cMode,cNext,cMember,0,0,0,0,0,0,0,0,bN,bB,11,1,0,(A.v .i64 (A.k aC ((bN,bB),3,8)).1),0,0,0,0,(A.v .i64 (A.k aC ((bN,bB),0,3)).1),0⟩)) (.more (.c0 ⟨(A.v .i64 (A.k aC ((bN,bB),11,3)).1),bN,bB,cTime,cPos,cMode,cNext,cMember,0,0,0,0,0,0,0,0,bN,bB,14,1,0,(A.v .i64 (A.k aC ((bN,bB),3,8)).1),0,0,0,0,(A.v .i64 (A.k aC ((bN,bB),0,3)).1),0⟩)))))))))) (.need (A.k (@tt (Int×Int)) (bN,(A.b .add .i64 (A.v .i64 (A.k aC ((bN,bB),0,2)).1) 1))) (.br (A.not (A.k jS (bN,(A.b .add .i64 (A.v .i64 (A.k aC ((bN,bB),0,2)).1) 1)))) (.ret ((0,0,(0,0,0,0,0),0,([]:List Int)),51)) (.br (A.c .eql (A.b .add .i64 (A.v .i64 (A.k aC ((bN,bB),0,2)).1) 1) 1) (.need (A.k (@tt ((Int×List Int)×Int×Int)) ((bN,bB),2,3)) (.br (A.c .neq (A.k aC ((bN,bB),2,3)).2 0) (.need (A.k (@tt ((Int×List Int)×Int×Int)) ((bN,bB),2,8)) (.br (A.c .neq (A.k aC ((bN,bB),2,8)).2 0) (.need (A.k (@tt ((Int×List Int)×Int×Int)) ((bN,bB),2,3)) (.br (A.c .neq (A.k aC ((bN,bB),2,3)).2 0) (.more (.c0 ⟨0,bN,bB,cTime,cPos,cMode,cNext,cMember,0,0,0,0,0,0,0,0,bN,bB,2,(A.b .add .i64 (A.v .i64 (A.k aC ((bN,bB),0,2)).1) 1),0,0,0,0,0,0,0,0⟩)) (.more (.c0 ⟨(A.v .i64 (A.k aC ((bN,bB),2,3)).1),bN,bB,cTime,cPos,cMode,cNext,cMember,0,0,0,0,0,0,0,0,bN,bB,5,(A.b .add .i64 (A.v .i64 (A.k aC ((bN,bB),0,2)).1) 1),0,0,0,0,0,0,0,0⟩)))) (.need (A.k (@tt ((Int×List Int)×Int×Int)) ((bN,bB),10,3)) (.br (A.c .neq (A.k aC ((bN,bB),10,3)).2 0) (.more (.c0 ⟨0,bN,bB,cTime,cPos,cMode,cNext,cMember,0,0,0,0,0,0,0,0,bN,bB,10,(A.b .add .i64 (A.v .i64 (A.k aC ((bN,bB),0,2)).1) 1),0,(A.v .i64 (A.k aC ((bN,bB),2,8)).1),0,0,0,0,0,0⟩)) (.more (.c0 ⟨(A.v .i64 (A.k aC ((bN,bB),10,3)).1),bN,bB,cTime,cPos,cMode,cNext,cMember,0,0,0,0,0,0,0,0,bN,bB,13,(A.b .add .i64 (A.v .i64 (A.k aC ((bN,bB),0,2)).1) 1),0,(A.v .i64 (A.k aC ((bN,bB),2,8)).1),0,0,0,0,0,0⟩)))))) (.need (A.k (@tt ((Int×List Int)×Int×Int)) ((bN,bB),5,8)) (.br (A.c .neq (A.k aC ((bN,bB),5,8)).2 0) (.need (A.k (@tt ((Int×List Int)×Int×Int)) ((bN,bB),5,3)) (.br (A.c .neq (A.k aC ((bN,bB),5,3)).2 0) (.more (.c0 ⟨0,bN,bB,cTime,cPos,cMode,cNext,cMember,0,0,0,0,0,0,0,0,bN,bB,5,(A.b .add .i64 (A.v .i64 (A.k aC ((bN,bB),0,2)).1) 1),0,0,0,0,0,0,(A.v .i64 (A.k aC ((bN,bB),2,3)).1),0⟩)) (.more (.c0 ⟨(A.v .i64 (A.k aC ((bN,bB),5,3)).1),bN,bB,cTime,cPos,cMode,cNext,cMember,0,0,0,0,0,0,0,0,bN,bB,8,(A.b .add .i64 (A.v .i64 (A.k aC ((bN,bB),0,2)).1) 1),0,0,0,0,0,0,(A.v .i64 (A.k aC ((bN,bB),2,3)).1),0⟩)))) (.need (A.k (@tt ((Int×List Int)×Int×Int)) ((bN,bB),13,3)) (.br (A.c .neq (A.k aC ((bN,bB),13,3)).2 0) (.more (.c0 ⟨0,bN,bB,cTime,cPos,cMode,cNext,cMember,0,0,0,0,0,0,0,0,bN,bB,13,(A.b .add .i64 (A.v .i64 (A.k aC ((bN,bB),0,2)).1) 1),0,(A.v .i64 (A.k aC ((bN,bB),5,8)).1),0,0,0,0,(A.v .i64 (A.k aC ((bN,bB),2,3)).1),0⟩)) (.more (.c0 ⟨(A.v .i64 (A.k aC ((bN,bB),13,3)).1),bN,bB,cTime,cPos,cMode,cNext,cMember,0,0,0,0,0,0,0,0,bN,bB,16,(A.b .add .i64 (A.v .i64 (A.k aC ((bN,bB),0,2)).1) 1),0,(A.v .i64 (A.k aC ((bN,bB),5,8)).1),0,0,0,0,(A.v .i64 (A.k aC ((bN,bB),2,3)).1),0⟩)))))))) (.br (A.c .eql (A.b .add .i64 (A.v .i64 (A.k aC ((bN,bB),0,2)).1) 1) 2) (.need (A.k (@tt ((Int×List Int)×Int×Int)) ((bN,bB),2,3)) (.br (A.c .neq (A.k aC ((bN,bB),2,3)).2 0) (.need (A.k (@tt ((Int×Int×Int×Int×Int))) (cTime,cPos,cMode,cNext,cMember)) (.more (.c1 ⟨0,bN,bB,cTime,cPos,cMode,cNext,cMember,0,0,0,0,0,0,0,0,bN,bB,2,(A.b .add .i64 (A.v .i64 (A.k aC ((bN,bB),0,2)).1) 1),0,0,0,0,0,0,0,(A.k pY (cTime,cPos,cMode,cNext,cMember)).1.1,(A.k pY (cTime,cPos,cMode,cNext,cMember)).1.2⟩))) (.need (A.k (@tt ((Int×Int×Int×Int×Int))) (cTime,cPos,cMode,cNext,cMember)) (.more (.c1 ⟨0,bN,bB,cTime,cPos,cMode,cNext,cMember,0,0,0,0,0,0,0,0,bN,bB,5,(A.b .add .i64 (A.v .i64 (A.k aC ((bN,bB),0,2)).1) 1),(A.v .i64 (A.k aC ((bN,bB),2,3)).1),0,0,0,0,0,0,(A.k pY (cTime,cPos,cMode,cNext,cMember)).1.1,(A.k pY (cTime,cPos,cMode,cNext,cMember)).1.2⟩))))) (.need (A.k (@tt ((Int×List Int)×Int×Int)) ((bN,bB),2,3)) (.br (A.c .neq (A.k aC ((bN,bB),2,3)).2 0) (.eqs (IntKind.i64=IntKind.i64∧((A.b .sub .i64 (A.b .add .i64 (A.v .i64 (A.k aC ((bN,bB),0,2)).1) 1) 2):Int)=(A.b .sub .i64 (A.b .add .i64 (A.v .i64 (A.k aC ((bN,bB),0,2)).1) 1) 2)) (.eqs (IntKind.i64=IntKind.i64∧((A.b .add .i64 (A.v .i64 (A.k aC ((bN,bB),0,2)).1) 1):Int)=(A.b .add .i64 (A.v .i64 (A.k aC ((bN,bB),0,2)).1) 1)) (.eqs ((.ptr 4 0:AV)=.ptr 4 0) (.eqs ((.ptr 3 0:AV)=.ptr 3 0) (.need (A.k (@tt ((Int×List Int)×Int×Int)) ((bN,bB),2,(A.b .sub .i64 (A.b .add .i64 (A.v .i64 (A.k aC ((bN,bB),0,2)).1) 1) 2))) (.br (A.c .neq (A.k aC ((bN,bB),2,(A.b .sub .i64 (A.b .add .i64 (A.v .i64 (A.k aC ((bN,bB),0,2)).1) 1) 2))).2 0) (.eqs ((.ptr 4 1:AV)=.ptr 4 1) (.more (.c0 ⟨0,bN,bB,cTime,cPos,cMode,cNext,cMember,0,0,0,0,0,0,0,0,bN,bB,2,(A.b .add .i64 (A.v .i64 (A.k aC ((bN,bB),0,2)).1) 1),0,0,0,0,0,0,0,0⟩))) (.eqs ((.ptr 4 1:AV)=.ptr 4 1) (.more (.c0 ⟨(A.v .i64 (A.k aC ((bN,bB),2,(A.b .sub .i64 (A.b .add .i64 (A.v .i64 (A.k aC ((bN,bB),0,2)).1) 1) 2))).1),bN,bB,cTime,cPos,cMode,cNext,cMember,0,0,0,0,0,0,0,0,bN,bB,(A.b .add .i64 2 (A.b .sub .i64 (A.b .add .i64 (A.v .i64 (A.k aC ((bN,bB),0,2)).1) 1) 2)),(A.b .add .i64 (A.v .i64 (A.k aC ((bN,bB),0,2)).1) 1),0,0,0,0,0,0,0,0⟩))))))))) (.eqs (IntKind.i64=IntKind.i64∧((A.b .sub .i64 (A.b .add .i64 (A.v .i64 (A.k aC ((bN,bB),0,2)).1) 1) 2):Int)=(A.b .sub .i64 (A.b .add .i64 (A.v .i64 (A.k aC ((bN,bB),0,2)).1) 1) 2)) (.eqs (IntKind.i64=IntKind.i64∧((A.b .add .i64 (A.v .i64 (A.k aC ((bN,bB),0,2)).1) 1):Int)=(A.b .add .i64 (A.v .i64 (A.k aC ((bN,bB),0,2)).1) 1)) (.eqs ((.ptr 4 0:AV)=.ptr 4 0) (.eqs ((.ptr 3 0:AV)=.ptr 3 0) (.need (A.k (@tt ((Int×List Int)×Int×Int)) ((bN,bB),5,(A.b .sub .i64 (A.b .add .i64 (A.v .i64 (A.k aC ((bN,bB),0,2)).1) 1) 2))) (.br (A.c .neq (A.k aC ((bN,bB),5,(A.b .sub .i64 (A.b .add .i64 (A.v .i64 (A.k aC ((bN,bB),0,2)).1) 1) 2))).2 0) (.eqs ((.ptr 4 1:AV)=.ptr 4 1) (.more (.c0 ⟨0,bN,bB,cTime,cPos,cMode,cNext,cMember,0,0,0,0,0,0,0,0,bN,bB,5,(A.b .add .i64 (A.v .i64 (A.k aC ((bN,bB),0,2)).1) 1),(A.v .i64 (A.k aC ((bN,bB),2,3)).1),0,0,0,0,0,0,0⟩))) (.eqs ((.ptr 4 1:AV)=.ptr 4 1) (.more (.c0 ⟨(A.v .i64 (A.k aC ((bN,bB),5,(A.b .sub .i64 (A.b .add .i64 (A.v .i64 (A.k aC ((bN,bB),0,2)).1) 1) 2))).1),bN,bB,cTime,cPos,cMode,cNext,cMember,0,0,0,0,0,0,0,0,bN,bB,(A.b .add .i64 5 (A.b .sub .i64 (A.b .add .i64 (A.v .i64 (A.k aC ((bN,bB),0,2)).1) 1) 2)),(A.b .add .i64 (A.v .i64 (A.k aC ((bN,bB),0,2)).1) 1),(A.v .i64 (A.k aC ((bN,bB),2,3)).1),0,0,0,0,0,0,0⟩))))))))))))))))))))
def Ex(A:bi):OI→LT ((Int×Int×(Int×Int×Int×Int×Int)×Int×List Int)×Int) OI
 | .c0 p=>.br (A.c .neq p.a0 0) (.ret ((0,0,(0,0,0,0,0),0,([]:List Int)),51)) (.need (A.k (@tt ((Int×List Int)×Int×(Int×List Int))) ((p.a1,p.a2),p.l_,p.a27,([]:List Int))) (.br (A.c .neq (A.k bC ((p.a1,p.a2),p.l_,p.a27,([]:List Int))).2.2 0) (.ret ((0,0,(0,0,0,0,0),0,([]:List Int)),(A.k bC ((p.a1,p.a2),p.l_,p.a27,([]:List Int))).2.2)) (.br (A.c .eql p.l_ 2) (.more (.c2 ⟨p.a3,p.a4,p.a5,p.a6,p.a7,(A.k bC ((p.a1,p.a2),p.l_,p.a27,([]:List Int))).1.1,(A.k bC ((p.a1,p.a2),p.l_,p.a27,([]:List Int))).1.2,p.a3,p.a4,p.a5,p.a6,p.a7,p.a8,p.a9,p.bH,p.dP,p.a12,p.jw,p.iv,p.rG,p.l_,p.a20,p.a21,p.a22,p.a23,p.a24,p.a25,p.a26,(A.k bC ((p.a1,p.a2),p.l_,p.a27,([]:List Int))).2.1.1,(A.k bC ((p.a1,p.a2),p.l_,p.a27,([]:List Int))).2.1.2⟩ 0 p.tG 0 0 0 0 0 0 0 0)) (.br (A.c .eql p.l_ 4) (.more (.c3 ⟨(A.k bC ((p.a1,p.a2),p.l_,p.a27,([]:List Int))).1.1,(A.k bC ((p.a1,p.a2),p.l_,p.a27,([]:List Int))).1.2,p.a3,p.a4,p.a5,p.a6,p.a7,p.a8,p.a9,p.bH,p.dP,p.a12,p.jw,p.iv,p.rG,p.l_,p.a20,p.a21,p.a22,p.a23,p.a24,p.a25,p.a26,(A.k bC ((p.a1,p.a2),p.l_,p.a27,([]:List Int))).2.1.1,(A.k bC ((p.a1,p.a2),p.l_,p.a27,([]:List Int))).2.1.2⟩ 0 55 0 0 0 0 0 0 0 0)) (.br (A.c .eql p.l_ 3) (.need (A.k (@tt ((Int×List Int))) (A.k bC ((p.a1,p.a2),p.l_,p.a27,([]:List Int))).2.1) (.br (A.c .neq (A.k iq (A.k bC ((p.a1,p.a2),p.l_,p.a27,([]:List Int))).2.1).2 0) (.ret ((0,0,(0,0,0,0,0),0,([]:List Int)),51)) (.need (A.k (@tt ((Int×Int×(Int×Int×Int×Int×Int)×Int×List Int))) (p.l_,p.a20,(A.k iq (A.k bC ((p.a1,p.a2),p.l_,p.a27,([]:List Int))).2.1).1,p.a26,([]:List Int))) (.br (A.c .neq (A.k oU (p.l_,p.a20,(A.k iq (A.k bC ((p.a1,p.a2),p.l_,p.a27,([]:List Int))).2.1).1,p.a26,([]:List Int))) 0) (.ret ((0,0,(0,0,0,0,0),0,([]:List Int)),51)) (.ret ((p.l_,p.a20,(A.k iq (A.k bC ((p.a1,p.a2),p.l_,p.a27,([]:List Int))).2.1).1,p.a26,([]:List Int)),0)))))) (.need (A.k (@tt ((Int×Int×(Int×Int×Int×Int×Int)×Int×List Int))) (p.l_,p.a20,(p.a21,p.a22,p.a23,p.a24,p.a25),p.a26,([]:List Int))) (.br (A.c .neq (A.k oU (p.l_,p.a20,(p.a21,p.a22,p.a23,p.a24,p.a25),p.a26,([]:List Int))) 0) (.ret ((0,0,(0,0,0,0,0),0,([]:List Int)),51)) (.ret ((p.l_,p.a20,(p.a21,p.a22,p.a23,p.a24,p.a25),p.a26,([]:List Int)),0)))))))))
 | .c1 p=>.br (A.c .neq p.b0 0) (.ret ((0,0,(0,0,0,0,0),0,([]:List Int)),51)) (.need (A.k (@tt ((Int×List Int)×Int×(Int×List Int))) ((p.b1,p.b2),p.lI,p.mV,p.mQ)) (.br (A.c .neq (A.k bC ((p.b1,p.b2),p.lI,p.mV,p.mQ)).2.2 0) (.ret ((0,0,(0,0,0,0,0),0,([]:List Int)),(A.k bC ((p.b1,p.b2),p.lI,p.mV,p.mQ)).2.2)) (.br (A.c .eql p.lI 2) (.more (.c2 ⟨p.b3,p.b4,p.b5,p.b6,p.b7,(A.k bC ((p.b1,p.b2),p.lI,p.mV,p.mQ)).1.1,(A.k bC ((p.b1,p.b2),p.lI,p.mV,p.mQ)).1.2,p.b3,p.b4,p.b5,p.b6,p.b7,p.b8,p.b9,p.b10,p.b11,p.b12,p.b13,p.z_,p.Bj,p.lI,p.mT,p.lZ,p.mU,p.sj,p.sQ,p.rV,p.qc,(A.k bC ((p.b1,p.b2),p.lI,p.mV,p.mQ)).2.1.1,(A.k bC ((p.b1,p.b2),p.lI,p.mV,p.mQ)).2.1.2⟩ 0 p.tH 0 0 0 0 0 0 0 0)) (.br (A.c .eql p.lI 4) (.more (.c3 ⟨(A.k bC ((p.b1,p.b2),p.lI,p.mV,p.mQ)).1.1,(A.k bC ((p.b1,p.b2),p.lI,p.mV,p.mQ)).1.2,p.b3,p.b4,p.b5,p.b6,p.b7,p.b8,p.b9,p.b10,p.b11,p.b12,p.b13,p.z_,p.Bj,p.lI,p.mT,p.lZ,p.mU,p.sj,p.sQ,p.rV,p.qc,(A.k bC ((p.b1,p.b2),p.lI,p.mV,p.mQ)).2.1.1,(A.k bC ((p.b1,p.b2),p.lI,p.mV,p.mQ)).2.1.2⟩ 0 55 0 0 0 0 0 0 0 0)) (.br (A.c .eql p.lI 3) (.need (A.k (@tt ((Int×List Int))) (A.k bC ((p.b1,p.b2),p.lI,p.mV,p.mQ)).2.1) (.br (A.c .neq (A.k iq (A.k bC ((p.b1,p.b2),p.lI,p.mV,p.mQ)).2.1).2 0) (.ret ((0,0,(0,0,0,0,0),0,([]:List Int)),51)) (.need (A.k (@tt ((Int×Int×(Int×Int×Int×Int×Int)×Int×List Int))) (p.lI,p.mT,(A.k iq (A.k bC ((p.b1,p.b2),p.lI,p.mV,p.mQ)).2.1).1,p.qc,([]:List Int))) (.br (A.c .neq (A.k oU (p.lI,p.mT,(A.k iq (A.k bC ((p.b1,p.b2),p.lI,p.mV,p.mQ)).2.1).1,p.qc,([]:List Int))) 0) (.ret ((0,0,(0,0,0,0,0),0,([]:List Int)),51)) (.ret ((p.lI,p.mT,(A.k iq (A.k bC ((p.b1,p.b2),p.lI,p.mV,p.mQ)).2.1).1,p.qc,([]:List Int)),0)))))) (.need (A.k (@tt ((Int×Int×(Int×Int×Int×Int×Int)×Int×List Int))) (p.lI,p.mT,(p.lZ,p.mU,p.sj,p.sQ,p.rV),p.qc,([]:List Int))) (.br (A.c .neq (A.k oU (p.lI,p.mT,(p.lZ,p.mU,p.sj,p.sQ,p.rV),p.qc,([]:List Int))) 0) (.ret ((0,0,(0,0,0,0,0),0,([]:List Int)),51)) (.ret ((p.lI,p.mT,(p.lZ,p.mU,p.sj,p.sQ,p.rV),p.qc,([]:List Int)),0)))))))))
 | .c2 p c0 c8 c9 c10 c11 c12 c13 c14 lX c16=>.br (A.c .leq (A.b .add .i64 c8 8) p.c6) (.br (A.c .lss c0 8) (.need (A.k (@tt ((Int×List Int)×Int×Int)) ((p.c6,p.c7),c8,8)) (.br (A.c .neq (A.k aC ((p.c6,p.c7),c8,8)).2 0) (.need (A.and (A.c .leq 0 c0) (A.c .lss c0 8)) (.more (.c2 p (A.b .add .i64 c0 1) c8 (A.n yU (A.set [c9,c10,c11,c12,c13,c14,lX,c16] c0 (0:Int)) 0:Int) (A.n yU (A.set [c9,c10,c11,c12,c13,c14,lX,c16] c0 (0:Int)) 1:Int) (A.n yU (A.set [c9,c10,c11,c12,c13,c14,lX,c16] c0 (0:Int)) 2:Int) (A.n yU (A.set [c9,c10,c11,c12,c13,c14,lX,c16] c0 (0:Int)) 3:Int) (A.n yU (A.set [c9,c10,c11,c12,c13,c14,lX,c16] c0 (0:Int)) 4:Int) (A.n yU (A.set [c9,c10,c11,c12,c13,c14,lX,c16] c0 (0:Int)) 5:Int) (A.n yU (A.set [c9,c10,c11,c12,c13,c14,lX,c16] c0 (0:Int)) 6:Int) (A.n yU (A.set [c9,c10,c11,c12,c13,c14,lX,c16] c0 (0:Int)) 7:Int)))) (.need (A.and (A.c .leq 0 c0) (A.c .lss c0 8)) (.more (.c2 p (A.b .add .i64 c0 1) (A.b .add .i64 c8 8) (A.n yU (A.set [c9,c10,c11,c12,c13,c14,lX,c16] c0 (A.v .u8 (A.v .i64 (A.k aC ((p.c6,p.c7),c8,8)).1))) 0:Int) (A.n yU (A.set [c9,c10,c11,c12,c13,c14,lX,c16] c0 (A.v .u8 (A.v .i64 (A.k aC ((p.c6,p.c7),c8,8)).1))) 1:Int) (A.n yU (A.set [c9,c10,c11,c12,c13,c14,lX,c16] c0 (A.v .u8 (A.v .i64 (A.k aC ((p.c6,p.c7),c8,8)).1))) 2:Int) (A.n yU (A.set [c9,c10,c11,c12,c13,c14,lX,c16] c0 (A.v .u8 (A.v .i64 (A.k aC ((p.c6,p.c7),c8,8)).1))) 3:Int) (A.n yU (A.set [c9,c10,c11,c12,c13,c14,lX,c16] c0 (A.v .u8 (A.v .i64 (A.k aC ((p.c6,p.c7),c8,8)).1))) 4:Int) (A.n yU (A.set [c9,c10,c11,c12,c13,c14,lX,c16] c0 (A.v .u8 (A.v .i64 (A.k aC ((p.c6,p.c7),c8,8)).1))) 5:Int) (A.n yU (A.set [c9,c10,c11,c12,c13,c14,lX,c16] c0 (A.v .u8 (A.v .i64 (A.k aC ((p.c6,p.c7),c8,8)).1))) 6:Int) (A.n yU (A.set [c9,c10,c11,c12,c13,c14,lX,c16] c0 (A.v .u8 (A.v .i64 (A.k aC ((p.c6,p.c7),c8,8)).1))) 7:Int)))))) (.need (A.and (A.c .eql c0 c0) (A.and (A.c .leq 0 c0) (A.c .leq c0 140737488355328))) (.eqs ((.ptr 4 2:AV)=.ptr 4 2) (.eqs ((.agg [.int .i64 false p.xK,.int .i64 false p.JF,.int .i64 false p.c19,.int .i64 false p.c20,.int .i64 false p.c21]:AV)=.agg [.int .i64 false p.c1,.int .i64 false p.c2,.int .i64 false p.c3,.int .i64 false p.c4,.int .i64 false p.c5]) (.need (A.k (@tt ((Int×Int×(Int×Int×Int×Int×Int)×Int×List Int))) (p.DC,p.c31,(p.c1,p.c2,p.c3,p.c4,p.c5),p.c37,(A.spl (A.r c0 (0:Int)) 0 (A.s [c9,c10,c11,c12,c13,c14,lX,c16] 0 (A.mn (A.l [c9,c10,c11,c12,c13,c14,lX,c16]) (A.l (A.r c0 (0:Int)))))))) (.br (A.c .neq (A.k oU (p.DC,p.c31,(p.c1,p.c2,p.c3,p.c4,p.c5),p.c37,(A.spl (A.r c0 (0:Int)) 0 (A.s [c9,c10,c11,c12,c13,c14,lX,c16] 0 (A.mn (A.l [c9,c10,c11,c12,c13,c14,lX,c16]) (A.l (A.r c0 (0:Int)))))))) 0) (.ret ((0,0,(0,0,0,0,0),0,([]:List Int)),51)) (.ret ((p.DC,p.c31,(p.c1,p.c2,p.c3,p.c4,p.c5),p.c37,(A.spl (A.r c0 (0:Int)) 0 (A.s [c9,c10,c11,c12,c13,c14,lX,c16] 0 (A.mn (A.l [c9,c10,c11,c12,c13,c14,lX,c16]) (A.l (A.r c0 (0:Int))))))),0)))))))) (.need (A.and (A.c .eql c0 c0) (A.and (A.c .leq 0 c0) (A.c .leq c0 140737488355328))) (.eqs ((.ptr 4 2:AV)=.ptr 4 2) (.eqs ((.agg [.int .i64 false p.xK,.int .i64 false p.JF,.int .i64 false p.c19,.int .i64 false p.c20,.int .i64 false p.c21]:AV)=.agg [.int .i64 false p.c1,.int .i64 false p.c2,.int .i64 false p.c3,.int .i64 false p.c4,.int .i64 false p.c5]) (.need (A.k (@tt ((Int×Int×(Int×Int×Int×Int×Int)×Int×List Int))) (p.DC,p.c31,(p.c1,p.c2,p.c3,p.c4,p.c5),p.c37,(A.spl (A.r c0 (0:Int)) 0 (A.s [c9,c10,c11,c12,c13,c14,lX,c16] 0 (A.mn (A.l [c9,c10,c11,c12,c13,c14,lX,c16]) (A.l (A.r c0 (0:Int)))))))) (.br (A.c .neq (A.k oU (p.DC,p.c31,(p.c1,p.c2,p.c3,p.c4,p.c5),p.c37,(A.spl (A.r c0 (0:Int)) 0 (A.s [c9,c10,c11,c12,c13,c14,lX,c16] 0 (A.mn (A.l [c9,c10,c11,c12,c13,c14,lX,c16]) (A.l (A.r c0 (0:Int)))))))) 0) (.ret ((0,0,(0,0,0,0,0),0,([]:List Int)),51)) (.ret ((p.DC,p.c31,(p.c1,p.c2,p.c3,p.c4,p.c5),p.c37,(A.spl (A.r c0 (0:Int)) 0 (A.s [c9,c10,c11,c12,c13,c14,lX,c16] 0 (A.mn (A.l [c9,c10,c11,c12,c13,c14,lX,c16]) (A.l (A.r c0 (0:Int))))))),0)))))))
 | .c3 p d0 d3 d4 d5 d6 d7 d8 d9 fO gY=>.br (A.c .leq (A.b .add .i64 d3 8) p.d1) (.br (A.c .lss d0 8) (.need (A.k (@tt ((Int×List Int)×Int×Int)) ((p.d1,p.d2),d3,8)) (.br (A.c .neq (A.k aC ((p.d1,p.d2),d3,8)).2 0) (.need (A.and (A.c .leq 0 d0) (A.c .lss d0 8)) (.more (.c3 p (A.b .add .i64 d0 1) d3 (A.n yU (A.set [d4,d5,d6,d7,d8,d9,fO,gY] d0 (0:Int)) 0:Int) (A.n yU (A.set [d4,d5,d6,d7,d8,d9,fO,gY] d0 (0:Int)) 1:Int) (A.n yU (A.set [d4,d5,d6,d7,d8,d9,fO,gY] d0 (0:Int)) 2:Int) (A.n yU (A.set [d4,d5,d6,d7,d8,d9,fO,gY] d0 (0:Int)) 3:Int) (A.n yU (A.set [d4,d5,d6,d7,d8,d9,fO,gY] d0 (0:Int)) 4:Int) (A.n yU (A.set [d4,d5,d6,d7,d8,d9,fO,gY] d0 (0:Int)) 5:Int) (A.n yU (A.set [d4,d5,d6,d7,d8,d9,fO,gY] d0 (0:Int)) 6:Int) (A.n yU (A.set [d4,d5,d6,d7,d8,d9,fO,gY] d0 (0:Int)) 7:Int)))) (.need (A.and (A.c .leq 0 d0) (A.c .lss d0 8)) (.more (.c3 p (A.b .add .i64 d0 1) (A.b .add .i64 d3 8) (A.n yU (A.set [d4,d5,d6,d7,d8,d9,fO,gY] d0 (A.v .u8 (A.v .i64 (A.k aC ((p.d1,p.d2),d3,8)).1))) 0:Int) (A.n yU (A.set [d4,d5,d6,d7,d8,d9,fO,gY] d0 (A.v .u8 (A.v .i64 (A.k aC ((p.d1,p.d2),d3,8)).1))) 1:Int) (A.n yU (A.set [d4,d5,d6,d7,d8,d9,fO,gY] d0 (A.v .u8 (A.v .i64 (A.k aC ((p.d1,p.d2),d3,8)).1))) 2:Int) (A.n yU (A.set [d4,d5,d6,d7,d8,d9,fO,gY] d0 (A.v .u8 (A.v .i64 (A.k aC ((p.d1,p.d2),d3,8)).1))) 3:Int) (A.n yU (A.set [d4,d5,d6,d7,d8,d9,fO,gY] d0 (A.v .u8 (A.v .i64 (A.k aC ((p.d1,p.d2),d3,8)).1))) 4:Int) (A.n yU (A.set [d4,d5,d6,d7,d8,d9,fO,gY] d0 (A.v .u8 (A.v .i64 (A.k aC ((p.d1,p.d2),d3,8)).1))) 5:Int) (A.n yU (A.set [d4,d5,d6,d7,d8,d9,fO,gY] d0 (A.v .u8 (A.v .i64 (A.k aC ((p.d1,p.d2),d3,8)).1))) 6:Int) (A.n yU (A.set [d4,d5,d6,d7,d8,d9,fO,gY] d0 (A.v .u8 (A.v .i64 (A.k aC ((p.d1,p.d2),d3,8)).1))) 7:Int)))))) (.need (A.and (A.c .eql d0 d0) (A.and (A.c .leq 0 d0) (A.c .leq d0 140737488355328))) (.need (A.k (@tt ((Int×List Int))) (p.Bq,p.AZ)) (.br (A.c .neq (A.k iq (p.Bq,p.AZ)).2 0) (.ret ((0,0,(0,0,0,0,0),0,([]:List Int)),51)) (.need (A.k (@tt ((Int×Int×(Int×Int×Int×Int×Int)×Int×List Int))) (p.GZ,p.Gk,(A.k iq (p.Bq,p.AZ)).1,p.GB,(A.spl (A.r d0 (0:Int)) 0 (A.s [d4,d5,d6,d7,d8,d9,fO,gY] 0 (A.mn (A.l [d4,d5,d6,d7,d8,d9,fO,gY]) (A.l (A.r d0 (0:Int)))))))) (.br (A.c .neq (A.k oU (p.GZ,p.Gk,(A.k iq (p.Bq,p.AZ)).1,p.GB,(A.spl (A.r d0 (0:Int)) 0 (A.s [d4,d5,d6,d7,d8,d9,fO,gY] 0 (A.mn (A.l [d4,d5,d6,d7,d8,d9,fO,gY]) (A.l (A.r d0 (0:Int)))))))) 0) (.ret ((0,0,(0,0,0,0,0),0,([]:List Int)),51)) (.ret ((p.GZ,p.Gk,(A.k iq (p.Bq,p.AZ)).1,p.GB,(A.spl (A.r d0 (0:Int)) 0 (A.s [d4,d5,d6,d7,d8,d9,fO,gY] 0 (A.mn (A.l [d4,d5,d6,d7,d8,d9,fO,gY]) (A.l (A.r d0 (0:Int))))))),0)))))))) (.need (A.and (A.c .eql d0 d0) (A.and (A.c .leq 0 d0) (A.c .leq d0 140737488355328))) (.need (A.k (@tt ((Int×List Int))) (p.Bq,p.AZ)) (.br (A.c .neq (A.k iq (p.Bq,p.AZ)).2 0) (.ret ((0,0,(0,0,0,0,0),0,([]:List Int)),51)) (.need (A.k (@tt ((Int×Int×(Int×Int×Int×Int×Int)×Int×List Int))) (p.GZ,p.Gk,(A.k iq (p.Bq,p.AZ)).1,p.GB,(A.spl (A.r d0 (0:Int)) 0 (A.s [d4,d5,d6,d7,d8,d9,fO,gY] 0 (A.mn (A.l [d4,d5,d6,d7,d8,d9,fO,gY]) (A.l (A.r d0 (0:Int)))))))) (.br (A.c .neq (A.k oU (p.GZ,p.Gk,(A.k iq (p.Bq,p.AZ)).1,p.GB,(A.spl (A.r d0 (0:Int)) 0 (A.s [d4,d5,d6,d7,d8,d9,fO,gY] 0 (A.mn (A.l [d4,d5,d6,d7,d8,d9,fO,gY]) (A.l (A.r d0 (0:Int)))))))) 0) (.ret ((0,0,(0,0,0,0,0),0,([]:List Int)),51)) (.ret ((p.GZ,p.Gk,(A.k iq (p.Bq,p.AZ)).1,p.GB,(A.spl (A.r d0 (0:Int)) 0 (A.s [d4,d5,d6,d7,d8,d9,fO,gY] 0 (A.mn (A.l [d4,d5,d6,d7,d8,d9,fO,gY]) (A.l (A.r d0 (0:Int))))))),0)))))))
theorem ay{R Y:Type}{step:Y→LT R Y}{t:LT R Y}{r r':R}(h:r=r')(h2:aA step t r):aA step t r':=h▸h2
theorem ON{S:List Int}(h:S.length=8):[S.getD 0 0,S.getD 1 0,S.getD 2 0,S.getD 3 0,S.getD 4 0,S.getD 5 0,S.getD 6 0,S.getD 7 0]=S:=by
 match S,h with
 | [_,_,_,_,_,_,_,_],_=>rfl
theorem tx(k:Nat):∀l:List Bool,aY (k+1) l=aY k l ++ [((d_ ((l.drop (8*k)).take 8):Nat):Int)]:=by
 induction k with
 | zero=>intro l;rfl
 | succ k ih=>
   intro l
   rw[aY,ih,aY,List.cons_append,List.drop_drop,show 8+8*k=8*(k+1) from by omega]
theorem Mn{m d a:Nat}{b:List Int}(hok:bO ((m:Int),b)=true)(hm:m=a+8*d)(hd:d≤8)(ha:a≤100):∀(j i:Nat) (p:OT) (x0 x1 x2 x3 x4 x5 x6 x7:Int),p.c6=(m:Int)→p.c7=b→p.xK=p.c1→p.JF=p.c2→p.c19=p.c3→p.c20=p.c4→p.c21=p.c5→ [x0,x1,x2,x3,x4,x5,x6,x7]=aY i ((unpack m b).drop a)++List.replicate (8-i) 0→d-i=j→i≤d→
  aA (Ex aj) (.more (.c2 p (i:Int) ((a+8*i:Nat):Int) x0 x1 x2 x3 x4 x5 x6 x7)) (bif eX (p.DC,p.c31,(p.c1,p.c2,p.c3,p.c4,p.c5),p.c37,aY d ((unpack m b).drop a)) then((p.DC,p.c31,(p.c1,p.c2,p.c3,p.c4,p.c5),p.c37,aY d ((unpack m b).drop a)),0) else(dz,51)):=by
 intro j
 induction j with
 | zero=>
   intro i p x0 x1 x2 x3 x4 x5 x6 x7 h6 h7 iC h18 tK h20 h21 hR hj hi
   have:i=d:=by omega
   subst this
   have hdl:=dC i ((unpack m b).drop a)
   have hD:(aj.spl (aj.r (i:Int) (0:Int)) 0 (aj.s [x0,x1,x2,x3,x4,x5,x6,x7] 0 (aj.mn (aj.l [x0,x1,x2,x3,x4,x5,x6,x7]) (aj.l (aj.r (i:Int) (0:Int))))):List Int)=aY i ((unpack m b).drop a):=by
    rw[hR]
    have e1:aj.r (i:Int) (0:Int)=List.replicate i 0:=by rw[lY,Int.toNat_natCast]
    rw[e1]
    have e2:aj.mn (aj.l (aY i ((unpack m b).drop a)++List.replicate (8-i) (0:Int))) (aj.l (List.replicate i (0:Int)))=(i:Int):=by
     show(if ((List.replicate i (0:Int)).length:Int)<((aY i ((unpack m b).drop a)++List.replicate (8-i) (0:Int)).length:Int) then((List.replicate i (0:Int)).length:Int) else((aY i ((unpack m b).drop a)++List.replicate (8-i) (0:Int)).length:Int))=_
     rw[List.length_append,hdl,List.length_replicate,List.length_replicate]
     split<;>omega
    have hT:(aY i ((unpack m b).drop a)++List.replicate (8-i) (0:Int)).take i=aY i ((unpack m b).drop a):=by rw[List.take_append_of_le_length (by omega),List.take_of_length_le (by omega)]
    rw[e2,lV,oH,Int.toNat_natCast,hT]
    show(List.replicate i (0:Int)).take 0++(aY i ((unpack m b).drop a)).drop 0++(List.replicate i (0:Int)).drop (0+((aY i ((unpack m b).drop a)).drop 0).length)=_
    rw[List.drop_zero,hdl,List.drop_replicate,show i-(0+i)=0 from by omega,List.replicate_zero,List.take_zero,List.nil_append,List.append_nil]
   rw[al,Ex]
   refine(ah (by rw[h6,show aj.b .add .i64 ((a+8*i:Nat):Int) 8=((a+8*i+8:Nat):Int) from gf (j:=8) (by omega),j6];simp;omega)).2 ?_
   refine af.2 ⟨by rw[qo rfl,gZ,aB,aR,aR];simp;omega,fe.2 ⟨rfl,fe.2 ⟨by rw[iC,h18,tK,h20,h21],af.2 ⟨rfl,?_⟩⟩⟩⟩
   have hchk:aj.k oU (p.DC,p.c31,(p.c1,p.c2,p.c3,p.c4,p.c5),p.c37,(aj.spl (aj.r (i:Int) (0:Int)) 0 (aj.s [x0,x1,x2,x3,x4,x5,x6,x7] 0 (aj.mn (aj.l [x0,x1,x2,x3,x4,x5,x6,x7]) (aj.l (aj.r (i:Int) (0:Int)))))))=bif eX (p.DC,p.c31,(p.c1,p.c2,p.c3,p.c4,p.c5),p.c37,aY i ((unpack m b).drop a)) then 0 else 50:=by rw[hD];exact uF
   cases hf:eX (p.DC,p.c31,(p.c1,p.c2,p.c3,p.c4,p.c5),p.c37,aY i ((unpack m b).drop a))
   ·rw[hf] at hchk
    exact(ai (fL (by rw[hchk];decide))).2 (.ret _)
   ·rw[hf] at hchk
    refine(ah (dw hchk)).2 ?_
    exact bl (congrArg (fun z=>LT.ret ((p.DC,p.c31,(p.c1,p.c2,p.c3,p.c4,p.c5),p.c37,z),(0:Int))) hD) (.ret _)
 | succ j ih=>
   intro i p x0 x1 x2 x3 x4 x5 x6 x7 h6 h7 iC h18 tK h20 h21 hR hj hi
   have hmb:m≤4096:=by
    simp only[bO,Bool.and_eq_true,decide_eq_true_eq] at hok
    omega
   have hg:aj.k aC ((p.c6,p.c7),((a+8*i:Nat):Int),8)=(((bq (unpack m b) (a+8*i) 8:Nat):Int),0):=by
    rw[h6,h7];exact kr hok (w:=8) (by omega) (by decide) hmb
   have hf:=eT (unpack m b) (a+8*i) 8
   have hv:aj.v .u8 (aj.v .i64 (aj.k aC ((p.c6,p.c7),((a+8*i:Nat):Int),8)).1)=((bq (unpack m b) (a+8*i) 8:Nat):Int):=by
    rw[hg,bu,bu,fI (by omega) (by omega),w8 (by omega) (by omega)]
   have hn8:aj.and (aj.c .leq 0 (i:Int)) (aj.c .lss (i:Int) 8)=true:=by rw[gZ,ar,aR];simp;omega
   rw[al,Ex]
   refine(ai (by rw[h6,show aj.b .add .i64 ((a+8*i:Nat):Int) 8=((a+8*i+8:Nat):Int) from gf (j:=8) (by omega),j6];simp;omega)).2 ?_
   refine(ai (by rw[ar];simp;omega)).2 (af.2 ⟨rfl,(ah (dw (congrArg Prod.snd hg))).2 (af.2 ⟨hn8,?_⟩)⟩)
   obtain⟨S,hS⟩:∃S:List Int,S=([x0,x1,x2,x3,x4,x5,x6,x7]:List Int).set (i:Int).toNat (aj.v .u8 (aj.v .i64 (aj.k aC ((p.c6,p.c7),((a+8*i:Nat):Int),8)).1)):=⟨_,rfl⟩
   have hSl:S.length=8:=by rw[hS,List.length_set];rfl
   have hSv:S=aY (i+1) ((unpack m b).drop a)++List.replicate (8-(i+1)) 0:=by
    rw[hS,hv,hR,Int.toNat_natCast,List.set_append_right _ _ (by rw[dC];exact Nat.le_refl _),dC,Nat.sub_self,tx,show 8-i=(8-(i+1))+1 from by omega,List.replicate_succ,List.set_cons_zero,List.append_assoc,List.drop_drop]
    rfl
   have hm':=ih (i+1) p (S.getD 0 0) (S.getD 1 0) (S.getD 2 0) (S.getD 3 0) (S.getD 4 0) (S.getD 5 0) (S.getD 6 0) (S.getD 7 0) h6 h7 iC h18 tK h20 h21 ((ON hSl).trans hSv) (by omega) (by omega)
   have e:OI.c2 p (aj.b .add .i64 (i:Int) 1) (aj.b .add .i64 ((a+8*i:Nat):Int) 8) (S.getD 0 0) (S.getD 1 0) (S.getD 2 0) (S.getD 3 0) (S.getD 4 0) (S.getD 5 0) (S.getD 6 0) (S.getD 7 0)=OI.c2 p ((i+1:Nat):Int) ((a+8*(i+1):Nat):Int) (S.getD 0 0) (S.getD 1 0) (S.getD 2 0) (S.getD 3 0) (S.getD 4 0) (S.getD 5 0) (S.getD 6 0) (S.getD 7 0):=by
    rw[eu (by omega),show aj.b .add .i64 ((a+8*i:Nat):Int) 8=((a+8*(i+1):Nat):Int) from gf (j:=8) (by omega)]
   have hm2:=bl (congrArg LT.more e) hm'
   subst hS
   exact hm2
theorem MJ{m d a:Nat}{b:List Int}(hok:bO ((m:Int),b)=true)(hm:m=a+8*d)(hd:d≤8)(ha:a≤100):∀(j i:Nat) (p:Om) (x0 x1 x2 x3 x4 x5 x6 x7:Int),p.d1=(m:Int)→p.d2=b→ [x0,x1,x2,x3,x4,x5,x6,x7]=aY i ((unpack m b).drop a)++List.replicate (8-i) 0→d-i=j→i≤d→
  aA (Ex aj) (.more (.c3 p (i:Int) ((a+8*i:Nat):Int) x0 x1 x2 x3 x4 x5 x6 x7)) (bif (dZ (p.Bq,p.AZ)).2 != 0 then(dz,51) else bif eX (p.GZ,p.Gk,(dZ (p.Bq,p.AZ)).1,p.GB,aY d ((unpack m b).drop a)) then((p.GZ,p.Gk,(dZ (p.Bq,p.AZ)).1,p.GB,aY d ((unpack m b).drop a)),0) else(dz,51)):=by
 intro j
 induction j with
 | zero=>
   intro i p x0 x1 x2 x3 x4 x5 x6 x7 h6 h7 hR hj hi
   have:i=d:=by omega
   subst this
   have hdl:=dC i ((unpack m b).drop a)
   have hD:(aj.spl (aj.r (i:Int) (0:Int)) 0 (aj.s [x0,x1,x2,x3,x4,x5,x6,x7] 0 (aj.mn (aj.l [x0,x1,x2,x3,x4,x5,x6,x7]) (aj.l (aj.r (i:Int) (0:Int))))):List Int)=aY i ((unpack m b).drop a):=by
    rw[hR]
    have e1:aj.r (i:Int) (0:Int)=List.replicate i 0:=by rw[lY,Int.toNat_natCast]
    rw[e1]
    have e2:aj.mn (aj.l (aY i ((unpack m b).drop a)++List.replicate (8-i) (0:Int))) (aj.l (List.replicate i (0:Int)))=(i:Int):=by
     show(if ((List.replicate i (0:Int)).length:Int)<((aY i ((unpack m b).drop a)++List.replicate (8-i) (0:Int)).length:Int) then((List.replicate i (0:Int)).length:Int) else((aY i ((unpack m b).drop a)++List.replicate (8-i) (0:Int)).length:Int))=_
     rw[List.length_append,hdl,List.length_replicate,List.length_replicate]
     split<;>omega
    have hT:(aY i ((unpack m b).drop a)++List.replicate (8-i) (0:Int)).take i=aY i ((unpack m b).drop a):=by rw[List.take_append_of_le_length (by omega),List.take_of_length_le (by omega)]
    rw[e2,lV,oH,Int.toNat_natCast,hT]
    show(List.replicate i (0:Int)).take 0++(aY i ((unpack m b).drop a)).drop 0++(List.replicate i (0:Int)).drop (0+((aY i ((unpack m b).drop a)).drop 0).length)=_
    rw[List.drop_zero,hdl,List.drop_replicate,show i-(0+i)=0 from by omega,List.replicate_zero,List.take_zero,List.nil_append,List.append_nil]
   rw[al,Ex]
   refine(ah (by rw[h6,show aj.b .add .i64 ((a+8*i:Nat):Int) 8=((a+8*i+8:Nat):Int) from gf (j:=8) (by omega),j6];simp;omega)).2 ?_
   refine af.2 ⟨by rw[qo rfl,gZ,aB,aR,aR];simp;omega,af.2 ⟨rfl,?_⟩⟩
   cases he:((dZ (p.Bq,p.AZ)).2 != 0)
   ·refine(ah he).2 (af.2 ⟨rfl,?_⟩)
    have hchk:aj.k oU (p.GZ,p.Gk,(aj.k iq (p.Bq,p.AZ)).1,p.GB,(aj.spl (aj.r (i:Int) (0:Int)) 0 (aj.s [x0,x1,x2,x3,x4,x5,x6,x7] 0 (aj.mn (aj.l [x0,x1,x2,x3,x4,x5,x6,x7]) (aj.l (aj.r (i:Int) (0:Int)))))))=bif eX (p.GZ,p.Gk,(dZ (p.Bq,p.AZ)).1,p.GB,aY i ((unpack m b).drop a)) then 0 else 50:=by rw[hD];exact uF
    cases hf:eX (p.GZ,p.Gk,(dZ (p.Bq,p.AZ)).1,p.GB,aY i ((unpack m b).drop a))
    ·rw[hf] at hchk
     exact(ai (fL (by rw[hchk];decide))).2 (.ret _)
    ·rw[hf] at hchk
     refine(ah (dw hchk)).2 ?_
     exact bl (congrArg (fun z=>LT.ret ((p.GZ,p.Gk,(dZ (p.Bq,p.AZ)).1,p.GB,z),(0:Int))) hD) (.ret _)
   ·exact(ai he).2 (.ret _)
 | succ j ih=>
   intro i p x0 x1 x2 x3 x4 x5 x6 x7 h6 h7 hR hj hi
   have hmb:m≤4096:=by
    simp only[bO,Bool.and_eq_true,decide_eq_true_eq] at hok
    omega
   have hg:aj.k aC ((p.d1,p.d2),((a+8*i:Nat):Int),8)=(((bq (unpack m b) (a+8*i) 8:Nat):Int),0):=by
    rw[h6,h7];exact kr hok (w:=8) (by omega) (by decide) hmb
   have hf:=eT (unpack m b) (a+8*i) 8
   have hv:aj.v .u8 (aj.v .i64 (aj.k aC ((p.d1,p.d2),((a+8*i:Nat):Int),8)).1)=((bq (unpack m b) (a+8*i) 8:Nat):Int):=by
    rw[hg,bu,bu,fI (by omega) (by omega),w8 (by omega) (by omega)]
   have hn8:aj.and (aj.c .leq 0 (i:Int)) (aj.c .lss (i:Int) 8)=true:=by rw[gZ,ar,aR];simp;omega
   rw[al,Ex]
   refine(ai (by rw[h6,show aj.b .add .i64 ((a+8*i:Nat):Int) 8=((a+8*i+8:Nat):Int) from gf (j:=8) (by omega),j6];simp;omega)).2 ?_
   refine(ai (by rw[ar];simp;omega)).2 (af.2 ⟨rfl,(ah (dw (congrArg Prod.snd hg))).2 (af.2 ⟨hn8,?_⟩)⟩)
   obtain⟨S,hS⟩:∃S:List Int,S=([x0,x1,x2,x3,x4,x5,x6,x7]:List Int).set (i:Int).toNat (aj.v .u8 (aj.v .i64 (aj.k aC ((p.d1,p.d2),((a+8*i:Nat):Int),8)).1)):=⟨_,rfl⟩
   have hSl:S.length=8:=by rw[hS,List.length_set];rfl
   have hSv:S=aY (i+1) ((unpack m b).drop a)++List.replicate (8-(i+1)) 0:=by
    rw[hS,hv,hR,Int.toNat_natCast,List.set_append_right _ _ (by rw[dC];exact Nat.le_refl _),dC,Nat.sub_self,tx,show 8-i=(8-(i+1))+1 from by omega,List.replicate_succ,List.set_cons_zero,List.append_assoc,List.drop_drop]
    rfl
   have hm':=ih (i+1) p (S.getD 0 0) (S.getD 1 0) (S.getD 2 0) (S.getD 3 0) (S.getD 4 0) (S.getD 5 0) (S.getD 6 0) (S.getD 7 0) h6 h7 ((ON hSl).trans hSv) (by omega) (by omega)
   have e:OI.c3 p (aj.b .add .i64 (i:Int) 1) (aj.b .add .i64 ((a+8*i:Nat):Int) 8) (S.getD 0 0) (S.getD 1 0) (S.getD 2 0) (S.getD 3 0) (S.getD 4 0) (S.getD 5 0) (S.getD 6 0) (S.getD 7 0)=OI.c3 p ((i+1:Nat):Int) ((a+8*(i+1):Nat):Int) (S.getD 0 0) (S.getD 1 0) (S.getD 2 0) (S.getD 3 0) (S.getD 4 0) (S.getD 5 0) (S.getD 6 0) (S.getD 7 0):=by
    rw[eu (by omega),show aj.b .add .i64 ((a+8*i:Nat):Int) 8=((a+8*(i+1):Nat):Int) from gf (j:=8) (by omega)]
   have hm2:=bl (congrArg LT.more e) hm'
   subst hS
   exact hm2
theorem tu{k:Nat}:∀{a c:Nat} {l:List Bool},a+8*k≤c→c≤l.length→aY k ((l.take c).drop a)=aY k (l.drop a):=by
 induction k with
 | zero=>intro a c l _ _;rfl
 | succ k ih=>
   intro a c l h hc
   rw[aY,aY,List.drop_drop,List.drop_drop,ih (by omega) hc]
   congr 2
   congr 1
   rw[List.drop_take,List.take_take,Nat.min_eq_left (by omega)]
theorem Nt{n a w:Nat}{b:List Int}(hok:bO ((n:Int),b)=true)(h:n<a+w):aj.k aC (((n:Int),b),(a:Int),(w:Int))=(0,2):=by
 rw[ap,aC,Gr]
 simp only[hok,Bool.not_true,cond_false]
 rw[show decide ((n:Int)<(a:Int)+(w:Int))=true from by simp;omega,Bool.or_true]
 rfl
theorem G9{n t p m x s:Int}{b:List Int}(h:Ty.dK [(.struct [(.int .i64),(.slice (.int .u8))]),(.struct [(.int .i64),(.int .i64),(.int .i64),(.int .i64),(.int .i64)])] ((n,b),(t,p,m,x,s))):Ty.has (.struct [(.int .i64),(.slice (.int .u8))]) (n,b):=h.1
theorem wy{q:List Bool}(h:q.length=24):dZ (bS q)=bif eP (fF q) then(fF q,0) else(zS,40):=by
 rw[dZ,iN (by omega),gG,show(bS q).1=24 from by show((q.length:Nat):Int)=24;rw[h];rfl]
 rfl
theorem RO{n t p m x s:Int}{b:List Int}(h:Ty.dK [(.struct [(.int .i64),(.slice (.int .u8))]),(.struct [(.int .i64),(.int .i64),(.int .i64),(.int .i64),(.int .i64)])] ((n,b),(t,p,m,x,s))):aA (Ex aj) (t50 aj n b t p m x s) (kI ((n,b),(t,p,m,x,s))):=by
 have h1:=G9 h
 have hb:=(eZ h1).2.2
 have hl:=dO h1
 unfold t50
 have hc:aj.k j_ (n,b)=bif bO (n,b) then 0 else 10:=kQ hb hl
 refine af.2 ⟨rfl,?_⟩
 show aA (Ex aj) _ (bif !bO (n,b) then(dz,10) else bif !eP (t,p,m,x,s) then(dz,40) else lw (bR (n,b)) (t,p,m,x,s))
 cases hok:bO (n,b)
 ·rw[hok] at hc
  refine(ai (fL (by rw[hc];decide))).2 ?_
  exact bl (congrArg (fun z=>LT.ret (((0,0,(0,0,0,0,0),0,([]:List Int)):Int×Int×(Int×Int×Int×Int×Int)×Int×List Int),z)) hc) (.ret _)
 rw[hok] at hc
 refine(ah (dw hc)).2 (af.2 ⟨rfl,?_⟩)
 rw[Bool.not_true,cond_false]
 have hchk:aj.k jH ((t,p,m,x,s),8)=bif eP (t,p,m,x,s) then 0 else 40:=rX (t,p,m,x,s)
 cases hst:eP (t,p,m,x,s)
 ·rw[hst] at hchk
  exact(ai (fL (by rw[hchk];decide))).2 (.ret _)
 rw[hst] at hchk
 refine(ah (dw hchk)).2 (af.2 ⟨rfl,?_⟩)
 rw[Bool.not_true,cond_false]
 obtain⟨h2,h3,h4⟩:=(gW hb).1 hok
 obtain⟨n,rfl⟩:=Int.eq_ofNat_of_zero_le h2
 have hn:n≤4096:=by omega
 have hlen:(bR ((n:Int),b)).length=n:=by rw[il];rfl
 have hun:bR ((n:Int),b)=unpack n b:=rfl
 have hlu:(unpack n b).length=n:=bg n b
 rw[hun]
 obtain⟨hp1,hp2,hp3,hp4⟩:=GX hn
 obtain⟨f2,f4,f1,f3⟩:=Lj (n:=n)
 by_cases hs:n<2
 ·refine(ai (fL (by rw[show aj.k aC (((n:Int),b),0,2)=(0,2) from Nt (a:=0) (w:=2) hok (by omega)];decide))).2 (af.2 ⟨rfl,?_⟩)
  rw[D_ (by omega)]
  refine(ai (show aj.not (aj.k jS ((n:Int),1))=true from ?_)).2 (.ret _)
  rw[bD,ap,hp1,show eB n 1=false from by rw[←Bool.not_eq_true,f1];omega];rfl
 have g0:aj.k aC (((n:Int),b),0,2)=(((bq (unpack n b) 0 2:Nat):Int),0):=kr (a:=0) (w:=2) hok (by omega) (by decide) hn
 refine(ah (dw (congrArg Prod.snd g0))).2 (af.2 ⟨rfl,?_⟩)
 have hk:=Nm (l:=unpack n b) (by omega)
 have hf:=eT (unpack n b) 0 2
 have hK:aj.b .add .i64 (aj.v .i64 (aj.k aC (((n:Int),b),0,2)).1) 1=((bq (unpack n b) 0 2+1:Nat):Int):=by
  rw[g0,bu,fI (by omega) (by omega)];exact eu (by omega)
 rw[hK]
 have g:∀a w:Nat,a+w≤n→w≤64→aj.k aC (((n:Int),b),(a:Int),(w:Int))=(((bq (unpack n b) a w:Nat):Int),0):=fun a w h1 h2=>kr hok h1 h2 hn
 have hcv:∀a w:Nat,w≤8→aj.v .i64 ((bq (unpack n b) a w:Nat):Int)=((bq (unpack n b) a w:Nat):Int):=fun a w hw=>by
  have:=eT (unpack n b) a w
  have hp:2^w≤2^8:=Nat.pow_le_pow_right (by decide) hw
  rw[bu,fI (by omega) (by omega)]
 have hcase:bq (unpack n b) 0 2=0∨bq (unpack n b) 0 2=1∨bq (unpack n b) 0 2=2∨bq (unpack n b) 0 2=3:=by omega
 rcases hcase with h0|h0|h0|h0
 ·-- FrCold
  rw[h0] at hk ⊢
  by_cases hfit:eB n 1=true
  ·have h40:=f1.1 hfit
   refine(ah (show aj.not (aj.k jS ((n:Int),1))=false by rw[bD,ap,hp1,hfit];rfl)).2 ((ai rfl).2 ?_)
   have g1:aj.k aC (((n:Int),b),2,3)=(((bq (unpack n b) 2 3:Nat):Int),0):=g 2 3 (by omega) (by decide)
   have g2:aj.k aC (((n:Int),b),5,8)=(((bq (unpack n b) 5 8:Nat):Int),0):=g 5 8 (by omega) (by decide)
   have g3:aj.k aC (((n:Int),b),13,3)=(((bq (unpack n b) 13 3:Nat):Int),0):=g 13 3 (by omega) (by decide)
   refine af.2 ⟨rfl,(ah (dw (congrArg Prod.snd g1))).2 (af.2 ⟨rfl,(ah (dw (congrArg Prod.snd g2))).2 (af.2 ⟨rfl,(ah (dw (congrArg Prod.snd g3))).2 ?_⟩)⟩)⟩
   rw[al,Ex]
   dsimp only
   rw[SJ hk (by omega)]
   have hz:aj.c .neq (aj.v .i64 (aj.k aC (((n:Int),b),13,3)).1) 0=(bq (unpack n b) 13 3 != 0):=by
    rw[g3,hcv 13 3 (by decide),aJ,Bool.eq_iff_iff];simp
   cases hzz:(bq (unpack n b) 13 3 != 0)
   ·refine(ah (hz.trans hzz)).2 (af.2 ⟨rfl,?_⟩)
    have ho:aj.k bC (((n:Int),b),1,((0:Int),([]:List Int)))=((dG (((n:Int),b),(0, []))).1,zB,(dG (((n:Int),b),(0, []))).2):=zk (.inl rfl)
    rw[nL (u:=(0, [])) hok rfl (by omega),show over 0 (bR ((0:Int),([]:List Int)))=0 from rfl,hun] at ho
    cases hov:(over 0 (unpack n b) != 0)
    ·rw[hov] at ho
     refine(ah (dw (congrArg (fun z=>z.2.2) ho))).2 ?_
     refine(ah rfl).2 ((ah rfl).2 ((ah rfl).2 (af.2 ⟨rfl,?_⟩)))
     have l1:=eT (unpack n b) 2 3
     have l2:=eT (unpack n b) 5 8
     have e1:(aj.v .i64 (aj.k aC (((n:Int),b),5,8)).1)=((bq (unpack n b) 5 8:Nat):Int):=by rw[g2];exact hcv 5 8 (by decide)
     have e2:(aj.v .i64 (aj.k aC (((n:Int),b),2,3)).1)=((bq (unpack n b) 2 3:Nat):Int):=by rw[g1];exact hcv 2 3 (by decide)
     rw[e1,e2]
     have hfo:eX (1,0,(((bq (unpack n b) 5 8:Nat):Int),0,0,0,0),((bq (unpack n b) 2 3:Nat):Int), [])=true:=by
      rw[jI,jD];simp;omega
     have hch:aj.k oU (1,0,(((bq (unpack n b) 5 8:Nat):Int),0,0,0,0),((bq (unpack n b) 2 3:Nat):Int), [])=0:=by
      rw[ap,uF,hfo];rfl
     exact(ah (dw hch)).2 (.ret _)
    ·rw[hov] at ho
     have e2:=congrArg (fun z=>z.2.2) ho
     refine(ai (fL (show(aj.k bC (((n:Int),b),1,((0:Int),([]:List Int)))).2.2≠0 from by rw[e2];exact(by decide:(21:Int)≠0)))).2 ?_
     exact bl (congrArg (fun z=>LT.ret (((0,0,(0,0,0,0,0),0,([]:List Int)):Int×Int×(Int×Int×Int×Int×Int)×Int×List Int),z)) e2) (.ret _)
   ·exact(ai (hz.trans hzz)).2 (.ret _)
  ·rw[Bool.not_eq_true] at hfit
   rw[kB (by rw[hlu,hk];exact hfit)]
   exact(ai (show aj.not (aj.k jS ((n:Int),1))=true by rw[bD,ap,hp1,hfit];rfl)).2 (.ret _)
 ·-- FrN
  rw[h0] at hk ⊢
  by_cases hfit:eB n 2=true
  ·have h29:=f2.1 hfit
   refine(ah (show aj.not (aj.k jS ((n:Int),2))=false by rw[bD,ap,hp2,hfit];rfl)).2 ((ah rfl).2 ((ai rfl).2 ?_))
   have g1:aj.k aC (((n:Int),b),2,3)=(((bq (unpack n b) 2 3:Nat):Int),0):=g 2 3 (by omega) (by decide)
   refine af.2 ⟨rfl,(ah (dw (congrArg Prod.snd g1))).2 (af.2 ⟨rfl,?_⟩)⟩
   rw[al,Ex]
   dsimp only
   refine(ah rfl).2 (af.2 ⟨rfl,?_⟩)
   rw[Rh hk (by rw[hlu];exact hfit)]
   have hsb:aj.k pY (t,p,m,x,s)=(bS (aW (t,p,m,x,s)),0):=by rw[ap,pY,kM,hst];rfl
   have ho:aj.k bC (((n:Int),b),2,(aj.k pY (t,p,m,x,s)).1)=((dG (((n:Int),b),bS (aW (t,p,m,x,s)))).1,zB,(dG (((n:Int),b),bS (aW (t,p,m,x,s)))).2):=by
    rw[hsb];exact zk (.inr rfl)
   rw[nL hok (iN (by rw[ia];decide)) (by omega),gG,hun,hlu] at ho
   cases hov:(over (over 0 (aW (t,p,m,x,s))) (unpack n b) != 0)
   ·rw[hov] at ho
    have o1:=congrArg (fun z=>z.1) ho
    refine(ah (dw (congrArg (fun z=>z.2.2) ho))).2 ((ai rfl).2 ?_)
    have e2:(aj.v .i64 (aj.k aC (((n:Int),b),2,3)).1)=((bq (unpack n b) 2 3:Nat):Int):=by rw[g1];exact hcv 2 3 (by decide)
    rw[e2]
    have hfl:((unpack n b).take (n-24)).length=n-24:=by rw[List.length_take,hlu];omega
    have hrest:=Mn (m:=n-24) (d:=(n-29)/8) (a:=5) (b:=pack ((unpack n b).take (n-24))) (by have:=iN (l:=(unpack n b).take (n-24)) (by omega);rwa [bS,hfl] at this) (by omega) (by omega) (by decide) ((n-29)/8) 0
     ⟨t,p,m,x,s,(aj.k bC (((n:Int),b),2,(aj.k pY (t,p,m,x,s)).1)).1.1,(aj.k bC (((n:Int),b),2,(aj.k pY (t,p,m,x,s)).1)).1.2,t,p,m,x,s,0,0,0,0,0,0,0,0,2,((bq (unpack n b) 2 3:Nat):Int),0,0,0,0,0,0,(aj.k bC (((n:Int),b),2,(aj.k pY (t,p,m,x,s)).1)).2.1.1,(aj.k bC (((n:Int),b),2,(aj.k pY (t,p,m,x,s)).1)).2.1.2⟩ 0 0 0 0 0 0 0 0
     (by show(aj.k bC (((n:Int),b),2,(aj.k pY (t,p,m,x,s)).1)).1.1=_;rw[o1];show(((unpack n b).take (n-24)).length:Int)=_;rw[hfl]) (by show(aj.k bC (((n:Int),b),2,(aj.k pY (t,p,m,x,s)).1)).1.2=_;rw[o1];rfl) rfl rfl rfl rfl rfl rfl (by omega) (by omega)
    rw[show unpack (n-24) (pack ((unpack n b).take (n-24)))=(unpack n b).take (n-24) from by have:=unpack_pack ((unpack n b).take (n-24));rwa [hfl] at this] at hrest
    refine Eq.mp (congrArg (aA (Ex aj) _) ?_) hrest
    have hdd:aY ((n-29)/8) (((unpack n b).take (n-24)).drop 5)=aY (((unpack n b).length-29)/8) ((unpack n b).drop 5):=by
     rw[hlu]
     exact tu (by omega) (by rw[hlu];omega)
    show(bif eX (2,((bq (unpack n b) 2 3:Nat):Int),(t,p,m,x,s),0,aY ((n-29)/8) (((unpack n b).take (n-24)).drop 5)) then((2,((bq (unpack n b) 2 3:Nat):Int),(t,p,m,x,s),0,aY ((n-29)/8) (((unpack n b).take (n-24)).drop 5)),0) else(dz,51))=_
    rw[hdd,cond_false]
    have hfo:eX (2,((bq (unpack n b) 2 3:Nat):Int),(t,p,m,x,s),0,aY (((unpack n b).length-29)/8) ((unpack n b).drop 5))=!decide (4<bq (unpack n b) 2 3):=by
     rw[Bool.eq_iff_iff,jI,hst,dC];simp;omega
    rw[hfo]
    cases decide (4<bq (unpack n b) 2 3)<;>rfl
   ·rw[hov] at ho
    have e2:=congrArg (fun z=>z.2.2) ho
    refine(ai (fL (show(aj.k bC (((n:Int),b),2,(aj.k pY (t,p,m,x,s)).1)).2.2≠0 from by rw[e2];exact(by decide:(21:Int)≠0)))).2 ?_
    exact bl (congrArg (fun z=>LT.ret (((0,0,(0,0,0,0,0),0,([]:List Int)):Int×Int×(Int×Int×Int×Int×Int)×Int×List Int),z)) e2) (.ret _)
  ·rw[Bool.not_eq_true] at hfit
   rw[kB (by rw[hlu,hk];exact hfit)]
   exact(ai (show aj.not (aj.k jS ((n:Int),2))=true by rw[bD,ap,hp2,hfit];rfl)).2 (.ret _)
 ·-- FrI
  rw[h0] at hk ⊢
  rw[show((2+1:Nat):Int)=3 from rfl]
  by_cases hfit:eB n 3=true
  ·have h54:=f3.1 hfit
   refine(ah (show aj.not (aj.k jS ((n:Int),3))=false by rw[bD,ap,hp3,hfit];rfl)).2 ((ah rfl).2 ((ah rfl).2 ?_))
   have g1:aj.k aC (((n:Int),b),2,3)=(((bq (unpack n b) 2 3:Nat):Int),0):=g 2 3 (by omega) (by decide)
   have g2:aj.k aC (((n:Int),b),5,(aj.b .sub .i64 3 2))=(((bq (unpack n b) 5 1:Nat):Int),0):=g 5 1 (by omega) (by decide)
   have e2:(aj.v .i64 (aj.k aC (((n:Int),b),2,3)).1)=((bq (unpack n b) 2 3:Nat):Int):=by rw[g1];exact hcv 2 3 (by decide)
   have hql:(((unpack n b).drop 6).take 24).length=24:=by rw[List.length_take,List.length_drop,hlu];omega
   refine af.2 ⟨rfl,(ah (dw (congrArg Prod.snd g1))).2 ?_⟩
   repeat (first|refine fe.2 ⟨⟨rfl,rfl⟩,?_⟩|refine fe.2 ⟨rfl,?_⟩|refine af.2 ⟨rfl,?_⟩)
   refine(ah (dw (congrArg Prod.snd g2))).2 ?_
   repeat (first|refine fe.2 ⟨⟨rfl,rfl⟩,?_⟩|refine fe.2 ⟨rfl,?_⟩|refine af.2 ⟨rfl,?_⟩)
   rw[al,Ex]
   dsimp only
   rw[RV hk (by omega)]
   have hz:aj.c .neq (aj.v .i64 (aj.k aC (((n:Int),b),5,(aj.b .sub .i64 3 2))).1) 0=(bq (unpack n b) 5 1 != 0):=by
    rw[g2,hcv 5 1 (by decide),aJ,Bool.eq_iff_iff];simp
   cases hzz:(bq (unpack n b) 5 1 != 0)
   ·refine(ah (hz.trans hzz)).2 (af.2 ⟨rfl,?_⟩)
    have ho:aj.k bC (((n:Int),b),3,((0:Int),([]:List Int)))=_:=Hf hok h54
    cases hov:(over 0 (unpack n b) != 0)
    ·rw[hov,cond_false] at ho
     refine(ah (dw (congrArg (fun z=>z.2.2) ho))).2 ((ah rfl).2 ((ah rfl).2 ((ai rfl).2 (af.2 ⟨rfl,?_⟩))))
     have hpz:aj.k iq (aj.k bC (((n:Int),b),3,((0:Int),([]:List Int)))).2.1=bif eP (fF (((unpack n b).drop 6).take 24)) then(fF (((unpack n b).drop 6).take 24),0) else(zS,40):=by
      rw[ho];exact wy hql
     cases hso:eP (fF (((unpack n b).drop 6).take 24))
     ·rw[hso] at hpz
      exact(ai (fL (show(aj.k iq (aj.k bC (((n:Int),b),3,((0:Int),([]:List Int)))).2.1).2≠0 from by rw[hpz];exact(by decide:(40:Int)≠0)))).2 (.ret _)
     ·rw[hso,cond_true] at hpz
      refine(ah (dw (congrArg Prod.snd hpz))).2 (af.2 ⟨rfl,?_⟩)
      rw[e2,hpz]
      have hfo:eX (3,((bq (unpack n b) 2 3:Nat):Int),fF (((unpack n b).drop 6).take 24),0, [])=!decide (4<bq (unpack n b) 2 3):=by
       have hso':=hso
       rw[fF] at hso' ⊢
       rw[Bool.eq_iff_iff,jI,hso'];simp;omega
      have hch:aj.k oU (3,((bq (unpack n b) 2 3:Nat):Int),fF (((unpack n b).drop 6).take 24),0, [])=bif !decide (4<bq (unpack n b) 2 3) then 0 else 50:=by
       rw[←hfo];exact uF
      cases hd:decide (4<bq (unpack n b) 2 3)
      ·rw[hd] at hch
       exact(ah (dw hch)).2 (.ret _)
      ·rw[hd] at hch
       exact(ai (fL (show aj.k oU (3,((bq (unpack n b) 2 3:Nat):Int),fF (((unpack n b).drop 6).take 24),0, [])≠0 from by rw[hch];exact(by decide:(50:Int)≠0)))).2 (.ret _)
    ·rw[hov,cond_true] at ho
     have e3:=congrArg (fun z=>z.2.2) ho
     refine(ai (fL (show(aj.k bC (((n:Int),b),3,((0:Int),([]:List Int)))).2.2≠0 from by rw[e3];exact(by decide:(21:Int)≠0)))).2 ?_
     exact bl (congrArg (fun z=>LT.ret (((0,0,(0,0,0,0,0),0,([]:List Int)):Int×Int×(Int×Int×Int×Int×Int)×Int×List Int),z)) e3) (.ret _)
   ·exact(ai (hz.trans hzz)).2 (.ret _)
  ·rw[Bool.not_eq_true] at hfit
   rw[kB (by rw[hlu,hk];exact hfit)]
   exact(ai (show aj.not (aj.k jS ((n:Int),3))=true by rw[bD,ap,hp3,hfit];rfl)).2 (.ret _)
 ·-- FrX
  rw[h0] at hk ⊢
  rw[show((3+1:Nat):Int)=4 from rfl]
  by_cases hfit:eB n 4=true
  ·have h79:=f4.1 hfit
   refine(ah (show aj.not (aj.k jS ((n:Int),4))=false by rw[bD,ap,hp4,hfit];rfl)).2 ((ah rfl).2 ((ah rfl).2 ?_))
   have g1:aj.k aC (((n:Int),b),2,3)=(((bq (unpack n b) 2 3:Nat):Int),0):=g 2 3 (by omega) (by decide)
   have g2:aj.k aC (((n:Int),b),5,(aj.b .sub .i64 4 2))=(((bq (unpack n b) 5 2:Nat):Int),0):=g 5 2 (by omega) (by decide)
   have e2:(aj.v .i64 (aj.k aC (((n:Int),b),2,3)).1)=((bq (unpack n b) 2 3:Nat):Int):=by rw[g1];exact hcv 2 3 (by decide)
   have hql:(((unpack n b).drop 7).take 24).length=24:=by rw[List.length_take,List.length_drop,hlu];omega
   refine af.2 ⟨rfl,(ah (dw (congrArg Prod.snd g1))).2 ?_⟩
   repeat (first|refine fe.2 ⟨⟨rfl,rfl⟩,?_⟩|refine fe.2 ⟨rfl,?_⟩|refine af.2 ⟨rfl,?_⟩)
   refine(ah (dw (congrArg Prod.snd g2))).2 ?_
   repeat (first|refine fe.2 ⟨⟨rfl,rfl⟩,?_⟩|refine fe.2 ⟨rfl,?_⟩|refine af.2 ⟨rfl,?_⟩)
   rw[al,Ex]
   dsimp only
   rw[Qh hk (by rw[hlu];exact hfit)]
   have hz:aj.c .neq (aj.v .i64 (aj.k aC (((n:Int),b),5,(aj.b .sub .i64 4 2))).1) 0=(bq (unpack n b) 5 2 != 0):=by
    rw[g2,hcv 5 2 (by decide),aJ,Bool.eq_iff_iff];simp
   cases hzz:(bq (unpack n b) 5 2 != 0)
   ·refine(ah (hz.trans hzz)).2 (af.2 ⟨rfl,?_⟩)
    have ho:aj.k bC (((n:Int),b),4,((0:Int),([]:List Int)))=_:=G_ hok h79.1 h79.2.1
    cases hov:(over 0 ((unpack n b).take 55) != 0)
    ·cases hov2:(over (over 0 (((unpack n b).drop 7).take 24)) (unpack n b) != 0)
     ·rw[hov,cond_false,hov2,cond_false] at ho
      have o1:=congrArg (fun z=>z.1) ho
      have o2:=congrArg (fun z=>z.2.1) ho
      refine(ah (dw (congrArg (fun z=>z.2.2) ho))).2 ((ah rfl).2 ((ai rfl).2 ?_))
      rw[e2]
      have hfl:((unpack n b).take (n-24)).length=n-24:=by rw[List.length_take,hlu];omega
      have hrest:=MJ (m:=n-24) (d:=(n-79)/8) (a:=55) (b:=pack ((unpack n b).take (n-24))) (by have:=iN (l:=(unpack n b).take (n-24)) (by omega);rwa [bS,hfl] at this) (by omega) (by omega) (by decide) ((n-79)/8) 0
       ⟨(aj.k bC (((n:Int),b),4,((0:Int),([]:List Int)))).1.1,(aj.k bC (((n:Int),b),4,((0:Int),([]:List Int)))).1.2,t,p,m,x,s,0,0,0,0,0,0,0,0,4,((bq (unpack n b) 2 3:Nat):Int),0,0,0,0,0,0,(aj.k bC (((n:Int),b),4,((0:Int),([]:List Int)))).2.1.1,(aj.k bC (((n:Int),b),4,((0:Int),([]:List Int)))).2.1.2⟩ 0 0 0 0 0 0 0 0
       (by show(aj.k bC (((n:Int),b),4,((0:Int),([]:List Int)))).1.1=_;rw[o1];show(((unpack n b).take (n-24)).length:Int)=_;rw[hfl]) (by show(aj.k bC (((n:Int),b),4,((0:Int),([]:List Int)))).1.2=_;rw[o1];rfl) rfl (by omega) (by omega)
      rw[show unpack (n-24) (pack ((unpack n b).take (n-24)))=(unpack n b).take (n-24) from by have:=unpack_pack ((unpack n b).take (n-24));rwa [hfl] at this] at hrest
      refine Eq.mp (congrArg (aA (Ex aj) _) ?_) hrest
      have hdd:aY ((n-79)/8) (((unpack n b).take (n-24)).drop 55)=aY (((unpack n b).length-79)/8) ((unpack n b).drop 55):=by
       rw[hlu]
       exact tu (by omega) (by rw[hlu];omega)
      have hpz:dZ ((aj.k bC (((n:Int),b),4,((0:Int),([]:List Int)))).2.1.1,(aj.k bC (((n:Int),b),4,((0:Int),([]:List Int)))).2.1.2)=bif eP (fF (((unpack n b).drop 7).take 24)) then(fF (((unpack n b).drop 7).take 24),0) else(zS,40):=by
       rw[o2];exact wy hql
      show(bif (dZ ((aj.k bC (((n:Int),b),4,((0:Int),([]:List Int)))).2.1.1,(aj.k bC (((n:Int),b),4,((0:Int),([]:List Int)))).2.1.2)).2 != 0 then(dz,51) else bif eX (4,((bq (unpack n b) 2 3:Nat):Int),(dZ ((aj.k bC (((n:Int),b),4,((0:Int),([]:List Int)))).2.1.1,(aj.k bC (((n:Int),b),4,((0:Int),([]:List Int)))).2.1.2)).1,0,aY ((n-79)/8) (((unpack n b).take (n-24)).drop 55)) then((4,((bq (unpack n b) 2 3:Nat):Int),(dZ ((aj.k bC (((n:Int),b),4,((0:Int),([]:List Int)))).2.1.1,(aj.k bC (((n:Int),b),4,((0:Int),([]:List Int)))).2.1.2)).1,0,aY ((n-79)/8) (((unpack n b).take (n-24)).drop 55)),0) else(dz,51))=_
      rw[hpz,hdd,Bool.or_false,cond_false,cond_false]
      cases hso:eP (fF (((unpack n b).drop 7).take 24))
      ·rfl
      ·have hfo:eX (4,((bq (unpack n b) 2 3:Nat):Int),fF (((unpack n b).drop 7).take 24),0,aY (((unpack n b).length-79)/8) ((unpack n b).drop 55))=!decide (4<bq (unpack n b) 2 3):=by
        have hso':=hso
        rw[fF] at hso' ⊢
        rw[Bool.eq_iff_iff,jI,hso',dC];simp;omega
       rw[cond_true,hfo]
       cases decide (4<bq (unpack n b) 2 3)<;>rfl
     ·rw[hov,cond_false,hov2,cond_true] at ho
      have e3:=congrArg (fun z=>z.2.2) ho
      refine(ai (fL (show(aj.k bC (((n:Int),b),4,((0:Int),([]:List Int)))).2.2≠0 from by rw[e3];exact(by decide:(21:Int)≠0)))).2 ?_
      exact bl (congrArg (fun z=>LT.ret (((0,0,(0,0,0,0,0),0,([]:List Int)):Int×Int×(Int×Int×Int×Int×Int)×Int×List Int),z)) e3) (.ret _)
    ·rw[hov,cond_true] at ho
     have e3:=congrArg (fun z=>z.2.2) ho
     refine(ai (fL (show(aj.k bC (((n:Int),b),4,((0:Int),([]:List Int)))).2.2≠0 from by rw[e3];exact(by decide:(21:Int)≠0)))).2 ?_
     exact bl (congrArg (fun z=>LT.ret (((0,0,(0,0,0,0,0),0,([]:List Int)):Int×Int×(Int×Int×Int×Int×Int)×Int×List Int),z)) e3) (.ret _)
   ·exact(ai (hz.trans hzz)).2 (.ret _)
  ·rw[Bool.not_eq_true] at hfit
   rw[kB (by rw[hlu,hk];exact hfit)]
   exact(ai (show aj.not (aj.k jS ((n:Int),4))=true by rw[bD,ap,hp4,hfit];rfl)).2 (.ret _)
def qM:((Int×List Int)×(Int×Int×Int×Int×Int))→((Int×Int×(Int×Int×Int×Int×Int)×Int×List Int)×Int):=kI
def acM:aD:=⟨[(.struct [yI,yB]),(.struct [yI,yI,yI,yI,yI])], [(.struct [yI,yI,(.struct [yI,yI,yI,yI,yI]),yI,yB]),yI],(@tt ((Int×List Int)×(Int×Int×Int×Int×Int))),qM⟩
theorem VK:Sd 206 acM:=aL au cK false 298 [⟨235,3, [[0,3,4], [3,4,8,12,97,100]]⟩] [⟨206,19, [[2,3,4,7,8,9,10]]⟩] (fun A ((bN,bB),cTime,cPos,cMode,cNext,cMember)=>t50 A bN bB cTime cPos cMode cNext cMember) Ex Wm (fc Tryz.func206 (fc Tryz.func231 (fc Tryz.func235 fz))) (sc aaG (sc xA (sc ach (sc D6 (sc TP (sc XJ (sc Z6 (sc Ft sz)))))))) (fun A y=>match y with |.c0 p=>⟨116,zf (by kernel_rfl)⟩|.c1 p=>⟨116,zf (by kernel_rfl)⟩|.c2 p c0 c8 c9 c10 c11 c12 c13 c14 lX c16=>⟨92,zf (by kernel_rfl)⟩|.c3 p d0 d3 d4 d5 d6 d7 d8 d9 fO gY=>⟨92,zf (by kernel_rfl)⟩) fun((bN,bB),cTime,cPos,cMode,cNext,cMember) hp h=>RO h
open Go.Ev.Pl
def t53(A:bi)(bN:Int)(bB:List Int)(cTime:Int)(cPos:Int)(cMode:Int)(cNext:Int)(cMember:Int):LT ((Int×Int×(Int×Int×Int×Int×Int)×Int×List Int)×Bool) Empty:=.need (A.k (@tt ((Int×List Int)×(Int×Int×Int×Int×Int))) ((bN,bB),cTime,cPos,cMode,cNext,cMember)) (.br (A.c .neq (A.k qM ((bN,bB),cTime,cPos,cMode,cNext,cMember)).2 0) (.ret ((0,0,(0,0,0,0,0),0,([]:List Int)),false)) (.br (A.c .eql (A.k qM ((bN,bB),cTime,cPos,cMode,cNext,cMember)).1.1 1) (.ret ((0,0,(0,0,0,0,0),0,([]:List Int)),false)) (.br (A.not (A.and (A.c .eql (A.k qM ((bN,bB),cTime,cPos,cMode,cNext,cMember)).1.2.2.1.1 cTime) (A.and (A.c .eql (A.k qM ((bN,bB),cTime,cPos,cMode,cNext,cMember)).1.2.2.1.2.1 cPos) (A.and (A.c .eql (A.k qM ((bN,bB),cTime,cPos,cMode,cNext,cMember)).1.2.2.1.2.2.1 cMode) (A.and (A.c .eql (A.k qM ((bN,bB),cTime,cPos,cMode,cNext,cMember)).1.2.2.1.2.2.2.1 cNext) (A.and (A.c .eql (A.k qM ((bN,bB),cTime,cPos,cMode,cNext,cMember)).1.2.2.1.2.2.2.2 cMember) true)))))) (.ret ((0,0,(0,0,0,0,0),0,([]:List Int)),false)) (.ret ((A.k qM ((bN,bB),cTime,cPos,cMode,cNext,cMember)).1,true)))))
def EA:((Int×List Int)×(Int×Int×Int×Int×Int))→((Int×Int×(Int×Int×Int×Int×Int)×Int×List Int)×Bool):=fun((bN,bB),cTime,cPos,cMode,cNext,cMember)=>(t53 aj bN bB cTime cPos cMode cNext cMember).val (Ty.bZ [(.struct [yI,yI,(.struct [yI,yI,yI,yI,yI]),yI,yB]),.bool])
def aa1:aD:=⟨[(.struct [yI,yB]),(.struct [yI,yI,yI,yI,yI])], [(.struct [yI,yI,(.struct [yI,yI,yI,yI,yI]),yI,yB]),.bool],(@tt ((Int×List Int)×(Int×Int×Int×Int×Int))),EA⟩
theorem aaP:Sd 159 aa1:=aM au cK true 50 [] (fun A ((bN,bB),cTime,cPos,cMode,cNext,cMember)=>t53 A bN bB cTime cPos cMode cNext cMember) (fc Tryz.func159 fz) (sc VK sz) (fun(((bN,bB),cTime,cPos,cMode,cNext,cMember):(Int×List Int)×(Int×Int×Int×Int×Int)) hp h=>by
 show(t53 aj bN bB cTime cPos cMode cNext cMember).pre=true
 simp[t53,LT.pre,ap,cN])
def t51(A:bi)(bN:Int)(bB:List Int):LT ((Int×Int×(Int×Int×Int×Int×Int)×Int×List Int)×Bool) Empty:=.need (A.k (@tt ((Int×List Int)×(Int×Int×Int×Int×Int))) ((bN,bB),0,0,0,0,0)) (.br (A.c .neq (A.k qM ((bN,bB),0,0,0,0,0)).2 0) (.ret ((0,0,(0,0,0,0,0),0,([]:List Int)),false)) (.br (A.c .eql (A.k qM ((bN,bB),0,0,0,0,0)).1.1 2) (.ret ((0,0,(0,0,0,0,0),0,([]:List Int)),false)) (.ret ((A.k qM ((bN,bB),0,0,0,0,0)).1,true))))
def By:((Int×List Int))→((Int×Int×(Int×Int×Int×Int×Int)×Int×List Int)×Bool):=fun(bN,bB)=>(t51 aj bN bB).val (Ty.bZ [(.struct [yI,yI,(.struct [yI,yI,yI,yI,yI]),yI,yB]),.bool])
def aaE:aD:=⟨[(.struct [yI,yB])], [(.struct [yI,yI,(.struct [yI,yI,yI,yI,yI]),yI,yB]),.bool],(@tt ((Int×List Int))),By⟩
theorem aaJ:Sd 193 aaE:=aM au cK true 43 [] (fun A (bN,bB)=>t51 A bN bB) (fc Tryz.func193 fz) (sc VK sz) (fun((bN,bB):(Int×List Int)) hp h=>by
 show(t51 aj bN bB).pre=true
 simp[t51,LT.pre,ap,cN])
theorem NS{b:Int×List Int}{t p m n s:Int}:EA (b,(t,p,m,n,s))=o8 (b,(t,p,m,n,s)):=by
 obtain⟨bn,bb⟩:=b
 simp only[EA,t53,LT.val,o8,ap,aJ,aF,aR,bD,qM,Bool.and_true]
 generalize kI ((bn,bb),(t,p,m,n,s))=q
 obtain⟨⟨k,r,⟨t',p',m',n',s'⟩,fr,d⟩,e⟩:=q
 simp only[]
 have hx:((t',p',m',n',s') != (t,p,m,n,s))=!(t'==t&&(p'==p&&(m'==m&&(n'==n&&s'==s)))):=by
  rw[Bool.eq_iff_iff]
  simp only[bne_iff_ne,ne_eq,Bool.not_eq_true',Prod.mk.injEq]
  rw[←Bool.not_eq_true]
  simp only[Bool.and_eq_true,beq_iff_eq]
 rw[hx]
 cases e != 0<;>cases k==1<;>cases (t'==t&&(p'==p&&(m'==m&&(n'==n&&s'==s))))<;>rfl
theorem Na{b:Int×List Int}:By b=kU b:=by
 obtain⟨bn,bb⟩:=b
 simp only[By,t51,LT.val,kU,ap,aJ,aF,qM]
 show(bif (kI ((bn,bb),zS)).2 != 0 then(dz,false) else bif (kI ((bn,bb),zS)).1.1==2 then(dz,false) else((kI ((bn,bb),zS)).1,true))=_
 cases (kI ((bn,bb),zS)).2 != 0<;>cases (kI ((bn,bb),zS)).1.1==2<;>rfl
theorem qP{l u:List Bool}(hl:l.length+24≤4096)(hu:u.length≤4096):C6 (bS l,bS u)=(bS (aV (over 0 u) l),0):=by
 rw[C6]
 show(bif bO (bS u)&&bO (bS l) then xJ (aV (over 0 (bR (bS u))) (bR (bS l))) else(zB,10))=_
 rw[iN hu,iN (l:=l) (by omega),gG,gG,sU (by rw[dh];omega)]
 rfl
theorem E5{l u:List Bool}(h:l.length+u.length≤4096):zJ [bS l,bS u]=(bS (l++u),0):=by
 rw[zJ]
 show(bif (bO (bS l)&&(bO (bS u)&&true)) then xJ (bR (bS l)++(bR (bS u) ++ [])) else(zB,10))=_
 rw[iN (l:=l) (by omega),iN (l:=u) (by omega),gG,gG,List.append_nil,sU (by rw[List.length_append];exact h)]
 rfl
theorem IB{k r t p m n s fr:Int}{d:List Int}(h:Ty.dK [.struct [(.int .i64),(.int .i64),(.struct [(.int .i64),(.int .i64),(.int .i64),(.int .i64),(.int .i64)]),(.int .i64),(.slice (.int .u8))]] (k,r,(t,p,m,n,s),fr,d)):bp d:=by
 have h2:d.length≤dx∧∀x∈d,0≤x∧x≤255:=h.2.2.2.2
 exact h2.2
end Go.Ev.M
