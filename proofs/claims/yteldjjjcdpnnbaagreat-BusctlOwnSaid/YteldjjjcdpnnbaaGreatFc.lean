/-
  PROVED: what frame.Parse, Good and Explicit compute. Conditions: none.
-/
import Derived.Test.YteldjjjcdpnnbaaGreatFb
namespace Go.Ev.M
open Go.Proofs
set_option maxRecDepth 100000
set_option linter.unusedVariables false
set_option linter.unusedSimpArgs false
open Go.Ev.Pl
structure QM where
 (a0 a1:Int) (a2:List Int) (a3 a4 a5 a6 a7 a8 a9 bW dM a12 nC j6 rB a16:Int) (a17:List Int) (rI kX a20 a21 a22 a23 a24 a25 a26 a27:Int)
structure TU where
 (b0 b1:Int) (b2:List Int) (b3 b4 b5 b6 b7 b8 b9 b10 b11 b12 b13 xW zk uE:Int) (Bl:List Int) (BQ ki lS k6 lg rF rO rM pq lZ:Int) (lW:List Int)
structure Jz where
 (c1 c2 c3 c4 c5 c6:Int) (c7:List Int) (JF Jd c19 c20 c21 N0 c23 c24 YN YE YD c28 Y8 B5 c31 c32 Yy c34 Y_ YT c37 Y0:Int) (YW:List Int)
structure Jq where
 (d1:Int) (d2:List Int) (Y4 YA YG YO YI Yz YM Y6 Za YH YJ Y3 YK CO Cb YV Y2 YY YU YL Cc xC:Int) (xd:List Int)
inductive JD where
 | c0 (p:QM)
 | c1 (p:TU)
 | c2 (p:Jz) (c0:Int) (c8:Int) (c9:Int) (c10:Int) (c11:Int) (c12:Int) (c13:Int) (c14:Int) (kZ:Int) (c16:Int)
 | c3 (p:Jq) (d0:Int) (d3:Int) (d4:Int) (d5:Int) (d6:Int) (d7:Int) (d8:Int) (d9:Int) (mD:Int) (mQ:Int)
noncomputable def TT:JD→fJ
 | .c0 p=>⟨[⟨206,122,(en [(2,.ptr 0 0),(3,.ptr 1 0),(4,.ptr 2 0),(7,.ptr 3 0),(8,.ptr 4 0),(9,.ptr 5 0),(10,vi p.a0)]),[.code (cw Tryz.f206 [1,1,1,1,1,1,1,1,1,0,0]),.code (cw Tryz.f206 [1,1,1,1,1,1,1,1,1,0,1]),.code (cw Tryz.f206 [1,1,1,1,1,1,1,1,1,1])],[],none⟩],[.flat false [vi p.a1,.sl yU p.a2],.flat false [vi p.a3,vi p.a4,vi p.a5,vi p.a6,vi p.a7],.flat false [vi p.a8,vi p.a9,vi p.bW,vi p.dM,vi p.a12,vi p.nC,vi p.j6,vi p.rB,.bZ true],.flat false [vi p.a16,.sl yU p.a17,vi p.rI],.flat false [vi p.kX,vi p.a20,vi p.a21,vi p.a22,vi p.a23,vi p.a24,vi p.a25,vi p.a26,.bZ true],.flat false [vi p.a27,.bZ true],.dead]⟩
 | .c1 p=>⟨[⟨206,122,(en [(2,.ptr 0 0),(3,.ptr 1 0),(4,.ptr 2 0),(7,.ptr 3 0),(8,.ptr 4 0),(9,.ptr 5 0),(10,vi p.b0)]),[.code (cw Tryz.f206 [1,1,1,1,1,1,1,1,1,0,0]),.code (cw Tryz.f206 [1,1,1,1,1,1,1,1,1,0,1]),.code (cw Tryz.f206 [1,1,1,1,1,1,1,1,1,1])],[],none⟩],[.flat false [vi p.b1,.sl yU p.b2],.flat false [vi p.b3,vi p.b4,vi p.b5,vi p.b6,vi p.b7],.flat false [vi p.b8,vi p.b9,vi p.b10,vi p.b11,vi p.b12,vi p.b13,vi p.xW,vi p.zk,.bZ true],.flat false [vi p.uE,.sl yU p.Bl,vi p.BQ],.flat false [vi p.ki,vi p.lS,vi p.k6,vi p.lg,vi p.rF,vi p.rO,vi p.rM,vi p.pq,.bZ true],.flat false [vi p.lZ,.sl yU p.lW],.dead]⟩
 | .c2 p c0 c8 c9 c10 c11 c12 c13 c14 kZ c16=>⟨[⟨235,34,(en [(0,.ptr 0 0),(3,.ptr 1 0),(4,vi c0)]),[.inLoop (cw Tryz.f235 [1,1,1,0,0,0]),.inBlock 0,.code (cw Tryz.f235 [1,1,1,1])],[],none⟩,⟨206,122,(en [(3,.ptr 2 0),(4,.ptr 3 0),(8,.ptr 4 0),(12,.ptr 5 0),(97,.agg [vi p.c1,vi p.c2,vi p.c3,vi p.c4,vi p.c5]),(100,.ptr 4 2)]),[.jT (ow Tryz.f206 [1,1,1,1,1,1,1,1,1,1,1,1,1,0,1,0,0,0,0,0,1,0]) [0,0,2,1,15,31,63] 2 [4,5,6] [3,0],.code (.exit 1),.inBlock 3,.code (cw Tryz.f206 [1,1,1,1,1,1,1,1,1,1,1,1,1,0,1,0,0,0,1]),.inBlock 4,.code (cw Tryz.f206 [1,1,1,1,1,1,1,1,1,1,1,1,1,0,1,0,1]),.inBlock 1,.code (cw Tryz.f206 [1,1,1,1,1,1,1,1,1,1,1,1,1,1])],[],none⟩],[.flat false [vi p.c6,.sl yU p.c7,vi c8],.flat false [.int .u8 false c9,.int .u8 false c10,.int .u8 false c11,.int .u8 false c12,.int .u8 false c13,.int .u8 false c14,.int .u8 false kZ,.int .u8 false c16],.flat false [vi p.JF,vi p.Jd,vi p.c19,vi p.c20,vi p.c21],.flat false [vi p.N0,vi p.c23,vi p.c24,vi p.YN,vi p.YE,vi p.YD,vi p.c28,vi p.Y8,.bZ true],.flat false [vi p.B5,vi p.c31,vi p.c32,vi p.Yy,vi p.c34,vi p.Y_,vi p.YT,vi p.c37,.bZ true],.flat false [vi p.Y0,.sl yU p.YW],.dead]⟩
 | .c3 p d0 d3 d4 d5 d6 d7 d8 d9 mD mQ=>⟨[⟨235,34,(en [(0,.ptr 0 0),(3,.ptr 1 0),(4,vi d0)]),[.inLoop (cw Tryz.f235 [1,1,1,0,0,0]),.inBlock 0,.code (cw Tryz.f235 [1,1,1,1])],[],none⟩,⟨206,122,(en [(3,.ptr 2 0),(4,.ptr 3 0),(8,.ptr 4 0),(12,.ptr 5 0),(97,.undef),(100,.undef)]),[.ops (ow Tryz.f206 [1,1,1,1,1,1,1,1,1,1,1,1,1,0,1,0,0,0,1,1]) ((ow Tryz.f206 [1,1,1,1,1,1,1,1,1,1,1,1,1,0,1,0,0,0,1,1]).toList.drop 1),.inBlock 4,.code (cw Tryz.f206 [1,1,1,1,1,1,1,1,1,1,1,1,1,0,1,0,1]),.inBlock 1,.code (cw Tryz.f206 [1,1,1,1,1,1,1,1,1,1,1,1,1,1])],[],none⟩],[.flat false [vi p.d1,.sl yU p.d2,vi d3],.flat false [.int .u8 false d4,.int .u8 false d5,.int .u8 false d6,.int .u8 false d7,.int .u8 false d8,.int .u8 false d9,.int .u8 false mD,.int .u8 false mQ],.flat false [vi p.Y4,vi p.YA,vi p.YG,vi p.YO,vi p.YI],.flat false [vi p.Yz,vi p.YM,vi p.Y6,vi p.Za,vi p.YH,vi p.YJ,vi p.Y3,vi p.YK,.bZ true],.flat false [vi p.CO,vi p.Cb,vi p.YV,vi p.Y2,vi p.YY,vi p.YU,vi p.YL,vi p.Cc,.bZ true],.flat false [vi p.xC,.sl yU p.xd],.dead]⟩
def t50(A:aZ)(bN:Int)(bB:List Int)(cTime:Int)(cPos:Int)(cMode:Int)(cNext:Int)(cMember:Int):LT ((Int×Int×(Int×Int×Int×Int×Int)×Int×List Int)×Int) JD:=.need (A.k (@tt ((Int×List Int))) (bN,bB)) (.br (A.c .neq (A.k iW (bN,bB)) 0) (.ret ((0,0,(0,0,0,0,0),0,([]:List Int)),(A.k iW (bN,bB)))) (.need (A.k (@tt ((Int×Int×Int×Int×Int)×Int)) ((cTime,cPos,cMode,cNext,cMember),8)) (.br (A.c .neq (A.k lq ((cTime,cPos,cMode,cNext,cMember),8)) 0) (.ret ((0,0,(0,0,0,0,0),0,([]:List Int)),40)) (.need (A.k (@tt ((Int×List Int)×Int×Int)) ((bN,bB),0,2)) (.br (A.c .neq (A.k ay ((bN,bB),0,2)).2 0) (.need (A.k (@tt (Int×Int)) (bN,1)) (.br (A.not (A.k iN (bN,1))) (.ret ((0,0,(0,0,0,0,0),0,([]:List Int)),51)) (.need (A.k (@tt ((Int×List Int)×Int×Int)) ((bN,bB),0,3)) (.br (A.c .neq (A.k ay ((bN,bB),0,3)).2 0) (.need (A.k (@tt ((Int×List Int)×Int×Int)) ((bN,bB),0,8)) (.br (A.c .neq (A.k ay ((bN,bB),0,8)).2 0) (.need (A.k (@tt ((Int×List Int)×Int×Int)) ((bN,bB),0,3)) (.br (A.c .neq (A.k ay ((bN,bB),0,3)).2 0) (.more (.c0 ⟨0,bN,bB,cTime,cPos,cMode,cNext,cMember,0,0,0,0,0,0,0,0,bN,bB,0,1,0,0,0,0,0,0,0,0⟩)) (.more (.c0 ⟨(A.v .i64 (A.k ay ((bN,bB),0,3)).1),bN,bB,cTime,cPos,cMode,cNext,cMember,0,0,0,0,0,0,0,0,bN,bB,3,1,0,0,0,0,0,0,0,0⟩)))) (.need (A.k (@tt ((Int×List Int)×Int×Int)) ((bN,bB),8,3)) (.br (A.c .neq (A.k ay ((bN,bB),8,3)).2 0) (.more (.c0 ⟨0,bN,bB,cTime,cPos,cMode,cNext,cMember,0,0,0,0,0,0,0,0,bN,bB,8,1,0,(A.v .i64 (A.k ay ((bN,bB),0,8)).1),0,0,0,0,0,0⟩)) (.more (.c0 ⟨(A.v .i64 (A.k ay ((bN,bB),8,3)).1),bN,bB,cTime,cPos,cMode,cNext,cMember,0,0,0,0,0,0,0,0,bN,bB,11,1,0,(A.v .i64 (A.k ay ((bN,bB),0,8)).1),0,0,0,0,0,0⟩)))))) (.need (A.k (@tt ((Int×List Int)×Int×Int)) ((bN,bB),3,8)) (.br (A.c .neq (A.k ay ((bN,bB),3,8)).2 0) (.need (A.k (@tt ((Int×List Int)×Int×Int)) ((bN,bB),3,3)) (.br (A.c .neq (A.k ay ((bN,bB),3,3)).2 0) (.more (.c0 ⟨0,bN,bB,cTime,cPos,cMode,cNext,cMember,0,0,0,0,0,0,0,0,bN,bB,3,1,0,0,0,0,0,0,(A.v .i64 (A.k ay ((bN,bB),0,3)).1),0⟩)) (.more (.c0 ⟨(A.v .i64 (A.k ay ((bN,bB),3,3)).1),bN,bB,cTime,cPos,cMode,cNext,cMember,0,0,0,0,0,0,0,0,bN,bB,6,1,0,0,0,0,0,0,(A.v .i64 (A.k ay ((bN,bB),0,3)).1),0⟩)))) (.need (A.k (@tt ((Int×List Int)×Int×Int)) ((bN,bB),11,3)) (.br (A.c .neq (A.k ay ((bN,bB),11,3)).2 0) (.more (.c0 ⟨0,bN,bB,cTime,cPos,cMode,cNext,cMember,0,0,0,0,0,0,0,0,bN,bB,11,1,0,(A.v .i64 (A.k ay ((bN,bB),3,8)).1),0,0,0,0,(A.v .i64 (A.k ay ((bN,bB),0,3)).1),0⟩)) (.more (.c0 ⟨(A.v .i64 (A.k ay ((bN,bB),11,3)).1),bN,bB,cTime,cPos,cMode,cNext,cMember,0,0,0,0,0,0,0,0,bN,bB,14,1,0,(A.v .i64 (A.k ay ((bN,bB),3,8)).1),0,0,0,0,(A.v .i64 (A.k ay ((bN,bB),0,3)).1),0⟩)))))))))) (.need (A.k (@tt (Int×Int)) (bN,(A.b .add .i64 (A.v .i64 (A.k ay ((bN,bB),0,2)).1) 1))) (.br (A.not (A.k iN (bN,(A.b .add .i64 (A.v .i64 (A.k ay ((bN,bB),0,2)).1) 1)))) (.ret ((0,0,(0,0,0,0,0),0,([]:List Int)),51)) (.br (A.c .eql (A.b .add .i64 (A.v .i64 (A.k ay ((bN,bB),0,2)).1) 1) 1) (.need (A.k (@tt ((Int×List Int)×Int×Int)) ((bN,bB),2,3)) (.br (A.c .neq (A.k ay ((bN,bB),2,3)).2 0) (.need (A.k (@tt ((Int×List Int)×Int×Int)) ((bN,bB),2,8)) (.br (A.c .neq (A.k ay ((bN,bB),2,8)).2 0) (.need (A.k (@tt ((Int×List Int)×Int×Int)) ((bN,bB),2,3)) (.br (A.c .neq (A.k ay ((bN,bB),2,3)).2 0) (.more (.c0 ⟨0,bN,bB,cTime,cPos,cMode,cNext,cMember,0,0,0,0,0,0,0,0,bN,bB,2,(A.b .add .i64 (A.v .i64 (A.k ay ((bN,bB),0,2)).1) 1),0,0,0,0,0,0,0,0⟩)) (.more (.c0 ⟨(A.v .i64 (A.k ay ((bN,bB),2,3)).1),bN,bB,cTime,cPos,cMode,cNext,cMember,0,0,0,0,0,0,0,0,bN,bB,5,(A.b .add .i64 (A.v .i64 (A.k ay ((bN,bB),0,2)).1) 1),0,0,0,0,0,0,0,0⟩)))) (.need (A.k (@tt ((Int×List Int)×Int×Int)) ((bN,bB),10,3)) (.br (A.c .neq (A.k ay ((bN,bB),10,3)).2 0) (.more (.c0 ⟨0,bN,bB,cTime,cPos,cMode,cNext,cMember,0,0,0,0,0,0,0,0,bN,bB,10,(A.b .add .i64 (A.v .i64 (A.k ay ((bN,bB),0,2)).1) 1),0,(A.v .i64 (A.k ay ((bN,bB),2,8)).1),0,0,0,0,0,0⟩)) (.more (.c0 ⟨(A.v .i64 (A.k ay ((bN,bB),10,3)).1),bN,bB,cTime,cPos,cMode,cNext,cMember,0,0,0,0,0,0,0,0,bN,bB,13,(A.b .add .i64 (A.v .i64 (A.k ay ((bN,bB),0,2)).1) 1),0,(A.v .i64 (A.k ay ((bN,bB),2,8)).1),0,0,0,0,0,0⟩)))))) (.need (A.k (@tt ((Int×List Int)×Int×Int)) ((bN,bB),5,8)) (.br (A.c .neq (A.k ay ((bN,bB),5,8)).2 0) (.need (A.k (@tt ((Int×List Int)×Int×Int)) ((bN,bB),5,3)) (.br (A.c .neq (A.k ay ((bN,bB),5,3)).2 0) (.more (.c0 ⟨0,bN,bB,cTime,cPos,cMode,cNext,cMember,0,0,0,0,0,0,0,0,bN,bB,5,(A.b .add .i64 (A.v .i64 (A.k ay ((bN,bB),0,2)).1) 1),0,0,0,0,0,0,(A.v .i64 (A.k ay ((bN,bB),2,3)).1),0⟩)) (.more (.c0 ⟨(A.v .i64 (A.k ay ((bN,bB),5,3)).1),bN,bB,cTime,cPos,cMode,cNext,cMember,0,0,0,0,0,0,0,0,bN,bB,8,(A.b .add .i64 (A.v .i64 (A.k ay ((bN,bB),0,2)).1) 1),0,0,0,0,0,0,(A.v .i64 (A.k ay ((bN,bB),2,3)).1),0⟩)))) (.need (A.k (@tt ((Int×List Int)×Int×Int)) ((bN,bB),13,3)) (.br (A.c .neq (A.k ay ((bN,bB),13,3)).2 0) (.more (.c0 ⟨0,bN,bB,cTime,cPos,cMode,cNext,cMember,0,0,0,0,0,0,0,0,bN,bB,13,(A.b .add .i64 (A.v .i64 (A.k ay ((bN,bB),0,2)).1) 1),0,(A.v .i64 (A.k ay ((bN,bB),5,8)).1),0,0,0,0,(A.v .i64 (A.k ay ((bN,bB),2,3)).1),0⟩)) (.more (.c0 ⟨(A.v .i64 (A.k ay ((bN,bB),13,3)).1),bN,bB,cTime,cPos,cMode,cNext,cMember,0,0,0,0,0,0,0,0,bN,bB,16,(A.b .add .i64 (A.v .i64 (A.k ay ((bN,bB),0,2)).1) 1),0,(A.v .i64 (A.k ay ((bN,bB),5,8)).1),0,0,0,0,(A.v .i64 (A.k ay ((bN,bB),2,3)).1),0⟩)))))))) (.br (A.c .eql (A.b .add .i64 (A.v .i64 (A.k ay ((bN,bB),0,2)).1) 1) 2) (.need (A.k (@tt ((Int×List Int)×Int×Int)) ((bN,bB),2,3)) (.br (A.c .neq (A.k ay ((bN,bB),2,3)).2 0) (.need (A.k (@tt ((Int×Int×Int×Int×Int))) (cTime,cPos,cMode,cNext,cMember)) (.more (.c1 ⟨0,bN,bB,cTime,cPos,cMode,cNext,cMember,0,0,0,0,0,0,0,0,bN,bB,2,(A.b .add .i64 (A.v .i64 (A.k ay ((bN,bB),0,2)).1) 1),0,0,0,0,0,0,0,(A.k nT (cTime,cPos,cMode,cNext,cMember)).1.1,(A.k nT (cTime,cPos,cMode,cNext,cMember)).1.2⟩))) (.need (A.k (@tt ((Int×Int×Int×Int×Int))) (cTime,cPos,cMode,cNext,cMember)) (.more (.c1 ⟨0,bN,bB,cTime,cPos,cMode,cNext,cMember,0,0,0,0,0,0,0,0,bN,bB,5,(A.b .add .i64 (A.v .i64 (A.k ay ((bN,bB),0,2)).1) 1),(A.v .i64 (A.k ay ((bN,bB),2,3)).1),0,0,0,0,0,0,(A.k nT (cTime,cPos,cMode,cNext,cMember)).1.1,(A.k nT (cTime,cPos,cMode,cNext,cMember)).1.2⟩))))) (.need (A.k (@tt ((Int×List Int)×Int×Int)) ((bN,bB),2,3)) (.br (A.c .neq (A.k ay ((bN,bB),2,3)).2 0) (.eqs (IntKind.i64=IntKind.i64∧((A.b .sub .i64 (A.b .add .i64 (A.v .i64 (A.k ay ((bN,bB),0,2)).1) 1) 2):Int)=(A.b .sub .i64 (A.b .add .i64 (A.v .i64 (A.k ay ((bN,bB),0,2)).1) 1) 2)) (.eqs (IntKind.i64=IntKind.i64∧((A.b .add .i64 (A.v .i64 (A.k ay ((bN,bB),0,2)).1) 1):Int)=(A.b .add .i64 (A.v .i64 (A.k ay ((bN,bB),0,2)).1) 1)) (.eqs ((.ptr 4 0:AV)=.ptr 4 0) (.eqs ((.ptr 3 0:AV)=.ptr 3 0) (.need (A.k (@tt ((Int×List Int)×Int×Int)) ((bN,bB),2,(A.b .sub .i64 (A.b .add .i64 (A.v .i64 (A.k ay ((bN,bB),0,2)).1) 1) 2))) (.br (A.c .neq (A.k ay ((bN,bB),2,(A.b .sub .i64 (A.b .add .i64 (A.v .i64 (A.k ay ((bN,bB),0,2)).1) 1) 2))).2 0) (.eqs ((.ptr 4 1:AV)=.ptr 4 1) (.more (.c0 ⟨0,bN,bB,cTime,cPos,cMode,cNext,cMember,0,0,0,0,0,0,0,0,bN,bB,2,(A.b .add .i64 (A.v .i64 (A.k ay ((bN,bB),0,2)).1) 1),0,0,0,0,0,0,0,0⟩))) (.eqs ((.ptr 4 1:AV)=.ptr 4 1) (.more (.c0 ⟨(A.v .i64 (A.k ay ((bN,bB),2,(A.b .sub .i64 (A.b .add .i64 (A.v .i64 (A.k ay ((bN,bB),0,2)).1) 1) 2))).1),bN,bB,cTime,cPos,cMode,cNext,cMember,0,0,0,0,0,0,0,0,bN,bB,(A.b .add .i64 2 (A.b .sub .i64 (A.b .add .i64 (A.v .i64 (A.k ay ((bN,bB),0,2)).1) 1) 2)),(A.b .add .i64 (A.v .i64 (A.k ay ((bN,bB),0,2)).1) 1),0,0,0,0,0,0,0,0⟩))))))))) (.eqs (IntKind.i64=IntKind.i64∧((A.b .sub .i64 (A.b .add .i64 (A.v .i64 (A.k ay ((bN,bB),0,2)).1) 1) 2):Int)=(A.b .sub .i64 (A.b .add .i64 (A.v .i64 (A.k ay ((bN,bB),0,2)).1) 1) 2)) (.eqs (IntKind.i64=IntKind.i64∧((A.b .add .i64 (A.v .i64 (A.k ay ((bN,bB),0,2)).1) 1):Int)=(A.b .add .i64 (A.v .i64 (A.k ay ((bN,bB),0,2)).1) 1)) (.eqs ((.ptr 4 0:AV)=.ptr 4 0) (.eqs ((.ptr 3 0:AV)=.ptr 3 0) (.need (A.k (@tt ((Int×List Int)×Int×Int)) ((bN,bB),5,(A.b .sub .i64 (A.b .add .i64 (A.v .i64 (A.k ay ((bN,bB),0,2)).1) 1) 2))) (.br (A.c .neq (A.k ay ((bN,bB),5,(A.b .sub .i64 (A.b .add .i64 (A.v .i64 (A.k ay ((bN,bB),0,2)).1) 1) 2))).2 0) (.eqs ((.ptr 4 1:AV)=.ptr 4 1) (.more (.c0 ⟨0,bN,bB,cTime,cPos,cMode,cNext,cMember,0,0,0,0,0,0,0,0,bN,bB,5,(A.b .add .i64 (A.v .i64 (A.k ay ((bN,bB),0,2)).1) 1),(A.v .i64 (A.k ay ((bN,bB),2,3)).1),0,0,0,0,0,0,0⟩))) (.eqs ((.ptr 4 1:AV)=.ptr 4 1) (.more (.c0 ⟨(A.v .i64 (A.k ay ((bN,bB),5,(A.b .sub .i64 (A.b .add .i64 (A.v .i64 (A.k ay ((bN,bB),0,2)).1) 1) 2))).1),bN,bB,cTime,cPos,cMode,cNext,cMember,0,0,0,0,0,0,0,0,bN,bB,(A.b .add .i64 5 (A.b .sub .i64 (A.b .add .i64 (A.v .i64 (A.k ay ((bN,bB),0,2)).1) 1) 2)),(A.b .add .i64 (A.v .i64 (A.k ay ((bN,bB),0,2)).1) 1),(A.v .i64 (A.k ay ((bN,bB),2,3)).1),0,0,0,0,0,0,0⟩))))))))))))))))))))
def z7(A:aZ):JD→LT ((Int×Int×(Int×Int×Int×Int×Int)×Int×List Int)×Int) JD
 | .c0 p=>.br (A.c .neq p.a0 0) (.ret ((0,0,(0,0,0,0,0),0,([]:List Int)),51)) (.need (A.k (@tt ((Int×List Int)×Int×(Int×List Int))) ((p.a1,p.a2),p.kX,p.a27,([]:List Int))) (.br (A.c .neq (A.k bg ((p.a1,p.a2),p.kX,p.a27,([]:List Int))).2.2 0) (.ret ((0,0,(0,0,0,0,0),0,([]:List Int)),(A.k bg ((p.a1,p.a2),p.kX,p.a27,([]:List Int))).2.2)) (.br (A.c .eql p.kX 2) (.more (.c2 ⟨p.a3,p.a4,p.a5,p.a6,p.a7,(A.k bg ((p.a1,p.a2),p.kX,p.a27,([]:List Int))).1.1,(A.k bg ((p.a1,p.a2),p.kX,p.a27,([]:List Int))).1.2,p.a3,p.a4,p.a5,p.a6,p.a7,p.a8,p.a9,p.bW,p.dM,p.a12,p.nC,p.j6,p.rB,p.kX,p.a20,p.a21,p.a22,p.a23,p.a24,p.a25,p.a26,(A.k bg ((p.a1,p.a2),p.kX,p.a27,([]:List Int))).2.1.1,(A.k bg ((p.a1,p.a2),p.kX,p.a27,([]:List Int))).2.1.2⟩ 0 p.rI 0 0 0 0 0 0 0 0)) (.br (A.c .eql p.kX 4) (.more (.c3 ⟨(A.k bg ((p.a1,p.a2),p.kX,p.a27,([]:List Int))).1.1,(A.k bg ((p.a1,p.a2),p.kX,p.a27,([]:List Int))).1.2,p.a3,p.a4,p.a5,p.a6,p.a7,p.a8,p.a9,p.bW,p.dM,p.a12,p.nC,p.j6,p.rB,p.kX,p.a20,p.a21,p.a22,p.a23,p.a24,p.a25,p.a26,(A.k bg ((p.a1,p.a2),p.kX,p.a27,([]:List Int))).2.1.1,(A.k bg ((p.a1,p.a2),p.kX,p.a27,([]:List Int))).2.1.2⟩ 0 55 0 0 0 0 0 0 0 0)) (.br (A.c .eql p.kX 3) (.need (A.k (@tt ((Int×List Int))) (A.k bg ((p.a1,p.a2),p.kX,p.a27,([]:List Int))).2.1) (.br (A.c .neq (A.k gh (A.k bg ((p.a1,p.a2),p.kX,p.a27,([]:List Int))).2.1).2 0) (.ret ((0,0,(0,0,0,0,0),0,([]:List Int)),51)) (.need (A.k (@tt ((Int×Int×(Int×Int×Int×Int×Int)×Int×List Int))) (p.kX,p.a20,(A.k gh (A.k bg ((p.a1,p.a2),p.kX,p.a27,([]:List Int))).2.1).1,p.a26,([]:List Int))) (.br (A.c .neq (A.k mW (p.kX,p.a20,(A.k gh (A.k bg ((p.a1,p.a2),p.kX,p.a27,([]:List Int))).2.1).1,p.a26,([]:List Int))) 0) (.ret ((0,0,(0,0,0,0,0),0,([]:List Int)),51)) (.ret ((p.kX,p.a20,(A.k gh (A.k bg ((p.a1,p.a2),p.kX,p.a27,([]:List Int))).2.1).1,p.a26,([]:List Int)),0)))))) (.need (A.k (@tt ((Int×Int×(Int×Int×Int×Int×Int)×Int×List Int))) (p.kX,p.a20,(p.a21,p.a22,p.a23,p.a24,p.a25),p.a26,([]:List Int))) (.br (A.c .neq (A.k mW (p.kX,p.a20,(p.a21,p.a22,p.a23,p.a24,p.a25),p.a26,([]:List Int))) 0) (.ret ((0,0,(0,0,0,0,0),0,([]:List Int)),51)) (.ret ((p.kX,p.a20,(p.a21,p.a22,p.a23,p.a24,p.a25),p.a26,([]:List Int)),0)))))))))
 | .c1 p=>.br (A.c .neq p.b0 0) (.ret ((0,0,(0,0,0,0,0),0,([]:List Int)),51)) (.need (A.k (@tt ((Int×List Int)×Int×(Int×List Int))) ((p.b1,p.b2),p.ki,p.lZ,p.lW)) (.br (A.c .neq (A.k bg ((p.b1,p.b2),p.ki,p.lZ,p.lW)).2.2 0) (.ret ((0,0,(0,0,0,0,0),0,([]:List Int)),(A.k bg ((p.b1,p.b2),p.ki,p.lZ,p.lW)).2.2)) (.br (A.c .eql p.ki 2) (.more (.c2 ⟨p.b3,p.b4,p.b5,p.b6,p.b7,(A.k bg ((p.b1,p.b2),p.ki,p.lZ,p.lW)).1.1,(A.k bg ((p.b1,p.b2),p.ki,p.lZ,p.lW)).1.2,p.b3,p.b4,p.b5,p.b6,p.b7,p.b8,p.b9,p.b10,p.b11,p.b12,p.b13,p.xW,p.zk,p.ki,p.lS,p.k6,p.lg,p.rF,p.rO,p.rM,p.pq,(A.k bg ((p.b1,p.b2),p.ki,p.lZ,p.lW)).2.1.1,(A.k bg ((p.b1,p.b2),p.ki,p.lZ,p.lW)).2.1.2⟩ 0 p.BQ 0 0 0 0 0 0 0 0)) (.br (A.c .eql p.ki 4) (.more (.c3 ⟨(A.k bg ((p.b1,p.b2),p.ki,p.lZ,p.lW)).1.1,(A.k bg ((p.b1,p.b2),p.ki,p.lZ,p.lW)).1.2,p.b3,p.b4,p.b5,p.b6,p.b7,p.b8,p.b9,p.b10,p.b11,p.b12,p.b13,p.xW,p.zk,p.ki,p.lS,p.k6,p.lg,p.rF,p.rO,p.rM,p.pq,(A.k bg ((p.b1,p.b2),p.ki,p.lZ,p.lW)).2.1.1,(A.k bg ((p.b1,p.b2),p.ki,p.lZ,p.lW)).2.1.2⟩ 0 55 0 0 0 0 0 0 0 0)) (.br (A.c .eql p.ki 3) (.need (A.k (@tt ((Int×List Int))) (A.k bg ((p.b1,p.b2),p.ki,p.lZ,p.lW)).2.1) (.br (A.c .neq (A.k gh (A.k bg ((p.b1,p.b2),p.ki,p.lZ,p.lW)).2.1).2 0) (.ret ((0,0,(0,0,0,0,0),0,([]:List Int)),51)) (.need (A.k (@tt ((Int×Int×(Int×Int×Int×Int×Int)×Int×List Int))) (p.ki,p.lS,(A.k gh (A.k bg ((p.b1,p.b2),p.ki,p.lZ,p.lW)).2.1).1,p.pq,([]:List Int))) (.br (A.c .neq (A.k mW (p.ki,p.lS,(A.k gh (A.k bg ((p.b1,p.b2),p.ki,p.lZ,p.lW)).2.1).1,p.pq,([]:List Int))) 0) (.ret ((0,0,(0,0,0,0,0),0,([]:List Int)),51)) (.ret ((p.ki,p.lS,(A.k gh (A.k bg ((p.b1,p.b2),p.ki,p.lZ,p.lW)).2.1).1,p.pq,([]:List Int)),0)))))) (.need (A.k (@tt ((Int×Int×(Int×Int×Int×Int×Int)×Int×List Int))) (p.ki,p.lS,(p.k6,p.lg,p.rF,p.rO,p.rM),p.pq,([]:List Int))) (.br (A.c .neq (A.k mW (p.ki,p.lS,(p.k6,p.lg,p.rF,p.rO,p.rM),p.pq,([]:List Int))) 0) (.ret ((0,0,(0,0,0,0,0),0,([]:List Int)),51)) (.ret ((p.ki,p.lS,(p.k6,p.lg,p.rF,p.rO,p.rM),p.pq,([]:List Int)),0)))))))))
 | .c2 p c0 c8 c9 c10 c11 c12 c13 c14 kZ c16=>.br (A.c .leq (A.b .add .i64 c8 8) p.c6) (.br (A.c .lss c0 8) (.need (A.k (@tt ((Int×List Int)×Int×Int)) ((p.c6,p.c7),c8,8)) (.br (A.c .neq (A.k ay ((p.c6,p.c7),c8,8)).2 0) (.need (A.and (A.c .leq 0 c0) (A.c .lss c0 8)) (.more (.c2 p (A.b .add .i64 c0 1) c8 (A.n yU (A.set [c9,c10,c11,c12,c13,c14,kZ,c16] c0 (0:Int)) 0:Int) (A.n yU (A.set [c9,c10,c11,c12,c13,c14,kZ,c16] c0 (0:Int)) 1:Int) (A.n yU (A.set [c9,c10,c11,c12,c13,c14,kZ,c16] c0 (0:Int)) 2:Int) (A.n yU (A.set [c9,c10,c11,c12,c13,c14,kZ,c16] c0 (0:Int)) 3:Int) (A.n yU (A.set [c9,c10,c11,c12,c13,c14,kZ,c16] c0 (0:Int)) 4:Int) (A.n yU (A.set [c9,c10,c11,c12,c13,c14,kZ,c16] c0 (0:Int)) 5:Int) (A.n yU (A.set [c9,c10,c11,c12,c13,c14,kZ,c16] c0 (0:Int)) 6:Int) (A.n yU (A.set [c9,c10,c11,c12,c13,c14,kZ,c16] c0 (0:Int)) 7:Int)))) (.need (A.and (A.c .leq 0 c0) (A.c .lss c0 8)) (.more (.c2 p (A.b .add .i64 c0 1) (A.b .add .i64 c8 8) (A.n yU (A.set [c9,c10,c11,c12,c13,c14,kZ,c16] c0 (A.v .u8 (A.v .i64 (A.k ay ((p.c6,p.c7),c8,8)).1))) 0:Int) (A.n yU (A.set [c9,c10,c11,c12,c13,c14,kZ,c16] c0 (A.v .u8 (A.v .i64 (A.k ay ((p.c6,p.c7),c8,8)).1))) 1:Int) (A.n yU (A.set [c9,c10,c11,c12,c13,c14,kZ,c16] c0 (A.v .u8 (A.v .i64 (A.k ay ((p.c6,p.c7),c8,8)).1))) 2:Int) (A.n yU (A.set [c9,c10,c11,c12,c13,c14,kZ,c16] c0 (A.v .u8 (A.v .i64 (A.k ay ((p.c6,p.c7),c8,8)).1))) 3:Int) (A.n yU (A.set [c9,c10,c11,c12,c13,c14,kZ,c16] c0 (A.v .u8 (A.v .i64 (A.k ay ((p.c6,p.c7),c8,8)).1))) 4:Int) (A.n yU (A.set [c9,c10,c11,c12,c13,c14,kZ,c16] c0 (A.v .u8 (A.v .i64 (A.k ay ((p.c6,p.c7),c8,8)).1))) 5:Int) (A.n yU (A.set [c9,c10,c11,c12,c13,c14,kZ,c16] c0 (A.v .u8 (A.v .i64 (A.k ay ((p.c6,p.c7),c8,8)).1))) 6:Int) (A.n yU (A.set [c9,c10,c11,c12,c13,c14,kZ,c16] c0 (A.v .u8 (A.v .i64 (A.k ay ((p.c6,p.c7),c8,8)).1))) 7:Int)))))) (.need (A.and (A.c .eql c0 c0) (A.and (A.c .leq 0 c0) (A.c .leq c0 70368744177664))) (.eqs ((.ptr 4 2:AV)=.ptr 4 2) (.eqs ((.agg [.int .i64 false p.JF,.int .i64 false p.Jd,.int .i64 false p.c19,.int .i64 false p.c20,.int .i64 false p.c21]:AV)=.agg [.int .i64 false p.c1,.int .i64 false p.c2,.int .i64 false p.c3,.int .i64 false p.c4,.int .i64 false p.c5]) (.need (A.k (@tt ((Int×Int×(Int×Int×Int×Int×Int)×Int×List Int))) (p.B5,p.c31,(p.c1,p.c2,p.c3,p.c4,p.c5),p.c37,(A.spl (A.r c0 (0:Int)) 0 (A.s [c9,c10,c11,c12,c13,c14,kZ,c16] 0 (A.mn (A.l [c9,c10,c11,c12,c13,c14,kZ,c16]) (A.l (A.r c0 (0:Int)))))))) (.br (A.c .neq (A.k mW (p.B5,p.c31,(p.c1,p.c2,p.c3,p.c4,p.c5),p.c37,(A.spl (A.r c0 (0:Int)) 0 (A.s [c9,c10,c11,c12,c13,c14,kZ,c16] 0 (A.mn (A.l [c9,c10,c11,c12,c13,c14,kZ,c16]) (A.l (A.r c0 (0:Int)))))))) 0) (.ret ((0,0,(0,0,0,0,0),0,([]:List Int)),51)) (.ret ((p.B5,p.c31,(p.c1,p.c2,p.c3,p.c4,p.c5),p.c37,(A.spl (A.r c0 (0:Int)) 0 (A.s [c9,c10,c11,c12,c13,c14,kZ,c16] 0 (A.mn (A.l [c9,c10,c11,c12,c13,c14,kZ,c16]) (A.l (A.r c0 (0:Int))))))),0)))))))) (.need (A.and (A.c .eql c0 c0) (A.and (A.c .leq 0 c0) (A.c .leq c0 70368744177664))) (.eqs ((.ptr 4 2:AV)=.ptr 4 2) (.eqs ((.agg [.int .i64 false p.JF,.int .i64 false p.Jd,.int .i64 false p.c19,.int .i64 false p.c20,.int .i64 false p.c21]:AV)=.agg [.int .i64 false p.c1,.int .i64 false p.c2,.int .i64 false p.c3,.int .i64 false p.c4,.int .i64 false p.c5]) (.need (A.k (@tt ((Int×Int×(Int×Int×Int×Int×Int)×Int×List Int))) (p.B5,p.c31,(p.c1,p.c2,p.c3,p.c4,p.c5),p.c37,(A.spl (A.r c0 (0:Int)) 0 (A.s [c9,c10,c11,c12,c13,c14,kZ,c16] 0 (A.mn (A.l [c9,c10,c11,c12,c13,c14,kZ,c16]) (A.l (A.r c0 (0:Int)))))))) (.br (A.c .neq (A.k mW (p.B5,p.c31,(p.c1,p.c2,p.c3,p.c4,p.c5),p.c37,(A.spl (A.r c0 (0:Int)) 0 (A.s [c9,c10,c11,c12,c13,c14,kZ,c16] 0 (A.mn (A.l [c9,c10,c11,c12,c13,c14,kZ,c16]) (A.l (A.r c0 (0:Int)))))))) 0) (.ret ((0,0,(0,0,0,0,0),0,([]:List Int)),51)) (.ret ((p.B5,p.c31,(p.c1,p.c2,p.c3,p.c4,p.c5),p.c37,(A.spl (A.r c0 (0:Int)) 0 (A.s [c9,c10,c11,c12,c13,c14,kZ,c16] 0 (A.mn (A.l [c9,c10,c11,c12,c13,c14,kZ,c16]) (A.l (A.r c0 (0:Int))))))),0)))))))
 | .c3 p d0 d3 d4 d5 d6 d7 d8 d9 mD mQ=>.br (A.c .leq (A.b .add .i64 d3 8) p.d1) (.br (A.c .lss d0 8) (.need (A.k (@tt ((Int×List Int)×Int×Int)) ((p.d1,p.d2),d3,8)) (.br (A.c .neq (A.k ay ((p.d1,p.d2),d3,8)).2 0) (.need (A.and (A.c .leq 0 d0) (A.c .lss d0 8)) (.more (.c3 p (A.b .add .i64 d0 1) d3 (A.n yU (A.set [d4,d5,d6,d7,d8,d9,mD,mQ] d0 (0:Int)) 0:Int) (A.n yU (A.set [d4,d5,d6,d7,d8,d9,mD,mQ] d0 (0:Int)) 1:Int) (A.n yU (A.set [d4,d5,d6,d7,d8,d9,mD,mQ] d0 (0:Int)) 2:Int) (A.n yU (A.set [d4,d5,d6,d7,d8,d9,mD,mQ] d0 (0:Int)) 3:Int) (A.n yU (A.set [d4,d5,d6,d7,d8,d9,mD,mQ] d0 (0:Int)) 4:Int) (A.n yU (A.set [d4,d5,d6,d7,d8,d9,mD,mQ] d0 (0:Int)) 5:Int) (A.n yU (A.set [d4,d5,d6,d7,d8,d9,mD,mQ] d0 (0:Int)) 6:Int) (A.n yU (A.set [d4,d5,d6,d7,d8,d9,mD,mQ] d0 (0:Int)) 7:Int)))) (.need (A.and (A.c .leq 0 d0) (A.c .lss d0 8)) (.more (.c3 p (A.b .add .i64 d0 1) (A.b .add .i64 d3 8) (A.n yU (A.set [d4,d5,d6,d7,d8,d9,mD,mQ] d0 (A.v .u8 (A.v .i64 (A.k ay ((p.d1,p.d2),d3,8)).1))) 0:Int) (A.n yU (A.set [d4,d5,d6,d7,d8,d9,mD,mQ] d0 (A.v .u8 (A.v .i64 (A.k ay ((p.d1,p.d2),d3,8)).1))) 1:Int) (A.n yU (A.set [d4,d5,d6,d7,d8,d9,mD,mQ] d0 (A.v .u8 (A.v .i64 (A.k ay ((p.d1,p.d2),d3,8)).1))) 2:Int) (A.n yU (A.set [d4,d5,d6,d7,d8,d9,mD,mQ] d0 (A.v .u8 (A.v .i64 (A.k ay ((p.d1,p.d2),d3,8)).1))) 3:Int) (A.n yU (A.set [d4,d5,d6,d7,d8,d9,mD,mQ] d0 (A.v .u8 (A.v .i64 (A.k ay ((p.d1,p.d2),d3,8)).1))) 4:Int) (A.n yU (A.set [d4,d5,d6,d7,d8,d9,mD,mQ] d0 (A.v .u8 (A.v .i64 (A.k ay ((p.d1,p.d2),d3,8)).1))) 5:Int) (A.n yU (A.set [d4,d5,d6,d7,d8,d9,mD,mQ] d0 (A.v .u8 (A.v .i64 (A.k ay ((p.d1,p.d2),d3,8)).1))) 6:Int) (A.n yU (A.set [d4,d5,d6,d7,d8,d9,mD,mQ] d0 (A.v .u8 (A.v .i64 (A.k ay ((p.d1,p.d2),d3,8)).1))) 7:Int)))))) (.need (A.and (A.c .eql d0 d0) (A.and (A.c .leq 0 d0) (A.c .leq d0 70368744177664))) (.need (A.k (@tt ((Int×List Int))) (p.xC,p.xd)) (.br (A.c .neq (A.k gh (p.xC,p.xd)).2 0) (.ret ((0,0,(0,0,0,0,0),0,([]:List Int)),51)) (.need (A.k (@tt ((Int×Int×(Int×Int×Int×Int×Int)×Int×List Int))) (p.CO,p.Cb,(A.k gh (p.xC,p.xd)).1,p.Cc,(A.spl (A.r d0 (0:Int)) 0 (A.s [d4,d5,d6,d7,d8,d9,mD,mQ] 0 (A.mn (A.l [d4,d5,d6,d7,d8,d9,mD,mQ]) (A.l (A.r d0 (0:Int)))))))) (.br (A.c .neq (A.k mW (p.CO,p.Cb,(A.k gh (p.xC,p.xd)).1,p.Cc,(A.spl (A.r d0 (0:Int)) 0 (A.s [d4,d5,d6,d7,d8,d9,mD,mQ] 0 (A.mn (A.l [d4,d5,d6,d7,d8,d9,mD,mQ]) (A.l (A.r d0 (0:Int)))))))) 0) (.ret ((0,0,(0,0,0,0,0),0,([]:List Int)),51)) (.ret ((p.CO,p.Cb,(A.k gh (p.xC,p.xd)).1,p.Cc,(A.spl (A.r d0 (0:Int)) 0 (A.s [d4,d5,d6,d7,d8,d9,mD,mQ] 0 (A.mn (A.l [d4,d5,d6,d7,d8,d9,mD,mQ]) (A.l (A.r d0 (0:Int))))))),0)))))))) (.need (A.and (A.c .eql d0 d0) (A.and (A.c .leq 0 d0) (A.c .leq d0 70368744177664))) (.need (A.k (@tt ((Int×List Int))) (p.xC,p.xd)) (.br (A.c .neq (A.k gh (p.xC,p.xd)).2 0) (.ret ((0,0,(0,0,0,0,0),0,([]:List Int)),51)) (.need (A.k (@tt ((Int×Int×(Int×Int×Int×Int×Int)×Int×List Int))) (p.CO,p.Cb,(A.k gh (p.xC,p.xd)).1,p.Cc,(A.spl (A.r d0 (0:Int)) 0 (A.s [d4,d5,d6,d7,d8,d9,mD,mQ] 0 (A.mn (A.l [d4,d5,d6,d7,d8,d9,mD,mQ]) (A.l (A.r d0 (0:Int)))))))) (.br (A.c .neq (A.k mW (p.CO,p.Cb,(A.k gh (p.xC,p.xd)).1,p.Cc,(A.spl (A.r d0 (0:Int)) 0 (A.s [d4,d5,d6,d7,d8,d9,mD,mQ] 0 (A.mn (A.l [d4,d5,d6,d7,d8,d9,mD,mQ]) (A.l (A.r d0 (0:Int)))))))) 0) (.ret ((0,0,(0,0,0,0,0),0,([]:List Int)),51)) (.ret ((p.CO,p.Cb,(A.k gh (p.xC,p.xd)).1,p.Cc,(A.spl (A.r d0 (0:Int)) 0 (A.s [d4,d5,d6,d7,d8,d9,mD,mQ] 0 (A.mn (A.l [d4,d5,d6,d7,d8,d9,mD,mQ]) (A.l (A.r d0 (0:Int))))))),0)))))))
theorem al{R Y:Type}{step:Y→LT R Y}{t:LT R Y}{r r':R}(h:r=r')(h2:aB step t r):aB step t r':=h▸h2
theorem J3{S:List Int}(h:S.length=8):[S.getD 0 0,S.getD 1 0,S.getD 2 0,S.getD 3 0,S.getD 4 0,S.getD 5 0,S.getD 6 0,S.getD 7 0]=S:=by
 match S,h with
 | [_,_,_,_,_,_,_,_],_=>rfl
theorem qS(k:Nat):∀l:List Bool,aV (k+1) l=aV k l ++ [((dH ((l.drop (8*k)).take 8):Nat):Int)]:=by
 induction k with
 | zero=>intro l;rfl
 | succ k ih=>
  intro l
  rw[aV,ih,aV,List.cons_append,List.drop_drop,show 8+8*k=8*(k+1) from by omega]
theorem Hu{m d a:Nat}{b:List Int}(hok:bD ((m:Int),b)=true)(hm:m=a+8*d)(hd:d≤8)(ha:a≤100):∀(j i:Nat) (p:Jz) (x0 x1 x2 x3 x4 x5 x6 x7:Int),p.c6=(m:Int)→p.c7=b→p.JF=p.c1→p.Jd=p.c2→p.c19=p.c3→p.c20=p.c4→p.c21=p.c5→ [x0,x1,x2,x3,x4,x5,x6,x7]=aV i ((unpack m b).drop a)++List.replicate (8-i) 0→d-i=j→i≤d→
  aB (z7 ai) (.more (.c2 p (i:Int) ((a+8*i:Nat):Int) x0 x1 x2 x3 x4 x5 x6 x7)) (bif fx (p.B5,p.c31,(p.c1,p.c2,p.c3,p.c4,p.c5),p.c37,aV d ((unpack m b).drop a)) then((p.B5,p.c31,(p.c1,p.c2,p.c3,p.c4,p.c5),p.c37,aV d ((unpack m b).drop a)),0) else(dx,51)):=by
 intro j
 induction j with
 | zero=>
  intro i p x0 x1 x2 x3 x4 x5 x6 x7 h6 h7 h17 h18 h19 h20 h21 hR hj hi
  have:i=d:=by omega
  subst this
  have hdl:=cX i ((unpack m b).drop a)
  have hD:(ai.spl (ai.r (i:Int) (0:Int)) 0 (ai.s [x0,x1,x2,x3,x4,x5,x6,x7] 0 (ai.mn (ai.l [x0,x1,x2,x3,x4,x5,x6,x7]) (ai.l (ai.r (i:Int) (0:Int))))):List Int)=aV i ((unpack m b).drop a):=by
   rw[hR]
   have e1:ai.r (i:Int) (0:Int)=List.replicate i 0:=by rw[kq,Int.toNat_natCast]
   rw[e1]
   have e2:ai.mn (ai.l (aV i ((unpack m b).drop a)++List.replicate (8-i) (0:Int))) (ai.l (List.replicate i (0:Int)))=(i:Int):=by
    show(if ((List.replicate i (0:Int)).length:Int)<((aV i ((unpack m b).drop a)++List.replicate (8-i) (0:Int)).length:Int) then((List.replicate i (0:Int)).length:Int) else((aV i ((unpack m b).drop a)++List.replicate (8-i) (0:Int)).length:Int))=_
    rw[List.length_append,hdl,List.length_replicate,List.length_replicate]
    split<;>omega
   have hT:(aV i ((unpack m b).drop a)++List.replicate (8-i) (0:Int)).take i=aV i ((unpack m b).drop a):=by rw[List.take_append_of_le_length (by omega),List.take_of_length_le (by omega)]
   rw[e2,j5,mz,Int.toNat_natCast,hT]
   show(List.replicate i (0:Int)).take 0++(aV i ((unpack m b).drop a)).drop 0++(List.replicate i (0:Int)).drop (0+((aV i ((unpack m b).drop a)).drop 0).length)=_
   rw[List.drop_zero,hdl,List.drop_replicate,show i-(0+i)=0 from by omega,List.replicate_zero,List.take_zero,List.nil_append,List.append_nil]
  rw[ak,z7]
  refine(ah (by rw[h6,show ai.b .add .i64 ((a+8*i:Nat):Int) 8=((a+8*i+8:Nat):Int) from fu (j:=8) (by omega),iU];simp;omega)).2 ?_
  refine af.2 ⟨by rw[qZ rfl,gj,aF,aU,aU];simp;omega,eZ.2 ⟨rfl,eZ.2 ⟨by rw[h17,h18,h19,h20,h21],af.2 ⟨rfl,?_⟩⟩⟩⟩
  have hchk:ai.k mW (p.B5,p.c31,(p.c1,p.c2,p.c3,p.c4,p.c5),p.c37,(ai.spl (ai.r (i:Int) (0:Int)) 0 (ai.s [x0,x1,x2,x3,x4,x5,x6,x7] 0 (ai.mn (ai.l [x0,x1,x2,x3,x4,x5,x6,x7]) (ai.l (ai.r (i:Int) (0:Int)))))))=bif fx (p.B5,p.c31,(p.c1,p.c2,p.c3,p.c4,p.c5),p.c37,aV i ((unpack m b).drop a)) then 0 else 50:=by rw[hD];exact rP
  cases hf:fx (p.B5,p.c31,(p.c1,p.c2,p.c3,p.c4,p.c5),p.c37,aV i ((unpack m b).drop a))
  ·rw[hf] at hchk
   exact(aj (eE (by rw[hchk];decide))).2 (.ret _)
  ·rw[hf] at hchk
   refine(ah (cJ hchk)).2 ?_
   exact bi (congrArg (fun z=>LT.ret ((p.B5,p.c31,(p.c1,p.c2,p.c3,p.c4,p.c5),p.c37,z),(0:Int))) hD) (.ret _)
 | succ j ih=>
  intro i p x0 x1 x2 x3 x4 x5 x6 x7 h6 h7 h17 h18 h19 h20 h21 hR hj hi
  have hmb:m≤4096:=by
   simp only[bD,Bool.and_eq_true,decide_eq_true_eq] at hok
   omega
  have hg:ai.k ay ((p.c6,p.c7),((a+8*i:Nat):Int),8)=(((bq (unpack m b) (a+8*i) 8:Nat):Int),0):=by
   rw[h6,h7];exact jh hok (w:=8) (by omega) (by decide) hmb
  have hf:=dR (unpack m b) (a+8*i) 8
  have hv:ai.v .u8 (ai.v .i64 (ai.k ay ((p.c6,p.c7),((a+8*i:Nat):Int),8)).1)=((bq (unpack m b) (a+8*i) 8:Nat):Int):=by
   rw[hg,bu,bu,fQ (by omega) (by omega),w8 (by omega) (by omega)]
  have hn8:ai.and (ai.c .leq 0 (i:Int)) (ai.c .lss (i:Int) 8)=true:=by rw[gj,ar,aU];simp;omega
  rw[ak,z7]
  refine(aj (by rw[h6,show ai.b .add .i64 ((a+8*i:Nat):Int) 8=((a+8*i+8:Nat):Int) from fu (j:=8) (by omega),iU];simp;omega)).2 ?_
  refine(aj (by rw[ar];simp;omega)).2 (af.2 ⟨rfl,(ah (cJ (congrArg Prod.snd hg))).2 (af.2 ⟨hn8,?_⟩)⟩)
  obtain⟨S,hS⟩:∃S:List Int,S=([x0,x1,x2,x3,x4,x5,x6,x7]:List Int).set (i:Int).toNat (ai.v .u8 (ai.v .i64 (ai.k ay ((p.c6,p.c7),((a+8*i:Nat):Int),8)).1)):=⟨_,rfl⟩
  have hSl:S.length=8:=by rw[hS,List.length_set];rfl
  have hSv:S=aV (i+1) ((unpack m b).drop a)++List.replicate (8-(i+1)) 0:=by
   rw[hS,hv,hR,Int.toNat_natCast,List.set_append_right _ _ (by rw[cX];exact Nat.le_refl _),cX,Nat.sub_self,qS,show 8-i=(8-(i+1))+1 from by omega,List.replicate_succ,List.set_cons_zero,List.append_assoc,List.drop_drop]
   rfl
  have hm':=ih (i+1) p (S.getD 0 0) (S.getD 1 0) (S.getD 2 0) (S.getD 3 0) (S.getD 4 0) (S.getD 5 0) (S.getD 6 0) (S.getD 7 0) h6 h7 h17 h18 h19 h20 h21 ((J3 hSl).trans hSv) (by omega) (by omega)
  have e:JD.c2 p (ai.b .add .i64 (i:Int) 1) (ai.b .add .i64 ((a+8*i:Nat):Int) 8) (S.getD 0 0) (S.getD 1 0) (S.getD 2 0) (S.getD 3 0) (S.getD 4 0) (S.getD 5 0) (S.getD 6 0) (S.getD 7 0)=JD.c2 p ((i+1:Nat):Int) ((a+8*(i+1):Nat):Int) (S.getD 0 0) (S.getD 1 0) (S.getD 2 0) (S.getD 3 0) (S.getD 4 0) (S.getD 5 0) (S.getD 6 0) (S.getD 7 0):=by
   rw[cy (by omega),show ai.b .add .i64 ((a+8*i:Nat):Int) 8=((a+8*(i+1):Nat):Int) from fu (j:=8) (by omega)]
  have hm2:=bi (congrArg LT.more e) hm'
  subst hS
  exact hm2
theorem GV{m d a:Nat}{b:List Int}(hok:bD ((m:Int),b)=true)(hm:m=a+8*d)(hd:d≤8)(ha:a≤100):∀(j i:Nat) (p:Jq) (x0 x1 x2 x3 x4 x5 x6 x7:Int),p.d1=(m:Int)→p.d2=b→ [x0,x1,x2,x3,x4,x5,x6,x7]=aV i ((unpack m b).drop a)++List.replicate (8-i) 0→d-i=j→i≤d→
  aB (z7 ai) (.more (.c3 p (i:Int) ((a+8*i:Nat):Int) x0 x1 x2 x3 x4 x5 x6 x7)) (bif (dI (p.xC,p.xd)).2 != 0 then(dx,51) else bif fx (p.CO,p.Cb,(dI (p.xC,p.xd)).1,p.Cc,aV d ((unpack m b).drop a)) then((p.CO,p.Cb,(dI (p.xC,p.xd)).1,p.Cc,aV d ((unpack m b).drop a)),0) else(dx,51)):=by
 intro j
 induction j with
 | zero=>
  intro i p x0 x1 x2 x3 x4 x5 x6 x7 h6 h7 hR hj hi
  have:i=d:=by omega
  subst this
  have hdl:=cX i ((unpack m b).drop a)
  have hD:(ai.spl (ai.r (i:Int) (0:Int)) 0 (ai.s [x0,x1,x2,x3,x4,x5,x6,x7] 0 (ai.mn (ai.l [x0,x1,x2,x3,x4,x5,x6,x7]) (ai.l (ai.r (i:Int) (0:Int))))):List Int)=aV i ((unpack m b).drop a):=by
   rw[hR]
   have e1:ai.r (i:Int) (0:Int)=List.replicate i 0:=by rw[kq,Int.toNat_natCast]
   rw[e1]
   have e2:ai.mn (ai.l (aV i ((unpack m b).drop a)++List.replicate (8-i) (0:Int))) (ai.l (List.replicate i (0:Int)))=(i:Int):=by
    show(if ((List.replicate i (0:Int)).length:Int)<((aV i ((unpack m b).drop a)++List.replicate (8-i) (0:Int)).length:Int) then((List.replicate i (0:Int)).length:Int) else((aV i ((unpack m b).drop a)++List.replicate (8-i) (0:Int)).length:Int))=_
    rw[List.length_append,hdl,List.length_replicate,List.length_replicate]
    split<;>omega
   have hT:(aV i ((unpack m b).drop a)++List.replicate (8-i) (0:Int)).take i=aV i ((unpack m b).drop a):=by rw[List.take_append_of_le_length (by omega),List.take_of_length_le (by omega)]
   rw[e2,j5,mz,Int.toNat_natCast,hT]
   show(List.replicate i (0:Int)).take 0++(aV i ((unpack m b).drop a)).drop 0++(List.replicate i (0:Int)).drop (0+((aV i ((unpack m b).drop a)).drop 0).length)=_
   rw[List.drop_zero,hdl,List.drop_replicate,show i-(0+i)=0 from by omega,List.replicate_zero,List.take_zero,List.nil_append,List.append_nil]
  rw[ak,z7]
  refine(ah (by rw[h6,show ai.b .add .i64 ((a+8*i:Nat):Int) 8=((a+8*i+8:Nat):Int) from fu (j:=8) (by omega),iU];simp;omega)).2 ?_
  refine af.2 ⟨by rw[qZ rfl,gj,aF,aU,aU];simp;omega,af.2 ⟨rfl,?_⟩⟩
  cases he:((dI (p.xC,p.xd)).2 != 0)
  ·refine(ah he).2 (af.2 ⟨rfl,?_⟩)
   have hchk:ai.k mW (p.CO,p.Cb,(ai.k gh (p.xC,p.xd)).1,p.Cc,(ai.spl (ai.r (i:Int) (0:Int)) 0 (ai.s [x0,x1,x2,x3,x4,x5,x6,x7] 0 (ai.mn (ai.l [x0,x1,x2,x3,x4,x5,x6,x7]) (ai.l (ai.r (i:Int) (0:Int)))))))=bif fx (p.CO,p.Cb,(dI (p.xC,p.xd)).1,p.Cc,aV i ((unpack m b).drop a)) then 0 else 50:=by rw[hD];exact rP
   cases hf:fx (p.CO,p.Cb,(dI (p.xC,p.xd)).1,p.Cc,aV i ((unpack m b).drop a))
   ·rw[hf] at hchk
    exact(aj (eE (by rw[hchk];decide))).2 (.ret _)
   ·rw[hf] at hchk
    refine(ah (cJ hchk)).2 ?_
    exact bi (congrArg (fun z=>LT.ret ((p.CO,p.Cb,(dI (p.xC,p.xd)).1,p.Cc,z),(0:Int))) hD) (.ret _)
  ·exact(aj he).2 (.ret _)
 | succ j ih=>
  intro i p x0 x1 x2 x3 x4 x5 x6 x7 h6 h7 hR hj hi
  have hmb:m≤4096:=by
   simp only[bD,Bool.and_eq_true,decide_eq_true_eq] at hok
   omega
  have hg:ai.k ay ((p.d1,p.d2),((a+8*i:Nat):Int),8)=(((bq (unpack m b) (a+8*i) 8:Nat):Int),0):=by
   rw[h6,h7];exact jh hok (w:=8) (by omega) (by decide) hmb
  have hf:=dR (unpack m b) (a+8*i) 8
  have hv:ai.v .u8 (ai.v .i64 (ai.k ay ((p.d1,p.d2),((a+8*i:Nat):Int),8)).1)=((bq (unpack m b) (a+8*i) 8:Nat):Int):=by
   rw[hg,bu,bu,fQ (by omega) (by omega),w8 (by omega) (by omega)]
  have hn8:ai.and (ai.c .leq 0 (i:Int)) (ai.c .lss (i:Int) 8)=true:=by rw[gj,ar,aU];simp;omega
  rw[ak,z7]
  refine(aj (by rw[h6,show ai.b .add .i64 ((a+8*i:Nat):Int) 8=((a+8*i+8:Nat):Int) from fu (j:=8) (by omega),iU];simp;omega)).2 ?_
  refine(aj (by rw[ar];simp;omega)).2 (af.2 ⟨rfl,(ah (cJ (congrArg Prod.snd hg))).2 (af.2 ⟨hn8,?_⟩)⟩)
  obtain⟨S,hS⟩:∃S:List Int,S=([x0,x1,x2,x3,x4,x5,x6,x7]:List Int).set (i:Int).toNat (ai.v .u8 (ai.v .i64 (ai.k ay ((p.d1,p.d2),((a+8*i:Nat):Int),8)).1)):=⟨_,rfl⟩
  have hSl:S.length=8:=by rw[hS,List.length_set];rfl
  have hSv:S=aV (i+1) ((unpack m b).drop a)++List.replicate (8-(i+1)) 0:=by
   rw[hS,hv,hR,Int.toNat_natCast,List.set_append_right _ _ (by rw[cX];exact Nat.le_refl _),cX,Nat.sub_self,qS,show 8-i=(8-(i+1))+1 from by omega,List.replicate_succ,List.set_cons_zero,List.append_assoc,List.drop_drop]
   rfl
  have hm':=ih (i+1) p (S.getD 0 0) (S.getD 1 0) (S.getD 2 0) (S.getD 3 0) (S.getD 4 0) (S.getD 5 0) (S.getD 6 0) (S.getD 7 0) h6 h7 ((J3 hSl).trans hSv) (by omega) (by omega)
  have e:JD.c3 p (ai.b .add .i64 (i:Int) 1) (ai.b .add .i64 ((a+8*i:Nat):Int) 8) (S.getD 0 0) (S.getD 1 0) (S.getD 2 0) (S.getD 3 0) (S.getD 4 0) (S.getD 5 0) (S.getD 6 0) (S.getD 7 0)=JD.c3 p ((i+1:Nat):Int) ((a+8*(i+1):Nat):Int) (S.getD 0 0) (S.getD 1 0) (S.getD 2 0) (S.getD 3 0) (S.getD 4 0) (S.getD 5 0) (S.getD 6 0) (S.getD 7 0):=by
   rw[cy (by omega),show ai.b .add .i64 ((a+8*i:Nat):Int) 8=((a+8*(i+1):Nat):Int) from fu (j:=8) (by omega)]
  have hm2:=bi (congrArg LT.more e) hm'
  subst hS
  exact hm2
theorem qY{k:Nat}:∀{a c:Nat} {l:List Bool},a+8*k≤c→c≤l.length→aV k ((l.take c).drop a)=aV k (l.drop a):=by
 induction k with
 | zero=>intro a c l _ _;rfl
 | succ k ih=>
  intro a c l h hc
  rw[aV,aV,List.drop_drop,List.drop_drop,ih (by omega) hc]
  congr 2
  congr 1
  rw[List.drop_take,List.take_take,Nat.min_eq_left (by omega)]
theorem GY{n a w:Nat}{b:List Int}(hok:bD ((n:Int),b)=true)(h:n<a+w):ai.k ay (((n:Int),b),(a:Int),(w:Int))=(0,2):=by
 rw[ap,ay,Cz]
 simp only[hok,Bool.not_true,cond_false]
 rw[show decide ((n:Int)<(a:Int)+(w:Int))=true from by simp;omega,Bool.or_true]
 rfl
theorem Ca{n t p m x s:Int}{b:List Int}(h:Ty.du [(.struct [(.int .i64),(.slice (.int .u8))]),(.struct [(.int .i64),(.int .i64),(.int .i64),(.int .i64),(.int .i64)])] ((n,b),(t,p,m,x,s))):Ty.has (.struct [(.int .i64),(.slice (.int .u8))]) (n,b):=h.1
theorem rW{q:List Bool}(h:q.length=24):dI (bO q)=bif dX (eU q) then(eU q,0) else(zS,40):=by
 rw[dI,gP (by omega),fX,show(bO q).1=24 from by show((q.length:Nat):Int)=24;rw[h];rfl]
 rfl
theorem Lv{n t p m x s:Int}{b:List Int}(h:Ty.du [(.struct [(.int .i64),(.slice (.int .u8))]),(.struct [(.int .i64),(.int .i64),(.int .i64),(.int .i64),(.int .i64)])] ((n,b),(t,p,m,x,s))):aB (z7 ai) (t50 ai n b t p m x s) (nG ((n,b),(t,p,m,x,s))):=by
 have h1:=Ca h
 have hb:=(dU h1).2.2
 have hl:=dy h1
 unfold t50
 have hc:ai.k iW (n,b)=bif bD (n,b) then 0 else 10:=jJ hb hl
 refine af.2 ⟨rfl,?_⟩
 show aB (z7 ai) _ (bif !bD (n,b) then(dx,10) else bif !dX (t,p,m,x,s) then(dx,40) else mU (bG (n,b)) (t,p,m,x,s))
 cases hok:bD (n,b)
 ·rw[hok] at hc
  refine(aj (eE (by rw[hc];decide))).2 ?_
  exact bi (congrArg (fun z=>LT.ret (((0,0,(0,0,0,0,0),0,([]:List Int)):Int×Int×(Int×Int×Int×Int×Int)×Int×List Int),z)) hc) (.ret _)
 rw[hok] at hc
 refine(ah (cJ hc)).2 (af.2 ⟨rfl,?_⟩)
 rw[Bool.not_true,cond_false]
 have hchk:ai.k lq ((t,p,m,x,s),8)=bif dX (t,p,m,x,s) then 0 else 40:=pP (t,p,m,x,s)
 cases hst:dX (t,p,m,x,s)
 ·rw[hst] at hchk
  exact(aj (eE (by rw[hchk];decide))).2 (.ret _)
 rw[hst] at hchk
 refine(ah (cJ hchk)).2 (af.2 ⟨rfl,?_⟩)
 rw[Bool.not_true,cond_false]
 obtain⟨h2,h3,h4⟩:=(fS hb).1 hok
 obtain⟨n,rfl⟩:=Int.eq_ofNat_of_zero_le h2
 have hn:n≤4096:=by omega
 have hlen:(bG ((n:Int),b)).length=n:=by rw[gb];rfl
 have hun:bG ((n:Int),b)=unpack n b:=rfl
 have hlu:(unpack n b).length=n:=aX n b
 rw[hun]
 obtain⟨hp1,hp2,hp3,hp4⟩:=CU hn
 obtain⟨f2,f4,f1,f3⟩:=D6 (n:=n)
 by_cases hs:n<2
 ·refine(aj (eE (by rw[show ai.k ay (((n:Int),b),0,2)=(0,2) from GY (a:=0) (w:=2) hok (by omega)];decide))).2 (af.2 ⟨rfl,?_⟩)
  rw[zH (by omega)]
  refine(aj (show ai.not (ai.k iN ((n:Int),1))=true from ?_)).2 (.ret _)
  rw[cu,ap,hp1,show eF n 1=false from by rw[←Bool.not_eq_true,f1];omega];rfl
 have g0:ai.k ay (((n:Int),b),0,2)=(((bq (unpack n b) 0 2:Nat):Int),0):=jh (a:=0) (w:=2) hok (by omega) (by decide) hn
 refine(ah (cJ (congrArg Prod.snd g0))).2 (af.2 ⟨rfl,?_⟩)
 have hk:=IG (l:=unpack n b) (by omega)
 have hf:=dR (unpack n b) 0 2
 have hK:ai.b .add .i64 (ai.v .i64 (ai.k ay (((n:Int),b),0,2)).1) 1=((bq (unpack n b) 0 2+1:Nat):Int):=by
  rw[g0,bu,fQ (by omega) (by omega)];exact cy (by omega)
 rw[hK]
 have g:∀a w:Nat,a+w≤n→w≤64→ai.k ay (((n:Int),b),(a:Int),(w:Int))=(((bq (unpack n b) a w:Nat):Int),0):=fun a w h1 h2=>jh hok h1 h2 hn
 have hcv:∀a w:Nat,w≤8→ai.v .i64 ((bq (unpack n b) a w:Nat):Int)=((bq (unpack n b) a w:Nat):Int):=fun a w hw=>by
  have:=dR (unpack n b) a w
  have hp:2^w≤2^8:=Nat.pow_le_pow_right (by decide) hw
  rw[bu,fQ (by omega) (by omega)]
 have hcase:bq (unpack n b) 0 2=0∨bq (unpack n b) 0 2=1∨bq (unpack n b) 0 2=2∨bq (unpack n b) 0 2=3:=by omega
 rcases hcase with h0|h0|h0|h0
 ·-- FrCold
  rw[h0] at hk ⊢
  by_cases hfit:eF n 1=true
  ·have h40:=f1.1 hfit
   refine(ah (show ai.not (ai.k iN ((n:Int),1))=false by rw[cu,ap,hp1,hfit];rfl)).2 ((aj rfl).2 ?_)
   have g1:ai.k ay (((n:Int),b),2,3)=(((bq (unpack n b) 2 3:Nat):Int),0):=g 2 3 (by omega) (by decide)
   have g2:ai.k ay (((n:Int),b),5,8)=(((bq (unpack n b) 5 8:Nat):Int),0):=g 5 8 (by omega) (by decide)
   have g3:ai.k ay (((n:Int),b),13,3)=(((bq (unpack n b) 13 3:Nat):Int),0):=g 13 3 (by omega) (by decide)
   refine af.2 ⟨rfl,(ah (cJ (congrArg Prod.snd g1))).2 (af.2 ⟨rfl,(ah (cJ (congrArg Prod.snd g2))).2 (af.2 ⟨rfl,(ah (cJ (congrArg Prod.snd g3))).2 ?_⟩)⟩)⟩
   rw[ak,z7]
   dsimp only
   rw[KN hk (by omega)]
   have hz:ai.c .neq (ai.v .i64 (ai.k ay (((n:Int),b),13,3)).1) 0=(bq (unpack n b) 13 3 != 0):=by
    rw[g3,hcv 13 3 (by decide),aQ,Bool.eq_iff_iff];simp
   cases hzz:(bq (unpack n b) 13 3 != 0)
   ·refine(ah (hz.trans hzz)).2 (af.2 ⟨rfl,?_⟩)
    have ho:ai.k bg (((n:Int),b),1,((0:Int),([]:List Int)))=((dd (((n:Int),b),(0, []))).1,zB,(dd (((n:Int),b),(0, []))).2):=vu (.inl rfl)
    rw[lI (u:=(0, [])) hok rfl (by omega),show over 0 (bG ((0:Int),([]:List Int)))=0 from rfl,hun] at ho
    cases hov:(over 0 (unpack n b) != 0)
    ·rw[hov] at ho
     refine(ah (cJ (congrArg (fun z=>z.2.2) ho))).2 ?_
     refine(ah rfl).2 ((ah rfl).2 ((ah rfl).2 (af.2 ⟨rfl,?_⟩)))
     have l1:=dR (unpack n b) 2 3
     have l2:=dR (unpack n b) 5 8
     have e1:(ai.v .i64 (ai.k ay (((n:Int),b),5,8)).1)=((bq (unpack n b) 5 8:Nat):Int):=by rw[g2];exact hcv 5 8 (by decide)
     have e2:(ai.v .i64 (ai.k ay (((n:Int),b),2,3)).1)=((bq (unpack n b) 2 3:Nat):Int):=by rw[g1];exact hcv 2 3 (by decide)
     rw[e1,e2]
     have hfo:fx (1,0,(((bq (unpack n b) 5 8:Nat):Int),0,0,0,0),((bq (unpack n b) 2 3:Nat):Int), [])=true:=by
      rw[ji,lD];simp;omega
     have hch:ai.k mW (1,0,(((bq (unpack n b) 5 8:Nat):Int),0,0,0,0),((bq (unpack n b) 2 3:Nat):Int), [])=0:=by
      rw[ap,rP,hfo];rfl
     exact(ah (cJ hch)).2 (.ret _)
    ·rw[hov] at ho
     have e2:=congrArg (fun z=>z.2.2) ho
     refine(aj (eE (show(ai.k bg (((n:Int),b),1,((0:Int),([]:List Int)))).2.2≠0 from by rw[e2];exact(by decide:(21:Int)≠0)))).2 ?_
     exact bi (congrArg (fun z=>LT.ret (((0,0,(0,0,0,0,0),0,([]:List Int)):Int×Int×(Int×Int×Int×Int×Int)×Int×List Int),z)) e2) (.ret _)
   ·exact(aj (hz.trans hzz)).2 (.ret _)
  ·rw[Bool.not_eq_true] at hfit
   rw[jb (by rw[hlu,hk];exact hfit)]
   exact(aj (show ai.not (ai.k iN ((n:Int),1))=true by rw[cu,ap,hp1,hfit];rfl)).2 (.ret _)
 ·-- FrN
  rw[h0] at hk ⊢
  by_cases hfit:eF n 2=true
  ·have h29:=f2.1 hfit
   refine(ah (show ai.not (ai.k iN ((n:Int),2))=false by rw[cu,ap,hp2,hfit];rfl)).2 ((ah rfl).2 ((aj rfl).2 ?_))
   have g1:ai.k ay (((n:Int),b),2,3)=(((bq (unpack n b) 2 3:Nat):Int),0):=g 2 3 (by omega) (by decide)
   refine af.2 ⟨rfl,(ah (cJ (congrArg Prod.snd g1))).2 (af.2 ⟨rfl,?_⟩)⟩
   rw[ak,z7]
   dsimp only
   refine(ah rfl).2 (af.2 ⟨rfl,?_⟩)
   rw[Kd hk (by rw[hlu];exact hfit)]
   have hsb:ai.k nT (t,p,m,x,s)=(bO (bd (t,p,m,x,s)),0):=by rw[ap,nT,jG,hst];rfl
   have ho:ai.k bg (((n:Int),b),2,(ai.k nT (t,p,m,x,s)).1)=((dd (((n:Int),b),bO (bd (t,p,m,x,s)))).1,zB,(dd (((n:Int),b),bO (bd (t,p,m,x,s)))).2):=by
    rw[hsb];exact vu (.inr rfl)
   rw[lI hok (gP (by rw[nk];decide)) (by omega),fX,hun,hlu] at ho
   cases hov:(over (over 0 (bd (t,p,m,x,s))) (unpack n b) != 0)
   ·rw[hov] at ho
    have o1:=congrArg (fun z=>z.1) ho
    refine(ah (cJ (congrArg (fun z=>z.2.2) ho))).2 ((aj rfl).2 ?_)
    have e2:(ai.v .i64 (ai.k ay (((n:Int),b),2,3)).1)=((bq (unpack n b) 2 3:Nat):Int):=by rw[g1];exact hcv 2 3 (by decide)
    rw[e2]
    have hfl:((unpack n b).take (n-24)).length=n-24:=by rw[List.length_take,hlu];omega
    have hrest:=Hu (m:=n-24) (d:=(n-29)/8) (a:=5) (b:=pack ((unpack n b).take (n-24))) (by have:=gP (l:=(unpack n b).take (n-24)) (by omega);rwa [bO,hfl] at this) (by omega) (by omega) (by decide) ((n-29)/8) 0
     ⟨t,p,m,x,s,(ai.k bg (((n:Int),b),2,(ai.k nT (t,p,m,x,s)).1)).1.1,(ai.k bg (((n:Int),b),2,(ai.k nT (t,p,m,x,s)).1)).1.2,t,p,m,x,s,0,0,0,0,0,0,0,0,2,((bq (unpack n b) 2 3:Nat):Int),0,0,0,0,0,0,(ai.k bg (((n:Int),b),2,(ai.k nT (t,p,m,x,s)).1)).2.1.1,(ai.k bg (((n:Int),b),2,(ai.k nT (t,p,m,x,s)).1)).2.1.2⟩ 0 0 0 0 0 0 0 0
     (by show(ai.k bg (((n:Int),b),2,(ai.k nT (t,p,m,x,s)).1)).1.1=_;rw[o1];show(((unpack n b).take (n-24)).length:Int)=_;rw[hfl]) (by show(ai.k bg (((n:Int),b),2,(ai.k nT (t,p,m,x,s)).1)).1.2=_;rw[o1];rfl) rfl rfl rfl rfl rfl rfl (by omega) (by omega)
    rw[show unpack (n-24) (pack ((unpack n b).take (n-24)))=(unpack n b).take (n-24) from by have:=unpack_pack ((unpack n b).take (n-24));rwa [hfl] at this] at hrest
    refine Eq.mp (congrArg (aB (z7 ai) _) ?_) hrest
    have hdd:aV ((n-29)/8) (((unpack n b).take (n-24)).drop 5)=aV (((unpack n b).length-29)/8) ((unpack n b).drop 5):=by
     rw[hlu]
     exact qY (by omega) (by rw[hlu];omega)
    show(bif fx (2,((bq (unpack n b) 2 3:Nat):Int),(t,p,m,x,s),0,aV ((n-29)/8) (((unpack n b).take (n-24)).drop 5)) then((2,((bq (unpack n b) 2 3:Nat):Int),(t,p,m,x,s),0,aV ((n-29)/8) (((unpack n b).take (n-24)).drop 5)),0) else(dx,51))=_
    rw[hdd,cond_false]
    have hfo:fx (2,((bq (unpack n b) 2 3:Nat):Int),(t,p,m,x,s),0,aV (((unpack n b).length-29)/8) ((unpack n b).drop 5))=!decide (4<bq (unpack n b) 2 3):=by
     rw[Bool.eq_iff_iff,ji,hst,cX];simp;omega
    rw[hfo]
    cases decide (4<bq (unpack n b) 2 3)<;>rfl
   ·rw[hov] at ho
    have e2:=congrArg (fun z=>z.2.2) ho
    refine(aj (eE (show(ai.k bg (((n:Int),b),2,(ai.k nT (t,p,m,x,s)).1)).2.2≠0 from by rw[e2];exact(by decide:(21:Int)≠0)))).2 ?_
    exact bi (congrArg (fun z=>LT.ret (((0,0,(0,0,0,0,0),0,([]:List Int)):Int×Int×(Int×Int×Int×Int×Int)×Int×List Int),z)) e2) (.ret _)
  ·rw[Bool.not_eq_true] at hfit
   rw[jb (by rw[hlu,hk];exact hfit)]
   exact(aj (show ai.not (ai.k iN ((n:Int),2))=true by rw[cu,ap,hp2,hfit];rfl)).2 (.ret _)
 ·-- FrI
  rw[h0] at hk ⊢
  rw[show((2+1:Nat):Int)=3 from rfl]
  by_cases hfit:eF n 3=true
  ·have h54:=f3.1 hfit
   refine(ah (show ai.not (ai.k iN ((n:Int),3))=false by rw[cu,ap,hp3,hfit];rfl)).2 ((ah rfl).2 ((ah rfl).2 ?_))
   have g1:ai.k ay (((n:Int),b),2,3)=(((bq (unpack n b) 2 3:Nat):Int),0):=g 2 3 (by omega) (by decide)
   have g2:ai.k ay (((n:Int),b),5,(ai.b .sub .i64 3 2))=(((bq (unpack n b) 5 1:Nat):Int),0):=g 5 1 (by omega) (by decide)
   have e2:(ai.v .i64 (ai.k ay (((n:Int),b),2,3)).1)=((bq (unpack n b) 2 3:Nat):Int):=by rw[g1];exact hcv 2 3 (by decide)
   have hql:(((unpack n b).drop 6).take 24).length=24:=by rw[List.length_take,List.length_drop,hlu];omega
   refine af.2 ⟨rfl,(ah (cJ (congrArg Prod.snd g1))).2 ?_⟩
   repeat (first|refine eZ.2 ⟨⟨rfl,rfl⟩,?_⟩|refine eZ.2 ⟨rfl,?_⟩|refine af.2 ⟨rfl,?_⟩)
   refine(ah (cJ (congrArg Prod.snd g2))).2 ?_
   repeat (first|refine eZ.2 ⟨⟨rfl,rfl⟩,?_⟩|refine eZ.2 ⟨rfl,?_⟩|refine af.2 ⟨rfl,?_⟩)
   rw[ak,z7]
   dsimp only
   rw[Lp hk (by omega)]
   have hz:ai.c .neq (ai.v .i64 (ai.k ay (((n:Int),b),5,(ai.b .sub .i64 3 2))).1) 0=(bq (unpack n b) 5 1 != 0):=by
    rw[g2,hcv 5 1 (by decide),aQ,Bool.eq_iff_iff];simp
   cases hzz:(bq (unpack n b) 5 1 != 0)
   ·refine(ah (hz.trans hzz)).2 (af.2 ⟨rfl,?_⟩)
    have ho:ai.k bg (((n:Int),b),3,((0:Int),([]:List Int)))=_:=Ck hok h54
    cases hov:(over 0 (unpack n b) != 0)
    ·rw[hov,cond_false] at ho
     refine(ah (cJ (congrArg (fun z=>z.2.2) ho))).2 ((ah rfl).2 ((ah rfl).2 ((aj rfl).2 (af.2 ⟨rfl,?_⟩))))
     have hpz:ai.k gh (ai.k bg (((n:Int),b),3,((0:Int),([]:List Int)))).2.1=bif dX (eU (((unpack n b).drop 6).take 24)) then(eU (((unpack n b).drop 6).take 24),0) else(zS,40):=by
      rw[ho];exact rW hql
     cases hso:dX (eU (((unpack n b).drop 6).take 24))
     ·rw[hso] at hpz
      exact(aj (eE (show(ai.k gh (ai.k bg (((n:Int),b),3,((0:Int),([]:List Int)))).2.1).2≠0 from by rw[hpz];exact(by decide:(40:Int)≠0)))).2 (.ret _)
     ·rw[hso,cond_true] at hpz
      refine(ah (cJ (congrArg Prod.snd hpz))).2 (af.2 ⟨rfl,?_⟩)
      rw[e2,hpz]
      have hfo:fx (3,((bq (unpack n b) 2 3:Nat):Int),eU (((unpack n b).drop 6).take 24),0, [])=!decide (4<bq (unpack n b) 2 3):=by
       have hso':=hso
       rw[eU] at hso' ⊢
       rw[Bool.eq_iff_iff,ji,hso'];simp;omega
      have hch:ai.k mW (3,((bq (unpack n b) 2 3:Nat):Int),eU (((unpack n b).drop 6).take 24),0, [])=bif !decide (4<bq (unpack n b) 2 3) then 0 else 50:=by
       rw[←hfo];exact rP
      cases hd:decide (4<bq (unpack n b) 2 3)
      ·rw[hd] at hch
       exact(ah (cJ hch)).2 (.ret _)
      ·rw[hd] at hch
       exact(aj (eE (show ai.k mW (3,((bq (unpack n b) 2 3:Nat):Int),eU (((unpack n b).drop 6).take 24),0, [])≠0 from by rw[hch];exact(by decide:(50:Int)≠0)))).2 (.ret _)
    ·rw[hov,cond_true] at ho
     have e3:=congrArg (fun z=>z.2.2) ho
     refine(aj (eE (show(ai.k bg (((n:Int),b),3,((0:Int),([]:List Int)))).2.2≠0 from by rw[e3];exact(by decide:(21:Int)≠0)))).2 ?_
     exact bi (congrArg (fun z=>LT.ret (((0,0,(0,0,0,0,0),0,([]:List Int)):Int×Int×(Int×Int×Int×Int×Int)×Int×List Int),z)) e3) (.ret _)
   ·exact(aj (hz.trans hzz)).2 (.ret _)
  ·rw[Bool.not_eq_true] at hfit
   rw[jb (by rw[hlu,hk];exact hfit)]
   exact(aj (show ai.not (ai.k iN ((n:Int),3))=true by rw[cu,ap,hp3,hfit];rfl)).2 (.ret _)
 ·-- FrX
  rw[h0] at hk ⊢
  rw[show((3+1:Nat):Int)=4 from rfl]
  by_cases hfit:eF n 4=true
  ·have h79:=f4.1 hfit
   refine(ah (show ai.not (ai.k iN ((n:Int),4))=false by rw[cu,ap,hp4,hfit];rfl)).2 ((ah rfl).2 ((ah rfl).2 ?_))
   have g1:ai.k ay (((n:Int),b),2,3)=(((bq (unpack n b) 2 3:Nat):Int),0):=g 2 3 (by omega) (by decide)
   have g2:ai.k ay (((n:Int),b),5,(ai.b .sub .i64 4 2))=(((bq (unpack n b) 5 2:Nat):Int),0):=g 5 2 (by omega) (by decide)
   have e2:(ai.v .i64 (ai.k ay (((n:Int),b),2,3)).1)=((bq (unpack n b) 2 3:Nat):Int):=by rw[g1];exact hcv 2 3 (by decide)
   have hql:(((unpack n b).drop 7).take 24).length=24:=by rw[List.length_take,List.length_drop,hlu];omega
   refine af.2 ⟨rfl,(ah (cJ (congrArg Prod.snd g1))).2 ?_⟩
   repeat (first|refine eZ.2 ⟨⟨rfl,rfl⟩,?_⟩|refine eZ.2 ⟨rfl,?_⟩|refine af.2 ⟨rfl,?_⟩)
   refine(ah (cJ (congrArg Prod.snd g2))).2 ?_
   repeat (first|refine eZ.2 ⟨⟨rfl,rfl⟩,?_⟩|refine eZ.2 ⟨rfl,?_⟩|refine af.2 ⟨rfl,?_⟩)
   rw[ak,z7]
   dsimp only
   rw[Ng hk (by rw[hlu];exact hfit)]
   have hz:ai.c .neq (ai.v .i64 (ai.k ay (((n:Int),b),5,(ai.b .sub .i64 4 2))).1) 0=(bq (unpack n b) 5 2 != 0):=by
    rw[g2,hcv 5 2 (by decide),aQ,Bool.eq_iff_iff];simp
   cases hzz:(bq (unpack n b) 5 2 != 0)
   ·refine(ah (hz.trans hzz)).2 (af.2 ⟨rfl,?_⟩)
    have ho:ai.k bg (((n:Int),b),4,((0:Int),([]:List Int)))=_:=CH hok h79.1 h79.2.1
    cases hov:(over 0 ((unpack n b).take 55) != 0)
    ·cases hov2:(over (over 0 (((unpack n b).drop 7).take 24)) (unpack n b) != 0)
     ·rw[hov,cond_false,hov2,cond_false] at ho
      have o1:=congrArg (fun z=>z.1) ho
      have o2:=congrArg (fun z=>z.2.1) ho
      refine(ah (cJ (congrArg (fun z=>z.2.2) ho))).2 ((ah rfl).2 ((aj rfl).2 ?_))
      rw[e2]
      have hfl:((unpack n b).take (n-24)).length=n-24:=by rw[List.length_take,hlu];omega
      have hrest:=GV (m:=n-24) (d:=(n-79)/8) (a:=55) (b:=pack ((unpack n b).take (n-24))) (by have:=gP (l:=(unpack n b).take (n-24)) (by omega);rwa [bO,hfl] at this) (by omega) (by omega) (by decide) ((n-79)/8) 0
       ⟨(ai.k bg (((n:Int),b),4,((0:Int),([]:List Int)))).1.1,(ai.k bg (((n:Int),b),4,((0:Int),([]:List Int)))).1.2,t,p,m,x,s,0,0,0,0,0,0,0,0,4,((bq (unpack n b) 2 3:Nat):Int),0,0,0,0,0,0,(ai.k bg (((n:Int),b),4,((0:Int),([]:List Int)))).2.1.1,(ai.k bg (((n:Int),b),4,((0:Int),([]:List Int)))).2.1.2⟩ 0 0 0 0 0 0 0 0
       (by show(ai.k bg (((n:Int),b),4,((0:Int),([]:List Int)))).1.1=_;rw[o1];show(((unpack n b).take (n-24)).length:Int)=_;rw[hfl]) (by show(ai.k bg (((n:Int),b),4,((0:Int),([]:List Int)))).1.2=_;rw[o1];rfl) rfl (by omega) (by omega)
      rw[show unpack (n-24) (pack ((unpack n b).take (n-24)))=(unpack n b).take (n-24) from by have:=unpack_pack ((unpack n b).take (n-24));rwa [hfl] at this] at hrest
      refine Eq.mp (congrArg (aB (z7 ai) _) ?_) hrest
      have hdd:aV ((n-79)/8) (((unpack n b).take (n-24)).drop 55)=aV (((unpack n b).length-79)/8) ((unpack n b).drop 55):=by
       rw[hlu]
       exact qY (by omega) (by rw[hlu];omega)
      have hpz:dI ((ai.k bg (((n:Int),b),4,((0:Int),([]:List Int)))).2.1.1,(ai.k bg (((n:Int),b),4,((0:Int),([]:List Int)))).2.1.2)=bif dX (eU (((unpack n b).drop 7).take 24)) then(eU (((unpack n b).drop 7).take 24),0) else(zS,40):=by
       rw[o2];exact rW hql
      show(bif (dI ((ai.k bg (((n:Int),b),4,((0:Int),([]:List Int)))).2.1.1,(ai.k bg (((n:Int),b),4,((0:Int),([]:List Int)))).2.1.2)).2 != 0 then(dx,51) else bif fx (4,((bq (unpack n b) 2 3:Nat):Int),(dI ((ai.k bg (((n:Int),b),4,((0:Int),([]:List Int)))).2.1.1,(ai.k bg (((n:Int),b),4,((0:Int),([]:List Int)))).2.1.2)).1,0,aV ((n-79)/8) (((unpack n b).take (n-24)).drop 55)) then((4,((bq (unpack n b) 2 3:Nat):Int),(dI ((ai.k bg (((n:Int),b),4,((0:Int),([]:List Int)))).2.1.1,(ai.k bg (((n:Int),b),4,((0:Int),([]:List Int)))).2.1.2)).1,0,aV ((n-79)/8) (((unpack n b).take (n-24)).drop 55)),0) else(dx,51))=_
      rw[hpz,hdd,Bool.or_false,cond_false,cond_false]
      cases hso:dX (eU (((unpack n b).drop 7).take 24))
      ·rfl
      ·have hfo:fx (4,((bq (unpack n b) 2 3:Nat):Int),eU (((unpack n b).drop 7).take 24),0,aV (((unpack n b).length-79)/8) ((unpack n b).drop 55))=!decide (4<bq (unpack n b) 2 3):=by
        have hso':=hso
        rw[eU] at hso' ⊢
        rw[Bool.eq_iff_iff,ji,hso',cX];simp;omega
       rw[cond_true,hfo]
       cases decide (4<bq (unpack n b) 2 3)<;>rfl
     ·rw[hov,cond_false,hov2,cond_true] at ho
      have e3:=congrArg (fun z=>z.2.2) ho
      refine(aj (eE (show(ai.k bg (((n:Int),b),4,((0:Int),([]:List Int)))).2.2≠0 from by rw[e3];exact(by decide:(21:Int)≠0)))).2 ?_
      exact bi (congrArg (fun z=>LT.ret (((0,0,(0,0,0,0,0),0,([]:List Int)):Int×Int×(Int×Int×Int×Int×Int)×Int×List Int),z)) e3) (.ret _)
    ·rw[hov,cond_true] at ho
     have e3:=congrArg (fun z=>z.2.2) ho
     refine(aj (eE (show(ai.k bg (((n:Int),b),4,((0:Int),([]:List Int)))).2.2≠0 from by rw[e3];exact(by decide:(21:Int)≠0)))).2 ?_
     exact bi (congrArg (fun z=>LT.ret (((0,0,(0,0,0,0,0),0,([]:List Int)):Int×Int×(Int×Int×Int×Int×Int)×Int×List Int),z)) e3) (.ret _)
   ·exact(aj (hz.trans hzz)).2 (.ret _)
  ·rw[Bool.not_eq_true] at hfit
   rw[jb (by rw[hlu,hk];exact hfit)]
   exact(aj (show ai.not (ai.k iN ((n:Int),4))=true by rw[cu,ap,hp4,hfit];rfl)).2 (.ret _)
def DT:((Int×List Int)×(Int×Int×Int×Int×Int))→((Int×Int×(Int×Int×Int×Int×Int)×Int×List Int)×Int):=nG
def XT:aA:=⟨[(.struct [yI,yB]),(.struct [yI,yI,yI,yI,yI])], [(.struct [yI,yI,(.struct [yI,yI,yI,yI,yI]),yI,yB]),yI],(@tt ((Int×List Int)×(Int×Int×Int×Int×Int))),DT⟩
theorem V5:Sd 206 XT:=aH ax cm false 298 [⟨235,3, [[0,3,4], [3,4,8,12,97,100]]⟩] [⟨206,19, [[2,3,4,7,8,9,10]]⟩] (fun A ((bN,bB),cTime,cPos,cMode,cNext,cMember)=>t50 A bN bB cTime cPos cMode cNext cMember) z7 TT (fc Tryz.func206 (fc Tryz.func231 (fc Tryz.func235 fz))) (sc XK (sc yS (sc Ye (sc zW (sc PE (sc Sn (sc U1 (sc Bn sz)))))))) (fun A y=>match y with |.c0 p=>⟨116,zf (by kernel_rfl)⟩|.c1 p=>⟨116,zf (by kernel_rfl)⟩|.c2 p c0 c8 c9 c10 c11 c12 c13 c14 kZ c16=>⟨92,zf (by kernel_rfl)⟩|.c3 p d0 d3 d4 d5 d6 d7 d8 d9 mD mQ=>⟨92,zf (by kernel_rfl)⟩) fun((bN,bB),cTime,cPos,cMode,cNext,cMember) hp h=>Lv h
open Go.Ev.Pl
def t51(A:aZ)(bN:Int)(bB:List Int):LT ((Int×Int×(Int×Int×Int×Int×Int)×Int×List Int)×Bool) Empty:=.need (A.k (@tt ((Int×List Int)×(Int×Int×Int×Int×Int))) ((bN,bB),0,0,0,0,0)) (.br (A.c .neq (A.k DT ((bN,bB),0,0,0,0,0)).2 0) (.ret ((0,0,(0,0,0,0,0),0,([]:List Int)),false)) (.br (A.c .eql (A.k DT ((bN,bB),0,0,0,0,0)).1.1 2) (.ret ((0,0,(0,0,0,0,0),0,([]:List Int)),false)) (.ret ((A.k DT ((bN,bB),0,0,0,0,0)).1,true))))
def w6:((Int×List Int))→((Int×Int×(Int×Int×Int×Int×Int)×Int×List Int)×Bool):=fun(bN,bB)=>(t51 ai bN bB).val (Ty.cn [(.struct [yI,yI,(.struct [yI,yI,yI,yI,yI]),yI,yB]),.bool])
def XX:aA:=⟨[(.struct [yI,yB])], [(.struct [yI,yI,(.struct [yI,yI,yI,yI,yI]),yI,yB]),.bool],(@tt ((Int×List Int))),w6⟩
theorem V8:Sd 193 XX:=aL ax cm true 43 [] (fun A (bN,bB)=>t51 A bN bB) (fc Tryz.func193 fz) (sc V5 sz) (fun((bN,bB):(Int×List Int)) hp h=>by
 show(t51 ai bN bB).pre=true
 simp[t51,LT.pre,ap,dc])
theorem I4{b:Int×List Int}:w6 b=jv b:=by
 obtain⟨bn,bb⟩:=b
 simp only[w6,t51,LT.val,jv,ap,aQ,aS,DT]
 show(bif (nG ((bn,bb),zS)).2 != 0 then(dx,false) else bif (nG ((bn,bb),zS)).1.1==2 then(dx,false) else((nG ((bn,bb),zS)).1,true))=_
 cases (nG ((bn,bb),zS)).2 != 0<;>cases (nG ((bn,bb),zS)).1.1==2<;>rfl
theorem nZ{l u:List Bool}(hl:l.length+24≤4096)(hu:u.length≤4096):yL (bO l,bO u)=(bO (dq (over 0 u) l),0):=by
 rw[yL]
 show(bif bD (bO u)&&bD (bO l) then uh (dq (over 0 (bG (bO u))) (bG (bO l))) else(zB,10))=_
 rw[gP hu,gP (l:=l) (by omega),fX,fX,p_ (by rw[ky];omega)]
 rfl
theorem AU{l u:List Bool}(h:l.length+u.length≤4096):vB [bO l,bO u]=(bO (l++u),0):=by
 rw[vB]
 show(bif (bD (bO l)&&(bD (bO u)&&true)) then uh (bG (bO l)++(bG (bO u) ++ [])) else(zB,10))=_
 rw[gP (l:=l) (by omega),gP (l:=u) (by omega),fX,fX,List.append_nil,p_ (by rw[List.length_append];exact h)]
 rfl
theorem Et{k r t p m n s fr:Int}{d:List Int}(h:Ty.du [.struct [(.int .i64),(.int .i64),(.struct [(.int .i64),(.int .i64),(.int .i64),(.int .i64),(.int .i64)]),(.int .i64),(.slice (.int .u8))]] (k,r,(t,p,m,n,s),fr,d)):bI d:=by
 have h2:d.length≤cO∧∀x∈d,0≤x∧x≤255:=h.2.2.2.2
 exact h2.2
end Go.Ev.M
