/-
  PROVED: what frame.Parse, Good and Explicit compute. Conditions: none.
-/
import Derived.Test.YtjceiokllpmnkaaGreatFb
namespace Go.Ev.M
open Go.Proofs
set_option maxRecDepth 100000
set_option linter.unusedVariables false
set_option linter.unusedSimpArgs false
open Go.Ev.Pl
structure NC where
 (a0 a1:Int) (a2:List Int) (a3 a4 a5 a6 a7 a8 a9 fw jK a12 wi pq pu a16:Int) (a17:List Int) (qE kZ a20 a21 a22 a23 a24 a25 a26 a27:Int)
structure Sp where
 (b0 b1:Int) (b2:List Int) (b3 b4 b5 b6 b7 b8 b9 b10 b11 b12 b13 vW wW cZ:Int) (kh:List Int) (zd kl lz lg lm qd qj qi nS lC:Int) (lu:List Int)
structure IL where
 (c1 c2 c3 c4 c5 c6:Int) (c7:List Int) (C8 ES c19 c20 c21 IN c23 c24 UI UM UK c28 UQ za c31 c32 US c34 UL UR c37 UT:Int) (UP:List Int)
structure Jc where
 (d1:Int) (d2:List Int) (ZA ZR ZG rO Am ZU ZN ZL Zq ZB Zp Zw ZD BB BK Zx ZW ZV Zz ZC BE xC:Int) (xh:List Int)
inductive IW where
 | c0 (p:NC)
 | c1 (p:Sp)
 | c2 (p:IL) (c0:Int) (c8:Int) (c9:Int) (c10:Int) (c11:Int) (c12:Int) (c13:Int) (c14:Int) (iQ:Int) (c16:Int)
 | c3 (p:Jc) (d0:Int) (d3:Int) (d4:Int) (d5:Int) (d6:Int) (d7:Int) (d8:Int) (d9:Int) (d10:Int) (d11:Int)
noncomputable def Pv:IW→ei
 | .c0 p=>⟨[⟨179,122,(en [(2,.ptr 0 0),(3,.ptr 1 0),(4,.ptr 2 0),(7,.ptr 3 0),(8,.ptr 4 0),(9,.ptr 5 0),(10,vi p.a0)]),[.code (cw Tryz.f179 [1,1,1,1,1,1,1,1,1,0,0]),.code (cw Tryz.f179 [1,1,1,1,1,1,1,1,1,0,1]),.code (cw Tryz.f179 [1,1,1,1,1,1,1,1,1,1])],[],none⟩],[.flat false [vi p.a1,.sl yU p.a2],.flat false [vi p.a3,vi p.a4,vi p.a5,vi p.a6,vi p.a7],.flat false [vi p.a8,vi p.a9,vi p.fw,vi p.jK,vi p.a12,vi p.wi,vi p.pq,vi p.pu,.bd true],.flat false [vi p.a16,.sl yU p.a17,vi p.qE],.flat false [vi p.kZ,vi p.a20,vi p.a21,vi p.a22,vi p.a23,vi p.a24,vi p.a25,vi p.a26,.bd true],.flat false [vi p.a27,.bd true],.dead]⟩
 | .c1 p=>⟨[⟨179,122,(en [(2,.ptr 0 0),(3,.ptr 1 0),(4,.ptr 2 0),(7,.ptr 3 0),(8,.ptr 4 0),(9,.ptr 5 0),(10,vi p.b0)]),[.code (cw Tryz.f179 [1,1,1,1,1,1,1,1,1,0,0]),.code (cw Tryz.f179 [1,1,1,1,1,1,1,1,1,0,1]),.code (cw Tryz.f179 [1,1,1,1,1,1,1,1,1,1])],[],none⟩],[.flat false [vi p.b1,.sl yU p.b2],.flat false [vi p.b3,vi p.b4,vi p.b5,vi p.b6,vi p.b7],.flat false [vi p.b8,vi p.b9,vi p.b10,vi p.b11,vi p.b12,vi p.b13,vi p.vW,vi p.wW,.bd true],.flat false [vi p.cZ,.sl yU p.kh,vi p.zd],.flat false [vi p.kl,vi p.lz,vi p.lg,vi p.lm,vi p.qd,vi p.qj,vi p.qi,vi p.nS,.bd true],.flat false [vi p.lC,.sl yU p.lu],.dead]⟩
 | .c2 p c0 c8 c9 c10 c11 c12 c13 c14 iQ c16=>⟨[⟨241,34,(en [(0,.ptr 0 0),(3,.ptr 1 0),(4,vi c0)]),[.inLoop (cw Tryz.f241 [1,1,1,0,0,0]),.inBlock 0,.code (cw Tryz.f241 [1,1,1,1])],[],none⟩,⟨179,122,(en [(3,.ptr 2 0),(4,.ptr 3 0),(8,.ptr 4 0),(12,.ptr 5 0),(97,.agg [vi p.c1,vi p.c2,vi p.c3,vi p.c4,vi p.c5]),(100,.ptr 4 2)]),[.iW (ow Tryz.f179 [1,1,1,1,1,1,1,1,1,1,1,1,1,0,1,0,0,0,0,0,1,0]) [0,0,2,1,15,31,63] 2 [4,5,6] [3,0],.code (.exit 1),.inBlock 3,.code (cw Tryz.f179 [1,1,1,1,1,1,1,1,1,1,1,1,1,0,1,0,0,0,1]),.inBlock 4,.code (cw Tryz.f179 [1,1,1,1,1,1,1,1,1,1,1,1,1,0,1,0,1]),.inBlock 1,.code (cw Tryz.f179 [1,1,1,1,1,1,1,1,1,1,1,1,1,1])],[],none⟩],[.flat false [vi p.c6,.sl yU p.c7,vi c8],.flat false [.int .u8 false c9,.int .u8 false c10,.int .u8 false c11,.int .u8 false c12,.int .u8 false c13,.int .u8 false c14,.int .u8 false iQ,.int .u8 false c16],.flat false [vi p.C8,vi p.ES,vi p.c19,vi p.c20,vi p.c21],.flat false [vi p.IN,vi p.c23,vi p.c24,vi p.UI,vi p.UM,vi p.UK,vi p.c28,vi p.UQ,.bd true],.flat false [vi p.za,vi p.c31,vi p.c32,vi p.US,vi p.c34,vi p.UL,vi p.UR,vi p.c37,.bd true],.flat false [vi p.UT,.sl yU p.UP],.dead]⟩
 | .c3 p d0 d3 d4 d5 d6 d7 d8 d9 d10 d11=>⟨[⟨241,34,(en [(0,.ptr 0 0),(3,.ptr 1 0),(4,vi d0)]),[.inLoop (cw Tryz.f241 [1,1,1,0,0,0]),.inBlock 0,.code (cw Tryz.f241 [1,1,1,1])],[],none⟩,⟨179,122,(en [(3,.ptr 2 0),(4,.ptr 3 0),(8,.ptr 4 0),(12,.ptr 5 0),(97,.undef),(100,.undef)]),[.ops (ow Tryz.f179 [1,1,1,1,1,1,1,1,1,1,1,1,1,0,1,0,0,0,1,1]) ((ow Tryz.f179 [1,1,1,1,1,1,1,1,1,1,1,1,1,0,1,0,0,0,1,1]).toList.drop 1),.inBlock 4,.code (cw Tryz.f179 [1,1,1,1,1,1,1,1,1,1,1,1,1,0,1,0,1]),.inBlock 1,.code (cw Tryz.f179 [1,1,1,1,1,1,1,1,1,1,1,1,1,1])],[],none⟩],[.flat false [vi p.d1,.sl yU p.d2,vi d3],.flat false [.int .u8 false d4,.int .u8 false d5,.int .u8 false d6,.int .u8 false d7,.int .u8 false d8,.int .u8 false d9,.int .u8 false d10,.int .u8 false d11],.flat false [vi p.ZA,vi p.ZR,vi p.ZG,vi p.rO,vi p.Am],.flat false [vi p.ZU,vi p.ZN,vi p.ZL,vi p.Zq,vi p.ZB,vi p.Zp,vi p.Zw,vi p.ZD,.bd true],.flat false [vi p.BB,vi p.BK,vi p.Zx,vi p.ZW,vi p.ZV,vi p.Zz,vi p.ZC,vi p.BE,.bd true],.flat false [vi p.xC,.sl yU p.xh],.dead]⟩
def t50(A:bK)(bN:Int)(bB:List Int)(cTime:Int)(cPos:Int)(cMode:Int)(cNext:Int)(cMember:Int):LT ((Int×Int×(Int×Int×Int×Int×Int)×Int×List Int)×Int) IW:=.need (A.k (@tt ((Int×List Int))) (bN,bB)) (.br (A.c .neq (A.k gZ (bN,bB)) 0) (.ret ((0,0,(0,0,0,0,0),0,([]:List Int)),(A.k gZ (bN,bB)))) (.need (A.k (@tt ((Int×Int×Int×Int×Int)×Int)) ((cTime,cPos,cMode,cNext,cMember),8)) (.br (A.c .neq (A.k j6 ((cTime,cPos,cMode,cNext,cMember),8)) 0) (.ret ((0,0,(0,0,0,0,0),0,([]:List Int)),40)) (.need (A.k (@tt ((Int×List Int)×Int×Int)) ((bN,bB),0,2)) (.br (A.c .neq (A.k au ((bN,bB),0,2)).2 0) (.need (A.k (@tt (Int×Int)) (bN,1)) (.br (A.not (A.k iT (bN,1))) (.ret ((0,0,(0,0,0,0,0),0,([]:List Int)),51)) (.need (A.k (@tt ((Int×List Int)×Int×Int)) ((bN,bB),0,3)) (.br (A.c .neq (A.k au ((bN,bB),0,3)).2 0) (.need (A.k (@tt ((Int×List Int)×Int×Int)) ((bN,bB),0,8)) (.br (A.c .neq (A.k au ((bN,bB),0,8)).2 0) (.need (A.k (@tt ((Int×List Int)×Int×Int)) ((bN,bB),0,3)) (.br (A.c .neq (A.k au ((bN,bB),0,3)).2 0) (.more (.c0 ⟨0,bN,bB,cTime,cPos,cMode,cNext,cMember,0,0,0,0,0,0,0,0,bN,bB,0,1,0,0,0,0,0,0,0,0⟩)) (.more (.c0 ⟨(A.v .i64 (A.k au ((bN,bB),0,3)).1),bN,bB,cTime,cPos,cMode,cNext,cMember,0,0,0,0,0,0,0,0,bN,bB,3,1,0,0,0,0,0,0,0,0⟩)))) (.need (A.k (@tt ((Int×List Int)×Int×Int)) ((bN,bB),8,3)) (.br (A.c .neq (A.k au ((bN,bB),8,3)).2 0) (.more (.c0 ⟨0,bN,bB,cTime,cPos,cMode,cNext,cMember,0,0,0,0,0,0,0,0,bN,bB,8,1,0,(A.v .i64 (A.k au ((bN,bB),0,8)).1),0,0,0,0,0,0⟩)) (.more (.c0 ⟨(A.v .i64 (A.k au ((bN,bB),8,3)).1),bN,bB,cTime,cPos,cMode,cNext,cMember,0,0,0,0,0,0,0,0,bN,bB,11,1,0,(A.v .i64 (A.k au ((bN,bB),0,8)).1),0,0,0,0,0,0⟩)))))) (.need (A.k (@tt ((Int×List Int)×Int×Int)) ((bN,bB),3,8)) (.br (A.c .neq (A.k au ((bN,bB),3,8)).2 0) (.need (A.k (@tt ((Int×List Int)×Int×Int)) ((bN,bB),3,3)) (.br (A.c .neq (A.k au ((bN,bB),3,3)).2 0) (.more (.c0 ⟨0,bN,bB,cTime,cPos,cMode,cNext,cMember,0,0,0,0,0,0,0,0,bN,bB,3,1,0,0,0,0,0,0,(A.v .i64 (A.k au ((bN,bB),0,3)).1),0⟩)) (.more (.c0 ⟨(A.v .i64 (A.k au ((bN,bB),3,3)).1),bN,bB,cTime,cPos,cMode,cNext,cMember,0,0,0,0,0,0,0,0,bN,bB,6,1,0,0,0,0,0,0,(A.v .i64 (A.k au ((bN,bB),0,3)).1),0⟩)))) (.need (A.k (@tt ((Int×List Int)×Int×Int)) ((bN,bB),11,3)) (.br (A.c .neq (A.k au ((bN,bB),11,3)).2 0) (.more (.c0 ⟨0,bN,bB,cTime,cPos,cMode,cNext,cMember,0,0,0,0,0,0,0,0,bN,bB,11,1,0,(A.v .i64 (A.k au ((bN,bB),3,8)).1),0,0,0,0,(A.v .i64 (A.k au ((bN,bB),0,3)).1),0⟩)) (.more (.c0 ⟨(A.v .i64 (A.k au ((bN,bB),11,3)).1),bN,bB,cTime,cPos,cMode,cNext,cMember,0,0,0,0,0,0,0,0,bN,bB,14,1,0,(A.v .i64 (A.k au ((bN,bB),3,8)).1),0,0,0,0,(A.v .i64 (A.k au ((bN,bB),0,3)).1),0⟩)))))))))) (.need (A.k (@tt (Int×Int)) (bN,(A.b .add .i64 (A.v .i64 (A.k au ((bN,bB),0,2)).1) 1))) (.br (A.not (A.k iT (bN,(A.b .add .i64 (A.v .i64 (A.k au ((bN,bB),0,2)).1) 1)))) (.ret ((0,0,(0,0,0,0,0),0,([]:List Int)),51)) (.br (A.c .eql (A.b .add .i64 (A.v .i64 (A.k au ((bN,bB),0,2)).1) 1) 1) (.need (A.k (@tt ((Int×List Int)×Int×Int)) ((bN,bB),2,3)) (.br (A.c .neq (A.k au ((bN,bB),2,3)).2 0) (.need (A.k (@tt ((Int×List Int)×Int×Int)) ((bN,bB),2,8)) (.br (A.c .neq (A.k au ((bN,bB),2,8)).2 0) (.need (A.k (@tt ((Int×List Int)×Int×Int)) ((bN,bB),2,3)) (.br (A.c .neq (A.k au ((bN,bB),2,3)).2 0) (.more (.c0 ⟨0,bN,bB,cTime,cPos,cMode,cNext,cMember,0,0,0,0,0,0,0,0,bN,bB,2,(A.b .add .i64 (A.v .i64 (A.k au ((bN,bB),0,2)).1) 1),0,0,0,0,0,0,0,0⟩)) (.more (.c0 ⟨(A.v .i64 (A.k au ((bN,bB),2,3)).1),bN,bB,cTime,cPos,cMode,cNext,cMember,0,0,0,0,0,0,0,0,bN,bB,5,(A.b .add .i64 (A.v .i64 (A.k au ((bN,bB),0,2)).1) 1),0,0,0,0,0,0,0,0⟩)))) (.need (A.k (@tt ((Int×List Int)×Int×Int)) ((bN,bB),10,3)) (.br (A.c .neq (A.k au ((bN,bB),10,3)).2 0) (.more (.c0 ⟨0,bN,bB,cTime,cPos,cMode,cNext,cMember,0,0,0,0,0,0,0,0,bN,bB,10,(A.b .add .i64 (A.v .i64 (A.k au ((bN,bB),0,2)).1) 1),0,(A.v .i64 (A.k au ((bN,bB),2,8)).1),0,0,0,0,0,0⟩)) (.more (.c0 ⟨(A.v .i64 (A.k au ((bN,bB),10,3)).1),bN,bB,cTime,cPos,cMode,cNext,cMember,0,0,0,0,0,0,0,0,bN,bB,13,(A.b .add .i64 (A.v .i64 (A.k au ((bN,bB),0,2)).1) 1),0,(A.v .i64 (A.k au ((bN,bB),2,8)).1),0,0,0,0,0,0⟩)))))) (.need (A.k (@tt ((Int×List Int)×Int×Int)) ((bN,bB),5,8)) (.br (A.c .neq (A.k au ((bN,bB),5,8)).2 0) (.need (A.k (@tt ((Int×List Int)×Int×Int)) ((bN,bB),5,3)) (.br (A.c .neq (A.k au ((bN,bB),5,3)).2 0) (.more (.c0 ⟨0,bN,bB,cTime,cPos,cMode,cNext,cMember,0,0,0,0,0,0,0,0,bN,bB,5,(A.b .add .i64 (A.v .i64 (A.k au ((bN,bB),0,2)).1) 1),0,0,0,0,0,0,(A.v .i64 (A.k au ((bN,bB),2,3)).1),0⟩)) (.more (.c0 ⟨(A.v .i64 (A.k au ((bN,bB),5,3)).1),bN,bB,cTime,cPos,cMode,cNext,cMember,0,0,0,0,0,0,0,0,bN,bB,8,(A.b .add .i64 (A.v .i64 (A.k au ((bN,bB),0,2)).1) 1),0,0,0,0,0,0,(A.v .i64 (A.k au ((bN,bB),2,3)).1),0⟩)))) (.need (A.k (@tt ((Int×List Int)×Int×Int)) ((bN,bB),13,3)) (.br (A.c .neq (A.k au ((bN,bB),13,3)).2 0) (.more (.c0 ⟨0,bN,bB,cTime,cPos,cMode,cNext,cMember,0,0,0,0,0,0,0,0,bN,bB,13,(A.b .add .i64 (A.v .i64 (A.k au ((bN,bB),0,2)).1) 1),0,(A.v .i64 (A.k au ((bN,bB),5,8)).1),0,0,0,0,(A.v .i64 (A.k au ((bN,bB),2,3)).1),0⟩)) (.more (.c0 ⟨(A.v .i64 (A.k au ((bN,bB),13,3)).1),bN,bB,cTime,cPos,cMode,cNext,cMember,0,0,0,0,0,0,0,0,bN,bB,16,(A.b .add .i64 (A.v .i64 (A.k au ((bN,bB),0,2)).1) 1),0,(A.v .i64 (A.k au ((bN,bB),5,8)).1),0,0,0,0,(A.v .i64 (A.k au ((bN,bB),2,3)).1),0⟩)))))))) (.br (A.c .eql (A.b .add .i64 (A.v .i64 (A.k au ((bN,bB),0,2)).1) 1) 2) (.need (A.k (@tt ((Int×List Int)×Int×Int)) ((bN,bB),2,3)) (.br (A.c .neq (A.k au ((bN,bB),2,3)).2 0) (.need (A.k (@tt ((Int×Int×Int×Int×Int))) (cTime,cPos,cMode,cNext,cMember)) (.more (.c1 ⟨0,bN,bB,cTime,cPos,cMode,cNext,cMember,0,0,0,0,0,0,0,0,bN,bB,2,(A.b .add .i64 (A.v .i64 (A.k au ((bN,bB),0,2)).1) 1),0,0,0,0,0,0,0,(A.k ao (cTime,cPos,cMode,cNext,cMember)).1.1,(A.k ao (cTime,cPos,cMode,cNext,cMember)).1.2⟩))) (.need (A.k (@tt ((Int×Int×Int×Int×Int))) (cTime,cPos,cMode,cNext,cMember)) (.more (.c1 ⟨0,bN,bB,cTime,cPos,cMode,cNext,cMember,0,0,0,0,0,0,0,0,bN,bB,5,(A.b .add .i64 (A.v .i64 (A.k au ((bN,bB),0,2)).1) 1),(A.v .i64 (A.k au ((bN,bB),2,3)).1),0,0,0,0,0,0,(A.k ao (cTime,cPos,cMode,cNext,cMember)).1.1,(A.k ao (cTime,cPos,cMode,cNext,cMember)).1.2⟩))))) (.need (A.k (@tt ((Int×List Int)×Int×Int)) ((bN,bB),2,3)) (.br (A.c .neq (A.k au ((bN,bB),2,3)).2 0) (.eqs (IntKind.i64=IntKind.i64∧((A.b .sub .i64 (A.b .add .i64 (A.v .i64 (A.k au ((bN,bB),0,2)).1) 1) 2):Int)=(A.b .sub .i64 (A.b .add .i64 (A.v .i64 (A.k au ((bN,bB),0,2)).1) 1) 2)) (.eqs (IntKind.i64=IntKind.i64∧((A.b .add .i64 (A.v .i64 (A.k au ((bN,bB),0,2)).1) 1):Int)=(A.b .add .i64 (A.v .i64 (A.k au ((bN,bB),0,2)).1) 1)) (.eqs ((.ptr 4 0:AV)=.ptr 4 0) (.eqs ((.ptr 3 0:AV)=.ptr 3 0) (.need (A.k (@tt ((Int×List Int)×Int×Int)) ((bN,bB),2,(A.b .sub .i64 (A.b .add .i64 (A.v .i64 (A.k au ((bN,bB),0,2)).1) 1) 2))) (.br (A.c .neq (A.k au ((bN,bB),2,(A.b .sub .i64 (A.b .add .i64 (A.v .i64 (A.k au ((bN,bB),0,2)).1) 1) 2))).2 0) (.eqs ((.ptr 4 1:AV)=.ptr 4 1) (.more (.c0 ⟨0,bN,bB,cTime,cPos,cMode,cNext,cMember,0,0,0,0,0,0,0,0,bN,bB,2,(A.b .add .i64 (A.v .i64 (A.k au ((bN,bB),0,2)).1) 1),0,0,0,0,0,0,0,0⟩))) (.eqs ((.ptr 4 1:AV)=.ptr 4 1) (.more (.c0 ⟨(A.v .i64 (A.k au ((bN,bB),2,(A.b .sub .i64 (A.b .add .i64 (A.v .i64 (A.k au ((bN,bB),0,2)).1) 1) 2))).1),bN,bB,cTime,cPos,cMode,cNext,cMember,0,0,0,0,0,0,0,0,bN,bB,(A.b .add .i64 2 (A.b .sub .i64 (A.b .add .i64 (A.v .i64 (A.k au ((bN,bB),0,2)).1) 1) 2)),(A.b .add .i64 (A.v .i64 (A.k au ((bN,bB),0,2)).1) 1),0,0,0,0,0,0,0,0⟩))))))))) (.eqs (IntKind.i64=IntKind.i64∧((A.b .sub .i64 (A.b .add .i64 (A.v .i64 (A.k au ((bN,bB),0,2)).1) 1) 2):Int)=(A.b .sub .i64 (A.b .add .i64 (A.v .i64 (A.k au ((bN,bB),0,2)).1) 1) 2)) (.eqs (IntKind.i64=IntKind.i64∧((A.b .add .i64 (A.v .i64 (A.k au ((bN,bB),0,2)).1) 1):Int)=(A.b .add .i64 (A.v .i64 (A.k au ((bN,bB),0,2)).1) 1)) (.eqs ((.ptr 4 0:AV)=.ptr 4 0) (.eqs ((.ptr 3 0:AV)=.ptr 3 0) (.need (A.k (@tt ((Int×List Int)×Int×Int)) ((bN,bB),5,(A.b .sub .i64 (A.b .add .i64 (A.v .i64 (A.k au ((bN,bB),0,2)).1) 1) 2))) (.br (A.c .neq (A.k au ((bN,bB),5,(A.b .sub .i64 (A.b .add .i64 (A.v .i64 (A.k au ((bN,bB),0,2)).1) 1) 2))).2 0) (.eqs ((.ptr 4 1:AV)=.ptr 4 1) (.more (.c0 ⟨0,bN,bB,cTime,cPos,cMode,cNext,cMember,0,0,0,0,0,0,0,0,bN,bB,5,(A.b .add .i64 (A.v .i64 (A.k au ((bN,bB),0,2)).1) 1),(A.v .i64 (A.k au ((bN,bB),2,3)).1),0,0,0,0,0,0,0⟩))) (.eqs ((.ptr 4 1:AV)=.ptr 4 1) (.more (.c0 ⟨(A.v .i64 (A.k au ((bN,bB),5,(A.b .sub .i64 (A.b .add .i64 (A.v .i64 (A.k au ((bN,bB),0,2)).1) 1) 2))).1),bN,bB,cTime,cPos,cMode,cNext,cMember,0,0,0,0,0,0,0,0,bN,bB,(A.b .add .i64 5 (A.b .sub .i64 (A.b .add .i64 (A.v .i64 (A.k au ((bN,bB),0,2)).1) 1) 2)),(A.b .add .i64 (A.v .i64 (A.k au ((bN,bB),0,2)).1) 1),(A.v .i64 (A.k au ((bN,bB),2,3)).1),0,0,0,0,0,0,0⟩))))))))))))))))))))
def Af(A:bK):IW→LT ((Int×Int×(Int×Int×Int×Int×Int)×Int×List Int)×Int) IW
 | .c0 p=>.br (A.c .neq p.a0 0) (.ret ((0,0,(0,0,0,0,0),0,([]:List Int)),51)) (.need (A.k (@tt ((Int×List Int)×Int×(Int×List Int))) ((p.a1,p.a2),p.kZ,p.a27,([]:List Int))) (.br (A.c .neq (A.k bf ((p.a1,p.a2),p.kZ,p.a27,([]:List Int))).2.2 0) (.ret ((0,0,(0,0,0,0,0),0,([]:List Int)),(A.k bf ((p.a1,p.a2),p.kZ,p.a27,([]:List Int))).2.2)) (.br (A.c .eql p.kZ 2) (.more (.c2 ⟨p.a3,p.a4,p.a5,p.a6,p.a7,(A.k bf ((p.a1,p.a2),p.kZ,p.a27,([]:List Int))).1.1,(A.k bf ((p.a1,p.a2),p.kZ,p.a27,([]:List Int))).1.2,p.a3,p.a4,p.a5,p.a6,p.a7,p.a8,p.a9,p.fw,p.jK,p.a12,p.wi,p.pq,p.pu,p.kZ,p.a20,p.a21,p.a22,p.a23,p.a24,p.a25,p.a26,(A.k bf ((p.a1,p.a2),p.kZ,p.a27,([]:List Int))).2.1.1,(A.k bf ((p.a1,p.a2),p.kZ,p.a27,([]:List Int))).2.1.2⟩ 0 p.qE 0 0 0 0 0 0 0 0)) (.br (A.c .eql p.kZ 4) (.more (.c3 ⟨(A.k bf ((p.a1,p.a2),p.kZ,p.a27,([]:List Int))).1.1,(A.k bf ((p.a1,p.a2),p.kZ,p.a27,([]:List Int))).1.2,p.a3,p.a4,p.a5,p.a6,p.a7,p.a8,p.a9,p.fw,p.jK,p.a12,p.wi,p.pq,p.pu,p.kZ,p.a20,p.a21,p.a22,p.a23,p.a24,p.a25,p.a26,(A.k bf ((p.a1,p.a2),p.kZ,p.a27,([]:List Int))).2.1.1,(A.k bf ((p.a1,p.a2),p.kZ,p.a27,([]:List Int))).2.1.2⟩ 0 55 0 0 0 0 0 0 0 0)) (.br (A.c .eql p.kZ 3) (.need (A.k (@tt ((Int×List Int))) (A.k bf ((p.a1,p.a2),p.kZ,p.a27,([]:List Int))).2.1) (.br (A.c .neq (A.k gn (A.k bf ((p.a1,p.a2),p.kZ,p.a27,([]:List Int))).2.1).2 0) (.ret ((0,0,(0,0,0,0,0),0,([]:List Int)),51)) (.need (A.k (@tt ((Int×Int×(Int×Int×Int×Int×Int)×Int×List Int))) (p.kZ,p.a20,(A.k gn (A.k bf ((p.a1,p.a2),p.kZ,p.a27,([]:List Int))).2.1).1,p.a26,([]:List Int))) (.br (A.c .neq (A.k kK (p.kZ,p.a20,(A.k gn (A.k bf ((p.a1,p.a2),p.kZ,p.a27,([]:List Int))).2.1).1,p.a26,([]:List Int))) 0) (.ret ((0,0,(0,0,0,0,0),0,([]:List Int)),51)) (.ret ((p.kZ,p.a20,(A.k gn (A.k bf ((p.a1,p.a2),p.kZ,p.a27,([]:List Int))).2.1).1,p.a26,([]:List Int)),0)))))) (.need (A.k (@tt ((Int×Int×(Int×Int×Int×Int×Int)×Int×List Int))) (p.kZ,p.a20,(p.a21,p.a22,p.a23,p.a24,p.a25),p.a26,([]:List Int))) (.br (A.c .neq (A.k kK (p.kZ,p.a20,(p.a21,p.a22,p.a23,p.a24,p.a25),p.a26,([]:List Int))) 0) (.ret ((0,0,(0,0,0,0,0),0,([]:List Int)),51)) (.ret ((p.kZ,p.a20,(p.a21,p.a22,p.a23,p.a24,p.a25),p.a26,([]:List Int)),0)))))))))
 | .c1 p=>.br (A.c .neq p.b0 0) (.ret ((0,0,(0,0,0,0,0),0,([]:List Int)),51)) (.need (A.k (@tt ((Int×List Int)×Int×(Int×List Int))) ((p.b1,p.b2),p.kl,p.lC,p.lu)) (.br (A.c .neq (A.k bf ((p.b1,p.b2),p.kl,p.lC,p.lu)).2.2 0) (.ret ((0,0,(0,0,0,0,0),0,([]:List Int)),(A.k bf ((p.b1,p.b2),p.kl,p.lC,p.lu)).2.2)) (.br (A.c .eql p.kl 2) (.more (.c2 ⟨p.b3,p.b4,p.b5,p.b6,p.b7,(A.k bf ((p.b1,p.b2),p.kl,p.lC,p.lu)).1.1,(A.k bf ((p.b1,p.b2),p.kl,p.lC,p.lu)).1.2,p.b3,p.b4,p.b5,p.b6,p.b7,p.b8,p.b9,p.b10,p.b11,p.b12,p.b13,p.vW,p.wW,p.kl,p.lz,p.lg,p.lm,p.qd,p.qj,p.qi,p.nS,(A.k bf ((p.b1,p.b2),p.kl,p.lC,p.lu)).2.1.1,(A.k bf ((p.b1,p.b2),p.kl,p.lC,p.lu)).2.1.2⟩ 0 p.zd 0 0 0 0 0 0 0 0)) (.br (A.c .eql p.kl 4) (.more (.c3 ⟨(A.k bf ((p.b1,p.b2),p.kl,p.lC,p.lu)).1.1,(A.k bf ((p.b1,p.b2),p.kl,p.lC,p.lu)).1.2,p.b3,p.b4,p.b5,p.b6,p.b7,p.b8,p.b9,p.b10,p.b11,p.b12,p.b13,p.vW,p.wW,p.kl,p.lz,p.lg,p.lm,p.qd,p.qj,p.qi,p.nS,(A.k bf ((p.b1,p.b2),p.kl,p.lC,p.lu)).2.1.1,(A.k bf ((p.b1,p.b2),p.kl,p.lC,p.lu)).2.1.2⟩ 0 55 0 0 0 0 0 0 0 0)) (.br (A.c .eql p.kl 3) (.need (A.k (@tt ((Int×List Int))) (A.k bf ((p.b1,p.b2),p.kl,p.lC,p.lu)).2.1) (.br (A.c .neq (A.k gn (A.k bf ((p.b1,p.b2),p.kl,p.lC,p.lu)).2.1).2 0) (.ret ((0,0,(0,0,0,0,0),0,([]:List Int)),51)) (.need (A.k (@tt ((Int×Int×(Int×Int×Int×Int×Int)×Int×List Int))) (p.kl,p.lz,(A.k gn (A.k bf ((p.b1,p.b2),p.kl,p.lC,p.lu)).2.1).1,p.nS,([]:List Int))) (.br (A.c .neq (A.k kK (p.kl,p.lz,(A.k gn (A.k bf ((p.b1,p.b2),p.kl,p.lC,p.lu)).2.1).1,p.nS,([]:List Int))) 0) (.ret ((0,0,(0,0,0,0,0),0,([]:List Int)),51)) (.ret ((p.kl,p.lz,(A.k gn (A.k bf ((p.b1,p.b2),p.kl,p.lC,p.lu)).2.1).1,p.nS,([]:List Int)),0)))))) (.need (A.k (@tt ((Int×Int×(Int×Int×Int×Int×Int)×Int×List Int))) (p.kl,p.lz,(p.lg,p.lm,p.qd,p.qj,p.qi),p.nS,([]:List Int))) (.br (A.c .neq (A.k kK (p.kl,p.lz,(p.lg,p.lm,p.qd,p.qj,p.qi),p.nS,([]:List Int))) 0) (.ret ((0,0,(0,0,0,0,0),0,([]:List Int)),51)) (.ret ((p.kl,p.lz,(p.lg,p.lm,p.qd,p.qj,p.qi),p.nS,([]:List Int)),0)))))))))
 | .c2 p c0 c8 c9 c10 c11 c12 c13 c14 iQ c16=>.br (A.c .leq (A.b .add .i64 c8 8) p.c6) (.br (A.c .lss c0 8) (.need (A.k (@tt ((Int×List Int)×Int×Int)) ((p.c6,p.c7),c8,8)) (.br (A.c .neq (A.k au ((p.c6,p.c7),c8,8)).2 0) (.need (A.and (A.c .leq 0 c0) (A.c .lss c0 8)) (.more (.c2 p (A.b .add .i64 c0 1) c8 (A.n yU (A.set [c9,c10,c11,c12,c13,c14,iQ,c16] c0 (0:Int)) 0:Int) (A.n yU (A.set [c9,c10,c11,c12,c13,c14,iQ,c16] c0 (0:Int)) 1:Int) (A.n yU (A.set [c9,c10,c11,c12,c13,c14,iQ,c16] c0 (0:Int)) 2:Int) (A.n yU (A.set [c9,c10,c11,c12,c13,c14,iQ,c16] c0 (0:Int)) 3:Int) (A.n yU (A.set [c9,c10,c11,c12,c13,c14,iQ,c16] c0 (0:Int)) 4:Int) (A.n yU (A.set [c9,c10,c11,c12,c13,c14,iQ,c16] c0 (0:Int)) 5:Int) (A.n yU (A.set [c9,c10,c11,c12,c13,c14,iQ,c16] c0 (0:Int)) 6:Int) (A.n yU (A.set [c9,c10,c11,c12,c13,c14,iQ,c16] c0 (0:Int)) 7:Int)))) (.need (A.and (A.c .leq 0 c0) (A.c .lss c0 8)) (.more (.c2 p (A.b .add .i64 c0 1) (A.b .add .i64 c8 8) (A.n yU (A.set [c9,c10,c11,c12,c13,c14,iQ,c16] c0 (A.v .u8 (A.v .i64 (A.k au ((p.c6,p.c7),c8,8)).1))) 0:Int) (A.n yU (A.set [c9,c10,c11,c12,c13,c14,iQ,c16] c0 (A.v .u8 (A.v .i64 (A.k au ((p.c6,p.c7),c8,8)).1))) 1:Int) (A.n yU (A.set [c9,c10,c11,c12,c13,c14,iQ,c16] c0 (A.v .u8 (A.v .i64 (A.k au ((p.c6,p.c7),c8,8)).1))) 2:Int) (A.n yU (A.set [c9,c10,c11,c12,c13,c14,iQ,c16] c0 (A.v .u8 (A.v .i64 (A.k au ((p.c6,p.c7),c8,8)).1))) 3:Int) (A.n yU (A.set [c9,c10,c11,c12,c13,c14,iQ,c16] c0 (A.v .u8 (A.v .i64 (A.k au ((p.c6,p.c7),c8,8)).1))) 4:Int) (A.n yU (A.set [c9,c10,c11,c12,c13,c14,iQ,c16] c0 (A.v .u8 (A.v .i64 (A.k au ((p.c6,p.c7),c8,8)).1))) 5:Int) (A.n yU (A.set [c9,c10,c11,c12,c13,c14,iQ,c16] c0 (A.v .u8 (A.v .i64 (A.k au ((p.c6,p.c7),c8,8)).1))) 6:Int) (A.n yU (A.set [c9,c10,c11,c12,c13,c14,iQ,c16] c0 (A.v .u8 (A.v .i64 (A.k au ((p.c6,p.c7),c8,8)).1))) 7:Int)))))) (.need (A.and (A.c .eql c0 c0) (A.and (A.c .leq 0 c0) (A.c .leq c0 140737488355328))) (.eqs ((.ptr 4 2:AV)=.ptr 4 2) (.eqs ((.agg [.int .i64 false p.C8,.int .i64 false p.ES,.int .i64 false p.c19,.int .i64 false p.c20,.int .i64 false p.c21]:AV)=.agg [.int .i64 false p.c1,.int .i64 false p.c2,.int .i64 false p.c3,.int .i64 false p.c4,.int .i64 false p.c5]) (.need (A.k (@tt ((Int×Int×(Int×Int×Int×Int×Int)×Int×List Int))) (p.za,p.c31,(p.c1,p.c2,p.c3,p.c4,p.c5),p.c37,(A.spl (A.r c0 (0:Int)) 0 (A.s [c9,c10,c11,c12,c13,c14,iQ,c16] 0 (A.mn (A.l [c9,c10,c11,c12,c13,c14,iQ,c16]) (A.l (A.r c0 (0:Int)))))))) (.br (A.c .neq (A.k kK (p.za,p.c31,(p.c1,p.c2,p.c3,p.c4,p.c5),p.c37,(A.spl (A.r c0 (0:Int)) 0 (A.s [c9,c10,c11,c12,c13,c14,iQ,c16] 0 (A.mn (A.l [c9,c10,c11,c12,c13,c14,iQ,c16]) (A.l (A.r c0 (0:Int)))))))) 0) (.ret ((0,0,(0,0,0,0,0),0,([]:List Int)),51)) (.ret ((p.za,p.c31,(p.c1,p.c2,p.c3,p.c4,p.c5),p.c37,(A.spl (A.r c0 (0:Int)) 0 (A.s [c9,c10,c11,c12,c13,c14,iQ,c16] 0 (A.mn (A.l [c9,c10,c11,c12,c13,c14,iQ,c16]) (A.l (A.r c0 (0:Int))))))),0)))))))) (.need (A.and (A.c .eql c0 c0) (A.and (A.c .leq 0 c0) (A.c .leq c0 140737488355328))) (.eqs ((.ptr 4 2:AV)=.ptr 4 2) (.eqs ((.agg [.int .i64 false p.C8,.int .i64 false p.ES,.int .i64 false p.c19,.int .i64 false p.c20,.int .i64 false p.c21]:AV)=.agg [.int .i64 false p.c1,.int .i64 false p.c2,.int .i64 false p.c3,.int .i64 false p.c4,.int .i64 false p.c5]) (.need (A.k (@tt ((Int×Int×(Int×Int×Int×Int×Int)×Int×List Int))) (p.za,p.c31,(p.c1,p.c2,p.c3,p.c4,p.c5),p.c37,(A.spl (A.r c0 (0:Int)) 0 (A.s [c9,c10,c11,c12,c13,c14,iQ,c16] 0 (A.mn (A.l [c9,c10,c11,c12,c13,c14,iQ,c16]) (A.l (A.r c0 (0:Int)))))))) (.br (A.c .neq (A.k kK (p.za,p.c31,(p.c1,p.c2,p.c3,p.c4,p.c5),p.c37,(A.spl (A.r c0 (0:Int)) 0 (A.s [c9,c10,c11,c12,c13,c14,iQ,c16] 0 (A.mn (A.l [c9,c10,c11,c12,c13,c14,iQ,c16]) (A.l (A.r c0 (0:Int)))))))) 0) (.ret ((0,0,(0,0,0,0,0),0,([]:List Int)),51)) (.ret ((p.za,p.c31,(p.c1,p.c2,p.c3,p.c4,p.c5),p.c37,(A.spl (A.r c0 (0:Int)) 0 (A.s [c9,c10,c11,c12,c13,c14,iQ,c16] 0 (A.mn (A.l [c9,c10,c11,c12,c13,c14,iQ,c16]) (A.l (A.r c0 (0:Int))))))),0)))))))
 | .c3 p d0 d3 d4 d5 d6 d7 d8 d9 d10 d11=>.br (A.c .leq (A.b .add .i64 d3 8) p.d1) (.br (A.c .lss d0 8) (.need (A.k (@tt ((Int×List Int)×Int×Int)) ((p.d1,p.d2),d3,8)) (.br (A.c .neq (A.k au ((p.d1,p.d2),d3,8)).2 0) (.need (A.and (A.c .leq 0 d0) (A.c .lss d0 8)) (.more (.c3 p (A.b .add .i64 d0 1) d3 (A.n yU (A.set [d4,d5,d6,d7,d8,d9,d10,d11] d0 (0:Int)) 0:Int) (A.n yU (A.set [d4,d5,d6,d7,d8,d9,d10,d11] d0 (0:Int)) 1:Int) (A.n yU (A.set [d4,d5,d6,d7,d8,d9,d10,d11] d0 (0:Int)) 2:Int) (A.n yU (A.set [d4,d5,d6,d7,d8,d9,d10,d11] d0 (0:Int)) 3:Int) (A.n yU (A.set [d4,d5,d6,d7,d8,d9,d10,d11] d0 (0:Int)) 4:Int) (A.n yU (A.set [d4,d5,d6,d7,d8,d9,d10,d11] d0 (0:Int)) 5:Int) (A.n yU (A.set [d4,d5,d6,d7,d8,d9,d10,d11] d0 (0:Int)) 6:Int) (A.n yU (A.set [d4,d5,d6,d7,d8,d9,d10,d11] d0 (0:Int)) 7:Int)))) (.need (A.and (A.c .leq 0 d0) (A.c .lss d0 8)) (.more (.c3 p (A.b .add .i64 d0 1) (A.b .add .i64 d3 8) (A.n yU (A.set [d4,d5,d6,d7,d8,d9,d10,d11] d0 (A.v .u8 (A.v .i64 (A.k au ((p.d1,p.d2),d3,8)).1))) 0:Int) (A.n yU (A.set [d4,d5,d6,d7,d8,d9,d10,d11] d0 (A.v .u8 (A.v .i64 (A.k au ((p.d1,p.d2),d3,8)).1))) 1:Int) (A.n yU (A.set [d4,d5,d6,d7,d8,d9,d10,d11] d0 (A.v .u8 (A.v .i64 (A.k au ((p.d1,p.d2),d3,8)).1))) 2:Int) (A.n yU (A.set [d4,d5,d6,d7,d8,d9,d10,d11] d0 (A.v .u8 (A.v .i64 (A.k au ((p.d1,p.d2),d3,8)).1))) 3:Int) (A.n yU (A.set [d4,d5,d6,d7,d8,d9,d10,d11] d0 (A.v .u8 (A.v .i64 (A.k au ((p.d1,p.d2),d3,8)).1))) 4:Int) (A.n yU (A.set [d4,d5,d6,d7,d8,d9,d10,d11] d0 (A.v .u8 (A.v .i64 (A.k au ((p.d1,p.d2),d3,8)).1))) 5:Int) (A.n yU (A.set [d4,d5,d6,d7,d8,d9,d10,d11] d0 (A.v .u8 (A.v .i64 (A.k au ((p.d1,p.d2),d3,8)).1))) 6:Int) (A.n yU (A.set [d4,d5,d6,d7,d8,d9,d10,d11] d0 (A.v .u8 (A.v .i64 (A.k au ((p.d1,p.d2),d3,8)).1))) 7:Int)))))) (.need (A.and (A.c .eql d0 d0) (A.and (A.c .leq 0 d0) (A.c .leq d0 140737488355328))) (.need (A.k (@tt ((Int×List Int))) (p.xC,p.xh)) (.br (A.c .neq (A.k gn (p.xC,p.xh)).2 0) (.ret ((0,0,(0,0,0,0,0),0,([]:List Int)),51)) (.need (A.k (@tt ((Int×Int×(Int×Int×Int×Int×Int)×Int×List Int))) (p.BB,p.BK,(A.k gn (p.xC,p.xh)).1,p.BE,(A.spl (A.r d0 (0:Int)) 0 (A.s [d4,d5,d6,d7,d8,d9,d10,d11] 0 (A.mn (A.l [d4,d5,d6,d7,d8,d9,d10,d11]) (A.l (A.r d0 (0:Int)))))))) (.br (A.c .neq (A.k kK (p.BB,p.BK,(A.k gn (p.xC,p.xh)).1,p.BE,(A.spl (A.r d0 (0:Int)) 0 (A.s [d4,d5,d6,d7,d8,d9,d10,d11] 0 (A.mn (A.l [d4,d5,d6,d7,d8,d9,d10,d11]) (A.l (A.r d0 (0:Int)))))))) 0) (.ret ((0,0,(0,0,0,0,0),0,([]:List Int)),51)) (.ret ((p.BB,p.BK,(A.k gn (p.xC,p.xh)).1,p.BE,(A.spl (A.r d0 (0:Int)) 0 (A.s [d4,d5,d6,d7,d8,d9,d10,d11] 0 (A.mn (A.l [d4,d5,d6,d7,d8,d9,d10,d11]) (A.l (A.r d0 (0:Int))))))),0)))))))) (.need (A.and (A.c .eql d0 d0) (A.and (A.c .leq 0 d0) (A.c .leq d0 140737488355328))) (.need (A.k (@tt ((Int×List Int))) (p.xC,p.xh)) (.br (A.c .neq (A.k gn (p.xC,p.xh)).2 0) (.ret ((0,0,(0,0,0,0,0),0,([]:List Int)),51)) (.need (A.k (@tt ((Int×Int×(Int×Int×Int×Int×Int)×Int×List Int))) (p.BB,p.BK,(A.k gn (p.xC,p.xh)).1,p.BE,(A.spl (A.r d0 (0:Int)) 0 (A.s [d4,d5,d6,d7,d8,d9,d10,d11] 0 (A.mn (A.l [d4,d5,d6,d7,d8,d9,d10,d11]) (A.l (A.r d0 (0:Int)))))))) (.br (A.c .neq (A.k kK (p.BB,p.BK,(A.k gn (p.xC,p.xh)).1,p.BE,(A.spl (A.r d0 (0:Int)) 0 (A.s [d4,d5,d6,d7,d8,d9,d10,d11] 0 (A.mn (A.l [d4,d5,d6,d7,d8,d9,d10,d11]) (A.l (A.r d0 (0:Int)))))))) 0) (.ret ((0,0,(0,0,0,0,0),0,([]:List Int)),51)) (.ret ((p.BB,p.BK,(A.k gn (p.xC,p.xh)).1,p.BE,(A.spl (A.r d0 (0:Int)) 0 (A.s [d4,d5,d6,d7,d8,d9,d10,d11] 0 (A.mn (A.l [d4,d5,d6,d7,d8,d9,d10,d11]) (A.l (A.r d0 (0:Int))))))),0)))))))
theorem aI{R Y:Type}{step:Y→LT R Y}{t:LT R Y}{r r':R}(h:r=r')(h2:aK step t r):aK step t r':=h▸h2
theorem Jf{S:List Int}(h:S.length=8):[S.getD 0 0,S.getD 1 0,S.getD 2 0,S.getD 3 0,S.getD 4 0,S.getD 5 0,S.getD 6 0,S.getD 7 0]=S:=by
 match S,h with
 | [_,_,_,_,_,_,_,_],_=>rfl
theorem qI(k:Nat):∀l:List Bool,aZ (k+1) l=aZ k l ++ [((dB ((l.drop (8*k)).take 8):Nat):Int)]:=by
 induction k with
 | zero=>intro l;rfl
 | succ k ih=>
   intro l
   rw[aZ,ih,aZ,List.cons_append,List.drop_drop,show 8+8*k=8*(k+1) from by omega]
theorem F4{m d a:Nat}{b:List Int}(hok:bS ((m:Int),b)=true)(hm:m=a+8*d)(hd:d≤8)(ha:a≤100):∀(j i:Nat) (p:IL) (x0 x1 x2 x3 x4 x5 x6 x7:Int),p.c6=(m:Int)→p.c7=b→p.C8=p.c1→p.ES=p.c2→p.c19=p.c3→p.c20=p.c4→p.c21=p.c5→ [x0,x1,x2,x3,x4,x5,x6,x7]=aZ i ((unpack m b).drop a)++List.replicate (8-i) 0→d-i=j→i≤d→
  aK (Af ai) (.more (.c2 p (i:Int) ((a+8*i:Nat):Int) x0 x1 x2 x3 x4 x5 x6 x7)) (bif jg (p.za,p.c31,(p.c1,p.c2,p.c3,p.c4,p.c5),p.c37,aZ d ((unpack m b).drop a)) then((p.za,p.c31,(p.c1,p.c2,p.c3,p.c4,p.c5),p.c37,aZ d ((unpack m b).drop a)),0) else(c_,51)):=by
 intro j
 induction j with
 | zero=>
   intro i p x0 x1 x2 x3 x4 x5 x6 x7 h6 h7 h17 h18 h19 h20 h21 hR hj hi
   have:i=d:=by omega
   subst this
   have hdl:=dJ i ((unpack m b).drop a)
   have hD:(ai.spl (ai.r (i:Int) (0:Int)) 0 (ai.s [x0,x1,x2,x3,x4,x5,x6,x7] 0 (ai.mn (ai.l [x0,x1,x2,x3,x4,x5,x6,x7]) (ai.l (ai.r (i:Int) (0:Int))))):List Int)=aZ i ((unpack m b).drop a):=by
    rw[hR]
    have e1:ai.r (i:Int) (0:Int)=List.replicate i 0:=by rw[kV,Int.toNat_natCast]
    rw[e1]
    have e2:ai.mn (ai.l (aZ i ((unpack m b).drop a)++List.replicate (8-i) (0:Int))) (ai.l (List.replicate i (0:Int)))=(i:Int):=by
     show(if ((List.replicate i (0:Int)).length:Int)<((aZ i ((unpack m b).drop a)++List.replicate (8-i) (0:Int)).length:Int) then((List.replicate i (0:Int)).length:Int) else((aZ i ((unpack m b).drop a)++List.replicate (8-i) (0:Int)).length:Int))=_
     rw[List.length_append,hdl,List.length_replicate,List.length_replicate]
     split<;>omega
    have hT:(aZ i ((unpack m b).drop a)++List.replicate (8-i) (0:Int)).take i=aZ i ((unpack m b).drop a):=by rw[List.take_append_of_le_length (by omega),List.take_of_length_le (by omega)]
    rw[e2,kx,kS,Int.toNat_natCast,hT]
    show(List.replicate i (0:Int)).take 0++(aZ i ((unpack m b).drop a)).drop 0++(List.replicate i (0:Int)).drop (0+((aZ i ((unpack m b).drop a)).drop 0).length)=_
    rw[List.drop_zero,hdl,List.drop_replicate,show i-(0+i)=0 from by omega,List.replicate_zero,List.take_zero,List.nil_append,List.append_nil]
   rw[ap,Af]
   refine(aj (by rw[h6,show ai.b .add .i64 ((a+8*i:Nat):Int) 8=((a+8*i+8:Nat):Int) from dV (j:=8) (by omega),f_];simp;omega)).2 ?_
   refine af.2 ⟨by rw[ng rfl,iD,ay,aM,aM];simp;omega,aJ.2 ⟨rfl,aJ.2 ⟨by rw[h17,h18,h19,h20,h21],af.2 ⟨rfl,?_⟩⟩⟩⟩
   have hchk:ai.k kK (p.za,p.c31,(p.c1,p.c2,p.c3,p.c4,p.c5),p.c37,(ai.spl (ai.r (i:Int) (0:Int)) 0 (ai.s [x0,x1,x2,x3,x4,x5,x6,x7] 0 (ai.mn (ai.l [x0,x1,x2,x3,x4,x5,x6,x7]) (ai.l (ai.r (i:Int) (0:Int)))))))=bif jg (p.za,p.c31,(p.c1,p.c2,p.c3,p.c4,p.c5),p.c37,aZ i ((unpack m b).drop a)) then 0 else 50:=by rw[hD];exact om
   cases hf:jg (p.za,p.c31,(p.c1,p.c2,p.c3,p.c4,p.c5),p.c37,aZ i ((unpack m b).drop a))
   ·rw[hf] at hchk
    exact(ak (fx (by rw[hchk];decide))).2 (.ret _)
   ·rw[hf] at hchk
    refine(aj (cH hchk)).2 ?_
    exact bD (congrArg (fun z=>LT.ret ((p.za,p.c31,(p.c1,p.c2,p.c3,p.c4,p.c5),p.c37,z),(0:Int))) hD) (.ret _)
 | succ j ih=>
   intro i p x0 x1 x2 x3 x4 x5 x6 x7 h6 h7 h17 h18 h19 h20 h21 hR hj hi
   have hmb:m≤4096:=by
    simp only[bS,Bool.and_eq_true,decide_eq_true_eq] at hok
    omega
   have hg:ai.k au ((p.c6,p.c7),((a+8*i:Nat):Int),8)=(((bO (unpack m b) (a+8*i) 8:Nat):Int),0):=by
    rw[h6,h7];exact jk hok (w:=8) (by omega) (by decide) hmb
   have hf:=gm (unpack m b) (a+8*i) 8
   have hv:ai.v .u8 (ai.v .i64 (ai.k au ((p.c6,p.c7),((a+8*i:Nat):Int),8)).1)=((bO (unpack m b) (a+8*i) 8:Nat):Int):=by
    rw[hg,bp,bp,gW (by omega) (by omega),w8 (by omega) (by omega)]
   have hn8:ai.and (ai.c .leq 0 (i:Int)) (ai.c .lss (i:Int) 8)=true:=by rw[iD,ar,aM];simp;omega
   rw[ap,Af]
   refine(ak (by rw[h6,show ai.b .add .i64 ((a+8*i:Nat):Int) 8=((a+8*i+8:Nat):Int) from dV (j:=8) (by omega),f_];simp;omega)).2 ?_
   refine(ak (by rw[ar];simp;omega)).2 (af.2 ⟨rfl,(aj (cH (congrArg Prod.snd hg))).2 (af.2 ⟨hn8,?_⟩)⟩)
   obtain⟨S,hS⟩:∃S:List Int,S=([x0,x1,x2,x3,x4,x5,x6,x7]:List Int).set (i:Int).toNat (ai.v .u8 (ai.v .i64 (ai.k au ((p.c6,p.c7),((a+8*i:Nat):Int),8)).1)):=⟨_,rfl⟩
   have hSl:S.length=8:=by rw[hS,List.length_set];rfl
   have hSv:S=aZ (i+1) ((unpack m b).drop a)++List.replicate (8-(i+1)) 0:=by
    rw[hS,hv,hR,Int.toNat_natCast,List.set_append_right _ _ (by rw[dJ];exact Nat.le_refl _),dJ,Nat.sub_self,qI,show 8-i=(8-(i+1))+1 from by omega,List.replicate_succ,List.set_cons_zero,List.append_assoc,List.drop_drop]
    rfl
   have hm':=ih (i+1) p (S.getD 0 0) (S.getD 1 0) (S.getD 2 0) (S.getD 3 0) (S.getD 4 0) (S.getD 5 0) (S.getD 6 0) (S.getD 7 0) h6 h7 h17 h18 h19 h20 h21 ((Jf hSl).trans hSv) (by omega) (by omega)
   have e:IW.c2 p (ai.b .add .i64 (i:Int) 1) (ai.b .add .i64 ((a+8*i:Nat):Int) 8) (S.getD 0 0) (S.getD 1 0) (S.getD 2 0) (S.getD 3 0) (S.getD 4 0) (S.getD 5 0) (S.getD 6 0) (S.getD 7 0)=IW.c2 p ((i+1:Nat):Int) ((a+8*(i+1):Nat):Int) (S.getD 0 0) (S.getD 1 0) (S.getD 2 0) (S.getD 3 0) (S.getD 4 0) (S.getD 5 0) (S.getD 6 0) (S.getD 7 0):=by
    rw[fe (by omega),show ai.b .add .i64 ((a+8*i:Nat):Int) 8=((a+8*(i+1):Nat):Int) from dV (j:=8) (by omega)]
   have hm2:=bD (congrArg LT.more e) hm'
   subst hS
   exact hm2
theorem Hl{m d a:Nat}{b:List Int}(hok:bS ((m:Int),b)=true)(hm:m=a+8*d)(hd:d≤8)(ha:a≤100):∀(j i:Nat) (p:Jc) (x0 x1 x2 x3 x4 x5 x6 x7:Int),p.d1=(m:Int)→p.d2=b→ [x0,x1,x2,x3,x4,x5,x6,x7]=aZ i ((unpack m b).drop a)++List.replicate (8-i) 0→d-i=j→i≤d→
  aK (Af ai) (.more (.c3 p (i:Int) ((a+8*i:Nat):Int) x0 x1 x2 x3 x4 x5 x6 x7)) (bif (dC (p.xC,p.xh)).2 != 0 then(c_,51) else bif jg (p.BB,p.BK,(dC (p.xC,p.xh)).1,p.BE,aZ d ((unpack m b).drop a)) then((p.BB,p.BK,(dC (p.xC,p.xh)).1,p.BE,aZ d ((unpack m b).drop a)),0) else(c_,51)):=by
 intro j
 induction j with
 | zero=>
   intro i p x0 x1 x2 x3 x4 x5 x6 x7 h6 h7 hR hj hi
   have:i=d:=by omega
   subst this
   have hdl:=dJ i ((unpack m b).drop a)
   have hD:(ai.spl (ai.r (i:Int) (0:Int)) 0 (ai.s [x0,x1,x2,x3,x4,x5,x6,x7] 0 (ai.mn (ai.l [x0,x1,x2,x3,x4,x5,x6,x7]) (ai.l (ai.r (i:Int) (0:Int))))):List Int)=aZ i ((unpack m b).drop a):=by
    rw[hR]
    have e1:ai.r (i:Int) (0:Int)=List.replicate i 0:=by rw[kV,Int.toNat_natCast]
    rw[e1]
    have e2:ai.mn (ai.l (aZ i ((unpack m b).drop a)++List.replicate (8-i) (0:Int))) (ai.l (List.replicate i (0:Int)))=(i:Int):=by
     show(if ((List.replicate i (0:Int)).length:Int)<((aZ i ((unpack m b).drop a)++List.replicate (8-i) (0:Int)).length:Int) then((List.replicate i (0:Int)).length:Int) else((aZ i ((unpack m b).drop a)++List.replicate (8-i) (0:Int)).length:Int))=_
     rw[List.length_append,hdl,List.length_replicate,List.length_replicate]
     split<;>omega
    have hT:(aZ i ((unpack m b).drop a)++List.replicate (8-i) (0:Int)).take i=aZ i ((unpack m b).drop a):=by rw[List.take_append_of_le_length (by omega),List.take_of_length_le (by omega)]
    rw[e2,kx,kS,Int.toNat_natCast,hT]
    show(List.replicate i (0:Int)).take 0++(aZ i ((unpack m b).drop a)).drop 0++(List.replicate i (0:Int)).drop (0+((aZ i ((unpack m b).drop a)).drop 0).length)=_
    rw[List.drop_zero,hdl,List.drop_replicate,show i-(0+i)=0 from by omega,List.replicate_zero,List.take_zero,List.nil_append,List.append_nil]
   rw[ap,Af]
   refine(aj (by rw[h6,show ai.b .add .i64 ((a+8*i:Nat):Int) 8=((a+8*i+8:Nat):Int) from dV (j:=8) (by omega),f_];simp;omega)).2 ?_
   refine af.2 ⟨by rw[ng rfl,iD,ay,aM,aM];simp;omega,af.2 ⟨rfl,?_⟩⟩
   cases he:((dC (p.xC,p.xh)).2 != 0)
   ·refine(aj he).2 (af.2 ⟨rfl,?_⟩)
    have hchk:ai.k kK (p.BB,p.BK,(ai.k gn (p.xC,p.xh)).1,p.BE,(ai.spl (ai.r (i:Int) (0:Int)) 0 (ai.s [x0,x1,x2,x3,x4,x5,x6,x7] 0 (ai.mn (ai.l [x0,x1,x2,x3,x4,x5,x6,x7]) (ai.l (ai.r (i:Int) (0:Int)))))))=bif jg (p.BB,p.BK,(dC (p.xC,p.xh)).1,p.BE,aZ i ((unpack m b).drop a)) then 0 else 50:=by rw[hD];exact om
    cases hf:jg (p.BB,p.BK,(dC (p.xC,p.xh)).1,p.BE,aZ i ((unpack m b).drop a))
    ·rw[hf] at hchk
     exact(ak (fx (by rw[hchk];decide))).2 (.ret _)
    ·rw[hf] at hchk
     refine(aj (cH hchk)).2 ?_
     exact bD (congrArg (fun z=>LT.ret ((p.BB,p.BK,(dC (p.xC,p.xh)).1,p.BE,z),(0:Int))) hD) (.ret _)
   ·exact(ak he).2 (.ret _)
 | succ j ih=>
   intro i p x0 x1 x2 x3 x4 x5 x6 x7 h6 h7 hR hj hi
   have hmb:m≤4096:=by
    simp only[bS,Bool.and_eq_true,decide_eq_true_eq] at hok
    omega
   have hg:ai.k au ((p.d1,p.d2),((a+8*i:Nat):Int),8)=(((bO (unpack m b) (a+8*i) 8:Nat):Int),0):=by
    rw[h6,h7];exact jk hok (w:=8) (by omega) (by decide) hmb
   have hf:=gm (unpack m b) (a+8*i) 8
   have hv:ai.v .u8 (ai.v .i64 (ai.k au ((p.d1,p.d2),((a+8*i:Nat):Int),8)).1)=((bO (unpack m b) (a+8*i) 8:Nat):Int):=by
    rw[hg,bp,bp,gW (by omega) (by omega),w8 (by omega) (by omega)]
   have hn8:ai.and (ai.c .leq 0 (i:Int)) (ai.c .lss (i:Int) 8)=true:=by rw[iD,ar,aM];simp;omega
   rw[ap,Af]
   refine(ak (by rw[h6,show ai.b .add .i64 ((a+8*i:Nat):Int) 8=((a+8*i+8:Nat):Int) from dV (j:=8) (by omega),f_];simp;omega)).2 ?_
   refine(ak (by rw[ar];simp;omega)).2 (af.2 ⟨rfl,(aj (cH (congrArg Prod.snd hg))).2 (af.2 ⟨hn8,?_⟩)⟩)
   obtain⟨S,hS⟩:∃S:List Int,S=([x0,x1,x2,x3,x4,x5,x6,x7]:List Int).set (i:Int).toNat (ai.v .u8 (ai.v .i64 (ai.k au ((p.d1,p.d2),((a+8*i:Nat):Int),8)).1)):=⟨_,rfl⟩
   have hSl:S.length=8:=by rw[hS,List.length_set];rfl
   have hSv:S=aZ (i+1) ((unpack m b).drop a)++List.replicate (8-(i+1)) 0:=by
    rw[hS,hv,hR,Int.toNat_natCast,List.set_append_right _ _ (by rw[dJ];exact Nat.le_refl _),dJ,Nat.sub_self,qI,show 8-i=(8-(i+1))+1 from by omega,List.replicate_succ,List.set_cons_zero,List.append_assoc,List.drop_drop]
    rfl
   have hm':=ih (i+1) p (S.getD 0 0) (S.getD 1 0) (S.getD 2 0) (S.getD 3 0) (S.getD 4 0) (S.getD 5 0) (S.getD 6 0) (S.getD 7 0) h6 h7 ((Jf hSl).trans hSv) (by omega) (by omega)
   have e:IW.c3 p (ai.b .add .i64 (i:Int) 1) (ai.b .add .i64 ((a+8*i:Nat):Int) 8) (S.getD 0 0) (S.getD 1 0) (S.getD 2 0) (S.getD 3 0) (S.getD 4 0) (S.getD 5 0) (S.getD 6 0) (S.getD 7 0)=IW.c3 p ((i+1:Nat):Int) ((a+8*(i+1):Nat):Int) (S.getD 0 0) (S.getD 1 0) (S.getD 2 0) (S.getD 3 0) (S.getD 4 0) (S.getD 5 0) (S.getD 6 0) (S.getD 7 0):=by
    rw[fe (by omega),show ai.b .add .i64 ((a+8*i:Nat):Int) 8=((a+8*(i+1):Nat):Int) from dV (j:=8) (by omega)]
   have hm2:=bD (congrArg LT.more e) hm'
   subst hS
   exact hm2
theorem qB{k:Nat}:∀{a c:Nat} {l:List Bool},a+8*k≤c→c≤l.length→aZ k ((l.take c).drop a)=aZ k (l.drop a):=by
 induction k with
 | zero=>intro a c l _ _;rfl
 | succ k ih=>
   intro a c l h hc
   rw[aZ,aZ,List.drop_drop,List.drop_drop,ih (by omega) hc]
   congr 2
   congr 1
   rw[List.drop_take,List.take_take,Nat.min_eq_left (by omega)]
theorem Ha{n a w:Nat}{b:List Int}(hok:bS ((n:Int),b)=true)(h:n<a+w):ai.k au (((n:Int),b),(a:Int),(w:Int))=(0,2):=by
 rw[al,au,Ci]
 simp only[hok,Bool.not_true,cond_false]
 rw[show decide ((n:Int)<(a:Int)+(w:Int))=true from by simp;omega,Bool.or_true]
 rfl
theorem CB{n t p m x s:Int}{b:List Int}(h:Ty.dM [(.struct [(.int .i64),(.slice (.int .u8))]),(.struct [(.int .i64),(.int .i64),(.int .i64),(.int .i64),(.int .i64)])] ((n,b),(t,p,m,x,s))):Ty.has (.struct [(.int .i64),(.slice (.int .u8))]) (n,b):=h.1
theorem sC{q:List Bool}(h:q.length=24):dC (bM q)=bif gl (h_ q) then(h_ q,0) else(zS,40):=by
 rw[dC,g_ (by omega),fY,show(bM q).1=24 from by show((q.length:Nat):Int)=24;rw[h];rfl]
 rfl
theorem JF{n t p m x s:Int}{b:List Int}(h:Ty.dM [(.struct [(.int .i64),(.slice (.int .u8))]),(.struct [(.int .i64),(.int .i64),(.int .i64),(.int .i64),(.int .i64)])] ((n,b),(t,p,m,x,s))):aK (Af ai) (t50 ai n b t p m x s) (zw ((n,b),(t,p,m,x,s))):=by
 have h1:=CB h
 have hb:=(fU h1).2.2
 have hl:=dP h1
 unfold t50
 have hc:ai.k gZ (n,b)=bif bS (n,b) then 0 else 10:=i6 hb hl
 refine af.2 ⟨rfl,?_⟩
 show aK (Af ai) _ (bif !bS (n,b) then(c_,10) else bif !gl (t,p,m,x,s) then(c_,40) else pM (bi (n,b)) (t,p,m,x,s))
 cases hok:bS (n,b)
 ·rw[hok] at hc
  refine(ak (fx (by rw[hc];decide))).2 ?_
  exact bD (congrArg (fun z=>LT.ret (((0,0,(0,0,0,0,0),0,([]:List Int)):Int×Int×(Int×Int×Int×Int×Int)×Int×List Int),z)) hc) (.ret _)
 rw[hok] at hc
 refine(aj (cH hc)).2 (af.2 ⟨rfl,?_⟩)
 rw[Bool.not_true,cond_false]
 have hchk:ai.k j6 ((t,p,m,x,s),8)=bif gl (t,p,m,x,s) then 0 else 40:=wU (t,p,m,x,s)
 cases hst:gl (t,p,m,x,s)
 ·rw[hst] at hchk
  exact(ak (fx (by rw[hchk];decide))).2 (.ret _)
 rw[hst] at hchk
 refine(aj (cH hchk)).2 (af.2 ⟨rfl,?_⟩)
 rw[Bool.not_true,cond_false]
 obtain⟨h2,h3,h4⟩:=(gN hb).1 hok
 obtain⟨n,rfl⟩:=Int.eq_ofNat_of_zero_le h2
 have hn:n≤4096:=by omega
 have hlen:(bi ((n:Int),b)).length=n:=by rw[fB];rfl
 have hun:bi ((n:Int),b)=unpack n b:=rfl
 have hlu:(unpack n b).length=n:=aW n b
 rw[hun]
 obtain⟨hp1,hp2,hp3,hp4⟩:=BH hn
 obtain⟨f2,f4,f1,f3⟩:=Db (n:=n)
 by_cases hs:n<2
 ·refine(ak (fx (by rw[show ai.k au (((n:Int),b),0,2)=(0,2) from Ha (a:=0) (w:=2) hok (by omega)];decide))).2 (af.2 ⟨rfl,?_⟩)
  rw[zx (by omega)]
  refine(ak (show ai.not (ai.k iT ((n:Int),1))=true from ?_)).2 (.ret _)
  rw[bg,al,hp1,show fR n 1=false from by rw[←Bool.not_eq_true,f1];omega];rfl
 have g0:ai.k au (((n:Int),b),0,2)=(((bO (unpack n b) 0 2:Nat):Int),0):=jk (a:=0) (w:=2) hok (by omega) (by decide) hn
 refine(aj (cH (congrArg Prod.snd g0))).2 (af.2 ⟨rfl,?_⟩)
 have hk:=G_ (l:=unpack n b) (by omega)
 have hf:=gm (unpack n b) 0 2
 have hK:ai.b .add .i64 (ai.v .i64 (ai.k au (((n:Int),b),0,2)).1) 1=((bO (unpack n b) 0 2+1:Nat):Int):=by
  rw[g0,bp,gW (by omega) (by omega)];exact fe (by omega)
 rw[hK]
 have g:∀a w:Nat,a+w≤n→w≤64→ai.k au (((n:Int),b),(a:Int),(w:Int))=(((bO (unpack n b) a w:Nat):Int),0):=fun a w h1 h2=>jk hok h1 h2 hn
 have hcv:∀a w:Nat,w≤8→ai.v .i64 ((bO (unpack n b) a w:Nat):Int)=((bO (unpack n b) a w:Nat):Int):=fun a w hw=>by
  have:=gm (unpack n b) a w
  have hp:2^w≤2^8:=Nat.pow_le_pow_right (by decide) hw
  rw[bp,gW (by omega) (by omega)]
 have hcase:bO (unpack n b) 0 2=0∨bO (unpack n b) 0 2=1∨bO (unpack n b) 0 2=2∨bO (unpack n b) 0 2=3:=by omega
 rcases hcase with h0|h0|h0|h0
 ·-- FrCold
  rw[h0] at hk ⊢
  by_cases hfit:fR n 1=true
  ·have h40:=f1.1 hfit
   refine(aj (show ai.not (ai.k iT ((n:Int),1))=false by rw[bg,al,hp1,hfit];rfl)).2 ((ak rfl).2 ?_)
   have g1:ai.k au (((n:Int),b),2,3)=(((bO (unpack n b) 2 3:Nat):Int),0):=g 2 3 (by omega) (by decide)
   have g2:ai.k au (((n:Int),b),5,8)=(((bO (unpack n b) 5 8:Nat):Int),0):=g 5 8 (by omega) (by decide)
   have g3:ai.k au (((n:Int),b),13,3)=(((bO (unpack n b) 13 3:Nat):Int),0):=g 13 3 (by omega) (by decide)
   refine af.2 ⟨rfl,(aj (cH (congrArg Prod.snd g1))).2 (af.2 ⟨rfl,(aj (cH (congrArg Prod.snd g2))).2 (af.2 ⟨rfl,(aj (cH (congrArg Prod.snd g3))).2 ?_⟩)⟩)⟩
   rw[ap,Af]
   dsimp only
   rw[K5 hk (by omega)]
   have hz:ai.c .neq (ai.v .i64 (ai.k au (((n:Int),b),13,3)).1) 0=(bO (unpack n b) 13 3 != 0):=by
    rw[g3,hcv 13 3 (by decide),aB,Bool.eq_iff_iff];simp
   cases hzz:(bO (unpack n b) 13 3 != 0)
   ·refine(aj (hz.trans hzz)).2 (af.2 ⟨rfl,?_⟩)
    have ho:ai.k bf (((n:Int),b),1,((0:Int),([]:List Int)))=((cN (((n:Int),b),(0, []))).1,zB,(cN (((n:Int),b),(0, []))).2):=vy (.inl rfl)
    rw[lH (u:=(0, [])) hok rfl (by omega),show over 0 (bi ((0:Int),([]:List Int)))=0 from rfl,hun] at ho
    cases hov:(over 0 (unpack n b) != 0)
    ·rw[hov] at ho
     refine(aj (cH (congrArg (fun z=>z.2.2) ho))).2 ?_
     refine(aj rfl).2 ((aj rfl).2 ((aj rfl).2 (af.2 ⟨rfl,?_⟩)))
     have l1:=gm (unpack n b) 2 3
     have l2:=gm (unpack n b) 5 8
     have e1:(ai.v .i64 (ai.k au (((n:Int),b),5,8)).1)=((bO (unpack n b) 5 8:Nat):Int):=by rw[g2];exact hcv 5 8 (by decide)
     have e2:(ai.v .i64 (ai.k au (((n:Int),b),2,3)).1)=((bO (unpack n b) 2 3:Nat):Int):=by rw[g1];exact hcv 2 3 (by decide)
     rw[e1,e2]
     have hfo:jg (1,0,(((bO (unpack n b) 5 8:Nat):Int),0,0,0,0),((bO (unpack n b) 2 3:Nat):Int), [])=true:=by
      rw[ku,s9];simp;omega
     have hch:ai.k kK (1,0,(((bO (unpack n b) 5 8:Nat):Int),0,0,0,0),((bO (unpack n b) 2 3:Nat):Int), [])=0:=by
      rw[al,om,hfo];rfl
     exact(aj (cH hch)).2 (.ret _)
    ·rw[hov] at ho
     have e2:=congrArg (fun z=>z.2.2) ho
     refine(ak (fx (show(ai.k bf (((n:Int),b),1,((0:Int),([]:List Int)))).2.2≠0 from by rw[e2];exact(by decide:(21:Int)≠0)))).2 ?_
     exact bD (congrArg (fun z=>LT.ret (((0,0,(0,0,0,0,0),0,([]:List Int)):Int×Int×(Int×Int×Int×Int×Int)×Int×List Int),z)) e2) (.ret _)
   ·exact(ak (hz.trans hzz)).2 (.ret _)
  ·rw[Bool.not_eq_true] at hfit
   rw[je (by rw[hlu,hk];exact hfit)]
   exact(ak (show ai.not (ai.k iT ((n:Int),1))=true by rw[bg,al,hp1,hfit];rfl)).2 (.ret _)
 ·-- FrN
  rw[h0] at hk ⊢
  by_cases hfit:fR n 2=true
  ·have h29:=f2.1 hfit
   refine(aj (show ai.not (ai.k iT ((n:Int),2))=false by rw[bg,al,hp2,hfit];rfl)).2 ((aj rfl).2 ((ak rfl).2 ?_))
   have g1:ai.k au (((n:Int),b),2,3)=(((bO (unpack n b) 2 3:Nat):Int),0):=g 2 3 (by omega) (by decide)
   refine af.2 ⟨rfl,(aj (cH (congrArg Prod.snd g1))).2 (af.2 ⟨rfl,?_⟩)⟩
   rw[ap,Af]
   dsimp only
   refine(aj rfl).2 (af.2 ⟨rfl,?_⟩)
   rw[Mf hk (by rw[hlu];exact hfit)]
   have hsb:ai.k ao (t,p,m,x,s)=(bM (bT (t,p,m,x,s)),0):=by rw[al,ao,oN,hst];rfl
   have ho:ai.k bf (((n:Int),b),2,(ai.k ao (t,p,m,x,s)).1)=((cN (((n:Int),b),bM (bT (t,p,m,x,s)))).1,zB,(cN (((n:Int),b),bM (bT (t,p,m,x,s)))).2):=by
    rw[hsb];exact vy (.inr rfl)
   rw[lH hok (g_ (by rw[nf];decide)) (by omega),fY,hun,hlu] at ho
   cases hov:(over (over 0 (bT (t,p,m,x,s))) (unpack n b) != 0)
   ·rw[hov] at ho
    have o1:=congrArg (fun z=>z.1) ho
    refine(aj (cH (congrArg (fun z=>z.2.2) ho))).2 ((ak rfl).2 ?_)
    have e2:(ai.v .i64 (ai.k au (((n:Int),b),2,3)).1)=((bO (unpack n b) 2 3:Nat):Int):=by rw[g1];exact hcv 2 3 (by decide)
    rw[e2]
    have hfl:((unpack n b).take (n-24)).length=n-24:=by rw[List.length_take,hlu];omega
    have hrest:=F4 (m:=n-24) (d:=(n-29)/8) (a:=5) (b:=pack ((unpack n b).take (n-24))) (by have:=g_ (l:=(unpack n b).take (n-24)) (by omega);rwa [bM,hfl] at this) (by omega) (by omega) (by decide) ((n-29)/8) 0
     ⟨t,p,m,x,s,(ai.k bf (((n:Int),b),2,(ai.k ao (t,p,m,x,s)).1)).1.1,(ai.k bf (((n:Int),b),2,(ai.k ao (t,p,m,x,s)).1)).1.2,t,p,m,x,s,0,0,0,0,0,0,0,0,2,((bO (unpack n b) 2 3:Nat):Int),0,0,0,0,0,0,(ai.k bf (((n:Int),b),2,(ai.k ao (t,p,m,x,s)).1)).2.1.1,(ai.k bf (((n:Int),b),2,(ai.k ao (t,p,m,x,s)).1)).2.1.2⟩ 0 0 0 0 0 0 0 0
     (by show(ai.k bf (((n:Int),b),2,(ai.k ao (t,p,m,x,s)).1)).1.1=_;rw[o1];show(((unpack n b).take (n-24)).length:Int)=_;rw[hfl]) (by show(ai.k bf (((n:Int),b),2,(ai.k ao (t,p,m,x,s)).1)).1.2=_;rw[o1];rfl) rfl rfl rfl rfl rfl rfl (by omega) (by omega)
    rw[show unpack (n-24) (pack ((unpack n b).take (n-24)))=(unpack n b).take (n-24) from by have:=unpack_pack ((unpack n b).take (n-24));rwa [hfl] at this] at hrest
    refine Eq.mp (congrArg (aK (Af ai) _) ?_) hrest
    have hdd:aZ ((n-29)/8) (((unpack n b).take (n-24)).drop 5)=aZ (((unpack n b).length-29)/8) ((unpack n b).drop 5):=by
     rw[hlu]
     exact qB (by omega) (by rw[hlu];omega)
    show(bif jg (2,((bO (unpack n b) 2 3:Nat):Int),(t,p,m,x,s),0,aZ ((n-29)/8) (((unpack n b).take (n-24)).drop 5)) then((2,((bO (unpack n b) 2 3:Nat):Int),(t,p,m,x,s),0,aZ ((n-29)/8) (((unpack n b).take (n-24)).drop 5)),0) else(c_,51))=_
    rw[hdd,cond_false]
    have hfo:jg (2,((bO (unpack n b) 2 3:Nat):Int),(t,p,m,x,s),0,aZ (((unpack n b).length-29)/8) ((unpack n b).drop 5))=!decide (4<bO (unpack n b) 2 3):=by
     rw[Bool.eq_iff_iff,ku,hst,dJ];simp;omega
    rw[hfo]
    cases decide (4<bO (unpack n b) 2 3)<;>rfl
   ·rw[hov] at ho
    have e2:=congrArg (fun z=>z.2.2) ho
    refine(ak (fx (show(ai.k bf (((n:Int),b),2,(ai.k ao (t,p,m,x,s)).1)).2.2≠0 from by rw[e2];exact(by decide:(21:Int)≠0)))).2 ?_
    exact bD (congrArg (fun z=>LT.ret (((0,0,(0,0,0,0,0),0,([]:List Int)):Int×Int×(Int×Int×Int×Int×Int)×Int×List Int),z)) e2) (.ret _)
  ·rw[Bool.not_eq_true] at hfit
   rw[je (by rw[hlu,hk];exact hfit)]
   exact(ak (show ai.not (ai.k iT ((n:Int),2))=true by rw[bg,al,hp2,hfit];rfl)).2 (.ret _)
 ·-- FrI
  rw[h0] at hk ⊢
  rw[show((2+1:Nat):Int)=3 from rfl]
  by_cases hfit:fR n 3=true
  ·have h54:=f3.1 hfit
   refine(aj (show ai.not (ai.k iT ((n:Int),3))=false by rw[bg,al,hp3,hfit];rfl)).2 ((aj rfl).2 ((aj rfl).2 ?_))
   have g1:ai.k au (((n:Int),b),2,3)=(((bO (unpack n b) 2 3:Nat):Int),0):=g 2 3 (by omega) (by decide)
   have g2:ai.k au (((n:Int),b),5,(ai.b .sub .i64 3 2))=(((bO (unpack n b) 5 1:Nat):Int),0):=g 5 1 (by omega) (by decide)
   have e2:(ai.v .i64 (ai.k au (((n:Int),b),2,3)).1)=((bO (unpack n b) 2 3:Nat):Int):=by rw[g1];exact hcv 2 3 (by decide)
   have hql:(((unpack n b).drop 6).take 24).length=24:=by rw[List.length_take,List.length_drop,hlu];omega
   refine af.2 ⟨rfl,(aj (cH (congrArg Prod.snd g1))).2 ?_⟩
   repeat (first|refine aJ.2 ⟨⟨rfl,rfl⟩,?_⟩|refine aJ.2 ⟨rfl,?_⟩|refine af.2 ⟨rfl,?_⟩)
   refine(aj (cH (congrArg Prod.snd g2))).2 ?_
   repeat (first|refine aJ.2 ⟨⟨rfl,rfl⟩,?_⟩|refine aJ.2 ⟨rfl,?_⟩|refine af.2 ⟨rfl,?_⟩)
   rw[ap,Af]
   dsimp only
   rw[Kl hk (by omega)]
   have hz:ai.c .neq (ai.v .i64 (ai.k au (((n:Int),b),5,(ai.b .sub .i64 3 2))).1) 0=(bO (unpack n b) 5 1 != 0):=by
    rw[g2,hcv 5 1 (by decide),aB,Bool.eq_iff_iff];simp
   cases hzz:(bO (unpack n b) 5 1 != 0)
   ·refine(aj (hz.trans hzz)).2 (af.2 ⟨rfl,?_⟩)
    have ho:ai.k bf (((n:Int),b),3,((0:Int),([]:List Int)))=_:=Cw hok h54
    cases hov:(over 0 (unpack n b) != 0)
    ·rw[hov,cond_false] at ho
     refine(aj (cH (congrArg (fun z=>z.2.2) ho))).2 ((aj rfl).2 ((aj rfl).2 ((ak rfl).2 (af.2 ⟨rfl,?_⟩))))
     have hpz:ai.k gn (ai.k bf (((n:Int),b),3,((0:Int),([]:List Int)))).2.1=bif gl (h_ (((unpack n b).drop 6).take 24)) then(h_ (((unpack n b).drop 6).take 24),0) else(zS,40):=by
      rw[ho];exact sC hql
     cases hso:gl (h_ (((unpack n b).drop 6).take 24))
     ·rw[hso] at hpz
      exact(ak (fx (show(ai.k gn (ai.k bf (((n:Int),b),3,((0:Int),([]:List Int)))).2.1).2≠0 from by rw[hpz];exact(by decide:(40:Int)≠0)))).2 (.ret _)
     ·rw[hso,cond_true] at hpz
      refine(aj (cH (congrArg Prod.snd hpz))).2 (af.2 ⟨rfl,?_⟩)
      rw[e2,hpz]
      have hfo:jg (3,((bO (unpack n b) 2 3:Nat):Int),h_ (((unpack n b).drop 6).take 24),0, [])=!decide (4<bO (unpack n b) 2 3):=by
       have hso':=hso
       rw[h_] at hso' ⊢
       rw[Bool.eq_iff_iff,ku,hso'];simp;omega
      have hch:ai.k kK (3,((bO (unpack n b) 2 3:Nat):Int),h_ (((unpack n b).drop 6).take 24),0, [])=bif !decide (4<bO (unpack n b) 2 3) then 0 else 50:=by
       rw[←hfo];exact om
      cases hd:decide (4<bO (unpack n b) 2 3)
      ·rw[hd] at hch
       exact(aj (cH hch)).2 (.ret _)
      ·rw[hd] at hch
       exact(ak (fx (show ai.k kK (3,((bO (unpack n b) 2 3:Nat):Int),h_ (((unpack n b).drop 6).take 24),0, [])≠0 from by rw[hch];exact(by decide:(50:Int)≠0)))).2 (.ret _)
    ·rw[hov,cond_true] at ho
     have e3:=congrArg (fun z=>z.2.2) ho
     refine(ak (fx (show(ai.k bf (((n:Int),b),3,((0:Int),([]:List Int)))).2.2≠0 from by rw[e3];exact(by decide:(21:Int)≠0)))).2 ?_
     exact bD (congrArg (fun z=>LT.ret (((0,0,(0,0,0,0,0),0,([]:List Int)):Int×Int×(Int×Int×Int×Int×Int)×Int×List Int),z)) e3) (.ret _)
   ·exact(ak (hz.trans hzz)).2 (.ret _)
  ·rw[Bool.not_eq_true] at hfit
   rw[je (by rw[hlu,hk];exact hfit)]
   exact(ak (show ai.not (ai.k iT ((n:Int),3))=true by rw[bg,al,hp3,hfit];rfl)).2 (.ret _)
 ·-- FrX
  rw[h0] at hk ⊢
  rw[show((3+1:Nat):Int)=4 from rfl]
  by_cases hfit:fR n 4=true
  ·have h79:=f4.1 hfit
   refine(aj (show ai.not (ai.k iT ((n:Int),4))=false by rw[bg,al,hp4,hfit];rfl)).2 ((aj rfl).2 ((aj rfl).2 ?_))
   have g1:ai.k au (((n:Int),b),2,3)=(((bO (unpack n b) 2 3:Nat):Int),0):=g 2 3 (by omega) (by decide)
   have g2:ai.k au (((n:Int),b),5,(ai.b .sub .i64 4 2))=(((bO (unpack n b) 5 2:Nat):Int),0):=g 5 2 (by omega) (by decide)
   have e2:(ai.v .i64 (ai.k au (((n:Int),b),2,3)).1)=((bO (unpack n b) 2 3:Nat):Int):=by rw[g1];exact hcv 2 3 (by decide)
   have hql:(((unpack n b).drop 7).take 24).length=24:=by rw[List.length_take,List.length_drop,hlu];omega
   refine af.2 ⟨rfl,(aj (cH (congrArg Prod.snd g1))).2 ?_⟩
   repeat (first|refine aJ.2 ⟨⟨rfl,rfl⟩,?_⟩|refine aJ.2 ⟨rfl,?_⟩|refine af.2 ⟨rfl,?_⟩)
   refine(aj (cH (congrArg Prod.snd g2))).2 ?_
   repeat (first|refine aJ.2 ⟨⟨rfl,rfl⟩,?_⟩|refine aJ.2 ⟨rfl,?_⟩|refine af.2 ⟨rfl,?_⟩)
   rw[ap,Af]
   dsimp only
   rw[J3 hk (by rw[hlu];exact hfit)]
   have hz:ai.c .neq (ai.v .i64 (ai.k au (((n:Int),b),5,(ai.b .sub .i64 4 2))).1) 0=(bO (unpack n b) 5 2 != 0):=by
    rw[g2,hcv 5 2 (by decide),aB,Bool.eq_iff_iff];simp
   cases hzz:(bO (unpack n b) 5 2 != 0)
   ·refine(aj (hz.trans hzz)).2 (af.2 ⟨rfl,?_⟩)
    have ho:ai.k bf (((n:Int),b),4,((0:Int),([]:List Int)))=_:=B4 hok h79.1 h79.2.1
    cases hov:(over 0 ((unpack n b).take 55) != 0)
    ·cases hov2:(over (over 0 (((unpack n b).drop 7).take 24)) (unpack n b) != 0)
     ·rw[hov,cond_false,hov2,cond_false] at ho
      have o1:=congrArg (fun z=>z.1) ho
      have o2:=congrArg (fun z=>z.2.1) ho
      refine(aj (cH (congrArg (fun z=>z.2.2) ho))).2 ((aj rfl).2 ((ak rfl).2 ?_))
      rw[e2]
      have hfl:((unpack n b).take (n-24)).length=n-24:=by rw[List.length_take,hlu];omega
      have hrest:=Hl (m:=n-24) (d:=(n-79)/8) (a:=55) (b:=pack ((unpack n b).take (n-24))) (by have:=g_ (l:=(unpack n b).take (n-24)) (by omega);rwa [bM,hfl] at this) (by omega) (by omega) (by decide) ((n-79)/8) 0
       ⟨(ai.k bf (((n:Int),b),4,((0:Int),([]:List Int)))).1.1,(ai.k bf (((n:Int),b),4,((0:Int),([]:List Int)))).1.2,t,p,m,x,s,0,0,0,0,0,0,0,0,4,((bO (unpack n b) 2 3:Nat):Int),0,0,0,0,0,0,(ai.k bf (((n:Int),b),4,((0:Int),([]:List Int)))).2.1.1,(ai.k bf (((n:Int),b),4,((0:Int),([]:List Int)))).2.1.2⟩ 0 0 0 0 0 0 0 0
       (by show(ai.k bf (((n:Int),b),4,((0:Int),([]:List Int)))).1.1=_;rw[o1];show(((unpack n b).take (n-24)).length:Int)=_;rw[hfl]) (by show(ai.k bf (((n:Int),b),4,((0:Int),([]:List Int)))).1.2=_;rw[o1];rfl) rfl (by omega) (by omega)
      rw[show unpack (n-24) (pack ((unpack n b).take (n-24)))=(unpack n b).take (n-24) from by have:=unpack_pack ((unpack n b).take (n-24));rwa [hfl] at this] at hrest
      refine Eq.mp (congrArg (aK (Af ai) _) ?_) hrest
      have hdd:aZ ((n-79)/8) (((unpack n b).take (n-24)).drop 55)=aZ (((unpack n b).length-79)/8) ((unpack n b).drop 55):=by
       rw[hlu]
       exact qB (by omega) (by rw[hlu];omega)
      have hpz:dC ((ai.k bf (((n:Int),b),4,((0:Int),([]:List Int)))).2.1.1,(ai.k bf (((n:Int),b),4,((0:Int),([]:List Int)))).2.1.2)=bif gl (h_ (((unpack n b).drop 7).take 24)) then(h_ (((unpack n b).drop 7).take 24),0) else(zS,40):=by
       rw[o2];exact sC hql
      show(bif (dC ((ai.k bf (((n:Int),b),4,((0:Int),([]:List Int)))).2.1.1,(ai.k bf (((n:Int),b),4,((0:Int),([]:List Int)))).2.1.2)).2 != 0 then(c_,51) else bif jg (4,((bO (unpack n b) 2 3:Nat):Int),(dC ((ai.k bf (((n:Int),b),4,((0:Int),([]:List Int)))).2.1.1,(ai.k bf (((n:Int),b),4,((0:Int),([]:List Int)))).2.1.2)).1,0,aZ ((n-79)/8) (((unpack n b).take (n-24)).drop 55)) then((4,((bO (unpack n b) 2 3:Nat):Int),(dC ((ai.k bf (((n:Int),b),4,((0:Int),([]:List Int)))).2.1.1,(ai.k bf (((n:Int),b),4,((0:Int),([]:List Int)))).2.1.2)).1,0,aZ ((n-79)/8) (((unpack n b).take (n-24)).drop 55)),0) else(c_,51))=_
      rw[hpz,hdd,Bool.or_false,cond_false,cond_false]
      cases hso:gl (h_ (((unpack n b).drop 7).take 24))
      ·rfl
      ·have hfo:jg (4,((bO (unpack n b) 2 3:Nat):Int),h_ (((unpack n b).drop 7).take 24),0,aZ (((unpack n b).length-79)/8) ((unpack n b).drop 55))=!decide (4<bO (unpack n b) 2 3):=by
        have hso':=hso
        rw[h_] at hso' ⊢
        rw[Bool.eq_iff_iff,ku,hso',dJ];simp;omega
       rw[cond_true,hfo]
       cases decide (4<bO (unpack n b) 2 3)<;>rfl
     ·rw[hov,cond_false,hov2,cond_true] at ho
      have e3:=congrArg (fun z=>z.2.2) ho
      refine(ak (fx (show(ai.k bf (((n:Int),b),4,((0:Int),([]:List Int)))).2.2≠0 from by rw[e3];exact(by decide:(21:Int)≠0)))).2 ?_
      exact bD (congrArg (fun z=>LT.ret (((0,0,(0,0,0,0,0),0,([]:List Int)):Int×Int×(Int×Int×Int×Int×Int)×Int×List Int),z)) e3) (.ret _)
    ·rw[hov,cond_true] at ho
     have e3:=congrArg (fun z=>z.2.2) ho
     refine(ak (fx (show(ai.k bf (((n:Int),b),4,((0:Int),([]:List Int)))).2.2≠0 from by rw[e3];exact(by decide:(21:Int)≠0)))).2 ?_
     exact bD (congrArg (fun z=>LT.ret (((0,0,(0,0,0,0,0),0,([]:List Int)):Int×Int×(Int×Int×Int×Int×Int)×Int×List Int),z)) e3) (.ret _)
   ·exact(ak (hz.trans hzz)).2 (.ret _)
  ·rw[Bool.not_eq_true] at hfit
   rw[je (by rw[hlu,hk];exact hfit)]
   exact(ak (show ai.not (ai.k iT ((n:Int),4))=true by rw[bg,al,hp4,hfit];rfl)).2 (.ret _)
def uw:((Int×List Int)×(Int×Int×Int×Int×Int))→((Int×Int×(Int×Int×Int×Int×Int)×Int×List Int)×Int):=zw
def Vj:aG:=⟨[(.struct [yI,yB]),(.struct [yI,yI,yI,yI,yI])], [(.struct [yI,yI,(.struct [yI,yI,yI,yI,yI]),yI,yB]),yI],(@tt ((Int×List Int)×(Int×Int×Int×Int×Int))),uw⟩
theorem Vs:Sd 179 Vj:=aQ aA dY false 298 [⟨241,3, [[0,3,4], [3,4,8,12,97,100]]⟩] [⟨179,19, [[2,3,4,7,8,9,10]]⟩] (fun A ((bN,bB),cTime,cPos,cMode,cNext,cMember)=>t50 A bN bB cTime cPos cMode cNext cMember) Af Pv (fc Tryz.func179 (fc Tryz.func237 (fc Tryz.func241 fz))) (sc M2 (sc xP (sc RI (sc yX (sc My (sc Rf (sc SN (sc A4 sz)))))))) (fun A y=>match y with |.c0 p=>⟨116,zf (by kernel_rfl)⟩|.c1 p=>⟨116,zf (by kernel_rfl)⟩|.c2 p c0 c8 c9 c10 c11 c12 c13 c14 iQ c16=>⟨92,zf (by kernel_rfl)⟩|.c3 p d0 d3 d4 d5 d6 d7 d8 d9 d10 d11=>⟨92,zf (by kernel_rfl)⟩) fun((bN,bB),cTime,cPos,cMode,cNext,cMember) hp h=>JF h
open Go.Ev.Pl
def t53(A:bK)(bN:Int)(bB:List Int)(cTime:Int)(cPos:Int)(cMode:Int)(cNext:Int)(cMember:Int):LT ((Int×Int×(Int×Int×Int×Int×Int)×Int×List Int)×Bool) Empty:=.need (A.k (@tt ((Int×List Int)×(Int×Int×Int×Int×Int))) ((bN,bB),cTime,cPos,cMode,cNext,cMember)) (.br (A.c .neq (A.k uw ((bN,bB),cTime,cPos,cMode,cNext,cMember)).2 0) (.ret ((0,0,(0,0,0,0,0),0,([]:List Int)),false)) (.br (A.c .eql (A.k uw ((bN,bB),cTime,cPos,cMode,cNext,cMember)).1.1 1) (.ret ((0,0,(0,0,0,0,0),0,([]:List Int)),false)) (.br (A.not (A.and (A.c .eql (A.k uw ((bN,bB),cTime,cPos,cMode,cNext,cMember)).1.2.2.1.1 cTime) (A.and (A.c .eql (A.k uw ((bN,bB),cTime,cPos,cMode,cNext,cMember)).1.2.2.1.2.1 cPos) (A.and (A.c .eql (A.k uw ((bN,bB),cTime,cPos,cMode,cNext,cMember)).1.2.2.1.2.2.1 cMode) (A.and (A.c .eql (A.k uw ((bN,bB),cTime,cPos,cMode,cNext,cMember)).1.2.2.1.2.2.2.1 cNext) (A.and (A.c .eql (A.k uw ((bN,bB),cTime,cPos,cMode,cNext,cMember)).1.2.2.1.2.2.2.2 cMember) true)))))) (.ret ((0,0,(0,0,0,0,0),0,([]:List Int)),false)) (.ret ((A.k uw ((bN,bB),cTime,cPos,cMode,cNext,cMember)).1,true)))))
def Ad:((Int×List Int)×(Int×Int×Int×Int×Int))→((Int×Int×(Int×Int×Int×Int×Int)×Int×List Int)×Bool):=fun((bN,bB),cTime,cPos,cMode,cNext,cMember)=>(t53 ai bN bB cTime cPos cMode cNext cMember).val (Ty.cq [(.struct [yI,yI,(.struct [yI,yI,yI,yI,yI]),yI,yB]),.bool])
def Vm:aG:=⟨[(.struct [yI,yB]),(.struct [yI,yI,yI,yI,yI])], [(.struct [yI,yI,(.struct [yI,yI,yI,yI,yI]),yI,yB]),.bool],(@tt ((Int×List Int)×(Int×Int×Int×Int×Int))),Ad⟩
theorem WL:Sd 103 Vm:=aO aA dY true 50 [] (fun A ((bN,bB),cTime,cPos,cMode,cNext,cMember)=>t53 A bN bB cTime cPos cMode cNext cMember) (fc Tryz.func103 fz) (sc Vs sz) (fun(((bN,bB),cTime,cPos,cMode,cNext,cMember):(Int×List Int)×(Int×Int×Int×Int×Int)) hp h=>by
 show(t53 ai bN bB cTime cPos cMode cNext cMember).pre=true
 simp[t53,LT.pre,al,dh])
theorem H7{b:Int×List Int}{t p m n s:Int}:Ad (b,(t,p,m,n,s))=qD (b,(t,p,m,n,s)):=by
 obtain⟨bn,bb⟩:=b
 simp only[Ad,t53,LT.val,qD,al,aB,aC,aM,bg,uw,Bool.and_true]
 generalize zw ((bn,bb),(t,p,m,n,s))=q
 obtain⟨⟨k,r,⟨t',p',m',n',s'⟩,fr,d⟩,e⟩:=q
 simp only[]
 have hx:((t',p',m',n',s') != (t,p,m,n,s))=!(t'==t&&(p'==p&&(m'==m&&(n'==n&&s'==s)))):=by
  rw[Bool.eq_iff_iff]
  simp only[bne_iff_ne,ne_eq,Bool.not_eq_true',Prod.mk.injEq]
  rw[←Bool.not_eq_true]
  simp only[Bool.and_eq_true,beq_iff_eq]
 rw[hx]
 cases e != 0<;>cases k==1<;>cases (t'==t&&(p'==p&&(m'==m&&(n'==n&&s'==s))))<;>rfl
theorem Bt{v:Nat}(h:v<4611686018427387904):ai.v .i64 (v:Int)=(v:Int):=by rw[bp,gW (by omega) (by omega)]
theorem oS{l u:List Bool}(hl:l.length+24≤4096)(hu:u.length≤4096):ya (bM l,bM u)=(bM (dW (over 0 u) l),0):=by
 rw[ya]
 show(bif bS (bM u)&&bS (bM l) then CM (dW (over 0 (bi (bM u))) (bi (bM l))) else(zB,10))=_
 rw[g_ hu,g_ (l:=l) (by omega),fY,fY,mD (by rw[oL];omega)]
 rfl
theorem AF{l u:List Bool}(h:l.length+u.length≤4096):vg [bM l,bM u]=(bM (l++u),0):=by
 rw[vg]
 show(bif (bS (bM l)&&(bS (bM u)&&true)) then CM (bi (bM l)++(bi (bM u) ++ [])) else(zB,10))=_
 rw[g_ (l:=l) (by omega),g_ (l:=u) (by omega),fY,fY,List.append_nil,mD (by rw[List.length_append];exact h)]
 rfl
theorem DK{k r t p m n s fr:Int}{d:List Int}(h:Ty.dM [.struct [(.int .i64),(.int .i64),(.struct [(.int .i64),(.int .i64),(.int .i64),(.int .i64),(.int .i64)]),(.int .i64),(.slice (.int .u8))]] (k,r,(t,p,m,n,s),fr,d)):cn d:=by
 have h2:d.length≤cY∧∀x∈d,0≤x∧x≤255:=h.2.2.2.2
 exact h2.2
end Go.Ev.M
