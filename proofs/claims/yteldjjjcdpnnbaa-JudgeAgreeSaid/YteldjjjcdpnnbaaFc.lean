/-
  PROVED: what frame.Parse, Good and Explicit compute. Conditions: none.
-/
import Derived.Test.YteldjjjcdpnnbaaFb
namespace Go.Ev.M
open Go.Proofs
set_option maxRecDepth 100000
set_option linter.unusedVariables false
set_option linter.unusedSimpArgs false
open Go.Ev.Pl
structure J2 where
 (a0 a1:Int) (a2:List Int) (a3 a4 a5 a6 a7 a8 a9 lu mg a12 sU lf lz a16:Int) (a17:List Int) (qs j3 a20 a21 a22 a23 a24 a25 a26 a27:Int)
structure Ji where
 (b0 b1:Int) (b2:List Int) (b3 b4 b5 b6 b7 b8 b9 b10 b11 b12 b13 wz xw yu:Int) (yA:List Int) (sO ij i6 iN je lN lM ob my jR:Int) (jU:List Int)
structure F1 where
 (c1 c2 c3 c4 c5 c6:Int) (c7:List Int) (CB v_ c19 c20 c21 zP c23 c24 Kp DU DV c28 Ka xA c31 c32 Kj c34 Ki Kf c37 Kh:Int) (Km:List Int)
structure FB where
 (d1:Int) (d2:List Int) (O3 ON EL DO DT O0 OX OY O6 O4 OT OR Ef tp yk FW E7 FQ Fh O5 Av uY:Int) (vC:List Int)
inductive FZ where
 | c0 (p:J2)
 | c1 (p:Ji)
 | c2 (p:F1) (c0:Int) (c8:Int) (c9:Int) (c10:Int) (c11:Int) (c12:Int) (c13:Int) (c14:Int) (gY:Int) (c16:Int)
 | c3 (p:FB) (d0:Int) (d3:Int) (d4:Int) (d5:Int) (d6:Int) (d7:Int) (d8:Int) (d9:Int) (d10:Int) (d11:Int)
noncomputable def IB:FZ→iH
 | .c0 p=>⟨[⟨36,122,(en [(2,.ptr 0 0),(3,.ptr 1 0),(4,.ptr 2 0),(7,.ptr 3 0),(8,.ptr 4 0),(9,.ptr 5 0),(10,vi p.a0)]),[.code (cw Try.f36 [1,1,1,1,1,1,1,1,1,0,0]),.code (cw Try.f36 [1,1,1,1,1,1,1,1,1,0,1]),.code (cw Try.f36 [1,1,1,1,1,1,1,1,1,1])],[],none⟩],[.flat false [vi p.a1,.sl yU p.a2],.flat false [vi p.a3,vi p.a4,vi p.a5,vi p.a6,vi p.a7],.flat false [vi p.a8,vi p.a9,vi p.lu,vi p.mg,vi p.a12,vi p.sU,vi p.lf,vi p.lz,.du true],.flat false [vi p.a16,.sl yU p.a17,vi p.qs],.flat false [vi p.j3,vi p.a20,vi p.a21,vi p.a22,vi p.a23,vi p.a24,vi p.a25,vi p.a26,.du true],.flat false [vi p.a27,.du true],.dead]⟩
 | .c1 p=>⟨[⟨36,122,(en [(2,.ptr 0 0),(3,.ptr 1 0),(4,.ptr 2 0),(7,.ptr 3 0),(8,.ptr 4 0),(9,.ptr 5 0),(10,vi p.b0)]),[.code (cw Try.f36 [1,1,1,1,1,1,1,1,1,0,0]),.code (cw Try.f36 [1,1,1,1,1,1,1,1,1,0,1]),.code (cw Try.f36 [1,1,1,1,1,1,1,1,1,1])],[],none⟩],[.flat false [vi p.b1,.sl yU p.b2],.flat false [vi p.b3,vi p.b4,vi p.b5,vi p.b6,vi p.b7],.flat false [vi p.b8,vi p.b9,vi p.b10,vi p.b11,vi p.b12,vi p.b13,vi p.wz,vi p.xw,.du true],.flat false [vi p.yu,.sl yU p.yA,vi p.sO],.flat false [vi p.ij,vi p.i6,vi p.iN,vi p.je,vi p.lN,vi p.lM,vi p.ob,vi p.my,.du true],.flat false [vi p.jR,.sl yU p.jU],.dead]⟩
 | .c2 p c0 c8 c9 c10 c11 c12 c13 c14 gY c16=>⟨[⟨45,34,(en [(0,.ptr 0 0),(3,.ptr 1 0),(4,vi c0)]),[.inLoop (cw Try.f45 [1,1,1,0,0,0]),.inBlock 0,.code (cw Try.f45 [1,1,1,1])],[],none⟩,⟨36,122,(en [(3,.ptr 2 0),(4,.ptr 3 0),(8,.ptr 4 0),(12,.ptr 5 0),(97,.agg [vi p.c1,vi p.c2,vi p.c3,vi p.c4,vi p.c5]),(100,.ptr 4 2)]),[.jL (ow Try.f36 [1,1,1,1,1,1,1,1,1,1,1,1,1,0,1,0,0,0,0,0,1,0]) [0,0,2,1,15,31,63] 2 [4,5,6] [3,0],.code (.exit 1),.inBlock 3,.code (cw Try.f36 [1,1,1,1,1,1,1,1,1,1,1,1,1,0,1,0,0,0,1]),.inBlock 4,.code (cw Try.f36 [1,1,1,1,1,1,1,1,1,1,1,1,1,0,1,0,1]),.inBlock 1,.code (cw Try.f36 [1,1,1,1,1,1,1,1,1,1,1,1,1,1])],[],none⟩],[.flat false [vi p.c6,.sl yU p.c7,vi c8],.flat false [.int .u8 false c9,.int .u8 false c10,.int .u8 false c11,.int .u8 false c12,.int .u8 false c13,.int .u8 false c14,.int .u8 false gY,.int .u8 false c16],.flat false [vi p.CB,vi p.v_,vi p.c19,vi p.c20,vi p.c21],.flat false [vi p.zP,vi p.c23,vi p.c24,vi p.Kp,vi p.DU,vi p.DV,vi p.c28,vi p.Ka,.du true],.flat false [vi p.xA,vi p.c31,vi p.c32,vi p.Kj,vi p.c34,vi p.Ki,vi p.Kf,vi p.c37,.du true],.flat false [vi p.Kh,.sl yU p.Km],.dead]⟩
 | .c3 p d0 d3 d4 d5 d6 d7 d8 d9 d10 d11=>⟨[⟨45,34,(en [(0,.ptr 0 0),(3,.ptr 1 0),(4,vi d0)]),[.inLoop (cw Try.f45 [1,1,1,0,0,0]),.inBlock 0,.code (cw Try.f45 [1,1,1,1])],[],none⟩,⟨36,122,(en [(3,.ptr 2 0),(4,.ptr 3 0),(8,.ptr 4 0),(12,.ptr 5 0),(97,.undef),(100,.undef)]),[.ops (ow Try.f36 [1,1,1,1,1,1,1,1,1,1,1,1,1,0,1,0,0,0,1,1]) ((ow Try.f36 [1,1,1,1,1,1,1,1,1,1,1,1,1,0,1,0,0,0,1,1]).toList.drop 1),.inBlock 4,.code (cw Try.f36 [1,1,1,1,1,1,1,1,1,1,1,1,1,0,1,0,1]),.inBlock 1,.code (cw Try.f36 [1,1,1,1,1,1,1,1,1,1,1,1,1,1])],[],none⟩],[.flat false [vi p.d1,.sl yU p.d2,vi d3],.flat false [.int .u8 false d4,.int .u8 false d5,.int .u8 false d6,.int .u8 false d7,.int .u8 false d8,.int .u8 false d9,.int .u8 false d10,.int .u8 false d11],.flat false [vi p.O3,vi p.ON,vi p.EL,vi p.DO,vi p.DT],.flat false [vi p.O0,vi p.OX,vi p.OY,vi p.O6,vi p.O4,vi p.OT,vi p.OR,vi p.Ef,.du true],.flat false [vi p.tp,vi p.yk,vi p.FW,vi p.E7,vi p.FQ,vi p.Fh,vi p.O5,vi p.Av,.du true],.flat false [vi p.uY,.sl yU p.vC],.dead]⟩
def t50(A:cH)(bN:Int)(bB:List Int)(cTime:Int)(cPos:Int)(cMode:Int)(cNext:Int)(cMember:Int):LT ((Int×Int×(Int×Int×Int×Int×Int)×Int×List Int)×Int) FZ:=.need (A.k (@tt ((Int×List Int))) (bN,bB)) (.br (A.c .neq (A.k ia (bN,bB)) 0) (.ret ((0,0,(0,0,0,0,0),0,([]:List Int)),(A.k ia (bN,bB)))) (.need (A.k (@tt ((Int×Int×Int×Int×Int)×Int)) ((cTime,cPos,cMode,cNext,cMember),8)) (.br (A.c .neq (A.k j4 ((cTime,cPos,cMode,cNext,cMember),8)) 0) (.ret ((0,0,(0,0,0,0,0),0,([]:List Int)),40)) (.need (A.k (@tt ((Int×List Int)×Int×Int)) ((bN,bB),0,2)) (.br (A.c .neq (A.k ar ((bN,bB),0,2)).2 0) (.need (A.k (@tt (Int×Int)) (bN,1)) (.br (A.not (A.k gW (bN,1))) (.ret ((0,0,(0,0,0,0,0),0,([]:List Int)),51)) (.need (A.k (@tt ((Int×List Int)×Int×Int)) ((bN,bB),0,3)) (.br (A.c .neq (A.k ar ((bN,bB),0,3)).2 0) (.need (A.k (@tt ((Int×List Int)×Int×Int)) ((bN,bB),0,8)) (.br (A.c .neq (A.k ar ((bN,bB),0,8)).2 0) (.need (A.k (@tt ((Int×List Int)×Int×Int)) ((bN,bB),0,3)) (.br (A.c .neq (A.k ar ((bN,bB),0,3)).2 0) (.more (.c0 ⟨0,bN,bB,cTime,cPos,cMode,cNext,cMember,0,0,0,0,0,0,0,0,bN,bB,0,1,0,0,0,0,0,0,0,0⟩)) (.more (.c0 ⟨(A.v .i64 (A.k ar ((bN,bB),0,3)).1),bN,bB,cTime,cPos,cMode,cNext,cMember,0,0,0,0,0,0,0,0,bN,bB,3,1,0,0,0,0,0,0,0,0⟩)))) (.need (A.k (@tt ((Int×List Int)×Int×Int)) ((bN,bB),8,3)) (.br (A.c .neq (A.k ar ((bN,bB),8,3)).2 0) (.more (.c0 ⟨0,bN,bB,cTime,cPos,cMode,cNext,cMember,0,0,0,0,0,0,0,0,bN,bB,8,1,0,(A.v .i64 (A.k ar ((bN,bB),0,8)).1),0,0,0,0,0,0⟩)) (.more (.c0 ⟨(A.v .i64 (A.k ar ((bN,bB),8,3)).1),bN,bB,cTime,cPos,cMode,cNext,cMember,0,0,0,0,0,0,0,0,bN,bB,11,1,0,(A.v .i64 (A.k ar ((bN,bB),0,8)).1),0,0,0,0,0,0⟩)))))) (.need (A.k (@tt ((Int×List Int)×Int×Int)) ((bN,bB),3,8)) (.br (A.c .neq (A.k ar ((bN,bB),3,8)).2 0) (.need (A.k (@tt ((Int×List Int)×Int×Int)) ((bN,bB),3,3)) (.br (A.c .neq (A.k ar ((bN,bB),3,3)).2 0) (.more (.c0 ⟨0,bN,bB,cTime,cPos,cMode,cNext,cMember,0,0,0,0,0,0,0,0,bN,bB,3,1,0,0,0,0,0,0,(A.v .i64 (A.k ar ((bN,bB),0,3)).1),0⟩)) (.more (.c0 ⟨(A.v .i64 (A.k ar ((bN,bB),3,3)).1),bN,bB,cTime,cPos,cMode,cNext,cMember,0,0,0,0,0,0,0,0,bN,bB,6,1,0,0,0,0,0,0,(A.v .i64 (A.k ar ((bN,bB),0,3)).1),0⟩)))) (.need (A.k (@tt ((Int×List Int)×Int×Int)) ((bN,bB),11,3)) (.br (A.c .neq (A.k ar ((bN,bB),11,3)).2 0) (.more (.c0 ⟨0,bN,bB,cTime,cPos,cMode,cNext,cMember,0,0,0,0,0,0,0,0,bN,bB,11,1,0,(A.v .i64 (A.k ar ((bN,bB),3,8)).1),0,0,0,0,(A.v .i64 (A.k ar ((bN,bB),0,3)).1),0⟩)) (.more (.c0 ⟨(A.v .i64 (A.k ar ((bN,bB),11,3)).1),bN,bB,cTime,cPos,cMode,cNext,cMember,0,0,0,0,0,0,0,0,bN,bB,14,1,0,(A.v .i64 (A.k ar ((bN,bB),3,8)).1),0,0,0,0,(A.v .i64 (A.k ar ((bN,bB),0,3)).1),0⟩)))))))))) (.need (A.k (@tt (Int×Int)) (bN,(A.b .add .i64 (A.v .i64 (A.k ar ((bN,bB),0,2)).1) 1))) (.br (A.not (A.k gW (bN,(A.b .add .i64 (A.v .i64 (A.k ar ((bN,bB),0,2)).1) 1)))) (.ret ((0,0,(0,0,0,0,0),0,([]:List Int)),51)) (.br (A.c .eql (A.b .add .i64 (A.v .i64 (A.k ar ((bN,bB),0,2)).1) 1) 1) (.need (A.k (@tt ((Int×List Int)×Int×Int)) ((bN,bB),2,3)) (.br (A.c .neq (A.k ar ((bN,bB),2,3)).2 0) (.need (A.k (@tt ((Int×List Int)×Int×Int)) ((bN,bB),2,8)) (.br (A.c .neq (A.k ar ((bN,bB),2,8)).2 0) (.need (A.k (@tt ((Int×List Int)×Int×Int)) ((bN,bB),2,3)) (.br (A.c .neq (A.k ar ((bN,bB),2,3)).2 0) (.more (.c0 ⟨0,bN,bB,cTime,cPos,cMode,cNext,cMember,0,0,0,0,0,0,0,0,bN,bB,2,(A.b .add .i64 (A.v .i64 (A.k ar ((bN,bB),0,2)).1) 1),0,0,0,0,0,0,0,0⟩)) (.more (.c0 ⟨(A.v .i64 (A.k ar ((bN,bB),2,3)).1),bN,bB,cTime,cPos,cMode,cNext,cMember,0,0,0,0,0,0,0,0,bN,bB,5,(A.b .add .i64 (A.v .i64 (A.k ar ((bN,bB),0,2)).1) 1),0,0,0,0,0,0,0,0⟩)))) (.need (A.k (@tt ((Int×List Int)×Int×Int)) ((bN,bB),10,3)) (.br (A.c .neq (A.k ar ((bN,bB),10,3)).2 0) (.more (.c0 ⟨0,bN,bB,cTime,cPos,cMode,cNext,cMember,0,0,0,0,0,0,0,0,bN,bB,10,(A.b .add .i64 (A.v .i64 (A.k ar ((bN,bB),0,2)).1) 1),0,(A.v .i64 (A.k ar ((bN,bB),2,8)).1),0,0,0,0,0,0⟩)) (.more (.c0 ⟨(A.v .i64 (A.k ar ((bN,bB),10,3)).1),bN,bB,cTime,cPos,cMode,cNext,cMember,0,0,0,0,0,0,0,0,bN,bB,13,(A.b .add .i64 (A.v .i64 (A.k ar ((bN,bB),0,2)).1) 1),0,(A.v .i64 (A.k ar ((bN,bB),2,8)).1),0,0,0,0,0,0⟩)))))) (.need (A.k (@tt ((Int×List Int)×Int×Int)) ((bN,bB),5,8)) (.br (A.c .neq (A.k ar ((bN,bB),5,8)).2 0) (.need (A.k (@tt ((Int×List Int)×Int×Int)) ((bN,bB),5,3)) (.br (A.c .neq (A.k ar ((bN,bB),5,3)).2 0) (.more (.c0 ⟨0,bN,bB,cTime,cPos,cMode,cNext,cMember,0,0,0,0,0,0,0,0,bN,bB,5,(A.b .add .i64 (A.v .i64 (A.k ar ((bN,bB),0,2)).1) 1),0,0,0,0,0,0,(A.v .i64 (A.k ar ((bN,bB),2,3)).1),0⟩)) (.more (.c0 ⟨(A.v .i64 (A.k ar ((bN,bB),5,3)).1),bN,bB,cTime,cPos,cMode,cNext,cMember,0,0,0,0,0,0,0,0,bN,bB,8,(A.b .add .i64 (A.v .i64 (A.k ar ((bN,bB),0,2)).1) 1),0,0,0,0,0,0,(A.v .i64 (A.k ar ((bN,bB),2,3)).1),0⟩)))) (.need (A.k (@tt ((Int×List Int)×Int×Int)) ((bN,bB),13,3)) (.br (A.c .neq (A.k ar ((bN,bB),13,3)).2 0) (.more (.c0 ⟨0,bN,bB,cTime,cPos,cMode,cNext,cMember,0,0,0,0,0,0,0,0,bN,bB,13,(A.b .add .i64 (A.v .i64 (A.k ar ((bN,bB),0,2)).1) 1),0,(A.v .i64 (A.k ar ((bN,bB),5,8)).1),0,0,0,0,(A.v .i64 (A.k ar ((bN,bB),2,3)).1),0⟩)) (.more (.c0 ⟨(A.v .i64 (A.k ar ((bN,bB),13,3)).1),bN,bB,cTime,cPos,cMode,cNext,cMember,0,0,0,0,0,0,0,0,bN,bB,16,(A.b .add .i64 (A.v .i64 (A.k ar ((bN,bB),0,2)).1) 1),0,(A.v .i64 (A.k ar ((bN,bB),5,8)).1),0,0,0,0,(A.v .i64 (A.k ar ((bN,bB),2,3)).1),0⟩)))))))) (.br (A.c .eql (A.b .add .i64 (A.v .i64 (A.k ar ((bN,bB),0,2)).1) 1) 2) (.need (A.k (@tt ((Int×List Int)×Int×Int)) ((bN,bB),2,3)) (.br (A.c .neq (A.k ar ((bN,bB),2,3)).2 0) (.need (A.k (@tt ((Int×Int×Int×Int×Int))) (cTime,cPos,cMode,cNext,cMember)) (.more (.c1 ⟨0,bN,bB,cTime,cPos,cMode,cNext,cMember,0,0,0,0,0,0,0,0,bN,bB,2,(A.b .add .i64 (A.v .i64 (A.k ar ((bN,bB),0,2)).1) 1),0,0,0,0,0,0,0,(A.k ml (cTime,cPos,cMode,cNext,cMember)).1.1,(A.k ml (cTime,cPos,cMode,cNext,cMember)).1.2⟩))) (.need (A.k (@tt ((Int×Int×Int×Int×Int))) (cTime,cPos,cMode,cNext,cMember)) (.more (.c1 ⟨0,bN,bB,cTime,cPos,cMode,cNext,cMember,0,0,0,0,0,0,0,0,bN,bB,5,(A.b .add .i64 (A.v .i64 (A.k ar ((bN,bB),0,2)).1) 1),(A.v .i64 (A.k ar ((bN,bB),2,3)).1),0,0,0,0,0,0,(A.k ml (cTime,cPos,cMode,cNext,cMember)).1.1,(A.k ml (cTime,cPos,cMode,cNext,cMember)).1.2⟩))))) (.need (A.k (@tt ((Int×List Int)×Int×Int)) ((bN,bB),2,3)) (.br (A.c .neq (A.k ar ((bN,bB),2,3)).2 0) (.eqs (IntKind.i64=IntKind.i64∧((A.b .sub .i64 (A.b .add .i64 (A.v .i64 (A.k ar ((bN,bB),0,2)).1) 1) 2):Int)=(A.b .sub .i64 (A.b .add .i64 (A.v .i64 (A.k ar ((bN,bB),0,2)).1) 1) 2)) (.eqs (IntKind.i64=IntKind.i64∧((A.b .add .i64 (A.v .i64 (A.k ar ((bN,bB),0,2)).1) 1):Int)=(A.b .add .i64 (A.v .i64 (A.k ar ((bN,bB),0,2)).1) 1)) (.eqs ((.ptr 4 0:AV)=.ptr 4 0) (.eqs ((.ptr 3 0:AV)=.ptr 3 0) (.need (A.k (@tt ((Int×List Int)×Int×Int)) ((bN,bB),2,(A.b .sub .i64 (A.b .add .i64 (A.v .i64 (A.k ar ((bN,bB),0,2)).1) 1) 2))) (.br (A.c .neq (A.k ar ((bN,bB),2,(A.b .sub .i64 (A.b .add .i64 (A.v .i64 (A.k ar ((bN,bB),0,2)).1) 1) 2))).2 0) (.eqs ((.ptr 4 1:AV)=.ptr 4 1) (.more (.c0 ⟨0,bN,bB,cTime,cPos,cMode,cNext,cMember,0,0,0,0,0,0,0,0,bN,bB,2,(A.b .add .i64 (A.v .i64 (A.k ar ((bN,bB),0,2)).1) 1),0,0,0,0,0,0,0,0⟩))) (.eqs ((.ptr 4 1:AV)=.ptr 4 1) (.more (.c0 ⟨(A.v .i64 (A.k ar ((bN,bB),2,(A.b .sub .i64 (A.b .add .i64 (A.v .i64 (A.k ar ((bN,bB),0,2)).1) 1) 2))).1),bN,bB,cTime,cPos,cMode,cNext,cMember,0,0,0,0,0,0,0,0,bN,bB,(A.b .add .i64 2 (A.b .sub .i64 (A.b .add .i64 (A.v .i64 (A.k ar ((bN,bB),0,2)).1) 1) 2)),(A.b .add .i64 (A.v .i64 (A.k ar ((bN,bB),0,2)).1) 1),0,0,0,0,0,0,0,0⟩))))))))) (.eqs (IntKind.i64=IntKind.i64∧((A.b .sub .i64 (A.b .add .i64 (A.v .i64 (A.k ar ((bN,bB),0,2)).1) 1) 2):Int)=(A.b .sub .i64 (A.b .add .i64 (A.v .i64 (A.k ar ((bN,bB),0,2)).1) 1) 2)) (.eqs (IntKind.i64=IntKind.i64∧((A.b .add .i64 (A.v .i64 (A.k ar ((bN,bB),0,2)).1) 1):Int)=(A.b .add .i64 (A.v .i64 (A.k ar ((bN,bB),0,2)).1) 1)) (.eqs ((.ptr 4 0:AV)=.ptr 4 0) (.eqs ((.ptr 3 0:AV)=.ptr 3 0) (.need (A.k (@tt ((Int×List Int)×Int×Int)) ((bN,bB),5,(A.b .sub .i64 (A.b .add .i64 (A.v .i64 (A.k ar ((bN,bB),0,2)).1) 1) 2))) (.br (A.c .neq (A.k ar ((bN,bB),5,(A.b .sub .i64 (A.b .add .i64 (A.v .i64 (A.k ar ((bN,bB),0,2)).1) 1) 2))).2 0) (.eqs ((.ptr 4 1:AV)=.ptr 4 1) (.more (.c0 ⟨0,bN,bB,cTime,cPos,cMode,cNext,cMember,0,0,0,0,0,0,0,0,bN,bB,5,(A.b .add .i64 (A.v .i64 (A.k ar ((bN,bB),0,2)).1) 1),(A.v .i64 (A.k ar ((bN,bB),2,3)).1),0,0,0,0,0,0,0⟩))) (.eqs ((.ptr 4 1:AV)=.ptr 4 1) (.more (.c0 ⟨(A.v .i64 (A.k ar ((bN,bB),5,(A.b .sub .i64 (A.b .add .i64 (A.v .i64 (A.k ar ((bN,bB),0,2)).1) 1) 2))).1),bN,bB,cTime,cPos,cMode,cNext,cMember,0,0,0,0,0,0,0,0,bN,bB,(A.b .add .i64 5 (A.b .sub .i64 (A.b .add .i64 (A.v .i64 (A.k ar ((bN,bB),0,2)).1) 1) 2)),(A.b .add .i64 (A.v .i64 (A.k ar ((bN,bB),0,2)).1) 1),(A.v .i64 (A.k ar ((bN,bB),2,3)).1),0,0,0,0,0,0,0⟩))))))))))))))))))))
def yd(A:cH):FZ→LT ((Int×Int×(Int×Int×Int×Int×Int)×Int×List Int)×Int) FZ
 | .c0 p=>.br (A.c .neq p.a0 0) (.ret ((0,0,(0,0,0,0,0),0,([]:List Int)),51)) (.need (A.k (@tt ((Int×List Int)×Int×(Int×List Int))) ((p.a1,p.a2),p.j3,p.a27,([]:List Int))) (.br (A.c .neq (A.k aP ((p.a1,p.a2),p.j3,p.a27,([]:List Int))).2.2 0) (.ret ((0,0,(0,0,0,0,0),0,([]:List Int)),(A.k aP ((p.a1,p.a2),p.j3,p.a27,([]:List Int))).2.2)) (.br (A.c .eql p.j3 2) (.more (.c2 ⟨p.a3,p.a4,p.a5,p.a6,p.a7,(A.k aP ((p.a1,p.a2),p.j3,p.a27,([]:List Int))).1.1,(A.k aP ((p.a1,p.a2),p.j3,p.a27,([]:List Int))).1.2,p.a3,p.a4,p.a5,p.a6,p.a7,p.a8,p.a9,p.lu,p.mg,p.a12,p.sU,p.lf,p.lz,p.j3,p.a20,p.a21,p.a22,p.a23,p.a24,p.a25,p.a26,(A.k aP ((p.a1,p.a2),p.j3,p.a27,([]:List Int))).2.1.1,(A.k aP ((p.a1,p.a2),p.j3,p.a27,([]:List Int))).2.1.2⟩ 0 p.qs 0 0 0 0 0 0 0 0)) (.br (A.c .eql p.j3 4) (.more (.c3 ⟨(A.k aP ((p.a1,p.a2),p.j3,p.a27,([]:List Int))).1.1,(A.k aP ((p.a1,p.a2),p.j3,p.a27,([]:List Int))).1.2,p.a3,p.a4,p.a5,p.a6,p.a7,p.a8,p.a9,p.lu,p.mg,p.a12,p.sU,p.lf,p.lz,p.j3,p.a20,p.a21,p.a22,p.a23,p.a24,p.a25,p.a26,(A.k aP ((p.a1,p.a2),p.j3,p.a27,([]:List Int))).2.1.1,(A.k aP ((p.a1,p.a2),p.j3,p.a27,([]:List Int))).2.1.2⟩ 0 55 0 0 0 0 0 0 0 0)) (.br (A.c .eql p.j3 3) (.need (A.k (@tt ((Int×List Int))) (A.k aP ((p.a1,p.a2),p.j3,p.a27,([]:List Int))).2.1) (.br (A.c .neq (A.k fE (A.k aP ((p.a1,p.a2),p.j3,p.a27,([]:List Int))).2.1).2 0) (.ret ((0,0,(0,0,0,0,0),0,([]:List Int)),51)) (.need (A.k (@tt ((Int×Int×(Int×Int×Int×Int×Int)×Int×List Int))) (p.j3,p.a20,(A.k fE (A.k aP ((p.a1,p.a2),p.j3,p.a27,([]:List Int))).2.1).1,p.a26,([]:List Int))) (.br (A.c .neq (A.k lC (p.j3,p.a20,(A.k fE (A.k aP ((p.a1,p.a2),p.j3,p.a27,([]:List Int))).2.1).1,p.a26,([]:List Int))) 0) (.ret ((0,0,(0,0,0,0,0),0,([]:List Int)),51)) (.ret ((p.j3,p.a20,(A.k fE (A.k aP ((p.a1,p.a2),p.j3,p.a27,([]:List Int))).2.1).1,p.a26,([]:List Int)),0)))))) (.need (A.k (@tt ((Int×Int×(Int×Int×Int×Int×Int)×Int×List Int))) (p.j3,p.a20,(p.a21,p.a22,p.a23,p.a24,p.a25),p.a26,([]:List Int))) (.br (A.c .neq (A.k lC (p.j3,p.a20,(p.a21,p.a22,p.a23,p.a24,p.a25),p.a26,([]:List Int))) 0) (.ret ((0,0,(0,0,0,0,0),0,([]:List Int)),51)) (.ret ((p.j3,p.a20,(p.a21,p.a22,p.a23,p.a24,p.a25),p.a26,([]:List Int)),0)))))))))
 | .c1 p=>.br (A.c .neq p.b0 0) (.ret ((0,0,(0,0,0,0,0),0,([]:List Int)),51)) (.need (A.k (@tt ((Int×List Int)×Int×(Int×List Int))) ((p.b1,p.b2),p.ij,p.jR,p.jU)) (.br (A.c .neq (A.k aP ((p.b1,p.b2),p.ij,p.jR,p.jU)).2.2 0) (.ret ((0,0,(0,0,0,0,0),0,([]:List Int)),(A.k aP ((p.b1,p.b2),p.ij,p.jR,p.jU)).2.2)) (.br (A.c .eql p.ij 2) (.more (.c2 ⟨p.b3,p.b4,p.b5,p.b6,p.b7,(A.k aP ((p.b1,p.b2),p.ij,p.jR,p.jU)).1.1,(A.k aP ((p.b1,p.b2),p.ij,p.jR,p.jU)).1.2,p.b3,p.b4,p.b5,p.b6,p.b7,p.b8,p.b9,p.b10,p.b11,p.b12,p.b13,p.wz,p.xw,p.ij,p.i6,p.iN,p.je,p.lN,p.lM,p.ob,p.my,(A.k aP ((p.b1,p.b2),p.ij,p.jR,p.jU)).2.1.1,(A.k aP ((p.b1,p.b2),p.ij,p.jR,p.jU)).2.1.2⟩ 0 p.sO 0 0 0 0 0 0 0 0)) (.br (A.c .eql p.ij 4) (.more (.c3 ⟨(A.k aP ((p.b1,p.b2),p.ij,p.jR,p.jU)).1.1,(A.k aP ((p.b1,p.b2),p.ij,p.jR,p.jU)).1.2,p.b3,p.b4,p.b5,p.b6,p.b7,p.b8,p.b9,p.b10,p.b11,p.b12,p.b13,p.wz,p.xw,p.ij,p.i6,p.iN,p.je,p.lN,p.lM,p.ob,p.my,(A.k aP ((p.b1,p.b2),p.ij,p.jR,p.jU)).2.1.1,(A.k aP ((p.b1,p.b2),p.ij,p.jR,p.jU)).2.1.2⟩ 0 55 0 0 0 0 0 0 0 0)) (.br (A.c .eql p.ij 3) (.need (A.k (@tt ((Int×List Int))) (A.k aP ((p.b1,p.b2),p.ij,p.jR,p.jU)).2.1) (.br (A.c .neq (A.k fE (A.k aP ((p.b1,p.b2),p.ij,p.jR,p.jU)).2.1).2 0) (.ret ((0,0,(0,0,0,0,0),0,([]:List Int)),51)) (.need (A.k (@tt ((Int×Int×(Int×Int×Int×Int×Int)×Int×List Int))) (p.ij,p.i6,(A.k fE (A.k aP ((p.b1,p.b2),p.ij,p.jR,p.jU)).2.1).1,p.my,([]:List Int))) (.br (A.c .neq (A.k lC (p.ij,p.i6,(A.k fE (A.k aP ((p.b1,p.b2),p.ij,p.jR,p.jU)).2.1).1,p.my,([]:List Int))) 0) (.ret ((0,0,(0,0,0,0,0),0,([]:List Int)),51)) (.ret ((p.ij,p.i6,(A.k fE (A.k aP ((p.b1,p.b2),p.ij,p.jR,p.jU)).2.1).1,p.my,([]:List Int)),0)))))) (.need (A.k (@tt ((Int×Int×(Int×Int×Int×Int×Int)×Int×List Int))) (p.ij,p.i6,(p.iN,p.je,p.lN,p.lM,p.ob),p.my,([]:List Int))) (.br (A.c .neq (A.k lC (p.ij,p.i6,(p.iN,p.je,p.lN,p.lM,p.ob),p.my,([]:List Int))) 0) (.ret ((0,0,(0,0,0,0,0),0,([]:List Int)),51)) (.ret ((p.ij,p.i6,(p.iN,p.je,p.lN,p.lM,p.ob),p.my,([]:List Int)),0)))))))))
 | .c2 p c0 c8 c9 c10 c11 c12 c13 c14 gY c16=>.br (A.c .leq (A.b .add .i64 c8 8) p.c6) (.br (A.c .lss c0 8) (.need (A.k (@tt ((Int×List Int)×Int×Int)) ((p.c6,p.c7),c8,8)) (.br (A.c .neq (A.k ar ((p.c6,p.c7),c8,8)).2 0) (.need (A.and (A.c .leq 0 c0) (A.c .lss c0 8)) (.more (.c2 p (A.b .add .i64 c0 1) c8 (A.n yU (A.set [c9,c10,c11,c12,c13,c14,gY,c16] c0 (0:Int)) 0:Int) (A.n yU (A.set [c9,c10,c11,c12,c13,c14,gY,c16] c0 (0:Int)) 1:Int) (A.n yU (A.set [c9,c10,c11,c12,c13,c14,gY,c16] c0 (0:Int)) 2:Int) (A.n yU (A.set [c9,c10,c11,c12,c13,c14,gY,c16] c0 (0:Int)) 3:Int) (A.n yU (A.set [c9,c10,c11,c12,c13,c14,gY,c16] c0 (0:Int)) 4:Int) (A.n yU (A.set [c9,c10,c11,c12,c13,c14,gY,c16] c0 (0:Int)) 5:Int) (A.n yU (A.set [c9,c10,c11,c12,c13,c14,gY,c16] c0 (0:Int)) 6:Int) (A.n yU (A.set [c9,c10,c11,c12,c13,c14,gY,c16] c0 (0:Int)) 7:Int)))) (.need (A.and (A.c .leq 0 c0) (A.c .lss c0 8)) (.more (.c2 p (A.b .add .i64 c0 1) (A.b .add .i64 c8 8) (A.n yU (A.set [c9,c10,c11,c12,c13,c14,gY,c16] c0 (A.v .u8 (A.v .i64 (A.k ar ((p.c6,p.c7),c8,8)).1))) 0:Int) (A.n yU (A.set [c9,c10,c11,c12,c13,c14,gY,c16] c0 (A.v .u8 (A.v .i64 (A.k ar ((p.c6,p.c7),c8,8)).1))) 1:Int) (A.n yU (A.set [c9,c10,c11,c12,c13,c14,gY,c16] c0 (A.v .u8 (A.v .i64 (A.k ar ((p.c6,p.c7),c8,8)).1))) 2:Int) (A.n yU (A.set [c9,c10,c11,c12,c13,c14,gY,c16] c0 (A.v .u8 (A.v .i64 (A.k ar ((p.c6,p.c7),c8,8)).1))) 3:Int) (A.n yU (A.set [c9,c10,c11,c12,c13,c14,gY,c16] c0 (A.v .u8 (A.v .i64 (A.k ar ((p.c6,p.c7),c8,8)).1))) 4:Int) (A.n yU (A.set [c9,c10,c11,c12,c13,c14,gY,c16] c0 (A.v .u8 (A.v .i64 (A.k ar ((p.c6,p.c7),c8,8)).1))) 5:Int) (A.n yU (A.set [c9,c10,c11,c12,c13,c14,gY,c16] c0 (A.v .u8 (A.v .i64 (A.k ar ((p.c6,p.c7),c8,8)).1))) 6:Int) (A.n yU (A.set [c9,c10,c11,c12,c13,c14,gY,c16] c0 (A.v .u8 (A.v .i64 (A.k ar ((p.c6,p.c7),c8,8)).1))) 7:Int)))))) (.need (A.and (A.c .eql c0 c0) (A.and (A.c .leq 0 c0) (A.c .leq c0 140737488355328))) (.eqs ((.ptr 4 2:AV)=.ptr 4 2) (.eqs ((.agg [.int .i64 false p.CB,.int .i64 false p.v_,.int .i64 false p.c19,.int .i64 false p.c20,.int .i64 false p.c21]:AV)=.agg [.int .i64 false p.c1,.int .i64 false p.c2,.int .i64 false p.c3,.int .i64 false p.c4,.int .i64 false p.c5]) (.need (A.k (@tt ((Int×Int×(Int×Int×Int×Int×Int)×Int×List Int))) (p.xA,p.c31,(p.c1,p.c2,p.c3,p.c4,p.c5),p.c37,(A.spl (A.r c0 (0:Int)) 0 (A.s [c9,c10,c11,c12,c13,c14,gY,c16] 0 (A.mn (A.l [c9,c10,c11,c12,c13,c14,gY,c16]) (A.l (A.r c0 (0:Int)))))))) (.br (A.c .neq (A.k lC (p.xA,p.c31,(p.c1,p.c2,p.c3,p.c4,p.c5),p.c37,(A.spl (A.r c0 (0:Int)) 0 (A.s [c9,c10,c11,c12,c13,c14,gY,c16] 0 (A.mn (A.l [c9,c10,c11,c12,c13,c14,gY,c16]) (A.l (A.r c0 (0:Int)))))))) 0) (.ret ((0,0,(0,0,0,0,0),0,([]:List Int)),51)) (.ret ((p.xA,p.c31,(p.c1,p.c2,p.c3,p.c4,p.c5),p.c37,(A.spl (A.r c0 (0:Int)) 0 (A.s [c9,c10,c11,c12,c13,c14,gY,c16] 0 (A.mn (A.l [c9,c10,c11,c12,c13,c14,gY,c16]) (A.l (A.r c0 (0:Int))))))),0)))))))) (.need (A.and (A.c .eql c0 c0) (A.and (A.c .leq 0 c0) (A.c .leq c0 140737488355328))) (.eqs ((.ptr 4 2:AV)=.ptr 4 2) (.eqs ((.agg [.int .i64 false p.CB,.int .i64 false p.v_,.int .i64 false p.c19,.int .i64 false p.c20,.int .i64 false p.c21]:AV)=.agg [.int .i64 false p.c1,.int .i64 false p.c2,.int .i64 false p.c3,.int .i64 false p.c4,.int .i64 false p.c5]) (.need (A.k (@tt ((Int×Int×(Int×Int×Int×Int×Int)×Int×List Int))) (p.xA,p.c31,(p.c1,p.c2,p.c3,p.c4,p.c5),p.c37,(A.spl (A.r c0 (0:Int)) 0 (A.s [c9,c10,c11,c12,c13,c14,gY,c16] 0 (A.mn (A.l [c9,c10,c11,c12,c13,c14,gY,c16]) (A.l (A.r c0 (0:Int)))))))) (.br (A.c .neq (A.k lC (p.xA,p.c31,(p.c1,p.c2,p.c3,p.c4,p.c5),p.c37,(A.spl (A.r c0 (0:Int)) 0 (A.s [c9,c10,c11,c12,c13,c14,gY,c16] 0 (A.mn (A.l [c9,c10,c11,c12,c13,c14,gY,c16]) (A.l (A.r c0 (0:Int)))))))) 0) (.ret ((0,0,(0,0,0,0,0),0,([]:List Int)),51)) (.ret ((p.xA,p.c31,(p.c1,p.c2,p.c3,p.c4,p.c5),p.c37,(A.spl (A.r c0 (0:Int)) 0 (A.s [c9,c10,c11,c12,c13,c14,gY,c16] 0 (A.mn (A.l [c9,c10,c11,c12,c13,c14,gY,c16]) (A.l (A.r c0 (0:Int))))))),0)))))))
 | .c3 p d0 d3 d4 d5 d6 d7 d8 d9 d10 d11=>.br (A.c .leq (A.b .add .i64 d3 8) p.d1) (.br (A.c .lss d0 8) (.need (A.k (@tt ((Int×List Int)×Int×Int)) ((p.d1,p.d2),d3,8)) (.br (A.c .neq (A.k ar ((p.d1,p.d2),d3,8)).2 0) (.need (A.and (A.c .leq 0 d0) (A.c .lss d0 8)) (.more (.c3 p (A.b .add .i64 d0 1) d3 (A.n yU (A.set [d4,d5,d6,d7,d8,d9,d10,d11] d0 (0:Int)) 0:Int) (A.n yU (A.set [d4,d5,d6,d7,d8,d9,d10,d11] d0 (0:Int)) 1:Int) (A.n yU (A.set [d4,d5,d6,d7,d8,d9,d10,d11] d0 (0:Int)) 2:Int) (A.n yU (A.set [d4,d5,d6,d7,d8,d9,d10,d11] d0 (0:Int)) 3:Int) (A.n yU (A.set [d4,d5,d6,d7,d8,d9,d10,d11] d0 (0:Int)) 4:Int) (A.n yU (A.set [d4,d5,d6,d7,d8,d9,d10,d11] d0 (0:Int)) 5:Int) (A.n yU (A.set [d4,d5,d6,d7,d8,d9,d10,d11] d0 (0:Int)) 6:Int) (A.n yU (A.set [d4,d5,d6,d7,d8,d9,d10,d11] d0 (0:Int)) 7:Int)))) (.need (A.and (A.c .leq 0 d0) (A.c .lss d0 8)) (.more (.c3 p (A.b .add .i64 d0 1) (A.b .add .i64 d3 8) (A.n yU (A.set [d4,d5,d6,d7,d8,d9,d10,d11] d0 (A.v .u8 (A.v .i64 (A.k ar ((p.d1,p.d2),d3,8)).1))) 0:Int) (A.n yU (A.set [d4,d5,d6,d7,d8,d9,d10,d11] d0 (A.v .u8 (A.v .i64 (A.k ar ((p.d1,p.d2),d3,8)).1))) 1:Int) (A.n yU (A.set [d4,d5,d6,d7,d8,d9,d10,d11] d0 (A.v .u8 (A.v .i64 (A.k ar ((p.d1,p.d2),d3,8)).1))) 2:Int) (A.n yU (A.set [d4,d5,d6,d7,d8,d9,d10,d11] d0 (A.v .u8 (A.v .i64 (A.k ar ((p.d1,p.d2),d3,8)).1))) 3:Int) (A.n yU (A.set [d4,d5,d6,d7,d8,d9,d10,d11] d0 (A.v .u8 (A.v .i64 (A.k ar ((p.d1,p.d2),d3,8)).1))) 4:Int) (A.n yU (A.set [d4,d5,d6,d7,d8,d9,d10,d11] d0 (A.v .u8 (A.v .i64 (A.k ar ((p.d1,p.d2),d3,8)).1))) 5:Int) (A.n yU (A.set [d4,d5,d6,d7,d8,d9,d10,d11] d0 (A.v .u8 (A.v .i64 (A.k ar ((p.d1,p.d2),d3,8)).1))) 6:Int) (A.n yU (A.set [d4,d5,d6,d7,d8,d9,d10,d11] d0 (A.v .u8 (A.v .i64 (A.k ar ((p.d1,p.d2),d3,8)).1))) 7:Int)))))) (.need (A.and (A.c .eql d0 d0) (A.and (A.c .leq 0 d0) (A.c .leq d0 140737488355328))) (.need (A.k (@tt ((Int×List Int))) (p.uY,p.vC)) (.br (A.c .neq (A.k fE (p.uY,p.vC)).2 0) (.ret ((0,0,(0,0,0,0,0),0,([]:List Int)),51)) (.need (A.k (@tt ((Int×Int×(Int×Int×Int×Int×Int)×Int×List Int))) (p.tp,p.yk,(A.k fE (p.uY,p.vC)).1,p.Av,(A.spl (A.r d0 (0:Int)) 0 (A.s [d4,d5,d6,d7,d8,d9,d10,d11] 0 (A.mn (A.l [d4,d5,d6,d7,d8,d9,d10,d11]) (A.l (A.r d0 (0:Int)))))))) (.br (A.c .neq (A.k lC (p.tp,p.yk,(A.k fE (p.uY,p.vC)).1,p.Av,(A.spl (A.r d0 (0:Int)) 0 (A.s [d4,d5,d6,d7,d8,d9,d10,d11] 0 (A.mn (A.l [d4,d5,d6,d7,d8,d9,d10,d11]) (A.l (A.r d0 (0:Int)))))))) 0) (.ret ((0,0,(0,0,0,0,0),0,([]:List Int)),51)) (.ret ((p.tp,p.yk,(A.k fE (p.uY,p.vC)).1,p.Av,(A.spl (A.r d0 (0:Int)) 0 (A.s [d4,d5,d6,d7,d8,d9,d10,d11] 0 (A.mn (A.l [d4,d5,d6,d7,d8,d9,d10,d11]) (A.l (A.r d0 (0:Int))))))),0)))))))) (.need (A.and (A.c .eql d0 d0) (A.and (A.c .leq 0 d0) (A.c .leq d0 140737488355328))) (.need (A.k (@tt ((Int×List Int))) (p.uY,p.vC)) (.br (A.c .neq (A.k fE (p.uY,p.vC)).2 0) (.ret ((0,0,(0,0,0,0,0),0,([]:List Int)),51)) (.need (A.k (@tt ((Int×Int×(Int×Int×Int×Int×Int)×Int×List Int))) (p.tp,p.yk,(A.k fE (p.uY,p.vC)).1,p.Av,(A.spl (A.r d0 (0:Int)) 0 (A.s [d4,d5,d6,d7,d8,d9,d10,d11] 0 (A.mn (A.l [d4,d5,d6,d7,d8,d9,d10,d11]) (A.l (A.r d0 (0:Int)))))))) (.br (A.c .neq (A.k lC (p.tp,p.yk,(A.k fE (p.uY,p.vC)).1,p.Av,(A.spl (A.r d0 (0:Int)) 0 (A.s [d4,d5,d6,d7,d8,d9,d10,d11] 0 (A.mn (A.l [d4,d5,d6,d7,d8,d9,d10,d11]) (A.l (A.r d0 (0:Int)))))))) 0) (.ret ((0,0,(0,0,0,0,0),0,([]:List Int)),51)) (.ret ((p.tp,p.yk,(A.k fE (p.uY,p.vC)).1,p.Av,(A.spl (A.r d0 (0:Int)) 0 (A.s [d4,d5,d6,d7,d8,d9,d10,d11] 0 (A.mn (A.l [d4,d5,d6,d7,d8,d9,d10,d11]) (A.l (A.r d0 (0:Int))))))),0)))))))
theorem oJ{R Y:Type}{step:Y→LT R Y}{t:LT R Y}{r r':R}(h:r=r')(h2:aA step t r):aA step t r':=h▸h2
theorem Fu{S:List Int}(h:S.length=8):[S.getD 0 0,S.getD 1 0,S.getD 2 0,S.getD 3 0,S.getD 4 0,S.getD 5 0,S.getD 6 0,S.getD 7 0]=S:=by
 match S,h with
 | [_,_,_,_,_,_,_,_],_=>rfl
theorem pJ(k:Nat):∀l:List Bool,aK (k+1) l=aK k l ++ [((ck ((l.drop (8*k)).take 8):Nat):Int)]:=by
 induction k with
 | zero=>intro l;rfl
 | succ k ih=>
   intro l
   rw[aK,ih,aK,List.cons_append,List.drop_drop,show 8+8*k=8*(k+1) from by omega]
theorem Ei{m d a:Nat}{b:List Int}(hok:bf ((m:Int),b)=true)(hm:m=a+8*d)(hd:d≤8)(ha:a≤100):∀(j i:Nat) (p:F1) (x0 x1 x2 x3 x4 x5 x6 x7:Int),p.c6=(m:Int)→p.c7=b→p.CB=p.c1→p.v_=p.c2→p.c19=p.c3→p.c20=p.c4→p.c21=p.c5→ [x0,x1,x2,x3,x4,x5,x6,x7]=aK i ((unpack m b).drop a)++List.replicate (8-i) 0→d-i=j→i≤d→
  aA (yd ai) (.more (.c2 p (i:Int) ((a+8*i:Nat):Int) x0 x1 x2 x3 x4 x5 x6 x7)) (bif eB (p.xA,p.c31,(p.c1,p.c2,p.c3,p.c4,p.c5),p.c37,aK d ((unpack m b).drop a)) then((p.xA,p.c31,(p.c1,p.c2,p.c3,p.c4,p.c5),p.c37,aK d ((unpack m b).drop a)),0) else(bU,51)):=by
 intro j
 induction j with
 | zero=>
   intro i p x0 x1 x2 x3 x4 x5 x6 x7 h6 h7 sN h18 h19 h20 h21 hR hj hi
   have:i=d:=by omega
   subst this
   have hdl:=cZ i ((unpack m b).drop a)
   have hD:(ai.spl (ai.r (i:Int) (0:Int)) 0 (ai.s [x0,x1,x2,x3,x4,x5,x6,x7] 0 (ai.mn (ai.l [x0,x1,x2,x3,x4,x5,x6,x7]) (ai.l (ai.r (i:Int) (0:Int))))):List Int)=aK i ((unpack m b).drop a):=by
    rw[hR]
    have e1:ai.r (i:Int) (0:Int)=List.replicate i 0:=by rw[nQ,Int.toNat_natCast]
    rw[e1]
    have e2:ai.mn (ai.l (aK i ((unpack m b).drop a)++List.replicate (8-i) (0:Int))) (ai.l (List.replicate i (0:Int)))=(i:Int):=by
     show(if ((List.replicate i (0:Int)).length:Int)<((aK i ((unpack m b).drop a)++List.replicate (8-i) (0:Int)).length:Int) then((List.replicate i (0:Int)).length:Int) else((aK i ((unpack m b).drop a)++List.replicate (8-i) (0:Int)).length:Int))=_
     rw[List.length_append,hdl,List.length_replicate,List.length_replicate]
     split<;>omega
    have hT:(aK i ((unpack m b).drop a)++List.replicate (8-i) (0:Int)).take i=aK i ((unpack m b).drop a):=by rw[List.take_append_of_le_length (by omega),List.take_of_length_le (by omega)]
    rw[e2,mK,qy,Int.toNat_natCast,hT]
    show(List.replicate i (0:Int)).take 0++(aK i ((unpack m b).drop a)).drop 0++(List.replicate i (0:Int)).drop (0+((aK i ((unpack m b).drop a)).drop 0).length)=_
    rw[List.drop_zero,hdl,List.drop_replicate,show i-(0+i)=0 from by omega,List.replicate_zero,List.take_zero,List.nil_append,List.append_nil]
   rw[ao,yd]
   refine(ah (by rw[h6,show ai.b .add .i64 ((a+8*i:Nat):Int) 8=((a+8*i+8:Nat):Int) from dY (j:=8) (by omega),ig];simp;omega)).2 ?_
   refine af.2 ⟨by rw[nN rfl,fe,ax,aD,aD];simp;omega,e_.2 ⟨rfl,e_.2 ⟨by rw[sN,h18,h19,h20,h21],af.2 ⟨rfl,?_⟩⟩⟩⟩
   have hchk:ai.k lC (p.xA,p.c31,(p.c1,p.c2,p.c3,p.c4,p.c5),p.c37,(ai.spl (ai.r (i:Int) (0:Int)) 0 (ai.s [x0,x1,x2,x3,x4,x5,x6,x7] 0 (ai.mn (ai.l [x0,x1,x2,x3,x4,x5,x6,x7]) (ai.l (ai.r (i:Int) (0:Int)))))))=bif eB (p.xA,p.c31,(p.c1,p.c2,p.c3,p.c4,p.c5),p.c37,aK i ((unpack m b).drop a)) then 0 else 50:=by rw[hD];exact qi
   cases hf:eB (p.xA,p.c31,(p.c1,p.c2,p.c3,p.c4,p.c5),p.c37,aK i ((unpack m b).drop a))
   ·rw[hf] at hchk
    exact(aj (ei (by rw[hchk];decide))).2 (.ret _)
   ·rw[hf] at hchk
    refine(ah (cf hchk)).2 ?_
    exact aW (congrArg (fun z=>LT.ret ((p.xA,p.c31,(p.c1,p.c2,p.c3,p.c4,p.c5),p.c37,z),(0:Int))) hD) (.ret _)
 | succ j ih=>
   intro i p x0 x1 x2 x3 x4 x5 x6 x7 h6 h7 sN h18 h19 h20 h21 hR hj hi
   have hmb:m≤4096:=by
    simp only[bf,Bool.and_eq_true,decide_eq_true_eq] at hok
    omega
   have hg:ai.k ar ((p.c6,p.c7),((a+8*i:Nat):Int),8)=(((aQ (unpack m b) (a+8*i) 8:Nat):Int),0):=by
    rw[h6,h7];exact iI hok (w:=8) (by omega) (by decide) hmb
   have hf:=eY (unpack m b) (a+8*i) 8
   have hv:ai.v .u8 (ai.v .i64 (ai.k ar ((p.c6,p.c7),((a+8*i:Nat):Int),8)).1)=((aQ (unpack m b) (a+8*i) 8:Nat):Int):=by
    rw[hg,aZ,aZ,ji (by omega) (by omega),w8 (by omega) (by omega)]
   have hn8:ai.and (ai.c .leq 0 (i:Int)) (ai.c .lss (i:Int) 8)=true:=by rw[fe,al,aD];simp;omega
   rw[ao,yd]
   refine(aj (by rw[h6,show ai.b .add .i64 ((a+8*i:Nat):Int) 8=((a+8*i+8:Nat):Int) from dY (j:=8) (by omega),ig];simp;omega)).2 ?_
   refine(aj (by rw[al];simp;omega)).2 (af.2 ⟨rfl,(ah (cf (congrArg Prod.snd hg))).2 (af.2 ⟨hn8,?_⟩)⟩)
   obtain⟨S,hS⟩:∃S:List Int,S=([x0,x1,x2,x3,x4,x5,x6,x7]:List Int).set (i:Int).toNat (ai.v .u8 (ai.v .i64 (ai.k ar ((p.c6,p.c7),((a+8*i:Nat):Int),8)).1)):=⟨_,rfl⟩
   have hSl:S.length=8:=by rw[hS,List.length_set];rfl
   have hSv:S=aK (i+1) ((unpack m b).drop a)++List.replicate (8-(i+1)) 0:=by
    rw[hS,hv,hR,Int.toNat_natCast,List.set_append_right _ _ (by rw[cZ];exact Nat.le_refl _),cZ,Nat.sub_self,pJ,show 8-i=(8-(i+1))+1 from by omega,List.replicate_succ,List.set_cons_zero,List.append_assoc,List.drop_drop]
    rfl
   have hm':=ih (i+1) p (S.getD 0 0) (S.getD 1 0) (S.getD 2 0) (S.getD 3 0) (S.getD 4 0) (S.getD 5 0) (S.getD 6 0) (S.getD 7 0) h6 h7 sN h18 h19 h20 h21 ((Fu hSl).trans hSv) (by omega) (by omega)
   have e:FZ.c2 p (ai.b .add .i64 (i:Int) 1) (ai.b .add .i64 ((a+8*i:Nat):Int) 8) (S.getD 0 0) (S.getD 1 0) (S.getD 2 0) (S.getD 3 0) (S.getD 4 0) (S.getD 5 0) (S.getD 6 0) (S.getD 7 0)=FZ.c2 p ((i+1:Nat):Int) ((a+8*(i+1):Nat):Int) (S.getD 0 0) (S.getD 1 0) (S.getD 2 0) (S.getD 3 0) (S.getD 4 0) (S.getD 5 0) (S.getD 6 0) (S.getD 7 0):=by
    rw[fH (by omega),show ai.b .add .i64 ((a+8*i:Nat):Int) 8=((a+8*(i+1):Nat):Int) from dY (j:=8) (by omega)]
   have hm2:=aW (congrArg LT.more e) hm'
   subst hS
   exact hm2
theorem E3{m d a:Nat}{b:List Int}(hok:bf ((m:Int),b)=true)(hm:m=a+8*d)(hd:d≤8)(ha:a≤100):∀(j i:Nat) (p:FB) (x0 x1 x2 x3 x4 x5 x6 x7:Int),p.d1=(m:Int)→p.d2=b→ [x0,x1,x2,x3,x4,x5,x6,x7]=aK i ((unpack m b).drop a)++List.replicate (8-i) 0→d-i=j→i≤d→
  aA (yd ai) (.more (.c3 p (i:Int) ((a+8*i:Nat):Int) x0 x1 x2 x3 x4 x5 x6 x7)) (bif (cN (p.uY,p.vC)).2 != 0 then(bU,51) else bif eB (p.tp,p.yk,(cN (p.uY,p.vC)).1,p.Av,aK d ((unpack m b).drop a)) then((p.tp,p.yk,(cN (p.uY,p.vC)).1,p.Av,aK d ((unpack m b).drop a)),0) else(bU,51)):=by
 intro j
 induction j with
 | zero=>
   intro i p x0 x1 x2 x3 x4 x5 x6 x7 h6 h7 hR hj hi
   have:i=d:=by omega
   subst this
   have hdl:=cZ i ((unpack m b).drop a)
   have hD:(ai.spl (ai.r (i:Int) (0:Int)) 0 (ai.s [x0,x1,x2,x3,x4,x5,x6,x7] 0 (ai.mn (ai.l [x0,x1,x2,x3,x4,x5,x6,x7]) (ai.l (ai.r (i:Int) (0:Int))))):List Int)=aK i ((unpack m b).drop a):=by
    rw[hR]
    have e1:ai.r (i:Int) (0:Int)=List.replicate i 0:=by rw[nQ,Int.toNat_natCast]
    rw[e1]
    have e2:ai.mn (ai.l (aK i ((unpack m b).drop a)++List.replicate (8-i) (0:Int))) (ai.l (List.replicate i (0:Int)))=(i:Int):=by
     show(if ((List.replicate i (0:Int)).length:Int)<((aK i ((unpack m b).drop a)++List.replicate (8-i) (0:Int)).length:Int) then((List.replicate i (0:Int)).length:Int) else((aK i ((unpack m b).drop a)++List.replicate (8-i) (0:Int)).length:Int))=_
     rw[List.length_append,hdl,List.length_replicate,List.length_replicate]
     split<;>omega
    have hT:(aK i ((unpack m b).drop a)++List.replicate (8-i) (0:Int)).take i=aK i ((unpack m b).drop a):=by rw[List.take_append_of_le_length (by omega),List.take_of_length_le (by omega)]
    rw[e2,mK,qy,Int.toNat_natCast,hT]
    show(List.replicate i (0:Int)).take 0++(aK i ((unpack m b).drop a)).drop 0++(List.replicate i (0:Int)).drop (0+((aK i ((unpack m b).drop a)).drop 0).length)=_
    rw[List.drop_zero,hdl,List.drop_replicate,show i-(0+i)=0 from by omega,List.replicate_zero,List.take_zero,List.nil_append,List.append_nil]
   rw[ao,yd]
   refine(ah (by rw[h6,show ai.b .add .i64 ((a+8*i:Nat):Int) 8=((a+8*i+8:Nat):Int) from dY (j:=8) (by omega),ig];simp;omega)).2 ?_
   refine af.2 ⟨by rw[nN rfl,fe,ax,aD,aD];simp;omega,af.2 ⟨rfl,?_⟩⟩
   cases he:((cN (p.uY,p.vC)).2 != 0)
   ·refine(ah he).2 (af.2 ⟨rfl,?_⟩)
    have hchk:ai.k lC (p.tp,p.yk,(ai.k fE (p.uY,p.vC)).1,p.Av,(ai.spl (ai.r (i:Int) (0:Int)) 0 (ai.s [x0,x1,x2,x3,x4,x5,x6,x7] 0 (ai.mn (ai.l [x0,x1,x2,x3,x4,x5,x6,x7]) (ai.l (ai.r (i:Int) (0:Int)))))))=bif eB (p.tp,p.yk,(cN (p.uY,p.vC)).1,p.Av,aK i ((unpack m b).drop a)) then 0 else 50:=by rw[hD];exact qi
    cases hf:eB (p.tp,p.yk,(cN (p.uY,p.vC)).1,p.Av,aK i ((unpack m b).drop a))
    ·rw[hf] at hchk
     exact(aj (ei (by rw[hchk];decide))).2 (.ret _)
    ·rw[hf] at hchk
     refine(ah (cf hchk)).2 ?_
     exact aW (congrArg (fun z=>LT.ret ((p.tp,p.yk,(cN (p.uY,p.vC)).1,p.Av,z),(0:Int))) hD) (.ret _)
   ·exact(aj he).2 (.ret _)
 | succ j ih=>
   intro i p x0 x1 x2 x3 x4 x5 x6 x7 h6 h7 hR hj hi
   have hmb:m≤4096:=by
    simp only[bf,Bool.and_eq_true,decide_eq_true_eq] at hok
    omega
   have hg:ai.k ar ((p.d1,p.d2),((a+8*i:Nat):Int),8)=(((aQ (unpack m b) (a+8*i) 8:Nat):Int),0):=by
    rw[h6,h7];exact iI hok (w:=8) (by omega) (by decide) hmb
   have hf:=eY (unpack m b) (a+8*i) 8
   have hv:ai.v .u8 (ai.v .i64 (ai.k ar ((p.d1,p.d2),((a+8*i:Nat):Int),8)).1)=((aQ (unpack m b) (a+8*i) 8:Nat):Int):=by
    rw[hg,aZ,aZ,ji (by omega) (by omega),w8 (by omega) (by omega)]
   have hn8:ai.and (ai.c .leq 0 (i:Int)) (ai.c .lss (i:Int) 8)=true:=by rw[fe,al,aD];simp;omega
   rw[ao,yd]
   refine(aj (by rw[h6,show ai.b .add .i64 ((a+8*i:Nat):Int) 8=((a+8*i+8:Nat):Int) from dY (j:=8) (by omega),ig];simp;omega)).2 ?_
   refine(aj (by rw[al];simp;omega)).2 (af.2 ⟨rfl,(ah (cf (congrArg Prod.snd hg))).2 (af.2 ⟨hn8,?_⟩)⟩)
   obtain⟨S,hS⟩:∃S:List Int,S=([x0,x1,x2,x3,x4,x5,x6,x7]:List Int).set (i:Int).toNat (ai.v .u8 (ai.v .i64 (ai.k ar ((p.d1,p.d2),((a+8*i:Nat):Int),8)).1)):=⟨_,rfl⟩
   have hSl:S.length=8:=by rw[hS,List.length_set];rfl
   have hSv:S=aK (i+1) ((unpack m b).drop a)++List.replicate (8-(i+1)) 0:=by
    rw[hS,hv,hR,Int.toNat_natCast,List.set_append_right _ _ (by rw[cZ];exact Nat.le_refl _),cZ,Nat.sub_self,pJ,show 8-i=(8-(i+1))+1 from by omega,List.replicate_succ,List.set_cons_zero,List.append_assoc,List.drop_drop]
    rfl
   have hm':=ih (i+1) p (S.getD 0 0) (S.getD 1 0) (S.getD 2 0) (S.getD 3 0) (S.getD 4 0) (S.getD 5 0) (S.getD 6 0) (S.getD 7 0) h6 h7 ((Fu hSl).trans hSv) (by omega) (by omega)
   have e:FZ.c3 p (ai.b .add .i64 (i:Int) 1) (ai.b .add .i64 ((a+8*i:Nat):Int) 8) (S.getD 0 0) (S.getD 1 0) (S.getD 2 0) (S.getD 3 0) (S.getD 4 0) (S.getD 5 0) (S.getD 6 0) (S.getD 7 0)=FZ.c3 p ((i+1:Nat):Int) ((a+8*(i+1):Nat):Int) (S.getD 0 0) (S.getD 1 0) (S.getD 2 0) (S.getD 3 0) (S.getD 4 0) (S.getD 5 0) (S.getD 6 0) (S.getD 7 0):=by
    rw[fH (by omega),show ai.b .add .i64 ((a+8*i:Nat):Int) 8=((a+8*(i+1):Nat):Int) from dY (j:=8) (by omega)]
   have hm2:=aW (congrArg LT.more e) hm'
   subst hS
   exact hm2
theorem oP{k:Nat}:∀{a c:Nat} {l:List Bool},a+8*k≤c→c≤l.length→aK k ((l.take c).drop a)=aK k (l.drop a):=by
 induction k with
 | zero=>intro a c l _ _;rfl
 | succ k ih=>
   intro a c l h hc
   rw[aK,aK,List.drop_drop,List.drop_drop,ih (by omega) hc]
   congr 2
   congr 1
   rw[List.drop_take,List.take_take,Nat.min_eq_left (by omega)]
theorem Ek{n a w:Nat}{b:List Int}(hok:bf ((n:Int),b)=true)(h:n<a+w):ai.k ar (((n:Int),b),(a:Int),(w:Int))=(0,2):=by
 rw[ap,ar,zW]
 simp only[hok,Bool.not_true,cond_false]
 rw[show decide ((n:Int)<(a:Int)+(w:Int))=true from by simp;omega,Bool.or_true]
 rfl
theorem Ar{n t p m x s:Int}{b:List Int}(h:Ty.cr [(.struct [(.int .i64),(.slice (.int .u8))]),(.struct [(.int .i64),(.int .i64),(.int .i64),(.int .i64),(.int .i64)])] ((n,b),(t,p,m,x,s))):Ty.has (.struct [(.int .i64),(.slice (.int .u8))]) (n,b):=h.1
theorem rR{q:List Bool}(h:q.length=24):cN (aU q)=bif cO (eu q) then(eu q,0) else(zS,40):=by
 rw[cN,fC (by omega),d_,show(aU q).1=24 from by show((q.length:Nat):Int)=24;rw[h];rfl]
 rfl
theorem F6{n t p m x s:Int}{b:List Int}(h:Ty.cr [(.struct [(.int .i64),(.slice (.int .u8))]),(.struct [(.int .i64),(.int .i64),(.int .i64),(.int .i64),(.int .i64)])] ((n,b),(t,p,m,x,s))):aA (yd ai) (t50 ai n b t p m x s) (l7 ((n,b),(t,p,m,x,s))):=by
 have h1:=Ar h
 have hb:=(dn h1).2.2
 have hl:=cm h1
 unfold t50
 have hc:ai.k ia (n,b)=bif bf (n,b) then 0 else 10:=iO hb hl
 refine af.2 ⟨rfl,?_⟩
 show aA (yd ai) _ (bif !bf (n,b) then(bU,10) else bif !cO (t,p,m,x,s) then(bU,40) else gF (bl (n,b)) (t,p,m,x,s))
 cases hok:bf (n,b)
 ·rw[hok] at hc
  refine(aj (ei (by rw[hc];decide))).2 ?_
  exact aW (congrArg (fun z=>LT.ret (((0,0,(0,0,0,0,0),0,([]:List Int)):Int×Int×(Int×Int×Int×Int×Int)×Int×List Int),z)) hc) (.ret _)
 rw[hok] at hc
 refine(ah (cf hc)).2 (af.2 ⟨rfl,?_⟩)
 rw[Bool.not_true,cond_false]
 have hchk:ai.k j4 ((t,p,m,x,s),8)=bif cO (t,p,m,x,s) then 0 else 40:=od (t,p,m,x,s)
 cases hst:cO (t,p,m,x,s)
 ·rw[hst] at hchk
  exact(aj (ei (by rw[hchk];decide))).2 (.ret _)
 rw[hst] at hchk
 refine(ah (cf hchk)).2 (af.2 ⟨rfl,?_⟩)
 rw[Bool.not_true,cond_false]
 obtain⟨h2,h3,h4⟩:=(fq hb).1 hok
 obtain⟨n,rfl⟩:=Int.eq_ofNat_of_zero_le h2
 have hn:n≤4096:=by omega
 have hlen:(bl ((n:Int),b)).length=n:=by rw[fA];rfl
 have hun:bl ((n:Int),b)=unpack n b:=rfl
 have hlu:(unpack n b).length=n:=aL n b
 rw[hun]
 obtain⟨hp1,hp2,hp3,hp4⟩:=Ab hn
 obtain⟨f2,f4,f1,f3⟩:=Cq (n:=n)
 by_cases hs:n<2
 ·refine(aj (ei (by rw[show ai.k ar (((n:Int),b),0,2)=(0,2) from Ek (a:=0) (w:=2) hok (by omega)];decide))).2 (af.2 ⟨rfl,?_⟩)
  rw[x9 (by omega)]
  refine(aj (show ai.not (ai.k gW ((n:Int),1))=true from ?_)).2 (.ret _)
  rw[bM,ap,hp1,show c_ n 1=false from by rw[←Bool.not_eq_true,f1];omega];rfl
 have g0:ai.k ar (((n:Int),b),0,2)=(((aQ (unpack n b) 0 2:Nat):Int),0):=iI (a:=0) (w:=2) hok (by omega) (by decide) hn
 refine(ah (cf (congrArg Prod.snd g0))).2 (af.2 ⟨rfl,?_⟩)
 have hk:=Eb (l:=unpack n b) (by omega)
 have hf:=eY (unpack n b) 0 2
 have hK:ai.b .add .i64 (ai.v .i64 (ai.k ar (((n:Int),b),0,2)).1) 1=((aQ (unpack n b) 0 2+1:Nat):Int):=by
  rw[g0,aZ,ji (by omega) (by omega)];exact fH (by omega)
 rw[hK]
 have g:∀a w:Nat,a+w≤n→w≤64→ai.k ar (((n:Int),b),(a:Int),(w:Int))=(((aQ (unpack n b) a w:Nat):Int),0):=fun a w h1 h2=>iI hok h1 h2 hn
 have hcv:∀a w:Nat,w≤8→ai.v .i64 ((aQ (unpack n b) a w:Nat):Int)=((aQ (unpack n b) a w:Nat):Int):=fun a w hw=>by
  have:=eY (unpack n b) a w
  have hp:2^w≤2^8:=Nat.pow_le_pow_right (by decide) hw
  rw[aZ,ji (by omega) (by omega)]
 have hcase:aQ (unpack n b) 0 2=0∨aQ (unpack n b) 0 2=1∨aQ (unpack n b) 0 2=2∨aQ (unpack n b) 0 2=3:=by omega
 rcases hcase with h0|h0|h0|h0
 ·-- FrCold
  rw[h0] at hk ⊢
  by_cases hfit:c_ n 1=true
  ·have h40:=f1.1 hfit
   refine(ah (show ai.not (ai.k gW ((n:Int),1))=false by rw[bM,ap,hp1,hfit];rfl)).2 ((aj rfl).2 ?_)
   have g1:ai.k ar (((n:Int),b),2,3)=(((aQ (unpack n b) 2 3:Nat):Int),0):=g 2 3 (by omega) (by decide)
   have g2:ai.k ar (((n:Int),b),5,8)=(((aQ (unpack n b) 5 8:Nat):Int),0):=g 5 8 (by omega) (by decide)
   have g3:ai.k ar (((n:Int),b),13,3)=(((aQ (unpack n b) 13 3:Nat):Int),0):=g 13 3 (by omega) (by decide)
   refine af.2 ⟨rfl,(ah (cf (congrArg Prod.snd g1))).2 (af.2 ⟨rfl,(ah (cf (congrArg Prod.snd g2))).2 (af.2 ⟨rfl,(ah (cf (congrArg Prod.snd g3))).2 ?_⟩)⟩)⟩
   rw[ao,yd]
   dsimp only
   rw[Gz hk (by omega)]
   have hz:ai.c .neq (ai.v .i64 (ai.k ar (((n:Int),b),13,3)).1) 0=(aQ (unpack n b) 13 3 != 0):=by
    rw[g3,hcv 13 3 (by decide),aI,Bool.eq_iff_iff];simp
   cases hzz:(aQ (unpack n b) 13 3 != 0)
   ·refine(ah (hz.trans hzz)).2 (af.2 ⟨rfl,?_⟩)
    have ho:ai.k aP (((n:Int),b),1,((0:Int),([]:List Int)))=((bY (((n:Int),b),(0, []))).1,zB,(bY (((n:Int),b),(0, []))).2):=ua (.inl rfl)
    rw[kU (u:=(0, [])) hok rfl (by omega),show over 0 (bl ((0:Int),([]:List Int)))=0 from rfl,hun] at ho
    cases hov:(over 0 (unpack n b) != 0)
    ·rw[hov] at ho
     refine(ah (cf (congrArg (fun z=>z.2.2) ho))).2 ?_
     refine(ah rfl).2 ((ah rfl).2 ((ah rfl).2 (af.2 ⟨rfl,?_⟩)))
     have l1:=eY (unpack n b) 2 3
     have l2:=eY (unpack n b) 5 8
     have e1:(ai.v .i64 (ai.k ar (((n:Int),b),5,8)).1)=((aQ (unpack n b) 5 8:Nat):Int):=by rw[g2];exact hcv 5 8 (by decide)
     have e2:(ai.v .i64 (ai.k ar (((n:Int),b),2,3)).1)=((aQ (unpack n b) 2 3:Nat):Int):=by rw[g1];exact hcv 2 3 (by decide)
     rw[e1,e2]
     have hfo:eB (1,0,(((aQ (unpack n b) 5 8:Nat):Int),0,0,0,0),((aQ (unpack n b) 2 3:Nat):Int), [])=true:=by
      rw[fO,jq];simp;omega
     have hch:ai.k lC (1,0,(((aQ (unpack n b) 5 8:Nat):Int),0,0,0,0),((aQ (unpack n b) 2 3:Nat):Int), [])=0:=by
      rw[ap,qi,hfo];rfl
     exact(ah (cf hch)).2 (.ret _)
    ·rw[hov] at ho
     have e2:=congrArg (fun z=>z.2.2) ho
     refine(aj (ei (show(ai.k aP (((n:Int),b),1,((0:Int),([]:List Int)))).2.2≠0 from by rw[e2];exact(by decide:(21:Int)≠0)))).2 ?_
     exact aW (congrArg (fun z=>LT.ret (((0,0,(0,0,0,0,0),0,([]:List Int)):Int×Int×(Int×Int×Int×Int×Int)×Int×List Int),z)) e2) (.ret _)
   ·exact(aj (hz.trans hzz)).2 (.ret _)
  ·rw[Bool.not_eq_true] at hfit
   rw[iF (by rw[hlu,hk];exact hfit)]
   exact(aj (show ai.not (ai.k gW ((n:Int),1))=true by rw[bM,ap,hp1,hfit];rfl)).2 (.ret _)
 ·-- FrN
  rw[h0] at hk ⊢
  by_cases hfit:c_ n 2=true
  ·have h29:=f2.1 hfit
   refine(ah (show ai.not (ai.k gW ((n:Int),2))=false by rw[bM,ap,hp2,hfit];rfl)).2 ((ah rfl).2 ((aj rfl).2 ?_))
   have g1:ai.k ar (((n:Int),b),2,3)=(((aQ (unpack n b) 2 3:Nat):Int),0):=g 2 3 (by omega) (by decide)
   refine af.2 ⟨rfl,(ah (cf (congrArg Prod.snd g1))).2 (af.2 ⟨rfl,?_⟩)⟩
   rw[ao,yd]
   dsimp only
   refine(ah rfl).2 (af.2 ⟨rfl,?_⟩)
   rw[Gr hk (by rw[hlu];exact hfit)]
   have hsb:ai.k ml (t,p,m,x,s)=(aU (aF (t,p,m,x,s)),0):=by rw[ap,ml,iX,hst];rfl
   have ho:ai.k aP (((n:Int),b),2,(ai.k ml (t,p,m,x,s)).1)=((bY (((n:Int),b),aU (aF (t,p,m,x,s)))).1,zB,(bY (((n:Int),b),aU (aF (t,p,m,x,s)))).2):=by
    rw[hsb];exact ua (.inr rfl)
   rw[kU hok (fC (by rw[dy];decide)) (by omega),d_,hun,hlu] at ho
   cases hov:(over (over 0 (aF (t,p,m,x,s))) (unpack n b) != 0)
   ·rw[hov] at ho
    have o1:=congrArg (fun z=>z.1) ho
    refine(ah (cf (congrArg (fun z=>z.2.2) ho))).2 ((aj rfl).2 ?_)
    have e2:(ai.v .i64 (ai.k ar (((n:Int),b),2,3)).1)=((aQ (unpack n b) 2 3:Nat):Int):=by rw[g1];exact hcv 2 3 (by decide)
    rw[e2]
    have hfl:((unpack n b).take (n-24)).length=n-24:=by rw[List.length_take,hlu];omega
    have hrest:=Ei (m:=n-24) (d:=(n-29)/8) (a:=5) (b:=pack ((unpack n b).take (n-24))) (by have:=fC (l:=(unpack n b).take (n-24)) (by omega);rwa [aU,hfl] at this) (by omega) (by omega) (by decide) ((n-29)/8) 0
     ⟨t,p,m,x,s,(ai.k aP (((n:Int),b),2,(ai.k ml (t,p,m,x,s)).1)).1.1,(ai.k aP (((n:Int),b),2,(ai.k ml (t,p,m,x,s)).1)).1.2,t,p,m,x,s,0,0,0,0,0,0,0,0,2,((aQ (unpack n b) 2 3:Nat):Int),0,0,0,0,0,0,(ai.k aP (((n:Int),b),2,(ai.k ml (t,p,m,x,s)).1)).2.1.1,(ai.k aP (((n:Int),b),2,(ai.k ml (t,p,m,x,s)).1)).2.1.2⟩ 0 0 0 0 0 0 0 0
     (by show(ai.k aP (((n:Int),b),2,(ai.k ml (t,p,m,x,s)).1)).1.1=_;rw[o1];show(((unpack n b).take (n-24)).length:Int)=_;rw[hfl]) (by show(ai.k aP (((n:Int),b),2,(ai.k ml (t,p,m,x,s)).1)).1.2=_;rw[o1];rfl) rfl rfl rfl rfl rfl rfl (by omega) (by omega)
    rw[show unpack (n-24) (pack ((unpack n b).take (n-24)))=(unpack n b).take (n-24) from by have:=unpack_pack ((unpack n b).take (n-24));rwa [hfl] at this] at hrest
    refine Eq.mp (congrArg (aA (yd ai) _) ?_) hrest
    have hdd:aK ((n-29)/8) (((unpack n b).take (n-24)).drop 5)=aK (((unpack n b).length-29)/8) ((unpack n b).drop 5):=by
     rw[hlu]
     exact oP (by omega) (by rw[hlu];omega)
    show(bif eB (2,((aQ (unpack n b) 2 3:Nat):Int),(t,p,m,x,s),0,aK ((n-29)/8) (((unpack n b).take (n-24)).drop 5)) then((2,((aQ (unpack n b) 2 3:Nat):Int),(t,p,m,x,s),0,aK ((n-29)/8) (((unpack n b).take (n-24)).drop 5)),0) else(bU,51))=_
    rw[hdd,cond_false]
    have hfo:eB (2,((aQ (unpack n b) 2 3:Nat):Int),(t,p,m,x,s),0,aK (((unpack n b).length-29)/8) ((unpack n b).drop 5))=!decide (4<aQ (unpack n b) 2 3):=by
     rw[Bool.eq_iff_iff,fO,hst,cZ];simp;omega
    rw[hfo]
    cases decide (4<aQ (unpack n b) 2 3)<;>rfl
   ·rw[hov] at ho
    have e2:=congrArg (fun z=>z.2.2) ho
    refine(aj (ei (show(ai.k aP (((n:Int),b),2,(ai.k ml (t,p,m,x,s)).1)).2.2≠0 from by rw[e2];exact(by decide:(21:Int)≠0)))).2 ?_
    exact aW (congrArg (fun z=>LT.ret (((0,0,(0,0,0,0,0),0,([]:List Int)):Int×Int×(Int×Int×Int×Int×Int)×Int×List Int),z)) e2) (.ret _)
  ·rw[Bool.not_eq_true] at hfit
   rw[iF (by rw[hlu,hk];exact hfit)]
   exact(aj (show ai.not (ai.k gW ((n:Int),2))=true by rw[bM,ap,hp2,hfit];rfl)).2 (.ret _)
 ·-- FrI
  rw[h0] at hk ⊢
  rw[show((2+1:Nat):Int)=3 from rfl]
  by_cases hfit:c_ n 3=true
  ·have h54:=f3.1 hfit
   refine(ah (show ai.not (ai.k gW ((n:Int),3))=false by rw[bM,ap,hp3,hfit];rfl)).2 ((ah rfl).2 ((ah rfl).2 ?_))
   have g1:ai.k ar (((n:Int),b),2,3)=(((aQ (unpack n b) 2 3:Nat):Int),0):=g 2 3 (by omega) (by decide)
   have g2:ai.k ar (((n:Int),b),5,(ai.b .sub .i64 3 2))=(((aQ (unpack n b) 5 1:Nat):Int),0):=g 5 1 (by omega) (by decide)
   have e2:(ai.v .i64 (ai.k ar (((n:Int),b),2,3)).1)=((aQ (unpack n b) 2 3:Nat):Int):=by rw[g1];exact hcv 2 3 (by decide)
   have hql:(((unpack n b).drop 6).take 24).length=24:=by rw[List.length_take,List.length_drop,hlu];omega
   refine af.2 ⟨rfl,(ah (cf (congrArg Prod.snd g1))).2 ?_⟩
   repeat (first|refine e_.2 ⟨⟨rfl,rfl⟩,?_⟩|refine e_.2 ⟨rfl,?_⟩|refine af.2 ⟨rfl,?_⟩)
   refine(ah (cf (congrArg Prod.snd g2))).2 ?_
   repeat (first|refine e_.2 ⟨⟨rfl,rfl⟩,?_⟩|refine e_.2 ⟨rfl,?_⟩|refine af.2 ⟨rfl,?_⟩)
   rw[ao,yd]
   dsimp only
   rw[G9 hk (by omega)]
   have hz:ai.c .neq (ai.v .i64 (ai.k ar (((n:Int),b),5,(ai.b .sub .i64 3 2))).1) 0=(aQ (unpack n b) 5 1 != 0):=by
    rw[g2,hcv 5 1 (by decide),aI,Bool.eq_iff_iff];simp
   cases hzz:(aQ (unpack n b) 5 1 != 0)
   ·refine(ah (hz.trans hzz)).2 (af.2 ⟨rfl,?_⟩)
    have ho:ai.k aP (((n:Int),b),3,((0:Int),([]:List Int)))=_:=Ag hok h54
    cases hov:(over 0 (unpack n b) != 0)
    ·rw[hov,cond_false] at ho
     refine(ah (cf (congrArg (fun z=>z.2.2) ho))).2 ((ah rfl).2 ((ah rfl).2 ((aj rfl).2 (af.2 ⟨rfl,?_⟩))))
     have hpz:ai.k fE (ai.k aP (((n:Int),b),3,((0:Int),([]:List Int)))).2.1=bif cO (eu (((unpack n b).drop 6).take 24)) then(eu (((unpack n b).drop 6).take 24),0) else(zS,40):=by
      rw[ho];exact rR hql
     cases hso:cO (eu (((unpack n b).drop 6).take 24))
     ·rw[hso] at hpz
      exact(aj (ei (show(ai.k fE (ai.k aP (((n:Int),b),3,((0:Int),([]:List Int)))).2.1).2≠0 from by rw[hpz];exact(by decide:(40:Int)≠0)))).2 (.ret _)
     ·rw[hso,cond_true] at hpz
      refine(ah (cf (congrArg Prod.snd hpz))).2 (af.2 ⟨rfl,?_⟩)
      rw[e2,hpz]
      have hfo:eB (3,((aQ (unpack n b) 2 3:Nat):Int),eu (((unpack n b).drop 6).take 24),0, [])=!decide (4<aQ (unpack n b) 2 3):=by
       have hso':=hso
       rw[eu] at hso' ⊢
       rw[Bool.eq_iff_iff,fO,hso'];simp;omega
      have hch:ai.k lC (3,((aQ (unpack n b) 2 3:Nat):Int),eu (((unpack n b).drop 6).take 24),0, [])=bif !decide (4<aQ (unpack n b) 2 3) then 0 else 50:=by
       rw[←hfo];exact qi
      cases hd:decide (4<aQ (unpack n b) 2 3)
      ·rw[hd] at hch
       exact(ah (cf hch)).2 (.ret _)
      ·rw[hd] at hch
       exact(aj (ei (show ai.k lC (3,((aQ (unpack n b) 2 3:Nat):Int),eu (((unpack n b).drop 6).take 24),0, [])≠0 from by rw[hch];exact(by decide:(50:Int)≠0)))).2 (.ret _)
    ·rw[hov,cond_true] at ho
     have e3:=congrArg (fun z=>z.2.2) ho
     refine(aj (ei (show(ai.k aP (((n:Int),b),3,((0:Int),([]:List Int)))).2.2≠0 from by rw[e3];exact(by decide:(21:Int)≠0)))).2 ?_
     exact aW (congrArg (fun z=>LT.ret (((0,0,(0,0,0,0,0),0,([]:List Int)):Int×Int×(Int×Int×Int×Int×Int)×Int×List Int),z)) e3) (.ret _)
   ·exact(aj (hz.trans hzz)).2 (.ret _)
  ·rw[Bool.not_eq_true] at hfit
   rw[iF (by rw[hlu,hk];exact hfit)]
   exact(aj (show ai.not (ai.k gW ((n:Int),3))=true by rw[bM,ap,hp3,hfit];rfl)).2 (.ret _)
 ·-- FrX
  rw[h0] at hk ⊢
  rw[show((3+1:Nat):Int)=4 from rfl]
  by_cases hfit:c_ n 4=true
  ·have h79:=f4.1 hfit
   refine(ah (show ai.not (ai.k gW ((n:Int),4))=false by rw[bM,ap,hp4,hfit];rfl)).2 ((ah rfl).2 ((ah rfl).2 ?_))
   have g1:ai.k ar (((n:Int),b),2,3)=(((aQ (unpack n b) 2 3:Nat):Int),0):=g 2 3 (by omega) (by decide)
   have g2:ai.k ar (((n:Int),b),5,(ai.b .sub .i64 4 2))=(((aQ (unpack n b) 5 2:Nat):Int),0):=g 5 2 (by omega) (by decide)
   have e2:(ai.v .i64 (ai.k ar (((n:Int),b),2,3)).1)=((aQ (unpack n b) 2 3:Nat):Int):=by rw[g1];exact hcv 2 3 (by decide)
   have hql:(((unpack n b).drop 7).take 24).length=24:=by rw[List.length_take,List.length_drop,hlu];omega
   refine af.2 ⟨rfl,(ah (cf (congrArg Prod.snd g1))).2 ?_⟩
   repeat (first|refine e_.2 ⟨⟨rfl,rfl⟩,?_⟩|refine e_.2 ⟨rfl,?_⟩|refine af.2 ⟨rfl,?_⟩)
   refine(ah (cf (congrArg Prod.snd g2))).2 ?_
   repeat (first|refine e_.2 ⟨⟨rfl,rfl⟩,?_⟩|refine e_.2 ⟨rfl,?_⟩|refine af.2 ⟨rfl,?_⟩)
   rw[ao,yd]
   dsimp only
   rw[Gn hk (by rw[hlu];exact hfit)]
   have hz:ai.c .neq (ai.v .i64 (ai.k ar (((n:Int),b),5,(ai.b .sub .i64 4 2))).1) 0=(aQ (unpack n b) 5 2 != 0):=by
    rw[g2,hcv 5 2 (by decide),aI,Bool.eq_iff_iff];simp
   cases hzz:(aQ (unpack n b) 5 2 != 0)
   ·refine(ah (hz.trans hzz)).2 (af.2 ⟨rfl,?_⟩)
    have ho:ai.k aP (((n:Int),b),4,((0:Int),([]:List Int)))=_:=z7 hok h79.1 h79.2.1
    cases hov:(over 0 ((unpack n b).take 55) != 0)
    ·cases hov2:(over (over 0 (((unpack n b).drop 7).take 24)) (unpack n b) != 0)
     ·rw[hov,cond_false,hov2,cond_false] at ho
      have o1:=congrArg (fun z=>z.1) ho
      have o2:=congrArg (fun z=>z.2.1) ho
      refine(ah (cf (congrArg (fun z=>z.2.2) ho))).2 ((ah rfl).2 ((aj rfl).2 ?_))
      rw[e2]
      have hfl:((unpack n b).take (n-24)).length=n-24:=by rw[List.length_take,hlu];omega
      have hrest:=E3 (m:=n-24) (d:=(n-79)/8) (a:=55) (b:=pack ((unpack n b).take (n-24))) (by have:=fC (l:=(unpack n b).take (n-24)) (by omega);rwa [aU,hfl] at this) (by omega) (by omega) (by decide) ((n-79)/8) 0
       ⟨(ai.k aP (((n:Int),b),4,((0:Int),([]:List Int)))).1.1,(ai.k aP (((n:Int),b),4,((0:Int),([]:List Int)))).1.2,t,p,m,x,s,0,0,0,0,0,0,0,0,4,((aQ (unpack n b) 2 3:Nat):Int),0,0,0,0,0,0,(ai.k aP (((n:Int),b),4,((0:Int),([]:List Int)))).2.1.1,(ai.k aP (((n:Int),b),4,((0:Int),([]:List Int)))).2.1.2⟩ 0 0 0 0 0 0 0 0
       (by show(ai.k aP (((n:Int),b),4,((0:Int),([]:List Int)))).1.1=_;rw[o1];show(((unpack n b).take (n-24)).length:Int)=_;rw[hfl]) (by show(ai.k aP (((n:Int),b),4,((0:Int),([]:List Int)))).1.2=_;rw[o1];rfl) rfl (by omega) (by omega)
      rw[show unpack (n-24) (pack ((unpack n b).take (n-24)))=(unpack n b).take (n-24) from by have:=unpack_pack ((unpack n b).take (n-24));rwa [hfl] at this] at hrest
      refine Eq.mp (congrArg (aA (yd ai) _) ?_) hrest
      have hdd:aK ((n-79)/8) (((unpack n b).take (n-24)).drop 55)=aK (((unpack n b).length-79)/8) ((unpack n b).drop 55):=by
       rw[hlu]
       exact oP (by omega) (by rw[hlu];omega)
      have hpz:cN ((ai.k aP (((n:Int),b),4,((0:Int),([]:List Int)))).2.1.1,(ai.k aP (((n:Int),b),4,((0:Int),([]:List Int)))).2.1.2)=bif cO (eu (((unpack n b).drop 7).take 24)) then(eu (((unpack n b).drop 7).take 24),0) else(zS,40):=by
       rw[o2];exact rR hql
      show(bif (cN ((ai.k aP (((n:Int),b),4,((0:Int),([]:List Int)))).2.1.1,(ai.k aP (((n:Int),b),4,((0:Int),([]:List Int)))).2.1.2)).2 != 0 then(bU,51) else bif eB (4,((aQ (unpack n b) 2 3:Nat):Int),(cN ((ai.k aP (((n:Int),b),4,((0:Int),([]:List Int)))).2.1.1,(ai.k aP (((n:Int),b),4,((0:Int),([]:List Int)))).2.1.2)).1,0,aK ((n-79)/8) (((unpack n b).take (n-24)).drop 55)) then((4,((aQ (unpack n b) 2 3:Nat):Int),(cN ((ai.k aP (((n:Int),b),4,((0:Int),([]:List Int)))).2.1.1,(ai.k aP (((n:Int),b),4,((0:Int),([]:List Int)))).2.1.2)).1,0,aK ((n-79)/8) (((unpack n b).take (n-24)).drop 55)),0) else(bU,51))=_
      rw[hpz,hdd,Bool.or_false,cond_false,cond_false]
      cases hso:cO (eu (((unpack n b).drop 7).take 24))
      ·rfl
      ·have hfo:eB (4,((aQ (unpack n b) 2 3:Nat):Int),eu (((unpack n b).drop 7).take 24),0,aK (((unpack n b).length-79)/8) ((unpack n b).drop 55))=!decide (4<aQ (unpack n b) 2 3):=by
        have hso':=hso
        rw[eu] at hso' ⊢
        rw[Bool.eq_iff_iff,fO,hso',cZ];simp;omega
       rw[cond_true,hfo]
       cases decide (4<aQ (unpack n b) 2 3)<;>rfl
     ·rw[hov,cond_false,hov2,cond_true] at ho
      have e3:=congrArg (fun z=>z.2.2) ho
      refine(aj (ei (show(ai.k aP (((n:Int),b),4,((0:Int),([]:List Int)))).2.2≠0 from by rw[e3];exact(by decide:(21:Int)≠0)))).2 ?_
      exact aW (congrArg (fun z=>LT.ret (((0,0,(0,0,0,0,0),0,([]:List Int)):Int×Int×(Int×Int×Int×Int×Int)×Int×List Int),z)) e3) (.ret _)
    ·rw[hov,cond_true] at ho
     have e3:=congrArg (fun z=>z.2.2) ho
     refine(aj (ei (show(ai.k aP (((n:Int),b),4,((0:Int),([]:List Int)))).2.2≠0 from by rw[e3];exact(by decide:(21:Int)≠0)))).2 ?_
     exact aW (congrArg (fun z=>LT.ret (((0,0,(0,0,0,0,0),0,([]:List Int)):Int×Int×(Int×Int×Int×Int×Int)×Int×List Int),z)) e3) (.ret _)
   ·exact(aj (hz.trans hzz)).2 (.ret _)
  ·rw[Bool.not_eq_true] at hfit
   rw[iF (by rw[hlu,hk];exact hfit)]
   exact(aj (show ai.not (ai.k gW ((n:Int),4))=true by rw[bM,ap,hp4,hfit];rfl)).2 (.ret _)
def sR:((Int×List Int)×(Int×Int×Int×Int×Int))→((Int×Int×(Int×Int×Int×Int×Int)×Int×List Int)×Int):=l7
def Lr:aH:=⟨[(.struct [yI,yB]),(.struct [yI,yI,yI,yI,yI])], [(.struct [yI,yI,(.struct [yI,yI,yI,yI,yI]),yI,yB]),yI],(@tt ((Int×List Int)×(Int×Int×Int×Int×Int))),sR⟩
theorem KL:Sd 36 Lr:=aX aJ iC false 298 [⟨45,3, [[0,3,4], [3,4,8,12,97,100]]⟩] [⟨36,19, [[2,3,4,7,8,9,10]]⟩] (fun A ((bN,bB),cTime,cPos,cMode,cNext,cMember)=>t50 A bN bB cTime cPos cMode cNext cMember) yd IB (fc Try.func36 (fc Try.func41 (fc Try.func45 fz))) (sc Lt (sc Aj (sc LB (sc yj (sc Jp (sc IW (sc IM (sc yW sz)))))))) (fun A y=>match y with |.c0 p=>⟨116,zf (by kernel_rfl)⟩|.c1 p=>⟨116,zf (by kernel_rfl)⟩|.c2 p c0 c8 c9 c10 c11 c12 c13 c14 gY c16=>⟨92,zf (by kernel_rfl)⟩|.c3 p d0 d3 d4 d5 d6 d7 d8 d9 d10 d11=>⟨92,zf (by kernel_rfl)⟩) fun((bN,bB),cTime,cPos,cMode,cNext,cMember) hp h=>F6 h
open Go.Ev.Pl
def t53(A:cH)(bN:Int)(bB:List Int)(cTime:Int)(cPos:Int)(cMode:Int)(cNext:Int)(cMember:Int):LT ((Int×Int×(Int×Int×Int×Int×Int)×Int×List Int)×Bool) Empty:=.need (A.k (@tt ((Int×List Int)×(Int×Int×Int×Int×Int))) ((bN,bB),cTime,cPos,cMode,cNext,cMember)) (.br (A.c .neq (A.k sR ((bN,bB),cTime,cPos,cMode,cNext,cMember)).2 0) (.ret ((0,0,(0,0,0,0,0),0,([]:List Int)),false)) (.br (A.c .eql (A.k sR ((bN,bB),cTime,cPos,cMode,cNext,cMember)).1.1 1) (.ret ((0,0,(0,0,0,0,0),0,([]:List Int)),false)) (.br (A.not (A.and (A.c .eql (A.k sR ((bN,bB),cTime,cPos,cMode,cNext,cMember)).1.2.2.1.1 cTime) (A.and (A.c .eql (A.k sR ((bN,bB),cTime,cPos,cMode,cNext,cMember)).1.2.2.1.2.1 cPos) (A.and (A.c .eql (A.k sR ((bN,bB),cTime,cPos,cMode,cNext,cMember)).1.2.2.1.2.2.1 cMode) (A.and (A.c .eql (A.k sR ((bN,bB),cTime,cPos,cMode,cNext,cMember)).1.2.2.1.2.2.2.1 cNext) (A.and (A.c .eql (A.k sR ((bN,bB),cTime,cPos,cMode,cNext,cMember)).1.2.2.1.2.2.2.2 cMember) true)))))) (.ret ((0,0,(0,0,0,0,0),0,([]:List Int)),false)) (.ret ((A.k sR ((bN,bB),cTime,cPos,cMode,cNext,cMember)).1,true)))))
def fI:((Int×List Int)×(Int×Int×Int×Int×Int))→((Int×Int×(Int×Int×Int×Int×Int)×Int×List Int)×Bool):=fun((bN,bB),cTime,cPos,cMode,cNext,cMember)=>(t53 ai bN bB cTime cPos cMode cNext cMember).val (Ty.dC [(.struct [yI,yI,(.struct [yI,yI,yI,yI,yI]),yI,yB]),.bool])
def KX:aH:=⟨[(.struct [yI,yB]),(.struct [yI,yI,yI,yI,yI])], [(.struct [yI,yI,(.struct [yI,yI,yI,yI,yI]),yI,yB]),.bool],(@tt ((Int×List Int)×(Int×Int×Int×Int×Int))),fI⟩
theorem Jt:Sd 23 KX:=aV aJ iC true 50 [] (fun A ((bN,bB),cTime,cPos,cMode,cNext,cMember)=>t53 A bN bB cTime cPos cMode cNext cMember) (fc Try.func23 fz) (sc KL sz) (fun(((bN,bB),cTime,cPos,cMode,cNext,cMember):(Int×List Int)×(Int×Int×Int×Int×Int)) hp h=>by
 show(t53 ai bN bB cTime cPos cMode cNext cMember).pre=true
 simp[t53,LT.pre,ap,fo])
theorem u9{b:Int×List Int}{t p m n s:Int}:fI (b,(t,p,m,n,s))=mQ (b,(t,p,m,n,s)):=by
 obtain⟨bn,bb⟩:=b
 simp only[fI,t53,LT.val,mQ,ap,aI,aM,aD,bM,sR,Bool.and_true]
 generalize l7 ((bn,bb),(t,p,m,n,s))=q
 obtain⟨⟨k,r,⟨t',p',m',n',s'⟩,fr,d⟩,e⟩:=q
 simp only[]
 have hx:((t',p',m',n',s') != (t,p,m,n,s))=!(t'==t&&(p'==p&&(m'==m&&(n'==n&&s'==s)))):=by
  rw[Bool.eq_iff_iff]
  simp only[bne_iff_ne,ne_eq,Bool.not_eq_true',Prod.mk.injEq]
  rw[←Bool.not_eq_true]
  simp only[Bool.and_eq_true,beq_iff_eq]
 rw[hx]
 cases e != 0<;>cases k==1<;>cases (t'==t&&(p'==p&&(m'==m&&(n'==n&&s'==s))))<;>rfl
theorem nt{l u:List Bool}(hl:l.length+24≤4096)(hu:u.length≤4096):w9 (aU l,aU u)=(aU (aC (over 0 u) l),0):=by
 rw[w9]
 show(bif bf (aU u)&&bf (aU l) then sP (aC (over 0 (bl (aU u))) (bl (aU l))) else(zB,10))=_
 rw[fC hu,fC (l:=l) (by omega),d_,d_,oO (by rw[bQ];omega)]
 rfl
theorem zy{l u:List Bool}(h:l.length+u.length≤4096):uw [aU l,aU u]=(aU (l++u),0):=by
 rw[uw]
 show(bif (bf (aU l)&&(bf (aU u)&&true)) then sP (bl (aU l)++(bl (aU u) ++ [])) else(zB,10))=_
 rw[fC (l:=l) (by omega),fC (l:=u) (by omega),d_,d_,List.append_nil,oO (by rw[List.length_append];exact h)]
 rfl
theorem BM{k r t p m n s fr:Int}{d:List Int}(h:Ty.cr [.struct [(.int .i64),(.int .i64),(.struct [(.int .i64),(.int .i64),(.int .i64),(.int .i64),(.int .i64)]),(.int .i64),(.slice (.int .u8))]] (k,r,(t,p,m,n,s),fr,d)):aT d:=by
 have h2:d.length≤b_∧∀x∈d,0≤x∧x≤255:=h.2.2.2.2
 exact h2.2
end Go.Ev.M
