/-
  PROVED: what frame.Parse, Good and Explicit compute. Conditions: none.
-/
import Derived.Test.YteldjjjcdpnnbaaGreatFb
namespace Go.Ev.M
open Go.Proofs
set_option maxRecDepth 100000
set_option linter.unusedVariables false
set_option linter.unusedSimpArgs false
open Go.Ev.Pl
structure QV where
 (a0 a1:Int) (a2:List Int) (a3 a4 a5 a6 a7 a8 a9 cf dR a12 nf jN rh a16:Int) (a17:List Int) (rm kx a20 a21 a22 a23 a24 a25 a26 a27:Int)
structure Rb where
 (b0 b1:Int) (b2:List Int) (b3 b4 b5 b6 b7 b8 b9 b10 b11 b12 b13 w5 yy tZ:Int) (Au:List Int) (BZ j6 lq kC ll re ru rD oY kS:Int) (kX:List Int)
structure IG where
 (c1 c2 c3 c4 c5 c6:Int) (c7:List Int) (IS H9 c19 c20 c21 M9 c23 c24 Wh Wz V1 c28 Wb Bz c31 c32 Wl c34 Wn Wj c37 Wv:Int) (VW:List Int)
structure Ig where
 (d1:Int) (d2:List Int) (Wt Wa VZ V0 Wk Wi VU Wd V5 WA Wq Ws Ww A1 AZ Wy V6 VT VX Wx Bg vR:Int) (vE:List Int)
inductive Io where
 | c0 (p:QV)
 | c1 (p:Rb)
 | c2 (p:IG) (c0:Int) (c8:Int) (c9:Int) (c10:Int) (c11:Int) (c12:Int) (c13:Int) (c14:Int) (kB:Int) (c16:Int)
 | c3 (p:Ig) (d0:Int) (d3:Int) (d4:Int) (d5:Int) (d6:Int) (d7:Int) (d8:Int) (d9:Int) (l6:Int) (lS:Int)
noncomputable def Mk:Io→fE
 | .c0 p=>⟨[⟨206,122,(en [(2,.ptr 0 0),(3,.ptr 1 0),(4,.ptr 2 0),(7,.ptr 3 0),(8,.ptr 4 0),(9,.ptr 5 0),(10,vi p.a0)]),[.code (cw Tryz.f206 [1,1,1,1,1,1,1,1,1,0,0]),.code (cw Tryz.f206 [1,1,1,1,1,1,1,1,1,0,1]),.code (cw Tryz.f206 [1,1,1,1,1,1,1,1,1,1])],[],none⟩],[.flat false [vi p.a1,.sl yU p.a2],.flat false [vi p.a3,vi p.a4,vi p.a5,vi p.a6,vi p.a7],.flat false [vi p.a8,vi p.a9,vi p.cf,vi p.dR,vi p.a12,vi p.nf,vi p.jN,vi p.rh,.dz true],.flat false [vi p.a16,.sl yU p.a17,vi p.rm],.flat false [vi p.kx,vi p.a20,vi p.a21,vi p.a22,vi p.a23,vi p.a24,vi p.a25,vi p.a26,.dz true],.flat false [vi p.a27,.dz true],.dead]⟩
 | .c1 p=>⟨[⟨206,122,(en [(2,.ptr 0 0),(3,.ptr 1 0),(4,.ptr 2 0),(7,.ptr 3 0),(8,.ptr 4 0),(9,.ptr 5 0),(10,vi p.b0)]),[.code (cw Tryz.f206 [1,1,1,1,1,1,1,1,1,0,0]),.code (cw Tryz.f206 [1,1,1,1,1,1,1,1,1,0,1]),.code (cw Tryz.f206 [1,1,1,1,1,1,1,1,1,1])],[],none⟩],[.flat false [vi p.b1,.sl yU p.b2],.flat false [vi p.b3,vi p.b4,vi p.b5,vi p.b6,vi p.b7],.flat false [vi p.b8,vi p.b9,vi p.b10,vi p.b11,vi p.b12,vi p.b13,vi p.w5,vi p.yy,.dz true],.flat false [vi p.tZ,.sl yU p.Au,vi p.BZ],.flat false [vi p.j6,vi p.lq,vi p.kC,vi p.ll,vi p.re,vi p.ru,vi p.rD,vi p.oY,.dz true],.flat false [vi p.kS,.sl yU p.kX],.dead]⟩
 | .c2 p c0 c8 c9 c10 c11 c12 c13 c14 kB c16=>⟨[⟨235,34,(en [(0,.ptr 0 0),(3,.ptr 1 0),(4,vi c0)]),[.inLoop (cw Tryz.f235 [1,1,1,0,0,0]),.inBlock 0,.code (cw Tryz.f235 [1,1,1,1])],[],none⟩,⟨206,122,(en [(3,.ptr 2 0),(4,.ptr 3 0),(8,.ptr 4 0),(12,.ptr 5 0),(97,.agg [vi p.c1,vi p.c2,vi p.c3,vi p.c4,vi p.c5]),(100,.ptr 4 2)]),[.jB (ow Tryz.f206 [1,1,1,1,1,1,1,1,1,1,1,1,1,0,1,0,0,0,0,0,1,0]) [0,0,2,1,15,31,63] 2 [4,5,6] [3,0],.code (.exit 1),.inBlock 3,.code (cw Tryz.f206 [1,1,1,1,1,1,1,1,1,1,1,1,1,0,1,0,0,0,1]),.inBlock 4,.code (cw Tryz.f206 [1,1,1,1,1,1,1,1,1,1,1,1,1,0,1,0,1]),.inBlock 1,.code (cw Tryz.f206 [1,1,1,1,1,1,1,1,1,1,1,1,1,1])],[],none⟩],[.flat false [vi p.c6,.sl yU p.c7,vi c8],.flat false [.int .u8 false c9,.int .u8 false c10,.int .u8 false c11,.int .u8 false c12,.int .u8 false c13,.int .u8 false c14,.int .u8 false kB,.int .u8 false c16],.flat false [vi p.IS,vi p.H9,vi p.c19,vi p.c20,vi p.c21],.flat false [vi p.M9,vi p.c23,vi p.c24,vi p.Wh,vi p.Wz,vi p.V1,vi p.c28,vi p.Wb,.dz true],.flat false [vi p.Bz,vi p.c31,vi p.c32,vi p.Wl,vi p.c34,vi p.Wn,vi p.Wj,vi p.c37,.dz true],.flat false [vi p.Wv,.sl yU p.VW],.dead]⟩
 | .c3 p d0 d3 d4 d5 d6 d7 d8 d9 l6 lS=>⟨[⟨235,34,(en [(0,.ptr 0 0),(3,.ptr 1 0),(4,vi d0)]),[.inLoop (cw Tryz.f235 [1,1,1,0,0,0]),.inBlock 0,.code (cw Tryz.f235 [1,1,1,1])],[],none⟩,⟨206,122,(en [(3,.ptr 2 0),(4,.ptr 3 0),(8,.ptr 4 0),(12,.ptr 5 0),(97,.undef),(100,.undef)]),[.ops (ow Tryz.f206 [1,1,1,1,1,1,1,1,1,1,1,1,1,0,1,0,0,0,1,1]) ((ow Tryz.f206 [1,1,1,1,1,1,1,1,1,1,1,1,1,0,1,0,0,0,1,1]).toList.drop 1),.inBlock 4,.code (cw Tryz.f206 [1,1,1,1,1,1,1,1,1,1,1,1,1,0,1,0,1]),.inBlock 1,.code (cw Tryz.f206 [1,1,1,1,1,1,1,1,1,1,1,1,1,1])],[],none⟩],[.flat false [vi p.d1,.sl yU p.d2,vi d3],.flat false [.int .u8 false d4,.int .u8 false d5,.int .u8 false d6,.int .u8 false d7,.int .u8 false d8,.int .u8 false d9,.int .u8 false l6,.int .u8 false lS],.flat false [vi p.Wt,vi p.Wa,vi p.VZ,vi p.V0,vi p.Wk],.flat false [vi p.Wi,vi p.VU,vi p.Wd,vi p.V5,vi p.WA,vi p.Wq,vi p.Ws,vi p.Ww,.dz true],.flat false [vi p.A1,vi p.AZ,vi p.Wy,vi p.V6,vi p.VT,vi p.VX,vi p.Wx,vi p.Bg,.dz true],.flat false [vi p.vR,.sl yU p.vE],.dead]⟩
def t50(A:bg)(bN:Int)(bB:List Int)(cTime:Int)(cPos:Int)(cMode:Int)(cNext:Int)(cMember:Int):LT ((Int×Int×(Int×Int×Int×Int×Int)×Int×List Int)×Int) Io:=.need (A.k (@tt ((Int×List Int))) (bN,bB)) (.br (A.c .neq (A.k iG (bN,bB)) 0) (.ret ((0,0,(0,0,0,0,0),0,([]:List Int)),(A.k iG (bN,bB)))) (.need (A.k (@tt ((Int×Int×Int×Int×Int)×Int)) ((cTime,cPos,cMode,cNext,cMember),8)) (.br (A.c .neq (A.k ol ((cTime,cPos,cMode,cNext,cMember),8)) 0) (.ret ((0,0,(0,0,0,0,0),0,([]:List Int)),40)) (.need (A.k (@tt ((Int×List Int)×Int×Int)) ((bN,bB),0,2)) (.br (A.c .neq (A.k ay ((bN,bB),0,2)).2 0) (.need (A.k (@tt (Int×Int)) (bN,1)) (.br (A.not (A.k iw (bN,1))) (.ret ((0,0,(0,0,0,0,0),0,([]:List Int)),51)) (.need (A.k (@tt ((Int×List Int)×Int×Int)) ((bN,bB),0,3)) (.br (A.c .neq (A.k ay ((bN,bB),0,3)).2 0) (.need (A.k (@tt ((Int×List Int)×Int×Int)) ((bN,bB),0,8)) (.br (A.c .neq (A.k ay ((bN,bB),0,8)).2 0) (.need (A.k (@tt ((Int×List Int)×Int×Int)) ((bN,bB),0,3)) (.br (A.c .neq (A.k ay ((bN,bB),0,3)).2 0) (.more (.c0 ⟨0,bN,bB,cTime,cPos,cMode,cNext,cMember,0,0,0,0,0,0,0,0,bN,bB,0,1,0,0,0,0,0,0,0,0⟩)) (.more (.c0 ⟨(A.v .i64 (A.k ay ((bN,bB),0,3)).1),bN,bB,cTime,cPos,cMode,cNext,cMember,0,0,0,0,0,0,0,0,bN,bB,3,1,0,0,0,0,0,0,0,0⟩)))) (.need (A.k (@tt ((Int×List Int)×Int×Int)) ((bN,bB),8,3)) (.br (A.c .neq (A.k ay ((bN,bB),8,3)).2 0) (.more (.c0 ⟨0,bN,bB,cTime,cPos,cMode,cNext,cMember,0,0,0,0,0,0,0,0,bN,bB,8,1,0,(A.v .i64 (A.k ay ((bN,bB),0,8)).1),0,0,0,0,0,0⟩)) (.more (.c0 ⟨(A.v .i64 (A.k ay ((bN,bB),8,3)).1),bN,bB,cTime,cPos,cMode,cNext,cMember,0,0,0,0,0,0,0,0,bN,bB,11,1,0,(A.v .i64 (A.k ay ((bN,bB),0,8)).1),0,0,0,0,0,0⟩)))))) (.need (A.k (@tt ((Int×List Int)×Int×Int)) ((bN,bB),3,8)) (.br (A.c .neq (A.k ay ((bN,bB),3,8)).2 0) (.need (A.k (@tt ((Int×List Int)×Int×Int)) ((bN,bB),3,3)) (.br (A.c .neq (A.k ay ((bN,bB),3,3)).2 0) (.more (.c0 ⟨0,bN,bB,cTime,cPos,cMode,cNext,cMember,0,0,0,0,0,0,0,0,bN,bB,3,1,0,0,0,0,0,0,(A.v .i64 (A.k ay ((bN,bB),0,3)).1),0⟩)) (.more (.c0 ⟨(A.v .i64 (A.k ay ((bN,bB),3,3)).1),bN,bB,cTime,cPos,cMode,cNext,cMember,0,0,0,0,0,0,0,0,bN,bB,6,1,0,0,0,0,0,0,(A.v .i64 (A.k ay ((bN,bB),0,3)).1),0⟩)))) (.need (A.k (@tt ((Int×List Int)×Int×Int)) ((bN,bB),11,3)) (.br (A.c .neq (A.k ay ((bN,bB),11,3)).2 0) (.more (.c0 ⟨0,bN,bB,cTime,cPos,cMode,cNext,cMember,0,0,0,0,0,0,0,0,bN,bB,11,1,0,(A.v .i64 (A.k ay ((bN,bB),3,8)).1),0,0,0,0,(A.v .i64 (A.k ay ((bN,bB),0,3)).1),0⟩)) (.more (.c0 ⟨(A.v .i64 (A.k ay ((bN,bB),11,3)).1),bN,bB,cTime,cPos,cMode,cNext,cMember,0,0,0,0,0,0,0,0,bN,bB,14,1,0,(A.v .i64 (A.k ay ((bN,bB),3,8)).1),0,0,0,0,(A.v .i64 (A.k ay ((bN,bB),0,3)).1),0⟩)))))))))) (.need (A.k (@tt (Int×Int)) (bN,(A.b .add .i64 (A.v .i64 (A.k ay ((bN,bB),0,2)).1) 1))) (.br (A.not (A.k iw (bN,(A.b .add .i64 (A.v .i64 (A.k ay ((bN,bB),0,2)).1) 1)))) (.ret ((0,0,(0,0,0,0,0),0,([]:List Int)),51)) (.br (A.c .eql (A.b .add .i64 (A.v .i64 (A.k ay ((bN,bB),0,2)).1) 1) 1) (.need (A.k (@tt ((Int×List Int)×Int×Int)) ((bN,bB),2,3)) (.br (A.c .neq (A.k ay ((bN,bB),2,3)).2 0) (.need (A.k (@tt ((Int×List Int)×Int×Int)) ((bN,bB),2,8)) (.br (A.c .neq (A.k ay ((bN,bB),2,8)).2 0) (.need (A.k (@tt ((Int×List Int)×Int×Int)) ((bN,bB),2,3)) (.br (A.c .neq (A.k ay ((bN,bB),2,3)).2 0) (.more (.c0 ⟨0,bN,bB,cTime,cPos,cMode,cNext,cMember,0,0,0,0,0,0,0,0,bN,bB,2,(A.b .add .i64 (A.v .i64 (A.k ay ((bN,bB),0,2)).1) 1),0,0,0,0,0,0,0,0⟩)) (.more (.c0 ⟨(A.v .i64 (A.k ay ((bN,bB),2,3)).1),bN,bB,cTime,cPos,cMode,cNext,cMember,0,0,0,0,0,0,0,0,bN,bB,5,(A.b .add .i64 (A.v .i64 (A.k ay ((bN,bB),0,2)).1) 1),0,0,0,0,0,0,0,0⟩)))) (.need (A.k (@tt ((Int×List Int)×Int×Int)) ((bN,bB),10,3)) (.br (A.c .neq (A.k ay ((bN,bB),10,3)).2 0) (.more (.c0 ⟨0,bN,bB,cTime,cPos,cMode,cNext,cMember,0,0,0,0,0,0,0,0,bN,bB,10,(A.b .add .i64 (A.v .i64 (A.k ay ((bN,bB),0,2)).1) 1),0,(A.v .i64 (A.k ay ((bN,bB),2,8)).1),0,0,0,0,0,0⟩)) (.more (.c0 ⟨(A.v .i64 (A.k ay ((bN,bB),10,3)).1),bN,bB,cTime,cPos,cMode,cNext,cMember,0,0,0,0,0,0,0,0,bN,bB,13,(A.b .add .i64 (A.v .i64 (A.k ay ((bN,bB),0,2)).1) 1),0,(A.v .i64 (A.k ay ((bN,bB),2,8)).1),0,0,0,0,0,0⟩)))))) (.need (A.k (@tt ((Int×List Int)×Int×Int)) ((bN,bB),5,8)) (.br (A.c .neq (A.k ay ((bN,bB),5,8)).2 0) (.need (A.k (@tt ((Int×List Int)×Int×Int)) ((bN,bB),5,3)) (.br (A.c .neq (A.k ay ((bN,bB),5,3)).2 0) (.more (.c0 ⟨0,bN,bB,cTime,cPos,cMode,cNext,cMember,0,0,0,0,0,0,0,0,bN,bB,5,(A.b .add .i64 (A.v .i64 (A.k ay ((bN,bB),0,2)).1) 1),0,0,0,0,0,0,(A.v .i64 (A.k ay ((bN,bB),2,3)).1),0⟩)) (.more (.c0 ⟨(A.v .i64 (A.k ay ((bN,bB),5,3)).1),bN,bB,cTime,cPos,cMode,cNext,cMember,0,0,0,0,0,0,0,0,bN,bB,8,(A.b .add .i64 (A.v .i64 (A.k ay ((bN,bB),0,2)).1) 1),0,0,0,0,0,0,(A.v .i64 (A.k ay ((bN,bB),2,3)).1),0⟩)))) (.need (A.k (@tt ((Int×List Int)×Int×Int)) ((bN,bB),13,3)) (.br (A.c .neq (A.k ay ((bN,bB),13,3)).2 0) (.more (.c0 ⟨0,bN,bB,cTime,cPos,cMode,cNext,cMember,0,0,0,0,0,0,0,0,bN,bB,13,(A.b .add .i64 (A.v .i64 (A.k ay ((bN,bB),0,2)).1) 1),0,(A.v .i64 (A.k ay ((bN,bB),5,8)).1),0,0,0,0,(A.v .i64 (A.k ay ((bN,bB),2,3)).1),0⟩)) (.more (.c0 ⟨(A.v .i64 (A.k ay ((bN,bB),13,3)).1),bN,bB,cTime,cPos,cMode,cNext,cMember,0,0,0,0,0,0,0,0,bN,bB,16,(A.b .add .i64 (A.v .i64 (A.k ay ((bN,bB),0,2)).1) 1),0,(A.v .i64 (A.k ay ((bN,bB),5,8)).1),0,0,0,0,(A.v .i64 (A.k ay ((bN,bB),2,3)).1),0⟩)))))))) (.br (A.c .eql (A.b .add .i64 (A.v .i64 (A.k ay ((bN,bB),0,2)).1) 1) 2) (.need (A.k (@tt ((Int×List Int)×Int×Int)) ((bN,bB),2,3)) (.br (A.c .neq (A.k ay ((bN,bB),2,3)).2 0) (.need (A.k (@tt ((Int×Int×Int×Int×Int))) (cTime,cPos,cMode,cNext,cMember)) (.more (.c1 ⟨0,bN,bB,cTime,cPos,cMode,cNext,cMember,0,0,0,0,0,0,0,0,bN,bB,2,(A.b .add .i64 (A.v .i64 (A.k ay ((bN,bB),0,2)).1) 1),0,0,0,0,0,0,0,(A.k ng (cTime,cPos,cMode,cNext,cMember)).1.1,(A.k ng (cTime,cPos,cMode,cNext,cMember)).1.2⟩))) (.need (A.k (@tt ((Int×Int×Int×Int×Int))) (cTime,cPos,cMode,cNext,cMember)) (.more (.c1 ⟨0,bN,bB,cTime,cPos,cMode,cNext,cMember,0,0,0,0,0,0,0,0,bN,bB,5,(A.b .add .i64 (A.v .i64 (A.k ay ((bN,bB),0,2)).1) 1),(A.v .i64 (A.k ay ((bN,bB),2,3)).1),0,0,0,0,0,0,(A.k ng (cTime,cPos,cMode,cNext,cMember)).1.1,(A.k ng (cTime,cPos,cMode,cNext,cMember)).1.2⟩))))) (.need (A.k (@tt ((Int×List Int)×Int×Int)) ((bN,bB),2,3)) (.br (A.c .neq (A.k ay ((bN,bB),2,3)).2 0) (.eqs (IntKind.i64=IntKind.i64∧((A.b .sub .i64 (A.b .add .i64 (A.v .i64 (A.k ay ((bN,bB),0,2)).1) 1) 2):Int)=(A.b .sub .i64 (A.b .add .i64 (A.v .i64 (A.k ay ((bN,bB),0,2)).1) 1) 2)) (.eqs (IntKind.i64=IntKind.i64∧((A.b .add .i64 (A.v .i64 (A.k ay ((bN,bB),0,2)).1) 1):Int)=(A.b .add .i64 (A.v .i64 (A.k ay ((bN,bB),0,2)).1) 1)) (.eqs ((.ptr 4 0:AV)=.ptr 4 0) (.eqs ((.ptr 3 0:AV)=.ptr 3 0) (.need (A.k (@tt ((Int×List Int)×Int×Int)) ((bN,bB),2,(A.b .sub .i64 (A.b .add .i64 (A.v .i64 (A.k ay ((bN,bB),0,2)).1) 1) 2))) (.br (A.c .neq (A.k ay ((bN,bB),2,(A.b .sub .i64 (A.b .add .i64 (A.v .i64 (A.k ay ((bN,bB),0,2)).1) 1) 2))).2 0) (.eqs ((.ptr 4 1:AV)=.ptr 4 1) (.more (.c0 ⟨0,bN,bB,cTime,cPos,cMode,cNext,cMember,0,0,0,0,0,0,0,0,bN,bB,2,(A.b .add .i64 (A.v .i64 (A.k ay ((bN,bB),0,2)).1) 1),0,0,0,0,0,0,0,0⟩))) (.eqs ((.ptr 4 1:AV)=.ptr 4 1) (.more (.c0 ⟨(A.v .i64 (A.k ay ((bN,bB),2,(A.b .sub .i64 (A.b .add .i64 (A.v .i64 (A.k ay ((bN,bB),0,2)).1) 1) 2))).1),bN,bB,cTime,cPos,cMode,cNext,cMember,0,0,0,0,0,0,0,0,bN,bB,(A.b .add .i64 2 (A.b .sub .i64 (A.b .add .i64 (A.v .i64 (A.k ay ((bN,bB),0,2)).1) 1) 2)),(A.b .add .i64 (A.v .i64 (A.k ay ((bN,bB),0,2)).1) 1),0,0,0,0,0,0,0,0⟩))))))))) (.eqs (IntKind.i64=IntKind.i64∧((A.b .sub .i64 (A.b .add .i64 (A.v .i64 (A.k ay ((bN,bB),0,2)).1) 1) 2):Int)=(A.b .sub .i64 (A.b .add .i64 (A.v .i64 (A.k ay ((bN,bB),0,2)).1) 1) 2)) (.eqs (IntKind.i64=IntKind.i64∧((A.b .add .i64 (A.v .i64 (A.k ay ((bN,bB),0,2)).1) 1):Int)=(A.b .add .i64 (A.v .i64 (A.k ay ((bN,bB),0,2)).1) 1)) (.eqs ((.ptr 4 0:AV)=.ptr 4 0) (.eqs ((.ptr 3 0:AV)=.ptr 3 0) (.need (A.k (@tt ((Int×List Int)×Int×Int)) ((bN,bB),5,(A.b .sub .i64 (A.b .add .i64 (A.v .i64 (A.k ay ((bN,bB),0,2)).1) 1) 2))) (.br (A.c .neq (A.k ay ((bN,bB),5,(A.b .sub .i64 (A.b .add .i64 (A.v .i64 (A.k ay ((bN,bB),0,2)).1) 1) 2))).2 0) (.eqs ((.ptr 4 1:AV)=.ptr 4 1) (.more (.c0 ⟨0,bN,bB,cTime,cPos,cMode,cNext,cMember,0,0,0,0,0,0,0,0,bN,bB,5,(A.b .add .i64 (A.v .i64 (A.k ay ((bN,bB),0,2)).1) 1),(A.v .i64 (A.k ay ((bN,bB),2,3)).1),0,0,0,0,0,0,0⟩))) (.eqs ((.ptr 4 1:AV)=.ptr 4 1) (.more (.c0 ⟨(A.v .i64 (A.k ay ((bN,bB),5,(A.b .sub .i64 (A.b .add .i64 (A.v .i64 (A.k ay ((bN,bB),0,2)).1) 1) 2))).1),bN,bB,cTime,cPos,cMode,cNext,cMember,0,0,0,0,0,0,0,0,bN,bB,(A.b .add .i64 5 (A.b .sub .i64 (A.b .add .i64 (A.v .i64 (A.k ay ((bN,bB),0,2)).1) 1) 2)),(A.b .add .i64 (A.v .i64 (A.k ay ((bN,bB),0,2)).1) 1),(A.v .i64 (A.k ay ((bN,bB),2,3)).1),0,0,0,0,0,0,0⟩))))))))))))))))))))
def zr(A:bg):Io→LT ((Int×Int×(Int×Int×Int×Int×Int)×Int×List Int)×Int) Io
 | .c0 p=>.br (A.c .neq p.a0 0) (.ret ((0,0,(0,0,0,0,0),0,([]:List Int)),51)) (.need (A.k (@tt ((Int×List Int)×Int×(Int×List Int))) ((p.a1,p.a2),p.kx,p.a27,([]:List Int))) (.br (A.c .neq (A.k aW ((p.a1,p.a2),p.kx,p.a27,([]:List Int))).2.2 0) (.ret ((0,0,(0,0,0,0,0),0,([]:List Int)),(A.k aW ((p.a1,p.a2),p.kx,p.a27,([]:List Int))).2.2)) (.br (A.c .eql p.kx 2) (.more (.c2 ⟨p.a3,p.a4,p.a5,p.a6,p.a7,(A.k aW ((p.a1,p.a2),p.kx,p.a27,([]:List Int))).1.1,(A.k aW ((p.a1,p.a2),p.kx,p.a27,([]:List Int))).1.2,p.a3,p.a4,p.a5,p.a6,p.a7,p.a8,p.a9,p.cf,p.dR,p.a12,p.nf,p.jN,p.rh,p.kx,p.a20,p.a21,p.a22,p.a23,p.a24,p.a25,p.a26,(A.k aW ((p.a1,p.a2),p.kx,p.a27,([]:List Int))).2.1.1,(A.k aW ((p.a1,p.a2),p.kx,p.a27,([]:List Int))).2.1.2⟩ 0 p.rm 0 0 0 0 0 0 0 0)) (.br (A.c .eql p.kx 4) (.more (.c3 ⟨(A.k aW ((p.a1,p.a2),p.kx,p.a27,([]:List Int))).1.1,(A.k aW ((p.a1,p.a2),p.kx,p.a27,([]:List Int))).1.2,p.a3,p.a4,p.a5,p.a6,p.a7,p.a8,p.a9,p.cf,p.dR,p.a12,p.nf,p.jN,p.rh,p.kx,p.a20,p.a21,p.a22,p.a23,p.a24,p.a25,p.a26,(A.k aW ((p.a1,p.a2),p.kx,p.a27,([]:List Int))).2.1.1,(A.k aW ((p.a1,p.a2),p.kx,p.a27,([]:List Int))).2.1.2⟩ 0 55 0 0 0 0 0 0 0 0)) (.br (A.c .eql p.kx 3) (.need (A.k (@tt ((Int×List Int))) (A.k aW ((p.a1,p.a2),p.kx,p.a27,([]:List Int))).2.1) (.br (A.c .neq (A.k fS (A.k aW ((p.a1,p.a2),p.kx,p.a27,([]:List Int))).2.1).2 0) (.ret ((0,0,(0,0,0,0,0),0,([]:List Int)),51)) (.need (A.k (@tt ((Int×Int×(Int×Int×Int×Int×Int)×Int×List Int))) (p.kx,p.a20,(A.k fS (A.k aW ((p.a1,p.a2),p.kx,p.a27,([]:List Int))).2.1).1,p.a26,([]:List Int))) (.br (A.c .neq (A.k ml (p.kx,p.a20,(A.k fS (A.k aW ((p.a1,p.a2),p.kx,p.a27,([]:List Int))).2.1).1,p.a26,([]:List Int))) 0) (.ret ((0,0,(0,0,0,0,0),0,([]:List Int)),51)) (.ret ((p.kx,p.a20,(A.k fS (A.k aW ((p.a1,p.a2),p.kx,p.a27,([]:List Int))).2.1).1,p.a26,([]:List Int)),0)))))) (.need (A.k (@tt ((Int×Int×(Int×Int×Int×Int×Int)×Int×List Int))) (p.kx,p.a20,(p.a21,p.a22,p.a23,p.a24,p.a25),p.a26,([]:List Int))) (.br (A.c .neq (A.k ml (p.kx,p.a20,(p.a21,p.a22,p.a23,p.a24,p.a25),p.a26,([]:List Int))) 0) (.ret ((0,0,(0,0,0,0,0),0,([]:List Int)),51)) (.ret ((p.kx,p.a20,(p.a21,p.a22,p.a23,p.a24,p.a25),p.a26,([]:List Int)),0)))))))))
 | .c1 p=>.br (A.c .neq p.b0 0) (.ret ((0,0,(0,0,0,0,0),0,([]:List Int)),51)) (.need (A.k (@tt ((Int×List Int)×Int×(Int×List Int))) ((p.b1,p.b2),p.j6,p.kS,p.kX)) (.br (A.c .neq (A.k aW ((p.b1,p.b2),p.j6,p.kS,p.kX)).2.2 0) (.ret ((0,0,(0,0,0,0,0),0,([]:List Int)),(A.k aW ((p.b1,p.b2),p.j6,p.kS,p.kX)).2.2)) (.br (A.c .eql p.j6 2) (.more (.c2 ⟨p.b3,p.b4,p.b5,p.b6,p.b7,(A.k aW ((p.b1,p.b2),p.j6,p.kS,p.kX)).1.1,(A.k aW ((p.b1,p.b2),p.j6,p.kS,p.kX)).1.2,p.b3,p.b4,p.b5,p.b6,p.b7,p.b8,p.b9,p.b10,p.b11,p.b12,p.b13,p.w5,p.yy,p.j6,p.lq,p.kC,p.ll,p.re,p.ru,p.rD,p.oY,(A.k aW ((p.b1,p.b2),p.j6,p.kS,p.kX)).2.1.1,(A.k aW ((p.b1,p.b2),p.j6,p.kS,p.kX)).2.1.2⟩ 0 p.BZ 0 0 0 0 0 0 0 0)) (.br (A.c .eql p.j6 4) (.more (.c3 ⟨(A.k aW ((p.b1,p.b2),p.j6,p.kS,p.kX)).1.1,(A.k aW ((p.b1,p.b2),p.j6,p.kS,p.kX)).1.2,p.b3,p.b4,p.b5,p.b6,p.b7,p.b8,p.b9,p.b10,p.b11,p.b12,p.b13,p.w5,p.yy,p.j6,p.lq,p.kC,p.ll,p.re,p.ru,p.rD,p.oY,(A.k aW ((p.b1,p.b2),p.j6,p.kS,p.kX)).2.1.1,(A.k aW ((p.b1,p.b2),p.j6,p.kS,p.kX)).2.1.2⟩ 0 55 0 0 0 0 0 0 0 0)) (.br (A.c .eql p.j6 3) (.need (A.k (@tt ((Int×List Int))) (A.k aW ((p.b1,p.b2),p.j6,p.kS,p.kX)).2.1) (.br (A.c .neq (A.k fS (A.k aW ((p.b1,p.b2),p.j6,p.kS,p.kX)).2.1).2 0) (.ret ((0,0,(0,0,0,0,0),0,([]:List Int)),51)) (.need (A.k (@tt ((Int×Int×(Int×Int×Int×Int×Int)×Int×List Int))) (p.j6,p.lq,(A.k fS (A.k aW ((p.b1,p.b2),p.j6,p.kS,p.kX)).2.1).1,p.oY,([]:List Int))) (.br (A.c .neq (A.k ml (p.j6,p.lq,(A.k fS (A.k aW ((p.b1,p.b2),p.j6,p.kS,p.kX)).2.1).1,p.oY,([]:List Int))) 0) (.ret ((0,0,(0,0,0,0,0),0,([]:List Int)),51)) (.ret ((p.j6,p.lq,(A.k fS (A.k aW ((p.b1,p.b2),p.j6,p.kS,p.kX)).2.1).1,p.oY,([]:List Int)),0)))))) (.need (A.k (@tt ((Int×Int×(Int×Int×Int×Int×Int)×Int×List Int))) (p.j6,p.lq,(p.kC,p.ll,p.re,p.ru,p.rD),p.oY,([]:List Int))) (.br (A.c .neq (A.k ml (p.j6,p.lq,(p.kC,p.ll,p.re,p.ru,p.rD),p.oY,([]:List Int))) 0) (.ret ((0,0,(0,0,0,0,0),0,([]:List Int)),51)) (.ret ((p.j6,p.lq,(p.kC,p.ll,p.re,p.ru,p.rD),p.oY,([]:List Int)),0)))))))))
 | .c2 p c0 c8 c9 c10 c11 c12 c13 c14 kB c16=>.br (A.c .leq (A.b .add .i64 c8 8) p.c6) (.br (A.c .lss c0 8) (.need (A.k (@tt ((Int×List Int)×Int×Int)) ((p.c6,p.c7),c8,8)) (.br (A.c .neq (A.k ay ((p.c6,p.c7),c8,8)).2 0) (.need (A.and (A.c .leq 0 c0) (A.c .lss c0 8)) (.more (.c2 p (A.b .add .i64 c0 1) c8 (A.n yU (A.set [c9,c10,c11,c12,c13,c14,kB,c16] c0 (0:Int)) 0:Int) (A.n yU (A.set [c9,c10,c11,c12,c13,c14,kB,c16] c0 (0:Int)) 1:Int) (A.n yU (A.set [c9,c10,c11,c12,c13,c14,kB,c16] c0 (0:Int)) 2:Int) (A.n yU (A.set [c9,c10,c11,c12,c13,c14,kB,c16] c0 (0:Int)) 3:Int) (A.n yU (A.set [c9,c10,c11,c12,c13,c14,kB,c16] c0 (0:Int)) 4:Int) (A.n yU (A.set [c9,c10,c11,c12,c13,c14,kB,c16] c0 (0:Int)) 5:Int) (A.n yU (A.set [c9,c10,c11,c12,c13,c14,kB,c16] c0 (0:Int)) 6:Int) (A.n yU (A.set [c9,c10,c11,c12,c13,c14,kB,c16] c0 (0:Int)) 7:Int)))) (.need (A.and (A.c .leq 0 c0) (A.c .lss c0 8)) (.more (.c2 p (A.b .add .i64 c0 1) (A.b .add .i64 c8 8) (A.n yU (A.set [c9,c10,c11,c12,c13,c14,kB,c16] c0 (A.v .u8 (A.v .i64 (A.k ay ((p.c6,p.c7),c8,8)).1))) 0:Int) (A.n yU (A.set [c9,c10,c11,c12,c13,c14,kB,c16] c0 (A.v .u8 (A.v .i64 (A.k ay ((p.c6,p.c7),c8,8)).1))) 1:Int) (A.n yU (A.set [c9,c10,c11,c12,c13,c14,kB,c16] c0 (A.v .u8 (A.v .i64 (A.k ay ((p.c6,p.c7),c8,8)).1))) 2:Int) (A.n yU (A.set [c9,c10,c11,c12,c13,c14,kB,c16] c0 (A.v .u8 (A.v .i64 (A.k ay ((p.c6,p.c7),c8,8)).1))) 3:Int) (A.n yU (A.set [c9,c10,c11,c12,c13,c14,kB,c16] c0 (A.v .u8 (A.v .i64 (A.k ay ((p.c6,p.c7),c8,8)).1))) 4:Int) (A.n yU (A.set [c9,c10,c11,c12,c13,c14,kB,c16] c0 (A.v .u8 (A.v .i64 (A.k ay ((p.c6,p.c7),c8,8)).1))) 5:Int) (A.n yU (A.set [c9,c10,c11,c12,c13,c14,kB,c16] c0 (A.v .u8 (A.v .i64 (A.k ay ((p.c6,p.c7),c8,8)).1))) 6:Int) (A.n yU (A.set [c9,c10,c11,c12,c13,c14,kB,c16] c0 (A.v .u8 (A.v .i64 (A.k ay ((p.c6,p.c7),c8,8)).1))) 7:Int)))))) (.need (A.and (A.c .eql c0 c0) (A.and (A.c .leq 0 c0) (A.c .leq c0 140737488355328))) (.eqs ((.ptr 4 2:AV)=.ptr 4 2) (.eqs ((.agg [.int .i64 false p.IS,.int .i64 false p.H9,.int .i64 false p.c19,.int .i64 false p.c20,.int .i64 false p.c21]:AV)=.agg [.int .i64 false p.c1,.int .i64 false p.c2,.int .i64 false p.c3,.int .i64 false p.c4,.int .i64 false p.c5]) (.need (A.k (@tt ((Int×Int×(Int×Int×Int×Int×Int)×Int×List Int))) (p.Bz,p.c31,(p.c1,p.c2,p.c3,p.c4,p.c5),p.c37,(A.spl (A.r c0 (0:Int)) 0 (A.s [c9,c10,c11,c12,c13,c14,kB,c16] 0 (A.mn (A.l [c9,c10,c11,c12,c13,c14,kB,c16]) (A.l (A.r c0 (0:Int)))))))) (.br (A.c .neq (A.k ml (p.Bz,p.c31,(p.c1,p.c2,p.c3,p.c4,p.c5),p.c37,(A.spl (A.r c0 (0:Int)) 0 (A.s [c9,c10,c11,c12,c13,c14,kB,c16] 0 (A.mn (A.l [c9,c10,c11,c12,c13,c14,kB,c16]) (A.l (A.r c0 (0:Int)))))))) 0) (.ret ((0,0,(0,0,0,0,0),0,([]:List Int)),51)) (.ret ((p.Bz,p.c31,(p.c1,p.c2,p.c3,p.c4,p.c5),p.c37,(A.spl (A.r c0 (0:Int)) 0 (A.s [c9,c10,c11,c12,c13,c14,kB,c16] 0 (A.mn (A.l [c9,c10,c11,c12,c13,c14,kB,c16]) (A.l (A.r c0 (0:Int))))))),0)))))))) (.need (A.and (A.c .eql c0 c0) (A.and (A.c .leq 0 c0) (A.c .leq c0 140737488355328))) (.eqs ((.ptr 4 2:AV)=.ptr 4 2) (.eqs ((.agg [.int .i64 false p.IS,.int .i64 false p.H9,.int .i64 false p.c19,.int .i64 false p.c20,.int .i64 false p.c21]:AV)=.agg [.int .i64 false p.c1,.int .i64 false p.c2,.int .i64 false p.c3,.int .i64 false p.c4,.int .i64 false p.c5]) (.need (A.k (@tt ((Int×Int×(Int×Int×Int×Int×Int)×Int×List Int))) (p.Bz,p.c31,(p.c1,p.c2,p.c3,p.c4,p.c5),p.c37,(A.spl (A.r c0 (0:Int)) 0 (A.s [c9,c10,c11,c12,c13,c14,kB,c16] 0 (A.mn (A.l [c9,c10,c11,c12,c13,c14,kB,c16]) (A.l (A.r c0 (0:Int)))))))) (.br (A.c .neq (A.k ml (p.Bz,p.c31,(p.c1,p.c2,p.c3,p.c4,p.c5),p.c37,(A.spl (A.r c0 (0:Int)) 0 (A.s [c9,c10,c11,c12,c13,c14,kB,c16] 0 (A.mn (A.l [c9,c10,c11,c12,c13,c14,kB,c16]) (A.l (A.r c0 (0:Int)))))))) 0) (.ret ((0,0,(0,0,0,0,0),0,([]:List Int)),51)) (.ret ((p.Bz,p.c31,(p.c1,p.c2,p.c3,p.c4,p.c5),p.c37,(A.spl (A.r c0 (0:Int)) 0 (A.s [c9,c10,c11,c12,c13,c14,kB,c16] 0 (A.mn (A.l [c9,c10,c11,c12,c13,c14,kB,c16]) (A.l (A.r c0 (0:Int))))))),0)))))))
 | .c3 p d0 d3 d4 d5 d6 d7 d8 d9 l6 lS=>.br (A.c .leq (A.b .add .i64 d3 8) p.d1) (.br (A.c .lss d0 8) (.need (A.k (@tt ((Int×List Int)×Int×Int)) ((p.d1,p.d2),d3,8)) (.br (A.c .neq (A.k ay ((p.d1,p.d2),d3,8)).2 0) (.need (A.and (A.c .leq 0 d0) (A.c .lss d0 8)) (.more (.c3 p (A.b .add .i64 d0 1) d3 (A.n yU (A.set [d4,d5,d6,d7,d8,d9,l6,lS] d0 (0:Int)) 0:Int) (A.n yU (A.set [d4,d5,d6,d7,d8,d9,l6,lS] d0 (0:Int)) 1:Int) (A.n yU (A.set [d4,d5,d6,d7,d8,d9,l6,lS] d0 (0:Int)) 2:Int) (A.n yU (A.set [d4,d5,d6,d7,d8,d9,l6,lS] d0 (0:Int)) 3:Int) (A.n yU (A.set [d4,d5,d6,d7,d8,d9,l6,lS] d0 (0:Int)) 4:Int) (A.n yU (A.set [d4,d5,d6,d7,d8,d9,l6,lS] d0 (0:Int)) 5:Int) (A.n yU (A.set [d4,d5,d6,d7,d8,d9,l6,lS] d0 (0:Int)) 6:Int) (A.n yU (A.set [d4,d5,d6,d7,d8,d9,l6,lS] d0 (0:Int)) 7:Int)))) (.need (A.and (A.c .leq 0 d0) (A.c .lss d0 8)) (.more (.c3 p (A.b .add .i64 d0 1) (A.b .add .i64 d3 8) (A.n yU (A.set [d4,d5,d6,d7,d8,d9,l6,lS] d0 (A.v .u8 (A.v .i64 (A.k ay ((p.d1,p.d2),d3,8)).1))) 0:Int) (A.n yU (A.set [d4,d5,d6,d7,d8,d9,l6,lS] d0 (A.v .u8 (A.v .i64 (A.k ay ((p.d1,p.d2),d3,8)).1))) 1:Int) (A.n yU (A.set [d4,d5,d6,d7,d8,d9,l6,lS] d0 (A.v .u8 (A.v .i64 (A.k ay ((p.d1,p.d2),d3,8)).1))) 2:Int) (A.n yU (A.set [d4,d5,d6,d7,d8,d9,l6,lS] d0 (A.v .u8 (A.v .i64 (A.k ay ((p.d1,p.d2),d3,8)).1))) 3:Int) (A.n yU (A.set [d4,d5,d6,d7,d8,d9,l6,lS] d0 (A.v .u8 (A.v .i64 (A.k ay ((p.d1,p.d2),d3,8)).1))) 4:Int) (A.n yU (A.set [d4,d5,d6,d7,d8,d9,l6,lS] d0 (A.v .u8 (A.v .i64 (A.k ay ((p.d1,p.d2),d3,8)).1))) 5:Int) (A.n yU (A.set [d4,d5,d6,d7,d8,d9,l6,lS] d0 (A.v .u8 (A.v .i64 (A.k ay ((p.d1,p.d2),d3,8)).1))) 6:Int) (A.n yU (A.set [d4,d5,d6,d7,d8,d9,l6,lS] d0 (A.v .u8 (A.v .i64 (A.k ay ((p.d1,p.d2),d3,8)).1))) 7:Int)))))) (.need (A.and (A.c .eql d0 d0) (A.and (A.c .leq 0 d0) (A.c .leq d0 140737488355328))) (.need (A.k (@tt ((Int×List Int))) (p.vR,p.vE)) (.br (A.c .neq (A.k fS (p.vR,p.vE)).2 0) (.ret ((0,0,(0,0,0,0,0),0,([]:List Int)),51)) (.need (A.k (@tt ((Int×Int×(Int×Int×Int×Int×Int)×Int×List Int))) (p.A1,p.AZ,(A.k fS (p.vR,p.vE)).1,p.Bg,(A.spl (A.r d0 (0:Int)) 0 (A.s [d4,d5,d6,d7,d8,d9,l6,lS] 0 (A.mn (A.l [d4,d5,d6,d7,d8,d9,l6,lS]) (A.l (A.r d0 (0:Int)))))))) (.br (A.c .neq (A.k ml (p.A1,p.AZ,(A.k fS (p.vR,p.vE)).1,p.Bg,(A.spl (A.r d0 (0:Int)) 0 (A.s [d4,d5,d6,d7,d8,d9,l6,lS] 0 (A.mn (A.l [d4,d5,d6,d7,d8,d9,l6,lS]) (A.l (A.r d0 (0:Int)))))))) 0) (.ret ((0,0,(0,0,0,0,0),0,([]:List Int)),51)) (.ret ((p.A1,p.AZ,(A.k fS (p.vR,p.vE)).1,p.Bg,(A.spl (A.r d0 (0:Int)) 0 (A.s [d4,d5,d6,d7,d8,d9,l6,lS] 0 (A.mn (A.l [d4,d5,d6,d7,d8,d9,l6,lS]) (A.l (A.r d0 (0:Int))))))),0)))))))) (.need (A.and (A.c .eql d0 d0) (A.and (A.c .leq 0 d0) (A.c .leq d0 140737488355328))) (.need (A.k (@tt ((Int×List Int))) (p.vR,p.vE)) (.br (A.c .neq (A.k fS (p.vR,p.vE)).2 0) (.ret ((0,0,(0,0,0,0,0),0,([]:List Int)),51)) (.need (A.k (@tt ((Int×Int×(Int×Int×Int×Int×Int)×Int×List Int))) (p.A1,p.AZ,(A.k fS (p.vR,p.vE)).1,p.Bg,(A.spl (A.r d0 (0:Int)) 0 (A.s [d4,d5,d6,d7,d8,d9,l6,lS] 0 (A.mn (A.l [d4,d5,d6,d7,d8,d9,l6,lS]) (A.l (A.r d0 (0:Int)))))))) (.br (A.c .neq (A.k ml (p.A1,p.AZ,(A.k fS (p.vR,p.vE)).1,p.Bg,(A.spl (A.r d0 (0:Int)) 0 (A.s [d4,d5,d6,d7,d8,d9,l6,lS] 0 (A.mn (A.l [d4,d5,d6,d7,d8,d9,l6,lS]) (A.l (A.r d0 (0:Int)))))))) 0) (.ret ((0,0,(0,0,0,0,0),0,([]:List Int)),51)) (.ret ((p.A1,p.AZ,(A.k fS (p.vR,p.vE)).1,p.Bg,(A.spl (A.r d0 (0:Int)) 0 (A.s [d4,d5,d6,d7,d8,d9,l6,lS] 0 (A.mn (A.l [d4,d5,d6,d7,d8,d9,l6,lS]) (A.l (A.r d0 (0:Int))))))),0)))))))
theorem ao{R Y:Type}{step:Y→LT R Y}{t:LT R Y}{r r':R}(h:r=r')(h2:aC step t r):aC step t r':=h▸h2
theorem Ir{S:List Int}(h:S.length=8):[S.getD 0 0,S.getD 1 0,S.getD 2 0,S.getD 3 0,S.getD 4 0,S.getD 5 0,S.getD 6 0,S.getD 7 0]=S:=by
 match S,h with
 | [_,_,_,_,_,_,_,_],_=>rfl
theorem qd(k:Nat):∀l:List Bool,aN (k+1) l=aN k l ++ [((dw ((l.drop (8*k)).take 8):Nat):Int)]:=by
 induction k with
 | zero=>intro l;rfl
 | succ k ih=>
   intro l
   rw[aN,ih,aN,List.cons_append,List.drop_drop,show 8+8*k=8*(k+1) from by omega]
theorem G6{m d a:Nat}{b:List Int}(hok:bq ((m:Int),b)=true)(hm:m=a+8*d)(hd:d≤8)(ha:a≤100):∀(j i:Nat) (p:IG) (x0 x1 x2 x3 x4 x5 x6 x7:Int),p.c6=(m:Int)→p.c7=b→p.IS=p.c1→p.H9=p.c2→p.c19=p.c3→p.c20=p.c4→p.c21=p.c5→ [x0,x1,x2,x3,x4,x5,x6,x7]=aN i ((unpack m b).drop a)++List.replicate (8-i) 0→d-i=j→i≤d→
  aC (zr ai) (.more (.c2 p (i:Int) ((a+8*i:Nat):Int) x0 x1 x2 x3 x4 x5 x6 x7)) (bif fe (p.Bz,p.c31,(p.c1,p.c2,p.c3,p.c4,p.c5),p.c37,aN d ((unpack m b).drop a)) then((p.Bz,p.c31,(p.c1,p.c2,p.c3,p.c4,p.c5),p.c37,aN d ((unpack m b).drop a)),0) else(cY,51)):=by
 intro j
 induction j with
 | zero=>
   intro i p x0 x1 x2 x3 x4 x5 x6 x7 h6 h7 h17 h18 h19 h20 h21 hR hj hi
   have:i=d:=by omega
   subst this
   have hdl:=cv i ((unpack m b).drop a)
   have hD:(ai.spl (ai.r (i:Int) (0:Int)) 0 (ai.s [x0,x1,x2,x3,x4,x5,x6,x7] 0 (ai.mn (ai.l [x0,x1,x2,x3,x4,x5,x6,x7]) (ai.l (ai.r (i:Int) (0:Int))))):List Int)=aN i ((unpack m b).drop a):=by
    rw[hR]
    have e1:ai.r (i:Int) (0:Int)=List.replicate i 0:=by rw[l9,Int.toNat_natCast]
    rw[e1]
    have e2:ai.mn (ai.l (aN i ((unpack m b).drop a)++List.replicate (8-i) (0:Int))) (ai.l (List.replicate i (0:Int)))=(i:Int):=by
     show(if ((List.replicate i (0:Int)).length:Int)<((aN i ((unpack m b).drop a)++List.replicate (8-i) (0:Int)).length:Int) then((List.replicate i (0:Int)).length:Int) else((aN i ((unpack m b).drop a)++List.replicate (8-i) (0:Int)).length:Int))=_
     rw[List.length_append,hdl,List.length_replicate,List.length_replicate]
     split<;>omega
    have hT:(aN i ((unpack m b).drop a)++List.replicate (8-i) (0:Int)).take i=aN i ((unpack m b).drop a):=by rw[List.take_append_of_le_length (by omega),List.take_of_length_le (by omega)]
    rw[e2,kR,oA,Int.toNat_natCast,hT]
    show(List.replicate i (0:Int)).take 0++(aN i ((unpack m b).drop a)).drop 0++(List.replicate i (0:Int)).drop (0+((aN i ((unpack m b).drop a)).drop 0).length)=_
    rw[List.drop_zero,hdl,List.drop_replicate,show i-(0+i)=0 from by omega,List.replicate_zero,List.take_zero,List.nil_append,List.append_nil]
   rw[ak,zr]
   refine(ah (by rw[h6,show ai.b .add .i64 ((a+8*i:Nat):Int) 8=((a+8*i+8:Nat):Int) from eZ (j:=8) (by omega),iJ];simp;omega)).2 ?_
   refine af.2 ⟨by rw[qo rfl,fY,aF,aQ,aQ];simp;omega,fG.2 ⟨rfl,fG.2 ⟨by rw[h17,h18,h19,h20,h21],af.2 ⟨rfl,?_⟩⟩⟩⟩
   have hchk:ai.k ml (p.Bz,p.c31,(p.c1,p.c2,p.c3,p.c4,p.c5),p.c37,(ai.spl (ai.r (i:Int) (0:Int)) 0 (ai.s [x0,x1,x2,x3,x4,x5,x6,x7] 0 (ai.mn (ai.l [x0,x1,x2,x3,x4,x5,x6,x7]) (ai.l (ai.r (i:Int) (0:Int)))))))=bif fe (p.Bz,p.c31,(p.c1,p.c2,p.c3,p.c4,p.c5),p.c37,aN i ((unpack m b).drop a)) then 0 else 50:=by rw[hD];exact rH
   cases hf:fe (p.Bz,p.c31,(p.c1,p.c2,p.c3,p.c4,p.c5),p.c37,aN i ((unpack m b).drop a))
   ·rw[hf] at hchk
    exact(aj (dX (by rw[hchk];decide))).2 (.ret _)
   ·rw[hf] at hchk
    refine(ah (cn hchk)).2 ?_
    exact aZ (congrArg (fun z=>LT.ret ((p.Bz,p.c31,(p.c1,p.c2,p.c3,p.c4,p.c5),p.c37,z),(0:Int))) hD) (.ret _)
 | succ j ih=>
   intro i p x0 x1 x2 x3 x4 x5 x6 x7 h6 h7 h17 h18 h19 h20 h21 hR hj hi
   have hmb:m≤4096:=by
    simp only[bq,Bool.and_eq_true,decide_eq_true_eq] at hok
    omega
   have hg:ai.k ay ((p.c6,p.c7),((a+8*i:Nat):Int),8)=(((bf (unpack m b) (a+8*i) 8:Nat):Int),0):=by
    rw[h6,h7];exact iV hok (w:=8) (by omega) (by decide) hmb
   have hf:=dJ (unpack m b) (a+8*i) 8
   have hv:ai.v .u8 (ai.v .i64 (ai.k ay ((p.c6,p.c7),((a+8*i:Nat):Int),8)).1)=((bf (unpack m b) (a+8*i) 8:Nat):Int):=by
    rw[hg,bL,bL,gh (by omega) (by omega),w8 (by omega) (by omega)]
   have hn8:ai.and (ai.c .leq 0 (i:Int)) (ai.c .lss (i:Int) 8)=true:=by rw[fY,al,aQ];simp;omega
   rw[ak,zr]
   refine(aj (by rw[h6,show ai.b .add .i64 ((a+8*i:Nat):Int) 8=((a+8*i+8:Nat):Int) from eZ (j:=8) (by omega),iJ];simp;omega)).2 ?_
   refine(aj (by rw[al];simp;omega)).2 (af.2 ⟨rfl,(ah (cn (congrArg Prod.snd hg))).2 (af.2 ⟨hn8,?_⟩)⟩)
   obtain⟨S,hS⟩:∃S:List Int,S=([x0,x1,x2,x3,x4,x5,x6,x7]:List Int).set (i:Int).toNat (ai.v .u8 (ai.v .i64 (ai.k ay ((p.c6,p.c7),((a+8*i:Nat):Int),8)).1)):=⟨_,rfl⟩
   have hSl:S.length=8:=by rw[hS,List.length_set];rfl
   have hSv:S=aN (i+1) ((unpack m b).drop a)++List.replicate (8-(i+1)) 0:=by
    rw[hS,hv,hR,Int.toNat_natCast,List.set_append_right _ _ (by rw[cv];exact Nat.le_refl _),cv,Nat.sub_self,qd,show 8-i=(8-(i+1))+1 from by omega,List.replicate_succ,List.set_cons_zero,List.append_assoc,List.drop_drop]
    rfl
   have hm':=ih (i+1) p (S.getD 0 0) (S.getD 1 0) (S.getD 2 0) (S.getD 3 0) (S.getD 4 0) (S.getD 5 0) (S.getD 6 0) (S.getD 7 0) h6 h7 h17 h18 h19 h20 h21 ((Ir hSl).trans hSv) (by omega) (by omega)
   have e:Io.c2 p (ai.b .add .i64 (i:Int) 1) (ai.b .add .i64 ((a+8*i:Nat):Int) 8) (S.getD 0 0) (S.getD 1 0) (S.getD 2 0) (S.getD 3 0) (S.getD 4 0) (S.getD 5 0) (S.getD 6 0) (S.getD 7 0)=Io.c2 p ((i+1:Nat):Int) ((a+8*(i+1):Nat):Int) (S.getD 0 0) (S.getD 1 0) (S.getD 2 0) (S.getD 3 0) (S.getD 4 0) (S.getD 5 0) (S.getD 6 0) (S.getD 7 0):=by
    rw[cK (by omega),show ai.b .add .i64 ((a+8*i:Nat):Int) 8=((a+8*(i+1):Nat):Int) from eZ (j:=8) (by omega)]
   have hm2:=aZ (congrArg LT.more e) hm'
   subst hS
   exact hm2
theorem FU{m d a:Nat}{b:List Int}(hok:bq ((m:Int),b)=true)(hm:m=a+8*d)(hd:d≤8)(ha:a≤100):∀(j i:Nat) (p:Ig) (x0 x1 x2 x3 x4 x5 x6 x7:Int),p.d1=(m:Int)→p.d2=b→ [x0,x1,x2,x3,x4,x5,x6,x7]=aN i ((unpack m b).drop a)++List.replicate (8-i) 0→d-i=j→i≤d→
  aC (zr ai) (.more (.c3 p (i:Int) ((a+8*i:Nat):Int) x0 x1 x2 x3 x4 x5 x6 x7)) (bif (dy (p.vR,p.vE)).2 != 0 then(cY,51) else bif fe (p.A1,p.AZ,(dy (p.vR,p.vE)).1,p.Bg,aN d ((unpack m b).drop a)) then((p.A1,p.AZ,(dy (p.vR,p.vE)).1,p.Bg,aN d ((unpack m b).drop a)),0) else(cY,51)):=by
 intro j
 induction j with
 | zero=>
   intro i p x0 x1 x2 x3 x4 x5 x6 x7 h6 h7 hR hj hi
   have:i=d:=by omega
   subst this
   have hdl:=cv i ((unpack m b).drop a)
   have hD:(ai.spl (ai.r (i:Int) (0:Int)) 0 (ai.s [x0,x1,x2,x3,x4,x5,x6,x7] 0 (ai.mn (ai.l [x0,x1,x2,x3,x4,x5,x6,x7]) (ai.l (ai.r (i:Int) (0:Int))))):List Int)=aN i ((unpack m b).drop a):=by
    rw[hR]
    have e1:ai.r (i:Int) (0:Int)=List.replicate i 0:=by rw[l9,Int.toNat_natCast]
    rw[e1]
    have e2:ai.mn (ai.l (aN i ((unpack m b).drop a)++List.replicate (8-i) (0:Int))) (ai.l (List.replicate i (0:Int)))=(i:Int):=by
     show(if ((List.replicate i (0:Int)).length:Int)<((aN i ((unpack m b).drop a)++List.replicate (8-i) (0:Int)).length:Int) then((List.replicate i (0:Int)).length:Int) else((aN i ((unpack m b).drop a)++List.replicate (8-i) (0:Int)).length:Int))=_
     rw[List.length_append,hdl,List.length_replicate,List.length_replicate]
     split<;>omega
    have hT:(aN i ((unpack m b).drop a)++List.replicate (8-i) (0:Int)).take i=aN i ((unpack m b).drop a):=by rw[List.take_append_of_le_length (by omega),List.take_of_length_le (by omega)]
    rw[e2,kR,oA,Int.toNat_natCast,hT]
    show(List.replicate i (0:Int)).take 0++(aN i ((unpack m b).drop a)).drop 0++(List.replicate i (0:Int)).drop (0+((aN i ((unpack m b).drop a)).drop 0).length)=_
    rw[List.drop_zero,hdl,List.drop_replicate,show i-(0+i)=0 from by omega,List.replicate_zero,List.take_zero,List.nil_append,List.append_nil]
   rw[ak,zr]
   refine(ah (by rw[h6,show ai.b .add .i64 ((a+8*i:Nat):Int) 8=((a+8*i+8:Nat):Int) from eZ (j:=8) (by omega),iJ];simp;omega)).2 ?_
   refine af.2 ⟨by rw[qo rfl,fY,aF,aQ,aQ];simp;omega,af.2 ⟨rfl,?_⟩⟩
   cases he:((dy (p.vR,p.vE)).2 != 0)
   ·refine(ah he).2 (af.2 ⟨rfl,?_⟩)
    have hchk:ai.k ml (p.A1,p.AZ,(ai.k fS (p.vR,p.vE)).1,p.Bg,(ai.spl (ai.r (i:Int) (0:Int)) 0 (ai.s [x0,x1,x2,x3,x4,x5,x6,x7] 0 (ai.mn (ai.l [x0,x1,x2,x3,x4,x5,x6,x7]) (ai.l (ai.r (i:Int) (0:Int)))))))=bif fe (p.A1,p.AZ,(dy (p.vR,p.vE)).1,p.Bg,aN i ((unpack m b).drop a)) then 0 else 50:=by rw[hD];exact rH
    cases hf:fe (p.A1,p.AZ,(dy (p.vR,p.vE)).1,p.Bg,aN i ((unpack m b).drop a))
    ·rw[hf] at hchk
     exact(aj (dX (by rw[hchk];decide))).2 (.ret _)
    ·rw[hf] at hchk
     refine(ah (cn hchk)).2 ?_
     exact aZ (congrArg (fun z=>LT.ret ((p.A1,p.AZ,(dy (p.vR,p.vE)).1,p.Bg,z),(0:Int))) hD) (.ret _)
   ·exact(aj he).2 (.ret _)
 | succ j ih=>
   intro i p x0 x1 x2 x3 x4 x5 x6 x7 h6 h7 hR hj hi
   have hmb:m≤4096:=by
    simp only[bq,Bool.and_eq_true,decide_eq_true_eq] at hok
    omega
   have hg:ai.k ay ((p.d1,p.d2),((a+8*i:Nat):Int),8)=(((bf (unpack m b) (a+8*i) 8:Nat):Int),0):=by
    rw[h6,h7];exact iV hok (w:=8) (by omega) (by decide) hmb
   have hf:=dJ (unpack m b) (a+8*i) 8
   have hv:ai.v .u8 (ai.v .i64 (ai.k ay ((p.d1,p.d2),((a+8*i:Nat):Int),8)).1)=((bf (unpack m b) (a+8*i) 8:Nat):Int):=by
    rw[hg,bL,bL,gh (by omega) (by omega),w8 (by omega) (by omega)]
   have hn8:ai.and (ai.c .leq 0 (i:Int)) (ai.c .lss (i:Int) 8)=true:=by rw[fY,al,aQ];simp;omega
   rw[ak,zr]
   refine(aj (by rw[h6,show ai.b .add .i64 ((a+8*i:Nat):Int) 8=((a+8*i+8:Nat):Int) from eZ (j:=8) (by omega),iJ];simp;omega)).2 ?_
   refine(aj (by rw[al];simp;omega)).2 (af.2 ⟨rfl,(ah (cn (congrArg Prod.snd hg))).2 (af.2 ⟨hn8,?_⟩)⟩)
   obtain⟨S,hS⟩:∃S:List Int,S=([x0,x1,x2,x3,x4,x5,x6,x7]:List Int).set (i:Int).toNat (ai.v .u8 (ai.v .i64 (ai.k ay ((p.d1,p.d2),((a+8*i:Nat):Int),8)).1)):=⟨_,rfl⟩
   have hSl:S.length=8:=by rw[hS,List.length_set];rfl
   have hSv:S=aN (i+1) ((unpack m b).drop a)++List.replicate (8-(i+1)) 0:=by
    rw[hS,hv,hR,Int.toNat_natCast,List.set_append_right _ _ (by rw[cv];exact Nat.le_refl _),cv,Nat.sub_self,qd,show 8-i=(8-(i+1))+1 from by omega,List.replicate_succ,List.set_cons_zero,List.append_assoc,List.drop_drop]
    rfl
   have hm':=ih (i+1) p (S.getD 0 0) (S.getD 1 0) (S.getD 2 0) (S.getD 3 0) (S.getD 4 0) (S.getD 5 0) (S.getD 6 0) (S.getD 7 0) h6 h7 ((Ir hSl).trans hSv) (by omega) (by omega)
   have e:Io.c3 p (ai.b .add .i64 (i:Int) 1) (ai.b .add .i64 ((a+8*i:Nat):Int) 8) (S.getD 0 0) (S.getD 1 0) (S.getD 2 0) (S.getD 3 0) (S.getD 4 0) (S.getD 5 0) (S.getD 6 0) (S.getD 7 0)=Io.c3 p ((i+1:Nat):Int) ((a+8*(i+1):Nat):Int) (S.getD 0 0) (S.getD 1 0) (S.getD 2 0) (S.getD 3 0) (S.getD 4 0) (S.getD 5 0) (S.getD 6 0) (S.getD 7 0):=by
    rw[cK (by omega),show ai.b .add .i64 ((a+8*i:Nat):Int) 8=((a+8*(i+1):Nat):Int) from eZ (j:=8) (by omega)]
   have hm2:=aZ (congrArg LT.more e) hm'
   subst hS
   exact hm2
theorem qx{k:Nat}:∀{a c:Nat} {l:List Bool},a+8*k≤c→c≤l.length→aN k ((l.take c).drop a)=aN k (l.drop a):=by
 induction k with
 | zero=>intro a c l _ _;rfl
 | succ k ih=>
   intro a c l h hc
   rw[aN,aN,List.drop_drop,List.drop_drop,ih (by omega) hc]
   congr 2
   congr 1
   rw[List.drop_take,List.take_take,Nat.min_eq_left (by omega)]
theorem Hl{n a w:Nat}{b:List Int}(hok:bq ((n:Int),b)=true)(h:n<a+w):ai.k ay (((n:Int),b),(a:Int),(w:Int))=(0,2):=by
 rw[ap,ay,AX]
 simp only[hok,Bool.not_true,cond_false]
 rw[show decide ((n:Int)<(a:Int)+(w:Int))=true from by simp;omega,Bool.or_true]
 rfl
theorem A7{n t p m x s:Int}{b:List Int}(h:Ty.dH [(.struct [(.int .i64),(.slice (.int .u8))]),(.struct [(.int .i64),(.int .i64),(.int .i64),(.int .i64),(.int .i64)])] ((n,b),(t,p,m,x,s))):Ty.has (.struct [(.int .i64),(.slice (.int .u8))]) (n,b):=h.1
theorem tP{q:List Bool}(h:q.length=24):dy (bJ q)=bif dN (eG q) then(eG q,0) else(zS,40):=by
 rw[dy,gG (by omega),fK,show(bJ q).1=24 from by show((q.length:Nat):Int)=24;rw[h];rfl]
 rfl
theorem Lf{n t p m x s:Int}{b:List Int}(h:Ty.dH [(.struct [(.int .i64),(.slice (.int .u8))]),(.struct [(.int .i64),(.int .i64),(.int .i64),(.int .i64),(.int .i64)])] ((n,b),(t,p,m,x,s))):aC (zr ai) (t50 ai n b t p m x s) (mT ((n,b),(t,p,m,x,s))):=by
 have h1:=A7 h
 have hb:=(dM h1).2.2
 have hl:=cZ h1
 unfold t50
 have hc:ai.k iG (n,b)=bif bq (n,b) then 0 else 10:=ja hb hl
 refine af.2 ⟨rfl,?_⟩
 show aC (zr ai) _ (bif !bq (n,b) then(cY,10) else bif !dN (t,p,m,x,s) then(cY,40) else mj (bC (n,b)) (t,p,m,x,s))
 cases hok:bq (n,b)
 ·rw[hok] at hc
  refine(aj (dX (by rw[hc];decide))).2 ?_
  exact aZ (congrArg (fun z=>LT.ret (((0,0,(0,0,0,0,0),0,([]:List Int)):Int×Int×(Int×Int×Int×Int×Int)×Int×List Int),z)) hc) (.ret _)
 rw[hok] at hc
 refine(ah (cn hc)).2 (af.2 ⟨rfl,?_⟩)
 rw[Bool.not_true,cond_false]
 have hchk:ai.k ol ((t,p,m,x,s),8)=bif dN (t,p,m,x,s) then 0 else 40:=pL (t,p,m,x,s)
 cases hst:dN (t,p,m,x,s)
 ·rw[hst] at hchk
  exact(aj (dX (by rw[hchk];decide))).2 (.ret _)
 rw[hst] at hchk
 refine(ah (cn hchk)).2 (af.2 ⟨rfl,?_⟩)
 rw[Bool.not_true,cond_false]
 obtain⟨h2,h3,h4⟩:=(fI hb).1 hok
 obtain⟨n,rfl⟩:=Int.eq_ofNat_of_zero_le h2
 have hn:n≤4096:=by omega
 have hlen:(bC ((n:Int),b)).length=n:=by rw[fQ];rfl
 have hun:bC ((n:Int),b)=unpack n b:=rfl
 have hlu:(unpack n b).length=n:=aP n b
 rw[hun]
 obtain⟨hp1,hp2,hp3,hp4⟩:=Bq hn
 obtain⟨f2,f4,f1,f3⟩:=Da (n:=n)
 by_cases hs:n<2
 ·refine(aj (dX (by rw[show ai.k ay (((n:Int),b),0,2)=(0,2) from Hl (a:=0) (w:=2) hok (by omega)];decide))).2 (af.2 ⟨rfl,?_⟩)
  rw[yS (by omega)]
  refine(aj (show ai.not (ai.k iw ((n:Int),1))=true from ?_)).2 (.ret _)
  rw[c_,ap,hp1,show ed n 1=false from by rw[←Bool.not_eq_true,f1];omega];rfl
 have g0:ai.k ay (((n:Int),b),0,2)=(((bf (unpack n b) 0 2:Nat):Int),0):=iV (a:=0) (w:=2) hok (by omega) (by decide) hn
 refine(ah (cn (congrArg Prod.snd g0))).2 (af.2 ⟨rfl,?_⟩)
 have hk:=FM (l:=unpack n b) (by omega)
 have hf:=dJ (unpack n b) 0 2
 have hK:ai.b .add .i64 (ai.v .i64 (ai.k ay (((n:Int),b),0,2)).1) 1=((bf (unpack n b) 0 2+1:Nat):Int):=by
  rw[g0,bL,gh (by omega) (by omega)];exact cK (by omega)
 rw[hK]
 have g:∀a w:Nat,a+w≤n→w≤64→ai.k ay (((n:Int),b),(a:Int),(w:Int))=(((bf (unpack n b) a w:Nat):Int),0):=fun a w h1 h2=>iV hok h1 h2 hn
 have hcv:∀a w:Nat,w≤8→ai.v .i64 ((bf (unpack n b) a w:Nat):Int)=((bf (unpack n b) a w:Nat):Int):=fun a w hw=>by
  have:=dJ (unpack n b) a w
  have hp:2^w≤2^8:=Nat.pow_le_pow_right (by decide) hw
  rw[bL,gh (by omega) (by omega)]
 have hcase:bf (unpack n b) 0 2=0∨bf (unpack n b) 0 2=1∨bf (unpack n b) 0 2=2∨bf (unpack n b) 0 2=3:=by omega
 rcases hcase with h0|h0|h0|h0
 ·-- FrCold
  rw[h0] at hk ⊢
  by_cases hfit:ed n 1=true
  ·have h40:=f1.1 hfit
   refine(ah (show ai.not (ai.k iw ((n:Int),1))=false by rw[c_,ap,hp1,hfit];rfl)).2 ((aj rfl).2 ?_)
   have g1:ai.k ay (((n:Int),b),2,3)=(((bf (unpack n b) 2 3:Nat):Int),0):=g 2 3 (by omega) (by decide)
   have g2:ai.k ay (((n:Int),b),5,8)=(((bf (unpack n b) 5 8:Nat):Int),0):=g 5 8 (by omega) (by decide)
   have g3:ai.k ay (((n:Int),b),13,3)=(((bf (unpack n b) 13 3:Nat):Int),0):=g 13 3 (by omega) (by decide)
   refine af.2 ⟨rfl,(ah (cn (congrArg Prod.snd g1))).2 (af.2 ⟨rfl,(ah (cn (congrArg Prod.snd g2))).2 (af.2 ⟨rfl,(ah (cn (congrArg Prod.snd g3))).2 ?_⟩)⟩)⟩
   rw[ak,zr]
   dsimp only
   rw[Jj hk (by omega)]
   have hz:ai.c .neq (ai.v .i64 (ai.k ay (((n:Int),b),13,3)).1) 0=(bf (unpack n b) 13 3 != 0):=by
    rw[g3,hcv 13 3 (by decide),aX,Bool.eq_iff_iff];simp
   cases hzz:(bf (unpack n b) 13 3 != 0)
   ·refine(ah (hz.trans hzz)).2 (af.2 ⟨rfl,?_⟩)
    have ho:ai.k aW (((n:Int),b),1,((0:Int),([]:List Int)))=((cy (((n:Int),b),(0, []))).1,zB,(cy (((n:Int),b),(0, []))).2):=uQ (.inl rfl)
    rw[kF (u:=(0, [])) hok rfl (by omega),show over 0 (bC ((0:Int),([]:List Int)))=0 from rfl,hun] at ho
    cases hov:(over 0 (unpack n b) != 0)
    ·rw[hov] at ho
     refine(ah (cn (congrArg (fun z=>z.2.2) ho))).2 ?_
     refine(ah rfl).2 ((ah rfl).2 ((ah rfl).2 (af.2 ⟨rfl,?_⟩)))
     have l1:=dJ (unpack n b) 2 3
     have l2:=dJ (unpack n b) 5 8
     have e1:(ai.v .i64 (ai.k ay (((n:Int),b),5,8)).1)=((bf (unpack n b) 5 8:Nat):Int):=by rw[g2];exact hcv 5 8 (by decide)
     have e2:(ai.v .i64 (ai.k ay (((n:Int),b),2,3)).1)=((bf (unpack n b) 2 3:Nat):Int):=by rw[g1];exact hcv 2 3 (by decide)
     rw[e1,e2]
     have hfo:fe (1,0,(((bf (unpack n b) 5 8:Nat):Int),0,0,0,0),((bf (unpack n b) 2 3:Nat):Int), [])=true:=by
      rw[iW,lJ];simp;omega
     have hch:ai.k ml (1,0,(((bf (unpack n b) 5 8:Nat):Int),0,0,0,0),((bf (unpack n b) 2 3:Nat):Int), [])=0:=by
      rw[ap,rH,hfo];rfl
     exact(ah (cn hch)).2 (.ret _)
    ·rw[hov] at ho
     have e2:=congrArg (fun z=>z.2.2) ho
     refine(aj (dX (show(ai.k aW (((n:Int),b),1,((0:Int),([]:List Int)))).2.2≠0 from by rw[e2];exact(by decide:(21:Int)≠0)))).2 ?_
     exact aZ (congrArg (fun z=>LT.ret (((0,0,(0,0,0,0,0),0,([]:List Int)):Int×Int×(Int×Int×Int×Int×Int)×Int×List Int),z)) e2) (.ret _)
   ·exact(aj (hz.trans hzz)).2 (.ret _)
  ·rw[Bool.not_eq_true] at hfit
   rw[iN (by rw[hlu,hk];exact hfit)]
   exact(aj (show ai.not (ai.k iw ((n:Int),1))=true by rw[c_,ap,hp1,hfit];rfl)).2 (.ret _)
 ·-- FrN
  rw[h0] at hk ⊢
  by_cases hfit:ed n 2=true
  ·have h29:=f2.1 hfit
   refine(ah (show ai.not (ai.k iw ((n:Int),2))=false by rw[c_,ap,hp2,hfit];rfl)).2 ((ah rfl).2 ((aj rfl).2 ?_))
   have g1:ai.k ay (((n:Int),b),2,3)=(((bf (unpack n b) 2 3:Nat):Int),0):=g 2 3 (by omega) (by decide)
   refine af.2 ⟨rfl,(ah (cn (congrArg Prod.snd g1))).2 (af.2 ⟨rfl,?_⟩)⟩
   rw[ak,zr]
   dsimp only
   refine(ah rfl).2 (af.2 ⟨rfl,?_⟩)
   rw[J0 hk (by rw[hlu];exact hfit)]
   have hsb:ai.k ng (t,p,m,x,s)=(bJ (aV (t,p,m,x,s)),0):=by rw[ap,ng,jg,hst];rfl
   have ho:ai.k aW (((n:Int),b),2,(ai.k ng (t,p,m,x,s)).1)=((cy (((n:Int),b),bJ (aV (t,p,m,x,s)))).1,zB,(cy (((n:Int),b),bJ (aV (t,p,m,x,s)))).2):=by
    rw[hsb];exact uQ (.inr rfl)
   rw[kF hok (gG (by rw[mq];decide)) (by omega),fK,hun,hlu] at ho
   cases hov:(over (over 0 (aV (t,p,m,x,s))) (unpack n b) != 0)
   ·rw[hov] at ho
    have o1:=congrArg (fun z=>z.1) ho
    refine(ah (cn (congrArg (fun z=>z.2.2) ho))).2 ((aj rfl).2 ?_)
    have e2:(ai.v .i64 (ai.k ay (((n:Int),b),2,3)).1)=((bf (unpack n b) 2 3:Nat):Int):=by rw[g1];exact hcv 2 3 (by decide)
    rw[e2]
    have hfl:((unpack n b).take (n-24)).length=n-24:=by rw[List.length_take,hlu];omega
    have hrest:=G6 (m:=n-24) (d:=(n-29)/8) (a:=5) (b:=pack ((unpack n b).take (n-24))) (by have:=gG (l:=(unpack n b).take (n-24)) (by omega);rwa [bJ,hfl] at this) (by omega) (by omega) (by decide) ((n-29)/8) 0
     ⟨t,p,m,x,s,(ai.k aW (((n:Int),b),2,(ai.k ng (t,p,m,x,s)).1)).1.1,(ai.k aW (((n:Int),b),2,(ai.k ng (t,p,m,x,s)).1)).1.2,t,p,m,x,s,0,0,0,0,0,0,0,0,2,((bf (unpack n b) 2 3:Nat):Int),0,0,0,0,0,0,(ai.k aW (((n:Int),b),2,(ai.k ng (t,p,m,x,s)).1)).2.1.1,(ai.k aW (((n:Int),b),2,(ai.k ng (t,p,m,x,s)).1)).2.1.2⟩ 0 0 0 0 0 0 0 0
     (by show(ai.k aW (((n:Int),b),2,(ai.k ng (t,p,m,x,s)).1)).1.1=_;rw[o1];show(((unpack n b).take (n-24)).length:Int)=_;rw[hfl]) (by show(ai.k aW (((n:Int),b),2,(ai.k ng (t,p,m,x,s)).1)).1.2=_;rw[o1];rfl) rfl rfl rfl rfl rfl rfl (by omega) (by omega)
    rw[show unpack (n-24) (pack ((unpack n b).take (n-24)))=(unpack n b).take (n-24) from by have:=unpack_pack ((unpack n b).take (n-24));rwa [hfl] at this] at hrest
    refine Eq.mp (congrArg (aC (zr ai) _) ?_) hrest
    have hdd:aN ((n-29)/8) (((unpack n b).take (n-24)).drop 5)=aN (((unpack n b).length-29)/8) ((unpack n b).drop 5):=by
     rw[hlu]
     exact qx (by omega) (by rw[hlu];omega)
    show(bif fe (2,((bf (unpack n b) 2 3:Nat):Int),(t,p,m,x,s),0,aN ((n-29)/8) (((unpack n b).take (n-24)).drop 5)) then((2,((bf (unpack n b) 2 3:Nat):Int),(t,p,m,x,s),0,aN ((n-29)/8) (((unpack n b).take (n-24)).drop 5)),0) else(cY,51))=_
    rw[hdd,cond_false]
    have hfo:fe (2,((bf (unpack n b) 2 3:Nat):Int),(t,p,m,x,s),0,aN (((unpack n b).length-29)/8) ((unpack n b).drop 5))=!decide (4<bf (unpack n b) 2 3):=by
     rw[Bool.eq_iff_iff,iW,hst,cv];simp;omega
    rw[hfo]
    cases decide (4<bf (unpack n b) 2 3)<;>rfl
   ·rw[hov] at ho
    have e2:=congrArg (fun z=>z.2.2) ho
    refine(aj (dX (show(ai.k aW (((n:Int),b),2,(ai.k ng (t,p,m,x,s)).1)).2.2≠0 from by rw[e2];exact(by decide:(21:Int)≠0)))).2 ?_
    exact aZ (congrArg (fun z=>LT.ret (((0,0,(0,0,0,0,0),0,([]:List Int)):Int×Int×(Int×Int×Int×Int×Int)×Int×List Int),z)) e2) (.ret _)
  ·rw[Bool.not_eq_true] at hfit
   rw[iN (by rw[hlu,hk];exact hfit)]
   exact(aj (show ai.not (ai.k iw ((n:Int),2))=true by rw[c_,ap,hp2,hfit];rfl)).2 (.ret _)
 ·-- FrI
  rw[h0] at hk ⊢
  rw[show((2+1:Nat):Int)=3 from rfl]
  by_cases hfit:ed n 3=true
  ·have h54:=f3.1 hfit
   refine(ah (show ai.not (ai.k iw ((n:Int),3))=false by rw[c_,ap,hp3,hfit];rfl)).2 ((ah rfl).2 ((ah rfl).2 ?_))
   have g1:ai.k ay (((n:Int),b),2,3)=(((bf (unpack n b) 2 3:Nat):Int),0):=g 2 3 (by omega) (by decide)
   have g2:ai.k ay (((n:Int),b),5,(ai.b .sub .i64 3 2))=(((bf (unpack n b) 5 1:Nat):Int),0):=g 5 1 (by omega) (by decide)
   have e2:(ai.v .i64 (ai.k ay (((n:Int),b),2,3)).1)=((bf (unpack n b) 2 3:Nat):Int):=by rw[g1];exact hcv 2 3 (by decide)
   have hql:(((unpack n b).drop 6).take 24).length=24:=by rw[List.length_take,List.length_drop,hlu];omega
   refine af.2 ⟨rfl,(ah (cn (congrArg Prod.snd g1))).2 ?_⟩
   repeat (first|refine fG.2 ⟨⟨rfl,rfl⟩,?_⟩|refine fG.2 ⟨rfl,?_⟩|refine af.2 ⟨rfl,?_⟩)
   refine(ah (cn (congrArg Prod.snd g2))).2 ?_
   repeat (first|refine fG.2 ⟨⟨rfl,rfl⟩,?_⟩|refine fG.2 ⟨rfl,?_⟩|refine af.2 ⟨rfl,?_⟩)
   rw[ak,zr]
   dsimp only
   rw[KN hk (by omega)]
   have hz:ai.c .neq (ai.v .i64 (ai.k ay (((n:Int),b),5,(ai.b .sub .i64 3 2))).1) 0=(bf (unpack n b) 5 1 != 0):=by
    rw[g2,hcv 5 1 (by decide),aX,Bool.eq_iff_iff];simp
   cases hzz:(bf (unpack n b) 5 1 != 0)
   ·refine(ah (hz.trans hzz)).2 (af.2 ⟨rfl,?_⟩)
    have ho:ai.k aW (((n:Int),b),3,((0:Int),([]:List Int)))=_:=Bo hok h54
    cases hov:(over 0 (unpack n b) != 0)
    ·rw[hov,cond_false] at ho
     refine(ah (cn (congrArg (fun z=>z.2.2) ho))).2 ((ah rfl).2 ((ah rfl).2 ((aj rfl).2 (af.2 ⟨rfl,?_⟩))))
     have hpz:ai.k fS (ai.k aW (((n:Int),b),3,((0:Int),([]:List Int)))).2.1=bif dN (eG (((unpack n b).drop 6).take 24)) then(eG (((unpack n b).drop 6).take 24),0) else(zS,40):=by
      rw[ho];exact tP hql
     cases hso:dN (eG (((unpack n b).drop 6).take 24))
     ·rw[hso] at hpz
      exact(aj (dX (show(ai.k fS (ai.k aW (((n:Int),b),3,((0:Int),([]:List Int)))).2.1).2≠0 from by rw[hpz];exact(by decide:(40:Int)≠0)))).2 (.ret _)
     ·rw[hso,cond_true] at hpz
      refine(ah (cn (congrArg Prod.snd hpz))).2 (af.2 ⟨rfl,?_⟩)
      rw[e2,hpz]
      have hfo:fe (3,((bf (unpack n b) 2 3:Nat):Int),eG (((unpack n b).drop 6).take 24),0, [])=!decide (4<bf (unpack n b) 2 3):=by
       have hso':=hso
       rw[eG] at hso' ⊢
       rw[Bool.eq_iff_iff,iW,hso'];simp;omega
      have hch:ai.k ml (3,((bf (unpack n b) 2 3:Nat):Int),eG (((unpack n b).drop 6).take 24),0, [])=bif !decide (4<bf (unpack n b) 2 3) then 0 else 50:=by
       rw[←hfo];exact rH
      cases hd:decide (4<bf (unpack n b) 2 3)
      ·rw[hd] at hch
       exact(ah (cn hch)).2 (.ret _)
      ·rw[hd] at hch
       exact(aj (dX (show ai.k ml (3,((bf (unpack n b) 2 3:Nat):Int),eG (((unpack n b).drop 6).take 24),0, [])≠0 from by rw[hch];exact(by decide:(50:Int)≠0)))).2 (.ret _)
    ·rw[hov,cond_true] at ho
     have e3:=congrArg (fun z=>z.2.2) ho
     refine(aj (dX (show(ai.k aW (((n:Int),b),3,((0:Int),([]:List Int)))).2.2≠0 from by rw[e3];exact(by decide:(21:Int)≠0)))).2 ?_
     exact aZ (congrArg (fun z=>LT.ret (((0,0,(0,0,0,0,0),0,([]:List Int)):Int×Int×(Int×Int×Int×Int×Int)×Int×List Int),z)) e3) (.ret _)
   ·exact(aj (hz.trans hzz)).2 (.ret _)
  ·rw[Bool.not_eq_true] at hfit
   rw[iN (by rw[hlu,hk];exact hfit)]
   exact(aj (show ai.not (ai.k iw ((n:Int),3))=true by rw[c_,ap,hp3,hfit];rfl)).2 (.ret _)
 ·-- FrX
  rw[h0] at hk ⊢
  rw[show((3+1:Nat):Int)=4 from rfl]
  by_cases hfit:ed n 4=true
  ·have h79:=f4.1 hfit
   refine(ah (show ai.not (ai.k iw ((n:Int),4))=false by rw[c_,ap,hp4,hfit];rfl)).2 ((ah rfl).2 ((ah rfl).2 ?_))
   have g1:ai.k ay (((n:Int),b),2,3)=(((bf (unpack n b) 2 3:Nat):Int),0):=g 2 3 (by omega) (by decide)
   have g2:ai.k ay (((n:Int),b),5,(ai.b .sub .i64 4 2))=(((bf (unpack n b) 5 2:Nat):Int),0):=g 5 2 (by omega) (by decide)
   have e2:(ai.v .i64 (ai.k ay (((n:Int),b),2,3)).1)=((bf (unpack n b) 2 3:Nat):Int):=by rw[g1];exact hcv 2 3 (by decide)
   have hql:(((unpack n b).drop 7).take 24).length=24:=by rw[List.length_take,List.length_drop,hlu];omega
   refine af.2 ⟨rfl,(ah (cn (congrArg Prod.snd g1))).2 ?_⟩
   repeat (first|refine fG.2 ⟨⟨rfl,rfl⟩,?_⟩|refine fG.2 ⟨rfl,?_⟩|refine af.2 ⟨rfl,?_⟩)
   refine(ah (cn (congrArg Prod.snd g2))).2 ?_
   repeat (first|refine fG.2 ⟨⟨rfl,rfl⟩,?_⟩|refine fG.2 ⟨rfl,?_⟩|refine af.2 ⟨rfl,?_⟩)
   rw[ak,zr]
   dsimp only
   rw[JW hk (by rw[hlu];exact hfit)]
   have hz:ai.c .neq (ai.v .i64 (ai.k ay (((n:Int),b),5,(ai.b .sub .i64 4 2))).1) 0=(bf (unpack n b) 5 2 != 0):=by
    rw[g2,hcv 5 2 (by decide),aX,Bool.eq_iff_iff];simp
   cases hzz:(bf (unpack n b) 5 2 != 0)
   ·refine(ah (hz.trans hzz)).2 (af.2 ⟨rfl,?_⟩)
    have ho:ai.k aW (((n:Int),b),4,((0:Int),([]:List Int)))=_:=AS hok h79.1 h79.2.1
    cases hov:(over 0 ((unpack n b).take 55) != 0)
    ·cases hov2:(over (over 0 (((unpack n b).drop 7).take 24)) (unpack n b) != 0)
     ·rw[hov,cond_false,hov2,cond_false] at ho
      have o1:=congrArg (fun z=>z.1) ho
      have o2:=congrArg (fun z=>z.2.1) ho
      refine(ah (cn (congrArg (fun z=>z.2.2) ho))).2 ((ah rfl).2 ((aj rfl).2 ?_))
      rw[e2]
      have hfl:((unpack n b).take (n-24)).length=n-24:=by rw[List.length_take,hlu];omega
      have hrest:=FU (m:=n-24) (d:=(n-79)/8) (a:=55) (b:=pack ((unpack n b).take (n-24))) (by have:=gG (l:=(unpack n b).take (n-24)) (by omega);rwa [bJ,hfl] at this) (by omega) (by omega) (by decide) ((n-79)/8) 0
       ⟨(ai.k aW (((n:Int),b),4,((0:Int),([]:List Int)))).1.1,(ai.k aW (((n:Int),b),4,((0:Int),([]:List Int)))).1.2,t,p,m,x,s,0,0,0,0,0,0,0,0,4,((bf (unpack n b) 2 3:Nat):Int),0,0,0,0,0,0,(ai.k aW (((n:Int),b),4,((0:Int),([]:List Int)))).2.1.1,(ai.k aW (((n:Int),b),4,((0:Int),([]:List Int)))).2.1.2⟩ 0 0 0 0 0 0 0 0
       (by show(ai.k aW (((n:Int),b),4,((0:Int),([]:List Int)))).1.1=_;rw[o1];show(((unpack n b).take (n-24)).length:Int)=_;rw[hfl]) (by show(ai.k aW (((n:Int),b),4,((0:Int),([]:List Int)))).1.2=_;rw[o1];rfl) rfl (by omega) (by omega)
      rw[show unpack (n-24) (pack ((unpack n b).take (n-24)))=(unpack n b).take (n-24) from by have:=unpack_pack ((unpack n b).take (n-24));rwa [hfl] at this] at hrest
      refine Eq.mp (congrArg (aC (zr ai) _) ?_) hrest
      have hdd:aN ((n-79)/8) (((unpack n b).take (n-24)).drop 55)=aN (((unpack n b).length-79)/8) ((unpack n b).drop 55):=by
       rw[hlu]
       exact qx (by omega) (by rw[hlu];omega)
      have hpz:dy ((ai.k aW (((n:Int),b),4,((0:Int),([]:List Int)))).2.1.1,(ai.k aW (((n:Int),b),4,((0:Int),([]:List Int)))).2.1.2)=bif dN (eG (((unpack n b).drop 7).take 24)) then(eG (((unpack n b).drop 7).take 24),0) else(zS,40):=by
       rw[o2];exact tP hql
      show(bif (dy ((ai.k aW (((n:Int),b),4,((0:Int),([]:List Int)))).2.1.1,(ai.k aW (((n:Int),b),4,((0:Int),([]:List Int)))).2.1.2)).2 != 0 then(cY,51) else bif fe (4,((bf (unpack n b) 2 3:Nat):Int),(dy ((ai.k aW (((n:Int),b),4,((0:Int),([]:List Int)))).2.1.1,(ai.k aW (((n:Int),b),4,((0:Int),([]:List Int)))).2.1.2)).1,0,aN ((n-79)/8) (((unpack n b).take (n-24)).drop 55)) then((4,((bf (unpack n b) 2 3:Nat):Int),(dy ((ai.k aW (((n:Int),b),4,((0:Int),([]:List Int)))).2.1.1,(ai.k aW (((n:Int),b),4,((0:Int),([]:List Int)))).2.1.2)).1,0,aN ((n-79)/8) (((unpack n b).take (n-24)).drop 55)),0) else(cY,51))=_
      rw[hpz,hdd,Bool.or_false,cond_false,cond_false]
      cases hso:dN (eG (((unpack n b).drop 7).take 24))
      ·rfl
      ·have hfo:fe (4,((bf (unpack n b) 2 3:Nat):Int),eG (((unpack n b).drop 7).take 24),0,aN (((unpack n b).length-79)/8) ((unpack n b).drop 55))=!decide (4<bf (unpack n b) 2 3):=by
        have hso':=hso
        rw[eG] at hso' ⊢
        rw[Bool.eq_iff_iff,iW,hso',cv];simp;omega
       rw[cond_true,hfo]
       cases decide (4<bf (unpack n b) 2 3)<;>rfl
     ·rw[hov,cond_false,hov2,cond_true] at ho
      have e3:=congrArg (fun z=>z.2.2) ho
      refine(aj (dX (show(ai.k aW (((n:Int),b),4,((0:Int),([]:List Int)))).2.2≠0 from by rw[e3];exact(by decide:(21:Int)≠0)))).2 ?_
      exact aZ (congrArg (fun z=>LT.ret (((0,0,(0,0,0,0,0),0,([]:List Int)):Int×Int×(Int×Int×Int×Int×Int)×Int×List Int),z)) e3) (.ret _)
    ·rw[hov,cond_true] at ho
     have e3:=congrArg (fun z=>z.2.2) ho
     refine(aj (dX (show(ai.k aW (((n:Int),b),4,((0:Int),([]:List Int)))).2.2≠0 from by rw[e3];exact(by decide:(21:Int)≠0)))).2 ?_
     exact aZ (congrArg (fun z=>LT.ret (((0,0,(0,0,0,0,0),0,([]:List Int)):Int×Int×(Int×Int×Int×Int×Int)×Int×List Int),z)) e3) (.ret _)
   ·exact(aj (hz.trans hzz)).2 (.ret _)
  ·rw[Bool.not_eq_true] at hfit
   rw[iN (by rw[hlu,hk];exact hfit)]
   exact(aj (show ai.not (ai.k iw ((n:Int),4))=true by rw[c_,ap,hp4,hfit];rfl)).2 (.ret _)
def ES:((Int×List Int)×(Int×Int×Int×Int×Int))→((Int×Int×(Int×Int×Int×Int×Int)×Int×List Int)×Int):=mT
def UA:aB:=⟨[(.struct [yI,yB]),(.struct [yI,yI,yI,yI,yI])], [(.struct [yI,yI,(.struct [yI,yI,yI,yI,yI]),yI,yB]),yI],(@tt ((Int×List Int)×(Int×Int×Int×Int×Int))),ES⟩
theorem Vj:Sd 206 UA:=aH ar cO false 298 [⟨235,3, [[0,3,4], [3,4,8,12,97,100]]⟩] [⟨206,19, [[2,3,4,7,8,9,10]]⟩] (fun A ((bN,bB),cTime,cPos,cMode,cNext,cMember)=>t50 A bN bB cTime cPos cMode cNext cMember) zr Mk (fc Tryz.func206 (fc Tryz.func231 (fc Tryz.func235 fz))) (sc VH (sc zy (sc Vy (sc zv (sc P_ (sc P9 (sc QU (sc AP sz)))))))) (fun A y=>match y with |.c0 p=>⟨116,zf (by kernel_rfl)⟩|.c1 p=>⟨116,zf (by kernel_rfl)⟩|.c2 p c0 c8 c9 c10 c11 c12 c13 c14 kB c16=>⟨92,zf (by kernel_rfl)⟩|.c3 p d0 d3 d4 d5 d6 d7 d8 d9 l6 lS=>⟨92,zf (by kernel_rfl)⟩) fun((bN,bB),cTime,cPos,cMode,cNext,cMember) hp h=>Lf h
open Go.Ev.Pl
def t51(A:bg)(bN:Int)(bB:List Int):LT ((Int×Int×(Int×Int×Int×Int×Int)×Int×List Int)×Bool) Empty:=.need (A.k (@tt ((Int×List Int)×(Int×Int×Int×Int×Int))) ((bN,bB),0,0,0,0,0)) (.br (A.c .neq (A.k ES ((bN,bB),0,0,0,0,0)).2 0) (.ret ((0,0,(0,0,0,0,0),0,([]:List Int)),false)) (.br (A.c .eql (A.k ES ((bN,bB),0,0,0,0,0)).1.1 2) (.ret ((0,0,(0,0,0,0,0),0,([]:List Int)),false)) (.ret ((A.k ES ((bN,bB),0,0,0,0,0)).1,true))))
def vS:((Int×List Int))→((Int×Int×(Int×Int×Int×Int×Int)×Int×List Int)×Bool):=fun(bN,bB)=>(t51 ai bN bB).val (Ty.da [(.struct [yI,yI,(.struct [yI,yI,yI,yI,yI]),yI,yB]),.bool])
def T8:aB:=⟨[(.struct [yI,yB])], [(.struct [yI,yI,(.struct [yI,yI,yI,yI,yI]),yI,yB]),.bool],(@tt ((Int×List Int))),vS⟩
theorem TD:Sd 193 T8:=aJ ar cO true 43 [] (fun A (bN,bB)=>t51 A bN bB) (fc Tryz.func193 fz) (sc Vj sz) (fun((bN,bB):(Int×List Int)) hp h=>by
 show(t51 ai bN bB).pre=true
 simp[t51,LT.pre,ap,dI])
theorem GB{b:Int×List Int}:vS b=jl b:=by
 obtain⟨bn,bb⟩:=b
 simp only[vS,t51,LT.val,jl,ap,aX,aR,ES]
 show(bif (mT ((bn,bb),zS)).2 != 0 then(cY,false) else bif (mT ((bn,bb),zS)).1.1==2 then(cY,false) else((mT ((bn,bb),zS)).1,true))=_
 cases (mT ((bn,bb),zS)).2 != 0<;>cases (mT ((bn,bb),zS)).1.1==2<;>rfl
theorem nR{l u:List Bool}(hl:l.length+24≤4096)(hu:u.length≤4096):yp (bJ l,bJ u)=(bJ (cN (over 0 u) l),0):=by
 rw[yp]
 show(bif bq (bJ u)&&bq (bJ l) then tY (cN (over 0 (bC (bJ u))) (bC (bJ l))) else(zB,10))=_
 rw[gG hu,gG (l:=l) (by omega),fK,fK,oQ (by rw[jV];omega)]
 rfl
theorem AB{l u:List Bool}(h:l.length+u.length≤4096):vD [bJ l,bJ u]=(bJ (l++u),0):=by
 rw[vD]
 show(bif (bq (bJ l)&&(bq (bJ u)&&true)) then tY (bC (bJ l)++(bC (bJ u) ++ [])) else(zB,10))=_
 rw[gG (l:=l) (by omega),gG (l:=u) (by omega),fK,fK,List.append_nil,oQ (by rw[List.length_append];exact h)]
 rfl
theorem C3{k r t p m n s fr:Int}{d:List Int}(h:Ty.dH [.struct [(.int .i64),(.int .i64),(.struct [(.int .i64),(.int .i64),(.int .i64),(.int .i64),(.int .i64)]),(.int .i64),(.slice (.int .u8))]] (k,r,(t,p,m,n,s),fr,d)):bE d:=by
 have h2:d.length≤cr∧∀x∈d,0≤x∧x≤255:=h.2.2.2.2
 exact h2.2
end Go.Ev.M
