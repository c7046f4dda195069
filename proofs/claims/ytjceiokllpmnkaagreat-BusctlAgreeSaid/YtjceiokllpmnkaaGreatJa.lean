/-
  PROVED: what judge.Slot and judge.Apply compute. Conditions: none.
-/
import Derived.Test.YtjceiokllpmnkaaGreatFc
import Derived.Test.YtjceiokllpmnkaaGreatMb
namespace Go.Ev.M
open Go.Proofs
set_option maxRecDepth 100000
set_option linter.unusedVariables false
set_option linter.unusedSimpArgs false
open Go.Ev.Pl
structure J3 where
 (a0:List (Int×Int×(Int×List Int))) (a1 a3 a4 a5 a6 a7 a8 a9 b_ dY a12 lW jQ pV:Int)
structure Bv where
 (b0 b1 b2 b3 b4 b5 b6 b7 b8 b9 b10 b11 b12 b13 wJ xF dd:Int) (jZ:List (Int×Int×(Int×List Int))) (zW:Bool) (kp lH lq lC qq qD qJ oy:Int) (lJ lD:Bool) (wB wK wu vY wP wz wE:Int) (Zw ZP Z4:Bool) (b39:Int) (Z5 b41:Bool) (b42 Y_:Int) (ZR ZQ ZZ:Bool) (ZS Z6:Int) (Zp Z0 Zx:Bool) (ZC:List (Int×Int×(Int×List Int))) (b53:Int) (Ze b55:Bool) (Zy ZK Zd Zi ZO Z1 ZH ZT Nn Ni:Int) (Jh:List (Int×Int×(Int×List Int))) (V1 XI X1 YF Xy YB V5 WX Y3 Y6 XX Wq Wc ZF Zu Zk Zt ZD b85 b86 Zb ZL b89 b90 ZI b92 Zh Zr Yk YZ Wj Yp b99:Int)
structure EP where
 (c0:Int) (c1:List (Int×Int×(Int×List Int))) (c2 c4 c5 c6 c7 c8 c9 c10 c11 c12 c13 c14 kY c16 GL E2 c19 c20 c21 JG c23 c24 VO VR VX c28 VT zX c31 c32 VP c34 VL VW c37 VV:Int) (VQ:List (Int×Int×(Int×List Int))) (c40:Bool) (Z3 Zj c43 Zm c45 c46 Zf Zn:Int) (c49 Zg:Bool) (c51 c52 c53 Z8 c55 ZX ZU:Int) (c58 c59 ZE:Bool) (ZB:Int) (Zv ZW:Bool) (c64 Zs:Int) (ZV Zz ZA:Bool) (c69 c70:Int) (ZJ c72 ZM:Bool) (Z9:List (Int×Int×(Int×List Int))) (c75:Int) (c76 Zq:Bool) (Z_ c79 c80 Zl Zc Y9 Z2 c85 YH c87:Int) (Xe:List (Int×Int×(Int×List Int))) (Zo ZY c91 Y8 c93 Za c95 ZN Z7 c98 ZG Rq UW RU Ue:Int)
inductive Kb where
 | c0 (p:J3) (a2:Int)
 | c1 (p:Bv)
 | c2 (p:EP) (c3:Int)
noncomputable def Sp:Kb→f_
 | .c0 p a2=>⟨[⟨180,19,(en [(0,.sl (.struct [yI,yI,(.struct [yI,yB])]) p.a0),(1,.fn 105 [] []),(7,vi p.a1),(8,vi a2)]),[.inLoop (cw Tryz.f180 [1,0,1,0,0]),.inBlock 0,.code (cw Tryz.f180 [1,1])],[],none⟩,⟨104,9,.leaf,[.ops (ow Tryz.f104 [1,0]) ((ow Tryz.f104 [1,0]).toList.drop 2),.code .ret],[],none⟩,⟨49,85,(en [(8,.ptr 0 0),(9,.ptr 1 0)]),[.ops (ow Tryz.f49 [1,1,1,0,0]) ((ow Tryz.f49 [1,1,1,0,0]).toList.drop 1),.code (cw Tryz.f49 [1,1,1,0,1]),.code (cw Tryz.f49 [1,1,1,1])],[2],none⟩],[.flat false [vi p.a3,vi p.a4,vi p.a5,vi p.a6,vi p.a7,vi p.a8,vi p.a9,vi p.b_,vi p.dY,vi p.a12,vi p.lW,.dp true,vi p.jQ],.flat false [vi p.pV],.yq,.dead]⟩
 | .c1 p=>⟨[⟨176,37,(en [(0,.yield 0),(24,.kq 1 1 false p.b0 p.b1),(25,vi p.b2),(26,vi p.b3)]),[.inLoop (cw Tryz.f176 [1,1,1,0,0]),.inBlock 0],[],none⟩,⟨49,85,(en [(7,.ptr 2 0),(8,.ptr 3 0),(9,.ptr 4 0)]),[.im 0,.inBlock 1,.code (cw Tryz.f49 [1,1,1])],[5],none⟩],[.loop ⟨49,85,(en [(0,.agg [vi p.b4,vi p.b5,vi p.b6,vi p.b7,vi p.b8]),(1,.agg [vi p.b9,vi p.b10,vi p.b11,vi p.b12,vi p.b13,vi p.wJ,vi p.xF]),(2,vi p.dd),(3,.sl (.struct [yI,yI,(.struct [yI,yB])]) p.jZ),(4,.ptr 9 0),(5,.ptr 6 0),(7,.ptr 2 0),(8,.ptr 3 0),(9,.ptr 4 0),(16,vb p.zW),(17,.agg [vi p.kp,vi p.lH,vi p.lq,vi p.lC,vi p.qq,vi p.qD,vi p.qJ]),(18,vi p.oy),(19,vb p.lJ),(20,vb p.lD),(21,.agg [vi p.wB,vi p.wK,vi p.wu,vi p.vY,vi p.wP]),(22,.ptr 6 1),(23,vi p.wz),(24,vi p.wE),(25,vb p.Zw),(26,vb p.ZP),(28,vb p.Z4),(29,vi p.b39),(30,vb p.Z5),(31,vb p.b41),(32,vi p.b42),(33,.ptr 6 1),(34,vi p.Y_),(35,vb p.ZR),(36,vb p.ZQ),(37,vb p.ZZ),(38,vi p.ZS),(39,.ptr 6 0),(40,vi p.Z6),(41,vb p.Zp),(42,vb p.Z0),(43,vb p.Zx),(44,.sl (.struct [yI,yI,(.struct [yI,yB])]) p.ZC),(45,vi p.b53),(46,vb p.Ze),(47,vb p.b55),(49,.agg [vi p.Zy,vi p.ZK,vi p.Zd,vi p.Zi,vi p.ZO,vi p.Z1,vi p.ZH]),(50,vi p.ZT),(51,.fn 176 [] [.ptr 7 0,.ptr 8 0])]),[52,53],(cw Tryz.f49 [1,1,0,1,0,0]),(cw Tryz.f49 [1,1,0,1,0,1]),0,none⟩,.flat false [vi p.Nn,vi p.Ni],.flat false [.sl (.struct [yI,yI,(.struct [yI,yB])]) p.Jh],.flat false [vi p.V1,vi p.XI,vi p.X1,vi p.YF,vi p.Xy,vi p.YB,vi p.V5,vi p.WX,vi p.Y3,vi p.Y6,vi p.XX,.dp true,vi p.Wq],.flat false [vi p.Wc],.yq,.flat false [vi p.ZF,vi p.Zu,vi p.Zk,vi p.Zt,vi p.ZD,vi p.b85,vi p.b86],.flat false [vi p.Zb,vi p.ZL,vi p.b89,vi p.b90,vi p.ZI,vi p.b92,vi p.Zh],.flat false [vi p.Zr],.flat false [vi p.Yk,vi p.YZ,vi p.Wj,vi p.Yp,vi p.b99],.dead]⟩
 | .c2 p c3=>⟨[⟨49,85,(en [(4,.ptr 0 0),(8,.ptr 1 0),(9,.ptr 2 0),(10,vi p.c0),(56,.sl (.struct [yI,yI,(.struct [yI,yB])]) p.c1),(57,vi p.c2),(58,vi c3)]),[.inLoop (cw Tryz.f49 [1,1,0,1,0,1,0,1,1,0,0]),.inBlock 3,.inBlock 2],[],some 3⟩,⟨176,37,(en [(0,.yield 3),(24,.kq 4 1 false p.c4 p.c5),(25,vi p.c6),(26,vi p.c7)]),[.ops (ow Tryz.f176 [1,1,1,0,0,1,1,0,0,1,0]) ((ow Tryz.f176 [1,1,1,0,0,1,1,0,0,1,0]).toList.drop 3),.code (cw Tryz.f176 [1,1,1,0,0,1,1,0,0,1,1]),.inBlock 1,.code (cw Tryz.f176 [1,1,1,0,0,1,1,1]),.inLoop (cw Tryz.f176 [1,1,1,0,0]),.inBlock 0],[],none⟩,⟨49,85,(en [(7,.ptr 5 0),(8,.ptr 1 0),(9,.ptr 2 0)]),[.im 3,.inBlock 1,.code (cw Tryz.f49 [1,1,1])],[6],none⟩],[.flat false [vi p.c8,vi p.c9,vi p.c10,vi p.c11,vi p.c12],.flat false [vi p.c13,vi p.c14,vi p.kY,vi p.c16,vi p.GL,vi p.E2,vi p.c19,vi p.c20,vi p.c21,vi p.JG,vi p.c23,.dp true,vi p.c24],.flat false [vi p.VO],.loop ⟨49,85,(en [(0,.agg [vi p.VR,vi p.VX,vi p.c28,vi p.VT,vi p.zX]),(1,.agg [vi p.c31,vi p.c32,vi p.VP,vi p.c34,vi p.VL,vi p.VW,vi p.c37]),(2,vi p.VV),(3,.sl (.struct [yI,yI,(.struct [yI,yB])]) p.VQ),(4,.ptr 0 0),(5,.ptr 7 0),(7,.ptr 5 0),(8,.ptr 1 0),(9,.ptr 2 0),(16,vb p.c40),(17,.agg [vi p.Z3,vi p.Zj,vi p.c43,vi p.Zm,vi p.c45,vi p.c46,vi p.Zf]),(18,vi p.Zn),(19,vb p.c49),(20,vb p.Zg),(21,.agg [vi p.c51,vi p.c52,vi p.c53,vi p.Z8,vi p.c55]),(22,.ptr 7 1),(23,vi p.ZX),(24,vi p.ZU),(25,vb p.c58),(26,vb p.c59),(28,vb p.ZE),(29,vi p.ZB),(30,vb p.Zv),(31,vb p.ZW),(32,vi p.c64),(33,.ptr 7 1),(34,vi p.Zs),(35,vb p.ZV),(36,vb p.Zz),(37,vb p.ZA),(38,vi p.c69),(39,.ptr 7 0),(40,vi p.c70),(41,vb p.ZJ),(42,vb p.c72),(43,vb p.ZM),(44,.sl (.struct [yI,yI,(.struct [yI,yB])]) p.Z9),(45,vi p.c75),(46,vb p.c76),(47,vb p.Zq),(49,.agg [vi p.Z_,vi p.c79,vi p.c80,vi p.Zl,vi p.Zc,vi p.Y9,vi p.Z2]),(50,vi p.c85),(51,.fn 176 [] [.ptr 8 0,.ptr 9 0])]),[52,53],(cw Tryz.f49 [1,1,0,1,0,0]),(cw Tryz.f49 [1,1,0,1,0,1]),1,none⟩,.flat false [vi p.YH,vi p.c87],.flat false [.sl (.struct [yI,yI,(.struct [yI,yB])]) p.Xe],.yq,.flat false [vi p.Zo,vi p.ZY,vi p.c91,vi p.Y8,vi p.c93,vi p.Za,vi p.c95],.flat false [vi p.ZN,vi p.Z7,vi p.c98,vi p.ZG,vi p.Rq,vi p.UW,vi p.RU],.flat false [vi p.Ue],.dead]⟩
def t43(A:bu)(cTime:Int)(cPos:Int)(cMode:Int)(cNext:Int)(cMember:Int)(vId:Int)(vN:Int)(vSet:Int)(vAcc:Int)(vFail:Int)(vStage:Int)(vFirst:Int)(sender:Int)(seen:List (Int×Int×(Int×List Int))):LT ((Int×Int×Int×(Int×Int×(Int×Int×Int×Int×Int)×Int×List Int)×Int)×Int) Kb:=.need (A.k (@tt ((Int×Int×Int×Int×Int×Int×Int))) (vId,vN,vSet,vAcc,vFail,vStage,vFirst)) (.br (A.c .neq (A.k i7 (vId,vN,vSet,vAcc,vFail,vStage,vFirst)) 0) (.ret ((0,0,0,(0,0,(0,0,0,0,0),0,([]:List Int)),0),170)) (.need (A.k (@tt ((Int×Int×Int×Int×Int)×Int)) ((cTime,cPos,cMode,cNext,cMember),vN)) (.br (A.c .neq (A.k jB ((cTime,cPos,cMode,cNext,cMember),vN)) 0) (.ret ((0,0,0,(0,0,(0,0,0,0,0),0,([]:List Int)),0),170)) (.br (A.c .lss sender 0) (.ret ((0,0,0,(0,0,(0,0,0,0,0),0,([]:List Int)),0),2)) (.br (A.c .geq sender vN) (.ret ((0,0,0,(0,0,(0,0,0,0,0),0,([]:List Int)),0),2)) (.br (A.c .eql sender vId) (.ret ((0,0,0,(0,0,(0,0,0,0,0),0,([]:List Int)),0),2)) (.br (A.c .neq (A.l seen) 2) (.ret ((0,0,0,(0,0,(0,0,0,0,0),0,([]:List Int)),0),2)) (.need (A.k (@tt ((Int×Int×Int×Int×Int×Int×Int))) (vId,vN,vSet,vAcc,vFail,vStage,vFirst)) (.br (A.c .neq (A.k i7 (vId,vN,vSet,vAcc,vFail,vStage,vFirst)) 0) (.more (.c0 ⟨seen,(A.l seen),0,0,0,0,0,0,0,0,0,0,0,0,0⟩ 0)) (.need (A.k (@tt ((Int×Int×Int×Int×Int×Int×Int)×Int)) ((vId,vN,vSet,vAcc,vFail,vStage,vFirst),sender)) (.br (A.not (A.k vm ((vId,vN,vSet,vAcc,vFail,vStage,vFirst),sender))) (.more (.c0 ⟨seen,(A.l seen),0,0,0,0,0,0,0,0,0,0,0,0,0⟩ 0)) (.need (A.k wR ((vId,vN,vSet,vAcc,vFail,vStage,vFirst),sender)) (.need (A.and (A.c .leq 0 0) (A.and (A.c .leq 0 (A.k fO ((vId,vN,vSet,vAcc,vFail,vStage,vFirst),sender)).2) (A.c .leq (A.k fO ((vId,vN,vSet,vAcc,vFail,vStage,vFirst),sender)).2 2))) (.more (.c1 ⟨(A.b .add .i64 0 0),(A.b .sub .i64 (A.k fO ((vId,vN,vSet,vAcc,vFail,vStage,vFirst),sender)).2 0),(A.b .sub .i64 (A.k fO ((vId,vN,vSet,vAcc,vFail,vStage,vFirst),sender)).2 0),0,cTime,cPos,cMode,cNext,cMember,vId,vN,vSet,vAcc,vFail,vStage,vFirst,sender,seen,(A.c .neq (A.k jB ((cTime,cPos,cMode,cNext,cMember),vN)) 0),vId,vN,vSet,vAcc,vFail,vStage,vFirst,(A.k i7 (vId,vN,vSet,vAcc,vFail,vStage,vFirst)),(A.c .neq (A.k i7 (vId,vN,vSet,vAcc,vFail,vStage,vFirst)) 0),false,cTime,cPos,cMode,cNext,cMember,vN,(A.k jB ((cTime,cPos,cMode,cNext,cMember),vN)),(A.c .neq (A.k jB ((cTime,cPos,cMode,cNext,cMember),vN)) 0),(A.c .neq (A.k jB ((cTime,cPos,cMode,cNext,cMember),vN)) 0),(A.c .neq (A.l seen) 2),sender,(A.c .lss sender 0),false,sender,vN,(A.c .geq sender vN),(A.c .geq sender vN),false,sender,vId,(A.c .eql sender vId),(A.c .eql sender vId),false,seen,(A.l seen),(A.c .neq (A.l seen) 2),(A.c .neq (A.l seen) 2),vId,vN,vSet,vAcc,vFail,vStage,vFirst,sender,(A.n yI (A.k fO ((vId,vN,vSet,vAcc,vFail,vStage,vFirst),sender)).1 0:Int),(A.n yI (A.k fO ((vId,vN,vSet,vAcc,vFail,vStage,vFirst),sender)).1 1:Int),seen,0,0,0,0,0,0,0,0,0,0,0,0,0,vId,vN,vSet,vAcc,vFail,vStage,vFirst,vId,vN,vSet,vAcc,vFail,vStage,vFirst,sender,cTime,cPos,cMode,cNext,cMember⟩)))))))))))))))
def Dt(A:bu):Kb→LT ((Int×Int×Int×(Int×Int×(Int×Int×Int×Int×Int)×Int×List Int)×Int)×Int) Kb
 | .c0 p a2=>.br (A.c .lss a2 p.a1) (.need (A.and (A.c .leq 0 a2) (A.c .lss a2 (A.l p.a0))) (.br (A.c .neq (A.n (.struct [yI,yI,(.struct [yI,yB])]) p.a0 a2:Int×Int×(Int×List Int)).1 0) (.br (A.c .geq a2 0) (.ret ((2,0,0,(0,0,(0,0,0,0,0),0,([]:List Int)),0),0)) (.ret ((1,0,0,(0,0,(0,0,0,0,0),0,([]:List Int)),0),0))) (.more (.c0 p (A.b .add .i64 a2 1))))) (.ret ((1,0,0,(0,0,(0,0,0,0,0),0,([]:List Int)),0),0))
 | .c1 p=>.br (A.c .lss p.b3 p.b2) (.need (A.and (A.c .leq 0 p.b3) (A.c .lss p.b3 p.b1)) (.more (.c2 ⟨p.b3,p.Jh,(A.l p.Jh),p.b0,p.b1,p.b2,p.b3,p.Yk,p.YZ,p.Wj,p.Yp,(A.n yI [p.Nn,p.Ni] (A.b .add .i64 p.b0 p.b3):Int),p.V1,p.XI,p.X1,p.YF,p.Xy,p.YB,p.V5,p.WX,p.Y3,p.Y6,p.XX,p.Wq,p.Wc,p.b4,p.b5,p.b6,p.b7,p.b8,p.b9,p.b10,p.b11,p.b12,p.b13,p.wJ,p.xF,p.dd,p.jZ,p.zW,p.kp,p.lH,p.lq,p.lC,p.qq,p.qD,p.qJ,p.oy,p.lJ,p.lD,p.wB,p.wK,p.wu,p.vY,p.wP,p.wz,p.wE,p.Zw,p.ZP,p.Z4,p.b39,p.Z5,p.b41,p.b42,p.Y_,p.ZR,p.ZQ,p.ZZ,p.ZS,p.Z6,p.Zp,p.Z0,p.Zx,p.ZC,p.b53,p.Ze,p.b55,p.Zy,p.ZK,p.Zd,p.Zi,p.ZO,p.Z1,p.ZH,p.ZT,p.Nn,p.Ni,p.Jh,p.ZF,p.Zu,p.Zk,p.Zt,p.ZD,p.b85,p.b86,p.Zb,p.ZL,p.b89,p.b90,p.ZI,p.b92,p.Zh,p.Zr⟩ 0))) (.more (.c0 ⟨p.Jh,(A.l p.Jh),p.V1,p.XI,p.X1,p.YF,p.Xy,p.YB,p.V5,p.WX,p.Y3,p.Y6,p.XX,p.Wq,p.Wc⟩ 0))
 | .c2 p c3=>.br (A.c .lss c3 p.c2) (.need (A.and (A.c .leq 0 c3) (A.c .lss c3 (A.l p.c1))) (.br (A.c .neq (A.n (.struct [yI,yI,(.struct [yI,yB])]) p.c1 c3:Int×Int×(Int×List Int)).1 2) (.more (.c2 p (A.b .add .i64 c3 1))) (.need (A.k (@tt ((Int×List Int)×(Int×Int×Int×Int×Int))) ((A.n (.struct [yI,yI,(.struct [yI,yB])]) p.c1 c3:Int×Int×(Int×List Int)).2.2,p.c8,p.c9,p.c10,p.c11,p.c12)) (.br (A.k Al ((A.n (.struct [yI,yI,(.struct [yI,yB])]) p.c1 c3:Int×Int×(Int×List Int)).2.2,p.c8,p.c9,p.c10,p.c11,p.c12)).2 (.ret ((3,p.c0,c3,(A.k Al ((A.n (.struct [yI,yI,(.struct [yI,yB])]) p.c1 c3:Int×Int×(Int×List Int)).2.2,p.c8,p.c9,p.c10,p.c11,p.c12)).1,(A.n (.struct [yI,yI,(.struct [yI,yB])]) p.c1 c3:Int×Int×(Int×List Int)).2.1),0)) (.more (.c2 p (A.b .add .i64 c3 1))))))) (.more (.c1 ⟨p.c4,p.c5,p.c6,(A.b .add .i64 p.c7 1),p.VR,p.VX,p.c28,p.VT,p.zX,p.c31,p.c32,p.VP,p.c34,p.VL,p.VW,p.c37,p.VV,p.VQ,p.c40,p.Z3,p.Zj,p.c43,p.Zm,p.c45,p.c46,p.Zf,p.Zn,p.c49,p.Zg,p.c51,p.c52,p.c53,p.Z8,p.c55,p.ZX,p.ZU,p.c58,p.c59,p.ZE,p.ZB,p.Zv,p.ZW,p.c64,p.Zs,p.ZV,p.Zz,p.ZA,p.c69,p.c70,p.ZJ,p.c72,p.ZM,p.Z9,p.c75,p.c76,p.Zq,p.Z_,p.c79,p.c80,p.Zl,p.Zc,p.Y9,p.Z2,p.c85,p.YH,p.c87,p.Xe,p.c13,p.c14,p.kY,p.c16,p.GL,p.E2,p.c19,p.c20,p.c21,p.JG,p.c23,p.c24,p.VO,p.Zo,p.ZY,p.c91,p.Y8,p.c93,p.Za,p.c95,p.ZN,p.Z7,p.c98,p.ZG,p.Rq,p.UW,p.RU,p.Ue,p.c8,p.c9,p.c10,p.c11,p.c12⟩))
def jh(c:Int×Int×Int×Int×Int)(w:Int):Nat→List (Int×Int×(Int×List Int))→Option (Int×Int×Int×(Int×Int×(Int×Int×Int×Int×Int)×Int×List Int)×Int)
 | _, []=>none
 | k,s::l=>bif s.1==2&&(rH (s.2.2,c)).2 then some (3,w,(k:Int),(rH (s.2.2,c)).1,s.2.1) else jh c w (k+1) l
def jL(t p m n:Int)(seen:List (Int×Int×(Int×List Int))):Nat→List Int→Option (Int×Int×Int×(Int×Int×(Int×Int×Int×Int×Int)×Int×List Int)×Int)
 | _, []=>none
 | i,v::l=>match jh (t,p,m,n,v) (i:Int) 0 seen with
   | some o=>some o
   | none=>jL t p m n seen (i+1) l
def JI:Int×Int×Int×(Int×Int×(Int×Int×Int×Int×Int)×Int×List Int)×Int:=(0,0,0,cy,0)
def kT(seen:List (Int×Int×(Int×List Int))):Int×Int×Int×(Int×Int×(Int×Int×Int×Int×Int)×Int×List Int)×Int:=bif seen.any fun s=>s.1 != 0 then(2,0,0,cy,0) else(1,0,0,cy,0)
def tX(t p m n:Int)(seen:List (Int×Int×(Int×List Int)))(i:Nat)(vs:List Int):(Int×Int×Int×(Int×Int×(Int×Int×Int×Int×Int)×Int×List Int)×Int)×Int:=
 match jL t p m n seen i vs with
 | some o=>(o,0)
 | none=>(kT seen,0)
def Ft(x:(Int×Int×Int×Int×Int×Int×Int)×Int):List Int:=(fO x).1.take (fO x).2.toNat
def eD:(Int×Int×Int×Int×Int)×(Int×Int×Int×Int×Int×Int×Int)×Int×List (Int×Int×(Int×List Int))→(Int×Int×Int×(Int×Int×(Int×Int×Int×Int×Int)×Int×List Int)×Int)×Int:=fun((t,p,m,n,s),v,sender,seen)=>
 bif i7 v != 0||gI ((t,p,m,n,s),v.2.1) != 0 then(JI,170)
 else bif decide (sender<0)||decide (v.2.1≤sender)||sender==v.1||seen.length != 2 then(JI,2)
 else tX t p m n seen 0 (Ft (v,sender))
theorem D2{x:(Int×Int×Int×Int×Int×Int×Int)×Int}:(fO x).1.length=2:=by
 obtain⟨⟨a,b,c,d,e,f,g⟩,s⟩:=x
 exact LT.jc (p:=fun y:List Int×Int=>y.1.length=2) rfl (by simp[t78,LT.all])
theorem zu{l:List (Int×Int×(Int×List Int))}{i:Nat}(h:i<l.length):(ah.n (.struct [(.int .i64),(.int .i64),(.struct [(.int .i64),(.slice (.int .u8))])]) l (i:Int):Int×Int×(Int×List Int))=l[i]:=getD_in h _
theorem Jk{seen:List (Int×Int×(Int×List Int))}(hl:seen.length≤140737488355328):∀(j i:Nat) (p:J3),p.a0=seen→p.a1=(seen.length:Int)→seen.length-i=j→i≤seen.length→(seen.take i).any (fun s=>s.1 != 0)=false→aD (Dt ah) (.more (.c0 p (i:Int))) (kT seen,0):=by
 intro j
 induction j with
 | zero=>
   intro i p h0 h1 hj hi ha
   have:i=seen.length:=by omega
   subst this
   rw[List.take_length] at ha
   rw[ak,Dt]
   refine(ai (by rw[h1,aG];simp)).2 ?_
   rw[kT,ha]
   exact .ret _
 | succ j ih=>
   intro i p h0 h1 hj hi ha
   have hi':i<seen.length:=by omega
   rw[ak,Dt]
   refine(aj (by rw[h1,aG];simp;omega)).2 (af.2 ⟨by rw[h0];exact bH hi',?_⟩)
   have hn:(ah.n (.struct [(.int .i64),(.int .i64),(.struct [(.int .i64),(.slice (.int .u8))])]) p.a0 (i:Int):Int×Int×(Int×List Int)).1=seen[i].1:=congrArg (fun z=>z.1) ((congrArg (fun z=>(ah.n (.struct [(.int .i64),(.int .i64),(.struct [(.int .i64),(.slice (.int .u8))])]) z (i:Int):Int×Int×(Int×List Int))) h0).trans (zu hi'))
   have htk:=List.take_succ_eq_append_getElem hi'
   by_cases hk:seen[i].1=0
   ·refine(ai (cr (hn.trans hk))).2 ?_
    refine aT (congrArg LT.more (congrArg (Kb.c0 p) (dI (by omega)))) (ih (i+1) p h0 h1 (by omega) (by omega) ?_)
    rw[htk,List.any_append,ha]
    simp[hk]
   ·refine(aj (eU (fun h=>hk (hn.symm.trans h)))).2 ((aj (by rw[aI];simp)).2 ?_)
    have:seen.any (fun s=>s.1 != 0)=true:=List.any_eq_true.2 ⟨seen[i],List.getElem_mem hi',by simpa using hk⟩
    rw[kT,this]
    exact .ret _
def I1(p:Bv)(seen:List (Int×Int×(Int×List Int)))(vs:List Int)(cnt i t po m n:Int):Prop:=p.b0=0∧p.b1=cnt∧p.b2=cnt∧p.b3=i∧p.Jh=seen∧ [p.Nn,p.Ni]=vs∧p.Yk=t∧p.YZ=po∧p.Wj=m∧p.Yp=n
def I2(p:EP)(seen:List (Int×Int×(Int×List Int)))(vs:List Int)(cnt i t po m n v:Int):Prop:=p.c0=i∧p.c1=seen∧p.c2=(seen.length:Int)∧p.c4=0∧p.c5=cnt∧p.c6=cnt∧p.c7=i∧p.Xe=seen∧ [p.YH,p.c87]=vs∧p.c8=t∧p.c9=po∧p.c10=m∧p.c11=n∧p.c12=v
theorem Jf{seen:List (Int×Int×(Int×List Int))}{vs:List Int}{cnt t po m n v:Int}{i:Nat}(hi:i<4)(hl:seen.length≤140737488355328){R:(Int×Int×Int×(Int×Int×(Int×Int×Int×Int×Int)×Int×List Int)×Int)×Int}(hnext:∀p':Bv,I1 p' seen vs cnt ((i+1:Nat):Int) t po m n→aD (Dt ah) (.more (.c1 p')) R) :
  ∀(j k:Nat) (p:EP),I2 p seen vs cnt (i:Int) t po m n v→seen.length-k=j→k≤seen.length→aD (Dt ah) (.more (.c2 p (k:Int))) (match jh (t,po,m,n,v) (i:Int) k (seen.drop k) with|some o=>(o,0)|none=>R):=by
 intro j
 induction j with
 | zero=>
   intro k p hI hj hk
   have:k=seen.length:=by omega
   subst this
   obtain⟨h0,h1,h2,h4,h5,h6,h7,h88,hv,h8,h9,h10,h11,h12⟩:=hI
   rw[ak,Dt]
   refine(ai (by rw[h2,aG];simp)).2 ?_
   rw[List.drop_length]
   exact hnext _ ⟨h4,h5,h6,by show ah.b .add .i64 p.c7 1=_;rw[h7,dI (by omega)],h88,hv,h8,h9,h10,h11⟩
 | succ j ih=>
   intro k p hI hj hk
   have hk':k<seen.length:=by omega
   have hm:=ih (k+1) p hI (by omega) (by omega)
   obtain⟨h0,h1,h2,h4,h5,h6,h7,h88,hv,h8,h9,h10,h11,h12⟩:=hI
   rw[ak,Dt]
   have hn:(ah.n (.struct [(.int .i64),(.int .i64),(.struct [(.int .i64),(.slice (.int .u8))])]) p.c1 (k:Int):Int×Int×(Int×List Int))=seen[k]:=(congrArg (fun z=>(ah.n (.struct [(.int .i64),(.int .i64),(.struct [(.int .i64),(.slice (.int .u8))])]) z (k:Int):Int×Int×(Int×List Int))) h1).trans (zu hk')
   have hd:seen.drop k=seen[k]::seen.drop (k+1):=List.drop_eq_getElem_cons hk'
   have hg:ah.k Al ((ah.n (.struct [(.int .i64),(.int .i64),(.struct [(.int .i64),(.slice (.int .u8))])]) p.c1 (k:Int):Int×Int×(Int×List Int)).2.2,p.c8,p.c9,p.c10,p.c11,p.c12)=rH (seen[k].2.2,(t,po,m,n,v)):=by
    refine(congrArg (fun z:Int×Int×(Int×List Int)=>Al (z.2.2,p.c8,p.c9,p.c10,p.c11,p.c12)) hn).trans ?_
    rw[h8,h9,h10,h11,h12]
    exact H9
   refine(aj (by rw[h2,aG];simp;omega)).2 (af.2 ⟨by rw[h1];exact bH hk',?_⟩)
   rw[hd,jh]
   by_cases hkd:seen[k].1=2
   ·refine(ai (cr ((congrArg (fun z=>z.1) hn).trans hkd))).2 (af.2 ⟨rfl,?_⟩)
    rw[show(seen[k].1==2)=true from by simpa using hkd,Bool.true_and]
    cases hgd:(rH (seen[k].2.2,(t,po,m,n,v))).2
    ·refine(ai ((congrArg (fun z=>z.2) hg).trans hgd)).2 ?_
     exact aT (congrArg LT.more (congrArg (Kb.c2 p) (dI (by omega)))) hm
    ·refine(aj ((congrArg (fun z=>z.2) hg).trans hgd)).2 ?_
     have e:=congr (congr (congrArg (fun(x:Int) (y:Int×Int×(Int×Int×Int×Int×Int)×Int×List Int) (z:Int)=>(LT.ret (((3:Int),x,(k:Int),y,z),(0:Int)):LT ((Int×Int×Int×(Int×Int×(Int×Int×Int×Int×Int)×Int×List Int)×Int)×Int) Kb)) h0) (congrArg (fun z=>z.1) hg)) (congrArg (fun z=>z.2.1) hn)
     exact aT e (.ret _)
   ·refine(aj (eU (fun h=>hkd ((congrArg (fun z=>z.1) hn).symm.trans h)))).2 ?_
    rw[show(seen[k].1==2)=false from by simpa using hkd,Bool.false_and]
    exact aT (congrArg LT.more (congrArg (Kb.c2 p) (dI (by omega)))) hm
theorem Iz{seen:List (Int×Int×(Int×List Int))}{vs:List Int}{cnt:Nat}{t po m n:Int}(hl:seen.length≤140737488355328)(hv2:vs.length=2)(hc:cnt≤2):∀(j i:Nat) (p:Bv),I1 p seen vs (cnt:Int) (i:Int) t po m n→cnt-i=j→i≤cnt→aD (Dt ah) (.more (.c1 p)) (tX t po m n seen i ((vs.take cnt).drop i)):=by
 intro j
 induction j with
 | zero=>
   intro i p hI hj hi
   have:i=cnt:=by omega
   subst this
   obtain⟨h0,h1,h2,h3,h66,hv,h95,h96,h97,h98⟩:=hI
   rw[ak,Dt]
   refine(ai (by rw[h2,h3,aG];simp)).2 ?_
   rw[List.drop_of_length_le (by rw[List.length_take];omega)]
   exact Jk hl seen.length 0 _ h66 (by show ah.l p.Jh=_;rw[h66];rfl) rfl (by omega) rfl
 | succ j ih=>
   intro i p hI hj hi
   obtain⟨h0,h1,h2,h3,h66,hv,h95,h96,h97,h98⟩:=hI
   have hiv:i<(vs.take cnt).length:=by rw[List.length_take];omega
   rw[ak,Dt]
   refine(aj (by rw[h2,h3,aG];simp;omega)).2 (af.2 ⟨by rw[h1,h3,gf,aG,aL];simp;omega,?_⟩)
   have hnv:(ah.n (.int .i64) [p.Nn,p.Ni] (ah.b .add .i64 p.b0 p.b3):Int)=(vs.take cnt)[i]:=by
    have e:ah.b .add .i64 p.b0 p.b3=(i:Int):=by rw[h0,h3,bi,fU (by omega) (by omega)];omega
    refine((congrArg (fun z=>(ah.n (.int .i64) [p.Nn,p.Ni] z:Int)) e).trans ((congrArg (fun z=>(ah.n (.int .i64) z (i:Int):Int)) hv).trans (getD_in (l:=vs) (by omega) _))).trans ?_
    rw[List.getElem_take]
   have hm:=Jf (seen:=seen) (vs:=vs) (cnt:=(cnt:Int)) (t:=t) (po:=po) (m:=m) (n:=n) (v:=(vs.take cnt)[i]) (i:=i) (by omega) hl (R:=tX t po m n seen (i+1) ((vs.take cnt).drop (i+1))) (fun p' hp'=>ih (i+1) p' hp' (by omega) (by omega)) seen.length 0
   refine aH ?_ (hm _ ⟨h3,h66,?_,h0,h1,h2,h3,h66,hv,h95,h96,h97,h98,hnv⟩ rfl (by omega))
   rotate_left
   ·show ah.l p.Jh=_;rw[h66];rfl
   rw[tX,tX,List.drop_eq_getElem_cons hiv,jL,List.drop_zero]
   cases jh (t,po,m,n,(vs.take cnt)[i]) (i:Int) 0 seen<;>rfl
theorem Gl{t po m n s a b c d e f g sender:Int}{seen:List (Int×Int×(Int×List Int))}(h:Ty.du [(.struct [(.int .i64),(.int .i64),(.int .i64),(.int .i64),(.int .i64)]),(.struct [(.int .i64),(.int .i64),(.int .i64),(.int .i64),(.int .i64),(.int .i64),(.int .i64)]),(.int .i64),(.slice (.struct [(.int .i64),(.int .i64),(.struct [(.int .i64),(.slice (.int .u8))])]))] ((t,po,m,n,s),(a,b,c,d,e,f,g),sender,seen)):seen.length≤140737488355328:=h.2.2.2.1
theorem T_{t po m n s a b c d e f g sender:Int}{seen:List (Int×Int×(Int×List Int))}(h:Ty.du [(.struct [(.int .i64),(.int .i64),(.int .i64),(.int .i64),(.int .i64)]),(.struct [(.int .i64),(.int .i64),(.int .i64),(.int .i64),(.int .i64),(.int .i64),(.int .i64)]),(.int .i64),(.slice (.struct [(.int .i64),(.int .i64),(.struct [(.int .i64),(.slice (.int .u8))])]))] ((t,po,m,n,s),(a,b,c,d,e,f,g),sender,seen)) :
  aD (Dt ah) (t43 ah t po m n s a b c d e f g sender seen) (eD ((t,po,m,n,s),(a,b,c,d,e,f,g),sender,seen)):=by
 have hl:=Gl h
 unfold t43
 rw[eD]
 refine af.2 ⟨rfl,?_⟩
 by_cases h1:(i7 (a,b,c,d,e,f,g) != 0)=true
 ·rw[h1]
  exact(aj h1).2 (.ret _)
 rw[Bool.not_eq_true] at h1
 rw[h1]
 refine(ai h1).2 (af.2 ⟨rfl,?_⟩)
 rw[Bool.false_or]
 by_cases h2:(gI ((t,po,m,n,s),b) != 0)=true
 ·rw[h2]
  exact(aj h2).2 (.ret _)
 rw[Bool.not_eq_true] at h2
 rw[h2]
 refine(ai h2).2 ?_
 rw[cond_false]
 have hz:i7 (a,b,c,d,e,f,g)=0:=by simpa using h1
 have hok:=fx.1 hz
 unfold gT at hok
 by_cases h3:sender<0
 ·refine(aj (by rw[ao];simpa using h3)).2 ?_
  rw[show decide (sender<0)=true from by simpa using h3]
  exact .ret _
 refine(ai (by rw[ao];simpa using h3)).2 ?_
 by_cases h4:b≤sender
 ·refine(aj (by rw[aI];simpa using h4)).2 ?_
  rw[show decide (b≤sender)=true from by simpa using h4,Bool.or_true]
  exact .ret _
 refine(ai (by rw[aI];simpa using h4)).2 ?_
 by_cases h5:sender=a
 ·refine(aj (o_ h5)).2 ?_
  rw[show(sender==a)=true from by simpa using h5,Bool.or_true]
  exact .ret _
 refine(ai (BB h5)).2 ?_
 by_cases h6:¬seen.length=2
 ·refine(aj (eU (show(seen.length:Int)≠2 by omega))).2 ?_
  rw[show(seen.length != 2)=true from by simpa using h6,Bool.or_true]
  exact .ret _
 rw[Decidable.not_not] at h6
 refine(ai (cr (show(seen.length:Int)=2 by omega))).2 (af.2 ⟨rfl,(ai h1).2 (af.2 ⟨rfl,?_⟩)⟩)
 rw[show decide (sender<0)=false from by simpa using h3,show decide (b≤sender)=false from by simpa using h4,show(sender==a)=false from by simpa using h5,show(seen.length != 2)=false from by simpa using h6]
 have h77:vm ((a,b,c,d,e,f,g),sender)=true:=(mf (by omega) (by omega)).2 ⟨by omega,by omega,by omega⟩
 have hq:=zt (x:=((a,b,c,d,e,f,g),sender))
 have hq2:=D2 (x:=((a,b,c,d,e,f,g),sender))
 refine(ai (show ah.not (ah.k vm ((a,b,c,d,e,f,g),sender))=false by rw[a_,al,h77];rfl)).2 (af.2 ⟨by rw[al];simp[wR];omega,af.2 ⟨?_,?_⟩⟩)
 ·rw[al,aL,aL,ax,ax,ax];simp;omega
 ·obtain⟨cnt,hcnt⟩:=Int.eq_ofNat_of_zero_le hq.1
  show aD (Dt ah) _ (tX t po m n seen 0 (Ft ((a,b,c,d,e,f,g),sender)))
  rw[Ft,hcnt,Int.toNat_natCast]
  have hs:ah.b .sub .i64 (ah.k fO ((a,b,c,d,e,f,g),sender)).2 0=(cnt:Int):=by
   rw[al,hcnt,aS,fU (by omega) (by omega)];omega
  refine Iz (vs:=(fO ((a,b,c,d,e,f,g),sender)).1) hl hq2 (by omega) cnt 0 _ ⟨rfl,hs,hs,rfl,rfl,?_,rfl,rfl,rfl,rfl⟩ (by omega) (by omega)
  show[(fO ((a,b,c,d,e,f,g),sender)).1.getD 0 0,(fO ((a,b,c,d,e,f,g),sender)).1.getD 1 0]=_
  match (fO ((a,b,c,d,e,f,g),sender)).1,hq2 with
  | [_,_],_=>rfl
def MW:((Int×Int×Int×Int×Int)×(Int×Int×Int×Int×Int×Int×Int)×Int×List (Int×Int×(Int×List Int)))→((Int×Int×Int×(Int×Int×(Int×Int×Int×Int×Int)×Int×List Int)×Int)×Int):=eD
def Ws:aC:=⟨[(.struct [yI,yI,yI,yI,yI]),(.struct [yI,yI,yI,yI,yI,yI,yI]),yI,(.slice (.struct [yI,yI,(.struct [yI,yB])]))], [(.struct [yI,yI,yI,(.struct [yI,yI,(.struct [yI,yI,yI,yI,yI]),yI,yB]),yI]),yI],(@tt ((Int×Int×Int×Int×Int)×(Int×Int×Int×Int×Int×Int×Int)×Int×List (Int×Int×(Int×List Int)))),MW⟩
theorem WC:Sd 49 Ws:=aJ au dC true 122 [⟨49,10, [[4,8,9,10,56,57,58], [0,24,25,26], [7,8,9]]⟩,⟨176,3, [[0,24,25,26], [7,8,9]]⟩,⟨180,2, [[0,1,7,8], [], [8,9]]⟩] [] (fun A ((cTime,cPos,cMode,cNext,cMember),(vId,vN,vSet,vAcc,vFail,vStage,vFirst),sender,seen)=>t43 A cTime cPos cMode cNext cMember vId vN vSet vAcc vFail vStage vFirst sender seen) Dt Sp (fc Tryz.func49 (fc Tryz.func102 (fc Tryz.func104 (fc Tryz.func105 (fc Tryz.func176 (fc Tryz.func180 fz)))))) (sc Gg (sc Xc (sc LA (sc Ry (sc yb sz))))) (fun A y=>match y with |.c0 p a2=>⟨62,by kernel_rfl,by kernel_rfl⟩|.c1 p=>⟨52,by kernel_rfl,by kernel_rfl⟩|.c2 p c3=>⟨68,by kernel_rfl,by kernel_rfl⟩) fun((cTime,cPos,cMode,cNext,cMember),(vId,vN,vSet,vAcc,vFail,vStage,vFirst),sender,seen) hp h=>T_ h
open Go.Ev.Pl
def t61(A:bu)(vId:Int)(vN:Int)(vSet:Int)(vAcc:Int)(vFail:Int)(vStage:Int)(vFirst:Int)(sender:Int)(oKind:Int)(oWhich:Int)(oChan:Int)(oFKind:Int)(oFReq:Int)(oFCTime:Int)(oFCPos:Int)(oFCMode:Int)(oFCNext:Int)(oFCMember:Int)(oFFrom:Int)(oFData:List Int)(oAt:Int):LT ((Int×Int×Int×Int×Int×Int×Int)×Int) Empty:=.br (A.c .eql oKind 1) (.need (A.k (@tt ((Int×Int×Int×Int×Int×Int×Int)×Int)) ((vId,vN,vSet,vAcc,vFail,vStage,vFirst),sender)) (.ret (A.k kg ((vId,vN,vSet,vAcc,vFail,vStage,vFirst),sender)))) (.br (A.c .eql oKind 2) (.need (A.k (@tt ((Int×Int×Int×Int×Int×Int×Int)×Int)) ((vId,vN,vSet,vAcc,vFail,vStage,vFirst),sender)) (.ret (A.k Ed ((vId,vN,vSet,vAcc,vFail,vStage,vFirst),sender)))) (.br (A.c .eql oKind 3) (.need (A.k (@tt ((Int×Int×Int×Int×Int×Int×Int)×Int×Int)) ((vId,vN,vSet,vAcc,vFail,vStage,vFirst),sender,oWhich)) (.ret (A.k kC ((vId,vN,vSet,vAcc,vFail,vStage,vFirst),sender,oWhich)))) (.ret ((0,0,0,0,0,0,0),2))))
def fV:((Int×Int×Int×Int×Int×Int×Int)×Int×(Int×Int×Int×(Int×Int×(Int×Int×Int×Int×Int)×Int×List Int)×Int))→((Int×Int×Int×Int×Int×Int×Int)×Int):=fun((vId,vN,vSet,vAcc,vFail,vStage,vFirst),sender,oKind,oWhich,oChan,(oFKind,oFReq,(oFCTime,oFCPos,oFCMode,oFCNext,oFCMember),oFFrom,oFData),oAt)=>(t61 ah vId vN vSet vAcc vFail vStage vFirst sender oKind oWhich oChan oFKind oFReq oFCTime oFCPos oFCMode oFCNext oFCMember oFFrom oFData oAt).val (Ty.bV [(.struct [yI,yI,yI,yI,yI,yI,yI]),yI])
def WE:aC:=⟨[(.struct [yI,yI,yI,yI,yI,yI,yI]),yI,(.struct [yI,yI,yI,(.struct [yI,yI,(.struct [yI,yI,yI,yI,yI]),yI,yB]),yI])], [(.struct [yI,yI,yI,yI,yI,yI,yI]),yI],(@tt ((Int×Int×Int×Int×Int×Int×Int)×Int×(Int×Int×Int×(Int×Int×(Int×Int×Int×Int×Int)×Int×List Int)×Int))),fV⟩
theorem XO:Sd 51 WE:=aK au dC true 50 [] (fun A ((vId,vN,vSet,vAcc,vFail,vStage,vFirst),sender,oKind,oWhich,oChan,(oFKind,oFReq,(oFCTime,oFCPos,oFCMode,oFCNext,oFCMember),oFFrom,oFData),oAt)=>t61 A vId vN vSet vAcc vFail vStage vFirst sender oKind oWhich oChan oFKind oFReq oFCTime oFCPos oFCMode oFCNext oFCMember oFFrom oFData oAt) (fc Tryz.func51 fz) (sc Yh (sc QA (sc Yr sz))) (fun(((vId,vN,vSet,vAcc,vFail,vStage,vFirst),sender,oKind,oWhich,oChan,(oFKind,oFReq,(oFCTime,oFCPos,oFCMode,oFCNext,oFCMember),oFFrom,oFData),oAt):(Int×Int×Int×Int×Int×Int×Int)×Int×(Int×Int×Int×(Int×Int×(Int×Int×Int×Int×Int)×Int×List Int)×Int)) hp h=>by
 show(t61 ah vId vN vSet vAcc vFail vStage vFirst sender oKind oWhich oChan oFKind oFReq oFCTime oFCPos oFCMode oFCNext oFCMember oFFrom oFData oAt).pre=true
 simp[t61,LT.pre,al,cB])
end Go.Ev.M
