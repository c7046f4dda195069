/-
  PROVED: what judge.Slot and judge.Apply compute. Conditions: none.
-/
import Derived.Test.YtjceiokllpmnkaaGreatFc
import Derived.Test.YtjceiokllpmnkaaGreatMb
namespace Go.Ev.M
open Go.Proofs
set_option maxRecDepth 100000
set_option linter.unusedVariables false
set_option linter.unusedSimpArgs false
open Go.Ev.Pl
structure Jz where
 (a0:List (Int×Int×(Int×List Int))) (a1 a3 a4 a5 a6 a7 a8 a9 fw jK a12 wi pq pu:Int)
structure A_ where
 (b0 b1 b2 b3 b4 b5 b6 b7 b8 b9 b10 b11 b12 b13 vW wW cZ:Int) (kh:List (Int×Int×(Int×List Int))) (zd:Bool) (kl lz lg lm qd qj qi nS:Int) (lC lu:Bool) (vK vQ vM vT vA vJ vh:Int) (Yb X8 Zm:Bool) (Yy:Int) (X4 Yr:Bool) (Y_ Yn:Int) (Y5 Yu X6:Bool) (Ze Yt:Int) (Ys Zf Yo:Bool) (X3:List (Int×Int×(Int×List Int))) (Yd:Int) (Y9 Ya:Bool) (YK YW YE Yh Yx Zd Yc YP Mq Mn:Int) (Gl:List (Int×Int×(Int×List Int))) (Xw VV Wk Wh Wo WO Xn Xf XM VF VY Ws VZ Zj YB Yf YM Zh Y6 YR Y3 Zl Zo YN YQ X1 X_ YG Xe Vg V0 W5 ZQ:Int)
structure FT where
 (c0:Int) (c1:List (Int×Int×(Int×List Int))) (c2 c4 c5 c6 c7 c8 c9 c10 c11 c12 c13 c14 iQ c16 C8 ES c19 c20 c21 IN c23 c24 UI UM UK c28 UQ za c31 c32 US c34 UL UR c37 UT:Int) (UP:List (Int×Int×(Int×List Int))) (c40:Bool) (YI Yp YU X7 YY c46 X5 Y1:Int) (c49 YL:Bool) (c51 YD c53 YX YS Zn Y0:Int) (YZ c59 YH:Bool) (Yl:Int) (Zc Ym:Bool) (c64 Y4:Int) (Y8 X2 Yg:Bool) (YT c70:Int) (YA c72 Za:Bool) (Y7:List (Int×Int×(Int×List Int))) (c75:Int) (c76 Yw:Bool) (Yj Yk c80 YJ Zb Y2 Zg c85 UU c87:Int) (VA:List (Int×Int×(Int×List Int))) (Yz Yq c91 X9 c93 YF Yi Yv YC Ye YO Pb R7 P4 RQ:Int)
inductive IR where
 | c0 (p:Jz) (a2:Int)
 | c1 (p:A_)
 | c2 (p:FT) (c3:Int)
noncomputable def Pg:IR→ei
 | .c0 p a2=>⟨[⟨180,19,(en [(0,.sl (.struct [yI,yI,(.struct [yI,yB])]) p.a0),(1,.fn 105 [] []),(7,vi p.a1),(8,vi a2)]),[.inLoop (cw Tryz.f180 [1,0,1,0,0]),.inBlock 0,.code (cw Tryz.f180 [1,1])],[],none⟩,⟨104,9,.leaf,[.ops (ow Tryz.f104 [1,0]) ((ow Tryz.f104 [1,0]).toList.drop 2),.code .ret],[],none⟩,⟨49,85,(en [(8,.ptr 0 0),(9,.ptr 1 0)]),[.ops (ow Tryz.f49 [1,1,1,0,0]) ((ow Tryz.f49 [1,1,1,0,0]).toList.drop 1),.code (cw Tryz.f49 [1,1,1,0,1]),.code (cw Tryz.f49 [1,1,1,1])],[2],none⟩],[.flat false [vi p.a3,vi p.a4,vi p.a5,vi p.a6,vi p.a7,vi p.a8,vi p.a9,vi p.fw,vi p.jK,vi p.a12,vi p.wi,.bd true,vi p.pq],.flat false [vi p.pu],.wS,.dead]⟩
 | .c1 p=>⟨[⟨176,37,(en [(0,.yield 0),(24,.jD 1 1 false p.b0 p.b1),(25,vi p.b2),(26,vi p.b3)]),[.inLoop (cw Tryz.f176 [1,1,1,0,0]),.inBlock 0],[],none⟩,⟨49,85,(en [(7,.ptr 2 0),(8,.ptr 3 0),(9,.ptr 4 0)]),[.gI 0,.inBlock 1,.code (cw Tryz.f49 [1,1,1])],[5],none⟩],[.loop ⟨49,85,(en [(0,.agg [vi p.b4,vi p.b5,vi p.b6,vi p.b7,vi p.b8]),(1,.agg [vi p.b9,vi p.b10,vi p.b11,vi p.b12,vi p.b13,vi p.vW,vi p.wW]),(2,vi p.cZ),(3,.sl (.struct [yI,yI,(.struct [yI,yB])]) p.kh),(4,.ptr 9 0),(5,.ptr 6 0),(7,.ptr 2 0),(8,.ptr 3 0),(9,.ptr 4 0),(16,vb p.zd),(17,.agg [vi p.kl,vi p.lz,vi p.lg,vi p.lm,vi p.qd,vi p.qj,vi p.qi]),(18,vi p.nS),(19,vb p.lC),(20,vb p.lu),(21,.agg [vi p.vK,vi p.vQ,vi p.vM,vi p.vT,vi p.vA]),(22,.ptr 6 1),(23,vi p.vJ),(24,vi p.vh),(25,vb p.Yb),(26,vb p.X8),(28,vb p.Zm),(29,vi p.Yy),(30,vb p.X4),(31,vb p.Yr),(32,vi p.Y_),(33,.ptr 6 1),(34,vi p.Yn),(35,vb p.Y5),(36,vb p.Yu),(37,vb p.X6),(38,vi p.Ze),(39,.ptr 6 0),(40,vi p.Yt),(41,vb p.Ys),(42,vb p.Zf),(43,vb p.Yo),(44,.sl (.struct [yI,yI,(.struct [yI,yB])]) p.X3),(45,vi p.Yd),(46,vb p.Y9),(47,vb p.Ya),(49,.agg [vi p.YK,vi p.YW,vi p.YE,vi p.Yh,vi p.Yx,vi p.Zd,vi p.Yc]),(50,vi p.YP),(51,.fn 176 [] [.ptr 7 0,.ptr 8 0])]),[52,53],(cw Tryz.f49 [1,1,0,1,0,0]),(cw Tryz.f49 [1,1,0,1,0,1]),0,none⟩,.flat false [vi p.Mq,vi p.Mn],.flat false [.sl (.struct [yI,yI,(.struct [yI,yB])]) p.Gl],.flat false [vi p.Xw,vi p.VV,vi p.Wk,vi p.Wh,vi p.Wo,vi p.WO,vi p.Xn,vi p.Xf,vi p.XM,vi p.VF,vi p.VY,.bd true,vi p.Ws],.flat false [vi p.VZ],.wS,.flat false [vi p.Zj,vi p.YB,vi p.Yf,vi p.YM,vi p.Zh,vi p.Y6,vi p.YR],.flat false [vi p.Y3,vi p.Zl,vi p.Zo,vi p.YN,vi p.YQ,vi p.X1,vi p.X_],.flat false [vi p.YG],.flat false [vi p.Xe,vi p.Vg,vi p.V0,vi p.W5,vi p.ZQ],.dead]⟩
 | .c2 p c3=>⟨[⟨49,85,(en [(4,.ptr 0 0),(8,.ptr 1 0),(9,.ptr 2 0),(10,vi p.c0),(56,.sl (.struct [yI,yI,(.struct [yI,yB])]) p.c1),(57,vi p.c2),(58,vi c3)]),[.inLoop (cw Tryz.f49 [1,1,0,1,0,1,0,1,1,0,0]),.inBlock 3,.inBlock 2],[],some 3⟩,⟨176,37,(en [(0,.yield 3),(24,.jD 4 1 false p.c4 p.c5),(25,vi p.c6),(26,vi p.c7)]),[.ops (ow Tryz.f176 [1,1,1,0,0,1,1,0,0,1,0]) ((ow Tryz.f176 [1,1,1,0,0,1,1,0,0,1,0]).toList.drop 3),.code (cw Tryz.f176 [1,1,1,0,0,1,1,0,0,1,1]),.inBlock 1,.code (cw Tryz.f176 [1,1,1,0,0,1,1,1]),.inLoop (cw Tryz.f176 [1,1,1,0,0]),.inBlock 0],[],none⟩,⟨49,85,(en [(7,.ptr 5 0),(8,.ptr 1 0),(9,.ptr 2 0)]),[.gI 3,.inBlock 1,.code (cw Tryz.f49 [1,1,1])],[6],none⟩],[.flat false [vi p.c8,vi p.c9,vi p.c10,vi p.c11,vi p.c12],.flat false [vi p.c13,vi p.c14,vi p.iQ,vi p.c16,vi p.C8,vi p.ES,vi p.c19,vi p.c20,vi p.c21,vi p.IN,vi p.c23,.bd true,vi p.c24],.flat false [vi p.UI],.loop ⟨49,85,(en [(0,.agg [vi p.UM,vi p.UK,vi p.c28,vi p.UQ,vi p.za]),(1,.agg [vi p.c31,vi p.c32,vi p.US,vi p.c34,vi p.UL,vi p.UR,vi p.c37]),(2,vi p.UT),(3,.sl (.struct [yI,yI,(.struct [yI,yB])]) p.UP),(4,.ptr 0 0),(5,.ptr 7 0),(7,.ptr 5 0),(8,.ptr 1 0),(9,.ptr 2 0),(16,vb p.c40),(17,.agg [vi p.YI,vi p.Yp,vi p.YU,vi p.X7,vi p.YY,vi p.c46,vi p.X5]),(18,vi p.Y1),(19,vb p.c49),(20,vb p.YL),(21,.agg [vi p.c51,vi p.YD,vi p.c53,vi p.YX,vi p.YS]),(22,.ptr 7 1),(23,vi p.Zn),(24,vi p.Y0),(25,vb p.YZ),(26,vb p.c59),(28,vb p.YH),(29,vi p.Yl),(30,vb p.Zc),(31,vb p.Ym),(32,vi p.c64),(33,.ptr 7 1),(34,vi p.Y4),(35,vb p.Y8),(36,vb p.X2),(37,vb p.Yg),(38,vi p.YT),(39,.ptr 7 0),(40,vi p.c70),(41,vb p.YA),(42,vb p.c72),(43,vb p.Za),(44,.sl (.struct [yI,yI,(.struct [yI,yB])]) p.Y7),(45,vi p.c75),(46,vb p.c76),(47,vb p.Yw),(49,.agg [vi p.Yj,vi p.Yk,vi p.c80,vi p.YJ,vi p.Zb,vi p.Y2,vi p.Zg]),(50,vi p.c85),(51,.fn 176 [] [.ptr 8 0,.ptr 9 0])]),[52,53],(cw Tryz.f49 [1,1,0,1,0,0]),(cw Tryz.f49 [1,1,0,1,0,1]),1,none⟩,.flat false [vi p.UU,vi p.c87],.flat false [.sl (.struct [yI,yI,(.struct [yI,yB])]) p.VA],.wS,.flat false [vi p.Yz,vi p.Yq,vi p.c91,vi p.X9,vi p.c93,vi p.YF,vi p.Yi],.flat false [vi p.Yv,vi p.YC,vi p.Ye,vi p.YO,vi p.Pb,vi p.R7,vi p.P4],.flat false [vi p.RQ],.dead]⟩
def t43(A:bK)(cTime:Int)(cPos:Int)(cMode:Int)(cNext:Int)(cMember:Int)(vId:Int)(vN:Int)(vSet:Int)(vAcc:Int)(vFail:Int)(vStage:Int)(vFirst:Int)(sender:Int)(seen:List (Int×Int×(Int×List Int))):LT ((Int×Int×Int×(Int×Int×(Int×Int×Int×Int×Int)×Int×List Int)×Int)×Int) IR:=.need (A.k (@tt ((Int×Int×Int×Int×Int×Int×Int))) (vId,vN,vSet,vAcc,vFail,vStage,vFirst)) (.br (A.c .neq (A.k iH (vId,vN,vSet,vAcc,vFail,vStage,vFirst)) 0) (.ret ((0,0,0,(0,0,(0,0,0,0,0),0,([]:List Int)),0),170)) (.need (A.k (@tt ((Int×Int×Int×Int×Int)×Int)) ((cTime,cPos,cMode,cNext,cMember),vN)) (.br (A.c .neq (A.k j6 ((cTime,cPos,cMode,cNext,cMember),vN)) 0) (.ret ((0,0,0,(0,0,(0,0,0,0,0),0,([]:List Int)),0),170)) (.br (A.c .lss sender 0) (.ret ((0,0,0,(0,0,(0,0,0,0,0),0,([]:List Int)),0),2)) (.br (A.c .geq sender vN) (.ret ((0,0,0,(0,0,(0,0,0,0,0),0,([]:List Int)),0),2)) (.br (A.c .eql sender vId) (.ret ((0,0,0,(0,0,(0,0,0,0,0),0,([]:List Int)),0),2)) (.br (A.c .neq (A.l seen) 2) (.ret ((0,0,0,(0,0,(0,0,0,0,0),0,([]:List Int)),0),2)) (.need (A.k (@tt ((Int×Int×Int×Int×Int×Int×Int))) (vId,vN,vSet,vAcc,vFail,vStage,vFirst)) (.br (A.c .neq (A.k iH (vId,vN,vSet,vAcc,vFail,vStage,vFirst)) 0) (.more (.c0 ⟨seen,(A.l seen),0,0,0,0,0,0,0,0,0,0,0,0,0⟩ 0)) (.need (A.k (@tt ((Int×Int×Int×Int×Int×Int×Int)×Int)) ((vId,vN,vSet,vAcc,vFail,vStage,vFirst),sender)) (.br (A.not (A.k uI ((vId,vN,vSet,vAcc,vFail,vStage,vFirst),sender))) (.more (.c0 ⟨seen,(A.l seen),0,0,0,0,0,0,0,0,0,0,0,0,0⟩ 0)) (.need (A.k v8 ((vId,vN,vSet,vAcc,vFail,vStage,vFirst),sender)) (.need (A.and (A.c .leq 0 0) (A.and (A.c .leq 0 (A.k fJ ((vId,vN,vSet,vAcc,vFail,vStage,vFirst),sender)).2) (A.c .leq (A.k fJ ((vId,vN,vSet,vAcc,vFail,vStage,vFirst),sender)).2 2))) (.more (.c1 ⟨(A.b .add .i64 0 0),(A.b .sub .i64 (A.k fJ ((vId,vN,vSet,vAcc,vFail,vStage,vFirst),sender)).2 0),(A.b .sub .i64 (A.k fJ ((vId,vN,vSet,vAcc,vFail,vStage,vFirst),sender)).2 0),0,cTime,cPos,cMode,cNext,cMember,vId,vN,vSet,vAcc,vFail,vStage,vFirst,sender,seen,(A.c .neq (A.k j6 ((cTime,cPos,cMode,cNext,cMember),vN)) 0),vId,vN,vSet,vAcc,vFail,vStage,vFirst,(A.k iH (vId,vN,vSet,vAcc,vFail,vStage,vFirst)),(A.c .neq (A.k iH (vId,vN,vSet,vAcc,vFail,vStage,vFirst)) 0),false,cTime,cPos,cMode,cNext,cMember,vN,(A.k j6 ((cTime,cPos,cMode,cNext,cMember),vN)),(A.c .neq (A.k j6 ((cTime,cPos,cMode,cNext,cMember),vN)) 0),(A.c .neq (A.k j6 ((cTime,cPos,cMode,cNext,cMember),vN)) 0),(A.c .neq (A.l seen) 2),sender,(A.c .lss sender 0),false,sender,vN,(A.c .geq sender vN),(A.c .geq sender vN),false,sender,vId,(A.c .eql sender vId),(A.c .eql sender vId),false,seen,(A.l seen),(A.c .neq (A.l seen) 2),(A.c .neq (A.l seen) 2),vId,vN,vSet,vAcc,vFail,vStage,vFirst,sender,(A.n yI (A.k fJ ((vId,vN,vSet,vAcc,vFail,vStage,vFirst),sender)).1 0:Int),(A.n yI (A.k fJ ((vId,vN,vSet,vAcc,vFail,vStage,vFirst),sender)).1 1:Int),seen,0,0,0,0,0,0,0,0,0,0,0,0,0,vId,vN,vSet,vAcc,vFail,vStage,vFirst,vId,vN,vSet,vAcc,vFail,vStage,vFirst,sender,cTime,cPos,cMode,cNext,cMember⟩)))))))))))))))
def Cz(A:bK):IR→LT ((Int×Int×Int×(Int×Int×(Int×Int×Int×Int×Int)×Int×List Int)×Int)×Int) IR
 | .c0 p a2=>.br (A.c .lss a2 p.a1) (.need (A.and (A.c .leq 0 a2) (A.c .lss a2 (A.l p.a0))) (.br (A.c .neq (A.n (.struct [yI,yI,(.struct [yI,yB])]) p.a0 a2:Int×Int×(Int×List Int)).1 0) (.br (A.c .geq a2 0) (.ret ((2,0,0,(0,0,(0,0,0,0,0),0,([]:List Int)),0),0)) (.ret ((1,0,0,(0,0,(0,0,0,0,0),0,([]:List Int)),0),0))) (.more (.c0 p (A.b .add .i64 a2 1))))) (.ret ((1,0,0,(0,0,(0,0,0,0,0),0,([]:List Int)),0),0))
 | .c1 p=>.br (A.c .lss p.b3 p.b2) (.need (A.and (A.c .leq 0 p.b3) (A.c .lss p.b3 p.b1)) (.more (.c2 ⟨p.b3,p.Gl,(A.l p.Gl),p.b0,p.b1,p.b2,p.b3,p.Xe,p.Vg,p.V0,p.W5,(A.n yI [p.Mq,p.Mn] (A.b .add .i64 p.b0 p.b3):Int),p.Xw,p.VV,p.Wk,p.Wh,p.Wo,p.WO,p.Xn,p.Xf,p.XM,p.VF,p.VY,p.Ws,p.VZ,p.b4,p.b5,p.b6,p.b7,p.b8,p.b9,p.b10,p.b11,p.b12,p.b13,p.vW,p.wW,p.cZ,p.kh,p.zd,p.kl,p.lz,p.lg,p.lm,p.qd,p.qj,p.qi,p.nS,p.lC,p.lu,p.vK,p.vQ,p.vM,p.vT,p.vA,p.vJ,p.vh,p.Yb,p.X8,p.Zm,p.Yy,p.X4,p.Yr,p.Y_,p.Yn,p.Y5,p.Yu,p.X6,p.Ze,p.Yt,p.Ys,p.Zf,p.Yo,p.X3,p.Yd,p.Y9,p.Ya,p.YK,p.YW,p.YE,p.Yh,p.Yx,p.Zd,p.Yc,p.YP,p.Mq,p.Mn,p.Gl,p.Zj,p.YB,p.Yf,p.YM,p.Zh,p.Y6,p.YR,p.Y3,p.Zl,p.Zo,p.YN,p.YQ,p.X1,p.X_,p.YG⟩ 0))) (.more (.c0 ⟨p.Gl,(A.l p.Gl),p.Xw,p.VV,p.Wk,p.Wh,p.Wo,p.WO,p.Xn,p.Xf,p.XM,p.VF,p.VY,p.Ws,p.VZ⟩ 0))
 | .c2 p c3=>.br (A.c .lss c3 p.c2) (.need (A.and (A.c .leq 0 c3) (A.c .lss c3 (A.l p.c1))) (.br (A.c .neq (A.n (.struct [yI,yI,(.struct [yI,yB])]) p.c1 c3:Int×Int×(Int×List Int)).1 2) (.more (.c2 p (A.b .add .i64 c3 1))) (.need (A.k (@tt ((Int×List Int)×(Int×Int×Int×Int×Int))) ((A.n (.struct [yI,yI,(.struct [yI,yB])]) p.c1 c3:Int×Int×(Int×List Int)).2.2,p.c8,p.c9,p.c10,p.c11,p.c12)) (.br (A.k Ad ((A.n (.struct [yI,yI,(.struct [yI,yB])]) p.c1 c3:Int×Int×(Int×List Int)).2.2,p.c8,p.c9,p.c10,p.c11,p.c12)).2 (.ret ((3,p.c0,c3,(A.k Ad ((A.n (.struct [yI,yI,(.struct [yI,yB])]) p.c1 c3:Int×Int×(Int×List Int)).2.2,p.c8,p.c9,p.c10,p.c11,p.c12)).1,(A.n (.struct [yI,yI,(.struct [yI,yB])]) p.c1 c3:Int×Int×(Int×List Int)).2.1),0)) (.more (.c2 p (A.b .add .i64 c3 1))))))) (.more (.c1 ⟨p.c4,p.c5,p.c6,(A.b .add .i64 p.c7 1),p.UM,p.UK,p.c28,p.UQ,p.za,p.c31,p.c32,p.US,p.c34,p.UL,p.UR,p.c37,p.UT,p.UP,p.c40,p.YI,p.Yp,p.YU,p.X7,p.YY,p.c46,p.X5,p.Y1,p.c49,p.YL,p.c51,p.YD,p.c53,p.YX,p.YS,p.Zn,p.Y0,p.YZ,p.c59,p.YH,p.Yl,p.Zc,p.Ym,p.c64,p.Y4,p.Y8,p.X2,p.Yg,p.YT,p.c70,p.YA,p.c72,p.Za,p.Y7,p.c75,p.c76,p.Yw,p.Yj,p.Yk,p.c80,p.YJ,p.Zb,p.Y2,p.Zg,p.c85,p.UU,p.c87,p.VA,p.c13,p.c14,p.iQ,p.c16,p.C8,p.ES,p.c19,p.c20,p.c21,p.IN,p.c23,p.c24,p.UI,p.Yz,p.Yq,p.c91,p.X9,p.c93,p.YF,p.Yi,p.Yv,p.YC,p.Ye,p.YO,p.Pb,p.R7,p.P4,p.RQ,p.c8,p.c9,p.c10,p.c11,p.c12⟩))
def jl(c:Int×Int×Int×Int×Int)(w:Int):Nat→List (Int×Int×(Int×List Int))→Option (Int×Int×Int×(Int×Int×(Int×Int×Int×Int×Int)×Int×List Int)×Int)
 | _, []=>none
 | k,s::l=>bif s.1==2&&(qD (s.2.2,c)).2 then some (3,w,(k:Int),(qD (s.2.2,c)).1,s.2.1) else jl c w (k+1) l
def jV(t p m n:Int)(seen:List (Int×Int×(Int×List Int))):Nat→List Int→Option (Int×Int×Int×(Int×Int×(Int×Int×Int×Int×Int)×Int×List Int)×Int)
 | _, []=>none
 | i,v::l=>match jl (t,p,m,n,v) (i:Int) 0 seen with
   | some o=>some o
   | none=>jV t p m n seen (i+1) l
def IU:Int×Int×Int×(Int×Int×(Int×Int×Int×Int×Int)×Int×List Int)×Int:=(0,0,0,c_,0)
def kJ(seen:List (Int×Int×(Int×List Int))):Int×Int×Int×(Int×Int×(Int×Int×Int×Int×Int)×Int×List Int)×Int:=bif seen.any fun s=>s.1 != 0 then(2,0,0,c_,0) else(1,0,0,c_,0)
def sw(t p m n:Int)(seen:List (Int×Int×(Int×List Int)))(i:Nat)(vs:List Int):(Int×Int×Int×(Int×Int×(Int×Int×Int×Int×Int)×Int×List Int)×Int)×Int:=
 match jV t p m n seen i vs with
 | some o=>(o,0)
 | none=>(kJ seen,0)
def K4(x:(Int×Int×Int×Int×Int×Int×Int)×Int):List Int:=(fJ x).1.take (fJ x).2.toNat
def jy:(Int×Int×Int×Int×Int)×(Int×Int×Int×Int×Int×Int×Int)×Int×List (Int×Int×(Int×List Int))→(Int×Int×Int×(Int×Int×(Int×Int×Int×Int×Int)×Int×List Int)×Int)×Int:=fun((t,p,m,n,s),v,sender,seen)=>
 bif iH v != 0||jZ ((t,p,m,n,s),v.2.1) != 0 then(IU,170)
 else bif decide (sender<0)||decide (v.2.1≤sender)||sender==v.1||seen.length != 2 then(IU,2)
 else sw t p m n seen 0 (K4 (v,sender))
theorem FP{x:(Int×Int×Int×Int×Int×Int×Int)×Int}:(fJ x).1.length=2:=by
 obtain⟨⟨a,b,c,d,e,f,g⟩,s⟩:=x
 exact LT.i_ (p:=fun y:List Int×Int=>y.1.length=2) rfl (by simp[t78,LT.all])
theorem yW{l:List (Int×Int×(Int×List Int))}{i:Nat}(h:i<l.length):(ai.n (.struct [(.int .i64),(.int .i64),(.struct [(.int .i64),(.slice (.int .u8))])]) l (i:Int):Int×Int×(Int×List Int))=l[i]:=getD_in h _
theorem Ge{seen:List (Int×Int×(Int×List Int))}(hl:seen.length≤140737488355328):∀(j i:Nat) (p:Jz),p.a0=seen→p.a1=(seen.length:Int)→seen.length-i=j→i≤seen.length→(seen.take i).any (fun s=>s.1 != 0)=false→aK (Cz ai) (.more (.c0 p (i:Int))) (kJ seen,0):=by
 intro j
 induction j with
 | zero=>
   intro i p h0 h1 hj hi ha
   have:i=seen.length:=by omega
   subst this
   rw[List.take_length] at ha
   rw[ap,Cz]
   refine(aj (by rw[h1,aT];simp)).2 ?_
   rw[kJ,ha]
   exact .ret _
 | succ j ih=>
   intro i p h0 h1 hj hi ha
   have hi':i<seen.length:=by omega
   rw[ap,Cz]
   refine(ak (by rw[h1,aT];simp;omega)).2 (af.2 ⟨by rw[h0];exact cB hi',?_⟩)
   have hn:(ai.n (.struct [(.int .i64),(.int .i64),(.struct [(.int .i64),(.slice (.int .u8))])]) p.a0 (i:Int):Int×Int×(Int×List Int)).1=seen[i].1:=congrArg (fun z=>z.1) ((congrArg (fun z=>(ai.n (.struct [(.int .i64),(.int .i64),(.struct [(.int .i64),(.slice (.int .u8))])]) z (i:Int):Int×Int×(Int×List Int))) h0).trans (yW hi'))
   have htk:=List.take_succ_eq_append_getElem hi'
   by_cases hk:seen[i].1=0
   ·refine(aj (cH (hn.trans hk))).2 ?_
    refine bD (congrArg LT.more (congrArg (IR.c0 p) (fe (by omega)))) (ih (i+1) p h0 h1 (by omega) (by omega) ?_)
    rw[htk,List.any_append,ha]
    simp[hk]
   ·refine(ak (fx (fun h=>hk (hn.symm.trans h)))).2 ((ak (by rw[aS];simp)).2 ?_)
    have:seen.any (fun s=>s.1 != 0)=true:=List.any_eq_true.2 ⟨seen[i],List.getElem_mem hi',by simpa using hk⟩
    rw[kJ,this]
    exact .ret _
def I1(p:A_)(seen:List (Int×Int×(Int×List Int)))(vs:List Int)(cnt i t po m n:Int):Prop:=p.b0=0∧p.b1=cnt∧p.b2=cnt∧p.b3=i∧p.Gl=seen∧ [p.Mq,p.Mn]=vs∧p.Xe=t∧p.Vg=po∧p.V0=m∧p.W5=n
def I2(p:FT)(seen:List (Int×Int×(Int×List Int)))(vs:List Int)(cnt i t po m n v:Int):Prop:=p.c0=i∧p.c1=seen∧p.c2=(seen.length:Int)∧p.c4=0∧p.c5=cnt∧p.c6=cnt∧p.c7=i∧p.VA=seen∧ [p.UU,p.c87]=vs∧p.c8=t∧p.c9=po∧p.c10=m∧p.c11=n∧p.c12=v
theorem Gf{seen:List (Int×Int×(Int×List Int))}{vs:List Int}{cnt t po m n v:Int}{i:Nat}(hi:i<4)(hl:seen.length≤140737488355328){R:(Int×Int×Int×(Int×Int×(Int×Int×Int×Int×Int)×Int×List Int)×Int)×Int}(hnext:∀p':A_,I1 p' seen vs cnt ((i+1:Nat):Int) t po m n→aK (Cz ai) (.more (.c1 p')) R) :
  ∀(j k:Nat) (p:FT),I2 p seen vs cnt (i:Int) t po m n v→seen.length-k=j→k≤seen.length→aK (Cz ai) (.more (.c2 p (k:Int))) (match jl (t,po,m,n,v) (i:Int) k (seen.drop k) with|some o=>(o,0)|none=>R):=by
 intro j
 induction j with
 | zero=>
   intro k p hI hj hk
   have:k=seen.length:=by omega
   subst this
   obtain⟨h0,h1,h2,h4,h5,h6,h7,h88,hv,h8,h9,h10,h11,h12⟩:=hI
   rw[ap,Cz]
   refine(aj (by rw[h2,aT];simp)).2 ?_
   rw[List.drop_length]
   exact hnext _ ⟨h4,h5,h6,by show ai.b .add .i64 p.c7 1=_;rw[h7,fe (by omega)],h88,hv,h8,h9,h10,h11⟩
 | succ j ih=>
   intro k p hI hj hk
   have hk':k<seen.length:=by omega
   have hm:=ih (k+1) p hI (by omega) (by omega)
   obtain⟨h0,h1,h2,h4,h5,h6,h7,h88,hv,h8,h9,h10,h11,h12⟩:=hI
   rw[ap,Cz]
   have hn:(ai.n (.struct [(.int .i64),(.int .i64),(.struct [(.int .i64),(.slice (.int .u8))])]) p.c1 (k:Int):Int×Int×(Int×List Int))=seen[k]:=(congrArg (fun z=>(ai.n (.struct [(.int .i64),(.int .i64),(.struct [(.int .i64),(.slice (.int .u8))])]) z (k:Int):Int×Int×(Int×List Int))) h1).trans (yW hk')
   have hd:seen.drop k=seen[k]::seen.drop (k+1):=List.drop_eq_getElem_cons hk'
   have hg:ai.k Ad ((ai.n (.struct [(.int .i64),(.int .i64),(.struct [(.int .i64),(.slice (.int .u8))])]) p.c1 (k:Int):Int×Int×(Int×List Int)).2.2,p.c8,p.c9,p.c10,p.c11,p.c12)=qD (seen[k].2.2,(t,po,m,n,v)):=by
    refine(congrArg (fun z:Int×Int×(Int×List Int)=>Ad (z.2.2,p.c8,p.c9,p.c10,p.c11,p.c12)) hn).trans ?_
    rw[h8,h9,h10,h11,h12]
    exact H7
   refine(ak (by rw[h2,aT];simp;omega)).2 (af.2 ⟨by rw[h1];exact cB hk',?_⟩)
   rw[hd,jl]
   by_cases hkd:seen[k].1=2
   ·refine(aj (cH ((congrArg (fun z=>z.1) hn).trans hkd))).2 (af.2 ⟨rfl,?_⟩)
    rw[show(seen[k].1==2)=true from by simpa using hkd,Bool.true_and]
    cases hgd:(qD (seen[k].2.2,(t,po,m,n,v))).2
    ·refine(aj ((congrArg (fun z=>z.2) hg).trans hgd)).2 ?_
     exact bD (congrArg LT.more (congrArg (IR.c2 p) (fe (by omega)))) hm
    ·refine(ak ((congrArg (fun z=>z.2) hg).trans hgd)).2 ?_
     have e:=congr (congr (congrArg (fun(x:Int) (y:Int×Int×(Int×Int×Int×Int×Int)×Int×List Int) (z:Int)=>(LT.ret (((3:Int),x,(k:Int),y,z),(0:Int)):LT ((Int×Int×Int×(Int×Int×(Int×Int×Int×Int×Int)×Int×List Int)×Int)×Int) IR)) h0) (congrArg (fun z=>z.1) hg)) (congrArg (fun z=>z.2.1) hn)
     exact bD e (.ret _)
   ·refine(ak (fx (fun h=>hkd ((congrArg (fun z=>z.1) hn).symm.trans h)))).2 ?_
    rw[show(seen[k].1==2)=false from by simpa using hkd,Bool.false_and]
    exact bD (congrArg LT.more (congrArg (IR.c2 p) (fe (by omega)))) hm
theorem GN{seen:List (Int×Int×(Int×List Int))}{vs:List Int}{cnt:Nat}{t po m n:Int}(hl:seen.length≤140737488355328)(hv2:vs.length=2)(hc:cnt≤2):∀(j i:Nat) (p:A_),I1 p seen vs (cnt:Int) (i:Int) t po m n→cnt-i=j→i≤cnt→aK (Cz ai) (.more (.c1 p)) (sw t po m n seen i ((vs.take cnt).drop i)):=by
 intro j
 induction j with
 | zero=>
   intro i p hI hj hi
   have:i=cnt:=by omega
   subst this
   obtain⟨h0,h1,h2,h3,h66,hv,h95,h96,h97,h98⟩:=hI
   rw[ap,Cz]
   refine(aj (by rw[h2,h3,aT];simp)).2 ?_
   rw[List.drop_of_length_le (by rw[List.length_take];omega)]
   exact Ge hl seen.length 0 _ h66 (by show ai.l p.Gl=_;rw[h66];rfl) rfl (by omega) rfl
 | succ j ih=>
   intro i p hI hj hi
   obtain⟨h0,h1,h2,h3,h66,hv,h95,h96,h97,h98⟩:=hI
   have hiv:i<(vs.take cnt).length:=by rw[List.length_take];omega
   rw[ap,Cz]
   refine(ak (by rw[h2,h3,aT];simp;omega)).2 (af.2 ⟨by rw[h1,h3,iD,aT,aM];simp;omega,?_⟩)
   have hnv:(ai.n (.int .i64) [p.Mq,p.Mn] (ai.b .add .i64 p.b0 p.b3):Int)=(vs.take cnt)[i]:=by
    have e:ai.b .add .i64 p.b0 p.b3=(i:Int):=by rw[h0,h3,bq,gW (by omega) (by omega)];omega
    refine((congrArg (fun z=>(ai.n (.int .i64) [p.Mq,p.Mn] z:Int)) e).trans ((congrArg (fun z=>(ai.n (.int .i64) z (i:Int):Int)) hv).trans (getD_in (l:=vs) (by omega) _))).trans ?_
    rw[List.getElem_take]
   have hm:=Gf (seen:=seen) (vs:=vs) (cnt:=(cnt:Int)) (t:=t) (po:=po) (m:=m) (n:=n) (v:=(vs.take cnt)[i]) (i:=i) (by omega) hl (R:=sw t po m n seen (i+1) ((vs.take cnt).drop (i+1))) (fun p' hp'=>ih (i+1) p' hp' (by omega) (by omega)) seen.length 0
   refine aI ?_ (hm _ ⟨h3,h66,?_,h0,h1,h2,h3,h66,hv,h95,h96,h97,h98,hnv⟩ rfl (by omega))
   rotate_left
   ·show ai.l p.Gl=_;rw[h66];rfl
   rw[sw,sw,List.drop_eq_getElem_cons hiv,jV,List.drop_zero]
   cases jl (t,po,m,n,(vs.take cnt)[i]) (i:Int) 0 seen<;>rfl
theorem FK{t po m n s a b c d e f g sender:Int}{seen:List (Int×Int×(Int×List Int))}(h:Ty.dM [(.struct [(.int .i64),(.int .i64),(.int .i64),(.int .i64),(.int .i64)]),(.struct [(.int .i64),(.int .i64),(.int .i64),(.int .i64),(.int .i64),(.int .i64),(.int .i64)]),(.int .i64),(.slice (.struct [(.int .i64),(.int .i64),(.struct [(.int .i64),(.slice (.int .u8))])]))] ((t,po,m,n,s),(a,b,c,d,e,f,g),sender,seen)):seen.length≤140737488355328:=h.2.2.2.1
theorem Nu{t po m n s a b c d e f g sender:Int}{seen:List (Int×Int×(Int×List Int))}(h:Ty.dM [(.struct [(.int .i64),(.int .i64),(.int .i64),(.int .i64),(.int .i64)]),(.struct [(.int .i64),(.int .i64),(.int .i64),(.int .i64),(.int .i64),(.int .i64),(.int .i64)]),(.int .i64),(.slice (.struct [(.int .i64),(.int .i64),(.struct [(.int .i64),(.slice (.int .u8))])]))] ((t,po,m,n,s),(a,b,c,d,e,f,g),sender,seen)) :
  aK (Cz ai) (t43 ai t po m n s a b c d e f g sender seen) (jy ((t,po,m,n,s),(a,b,c,d,e,f,g),sender,seen)):=by
 have hl:=FK h
 unfold t43
 rw[jy]
 refine af.2 ⟨rfl,?_⟩
 by_cases h1:(iH (a,b,c,d,e,f,g) != 0)=true
 ·rw[h1]
  exact(ak h1).2 (.ret _)
 rw[Bool.not_eq_true] at h1
 rw[h1]
 refine(aj h1).2 (af.2 ⟨rfl,?_⟩)
 rw[Bool.false_or]
 by_cases h2:(jZ ((t,po,m,n,s),b) != 0)=true
 ·rw[h2]
  exact(ak h2).2 (.ret _)
 rw[Bool.not_eq_true] at h2
 rw[h2]
 refine(aj h2).2 ?_
 rw[cond_false]
 have hz:iH (a,b,c,d,e,f,g)=0:=by simpa using h1
 have hok:=ft.1 hz
 unfold gS at hok
 by_cases h3:sender<0
 ·refine(ak (by rw[ar];simpa using h3)).2 ?_
  rw[show decide (sender<0)=true from by simpa using h3]
  exact .ret _
 refine(aj (by rw[ar];simpa using h3)).2 ?_
 by_cases h4:b≤sender
 ·refine(ak (by rw[aS];simpa using h4)).2 ?_
  rw[show decide (b≤sender)=true from by simpa using h4,Bool.or_true]
  exact .ret _
 refine(aj (by rw[aS];simpa using h4)).2 ?_
 by_cases h5:sender=a
 ·refine(ak (ng h5)).2 ?_
  rw[show(sender==a)=true from by simpa using h5,Bool.or_true]
  exact .ret _
 refine(aj (AS h5)).2 ?_
 by_cases h6:¬seen.length=2
 ·refine(ak (fx (show(seen.length:Int)≠2 by omega))).2 ?_
  rw[show(seen.length != 2)=true from by simpa using h6,Bool.or_true]
  exact .ret _
 rw[Decidable.not_not] at h6
 refine(aj (cH (show(seen.length:Int)=2 by omega))).2 (af.2 ⟨rfl,(aj h1).2 (af.2 ⟨rfl,?_⟩)⟩)
 rw[show decide (sender<0)=false from by simpa using h3,show decide (b≤sender)=false from by simpa using h4,show(sender==a)=false from by simpa using h5,show(seen.length != 2)=false from by simpa using h6]
 have h77:uI ((a,b,c,d,e,f,g),sender)=true:=(mo (by omega) (by omega)).2 ⟨by omega,by omega,by omega⟩
 have hq:=y8 (x:=((a,b,c,d,e,f,g),sender))
 have hq2:=FP (x:=((a,b,c,d,e,f,g),sender))
 refine(aj (show ai.not (ai.k uI ((a,b,c,d,e,f,g),sender))=false by rw[bg,al,h77];rfl)).2 (af.2 ⟨by rw[al];simp[v8];omega,af.2 ⟨?_,?_⟩⟩)
 ·rw[al,aM,aM,ay,ay,ay];simp;omega
 ·obtain⟨cnt,hcnt⟩:=Int.eq_ofNat_of_zero_le hq.1
  show aK (Cz ai) _ (sw t po m n seen 0 (K4 ((a,b,c,d,e,f,g),sender)))
  rw[K4,hcnt,Int.toNat_natCast]
  have hs:ai.b .sub .i64 (ai.k fJ ((a,b,c,d,e,f,g),sender)).2 0=(cnt:Int):=by
   rw[al,hcnt,bl,gW (by omega) (by omega)];omega
  refine GN (vs:=(fJ ((a,b,c,d,e,f,g),sender)).1) hl hq2 (by omega) cnt 0 _ ⟨rfl,hs,hs,rfl,rfl,?_,rfl,rfl,rfl,rfl⟩ (by omega) (by omega)
  show[(fJ ((a,b,c,d,e,f,g),sender)).1.getD 0 0,(fJ ((a,b,c,d,e,f,g),sender)).1.getD 1 0]=_
  match (fJ ((a,b,c,d,e,f,g),sender)).1,hq2 with
  | [_,_],_=>rfl
def JG:((Int×Int×Int×Int×Int)×(Int×Int×Int×Int×Int×Int×Int)×Int×List (Int×Int×(Int×List Int)))→((Int×Int×Int×(Int×Int×(Int×Int×Int×Int×Int)×Int×List Int)×Int)×Int):=jy
def Wl:aG:=⟨[(.struct [yI,yI,yI,yI,yI]),(.struct [yI,yI,yI,yI,yI,yI,yI]),yI,(.slice (.struct [yI,yI,(.struct [yI,yB])]))], [(.struct [yI,yI,yI,(.struct [yI,yI,(.struct [yI,yI,yI,yI,yI]),yI,yB]),yI]),yI],(@tt ((Int×Int×Int×Int×Int)×(Int×Int×Int×Int×Int×Int×Int)×Int×List (Int×Int×(Int×List Int)))),JG⟩
theorem Vd:Sd 49 Wl:=aQ aA dY true 122 [⟨49,10, [[4,8,9,10,56,57,58], [0,24,25,26], [7,8,9]]⟩,⟨176,3, [[0,24,25,26], [7,8,9]]⟩,⟨180,2, [[0,1,7,8], [], [8,9]]⟩] [] (fun A ((cTime,cPos,cMode,cNext,cMember),(vId,vN,vSet,vAcc,vFail,vStage,vFirst),sender,seen)=>t43 A cTime cPos cMode cNext cMember vId vN vSet vAcc vFail vStage vFirst sender seen) Cz Pg (fc Tryz.func49 (fc Tryz.func102 (fc Tryz.func104 (fc Tryz.func105 (fc Tryz.func176 (fc Tryz.func180 fz)))))) (sc zl (sc WL (sc Kc (sc O3 (sc xP sz))))) (fun A y=>match y with |.c0 p a2=>⟨62,by kernel_rfl,by kernel_rfl⟩|.c1 p=>⟨52,by kernel_rfl,by kernel_rfl⟩|.c2 p c3=>⟨68,by kernel_rfl,by kernel_rfl⟩) fun((cTime,cPos,cMode,cNext,cMember),(vId,vN,vSet,vAcc,vFail,vStage,vFirst),sender,seen) hp h=>Nu h
open Go.Ev.Pl
def t61(A:bK)(vId:Int)(vN:Int)(vSet:Int)(vAcc:Int)(vFail:Int)(vStage:Int)(vFirst:Int)(sender:Int)(oKind:Int)(oWhich:Int)(oChan:Int)(oFKind:Int)(oFReq:Int)(oFCTime:Int)(oFCPos:Int)(oFCMode:Int)(oFCNext:Int)(oFCMember:Int)(oFFrom:Int)(oFData:List Int)(oAt:Int):LT ((Int×Int×Int×Int×Int×Int×Int)×Int) Empty:=.br (A.c .eql oKind 1) (.need (A.k (@tt ((Int×Int×Int×Int×Int×Int×Int)×Int)) ((vId,vN,vSet,vAcc,vFail,vStage,vFirst),sender)) (.ret (A.k ki ((vId,vN,vSet,vAcc,vFail,vStage,vFirst),sender)))) (.br (A.c .eql oKind 2) (.need (A.k (@tt ((Int×Int×Int×Int×Int×Int×Int)×Int)) ((vId,vN,vSet,vAcc,vFail,vStage,vFirst),sender)) (.ret (A.k EW ((vId,vN,vSet,vAcc,vFail,vStage,vFirst),sender)))) (.br (A.c .eql oKind 3) (.need (A.k (@tt ((Int×Int×Int×Int×Int×Int×Int)×Int×Int)) ((vId,vN,vSet,vAcc,vFail,vStage,vFirst),sender,oWhich)) (.ret (A.k kC ((vId,vN,vSet,vAcc,vFail,vStage,vFirst),sender,oWhich)))) (.ret ((0,0,0,0,0,0,0),2))))
def gQ:((Int×Int×Int×Int×Int×Int×Int)×Int×(Int×Int×Int×(Int×Int×(Int×Int×Int×Int×Int)×Int×List Int)×Int))→((Int×Int×Int×Int×Int×Int×Int)×Int):=fun((vId,vN,vSet,vAcc,vFail,vStage,vFirst),sender,oKind,oWhich,oChan,(oFKind,oFReq,(oFCTime,oFCPos,oFCMode,oFCNext,oFCMember),oFFrom,oFData),oAt)=>(t61 ai vId vN vSet vAcc vFail vStage vFirst sender oKind oWhich oChan oFKind oFReq oFCTime oFCPos oFCMode oFCNext oFCMember oFFrom oFData oAt).val (Ty.cq [(.struct [yI,yI,yI,yI,yI,yI,yI]),yI])
def U_:aG:=⟨[(.struct [yI,yI,yI,yI,yI,yI,yI]),yI,(.struct [yI,yI,yI,(.struct [yI,yI,(.struct [yI,yI,yI,yI,yI]),yI,yB]),yI])], [(.struct [yI,yI,yI,yI,yI,yI,yI]),yI],(@tt ((Int×Int×Int×Int×Int×Int×Int)×Int×(Int×Int×Int×(Int×Int×(Int×Int×Int×Int×Int)×Int×List Int)×Int))),gQ⟩
theorem Vf:Sd 51 U_:=aO aA dY true 50 [] (fun A ((vId,vN,vSet,vAcc,vFail,vStage,vFirst),sender,oKind,oWhich,oChan,(oFKind,oFReq,(oFCTime,oFCPos,oFCMode,oFCNext,oFCMember),oFFrom,oFData),oAt)=>t61 A vId vN vSet vAcc vFail vStage vFirst sender oKind oWhich oChan oFKind oFReq oFCTime oFCPos oFCMode oFCNext oFCMember oFFrom oFData oAt) (fc Tryz.func51 fz) (sc V7 (sc Oh (sc WZ sz))) (fun(((vId,vN,vSet,vAcc,vFail,vStage,vFirst),sender,oKind,oWhich,oChan,(oFKind,oFReq,(oFCTime,oFCPos,oFCMode,oFCNext,oFCMember),oFFrom,oFData),oAt):(Int×Int×Int×Int×Int×Int×Int)×Int×(Int×Int×Int×(Int×Int×(Int×Int×Int×Int×Int)×Int×List Int)×Int)) hp h=>by
 show(t61 ai vId vN vSet vAcc vFail vStage vFirst sender oKind oWhich oChan oFKind oFReq oFCTime oFCPos oFCMode oFCNext oFCMember oFFrom oFData oAt).pre=true
 simp[t61,LT.pre,al,dh])
end Go.Ev.M
