/-
  PROVED: what judge.Slot and judge.Apply compute. Conditions: none.
-/
import Derived.Test.YteldjjjcdpnnbaaGreatFc
import Derived.Test.YteldjjjcdpnnbaaGreatMb
namespace Go.Ev.M
open Go.Proofs
set_option maxRecDepth 100000
set_option linter.unusedVariables false
set_option linter.unusedSimpArgs false
open Go.Ev.Pl
structure O6 where
 (a0:List (Int×Int×(Int×List Int))) (a1 a3 a4 a5 a6 a7 a8 a9 bH dP a12 jw iv rG:Int)
structure Fu where
 (b0 b1 b2 b3 b4 b5 b6 b7 b8 b9 b10 b11 b12 b13 z_ Bj dL:Int) (im:List (Int×Int×(Int×List Int))) (tH:Bool) (lI mT lZ mU sj sQ rV qc:Int) (mV mQ:Bool) (zx zD zw zt zR z8 zg:Int) (b36 b37 b38:Bool) (b39:Int) (b40 b41:Bool) (b42 b43:Int) (b44 b45 b46:Bool) (b47 b48:Int) (b49 b50 b51:Bool) (b52:List (Int×Int×(Int×List Int))) (b53:Int) (b54 b55:Bool) (b56 b57 b58 b59 b60 b61 b62 b63 TH TN:Int) (Mf:List (Int×Int×(Int×List Int))) (b67 b68 b69 b70 b71 b72 b73 b74 b75 b76 b77 b78 b79 b80 b81 b82 b83 b84 b85 b86 b87 b88 b89 b90 b91 b92 b93 b94 b95 b96 b97 b98 b99:Int)
structure Km where
 (c0:Int) (c1:List (Int×Int×(Int×List Int))) (c2 c4 c5 c6 c7 c8 c9 c10 c11 c12 c13 c14 lX c16 xK JF c19 c20 c21 OG c23 c24 c25 c26 c27 c28 c29 DC c31 c32 c33 c34 c35 c36 c37 c38:Int) (c39:List (Int×Int×(Int×List Int))) (c40:Bool) (c41 c42 c43 c44 c45 c46 c47 c48:Int) (c49 c50:Bool) (c51 c52 c53 c54 c55 c56 c57:Int) (c58 c59 c60:Bool) (c61:Int) (c62 c63:Bool) (c64 c65:Int) (c66 c67 c68:Bool) (c69 c70:Int) (c71 c72 c73:Bool) (c74:List (Int×Int×(Int×List Int))) (c75:Int) (c76 c77:Bool) (c78 c79 c80 c81 c82 c83 c84 c85 c86 c87:Int) (c88:List (Int×Int×(Int×List Int))) (c89 c90 c91 c92 c93 c94 c95 c96 c97 c98 c99 Yc WU Yu Zp:Int)
inductive Ov where
 | c0 (p:O6) (a2:Int)
 | c1 (p:Fu)
 | c2 (p:Km) (c3:Int)
noncomputable def Un:Ov→gB
 | .c0 p a2=>⟨[⟨207,19,(en [(0,.sl (.struct [yI,yI,(.struct [yI,yB])]) p.a0),(1,.fn 161 [] []),(7,vi p.a1),(8,vi a2)]),[.inLoop (cw Tryz.f207 [1,0,1,0,0]),.inBlock 0,.code (cw Tryz.f207 [1,1])],[],none⟩,⟨160,9,.leaf,[.ops (ow Tryz.f160 [1,0]) ((ow Tryz.f160 [1,0]).toList.drop 2),.code .ret],[],none⟩,⟨98,85,(en [(8,.ptr 0 0),(9,.ptr 1 0)]),[.ops (ow Tryz.f98 [1,1,1,0,0]) ((ow Tryz.f98 [1,1,1,0,0]).toList.drop 1),.code (cw Tryz.f98 [1,1,1,0,1]),.code (cw Tryz.f98 [1,1,1,1])],[2],none⟩],[.flat false [vi p.a3,vi p.a4,vi p.a5,vi p.a6,vi p.a7,vi p.a8,vi p.a9,vi p.bH,vi p.dP,vi p.a12,vi p.jw,.bK true,vi p.iv],.flat false [vi p.rG],.BV,.dead]⟩
 | .c1 p=>⟨[⟨203,37,(en [(0,.yield 0),(24,.lm 1 1 false p.b0 p.b1),(25,vi p.b2),(26,vi p.b3)]),[.inLoop (cw Tryz.f203 [1,1,1,0,0]),.inBlock 0],[],none⟩,⟨98,85,(en [(7,.ptr 2 0),(8,.ptr 3 0),(9,.ptr 4 0)]),[.jf 0,.inBlock 1,.code (cw Tryz.f98 [1,1,1])],[5],none⟩],[.loop ⟨98,85,(en [(0,.agg [vi p.b4,vi p.b5,vi p.b6,vi p.b7,vi p.b8]),(1,.agg [vi p.b9,vi p.b10,vi p.b11,vi p.b12,vi p.b13,vi p.z_,vi p.Bj]),(2,vi p.dL),(3,.sl (.struct [yI,yI,(.struct [yI,yB])]) p.im),(4,.ptr 9 0),(5,.ptr 6 0),(7,.ptr 2 0),(8,.ptr 3 0),(9,.ptr 4 0),(16,vb p.tH),(17,.agg [vi p.lI,vi p.mT,vi p.lZ,vi p.mU,vi p.sj,vi p.sQ,vi p.rV]),(18,vi p.qc),(19,vb p.mV),(20,vb p.mQ),(21,.agg [vi p.zx,vi p.zD,vi p.zw,vi p.zt,vi p.zR]),(22,.ptr 6 1),(23,vi p.z8),(24,vi p.zg),(25,vb p.b36),(26,vb p.b37),(28,vb p.b38),(29,vi p.b39),(30,vb p.b40),(31,vb p.b41),(32,vi p.b42),(33,.ptr 6 1),(34,vi p.b43),(35,vb p.b44),(36,vb p.b45),(37,vb p.b46),(38,vi p.b47),(39,.ptr 6 0),(40,vi p.b48),(41,vb p.b49),(42,vb p.b50),(43,vb p.b51),(44,.sl (.struct [yI,yI,(.struct [yI,yB])]) p.b52),(45,vi p.b53),(46,vb p.b54),(47,vb p.b55),(49,.agg [vi p.b56,vi p.b57,vi p.b58,vi p.b59,vi p.b60,vi p.b61,vi p.b62]),(50,vi p.b63),(51,.fn 203 [] [.ptr 7 0,.ptr 8 0])]),[52,53],(cw Tryz.f98 [1,1,0,1,0,0]),(cw Tryz.f98 [1,1,0,1,0,1]),0,none⟩,.flat false [vi p.TH,vi p.TN],.flat false [.sl (.struct [yI,yI,(.struct [yI,yB])]) p.Mf],.flat false [vi p.b67,vi p.b68,vi p.b69,vi p.b70,vi p.b71,vi p.b72,vi p.b73,vi p.b74,vi p.b75,vi p.b76,vi p.b77,.bK true,vi p.b78],.flat false [vi p.b79],.BV,.flat false [vi p.b80,vi p.b81,vi p.b82,vi p.b83,vi p.b84,vi p.b85,vi p.b86],.flat false [vi p.b87,vi p.b88,vi p.b89,vi p.b90,vi p.b91,vi p.b92,vi p.b93],.flat false [vi p.b94],.flat false [vi p.b95,vi p.b96,vi p.b97,vi p.b98,vi p.b99],.dead]⟩
 | .c2 p c3=>⟨[⟨98,85,(en [(4,.ptr 0 0),(8,.ptr 1 0),(9,.ptr 2 0),(10,vi p.c0),(56,.sl (.struct [yI,yI,(.struct [yI,yB])]) p.c1),(57,vi p.c2),(58,vi c3)]),[.inLoop (cw Tryz.f98 [1,1,0,1,0,1,0,1,1,0,0]),.inBlock 3,.inBlock 2],[],some 3⟩,⟨203,37,(en [(0,.yield 3),(24,.lm 4 1 false p.c4 p.c5),(25,vi p.c6),(26,vi p.c7)]),[.ops (ow Tryz.f203 [1,1,1,0,0,1,1,0,0,1,0]) ((ow Tryz.f203 [1,1,1,0,0,1,1,0,0,1,0]).toList.drop 3),.code (cw Tryz.f203 [1,1,1,0,0,1,1,0,0,1,1]),.inBlock 1,.code (cw Tryz.f203 [1,1,1,0,0,1,1,1]),.inLoop (cw Tryz.f203 [1,1,1,0,0]),.inBlock 0],[],none⟩,⟨98,85,(en [(7,.ptr 5 0),(8,.ptr 1 0),(9,.ptr 2 0)]),[.jf 3,.inBlock 1,.code (cw Tryz.f98 [1,1,1])],[6],none⟩],[.flat false [vi p.c8,vi p.c9,vi p.c10,vi p.c11,vi p.c12],.flat false [vi p.c13,vi p.c14,vi p.lX,vi p.c16,vi p.xK,vi p.JF,vi p.c19,vi p.c20,vi p.c21,vi p.OG,vi p.c23,.bK true,vi p.c24],.flat false [vi p.c25],.loop ⟨98,85,(en [(0,.agg [vi p.c26,vi p.c27,vi p.c28,vi p.c29,vi p.DC]),(1,.agg [vi p.c31,vi p.c32,vi p.c33,vi p.c34,vi p.c35,vi p.c36,vi p.c37]),(2,vi p.c38),(3,.sl (.struct [yI,yI,(.struct [yI,yB])]) p.c39),(4,.ptr 0 0),(5,.ptr 7 0),(7,.ptr 5 0),(8,.ptr 1 0),(9,.ptr 2 0),(16,vb p.c40),(17,.agg [vi p.c41,vi p.c42,vi p.c43,vi p.c44,vi p.c45,vi p.c46,vi p.c47]),(18,vi p.c48),(19,vb p.c49),(20,vb p.c50),(21,.agg [vi p.c51,vi p.c52,vi p.c53,vi p.c54,vi p.c55]),(22,.ptr 7 1),(23,vi p.c56),(24,vi p.c57),(25,vb p.c58),(26,vb p.c59),(28,vb p.c60),(29,vi p.c61),(30,vb p.c62),(31,vb p.c63),(32,vi p.c64),(33,.ptr 7 1),(34,vi p.c65),(35,vb p.c66),(36,vb p.c67),(37,vb p.c68),(38,vi p.c69),(39,.ptr 7 0),(40,vi p.c70),(41,vb p.c71),(42,vb p.c72),(43,vb p.c73),(44,.sl (.struct [yI,yI,(.struct [yI,yB])]) p.c74),(45,vi p.c75),(46,vb p.c76),(47,vb p.c77),(49,.agg [vi p.c78,vi p.c79,vi p.c80,vi p.c81,vi p.c82,vi p.c83,vi p.c84]),(50,vi p.c85),(51,.fn 203 [] [.ptr 8 0,.ptr 9 0])]),[52,53],(cw Tryz.f98 [1,1,0,1,0,0]),(cw Tryz.f98 [1,1,0,1,0,1]),1,none⟩,.flat false [vi p.c86,vi p.c87],.flat false [.sl (.struct [yI,yI,(.struct [yI,yB])]) p.c88],.BV,.flat false [vi p.c89,vi p.c90,vi p.c91,vi p.c92,vi p.c93,vi p.c94,vi p.c95],.flat false [vi p.c96,vi p.c97,vi p.c98,vi p.c99,vi p.Yc,vi p.WU,vi p.Yu],.flat false [vi p.Zp],.dead]⟩
def t43(A:bi)(cTime:Int)(cPos:Int)(cMode:Int)(cNext:Int)(cMember:Int)(vId:Int)(vN:Int)(vSet:Int)(vAcc:Int)(vFail:Int)(vStage:Int)(vFirst:Int)(sender:Int)(seen:List (Int×Int×(Int×List Int))):LT ((Int×Int×Int×(Int×Int×(Int×Int×Int×Int×Int)×Int×List Int)×Int)×Int) Ov:=.need (A.k (@tt ((Int×Int×Int×Int×Int×Int×Int))) (vId,vN,vSet,vAcc,vFail,vStage,vFirst)) (.br (A.c .neq (A.k iB (vId,vN,vSet,vAcc,vFail,vStage,vFirst)) 0) (.ret ((0,0,0,(0,0,(0,0,0,0,0),0,([]:List Int)),0),170)) (.need (A.k (@tt ((Int×Int×Int×Int×Int)×Int)) ((cTime,cPos,cMode,cNext,cMember),vN)) (.br (A.c .neq (A.k jH ((cTime,cPos,cMode,cNext,cMember),vN)) 0) (.ret ((0,0,0,(0,0,(0,0,0,0,0),0,([]:List Int)),0),170)) (.br (A.c .lss sender 0) (.ret ((0,0,0,(0,0,(0,0,0,0,0),0,([]:List Int)),0),2)) (.br (A.c .geq sender vN) (.ret ((0,0,0,(0,0,(0,0,0,0,0),0,([]:List Int)),0),2)) (.br (A.c .eql sender vId) (.ret ((0,0,0,(0,0,(0,0,0,0,0),0,([]:List Int)),0),2)) (.br (A.c .neq (A.l seen) 2) (.ret ((0,0,0,(0,0,(0,0,0,0,0),0,([]:List Int)),0),2)) (.need (A.k (@tt ((Int×Int×Int×Int×Int×Int×Int))) (vId,vN,vSet,vAcc,vFail,vStage,vFirst)) (.br (A.c .neq (A.k iB (vId,vN,vSet,vAcc,vFail,vStage,vFirst)) 0) (.more (.c0 ⟨seen,(A.l seen),0,0,0,0,0,0,0,0,0,0,0,0,0⟩ 0)) (.need (A.k (@tt ((Int×Int×Int×Int×Int×Int×Int)×Int)) ((vId,vN,vSet,vAcc,vFail,vStage,vFirst),sender)) (.br (A.not (A.k xS ((vId,vN,vSet,vAcc,vFail,vStage,vFirst),sender))) (.more (.c0 ⟨seen,(A.l seen),0,0,0,0,0,0,0,0,0,0,0,0,0⟩ 0)) (.need (A.k zh ((vId,vN,vSet,vAcc,vFail,vStage,vFirst),sender)) (.need (A.and (A.c .leq 0 0) (A.and (A.c .leq 0 (A.k gE ((vId,vN,vSet,vAcc,vFail,vStage,vFirst),sender)).2) (A.c .leq (A.k gE ((vId,vN,vSet,vAcc,vFail,vStage,vFirst),sender)).2 2))) (.more (.c1 ⟨(A.b .add .i64 0 0),(A.b .sub .i64 (A.k gE ((vId,vN,vSet,vAcc,vFail,vStage,vFirst),sender)).2 0),(A.b .sub .i64 (A.k gE ((vId,vN,vSet,vAcc,vFail,vStage,vFirst),sender)).2 0),0,cTime,cPos,cMode,cNext,cMember,vId,vN,vSet,vAcc,vFail,vStage,vFirst,sender,seen,(A.c .neq (A.k jH ((cTime,cPos,cMode,cNext,cMember),vN)) 0),vId,vN,vSet,vAcc,vFail,vStage,vFirst,(A.k iB (vId,vN,vSet,vAcc,vFail,vStage,vFirst)),(A.c .neq (A.k iB (vId,vN,vSet,vAcc,vFail,vStage,vFirst)) 0),false,cTime,cPos,cMode,cNext,cMember,vN,(A.k jH ((cTime,cPos,cMode,cNext,cMember),vN)),(A.c .neq (A.k jH ((cTime,cPos,cMode,cNext,cMember),vN)) 0),(A.c .neq (A.k jH ((cTime,cPos,cMode,cNext,cMember),vN)) 0),(A.c .neq (A.l seen) 2),sender,(A.c .lss sender 0),false,sender,vN,(A.c .geq sender vN),(A.c .geq sender vN),false,sender,vId,(A.c .eql sender vId),(A.c .eql sender vId),false,seen,(A.l seen),(A.c .neq (A.l seen) 2),(A.c .neq (A.l seen) 2),vId,vN,vSet,vAcc,vFail,vStage,vFirst,sender,(A.n yI (A.k gE ((vId,vN,vSet,vAcc,vFail,vStage,vFirst),sender)).1 0:Int),(A.n yI (A.k gE ((vId,vN,vSet,vAcc,vFail,vStage,vFirst),sender)).1 1:Int),seen,0,0,0,0,0,0,0,0,0,0,0,0,0,vId,vN,vSet,vAcc,vFail,vStage,vFirst,vId,vN,vSet,vAcc,vFail,vStage,vFirst,sender,cTime,cPos,cMode,cNext,cMember⟩)))))))))))))))
def Hq(A:bi):Ov→LT ((Int×Int×Int×(Int×Int×(Int×Int×Int×Int×Int)×Int×List Int)×Int)×Int) Ov
 | .c0 p a2=>.br (A.c .lss a2 p.a1) (.need (A.and (A.c .leq 0 a2) (A.c .lss a2 (A.l p.a0))) (.br (A.c .neq (A.n (.struct [yI,yI,(.struct [yI,yB])]) p.a0 a2:Int×Int×(Int×List Int)).1 0) (.br (A.c .geq a2 0) (.ret ((2,0,0,(0,0,(0,0,0,0,0),0,([]:List Int)),0),0)) (.ret ((1,0,0,(0,0,(0,0,0,0,0),0,([]:List Int)),0),0))) (.more (.c0 p (A.b .add .i64 a2 1))))) (.ret ((1,0,0,(0,0,(0,0,0,0,0),0,([]:List Int)),0),0))
 | .c1 p=>.br (A.c .lss p.b3 p.b2) (.need (A.and (A.c .leq 0 p.b3) (A.c .lss p.b3 p.b1)) (.more (.c2 ⟨p.b3,p.Mf,(A.l p.Mf),p.b0,p.b1,p.b2,p.b3,p.b95,p.b96,p.b97,p.b98,(A.n yI [p.TH,p.TN] (A.b .add .i64 p.b0 p.b3):Int),p.b67,p.b68,p.b69,p.b70,p.b71,p.b72,p.b73,p.b74,p.b75,p.b76,p.b77,p.b78,p.b79,p.b4,p.b5,p.b6,p.b7,p.b8,p.b9,p.b10,p.b11,p.b12,p.b13,p.z_,p.Bj,p.dL,p.im,p.tH,p.lI,p.mT,p.lZ,p.mU,p.sj,p.sQ,p.rV,p.qc,p.mV,p.mQ,p.zx,p.zD,p.zw,p.zt,p.zR,p.z8,p.zg,p.b36,p.b37,p.b38,p.b39,p.b40,p.b41,p.b42,p.b43,p.b44,p.b45,p.b46,p.b47,p.b48,p.b49,p.b50,p.b51,p.b52,p.b53,p.b54,p.b55,p.b56,p.b57,p.b58,p.b59,p.b60,p.b61,p.b62,p.b63,p.TH,p.TN,p.Mf,p.b80,p.b81,p.b82,p.b83,p.b84,p.b85,p.b86,p.b87,p.b88,p.b89,p.b90,p.b91,p.b92,p.b93,p.b94⟩ 0))) (.more (.c0 ⟨p.Mf,(A.l p.Mf),p.b67,p.b68,p.b69,p.b70,p.b71,p.b72,p.b73,p.b74,p.b75,p.b76,p.b77,p.b78,p.b79⟩ 0))
 | .c2 p c3=>.br (A.c .lss c3 p.c2) (.need (A.and (A.c .leq 0 c3) (A.c .lss c3 (A.l p.c1))) (.br (A.c .neq (A.n (.struct [yI,yI,(.struct [yI,yB])]) p.c1 c3:Int×Int×(Int×List Int)).1 2) (.more (.c2 p (A.b .add .i64 c3 1))) (.need (A.k (@tt ((Int×List Int)×(Int×Int×Int×Int×Int))) ((A.n (.struct [yI,yI,(.struct [yI,yB])]) p.c1 c3:Int×Int×(Int×List Int)).2.2,p.c8,p.c9,p.c10,p.c11,p.c12)) (.br (A.k EA ((A.n (.struct [yI,yI,(.struct [yI,yB])]) p.c1 c3:Int×Int×(Int×List Int)).2.2,p.c8,p.c9,p.c10,p.c11,p.c12)).2 (.ret ((3,p.c0,c3,(A.k EA ((A.n (.struct [yI,yI,(.struct [yI,yB])]) p.c1 c3:Int×Int×(Int×List Int)).2.2,p.c8,p.c9,p.c10,p.c11,p.c12)).1,(A.n (.struct [yI,yI,(.struct [yI,yB])]) p.c1 c3:Int×Int×(Int×List Int)).2.1),0)) (.more (.c2 p (A.b .add .i64 c3 1))))))) (.more (.c1 ⟨p.c4,p.c5,p.c6,(A.b .add .i64 p.c7 1),p.c26,p.c27,p.c28,p.c29,p.DC,p.c31,p.c32,p.c33,p.c34,p.c35,p.c36,p.c37,p.c38,p.c39,p.c40,p.c41,p.c42,p.c43,p.c44,p.c45,p.c46,p.c47,p.c48,p.c49,p.c50,p.c51,p.c52,p.c53,p.c54,p.c55,p.c56,p.c57,p.c58,p.c59,p.c60,p.c61,p.c62,p.c63,p.c64,p.c65,p.c66,p.c67,p.c68,p.c69,p.c70,p.c71,p.c72,p.c73,p.c74,p.c75,p.c76,p.c77,p.c78,p.c79,p.c80,p.c81,p.c82,p.c83,p.c84,p.c85,p.c86,p.c87,p.c88,p.c13,p.c14,p.lX,p.c16,p.xK,p.JF,p.c19,p.c20,p.c21,p.OG,p.c23,p.c24,p.c25,p.c89,p.c90,p.c91,p.c92,p.c93,p.c94,p.c95,p.c96,p.c97,p.c98,p.c99,p.Yc,p.WU,p.Yu,p.Zp,p.c8,p.c9,p.c10,p.c11,p.c12⟩))
def ja(c:Int×Int×Int×Int×Int)(w:Int):Nat→List (Int×Int×(Int×List Int))→Option (Int×Int×Int×(Int×Int×(Int×Int×Int×Int×Int)×Int×List Int)×Int)
 | _, []=>none
 | k,s::l=>bif s.1==2&&(o8 (s.2.2,c)).2 then some (3,w,(k:Int),(o8 (s.2.2,c)).1,s.2.1) else ja c w (k+1) l
def jX(t p m n:Int)(seen:List (Int×Int×(Int×List Int))):Nat→List Int→Option (Int×Int×Int×(Int×Int×(Int×Int×Int×Int×Int)×Int×List Int)×Int)
 | _, []=>none
 | i,v::l=>match ja (t,p,m,n,v) (i:Int) 0 seen with
   | some o=>some o
   | none=>jX t p m n seen (i+1) l
def Pf:Int×Int×Int×(Int×Int×(Int×Int×Int×Int×Int)×Int×List Int)×Int:=(0,0,0,dz,0)
def l6(seen:List (Int×Int×(Int×List Int))):Int×Int×Int×(Int×Int×(Int×Int×Int×Int×Int)×Int×List Int)×Int:=bif seen.any fun s=>s.1 != 0 then(2,0,0,dz,0) else(1,0,0,dz,0)
def rh(t p m n:Int)(seen:List (Int×Int×(Int×List Int)))(i:Nat)(vs:List Int):(Int×Int×Int×(Int×Int×(Int×Int×Int×Int×Int)×Int×List Int)×Int)×Int:=
 match jX t p m n seen i vs with
 | some o=>(o,0)
 | none=>(l6 seen,0)
def MW(x:(Int×Int×Int×Int×Int×Int×Int)×Int):List Int:=(gE x).1.take (gE x).2.toNat
def gX:(Int×Int×Int×Int×Int)×(Int×Int×Int×Int×Int×Int×Int)×Int×List (Int×Int×(Int×List Int))→(Int×Int×Int×(Int×Int×(Int×Int×Int×Int×Int)×Int×List Int)×Int)×Int:=fun((t,p,m,n,s),v,sender,seen)=>
 bif iB v != 0||gm ((t,p,m,n,s),v.2.1) != 0 then(Pf,170)
 else bif decide (sender<0)||decide (v.2.1≤sender)||sender==v.1||seen.length != 2 then(Pf,2)
 else rh t p m n seen 0 (MW (v,sender))
theorem La{x:(Int×Int×Int×Int×Int×Int×Int)×Int}:(gE x).1.length=2:=by
 obtain⟨⟨a,b,c,d,e,f,g⟩,s⟩:=x
 exact LT.jY (p:=fun y:List Int×Int=>y.1.length=2) rfl (by simp[t78,LT.all])
theorem Ci{l:List (Int×Int×(Int×List Int))}{i:Nat}(h:i<l.length):(aj.n (.struct [(.int .i64),(.int .i64),(.struct [(.int .i64),(.slice (.int .u8))])]) l (i:Int):Int×Int×(Int×List Int))=l[i]:=getD_in h _
theorem M7{seen:List (Int×Int×(Int×List Int))}(hl:seen.length≤140737488355328):∀(j i:Nat) (p:O6),p.a0=seen→p.a1=(seen.length:Int)→seen.length-i=j→i≤seen.length→(seen.take i).any (fun s=>s.1 != 0)=false→aA (Hq aj) (.more (.c0 p (i:Int))) (l6 seen,0):=by
 intro j
 induction j with
 | zero=>
   intro i p h0 h1 hj hi ha
   have:i=seen.length:=by omega
   subst this
   rw[List.take_length] at ha
   rw[al,Hq]
   refine(ah (by rw[h1,aO];simp)).2 ?_
   rw[l6,ha]
   exact .ret _
 | succ j ih=>
   intro i p h0 h1 hj hi ha
   have hi':i<seen.length:=by omega
   rw[al,Hq]
   refine(ai (by rw[h1,aO];simp;omega)).2 (af.2 ⟨by rw[h0];exact bT hi',?_⟩)
   have hn:(aj.n (.struct [(.int .i64),(.int .i64),(.struct [(.int .i64),(.slice (.int .u8))])]) p.a0 (i:Int):Int×Int×(Int×List Int)).1=seen[i].1:=congrArg (fun z=>z.1) ((congrArg (fun z=>(aj.n (.struct [(.int .i64),(.int .i64),(.struct [(.int .i64),(.slice (.int .u8))])]) z (i:Int):Int×Int×(Int×List Int))) h0).trans (Ci hi'))
   have htk:=List.take_succ_eq_append_getElem hi'
   by_cases hk:seen[i].1=0
   ·refine(ah (dw (hn.trans hk))).2 ?_
    refine bl (congrArg LT.more (congrArg (Ov.c0 p) (eu (by omega)))) (ih (i+1) p h0 h1 (by omega) (by omega) ?_)
    rw[htk,List.any_append,ha]
    simp[hk]
   ·refine(ai (fL (fun h=>hk (hn.symm.trans h)))).2 ((ai (by rw[aN];simp)).2 ?_)
    have:seen.any (fun s=>s.1 != 0)=true:=List.any_eq_true.2 ⟨seen[i],List.getElem_mem hi',by simpa using hk⟩
    rw[l6,this]
    exact .ret _
def I1(p:Fu)(seen:List (Int×Int×(Int×List Int)))(vs:List Int)(cnt i t po m n:Int):Prop:=p.b0=0∧p.b1=cnt∧p.b2=cnt∧p.b3=i∧p.Mf=seen∧ [p.TH,p.TN]=vs∧p.b95=t∧p.b96=po∧p.b97=m∧p.b98=n
def I2(p:Km)(seen:List (Int×Int×(Int×List Int)))(vs:List Int)(cnt i t po m n v:Int):Prop:=p.c0=i∧p.c1=seen∧p.c2=(seen.length:Int)∧p.c4=0∧p.c5=cnt∧p.c6=cnt∧p.c7=i∧p.c88=seen∧ [p.c86,p.c87]=vs∧p.c8=t∧p.c9=po∧p.c10=m∧p.c11=n∧p.c12=v
theorem Mq{seen:List (Int×Int×(Int×List Int))}{vs:List Int}{cnt t po m n v:Int}{i:Nat}(hi:i<4)(hl:seen.length≤140737488355328){R:(Int×Int×Int×(Int×Int×(Int×Int×Int×Int×Int)×Int×List Int)×Int)×Int}(hnext:∀p':Fu,I1 p' seen vs cnt ((i+1:Nat):Int) t po m n→aA (Hq aj) (.more (.c1 p')) R) :
  ∀(j k:Nat) (p:Km),I2 p seen vs cnt (i:Int) t po m n v→seen.length-k=j→k≤seen.length→aA (Hq aj) (.more (.c2 p (k:Int))) (match ja (t,po,m,n,v) (i:Int) k (seen.drop k) with|some o=>(o,0)|none=>R):=by
 intro j
 induction j with
 | zero=>
   intro k p hI hj hk
   have:k=seen.length:=by omega
   subst this
   obtain⟨h0,h1,h2,h4,h5,h6,h7,h88,hv,h8,h9,h10,h11,h12⟩:=hI
   rw[al,Hq]
   refine(ah (by rw[h2,aO];simp)).2 ?_
   rw[List.drop_length]
   exact hnext _ ⟨h4,h5,h6,by show aj.b .add .i64 p.c7 1=_;rw[h7,eu (by omega)],h88,hv,h8,h9,h10,h11⟩
 | succ j ih=>
   intro k p hI hj hk
   have hk':k<seen.length:=by omega
   have hm:=ih (k+1) p hI (by omega) (by omega)
   obtain⟨h0,h1,h2,h4,h5,h6,h7,h88,hv,h8,h9,h10,h11,h12⟩:=hI
   rw[al,Hq]
   have hn:(aj.n (.struct [(.int .i64),(.int .i64),(.struct [(.int .i64),(.slice (.int .u8))])]) p.c1 (k:Int):Int×Int×(Int×List Int))=seen[k]:=(congrArg (fun z=>(aj.n (.struct [(.int .i64),(.int .i64),(.struct [(.int .i64),(.slice (.int .u8))])]) z (k:Int):Int×Int×(Int×List Int))) h1).trans (Ci hk')
   have hd:seen.drop k=seen[k]::seen.drop (k+1):=List.drop_eq_getElem_cons hk'
   have hg:aj.k EA ((aj.n (.struct [(.int .i64),(.int .i64),(.struct [(.int .i64),(.slice (.int .u8))])]) p.c1 (k:Int):Int×Int×(Int×List Int)).2.2,p.c8,p.c9,p.c10,p.c11,p.c12)=o8 (seen[k].2.2,(t,po,m,n,v)):=by
    refine(congrArg (fun z:Int×Int×(Int×List Int)=>EA (z.2.2,p.c8,p.c9,p.c10,p.c11,p.c12)) hn).trans ?_
    rw[h8,h9,h10,h11,h12]
    exact NS
   refine(ai (by rw[h2,aO];simp;omega)).2 (af.2 ⟨by rw[h1];exact bT hk',?_⟩)
   rw[hd,ja]
   by_cases hkd:seen[k].1=2
   ·refine(ah (dw ((congrArg (fun z=>z.1) hn).trans hkd))).2 (af.2 ⟨rfl,?_⟩)
    rw[show(seen[k].1==2)=true from by simpa using hkd,Bool.true_and]
    cases hgd:(o8 (seen[k].2.2,(t,po,m,n,v))).2
    ·refine(ah ((congrArg (fun z=>z.2) hg).trans hgd)).2 ?_
     exact bl (congrArg LT.more (congrArg (Ov.c2 p) (eu (by omega)))) hm
    ·refine(ai ((congrArg (fun z=>z.2) hg).trans hgd)).2 ?_
     have e:=congr (congr (congrArg (fun(x:Int) (y:Int×Int×(Int×Int×Int×Int×Int)×Int×List Int) (z:Int)=>(LT.ret (((3:Int),x,(k:Int),y,z),(0:Int)):LT ((Int×Int×Int×(Int×Int×(Int×Int×Int×Int×Int)×Int×List Int)×Int)×Int) Ov)) h0) (congrArg (fun z=>z.1) hg)) (congrArg (fun z=>z.2.1) hn)
     exact bl e (.ret _)
   ·refine(ai (fL (fun h=>hkd ((congrArg (fun z=>z.1) hn).symm.trans h)))).2 ?_
    rw[show(seen[k].1==2)=false from by simpa using hkd,Bool.false_and]
    exact bl (congrArg LT.more (congrArg (Ov.c2 p) (eu (by omega)))) hm
theorem Ma{seen:List (Int×Int×(Int×List Int))}{vs:List Int}{cnt:Nat}{t po m n:Int}(hl:seen.length≤140737488355328)(hv2:vs.length=2)(hc:cnt≤2):∀(j i:Nat) (p:Fu),I1 p seen vs (cnt:Int) (i:Int) t po m n→cnt-i=j→i≤cnt→aA (Hq aj) (.more (.c1 p)) (rh t po m n seen i ((vs.take cnt).drop i)):=by
 intro j
 induction j with
 | zero=>
   intro i p hI hj hi
   have:i=cnt:=by omega
   subst this
   obtain⟨h0,h1,h2,h3,h66,hv,h95,h96,h97,h98⟩:=hI
   rw[al,Hq]
   refine(ah (by rw[h2,h3,aO];simp)).2 ?_
   rw[List.drop_of_length_le (by rw[List.length_take];omega)]
   exact M7 hl seen.length 0 _ h66 (by show aj.l p.Mf=_;rw[h66];rfl) rfl (by omega) rfl
 | succ j ih=>
   intro i p hI hj hi
   obtain⟨h0,h1,h2,h3,h66,hv,h95,h96,h97,h98⟩:=hI
   have hiv:i<(vs.take cnt).length:=by rw[List.length_take];omega
   rw[al,Hq]
   refine(ai (by rw[h2,h3,aO];simp;omega)).2 (af.2 ⟨by rw[h1,h3,gZ,aO,aR];simp;omega,?_⟩)
   have hnv:(aj.n (.int .i64) [p.TH,p.TN] (aj.b .add .i64 p.b0 p.b3):Int)=(vs.take cnt)[i]:=by
    have e:aj.b .add .i64 p.b0 p.b3=(i:Int):=by rw[h0,h3,bw,fI (by omega) (by omega)];omega
    refine((congrArg (fun z=>(aj.n (.int .i64) [p.TH,p.TN] z:Int)) e).trans ((congrArg (fun z=>(aj.n (.int .i64) z (i:Int):Int)) hv).trans (getD_in (l:=vs) (by omega) _))).trans ?_
    rw[List.getElem_take]
   have hm:=Mq (seen:=seen) (vs:=vs) (cnt:=(cnt:Int)) (t:=t) (po:=po) (m:=m) (n:=n) (v:=(vs.take cnt)[i]) (i:=i) (by omega) hl (R:=rh t po m n seen (i+1) ((vs.take cnt).drop (i+1))) (fun p' hp'=>ih (i+1) p' hp' (by omega) (by omega)) seen.length 0
   refine ay ?_ (hm _ ⟨h3,h66,?_,h0,h1,h2,h3,h66,hv,h95,h96,h97,h98,hnv⟩ rfl (by omega))
   rotate_left
   ·show aj.l p.Mf=_;rw[h66];rfl
   rw[rh,rh,List.drop_eq_getElem_cons hiv,jX,List.drop_zero]
   cases ja (t,po,m,n,(vs.take cnt)[i]) (i:Int) 0 seen<;>rfl
theorem Ls{t po m n s a b c d e f g sender:Int}{seen:List (Int×Int×(Int×List Int))}(h:Ty.dK [(.struct [(.int .i64),(.int .i64),(.int .i64),(.int .i64),(.int .i64)]),(.struct [(.int .i64),(.int .i64),(.int .i64),(.int .i64),(.int .i64),(.int .i64),(.int .i64)]),(.int .i64),(.slice (.struct [(.int .i64),(.int .i64),(.struct [(.int .i64),(.slice (.int .u8))])]))] ((t,po,m,n,s),(a,b,c,d,e,f,g),sender,seen)):seen.length≤140737488355328:=h.2.2.2.1
theorem aax{t po m n s a b c d e f g sender:Int}{seen:List (Int×Int×(Int×List Int))}(h:Ty.dK [(.struct [(.int .i64),(.int .i64),(.int .i64),(.int .i64),(.int .i64)]),(.struct [(.int .i64),(.int .i64),(.int .i64),(.int .i64),(.int .i64),(.int .i64),(.int .i64)]),(.int .i64),(.slice (.struct [(.int .i64),(.int .i64),(.struct [(.int .i64),(.slice (.int .u8))])]))] ((t,po,m,n,s),(a,b,c,d,e,f,g),sender,seen)) :
  aA (Hq aj) (t43 aj t po m n s a b c d e f g sender seen) (gX ((t,po,m,n,s),(a,b,c,d,e,f,g),sender,seen)):=by
 have hl:=Ls h
 unfold t43
 rw[gX]
 refine af.2 ⟨rfl,?_⟩
 by_cases h1:(iB (a,b,c,d,e,f,g) != 0)=true
 ·rw[h1]
  exact(ai h1).2 (.ret _)
 rw[Bool.not_eq_true] at h1
 rw[h1]
 refine(ah h1).2 (af.2 ⟨rfl,?_⟩)
 rw[Bool.false_or]
 by_cases h2:(gm ((t,po,m,n,s),b) != 0)=true
 ·rw[h2]
  exact(ai h2).2 (.ret _)
 rw[Bool.not_eq_true] at h2
 rw[h2]
 refine(ah h2).2 ?_
 rw[cond_false]
 have hz:iB (a,b,c,d,e,f,g)=0:=by simpa using h1
 have hok:=dJ.1 hz
 unfold gP at hok
 by_cases h3:sender<0
 ·refine(ai (by rw[ar];simpa using h3)).2 ?_
  rw[show decide (sender<0)=true from by simpa using h3]
  exact .ret _
 refine(ah (by rw[ar];simpa using h3)).2 ?_
 by_cases h4:b≤sender
 ·refine(ai (by rw[aN];simpa using h4)).2 ?_
  rw[show decide (b≤sender)=true from by simpa using h4,Bool.or_true]
  exact .ret _
 refine(ah (by rw[aN];simpa using h4)).2 ?_
 by_cases h5:sender=a
 ·refine(ai (qo h5)).2 ?_
  rw[show(sender==a)=true from by simpa using h5,Bool.or_true]
  exact .ret _
 refine(ah (FD h5)).2 ?_
 by_cases h6:¬seen.length=2
 ·refine(ai (fL (show(seen.length:Int)≠2 by omega))).2 ?_
  rw[show(seen.length != 2)=true from by simpa using h6,Bool.or_true]
  exact .ret _
 rw[Decidable.not_not] at h6
 refine(ah (dw (show(seen.length:Int)=2 by omega))).2 (af.2 ⟨rfl,(ah h1).2 (af.2 ⟨rfl,?_⟩)⟩)
 rw[show decide (sender<0)=false from by simpa using h3,show decide (b≤sender)=false from by simpa using h4,show(sender==a)=false from by simpa using h5,show(seen.length != 2)=false from by simpa using h6]
 have h77:xS ((a,b,c,d,e,f,g),sender)=true:=(nT (by omega) (by omega)).2 ⟨by omega,by omega,by omega⟩
 have hq:=Dr (x:=((a,b,c,d,e,f,g),sender))
 have hq2:=La (x:=((a,b,c,d,e,f,g),sender))
 refine(ah (show aj.not (aj.k xS ((a,b,c,d,e,f,g),sender))=false by rw[bD,ap,h77];rfl)).2 (af.2 ⟨by rw[ap];simp[zh];omega,af.2 ⟨?_,?_⟩⟩)
 ·rw[ap,aR,aR,aB,aB,aB];simp;omega
 ·obtain⟨cnt,hcnt⟩:=Int.eq_ofNat_of_zero_le hq.1
  show aA (Hq aj) _ (rh t po m n seen 0 (MW ((a,b,c,d,e,f,g),sender)))
  rw[MW,hcnt,Int.toNat_natCast]
  have hs:aj.b .sub .i64 (aj.k gE ((a,b,c,d,e,f,g),sender)).2 0=(cnt:Int):=by
   rw[ap,hcnt,aZ,fI (by omega) (by omega)];omega
  refine Ma (vs:=(gE ((a,b,c,d,e,f,g),sender)).1) hl hq2 (by omega) cnt 0 _ ⟨rfl,hs,hs,rfl,rfl,?_,rfl,rfl,rfl,rfl⟩ (by omega) (by omega)
  show[(gE ((a,b,c,d,e,f,g),sender)).1.getD 0 0,(gE ((a,b,c,d,e,f,g),sender)).1.getD 1 0]=_
  match (gE ((a,b,c,d,e,f,g),sender)).1,hq2 with
  | [_,_],_=>rfl
def ky:((Int×Int×Int×Int×Int)×(Int×Int×Int×Int×Int×Int×Int)×Int×List (Int×Int×(Int×List Int)))→((Int×Int×Int×(Int×Int×(Int×Int×Int×Int×Int)×Int×List Int)×Int)×Int):=gX
def acw:aD:=⟨[(.struct [yI,yI,yI,yI,yI]),(.struct [yI,yI,yI,yI,yI,yI,yI]),yI,(.slice (.struct [yI,yI,(.struct [yI,yB])]))], [(.struct [yI,yI,yI,(.struct [yI,yI,(.struct [yI,yI,yI,yI,yI]),yI,yB]),yI]),yI],(@tt ((Int×Int×Int×Int×Int)×(Int×Int×Int×Int×Int×Int×Int)×Int×List (Int×Int×(Int×List Int)))),ky⟩
theorem XF:Sd 98 acw:=aL au cK true 122 [⟨98,10, [[4,8,9,10,56,57,58], [0,24,25,26], [7,8,9]]⟩,⟨203,3, [[0,24,25,26], [7,8,9]]⟩,⟨207,2, [[0,1,7,8], [], [8,9]]⟩] [] (fun A ((cTime,cPos,cMode,cNext,cMember),(vId,vN,vSet,vAcc,vFail,vStage,vFirst),sender,seen)=>t43 A cTime cPos cMode cNext cMember vId vN vSet vAcc vFail vStage vFirst sender seen) Hq Un (fc Tryz.func98 (fc Tryz.func158 (fc Tryz.func160 (fc Tryz.func161 (fc Tryz.func203 (fc Tryz.func207 fz)))))) (sc Db (sc aaP (sc Sy (sc Uj (sc xA sz))))) (fun A y=>match y with |.c0 p a2=>⟨62,by kernel_rfl,by kernel_rfl⟩|.c1 p=>⟨52,by kernel_rfl,by kernel_rfl⟩|.c2 p c3=>⟨68,by kernel_rfl,by kernel_rfl⟩) fun((cTime,cPos,cMode,cNext,cMember),(vId,vN,vSet,vAcc,vFail,vStage,vFirst),sender,seen) hp h=>aax h
open Go.Ev.Pl
def t61(A:bi)(vId:Int)(vN:Int)(vSet:Int)(vAcc:Int)(vFail:Int)(vStage:Int)(vFirst:Int)(sender:Int)(oKind:Int)(oWhich:Int)(oChan:Int)(oFKind:Int)(oFReq:Int)(oFCTime:Int)(oFCPos:Int)(oFCMode:Int)(oFCNext:Int)(oFCMember:Int)(oFFrom:Int)(oFData:List Int)(oAt:Int):LT ((Int×Int×Int×Int×Int×Int×Int)×Int) Empty:=.br (A.c .eql oKind 1) (.need (A.k (@tt ((Int×Int×Int×Int×Int×Int×Int)×Int)) ((vId,vN,vSet,vAcc,vFail,vStage,vFirst),sender)) (.ret (A.k lv ((vId,vN,vSet,vAcc,vFail,vStage,vFirst),sender)))) (.br (A.c .eql oKind 2) (.need (A.k (@tt ((Int×Int×Int×Int×Int×Int×Int)×Int)) ((vId,vN,vSet,vAcc,vFail,vStage,vFirst),sender)) (.ret (A.k KU ((vId,vN,vSet,vAcc,vFail,vStage,vFirst),sender)))) (.br (A.c .eql oKind 3) (.need (A.k (@tt ((Int×Int×Int×Int×Int×Int×Int)×Int×Int)) ((vId,vN,vSet,vAcc,vFail,vStage,vFirst),sender,oWhich)) (.ret (A.k lz ((vId,vN,vSet,vAcc,vFail,vStage,vFirst),sender,oWhich)))) (.ret ((0,0,0,0,0,0,0),2))))
def dU:((Int×Int×Int×Int×Int×Int×Int)×Int×(Int×Int×Int×(Int×Int×(Int×Int×Int×Int×Int)×Int×List Int)×Int))→((Int×Int×Int×Int×Int×Int×Int)×Int):=fun((vId,vN,vSet,vAcc,vFail,vStage,vFirst),sender,oKind,oWhich,oChan,(oFKind,oFReq,(oFCTime,oFCPos,oFCMode,oFCNext,oFCMember),oFFrom,oFData),oAt)=>(t61 aj vId vN vSet vAcc vFail vStage vFirst sender oKind oWhich oChan oFKind oFReq oFCTime oFCPos oFCMode oFCNext oFCMember oFFrom oFData oAt).val (Ty.bZ [(.struct [yI,yI,yI,yI,yI,yI,yI]),yI])
def acV:aD:=⟨[(.struct [yI,yI,yI,yI,yI,yI,yI]),yI,(.struct [yI,yI,yI,(.struct [yI,yI,(.struct [yI,yI,yI,yI,yI]),yI,yB]),yI])], [(.struct [yI,yI,yI,yI,yI,yI,yI]),yI],(@tt ((Int×Int×Int×Int×Int×Int×Int)×Int×(Int×Int×Int×(Int×Int×(Int×Int×Int×Int×Int)×Int×List Int)×Int))),dU⟩
theorem U5:Sd 100 acV:=aM au cK true 50 [] (fun A ((vId,vN,vSet,vAcc,vFail,vStage,vFirst),sender,oKind,oWhich,oChan,(oFKind,oFReq,(oFCTime,oFCPos,oFCMode,oFCNext,oFCMember),oFFrom,oFData),oAt)=>t61 A vId vN vSet vAcc vFail vStage vFirst sender oKind oWhich oChan oFKind oFReq oFCTime oFCPos oFCMode oFCNext oFCMember oFFrom oFData oAt) (fc Tryz.func100 fz) (sc ac_ (sc Va (sc acr sz))) (fun(((vId,vN,vSet,vAcc,vFail,vStage,vFirst),sender,oKind,oWhich,oChan,(oFKind,oFReq,(oFCTime,oFCPos,oFCMode,oFCNext,oFCMember),oFFrom,oFData),oAt):(Int×Int×Int×Int×Int×Int×Int)×Int×(Int×Int×Int×(Int×Int×(Int×Int×Int×Int×Int)×Int×List Int)×Int)) hp h=>by
 show(t61 aj vId vN vSet vAcc vFail vStage vFirst sender oKind oWhich oChan oFKind oFReq oFCTime oFCPos oFCMode oFCNext oFCMember oFFrom oFData oAt).pre=true
 simp[t61,LT.pre,ap,cN])
end Go.Ev.M
