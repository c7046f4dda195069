/-
  PROVED: what judge.Slot and judge.Apply compute. Conditions: none.
-/
import Derived.Test.YteldjjjcdpnnbaaFc
import Derived.Test.YteldjjjcdpnnbaaMb
namespace Go.Ev.M
open Go.Proofs
set_option maxRecDepth 100000
set_option linter.unusedVariables false
set_option linter.unusedSimpArgs false
open Go.Ev.Pl
structure Fo where
 (a0:List (Int×Int×(Int×List Int))) (a1 a3 a4 a5 a6 a7 a8 a9 lu mg a12 sU lf lz:Int)
structure y2 where
 (b0 b1 b2 b3 b4 b5 b6 b7 b8 b9 b10 b11 b12 b13 wz xw yu:Int) (yA:List (Int×Int×(Int×List Int))) (sO:Bool) (ij i6 iN je lN lM ob my:Int) (jR jU:Bool) (pF pN pj tY ui tN tL:Int) (Ou Np NM:Bool) (NL:Int) (N4 Nv:Bool) (Ow N8:Int) (Oh Oq Ol:Bool) (OA On:Int) (Ox Od No:Bool) (Oi:List (Int×Int×(Int×List Int))) (Nw:Int) (Of NW:Bool) (Oo Og Oz NF N7 N9 NC N5 H8 H9:Int) (D8:List (Int×Int×(Int×List Int))) (MP Kw LS Md KT KN Mq LK M5 LL MU L0 Li NO NB Nx NA NR NJ N3 NI N1 N2 Nl OC OE Nn OG My MY Mz MK OS:Int)
structure Dg where
 (c0:Int) (c1:List (Int×Int×(Int×List Int))) (c2 c4 c5 c6 c7 c8 c9 c10 c11 c12 c13 c14 gY c16 CB v_ c19 c20 c21 zP c23 c24 Kp DU DV c28 Ka xA c31 c32 Kj c34 Ki Kf c37 Kh:Int) (Km:List (Int×Int×(Int×List Int))) (c40:Bool) (NV OF Ni Oe Nz c46 Nj Ot:Int) (c49 Nk:Bool) (c51 Ng c53 ND NY NZ N6:Int) (NT c59 Ov:Bool) (Ns:Int) (Oa Nq:Bool) (c64 OB:Int) (Nu Nr Om:Bool) (Oy c70:Int) (N_ c72 Ny:Bool) (NS:List (Int×Int×(Int×List Int))) (c75:Int) (c76 Nh:Bool) (Nt NK c80 NG OJ OI NU c85 K2 c87:Int) (K9:List (Int×Int×(Int×List Int))) (NP Oj c91 OH c93 N0 NN OD NQ NE Oc IK I4 Ip JG:Int)
inductive Fp where
 | c0 (p:Fo) (a2:Int)
 | c1 (p:y2)
 | c2 (p:Dg) (c3:Int)
noncomputable def J5:Fp→iH
 | .c0 p a2=>⟨[⟨37,19,(en [(0,.sl (.struct [yI,yI,(.struct [yI,yB])]) p.a0),(1,.fn 25 [] []),(7,vi p.a1),(8,vi a2)]),[.inLoop (cw Try.f37 [1,0,1,0,0]),.inBlock 0,.code (cw Try.f37 [1,1])],[],none⟩,⟨24,9,.leaf,[.ops (ow Try.f24 [1,0]) ((ow Try.f24 [1,0]).toList.drop 2),.code .ret],[],none⟩,⟨9,85,(en [(8,.ptr 0 0),(9,.ptr 1 0)]),[.ops (ow Try.f9 [1,1,1,0,0]) ((ow Try.f9 [1,1,1,0,0]).toList.drop 1),.code (cw Try.f9 [1,1,1,0,1]),.code (cw Try.f9 [1,1,1,1])],[2],none⟩],[.flat false [vi p.a3,vi p.a4,vi p.a5,vi p.a6,vi p.a7,vi p.a8,vi p.a9,vi p.lu,vi p.mg,vi p.a12,vi p.sU,.du true,vi p.lf],.flat false [vi p.lz],.qe,.dead]⟩
 | .c1 p=>⟨[⟨33,37,(en [(0,.yield 0),(24,.dU 1 1 false p.b0 p.b1),(25,vi p.b2),(26,vi p.b3)]),[.inLoop (cw Try.f33 [1,1,1,0,0]),.inBlock 0],[],none⟩,⟨9,85,(en [(7,.ptr 2 0),(8,.ptr 3 0),(9,.ptr 4 0)]),[.fy 0,.inBlock 1,.code (cw Try.f9 [1,1,1])],[5],none⟩],[.loop ⟨9,85,(en [(0,.agg [vi p.b4,vi p.b5,vi p.b6,vi p.b7,vi p.b8]),(1,.agg [vi p.b9,vi p.b10,vi p.b11,vi p.b12,vi p.b13,vi p.wz,vi p.xw]),(2,vi p.yu),(3,.sl (.struct [yI,yI,(.struct [yI,yB])]) p.yA),(4,.ptr 9 0),(5,.ptr 6 0),(7,.ptr 2 0),(8,.ptr 3 0),(9,.ptr 4 0),(16,vb p.sO),(17,.agg [vi p.ij,vi p.i6,vi p.iN,vi p.je,vi p.lN,vi p.lM,vi p.ob]),(18,vi p.my),(19,vb p.jR),(20,vb p.jU),(21,.agg [vi p.pF,vi p.pN,vi p.pj,vi p.tY,vi p.ui]),(22,.ptr 6 1),(23,vi p.tN),(24,vi p.tL),(25,vb p.Ou),(26,vb p.Np),(28,vb p.NM),(29,vi p.NL),(30,vb p.N4),(31,vb p.Nv),(32,vi p.Ow),(33,.ptr 6 1),(34,vi p.N8),(35,vb p.Oh),(36,vb p.Oq),(37,vb p.Ol),(38,vi p.OA),(39,.ptr 6 0),(40,vi p.On),(41,vb p.Ox),(42,vb p.Od),(43,vb p.No),(44,.sl (.struct [yI,yI,(.struct [yI,yB])]) p.Oi),(45,vi p.Nw),(46,vb p.Of),(47,vb p.NW),(49,.agg [vi p.Oo,vi p.Og,vi p.Oz,vi p.NF,vi p.N7,vi p.N9,vi p.NC]),(50,vi p.N5),(51,.fn 33 [] [.ptr 7 0,.ptr 8 0])]),[52,53],(cw Try.f9 [1,1,0,1,0,0]),(cw Try.f9 [1,1,0,1,0,1]),0,none⟩,.flat false [vi p.H8,vi p.H9],.flat false [.sl (.struct [yI,yI,(.struct [yI,yB])]) p.D8],.flat false [vi p.MP,vi p.Kw,vi p.LS,vi p.Md,vi p.KT,vi p.KN,vi p.Mq,vi p.LK,vi p.M5,vi p.LL,vi p.MU,.du true,vi p.L0],.flat false [vi p.Li],.qe,.flat false [vi p.NO,vi p.NB,vi p.Nx,vi p.NA,vi p.NR,vi p.NJ,vi p.N3],.flat false [vi p.NI,vi p.N1,vi p.N2,vi p.Nl,vi p.OC,vi p.OE,vi p.Nn],.flat false [vi p.OG],.flat false [vi p.My,vi p.MY,vi p.Mz,vi p.MK,vi p.OS],.dead]⟩
 | .c2 p c3=>⟨[⟨9,85,(en [(4,.ptr 0 0),(8,.ptr 1 0),(9,.ptr 2 0),(10,vi p.c0),(56,.sl (.struct [yI,yI,(.struct [yI,yB])]) p.c1),(57,vi p.c2),(58,vi c3)]),[.inLoop (cw Try.f9 [1,1,0,1,0,1,0,1,1,0,0]),.inBlock 3,.inBlock 2],[],some 3⟩,⟨33,37,(en [(0,.yield 3),(24,.dU 4 1 false p.c4 p.c5),(25,vi p.c6),(26,vi p.c7)]),[.ops (ow Try.f33 [1,1,1,0,0,1,1,0,0,1,0]) ((ow Try.f33 [1,1,1,0,0,1,1,0,0,1,0]).toList.drop 3),.code (cw Try.f33 [1,1,1,0,0,1,1,0,0,1,1]),.inBlock 1,.code (cw Try.f33 [1,1,1,0,0,1,1,1]),.inLoop (cw Try.f33 [1,1,1,0,0]),.inBlock 0],[],none⟩,⟨9,85,(en [(7,.ptr 5 0),(8,.ptr 1 0),(9,.ptr 2 0)]),[.fy 3,.inBlock 1,.code (cw Try.f9 [1,1,1])],[6],none⟩],[.flat false [vi p.c8,vi p.c9,vi p.c10,vi p.c11,vi p.c12],.flat false [vi p.c13,vi p.c14,vi p.gY,vi p.c16,vi p.CB,vi p.v_,vi p.c19,vi p.c20,vi p.c21,vi p.zP,vi p.c23,.du true,vi p.c24],.flat false [vi p.Kp],.loop ⟨9,85,(en [(0,.agg [vi p.DU,vi p.DV,vi p.c28,vi p.Ka,vi p.xA]),(1,.agg [vi p.c31,vi p.c32,vi p.Kj,vi p.c34,vi p.Ki,vi p.Kf,vi p.c37]),(2,vi p.Kh),(3,.sl (.struct [yI,yI,(.struct [yI,yB])]) p.Km),(4,.ptr 0 0),(5,.ptr 7 0),(7,.ptr 5 0),(8,.ptr 1 0),(9,.ptr 2 0),(16,vb p.c40),(17,.agg [vi p.NV,vi p.OF,vi p.Ni,vi p.Oe,vi p.Nz,vi p.c46,vi p.Nj]),(18,vi p.Ot),(19,vb p.c49),(20,vb p.Nk),(21,.agg [vi p.c51,vi p.Ng,vi p.c53,vi p.ND,vi p.NY]),(22,.ptr 7 1),(23,vi p.NZ),(24,vi p.N6),(25,vb p.NT),(26,vb p.c59),(28,vb p.Ov),(29,vi p.Ns),(30,vb p.Oa),(31,vb p.Nq),(32,vi p.c64),(33,.ptr 7 1),(34,vi p.OB),(35,vb p.Nu),(36,vb p.Nr),(37,vb p.Om),(38,vi p.Oy),(39,.ptr 7 0),(40,vi p.c70),(41,vb p.N_),(42,vb p.c72),(43,vb p.Ny),(44,.sl (.struct [yI,yI,(.struct [yI,yB])]) p.NS),(45,vi p.c75),(46,vb p.c76),(47,vb p.Nh),(49,.agg [vi p.Nt,vi p.NK,vi p.c80,vi p.NG,vi p.OJ,vi p.OI,vi p.NU]),(50,vi p.c85),(51,.fn 33 [] [.ptr 8 0,.ptr 9 0])]),[52,53],(cw Try.f9 [1,1,0,1,0,0]),(cw Try.f9 [1,1,0,1,0,1]),1,none⟩,.flat false [vi p.K2,vi p.c87],.flat false [.sl (.struct [yI,yI,(.struct [yI,yB])]) p.K9],.qe,.flat false [vi p.NP,vi p.Oj,vi p.c91,vi p.OH,vi p.c93,vi p.N0,vi p.NN],.flat false [vi p.OD,vi p.NQ,vi p.NE,vi p.Oc,vi p.IK,vi p.I4,vi p.Ip],.flat false [vi p.JG],.dead]⟩
def t43(A:cH)(cTime:Int)(cPos:Int)(cMode:Int)(cNext:Int)(cMember:Int)(vId:Int)(vN:Int)(vSet:Int)(vAcc:Int)(vFail:Int)(vStage:Int)(vFirst:Int)(sender:Int)(seen:List (Int×Int×(Int×List Int))):LT ((Int×Int×Int×(Int×Int×(Int×Int×Int×Int×Int)×Int×List Int)×Int)×Int) Fp:=.need (A.k (@tt ((Int×Int×Int×Int×Int×Int×Int))) (vId,vN,vSet,vAcc,vFail,vStage,vFirst)) (.br (A.c .neq (A.k jo (vId,vN,vSet,vAcc,vFail,vStage,vFirst)) 0) (.ret ((0,0,0,(0,0,(0,0,0,0,0),0,([]:List Int)),0),170)) (.need (A.k (@tt ((Int×Int×Int×Int×Int)×Int)) ((cTime,cPos,cMode,cNext,cMember),vN)) (.br (A.c .neq (A.k j4 ((cTime,cPos,cMode,cNext,cMember),vN)) 0) (.ret ((0,0,0,(0,0,(0,0,0,0,0),0,([]:List Int)),0),170)) (.br (A.c .lss sender 0) (.ret ((0,0,0,(0,0,(0,0,0,0,0),0,([]:List Int)),0),2)) (.br (A.c .geq sender vN) (.ret ((0,0,0,(0,0,(0,0,0,0,0),0,([]:List Int)),0),2)) (.br (A.c .eql sender vId) (.ret ((0,0,0,(0,0,(0,0,0,0,0),0,([]:List Int)),0),2)) (.br (A.c .neq (A.l seen) 2) (.ret ((0,0,0,(0,0,(0,0,0,0,0),0,([]:List Int)),0),2)) (.need (A.k (@tt ((Int×Int×Int×Int×Int×Int×Int))) (vId,vN,vSet,vAcc,vFail,vStage,vFirst)) (.br (A.c .neq (A.k jo (vId,vN,vSet,vAcc,vFail,vStage,vFirst)) 0) (.more (.c0 ⟨seen,(A.l seen),0,0,0,0,0,0,0,0,0,0,0,0,0⟩ 0)) (.need (A.k (@tt ((Int×Int×Int×Int×Int×Int×Int)×Int)) ((vId,vN,vSet,vAcc,vFail,vStage,vFirst),sender)) (.br (A.not (A.k sV ((vId,vN,vSet,vAcc,vFail,vStage,vFirst),sender))) (.more (.c0 ⟨seen,(A.l seen),0,0,0,0,0,0,0,0,0,0,0,0,0⟩ 0)) (.need (A.k pE ((vId,vN,vSet,vAcc,vFail,vStage,vFirst),sender)) (.need (A.and (A.c .leq 0 0) (A.and (A.c .leq 0 (A.k bq ((vId,vN,vSet,vAcc,vFail,vStage,vFirst),sender)).2) (A.c .leq (A.k bq ((vId,vN,vSet,vAcc,vFail,vStage,vFirst),sender)).2 2))) (.more (.c1 ⟨(A.b .add .i64 0 0),(A.b .sub .i64 (A.k bq ((vId,vN,vSet,vAcc,vFail,vStage,vFirst),sender)).2 0),(A.b .sub .i64 (A.k bq ((vId,vN,vSet,vAcc,vFail,vStage,vFirst),sender)).2 0),0,cTime,cPos,cMode,cNext,cMember,vId,vN,vSet,vAcc,vFail,vStage,vFirst,sender,seen,(A.c .neq (A.k j4 ((cTime,cPos,cMode,cNext,cMember),vN)) 0),vId,vN,vSet,vAcc,vFail,vStage,vFirst,(A.k jo (vId,vN,vSet,vAcc,vFail,vStage,vFirst)),(A.c .neq (A.k jo (vId,vN,vSet,vAcc,vFail,vStage,vFirst)) 0),false,cTime,cPos,cMode,cNext,cMember,vN,(A.k j4 ((cTime,cPos,cMode,cNext,cMember),vN)),(A.c .neq (A.k j4 ((cTime,cPos,cMode,cNext,cMember),vN)) 0),(A.c .neq (A.k j4 ((cTime,cPos,cMode,cNext,cMember),vN)) 0),(A.c .neq (A.l seen) 2),sender,(A.c .lss sender 0),false,sender,vN,(A.c .geq sender vN),(A.c .geq sender vN),false,sender,vId,(A.c .eql sender vId),(A.c .eql sender vId),false,seen,(A.l seen),(A.c .neq (A.l seen) 2),(A.c .neq (A.l seen) 2),vId,vN,vSet,vAcc,vFail,vStage,vFirst,sender,(A.n yI (A.k bq ((vId,vN,vSet,vAcc,vFail,vStage,vFirst),sender)).1 0:Int),(A.n yI (A.k bq ((vId,vN,vSet,vAcc,vFail,vStage,vFirst),sender)).1 1:Int),seen,0,0,0,0,0,0,0,0,0,0,0,0,0,vId,vN,vSet,vAcc,vFail,vStage,vFirst,vId,vN,vSet,vAcc,vFail,vStage,vFirst,sender,cTime,cPos,cMode,cNext,cMember⟩)))))))))))))))
def Am(A:cH):Fp→LT ((Int×Int×Int×(Int×Int×(Int×Int×Int×Int×Int)×Int×List Int)×Int)×Int) Fp
 | .c0 p a2=>.br (A.c .lss a2 p.a1) (.need (A.and (A.c .leq 0 a2) (A.c .lss a2 (A.l p.a0))) (.br (A.c .neq (A.n (.struct [yI,yI,(.struct [yI,yB])]) p.a0 a2:Int×Int×(Int×List Int)).1 0) (.br (A.c .geq a2 0) (.ret ((2,0,0,(0,0,(0,0,0,0,0),0,([]:List Int)),0),0)) (.ret ((1,0,0,(0,0,(0,0,0,0,0),0,([]:List Int)),0),0))) (.more (.c0 p (A.b .add .i64 a2 1))))) (.ret ((1,0,0,(0,0,(0,0,0,0,0),0,([]:List Int)),0),0))
 | .c1 p=>.br (A.c .lss p.b3 p.b2) (.need (A.and (A.c .leq 0 p.b3) (A.c .lss p.b3 p.b1)) (.more (.c2 ⟨p.b3,p.D8,(A.l p.D8),p.b0,p.b1,p.b2,p.b3,p.My,p.MY,p.Mz,p.MK,(A.n yI [p.H8,p.H9] (A.b .add .i64 p.b0 p.b3):Int),p.MP,p.Kw,p.LS,p.Md,p.KT,p.KN,p.Mq,p.LK,p.M5,p.LL,p.MU,p.L0,p.Li,p.b4,p.b5,p.b6,p.b7,p.b8,p.b9,p.b10,p.b11,p.b12,p.b13,p.wz,p.xw,p.yu,p.yA,p.sO,p.ij,p.i6,p.iN,p.je,p.lN,p.lM,p.ob,p.my,p.jR,p.jU,p.pF,p.pN,p.pj,p.tY,p.ui,p.tN,p.tL,p.Ou,p.Np,p.NM,p.NL,p.N4,p.Nv,p.Ow,p.N8,p.Oh,p.Oq,p.Ol,p.OA,p.On,p.Ox,p.Od,p.No,p.Oi,p.Nw,p.Of,p.NW,p.Oo,p.Og,p.Oz,p.NF,p.N7,p.N9,p.NC,p.N5,p.H8,p.H9,p.D8,p.NO,p.NB,p.Nx,p.NA,p.NR,p.NJ,p.N3,p.NI,p.N1,p.N2,p.Nl,p.OC,p.OE,p.Nn,p.OG⟩ 0))) (.more (.c0 ⟨p.D8,(A.l p.D8),p.MP,p.Kw,p.LS,p.Md,p.KT,p.KN,p.Mq,p.LK,p.M5,p.LL,p.MU,p.L0,p.Li⟩ 0))
 | .c2 p c3=>.br (A.c .lss c3 p.c2) (.need (A.and (A.c .leq 0 c3) (A.c .lss c3 (A.l p.c1))) (.br (A.c .neq (A.n (.struct [yI,yI,(.struct [yI,yB])]) p.c1 c3:Int×Int×(Int×List Int)).1 2) (.more (.c2 p (A.b .add .i64 c3 1))) (.need (A.k (@tt ((Int×List Int)×(Int×Int×Int×Int×Int))) ((A.n (.struct [yI,yI,(.struct [yI,yB])]) p.c1 c3:Int×Int×(Int×List Int)).2.2,p.c8,p.c9,p.c10,p.c11,p.c12)) (.br (A.k fI ((A.n (.struct [yI,yI,(.struct [yI,yB])]) p.c1 c3:Int×Int×(Int×List Int)).2.2,p.c8,p.c9,p.c10,p.c11,p.c12)).2 (.ret ((3,p.c0,c3,(A.k fI ((A.n (.struct [yI,yI,(.struct [yI,yB])]) p.c1 c3:Int×Int×(Int×List Int)).2.2,p.c8,p.c9,p.c10,p.c11,p.c12)).1,(A.n (.struct [yI,yI,(.struct [yI,yB])]) p.c1 c3:Int×Int×(Int×List Int)).2.1),0)) (.more (.c2 p (A.b .add .i64 c3 1))))))) (.more (.c1 ⟨p.c4,p.c5,p.c6,(A.b .add .i64 p.c7 1),p.DU,p.DV,p.c28,p.Ka,p.xA,p.c31,p.c32,p.Kj,p.c34,p.Ki,p.Kf,p.c37,p.Kh,p.Km,p.c40,p.NV,p.OF,p.Ni,p.Oe,p.Nz,p.c46,p.Nj,p.Ot,p.c49,p.Nk,p.c51,p.Ng,p.c53,p.ND,p.NY,p.NZ,p.N6,p.NT,p.c59,p.Ov,p.Ns,p.Oa,p.Nq,p.c64,p.OB,p.Nu,p.Nr,p.Om,p.Oy,p.c70,p.N_,p.c72,p.Ny,p.NS,p.c75,p.c76,p.Nh,p.Nt,p.NK,p.c80,p.NG,p.OJ,p.OI,p.NU,p.c85,p.K2,p.c87,p.K9,p.c13,p.c14,p.gY,p.c16,p.CB,p.v_,p.c19,p.c20,p.c21,p.zP,p.c23,p.c24,p.Kp,p.NP,p.Oj,p.c91,p.OH,p.c93,p.N0,p.NN,p.OD,p.NQ,p.NE,p.Oc,p.IK,p.I4,p.Ip,p.JG,p.c8,p.c9,p.c10,p.c11,p.c12⟩))
def sL(c:Int×Int×Int×Int×Int)(w:Int):Nat→List (Int×Int×(Int×List Int))→Option (Int×Int×Int×(Int×Int×(Int×Int×Int×Int×Int)×Int×List Int)×Int)
 | _, []=>none
 | k,s::l=>bif s.1==2&&(mQ (s.2.2,c)).2 then some (3,w,(k:Int),(mQ (s.2.2,c)).1,s.2.1) else sL c w (k+1) l
def vJ(t p m n:Int)(seen:List (Int×Int×(Int×List Int))):Nat→List Int→Option (Int×Int×Int×(Int×Int×(Int×Int×Int×Int×Int)×Int×List Int)×Int)
 | _, []=>none
 | i,v::l=>match sL (t,p,m,n,v) (i:Int) 0 seen with
   | some o=>some o
   | none=>vJ t p m n seen (i+1) l
def Fs:Int×Int×Int×(Int×Int×(Int×Int×Int×Int×Int)×Int×List Int)×Int:=(0,0,0,bU,0)
def ql(seen:List (Int×Int×(Int×List Int))):Int×Int×Int×(Int×Int×(Int×Int×Int×Int×Int)×Int×List Int)×Int:=bif seen.any fun s=>s.1 != 0 then(2,0,0,bU,0) else(1,0,0,bU,0)
def um(t p m n:Int)(seen:List (Int×Int×(Int×List Int)))(i:Nat)(vs:List Int):(Int×Int×Int×(Int×Int×(Int×Int×Int×Int×Int)×Int×List Int)×Int)×Int:=
 match vJ t p m n seen i vs with
 | some o=>(o,0)
 | none=>(ql seen,0)
def Mt(x:(Int×Int×Int×Int×Int×Int×Int)×Int):List Int:=(bq x).1.take (bq x).2.toNat
def Da:(Int×Int×Int×Int×Int)×(Int×Int×Int×Int×Int×Int×Int)×Int×List (Int×Int×(Int×List Int))→(Int×Int×Int×(Int×Int×(Int×Int×Int×Int×Int)×Int×List Int)×Int)×Int:=fun((t,p,m,n,s),v,sender,seen)=>
 bif jo v != 0||tH ((t,p,m,n,s),v.2.1) != 0 then(Fs,170)
 else bif decide (sender<0)||decide (v.2.1≤sender)||sender==v.1||seen.length != 2 then(Fs,2)
 else um t p m n seen 0 (Mt (v,sender))
theorem wh{x:(Int×Int×Int×Int×Int×Int×Int)×Int}:(bq x).1.length=2:=by
 obtain⟨⟨a,b,c,d,e,f,g⟩,s⟩:=x
 exact LT.g_ (p:=fun y:List Int×Int=>y.1.length=2) rfl (by simp[t78,LT.all])
theorem xe{l:List (Int×Int×(Int×List Int))}{i:Nat}(h:i<l.length):(ai.n (.struct [(.int .i64),(.int .i64),(.struct [(.int .i64),(.slice (.int .u8))])]) l (i:Int):Int×Int×(Int×List Int))=l[i]:=getD_in h _
theorem Ej{seen:List (Int×Int×(Int×List Int))}(hl:seen.length≤140737488355328):∀(j i:Nat) (p:Fo),p.a0=seen→p.a1=(seen.length:Int)→seen.length-i=j→i≤seen.length→(seen.take i).any (fun s=>s.1 != 0)=false→aA (Am ai) (.more (.c0 p (i:Int))) (ql seen,0):=by
 intro j
 induction j with
 | zero=>
   intro i p h0 h1 hj hi ha
   have:i=seen.length:=by omega
   subst this
   rw[List.take_length] at ha
   rw[ao,Am]
   refine(ah (by rw[h1,aN];simp)).2 ?_
   rw[ql,ha]
   exact .ret _
 | succ j ih=>
   intro i p h0 h1 hj hi ha
   have hi':i<seen.length:=by omega
   rw[ao,Am]
   refine(aj (by rw[h1,aN];simp;omega)).2 (af.2 ⟨by rw[h0];exact gB hi',?_⟩)
   have hn:(ai.n (.struct [(.int .i64),(.int .i64),(.struct [(.int .i64),(.slice (.int .u8))])]) p.a0 (i:Int):Int×Int×(Int×List Int)).1=seen[i].1:=congrArg (fun z=>z.1) ((congrArg (fun z=>(ai.n (.struct [(.int .i64),(.int .i64),(.struct [(.int .i64),(.slice (.int .u8))])]) z (i:Int):Int×Int×(Int×List Int))) h0).trans (xe hi'))
   have htk:=List.take_succ_eq_append_getElem hi'
   by_cases hk:seen[i].1=0
   ·refine(ah (cf (hn.trans hk))).2 ?_
    refine aW (congrArg LT.more (congrArg (Fp.c0 p) (fH (by omega)))) (ih (i+1) p h0 h1 (by omega) (by omega) ?_)
    rw[htk,List.any_append,ha]
    simp[hk]
   ·refine(aj (ei (fun h=>hk (hn.symm.trans h)))).2 ((aj (by rw[ay];simp)).2 ?_)
    have:seen.any (fun s=>s.1 != 0)=true:=List.any_eq_true.2 ⟨seen[i],List.getElem_mem hi',by simpa using hk⟩
    rw[ql,this]
    exact .ret _
def I1(p:y2)(seen:List (Int×Int×(Int×List Int)))(vs:List Int)(cnt i t po m n:Int):Prop:=p.b0=0∧p.b1=cnt∧p.b2=cnt∧p.b3=i∧p.D8=seen∧ [p.H8,p.H9]=vs∧p.My=t∧p.MY=po∧p.Mz=m∧p.MK=n
def I2(p:Dg)(seen:List (Int×Int×(Int×List Int)))(vs:List Int)(cnt i t po m n v:Int):Prop:=p.c0=i∧p.c1=seen∧p.c2=(seen.length:Int)∧p.c4=0∧p.c5=cnt∧p.c6=cnt∧p.c7=i∧p.K9=seen∧ [p.K2,p.c87]=vs∧p.c8=t∧p.c9=po∧p.c10=m∧p.c11=n∧p.c12=v
theorem EU{seen:List (Int×Int×(Int×List Int))}{vs:List Int}{cnt t po m n v:Int}{i:Nat}(hi:i<4)(hl:seen.length≤140737488355328){R:(Int×Int×Int×(Int×Int×(Int×Int×Int×Int×Int)×Int×List Int)×Int)×Int}(hnext:∀p':y2,I1 p' seen vs cnt ((i+1:Nat):Int) t po m n→aA (Am ai) (.more (.c1 p')) R) :
  ∀(j k:Nat) (p:Dg),I2 p seen vs cnt (i:Int) t po m n v→seen.length-k=j→k≤seen.length→aA (Am ai) (.more (.c2 p (k:Int))) (match sL (t,po,m,n,v) (i:Int) k (seen.drop k) with|some o=>(o,0)|none=>R):=by
 intro j
 induction j with
 | zero=>
   intro k p hI hj hk
   have:k=seen.length:=by omega
   subst this
   obtain⟨h0,h1,h2,h4,h5,h6,h7,h88,hv,h8,h9,h10,h11,h12⟩:=hI
   rw[ao,Am]
   refine(ah (by rw[h2,aN];simp)).2 ?_
   rw[List.drop_length]
   exact hnext _ ⟨h4,h5,h6,by show ai.b .add .i64 p.c7 1=_;rw[h7,fH (by omega)],h88,hv,h8,h9,h10,h11⟩
 | succ j ih=>
   intro k p hI hj hk
   have hk':k<seen.length:=by omega
   have hm:=ih (k+1) p hI (by omega) (by omega)
   obtain⟨h0,h1,h2,h4,h5,h6,h7,h88,hv,h8,h9,h10,h11,h12⟩:=hI
   rw[ao,Am]
   have hn:(ai.n (.struct [(.int .i64),(.int .i64),(.struct [(.int .i64),(.slice (.int .u8))])]) p.c1 (k:Int):Int×Int×(Int×List Int))=seen[k]:=(congrArg (fun z=>(ai.n (.struct [(.int .i64),(.int .i64),(.struct [(.int .i64),(.slice (.int .u8))])]) z (k:Int):Int×Int×(Int×List Int))) h1).trans (xe hk')
   have hd:seen.drop k=seen[k]::seen.drop (k+1):=List.drop_eq_getElem_cons hk'
   have hg:ai.k fI ((ai.n (.struct [(.int .i64),(.int .i64),(.struct [(.int .i64),(.slice (.int .u8))])]) p.c1 (k:Int):Int×Int×(Int×List Int)).2.2,p.c8,p.c9,p.c10,p.c11,p.c12)=mQ (seen[k].2.2,(t,po,m,n,v)):=by
    refine(congrArg (fun z:Int×Int×(Int×List Int)=>fI (z.2.2,p.c8,p.c9,p.c10,p.c11,p.c12)) hn).trans ?_
    rw[h8,h9,h10,h11,h12]
    exact u9
   refine(aj (by rw[h2,aN];simp;omega)).2 (af.2 ⟨by rw[h1];exact gB hk',?_⟩)
   rw[hd,sL]
   by_cases hkd:seen[k].1=2
   ·refine(ah (cf ((congrArg (fun z=>z.1) hn).trans hkd))).2 (af.2 ⟨rfl,?_⟩)
    rw[show(seen[k].1==2)=true from by simpa using hkd,Bool.true_and]
    cases hgd:(mQ (seen[k].2.2,(t,po,m,n,v))).2
    ·refine(ah ((congrArg (fun z=>z.2) hg).trans hgd)).2 ?_
     exact aW (congrArg LT.more (congrArg (Fp.c2 p) (fH (by omega)))) hm
    ·refine(aj ((congrArg (fun z=>z.2) hg).trans hgd)).2 ?_
     have e:=congr (congr (congrArg (fun(x:Int) (y:Int×Int×(Int×Int×Int×Int×Int)×Int×List Int) (z:Int)=>(LT.ret (((3:Int),x,(k:Int),y,z),(0:Int)):LT ((Int×Int×Int×(Int×Int×(Int×Int×Int×Int×Int)×Int×List Int)×Int)×Int) Fp)) h0) (congrArg (fun z=>z.1) hg)) (congrArg (fun z=>z.2.1) hn)
     exact aW e (.ret _)
   ·refine(aj (ei (fun h=>hkd ((congrArg (fun z=>z.1) hn).symm.trans h)))).2 ?_
    rw[show(seen[k].1==2)=false from by simpa using hkd,Bool.false_and]
    exact aW (congrArg LT.more (congrArg (Fp.c2 p) (fH (by omega)))) hm
theorem Eg{seen:List (Int×Int×(Int×List Int))}{vs:List Int}{cnt:Nat}{t po m n:Int}(hl:seen.length≤140737488355328)(hv2:vs.length=2)(hc:cnt≤2):∀(j i:Nat) (p:y2),I1 p seen vs (cnt:Int) (i:Int) t po m n→cnt-i=j→i≤cnt→aA (Am ai) (.more (.c1 p)) (um t po m n seen i ((vs.take cnt).drop i)):=by
 intro j
 induction j with
 | zero=>
   intro i p hI hj hi
   have:i=cnt:=by omega
   subst this
   obtain⟨h0,h1,h2,h3,h66,hv,h95,h96,h97,h98⟩:=hI
   rw[ao,Am]
   refine(ah (by rw[h2,h3,aN];simp)).2 ?_
   rw[List.drop_of_length_le (by rw[List.length_take];omega)]
   exact Ej hl seen.length 0 _ h66 (by show ai.l p.D8=_;rw[h66];rfl) rfl (by omega) rfl
 | succ j ih=>
   intro i p hI hj hi
   obtain⟨h0,h1,h2,h3,h66,hv,h95,h96,h97,h98⟩:=hI
   have hiv:i<(vs.take cnt).length:=by rw[List.length_take];omega
   rw[ao,Am]
   refine(aj (by rw[h2,h3,aN];simp;omega)).2 (af.2 ⟨by rw[h1,h3,fe,aN,aD];simp;omega,?_⟩)
   have hnv:(ai.n (.int .i64) [p.H8,p.H9] (ai.b .add .i64 p.b0 p.b3):Int)=(vs.take cnt)[i]:=by
    have e:ai.b .add .i64 p.b0 p.b3=(i:Int):=by rw[h0,h3,cu,ji (by omega) (by omega)];omega
    refine((congrArg (fun z=>(ai.n (.int .i64) [p.H8,p.H9] z:Int)) e).trans ((congrArg (fun z=>(ai.n (.int .i64) z (i:Int):Int)) hv).trans (getD_in (l:=vs) (by omega) _))).trans ?_
    rw[List.getElem_take]
   have hm:=EU (seen:=seen) (vs:=vs) (cnt:=(cnt:Int)) (t:=t) (po:=po) (m:=m) (n:=n) (v:=(vs.take cnt)[i]) (i:=i) (by omega) hl (R:=um t po m n seen (i+1) ((vs.take cnt).drop (i+1))) (fun p' hp'=>ih (i+1) p' hp' (by omega) (by omega)) seen.length 0
   refine oJ ?_ (hm _ ⟨h3,h66,?_,h0,h1,h2,h3,h66,hv,h95,h96,h97,h98,hnv⟩ rfl (by omega))
   rotate_left
   ·show ai.l p.D8=_;rw[h66];rfl
   rw[um,um,List.drop_eq_getElem_cons hiv,vJ,List.drop_zero]
   cases sL (t,po,m,n,(vs.take cnt)[i]) (i:Int) 0 seen<;>rfl
theorem B_{t po m n s a b c d e f g sender:Int}{seen:List (Int×Int×(Int×List Int))}(h:Ty.cr [(.struct [(.int .i64),(.int .i64),(.int .i64),(.int .i64),(.int .i64)]),(.struct [(.int .i64),(.int .i64),(.int .i64),(.int .i64),(.int .i64),(.int .i64),(.int .i64)]),(.int .i64),(.slice (.struct [(.int .i64),(.int .i64),(.struct [(.int .i64),(.slice (.int .u8))])]))] ((t,po,m,n,s),(a,b,c,d,e,f,g),sender,seen)):seen.length≤140737488355328:=h.2.2.2.1
theorem Ix{t po m n s a b c d e f g sender:Int}{seen:List (Int×Int×(Int×List Int))}(h:Ty.cr [(.struct [(.int .i64),(.int .i64),(.int .i64),(.int .i64),(.int .i64)]),(.struct [(.int .i64),(.int .i64),(.int .i64),(.int .i64),(.int .i64),(.int .i64),(.int .i64)]),(.int .i64),(.slice (.struct [(.int .i64),(.int .i64),(.struct [(.int .i64),(.slice (.int .u8))])]))] ((t,po,m,n,s),(a,b,c,d,e,f,g),sender,seen)) :
  aA (Am ai) (t43 ai t po m n s a b c d e f g sender seen) (Da ((t,po,m,n,s),(a,b,c,d,e,f,g),sender,seen)):=by
 have hl:=B_ h
 unfold t43
 rw[Da]
 refine af.2 ⟨rfl,?_⟩
 by_cases h1:(jo (a,b,c,d,e,f,g) != 0)=true
 ·rw[h1]
  exact(aj h1).2 (.ret _)
 rw[Bool.not_eq_true] at h1
 rw[h1]
 refine(ah h1).2 (af.2 ⟨rfl,?_⟩)
 rw[Bool.false_or]
 by_cases h2:(tH ((t,po,m,n,s),b) != 0)=true
 ·rw[h2]
  exact(aj h2).2 (.ret _)
 rw[Bool.not_eq_true] at h2
 rw[h2]
 refine(ah h2).2 ?_
 rw[cond_false]
 have hz:jo (a,b,c,d,e,f,g)=0:=by simpa using h1
 have hok:=uB.1 hz
 unfold DR at hok
 by_cases h3:sender<0
 ·refine(aj (by rw[al];simpa using h3)).2 ?_
  rw[show decide (sender<0)=true from by simpa using h3]
  exact .ret _
 refine(ah (by rw[al];simpa using h3)).2 ?_
 by_cases h4:b≤sender
 ·refine(aj (by rw[ay];simpa using h4)).2 ?_
  rw[show decide (b≤sender)=true from by simpa using h4,Bool.or_true]
  exact .ret _
 refine(ah (by rw[ay];simpa using h4)).2 ?_
 by_cases h5:sender=a
 ·refine(aj (nN h5)).2 ?_
  rw[show(sender==a)=true from by simpa using h5,Bool.or_true]
  exact .ret _
 refine(ah (zq h5)).2 ?_
 by_cases h6:¬seen.length=2
 ·refine(aj (ei (show(seen.length:Int)≠2 by omega))).2 ?_
  rw[show(seen.length != 2)=true from by simpa using h6,Bool.or_true]
  exact .ret _
 rw[Decidable.not_not] at h6
 refine(ah (cf (show(seen.length:Int)=2 by omega))).2 (af.2 ⟨rfl,(ah h1).2 (af.2 ⟨rfl,?_⟩)⟩)
 rw[show decide (sender<0)=false from by simpa using h3,show decide (b≤sender)=false from by simpa using h4,show(sender==a)=false from by simpa using h5,show(seen.length != 2)=false from by simpa using h6]
 have h77:sV ((a,b,c,d,e,f,g),sender)=true:=(wJ (by omega) (by omega)).2 ⟨by omega,by omega,by omega⟩
 have hq:=fP (x:=((a,b,c,d,e,f,g),sender))
 have hq2:=wh (x:=((a,b,c,d,e,f,g),sender))
 refine(ah (show ai.not (ai.k sV ((a,b,c,d,e,f,g),sender))=false by rw[bM,ap,h77];rfl)).2 (af.2 ⟨by rw[ap];simp[pE];omega,af.2 ⟨?_,?_⟩⟩)
 ·rw[ap,aD,aD,ax,ax,ax];simp;omega
 ·obtain⟨cnt,hcnt⟩:=Int.eq_ofNat_of_zero_le hq.1
  show aA (Am ai) _ (um t po m n seen 0 (Mt ((a,b,c,d,e,f,g),sender)))
  rw[Mt,hcnt,Int.toNat_natCast]
  have hs:ai.b .sub .i64 (ai.k bq ((a,b,c,d,e,f,g),sender)).2 0=(cnt:Int):=by
   rw[ap,hcnt,bC,ji (by omega) (by omega)];omega
  refine Eg (vs:=(bq ((a,b,c,d,e,f,g),sender)).1) hl hq2 (by omega) cnt 0 _ ⟨rfl,hs,hs,rfl,rfl,?_,rfl,rfl,rfl,rfl⟩ (by omega) (by omega)
  show[(bq ((a,b,c,d,e,f,g),sender)).1.getD 0 0,(bq ((a,b,c,d,e,f,g),sender)).1.getD 1 0]=_
  match (bq ((a,b,c,d,e,f,g),sender)).1,hq2 with
  | [_,_],_=>rfl
def DK:((Int×Int×Int×Int×Int)×(Int×Int×Int×Int×Int×Int×Int)×Int×List (Int×Int×(Int×List Int)))→((Int×Int×Int×(Int×Int×(Int×Int×Int×Int×Int)×Int×List Int)×Int)×Int):=Da
def KV:aH:=⟨[(.struct [yI,yI,yI,yI,yI]),(.struct [yI,yI,yI,yI,yI,yI,yI]),yI,(.slice (.struct [yI,yI,(.struct [yI,yB])]))], [(.struct [yI,yI,yI,(.struct [yI,yI,(.struct [yI,yI,yI,yI,yI]),yI,yB]),yI]),yI],(@tt ((Int×Int×Int×Int×Int)×(Int×Int×Int×Int×Int×Int×Int)×Int×List (Int×Int×(Int×List Int)))),DK⟩
theorem La:Sd 9 KV:=aX aJ iC true 122 [⟨9,10, [[4,8,9,10,56,57,58], [0,24,25,26], [7,8,9]]⟩,⟨33,3, [[0,24,25,26], [7,8,9]]⟩,⟨37,2, [[0,1,7,8], [], [8,9]]⟩] [] (fun A ((cTime,cPos,cMode,cNext,cMember),(vId,vN,vSet,vAcc,vFail,vStage,vFirst),sender,seen)=>t43 A cTime cPos cMode cNext cMember vId vN vSet vAcc vFail vStage vFirst sender seen) Am J5 (fc Try.func9 (fc Try.func22 (fc Try.func24 (fc Try.func25 (fc Try.func33 (fc Try.func37 fz)))))) (sc JI (sc Jt (sc Jm (sc IR (sc Aj sz))))) (fun A y=>match y with |.c0 p a2=>⟨62,by kernel_rfl,by kernel_rfl⟩|.c1 p=>⟨52,by kernel_rfl,by kernel_rfl⟩|.c2 p c3=>⟨68,by kernel_rfl,by kernel_rfl⟩) fun((cTime,cPos,cMode,cNext,cMember),(vId,vN,vSet,vAcc,vFail,vStage,vFirst),sender,seen) hp h=>Ix h
open Go.Ev.Pl
def t41(A:cH):LT Bool Empty:=.need (A.k (@tt (Int×Int×Int)) (0,4,15)) (.need (A.k (@tt ((Int×Int×Int×Int×Int)×(Int×Int×Int×Int×Int×Int×Int)×Int×List (Int×Int×(Int×List Int)))) ((0,1,0,0,15),(A.k wA (0,4,15)).1,1, [(0,0,0,([]:List Int)),(0,0,0,([]:List Int))])) (.need (A.k (@tt ((Int×Int×Int×Int×Int)×(Int×Int×Int×Int×Int×Int×Int)×Int×List (Int×Int×(Int×List Int)))) ((0,1,0,0,15),(A.k wA (0,4,15)).1,1, [(0,0,0,([]:List Int)),(1,0,0,([]:List Int))])) (.br (A.c .eql (A.k wA (0,4,15)).2 0) (.br (A.c .eql (A.k DK ((0,1,0,0,15),(A.k wA (0,4,15)).1,1, [(0,0,0,([]:List Int)),(0,0,0,([]:List Int))])).2 0) (.br (A.c .eql (A.k DK ((0,1,0,0,15),(A.k wA (0,4,15)).1,1, [(0,0,0,([]:List Int)),(0,0,0,([]:List Int))])).1.1 1) (.br (A.c .eql (A.k DK ((0,1,0,0,15),(A.k wA (0,4,15)).1,1, [(0,0,0,([]:List Int)),(1,0,0,([]:List Int))])).2 0) (.ret (A.c .eql (A.k DK ((0,1,0,0,15),(A.k wA (0,4,15)).1,1, [(0,0,0,([]:List Int)),(1,0,0,([]:List Int))])).1.1 2)) (.ret false)) (.ret false)) (.ret false)) (.ret false))))
def qc:Unit→Bool:=fun _=>(t41 ai).val (Ty.dC [.bool])
def L3:aH:=⟨[], [.bool],(@tt Unit),qc⟩
theorem L9:Sd 5 L3:=aV aJ iC true 74 [] (fun A _=>t41 A) (fc Try.func5 fz) (sc LA (sc La sz)) (fun _ hp h=>by
 show(t41 ai).pre=true
 simp[t41,LT.pre,ap,fo])
theorem zx:qc ()=true:=by kernel_rfl
end Go.Ev.M
