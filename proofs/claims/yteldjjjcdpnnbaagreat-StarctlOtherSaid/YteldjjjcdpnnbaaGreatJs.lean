/-
  PROVED: what metronomeref17 computes, and the statement JudgeSlots of its function. Conditions: none.
-/
import Derived.Test.YteldjjjcdpnnbaaGreatJa
import Derived.Test.YteldjjjcdpnnbaaGreatDb
namespace Go.Ev.M
open Go.Proofs
set_option maxRecDepth 100000
set_option linter.unusedVariables false
set_option linter.unusedSimpArgs false
open Go.Ev.Pl
structure Gs where
 (a0:List (Int×Int×(Int×List Int))) (a1:List Int) (a2 a3 a4 a5 a6 a7 a8 a9 bV dT a12 lk ku qs a16 a17 qU mq:Int)
structure NR where
 (b0:List (Int×Int×(Int×List Int))) (b1:List Int) (b2 b4 b5 b6 b7 b8 b9 b10 b11 b12 b13 sn zQ dA ib sR lH mM kN kT nY nX nZ:Int)
structure Rv where
 (c0:List (Int×Int×(Int×List Int))) (c2 c3 c4 c5 c6 c7 c8 c9 c10 c11 c12 c13:Int)
inductive Rm where
 | c0 (p:Gs)
 | c1 (p:NR) (b3:Int)
 | c2 (p:Rv) (c1:Int)
noncomputable def ads:Rm→fL
 | .c0 p=>⟨[⟨104,109,(en [(3,.sl (.struct [yI,yI,(.struct [yI,yB])]) p.a0),(4,.ptr 0 0),(8,.ptr 1 0),(10,.sl yI p.a1),(11,vi p.a2)]),[.inLoop (cw Tryz.f104 [1,1,1,1,0,1,0,0]),.inBlock 0,.code (cw Tryz.f104 [1,1,1,1,1])],[],none⟩],[.flat false [vi p.a3,vi p.a4,vi p.a5,vi p.a6,vi p.a7],.flat false [vi p.a8,vi p.a9,vi p.bV,vi p.dT,vi p.a12,vi p.lk,vi p.ku,vi p.qs,vi p.a16,vi p.a17,vi p.qU,.bi true,vi p.mq],.dead]⟩
 | .c1 p b3=>⟨[⟨104,109,(en [(3,.sl (.struct [yI,yI,(.struct [yI,yB])]) p.b0),(4,.ptr 0 0),(8,.ptr 1 0),(10,.sl yI p.b1),(11,vi p.b2),(12,.ptr 2 0),(13,vi b3)]),[.inLoop (cw Tryz.f104 [1,1,1,1,0,1,0,0,1,0,0,1,1,1,0,0]),.inBlock 2,.inBlock 1,.code (cw Tryz.f104 [1,1,1,1,0,1,0,0,1,1]),.inLoop (cw Tryz.f104 [1,1,1,1,0,1,0,0]),.inBlock 0,.code (cw Tryz.f104 [1,1,1,1,1])],[],none⟩],[.flat false [vi p.b4,vi p.b5,vi p.b6,vi p.b7,vi p.b8],.flat false [vi p.b9,vi p.b10,vi p.b11,vi p.b12,vi p.b13,vi p.sn,vi p.zQ,vi p.dA,vi p.ib,vi p.sR,vi p.lH,.bi true,vi p.mM],.flat false [vi p.kN,vi p.kT,vi p.nY,vi p.nX,vi p.nZ],.dead]⟩
 | .c2 p c1=>⟨[⟨104,109,(en [(3,.sl (.struct [yI,yI,(.struct [yI,yB])]) p.c0),(8,.ptr 0 0),(16,vi c1)]),[.inLoop (cw Tryz.f104 [1,1,1,1,1,0,1,0,0]),.inBlock 4,.code (cw Tryz.f104 [1,1,1,1,1,1])],[],none⟩],[.flat false [vi p.c2,vi p.c3,vi p.c4,vi p.c5,vi p.c6,vi p.c7,vi p.c8,vi p.c9,vi p.c10,vi p.c11,vi p.c12,.bi true,vi p.c13],.dead]⟩
def t62(A:a_)(cTime:Int)(cPos:Int)(cMode:Int)(cNext:Int)(cMember:Int)(vId:Int)(vN:Int)(vSet:Int)(vAcc:Int)(vFail:Int)(vStage:Int)(vFirst:Int)(sender:Int)(seen:List (Int×Int×(Int×List Int))):LT ((Int×Int×Int×(Int×Int×(Int×Int×Int×Int×Int)×Int×List Int)×Int)×Int) Rm:=.need (A.k (@tt ((Int×Int×Int×Int×Int×Int×Int))) (vId,vN,vSet,vAcc,vFail,vStage,vFirst)) (.br (A.c .neq (A.k gZ (vId,vN,vSet,vAcc,vFail,vStage,vFirst)) 0) (.ret ((0,0,0,(0,0,(0,0,0,0,0),0,([]:List Int)),0),170)) (.need (A.k (@tt ((Int×Int×Int×Int×Int)×Int)) ((cTime,cPos,cMode,cNext,cMember),vN)) (.br (A.c .neq (A.k pZ ((cTime,cPos,cMode,cNext,cMember),vN)) 0) (.ret ((0,0,0,(0,0,(0,0,0,0,0),0,([]:List Int)),0),170)) (.br (A.c .lss sender 0) (.ret ((0,0,0,(0,0,(0,0,0,0,0),0,([]:List Int)),0),2)) (.br (A.c .geq sender vN) (.ret ((0,0,0,(0,0,(0,0,0,0,0),0,([]:List Int)),0),2)) (.br (A.c .eql sender vId) (.ret ((0,0,0,(0,0,(0,0,0,0,0),0,([]:List Int)),0),2)) (.br (A.c .neq (A.l seen) 2) (.ret ((0,0,0,(0,0,(0,0,0,0,0),0,([]:List Int)),0),2)) (.need (A.k (@tt ((Int×Int×Int×Int×Int×Int×Int)×Int)) ((vId,vN,vSet,vAcc,vFail,vStage,vFirst),sender)) (.more (.c0 ⟨seen,(A.k oi ((vId,vN,vSet,vAcc,vFail,vStage,vFirst),sender)),0,cTime,cPos,cMode,cNext,cMember,0,0,0,0,0,0,0,0,0,0,0,0⟩))))))))))
def JD(A:a_):Rm→LT ((Int×Int×Int×(Int×Int×(Int×Int×Int×Int×Int)×Int×List Int)×Int)×Int) Rm
 | .c0 p=>.br (A.c .lss p.a2 (A.l p.a1)) (.need (A.and (A.c .leq 0 p.a2) (A.c .lss p.a2 (A.l p.a1))) (.more (.c1 ⟨p.a0,p.a1,p.a2,p.a3,p.a4,p.a5,p.a6,p.a7,p.a8,p.a9,p.bV,p.dT,p.a12,p.lk,p.ku,p.qs,p.a16,p.a17,p.qU,p.mq,p.a3,p.a4,p.a5,p.a6,(A.n yI p.a1 p.a2:Int)⟩ 0))) (.more (.c2 ⟨p.a0,p.a8,p.a9,p.bV,p.dT,p.a12,p.lk,p.ku,p.qs,p.a16,p.a17,p.qU,p.mq⟩ 0))
 | .c1 p b3=>.br (A.c .lss b3 (A.l p.b0)) (.need (A.and (A.c .leq 0 b3) (A.c .lss b3 (A.l p.b0))) (.br (A.c .neq (A.n (.struct [yI,yI,(.struct [yI,yB])]) p.b0 b3:Int×Int×(Int×List Int)).1 2) (.more (.c1 p (A.b .add .i64 b3 1))) (.need (A.and (A.c .leq 0 b3) (A.c .lss b3 (A.l p.b0))) (.need (A.k (@tt ((Int×List Int)×(Int×Int×Int×Int×Int))) ((A.n (.struct [yI,yI,(.struct [yI,yB])]) p.b0 b3:Int×Int×(Int×List Int)).2.2,p.kN,p.kT,p.nY,p.nX,p.nZ)) (.need (A.k (@tt ((Int×List Int)×(Int×Int×Int×Int×Int))) ((A.n (.struct [yI,yI,(.struct [yI,yB])]) p.b0 b3:Int×Int×(Int×List Int)).2.2,p.kN,p.kT,p.nY,p.nX,p.nZ)) (.need (A.and (A.c .leq 0 b3) (A.c .lss b3 (A.l p.b0))) (.br (A.k FX ((A.n (.struct [yI,yI,(.struct [yI,yB])]) p.b0 b3:Int×Int×(Int×List Int)).2.2,p.kN,p.kT,p.nY,p.nX,p.nZ)).2 (.need (A.and (A.c .leq 0 b3) (A.c .lss b3 (A.l p.b0))) (.ret ((3,p.b2,b3,(A.k FX ((A.n (.struct [yI,yI,(.struct [yI,yB])]) p.b0 b3:Int×Int×(Int×List Int)).2.2,p.kN,p.kT,p.nY,p.nX,p.nZ)).1,(A.n (.struct [yI,yI,(.struct [yI,yB])]) p.b0 b3:Int×Int×(Int×List Int)).2.1),0))) (.more (.c1 p (A.b .add .i64 b3 1)))))))))) (.more (.c0 ⟨p.b0,p.b1,(A.b .add .i64 p.b2 1),p.b4,p.b5,p.b6,p.b7,p.b8,p.b9,p.b10,p.b11,p.b12,p.b13,p.sn,p.zQ,p.dA,p.ib,p.sR,p.lH,p.mM⟩))
 | .c2 p c1=>.br (A.c .lss c1 (A.l p.c0)) (.need (A.and (A.c .leq 0 c1) (A.c .lss c1 (A.l p.c0))) (.br (A.c .neq (A.n (.struct [yI,yI,(.struct [yI,yB])]) p.c0 c1:Int×Int×(Int×List Int)).1 0) (.ret ((2,0,0,(0,0,(0,0,0,0,0),0,([]:List Int)),0),0)) (.more (.c2 p (A.b .add .i64 c1 1))))) (.ret ((1,0,0,(0,0,(0,0,0,0,0),0,([]:List Int)),0),0))
theorem Q0{seen:List (Int×Int×(Int×List Int))}(hl:seen.length≤140737488355328):∀(j i:Nat) (p:Rv),p.c0=seen→seen.length-i=j→i≤seen.length→(seen.take i).any (fun s=>s.1 != 0)=false→aA (JD aj) (.more (.c2 p (i:Int))) (jM seen,0):=by
 intro j
 induction j with
 | zero=>
   intro i p h0 hj hi ha
   have:i=seen.length:=by omega
   subst this
   rw[List.take_length] at ha
   rw[ak,JD]
   refine(ah (by rw[show aj.l p.c0=(seen.length:Int) from by rw[h0];rfl,aO];simp)).2 ?_
   rw[jM,ha]
   exact .ret _
 | succ j ih=>
   intro i p h0 hj hi ha
   have hi':i<seen.length:=by omega
   rw[ak,JD]
   refine(ai (by rw[show aj.l p.c0=(seen.length:Int) from by rw[h0];rfl,aO];simp;omega)).2 (af.2 ⟨by rw[h0];exact aP hi',?_⟩)
   have hn:(aj.n (.struct [(.int .i64),(.int .i64),(.struct [(.int .i64),(.slice (.int .u8))])]) p.c0 (i:Int):Int×Int×(Int×List Int)).1=seen[i].1:=congrArg (fun z=>z.1) ((congrArg (fun z=>(aj.n (.struct [(.int .i64),(.int .i64),(.struct [(.int .i64),(.slice (.int .u8))])]) z (i:Int):Int×Int×(Int×List Int))) h0).trans (sw hi'))
   have htk:=List.take_succ_eq_append_getElem hi'
   by_cases hk:seen[i].1=0
   ·refine(ah (b_ (hn.trans hk))).2 ?_
    refine bo (congrArg LT.more (congrArg (Rm.c2 p) (cf (by omega)))) (ih (i+1) p h0 (by omega) (by omega) ?_)
    rw[htk,List.any_append,ha]
    simp[hk]
   ·refine(ai (dE (fun h=>hk (hn.symm.trans h)))).2 ?_
    have:seen.any (fun s=>s.1 != 0)=true:=List.any_eq_true.2 ⟨seen[i],List.getElem_mem hi',by simpa using hk⟩
    rw[jM,this]
    exact .ret _
def J0(p:Gs)(seen:List (Int×Int×(Int×List Int)))(vs:List Int)(i t po m n:Int):Prop:=p.a0=seen∧p.a1=vs∧p.a2=i∧p.a3=t∧p.a4=po∧p.a5=m∧p.a6=n
def J1(p:NR)(seen:List (Int×Int×(Int×List Int)))(vs:List Int)(i t po m n v:Int):Prop:=p.b0=seen∧p.b1=vs∧p.b2=i∧p.b4=t∧p.b5=po∧p.b6=m∧p.b7=n∧p.kN=t∧p.kT=po∧p.nY=m∧p.nX=n∧p.nZ=v
theorem Pt{seen:List (Int×Int×(Int×List Int))}{vs:List Int}{t po m n v:Int}{i:Nat}(hi:i<4)(hl:seen.length≤140737488355328){R:(Int×Int×Int×(Int×Int×(Int×Int×Int×Int×Int)×Int×List Int)×Int)×Int}(hnext:∀p':Gs,J0 p' seen vs ((i+1:Nat):Int) t po m n→aA (JD aj) (.more (.c0 p')) R) :
  ∀(j k:Nat) (p:NR),J1 p seen vs (i:Int) t po m n v→seen.length-k=j→k≤seen.length→aA (JD aj) (.more (.c1 p (k:Int))) (match jf (t,po,m,n,v) (i:Int) k (seen.drop k) with|some o=>(o,0)|none=>R):=by
 intro j
 induction j with
 | zero=>
   intro k p hI hj hk
   have:k=seen.length:=by omega
   subst this
   obtain⟨h0,h1,h2,h4,h5,h6,h7,h21,h22,h23,h24,h25⟩:=hI
   rw[ak,JD]
   refine(ah (by rw[show aj.l p.b0=(seen.length:Int) from by rw[h0];rfl,aO];simp)).2 ?_
   rw[List.drop_length]
   exact hnext _ ⟨h0,h1,by show aj.b .add .i64 p.b2 1=_;rw[h2,cf (by omega)],h4,h5,h6,h7⟩
 | succ j ih=>
   intro k p hI hj hk
   have hk':k<seen.length:=by omega
   have hm:=ih (k+1) p hI (by omega) (by omega)
   obtain⟨h0,h1,h2,h4,h5,h6,h7,h21,h22,h23,h24,h25⟩:=hI
   rw[ak,JD]
   have hn:(aj.n (.struct [(.int .i64),(.int .i64),(.struct [(.int .i64),(.slice (.int .u8))])]) p.b0 (k:Int):Int×Int×(Int×List Int))=seen[k]:=(congrArg (fun z=>(aj.n (.struct [(.int .i64),(.int .i64),(.struct [(.int .i64),(.slice (.int .u8))])]) z (k:Int):Int×Int×(Int×List Int))) h0).trans (sw hk')
   have hd:seen.drop k=seen[k]::seen.drop (k+1):=List.drop_eq_getElem_cons hk'
   have hix:aj.and (aj.c .leq 0 (k:Int)) (aj.c .lss (k:Int) (aj.l p.b0))=true:=by rw[h0];exact aP hk'
   have hg:aj.k FX ((aj.n (.struct [(.int .i64),(.int .i64),(.struct [(.int .i64),(.slice (.int .u8))])]) p.b0 (k:Int):Int×Int×(Int×List Int)).2.2,p.kN,p.kT,p.nY,p.nX,p.nZ)=nR (seen[k].2.2,(t,po,m,n,v)):=by
    refine(congrArg (fun z:Int×Int×(Int×List Int)=>FX (z.2.2,p.kN,p.kT,p.nY,p.nX,p.nZ)) hn).trans ?_
    rw[h21,h22,h23,h24,h25]
    exact QF
   refine(ai (by rw[show aj.l p.b0=(seen.length:Int) from by rw[h0];rfl,aO];simp;omega)).2 (af.2 ⟨hix,?_⟩)
   rw[hd,jf]
   by_cases hkd:seen[k].1=2
   ·refine(ah (b_ ((congrArg (fun z=>z.1) hn).trans hkd))).2 ?_
    repeat (first|refine af.2 ⟨rfl,?_⟩|refine af.2 ⟨hix,?_⟩)
    rw[show(seen[k].1==2)=true from by simpa using hkd,Bool.true_and]
    cases hgd:(nR (seen[k].2.2,(t,po,m,n,v))).2
    ·refine(ah ((congrArg (fun z=>z.2) hg).trans hgd)).2 ?_
     exact bo (congrArg LT.more (congrArg (Rm.c1 p) (cf (by omega)))) hm
    ·refine(ai ((congrArg (fun z=>z.2) hg).trans hgd)).2 (af.2 ⟨hix,?_⟩)
     have e:=congr (congr (congrArg (fun(x:Int) (y:Int×Int×(Int×Int×Int×Int×Int)×Int×List Int) (z:Int)=>(LT.ret (((3:Int),x,(k:Int),y,z),(0:Int)):LT ((Int×Int×Int×(Int×Int×(Int×Int×Int×Int×Int)×Int×List Int)×Int)×Int) Rm)) h2) (congrArg (fun z=>z.1) hg)) (congrArg (fun z=>z.2.1) hn)
     exact bo e (.ret _)
   ·refine(ai (dE (fun h=>hkd ((congrArg (fun z=>z.1) hn).symm.trans h)))).2 ?_
    rw[show(seen[k].1==2)=false from by simpa using hkd,Bool.false_and]
    exact bo (congrArg LT.more (congrArg (Rm.c1 p) (cf (by omega)))) hm
theorem QM{seen:List (Int×Int×(Int×List Int))}{vs:List Int}{t po m n:Int}(hl:seen.length≤140737488355328)(hv2:vs.length≤2):∀(j i:Nat) (p:Gs),J0 p seen vs (i:Int) t po m n→vs.length-i=j→i≤vs.length→aA (JD aj) (.more (.c0 p)) (nK t po m n seen i (vs.drop i)):=by
 intro j
 induction j with
 | zero=>
   intro i p hI hj hi
   have:i=vs.length:=by omega
   subst this
   obtain⟨h0,h1,h2,h3,h4,h5,h6⟩:=hI
   rw[ak,JD]
   refine(ah (by rw[h2,show aj.l p.a1=(vs.length:Int) from by rw[h1];rfl,aO];simp)).2 ?_
   rw[List.drop_length]
   exact Q0 hl seen.length 0 _ h0 rfl (by omega) rfl
 | succ j ih=>
   intro i p hI hj hi
   obtain⟨h0,h1,h2,h3,h4,h5,h6⟩:=hI
   have hi':i<vs.length:=by omega
   rw[ak,JD]
   refine(ai (by rw[h2,show aj.l p.a1=(vs.length:Int) from by rw[h1];rfl,aO];simp;omega)).2 (af.2 ⟨by rw[h1,h2];exact aP hi',?_⟩)
   have hnv:(aj.n (.int .i64) p.a1 p.a2:Int)=vs[i]:=by
    rw[h1,h2];exact getD_in hi' _
   have hm:=Pt (seen:=seen) (vs:=vs) (t:=t) (po:=po) (m:=m) (n:=n) (v:=vs[i]) (i:=i) (by omega) hl (R:=nK t po m n seen (i+1) (vs.drop (i+1))) (fun p' hp'=>ih (i+1) p' hp' (by omega) (by omega)) seen.length 0
   refine au ?_ (hm _ ⟨h0,h1,h2,h3,h4,h5,h6,h3,h4,h5,h6,hnv⟩ rfl (by omega))
   rw[nK,nK,List.drop_eq_getElem_cons hi',kK,List.drop_zero]
   cases jf (t,po,m,n,vs[i]) (i:Int) 0 seen<;>rfl
theorem adI{t po m n s a b c d e f g sender:Int}{seen:List (Int×Int×(Int×List Int))}(h:Ty.cB [(.struct [(.int .i64),(.int .i64),(.int .i64),(.int .i64),(.int .i64)]),(.struct [(.int .i64),(.int .i64),(.int .i64),(.int .i64),(.int .i64),(.int .i64),(.int .i64)]),(.int .i64),(.slice (.struct [(.int .i64),(.int .i64),(.struct [(.int .i64),(.slice (.int .u8))])]))] ((t,po,m,n,s),(a,b,c,d,e,f,g),sender,seen)) :
  aA (JD aj) (t62 aj t po m n s a b c d e f g sender seen) (je ((t,po,m,n,s),(a,b,c,d,e,f,g),sender,seen)):=by
 have hl:=DO h
 unfold t62
 rw[je,JM]
 refine af.2 ⟨rfl,?_⟩
 by_cases h1:(gZ (a,b,c,d,e,f,g) != 0)=true
 ·rw[h1]
  exact(ai h1).2 (.ret _)
 rw[Bool.not_eq_true] at h1
 rw[h1]
 refine(ah h1).2 (af.2 ⟨rfl,?_⟩)
 rw[Bool.false_or]
 by_cases h2:(g_ ((t,po,m,n,s),b) != 0)=true
 ·rw[h2]
  exact(ai h2).2 (.ret _)
 rw[Bool.not_eq_true] at h2
 rw[h2]
 refine(ah h2).2 ?_
 rw[cond_false]
 have hz:gZ (a,b,c,d,e,f,g)=0:=by simpa using h1
 have hok:=jw.1 hz
 by_cases h3:sender<0
 ·refine(ai (by rw[ar];simpa using h3)).2 ?_
  rw[show decide (sender<0)=true from by simpa using h3]
  exact .ret _
 refine(ah (by rw[ar];simpa using h3)).2 ?_
 by_cases h4:b≤sender
 ·refine(ai (by rw[aM];simpa using h4)).2 ?_
  rw[show decide (b≤sender)=true from by simpa using h4,Bool.or_true]
  exact .ret _
 refine(ah (by rw[aM];simpa using h4)).2 ?_
 by_cases h5:sender=a
 ·refine(ai (qk h5)).2 ?_
  rw[show(sender==a)=true from by simpa using h5,Bool.or_true]
  exact .ret _
 refine(ah (EB h5)).2 ?_
 by_cases h6:¬seen.length=2
 ·refine(ai (dE (show(seen.length:Int)≠2 by omega))).2 ?_
  rw[show(seen.length != 2)=true from by simpa using h6,Bool.or_true]
  exact .ret _
 rw[Decidable.not_not] at h6
 refine(ah (b_ (show(seen.length:Int)=2 by omega))).2 (af.2 ⟨rfl,?_⟩)
 rw[show decide (sender<0)=false from by simpa using h3,show decide (b≤sender)=false from by simpa using h4,show(sender==a)=false from by simpa using h5,show(seen.length != 2)=false from by simpa using h6]
 have hv:oi ((a,b,c,d,e,f,g),sender)=JN ((a,b,c,d,e,f,g),sender):=Ia hok (by omega) (by omega) h5
 have hv2:(JN ((a,b,c,d,e,f,g),sender)).length≤2:=by
  rw[JN,List.length_take,xP];omega
 show aA (JD aj) _ (nK t po m n seen 0 (JN ((a,b,c,d,e,f,g),sender)))
 exact QM (vs:=JN ((a,b,c,d,e,f,g),sender)) hl hv2 _ 0 _ ⟨rfl,hv,rfl,rfl,rfl,rfl,rfl⟩ rfl (by omega)
def qw:((Int×Int×Int×Int×Int)×(Int×Int×Int×Int×Int×Int×Int)×Int×List (Int×Int×(Int×List Int)))→((Int×Int×Int×(Int×Int×(Int×Int×Int×Int×Int)×Int×List Int)×Int)×Int):=je
def aiF:aB:=⟨[(.struct [yI,yI,yI,yI,yI]),(.struct [yI,yI,yI,yI,yI,yI,yI]),yI,(.slice (.struct [yI,yI,(.struct [yI,yB])]))], [(.struct [yI,yI,yI,(.struct [yI,yI,(.struct [yI,yI,yI,yI,yI]),yI,yB]),yI]),yI],(@tt ((Int×Int×Int×Int×Int)×(Int×Int×Int×Int×Int×Int×Int)×Int×List (Int×Int×(Int×List Int)))),qw⟩
theorem agz:Sd 104 aiF:=aL ax bK true 68 [⟨104,7, [[3,4,8,10,11]]⟩,⟨104,12, [[3,4,8,10,11,12,13]]⟩,⟨104,19, [[3,8,16]]⟩] [] (fun A ((cTime,cPos,cMode,cNext,cMember),(vId,vN,vSet,vAcc,vFail,vStage,vFirst),sender,seen)=>t62 A cTime cPos cMode cNext cMember vId vN vSet vAcc vFail vStage vFirst sender seen) JD ads (fc Tryz.func104 fz) (sc af5 (sc Fc (sc F8 (sc ai5 sz)))) (fun A y=>match y with |.c0 p=>⟨39,by kernel_rfl,by kernel_rfl⟩|.c1 p b3=>⟨65,by kernel_rfl,by kernel_rfl⟩|.c2 p c1=>⟨35,by kernel_rfl,by kernel_rfl⟩) fun((cTime,cPos,cMode,cNext,cMember),(vId,vN,vSet,vAcc,vFail,vStage,vFirst),sender,seen) hp h=>adI h
def LY(A:a_)(mId:Int)(mN:Int)(mSet:Int)(mAcc:Int)(mFail:Int)(mStage:Int)(mFirst:Int)(sender:Int):LT Int Empty:=.need (A.k (@tt ((Int×Int×Int×Int×Int×Int×Int))) (mId,mN,mSet,mAcc,mFail,mStage,mFirst)) (.br (A.c .neq (A.k gZ (mId,mN,mSet,mAcc,mFail,mStage,mFirst)) 0) (.ret (A.k gZ (mId,mN,mSet,mAcc,mFail,mStage,mFirst))) (.br (A.c .geq sender 0) (.br (A.c .lss sender mN) (.br (A.not (A.c .neq sender mId)) (.ret 2) (.ret 0)) (.ret 2)) (.ret 2)))
def rO:((Int×Int×Int×Int×Int×Int×Int)×Int)→Int:=fun((mId,mN,mSet,mAcc,mFail,mStage,mFirst),sender)=>(LY aj mId mN mSet mAcc mFail mStage mFirst sender).val (Ty.bE [yI])
def acy:aB:=⟨[(.struct [yI,yI,yI,yI,yI,yI,yI]),yI], [yI],(@tt ((Int×Int×Int×Int×Int×Int×Int)×Int)),rO⟩
theorem Oi:Sd 215 acy:=aJ ax bK true 63 [] (fun A ((mId,mN,mSet,mAcc,mFail,mStage,mFirst),sender)=>LY A mId mN mSet mAcc mFail mStage mFirst sender) (fc Tryz.func215 (fc Tryz.func213 fz)) (sc Fc sz) (fun(((mId,mN,mSet,mAcc,mFail,mStage,mFirst),sender):(Int×Int×Int×Int×Int×Int×Int)×Int) hp h=>by
 show(LY aj mId mN mSet mAcc mFail mStage mFirst sender).pre=true
 simp only[LY,LT.pre,cY,aC,aH,ar,ay,aG,aM,aQ,aT,dn,al,bf,aX,bd,bS,bH,Bool.and_eq_true,Bool.or_eq_true,Bool.and_eq_false_iff,Bool.or_eq_false_iff,Bool.not_eq_true',Bool.not_eq_false',decide_eq_true_eq,decide_eq_false_iff_not,bne_iff_ne,beq_iff_eq,bne_eq_false_iff_eq,beq_eq_false_iff_ne]
 simp only[Ty.cB,Ty.has,iH,rA] at h
 (repeat' (first|intro _|constructor))<;>(try omega))
def t145(A:a_)(mId:Int)(mN:Int)(mSet:Int)(mAcc:Int)(mFail:Int)(mStage:Int)(mFirst:Int)(sender:Int):LT ((Int×Int×Int×Int×Int×Int×Int)) Empty:=.need (A.k (@tt Int) sender) (.br (A.c .eql mStage 2) (.br (A.c .eql mFirst sender) (.ret (mId,mN,(A.b .andNot .i64 mSet (A.k iB sender)),mAcc,mFail,1,0)) (.ret (mId,mN,(A.b .andNot .i64 mSet (A.k iB sender)),mAcc,mFail,mStage,mFirst))) (.ret (mId,mN,(A.b .andNot .i64 mSet (A.k iB sender)),mAcc,mFail,mStage,mFirst)))
def oM:((Int×Int×Int×Int×Int×Int×Int)×Int)→((Int×Int×Int×Int×Int×Int×Int)):=fun((mId,mN,mSet,mAcc,mFail,mStage,mFirst),sender)=>(t145 aj mId mN mSet mAcc mFail mStage mFirst sender).val (Ty.bE [(.struct [yI,yI,yI,yI,yI,yI,yI])])
def acI:aB:=⟨[(.struct [yI,yI,yI,yI,yI,yI,yI]),yI], [(.struct [yI,yI,yI,yI,yI,yI,yI])],(@tt ((Int×Int×Int×Int×Int×Int×Int)×Int)),oM⟩
theorem Sk:Sd 216 acI:=aJ ax bK true 49 [] (fun A ((mId,mN,mSet,mAcc,mFail,mStage,mFirst),sender)=>t145 A mId mN mSet mAcc mFail mStage mFirst sender) (fc Tryz.func216 fz) (sc Js sz) (fun(((mId,mN,mSet,mAcc,mFail,mStage,mFirst),sender):(Int×Int×Int×Int×Int×Int×Int)×Int) hp h=>by
 show(t145 aj mId mN mSet mAcc mFail mStage mFirst sender).pre=true
 simp[t145,LT.pre,al,bH])
def t146(A:a_)(n:Int):LT Int Empty:=.ret (A.mn (A.b .add .i64 n 1) 1048576)
def nM:Int→Int:=fun n=>(t146 aj n).val (Ty.bE [yI])
def ac4:aB:=⟨[yI], [yI],(@tt Int),nM⟩
theorem RE:Sd 217 ac4:=aJ ax bK true 17 [] (fun A n=>t146 A n) (fc Tryz.func217 fz) sz (fun(n:Int) hp h=>by
 show(t146 aj n).pre=true
 rfl)
def Jm(A:a_)(mId:Int)(mN:Int)(mSet:Int)(mAcc:Int)(mFail:Int)(mStage:Int)(mFirst:Int)(sender:Int):LT ((Int×Int×Int×Int×Int×Int×Int)×Int) Empty:=.need (A.k (@tt ((Int×Int×Int×Int×Int×Int×Int)×Int)) ((mId,mN,mSet,mAcc,mFail,mStage,mFirst),sender)) (.br (A.c .neq (A.k rO ((mId,mN,mSet,mAcc,mFail,mStage,mFirst),sender)) 0) (.ret ((0,0,0,0,0,0,0),(A.k rO ((mId,mN,mSet,mAcc,mFail,mStage,mFirst),sender)))) (.need (A.k (@tt ((Int×Int×Int×Int×Int×Int×Int)×Int)) ((mId,mN,mSet,mAcc,mFail,mStage,mFirst),sender)) (.ret ((A.k oM ((mId,mN,mSet,mAcc,mFail,mStage,mFirst),sender)),0))))
def DD:((Int×Int×Int×Int×Int×Int×Int)×Int)→((Int×Int×Int×Int×Int×Int×Int)×Int):=fun((mId,mN,mSet,mAcc,mFail,mStage,mFirst),sender)=>(Jm aj mId mN mSet mAcc mFail mStage mFirst sender).val (Ty.bE [(.struct [yI,yI,yI,yI,yI,yI,yI]),yI])
def Zo:aB:=⟨[(.struct [yI,yI,yI,yI,yI,yI,yI]),yI], [(.struct [yI,yI,yI,yI,yI,yI,yI]),yI],(@tt ((Int×Int×Int×Int×Int×Int×Int)×Int)),DD⟩
theorem Z0:Sd 172 Zo:=aJ ax bK true 35 [] (fun A ((mId,mN,mSet,mAcc,mFail,mStage,mFirst),sender)=>Jm A mId mN mSet mAcc mFail mStage mFirst sender) (fc Tryz.func172 fz) (sc Oi (sc Sk sz)) (fun(((mId,mN,mSet,mAcc,mFail,mStage,mFirst),sender):(Int×Int×Int×Int×Int×Int×Int)×Int) hp h=>by
 show(Jm aj mId mN mSet mAcc mFail mStage mFirst sender).pre=true
 simp[Jm,LT.pre,al,bH])
def L4(A:a_)(mId:Int)(mN:Int)(mSet:Int)(mAcc:Int)(mFail:Int)(mStage:Int)(mFirst:Int)(sender:Int):LT ((Int×Int×Int×Int×Int×Int×Int)×Int) Empty:=.need (A.k (@tt ((Int×Int×Int×Int×Int×Int×Int)×Int)) ((mId,mN,mSet,mAcc,mFail,mStage,mFirst),sender)) (.br (A.c .neq (A.k rO ((mId,mN,mSet,mAcc,mFail,mStage,mFirst),sender)) 0) (.ret ((0,0,0,0,0,0,0),(A.k rO ((mId,mN,mSet,mAcc,mFail,mStage,mFirst),sender)))) (.need (A.k (@tt ((Int×Int×Int×Int×Int×Int×Int)×Int)) ((mId,mN,mSet,mAcc,mFail,mStage,mFirst),sender)) (.need (A.k (@tt Int) (A.k oM ((mId,mN,mSet,mAcc,mFail,mStage,mFirst),sender)).2.2.2.2.1) (.ret (((A.k oM ((mId,mN,mSet,mAcc,mFail,mStage,mFirst),sender)).1,(A.k oM ((mId,mN,mSet,mAcc,mFail,mStage,mFirst),sender)).2.1,(A.k oM ((mId,mN,mSet,mAcc,mFail,mStage,mFirst),sender)).2.2.1,(A.k oM ((mId,mN,mSet,mAcc,mFail,mStage,mFirst),sender)).2.2.2.1,(A.k nM (A.k oM ((mId,mN,mSet,mAcc,mFail,mStage,mFirst),sender)).2.2.2.2.1),(A.k oM ((mId,mN,mSet,mAcc,mFail,mStage,mFirst),sender)).2.2.2.2.2),0)))))
def H_:((Int×Int×Int×Int×Int×Int×Int)×Int)→((Int×Int×Int×Int×Int×Int×Int)×Int):=fun((mId,mN,mSet,mAcc,mFail,mStage,mFirst),sender)=>(L4 aj mId mN mSet mAcc mFail mStage mFirst sender).val (Ty.bE [(.struct [yI,yI,yI,yI,yI,yI,yI]),yI])
def adA:aB:=⟨[(.struct [yI,yI,yI,yI,yI,yI,yI]),yI], [(.struct [yI,yI,yI,yI,yI,yI,yI]),yI],(@tt ((Int×Int×Int×Int×Int×Int×Int)×Int)),H_⟩
theorem aah:Sd 173 adA:=aJ ax bK true 48 [] (fun A ((mId,mN,mSet,mAcc,mFail,mStage,mFirst),sender)=>L4 A mId mN mSet mAcc mFail mStage mFirst sender) (fc Tryz.func173 fz) (sc Oi (sc Sk (sc RE sz))) (fun(((mId,mN,mSet,mAcc,mFail,mStage,mFirst),sender):(Int×Int×Int×Int×Int×Int×Int)×Int) hp h=>by
 show(L4 aj mId mN mSet mAcc mFail mStage mFirst sender).pre=true
 simp[L4,LT.pre,al,bH])
def NF(A:a_)(mId:Int)(mN:Int)(mSet:Int)(mAcc:Int)(mFail:Int)(mStage:Int)(mFirst:Int)(sender:Int)(which:Int):LT ((Int×Int×Int×Int×Int×Int×Int)×Int) Empty:=.need (A.k (@tt ((Int×Int×Int×Int×Int×Int×Int)×Int)) ((mId,mN,mSet,mAcc,mFail,mStage,mFirst),sender)) (.br (A.c .neq (A.k rO ((mId,mN,mSet,mAcc,mFail,mStage,mFirst),sender)) 0) (.ret ((0,0,0,0,0,0,0),(A.k rO ((mId,mN,mSet,mAcc,mFail,mStage,mFirst),sender)))) (.need (A.k (@tt ((Int×Int×Int×Int×Int×Int×Int)×Int)) ((mId,mN,mSet,mAcc,mFail,mStage,mFirst),sender)) (.br (A.c .lss which 0) (.ret ((0,0,0,0,0,0,0),2)) (.br (A.c .geq which (A.l (A.k oi ((mId,mN,mSet,mAcc,mFail,mStage,mFirst),sender)))) (.ret ((0,0,0,0,0,0,0),2)) (.br (A.c .eql mStage 1) (.br (A.c .eql which 1) (.need (A.k (@tt Int) sender) (.ret ((mId,mN,(A.b .or .i64 mSet (A.k iB sender)),mAcc,mFail,2,sender),0))) (.need (A.and (A.c .leq 0 which) (A.c .lss which (A.l (A.k oi ((mId,mN,mSet,mAcc,mFail,mStage,mFirst),sender))))) (.need (A.k (@tt Int) mAcc) (.br (A.c .eql mStage 2) (.br (A.c .neq sender mFirst) (.need (A.k (@tt Int) mFail) (.ret ((mId,mN,(A.n yI (A.k oi ((mId,mN,mSet,mAcc,mFail,mStage,mFirst),sender)) which:Int),(A.k nM mAcc),(A.k nM mFail),0,0),0))) (.ret ((mId,mN,(A.n yI (A.k oi ((mId,mN,mSet,mAcc,mFail,mStage,mFirst),sender)) which:Int),(A.k nM mAcc),mFail,0,0),0))) (.ret ((mId,mN,(A.n yI (A.k oi ((mId,mN,mSet,mAcc,mFail,mStage,mFirst),sender)) which:Int),(A.k nM mAcc),mFail,0,0),0)))))) (.need (A.and (A.c .leq 0 which) (A.c .lss which (A.l (A.k oi ((mId,mN,mSet,mAcc,mFail,mStage,mFirst),sender))))) (.need (A.k (@tt Int) mAcc) (.br (A.c .eql mStage 2) (.br (A.c .neq sender mFirst) (.need (A.k (@tt Int) mFail) (.ret ((mId,mN,(A.n yI (A.k oi ((mId,mN,mSet,mAcc,mFail,mStage,mFirst),sender)) which:Int),(A.k nM mAcc),(A.k nM mFail),0,0),0))) (.ret ((mId,mN,(A.n yI (A.k oi ((mId,mN,mSet,mAcc,mFail,mStage,mFirst),sender)) which:Int),(A.k nM mAcc),mFail,0,0),0))) (.ret ((mId,mN,(A.n yI (A.k oi ((mId,mN,mSet,mAcc,mFail,mStage,mFirst),sender)) which:Int),(A.k nM mAcc),mFail,0,0),0))))))))))
def Io:((Int×Int×Int×Int×Int×Int×Int)×Int×Int)→((Int×Int×Int×Int×Int×Int×Int)×Int):=fun((mId,mN,mSet,mAcc,mFail,mStage,mFirst),sender,which)=>(NF aj mId mN mSet mAcc mFail mStage mFirst sender which).val (Ty.bE [(.struct [yI,yI,yI,yI,yI,yI,yI]),yI])
def YN:aB:=⟨[(.struct [yI,yI,yI,yI,yI,yI,yI]),yI,yI], [(.struct [yI,yI,yI,yI,yI,yI,yI]),yI],(@tt ((Int×Int×Int×Int×Int×Int×Int)×Int×Int)),Io⟩
theorem ack:Sd 174 YN:=aJ ax bK true 115 [] (fun A ((mId,mN,mSet,mAcc,mFail,mStage,mFirst),sender,which)=>NF A mId mN mSet mAcc mFail mStage mFirst sender which) (fc Tryz.func174 fz) (sc af5 (sc Js (sc Oi (sc RE sz)))) (fun(((mId,mN,mSet,mAcc,mFail,mStage,mFirst),sender,which):(Int×Int×Int×Int×Int×Int×Int)×Int×Int) hp h=>by
 show(NF aj mId mN mSet mAcc mFail mStage mFirst sender which).pre=true
 simp only[NF,LT.pre,al,bH,Bool.true_and,cY,implies_true,and_true,true_and,aQ,ay,ar,aM,decide_eq_false_iff_not,Bool.and_eq_true,decide_eq_true_eq]
 intros
 first|trivial|(constructor<;>omega)|(repeat' constructor)<;>(try intros)<;>omega)
def t63(A:a_)(vId:Int)(vN:Int)(vSet:Int)(vAcc:Int)(vFail:Int)(vStage:Int)(vFirst:Int)(sender:Int)(oKind:Int)(oWhich:Int)(oChan:Int)(oFKind:Int)(oFReq:Int)(oFCTime:Int)(oFCPos:Int)(oFCMode:Int)(oFCNext:Int)(oFCMember:Int)(oFFrom:Int)(oFData:List Int)(oAt:Int):LT ((Int×Int×Int×Int×Int×Int×Int)×Int) Empty:=.br (A.c .eql oKind 1) (.need (A.k (@tt ((Int×Int×Int×Int×Int×Int×Int)×Int)) ((vId,vN,vSet,vAcc,vFail,vStage,vFirst),sender)) (.ret (A.k DD ((vId,vN,vSet,vAcc,vFail,vStage,vFirst),sender)))) (.br (A.c .eql oKind 2) (.need (A.k (@tt ((Int×Int×Int×Int×Int×Int×Int)×Int)) ((vId,vN,vSet,vAcc,vFail,vStage,vFirst),sender)) (.ret (A.k H_ ((vId,vN,vSet,vAcc,vFail,vStage,vFirst),sender)))) (.br (A.c .eql oKind 3) (.need (A.k (@tt ((Int×Int×Int×Int×Int×Int×Int)×Int×Int)) ((vId,vN,vSet,vAcc,vFail,vStage,vFirst),sender,oWhich)) (.ret (A.k Io ((vId,vN,vSet,vAcc,vFail,vStage,vFirst),sender,oWhich)))) (.ret ((0,0,0,0,0,0,0),2))))
def AF:((Int×Int×Int×Int×Int×Int×Int)×Int×(Int×Int×Int×(Int×Int×(Int×Int×Int×Int×Int)×Int×List Int)×Int))→((Int×Int×Int×Int×Int×Int×Int)×Int):=fun((vId,vN,vSet,vAcc,vFail,vStage,vFirst),sender,oKind,oWhich,oChan,(oFKind,oFReq,(oFCTime,oFCPos,oFCMode,oFCNext,oFCMember),oFFrom,oFData),oAt)=>(t63 aj vId vN vSet vAcc vFail vStage vFirst sender oKind oWhich oChan oFKind oFReq oFCTime oFCPos oFCMode oFCNext oFCMember oFFrom oFData oAt).val (Ty.bE [(.struct [yI,yI,yI,yI,yI,yI,yI]),yI])
def ah6:aB:=⟨[(.struct [yI,yI,yI,yI,yI,yI,yI]),yI,(.struct [yI,yI,yI,(.struct [yI,yI,(.struct [yI,yI,yI,yI,yI]),yI,yB]),yI])], [(.struct [yI,yI,yI,yI,yI,yI,yI]),yI],(@tt ((Int×Int×Int×Int×Int×Int×Int)×Int×(Int×Int×Int×(Int×Int×(Int×Int×Int×Int×Int)×Int×List Int)×Int))),AF⟩
theorem ahn:Sd 106 ah6:=aJ ax bK true 50 [] (fun A ((vId,vN,vSet,vAcc,vFail,vStage,vFirst),sender,oKind,oWhich,oChan,(oFKind,oFReq,(oFCTime,oFCPos,oFCMode,oFCNext,oFCMember),oFFrom,oFData),oAt)=>t63 A vId vN vSet vAcc vFail vStage vFirst sender oKind oWhich oChan oFKind oFReq oFCTime oFCPos oFCMode oFCNext oFCMember oFFrom oFData oAt) (fc Tryz.func106 fz) (sc Z0 (sc aah (sc ack sz))) (fun(((vId,vN,vSet,vAcc,vFail,vStage,vFirst),sender,oKind,oWhich,oChan,(oFKind,oFReq,(oFCTime,oFCPos,oFCMode,oFCNext,oFCMember),oFFrom,oFData),oAt):(Int×Int×Int×Int×Int×Int×Int)×Int×(Int×Int×Int×(Int×Int×(Int×Int×Int×Int×Int)×Int×List Int)×Int)) hp h=>by
 show(t63 aj vId vN vSet vAcc vFail vStage vFirst sender oKind oWhich oChan oFKind oFReq oFCTime oFCPos oFCMode oFCNext oFCMember oFFrom oFData oAt).pre=true
 simp[t63,LT.pre,al,bH])
def t64(A:a_)(aKind:Int)(aWhich:Int)(aChan:Int)(aFKind:Int)(aFReq:Int)(aFCTime:Int)(aFCPos:Int)(aFCMode:Int)(aFCNext:Int)(aFCMember:Int)(aFFrom:Int)(aFData:List Int)(aAt:Int)(bKind:Int)(bWhich:Int)(bChan:Int)(bFKind:Int)(bFReq:Int)(bFCTime:Int)(bFCPos:Int)(bFCMode:Int)(bFCNext:Int)(bFCMember:Int)(bFFrom:Int)(bFData:List Int)(bAt:Int):LT Bool Empty:=.br (A.c .eql aKind bKind) (.br (A.c .eql aWhich bWhich) (.br (A.c .eql aChan bChan) (.need (A.k (@tt ((Int×Int×(Int×Int×Int×Int×Int)×Int×List Int)×(Int×Int×(Int×Int×Int×Int×Int)×Int×List Int))) ((aFKind,aFReq,(aFCTime,aFCPos,aFCMode,aFCNext,aFCMember),aFFrom,aFData),bFKind,bFReq,(bFCTime,bFCPos,bFCMode,bFCNext,bFCMember),bFFrom,bFData)) (.br (A.k Mg ((aFKind,aFReq,(aFCTime,aFCPos,aFCMode,aFCNext,aFCMember),aFFrom,aFData),bFKind,bFReq,(bFCTime,bFCPos,bFCMode,bFCNext,bFCMember),bFFrom,bFData)) (.ret (A.c .eql aAt bAt)) (.ret false))) (.ret false)) (.ret false)) (.ret false)
def Ox:((Int×Int×Int×(Int×Int×(Int×Int×Int×Int×Int)×Int×List Int)×Int)×(Int×Int×Int×(Int×Int×(Int×Int×Int×Int×Int)×Int×List Int)×Int))→Bool:=fun((aKind,aWhich,aChan,(aFKind,aFReq,(aFCTime,aFCPos,aFCMode,aFCNext,aFCMember),aFFrom,aFData),aAt),bKind,bWhich,bChan,(bFKind,bFReq,(bFCTime,bFCPos,bFCMode,bFCNext,bFCMember),bFFrom,bFData),bAt)=>(t64 aj aKind aWhich aChan aFKind aFReq aFCTime aFCPos aFCMode aFCNext aFCMember aFFrom aFData aAt bKind bWhich bChan bFKind bFReq bFCTime bFCPos bFCMode bFCNext bFCMember bFFrom bFData bAt).val (Ty.bE [.bool])
def agT:aB:=⟨[(.struct [yI,yI,yI,(.struct [yI,yI,(.struct [yI,yI,yI,yI,yI]),yI,yB]),yI]),(.struct [yI,yI,yI,(.struct [yI,yI,(.struct [yI,yI,yI,yI,yI]),yI,yB]),yI])], [.bool],(@tt ((Int×Int×Int×(Int×Int×(Int×Int×Int×Int×Int)×Int×List Int)×Int)×(Int×Int×Int×(Int×Int×(Int×Int×Int×Int×Int)×Int×List Int)×Int))),Ox⟩
theorem YD:Sd 42 agT:=aJ ax bK true 49 [] (fun A ((aKind,aWhich,aChan,(aFKind,aFReq,(aFCTime,aFCPos,aFCMode,aFCNext,aFCMember),aFFrom,aFData),aAt),bKind,bWhich,bChan,(bFKind,bFReq,(bFCTime,bFCPos,bFCMode,bFCNext,bFCMember),bFFrom,bFData),bAt)=>t64 A aKind aWhich aChan aFKind aFReq aFCTime aFCPos aFCMode aFCNext aFCMember aFFrom aFData aAt bKind bWhich bChan bFKind bFReq bFCTime bFCPos bFCMode bFCNext bFCMember bFFrom bFData bAt) (fc Tryz.func42 fz) (sc ady sz) (fun(((aKind,aWhich,aChan,(aFKind,aFReq,(aFCTime,aFCPos,aFCMode,aFCNext,aFCMember),aFFrom,aFData),aAt),bKind,bWhich,bChan,(bFKind,bFReq,(bFCTime,bFCPos,bFCMode,bFCNext,bFCMember),bFFrom,bFData),bAt):(Int×Int×Int×(Int×Int×(Int×Int×Int×Int×Int)×Int×List Int)×Int)×(Int×Int×Int×(Int×Int×(Int×Int×Int×Int×Int)×Int×List Int)×Int)) hp h=>by
 show(t64 aj aKind aWhich aChan aFKind aFReq aFCTime aFCPos aFCMode aFCNext aFCMember aFFrom aFData aAt bKind bWhich bChan bFKind bFReq bFCTime bFCPos bFCMode bFCNext bFCMember bFFrom bFData bAt).pre=true
 simp[t64,LT.pre,al,bH])
theorem qN{v:Int×Int×Int×Int×Int×Int×Int}{s:Int}:rO (v,s)=rI (v,s):=by
 obtain⟨a,b,c,d,e,f,g⟩:=v
 simp only[rO,rI,LY,t73,LT.val,al,JM]
 by_cases h:gZ (a,b,c,d,e,f,g)=0
 ·have hm:=jw.1 h
  unfold ia at hm
  have h77:=mG (a:=a) (b:=b) (c:=c) (d:=d) (e:=e) (f:=f) (g:=g) (s:=s) (by omega) (by omega)
  rw[h]
  simp only[aH,aM,ar,aT,bne_self_eq_false,cond_false]
  by_cases hs:0≤s∧s<b∧s≠a
  ·rw[h77.2 hs]
   simp[hs.1,hs.2.1,show(s != a)=true from bne_iff_ne.2 hs.2.2]
  ·have:ye ((a,b,c,d,e,f,g),s)=false:=by rw[←Bool.not_eq_true,h77];exact hs
   rw[this]
   by_cases h0:0≤s
   ·by_cases h1:s<b
    ·have:s=a:=Decidable.byContradiction fun h2=>hs ⟨h0,h1,h2⟩
     subst this
     simp[h0,h1]
    ·simp[h0,h1]
   ·simp[h0]
 ·have:(gZ (a,b,c,d,e,f,g) != 0)=true:=by simpa using h
  simp only[aH,this,cond_true]
theorem G7{a b c d e f g s:Int}(h:(rI ((a,b,c,d,e,f,g),s) != 0)=false):ia a b c d e f g∧0≤s∧s<b∧s≠a:=d_.1 (by simpa using h)
theorem Iy{a b c d e f g s:Int}(h:ia a b c d e f g)(h0:0≤s)(h1:s<b):oM ((a,b,c,d,e,f,g),s)=(bif f==2 then(bif g==s then(a,b,kz c s,d,e,1,0) else(a,b,kz c s,d,e,f,g)) else(a,b,kz c s,d,e,f,g)):=by
 have hm:=h
 unfold ia at hm
 simp only[oM,t145,LT.val,al,aC,jX (n:=s) (by omega) (by omega),kz]
theorem Bq{v:Int×Int×Int×Int×Int×Int×Int}{s:Int}:DD (v,s)=lh (v,s):=by
 obtain⟨a,b,c,d,e,f,g⟩:=v
 simp only[DD,lh,Jm,t38,LT.val,al,qN,aH,aC]
 cases h:(rI ((a,b,c,d,e,f,g),s) != 0)
 ·obtain⟨h1,h2,h3,h4⟩:=G7 h
  rw[cond_false,cond_false,Iy h1 h2 h3]
  simp only[kz]
  cases f==2<;>cases g==s<;>rfl
 ·rfl
theorem MX{v:Int×Int×Int×Int×Int×Int×Int}{s:Int}:H_ (v,s)=FC (v,s):=by
 have hn:=Bq (v:=v) (s:=s)
 obtain⟨a,b,c,d,e,f,g⟩:=v
 simp only[FC,t39,LT.val,al,←hn,aC]
 simp only[H_,DD,L4,Jm,nM,t146,LT.val,al,qN,aH]
 cases h:(rI ((a,b,c,d,e,f,g),s) != 0)
 ·rfl
 ·rw[cond_true]
  have h2:(rI ((a,b,c,d,e,f,g),s)==0)=false:=by
   rw[bne,Bool.not_eq_true'] at h;exact h
  rw[cond_true,h2];rfl
theorem Jo{v:Int×Int×Int×Int×Int×Int×Int}{s w:Int}:Io (v,s,w)=lI (v,s,w):=by
 obtain⟨a,b,c,d,e,f,g⟩:=v
 simp only[Io,lI,NF,t25,LT.val,al,qN,aH,aC,ar,aM,aT,nM,t146]
 by_cases h:(rI ((a,b,c,d,e,f,g),s) != 0)=true
 ·rw[h];rfl
 rw[Bool.not_eq_true] at h
 rw[h,cond_false,cond_false]
 obtain⟨h1,h2,h3,h4⟩:=G7 h
 have hm:=h1
 unfold ia at hm
 have hq:=zq (x:=((a,b,c,d,e,f,g),s))
 have hq2:=xP (x:=((a,b,c,d,e,f,g),s))
 have hv:=Ia h1 h2 h3 h4
 have hl:aj.l (oi ((a,b,c,d,e,f,g),s))=(eY ((a,b,c,d,e,f,g),s)).2:=by
  rw[hv]
  show(((eY ((a,b,c,d,e,f,g),s)).1.take (eY ((a,b,c,d,e,f,g),s)).2.toNat).length:Int)=_
  rw[List.length_take,hq2];omega
 have hn:0≤w→w<(eY ((a,b,c,d,e,f,g),s)).2→(aj.n (.int .i64) (aj.k oi ((a,b,c,d,e,f,g),s)) w:Int)=(eY ((a,b,c,d,e,f,g),s)).1.getD w.toNat 0:=by
  intro hw0 hw1
  show(oi ((a,b,c,d,e,f,g),s)).getD w.toNat 0=_
  rw[hv,List.getD_eq_getElem?_getD,List.getD_eq_getElem?_getD,List.getElem?_take_of_lt (by omega)]
 rw[hl,kE h1 h2 h3 h4,jX (n:=s) (by omega) (by omega)]
 by_cases hw0:w<0
 ·rw[show decide (w<0)=true from by simpa using hw0,show decide (0≤w)=false from by simp;omega];rfl
 by_cases hw1:(eY ((a,b,c,d,e,f,g),s)).2≤w
 ·rw[show decide ((eY ((a,b,c,d,e,f,g),s)).2≤w)=true from by simpa using hw1,show decide (w<(eY ((a,b,c,d,e,f,g),s)).2)=false from by simp;omega,Bool.and_false]
  cases decide (w<0)<;>rfl
 rw[show decide (w<0)=false from by simpa using hw0,show decide ((eY ((a,b,c,d,e,f,g),s)).2≤w)=false from by simpa using hw1,show decide (0≤w)=true from by simp;omega,show decide (w<(eY ((a,b,c,d,e,f,g),s)).2)=true from by simp;omega,hn (by omega) (by omega)]
 rfl
theorem Fj{x:(Int×Int×Int×Int×Int×Int×Int)×Int×(Int×Int×Int×(Int×Int×(Int×Int×Int×Int×Int)×Int×List Int)×Int)}:AF x=ez x:=by
 obtain⟨⟨a,b,c,d,e,f,g⟩,s,k,w,ch,⟨fk,fr,⟨t,p,m,n,y⟩,ff,fd⟩,at'⟩:=x
 simp only[AF,ez,t63,t61,LT.val,al,Bq,MX,Jo]
end Go.Ev.M
