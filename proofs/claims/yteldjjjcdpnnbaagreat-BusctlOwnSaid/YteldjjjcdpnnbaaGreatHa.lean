/-
  PROVED: what medl.Check and metronomeref07.Check compute. Conditions: none.
-/
import Derived.Test.YteldjjjcdpnnbaaGreatFc
namespace Go.Ev.M
open Go.Proofs
set_option maxRecDepth 100000
set_option linter.unusedVariables false
set_option linter.unusedSimpArgs false
open Go.Ev.Pl
abbrev jj:Ty:=(.struct [yI,yI,yI,yI,yI])
abbrev cf:Type:=Int×Int×Int×Int×Int
abbrev kC:Ty:=(.struct [yI,yI,yI,yI,yI,yI,yI])
abbrev gp:Type:=Int×Int×Int×Int×Int×Int×Int
abbrev Rz:Ty:=(.struct [yI,yB])
abbrev Bits:Type:=Int×List Int
abbrev r8:Ty:=(.struct [yI,yI,jj,yI,yB])
abbrev ia:Type:=Int×Int×cf×Int×List Int
abbrev js:Ty:=(.struct [yI,yI,Rz])
abbrev Seen:Type:=Int×Int×Bits
abbrev aP:Ty:=(.struct [Ol,(.slice .bool),(.slice .bool)])
abbrev Mode:Type:=List Int×List Bool×List Bool
abbrev bC:Ty:=(.struct [yI,yI,yI,yI,yI,yI,(.slice .bool),(.slice aP)])
abbrev ao:Type:=Int×Int×Int×Int×Int×Int×List Bool×List Mode
abbrev aM:Ty:=(.struct [yB,yI])
abbrev aW:Type:=List Int×Int
abbrev iT:Ty:=(.struct [yI,yB,(.slice aM),yI,yI])
abbrev bR:Type:=Int×List Int×List aW×Int×Int
abbrev cN:Ty:=(.struct [yI,yI,jj,kC,yI,.bool,yI,iT])
abbrev Node:Type:=Int×Int×cf×gp×Int×Bool×Int×bR
def FC(A:aZ)(n:Int)(least:Int)(most:Int):LT Bool Empty:=.br (A.c .geq n least) (.ret (A.c .leq n most)) (.ret false)
def dD:(Int×Int×Int)→Bool:=fun(n,least,most)=>(FC ai n least most).val (Ty.cn [.bool])
def Ub:aA:=⟨[yI,yI,yI], [.bool],(@tt (Int×Int×Int)),dD⟩
theorem xX:Sd 143 Ub:=aL ax cm true 22 [] (fun A (n,least,most)=>FC A n least most) (fc Tryz.func143 fz) sz (fun((n,least,most):Int×Int×Int) hp h=>by
 show(FC ai n least most).pre=true
 simp[FC,LT.pre,ap,dc])
theorem iX{x a b:Int}:dD (x,a,b)=(decide (a≤x)&&decide (x≤b)):=by
 simp only[dD,FC,LT.val,aN,aF]
 cases decide (a≤x)<;>rfl
theorem TS{α:Type}{x y:α}:(bif true then x else y)=x:=rfl
theorem nW{l:List Bool}{i:Nat}(h:i<l.length):(ai.n .bool l (i:Int):Bool)=l[i]:=getD_in h _
theorem Hr{l:List Int}{i:Nat}(h:i<l.length):(ai.n (.int .i64) l (i:Int):Int)=l[i]:=getD_in h _
theorem fO{α:Type}{l:List α}:ai.l l=(l.length:Int):=rfl
theorem jc{n s g w d de:Int}{cold:List Bool}{modes:List Mode}(h:Ty.has bC (n,s,g,w,d,de,cold,modes)):(-9223372036854775808≤n∧n≤9223372036854775807)∧cold.length≤140737488355328∧modes.length≤140737488355328∧∀x∈modes,x.1.length≤140737488355328∧x.2.1.length≤140737488355328∧∀d∈x.1,IntKind.i64.has d:=by
 obtain⟨h1,_,_,_,_,_,h2,h3⟩:=h
 exact⟨h1,h2.1,h3.1,fun x hx=>⟨(h3.2 x hx).1.1,(h3.2 x hx).2.1.1,(h3.2 x hx).1.2⟩⟩
structure Kb where
 (a1:List Bool) (a2 a4 a5 a6 a7 a8 a9:Int) (bW:List Bool) (dM:List Mode)
inductive Fh where
 | c0 (p:Kb) (a0:Int) (a3:Int)
noncomputable def Kk:Fh→fJ
 | .c0 p a0 a3=>⟨[⟨139,38,(en [(1,.ptr 0 0),(3,vi a0),(7,.sl .bool p.a1),(8,vi p.a2),(9,vi a3)]),[.inLoop (cw Tryz.f139 [1,1,0,1,0,0]),.inBlock 0,.code (cw Tryz.f139 [1,1,1])],[],none⟩],[.flat false [vi p.a4,vi p.a5,vi p.a6,vi p.a7,vi p.a8,vi p.a9,.sl .bool p.bW,.sl aP p.dM],.dead]⟩
def t154(A:aZ)(mNodes:Int)(mSlot:Int)(mGap:Int)(mWindow:Int)(mDrift:Int)(mDelay:Int)(mCold:List Bool)(mModes:List Mode):LT Bool Fh:=.more (.c0 ⟨mCold,(A.l mCold),mNodes,mSlot,mGap,mWindow,mDrift,mDelay,mCold,mModes⟩ 0 0)
def D9(A:aZ):Fh→LT Bool Fh
 | .c0 p a0 a3=>.br (A.c .lss a3 p.a2) (.need (A.and (A.c .leq 0 a3) (A.c .lss a3 (A.l p.a1))) (.br (A.n .bool p.a1 a3:Bool) (.more (.c0 p (A.b .add .i64 a0 1) (A.b .add .i64 a3 1))) (.more (.c0 p a0 (A.b .add .i64 a3 1))))) (.need (A.k (@tt (Int×Int×Int)) (p.a4,4,8)) (.br (A.k dD (p.a4,4,8)) (.need (A.k (@tt (Int×Int×Int)) ((A.l p.dM),1,4)) (.br (A.k dD ((A.l p.dM),1,4)) (.br (A.c .eql (A.l p.bW) p.a4) (.ret (A.c .geq a0 2)) (.ret false)) (.ret false))) (.ret false)))
def countB(m:ao):Bool:=dD (m.1,4,8)&&dD ((m.2.2.2.2.2.2.2.length:Int),1,4)&&((m.2.2.2.2.2.2.1.length:Int)==m.1)&&decide (2≤(m.2.2.2.2.2.2.1.count true:Int))
theorem Lr{n s g w d de:Int}{cold:List Bool}{modes:List Mode}(hl:cold.length≤140737488355328):∀(j i c:Nat),cold.length-i=j→i≤cold.length→c≤i→
  aB (D9 ai) (.more (.c0 ⟨cold,(cold.length:Int),n,s,g,w,d,de,cold,modes⟩ (c:Int) (i:Int))) (dD (n,4,8)&&dD ((modes.length:Int),1,4)&&((cold.length:Int)==n)&&decide (2≤((c+(cold.drop i).count true:Nat):Int))):=by
 intro j
 induction j with
 | zero=>
  intro i c hj hi hc
  have:i=cold.length:=by omega
  subst this
  rw[ak,D9]
  refine(ah (by rw[aJ];simp)).2 ?_
  rw[List.drop_length]
  simp only[af,ap,dc,true_and]
  cases dD (n,4,8)
  ·exact(ah rfl).2 (.ret _)
  refine(aj rfl).2 ?_
  simp only[af,ap,dc,true_and,fO]
  cases dD ((modes.length:Int),1,4)
  ·exact(ah rfl).2 (.ret _)
  refine(aj rfl).2 ?_
  rw[aS]
  cases ((cold.length:Int)==n)
  ·exact(ah rfl).2 (.ret _)
  refine(aj rfl).2 ?_
  rw[aN]
  exact .ret _
 | succ j ih=>
  intro i c hj hi hc
  have hi':i<cold.length:=by omega
  rw[ak,D9]
  refine(aj (by rw[aJ];simp;omega)).2 (af.2 ⟨aK hi',?_⟩)
  rw[List.drop_eq_getElem_cons hi',List.count_cons]
  cases hb:cold[i]
  ·refine(ah ((nW hi').trans hb)).2 ?_
   refine bi (congrArg (fun z=>LT.more (Fh.c0 _ _ z)) (cy (by omega))) (al ?_ (ih (i+1) c (by omega) (by omega) (by omega)))
   simp
  ·refine(aj ((nW hi').trans hb)).2 ?_
   rw[cy (i:=c) (by omega),cy (i:=i) (by omega)]
   refine al ?_ (ih (i+1) (c+1) (by omega) (by omega) (by omega))
   simp[Nat.add_assoc,Nat.add_comm 1]
theorem MM{n s g w d de:Int}{cold:List Bool}{modes:List Mode}(h:Ty.has bC (n,s,g,w,d,de,cold,modes)):aB (D9 ai) (t154 ai n s g w d de cold modes) (countB (n,s,g,w,d,de,cold,modes)):=
 al (by simp[countB]) (Lr (jc h).2.1 cold.length 0 0 rfl (by omega) (by omega))
def EK:ao→Bool:=countB
def Rf:aA:=⟨[bC], [.bool],(@tt ao),EK⟩
theorem OJ:Sd 139 Rf:=aH ax cm true 25 [⟨139,3, [[1,3,7,8,9]]⟩] [] (fun A (mNodes,mSlot,mGap,mWindow,mDrift,mDelay,mCold,mModes)=>t154 A mNodes mSlot mGap mWindow mDrift mDelay mCold mModes) D9 Kk (fc Tryz.func139 fz) (sc xX sz) (fun A y=>match y with |.c0 p a0 a3=>⟨38,by kernel_rfl,by kernel_rfl⟩) fun(mNodes,mSlot,mGap,mWindow,mDrift,mDelay,mCold,mModes) hp h=>MM h
structure L0 where
 (a0:List Int) (a1 a3 a4 a5 a6 a7 a8:Int) (a9:List Bool) (bW:List Mode) (dM:List Int) (a12 nC:List Bool)
inductive BK where
 | c0 (p:L0) (a2:Int)
noncomputable def Ks:BK→fJ
 | .c0 p a2=>⟨[⟨142,57,(en [(2,.ptr 0 0),(3,.ptr 1 0),(31,.sl yI p.a0),(32,vi p.a1),(33,vi a2)]),[.inLoop (cw Tryz.f142 [1,1,0,1,0,0]),.inBlock 0,.code (cw Tryz.f142 [1,1,1])],[],none⟩],[.flat false [vi p.a3,vi p.a4,vi p.a5,vi p.a6,vi p.a7,vi p.a8,.sl .bool p.a9,.sl aP p.bW],.flat false [.sl yI p.dM,.sl .bool p.a12,.sl .bool p.nC],.dead]⟩
def t157(A:aZ)(mNodes:Int)(mSlot:Int)(mGap:Int)(mWindow:Int)(mDrift:Int)(mDelay:Int)(mCold:List Bool)(mModes:List Mode)(xData:List Int)(xExplicit:List Bool)(xNext:List Bool):LT Bool BK:=.br (A.c .neq (A.l xData) mNodes) (.ret false) (.br (A.c .neq (A.l xExplicit) mNodes) (.ret false) (.br (A.c .neq (A.l xNext) (A.l mModes)) (.ret false) (.more (.c0 ⟨xData,(A.l xData),mNodes,mSlot,mGap,mWindow,mDrift,mDelay,mCold,mModes,xData,xExplicit,xNext⟩ 0))))
def BZ(A:aZ):BK→LT Bool BK
 | .c0 p a2=>.br (A.c .lss a2 p.a1) (.need (A.and (A.c .leq 0 a2) (A.c .lss a2 (A.l p.a0))) (.need (A.k (@tt (Int×Int×Int)) ((A.n yI p.a0 a2:Int),0,8)) (.br (A.not (A.k dD ((A.n yI p.a0 a2:Int),0,8))) (.ret false) (.need (A.and (A.c .leq 0 a2) (A.c .lss a2 (A.l p.a9))) (.br (A.n .bool p.a9 a2:Bool) (.need (A.and (A.c .leq 0 a2) (A.c .lss a2 (A.l p.a12))) (.br (A.not (A.n .bool p.a12 a2:Bool)) (.ret false) (.more (.c0 p (A.b .add .i64 a2 1))))) (.more (.c0 p (A.b .add .i64 a2 1)))))))) (.ret true)
def mP:List Int→List Bool→List Bool→Bool
 | d::ds,c::cs,e::es=>(decide (0≤d)&&decide (d≤8))&&(!c||e)&&mP ds cs es
 | _,_,_=>true
def gl(m:ao)(x:Mode):Bool:=((x.1.length:Int)==m.1)&&((x.2.1.length:Int)==m.1)&&(x.2.2.length==m.2.2.2.2.2.2.2.length)&&mP x.1 m.2.2.2.2.2.2.1 x.2.1
theorem Uk{n s g w d de:Int}{cold expl next:List Bool}{modes:List Mode}{data:List Int}(hl:data.length≤140737488355328)(hc:cold.length=data.length)(he:expl.length=data.length):∀(j i:Nat),data.length-i=j→i≤data.length→
  aB (BZ ai) (.more (.c0 ⟨data,(data.length:Int),n,s,g,w,d,de,cold,modes,data,expl,next⟩ (i:Int))) (mP (data.drop i) (cold.drop i) (expl.drop i)):=by
 intro j
 induction j with
 | zero=>
  intro i hj hi
  have:i=data.length:=by omega
  subst this
  rw[ak,BZ]
  refine(ah (by rw[aJ];simp)).2 ?_
  rw[List.drop_length]
  exact .ret _
 | succ j ih=>
  intro i hj hi
  have hi':i<data.length:=by omega
  rw[ak,BZ]
  refine(aj (by rw[aJ];simp;omega)).2 (af.2 ⟨aK hi',af.2 ⟨rfl,?_⟩⟩)
  rw[List.drop_eq_getElem_cons hi',List.drop_eq_getElem_cons (show i<cold.length by omega),List.drop_eq_getElem_cons (show i<expl.length by omega),mP]
  have hm:=ih (i+1) (by omega) (by omega)
  have hw:ai.k dD ((ai.n (.int .i64) data (i:Int):Int),0,8)=(decide (0≤data[i])&&decide (data[i]≤8)):=by
   rw[ap,Hr hi',iX]
  cases hw':(decide (0≤data[i])&&decide (data[i]≤8))
  ·exact(aj (by rw[hw,hw'];rfl)).2 (.ret _)
  refine(ah (by rw[hw,hw'];rfl)).2 (af.2 ⟨aK (show i<cold.length by omega),?_⟩)
  cases hcb:cold[i]
  ·refine(ah ((nW (show i<cold.length by omega)).trans hcb)).2 ?_
   exact bi (congrArg (fun z=>LT.more (BK.c0 _ z)) (cy (by omega))) hm
  ·refine(aj ((nW (show i<cold.length by omega)).trans hcb)).2 (af.2 ⟨aK (show i<expl.length by omega),?_⟩)
   cases heb:expl[i]
   ·exact(aj (by rw[nW (show i<expl.length by omega),heb];rfl)).2 (.ret _)
   ·refine(ah (by rw[nW (show i<expl.length by omega),heb];rfl)).2 ?_
    exact bi (congrArg (fun z=>LT.more (BK.c0 _ z)) (cy (by omega))) hm
theorem OV{n s g w d de:Int}{cold expl next:List Bool}{modes:List Mode}{data:List Int}(hl:data.length≤140737488355328)(hc:(cold.length:Int)=n) :
  aB (BZ ai) (t157 ai n s g w d de cold modes data expl next) (gl (n,s,g,w,d,de,cold,modes) (data,expl,next)):=by
 unfold t157 gl
 simp only[fO]
 by_cases h1:(data.length:Int)=n
 ·refine(ah (cJ h1)).2 ?_
  by_cases h2:(expl.length:Int)=n
  ·refine(ah (cJ h2)).2 ?_
   by_cases h3:(next.length:Int)=modes.length
   ·refine(ah (cJ h3)).2 (al ?_ (Uk hl (by omega) (by omega) data.length 0 rfl (by omega)))
    rw[beq_iff_eq.2 h1,beq_iff_eq.2 h2,beq_iff_eq.2 (show next.length=modes.length by omega)];rfl
   ·refine(aj (eE h3)).2 (al ?_ (.ret _))
    rw[beq_eq_false_iff_ne.2 (show next.length≠modes.length by omega),Bool.and_false,Bool.false_and]
  ·refine(aj (eE h2)).2 (al ?_ (.ret _))
   rw[beq_eq_false_iff_ne.2 h2,Bool.and_false];rfl
 ·refine(aj (eE h1)).2 (al ?_ (.ret _))
  rw[beq_eq_false_iff_ne.2 h1];rfl
def Bu:(ao×Mode)→Bool:=fun(m,x)=>gl m x
def zV:(ao×Mode)→Bool:=fun(m,_)=>(m.2.2.2.2.2.2.1.length:Int)==m.1
def Qa:aA:=⟨[bC,aP], [.bool],zV,Bu⟩
theorem Un:Sd 142 Qa:=aH ax cm true 51 [⟨142,4, [[2,3,31,32,33]]⟩] [] (fun A ((mNodes,mSlot,mGap,mWindow,mDrift,mDelay,mCold,mModes),xData,xExplicit,xNext)=>t157 A mNodes mSlot mGap mWindow mDrift mDelay mCold mModes xData xExplicit xNext) BZ Ks (fc Tryz.func142 fz) (sc xX sz) (fun A y=>match y with |.c0 p a2=>⟨51,by kernel_rfl,by kernel_rfl⟩) fun(((mNodes,mSlot,mGap,mWindow,mDrift,mDelay,mCold,mModes),xData,xExplicit,xNext):ao×Mode) hp h=>by
 show aB (BZ ai) (t157 ai mNodes mSlot mGap mWindow mDrift mDelay mCold mModes xData xExplicit xNext) (Bu ((mNodes,mSlot,mGap,mWindow,mDrift,mDelay,mCold,mModes),xData,xExplicit,xNext))
 exact OV h.2.1.1 (by simpa [zV] using hp)
open Go.Ev.Pl
def t183(A:aZ)(explicit:Bool)(data:Int):LT Int Empty:=.br (A.not explicit) (.ret 2) (.br (A.c .gtr data 0) (.ret 4) (.ret 3))
def iO:(Bool×Int)→Int:=fun(explicit,data)=>(t183 ai explicit data).val (Ty.cn [yI])
def Tv:aA:=⟨[.bool,yI], [yI],(@tt (Bool×Int)),iO⟩
theorem Ju:Sd 208 Tv:=aL ax cm true 32 [] (fun A (explicit,data)=>t183 A explicit data) (fc Tryz.func208 fz) sz (fun((explicit,data):Bool×Int) hp h=>by
 show(t183 ai explicit data).pre=true
 simp[t183,LT.pre,ap,dc])
def t173(A:aZ)(n:Int):LT Int Empty:=.br (A.c .lss n 0) (.ret 0) (.br (A.c .gtr n 4095) (.ret 0) (.ret (A.b .add .i64 14 (A.b .quo .i64 (A.b .add .i64 n 1) 2))))
def nu:Int→Int:=fun n=>(t173 ai n).val (Ty.cn [yI])
def R6:aA:=⟨[yI], [yI],(@tt Int),nu⟩
theorem SO:Sd 226 R6:=aL ax cm true 30 [] (fun A n=>t173 A n) (fc Tryz.func226 fz) sz (fun(n:Int) hp h=>by
 show(t173 ai n).pre=true
 simp[t173,LT.pre,ap,dc])
structure Nr where
 (a0:Int) (a1:List Mode) (a2 a3 a4 a5 a6 a7 a8 a9:Int) (bW:List Bool) (dM:List Mode)
structure MZ where
 (b1:List Mode) (b2 b3:Int) (b4:List Int) (b5 b7 b8 b9 b10 b11 b12:Int) (b13:List Bool) (xW:List Mode) (zk:List Int) (uE Bl:List Bool)
inductive G0 where
 | c0 (p:Nr)
 | c1 (p:MZ) (b0:Int) (b6:Int)
noncomputable def Lf:G0→fJ
 | .c0 p=>⟨[⟨199,55,(en [(1,.ptr 0 0),(3,vi p.a0),(12,.sl aP p.a1),(13,vi p.a2),(14,vi p.a3)]),[.inLoop (cw Tryz.f199 [1,1,0,1,0,0]),.inBlock 0,.code (cw Tryz.f199 [1,1,1])],[],none⟩],[.flat false [vi p.a4,vi p.a5,vi p.a6,vi p.a7,vi p.a8,vi p.a9,.sl .bool p.bW,.sl aP p.dM],.dead]⟩
 | .c1 p b0 b6=>⟨[⟨199,55,(en [(1,.ptr 0 0),(3,vi b0),(5,.ptr 1 0),(12,.sl aP p.b1),(13,vi p.b2),(14,vi p.b3),(19,.sl yI p.b4),(20,vi p.b5),(21,vi b6)]),[.inLoop (cw Tryz.f199 [1,1,0,1,0,0,1,1,0,0,1,1,0,0]),.inBlock 2,.inBlock 1,.code (cw Tryz.f199 [1,1,0,1,0,0,1,1,1]),.inLoop (cw Tryz.f199 [1,1,0,1,0,0]),.inBlock 0,.code (cw Tryz.f199 [1,1,1])],[],none⟩],[.flat false [vi p.b7,vi p.b8,vi p.b9,vi p.b10,vi p.b11,vi p.b12,.sl .bool p.b13,.sl aP p.xW],.flat false [.sl yI p.zk,.sl .bool p.uE,.sl .bool p.Bl],.dead]⟩
def VB(A:aZ)(mNodes:Int)(mSlot:Int)(mGap:Int)(mWindow:Int)(mDrift:Int)(mDelay:Int)(mCold:List Bool)(mModes:List Mode):LT Int G0:=.need (A.k (@tt (Int×Int)) (1,0)) (.need (A.k (@tt Int) (A.k kU (1,0))) (.more (.c0 ⟨(A.k nu (A.k kU (1,0))),mModes,(A.l mModes),0,mNodes,mSlot,mGap,mWindow,mDrift,mDelay,mCold,mModes⟩)))
def xB(A:aZ):G0→LT Int G0
 | .c0 p=>.br (A.c .lss p.a3 p.a2) (.need (A.and (A.c .leq 0 p.a3) (A.c .lss p.a3 (A.l p.a1))) (.more (.c1 ⟨p.a1,p.a2,p.a3,(A.n aP p.a1 p.a3:Mode).1,(A.l (A.n aP p.a1 p.a3:Mode).1),p.a4,p.a5,p.a6,p.a7,p.a8,p.a9,p.bW,p.dM,(A.n aP p.a1 p.a3:Mode).1,(A.n aP p.a1 p.a3:Mode).2.1,(A.n aP p.a1 p.a3:Mode).2.2⟩ p.a0 0))) (.ret p.a0)
 | .c1 p b0 b6=>.br (A.c .lss b6 p.b5) (.need (A.and (A.c .leq 0 b6) (A.c .lss b6 (A.l p.b4))) (.br (A.c .lss b6 p.b7) (.br (A.c .lss b6 (A.l p.uE)) (.need (A.and (A.c .leq 0 b6) (A.c .lss b6 (A.l p.uE))) (.need (A.k (@tt (Bool×Int)) ((A.n .bool p.uE b6:Bool),(A.n yI p.b4 b6:Int))) (.need (A.k (@tt (Int×Int)) ((A.k iO ((A.n .bool p.uE b6:Bool),(A.n yI p.b4 b6:Int))),(A.n yI p.b4 b6:Int))) (.br (A.c .gtr (A.k kU ((A.k iO ((A.n .bool p.uE b6:Bool),(A.n yI p.b4 b6:Int))),(A.n yI p.b4 b6:Int))) 0) (.need (A.k (@tt Int) (A.k kU ((A.k iO ((A.n .bool p.uE b6:Bool),(A.n yI p.b4 b6:Int))),(A.n yI p.b4 b6:Int)))) (.more (.c1 p (A.mx b0 (A.k nu (A.k kU ((A.k iO ((A.n .bool p.uE b6:Bool),(A.n yI p.b4 b6:Int))),(A.n yI p.b4 b6:Int))))) (A.b .add .i64 b6 1)))) (.more (.c1 p b0 (A.b .add .i64 b6 1))))))) (.more (.c1 p b0 (A.b .add .i64 b6 1)))) (.more (.c1 p b0 (A.b .add .i64 b6 1))))) (.more (.c0 ⟨b0,p.b1,p.b2,(A.b .add .i64 p.b3 1),p.b7,p.b8,p.b9,p.b10,p.b11,p.b12,p.b13,p.xW⟩))
def tj(b:Int)(x:Int×Bool):Int:=bif decide (0<kU (iO (x.2,x.1),x.1)) then ai.mx b (nu (kU (iO (x.2,x.1),x.1))) else b
def od(n:Nat)(b:Int)(x:Mode):Int:=((x.1.zip x.2.1).take n).foldl tj b
def eP(m:ao):Int:=m.2.2.2.2.2.2.2.foldl (od m.1.toNat) (nu (kU (1,0)))
theorem E8{data:List Int}{expl:List Bool}{n:Int}{i:Nat}(h1:i<data.length)(h2:i<expl.length)(h3:(i:Int)<n):((data.zip expl).take n.toNat).drop i=(data[i],expl[i])::((data.zip expl).take n.toNat).drop (i+1):=by
 have hl:i<((data.zip expl).take n.toNat).length:=by simp[List.length_take,List.length_zip];omega
 rw[List.drop_eq_getElem_cons hl,List.getElem_take,List.getElem_zip]
theorem qe{data:List Int}{expl:List Bool}{n:Int}{i:Nat}(h:expl.length≤i∨n≤(i:Int)∨data.length≤i):((data.zip expl).take n.toNat).drop i=[]:=by
 apply List.drop_of_length_le
 simp[List.length_take,List.length_zip];omega
theorem Au{i:Nat}{n:Int}:ai.c .lss (i:Int) n=decide ((i:Int)<n):=rfl
theorem Ee{b:Int}{d:Int}{e:Bool}:tj b (d,e)=bif ai.c .gtr (ai.k kU ((ai.k iO (e,d)),d)) 0 then ai.mx b (ai.k nu (ai.k kU ((ai.k iO (e,d)),d))) else b:=rfl
theorem Wl{n s g w d de:Int}{cold expl next:List Bool}{modes ms:List Mode}{data:List Int}{L k k1:Int}{F:Int→Int}(hl:data.length≤140737488355328)(hk:ai.b .add .i64 k 1=k1)(hnext:∀b,aB (xB ai) (.more (.c0 ⟨b,ms,L,k1,n,s,g,w,d,de,cold,modes⟩)) (F b)) :
  ∀(j i:Nat) (b:Int),data.length-i=j→i≤data.length→aB (xB ai) (.more (.c1 ⟨ms,L,k,data,(data.length:Int),n,s,g,w,d,de,cold,modes,data,expl,next⟩ b (i:Int))) (F ((((data.zip expl).take n.toNat).drop i).foldl tj b)):=by
 intro j
 induction j with
 | zero=>
  intro i b hj hi
  have:i=data.length:=by omega
  subst this
  rw[ak,xB]
  refine(ah (by rw[aJ];simp)).2 ?_
  rw[qe (.inr (.inr (Nat.le_refl _))),hk]
  exact hnext b
 | succ j ih=>
  intro i b hj hi
  have hi':i<data.length:=by omega
  rw[ak,xB]
  refine(aj (by rw[aJ];simp;omega)).2 (af.2 ⟨aK hi',?_⟩)
  have hm:=fun b=>ih (i+1) b (by omega) (by omega)
  by_cases h3:(i:Int)<n
  ·refine(aj (by rw[Au];simpa using h3)).2 ?_
   by_cases h2:i<expl.length
   ·refine(aj (by rw[fO,aJ];simpa using h2)).2 (af.2 ⟨aK (show i<expl.length from h2),af.2 ⟨rfl,af.2 ⟨rfl,?_⟩⟩⟩)
    rw[E8 hi' h2 h3,List.foldl_cons,Ee,←Hr hi',←nW h2,cy (i:=i) (by omega)]
    cases hb:ai.c .gtr (ai.k kU ((ai.k iO ((ai.n .bool expl (i:Int):Bool),(ai.n (.int .i64) data (i:Int):Int))),(ai.n (.int .i64) data (i:Int):Int))) 0
    ·exact(ah rfl).2 (hm _)
    ·exact(aj rfl).2 (af.2 ⟨rfl,hm _⟩)
   ·refine(ah (by rw[fO,aJ];simpa using h2)).2 ?_
    rw[cy (i:=i) (by omega)]
    have:=hm b
    rw[qe (.inl (by omega))] at this ⊢
    exact this
  ·refine(ah (by rw[Au];simpa using h3)).2 ?_
   rw[cy (i:=i) (by omega)]
   have:=hm b
   rw[qe (.inr (.inl (by omega)))] at this ⊢
   exact this
theorem VV{n s g w d de:Int}{cold:List Bool}{modes ms:List Mode}(hl:ms.length≤140737488355328)(hd:∀x∈ms,x.1.length≤140737488355328) :
  ∀(j k:Nat) (b:Int),ms.length-k=j→k≤ms.length→aB (xB ai) (.more (.c0 ⟨b,ms,(ms.length:Int),(k:Int),n,s,g,w,d,de,cold,modes⟩)) ((ms.drop k).foldl (od n.toNat) b):=by
 intro j
 induction j with
 | zero=>
  intro k b hj hk
  have:k=ms.length:=by omega
  subst this
  rw[ak,xB]
  refine(ah (by rw[aJ];simp)).2 ?_
  rw[List.drop_length]
  exact .ret _
 | succ j ih=>
  intro k b hj hk
  have hk':k<ms.length:=by omega
  rw[ak,xB]
  refine(aj (by rw[aJ];simp;omega)).2 (af.2 ⟨aK hk',?_⟩)
  rw[show(ai.n aP ms (k:Int):Mode)=ms[k] from getD_in hk' _,List.drop_eq_getElem_cons hk',List.foldl_cons]
  exact Wl (F:=fun b=>(ms.drop (k+1)).foldl (od n.toNat) b) (hd _ (List.getElem_mem hk')) (cy (by omega)) (fun b=>ih (k+1) b (by omega) (by omega)) ms[k].1.length 0 b rfl (by omega)
theorem max2{n s g w d de:Int}{cold:List Bool}{modes:List Mode}(h:Ty.has bC (n,s,g,w,d,de,cold,modes)):aB (xB ai) (VB ai n s g w d de cold modes) (eP (n,s,g,w,d,de,cold,modes)):=
 af.2 ⟨rfl,af.2 ⟨rfl,VV (jc h).2.2.1 (fun x hx=>((jc h).2.2.2 x hx).1) modes.length 0 _ rfl (by omega)⟩⟩
def JS:ao→Int:=eP
def Qk:aA:=⟨[bC], [yI],(@tt ao),JS⟩
theorem SC:Sd 199 Qk:=aH ax cm true 27 [⟨199,3, [[1,3,12,13,14]]⟩,⟨199,6, [[1,3,5,12,13,14,19,20,21]]⟩] [] (fun A (mNodes,mSlot,mGap,mWindow,mDrift,mDelay,mCold,mModes)=>VB A mNodes mSlot mGap mWindow mDrift mDelay mCold mModes) xB Lf (fc Tryz.func199 fz) (sc Yd (sc SO (sc Ju sz))) (fun A y=>match y with |.c0 p=>⟨31,by kernel_rfl,by kernel_rfl⟩|.c1 p b0 b6=>⟨69,by kernel_rfl,by kernel_rfl⟩) fun(mNodes,mSlot,mGap,mWindow,mDrift,mDelay,mCold,mModes) hp h=>max2 h
def t159(A:aZ)(mNodes:Int)(mSlot:Int)(mGap:Int)(mWindow:Int)(mDrift:Int)(mDelay:Int)(mCold:List Bool)(mModes:List Mode):LT (Int×Int×Int) Empty:=.need (A.k (@tt ao) (mNodes,mSlot,mGap,mWindow,mDrift,mDelay,mCold,mModes)) (.ret ((A.b .add .i64 (A.b .mul .i64 (A.b .mul .i64 16 mNodes) mDrift) 16),(A.b .add .i64 (A.b .add .i64 (A.b .mul .i64 2 mWindow) (A.b .mul .i64 2 mDelay)) 4),(A.b .add .i64 (A.b .mul .i64 2 mGap) (A.k JS (mNodes,mSlot,mGap,mWindow,mDrift,mDelay,mCold,mModes)))))
def lw:ao→(Int×Int×Int):=fun(mNodes,mSlot,mGap,mWindow,mDrift,mDelay,mCold,mModes)=>(t159 ai mNodes mSlot mGap mWindow mDrift mDelay mCold mModes).val (Ty.cn [yI,yI,yI])
def VA:aA:=⟨[bC], [yI,yI,yI],(@tt ao),lw⟩
theorem R_:Sd 144 VA:=aL ax cm true 50 [] (fun A (mNodes,mSlot,mGap,mWindow,mDrift,mDelay,mCold,mModes)=>t159 A mNodes mSlot mGap mWindow mDrift mDelay mCold mModes) (fc Tryz.func144 fz) (sc SC sz) (fun((mNodes,mSlot,mGap,mWindow,mDrift,mDelay,mCold,mModes):ao) hp h=>by
 show(t159 ai mNodes mSlot mGap mWindow mDrift mDelay mCold mModes).pre=true
 simp[t159,LT.pre,ap,dc])
theorem au{R Y:Type}{step:Y→LT R Y}{t e:LT R Y}{r:R}{p:Prop}[Decidable p]{b:Bool}(hb:b=decide p)(ht:p→aB step t r)(he:¬p→aB step e r):aB step (.br b t e) r:=by
 by_cases h:p
 ·exact(aj (by rw[hb];simpa using h)).2 (ht h)
 ·exact(ah (by rw[hb];simpa using h)).2 (he h)
theorem dT{R Y:Type}{step:Y→LT R Y}{t e:LT R Y}{r:R}{x a b:Int}(ht:¬(a≤x∧x≤b)→aB step t r)(he:a≤x∧x≤b→aB step e r):aB step (.br (ai.not (ai.k dD (x,a,b))) t e) r:=by
 refine au (p:=¬(a≤x∧x≤b)) ?_ ht (fun h=>he (Decidable.not_not.1 h))
 rw[cu,ap,iX,←Bool.decide_and,←decide_not]
theorem vx{n:Int}:0≤nu n∧nu n≤2062:=by
 simp only[nu,t173,LT.val,ar,aG,Bool.cond_eq_ite,decide_eq_true_eq]
 split
 ·omega
 ·split
  ·omega
  ·rw[bH,Aw,bH,fQ (a:=n+1) (by omega) (by omega)]
   have:(n+1).tdiv 2=(n+1)/2:=Int.tdiv_eq_ediv_of_nonneg (by omega)
   rw[this,fQ (a:=(n+1)/2) (by omega) (by omega),fQ (by omega) (by omega)]
   omega
theorem DX{b:Int}{x:Int×Bool}(h:0≤b∧b≤2062):0≤tj b x∧tj b x≤2062:=by
 have:=vx (n:=kU (iO (x.2,x.1),x.1))
 unfold tj
 cases decide (0<kU (iO (x.2,x.1),x.1))
 ·exact h
 ·rw[TS,KX];split<;>omega
theorem nE{α:Type}{f:Int→α→Int}(hf:∀b x,0≤b∧b≤2062→0≤f b x∧f b x≤2062):∀{l:List α} {b:Int},0≤b∧b≤2062→0≤l.foldl f b∧l.foldl f b≤2062
 | [],_,h=>h
 | x::l,b,h=>nE hf (l:=l) (hf b x h)
theorem qo{m:ao}:0≤eP m∧eP m≤2062:=nE (fun _ _ h=>nE (fun _ _ h=>DX h) h) vx
def ig(n s g w d de mx:Int):Bool:=decide (0≤d∧d≤64∧0≤de∧de≤64∧16*n*d+16≤w∧w≤1048576∧2*w+2*de+4≤g∧g≤1048576∧2*g+mx≤s∧s≤16777216)
def dL(m:ao):Bool:=countB m&&m.2.2.2.2.2.2.2.all (gl m)&&ig m.1 m.2.1 m.2.2.1 m.2.2.2.1 m.2.2.2.2.1 m.2.2.2.2.2.1 (eP m)
def fP(m:ao):Int:=bif dL m then 0 else 70
theorem EE{n d:Int}(h:4≤n∧n≤8)(h2:0≤d∧d≤64):ai.b .add .i64 (ai.b .mul .i64 (ai.b .mul .i64 16 n) d) 16=16*n*d+16:=by
 have h3:0≤16*n*d∧16*n*d≤8192:=by
  have:n=4∨n=5∨n=6∨n=7∨n=8:=by omega
  rcases this with rfl|rfl|rfl|rfl|rfl<;>omega
 rw[bH,mE,mE,fQ (a:=16*n) (by omega) (by omega),fQ (a:=16*n*d) (by omega) (by omega),fQ (by omega) (by omega)]
theorem mr{n d:Int}(h:4≤n∧n≤8)(h2:0≤d∧d≤64):0≤16*n*d:=by
 have:n=4∨n=5∨n=6∨n=7∨n=8:=by omega
 rcases this with rfl|rfl|rfl|rfl|rfl<;>omega
theorem FB{w de:Int}(h:0≤w∧w≤1048576)(h2:0≤de∧de≤64):ai.b .add .i64 (ai.b .add .i64 (ai.b .mul .i64 2 w) (ai.b .mul .i64 2 de)) 4=2*w+2*de+4:=by
 rw[bH,bH,mE,mE,fQ (a:=2*w) (by omega) (by omega),fQ (a:=2*de) (by omega) (by omega),fQ (a:=2*w+2*de) (by omega) (by omega),fQ (by omega) (by omega)]
theorem Az{g mx:Int}(h:0≤g∧g≤1048576)(h2:0≤mx∧mx≤2062):ai.b .add .i64 (ai.b .mul .i64 2 g) mx=2*g+mx:=by
 rw[bH,mE,fQ (a:=2*g) (by omega) (by omega),fQ (by omega) (by omega)]
theorem E7{n s g w d de:Int}{cold:List Bool}{modes:List Mode}:lw (n,s,g,w,d,de,cold,modes)=(ai.b .add .i64 (ai.b .mul .i64 (ai.b .mul .i64 16 n) d) 16,ai.b .add .i64 (ai.b .add .i64 (ai.b .mul .i64 2 w) (ai.b .mul .i64 2 de)) 4,ai.b .add .i64 (ai.b .mul .i64 2 g) (eP (n,s,g,w,d,de,cold,modes))):=rfl
open Go.Ev.Pl
structure KE where
 (a0:List Mode) (a1 a3 a4 a5 a6 a7 a8:Int) (a9:List Bool) (bW:List Mode)
inductive IA where
 | c0 (p:KE) (a2:Int)
noncomputable def Mt:IA→fJ
 | .c0 p a2=>⟨[⟨198,19,(en [(0,.sl aP p.a0),(1,.fn 141 [] [.ptr 0 0]),(7,vi p.a1),(8,vi a2)]),[.inLoop (cw Tryz.f198 [1,0,1,0,0]),.inBlock 0,.code (cw Tryz.f198 [1,1])],[],none⟩,⟨140,9,.leaf,[.ops (ow Tryz.f140 [1,0]) ((ow Tryz.f140 [1,0]).toList.drop 2),.code .ret],[],none⟩,⟨62,65,(en [(1,.ptr 0 0)]),[.ops (ow Tryz.f62 [1,0,0,0,0,0,0,0,0,1,0,0]) ((ow Tryz.f62 [1,0,0,0,0,0,0,0,0,1,0,0]).toList.drop 3),.code (cw Tryz.f62 [1,0,0,0,0,0,0,0,0,1,0,1]),.code (cw Tryz.f62 [1,0,0,0,0,0,0,0,0,1,1]),.code (.exit 0),.inBlock 1,.inBlock 2,.inBlock 3,.inBlock 4,.code (cw Tryz.f62 [1,0,0,1]),.inBlock 0,.code (cw Tryz.f62 [1,1])],[],none⟩],[.flat false [vi p.a3,vi p.a4,vi p.a5,vi p.a6,vi p.a7,vi p.a8,.sl .bool p.a9,.sl aP p.bW],.dead]⟩
def t124(A:aZ)(mNodes:Int)(mSlot:Int)(mGap:Int)(mWindow:Int)(mDrift:Int)(mDelay:Int)(mCold:List Bool)(mModes:List Mode):LT Int IA:=.need (A.k (@tt ao) (mNodes,mSlot,mGap,mWindow,mDrift,mDelay,mCold,mModes)) (.br (A.not (A.k EK (mNodes,mSlot,mGap,mWindow,mDrift,mDelay,mCold,mModes))) (.ret 70) (.more (.c0 ⟨mModes,(A.l mModes),mNodes,mSlot,mGap,mWindow,mDrift,mDelay,mCold,mModes⟩ 0)))
def CK(A:aZ):IA→LT Int IA
 | .c0 p a2=>.br (A.c .lss a2 p.a1) (.need (A.and (A.c .leq 0 a2) (A.c .lss a2 (A.l p.a0))) (.need (A.k zV ((p.a3,p.a4,p.a5,p.a6,p.a7,p.a8,p.a9,p.bW),(A.n aP p.a0 a2:Mode))) (.br (A.not (A.k Bu ((p.a3,p.a4,p.a5,p.a6,p.a7,p.a8,p.a9,p.bW),(A.n aP p.a0 a2:Mode)))) (.br (A.c .geq a2 0) (.ret 70) (.need (A.k (@tt (Int×Int×Int)) (p.a7,0,64)) (.br (A.not (A.k dD (p.a7,0,64))) (.ret 70) (.need (A.k (@tt (Int×Int×Int)) (p.a8,0,64)) (.br (A.not (A.k dD (p.a8,0,64))) (.ret 70) (.need (A.k (@tt (Int×Int×Int)) (p.a6,0,1048576)) (.br (A.not (A.k dD (p.a6,0,1048576))) (.ret 70) (.need (A.k (@tt (Int×Int×Int)) (p.a5,0,1048576)) (.br (A.not (A.k dD (p.a5,0,1048576))) (.ret 70) (.need (A.k (@tt (Int×Int×Int)) (p.a4,0,16777216)) (.br (A.not (A.k dD (p.a4,0,16777216))) (.ret 70) (.need (A.k (@tt ao) (p.a3,p.a4,p.a5,p.a6,p.a7,p.a8,p.a9,p.bW)) (.br (A.c .lss p.a6 (A.k lw (p.a3,p.a4,p.a5,p.a6,p.a7,p.a8,p.a9,p.bW)).1) (.ret 70) (.br (A.c .lss p.a5 (A.k lw (p.a3,p.a4,p.a5,p.a6,p.a7,p.a8,p.a9,p.bW)).2.1) (.ret 70) (.br (A.c .lss p.a4 (A.k lw (p.a3,p.a4,p.a5,p.a6,p.a7,p.a8,p.a9,p.bW)).2.2) (.ret 70) (.ret 0)))))))))))))))) (.more (.c0 p (A.b .add .i64 a2 1)))))) (.need (A.k (@tt (Int×Int×Int)) (p.a7,0,64)) (.br (A.not (A.k dD (p.a7,0,64))) (.ret 70) (.need (A.k (@tt (Int×Int×Int)) (p.a8,0,64)) (.br (A.not (A.k dD (p.a8,0,64))) (.ret 70) (.need (A.k (@tt (Int×Int×Int)) (p.a6,0,1048576)) (.br (A.not (A.k dD (p.a6,0,1048576))) (.ret 70) (.need (A.k (@tt (Int×Int×Int)) (p.a5,0,1048576)) (.br (A.not (A.k dD (p.a5,0,1048576))) (.ret 70) (.need (A.k (@tt (Int×Int×Int)) (p.a4,0,16777216)) (.br (A.not (A.k dD (p.a4,0,16777216))) (.ret 70) (.need (A.k (@tt ao) (p.a3,p.a4,p.a5,p.a6,p.a7,p.a8,p.a9,p.bW)) (.br (A.c .lss p.a6 (A.k lw (p.a3,p.a4,p.a5,p.a6,p.a7,p.a8,p.a9,p.bW)).1) (.ret 70) (.br (A.c .lss p.a5 (A.k lw (p.a3,p.a4,p.a5,p.a6,p.a7,p.a8,p.a9,p.bW)).2.1) (.ret 70) (.br (A.c .lss p.a4 (A.k lw (p.a3,p.a4,p.a5,p.a6,p.a7,p.a8,p.a9,p.bW)).2.2) (.ret 70) (.ret 0)))))))))))))))
theorem IZ{n s g w d de:Int}{cold:List Bool}{modes:List Mode}{R:Int}(hn:4≤n∧n≤8)(hR:R=bif ig n s g w d de (eP (n,s,g,w,d,de,cold,modes)) then 0 else 70) :
  aB (CK ai) (.need (ai.k (@tt (Int×Int×Int)) (d,0,64)) (.br (ai.not (ai.k dD (d,0,64))) (.ret 70) (.need (ai.k (@tt (Int×Int×Int)) (de,0,64)) (.br (ai.not (ai.k dD (de,0,64))) (.ret 70) (.need (ai.k (@tt (Int×Int×Int)) (w,0,1048576)) (.br (ai.not (ai.k dD (w,0,1048576))) (.ret 70) (.need (ai.k (@tt (Int×Int×Int)) (g,0,1048576)) (.br (ai.not (ai.k dD (g,0,1048576))) (.ret 70) (.need (ai.k (@tt (Int×Int×Int)) (s,0,16777216)) (.br (ai.not (ai.k dD (s,0,16777216))) (.ret 70) (.need (ai.k (@tt ao) (n,s,g,w,d,de,cold,modes)) (.br (ai.c .lss w (ai.k lw (n,s,g,w,d,de,cold,modes)).1) (.ret 70) (.br (ai.c .lss g (ai.k lw (n,s,g,w,d,de,cold,modes)).2.1) (.ret 70) (.br (ai.c .lss s (ai.k lw (n,s,g,w,d,de,cold,modes)).2.2) (.ret 70) (.ret 0))))))))))))))) R:=by
 have hm:=qo (m:=(n,s,g,w,d,de,cold,modes))
 have no:∀{p:Prop} [Decidable p],¬p→decide p=false:=fun h=>by simpa using h
 rw[hR]
 refine af.2 ⟨rfl,dT (fun h=>al ?_ (.ret _)) fun h1=>af.2 ⟨rfl,dT (fun h=>al ?_ (.ret _)) fun h2=>af.2 ⟨rfl,dT (fun h=>al ?_ (.ret _)) fun h3=>af.2 ⟨rfl,dT (fun h=>al ?_ (.ret _)) fun h4=>af.2 ⟨rfl,dT (fun h=>al ?_ (.ret _)) fun h5=>af.2 ⟨rfl,?_⟩⟩⟩⟩⟩⟩
 ·rw[ig,no (by omega)];rfl
 ·rw[ig,no (by omega)];rfl
 ·have:=fun h=>mr (n:=n) (d:=d) hn h
  rw[ig,no (by omega)];rfl
 ·have:=fun h=>mr (n:=n) (d:=d) hn h
  rw[ig,no (by omega)];rfl
 ·have:=fun h=>mr (n:=n) (d:=d) hn h
  rw[ig,no (by omega)];rfl
 ·have:=mr (n:=n) (d:=d) hn h1
  rw[ap,E7,EE hn h1,FB h3 h2,Az h4 hm]
  refine au (p:=w<16*n*d+16) rfl (fun h=>al ?_ (.ret _)) fun h6=>au (p:=g<2*w+2*de+4) rfl (fun h=>al ?_ (.ret _)) fun h7=>au (p:=s<2*g+eP (n,s,g,w,d,de,cold,modes)) rfl (fun h=>al ?_ (.ret _)) fun h8=>al ?_ (.ret _)
  ·rw[ig,no (by omega)];rfl
  ·rw[ig,no (by omega)];rfl
  ·rw[ig,no (by omega)];rfl
  ·rw[ig,decide_eq_true (by omega)];rfl
theorem Nk{n s g w d de:Int}{cold:List Bool}{modes:List Mode}(hl:modes.length≤140737488355328)(hc:(cold.length:Int)=n)(hn:4≤n∧n≤8):∀(j i:Nat),modes.length-i=j→i≤modes.length→
  aB (CK ai) (.more (.c0 ⟨modes,(modes.length:Int),n,s,g,w,d,de,cold,modes⟩ (i:Int))) (bif (modes.drop i).all (gl (n,s,g,w,d,de,cold,modes))&&ig n s g w d de (eP (n,s,g,w,d,de,cold,modes)) then 0 else 70):=by
 intro j
 induction j with
 | zero=>
  intro i hj hi
  have:i=modes.length:=by omega
  subst this
  rw[ak,CK]
  refine(ah (by rw[aJ];simp)).2 (IZ hn ?_)
  rw[List.drop_length];rfl
 | succ j ih=>
  intro i hj hi
  have hi':i<modes.length:=by omega
  rw[ak,CK]
  refine(aj (by rw[aJ];simp;omega)).2 (af.2 ⟨aK hi',?_⟩)
  have e:(ai.n aP modes (i:Int):Mode)=modes[i]:=getD_in hi' _
  rw[e,List.drop_eq_getElem_cons hi',List.all_cons]
  refine af.2 ⟨by show((cold.length:Int)==n)=true;simpa using hc,?_⟩
  have hf:ai.k Bu ((n,s,g,w,d,de,cold,modes),modes[i])=gl (n,s,g,w,d,de,cold,modes) modes[i]:=rfl
  rw[hf]
  cases gl (n,s,g,w,d,de,cold,modes) modes[i]
  ·refine(aj rfl).2 ((aj (by rw[aN];simp)).2 (.ret _))
  ·refine(ah rfl).2 ?_
   rw[cy (i:=i) (by omega),Bool.true_and]
   exact ih (i+1) (by omega) (by omega)
theorem L1{n s g w d de:Int}{cold:List Bool}{modes:List Mode}(h:Ty.has bC (n,s,g,w,d,de,cold,modes)):aB (CK ai) (t124 ai n s g w d de cold modes) (fP (n,s,g,w,d,de,cold,modes)):=by
 unfold t124 fP dL
 refine af.2 ⟨rfl,?_⟩
 rw[show ai.k EK (n,s,g,w,d,de,cold,modes)=countB (n,s,g,w,d,de,cold,modes) from rfl]
 cases hc:countB (n,s,g,w,d,de,cold,modes)
 ·exact(aj rfl).2 (.ret _)
 ·refine(ah rfl).2 ?_
  simp only[countB,iX,Bool.and_eq_true,decide_eq_true_eq,beq_iff_eq] at hc
  exact Nk (jc h).2.2.1 hc.1.2 hc.1.1.1 modes.length 0 rfl (by omega)
def j4:ao→Int:=fP
def QU:aA:=⟨[bC], [yI],(@tt ao),j4⟩
theorem Ba:Sd 62 QU:=aH ax cm true 58 [⟨198,2, [[0,1,7,8], [], [1]]⟩] [] (fun A (mNodes,mSlot,mGap,mWindow,mDrift,mDelay,mCold,mModes)=>t124 A mNodes mSlot mGap mWindow mDrift mDelay mCold mModes) CK Mt (fc Tryz.func62 (fc Tryz.func140 (fc Tryz.func141 (fc Tryz.func198 fz)))) (sc OJ (sc Un (sc xX (sc R_ sz)))) (fun A y=>match y with |.c0 p a2=>⟨136,by kernel_rfl,by kernel_rfl⟩) fun(mNodes,mSlot,mGap,mWindow,mDrift,mDelay,mCold,mModes) hp h=>L1 h
open Go.Ev.Pl
def IS(A:aZ)(explicit:Bool)(data:Int):LT Int Empty:=.br (A.not explicit) (.ret 2) (.br (A.c .gtr data 0) (.ret 4) (.ret 3))
def sr:(Bool×Int)→Int:=fun(explicit,data)=>(IS ai explicit data).val (Ty.cn [yI])
def TR:aA:=⟨[.bool,yI], [yI],(@tt (Bool×Int)),sr⟩
theorem JU:Sd 197 TR:=aL ax cm true 30 [] (fun A (explicit,data)=>IS A explicit data) (fc Tryz.func197 fz) sz (fun((explicit,data):Bool×Int) hp h=>by
 show(IS ai explicit data).pre=true
 simp[IS,LT.pre,ap,dc])
def Hl(A:aZ)(n:Int):LT Int Empty:=.br (A.c .lss n 0) (.ret 0) (.br (A.c .gtr n 4095) (.ret 0) (.ret (A.b .add .i64 14 (A.b .quo .i64 (A.b .add .i64 n 1) 2))))
def Ap:Int→Int:=fun n=>(Hl ai n).val (Ty.cn [yI])
def U_:aA:=⟨[yI], [yI],(@tt Int),Ap⟩
theorem OR:Sd 195 U_:=aL ax cm true 30 [] (fun A n=>Hl A n) (fc Tryz.func195 fz) sz (fun(n:Int) hp h=>by
 show(Hl ai n).pre=true
 simp[Hl,LT.pre,ap,dc])
structure J8 where
 (a0:List Bool)
inductive Ha where
 | c0 (p:J8) (a1:Int) (a2:Int)
noncomputable def Kr:Ha→fJ
 | .c0 p a1 a2=>⟨[⟨147,18,(en [(0,.sl .bool p.a0),(3,vi a1),(4,vi a2)]),[.inLoop (cw Tryz.f147 [1,1,0,1,0,0]),.inBlock 0,.code (cw Tryz.f147 [1,1,1])],[],none⟩],[.dead]⟩
def Of(A:aZ)(l:List Bool):LT Int Ha:=.more (.c0 ⟨l⟩ 0 0)
def Dg(A:aZ):Ha→LT Int Ha
 | .c0 p a1 a2=>.br (A.c .lss a2 (A.l p.a0)) (.need (A.and (A.c .leq 0 a2) (A.c .lss a2 (A.l p.a0))) (.br (A.n .bool p.a0 a2:Bool) (.more (.c0 p (A.b .add .i64 a1 1) (A.b .add .i64 a2 1))) (.more (.c0 p a1 (A.b .add .i64 a2 1))))) (.ret a1)
theorem LF{l:List Bool}(hl:l.length≤140737488355328):∀(j i c:Nat),l.length-i=j→i≤l.length→c≤i→aB (Dg ai) (.more (.c0 ⟨l⟩ (c:Int) (i:Int))) ((c+(l.drop i).count true:Nat):Int):=by
 intro j
 induction j with
 | zero=>
  intro i c hj hi hc
  have:i=l.length:=by omega
  subst this
  rw[ak,Dg]
  refine(ah (by rw[fO,aJ];simp)).2 ?_
  rw[List.drop_length]
  exact .ret _
 | succ j ih=>
  intro i c hj hi hc
  have hi':i<l.length:=by omega
  rw[ak,Dg]
  refine(aj (by rw[fO,aJ];simp;omega)).2 (af.2 ⟨aK hi',?_⟩)
  rw[List.drop_eq_getElem_cons hi',List.count_cons]
  cases hb:l[i]
  ·refine(ah ((nW hi').trans hb)).2 ?_
   rw[cy (i:=i) (by omega)]
   refine al ?_ (ih (i+1) c (by omega) (by omega) (by omega))
   simp
  ·refine(aj ((nW hi').trans hb)).2 ?_
   rw[cy (i:=c) (by omega),cy (i:=i) (by omega)]
   refine al ?_ (ih (i+1) (c+1) (by omega) (by omega) (by omega))
   simp[Nat.add_assoc,Nat.add_comm 1]
def xN:(List Bool)→Int:=fun l=>(l.count true:Int)
def Ti:aA:=⟨[(.slice .bool)], [yI],(@tt (List Bool)),xN⟩
theorem Q8:Sd 147 Ti:=aH ax cm true 21 [⟨147,3, [[0,3,4]]⟩] [] (fun A l=>Of A l) Dg Kr (fc Tryz.func147 fz) sz (fun A y=>match y with |.c0 p a1 a2=>⟨37,by kernel_rfl,by kernel_rfl⟩) fun(l:List Bool) hp h=>by
 show aB (Dg ai) (Of ai l) (xN l)
 exact al (by simp[xN]) (LF h.1 l.length 0 0 rfl (by omega) (by omega))
structure MU where
 (a1:List Int) (a2 a3:List Bool) (a4 a5 a6 a7 a8 a9:Int) (bW:List Bool) (dM:List Mode)
structure MJ where
 (b1:List Int) (b2 b3:List Bool) (b4 b5 b6 b7 b8 b9:Int) (b10:List Bool) (b11:List Mode)
inductive Il where
 | c0 (p:MU) (a0:Int)
 | c1 (p:MJ) (b0:Int)
noncomputable def MV:Il→fJ
 | .c0 p a0=>⟨[⟨148,78,(en [(2,.ptr 0 0),(3,.ptr 1 0),(5,vi a0)]),[.inLoop (cw Tryz.f148 [1,1,0,1,0,0]),.inBlock 0,.code (cw Tryz.f148 [1,1,1])],[],none⟩],[.flat false [.sl yI p.a1,.sl .bool p.a2,.sl .bool p.a3],.flat false [vi p.a4,vi p.a5,vi p.a6,vi p.a7,vi p.a8,vi p.a9,.sl .bool p.bW,.sl aP p.dM],.dead]⟩
 | .c1 p b0=>⟨[⟨148,78,(en [(2,.ptr 0 0),(3,.ptr 1 0),(6,vi b0)]),[.inLoop (cw Tryz.f148 [1,1,1,0,1,0,0]),.inBlock 2,.code (cw Tryz.f148 [1,1,1,1])],[],none⟩],[.flat false [.sl yI p.b1,.sl .bool p.b2,.sl .bool p.b3],.flat false [vi p.b4,vi p.b5,vi p.b6,vi p.b7,vi p.b8,vi p.b9,.sl .bool p.b10,.sl aP p.b11],.dead]⟩
def GR(A:aZ)(xData:List Int)(xExplicit:List Bool)(xNext:List Bool)(mNodes:Int)(mSlot:Int)(mGap:Int)(mWindow:Int)(mDrift:Int)(mDelay:Int)(mCold:List Bool)(mModes:List Mode):LT Bool Il:=.br (A.c .neq (A.l xData) mNodes) (.ret false) (.br (A.c .neq (A.l xExplicit) mNodes) (.ret false) (.br (A.c .neq (A.l xNext) (A.l mModes)) (.ret false) (.more (.c0 ⟨xData,xExplicit,xNext,mNodes,mSlot,mGap,mWindow,mDrift,mDelay,mCold,mModes⟩ 0))))
def uN(A:aZ):Il→LT Bool Il
 | .c0 p a0=>.br (A.c .lss a0 (A.l p.a1)) (.need (A.and (A.c .leq 0 a0) (A.c .lss a0 (A.l p.a1))) (.br (A.c .lss (A.n yI p.a1 a0:Int) 0) (.ret false) (.need (A.and (A.c .leq 0 a0) (A.c .lss a0 (A.l p.a1))) (.br (A.c .gtr (A.n yI p.a1 a0:Int) 8) (.ret false) (.more (.c0 p (A.b .add .i64 a0 1))))))) (.more (.c1 ⟨p.a1,p.a2,p.a3,p.a4,p.a5,p.a6,p.a7,p.a8,p.a9,p.bW,p.dM⟩ 0))
 | .c1 p b0=>.br (A.c .lss b0 (A.l p.b2)) (.br (A.c .lss b0 (A.l p.b10)) (.need (A.and (A.c .leq 0 b0) (A.c .lss b0 (A.l p.b10))) (.br (A.n .bool p.b10 b0:Bool) (.need (A.and (A.c .leq 0 b0) (A.c .lss b0 (A.l p.b2))) (.br (A.not (A.n .bool p.b2 b0:Bool)) (.ret false) (.more (.c1 p (A.b .add .i64 b0 1))))) (.more (.c1 p (A.b .add .i64 b0 1))))) (.ret true)) (.ret true)
def En:List Bool→List Bool→Bool
 | c::cs,e::es=>(!c||e)&&En cs es
 | _,_=>true
theorem nz:∀{ds:List Int} {cs es:List Bool},cs.length=ds.length→es.length=ds.length→mP ds cs es=(ds.all (fun d=>decide (0≤d)&&decide (d≤8))&&En cs es)
 | [], [], [],_,_=>rfl
 | d::ds,c::cs,e::es,h1,h2=>by
  rw[mP,nz (ds:=ds) (by simpa using h1) (by simpa using h2),List.all_cons,En]
  cases (decide (0≤d)&&decide (d≤8))<;>cases (!c||e)<;>simp
 | [],_::_,_,h,_=>by cases h
 | [], [],_::_,_,h=>by cases h
 | _::_, [],_,h,_=>by cases h
 | _::_,_::_, [],_,h=>by cases h
theorem Ma{n s g w d de:Int}{cold expl next:List Bool}{modes:List Mode}{data:List Int}(hl:expl.length≤140737488355328)(hc:cold.length=expl.length):∀(j i:Nat),expl.length-i=j→i≤expl.length→
  aB (uN ai) (.more (.c1 ⟨data,expl,next,n,s,g,w,d,de,cold,modes⟩ (i:Int))) (En (cold.drop i) (expl.drop i)):=by
 intro j
 induction j with
 | zero=>
  intro i hj hi
  have:i=expl.length:=by omega
  subst this
  rw[ak,uN]
  refine(ah (by rw[fO,aJ];simp)).2 ?_
  rw[List.drop_length,List.drop_of_length_le (by omega)]
  exact .ret _
 | succ j ih=>
  intro i hj hi
  have hi':i<expl.length:=by omega
  have hi2:i<cold.length:=by omega
  rw[ak,uN]
  refine(aj (by rw[fO,aJ];simp;omega)).2 ((aj (by rw[fO,aJ];simp;omega)).2 (af.2 ⟨aK hi2,?_⟩))
  have hm:=ih (i+1) (by omega) (by omega)
  rw[List.drop_eq_getElem_cons hi',List.drop_eq_getElem_cons hi2,En]
  cases hcb:cold[i]
  ·refine(ah ((nW hi2).trans hcb)).2 ?_
   rw[cy (i:=i) (by omega)];exact hm
  ·refine(aj ((nW hi2).trans hcb)).2 (af.2 ⟨aK hi',?_⟩)
   cases heb:expl[i]
   ·exact(aj (by rw[nW hi',heb];rfl)).2 (.ret _)
   ·refine(ah (by rw[nW hi',heb];rfl)).2 ?_
    rw[cy (i:=i) (by omega)];exact hm
theorem Kv{n s g w d de:Int}{cold expl next:List Bool}{modes:List Mode}{data:List Int}{R:Bool}(hl:data.length≤140737488355328)(hR:aB (uN ai) (.more (.c1 ⟨data,expl,next,n,s,g,w,d,de,cold,modes⟩ 0)) R):∀(j i:Nat),data.length-i=j→i≤data.length→
  aB (uN ai) (.more (.c0 ⟨data,expl,next,n,s,g,w,d,de,cold,modes⟩ (i:Int))) ((data.drop i).all (fun d=>decide (0≤d)&&decide (d≤8))&&R):=by
 intro j
 induction j with
 | zero=>
  intro i hj hi
  have:i=data.length:=by omega
  subst this
  rw[ak,uN]
  refine(ah (by rw[fO,aJ];simp)).2 ?_
  rw[List.drop_length]
  exact al (by simp) hR
 | succ j ih=>
  intro i hj hi
  have hi':i<data.length:=by omega
  rw[ak,uN]
  have hm:=ih (i+1) (by omega) (by omega)
  rw[List.drop_eq_getElem_cons hi',List.all_cons]
  refine(aj (by rw[fO,aJ];simp;omega)).2 (af.2 ⟨aK hi',?_⟩)
  rw[Hr hi']
  refine au (p:=data[i]<0) rfl (fun h=>al ?_ (.ret _)) fun h1=>af.2 ⟨aK hi',au (p:=8<data[i]) rfl (fun h=>al ?_ (.ret _)) fun h2=>?_⟩
  ·rw[decide_eq_false (show ¬0≤data[i] by omega)];rfl
  ·rw[decide_eq_false (show ¬data[i]≤8 by omega),Bool.and_false];rfl
  ·rw[cy (i:=i) (by omega),decide_eq_true (show 0≤data[i] by omega),decide_eq_true (show data[i]≤8 by omega)]
   exact hm
theorem Mj{n s g w d de:Int}{cold expl next:List Bool}{modes:List Mode}{data:List Int}(hl:data.length≤140737488355328)(hl2:expl.length≤140737488355328)(hc:(cold.length:Int)=n) :
  aB (uN ai) (GR ai data expl next n s g w d de cold modes) (gl (n,s,g,w,d,de,cold,modes) (data,expl,next)):=by
 unfold GR gl
 simp only[fO]
 by_cases h1:(data.length:Int)=n
 ·refine(ah (cJ h1)).2 ?_
  by_cases h2:(expl.length:Int)=n
  ·refine(ah (cJ h2)).2 ?_
   by_cases h3:(next.length:Int)=modes.length
   ·refine(ah (cJ h3)).2 (al ?_ (Kv hl (Ma hl2 (by omega) expl.length 0 rfl (by omega)) data.length 0 rfl (by omega)))
    rw[beq_iff_eq.2 h1,beq_iff_eq.2 h2,beq_iff_eq.2 (show next.length=modes.length by omega),nz (show cold.length=data.length by omega) (show expl.length=data.length by omega)];rfl
   ·refine(aj (eE h3)).2 (al ?_ (.ret _))
    rw[beq_eq_false_iff_ne.2 (show next.length≠modes.length by omega),Bool.and_false,Bool.false_and]
  ·refine(aj (eE h2)).2 (al ?_ (.ret _))
   rw[beq_eq_false_iff_ne.2 h2,Bool.and_false];rfl
 ·refine(aj (eE h1)).2 (al ?_ (.ret _))
  rw[beq_eq_false_iff_ne.2 h1];rfl
def Bq:(Mode×ao)→Bool:=fun(x,m)=>gl m x
def zC:(Mode×ao)→Bool:=fun(_,m)=>(m.2.2.2.2.2.2.1.length:Int)==m.1
def QY:aA:=⟨[aP,bC], [.bool],zC,Bq⟩
theorem Oh:Sd 148 QY:=aH ax cm true 48 [⟨148,4, [[2,3,5]]⟩,⟨148,9, [[2,3,6]]⟩] [] (fun A ((xData,xExplicit,xNext),mNodes,mSlot,mGap,mWindow,mDrift,mDelay,mCold,mModes)=>GR A xData xExplicit xNext mNodes mSlot mGap mWindow mDrift mDelay mCold mModes) uN MV (fc Tryz.func148 fz) sz (fun A y=>match y with |.c0 p a0=>⟨44,by kernel_rfl,by kernel_rfl⟩|.c1 p b0=>⟨50,by kernel_rfl,by kernel_rfl⟩) fun(((xData,xExplicit,xNext),mNodes,mSlot,mGap,mWindow,mDrift,mDelay,mCold,mModes):Mode×ao) hp h=>by
 show aB (uN ai) (GR ai xData xExplicit xNext mNodes mSlot mGap mWindow mDrift mDelay mCold mModes) (Bq ((xData,xExplicit,xNext),mNodes,mSlot,mGap,mWindow,mDrift,mDelay,mCold,mModes))
 exact Mj h.1.1.1 h.1.2.1.1 (by simpa [zC] using hp)
structure KI where
 (a0 a1 a2 a3 a4 a5 a6 a7:Int) (a8:List Bool) (a9:List Mode)
structure Ld where
 (b1 b3 b4 b5 b6 b7 b8:Int) (b9:List Bool) (b10:List Mode) (b11:List Int) (b12 b13:List Bool)
inductive Hf where
 | c0 (p:KI)
 | c1 (p:Ld) (b0:Int) (b2:Int)
noncomputable def Lb:Hf→fJ
 | .c0 p=>⟨[⟨138,66,(en [(1,.ptr 0 0),(3,vi p.a0),(4,vi p.a1)]),[.inLoop (cw Tryz.f138 [1,1,0,1,0,0]),.inBlock 0,.code (cw Tryz.f138 [1,1,1])],[],none⟩],[.flat false [vi p.a2,vi p.a3,vi p.a4,vi p.a5,vi p.a6,vi p.a7,.sl .bool p.a8,.sl aP p.a9],.dead]⟩
 | .c1 p b0 b2=>⟨[⟨138,66,(en [(1,.ptr 0 0),(3,vi b0),(4,vi p.b1),(5,.ptr 1 0),(6,vi b2)]),[.inLoop (cw Tryz.f138 [1,1,0,1,0,0,1,0,0,1,1,0,0]),.inBlock 2,.inBlock 1,.code (cw Tryz.f138 [1,1,0,1,0,0,1,1]),.inLoop (cw Tryz.f138 [1,1,0,1,0,0]),.inBlock 0,.code (cw Tryz.f138 [1,1,1])],[],none⟩],[.flat false [vi p.b3,vi p.b4,vi p.b5,vi p.b6,vi p.b7,vi p.b8,.sl .bool p.b9,.sl aP p.b10],.flat false [.sl yI p.b11,.sl .bool p.b12,.sl .bool p.b13],.dead]⟩
def LJ(A:aZ)(mNodes:Int)(mSlot:Int)(mGap:Int)(mWindow:Int)(mDrift:Int)(mDelay:Int)(mCold:List Bool)(mModes:List Mode):LT Int Hf:=.need (A.k (@tt (Int×Int)) (1,0)) (.need (A.k (@tt Int) (A.k wM (1,0))) (.more (.c0 ⟨(A.k Ap (A.k wM (1,0))),0,mNodes,mSlot,mGap,mWindow,mDrift,mDelay,mCold,mModes⟩)))
def xn(A:aZ):Hf→LT Int Hf
 | .c0 p=>.br (A.c .lss p.a1 (A.l p.a9)) (.need (A.and (A.c .leq 0 p.a1) (A.c .lss p.a1 (A.l p.a9))) (.more (.c1 ⟨p.a1,p.a2,p.a3,p.a4,p.a5,p.a6,p.a7,p.a8,p.a9,(A.n aP p.a9 p.a1:Mode).1,(A.n aP p.a9 p.a1:Mode).2.1,(A.n aP p.a9 p.a1:Mode).2.2⟩ p.a0 0))) (.ret p.a0)
 | .c1 p b0 b2=>.br (A.c .lss b2 (A.l p.b11)) (.br (A.c .lss b2 (A.l p.b12)) (.br (A.c .lss b2 p.b3) (.need (A.and (A.c .leq 0 b2) (A.c .lss b2 (A.l p.b12))) (.need (A.and (A.c .leq 0 b2) (A.c .lss b2 (A.l p.b11))) (.need (A.k (@tt (Bool×Int)) ((A.n .bool p.b12 b2:Bool),(A.n yI p.b11 b2:Int))) (.need (A.and (A.c .leq 0 b2) (A.c .lss b2 (A.l p.b11))) (.need (A.k (@tt (Int×Int)) ((A.k sr ((A.n .bool p.b12 b2:Bool),(A.n yI p.b11 b2:Int))),(A.n yI p.b11 b2:Int))) (.br (A.c .gtr (A.k wM ((A.k sr ((A.n .bool p.b12 b2:Bool),(A.n yI p.b11 b2:Int))),(A.n yI p.b11 b2:Int))) 0) (.need (A.k (@tt Int) (A.k wM ((A.k sr ((A.n .bool p.b12 b2:Bool),(A.n yI p.b11 b2:Int))),(A.n yI p.b11 b2:Int)))) (.more (.c1 p (A.mx b0 (A.k Ap (A.k wM ((A.k sr ((A.n .bool p.b12 b2:Bool),(A.n yI p.b11 b2:Int))),(A.n yI p.b11 b2:Int))))) (A.b .add .i64 b2 1)))) (.more (.c1 p b0 (A.b .add .i64 b2 1))))))))) (.more (.c0 ⟨b0,(A.b .add .i64 p.b1 1),p.b3,p.b4,p.b5,p.b6,p.b7,p.b8,p.b9,p.b10⟩))) (.more (.c0 ⟨b0,(A.b .add .i64 p.b1 1),p.b3,p.b4,p.b5,p.b6,p.b7,p.b8,p.b9,p.b10⟩))) (.more (.c0 ⟨b0,(A.b .add .i64 p.b1 1),p.b3,p.b4,p.b5,p.b6,p.b7,p.b8,p.b9,p.b10⟩))
theorem Fo:sr=iO:=rfl
theorem xF:Ap=nu:=rfl
theorem Ar:wM=kU:=funext fun⟨k,d⟩=>by rw[yF.1,yF.2]
theorem OS{n s g w d de:Int}{cold expl next:List Bool}{modes:List Mode}{data:List Int}{k k1:Int}{F:Int→Int}(hl:data.length≤140737488355328)(hk:ai.b .add .i64 k 1=k1)(hnext:∀b,aB (xn ai) (.more (.c0 ⟨b,k1,n,s,g,w,d,de,cold,modes⟩)) (F b)) :
  ∀(j i:Nat) (b:Int),data.length-i=j→i≤data.length→aB (xn ai) (.more (.c1 ⟨k,n,s,g,w,d,de,cold,modes,data,expl,next⟩ b (i:Int))) (F ((((data.zip expl).take n.toNat).drop i).foldl tj b)):=by
 intro j
 induction j with
 | zero=>
  intro i b hj hi
  have:i=data.length:=by omega
  subst this
  rw[ak,xn]
  refine(ah (by rw[fO,aJ];simp)).2 ?_
  rw[qe (.inr (.inr (Nat.le_refl _))),hk]
  exact hnext b
 | succ j ih=>
  intro i b hj hi
  have hi':i<data.length:=by omega
  rw[ak,xn]
  refine(aj (by rw[fO,aJ];simp;omega)).2 ?_
  have hm:=fun b=>ih (i+1) b (by omega) (by omega)
  by_cases h2:i<expl.length
  ·refine(aj (by rw[fO,aJ];simpa using h2)).2 ?_
   by_cases h3:(i:Int)<n
   ·refine(aj (by rw[Au];simpa using h3)).2 (af.2 ⟨aK (show i<expl.length from h2),af.2 ⟨aK hi',af.2 ⟨rfl,af.2 ⟨aK hi',af.2 ⟨rfl,?_⟩⟩⟩⟩⟩)
    rw[E8 hi' h2 h3,List.foldl_cons,Ee,←Hr hi',←nW h2,cy (i:=i) (by omega),Fo,Ar,xF]
    cases hb:ai.c .gtr (ai.k kU ((ai.k iO ((ai.n .bool expl (i:Int):Bool),(ai.n (.int .i64) data (i:Int):Int))),(ai.n (.int .i64) data (i:Int):Int))) 0
    ·exact(ah rfl).2 (hm _)
    ·exact(aj rfl).2 (af.2 ⟨rfl,hm _⟩)
   ·refine(ah (by rw[Au];simpa using h3)).2 ?_
    rw[qe (.inr (.inl (by omega))),hk];exact hnext b
  ·refine(ah (by rw[fO,aJ];simpa using h2)).2 ?_
   rw[qe (.inl (by omega)),hk];exact hnext b
theorem Rn{n s g w d de:Int}{cold:List Bool}{modes:List Mode}(hl:modes.length≤140737488355328)(hd:∀x∈modes,x.1.length≤140737488355328) :
  ∀(j k:Nat) (b:Int),modes.length-k=j→k≤modes.length→aB (xn ai) (.more (.c0 ⟨b,(k:Int),n,s,g,w,d,de,cold,modes⟩)) ((modes.drop k).foldl (od n.toNat) b):=by
 intro j
 induction j with
 | zero=>
  intro k b hj hk
  have:k=modes.length:=by omega
  subst this
  rw[ak,xn]
  refine(ah (by rw[fO,aJ];simp)).2 ?_
  rw[List.drop_length]
  exact .ret _
 | succ j ih=>
  intro k b hj hk
  have hk':k<modes.length:=by omega
  rw[ak,xn]
  refine(aj (by rw[fO,aJ];simp;omega)).2 (af.2 ⟨aK hk',?_⟩)
  rw[show(ai.n aP modes (k:Int):Mode)=modes[k] from getD_in hk' _,List.drop_eq_getElem_cons hk',List.foldl_cons]
  exact OS (F:=fun b=>(modes.drop (k+1)).foldl (od n.toNat) b) (hd _ (List.getElem_mem hk')) (cy (by omega)) (fun b=>ih (k+1) b (by omega) (by omega)) modes[k].1.length 0 b rfl (by omega)
theorem UD{n s g w d de:Int}{cold:List Bool}{modes:List Mode}(h:Ty.has bC (n,s,g,w,d,de,cold,modes)):aB (xn ai) (LJ ai n s g w d de cold modes) (eP (n,s,g,w,d,de,cold,modes)):=by
 unfold LJ
 rw[Ar,xF]
 exact af.2 ⟨rfl,af.2 ⟨rfl,Rn (jc h).2.2.1 (fun x hx=>((jc h).2.2.2 x hx).1) modes.length 0 _ rfl (by omega)⟩⟩
def qL:ao→Int:=eP
def OF:aA:=⟨[bC], [yI],(@tt ao),qL⟩
theorem Jv:Sd 138 OF:=aH ax cm true 24 [⟨138,3, [[1,3,4]]⟩,⟨138,7, [[1,3,4,5,6]]⟩] [] (fun A (mNodes,mSlot,mGap,mWindow,mDrift,mDelay,mCold,mModes)=>LJ A mNodes mSlot mGap mWindow mDrift mDelay mCold mModes) xn Lb (fc Tryz.func138 fz) (sc WV (sc OR (sc JU sz))) (fun A y=>match y with |.c0 p=>⟨35,by kernel_rfl,by kernel_rfl⟩|.c1 p b0 b2=>⟨72,by kernel_rfl,by kernel_rfl⟩) fun(mNodes,mSlot,mGap,mWindow,mDrift,mDelay,mCold,mModes) hp h=>UD h
structure LV where
 (a1 a2 a3 a4 a5 a6:Int) (a7:List Bool) (a8:List Mode)
inductive H8 where
 | c0 (p:LV) (a0:Int)
noncomputable def KM:H8→fJ
 | .c0 p a0=>⟨[⟨64,120,(en [(1,.ptr 0 0),(3,vi a0)]),[.inLoop (cw Tryz.f64 [1,1,0,1,0,0]),.inBlock 0,.code (cw Tryz.f64 [1,1,1])],[],none⟩],[.flat false [vi p.a1,vi p.a2,vi p.a3,vi p.a4,vi p.a5,vi p.a6,.sl .bool p.a7,.sl aP p.a8],.dead]⟩
def Kp(A:aZ)(mNodes:Int)(mSlot:Int)(mGap:Int)(mWindow:Int)(mDrift:Int)(mDelay:Int)(mCold:List Bool)(mModes:List Mode):LT Int H8:=.br (A.c .lss mNodes 4) (.ret 70) (.br (A.c .gtr mNodes 8) (.ret 70) (.br (A.c .lss (A.l mModes) 1) (.ret 70) (.br (A.c .gtr (A.l mModes) 4) (.ret 70) (.br (A.c .neq (A.l mCold) mNodes) (.ret 70) (.need (A.k (@tt (List Bool)) mCold) (.br (A.c .lss (A.k xN mCold) 2) (.ret 70) (.more (.c0 ⟨mNodes,mSlot,mGap,mWindow,mDrift,mDelay,mCold,mModes⟩ 0))))))))
def BN(A:aZ):H8→LT Int H8
 | .c0 p a0=>.br (A.c .lss a0 (A.l p.a8)) (.need (A.and (A.c .leq 0 a0) (A.c .lss a0 (A.l p.a8))) (.need (A.k zC ((A.n aP p.a8 a0:Mode),p.a1,p.a2,p.a3,p.a4,p.a5,p.a6,p.a7,p.a8)) (.br (A.not (A.k Bq ((A.n aP p.a8 a0:Mode),p.a1,p.a2,p.a3,p.a4,p.a5,p.a6,p.a7,p.a8))) (.ret 70) (.more (.c0 p (A.b .add .i64 a0 1)))))) (.br (A.c .lss p.a5 0) (.ret 70) (.br (A.c .gtr p.a5 64) (.ret 70) (.br (A.c .lss p.a6 0) (.ret 70) (.br (A.c .gtr p.a6 64) (.ret 70) (.br (A.c .lss p.a4 (A.b .add .i64 (A.b .mul .i64 (A.b .mul .i64 16 p.a1) p.a5) 16)) (.ret 70) (.br (A.c .gtr p.a4 1048576) (.ret 70) (.br (A.c .lss p.a3 (A.b .add .i64 (A.b .add .i64 (A.b .mul .i64 2 p.a4) (A.b .mul .i64 2 p.a6)) 4)) (.ret 70) (.br (A.c .gtr p.a3 1048576) (.ret 70) (.need (A.k (@tt ao) (p.a1,p.a2,p.a3,p.a4,p.a5,p.a6,p.a7,p.a8)) (.br (A.c .lss p.a2 (A.b .add .i64 (A.b .mul .i64 2 p.a3) (A.k qL (p.a1,p.a2,p.a3,p.a4,p.a5,p.a6,p.a7,p.a8)))) (.ret 70) (.br (A.c .gtr p.a2 16777216) (.ret 70) (.ret 0))))))))))))
theorem Hw{n s g w d de:Int}{cold:List Bool}{modes:List Mode}{R:Int}(hn:4≤n∧n≤8)(hR:R=bif ig n s g w d de (eP (n,s,g,w,d,de,cold,modes)) then 0 else 70) :
  aB (BN ai) (.br (ai.c .lss d 0) (.ret 70) (.br (ai.c .gtr d 64) (.ret 70) (.br (ai.c .lss de 0) (.ret 70) (.br (ai.c .gtr de 64) (.ret 70) (.br (ai.c .lss w (ai.b .add .i64 (ai.b .mul .i64 (ai.b .mul .i64 16 n) d) 16)) (.ret 70) (.br (ai.c .gtr w 1048576) (.ret 70) (.br (ai.c .lss g (ai.b .add .i64 (ai.b .add .i64 (ai.b .mul .i64 2 w) (ai.b .mul .i64 2 de)) 4)) (.ret 70) (.br (ai.c .gtr g 1048576) (.ret 70) (.need (ai.k (@tt ao) (n,s,g,w,d,de,cold,modes)) (.br (ai.c .lss s (ai.b .add .i64 (ai.b .mul .i64 2 g) (ai.k qL (n,s,g,w,d,de,cold,modes)))) (.ret 70) (.br (ai.c .gtr s 16777216) (.ret 70) (.ret 0)))))))))))) R:=by
 have hm:=qo (m:=(n,s,g,w,d,de,cold,modes))
 have no:∀{p:Prop} [Decidable p],¬p→decide p=false:=fun h=>by simpa using h
 rw[hR]
 refine au (p:=d<0) rfl (fun h=>al ?_ (.ret _)) fun h1=>au (p:=64<d) rfl (fun h=>al ?_ (.ret _)) fun h2=>au (p:=de<0) rfl (fun h=>al ?_ (.ret _)) fun h3=>au (p:=64<de) rfl (fun h=>al ?_ (.ret _)) fun h4=>?_
 ·rw[ig,no (by omega)];rfl
 ·rw[ig,no (by omega)];rfl
 ·rw[ig,no (by omega)];rfl
 ·rw[ig,no (by omega)];rfl
 have:=mr (n:=n) (d:=d) hn (by omega)
 rw[EE hn (by omega)]
 refine au (p:=w<16*n*d+16) rfl (fun h=>al ?_ (.ret _)) fun h5=>au (p:=1048576<w) rfl (fun h=>al ?_ (.ret _)) fun h6=>?_
 ·rw[ig,no (by omega)];rfl
 ·rw[ig,no (by omega)];rfl
 rw[FB (by omega) (by omega)]
 refine au (p:=g<2*w+2*de+4) rfl (fun h=>al ?_ (.ret _)) fun h7=>au (p:=1048576<g) rfl (fun h=>al ?_ (.ret _)) fun h8=>af.2 ⟨rfl,?_⟩
 ·rw[ig,no (by omega)];rfl
 ·rw[ig,no (by omega)];rfl
 rw[show ai.k qL (n,s,g,w,d,de,cold,modes)=eP (n,s,g,w,d,de,cold,modes) from rfl,Az (by omega) hm]
 refine au (p:=s<2*g+eP (n,s,g,w,d,de,cold,modes)) rfl (fun h=>al ?_ (.ret _)) fun h9=>au (p:=16777216<s) rfl (fun h=>al ?_ (.ret _)) fun h10=>al ?_ (.ret _)
 ·rw[ig,no (by omega)];rfl
 ·rw[ig,no (by omega)];rfl
 ·rw[ig,decide_eq_true (by omega)];rfl
theorem GK{n s g w d de:Int}{cold:List Bool}{modes:List Mode}(hl:modes.length≤140737488355328)(hc:(cold.length:Int)=n)(hn:4≤n∧n≤8):∀(j i:Nat),modes.length-i=j→i≤modes.length→
  aB (BN ai) (.more (.c0 ⟨n,s,g,w,d,de,cold,modes⟩ (i:Int))) (bif (modes.drop i).all (gl (n,s,g,w,d,de,cold,modes))&&ig n s g w d de (eP (n,s,g,w,d,de,cold,modes)) then 0 else 70):=by
 intro j
 induction j with
 | zero=>
  intro i hj hi
  have:i=modes.length:=by omega
  subst this
  rw[ak,BN]
  refine(ah (by rw[fO,aJ];simp)).2 (Hw hn ?_)
  rw[List.drop_length];rfl
 | succ j ih=>
  intro i hj hi
  have hi':i<modes.length:=by omega
  rw[ak,BN]
  refine(aj (by rw[fO,aJ];simp;omega)).2 (af.2 ⟨aK hi',?_⟩)
  have e:(ai.n aP modes (i:Int):Mode)=modes[i]:=getD_in hi' _
  rw[e,List.drop_eq_getElem_cons hi',List.all_cons]
  refine af.2 ⟨by show((cold.length:Int)==n)=true;simpa using hc,?_⟩
  have hf:ai.k Bq (modes[i],n,s,g,w,d,de,cold,modes)=gl (n,s,g,w,d,de,cold,modes) modes[i]:=rfl
  rw[hf]
  cases gl (n,s,g,w,d,de,cold,modes) modes[i]
  ·exact(aj rfl).2 (.ret _)
  ·refine(ah rfl).2 ?_
   rw[cy (i:=i) (by omega),Bool.true_and]
   exact ih (i+1) (by omega) (by omega)
theorem IM{n s g w d de:Int}{cold:List Bool}{modes:List Mode}(h:Ty.has bC (n,s,g,w,d,de,cold,modes)):aB (BN ai) (Kp ai n s g w d de cold modes) (fP (n,s,g,w,d,de,cold,modes)):=by
 unfold Kp fP dL countB
 simp only[iX,fO]
 refine au (p:=n<4) rfl (fun h=>al ?_ (.ret _)) fun h1=>au (p:=8<n) rfl (fun h=>al ?_ (.ret _)) fun h2=>au (p:=(modes.length:Int)<1) rfl (fun h=>al ?_ (.ret _)) fun h3=>au (p:=4<(modes.length:Int)) rfl (fun h=>al ?_ (.ret _)) fun h4=>?_
 ·rw[decide_eq_false (show ¬4≤n by omega)];rfl
 ·rw[decide_eq_false (show ¬n≤8 by omega),Bool.and_false];rfl
 ·rw[decide_eq_false (show ¬(1:Int)≤modes.length by omega),Bool.false_and,Bool.and_false];rfl
 ·rw[decide_eq_false (show ¬(modes.length:Int)≤4 by omega),Bool.and_false,Bool.and_false];rfl
 rw[decide_eq_true (show 4≤n by omega),decide_eq_true (show n≤8 by omega),decide_eq_true (show(1:Int)≤modes.length by omega),decide_eq_true (show(modes.length:Int)≤4 by omega)]
 by_cases h5:(cold.length:Int)=n
 ·refine(ah (cJ h5)).2 (af.2 ⟨rfl,?_⟩)
  rw[show ai.k xN cold=(cold.count true:Int) from rfl,beq_iff_eq.2 h5]
  refine au (p:=(cold.count true:Int)<2) rfl (fun h=>al ?_ (.ret _)) fun h6=>al ?_ (GK (jc h).2.2.1 h5 (by omega) modes.length 0 rfl (by omega))
  ·rw[decide_eq_false (show ¬(2:Int)≤cold.count true by omega)];rfl
  ·rw[decide_eq_true (show(2:Int)≤cold.count true by omega)];rfl
 ·refine(aj (eE h5)).2 (al ?_ (.ret _))
  rw[beq_eq_false_iff_ne.2 h5];rfl
def kM:ao→Int:=fP
def RF:aA:=⟨[bC], [yI],(@tt ao),kM⟩
theorem A1:Sd 64 RF:=aH ax cm true 58 [⟨64,4, [[1,3]]⟩] [] (fun A (mNodes,mSlot,mGap,mWindow,mDrift,mDelay,mCold,mModes)=>Kp A mNodes mSlot mGap mWindow mDrift mDelay mCold mModes) BN KM (fc Tryz.func64 fz) (sc Jv (sc Q8 (sc Oh sz))) (fun A y=>match y with |.c0 p a0=>⟨100,by kernel_rfl,by kernel_rfl⟩) fun(mNodes,mSlot,mGap,mWindow,mDrift,mDelay,mCold,mModes) hp h=>IM h
end Go.Ev.M
