/-
  PROVED: what medl.Check and metronomeref07.Check compute. Conditions: none.
-/
import Derived.Test.YteldjjjcdpnnbaaGreatFc
namespace Go.Ev.M
open Go.Proofs
set_option maxRecDepth 100000
set_option linter.unusedVariables false
set_option linter.unusedSimpArgs false
open Go.Ev.Pl
abbrev kG:Ty:=(.struct [yI,yI,yI,yI,yI])
abbrev cq:Type:=Int×Int×Int×Int×Int
abbrev iK:Ty:=(.struct [yI,yI,yI,yI,yI,yI,yI])
abbrev eT:Type:=Int×Int×Int×Int×Int×Int×Int
abbrev Y_:Ty:=(.struct [yI,yB])
abbrev Bits:Type:=Int×List Int
abbrev pX:Ty:=(.struct [yI,yI,kG,yI,yB])
abbrev gb:Type:=Int×Int×cq×Int×List Int
abbrev fA:Ty:=(.struct [yI,yI,Y_])
abbrev Seen:Type:=Int×Int×Bits
abbrev k6:Ty:=(.struct [yI,yI,yI,pX,yI])
abbrev gj:Type:=Int×Int×Int×gb×Int
abbrev aV:Ty:=(.struct [Wk,(.slice .bool),(.slice .bool)])
abbrev Mode:Type:=List Int×List Bool×List Bool
abbrev aY:Ty:=(.struct [yI,yI,yI,yI,yI,yI,(.slice .bool),(.slice aV)])
abbrev ao:Type:=Int×Int×Int×Int×Int×Int×List Bool×List Mode
abbrev aR:Ty:=(.struct [yB,yI])
abbrev aU:Type:=List Int×Int
abbrev gy:Ty:=(.struct [yI,yB,(.slice aR),yI,yI])
abbrev bu:Type:=Int×List Int×List aU×Int×Int
abbrev aW:Ty:=(.struct [yI,yI,kG,iK,yI,.bool,yI,gy])
abbrev Node:Type:=Int×Int×cq×eT×Int×Bool×Int×bu
abbrev PL:Ty:=(.struct [yI,yI,yI,yI,yI,yB])
abbrev E7:Type:=Int×Int×Int×Int×Int×List Int
def Ou(A:a_)(n:Int)(least:Int)(most:Int):LT Bool Empty:=.br (A.c .geq n least) (.ret (A.c .leq n most)) (.ret false)
def eu:(Int×Int×Int)→Bool:=fun(n,least,most)=>(Ou aj n least most).val (Ty.bE [.bool])
def adi:aB:=⟨[yI,yI,yI], [.bool],(@tt (Int×Int×Int)),eu⟩
theorem DY:Sd 143 adi:=aJ ax bK true 22 [] (fun A (n,least,most)=>Ou A n least most) (fc Tryz.func143 fz) sz (fun((n,least,most):Int×Int×Int) hp h=>by
 show(Ou aj n least most).pre=true
 simp[Ou,LT.pre,al,bH])
theorem kM{x a b:Int}:eu (x,a,b)=(decide (a≤x)&&decide (x≤b)):=by
 simp only[eu,Ou,LT.val,aM,ay]
 cases decide (a≤x)<;>rfl
theorem aar{α:Type}{x y:α}:(bif true then x else y)=x:=rfl
theorem rp{l:List Bool}{i:Nat}(h:i<l.length):(aj.n .bool l (i:Int):Bool)=l[i]:=getD_in h _
theorem OZ{l:List Int}{i:Nat}(h:i<l.length):(aj.n (.int .i64) l (i:Int):Int)=l[i]:=getD_in h _
theorem fN{α:Type}{l:List α}:aj.l l=(l.length:Int):=rfl
theorem kX{n s g w d de:Int}{cold:List Bool}{modes:List Mode}(h:Ty.has aY (n,s,g,w,d,de,cold,modes)):(-9223372036854775808≤n∧n≤9223372036854775807)∧cold.length≤140737488355328∧modes.length≤140737488355328∧∀x∈modes,x.1.length≤140737488355328∧x.2.1.length≤140737488355328∧∀d∈x.1,IntKind.i64.has d:=by
 obtain⟨h1,_,_,_,_,_,h2,h3⟩:=h
 exact⟨h1,h2.1,h3.1,fun x hx=>⟨(h3.2 x hx).1.1,(h3.2 x hx).2.1.1,(h3.2 x hx).1.2⟩⟩
structure TB where
 (a1:List Bool) (a2 a4 a5 a6 a7 a8 a9:Int) (bV:List Bool) (dT:List Mode)
inductive Lj where
 | c0 (p:TB) (a0:Int) (a3:Int)
noncomputable def U8:Lj→fL
 | .c0 p a0 a3=>⟨[⟨139,38,(en [(1,.ptr 0 0),(3,vi a0),(7,.sl .bool p.a1),(8,vi p.a2),(9,vi a3)]),[.inLoop (cw Tryz.f139 [1,1,0,1,0,0]),.inBlock 0,.code (cw Tryz.f139 [1,1,1])],[],none⟩],[.flat false [vi p.a4,vi p.a5,vi p.a6,vi p.a7,vi p.a8,vi p.a9,.sl .bool p.bV,.sl aV p.dT],.dead]⟩
def t154(A:a_)(mNodes:Int)(mSlot:Int)(mGap:Int)(mWindow:Int)(mDrift:Int)(mDelay:Int)(mCold:List Bool)(mModes:List Mode):LT Bool Lj:=.more (.c0 ⟨mCold,(A.l mCold),mNodes,mSlot,mGap,mWindow,mDrift,mDelay,mCold,mModes⟩ 0 0)
def Oa(A:a_):Lj→LT Bool Lj
 | .c0 p a0 a3=>.br (A.c .lss a3 p.a2) (.need (A.and (A.c .leq 0 a3) (A.c .lss a3 (A.l p.a1))) (.br (A.n .bool p.a1 a3:Bool) (.more (.c0 p (A.b .add .i64 a0 1) (A.b .add .i64 a3 1))) (.more (.c0 p a0 (A.b .add .i64 a3 1))))) (.need (A.k (@tt (Int×Int×Int)) (p.a4,4,8)) (.br (A.k eu (p.a4,4,8)) (.need (A.k (@tt (Int×Int×Int)) ((A.l p.dT),1,4)) (.br (A.k eu ((A.l p.dT),1,4)) (.br (A.c .eql (A.l p.bV) p.a4) (.ret (A.c .geq a0 2)) (.ret false)) (.ret false))) (.ret false)))
def countB(m:ao):Bool:=eu (m.1,4,8)&&eu ((m.2.2.2.2.2.2.2.length:Int),1,4)&&((m.2.2.2.2.2.2.1.length:Int)==m.1)&&decide (2≤(m.2.2.2.2.2.2.1.count true:Int))
theorem Tp{n s g w d de:Int}{cold:List Bool}{modes:List Mode}(hl:cold.length≤140737488355328):∀(j i c:Nat),cold.length-i=j→i≤cold.length→c≤i→
  aA (Oa aj) (.more (.c0 ⟨cold,(cold.length:Int),n,s,g,w,d,de,cold,modes⟩ (c:Int) (i:Int))) (eu (n,4,8)&&eu ((modes.length:Int),1,4)&&((cold.length:Int)==n)&&decide (2≤((c+(cold.drop i).count true:Nat):Int))):=by
 intro j
 induction j with
 | zero=>
   intro i c hj hi hc
   have:i=cold.length:=by omega
   subst this
   rw[ak,Oa]
   refine(ah (by rw[aO];simp)).2 ?_
   rw[List.drop_length]
   simp only[af,al,bH,true_and]
   cases eu (n,4,8)
   ·exact(ah rfl).2 (.ret _)
   refine(ai rfl).2 ?_
   simp only[af,al,bH,true_and,fN]
   cases eu ((modes.length:Int),1,4)
   ·exact(ah rfl).2 (.ret _)
   refine(ai rfl).2 ?_
   rw[aC]
   cases ((cold.length:Int)==n)
   ·exact(ah rfl).2 (.ret _)
   refine(ai rfl).2 ?_
   rw[aM]
   exact .ret _
 | succ j ih=>
   intro i c hj hi hc
   have hi':i<cold.length:=by omega
   rw[ak,Oa]
   refine(ai (by rw[aO];simp;omega)).2 (af.2 ⟨aP hi',?_⟩)
   rw[List.drop_eq_getElem_cons hi',List.count_cons]
   cases hb:cold[i]
   ·refine(ah ((rp hi').trans hb)).2 ?_
    refine bo (congrArg (fun z=>LT.more (Lj.c0 _ _ z)) (cf (by omega))) (au ?_ (ih (i+1) c (by omega) (by omega) (by omega)))
    simp
   ·refine(ai ((rp hi').trans hb)).2 ?_
    rw[cf (i:=c) (by omega),cf (i:=i) (by omega)]
    refine au ?_ (ih (i+1) (c+1) (by omega) (by omega) (by omega))
    simp[Nat.add_assoc,Nat.add_comm 1]
theorem UP{n s g w d de:Int}{cold:List Bool}{modes:List Mode}(h:Ty.has aY (n,s,g,w,d,de,cold,modes)):aA (Oa aj) (t154 aj n s g w d de cold modes) (countB (n,s,g,w,d,de,cold,modes)):=
 au (by simp[countB]) (Tp (kX h).2.1 cold.length 0 0 rfl (by omega) (by omega))
def LC:ao→Bool:=countB
def YV:aB:=⟨[aY], [.bool],(@tt ao),LC⟩
theorem aaB:Sd 139 YV:=aL ax bK true 25 [⟨139,3, [[1,3,7,8,9]]⟩] [] (fun A (mNodes,mSlot,mGap,mWindow,mDrift,mDelay,mCold,mModes)=>t154 A mNodes mSlot mGap mWindow mDrift mDelay mCold mModes) Oa U8 (fc Tryz.func139 fz) (sc DY sz) (fun A y=>match y with |.c0 p a0 a3=>⟨38,by kernel_rfl,by kernel_rfl⟩) fun(mNodes,mSlot,mGap,mWindow,mDrift,mDelay,mCold,mModes) hp h=>UP h
structure Wd where
 (a0:List Int) (a1 a3 a4 a5 a6 a7 a8:Int) (a9:List Bool) (bV:List Mode) (dT:List Int) (a12 lk:List Bool)
inductive JI where
 | c0 (p:Wd) (a2:Int)
noncomputable def Xv:JI→fL
 | .c0 p a2=>⟨[⟨142,57,(en [(2,.ptr 0 0),(3,.ptr 1 0),(31,.sl yI p.a0),(32,vi p.a1),(33,vi a2)]),[.inLoop (cw Tryz.f142 [1,1,0,1,0,0]),.inBlock 0,.code (cw Tryz.f142 [1,1,1])],[],none⟩],[.flat false [vi p.a3,vi p.a4,vi p.a5,vi p.a6,vi p.a7,vi p.a8,.sl .bool p.a9,.sl aV p.bV],.flat false [.sl yI p.dT,.sl .bool p.a12,.sl .bool p.lk],.dead]⟩
def t157(A:a_)(mNodes:Int)(mSlot:Int)(mGap:Int)(mWindow:Int)(mDrift:Int)(mDelay:Int)(mCold:List Bool)(mModes:List Mode)(xData:List Int)(xExplicit:List Bool)(xNext:List Bool):LT Bool JI:=.br (A.c .neq (A.l xData) mNodes) (.ret false) (.br (A.c .neq (A.l xExplicit) mNodes) (.ret false) (.br (A.c .neq (A.l xNext) (A.l mModes)) (.ret false) (.more (.c0 ⟨xData,(A.l xData),mNodes,mSlot,mGap,mWindow,mDrift,mDelay,mCold,mModes,xData,xExplicit,xNext⟩ 0))))
def Jr(A:a_):JI→LT Bool JI
 | .c0 p a2=>.br (A.c .lss a2 p.a1) (.need (A.and (A.c .leq 0 a2) (A.c .lss a2 (A.l p.a0))) (.need (A.k (@tt (Int×Int×Int)) ((A.n yI p.a0 a2:Int),0,8)) (.br (A.not (A.k eu ((A.n yI p.a0 a2:Int),0,8))) (.ret false) (.need (A.and (A.c .leq 0 a2) (A.c .lss a2 (A.l p.a9))) (.br (A.n .bool p.a9 a2:Bool) (.need (A.and (A.c .leq 0 a2) (A.c .lss a2 (A.l p.a12))) (.br (A.not (A.n .bool p.a12 a2:Bool)) (.ret false) (.more (.c0 p (A.b .add .i64 a2 1))))) (.more (.c0 p (A.b .add .i64 a2 1)))))))) (.ret true)
def pu:List Int→List Bool→List Bool→Bool
 | d::ds,c::cs,e::es=>(decide (0≤d)&&decide (d≤8))&&(!c||e)&&pu ds cs es
 | _,_,_=>true
def iI(m:ao)(x:Mode):Bool:=((x.1.length:Int)==m.1)&&((x.2.1.length:Int)==m.1)&&(x.2.2.length==m.2.2.2.2.2.2.2.length)&&pu x.1 m.2.2.2.2.2.2.1 x.2.1
theorem acw{n s g w d de:Int}{cold expl next:List Bool}{modes:List Mode}{data:List Int}(hl:data.length≤140737488355328)(hc:cold.length=data.length)(he:expl.length=data.length):∀(j i:Nat),data.length-i=j→i≤data.length→
  aA (Jr aj) (.more (.c0 ⟨data,(data.length:Int),n,s,g,w,d,de,cold,modes,data,expl,next⟩ (i:Int))) (pu (data.drop i) (cold.drop i) (expl.drop i)):=by
 intro j
 induction j with
 | zero=>
   intro i hj hi
   have:i=data.length:=by omega
   subst this
   rw[ak,Jr]
   refine(ah (by rw[aO];simp)).2 ?_
   rw[List.drop_length]
   exact .ret _
 | succ j ih=>
   intro i hj hi
   have hi':i<data.length:=by omega
   rw[ak,Jr]
   refine(ai (by rw[aO];simp;omega)).2 (af.2 ⟨aP hi',af.2 ⟨rfl,?_⟩⟩)
   rw[List.drop_eq_getElem_cons hi',List.drop_eq_getElem_cons (show i<cold.length by omega),List.drop_eq_getElem_cons (show i<expl.length by omega),pu]
   have hm:=ih (i+1) (by omega) (by omega)
   have hw:aj.k eu ((aj.n (.int .i64) data (i:Int):Int),0,8)=(decide (0≤data[i])&&decide (data[i]≤8)):=by
    rw[al,OZ hi',kM]
   cases hw':(decide (0≤data[i])&&decide (data[i]≤8))
   ·exact(ai (by rw[hw,hw'];rfl)).2 (.ret _)
   refine(ah (by rw[hw,hw'];rfl)).2 (af.2 ⟨aP (show i<cold.length by omega),?_⟩)
   cases hcb:cold[i]
   ·refine(ah ((rp (show i<cold.length by omega)).trans hcb)).2 ?_
    exact bo (congrArg (fun z=>LT.more (JI.c0 _ z)) (cf (by omega))) hm
   ·refine(ai ((rp (show i<cold.length by omega)).trans hcb)).2 (af.2 ⟨aP (show i<expl.length by omega),?_⟩)
    cases heb:expl[i]
    ·exact(ai (by rw[rp (show i<expl.length by omega),heb];rfl)).2 (.ret _)
    ·refine(ah (by rw[rp (show i<expl.length by omega),heb];rfl)).2 ?_
     exact bo (congrArg (fun z=>LT.more (JI.c0 _ z)) (cf (by omega))) hm
theorem Zi{n s g w d de:Int}{cold expl next:List Bool}{modes:List Mode}{data:List Int}(hl:data.length≤140737488355328)(hc:(cold.length:Int)=n) :
  aA (Jr aj) (t157 aj n s g w d de cold modes data expl next) (iI (n,s,g,w,d,de,cold,modes) (data,expl,next)):=by
 unfold t157 iI
 simp only[fN]
 by_cases h1:(data.length:Int)=n
 ·refine(ah (b_ h1)).2 ?_
  by_cases h2:(expl.length:Int)=n
  ·refine(ah (b_ h2)).2 ?_
   by_cases h3:(next.length:Int)=modes.length
   ·refine(ah (b_ h3)).2 (au ?_ (acw hl (by omega) (by omega) data.length 0 rfl (by omega)))
    rw[beq_iff_eq.2 h1,beq_iff_eq.2 h2,beq_iff_eq.2 (show next.length=modes.length by omega)];rfl
   ·refine(ai (dE h3)).2 (au ?_ (.ret _))
    rw[beq_eq_false_iff_ne.2 (show next.length≠modes.length by omega),Bool.and_false,Bool.false_and]
  ·refine(ai (dE h2)).2 (au ?_ (.ret _))
   rw[beq_eq_false_iff_ne.2 h2,Bool.and_false];rfl
 ·refine(ai (dE h1)).2 (au ?_ (.ret _))
  rw[beq_eq_false_iff_ne.2 h1];rfl
def Gz:(ao×Mode)→Bool:=fun(m,x)=>iI m x
def FQ:(ao×Mode)→Bool:=fun(m,_)=>(m.2.2.2.2.2.2.1.length:Int)==m.1
def aet:aB:=⟨[aY,aV], [.bool],FQ,Gz⟩
theorem aeA:Sd 142 aet:=aL ax bK true 51 [⟨142,4, [[2,3,31,32,33]]⟩] [] (fun A ((mNodes,mSlot,mGap,mWindow,mDrift,mDelay,mCold,mModes),xData,xExplicit,xNext)=>t157 A mNodes mSlot mGap mWindow mDrift mDelay mCold mModes xData xExplicit xNext) Jr Xv (fc Tryz.func142 fz) (sc DY sz) (fun A y=>match y with |.c0 p a2=>⟨51,by kernel_rfl,by kernel_rfl⟩) fun(((mNodes,mSlot,mGap,mWindow,mDrift,mDelay,mCold,mModes),xData,xExplicit,xNext):ao×Mode) hp h=>by
 show aA (Jr aj) (t157 aj mNodes mSlot mGap mWindow mDrift mDelay mCold mModes xData xExplicit xNext) (Gz ((mNodes,mSlot,mGap,mWindow,mDrift,mDelay,mCold,mModes),xData,xExplicit,xNext))
 exact Zi h.2.1.1 (by simpa [FQ] using hp)
open Go.Ev.Pl
def t183(A:a_)(explicit:Bool)(data:Int):LT Int Empty:=.br (A.not explicit) (.ret 2) (.br (A.c .gtr data 0) (.ret 4) (.ret 3))
def jj:(Bool×Int)→Int:=fun(explicit,data)=>(t183 aj explicit data).val (Ty.bE [yI])
def afT:aB:=⟨[.bool,yI], [yI],(@tt (Bool×Int)),jj⟩
theorem Sy:Sd 208 afT:=aJ ax bK true 32 [] (fun A (explicit,data)=>t183 A explicit data) (fc Tryz.func208 fz) sz (fun((explicit,data):Bool×Int) hp h=>by
 show(t183 aj explicit data).pre=true
 simp[t183,LT.pre,al,bH])
def t173(A:a_)(n:Int):LT Int Empty:=.br (A.c .lss n 0) (.ret 0) (.br (A.c .gtr n 4095) (.ret 0) (.ret (A.b .add .i64 14 (A.b .quo .i64 (A.b .add .i64 n 1) 2))))
def ql:Int→Int:=fun n=>(t173 aj n).val (Ty.bE [yI])
def ad6:aB:=⟨[yI], [yI],(@tt Int),ql⟩
theorem acp:Sd 226 ad6:=aJ ax bK true 30 [] (fun A n=>t173 A n) (fc Tryz.func226 fz) sz (fun(n:Int) hp h=>by
 show(t173 aj n).pre=true
 simp[t173,LT.pre,al,bH])
structure Uj where
 (a0:Int) (a1:List Mode) (a2 a3 a4 a5 a6 a7 a8 a9:Int) (bV:List Bool) (dT:List Mode)
structure TN where
 (b1:List Mode) (b2 b3:Int) (b4:List Int) (b5 b7 b8 b9 b10 b11 b12:Int) (b13:List Bool) (sn:List Mode) (zQ:List Int) (dA ib:List Bool)
inductive OU where
 | c0 (p:Uj)
 | c1 (p:TN) (b0:Int) (b6:Int)
noncomputable def VJ:OU→fL
 | .c0 p=>⟨[⟨199,55,(en [(1,.ptr 0 0),(3,vi p.a0),(12,.sl aV p.a1),(13,vi p.a2),(14,vi p.a3)]),[.inLoop (cw Tryz.f199 [1,1,0,1,0,0]),.inBlock 0,.code (cw Tryz.f199 [1,1,1])],[],none⟩],[.flat false [vi p.a4,vi p.a5,vi p.a6,vi p.a7,vi p.a8,vi p.a9,.sl .bool p.bV,.sl aV p.dT],.dead]⟩
 | .c1 p b0 b6=>⟨[⟨199,55,(en [(1,.ptr 0 0),(3,vi b0),(5,.ptr 1 0),(12,.sl aV p.b1),(13,vi p.b2),(14,vi p.b3),(19,.sl yI p.b4),(20,vi p.b5),(21,vi b6)]),[.inLoop (cw Tryz.f199 [1,1,0,1,0,0,1,1,0,0,1,1,0,0]),.inBlock 2,.inBlock 1,.code (cw Tryz.f199 [1,1,0,1,0,0,1,1,1]),.inLoop (cw Tryz.f199 [1,1,0,1,0,0]),.inBlock 0,.code (cw Tryz.f199 [1,1,1])],[],none⟩],[.flat false [vi p.b7,vi p.b8,vi p.b9,vi p.b10,vi p.b11,vi p.b12,.sl .bool p.b13,.sl aV p.sn],.flat false [.sl yI p.zQ,.sl .bool p.dA,.sl .bool p.ib],.dead]⟩
def ac9(A:a_)(mNodes:Int)(mSlot:Int)(mGap:Int)(mWindow:Int)(mDrift:Int)(mDelay:Int)(mCold:List Bool)(mModes:List Mode):LT Int OU:=.need (A.k (@tt (Int×Int)) (1,0)) (.need (A.k (@tt Int) (A.k nU (1,0))) (.more (.c0 ⟨(A.k ql (A.k nU (1,0))),mModes,(A.l mModes),0,mNodes,mSlot,mGap,mWindow,mDrift,mDelay,mCold,mModes⟩)))
def Ch(A:a_):OU→LT Int OU
 | .c0 p=>.br (A.c .lss p.a3 p.a2) (.need (A.and (A.c .leq 0 p.a3) (A.c .lss p.a3 (A.l p.a1))) (.more (.c1 ⟨p.a1,p.a2,p.a3,(A.n aV p.a1 p.a3:Mode).1,(A.l (A.n aV p.a1 p.a3:Mode).1),p.a4,p.a5,p.a6,p.a7,p.a8,p.a9,p.bV,p.dT,(A.n aV p.a1 p.a3:Mode).1,(A.n aV p.a1 p.a3:Mode).2.1,(A.n aV p.a1 p.a3:Mode).2.2⟩ p.a0 0))) (.ret p.a0)
 | .c1 p b0 b6=>.br (A.c .lss b6 p.b5) (.need (A.and (A.c .leq 0 b6) (A.c .lss b6 (A.l p.b4))) (.br (A.c .lss b6 p.b7) (.br (A.c .lss b6 (A.l p.dA)) (.need (A.and (A.c .leq 0 b6) (A.c .lss b6 (A.l p.dA))) (.need (A.k (@tt (Bool×Int)) ((A.n .bool p.dA b6:Bool),(A.n yI p.b4 b6:Int))) (.need (A.k (@tt (Int×Int)) ((A.k jj ((A.n .bool p.dA b6:Bool),(A.n yI p.b4 b6:Int))),(A.n yI p.b4 b6:Int))) (.br (A.c .gtr (A.k nU ((A.k jj ((A.n .bool p.dA b6:Bool),(A.n yI p.b4 b6:Int))),(A.n yI p.b4 b6:Int))) 0) (.need (A.k (@tt Int) (A.k nU ((A.k jj ((A.n .bool p.dA b6:Bool),(A.n yI p.b4 b6:Int))),(A.n yI p.b4 b6:Int)))) (.more (.c1 p (A.mx b0 (A.k ql (A.k nU ((A.k jj ((A.n .bool p.dA b6:Bool),(A.n yI p.b4 b6:Int))),(A.n yI p.b4 b6:Int))))) (A.b .add .i64 b6 1)))) (.more (.c1 p b0 (A.b .add .i64 b6 1))))))) (.more (.c1 p b0 (A.b .add .i64 b6 1)))) (.more (.c1 p b0 (A.b .add .i64 b6 1))))) (.more (.c0 ⟨b0,p.b1,p.b2,(A.b .add .i64 p.b3 1),p.b7,p.b8,p.b9,p.b10,p.b11,p.b12,p.b13,p.sn⟩))
def ze(b:Int)(x:Int×Bool):Int:=bif decide (0<nU (jj (x.2,x.1),x.1)) then aj.mx b (ql (nU (jj (x.2,x.1),x.1))) else b
def qX(n:Nat)(b:Int)(x:Mode):Int:=((x.1.zip x.2.1).take n).foldl ze b
def fX(m:ao):Int:=m.2.2.2.2.2.2.2.foldl (qX m.1.toNat) (ql (nU (1,0)))
theorem Nt{data:List Int}{expl:List Bool}{n:Int}{i:Nat}(h1:i<data.length)(h2:i<expl.length)(h3:(i:Int)<n):((data.zip expl).take n.toNat).drop i=(data[i],expl[i])::((data.zip expl).take n.toNat).drop (i+1):=by
 have hl:i<((data.zip expl).take n.toNat).length:=by simp[List.length_take,List.length_zip];omega
 rw[List.drop_eq_getElem_cons hl,List.getElem_take,List.getElem_zip]
theorem tg{data:List Int}{expl:List Bool}{n:Int}{i:Nat}(h:expl.length≤i∨n≤(i:Int)∨data.length≤i):((data.zip expl).take n.toNat).drop i=[]:=by
 apply List.drop_of_length_le
 simp[List.length_take,List.length_zip];omega
theorem G0{i:Nat}{n:Int}:aj.c .lss (i:Int) n=decide ((i:Int)<n):=rfl
theorem Ot{b:Int}{d:Int}{e:Bool}:ze b (d,e)=bif aj.c .gtr (aj.k nU ((aj.k jj (e,d)),d)) 0 then aj.mx b (aj.k ql (aj.k nU ((aj.k jj (e,d)),d))) else b:=rfl
theorem ahl{n s g w d de:Int}{cold expl next:List Bool}{modes ms:List Mode}{data:List Int}{L k k1:Int}{F:Int→Int}(hl:data.length≤140737488355328)(hk:aj.b .add .i64 k 1=k1)(hnext:∀b,aA (Ch aj) (.more (.c0 ⟨b,ms,L,k1,n,s,g,w,d,de,cold,modes⟩)) (F b)) :
  ∀(j i:Nat) (b:Int),data.length-i=j→i≤data.length→aA (Ch aj) (.more (.c1 ⟨ms,L,k,data,(data.length:Int),n,s,g,w,d,de,cold,modes,data,expl,next⟩ b (i:Int))) (F ((((data.zip expl).take n.toNat).drop i).foldl ze b)):=by
 intro j
 induction j with
 | zero=>
   intro i b hj hi
   have:i=data.length:=by omega
   subst this
   rw[ak,Ch]
   refine(ah (by rw[aO];simp)).2 ?_
   rw[tg (.inr (.inr (Nat.le_refl _))),hk]
   exact hnext b
 | succ j ih=>
   intro i b hj hi
   have hi':i<data.length:=by omega
   rw[ak,Ch]
   refine(ai (by rw[aO];simp;omega)).2 (af.2 ⟨aP hi',?_⟩)
   have hm:=fun b=>ih (i+1) b (by omega) (by omega)
   by_cases h3:(i:Int)<n
   ·refine(ai (by rw[G0];simpa using h3)).2 ?_
    by_cases h2:i<expl.length
    ·refine(ai (by rw[fN,aO];simpa using h2)).2 (af.2 ⟨aP (show i<expl.length from h2),af.2 ⟨rfl,af.2 ⟨rfl,?_⟩⟩⟩)
     rw[Nt hi' h2 h3,List.foldl_cons,Ot,←OZ hi',←rp h2,cf (i:=i) (by omega)]
     cases hb:aj.c .gtr (aj.k nU ((aj.k jj ((aj.n .bool expl (i:Int):Bool),(aj.n (.int .i64) data (i:Int):Int))),(aj.n (.int .i64) data (i:Int):Int))) 0
     ·exact(ah rfl).2 (hm _)
     ·exact(ai rfl).2 (af.2 ⟨rfl,hm _⟩)
    ·refine(ah (by rw[fN,aO];simpa using h2)).2 ?_
     rw[cf (i:=i) (by omega)]
     have:=hm b
     rw[tg (.inl (by omega))] at this ⊢
     exact this
   ·refine(ah (by rw[G0];simpa using h3)).2 ?_
    rw[cf (i:=i) (by omega)]
    have:=hm b
    rw[tg (.inr (.inl (by omega)))] at this ⊢
    exact this
theorem agF{n s g w d de:Int}{cold:List Bool}{modes ms:List Mode}(hl:ms.length≤140737488355328)(hd:∀x∈ms,x.1.length≤140737488355328) :
  ∀(j k:Nat) (b:Int),ms.length-k=j→k≤ms.length→aA (Ch aj) (.more (.c0 ⟨b,ms,(ms.length:Int),(k:Int),n,s,g,w,d,de,cold,modes⟩)) ((ms.drop k).foldl (qX n.toNat) b):=by
 intro j
 induction j with
 | zero=>
   intro k b hj hk
   have:k=ms.length:=by omega
   subst this
   rw[ak,Ch]
   refine(ah (by rw[aO];simp)).2 ?_
   rw[List.drop_length]
   exact .ret _
 | succ j ih=>
   intro k b hj hk
   have hk':k<ms.length:=by omega
   rw[ak,Ch]
   refine(ai (by rw[aO];simp;omega)).2 (af.2 ⟨aP hk',?_⟩)
   rw[show(aj.n aV ms (k:Int):Mode)=ms[k] from getD_in hk' _,List.drop_eq_getElem_cons hk',List.foldl_cons]
   exact ahl (F:=fun b=>(ms.drop (k+1)).foldl (qX n.toNat) b) (hd _ (List.getElem_mem hk')) (cf (by omega)) (fun b=>ih (k+1) b (by omega) (by omega)) ms[k].1.length 0 b rfl (by omega)
theorem max2{n s g w d de:Int}{cold:List Bool}{modes:List Mode}(h:Ty.has aY (n,s,g,w,d,de,cold,modes)):aA (Ch aj) (ac9 aj n s g w d de cold modes) (fX (n,s,g,w,d,de,cold,modes)):=
 af.2 ⟨rfl,af.2 ⟨rfl,agF (kX h).2.2.1 (fun x hx=>((kX h).2.2.2 x hx).1) modes.length 0 _ rfl (by omega)⟩⟩
def R_:ao→Int:=fX
def Zt:aB:=⟨[aY], [yI],(@tt ao),R_⟩
theorem Ya:Sd 199 Zt:=aL ax bK true 27 [⟨199,3, [[1,3,12,13,14]]⟩,⟨199,6, [[1,3,5,12,13,14,19,20,21]]⟩] [] (fun A (mNodes,mSlot,mGap,mWindow,mDrift,mDelay,mCold,mModes)=>ac9 A mNodes mSlot mGap mWindow mDrift mDelay mCold mModes) Ch VJ (fc Tryz.func199 fz) (sc age (sc acp (sc Sy sz))) (fun A y=>match y with |.c0 p=>⟨31,by kernel_rfl,by kernel_rfl⟩|.c1 p b0 b6=>⟨69,by kernel_rfl,by kernel_rfl⟩) fun(mNodes,mSlot,mGap,mWindow,mDrift,mDelay,mCold,mModes) hp h=>max2 h
def t159(A:a_)(mNodes:Int)(mSlot:Int)(mGap:Int)(mWindow:Int)(mDrift:Int)(mDelay:Int)(mCold:List Bool)(mModes:List Mode):LT (Int×Int×Int) Empty:=.need (A.k (@tt ao) (mNodes,mSlot,mGap,mWindow,mDrift,mDelay,mCold,mModes)) (.ret ((A.b .add .i64 (A.b .mul .i64 (A.b .mul .i64 16 mNodes) mDrift) 16),(A.b .add .i64 (A.b .add .i64 (A.b .mul .i64 2 mWindow) (A.b .mul .i64 2 mDelay)) 4),(A.b .add .i64 (A.b .mul .i64 2 mGap) (A.k R_ (mNodes,mSlot,mGap,mWindow,mDrift,mDelay,mCold,mModes)))))
def oG:ao→(Int×Int×Int):=fun(mNodes,mSlot,mGap,mWindow,mDrift,mDelay,mCold,mModes)=>(t159 aj mNodes mSlot mGap mWindow mDrift mDelay mCold mModes).val (Ty.bE [yI,yI,yI])
def adj:aB:=⟨[aY], [yI,yI,yI],(@tt ao),oG⟩
theorem XP:Sd 144 adj:=aJ ax bK true 50 [] (fun A (mNodes,mSlot,mGap,mWindow,mDrift,mDelay,mCold,mModes)=>t159 A mNodes mSlot mGap mWindow mDrift mDelay mCold mModes) (fc Tryz.func144 fz) (sc Ya sz) (fun((mNodes,mSlot,mGap,mWindow,mDrift,mDelay,mCold,mModes):ao) hp h=>by
 show(t159 aj mNodes mSlot mGap mWindow mDrift mDelay mCold mModes).pre=true
 simp[t159,LT.pre,al,bH])
theorem ap{R Y:Type}{step:Y→LT R Y}{t e:LT R Y}{r:R}{p:Prop}[Decidable p]{b:Bool}(hb:b=decide p)(ht:p→aA step t r)(he:¬p→aA step e r):aA step (.br b t e) r:=by
 by_cases h:p
 ·exact(ai (by rw[hb];simpa using h)).2 (ht h)
 ·exact(ah (by rw[hb];simpa using h)).2 (he h)
theorem eX{R Y:Type}{step:Y→LT R Y}{t e:LT R Y}{r:R}{x a b:Int}(ht:¬(a≤x∧x≤b)→aA step t r)(he:a≤x∧x≤b→aA step e r):aA step (.br (aj.not (aj.k eu (x,a,b))) t e) r:=by
 refine ap (p:=¬(a≤x∧x≤b)) ?_ ht (fun h=>he (Decidable.not_not.1 h))
 rw[aT,al,kM,←Bool.decide_and,←decide_not]
theorem Bs{n:Int}:0≤ql n∧ql n≤2062:=by
 simp only[ql,t173,LT.val,ar,aG,Bool.cond_eq_ite,decide_eq_true_eq]
 split
 ·omega
 ·split
  ·omega
  ·rw[bf,HY,bf,fV (a:=n+1) (by omega) (by omega)]
   have:(n+1).tdiv 2=(n+1)/2:=Int.tdiv_eq_ediv_of_nonneg (by omega)
   rw[this,fV (a:=(n+1)/2) (by omega) (by omega),fV (by omega) (by omega)]
   omega
theorem NB{b:Int}{x:Int×Bool}(h:0≤b∧b≤2062):0≤ze b x∧ze b x≤2062:=by
 have:=Bs (n:=nU (jj (x.2,x.1),x.1))
 unfold ze
 cases decide (0<nU (jj (x.2,x.1),x.1))
 ·exact h
 ·rw[aar,S7];split<;>omega
theorem qI{α:Type}{f:Int→α→Int}(hf:∀b x,0≤b∧b≤2062→0≤f b x∧f b x≤2062):∀{l:List α} {b:Int},0≤b∧b≤2062→0≤l.foldl f b∧l.foldl f b≤2062
 | [],_,h=>h
 | x::l,b,h=>qI hf (l:=l) (hf b x h)
theorem u_{m:ao}:0≤fX m∧fX m≤2062:=qI (fun _ _ h=>qI (fun _ _ h=>NB h) h) Bs
def jS(n s g w d de mx:Int):Bool:=decide (0≤d∧d≤64∧0≤de∧de≤64∧16*n*d+16≤w∧w≤1048576∧2*w+2*de+4≤g∧g≤1048576∧2*g+mx≤s∧s≤16777216)
def dV(m:ao):Bool:=countB m&&m.2.2.2.2.2.2.2.all (iI m)&&jS m.1 m.2.1 m.2.2.1 m.2.2.2.1 m.2.2.2.2.1 m.2.2.2.2.2.1 (fX m)
def fT(m:ao):Int:=bif dV m then 0 else 70
theorem Mp{n d:Int}(h:4≤n∧n≤8)(h2:0≤d∧d≤64):aj.b .add .i64 (aj.b .mul .i64 (aj.b .mul .i64 16 n) d) 16=16*n*d+16:=by
 have h3:0≤16*n*d∧16*n*d≤8192:=by
  have:n=4∨n=5∨n=6∨n=7∨n=8:=by omega
  rcases this with rfl|rfl|rfl|rfl|rfl<;>omega
 rw[bf,nE,nE,fV (a:=16*n) (by omega) (by omega),fV (a:=16*n*d) (by omega) (by omega),fV (by omega) (by omega)]
theorem pL{n d:Int}(h:4≤n∧n≤8)(h2:0≤d∧d≤64):0≤16*n*d:=by
 have:n=4∨n=5∨n=6∨n=7∨n=8:=by omega
 rcases this with rfl|rfl|rfl|rfl|rfl<;>omega
theorem Kf{w de:Int}(h:0≤w∧w≤1048576)(h2:0≤de∧de≤64):aj.b .add .i64 (aj.b .add .i64 (aj.b .mul .i64 2 w) (aj.b .mul .i64 2 de)) 4=2*w+2*de+4:=by
 rw[bf,bf,nE,nE,fV (a:=2*w) (by omega) (by omega),fV (a:=2*de) (by omega) (by omega),fV (a:=2*w+2*de) (by omega) (by omega),fV (by omega) (by omega)]
theorem Gw{g mx:Int}(h:0≤g∧g≤1048576)(h2:0≤mx∧mx≤2062):aj.b .add .i64 (aj.b .mul .i64 2 g) mx=2*g+mx:=by
 rw[bf,nE,fV (a:=2*g) (by omega) (by omega),fV (by omega) (by omega)]
theorem Nr{n s g w d de:Int}{cold:List Bool}{modes:List Mode}:oG (n,s,g,w,d,de,cold,modes)=(aj.b .add .i64 (aj.b .mul .i64 (aj.b .mul .i64 16 n) d) 16,aj.b .add .i64 (aj.b .add .i64 (aj.b .mul .i64 2 w) (aj.b .mul .i64 2 de)) 4,aj.b .add .i64 (aj.b .mul .i64 2 g) (fX (n,s,g,w,d,de,cold,modes))):=rfl
open Go.Ev.Pl
structure Uk where
 (a0:List Mode) (a1 a3 a4 a5 a6 a7 a8:Int) (a9:List Bool) (bV:List Mode)
inductive PD where
 | c0 (p:Uk) (a2:Int)
noncomputable def Xq:PD→fL
 | .c0 p a2=>⟨[⟨198,19,(en [(0,.sl aV p.a0),(1,.fn 141 [] [.ptr 0 0]),(7,vi p.a1),(8,vi a2)]),[.inLoop (cw Tryz.f198 [1,0,1,0,0]),.inBlock 0,.code (cw Tryz.f198 [1,1])],[],none⟩,⟨140,9,.leaf,[.ops (ow Tryz.f140 [1,0]) ((ow Tryz.f140 [1,0]).toList.drop 2),.code .ret],[],none⟩,⟨62,65,(en [(1,.ptr 0 0)]),[.ops (ow Tryz.f62 [1,0,0,0,0,0,0,0,0,1,0,0]) ((ow Tryz.f62 [1,0,0,0,0,0,0,0,0,1,0,0]).toList.drop 3),.code (cw Tryz.f62 [1,0,0,0,0,0,0,0,0,1,0,1]),.code (cw Tryz.f62 [1,0,0,0,0,0,0,0,0,1,1]),.code (.exit 0),.inBlock 1,.inBlock 2,.inBlock 3,.inBlock 4,.code (cw Tryz.f62 [1,0,0,1]),.inBlock 0,.code (cw Tryz.f62 [1,1])],[],none⟩],[.flat false [vi p.a3,vi p.a4,vi p.a5,vi p.a6,vi p.a7,vi p.a8,.sl .bool p.a9,.sl aV p.bV],.dead]⟩
def t124(A:a_)(mNodes:Int)(mSlot:Int)(mGap:Int)(mWindow:Int)(mDrift:Int)(mDelay:Int)(mCold:List Bool)(mModes:List Mode):LT Int PD:=.need (A.k (@tt ao) (mNodes,mSlot,mGap,mWindow,mDrift,mDelay,mCold,mModes)) (.br (A.not (A.k LC (mNodes,mSlot,mGap,mWindow,mDrift,mDelay,mCold,mModes))) (.ret 70) (.more (.c0 ⟨mModes,(A.l mModes),mNodes,mSlot,mGap,mWindow,mDrift,mDelay,mCold,mModes⟩ 0)))
def Jq(A:a_):PD→LT Int PD
 | .c0 p a2=>.br (A.c .lss a2 p.a1) (.need (A.and (A.c .leq 0 a2) (A.c .lss a2 (A.l p.a0))) (.need (A.k FQ ((p.a3,p.a4,p.a5,p.a6,p.a7,p.a8,p.a9,p.bV),(A.n aV p.a0 a2:Mode))) (.br (A.not (A.k Gz ((p.a3,p.a4,p.a5,p.a6,p.a7,p.a8,p.a9,p.bV),(A.n aV p.a0 a2:Mode)))) (.br (A.c .geq a2 0) (.ret 70) (.need (A.k (@tt (Int×Int×Int)) (p.a7,0,64)) (.br (A.not (A.k eu (p.a7,0,64))) (.ret 70) (.need (A.k (@tt (Int×Int×Int)) (p.a8,0,64)) (.br (A.not (A.k eu (p.a8,0,64))) (.ret 70) (.need (A.k (@tt (Int×Int×Int)) (p.a6,0,1048576)) (.br (A.not (A.k eu (p.a6,0,1048576))) (.ret 70) (.need (A.k (@tt (Int×Int×Int)) (p.a5,0,1048576)) (.br (A.not (A.k eu (p.a5,0,1048576))) (.ret 70) (.need (A.k (@tt (Int×Int×Int)) (p.a4,0,16777216)) (.br (A.not (A.k eu (p.a4,0,16777216))) (.ret 70) (.need (A.k (@tt ao) (p.a3,p.a4,p.a5,p.a6,p.a7,p.a8,p.a9,p.bV)) (.br (A.c .lss p.a6 (A.k oG (p.a3,p.a4,p.a5,p.a6,p.a7,p.a8,p.a9,p.bV)).1) (.ret 70) (.br (A.c .lss p.a5 (A.k oG (p.a3,p.a4,p.a5,p.a6,p.a7,p.a8,p.a9,p.bV)).2.1) (.ret 70) (.br (A.c .lss p.a4 (A.k oG (p.a3,p.a4,p.a5,p.a6,p.a7,p.a8,p.a9,p.bV)).2.2) (.ret 70) (.ret 0)))))))))))))))) (.more (.c0 p (A.b .add .i64 a2 1)))))) (.need (A.k (@tt (Int×Int×Int)) (p.a7,0,64)) (.br (A.not (A.k eu (p.a7,0,64))) (.ret 70) (.need (A.k (@tt (Int×Int×Int)) (p.a8,0,64)) (.br (A.not (A.k eu (p.a8,0,64))) (.ret 70) (.need (A.k (@tt (Int×Int×Int)) (p.a6,0,1048576)) (.br (A.not (A.k eu (p.a6,0,1048576))) (.ret 70) (.need (A.k (@tt (Int×Int×Int)) (p.a5,0,1048576)) (.br (A.not (A.k eu (p.a5,0,1048576))) (.ret 70) (.need (A.k (@tt (Int×Int×Int)) (p.a4,0,16777216)) (.br (A.not (A.k eu (p.a4,0,16777216))) (.ret 70) (.need (A.k (@tt ao) (p.a3,p.a4,p.a5,p.a6,p.a7,p.a8,p.a9,p.bV)) (.br (A.c .lss p.a6 (A.k oG (p.a3,p.a4,p.a5,p.a6,p.a7,p.a8,p.a9,p.bV)).1) (.ret 70) (.br (A.c .lss p.a5 (A.k oG (p.a3,p.a4,p.a5,p.a6,p.a7,p.a8,p.a9,p.bV)).2.1) (.ret 70) (.br (A.c .lss p.a4 (A.k oG (p.a3,p.a4,p.a5,p.a6,p.a7,p.a8,p.a9,p.bV)).2.2) (.ret 70) (.ret 0)))))))))))))))
theorem PU{n s g w d de:Int}{cold:List Bool}{modes:List Mode}{R:Int}(hn:4≤n∧n≤8)(hR:R=bif jS n s g w d de (fX (n,s,g,w,d,de,cold,modes)) then 0 else 70) :
  aA (Jq aj) (.need (aj.k (@tt (Int×Int×Int)) (d,0,64)) (.br (aj.not (aj.k eu (d,0,64))) (.ret 70) (.need (aj.k (@tt (Int×Int×Int)) (de,0,64)) (.br (aj.not (aj.k eu (de,0,64))) (.ret 70) (.need (aj.k (@tt (Int×Int×Int)) (w,0,1048576)) (.br (aj.not (aj.k eu (w,0,1048576))) (.ret 70) (.need (aj.k (@tt (Int×Int×Int)) (g,0,1048576)) (.br (aj.not (aj.k eu (g,0,1048576))) (.ret 70) (.need (aj.k (@tt (Int×Int×Int)) (s,0,16777216)) (.br (aj.not (aj.k eu (s,0,16777216))) (.ret 70) (.need (aj.k (@tt ao) (n,s,g,w,d,de,cold,modes)) (.br (aj.c .lss w (aj.k oG (n,s,g,w,d,de,cold,modes)).1) (.ret 70) (.br (aj.c .lss g (aj.k oG (n,s,g,w,d,de,cold,modes)).2.1) (.ret 70) (.br (aj.c .lss s (aj.k oG (n,s,g,w,d,de,cold,modes)).2.2) (.ret 70) (.ret 0))))))))))))))) R:=by
 have hm:=u_ (m:=(n,s,g,w,d,de,cold,modes))
 have no:∀{p:Prop} [Decidable p],¬p→decide p=false:=fun h=>by simpa using h
 rw[hR]
 refine af.2 ⟨rfl,eX (fun h=>au ?_ (.ret _)) fun h1=>af.2 ⟨rfl,eX (fun h=>au ?_ (.ret _)) fun h2=>af.2 ⟨rfl,eX (fun h=>au ?_ (.ret _)) fun h3=>af.2 ⟨rfl,eX (fun h=>au ?_ (.ret _)) fun h4=>af.2 ⟨rfl,eX (fun h=>au ?_ (.ret _)) fun h5=>af.2 ⟨rfl,?_⟩⟩⟩⟩⟩⟩
 ·rw[jS,no (by omega)];rfl
 ·rw[jS,no (by omega)];rfl
 ·have:=fun h=>pL (n:=n) (d:=d) hn h
  rw[jS,no (by omega)];rfl
 ·have:=fun h=>pL (n:=n) (d:=d) hn h
  rw[jS,no (by omega)];rfl
 ·have:=fun h=>pL (n:=n) (d:=d) hn h
  rw[jS,no (by omega)];rfl
 ·have:=pL (n:=n) (d:=d) hn h1
  rw[al,Nr,Mp hn h1,Kf h3 h2,Gw h4 hm]
  refine ap (p:=w<16*n*d+16) rfl (fun h=>au ?_ (.ret _)) fun h6=>ap (p:=g<2*w+2*de+4) rfl (fun h=>au ?_ (.ret _)) fun h7=>ap (p:=s<2*g+fX (n,s,g,w,d,de,cold,modes)) rfl (fun h=>au ?_ (.ret _)) fun h8=>au ?_ (.ret _)
  ·rw[jS,no (by omega)];rfl
  ·rw[jS,no (by omega)];rfl
  ·rw[jS,no (by omega)];rfl
  ·rw[jS,decide_eq_true (by omega)];rfl
theorem SH{n s g w d de:Int}{cold:List Bool}{modes:List Mode}(hl:modes.length≤140737488355328)(hc:(cold.length:Int)=n)(hn:4≤n∧n≤8):∀(j i:Nat),modes.length-i=j→i≤modes.length→
  aA (Jq aj) (.more (.c0 ⟨modes,(modes.length:Int),n,s,g,w,d,de,cold,modes⟩ (i:Int))) (bif (modes.drop i).all (iI (n,s,g,w,d,de,cold,modes))&&jS n s g w d de (fX (n,s,g,w,d,de,cold,modes)) then 0 else 70):=by
 intro j
 induction j with
 | zero=>
   intro i hj hi
   have:i=modes.length:=by omega
   subst this
   rw[ak,Jq]
   refine(ah (by rw[aO];simp)).2 (PU hn ?_)
   rw[List.drop_length];rfl
 | succ j ih=>
   intro i hj hi
   have hi':i<modes.length:=by omega
   rw[ak,Jq]
   refine(ai (by rw[aO];simp;omega)).2 (af.2 ⟨aP hi',?_⟩)
   have e:(aj.n aV modes (i:Int):Mode)=modes[i]:=getD_in hi' _
   rw[e,List.drop_eq_getElem_cons hi',List.all_cons]
   refine af.2 ⟨by show((cold.length:Int)==n)=true;simpa using hc,?_⟩
   have hf:aj.k Gz ((n,s,g,w,d,de,cold,modes),modes[i])=iI (n,s,g,w,d,de,cold,modes) modes[i]:=rfl
   rw[hf]
   cases iI (n,s,g,w,d,de,cold,modes) modes[i]
   ·refine(ai rfl).2 ((ai (by rw[aM];simp)).2 (.ret _))
   ·refine(ah rfl).2 ?_
    rw[cf (i:=i) (by omega),Bool.true_and]
    exact ih (i+1) (by omega) (by omega)
theorem U2{n s g w d de:Int}{cold:List Bool}{modes:List Mode}(h:Ty.has aY (n,s,g,w,d,de,cold,modes)):aA (Jq aj) (t124 aj n s g w d de cold modes) (fT (n,s,g,w,d,de,cold,modes)):=by
 unfold t124 fT dV
 refine af.2 ⟨rfl,?_⟩
 rw[show aj.k LC (n,s,g,w,d,de,cold,modes)=countB (n,s,g,w,d,de,cold,modes) from rfl]
 cases hc:countB (n,s,g,w,d,de,cold,modes)
 ·exact(ai rfl).2 (.ret _)
 ·refine(ah rfl).2 ?_
  simp only[countB,kM,Bool.and_eq_true,decide_eq_true_eq,beq_iff_eq] at hc
  exact SH (kX h).2.2.1 hc.1.2 hc.1.1.1 modes.length 0 rfl (by omega)
def kw:ao→Int:=fT
def ZW:aB:=⟨[aY], [yI],(@tt ao),kw⟩
theorem D9:Sd 62 ZW:=aL ax bK true 58 [⟨198,2, [[0,1,7,8], [], [1]]⟩] [] (fun A (mNodes,mSlot,mGap,mWindow,mDrift,mDelay,mCold,mModes)=>t124 A mNodes mSlot mGap mWindow mDrift mDelay mCold mModes) Jq Xq (fc Tryz.func62 (fc Tryz.func140 (fc Tryz.func141 (fc Tryz.func198 fz)))) (sc aaB (sc aeA (sc DY (sc XP sz)))) (fun A y=>match y with |.c0 p a2=>⟨136,by kernel_rfl,by kernel_rfl⟩) fun(mNodes,mSlot,mGap,mWindow,mDrift,mDelay,mCold,mModes) hp h=>U2 h
open Go.Ev.Pl
def P9(A:a_)(explicit:Bool)(data:Int):LT Int Empty:=.br (A.not explicit) (.ret 2) (.br (A.c .gtr data 0) (.ret 4) (.ret 3))
def yu:(Bool×Int)→Int:=fun(explicit,data)=>(P9 aj explicit data).val (Ty.bE [yI])
def abN:aB:=⟨[.bool,yI], [yI],(@tt (Bool×Int)),yu⟩
theorem RV:Sd 197 abN:=aJ ax bK true 30 [] (fun A (explicit,data)=>P9 A explicit data) (fc Tryz.func197 fz) sz (fun((explicit,data):Bool×Int) hp h=>by
 show(P9 aj explicit data).pre=true
 simp[P9,LT.pre,al,bH])
def Pd(A:a_)(n:Int):LT Int Empty:=.br (A.c .lss n 0) (.ret 0) (.br (A.c .gtr n 4095) (.ret 0) (.ret (A.b .add .i64 14 (A.b .quo .i64 (A.b .add .i64 n 1) 2))))
def Hf:Int→Int:=fun n=>(Pd aj n).val (Ty.bE [yI])
def X0:aB:=⟨[yI], [yI],(@tt Int),Hf⟩
theorem Y0:Sd 195 X0:=aJ ax bK true 30 [] (fun A n=>Pd A n) (fc Tryz.func195 fz) sz (fun(n:Int) hp h=>by
 show(Pd aj n).pre=true
 simp[Pd,LT.pre,al,bH])
structure Xf where
 (a0:List Bool)
inductive Qp where
 | c0 (p:Xf) (a1:Int) (a2:Int)
noncomputable def UR:Qp→fL
 | .c0 p a1 a2=>⟨[⟨147,18,(en [(0,.sl .bool p.a0),(3,vi a1),(4,vi a2)]),[.inLoop (cw Tryz.f147 [1,1,0,1,0,0]),.inBlock 0,.code (cw Tryz.f147 [1,1,1])],[],none⟩],[.dead]⟩
def adS(A:a_)(l:List Bool):LT Int Qp:=.more (.c0 ⟨l⟩ 0 0)
def Lk(A:a_):Qp→LT Int Qp
 | .c0 p a1 a2=>.br (A.c .lss a2 (A.l p.a0)) (.need (A.and (A.c .leq 0 a2) (A.c .lss a2 (A.l p.a0))) (.br (A.n .bool p.a0 a2:Bool) (.more (.c0 p (A.b .add .i64 a1 1) (A.b .add .i64 a2 1))) (.more (.c0 p a1 (A.b .add .i64 a2 1))))) (.ret a1)
theorem UB{l:List Bool}(hl:l.length≤140737488355328):∀(j i c:Nat),l.length-i=j→i≤l.length→c≤i→aA (Lk aj) (.more (.c0 ⟨l⟩ (c:Int) (i:Int))) ((c+(l.drop i).count true:Nat):Int):=by
 intro j
 induction j with
 | zero=>
   intro i c hj hi hc
   have:i=l.length:=by omega
   subst this
   rw[ak,Lk]
   refine(ah (by rw[fN,aO];simp)).2 ?_
   rw[List.drop_length]
   exact .ret _
 | succ j ih=>
   intro i c hj hi hc
   have hi':i<l.length:=by omega
   rw[ak,Lk]
   refine(ai (by rw[fN,aO];simp;omega)).2 (af.2 ⟨aP hi',?_⟩)
   rw[List.drop_eq_getElem_cons hi',List.count_cons]
   cases hb:l[i]
   ·refine(ah ((rp hi').trans hb)).2 ?_
    rw[cf (i:=i) (by omega)]
    refine au ?_ (ih (i+1) c (by omega) (by omega) (by omega))
    simp
   ·refine(ai ((rp hi').trans hb)).2 ?_
    rw[cf (i:=c) (by omega),cf (i:=i) (by omega)]
    refine au ?_ (ih (i+1) (c+1) (by omega) (by omega) (by omega))
    simp[Nat.add_assoc,Nat.add_comm 1]
def EI:(List Bool)→Int:=fun l=>(l.count true:Int)
def ZB:aB:=⟨[(.slice .bool)], [yI],(@tt (List Bool)),EI⟩
theorem XS:Sd 147 ZB:=aL ax bK true 21 [⟨147,3, [[0,3,4]]⟩] [] (fun A l=>adS A l) Lk UR (fc Tryz.func147 fz) sz (fun A y=>match y with |.c0 p a1 a2=>⟨37,by kernel_rfl,by kernel_rfl⟩) fun(l:List Bool) hp h=>by
 show aA (Lk aj) (adS aj l) (EI l)
 exact au (by simp[EI]) (UB h.1 l.length 0 0 rfl (by omega) (by omega))
structure Ud where
 (a1:List Int) (a2 a3:List Bool) (a4 a5 a6 a7 a8 a9:Int) (bV:List Bool) (dT:List Mode)
structure SD where
 (b1:List Int) (b2 b3:List Bool) (b4 b5 b6 b7 b8 b9:Int) (b10:List Bool) (b11:List Mode)
inductive Qb where
 | c0 (p:Ud) (a0:Int)
 | c1 (p:SD) (b0:Int)
noncomputable def VB:Qb→fL
 | .c0 p a0=>⟨[⟨148,78,(en [(2,.ptr 0 0),(3,.ptr 1 0),(5,vi a0)]),[.inLoop (cw Tryz.f148 [1,1,0,1,0,0]),.inBlock 0,.code (cw Tryz.f148 [1,1,1])],[],none⟩],[.flat false [.sl yI p.a1,.sl .bool p.a2,.sl .bool p.a3],.flat false [vi p.a4,vi p.a5,vi p.a6,vi p.a7,vi p.a8,vi p.a9,.sl .bool p.bV,.sl aV p.dT],.dead]⟩
 | .c1 p b0=>⟨[⟨148,78,(en [(2,.ptr 0 0),(3,.ptr 1 0),(6,vi b0)]),[.inLoop (cw Tryz.f148 [1,1,1,0,1,0,0]),.inBlock 2,.code (cw Tryz.f148 [1,1,1,1])],[],none⟩],[.flat false [.sl yI p.b1,.sl .bool p.b2,.sl .bool p.b3],.flat false [vi p.b4,vi p.b5,vi p.b6,vi p.b7,vi p.b8,vi p.b9,.sl .bool p.b10,.sl aV p.b11],.dead]⟩
def O1(A:a_)(xData:List Int)(xExplicit:List Bool)(xNext:List Bool)(mNodes:Int)(mSlot:Int)(mGap:Int)(mWindow:Int)(mDrift:Int)(mDelay:Int)(mCold:List Bool)(mModes:List Mode):LT Bool Qb:=.br (A.c .neq (A.l xData) mNodes) (.ret false) (.br (A.c .neq (A.l xExplicit) mNodes) (.ret false) (.br (A.c .neq (A.l xNext) (A.l mModes)) (.ret false) (.more (.c0 ⟨xData,xExplicit,xNext,mNodes,mSlot,mGap,mWindow,mDrift,mDelay,mCold,mModes⟩ 0))))
def An(A:a_):Qb→LT Bool Qb
 | .c0 p a0=>.br (A.c .lss a0 (A.l p.a1)) (.need (A.and (A.c .leq 0 a0) (A.c .lss a0 (A.l p.a1))) (.br (A.c .lss (A.n yI p.a1 a0:Int) 0) (.ret false) (.need (A.and (A.c .leq 0 a0) (A.c .lss a0 (A.l p.a1))) (.br (A.c .gtr (A.n yI p.a1 a0:Int) 8) (.ret false) (.more (.c0 p (A.b .add .i64 a0 1))))))) (.more (.c1 ⟨p.a1,p.a2,p.a3,p.a4,p.a5,p.a6,p.a7,p.a8,p.a9,p.bV,p.dT⟩ 0))
 | .c1 p b0=>.br (A.c .lss b0 (A.l p.b2)) (.br (A.c .lss b0 (A.l p.b10)) (.need (A.and (A.c .leq 0 b0) (A.c .lss b0 (A.l p.b10))) (.br (A.n .bool p.b10 b0:Bool) (.need (A.and (A.c .leq 0 b0) (A.c .lss b0 (A.l p.b2))) (.br (A.not (A.n .bool p.b2 b0:Bool)) (.ret false) (.more (.c1 p (A.b .add .i64 b0 1))))) (.more (.c1 p (A.b .add .i64 b0 1))))) (.ret true)) (.ret true)
def MO:List Bool→List Bool→Bool
 | c::cs,e::es=>(!c||e)&&MO cs es
 | _,_=>true
theorem qy:∀{ds:List Int} {cs es:List Bool},cs.length=ds.length→es.length=ds.length→pu ds cs es=(ds.all (fun d=>decide (0≤d)&&decide (d≤8))&&MO cs es)
 | [], [], [],_,_=>rfl
 | d::ds,c::cs,e::es,h1,h2=>by
   rw[pu,qy (ds:=ds) (by simpa using h1) (by simpa using h2),List.all_cons,MO]
   cases (decide (0≤d)&&decide (d≤8))<;>cases (!c||e)<;>simp
 | [],_::_,_,h,_=>by cases h
 | [], [],_::_,_,h=>by cases h
 | _::_, [],_,h,_=>by cases h
 | _::_,_::_, [],_,h=>by cases h
theorem Ue{n s g w d de:Int}{cold expl next:List Bool}{modes:List Mode}{data:List Int}(hl:expl.length≤140737488355328)(hc:cold.length=expl.length):∀(j i:Nat),expl.length-i=j→i≤expl.length→
  aA (An aj) (.more (.c1 ⟨data,expl,next,n,s,g,w,d,de,cold,modes⟩ (i:Int))) (MO (cold.drop i) (expl.drop i)):=by
 intro j
 induction j with
 | zero=>
   intro i hj hi
   have:i=expl.length:=by omega
   subst this
   rw[ak,An]
   refine(ah (by rw[fN,aO];simp)).2 ?_
   rw[List.drop_length,List.drop_of_length_le (by omega)]
   exact .ret _
 | succ j ih=>
   intro i hj hi
   have hi':i<expl.length:=by omega
   have hi2:i<cold.length:=by omega
   rw[ak,An]
   refine(ai (by rw[fN,aO];simp;omega)).2 ((ai (by rw[fN,aO];simp;omega)).2 (af.2 ⟨aP hi2,?_⟩))
   have hm:=ih (i+1) (by omega) (by omega)
   rw[List.drop_eq_getElem_cons hi',List.drop_eq_getElem_cons hi2,MO]
   cases hcb:cold[i]
   ·refine(ah ((rp hi2).trans hcb)).2 ?_
    rw[cf (i:=i) (by omega)];exact hm
   ·refine(ai ((rp hi2).trans hcb)).2 (af.2 ⟨aP hi',?_⟩)
    cases heb:expl[i]
    ·exact(ai (by rw[rp hi',heb];rfl)).2 (.ret _)
    ·refine(ah (by rw[rp hi',heb];rfl)).2 ?_
     rw[cf (i:=i) (by omega)];exact hm
theorem VR{n s g w d de:Int}{cold expl next:List Bool}{modes:List Mode}{data:List Int}{R:Bool}(hl:data.length≤140737488355328)(hR:aA (An aj) (.more (.c1 ⟨data,expl,next,n,s,g,w,d,de,cold,modes⟩ 0)) R):∀(j i:Nat),data.length-i=j→i≤data.length→
  aA (An aj) (.more (.c0 ⟨data,expl,next,n,s,g,w,d,de,cold,modes⟩ (i:Int))) ((data.drop i).all (fun d=>decide (0≤d)&&decide (d≤8))&&R):=by
 intro j
 induction j with
 | zero=>
   intro i hj hi
   have:i=data.length:=by omega
   subst this
   rw[ak,An]
   refine(ah (by rw[fN,aO];simp)).2 ?_
   rw[List.drop_length]
   exact au (by simp) hR
 | succ j ih=>
   intro i hj hi
   have hi':i<data.length:=by omega
   rw[ak,An]
   have hm:=ih (i+1) (by omega) (by omega)
   rw[List.drop_eq_getElem_cons hi',List.all_cons]
   refine(ai (by rw[fN,aO];simp;omega)).2 (af.2 ⟨aP hi',?_⟩)
   rw[OZ hi']
   refine ap (p:=data[i]<0) rfl (fun h=>au ?_ (.ret _)) fun h1=>af.2 ⟨aP hi',ap (p:=8<data[i]) rfl (fun h=>au ?_ (.ret _)) fun h2=>?_⟩
   ·rw[decide_eq_false (show ¬0≤data[i] by omega)];rfl
   ·rw[decide_eq_false (show ¬data[i]≤8 by omega),Bool.and_false];rfl
   ·rw[cf (i:=i) (by omega),decide_eq_true (show 0≤data[i] by omega),decide_eq_true (show data[i]≤8 by omega)]
    exact hm
theorem VP{n s g w d de:Int}{cold expl next:List Bool}{modes:List Mode}{data:List Int}(hl:data.length≤140737488355328)(hl2:expl.length≤140737488355328)(hc:(cold.length:Int)=n) :
  aA (An aj) (O1 aj data expl next n s g w d de cold modes) (iI (n,s,g,w,d,de,cold,modes) (data,expl,next)):=by
 unfold O1 iI
 simp only[fN]
 by_cases h1:(data.length:Int)=n
 ·refine(ah (b_ h1)).2 ?_
  by_cases h2:(expl.length:Int)=n
  ·refine(ah (b_ h2)).2 ?_
   by_cases h3:(next.length:Int)=modes.length
   ·refine(ah (b_ h3)).2 (au ?_ (VR hl (Ue hl2 (by omega) expl.length 0 rfl (by omega)) data.length 0 rfl (by omega)))
    rw[beq_iff_eq.2 h1,beq_iff_eq.2 h2,beq_iff_eq.2 (show next.length=modes.length by omega),qy (show cold.length=data.length by omega) (show expl.length=data.length by omega)];rfl
   ·refine(ai (dE h3)).2 (au ?_ (.ret _))
    rw[beq_eq_false_iff_ne.2 (show next.length≠modes.length by omega),Bool.and_false,Bool.false_and]
  ·refine(ai (dE h2)).2 (au ?_ (.ret _))
   rw[beq_eq_false_iff_ne.2 h2,Bool.and_false];rfl
 ·refine(ai (dE h1)).2 (au ?_ (.ret _))
  rw[beq_eq_false_iff_ne.2 h1];rfl
def GX:(Mode×ao)→Bool:=fun(x,m)=>iI m x
def F6:(Mode×ao)→Bool:=fun(_,m)=>(m.2.2.2.2.2.2.1.length:Int)==m.1
def ZJ:aB:=⟨[aV,aY], [.bool],F6,GX⟩
theorem aby:Sd 148 ZJ:=aL ax bK true 48 [⟨148,4, [[2,3,5]]⟩,⟨148,9, [[2,3,6]]⟩] [] (fun A ((xData,xExplicit,xNext),mNodes,mSlot,mGap,mWindow,mDrift,mDelay,mCold,mModes)=>O1 A xData xExplicit xNext mNodes mSlot mGap mWindow mDrift mDelay mCold mModes) An VB (fc Tryz.func148 fz) sz (fun A y=>match y with |.c0 p a0=>⟨44,by kernel_rfl,by kernel_rfl⟩|.c1 p b0=>⟨50,by kernel_rfl,by kernel_rfl⟩) fun(((xData,xExplicit,xNext),mNodes,mSlot,mGap,mWindow,mDrift,mDelay,mCold,mModes):Mode×ao) hp h=>by
 show aA (An aj) (O1 aj xData xExplicit xNext mNodes mSlot mGap mWindow mDrift mDelay mCold mModes) (GX ((xData,xExplicit,xNext),mNodes,mSlot,mGap,mWindow,mDrift,mDelay,mCold,mModes))
 exact VP h.1.1.1 h.1.2.1.1 (by simpa [F6] using hp)
structure VX where
 (a0 a1 a2 a3 a4 a5 a6 a7:Int) (a8:List Bool) (a9:List Mode)
structure V_ where
 (b1 b3 b4 b5 b6 b7 b8:Int) (b9:List Bool) (b10:List Mode) (b11:List Int) (b12 b13:List Bool)
inductive QG where
 | c0 (p:VX)
 | c1 (p:V_) (b0:Int) (b2:Int)
noncomputable def WJ:QG→fL
 | .c0 p=>⟨[⟨138,66,(en [(1,.ptr 0 0),(3,vi p.a0),(4,vi p.a1)]),[.inLoop (cw Tryz.f138 [1,1,0,1,0,0]),.inBlock 0,.code (cw Tryz.f138 [1,1,1])],[],none⟩],[.flat false [vi p.a2,vi p.a3,vi p.a4,vi p.a5,vi p.a6,vi p.a7,.sl .bool p.a8,.sl aV p.a9],.dead]⟩
 | .c1 p b0 b2=>⟨[⟨138,66,(en [(1,.ptr 0 0),(3,vi b0),(4,vi p.b1),(5,.ptr 1 0),(6,vi b2)]),[.inLoop (cw Tryz.f138 [1,1,0,1,0,0,1,0,0,1,1,0,0]),.inBlock 2,.inBlock 1,.code (cw Tryz.f138 [1,1,0,1,0,0,1,1]),.inLoop (cw Tryz.f138 [1,1,0,1,0,0]),.inBlock 0,.code (cw Tryz.f138 [1,1,1])],[],none⟩],[.flat false [vi p.b3,vi p.b4,vi p.b5,vi p.b6,vi p.b7,vi p.b8,.sl .bool p.b9,.sl aV p.b10],.flat false [.sl yI p.b11,.sl .bool p.b12,.sl .bool p.b13],.dead]⟩
def UO(A:a_)(mNodes:Int)(mSlot:Int)(mGap:Int)(mWindow:Int)(mDrift:Int)(mDelay:Int)(mCold:List Bool)(mModes:List Mode):LT Int QG:=.need (A.k (@tt (Int×Int)) (1,0)) (.need (A.k (@tt Int) (A.k yV (1,0))) (.more (.c0 ⟨(A.k Hf (A.k yV (1,0))),0,mNodes,mSlot,mGap,mWindow,mDrift,mDelay,mCold,mModes⟩)))
def B5(A:a_):QG→LT Int QG
 | .c0 p=>.br (A.c .lss p.a1 (A.l p.a9)) (.need (A.and (A.c .leq 0 p.a1) (A.c .lss p.a1 (A.l p.a9))) (.more (.c1 ⟨p.a1,p.a2,p.a3,p.a4,p.a5,p.a6,p.a7,p.a8,p.a9,(A.n aV p.a9 p.a1:Mode).1,(A.n aV p.a9 p.a1:Mode).2.1,(A.n aV p.a9 p.a1:Mode).2.2⟩ p.a0 0))) (.ret p.a0)
 | .c1 p b0 b2=>.br (A.c .lss b2 (A.l p.b11)) (.br (A.c .lss b2 (A.l p.b12)) (.br (A.c .lss b2 p.b3) (.need (A.and (A.c .leq 0 b2) (A.c .lss b2 (A.l p.b12))) (.need (A.and (A.c .leq 0 b2) (A.c .lss b2 (A.l p.b11))) (.need (A.k (@tt (Bool×Int)) ((A.n .bool p.b12 b2:Bool),(A.n yI p.b11 b2:Int))) (.need (A.and (A.c .leq 0 b2) (A.c .lss b2 (A.l p.b11))) (.need (A.k (@tt (Int×Int)) ((A.k yu ((A.n .bool p.b12 b2:Bool),(A.n yI p.b11 b2:Int))),(A.n yI p.b11 b2:Int))) (.br (A.c .gtr (A.k yV ((A.k yu ((A.n .bool p.b12 b2:Bool),(A.n yI p.b11 b2:Int))),(A.n yI p.b11 b2:Int))) 0) (.need (A.k (@tt Int) (A.k yV ((A.k yu ((A.n .bool p.b12 b2:Bool),(A.n yI p.b11 b2:Int))),(A.n yI p.b11 b2:Int)))) (.more (.c1 p (A.mx b0 (A.k Hf (A.k yV ((A.k yu ((A.n .bool p.b12 b2:Bool),(A.n yI p.b11 b2:Int))),(A.n yI p.b11 b2:Int))))) (A.b .add .i64 b2 1)))) (.more (.c1 p b0 (A.b .add .i64 b2 1))))))))) (.more (.c0 ⟨b0,(A.b .add .i64 p.b1 1),p.b3,p.b4,p.b5,p.b6,p.b7,p.b8,p.b9,p.b10⟩))) (.more (.c0 ⟨b0,(A.b .add .i64 p.b1 1),p.b3,p.b4,p.b5,p.b6,p.b7,p.b8,p.b9,p.b10⟩))) (.more (.c0 ⟨b0,(A.b .add .i64 p.b1 1),p.b3,p.b4,p.b5,p.b6,p.b7,p.b8,p.b9,p.b10⟩))
theorem Kh:yu=jj:=rfl
theorem EH:Hf=ql:=rfl
theorem Ig:yV=nU:=funext fun⟨k,d⟩=>by rw[yH.1,yH.2]
theorem afA{n s g w d de:Int}{cold expl next:List Bool}{modes:List Mode}{data:List Int}{k k1:Int}{F:Int→Int}(hl:data.length≤140737488355328)(hk:aj.b .add .i64 k 1=k1)(hnext:∀b,aA (B5 aj) (.more (.c0 ⟨b,k1,n,s,g,w,d,de,cold,modes⟩)) (F b)) :
  ∀(j i:Nat) (b:Int),data.length-i=j→i≤data.length→aA (B5 aj) (.more (.c1 ⟨k,n,s,g,w,d,de,cold,modes,data,expl,next⟩ b (i:Int))) (F ((((data.zip expl).take n.toNat).drop i).foldl ze b)):=by
 intro j
 induction j with
 | zero=>
   intro i b hj hi
   have:i=data.length:=by omega
   subst this
   rw[ak,B5]
   refine(ah (by rw[fN,aO];simp)).2 ?_
   rw[tg (.inr (.inr (Nat.le_refl _))),hk]
   exact hnext b
 | succ j ih=>
   intro i b hj hi
   have hi':i<data.length:=by omega
   rw[ak,B5]
   refine(ai (by rw[fN,aO];simp;omega)).2 ?_
   have hm:=fun b=>ih (i+1) b (by omega) (by omega)
   by_cases h2:i<expl.length
   ·refine(ai (by rw[fN,aO];simpa using h2)).2 ?_
    by_cases h3:(i:Int)<n
    ·refine(ai (by rw[G0];simpa using h3)).2 (af.2 ⟨aP (show i<expl.length from h2),af.2 ⟨aP hi',af.2 ⟨rfl,af.2 ⟨aP hi',af.2 ⟨rfl,?_⟩⟩⟩⟩⟩)
     rw[Nt hi' h2 h3,List.foldl_cons,Ot,←OZ hi',←rp h2,cf (i:=i) (by omega),Kh,Ig,EH]
     cases hb:aj.c .gtr (aj.k nU ((aj.k jj ((aj.n .bool expl (i:Int):Bool),(aj.n (.int .i64) data (i:Int):Int))),(aj.n (.int .i64) data (i:Int):Int))) 0
     ·exact(ah rfl).2 (hm _)
     ·exact(ai rfl).2 (af.2 ⟨rfl,hm _⟩)
    ·refine(ah (by rw[G0];simpa using h3)).2 ?_
     rw[tg (.inr (.inl (by omega))),hk];exact hnext b
   ·refine(ah (by rw[fN,aO];simpa using h2)).2 ?_
    rw[tg (.inl (by omega)),hk];exact hnext b
theorem afP{n s g w d de:Int}{cold:List Bool}{modes:List Mode}(hl:modes.length≤140737488355328)(hd:∀x∈modes,x.1.length≤140737488355328) :
  ∀(j k:Nat) (b:Int),modes.length-k=j→k≤modes.length→aA (B5 aj) (.more (.c0 ⟨b,(k:Int),n,s,g,w,d,de,cold,modes⟩)) ((modes.drop k).foldl (qX n.toNat) b):=by
 intro j
 induction j with
 | zero=>
   intro k b hj hk
   have:k=modes.length:=by omega
   subst this
   rw[ak,B5]
   refine(ah (by rw[fN,aO];simp)).2 ?_
   rw[List.drop_length]
   exact .ret _
 | succ j ih=>
   intro k b hj hk
   have hk':k<modes.length:=by omega
   rw[ak,B5]
   refine(ai (by rw[fN,aO];simp;omega)).2 (af.2 ⟨aP hk',?_⟩)
   rw[show(aj.n aV modes (k:Int):Mode)=modes[k] from getD_in hk' _,List.drop_eq_getElem_cons hk',List.foldl_cons]
   exact afA (F:=fun b=>(modes.drop (k+1)).foldl (qX n.toNat) b) (hd _ (List.getElem_mem hk')) (cf (by omega)) (fun b=>ih (k+1) b (by omega) (by omega)) modes[k].1.length 0 b rfl (by omega)
theorem aam{n s g w d de:Int}{cold:List Bool}{modes:List Mode}(h:Ty.has aY (n,s,g,w,d,de,cold,modes)):aA (B5 aj) (UO aj n s g w d de cold modes) (fX (n,s,g,w,d,de,cold,modes)):=by
 unfold UO
 rw[Ig,EH]
 exact af.2 ⟨rfl,af.2 ⟨rfl,afP (kX h).2.2.1 (fun x hx=>((kX h).2.2.2 x hx).1) modes.length 0 _ rfl (by omega)⟩⟩
def vI:ao→Int:=fX
def ad2:aB:=⟨[aY], [yI],(@tt ao),vI⟩
theorem Si:Sd 138 ad2:=aL ax bK true 24 [⟨138,3, [[1,3,4]]⟩,⟨138,7, [[1,3,4,5,6]]⟩] [] (fun A (mNodes,mSlot,mGap,mWindow,mDrift,mDelay,mCold,mModes)=>UO A mNodes mSlot mGap mWindow mDrift mDelay mCold mModes) B5 WJ (fc Tryz.func138 fz) (sc abT (sc Y0 (sc RV sz))) (fun A y=>match y with |.c0 p=>⟨35,by kernel_rfl,by kernel_rfl⟩|.c1 p b0 b2=>⟨72,by kernel_rfl,by kernel_rfl⟩) fun(mNodes,mSlot,mGap,mWindow,mDrift,mDelay,mCold,mModes) hp h=>aam h
structure WW where
 (a1 a2 a3 a4 a5 a6:Int) (a7:List Bool) (a8:List Mode)
inductive Q_ where
 | c0 (p:WW) (a0:Int)
noncomputable def V6:Q_→fL
 | .c0 p a0=>⟨[⟨64,120,(en [(1,.ptr 0 0),(3,vi a0)]),[.inLoop (cw Tryz.f64 [1,1,0,1,0,0]),.inBlock 0,.code (cw Tryz.f64 [1,1,1])],[],none⟩],[.flat false [vi p.a1,vi p.a2,vi p.a3,vi p.a4,vi p.a5,vi p.a6,.sl .bool p.a7,.sl aV p.a8],.dead]⟩
def Xg(A:a_)(mNodes:Int)(mSlot:Int)(mGap:Int)(mWindow:Int)(mDrift:Int)(mDelay:Int)(mCold:List Bool)(mModes:List Mode):LT Int Q_:=.br (A.c .lss mNodes 4) (.ret 70) (.br (A.c .gtr mNodes 8) (.ret 70) (.br (A.c .lss (A.l mModes) 1) (.ret 70) (.br (A.c .gtr (A.l mModes) 4) (.ret 70) (.br (A.c .neq (A.l mCold) mNodes) (.ret 70) (.need (A.k (@tt (List Bool)) mCold) (.br (A.c .lss (A.k EI mCold) 2) (.ret 70) (.more (.c0 ⟨mNodes,mSlot,mGap,mWindow,mDrift,mDelay,mCold,mModes⟩ 0))))))))
def Jy(A:a_):Q_→LT Int Q_
 | .c0 p a0=>.br (A.c .lss a0 (A.l p.a8)) (.need (A.and (A.c .leq 0 a0) (A.c .lss a0 (A.l p.a8))) (.need (A.k F6 ((A.n aV p.a8 a0:Mode),p.a1,p.a2,p.a3,p.a4,p.a5,p.a6,p.a7,p.a8)) (.br (A.not (A.k GX ((A.n aV p.a8 a0:Mode),p.a1,p.a2,p.a3,p.a4,p.a5,p.a6,p.a7,p.a8))) (.ret 70) (.more (.c0 p (A.b .add .i64 a0 1)))))) (.br (A.c .lss p.a5 0) (.ret 70) (.br (A.c .gtr p.a5 64) (.ret 70) (.br (A.c .lss p.a6 0) (.ret 70) (.br (A.c .gtr p.a6 64) (.ret 70) (.br (A.c .lss p.a4 (A.b .add .i64 (A.b .mul .i64 (A.b .mul .i64 16 p.a1) p.a5) 16)) (.ret 70) (.br (A.c .gtr p.a4 1048576) (.ret 70) (.br (A.c .lss p.a3 (A.b .add .i64 (A.b .add .i64 (A.b .mul .i64 2 p.a4) (A.b .mul .i64 2 p.a6)) 4)) (.ret 70) (.br (A.c .gtr p.a3 1048576) (.ret 70) (.need (A.k (@tt ao) (p.a1,p.a2,p.a3,p.a4,p.a5,p.a6,p.a7,p.a8)) (.br (A.c .lss p.a2 (A.b .add .i64 (A.b .mul .i64 2 p.a3) (A.k vI (p.a1,p.a2,p.a3,p.a4,p.a5,p.a6,p.a7,p.a8)))) (.ret 70) (.br (A.c .gtr p.a2 16777216) (.ret 70) (.ret 0))))))))))))
theorem Pv{n s g w d de:Int}{cold:List Bool}{modes:List Mode}{R:Int}(hn:4≤n∧n≤8)(hR:R=bif jS n s g w d de (fX (n,s,g,w,d,de,cold,modes)) then 0 else 70) :
  aA (Jy aj) (.br (aj.c .lss d 0) (.ret 70) (.br (aj.c .gtr d 64) (.ret 70) (.br (aj.c .lss de 0) (.ret 70) (.br (aj.c .gtr de 64) (.ret 70) (.br (aj.c .lss w (aj.b .add .i64 (aj.b .mul .i64 (aj.b .mul .i64 16 n) d) 16)) (.ret 70) (.br (aj.c .gtr w 1048576) (.ret 70) (.br (aj.c .lss g (aj.b .add .i64 (aj.b .add .i64 (aj.b .mul .i64 2 w) (aj.b .mul .i64 2 de)) 4)) (.ret 70) (.br (aj.c .gtr g 1048576) (.ret 70) (.need (aj.k (@tt ao) (n,s,g,w,d,de,cold,modes)) (.br (aj.c .lss s (aj.b .add .i64 (aj.b .mul .i64 2 g) (aj.k vI (n,s,g,w,d,de,cold,modes)))) (.ret 70) (.br (aj.c .gtr s 16777216) (.ret 70) (.ret 0)))))))))))) R:=by
 have hm:=u_ (m:=(n,s,g,w,d,de,cold,modes))
 have no:∀{p:Prop} [Decidable p],¬p→decide p=false:=fun h=>by simpa using h
 rw[hR]
 refine ap (p:=d<0) rfl (fun h=>au ?_ (.ret _)) fun h1=>ap (p:=64<d) rfl (fun h=>au ?_ (.ret _)) fun h2=>ap (p:=de<0) rfl (fun h=>au ?_ (.ret _)) fun h3=>ap (p:=64<de) rfl (fun h=>au ?_ (.ret _)) fun h4=>?_
 ·rw[jS,no (by omega)];rfl
 ·rw[jS,no (by omega)];rfl
 ·rw[jS,no (by omega)];rfl
 ·rw[jS,no (by omega)];rfl
 have:=pL (n:=n) (d:=d) hn (by omega)
 rw[Mp hn (by omega)]
 refine ap (p:=w<16*n*d+16) rfl (fun h=>au ?_ (.ret _)) fun h5=>ap (p:=1048576<w) rfl (fun h=>au ?_ (.ret _)) fun h6=>?_
 ·rw[jS,no (by omega)];rfl
 ·rw[jS,no (by omega)];rfl
 rw[Kf (by omega) (by omega)]
 refine ap (p:=g<2*w+2*de+4) rfl (fun h=>au ?_ (.ret _)) fun h7=>ap (p:=1048576<g) rfl (fun h=>au ?_ (.ret _)) fun h8=>af.2 ⟨rfl,?_⟩
 ·rw[jS,no (by omega)];rfl
 ·rw[jS,no (by omega)];rfl
 rw[show aj.k vI (n,s,g,w,d,de,cold,modes)=fX (n,s,g,w,d,de,cold,modes) from rfl,Gw (by omega) hm]
 refine ap (p:=s<2*g+fX (n,s,g,w,d,de,cold,modes)) rfl (fun h=>au ?_ (.ret _)) fun h9=>ap (p:=16777216<s) rfl (fun h=>au ?_ (.ret _)) fun h10=>au ?_ (.ret _)
 ·rw[jS,no (by omega)];rfl
 ·rw[jS,no (by omega)];rfl
 ·rw[jS,decide_eq_true (by omega)];rfl
theorem Pg{n s g w d de:Int}{cold:List Bool}{modes:List Mode}(hl:modes.length≤140737488355328)(hc:(cold.length:Int)=n)(hn:4≤n∧n≤8):∀(j i:Nat),modes.length-i=j→i≤modes.length→
  aA (Jy aj) (.more (.c0 ⟨n,s,g,w,d,de,cold,modes⟩ (i:Int))) (bif (modes.drop i).all (iI (n,s,g,w,d,de,cold,modes))&&jS n s g w d de (fX (n,s,g,w,d,de,cold,modes)) then 0 else 70):=by
 intro j
 induction j with
 | zero=>
   intro i hj hi
   have:i=modes.length:=by omega
   subst this
   rw[ak,Jy]
   refine(ah (by rw[fN,aO];simp)).2 (Pv hn ?_)
   rw[List.drop_length];rfl
 | succ j ih=>
   intro i hj hi
   have hi':i<modes.length:=by omega
   rw[ak,Jy]
   refine(ai (by rw[fN,aO];simp;omega)).2 (af.2 ⟨aP hi',?_⟩)
   have e:(aj.n aV modes (i:Int):Mode)=modes[i]:=getD_in hi' _
   rw[e,List.drop_eq_getElem_cons hi',List.all_cons]
   refine af.2 ⟨by show((cold.length:Int)==n)=true;simpa using hc,?_⟩
   have hf:aj.k GX (modes[i],n,s,g,w,d,de,cold,modes)=iI (n,s,g,w,d,de,cold,modes) modes[i]:=rfl
   rw[hf]
   cases iI (n,s,g,w,d,de,cold,modes) modes[i]
   ·exact(ai rfl).2 (.ret _)
   ·refine(ah rfl).2 ?_
    rw[cf (i:=i) (by omega),Bool.true_and]
    exact ih (i+1) (by omega) (by omega)
theorem QQ{n s g w d de:Int}{cold:List Bool}{modes:List Mode}(h:Ty.has aY (n,s,g,w,d,de,cold,modes)):aA (Jy aj) (Xg aj n s g w d de cold modes) (fT (n,s,g,w,d,de,cold,modes)):=by
 unfold Xg fT dV countB
 simp only[kM,fN]
 refine ap (p:=n<4) rfl (fun h=>au ?_ (.ret _)) fun h1=>ap (p:=8<n) rfl (fun h=>au ?_ (.ret _)) fun h2=>ap (p:=(modes.length:Int)<1) rfl (fun h=>au ?_ (.ret _)) fun h3=>ap (p:=4<(modes.length:Int)) rfl (fun h=>au ?_ (.ret _)) fun h4=>?_
 ·rw[decide_eq_false (show ¬4≤n by omega)];rfl
 ·rw[decide_eq_false (show ¬n≤8 by omega),Bool.and_false];rfl
 ·rw[decide_eq_false (show ¬(1:Int)≤modes.length by omega),Bool.false_and,Bool.and_false];rfl
 ·rw[decide_eq_false (show ¬(modes.length:Int)≤4 by omega),Bool.and_false,Bool.and_false];rfl
 rw[decide_eq_true (show 4≤n by omega),decide_eq_true (show n≤8 by omega),decide_eq_true (show(1:Int)≤modes.length by omega),decide_eq_true (show(modes.length:Int)≤4 by omega)]
 by_cases h5:(cold.length:Int)=n
 ·refine(ah (b_ h5)).2 (af.2 ⟨rfl,?_⟩)
  rw[show aj.k EI cold=(cold.count true:Int) from rfl,beq_iff_eq.2 h5]
  refine ap (p:=(cold.count true:Int)<2) rfl (fun h=>au ?_ (.ret _)) fun h6=>au ?_ (Pg (kX h).2.2.1 h5 (by omega) modes.length 0 rfl (by omega))
  ·rw[decide_eq_false (show ¬(2:Int)≤cold.count true by omega)];rfl
  ·rw[decide_eq_true (show(2:Int)≤cold.count true by omega)];rfl
 ·refine(ai (dE h5)).2 (au ?_ (.ret _))
  rw[beq_eq_false_iff_ne.2 h5];rfl
def lm:ao→Int:=fT
def abC:aB:=⟨[aY], [yI],(@tt ao),lm⟩
theorem E4:Sd 64 abC:=aL ax bK true 58 [⟨64,4, [[1,3]]⟩] [] (fun A (mNodes,mSlot,mGap,mWindow,mDrift,mDelay,mCold,mModes)=>Xg A mNodes mSlot mGap mWindow mDrift mDelay mCold mModes) Jy V6 (fc Tryz.func64 fz) (sc Si (sc XS (sc aby sz))) (fun A y=>match y with |.c0 p a0=>⟨100,by kernel_rfl,by kernel_rfl⟩) fun(mNodes,mSlot,mGap,mWindow,mDrift,mDelay,mCold,mModes) hp h=>QQ h
end Go.Ev.M
