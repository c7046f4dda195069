/-
  PROVED: what medl.Check and metronomeref07.Check compute. Conditions: none.
-/
import Derived.Test.YteldjjjcdpnnbaaGreatFc
namespace Go.Ev.M
open Go.Proofs
set_option maxRecDepth 100000
set_option linter.unusedVariables false
set_option linter.unusedSimpArgs false
open Go.Ev.Pl
abbrev sI:Ty:=(.struct [yI,yI,yI,yI,yI])
abbrev dq:Type:=Int×Int×Int×Int×Int
abbrev mY:Ty:=(.struct [yI,yI,yI,yI,yI,yI,yI])
abbrev gh:Type:=Int×Int×Int×Int×Int×Int×Int
abbrev ZD:Ty:=(.struct [yI,yB])
abbrev Bits:Type:=Int×List Int
abbrev uy:Ty:=(.struct [yI,yI,sI,yI,yB])
abbrev gT:Type:=Int×Int×dq×Int×List Int
abbrev dA:Ty:=(.struct [yI,yI,ZD])
abbrev Seen:Type:=Int×Int×Bits
abbrev mW:Ty:=(.struct [yI,yI,yI,uy,yI])
abbrev gK:Type:=Int×Int×Int×gT×Int
abbrev aX:Ty:=(.struct [Wu,(.slice .bool),(.slice .bool)])
abbrev Mode:Type:=List Int×List Bool×List Bool
abbrev bd:Ty:=(.struct [yI,yI,yI,yI,yI,yI,(.slice .bool),(.slice aX)])
abbrev ak:Type:=Int×Int×Int×Int×Int×Int×List Bool×List Mode
abbrev df:Ty:=(.struct [yB,yI])
abbrev bW:Type:=List Int×Int
abbrev my:Ty:=(.struct [yI,yB,(.slice df),yI,yI])
abbrev cf:Type:=Int×List Int×List bW×Int×Int
abbrev aQ:Ty:=(.struct [yI,yI,sI,mY,yI,.bool,yI,my])
abbrev Node:Type:=Int×Int×dq×gh×Int×Bool×Int×cf
abbrev GY:Ty:=(.struct [yI,yI,yI,yI,yI,yB])
abbrev xL:Type:=Int×Int×Int×Int×Int×List Int
def JJ(A:bi)(n:Int)(least:Int)(most:Int):LT Bool Empty:=.br (A.c .geq n least) (.ret (A.c .leq n most)) (.ret false)
def dS:(Int×Int×Int)→Bool:=fun(n,least,most)=>(JJ aj n least most).val (Ty.bZ [.bool])
def WM:aD:=⟨[yI,yI,yI], [.bool],(@tt (Int×Int×Int)),dS⟩
theorem C4:Sd 143 WM:=aM au cK true 22 [] (fun A (n,least,most)=>JJ A n least most) (fc Tryz.func143 fz) sz (fun((n,least,most):Int×Int×Int) hp h=>by
 show(JJ aj n least most).pre=true
 simp[JJ,LT.pre,ap,cN])
theorem lU{x a b:Int}:dS (x,a,b)=(decide (a≤x)&&decide (x≤b)):=by
 simp only[dS,JJ,LT.val,aN,aB]
 cases decide (a≤x)<;>rfl
theorem Yk{α:Type}{x y:α}:(bif true then x else y)=x:=rfl
theorem Di{l:List Bool}{i:Nat}(h:i<l.length):(aj.n .bool l (i:Int):Bool)=l[i]:=getD_in h _
theorem R3{l:List Int}{i:Nat}(h:i<l.length):(aj.n (.int .i64) l (i:Int):Int)=l[i]:=getD_in h _
theorem ko{α:Type}{l:List α}:aj.l l=(l.length:Int):=rfl
theorem lQ{n s g w d de:Int}{cold:List Bool}{modes:List Mode}(h:Ty.has bd (n,s,g,w,d,de,cold,modes)):(-9223372036854775808≤n∧n≤9223372036854775807)∧cold.length≤140737488355328∧modes.length≤140737488355328∧∀x∈modes,x.1.length≤140737488355328∧x.2.1.length≤140737488355328∧∀d∈x.1,IntKind.i64.has d:=by
 obtain⟨h1,_,_,_,_,_,h2,h3⟩:=h
 exact⟨h1,h2.1,h3.1,fun x hx=>⟨(h3.2 x hx).1.1,(h3.2 x hx).2.1.1,(h3.2 x hx).1.2⟩⟩
structure TD where
 (a1:List Bool) (a2 a4 a5 a6 a7 a8 a9:Int) (bH:List Bool) (dP:List Mode)
inductive Jn where
 | c0 (p:TD) (a0:Int) (a3:Int)
noncomputable def RS:Jn→gB
 | .c0 p a0 a3=>⟨[⟨139,38,(en [(1,.ptr 0 0),(3,vi a0),(7,.sl .bool p.a1),(8,vi p.a2),(9,vi a3)]),[.inLoop (cw Tryz.f139 [1,1,0,1,0,0]),.inBlock 0,.code (cw Tryz.f139 [1,1,1])],[],none⟩],[.flat false [vi p.a4,vi p.a5,vi p.a6,vi p.a7,vi p.a8,vi p.a9,.sl .bool p.bH,.sl aX p.dP],.dead]⟩
def t154(A:bi)(mNodes:Int)(mSlot:Int)(mGap:Int)(mWindow:Int)(mDrift:Int)(mDelay:Int)(mCold:List Bool)(mModes:List Mode):LT Bool Jn:=.more (.c0 ⟨mCold,(A.l mCold),mNodes,mSlot,mGap,mWindow,mDrift,mDelay,mCold,mModes⟩ 0 0)
def Ku(A:bi):Jn→LT Bool Jn
 | .c0 p a0 a3=>.br (A.c .lss a3 p.a2) (.need (A.and (A.c .leq 0 a3) (A.c .lss a3 (A.l p.a1))) (.br (A.n .bool p.a1 a3:Bool) (.more (.c0 p (A.b .add .i64 a0 1) (A.b .add .i64 a3 1))) (.more (.c0 p a0 (A.b .add .i64 a3 1))))) (.need (A.k (@tt (Int×Int×Int)) (p.a4,4,8)) (.br (A.k dS (p.a4,4,8)) (.need (A.k (@tt (Int×Int×Int)) ((A.l p.dP),1,4)) (.br (A.k dS ((A.l p.dP),1,4)) (.br (A.c .eql (A.l p.bH) p.a4) (.ret (A.c .geq a0 2)) (.ret false)) (.ret false))) (.ret false)))
def countB(m:ak):Bool:=dS (m.1,4,8)&&dS ((m.2.2.2.2.2.2.2.length:Int),1,4)&&((m.2.2.2.2.2.2.1.length:Int)==m.1)&&decide (2≤(m.2.2.2.2.2.2.1.count true:Int))
theorem Sf{n s g w d de:Int}{cold:List Bool}{modes:List Mode}(hl:cold.length≤140737488355328):∀(j i c:Nat),cold.length-i=j→i≤cold.length→c≤i→
  aA (Ku aj) (.more (.c0 ⟨cold,(cold.length:Int),n,s,g,w,d,de,cold,modes⟩ (c:Int) (i:Int))) (dS (n,4,8)&&dS ((modes.length:Int),1,4)&&((cold.length:Int)==n)&&decide (2≤((c+(cold.drop i).count true:Nat):Int))):=by
 intro j
 induction j with
 | zero=>
   intro i c hj hi hc
   have:i=cold.length:=by omega
   subst this
   rw[al,Ku]
   refine(ah (by rw[aO];simp)).2 ?_
   rw[List.drop_length]
   simp only[af,ap,cN,true_and]
   cases dS (n,4,8)
   ·exact(ah rfl).2 (.ret _)
   refine(ai rfl).2 ?_
   simp only[af,ap,cN,true_and,ko]
   cases dS ((modes.length:Int),1,4)
   ·exact(ah rfl).2 (.ret _)
   refine(ai rfl).2 ?_
   rw[aF]
   cases ((cold.length:Int)==n)
   ·exact(ah rfl).2 (.ret _)
   refine(ai rfl).2 ?_
   rw[aN]
   exact .ret _
 | succ j ih=>
   intro i c hj hi hc
   have hi':i<cold.length:=by omega
   rw[al,Ku]
   refine(ai (by rw[aO];simp;omega)).2 (af.2 ⟨bT hi',?_⟩)
   rw[List.drop_eq_getElem_cons hi',List.count_cons]
   cases hb:cold[i]
   ·refine(ah ((Di hi').trans hb)).2 ?_
    refine bl (congrArg (fun z=>LT.more (Jn.c0 _ _ z)) (eu (by omega))) (ay ?_ (ih (i+1) c (by omega) (by omega) (by omega)))
    simp
   ·refine(ai ((Di hi').trans hb)).2 ?_
    rw[eu (i:=c) (by omega),eu (i:=i) (by omega)]
    refine ay ?_ (ih (i+1) (c+1) (by omega) (by omega) (by omega))
    simp[Nat.add_assoc,Nat.add_comm 1]
theorem QC{n s g w d de:Int}{cold:List Bool}{modes:List Mode}(h:Ty.has bd (n,s,g,w,d,de,cold,modes)):aA (Ku aj) (t154 aj n s g w d de cold modes) (countB (n,s,g,w,d,de,cold,modes)):=
 ay (by simp[countB]) (Sf (lQ h).2.1 cold.length 0 0 rfl (by omega) (by omega))
def Jq:ak→Bool:=countB
def UG:aD:=⟨[bd], [.bool],(@tt ak),Jq⟩
theorem X8:Sd 139 UG:=aL au cK true 25 [⟨139,3, [[1,3,7,8,9]]⟩] [] (fun A (mNodes,mSlot,mGap,mWindow,mDrift,mDelay,mCold,mModes)=>t154 A mNodes mSlot mGap mWindow mDrift mDelay mCold mModes) Ku RS (fc Tryz.func139 fz) (sc C4 sz) (fun A y=>match y with |.c0 p a0 a3=>⟨38,by kernel_rfl,by kernel_rfl⟩) fun(mNodes,mSlot,mGap,mWindow,mDrift,mDelay,mCold,mModes) hp h=>QC h
structure SF where
 (a0:List Int) (a1 a3 a4 a5 a6 a7 a8:Int) (a9:List Bool) (bH:List Mode) (dP:List Int) (a12 jw:List Bool)
inductive Gg where
 | c0 (p:SF) (a2:Int)
noncomputable def SH:Gg→gB
 | .c0 p a2=>⟨[⟨142,57,(en [(2,.ptr 0 0),(3,.ptr 1 0),(31,.sl yI p.a0),(32,vi p.a1),(33,vi a2)]),[.inLoop (cw Tryz.f142 [1,1,0,1,0,0]),.inBlock 0,.code (cw Tryz.f142 [1,1,1])],[],none⟩],[.flat false [vi p.a3,vi p.a4,vi p.a5,vi p.a6,vi p.a7,vi p.a8,.sl .bool p.a9,.sl aX p.bH],.flat false [.sl yI p.dP,.sl .bool p.a12,.sl .bool p.jw],.dead]⟩
def t157(A:bi)(mNodes:Int)(mSlot:Int)(mGap:Int)(mWindow:Int)(mDrift:Int)(mDelay:Int)(mCold:List Bool)(mModes:List Mode)(xData:List Int)(xExplicit:List Bool)(xNext:List Bool):LT Bool Gg:=.br (A.c .neq (A.l xData) mNodes) (.ret false) (.br (A.c .neq (A.l xExplicit) mNodes) (.ret false) (.br (A.c .neq (A.l xNext) (A.l mModes)) (.ret false) (.more (.c0 ⟨xData,(A.l xData),mNodes,mSlot,mGap,mWindow,mDrift,mDelay,mCold,mModes,xData,xExplicit,xNext⟩ 0))))
def GV(A:bi):Gg→LT Bool Gg
 | .c0 p a2=>.br (A.c .lss a2 p.a1) (.need (A.and (A.c .leq 0 a2) (A.c .lss a2 (A.l p.a0))) (.need (A.k (@tt (Int×Int×Int)) ((A.n yI p.a0 a2:Int),0,8)) (.br (A.not (A.k dS ((A.n yI p.a0 a2:Int),0,8))) (.ret false) (.need (A.and (A.c .leq 0 a2) (A.c .lss a2 (A.l p.a9))) (.br (A.n .bool p.a9 a2:Bool) (.need (A.and (A.c .leq 0 a2) (A.c .lss a2 (A.l p.a12))) (.br (A.not (A.n .bool p.a12 a2:Bool)) (.ret false) (.more (.c0 p (A.b .add .i64 a2 1))))) (.more (.c0 p (A.b .add .i64 a2 1)))))))) (.ret true)
def oL:List Int→List Bool→List Bool→Bool
 | d::ds,c::cs,e::es=>(decide (0≤d)&&decide (d≤8))&&(!c||e)&&oL ds cs es
 | _,_,_=>true
def kT(m:ak)(x:Mode):Bool:=((x.1.length:Int)==m.1)&&((x.2.1.length:Int)==m.1)&&(x.2.2.length==m.2.2.2.2.2.2.2.length)&&oL x.1 m.2.2.2.2.2.2.1 x.2.1
theorem XS{n s g w d de:Int}{cold expl next:List Bool}{modes:List Mode}{data:List Int}(hl:data.length≤140737488355328)(hc:cold.length=data.length)(he:expl.length=data.length):∀(j i:Nat),data.length-i=j→i≤data.length→
  aA (GV aj) (.more (.c0 ⟨data,(data.length:Int),n,s,g,w,d,de,cold,modes,data,expl,next⟩ (i:Int))) (oL (data.drop i) (cold.drop i) (expl.drop i)):=by
 intro j
 induction j with
 | zero=>
   intro i hj hi
   have:i=data.length:=by omega
   subst this
   rw[al,GV]
   refine(ah (by rw[aO];simp)).2 ?_
   rw[List.drop_length]
   exact .ret _
 | succ j ih=>
   intro i hj hi
   have hi':i<data.length:=by omega
   rw[al,GV]
   refine(ai (by rw[aO];simp;omega)).2 (af.2 ⟨bT hi',af.2 ⟨rfl,?_⟩⟩)
   rw[List.drop_eq_getElem_cons hi',List.drop_eq_getElem_cons (show i<cold.length by omega),List.drop_eq_getElem_cons (show i<expl.length by omega),oL]
   have hm:=ih (i+1) (by omega) (by omega)
   have hw:aj.k dS ((aj.n (.int .i64) data (i:Int):Int),0,8)=(decide (0≤data[i])&&decide (data[i]≤8)):=by
    rw[ap,R3 hi',lU]
   cases hw':(decide (0≤data[i])&&decide (data[i]≤8))
   ·exact(ai (by rw[hw,hw'];rfl)).2 (.ret _)
   refine(ah (by rw[hw,hw'];rfl)).2 (af.2 ⟨bT (show i<cold.length by omega),?_⟩)
   cases hcb:cold[i]
   ·refine(ah ((Di (show i<cold.length by omega)).trans hcb)).2 ?_
    exact bl (congrArg (fun z=>LT.more (Gg.c0 _ z)) (eu (by omega))) hm
   ·refine(ai ((Di (show i<cold.length by omega)).trans hcb)).2 (af.2 ⟨bT (show i<expl.length by omega),?_⟩)
    cases heb:expl[i]
    ·exact(ai (by rw[Di (show i<expl.length by omega),heb];rfl)).2 (.ret _)
    ·refine(ah (by rw[Di (show i<expl.length by omega),heb];rfl)).2 ?_
     exact bl (congrArg (fun z=>LT.more (Gg.c0 _ z)) (eu (by omega))) hm
theorem UR{n s g w d de:Int}{cold expl next:List Bool}{modes:List Mode}{data:List Int}(hl:data.length≤140737488355328)(hc:(cold.length:Int)=n) :
  aA (GV aj) (t157 aj n s g w d de cold modes data expl next) (kT (n,s,g,w,d,de,cold,modes) (data,expl,next)):=by
 unfold t157 kT
 simp only[ko]
 by_cases h1:(data.length:Int)=n
 ·refine(ah (dw h1)).2 ?_
  by_cases h2:(expl.length:Int)=n
  ·refine(ah (dw h2)).2 ?_
   by_cases h3:(next.length:Int)=modes.length
   ·refine(ah (dw h3)).2 (ay ?_ (XS hl (by omega) (by omega) data.length 0 rfl (by omega)))
    rw[beq_iff_eq.2 h1,beq_iff_eq.2 h2,beq_iff_eq.2 (show next.length=modes.length by omega)];rfl
   ·refine(ai (fL h3)).2 (ay ?_ (.ret _))
    rw[beq_eq_false_iff_ne.2 (show next.length≠modes.length by omega),Bool.and_false,Bool.false_and]
  ·refine(ai (fL h2)).2 (ay ?_ (.ret _))
   rw[beq_eq_false_iff_ne.2 h2,Bool.and_false];rfl
 ·refine(ai (fL h1)).2 (ay ?_ (.ret _))
  rw[beq_eq_false_iff_ne.2 h1];rfl
def Fo:(ak×Mode)→Bool:=fun(m,x)=>kT m x
def Ew:(ak×Mode)→Bool:=fun(m,_)=>(m.2.2.2.2.2.2.1.length:Int)==m.1
def T6:aD:=⟨[bd,aX], [.bool],Ew,Fo⟩
theorem TX:Sd 142 T6:=aL au cK true 51 [⟨142,4, [[2,3,31,32,33]]⟩] [] (fun A ((mNodes,mSlot,mGap,mWindow,mDrift,mDelay,mCold,mModes),xData,xExplicit,xNext)=>t157 A mNodes mSlot mGap mWindow mDrift mDelay mCold mModes xData xExplicit xNext) GV SH (fc Tryz.func142 fz) (sc C4 sz) (fun A y=>match y with |.c0 p a2=>⟨51,by kernel_rfl,by kernel_rfl⟩) fun(((mNodes,mSlot,mGap,mWindow,mDrift,mDelay,mCold,mModes),xData,xExplicit,xNext):ak×Mode) hp h=>by
 show aA (GV aj) (t157 aj mNodes mSlot mGap mWindow mDrift mDelay mCold mModes xData xExplicit xNext) (Fo ((mNodes,mSlot,mGap,mWindow,mDrift,mDelay,mCold,mModes),xData,xExplicit,xNext))
 exact UR h.2.1.1 (by simpa [Ew] using hp)
open Go.Ev.Pl
def t183(A:bi)(explicit:Bool)(data:Int):LT Int Empty:=.br (A.not explicit) (.ret 2) (.br (A.c .gtr data 0) (.ret 4) (.ret 3))
def gN:(Bool×Int)→Int:=fun(explicit,data)=>(t183 aj explicit data).val (Ty.bZ [yI])
def WG:aD:=⟨[.bool,yI], [yI],(@tt (Bool×Int)),gN⟩
theorem OJ:Sd 208 WG:=aM au cK true 32 [] (fun A (explicit,data)=>t183 A explicit data) (fc Tryz.func208 fz) sz (fun((explicit,data):Bool×Int) hp h=>by
 show(t183 aj explicit data).pre=true
 simp[t183,LT.pre,ap,cN])
def t173(A:bi)(n:Int):LT Int Empty:=.br (A.c .lss n 0) (.ret 0) (.br (A.c .gtr n 4095) (.ret 0) (.ret (A.b .add .i64 14 (A.b .quo .i64 (A.b .add .i64 n 1) 2))))
def pj:Int→Int:=fun n=>(t173 aj n).val (Ty.bZ [yI])
def Y4:aD:=⟨[yI], [yI],(@tt Int),pj⟩
theorem ZS:Sd 226 Y4:=aM au cK true 30 [] (fun A n=>t173 A n) (fc Tryz.func226 fz) sz (fun(n:Int) hp h=>by
 show(t173 aj n).pre=true
 simp[t173,LT.pre,ap,cN])
structure TB where
 (a0:Int) (a1:List Mode) (a2 a3 a4 a5 a6 a7 a8 a9:Int) (bH:List Bool) (dP:List Mode)
structure Tx where
 (b1:List Mode) (b2 b3:Int) (b4:List Int) (b5 b7 b8 b9 b10 b11 b12:Int) (b13:List Bool) (z_:List Mode) (Bj:List Int) (dL im:List Bool)
inductive Nc where
 | c0 (p:TB)
 | c1 (p:Tx) (b0:Int) (b6:Int)
noncomputable def PH:Nc→gB
 | .c0 p=>⟨[⟨199,55,(en [(1,.ptr 0 0),(3,vi p.a0),(12,.sl aX p.a1),(13,vi p.a2),(14,vi p.a3)]),[.inLoop (cw Tryz.f199 [1,1,0,1,0,0]),.inBlock 0,.code (cw Tryz.f199 [1,1,1])],[],none⟩],[.flat false [vi p.a4,vi p.a5,vi p.a6,vi p.a7,vi p.a8,vi p.a9,.sl .bool p.bH,.sl aX p.dP],.dead]⟩
 | .c1 p b0 b6=>⟨[⟨199,55,(en [(1,.ptr 0 0),(3,vi b0),(5,.ptr 1 0),(12,.sl aX p.b1),(13,vi p.b2),(14,vi p.b3),(19,.sl yI p.b4),(20,vi p.b5),(21,vi b6)]),[.inLoop (cw Tryz.f199 [1,1,0,1,0,0,1,1,0,0,1,1,0,0]),.inBlock 2,.inBlock 1,.code (cw Tryz.f199 [1,1,0,1,0,0,1,1,1]),.inLoop (cw Tryz.f199 [1,1,0,1,0,0]),.inBlock 0,.code (cw Tryz.f199 [1,1,1])],[],none⟩],[.flat false [vi p.b7,vi p.b8,vi p.b9,vi p.b10,vi p.b11,vi p.b12,.sl .bool p.b13,.sl aX p.z_],.flat false [.sl yI p.Bj,.sl .bool p.dL,.sl .bool p.im],.dead]⟩
def Zh(A:bi)(mNodes:Int)(mSlot:Int)(mGap:Int)(mWindow:Int)(mDrift:Int)(mDelay:Int)(mCold:List Bool)(mModes:List Mode):LT Int Nc:=.need (A.k (@tt (Int×Int)) (1,0)) (.need (A.k (@tt Int) (A.k mZ (1,0))) (.more (.c0 ⟨(A.k pj (A.k mZ (1,0))),mModes,(A.l mModes),0,mNodes,mSlot,mGap,mWindow,mDrift,mDelay,mCold,mModes⟩)))
def Bt(A:bi):Nc→LT Int Nc
 | .c0 p=>.br (A.c .lss p.a3 p.a2) (.need (A.and (A.c .leq 0 p.a3) (A.c .lss p.a3 (A.l p.a1))) (.more (.c1 ⟨p.a1,p.a2,p.a3,(A.n aX p.a1 p.a3:Mode).1,(A.l (A.n aX p.a1 p.a3:Mode).1),p.a4,p.a5,p.a6,p.a7,p.a8,p.a9,p.bH,p.dP,(A.n aX p.a1 p.a3:Mode).1,(A.n aX p.a1 p.a3:Mode).2.1,(A.n aX p.a1 p.a3:Mode).2.2⟩ p.a0 0))) (.ret p.a0)
 | .c1 p b0 b6=>.br (A.c .lss b6 p.b5) (.need (A.and (A.c .leq 0 b6) (A.c .lss b6 (A.l p.b4))) (.br (A.c .lss b6 p.b7) (.br (A.c .lss b6 (A.l p.dL)) (.need (A.and (A.c .leq 0 b6) (A.c .lss b6 (A.l p.dL))) (.need (A.k (@tt (Bool×Int)) ((A.n .bool p.dL b6:Bool),(A.n yI p.b4 b6:Int))) (.need (A.k (@tt (Int×Int)) ((A.k gN ((A.n .bool p.dL b6:Bool),(A.n yI p.b4 b6:Int))),(A.n yI p.b4 b6:Int))) (.br (A.c .gtr (A.k mZ ((A.k gN ((A.n .bool p.dL b6:Bool),(A.n yI p.b4 b6:Int))),(A.n yI p.b4 b6:Int))) 0) (.need (A.k (@tt Int) (A.k mZ ((A.k gN ((A.n .bool p.dL b6:Bool),(A.n yI p.b4 b6:Int))),(A.n yI p.b4 b6:Int)))) (.more (.c1 p (A.mx b0 (A.k pj (A.k mZ ((A.k gN ((A.n .bool p.dL b6:Bool),(A.n yI p.b4 b6:Int))),(A.n yI p.b4 b6:Int))))) (A.b .add .i64 b6 1)))) (.more (.c1 p b0 (A.b .add .i64 b6 1))))))) (.more (.c1 p b0 (A.b .add .i64 b6 1)))) (.more (.c1 p b0 (A.b .add .i64 b6 1))))) (.more (.c0 ⟨b0,p.b1,p.b2,(A.b .add .i64 p.b3 1),p.b7,p.b8,p.b9,p.b10,p.b11,p.b12,p.b13,p.z_⟩))
def xm(b:Int)(x:Int×Bool):Int:=bif decide (0<mZ (gN (x.2,x.1),x.1)) then aj.mx b (pj (mZ (gN (x.2,x.1),x.1))) else b
def rB(n:Nat)(b:Int)(x:Mode):Int:=((x.1.zip x.2.1).take n).foldl xm b
def iM(m:ak):Int:=m.2.2.2.2.2.2.2.foldl (rB m.1.toNat) (pj (mZ (1,0)))
theorem LJ{data:List Int}{expl:List Bool}{n:Int}{i:Nat}(h1:i<data.length)(h2:i<expl.length)(h3:(i:Int)<n):((data.zip expl).take n.toNat).drop i=(data[i],expl[i])::((data.zip expl).take n.toNat).drop (i+1):=by
 have hl:i<((data.zip expl).take n.toNat).length:=by simp[List.length_take,List.length_zip];omega
 rw[List.drop_eq_getElem_cons hl,List.getElem_take,List.getElem_zip]
theorem sC{data:List Int}{expl:List Bool}{n:Int}{i:Nat}(h:expl.length≤i∨n≤(i:Int)∨data.length≤i):((data.zip expl).take n.toNat).drop i=[]:=by
 apply List.drop_of_length_le
 simp[List.length_take,List.length_zip];omega
theorem FJ{i:Nat}{n:Int}:aj.c .lss (i:Int) n=decide ((i:Int)<n):=rfl
theorem KH{b:Int}{d:Int}{e:Bool}:xm b (d,e)=bif aj.c .gtr (aj.k mZ ((aj.k gN (e,d)),d)) 0 then aj.mx b (aj.k pj (aj.k mZ ((aj.k gN (e,d)),d))) else b:=rfl
theorem acg{n s g w d de:Int}{cold expl next:List Bool}{modes ms:List Mode}{data:List Int}{L k k1:Int}{F:Int→Int}(hl:data.length≤140737488355328)(hk:aj.b .add .i64 k 1=k1)(hnext:∀b,aA (Bt aj) (.more (.c0 ⟨b,ms,L,k1,n,s,g,w,d,de,cold,modes⟩)) (F b)) :
  ∀(j i:Nat) (b:Int),data.length-i=j→i≤data.length→aA (Bt aj) (.more (.c1 ⟨ms,L,k,data,(data.length:Int),n,s,g,w,d,de,cold,modes,data,expl,next⟩ b (i:Int))) (F ((((data.zip expl).take n.toNat).drop i).foldl xm b)):=by
 intro j
 induction j with
 | zero=>
   intro i b hj hi
   have:i=data.length:=by omega
   subst this
   rw[al,Bt]
   refine(ah (by rw[aO];simp)).2 ?_
   rw[sC (.inr (.inr (Nat.le_refl _))),hk]
   exact hnext b
 | succ j ih=>
   intro i b hj hi
   have hi':i<data.length:=by omega
   rw[al,Bt]
   refine(ai (by rw[aO];simp;omega)).2 (af.2 ⟨bT hi',?_⟩)
   have hm:=fun b=>ih (i+1) b (by omega) (by omega)
   by_cases h3:(i:Int)<n
   ·refine(ai (by rw[FJ];simpa using h3)).2 ?_
    by_cases h2:i<expl.length
    ·refine(ai (by rw[ko,aO];simpa using h2)).2 (af.2 ⟨bT (show i<expl.length from h2),af.2 ⟨rfl,af.2 ⟨rfl,?_⟩⟩⟩)
     rw[LJ hi' h2 h3,List.foldl_cons,KH,←R3 hi',←Di h2,eu (i:=i) (by omega)]
     cases hb:aj.c .gtr (aj.k mZ ((aj.k gN ((aj.n .bool expl (i:Int):Bool),(aj.n (.int .i64) data (i:Int):Int))),(aj.n (.int .i64) data (i:Int):Int))) 0
     ·exact(ah rfl).2 (hm _)
     ·exact(ai rfl).2 (af.2 ⟨rfl,hm _⟩)
    ·refine(ah (by rw[ko,aO];simpa using h2)).2 ?_
     rw[eu (i:=i) (by omega)]
     have:=hm b
     rw[sC (.inl (by omega))] at this ⊢
     exact this
   ·refine(ah (by rw[FJ];simpa using h3)).2 ?_
    rw[eu (i:=i) (by omega)]
    have:=hm b
    rw[sC (.inr (.inl (by omega)))] at this ⊢
    exact this
theorem acT{n s g w d de:Int}{cold:List Bool}{modes ms:List Mode}(hl:ms.length≤140737488355328)(hd:∀x∈ms,x.1.length≤140737488355328) :
  ∀(j k:Nat) (b:Int),ms.length-k=j→k≤ms.length→aA (Bt aj) (.more (.c0 ⟨b,ms,(ms.length:Int),(k:Int),n,s,g,w,d,de,cold,modes⟩)) ((ms.drop k).foldl (rB n.toNat) b):=by
 intro j
 induction j with
 | zero=>
   intro k b hj hk
   have:k=ms.length:=by omega
   subst this
   rw[al,Bt]
   refine(ah (by rw[aO];simp)).2 ?_
   rw[List.drop_length]
   exact .ret _
 | succ j ih=>
   intro k b hj hk
   have hk':k<ms.length:=by omega
   rw[al,Bt]
   refine(ai (by rw[aO];simp;omega)).2 (af.2 ⟨bT hk',?_⟩)
   rw[show(aj.n aX ms (k:Int):Mode)=ms[k] from getD_in hk' _,List.drop_eq_getElem_cons hk',List.foldl_cons]
   exact acg (F:=fun b=>(ms.drop (k+1)).foldl (rB n.toNat) b) (hd _ (List.getElem_mem hk')) (eu (by omega)) (fun b=>ih (k+1) b (by omega) (by omega)) ms[k].1.length 0 b rfl (by omega)
theorem max2{n s g w d de:Int}{cold:List Bool}{modes:List Mode}(h:Ty.has bd (n,s,g,w,d,de,cold,modes)):aA (Bt aj) (Zh aj n s g w d de cold modes) (iM (n,s,g,w,d,de,cold,modes)):=
 af.2 ⟨rfl,af.2 ⟨rfl,acT (lQ h).2.2.1 (fun x hx=>((lQ h).2.2.2 x hx).1) modes.length 0 _ rfl (by omega)⟩⟩
def OF:ak→Int:=iM
def YG:aD:=⟨[bd], [yI],(@tt ak),OF⟩
theorem Yi:Sd 199 YG:=aL au cK true 27 [⟨199,3, [[1,3,12,13,14]]⟩,⟨199,6, [[1,3,5,12,13,14,19,20,21]]⟩] [] (fun A (mNodes,mSlot,mGap,mWindow,mDrift,mDelay,mCold,mModes)=>Zh A mNodes mSlot mGap mWindow mDrift mDelay mCold mModes) Bt PH (fc Tryz.func199 fz) (sc ab5 (sc ZS (sc OJ sz))) (fun A y=>match y with |.c0 p=>⟨31,by kernel_rfl,by kernel_rfl⟩|.c1 p b0 b6=>⟨69,by kernel_rfl,by kernel_rfl⟩) fun(mNodes,mSlot,mGap,mWindow,mDrift,mDelay,mCold,mModes) hp h=>max2 h
def t159(A:bi)(mNodes:Int)(mSlot:Int)(mGap:Int)(mWindow:Int)(mDrift:Int)(mDelay:Int)(mCold:List Bool)(mModes:List Mode):LT (Int×Int×Int) Empty:=.need (A.k (@tt ak) (mNodes,mSlot,mGap,mWindow,mDrift,mDelay,mCold,mModes)) (.ret ((A.b .add .i64 (A.b .mul .i64 (A.b .mul .i64 16 mNodes) mDrift) 16),(A.b .add .i64 (A.b .add .i64 (A.b .mul .i64 2 mWindow) (A.b .mul .i64 2 mDelay)) 4),(A.b .add .i64 (A.b .mul .i64 2 mGap) (A.k OF (mNodes,mSlot,mGap,mWindow,mDrift,mDelay,mCold,mModes)))))
def ol:ak→(Int×Int×Int):=fun(mNodes,mSlot,mGap,mWindow,mDrift,mDelay,mCold,mModes)=>(t159 aj mNodes mSlot mGap mWindow mDrift mDelay mCold mModes).val (Ty.bZ [yI,yI,yI])
def Ub:aD:=⟨[bd], [yI,yI,yI],(@tt ak),ol⟩
theorem YL:Sd 144 Ub:=aM au cK true 50 [] (fun A (mNodes,mSlot,mGap,mWindow,mDrift,mDelay,mCold,mModes)=>t159 A mNodes mSlot mGap mWindow mDrift mDelay mCold mModes) (fc Tryz.func144 fz) (sc Yi sz) (fun((mNodes,mSlot,mGap,mWindow,mDrift,mDelay,mCold,mModes):ak) hp h=>by
 show(t159 aj mNodes mSlot mGap mWindow mDrift mDelay mCold mModes).pre=true
 simp[t159,LT.pre,ap,cN])
theorem ax{R Y:Type}{step:Y→LT R Y}{t e:LT R Y}{r:R}{p:Prop}[Decidable p]{b:Bool}(hb:b=decide p)(ht:p→aA step t r)(he:¬p→aA step e r):aA step (.br b t e) r:=by
 by_cases h:p
 ·exact(ai (by rw[hb];simpa using h)).2 (ht h)
 ·exact(ah (by rw[hb];simpa using h)).2 (he h)
theorem dT{R Y:Type}{step:Y→LT R Y}{t e:LT R Y}{r:R}{x a b:Int}(ht:¬(a≤x∧x≤b)→aA step t r)(he:a≤x∧x≤b→aA step e r):aA step (.br (aj.not (aj.k dS (x,a,b))) t e) r:=by
 refine ax (p:=¬(a≤x∧x≤b)) ?_ ht (fun h=>he (Decidable.not_not.1 h))
 rw[bD,ap,lU,←Bool.decide_and,←decide_not]
theorem zG{n:Int}:0≤pj n∧pj n≤2062:=by
 simp only[pj,t173,LT.val,ar,aG,Bool.cond_eq_ite,decide_eq_true_eq]
 split
 ·omega
 ·split
  ·omega
  ·rw[bw,FW,bw,fI (a:=n+1) (by omega) (by omega)]
   have:(n+1).tdiv 2=(n+1)/2:=Int.tdiv_eq_ediv_of_nonneg (by omega)
   rw[this,fI (a:=(n+1)/2) (by omega) (by omega),fI (by omega) (by omega)]
   omega
theorem KO{b:Int}{x:Int×Bool}(h:0≤b∧b≤2062):0≤xm b x∧xm b x≤2062:=by
 have:=zG (n:=mZ (gN (x.2,x.1),x.1))
 unfold xm
 cases decide (0<mZ (gN (x.2,x.1),x.1))
 ·exact h
 ·rw[Yk,Hz];split<;>omega
theorem pJ{α:Type}{f:Int→α→Int}(hf:∀b x,0≤b∧b≤2062→0≤f b x∧f b x≤2062):∀{l:List α} {b:Int},0≤b∧b≤2062→0≤l.foldl f b∧l.foldl f b≤2062
 | [],_,h=>h
 | x::l,b,h=>pJ hf (l:=l) (hf b x h)
theorem zl{m:ak}:0≤iM m∧iM m≤2062:=pJ (fun _ _ h=>pJ (fun _ _ h=>KO h) h) zG
def rS(n s g w d de mx:Int):Bool:=decide (0≤d∧d≤64∧0≤de∧de≤64∧16*n*d+16≤w∧w≤1048576∧2*w+2*de+4≤g∧g≤1048576∧2*g+mx≤s∧s≤16777216)
def dy(m:ak):Bool:=countB m&&m.2.2.2.2.2.2.2.all (kT m)&&rS m.1 m.2.1 m.2.2.1 m.2.2.2.1 m.2.2.2.2.1 m.2.2.2.2.2.1 (iM m)
def kp(m:ak):Int:=bif dy m then 0 else 70
theorem Tt{n d:Int}(h:4≤n∧n≤8)(h2:0≤d∧d≤64):aj.b .add .i64 (aj.b .mul .i64 (aj.b .mul .i64 16 n) d) 16=16*n*d+16:=by
 have h3:0≤16*n*d∧16*n*d≤8192:=by
  have:n=4∨n=5∨n=6∨n=7∨n=8:=by omega
  rcases this with rfl|rfl|rfl|rfl|rfl<;>omega
 rw[bw,js,js,fI (a:=16*n) (by omega) (by omega),fI (a:=16*n*d) (by omega) (by omega),fI (by omega) (by omega)]
theorem qH{n d:Int}(h:4≤n∧n≤8)(h2:0≤d∧d≤64):0≤16*n*d:=by
 have:n=4∨n=5∨n=6∨n=7∨n=8:=by omega
 rcases this with rfl|rfl|rfl|rfl|rfl<;>omega
theorem PO{w de:Int}(h:0≤w∧w≤1048576)(h2:0≤de∧de≤64):aj.b .add .i64 (aj.b .add .i64 (aj.b .mul .i64 2 w) (aj.b .mul .i64 2 de)) 4=2*w+2*de+4:=by
 rw[bw,bw,js,js,fI (a:=2*w) (by omega) (by omega),fI (a:=2*de) (by omega) (by omega),fI (a:=2*w+2*de) (by omega) (by omega),fI (by omega) (by omega)]
theorem N_{g mx:Int}(h:0≤g∧g≤1048576)(h2:0≤mx∧mx≤2062):aj.b .add .i64 (aj.b .mul .i64 2 g) mx=2*g+mx:=by
 rw[bw,js,fI (a:=2*g) (by omega) (by omega),fI (by omega) (by omega)]
theorem K1{n s g w d de:Int}{cold:List Bool}{modes:List Mode}:ol (n,s,g,w,d,de,cold,modes)=(aj.b .add .i64 (aj.b .mul .i64 (aj.b .mul .i64 16 n) d) 16,aj.b .add .i64 (aj.b .add .i64 (aj.b .mul .i64 2 w) (aj.b .mul .i64 2 de)) 4,aj.b .add .i64 (aj.b .mul .i64 2 g) (iM (n,s,g,w,d,de,cold,modes))):=rfl
open Go.Ev.Pl
structure Qy where
 (a0:List Mode) (a1 a3 a4 a5 a6 a7 a8:Int) (a9:List Bool) (bH:List Mode)
inductive Mx where
 | c0 (p:Qy) (a2:Int)
noncomputable def RZ:Mx→gB
 | .c0 p a2=>⟨[⟨198,19,(en [(0,.sl aX p.a0),(1,.fn 141 [] [.ptr 0 0]),(7,vi p.a1),(8,vi a2)]),[.inLoop (cw Tryz.f198 [1,0,1,0,0]),.inBlock 0,.code (cw Tryz.f198 [1,1])],[],none⟩,⟨140,9,.leaf,[.ops (ow Tryz.f140 [1,0]) ((ow Tryz.f140 [1,0]).toList.drop 2),.code .ret],[],none⟩,⟨62,65,(en [(1,.ptr 0 0)]),[.ops (ow Tryz.f62 [1,0,0,0,0,0,0,0,0,1,0,0]) ((ow Tryz.f62 [1,0,0,0,0,0,0,0,0,1,0,0]).toList.drop 3),.code (cw Tryz.f62 [1,0,0,0,0,0,0,0,0,1,0,1]),.code (cw Tryz.f62 [1,0,0,0,0,0,0,0,0,1,1]),.code (.exit 0),.inBlock 1,.inBlock 2,.inBlock 3,.inBlock 4,.code (cw Tryz.f62 [1,0,0,1]),.inBlock 0,.code (cw Tryz.f62 [1,1])],[],none⟩],[.flat false [vi p.a3,vi p.a4,vi p.a5,vi p.a6,vi p.a7,vi p.a8,.sl .bool p.a9,.sl aX p.bH],.dead]⟩
def t124(A:bi)(mNodes:Int)(mSlot:Int)(mGap:Int)(mWindow:Int)(mDrift:Int)(mDelay:Int)(mCold:List Bool)(mModes:List Mode):LT Int Mx:=.need (A.k (@tt ak) (mNodes,mSlot,mGap,mWindow,mDrift,mDelay,mCold,mModes)) (.br (A.not (A.k Jq (mNodes,mSlot,mGap,mWindow,mDrift,mDelay,mCold,mModes))) (.ret 70) (.more (.c0 ⟨mModes,(A.l mModes),mNodes,mSlot,mGap,mWindow,mDrift,mDelay,mCold,mModes⟩ 0)))
def Gw(A:bi):Mx→LT Int Mx
 | .c0 p a2=>.br (A.c .lss a2 p.a1) (.need (A.and (A.c .leq 0 a2) (A.c .lss a2 (A.l p.a0))) (.need (A.k Ew ((p.a3,p.a4,p.a5,p.a6,p.a7,p.a8,p.a9,p.bH),(A.n aX p.a0 a2:Mode))) (.br (A.not (A.k Fo ((p.a3,p.a4,p.a5,p.a6,p.a7,p.a8,p.a9,p.bH),(A.n aX p.a0 a2:Mode)))) (.br (A.c .geq a2 0) (.ret 70) (.need (A.k (@tt (Int×Int×Int)) (p.a7,0,64)) (.br (A.not (A.k dS (p.a7,0,64))) (.ret 70) (.need (A.k (@tt (Int×Int×Int)) (p.a8,0,64)) (.br (A.not (A.k dS (p.a8,0,64))) (.ret 70) (.need (A.k (@tt (Int×Int×Int)) (p.a6,0,1048576)) (.br (A.not (A.k dS (p.a6,0,1048576))) (.ret 70) (.need (A.k (@tt (Int×Int×Int)) (p.a5,0,1048576)) (.br (A.not (A.k dS (p.a5,0,1048576))) (.ret 70) (.need (A.k (@tt (Int×Int×Int)) (p.a4,0,16777216)) (.br (A.not (A.k dS (p.a4,0,16777216))) (.ret 70) (.need (A.k (@tt ak) (p.a3,p.a4,p.a5,p.a6,p.a7,p.a8,p.a9,p.bH)) (.br (A.c .lss p.a6 (A.k ol (p.a3,p.a4,p.a5,p.a6,p.a7,p.a8,p.a9,p.bH)).1) (.ret 70) (.br (A.c .lss p.a5 (A.k ol (p.a3,p.a4,p.a5,p.a6,p.a7,p.a8,p.a9,p.bH)).2.1) (.ret 70) (.br (A.c .lss p.a4 (A.k ol (p.a3,p.a4,p.a5,p.a6,p.a7,p.a8,p.a9,p.bH)).2.2) (.ret 70) (.ret 0)))))))))))))))) (.more (.c0 p (A.b .add .i64 a2 1)))))) (.need (A.k (@tt (Int×Int×Int)) (p.a7,0,64)) (.br (A.not (A.k dS (p.a7,0,64))) (.ret 70) (.need (A.k (@tt (Int×Int×Int)) (p.a8,0,64)) (.br (A.not (A.k dS (p.a8,0,64))) (.ret 70) (.need (A.k (@tt (Int×Int×Int)) (p.a6,0,1048576)) (.br (A.not (A.k dS (p.a6,0,1048576))) (.ret 70) (.need (A.k (@tt (Int×Int×Int)) (p.a5,0,1048576)) (.br (A.not (A.k dS (p.a5,0,1048576))) (.ret 70) (.need (A.k (@tt (Int×Int×Int)) (p.a4,0,16777216)) (.br (A.not (A.k dS (p.a4,0,16777216))) (.ret 70) (.need (A.k (@tt ak) (p.a3,p.a4,p.a5,p.a6,p.a7,p.a8,p.a9,p.bH)) (.br (A.c .lss p.a6 (A.k ol (p.a3,p.a4,p.a5,p.a6,p.a7,p.a8,p.a9,p.bH)).1) (.ret 70) (.br (A.c .lss p.a5 (A.k ol (p.a3,p.a4,p.a5,p.a6,p.a7,p.a8,p.a9,p.bH)).2.1) (.ret 70) (.br (A.c .lss p.a4 (A.k ol (p.a3,p.a4,p.a5,p.a6,p.a7,p.a8,p.a9,p.bH)).2.2) (.ret 70) (.ret 0)))))))))))))))
theorem Ml{n s g w d de:Int}{cold:List Bool}{modes:List Mode}{R:Int}(hn:4≤n∧n≤8)(hR:R=bif rS n s g w d de (iM (n,s,g,w,d,de,cold,modes)) then 0 else 70) :
  aA (Gw aj) (.need (aj.k (@tt (Int×Int×Int)) (d,0,64)) (.br (aj.not (aj.k dS (d,0,64))) (.ret 70) (.need (aj.k (@tt (Int×Int×Int)) (de,0,64)) (.br (aj.not (aj.k dS (de,0,64))) (.ret 70) (.need (aj.k (@tt (Int×Int×Int)) (w,0,1048576)) (.br (aj.not (aj.k dS (w,0,1048576))) (.ret 70) (.need (aj.k (@tt (Int×Int×Int)) (g,0,1048576)) (.br (aj.not (aj.k dS (g,0,1048576))) (.ret 70) (.need (aj.k (@tt (Int×Int×Int)) (s,0,16777216)) (.br (aj.not (aj.k dS (s,0,16777216))) (.ret 70) (.need (aj.k (@tt ak) (n,s,g,w,d,de,cold,modes)) (.br (aj.c .lss w (aj.k ol (n,s,g,w,d,de,cold,modes)).1) (.ret 70) (.br (aj.c .lss g (aj.k ol (n,s,g,w,d,de,cold,modes)).2.1) (.ret 70) (.br (aj.c .lss s (aj.k ol (n,s,g,w,d,de,cold,modes)).2.2) (.ret 70) (.ret 0))))))))))))))) R:=by
 have hm:=zl (m:=(n,s,g,w,d,de,cold,modes))
 have no:∀{p:Prop} [Decidable p],¬p→decide p=false:=fun h=>by simpa using h
 rw[hR]
 refine af.2 ⟨rfl,dT (fun h=>ay ?_ (.ret _)) fun h1=>af.2 ⟨rfl,dT (fun h=>ay ?_ (.ret _)) fun h2=>af.2 ⟨rfl,dT (fun h=>ay ?_ (.ret _)) fun h3=>af.2 ⟨rfl,dT (fun h=>ay ?_ (.ret _)) fun h4=>af.2 ⟨rfl,dT (fun h=>ay ?_ (.ret _)) fun h5=>af.2 ⟨rfl,?_⟩⟩⟩⟩⟩⟩
 ·rw[rS,no (by omega)];rfl
 ·rw[rS,no (by omega)];rfl
 ·have:=fun h=>qH (n:=n) (d:=d) hn h
  rw[rS,no (by omega)];rfl
 ·have:=fun h=>qH (n:=n) (d:=d) hn h
  rw[rS,no (by omega)];rfl
 ·have:=fun h=>qH (n:=n) (d:=d) hn h
  rw[rS,no (by omega)];rfl
 ·have:=qH (n:=n) (d:=d) hn h1
  rw[ap,K1,Tt hn h1,PO h3 h2,N_ h4 hm]
  refine ax (p:=w<16*n*d+16) rfl (fun h=>ay ?_ (.ret _)) fun h6=>ax (p:=g<2*w+2*de+4) rfl (fun h=>ay ?_ (.ret _)) fun h7=>ax (p:=s<2*g+iM (n,s,g,w,d,de,cold,modes)) rfl (fun h=>ay ?_ (.ret _)) fun h8=>ay ?_ (.ret _)
  ·rw[rS,no (by omega)];rfl
  ·rw[rS,no (by omega)];rfl
  ·rw[rS,no (by omega)];rfl
  ·rw[rS,decide_eq_true (by omega)];rfl
theorem Ql{n s g w d de:Int}{cold:List Bool}{modes:List Mode}(hl:modes.length≤140737488355328)(hc:(cold.length:Int)=n)(hn:4≤n∧n≤8):∀(j i:Nat),modes.length-i=j→i≤modes.length→
  aA (Gw aj) (.more (.c0 ⟨modes,(modes.length:Int),n,s,g,w,d,de,cold,modes⟩ (i:Int))) (bif (modes.drop i).all (kT (n,s,g,w,d,de,cold,modes))&&rS n s g w d de (iM (n,s,g,w,d,de,cold,modes)) then 0 else 70):=by
 intro j
 induction j with
 | zero=>
   intro i hj hi
   have:i=modes.length:=by omega
   subst this
   rw[al,Gw]
   refine(ah (by rw[aO];simp)).2 (Ml hn ?_)
   rw[List.drop_length];rfl
 | succ j ih=>
   intro i hj hi
   have hi':i<modes.length:=by omega
   rw[al,Gw]
   refine(ai (by rw[aO];simp;omega)).2 (af.2 ⟨bT hi',?_⟩)
   have e:(aj.n aX modes (i:Int):Mode)=modes[i]:=getD_in hi' _
   rw[e,List.drop_eq_getElem_cons hi',List.all_cons]
   refine af.2 ⟨by show((cold.length:Int)==n)=true;simpa using hc,?_⟩
   have hf:aj.k Fo ((n,s,g,w,d,de,cold,modes),modes[i])=kT (n,s,g,w,d,de,cold,modes) modes[i]:=rfl
   rw[hf]
   cases kT (n,s,g,w,d,de,cold,modes) modes[i]
   ·refine(ai rfl).2 ((ai (by rw[aN];simp)).2 (.ret _))
   ·refine(ah rfl).2 ?_
    rw[eu (i:=i) (by omega),Bool.true_and]
    exact ih (i+1) (by omega) (by omega)
theorem Ta{n s g w d de:Int}{cold:List Bool}{modes:List Mode}(h:Ty.has bd (n,s,g,w,d,de,cold,modes)):aA (Gw aj) (t124 aj n s g w d de cold modes) (kp (n,s,g,w,d,de,cold,modes)):=by
 unfold t124 kp dy
 refine af.2 ⟨rfl,?_⟩
 rw[show aj.k Jq (n,s,g,w,d,de,cold,modes)=countB (n,s,g,w,d,de,cold,modes) from rfl]
 cases hc:countB (n,s,g,w,d,de,cold,modes)
 ·exact(ai rfl).2 (.ret _)
 ·refine(ah rfl).2 ?_
  simp only[countB,lU,Bool.and_eq_true,decide_eq_true_eq,beq_iff_eq] at hc
  exact Ql (lQ h).2.2.1 hc.1.2 hc.1.1.1 modes.length 0 rfl (by omega)
def iQ:ak→Int:=kp
def Zt:aD:=⟨[bd], [yI],(@tt ak),iQ⟩
theorem y2:Sd 62 Zt:=aL au cK true 58 [⟨198,2, [[0,1,7,8], [], [1]]⟩] [] (fun A (mNodes,mSlot,mGap,mWindow,mDrift,mDelay,mCold,mModes)=>t124 A mNodes mSlot mGap mWindow mDrift mDelay mCold mModes) Gw RZ (fc Tryz.func62 (fc Tryz.func140 (fc Tryz.func141 (fc Tryz.func198 fz)))) (sc X8 (sc TX (sc C4 (sc YL sz)))) (fun A y=>match y with |.c0 p a2=>⟨136,by kernel_rfl,by kernel_rfl⟩) fun(mNodes,mSlot,mGap,mWindow,mDrift,mDelay,mCold,mModes) hp h=>Ta h
open Go.Ev.Pl
def M8(A:bi)(explicit:Bool)(data:Int):LT Int Empty:=.br (A.not explicit) (.ret 2) (.br (A.c .gtr data 0) (.ret 4) (.ret 3))
def zn:(Bool×Int)→Int:=fun(explicit,data)=>(M8 aj explicit data).val (Ty.bZ [yI])
def Vp:aD:=⟨[.bool,yI], [yI],(@tt (Bool×Int)),zn⟩
theorem Xk:Sd 197 Vp:=aM au cK true 30 [] (fun A (explicit,data)=>M8 A explicit data) (fc Tryz.func197 fz) sz (fun((explicit,data):Bool×Int) hp h=>by
 show(M8 aj explicit data).pre=true
 simp[M8,LT.pre,ap,cN])
def Mj(A:bi)(n:Int):LT Int Empty:=.br (A.c .lss n 0) (.ret 0) (.br (A.c .gtr n 4095) (.ret 0) (.ret (A.b .add .i64 14 (A.b .quo .i64 (A.b .add .i64 n 1) 2))))
def F3:Int→Int:=fun n=>(Mj aj n).val (Ty.bZ [yI])
def V9:aD:=⟨[yI], [yI],(@tt Int),F3⟩
theorem YA:Sd 195 V9:=aM au cK true 30 [] (fun A n=>Mj A n) (fc Tryz.func195 fz) sz (fun(n:Int) hp h=>by
 show(Mj aj n).pre=true
 simp[Mj,LT.pre,ap,cN])
def Qt:List Bool→List Bool→Bool
 | c::cs,e::es=>(!c||e)&&Qt cs es
 | _,_=>true
theorem wT:∀{ds:List Int} {cs es:List Bool},cs.length=ds.length→es.length=ds.length→oL ds cs es=(ds.all (fun d=>decide (0≤d)&&decide (d≤8))&&Qt cs es)
 | [], [], [],_,_=>rfl
 | d::ds,c::cs,e::es,h1,h2=>by
   rw[oL,wT (ds:=ds) (by simpa using h1) (by simpa using h2),List.all_cons,Qt]
   cases (decide (0≤d)&&decide (d≤8))<;>cases (!c||e)<;>simp
 | [],_::_,_,h,_=>by cases h
 | [], [],_::_,_,h=>by cases h
 | _::_, [],_,h,_=>by cases h
 | _::_,_::_, [],_,h=>by cases h
structure RU where
 (a0 a1 a2 a3 a4 a5 a6 a7:Int) (a8:List Bool) (a9:List Mode)
structure QX where
 (b1 b3 b4 b5 b6 b7 b8:Int) (b9:List Bool) (b10:List Mode) (b11:List Int) (b12 b13:List Bool)
inductive Nb where
 | c0 (p:RU)
 | c1 (p:QX) (b0:Int) (b2:Int)
noncomputable def R2:Nb→gB
 | .c0 p=>⟨[⟨138,66,(en [(1,.ptr 0 0),(3,vi p.a0),(4,vi p.a1)]),[.inLoop (cw Tryz.f138 [1,1,0,1,0,0]),.inBlock 0,.code (cw Tryz.f138 [1,1,1])],[],none⟩],[.flat false [vi p.a2,vi p.a3,vi p.a4,vi p.a5,vi p.a6,vi p.a7,.sl .bool p.a8,.sl aX p.a9],.dead]⟩
 | .c1 p b0 b2=>⟨[⟨138,66,(en [(1,.ptr 0 0),(3,vi b0),(4,vi p.b1),(5,.ptr 1 0),(6,vi b2)]),[.inLoop (cw Tryz.f138 [1,1,0,1,0,0,1,0,0,1,1,0,0]),.inBlock 2,.inBlock 1,.code (cw Tryz.f138 [1,1,0,1,0,0,1,1]),.inLoop (cw Tryz.f138 [1,1,0,1,0,0]),.inBlock 0,.code (cw Tryz.f138 [1,1,1])],[],none⟩],[.flat false [vi p.b3,vi p.b4,vi p.b5,vi p.b6,vi p.b7,vi p.b8,.sl .bool p.b9,.sl aX p.b10],.flat false [.sl yI p.b11,.sl .bool p.b12,.sl .bool p.b13],.dead]⟩
def PQ(A:bi)(mNodes:Int)(mSlot:Int)(mGap:Int)(mWindow:Int)(mDrift:Int)(mDelay:Int)(mCold:List Bool)(mModes:List Mode):LT Int Nb:=.need (A.k (@tt (Int×Int)) (1,0)) (.need (A.k (@tt Int) (A.k Bz (1,0))) (.more (.c0 ⟨(A.k F3 (A.k Bz (1,0))),0,mNodes,mSlot,mGap,mWindow,mDrift,mDelay,mCold,mModes⟩)))
def AA(A:bi):Nb→LT Int Nb
 | .c0 p=>.br (A.c .lss p.a1 (A.l p.a9)) (.need (A.and (A.c .leq 0 p.a1) (A.c .lss p.a1 (A.l p.a9))) (.more (.c1 ⟨p.a1,p.a2,p.a3,p.a4,p.a5,p.a6,p.a7,p.a8,p.a9,(A.n aX p.a9 p.a1:Mode).1,(A.n aX p.a9 p.a1:Mode).2.1,(A.n aX p.a9 p.a1:Mode).2.2⟩ p.a0 0))) (.ret p.a0)
 | .c1 p b0 b2=>.br (A.c .lss b2 (A.l p.b11)) (.br (A.c .lss b2 (A.l p.b12)) (.br (A.c .lss b2 p.b3) (.need (A.and (A.c .leq 0 b2) (A.c .lss b2 (A.l p.b12))) (.need (A.and (A.c .leq 0 b2) (A.c .lss b2 (A.l p.b11))) (.need (A.k (@tt (Bool×Int)) ((A.n .bool p.b12 b2:Bool),(A.n yI p.b11 b2:Int))) (.need (A.and (A.c .leq 0 b2) (A.c .lss b2 (A.l p.b11))) (.need (A.k (@tt (Int×Int)) ((A.k zn ((A.n .bool p.b12 b2:Bool),(A.n yI p.b11 b2:Int))),(A.n yI p.b11 b2:Int))) (.br (A.c .gtr (A.k Bz ((A.k zn ((A.n .bool p.b12 b2:Bool),(A.n yI p.b11 b2:Int))),(A.n yI p.b11 b2:Int))) 0) (.need (A.k (@tt Int) (A.k Bz ((A.k zn ((A.n .bool p.b12 b2:Bool),(A.n yI p.b11 b2:Int))),(A.n yI p.b11 b2:Int)))) (.more (.c1 p (A.mx b0 (A.k F3 (A.k Bz ((A.k zn ((A.n .bool p.b12 b2:Bool),(A.n yI p.b11 b2:Int))),(A.n yI p.b11 b2:Int))))) (A.b .add .i64 b2 1)))) (.more (.c1 p b0 (A.b .add .i64 b2 1))))))))) (.more (.c0 ⟨b0,(A.b .add .i64 p.b1 1),p.b3,p.b4,p.b5,p.b6,p.b7,p.b8,p.b9,p.b10⟩))) (.more (.c0 ⟨b0,(A.b .add .i64 p.b1 1),p.b3,p.b4,p.b5,p.b6,p.b7,p.b8,p.b9,p.b10⟩))) (.more (.c0 ⟨b0,(A.b .add .i64 p.b1 1),p.b3,p.b4,p.b5,p.b6,p.b7,p.b8,p.b9,p.b10⟩))
theorem JR:zn=gN:=rfl
theorem Dk:F3=pj:=rfl
theorem F6:Bz=mZ:=funext fun⟨k,d⟩=>by rw[Dx.1,Dx.2]
theorem WJ{n s g w d de:Int}{cold expl next:List Bool}{modes:List Mode}{data:List Int}{k k1:Int}{F:Int→Int}(hl:data.length≤140737488355328)(hk:aj.b .add .i64 k 1=k1)(hnext:∀b,aA (AA aj) (.more (.c0 ⟨b,k1,n,s,g,w,d,de,cold,modes⟩)) (F b)) :
  ∀(j i:Nat) (b:Int),data.length-i=j→i≤data.length→aA (AA aj) (.more (.c1 ⟨k,n,s,g,w,d,de,cold,modes,data,expl,next⟩ b (i:Int))) (F ((((data.zip expl).take n.toNat).drop i).foldl xm b)):=by
 intro j
 induction j with
 | zero=>
   intro i b hj hi
   have:i=data.length:=by omega
   subst this
   rw[al,AA]
   refine(ah (by rw[ko,aO];simp)).2 ?_
   rw[sC (.inr (.inr (Nat.le_refl _))),hk]
   exact hnext b
 | succ j ih=>
   intro i b hj hi
   have hi':i<data.length:=by omega
   rw[al,AA]
   refine(ai (by rw[ko,aO];simp;omega)).2 ?_
   have hm:=fun b=>ih (i+1) b (by omega) (by omega)
   by_cases h2:i<expl.length
   ·refine(ai (by rw[ko,aO];simpa using h2)).2 ?_
    by_cases h3:(i:Int)<n
    ·refine(ai (by rw[FJ];simpa using h3)).2 (af.2 ⟨bT (show i<expl.length from h2),af.2 ⟨bT hi',af.2 ⟨rfl,af.2 ⟨bT hi',af.2 ⟨rfl,?_⟩⟩⟩⟩⟩)
     rw[LJ hi' h2 h3,List.foldl_cons,KH,←R3 hi',←Di h2,eu (i:=i) (by omega),JR,F6,Dk]
     cases hb:aj.c .gtr (aj.k mZ ((aj.k gN ((aj.n .bool expl (i:Int):Bool),(aj.n (.int .i64) data (i:Int):Int))),(aj.n (.int .i64) data (i:Int):Int))) 0
     ·exact(ah rfl).2 (hm _)
     ·exact(ai rfl).2 (af.2 ⟨rfl,hm _⟩)
    ·refine(ah (by rw[FJ];simpa using h3)).2 ?_
     rw[sC (.inr (.inl (by omega))),hk];exact hnext b
   ·refine(ah (by rw[ko,aO];simpa using h2)).2 ?_
    rw[sC (.inl (by omega)),hk];exact hnext b
theorem Uq{n s g w d de:Int}{cold:List Bool}{modes:List Mode}(hl:modes.length≤140737488355328)(hd:∀x∈modes,x.1.length≤140737488355328) :
  ∀(j k:Nat) (b:Int),modes.length-k=j→k≤modes.length→aA (AA aj) (.more (.c0 ⟨b,(k:Int),n,s,g,w,d,de,cold,modes⟩)) ((modes.drop k).foldl (rB n.toNat) b):=by
 intro j
 induction j with
 | zero=>
   intro k b hj hk
   have:k=modes.length:=by omega
   subst this
   rw[al,AA]
   refine(ah (by rw[ko,aO];simp)).2 ?_
   rw[List.drop_length]
   exact .ret _
 | succ j ih=>
   intro k b hj hk
   have hk':k<modes.length:=by omega
   rw[al,AA]
   refine(ai (by rw[ko,aO];simp;omega)).2 (af.2 ⟨bT hk',?_⟩)
   rw[show(aj.n aX modes (k:Int):Mode)=modes[k] from getD_in hk' _,List.drop_eq_getElem_cons hk',List.foldl_cons]
   exact WJ (F:=fun b=>(modes.drop (k+1)).foldl (rB n.toNat) b) (hd _ (List.getElem_mem hk')) (eu (by omega)) (fun b=>ih (k+1) b (by omega) (by omega)) modes[k].1.length 0 b rfl (by omega)
theorem UB{n s g w d de:Int}{cold:List Bool}{modes:List Mode}(h:Ty.has bd (n,s,g,w,d,de,cold,modes)):aA (AA aj) (PQ aj n s g w d de cold modes) (iM (n,s,g,w,d,de,cold,modes)):=by
 unfold PQ
 rw[F6,Dk]
 exact af.2 ⟨rfl,af.2 ⟨rfl,Uq (lQ h).2.2.1 (fun x hx=>((lQ h).2.2.2 x hx).1) modes.length 0 _ rfl (by omega)⟩⟩
def rv:ak→Int:=iM
def UO:aD:=⟨[bd], [yI],(@tt ak),rv⟩
theorem Pm:Sd 138 UO:=aL au cK true 24 [⟨138,3, [[1,3,4]]⟩,⟨138,7, [[1,3,4,5,6]]⟩] [] (fun A (mNodes,mSlot,mGap,mWindow,mDrift,mDelay,mCold,mModes)=>PQ A mNodes mSlot mGap mWindow mDrift mDelay mCold mModes) AA R2 (fc Tryz.func138 fz) (sc acH (sc YA (sc Xk sz))) (fun A y=>match y with |.c0 p=>⟨35,by kernel_rfl,by kernel_rfl⟩|.c1 p b0 b2=>⟨72,by kernel_rfl,by kernel_rfl⟩) fun(mNodes,mSlot,mGap,mWindow,mDrift,mDelay,mCold,mModes) hp h=>UB h
end Go.Ev.M
