/-
  PROVED: what medl.Check and metronomeref07.Check compute. Conditions: none.
-/
import Derived.Test.YteldjjjcdpnnbaaGreatFc
namespace Go.Ev.M
open Go.Proofs
set_option maxRecDepth 100000
set_option linter.unusedVariables false
set_option linter.unusedSimpArgs false
open Go.Ev.Pl
abbrev l5:Ty:=(.struct [yI,yI,yI,yI,yI])
abbrev dD:Type:=Int×Int×Int×Int×Int
abbrev P4:Ty:=(.struct [yI,yI,yI,yI,yI,yI,yI])
abbrev tA:Type:=Int×Int×Int×Int×Int×Int×Int
abbrev Ug:Ty:=(.struct [yI,yB])
abbrev Bits:Type:=Int×List Int
abbrev Di:Ty:=(.struct [yI,yI,l5,yI,yB])
abbrev kU:Type:=Int×Int×dD×Int×List Int
abbrev gh:Ty:=(.struct [yI,yI,Ug])
abbrev Seen:Type:=Int×Int×Bits
abbrev rO:Ty:=(.struct [yI,yI,yI,Di,yI])
abbrev ia:Type:=Int×Int×Int×kU×Int
abbrev bg:Ty:=(.struct [O5,(.slice .bool),(.slice .bool)])
abbrev Mode:Type:=List Int×List Bool×List Bool
abbrev bM:Ty:=(.struct [yI,yI,yI,yI,yI,yI,(.slice .bool),(.slice bg)])
abbrev au:Type:=Int×Int×Int×Int×Int×Int×List Bool×List Mode
abbrev aS:Ty:=(.struct [yB,yI])
abbrev bG:Type:=List Int×Int
abbrev lw:Ty:=(.struct [yI,yB,(.slice aS),yI,yI])
abbrev dw:Type:=Int×List Int×List bG×Int×Int
abbrev dC:Ty:=(.struct [yI,yI,l5,P4,yI,.bool,yI,lw])
abbrev Node:Type:=Int×Int×dD×tA×Int×Bool×Int×dw
def Gq(A:a_)(n:Int)(least:Int)(most:Int):LT Bool Empty:=.br (A.c .geq n least) (.ret (A.c .leq n most)) (.ret false)
def dN:(Int×Int×Int)→Bool:=fun(n,least,most)=>(Gq aj n least most).val (Ty.bF [.bool])
def Uy:aC:=⟨[yI,yI,yI], [.bool],(@tt (Int×Int×Int)),dN⟩
theorem yV:Sd 143 Uy:=aH ap cm true 22 [] (fun A (n,least,most)=>Gq A n least most) (fc Tryz.func143 fz) sz (fun((n,least,most):Int×Int×Int) hp h=>by
 show(Gq aj n least most).pre=true
 simp[Gq,LT.pre,ak,bK])
theorem js{x a b:Int}:dN (x,a,b)=(decide (a≤x)&&decide (x≤b)):=by
 simp only[dN,Gq,LT.val,aJ,ar]
 cases decide (a≤x)<;>rfl
theorem VA{α:Type}{x y:α}:(bif true then x else y)=x:=rfl
theorem p9{l:List Bool}{i:Nat}(h:i<l.length):(aj.n .bool l (i:Int):Bool)=l[i]:=getD_in h _
theorem KO{l:List Int}{i:Nat}(h:i<l.length):(aj.n (.int .i64) l (i:Int):Int)=l[i]:=getD_in h _
theorem fL{α:Type}{l:List α}:aj.l l=(l.length:Int):=rfl
theorem jI{n s g w d de:Int}{cold:List Bool}{modes:List Mode}(h:Ty.has bM (n,s,g,w,d,de,cold,modes)):(-9223372036854775808≤n∧n≤9223372036854775807)∧cold.length≤140737488355328∧modes.length≤140737488355328∧∀x∈modes,x.1.length≤140737488355328∧x.2.1.length≤140737488355328∧∀d∈x.1,IntKind.i64.has d:=by
 obtain⟨h1,_,_,_,_,_,h2,h3⟩:=h
 exact⟨h1,h2.1,h3.1,fun x hx=>⟨(h3.2 x hx).1.1,(h3.2 x hx).2.1.1,(h3.2 x hx).1.2⟩⟩
structure MF where
 (a1:List Bool) (a2 a4 a5 a6 a7 a8 a9:Int) (cd:List Bool) (dS:List Mode)
inductive Es where
 | c0 (p:MF) (a0:Int) (a3:Int)
noncomputable def Na:Es→fJ
 | .c0 p a0 a3=>⟨[⟨139,38,(en [(1,.ptr 0 0),(3,vi a0),(7,.sl .bool p.a1),(8,vi p.a2),(9,vi a3)]),[.inLoop (cw Tryz.f139 [1,1,0,1,0,0]),.inBlock 0,.code (cw Tryz.f139 [1,1,1])],[],none⟩],[.flat false [vi p.a4,vi p.a5,vi p.a6,vi p.a7,vi p.a8,vi p.a9,.sl .bool p.cd,.sl bg p.dS],.dead]⟩
def t154(A:a_)(mNodes:Int)(mSlot:Int)(mGap:Int)(mWindow:Int)(mDrift:Int)(mDelay:Int)(mCold:List Bool)(mModes:List Mode):LT Bool Es:=.more (.c0 ⟨mCold,(A.l mCold),mNodes,mSlot,mGap,mWindow,mDrift,mDelay,mCold,mModes⟩ 0 0)
def EQ(A:a_):Es→LT Bool Es
 | .c0 p a0 a3=>.br (A.c .lss a3 p.a2) (.need (A.and (A.c .leq 0 a3) (A.c .lss a3 (A.l p.a1))) (.br (A.n .bool p.a1 a3:Bool) (.more (.c0 p (A.b .add .i64 a0 1) (A.b .add .i64 a3 1))) (.more (.c0 p a0 (A.b .add .i64 a3 1))))) (.need (A.k (@tt (Int×Int×Int)) (p.a4,4,8)) (.br (A.k dN (p.a4,4,8)) (.need (A.k (@tt (Int×Int×Int)) ((A.l p.dS),1,4)) (.br (A.k dN ((A.l p.dS),1,4)) (.br (A.c .eql (A.l p.cd) p.a4) (.ret (A.c .geq a0 2)) (.ret false)) (.ret false))) (.ret false)))
def countB(m:au):Bool:=dN (m.1,4,8)&&dN ((m.2.2.2.2.2.2.2.length:Int),1,4)&&((m.2.2.2.2.2.2.1.length:Int)==m.1)&&decide (2≤(m.2.2.2.2.2.2.1.count true:Int))
theorem Oe{n s g w d de:Int}{cold:List Bool}{modes:List Mode}(hl:cold.length≤140737488355328):∀(j i c:Nat),cold.length-i=j→i≤cold.length→c≤i→
  aF (EQ aj) (.more (.c0 ⟨cold,(cold.length:Int),n,s,g,w,d,de,cold,modes⟩ (c:Int) (i:Int))) (dN (n,4,8)&&dN ((modes.length:Int),1,4)&&((cold.length:Int)==n)&&decide (2≤((c+(cold.drop i).count true:Nat):Int))):=by
 intro j
 induction j with
 | zero=>
   intro i c hj hi hc
   have:i=cold.length:=by omega
   subst this
   rw[al,EQ]
   refine(ah (by rw[aL];simp)).2 ?_
   rw[List.drop_length]
   simp only[af,ak,bK,true_and]
   cases dN (n,4,8)
   ·exact(ah rfl).2 (.ret _)
   refine(ai rfl).2 ?_
   simp only[af,ak,bK,true_and,fL]
   cases dN ((modes.length:Int),1,4)
   ·exact(ah rfl).2 (.ret _)
   refine(ai rfl).2 ?_
   rw[aA]
   cases ((cold.length:Int)==n)
   ·exact(ah rfl).2 (.ret _)
   refine(ai rfl).2 ?_
   rw[aJ]
   exact .ret _
 | succ j ih=>
   intro i c hj hi hc
   have hi':i<cold.length:=by omega
   rw[al,EQ]
   refine(ai (by rw[aL];simp;omega)).2 (af.2 ⟨aO hi',?_⟩)
   rw[List.drop_eq_getElem_cons hi',List.count_cons]
   cases hb:cold[i]
   ·refine(ah ((p9 hi').trans hb)).2 ?_
    refine aX (congrArg (fun z=>LT.more (Es.c0 _ _ z)) (cn (by omega))) (ax ?_ (ih (i+1) c (by omega) (by omega) (by omega)))
    simp
   ·refine(ai ((p9 hi').trans hb)).2 ?_
    rw[cn (i:=c) (by omega),cn (i:=i) (by omega)]
    refine ax ?_ (ih (i+1) (c+1) (by omega) (by omega) (by omega))
    simp[Nat.add_assoc,Nat.add_comm 1]
theorem Og{n s g w d de:Int}{cold:List Bool}{modes:List Mode}(h:Ty.has bM (n,s,g,w,d,de,cold,modes)):aF (EQ aj) (t154 aj n s g w d de cold modes) (countB (n,s,g,w,d,de,cold,modes)):=
 ax (by simp[countB]) (Oe (jI h).2.1 cold.length 0 0 rfl (by omega) (by omega))
def Gb:au→Bool:=countB
def UX:aC:=⟨[bM], [.bool],(@tt au),Gb⟩
theorem Ud:Sd 139 UX:=aK ap cm true 25 [⟨139,3, [[1,3,7,8,9]]⟩] [] (fun A (mNodes,mSlot,mGap,mWindow,mDrift,mDelay,mCold,mModes)=>t154 A mNodes mSlot mGap mWindow mDrift mDelay mCold mModes) EQ Na (fc Tryz.func139 fz) (sc yV sz) (fun A y=>match y with |.c0 p a0 a3=>⟨38,by kernel_rfl,by kernel_rfl⟩) fun(mNodes,mSlot,mGap,mWindow,mDrift,mDelay,mCold,mModes) hp h=>Og h
structure NN where
 (a0:List Int) (a1 a3 a4 a5 a6 a7 a8:Int) (a9:List Bool) (cd:List Mode) (dS:List Int) (a12 jR:List Bool)
inductive Dj where
 | c0 (p:NN) (a2:Int)
noncomputable def OE:Dj→fJ
 | .c0 p a2=>⟨[⟨142,57,(en [(2,.ptr 0 0),(3,.ptr 1 0),(31,.sl yI p.a0),(32,vi p.a1),(33,vi a2)]),[.inLoop (cw Tryz.f142 [1,1,0,1,0,0]),.inBlock 0,.code (cw Tryz.f142 [1,1,1])],[],none⟩],[.flat false [vi p.a3,vi p.a4,vi p.a5,vi p.a6,vi p.a7,vi p.a8,.sl .bool p.a9,.sl bg p.cd],.flat false [.sl yI p.dS,.sl .bool p.a12,.sl .bool p.jR],.dead]⟩
def t157(A:a_)(mNodes:Int)(mSlot:Int)(mGap:Int)(mWindow:Int)(mDrift:Int)(mDelay:Int)(mCold:List Bool)(mModes:List Mode)(xData:List Int)(xExplicit:List Bool)(xNext:List Bool):LT Bool Dj:=.br (A.c .neq (A.l xData) mNodes) (.ret false) (.br (A.c .neq (A.l xExplicit) mNodes) (.ret false) (.br (A.c .neq (A.l xNext) (A.l mModes)) (.ret false) (.more (.c0 ⟨xData,(A.l xData),mNodes,mSlot,mGap,mWindow,mDrift,mDelay,mCold,mModes,xData,xExplicit,xNext⟩ 0))))
def Dg(A:a_):Dj→LT Bool Dj
 | .c0 p a2=>.br (A.c .lss a2 p.a1) (.need (A.and (A.c .leq 0 a2) (A.c .lss a2 (A.l p.a0))) (.need (A.k (@tt (Int×Int×Int)) ((A.n yI p.a0 a2:Int),0,8)) (.br (A.not (A.k dN ((A.n yI p.a0 a2:Int),0,8))) (.ret false) (.need (A.and (A.c .leq 0 a2) (A.c .lss a2 (A.l p.a9))) (.br (A.n .bool p.a9 a2:Bool) (.need (A.and (A.c .leq 0 a2) (A.c .lss a2 (A.l p.a12))) (.br (A.not (A.n .bool p.a12 a2:Bool)) (.ret false) (.more (.c0 p (A.b .add .i64 a2 1))))) (.more (.c0 p (A.b .add .i64 a2 1)))))))) (.ret true)
def nU:List Int→List Bool→List Bool→Bool
 | d::ds,c::cs,e::es=>(decide (0≤d)&&decide (d≤8))&&(!c||e)&&nU ds cs es
 | _,_,_=>true
def gD(m:au)(x:Mode):Bool:=((x.1.length:Int)==m.1)&&((x.2.1.length:Int)==m.1)&&(x.2.2.length==m.2.2.2.2.2.2.2.length)&&nU x.1 m.2.2.2.2.2.2.1 x.2.1
theorem TS{n s g w d de:Int}{cold expl next:List Bool}{modes:List Mode}{data:List Int}(hl:data.length≤140737488355328)(hc:cold.length=data.length)(he:expl.length=data.length):∀(j i:Nat),data.length-i=j→i≤data.length→
  aF (Dg aj) (.more (.c0 ⟨data,(data.length:Int),n,s,g,w,d,de,cold,modes,data,expl,next⟩ (i:Int))) (nU (data.drop i) (cold.drop i) (expl.drop i)):=by
 intro j
 induction j with
 | zero=>
   intro i hj hi
   have:i=data.length:=by omega
   subst this
   rw[al,Dg]
   refine(ah (by rw[aL];simp)).2 ?_
   rw[List.drop_length]
   exact .ret _
 | succ j ih=>
   intro i hj hi
   have hi':i<data.length:=by omega
   rw[al,Dg]
   refine(ai (by rw[aL];simp;omega)).2 (af.2 ⟨aO hi',af.2 ⟨rfl,?_⟩⟩)
   rw[List.drop_eq_getElem_cons hi',List.drop_eq_getElem_cons (show i<cold.length by omega),List.drop_eq_getElem_cons (show i<expl.length by omega),nU]
   have hm:=ih (i+1) (by omega) (by omega)
   have hw:aj.k dN ((aj.n (.int .i64) data (i:Int):Int),0,8)=(decide (0≤data[i])&&decide (data[i]≤8)):=by
    rw[ak,KO hi',js]
   cases hw':(decide (0≤data[i])&&decide (data[i]≤8))
   ·exact(ai (by rw[hw,hw'];rfl)).2 (.ret _)
   refine(ah (by rw[hw,hw'];rfl)).2 (af.2 ⟨aO (show i<cold.length by omega),?_⟩)
   cases hcb:cold[i]
   ·refine(ah ((p9 (show i<cold.length by omega)).trans hcb)).2 ?_
    exact aX (congrArg (fun z=>LT.more (Dj.c0 _ z)) (cn (by omega))) hm
   ·refine(ai ((p9 (show i<cold.length by omega)).trans hcb)).2 (af.2 ⟨aO (show i<expl.length by omega),?_⟩)
    cases heb:expl[i]
    ·exact(ai (by rw[p9 (show i<expl.length by omega),heb];rfl)).2 (.ret _)
    ·refine(ah (by rw[p9 (show i<expl.length by omega),heb];rfl)).2 ?_
     exact aX (congrArg (fun z=>LT.more (Dj.c0 _ z)) (cn (by omega))) hm
theorem VQ{n s g w d de:Int}{cold expl next:List Bool}{modes:List Mode}{data:List Int}(hl:data.length≤140737488355328)(hc:(cold.length:Int)=n) :
  aF (Dg aj) (t157 aj n s g w d de cold modes data expl next) (gD (n,s,g,w,d,de,cold,modes) (data,expl,next)):=by
 unfold t157 gD
 simp only[fL]
 by_cases h1:(data.length:Int)=n
 ·refine(ah (bO h1)).2 ?_
  by_cases h2:(expl.length:Int)=n
  ·refine(ah (bO h2)).2 ?_
   by_cases h3:(next.length:Int)=modes.length
   ·refine(ah (bO h3)).2 (ax ?_ (TS hl (by omega) (by omega) data.length 0 rfl (by omega)))
    rw[beq_iff_eq.2 h1,beq_iff_eq.2 h2,beq_iff_eq.2 (show next.length=modes.length by omega)];rfl
   ·refine(ai (dd h3)).2 (ax ?_ (.ret _))
    rw[beq_eq_false_iff_ne.2 (show next.length≠modes.length by omega),Bool.and_false,Bool.false_and]
  ·refine(ai (dd h2)).2 (ax ?_ (.ret _))
   rw[beq_eq_false_iff_ne.2 h2,Bool.and_false];rfl
 ·refine(ai (dd h1)).2 (ax ?_ (.ret _))
  rw[beq_eq_false_iff_ne.2 h1];rfl
def BN:(au×Mode)→Bool:=fun(m,x)=>gD m x
def Bt:(au×Mode)→Bool:=fun(m,_)=>(m.2.2.2.2.2.2.1.length:Int)==m.1
def UJ:aC:=⟨[bM,bg], [.bool],Bt,BN⟩
theorem Sn:Sd 142 UJ:=aK ap cm true 51 [⟨142,4, [[2,3,31,32,33]]⟩] [] (fun A ((mNodes,mSlot,mGap,mWindow,mDrift,mDelay,mCold,mModes),xData,xExplicit,xNext)=>t157 A mNodes mSlot mGap mWindow mDrift mDelay mCold mModes xData xExplicit xNext) Dg OE (fc Tryz.func142 fz) (sc yV sz) (fun A y=>match y with |.c0 p a2=>⟨51,by kernel_rfl,by kernel_rfl⟩) fun(((mNodes,mSlot,mGap,mWindow,mDrift,mDelay,mCold,mModes),xData,xExplicit,xNext):au×Mode) hp h=>by
 show aF (Dg aj) (t157 aj mNodes mSlot mGap mWindow mDrift mDelay mCold mModes xData xExplicit xNext) (BN ((mNodes,mSlot,mGap,mWindow,mDrift,mDelay,mCold,mModes),xData,xExplicit,xNext))
 exact VQ h.2.1.1 (by simpa [Bt] using hp)
open Go.Ev.Pl
def t183(A:a_)(explicit:Bool)(data:Int):LT Int Empty:=.br (A.not explicit) (.ret 2) (.br (A.c .gtr data 0) (.ret 4) (.ret 3))
def ja:(Bool×Int)→Int:=fun(explicit,data)=>(t183 aj explicit data).val (Ty.bF [yI])
def WK:aC:=⟨[.bool,yI], [yI],(@tt (Bool×Int)),ja⟩
theorem Ma:Sd 208 WK:=aH ap cm true 32 [] (fun A (explicit,data)=>t183 A explicit data) (fc Tryz.func208 fz) sz (fun((explicit,data):Bool×Int) hp h=>by
 show(t183 aj explicit data).pre=true
 simp[t183,LT.pre,ak,bK])
def t173(A:a_)(n:Int):LT Int Empty:=.br (A.c .lss n 0) (.ret 0) (.br (A.c .gtr n 4095) (.ret 0) (.ret (A.b .add .i64 14 (A.b .quo .i64 (A.b .add .i64 n 1) 2))))
def ov:Int→Int:=fun n=>(t173 aj n).val (Ty.bF [yI])
def Xp:aC:=⟨[yI], [yI],(@tt Int),ov⟩
theorem WL:Sd 226 Xp:=aH ap cm true 30 [] (fun A n=>t173 A n) (fc Tryz.func226 fz) sz (fun(n:Int) hp h=>by
 show(t173 aj n).pre=true
 simp[t173,LT.pre,ak,bK])
structure Pj where
 (a0:Int) (a1:List Mode) (a2 a3 a4 a5 a6 a7 a8 a9:Int) (cd:List Bool) (dS:List Mode)
structure MQ where
 (b1:List Mode) (b2 b3:Int) (b4:List Int) (b5 b7 b8 b9 b10 b11 b12:Int) (b13:List Bool) (o9:List Mode) (vL:List Int) (cZ jQ:List Bool)
inductive Ke where
 | c0 (p:Pj)
 | c1 (p:MQ) (b0:Int) (b6:Int)
noncomputable def PS:Ke→fJ
 | .c0 p=>⟨[⟨199,55,(en [(1,.ptr 0 0),(3,vi p.a0),(12,.sl bg p.a1),(13,vi p.a2),(14,vi p.a3)]),[.inLoop (cw Tryz.f199 [1,1,0,1,0,0]),.inBlock 0,.code (cw Tryz.f199 [1,1,1])],[],none⟩],[.flat false [vi p.a4,vi p.a5,vi p.a6,vi p.a7,vi p.a8,vi p.a9,.sl .bool p.cd,.sl bg p.dS],.dead]⟩
 | .c1 p b0 b6=>⟨[⟨199,55,(en [(1,.ptr 0 0),(3,vi b0),(5,.ptr 1 0),(12,.sl bg p.b1),(13,vi p.b2),(14,vi p.b3),(19,.sl yI p.b4),(20,vi p.b5),(21,vi b6)]),[.inLoop (cw Tryz.f199 [1,1,0,1,0,0,1,1,0,0,1,1,0,0]),.inBlock 2,.inBlock 1,.code (cw Tryz.f199 [1,1,0,1,0,0,1,1,1]),.inLoop (cw Tryz.f199 [1,1,0,1,0,0]),.inBlock 0,.code (cw Tryz.f199 [1,1,1])],[],none⟩],[.flat false [vi p.b7,vi p.b8,vi p.b9,vi p.b10,vi p.b11,vi p.b12,.sl .bool p.b13,.sl bg p.o9],.flat false [.sl yI p.vL,.sl .bool p.cZ,.sl .bool p.jQ],.dead]⟩
def V1(A:a_)(mNodes:Int)(mSlot:Int)(mGap:Int)(mWindow:Int)(mDrift:Int)(mDelay:Int)(mCold:List Bool)(mModes:List Mode):LT Int Ke:=.need (A.k (@tt (Int×Int)) (1,0)) (.need (A.k (@tt Int) (A.k lY (1,0))) (.more (.c0 ⟨(A.k ov (A.k lY (1,0))),mModes,(A.l mModes),0,mNodes,mSlot,mGap,mWindow,mDrift,mDelay,mCold,mModes⟩)))
def yO(A:a_):Ke→LT Int Ke
 | .c0 p=>.br (A.c .lss p.a3 p.a2) (.need (A.and (A.c .leq 0 p.a3) (A.c .lss p.a3 (A.l p.a1))) (.more (.c1 ⟨p.a1,p.a2,p.a3,(A.n bg p.a1 p.a3:Mode).1,(A.l (A.n bg p.a1 p.a3:Mode).1),p.a4,p.a5,p.a6,p.a7,p.a8,p.a9,p.cd,p.dS,(A.n bg p.a1 p.a3:Mode).1,(A.n bg p.a1 p.a3:Mode).2.1,(A.n bg p.a1 p.a3:Mode).2.2⟩ p.a0 0))) (.ret p.a0)
 | .c1 p b0 b6=>.br (A.c .lss b6 p.b5) (.need (A.and (A.c .leq 0 b6) (A.c .lss b6 (A.l p.b4))) (.br (A.c .lss b6 p.b7) (.br (A.c .lss b6 (A.l p.cZ)) (.need (A.and (A.c .leq 0 b6) (A.c .lss b6 (A.l p.cZ))) (.need (A.k (@tt (Bool×Int)) ((A.n .bool p.cZ b6:Bool),(A.n yI p.b4 b6:Int))) (.need (A.k (@tt (Int×Int)) ((A.k ja ((A.n .bool p.cZ b6:Bool),(A.n yI p.b4 b6:Int))),(A.n yI p.b4 b6:Int))) (.br (A.c .gtr (A.k lY ((A.k ja ((A.n .bool p.cZ b6:Bool),(A.n yI p.b4 b6:Int))),(A.n yI p.b4 b6:Int))) 0) (.need (A.k (@tt Int) (A.k lY ((A.k ja ((A.n .bool p.cZ b6:Bool),(A.n yI p.b4 b6:Int))),(A.n yI p.b4 b6:Int)))) (.more (.c1 p (A.mx b0 (A.k ov (A.k lY ((A.k ja ((A.n .bool p.cZ b6:Bool),(A.n yI p.b4 b6:Int))),(A.n yI p.b4 b6:Int))))) (A.b .add .i64 b6 1)))) (.more (.c1 p b0 (A.b .add .i64 b6 1))))))) (.more (.c1 p b0 (A.b .add .i64 b6 1)))) (.more (.c1 p b0 (A.b .add .i64 b6 1))))) (.more (.c0 ⟨b0,p.b1,p.b2,(A.b .add .i64 p.b3 1),p.b7,p.b8,p.b9,p.b10,p.b11,p.b12,p.b13,p.o9⟩))
def t_(b:Int)(x:Int×Bool):Int:=bif decide (0<lY (ja (x.2,x.1),x.1)) then aj.mx b (ov (lY (ja (x.2,x.1),x.1))) else b
def qo(n:Nat)(b:Int)(x:Mode):Int:=((x.1.zip x.2.1).take n).foldl t_ b
def fy(m:au):Int:=m.2.2.2.2.2.2.2.foldl (qo m.1.toNat) (ov (lY (1,0)))
theorem E6{data:List Int}{expl:List Bool}{n:Int}{i:Nat}(h1:i<data.length)(h2:i<expl.length)(h3:(i:Int)<n):((data.zip expl).take n.toNat).drop i=(data[i],expl[i])::((data.zip expl).take n.toNat).drop (i+1):=by
 have hl:i<((data.zip expl).take n.toNat).length:=by simp[List.length_take,List.length_zip];omega
 rw[List.drop_eq_getElem_cons hl,List.getElem_take,List.getElem_zip]
theorem qQ{data:List Int}{expl:List Bool}{n:Int}{i:Nat}(h:expl.length≤i∨n≤(i:Int)∨data.length≤i):((data.zip expl).take n.toNat).drop i=[]:=by
 apply List.drop_of_length_le
 simp[List.length_take,List.length_zip];omega
theorem B6{i:Nat}{n:Int}:aj.c .lss (i:Int) n=decide ((i:Int)<n):=rfl
theorem Iv{b:Int}{d:Int}{e:Bool}:t_ b (d,e)=bif aj.c .gtr (aj.k lY ((aj.k ja (e,d)),d)) 0 then aj.mx b (aj.k ov (aj.k lY ((aj.k ja (e,d)),d))) else b:=rfl
theorem aaN{n s g w d de:Int}{cold expl next:List Bool}{modes ms:List Mode}{data:List Int}{L k k1:Int}{F:Int→Int}(hl:data.length≤140737488355328)(hk:aj.b .add .i64 k 1=k1)(hnext:∀b,aF (yO aj) (.more (.c0 ⟨b,ms,L,k1,n,s,g,w,d,de,cold,modes⟩)) (F b)) :
  ∀(j i:Nat) (b:Int),data.length-i=j→i≤data.length→aF (yO aj) (.more (.c1 ⟨ms,L,k,data,(data.length:Int),n,s,g,w,d,de,cold,modes,data,expl,next⟩ b (i:Int))) (F ((((data.zip expl).take n.toNat).drop i).foldl t_ b)):=by
 intro j
 induction j with
 | zero=>
   intro i b hj hi
   have:i=data.length:=by omega
   subst this
   rw[al,yO]
   refine(ah (by rw[aL];simp)).2 ?_
   rw[qQ (.inr (.inr (Nat.le_refl _))),hk]
   exact hnext b
 | succ j ih=>
   intro i b hj hi
   have hi':i<data.length:=by omega
   rw[al,yO]
   refine(ai (by rw[aL];simp;omega)).2 (af.2 ⟨aO hi',?_⟩)
   have hm:=fun b=>ih (i+1) b (by omega) (by omega)
   by_cases h3:(i:Int)<n
   ·refine(ai (by rw[B6];simpa using h3)).2 ?_
    by_cases h2:i<expl.length
    ·refine(ai (by rw[fL,aL];simpa using h2)).2 (af.2 ⟨aO (show i<expl.length from h2),af.2 ⟨rfl,af.2 ⟨rfl,?_⟩⟩⟩)
     rw[E6 hi' h2 h3,List.foldl_cons,Iv,←KO hi',←p9 h2,cn (i:=i) (by omega)]
     cases hb:aj.c .gtr (aj.k lY ((aj.k ja ((aj.n .bool expl (i:Int):Bool),(aj.n (.int .i64) data (i:Int):Int))),(aj.n (.int .i64) data (i:Int):Int))) 0
     ·exact(ah rfl).2 (hm _)
     ·exact(ai rfl).2 (af.2 ⟨rfl,hm _⟩)
    ·refine(ah (by rw[fL,aL];simpa using h2)).2 ?_
     rw[cn (i:=i) (by omega)]
     have:=hm b
     rw[qQ (.inl (by omega))] at this ⊢
     exact this
   ·refine(ah (by rw[B6];simpa using h3)).2 ?_
    rw[cn (i:=i) (by omega)]
    have:=hm b
    rw[qQ (.inr (.inl (by omega)))] at this ⊢
    exact this
theorem ZD{n s g w d de:Int}{cold:List Bool}{modes ms:List Mode}(hl:ms.length≤140737488355328)(hd:∀x∈ms,x.1.length≤140737488355328) :
  ∀(j k:Nat) (b:Int),ms.length-k=j→k≤ms.length→aF (yO aj) (.more (.c0 ⟨b,ms,(ms.length:Int),(k:Int),n,s,g,w,d,de,cold,modes⟩)) ((ms.drop k).foldl (qo n.toNat) b):=by
 intro j
 induction j with
 | zero=>
   intro k b hj hk
   have:k=ms.length:=by omega
   subst this
   rw[al,yO]
   refine(ah (by rw[aL];simp)).2 ?_
   rw[List.drop_length]
   exact .ret _
 | succ j ih=>
   intro k b hj hk
   have hk':k<ms.length:=by omega
   rw[al,yO]
   refine(ai (by rw[aL];simp;omega)).2 (af.2 ⟨aO hk',?_⟩)
   rw[show(aj.n bg ms (k:Int):Mode)=ms[k] from getD_in hk' _,List.drop_eq_getElem_cons hk',List.foldl_cons]
   exact aaN (F:=fun b=>(ms.drop (k+1)).foldl (qo n.toNat) b) (hd _ (List.getElem_mem hk')) (cn (by omega)) (fun b=>ih (k+1) b (by omega) (by omega)) ms[k].1.length 0 b rfl (by omega)
theorem max2{n s g w d de:Int}{cold:List Bool}{modes:List Mode}(h:Ty.has bM (n,s,g,w,d,de,cold,modes)):aF (yO aj) (V1 aj n s g w d de cold modes) (fy (n,s,g,w,d,de,cold,modes)):=
 af.2 ⟨rfl,af.2 ⟨rfl,ZD (jI h).2.2.1 (fun x hx=>((jI h).2.2.2 x hx).1) modes.length 0 _ rfl (by omega)⟩⟩
def Ml:au→Int:=fy
def QA:aC:=⟨[bM], [yI],(@tt au),Ml⟩
theorem WE:Sd 199 QA:=aK ap cm true 27 [⟨199,3, [[1,3,12,13,14]]⟩,⟨199,6, [[1,3,5,12,13,14,19,20,21]]⟩] [] (fun A (mNodes,mSlot,mGap,mWindow,mDrift,mDelay,mCold,mModes)=>V1 A mNodes mSlot mGap mWindow mDrift mDelay mCold mModes) yO PS (fc Tryz.func199 fz) (sc aao (sc WL (sc Ma sz))) (fun A y=>match y with |.c0 p=>⟨31,by kernel_rfl,by kernel_rfl⟩|.c1 p b0 b6=>⟨69,by kernel_rfl,by kernel_rfl⟩) fun(mNodes,mSlot,mGap,mWindow,mDrift,mDelay,mCold,mModes) hp h=>max2 h
def t159(A:a_)(mNodes:Int)(mSlot:Int)(mGap:Int)(mWindow:Int)(mDrift:Int)(mDelay:Int)(mCold:List Bool)(mModes:List Mode):LT (Int×Int×Int) Empty:=.need (A.k (@tt au) (mNodes,mSlot,mGap,mWindow,mDrift,mDelay,mCold,mModes)) (.ret ((A.b .add .i64 (A.b .mul .i64 (A.b .mul .i64 16 mNodes) mDrift) 16),(A.b .add .i64 (A.b .add .i64 (A.b .mul .i64 2 mWindow) (A.b .mul .i64 2 mDelay)) 4),(A.b .add .i64 (A.b .mul .i64 2 mGap) (A.k Ml (mNodes,mSlot,mGap,mWindow,mDrift,mDelay,mCold,mModes)))))
def nu:au→(Int×Int×Int):=fun(mNodes,mSlot,mGap,mWindow,mDrift,mDelay,mCold,mModes)=>(t159 aj mNodes mSlot mGap mWindow mDrift mDelay mCold mModes).val (Ty.bF [yI,yI,yI])
def Wv:aC:=⟨[bM], [yI,yI,yI],(@tt au),nu⟩
theorem Tp:Sd 144 Wv:=aH ap cm true 50 [] (fun A (mNodes,mSlot,mGap,mWindow,mDrift,mDelay,mCold,mModes)=>t159 A mNodes mSlot mGap mWindow mDrift mDelay mCold mModes) (fc Tryz.func144 fz) (sc WE sz) (fun((mNodes,mSlot,mGap,mWindow,mDrift,mDelay,mCold,mModes):au) hp h=>by
 show(t159 aj mNodes mSlot mGap mWindow mDrift mDelay mCold mModes).pre=true
 simp[t159,LT.pre,ak,bK])
theorem aB{R Y:Type}{step:Y→LT R Y}{t e:LT R Y}{r:R}{p:Prop}[Decidable p]{b:Bool}(hb:b=decide p)(ht:p→aF step t r)(he:¬p→aF step e r):aF step (.br b t e) r:=by
 by_cases h:p
 ·exact(ai (by rw[hb];simpa using h)).2 (ht h)
 ·exact(ah (by rw[hb];simpa using h)).2 (he h)
theorem eT{R Y:Type}{step:Y→LT R Y}{t e:LT R Y}{r:R}{x a b:Int}(ht:¬(a≤x∧x≤b)→aF step t r)(he:a≤x∧x≤b→aF step e r):aF step (.br (aj.not (aj.k dN (x,a,b))) t e) r:=by
 refine aB (p:=¬(a≤x∧x≤b)) ?_ ht (fun h=>he (Decidable.not_not.1 h))
 rw[aP,ak,js,←Bool.decide_and,←decide_not]
theorem xc{n:Int}:0≤ov n∧ov n≤2062:=by
 simp only[ov,t173,LT.val,ao,ay,Bool.cond_eq_ite,decide_eq_true_eq]
 split
 ·omega
 ·split
  ·omega
  ·rw[bi,BH,bi,gg (a:=n+1) (by omega) (by omega)]
   have:(n+1).tdiv 2=(n+1)/2:=Int.tdiv_eq_ediv_of_nonneg (by omega)
   rw[this,gg (a:=(n+1)/2) (by omega) (by omega),gg (by omega) (by omega)]
   omega
theorem Hf{b:Int}{x:Int×Bool}(h:0≤b∧b≤2062):0≤t_ b x∧t_ b x≤2062:=by
 have:=xc (n:=lY (ja (x.2,x.1),x.1))
 unfold t_
 cases decide (0<lY (ja (x.2,x.1),x.1))
 ·exact h
 ·rw[VA,OR];split<;>omega
theorem oK{α:Type}{f:Int→α→Int}(hf:∀b x,0≤b∧b≤2062→0≤f b x∧f b x≤2062):∀{l:List α} {b:Int},0≤b∧b≤2062→0≤l.foldl f b∧l.foldl f b≤2062
 | [],_,h=>h
 | x::l,b,h=>oK hf (l:=l) (hf b x h)
theorem rh{m:au}:0≤fy m∧fy m≤2062:=oK (fun _ _ h=>oK (fun _ _ h=>Hf h) h) xc
def iM(n s g w d de mx:Int):Bool:=decide (0≤d∧d≤64∧0≤de∧de≤64∧16*n*d+16≤w∧w≤1048576∧2*w+2*de+4≤g∧g≤1048576∧2*g+mx≤s∧s≤16777216)
def dY(m:au):Bool:=countB m&&m.2.2.2.2.2.2.2.all (gD m)&&iM m.1 m.2.1 m.2.2.1 m.2.2.2.1 m.2.2.2.2.1 m.2.2.2.2.2.1 (fy m)
def gj(m:au):Int:=bif dY m then 0 else 70
theorem He{n d:Int}(h:4≤n∧n≤8)(h2:0≤d∧d≤64):aj.b .add .i64 (aj.b .mul .i64 (aj.b .mul .i64 16 n) d) 16=16*n*d+16:=by
 have h3:0≤16*n*d∧16*n*d≤8192:=by
  have:n=4∨n=5∨n=6∨n=7∨n=8:=by omega
  rcases this with rfl|rfl|rfl|rfl|rfl<;>omega
 rw[bi,ll,ll,gg (a:=16*n) (by omega) (by omega),gg (a:=16*n*d) (by omega) (by omega),gg (by omega) (by omega)]
theorem nM{n d:Int}(h:4≤n∧n≤8)(h2:0≤d∧d≤64):0≤16*n*d:=by
 have:n=4∨n=5∨n=6∨n=7∨n=8:=by omega
 rcases this with rfl|rfl|rfl|rfl|rfl<;>omega
theorem E0{w de:Int}(h:0≤w∧w≤1048576)(h2:0≤de∧de≤64):aj.b .add .i64 (aj.b .add .i64 (aj.b .mul .i64 2 w) (aj.b .mul .i64 2 de)) 4=2*w+2*de+4:=by
 rw[bi,bi,ll,ll,gg (a:=2*w) (by omega) (by omega),gg (a:=2*de) (by omega) (by omega),gg (a:=2*w+2*de) (by omega) (by omega),gg (by omega) (by omega)]
theorem Cj{g mx:Int}(h:0≤g∧g≤1048576)(h2:0≤mx∧mx≤2062):aj.b .add .i64 (aj.b .mul .i64 2 g) mx=2*g+mx:=by
 rw[bi,ll,gg (a:=2*g) (by omega) (by omega),gg (by omega) (by omega)]
theorem Ez{n s g w d de:Int}{cold:List Bool}{modes:List Mode}:nu (n,s,g,w,d,de,cold,modes)=(aj.b .add .i64 (aj.b .mul .i64 (aj.b .mul .i64 16 n) d) 16,aj.b .add .i64 (aj.b .add .i64 (aj.b .mul .i64 2 w) (aj.b .mul .i64 2 de)) 4,aj.b .add .i64 (aj.b .mul .i64 2 g) (fy (n,s,g,w,d,de,cold,modes))):=rfl
open Go.Ev.Pl
structure NW where
 (a0:List Mode) (a1 a3 a4 a5 a6 a7 a8:Int) (a9:List Bool) (cd:List Mode)
inductive Ld where
 | c0 (p:NW) (a2:Int)
noncomputable def PN:Ld→fJ
 | .c0 p a2=>⟨[⟨198,19,(en [(0,.sl bg p.a0),(1,.fn 141 [] [.ptr 0 0]),(7,vi p.a1),(8,vi a2)]),[.inLoop (cw Tryz.f198 [1,0,1,0,0]),.inBlock 0,.code (cw Tryz.f198 [1,1])],[],none⟩,⟨140,9,.leaf,[.ops (ow Tryz.f140 [1,0]) ((ow Tryz.f140 [1,0]).toList.drop 2),.code .ret],[],none⟩,⟨62,65,(en [(1,.ptr 0 0)]),[.ops (ow Tryz.f62 [1,0,0,0,0,0,0,0,0,1,0,0]) ((ow Tryz.f62 [1,0,0,0,0,0,0,0,0,1,0,0]).toList.drop 3),.code (cw Tryz.f62 [1,0,0,0,0,0,0,0,0,1,0,1]),.code (cw Tryz.f62 [1,0,0,0,0,0,0,0,0,1,1]),.code (.exit 0),.inBlock 1,.inBlock 2,.inBlock 3,.inBlock 4,.code (cw Tryz.f62 [1,0,0,1]),.inBlock 0,.code (cw Tryz.f62 [1,1])],[],none⟩],[.flat false [vi p.a3,vi p.a4,vi p.a5,vi p.a6,vi p.a7,vi p.a8,.sl .bool p.a9,.sl bg p.cd],.dead]⟩
def t124(A:a_)(mNodes:Int)(mSlot:Int)(mGap:Int)(mWindow:Int)(mDrift:Int)(mDelay:Int)(mCold:List Bool)(mModes:List Mode):LT Int Ld:=.need (A.k (@tt au) (mNodes,mSlot,mGap,mWindow,mDrift,mDelay,mCold,mModes)) (.br (A.not (A.k Gb (mNodes,mSlot,mGap,mWindow,mDrift,mDelay,mCold,mModes))) (.ret 70) (.more (.c0 ⟨mModes,(A.l mModes),mNodes,mSlot,mGap,mWindow,mDrift,mDelay,mCold,mModes⟩ 0)))
def C7(A:a_):Ld→LT Int Ld
 | .c0 p a2=>.br (A.c .lss a2 p.a1) (.need (A.and (A.c .leq 0 a2) (A.c .lss a2 (A.l p.a0))) (.need (A.k Bt ((p.a3,p.a4,p.a5,p.a6,p.a7,p.a8,p.a9,p.cd),(A.n bg p.a0 a2:Mode))) (.br (A.not (A.k BN ((p.a3,p.a4,p.a5,p.a6,p.a7,p.a8,p.a9,p.cd),(A.n bg p.a0 a2:Mode)))) (.br (A.c .geq a2 0) (.ret 70) (.need (A.k (@tt (Int×Int×Int)) (p.a7,0,64)) (.br (A.not (A.k dN (p.a7,0,64))) (.ret 70) (.need (A.k (@tt (Int×Int×Int)) (p.a8,0,64)) (.br (A.not (A.k dN (p.a8,0,64))) (.ret 70) (.need (A.k (@tt (Int×Int×Int)) (p.a6,0,1048576)) (.br (A.not (A.k dN (p.a6,0,1048576))) (.ret 70) (.need (A.k (@tt (Int×Int×Int)) (p.a5,0,1048576)) (.br (A.not (A.k dN (p.a5,0,1048576))) (.ret 70) (.need (A.k (@tt (Int×Int×Int)) (p.a4,0,16777216)) (.br (A.not (A.k dN (p.a4,0,16777216))) (.ret 70) (.need (A.k (@tt au) (p.a3,p.a4,p.a5,p.a6,p.a7,p.a8,p.a9,p.cd)) (.br (A.c .lss p.a6 (A.k nu (p.a3,p.a4,p.a5,p.a6,p.a7,p.a8,p.a9,p.cd)).1) (.ret 70) (.br (A.c .lss p.a5 (A.k nu (p.a3,p.a4,p.a5,p.a6,p.a7,p.a8,p.a9,p.cd)).2.1) (.ret 70) (.br (A.c .lss p.a4 (A.k nu (p.a3,p.a4,p.a5,p.a6,p.a7,p.a8,p.a9,p.cd)).2.2) (.ret 70) (.ret 0)))))))))))))))) (.more (.c0 p (A.b .add .i64 a2 1)))))) (.need (A.k (@tt (Int×Int×Int)) (p.a7,0,64)) (.br (A.not (A.k dN (p.a7,0,64))) (.ret 70) (.need (A.k (@tt (Int×Int×Int)) (p.a8,0,64)) (.br (A.not (A.k dN (p.a8,0,64))) (.ret 70) (.need (A.k (@tt (Int×Int×Int)) (p.a6,0,1048576)) (.br (A.not (A.k dN (p.a6,0,1048576))) (.ret 70) (.need (A.k (@tt (Int×Int×Int)) (p.a5,0,1048576)) (.br (A.not (A.k dN (p.a5,0,1048576))) (.ret 70) (.need (A.k (@tt (Int×Int×Int)) (p.a4,0,16777216)) (.br (A.not (A.k dN (p.a4,0,16777216))) (.ret 70) (.need (A.k (@tt au) (p.a3,p.a4,p.a5,p.a6,p.a7,p.a8,p.a9,p.cd)) (.br (A.c .lss p.a6 (A.k nu (p.a3,p.a4,p.a5,p.a6,p.a7,p.a8,p.a9,p.cd)).1) (.ret 70) (.br (A.c .lss p.a5 (A.k nu (p.a3,p.a4,p.a5,p.a6,p.a7,p.a8,p.a9,p.cd)).2.1) (.ret 70) (.br (A.c .lss p.a4 (A.k nu (p.a3,p.a4,p.a5,p.a6,p.a7,p.a8,p.a9,p.cd)).2.2) (.ret 70) (.ret 0)))))))))))))))
theorem Kj{n s g w d de:Int}{cold:List Bool}{modes:List Mode}{R:Int}(hn:4≤n∧n≤8)(hR:R=bif iM n s g w d de (fy (n,s,g,w,d,de,cold,modes)) then 0 else 70) :
  aF (C7 aj) (.need (aj.k (@tt (Int×Int×Int)) (d,0,64)) (.br (aj.not (aj.k dN (d,0,64))) (.ret 70) (.need (aj.k (@tt (Int×Int×Int)) (de,0,64)) (.br (aj.not (aj.k dN (de,0,64))) (.ret 70) (.need (aj.k (@tt (Int×Int×Int)) (w,0,1048576)) (.br (aj.not (aj.k dN (w,0,1048576))) (.ret 70) (.need (aj.k (@tt (Int×Int×Int)) (g,0,1048576)) (.br (aj.not (aj.k dN (g,0,1048576))) (.ret 70) (.need (aj.k (@tt (Int×Int×Int)) (s,0,16777216)) (.br (aj.not (aj.k dN (s,0,16777216))) (.ret 70) (.need (aj.k (@tt au) (n,s,g,w,d,de,cold,modes)) (.br (aj.c .lss w (aj.k nu (n,s,g,w,d,de,cold,modes)).1) (.ret 70) (.br (aj.c .lss g (aj.k nu (n,s,g,w,d,de,cold,modes)).2.1) (.ret 70) (.br (aj.c .lss s (aj.k nu (n,s,g,w,d,de,cold,modes)).2.2) (.ret 70) (.ret 0))))))))))))))) R:=by
 have hm:=rh (m:=(n,s,g,w,d,de,cold,modes))
 have no:∀{p:Prop} [Decidable p],¬p→decide p=false:=fun h=>by simpa using h
 rw[hR]
 refine af.2 ⟨rfl,eT (fun h=>ax ?_ (.ret _)) fun h1=>af.2 ⟨rfl,eT (fun h=>ax ?_ (.ret _)) fun h2=>af.2 ⟨rfl,eT (fun h=>ax ?_ (.ret _)) fun h3=>af.2 ⟨rfl,eT (fun h=>ax ?_ (.ret _)) fun h4=>af.2 ⟨rfl,eT (fun h=>ax ?_ (.ret _)) fun h5=>af.2 ⟨rfl,?_⟩⟩⟩⟩⟩⟩
 ·rw[iM,no (by omega)];rfl
 ·rw[iM,no (by omega)];rfl
 ·have:=fun h=>nM (n:=n) (d:=d) hn h
  rw[iM,no (by omega)];rfl
 ·have:=fun h=>nM (n:=n) (d:=d) hn h
  rw[iM,no (by omega)];rfl
 ·have:=fun h=>nM (n:=n) (d:=d) hn h
  rw[iM,no (by omega)];rfl
 ·have:=nM (n:=n) (d:=d) hn h1
  rw[ak,Ez,He hn h1,E0 h3 h2,Cj h4 hm]
  refine aB (p:=w<16*n*d+16) rfl (fun h=>ax ?_ (.ret _)) fun h6=>aB (p:=g<2*w+2*de+4) rfl (fun h=>ax ?_ (.ret _)) fun h7=>aB (p:=s<2*g+fy (n,s,g,w,d,de,cold,modes)) rfl (fun h=>ax ?_ (.ret _)) fun h8=>ax ?_ (.ret _)
  ·rw[iM,no (by omega)];rfl
  ·rw[iM,no (by omega)];rfl
  ·rw[iM,no (by omega)];rfl
  ·rw[iM,decide_eq_true (by omega)];rfl
theorem PO{n s g w d de:Int}{cold:List Bool}{modes:List Mode}(hl:modes.length≤140737488355328)(hc:(cold.length:Int)=n)(hn:4≤n∧n≤8):∀(j i:Nat),modes.length-i=j→i≤modes.length→
  aF (C7 aj) (.more (.c0 ⟨modes,(modes.length:Int),n,s,g,w,d,de,cold,modes⟩ (i:Int))) (bif (modes.drop i).all (gD (n,s,g,w,d,de,cold,modes))&&iM n s g w d de (fy (n,s,g,w,d,de,cold,modes)) then 0 else 70):=by
 intro j
 induction j with
 | zero=>
   intro i hj hi
   have:i=modes.length:=by omega
   subst this
   rw[al,C7]
   refine(ah (by rw[aL];simp)).2 (Kj hn ?_)
   rw[List.drop_length];rfl
 | succ j ih=>
   intro i hj hi
   have hi':i<modes.length:=by omega
   rw[al,C7]
   refine(ai (by rw[aL];simp;omega)).2 (af.2 ⟨aO hi',?_⟩)
   have e:(aj.n bg modes (i:Int):Mode)=modes[i]:=getD_in hi' _
   rw[e,List.drop_eq_getElem_cons hi',List.all_cons]
   refine af.2 ⟨by show((cold.length:Int)==n)=true;simpa using hc,?_⟩
   have hf:aj.k BN ((n,s,g,w,d,de,cold,modes),modes[i])=gD (n,s,g,w,d,de,cold,modes) modes[i]:=rfl
   rw[hf]
   cases gD (n,s,g,w,d,de,cold,modes) modes[i]
   ·refine(ai rfl).2 ((ai (by rw[aJ];simp)).2 (.ret _))
   ·refine(ah rfl).2 ?_
    rw[cn (i:=i) (by omega),Bool.true_and]
    exact ih (i+1) (by omega) (by omega)
theorem NU{n s g w d de:Int}{cold:List Bool}{modes:List Mode}(h:Ty.has bM (n,s,g,w,d,de,cold,modes)):aF (C7 aj) (t124 aj n s g w d de cold modes) (gj (n,s,g,w,d,de,cold,modes)):=by
 unfold t124 gj dY
 refine af.2 ⟨rfl,?_⟩
 rw[show aj.k Gb (n,s,g,w,d,de,cold,modes)=countB (n,s,g,w,d,de,cold,modes) from rfl]
 cases hc:countB (n,s,g,w,d,de,cold,modes)
 ·exact(ai rfl).2 (.ret _)
 ·refine(ah rfl).2 ?_
  simp only[countB,js,Bool.and_eq_true,decide_eq_true_eq,beq_iff_eq] at hc
  exact PO (jI h).2.2.1 hc.1.2 hc.1.1.1 modes.length 0 rfl (by omega)
def kP:au→Int:=gj
def Xz:aC:=⟨[bM], [yI],(@tt au),kP⟩
theorem CJ:Sd 62 Xz:=aK ap cm true 58 [⟨198,2, [[0,1,7,8], [], [1]]⟩] [] (fun A (mNodes,mSlot,mGap,mWindow,mDrift,mDelay,mCold,mModes)=>t124 A mNodes mSlot mGap mWindow mDrift mDelay mCold mModes) C7 PN (fc Tryz.func62 (fc Tryz.func140 (fc Tryz.func141 (fc Tryz.func198 fz)))) (sc Ud (sc Sn (sc yV (sc Tp sz)))) (fun A y=>match y with |.c0 p a2=>⟨136,by kernel_rfl,by kernel_rfl⟩) fun(mNodes,mSlot,mGap,mWindow,mDrift,mDelay,mCold,mModes) hp h=>NU h
open Go.Ev.Pl
def K6(A:a_)(explicit:Bool)(data:Int):LT Int Empty:=.br (A.not explicit) (.ret 2) (.br (A.c .gtr data 0) (.ret 4) (.ret 3))
def uJ:(Bool×Int)→Int:=fun(explicit,data)=>(K6 aj explicit data).val (Ty.bF [yI])
def UP:aC:=⟨[.bool,yI], [yI],(@tt (Bool×Int)),uJ⟩
theorem L0:Sd 197 UP:=aH ap cm true 30 [] (fun A (explicit,data)=>K6 A explicit data) (fc Tryz.func197 fz) sz (fun((explicit,data):Bool×Int) hp h=>by
 show(K6 aj explicit data).pre=true
 simp[K6,LT.pre,ak,bK])
def K3(A:a_)(n:Int):LT Int Empty:=.br (A.c .lss n 0) (.ret 0) (.br (A.c .gtr n 4095) (.ret 0) (.ret (A.b .add .i64 14 (A.b .quo .i64 (A.b .add .i64 n 1) 2))))
def CZ:Int→Int:=fun n=>(K3 aj n).val (Ty.bF [yI])
def S_:aC:=⟨[yI], [yI],(@tt Int),CZ⟩
theorem VM:Sd 195 S_:=aH ap cm true 30 [] (fun A n=>K3 A n) (fc Tryz.func195 fz) sz (fun(n:Int) hp h=>by
 show(K3 aj n).pre=true
 simp[K3,LT.pre,ak,bK])
structure Nh where
 (a0:List Bool)
inductive Kb where
 | c0 (p:Nh) (a1:Int) (a2:Int)
noncomputable def Pb:Kb→fJ
 | .c0 p a1 a2=>⟨[⟨147,18,(en [(0,.sl .bool p.a0),(3,vi a1),(4,vi a2)]),[.inLoop (cw Tryz.f147 [1,1,0,1,0,0]),.inBlock 0,.code (cw Tryz.f147 [1,1,1])],[],none⟩],[.dead]⟩
def Sz(A:a_)(l:List Bool):LT Int Kb:=.more (.c0 ⟨l⟩ 0 0)
def Gn(A:a_):Kb→LT Int Kb
 | .c0 p a1 a2=>.br (A.c .lss a2 (A.l p.a0)) (.need (A.and (A.c .leq 0 a2) (A.c .lss a2 (A.l p.a0))) (.br (A.n .bool p.a0 a2:Bool) (.more (.c0 p (A.b .add .i64 a1 1) (A.b .add .i64 a2 1))) (.more (.c0 p a1 (A.b .add .i64 a2 1))))) (.ret a1)
theorem Nu{l:List Bool}(hl:l.length≤140737488355328):∀(j i c:Nat),l.length-i=j→i≤l.length→c≤i→aF (Gn aj) (.more (.c0 ⟨l⟩ (c:Int) (i:Int))) ((c+(l.drop i).count true:Nat):Int):=by
 intro j
 induction j with
 | zero=>
   intro i c hj hi hc
   have:i=l.length:=by omega
   subst this
   rw[al,Gn]
   refine(ah (by rw[fL,aL];simp)).2 ?_
   rw[List.drop_length]
   exact .ret _
 | succ j ih=>
   intro i c hj hi hc
   have hi':i<l.length:=by omega
   rw[al,Gn]
   refine(ai (by rw[fL,aL];simp;omega)).2 (af.2 ⟨aO hi',?_⟩)
   rw[List.drop_eq_getElem_cons hi',List.count_cons]
   cases hb:l[i]
   ·refine(ah ((p9 hi').trans hb)).2 ?_
    rw[cn (i:=i) (by omega)]
    refine ax ?_ (ih (i+1) c (by omega) (by omega) (by omega))
    simp
   ·refine(ai ((p9 hi').trans hb)).2 ?_
    rw[cn (i:=c) (by omega),cn (i:=i) (by omega)]
    refine ax ?_ (ih (i+1) (c+1) (by omega) (by omega) (by omega))
    simp[Nat.add_assoc,Nat.add_comm 1]
def zD:(List Bool)→Int:=fun l=>(l.count true:Int)
def Ww:aC:=⟨[(.slice .bool)], [yI],(@tt (List Bool)),zD⟩
theorem VZ:Sd 147 Ww:=aK ap cm true 21 [⟨147,3, [[0,3,4]]⟩] [] (fun A l=>Sz A l) Gn Pb (fc Tryz.func147 fz) sz (fun A y=>match y with |.c0 p a1 a2=>⟨37,by kernel_rfl,by kernel_rfl⟩) fun(l:List Bool) hp h=>by
 show aF (Gn aj) (Sz aj l) (zD l)
 exact ax (by simp[zD]) (Nu h.1 l.length 0 0 rfl (by omega) (by omega))
structure On where
 (a1:List Int) (a2 a3:List Bool) (a4 a5 a6 a7 a8 a9:Int) (cd:List Bool) (dS:List Mode)
structure Oz where
 (b1:List Int) (b2 b3:List Bool) (b4 b5 b6 b7 b8 b9:Int) (b10:List Bool) (b11:List Mode)
inductive KG where
 | c0 (p:On) (a0:Int)
 | c1 (p:Oz) (b0:Int)
noncomputable def OG:KG→fJ
 | .c0 p a0=>⟨[⟨148,78,(en [(2,.ptr 0 0),(3,.ptr 1 0),(5,vi a0)]),[.inLoop (cw Tryz.f148 [1,1,0,1,0,0]),.inBlock 0,.code (cw Tryz.f148 [1,1,1])],[],none⟩],[.flat false [.sl yI p.a1,.sl .bool p.a2,.sl .bool p.a3],.flat false [vi p.a4,vi p.a5,vi p.a6,vi p.a7,vi p.a8,vi p.a9,.sl .bool p.cd,.sl bg p.dS],.dead]⟩
 | .c1 p b0=>⟨[⟨148,78,(en [(2,.ptr 0 0),(3,.ptr 1 0),(6,vi b0)]),[.inLoop (cw Tryz.f148 [1,1,1,0,1,0,0]),.inBlock 2,.code (cw Tryz.f148 [1,1,1,1])],[],none⟩],[.flat false [.sl yI p.b1,.sl .bool p.b2,.sl .bool p.b3],.flat false [vi p.b4,vi p.b5,vi p.b6,vi p.b7,vi p.b8,vi p.b9,.sl .bool p.b10,.sl bg p.b11],.dead]⟩
def J_(A:a_)(xData:List Int)(xExplicit:List Bool)(xNext:List Bool)(mNodes:Int)(mSlot:Int)(mGap:Int)(mWindow:Int)(mDrift:Int)(mDelay:Int)(mCold:List Bool)(mModes:List Mode):LT Bool KG:=.br (A.c .neq (A.l xData) mNodes) (.ret false) (.br (A.c .neq (A.l xExplicit) mNodes) (.ret false) (.br (A.c .neq (A.l xNext) (A.l mModes)) (.ret false) (.more (.c0 ⟨xData,xExplicit,xNext,mNodes,mSlot,mGap,mWindow,mDrift,mDelay,mCold,mModes⟩ 0))))
def vT(A:a_):KG→LT Bool KG
 | .c0 p a0=>.br (A.c .lss a0 (A.l p.a1)) (.need (A.and (A.c .leq 0 a0) (A.c .lss a0 (A.l p.a1))) (.br (A.c .lss (A.n yI p.a1 a0:Int) 0) (.ret false) (.need (A.and (A.c .leq 0 a0) (A.c .lss a0 (A.l p.a1))) (.br (A.c .gtr (A.n yI p.a1 a0:Int) 8) (.ret false) (.more (.c0 p (A.b .add .i64 a0 1))))))) (.more (.c1 ⟨p.a1,p.a2,p.a3,p.a4,p.a5,p.a6,p.a7,p.a8,p.a9,p.cd,p.dS⟩ 0))
 | .c1 p b0=>.br (A.c .lss b0 (A.l p.b2)) (.br (A.c .lss b0 (A.l p.b10)) (.need (A.and (A.c .leq 0 b0) (A.c .lss b0 (A.l p.b10))) (.br (A.n .bool p.b10 b0:Bool) (.need (A.and (A.c .leq 0 b0) (A.c .lss b0 (A.l p.b2))) (.br (A.not (A.n .bool p.b2 b0:Bool)) (.ret false) (.more (.c1 p (A.b .add .i64 b0 1))))) (.more (.c1 p (A.b .add .i64 b0 1))))) (.ret true)) (.ret true)
def HZ:List Bool→List Bool→Bool
 | c::cs,e::es=>(!c||e)&&HZ cs es
 | _,_=>true
theorem oF:∀{ds:List Int} {cs es:List Bool},cs.length=ds.length→es.length=ds.length→nU ds cs es=(ds.all (fun d=>decide (0≤d)&&decide (d≤8))&&HZ cs es)
 | [], [], [],_,_=>rfl
 | d::ds,c::cs,e::es,h1,h2=>by
   rw[nU,oF (ds:=ds) (by simpa using h1) (by simpa using h2),List.all_cons,HZ]
   cases (decide (0≤d)&&decide (d≤8))<;>cases (!c||e)<;>simp
 | [],_::_,_,h,_=>by cases h
 | [], [],_::_,_,h=>by cases h
 | _::_, [],_,h,_=>by cases h
 | _::_,_::_, [],_,h=>by cases h
theorem NJ{n s g w d de:Int}{cold expl next:List Bool}{modes:List Mode}{data:List Int}(hl:expl.length≤140737488355328)(hc:cold.length=expl.length):∀(j i:Nat),expl.length-i=j→i≤expl.length→
  aF (vT aj) (.more (.c1 ⟨data,expl,next,n,s,g,w,d,de,cold,modes⟩ (i:Int))) (HZ (cold.drop i) (expl.drop i)):=by
 intro j
 induction j with
 | zero=>
   intro i hj hi
   have:i=expl.length:=by omega
   subst this
   rw[al,vT]
   refine(ah (by rw[fL,aL];simp)).2 ?_
   rw[List.drop_length,List.drop_of_length_le (by omega)]
   exact .ret _
 | succ j ih=>
   intro i hj hi
   have hi':i<expl.length:=by omega
   have hi2:i<cold.length:=by omega
   rw[al,vT]
   refine(ai (by rw[fL,aL];simp;omega)).2 ((ai (by rw[fL,aL];simp;omega)).2 (af.2 ⟨aO hi2,?_⟩))
   have hm:=ih (i+1) (by omega) (by omega)
   rw[List.drop_eq_getElem_cons hi',List.drop_eq_getElem_cons hi2,HZ]
   cases hcb:cold[i]
   ·refine(ah ((p9 hi2).trans hcb)).2 ?_
    rw[cn (i:=i) (by omega)];exact hm
   ·refine(ai ((p9 hi2).trans hcb)).2 (af.2 ⟨aO hi',?_⟩)
    cases heb:expl[i]
    ·exact(ai (by rw[p9 hi',heb];rfl)).2 (.ret _)
    ·refine(ah (by rw[p9 hi',heb];rfl)).2 ?_
     rw[cn (i:=i) (by omega)];exact hm
theorem ME{n s g w d de:Int}{cold expl next:List Bool}{modes:List Mode}{data:List Int}{R:Bool}(hl:data.length≤140737488355328)(hR:aF (vT aj) (.more (.c1 ⟨data,expl,next,n,s,g,w,d,de,cold,modes⟩ 0)) R):∀(j i:Nat),data.length-i=j→i≤data.length→
  aF (vT aj) (.more (.c0 ⟨data,expl,next,n,s,g,w,d,de,cold,modes⟩ (i:Int))) ((data.drop i).all (fun d=>decide (0≤d)&&decide (d≤8))&&R):=by
 intro j
 induction j with
 | zero=>
   intro i hj hi
   have:i=data.length:=by omega
   subst this
   rw[al,vT]
   refine(ah (by rw[fL,aL];simp)).2 ?_
   rw[List.drop_length]
   exact ax (by simp) hR
 | succ j ih=>
   intro i hj hi
   have hi':i<data.length:=by omega
   rw[al,vT]
   have hm:=ih (i+1) (by omega) (by omega)
   rw[List.drop_eq_getElem_cons hi',List.all_cons]
   refine(ai (by rw[fL,aL];simp;omega)).2 (af.2 ⟨aO hi',?_⟩)
   rw[KO hi']
   refine aB (p:=data[i]<0) rfl (fun h=>ax ?_ (.ret _)) fun h1=>af.2 ⟨aO hi',aB (p:=8<data[i]) rfl (fun h=>ax ?_ (.ret _)) fun h2=>?_⟩
   ·rw[decide_eq_false (show ¬0≤data[i] by omega)];rfl
   ·rw[decide_eq_false (show ¬data[i]≤8 by omega),Bool.and_false];rfl
   ·rw[cn (i:=i) (by omega),decide_eq_true (show 0≤data[i] by omega),decide_eq_true (show data[i]≤8 by omega)]
    exact hm
theorem P7{n s g w d de:Int}{cold expl next:List Bool}{modes:List Mode}{data:List Int}(hl:data.length≤140737488355328)(hl2:expl.length≤140737488355328)(hc:(cold.length:Int)=n) :
  aF (vT aj) (J_ aj data expl next n s g w d de cold modes) (gD (n,s,g,w,d,de,cold,modes) (data,expl,next)):=by
 unfold J_ gD
 simp only[fL]
 by_cases h1:(data.length:Int)=n
 ·refine(ah (bO h1)).2 ?_
  by_cases h2:(expl.length:Int)=n
  ·refine(ah (bO h2)).2 ?_
   by_cases h3:(next.length:Int)=modes.length
   ·refine(ah (bO h3)).2 (ax ?_ (ME hl (NJ hl2 (by omega) expl.length 0 rfl (by omega)) data.length 0 rfl (by omega)))
    rw[beq_iff_eq.2 h1,beq_iff_eq.2 h2,beq_iff_eq.2 (show next.length=modes.length by omega),oF (show cold.length=data.length by omega) (show expl.length=data.length by omega)];rfl
   ·refine(ai (dd h3)).2 (ax ?_ (.ret _))
    rw[beq_eq_false_iff_ne.2 (show next.length≠modes.length by omega),Bool.and_false,Bool.false_and]
  ·refine(ai (dd h2)).2 (ax ?_ (.ret _))
   rw[beq_eq_false_iff_ne.2 h2,Bool.and_false];rfl
 ·refine(ai (dd h1)).2 (ax ?_ (.ret _))
  rw[beq_eq_false_iff_ne.2 h1];rfl
def BO:(Mode×au)→Bool:=fun(x,m)=>gD m x
def Aw:(Mode×au)→Bool:=fun(_,m)=>(m.2.2.2.2.2.2.1.length:Int)==m.1
def R_:aC:=⟨[bg,bM], [.bool],Aw,BO⟩
theorem R3:Sd 148 R_:=aK ap cm true 48 [⟨148,4, [[2,3,5]]⟩,⟨148,9, [[2,3,6]]⟩] [] (fun A ((xData,xExplicit,xNext),mNodes,mSlot,mGap,mWindow,mDrift,mDelay,mCold,mModes)=>J_ A xData xExplicit xNext mNodes mSlot mGap mWindow mDrift mDelay mCold mModes) vT OG (fc Tryz.func148 fz) sz (fun A y=>match y with |.c0 p a0=>⟨44,by kernel_rfl,by kernel_rfl⟩|.c1 p b0=>⟨50,by kernel_rfl,by kernel_rfl⟩) fun(((xData,xExplicit,xNext),mNodes,mSlot,mGap,mWindow,mDrift,mDelay,mCold,mModes):Mode×au) hp h=>by
 show aF (vT aj) (J_ aj xData xExplicit xNext mNodes mSlot mGap mWindow mDrift mDelay mCold mModes) (BO ((xData,xExplicit,xNext),mNodes,mSlot,mGap,mWindow,mDrift,mDelay,mCold,mModes))
 exact P7 h.1.1.1 h.1.2.1.1 (by simpa [Aw] using hp)
structure P8 where
 (a0 a1 a2 a3 a4 a5 a6 a7:Int) (a8:List Bool) (a9:List Mode)
structure NQ where
 (b1 b3 b4 b5 b6 b7 b8:Int) (b9:List Bool) (b10:List Mode) (b11:List Int) (b12 b13:List Bool)
inductive Kv where
 | c0 (p:P8)
 | c1 (p:NQ) (b0:Int) (b2:Int)
noncomputable def OT:Kv→fJ
 | .c0 p=>⟨[⟨138,66,(en [(1,.ptr 0 0),(3,vi p.a0),(4,vi p.a1)]),[.inLoop (cw Tryz.f138 [1,1,0,1,0,0]),.inBlock 0,.code (cw Tryz.f138 [1,1,1])],[],none⟩],[.flat false [vi p.a2,vi p.a3,vi p.a4,vi p.a5,vi p.a6,vi p.a7,.sl .bool p.a8,.sl bg p.a9],.dead]⟩
 | .c1 p b0 b2=>⟨[⟨138,66,(en [(1,.ptr 0 0),(3,vi b0),(4,vi p.b1),(5,.ptr 1 0),(6,vi b2)]),[.inLoop (cw Tryz.f138 [1,1,0,1,0,0,1,0,0,1,1,0,0]),.inBlock 2,.inBlock 1,.code (cw Tryz.f138 [1,1,0,1,0,0,1,1]),.inLoop (cw Tryz.f138 [1,1,0,1,0,0]),.inBlock 0,.code (cw Tryz.f138 [1,1,1])],[],none⟩],[.flat false [vi p.b3,vi p.b4,vi p.b5,vi p.b6,vi p.b7,vi p.b8,.sl .bool p.b9,.sl bg p.b10],.flat false [.sl yI p.b11,.sl .bool p.b12,.sl .bool p.b13],.dead]⟩
def O2(A:a_)(mNodes:Int)(mSlot:Int)(mGap:Int)(mWindow:Int)(mDrift:Int)(mDelay:Int)(mCold:List Bool)(mModes:List Mode):LT Int Kv:=.need (A.k (@tt (Int×Int)) (1,0)) (.need (A.k (@tt Int) (A.k tV (1,0))) (.more (.c0 ⟨(A.k CZ (A.k tV (1,0))),0,mNodes,mSlot,mGap,mWindow,mDrift,mDelay,mCold,mModes⟩)))
def yN(A:a_):Kv→LT Int Kv
 | .c0 p=>.br (A.c .lss p.a1 (A.l p.a9)) (.need (A.and (A.c .leq 0 p.a1) (A.c .lss p.a1 (A.l p.a9))) (.more (.c1 ⟨p.a1,p.a2,p.a3,p.a4,p.a5,p.a6,p.a7,p.a8,p.a9,(A.n bg p.a9 p.a1:Mode).1,(A.n bg p.a9 p.a1:Mode).2.1,(A.n bg p.a9 p.a1:Mode).2.2⟩ p.a0 0))) (.ret p.a0)
 | .c1 p b0 b2=>.br (A.c .lss b2 (A.l p.b11)) (.br (A.c .lss b2 (A.l p.b12)) (.br (A.c .lss b2 p.b3) (.need (A.and (A.c .leq 0 b2) (A.c .lss b2 (A.l p.b12))) (.need (A.and (A.c .leq 0 b2) (A.c .lss b2 (A.l p.b11))) (.need (A.k (@tt (Bool×Int)) ((A.n .bool p.b12 b2:Bool),(A.n yI p.b11 b2:Int))) (.need (A.and (A.c .leq 0 b2) (A.c .lss b2 (A.l p.b11))) (.need (A.k (@tt (Int×Int)) ((A.k uJ ((A.n .bool p.b12 b2:Bool),(A.n yI p.b11 b2:Int))),(A.n yI p.b11 b2:Int))) (.br (A.c .gtr (A.k tV ((A.k uJ ((A.n .bool p.b12 b2:Bool),(A.n yI p.b11 b2:Int))),(A.n yI p.b11 b2:Int))) 0) (.need (A.k (@tt Int) (A.k tV ((A.k uJ ((A.n .bool p.b12 b2:Bool),(A.n yI p.b11 b2:Int))),(A.n yI p.b11 b2:Int)))) (.more (.c1 p (A.mx b0 (A.k CZ (A.k tV ((A.k uJ ((A.n .bool p.b12 b2:Bool),(A.n yI p.b11 b2:Int))),(A.n yI p.b11 b2:Int))))) (A.b .add .i64 b2 1)))) (.more (.c1 p b0 (A.b .add .i64 b2 1))))))))) (.more (.c0 ⟨b0,(A.b .add .i64 p.b1 1),p.b3,p.b4,p.b5,p.b6,p.b7,p.b8,p.b9,p.b10⟩))) (.more (.c0 ⟨b0,(A.b .add .i64 p.b1 1),p.b3,p.b4,p.b5,p.b6,p.b7,p.b8,p.b9,p.b10⟩))) (.more (.c0 ⟨b0,(A.b .add .i64 p.b1 1),p.b3,p.b4,p.b5,p.b6,p.b7,p.b8,p.b9,p.b10⟩))
theorem Ix:uJ=ja:=rfl
theorem zt:CZ=ov:=rfl
theorem Cg:tV=lY:=funext fun⟨k,d⟩=>by rw[uT.1,uT.2]
theorem W9{n s g w d de:Int}{cold expl next:List Bool}{modes:List Mode}{data:List Int}{k k1:Int}{F:Int→Int}(hl:data.length≤140737488355328)(hk:aj.b .add .i64 k 1=k1)(hnext:∀b,aF (yN aj) (.more (.c0 ⟨b,k1,n,s,g,w,d,de,cold,modes⟩)) (F b)) :
  ∀(j i:Nat) (b:Int),data.length-i=j→i≤data.length→aF (yN aj) (.more (.c1 ⟨k,n,s,g,w,d,de,cold,modes,data,expl,next⟩ b (i:Int))) (F ((((data.zip expl).take n.toNat).drop i).foldl t_ b)):=by
 intro j
 induction j with
 | zero=>
   intro i b hj hi
   have:i=data.length:=by omega
   subst this
   rw[al,yN]
   refine(ah (by rw[fL,aL];simp)).2 ?_
   rw[qQ (.inr (.inr (Nat.le_refl _))),hk]
   exact hnext b
 | succ j ih=>
   intro i b hj hi
   have hi':i<data.length:=by omega
   rw[al,yN]
   refine(ai (by rw[fL,aL];simp;omega)).2 ?_
   have hm:=fun b=>ih (i+1) b (by omega) (by omega)
   by_cases h2:i<expl.length
   ·refine(ai (by rw[fL,aL];simpa using h2)).2 ?_
    by_cases h3:(i:Int)<n
    ·refine(ai (by rw[B6];simpa using h3)).2 (af.2 ⟨aO (show i<expl.length from h2),af.2 ⟨aO hi',af.2 ⟨rfl,af.2 ⟨aO hi',af.2 ⟨rfl,?_⟩⟩⟩⟩⟩)
     rw[E6 hi' h2 h3,List.foldl_cons,Iv,←KO hi',←p9 h2,cn (i:=i) (by omega),Ix,Cg,zt]
     cases hb:aj.c .gtr (aj.k lY ((aj.k ja ((aj.n .bool expl (i:Int):Bool),(aj.n (.int .i64) data (i:Int):Int))),(aj.n (.int .i64) data (i:Int):Int))) 0
     ·exact(ah rfl).2 (hm _)
     ·exact(ai rfl).2 (af.2 ⟨rfl,hm _⟩)
    ·refine(ah (by rw[B6];simpa using h3)).2 ?_
     rw[qQ (.inr (.inl (by omega))),hk];exact hnext b
   ·refine(ah (by rw[fL,aL];simpa using h2)).2 ?_
    rw[qQ (.inl (by omega)),hk];exact hnext b
theorem UG{n s g w d de:Int}{cold:List Bool}{modes:List Mode}(hl:modes.length≤140737488355328)(hd:∀x∈modes,x.1.length≤140737488355328) :
  ∀(j k:Nat) (b:Int),modes.length-k=j→k≤modes.length→aF (yN aj) (.more (.c0 ⟨b,(k:Int),n,s,g,w,d,de,cold,modes⟩)) ((modes.drop k).foldl (qo n.toNat) b):=by
 intro j
 induction j with
 | zero=>
   intro k b hj hk
   have:k=modes.length:=by omega
   subst this
   rw[al,yN]
   refine(ah (by rw[fL,aL];simp)).2 ?_
   rw[List.drop_length]
   exact .ret _
 | succ j ih=>
   intro k b hj hk
   have hk':k<modes.length:=by omega
   rw[al,yN]
   refine(ai (by rw[fL,aL];simp;omega)).2 (af.2 ⟨aO hk',?_⟩)
   rw[show(aj.n bg modes (k:Int):Mode)=modes[k] from getD_in hk' _,List.drop_eq_getElem_cons hk',List.foldl_cons]
   exact W9 (F:=fun b=>(modes.drop (k+1)).foldl (qo n.toNat) b) (hd _ (List.getElem_mem hk')) (cn (by omega)) (fun b=>ih (k+1) b (by omega) (by omega)) modes[k].1.length 0 b rfl (by omega)
theorem VL{n s g w d de:Int}{cold:List Bool}{modes:List Mode}(h:Ty.has bM (n,s,g,w,d,de,cold,modes)):aF (yN aj) (O2 aj n s g w d de cold modes) (fy (n,s,g,w,d,de,cold,modes)):=by
 unfold O2
 rw[Cg,zt]
 exact af.2 ⟨rfl,af.2 ⟨rfl,UG (jI h).2.2.1 (fun x hx=>((jI h).2.2.2 x hx).1) modes.length 0 _ rfl (by omega)⟩⟩
def r8:au→Int:=fy
def UA:aC:=⟨[bM], [yI],(@tt au),r8⟩
theorem Lu:Sd 138 UA:=aK ap cm true 24 [⟨138,3, [[1,3,4]]⟩,⟨138,7, [[1,3,4,5,6]]⟩] [] (fun A (mNodes,mSlot,mGap,mWindow,mDrift,mDelay,mCold,mModes)=>O2 A mNodes mSlot mGap mWindow mDrift mDelay mCold mModes) yN OT (fc Tryz.func138 fz) (sc Q5 (sc VM (sc L0 sz))) (fun A y=>match y with |.c0 p=>⟨35,by kernel_rfl,by kernel_rfl⟩|.c1 p b0 b2=>⟨72,by kernel_rfl,by kernel_rfl⟩) fun(mNodes,mSlot,mGap,mWindow,mDrift,mDelay,mCold,mModes) hp h=>VL h
structure MY where
 (a1 a2 a3 a4 a5 a6:Int) (a7:List Bool) (a8:List Mode)
inductive Kl where
 | c0 (p:MY) (a0:Int)
noncomputable def MX:Kl→fJ
 | .c0 p a0=>⟨[⟨64,120,(en [(1,.ptr 0 0),(3,vi a0)]),[.inLoop (cw Tryz.f64 [1,1,0,1,0,0]),.inBlock 0,.code (cw Tryz.f64 [1,1,1])],[],none⟩],[.flat false [vi p.a1,vi p.a2,vi p.a3,vi p.a4,vi p.a5,vi p.a6,.sl .bool p.a7,.sl bg p.a8],.dead]⟩
def M1(A:a_)(mNodes:Int)(mSlot:Int)(mGap:Int)(mWindow:Int)(mDrift:Int)(mDelay:Int)(mCold:List Bool)(mModes:List Mode):LT Int Kl:=.br (A.c .lss mNodes 4) (.ret 70) (.br (A.c .gtr mNodes 8) (.ret 70) (.br (A.c .lss (A.l mModes) 1) (.ret 70) (.br (A.c .gtr (A.l mModes) 4) (.ret 70) (.br (A.c .neq (A.l mCold) mNodes) (.ret 70) (.need (A.k (@tt (List Bool)) mCold) (.br (A.c .lss (A.k zD mCold) 2) (.ret 70) (.more (.c0 ⟨mNodes,mSlot,mGap,mWindow,mDrift,mDelay,mCold,mModes⟩ 0))))))))
def Dd(A:a_):Kl→LT Int Kl
 | .c0 p a0=>.br (A.c .lss a0 (A.l p.a8)) (.need (A.and (A.c .leq 0 a0) (A.c .lss a0 (A.l p.a8))) (.need (A.k Aw ((A.n bg p.a8 a0:Mode),p.a1,p.a2,p.a3,p.a4,p.a5,p.a6,p.a7,p.a8)) (.br (A.not (A.k BO ((A.n bg p.a8 a0:Mode),p.a1,p.a2,p.a3,p.a4,p.a5,p.a6,p.a7,p.a8))) (.ret 70) (.more (.c0 p (A.b .add .i64 a0 1)))))) (.br (A.c .lss p.a5 0) (.ret 70) (.br (A.c .gtr p.a5 64) (.ret 70) (.br (A.c .lss p.a6 0) (.ret 70) (.br (A.c .gtr p.a6 64) (.ret 70) (.br (A.c .lss p.a4 (A.b .add .i64 (A.b .mul .i64 (A.b .mul .i64 16 p.a1) p.a5) 16)) (.ret 70) (.br (A.c .gtr p.a4 1048576) (.ret 70) (.br (A.c .lss p.a3 (A.b .add .i64 (A.b .add .i64 (A.b .mul .i64 2 p.a4) (A.b .mul .i64 2 p.a6)) 4)) (.ret 70) (.br (A.c .gtr p.a3 1048576) (.ret 70) (.need (A.k (@tt au) (p.a1,p.a2,p.a3,p.a4,p.a5,p.a6,p.a7,p.a8)) (.br (A.c .lss p.a2 (A.b .add .i64 (A.b .mul .i64 2 p.a3) (A.k r8 (p.a1,p.a2,p.a3,p.a4,p.a5,p.a6,p.a7,p.a8)))) (.ret 70) (.br (A.c .gtr p.a2 16777216) (.ret 70) (.ret 0))))))))))))
theorem KI{n s g w d de:Int}{cold:List Bool}{modes:List Mode}{R:Int}(hn:4≤n∧n≤8)(hR:R=bif iM n s g w d de (fy (n,s,g,w,d,de,cold,modes)) then 0 else 70) :
  aF (Dd aj) (.br (aj.c .lss d 0) (.ret 70) (.br (aj.c .gtr d 64) (.ret 70) (.br (aj.c .lss de 0) (.ret 70) (.br (aj.c .gtr de 64) (.ret 70) (.br (aj.c .lss w (aj.b .add .i64 (aj.b .mul .i64 (aj.b .mul .i64 16 n) d) 16)) (.ret 70) (.br (aj.c .gtr w 1048576) (.ret 70) (.br (aj.c .lss g (aj.b .add .i64 (aj.b .add .i64 (aj.b .mul .i64 2 w) (aj.b .mul .i64 2 de)) 4)) (.ret 70) (.br (aj.c .gtr g 1048576) (.ret 70) (.need (aj.k (@tt au) (n,s,g,w,d,de,cold,modes)) (.br (aj.c .lss s (aj.b .add .i64 (aj.b .mul .i64 2 g) (aj.k r8 (n,s,g,w,d,de,cold,modes)))) (.ret 70) (.br (aj.c .gtr s 16777216) (.ret 70) (.ret 0)))))))))))) R:=by
 have hm:=rh (m:=(n,s,g,w,d,de,cold,modes))
 have no:∀{p:Prop} [Decidable p],¬p→decide p=false:=fun h=>by simpa using h
 rw[hR]
 refine aB (p:=d<0) rfl (fun h=>ax ?_ (.ret _)) fun h1=>aB (p:=64<d) rfl (fun h=>ax ?_ (.ret _)) fun h2=>aB (p:=de<0) rfl (fun h=>ax ?_ (.ret _)) fun h3=>aB (p:=64<de) rfl (fun h=>ax ?_ (.ret _)) fun h4=>?_
 ·rw[iM,no (by omega)];rfl
 ·rw[iM,no (by omega)];rfl
 ·rw[iM,no (by omega)];rfl
 ·rw[iM,no (by omega)];rfl
 have:=nM (n:=n) (d:=d) hn (by omega)
 rw[He hn (by omega)]
 refine aB (p:=w<16*n*d+16) rfl (fun h=>ax ?_ (.ret _)) fun h5=>aB (p:=1048576<w) rfl (fun h=>ax ?_ (.ret _)) fun h6=>?_
 ·rw[iM,no (by omega)];rfl
 ·rw[iM,no (by omega)];rfl
 rw[E0 (by omega) (by omega)]
 refine aB (p:=g<2*w+2*de+4) rfl (fun h=>ax ?_ (.ret _)) fun h7=>aB (p:=1048576<g) rfl (fun h=>ax ?_ (.ret _)) fun h8=>af.2 ⟨rfl,?_⟩
 ·rw[iM,no (by omega)];rfl
 ·rw[iM,no (by omega)];rfl
 rw[show aj.k r8 (n,s,g,w,d,de,cold,modes)=fy (n,s,g,w,d,de,cold,modes) from rfl,Cj (by omega) hm]
 refine aB (p:=s<2*g+fy (n,s,g,w,d,de,cold,modes)) rfl (fun h=>ax ?_ (.ret _)) fun h9=>aB (p:=16777216<s) rfl (fun h=>ax ?_ (.ret _)) fun h10=>ax ?_ (.ret _)
 ·rw[iM,no (by omega)];rfl
 ·rw[iM,no (by omega)];rfl
 ·rw[iM,decide_eq_true (by omega)];rfl
theorem KE{n s g w d de:Int}{cold:List Bool}{modes:List Mode}(hl:modes.length≤140737488355328)(hc:(cold.length:Int)=n)(hn:4≤n∧n≤8):∀(j i:Nat),modes.length-i=j→i≤modes.length→
  aF (Dd aj) (.more (.c0 ⟨n,s,g,w,d,de,cold,modes⟩ (i:Int))) (bif (modes.drop i).all (gD (n,s,g,w,d,de,cold,modes))&&iM n s g w d de (fy (n,s,g,w,d,de,cold,modes)) then 0 else 70):=by
 intro j
 induction j with
 | zero=>
   intro i hj hi
   have:i=modes.length:=by omega
   subst this
   rw[al,Dd]
   refine(ah (by rw[fL,aL];simp)).2 (KI hn ?_)
   rw[List.drop_length];rfl
 | succ j ih=>
   intro i hj hi
   have hi':i<modes.length:=by omega
   rw[al,Dd]
   refine(ai (by rw[fL,aL];simp;omega)).2 (af.2 ⟨aO hi',?_⟩)
   have e:(aj.n bg modes (i:Int):Mode)=modes[i]:=getD_in hi' _
   rw[e,List.drop_eq_getElem_cons hi',List.all_cons]
   refine af.2 ⟨by show((cold.length:Int)==n)=true;simpa using hc,?_⟩
   have hf:aj.k BO (modes[i],n,s,g,w,d,de,cold,modes)=gD (n,s,g,w,d,de,cold,modes) modes[i]:=rfl
   rw[hf]
   cases gD (n,s,g,w,d,de,cold,modes) modes[i]
   ·exact(ai rfl).2 (.ret _)
   ·refine(ah rfl).2 ?_
    rw[cn (i:=i) (by omega),Bool.true_and]
    exact ih (i+1) (by omega) (by omega)
theorem Lc{n s g w d de:Int}{cold:List Bool}{modes:List Mode}(h:Ty.has bM (n,s,g,w,d,de,cold,modes)):aF (Dd aj) (M1 aj n s g w d de cold modes) (gj (n,s,g,w,d,de,cold,modes)):=by
 unfold M1 gj dY countB
 simp only[js,fL]
 refine aB (p:=n<4) rfl (fun h=>ax ?_ (.ret _)) fun h1=>aB (p:=8<n) rfl (fun h=>ax ?_ (.ret _)) fun h2=>aB (p:=(modes.length:Int)<1) rfl (fun h=>ax ?_ (.ret _)) fun h3=>aB (p:=4<(modes.length:Int)) rfl (fun h=>ax ?_ (.ret _)) fun h4=>?_
 ·rw[decide_eq_false (show ¬4≤n by omega)];rfl
 ·rw[decide_eq_false (show ¬n≤8 by omega),Bool.and_false];rfl
 ·rw[decide_eq_false (show ¬(1:Int)≤modes.length by omega),Bool.false_and,Bool.and_false];rfl
 ·rw[decide_eq_false (show ¬(modes.length:Int)≤4 by omega),Bool.and_false,Bool.and_false];rfl
 rw[decide_eq_true (show 4≤n by omega),decide_eq_true (show n≤8 by omega),decide_eq_true (show(1:Int)≤modes.length by omega),decide_eq_true (show(modes.length:Int)≤4 by omega)]
 by_cases h5:(cold.length:Int)=n
 ·refine(ah (bO h5)).2 (af.2 ⟨rfl,?_⟩)
  rw[show aj.k zD cold=(cold.count true:Int) from rfl,beq_iff_eq.2 h5]
  refine aB (p:=(cold.count true:Int)<2) rfl (fun h=>ax ?_ (.ret _)) fun h6=>ax ?_ (KE (jI h).2.2.1 h5 (by omega) modes.length 0 rfl (by omega))
  ·rw[decide_eq_false (show ¬(2:Int)≤cold.count true by omega)];rfl
  ·rw[decide_eq_true (show(2:Int)≤cold.count true by omega)];rfl
 ·refine(ai (dd h5)).2 (ax ?_ (.ret _))
  rw[beq_eq_false_iff_ne.2 h5];rfl
def lQ:au→Int:=gj
def Rc:aC:=⟨[bM], [yI],(@tt au),lQ⟩
theorem CV:Sd 64 Rc:=aK ap cm true 58 [⟨64,4, [[1,3]]⟩] [] (fun A (mNodes,mSlot,mGap,mWindow,mDrift,mDelay,mCold,mModes)=>M1 A mNodes mSlot mGap mWindow mDrift mDelay mCold mModes) Dd MX (fc Tryz.func64 fz) (sc Lu (sc VZ (sc R3 sz))) (fun A y=>match y with |.c0 p a0=>⟨100,by kernel_rfl,by kernel_rfl⟩) fun(mNodes,mSlot,mGap,mWindow,mDrift,mDelay,mCold,mModes) hp h=>Lc h
end Go.Ev.M
