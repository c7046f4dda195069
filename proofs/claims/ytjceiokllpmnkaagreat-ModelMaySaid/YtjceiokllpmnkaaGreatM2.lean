/-
  PROVED: what functions of the program compute, part 2. Conditions: none.
-/
import Derived.Test.YtjceiokllpmnkaaGreatM1
import Derived.Shelf.Bytes.SlClone
set_option linter.unusedVariables false
set_option linter.unusedSimpArgs false
namespace Go.Ev.M
open Go.Proofs
set_option maxRecDepth 100000
open Go.Ev.Pl
noncomputable section
abbrev kj:Ty:=(.struct [yI,yI,yI,yI,yI])
abbrev cv:Type:=Int×Int×Int×Int×Int
abbrev kB:Ty:=(.struct [yI,yI,yI,yI,yI,yI,yI])
abbrev lN:Type:=Int×Int×Int×Int×Int×Int×Int
abbrev adi:Ty:=(.struct [yI,yB])
abbrev Bits:Type:=Int×List Int
abbrev w_:Ty:=(.struct [yI,yI,kj,yI,yB])
abbrev mR:Type:=Int×Int×cv×Int×List Int
abbrev aJ:Ty:=(.struct [yI,yI,adi])
abbrev Seen:Type:=Int×Int×Bits
abbrev Fa:Ty:=(.struct [yI,yI,yI,w_,yI])
abbrev lu:Type:=Int×Int×Int×mR×Int
abbrev b_:Ty:=(.struct [BW,(.slice .bool),(.slice .bool)])
abbrev Mode:Type:=List Int×List Bool×List Bool
abbrev aP:Ty:=(.struct [yI,yI,yI,yI,yI,yI,(.slice .bool),(.slice b_)])
abbrev ao:Type:=Int×Int×Int×Int×Int×Int×List Bool×List Mode
abbrev d_:Ty:=(.struct [yB,yI])
abbrev dx:Type:=List Int×Int
abbrev lf:Ty:=(.struct [yI,yB,(.slice d_),yI,yI])
abbrev cJ:Type:=Int×List Int×List dx×Int×Int
abbrev aF:Ty:=(.struct [yI,yI,kj,kB,yI,.bool,yI,lf])
abbrev Node:Type:=Int×Int×cv×lN×Int×Bool×Int×cJ
abbrev bC:Ty:=(.struct [yI,yI,yI,yI,yI,yB])
abbrev bg:Type:=Int×Int×Int×Int×Int×List Int
def RO(A:aK)(n:Int)(least:Int)(most:Int):LT Bool Empty:=.br (A.c .geq n least) (.ret (A.c .leq n most)) (.ret false)
def fB:(Int×Int×Int)→Bool:=fun(n,least,most)=>(RO ah n least most).val (Ty.bl [.bool])
def ago:aC:=⟨[yI,yI,yI], [.bool],(@tt (Int×Int×Int)),fB⟩
theorem EF:Sd 93 ago:=aL ar bU true 22 [] (fun A (n,least,most)=>RO A n least most) (fc Tryz.func93 fz) sz (fun((n,least,most):Int×Int×Int) hp h=>by
 show(RO ah n least most).pre=true
 simp[RO,LT.pre,au,cm])
theorem mh{x a b:Int}:fB (x,a,b)=(decide (a≤x)&&decide (x≤b)):=by
 simp only[fB,RO,LT.val,aN,ap]
 cases decide (a≤x)<;>rfl
theorem aeM{α:Type}{x y:α}:(bif true then x else y)=x:=rfl
theorem uR{l:List Bool}{i:Nat}(h:i<l.length):(ah.n .bool l (i:Int):Bool)=l[i]:=getD_in h _
theorem Se{l:List Int}{i:Nat}(h:i<l.length):(ah.n (.int .i64) l (i:Int):Int)=l[i]:=getD_in h _
theorem bL{α:Type}{l:List α}:ah.l l=(l.length:Int):=rfl
theorem mr{n s g w d de:Int}{aW:List Bool}{modes:List Mode}(h:Ty.has aP (n,s,g,w,d,de,aW,modes)):(-9223372036854775808≤n∧n≤9223372036854775807)∧aW.length≤140737488355328∧modes.length≤140737488355328∧∀x∈modes,x.1.length≤140737488355328∧x.2.1.length≤140737488355328∧∀d∈x.1,IntKind.i64.has d:=by
 obtain⟨h1,_,_,_,_,_,h2,h3⟩:=h
 exact⟨h1,h2.1,h3.1,fun x hx=>⟨(h3.2 x hx).1.1,(h3.2 x hx).2.1.1,(h3.2 x hx).1.2⟩⟩
structure Xl where
 (a1:List Bool) (a2 a4 a5 a6 a7 a8 a9:Int) (cX:List Bool) (dN:List Mode)
inductive PQ where
 | c0 (p:Xl) (a0:Int) (a3:Int)
noncomputable def WJ:PQ→eF
 | .c0 p a0 a3=>⟨[⟨89,38,(en [(1,.ptr 0 0),(3,vi a0),(7,.sl .bool p.a1),(8,vi p.a2),(9,vi a3)]),[.inLoop (cw Tryz.f89 [1,1,0,1,0,0]),.inBlock 0,.code (cw Tryz.f89 [1,1,1])],[],none⟩],[.flat false [vi p.a4,vi p.a5,vi p.a6,vi p.a7,vi p.a8,vi p.a9,.sl .bool p.cX,.sl b_ p.dN],.dead]⟩
def t154(A:aK)(mNodes:Int)(mSlot:Int)(mGap:Int)(mWindow:Int)(mDrift:Int)(mDelay:Int)(mCold:List Bool)(mModes:List Mode):LT Bool PQ:=.more (.c0 ⟨mCold,(A.l mCold),mNodes,mSlot,mGap,mWindow,mDrift,mDelay,mCold,mModes⟩ 0 0)
def Nw(A:aK):PQ→LT Bool PQ
 | .c0 p a0 a3=>.br (A.c .lss a3 p.a2) (.need (A.and (A.c .leq 0 a3) (A.c .lss a3 (A.l p.a1))) (.br (A.n .bool p.a1 a3:Bool) (.more (.c0 p (A.b .add .i64 a0 1) (A.b .add .i64 a3 1))) (.more (.c0 p a0 (A.b .add .i64 a3 1))))) (.need (A.k (@tt (Int×Int×Int)) (p.a4,4,8)) (.br (A.k fB (p.a4,4,8)) (.need (A.k (@tt (Int×Int×Int)) ((A.l p.dN),1,4)) (.br (A.k fB ((A.l p.dN),1,4)) (.br (A.c .eql (A.l p.cX) p.a4) (.ret (A.c .geq a0 2)) (.ret false)) (.ret false))) (.ret false)))
def countB(m:ao):Bool:=fB (m.1,4,8)&&fB ((m.2.2.2.2.2.2.2.length:Int),1,4)&&((m.2.2.2.2.2.2.1.length:Int)==m.1)&&decide (2≤(m.2.2.2.2.2.2.1.count true:Int))
theorem aaV{n s g w d de:Int}{aW:List Bool}{modes:List Mode}(hl:aW.length≤140737488355328):∀(j i c:Nat),aW.length-i=j→i≤aW.length→c≤i→
  aB (Nw ah) (.more (.c0 ⟨aW,(aW.length:Int),n,s,g,w,d,de,aW,modes⟩ (c:Int) (i:Int))) (fB (n,4,8)&&fB ((modes.length:Int),1,4)&&((aW.length:Int)==n)&&decide (2≤((c+(aW.drop i).count true:Nat):Int))):=by
 intro j
 induction j with
 | zero=>
   intro i c hj hi hc
   have:i=aW.length:=by omega
   subst this
   rw[ak,Nw]
   refine(ai (by rw[aI];simp)).2 ?_
   rw[List.drop_length]
   simp only[af,au,cm,true_and]
   cases fB (n,4,8)
   ·exact(ai rfl).2 (.ret _)
   refine(aj rfl).2 ?_
   simp only[af,au,cm,true_and,bL]
   cases fB ((modes.length:Int),1,4)
   ·exact(ai rfl).2 (.ret _)
   refine(aj rfl).2 ?_
   rw[ax]
   cases ((aW.length:Int)==n)
   ·exact(ai rfl).2 (.ret _)
   refine(aj rfl).2 ?_
   rw[aN]
   exact .ret _
 | succ j ih=>
   intro i c hj hi hc
   have hi':i<aW.length:=by omega
   rw[ak,Nw]
   refine(aj (by rw[aI];simp;omega)).2 (af.2 ⟨aS hi',?_⟩)
   rw[List.drop_eq_getElem_cons hi',List.count_cons]
   cases hb:aW[i]
   ·refine(ai ((uR hi').trans hb)).2 ?_
    refine dJ (congrArg (fun z=>LT.more (PQ.c0 _ _ z)) (cu (by omega))) (ay ?_ (ih (i+1) c (by omega) (by omega) (by omega)))
    simp
   ·refine(aj ((uR hi').trans hb)).2 ?_
    rw[cu (i:=c) (by omega),cu (i:=i) (by omega)]
    refine ay ?_ (ih (i+1) (c+1) (by omega) (by omega) (by omega))
    simp[Nat.add_assoc,Nat.add_comm 1]
theorem aaa{n s g w d de:Int}{aW:List Bool}{modes:List Mode}(h:Ty.has aP (n,s,g,w,d,de,aW,modes)):aB (Nw ah) (t154 ah n s g w d de aW modes) (countB (n,s,g,w,d,de,aW,modes)):=
 ay (by simp[countB]) (aaV (mr h).2.1 aW.length 0 0 rfl (by omega) (by omega))
def Mz:ao→Bool:=countB
def ae5:aC:=⟨[aP], [.bool],(@tt ao),Mz⟩
theorem abA:Sd 89 ae5:=aU ar bU true 25 [⟨89,3, [[1,3,7,8,9]]⟩] [] (fun A (mNodes,mSlot,mGap,mWindow,mDrift,mDelay,mCold,mModes)=>t154 A mNodes mSlot mGap mWindow mDrift mDelay mCold mModes) Nw WJ (fc Tryz.func89 fz) (sc EF sz) (fun A y=>match y with |.c0 p a0 a3=>⟨38,by kernel_rfl,by kernel_rfl⟩) fun(mNodes,mSlot,mGap,mWindow,mDrift,mDelay,mCold,mModes) hp h=>aaa h
structure Zu where
 (a0:List Int) (a1 a3 a4 a5 a6 a7 a8:Int) (a9:List Bool) (cX:List Mode) (dN:List Int) (a12 kp:List Bool)
inductive Lg where
 | c0 (p:Zu) (a2:Int)
noncomputable def Yb:Lg→eF
 | .c0 p a2=>⟨[⟨92,57,(en [(2,.ptr 0 0),(3,.ptr 1 0),(31,.sl yI p.a0),(32,vi p.a1),(33,vi a2)]),[.inLoop (cw Tryz.f92 [1,1,0,1,0,0]),.inBlock 0,.code (cw Tryz.f92 [1,1,1])],[],none⟩],[.flat false [vi p.a3,vi p.a4,vi p.a5,vi p.a6,vi p.a7,vi p.a8,.sl .bool p.a9,.sl b_ p.cX],.flat false [.sl yI p.dN,.sl .bool p.a12,.sl .bool p.kp],.dead]⟩
def t157(A:aK)(mNodes:Int)(mSlot:Int)(mGap:Int)(mWindow:Int)(mDrift:Int)(mDelay:Int)(mCold:List Bool)(mModes:List Mode)(xData:List Int)(xExplicit:List Bool)(xNext:List Bool):LT Bool Lg:=.br (A.c .neq (A.l xData) mNodes) (.ret false) (.br (A.c .neq (A.l xExplicit) mNodes) (.ret false) (.br (A.c .neq (A.l xNext) (A.l mModes)) (.ret false) (.more (.c0 ⟨xData,(A.l xData),mNodes,mSlot,mGap,mWindow,mDrift,mDelay,mCold,mModes,xData,xExplicit,xNext⟩ 0))))
def Mf(A:aK):Lg→LT Bool Lg
 | .c0 p a2=>.br (A.c .lss a2 p.a1) (.need (A.and (A.c .leq 0 a2) (A.c .lss a2 (A.l p.a0))) (.need (A.k (@tt (Int×Int×Int)) ((A.n yI p.a0 a2:Int),0,8)) (.br (A.not (A.k fB ((A.n yI p.a0 a2:Int),0,8))) (.ret false) (.need (A.and (A.c .leq 0 a2) (A.c .lss a2 (A.l p.a9))) (.br (A.n .bool p.a9 a2:Bool) (.need (A.and (A.c .leq 0 a2) (A.c .lss a2 (A.l p.a12))) (.br (A.not (A.n .bool p.a12 a2:Bool)) (.ret false) (.more (.c0 p (A.b .add .i64 a2 1))))) (.more (.c0 p (A.b .add .i64 a2 1)))))))) (.ret true)
def qU:List Int→List Bool→List Bool→Bool
 | d::ds,c::cs,e::es=>(decide (0≤d)&&decide (d≤8))&&(!c||e)&&qU ds cs es
 | _,_,_=>true
def jB(m:ao)(x:Mode):Bool:=((x.1.length:Int)==m.1)&&((x.2.1.length:Int)==m.1)&&(x.2.2.length==m.2.2.2.2.2.2.2.length)&&qU x.1 m.2.2.2.2.2.2.1 x.2.1
theorem afJ{n s g w d de:Int}{aW expl next:List Bool}{modes:List Mode}{data:List Int}(hl:data.length≤140737488355328)(hc:aW.length=data.length)(he:expl.length=data.length):∀(j i:Nat),data.length-i=j→i≤data.length→
  aB (Mf ah) (.more (.c0 ⟨data,(data.length:Int),n,s,g,w,d,de,aW,modes,data,expl,next⟩ (i:Int))) (qU (data.drop i) (aW.drop i) (expl.drop i)):=by
 intro j
 induction j with
 | zero=>
   intro i hj hi
   have:i=data.length:=by omega
   subst this
   rw[ak,Mf]
   refine(ai (by rw[aI];simp)).2 ?_
   rw[List.drop_length]
   exact .ret _
 | succ j ih=>
   intro i hj hi
   have hi':i<data.length:=by omega
   rw[ak,Mf]
   refine(aj (by rw[aI];simp;omega)).2 (af.2 ⟨aS hi',af.2 ⟨rfl,?_⟩⟩)
   rw[List.drop_eq_getElem_cons hi',List.drop_eq_getElem_cons (show i<aW.length by omega),List.drop_eq_getElem_cons (show i<expl.length by omega),qU]
   have hm:=ih (i+1) (by omega) (by omega)
   have hw:ah.k fB ((ah.n (.int .i64) data (i:Int):Int),0,8)=(decide (0≤data[i])&&decide (data[i]≤8)):=by
    rw[au,Se hi',mh]
   cases hw':(decide (0≤data[i])&&decide (data[i]≤8))
   ·exact(aj (by rw[hw,hw'];rfl)).2 (.ret _)
   refine(ai (by rw[hw,hw'];rfl)).2 (af.2 ⟨aS (show i<aW.length by omega),?_⟩)
   cases hcb:aW[i]
   ·refine(ai ((uR (show i<aW.length by omega)).trans hcb)).2 ?_
    exact dJ (congrArg (fun z=>LT.more (Lg.c0 _ z)) (cu (by omega))) hm
   ·refine(aj ((uR (show i<aW.length by omega)).trans hcb)).2 (af.2 ⟨aS (show i<expl.length by omega),?_⟩)
    cases heb:expl[i]
    ·exact(aj (by rw[uR (show i<expl.length by omega),heb];rfl)).2 (.ret _)
    ·refine(ai (by rw[uR (show i<expl.length by omega),heb];rfl)).2 ?_
     exact dJ (congrArg (fun z=>LT.more (Lg.c0 _ z)) (cu (by omega))) hm
theorem ab0{n s g w d de:Int}{aW expl next:List Bool}{modes:List Mode}{data:List Int}(hl:data.length≤140737488355328)(hc:(aW.length:Int)=n) :
  aB (Mf ah) (t157 ah n s g w d de aW modes data expl next) (jB (n,s,g,w,d,de,aW,modes) (data,expl,next)):=by
 unfold t157 jB
 simp only[bL]
 by_cases h1:(data.length:Int)=n
 ·refine(ai (jG h1)).2 ?_
  by_cases h2:(expl.length:Int)=n
  ·refine(ai (jG h2)).2 ?_
   by_cases h3:(next.length:Int)=modes.length
   ·refine(ai (jG h3)).2 (ay ?_ (afJ hl (by omega) (by omega) data.length 0 rfl (by omega)))
    rw[beq_iff_eq.2 h1,beq_iff_eq.2 h2,beq_iff_eq.2 (show next.length=modes.length by omega)];rfl
   ·refine(aj (oi h3)).2 (ay ?_ (.ret _))
    rw[beq_eq_false_iff_ne.2 (show next.length≠modes.length by omega),Bool.and_false,Bool.false_and]
  ·refine(aj (oi h2)).2 (ay ?_ (.ret _))
   rw[beq_eq_false_iff_ne.2 h2,Bool.and_false];rfl
 ·refine(aj (oi h1)).2 (ay ?_ (.ret _))
  rw[beq_eq_false_iff_ne.2 h1];rfl
def Kd:(ao×Mode)→Bool:=fun(m,x)=>jB m x
def Hd:(ao×Mode)→Bool:=fun(m,_)=>(m.2.2.2.2.2.2.1.length:Int)==m.1
def adb:aC:=⟨[aP,b_], [.bool],Hd,Kd⟩
theorem abm:Sd 92 adb:=aU ar bU true 51 [⟨92,4, [[2,3,31,32,33]]⟩] [] (fun A ((mNodes,mSlot,mGap,mWindow,mDrift,mDelay,mCold,mModes),xData,xExplicit,xNext)=>t157 A mNodes mSlot mGap mWindow mDrift mDelay mCold mModes xData xExplicit xNext) Mf Yb (fc Tryz.func92 fz) (sc EF sz) (fun A y=>match y with |.c0 p a2=>⟨51,by kernel_rfl,by kernel_rfl⟩) fun(((mNodes,mSlot,mGap,mWindow,mDrift,mDelay,mCold,mModes),xData,xExplicit,xNext):ao×Mode) hp h=>by
 show aB (Mf ah) (t157 ah mNodes mSlot mGap mWindow mDrift mDelay mCold mModes xData xExplicit xNext) (Kd ((mNodes,mSlot,mGap,mWindow,mDrift,mDelay,mCold,mModes),xData,xExplicit,xNext))
 exact ab0 h.2.1.1 (by simpa [Hd] using hp)
def t183(A:aK)(explicit:Bool)(data:Int):LT Int Empty:=.br (A.not explicit) (.ret 2) (.br (A.c .gtr data 0) (.ret 4) (.ret 3))
def lM:(Bool×Int)→Int:=fun(explicit,data)=>(t183 ah explicit data).val (Ty.bl [yI])
def afI:aC:=⟨[.bool,yI], [yI],(@tt (Bool×Int)),lM⟩
theorem Vf:Sd 182 afI:=aL ar bU true 32 [] (fun A (explicit,data)=>t183 A explicit data) (fc Tryz.func182 fz) sz (fun((explicit,data):Bool×Int) hp h=>by
 show(t183 ah explicit data).pre=true
 simp[t183,LT.pre,au,cm])
def t173(A:aK)(n:Int):LT Int Empty:=.br (A.c .lss n 0) (.ret 0) (.br (A.c .gtr n 4095) (.ret 0) (.ret (A.b .add .i64 14 (A.b .quo .i64 (A.b .add .i64 n 1) 2))))
def rX:Int→Int:=fun n=>(t173 ah n).val (Ty.bl [yI])
def acD:aC:=⟨[yI], [yI],(@tt Int),rX⟩
theorem aa0:Sd 234 acD:=aL ar bU true 30 [] (fun A n=>t173 A n) (fc Tryz.func234 fz) sz (fun(n:Int) hp h=>by
 show(t173 ah n).pre=true
 simp[t173,LT.pre,au,cm])
structure Zh where
 (a0:Int) (a1:List Mode) (a2 a3 a4 a5 a6 a7 a8 a9:Int) (cX:List Bool) (dN:List Mode)
structure WH where
 (b1:List Mode) (b2 b3:Int) (b4:List Int) (b5 b7 b8 b9 b10 b11 b12:Int) (b13:List Bool) (jN:List Mode) (fT:List Int) (cY iX:List Bool)
inductive SK where
 | c0 (p:Zh)
 | c1 (p:WH) (b0:Int) (b6:Int)
noncomputable def aaW:SK→eF
 | .c0 p=>⟨[⟨172,55,(en [(1,.ptr 0 0),(3,vi p.a0),(12,.sl b_ p.a1),(13,vi p.a2),(14,vi p.a3)]),[.inLoop (cw Tryz.f172 [1,1,0,1,0,0]),.inBlock 0,.code (cw Tryz.f172 [1,1,1])],[],none⟩],[.flat false [vi p.a4,vi p.a5,vi p.a6,vi p.a7,vi p.a8,vi p.a9,.sl .bool p.cX,.sl b_ p.dN],.dead]⟩
 | .c1 p b0 b6=>⟨[⟨172,55,(en [(1,.ptr 0 0),(3,vi b0),(5,.ptr 1 0),(12,.sl b_ p.b1),(13,vi p.b2),(14,vi p.b3),(19,.sl yI p.b4),(20,vi p.b5),(21,vi b6)]),[.inLoop (cw Tryz.f172 [1,1,0,1,0,0,1,1,0,0,1,1,0,0]),.inBlock 2,.inBlock 1,.code (cw Tryz.f172 [1,1,0,1,0,0,1,1,1]),.inLoop (cw Tryz.f172 [1,1,0,1,0,0]),.inBlock 0,.code (cw Tryz.f172 [1,1,1])],[],none⟩],[.flat false [vi p.b7,vi p.b8,vi p.b9,vi p.b10,vi p.b11,vi p.b12,.sl .bool p.b13,.sl b_ p.jN],.flat false [.sl yI p.fT,.sl .bool p.cY,.sl .bool p.iX],.dead]⟩
def aeD(A:aK)(mNodes:Int)(mSlot:Int)(mGap:Int)(mWindow:Int)(mDrift:Int)(mDelay:Int)(mCold:List Bool)(mModes:List Mode):LT Int SK:=.need (A.k (@tt (Int×Int)) (1,0)) (.need (A.k (@tt Int) (A.k pK (1,0))) (.more (.c0 ⟨(A.k rX (A.k pK (1,0))),mModes,(A.l mModes),0,mNodes,mSlot,mGap,mWindow,mDrift,mDelay,mCold,mModes⟩)))
def D4(A:aK):SK→LT Int SK
 | .c0 p=>.br (A.c .lss p.a3 p.a2) (.need (A.and (A.c .leq 0 p.a3) (A.c .lss p.a3 (A.l p.a1))) (.more (.c1 ⟨p.a1,p.a2,p.a3,(A.n b_ p.a1 p.a3:Mode).1,(A.l (A.n b_ p.a1 p.a3:Mode).1),p.a4,p.a5,p.a6,p.a7,p.a8,p.a9,p.cX,p.dN,(A.n b_ p.a1 p.a3:Mode).1,(A.n b_ p.a1 p.a3:Mode).2.1,(A.n b_ p.a1 p.a3:Mode).2.2⟩ p.a0 0))) (.ret p.a0)
 | .c1 p b0 b6=>.br (A.c .lss b6 p.b5) (.need (A.and (A.c .leq 0 b6) (A.c .lss b6 (A.l p.b4))) (.br (A.c .lss b6 p.b7) (.br (A.c .lss b6 (A.l p.cY)) (.need (A.and (A.c .leq 0 b6) (A.c .lss b6 (A.l p.cY))) (.need (A.k (@tt (Bool×Int)) ((A.n .bool p.cY b6:Bool),(A.n yI p.b4 b6:Int))) (.need (A.k (@tt (Int×Int)) ((A.k lM ((A.n .bool p.cY b6:Bool),(A.n yI p.b4 b6:Int))),(A.n yI p.b4 b6:Int))) (.br (A.c .gtr (A.k pK ((A.k lM ((A.n .bool p.cY b6:Bool),(A.n yI p.b4 b6:Int))),(A.n yI p.b4 b6:Int))) 0) (.need (A.k (@tt Int) (A.k pK ((A.k lM ((A.n .bool p.cY b6:Bool),(A.n yI p.b4 b6:Int))),(A.n yI p.b4 b6:Int)))) (.more (.c1 p (A.mx b0 (A.k rX (A.k pK ((A.k lM ((A.n .bool p.cY b6:Bool),(A.n yI p.b4 b6:Int))),(A.n yI p.b4 b6:Int))))) (A.b .add .i64 b6 1)))) (.more (.c1 p b0 (A.b .add .i64 b6 1))))))) (.more (.c1 p b0 (A.b .add .i64 b6 1)))) (.more (.c1 p b0 (A.b .add .i64 b6 1))))) (.more (.c0 ⟨b0,p.b1,p.b2,(A.b .add .i64 p.b3 1),p.b7,p.b8,p.b9,p.b10,p.b11,p.b12,p.b13,p.jN⟩))
def yH(b:Int)(x:Int×Bool):Int:=bif decide (0<pK (lM (x.2,x.1),x.1)) then ah.mx b (rX (pK (lM (x.2,x.1),x.1))) else b
def ub(n:Nat)(b:Int)(x:Mode):Int:=((x.1.zip x.2.1).take n).foldl yH b
def gv(m:ao):Int:=m.2.2.2.2.2.2.2.foldl (ub m.1.toNat) (rX (pK (1,0)))
theorem Rs{data:List Int}{expl:List Bool}{n:Int}{i:Nat}(h1:i<data.length)(h2:i<expl.length)(h3:(i:Int)<n):((data.zip expl).take n.toNat).drop i=(data[i],expl[i])::((data.zip expl).take n.toNat).drop (i+1):=by
 have hl:i<((data.zip expl).take n.toNat).length:=by simp[List.length_take,List.length_zip];omega
 rw[List.drop_eq_getElem_cons hl,List.getElem_take,List.getElem_zip]
theorem vJ{data:List Int}{expl:List Bool}{n:Int}{i:Nat}(h:expl.length≤i∨n≤(i:Int)∨data.length≤i):((data.zip expl).take n.toNat).drop i=[]:=by
 apply List.drop_of_length_le
 simp[List.length_take,List.length_zip];omega
theorem Ky{i:Nat}{n:Int}:ah.c .lss (i:Int) n=decide ((i:Int)<n):=rfl
theorem RN{b:Int}{d:Int}{e:Bool}:yH b (d,e)=bif ah.c .gtr (ah.k pK ((ah.k lM (e,d)),d)) 0 then ah.mx b (ah.k rX (ah.k pK ((ah.k lM (e,d)),d))) else b:=rfl
theorem ail{n s g w d de:Int}{aW expl next:List Bool}{modes ms:List Mode}{data:List Int}{L k k1:Int}{F:Int→Int}(hl:data.length≤140737488355328)(hk:ah.b .add .i64 k 1=k1)(hnext:∀b,aB (D4 ah) (.more (.c0 ⟨b,ms,L,k1,n,s,g,w,d,de,aW,modes⟩)) (F b)) :
  ∀(j i:Nat) (b:Int),data.length-i=j→i≤data.length→aB (D4 ah) (.more (.c1 ⟨ms,L,k,data,(data.length:Int),n,s,g,w,d,de,aW,modes,data,expl,next⟩ b (i:Int))) (F ((((data.zip expl).take n.toNat).drop i).foldl yH b)):=by
 intro j
 induction j with
 | zero=>
   intro i b hj hi
   have:i=data.length:=by omega
   subst this
   rw[ak,D4]
   refine(ai (by rw[aI];simp)).2 ?_
   rw[vJ (.inr (.inr (Nat.le_refl _))),hk]
   exact hnext b
 | succ j ih=>
   intro i b hj hi
   have hi':i<data.length:=by omega
   rw[ak,D4]
   refine(aj (by rw[aI];simp;omega)).2 (af.2 ⟨aS hi',?_⟩)
   have hm:=fun b=>ih (i+1) b (by omega) (by omega)
   by_cases h3:(i:Int)<n
   ·refine(aj (by rw[Ky];simpa using h3)).2 ?_
    by_cases h2:i<expl.length
    ·refine(aj (by rw[bL,aI];simpa using h2)).2 (af.2 ⟨aS (show i<expl.length from h2),af.2 ⟨rfl,af.2 ⟨rfl,?_⟩⟩⟩)
     rw[Rs hi' h2 h3,List.foldl_cons,RN,←Se hi',←uR h2,cu (i:=i) (by omega)]
     cases hb:ah.c .gtr (ah.k pK ((ah.k lM ((ah.n .bool expl (i:Int):Bool),(ah.n (.int .i64) data (i:Int):Int))),(ah.n (.int .i64) data (i:Int):Int))) 0
     ·exact(ai rfl).2 (hm _)
     ·exact(aj rfl).2 (af.2 ⟨rfl,hm _⟩)
    ·refine(ai (by rw[bL,aI];simpa using h2)).2 ?_
     rw[cu (i:=i) (by omega)]
     have:=hm b
     rw[vJ (.inl (by omega))] at this ⊢
     exact this
   ·refine(ai (by rw[Ky];simpa using h3)).2 ?_
    rw[cu (i:=i) (by omega)]
    have:=hm b
    rw[vJ (.inr (.inl (by omega)))] at this ⊢
    exact this
theorem aha{n s g w d de:Int}{aW:List Bool}{modes ms:List Mode}(hl:ms.length≤140737488355328)(hd:∀x∈ms,x.1.length≤140737488355328) :
  ∀(j k:Nat) (b:Int),ms.length-k=j→k≤ms.length→aB (D4 ah) (.more (.c0 ⟨b,ms,(ms.length:Int),(k:Int),n,s,g,w,d,de,aW,modes⟩)) ((ms.drop k).foldl (ub n.toNat) b):=by
 intro j
 induction j with
 | zero=>
   intro k b hj hk
   have:k=ms.length:=by omega
   subst this
   rw[ak,D4]
   refine(ai (by rw[aI];simp)).2 ?_
   rw[List.drop_length]
   exact .ret _
 | succ j ih=>
   intro k b hj hk
   have hk':k<ms.length:=by omega
   rw[ak,D4]
   refine(aj (by rw[aI];simp;omega)).2 (af.2 ⟨aS hk',?_⟩)
   rw[show(ah.n b_ ms (k:Int):Mode)=ms[k] from getD_in hk' _,List.drop_eq_getElem_cons hk',List.foldl_cons]
   exact ail (F:=fun b=>(ms.drop (k+1)).foldl (ub n.toNat) b) (hd _ (List.getElem_mem hk')) (cu (by omega)) (fun b=>ih (k+1) b (by omega) (by omega)) ms[k].1.length 0 b rfl (by omega)
theorem max2{n s g w d de:Int}{aW:List Bool}{modes:List Mode}(h:Ty.has aP (n,s,g,w,d,de,aW,modes)):aB (D4 ah) (aeD ah n s g w d de aW modes) (gv (n,s,g,w,d,de,aW,modes)):=
 af.2 ⟨rfl,af.2 ⟨rfl,aha (mr h).2.2.1 (fun x hx=>((mr h).2.2.2 x hx).1) modes.length 0 _ rfl (by omega)⟩⟩
def V2:ao→Int:=gv
def adG:aC:=⟨[aP], [yI],(@tt ao),V2⟩
theorem afT:Sd 172 adG:=aU ar bU true 27 [⟨172,3, [[1,3,12,13,14]]⟩,⟨172,6, [[1,3,5,12,13,14,19,20,21]]⟩] [] (fun A (mNodes,mSlot,mGap,mWindow,mDrift,mDelay,mCold,mModes)=>aeD A mNodes mSlot mGap mWindow mDrift mDelay mCold mModes) D4 aaW (fc Tryz.func172 fz) (sc ag3 (sc aa0 (sc Vf sz))) (fun A y=>match y with |.c0 p=>⟨31,by kernel_rfl,by kernel_rfl⟩|.c1 p b0 b6=>⟨69,by kernel_rfl,by kernel_rfl⟩) fun(mNodes,mSlot,mGap,mWindow,mDrift,mDelay,mCold,mModes) hp h=>max2 h
def t159(A:aK)(mNodes:Int)(mSlot:Int)(mGap:Int)(mWindow:Int)(mDrift:Int)(mDelay:Int)(mCold:List Bool)(mModes:List Mode):LT (Int×Int×Int) Empty:=.need (A.k (@tt ao) (mNodes,mSlot,mGap,mWindow,mDrift,mDelay,mCold,mModes)) (.ret ((A.b .add .i64 (A.b .mul .i64 (A.b .mul .i64 16 mNodes) mDrift) 16),(A.b .add .i64 (A.b .add .i64 (A.b .mul .i64 2 mWindow) (A.b .mul .i64 2 mDelay)) 4),(A.b .add .i64 (A.b .mul .i64 2 mGap) (A.k V2 (mNodes,mSlot,mGap,mWindow,mDrift,mDelay,mCold,mModes)))))
def wB:ao→(Int×Int×Int):=fun(mNodes,mSlot,mGap,mWindow,mDrift,mDelay,mCold,mModes)=>(t159 ah mNodes mSlot mGap mWindow mDrift mDelay mCold mModes).val (Ty.bl [yI,yI,yI])
def abu:aC:=⟨[aP], [yI,yI,yI],(@tt ao),wB⟩
theorem abC:Sd 94 abu:=aL ar bU true 50 [] (fun A (mNodes,mSlot,mGap,mWindow,mDrift,mDelay,mCold,mModes)=>t159 A mNodes mSlot mGap mWindow mDrift mDelay mCold mModes) (fc Tryz.func94 fz) (sc afT sz) (fun((mNodes,mSlot,mGap,mWindow,mDrift,mDelay,mCold,mModes):ao) hp h=>by
 show(t159 ah mNodes mSlot mGap mWindow mDrift mDelay mCold mModes).pre=true
 simp[t159,LT.pre,au,cm])
theorem aA{R Y:Type}{step:Y→LT R Y}{t e:LT R Y}{r:R}{p:Prop}[Decidable p]{b:Bool}(hb:b=decide p)(ht:p→aB step t r)(he:¬p→aB step e r):aB step (.br b t e) r:=by
 by_cases h:p
 ·exact(aj (by rw[hb];simpa using h)).2 (ht h)
 ·exact(ai (by rw[hb];simpa using h)).2 (he h)
theorem dY{R Y:Type}{step:Y→LT R Y}{t e:LT R Y}{r:R}{x a b:Int}(ht:¬(a≤x∧x≤b)→aB step t r)(he:a≤x∧x≤b→aB step e r):aB step (.br (ah.not (ah.k fB (x,a,b))) t e) r:=by
 refine aA (p:=¬(a≤x∧x≤b)) ?_ ht (fun h=>he (Decidable.not_not.1 h))
 rw[bE,au,mh,←Bool.decide_and,←decide_not]
theorem Cf{n:Int}:0≤rX n∧rX n≤2062:=by
 simp only[rX,t173,LT.val,al,aH,Bool.cond_eq_ite,decide_eq_true_eq]
 split
 ·omega
 ·split
  ·omega
  ·rw[bd,Jb,bd,gZ (a:=n+1) (by omega) (by omega)]
   have:(n+1).tdiv 2=(n+1)/2:=Int.tdiv_eq_ediv_of_nonneg (by omega)
   rw[this,gZ (a:=(n+1)/2) (by omega) (by omega),gZ (by omega) (by omega)]
   omega
theorem QL{b:Int}{x:Int×Bool}(h:0≤b∧b≤2062):0≤yH b x∧yH b x≤2062:=by
 have:=Cf (n:=pK (lM (x.2,x.1),x.1))
 unfold yH
 cases decide (0<pK (lM (x.2,x.1),x.1))
 ·exact h
 ·rw[aeM,Iz];split<;>omega
theorem sS{α:Type}{f:Int→α→Int}(hf:∀b x,0≤b∧b≤2062→0≤f b x∧f b x≤2062):∀{l:List α} {b:Int},0≤b∧b≤2062→0≤l.foldl f b∧l.foldl f b≤2062
 | [],_,h=>h
 | x::l,b,h=>sS hf (l:=l) (hf b x h)
theorem vu{m:ao}:0≤gv m∧gv m≤2062:=sS (fun _ _ h=>sS (fun _ _ h=>QL h) h) Cf
def lh(n s g w d de mx:Int):Bool:=decide (0≤d∧d≤64∧0≤de∧de≤64∧16*n*d+16≤w∧w≤1048576∧2*w+2*de+4≤g∧g≤1048576∧2*g+mx≤s∧s≤16777216)
def dh(m:ao):Bool:=countB m&&m.2.2.2.2.2.2.2.all (jB m)&&lh m.1 m.2.1 m.2.2.1 m.2.2.2.1 m.2.2.2.2.1 m.2.2.2.2.2.1 (gv m)
def i_(m:ao):Int:=bif dh m then 0 else 70
theorem RP{n d:Int}(h:4≤n∧n≤8)(h2:0≤d∧d≤64):ah.b .add .i64 (ah.b .mul .i64 (ah.b .mul .i64 16 n) d) 16=16*n*d+16:=by
 have h3:0≤16*n*d∧16*n*d≤8192:=by
  have:n=4∨n=5∨n=6∨n=7∨n=8:=by omega
  rcases this with rfl|rfl|rfl|rfl|rfl<;>omega
 rw[bd,gV,gV,gZ (a:=16*n) (by omega) (by omega),gZ (a:=16*n*d) (by omega) (by omega),gZ (by omega) (by omega)]
theorem qR{n d:Int}(h:4≤n∧n≤8)(h2:0≤d∧d≤64):0≤16*n*d:=by
 have:n=4∨n=5∨n=6∨n=7∨n=8:=by omega
 rcases this with rfl|rfl|rfl|rfl|rfl<;>omega
theorem Nl{w de:Int}(h:0≤w∧w≤1048576)(h2:0≤de∧de≤64):ah.b .add .i64 (ah.b .add .i64 (ah.b .mul .i64 2 w) (ah.b .mul .i64 2 de)) 4=2*w+2*de+4:=by
 rw[bd,bd,gV,gV,gZ (a:=2*w) (by omega) (by omega),gZ (a:=2*de) (by omega) (by omega),gZ (a:=2*w+2*de) (by omega) (by omega),gZ (by omega) (by omega)]
theorem Kn{g mx:Int}(h:0≤g∧g≤1048576)(h2:0≤mx∧mx≤2062):ah.b .add .i64 (ah.b .mul .i64 2 g) mx=2*g+mx:=by
 rw[bd,gV,gZ (a:=2*g) (by omega) (by omega),gZ (by omega) (by omega)]
theorem Pd{n s g w d de:Int}{aW:List Bool}{modes:List Mode}:wB (n,s,g,w,d,de,aW,modes)=(ah.b .add .i64 (ah.b .mul .i64 (ah.b .mul .i64 16 n) d) 16,ah.b .add .i64 (ah.b .add .i64 (ah.b .mul .i64 2 w) (ah.b .mul .i64 2 de)) 4,ah.b .add .i64 (ah.b .mul .i64 2 g) (gv (n,s,g,w,d,de,aW,modes))):=rfl
structure Qi where
 (a0:List Mode) (a1 a3 a4 a5 a6 a7 a8:Int) (a9:List Bool) (cX:List Mode)
inductive PD where
 | c0 (p:Qi) (a2:Int)
noncomputable def Xq:PD→eF
 | .c0 p a2=>⟨[⟨171,19,(en [(0,.sl b_ p.a0),(1,.fn 91 [] [.ptr 0 0]),(7,vi p.a1),(8,vi a2)]),[.inLoop (cw Tryz.f171 [1,0,1,0,0]),.inBlock 0,.code (cw Tryz.f171 [1,1])],[],none⟩,⟨90,9,.leaf,[.ops (ow Tryz.f90 [1,0]) ((ow Tryz.f90 [1,0]).toList.drop 2),.code .ret],[],none⟩,⟨42,65,(en [(1,.ptr 0 0)]),[.ops (ow Tryz.f42 [1,0,0,0,0,0,0,0,0,1,0,0]) ((ow Tryz.f42 [1,0,0,0,0,0,0,0,0,1,0,0]).toList.drop 3),.code (cw Tryz.f42 [1,0,0,0,0,0,0,0,0,1,0,1]),.code (cw Tryz.f42 [1,0,0,0,0,0,0,0,0,1,1]),.code (.exit 0),.inBlock 1,.inBlock 2,.inBlock 3,.inBlock 4,.code (cw Tryz.f42 [1,0,0,1]),.inBlock 0,.code (cw Tryz.f42 [1,1])],[],none⟩],[.flat false [vi p.a3,vi p.a4,vi p.a5,vi p.a6,vi p.a7,vi p.a8,.sl .bool p.a9,.sl b_ p.cX],.dead]⟩
def t124(A:aK)(mNodes:Int)(mSlot:Int)(mGap:Int)(mWindow:Int)(mDrift:Int)(mDelay:Int)(mCold:List Bool)(mModes:List Mode):LT Int PD:=.need (A.k (@tt ao) (mNodes,mSlot,mGap,mWindow,mDrift,mDelay,mCold,mModes)) (.br (A.not (A.k Mz (mNodes,mSlot,mGap,mWindow,mDrift,mDelay,mCold,mModes))) (.ret 70) (.more (.c0 ⟨mModes,(A.l mModes),mNodes,mSlot,mGap,mWindow,mDrift,mDelay,mCold,mModes⟩ 0)))
abbrev I7(A:aK)(p:Qi):LT Int PD:=(.need (A.k (@tt (Int×Int×Int)) (p.a7,0,64)) (.br (A.not (A.k fB (p.a7,0,64))) (.ret 70) (.need (A.k (@tt (Int×Int×Int)) (p.a8,0,64)) (.br (A.not (A.k fB (p.a8,0,64))) (.ret 70) (.need (A.k (@tt (Int×Int×Int)) (p.a6,0,1048576)) (.br (A.not (A.k fB (p.a6,0,1048576))) (.ret 70) (.need (A.k (@tt (Int×Int×Int)) (p.a5,0,1048576)) (.br (A.not (A.k fB (p.a5,0,1048576))) (.ret 70) (.need (A.k (@tt (Int×Int×Int)) (p.a4,0,16777216)) (.br (A.not (A.k fB (p.a4,0,16777216))) (.ret 70) (.need (A.k (@tt ao) (p.a3,p.a4,p.a5,p.a6,p.a7,p.a8,p.a9,p.cX)) (.br (A.c .lss p.a6 (A.k wB (p.a3,p.a4,p.a5,p.a6,p.a7,p.a8,p.a9,p.cX)).1) (.ret 70) (.br (A.c .lss p.a5 (A.k wB (p.a3,p.a4,p.a5,p.a6,p.a7,p.a8,p.a9,p.cX)).2.1) (.ret 70) (.br (A.c .lss p.a4 (A.k wB (p.a3,p.a4,p.a5,p.a6,p.a7,p.a8,p.a9,p.cX)).2.2) (.ret 70) (.ret 0)))))))))))))))
def L8(A:aK):PD→LT Int PD
 | .c0 p a2=>.br (A.c .lss a2 p.a1) (.need (A.and (A.c .leq 0 a2) (A.c .lss a2 (A.l p.a0))) (.need (A.k Hd ((p.a3,p.a4,p.a5,p.a6,p.a7,p.a8,p.a9,p.cX),(A.n b_ p.a0 a2:Mode))) (.br (A.not (A.k Kd ((p.a3,p.a4,p.a5,p.a6,p.a7,p.a8,p.a9,p.cX),(A.n b_ p.a0 a2:Mode)))) (.br (A.c .geq a2 0) (.ret 70) (I7 A p)) (.more (.c0 p (A.b .add .i64 a2 1)))))) (I7 A p)
theorem R7{n s g w d de:Int}{aW:List Bool}{modes:List Mode}{R:Int}(hn:4≤n∧n≤8)(hR:R=bif lh n s g w d de (gv (n,s,g,w,d,de,aW,modes)) then 0 else 70) :
  aB (L8 ah) (.need (ah.k (@tt (Int×Int×Int)) (d,0,64)) (.br (ah.not (ah.k fB (d,0,64))) (.ret 70) (.need (ah.k (@tt (Int×Int×Int)) (de,0,64)) (.br (ah.not (ah.k fB (de,0,64))) (.ret 70) (.need (ah.k (@tt (Int×Int×Int)) (w,0,1048576)) (.br (ah.not (ah.k fB (w,0,1048576))) (.ret 70) (.need (ah.k (@tt (Int×Int×Int)) (g,0,1048576)) (.br (ah.not (ah.k fB (g,0,1048576))) (.ret 70) (.need (ah.k (@tt (Int×Int×Int)) (s,0,16777216)) (.br (ah.not (ah.k fB (s,0,16777216))) (.ret 70) (.need (ah.k (@tt ao) (n,s,g,w,d,de,aW,modes)) (.br (ah.c .lss w (ah.k wB (n,s,g,w,d,de,aW,modes)).1) (.ret 70) (.br (ah.c .lss g (ah.k wB (n,s,g,w,d,de,aW,modes)).2.1) (.ret 70) (.br (ah.c .lss s (ah.k wB (n,s,g,w,d,de,aW,modes)).2.2) (.ret 70) (.ret 0))))))))))))))) R:=by
 have hm:=vu (m:=(n,s,g,w,d,de,aW,modes))
 have no:∀{p:Prop} [Decidable p],¬p→decide p=false:=fun h=>by simpa using h
 rw[hR]
 refine af.2 ⟨rfl,dY (fun h=>ay ?_ (.ret _)) fun h1=>af.2 ⟨rfl,dY (fun h=>ay ?_ (.ret _)) fun h2=>af.2 ⟨rfl,dY (fun h=>ay ?_ (.ret _)) fun h3=>af.2 ⟨rfl,dY (fun h=>ay ?_ (.ret _)) fun h4=>af.2 ⟨rfl,dY (fun h=>ay ?_ (.ret _)) fun h5=>af.2 ⟨rfl,?_⟩⟩⟩⟩⟩⟩
 ·rw[lh,no (by omega)];rfl
 ·rw[lh,no (by omega)];rfl
 ·have:=fun h=>qR (n:=n) (d:=d) hn h
  rw[lh,no (by omega)];rfl
 ·have:=fun h=>qR (n:=n) (d:=d) hn h
  rw[lh,no (by omega)];rfl
 ·have:=fun h=>qR (n:=n) (d:=d) hn h
  rw[lh,no (by omega)];rfl
 ·have:=qR (n:=n) (d:=d) hn h1
  rw[au,Pd,RP hn h1,Nl h3 h2,Kn h4 hm]
  refine aA (p:=w<16*n*d+16) rfl (fun h=>ay ?_ (.ret _)) fun h6=>aA (p:=g<2*w+2*de+4) rfl (fun h=>ay ?_ (.ret _)) fun h7=>aA (p:=s<2*g+gv (n,s,g,w,d,de,aW,modes)) rfl (fun h=>ay ?_ (.ret _)) fun h8=>ay ?_ (.ret _)
  ·rw[lh,no (by omega)];rfl
  ·rw[lh,no (by omega)];rfl
  ·rw[lh,no (by omega)];rfl
  ·rw[lh,decide_eq_true (by omega)];rfl
theorem Zb{n s g w d de:Int}{aW:List Bool}{modes:List Mode}(hl:modes.length≤140737488355328)(hc:(aW.length:Int)=n)(hn:4≤n∧n≤8):∀(j i:Nat),modes.length-i=j→i≤modes.length→
  aB (L8 ah) (.more (.c0 ⟨modes,(modes.length:Int),n,s,g,w,d,de,aW,modes⟩ (i:Int))) (bif (modes.drop i).all (jB (n,s,g,w,d,de,aW,modes))&&lh n s g w d de (gv (n,s,g,w,d,de,aW,modes)) then 0 else 70):=by
 intro j
 induction j with
 | zero=>
   intro i hj hi
   have:i=modes.length:=by omega
   subst this
   rw[ak,L8]
   refine(ai (by rw[aI];simp)).2 (R7 hn ?_)
   rw[List.drop_length];rfl
 | succ j ih=>
   intro i hj hi
   have hi':i<modes.length:=by omega
   rw[ak,L8]
   refine(aj (by rw[aI];simp;omega)).2 (af.2 ⟨aS hi',?_⟩)
   have e:(ah.n b_ modes (i:Int):Mode)=modes[i]:=getD_in hi' _
   rw[e,List.drop_eq_getElem_cons hi',List.all_cons]
   refine af.2 ⟨by show((aW.length:Int)==n)=true;simpa using hc,?_⟩
   have hf:ah.k Kd ((n,s,g,w,d,de,aW,modes),modes[i])=jB (n,s,g,w,d,de,aW,modes) modes[i]:=rfl
   rw[hf]
   cases jB (n,s,g,w,d,de,aW,modes) modes[i]
   ·refine(aj rfl).2 ((aj (by rw[aN];simp)).2 (.ret _))
   ·refine(ai rfl).2 ?_
    rw[cu (i:=i) (by omega),Bool.true_and]
    exact ih (i+1) (by omega) (by omega)
theorem ZK{n s g w d de:Int}{aW:List Bool}{modes:List Mode}(h:Ty.has aP (n,s,g,w,d,de,aW,modes)):aB (L8 ah) (t124 ah n s g w d de aW modes) (i_ (n,s,g,w,d,de,aW,modes)):=by
 unfold t124 i_ dh
 refine af.2 ⟨rfl,?_⟩
 rw[show ah.k Mz (n,s,g,w,d,de,aW,modes)=countB (n,s,g,w,d,de,aW,modes) from rfl]
 cases hc:countB (n,s,g,w,d,de,aW,modes)
 ·exact(aj rfl).2 (.ret _)
 ·refine(ai rfl).2 ?_
  simp only[countB,mh,Bool.and_eq_true,decide_eq_true_eq,beq_iff_eq] at hc
  exact Zb (mr h).2.2.1 hc.1.2 hc.1.1.1 modes.length 0 rfl (by omega)
def iK:ao→Int:=i_
def acn:aC:=⟨[aP], [yI],(@tt ao),iK⟩
theorem Bn:Sd 42 acn:=aU ar bU true 58 [⟨171,2, [[0,1,7,8], [], [1]]⟩] [] (fun A (mNodes,mSlot,mGap,mWindow,mDrift,mDelay,mCold,mModes)=>t124 A mNodes mSlot mGap mWindow mDrift mDelay mCold mModes) L8 Xq (fc Tryz.func42 (fc Tryz.func90 (fc Tryz.func91 (fc Tryz.func171 fz)))) (sc abA (sc abm (sc EF (sc abC sz)))) (fun A y=>match y with |.c0 p a2=>⟨136,by kernel_rfl,by kernel_rfl⟩) fun(mNodes,mSlot,mGap,mWindow,mDrift,mDelay,mCold,mModes) hp h=>ZK h
theorem zP{m:ao}:iK m=i_ m:=rfl
theorem sU{m:ao}:i_ m=0↔dh m=true:=by
 unfold i_;cases dh m<;>decide
def Tw(A:aK)(explicit:Bool)(data:Int):LT Int Empty:=.br (A.not explicit) (.ret 2) (.br (A.c .gtr data 0) (.ret 4) (.ret 3))
def BA:(Bool×Int)→Int:=fun(explicit,data)=>(Tw ah explicit data).val (Ty.bl [yI])
def agl:aC:=⟨[.bool,yI], [yI],(@tt (Bool×Int)),BA⟩
theorem aa_:Sd 161 agl:=aL ar bU true 30 [] (fun A (explicit,data)=>Tw A explicit data) (fc Tryz.func161 fz) sz (fun((explicit,data):Bool×Int) hp h=>by
 show(Tw ah explicit data).pre=true
 simp[Tw,LT.pre,au,cm])
def TF(A:aK)(n:Int):LT Int Empty:=.br (A.c .lss n 0) (.ret 0) (.br (A.c .gtr n 4095) (.ret 0) (.ret (A.b .add .i64 14 (A.b .quo .i64 (A.b .add .i64 n 1) 2))))
def J0:Int→Int:=fun n=>(TF ah n).val (Ty.bl [yI])
def ac2:aC:=⟨[yI], [yI],(@tt Int),J0⟩
theorem afr:Sd 159 ac2:=aL ar bU true 30 [] (fun A n=>TF A n) (fc Tryz.func159 fz) sz (fun(n:Int) hp h=>by
 show(TF ah n).pre=true
 simp[TF,LT.pre,au,cm])
structure ZL where
 (a0:List Bool)
inductive S7 where
 | c0 (p:ZL) (a1:Int) (a2:Int)
noncomputable def ZU:S7→eF
 | .c0 p a1 a2=>⟨[⟨141,18,(en [(0,.sl .bool p.a0),(3,vi a1),(4,vi a2)]),[.inLoop (cw Tryz.f141 [1,1,0,1,0,0]),.inBlock 0,.code (cw Tryz.f141 [1,1,1])],[],none⟩],[.dead]⟩
def ad7(A:aK)(l:List Bool):LT Int S7:=.more (.c0 ⟨l⟩ 0 0)
def Qt(A:aK):S7→LT Int S7
 | .c0 p a1 a2=>.br (A.c .lss a2 (A.l p.a0)) (.need (A.and (A.c .leq 0 a2) (A.c .lss a2 (A.l p.a0))) (.br (A.n .bool p.a0 a2:Bool) (.more (.c0 p (A.b .add .i64 a1 1) (A.b .add .i64 a2 1))) (.more (.c0 p a1 (A.b .add .i64 a2 1))))) (.ret a1)
theorem Zc{l:List Bool}(hl:l.length≤140737488355328):∀(j i c:Nat),l.length-i=j→i≤l.length→c≤i→aB (Qt ah) (.more (.c0 ⟨l⟩ (c:Int) (i:Int))) ((c+(l.drop i).count true:Nat):Int):=by
 intro j
 induction j with
 | zero=>
   intro i c hj hi hc
   have:i=l.length:=by omega
   subst this
   rw[ak,Qt]
   refine(ai (by rw[bL,aI];simp)).2 ?_
   rw[List.drop_length]
   exact .ret _
 | succ j ih=>
   intro i c hj hi hc
   have hi':i<l.length:=by omega
   rw[ak,Qt]
   refine(aj (by rw[bL,aI];simp;omega)).2 (af.2 ⟨aS hi',?_⟩)
   rw[List.drop_eq_getElem_cons hi',List.count_cons]
   cases hb:l[i]
   ·refine(ai ((uR hi').trans hb)).2 ?_
    rw[cu (i:=i) (by omega)]
    refine ay ?_ (ih (i+1) c (by omega) (by omega) (by omega))
    simp
   ·refine(aj ((uR hi').trans hb)).2 ?_
    rw[cu (i:=c) (by omega),cu (i:=i) (by omega)]
    refine ay ?_ (ih (i+1) (c+1) (by omega) (by omega) (by omega))
    simp[Nat.add_assoc,Nat.add_comm 1]
def Gw:(List Bool)→Int:=fun l=>(l.count true:Int)
def af3:aC:=⟨[(.slice .bool)], [yI],(@tt (List Bool)),Gw⟩
theorem acR:Sd 141 af3:=aU ar bU true 21 [⟨141,3, [[0,3,4]]⟩] [] (fun A l=>ad7 A l) Qt ZU (fc Tryz.func141 fz) sz (fun A y=>match y with |.c0 p a1 a2=>⟨37,by kernel_rfl,by kernel_rfl⟩) fun(l:List Bool) hp h=>by
 show aB (Qt ah) (ad7 ah l) (Gw l)
 exact ay (by simp[Gw]) (Zc h.1 l.length 0 0 rfl (by omega) (by omega))
structure X4 where
 (a1:List Int) (a2 a3:List Bool) (a4 a5 a6 a7 a8 a9:Int) (cX:List Bool) (dN:List Mode)
structure Zk where
 (b1:List Int) (b2 b3:List Bool) (b4 b5 b6 b7 b8 b9:Int) (b10:List Bool) (b11:List Mode)
inductive S_ where
 | c0 (p:X4) (a0:Int)
 | c1 (p:Zk) (b0:Int)
noncomputable def Ww:S_→eF
 | .c0 p a0=>⟨[⟨142,78,(en [(2,.ptr 0 0),(3,.ptr 1 0),(5,vi a0)]),[.inLoop (cw Tryz.f142 [1,1,0,1,0,0]),.inBlock 0,.code (cw Tryz.f142 [1,1,1])],[],none⟩],[.flat false [.sl yI p.a1,.sl .bool p.a2,.sl .bool p.a3],.flat false [vi p.a4,vi p.a5,vi p.a6,vi p.a7,vi p.a8,vi p.a9,.sl .bool p.cX,.sl b_ p.dN],.dead]⟩
 | .c1 p b0=>⟨[⟨142,78,(en [(2,.ptr 0 0),(3,.ptr 1 0),(6,vi b0)]),[.inLoop (cw Tryz.f142 [1,1,1,0,1,0,0]),.inBlock 2,.code (cw Tryz.f142 [1,1,1,1])],[],none⟩],[.flat false [.sl yI p.b1,.sl .bool p.b2,.sl .bool p.b3],.flat false [vi p.b4,vi p.b5,vi p.b6,vi p.b7,vi p.b8,vi p.b9,.sl .bool p.b10,.sl b_ p.b11],.dead]⟩
def U5(A:aK)(xData:List Int)(xExplicit:List Bool)(xNext:List Bool)(mNodes:Int)(mSlot:Int)(mGap:Int)(mWindow:Int)(mDrift:Int)(mDelay:Int)(mCold:List Bool)(mModes:List Mode):LT Bool S_:=.br (A.c .neq (A.l xData) mNodes) (.ret false) (.br (A.c .neq (A.l xExplicit) mNodes) (.ret false) (.br (A.c .neq (A.l xNext) (A.l mModes)) (.ret false) (.more (.c0 ⟨xData,xExplicit,xNext,mNodes,mSlot,mGap,mWindow,mDrift,mDelay,mCold,mModes⟩ 0))))
def Ak(A:aK):S_→LT Bool S_
 | .c0 p a0=>.br (A.c .lss a0 (A.l p.a1)) (.need (A.and (A.c .leq 0 a0) (A.c .lss a0 (A.l p.a1))) (.br (A.c .lss (A.n yI p.a1 a0:Int) 0) (.ret false) (.need (A.and (A.c .leq 0 a0) (A.c .lss a0 (A.l p.a1))) (.br (A.c .gtr (A.n yI p.a1 a0:Int) 8) (.ret false) (.more (.c0 p (A.b .add .i64 a0 1))))))) (.more (.c1 ⟨p.a1,p.a2,p.a3,p.a4,p.a5,p.a6,p.a7,p.a8,p.a9,p.cX,p.dN⟩ 0))
 | .c1 p b0=>.br (A.c .lss b0 (A.l p.b2)) (.br (A.c .lss b0 (A.l p.b10)) (.need (A.and (A.c .leq 0 b0) (A.c .lss b0 (A.l p.b10))) (.br (A.n .bool p.b10 b0:Bool) (.need (A.and (A.c .leq 0 b0) (A.c .lss b0 (A.l p.b2))) (.br (A.not (A.n .bool p.b2 b0:Bool)) (.ret false) (.more (.c1 p (A.b .add .i64 b0 1))))) (.more (.c1 p (A.b .add .i64 b0 1))))) (.ret true)) (.ret true)
def Pg:List Bool→List Bool→Bool
 | c::cs,e::es=>(!c||e)&&Pg cs es
 | _,_=>true
theorem sZ:∀{ds:List Int} {cs es:List Bool},cs.length=ds.length→es.length=ds.length→qU ds cs es=(ds.all (fun d=>decide (0≤d)&&decide (d≤8))&&Pg cs es)
 | [], [], [],_,_=>rfl
 | d::ds,c::cs,e::es,h1,h2=>by
   rw[qU,sZ (ds:=ds) (by simpa using h1) (by simpa using h2),List.all_cons,Pg]
   cases (decide (0≤d)&&decide (d≤8))<;>cases (!c||e)<;>simp
 | [],_::_,_,h,_=>by cases h
 | [], [],_::_,_,h=>by cases h
 | _::_, [],_,h,_=>by cases h
 | _::_,_::_, [],_,h=>by cases h
theorem Xt{n s g w d de:Int}{aW expl next:List Bool}{modes:List Mode}{data:List Int}(hl:expl.length≤140737488355328)(hc:aW.length=expl.length):∀(j i:Nat),expl.length-i=j→i≤expl.length→
  aB (Ak ah) (.more (.c1 ⟨data,expl,next,n,s,g,w,d,de,aW,modes⟩ (i:Int))) (Pg (aW.drop i) (expl.drop i)):=by
 intro j
 induction j with
 | zero=>
   intro i hj hi
   have:i=expl.length:=by omega
   subst this
   rw[ak,Ak]
   refine(ai (by rw[bL,aI];simp)).2 ?_
   rw[List.drop_length,List.drop_of_length_le (by omega)]
   exact .ret _
 | succ j ih=>
   intro i hj hi
   have hi':i<expl.length:=by omega
   have hi2:i<aW.length:=by omega
   rw[ak,Ak]
   refine(aj (by rw[bL,aI];simp;omega)).2 ((aj (by rw[bL,aI];simp;omega)).2 (af.2 ⟨aS hi2,?_⟩))
   have hm:=ih (i+1) (by omega) (by omega)
   rw[List.drop_eq_getElem_cons hi',List.drop_eq_getElem_cons hi2,Pg]
   cases hcb:aW[i]
   ·refine(ai ((uR hi2).trans hcb)).2 ?_
    rw[cu (i:=i) (by omega)];exact hm
   ·refine(aj ((uR hi2).trans hcb)).2 (af.2 ⟨aS hi',?_⟩)
    cases heb:expl[i]
    ·exact(aj (by rw[uR hi',heb];rfl)).2 (.ret _)
    ·refine(ai (by rw[uR hi',heb];rfl)).2 ?_
     rw[cu (i:=i) (by omega)];exact hm
theorem Zn{n s g w d de:Int}{aW expl next:List Bool}{modes:List Mode}{data:List Int}{R:Bool}(hl:data.length≤140737488355328)(hR:aB (Ak ah) (.more (.c1 ⟨data,expl,next,n,s,g,w,d,de,aW,modes⟩ 0)) R):∀(j i:Nat),data.length-i=j→i≤data.length→
  aB (Ak ah) (.more (.c0 ⟨data,expl,next,n,s,g,w,d,de,aW,modes⟩ (i:Int))) ((data.drop i).all (fun d=>decide (0≤d)&&decide (d≤8))&&R):=by
 intro j
 induction j with
 | zero=>
   intro i hj hi
   have:i=data.length:=by omega
   subst this
   rw[ak,Ak]
   refine(ai (by rw[bL,aI];simp)).2 ?_
   rw[List.drop_length]
   exact ay (by simp) hR
 | succ j ih=>
   intro i hj hi
   have hi':i<data.length:=by omega
   rw[ak,Ak]
   have hm:=ih (i+1) (by omega) (by omega)
   rw[List.drop_eq_getElem_cons hi',List.all_cons]
   refine(aj (by rw[bL,aI];simp;omega)).2 (af.2 ⟨aS hi',?_⟩)
   rw[Se hi']
   refine aA (p:=data[i]<0) rfl (fun h=>ay ?_ (.ret _)) fun h1=>af.2 ⟨aS hi',aA (p:=8<data[i]) rfl (fun h=>ay ?_ (.ret _)) fun h2=>?_⟩
   ·rw[decide_eq_false (show ¬0≤data[i] by omega)];rfl
   ·rw[decide_eq_false (show ¬data[i]≤8 by omega),Bool.and_false];rfl
   ·rw[cu (i:=i) (by omega),decide_eq_true (show 0≤data[i] by omega),decide_eq_true (show data[i]≤8 by omega)]
    exact hm
theorem Yw{n s g w d de:Int}{aW expl next:List Bool}{modes:List Mode}{data:List Int}(hl:data.length≤140737488355328)(hl2:expl.length≤140737488355328)(hc:(aW.length:Int)=n) :
  aB (Ak ah) (U5 ah data expl next n s g w d de aW modes) (jB (n,s,g,w,d,de,aW,modes) (data,expl,next)):=by
 unfold U5 jB
 simp only[bL]
 by_cases h1:(data.length:Int)=n
 ·refine(ai (jG h1)).2 ?_
  by_cases h2:(expl.length:Int)=n
  ·refine(ai (jG h2)).2 ?_
   by_cases h3:(next.length:Int)=modes.length
   ·refine(ai (jG h3)).2 (ay ?_ (Zn hl (Xt hl2 (by omega) expl.length 0 rfl (by omega)) data.length 0 rfl (by omega)))
    rw[beq_iff_eq.2 h1,beq_iff_eq.2 h2,beq_iff_eq.2 (show next.length=modes.length by omega),sZ (show aW.length=data.length by omega) (show expl.length=data.length by omega)];rfl
   ·refine(aj (oi h3)).2 (ay ?_ (.ret _))
    rw[beq_eq_false_iff_ne.2 (show next.length≠modes.length by omega),Bool.and_false,Bool.false_and]
  ·refine(aj (oi h2)).2 (ay ?_ (.ret _))
   rw[beq_eq_false_iff_ne.2 h2,Bool.and_false];rfl
 ·refine(aj (oi h1)).2 (ay ?_ (.ret _))
  rw[beq_eq_false_iff_ne.2 h1];rfl
def JC:(Mode×ao)→Bool:=fun(x,m)=>jB m x
def H8:(Mode×ao)→Bool:=fun(_,m)=>(m.2.2.2.2.2.2.1.length:Int)==m.1
def ab1:aC:=⟨[b_,aP], [.bool],H8,JC⟩
theorem agc:Sd 142 ab1:=aU ar bU true 48 [⟨142,4, [[2,3,5]]⟩,⟨142,9, [[2,3,6]]⟩] [] (fun A ((xData,xExplicit,xNext),mNodes,mSlot,mGap,mWindow,mDrift,mDelay,mCold,mModes)=>U5 A xData xExplicit xNext mNodes mSlot mGap mWindow mDrift mDelay mCold mModes) Ak Ww (fc Tryz.func142 fz) sz (fun A y=>match y with |.c0 p a0=>⟨44,by kernel_rfl,by kernel_rfl⟩|.c1 p b0=>⟨50,by kernel_rfl,by kernel_rfl⟩) fun(((xData,xExplicit,xNext),mNodes,mSlot,mGap,mWindow,mDrift,mDelay,mCold,mModes):Mode×ao) hp h=>by
 show aB (Ak ah) (U5 ah xData xExplicit xNext mNodes mSlot mGap mWindow mDrift mDelay mCold mModes) (JC ((xData,xExplicit,xNext),mNodes,mSlot,mGap,mWindow,mDrift,mDelay,mCold,mModes))
 exact Yw h.1.1.1 h.1.2.1.1 (by simpa [H8] using hp)
structure Zf where
 (a0 a1 a2 a3 a4 a5 a6 a7:Int) (a8:List Bool) (a9:List Mode)
structure ZR where
 (b1 b3 b4 b5 b6 b7 b8:Int) (b9:List Bool) (b10:List Mode) (b11:List Int) (b12 b13:List Bool)
inductive Vb where
 | c0 (p:Zf)
 | c1 (p:ZR) (b0:Int) (b2:Int)
noncomputable def X2:Vb→eF
 | .c0 p=>⟨[⟨82,66,(en [(1,.ptr 0 0),(3,vi p.a0),(4,vi p.a1)]),[.inLoop (cw Tryz.f82 [1,1,0,1,0,0]),.inBlock 0,.code (cw Tryz.f82 [1,1,1])],[],none⟩],[.flat false [vi p.a2,vi p.a3,vi p.a4,vi p.a5,vi p.a6,vi p.a7,.sl .bool p.a8,.sl b_ p.a9],.dead]⟩
 | .c1 p b0 b2=>⟨[⟨82,66,(en [(1,.ptr 0 0),(3,vi b0),(4,vi p.b1),(5,.ptr 1 0),(6,vi b2)]),[.inLoop (cw Tryz.f82 [1,1,0,1,0,0,1,0,0,1,1,0,0]),.inBlock 2,.inBlock 1,.code (cw Tryz.f82 [1,1,0,1,0,0,1,1]),.inLoop (cw Tryz.f82 [1,1,0,1,0,0]),.inBlock 0,.code (cw Tryz.f82 [1,1,1])],[],none⟩],[.flat false [vi p.b3,vi p.b4,vi p.b5,vi p.b6,vi p.b7,vi p.b8,.sl .bool p.b9,.sl b_ p.b10],.flat false [.sl yI p.b11,.sl .bool p.b12,.sl .bool p.b13],.dead]⟩
def Zr(A:aK)(mNodes:Int)(mSlot:Int)(mGap:Int)(mWindow:Int)(mDrift:Int)(mDelay:Int)(mCold:List Bool)(mModes:List Mode):LT Int Vb:=.need (A.k (@tt (Int×Int)) (1,0)) (.need (A.k (@tt Int) (A.k DY (1,0))) (.more (.c0 ⟨(A.k J0 (A.k DY (1,0))),0,mNodes,mSlot,mGap,mWindow,mDrift,mDelay,mCold,mModes⟩)))
def DG(A:aK):Vb→LT Int Vb
 | .c0 p=>.br (A.c .lss p.a1 (A.l p.a9)) (.need (A.and (A.c .leq 0 p.a1) (A.c .lss p.a1 (A.l p.a9))) (.more (.c1 ⟨p.a1,p.a2,p.a3,p.a4,p.a5,p.a6,p.a7,p.a8,p.a9,(A.n b_ p.a9 p.a1:Mode).1,(A.n b_ p.a9 p.a1:Mode).2.1,(A.n b_ p.a9 p.a1:Mode).2.2⟩ p.a0 0))) (.ret p.a0)
 | .c1 p b0 b2=>.br (A.c .lss b2 (A.l p.b11)) (.br (A.c .lss b2 (A.l p.b12)) (.br (A.c .lss b2 p.b3) (.need (A.and (A.c .leq 0 b2) (A.c .lss b2 (A.l p.b12))) (.need (A.and (A.c .leq 0 b2) (A.c .lss b2 (A.l p.b11))) (.need (A.k (@tt (Bool×Int)) ((A.n .bool p.b12 b2:Bool),(A.n yI p.b11 b2:Int))) (.need (A.and (A.c .leq 0 b2) (A.c .lss b2 (A.l p.b11))) (.need (A.k (@tt (Int×Int)) ((A.k BA ((A.n .bool p.b12 b2:Bool),(A.n yI p.b11 b2:Int))),(A.n yI p.b11 b2:Int))) (.br (A.c .gtr (A.k DY ((A.k BA ((A.n .bool p.b12 b2:Bool),(A.n yI p.b11 b2:Int))),(A.n yI p.b11 b2:Int))) 0) (.need (A.k (@tt Int) (A.k DY ((A.k BA ((A.n .bool p.b12 b2:Bool),(A.n yI p.b11 b2:Int))),(A.n yI p.b11 b2:Int)))) (.more (.c1 p (A.mx b0 (A.k J0 (A.k DY ((A.k BA ((A.n .bool p.b12 b2:Bool),(A.n yI p.b11 b2:Int))),(A.n yI p.b11 b2:Int))))) (A.b .add .i64 b2 1)))) (.more (.c1 p b0 (A.b .add .i64 b2 1))))))))) (.more (.c0 ⟨b0,(A.b .add .i64 p.b1 1),p.b3,p.b4,p.b5,p.b6,p.b7,p.b8,p.b9,p.b10⟩))) (.more (.c0 ⟨b0,(A.b .add .i64 p.b1 1),p.b3,p.b4,p.b5,p.b6,p.b7,p.b8,p.b9,p.b10⟩))) (.more (.c0 ⟨b0,(A.b .add .i64 p.b1 1),p.b3,p.b4,p.b5,p.b6,p.b7,p.b8,p.b9,p.b10⟩))
theorem Ng:BA=lM:=rfl
theorem EP:J0=rX:=rfl
theorem KI:DY=pK:=funext fun⟨k,d⟩=>by rw[FO.1,FO.2]
theorem af2{n s g w d de:Int}{aW expl next:List Bool}{modes:List Mode}{data:List Int}{k k1:Int}{F:Int→Int}(hl:data.length≤140737488355328)(hk:ah.b .add .i64 k 1=k1)(hnext:∀b,aB (DG ah) (.more (.c0 ⟨b,k1,n,s,g,w,d,de,aW,modes⟩)) (F b)) :
  ∀(j i:Nat) (b:Int),data.length-i=j→i≤data.length→aB (DG ah) (.more (.c1 ⟨k,n,s,g,w,d,de,aW,modes,data,expl,next⟩ b (i:Int))) (F ((((data.zip expl).take n.toNat).drop i).foldl yH b)):=by
 intro j
 induction j with
 | zero=>
   intro i b hj hi
   have:i=data.length:=by omega
   subst this
   rw[ak,DG]
   refine(ai (by rw[bL,aI];simp)).2 ?_
   rw[vJ (.inr (.inr (Nat.le_refl _))),hk]
   exact hnext b
 | succ j ih=>
   intro i b hj hi
   have hi':i<data.length:=by omega
   rw[ak,DG]
   refine(aj (by rw[bL,aI];simp;omega)).2 ?_
   have hm:=fun b=>ih (i+1) b (by omega) (by omega)
   by_cases h2:i<expl.length
   ·refine(aj (by rw[bL,aI];simpa using h2)).2 ?_
    by_cases h3:(i:Int)<n
    ·refine(aj (by rw[Ky];simpa using h3)).2 (af.2 ⟨aS (show i<expl.length from h2),af.2 ⟨aS hi',af.2 ⟨rfl,af.2 ⟨aS hi',af.2 ⟨rfl,?_⟩⟩⟩⟩⟩)
     rw[Rs hi' h2 h3,List.foldl_cons,RN,←Se hi',←uR h2,cu (i:=i) (by omega),Ng,KI,EP]
     cases hb:ah.c .gtr (ah.k pK ((ah.k lM ((ah.n .bool expl (i:Int):Bool),(ah.n (.int .i64) data (i:Int):Int))),(ah.n (.int .i64) data (i:Int):Int))) 0
     ·exact(ai rfl).2 (hm _)
     ·exact(aj rfl).2 (af.2 ⟨rfl,hm _⟩)
    ·refine(ai (by rw[Ky];simpa using h3)).2 ?_
     rw[vJ (.inr (.inl (by omega))),hk];exact hnext b
   ·refine(ai (by rw[bL,aI];simpa using h2)).2 ?_
    rw[vJ (.inl (by omega)),hk];exact hnext b
theorem abS{n s g w d de:Int}{aW:List Bool}{modes:List Mode}(hl:modes.length≤140737488355328)(hd:∀x∈modes,x.1.length≤140737488355328) :
  ∀(j k:Nat) (b:Int),modes.length-k=j→k≤modes.length→aB (DG ah) (.more (.c0 ⟨b,(k:Int),n,s,g,w,d,de,aW,modes⟩)) ((modes.drop k).foldl (ub n.toNat) b):=by
 intro j
 induction j with
 | zero=>
   intro k b hj hk
   have:k=modes.length:=by omega
   subst this
   rw[ak,DG]
   refine(ai (by rw[bL,aI];simp)).2 ?_
   rw[List.drop_length]
   exact .ret _
 | succ j ih=>
   intro k b hj hk
   have hk':k<modes.length:=by omega
   rw[ak,DG]
   refine(aj (by rw[bL,aI];simp;omega)).2 (af.2 ⟨aS hk',?_⟩)
   rw[show(ah.n b_ modes (k:Int):Mode)=modes[k] from getD_in hk' _,List.drop_eq_getElem_cons hk',List.foldl_cons]
   exact af2 (F:=fun b=>(modes.drop (k+1)).foldl (ub n.toNat) b) (hd _ (List.getElem_mem hk')) (cu (by omega)) (fun b=>ih (k+1) b (by omega) (by omega)) modes[k].1.length 0 b rfl (by omega)
theorem aeC{n s g w d de:Int}{aW:List Bool}{modes:List Mode}(h:Ty.has aP (n,s,g,w,d,de,aW,modes)):aB (DG ah) (Zr ah n s g w d de aW modes) (gv (n,s,g,w,d,de,aW,modes)):=by
 unfold Zr
 rw[KI,EP]
 exact af.2 ⟨rfl,af.2 ⟨rfl,abS (mr h).2.2.1 (fun x hx=>((mr h).2.2.2 x hx).1) modes.length 0 _ rfl (by omega)⟩⟩
def BV:ao→Int:=gv
def acG:aC:=⟨[aP], [yI],(@tt ao),BV⟩
theorem VX:Sd 82 acG:=aU ar bU true 24 [⟨82,3, [[1,3,4]]⟩,⟨82,7, [[1,3,4,5,6]]⟩] [] (fun A (mNodes,mSlot,mGap,mWindow,mDrift,mDelay,mCold,mModes)=>Zr A mNodes mSlot mGap mWindow mDrift mDelay mCold mModes) DG X2 (fc Tryz.func82 fz) (sc aij (sc afr (sc aa_ sz))) (fun A y=>match y with |.c0 p=>⟨35,by kernel_rfl,by kernel_rfl⟩|.c1 p b0 b2=>⟨72,by kernel_rfl,by kernel_rfl⟩) fun(mNodes,mSlot,mGap,mWindow,mDrift,mDelay,mCold,mModes) hp h=>aeC h
structure WQ where
 (a1 a2 a3 a4 a5 a6:Int) (a7:List Bool) (a8:List Mode)
inductive TU where
 | c0 (p:WQ) (a0:Int)
noncomputable def X5:TU→eF
 | .c0 p a0=>⟨[⟨69,120,(en [(1,.ptr 0 0),(3,vi a0)]),[.inLoop (cw Tryz.f69 [1,1,0,1,0,0]),.inBlock 0,.code (cw Tryz.f69 [1,1,1])],[],none⟩],[.flat false [vi p.a1,vi p.a2,vi p.a3,vi p.a4,vi p.a5,vi p.a6,.sl .bool p.a7,.sl b_ p.a8],.dead]⟩
def Zx(A:aK)(mNodes:Int)(mSlot:Int)(mGap:Int)(mWindow:Int)(mDrift:Int)(mDelay:Int)(mCold:List Bool)(mModes:List Mode):LT Int TU:=.br (A.c .lss mNodes 4) (.ret 70) (.br (A.c .gtr mNodes 8) (.ret 70) (.br (A.c .lss (A.l mModes) 1) (.ret 70) (.br (A.c .gtr (A.l mModes) 4) (.ret 70) (.br (A.c .neq (A.l mCold) mNodes) (.ret 70) (.need (A.k (@tt (List Bool)) mCold) (.br (A.c .lss (A.k Gw mCold) 2) (.ret 70) (.more (.c0 ⟨mNodes,mSlot,mGap,mWindow,mDrift,mDelay,mCold,mModes⟩ 0))))))))
def LK(A:aK):TU→LT Int TU
 | .c0 p a0=>.br (A.c .lss a0 (A.l p.a8)) (.need (A.and (A.c .leq 0 a0) (A.c .lss a0 (A.l p.a8))) (.need (A.k H8 ((A.n b_ p.a8 a0:Mode),p.a1,p.a2,p.a3,p.a4,p.a5,p.a6,p.a7,p.a8)) (.br (A.not (A.k JC ((A.n b_ p.a8 a0:Mode),p.a1,p.a2,p.a3,p.a4,p.a5,p.a6,p.a7,p.a8))) (.ret 70) (.more (.c0 p (A.b .add .i64 a0 1)))))) (.br (A.c .lss p.a5 0) (.ret 70) (.br (A.c .gtr p.a5 64) (.ret 70) (.br (A.c .lss p.a6 0) (.ret 70) (.br (A.c .gtr p.a6 64) (.ret 70) (.br (A.c .lss p.a4 (A.b .add .i64 (A.b .mul .i64 (A.b .mul .i64 16 p.a1) p.a5) 16)) (.ret 70) (.br (A.c .gtr p.a4 1048576) (.ret 70) (.br (A.c .lss p.a3 (A.b .add .i64 (A.b .add .i64 (A.b .mul .i64 2 p.a4) (A.b .mul .i64 2 p.a6)) 4)) (.ret 70) (.br (A.c .gtr p.a3 1048576) (.ret 70) (.need (A.k (@tt ao) (p.a1,p.a2,p.a3,p.a4,p.a5,p.a6,p.a7,p.a8)) (.br (A.c .lss p.a2 (A.b .add .i64 (A.b .mul .i64 2 p.a3) (A.k BV (p.a1,p.a2,p.a3,p.a4,p.a5,p.a6,p.a7,p.a8)))) (.ret 70) (.br (A.c .gtr p.a2 16777216) (.ret 70) (.ret 0))))))))))))
theorem Ul{n s g w d de:Int}{aW:List Bool}{modes:List Mode}{R:Int}(hn:4≤n∧n≤8)(hR:R=bif lh n s g w d de (gv (n,s,g,w,d,de,aW,modes)) then 0 else 70) :
  aB (LK ah) (.br (ah.c .lss d 0) (.ret 70) (.br (ah.c .gtr d 64) (.ret 70) (.br (ah.c .lss de 0) (.ret 70) (.br (ah.c .gtr de 64) (.ret 70) (.br (ah.c .lss w (ah.b .add .i64 (ah.b .mul .i64 (ah.b .mul .i64 16 n) d) 16)) (.ret 70) (.br (ah.c .gtr w 1048576) (.ret 70) (.br (ah.c .lss g (ah.b .add .i64 (ah.b .add .i64 (ah.b .mul .i64 2 w) (ah.b .mul .i64 2 de)) 4)) (.ret 70) (.br (ah.c .gtr g 1048576) (.ret 70) (.need (ah.k (@tt ao) (n,s,g,w,d,de,aW,modes)) (.br (ah.c .lss s (ah.b .add .i64 (ah.b .mul .i64 2 g) (ah.k BV (n,s,g,w,d,de,aW,modes)))) (.ret 70) (.br (ah.c .gtr s 16777216) (.ret 70) (.ret 0)))))))))))) R:=by
 have hm:=vu (m:=(n,s,g,w,d,de,aW,modes))
 have no:∀{p:Prop} [Decidable p],¬p→decide p=false:=fun h=>by simpa using h
 rw[hR]
 refine aA (p:=d<0) rfl (fun h=>ay ?_ (.ret _)) fun h1=>aA (p:=64<d) rfl (fun h=>ay ?_ (.ret _)) fun h2=>aA (p:=de<0) rfl (fun h=>ay ?_ (.ret _)) fun h3=>aA (p:=64<de) rfl (fun h=>ay ?_ (.ret _)) fun h4=>?_
 ·rw[lh,no (by omega)];rfl
 ·rw[lh,no (by omega)];rfl
 ·rw[lh,no (by omega)];rfl
 ·rw[lh,no (by omega)];rfl
 have:=qR (n:=n) (d:=d) hn (by omega)
 rw[RP hn (by omega)]
 refine aA (p:=w<16*n*d+16) rfl (fun h=>ay ?_ (.ret _)) fun h5=>aA (p:=1048576<w) rfl (fun h=>ay ?_ (.ret _)) fun h6=>?_
 ·rw[lh,no (by omega)];rfl
 ·rw[lh,no (by omega)];rfl
 rw[Nl (by omega) (by omega)]
 refine aA (p:=g<2*w+2*de+4) rfl (fun h=>ay ?_ (.ret _)) fun h7=>aA (p:=1048576<g) rfl (fun h=>ay ?_ (.ret _)) fun h8=>af.2 ⟨rfl,?_⟩
 ·rw[lh,no (by omega)];rfl
 ·rw[lh,no (by omega)];rfl
 rw[show ah.k BV (n,s,g,w,d,de,aW,modes)=gv (n,s,g,w,d,de,aW,modes) from rfl,Kn (by omega) hm]
 refine aA (p:=s<2*g+gv (n,s,g,w,d,de,aW,modes)) rfl (fun h=>ay ?_ (.ret _)) fun h9=>aA (p:=16777216<s) rfl (fun h=>ay ?_ (.ret _)) fun h10=>ay ?_ (.ret _)
 ·rw[lh,no (by omega)];rfl
 ·rw[lh,no (by omega)];rfl
 ·rw[lh,decide_eq_true (by omega)];rfl
theorem R6{n s g w d de:Int}{aW:List Bool}{modes:List Mode}(hl:modes.length≤140737488355328)(hc:(aW.length:Int)=n)(hn:4≤n∧n≤8):∀(j i:Nat),modes.length-i=j→i≤modes.length→
  aB (LK ah) (.more (.c0 ⟨n,s,g,w,d,de,aW,modes⟩ (i:Int))) (bif (modes.drop i).all (jB (n,s,g,w,d,de,aW,modes))&&lh n s g w d de (gv (n,s,g,w,d,de,aW,modes)) then 0 else 70):=by
 intro j
 induction j with
 | zero=>
   intro i hj hi
   have:i=modes.length:=by omega
   subst this
   rw[ak,LK]
   refine(ai (by rw[bL,aI];simp)).2 (Ul hn ?_)
   rw[List.drop_length];rfl
 | succ j ih=>
   intro i hj hi
   have hi':i<modes.length:=by omega
   rw[ak,LK]
   refine(aj (by rw[bL,aI];simp;omega)).2 (af.2 ⟨aS hi',?_⟩)
   have e:(ah.n b_ modes (i:Int):Mode)=modes[i]:=getD_in hi' _
   rw[e,List.drop_eq_getElem_cons hi',List.all_cons]
   refine af.2 ⟨by show((aW.length:Int)==n)=true;simpa using hc,?_⟩
   have hf:ah.k JC (modes[i],n,s,g,w,d,de,aW,modes)=jB (n,s,g,w,d,de,aW,modes) modes[i]:=rfl
   rw[hf]
   cases jB (n,s,g,w,d,de,aW,modes) modes[i]
   ·exact(aj rfl).2 (.ret _)
   ·refine(ai rfl).2 ?_
    rw[cu (i:=i) (by omega),Bool.true_and]
    exact ih (i+1) (by omega) (by omega)
theorem T4{n s g w d de:Int}{aW:List Bool}{modes:List Mode}(h:Ty.has aP (n,s,g,w,d,de,aW,modes)):aB (LK ah) (Zx ah n s g w d de aW modes) (i_ (n,s,g,w,d,de,aW,modes)):=by
 unfold Zx i_ dh countB
 simp only[mh,bL]
 refine aA (p:=n<4) rfl (fun h=>ay ?_ (.ret _)) fun h1=>aA (p:=8<n) rfl (fun h=>ay ?_ (.ret _)) fun h2=>aA (p:=(modes.length:Int)<1) rfl (fun h=>ay ?_ (.ret _)) fun h3=>aA (p:=4<(modes.length:Int)) rfl (fun h=>ay ?_ (.ret _)) fun h4=>?_
 ·rw[decide_eq_false (show ¬4≤n by omega)];rfl
 ·rw[decide_eq_false (show ¬n≤8 by omega),Bool.and_false];rfl
 ·rw[decide_eq_false (show ¬(1:Int)≤modes.length by omega),Bool.false_and,Bool.and_false];rfl
 ·rw[decide_eq_false (show ¬(modes.length:Int)≤4 by omega),Bool.and_false,Bool.and_false];rfl
 rw[decide_eq_true (show 4≤n by omega),decide_eq_true (show n≤8 by omega),decide_eq_true (show(1:Int)≤modes.length by omega),decide_eq_true (show(modes.length:Int)≤4 by omega)]
 by_cases h5:(aW.length:Int)=n
 ·refine(ai (jG h5)).2 (af.2 ⟨rfl,?_⟩)
  rw[show ah.k Gw aW=(aW.count true:Int) from rfl,beq_iff_eq.2 h5]
  refine aA (p:=(aW.count true:Int)<2) rfl (fun h=>ay ?_ (.ret _)) fun h6=>ay ?_ (R6 (mr h).2.2.1 h5 (by omega) modes.length 0 rfl (by omega))
  ·rw[decide_eq_false (show ¬(2:Int)≤aW.count true by omega)];rfl
  ·rw[decide_eq_true (show(2:Int)≤aW.count true by omega)];rfl
 ·refine(aj (oi h5)).2 (ay ?_ (.ret _))
  rw[beq_eq_false_iff_ne.2 h5];rfl
def yy:ao→Int:=i_
def abx:aC:=⟨[aP], [yI],(@tt ao),yy⟩
theorem Vn:Sd 69 abx:=aU ar bU true 58 [⟨69,4, [[1,3]]⟩] [] (fun A (mNodes,mSlot,mGap,mWindow,mDrift,mDelay,mCold,mModes)=>Zx A mNodes mSlot mGap mWindow mDrift mDelay mCold mModes) LK X5 (fc Tryz.func69 fz) (sc VX (sc acR (sc agc sz))) (fun A y=>match y with |.c0 p a0=>⟨100,by kernel_rfl,by kernel_rfl⟩) fun(mNodes,mSlot,mGap,mWindow,mDrift,mDelay,mCold,mModes) hp h=>T4 h
def rhoC:Shelf.Ren:=⟨fun x=>match x with|4=>134|n=>n,fun x=>match x with|22=>30|4=>4|5=>5|n=>n,fun x=>x⟩
theorem VH:SlLaysK.n4 Tryz.prog rhoC:=
 {mixed:=by kernel_rfl,f4:=Tryz.func134.trans (congrArg some (by kernel_rfl)),t4:=Tryz.underlying4,a4:=Tryz.isAgg4,z4:=Tryz.sizeOf4,v4:=Tryz.zeroValue4,t22:=Tryz.underlying30,a22:=Tryz.isAgg30,z22:=Tryz.sizeOf30,v22:=Tryz.zeroValue30,t5:=Tryz.underlying5,i5:=by kernel_rfl}
def jv:List Int→List Int:=fun x=>x
def agx:aC:=⟨[.slice (.int .u8)], [.slice (.int .u8)],@tt (List Int),jv⟩
theorem LL{w:World}{I:Nat→Prop}{x:List Int}{v:Value}(hv:aR w I (.slice (.int .u8)) [v] x):Calls Tryz.prog 134 #[v] w fun e w'=>∃v,e=.returned v∧w'.os=w.os∧w'.tape=w.tape∧w'.output=w.output∧w.heap.size≤w'.heap.size∧(∀b,b<w.heap.size→w'.heap[b]? = w.heap[b]?)∧
   ∃I',(∀b,I' b→I b∨(w.heap.size≤b∧b<w'.heap.size))∧aR w' I' (.slice (.int .u8)) [v] x:=by
 have hx:x.length≤dB∧∀y∈x,IntKind.u8.has y:=aR.has _ hv
 obtain⟨a,cap,e,h1,h2,h3,h4⟩:=bF.1 hv
 cases e
 cases a with
 | none=>
   have hx0:x=[]:=List.eq_nil_of_length_eq_zero (by have h3':cap=0:=h3 rfl;have h1':x.length≤cap:=h1;omega)
   subst hx0
   refine(Any.bytes_Clone_nil VH 0 cap w).mono ?_
   rintro e w' ⟨rfl,rfl⟩
   exact⟨_,rfl,rfl,rfl,rfl,Nat.le_refl _,fun _ _=>rfl,I,fun b h=>.inl h,bF.2 ⟨none,0,rfl,Nat.le_refl _,Nat.zero_le _,(fun _=>rfl),fun i y h=>by cases h⟩⟩
 | some a=>
   refine(Any.bytes_Clone_at VH a x.length cap x w rfl h2 fun i hi=>?_).mono ?_
   ·obtain⟨b,off,us,ea,_,hl,hr,hc⟩:=h4 i x[i] (List.getElem?_eq_getElem hi)
    cases ea
    have hus:=(mP.1 hc).1
    subst hus
    have:=hr 0 _ rfl
    rw[Addr.add_lit,List.getD_eq_getElem?_getD,List.getElem?_eq_getElem hi]
    simpa [Ty.size] using this
   ·rintro e w' ⟨v',rfl,⟨hn,hrow⟩,hnil,hb⟩
    rcases hrow with ⟨hz,_⟩|⟨g,cap',cur,rfl,hbase,hg,hcap,hml,hsz,htk⟩
    ·exact absurd hz hnil
    refine⟨_,rfl,hb.os,hb.tape,hb.output,hb.size,hb.block,fun b=>w.heap.size≤b∧b<w'.heap.size,fun b h=>.inr h,bF.2 ⟨_,cap',rfl,hcap,h2,(fun h=>by cases h),fun i y hy=>?_⟩⟩
    have hy:x[i]? = some y:=hy
    have hi:i<x.length:=(List.getElem?_eq_some_iff.1 hy).1
    refine⟨g,0, [.int .u8 y],rfl,⟨hbase,(Array.getElem?_eq_some_iff.1 hg).1⟩,rfl,?_,mP.2 ⟨rfl,hx.2 y (List.mem_of_getElem? hy)⟩⟩
    have hrw:=dT (w:=w') hg i 1
    have:(cur.toList.drop i).take 1=[Value.int .u8 y]:=by
     have h5:(cur.toList.take (x.length*1))[i]? = some (Value.int .u8 y):=by
      rw[htk,List.getElem?_map,hy];rfl
     rw[List.getElem?_take_of_lt (by omega)] at h5
     obtain⟨h6,h7⟩:=List.getElem?_eq_some_iff.1 h5
     rw[List.drop_eq_getElem_cons h6,h7];rfl
    rw[this] at hrw
    simpa [Ty.size] using hrw
theorem BM:aC.Sound Tryz.prog 134 agx:=by
 refine⟨fun w I x aa hI hrep _=>?_,⟨Tryz.f134,Tryz.func134,by kernel_rfl,by kernel_rfl⟩⟩
 obtain⟨l⟩:=aa
 obtain⟨v,rfl,hv⟩:∃v,l=[v]∧gy w I (.slice (.int .u8)) v x:=by
  have h:=hrep
  exact h
 exact LL hv
theorem wrap_i64(n:Int):IntKind.i64.wrap n=if n%18446744073709551616 ≥ 9223372036854775808 then n%18446744073709551616-18446744073709551616 else n%18446744073709551616:=by
 simp[IntKind.wrap,IntKind.signed,IntKind.bits]
theorem Yl{n s g w d de:Int}{aW:List Bool}{modes:List Mode}(h:dh (n,s,g,w,d,de,aW,modes)=true):(4≤n∧n≤8)∧((1:Int)≤modes.length∧(modes.length:Int)≤4)∧(aW.length:Int)=n∧modes.all (jB (n,s,g,w,d,de,aW,modes))=true∧(0≤d∧d≤64∧0≤de∧de≤64∧16≤w∧w≤1048576∧36≤g∧g≤1048576∧72≤s∧s≤16777216):=by
 simp only[dh,countB,mh,lh,Bool.and_eq_true,decide_eq_true_eq,beq_iff_eq] at h
 obtain⟨⟨⟨⟨⟨h1,h2⟩,h3⟩,_⟩,h4⟩,h5⟩:=h
 have:=qR h1 (d:=d) (by omega)
 have hm:=vu (m:=(n,s,g,w,d,de,aW,modes))
 exact⟨h1,h2,h3,h4,by omega⟩
theorem T3{b:Int×List Int}(h:(nC b).2=true):rH (nC b).1=true:=by
 rw[nC] at h ⊢
 cases hp:((nS (b,zS)).2 != 0||(nS (b,zS)).1.1==2)
 ·rw[Bool.or_eq_false_iff] at hp
  have h0:(nS (b,zS)).2=0:=by simpa using hp.1
  rw[cond_false]
  exact Ug h0
 ·rw[hp] at h;cases h
theorem O6{f:mR}(h:rH f=true):0≤f.2.2.2.1∧f.2.2.2.1≤7∧0≤f.2.2.1.2.1∧f.2.2.1.2.1≤7:=by
 obtain⟨k,r,⟨t,p,m,n,s⟩,fr,d⟩:=f
 simp only[rH,Bool.and_eq_true] at h
 have hs:=Gc.1 h.1.1.1
 have h2:=h.2
 cases hk:k==1
 ·rw[hk,cond_false] at h2
  have:fr=0:=by
   cases hk3:k==3
   ·rw[hk3] at h2;simp at h2;exact h2.2
   ·rw[hk3] at h2;simp at h2;exact h2.2
  subst this
  exact⟨show(0:Int)≤0 by omega,show(0:Int)≤7 by omega,hs.2.1.1,hs.2.1.2⟩
 ·rw[hk,cond_true] at h2
  simp only[Bool.and_eq_true,decide_eq_true_eq] at h2
  exact⟨h2.1.2.1,h2.1.2.2,hs.2.1.1,hs.2.1.2⟩
abbrev R4(b:Bool):Prop:=b=b
section
variable {R Y:Type} {step:Y→LT R Y} {t:LT R Y} {r:R}
end
theorem j_{b:Bool}{α:Type}{x y:α}(h:b=false):y=bif b then x else y:=by rw[h];rfl
theorem jm{p:Prop}[Decidable p]{b:Bool}(h:¬p):(decide p&&b)=false:=by rw[decide_eq_false h];rfl
theorem bp{p:Prop}[Decidable p]{b:Bool}(h:p):(decide p&&b)=b:=by rw[decide_eq_true h];rfl
theorem Ji{α:Type}{l:List α}{i:Nat}:ah.c .lss (i:Int) (ah.l l)=decide (i<l.length):=aI
def Uu(A:aK)(n:Int)(least:Int)(most:Int):LT Bool Empty:=.br (A.c .geq n least) (.ret (A.c .leq n most)) (.ret false)
def nZ:(Int×Int×Int)→Bool:=fun(n,least,most)=>(Uu ah n least most).val (Ty.bl [.bool])
def ae2:aC:=⟨[yI,yI,yI], [.bool],(@tt (Int×Int×Int)),nZ⟩
theorem Gp:Sd 96 ae2:=aL ar bU true 22 [] (fun A (n,least,most)=>Uu A n least most) (fc Tryz.func96 fz) sz (fun((n,least,most):Int×Int×Int) hp h=>by
 show(Uu ah n least most).pre=true
 simp[Uu,LT.pre,au,cm])
structure aaJ where
 (a0:List dx) (a1:Int) (a3:Bool)
inductive TX where
 | c0 (p:aaJ) (a2:Int)
noncomputable def Ym:TX→eF
 | .c0 p a2=>⟨[⟨173,19,(en [(0,.sl d_ p.a0),(1,.fn 95 [] []),(7,vi p.a1),(8,vi a2)]),[.inLoop (cw Tryz.f173 [1,0,1,0,0]),.inBlock 0,.code (cw Tryz.f173 [1,1])],[],none⟩,⟨97,9,.leaf,[.ops (ow Tryz.f97 [1,0]) ((ow Tryz.f97 [1,0]).toList.drop 2),.code .ret],[],none⟩,⟨44,43,(en [(37,vb p.a3)]),[.ops (ow Tryz.f44 [1,1,0,0]) ((ow Tryz.f44 [1,1,0,0]).toList.drop 37),.code (cw Tryz.f44 [1,1,0,1]),.code (cw Tryz.f44 [1,1,1])],[],none⟩],[.dead]⟩
def Xw(A:aK)(c:cJ):LT Int TX:=.need (A.k (@tt (Int×Int×Int)) ((A.l c.2.2.1),4,8)) (.br (A.not (A.k nZ ((A.l c.2.2.1),4,8))) (.ret 120) (.need (A.k (@tt (Int×Int×Int)) (c.1,0,(A.b .sub .i64 (A.l c.2.2.1) 1))) (.br (A.not (A.k nZ (c.1,0,(A.b .sub .i64 (A.l c.2.2.1) 1)))) (.ret 120) (.br (A.c .gtr (A.l c.2.1) 8) (.ret 120) (.need (A.k (@tt (Int×Int×Int)) (c.2.2.2.1,0,4)) (.br (A.not (A.k nZ (c.2.2.2.1,0,4))) (.ret 120) (.need (A.k (@tt (Int×Int×Int)) (c.2.2.2.2,(-1),3)) (.br (A.not (A.k nZ (c.2.2.2.2,(-1),3))) (.ret 120) (.more (.c0 ⟨c.2.2.1,(A.l c.2.2.1),false⟩ 0))))))))))
def OY(A:aK):TX→LT Int TX
 | .c0 p a2=>.br (A.c .lss a2 p.a1) (.need (A.and (A.c .leq 0 a2) (A.c .lss a2 (A.l p.a0))) (.br (A.c .gtr (A.l (A.n d_ p.a0 a2:dx).1) 8) (.br p.a3 (.ret 120) (.br (A.c .geq a2 0) (.ret 120) (.ret 0))) (.need (A.k (@tt (Int×Int×Int)) ((A.n d_ p.a0 a2:dx).2,0,255)) (.br (A.not (A.k nZ ((A.n d_ p.a0 a2:dx).2,0,255))) (.br p.a3 (.ret 120) (.br (A.c .geq a2 0) (.ret 120) (.ret 0))) (.more (.c0 p (A.b .add .i64 a2 1))))))) (.br p.a3 (.ret 120) (.ret 0))
theorem By:nZ=fB:=rfl
def AZ(m:dx):Bool:=decide (¬8<(m.1.length:Int))&&decide (0≤m.2∧m.2≤255)
def cO(c:cJ):Bool:=decide (4≤(c.2.2.1.length:Int)∧(c.2.2.1.length:Int)≤8)&&(decide (0≤c.1∧c.1≤(c.2.2.1.length:Int)-1)&&(decide (¬8<(c.2.1.length:Int))&&(decide (0≤c.2.2.2.1∧c.2.2.2.1≤4)&&(decide (-1≤c.2.2.2.2∧c.2.2.2.2≤3)&&c.2.2.1.all AZ))))
def o3(c:cJ):Int:=bif cO c then 0 else 120
theorem qY{c:cJ}:o3 c=0↔cO c=true:=by unfold o3;cases cO c<;>decide
theorem ahI{l:List dx}(hl:l.length≤140737488355328):∀(j i:Nat),l.length-i=j→i≤l.length→aB (OY ah) (.more (.c0 ⟨l,(l.length:Int),false⟩ (i:Int))) (bif (l.drop i).all AZ then 0 else 120):=by
 intro j
 induction j with
 | zero=>
   intro i hj hi
   have:i=l.length:=by omega
   subst this
   rw[ak,OY]
   refine(ai (by rw[aI];simp)).2 ((ai rfl).2 ?_)
   rw[List.drop_length]
   exact .ret _
 | succ j ih=>
   intro i hj hi
   have hi':i<l.length:=by omega
   rw[ak,OY]
   refine(aj (by rw[aI];simp;omega)).2 (af.2 ⟨aS hi',?_⟩)
   rw[show(ah.n d_ l (i:Int):dx)=l[i] from getD_in hi' _,List.drop_eq_getElem_cons hi',List.all_cons,AZ,By]
   refine aA (p:=8<(l[i].1.length:Int)) rfl (fun h=>?_) fun h1=>af.2 ⟨rfl,dY (fun h=>?_) fun h2=>?_⟩
   ·rw[decide_eq_false (show ¬¬8<(l[i].1.length:Int) by omega)]
    exact(ai rfl).2 ((aj (by rw[aN];simp)).2 (.ret _))
   ·rw[decide_eq_false h,Bool.and_false]
    exact(ai rfl).2 ((aj (by rw[aN];simp)).2 (.ret _))
   ·rw[decide_eq_true h1,decide_eq_true h2,cu (i:=i) (by omega)]
    exact ih (i+1) (by omega) (by omega)
theorem JL{c:cJ}(h:Ty.has lf c):c.2.1.length≤140737488355328∧c.2.2.1.length≤140737488355328∧∀x∈c.2.2.1,x.1.length≤140737488355328:=by
 obtain⟨_,h1,h2,_⟩:=h
 exact⟨h1.1,h2.1,fun x hx=>(h2.2 x hx).1.1⟩
theorem ag5{c:cJ}(h:Ty.has lf c):aB (OY ah) (Xw ah c) (o3 c):=by
 have hc:=(JL h).2.1
 unfold Xw o3
 rw[By]
 simp only[bL]
 have hs:ah.b .sub .i64 (c.2.2.1.length:Int) 1=(c.2.2.1.length:Int)-1:=by rw[bf,gZ (by omega) (by omega)]
 rw[hs]
 refine af.2 ⟨rfl,dY (fun h=>?_) fun h1=>af.2 ⟨rfl,dY (fun h=>?_) fun h2=>aA (p:=8<(c.2.1.length:Int)) rfl (fun h=>?_) fun h3=>af.2 ⟨rfl,dY (fun h=>?_) fun h4=>af.2 ⟨rfl,dY (fun h=>?_) fun h5=>?_⟩⟩⟩⟩
 ·exact ay (j_ (by rw[cO,jm h])) (.ret _)
 ·exact ay (j_ (by rw[cO,bp h1,jm h])) (.ret _)
 ·exact ay (j_ (by rw[cO,bp h1,bp h2,jm (fun k=>k h)])) (.ret _)
 ·exact ay (j_ (by rw[cO,bp h1,bp h2,bp h3,jm h])) (.ret _)
 ·exact ay (j_ (by rw[cO,bp h1,bp h2,bp h3,bp h4,jm h])) (.ret _)
 ·rw[cO,bp h1,bp h2,bp h3,bp h4,bp h5]
  exact ahI hc c.2.2.1.length 0 rfl (by omega)
def kY:cJ→Int:=o3
def adV:aC:=⟨[lf], [yI],(@tt cJ),kY⟩
theorem Bj:Sd 44 adV:=aU ar bU true 78 [⟨173,2, [[0,1,7,8], [], [37]]⟩] [] (fun A c=>Xw A c) OY Ym (fc Tryz.func44 (fc Tryz.func95 (fc Tryz.func97 (fc Tryz.func173 fz)))) (sc Gp sz) (fun A y=>match y with |.c0 p a2=>⟨68,by kernel_rfl,by kernel_rfl⟩) fun c hp h=>ag5 h
structure YM where
 (a1:cJ)
inductive R5 where
 | c0 (p:YM) (a0:Int)
noncomputable def W1:R5→eF
 | .c0 p a0=>⟨[⟨70,84,(en [(1,.ptr 0 0),(4,vi a0)]),[.inLoop (cw Tryz.f70 [1,1,1,0,1,0,0]),.inBlock 0,.code (cw Tryz.f70 [1,1,1,1])],[],none⟩],[.flat false (dc lf p.a1),.dead]⟩
def aaG(A:aK)(c:cJ):LT Int R5:=.br (A.c .lss (A.l c.2.2.1) 4) (.ret 120) (.br (A.c .gtr (A.l c.2.2.1) 8) (.ret 120) (.br (A.c .lss c.1 0) (.ret 120) (.br (A.c .geq c.1 (A.l c.2.2.1)) (.ret 120) (.br (A.c .gtr (A.l c.2.1) 8) (.ret 120) (.br (A.c .lss c.2.2.2.1 0) (.ret 120) (.br (A.c .gtr c.2.2.2.1 4) (.ret 120) (.br (A.c .lss c.2.2.2.2 (-1)) (.ret 120) (.br (A.c .geq c.2.2.2.2 4) (.ret 120) (.more (.c0 ⟨c⟩ 0))))))))))
def Oe(A:aK):R5→LT Int R5
 | .c0 p a0=>.br (A.c .lss a0 (A.l p.a1.2.2.1)) (.need (A.and (A.c .leq 0 a0) (A.c .lss a0 (A.l p.a1.2.2.1))) (.br (A.c .gtr (A.l (A.n d_ p.a1.2.2.1 a0:dx).1) 8) (.ret 120) (.need (A.and (A.c .leq 0 a0) (A.c .lss a0 (A.l p.a1.2.2.1))) (.br (A.c .lss (A.n d_ p.a1.2.2.1 a0:dx).2 0) (.ret 120) (.need (A.and (A.c .leq 0 a0) (A.c .lss a0 (A.l p.a1.2.2.1))) (.br (A.c .gtr (A.n d_ p.a1.2.2.1 a0:dx).2 255) (.ret 120) (.more (.c0 p (A.b .add .i64 a0 1))))))))) (.ret 0)
theorem aet{c:cJ}(hl:c.2.2.1.length≤140737488355328):∀(j i:Nat),c.2.2.1.length-i=j→i≤c.2.2.1.length→aB (Oe ah) (.more (.c0 ⟨c⟩ (i:Int))) (bif (c.2.2.1.drop i).all AZ then 0 else 120):=by
 intro j
 induction j with
 | zero=>
   intro i hj hi
   have:i=c.2.2.1.length:=by omega
   subst this
   rw[ak,Oe]
   refine(ai (by rw[Ji];simp)).2 ?_
   rw[List.drop_length]
   exact .ret _
 | succ j ih=>
   intro i hj hi
   have hi':i<c.2.2.1.length:=by omega
   rw[ak,Oe]
   refine(aj (by rw[Ji];simp;omega)).2 (af.2 ⟨aS hi',?_⟩)
   rw[show(ah.n d_ c.2.2.1 (i:Int):dx)=c.2.2.1[i] from getD_in hi' _,List.drop_eq_getElem_cons hi',List.all_cons,AZ]
   refine aA (p:=8<(c.2.2.1[i].1.length:Int)) rfl (fun h=>?_) fun h1=>af.2 ⟨aS hi',aA (p:=c.2.2.1[i].2<0) rfl (fun h=>?_) fun h2=>af.2 ⟨aS hi',aA (p:=255<c.2.2.1[i].2) rfl (fun h=>?_) fun h3=>?_⟩⟩
   ·rw[jm (fun k=>k h)];exact .ret _
   ·rw[bp h1,decide_eq_false (by omega)];exact .ret _
   ·rw[bp h1,decide_eq_false (by omega)];exact .ret _
   ·rw[bp h1,decide_eq_true (by omega),cu (i:=i) (by omega)]
    exact ih (i+1) (by omega) (by omega)
theorem aa7{c:cJ}(h:Ty.has lf c):aB (Oe ah) (aaG ah c) (o3 c):=by
 have hc:=(JL h).2.1
 unfold aaG o3
 simp only[bL]
 refine aA (p:=(c.2.2.1.length:Int)<4) rfl (fun h=>?_) fun h1=>aA (p:=8<(c.2.2.1.length:Int)) rfl (fun h=>?_) fun h2=>aA (p:=c.1<0) rfl (fun h=>?_) fun h3=>aA (p:=(c.2.2.1.length:Int)≤c.1) rfl (fun h=>?_) fun h4=>aA (p:=8<(c.2.1.length:Int)) rfl (fun h=>?_) fun h5=>aA (p:=c.2.2.2.1<0) rfl (fun h=>?_) fun h6=>aA (p:=4<c.2.2.2.1) rfl (fun h=>?_) fun h7=>aA (p:=c.2.2.2.2 < -1) rfl (fun h=>?_) fun h8=>aA (p:=4≤c.2.2.2.2) rfl (fun h=>?_) fun h9=>?_
 ·exact ay (j_ (by rw[cO,jm (by omega)])) (.ret _)
 ·exact ay (j_ (by rw[cO,jm (by omega)])) (.ret _)
 ·exact ay (j_ (by rw[cO,bp (by omega),jm (by omega)])) (.ret _)
 ·exact ay (j_ (by rw[cO,bp (by omega),jm (by omega)])) (.ret _)
 ·exact ay (j_ (by rw[cO,bp (by omega),bp (by omega),jm (by omega)])) (.ret _)
 ·exact ay (j_ (by rw[cO,bp (by omega),bp (by omega),bp (by omega),jm (by omega)])) (.ret _)
 ·exact ay (j_ (by rw[cO,bp (by omega),bp (by omega),bp (by omega),jm (by omega)])) (.ret _)
 ·exact ay (j_ (by rw[cO,bp (by omega),bp (by omega),bp (by omega),bp (by omega),jm (by omega)])) (.ret _)
 ·exact ay (j_ (by rw[cO,bp (by omega),bp (by omega),bp (by omega),bp (by omega),jm (by omega)])) (.ret _)
 ·rw[cO,bp (by omega),bp (by omega),bp (by omega),bp (by omega),bp (by omega)]
  exact aet hc c.2.2.1.length 0 rfl (by omega)
def VK:cJ→Int:=o3
def ad3:aC:=⟨[lf], [yI],(@tt cJ),VK⟩
theorem afK:Sd 70 ad3:=aU ar bU true 74 [⟨70,5, [[1,4]]⟩] [] (fun A c=>aaG A c) Oe W1 (fc Tryz.func70 fz) sz (fun A y=>match y with |.c0 p a0=>⟨56,by kernel_rfl,by kernel_rfl⟩) fun c hp h=>aa7 h
structure X8 where
 (a0:Int) (a2:cJ) (a3 a4 a5:Int)
inductive MB where
 | c0 (p:X8) (a1:Int) (a6:List dx)
noncomputable def aaY:MB→eF
 | .c0 p a1 a6=>⟨[⟨112,44,(en [(1,.ptr 0 0),(2,.ptr 1 0),(5,.own 2),(22,vi p.a0),(23,vi a1)]),[.inLoop (cw Tryz.f112 [1,1,1,1,0,1,0,0]),.inBlock 0,.code (cw Tryz.f112 [1,1,1,1,1])],[],none⟩],[.flat false (dc lf p.a2),.flat false [vi p.a3,.dq true,.dq true,vi p.a4,vi p.a5],.arr false d_ a6,.dead]⟩
abbrev QZ(A:aK)(c:cJ):=(A.spl (A.r (A.l c.2.2.1) (Ty.eQ d_:dx)) 0 (A.s c.2.2.1 0 (A.mn (A.l c.2.2.1) (A.l (A.r (A.l c.2.2.1) (Ty.eQ d_:dx))))))
def aav(A:aK)(c:cJ):LT (cJ×Int) MB:=.need (A.k (@tt cJ) c) (.br (A.c .neq (A.k kY c) 0) (.ret ((0,([]:List Int),([]:List dx),0,0),(A.k kY c))) (.need (A.and (A.c .eql (A.l c.2.2.1) (A.l c.2.2.1)) (A.and (A.c .leq 0 (A.l c.2.2.1)) (A.c .leq (A.l c.2.2.1) 4398046511104))) (.more (.c0 ⟨(A.l (QZ A c)),c,0,0,0⟩ 0 (QZ A c)))))
def Mv(A:aK):MB→LT (cJ×Int) MB
 | .c0 p a1 a6=>.br (A.c .lss a1 p.a0) (.need (A.and (A.c .leq 0 a1) (A.c .lss a1 (A.l a6))) (.need (A.k (@tt (List Int)) (A.n d_ a6 a1:dx).1) (.need (A.and (A.c .leq 0 a1) (A.c .lss a1 (A.l a6))) (.more (.c0 p (A.b .add .i64 a1 1) (A.set a6 a1 ((A.k jv (A.n d_ a6 a1:dx).1),(A.n d_ a6 a1:dx).2))))))) (.need (A.k (@tt (List Int)) p.a2.2.1) (.ret ((p.a2.1,(A.k jv p.a2.2.1),a6,p.a2.2.2.2),0)))
def xd:cJ:=(0,([]:List Int),([]:List dx),0,0)
def DR(c:cJ):cJ×Int:=bif cO c then(c,0) else(xd,120)
theorem ahy{c:cJ}{L z1 z2 z3:Int}{l:List dx}(hl:l.length≤140737488355328)(hL:L=(l.length:Int)):∀(j i:Nat),l.length-i=j→i≤l.length→aB (Mv ah) (.more (.c0 ⟨L,c,z1,z2,z3⟩ (i:Int) l)) ((c.1,c.2.1,l,c.2.2.2),0):=by
 subst hL
 intro j
 induction j with
 | zero=>
   intro i hj hi
   have:i=l.length:=by omega
   subst this
   rw[ak,Mv]
   exact(ai (by rw[aI];simp)).2 (af.2 ⟨rfl,.ret _⟩)
 | succ j ih=>
   intro i hj hi
   have hi':i<l.length:=by omega
   rw[ak,Mv]
   refine(aj (by rw[aI];simp;omega)).2 (af.2 ⟨aS hi',af.2 ⟨rfl,af.2 ⟨aS hi',?_⟩⟩⟩)
   have e:(ah.n d_ l (i:Int):dx)=l[i]:=getD_in hi' _
   have e2:ah.set l (i:Int) ((ah.k jv (ah.n d_ l (i:Int):dx).1),(ah.n d_ l (i:Int):dx).2)=l:=by
    rw[e]
    show l.set (i:Int).toNat l[i]=l
    rw[Int.toNat_natCast];exact List.set_getElem_self _
   rw[e2,cu (i:=i) (by omega)]
   exact ih (i+1) (by omega) (by omega)
theorem DN{α:Type}{l:List α}{d:α}:ah.spl (ah.r (ah.l l) d) 0 (ah.s l 0 (ah.mn (ah.l l) (ah.l (ah.r (ah.l l) d))))=l:=by
 simp[jf,nD,fY,nR,bL]
theorem aeZ{c:cJ}:aB (Mv ah) (aav ah c) (DR c):=by
 unfold aav QZ DR
 refine af.2 ⟨rfl,?_⟩
 rw[show ah.k kY c=o3 c from rfl,o3]
 cases hc:cO c
 ·exact(aj rfl).2 (.ret _)
 ·refine(ai rfl).2 ?_
  simp only[cO,Bool.and_eq_true,decide_eq_true_eq] at hc
  have h1:ah.and (ah.c .eql (ah.l c.2.2.1) (ah.l c.2.2.1)) (ah.and (ah.c .leq 0 (ah.l c.2.2.1)) (ah.c .leq (ah.l c.2.2.1) 4398046511104))=true:=by
   rw[bL,ax,ap,ap,aG,aG];simp;omega
  refine af.2 ⟨h1,?_⟩
  exact dJ (congrArg (fun z:List dx=>LT.more (MB.c0 ⟨ah.l z,c,0,0,0⟩ 0 z)) DN) (ahy (by omega) rfl c.2.2.1.length 0 rfl (by omega))
def iV:cJ→(cJ×Int):=DR
def adp:aC:=⟨[lf], [lf,yI],(@tt cJ),iV⟩
theorem NE:Sd 112 adp:=aU ar bU true 50 [⟨112,7, [[1,2,5,22,23]]⟩] [] (fun A c=>aav A c) Mv aaY (fc Tryz.func112 fz) (sc BM (sc Bj sz)) (fun A y=>match y with |.c0 p a1 a6=>⟨38,by kernel_rfl,by kernel_rfl⟩) fun c hp h=>aeZ
theorem aO{a b:Int}:ah.c .eql a b=decide (a=b):=by rw[ax,Bool.eq_iff_iff];simp
structure XS where
 (a0 a2:Int) (a3:List Int) (a4:cJ) (a5 a6 a7:Int) (a9:cJ) (cX dN a12:Int)
inductive Qf where
 | c0 (p:XS) (a1:Int) (a8:List dx)
noncomputable def YU:Qf→eF
 | .c0 p a1 a8=>⟨[⟨112,44,(en [(1,.ptr 0 0),(2,.ptr 1 0),(5,.own 2),(22,vi p.a0),(23,vi a1)]),[.inLoop (cw Tryz.f112 [1,1,1,1,0,1,0,0]),.inBlock 0,.code (cw Tryz.f112 [1,1,1,1,1])],[],none⟩,⟨110,42,(en [(1,vi p.a2),(2,.sl yU p.a3),(3,.ptr 3 0),(6,.ptr 4 0)]),[.ops (ow Tryz.f110 [1,0]) ((ow Tryz.f110 [1,0]).toList.drop 1),.code (cw Tryz.f110 [1,1])],[],none⟩],[.flat false (dc lf p.a4),.flat false [vi p.a5,.dq true,.dq true,vi p.a6,vi p.a7],.arr false d_ a8,.flat false (dc lf p.a9),.flat false [vi p.cX,.dq true,.dq true,vi p.dN,vi p.a12],.dead]⟩
abbrev Ov(A:aK)(c:cJ):=(A.spl (A.r (A.l c.2.2.1) (Ty.eQ d_:dx)) 0 (A.s c.2.2.1 0 (A.mn (A.l c.2.2.1) (A.l (A.r (A.l c.2.2.1) (Ty.eQ d_:dx))))))
def aaj(A:aK)(c:cJ)(slot:Int)(data:List Int):LT (cJ×Int) Qf:=.need (A.k (@tt cJ) c) (.br (A.c .neq (A.k kY c) 0) (.br (A.c .neq (A.k kY c) 0) (.ret ((0,([]:List Int),([]:List dx),0,0),(A.k kY c))) (.need (A.k (@tt (Int×Int×Int)) (slot,0,(A.b .sub .i64 (A.l c.2.2.1) 1))) (.br (A.not (A.k nZ (slot,0,(A.b .sub .i64 (A.l c.2.2.1) 1)))) (.ret ((0,([]:List Int),([]:List dx),0,0),2)) (.br (A.c .gtr (A.l data) 8) (.ret ((0,([]:List Int),([]:List dx),0,0),3)) (.need (A.k (@tt (List Int)) data) (.bad 37 "cni.go:107")))))) (.need (A.and (A.c .eql (A.l c.2.2.1) (A.l c.2.2.1)) (A.and (A.c .leq 0 (A.l c.2.2.1)) (A.c .leq (A.l c.2.2.1) 4398046511104))) (.more (.c0 ⟨(A.l (Ov A c)),slot,data,c,0,0,0,c,0,0,0⟩ 0 (Ov A c)))))
def L4(A:aK):Qf→LT (cJ×Int) Qf
 | .c0 p a1 a8=>.br (A.c .lss a1 p.a0) (.need (A.and (A.c .leq 0 a1) (A.c .lss a1 (A.l a8))) (.need (A.k (@tt (List Int)) (A.n d_ a8 a1:dx).1) (.need (A.and (A.c .leq 0 a1) (A.c .lss a1 (A.l a8))) (.more (.c0 p (A.b .add .i64 a1 1) (A.set a8 a1 ((A.k jv (A.n d_ a8 a1:dx).1),(A.n d_ a8 a1:dx).2))))))) (.need (A.k (@tt (List Int)) p.a4.2.1) (.need (A.k (@tt (Int×Int×Int)) (p.a2,0,(A.b .sub .i64 (A.l p.a9.2.2.1) 1))) (.br (A.not (A.k nZ (p.a2,0,(A.b .sub .i64 (A.l p.a9.2.2.1) 1)))) (.ret ((0,([]:List Int),([]:List dx),0,0),2)) (.br (A.c .gtr (A.l p.a3) 8) (.ret ((0,([]:List Int),([]:List dx),0,0),3)) (.need (A.k (@tt (List Int)) p.a3) (.need (A.and (A.c .leq 0 p.a2) (A.c .lss p.a2 (A.l a8))) (.ret ((p.a4.1,(A.k jv p.a4.2.1),(A.set a8 p.a2 ((A.k jv p.a3),0)),p.a4.2.2.2),0))))))))
def ml(c:cJ)(slot:Int)(data:List Int):cJ×Int:=
 bif cO c then(bif decide (0≤slot∧slot≤(c.2.2.1.length:Int)-1) then(bif decide (8<(data.length:Int)) then(xd,3) else((c.1,c.2.1,c.2.2.1.set slot.toNat (data,0),c.2.2.2),0)) else(xd,2)) else(xd,120)
def ag2:cJ×Int×List Int→cJ×Int:=fun(c,slot,data)=>ml c slot data
theorem Ey{c:cJ}(h:cO c=true):4≤c.2.2.1.length∧c.2.2.1.length≤8∧c.2.1.length≤8∧∀x∈c.2.2.1,x.1.length≤8∧0≤x.2∧x.2≤255:=by
 simp only[cO,Bool.and_eq_true,decide_eq_true_eq,List.all_eq_true,AZ] at h
 exact⟨by omega,by omega,by omega,fun x hx=>by have:=h.2.2.2.2.2 x hx;exact⟨by omega,this.2⟩⟩
theorem F9{c:cJ}(h:cO c=true):ah.and (ah.c .eql (ah.l c.2.2.1) (ah.l c.2.2.1)) (ah.and (ah.c .leq 0 (ah.l c.2.2.1)) (ah.c .leq (ah.l c.2.2.1) 4398046511104))=true:=by
 have:=Ey h
 rw[bL,ax,ap,ap,aG,aG];simp;omega
theorem E2{l:List dx}{i:Nat}(hi:i<l.length):ah.set l (i:Int) ((ah.k jv (ah.n d_ l (i:Int):dx).1),(ah.n d_ l (i:Int):dx).2)=l:=by
 rw[show(ah.n d_ l (i:Int):dx)=l[i] from getD_in hi _]
 show l.set (i:Int).toNat l[i]=l
 rw[Int.toNat_natCast];exact List.set_getElem_self _
theorem aii{c:cJ}{L slot z1 z2 z3 z4 z5 z6:Int}{data:List Int}{R:cJ×Int}(hl:c.2.2.1.length≤8)(hL:L=(c.2.2.1.length:Int))(hR:aB (L4 ah) (.more (.c0 ⟨L,slot,data,c,z1,z2,z3,c,z4,z5,z6⟩ (c.2.2.1.length:Int) c.2.2.1)) R) :
  ∀(j i:Nat),c.2.2.1.length-i=j→i≤c.2.2.1.length→aB (L4 ah) (.more (.c0 ⟨L,slot,data,c,z1,z2,z3,c,z4,z5,z6⟩ (i:Int) c.2.2.1)) R:=by
 subst hL
 intro j
 induction j with
 | zero=>
   intro i hj hi
   have:i=c.2.2.1.length:=by omega
   subst this
   exact hR
 | succ j ih=>
   intro i hj hi
   have hi':i<c.2.2.1.length:=by omega
   rw[ak,L4]
   refine(aj (by rw[aI];simp;omega)).2 (af.2 ⟨aS hi',af.2 ⟨rfl,af.2 ⟨aS hi',?_⟩⟩⟩)
   rw[E2 hi',cu (i:=i) (by omega)]
   exact ih (i+1) (by omega) (by omega)
theorem ahJ{c:cJ}{slot:Int}{data:List Int}:aB (L4 ah) (aaj ah c slot data) (ml c slot data):=by
 unfold aaj Ov ml
 refine af.2 ⟨rfl,?_⟩
 rw[show ah.k kY c=o3 c from rfl,o3]
 cases hc:cO c
 ·exact(aj rfl).2 ((aj rfl).2 (.ret _))
 ·obtain⟨h1,h2,_,_⟩:=Ey hc
  refine(ai rfl).2 (af.2 ⟨F9 hc,dJ (congrArg (fun z:List dx=>LT.more (Qf.c0 ⟨ah.l z,slot,data,c,0,0,0,c,0,0,0⟩ 0 z)) DN) (aii h2 rfl ?_ c.2.2.1.length 0 rfl (by omega))⟩)
  rw[ak,L4]
  have hs:ah.b .sub .i64 (c.2.2.1.length:Int) 1=(c.2.2.1.length:Int)-1:=by rw[bf,gZ (by omega) (by omega)]
  refine(ai (by rw[aI];simp)).2 (af.2 ⟨rfl,af.2 ⟨rfl,?_⟩⟩)
  rw[By]
  simp only[bL,hs]
  refine dY (fun h=>?_) fun h3=>aA (p:=8<(data.length:Int)) rfl (fun h=>?_) fun h4=>af.2 ⟨rfl,af.2 ⟨?_,?_⟩⟩
  ·rw[decide_eq_false h];exact .ret _
  ·rw[decide_eq_true h3,decide_eq_true h];exact .ret _
  ·rw[ap,al,aG];simp;omega
  ·rw[decide_eq_true h3,decide_eq_false h4];exact .ret _
def wH:(cJ×Int×List Int)→(cJ×Int):=ag2
def afd:aC:=⟨[lf,yI,yB], [lf,yI],(@tt (cJ×Int×List Int)),wH⟩
theorem VP:Sd 110 afd:=aU ar bU true 89 [⟨112,7, [[1,2,5,22,23], [1,2,3,6]]⟩] [] (fun A (c,slot,data)=>aaj A c slot data) L4 YU (fc Tryz.func110 (fc Tryz.func112 fz)) (sc BM (sc Bj (sc Gp sz))) (fun A y=>match y with |.c0 p a1 a8=>⟨86,by kernel_rfl,by kernel_rfl⟩) fun(c,slot,data) hp h=>ahJ
structure aar where
 (a0 a1 a2 a3 a4 a5 a6 a7:Int)
structure Xj where
 (b0:Int) (b2:cJ) (b3 b4 b5 b7 b8 b9:Int)
structure Yq where
 (c0 c2 c3 c4 c5:Int) (c6:List Int) (c7 c8:Int)
inductive QI where
 | c0 (p:aar)
 | c1 (p:Xj) (b1:Int) (b6:List dx)
 | c2 (p:Yq) (c1:Int) (c9:List dx)
noncomputable def ZC:QI→eF
 | .c0 p=>⟨[⟨57,42,(en [(2,.ptr 0 0),(4,.ptr 1 0),(18,vi p.a0),(19,vi p.a1)]),[.inLoop (cw Tryz.f57 [1,1,1,0,1,0,0]),.inBlock 0,.code (cw Tryz.f57 [1,1,1,1])],[],none⟩],[.flat false [vi p.a2,.dq true,.dq true,vi p.a3,vi p.a4],.flat false [vi p.a5,.dq true,.dq true,vi p.a6,vi p.a7],.dead]⟩
 | .c1 p b1 b6=>⟨[⟨112,44,(en [(1,.ptr 0 0),(2,.ptr 1 0),(5,.own 2),(22,vi p.b0),(23,vi b1)]),[.inLoop (cw Tryz.f112 [1,1,1,1,0,1,0,0]),.inBlock 0,.code (cw Tryz.f112 [1,1,1,1,1])],[],none⟩,⟨57,42,(en [(2,.ptr 3 0)]),[.ops (ow Tryz.f57 [1,0]) ((ow Tryz.f57 [1,0]).toList.drop 1),.code (cw Tryz.f57 [1,1])],[],none⟩],[.flat false (dc lf p.b2),.flat false [vi p.b3,.dq true,.dq true,vi p.b4,vi p.b5],.arr false d_ b6,.flat false [vi p.b7,.dq true,.dq true,vi p.b8,vi p.b9],.dead]⟩
 | .c2 p c1 c9=>⟨[⟨57,42,(en [(2,.ptr 0 0),(4,.ptr 1 0),(18,vi p.c0),(19,vi c1)]),[.inLoop (cw Tryz.f57 [1,1,1,0,1,0,0]),.inBlock 0,.code (cw Tryz.f57 [1,1,1,1])],[],none⟩],[.flat false [vi p.c2,.dq true,.dq true,vi p.c3,vi p.c4],.flat false [vi p.c5,.sl yU p.c6,.own 2,vi p.c7,vi p.c8],.arr false d_ c9,.dead]⟩
abbrev OU(A:aK)(c:cJ):=(A.spl (A.r (A.l c.2.2.1) (Ty.eQ d_:dx)) 0 (A.s c.2.2.1 0 (A.mn (A.l c.2.2.1) (A.l (A.r (A.l c.2.2.1) (Ty.eQ d_:dx))))))
def WT(A:aK)(c:cJ):LT (cJ×Int) QI:=.need (A.k (@tt cJ) c) (.br (A.c .neq (A.k kY c) 0) (.br (A.c .neq (A.k kY c) 0) (.ret ((0,([]:List Int),([]:List dx),0,0),(A.k kY c))) (.more (.c0 ⟨0,0,0,0,0,0,0,0⟩))) (.need (A.and (A.c .eql (A.l c.2.2.1) (A.l c.2.2.1)) (A.and (A.c .leq 0 (A.l c.2.2.1)) (A.c .leq (A.l c.2.2.1) 4398046511104))) (.more (.c1 ⟨(A.l (OU A c)),c,0,0,0,0,0,0⟩ 0 (OU A c)))))
def CM(A:aK):QI→LT (cJ×Int) QI
 | .c0 p=>.br (A.c .lss p.a1 p.a0) (.bad 37 "cni.go:118") (.ret ((p.a5,([]:List Int),([]:List dx),(A.mx (A.b .sub .i64 p.a6 1) 0),p.a7),0))
 | .c1 p b1 b6=>.br (A.c .lss b1 p.b0) (.need (A.and (A.c .leq 0 b1) (A.c .lss b1 (A.l b6))) (.need (A.k (@tt (List Int)) (A.n d_ b6 b1:dx).1) (.need (A.and (A.c .leq 0 b1) (A.c .lss b1 (A.l b6))) (.more (.c1 p (A.b .add .i64 b1 1) (A.set b6 b1 ((A.k jv (A.n d_ b6 b1:dx).1),(A.n d_ b6 b1:dx).2))))))) (.need (A.k (@tt (List Int)) p.b2.2.1) (.more (.c2 ⟨(A.l b6),p.b7,p.b8,p.b9,p.b2.1,(A.k jv p.b2.2.1),p.b2.2.2.2.1,p.b2.2.2.2.2⟩ 0 b6)))
 | .c2 p c1 c9=>.br (A.c .lss c1 p.c0) (.need (A.and (A.c .leq 0 c1) (A.c .lss c1 (A.l c9))) (.need (A.and (A.c .leq 0 c1) (A.c .lss c1 (A.l c9))) (.more (.c2 p (A.b .add .i64 c1 1) (A.set c9 c1 ((A.n d_ c9 c1:dx).1,(A.mn (A.b .add .i64 (A.n d_ c9 c1:dx).2 1) 255))))))) (.ret ((p.c5,p.c6,c9,(A.mx (A.b .sub .i64 p.c7 1) 0),p.c8),0))
def C5(m:dx):dx:=(m.1,ah.mn (ah.b .add .i64 m.2 1) 255)
def AJ(c:cJ):cJ×Int:=bif cO c then((c.1,c.2.1,c.2.2.1.map C5,ah.mx (ah.b .sub .i64 c.2.2.2.1 1) 0,c.2.2.2.2),0) else(xd,120)
theorem XV{f:dx→dx}{l:List dx}{i:Nat}(hi:i<l.length):(ah.n d_ ((l.take i).map f++l.drop i) (i:Int):dx)=l[i]∧ah.set ((l.take i).map f++l.drop i) (i:Int) (f l[i])=(l.take (i+1)).map f++l.drop (i+1):=by
 have hlen:i<((l.take i).map f++l.drop i).length:=by simp;omega
 have h1:((l.take i).map f).length=i:=by simp;omega
 constructor
 ·refine(getD_in hlen _).trans ?_
  rw[List.getElem_append_right (by rw[h1];exact Nat.le_refl _)]
  rw[List.getElem_drop]
  congr 1
  omega
 ·show List.set _ (i:Int).toNat _=_
  rw[Int.toNat_natCast,List.set_append_right _ _ (by rw[h1];exact Nat.le_refl _),h1,Nat.sub_self,List.drop_eq_getElem_cons hi,List.set_cons_zero,List.take_succ_eq_append_getElem hi,List.map_append,List.append_assoc]
  rfl
theorem U8{f:dx→dx}{l:List dx}{i:Nat}(hi:i≤l.length):((l.take i).map f++l.drop i).length=l.length:=by simp;omega
theorem ain{c:cJ}{L z1 z2 z3 z4 z5 z6:Int}{R:cJ×Int}(hl:c.2.2.1.length≤8)(hL:L=(c.2.2.1.length:Int))(hR:aB (CM ah) (.more (.c1 ⟨L,c,z1,z2,z3,z4,z5,z6⟩ (c.2.2.1.length:Int) c.2.2.1)) R) :
  ∀(j i:Nat),c.2.2.1.length-i=j→i≤c.2.2.1.length→aB (CM ah) (.more (.c1 ⟨L,c,z1,z2,z3,z4,z5,z6⟩ (i:Int) c.2.2.1)) R:=by
 subst hL
 intro j
 induction j with
 | zero=>
   intro i hj hi
   have:i=c.2.2.1.length:=by omega
   subst this
   exact hR
 | succ j ih=>
   intro i hj hi
   have hi':i<c.2.2.1.length:=by omega
   rw[ak,CM]
   refine(aj (by rw[aI];simp;omega)).2 (af.2 ⟨aS hi',af.2 ⟨rfl,af.2 ⟨aS hi',?_⟩⟩⟩)
   rw[E2 hi',cu (i:=i) (by omega)]
   exact ih (i+1) (by omega) (by omega)
theorem agQ{l:List dx}{L z1 z2 z3 id life want:Int}{out:List Int}(hl:l.length≤8)(hL:L=(l.length:Int)):∀(j i:Nat),l.length-i=j→i≤l.length→
  aB (CM ah) (.more (.c2 ⟨L,z1,z2,z3,id,out,life,want⟩ (i:Int) ((l.take i).map C5++l.drop i))) ((id,out,l.map C5,ah.mx (ah.b .sub .i64 life 1) 0,want),0):=by
 subst hL
 intro j
 induction j with
 | zero=>
   intro i hj hi
   have:i=l.length:=by omega
   subst this
   rw[ak,CM,List.take_length,List.drop_length,List.append_nil]
   exact(ai (by rw[aI];simp)).2 (.ret _)
 | succ j ih=>
   intro i hj hi
   have hi':i<l.length:=by omega
   have hx:i<((l.take i).map C5++l.drop i).length:=by rw[U8 hi];exact hi'
   obtain⟨a1,a2⟩:=XV (f:=C5) hi'
   rw[ak,CM]
   refine(aj (by rw[aI];simp;omega)).2 (af.2 ⟨aS hx,af.2 ⟨aS hx,?_⟩⟩)
   rw[a1,cu (i:=i) (by omega)]
   rw[show(l[i].1,ah.mn (ah.b .add .i64 l[i].2 1) 255)=C5 l[i] from rfl,a2]
   exact ih (i+1) (by omega) (by omega)
theorem ag4{c:cJ}:aB (CM ah) (WT ah c) (AJ c):=by
 unfold WT OU AJ
 refine af.2 ⟨rfl,?_⟩
 rw[show ah.k kY c=o3 c from rfl,o3]
 cases hc:cO c
 ·exact(aj rfl).2 ((aj rfl).2 (.ret _))
 ·obtain⟨h1,h2,_,_⟩:=Ey hc
  refine(ai rfl).2 (af.2 ⟨F9 hc,dJ (congrArg (fun z:List dx=>LT.more (QI.c1 ⟨ah.l z,c,0,0,0,0,0,0⟩ 0 z)) DN) (ain h2 rfl ?_ c.2.2.1.length 0 rfl (by omega))⟩)
  rw[ak,CM]
  exact(ai (by rw[aI];simp)).2 (af.2 ⟨rfl,agQ (l:=c.2.2.1) (out:=c.2.1) h2 rfl c.2.2.1.length 0 rfl (by omega)⟩)
def Nm:cJ→(cJ×Int):=AJ
def agd:aC:=⟨[lf], [lf,yI],(@tt cJ),Nm⟩
theorem acg:Sd 57 agd:=aU ar bU true 68 [⟨57,5, [[2,4,18,19]]⟩,⟨112,7, [[1,2,5,22,23], [2]]⟩] [] (fun A c=>WT A c) CM ZC (fc Tryz.func57 (fc Tryz.func112 fz)) (sc BM (sc Bj sz)) (fun A y=>match y with |.c0 p=>⟨28,by kernel_rfl,by kernel_rfl⟩|.c1 p b1 b6=>⟨56,by kernel_rfl,by kernel_rfl⟩|.c2 p c1 c9=>⟨41,by kernel_rfl,by kernel_rfl⟩) fun c hp h=>ag4
inductive UJ where
 | c0 (a0:Int) (a1:List dx)
noncomputable def YA:UJ→eF
 | .c0 a0 a1=>⟨[⟨162,48,(en [(7,.own 0),(8,vi a0)]),[.inLoop (cw Tryz.f162 [1,1,1,1,1,1,0,0,0]),.inBlock 0,.code (cw Tryz.f162 [1,1,1,1,1,1,1])],[],none⟩],[.arr false d_ a1,.dead]⟩
abbrev Ad(A:aK)(x2:List dx)(count:Int):=(A.v .i64 (A.b .mul .u64 (A.v .u64 (A.l x2)) (A.v .u64 count)))
abbrev Ve(A:aK)(x2:List dx)(count:Int):=(A.b .add .u64 (A.b .mul .u64 (A.b .shr .u64 (A.v .u64 (A.l x2)) 32) (A.b .and .u64 (A.v .u64 count) 4294967295)) (A.b .shr .u64 (A.b .mul .u64 (A.b .and .u64 (A.v .u64 (A.l x2)) 4294967295) (A.b .and .u64 (A.v .u64 count) 4294967295)) 32))
def ad4(A:aK)(x2:List dx)(count:Int):LT (List dx) UJ:=.br (A.c .lss count 0) (.bad 117 "slices.go:516") (.br (A.c .gtr (A.b .add .u64 (A.b .add .u64 (A.b .mul .u64 (A.b .shr .u64 (A.v .u64 (A.l x2)) 32) (A.b .shr .u64 (A.v .u64 count) 32)) (A.b .shr .u64 (Ve A x2 count) 32)) (A.b .shr .u64 (A.b .add .u64 (A.b .and .u64 (Ve A x2 count) 4294967295) (A.b .mul .u64 (A.b .and .u64 (A.v .u64 (A.l x2)) 4294967295) (A.b .shr .u64 (A.v .u64 count) 32))) 32)) 0) (.bad 117 "slices.go:522") (.br (A.c .gtr (A.b .mul .u64 (A.v .u64 (A.l x2)) (A.v .u64 count)) 9223372036854775807) (.bad 117 "slices.go:522") (.need (A.and (A.c .eql (Ad A x2 count) (Ad A x2 count)) (A.and (A.c .leq 0 (Ad A x2 count)) (A.c .leq (Ad A x2 count) 4398046511104))) (.more (.c0 (A.mn (A.l x2) (A.l (A.r (Ad A x2 count) (Ty.eQ d_:dx)))) (A.spl (A.r (Ad A x2 count) (Ty.eQ d_:dx)) 0 (A.s x2 0 (A.mn (A.l x2) (A.l (A.r (Ad A x2 count) (Ty.eQ d_:dx)))))))))))
def ae1(A:aK):UJ→LT (List dx) UJ
 | .c0 a0 a1=>.br (A.c .lss a0 (A.l a1)) (.need (A.and (A.c .leq 0 a0) (A.and (A.c .leq a0 (A.l a1)) (A.c .leq (A.l a1) (A.l a1)))) (.need (A.and (A.c .leq 0 0) (A.and (A.c .leq 0 a0) (A.c .leq a0 (A.l a1)))) (.more (.c0 (A.b .add .i64 a0 (A.mn (A.l (A.s a1 0 (A.b .add .i64 0 (A.b .sub .i64 a0 0)))) (A.b .sub .i64 (A.l a1) a0))) (A.spl a1 a0 (A.s (A.s a1 0 (A.b .add .i64 0 (A.b .sub .i64 a0 0))) 0 (A.mn (A.l (A.s a1 0 (A.b .add .i64 0 (A.b .sub .i64 a0 0)))) (A.b .sub .i64 (A.l a1) a0)))))))) (.ret a1)
def wh:dx:=(([]:List Int),255)
theorem aiz{l:List dx}{n:Int}(h:(decide (l=[(([]:List Int),255)])&&decide (4≤n)&&decide (n≤8))=true):aB (ae1 ah) (ad4 ah l n) (List.replicate n.toNat wh):=by
 simp only[Bool.and_eq_true,decide_eq_true_eq] at h
 obtain⟨⟨rfl,h1⟩,h2⟩:=h
 have hn:n=4∨n=5∨n=6∨n=7∨n=8:=by omega
 rcases hn with rfl|rfl|rfl|rfl|rfl <;>
  (refine(ai (by kernel_rfl)).2 ((ai (by kernel_rfl)).2 ((ai (by kernel_rfl)).2 (af.2 ⟨by kernel_rfl,?_⟩)))
   refine ak.2 ((aj (by kernel_rfl)).2 (af.2 ⟨by kernel_rfl,af.2 ⟨by kernel_rfl,(ak.2 ?_)⟩⟩))
   refine(aj (by kernel_rfl)).2 (af.2 ⟨by kernel_rfl,af.2 ⟨by kernel_rfl,(ak.2 ?_)⟩⟩))
 ·exact(ai (by kernel_rfl)).2 (ay (by kernel_rfl) (.ret _))
 all_goals exact(aj (by kernel_rfl)).2 (af.2 ⟨by kernel_rfl,af.2 ⟨by kernel_rfl,(ak.2 ((ai (by kernel_rfl)).2 (ay (by kernel_rfl) (.ret _))))⟩⟩)
def Vm:(List dx×Int)→(List dx):=fun(_,n)=>List.replicate n.toNat (([]:List Int),255)
def Ho:(List dx×Int)→Bool:=fun(l,n)=>decide (l=[(([]:List Int),255)])&&decide (4≤n)&&decide (n≤8)
def ac6:aC:=⟨[(.slice d_),yI], [(.slice d_)],Ho,Vm⟩
theorem acr:Sd 162 ac6:=aU ar bU true 175 [⟨162,8, [[7,8]]⟩] [] (fun A (x2,count)=>ad4 A x2 count) ae1 YA (fc Tryz.func162 (fc Tryz.func198 (fc Tryz.func259 fz))) sz (fun A y=>match y with |.c0 a0 a1=>⟨30,by kernel_rfl,by kernel_rfl⟩) fun((x2,count):List dx×Int) hp h=>aiz hp
def Zp(A:aK)(id:Int)(n:Int):LT (cJ×Int) Empty:=.need (A.k (@tt (Int×Int×Int)) (n,4,8)) (.br (A.not (A.k nZ (n,4,8))) (.ret ((0,([]:List Int),([]:List dx),0,0),120)) (.need (A.k (@tt (Int×Int×Int)) (id,0,(A.b .sub .i64 n 1))) (.br (A.not (A.k nZ (id,0,(A.b .sub .i64 n 1)))) (.ret ((0,([]:List Int),([]:List dx),0,0),120)) (.need (A.k Ho (([(([]:List Int),255)]:List dx),n)) (.ret ((id,([]:List Int),(A.k Vm (([(([]:List Int),255)]:List dx),n)),4,(-1)),0))))))
def Qe(id n:Int):cJ×Int:=bif decide (4≤n∧n≤8) then(bif decide (0≤id∧id≤n-1) then((id,([]:List Int),List.replicate n.toNat wh,4,(-1)),0) else(xd,120)) else(xd,120)
def ah0:Int×Int→cJ×Int:=fun(id,n)=>Qe id n
theorem M5{id n:Int}:aB Empty.elim (Zp ah id n) (Qe id n):=by
 unfold Zp Qe
 rw[By]
 refine af.2 ⟨rfl,dY (fun h=>?_) fun h1=>af.2 ⟨rfl,?_⟩⟩
 ·exact ay (by rw[decide_eq_false h];rfl) (.ret _)
 ·have e:ah.b .sub .i64 n 1=n-1:=by rw[bf,gZ (by omega) (by omega)]
  rw[e]
  refine dY (fun h=>?_) fun h2=>af.2 ⟨?_,?_⟩
  ·exact ay (by rw[decide_eq_true h1,decide_eq_false h];rfl) (.ret _)
  ·rw[au,Ho,decide_eq_true h1.1,decide_eq_true h1.2];rfl
  ·exact ay (by rw[decide_eq_true h1,decide_eq_true h2];rfl) (.ret _)
def JO:(Int×Int)→(cJ×Int):=ah0
def afi:aC:=⟨[yI,yI], [lf,yI],(@tt (Int×Int)),JO⟩
theorem aeN:Sd 83 afi:=aQ ar bU true 38 [] (fun A (id,n)=>Zp A id n) (fc Tryz.func83 fz) (sc Gp (sc acr sz)) fun(id,n) hp h=>M5
def T6(A:aK)(c:cJ):LT Bool Empty:=.need (A.k (@tt cJ) c) (.br (A.c .eql (A.k kY c) 0) (.ret (A.c .gtr c.2.2.2.1 0)) (.ret false))
def R0:cJ→Bool:=fun c=>(T6 ah c).val (Ty.bl [.bool])
def acM:aC:=⟨[lf], [.bool],(@tt cJ),R0⟩
theorem afk:Sd 346 acM:=aL ar bU true 23 [] (fun A c=>T6 A c) (fc Tryz.func346 fz) (sc Bj sz) (fun(c:cJ) hp h=>by
 show(T6 ah c).pre=true
 simp[T6,LT.pre,au,cm])
def Zo(A:aK)(c:cJ)(long:Int):LT (List Int×Int) Empty:=.need (A.k (@tt cJ) c) (.br (A.c .neq (A.k kY c) 0) (.ret (([]:List Int),(A.k kY c))) (.need (A.k (@tt (Int×Int×Int)) (long,0,8)) (.br (A.not (A.k nZ (long,0,8))) (.ret (([]:List Int),2)) (.need (A.and (A.c .eql long long) (A.and (A.c .leq 0 long) (A.c .leq long 140737488355328))) (.need (A.k (@tt cJ) c) (.br (A.k R0 c) (.ret ((A.spl (A.r long (0:Int)) 0 (A.s c.2.1 0 (A.mn (A.l c.2.1) (A.l (A.r long (0:Int)))))),0)) (.ret ((A.r long (0:Int)),0))))))))
def yT(c:cJ)(k:Int):List Int×Int:=bif cO c then(bif decide (0≤k∧k≤8) then((bif decide (0<c.2.2.2.1) then c.2.1.take k.toNat++List.replicate (k.toNat-c.2.1.length) 0 else List.replicate k.toNat 0),0) else([],2)) else([],120)
def agY:cJ×Int→List Int×Int:=fun(c,k)=>yT c k
theorem Tm{k:Int}(h:0≤k∧k≤8):ah.and (ah.c .eql k k) (ah.and (ah.c .leq 0 k) (ah.c .leq k 140737488355328))=true:=by
 rw[ax,ap,ap,aG,aG];simp;omega
theorem ahC{c:cJ}{k:Int}:aB Empty.elim (Zo ah c k) (yT c k):=by
 unfold Zo yT
 rw[By]
 refine af.2 ⟨rfl,?_⟩
 rw[show ah.k kY c=o3 c from rfl,show ah.k R0 c=(bif o3 c==0 then decide (0<c.2.2.2.1) else false) from rfl,o3]
 cases hc:cO c
 ·exact(aj rfl).2 (.ret _)
 ·refine(ai rfl).2 (af.2 ⟨rfl,dY (fun h=>?_) fun h=>af.2 ⟨Tm h,af.2 ⟨rfl,aA (p:=0<c.2.2.2.1) rfl (fun h2=>?_) fun h2=>?_⟩⟩⟩)
  ·exact ay (by rw[decide_eq_false h];rfl) (.ret _)
  ·refine ay ?_ (.ret _)
   rw[decide_eq_true h,decide_eq_true h2]
   obtain⟨n,rfl⟩:∃n:Nat,k=n:=⟨k.toNat,by omega⟩
   simp only[cond_true,jf,nD,fY,nR,bL,List.length_replicate,Int.toNat_natCast,Int.toNat_zero,List.take_zero,List.nil_append,List.drop_zero]
   refine Prod.ext ?_ rfl
   simp only[List.length_take,List.drop_replicate,Nat.zero_add]
   by_cases hl:(n:Int)<c.2.1.length
   ·rw[if_pos hl,Int.toNat_natCast]
    rw[show n-min n c.2.1.length=n-c.2.1.length by omega]
   ·rw[if_neg hl,Int.toNat_natCast,List.take_of_length_le (Nat.le_refl _),List.take_of_length_le (by omega),Nat.min_self]
  ·exact ay (by rw[decide_eq_true h,decide_eq_false h2];rfl) (.ret _)
def Pr:(cJ×Int)→(List Int×Int):=agY
def aff:aC:=⟨[lf,yI], [yB,yI],(@tt (cJ×Int)),Pr⟩
theorem abo:Sd 329 aff:=aQ ar bU true 60 [] (fun A (c,long)=>Zo A c long) (fc Tryz.func329 fz) (sc Bj (sc Gp (sc afk sz))) fun(c,long) hp h=>ahC
def ZS(A:aK)(c:cJ)(data:List Int):LT (cJ×Int) Empty:=.need (A.k (@tt cJ) c) (.br (A.c .neq (A.k iV c).2 0) (.ret ((0,([]:List Int),([]:List dx),0,0),(A.k iV c).2)) (.br (A.c .gtr (A.l data) 8) (.ret ((0,([]:List Int),([]:List dx),0,0),3)) (.need (A.k (@tt (List Int)) data) (.ret (((A.k iV c).1.1,(A.k jv data),(A.k iV c).1.2.2),0)))))
def Mi(c:cJ)(d:List Int):cJ×Int:=bif cO c then(bif decide (8<(d.length:Int)) then(xd,3) else((c.1,d,c.2.2),0)) else(xd,120)
def wrS:cJ×List Int→cJ×Int:=fun(c,d)=>Mi c d
theorem wr1{c:cJ}{d:List Int}:aB Empty.elim (ZS ah c d) (Mi c d):=by
 unfold ZS Mi
 refine af.2 ⟨rfl,?_⟩
 rw[show ah.k iV c=DR c from rfl,DR]
 cases cO c
 ·exact(aj rfl).2 (.ret _)
 ·refine(ai rfl).2 (aA (p:=8<(d.length:Int)) rfl (fun h=>?_) fun h=>af.2 ⟨rfl,?_⟩)
  ·exact ay (by rw[decide_eq_true h];rfl) (.ret _)
  ·exact ay (by rw[decide_eq_false h];rfl) (.ret _)
def yk:(cJ×List Int)→(cJ×Int):=wrS
def afU:aC:=⟨[lf,yB], [lf,yI],(@tt (cJ×List Int)),yk⟩
theorem V9:Sd 101 afU:=aQ ar bU true 55 [] (fun A (c,data)=>ZS A c data) (fc Tryz.func101 fz) (sc BM (sc NE sz)) fun(c,data) hp h=>wr1
def aas(A:aK)(c:cJ):LT (cJ×Int) Empty:=.need (A.k (@tt cJ) c) (.br (A.c .eql (A.k iV c).2 0) (.ret (((A.k iV c).1.1,(A.k iV c).1.2.1,(A.k iV c).1.2.2.1,4,(A.k iV c).1.2.2.2.2),(A.k iV c).2)) (.ret (A.k iV c)))
def R1:cJ→cJ×Int:=fun c=>bif cO c then((c.1,c.2.1,c.2.2.1,4,c.2.2.2.2),0) else(xd,120)
theorem bt1{c:cJ}:aB Empty.elim (aas ah c) (R1 c):=by
 unfold aas R1
 refine af.2 ⟨rfl,?_⟩
 rw[show ah.k iV c=DR c from rfl,DR]
 cases cO c
 ·exact(ai rfl).2 (.ret _)
 ·exact(aj rfl).2 (.ret _)
def KH:cJ→(cJ×Int):=R1
def abv:aC:=⟨[lf], [lf,yI],(@tt cJ),KH⟩
theorem af6:Sd 249 abv:=aQ ar bU true 41 [] (fun A c=>aas A c) (fc Tryz.func249 fz) (sc NE sz) fun c hp h=>bt1
def X9(A:aK)(c:cJ)(mode:Int):LT (cJ×Int) Empty:=.need (A.k (@tt cJ) c) (.br (A.c .neq (A.k iV c).2 0) (.ret ((0,([]:List Int),([]:List dx),0,0),(A.k iV c).2)) (.need (A.k (@tt (Int×Int×Int)) (mode,(-1),3)) (.br (A.not (A.k nZ (mode,(-1),3))) (.ret ((0,([]:List Int),([]:List dx),0,0),2)) (.ret (((A.k iV c).1.1,(A.k iV c).1.2.1,(A.k iV c).1.2.2.1,(A.k iV c).1.2.2.2.1,mode),0)))))
def An(c:cJ)(m:Int):cJ×Int:=bif cO c then(bif decide (-1≤m∧m≤3) then((c.1,c.2.1,c.2.2.1,c.2.2.2.1,m),0) else(xd,2)) else(xd,120)
def agX:cJ×Int→cJ×Int:=fun(c,m)=>An c m
theorem ahr{c:cJ}{m:Int}:aB Empty.elim (X9 ah c m) (An c m):=by
 unfold X9 An
 rw[By]
 refine af.2 ⟨rfl,?_⟩
 rw[show ah.k iV c=DR c from rfl,DR]
 cases cO c
 ·exact(aj rfl).2 (.ret _)
 ·refine(ai rfl).2 (af.2 ⟨rfl,dY (fun h=>?_) fun h=>?_⟩)
  ·exact ay (by rw[decide_eq_false h];rfl) (.ret _)
  ·exact ay (by rw[decide_eq_true h];rfl) (.ret _)
def Kk:(cJ×Int)→(cJ×Int):=agX
def agy:aC:=⟨[lf,yI], [lf,yI],(@tt (cJ×Int)),Kk⟩
theorem ab6:Sd 250 agy:=aQ ar bU true 54 [] (fun A (c,mode)=>X9 A c mode) (fc Tryz.func250 fz) (sc Gp (sc NE sz)) fun(c,mode) hp h=>ahr
abbrev dw(m:ao):Int:=(m.2.2.2.2.2.2.2.length:Int)
theorem qk{c:cv}{k:Int}(h:jW (c,k)=0):(4≤k∧k≤8)∧(0≤c.1∧c.1≤255)∧(0≤c.2.1∧c.2.1≤k-1)∧(0≤c.2.2.1∧c.2.2.1≤3)∧(0≤c.2.2.2.1∧c.2.2.2.1≤4)∧(0≤c.2.2.2.2∧c.2.2.2.2≤2^k.toNat-1):=by
 obtain⟨t,p,m,n,s⟩:=c
 rw[jW] at h
 cases h1:decide (k<4)||decide (8<k)
 ·rw[h1,cond_false] at h
  rw[Bool.or_eq_false_iff,decide_eq_false_iff_not,decide_eq_false_iff_not] at h1
  cases h2:((decide (0≤t)&&decide (t≤255))&&((decide (0≤p)&&decide (p≤k-1))&&((decide (0≤m)&&decide (m≤3))&&((decide (0≤n)&&decide (n≤4))&&(decide (0≤s)&&decide (s≤2^k.toNat-1))))))
  ·rw[h2,cond_false] at h;exact absurd h (by decide)
  ·simp only[Bool.and_eq_true,decide_eq_true_eq] at h2
   exact⟨by omega,h2.1,h2.2.1,h2.2.2.1,h2.2.2.2.1,h2.2.2.2.2⟩
 ·rw[h1,cond_true] at h;exact absurd h (by decide)
def dP(m:ao)(c:cv):Bool:=decide (jW (c,m.1)=0)&&(decide (c.2.2.1<dw m)&&decide (c.2.2.2.1≤dw m))
def iI(m:ao)(c:cv):Int:=bif dh m then(bif dP m c then 0 else 40) else 70
theorem rm{m:ao}{c:cv}(h:iI m c=0):dh m=true∧jW (c,m.1)=0∧(0≤c.2.2.1∧c.2.2.1<dw m)∧c.2.2.2.1≤dw m:=by
 unfold iI at h
 cases hm:dh m
 ·rw[hm,cond_false] at h;exact absurd h (by decide)
 ·cases hf:dP m c
  ·rw[hm,hf,cond_true,cond_false] at h;exact absurd h (by decide)
  ·simp only[dP,Bool.and_eq_true,decide_eq_true_eq] at hf
   exact⟨rfl,hf.1,⟨(qk hf.1).2.2.2.1.1,hf.2.1⟩,hf.2.2⟩
theorem Oj{m:ao}{c:cv}(h:dh m=true)(h2:dP m c=true):iI m c=0:=by rw[iI,h,h2];rfl
theorem dd{m:ao}(h:dh m=true):(4≤m.1∧m.1≤8)∧(1≤dw m∧dw m≤4)∧(m.2.2.2.2.2.2.1.length:Int)=m.1∧m.2.2.2.2.2.2.2.all (jB m)=true:=by
 obtain⟨n,s,g,w,d,de,aW,modes⟩:=m
 have:=Yl h
 exact⟨this.1,this.2.1,this.2.2.1,this.2.2.2.1⟩
theorem uZ{m:ao}(h:dh m=true){i:Int}(h0:0≤i)(h1:i<dw m):jB m (ah.n b_ m.2.2.2.2.2.2.2 i:Mode)=true:=by
 obtain⟨k,rfl⟩:∃k:Nat,i=k:=⟨i.toNat,by omega⟩
 have hk:k<m.2.2.2.2.2.2.2.length:=by unfold dw at h1;omega
 rw[show(ah.n b_ m.2.2.2.2.2.2.2 (k:Int):Mode)=m.2.2.2.2.2.2.2[k] from getD_in hk _]
 exact List.all_eq_true.1 (dd h).2.2.2 _ (List.getElem_mem hk)
theorem nX{m:ao}{x:Mode}(h:jB m x=true):(x.1.length:Int)=m.1∧(x.2.1.length:Int)=m.1∧(x.2.2.length:Int)=dw m:=by
 simp only[jB,Bool.and_eq_true,beq_iff_eq] at h
 exact⟨h.1.1.1,h.1.1.2,by rw[h.1.2]⟩
theorem ru{α:Type}{l:List α}{i:Int}(h0:0≤i)(h1:i<(l.length:Int)):ah.and (ah.c .leq 0 i) (ah.c .lss i (ah.l l))=true:=by
 rw[bL,ap,al,aG];simp;omega
theorem AO{x:Int}(h:x=0):ah.c .neq x 0=false:=by rw[h];rfl
theorem qj{x:Int}(h:¬x=0):ah.c .neq x 0=true:=by rw[aD];simpa using h
theorem acp{x:Int}(h:¬x=0):ah.c .eql x 0=false:=by rw[ax];simpa using h
theorem Qy{x:Int}(h:x=0):ah.c .eql x 0=true:=by rw[h];rfl
def XD(A:aK)(m:ao)(c:cv):LT Bool Empty:=.need (A.k (@tt ((Int×Int×Int×Int×Int)×Int)) (c,m.1)) (.br (A.c .eql (A.k Zq (c,m.1)) 0) (.br (A.c .lss c.2.2.1 (A.l m.2.2.2.2.2.2.2)) (.ret (A.c .leq c.2.2.2.1 (A.l m.2.2.2.2.2.2.2))) (.ret false)) (.ret false))
theorem Vs{m:ao}{c:cv}:aB Empty.elim (XD ah m c) (dP m c):=by
 unfold XD
 refine af.2 ⟨rfl,?_⟩
 rw[show ah.k Zq (c,m.1)=jW (c,m.1) from rfl]
 by_cases h:jW (c,m.1)=0
 ·rw[dP,decide_eq_true h]
  refine(aj (Qy h)).2 (aA (p:=c.2.2.1<dw m) rfl (fun h2=>?_) fun h2=>?_)
  ·exact ay (by rw[decide_eq_true h2];rfl) (.ret _)
  ·exact ay (by rw[decide_eq_false h2];rfl) (.ret _)
 ·rw[dP,decide_eq_false h]
  exact(ai (acp h)).2 (.ret _)
def Og:(ao×cv)→Bool:=fun(m,c)=>dP m c
def acK:aC:=⟨[aP,kj], [.bool],(@tt (ao×cv)),Og⟩
theorem aa4:Sd 143 acK:=aQ ar bU true 37 [] (fun A (m,c)=>XD A m c) (fc Tryz.func143 fz) (sc ahp sz) fun(m,c) hp h=>Vs
def aez(A:aK)(m:ao)(c:cv):LT Bool Empty:=.need (A.k (@tt ((Int×Int×Int×Int×Int)×Int)) (c,m.1)) (.br (A.c .eql (A.k nQ (c,m.1)) 0) (.br (A.c .lss c.2.2.1 (A.l m.2.2.2.2.2.2.2)) (.ret (A.c .leq c.2.2.2.1 (A.l m.2.2.2.2.2.2.2))) (.ret false)) (.ret false))
theorem Xz{m:ao}{c:cv}:aB Empty.elim (aez ah m c) (dP m c):=Vs
def JE:(ao×cv)→Bool:=fun(m,c)=>dP m c
def ad6:aC:=⟨[aP,kj], [.bool],(@tt (ao×cv)),JE⟩
theorem Wo:Sd 45 ad6:=aQ ar bU true 37 [] (fun A (m,c)=>aez A m c) (fc Tryz.func45 fz) (sc CY sz) fun(m,c) hp h=>Xz
def XI(A:aK)(m:ao)(n:Int):LT Bool Empty:=.br (A.c .geq n 0) (.ret (A.c .lss n (A.l m.2.2.2.2.2.2.2))) (.ret false)
def isF(m:ao)(n:Int):Bool:=decide (0≤n∧n<dw m)
theorem is1{m:ao}{n:Int}:aB Empty.elim (XI ah m n) (isF m n):=by
 unfold XI isF
 refine aA (p:=0≤n) rfl (fun h=>?_) fun h=>?_
 ·exact ay (by rw[Bool.eq_iff_iff,bL,al];simp;omega) (.ret _)
 ·exact ay (decide_eq_false (by omega)).symm (.ret _)
def y8:(ao×Int)→Bool:=fun(m,c)=>isF m c
def acT:aC:=⟨[aP,yI], [.bool],(@tt (ao×Int)),y8⟩
theorem Qq:Sd 244 acT:=aQ ar bU true 24 [] (fun A (m,n)=>XI A m n) (fc Tryz.func244 fz) sz fun(m,n) hp h=>is1
def WM(A:aK)(m:ao)(c:cv):LT Int Empty:=.need (A.k (@tt ao) m) (.br (A.c .neq (A.k iK m) 0) (.ret (A.k iK m)) (.need (A.k (@tt ((Int×Int×Int×Int×Int)×Int)) (c,m.1)) (.br (A.c .neq (A.k nQ (c,m.1)) 0) (.ret 40) (.need (A.k (@tt (ao×Int)) (m,c.2.2.1)) (.br (A.not (A.k y8 (m,c.2.2.1))) (.ret 40) (.br (A.c .gtr c.2.2.2.1 (A.l m.2.2.2.2.2.2.2)) (.ret 40) (.ret 0)))))))
theorem abG{m:ao}{c:cv}:aB Empty.elim (WM ah m c) (iI m c):=by
 unfold WM iI
 refine af.2 ⟨rfl,?_⟩
 rw[show ah.k iK m=i_ m from rfl,i_]
 cases hm:dh m
 ·exact(aj rfl).2 (.ret _)
 refine(ai rfl).2 (af.2 ⟨rfl,?_⟩)
 rw[show ah.k nQ (c,m.1)=jW (c,m.1) from rfl]
 by_cases h:jW (c,m.1)=0
 ·have h0:=(qk h).2.2.2.1.1
  rw[dP,decide_eq_true h]
  refine(ai (AO h)).2 (af.2 ⟨rfl,?_⟩)
  rw[show ah.k y8 (m,c.2.2.1)=decide (0≤c.2.2.1∧c.2.2.1<dw m) from rfl]
  by_cases h2:c.2.2.1<dw m
  ·rw[decide_eq_true (show 0≤c.2.2.1∧c.2.2.1<dw m from⟨h0,h2⟩),decide_eq_true h2]
   refine(ai rfl).2 (aA (p:=dw m<c.2.2.2.1) rfl (fun h3=>?_) fun h3=>?_)
   ·exact ay (by rw[decide_eq_false (by omega)];rfl) (.ret _)
   ·exact ay (by rw[decide_eq_true (by omega)];rfl) (.ret _)
  ·rw[decide_eq_false (show ¬(0≤c.2.2.1∧c.2.2.1<dw m) from fun h=>h2 h.2),decide_eq_false h2]
   exact(aj rfl).2 (.ret _)
 ·rw[dP,decide_eq_false h]
  exact(aj (qj h)).2 (.ret _)
def tM:(ao×cv)→Int:=fun(m,c)=>iI m c
def agw:aC:=⟨[aP,kj], [yI],(@tt (ao×cv)),tM⟩
theorem RI:Sd 185 agw:=aQ ar bU true 56 [] (fun A (m,c)=>WM A m c) (fc Tryz.func185 fz) (sc CY (sc Bn (sc Qq sz))) fun(m,c) hp h=>abG
def ZB(A:aK)(m:ao)(c:cv)(mode:Int):LT Bool Empty:=.need (A.k (@tt (ao×Int)) (m,mode)) (.br (A.k y8 (m,mode)) (.br (A.c .neq mode c.2.2.1) (.br (A.c .eql c.2.2.2.1 0) (.need (A.and (A.c .leq 0 c.2.2.1) (A.c .lss c.2.2.1 (A.l m.2.2.2.2.2.2.2))) (.need (A.and (A.c .leq 0 mode) (A.c .lss mode (A.l (A.n b_ m.2.2.2.2.2.2.2 c.2.2.1:Mode).2.2))) (.ret (A.n .bool (A.n b_ m.2.2.2.2.2.2.2 c.2.2.1:Mode).2.2 mode:Bool)))) (.ret false)) (.ret false)) (.ret false))
def pJ(m:ao)(c:cv)(k:Int):Bool:=decide (0≤k∧k<dw m)&&(decide (¬k=c.2.2.1)&&(decide (c.2.2.2.1=0)&&(ah.n .bool (ah.n b_ m.2.2.2.2.2.2.2 c.2.2.1:Mode).2.2 k:Bool)))
theorem aT{a b:Int}:ah.c .neq a b=decide (¬a=b):=by rw[aD,Bool.eq_iff_iff];simp
theorem Pz{R Y:Type}{step:Y→LT R Y}{m:ao}{c:cv}{k:Int}{e:LT R Y}{r:R}{f:Bool→R}(h:iI m c=0)(hk:0≤k∧k<dw m)(hr:f (pJ m c k)=r)(hf:f false=r→aB step e r) :
  aB step (.br (ah.c .neq k c.2.2.1) (.br (ah.c .eql c.2.2.2.1 0) (.need (ah.and (ah.c .leq 0 c.2.2.1) (ah.c .lss c.2.2.1 (ah.l m.2.2.2.2.2.2.2))) (.need (ah.and (ah.c .leq 0 k) (ah.c .lss k (ah.l (ah.n b_ m.2.2.2.2.2.2.2 c.2.2.1:Mode).2.2))) (.ret (f (ah.n .bool (ah.n b_ m.2.2.2.2.2.2.2 c.2.2.1:Mode).2.2 k:Bool))))) e) e) r:=by
 obtain⟨hm,_,hc,_⟩:=rm h
 rw[pJ,decide_eq_true hk,Bool.true_and] at hr
 refine aA (p:=¬k=c.2.2.1) aT (fun h1=>aA (p:=c.2.2.2.1=0) aO (fun h2=>af.2 ⟨ru hc.1 hc.2,af.2 ⟨ru hk.1 ?_,?_⟩⟩) fun h2=>hf ?_) fun h1=>hf ?_
 ·exact(nX (uZ hm hc.1 hc.2)).2.2▸hk.2
 ·exact ay (by rw[←hr,decide_eq_true h1,decide_eq_true h2];rfl) (.ret _)
 ·rw[←hr,decide_eq_false h2];cases decide (¬k=c.2.2.1)<;>rfl
 ·rw[←hr,decide_eq_false h1];rfl
theorem ab3{m:ao}{c:cv}{k:Int}(h:iI m c=0):aB Empty.elim (ZB ah m c k) (pJ m c k):=by
 unfold ZB
 refine af.2 ⟨rfl,?_⟩
 rw[show ah.k y8 (m,k)=decide (0≤k∧k<dw m) from rfl]
 by_cases hk:0≤k∧k<dw m
 ·exact(aj (decide_eq_true hk)).2 (Pz (f:=id) h hk rfl fun e=>ay e (.ret _))
 ·exact(ai (decide_eq_false hk)).2 (ay (by rw[pJ,decide_eq_false hk];rfl) (.ret _))
def PV:(ao×cv×Int)→Bool:=fun(m,c,k)=>pJ m c k
def MN:(ao×cv×Int)→Bool:=fun(m,c,_)=>decide (iI m c=0)
def acW:aC:=⟨[aP,kj,yI], [.bool],MN,PV⟩
theorem adA:Sd 290 acW:=aQ ar bU true 42 [] (fun A (m,c,mode)=>ZB A m c mode) (fc Tryz.func290 fz) (sc Qq sz) fun((m,c,mode):ao×cv×Int) hp h=>ab3 (of_decide_eq_true hp)
structure QP where
 (a0:Int) (a2:ao) (a3:cv) (a4:Int) (a5:ao) (a6:cv) (a7:ao) (a8:cv) (a9:Int) (cX:ao) (dN:Int) (a12:cv)
inductive Ta where
 | c0 (p:QP) (a1:Int)
noncomputable def Y8:Ta→eF
 | .c0 p a1=>⟨[⟨289,26,(en [(0,.yield 0),(1,.ptr 1 0),(2,.ptr 2 0),(11,vi p.a0),(12,vi a1)]),[.inLoop (cw Tryz.f289 [1,1,0,0]),.inBlock 0],[],none⟩,⟨186,16,(en [(6,.ptr 3 0)]),[.ko 0,.inBlock 0,.code (cw Tryz.f186 [1,1])],[4],none⟩],[.loop ⟨186,16,(en [(0,.agg (dc aP p.a2)),(1,.agg (dc kj p.a3)),(2,vi p.a4),(3,.ptr 5 0),(4,.ptr 7 0),(5,.ptr 6 0),(6,.ptr 3 0),(8,.agg (dc aP p.a5)),(9,.agg (dc kj p.a6)),(10,.fn 289 [] [.ptr 1 0,.ptr 2 0])]),[11],(cw Tryz.f186 [1,0,1,0,0]),(cw Tryz.f186 [1,0,1,0,1]),0,none⟩,.flat false (dc aP p.a7),.flat false (dc kj p.a8),.flat false [vi p.a9],.Ap,.flat false (dc aP p.cX),.flat false [vi p.dN],.flat false (dc kj p.a12),.dead]⟩
def Zl(A:aK)(m:ao)(c:cv)(mode:Int):LT Int Ta:=.need (A.k (@tt (ao×cv)) (m,c)) (.br (A.c .neq (A.k tM (m,c)) 0) (.ret (-1)) (.more (.c0 ⟨(A.l m.2.2.2.2.2.2.2),m,c,mode,m,c,m,c,0,m,mode,c⟩ 0)))
def Rn(A:aK):Ta→LT Int Ta
 | .c0 p a1=>.br (A.c .lss a1 p.a0) (.need (A.k MN (p.a7,p.a8,a1)) (.br (A.k PV (p.a7,p.a8,a1)) (.br (A.c .eql a1 p.dN) (.ret a1) (.more (.c0 p (A.b .add .i64 a1 1)))) (.more (.c0 p (A.b .add .i64 a1 1))))) (.ret (-1))
def Hq(m:ao)(c:cv)(k:Int):Int:=bif decide (iI m c=0)&&pJ m c k then k else -1
theorem Pm{p:QP}{m:ao}{c:cv}{k:Int}(h0:p.a0=dw m)(h7:p.a7=m)(h8:p.a8=c)(h11:p.dN=k)(h:iI m c=0):∀(j i:Nat),m.2.2.2.2.2.2.2.length-i=j→i≤m.2.2.2.2.2.2.2.length→aB (Rn ah) (.more (.c0 p (i:Int))) (bif decide ((i:Int)≤k)&&pJ m c k then k else -1):=by
 have hl:=(dd (rm h).1).2.1
 unfold dw at hl h0
 intro j
 induction j with
 | zero=>
   intro i hj hi
   rw[ak,Rn,h0]
   refine(ai (by rw[al];exact decide_eq_false (by omega))).2 (ay ?_ (.ret _))
   by_cases hk:(i:Int)≤k
   ·rw[pJ,decide_eq_false (show ¬(0≤k∧k<dw m) by unfold dw;omega),Bool.false_and,Bool.and_false];rfl
   ·rw[decide_eq_false hk];rfl
 | succ j ih=>
   intro i hj hi
   rw[ak,Rn,h0,h7,h8,h11]
   refine(aj (by rw[al];exact decide_eq_true (by omega))).2 (af.2 ⟨by rw[au];exact decide_eq_true h,?_⟩)
   rw[show ah.k PV (m,c,(i:Int))=pJ m c i from rfl,cu (i:=i) (by omega)]
   have hn:=ih (i+1) (by omega) (by omega)
   cases hm:pJ m c i
   ·refine(ai rfl).2 (ay ?_ hn)
    by_cases hk:(i:Int)=k
    ·rw[←hk,hm,Bool.and_false,Bool.and_false]
    ·rw[show decide (((i+1:Nat):Int)≤k)=decide ((i:Int)≤k) by rw[Bool.eq_iff_iff];simp;omega]
   ·refine(aj rfl).2 (aA (p:=(i:Int)=k) aO (fun hk=>?_) fun hk=>?_)
    ·exact ay (by rw[←hk,hm,decide_eq_true (Int.le_refl _)];rfl) (.ret _)
    ·exact ay (by rw[show decide (((i+1:Nat):Int)≤k)=decide ((i:Int)≤k) by rw[Bool.eq_iff_iff];simp;omega]) hn
theorem ah3{m:ao}{c:cv}{k:Int}:aB (Rn ah) (Zl ah m c k) (Hq m c k):=by
 unfold Zl Hq
 refine af.2 ⟨rfl,?_⟩
 rw[show ah.k tM (m,c)=iI m c from rfl]
 by_cases h:iI m c=0
 ·rw[decide_eq_true h]
  refine(ai (AO h)).2 (ay ?_ (Pm (p:=⟨dw m,m,c,k,m,c,m,c,0,m,k,c⟩) (k:=k) rfl rfl rfl rfl h m.2.2.2.2.2.2.2.length 0 rfl (by omega)))
  by_cases hk:0≤k
  ·rw[show decide (((0:Nat):Int)≤k)=true from decide_eq_true hk]
  ·rw[pJ,decide_eq_false (show ¬(0≤k∧k<dw m) by omega),Bool.false_and,Bool.and_false,Bool.and_false]
 ·rw[decide_eq_false h]
  exact(aj (qj h)).2 (.ret _)
def Gh:(ao×cv×Int)→Int:=fun(m,c,k)=>Hq m c k
def abL:aC:=⟨[aP,kj,yI], [yI],(@tt (ao×cv×Int)),Gh⟩
theorem VA:Sd 186 abL:=aU ar bU true 53 [⟨289,2, [[0,1,2,11,12], [6]]⟩] [] (fun A (m,c,mode)=>Zl A m c mode) Rn Y8 (fc Tryz.func186 (fc Tryz.func245 (fc Tryz.func289 fz))) (sc RI (sc adA sz)) (fun A y=>match y with |.c0 p a1=>⟨55,by kernel_rfl,by kernel_rfl⟩) fun(m,c,mode) hp h=>ah3
abbrev PE(A:aK)(m:ao)(c:cv)(want:Int):LT (Int×Int) Empty:=(.br (A.c .lss want 0) (.ret (0,0)) (.need (A.k (@tt (ao×cv×Int)) (m,c,want)) (.ret ((A.b .add .i64 (A.k Gh (m,c,want)) 1),0))))
def ZN(A:aK)(m:ao)(c:cv)(want:Int):LT (Int×Int) Empty:=.need (A.k (@tt (ao×cv)) (m,c)) (.br (A.c .neq (A.k tM (m,c)) 0) (.ret (0,(A.k tM (m,c)))) (.br (A.c .neq want (-1)) (.need (A.k (@tt (ao×Int)) (m,want)) (.br (A.not (A.k y8 (m,want))) (.ret (0,100)) (PE A m c want))) (PE A m c want)))
def z_(m:ao)(c:cv)(w:Int):Int×Int:=bif decide (iI m c=0) then(bif decide (-1≤w∧w<dw m) then(bif pJ m c w then(w+1,0) else(0,0)) else(0,100)) else(0,iI m c)
theorem Zw{m:ao}{c:cv}{w:Int}(h:¬(0≤w∧w<dw m)):pJ m c w=false:=by rw[pJ,decide_eq_false h];rfl
theorem afc{m:ao}{c:cv}{w:Int}:aB Empty.elim (ZN ah m c w) (z_ m c w):=by
 unfold ZN PE z_
 refine af.2 ⟨rfl,?_⟩
 rw[show ah.k tM (m,c)=iI m c from rfl,show ah.k y8 (m,w)=decide (0≤w∧w<dw m) from rfl,show ah.k Gh (m,c,w)=Hq m c w from rfl]
 by_cases h:iI m c=0
 ·have hl:=(dd (rm h).1).2.1
  rw[decide_eq_true h]
  refine(ai (AO h)).2 (aA (p:=¬w = -1) aT (fun h1=>af.2 ⟨rfl,?_⟩) fun h1=>?_)
  ·by_cases h2:0≤w∧w<dw m
   ·rw[decide_eq_true h2,decide_eq_true (show -1≤w∧w<dw m by omega)]
    refine(ai rfl).2 ((ai (by rw[al];exact decide_eq_false (by omega))).2 (af.2 ⟨rfl,ay ?_ (.ret _)⟩))
    rw[Hq,decide_eq_true h]
    cases pJ m c w
    ·rfl
    ·rw[Bool.true_and,cond_true,cond_true,cond_true,cond_true,bd,gZ (by omega) (by omega)]
   ·rw[decide_eq_false h2,decide_eq_false (show ¬(-1≤w∧w<dw m) by omega)]
    exact(aj rfl).2 (.ret _)
  ·have h2:w = -1:=by omega
   subst h2
   rw[Zw (by omega),decide_eq_true (show(-1:Int)≤ -1∧ -1<dw m by omega)]
   exact(aj rfl).2 (.ret _)
 ·rw[decide_eq_false h]
  exact(aj (qj h)).2 (.ret _)
def FF:(ao×cv×Int)→(Int×Int):=fun(m,c,k)=>z_ m c k
def afB:aC:=⟨[aP,kj,yI], [yI,yI],(@tt (ao×cv×Int)),FF⟩
theorem aa6:Sd 328 afB:=aQ ar bU true 60 [] (fun A (m,c,want)=>ZN A m c want) (fc Tryz.func328 fz) (sc RI (sc VA (sc Qq sz))) fun(m,c,want) hp h=>afc
def aaR(A:aK)(m:ao)(c:cv)(req:Int):LT (cv×Int) Empty:=.need (A.k (@tt (ao×cv)) (m,c)) (.br (A.c .neq (A.k tM (m,c)) 0) (.ret ((0,0,0,0,0),(A.k tM (m,c)))) (.br (A.c .lss req 0) (.ret ((0,0,0,0,0),100)) (.br (A.c .gtr req (A.l m.2.2.2.2.2.2.2)) (.ret ((0,0,0,0,0),100)) (.br (A.c .gtr req 0) (.need (A.k (@tt (ao×cv×Int)) (m,c,(A.b .sub .i64 req 1))) (.br (A.c .geq (A.k Gh (m,c,(A.b .sub .i64 req 1))) 0) (.ret ((c.1,c.2.1,c.2.2.1,req,c.2.2.2.2),0)) (.ret (c,0)))) (.ret (c,0))))))
def xq(m:ao)(c:cv)(r:Int):cv×Int:=bif decide (iI m c=0) then(bif decide (0≤r∧r≤dw m) then(bif decide (0<r)&&pJ m c (r-1) then((c.1,c.2.1,c.2.2.1,r,c.2.2.2.2),0) else(c,0)) else((0,0,0,0,0),100)) else((0,0,0,0,0),iI m c)
theorem ahc{m:ao}{c:cv}{r:Int}:aB Empty.elim (aaR ah m c r) (xq m c r):=by
 unfold aaR xq
 refine af.2 ⟨rfl,?_⟩
 rw[show ah.k tM (m,c)=iI m c from rfl,show ah.k Gh (m,c,(ah.b .sub .i64 r 1))=Hq m c (ah.b .sub .i64 r 1) from rfl]
 by_cases h:iI m c=0
 ·have hl:=(dd (rm h).1).2.1
  rw[decide_eq_true h]
  refine(ai (AO h)).2 (aA (p:=r<0) rfl (fun h1=>?_) fun h1=>aA (p:=dw m<r) rfl (fun h2=>?_) fun h2=>?_)
  ·exact ay (by rw[decide_eq_false (by omega)];rfl) (.ret _)
  ·exact ay (by rw[decide_eq_false (by omega)];rfl) (.ret _)
  ·rw[decide_eq_true (show 0≤r∧r≤dw m by omega),bf,gZ (by omega) (by omega)]
   refine aA (p:=0<r) rfl (fun h3=>af.2 ⟨rfl,?_⟩) fun h3=>?_
   ·rw[decide_eq_true h3,Hq,decide_eq_true h,Bool.true_and]
    cases hm:pJ m c (r-1)
    ·exact(ai rfl).2 (.ret _)
    ·exact(aj (by rw[cond_true,aN];exact decide_eq_true (by omega))).2 (.ret _)
   ·exact ay (by rw[decide_eq_false h3];rfl) (.ret _)
 ·rw[decide_eq_false h]
  exact(aj (qj h)).2 (.ret _)
def qJ:(ao×cv×Int)→(cv×Int):=fun(m,c,k)=>xq m c k
def abR:aC:=⟨[aP,kj,yI], [kj,yI],(@tt (ao×cv×Int)),qJ⟩
theorem OC:Sd 111 abR:=aQ ar bU true 69 [] (fun A (m,c,req)=>aaR A m c req) (fc Tryz.func111 fz) (sc RI (sc VA sz)) fun(m,c,req) hp h=>ahc
def Xe(A:aK)(m:ao)(node:Int):LT Int Empty:=.need (A.k (@tt ao) m) (.br (A.c .neq (A.k iK m) 0) (.ret (A.k iK m)) (.need (A.k (@tt (Int×Int×Int)) (node,0,(A.b .sub .i64 m.1 1))) (.br (A.not (A.k fB (node,0,(A.b .sub .i64 m.1 1)))) (.ret 2) (.ret 0))))
theorem qS{α:Type}{l:List α}{i n:Int}(e:(l.length:Int)=n)(h0:0≤i)(h1:i<n):ah.and (ah.c .leq 0 i) (ah.c .lss i (ah.l l))=true:=ru h0 (e▸h1)
def gX(m:ao)(n:Int):Int:=bif dh m then(bif decide (0≤n∧n≤m.1-1) then 0 else 2) else 70
theorem Bp{m:ao}{n:Int}(h:gX m n=0):dh m=true∧0≤n∧n≤m.1-1:=by
 unfold gX at h
 cases hm:dh m
 ·rw[hm,cond_false] at h;exact absurd h (by decide)
 ·by_cases hn:0≤n∧n≤m.1-1
  ·exact⟨rfl,hn⟩
  ·rw[hm,decide_eq_false hn,cond_true,cond_false] at h;exact absurd h (by decide)
theorem ZT{m:ao}{n:Int}:aB Empty.elim (Xe ah m n) (gX m n):=by
 unfold Xe gX
 refine af.2 ⟨rfl,?_⟩
 rw[show ah.k iK m=i_ m from rfl,i_]
 cases hm:dh m
 ·exact(aj rfl).2 (.ret _)
 have hl:=(dd hm).1
 rw[bf,gZ (by omega) (by omega)]
 refine(ai rfl).2 (af.2 ⟨rfl,dY (fun h=>?_) fun h=>?_⟩)
 ·exact ay (by rw[decide_eq_false h];rfl) (.ret _)
 ·exact ay (by rw[decide_eq_true h];rfl) (.ret _)
def Ce:(ao×Int)→Int:=fun(m,n)=>gX m n
def agB:aC:=⟨[aP,yI], [yI],(@tt (ao×Int)),Ce⟩
theorem VU:Sd 181 agB:=aQ ar bU true 41 [] (fun A (m,node)=>Xe A m node) (fc Tryz.func181 fz) (sc Bn (sc EF sz)) fun(m,node) hp h=>ZT
def Y_(A:aK)(m:ao)(n:Int):LT Int Empty:=.need (A.k (@tt ao) m) (.br (A.c .neq (A.k yy m) 0) (.ret (A.k yy m)) (.br (A.c .lss n 0) (.ret 2) (.br (A.c .geq n m.1) (.ret 2) (.ret 0))))
theorem X1{m:ao}{n:Int}:aB Empty.elim (Y_ ah m n) (gX m n):=by
 unfold Y_ gX
 refine af.2 ⟨rfl,?_⟩
 rw[show ah.k yy m=i_ m from rfl,i_]
 cases hm:dh m
 ·exact(aj rfl).2 (.ret _)
 refine(ai rfl).2 (aA (p:=n<0) rfl (fun h=>?_) fun h1=>aA (p:=m.1≤n) rfl (fun h=>?_) fun h2=>?_)
 ·exact ay (by rw[decide_eq_false (by omega)];rfl) (.ret _)
 ·exact ay (by rw[decide_eq_false (by omega)];rfl) (.ret _)
 ·exact ay (by rw[decide_eq_true (by omega)];rfl) (.ret _)
def OT:(ao×Int)→Int:=fun(m,n)=>gX m n
def aci:aC:=⟨[aP,yI], [yI],(@tt (ao×Int)),OT⟩
theorem afx:Sd 209 aci:=aQ ar bU true 43 [] (fun A (m,n)=>Y_ A m n) (fc Tryz.func209 fz) (sc Vn sz) fun(m,n) hp h=>X1
def aal(A:aK)(m:ao)(node:Int):LT (Int×Int) Empty:=.need (A.k (@tt (ao×Int)) (m,node)) (.br (A.c .neq (A.k Ce (m,node)) 0) (.ret (0,(A.k Ce (m,node)))) (.ret ((A.b .mul .i64 2 (A.b .add .i64 node 1)),0)))
def Am(m:ao)(n:Int):Int×Int:=bif decide (gX m n=0) then((ah.b .mul .i64 2 (ah.b .add .i64 n 1)),0) else(0,gX m n)
theorem afZ{m:ao}{n:Int}:aB Empty.elim (aal ah m n) (Am m n):=by
 unfold aal Am
 refine af.2 ⟨rfl,aA (p:=¬gX m n=0) aT (fun h=>?_) fun h=>?_⟩
 ·exact ay (by rw[decide_eq_false h];rfl) (.ret _)
 ·exact ay (by rw[decide_eq_true (by omega)];rfl) (.ret _)
def Bm:(ao×Int)→(Int×Int):=fun(m,n)=>Am m n
def ae3:aC:=⟨[aP,yI], [yI,yI],(@tt (ao×Int)),Bm⟩
theorem V5:Sd 175 ae3:=aQ ar bU true 35 [] (fun A (m,node)=>aal A m node) (fc Tryz.func175 fz) (sc VU sz) fun(m,node) hp h=>afZ
def X7(A:aK)(m:ao)(n:Int):LT (Int×Int) Empty:=.need (A.k (@tt (ao×Int)) (m,n)) (.br (A.c .neq (A.k OT (m,n)) 0) (.ret (0,(A.k OT (m,n)))) (.ret ((A.b .add .i64 (A.b .mul .i64 4 m.1) (A.b .mul .i64 2 (A.b .add .i64 n 1))),0)))
def mK(m:ao)(n:Int):Int×Int:=bif decide (gX m n=0) then((ah.b .add .i64 (ah.b .mul .i64 4 m.1) (ah.b .mul .i64 2 (ah.b .add .i64 n 1))),0) else(0,gX m n)
theorem adk{m:ao}{n:Int}:aB Empty.elim (X7 ah m n) (mK m n):=by
 unfold X7 mK
 refine af.2 ⟨rfl,aA (p:=¬gX m n=0) aT (fun h=>?_) fun h=>?_⟩
 ·exact ay (by rw[decide_eq_false h];rfl) (.ret _)
 ·exact ay (by rw[decide_eq_true (by omega)];rfl) (.ret _)
def Rv:(ao×Int)→(Int×Int):=fun(m,n)=>mK m n
def acH:aC:=⟨[aP,yI], [yI,yI],(@tt (ao×Int)),Rv⟩
theorem afL:Sd 145 acH:=aQ ar bU true 39 [] (fun A (m,n)=>X7 A m n) (fc Tryz.func145 fz) (sc afx sz) fun(m,n) hp h=>adk
def WZ(A:aK)(m:ao)(node:Int):LT (Int×Int) Empty:=.need (A.k (@tt (ao×Int)) (m,node)) (.br (A.c .neq (A.k Bm (m,node)).2 0) (.ret (0,(A.k Bm (m,node)).2)) (.ret ((A.b .add .i64 (A.b .mul .i64 4 m.1) (A.k Bm (m,node)).1),0)))
theorem ac3{m:ao}{n:Int}:aB Empty.elim (WZ ah m n) (mK m n):=by
 unfold WZ mK
 refine af.2 ⟨rfl,?_⟩
 rw[show ah.k Bm (m,n)=Am m n from rfl,Am]
 by_cases h:gX m n=0
 ·rw[decide_eq_true h];exact(ai rfl).2 (.ret _)
 ·rw[decide_eq_false h];exact(aj (qj h)).2 (.ret _)
def VV:(ao×Int)→(Int×Int):=fun(m,n)=>mK m n
def abg:aC:=⟨[aP,yI], [yI,yI],(@tt (ao×Int)),VV⟩
theorem aem:Sd 100 abg:=aQ ar bU true 41 [] (fun A (m,node)=>WZ A m node) (fc Tryz.func100 fz) (sc V5 sz) fun(m,node) hp h=>ac3
abbrev zT(A:aK)(m:ao)(mode:Int):=(A.n b_ m.2.2.2.2.2.2.2 mode:Mode)
def Y4(A:aK)(m:ao)(mode:Int)(node:Int):LT (Int×Int) Empty:=.need (A.k (@tt (ao×Int)) (m,node)) (.br (A.c .neq (A.k Ce (m,node)) 0) (.ret (0,(A.k Ce (m,node)))) (.need (A.k (@tt (Int×Int×Int)) (mode,0,(A.b .sub .i64 (A.l m.2.2.2.2.2.2.2) 1))) (.br (A.not (A.k fB (mode,0,(A.b .sub .i64 (A.l m.2.2.2.2.2.2.2) 1)))) (.ret (0,2)) (.need (A.and (A.c .leq 0 mode) (A.c .lss mode (A.l m.2.2.2.2.2.2.2))) (.need (A.and (A.c .leq 0 node) (A.c .lss node (A.l (zT A m mode).2.1))) (.need (A.and (A.c .leq 0 node) (A.c .lss node (A.l (zT A m mode).1))) (.need (A.k (@tt (Bool×Int)) ((A.n .bool (zT A m mode).2.1 node:Bool),(A.n yI (zT A m mode).1 node:Int))) (.ret ((A.k lM ((A.n .bool (zT A m mode).2.1 node:Bool),(A.n yI (zT A m mode).1 node:Int))),0)))))))))
def fO(m:ao)(k n:Int):Int×Int:=bif decide (gX m n=0) then(bif decide (0≤k∧k≤dw m-1) then(lM ((ah.n .bool (ah.n b_ m.2.2.2.2.2.2.2 k:Mode).2.1 n:Bool),(ah.n (.int .i64) (ah.n b_ m.2.2.2.2.2.2.2 k:Mode).1 n:Int)),0) else(0,2)) else(0,gX m n)
theorem Zg{m:ao}{k n:Int}:aB Empty.elim (Y4 ah m k n) (fO m k n):=by
 unfold Y4 zT fO
 refine af.2 ⟨rfl,?_⟩
 rw[show ah.k Ce (m,n)=gX m n from rfl]
 by_cases h:gX m n=0
 ·obtain⟨hm,h1,h2⟩:=Bp h
  have hl:=(dd hm).2.1
  rw[decide_eq_true h]
  have e:ah.b .sub .i64 (dw m) 1=dw m-1:=by rw[bf,gZ (by omega) (by omega)]
  rw[show ah.b .sub .i64 (ah.l m.2.2.2.2.2.2.2) 1=dw m-1 from e]
  refine(ai (AO h)).2 (af.2 ⟨rfl,dY (fun h3=>?_) fun h3=>?_⟩)
  ·exact ay (by rw[decide_eq_false h3];rfl) (.ret _)
  ·have hx:=nX (uZ hm h3.1 (show k<dw m by omega))
   refine af.2 ⟨ru h3.1 (show k<dw m by omega),af.2 ⟨qS hx.2.1 h1 (by omega),af.2 ⟨qS hx.1 h1 (by omega),af.2 ⟨rfl,?_⟩⟩⟩⟩
   exact ay (by rw[decide_eq_true h3];rfl) (.ret _)
 ·rw[decide_eq_false h];exact(aj (qj h)).2 (.ret _)
def r_:(ao×Int×Int)→(Int×Int):=fun(m,c,k)=>fO m c k
def agv:aC:=⟨[aP,yI,yI], [yI,yI],(@tt (ao×Int×Int)),r_⟩
theorem VT:Sd 106 agv:=aQ ar bU true 66 [] (fun A (m,mode,node)=>Y4 A m mode node) (fc Tryz.func106 fz) (sc EF (sc Vf (sc VU sz))) fun(m,mode,node) hp h=>Zg
def Y6(A:aK)(c:cv)(n:Int):LT (cv×Int) Empty:=.need (A.k (@tt ((Int×Int×Int×Int×Int)×Int)) (c,n)) (.br (A.c .neq (A.k nQ (c,n)) 0) (.ret ((0,0,0,0,0),(A.k nQ (c,n)))) (.br (A.c .eql (A.b .add .i64 c.2.1 1) n) (.br (A.c .neq c.2.2.2.1 0) (.ret (((A.b .and .i64 (A.b .add .i64 c.1 1) 255),0,(A.b .sub .i64 c.2.2.2.1 1),0,c.2.2.2.2),0)) (.ret (((A.b .and .i64 (A.b .add .i64 c.1 1) 255),0,c.2.2),0))) (.ret ((c.1,(A.b .add .i64 c.2.1 1),c.2.2),0))))
theorem Ya:∀k:Fin 256,ah.b .and .i64 ((k.val:Int)+1) 255=((k.val:Int)+1).tmod 256:=by decide +kernel
def kt(c:cv)(n:Int):cv×Int:=bif decide (jW (c,n)=0) then(bif decide (c.2.1+1=n) then(bif decide (c.2.2.2.1=0) then(((c.1+1).tmod 256,0,c.2.2),0) else(((c.1+1).tmod 256,0,c.2.2.2.1-1,0,c.2.2.2.2),0)) else((c.1,c.2.1+1,c.2.2),0)) else((0,0,0,0,0),jW (c,n))
theorem Xi{c:cv}{n:Int}:aB Empty.elim (Y6 ah c n) (kt c n):=by
 unfold Y6 kt
 refine af.2 ⟨rfl,?_⟩
 rw[show ah.k nQ (c,n)=jW (c,n) from rfl]
 by_cases h:jW (c,n)=0
 ·obtain⟨h1,h2,h3,h4,h5,h6⟩:=qk h
  have e1:ah.b .add .i64 c.1 1=c.1+1:=by rw[bd,gZ (by omega) (by omega)]
  have e2:ah.b .add .i64 c.2.1 1=c.2.1+1:=by rw[bd,gZ (by omega) (by omega)]
  have e3:ah.b .sub .i64 c.2.2.2.1 1=c.2.2.2.1-1:=by rw[bf,gZ (by omega) (by omega)]
  have e4:ah.b .and .i64 (c.1+1) 255=(c.1+1).tmod 256:=by
   have:=Ya ⟨c.1.toNat,by omega⟩
   rwa [show((c.1.toNat:Nat):Int)=c.1 from Int.toNat_of_nonneg h2.1] at this
  rw[decide_eq_true h,e1,e2,e3,e4]
  refine(ai (AO h)).2 (aA (p:=c.2.1+1=n) aO (fun h=>aA (p:=¬c.2.2.2.1=0) aT (fun g=>?_) fun g=>?_) fun h=>?_)
  ·exact ay (by rw[decide_eq_true h,decide_eq_false g];rfl) (.ret _)
  ·exact ay (by rw[decide_eq_true h,decide_eq_true (by omega)];rfl) (.ret _)
  ·exact ay (by rw[decide_eq_false h];rfl) (.ret _)
 ·rw[decide_eq_false h];exact(aj (qj h)).2 (.ret _)
def Wh:(cv×Int)→(cv×Int):=fun(m,c)=>kt m c
def acw:aC:=⟨[kj,yI], [kj,yI],(@tt (cv×Int)),Wh⟩
theorem ady:Sd 56 acw:=aQ ar bU true 80 [] (fun A (c,n)=>Y6 A c n) (fc Tryz.func56 fz) (sc CY sz) fun(c,n) hp h=>Xi
def aaM(A:aK)(node:Int):LT Int Empty:=.br (A.c .lss node 0) (.ret 0) (.br (A.c .geq node 8) (.ret 0) (.need (A.c .leq 0 node) (.ret (A.b .shl .i64 1 node))))
def QM(n:Int):Int:=bif decide (0≤n∧n≤7) then ah.b .shl .i64 1 n else 0
theorem aix{n:Int}:aB Empty.elim (aaM ah n) (QM n):=by
 unfold aaM QM
 refine aA (p:=n<0) rfl (fun h=>?_) fun h1=>aA (p:=8≤n) rfl (fun h=>?_) fun h2=>af.2 ⟨decide_eq_true (by omega),?_⟩
 ·exact ay (by rw[decide_eq_false (by omega)];rfl) (.ret _)
 ·exact ay (by rw[decide_eq_false (by omega)];rfl) (.ret _)
 ·exact ay (by rw[decide_eq_true (by omega)];rfl) (.ret _)
def Q6:Int→Int:=QM
def abh:aC:=⟨[yI], [yI],(@tt Int),Q6⟩
theorem afq:Sd 228 abh:=aQ ar bU true 28 [] (fun A node=>aaM A node) (fc Tryz.func228 fz) sz fun node hp h=>aix
def XY(A:aK)(c:cv)(node:Int):LT Bool Empty:=.need (A.k (@tt Int) node) (.ret (A.c .neq (A.b .and .i64 c.2.2.2.2 (A.k Q6 node)) 0))
theorem air{x:Int}:ah.b .and .i64 x 0=0:=by
 show IntKind.i64.wrap (((BitVec.ofInt 64 x &&& BitVec.ofInt 64 0).toNat:Nat):Int)=0
 rw[show BitVec.ofInt 64 0=0#64 from rfl,BitVec.and_zero];rfl
def KV(c:cv)(n:Int):Bool:=bif decide (0≤n∧n≤7) then ah.c .neq (ah.b .and .i64 c.2.2.2.2 (ah.b .shl .i64 1 n)) 0 else false
theorem ac5{c:cv}{n:Int}:aB Empty.elim (XY ah c n) (KV c n):=by
 unfold XY KV
 refine af.2 ⟨rfl,ay ?_ (.ret _)⟩
 rw[show ah.k Q6 n=QM n from rfl,QM]
 cases decide (0≤n∧n≤7)
 ·rw[cond_false,cond_false,air];rfl
 ·rfl
def O3:(cv×Int)→Bool:=fun(m,c)=>KV m c
def afH:aC:=⟨[kj,yI], [.bool],(@tt (cv×Int)),O3⟩
theorem acN:Sd 164 afH:=aQ ar bU true 21 [] (fun A (c,node)=>XY A c node) (fc Tryz.func164 fz) (sc afq sz) fun(c,node) hp h=>ac5
def Uf(A:aK)(m:ao)(id:Int):LT Int Empty:=.need (A.k (@tt (ao×Int)) (m,id)) (.ret (A.k VV (m,id)).1)
def uz:(ao×Int)→Int:=fun(m,id)=>(Uf ah m id).val (Ty.bl [yI])
def afv:aC:=⟨[aP,yI], [yI],(@tt (ao×Int)),uz⟩
theorem FN:Sd 47 afv:=aL ar bU true 27 [] (fun A (m,id)=>Uf A m id) (fc Tryz.func47 fz) (sc aem sz) (fun((m,id):ao×Int) hp h=>by
 show(Uf ah m id).pre=true
 simp[Uf,LT.pre,au,cm])
def Tp(A:aK)(m:ao)(id:Int):LT Int Empty:=.need (A.k (@tt (ao×Int)) (m,id)) (.ret (A.k Bm (m,id)).1)
def Om:(ao×Int)→Int:=fun(m,id)=>(Tp ah m id).val (Ty.bl [yI])
def abl:aC:=⟨[aP,yI], [yI],(@tt (ao×Int)),Om⟩
theorem ae4:Sd 295 abl:=aL ar bU true 27 [] (fun A (m,id)=>Tp A m id) (fc Tryz.func295 fz) (sc V5 sz) (fun((m,id):ao×Int) hp h=>by
 show(Tp ah m id).pre=true
 simp[Tp,LT.pre,au,cm])
def Tt(A:aK)(n:Int)(least:Int)(most:Int):LT Bool Empty:=.br (A.c .geq n least) (.ret (A.c .leq n most)) (.ret false)
def uI:(Int×Int×Int)→Bool:=fun(n,least,most)=>(Tt ah n least most).val (Ty.bl [.bool])
def ae8:aC:=⟨[yI,yI,yI], [.bool],(@tt (Int×Int×Int)),uI⟩
theorem Kf:Sd 43 ae8:=aL ar bU true 22 [] (fun A (n,least,most)=>Tt A n least most) (fc Tryz.func43 fz) sz (fun((n,least,most):Int×Int×Int) hp h=>by
 show(Tt ah n least most).pre=true
 simp[Tt,LT.pre,au,cm])
def Ws(A:aK)(n:Node):LT Bool Empty:=.need (A.k (@tt (Int×Int×Int)) (n.2.1,2,4)) (.ret (A.k uI (n.2.1,2,4)))
theorem Ff:uI=fB:=rfl
def jK(n:Node):Bool:=decide (2≤n.2.1∧n.2.1≤4)
theorem ahw{n:Node}:aB Empty.elim (Ws ah n) (jK n):=by
 unfold Ws jK
 exact af.2 ⟨rfl,ay (by rw[Ff,au,mh,Bool.eq_iff_iff];simp) (.ret _)⟩
def fv:Node→Bool:=jK
def ac8:aC:=⟨[aF], [.bool],(@tt Node),fv⟩
theorem rN:Sd 13 ac8:=aQ ar bU true 18 [] (fun A n=>Ws A n) (fc Tryz.func13 fz) (sc Kf sz) fun n hp h=>ahw
def Xh(A:aK)(n:Node):LT Bool Empty:=.br (A.c .geq n.2.1 2) (.ret (A.c .leq n.2.1 4)) (.ret false)
theorem aht{n:Node}:aB Empty.elim (Xh ah n) (jK n):=by
 unfold Xh jK
 refine aA (p:=2≤n.2.1) rfl (fun h=>?_) fun h=>?_
 ·exact ay (by rw[ap,Bool.eq_iff_iff];simp;omega) (.ret _)
 ·exact ay (decide_eq_false (by omega)).symm (.ret _)
def Mn:Node→Bool:=jK
def aeR:aC:=⟨[aF], [.bool],(@tt Node),Mn⟩
theorem aev:Sd 75 aeR:=aQ ar bU true 23 [] (fun A n=>Xh A n) (fc Tryz.func75 fz) sz fun n hp h=>aht
def Zv(A:aK)(m:ao)(n:Node):LT Bool Empty:=.need (A.k (@tt Node) n) (.br (A.not (A.k Mn n)) (.br (A.and (A.c .eql n.2.2.1.1 0) (A.and (A.c .eql n.2.2.1.2.1 0) (A.and (A.c .eql n.2.2.1.2.2.1 0) (A.and (A.c .eql n.2.2.1.2.2.2.1 0) (A.and (A.c .eql n.2.2.1.2.2.2.2 0) true))))) (.ret (A.and (A.c .eql n.2.2.2.1.1 0) (A.and (A.c .eql n.2.2.2.1.2.1 0) (A.and (A.c .eql n.2.2.2.1.2.2.1 0) (A.and (A.c .eql n.2.2.2.1.2.2.2.1 0) (A.and (A.c .eql n.2.2.2.1.2.2.2.2.1 0) (A.and (A.c .eql n.2.2.2.1.2.2.2.2.2.1 0) (A.and (A.c .eql n.2.2.2.1.2.2.2.2.2.2 0) true)))))))) (.ret false)) (.need (A.k (@tt (ao×cv)) (m,n.2.2.1)) (.br (A.k Og (m,n.2.2.1)) (.need (A.k (@tt ((Int×Int×Int×Int×Int×Int×Int))) n.2.2.2.1) (.br (A.c .eql (A.k mq n.2.2.2.1) 0) (.br (A.c .eql n.2.2.2.1.1 n.1) (.br (A.c .eql n.2.2.2.1.2.1 m.1) (.ret (A.c .eql n.2.2.1.2.2.2.2 n.2.2.2.1.2.2.1)) (.ret false)) (.ret false)) (.ret false))) (.ret false))))
def EH(c:cv):Bool:=ah.and (ah.c .eql c.1 0) (ah.and (ah.c .eql c.2.1 0) (ah.and (ah.c .eql c.2.2.1 0) (ah.and (ah.c .eql c.2.2.2.1 0) (ah.and (ah.c .eql c.2.2.2.2 0) true))))
def zeroV(v:lN):Bool:=ah.and (ah.c .eql v.1 0) (ah.and (ah.c .eql v.2.1 0) (ah.and (ah.c .eql v.2.2.1 0) (ah.and (ah.c .eql v.2.2.2.1 0) (ah.and (ah.c .eql v.2.2.2.2.1 0) (ah.and (ah.c .eql v.2.2.2.2.2.1 0) (ah.and (ah.c .eql v.2.2.2.2.2.2 0) true))))))
def oU(m:ao)(n:Node):Bool:=bif jK n then(dP m n.2.2.1&&(decide (mq n.2.2.2.1=0)&&(decide (n.2.2.2.1.1=n.1)&&(decide (n.2.2.2.1.2.1=m.1)&&decide (n.2.2.1.2.2.2.2=n.2.2.2.1.2.2.1))))) else(EH n.2.2.1&&zeroV n.2.2.2.1)
theorem aia{m:ao}{n:Node}:aB Empty.elim (Zv ah m n) (oU m n):=by
 unfold Zv oU
 refine af.2 ⟨rfl,?_⟩
 rw[show ah.k Mn n=jK n from rfl]
 cases jK n
 ·refine(aj rfl).2 ?_
  rw[cond_false]
  cases hz:EH n.2.2.1
  ·exact(ai hz).2 (.ret _)
  ·exact(aj hz).2 (.ret _)
 ·refine(ai rfl).2 (af.2 ⟨rfl,?_⟩)
  rw[show ah.k Og (m,n.2.2.1)=dP m n.2.2.1 from rfl,cond_true]
  cases dP m n.2.2.1
  ·exact(ai rfl).2 (.ret _)
  ·refine(aj rfl).2 (af.2 ⟨rfl,aA (p:=mq n.2.2.2.1=0) aO (fun h1=>aA (p:=n.2.2.2.1.1=n.1) aO (fun h2=>aA (p:=n.2.2.2.1.2.1=m.1) aO (fun h3=>?_) fun h=>?_) fun h=>?_) fun h=>?_⟩)
   ·exact ay (by rw[decide_eq_true h1,decide_eq_true h2,decide_eq_true h3,aO];rfl) (.ret _)
   ·exact ay (by rw[decide_eq_true h1,decide_eq_true h2,decide_eq_false h];rfl) (.ret _)
   ·exact ay (by rw[decide_eq_true h1,decide_eq_false h];rfl) (.ret _)
   ·exact ay (by rw[decide_eq_false h];rfl) (.ret _)
def VG:(ao×Node)→Bool:=fun(m,n)=>oU m n
def ad5:aC:=⟨[aP,aF], [.bool],(@tt (ao×Node)),VG⟩
theorem afP:Sd 71 ad5:=aQ ar bU true 60 [] (fun A (m,n)=>Zv A m n) (fc Tryz.func71 fz) (sc aim (sc aev (sc aa4 sz))) fun(m,n) hp h=>aia
def aae(A:aK)(m:ao)(n:Node):LT Bool Empty:=.br (A.c .neq n.2.1 1) (.ret (A.c .eql n.2.2.2.2.1 0)) (.need (A.k (@tt (ao×Int)) (m,n.1)) (.br (A.c .geq n.2.2.2.2.1 1) (.ret (A.c .leq n.2.2.2.2.1 (A.k Rv (m,n.1)).1)) (.ret false)))
def qc(m:ao)(n:Node):Bool:=bif decide (n.2.1=1) then decide (1≤n.2.2.2.2.1∧n.2.2.2.2.1≤(mK m n.1).1) else decide (n.2.2.2.2.1=0)
theorem ahf{m:ao}{n:Node}:aB Empty.elim (aae ah m n) (qc m n):=by
 unfold aae qc
 refine aA (p:=¬n.2.1=1) aT (fun h=>?_) fun h=>af.2 ⟨rfl,?_⟩
 ·exact ay (by rw[decide_eq_false h,aO];rfl) (.ret _)
 ·rw[decide_eq_true (show n.2.1=1 by omega),show ah.k Rv (m,n.1)=mK m n.1 from rfl,cond_true]
  refine aA (p:=1≤n.2.2.2.2.1) rfl (fun h1=>?_) fun h1=>?_
  ·exact ay (by rw[ap,Bool.eq_iff_iff];simp;omega) (.ret _)
  ·exact ay (decide_eq_false (by omega)).symm (.ret _)
def Vi:(ao×Node)→Bool:=fun(m,n)=>qc m n
def afY:aC:=⟨[aP,aF], [.bool],(@tt (ao×Node)),Vi⟩
theorem aeB:Sd 72 afY:=aQ ar bU true 46 [] (fun A (m,n)=>aae A m n) (fc Tryz.func72 fz) (sc afL sz) fun(m,n) hp h=>ahf
abbrev Ow(A:aK)(m:ao)(n:Node):LT Int Empty:=(.need (A.k (@tt (ao×Node)) (m,n)) (.br (A.not (A.k VG (m,n))) (.ret 180) (.need (A.k (@tt (ao×Node)) (m,n)) (.br (A.not (A.k Vi (m,n))) (.ret 180) (.br n.2.2.2.2.2.1 (.br (A.c .neq n.2.1 1) (.br (A.c .neq n.2.1 2) (.ret 180) (.ret 0)) (.ret 0)) (.ret 0))))))
def Wq(A:aK)(m:ao)(n:Node):LT Int Empty:=.need (A.k (@tt ao) m) (.br (A.c .neq (A.k yy m) 0) (.ret (A.k yy m)) (.br (A.c .lss n.1 0) (.ret 180) (.br (A.c .geq n.1 m.1) (.ret 180) (.br (A.c .lss n.2.1 0) (.ret 180) (.br (A.c .gtr n.2.1 5) (.ret 180) (.br (A.c .lss n.2.2.2.2.2.2.1 0) (.ret 180) (.br (A.c .gtr n.2.2.2.2.2.2.1 2) (.ret 180) (.need (A.k (@tt cJ) n.2.2.2.2.2.2.2) (.br (A.c .neq (A.k VK n.2.2.2.2.2.2.2) 0) (.ret 180) (.br (A.c .neq n.2.2.2.2.2.2.2.1 n.1) (.ret 180) (.br (A.c .neq (A.l n.2.2.2.2.2.2.2.2.2.1) m.1) (.ret 180) (.br (A.c .eql n.2.1 2) (.need (A.and (A.c .leq 0 n.1) (A.c .lss n.1 (A.l m.2.2.2.2.2.2.1))) (.br (A.not (A.n .bool m.2.2.2.2.2.2.1 n.1:Bool)) (.ret 180) (Ow A m n))) (Ow A m n)))))))))))))
def CF(m:ao)(n:Node):Bool:=bif decide (n.2.1=2) then(ah.n .bool m.2.2.2.2.2.2.1 n.1:Bool) else true
def xb(n:Node):Bool:=bif n.2.2.2.2.2.1 then decide (n.2.1=1∨n.2.1=2) else true
def F4(m:ao)(n:Node):Bool:=decide (0≤n.1∧n.1≤m.1-1)&&(decide (0≤n.2.1∧n.2.1≤5)&&(decide (0≤n.2.2.2.2.2.2.1∧n.2.2.2.2.2.2.1≤2)&&(cO n.2.2.2.2.2.2.2&&(decide (n.2.2.2.2.2.2.2.1=n.1)&&(decide ((n.2.2.2.2.2.2.2.2.2.1.length:Int)=m.1)&&(CF m n&&(oU m n&&(qc m n&&xb n))))))))
def bi(m:ao)(n:Node):Int:=bif dh m then(bif F4 m n then 0 else 180) else 70
theorem bW{m:ao}{n:Node}:F4 m n=true↔(0≤n.1∧n.1≤m.1-1)∧(0≤n.2.1∧n.2.1≤5)∧(0≤n.2.2.2.2.2.2.1∧n.2.2.2.2.2.2.1≤2)∧cO n.2.2.2.2.2.2.2=true∧n.2.2.2.2.2.2.2.1=n.1∧(n.2.2.2.2.2.2.2.2.2.1.length:Int)=m.1∧CF m n=true∧oU m n=true∧qc m n=true∧xb n=true:=by
 unfold F4;simp only[Bool.and_eq_true,decide_eq_true_eq]
theorem aY{m:ao}{n:Node}(h:bi m n=0):dh m=true∧F4 m n=true:=by
 unfold bi at h
 cases hm:dh m
 ·rw[hm,cond_false] at h;exact absurd h (by decide)
 ·cases hn:F4 m n
  ·rw[hm,hn,cond_true,cond_false] at h;exact absurd h (by decide)
  ·exact⟨rfl,rfl⟩
section
variable {R Y:Type} {step:Y→LT R Y} {e:LT R Y} {x y:R} {G:Bool}
theorem gP{p:Prop}[Decidable p]{b:Bool}(hb:b=decide p)(h:G=true→¬p)(he:¬p→aB step e (bif G then x else y)):aB step (.br b (.ret y) e) (bif G then x else y):=by
 refine aA hb (fun hp=>?_) he
 cases G
 ·exact .ret _
 ·exact absurd hp (h rfl)
theorem qQ{b:Bool}(h:G=true→b=true)(he:b=true→aB step e (bif G then x else y)):aB step (.br (ah.not b) (.ret y) e) (bif G then x else y):=by
 cases b
 ·cases G
  ·exact(aj rfl).2 (.ret _)
  ·exact absurd (h rfl) (by decide)
 ·exact(ai rfl).2 (he rfl)
theorem xT{u a b:Int}(h:G=true→a≤u∧u≤b)(he:a≤u∧u≤b→aB step e (bif G then x else y)):aB step (.br (ah.not (ah.k fB (u,a,b))) (.ret y) e) (bif G then x else y):=by
 refine dY (fun hp=>?_) he
 cases G
 ·exact .ret _
 ·exact absurd (h rfl) hp
theorem DV(h:G=true):aB step (.ret x) (bif G then x else y):=ay (by rw[h];rfl) (.ret _)
end
theorem Wl{Y:Type}{step:Y→LT Int Y}{n:Node}{G:Bool}(h1:G=true→xb n=true)(h2:xb n=true→G=true):aB step (.br n.2.2.2.2.2.1 (.br (ah.c .neq n.2.1 1) (.br (ah.c .neq n.2.1 2) (.ret 180) (.ret 0)) (.ret 0)) (.ret 0)) (bif G then 0 else 180):=by
 unfold xb at h1 h2
 cases hb:n.2.2.2.2.2.1
 ·rw[hb] at h1 h2
  exact(ai rfl).2 (DV (h2 rfl))
 ·rw[hb] at h1 h2
  simp only[cond_true,decide_eq_true_eq] at h1 h2
  refine(aj rfl).2 (aA (p:=¬n.2.1=1) aT (fun h=>gP (p:=¬n.2.1=2) aT (fun g=>?_) fun g=>?_) fun h=>?_)
  ·have:=h1 g;omega
  ·exact DV (h2 (by omega))
  ·exact DV (h2 (by omega))
theorem P0{R Y:Type}{step:Y→LT R Y}{m:ao}{n:Node}{G:Bool}{e:LT R Y}{x y:R}(hm:dh m=true)(hi:0≤n.1∧n.1≤m.1-1)(h1:G=true→CF m n=true)(h2:CF m n=true→aB step e (bif G then x else y)) :
  aB step (.br (ah.c .eql n.2.1 2) (.need (ah.and (ah.c .leq 0 n.1) (ah.c .lss n.1 (ah.l m.2.2.2.2.2.2.1))) (.br (ah.not (ah.n .bool m.2.2.2.2.2.2.1 n.1:Bool)) (.ret y) e)) e) (bif G then x else y):=by
 unfold CF at h1 h2
 refine aA (p:=n.2.1=2) aO (fun h=>af.2 ⟨qS (dd hm).2.2.1 hi.1 (by omega),?_⟩) fun h=>?_
 ·rw[decide_eq_true h] at h1 h2
  exact qQ h1 h2
 ·rw[decide_eq_false h] at h2
  exact h2 rfl
theorem Yt{m:ao}{n:Node}:aB Empty.elim (Wq ah m n) (bi m n):=by
 unfold Wq Ow bi
 refine af.2 ⟨rfl,?_⟩
 rw[show ah.k yy m=i_ m from rfl,i_]
 cases hm:dh m
 ·exact(aj rfl).2 (.ret _)
 have hG:=@bW m n
 rw[cond_true]
 generalize F4 m n=G at hG ⊢
 refine(ai rfl).2 (gP (p:=n.1<0) rfl (fun g=>by have:=hG.1 g;omega) fun h1=>gP (p:=m.1≤n.1) rfl (fun g=>by have:=hG.1 g;omega) fun h2=>?_)
 refine gP (p:=n.2.1<0) rfl (fun g=>by have:=hG.1 g;omega) fun h3=>gP (p:=5<n.2.1) rfl (fun g=>by have:=hG.1 g;omega) fun h4=>?_
 refine gP (p:=n.2.2.2.2.2.2.1<0) rfl (fun g=>by have:=hG.1 g;omega) fun h5=>gP (p:=2<n.2.2.2.2.2.2.1) rfl (fun g=>by have:=hG.1 g;omega) fun h6=>af.2 ⟨rfl,?_⟩
 refine gP (p:=¬o3 n.2.2.2.2.2.2.2=0) aT (fun g=>not_not_intro (qY.2 (hG.1 g).2.2.2.1)) fun h7=>?_
 refine gP (p:=¬n.2.2.2.2.2.2.2.1=n.1) aT (fun g=>by have:=hG.1 g;omega) fun h8=>?_
 refine gP (p:=¬(n.2.2.2.2.2.2.2.2.2.1.length:Int)=m.1) aT (fun g=>by have:=hG.1 g;omega) fun h9=>?_
 refine P0 hm (by omega) (fun g=>(hG.1 g).2.2.2.2.2.2.1) fun hc=>af.2 ⟨rfl,qQ (b:=oU m n) (fun g=>(hG.1 g).2.2.2.2.2.2.2.1) fun hd=>af.2 ⟨rfl,qQ (b:=qc m n) (fun g=>(hG.1 g).2.2.2.2.2.2.2.2.1) fun he=>?_⟩⟩
 exact Wl (fun g=>(hG.1 g).2.2.2.2.2.2.2.2.2) fun hb=>hG.2 ⟨by omega,by omega,by omega,qY.1 (Decidable.not_not.1 h7),by omega,by omega,hc,hd,he,hb⟩
def Wm:(ao×Node)→Int:=fun(m,n)=>bi m n
def agb:aC:=⟨[aP,aF], [yI],(@tt (ao×Node)),Wm⟩
theorem ad9:Sd 30 agb:=aQ ar bU true 137 [] (fun A (m,n)=>Wq A m n) (fc Tryz.func30 fz) (sc Vn (sc afK (sc afP (sc aeB sz)))) fun(m,n) hp h=>Yt
structure NN where
 (a0:ao) (a1:Node)
structure ZW where
 (b0:ao) (b1:Node)
structure X6 where
 (c0:Node)
inductive SJ where
 | c0 (p:NN)
 | c1 (p:ZW)
 | c2 (p:X6)
noncomputable def aaC:SJ→eF
 | .c0 p=>⟨[⟨12,160,(en [(2,.ptr 0 0),(3,.ptr 1 0)]),[.code (cw Tryz.f12 [1,1,1,0,0,0,0,0,0,0,0,0,1,0,0]),.code (cw Tryz.f12 [1,1,1,0,0,0,0,0,0,0,0,0,1,0,1]),.code (cw Tryz.f12 [1,1,1,0,0,0,0,0,0,0,0,0,1,1]),.code (.exit 3),.inBlock 4,.inBlock 5,.inBlock 6,.inBlock 7,.inBlock 8,.code (cw Tryz.f12 [1,1,1,0,0,1]),.inBlock 3,.code (cw Tryz.f12 [1,1,1,1])],[],none⟩],[.flat false (dc aP p.a0),.flat false (dc aF p.a1),.dead]⟩
 | .c1 p=>⟨[⟨12,160,(en [(2,.ptr 0 0),(3,.ptr 1 0)]),[.code (cw Tryz.f12 [1,1,1,0,0,0,0,0,0,0,0,0,1,1,1,0,0]),.code (cw Tryz.f12 [1,1,1,0,0,0,0,0,0,0,0,0,1,1,1,0,1]),.code (cw Tryz.f12 [1,1,1,0,0,0,0,0,0,0,0,0,1,1,1,1]),.code (.exit 3),.inBlock 4,.inBlock 5,.inBlock 6,.inBlock 7,.inBlock 8,.code (cw Tryz.f12 [1,1,1,0,0,1]),.inBlock 3,.code (cw Tryz.f12 [1,1,1,1])],[],none⟩],[.flat false (dc aP p.b0),.flat false (dc aF p.b1),.dead]⟩
 | .c2 p=>⟨[⟨12,160,(en [(3,.ptr 0 0)]),[.code (cw Tryz.f12 [1,1,1,0,0,0,0,0,0,0,0,0,1,1,1,1,0]),.code (cw Tryz.f12 [1,1,1,0,0,0,0,0,0,0,0,0,1,1,1,1,1]),.code (.exit 3),.inBlock 4,.inBlock 5,.inBlock 6,.inBlock 7,.inBlock 8,.code (cw Tryz.f12 [1,1,1,0,0,1]),.inBlock 3,.code (cw Tryz.f12 [1,1,1,1])],[],none⟩],[.flat false (dc aF p.c0),.dead]⟩
def XJ(A:aK)(m:ao)(n:Node):LT Int SJ:=.need (A.k (@tt ao) m) (.br (A.c .neq (A.k iK m) 0) (.ret (A.k iK m)) (.need (A.k (@tt (Int×Int×Int)) (n.1,0,(A.b .sub .i64 m.1 1))) (.br (A.not (A.k uI (n.1,0,(A.b .sub .i64 m.1 1)))) (.ret 180) (.need (A.k (@tt (Int×Int×Int)) (n.2.1,0,5)) (.br (A.not (A.k uI (n.2.1,0,5))) (.ret 180) (.need (A.k (@tt (Int×Int×Int)) (n.2.2.2.2.2.2.1,0,2)) (.br (A.not (A.k uI (n.2.2.2.2.2.2.1,0,2))) (.ret 180) (.need (A.k (@tt cJ) n.2.2.2.2.2.2.2) (.br (A.c .neq (A.k kY n.2.2.2.2.2.2.2) 0) (.ret 180) (.br (A.c .neq n.2.2.2.2.2.2.2.1 n.1) (.ret 180) (.br (A.c .neq (A.l n.2.2.2.2.2.2.2.2.2.1) m.1) (.ret 180) (.need (A.k (@tt Node) n) (.br (A.k fv n) (.need (A.k (@tt (ao×cv)) (m,n.2.2.1)) (.br (A.not (A.k JE (m,n.2.2.1))) (.ret 180) (.need (A.k (@tt ((Int×Int×Int×Int×Int×Int×Int))) n.2.2.2.1) (.br (A.c .neq (A.k lI n.2.2.2.1) 0) (.ret 180) (.br (A.c .neq n.2.2.2.1.1 n.1) (.ret 180) (.br (A.c .neq n.2.2.2.1.2.1 m.1) (.ret 180) (.br (A.c .neq n.2.2.1.2.2.2.2 n.2.2.2.1.2.2.1) (.ret 180) (.more (.c0 ⟨m,n⟩))))))))) (.more (.c0 ⟨m,n⟩)))))))))))))))
def C3(A:aK):SJ→LT Int SJ
 | .c0 p=>.need (A.k (@tt Node) p.a1) (.br (A.not (A.k fv p.a1)) (.br (A.not (A.and (A.c .eql p.a1.2.2.1.1 0) (A.and (A.c .eql p.a1.2.2.1.2.1 0) (A.and (A.c .eql p.a1.2.2.1.2.2.1 0) (A.and (A.c .eql p.a1.2.2.1.2.2.2.1 0) (A.and (A.c .eql p.a1.2.2.1.2.2.2.2 0) true)))))) (.ret 180) (.br (A.not (A.and (A.c .eql p.a1.2.2.2.1.1 0) (A.and (A.c .eql p.a1.2.2.2.1.2.1 0) (A.and (A.c .eql p.a1.2.2.2.1.2.2.1 0) (A.and (A.c .eql p.a1.2.2.2.1.2.2.2.1 0) (A.and (A.c .eql p.a1.2.2.2.1.2.2.2.2.1 0) (A.and (A.c .eql p.a1.2.2.2.1.2.2.2.2.2.1 0) (A.and (A.c .eql p.a1.2.2.2.1.2.2.2.2.2.2 0) true)))))))) (.ret 180) (.br (A.c .eql p.a1.2.1 2) (.need (A.and (A.c .leq 0 p.a1.1) (A.c .lss p.a1.1 (A.l p.a0.2.2.2.2.2.2.1))) (.br (A.not (A.n .bool p.a0.2.2.2.2.2.2.1 p.a1.1:Bool)) (.ret 180) (.more (.c1 ⟨p.a0,p.a1⟩)))) (.more (.c1 ⟨p.a0,p.a1⟩))))) (.br (A.c .eql p.a1.2.1 2) (.need (A.and (A.c .leq 0 p.a1.1) (A.c .lss p.a1.1 (A.l p.a0.2.2.2.2.2.2.1))) (.br (A.not (A.n .bool p.a0.2.2.2.2.2.2.1 p.a1.1:Bool)) (.ret 180) (.more (.c1 ⟨p.a0,p.a1⟩)))) (.more (.c1 ⟨p.a0,p.a1⟩))))
 | .c1 p=>.br (A.c .eql p.b1.2.1 1) (.need (A.k (@tt (ao×Int)) (p.b0,p.b1.1)) (.need (A.k (@tt (Int×Int×Int)) (p.b1.2.2.2.2.1,1,(A.k uz (p.b0,p.b1.1)))) (.br (A.not (A.k uI (p.b1.2.2.2.2.1,1,(A.k uz (p.b0,p.b1.1))))) (.ret 180) (.br (A.c .neq p.b1.2.1 1) (.br (A.c .neq p.b1.2.2.2.2.1 0) (.ret 180) (.more (.c2 ⟨p.b1⟩))) (.more (.c2 ⟨p.b1⟩)))))) (.br (A.c .neq p.b1.2.1 1) (.br (A.c .neq p.b1.2.2.2.2.1 0) (.ret 180) (.more (.c2 ⟨p.b1⟩))) (.more (.c2 ⟨p.b1⟩)))
 | .c2 p=>.br p.c0.2.2.2.2.2.1 (.br (A.c .neq p.c0.2.1 1) (.br (A.c .neq p.c0.2.1 2) (.ret 180) (.ret 0)) (.ret 0)) (.ret 0)
theorem JY{m:ao}{n:Node}{G:Bool}(h0:G=true→qc m n=true∧xb n=true)(h2:qc m n=true→xb n=true→G=true):aB (C3 ah) (.more (.c1 ⟨m,n⟩)) (bif G then 0 else 180):=by
 have hb:qc m n=true→aB (C3 ah) (.more (.c2 ⟨n⟩)) (bif G then 0 else 180):=fun ht=>by
  rw[ak,C3]
  exact Wl (fun g=>(h0 g).2) (h2 ht)
 rw[ak,C3]
 have ht:=fun g=>(h0 g).1
 unfold qc at ht hb
 rw[Ff]
 refine aA (p:=n.2.1=1) aO (fun h=>?_) fun h=>?_
 ·rw[decide_eq_true h,cond_true] at ht hb
  refine af.2 ⟨rfl,af.2 ⟨rfl,xT (fun g=>of_decide_eq_true (ht g)) fun h1=>?_⟩⟩
  exact aA (p:=¬n.2.1=1) aT (fun k=>absurd h k) fun _=>hb (decide_eq_true h1)
 ·rw[decide_eq_false h,cond_false] at ht hb
  exact aA (p:=¬n.2.1=1) aT (fun _=>gP (p:=¬n.2.2.2.2.1=0) aT (fun g=>not_not_intro (of_decide_eq_true (ht g))) fun h1=>hb (decide_eq_true (Decidable.not_not.1 h1))) fun k=>absurd h k
theorem U_{m:ao}{n:Node}{G:Bool}(hm:dh m=true)(hi:0≤n.1∧n.1≤m.1-1)(h1:jK n=true→oU m n=true)(h0:G=true→CF m n=true∧oU m n=true∧qc m n=true∧xb n=true)(h2:CF m n=true→oU m n=true→qc m n=true→xb n=true→G=true):aB (C3 ah) (.more (.c0 ⟨m,n⟩)) (bif G then 0 else 180):=by
 rw[ak,C3]
 refine af.2 ⟨rfl,?_⟩
 rw[show ah.k fv (⟨m,n⟩:NN).a1=jK n from rfl]
 have hc:=fun g=>(h0 g).2.1
 unfold oU at hc h1 h2
 cases hn:jK n
 ·rw[hn,cond_false] at hc h2
  refine(aj rfl).2 (qQ (b:=EH n.2.2.1) (fun g=>?_) fun z1=>qQ (b:=zeroV n.2.2.2.1) (fun g=>?_) fun z2=>?_)
  ·exact(Bool.and_eq_true _ _▸hc g).1
  ·exact(Bool.and_eq_true _ _▸hc g).2
  ·exact P0 hm hi (fun g=>(h0 g).1) fun k=>JY (fun g=>(h0 g).2.2) fun a b=>h2 k (by rw[z1,z2];rfl) a b
 ·rw[hn,cond_true] at hc h1 h2
  exact(ai rfl).2 (P0 hm hi (fun g=>(h0 g).1) fun k=>JY (fun g=>(h0 g).2.2) fun a b=>h2 k (h1 rfl) a b)
theorem Zy{m:ao}{n:Node}:aB (C3 ah) (XJ ah m n) (bi m n):=by
 unfold XJ bi
 refine af.2 ⟨rfl,?_⟩
 rw[show ah.k iK m=i_ m from rfl,i_]
 cases hm:dh m
 ·exact(aj rfl).2 (.ret _)
 have hG:=@bW m n
 have hl:=(dd hm).1
 rw[cond_true,Ff,bf,gZ (by omega) (by omega)]
 generalize F4 m n=G at hG ⊢
 refine(ai rfl).2 (af.2 ⟨rfl,xT (fun g=>(hG.1 g).1) fun h1=>af.2 ⟨rfl,xT (fun g=>(hG.1 g).2.1) fun h2=>af.2 ⟨rfl,xT (fun g=>(hG.1 g).2.2.1) fun h3=>af.2 ⟨rfl,?_⟩⟩⟩⟩)
 refine gP (p:=¬o3 n.2.2.2.2.2.2.2=0) aT (fun g=>not_not_intro (qY.2 (hG.1 g).2.2.2.1)) fun h7=>?_
 refine gP (p:=¬n.2.2.2.2.2.2.2.1=n.1) aT (fun g=>by have:=hG.1 g;omega) fun h8=>?_
 refine gP (p:=¬(n.2.2.2.2.2.2.2.2.2.1.length:Int)=m.1) aT (fun g=>by have:=hG.1 g;omega) fun h9=>af.2 ⟨rfl,?_⟩
 have fin:(jK n=true→oU m n=true)→aB (C3 ah) (.more (.c0 ⟨m,n⟩)) (bif G then 0 else 180):=fun h=>U_ hm h1 h (fun g=>(hG.1 g).2.2.2.2.2.2) fun a b c d=>hG.2 ⟨h1,h2,h3,qY.1 (Decidable.not_not.1 h7),by omega,by omega,a,b,c,d⟩
 rw[show ah.k fv n=jK n from rfl]
 have hc:=fun g=>(hG.1 g).2.2.2.2.2.2.2.1
 unfold oU at hc fin
 cases hn:jK n
 ·exact(ai rfl).2 (fin fun k=>absurd (hn.symm.trans k) (by decide))
 ·rw[hn,cond_true] at hc
  simp only[hn,cond_true,Bool.and_eq_true,decide_eq_true_eq] at hc fin
  refine(aj rfl).2 (af.2 ⟨rfl,qQ (b:=dP m n.2.2.1) (fun g=>(hc g).1) fun k1=>af.2 ⟨rfl,?_⟩⟩)
  rw[au,chk]
  refine gP (p:=¬mq n.2.2.2.1=0) aT (fun g=>not_not_intro (hc g).2.1) fun k2=>?_
  refine gP (p:=¬n.2.2.2.1.1=n.1) aT (fun g=>not_not_intro (hc g).2.2.1) fun k3=>?_
  refine gP (p:=¬n.2.2.2.1.2.1=m.1) aT (fun g=>not_not_intro (hc g).2.2.2.1) fun k4=>?_
  refine gP (p:=¬n.2.2.1.2.2.2.2=n.2.2.2.1.2.2.1) aT (fun g=>not_not_intro (hc g).2.2.2.2) fun k5=>?_
  exact fin fun _=>⟨k1,Decidable.not_not.1 k2,Decidable.not_not.1 k3,Decidable.not_not.1 k4,Decidable.not_not.1 k5⟩
def Jc:(ao×Node)→Int:=fun(m,n)=>bi m n
def abB:aC:=⟨[aP,aF], [yI],(@tt (ao×Node)),Jc⟩
theorem acs:Sd 12 abB:=aU ar bU true 151 [] [⟨12,8, [[2,3]]⟩,⟨12,10, [[2,3]]⟩,⟨12,11, [[3]]⟩] (fun A (m,n)=>XJ A m n) C3 aaC (fc Tryz.func12 fz) (sc Ij (sc Bn (sc rN (sc FN (sc Kf (sc Bj (sc Wo sz))))))) (fun A y=>match y with |.c0 p=>⟨51,by kernel_rfl,by kernel_rfl⟩|.c1 p=>⟨39,by kernel_rfl,by kernel_rfl⟩|.c2 p=>⟨27,by kernel_rfl,by kernel_rfl⟩) fun(m,n) hp h=>Zy
def aad(A:aK)(m:ao)(id:Int):LT (Node×Int) Empty:=.need (A.k (@tt ao) m) (.br (A.c .neq (A.k iK m) 0) (.ret ((0,0,(0,0,0,0,0),(0,0,0,0,0,0,0),0,false,0,0,([]:List Int),([]:List dx),0,0),(A.k iK m))) (.need (A.k (@tt (Int×Int)) (id,m.1)) (.br (A.c .neq (A.k JO (id,m.1)).2 0) (.ret ((0,0,(0,0,0,0,0),(0,0,0,0,0,0,0),0,false,0,0,([]:List Int),([]:List dx),0,0),2)) (.ret ((id,0,(0,0,0,0,0),(0,0,0,0,0,0,0),0,false,0,(A.k JO (id,m.1)).1),0)))))
def fo:Node:=(0,0,(0,0,0,0,0),(0,0,0,0,0,0,0),0,false,0,0,([]:List Int),([]:List dx),0,0)
def jD(m:ao)(id:Int):Node×Int:=bif dh m then(bif decide (0≤id∧id≤m.1-1) then((id,0,(0,0,0,0,0),(0,0,0,0,0,0,0),0,false,0,id,([]:List Int),List.replicate m.1.toNat wh,4,(-1)),0) else(fo,2)) else(fo,70)
theorem Z1{m:ao}{id:Int}:aB Empty.elim (aad ah m id) (jD m id):=by
 unfold aad jD
 refine af.2 ⟨rfl,?_⟩
 rw[show ah.k iK m=i_ m from rfl,i_]
 cases hm:dh m
 ·exact(aj rfl).2 (.ret _)
 refine(ai rfl).2 (af.2 ⟨rfl,?_⟩)
 rw[show ah.k JO (id,m.1)=Qe id m.1 from rfl,Qe,decide_eq_true (dd hm).1,cond_true,cond_true]
 cases decide (0≤id∧id≤m.1-1)
 ·exact(aj rfl).2 (.ret _)
 ·exact(ai rfl).2 (.ret _)
def fJ:(ao×Int)→(Node×Int):=fun(m,n)=>jD m n
def ads:aC:=⟨[aP,yI], [aF,yI],(@tt (ao×Int)),fJ⟩
theorem VQ:Sd 38 ads:=aQ ar bU true 55 [] (fun A (m,id)=>aad A m id) (fc Tryz.func38 fz) (sc Bn (sc aeN sz)) fun(m,id) hp h=>Z1
def Yj(A:aK)(m:ao)(n:Node)(when:Bool):LT (Node×Int) Empty:=.need (A.k (@tt (ao×Node)) (m,n)) (.br (A.c .neq (A.k Jc (m,n)) 0) (.ret ((0,0,(0,0,0,0,0),(0,0,0,0,0,0,0),0,false,0,0,([]:List Int),([]:List dx),0,0),(A.k Jc (m,n)))) (.br (A.not when) (.ret ((0,0,(0,0,0,0,0),(0,0,0,0,0,0,0),0,false,0,0,([]:List Int),([]:List dx),0,0),181)) (.need (A.k (@tt (cJ×List Int)) (n.2.2.2.2.2.2.2,n.2.2.2.2.2.2.2.2.1)) (.ret ((n.1,n.2.1,n.2.2.1,n.2.2.2.1,n.2.2.2.2.1,n.2.2.2.2.2.1,n.2.2.2.2.2.2.1,(A.k yk (n.2.2.2.2.2.2.2,n.2.2.2.2.2.2.2.2.1)).1),(A.k yk (n.2.2.2.2.2.2.2,n.2.2.2.2.2.2.2.2.1)).2)))))
def ia(m:ao)(n:Node)(w:Bool):Node×Int:=bif decide (bi m n=0) then(bif w then(n,0) else(fo,181)) else(fo,bi m n)
theorem rA{m:ao}{n:Node}(h:bi m n=0):cO n.2.2.2.2.2.2.2=true:=(bW.1 (aY h).2).2.2.2.1
theorem Sv{c:cJ}(h:cO c=true):¬8<(c.2.1.length:Int):=by
 simp only[cO,Bool.and_eq_true,decide_eq_true_eq] at h
 exact h.2.2.1
theorem agi{m:ao}{n:Node}{w:Bool}:aB Empty.elim (Yj ah m n w) (ia m n w):=by
 unfold Yj ia
 refine af.2 ⟨rfl,?_⟩
 rw[show ah.k Jc (m,n)=bi m n from rfl]
 by_cases h:bi m n=0
 ·rw[decide_eq_true h]
  refine(ai (AO h)).2 ?_
  cases w
  ·exact(aj rfl).2 (.ret _)
  ·refine(ai rfl).2 (af.2 ⟨rfl,?_⟩)
   rw[show ah.k yk (n.2.2.2.2.2.2.2,n.2.2.2.2.2.2.2.2.1)=Mi n.2.2.2.2.2.2.2 n.2.2.2.2.2.2.2.2.1 from rfl,Mi,rA h,decide_eq_false (Sv (rA h))]
   exact .ret _
 ·rw[decide_eq_false h];exact(aj (qj h)).2 (.ret _)
def gx:(ao×Node×Bool)→(Node×Int):=fun(m,c,k)=>ia m c k
def acv:aC:=⟨[aP,aF,.bool], [aF,yI],(@tt (ao×Node×Bool)),gx⟩
theorem wI:Sd 48 acv:=aQ ar bU true 64 [] (fun A (m,n,when)=>Yj A m n when) (fc Tryz.func48 fz) (sc acs (sc V9 sz)) fun(m,n,when) hp h=>agi
abbrev um(A:aK)(m:ao)(n:Node):=(A.k gx (m,n,(A.c .eql n.2.1 0)))
abbrev tO(A:aK)(m:ao)(n:Node):=(A.k gx (m,n,true))
def XO(A:aK)(m:ao)(n:Node)(on:Bool):LT (Node×Int) Empty:=.br (A.not on) (.need (A.k (@tt (ao×Node×Bool)) (m,n,true)) (.br (A.c .neq (tO A m n).2 0) (.ret ((0,0,(0,0,0,0,0),(0,0,0,0,0,0,0),0,false,0,0,([]:List Int),([]:List dx),0,0),(tO A m n).2)) (.br (A.not on) (.need (A.k (@tt (ao×Int)) (m,(tO A m n).1.1)) (.ret (A.k fJ (m,(tO A m n).1.1)))) (.need (A.k (@tt (ao×Int)) (m,(tO A m n).1.1)) (.ret (((tO A m n).1.1,1,(0,0,0,0,0),(0,0,0,0,0,0,0),(A.k uz (m,(tO A m n).1.1)),(tO A m n).1.2.2.2.2.2),0)))))) (.need (A.k (@tt (ao×Node×Bool)) (m,n,(A.c .eql n.2.1 0))) (.br (A.c .neq (um A m n).2 0) (.ret ((0,0,(0,0,0,0,0),(0,0,0,0,0,0,0),0,false,0,0,([]:List Int),([]:List dx),0,0),(um A m n).2)) (.br (A.not on) (.need (A.k (@tt (ao×Int)) (m,(um A m n).1.1)) (.ret (A.k fJ (m,(um A m n).1.1)))) (.need (A.k (@tt (ao×Int)) (m,(um A m n).1.1)) (.ret (((um A m n).1.1,1,(0,0,0,0,0),(0,0,0,0,0,0,0),(A.k uz (m,(um A m n).1.1)),(um A m n).1.2.2.2.2.2),0))))))
theorem Nx{c:cv}(h:EH c=true):c=(0,0,0,0,0):=by
 obtain⟨a,b,d,e,f⟩:=c
 simp[EH,aG,ax] at h
 obtain⟨rfl,rfl,rfl,rfl,rfl⟩:=h
 rfl
theorem OZ{c:lN}(h:zeroV c=true):c=(0,0,0,0,0,0,0):=by
 obtain⟨a,b,d,e,f,g,i⟩:=c
 simp[zeroV,aG,ax] at h
 obtain⟨rfl,rfl,rfl,rfl,rfl,rfl,rfl⟩:=h
 rfl
theorem JZ{m:ao}{n:Node}(h:bi m n=0)(h2:¬(2≤n.2.1∧n.2.1≤4)):n.2.2.1=(0,0,0,0,0)∧n.2.2.2.1=(0,0,0,0,0,0,0):=by
 have hc:=(bW.1 (aY h).2).2.2.2.2.2.2.2.1
 rw[oU,jK,decide_eq_false h2,cond_false,Bool.and_eq_true] at hc
 exact⟨Nx hc.1,OZ hc.2⟩
theorem Jj{m:ao}{n:Node}(h:bi m n=0)(h2:¬n.2.1=1):n.2.2.2.2.1=0:=by
 have hc:=(bW.1 (aY h).2).2.2.2.2.2.2.2.2.1
 rw[qc,decide_eq_false h2] at hc
 exact of_decide_eq_true hc
def lX(m:ao)(n:Node)(on:Bool):Node×Int:=bif decide (bi m n=0) then(bif on then(bif decide (n.2.1=0) then((n.1,1,(0,0,0,0,0),(0,0,0,0,0,0,0),(mK m n.1).1,n.2.2.2.2.2),0) else(fo,181)) else jD m n.1) else(fo,bi m n)
theorem adC{m:ao}{n:Node}{on:Bool}:aB Empty.elim (XO ah m n on) (lX m n on):=by
 unfold XO tO um lX
 rw[show ah.k gx (m,n,true)=ia m n true from rfl,show ah.k gx (m,n,ah.c .eql n.2.1 0)=ia m n (ah.c .eql n.2.1 0) from rfl,aO,ia,ia]
 by_cases h:bi m n=0
 ·rw[decide_eq_true h]
  cases on
  ·exact(aj rfl).2 (af.2 ⟨rfl,(ai rfl).2 ((aj rfl).2 (af.2 ⟨rfl,.ret _⟩))⟩)
  ·refine(ai rfl).2 (af.2 ⟨rfl,?_⟩)
   cases decide (n.2.1=0)
   ·exact(aj rfl).2 (.ret _)
   ·exact(ai rfl).2 ((ai rfl).2 (af.2 ⟨rfl,.ret _⟩))
 ·rw[decide_eq_false h]
  cases on
  ·exact(aj rfl).2 (af.2 ⟨rfl,(aj (qj h)).2 (.ret _)⟩)
  ·exact(ai rfl).2 (af.2 ⟨rfl,(aj (qj h)).2 (.ret _)⟩)
def uX:(ao×Node×Bool)→(Node×Int):=fun(m,c,k)=>lX m c k
def aeY:aC:=⟨[aP,aF,.bool], [aF,yI],(@tt (ao×Node×Bool)),uX⟩
theorem VD:Sd 39 aeY:=aQ ar bU true 90 [] (fun A (m,n,on)=>XO A m n on) (fc Tryz.func39 (fc Tryz.func84 fz)) (sc VQ (sc wI (sc FN sz))) fun(m,n,on) hp h=>adC
abbrev wX(A:aK)(m:ao)(n:Node):=(A.k gx (m,n,(A.c .eql n.2.1 0)))
abbrev Ph:LT (Node×Int) Empty:=(.ret ((0,0,(0,0,0,0,0),(0,0,0,0,0,0,0),0,false,0,0,([]:List Int),([]:List dx),0,0),2))
def W0(A:aK)(m:ao)(n:Node)(set1:Int):LT (Node×Int) Empty:=.need (A.k (@tt (ao×Node×Bool)) (m,n,(A.c .eql n.2.1 0))) (.br (A.c .neq (wX A m n).2 0) (.ret ((0,0,(0,0,0,0,0),(0,0,0,0,0,0,0),0,false,0,0,([]:List Int),([]:List dx),0,0),(wX A m n).2)) (.need (A.c .leq 0 m.1) (.need (A.k (@tt (Int×Int×Int)) (set1,0,(A.b .sub .i64 (A.b .shl .i64 1 m.1) 1))) (.br (A.not (A.k uI (set1,0,(A.b .sub .i64 (A.b .shl .i64 1 m.1) 1)))) (Ph) (.need (A.c .leq 0 (wX A m n).1.1) (.br (A.c .eql (A.b .and .i64 (A.b .shr .i64 set1 (wX A m n).1.1) 1) 0) (Ph) (.ret (((wX A m n).1.1,4,(0,0,0,0,set1),((wX A m n).1.1,m.1,set1,1,0,0,0),0,(wX A m n).1.2.2.2.2.2),0))))))))
theorem LF{k:Int}(h:4≤k∧k≤8):16≤ah.b .shl .i64 1 k∧ah.b .shl .i64 1 k≤256:=by
 have:k=4∨k=5∨k=6∨k=7∨k=8:=by omega
 rcases this with rfl|rfl|rfl|rfl|rfl<;>decide
def Mj(m:ao)(n:Node)(s:Int):Node×Int:=bif decide (bi m n=0) then(bif decide (n.2.1=0) then(bif decide (0≤s∧s≤ah.b .shl .i64 1 m.1-1) then(bif kX s n.1 then((n.1,4,(0,0,0,0,s),(n.1,m.1,s,1,0,0,0),0,n.2.2.2.2.2),0) else(fo,2)) else(fo,2)) else(fo,181)) else(fo,bi m n)
theorem ahE{m:ao}{n:Node}{s:Int}:aB Empty.elim (W0 ah m n s) (Mj m n s):=by
 unfold W0 Ph wX Mj
 refine af.2 ⟨rfl,?_⟩
 rw[show ah.k gx (m,n,ah.c .eql n.2.1 0)=ia m n (ah.c .eql n.2.1 0) from rfl,aO,ia,Ff]
 by_cases h:bi m n=0
 ·rw[decide_eq_true h]
  cases decide (n.2.1=0)
  ·exact(aj rfl).2 (.ret _)
  have hk:=(dd (aY h).1).1
  have hs:=LF hk
  have hi:=(bW.1 (aY h).2).1
  refine(ai rfl).2 (af.2 ⟨decide_eq_true (by omega),af.2 ⟨rfl,?_⟩⟩)
  rw[bf,gZ (by omega) (by omega)]
  refine dY (fun h3=>?_) fun h3=>af.2 ⟨decide_eq_true (show 0≤n.1 from hi.1),?_⟩
  ·exact ay (by rw[decide_eq_false h3];rfl) (.ret _)
  ·rw[decide_eq_true h3]
   have hb:=V8 (c:=s) (a:=n.1) h3.1 (by omega) hi.1 (by omega)
   refine aA (p:=ah.b .and .i64 (ah.b .shr .i64 s n.1) 1=0) aO (fun g=>?_) fun g=>?_
   ·exact ay (by rw[hb.1 g];rfl) (.ret _)
   ·exact ay (by rw[show kX s n.1=true from by cases hx:kX s n.1;exact absurd (hb.2 hx) g;rfl];rfl) (.ret _)
 ·rw[decide_eq_false h];exact(aj (qj h)).2 (.ret _)
def yx:(ao×Node×Int)→(Node×Int):=fun(m,c,k)=>Mj m c k
def af7:aC:=⟨[aP,aF,yI], [aF,yI],(@tt (ao×Node×Int)),yx⟩
theorem ae9:Sd 66 af7:=aQ ar bU true 110 [] (fun A (m,n,set1)=>W0 A m n set1) (fc Tryz.func66 (fc Tryz.func139 fz)) (sc wI (sc Kf sz)) fun(m,n,set1) hp h=>ahE
abbrev du(A:aK)(m:ao)(n:Node):=(A.k gx (m,n,true))
abbrev PX(A:aK)(m:ao)(n:Node):LT (Node×Int) Empty:=(.ret ((0,0,(0,0,0,0,0),(0,0,0,0,0,0,0),0,false,0,0,([]:List Int),([]:List dx),0,0),(du A m n).2))
def Yn(A:aK)(m:ao)(n:Node)(o:bg):LT (Node×Int) Empty:=.need (A.k (@tt (ao×Node×Bool)) (m,n,true)) (.br (A.c .neq (du A m n).2 0) (PX A m n) (.need (A.k (@tt (Int×Int×Int)) (o.2.2.2.1,1,3)) (.br (A.not (A.k uI (o.2.2.2.1,1,3))) (.ret ((0,0,(0,0,0,0,0),(0,0,0,0,0,0,0),0,false,0,0,([]:List Int),([]:List dx),0,0),2)) (.need (A.k (@tt Node) (du A m n).1) (.br (A.not (A.k fv (du A m n).1)) (.ret ((du A m n).1,0)) (.br (A.c .eql o.2.2.2.1 1) (.need (A.k (@tt (cJ×List Int)) ((du A m n).1.2.2.2.2.2.2.2,o.2.2.2.2.2)) (.br (A.c .neq (A.k yk ((du A m n).1.2.2.2.2.2.2.2,o.2.2.2.2.2)).2 0) (.ret ((0,0,(0,0,0,0,0),(0,0,0,0,0,0,0),0,false,0,0,([]:List Int),([]:List dx),0,0),(A.k yk ((du A m n).1.2.2.2.2.2.2.2,o.2.2.2.2.2)).2)) (.ret (((du A m n).1.1,(du A m n).1.2.1,(du A m n).1.2.2.1,(du A m n).1.2.2.2.1,(du A m n).1.2.2.2.2.1,(du A m n).1.2.2.2.2.2.1,(du A m n).1.2.2.2.2.2.2.1,(A.k yk ((du A m n).1.2.2.2.2.2.2.2,o.2.2.2.2.2)).1),0)))) (.br (A.c .eql o.2.2.2.1 2) (.need (A.k (@tt cJ) (du A m n).1.2.2.2.2.2.2.2) (.br (A.c .neq (A.k KH (du A m n).1.2.2.2.2.2.2.2).2 0) (.ret ((0,0,(0,0,0,0,0),(0,0,0,0,0,0,0),0,false,0,0,([]:List Int),([]:List dx),0,0),(A.k KH (du A m n).1.2.2.2.2.2.2.2).2)) (.ret (((du A m n).1.1,(du A m n).1.2.1,(du A m n).1.2.2.1,(du A m n).1.2.2.2.1,(du A m n).1.2.2.2.2.1,(du A m n).1.2.2.2.2.2.1,(du A m n).1.2.2.2.2.2.2.1,(A.k KH (du A m n).1.2.2.2.2.2.2.2).1),0)))) (.br (A.c .eql o.2.2.2.1 3) (.need (A.k (@tt (cJ×Int)) ((du A m n).1.2.2.2.2.2.2.2,o.2.2.2.2.1)) (.br (A.c .neq (A.k Kk ((du A m n).1.2.2.2.2.2.2.2,o.2.2.2.2.1)).2 0) (.ret ((0,0,(0,0,0,0,0),(0,0,0,0,0,0,0),0,false,0,0,([]:List Int),([]:List dx),0,0),(A.k Kk ((du A m n).1.2.2.2.2.2.2.2,o.2.2.2.2.1)).2)) (.ret (((du A m n).1.1,(du A m n).1.2.1,(du A m n).1.2.2.1,(du A m n).1.2.2.2.1,(du A m n).1.2.2.2.2.1,(du A m n).1.2.2.2.2.2.1,(du A m n).1.2.2.2.2.2.2.1,(A.k Kk ((du A m n).1.2.2.2.2.2.2.2,o.2.2.2.2.1)).1),0)))) (.br (A.c .neq (du A m n).2 0) (PX A m n) (.ret ((du A m n).1,0)))))))))))
def zJ(n:Node)(r:cJ×Int):Node×Int:=bif decide (r.2=0) then((n.1,n.2.1,n.2.2.1,n.2.2.2.1,n.2.2.2.2.1,n.2.2.2.2.2.1,n.2.2.2.2.2.2.1,r.1),0) else(fo,r.2)
def sC(m:ao)(n:Node)(o:bg):Node×Int:=bif decide (bi m n=0) then(bif decide (1≤o.2.2.2.1∧o.2.2.2.1≤3) then(bif jK n then(bif decide (o.2.2.2.1=1) then zJ n (Mi n.2.2.2.2.2.2.2 o.2.2.2.2.2) else bif decide (o.2.2.2.1=2) then zJ n (R1 n.2.2.2.2.2.2.2) else zJ n (An n.2.2.2.2.2.2.2 o.2.2.2.2.1)) else(n,0)) else(fo,2)) else(fo,bi m n)
theorem Qm{Y:Type}{step:Y→LT (Node×Int) Y}{n:Node}{r:cJ×Int}{x:Int}(hx:r.2=0→x=0):aB step (.br (ah.c .neq r.2 0) (.ret (fo,r.2)) (.ret ((n.1,n.2.1,n.2.2.1,n.2.2.2.1,n.2.2.2.2.1,n.2.2.2.2.2.1,n.2.2.2.2.2.2.1,r.1),x))) (zJ n r):=by
 unfold zJ
 refine aA (p:=¬r.2=0) aT (fun h=>?_) fun h=>?_
 ·exact ay (by rw[decide_eq_false h];rfl) (.ret _)
 ·have h:=Decidable.not_not.1 h
  exact ay (by rw[decide_eq_true h,hx h];rfl) (.ret _)
theorem acm{m:ao}{n:Node}{o:bg}:aB Empty.elim (Yn ah m n o) (sC m n o):=by
 unfold Yn PX du sC
 refine af.2 ⟨rfl,?_⟩
 rw[show ah.k gx (m,n,true)=ia m n true from rfl,ia,Ff]
 by_cases h:bi m n=0
 ·rw[decide_eq_true h,cond_true,cond_true,cond_true]
  refine(ai rfl).2 (af.2 ⟨rfl,dY (fun h3=>?_) fun h3=>af.2 ⟨rfl,?_⟩⟩)
  ·exact ay (by rw[decide_eq_false h3];rfl) (.ret _)
  rw[decide_eq_true h3,cond_true]
  rw[show ah.k fv ((n,0):Node×Int).1=jK n from rfl]
  cases jK n
  ·exact(aj rfl).2 (.ret _)
  refine(ai rfl).2 (aA (p:=o.2.2.2.1=1) aO (fun k=>af.2 ⟨rfl,?_⟩) fun k=>aA (p:=o.2.2.2.1=2) aO (fun k2=>af.2 ⟨rfl,?_⟩) fun k2=>(aj (by rw[aO];exact decide_eq_true (by omega))).2 (af.2 ⟨rfl,?_⟩))
  ·rw[decide_eq_true k];exact Qm (r:=Mi n.2.2.2.2.2.2.2 o.2.2.2.2.2) (fun h=>rfl)
  ·rw[decide_eq_false k,decide_eq_true k2];exact Qm (r:=R1 n.2.2.2.2.2.2.2) (fun h=>rfl)
  ·rw[decide_eq_false k,decide_eq_false k2];exact Qm (r:=An n.2.2.2.2.2.2.2 o.2.2.2.2.1) (fun h=>rfl)
 ·rw[decide_eq_false h];exact(aj (qj h)).2 (.ret _)
def Kq:(ao×Node×bg)→(Node×Int):=fun(m,c,k)=>sC m c k
def afG:aC:=⟨[aP,aF,bC], [aF,yI],(@tt (ao×Node×bg)),Kq⟩
theorem adT:Sd 189 afG:=aQ ar bU true 107 [] (fun A (m,n,o)=>Yn A m n o) (fc Tryz.func189 fz) (sc rN (sc wI (sc Kf (sc V9 (sc af6 (sc ab6 sz)))))) fun(m,n,o) hp h=>acm
structure Nv where
 (a0:Int) (a1:List Seen) (a2:Int) (a4:lN) (a5:Int)
inductive UZ where
 | c0 (p:Nv) (a3:Int)
noncomputable def Yr:UZ→eF
 | .c0 p a3=>⟨[⟨85,45,(en [(0,vi p.a0),(4,.ptr 0 0),(11,.sl aJ p.a1),(12,vi p.a2),(13,vi a3)]),[.inLoop (cw Tryz.f85 [1,0,1,0,0]),.inBlock 0,.code (cw Tryz.f85 [1,1])],[],none⟩],[.flat false (dc kB p.a4 ++ [vi p.a5,.dq true]),.dead]⟩
def aej(A:aK)(n:Int)(seen:List Seen):LT (mR×Int×Bool) UZ:=.more (.c0 ⟨n,seen,(A.l seen),(0,0,0,0,0,0,0),0⟩ 0)
def Le(A:aK):UZ→LT (mR×Int×Bool) UZ
 | .c0 p a3=>.br (A.c .lss a3 p.a2) (.need (A.and (A.c .leq 0 a3) (A.c .lss a3 (A.l p.a1))) (.br (A.c .neq (A.n aJ p.a1 a3:Seen).1 2) (.more (.c0 p (A.b .add .i64 a3 1))) (.need (A.k (@tt ((Int×List Int))) (A.n aJ p.a1 a3:Seen).2.2) (.br (A.k DZ (A.n aJ p.a1 a3:Seen).2.2).2 (.need (A.k (@tt ((Int×Int×Int×Int×Int)×Int)) ((A.k DZ (A.n aJ p.a1 a3:Seen).2.2).1.2.2.1,p.a0)) (.br (A.c .eql (A.k nQ ((A.k DZ (A.n aJ p.a1 a3:Seen).2.2).1.2.2.1,p.a0)) 0) (.br (A.c .lss (A.k DZ (A.n aJ p.a1 a3:Seen).2.2).1.2.2.2.1 p.a0) (.ret ((A.k DZ (A.n aJ p.a1 a3:Seen).2.2).1,(A.n aJ p.a1 a3:Seen).2.1,true)) (.more (.c0 p (A.b .add .i64 a3 1)))) (.more (.c0 p (A.b .add .i64 a3 1))))) (.more (.c0 p (A.b .add .i64 a3 1))))))) (.ret ((0,0,(0,0,0,0,0),0,([]:List Int)),0,false))
def AN(n:Int)(s:Seen):Bool:=decide (s.1=2)&&(decide ((nC s.2.2).2=true)&&(decide (jW ((nC s.2.2).1.2.2.1,n)=0)&&decide ((nC s.2.2).1.2.2.2.1<n)))
def fI(n:Int):List Seen→mR×Int×Bool
 | []=>((0,0,(0,0,0,0,0),0,([]:List Int)),0,false)
 | s::l=>bif AN n s then((nC s.2.2).1,s.2.1,true) else fI n l
theorem RV{n:Int}{l:List Seen}(h:(fI n l).2.2=true):jW ((fI n l).1.2.2.1,n)=0∧(fI n l).1.2.2.2.1<n∧rH (fI n l).1=true:=by
 induction l with
 | nil=>exact absurd h (by simp[fI])
 | cons s l ih=>
   rw[fI] at h ⊢
   cases hx:AN n s
   ·rw[hx] at h;exact ih h
   ·simp only[AN,Bool.and_eq_true,decide_eq_true_eq] at hx
    exact⟨hx.2.2.1,hx.2.2.2,T3 hx.2.1⟩
theorem adm{b:Bool}:b=decide (b=true):=by cases b<;>rfl
theorem KX{p:Nv}{n:Int}{seen:List Seen}(h0:p.a0=n)(h1:p.a1=seen)(h2:p.a2=(seen.length:Int))(hl:seen.length≤140737488355328):∀(j i:Nat),seen.length-i=j→i≤seen.length→aB (Le ah) (.more (.c0 p (i:Int))) (fI n (seen.drop i)):=by
 intro j
 induction j with
 | zero=>
   intro i hj hi
   have:i=seen.length:=by omega
   subst this
   rw[ak,Le,h2,List.drop_length]
   exact(ai (by rw[al];simp)).2 (.ret _)
 | succ j ih=>
   intro i hj hi
   have hi':i<seen.length:=by omega
   have nx:=ih (i+1) (by omega) (by omega)
   rw[ak,Le,h0,h1,h2]
   refine(aj (by rw[al];exact decide_eq_true (by omega))).2 (af.2 ⟨aS hi',?_⟩)
   rw[show(ah.n aJ seen (i:Int):Seen)=seen[i] from getD_in hi' _,List.drop_eq_getElem_cons hi',fI,cu (i:=i) (by omega)]
   generalize seen[i]=s
   generalize fI n (seen.drop (i+1))=r at nx ⊢
   have hx:AN n s=false→aB (Le ah) (.more (.c0 p ((i+1:Nat):Int))) (bif AN n s then((nC s.2.2).1,s.2.1,true) else r):=fun h=>ay (by rw[h];rfl) nx
   rw[show ah.k DZ s.2.2=nC s.2.2 from Ua]
   refine aA (p:=¬s.1=2) aT (fun h=>hx (by rw[AN,decide_eq_false h];rfl)) fun g1=>af.2 ⟨rfl,?_⟩
   refine aA (p:=(nC s.2.2).2=true) adm (fun g2=>af.2 ⟨rfl,?_⟩) fun h=>hx (by rw[AN,decide_eq_false h,Bool.false_and,Bool.and_false])
   refine aA (p:=jW ((nC s.2.2).1.2.2.1,n)=0) aO (fun g3=>?_) fun h=>hx (by rw[AN,decide_eq_false h,Bool.false_and,Bool.and_false,Bool.and_false])
   refine aA (p:=(nC s.2.2).1.2.2.2.1<n) rfl (fun g4=>?_) fun h=>hx (by rw[AN,decide_eq_false h,Bool.and_false,Bool.and_false,Bool.and_false])
   exact ay (by rw[AN,decide_eq_true (Decidable.not_not.1 g1),decide_eq_true g2,decide_eq_true g3,decide_eq_true g4];rfl) (.ret _)
theorem aey{n:Int}{seen:List Seen}(hl:seen.length≤140737488355328):aB (Le ah) (aej ah n seen) (fI n seen):=
 KX (p:=⟨n,seen,(seen.length:Int),(0,0,0,0,0,0,0),0⟩) rfl rfl rfl hl seen.length 0 rfl (by omega)
def yK:(Int×List Seen)→(mR×Int×Bool):=fun(m,n)=>fI m n
def adJ:aC:=⟨[yI,(.slice aJ)], [w_,yI,.bool],(@tt (Int×List Seen)),yK⟩
theorem abe:Sd 85 adJ:=aU ar bU true 21 [⟨85,2, [[0,4,11,12,13]]⟩] [] (fun A (n,seen)=>aej A n seen) Le Yr (fc Tryz.func85 fz) (sc ahR (sc CY sz)) (fun A y=>match y with |.c0 p a3=>⟨70,by kernel_rfl,by kernel_rfl⟩) fun(n,seen) hp h=>aey h.2.1
abbrev Ob(A:aK)(m:ao)(c:cv)(f:mR):LT Bool Empty:=(.br (A.c .eql (A.k r_ (m,c.2.2.1,c.2.1)).2 0) (.br (A.c .eql f.1 (A.k r_ (m,c.2.2.1,c.2.1)).1) (.ret (A.c .eql (A.l f.2.2.2.2) 0)) (.ret false)) (.ret false))
def Z4(A:aK)(m:ao)(c:cv)(f:mR):LT Bool Empty:=.need (A.k (@tt (ao×Int×Int)) (m,c.2.2.1,c.2.1)) (.br (A.c .eql (A.k r_ (m,c.2.2.1,c.2.1)).2 0) (.br (A.c .neq (A.k r_ (m,c.2.2.1,c.2.1)).1 3) (.need (A.and (A.c .leq 0 c.2.2.1) (A.c .lss c.2.2.1 (A.l m.2.2.2.2.2.2.2))) (.need (A.and (A.c .leq 0 c.2.1) (A.c .lss c.2.1 (A.l (A.n b_ m.2.2.2.2.2.2.2 c.2.2.1:Mode).1))) (.br (A.c .eql (A.k r_ (m,c.2.2.1,c.2.1)).2 0) (.br (A.c .eql f.1 (A.k r_ (m,c.2.2.1,c.2.1)).1) (.ret (A.c .eql (A.l f.2.2.2.2) (A.n yI (A.n b_ m.2.2.2.2.2.2.2 c.2.2.1:Mode).1 c.2.1:Int))) (.ret false)) (.ret false)))) (Ob A m c f)) (Ob A m c f))
def tN(m:ao)(c:cv)(f:mR):Bool:=decide ((fO m c.2.2.1 c.2.1).2=0)&&(decide (f.1=(fO m c.2.2.1 c.2.1).1)&&decide ((f.2.2.2.2.length:Int)=bif decide ((fO m c.2.2.1 c.2.1).1=3) then(0:Int) else(ah.n (.int .i64) (ah.n b_ m.2.2.2.2.2.2.2 c.2.2.1:Mode).1 c.2.1:Int)))
theorem rv{m:ao}{k n:Int}(h:(fO m k n).2=0):dh m=true∧(0≤n∧n≤m.1-1)∧(0≤k∧k<dw m):=by
 unfold fO at h
 by_cases h1:gX m n=0
 ·obtain⟨a,b⟩:=Bp h1
  by_cases h2:0≤k∧k≤dw m-1
  ·exact⟨a,b,by omega⟩
  ·rw[decide_eq_true h1,decide_eq_false h2,cond_true,cond_false] at h;exact absurd h (by decide)
 ·rw[decide_eq_false h1,cond_false] at h;exact absurd h h1
theorem acP{m:ao}{c:cv}{f:mR}:aB Empty.elim (Z4 ah m c f) (tN m c f):=by
 unfold Z4 Ob
 refine af.2 ⟨rfl,?_⟩
 rw[show ah.k r_ (m,c.2.2.1,c.2.1)=fO m c.2.2.1 c.2.1 from rfl]
 by_cases h:(fO m c.2.2.1 c.2.1).2=0
 ·obtain⟨hm,hn,hk⟩:=rv h
  have hx:=(nX (uZ hm hk.1 hk.2)).1
  have e:ah.c .eql (fO m c.2.2.1 c.2.1).2 0=true:=Qy h
  rw[e,tN,decide_eq_true h,Bool.true_and]
  refine(aj rfl).2 (aA (p:=¬(fO m c.2.2.1 c.2.1).1=3) aT (fun g=>af.2 ⟨ru hk.1 hk.2,af.2 ⟨qS hx hn.1 (by omega),(aj rfl).2 ?_⟩⟩) fun g=>(aj rfl).2 ?_)
  ·rw[decide_eq_false g]
   refine aA (p:=f.1=(fO m c.2.2.1 c.2.1).1) aO (fun k=>?_) fun k=>?_
   ·exact ay (by rw[decide_eq_true k,bL];exact aO) (.ret _)
   ·exact ay (by rw[decide_eq_false k];rfl) (.ret _)
  ·rw[decide_eq_true (Decidable.not_not.1 g)]
   refine aA (p:=f.1=(fO m c.2.2.1 c.2.1).1) aO (fun k=>?_) fun k=>?_
   ·exact ay (by rw[decide_eq_true k,bL];exact aO) (.ret _)
   ·exact ay (by rw[decide_eq_false k];rfl) (.ret _)
 ·have e:ah.c .eql (fO m c.2.2.1 c.2.1).2 0=false:=acp h
  rw[e,tN,decide_eq_false h]
  exact(ai rfl).2 ((ai rfl).2 (.ret _))
def Kj:(ao×cv×mR)→Bool:=fun(m,c,k)=>tN m c k
def acY:aC:=⟨[aP,kj,w_], [.bool],(@tt (ao×cv×mR)),Kj⟩
theorem VS:Sd 50 acY:=aQ ar bU true 75 [] (fun A (m,c,f)=>Z4 A m c f) (fc Tryz.func50 fz) (sc VT sz) fun(m,c,f) hp h=>acP
def aaI(A:aK)(m:ao)(n:Node)(f:mR):LT Bool Empty:=.need (A.k (@tt (ao×cv)) (m,f.2.2.1)) (.br (A.k JE (m,f.2.2.1)) (.br (A.c .neq f.2.2.1.2.1 n.1) (.need (A.k (@tt (cv×Int)) (f.2.2.1,f.2.2.1.2.1)) (.br (A.k O3 (f.2.2.1,f.2.2.1.2.1)) (.need (A.k (@tt (ao×cv×mR)) (m,f.2.2.1,f)) (.ret (A.k Kj (m,f.2.2.1,f)))) (.ret false))) (.ret false)) (.ret false))
def Mc(m:ao)(n:Node)(f:mR):Bool:=dP m f.2.2.1&&(decide (¬f.2.2.1.2.1=n.1)&&(KV f.2.2.1 f.2.2.1.2.1&&tN m f.2.2.1 f))
theorem ahG{m:ao}{n:Node}{f:mR}:aB Empty.elim (aaI ah m n f) (Mc m n f):=by
 unfold aaI Mc
 refine af.2 ⟨rfl,?_⟩
 rw[show ah.k JE (m,f.2.2.1)=dP m f.2.2.1 from rfl]
 cases dP m f.2.2.1
 ·exact(ai rfl).2 (.ret _)
 refine(aj rfl).2 (aA (p:=¬f.2.2.1.2.1=n.1) aT (fun h=>af.2 ⟨rfl,?_⟩) fun h=>ay (by rw[decide_eq_false h];rfl) (.ret _))
 rw[decide_eq_true h,show ah.k O3 (f.2.2.1,f.2.2.1.2.1)=KV f.2.2.1 f.2.2.1.2.1 from rfl]
 cases KV f.2.2.1 f.2.2.1.2.1
 ·exact(ai rfl).2 (.ret _)
 ·exact(aj rfl).2 (af.2 ⟨rfl,.ret _⟩)
def OO:(ao×Node×mR)→Bool:=fun(m,c,k)=>Mc m c k
def acX:aC:=⟨[aP,aF,w_], [.bool],(@tt (ao×Node×mR)),OO⟩
theorem afw:Sd 87 acX:=aQ ar bU true 44 [] (fun A (m,n,f)=>aaI A m n f) (fc Tryz.func87 fz) (sc Wo (sc VS (sc acN sz))) fun(m,n,f) hp h=>ahG
def kV(m:ao)(c:cv)(r:Int):cv:=bif decide ((xq m c r).2=0) then(xq m c r).1 else c
def rP(m:ao)(n:Node)(c:cv)(f:mR):Node:=(n.1,3,kV m c f.2.1,(n.1,m.1,c.2.2.2.2,1,0,0,0),0,false,0,bif decide (f.1=4) then(ml n.2.2.2.2.2.2.2 c.2.1 f.2.2.2.2).1 else n.2.2.2.2.2.2.2)
def vY(m:ao)(n:Node)(seen:List Seen)(once:Bool):Node×Int×Bool×Int:=
 bif decide (bi m n=0) then
  bif decide (n.2.1=1) then
   bif decide ((seen.length:Int)=2) then
    bif (fI m.1 seen).2.2 then
     bif decide ((fI m.1 seen).1.1=1) then
      bif decide ((fI m.1 seen).1.2.2.2.1=n.1) then(n,0,false,0)
      else bif once && !n.2.2.2.2.2.1 then((n.1,n.2.1,n.2.2.1,n.2.2.2.1,(mK m n.1).1,true,n.2.2.2.2.2.2),(fI m.1 seen).2.1,false,0)
      else(rP m n (0,(fI m.1 seen).1.2.2.2.1,0,0,ah.b .shl .i64 1 (fI m.1 seen).1.2.2.2.1) (fI m.1 seen).1,(fI m.1 seen).2.1,true,0)
     else bif Mc m n (fI m.1 seen).1 then(rP m n (fI m.1 seen).1.2.2.1 (fI m.1 seen).1,(fI m.1 seen).2.1,true,0)
     else(n,0,false,0)
    else(n,0,false,0)
   else(fo,0,false,2)
  else(fo,0,false,181)
 else(fo,0,false,bi m n)
structure H5 where
 (a0:Int) (a1:ao) (a2 a3:lN) (a4:Int) (a5:Bool) (a6 a7 a8 a9:Int) (cX:Node) (dN:mR)
structure G6 where
 (b0:ao) (b1:mR) (b2:cv) (b3:Int) (b4:Node) (b5 b6:lN) (b7:Int) (b8:Bool) (b9 b10 b11 b12:Int)
structure Im where
 (c0:ao) (c1:mR) (c2:cv) (c3:Int) (c4:Node) (c5 c6:lN) (c7:Int) (c8:Bool) (c9 c10 c11 c12:Int)
structure OE where
 (d0:ao) (d1 d2:Int) (d3:Node) (d4 d5:lN) (d6:Int) (d7:Bool) (d8 d9 lv lw:Int)
structure Nt where
 (e0:ao) (e1 e2:Int) (e3:Node) (e4 e5:lN) (e6:Int) (e7:Bool) (e8 e9 e10 e11:Int)
inductive F6 where
 | c0 (p:H5)
 | c1 (p:G6)
 | c2 (p:Im)
 | c3 (p:OE)
 | c4 (p:Nt)
noncomputable def WC:F6→eF
 | .c0 p=>⟨[⟨40,101,(en [(3,.ptr 0 0),(6,.ptr 1 0),(10,.ptr 2 0),(12,.ptr 3 0),(13,vi p.a0)]),[.code (cw Tryz.f40 [1,1,1,1,0,0,1,1,0]),.code (cw Tryz.f40 [1,1,1,1,0,0,1,1,1]),.inBlock 1,.code (cw Tryz.f40 [1,1,1,1,1])],[],none⟩],[.flat false (dc aP p.a1),.flat false (dc kB p.a2++dc kB p.a3 ++ [vi p.a4,vb p.a5,vi p.a6,vi p.a7,.dq true,.dq true,vi p.a8,vi p.a9]),.flat false (dc aF p.cX),.flat false (dc w_ p.dN),.dead]⟩
 | .c1 p=>⟨[⟨86,29,(en [(0,.agg (dc aP p.b0)),(1,.ptr 0 0),(2,.agg (dc w_ p.b1)),(3,.agg (dc kj p.b2))]),[.code (cw Tryz.f86 [0]),.code (cw Tryz.f86 [1])],[],none⟩,⟨40,101,(en [(6,.ptr 1 0),(10,.ptr 0 0),(13,vi p.b3)]),[.pQ (ow Tryz.f40 [1,1,1,1,0,0,1,1,1,1,1,0]) [0,0,0,4,0,16,48,124,255] 8 [] [],.inBlock 1,.code (cw Tryz.f40 [1,1,1,1,1])],[],none⟩],[.flat false (dc aF p.b4),.flat false (dc kB p.b5++dc kB p.b6 ++ [vi p.b7,vb p.b8,vi p.b9,vi p.b10,.dq true,.dq true,vi p.b11,vi p.b12]),.dead]⟩
 | .c2 p=>⟨[⟨86,29,(en [(0,.agg (dc aP p.c0)),(1,.ptr 0 0),(2,.agg (dc w_ p.c1)),(3,.agg (dc kj p.c2))]),[.code (cw Tryz.f86 [0]),.code (cw Tryz.f86 [1])],[],none⟩,⟨40,101,(en [(6,.ptr 1 0),(10,.ptr 0 0),(13,vi p.c3)]),[.ops (ow Tryz.f40 [1,1,1,1,0,0,1,1,1,1,1,1,1,0]) ((ow Tryz.f40 [1,1,1,1,0,0,1,1,1,1,1,1,1,0]).toList.drop 4),.inBlock 1,.code (cw Tryz.f40 [1,1,1,1,1])],[],none⟩],[.flat false (dc aF p.c4),.flat false (dc kB p.c5++dc kB p.c6 ++ [vi p.c7,vb p.c8,vi p.c9,vi p.c10,.dq true,.dq true,vi p.c11,vi p.c12]),.dead]⟩
 | .c3 p=>⟨[⟨53,24,(en [(0,.agg (dc aP p.d0)),(1,.ptr 0 0),(2,vi p.d1)]),[.code (cw Tryz.f53 [0]),.code (cw Tryz.f53 [1])],[],none⟩,⟨86,29,.leaf,[.ops (ow Tryz.f86 [1,1,1,1]) ((ow Tryz.f86 [1,1,1,1]).toList.drop 4)],[],none⟩,⟨40,101,(en [(6,.ptr 1 0),(10,.ptr 0 0),(13,vi p.d2)]),[.pQ (ow Tryz.f40 [1,1,1,1,0,0,1,1,1,1,1,0]) [0,0,0,4,0,16,48,124,255] 8 [] [],.inBlock 1,.code (cw Tryz.f40 [1,1,1,1,1])],[],none⟩],[.flat false (dc aF p.d3),.flat false (dc kB p.d4++dc kB p.d5 ++ [vi p.d6,vb p.d7,vi p.d8,vi p.d9,.dq true,.dq true,vi p.lv,vi p.lw]),.dead]⟩
 | .c4 p=>⟨[⟨53,24,(en [(0,.agg (dc aP p.e0)),(1,.ptr 0 0),(2,vi p.e1)]),[.code (cw Tryz.f53 [0]),.code (cw Tryz.f53 [1])],[],none⟩,⟨86,29,.leaf,[.ops (ow Tryz.f86 [1,1,1,1]) ((ow Tryz.f86 [1,1,1,1]).toList.drop 4)],[],none⟩,⟨40,101,(en [(6,.ptr 1 0),(10,.ptr 0 0),(13,vi p.e2)]),[.ops (ow Tryz.f40 [1,1,1,1,0,0,1,1,1,1,1,1,1,0]) ((ow Tryz.f40 [1,1,1,1,0,0,1,1,1,1,1,1,1,0]).toList.drop 4),.inBlock 1,.code (cw Tryz.f40 [1,1,1,1,1])],[],none⟩],[.flat false (dc aF p.e3),.flat false (dc kB p.e4++dc kB p.e5 ++ [vi p.e6,vb p.e7,vi p.e8,vi p.e9,.dq true,.dq true,vi p.e10,vi p.e11]),.dead]⟩
abbrev zz(A:aK)(m:ao)(n:Node):=(A.k gx (m,n,(A.c .eql n.2.1 1)))
abbrev N2(A:aK)(m:ao)(n:Node)(seen:List Seen):LT (Node×Int×Bool×Int) F6:=(.more (.c0 ⟨(A.k yK (m.1,seen)).2.1,m,(0,0,0,0,0,0,0),(0,0,0,0,0,0,0),0,false,0,0,0,0,(zz A m n).1,(A.k yK (m.1,seen)).1⟩))
def WI(A:aK)(m:ao)(n:Node)(seen:List Seen):LT (Node×Int×Bool×Int) F6:=.need (A.k (@tt (ao×Node×Bool)) (m,n,(A.c .eql n.2.1 1))) (.br (A.c .neq (zz A m n).2 0) (.ret ((0,0,(0,0,0,0,0),(0,0,0,0,0,0,0),0,false,0,0,([]:List Int),([]:List dx),0,0),0,false,(zz A m n).2)) (.br (A.c .neq (A.l seen) 2) (.ret ((0,0,(0,0,0,0,0),(0,0,0,0,0,0,0),0,false,0,0,([]:List Int),([]:List dx),0,0),0,false,2)) (.need (A.k (@tt (Int×List Seen)) (m.1,seen)) (.br (A.not (A.k yK (m.1,seen)).2.2) (.ret ((zz A m n).1,0,false,0)) (.br (A.c .eql (A.k yK (m.1,seen)).1.1 1) (.br (A.c .eql (A.k yK (m.1,seen)).1.2.2.2.1 (zz A m n).1.1) (.ret ((zz A m n).1,0,false,0)) (N2 A m n seen)) (N2 A m n seen))))))
abbrev JG(A:aK)(p:H5):LT (Node×Int×Bool×Int) F6:=(.br (A.c .eql p.dN.1 1) (.need (A.c .leq 0 p.dN.2.2.2.1) (.more (.c1 ⟨p.a1,p.dN,(0,p.dN.2.2.2.1,0,0,(A.b .shl .i64 1 p.dN.2.2.2.1)),p.a0,p.cX,p.a2,p.a3,p.a4,p.a5,p.a6,p.a7,p.a8,p.a9⟩))) (.need (A.k (@tt (ao×Node×mR)) (p.a1,p.cX,p.dN)) (.br (A.k OO (p.a1,p.cX,p.dN)) (.more (.c2 ⟨p.a1,p.dN,p.dN.2.2.1,p.a0,p.cX,p.a2,p.a3,p.a4,p.a5,p.a6,p.a7,p.a8,p.a9⟩)) (.ret (p.cX,0,false,0)))))
abbrev Js(p:G6):LT (Node×Int×Bool×Int) F6:=(.more (.c3 ⟨p.b0,p.b1.2.1,p.b3,(p.b4.1,3,p.b2,(p.b4.1,p.b0.1,p.b2.2.2.2.2,1,0,0,0),0,false,0,p.b4.2.2.2.2.2.2.2),p.b5,p.b6,p.b7,p.b8,p.b9,p.b10,p.b11,p.b12⟩))
abbrev Jy(p:Im):LT (Node×Int×Bool×Int) F6:=(.more (.c4 ⟨p.c0,p.c1.2.1,p.c3,(p.c4.1,3,p.c2,(p.c4.1,p.c0.1,p.c2.2.2.2.2,1,0,0,0),0,false,0,p.c4.2.2.2.2.2.2.2),p.c5,p.c6,p.c7,p.c8,p.c9,p.c10,p.c11,p.c12⟩))
def xa(A:aK):F6→LT (Node×Int×Bool×Int) F6
 | .c0 p=>.br (A.c .eql p.dN.1 1) (.br (A.not p.cX.2.2.2.2.2.1) (.need (A.k (@tt (ao×Int)) (p.a1,p.cX.1)) (.ret ((p.cX.1,p.cX.2.1,p.cX.2.2.1,p.cX.2.2.2.1,(A.k uz (p.a1,p.cX.1)),true,p.cX.2.2.2.2.2.2),p.a0,false,0))) (JG A p)) (JG A p)
 | .c1 p=>.br (A.c .eql p.b1.1 4) (.need (A.k (@tt (cJ×Int×List Int)) (p.b4.2.2.2.2.2.2.2,p.b2.2.1,p.b1.2.2.2.2)) (.need (A.k (@tt (cJ×Int×List Int)) (p.b4.2.2.2.2.2.2.2,p.b2.2.1,p.b1.2.2.2.2)) (.br (A.c .eql (A.k wH (p.b4.2.2.2.2.2.2.2,p.b2.2.1,p.b1.2.2.2.2)).2 0) (.more (.c3 ⟨p.b0,p.b1.2.1,p.b3,(p.b4.1,3,p.b2,(p.b4.1,p.b0.1,p.b2.2.2.2.2,1,0,0,0),0,false,0,(A.k wH (p.b4.2.2.2.2.2.2.2,p.b2.2.1,p.b1.2.2.2.2)).1),p.b5,p.b6,p.b7,p.b8,p.b9,p.b10,p.b11,p.b12⟩)) (Js p)))) (Js p)
 | .c2 p=>.br (A.c .eql p.c1.1 4) (.need (A.k (@tt (cJ×Int×List Int)) (p.c4.2.2.2.2.2.2.2,p.c2.2.1,p.c1.2.2.2.2)) (.need (A.k (@tt (cJ×Int×List Int)) (p.c4.2.2.2.2.2.2.2,p.c2.2.1,p.c1.2.2.2.2)) (.br (A.c .eql (A.k wH (p.c4.2.2.2.2.2.2.2,p.c2.2.1,p.c1.2.2.2.2)).2 0) (.more (.c4 ⟨p.c0,p.c1.2.1,p.c3,(p.c4.1,3,p.c2,(p.c4.1,p.c0.1,p.c2.2.2.2.2,1,0,0,0),0,false,0,(A.k wH (p.c4.2.2.2.2.2.2.2,p.c2.2.1,p.c1.2.2.2.2)).1),p.c5,p.c6,p.c7,p.c8,p.c9,p.c10,p.c11,p.c12⟩)) (Jy p)))) (Jy p)
 | .c3 p=>.need (A.k (@tt (ao×cv×Int)) (p.d0,p.d3.2.2.1,p.d1)) (.need (A.k (@tt (ao×cv×Int)) (p.d0,p.d3.2.2.1,p.d1)) (.br (A.c .eql (A.k qJ (p.d0,p.d3.2.2.1,p.d1)).2 0) (.ret ((p.d3.1,p.d3.2.1,(A.k qJ (p.d0,p.d3.2.2.1,p.d1)).1,p.d3.2.2.2),p.d2,true,0)) (.ret (p.d3,p.d2,true,0))))
 | .c4 p=>.need (A.k (@tt (ao×cv×Int)) (p.e0,p.e3.2.2.1,p.e1)) (.need (A.k (@tt (ao×cv×Int)) (p.e0,p.e3.2.2.1,p.e1)) (.br (A.c .eql (A.k qJ (p.e0,p.e3.2.2.1,p.e1)).2 0) (.ret ((p.e3.1,p.e3.2.1,(A.k qJ (p.e0,p.e3.2.2.1,p.e1)).1,p.e3.2.2.2),p.e2,true,0)) (.ret (p.e3,p.e2,true,0))))
theorem O_{m:ao}{n:Node}{f:mR}(hn:bi m n=0)(hf:rH f=true)(hj:Mc m n f=true):(ml n.2.2.2.2.2.2.2 f.2.2.1.2.1 f.2.2.2.2).2=0:=by
 have hd:=bW.1 (aY hn).2
 simp only[Mc,Bool.and_eq_true,tN,decide_eq_true_eq] at hj
 have hk:=rv hj.2.2.2.1
 simp only[rH,Bool.and_eq_true,decide_eq_true_eq] at hf
 have h8:=hf.1.2
 have e6:=hd.2.2.2.2.2.1
 rw[ml,hd.2.2.2.1,decide_eq_true (show 0≤f.2.2.1.2.1∧f.2.2.1.2.1≤(n.2.2.2.2.2.2.2.2.2.1.length:Int)-1 by rw[e6];exact hk.2.1),decide_eq_false (show ¬8<(f.2.2.2.2.length:Int) by omega)]
 rfl
theorem aaL{p:OE}:aB (xa ah) (.more (.c3 p)) ((p.d3.1,p.d3.2.1,kV p.d0 p.d3.2.2.1 p.d1,p.d3.2.2.2),p.d2,true,0):=by
 rw[ak,xa]
 refine af.2 ⟨rfl,?_⟩
 repeat' (refine af.2 ⟨rfl,?_⟩)
 refine aA (p:=(xq p.d0 p.d3.2.2.1 p.d1).2=0) aO (fun h=>?_) fun h=>?_
 ·exact ay (by rw[kV,decide_eq_true h];rfl) (.ret _)
 ·exact ay (by rw[kV,decide_eq_false h];rfl) (.ret _)
theorem P7{p:Nt}:aB (xa ah) (.more (.c4 p)) ((p.e3.1,p.e3.2.1,kV p.e0 p.e3.2.2.1 p.e1,p.e3.2.2.2),p.e2,true,0):=by
 rw[ak,xa]
 refine af.2 ⟨rfl,?_⟩
 repeat' (refine af.2 ⟨rfl,?_⟩)
 refine aA (p:=(xq p.e0 p.e3.2.2.1 p.e1).2=0) aO (fun h=>?_) fun h=>?_
 ·exact ay (by rw[kV,decide_eq_true h];rfl) (.ret _)
 ·exact ay (by rw[kV,decide_eq_false h];rfl) (.ret _)
theorem aab{p:G6}(h:p.b1.1=1):aB (xa ah) (.more (.c1 p)) (rP p.b0 p.b4 p.b2 p.b1,p.b3,true,0):=by
 rw[ak,xa]
 refine(ai (by rw[aO];exact decide_eq_false (by omega))).2 (ay ?_ aaL)
 rw[rP,decide_eq_false (show ¬p.b1.1=4 by omega)]
 rfl
theorem Yv{p:Im}(h:p.c1.1=4→(ml p.c4.2.2.2.2.2.2.2 p.c2.2.1 p.c1.2.2.2.2).2=0):aB (xa ah) (.more (.c2 p)) (rP p.c0 p.c4 p.c2 p.c1,p.c3,true,0):=by
 rw[ak,xa]
 refine aA (p:=p.c1.1=4) aO (fun g=>af.2 ⟨rfl,?_⟩) fun g=>ay (by rw[rP,decide_eq_false g];rfl) P7
 repeat' (refine af.2 ⟨rfl,?_⟩)
 exact(aj (Qy (h g))).2 (ay (by rw[rP,decide_eq_true g];rfl) P7)
theorem YT{p:H5}{m:ao}{n:Node}{f:mR}{t:Int}(h0:p.a0=t)(h1:p.a1=m)(h2:p.cX=n)(hf:p.dN=f)(hl:0≤f.2.2.2.1)(hd:Mc m n f=true→(ml n.2.2.2.2.2.2.2 f.2.2.1.2.1 f.2.2.2.2).2=0):aB (xa ah) (.more (.c0 p)) (bif decide (f.1=1) then(bif !n.2.2.2.2.2.1 then((n.1,n.2.1,n.2.2.1,n.2.2.2.1,(mK m n.1).1,true,n.2.2.2.2.2.2),t,false,0) else(rP m n (0,f.2.2.2.1,0,0,ah.b .shl .i64 1 f.2.2.2.1) f,t,true,0)) else bif Mc m n f then(rP m n f.2.2.1 f,t,true,0) else(n,0,false,0)):=by
 rw[ak,xa,h0,h1,h2,hf]
 refine aA (p:=f.1=1) aO (fun h=>?_) fun h=>?_
 ·rw[decide_eq_true h,cond_true]
  cases hb:n.2.2.2.2.2.1
  ·exact(aj rfl).2 (af.2 ⟨rfl,.ret _⟩)
  ·exact(ai rfl).2 ((aj (by rw[aO];exact decide_eq_true h)).2 (af.2 ⟨decide_eq_true hl,aab h⟩))
 ·rw[decide_eq_false h,cond_false]
  refine(ai (by rw[aO];exact decide_eq_false h)).2 (af.2 ⟨rfl,?_⟩)
  rw[show ah.k OO (m,n,f)=Mc m n f from rfl]
  cases hj:Mc m n f
  ·exact(ai rfl).2 (.ret _)
  ·exact(aj rfl).2 (Yv fun _=>hd hj)
theorem abM{m:ao}{n:Node}{seen:List Seen}:aB (xa ah) (WI ah m n seen) (vY m n seen true):=by
 unfold WI N2 zz vY
 refine af.2 ⟨rfl,?_⟩
 rw[show ah.k gx (m,n,ah.c .eql n.2.1 1)=ia m n (ah.c .eql n.2.1 1) from rfl,aO,ia]
 by_cases h:bi m n=0
 ·rw[decide_eq_true h,cond_true,cond_true]
  cases decide (n.2.1=1)
  ·exact(aj rfl).2 (.ret _)
  rw[cond_true,cond_true]
  refine(ai rfl).2 (aA (p:=¬(seen.length:Int)=2) aT (fun h2=>ay (by rw[decide_eq_false h2];rfl) (.ret _)) fun h2=>af.2 ⟨rfl,?_⟩)
  rw[decide_eq_true (Decidable.not_not.1 h2),cond_true,show ah.k yK (m.1,seen)=fI m.1 seen from rfl]
  cases he:(fI m.1 seen).2.2
  ·exact(aj rfl).2 (.ret _)
  obtain⟨e1,e2,e3⟩:=RV he
  have hl:=O6 e3
  have nx:=fun {a b c d e g i j}=>YT (p:=⟨(fI m.1 seen).2.1,m,a,b,c,d,e,g,i,j,n,(fI m.1 seen).1⟩) (m:=m) (n:=n) (f:=(fI m.1 seen).1) (t:=(fI m.1 seen).2.1) rfl rfl rfl rfl hl.1 (O_ h e3)
  generalize fI m.1 seen=x at *
  refine(ai rfl).2 (aA (p:=x.1.1=1) aO (fun h3=>aA (p:=x.1.2.2.2.1=n.1) aO (fun h4=>?_) fun h4=>?_) fun h3=>?_)
  ·exact ay (by rw[decide_eq_true h3,decide_eq_true h4];rfl) (.ret _)
  ·rw[decide_eq_true h3] at nx
   rw[decide_eq_true h3,decide_eq_false h4,cond_true,cond_true,cond_false,Bool.true_and]
   exact nx
  ·rw[decide_eq_false h3] at nx
   rw[decide_eq_false h3,cond_true,cond_false]
   exact nx
 ·rw[decide_eq_false h];exact(aj (qj h)).2 (.ret _)
def V0:(ao×Node×List Seen)→(Node×Int×Bool×Int):=fun(m,n,s)=>vY m n s true
def ab7:aC:=⟨[aP,aF,(.slice aJ)], [aF,yI,.bool,yI],(@tt (ao×Node×List Seen)),V0⟩
theorem aeu:Sd 40 ab7:=aU ar bU true 93 [] [⟨40,10, [[3,6,10,12,13]]⟩,⟨53,0, [[0,1,2], [], [6,10,13]]⟩,⟨86,0, [[0,1,2,3], [6,10,13]]⟩] (fun A (m,n,seen)=>WI A m n seen) xa WC (fc Tryz.func40 (fc Tryz.func52 (fc Tryz.func53 (fc Tryz.func86 (fc Tryz.func139 fz))))) (sc wI (sc abe (sc FN (sc afw (sc VP (sc OC sz)))))) (fun A y=>match y with |.c0 p=>⟨42,by kernel_rfl,by kernel_rfl⟩|.c1 p=>⟨125,by kernel_rfl,by kernel_rfl⟩|.c2 p=>⟨125,by kernel_rfl,by kernel_rfl⟩|.c3 p=>⟨51,by kernel_rfl,by kernel_rfl⟩|.c4 p=>⟨51,by kernel_rfl,by kernel_rfl⟩) fun(m,n,seen) hp h=>abM
instance:DecidableEq dx:=inferInstanceAs (DecidableEq (List Int×Int))
instance:DecidableEq cv:=inferInstanceAs (DecidableEq (Int×Int×Int×Int×Int))
instance:DecidableEq lN:=inferInstanceAs (DecidableEq (Int×Int×Int×Int×Int×Int×Int))
instance:DecidableEq cJ:=inferInstanceAs (DecidableEq (Int×List Int×List dx×Int×Int))
def aep:DecidableEq (Int×Bool×Int×cJ):=inferInstance
def aeK:DecidableEq (cv×lN×Int×Bool×Int×cJ):=have:=aep;inferInstance
instance:DecidableEq Node:=have:=aeK;inferInstanceAs (DecidableEq (Int×Int×(cv×lN×Int×Bool×Int×cJ)))
abbrev fN(A:aK)(m:ao)(n:Node):=(A.k gx (m,n,(A.c .eql n.2.1 1)))
def ZH(A:aK)(m:ao)(n:Node):LT (Node×mR×Bool×Int) Empty:=.need (A.k (@tt (ao×Node×Bool)) (m,n,(A.c .eql n.2.1 1))) (.br (A.c .neq (fN A m n).2 0) (.ret ((0,0,(0,0,0,0,0),(0,0,0,0,0,0,0),0,false,0,0,([]:List Int),([]:List dx),0,0),(0,0,(0,0,0,0,0),0,([]:List Int)),false,(fN A m n).2)) (.br (A.c .gtr (A.b .sub .i64 (fN A m n).1.2.2.2.2.1 1) 0) (.ret (((fN A m n).1.1,(fN A m n).1.2.1,(fN A m n).1.2.2.1,(fN A m n).1.2.2.2.1,(A.b .sub .i64 (fN A m n).1.2.2.2.2.1 1),(fN A m n).1.2.2.2.2.2),(0,0,(0,0,0,0,0),0,([]:List Int)),false,0)) (.need (A.and (A.c .leq 0 (fN A m n).1.1) (A.c .lss (fN A m n).1.1 (A.l m.2.2.2.2.2.2.1))) (.br (A.not (A.n .bool m.2.2.2.2.2.2.1 (fN A m n).1.1:Bool)) (.need (A.k (@tt (ao×Int)) (m,(fN A m n).1.1)) (.ret (((fN A m n).1.1,(fN A m n).1.2.1,(fN A m n).1.2.2.1,(fN A m n).1.2.2.2.1,(A.k uz (m,(fN A m n).1.1)),(fN A m n).1.2.2.2.2.2),(0,0,(0,0,0,0,0),0,([]:List Int)),false,0))) (.need (A.c .leq 0 (fN A m n).1.1) (.ret (((fN A m n).1.1,2,(0,(fN A m n).1.1,0,0,(A.b .shl .i64 1 (fN A m n).1.1)),((fN A m n).1.1,m.1,(A.b .shl .i64 1 (fN A m n).1.1),1,0,0,0),0,(fN A m n).1.2.2.2.2.2),(1,0,(0,0,0,0,0),(fN A m n).1.1,([]:List Int)),true,0)))))))
def uC:mR:=(0,0,(0,0,0,0,0),0,([]:List Int))
def zp(m:ao)(n:Node):Node×mR×Bool×Int:=
 bif decide (bi m n=0) then
  bif decide (n.2.1=1) then
   bif decide (0<n.2.2.2.2.1-1) then((n.1,n.2.1,n.2.2.1,n.2.2.2.1,n.2.2.2.2.1-1,n.2.2.2.2.2),uC,false,0)
   else bif (ah.n .bool m.2.2.2.2.2.2.1 n.1:Bool) then((n.1,2,(0,n.1,0,0,ah.b .shl .i64 1 n.1),(n.1,m.1,ah.b .shl .i64 1 n.1,1,0,0,0),0,n.2.2.2.2.2),(1,0,(0,0,0,0,0),n.1,([]:List Int)),true,0)
   else((n.1,n.2.1,n.2.2.1,n.2.2.2.1,(mK m n.1).1,n.2.2.2.2.2),uC,false,0)
  else(fo,uC,false,181)
 else(fo,uC,false,bi m n)
theorem TE{m:ao}{n:Int}:(mK m n).1≤9223372036854775807:=by
 unfold mK
 cases decide (gX m n=0)
 ·exact(by decide:(0:Int)≤9223372036854775807)
 ·rw[cond_true,bd,IntKind.wrap_i64];omega
theorem T8{m:ao}{n:Node}(h:bi m n=0)(h1:n.2.1=1):1≤n.2.2.2.2.1∧ah.b .sub .i64 n.2.2.2.2.1 1=n.2.2.2.2.1-1:=by
 have hc:=(bW.1 (aY h).2).2.2.2.2.2.2.2.2.1
 rw[qc,decide_eq_true h1,cond_true,decide_eq_true_eq] at hc
 have:=@TE m n.1
 exact⟨hc.1,by rw[bf,gZ (by omega) (by omega)]⟩
theorem ab5{m:ao}{n:Node}:aB Empty.elim (ZH ah m n) (zp m n):=by
 unfold ZH fN zp
 refine af.2 ⟨rfl,?_⟩
 rw[show ah.k gx (m,n,ah.c .eql n.2.1 1)=ia m n (ah.c .eql n.2.1 1) from rfl,aO,ia]
 by_cases h:bi m n=0
 ·rw[decide_eq_true h,cond_true,cond_true]
  by_cases h1:n.2.1=1
  ·obtain⟨ht,es⟩:=T8 h h1
   have hi:=(bW.1 (aY h).2).1
   have hl:=dd (aY h).1
   rw[decide_eq_true h1,cond_true,cond_true,es]
   refine(ai rfl).2 (aA (p:=0<n.2.2.2.2.1-1) rfl (fun h2=>?_) fun h2=>af.2 ⟨qS hl.2.2.1 hi.1 (show n.1<m.1 by omega),?_⟩)
   ·exact ay (by rw[decide_eq_true h2];rfl) (.ret _)
   rw[decide_eq_false h2,cond_false]
   show aB Empty.elim (.br (ah.not (ah.n .bool m.2.2.2.2.2.2.1 n.1:Bool)) _ _) _
   cases (ah.n .bool m.2.2.2.2.2.2.1 n.1:Bool)
   ·exact(aj rfl).2 (af.2 ⟨rfl,.ret _⟩)
   ·refine(ai rfl).2 (af.2 ⟨decide_eq_true (show 0≤n.1 from hi.1),?_⟩)
    exact .ret _
  ·rw[decide_eq_false h1]
   exact(aj rfl).2 (.ret _)
 ·rw[decide_eq_false h];exact(aj (qj h)).2 (.ret _)
def Fe:(ao×Node)→(Node×mR×Bool×Int):=fun(m,n)=>zp m n
def aea:aC:=⟨[aP,aF], [aF,w_,.bool,yI],(@tt (ao×Node)),Fe⟩
theorem adv:Sd 256 aea:=aQ ar bU true 130 [] (fun A (m,n)=>ZH A m n) (fc Tryz.func256 (fc Tryz.func139 fz)) (sc wI (sc FN sz)) fun(m,n) hp h=>ab5
abbrev kW(A:aK)(m:ao)(n:Node):=(A.k gx (m,n,(A.k fv n)))
abbrev BO(A:aK)(m:ao)(n:Node):=(A.k Wh ((kW A m n).1.2.2.1,m.1))
abbrev N9(A:aK)(m:ao)(n:Node):LT (Node×Int) Empty:=(.ret (((kW A m n).1.1,(kW A m n).1.2.1,(BO A m n).1,(kW A m n).1.2.2.2),(BO A m n).2))
def X3(A:aK)(m:ao)(n:Node):LT (Node×Int) Empty:=.need (A.k (@tt Node) n) (.need (A.k (@tt (ao×Node×Bool)) (m,n,(A.k fv n))) (.need (A.k (@tt (ao×Node×Bool)) (m,n,(A.k fv n))) (.need (A.k (@tt Node) n) (.br (A.c .neq (kW A m n).2 0) (.ret ((0,0,(0,0,0,0,0),(0,0,0,0,0,0,0),0,false,0,0,([]:List Int),([]:List dx),0,0),(kW A m n).2)) (.need (A.k (@tt (cv×Int)) ((kW A m n).1.2.2.1,m.1)) (.br (A.c .eql (BO A m n).2 0) (.br (A.c .eql (BO A m n).1.2.1 0) (.need (A.k (@tt cJ) (kW A m n).1.2.2.2.2.2.2.2) (.ret (((kW A m n).1.1,(kW A m n).1.2.1,(BO A m n).1,(kW A m n).1.2.2.2.1,(kW A m n).1.2.2.2.2.1,(kW A m n).1.2.2.2.2.2.1,(kW A m n).1.2.2.2.2.2.2.1,(A.k Nm (kW A m n).1.2.2.2.2.2.2.2).1),(A.k Nm (kW A m n).1.2.2.2.2.2.2.2).2))) (N9 A m n)) (N9 A m n)))))))
def Av(m:ao)(n:Node):Node×Int:=
 bif decide (bi m n=0) then
  bif jK n then
   bif decide ((kt n.2.2.1 m.1).1.2.1=0) then((n.1,n.2.1,(kt n.2.2.1 m.1).1,n.2.2.2.1,n.2.2.2.2.1,n.2.2.2.2.2.1,n.2.2.2.2.2.2.1,(AJ n.2.2.2.2.2.2.2).1),0)
   else((n.1,n.2.1,(kt n.2.2.1 m.1).1,n.2.2.2),0)
  else(fo,181)
 else(fo,bi m n)
theorem step_ok{m:ao}{n:Node}(h:bi m n=0)(h1:jK n=true):(kt n.2.2.1 m.1).2=0:=by
 have hc:=(bW.1 (aY h).2).2.2.2.2.2.2.2.1
 rw[oU,h1,cond_true,Bool.and_eq_true] at hc
 have hf:=hc.1
 simp only[dP,Bool.and_eq_true,decide_eq_true_eq] at hf
 rw[kt,decide_eq_true hf.1]
 cases decide (n.2.2.1.2.1+1=m.1)<;>cases decide (n.2.2.1.2.2.2.1=0)<;>rfl
theorem ZY{m:ao}{n:Node}(h:bi m n=0):(AJ n.2.2.2.2.2.2.2).2=0:=by
 rw[AJ,rA h];rfl
theorem ab9{m:ao}{n:Node}:aB Empty.elim (X3 ah m n) (Av m n):=by
 unfold X3 N9 BO kW Av
 refine af.2 ⟨rfl,af.2 ⟨rfl,?_⟩⟩
 repeat' (refine af.2 ⟨rfl,?_⟩)
 rw[show ah.k gx (m,n,ah.k fv n)=ia m n (jK n) from rfl,ia]
 by_cases h:bi m n=0
 ·rw[decide_eq_true h,cond_true,cond_true]
  cases h1:jK n
  ·exact(aj rfl).2 (.ret _)
  have hs:=step_ok h h1
  have hr:=ZY h
  rw[cond_true,cond_true]
  refine(ai rfl).2 (af.2 ⟨rfl,(aj (Qy hs)).2 (aA (p:=(kt n.2.2.1 m.1).1.2.1=0) aO (fun h2=>af.2 ⟨rfl,ay ?_ (.ret _)⟩) fun h2=>ay ?_ (.ret _))⟩)
  ·rw[decide_eq_true h2];exact congrArg (Prod.mk _) hr
  ·rw[decide_eq_false h2];exact congrArg (Prod.mk _) hs
 ·rw[decide_eq_false h];exact(aj (qj h)).2 (.ret _)
def Wn:(ao×Node)→(Node×Int):=fun(m,n)=>Av m n
def ac9:aC:=⟨[aP,aF], [aF,yI],(@tt (ao×Node)),Wn⟩
theorem acz:Sd 17 ac9:=aQ ar bU true 80 [] (fun A (m,n)=>X3 A m n) (fc Tryz.func17 fz) (sc rN (sc wI (sc ady (sc acg sz)))) fun(m,n) hp h=>ab9
def t23(A:aK)(mId:Int)(mN:Int)(mSet:Int)(mAcc:Int)(mFail:Int)(mStage:Int)(mFirst:Int):LT (lN×Int×Int) Empty:=.need (A.k (@tt ((Int×Int×Int×Int×Int×Int×Int))) (mId,mN,mSet,mAcc,mFail,mStage,mFirst)) (.br (A.c .neq (A.k lI (mId,mN,mSet,mAcc,mFail,mStage,mFirst)) 0) (.ret ((0,0,0,0,0,0,0),0,(A.k lI (mId,mN,mSet,mAcc,mFail,mStage,mFirst)))) (.br (A.c .leq mAcc mFail) (.ret ((mId,mN,mSet,mAcc,mFail,mStage,mFirst),2,0)) (.need (A.c .leq 0 mId) (.ret ((mId,mN,(A.b .or .i64 mSet (A.b .shl .i64 1 mId)),1,0,1,0),1,0)))))
def qy:lN→(lN×Int×Int):=fun(mId,mN,mSet,mAcc,mFail,mStage,mFirst)=>(t23 ah mId mN mSet mAcc mFail mStage mFirst).val (Ty.bl [kB,yI,yI])
def ahM:aC:=⟨[kB], [kB,yI,yI],(@tt lN),qy⟩
theorem adn:Sd 326 ahM:=aL ar bU true 67 [] (fun A (mId,mN,mSet,mAcc,mFail,mStage,mFirst)=>t23 A mId mN mSet mAcc mFail mStage mFirst) (fc Tryz.func326 fz) (sc Ij sz) (fun((mId,mN,mSet,mAcc,mFail,mStage,mFirst):lN) hp h=>by
 show(t23 ah mId mN mSet mAcc mFail mStage mFirst).pre=true
 simp only[t23,LT.pre,cy,ax,aD,al,ap,aH,aN,aG,bE,dC,au,bd,bf,bG,bM,cm,Bool.and_eq_true,Bool.or_eq_true,Bool.and_eq_false_iff,Bool.or_eq_false_iff,Bool.not_eq_true',Bool.not_eq_false',decide_eq_true_eq,decide_eq_false_iff_not,bne_iff_ne,beq_iff_eq,bne_eq_false_iff_eq,beq_eq_false_iff_ne]
 simp only[Ty.cq,Ty.has,ku] at h
 (repeat' (first|intro _|constructor))<;>(try (have hm:=dK.1 (by assumption);unfold iQ at hm;omega)))
def t27(A:aK)(mId:Int)(mN:Int)(mSet:Int)(mAcc:Int)(mFail:Int)(mStage:Int)(mFirst:Int):LT (lN×Int×Int) Empty:=.need (A.k (@tt ((Int×Int×Int×Int×Int×Int×Int))) (mId,mN,mSet,mAcc,mFail,mStage,mFirst)) (.br (A.c .eql (A.k lI (mId,mN,mSet,mAcc,mFail,mStage,mFirst)) 0) (.br (A.c .eql mAcc 0) (.br (A.c .eql mFail 0) (.ret ((mId,mN,mSet,mAcc,mFail,mStage,mFirst),3,0)) (.need (A.k (@tt lN) (mId,mN,mSet,mAcc,mFail,mStage,mFirst)) (.ret (A.k qy (mId,mN,mSet,mAcc,mFail,mStage,mFirst))))) (.need (A.k (@tt lN) (mId,mN,mSet,mAcc,mFail,mStage,mFirst)) (.ret (A.k qy (mId,mN,mSet,mAcc,mFail,mStage,mFirst))))) (.need (A.k (@tt lN) (mId,mN,mSet,mAcc,mFail,mStage,mFirst)) (.ret (A.k qy (mId,mN,mSet,mAcc,mFail,mStage,mFirst)))))
def vv:lN→(lN×Int×Int):=fun(mId,mN,mSet,mAcc,mFail,mStage,mFirst)=>(t27 ah mId mN mSet mAcc mFail mStage mFirst).val (Ty.bl [kB,yI,yI])
def ah1:aC:=⟨[kB], [kB,yI,yI],(@tt lN),vv⟩
theorem aie:Sd 327 ah1:=aL ar bU true 43 [] (fun A (mId,mN,mSet,mAcc,mFail,mStage,mFirst)=>t27 A mId mN mSet mAcc mFail mStage mFirst) (fc Tryz.func327 fz) (sc adn (sc Ij sz)) (fun((mId,mN,mSet,mAcc,mFail,mStage,mFirst):lN) hp h=>by
 show(t27 ah mId mN mSet mAcc mFail mStage mFirst).pre=true
 simp only[t27,LT.pre,cy,ax,aD,al,ap,aH,aN,aG,bE,dC,au,bd,bf,bG,bM,cm,Bool.and_eq_true,Bool.or_eq_true,Bool.and_eq_false_iff,Bool.or_eq_false_iff,Bool.not_eq_true',Bool.not_eq_false',decide_eq_true_eq,decide_eq_false_iff_not,bne_iff_ne,beq_iff_eq,bne_eq_false_iff_eq,beq_eq_false_iff_ne]
 simp only[Ty.cq,Ty.has,ku,vF] at h
 (repeat' (first|intro _|constructor))<;>(try omega))
abbrev RU(A:aK)(n:Node):LT (lN×Int) Empty:=(.br (A.c .eql n.2.1 3) (.need (A.k (@tt lN) n.2.2.2.1) (.br (A.c .neq (A.k vv n.2.2.2.1).2.2 0) (.ret (n.2.2.2.1,4)) (.ret ((A.k vv n.2.2.2.1).1,(A.k vv n.2.2.2.1).2.1)))) (.need (A.k (@tt lN) n.2.2.2.1) (.br (A.c .neq (A.k qy n.2.2.2.1).2.2 0) (.ret (n.2.2.2.1,4)) (.ret ((A.k qy n.2.2.2.1).1,(A.k qy n.2.2.2.1).2.1)))))
def ZD(A:aK)(n:Node):LT (lN×Int) Empty:=.br (A.c .eql n.2.1 2) (.br (A.c .lss n.2.2.2.1.2.2.2.1 2) (.ret (n.2.2.2.1,4)) (.br (A.c .leq n.2.2.2.1.2.2.2.1 n.2.2.2.1.2.2.2.2.1) (.ret (n.2.2.2.1,4)) (RU A n))) (RU A n)
def mT(n:Node):lN×Int:=bif decide (n.2.1=2)&&(decide (n.2.2.2.1.2.2.2.1<2)||decide (n.2.2.2.1.2.2.2.1≤n.2.2.2.1.2.2.2.2.1)) then(n.2.2.2.1,4) else bif decide (n.2.1=3) then((vv n.2.2.2.1).1,(vv n.2.2.2.1).2.1) else((qy n.2.2.2.1).1,(qy n.2.2.2.1).2.1)
theorem Sf{v:lN}(h:mq v=0):(qy v).2.2=0:=by
 obtain⟨a,b,c,d,e,f,g⟩:=v
 simp only[qy,t23,LT.val,au,chk,h]
 cases ah.c .leq d e<;>rfl
theorem afn{n:Node}(h:mq n.2.2.2.1=0):aB Empty.elim (ZD ah n) (mT n):=by
 unfold ZD RU mT
 have h23:=Sf h
 have h27:(vv n.2.2.2.1).2.2=0:=by
  generalize n.2.2.2.1=v at *
  obtain⟨a,b,c,d,e,f,g⟩:=v
  simp only[vv,t27,LT.val,au,chk,h]
  simp only[Bool.cond_eq_ite]
  repeat' split
  all_goals first|rfl|exact h23
 have e23:ah.c .neq (ah.k qy n.2.2.2.1).2.2 0=false:=AO h23
 have e27:ah.c .neq (ah.k vv n.2.2.2.1).2.2 0=false:=AO h27
 refine aA (p:=n.2.1=2) aO (fun g=>aA (p:=n.2.2.2.1.2.2.2.1<2) rfl (fun g1=>ay ?_ (.ret _)) fun g1=>aA (p:=n.2.2.2.1.2.2.2.1≤n.2.2.2.1.2.2.2.2.1) rfl (fun g2=>ay ?_ (.ret _)) fun g2=>(ai (by rw[aO];exact decide_eq_false (by omega))).2 (af.2 ⟨rfl,(ai e23).2 (ay ?_ (.ret _))⟩)) fun g=>aA (p:=n.2.1=3) aO (fun g3=>af.2 ⟨rfl,(ai e27).2 (ay ?_ (.ret _))⟩) fun g3=>af.2 ⟨rfl,(ai e23).2 (ay ?_ (.ret _))⟩
 ·rw[decide_eq_true g,decide_eq_true g1];rfl
 ·rw[decide_eq_true g,decide_eq_true g2,Bool.or_true];rfl
 ·rw[decide_eq_true g,decide_eq_false g1,decide_eq_false g2,decide_eq_false (show ¬n.2.1=3 by omega)];rfl
 ·rw[decide_eq_false g,decide_eq_true g3];rfl
 ·rw[decide_eq_false g,decide_eq_false g3];rfl
def yN:Node→(lN×Int):=mT
def PR:Node→Bool:=fun n=>decide (mq n.2.2.2.1=0)
def adY:aC:=⟨[aF], [kB,yI],PR,yN⟩
theorem agm:Sd 294 adY:=aQ ar bU true 83 [] (fun A n=>ZD A n) (fc Tryz.func294 fz) (sc adn (sc aie sz)) fun(n:Node) hp h=>afn (of_decide_eq_true hp)
def ZE(m:ao)(k n:Int):Int:=ah.n yI (ah.n b_ m.2.2.2.2.2.2.2 k:Mode).1 n
def LO(m:ao)(n:Node):Int:=ZE m n.2.2.1.2.2.1 n.1
def abw(m:ao)(n:Node):Int:=bif decide ((z_ m n.2.2.1 n.2.2.2.2.2.2.2.2.2.2.2).2=0) then(z_ m n.2.2.1 n.2.2.2.2.2.2.2.2.2.2.2).1 else 0
def A9(m:ao)(n:Node):mR:=((fO m n.2.2.1.2.2.1 n.1).1,abw m n,n.2.2.1,0,bif decide ((fO m n.2.2.1.2.2.1 n.1).1=3) then([]:List Int) else(yT n.2.2.2.2.2.2.2 (LO m n)).1)
def LP(m:ao)(n:Node):Bool:=decide ((fO m n.2.2.1.2.2.1 n.1).2=0)&&cO n.2.2.2.2.2.2.2
theorem SL{m:ao}{n:Int}(hm:dh m=true)(h1:0≤n∧n≤m.1-1)(x:Mode)(hx:jB m x=true):0≤x.1.getD n.toNat 0∧x.1.getD n.toNat 0≤8:=by
 have hl:=nX hx
 have hc:=(dd hm).2.2.1
 simp only[jB,Bool.and_eq_true] at hx
 have ha:=hx.2
 have l1:m.2.2.2.2.2.2.1.length=x.1.length:=by omega
 have l2:x.2.1.length=x.1.length:=by omega
 rw[sZ l1 l2,Bool.and_eq_true] at ha
 have hi:n.toNat<x.1.length:=by omega
 rw[List.getD_eq_getElem?_getD,List.getElem?_eq_getElem hi]
 have:=List.all_eq_true.1 ha.1 _ (List.getElem_mem hi)
 simpa using this
theorem Qu{m:ao}{k n:Int}(hm:dh m=true)(h1:0≤n∧n≤m.1-1)(h2:0≤k∧k<dw m):0≤ZE m k n∧ZE m k n≤8:=SL hm h1 _ (uZ hm h2.1 h2.2)
theorem Rc{c:cJ}{k:Int}(h:cO c=true)(h1:0≤k∧k≤8):(yT c k).2=0:=by
 rw[yT,h,cond_true,decide_eq_true h1];rfl
abbrev Kh(A:aK)(m:ao)(n:Node):=(A.n yI (A.n b_ m.2.2.2.2.2.2.2 n.2.2.1.2.2.1:Mode).1 n.1:Int)
abbrev u5(A:aK)(m:ao)(n:Node):=(A.k r_ (m,n.2.2.1.2.2.1,n.1))
abbrev Gm(A:aK)(m:ao)(n:Node):=(A.k Pr (n.2.2.2.2.2.2.2,(Kh A m n)))
abbrev PL(A:aK)(m:ao)(n:Node):=(A.and (A.c .leq 0 n.1) (A.c .lss n.1 (A.l (A.n b_ m.2.2.2.2.2.2.2 n.2.2.1.2.2.1:Mode).1)))
def XR(A:aK)(m:ao)(n:Node):LT (mR×Int) Empty:=.need (A.k (@tt (ao×Int×Int)) (m,n.2.2.1.2.2.1,n.1)) (.br (A.c .neq (u5 A m n).2 0) (.ret ((0,0,(0,0,0,0,0),0,([]:List Int)),(u5 A m n).2)) (.need (A.k (@tt (ao×cv×Int)) (m,n.2.2.1,n.2.2.2.2.2.2.2.2.2.2.2)) (.br (A.c .eql (A.k FF (m,n.2.2.1,n.2.2.2.2.2.2.2.2.2.2.2)).2 0) (.br (A.c .eql (u5 A m n).1 3) (.ret (((u5 A m n).1,(A.k FF (m,n.2.2.1,n.2.2.2.2.2.2.2.2.2.2.2)).1,n.2.2.1,0,([]:List Int)),0)) (.need (A.and (A.c .leq 0 n.2.2.1.2.2.1) (A.c .lss n.2.2.1.2.2.1 (A.l m.2.2.2.2.2.2.2))) (.need (PL A m n) (.need (A.k (@tt (cJ×Int)) (n.2.2.2.2.2.2.2,(Kh A m n))) (.ret (((u5 A m n).1,(A.k FF (m,n.2.2.1,n.2.2.2.2.2.2.2.2.2.2.2)).1,n.2.2.1,0,(Gm A m n).1),(Gm A m n).2)))))) (.br (A.c .eql (u5 A m n).1 3) (.ret (((u5 A m n).1,0,n.2.2.1,0,([]:List Int)),0)) (.need (A.and (A.c .leq 0 n.2.2.1.2.2.1) (A.c .lss n.2.2.1.2.2.1 (A.l m.2.2.2.2.2.2.2))) (.need (PL A m n) (.need (A.k (@tt (cJ×Int)) (n.2.2.2.2.2.2.2,(Kh A m n))) (.ret (((u5 A m n).1,0,n.2.2.1,0,(Gm A m n).1),(Gm A m n).2)))))))))
theorem aa8{m:ao}{n:Node}(h:LP m n=true):aB Empty.elim (XR ah m n) (A9 m n,0):=by
 rw[LP,Bool.and_eq_true,decide_eq_true_eq] at h
 obtain⟨hm,h1,h2⟩:=rv h.1
 have hx:=nX (uZ hm h2.1 h2.2)
 have hz:=Rc h.2 (Qu hm h1 h2)
 unfold XR PL Gm u5 Kh A9 abw
 rw[show ah.k r_ (m,n.2.2.1.2.2.1,n.1)=fO m n.2.2.1.2.2.1 n.1 from rfl,show ah.k FF (m,n.2.2.1,n.2.2.2.2.2.2.2.2.2.2.2)=z_ m n.2.2.1 n.2.2.2.2.2.2.2.2.2.2.2 from rfl,show ah.k Pr (n.2.2.2.2.2.2.2,(ah.n yI (ah.n b_ m.2.2.2.2.2.2.2 n.2.2.1.2.2.1:Mode).1 n.1:Int))=yT n.2.2.2.2.2.2.2 (LO m n) from rfl]
 have tl:∀q:Int,aB (R:=mR×Int) Empty.elim (.br (ah.c .eql (fO m n.2.2.1.2.2.1 n.1).1 3) (.ret (((fO m n.2.2.1.2.2.1 n.1).1,q,n.2.2.1,0,([]:List Int)),0)) (.need (ah.and (ah.c .leq 0 n.2.2.1.2.2.1) (ah.c .lss n.2.2.1.2.2.1 (ah.l m.2.2.2.2.2.2.2))) (.need (ah.and (ah.c .leq 0 n.1) (ah.c .lss n.1 (ah.l (ah.n b_ m.2.2.2.2.2.2.2 n.2.2.1.2.2.1:Mode).1))) (.need true (.ret (((fO m n.2.2.1.2.2.1 n.1).1,q,n.2.2.1,0,(yT n.2.2.2.2.2.2.2 (LO m n)).1),(yT n.2.2.2.2.2.2.2 (LO m n)).2)))))) (((fO m n.2.2.1.2.2.1 n.1).1,q,n.2.2.1,0,bif decide ((fO m n.2.2.1.2.2.1 n.1).1=3) then([]:List Int) else(yT n.2.2.2.2.2.2.2 (LO m n)).1),0):=fun q=>
  aA (p:=(fO m n.2.2.1.2.2.1 n.1).1=3) aO (fun g=>ay (by rw[decide_eq_true g];rfl) (.ret _)) fun g=>af.2 ⟨ru h2.1 h2.2,af.2 ⟨qS hx.1 h1.1 (by omega),af.2 ⟨rfl,ay (by rw[decide_eq_false g,show(yT n.2.2.2.2.2.2.2 (LO m n)).2=0 from hz];rfl) (.ret _)⟩⟩⟩
 refine af.2 ⟨rfl,(ai (AO h.1)).2 (af.2 ⟨rfl,aA (p:=(z_ m n.2.2.1 n.2.2.2.2.2.2.2.2.2.2.2).2=0) aO (fun g=>?_) fun g=>?_⟩)⟩
 ·rw[decide_eq_true g];exact tl _
 ·rw[decide_eq_false g];exact tl _
def rW:(ao×Node)→(mR×Int):=fun(m,n)=>(A9 m n,0)
def QJ:(ao×Node)→Bool:=fun(m,n)=>LP m n
def ab2:aC:=⟨[aP,aF], [w_,yI],QJ,rW⟩
theorem adW:Sd 296 ab2:=aQ ar bU true 111 [] (fun A (m,n)=>XR A m n) (fc Tryz.func296 fz) (sc VT (sc aa6 (sc abo sz))) fun((m,n):ao×Node) hp h=>aa8 hp
def Yd(n:Node)(v:lN):Node:=(n.1,4,(n.2.2.1.1,n.2.2.1.2.1,n.2.2.1.2.2.1,n.2.2.1.2.2.2.1,v.2.2.1),v,n.2.2.2.2.1,false,n.2.2.2.2.2.2)
def XZ(n:Node)(s t:Int)(b:Bool)(st:Int):Node:=(n.1,s,(0,0,0,0,0),(0,0,0,0,0,0,0),t,b,st,n.2.2.2.2.2.2.2)
def Sx(m:ao)(n:Node):Node×mR×Bool×Int:=((n.1,n.2.1,kV m n.2.2.1 (A9 m n).2.1,n.2.2.2),A9 m n,true,0)
def Bd(m:ao)(n:Node):Node×mR×Bool×Int:=bif decide ((mT n).2=2) then(XZ n 5 0 false 1,uC,false,0) else bif decide ((mT n).2=3) then(XZ n 1 (mK m n.1).1 n.2.2.2.2.2.1 2,uC,false,0) else bif decide ((mT n).2=4) then(XZ n 1 (Am m n.1).1 n.2.2.2.2.2.1 n.2.2.2.2.2.2.1,uC,false,0) else Sx m (Yd n (mT n).1)
def QC(m:ao)(n:Node):Node×mR×Bool×Int:=bif decide (bi m n=0) then(bif jK n&&decide (n.2.2.1.2.1=n.1) then Bd m n else(fo,uC,false,181)) else(fo,uC,false,bi m n)
theorem jR{m:ao}{n:Node}(h:bi m n=0)(h1:jK n=true):dP m n.2.2.1=true∧mq n.2.2.2.1=0∧n.2.2.2.1.1=n.1∧n.2.2.2.1.2.1=m.1∧n.2.2.1.2.2.2.2=n.2.2.2.1.2.2.1:=by
 have hc:=(bW.1 (aY h).2).2.2.2.2.2.2.2.1
 rw[oU,h1,cond_true] at hc
 simpa only[Bool.and_eq_true,decide_eq_true_eq] using hc
theorem Tg{m:ao}{k n:Int}(hm:dh m=true)(h1:0≤n∧n≤m.1-1)(h2:0≤k∧k<dw m):(fO m k n).2=0:=by
 rw[fO,gX,hm,cond_true,decide_eq_true h1,decide_eq_true (show 0≤k∧k≤dw m-1 by omega)];rfl
theorem ta{m:ao}{c:cv}(h:dP m c=true):jW (c,m.1)=0∧(0≤c.2.2.1∧c.2.2.1<dw m)∧c.2.2.2.1≤dw m:=by
 simp only[dP,Bool.and_eq_true,decide_eq_true_eq] at h
 exact⟨h.1,⟨(qk h.1).2.2.2.1.1,h.2.1⟩,h.2.2⟩
theorem YF{m:ao}{n:Node}{v:lN}(h:bi m n=0)(h1:jK n=true):LP m (Yd n v)=true:=by
 have hz:=bW.1 (aY h).2
 rw[LP,Bool.and_eq_true]
 exact⟨decide_eq_true (Tg (aY h).1 hz.1 (ta (jR h h1).1).2.1),show cO n.2.2.2.2.2.2.2=true from rA h⟩
theorem YR{m:ao}{i:Int}:ah.k uz (m,i)=(mK m i).1:=rfl
theorem ZM{m:ao}{i:Int}:ah.k Om (m,i)=(Am m i).1:=rfl
structure Ii where
 (a0:Int) (a1:ao) (a2 a3:lN) (a4:Int) (a5:Bool) (a6 a7 a8 a9:Int) (cX:lN) (dN:Int) (a12:Node)
structure Nb where
 (b0:ao) (b1 b2:lN) (b3:Int) (b4:Bool) (b5 b6 b7 b8:Int) (b9:lN) (b10:Int) (b11:Node)
inductive UW where
 | c0 (p:Ii)
 | c1 (p:Nb)
noncomputable def Z6:UW→eF
 | .c0 p=>⟨[⟨251,91,(en [(2,.ptr 0 0),(4,.ptr 1 0),(5,.ptr 2 0),(8,.ptr 3 0),(9,vi p.a0)]),[.code (cw Tryz.f251 [1,1,0,0]),.code (cw Tryz.f251 [1,1,0,1]),.code (cw Tryz.f251 [1,1,1])],[],none⟩],[.flat false (dc aP p.a1),.flat false (dc kB p.a2++dc kB p.a3 ++ [vi p.a4,vb p.a5,vi p.a6,vi p.a7,.dq true,.dq true,vi p.a8,vi p.a9]),.flat false (dc kB p.cX ++ [vi p.dN,.dq true]),.flat false (dc aF p.a12),.dead]⟩
 | .c1 p=>⟨[⟨251,91,(en [(2,.ptr 0 0),(4,.ptr 1 0),(5,.ptr 2 0),(8,.ptr 3 0)]),[.code (cw Tryz.f251 [1,1,1,1,1,1,0]),.code (cw Tryz.f251 [1,1,1,1,1,1,1])],[],none⟩],[.flat false (dc aP p.b0),.flat false (dc kB p.b1++dc kB p.b2 ++ [vi p.b3,vb p.b4,vi p.b5,vi p.b6,.dq true,.dq true,vi p.b7,vi p.b8]),.flat false (dc kB p.b9 ++ [vi p.b10,.dq true]),.flat false (dc aF p.b11),.dead]⟩
def Zi(A:aK)(m:ao)(n:Node):LT (Node×mR×Bool×Int) UW:=.need (A.k (@tt Node) n) (.br (A.k fv n) (.need (A.k (@tt (ao×Node×Bool)) (m,n,(A.c .eql n.2.2.1.2.1 n.1))) (.need (A.k (@tt (ao×Node×Bool)) (m,n,(A.c .eql n.2.2.1.2.1 n.1))) (.eqs (((A.k fv n):Bool)=true) (.need (A.k (@tt Node) n) (.more (.c0 ⟨(A.k gx (m,n,(A.c .eql n.2.2.1.2.1 n.1))).2,m,(0,0,0,0,0,0,0),(0,0,0,0,0,0,0),0,false,0,0,0,0,(0,0,0,0,0,0,0),0,(A.k gx (m,n,(A.c .eql n.2.2.1.2.1 n.1))).1⟩)))))) (.need (A.k (@tt (ao×Node×Bool)) (m,n,false)) (.need (A.k (@tt (ao×Node×Bool)) (m,n,false)) (.eqs (((A.k fv n):Bool)=false) (.need (A.k (@tt Node) n) (.more (.c0 ⟨(A.k gx (m,n,false)).2,m,(0,0,0,0,0,0,0),(0,0,0,0,0,0,0),0,false,0,0,0,0,(0,0,0,0,0,0,0),0,(A.k gx (m,n,false)).1⟩)))))))
def Ga(A:aK):UW→LT (Node×mR×Bool×Int) UW
 | .c0 p=>.br (A.c .neq p.a0 0) (.ret ((0,0,(0,0,0,0,0),(0,0,0,0,0,0,0),0,false,0,0,([]:List Int),([]:List dx),0,0),(0,0,(0,0,0,0,0),0,([]:List Int)),false,p.a0)) (.need (A.k PR p.a12) (.br (A.c .eql (A.k yN p.a12).2 2) (.ret ((p.a12.1,5,(0,0,0,0,0),(0,0,0,0,0,0,0),0,false,1,p.a12.2.2.2.2.2.2.2),(0,0,(0,0,0,0,0),0,([]:List Int)),false,0)) (.br (A.c .eql (A.k yN p.a12).2 3) (.need (A.k (@tt (ao×Int)) (p.a1,p.a12.1)) (.ret ((p.a12.1,1,(0,0,0,0,0),(0,0,0,0,0,0,0),(A.k uz (p.a1,p.a12.1)),p.a12.2.2.2.2.2.1,2,p.a12.2.2.2.2.2.2.2),(0,0,(0,0,0,0,0),0,([]:List Int)),false,0))) (.br (A.c .eql (A.k yN p.a12).2 4) (.need (A.k (@tt (ao×Int)) (p.a1,p.a12.1)) (.ret ((p.a12.1,1,(0,0,0,0,0),(0,0,0,0,0,0,0),(A.k Om (p.a1,p.a12.1)),p.a12.2.2.2.2.2),(0,0,(0,0,0,0,0),0,([]:List Int)),false,0))) (.more (.c1 ⟨p.a1,p.a2,p.a3,p.a4,p.a5,p.a6,p.a7,p.a8,p.a9,p.cX,p.dN,(p.a12.1,4,(p.a12.2.2.1.1,p.a12.2.2.1.2.1,p.a12.2.2.1.2.2.1,p.a12.2.2.1.2.2.2.1,(A.k yN p.a12).1.2.2.1),(A.k yN p.a12).1,p.a12.2.2.2.2.1,false,p.a12.2.2.2.2.2.2)⟩))))))
 | .c1 p=>.need (A.k QJ (p.b0,p.b11)) (.br (A.c .neq (A.k rW (p.b0,p.b11)).2 0) (.ret ((0,0,(0,0,0,0,0),(0,0,0,0,0,0,0),0,false,0,0,([]:List Int),([]:List dx),0,0),(0,0,(0,0,0,0,0),0,([]:List Int)),false,(A.k rW (p.b0,p.b11)).2)) (.need (A.k (@tt (ao×cv×Int)) (p.b0,p.b11.2.2.1,(A.k rW (p.b0,p.b11)).1.2.1)) (.need (A.k (@tt (ao×cv×Int)) (p.b0,p.b11.2.2.1,(A.k rW (p.b0,p.b11)).1.2.1)) (.br (A.c .eql (A.k qJ (p.b0,p.b11.2.2.1,(A.k rW (p.b0,p.b11)).1.2.1)).2 0) (.ret ((p.b11.1,p.b11.2.1,(A.k qJ (p.b0,p.b11.2.2.1,(A.k rW (p.b0,p.b11)).1.2.1)).1,p.b11.2.2.2),(A.k rW (p.b0,p.b11)).1,true,0)) (.ret (p.b11,(A.k rW (p.b0,p.b11)).1,true,0))))))
theorem ZZ{p:Nb}(h:LP p.b0 p.b11=true):aB (Ga ah) (.more (.c1 p)) (Sx p.b0 p.b11):=by
 rw[ak,Ga,Sx]
 rw[show ah.k rW (p.b0,p.b11)=(A9 p.b0 p.b11,0) from rfl,show ah.k qJ (p.b0,p.b11.2.2.1,(A9 p.b0 p.b11,(0:Int)).1.2.1)=xq p.b0 p.b11.2.2.1 (A9 p.b0 p.b11).2.1 from rfl]
 refine af.2 ⟨h,(ai rfl).2 (af.2 ⟨rfl,af.2 ⟨rfl,aA (p:=(xq p.b0 p.b11.2.2.1 (A9 p.b0 p.b11).2.1).2=0) aO (fun g=>ay ?_ (.ret _)) fun g=>ay ?_ (.ret _)⟩⟩)⟩
 ·rw[kV,decide_eq_true g];rfl
 ·rw[kV,decide_eq_false g];rfl
theorem WO{p:Ii}{m:ao}{n:Node}(h0:p.a0=0)(h1:p.a1=m)(h12:p.a12=n)(h:bi m n=0)(hi:jK n=true):aB (Ga ah) (.more (.c0 p)) (Bd m n):=by
 subst h1 h12
 rw[ak,Ga,Bd,h0,YR,ZM,show ah.k yN p.a12=mT p.a12 from rfl]
 refine(ai rfl).2 (af.2 ⟨decide_eq_true (jR h hi).2.1,aA (p:=(mT p.a12).2=2) aO (fun g=>ay ?_ (.ret _)) fun g=>aA (p:=(mT p.a12).2=3) aO (fun g3=>af.2 ⟨rfl,ay ?_ (.ret _)⟩) fun g3=>aA (p:=(mT p.a12).2=4) aO (fun g4=>af.2 ⟨rfl,ay ?_ (.ret _)⟩) fun g4=>?_⟩)
 ·rw[decide_eq_true g];rfl
 ·rw[decide_eq_false g,decide_eq_true g3];rfl
 ·rw[decide_eq_false g,decide_eq_false g3,decide_eq_true g4];rfl
 ·rw[decide_eq_false g,decide_eq_false g3,decide_eq_false g4]
  exact ZZ (YF h hi)
theorem agS{m:ao}{n:Node}:aB (Ga ah) (Zi ah m n) (QC m n):=by
 unfold Zi QC
 rw[show ah.k fv n=jK n from rfl]
 refine af.2 ⟨rfl,?_⟩
 have no:∀q:Ii,q.a0=(ia m n false).2→aB (Ga ah) (.more (.c0 q)) (bif decide (bi m n=0) then(fo,uC,false,181) else(fo,uC,false,bi m n)):=fun q hq=>by
  rw[ak,Ga,hq,ia]
  by_cases h:bi m n=0
  ·rw[decide_eq_true h];exact(aj rfl).2 (.ret _)
  ·rw[decide_eq_false h];exact(aj (qj h)).2 (.ret _)
 cases hi:jK n
 ·exact(ai rfl).2 (af.2 ⟨rfl,af.2 ⟨rfl,tX.2 ⟨rfl,af.2 ⟨rfl,no _ rfl⟩⟩⟩⟩)
 ·refine(aj rfl).2 (af.2 ⟨rfl,af.2 ⟨rfl,tX.2 ⟨rfl,af.2 ⟨rfl,?_⟩⟩⟩⟩)
  rw[show ∀w,ah.k gx (m,n,w)=ia m n w from fun _=>rfl,aO,Bool.true_and]
  by_cases hp:n.2.2.1.2.1=n.1
  ·rw[decide_eq_true hp,cond_true]
   by_cases h:bi m n=0
   ·have e:ia m n true=(n,0):=by rw[ia,decide_eq_true h];rfl
    rw[decide_eq_true h,e]
    exact WO rfl rfl rfl h hi
   ·have:=no ⟨(ia m n true).2,m,(0,0,0,0,0,0,0),(0,0,0,0,0,0,0),0,false,0,0,0,0,(0,0,0,0,0,0,0),0,(ia m n true).1⟩ (by rw[ia,ia,decide_eq_false h];rfl)
    rw[decide_eq_false h] at this ⊢
    exact this
  ·rw[decide_eq_false hp];exact no _ rfl
def VY:(ao×Node)→(Node×mR×Bool×Int):=fun(m,n)=>QC m n
def adB:aC:=⟨[aP,aF], [aF,w_,.bool,yI],(@tt (ao×Node)),VY⟩
theorem acb:Sd 251 adB:=aU ar bU true 39 [] [⟨251,2, [[2,4,5,8,9]]⟩,⟨251,18, [[2,4,5,8]]⟩] (fun A (m,n)=>Zi A m n) Ga Z6 (fc Tryz.func251 (fc Tryz.func53 (fc Tryz.func84 fz))) (sc rN (sc wI (sc FN (sc agm (sc ae4 (sc adW (sc OC sz))))))) (fun A y=>match y with |.c0 p=>⟨89,by kernel_rfl,by kernel_rfl⟩|.c1 p=>⟨74,by kernel_rfl,by kernel_rfl⟩) fun(m,n) hp h=>agS
theorem Ru{a b c d e f g:Int}(h:iQ a b c d e f g)(h1:e<d):qy (a,b,c,d,e,f,g)=((a,b,jM c a,1,0,1,0),1,0):=by
 simp[qy,t23,LT.val,au,aD,ap,dK.2 h,jM,show ¬d≤e from by omega]
theorem Rh{a b c d e f g:Int}(h:iQ a b c d e f g)(h1:d≤e):qy (a,b,c,d,e,f,g)=((a,b,c,d,e,f,g),2,0):=by
 simp[qy,t23,LT.val,au,aD,ap,dK.2 h,h1]
theorem inc_le{d:Int}(h0:0≤d)(h1:d≤1048576):0≤inc d∧inc d≤1048576:=by
 unfold inc;split<;>omega
theorem MQ{a b c d e f g c' d' e':Int}(h:iQ a b c d e f g)(h1:0≤c'∧c'<((2^b.toNat:Nat):Int))(h2:0≤d'∧d'≤1048576)(h3:0≤e'∧e'≤1048576):iQ a b c' d' e' 0 0:=by
 unfold iQ at h ⊢
 exact⟨h.1,h.2.1,h.2.2.1,h.2.2.2.1,by omega,by omega,h1.1,h1.2,h2.1,h2.2,h3.1,h3.2,by omega,by omega,fun h=>absurd rfl h,fun h=>by omega⟩
theorem P8{a b c d e f g s k:Int}(h:iQ a b c d e f g)(h0:0≤s)(h1:s<b)(h2:s≠a)(hk:k=0∨k=1)(he:(ol ((a,b,c,d,e,f,g),s,k)).2=0) :
  ∃c' d' e' f' g',(ol ((a,b,c,d,e,f,g),s,k)).1=(a,b,c',d',e',f',g')∧iQ a b c' d' e' f' g'∧kX c' s=true:=by
 have hm:=h
 unfold iQ at hm
 have hp:=s9 (n:=b.toNat) (by omega)
 have id:=inc_le (d:=d) (by omega) (by omega)
 have ie:=inc_le (d:=e) (by omega) (by omega)
 have I:=fun {c s:Int} (h:0≤c∧c<((2^b.toNat:Nat):Int)) (h':0≤s∧s<b)=>Qn (c:=c) (s:=s) (n:=b) h.1 (by omega) h.2 h'.1 h'.2
 have D:=fun {c s:Int} (h:0≤c∧c<((2^b.toNat:Nat):Int)) (h':0≤s∧s<b)=>Np (c:=c) (s:=s) (n:=b) h.1 (by omega) h.2 h'.1 (by omega)
 have BI:=fun {c s:Int} (h:0≤c∧c<((2^b.toNat:Nat):Int)) (h':0≤s∧s<b) {i:Int} (hi:0≤i)=>Ka (c:=c) (s:=s) (i:=i) h.1 (by omega) h'.1 (by omega) hi
 have BD:=fun {c s:Int} (h:0≤c∧c<((2^b.toNat:Nat):Int)) (h':0≤s∧s<b) {i:Int} (hi:0≤i)=>Ck (c:=c) (s:=s) (i:=i) h.1 (by omega) h'.1 (by omega) hi
 have hc:0≤c∧c<((2^b.toNat:Nat):Int):=⟨by omega,by omega⟩
 have ha:0≤a∧a<b:=⟨by omega,by omega⟩
 have hs:0≤s∧s<b:=⟨h0,h1⟩
 have hg:0≤g∧g<b:=⟨by omega,by omega⟩
 have hf:f=0∨f=1∨f=2:=by omega
 have sa:(a==s)=false:=by simp;omega
 rcases hf with rfl|rfl|rfl<;>rcases hk with rfl|rfl
 ·rw[RD h h0 h1 h2]
  exact⟨_,_,_,_,_,rfl,MQ h (I hc hs) id (by omega),by rw[BI hc hs h0];simp⟩
 ·exfalso
  revert he
  simp[ol,t25,zv,LT.val,au,aD,ax,bE,eY.2 ⟨h,h0,h1,h2⟩,np h h0 h1 h2,G4]
 ·rw[NM h h0 h1 h2]
  exact⟨_,_,_,_,_,rfl,MQ h (I (I hc hs) ha) id (by omega),by rw[BI (I hc hs) ha h0,BI hc hs h0];simp⟩
 ·rw[Jn h h0 h1 h2]
  refine⟨_,_,_,_,_,rfl,?_,by rw[BI hc hs h0];simp⟩
  have:=I hc hs
  unfold iQ
  exact⟨by omega,by omega,by omega,by omega,by omega,by omega,by omega,by omega,by omega,by omega,by omega,by omega,by omega,by omega,fun _=>by
   rw[BI hc hs ha.1,hm.2.2.2.2.2.2.2.2.2.2.2.2.2.2.1 (by decide)];rfl,fun _=>h2⟩
 ·by_cases hsg:s=g
  ·subst hsg
   rw[KC h h0 h1 h2]
   exact⟨_,_,_,_,_,rfl,MQ h (I (I hc hs) ha) id (by omega),by rw[BI (I hc hs) ha h0,BI hc hs h0];simp⟩
  ·rw[KJ h h0 h1 h2 hsg]
   exact⟨_,_,_,_,_,rfl,MQ h (D (I (I hc hs) ha) hg) id ie,by
    have sg:(g != s)=true:=by simp;omega
    rw[BD (I (I hc hs) ha) hg h0,BI (I hc hs) ha h0,BI hc hs h0,sg];simp⟩
 ·by_cases hsg:s=g
  ·subst hsg
   exfalso
   revert he
   simp[ol,t25,zv,LT.val,au,aD,ax,bE,eY.2 ⟨h,h0,h1,h2⟩,np h h0 h1 h2,Dg]
  ·rw[KO h h0 h1 h2 hsg]
   exact⟨_,_,_,_,_,rfl,MQ h (D (I (I hc hs) hg) ha) id ie,by
    have sg:(a != s)=true:=by simp;omega
    rw[BD (I (I hc hs) hg) ha h0,BI (I hc hs) hg h0,BI hc hs h0,sg];simp⟩
theorem Mm{a b c d e f g s:Int}(h:iQ a b c d e f g)(h0:0≤s)(h1:s<b)(h2:s≠a) :
  ∃c' f' g',nO ((a,b,c,d,e,f,g),s)=((a,b,c',d,e,f',g'),0)∧iQ a b c' d e f' g':=by
 have hm:=h
 unfold iQ at hm
 have hp:=s9 (n:=b.toNat) (by omega)
 have hd:=Np (c:=c) (s:=s) (n:=b) (by omega) (by omega) (by omega) h0 (by omega)
 have hb:f≠0→kX (pP c s) a=true:=fun hf=>by
  rw[Ck (by omega) (by omega) h0 (by omega) (by omega),hm.2.2.2.2.2.2.2.2.2.2.2.2.2.2.1 hf]
  simpa using h2
 by_cases hf:f=2
 ·subst hf
  by_cases hsg:g=s
  ·subst hsg
   refine⟨_,_,_,Q_ h h2,?_⟩
   unfold iQ
   exact⟨by omega,by omega,by omega,by omega,by omega,by omega,by omega,by omega,by omega,by omega,by omega,by omega,by omega,by omega,fun _=>hb (by decide),fun h=>by omega⟩
  ·refine⟨_,_,_,NH h h0 h1 h2 hsg,?_⟩
   unfold iQ
   exact⟨by omega,by omega,by omega,by omega,by omega,by omega,by omega,by omega,by omega,by omega,by omega,by omega,by omega,by omega,fun _=>hb (by decide),hm.2.2.2.2.2.2.2.2.2.2.2.2.2.2.2⟩
 ·refine⟨_,_,_,Nz h h0 h1 h2 hf,?_⟩
  unfold iQ
  exact⟨by omega,by omega,by omega,by omega,by omega,by omega,by omega,by omega,by omega,by omega,by omega,by omega,by omega,by omega,hb,fun h=>absurd h hf⟩
theorem abE{a b c d e f g e':Int}(h:iQ a b c d e f g)(h1:0≤e'∧e'≤1048576):iQ a b c d e' f g:=by
 unfold iQ at h ⊢
 exact⟨h.1,h.2.1,h.2.2.1,h.2.2.2.1,h.2.2.2.2.1,h.2.2.2.2.2.1,h.2.2.2.2.2.2.1,h.2.2.2.2.2.2.2.1,h.2.2.2.2.2.2.2.2.1,h.2.2.2.2.2.2.2.2.2.1,h1.1,h1.2,h.2.2.2.2.2.2.2.2.2.2.2.2⟩
theorem Jx{a b c d e f g:Int}(h:iQ a b c d e f g):∃c' d' e' f' g' v,qy (a,b,c,d,e,f,g)=((a,b,c',d',e',f',g'),v,0)∧iQ a b c' d' e' f' g'∧(v==1)=decide (e<d)∧(v=1→kX c' a=true):=by
 have hm:=h
 unfold iQ at hm
 have hp:=s9 (n:=b.toNat) (by omega)
 have hi:=Qn (c:=c) (s:=a) (n:=b) (by omega) (by omega) (by omega) (by omega) (by omega)
 have hb:kX (jM c a) a=true:=by rw[Ka (by omega) (by omega) (by omega) (by omega) (by omega)];simp
 by_cases hde:e<d
 ·refine⟨_,_,_,_,_,_,Ru h hde,?_,by simp[hde],fun _=>hb⟩
  unfold iQ
  exact⟨by omega,by omega,by omega,by omega,by omega,by omega,by omega,by omega,by omega,by omega,by omega,by omega,by omega,by omega,fun _=>hb,fun h=>by omega⟩
 ·exact⟨_,_,_,_,_,_,Rh h (by omega),h,by simp[hde],fun h=>by omega⟩
theorem No{a b c d e f g:Int}(h:iQ a b c d e f g):∃c' d' e' f' g' v,vv (a,b,c,d,e,f,g)=((a,b,c',d',e',f',g'),v,0)∧iQ a b c' d' e' f' g'∧(v==1)=decide (e<d):=by
 obtain⟨c',d',e',f',g',v,h1,h2,h3,_⟩:=Jx h
 by_cases hde:d=0∧e=0
 ·refine⟨c,d,e,f,g,3,?_,h,?_⟩
  ·obtain⟨rfl,rfl⟩:=hde
   simp[vv,t27,LT.val,au,ax,dK.2 h]
  ·obtain⟨rfl,rfl⟩:=hde;decide
 ·refine⟨c',d',e',f',g',v,?_,h2,h3⟩
  rw[←h1]
  by_cases h0:d=0
  ·have he:(e==0)=false:=by simp;omega
   simp[vv,t27,LT.val,au,ax,dK.2 h,h0,he]
  ·have hd:(d==0)=false:=by simpa using h0
   simp[vv,t27,LT.val,au,ax,dK.2 h,hd]
theorem Fy{c:Int×Int×Int×Int×Int}{w:Int}{o:Int×Int×Int×(Int×Int×(Int×Int×Int×Int×Int)×Int×List Int)×Int}:∀{l:List (Int×Int×(Int×List Int))} {k:Nat},mO c w k l=some o→o.1=3∧∃s∈l,s.1=2:=by
 intro l
 induction l with
 | nil=>intro k h;cases h
 | cons s l ih=>
   intro k h
   rw[mO] at h
   cases hb:(s.1==2&&(w9 (s.2.2,c)).2)
   ·rw[hb,cond_false] at h
    obtain⟨h1,x,hx,h2⟩:=ih h
    exact⟨h1,x,List.mem_cons_of_mem _ hx,h2⟩
   ·rw[hb,cond_true] at h
    cases h
    rw[Bool.and_eq_true,beq_iff_eq] at hb
    exact⟨rfl,s,List.mem_cons_self ..,hb.1⟩
theorem Dv{t p m n:Int}{seen:List (Int×Int×(Int×List Int))}{o:Int×Int×Int×(Int×Int×(Int×Int×Int×Int×Int)×Int×List Int)×Int}:∀{l:List Int} {i:Nat},nj t p m n seen i l=some o→o.1=3∧∃s∈seen,s.1=2:=by
 intro l
 induction l with
 | nil=>intro i h;cases h
 | cons v l ih=>
   intro i h
   rw[nj] at h
   cases hs:mO (t,p,m,n,v) (i:Int) 0 seen with
   | none=>rw[hs] at h;exact ih h
   | some o'=>rw[hs] at h;cases h;exact Fy hs
theorem Ec{c:Int×Int×Int×Int×Int}{w:Int}{o:Int×Int×Int×(Int×Int×(Int×Int×Int×Int×Int)×Int×List Int)×Int}:∀{l:List (Int×Int×(Int×List Int))} {k:Nat},mO c w k l=some o→o.2.1=w:=by
 intro l
 induction l with
 | nil=>intro k h;cases h
 | cons s l ih=>
   intro k h
   rw[mO] at h
   cases hb:(s.1==2&&(w9 (s.2.2,c)).2)
   ·rw[hb,cond_false] at h;exact ih h
   ·rw[hb,cond_true] at h;cases h;rfl
theorem AI{t p m n:Int}{seen:List (Int×Int×(Int×List Int))}{o:Int×Int×Int×(Int×Int×(Int×Int×Int×Int×Int)×Int×List Int)×Int}:∀{l:List Int} {i:Nat},nj t p m n seen i l=some o→∃k,k<l.length∧o.2.1=((i+k:Nat):Int):=by
 intro l
 induction l with
 | nil=>intro i h;cases h
 | cons v l ih=>
   intro i h
   rw[nj] at h
   cases hs:mO (t,p,m,n,v) (i:Int) 0 seen with
   | none=>
     rw[hs] at h
     obtain⟨k,h1,h2⟩:=ih h
     exact⟨k+1,by rw[List.length_cons];omega,by rw[h2];congr 1;omega⟩
   | some o'=>
     rw[hs] at h
     cases h
     exact⟨0,by rw[List.length_cons];omega,by rw[Ec hs];rfl⟩
theorem sR{t p m n s sender:Int}{v:Int×Int×Int×Int×Int×Int×Int}{seen:List (Int×Int×(Int×List Int))}(h:(kx ((t,p,m,n,s),v,sender,seen)).2=0) :
  lI v=0∧0≤sender∧sender<v.2.1∧sender≠v.1∧((∃k,k<(WL (v,sender)).length∧(kx ((t,p,m,n,s),v,sender,seen)).1.1=3∧(kx ((t,p,m,n,s),v,sender,seen)).1.2.1=(k:Int))∨(kx ((t,p,m,n,s),v,sender,seen)).1.1=1∨(kx ((t,p,m,n,s),v,sender,seen)).1.1=2):=by
 rw[kx] at h ⊢
 cases h1:(lI v != 0||jW ((t,p,m,n,s),v.2.1) != 0)
 ·rw[h1] at h
  rw[cond_false] at h ⊢
  cases h2:(decide (sender<0)||decide (v.2.1≤sender)||sender==v.1||seen.length != 2)
  ·rw[cond_false]
   simp only[Bool.or_eq_false_iff,bne_eq_false_iff_eq,decide_eq_false_iff_not,beq_eq_false_iff_ne] at h1 h2
   refine⟨h1.1,by omega,by omega,h2.1.2,?_⟩
   rw[yJ]
   cases h3:nj t p m n seen 0 (WL (v,sender)) with
   | some o=>
     obtain⟨k,h4,h5⟩:=AI h3
     exact .inl ⟨k,h4,(Dv h3).1,by rw[Nat.zero_add] at h5;exact h5⟩
   | none=>
     right
     show(oF seen).1=1∨(oF seen).1=2
     rw[oF]
     cases seen.any fun s=>s.1 != 0
     ·exact .inl rfl
     ·exact .inr rfl
  ·rw[h2] at h;cases h
 ·rw[h1] at h;cases h
theorem uk{a b c d e f g s:Int}(h:iQ a b c d e f g)(h0:0≤s)(h1:s<b)(h2:s≠a) :
  ∃c' f' g',nO ((a,b,c,d,e,f,g),s)=((a,b,c',d,e,f',g'),0)∧iQ a b c' d e f' g'∧kX c' s=false:=by
 obtain⟨c',f',g',e1,e2⟩:=Mm h h0 h1 h2
 refine⟨c',f',g',e1,e2,?_⟩
 have hc:=abJ h
 have hm:=h
 unfold iQ at hm
 have:c'=pP c s:=by
  by_cases hf:f=2
  ·subst hf
   by_cases hsg:g=s
   ·subst hsg
    rw[Q_ h h2] at e1
    simp only[Prod.mk.injEq] at e1
    exact e1.1.2.2.1.symm
   ·rw[NH h h0 h1 h2 hsg] at e1
    simp only[Prod.mk.injEq] at e1
    exact e1.1.2.2.1.symm
  ·rw[Nz h h0 h1 h2 hf] at e1
   simp only[Prod.mk.injEq] at e1
   exact e1.1.2.2.1.symm
 rw[this,Ck (by omega) hc h0 (by omega) h0,bne_self_eq_false,Bool.and_false]
theorem NP{a b c d e f g s:Int}{k:Nat}(h:iQ a b c d e f g)(h0:0≤s)(h1:s<b)(h2:s≠a)(hk:k<(WL ((a,b,c,d,e,f,g),s)).length):(ol ((a,b,c,d,e,f,g),s,(k:Int))).2=0∧((k:Int)=0∨(k:Int)=1):=by
 have hm:=h
 unfold iQ at hm
 have hf:f=0∨f=1∨f=2:=by omega
 rw[WL] at hk
 rcases hf with rfl|rfl|rfl
 ·rw[G4] at hk
  have:k=0:=by
   have:k<1:=hk
   omega
  subst this
  exact⟨by rw[show((0:Nat):Int)=0 from rfl,RD h h0 h1 h2],.inl rfl⟩
 ·rw[GQ] at hk
  have:k<2:=hk
  have:k=0∨k=1:=by omega
  rcases this with rfl|rfl
  ·exact⟨by rw[show((0:Nat):Int)=0 from rfl,NM h h0 h1 h2],.inl rfl⟩
  ·exact⟨by rw[show((1:Nat):Int)=1 from rfl,Jn h h0 h1 h2],.inr rfl⟩
 ·by_cases hsg:s=g
  ·subst hsg
   rw[Dg] at hk
   have:k=0:=by
    have:k<1:=hk
    omega
   subst this
   exact⟨by rw[show((0:Nat):Int)=0 from rfl,KC h h0 h1 h2],.inl rfl⟩
  ·rw[D3 hsg] at hk
   have:k<2:=hk
   have:k=0∨k=1:=by omega
   rcases this with rfl|rfl
   ·exact⟨by rw[show((0:Nat):Int)=0 from rfl,KJ h h0 h1 h2 hsg],.inl rfl⟩
   ·exact⟨by rw[show((1:Nat):Int)=1 from rfl,KO h h0 h1 h2 hsg],.inr rfl⟩
theorem U1{v:Int×Int×Int×Int×Int×Int×Int}{s:Int}{o:Int×Int×Int×(Int×Int×(Int×Int×Int×Int×Int)×Int×List Int)×Int}(h:o.1=1):mV (v,s,o)=nO (v,s):=by
 obtain⟨a,b,c,d,e,f,g⟩:=v
 obtain⟨k,w,ch,⟨fk,fr,⟨t,p,m,n,x⟩,ff,fd⟩,at'⟩:=o
 have h:k=1:=h
 subst h
 rfl
theorem Di{v:Int×Int×Int×Int×Int×Int×Int}{s:Int}{o:Int×Int×Int×(Int×Int×(Int×Int×Int×Int×Int)×Int×List Int)×Int}(h:o.1=2):mV (v,s,o)=Pj (v,s):=by
 obtain⟨a,b,c,d,e,f,g⟩:=v
 obtain⟨k,w,ch,⟨fk,fr,⟨t,p,m,n,x⟩,ff,fd⟩,at'⟩:=o
 have h:k=2:=h
 subst h
 rfl
theorem SF{v:Int×Int×Int×Int×Int×Int×Int}{s:Int}{o:Int×Int×Int×(Int×Int×(Int×Int×Int×Int×Int)×Int×List Int)×Int}(h:o.1=3):mV (v,s,o)=ol (v,s,o.2.1):=by
 obtain⟨a,b,c,d,e,f,g⟩:=v
 obtain⟨k,w,ch,⟨fk,fr,⟨t,p,m,n,x⟩,ff,fd⟩,at'⟩:=o
 have h:k=3:=h
 subst h
 rfl
theorem BQ{t p m n x s a b c d e f g:Int}{seen:List (Int×Int×(Int×List Int))}(h:(kx ((t,p,m,n,x),(a,b,c,d,e,f,g),s,seen)).2=0) :
  ∃c' d' e' f' g',mV ((a,b,c,d,e,f,g),s,(kx ((t,p,m,n,x),(a,b,c,d,e,f,g),s,seen)).1)=((a,b,c',d',e',f',g'),0)∧iQ a b c' d' e' f' g'∧kX c' s=((kx ((t,p,m,n,x),(a,b,c,d,e,f,g),s,seen)).1.1==3)∧0≤s∧s<b:=by
 obtain⟨h1,h2,h3,h4,h5⟩:=sR h
 have hok:=dK.1 h1
 have h3:s<b:=h3
 have h4:s≠a:=h4
 rcases h5 with ⟨k,hk,h6,h7⟩|h6|h6
 ·obtain⟨he,hk2⟩:=NP hok h2 h3 h4 hk
  obtain⟨c',d',e',f',g',e1,e2,e3⟩:=P8 hok h2 h3 h4 hk2 he
  refine⟨c',d',e',f',g',?_,e2,by rw[e3,h6];rfl,h2,h3⟩
  rw[SF h6,h7]
  exact Prod.ext e1 he
 ·obtain⟨c',f',g',e1,e2,e3⟩:=uk hok h2 h3 h4
  exact⟨c',d,e,f',g',by rw[U1 h6];exact e1,e2,by rw[e3,h6];rfl,h2,h3⟩
 ·obtain⟨c',f',g',e1,e2,e3⟩:=uk hok h2 h3 h4
  have hm:=hok
  unfold iQ at hm
  refine⟨c',d,inc e,f',g',?_,abE e2 (inc_le (by omega) (by omega)),by rw[e3,h6];rfl,h2,h3⟩
  rw[Di h6]
  exact Ix e1 (show 0≤e by omega) (show e≤1048576 by omega)
def t24(A:aK)(mId:Int)(mN:Int)(mSet:Int)(mAcc:Int)(mFail:Int)(mStage:Int)(mFirst:Int):LT Bool Empty:=.need (A.k (@tt ((Int×Int×Int×Int×Int×Int×Int))) (mId,mN,mSet,mAcc,mFail,mStage,mFirst)) (.br (A.c .eql (A.k lI (mId,mN,mSet,mAcc,mFail,mStage,mFirst)) 0) (.need (A.c .leq 0 mId) (.ret (A.c .eql (A.b .and .i64 (A.b .shr .i64 mSet mId) 1) 1))) (.ret false))
def Ht:lN→Bool:=fun(mId,mN,mSet,mAcc,mFail,mStage,mFirst)=>(t24 ah mId mN mSet mAcc mFail mStage mFirst).val (Ty.bl [.bool])
def ahX:aC:=⟨[kB], [.bool],(@tt lN),Ht⟩
theorem agP:Sd 54 ahX:=aL ar bU true 27 [] (fun A (mId,mN,mSet,mAcc,mFail,mStage,mFirst)=>t24 A mId mN mSet mAcc mFail mStage mFirst) (fc Tryz.func54 fz) (sc Ij sz) (fun((mId,mN,mSet,mAcc,mFail,mStage,mFirst):lN) hp h=>by
 show(t24 ah mId mN mSet mAcc mFail mStage mFirst).pre=true
 simp only[t24,LT.pre,cy,ax,aD,al,ap,aH,aN,aG,bE,dC,au,bd,bf,bG,bM,cm,Bool.and_eq_true,Bool.or_eq_true,Bool.and_eq_false_iff,Bool.or_eq_false_iff,Bool.not_eq_true',Bool.not_eq_false',decide_eq_true_eq,decide_eq_false_iff_not,bne_iff_ne,beq_iff_eq,bne_eq_false_iff_eq,beq_eq_false_iff_ne]
 simp only[Ty.cq,Ty.has,ku] at h
 (repeat' (first|intro _|constructor))<;>(try (have hm:=dK.1 (by assumption);unfold iQ at hm;omega)))
def DJ:lu:=(2,0,0,uC,0)
def LA:lu:=(0,0,0,uC,0)
def DK(n:Node)(seen:List Seen):lu×Int:=kx (n.2.2.1,n.2.2.2.1,n.2.2.1.2.1,seen)
def Al(m:ao)(n:Node)(o:lu):lu:=bif decide (o.1=3) && !(tN m n.2.2.1 o.2.2.2.1) then DJ else o
def Gy(n:Node)(v:lN):Node:=(n.1,n.2.1,(n.2.2.1.1,n.2.2.1.2.1,n.2.2.1.2.2.1,n.2.2.1.2.2.2.1,v.2.2.1),v,n.2.2.2.2)
def Mg(n:Node)(o:lu):lN:=(mV (n.2.2.2.1,n.2.2.1.2.1,o)).1
def Gt(m:ao)(n:Node)(f:mR):Node:=(n.1,n.2.1,kV m n.2.2.1 f.2.1,n.2.2.2.1,n.2.2.2.2.1,n.2.2.2.2.2.1,n.2.2.2.2.2.2.1,bif decide (f.1=3) then n.2.2.2.2.2.2.2 else(ml n.2.2.2.2.2.2.2 n.2.2.1.2.1 f.2.2.2.2).1)
def zD(n:Node):Node:=bif decide (n.2.1=4) && !(Ht n.2.2.2.1) then(n.1,3,n.2.2) else n
def Md(m:ao)(n:Node)(o:lu):Node:=zD (bif decide (o.1=3) then Gt m (Gy n (Mg n o)) o.2.2.2.1 else Gy n (Mg n o))
def yt(m:ao)(n:Node)(seen:List Seen):Node×lu×Int:=bif decide (bi m n=0) then(bif jK n&&decide (¬n.2.2.1.2.1=n.1) then(bif decide ((DK n seen).2=0) then(Md m n (Al m n (DK n seen).1),Al m n (DK n seen).1,0) else(fo,LA,(DK n seen).2)) else(fo,LA,181)) else(fo,LA,bi m n)
theorem Zt{c:cv}{v:lN}{s:Int}{seen:List Seen}(h:(kx (c,v,s,seen)).2=0):(mV (v,s,(kx (c,v,s,seen)).1)).2=0∧(mV (v,s,DJ)).2=0:=by
 obtain⟨t,p,m,n,x⟩:=c
 obtain⟨a,b,c,d,e,f,g⟩:=v
 refine⟨?_,?_⟩
 ·obtain⟨c',d',e',f',g',e1,_⟩:=BQ h;rw[e1]
 ·obtain⟨h1,h2,h3,h4,_⟩:=sR h
  have hok:=dK.1 h1
  have h3:s<b:=h3
  have h4:s≠a:=h4
  obtain⟨c',f',g',e1,_⟩:=uk hok h2 h3 h4
  have hm:=hok
  unfold iQ at hm
  rw[Di rfl,Ix e1 (show 0≤e by omega) (show e≤1048576 by omega)]
theorem Ks{m:ao}{n:Node}{f:mR}(hn:bi m n=0)(h:tN m n.2.2.1 f=true):(ml n.2.2.2.2.2.2.2 n.2.2.1.2.1 f.2.2.2.2).2=0:=by
 have hd:=bW.1 (aY hn).2
 simp only[tN,Bool.and_eq_true,decide_eq_true_eq] at h
 have hk:=rv h.1
 have hx:=Qu hk.1 hk.2.1 hk.2.2
 have h8:(f.2.2.2.2.length:Int)≤8:=by
  rw[h.2.2]
  by_cases g:(fO m n.2.2.1.2.2.1 n.2.2.1.2.1).1=3
  ·rw[decide_eq_true g];exact(by omega:(0:Int)≤8)
  ·rw[decide_eq_false g];exact hx.2
 have e6:=hd.2.2.2.2.2.1
 rw[ml,hd.2.2.2.1,decide_eq_true (show 0≤n.2.2.1.2.1∧n.2.2.1.2.1≤(n.2.2.2.2.2.2.2.2.2.1.length:Int)-1 by rw[e6];exact hk.2.1),decide_eq_false (show ¬8<(f.2.2.2.2.length:Int) by omega)]
 rfl
theorem KD{m:ao}{n:Node}{o:lu}(h:o.1=3)(h2:tN m n.2.2.1 o.2.2.2.1=false):Al m n o=DJ:=by rw[Al,decide_eq_true h,h2];rfl
theorem Gz{m:ao}{n:Node}{o:lu}(h2:tN m n.2.2.1 o.2.2.2.1=true):Al m n o=o:=by rw[Al,h2,Bool.not_true,Bool.and_false];rfl
theorem Oi{m:ao}{n:Node}{o:lu}(h:¬o.1=3):Al m n o=o:=by rw[Al,decide_eq_false h];rfl
theorem Vj{Y:Type}{step:Y→LT (Node×lu×Int) Y}{n:Node}{o:lu}{b:Bool}(hb:b=Ht n.2.2.2.1):aB step (.br (ah.c .eql n.2.1 4) (.need true (.br (ah.not b) (.ret ((n.1,3,n.2.2),o,0)) (.ret (n,o,0)))) (.ret (n,o,0))) (zD n,o,0):=by
 rw[zD]
 refine aA (p:=n.2.1=4) aO (fun h=>af.2 ⟨rfl,?_⟩) fun h=>ay (by rw[decide_eq_false h];rfl) (.ret _)
 rw[decide_eq_true h,Bool.true_and,←hb]
 cases b
 ·exact(aj rfl).2 (.ret _)
 ·exact(ai rfl).2 (.ret _)
def on4(x:Node):Node:=(x.1,4,x.2.2.1,x.2.2.2.1,x.2.2.2.2.1,false,x.2.2.2.2.2.2)
structure M7 where
 (a0:List Seen) (a1:Int) (a2:ao) (a17:Node)
structure Dc where
 (b0:Int) (b1:ao) (cY:Node) (iX:lu)
structure QY where
 (c14:Node)
structure G9 where
 (d0:ao) (iF:Node) (jF:lu)
structure RR where
 (e14:Node) (e15:lu)
structure PZ where
 (f0:ao) (f15:Node) (f16:lu)
inductive NU where
 | c0 (p:M7)
 | c1 (p:Dc)
 | c2 (p:QY)
 | c3 (p:G9)
 | c4 (p:RR)
 | c5 (p:PZ)
noncomputable def aaO:NU→eF
 | .c0 p=>⟨[⟨14,111,(en [(2,.sl aJ p.a0),(3,.ptr 0 0),(6,.ptr 1 0),(7,.ptr 2 0),(9,.ptr 3 0),(10,vi p.a1)]),[.code (cw Tryz.f14 [1,1,0,0]),.code (cw Tryz.f14 [1,1,0,1]),.code (cw Tryz.f14 [1,1,1])],[],none⟩],[.flat false (dc aP p.a2),.flat false [vi 0,vi 0,vi 0,vi 0,vi 0,vi 0,vi 0,vi 0,vi 0,vi 0,vi 0,vi 0,vi 0,vi 0,vi 0,vb false,vi 0,vi 0,.dq true,.dq true,vi 0,vi 0],.flat false [vi 0,vi 0,vi 0,vi 0,vi 0,vi 0,vi 0,vi 0,vi 0,vi 0,vi 0,.dq true,vi 0],.flat false (dc aF p.a17),.dead]⟩
 | .c1 p=>⟨[⟨14,111,(en [(3,.ptr 0 0),(6,.ptr 1 0),(7,.ptr 2 0),(9,.ptr 3 0),(10,vi p.b0),(11,.ptr 4 0)]),[.code (cw Tryz.f14 [1,1,1,1,0,0]),.code (cw Tryz.f14 [1,1,1,1,0,1]),.code (cw Tryz.f14 [1,1,1,1,1])],[],none⟩],[.flat false (dc aP p.b1),.flat false [vi 0,vi 0,vi 0,vi 0,vi 0,vi 0,vi 0,vi 0,vi 0,vi 0,vi 0,vi 0,vi 0,vi 0,vi 0,vb false,vi 0,vi 0,.dq true,.dq true,vi 0,vi 0],.flat false [vi 0,vi 0,vi 0,vi 0,vi 0,vi 0,vi 0,vi 0,vi 0,vi 0,vi 0,.dq true,vi 0],.flat false (dc aF p.cY),.flat false (dc Fa p.iX),.dead]⟩
 | .c2 p=>⟨[⟨14,111,(en [(6,.ptr 0 0),(7,.ptr 1 0),(9,.ptr 2 0),(11,.ptr 3 0)]),[.code (cw Tryz.f14 [1,1,1,1,1,1,1,1,1,0,0]),.code (cw Tryz.f14 [1,1,1,1,1,1,1,1,1,0,1]),.code (cw Tryz.f14 [1,1,1,1,1,1,1,1,1,1])],[],none⟩],[.flat false [vi 0,vi 0,vi 0,vi 0,vi 0,vi 0,vi 0,vi 0,vi 0,vi 0,vi 0,vi 0,vi 0,vi 0,vi 0,vb false,vi 0,vi 0,.dq true,.dq true,vi 0,vi 0],.flat false [vi 0,vi 0,vi 0,vi 0,vi 0,vi 0,vi 0,vi 0,vi 0,vi 0,vi 0,.dq true,vi 0],.flat false (dc aF p.c14),.flat false [vi 2,vi 0,vi 0,vi 0,vi 0,vi 0,vi 0,vi 0,vi 0,vi 0,vi 0,.dq true,vi 0],.dead]⟩
 | .c3 p=>⟨[⟨14,111,(en [(3,.ptr 0 0),(6,.ptr 1 0),(7,.ptr 2 0),(9,.ptr 3 0),(11,.ptr 4 0)]),[.code (cw Tryz.f14 [1,1,1,1,1,1,1,1,0,1,0,0,0]),.code (cw Tryz.f14 [1,1,1,1,1,1,1,1,0,1,0,0,1]),.code (cw Tryz.f14 [1,1,1,1,1,1,1,1,0,1,0,1]),.code (cw Tryz.f14 [1,1,1,1,1,1,1,1,1])],[],none⟩],[.flat false (dc aP p.d0),.flat false [vi 0,vi 0,vi 0,vi 0,vi 0,vi 0,vi 0,vi 0,vi 0,vi 0,vi 0,vi 0,vi 0,vi 0,vi 0,vb false,vi 0,vi 0,.dq true,.dq true,vi 0,vi 0],.flat false [vi 0,vi 0,vi 0,vi 0,vi 0,vi 0,vi 0,vi 0,vi 0,vi 0,vi 0,.dq true,vi 0],.flat false (dc aF p.iF),.flat false (dc Fa p.jF),.dead]⟩
 | .c4 p=>⟨[⟨14,111,(en [(6,.ptr 0 0),(7,.ptr 1 0),(9,.ptr 2 0),(11,.ptr 3 0)]),[.code (cw Tryz.f14 [1,1,1,1,1,1,1,1,1,0,0]),.code (cw Tryz.f14 [1,1,1,1,1,1,1,1,1,0,1]),.code (cw Tryz.f14 [1,1,1,1,1,1,1,1,1,1])],[],none⟩],[.flat false [vi 0,vi 0,vi 0,vi 0,vi 0,vi 0,vi 0,vi 0,vi 0,vi 0,vi 0,vi 0,vi 0,vi 0,vi 0,vb false,vi 0,vi 0,.dq true,.dq true,vi 0,vi 0],.flat false [vi 0,vi 0,vi 0,vi 0,vi 0,vi 0,vi 0,vi 0,vi 0,vi 0,vi 0,.dq true,vi 0],.flat false (dc aF p.e14),.flat false (dc Fa p.e15),.dead]⟩
 | .c5 p=>⟨[⟨14,111,(en [(3,.ptr 0 0),(6,.ptr 1 0),(7,.ptr 2 0),(9,.ptr 3 0),(11,.ptr 4 0)]),[.code (cw Tryz.f14 [1,1,1,1,1,1,1,1,0,1,0,1]),.code (cw Tryz.f14 [1,1,1,1,1,1,1,1,1])],[],none⟩],[.flat false (dc aP p.f0),.flat false [vi 0,vi 0,vi 0,vi 0,vi 0,vi 0,vi 0,vi 0,vi 0,vi 0,vi 0,vi 0,vi 0,vi 0,vi 0,vb false,vi 0,vi 0,.dq true,.dq true,vi 0,vi 0],.flat false [vi 0,vi 0,vi 0,vi 0,vi 0,vi 0,vi 0,vi 0,vi 0,vi 0,vi 0,.dq true,vi 0],.flat false (dc aF p.f15),.flat false (dc Fa p.f16),.dead]⟩
def ZP(A:aK)(m:ao)(n:Node)(seen:List Seen):LT (Node×lu×Int) NU:=.need (A.k (@tt Node) n) (.br (A.k fv n) (.need (A.k (@tt (ao×Node×Bool)) (m,n,(A.c .neq n.2.2.1.2.1 n.1))) (.need (A.k (@tt (ao×Node×Bool)) (m,n,(A.c .neq n.2.2.1.2.1 n.1))) (.eqs (((A.k fv n):Bool)=true) (.need (A.k (@tt Node) n) (.more (.c0 ⟨seen,(A.k gx (m,n,(A.c .neq n.2.2.1.2.1 n.1))).2,m,(A.k gx (m,n,(A.c .neq n.2.2.1.2.1 n.1))).1⟩)))))) (.need (A.k (@tt (ao×Node×Bool)) (m,n,false)) (.need (A.k (@tt (ao×Node×Bool)) (m,n,false)) (.eqs (((A.k fv n):Bool)=false) (.need (A.k (@tt Node) n) (.more (.c0 ⟨seen,(A.k gx (m,n,false)).2,m,(A.k gx (m,n,false)).1⟩)))))))
abbrev J3(A:aK)(p:Dc):LT (Node×lu×Int) NU:=(.need (A.k (@tt ((Int×Int×Int×Int×Int×Int×Int)×Int×(Int×Int×Int×(Int×Int×(Int×Int×Int×Int×Int)×Int×List Int)×Int))) (p.cY.2.2.2.1,p.cY.2.2.1.2.1,p.iX)) (.br (A.c .neq (A.k mV (p.cY.2.2.2.1,p.cY.2.2.1.2.1,p.iX)).2 0) (.ret ((0,0,(0,0,0,0,0),(0,0,0,0,0,0,0),0,false,0,0,([]:List Int),([]:List dx),0,0),(0,0,0,(0,0,(0,0,0,0,0),0,([]:List Int)),0),(A.k mV (p.cY.2.2.2.1,p.cY.2.2.1.2.1,p.iX)).2)) (.br (A.c .eql p.iX.1 3) (.more (.c3 ⟨p.b1,(p.cY.1,p.cY.2.1,(p.cY.2.2.1.1,p.cY.2.2.1.2.1,p.cY.2.2.1.2.2.1,p.cY.2.2.1.2.2.2.1,(A.k mV (p.cY.2.2.2.1,p.cY.2.2.1.2.1,p.iX)).1.2.2.1),(A.k mV (p.cY.2.2.2.1,p.cY.2.2.1.2.1,p.iX)).1,p.cY.2.2.2.2),p.iX⟩)) (.more (.c4 ⟨(p.cY.1,p.cY.2.1,(p.cY.2.2.1.1,p.cY.2.2.1.2.1,p.cY.2.2.1.2.2.1,p.cY.2.2.1.2.2.2.1,(A.k mV (p.cY.2.2.2.1,p.cY.2.2.1.2.1,p.iX)).1.2.2.1),(A.k mV (p.cY.2.2.2.1,p.cY.2.2.1.2.1,p.iX)).1,p.cY.2.2.2.2),p.iX⟩)))))
abbrev xG(A:aK)(p:Dc):=(A.k mV (p.cY.2.2.2.1,p.cY.2.2.1.2.1,2,0,0,(0,0,(0,0,0,0,0),0,([]:List Int)),0))
abbrev JS(A:aK)(p:G9):=(A.k (@tt (cJ×Int×List Int)) (p.iF.2.2.2.2.2.2.2,p.iF.2.2.1.2.1,p.jF.2.2.2.1.2.2.2.2))
def sJ(A:aK):NU→LT (Node×lu×Int) NU
 | .c0 p=>.br (A.c .neq p.a1 0) (.ret ((0,0,(0,0,0,0,0),(0,0,0,0,0,0,0),0,false,0,0,([]:List Int),([]:List dx),0,0),(0,0,0,(0,0,(0,0,0,0,0),0,([]:List Int)),0),p.a1)) (.need (A.k (@tt ((Int×Int×Int×Int×Int)×(Int×Int×Int×Int×Int×Int×Int)×Int×List (Int×Int×(Int×List Int)))) (p.a17.2.2.1,p.a17.2.2.2.1,p.a17.2.2.1.2.1,p.a0)) (.more (.c1 ⟨(A.k YW (p.a17.2.2.1,p.a17.2.2.2.1,p.a17.2.2.1.2.1,p.a0)).2,p.a2,p.a17,(A.k YW (p.a17.2.2.1,p.a17.2.2.2.1,p.a17.2.2.1.2.1,p.a0)).1⟩)))
 | .c1 p=>.br (A.c .neq p.b0 0) (.ret ((0,0,(0,0,0,0,0),(0,0,0,0,0,0,0),0,false,0,0,([]:List Int),([]:List dx),0,0),(0,0,0,(0,0,(0,0,0,0,0),0,([]:List Int)),0),p.b0)) (.br (A.c .eql p.iX.1 3) (.need (A.k (@tt (ao×cv×mR)) (p.b1,p.cY.2.2.1,p.iX.2.2.2.1)) (.br (A.not (A.k Kj (p.b1,p.cY.2.2.1,p.iX.2.2.2.1))) (.need (A.k (@tt ((Int×Int×Int×Int×Int×Int×Int)×Int×(Int×Int×Int×(Int×Int×(Int×Int×Int×Int×Int)×Int×List Int)×Int))) (p.cY.2.2.2.1,p.cY.2.2.1.2.1,2,0,0,(0,0,(0,0,0,0,0),0,([]:List Int)),0)) (.br (A.c .neq (xG A p).2 0) (.ret ((0,0,(0,0,0,0,0),(0,0,0,0,0,0,0),0,false,0,0,([]:List Int),([]:List dx),0,0),(0,0,0,(0,0,(0,0,0,0,0),0,([]:List Int)),0),(xG A p).2)) (.more (.c2 ⟨(p.cY.1,p.cY.2.1,(p.cY.2.2.1.1,p.cY.2.2.1.2.1,p.cY.2.2.1.2.2.1,p.cY.2.2.1.2.2.2.1,(xG A p).1.2.2.1),(xG A p).1,p.cY.2.2.2.2)⟩)))) (J3 A p))) (J3 A p))
 | .c2 p=>.br (A.c .eql p.c14.2.1 4) (.need (A.k (@tt lN) p.c14.2.2.2.1) (.br (A.not (A.k Ht p.c14.2.2.2.1)) (.ret ((p.c14.1,3,p.c14.2.2),(2,0,0,(0,0,(0,0,0,0,0),0,([]:List Int)),0),0)) (.ret (p.c14,(2,0,0,(0,0,(0,0,0,0,0),0,([]:List Int)),0),0)))) (.ret (p.c14,(2,0,0,(0,0,(0,0,0,0,0),0,([]:List Int)),0),0))
 | .c3 p=>.br (A.c .neq p.jF.2.2.2.1.1 3) (.need (JS A p) (.need (JS A p) (.br (A.c .eql (A.k wH (p.iF.2.2.2.2.2.2.2,p.iF.2.2.1.2.1,p.jF.2.2.2.1.2.2.2.2)).2 0) (.more (.c5 ⟨p.d0,(p.iF.1,p.iF.2.1,p.iF.2.2.1,p.iF.2.2.2.1,p.iF.2.2.2.2.1,p.iF.2.2.2.2.2.1,p.iF.2.2.2.2.2.2.1,(A.k wH (p.iF.2.2.2.2.2.2.2,p.iF.2.2.1.2.1,p.jF.2.2.2.1.2.2.2.2)).1),p.jF⟩)) (.more (.c5 ⟨p.d0,p.iF,p.jF⟩))))) (.more (.c5 ⟨p.d0,p.iF,p.jF⟩))
 | .c4 p=>.br (A.c .eql p.e14.2.1 4) (.need (A.k (@tt lN) p.e14.2.2.2.1) (.br (A.not (A.k Ht p.e14.2.2.2.1)) (.ret ((p.e14.1,3,p.e14.2.2),p.e15,0)) (.ret (p.e14,p.e15,0)))) (.ret (p.e14,p.e15,0))
 | .c5 p=>.need (A.k (@tt (ao×cv×Int)) (p.f0,p.f15.2.2.1,p.f16.2.2.2.1.2.1)) (.need (A.k (@tt (ao×cv×Int)) (p.f0,p.f15.2.2.1,p.f16.2.2.2.1.2.1)) (.br (A.c .eql (A.k qJ (p.f0,p.f15.2.2.1,p.f16.2.2.2.1.2.1)).2 0) (.more (.c4 ⟨(p.f15.1,p.f15.2.1,(A.k qJ (p.f0,p.f15.2.2.1,p.f16.2.2.2.1.2.1)).1,p.f15.2.2.2),p.f16⟩)) (.more (.c4 ⟨p.f15,p.f16⟩))))
theorem GH{p:RR}:aB (sJ ah) (.more (.c4 p)) (zD p.e14,p.e15,0):=by
 rw[ak,sJ];exact Vj rfl
theorem XL{p:QY}:aB (sJ ah) (.more (.c2 p)) (zD p.c14,DJ,0):=by
 rw[ak,sJ];exact Vj rfl
theorem Mr{p:PZ}:aB (sJ ah) (.more (.c5 p)) (zD (p.f15.1,p.f15.2.1,kV p.f0 p.f15.2.2.1 p.f16.2.2.2.1.2.1,p.f15.2.2.2),p.f16,0):=by
 rw[ak,sJ,kV]
 refine af.2 ⟨rfl,af.2 ⟨rfl,?_⟩⟩
 rw[show ∀x,ah.k qJ x=xq x.1 x.2.1 x.2.2 from fun _=>rfl]
 refine aA (p:=(xq p.f0 p.f15.2.2.1 p.f16.2.2.2.1.2.1).2=0) aO (fun g=>?_) fun g=>?_
 ·rw[decide_eq_true g];exact GH
 ·rw[decide_eq_false g];exact GH
theorem aai{p:G9}(h:(ml p.iF.2.2.2.2.2.2.2 p.iF.2.2.1.2.1 p.jF.2.2.2.1.2.2.2.2).2=0):aB (sJ ah) (.more (.c3 p)) (zD (Gt p.d0 p.iF p.jF.2.2.2.1),p.jF,0):=by
 rw[ak,sJ,Gt]
 refine aA (p:=¬p.jF.2.2.2.1.1=3) aT (fun g=>af.2 ⟨rfl,af.2 ⟨rfl,?_⟩⟩) fun g=>?_
 ·rw[decide_eq_false g,show ∀x,ah.k wH x=ml x.1 x.2.1 x.2.2 from fun _=>rfl]
  exact(aj (Qy h)).2 Mr
 ·rw[decide_eq_true (Decidable.not_not.1 g)];exact Mr
theorem aak{p:Dc}{m:ao}{n:Node}{S:lu×Int}(h0:p.b0=S.2)(h1:p.b1=m)(h2:p.cY=n)(h3:p.iX=S.1)(hn:bi m n=0)(ha:S.2=0→(mV (n.2.2.2.1,n.2.2.1.2.1,S.1)).2=0∧(mV (n.2.2.2.1,n.2.2.1.2.1,DJ)).2=0):aB (sJ ah) (.more (.c1 p)) (bif decide (S.2=0) then(Md m n (Al m n S.1),Al m n S.1,0) else(fo,LA,S.2)):=by
 subst h1 h2
 rw[ak,sJ,h0,h3]
 refine aA (p:=¬S.2=0) aT (fun g=>ay (by rw[decide_eq_false g];rfl) (.ret _)) fun g=>?_
 have g:=Decidable.not_not.1 g
 obtain⟨a1,a2⟩:=ha g
 rw[decide_eq_true g,cond_true]
 rw[show ah.k Kj (p.b1,p.cY.2.2.1,S.1.2.2.2.1)=tN p.b1 p.cY.2.2.1 S.1.2.2.2.1 from rfl]
 have e1:ah.c .neq (ah.k mV (p.cY.2.2.2.1,p.cY.2.2.1.2.1,S.1)).2 0=false:=by rw[au,a1];rfl
 have e2:ah.c .neq (ah.k mV (p.cY.2.2.2.1,p.cY.2.2.1.2.1,2,0,0,(0,0,(0,0,0,0,0),0,([]:List Int)),0)).2 0=false:=by rw[au];unfold DJ uC at a2;rw[a2];rfl
 refine aA (p:=S.1.1=3) aO (fun k=>af.2 ⟨rfl,?_⟩) fun k=>af.2 ⟨rfl,(ai e1).2 ((ai (by rw[aO];exact decide_eq_false k)).2 ?_)⟩
 ·cases hl:tN p.b1 p.cY.2.2.1 S.1.2.2.2.1
  ·refine(aj rfl).2 (af.2 ⟨rfl,(ai e2).2 ?_⟩)
   rw[KD k hl];exact XL (p:=⟨Gy p.cY (Mg p.cY DJ)⟩)
  ·refine(ai rfl).2 (af.2 ⟨rfl,(ai e1).2 ((aj (by rw[aO];exact decide_eq_true k)).2 ?_)⟩)
   rw[Gz hl,Md,decide_eq_true k]
   have hv:=Ks hn hl
   exact aai (p:=⟨p.b1,Gy p.cY (Mg p.cY S.1),S.1⟩) hv
 ·rw[Oi k,Md,decide_eq_false k];exact GH (p:=⟨Gy p.cY (Mg p.cY S.1),S.1⟩)
theorem ais{m:ao}{n:Node}{seen:List Seen}:aB (sJ ah) (ZP ah m n seen) (yt m n seen):=by
 unfold ZP yt
 rw[show ah.k fv n=jK n from rfl]
 refine af.2 ⟨rfl,?_⟩
 have no:∀q:M7,q.a1=(ia m n false).2→aB (sJ ah) (.more (.c0 q)) (bif decide (bi m n=0) then(fo,LA,181) else(fo,LA,bi m n)):=fun q hq=>by
  rw[ak,sJ,hq,ia]
  by_cases h:bi m n=0
  ·rw[decide_eq_true h];exact(aj rfl).2 (.ret _)
  ·rw[decide_eq_false h];exact(aj (qj h)).2 (.ret _)
 cases hi:jK n
 ·exact(ai rfl).2 (af.2 ⟨rfl,af.2 ⟨rfl,tX.2 ⟨rfl,af.2 ⟨rfl,no _ rfl⟩⟩⟩⟩)
 ·refine(aj rfl).2 (af.2 ⟨rfl,af.2 ⟨rfl,tX.2 ⟨rfl,af.2 ⟨rfl,?_⟩⟩⟩⟩)
  rw[show ∀w,ah.k gx (m,n,w)=ia m n w from fun _=>rfl,aT,Bool.true_and]
  by_cases hp:n.2.2.1.2.1=n.1
  ·rw[decide_eq_false (show ¬¬n.2.2.1.2.1=n.1 from fun k=>k hp)];exact no _ rfl
  ·rw[decide_eq_true hp,cond_true]
   by_cases h:bi m n=0
   ·have e:ia m n true=(n,0):=by rw[ia,decide_eq_true h];rfl
    rw[decide_eq_true h,e,cond_true,ak,sJ]
    exact(ai rfl).2 (af.2 ⟨rfl,aak (S:=DK n seen) rfl rfl rfl rfl h fun g=>Zt (c:=n.2.2.1) (v:=n.2.2.2.1) (s:=n.2.2.1.2.1) (seen:=seen) g⟩)
   ·have:=no ⟨seen,(ia m n true).2,m,(ia m n true).1⟩ (by rw[ia,ia,decide_eq_false h];rfl)
    rw[decide_eq_false h] at this ⊢
    exact this
def EX:(ao×Node×List Seen)→(Node×lu×Int):=fun(m,c,k)=>yt m c k
def acE:aC:=⟨[aP,aF,(.slice aJ)], [aF,Fa,yI],(@tt (ao×Node×List Seen)),EX⟩
theorem acu:Sd 14 acE:=aU ar bU true 38 [] [⟨14,2, [[2,3,6,7,9,10]]⟩,⟨14,5, [[3,6,7,9,10,11]]⟩,⟨14,14, [[3,6,7,9,11]]⟩,⟨14,16, [[3,6,7,9,11]]⟩,⟨14,17, [[6,7,9,11]]⟩] (fun A (m,n,seen)=>ZP A m n seen) sJ aaO (fc Tryz.func14 (fc Tryz.func52 (fc Tryz.func53 fz))) (sc agP (sc ahW (sc aih (sc rN (sc wI (sc VS (sc VP (sc OC sz)))))))) (fun A y=>match y with |.c0 p=>⟨31,by kernel_rfl,by kernel_rfl⟩|.c1 p=>⟨76,by kernel_rfl,by kernel_rfl⟩|.c2 p=>⟨29,by kernel_rfl,by kernel_rfl⟩|.c3 p=>⟨56,by kernel_rfl,by kernel_rfl⟩|.c4 p=>⟨29,by kernel_rfl,by kernel_rfl⟩|.c5 p=>⟨48,by kernel_rfl,by kernel_rfl⟩) fun(m,n,seen) hp h=>ais
end
end Go.Ev.M
