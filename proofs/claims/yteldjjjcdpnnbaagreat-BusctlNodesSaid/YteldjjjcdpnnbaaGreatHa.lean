/-
  PROVED: what medl.Check and metronomeref07.Check compute. Conditions: none.
-/
import Derived.Test.YteldjjjcdpnnbaaGreatFc
namespace Go.Ev.M
open Go.Proofs
set_option maxRecDepth 100000
set_option linter.unusedVariables false
set_option linter.unusedSimpArgs false
open Go.Ev.Pl
abbrev sM:Ty:=(.struct [yI,yI,yI,yI,yI])
abbrev eF:Type:=Int×Int×Int×Int×Int
abbrev Uw:Ty:=(.struct [yI,yI,yI,yI,yI,yI,yI])
abbrev B9:Type:=Int×Int×Int×Int×Int×Int×Int
abbrev R4:Ty:=(.struct [yI,yB])
abbrev Bits:Type:=Int×List Int
abbrev Jp:Ty:=(.struct [yI,yI,sM,yI,yB])
abbrev rI:Type:=Int×Int×eF×Int×List Int
abbrev jj:Ty:=(.struct [yI,yI,R4])
abbrev Seen:Type:=Int×Int×Bits
abbrev bi:Ty:=(.struct [QO,(.slice .bool),(.slice .bool)])
abbrev Mode:Type:=List Int×List Bool×List Bool
abbrev bW:Ty:=(.struct [yI,yI,yI,yI,yI,yI,(.slice .bool),(.slice bi)])
abbrev au:Type:=Int×Int×Int×Int×Int×Int×List Bool×List Mode
abbrev bl:Ty:=(.struct [yB,yI])
abbrev bu:Type:=List Int×Int
abbrev gv:Ty:=(.struct [yI,yB,(.slice bl),yI,yI])
abbrev bP:Type:=Int×List Int×List bu×Int×Int
abbrev du:Ty:=(.struct [yI,yI,sM,Uw,yI,.bool,yI,gv])
abbrev Node:Type:=Int×Int×eF×B9×Int×Bool×Int×bP
abbrev HZ:Ty:=(.struct [yI,yI,yI,yI,yI,yB])
abbrev yz:Type:=Int×Int×Int×Int×Int×List Int
def Eu(A:bg)(n:Int)(least:Int)(most:Int):LT Bool Empty:=.br (A.c .geq n least) (.ret (A.c .leq n most)) (.ret false)
def dh:(Int×Int×Int)→Bool:=fun(n,least,most)=>(Eu ai n least most).val (Ty.da [.bool])
def QJ:aB:=⟨[yI,yI,yI], [.bool],(@tt (Int×Int×Int)),dh⟩
theorem xv:Sd 143 QJ:=aJ ar cO true 22 [] (fun A (n,least,most)=>Eu A n least most) (fc Tryz.func143 fz) sz (fun((n,least,most):Int×Int×Int) hp h=>by
 show(Eu ai n least most).pre=true
 simp[Eu,LT.pre,ap,dI])
theorem iK{x a b:Int}:dh (x,a,b)=(decide (a≤x)&&decide (x≤b)):=by
 simp only[dh,Eu,LT.val,aK,aF]
 cases decide (a≤x)<;>rfl
theorem NQ{α:Type}{x y:α}:(bif true then x else y)=x:=rfl
theorem n_{l:List Bool}{i:Nat}(h:i<l.length):(ai.n .bool l (i:Int):Bool)=l[i]:=getD_in h _
theorem GX{l:List Int}{i:Nat}(h:i<l.length):(ai.n (.int .i64) l (i:Int):Int)=l[i]:=getD_in h _
theorem fy{α:Type}{l:List α}:ai.l l=(l.length:Int):=rfl
theorem iP{n s g w d de:Int}{cold:List Bool}{modes:List Mode}(h:Ty.has bW (n,s,g,w,d,de,cold,modes)):(-9223372036854775808≤n∧n≤9223372036854775807)∧cold.length≤140737488355328∧modes.length≤140737488355328∧∀x∈modes,x.1.length≤140737488355328∧x.2.1.length≤140737488355328∧∀d∈x.1,IntKind.i64.has d:=by
 obtain⟨h1,_,_,_,_,_,h2,h3⟩:=h
 exact⟨h1,h2.1,h3.1,fun x hx=>⟨(h3.2 x hx).1.1,(h3.2 x hx).2.1.1,(h3.2 x hx).1.2⟩⟩
structure JO where
 (a1:List Bool) (a2 a4 a5 a6 a7 a8 a9:Int) (cf:List Bool) (dR:List Mode)
inductive EU where
 | c0 (p:JO) (a0:Int) (a3:Int)
noncomputable def I9:EU→fE
 | .c0 p a0 a3=>⟨[⟨139,38,(en [(1,.ptr 0 0),(3,vi a0),(7,.sl .bool p.a1),(8,vi p.a2),(9,vi a3)]),[.inLoop (cw Tryz.f139 [1,1,0,1,0,0]),.inBlock 0,.code (cw Tryz.f139 [1,1,1])],[],none⟩],[.flat false [vi p.a4,vi p.a5,vi p.a6,vi p.a7,vi p.a8,vi p.a9,.sl .bool p.cf,.sl bi p.dR],.dead]⟩
def t154(A:bg)(mNodes:Int)(mSlot:Int)(mGap:Int)(mWindow:Int)(mDrift:Int)(mDelay:Int)(mCold:List Bool)(mModes:List Mode):LT Bool EU:=.more (.c0 ⟨mCold,(A.l mCold),mNodes,mSlot,mGap,mWindow,mDrift,mDelay,mCold,mModes⟩ 0 0)
def Dp(A:bg):EU→LT Bool EU
 | .c0 p a0 a3=>.br (A.c .lss a3 p.a2) (.need (A.and (A.c .leq 0 a3) (A.c .lss a3 (A.l p.a1))) (.br (A.n .bool p.a1 a3:Bool) (.more (.c0 p (A.b .add .i64 a0 1) (A.b .add .i64 a3 1))) (.more (.c0 p a0 (A.b .add .i64 a3 1))))) (.need (A.k (@tt (Int×Int×Int)) (p.a4,4,8)) (.br (A.k dh (p.a4,4,8)) (.need (A.k (@tt (Int×Int×Int)) ((A.l p.dR),1,4)) (.br (A.k dh ((A.l p.dR),1,4)) (.br (A.c .eql (A.l p.cf) p.a4) (.ret (A.c .geq a0 2)) (.ret false)) (.ret false))) (.ret false)))
def countB(m:au):Bool:=dh (m.1,4,8)&&dh ((m.2.2.2.2.2.2.2.length:Int),1,4)&&((m.2.2.2.2.2.2.1.length:Int)==m.1)&&decide (2≤(m.2.2.2.2.2.2.1.count true:Int))
theorem LZ{n s g w d de:Int}{cold:List Bool}{modes:List Mode}(hl:cold.length≤140737488355328):∀(j i c:Nat),cold.length-i=j→i≤cold.length→c≤i→
  aC (Dp ai) (.more (.c0 ⟨cold,(cold.length:Int),n,s,g,w,d,de,cold,modes⟩ (c:Int) (i:Int))) (dh (n,4,8)&&dh ((modes.length:Int),1,4)&&((cold.length:Int)==n)&&decide (2≤((c+(cold.drop i).count true:Nat):Int))):=by
 intro j
 induction j with
 | zero=>
   intro i c hj hi hc
   have:i=cold.length:=by omega
   subst this
   rw[ak,Dp]
   refine(ah (by rw[aI];simp)).2 ?_
   rw[List.drop_length]
   simp only[af,ap,dI,true_and]
   cases dh (n,4,8)
   ·exact(ah rfl).2 (.ret _)
   refine(aj rfl).2 ?_
   simp only[af,ap,dI,true_and,fy]
   cases dh ((modes.length:Int),1,4)
   ·exact(ah rfl).2 (.ret _)
   refine(aj rfl).2 ?_
   rw[aR]
   cases ((cold.length:Int)==n)
   ·exact(ah rfl).2 (.ret _)
   refine(aj rfl).2 ?_
   rw[aK]
   exact .ret _
 | succ j ih=>
   intro i c hj hi hc
   have hi':i<cold.length:=by omega
   rw[ak,Dp]
   refine(aj (by rw[aI];simp;omega)).2 (af.2 ⟨aL hi',?_⟩)
   rw[List.drop_eq_getElem_cons hi',List.count_cons]
   cases hb:cold[i]
   ·refine(ah ((n_ hi').trans hb)).2 ?_
    refine aZ (congrArg (fun z=>LT.more (EU.c0 _ _ z)) (cK (by omega))) (ao ?_ (ih (i+1) c (by omega) (by omega) (by omega)))
    simp
   ·refine(aj ((n_ hi').trans hb)).2 ?_
    rw[cK (i:=c) (by omega),cK (i:=i) (by omega)]
    refine ao ?_ (ih (i+1) (c+1) (by omega) (by omega) (by omega))
    simp[Nat.add_assoc,Nat.add_comm 1]
theorem Jo{n s g w d de:Int}{cold:List Bool}{modes:List Mode}(h:Ty.has bW (n,s,g,w,d,de,cold,modes)):aC (Dp ai) (t154 ai n s g w d de cold modes) (countB (n,s,g,w,d,de,cold,modes)):=
 ao (by simp[countB]) (LZ (iP h).2.1 cold.length 0 0 rfl (by omega) (by omega))
def E9:au→Bool:=countB
def Nx:aB:=⟨[bW], [.bool],(@tt au),E9⟩
theorem Rc:Sd 139 Nx:=aH ar cO true 25 [⟨139,3, [[1,3,7,8,9]]⟩] [] (fun A (mNodes,mSlot,mGap,mWindow,mDrift,mDelay,mCold,mModes)=>t154 A mNodes mSlot mGap mWindow mDrift mDelay mCold mModes) Dp I9 (fc Tryz.func139 fz) (sc xv sz) (fun A y=>match y with |.c0 p a0 a3=>⟨38,by kernel_rfl,by kernel_rfl⟩) fun(mNodes,mSlot,mGap,mWindow,mDrift,mDelay,mCold,mModes) hp h=>Jo h
structure KW where
 (a0:List Int) (a1 a3 a4 a5 a6 a7 a8:Int) (a9:List Bool) (cf:List Mode) (dR:List Int) (a12 nf:List Bool)
inductive BX where
 | c0 (p:KW) (a2:Int)
noncomputable def L0:BX→fE
 | .c0 p a2=>⟨[⟨142,57,(en [(2,.ptr 0 0),(3,.ptr 1 0),(31,.sl yI p.a0),(32,vi p.a1),(33,vi a2)]),[.inLoop (cw Tryz.f142 [1,1,0,1,0,0]),.inBlock 0,.code (cw Tryz.f142 [1,1,1])],[],none⟩],[.flat false [vi p.a3,vi p.a4,vi p.a5,vi p.a6,vi p.a7,vi p.a8,.sl .bool p.a9,.sl bi p.cf],.flat false [.sl yI p.dR,.sl .bool p.a12,.sl .bool p.nf],.dead]⟩
def t157(A:bg)(mNodes:Int)(mSlot:Int)(mGap:Int)(mWindow:Int)(mDrift:Int)(mDelay:Int)(mCold:List Bool)(mModes:List Mode)(xData:List Int)(xExplicit:List Bool)(xNext:List Bool):LT Bool BX:=.br (A.c .neq (A.l xData) mNodes) (.ret false) (.br (A.c .neq (A.l xExplicit) mNodes) (.ret false) (.br (A.c .neq (A.l xNext) (A.l mModes)) (.ret false) (.more (.c0 ⟨xData,(A.l xData),mNodes,mSlot,mGap,mWindow,mDrift,mDelay,mCold,mModes,xData,xExplicit,xNext⟩ 0))))
def AY(A:bg):BX→LT Bool BX
 | .c0 p a2=>.br (A.c .lss a2 p.a1) (.need (A.and (A.c .leq 0 a2) (A.c .lss a2 (A.l p.a0))) (.need (A.k (@tt (Int×Int×Int)) ((A.n yI p.a0 a2:Int),0,8)) (.br (A.not (A.k dh ((A.n yI p.a0 a2:Int),0,8))) (.ret false) (.need (A.and (A.c .leq 0 a2) (A.c .lss a2 (A.l p.a9))) (.br (A.n .bool p.a9 a2:Bool) (.need (A.and (A.c .leq 0 a2) (A.c .lss a2 (A.l p.a12))) (.br (A.not (A.n .bool p.a12 a2:Bool)) (.ret false) (.more (.c0 p (A.b .add .i64 a2 1))))) (.more (.c0 p (A.b .add .i64 a2 1)))))))) (.ret true)
def lV:List Int→List Bool→List Bool→Bool
 | d::ds,c::cs,e::es=>(decide (0≤d)&&decide (d≤8))&&(!c||e)&&lV ds cs es
 | _,_,_=>true
def gz(m:au)(x:Mode):Bool:=((x.1.length:Int)==m.1)&&((x.2.1.length:Int)==m.1)&&(x.2.2.length==m.2.2.2.2.2.2.2.length)&&lV x.1 m.2.2.2.2.2.2.1 x.2.1
theorem NN{n s g w d de:Int}{cold expl next:List Bool}{modes:List Mode}{data:List Int}(hl:data.length≤140737488355328)(hc:cold.length=data.length)(he:expl.length=data.length):∀(j i:Nat),data.length-i=j→i≤data.length→
  aC (AY ai) (.more (.c0 ⟨data,(data.length:Int),n,s,g,w,d,de,cold,modes,data,expl,next⟩ (i:Int))) (lV (data.drop i) (cold.drop i) (expl.drop i)):=by
 intro j
 induction j with
 | zero=>
   intro i hj hi
   have:i=data.length:=by omega
   subst this
   rw[ak,AY]
   refine(ah (by rw[aI];simp)).2 ?_
   rw[List.drop_length]
   exact .ret _
 | succ j ih=>
   intro i hj hi
   have hi':i<data.length:=by omega
   rw[ak,AY]
   refine(aj (by rw[aI];simp;omega)).2 (af.2 ⟨aL hi',af.2 ⟨rfl,?_⟩⟩)
   rw[List.drop_eq_getElem_cons hi',List.drop_eq_getElem_cons (show i<cold.length by omega),List.drop_eq_getElem_cons (show i<expl.length by omega),lV]
   have hm:=ih (i+1) (by omega) (by omega)
   have hw:ai.k dh ((ai.n (.int .i64) data (i:Int):Int),0,8)=(decide (0≤data[i])&&decide (data[i]≤8)):=by
    rw[ap,GX hi',iK]
   cases hw':(decide (0≤data[i])&&decide (data[i]≤8))
   ·exact(aj (by rw[hw,hw'];rfl)).2 (.ret _)
   refine(ah (by rw[hw,hw'];rfl)).2 (af.2 ⟨aL (show i<cold.length by omega),?_⟩)
   cases hcb:cold[i]
   ·refine(ah ((n_ (show i<cold.length by omega)).trans hcb)).2 ?_
    exact aZ (congrArg (fun z=>LT.more (BX.c0 _ z)) (cK (by omega))) hm
   ·refine(aj ((n_ (show i<cold.length by omega)).trans hcb)).2 (af.2 ⟨aL (show i<expl.length by omega),?_⟩)
    cases heb:expl[i]
    ·exact(aj (by rw[n_ (show i<expl.length by omega),heb];rfl)).2 (.ret _)
    ·refine(ah (by rw[n_ (show i<expl.length by omega),heb];rfl)).2 ?_
     exact aZ (congrArg (fun z=>LT.more (BX.c0 _ z)) (cK (by omega))) hm
theorem R5{n s g w d de:Int}{cold expl next:List Bool}{modes:List Mode}{data:List Int}(hl:data.length≤140737488355328)(hc:(cold.length:Int)=n) :
  aC (AY ai) (t157 ai n s g w d de cold modes data expl next) (gz (n,s,g,w,d,de,cold,modes) (data,expl,next)):=by
 unfold t157 gz
 simp only[fy]
 by_cases h1:(data.length:Int)=n
 ·refine(ah (cn h1)).2 ?_
  by_cases h2:(expl.length:Int)=n
  ·refine(ah (cn h2)).2 ?_
   by_cases h3:(next.length:Int)=modes.length
   ·refine(ah (cn h3)).2 (ao ?_ (NN hl (by omega) (by omega) data.length 0 rfl (by omega)))
    rw[beq_iff_eq.2 h1,beq_iff_eq.2 h2,beq_iff_eq.2 (show next.length=modes.length by omega)];rfl
   ·refine(aj (dX h3)).2 (ao ?_ (.ret _))
    rw[beq_eq_false_iff_ne.2 (show next.length≠modes.length by omega),Bool.and_false,Bool.false_and]
  ·refine(aj (dX h2)).2 (ao ?_ (.ret _))
   rw[beq_eq_false_iff_ne.2 h2,Bool.and_false];rfl
 ·refine(aj (dX h1)).2 (ao ?_ (.ret _))
  rw[beq_eq_false_iff_ne.2 h1];rfl
def zX:(au×Mode)→Bool:=fun(m,x)=>gz m x
def yO:(au×Mode)→Bool:=fun(m,_)=>(m.2.2.2.2.2.2.1.length:Int)==m.1
def Rm:aB:=⟨[bW,bi], [.bool],yO,zX⟩
theorem S7:Sd 142 Rm:=aH ar cO true 51 [⟨142,4, [[2,3,31,32,33]]⟩] [] (fun A ((mNodes,mSlot,mGap,mWindow,mDrift,mDelay,mCold,mModes),xData,xExplicit,xNext)=>t157 A mNodes mSlot mGap mWindow mDrift mDelay mCold mModes xData xExplicit xNext) AY L0 (fc Tryz.func142 fz) (sc xv sz) (fun A y=>match y with |.c0 p a2=>⟨51,by kernel_rfl,by kernel_rfl⟩) fun(((mNodes,mSlot,mGap,mWindow,mDrift,mDelay,mCold,mModes),xData,xExplicit,xNext):au×Mode) hp h=>by
 show aC (AY ai) (t157 ai mNodes mSlot mGap mWindow mDrift mDelay mCold mModes xData xExplicit xNext) (zX ((mNodes,mSlot,mGap,mWindow,mDrift,mDelay,mCold,mModes),xData,xExplicit,xNext))
 exact R5 h.2.1.1 (by simpa [yO] using hp)
open Go.Ev.Pl
def t183(A:bg)(explicit:Bool)(data:Int):LT Int Empty:=.br (A.not explicit) (.ret 2) (.br (A.c .gtr data 0) (.ret 4) (.ret 3))
def iB:(Bool×Int)→Int:=fun(explicit,data)=>(t183 ai explicit data).val (Ty.da [yI])
def Ng:aB:=⟨[.bool,yI], [yI],(@tt (Bool×Int)),iB⟩
theorem Ib:Sd 208 Ng:=aJ ar cO true 32 [] (fun A (explicit,data)=>t183 A explicit data) (fc Tryz.func208 fz) sz (fun((explicit,data):Bool×Int) hp h=>by
 show(t183 ai explicit data).pre=true
 simp[t183,LT.pre,ap,dI])
def t173(A:bg)(n:Int):LT Int Empty:=.br (A.c .lss n 0) (.ret 0) (.br (A.c .gtr n 4095) (.ret 0) (.ret (A.b .add .i64 14 (A.b .quo .i64 (A.b .add .i64 n 1) 2))))
def mB:Int→Int:=fun n=>(t173 ai n).val (Ty.da [yI])
def R8:aB:=⟨[yI], [yI],(@tt Int),mB⟩
theorem PS:Sd 226 R8:=aJ ar cO true 30 [] (fun A n=>t173 A n) (fc Tryz.func226 fz) sz (fun(n:Int) hp h=>by
 show(t173 ai n).pre=true
 simp[t173,LT.pre,ap,dI])
structure LX where
 (a0:Int) (a1:List Mode) (a2 a3 a4 a5 a6 a7 a8 a9:Int) (cf:List Bool) (dR:List Mode)
structure Ks where
 (b1:List Mode) (b2 b3:Int) (b4:List Int) (b5 b7 b8 b9 b10 b11 b12:Int) (b13:List Bool) (w5:List Mode) (yy:List Int) (tZ Au:List Bool)
inductive Gc where
 | c0 (p:LX)
 | c1 (p:Ks) (b0:Int) (b6:Int)
noncomputable def Lw:Gc→fE
 | .c0 p=>⟨[⟨199,55,(en [(1,.ptr 0 0),(3,vi p.a0),(12,.sl bi p.a1),(13,vi p.a2),(14,vi p.a3)]),[.inLoop (cw Tryz.f199 [1,1,0,1,0,0]),.inBlock 0,.code (cw Tryz.f199 [1,1,1])],[],none⟩],[.flat false [vi p.a4,vi p.a5,vi p.a6,vi p.a7,vi p.a8,vi p.a9,.sl .bool p.cf,.sl bi p.dR],.dead]⟩
 | .c1 p b0 b6=>⟨[⟨199,55,(en [(1,.ptr 0 0),(3,vi b0),(5,.ptr 1 0),(12,.sl bi p.b1),(13,vi p.b2),(14,vi p.b3),(19,.sl yI p.b4),(20,vi p.b5),(21,vi b6)]),[.inLoop (cw Tryz.f199 [1,1,0,1,0,0,1,1,0,0,1,1,0,0]),.inBlock 2,.inBlock 1,.code (cw Tryz.f199 [1,1,0,1,0,0,1,1,1]),.inLoop (cw Tryz.f199 [1,1,0,1,0,0]),.inBlock 0,.code (cw Tryz.f199 [1,1,1])],[],none⟩],[.flat false [vi p.b7,vi p.b8,vi p.b9,vi p.b10,vi p.b11,vi p.b12,.sl .bool p.b13,.sl bi p.w5],.flat false [.sl yI p.yy,.sl .bool p.tZ,.sl .bool p.Au],.dead]⟩
def PZ(A:bg)(mNodes:Int)(mSlot:Int)(mGap:Int)(mWindow:Int)(mDrift:Int)(mDelay:Int)(mCold:List Bool)(mModes:List Mode):LT Int Gc:=.need (A.k (@tt (Int×Int)) (1,0)) (.need (A.k (@tt Int) (A.k kz (1,0))) (.more (.c0 ⟨(A.k mB (A.k kz (1,0))),mModes,(A.l mModes),0,mNodes,mSlot,mGap,mWindow,mDrift,mDelay,mCold,mModes⟩)))
def wj(A:bg):Gc→LT Int Gc
 | .c0 p=>.br (A.c .lss p.a3 p.a2) (.need (A.and (A.c .leq 0 p.a3) (A.c .lss p.a3 (A.l p.a1))) (.more (.c1 ⟨p.a1,p.a2,p.a3,(A.n bi p.a1 p.a3:Mode).1,(A.l (A.n bi p.a1 p.a3:Mode).1),p.a4,p.a5,p.a6,p.a7,p.a8,p.a9,p.cf,p.dR,(A.n bi p.a1 p.a3:Mode).1,(A.n bi p.a1 p.a3:Mode).2.1,(A.n bi p.a1 p.a3:Mode).2.2⟩ p.a0 0))) (.ret p.a0)
 | .c1 p b0 b6=>.br (A.c .lss b6 p.b5) (.need (A.and (A.c .leq 0 b6) (A.c .lss b6 (A.l p.b4))) (.br (A.c .lss b6 p.b7) (.br (A.c .lss b6 (A.l p.tZ)) (.need (A.and (A.c .leq 0 b6) (A.c .lss b6 (A.l p.tZ))) (.need (A.k (@tt (Bool×Int)) ((A.n .bool p.tZ b6:Bool),(A.n yI p.b4 b6:Int))) (.need (A.k (@tt (Int×Int)) ((A.k iB ((A.n .bool p.tZ b6:Bool),(A.n yI p.b4 b6:Int))),(A.n yI p.b4 b6:Int))) (.br (A.c .gtr (A.k kz ((A.k iB ((A.n .bool p.tZ b6:Bool),(A.n yI p.b4 b6:Int))),(A.n yI p.b4 b6:Int))) 0) (.need (A.k (@tt Int) (A.k kz ((A.k iB ((A.n .bool p.tZ b6:Bool),(A.n yI p.b4 b6:Int))),(A.n yI p.b4 b6:Int)))) (.more (.c1 p (A.mx b0 (A.k mB (A.k kz ((A.k iB ((A.n .bool p.tZ b6:Bool),(A.n yI p.b4 b6:Int))),(A.n yI p.b4 b6:Int))))) (A.b .add .i64 b6 1)))) (.more (.c1 p b0 (A.b .add .i64 b6 1))))))) (.more (.c1 p b0 (A.b .add .i64 b6 1)))) (.more (.c1 p b0 (A.b .add .i64 b6 1))))) (.more (.c0 ⟨b0,p.b1,p.b2,(A.b .add .i64 p.b3 1),p.b7,p.b8,p.b9,p.b10,p.b11,p.b12,p.b13,p.w5⟩))
def sI(b:Int)(x:Int×Bool):Int:=bif decide (0<kz (iB (x.2,x.1),x.1)) then ai.mx b (mB (kz (iB (x.2,x.1),x.1))) else b
def nS(n:Nat)(b:Int)(x:Mode):Int:=((x.1.zip x.2.1).take n).foldl sI b
def eB(m:au):Int:=m.2.2.2.2.2.2.2.foldl (nS m.1.toNat) (mB (kz (1,0)))
theorem DU{data:List Int}{expl:List Bool}{n:Int}{i:Nat}(h1:i<data.length)(h2:i<expl.length)(h3:(i:Int)<n):((data.zip expl).take n.toNat).drop i=(data[i],expl[i])::((data.zip expl).take n.toNat).drop (i+1):=by
 have hl:i<((data.zip expl).take n.toNat).length:=by simp[List.length_take,List.length_zip];omega
 rw[List.drop_eq_getElem_cons hl,List.getElem_take,List.getElem_zip]
theorem pH{data:List Int}{expl:List Bool}{n:Int}{i:Nat}(h:expl.length≤i∨n≤(i:Int)∨data.length≤i):((data.zip expl).take n.toNat).drop i=[]:=by
 apply List.drop_of_length_le
 simp[List.length_take,List.length_zip];omega
theorem zQ{i:Nat}{n:Int}:ai.c .lss (i:Int) n=decide ((i:Int)<n):=rfl
theorem Cg{b:Int}{d:Int}{e:Bool}:sI b (d,e)=bif ai.c .gtr (ai.k kz ((ai.k iB (e,d)),d)) 0 then ai.mx b (ai.k mB (ai.k kz ((ai.k iB (e,d)),d))) else b:=rfl
theorem Ve{n s g w d de:Int}{cold expl next:List Bool}{modes ms:List Mode}{data:List Int}{L k k1:Int}{F:Int→Int}(hl:data.length≤140737488355328)(hk:ai.b .add .i64 k 1=k1)(hnext:∀b,aC (wj ai) (.more (.c0 ⟨b,ms,L,k1,n,s,g,w,d,de,cold,modes⟩)) (F b)) :
  ∀(j i:Nat) (b:Int),data.length-i=j→i≤data.length→aC (wj ai) (.more (.c1 ⟨ms,L,k,data,(data.length:Int),n,s,g,w,d,de,cold,modes,data,expl,next⟩ b (i:Int))) (F ((((data.zip expl).take n.toNat).drop i).foldl sI b)):=by
 intro j
 induction j with
 | zero=>
   intro i b hj hi
   have:i=data.length:=by omega
   subst this
   rw[ak,wj]
   refine(ah (by rw[aI];simp)).2 ?_
   rw[pH (.inr (.inr (Nat.le_refl _))),hk]
   exact hnext b
 | succ j ih=>
   intro i b hj hi
   have hi':i<data.length:=by omega
   rw[ak,wj]
   refine(aj (by rw[aI];simp;omega)).2 (af.2 ⟨aL hi',?_⟩)
   have hm:=fun b=>ih (i+1) b (by omega) (by omega)
   by_cases h3:(i:Int)<n
   ·refine(aj (by rw[zQ];simpa using h3)).2 ?_
    by_cases h2:i<expl.length
    ·refine(aj (by rw[fy,aI];simpa using h2)).2 (af.2 ⟨aL (show i<expl.length from h2),af.2 ⟨rfl,af.2 ⟨rfl,?_⟩⟩⟩)
     rw[DU hi' h2 h3,List.foldl_cons,Cg,←GX hi',←n_ h2,cK (i:=i) (by omega)]
     cases hb:ai.c .gtr (ai.k kz ((ai.k iB ((ai.n .bool expl (i:Int):Bool),(ai.n (.int .i64) data (i:Int):Int))),(ai.n (.int .i64) data (i:Int):Int))) 0
     ·exact(ah rfl).2 (hm _)
     ·exact(aj rfl).2 (af.2 ⟨rfl,hm _⟩)
    ·refine(ah (by rw[fy,aI];simpa using h2)).2 ?_
     rw[cK (i:=i) (by omega)]
     have:=hm b
     rw[pH (.inl (by omega))] at this ⊢
     exact this
   ·refine(ah (by rw[zQ];simpa using h3)).2 ?_
    rw[cK (i:=i) (by omega)]
    have:=hm b
    rw[pH (.inr (.inl (by omega)))] at this ⊢
    exact this
theorem TR{n s g w d de:Int}{cold:List Bool}{modes ms:List Mode}(hl:ms.length≤140737488355328)(hd:∀x∈ms,x.1.length≤140737488355328) :
  ∀(j k:Nat) (b:Int),ms.length-k=j→k≤ms.length→aC (wj ai) (.more (.c0 ⟨b,ms,(ms.length:Int),(k:Int),n,s,g,w,d,de,cold,modes⟩)) ((ms.drop k).foldl (nS n.toNat) b):=by
 intro j
 induction j with
 | zero=>
   intro k b hj hk
   have:k=ms.length:=by omega
   subst this
   rw[ak,wj]
   refine(ah (by rw[aI];simp)).2 ?_
   rw[List.drop_length]
   exact .ret _
 | succ j ih=>
   intro k b hj hk
   have hk':k<ms.length:=by omega
   rw[ak,wj]
   refine(aj (by rw[aI];simp;omega)).2 (af.2 ⟨aL hk',?_⟩)
   rw[show(ai.n bi ms (k:Int):Mode)=ms[k] from getD_in hk' _,List.drop_eq_getElem_cons hk',List.foldl_cons]
   exact Ve (F:=fun b=>(ms.drop (k+1)).foldl (nS n.toNat) b) (hd _ (List.getElem_mem hk')) (cK (by omega)) (fun b=>ih (k+1) b (by omega) (by omega)) ms[k].1.length 0 b rfl (by omega)
theorem max2{n s g w d de:Int}{cold:List Bool}{modes:List Mode}(h:Ty.has bW (n,s,g,w,d,de,cold,modes)):aC (wj ai) (PZ ai n s g w d de cold modes) (eB (n,s,g,w,d,de,cold,modes)):=
 af.2 ⟨rfl,af.2 ⟨rfl,TR (iP h).2.2.1 (fun x hx=>((iP h).2.2.2 x hx).1) modes.length 0 _ rfl (by omega)⟩⟩
def IP:au→Int:=eB
def SI:aB:=⟨[bW], [yI],(@tt au),IP⟩
theorem Sv:Sd 199 SI:=aH ar cO true 27 [⟨199,3, [[1,3,12,13,14]]⟩,⟨199,6, [[1,3,5,12,13,14,19,20,21]]⟩] [] (fun A (mNodes,mSlot,mGap,mWindow,mDrift,mDelay,mCold,mModes)=>PZ A mNodes mSlot mGap mWindow mDrift mDelay mCold mModes) wj Lw (fc Tryz.func199 fz) (sc Tz (sc PS (sc Ib sz))) (fun A y=>match y with |.c0 p=>⟨31,by kernel_rfl,by kernel_rfl⟩|.c1 p b0 b6=>⟨69,by kernel_rfl,by kernel_rfl⟩) fun(mNodes,mSlot,mGap,mWindow,mDrift,mDelay,mCold,mModes) hp h=>max2 h
def t159(A:bg)(mNodes:Int)(mSlot:Int)(mGap:Int)(mWindow:Int)(mDrift:Int)(mDelay:Int)(mCold:List Bool)(mModes:List Mode):LT (Int×Int×Int) Empty:=.need (A.k (@tt au) (mNodes,mSlot,mGap,mWindow,mDrift,mDelay,mCold,mModes)) (.ret ((A.b .add .i64 (A.b .mul .i64 (A.b .mul .i64 16 mNodes) mDrift) 16),(A.b .add .i64 (A.b .add .i64 (A.b .mul .i64 2 mWindow) (A.b .mul .i64 2 mDelay)) 4),(A.b .add .i64 (A.b .mul .i64 2 mGap) (A.k IP (mNodes,mSlot,mGap,mWindow,mDrift,mDelay,mCold,mModes)))))
def lD:au→(Int×Int×Int):=fun(mNodes,mSlot,mGap,mWindow,mDrift,mDelay,mCold,mModes)=>(t159 ai mNodes mSlot mGap mWindow mDrift mDelay mCold mModes).val (Ty.da [yI,yI,yI])
def Oq:aB:=⟨[bW], [yI,yI,yI],(@tt au),lD⟩
theorem Oh:Sd 144 Oq:=aJ ar cO true 50 [] (fun A (mNodes,mSlot,mGap,mWindow,mDrift,mDelay,mCold,mModes)=>t159 A mNodes mSlot mGap mWindow mDrift mDelay mCold mModes) (fc Tryz.func144 fz) (sc Sv sz) (fun((mNodes,mSlot,mGap,mWindow,mDrift,mDelay,mCold,mModes):au) hp h=>by
 show(t159 ai mNodes mSlot mGap mWindow mDrift mDelay mCold mModes).pre=true
 simp[t159,LT.pre,ap,dI])
theorem ax{R Y:Type}{step:Y→LT R Y}{t e:LT R Y}{r:R}{p:Prop}[Decidable p]{b:Bool}(hb:b=decide p)(ht:p→aC step t r)(he:¬p→aC step e r):aC step (.br b t e) r:=by
 by_cases h:p
 ·exact(aj (by rw[hb];simpa using h)).2 (ht h)
 ·exact(ah (by rw[hb];simpa using h)).2 (he h)
theorem dB{R Y:Type}{step:Y→LT R Y}{t e:LT R Y}{r:R}{x a b:Int}(ht:¬(a≤x∧x≤b)→aC step t r)(he:a≤x∧x≤b→aC step e r):aC step (.br (ai.not (ai.k dh (x,a,b))) t e) r:=by
 refine ax (p:=¬(a≤x∧x≤b)) ?_ ht (fun h=>he (Decidable.not_not.1 h))
 rw[c_,ap,iK,←Bool.decide_and,←decide_not]
theorem vB{n:Int}:0≤mB n∧mB n≤2062:=by
 simp only[mB,t173,LT.val,al,aD,Bool.cond_eq_ite,decide_eq_true_eq]
 split
 ·omega
 ·split
  ·omega
  ·rw[dn,AJ,dn,gh (a:=n+1) (by omega) (by omega)]
   have:(n+1).tdiv 2=(n+1)/2:=Int.tdiv_eq_ediv_of_nonneg (by omega)
   rw[this,gh (a:=(n+1)/2) (by omega) (by omega),gh (by omega) (by omega)]
   omega
theorem Dc{b:Int}{x:Int×Bool}(h:0≤b∧b≤2062):0≤sI b x∧sI b x≤2062:=by
 have:=vB (n:=kz (iB (x.2,x.1),x.1))
 unfold sI
 cases decide (0<kz (iB (x.2,x.1),x.1))
 ·exact h
 ·rw[NQ,Jv];split<;>omega
theorem mM{α:Type}{f:Int→α→Int}(hf:∀b x,0≤b∧b≤2062→0≤f b x∧f b x≤2062):∀{l:List α} {b:Int},0≤b∧b≤2062→0≤l.foldl f b∧l.foldl f b≤2062
 | [],_,h=>h
 | x::l,b,h=>mM hf (l:=l) (hf b x h)
theorem pz{m:au}:0≤eB m∧eB m≤2062:=mM (fun _ _ h=>mM (fun _ _ h=>Dc h) h) vB
def ig(n s g w d de mx:Int):Bool:=decide (0≤d∧d≤64∧0≤de∧de≤64∧16*n*d+16≤w∧w≤1048576∧2*w+2*de+4≤g∧g≤1048576∧2*g+mx≤s∧s≤16777216)
def dY(m:au):Bool:=countB m&&m.2.2.2.2.2.2.2.all (gz m)&&ig m.1 m.2.1 m.2.2.1 m.2.2.2.1 m.2.2.2.2.1 m.2.2.2.2.2.1 (eB m)
def fU(m:au):Int:=bif dY m then 0 else 70
theorem Fq{n d:Int}(h:4≤n∧n≤8)(h2:0≤d∧d≤64):ai.b .add .i64 (ai.b .mul .i64 (ai.b .mul .i64 16 n) d) 16=16*n*d+16:=by
 have h3:0≤16*n*d∧16*n*d≤8192:=by
  have:n=4∨n=5∨n=6∨n=7∨n=8:=by omega
  rcases this with rfl|rfl|rfl|rfl|rfl<;>omega
 rw[dn,lQ,lQ,gh (a:=16*n) (by omega) (by omega),gh (a:=16*n*d) (by omega) (by omega),gh (by omega) (by omega)]
theorem mf{n d:Int}(h:4≤n∧n≤8)(h2:0≤d∧d≤64):0≤16*n*d:=by
 have:n=4∨n=5∨n=6∨n=7∨n=8:=by omega
 rcases this with rfl|rfl|rfl|rfl|rfl<;>omega
theorem Ec{w de:Int}(h:0≤w∧w≤1048576)(h2:0≤de∧de≤64):ai.b .add .i64 (ai.b .add .i64 (ai.b .mul .i64 2 w) (ai.b .mul .i64 2 de)) 4=2*w+2*de+4:=by
 rw[dn,dn,lQ,lQ,gh (a:=2*w) (by omega) (by omega),gh (a:=2*de) (by omega) (by omega),gh (a:=2*w+2*de) (by omega) (by omega),gh (by omega) (by omega)]
theorem Aw{g mx:Int}(h:0≤g∧g≤1048576)(h2:0≤mx∧mx≤2062):ai.b .add .i64 (ai.b .mul .i64 2 g) mx=2*g+mx:=by
 rw[dn,lQ,gh (a:=2*g) (by omega) (by omega),gh (by omega) (by omega)]
theorem EL{n s g w d de:Int}{cold:List Bool}{modes:List Mode}:lD (n,s,g,w,d,de,cold,modes)=(ai.b .add .i64 (ai.b .mul .i64 (ai.b .mul .i64 16 n) d) 16,ai.b .add .i64 (ai.b .add .i64 (ai.b .mul .i64 2 w) (ai.b .mul .i64 2 de)) 4,ai.b .add .i64 (ai.b .mul .i64 2 g) (eB (n,s,g,w,d,de,cold,modes))):=rfl
open Go.Ev.Pl
structure K7 where
 (a0:List Mode) (a1 a3 a4 a5 a6 a7 a8:Int) (a9:List Bool) (cf:List Mode)
inductive G1 where
 | c0 (p:K7) (a2:Int)
noncomputable def Lb:G1→fE
 | .c0 p a2=>⟨[⟨198,19,(en [(0,.sl bi p.a0),(1,.fn 141 [] [.ptr 0 0]),(7,vi p.a1),(8,vi a2)]),[.inLoop (cw Tryz.f198 [1,0,1,0,0]),.inBlock 0,.code (cw Tryz.f198 [1,1])],[],none⟩,⟨140,9,.leaf,[.ops (ow Tryz.f140 [1,0]) ((ow Tryz.f140 [1,0]).toList.drop 2),.code .ret],[],none⟩,⟨62,65,(en [(1,.ptr 0 0)]),[.ops (ow Tryz.f62 [1,0,0,0,0,0,0,0,0,1,0,0]) ((ow Tryz.f62 [1,0,0,0,0,0,0,0,0,1,0,0]).toList.drop 3),.code (cw Tryz.f62 [1,0,0,0,0,0,0,0,0,1,0,1]),.code (cw Tryz.f62 [1,0,0,0,0,0,0,0,0,1,1]),.code (.exit 0),.inBlock 1,.inBlock 2,.inBlock 3,.inBlock 4,.code (cw Tryz.f62 [1,0,0,1]),.inBlock 0,.code (cw Tryz.f62 [1,1])],[],none⟩],[.flat false [vi p.a3,vi p.a4,vi p.a5,vi p.a6,vi p.a7,vi p.a8,.sl .bool p.a9,.sl bi p.cf],.dead]⟩
def t124(A:bg)(mNodes:Int)(mSlot:Int)(mGap:Int)(mWindow:Int)(mDrift:Int)(mDelay:Int)(mCold:List Bool)(mModes:List Mode):LT Int G1:=.need (A.k (@tt au) (mNodes,mSlot,mGap,mWindow,mDrift,mDelay,mCold,mModes)) (.br (A.not (A.k E9 (mNodes,mSlot,mGap,mWindow,mDrift,mDelay,mCold,mModes))) (.ret 70) (.more (.c0 ⟨mModes,(A.l mModes),mNodes,mSlot,mGap,mWindow,mDrift,mDelay,mCold,mModes⟩ 0)))
def Bs(A:bg):G1→LT Int G1
 | .c0 p a2=>.br (A.c .lss a2 p.a1) (.need (A.and (A.c .leq 0 a2) (A.c .lss a2 (A.l p.a0))) (.need (A.k yO ((p.a3,p.a4,p.a5,p.a6,p.a7,p.a8,p.a9,p.cf),(A.n bi p.a0 a2:Mode))) (.br (A.not (A.k zX ((p.a3,p.a4,p.a5,p.a6,p.a7,p.a8,p.a9,p.cf),(A.n bi p.a0 a2:Mode)))) (.br (A.c .geq a2 0) (.ret 70) (.need (A.k (@tt (Int×Int×Int)) (p.a7,0,64)) (.br (A.not (A.k dh (p.a7,0,64))) (.ret 70) (.need (A.k (@tt (Int×Int×Int)) (p.a8,0,64)) (.br (A.not (A.k dh (p.a8,0,64))) (.ret 70) (.need (A.k (@tt (Int×Int×Int)) (p.a6,0,1048576)) (.br (A.not (A.k dh (p.a6,0,1048576))) (.ret 70) (.need (A.k (@tt (Int×Int×Int)) (p.a5,0,1048576)) (.br (A.not (A.k dh (p.a5,0,1048576))) (.ret 70) (.need (A.k (@tt (Int×Int×Int)) (p.a4,0,16777216)) (.br (A.not (A.k dh (p.a4,0,16777216))) (.ret 70) (.need (A.k (@tt au) (p.a3,p.a4,p.a5,p.a6,p.a7,p.a8,p.a9,p.cf)) (.br (A.c .lss p.a6 (A.k lD (p.a3,p.a4,p.a5,p.a6,p.a7,p.a8,p.a9,p.cf)).1) (.ret 70) (.br (A.c .lss p.a5 (A.k lD (p.a3,p.a4,p.a5,p.a6,p.a7,p.a8,p.a9,p.cf)).2.1) (.ret 70) (.br (A.c .lss p.a4 (A.k lD (p.a3,p.a4,p.a5,p.a6,p.a7,p.a8,p.a9,p.cf)).2.2) (.ret 70) (.ret 0)))))))))))))))) (.more (.c0 p (A.b .add .i64 a2 1)))))) (.need (A.k (@tt (Int×Int×Int)) (p.a7,0,64)) (.br (A.not (A.k dh (p.a7,0,64))) (.ret 70) (.need (A.k (@tt (Int×Int×Int)) (p.a8,0,64)) (.br (A.not (A.k dh (p.a8,0,64))) (.ret 70) (.need (A.k (@tt (Int×Int×Int)) (p.a6,0,1048576)) (.br (A.not (A.k dh (p.a6,0,1048576))) (.ret 70) (.need (A.k (@tt (Int×Int×Int)) (p.a5,0,1048576)) (.br (A.not (A.k dh (p.a5,0,1048576))) (.ret 70) (.need (A.k (@tt (Int×Int×Int)) (p.a4,0,16777216)) (.br (A.not (A.k dh (p.a4,0,16777216))) (.ret 70) (.need (A.k (@tt au) (p.a3,p.a4,p.a5,p.a6,p.a7,p.a8,p.a9,p.cf)) (.br (A.c .lss p.a6 (A.k lD (p.a3,p.a4,p.a5,p.a6,p.a7,p.a8,p.a9,p.cf)).1) (.ret 70) (.br (A.c .lss p.a5 (A.k lD (p.a3,p.a4,p.a5,p.a6,p.a7,p.a8,p.a9,p.cf)).2.1) (.ret 70) (.br (A.c .lss p.a4 (A.k lD (p.a3,p.a4,p.a5,p.a6,p.a7,p.a8,p.a9,p.cf)).2.2) (.ret 70) (.ret 0)))))))))))))))
theorem Gl{n s g w d de:Int}{cold:List Bool}{modes:List Mode}{R:Int}(hn:4≤n∧n≤8)(hR:R=bif ig n s g w d de (eB (n,s,g,w,d,de,cold,modes)) then 0 else 70) :
  aC (Bs ai) (.need (ai.k (@tt (Int×Int×Int)) (d,0,64)) (.br (ai.not (ai.k dh (d,0,64))) (.ret 70) (.need (ai.k (@tt (Int×Int×Int)) (de,0,64)) (.br (ai.not (ai.k dh (de,0,64))) (.ret 70) (.need (ai.k (@tt (Int×Int×Int)) (w,0,1048576)) (.br (ai.not (ai.k dh (w,0,1048576))) (.ret 70) (.need (ai.k (@tt (Int×Int×Int)) (g,0,1048576)) (.br (ai.not (ai.k dh (g,0,1048576))) (.ret 70) (.need (ai.k (@tt (Int×Int×Int)) (s,0,16777216)) (.br (ai.not (ai.k dh (s,0,16777216))) (.ret 70) (.need (ai.k (@tt au) (n,s,g,w,d,de,cold,modes)) (.br (ai.c .lss w (ai.k lD (n,s,g,w,d,de,cold,modes)).1) (.ret 70) (.br (ai.c .lss g (ai.k lD (n,s,g,w,d,de,cold,modes)).2.1) (.ret 70) (.br (ai.c .lss s (ai.k lD (n,s,g,w,d,de,cold,modes)).2.2) (.ret 70) (.ret 0))))))))))))))) R:=by
 have hm:=pz (m:=(n,s,g,w,d,de,cold,modes))
 have no:∀{p:Prop} [Decidable p],¬p→decide p=false:=fun h=>by simpa using h
 rw[hR]
 refine af.2 ⟨rfl,dB (fun h=>ao ?_ (.ret _)) fun h1=>af.2 ⟨rfl,dB (fun h=>ao ?_ (.ret _)) fun h2=>af.2 ⟨rfl,dB (fun h=>ao ?_ (.ret _)) fun h3=>af.2 ⟨rfl,dB (fun h=>ao ?_ (.ret _)) fun h4=>af.2 ⟨rfl,dB (fun h=>ao ?_ (.ret _)) fun h5=>af.2 ⟨rfl,?_⟩⟩⟩⟩⟩⟩
 ·rw[ig,no (by omega)];rfl
 ·rw[ig,no (by omega)];rfl
 ·have:=fun h=>mf (n:=n) (d:=d) hn h
  rw[ig,no (by omega)];rfl
 ·have:=fun h=>mf (n:=n) (d:=d) hn h
  rw[ig,no (by omega)];rfl
 ·have:=fun h=>mf (n:=n) (d:=d) hn h
  rw[ig,no (by omega)];rfl
 ·have:=mf (n:=n) (d:=d) hn h1
  rw[ap,EL,Fq hn h1,Ec h3 h2,Aw h4 hm]
  refine ax (p:=w<16*n*d+16) rfl (fun h=>ao ?_ (.ret _)) fun h6=>ax (p:=g<2*w+2*de+4) rfl (fun h=>ao ?_ (.ret _)) fun h7=>ax (p:=s<2*g+eB (n,s,g,w,d,de,cold,modes)) rfl (fun h=>ao ?_ (.ret _)) fun h8=>ao ?_ (.ret _)
  ·rw[ig,no (by omega)];rfl
  ·rw[ig,no (by omega)];rfl
  ·rw[ig,no (by omega)];rfl
  ·rw[ig,decide_eq_true (by omega)];rfl
theorem L3{n s g w d de:Int}{cold:List Bool}{modes:List Mode}(hl:modes.length≤140737488355328)(hc:(cold.length:Int)=n)(hn:4≤n∧n≤8):∀(j i:Nat),modes.length-i=j→i≤modes.length→
  aC (Bs ai) (.more (.c0 ⟨modes,(modes.length:Int),n,s,g,w,d,de,cold,modes⟩ (i:Int))) (bif (modes.drop i).all (gz (n,s,g,w,d,de,cold,modes))&&ig n s g w d de (eB (n,s,g,w,d,de,cold,modes)) then 0 else 70):=by
 intro j
 induction j with
 | zero=>
   intro i hj hi
   have:i=modes.length:=by omega
   subst this
   rw[ak,Bs]
   refine(ah (by rw[aI];simp)).2 (Gl hn ?_)
   rw[List.drop_length];rfl
 | succ j ih=>
   intro i hj hi
   have hi':i<modes.length:=by omega
   rw[ak,Bs]
   refine(aj (by rw[aI];simp;omega)).2 (af.2 ⟨aL hi',?_⟩)
   have e:(ai.n bi modes (i:Int):Mode)=modes[i]:=getD_in hi' _
   rw[e,List.drop_eq_getElem_cons hi',List.all_cons]
   refine af.2 ⟨by show((cold.length:Int)==n)=true;simpa using hc,?_⟩
   have hf:ai.k zX ((n,s,g,w,d,de,cold,modes),modes[i])=gz (n,s,g,w,d,de,cold,modes) modes[i]:=rfl
   rw[hf]
   cases gz (n,s,g,w,d,de,cold,modes) modes[i]
   ·refine(aj rfl).2 ((aj (by rw[aK];simp)).2 (.ret _))
   ·refine(ah rfl).2 ?_
    rw[cK (i:=i) (by omega),Bool.true_and]
    exact ih (i+1) (by omega) (by omega)
theorem Lc{n s g w d de:Int}{cold:List Bool}{modes:List Mode}(h:Ty.has bW (n,s,g,w,d,de,cold,modes)):aC (Bs ai) (t124 ai n s g w d de cold modes) (fU (n,s,g,w,d,de,cold,modes)):=by
 unfold t124 fU dY
 refine af.2 ⟨rfl,?_⟩
 rw[show ai.k E9 (n,s,g,w,d,de,cold,modes)=countB (n,s,g,w,d,de,cold,modes) from rfl]
 cases hc:countB (n,s,g,w,d,de,cold,modes)
 ·exact(aj rfl).2 (.ret _)
 ·refine(ah rfl).2 ?_
  simp only[countB,iK,Bool.and_eq_true,decide_eq_true_eq,beq_iff_eq] at hc
  exact L3 (iP h).2.2.1 hc.1.2 hc.1.1.1 modes.length 0 rfl (by omega)
def jH:au→Int:=fU
def RX:aB:=⟨[bW], [yI],(@tt au),jH⟩
theorem Am:Sd 62 RX:=aH ar cO true 58 [⟨198,2, [[0,1,7,8], [], [1]]⟩] [] (fun A (mNodes,mSlot,mGap,mWindow,mDrift,mDelay,mCold,mModes)=>t124 A mNodes mSlot mGap mWindow mDrift mDelay mCold mModes) Bs Lb (fc Tryz.func62 (fc Tryz.func140 (fc Tryz.func141 (fc Tryz.func198 fz)))) (sc Rc (sc S7 (sc xv (sc Oh sz)))) (fun A y=>match y with |.c0 p a2=>⟨136,by kernel_rfl,by kernel_rfl⟩) fun(mNodes,mSlot,mGap,mWindow,mDrift,mDelay,mCold,mModes) hp h=>Lc h
open Go.Ev.Pl
def Gg(A:bg)(explicit:Bool)(data:Int):LT Int Empty:=.br (A.not explicit) (.ret 2) (.br (A.c .gtr data 0) (.ret 4) (.ret 3))
def uI:(Bool×Int)→Int:=fun(explicit,data)=>(Gg ai explicit data).val (Ty.da [yI])
def Nm:aB:=⟨[.bool,yI], [yI],(@tt (Bool×Int)),uI⟩
theorem Sg:Sd 197 Nm:=aJ ar cO true 30 [] (fun A (explicit,data)=>Gg A explicit data) (fc Tryz.func197 fz) sz (fun((explicit,data):Bool×Int) hp h=>by
 show(Gg ai explicit data).pre=true
 simp[Gg,LT.pre,ap,dI])
def F7(A:bg)(n:Int):LT Int Empty:=.br (A.c .lss n 0) (.ret 0) (.br (A.c .gtr n 4095) (.ret 0) (.ret (A.b .add .i64 14 (A.b .quo .i64 (A.b .add .i64 n 1) 2))))
def zG:Int→Int:=fun n=>(F7 ai n).val (Ty.da [yI])
def ND:aB:=⟨[yI], [yI],(@tt Int),zG⟩
theorem R2:Sd 195 ND:=aJ ar cO true 30 [] (fun A n=>F7 A n) (fc Tryz.func195 fz) sz (fun(n:Int) hp h=>by
 show(F7 ai n).pre=true
 simp[F7,LT.pre,ap,dI])
structure Lm where
 (a0:List Bool)
inductive F6 where
 | c0 (p:Lm) (a1:Int) (a2:Int)
noncomputable def KI:F6→fE
 | .c0 p a1 a2=>⟨[⟨147,18,(en [(0,.sl .bool p.a0),(3,vi a1),(4,vi a2)]),[.inLoop (cw Tryz.f147 [1,1,0,1,0,0]),.inBlock 0,.code (cw Tryz.f147 [1,1,1])],[],none⟩],[.dead]⟩
def NJ(A:bg)(l:List Bool):LT Int F6:=.more (.c0 ⟨l⟩ 0 0)
def Cr(A:bg):F6→LT Int F6
 | .c0 p a1 a2=>.br (A.c .lss a2 (A.l p.a0)) (.need (A.and (A.c .leq 0 a2) (A.c .lss a2 (A.l p.a0))) (.br (A.n .bool p.a0 a2:Bool) (.more (.c0 p (A.b .add .i64 a1 1) (A.b .add .i64 a2 1))) (.more (.c0 p a1 (A.b .add .i64 a2 1))))) (.ret a1)
theorem Jx{l:List Bool}(hl:l.length≤140737488355328):∀(j i c:Nat),l.length-i=j→i≤l.length→c≤i→aC (Cr ai) (.more (.c0 ⟨l⟩ (c:Int) (i:Int))) ((c+(l.drop i).count true:Nat):Int):=by
 intro j
 induction j with
 | zero=>
   intro i c hj hi hc
   have:i=l.length:=by omega
   subst this
   rw[ak,Cr]
   refine(ah (by rw[fy,aI];simp)).2 ?_
   rw[List.drop_length]
   exact .ret _
 | succ j ih=>
   intro i c hj hi hc
   have hi':i<l.length:=by omega
   rw[ak,Cr]
   refine(aj (by rw[fy,aI];simp;omega)).2 (af.2 ⟨aL hi',?_⟩)
   rw[List.drop_eq_getElem_cons hi',List.count_cons]
   cases hb:l[i]
   ·refine(ah ((n_ hi').trans hb)).2 ?_
    rw[cK (i:=i) (by omega)]
    refine ao ?_ (ih (i+1) c (by omega) (by omega) (by omega))
    simp
   ·refine(aj ((n_ hi').trans hb)).2 ?_
    rw[cK (i:=c) (by omega),cK (i:=i) (by omega)]
    refine ao ?_ (ih (i+1) (c+1) (by omega) (by omega) (by omega))
    simp[Nat.add_assoc,Nat.add_comm 1]
def yn:(List Bool)→Int:=fun l=>(l.count true:Int)
def Rs:aB:=⟨[(.slice .bool)], [yI],(@tt (List Bool)),yn⟩
theorem MG:Sd 147 Rs:=aH ar cO true 21 [⟨147,3, [[0,3,4]]⟩] [] (fun A l=>NJ A l) Cr KI (fc Tryz.func147 fz) sz (fun A y=>match y with |.c0 p a1 a2=>⟨37,by kernel_rfl,by kernel_rfl⟩) fun(l:List Bool) hp h=>by
 show aC (Cr ai) (NJ ai l) (yn l)
 exact ao (by simp[yn]) (Jx h.1 l.length 0 0 rfl (by omega) (by omega))
structure Kr where
 (a1:List Int) (a2 a3:List Bool) (a4 a5 a6 a7 a8 a9:Int) (cf:List Bool) (dR:List Mode)
structure Ls where
 (b1:List Int) (b2 b3:List Bool) (b4 b5 b6 b7 b8 b9:Int) (b10:List Bool) (b11:List Mode)
inductive Hw where
 | c0 (p:Kr) (a0:Int)
 | c1 (p:Ls) (b0:Int)
noncomputable def JX:Hw→fE
 | .c0 p a0=>⟨[⟨148,78,(en [(2,.ptr 0 0),(3,.ptr 1 0),(5,vi a0)]),[.inLoop (cw Tryz.f148 [1,1,0,1,0,0]),.inBlock 0,.code (cw Tryz.f148 [1,1,1])],[],none⟩],[.flat false [.sl yI p.a1,.sl .bool p.a2,.sl .bool p.a3],.flat false [vi p.a4,vi p.a5,vi p.a6,vi p.a7,vi p.a8,vi p.a9,.sl .bool p.cf,.sl bi p.dR],.dead]⟩
 | .c1 p b0=>⟨[⟨148,78,(en [(2,.ptr 0 0),(3,.ptr 1 0),(6,vi b0)]),[.inLoop (cw Tryz.f148 [1,1,1,0,1,0,0]),.inBlock 2,.code (cw Tryz.f148 [1,1,1,1])],[],none⟩],[.flat false [.sl yI p.b1,.sl .bool p.b2,.sl .bool p.b3],.flat false [vi p.b4,vi p.b5,vi p.b6,vi p.b7,vi p.b8,vi p.b9,.sl .bool p.b10,.sl bi p.b11],.dead]⟩
def He(A:bg)(xData:List Int)(xExplicit:List Bool)(xNext:List Bool)(mNodes:Int)(mSlot:Int)(mGap:Int)(mWindow:Int)(mDrift:Int)(mDelay:Int)(mCold:List Bool)(mModes:List Mode):LT Bool Hw:=.br (A.c .neq (A.l xData) mNodes) (.ret false) (.br (A.c .neq (A.l xExplicit) mNodes) (.ret false) (.br (A.c .neq (A.l xNext) (A.l mModes)) (.ret false) (.more (.c0 ⟨xData,xExplicit,xNext,mNodes,mSlot,mGap,mWindow,mDrift,mDelay,mCold,mModes⟩ 0))))
def uB(A:bg):Hw→LT Bool Hw
 | .c0 p a0=>.br (A.c .lss a0 (A.l p.a1)) (.need (A.and (A.c .leq 0 a0) (A.c .lss a0 (A.l p.a1))) (.br (A.c .lss (A.n yI p.a1 a0:Int) 0) (.ret false) (.need (A.and (A.c .leq 0 a0) (A.c .lss a0 (A.l p.a1))) (.br (A.c .gtr (A.n yI p.a1 a0:Int) 8) (.ret false) (.more (.c0 p (A.b .add .i64 a0 1))))))) (.more (.c1 ⟨p.a1,p.a2,p.a3,p.a4,p.a5,p.a6,p.a7,p.a8,p.a9,p.cf,p.dR⟩ 0))
 | .c1 p b0=>.br (A.c .lss b0 (A.l p.b2)) (.br (A.c .lss b0 (A.l p.b10)) (.need (A.and (A.c .leq 0 b0) (A.c .lss b0 (A.l p.b10))) (.br (A.n .bool p.b10 b0:Bool) (.need (A.and (A.c .leq 0 b0) (A.c .lss b0 (A.l p.b2))) (.br (A.not (A.n .bool p.b2 b0:Bool)) (.ret false) (.more (.c1 p (A.b .add .i64 b0 1))))) (.more (.c1 p (A.b .add .i64 b0 1))))) (.ret true)) (.ret true)
def CM:List Bool→List Bool→Bool
 | c::cs,e::es=>(!c||e)&&CM cs es
 | _,_=>true
theorem su:∀{ds:List Int} {cs es:List Bool},cs.length=ds.length→es.length=ds.length→lV ds cs es=(ds.all (fun d=>decide (0≤d)&&decide (d≤8))&&CM cs es)
 | [], [], [],_,_=>rfl
 | d::ds,c::cs,e::es,h1,h2=>by
   rw[lV,su (ds:=ds) (by simpa using h1) (by simpa using h2),List.all_cons,CM]
   cases (decide (0≤d)&&decide (d≤8))<;>cases (!c||e)<;>simp
 | [],_::_,_,h,_=>by cases h
 | [], [],_::_,_,h=>by cases h
 | _::_, [],_,h,_=>by cases h
 | _::_,_::_, [],_,h=>by cases h
theorem I5{n s g w d de:Int}{cold expl next:List Bool}{modes:List Mode}{data:List Int}(hl:expl.length≤140737488355328)(hc:cold.length=expl.length):∀(j i:Nat),expl.length-i=j→i≤expl.length→
  aC (uB ai) (.more (.c1 ⟨data,expl,next,n,s,g,w,d,de,cold,modes⟩ (i:Int))) (CM (cold.drop i) (expl.drop i)):=by
 intro j
 induction j with
 | zero=>
   intro i hj hi
   have:i=expl.length:=by omega
   subst this
   rw[ak,uB]
   refine(ah (by rw[fy,aI];simp)).2 ?_
   rw[List.drop_length,List.drop_of_length_le (by omega)]
   exact .ret _
 | succ j ih=>
   intro i hj hi
   have hi':i<expl.length:=by omega
   have hi2:i<cold.length:=by omega
   rw[ak,uB]
   refine(aj (by rw[fy,aI];simp;omega)).2 ((aj (by rw[fy,aI];simp;omega)).2 (af.2 ⟨aL hi2,?_⟩))
   have hm:=ih (i+1) (by omega) (by omega)
   rw[List.drop_eq_getElem_cons hi',List.drop_eq_getElem_cons hi2,CM]
   cases hcb:cold[i]
   ·refine(ah ((n_ hi2).trans hcb)).2 ?_
    rw[cK (i:=i) (by omega)];exact hm
   ·refine(aj ((n_ hi2).trans hcb)).2 (af.2 ⟨aL hi',?_⟩)
    cases heb:expl[i]
    ·exact(aj (by rw[n_ hi',heb];rfl)).2 (.ret _)
    ·refine(ah (by rw[n_ hi',heb];rfl)).2 ?_
     rw[cK (i:=i) (by omega)];exact hm
theorem K6{n s g w d de:Int}{cold expl next:List Bool}{modes:List Mode}{data:List Int}{R:Bool}(hl:data.length≤140737488355328)(hR:aC (uB ai) (.more (.c1 ⟨data,expl,next,n,s,g,w,d,de,cold,modes⟩ 0)) R):∀(j i:Nat),data.length-i=j→i≤data.length→
  aC (uB ai) (.more (.c0 ⟨data,expl,next,n,s,g,w,d,de,cold,modes⟩ (i:Int))) ((data.drop i).all (fun d=>decide (0≤d)&&decide (d≤8))&&R):=by
 intro j
 induction j with
 | zero=>
   intro i hj hi
   have:i=data.length:=by omega
   subst this
   rw[ak,uB]
   refine(ah (by rw[fy,aI];simp)).2 ?_
   rw[List.drop_length]
   exact ao (by simp) hR
 | succ j ih=>
   intro i hj hi
   have hi':i<data.length:=by omega
   rw[ak,uB]
   have hm:=ih (i+1) (by omega) (by omega)
   rw[List.drop_eq_getElem_cons hi',List.all_cons]
   refine(aj (by rw[fy,aI];simp;omega)).2 (af.2 ⟨aL hi',?_⟩)
   rw[GX hi']
   refine ax (p:=data[i]<0) rfl (fun h=>ao ?_ (.ret _)) fun h1=>af.2 ⟨aL hi',ax (p:=8<data[i]) rfl (fun h=>ao ?_ (.ret _)) fun h2=>?_⟩
   ·rw[decide_eq_false (show ¬0≤data[i] by omega)];rfl
   ·rw[decide_eq_false (show ¬data[i]≤8 by omega),Bool.and_false];rfl
   ·rw[cK (i:=i) (by omega),decide_eq_true (show 0≤data[i] by omega),decide_eq_true (show data[i]≤8 by omega)]
    exact hm
theorem JK{n s g w d de:Int}{cold expl next:List Bool}{modes:List Mode}{data:List Int}(hl:data.length≤140737488355328)(hl2:expl.length≤140737488355328)(hc:(cold.length:Int)=n) :
  aC (uB ai) (He ai data expl next n s g w d de cold modes) (gz (n,s,g,w,d,de,cold,modes) (data,expl,next)):=by
 unfold He gz
 simp only[fy]
 by_cases h1:(data.length:Int)=n
 ·refine(ah (cn h1)).2 ?_
  by_cases h2:(expl.length:Int)=n
  ·refine(ah (cn h2)).2 ?_
   by_cases h3:(next.length:Int)=modes.length
   ·refine(ah (cn h3)).2 (ao ?_ (K6 hl (I5 hl2 (by omega) expl.length 0 rfl (by omega)) data.length 0 rfl (by omega)))
    rw[beq_iff_eq.2 h1,beq_iff_eq.2 h2,beq_iff_eq.2 (show next.length=modes.length by omega),su (show cold.length=data.length by omega) (show expl.length=data.length by omega)];rfl
   ·refine(aj (dX h3)).2 (ao ?_ (.ret _))
    rw[beq_eq_false_iff_ne.2 (show next.length≠modes.length by omega),Bool.and_false,Bool.false_and]
  ·refine(aj (dX h2)).2 (ao ?_ (.ret _))
   rw[beq_eq_false_iff_ne.2 h2,Bool.and_false];rfl
 ·refine(aj (dX h1)).2 (ao ?_ (.ret _))
  rw[beq_eq_false_iff_ne.2 h1];rfl
def zK:(Mode×au)→Bool:=fun(x,m)=>gz m x
def zg:(Mode×au)→Bool:=fun(_,m)=>(m.2.2.2.2.2.2.1.length:Int)==m.1
def O7:aB:=⟨[bi,bW], [.bool],zg,zK⟩
theorem Ri:Sd 148 O7:=aH ar cO true 48 [⟨148,4, [[2,3,5]]⟩,⟨148,9, [[2,3,6]]⟩] [] (fun A ((xData,xExplicit,xNext),mNodes,mSlot,mGap,mWindow,mDrift,mDelay,mCold,mModes)=>He A xData xExplicit xNext mNodes mSlot mGap mWindow mDrift mDelay mCold mModes) uB JX (fc Tryz.func148 fz) sz (fun A y=>match y with |.c0 p a0=>⟨44,by kernel_rfl,by kernel_rfl⟩|.c1 p b0=>⟨50,by kernel_rfl,by kernel_rfl⟩) fun(((xData,xExplicit,xNext),mNodes,mSlot,mGap,mWindow,mDrift,mDelay,mCold,mModes):Mode×au) hp h=>by
 show aC (uB ai) (He ai xData xExplicit xNext mNodes mSlot mGap mWindow mDrift mDelay mCold mModes) (zK ((xData,xExplicit,xNext),mNodes,mSlot,mGap,mWindow,mDrift,mDelay,mCold,mModes))
 exact JK h.1.1.1 h.1.2.1.1 (by simpa [zg] using hp)
structure Kd where
 (a0 a1 a2 a3 a4 a5 a6 a7:Int) (a8:List Bool) (a9:List Mode)
structure KP where
 (b1 b3 b4 b5 b6 b7 b8:Int) (b9:List Bool) (b10:List Mode) (b11:List Int) (b12 b13:List Bool)
inductive Ga where
 | c0 (p:Kd)
 | c1 (p:KP) (b0:Int) (b2:Int)
noncomputable def J9:Ga→fE
 | .c0 p=>⟨[⟨138,66,(en [(1,.ptr 0 0),(3,vi p.a0),(4,vi p.a1)]),[.inLoop (cw Tryz.f138 [1,1,0,1,0,0]),.inBlock 0,.code (cw Tryz.f138 [1,1,1])],[],none⟩],[.flat false [vi p.a2,vi p.a3,vi p.a4,vi p.a5,vi p.a6,vi p.a7,.sl .bool p.a8,.sl bi p.a9],.dead]⟩
 | .c1 p b0 b2=>⟨[⟨138,66,(en [(1,.ptr 0 0),(3,vi b0),(4,vi p.b1),(5,.ptr 1 0),(6,vi b2)]),[.inLoop (cw Tryz.f138 [1,1,0,1,0,0,1,0,0,1,1,0,0]),.inBlock 2,.inBlock 1,.code (cw Tryz.f138 [1,1,0,1,0,0,1,1]),.inLoop (cw Tryz.f138 [1,1,0,1,0,0]),.inBlock 0,.code (cw Tryz.f138 [1,1,1])],[],none⟩],[.flat false [vi p.b3,vi p.b4,vi p.b5,vi p.b6,vi p.b7,vi p.b8,.sl .bool p.b9,.sl bi p.b10],.flat false [.sl yI p.b11,.sl .bool p.b12,.sl .bool p.b13],.dead]⟩
def Ln(A:bg)(mNodes:Int)(mSlot:Int)(mGap:Int)(mWindow:Int)(mDrift:Int)(mDelay:Int)(mCold:List Bool)(mModes:List Mode):LT Int Ga:=.need (A.k (@tt (Int×Int)) (1,0)) (.need (A.k (@tt Int) (A.k wL (1,0))) (.more (.c0 ⟨(A.k zG (A.k wL (1,0))),0,mNodes,mSlot,mGap,mWindow,mDrift,mDelay,mCold,mModes⟩)))
def wW(A:bg):Ga→LT Int Ga
 | .c0 p=>.br (A.c .lss p.a1 (A.l p.a9)) (.need (A.and (A.c .leq 0 p.a1) (A.c .lss p.a1 (A.l p.a9))) (.more (.c1 ⟨p.a1,p.a2,p.a3,p.a4,p.a5,p.a6,p.a7,p.a8,p.a9,(A.n bi p.a9 p.a1:Mode).1,(A.n bi p.a9 p.a1:Mode).2.1,(A.n bi p.a9 p.a1:Mode).2.2⟩ p.a0 0))) (.ret p.a0)
 | .c1 p b0 b2=>.br (A.c .lss b2 (A.l p.b11)) (.br (A.c .lss b2 (A.l p.b12)) (.br (A.c .lss b2 p.b3) (.need (A.and (A.c .leq 0 b2) (A.c .lss b2 (A.l p.b12))) (.need (A.and (A.c .leq 0 b2) (A.c .lss b2 (A.l p.b11))) (.need (A.k (@tt (Bool×Int)) ((A.n .bool p.b12 b2:Bool),(A.n yI p.b11 b2:Int))) (.need (A.and (A.c .leq 0 b2) (A.c .lss b2 (A.l p.b11))) (.need (A.k (@tt (Int×Int)) ((A.k uI ((A.n .bool p.b12 b2:Bool),(A.n yI p.b11 b2:Int))),(A.n yI p.b11 b2:Int))) (.br (A.c .gtr (A.k wL ((A.k uI ((A.n .bool p.b12 b2:Bool),(A.n yI p.b11 b2:Int))),(A.n yI p.b11 b2:Int))) 0) (.need (A.k (@tt Int) (A.k wL ((A.k uI ((A.n .bool p.b12 b2:Bool),(A.n yI p.b11 b2:Int))),(A.n yI p.b11 b2:Int)))) (.more (.c1 p (A.mx b0 (A.k zG (A.k wL ((A.k uI ((A.n .bool p.b12 b2:Bool),(A.n yI p.b11 b2:Int))),(A.n yI p.b11 b2:Int))))) (A.b .add .i64 b2 1)))) (.more (.c1 p b0 (A.b .add .i64 b2 1))))))))) (.more (.c0 ⟨b0,(A.b .add .i64 p.b1 1),p.b3,p.b4,p.b5,p.b6,p.b7,p.b8,p.b9,p.b10⟩))) (.more (.c0 ⟨b0,(A.b .add .i64 p.b1 1),p.b3,p.b4,p.b5,p.b6,p.b7,p.b8,p.b9,p.b10⟩))) (.more (.c0 ⟨b0,(A.b .add .i64 p.b1 1),p.b3,p.b4,p.b5,p.b6,p.b7,p.b8,p.b9,p.b10⟩))
theorem C9:uI=iB:=rfl
theorem xN:zG=mB:=rfl
theorem z7:wL=kz:=funext fun⟨k,d⟩=>by rw[xP.1,xP.2]
theorem Mr{n s g w d de:Int}{cold expl next:List Bool}{modes:List Mode}{data:List Int}{k k1:Int}{F:Int→Int}(hl:data.length≤140737488355328)(hk:ai.b .add .i64 k 1=k1)(hnext:∀b,aC (wW ai) (.more (.c0 ⟨b,k1,n,s,g,w,d,de,cold,modes⟩)) (F b)) :
  ∀(j i:Nat) (b:Int),data.length-i=j→i≤data.length→aC (wW ai) (.more (.c1 ⟨k,n,s,g,w,d,de,cold,modes,data,expl,next⟩ b (i:Int))) (F ((((data.zip expl).take n.toNat).drop i).foldl sI b)):=by
 intro j
 induction j with
 | zero=>
   intro i b hj hi
   have:i=data.length:=by omega
   subst this
   rw[ak,wW]
   refine(ah (by rw[fy,aI];simp)).2 ?_
   rw[pH (.inr (.inr (Nat.le_refl _))),hk]
   exact hnext b
 | succ j ih=>
   intro i b hj hi
   have hi':i<data.length:=by omega
   rw[ak,wW]
   refine(aj (by rw[fy,aI];simp;omega)).2 ?_
   have hm:=fun b=>ih (i+1) b (by omega) (by omega)
   by_cases h2:i<expl.length
   ·refine(aj (by rw[fy,aI];simpa using h2)).2 ?_
    by_cases h3:(i:Int)<n
    ·refine(aj (by rw[zQ];simpa using h3)).2 (af.2 ⟨aL (show i<expl.length from h2),af.2 ⟨aL hi',af.2 ⟨rfl,af.2 ⟨aL hi',af.2 ⟨rfl,?_⟩⟩⟩⟩⟩)
     rw[DU hi' h2 h3,List.foldl_cons,Cg,←GX hi',←n_ h2,cK (i:=i) (by omega),C9,z7,xN]
     cases hb:ai.c .gtr (ai.k kz ((ai.k iB ((ai.n .bool expl (i:Int):Bool),(ai.n (.int .i64) data (i:Int):Int))),(ai.n (.int .i64) data (i:Int):Int))) 0
     ·exact(ah rfl).2 (hm _)
     ·exact(aj rfl).2 (af.2 ⟨rfl,hm _⟩)
    ·refine(ah (by rw[zQ];simpa using h3)).2 ?_
     rw[pH (.inr (.inl (by omega))),hk];exact hnext b
   ·refine(ah (by rw[fy,aI];simpa using h2)).2 ?_
    rw[pH (.inl (by omega)),hk];exact hnext b
theorem NZ{n s g w d de:Int}{cold:List Bool}{modes:List Mode}(hl:modes.length≤140737488355328)(hd:∀x∈modes,x.1.length≤140737488355328) :
  ∀(j k:Nat) (b:Int),modes.length-k=j→k≤modes.length→aC (wW ai) (.more (.c0 ⟨b,(k:Int),n,s,g,w,d,de,cold,modes⟩)) ((modes.drop k).foldl (nS n.toNat) b):=by
 intro j
 induction j with
 | zero=>
   intro k b hj hk
   have:k=modes.length:=by omega
   subst this
   rw[ak,wW]
   refine(ah (by rw[fy,aI];simp)).2 ?_
   rw[List.drop_length]
   exact .ret _
 | succ j ih=>
   intro k b hj hk
   have hk':k<modes.length:=by omega
   rw[ak,wW]
   refine(aj (by rw[fy,aI];simp;omega)).2 (af.2 ⟨aL hk',?_⟩)
   rw[show(ai.n bi modes (k:Int):Mode)=modes[k] from getD_in hk' _,List.drop_eq_getElem_cons hk',List.foldl_cons]
   exact Mr (F:=fun b=>(modes.drop (k+1)).foldl (nS n.toNat) b) (hd _ (List.getElem_mem hk')) (cK (by omega)) (fun b=>ih (k+1) b (by omega) (by omega)) modes[k].1.length 0 b rfl (by omega)
theorem MI{n s g w d de:Int}{cold:List Bool}{modes:List Mode}(h:Ty.has bW (n,s,g,w,d,de,cold,modes)):aC (wW ai) (Ln ai n s g w d de cold modes) (eB (n,s,g,w,d,de,cold,modes)):=by
 unfold Ln
 rw[z7,xN]
 exact af.2 ⟨rfl,af.2 ⟨rfl,NZ (iP h).2.2.1 (fun x hx=>((iP h).2.2.2 x hx).1) modes.length 0 _ rfl (by omega)⟩⟩
def pY:au→Int:=eB
def QC:aB:=⟨[bW], [yI],(@tt au),pY⟩
theorem Iu:Sd 138 QC:=aH ar cO true 24 [⟨138,3, [[1,3,4]]⟩,⟨138,7, [[1,3,4,5,6]]⟩] [] (fun A (mNodes,mSlot,mGap,mWindow,mDrift,mDelay,mCold,mModes)=>Ln A mNodes mSlot mGap mWindow mDrift mDelay mCold mModes) wW J9 (fc Tryz.func138 fz) (sc VD (sc R2 (sc Sg sz))) (fun A y=>match y with |.c0 p=>⟨35,by kernel_rfl,by kernel_rfl⟩|.c1 p b0 b2=>⟨72,by kernel_rfl,by kernel_rfl⟩) fun(mNodes,mSlot,mGap,mWindow,mDrift,mDelay,mCold,mModes) hp h=>MI h
structure KB where
 (a1 a2 a3 a4 a5 a6:Int) (a7:List Bool) (a8:List Mode)
inductive G7 where
 | c0 (p:KB) (a0:Int)
noncomputable def JH:G7→fE
 | .c0 p a0=>⟨[⟨64,120,(en [(1,.ptr 0 0),(3,vi a0)]),[.inLoop (cw Tryz.f64 [1,1,0,1,0,0]),.inBlock 0,.code (cw Tryz.f64 [1,1,1])],[],none⟩],[.flat false [vi p.a1,vi p.a2,vi p.a3,vi p.a4,vi p.a5,vi p.a6,.sl .bool p.a7,.sl bi p.a8],.dead]⟩
def I_(A:bg)(mNodes:Int)(mSlot:Int)(mGap:Int)(mWindow:Int)(mDrift:Int)(mDelay:Int)(mCold:List Bool)(mModes:List Mode):LT Int G7:=.br (A.c .lss mNodes 4) (.ret 70) (.br (A.c .gtr mNodes 8) (.ret 70) (.br (A.c .lss (A.l mModes) 1) (.ret 70) (.br (A.c .gtr (A.l mModes) 4) (.ret 70) (.br (A.c .neq (A.l mCold) mNodes) (.ret 70) (.need (A.k (@tt (List Bool)) mCold) (.br (A.c .lss (A.k yn mCold) 2) (.ret 70) (.more (.c0 ⟨mNodes,mSlot,mGap,mWindow,mDrift,mDelay,mCold,mModes⟩ 0))))))))
def AQ(A:bg):G7→LT Int G7
 | .c0 p a0=>.br (A.c .lss a0 (A.l p.a8)) (.need (A.and (A.c .leq 0 a0) (A.c .lss a0 (A.l p.a8))) (.need (A.k zg ((A.n bi p.a8 a0:Mode),p.a1,p.a2,p.a3,p.a4,p.a5,p.a6,p.a7,p.a8)) (.br (A.not (A.k zK ((A.n bi p.a8 a0:Mode),p.a1,p.a2,p.a3,p.a4,p.a5,p.a6,p.a7,p.a8))) (.ret 70) (.more (.c0 p (A.b .add .i64 a0 1)))))) (.br (A.c .lss p.a5 0) (.ret 70) (.br (A.c .gtr p.a5 64) (.ret 70) (.br (A.c .lss p.a6 0) (.ret 70) (.br (A.c .gtr p.a6 64) (.ret 70) (.br (A.c .lss p.a4 (A.b .add .i64 (A.b .mul .i64 (A.b .mul .i64 16 p.a1) p.a5) 16)) (.ret 70) (.br (A.c .gtr p.a4 1048576) (.ret 70) (.br (A.c .lss p.a3 (A.b .add .i64 (A.b .add .i64 (A.b .mul .i64 2 p.a4) (A.b .mul .i64 2 p.a6)) 4)) (.ret 70) (.br (A.c .gtr p.a3 1048576) (.ret 70) (.need (A.k (@tt au) (p.a1,p.a2,p.a3,p.a4,p.a5,p.a6,p.a7,p.a8)) (.br (A.c .lss p.a2 (A.b .add .i64 (A.b .mul .i64 2 p.a3) (A.k pY (p.a1,p.a2,p.a3,p.a4,p.a5,p.a6,p.a7,p.a8)))) (.ret 70) (.br (A.c .gtr p.a2 16777216) (.ret 70) (.ret 0))))))))))))
theorem Hf{n s g w d de:Int}{cold:List Bool}{modes:List Mode}{R:Int}(hn:4≤n∧n≤8)(hR:R=bif ig n s g w d de (eB (n,s,g,w,d,de,cold,modes)) then 0 else 70) :
  aC (AQ ai) (.br (ai.c .lss d 0) (.ret 70) (.br (ai.c .gtr d 64) (.ret 70) (.br (ai.c .lss de 0) (.ret 70) (.br (ai.c .gtr de 64) (.ret 70) (.br (ai.c .lss w (ai.b .add .i64 (ai.b .mul .i64 (ai.b .mul .i64 16 n) d) 16)) (.ret 70) (.br (ai.c .gtr w 1048576) (.ret 70) (.br (ai.c .lss g (ai.b .add .i64 (ai.b .add .i64 (ai.b .mul .i64 2 w) (ai.b .mul .i64 2 de)) 4)) (.ret 70) (.br (ai.c .gtr g 1048576) (.ret 70) (.need (ai.k (@tt au) (n,s,g,w,d,de,cold,modes)) (.br (ai.c .lss s (ai.b .add .i64 (ai.b .mul .i64 2 g) (ai.k pY (n,s,g,w,d,de,cold,modes)))) (.ret 70) (.br (ai.c .gtr s 16777216) (.ret 70) (.ret 0)))))))))))) R:=by
 have hm:=pz (m:=(n,s,g,w,d,de,cold,modes))
 have no:∀{p:Prop} [Decidable p],¬p→decide p=false:=fun h=>by simpa using h
 rw[hR]
 refine ax (p:=d<0) rfl (fun h=>ao ?_ (.ret _)) fun h1=>ax (p:=64<d) rfl (fun h=>ao ?_ (.ret _)) fun h2=>ax (p:=de<0) rfl (fun h=>ao ?_ (.ret _)) fun h3=>ax (p:=64<de) rfl (fun h=>ao ?_ (.ret _)) fun h4=>?_
 ·rw[ig,no (by omega)];rfl
 ·rw[ig,no (by omega)];rfl
 ·rw[ig,no (by omega)];rfl
 ·rw[ig,no (by omega)];rfl
 have:=mf (n:=n) (d:=d) hn (by omega)
 rw[Fq hn (by omega)]
 refine ax (p:=w<16*n*d+16) rfl (fun h=>ao ?_ (.ret _)) fun h5=>ax (p:=1048576<w) rfl (fun h=>ao ?_ (.ret _)) fun h6=>?_
 ·rw[ig,no (by omega)];rfl
 ·rw[ig,no (by omega)];rfl
 rw[Ec (by omega) (by omega)]
 refine ax (p:=g<2*w+2*de+4) rfl (fun h=>ao ?_ (.ret _)) fun h7=>ax (p:=1048576<g) rfl (fun h=>ao ?_ (.ret _)) fun h8=>af.2 ⟨rfl,?_⟩
 ·rw[ig,no (by omega)];rfl
 ·rw[ig,no (by omega)];rfl
 rw[show ai.k pY (n,s,g,w,d,de,cold,modes)=eB (n,s,g,w,d,de,cold,modes) from rfl,Aw (by omega) hm]
 refine ax (p:=s<2*g+eB (n,s,g,w,d,de,cold,modes)) rfl (fun h=>ao ?_ (.ret _)) fun h9=>ax (p:=16777216<s) rfl (fun h=>ao ?_ (.ret _)) fun h10=>ao ?_ (.ret _)
 ·rw[ig,no (by omega)];rfl
 ·rw[ig,no (by omega)];rfl
 ·rw[ig,decide_eq_true (by omega)];rfl
theorem FY{n s g w d de:Int}{cold:List Bool}{modes:List Mode}(hl:modes.length≤140737488355328)(hc:(cold.length:Int)=n)(hn:4≤n∧n≤8):∀(j i:Nat),modes.length-i=j→i≤modes.length→
  aC (AQ ai) (.more (.c0 ⟨n,s,g,w,d,de,cold,modes⟩ (i:Int))) (bif (modes.drop i).all (gz (n,s,g,w,d,de,cold,modes))&&ig n s g w d de (eB (n,s,g,w,d,de,cold,modes)) then 0 else 70):=by
 intro j
 induction j with
 | zero=>
   intro i hj hi
   have:i=modes.length:=by omega
   subst this
   rw[ak,AQ]
   refine(ah (by rw[fy,aI];simp)).2 (Hf hn ?_)
   rw[List.drop_length];rfl
 | succ j ih=>
   intro i hj hi
   have hi':i<modes.length:=by omega
   rw[ak,AQ]
   refine(aj (by rw[fy,aI];simp;omega)).2 (af.2 ⟨aL hi',?_⟩)
   have e:(ai.n bi modes (i:Int):Mode)=modes[i]:=getD_in hi' _
   rw[e,List.drop_eq_getElem_cons hi',List.all_cons]
   refine af.2 ⟨by show((cold.length:Int)==n)=true;simpa using hc,?_⟩
   have hf:ai.k zK (modes[i],n,s,g,w,d,de,cold,modes)=gz (n,s,g,w,d,de,cold,modes) modes[i]:=rfl
   rw[hf]
   cases gz (n,s,g,w,d,de,cold,modes) modes[i]
   ·exact(aj rfl).2 (.ret _)
   ·refine(ah rfl).2 ?_
    rw[cK (i:=i) (by omega),Bool.true_and]
    exact ih (i+1) (by omega) (by omega)
theorem Gp{n s g w d de:Int}{cold:List Bool}{modes:List Mode}(h:Ty.has bW (n,s,g,w,d,de,cold,modes)):aC (AQ ai) (I_ ai n s g w d de cold modes) (fU (n,s,g,w,d,de,cold,modes)):=by
 unfold I_ fU dY countB
 simp only[iK,fy]
 refine ax (p:=n<4) rfl (fun h=>ao ?_ (.ret _)) fun h1=>ax (p:=8<n) rfl (fun h=>ao ?_ (.ret _)) fun h2=>ax (p:=(modes.length:Int)<1) rfl (fun h=>ao ?_ (.ret _)) fun h3=>ax (p:=4<(modes.length:Int)) rfl (fun h=>ao ?_ (.ret _)) fun h4=>?_
 ·rw[decide_eq_false (show ¬4≤n by omega)];rfl
 ·rw[decide_eq_false (show ¬n≤8 by omega),Bool.and_false];rfl
 ·rw[decide_eq_false (show ¬(1:Int)≤modes.length by omega),Bool.false_and,Bool.and_false];rfl
 ·rw[decide_eq_false (show ¬(modes.length:Int)≤4 by omega),Bool.and_false,Bool.and_false];rfl
 rw[decide_eq_true (show 4≤n by omega),decide_eq_true (show n≤8 by omega),decide_eq_true (show(1:Int)≤modes.length by omega),decide_eq_true (show(modes.length:Int)≤4 by omega)]
 by_cases h5:(cold.length:Int)=n
 ·refine(ah (cn h5)).2 (af.2 ⟨rfl,?_⟩)
  rw[show ai.k yn cold=(cold.count true:Int) from rfl,beq_iff_eq.2 h5]
  refine ax (p:=(cold.count true:Int)<2) rfl (fun h=>ao ?_ (.ret _)) fun h6=>ao ?_ (FY (iP h).2.2.1 h5 (by omega) modes.length 0 rfl (by omega))
  ·rw[decide_eq_false (show ¬(2:Int)≤cold.count true by omega)];rfl
  ·rw[decide_eq_true (show(2:Int)≤cold.count true by omega)];rfl
 ·refine(aj (dX h5)).2 (ao ?_ (.ret _))
  rw[beq_eq_false_iff_ne.2 h5];rfl
def mo:au→Int:=fU
def PO:aB:=⟨[bW], [yI],(@tt au),mo⟩
theorem D5:Sd 64 PO:=aH ar cO true 58 [⟨64,4, [[1,3]]⟩] [] (fun A (mNodes,mSlot,mGap,mWindow,mDrift,mDelay,mCold,mModes)=>I_ A mNodes mSlot mGap mWindow mDrift mDelay mCold mModes) AQ JH (fc Tryz.func64 fz) (sc Iu (sc MG (sc Ri sz))) (fun A y=>match y with |.c0 p a0=>⟨100,by kernel_rfl,by kernel_rfl⟩) fun(mNodes,mSlot,mGap,mWindow,mDrift,mDelay,mCold,mModes) hp h=>Gp h
end Go.Ev.M
