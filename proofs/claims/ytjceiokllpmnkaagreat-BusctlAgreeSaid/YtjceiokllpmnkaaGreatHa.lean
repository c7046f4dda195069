/-
  PROVED: what medl.Check and metronomeref07.Check compute. Conditions: none.
-/
import Derived.Test.YtjceiokllpmnkaaGreatFc
namespace Go.Ev.M
open Go.Proofs
set_option maxRecDepth 100000
set_option linter.unusedVariables false
set_option linter.unusedSimpArgs false
open Go.Ev.Pl
abbrev sD:Ty:=(.struct [yI,yI,yI,yI,yI])
abbrev dM:Type:=Int×Int×Int×Int×Int
abbrev Qo:Ty:=(.struct [yI,yI,yI,yI,yI,yI,yI])
abbrev sn:Type:=Int×Int×Int×Int×Int×Int×Int
abbrev Tt:Ty:=(.struct [yI,yB])
abbrev Bits:Type:=Int×List Int
abbrev Jj:Ty:=(.struct [yI,yI,sD,yI,yB])
abbrev oz:Type:=Int×Int×dM×Int×List Int
abbrev aU:Ty:=(.struct [yI,yI,Tt])
abbrev Seen:Type:=Int×Int×Bits
abbrev yM:Ty:=(.struct [yI,yI,yI,Jj,yI])
abbrev gU:Type:=Int×Int×Int×oz×Int
abbrev bA:Ty:=(.struct [pN,(.slice .bool),(.slice .bool)])
abbrev Mode:Type:=List Int×List Bool×List Bool
abbrev c_:Ty:=(.struct [yI,yI,yI,yI,yI,yI,(.slice .bool),(.slice bA)])
abbrev ap:Type:=Int×Int×Int×Int×Int×Int×List Bool×List Mode
abbrev cX:Ty:=(.struct [yB,yI])
abbrev dF:Type:=List Int×Int
abbrev qb:Ty:=(.struct [yI,yB,(.slice cX),yI,yI])
abbrev ek:Type:=Int×List Int×List dF×Int×Int
abbrev eE:Ty:=(.struct [yI,yI,sD,Qo,yI,.bool,yI,qb])
abbrev Node:Type:=Int×Int×dM×sn×Int×Bool×Int×ek
def F9(A:bu)(n:Int)(least:Int)(most:Int):LT Bool Empty:=.br (A.c .geq n least) (.ret (A.c .leq n most)) (.ret false)
def dz:(Int×Int×Int)→Bool:=fun(n,least,most)=>(F9 ah n least most).val (Ty.bV [.bool])
def N1:aC:=⟨[yI,yI,yI], [.bool],(@tt (Int×Int×Int)),dz⟩
theorem yy:Sd 93 N1:=aK au dC true 22 [] (fun A (n,least,most)=>F9 A n least most) (fc Tryz.func93 fz) sz (fun((n,least,most):Int×Int×Int) hp h=>by
 show(F9 ah n least most).pre=true
 simp[F9,LT.pre,al,cB])
theorem kH{x a b:Int}:dz (x,a,b)=(decide (a≤x)&&decide (x≤b)):=by
 simp only[dz,F9,LT.val,aI,ax]
 cases decide (a≤x)<;>rfl
theorem QH{α:Type}{x y:α}:(bif true then x else y)=x:=rfl
theorem yt{l:List Bool}{i:Nat}(h:i<l.length):(ah.n .bool l (i:Int):Bool)=l[i]:=getD_in h _
theorem Ms{l:List Int}{i:Nat}(h:i<l.length):(ah.n (.int .i64) l (i:Int):Int)=l[i]:=getD_in h _
theorem kv{α:Type}{l:List α}:ah.l l=(l.length:Int):=rfl
theorem kI{n s g w d de:Int}{cold:List Bool}{modes:List Mode}(h:Ty.has c_ (n,s,g,w,d,de,cold,modes)):(-9223372036854775808≤n∧n≤9223372036854775807)∧cold.length≤140737488355328∧modes.length≤140737488355328∧∀x∈modes,x.1.length≤140737488355328∧x.2.1.length≤140737488355328∧∀d∈x.1,IntKind.i64.has d:=by
 obtain⟨h1,_,_,_,_,_,h2,h3⟩:=h
 exact⟨h1,h2.1,h3.1,fun x hx=>⟨(h3.2 x hx).1.1,(h3.2 x hx).2.1.1,(h3.2 x hx).1.2⟩⟩
structure MO where
 (a1:List Bool) (a2 a4 a5 a6 a7 a8 a9:Int) (b_:List Bool) (dY:List Mode)
inductive GD where
 | c0 (p:MO) (a0:Int) (a3:Int)
noncomputable def L9:GD→f_
 | .c0 p a0 a3=>⟨[⟨89,38,(en [(1,.ptr 0 0),(3,vi a0),(7,.sl .bool p.a1),(8,vi p.a2),(9,vi a3)]),[.inLoop (cw Tryz.f89 [1,1,0,1,0,0]),.inBlock 0,.code (cw Tryz.f89 [1,1,1])],[],none⟩],[.flat false [vi p.a4,vi p.a5,vi p.a6,vi p.a7,vi p.a8,vi p.a9,.sl .bool p.b_,.sl bA p.dY],.dead]⟩
def t154(A:bu)(mNodes:Int)(mSlot:Int)(mGap:Int)(mWindow:Int)(mDrift:Int)(mDelay:Int)(mCold:List Bool)(mModes:List Mode):LT Bool GD:=.more (.c0 ⟨mCold,(A.l mCold),mNodes,mSlot,mGap,mWindow,mDrift,mDelay,mCold,mModes⟩ 0 0)
def DW(A:bu):GD→LT Bool GD
 | .c0 p a0 a3=>.br (A.c .lss a3 p.a2) (.need (A.and (A.c .leq 0 a3) (A.c .lss a3 (A.l p.a1))) (.br (A.n .bool p.a1 a3:Bool) (.more (.c0 p (A.b .add .i64 a0 1) (A.b .add .i64 a3 1))) (.more (.c0 p a0 (A.b .add .i64 a3 1))))) (.need (A.k (@tt (Int×Int×Int)) (p.a4,4,8)) (.br (A.k dz (p.a4,4,8)) (.need (A.k (@tt (Int×Int×Int)) ((A.l p.dY),1,4)) (.br (A.k dz ((A.l p.dY),1,4)) (.br (A.c .eql (A.l p.b_) p.a4) (.ret (A.c .geq a0 2)) (.ret false)) (.ret false))) (.ret false)))
def countB(m:ap):Bool:=dz (m.1,4,8)&&dz ((m.2.2.2.2.2.2.2.length:Int),1,4)&&((m.2.2.2.2.2.2.1.length:Int)==m.1)&&decide (2≤(m.2.2.2.2.2.2.1.count true:Int))
theorem MR{n s g w d de:Int}{cold:List Bool}{modes:List Mode}(hl:cold.length≤140737488355328):∀(j i c:Nat),cold.length-i=j→i≤cold.length→c≤i→
  aD (DW ah) (.more (.c0 ⟨cold,(cold.length:Int),n,s,g,w,d,de,cold,modes⟩ (c:Int) (i:Int))) (dz (n,4,8)&&dz ((modes.length:Int),1,4)&&((cold.length:Int)==n)&&decide (2≤((c+(cold.drop i).count true:Nat):Int))):=by
 intro j
 induction j with
 | zero=>
   intro i c hj hi hc
   have:i=cold.length:=by omega
   subst this
   rw[ak,DW]
   refine(ai (by rw[aG];simp)).2 ?_
   rw[List.drop_length]
   simp only[af,al,cB,true_and]
   cases dz (n,4,8)
   ·exact(ai rfl).2 (.ret _)
   refine(aj rfl).2 ?_
   simp only[af,al,cB,true_and,kv]
   cases dz ((modes.length:Int),1,4)
   ·exact(ai rfl).2 (.ret _)
   refine(aj rfl).2 ?_
   rw[aB]
   cases ((cold.length:Int)==n)
   ·exact(ai rfl).2 (.ret _)
   refine(aj rfl).2 ?_
   rw[aI]
   exact .ret _
 | succ j ih=>
   intro i c hj hi hc
   have hi':i<cold.length:=by omega
   rw[ak,DW]
   refine(aj (by rw[aG];simp;omega)).2 (af.2 ⟨bH hi',?_⟩)
   rw[List.drop_eq_getElem_cons hi',List.count_cons]
   cases hb:cold[i]
   ·refine(ai ((yt hi').trans hb)).2 ?_
    refine aT (congrArg (fun z=>LT.more (GD.c0 _ _ z)) (dI (by omega))) (aH ?_ (ih (i+1) c (by omega) (by omega) (by omega)))
    simp
   ·refine(aj ((yt hi').trans hb)).2 ?_
    rw[dI (i:=c) (by omega),dI (i:=i) (by omega)]
    refine aH ?_ (ih (i+1) (c+1) (by omega) (by omega) (by omega))
    simp[Nat.add_assoc,Nat.add_comm 1]
theorem MS{n s g w d de:Int}{cold:List Bool}{modes:List Mode}(h:Ty.has c_ (n,s,g,w,d,de,cold,modes)):aD (DW ah) (t154 ah n s g w d de cold modes) (countB (n,s,g,w,d,de,cold,modes)):=
 aH (by simp[countB]) (MR (kI h).2.1 cold.length 0 0 rfl (by omega) (by omega))
def GV:ap→Bool:=countB
def Qv:aC:=⟨[c_], [.bool],(@tt ap),GV⟩
theorem VF:Sd 89 Qv:=aJ au dC true 25 [⟨89,3, [[1,3,7,8,9]]⟩] [] (fun A (mNodes,mSlot,mGap,mWindow,mDrift,mDelay,mCold,mModes)=>t154 A mNodes mSlot mGap mWindow mDrift mDelay mCold mModes) DW L9 (fc Tryz.func89 fz) (sc yy sz) (fun A y=>match y with |.c0 p a0 a3=>⟨38,by kernel_rfl,by kernel_rfl⟩) fun(mNodes,mSlot,mGap,mWindow,mDrift,mDelay,mCold,mModes) hp h=>MS h
structure Mn where
 (a0:List Int) (a1 a3 a4 a5 a6 a7 a8:Int) (a9:List Bool) (b_:List Mode) (dY:List Int) (a12 lW:List Bool)
inductive Dk where
 | c0 (p:Mn) (a2:Int)
noncomputable def KT:Dk→f_
 | .c0 p a2=>⟨[⟨92,57,(en [(2,.ptr 0 0),(3,.ptr 1 0),(31,.sl yI p.a0),(32,vi p.a1),(33,vi a2)]),[.inLoop (cw Tryz.f92 [1,1,0,1,0,0]),.inBlock 0,.code (cw Tryz.f92 [1,1,1])],[],none⟩],[.flat false [vi p.a3,vi p.a4,vi p.a5,vi p.a6,vi p.a7,vi p.a8,.sl .bool p.a9,.sl bA p.b_],.flat false [.sl yI p.dY,.sl .bool p.a12,.sl .bool p.lW],.dead]⟩
def t157(A:bu)(mNodes:Int)(mSlot:Int)(mGap:Int)(mWindow:Int)(mDrift:Int)(mDelay:Int)(mCold:List Bool)(mModes:List Mode)(xData:List Int)(xExplicit:List Bool)(xNext:List Bool):LT Bool Dk:=.br (A.c .neq (A.l xData) mNodes) (.ret false) (.br (A.c .neq (A.l xExplicit) mNodes) (.ret false) (.br (A.c .neq (A.l xNext) (A.l mModes)) (.ret false) (.more (.c0 ⟨xData,(A.l xData),mNodes,mSlot,mGap,mWindow,mDrift,mDelay,mCold,mModes,xData,xExplicit,xNext⟩ 0))))
def Dv(A:bu):Dk→LT Bool Dk
 | .c0 p a2=>.br (A.c .lss a2 p.a1) (.need (A.and (A.c .leq 0 a2) (A.c .lss a2 (A.l p.a0))) (.need (A.k (@tt (Int×Int×Int)) ((A.n yI p.a0 a2:Int),0,8)) (.br (A.not (A.k dz ((A.n yI p.a0 a2:Int),0,8))) (.ret false) (.need (A.and (A.c .leq 0 a2) (A.c .lss a2 (A.l p.a9))) (.br (A.n .bool p.a9 a2:Bool) (.need (A.and (A.c .leq 0 a2) (A.c .lss a2 (A.l p.a12))) (.br (A.not (A.n .bool p.a12 a2:Bool)) (.ret false) (.more (.c0 p (A.b .add .i64 a2 1))))) (.more (.c0 p (A.b .add .i64 a2 1)))))))) (.ret true)
def nu:List Int→List Bool→List Bool→Bool
 | d::ds,c::cs,e::es=>(decide (0≤d)&&decide (d≤8))&&(!c||e)&&nu ds cs es
 | _,_,_=>true
def jH(m:ap)(x:Mode):Bool:=((x.1.length:Int)==m.1)&&((x.2.1.length:Int)==m.1)&&(x.2.2.length==m.2.2.2.2.2.2.2.length)&&nu x.1 m.2.2.2.2.2.2.1 x.2.1
theorem NN{n s g w d de:Int}{cold expl next:List Bool}{modes:List Mode}{data:List Int}(hl:data.length≤140737488355328)(hc:cold.length=data.length)(he:expl.length=data.length):∀(j i:Nat),data.length-i=j→i≤data.length→
  aD (Dv ah) (.more (.c0 ⟨data,(data.length:Int),n,s,g,w,d,de,cold,modes,data,expl,next⟩ (i:Int))) (nu (data.drop i) (cold.drop i) (expl.drop i)):=by
 intro j
 induction j with
 | zero=>
   intro i hj hi
   have:i=data.length:=by omega
   subst this
   rw[ak,Dv]
   refine(ai (by rw[aG];simp)).2 ?_
   rw[List.drop_length]
   exact .ret _
 | succ j ih=>
   intro i hj hi
   have hi':i<data.length:=by omega
   rw[ak,Dv]
   refine(aj (by rw[aG];simp;omega)).2 (af.2 ⟨bH hi',af.2 ⟨rfl,?_⟩⟩)
   rw[List.drop_eq_getElem_cons hi',List.drop_eq_getElem_cons (show i<cold.length by omega),List.drop_eq_getElem_cons (show i<expl.length by omega),nu]
   have hm:=ih (i+1) (by omega) (by omega)
   have hw:ah.k dz ((ah.n (.int .i64) data (i:Int):Int),0,8)=(decide (0≤data[i])&&decide (data[i]≤8)):=by
    rw[al,Ms hi',kH]
   cases hw':(decide (0≤data[i])&&decide (data[i]≤8))
   ·exact(aj (by rw[hw,hw'];rfl)).2 (.ret _)
   refine(ai (by rw[hw,hw'];rfl)).2 (af.2 ⟨bH (show i<cold.length by omega),?_⟩)
   cases hcb:cold[i]
   ·refine(ai ((yt (show i<cold.length by omega)).trans hcb)).2 ?_
    exact aT (congrArg (fun z=>LT.more (Dk.c0 _ z)) (dI (by omega))) hm
   ·refine(aj ((yt (show i<cold.length by omega)).trans hcb)).2 (af.2 ⟨bH (show i<expl.length by omega),?_⟩)
    cases heb:expl[i]
    ·exact(aj (by rw[yt (show i<expl.length by omega),heb];rfl)).2 (.ret _)
    ·refine(ai (by rw[yt (show i<expl.length by omega),heb];rfl)).2 ?_
     exact aT (congrArg (fun z=>LT.more (Dk.c0 _ z)) (dI (by omega))) hm
theorem R5{n s g w d de:Int}{cold expl next:List Bool}{modes:List Mode}{data:List Int}(hl:data.length≤140737488355328)(hc:(cold.length:Int)=n) :
  aD (Dv ah) (t157 ah n s g w d de cold modes data expl next) (jH (n,s,g,w,d,de,cold,modes) (data,expl,next)):=by
 unfold t157 jH
 simp only[kv]
 by_cases h1:(data.length:Int)=n
 ·refine(ai (cr h1)).2 ?_
  by_cases h2:(expl.length:Int)=n
  ·refine(ai (cr h2)).2 ?_
   by_cases h3:(next.length:Int)=modes.length
   ·refine(ai (cr h3)).2 (aH ?_ (NN hl (by omega) (by omega) data.length 0 rfl (by omega)))
    rw[beq_iff_eq.2 h1,beq_iff_eq.2 h2,beq_iff_eq.2 (show next.length=modes.length by omega)];rfl
   ·refine(aj (eU h3)).2 (aH ?_ (.ret _))
    rw[beq_eq_false_iff_ne.2 (show next.length≠modes.length by omega),Bool.and_false,Bool.false_and]
  ·refine(aj (eU h2)).2 (aH ?_ (.ret _))
   rw[beq_eq_false_iff_ne.2 h2,Bool.and_false];rfl
 ·refine(aj (eU h1)).2 (aH ?_ (.ret _))
  rw[beq_eq_false_iff_ne.2 h1];rfl
def Bm:(ap×Mode)→Bool:=fun(m,x)=>jH m x
def AJ:(ap×Mode)→Bool:=fun(m,_)=>(m.2.2.2.2.2.2.1.length:Int)==m.1
def Pk:aC:=⟨[c_,bA], [.bool],AJ,Bm⟩
theorem Uj:Sd 92 Pk:=aJ au dC true 51 [⟨92,4, [[2,3,31,32,33]]⟩] [] (fun A ((mNodes,mSlot,mGap,mWindow,mDrift,mDelay,mCold,mModes),xData,xExplicit,xNext)=>t157 A mNodes mSlot mGap mWindow mDrift mDelay mCold mModes xData xExplicit xNext) Dv KT (fc Tryz.func92 fz) (sc yy sz) (fun A y=>match y with |.c0 p a2=>⟨51,by kernel_rfl,by kernel_rfl⟩) fun(((mNodes,mSlot,mGap,mWindow,mDrift,mDelay,mCold,mModes),xData,xExplicit,xNext):ap×Mode) hp h=>by
 show aD (Dv ah) (t157 ah mNodes mSlot mGap mWindow mDrift mDelay mCold mModes xData xExplicit xNext) (Bm ((mNodes,mSlot,mGap,mWindow,mDrift,mDelay,mCold,mModes),xData,xExplicit,xNext))
 exact R5 h.2.1.1 (by simpa [AJ] using hp)
open Go.Ev.Pl
def t183(A:bu)(explicit:Bool)(data:Int):LT Int Empty:=.br (A.not explicit) (.ret 2) (.br (A.c .gtr data 0) (.ret 4) (.ret 3))
def iU:(Bool×Int)→Int:=fun(explicit,data)=>(t183 ah explicit data).val (Ty.bV [yI])
def Vg:aC:=⟨[.bool,yI], [yI],(@tt (Bool×Int)),iU⟩
theorem J6:Sd 182 Vg:=aK au dC true 32 [] (fun A (explicit,data)=>t183 A explicit data) (fc Tryz.func182 fz) sz (fun((explicit,data):Bool×Int) hp h=>by
 show(t183 ah explicit data).pre=true
 simp[t183,LT.pre,al,cB])
def t173(A:bu)(n:Int):LT Int Empty:=.br (A.c .lss n 0) (.ret 0) (.br (A.c .gtr n 4095) (.ret 0) (.ret (A.b .add .i64 14 (A.b .quo .i64 (A.b .add .i64 n 1) 2))))
def nJ:Int→Int:=fun n=>(t173 ah n).val (Ty.bV [yI])
def Ns:aC:=⟨[yI], [yI],(@tt Int),nJ⟩
theorem UQ:Sd 234 Ns:=aK au dC true 30 [] (fun A n=>t173 A n) (fc Tryz.func234 fz) sz (fun(n:Int) hp h=>by
 show(t173 ah n).pre=true
 simp[t173,LT.pre,al,cB])
structure LY where
 (a0:Int) (a1:List Mode) (a2 a3 a4 a5 a6 a7 a8 a9:Int) (b_:List Bool) (dY:List Mode)
structure LG where
 (b1:List Mode) (b2 b3:Int) (b4:List Int) (b5 b7 b8 b9 b10 b11 b12:Int) (b13:List Bool) (wJ:List Mode) (xF:List Int) (dd jZ:List Bool)
inductive It where
 | c0 (p:LY)
 | c1 (p:LG) (b0:Int) (b6:Int)
noncomputable def K4:It→f_
 | .c0 p=>⟨[⟨172,55,(en [(1,.ptr 0 0),(3,vi p.a0),(12,.sl bA p.a1),(13,vi p.a2),(14,vi p.a3)]),[.inLoop (cw Tryz.f172 [1,1,0,1,0,0]),.inBlock 0,.code (cw Tryz.f172 [1,1,1])],[],none⟩],[.flat false [vi p.a4,vi p.a5,vi p.a6,vi p.a7,vi p.a8,vi p.a9,.sl .bool p.b_,.sl bA p.dY],.dead]⟩
 | .c1 p b0 b6=>⟨[⟨172,55,(en [(1,.ptr 0 0),(3,vi b0),(5,.ptr 1 0),(12,.sl bA p.b1),(13,vi p.b2),(14,vi p.b3),(19,.sl yI p.b4),(20,vi p.b5),(21,vi b6)]),[.inLoop (cw Tryz.f172 [1,1,0,1,0,0,1,1,0,0,1,1,0,0]),.inBlock 2,.inBlock 1,.code (cw Tryz.f172 [1,1,0,1,0,0,1,1,1]),.inLoop (cw Tryz.f172 [1,1,0,1,0,0]),.inBlock 0,.code (cw Tryz.f172 [1,1,1])],[],none⟩],[.flat false [vi p.b7,vi p.b8,vi p.b9,vi p.b10,vi p.b11,vi p.b12,.sl .bool p.b13,.sl bA p.wJ],.flat false [.sl yI p.xF,.sl .bool p.dd,.sl .bool p.jZ],.dead]⟩
def Vz(A:bu)(mNodes:Int)(mSlot:Int)(mGap:Int)(mWindow:Int)(mDrift:Int)(mDelay:Int)(mCold:List Bool)(mModes:List Mode):LT Int It:=.need (A.k (@tt (Int×Int)) (1,0)) (.need (A.k (@tt Int) (A.k lK (1,0))) (.more (.c0 ⟨(A.k nJ (A.k lK (1,0))),mModes,(A.l mModes),0,mNodes,mSlot,mGap,mWindow,mDrift,mDelay,mCold,mModes⟩)))
def w5(A:bu):It→LT Int It
 | .c0 p=>.br (A.c .lss p.a3 p.a2) (.need (A.and (A.c .leq 0 p.a3) (A.c .lss p.a3 (A.l p.a1))) (.more (.c1 ⟨p.a1,p.a2,p.a3,(A.n bA p.a1 p.a3:Mode).1,(A.l (A.n bA p.a1 p.a3:Mode).1),p.a4,p.a5,p.a6,p.a7,p.a8,p.a9,p.b_,p.dY,(A.n bA p.a1 p.a3:Mode).1,(A.n bA p.a1 p.a3:Mode).2.1,(A.n bA p.a1 p.a3:Mode).2.2⟩ p.a0 0))) (.ret p.a0)
 | .c1 p b0 b6=>.br (A.c .lss b6 p.b5) (.need (A.and (A.c .leq 0 b6) (A.c .lss b6 (A.l p.b4))) (.br (A.c .lss b6 p.b7) (.br (A.c .lss b6 (A.l p.dd)) (.need (A.and (A.c .leq 0 b6) (A.c .lss b6 (A.l p.dd))) (.need (A.k (@tt (Bool×Int)) ((A.n .bool p.dd b6:Bool),(A.n yI p.b4 b6:Int))) (.need (A.k (@tt (Int×Int)) ((A.k iU ((A.n .bool p.dd b6:Bool),(A.n yI p.b4 b6:Int))),(A.n yI p.b4 b6:Int))) (.br (A.c .gtr (A.k lK ((A.k iU ((A.n .bool p.dd b6:Bool),(A.n yI p.b4 b6:Int))),(A.n yI p.b4 b6:Int))) 0) (.need (A.k (@tt Int) (A.k lK ((A.k iU ((A.n .bool p.dd b6:Bool),(A.n yI p.b4 b6:Int))),(A.n yI p.b4 b6:Int)))) (.more (.c1 p (A.mx b0 (A.k nJ (A.k lK ((A.k iU ((A.n .bool p.dd b6:Bool),(A.n yI p.b4 b6:Int))),(A.n yI p.b4 b6:Int))))) (A.b .add .i64 b6 1)))) (.more (.c1 p b0 (A.b .add .i64 b6 1))))))) (.more (.c1 p b0 (A.b .add .i64 b6 1)))) (.more (.c1 p b0 (A.b .add .i64 b6 1))))) (.more (.c0 ⟨b0,p.b1,p.b2,(A.b .add .i64 p.b3 1),p.b7,p.b8,p.b9,p.b10,p.b11,p.b12,p.b13,p.wJ⟩))
def uz(b:Int)(x:Int×Bool):Int:=bif decide (0<lK (iU (x.2,x.1),x.1)) then ah.mx b (nJ (lK (iU (x.2,x.1),x.1))) else b
def pz(n:Nat)(b:Int)(x:Mode):Int:=((x.1.zip x.2.1).take n).foldl uz b
def gQ(m:ap):Int:=m.2.2.2.2.2.2.2.foldl (pz m.1.toNat) (nJ (lK (1,0)))
theorem EZ{data:List Int}{expl:List Bool}{n:Int}{i:Nat}(h1:i<data.length)(h2:i<expl.length)(h3:(i:Int)<n):((data.zip expl).take n.toNat).drop i=(data[i],expl[i])::((data.zip expl).take n.toNat).drop (i+1):=by
 have hl:i<((data.zip expl).take n.toNat).length:=by simp[List.length_take,List.length_zip];omega
 rw[List.drop_eq_getElem_cons hl,List.getElem_take,List.getElem_zip]
theorem qM{data:List Int}{expl:List Bool}{n:Int}{i:Nat}(h:expl.length≤i∨n≤(i:Int)∨data.length≤i):((data.zip expl).take n.toNat).drop i=[]:=by
 apply List.drop_of_length_le
 simp[List.length_take,List.length_zip];omega
theorem Bs{i:Nat}{n:Int}:ah.c .lss (i:Int) n=decide ((i:Int)<n):=rfl
theorem FV{b:Int}{d:Int}{e:Bool}:uz b (d,e)=bif ah.c .gtr (ah.k lK ((ah.k iU (e,d)),d)) 0 then ah.mx b (ah.k nJ (ah.k lK ((ah.k iU (e,d)),d))) else b:=rfl
theorem Y5{n s g w d de:Int}{cold expl next:List Bool}{modes ms:List Mode}{data:List Int}{L k k1:Int}{F:Int→Int}(hl:data.length≤140737488355328)(hk:ah.b .add .i64 k 1=k1)(hnext:∀b,aD (w5 ah) (.more (.c0 ⟨b,ms,L,k1,n,s,g,w,d,de,cold,modes⟩)) (F b)) :
  ∀(j i:Nat) (b:Int),data.length-i=j→i≤data.length→aD (w5 ah) (.more (.c1 ⟨ms,L,k,data,(data.length:Int),n,s,g,w,d,de,cold,modes,data,expl,next⟩ b (i:Int))) (F ((((data.zip expl).take n.toNat).drop i).foldl uz b)):=by
 intro j
 induction j with
 | zero=>
   intro i b hj hi
   have:i=data.length:=by omega
   subst this
   rw[ak,w5]
   refine(ai (by rw[aG];simp)).2 ?_
   rw[qM (.inr (.inr (Nat.le_refl _))),hk]
   exact hnext b
 | succ j ih=>
   intro i b hj hi
   have hi':i<data.length:=by omega
   rw[ak,w5]
   refine(aj (by rw[aG];simp;omega)).2 (af.2 ⟨bH hi',?_⟩)
   have hm:=fun b=>ih (i+1) b (by omega) (by omega)
   by_cases h3:(i:Int)<n
   ·refine(aj (by rw[Bs];simpa using h3)).2 ?_
    by_cases h2:i<expl.length
    ·refine(aj (by rw[kv,aG];simpa using h2)).2 (af.2 ⟨bH (show i<expl.length from h2),af.2 ⟨rfl,af.2 ⟨rfl,?_⟩⟩⟩)
     rw[EZ hi' h2 h3,List.foldl_cons,FV,←Ms hi',←yt h2,dI (i:=i) (by omega)]
     cases hb:ah.c .gtr (ah.k lK ((ah.k iU ((ah.n .bool expl (i:Int):Bool),(ah.n (.int .i64) data (i:Int):Int))),(ah.n (.int .i64) data (i:Int):Int))) 0
     ·exact(ai rfl).2 (hm _)
     ·exact(aj rfl).2 (af.2 ⟨rfl,hm _⟩)
    ·refine(ai (by rw[kv,aG];simpa using h2)).2 ?_
     rw[dI (i:=i) (by omega)]
     have:=hm b
     rw[qM (.inl (by omega))] at this ⊢
     exact this
   ·refine(ai (by rw[Bs];simpa using h3)).2 ?_
    rw[dI (i:=i) (by omega)]
    have:=hm b
    rw[qM (.inr (.inl (by omega)))] at this ⊢
    exact this
theorem Xl{n s g w d de:Int}{cold:List Bool}{modes ms:List Mode}(hl:ms.length≤140737488355328)(hd:∀x∈ms,x.1.length≤140737488355328) :
  ∀(j k:Nat) (b:Int),ms.length-k=j→k≤ms.length→aD (w5 ah) (.more (.c0 ⟨b,ms,(ms.length:Int),(k:Int),n,s,g,w,d,de,cold,modes⟩)) ((ms.drop k).foldl (pz n.toNat) b):=by
 intro j
 induction j with
 | zero=>
   intro k b hj hk
   have:k=ms.length:=by omega
   subst this
   rw[ak,w5]
   refine(ai (by rw[aG];simp)).2 ?_
   rw[List.drop_length]
   exact .ret _
 | succ j ih=>
   intro k b hj hk
   have hk':k<ms.length:=by omega
   rw[ak,w5]
   refine(aj (by rw[aG];simp;omega)).2 (af.2 ⟨bH hk',?_⟩)
   rw[show(ah.n bA ms (k:Int):Mode)=ms[k] from getD_in hk' _,List.drop_eq_getElem_cons hk',List.foldl_cons]
   exact Y5 (F:=fun b=>(ms.drop (k+1)).foldl (pz n.toNat) b) (hd _ (List.getElem_mem hk')) (dI (by omega)) (fun b=>ih (k+1) b (by omega) (by omega)) ms[k].1.length 0 b rfl (by omega)
theorem max2{n s g w d de:Int}{cold:List Bool}{modes:List Mode}(h:Ty.has c_ (n,s,g,w,d,de,cold,modes)):aD (w5 ah) (Vz ah n s g w d de cold modes) (gQ (n,s,g,w,d,de,cold,modes)):=
 af.2 ⟨rfl,af.2 ⟨rfl,Xl (kI h).2.2.1 (fun x hx=>((kI h).2.2.2 x hx).1) modes.length 0 _ rfl (by omega)⟩⟩
def JX:ap→Int:=gQ
def Pp:aC:=⟨[c_], [yI],(@tt ap),JX⟩
theorem Oq:Sd 172 Pp:=aJ au dC true 27 [⟨172,3, [[1,3,12,13,14]]⟩,⟨172,6, [[1,3,5,12,13,14,19,20,21]]⟩] [] (fun A (mNodes,mSlot,mGap,mWindow,mDrift,mDelay,mCold,mModes)=>Vz A mNodes mSlot mGap mWindow mDrift mDelay mCold mModes) w5 K4 (fc Tryz.func172 fz) (sc WB (sc UQ (sc J6 sz))) (fun A y=>match y with |.c0 p=>⟨31,by kernel_rfl,by kernel_rfl⟩|.c1 p b0 b6=>⟨69,by kernel_rfl,by kernel_rfl⟩) fun(mNodes,mSlot,mGap,mWindow,mDrift,mDelay,mCold,mModes) hp h=>max2 h
def t159(A:bu)(mNodes:Int)(mSlot:Int)(mGap:Int)(mWindow:Int)(mDrift:Int)(mDelay:Int)(mCold:List Bool)(mModes:List Mode):LT (Int×Int×Int) Empty:=.need (A.k (@tt ap) (mNodes,mSlot,mGap,mWindow,mDrift,mDelay,mCold,mModes)) (.ret ((A.b .add .i64 (A.b .mul .i64 (A.b .mul .i64 16 mNodes) mDrift) 16),(A.b .add .i64 (A.b .add .i64 (A.b .mul .i64 2 mWindow) (A.b .mul .i64 2 mDelay)) 4),(A.b .add .i64 (A.b .mul .i64 2 mGap) (A.k JX (mNodes,mSlot,mGap,mWindow,mDrift,mDelay,mCold,mModes)))))
def mD:ap→(Int×Int×Int):=fun(mNodes,mSlot,mGap,mWindow,mDrift,mDelay,mCold,mModes)=>(t159 ah mNodes mSlot mGap mWindow mDrift mDelay mCold mModes).val (Ty.bV [yI,yI,yI])
def Qq:aC:=⟨[c_], [yI,yI,yI],(@tt ap),mD⟩
theorem PU:Sd 94 Qq:=aK au dC true 50 [] (fun A (mNodes,mSlot,mGap,mWindow,mDrift,mDelay,mCold,mModes)=>t159 A mNodes mSlot mGap mWindow mDrift mDelay mCold mModes) (fc Tryz.func94 fz) (sc Oq sz) (fun((mNodes,mSlot,mGap,mWindow,mDrift,mDelay,mCold,mModes):ap) hp h=>by
 show(t159 ah mNodes mSlot mGap mWindow mDrift mDelay mCold mModes).pre=true
 simp[t159,LT.pre,al,cB])
theorem aM{R Y:Type}{step:Y→LT R Y}{t e:LT R Y}{r:R}{p:Prop}[Decidable p]{b:Bool}(hb:b=decide p)(ht:p→aD step t r)(he:¬p→aD step e r):aD step (.br b t e) r:=by
 by_cases h:p
 ·exact(aj (by rw[hb];simpa using h)).2 (ht h)
 ·exact(ai (by rw[hb];simpa using h)).2 (he h)
theorem ez{R Y:Type}{step:Y→LT R Y}{t e:LT R Y}{r:R}{x a b:Int}(ht:¬(a≤x∧x≤b)→aD step t r)(he:a≤x∧x≤b→aD step e r):aD step (.br (ah.not (ah.k dz (x,a,b))) t e) r:=by
 refine aM (p:=¬(a≤x∧x≤b)) ?_ ht (fun h=>he (Decidable.not_not.1 h))
 rw[a_,al,kH,←Bool.decide_and,←decide_not]
theorem vX{n:Int}:0≤nJ n∧nJ n≤2062:=by
 simp only[nJ,t173,LT.val,ao,aA,Bool.cond_eq_ite,decide_eq_true_eq]
 split
 ·omega
 ·split
  ·omega
  ·rw[bi,BL,bi,fU (a:=n+1) (by omega) (by omega)]
   have:(n+1).tdiv 2=(n+1)/2:=Int.tdiv_eq_ediv_of_nonneg (by omega)
   rw[this,fU (a:=(n+1)/2) (by omega) (by omega),fU (by omega) (by omega)]
   omega
theorem Gq{b:Int}{x:Int×Bool}(h:0≤b∧b≤2062):0≤uz b x∧uz b x≤2062:=by
 have:=vX (n:=lK (iU (x.2,x.1),x.1))
 unfold uz
 cases decide (0<lK (iU (x.2,x.1),x.1))
 ·exact h
 ·rw[QH,Ez];split<;>omega
theorem oi{α:Type}{f:Int→α→Int}(hf:∀b x,0≤b∧b≤2062→0≤f b x∧f b x≤2062):∀{l:List α} {b:Int},0≤b∧b≤2062→0≤l.foldl f b∧l.foldl f b≤2062
 | [],_,h=>h
 | x::l,b,h=>oi hf (l:=l) (hf b x h)
theorem wj{m:ap}:0≤gQ m∧gQ m≤2062:=oi (fun _ _ h=>oi (fun _ _ h=>Gq h) h) vX
def qf(n s g w d de mx:Int):Bool:=decide (0≤d∧d≤64∧0≤de∧de≤64∧16*n*d+16≤w∧w≤1048576∧2*w+2*de+4≤g∧g≤1048576∧2*g+mx≤s∧s≤16777216)
def dR(m:ap):Bool:=countB m&&m.2.2.2.2.2.2.2.all (jH m)&&qf m.1 m.2.1 m.2.2.1 m.2.2.2.1 m.2.2.2.2.1 m.2.2.2.2.2.1 (gQ m)
def mK(m:ap):Int:=bif dR m then 0 else 70
theorem K8{n d:Int}(h:4≤n∧n≤8)(h2:0≤d∧d≤64):ah.b .add .i64 (ah.b .mul .i64 (ah.b .mul .i64 16 n) d) 16=16*n*d+16:=by
 have h3:0≤16*n*d∧16*n*d≤8192:=by
  have:n=4∨n=5∨n=6∨n=7∨n=8:=by omega
  rcases this with rfl|rfl|rfl|rfl|rfl<;>omega
 rw[bi,nk,nk,fU (a:=16*n) (by omega) (by omega),fU (a:=16*n*d) (by omega) (by omega),fU (by omega) (by omega)]
theorem pT{n d:Int}(h:4≤n∧n≤8)(h2:0≤d∧d≤64):0≤16*n*d:=by
 have:n=4∨n=5∨n=6∨n=7∨n=8:=by omega
 rcases this with rfl|rfl|rfl|rfl|rfl<;>omega
theorem Lj{w de:Int}(h:0≤w∧w≤1048576)(h2:0≤de∧de≤64):ah.b .add .i64 (ah.b .add .i64 (ah.b .mul .i64 2 w) (ah.b .mul .i64 2 de)) 4=2*w+2*de+4:=by
 rw[bi,bi,nk,nk,fU (a:=2*w) (by omega) (by omega),fU (a:=2*de) (by omega) (by omega),fU (a:=2*w+2*de) (by omega) (by omega),fU (by omega) (by omega)]
theorem G_{g mx:Int}(h:0≤g∧g≤1048576)(h2:0≤mx∧mx≤2062):ah.b .add .i64 (ah.b .mul .i64 2 g) mx=2*g+mx:=by
 rw[bi,nk,fU (a:=2*g) (by omega) (by omega),fU (by omega) (by omega)]
theorem GJ{n s g w d de:Int}{cold:List Bool}{modes:List Mode}:mD (n,s,g,w,d,de,cold,modes)=(ah.b .add .i64 (ah.b .mul .i64 (ah.b .mul .i64 16 n) d) 16,ah.b .add .i64 (ah.b .add .i64 (ah.b .mul .i64 2 w) (ah.b .mul .i64 2 de)) 4,ah.b .add .i64 (ah.b .mul .i64 2 g) (gQ (n,s,g,w,d,de,cold,modes))):=rfl
open Go.Ev.Pl
structure K7 where
 (a0:List Mode) (a1 a3 a4 a5 a6 a7 a8:Int) (a9:List Bool) (b_:List Mode)
inductive Ju where
 | c0 (p:K7) (a2:Int)
noncomputable def L8:Ju→f_
 | .c0 p a2=>⟨[⟨171,19,(en [(0,.sl bA p.a0),(1,.fn 91 [] [.ptr 0 0]),(7,vi p.a1),(8,vi a2)]),[.inLoop (cw Tryz.f171 [1,0,1,0,0]),.inBlock 0,.code (cw Tryz.f171 [1,1])],[],none⟩,⟨90,9,.leaf,[.ops (ow Tryz.f90 [1,0]) ((ow Tryz.f90 [1,0]).toList.drop 2),.code .ret],[],none⟩,⟨42,65,(en [(1,.ptr 0 0)]),[.ops (ow Tryz.f42 [1,0,0,0,0,0,0,0,0,1,0,0]) ((ow Tryz.f42 [1,0,0,0,0,0,0,0,0,1,0,0]).toList.drop 3),.code (cw Tryz.f42 [1,0,0,0,0,0,0,0,0,1,0,1]),.code (cw Tryz.f42 [1,0,0,0,0,0,0,0,0,1,1]),.code (.exit 0),.inBlock 1,.inBlock 2,.inBlock 3,.inBlock 4,.code (cw Tryz.f42 [1,0,0,1]),.inBlock 0,.code (cw Tryz.f42 [1,1])],[],none⟩],[.flat false [vi p.a3,vi p.a4,vi p.a5,vi p.a6,vi p.a7,vi p.a8,.sl .bool p.a9,.sl bA p.b_],.dead]⟩
def t124(A:bu)(mNodes:Int)(mSlot:Int)(mGap:Int)(mWindow:Int)(mDrift:Int)(mDelay:Int)(mCold:List Bool)(mModes:List Mode):LT Int Ju:=.need (A.k (@tt ap) (mNodes,mSlot,mGap,mWindow,mDrift,mDelay,mCold,mModes)) (.br (A.not (A.k GV (mNodes,mSlot,mGap,mWindow,mDrift,mDelay,mCold,mModes))) (.ret 70) (.more (.c0 ⟨mModes,(A.l mModes),mNodes,mSlot,mGap,mWindow,mDrift,mDelay,mCold,mModes⟩ 0)))
def Dx(A:bu):Ju→LT Int Ju
 | .c0 p a2=>.br (A.c .lss a2 p.a1) (.need (A.and (A.c .leq 0 a2) (A.c .lss a2 (A.l p.a0))) (.need (A.k AJ ((p.a3,p.a4,p.a5,p.a6,p.a7,p.a8,p.a9,p.b_),(A.n bA p.a0 a2:Mode))) (.br (A.not (A.k Bm ((p.a3,p.a4,p.a5,p.a6,p.a7,p.a8,p.a9,p.b_),(A.n bA p.a0 a2:Mode)))) (.br (A.c .geq a2 0) (.ret 70) (.need (A.k (@tt (Int×Int×Int)) (p.a7,0,64)) (.br (A.not (A.k dz (p.a7,0,64))) (.ret 70) (.need (A.k (@tt (Int×Int×Int)) (p.a8,0,64)) (.br (A.not (A.k dz (p.a8,0,64))) (.ret 70) (.need (A.k (@tt (Int×Int×Int)) (p.a6,0,1048576)) (.br (A.not (A.k dz (p.a6,0,1048576))) (.ret 70) (.need (A.k (@tt (Int×Int×Int)) (p.a5,0,1048576)) (.br (A.not (A.k dz (p.a5,0,1048576))) (.ret 70) (.need (A.k (@tt (Int×Int×Int)) (p.a4,0,16777216)) (.br (A.not (A.k dz (p.a4,0,16777216))) (.ret 70) (.need (A.k (@tt ap) (p.a3,p.a4,p.a5,p.a6,p.a7,p.a8,p.a9,p.b_)) (.br (A.c .lss p.a6 (A.k mD (p.a3,p.a4,p.a5,p.a6,p.a7,p.a8,p.a9,p.b_)).1) (.ret 70) (.br (A.c .lss p.a5 (A.k mD (p.a3,p.a4,p.a5,p.a6,p.a7,p.a8,p.a9,p.b_)).2.1) (.ret 70) (.br (A.c .lss p.a4 (A.k mD (p.a3,p.a4,p.a5,p.a6,p.a7,p.a8,p.a9,p.b_)).2.2) (.ret 70) (.ret 0)))))))))))))))) (.more (.c0 p (A.b .add .i64 a2 1)))))) (.need (A.k (@tt (Int×Int×Int)) (p.a7,0,64)) (.br (A.not (A.k dz (p.a7,0,64))) (.ret 70) (.need (A.k (@tt (Int×Int×Int)) (p.a8,0,64)) (.br (A.not (A.k dz (p.a8,0,64))) (.ret 70) (.need (A.k (@tt (Int×Int×Int)) (p.a6,0,1048576)) (.br (A.not (A.k dz (p.a6,0,1048576))) (.ret 70) (.need (A.k (@tt (Int×Int×Int)) (p.a5,0,1048576)) (.br (A.not (A.k dz (p.a5,0,1048576))) (.ret 70) (.need (A.k (@tt (Int×Int×Int)) (p.a4,0,16777216)) (.br (A.not (A.k dz (p.a4,0,16777216))) (.ret 70) (.need (A.k (@tt ap) (p.a3,p.a4,p.a5,p.a6,p.a7,p.a8,p.a9,p.b_)) (.br (A.c .lss p.a6 (A.k mD (p.a3,p.a4,p.a5,p.a6,p.a7,p.a8,p.a9,p.b_)).1) (.ret 70) (.br (A.c .lss p.a5 (A.k mD (p.a3,p.a4,p.a5,p.a6,p.a7,p.a8,p.a9,p.b_)).2.1) (.ret 70) (.br (A.c .lss p.a4 (A.k mD (p.a3,p.a4,p.a5,p.a6,p.a7,p.a8,p.a9,p.b_)).2.2) (.ret 70) (.ret 0)))))))))))))))
theorem IC{n s g w d de:Int}{cold:List Bool}{modes:List Mode}{R:Int}(hn:4≤n∧n≤8)(hR:R=bif qf n s g w d de (gQ (n,s,g,w,d,de,cold,modes)) then 0 else 70) :
  aD (Dx ah) (.need (ah.k (@tt (Int×Int×Int)) (d,0,64)) (.br (ah.not (ah.k dz (d,0,64))) (.ret 70) (.need (ah.k (@tt (Int×Int×Int)) (de,0,64)) (.br (ah.not (ah.k dz (de,0,64))) (.ret 70) (.need (ah.k (@tt (Int×Int×Int)) (w,0,1048576)) (.br (ah.not (ah.k dz (w,0,1048576))) (.ret 70) (.need (ah.k (@tt (Int×Int×Int)) (g,0,1048576)) (.br (ah.not (ah.k dz (g,0,1048576))) (.ret 70) (.need (ah.k (@tt (Int×Int×Int)) (s,0,16777216)) (.br (ah.not (ah.k dz (s,0,16777216))) (.ret 70) (.need (ah.k (@tt ap) (n,s,g,w,d,de,cold,modes)) (.br (ah.c .lss w (ah.k mD (n,s,g,w,d,de,cold,modes)).1) (.ret 70) (.br (ah.c .lss g (ah.k mD (n,s,g,w,d,de,cold,modes)).2.1) (.ret 70) (.br (ah.c .lss s (ah.k mD (n,s,g,w,d,de,cold,modes)).2.2) (.ret 70) (.ret 0))))))))))))))) R:=by
 have hm:=wj (m:=(n,s,g,w,d,de,cold,modes))
 have no:∀{p:Prop} [Decidable p],¬p→decide p=false:=fun h=>by simpa using h
 rw[hR]
 refine af.2 ⟨rfl,ez (fun h=>aH ?_ (.ret _)) fun h1=>af.2 ⟨rfl,ez (fun h=>aH ?_ (.ret _)) fun h2=>af.2 ⟨rfl,ez (fun h=>aH ?_ (.ret _)) fun h3=>af.2 ⟨rfl,ez (fun h=>aH ?_ (.ret _)) fun h4=>af.2 ⟨rfl,ez (fun h=>aH ?_ (.ret _)) fun h5=>af.2 ⟨rfl,?_⟩⟩⟩⟩⟩⟩
 ·rw[qf,no (by omega)];rfl
 ·rw[qf,no (by omega)];rfl
 ·have:=fun h=>pT (n:=n) (d:=d) hn h
  rw[qf,no (by omega)];rfl
 ·have:=fun h=>pT (n:=n) (d:=d) hn h
  rw[qf,no (by omega)];rfl
 ·have:=fun h=>pT (n:=n) (d:=d) hn h
  rw[qf,no (by omega)];rfl
 ·have:=pT (n:=n) (d:=d) hn h1
  rw[al,GJ,K8 hn h1,Lj h3 h2,G_ h4 hm]
  refine aM (p:=w<16*n*d+16) rfl (fun h=>aH ?_ (.ret _)) fun h6=>aM (p:=g<2*w+2*de+4) rfl (fun h=>aH ?_ (.ret _)) fun h7=>aM (p:=s<2*g+gQ (n,s,g,w,d,de,cold,modes)) rfl (fun h=>aH ?_ (.ret _)) fun h8=>aH ?_ (.ret _)
  ·rw[qf,no (by omega)];rfl
  ·rw[qf,no (by omega)];rfl
  ·rw[qf,no (by omega)];rfl
  ·rw[qf,decide_eq_true (by omega)];rfl
theorem KC{n s g w d de:Int}{cold:List Bool}{modes:List Mode}(hl:modes.length≤140737488355328)(hc:(cold.length:Int)=n)(hn:4≤n∧n≤8):∀(j i:Nat),modes.length-i=j→i≤modes.length→
  aD (Dx ah) (.more (.c0 ⟨modes,(modes.length:Int),n,s,g,w,d,de,cold,modes⟩ (i:Int))) (bif (modes.drop i).all (jH (n,s,g,w,d,de,cold,modes))&&qf n s g w d de (gQ (n,s,g,w,d,de,cold,modes)) then 0 else 70):=by
 intro j
 induction j with
 | zero=>
   intro i hj hi
   have:i=modes.length:=by omega
   subst this
   rw[ak,Dx]
   refine(ai (by rw[aG];simp)).2 (IC hn ?_)
   rw[List.drop_length];rfl
 | succ j ih=>
   intro i hj hi
   have hi':i<modes.length:=by omega
   rw[ak,Dx]
   refine(aj (by rw[aG];simp;omega)).2 (af.2 ⟨bH hi',?_⟩)
   have e:(ah.n bA modes (i:Int):Mode)=modes[i]:=getD_in hi' _
   rw[e,List.drop_eq_getElem_cons hi',List.all_cons]
   refine af.2 ⟨by show((cold.length:Int)==n)=true;simpa using hc,?_⟩
   have hf:ah.k Bm ((n,s,g,w,d,de,cold,modes),modes[i])=jH (n,s,g,w,d,de,cold,modes) modes[i]:=rfl
   rw[hf]
   cases jH (n,s,g,w,d,de,cold,modes) modes[i]
   ·refine(aj rfl).2 ((aj (by rw[aI];simp)).2 (.ret _))
   ·refine(ai rfl).2 ?_
    rw[dI (i:=i) (by omega),Bool.true_and]
    exact ih (i+1) (by omega) (by omega)
theorem LK{n s g w d de:Int}{cold:List Bool}{modes:List Mode}(h:Ty.has c_ (n,s,g,w,d,de,cold,modes)):aD (Dx ah) (t124 ah n s g w d de cold modes) (mK (n,s,g,w,d,de,cold,modes)):=by
 unfold t124 mK dR
 refine af.2 ⟨rfl,?_⟩
 rw[show ah.k GV (n,s,g,w,d,de,cold,modes)=countB (n,s,g,w,d,de,cold,modes) from rfl]
 cases hc:countB (n,s,g,w,d,de,cold,modes)
 ·exact(aj rfl).2 (.ret _)
 ·refine(ai rfl).2 ?_
  simp only[countB,kH,Bool.and_eq_true,decide_eq_true_eq,beq_iff_eq] at hc
  exact KC (kI h).2.2.1 hc.1.2 hc.1.1.1 modes.length 0 rfl (by omega)
def kE:ap→Int:=mK
def Ug:aC:=⟨[c_], [yI],(@tt ap),kE⟩
theorem BW:Sd 42 Ug:=aJ au dC true 58 [⟨171,2, [[0,1,7,8], [], [1]]⟩] [] (fun A (mNodes,mSlot,mGap,mWindow,mDrift,mDelay,mCold,mModes)=>t124 A mNodes mSlot mGap mWindow mDrift mDelay mCold mModes) Dx L8 (fc Tryz.func42 (fc Tryz.func90 (fc Tryz.func91 (fc Tryz.func171 fz)))) (sc VF (sc Uj (sc yy (sc PU sz)))) (fun A y=>match y with |.c0 p a2=>⟨136,by kernel_rfl,by kernel_rfl⟩) fun(mNodes,mSlot,mGap,mWindow,mDrift,mDelay,mCold,mModes) hp h=>LK h
open Go.Ev.Pl
def Hz(A:bu)(explicit:Bool)(data:Int):LT Int Empty:=.br (A.not explicit) (.ret 2) (.br (A.c .gtr data 0) (.ret 4) (.ret 3))
def v_:(Bool×Int)→Int:=fun(explicit,data)=>(Hz ah explicit data).val (Ty.bV [yI])
def Vd:aC:=⟨[.bool,yI], [yI],(@tt (Bool×Int)),v_⟩
theorem QN:Sd 161 Vd:=aK au dC true 30 [] (fun A (explicit,data)=>Hz A explicit data) (fc Tryz.func161 fz) sz (fun((explicit,data):Bool×Int) hp h=>by
 show(Hz ah explicit data).pre=true
 simp[Hz,LT.pre,al,cB])
def Hd(A:bu)(n:Int):LT Int Empty:=.br (A.c .lss n 0) (.ret 0) (.br (A.c .gtr n 4095) (.ret 0) (.ret (A.b .add .i64 14 (A.b .quo .i64 (A.b .add .i64 n 1) 2))))
def BA:Int→Int:=fun n=>(Hd ah n).val (Ty.bV [yI])
def Tc:aC:=⟨[yI], [yI],(@tt Int),BA⟩
theorem VG:Sd 159 Tc:=aK au dC true 30 [] (fun A n=>Hd A n) (fc Tryz.func159 fz) sz (fun(n:Int) hp h=>by
 show(Hd ah n).pre=true
 simp[Hd,LT.pre,al,cB])
def ME:List Bool→List Bool→Bool
 | c::cs,e::es=>(!c||e)&&ME cs es
 | _,_=>true
theorem uf:∀{ds:List Int} {cs es:List Bool},cs.length=ds.length→es.length=ds.length→nu ds cs es=(ds.all (fun d=>decide (0≤d)&&decide (d≤8))&&ME cs es)
 | [], [], [],_,_=>rfl
 | d::ds,c::cs,e::es,h1,h2=>by
   rw[nu,uf (ds:=ds) (by simpa using h1) (by simpa using h2),List.all_cons,ME]
   cases (decide (0≤d)&&decide (d≤8))<;>cases (!c||e)<;>simp
 | [],_::_,_,h,_=>by cases h
 | [], [],_::_,_,h=>by cases h
 | _::_, [],_,h,_=>by cases h
 | _::_,_::_, [],_,h=>by cases h
structure KX where
 (a0 a1 a2 a3 a4 a5 a6 a7:Int) (a8:List Bool) (a9:List Mode)
structure M5 where
 (b1 b3 b4 b5 b6 b7 b8:Int) (b9:List Bool) (b10:List Mode) (b11:List Int) (b12 b13:List Bool)
inductive Ir where
 | c0 (p:KX)
 | c1 (p:M5) (b0:Int) (b2:Int)
noncomputable def KU:Ir→f_
 | .c0 p=>⟨[⟨82,66,(en [(1,.ptr 0 0),(3,vi p.a0),(4,vi p.a1)]),[.inLoop (cw Tryz.f82 [1,1,0,1,0,0]),.inBlock 0,.code (cw Tryz.f82 [1,1,1])],[],none⟩],[.flat false [vi p.a2,vi p.a3,vi p.a4,vi p.a5,vi p.a6,vi p.a7,.sl .bool p.a8,.sl bA p.a9],.dead]⟩
 | .c1 p b0 b2=>⟨[⟨82,66,(en [(1,.ptr 0 0),(3,vi b0),(4,vi p.b1),(5,.ptr 1 0),(6,vi b2)]),[.inLoop (cw Tryz.f82 [1,1,0,1,0,0,1,0,0,1,1,0,0]),.inBlock 2,.inBlock 1,.code (cw Tryz.f82 [1,1,0,1,0,0,1,1]),.inLoop (cw Tryz.f82 [1,1,0,1,0,0]),.inBlock 0,.code (cw Tryz.f82 [1,1,1])],[],none⟩],[.flat false [vi p.b3,vi p.b4,vi p.b5,vi p.b6,vi p.b7,vi p.b8,.sl .bool p.b9,.sl bA p.b10],.flat false [.sl yI p.b11,.sl .bool p.b12,.sl .bool p.b13],.dead]⟩
def MB(A:bu)(mNodes:Int)(mSlot:Int)(mGap:Int)(mWindow:Int)(mDrift:Int)(mDelay:Int)(mCold:List Bool)(mModes:List Mode):LT Int Ir:=.need (A.k (@tt (Int×Int)) (1,0)) (.need (A.k (@tt Int) (A.k ym (1,0))) (.more (.c0 ⟨(A.k BA (A.k ym (1,0))),0,mNodes,mSlot,mGap,mWindow,mDrift,mDelay,mCold,mModes⟩)))
def xh(A:bu):Ir→LT Int Ir
 | .c0 p=>.br (A.c .lss p.a1 (A.l p.a9)) (.need (A.and (A.c .leq 0 p.a1) (A.c .lss p.a1 (A.l p.a9))) (.more (.c1 ⟨p.a1,p.a2,p.a3,p.a4,p.a5,p.a6,p.a7,p.a8,p.a9,(A.n bA p.a9 p.a1:Mode).1,(A.n bA p.a9 p.a1:Mode).2.1,(A.n bA p.a9 p.a1:Mode).2.2⟩ p.a0 0))) (.ret p.a0)
 | .c1 p b0 b2=>.br (A.c .lss b2 (A.l p.b11)) (.br (A.c .lss b2 (A.l p.b12)) (.br (A.c .lss b2 p.b3) (.need (A.and (A.c .leq 0 b2) (A.c .lss b2 (A.l p.b12))) (.need (A.and (A.c .leq 0 b2) (A.c .lss b2 (A.l p.b11))) (.need (A.k (@tt (Bool×Int)) ((A.n .bool p.b12 b2:Bool),(A.n yI p.b11 b2:Int))) (.need (A.and (A.c .leq 0 b2) (A.c .lss b2 (A.l p.b11))) (.need (A.k (@tt (Int×Int)) ((A.k v_ ((A.n .bool p.b12 b2:Bool),(A.n yI p.b11 b2:Int))),(A.n yI p.b11 b2:Int))) (.br (A.c .gtr (A.k ym ((A.k v_ ((A.n .bool p.b12 b2:Bool),(A.n yI p.b11 b2:Int))),(A.n yI p.b11 b2:Int))) 0) (.need (A.k (@tt Int) (A.k ym ((A.k v_ ((A.n .bool p.b12 b2:Bool),(A.n yI p.b11 b2:Int))),(A.n yI p.b11 b2:Int)))) (.more (.c1 p (A.mx b0 (A.k BA (A.k ym ((A.k v_ ((A.n .bool p.b12 b2:Bool),(A.n yI p.b11 b2:Int))),(A.n yI p.b11 b2:Int))))) (A.b .add .i64 b2 1)))) (.more (.c1 p b0 (A.b .add .i64 b2 1))))))))) (.more (.c0 ⟨b0,(A.b .add .i64 p.b1 1),p.b3,p.b4,p.b5,p.b6,p.b7,p.b8,p.b9,p.b10⟩))) (.more (.c0 ⟨b0,(A.b .add .i64 p.b1 1),p.b3,p.b4,p.b5,p.b6,p.b7,p.b8,p.b9,p.b10⟩))) (.more (.c0 ⟨b0,(A.b .add .i64 p.b1 1),p.b3,p.b4,p.b5,p.b6,p.b7,p.b8,p.b9,p.b10⟩))
theorem EE:v_=iU:=rfl
theorem zP:BA=nJ:=rfl
theorem Cf:ym=lK:=funext fun⟨k,d⟩=>by rw[yH.1,yH.2]
theorem Q9{n s g w d de:Int}{cold expl next:List Bool}{modes:List Mode}{data:List Int}{k k1:Int}{F:Int→Int}(hl:data.length≤140737488355328)(hk:ah.b .add .i64 k 1=k1)(hnext:∀b,aD (xh ah) (.more (.c0 ⟨b,k1,n,s,g,w,d,de,cold,modes⟩)) (F b)) :
  ∀(j i:Nat) (b:Int),data.length-i=j→i≤data.length→aD (xh ah) (.more (.c1 ⟨k,n,s,g,w,d,de,cold,modes,data,expl,next⟩ b (i:Int))) (F ((((data.zip expl).take n.toNat).drop i).foldl uz b)):=by
 intro j
 induction j with
 | zero=>
   intro i b hj hi
   have:i=data.length:=by omega
   subst this
   rw[ak,xh]
   refine(ai (by rw[kv,aG];simp)).2 ?_
   rw[qM (.inr (.inr (Nat.le_refl _))),hk]
   exact hnext b
 | succ j ih=>
   intro i b hj hi
   have hi':i<data.length:=by omega
   rw[ak,xh]
   refine(aj (by rw[kv,aG];simp;omega)).2 ?_
   have hm:=fun b=>ih (i+1) b (by omega) (by omega)
   by_cases h2:i<expl.length
   ·refine(aj (by rw[kv,aG];simpa using h2)).2 ?_
    by_cases h3:(i:Int)<n
    ·refine(aj (by rw[Bs];simpa using h3)).2 (af.2 ⟨bH (show i<expl.length from h2),af.2 ⟨bH hi',af.2 ⟨rfl,af.2 ⟨bH hi',af.2 ⟨rfl,?_⟩⟩⟩⟩⟩)
     rw[EZ hi' h2 h3,List.foldl_cons,FV,←Ms hi',←yt h2,dI (i:=i) (by omega),EE,Cf,zP]
     cases hb:ah.c .gtr (ah.k lK ((ah.k iU ((ah.n .bool expl (i:Int):Bool),(ah.n (.int .i64) data (i:Int):Int))),(ah.n (.int .i64) data (i:Int):Int))) 0
     ·exact(ai rfl).2 (hm _)
     ·exact(aj rfl).2 (af.2 ⟨rfl,hm _⟩)
    ·refine(ai (by rw[Bs];simpa using h3)).2 ?_
     rw[qM (.inr (.inl (by omega))),hk];exact hnext b
   ·refine(ai (by rw[kv,aG];simpa using h2)).2 ?_
    rw[qM (.inl (by omega)),hk];exact hnext b
theorem Vq{n s g w d de:Int}{cold:List Bool}{modes:List Mode}(hl:modes.length≤140737488355328)(hd:∀x∈modes,x.1.length≤140737488355328) :
  ∀(j k:Nat) (b:Int),modes.length-k=j→k≤modes.length→aD (xh ah) (.more (.c0 ⟨b,(k:Int),n,s,g,w,d,de,cold,modes⟩)) ((modes.drop k).foldl (pz n.toNat) b):=by
 intro j
 induction j with
 | zero=>
   intro k b hj hk
   have:k=modes.length:=by omega
   subst this
   rw[ak,xh]
   refine(ai (by rw[kv,aG];simp)).2 ?_
   rw[List.drop_length]
   exact .ret _
 | succ j ih=>
   intro k b hj hk
   have hk':k<modes.length:=by omega
   rw[ak,xh]
   refine(aj (by rw[kv,aG];simp;omega)).2 (af.2 ⟨bH hk',?_⟩)
   rw[show(ah.n bA modes (k:Int):Mode)=modes[k] from getD_in hk' _,List.drop_eq_getElem_cons hk',List.foldl_cons]
   exact Q9 (F:=fun b=>(modes.drop (k+1)).foldl (pz n.toNat) b) (hd _ (List.getElem_mem hk')) (dI (by omega)) (fun b=>ih (k+1) b (by omega) (by omega)) modes[k].1.length 0 b rfl (by omega)
theorem P_{n s g w d de:Int}{cold:List Bool}{modes:List Mode}(h:Ty.has c_ (n,s,g,w,d,de,cold,modes)):aD (xh ah) (MB ah n s g w d de cold modes) (gQ (n,s,g,w,d,de,cold,modes)):=by
 unfold MB
 rw[Cf,zP]
 exact af.2 ⟨rfl,af.2 ⟨rfl,Vq (kI h).2.2.1 (fun x hx=>((kI h).2.2.2 x hx).1) modes.length 0 _ rfl (by omega)⟩⟩
def yQ:ap→Int:=gQ
def OS:aC:=⟨[c_], [yI],(@tt ap),yQ⟩
theorem OC:Sd 82 OS:=aJ au dC true 24 [⟨82,3, [[1,3,4]]⟩,⟨82,7, [[1,3,4,5,6]]⟩] [] (fun A (mNodes,mSlot,mGap,mWindow,mDrift,mDelay,mCold,mModes)=>MB A mNodes mSlot mGap mWindow mDrift mDelay mCold mModes) xh KU (fc Tryz.func82 fz) (sc YK (sc VG (sc QN sz))) (fun A y=>match y with |.c0 p=>⟨35,by kernel_rfl,by kernel_rfl⟩|.c1 p b0 b2=>⟨72,by kernel_rfl,by kernel_rfl⟩) fun(mNodes,mSlot,mGap,mWindow,mDrift,mDelay,mCold,mModes) hp h=>P_ h
end Go.Ev.M
