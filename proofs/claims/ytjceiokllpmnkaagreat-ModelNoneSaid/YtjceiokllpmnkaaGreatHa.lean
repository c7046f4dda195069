/-
  PROVED: what medl.Check and metronomeref07.Check compute. Conditions: none.
-/
import Derived.Test.YtjceiokllpmnkaaGreatFc
namespace Go.Ev.M
open Go.Proofs
set_option maxRecDepth 100000
set_option linter.unusedVariables false
set_option linter.unusedSimpArgs false
open Go.Ev.Pl
abbrev q9:Ty:=(.struct [yI,yI,yI,yI,yI])
abbrev eG:Type:=Int×Int×Int×Int×Int
abbrev uQ:Ty:=(.struct [yI,yI,yI,yI,yI,yI,yI])
abbrev kw:Type:=Int×Int×Int×Int×Int×Int×Int
abbrev MU:Ty:=(.struct [yI,yB])
abbrev Bits:Type:=Int×List Int
abbrev GB:Ty:=(.struct [yI,yI,q9,yI,yB])
abbrev vX:Type:=Int×Int×eG×Int×List Int
abbrev ID:Ty:=(.struct [yI,yI,MU])
abbrev Seen:Type:=Int×Int×Bits
abbrev yc:Ty:=(.struct [yI,yI,yI,GB,yI])
abbrev kg:Type:=Int×Int×Int×vX×Int
abbrev bE:Ty:=(.struct [mY,(.slice .bool),(.slice .bool)])
abbrev Mode:Type:=List Int×List Bool×List Bool
abbrev cr:Ty:=(.struct [yI,yI,yI,yI,yI,yI,(.slice .bool),(.slice bE)])
abbrev ax:Type:=Int×Int×Int×Int×Int×Int×List Bool×List Mode
abbrev df:Ty:=(.struct [yB,yI])
abbrev cd:Type:=List Int×Int
abbrev nR:Ty:=(.struct [yI,yB,(.slice df),yI,yI])
abbrev dQ:Type:=Int×List Int×List cd×Int×Int
abbrev dH:Ty:=(.struct [yI,yI,q9,uQ,yI,.bool,yI,nR])
abbrev Node:Type:=Int×Int×eG×kw×Int×Bool×Int×dQ
abbrev VC:Ty:=(.struct [yI,yI,yI,yI,yI,yB])
abbrev YV:Type:=Int×Int×Int×Int×Int×List Int
def D_(A:bK)(n:Int)(least:Int)(most:Int):LT Bool Empty:=.br (A.c .geq n least) (.ret (A.c .leq n most)) (.ret false)
def dx:(Int×Int×Int)→Bool:=fun(n,least,most)=>(D_ ai n least most).val (Ty.cq [.bool])
def Uj:aG:=⟨[yI,yI,yI], [.bool],(@tt (Int×Int×Int)),dx⟩
theorem xQ:Sd 93 Uj:=aO aA dY true 22 [] (fun A (n,least,most)=>D_ A n least most) (fc Tryz.func93 fz) sz (fun((n,least,most):Int×Int×Int) hp h=>by
 show(D_ ai n least most).pre=true
 simp[D_,LT.pre,al,dh])
theorem kD{x a b:Int}:dx (x,a,b)=(decide (a≤x)&&decide (x≤b)):=by
 simp only[dx,D_,LT.val,aS,ay]
 cases decide (a≤x)<;>rfl
theorem O8{α:Type}{x y:α}:(bif true then x else y)=x:=rfl
theorem zq{l:List Bool}{i:Nat}(h:i<l.length):(ai.n .bool l (i:Int):Bool)=l[i]:=getD_in h _
theorem Mr{l:List Int}{i:Nat}(h:i<l.length):(ai.n (.int .i64) l (i:Int):Int)=l[i]:=getD_in h _
theorem pj{α:Type}{l:List α}:ai.l l=(l.length:Int):=rfl
theorem oA{n s g w d de:Int}{cold:List Bool}{modes:List Mode}(h:Ty.has cr (n,s,g,w,d,de,cold,modes)):(-9223372036854775808≤n∧n≤9223372036854775807)∧cold.length≤140737488355328∧modes.length≤140737488355328∧∀x∈modes,x.1.length≤140737488355328∧x.2.1.length≤140737488355328∧∀d∈x.1,IntKind.i64.has d:=by
 obtain⟨h1,_,_,_,_,_,h2,h3⟩:=h
 exact⟨h1,h2.1,h3.1,fun x hx=>⟨(h3.2 x hx).1.1,(h3.2 x hx).2.1.1,(h3.2 x hx).1.2⟩⟩
structure JC where
 (a1:List Bool) (a2 a4 a5 a6 a7 a8 a9:Int) (fw:List Bool) (jK:List Mode)
inductive EL where
 | c0 (p:JC) (a0:Int) (a3:Int)
noncomputable def KZ:EL→ei
 | .c0 p a0 a3=>⟨[⟨89,38,(en [(1,.ptr 0 0),(3,vi a0),(7,.sl .bool p.a1),(8,vi p.a2),(9,vi a3)]),[.inLoop (cw Tryz.f89 [1,1,0,1,0,0]),.inBlock 0,.code (cw Tryz.f89 [1,1,1])],[],none⟩],[.flat false [vi p.a4,vi p.a5,vi p.a6,vi p.a7,vi p.a8,vi p.a9,.sl .bool p.fw,.sl bE p.jK],.dead]⟩
def t154(A:bK)(mNodes:Int)(mSlot:Int)(mGap:Int)(mWindow:Int)(mDrift:Int)(mDelay:Int)(mCold:List Bool)(mModes:List Mode):LT Bool EL:=.more (.c0 ⟨mCold,(A.l mCold),mNodes,mSlot,mGap,mWindow,mDrift,mDelay,mCold,mModes⟩ 0 0)
def E2(A:bK):EL→LT Bool EL
 | .c0 p a0 a3=>.br (A.c .lss a3 p.a2) (.need (A.and (A.c .leq 0 a3) (A.c .lss a3 (A.l p.a1))) (.br (A.n .bool p.a1 a3:Bool) (.more (.c0 p (A.b .add .i64 a0 1) (A.b .add .i64 a3 1))) (.more (.c0 p a0 (A.b .add .i64 a3 1))))) (.need (A.k (@tt (Int×Int×Int)) (p.a4,4,8)) (.br (A.k dx (p.a4,4,8)) (.need (A.k (@tt (Int×Int×Int)) ((A.l p.jK),1,4)) (.br (A.k dx ((A.l p.jK),1,4)) (.br (A.c .eql (A.l p.fw) p.a4) (.ret (A.c .geq a0 2)) (.ret false)) (.ret false))) (.ret false)))
def countB(m:ax):Bool:=dx (m.1,4,8)&&dx ((m.2.2.2.2.2.2.2.length:Int),1,4)&&((m.2.2.2.2.2.2.1.length:Int)==m.1)&&decide (2≤(m.2.2.2.2.2.2.1.count true:Int))
theorem LA{n s g w d de:Int}{cold:List Bool}{modes:List Mode}(hl:cold.length≤140737488355328):∀(j i c:Nat),cold.length-i=j→i≤cold.length→c≤i→
  aK (E2 ai) (.more (.c0 ⟨cold,(cold.length:Int),n,s,g,w,d,de,cold,modes⟩ (c:Int) (i:Int))) (dx (n,4,8)&&dx ((modes.length:Int),1,4)&&((cold.length:Int)==n)&&decide (2≤((c+(cold.drop i).count true:Nat):Int))):=by
 intro j
 induction j with
 | zero=>
   intro i c hj hi hc
   have:i=cold.length:=by omega
   subst this
   rw[ap,E2]
   refine(aj (by rw[aT];simp)).2 ?_
   rw[List.drop_length]
   simp only[af,al,dh,true_and]
   cases dx (n,4,8)
   ·exact(aj rfl).2 (.ret _)
   refine(ak rfl).2 ?_
   simp only[af,al,dh,true_and,pj]
   cases dx ((modes.length:Int),1,4)
   ·exact(aj rfl).2 (.ret _)
   refine(ak rfl).2 ?_
   rw[aC]
   cases ((cold.length:Int)==n)
   ·exact(aj rfl).2 (.ret _)
   refine(ak rfl).2 ?_
   rw[aS]
   exact .ret _
 | succ j ih=>
   intro i c hj hi hc
   have hi':i<cold.length:=by omega
   rw[ap,E2]
   refine(ak (by rw[aT];simp;omega)).2 (af.2 ⟨cB hi',?_⟩)
   rw[List.drop_eq_getElem_cons hi',List.count_cons]
   cases hb:cold[i]
   ·refine(aj ((zq hi').trans hb)).2 ?_
    refine bD (congrArg (fun z=>LT.more (EL.c0 _ _ z)) (fe (by omega))) (aI ?_ (ih (i+1) c (by omega) (by omega) (by omega)))
    simp
   ·refine(ak ((zq hi').trans hb)).2 ?_
    rw[fe (i:=c) (by omega),fe (i:=i) (by omega)]
    refine aI ?_ (ih (i+1) (c+1) (by omega) (by omega) (by omega))
    simp[Nat.add_assoc,Nat.add_comm 1]
theorem LG{n s g w d de:Int}{cold:List Bool}{modes:List Mode}(h:Ty.has cr (n,s,g,w,d,de,cold,modes)):aK (E2 ai) (t154 ai n s g w d de cold modes) (countB (n,s,g,w,d,de,cold,modes)):=
 aI (by simp[countB]) (LA (oA h).2.1 cold.length 0 0 rfl (by omega) (by omega))
def Dg:ax→Bool:=countB
def N1:aG:=⟨[cr], [.bool],(@tt ax),Dg⟩
theorem Tb:Sd 89 N1:=aQ aA dY true 25 [⟨89,3, [[1,3,7,8,9]]⟩] [] (fun A (mNodes,mSlot,mGap,mWindow,mDrift,mDelay,mCold,mModes)=>t154 A mNodes mSlot mGap mWindow mDrift mDelay mCold mModes) E2 KZ (fc Tryz.func89 fz) (sc xQ sz) (fun A y=>match y with |.c0 p a0 a3=>⟨38,by kernel_rfl,by kernel_rfl⟩) fun(mNodes,mSlot,mGap,mWindow,mDrift,mDelay,mCold,mModes) hp h=>LG h
structure LU where
 (a0:List Int) (a1 a3 a4 a5 a6 a7 a8:Int) (a9:List Bool) (fw:List Mode) (jK:List Int) (a12 wi:List Bool)
inductive CK where
 | c0 (p:LU) (a2:Int)
noncomputable def K7:CK→ei
 | .c0 p a2=>⟨[⟨92,57,(en [(2,.ptr 0 0),(3,.ptr 1 0),(31,.sl yI p.a0),(32,vi p.a1),(33,vi a2)]),[.inLoop (cw Tryz.f92 [1,1,0,1,0,0]),.inBlock 0,.code (cw Tryz.f92 [1,1,1])],[],none⟩],[.flat false [vi p.a3,vi p.a4,vi p.a5,vi p.a6,vi p.a7,vi p.a8,.sl .bool p.a9,.sl bE p.fw],.flat false [.sl yI p.jK,.sl .bool p.a12,.sl .bool p.wi],.dead]⟩
def t157(A:bK)(mNodes:Int)(mSlot:Int)(mGap:Int)(mWindow:Int)(mDrift:Int)(mDelay:Int)(mCold:List Bool)(mModes:List Mode)(xData:List Int)(xExplicit:List Bool)(xNext:List Bool):LT Bool CK:=.br (A.c .neq (A.l xData) mNodes) (.ret false) (.br (A.c .neq (A.l xExplicit) mNodes) (.ret false) (.br (A.c .neq (A.l xNext) (A.l mModes)) (.ret false) (.more (.c0 ⟨xData,(A.l xData),mNodes,mSlot,mGap,mWindow,mDrift,mDelay,mCold,mModes,xData,xExplicit,xNext⟩ 0))))
def Cy(A:bK):CK→LT Bool CK
 | .c0 p a2=>.br (A.c .lss a2 p.a1) (.need (A.and (A.c .leq 0 a2) (A.c .lss a2 (A.l p.a0))) (.need (A.k (@tt (Int×Int×Int)) ((A.n yI p.a0 a2:Int),0,8)) (.br (A.not (A.k dx ((A.n yI p.a0 a2:Int),0,8))) (.ret false) (.need (A.and (A.c .leq 0 a2) (A.c .lss a2 (A.l p.a9))) (.br (A.n .bool p.a9 a2:Bool) (.need (A.and (A.c .leq 0 a2) (A.c .lss a2 (A.l p.a12))) (.br (A.not (A.n .bool p.a12 a2:Bool)) (.ret false) (.more (.c0 p (A.b .add .i64 a2 1))))) (.more (.c0 p (A.b .add .i64 a2 1)))))))) (.ret true)
def mE:List Int→List Bool→List Bool→Bool
 | d::ds,c::cs,e::es=>(decide (0≤d)&&decide (d≤8))&&(!c||e)&&mE ds cs es
 | _,_,_=>true
def jQ(m:ax)(x:Mode):Bool:=((x.1.length:Int)==m.1)&&((x.2.1.length:Int)==m.1)&&(x.2.2.length==m.2.2.2.2.2.2.2.length)&&mE x.1 m.2.2.2.2.2.2.1 x.2.1
theorem M6{n s g w d de:Int}{cold expl next:List Bool}{modes:List Mode}{data:List Int}(hl:data.length≤140737488355328)(hc:cold.length=data.length)(he:expl.length=data.length):∀(j i:Nat),data.length-i=j→i≤data.length→
  aK (Cy ai) (.more (.c0 ⟨data,(data.length:Int),n,s,g,w,d,de,cold,modes,data,expl,next⟩ (i:Int))) (mE (data.drop i) (cold.drop i) (expl.drop i)):=by
 intro j
 induction j with
 | zero=>
   intro i hj hi
   have:i=data.length:=by omega
   subst this
   rw[ap,Cy]
   refine(aj (by rw[aT];simp)).2 ?_
   rw[List.drop_length]
   exact .ret _
 | succ j ih=>
   intro i hj hi
   have hi':i<data.length:=by omega
   rw[ap,Cy]
   refine(ak (by rw[aT];simp;omega)).2 (af.2 ⟨cB hi',af.2 ⟨rfl,?_⟩⟩)
   rw[List.drop_eq_getElem_cons hi',List.drop_eq_getElem_cons (show i<cold.length by omega),List.drop_eq_getElem_cons (show i<expl.length by omega),mE]
   have hm:=ih (i+1) (by omega) (by omega)
   have hw:ai.k dx ((ai.n (.int .i64) data (i:Int):Int),0,8)=(decide (0≤data[i])&&decide (data[i]≤8)):=by
    rw[al,Mr hi',kD]
   cases hw':(decide (0≤data[i])&&decide (data[i]≤8))
   ·exact(ak (by rw[hw,hw'];rfl)).2 (.ret _)
   refine(aj (by rw[hw,hw'];rfl)).2 (af.2 ⟨cB (show i<cold.length by omega),?_⟩)
   cases hcb:cold[i]
   ·refine(aj ((zq (show i<cold.length by omega)).trans hcb)).2 ?_
    exact bD (congrArg (fun z=>LT.more (CK.c0 _ z)) (fe (by omega))) hm
   ·refine(ak ((zq (show i<cold.length by omega)).trans hcb)).2 (af.2 ⟨cB (show i<expl.length by omega),?_⟩)
    cases heb:expl[i]
    ·exact(ak (by rw[zq (show i<expl.length by omega),heb];rfl)).2 (.ret _)
    ·refine(aj (by rw[zq (show i<expl.length by omega),heb];rfl)).2 ?_
     exact bD (congrArg (fun z=>LT.more (CK.c0 _ z)) (fe (by omega))) hm
theorem Qx{n s g w d de:Int}{cold expl next:List Bool}{modes:List Mode}{data:List Int}(hl:data.length≤140737488355328)(hc:(cold.length:Int)=n) :
  aK (Cy ai) (t157 ai n s g w d de cold modes data expl next) (jQ (n,s,g,w,d,de,cold,modes) (data,expl,next)):=by
 unfold t157 jQ
 simp only[pj]
 by_cases h1:(data.length:Int)=n
 ·refine(aj (cH h1)).2 ?_
  by_cases h2:(expl.length:Int)=n
  ·refine(aj (cH h2)).2 ?_
   by_cases h3:(next.length:Int)=modes.length
   ·refine(aj (cH h3)).2 (aI ?_ (M6 hl (by omega) (by omega) data.length 0 rfl (by omega)))
    rw[beq_iff_eq.2 h1,beq_iff_eq.2 h2,beq_iff_eq.2 (show next.length=modes.length by omega)];rfl
   ·refine(ak (fx h3)).2 (aI ?_ (.ret _))
    rw[beq_eq_false_iff_ne.2 (show next.length≠modes.length by omega),Bool.and_false,Bool.false_and]
  ·refine(ak (fx h2)).2 (aI ?_ (.ret _))
   rw[beq_eq_false_iff_ne.2 h2,Bool.and_false];rfl
 ·refine(ak (fx h1)).2 (aI ?_ (.ret _))
  rw[beq_eq_false_iff_ne.2 h1];rfl
def Bn:(ax×Mode)→Bool:=fun(m,x)=>jQ m x
def zo:(ax×Mode)→Bool:=fun(m,_)=>(m.2.2.2.2.2.2.1.length:Int)==m.1
def TS:aG:=⟨[cr,bE], [.bool],zo,Bn⟩
theorem PQ:Sd 92 TS:=aQ aA dY true 51 [⟨92,4, [[2,3,31,32,33]]⟩] [] (fun A ((mNodes,mSlot,mGap,mWindow,mDrift,mDelay,mCold,mModes),xData,xExplicit,xNext)=>t157 A mNodes mSlot mGap mWindow mDrift mDelay mCold mModes xData xExplicit xNext) Cy K7 (fc Tryz.func92 fz) (sc xQ sz) (fun A y=>match y with |.c0 p a2=>⟨51,by kernel_rfl,by kernel_rfl⟩) fun(((mNodes,mSlot,mGap,mWindow,mDrift,mDelay,mCold,mModes),xData,xExplicit,xNext):ax×Mode) hp h=>by
 show aK (Cy ai) (t157 ai mNodes mSlot mGap mWindow mDrift mDelay mCold mModes xData xExplicit xNext) (Bn ((mNodes,mSlot,mGap,mWindow,mDrift,mDelay,mCold,mModes),xData,xExplicit,xNext))
 exact Qx h.2.1.1 (by simpa [zo] using hp)
open Go.Ev.Pl
def t183(A:bK)(explicit:Bool)(data:Int):LT Int Empty:=.br (A.not explicit) (.ret 2) (.br (A.c .gtr data 0) (.ret 4) (.ret 3))
def jP:(Bool×Int)→Int:=fun(explicit,data)=>(t183 ai explicit data).val (Ty.cq [yI])
def TL:aG:=⟨[.bool,yI], [yI],(@tt (Bool×Int)),jP⟩
theorem Jn:Sd 182 TL:=aO aA dY true 32 [] (fun A (explicit,data)=>t183 A explicit data) (fc Tryz.func182 fz) sz (fun((explicit,data):Bool×Int) hp h=>by
 show(t183 ai explicit data).pre=true
 simp[t183,LT.pre,al,dh])
def t173(A:bK)(n:Int):LT Int Empty:=.br (A.c .lss n 0) (.ret 0) (.br (A.c .gtr n 4095) (.ret 0) (.ret (A.b .add .i64 14 (A.b .quo .i64 (A.b .add .i64 n 1) 2))))
def nV:Int→Int:=fun n=>(t173 ai n).val (Ty.cq [yI])
def Nc:aG:=⟨[yI], [yI],(@tt Int),nV⟩
theorem SJ:Sd 234 Nc:=aO aA dY true 30 [] (fun A n=>t173 A n) (fc Tryz.func234 fz) sz (fun(n:Int) hp h=>by
 show(t173 ai n).pre=true
 simp[t173,LT.pre,al,dh])
structure Le where
 (a0:Int) (a1:List Mode) (a2 a3 a4 a5 a6 a7 a8 a9:Int) (fw:List Bool) (jK:List Mode)
structure Km where
 (b1:List Mode) (b2 b3:Int) (b4:List Int) (b5 b7 b8 b9 b10 b11 b12:Int) (b13:List Bool) (vW:List Mode) (wW:List Int) (cZ kh:List Bool)
inductive Gq where
 | c0 (p:Le)
 | c1 (p:Km) (b0:Int) (b6:Int)
noncomputable def JB:Gq→ei
 | .c0 p=>⟨[⟨172,55,(en [(1,.ptr 0 0),(3,vi p.a0),(12,.sl bE p.a1),(13,vi p.a2),(14,vi p.a3)]),[.inLoop (cw Tryz.f172 [1,1,0,1,0,0]),.inBlock 0,.code (cw Tryz.f172 [1,1,1])],[],none⟩],[.flat false [vi p.a4,vi p.a5,vi p.a6,vi p.a7,vi p.a8,vi p.a9,.sl .bool p.fw,.sl bE p.jK],.dead]⟩
 | .c1 p b0 b6=>⟨[⟨172,55,(en [(1,.ptr 0 0),(3,vi b0),(5,.ptr 1 0),(12,.sl bE p.b1),(13,vi p.b2),(14,vi p.b3),(19,.sl yI p.b4),(20,vi p.b5),(21,vi b6)]),[.inLoop (cw Tryz.f172 [1,1,0,1,0,0,1,1,0,0,1,1,0,0]),.inBlock 2,.inBlock 1,.code (cw Tryz.f172 [1,1,0,1,0,0,1,1,1]),.inLoop (cw Tryz.f172 [1,1,0,1,0,0]),.inBlock 0,.code (cw Tryz.f172 [1,1,1])],[],none⟩],[.flat false [vi p.b7,vi p.b8,vi p.b9,vi p.b10,vi p.b11,vi p.b12,.sl .bool p.b13,.sl bE p.vW],.flat false [.sl yI p.wW,.sl .bool p.cZ,.sl .bool p.kh],.dead]⟩
def Tq(A:bK)(mNodes:Int)(mSlot:Int)(mGap:Int)(mWindow:Int)(mDrift:Int)(mDelay:Int)(mCold:List Bool)(mModes:List Mode):LT Int Gq:=.need (A.k (@tt (Int×Int)) (1,0)) (.need (A.k (@tt Int) (A.k od (1,0))) (.more (.c0 ⟨(A.k nV (A.k od (1,0))),mModes,(A.l mModes),0,mNodes,mSlot,mGap,mWindow,mDrift,mDelay,mCold,mModes⟩)))
def w_(A:bK):Gq→LT Int Gq
 | .c0 p=>.br (A.c .lss p.a3 p.a2) (.need (A.and (A.c .leq 0 p.a3) (A.c .lss p.a3 (A.l p.a1))) (.more (.c1 ⟨p.a1,p.a2,p.a3,(A.n bE p.a1 p.a3:Mode).1,(A.l (A.n bE p.a1 p.a3:Mode).1),p.a4,p.a5,p.a6,p.a7,p.a8,p.a9,p.fw,p.jK,(A.n bE p.a1 p.a3:Mode).1,(A.n bE p.a1 p.a3:Mode).2.1,(A.n bE p.a1 p.a3:Mode).2.2⟩ p.a0 0))) (.ret p.a0)
 | .c1 p b0 b6=>.br (A.c .lss b6 p.b5) (.need (A.and (A.c .leq 0 b6) (A.c .lss b6 (A.l p.b4))) (.br (A.c .lss b6 p.b7) (.br (A.c .lss b6 (A.l p.cZ)) (.need (A.and (A.c .leq 0 b6) (A.c .lss b6 (A.l p.cZ))) (.need (A.k (@tt (Bool×Int)) ((A.n .bool p.cZ b6:Bool),(A.n yI p.b4 b6:Int))) (.need (A.k (@tt (Int×Int)) ((A.k jP ((A.n .bool p.cZ b6:Bool),(A.n yI p.b4 b6:Int))),(A.n yI p.b4 b6:Int))) (.br (A.c .gtr (A.k od ((A.k jP ((A.n .bool p.cZ b6:Bool),(A.n yI p.b4 b6:Int))),(A.n yI p.b4 b6:Int))) 0) (.need (A.k (@tt Int) (A.k od ((A.k jP ((A.n .bool p.cZ b6:Bool),(A.n yI p.b4 b6:Int))),(A.n yI p.b4 b6:Int)))) (.more (.c1 p (A.mx b0 (A.k nV (A.k od ((A.k jP ((A.n .bool p.cZ b6:Bool),(A.n yI p.b4 b6:Int))),(A.n yI p.b4 b6:Int))))) (A.b .add .i64 b6 1)))) (.more (.c1 p b0 (A.b .add .i64 b6 1))))))) (.more (.c1 p b0 (A.b .add .i64 b6 1)))) (.more (.c1 p b0 (A.b .add .i64 b6 1))))) (.more (.c0 ⟨b0,p.b1,p.b2,(A.b .add .i64 p.b3 1),p.b7,p.b8,p.b9,p.b10,p.b11,p.b12,p.b13,p.vW⟩))
def u_(b:Int)(x:Int×Bool):Int:=bif decide (0<od (jP (x.2,x.1),x.1)) then ai.mx b (nV (od (jP (x.2,x.1),x.1))) else b
def wy(n:Nat)(b:Int)(x:Mode):Int:=((x.1.zip x.2.1).take n).foldl u_ b
def iV(m:ax):Int:=m.2.2.2.2.2.2.2.foldl (wy m.1.toNat) (nV (od (1,0)))
theorem Kv{data:List Int}{expl:List Bool}{n:Int}{i:Nat}(h1:i<data.length)(h2:i<expl.length)(h3:(i:Int)<n):((data.zip expl).take n.toNat).drop i=(data[i],expl[i])::((data.zip expl).take n.toNat).drop (i+1):=by
 have hl:i<((data.zip expl).take n.toNat).length:=by simp[List.length_take,List.length_zip];omega
 rw[List.drop_eq_getElem_cons hl,List.getElem_take,List.getElem_zip]
theorem zR{data:List Int}{expl:List Bool}{n:Int}{i:Nat}(h:expl.length≤i∨n≤(i:Int)∨data.length≤i):((data.zip expl).take n.toNat).drop i=[]:=by
 apply List.drop_of_length_le
 simp[List.length_take,List.length_zip];omega
theorem IB{i:Nat}{n:Int}:ai.c .lss (i:Int) n=decide ((i:Int)<n):=rfl
theorem LZ{b:Int}{d:Int}{e:Bool}:u_ b (d,e)=bif ai.c .gtr (ai.k od ((ai.k jP (e,d)),d)) 0 then ai.mx b (ai.k nV (ai.k od ((ai.k jP (e,d)),d))) else b:=rfl
theorem VP{n s g w d de:Int}{cold expl next:List Bool}{modes ms:List Mode}{data:List Int}{L k k1:Int}{F:Int→Int}(hl:data.length≤140737488355328)(hk:ai.b .add .i64 k 1=k1)(hnext:∀b,aK (w_ ai) (.more (.c0 ⟨b,ms,L,k1,n,s,g,w,d,de,cold,modes⟩)) (F b)) :
  ∀(j i:Nat) (b:Int),data.length-i=j→i≤data.length→aK (w_ ai) (.more (.c1 ⟨ms,L,k,data,(data.length:Int),n,s,g,w,d,de,cold,modes,data,expl,next⟩ b (i:Int))) (F ((((data.zip expl).take n.toNat).drop i).foldl u_ b)):=by
 intro j
 induction j with
 | zero=>
   intro i b hj hi
   have:i=data.length:=by omega
   subst this
   rw[ap,w_]
   refine(aj (by rw[aT];simp)).2 ?_
   rw[zR (.inr (.inr (Nat.le_refl _))),hk]
   exact hnext b
 | succ j ih=>
   intro i b hj hi
   have hi':i<data.length:=by omega
   rw[ap,w_]
   refine(ak (by rw[aT];simp;omega)).2 (af.2 ⟨cB hi',?_⟩)
   have hm:=fun b=>ih (i+1) b (by omega) (by omega)
   by_cases h3:(i:Int)<n
   ·refine(ak (by rw[IB];simpa using h3)).2 ?_
    by_cases h2:i<expl.length
    ·refine(ak (by rw[pj,aT];simpa using h2)).2 (af.2 ⟨cB (show i<expl.length from h2),af.2 ⟨rfl,af.2 ⟨rfl,?_⟩⟩⟩)
     rw[Kv hi' h2 h3,List.foldl_cons,LZ,←Mr hi',←zq h2,fe (i:=i) (by omega)]
     cases hb:ai.c .gtr (ai.k od ((ai.k jP ((ai.n .bool expl (i:Int):Bool),(ai.n (.int .i64) data (i:Int):Int))),(ai.n (.int .i64) data (i:Int):Int))) 0
     ·exact(aj rfl).2 (hm _)
     ·exact(ak rfl).2 (af.2 ⟨rfl,hm _⟩)
    ·refine(aj (by rw[pj,aT];simpa using h2)).2 ?_
     rw[fe (i:=i) (by omega)]
     have:=hm b
     rw[zR (.inl (by omega))] at this ⊢
     exact this
   ·refine(aj (by rw[IB];simpa using h3)).2 ?_
    rw[fe (i:=i) (by omega)]
    have:=hm b
    rw[zR (.inr (.inl (by omega)))] at this ⊢
    exact this
theorem Xu{n s g w d de:Int}{cold:List Bool}{modes ms:List Mode}(hl:ms.length≤140737488355328)(hd:∀x∈ms,x.1.length≤140737488355328) :
  ∀(j k:Nat) (b:Int),ms.length-k=j→k≤ms.length→aK (w_ ai) (.more (.c0 ⟨b,ms,(ms.length:Int),(k:Int),n,s,g,w,d,de,cold,modes⟩)) ((ms.drop k).foldl (wy n.toNat) b):=by
 intro j
 induction j with
 | zero=>
   intro k b hj hk
   have:k=ms.length:=by omega
   subst this
   rw[ap,w_]
   refine(aj (by rw[aT];simp)).2 ?_
   rw[List.drop_length]
   exact .ret _
 | succ j ih=>
   intro k b hj hk
   have hk':k<ms.length:=by omega
   rw[ap,w_]
   refine(ak (by rw[aT];simp;omega)).2 (af.2 ⟨cB hk',?_⟩)
   rw[show(ai.n bE ms (k:Int):Mode)=ms[k] from getD_in hk' _,List.drop_eq_getElem_cons hk',List.foldl_cons]
   exact VP (F:=fun b=>(ms.drop (k+1)).foldl (wy n.toNat) b) (hd _ (List.getElem_mem hk')) (fe (by omega)) (fun b=>ih (k+1) b (by omega) (by omega)) ms[k].1.length 0 b rfl (by omega)
theorem max2{n s g w d de:Int}{cold:List Bool}{modes:List Mode}(h:Ty.has cr (n,s,g,w,d,de,cold,modes)):aK (w_ ai) (Tq ai n s g w d de cold modes) (iV (n,s,g,w,d,de,cold,modes)):=
 af.2 ⟨rfl,af.2 ⟨rfl,Xu (oA h).2.2.1 (fun x hx=>((oA h).2.2.2 x hx).1) modes.length 0 _ rfl (by omega)⟩⟩
def I4:ax→Int:=iV
def MR:aG:=⟨[cr], [yI],(@tt ax),I4⟩
theorem QY:Sd 172 MR:=aQ aA dY true 27 [⟨172,3, [[1,3,12,13,14]]⟩,⟨172,6, [[1,3,5,12,13,14,19,20,21]]⟩] [] (fun A (mNodes,mSlot,mGap,mWindow,mDrift,mDelay,mCold,mModes)=>Tq A mNodes mSlot mGap mWindow mDrift mDelay mCold mModes) w_ JB (fc Tryz.func172 fz) (sc Wj (sc SJ (sc Jn sz))) (fun A y=>match y with |.c0 p=>⟨31,by kernel_rfl,by kernel_rfl⟩|.c1 p b0 b6=>⟨69,by kernel_rfl,by kernel_rfl⟩) fun(mNodes,mSlot,mGap,mWindow,mDrift,mDelay,mCold,mModes) hp h=>max2 h
def t159(A:bK)(mNodes:Int)(mSlot:Int)(mGap:Int)(mWindow:Int)(mDrift:Int)(mDelay:Int)(mCold:List Bool)(mModes:List Mode):LT (Int×Int×Int) Empty:=.need (A.k (@tt ax) (mNodes,mSlot,mGap,mWindow,mDrift,mDelay,mCold,mModes)) (.ret ((A.b .add .i64 (A.b .mul .i64 (A.b .mul .i64 16 mNodes) mDrift) 16),(A.b .add .i64 (A.b .add .i64 (A.b .mul .i64 2 mWindow) (A.b .mul .i64 2 mDelay)) 4),(A.b .add .i64 (A.b .mul .i64 2 mGap) (A.k I4 (mNodes,mSlot,mGap,mWindow,mDrift,mDelay,mCold,mModes)))))
def lS:ax→(Int×Int×Int):=fun(mNodes,mSlot,mGap,mWindow,mDrift,mDelay,mCold,mModes)=>(t159 ai mNodes mSlot mGap mWindow mDrift mDelay mCold mModes).val (Ty.cq [yI,yI,yI])
def OV:aG:=⟨[cr], [yI,yI,yI],(@tt ax),lS⟩
theorem RX:Sd 94 OV:=aO aA dY true 50 [] (fun A (mNodes,mSlot,mGap,mWindow,mDrift,mDelay,mCold,mModes)=>t159 A mNodes mSlot mGap mWindow mDrift mDelay mCold mModes) (fc Tryz.func94 fz) (sc QY sz) (fun((mNodes,mSlot,mGap,mWindow,mDrift,mDelay,mCold,mModes):ax) hp h=>by
 show(t159 ai mNodes mSlot mGap mWindow mDrift mDelay mCold mModes).pre=true
 simp[t159,LT.pre,al,dh])
theorem aV{R Y:Type}{step:Y→LT R Y}{t e:LT R Y}{r:R}{p:Prop}[Decidable p]{b:Bool}(hb:b=decide p)(ht:p→aK step t r)(he:¬p→aK step e r):aK step (.br b t e) r:=by
 by_cases h:p
 ·exact(ak (by rw[hb];simpa using h)).2 (ht h)
 ·exact(aj (by rw[hb];simpa using h)).2 (he h)
theorem dS{R Y:Type}{step:Y→LT R Y}{t e:LT R Y}{r:R}{x a b:Int}(ht:¬(a≤x∧x≤b)→aK step t r)(he:a≤x∧x≤b→aK step e r):aK step (.br (ai.not (ai.k dx (x,a,b))) t e) r:=by
 refine aV (p:=¬(a≤x∧x≤b)) ?_ ht (fun h=>he (Decidable.not_not.1 h))
 rw[bg,al,kD,←Bool.decide_and,←decide_not]
theorem vf{n:Int}:0≤nV n∧nV n≤2062:=by
 simp only[nV,t173,LT.val,ar,aL,Bool.cond_eq_ite,decide_eq_true_eq]
 split
 ·omega
 ·split
  ·omega
  ·rw[bq,Aw,bq,gW (a:=n+1) (by omega) (by omega)]
   have:(n+1).tdiv 2=(n+1)/2:=Int.tdiv_eq_ediv_of_nonneg (by omega)
   rw[this,gW (a:=(n+1)/2) (by omega) (by omega),gW (by omega) (by omega)]
   omega
theorem Fx{b:Int}{x:Int×Bool}(h:0≤b∧b≤2062):0≤u_ b x∧u_ b x≤2062:=by
 have:=vf (n:=od (jP (x.2,x.1),x.1))
 unfold u_
 cases decide (0<od (jP (x.2,x.1),x.1))
 ·exact h
 ·rw[O8,KL];split<;>omega
theorem nu{α:Type}{f:Int→α→Int}(hf:∀b x,0≤b∧b≤2062→0≤f b x∧f b x≤2062):∀{l:List α} {b:Int},0≤b∧b≤2062→0≤l.foldl f b∧l.foldl f b≤2062
 | [],_,h=>h
 | x::l,b,h=>nu hf (l:=l) (hf b x h)
theorem vF{m:ax}:0≤iV m∧iV m≤2062:=nu (fun _ _ h=>nu (fun _ _ h=>Fx h) h) vf
def pz(n s g w d de mx:Int):Bool:=decide (0≤d∧d≤64∧0≤de∧de≤64∧16*n*d+16≤w∧w≤1048576∧2*w+2*de+4≤g∧g≤1048576∧2*g+mx≤s∧s≤16777216)
def eO(m:ax):Bool:=countB m&&m.2.2.2.2.2.2.2.all (jQ m)&&pz m.1 m.2.1 m.2.2.1 m.2.2.2.1 m.2.2.2.2.1 m.2.2.2.2.2.1 (iV m)
def l7(m:ax):Int:=bif eO m then 0 else 70
theorem K3{n d:Int}(h:4≤n∧n≤8)(h2:0≤d∧d≤64):ai.b .add .i64 (ai.b .mul .i64 (ai.b .mul .i64 16 n) d) 16=16*n*d+16:=by
 have h3:0≤16*n*d∧16*n*d≤8192:=by
  have:n=4∨n=5∨n=6∨n=7∨n=8:=by omega
  rcases this with rfl|rfl|rfl|rfl|rfl<;>omega
 rw[bq,o5,o5,gW (a:=16*n) (by omega) (by omega),gW (a:=16*n*d) (by omega) (by omega),gW (by omega) (by omega)]
theorem o3{n d:Int}(h:4≤n∧n≤8)(h2:0≤d∧d≤64):0≤16*n*d:=by
 have:n=4∨n=5∨n=6∨n=7∨n=8:=by omega
 rcases this with rfl|rfl|rfl|rfl|rfl<;>omega
theorem JR{w de:Int}(h:0≤w∧w≤1048576)(h2:0≤de∧de≤64):ai.b .add .i64 (ai.b .add .i64 (ai.b .mul .i64 2 w) (ai.b .mul .i64 2 de)) 4=2*w+2*de+4:=by
 rw[bq,bq,o5,o5,gW (a:=2*w) (by omega) (by omega),gW (a:=2*de) (by omega) (by omega),gW (a:=2*w+2*de) (by omega) (by omega),gW (by omega) (by omega)]
theorem Ig{g mx:Int}(h:0≤g∧g≤1048576)(h2:0≤mx∧mx≤2062):ai.b .add .i64 (ai.b .mul .i64 2 g) mx=2*g+mx:=by
 rw[bq,o5,gW (a:=2*g) (by omega) (by omega),gW (by omega) (by omega)]
theorem E4{n s g w d de:Int}{cold:List Bool}{modes:List Mode}:lS (n,s,g,w,d,de,cold,modes)=(ai.b .add .i64 (ai.b .mul .i64 (ai.b .mul .i64 16 n) d) 16,ai.b .add .i64 (ai.b .add .i64 (ai.b .mul .i64 2 w) (ai.b .mul .i64 2 de)) 4,ai.b .add .i64 (ai.b .mul .i64 2 g) (iV (n,s,g,w,d,de,cold,modes))):=rfl
open Go.Ev.Pl
structure Mc where
 (a0:List Mode) (a1 a3 a4 a5 a6 a7 a8:Int) (a9:List Bool) (fw:List Mode)
inductive Hd where
 | c0 (p:Mc) (a2:Int)
noncomputable def J7:Hd→ei
 | .c0 p a2=>⟨[⟨171,19,(en [(0,.sl bE p.a0),(1,.fn 91 [] [.ptr 0 0]),(7,vi p.a1),(8,vi a2)]),[.inLoop (cw Tryz.f171 [1,0,1,0,0]),.inBlock 0,.code (cw Tryz.f171 [1,1])],[],none⟩,⟨90,9,.leaf,[.ops (ow Tryz.f90 [1,0]) ((ow Tryz.f90 [1,0]).toList.drop 2),.code .ret],[],none⟩,⟨42,65,(en [(1,.ptr 0 0)]),[.ops (ow Tryz.f42 [1,0,0,0,0,0,0,0,0,1,0,0]) ((ow Tryz.f42 [1,0,0,0,0,0,0,0,0,1,0,0]).toList.drop 3),.code (cw Tryz.f42 [1,0,0,0,0,0,0,0,0,1,0,1]),.code (cw Tryz.f42 [1,0,0,0,0,0,0,0,0,1,1]),.code (.exit 0),.inBlock 1,.inBlock 2,.inBlock 3,.inBlock 4,.code (cw Tryz.f42 [1,0,0,1]),.inBlock 0,.code (cw Tryz.f42 [1,1])],[],none⟩],[.flat false [vi p.a3,vi p.a4,vi p.a5,vi p.a6,vi p.a7,vi p.a8,.sl .bool p.a9,.sl bE p.fw],.dead]⟩
def t124(A:bK)(mNodes:Int)(mSlot:Int)(mGap:Int)(mWindow:Int)(mDrift:Int)(mDelay:Int)(mCold:List Bool)(mModes:List Mode):LT Int Hd:=.need (A.k (@tt ax) (mNodes,mSlot,mGap,mWindow,mDrift,mDelay,mCold,mModes)) (.br (A.not (A.k Dg (mNodes,mSlot,mGap,mWindow,mDrift,mDelay,mCold,mModes))) (.ret 70) (.more (.c0 ⟨mModes,(A.l mModes),mNodes,mSlot,mGap,mWindow,mDrift,mDelay,mCold,mModes⟩ 0)))
def Ct(A:bK):Hd→LT Int Hd
 | .c0 p a2=>.br (A.c .lss a2 p.a1) (.need (A.and (A.c .leq 0 a2) (A.c .lss a2 (A.l p.a0))) (.need (A.k zo ((p.a3,p.a4,p.a5,p.a6,p.a7,p.a8,p.a9,p.fw),(A.n bE p.a0 a2:Mode))) (.br (A.not (A.k Bn ((p.a3,p.a4,p.a5,p.a6,p.a7,p.a8,p.a9,p.fw),(A.n bE p.a0 a2:Mode)))) (.br (A.c .geq a2 0) (.ret 70) (.need (A.k (@tt (Int×Int×Int)) (p.a7,0,64)) (.br (A.not (A.k dx (p.a7,0,64))) (.ret 70) (.need (A.k (@tt (Int×Int×Int)) (p.a8,0,64)) (.br (A.not (A.k dx (p.a8,0,64))) (.ret 70) (.need (A.k (@tt (Int×Int×Int)) (p.a6,0,1048576)) (.br (A.not (A.k dx (p.a6,0,1048576))) (.ret 70) (.need (A.k (@tt (Int×Int×Int)) (p.a5,0,1048576)) (.br (A.not (A.k dx (p.a5,0,1048576))) (.ret 70) (.need (A.k (@tt (Int×Int×Int)) (p.a4,0,16777216)) (.br (A.not (A.k dx (p.a4,0,16777216))) (.ret 70) (.need (A.k (@tt ax) (p.a3,p.a4,p.a5,p.a6,p.a7,p.a8,p.a9,p.fw)) (.br (A.c .lss p.a6 (A.k lS (p.a3,p.a4,p.a5,p.a6,p.a7,p.a8,p.a9,p.fw)).1) (.ret 70) (.br (A.c .lss p.a5 (A.k lS (p.a3,p.a4,p.a5,p.a6,p.a7,p.a8,p.a9,p.fw)).2.1) (.ret 70) (.br (A.c .lss p.a4 (A.k lS (p.a3,p.a4,p.a5,p.a6,p.a7,p.a8,p.a9,p.fw)).2.2) (.ret 70) (.ret 0)))))))))))))))) (.more (.c0 p (A.b .add .i64 a2 1)))))) (.need (A.k (@tt (Int×Int×Int)) (p.a7,0,64)) (.br (A.not (A.k dx (p.a7,0,64))) (.ret 70) (.need (A.k (@tt (Int×Int×Int)) (p.a8,0,64)) (.br (A.not (A.k dx (p.a8,0,64))) (.ret 70) (.need (A.k (@tt (Int×Int×Int)) (p.a6,0,1048576)) (.br (A.not (A.k dx (p.a6,0,1048576))) (.ret 70) (.need (A.k (@tt (Int×Int×Int)) (p.a5,0,1048576)) (.br (A.not (A.k dx (p.a5,0,1048576))) (.ret 70) (.need (A.k (@tt (Int×Int×Int)) (p.a4,0,16777216)) (.br (A.not (A.k dx (p.a4,0,16777216))) (.ret 70) (.need (A.k (@tt ax) (p.a3,p.a4,p.a5,p.a6,p.a7,p.a8,p.a9,p.fw)) (.br (A.c .lss p.a6 (A.k lS (p.a3,p.a4,p.a5,p.a6,p.a7,p.a8,p.a9,p.fw)).1) (.ret 70) (.br (A.c .lss p.a5 (A.k lS (p.a3,p.a4,p.a5,p.a6,p.a7,p.a8,p.a9,p.fw)).2.1) (.ret 70) (.br (A.c .lss p.a4 (A.k lS (p.a3,p.a4,p.a5,p.a6,p.a7,p.a8,p.a9,p.fw)).2.2) (.ret 70) (.ret 0)))))))))))))))
theorem Ir{n s g w d de:Int}{cold:List Bool}{modes:List Mode}{R:Int}(hn:4≤n∧n≤8)(hR:R=bif pz n s g w d de (iV (n,s,g,w,d,de,cold,modes)) then 0 else 70) :
  aK (Ct ai) (.need (ai.k (@tt (Int×Int×Int)) (d,0,64)) (.br (ai.not (ai.k dx (d,0,64))) (.ret 70) (.need (ai.k (@tt (Int×Int×Int)) (de,0,64)) (.br (ai.not (ai.k dx (de,0,64))) (.ret 70) (.need (ai.k (@tt (Int×Int×Int)) (w,0,1048576)) (.br (ai.not (ai.k dx (w,0,1048576))) (.ret 70) (.need (ai.k (@tt (Int×Int×Int)) (g,0,1048576)) (.br (ai.not (ai.k dx (g,0,1048576))) (.ret 70) (.need (ai.k (@tt (Int×Int×Int)) (s,0,16777216)) (.br (ai.not (ai.k dx (s,0,16777216))) (.ret 70) (.need (ai.k (@tt ax) (n,s,g,w,d,de,cold,modes)) (.br (ai.c .lss w (ai.k lS (n,s,g,w,d,de,cold,modes)).1) (.ret 70) (.br (ai.c .lss g (ai.k lS (n,s,g,w,d,de,cold,modes)).2.1) (.ret 70) (.br (ai.c .lss s (ai.k lS (n,s,g,w,d,de,cold,modes)).2.2) (.ret 70) (.ret 0))))))))))))))) R:=by
 have hm:=vF (m:=(n,s,g,w,d,de,cold,modes))
 have no:∀{p:Prop} [Decidable p],¬p→decide p=false:=fun h=>by simpa using h
 rw[hR]
 refine af.2 ⟨rfl,dS (fun h=>aI ?_ (.ret _)) fun h1=>af.2 ⟨rfl,dS (fun h=>aI ?_ (.ret _)) fun h2=>af.2 ⟨rfl,dS (fun h=>aI ?_ (.ret _)) fun h3=>af.2 ⟨rfl,dS (fun h=>aI ?_ (.ret _)) fun h4=>af.2 ⟨rfl,dS (fun h=>aI ?_ (.ret _)) fun h5=>af.2 ⟨rfl,?_⟩⟩⟩⟩⟩⟩
 ·rw[pz,no (by omega)];rfl
 ·rw[pz,no (by omega)];rfl
 ·have:=fun h=>o3 (n:=n) (d:=d) hn h
  rw[pz,no (by omega)];rfl
 ·have:=fun h=>o3 (n:=n) (d:=d) hn h
  rw[pz,no (by omega)];rfl
 ·have:=fun h=>o3 (n:=n) (d:=d) hn h
  rw[pz,no (by omega)];rfl
 ·have:=o3 (n:=n) (d:=d) hn h1
  rw[al,E4,K3 hn h1,JR h3 h2,Ig h4 hm]
  refine aV (p:=w<16*n*d+16) rfl (fun h=>aI ?_ (.ret _)) fun h6=>aV (p:=g<2*w+2*de+4) rfl (fun h=>aI ?_ (.ret _)) fun h7=>aV (p:=s<2*g+iV (n,s,g,w,d,de,cold,modes)) rfl (fun h=>aI ?_ (.ret _)) fun h8=>aI ?_ (.ret _)
  ·rw[pz,no (by omega)];rfl
  ·rw[pz,no (by omega)];rfl
  ·rw[pz,no (by omega)];rfl
  ·rw[pz,decide_eq_true (by omega)];rfl
theorem L8{n s g w d de:Int}{cold:List Bool}{modes:List Mode}(hl:modes.length≤140737488355328)(hc:(cold.length:Int)=n)(hn:4≤n∧n≤8):∀(j i:Nat),modes.length-i=j→i≤modes.length→
  aK (Ct ai) (.more (.c0 ⟨modes,(modes.length:Int),n,s,g,w,d,de,cold,modes⟩ (i:Int))) (bif (modes.drop i).all (jQ (n,s,g,w,d,de,cold,modes))&&pz n s g w d de (iV (n,s,g,w,d,de,cold,modes)) then 0 else 70):=by
 intro j
 induction j with
 | zero=>
   intro i hj hi
   have:i=modes.length:=by omega
   subst this
   rw[ap,Ct]
   refine(aj (by rw[aT];simp)).2 (Ir hn ?_)
   rw[List.drop_length];rfl
 | succ j ih=>
   intro i hj hi
   have hi':i<modes.length:=by omega
   rw[ap,Ct]
   refine(ak (by rw[aT];simp;omega)).2 (af.2 ⟨cB hi',?_⟩)
   have e:(ai.n bE modes (i:Int):Mode)=modes[i]:=getD_in hi' _
   rw[e,List.drop_eq_getElem_cons hi',List.all_cons]
   refine af.2 ⟨by show((cold.length:Int)==n)=true;simpa using hc,?_⟩
   have hf:ai.k Bn ((n,s,g,w,d,de,cold,modes),modes[i])=jQ (n,s,g,w,d,de,cold,modes) modes[i]:=rfl
   rw[hf]
   cases jQ (n,s,g,w,d,de,cold,modes) modes[i]
   ·refine(ak rfl).2 ((ak (by rw[aS];simp)).2 (.ret _))
   ·refine(aj rfl).2 ?_
    rw[fe (i:=i) (by omega),Bool.true_and]
    exact ih (i+1) (by omega) (by omega)
theorem JQ{n s g w d de:Int}{cold:List Bool}{modes:List Mode}(h:Ty.has cr (n,s,g,w,d,de,cold,modes)):aK (Ct ai) (t124 ai n s g w d de cold modes) (l7 (n,s,g,w,d,de,cold,modes)):=by
 unfold t124 l7 eO
 refine af.2 ⟨rfl,?_⟩
 rw[show ai.k Dg (n,s,g,w,d,de,cold,modes)=countB (n,s,g,w,d,de,cold,modes) from rfl]
 cases hc:countB (n,s,g,w,d,de,cold,modes)
 ·exact(ak rfl).2 (.ret _)
 ·refine(aj rfl).2 ?_
  simp only[countB,kD,Bool.and_eq_true,decide_eq_true_eq,beq_iff_eq] at hc
  exact L8 (oA h).2.2.1 hc.1.2 hc.1.1.1 modes.length 0 rfl (by omega)
def eP:ax→Int:=l7
def IF:aG:=⟨[cr], [yI],(@tt ax),eP⟩
theorem vp:Sd 42 IF:=aQ aA dY true 58 [⟨171,2, [[0,1,7,8], [], [1]]⟩] [] (fun A (mNodes,mSlot,mGap,mWindow,mDrift,mDelay,mCold,mModes)=>t124 A mNodes mSlot mGap mWindow mDrift mDelay mCold mModes) Ct J7 (fc Tryz.func42 (fc Tryz.func90 (fc Tryz.func91 (fc Tryz.func171 fz)))) (sc Tb (sc PQ (sc xQ (sc RX sz)))) (fun A y=>match y with |.c0 p a2=>⟨136,by kernel_rfl,by kernel_rfl⟩) fun(mNodes,mSlot,mGap,mWindow,mDrift,mDelay,mCold,mModes) hp h=>JQ h
open Go.Ev.Pl
def Kx:List Bool→List Bool→Bool
 | c::cs,e::es=>(!c||e)&&Kx cs es
 | _,_=>true
theorem tj:∀{ds:List Int} {cs es:List Bool},cs.length=ds.length→es.length=ds.length→mE ds cs es=(ds.all (fun d=>decide (0≤d)&&decide (d≤8))&&Kx cs es)
 | [], [], [],_,_=>rfl
 | d::ds,c::cs,e::es,h1,h2=>by
   rw[mE,tj (ds:=ds) (by simpa using h1) (by simpa using h2),List.all_cons,Kx]
   cases (decide (0≤d)&&decide (d≤8))<;>cases (!c||e)<;>simp
 | [],_::_,_,h,_=>by cases h
 | [], [],_::_,_,h=>by cases h
 | _::_, [],_,h,_=>by cases h
 | _::_,_::_, [],_,h=>by cases h
end Go.Ev.M
