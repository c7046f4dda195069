/-
  PROVED: what medl.Check and metronomeref07.Check compute. Conditions: none.
-/
import Derived.Test.YtafbddhnoacldaaGreatFc
namespace Go.Ev.M
open Go.Proofs
set_option maxRecDepth 100000
set_option linter.unusedVariables false
set_option linter.unusedSimpArgs false
open Go.Ev.Pl
abbrev yCSt:Ty:=(.struct [(.int .i64),(.int .i64),(.int .i64),(.int .i64),(.int .i64)])
abbrev CSt:Type:=Int×Int×Int×Int×Int
abbrev yMbr:Ty:=(.struct [(.int .i64),(.int .i64),(.int .i64),(.int .i64),(.int .i64),(.int .i64),(.int .i64)])
abbrev Mbr:Type:=Int×Int×Int×Int×Int×Int×Int
abbrev yBits:Ty:=(.struct [(.int .i64),(.slice (.int .u8))])
abbrev Bits:Type:=Int×List Int
abbrev yFrm:Ty:=(.struct [(.int .i64),(.int .i64),yCSt,(.int .i64),(.slice (.int .u8))])
abbrev Frm:Type:=Int×Int×CSt×Int×List Int
abbrev ySeen:Ty:=(.struct [(.int .i64),(.int .i64),yBits])
abbrev Seen:Type:=Int×Int×Bits
abbrev ySpan:Ty:=(.struct [(.int .i64),(.int .i64)])
abbrev Span:Type:=Int×Int
abbrev yMode:Ty:=(.struct [(.slice (.int .i64)),(.slice .bool),(.slice .bool)])
abbrev Mode:Type:=List Int×List Bool×List Bool
abbrev yMedl:Ty:=(.struct [(.int .i64),(.int .i64),(.int .i64),(.int .i64),(.int .i64),(.int .i64),(.slice .bool),(.slice yMode)])
abbrev Medl:Type:=Int×Int×Int×Int×Int×Int×List Bool×List Mode
abbrev yMsg:Ty:=(.struct [(.slice (.int .u8)),(.int .i64)])
abbrev Msg:Type:=List Int×Int
abbrev yCni:Ty:=(.struct [(.int .i64),(.slice (.int .u8)),(.slice yMsg),(.int .i64),(.int .i64)])
abbrev Cni:Type:=Int×List Int×List Msg×Int×Int
abbrev yNode:Ty:=(.struct [(.int .i64),(.int .i64),yCSt,yMbr,(.int .i64),.bool,(.int .i64),yCni])
abbrev Node:Type:=Int×Int×CSt×Mbr×Int×Bool×Int×Cni
def t158 (A:Alg) (n:Int) (least:Int) (most:Int):LT Bool Empty:=
 .br (A.cmp .geq n least)
 (.ret (A.cmp .leq n most))
 (.ret false)
noncomputable def E158 (A:Alg):Info (Ty.Ts [.bool]):={ti:=tys,fns:=[(179,Tryz.f179)],sps:=[],stops:=[],cuts:=[],consts:=[],fin:=finD A [.bool]}
theorem t158_ok (A:Alg) (n:Int) (least:Int) (most:Int):run A (E158 A) 22 (startC 179 Tryz.f179 (dvals A [(.int .i64),(.int .i64),(.int .i64)] (n,least,most)))=(t158 A n least most).tr Empty.elim:=by kernel_rfl
def w158:Walk Tryz.prog 179 [(.int .i64),(.int .i64),(.int .i64)] [.bool] Empty:=⟨fun (n,least,most)=>t158 std n least most,Empty.elim⟩
theorem w158_ok:w158.Ok:=
 walk_ok (E:=E158 std) ⟨tys_fit,fns_cons Tryz.func179 (by kernel_rfl) (fns_nil),sps_nil,by kernel_rfl⟩ rfl rfl rfl (by kernel_rfl) w158 Empty.elim 22 (fun (n,least,most)=>t158_ok std n least most) (fun y=>y.elim)
def fn158:(Int×Int×Int)→Bool:=fun (n,least,most)=>(t158 std n least most).val (Ty.dflts [.bool])
def sp158:FSpec:=⟨[(.int .i64),(.int .i64),(.int .i64)], [.bool],(@tt (Int×Int×Int)),fn158⟩
theorem eqs158 (n:Int) (least:Int) (most:Int):(t158 std n least most).Eqs:=by simp only [t158,LT.Eqs,and_self,true_and,and_true]
theorem pre158_ok {n:Int} {least:Int} {most:Int} (h:Ty.hass [(.int .i64),(.int .i64),(.int .i64)] (n,least,most)):(t158 std n least most).pre=true:=by
 simp [t158,LT.pre,std_call,tt_eq]
theorem so158:FSpec.Sound Tryz.prog 179 sp158:=
 w158_ok.sound _ _ fun (n,least,most) _ h=>LT.runs (d:=Ty.dflts [.bool]) (eqs158 n least most) (pre158_ok h)
theorem within_eq {x a b:Int}:fn158 (x,a,b)=(decide (a≤x) && decide (x≤b)):=by
 simp only [fn158,t158,LT.val,std_cmp_geq,std_cmp_leq]
 cases decide (a≤x) <;> rfl
theorem ctrue {α:Type} {x y:α}:(bif true then x else y)=x:=rfl
theorem nthB {l:List Bool} {i:Nat} (h:i < l.length):(std.nth .bool l (i:Int):Bool)=l[i]:=getD_in h _
theorem nthI {l:List Int} {i:Nat} (h:i < l.length):(std.nth (.int .i64) l (i:Int):Int)=l[i]:=getD_in h _
theorem lenI {α:Type} {l:List α}:std.len l=(l.length:Int):=rfl
theorem has_medl {n s g w d de:Int} {cold:List Bool} {modes:List Mode} (h:Ty.has yMedl (n,s,g,w,d,de,cold,modes)):(-9223372036854775808≤n∧n≤9223372036854775807)∧cold.length≤140737488355328∧modes.length≤140737488355328∧∀x∈modes,x.1.length≤140737488355328∧x.2.1.length≤140737488355328∧∀d∈x.1,IntKind.i64.has d:=by
 obtain ⟨h1,_,_,_,_,_,h2,h3⟩:=h
 exact ⟨h1,h2.1,h3.1,fun x hx=>⟨(h3.2 x hx).1.1,(h3.2 x hx).2.1.1,(h3.2 x hx).1.2⟩⟩
structure P154c0 where
 (a1:List Bool) (a2 a4 a5 a6 a7 a8 a9:Int) (a10:List Bool) (a11:List Mode)
inductive Y154 where
 | c0 (p:P154c0) (a0:Int) (a3:Int)
noncomputable def cfg154:Y154→Cfg
 | .c0 p a0 a3=>{frames:=[{fn:=175,n:=38,env:=(Env.put (Env.put (Env.put (Env.put (Env.put .leaf 1 (.ptr 0 0)) 3 (.int .i64 false a0)) 7 (.sl .bool p.a1)) 8 (.int .i64 false p.a2)) 9 (.int .i64 false a3)),todo:=[.inLoop (Code.way (bodyOf Tryz.f175) [1,1,0,1,0,0]),.inBlock 0,.code (Code.way (bodyOf Tryz.f175) [1,1,1])],marks:=[],rnd:=none}],mem:=[.flat false [.int .i64 false p.a4,.int .i64 false p.a5,.int .i64 false p.a6,.int .i64 false p.a7,.int .i64 false p.a8,.int .i64 false p.a9,.sl .bool p.a10,.sl yMode p.a11],.dead]}
def t154 (A:Alg) (mNodes:Int) (mSlot:Int) (mGap:Int) (mWindow:Int) (mDrift:Int) (mDelay:Int) (mCold:List Bool) (mModes:List Mode):LT Bool Y154:=
 .more (.c0 ⟨mCold,(A.len mCold),mNodes,mSlot,mGap,mWindow,mDrift,mDelay,mCold,mModes⟩ 0 0)
def s154 (A:Alg):Y154→LT Bool Y154
 | .c0 p a0 a3=>
  .br (A.cmp .lss a3 p.a2)
  (.need (A.and (A.cmp .leq 0 a3) (A.cmp .lss a3 (A.len p.a1))) (
   .br (A.nth .bool p.a1 a3:Bool)
   (.more (.c0 p (A.bin .add .i64 a0 1) (A.bin .add .i64 a3 1)))
   (.more (.c0 p a0 (A.bin .add .i64 a3 1)))))
  (.need (A.call (@tt (Int×Int×Int)) (p.a4,4,8)) (
   .br (A.call fn158 (p.a4,4,8))
   (.need (A.call (@tt (Int×Int×Int)) ((A.len p.a11),1,4)) (
    .br (A.call fn158 ((A.len p.a11),1,4))
    (.br (A.cmp .eql (A.len p.a10) p.a4)
     (.ret (A.cmp .geq a0 2))
     (.ret false))
    (.ret false)))
   (.ret false)))
noncomputable def E154 (A:Alg):Info (Ty.Ts [.bool]):={ti:=tys,fns:=[(175,Tryz.f175)],sps:=[(179,sp158)],stops:=[⟨175,3, [[1,3,7,8,9]]⟩],cuts:=[],consts:=[],fin:=finD A [.bool]}
theorem t154_ok (A:Alg) (mNodes:Int) (mSlot:Int) (mGap:Int) (mWindow:Int) (mDrift:Int) (mDelay:Int) (mCold:List Bool) (mModes:List Mode):run A (E154 A) 25 (startC 175 Tryz.f175 (dvals A [yMedl] (mNodes,mSlot,mGap,mWindow,mDrift,mDelay,mCold,mModes)))=(t154 A mNodes mSlot mGap mWindow mDrift mDelay mCold mModes).tr cfg154:=by kernel_rfl
theorem s154_ok (A:Alg):∀y,∃n,run A (E154 A) n (advance (E154 A).sps (cfg154 y))=(s154 A y).tr cfg154
 | .c0 p a0 a3=>⟨38,by kernel_rfl⟩
def w154:Walk Tryz.prog 175 [yMedl] [.bool] Y154:=⟨fun (mNodes,mSlot,mGap,mWindow,mDrift,mDelay,mCold,mModes)=>t154 std mNodes mSlot mGap mWindow mDrift mDelay mCold mModes,s154 std⟩
theorem w154_ok:w154.Ok:=
 walk_ok (E:=E154 std) ⟨tys_fit,fns_cons Tryz.func175 (by kernel_rfl) (fns_nil),sps_cons so158 (sps_nil),by kernel_rfl⟩ rfl rfl rfl (by kernel_rfl) w154 cfg154 25 (fun (mNodes,mSlot,mGap,mWindow,mDrift,mDelay,mCold,mModes)=>t154_ok std mNodes mSlot mGap mWindow mDrift mDelay mCold mModes) (s154_ok std)
def countB (m:Medl):Bool:=fn158 (m.1,4,8) && fn158 ((m.2.2.2.2.2.2.2.length:Int),1,4) && ((m.2.2.2.2.2.2.1.length:Int) == m.1) && decide (2≤(m.2.2.2.2.2.2.1.count true:Int))
theorem count1 {n s g w d de:Int} {cold:List Bool} {modes:List Mode} (hl:cold.length≤140737488355328):∀(j i c:Nat),cold.length - i=j→i≤cold.length→c≤i→
  Runs (s154 std) (.more (.c0 ⟨cold,(cold.length:Int),n,s,g,w,d,de,cold,modes⟩ (c:Int) (i:Int))) (fn158 (n,4,8) && fn158 ((modes.length:Int),1,4) && ((cold.length:Int) == n) && decide (2≤((c + (cold.drop i).count true:Nat):Int))):=by
 intro j
 induction j with
 | zero=>
  intro i c hj hi hc
  have:i=cold.length:=by omega
  subst this
  rw [runs_more,s154]
  refine (runs_brF (by rw [lss_nat]; simp)).2 ?_
  rw [List.drop_length]
  simp only [runs_need,std_call,tt_eq,true_and]
  cases fn158 (n,4,8)
  ·exact (runs_brF rfl).2 (.ret _)
  refine (runs_brT rfl).2 ?_
  simp only [runs_need,std_call,tt_eq,true_and,lenI]
  cases fn158 ((modes.length:Int),1,4)
  ·exact (runs_brF rfl).2 (.ret _)
  refine (runs_brT rfl).2 ?_
  rw [std_cmp_eql]
  cases ((cold.length:Int) == n)
  ·exact (runs_brF rfl).2 (.ret _)
  refine (runs_brT rfl).2 ?_
  rw [std_cmp_geq]
  exact .ret _
 | succ j ih=>
  intro i c hj hi hc
  have hi':i < cold.length:=by omega
  rw [runs_more,s154]
  refine (runs_brT (by rw [lss_nat]; simp; omega)).2 (runs_need.2 ⟨need_ix hi',?_⟩)
  rw [List.drop_eq_getElem_cons hi',List.count_cons]
  cases hb:cold[i]
  ·refine (runs_brF ((nthB hi').trans hb)).2 ?_
   refine runs_c (congrArg (fun z=>LT.more (Y154.c0 _ _ z)) (inc1 (by omega))) (runs_r ?_ (ih (i + 1) c (by omega) (by omega) (by omega)))
   simp
  ·refine (runs_brT ((nthB hi').trans hb)).2 ?_
   rw [inc1 (i:=c) (by omega),inc1 (i:=i) (by omega)]
   refine runs_r ?_ (ih (i + 1) (c + 1) (by omega) (by omega) (by omega))
   simp [Nat.add_assoc,Nat.add_comm 1]
theorem count2 {n s g w d de:Int} {cold:List Bool} {modes:List Mode} (h:Ty.has yMedl (n,s,g,w,d,de,cold,modes)):Runs (s154 std) (t154 std n s g w d de cold modes) (countB (n,s,g,w,d,de,cold,modes)):=
 runs_r (by simp [countB]) (count1 (has_medl h).2.1 cold.length 0 0 rfl (by omega) (by omega))
def fn154:Medl→Bool:=countB
def sp154:FSpec:=⟨[yMedl], [.bool],(@tt Medl),fn154⟩
theorem run154 {mNodes:Int} {mSlot:Int} {mGap:Int} {mWindow:Int} {mDrift:Int} {mDelay:Int} {mCold:List Bool} {mModes:List Mode} (h:Ty.hass [yMedl] (mNodes,mSlot,mGap,mWindow,mDrift,mDelay,mCold,mModes)):Runs (s154 std) (t154 std mNodes mSlot mGap mWindow mDrift mDelay mCold mModes) (fn154 (mNodes,mSlot,mGap,mWindow,mDrift,mDelay,mCold,mModes)):=by
 exact count2 h
theorem so154:FSpec.Sound Tryz.prog 175 sp154:=
 w154_ok.sound _ _ fun (mNodes,mSlot,mGap,mWindow,mDrift,mDelay,mCold,mModes) _ h=>run154 h
structure P157c0 where
 (a0:List Int) (a1 a3 a4 a5 a6 a7 a8:Int) (a9:List Bool) (a10:List Mode) (a11:List Int) (a12 a13:List Bool)
inductive Y157 where
 | c0 (p:P157c0) (a2:Int)
noncomputable def cfg157:Y157→Cfg
 | .c0 p a2=>{frames:=[{fn:=178,n:=57,env:=(Env.put (Env.put (Env.put (Env.put (Env.put .leaf 2 (.ptr 0 0)) 3 (.ptr 1 0)) 31 (.sl (.int .i64) p.a0)) 32 (.int .i64 false p.a1)) 33 (.int .i64 false a2)),todo:=[.inLoop (Code.way (bodyOf Tryz.f178) [1,1,0,1,0,0]),.inBlock 0,.code (Code.way (bodyOf Tryz.f178) [1,1,1])],marks:=[],rnd:=none}],mem:=[.flat false [.int .i64 false p.a3,.int .i64 false p.a4,.int .i64 false p.a5,.int .i64 false p.a6,.int .i64 false p.a7,.int .i64 false p.a8,.sl .bool p.a9,.sl yMode p.a10],.flat false [.sl (.int .i64) p.a11,.sl .bool p.a12,.sl .bool p.a13],.dead]}
def t157 (A:Alg) (mNodes:Int) (mSlot:Int) (mGap:Int) (mWindow:Int) (mDrift:Int) (mDelay:Int) (mCold:List Bool) (mModes:List Mode) (xData:List Int) (xExplicit:List Bool) (xNext:List Bool):LT Bool Y157:=
 .br (A.cmp .neq (A.len xData) mNodes)
 (.ret false)
 (.br (A.cmp .neq (A.len xExplicit) mNodes)
 (.ret false)
 (.br (A.cmp .neq (A.len xNext) (A.len mModes))
  (.ret false)
  (.more (.c0 ⟨xData,(A.len xData),mNodes,mSlot,mGap,mWindow,mDrift,mDelay,mCold,mModes,xData,xExplicit,xNext⟩ 0))))
def s157 (A:Alg):Y157→LT Bool Y157
 | .c0 p a2=>
  .br (A.cmp .lss a2 p.a1)
  (.need (A.and (A.cmp .leq 0 a2) (A.cmp .lss a2 (A.len p.a0))) (
   .need (A.call (@tt (Int×Int×Int)) ((A.nth (.int .i64) p.a0 a2:Int),0,8)) (
   .br (A.not (A.call fn158 ((A.nth (.int .i64) p.a0 a2:Int),0,8)))
    (.ret false)
    (.need (A.and (A.cmp .leq 0 a2) (A.cmp .lss a2 (A.len p.a9))) (
    .br (A.nth .bool p.a9 a2:Bool)
     (.need (A.and (A.cmp .leq 0 a2) (A.cmp .lss a2 (A.len p.a12))) (
     .br (A.not (A.nth .bool p.a12 a2:Bool))
      (.ret false)
      (.more (.c0 p (A.bin .add .i64 a2 1)))))
     (.more (.c0 p (A.bin .add .i64 a2 1))))))))
  (.ret true)
noncomputable def E157 (A:Alg):Info (Ty.Ts [.bool]):={ti:=tys,fns:=[(178,Tryz.f178)],sps:=[(179,sp158)],stops:=[⟨178,4, [[2,3,31,32,33]]⟩],cuts:=[],consts:=[],fin:=finD A [.bool]}
theorem t157_ok (A:Alg) (mNodes:Int) (mSlot:Int) (mGap:Int) (mWindow:Int) (mDrift:Int) (mDelay:Int) (mCold:List Bool) (mModes:List Mode) (xData:List Int) (xExplicit:List Bool) (xNext:List Bool):run A (E157 A) 51 (startC 178 Tryz.f178 (dvals A [yMedl,yMode] ((mNodes,mSlot,mGap,mWindow,mDrift,mDelay,mCold,mModes),xData,xExplicit,xNext)))=(t157 A mNodes mSlot mGap mWindow mDrift mDelay mCold mModes xData xExplicit xNext).tr cfg157:=by kernel_rfl
theorem s157_ok (A:Alg):∀y,∃n,run A (E157 A) n (advance (E157 A).sps (cfg157 y))=(s157 A y).tr cfg157
 | .c0 p a2=>⟨51,by kernel_rfl⟩
def w157:Walk Tryz.prog 178 [yMedl,yMode] [.bool] Y157:=⟨fun ((mNodes,mSlot,mGap,mWindow,mDrift,mDelay,mCold,mModes),xData,xExplicit,xNext)=>t157 std mNodes mSlot mGap mWindow mDrift mDelay mCold mModes xData xExplicit xNext,s157 std⟩
theorem w157_ok:w157.Ok:=
 walk_ok (E:=E157 std) ⟨tys_fit,fns_cons Tryz.func178 (by kernel_rfl) (fns_nil),sps_cons so158 (sps_nil),by kernel_rfl⟩ rfl rfl rfl (by kernel_rfl) w157 cfg157 51 (fun ((mNodes,mSlot,mGap,mWindow,mDrift,mDelay,mCold,mModes),xData,xExplicit,xNext)=>t157_ok std mNodes mSlot mGap mWindow mDrift mDelay mCold mModes xData xExplicit xNext) (s157_ok std)
def modeAll:List Int→List Bool→List Bool→Bool
 | d :: ds,c :: cs,e :: es=>(decide (0≤d) && decide (d≤8)) && (!c || e) && modeAll ds cs es
 | _,_,_=>true
def modeB (m:Medl) (x:Mode):Bool:=((x.1.length:Int) == m.1) && ((x.2.1.length:Int) == m.1) && (x.2.2.length == m.2.2.2.2.2.2.2.length) && modeAll x.1 m.2.2.2.2.2.2.1 x.2.1
theorem mode1 {n s g w d de:Int} {cold expl next:List Bool} {modes:List Mode} {data:List Int} (hl:data.length≤140737488355328) (hc:cold.length=data.length) (he:expl.length=data.length):∀(j i:Nat),data.length - i=j→i≤data.length→
  Runs (s157 std) (.more (.c0 ⟨data,(data.length:Int),n,s,g,w,d,de,cold,modes,data,expl,next⟩ (i:Int))) (modeAll (data.drop i) (cold.drop i) (expl.drop i)):=by
 intro j
 induction j with
 | zero=>
  intro i hj hi
  have:i=data.length:=by omega
  subst this
  rw [runs_more,s157]
  refine (runs_brF (by rw [lss_nat]; simp)).2 ?_
  rw [List.drop_length]
  exact .ret _
 | succ j ih=>
  intro i hj hi
  have hi':i < data.length:=by omega
  rw [runs_more,s157]
  refine (runs_brT (by rw [lss_nat]; simp; omega)).2 (runs_need.2 ⟨need_ix hi',runs_need.2 ⟨rfl,?_⟩⟩)
  rw [List.drop_eq_getElem_cons hi',List.drop_eq_getElem_cons (show i < cold.length by omega),List.drop_eq_getElem_cons (show i < expl.length by omega),modeAll]
  have hm:=ih (i + 1) (by omega) (by omega)
  have hw:std.call fn158 ((std.nth (.int .i64) data (i:Int):Int),0,8)=(decide (0≤data[i]) && decide (data[i]≤8)):=by
   rw [std_call,nthI hi',within_eq]
  cases hw':(decide (0≤data[i]) && decide (data[i]≤8))
  ·exact (runs_brT (by rw [hw,hw']; rfl)).2 (.ret _)
  refine (runs_brF (by rw [hw,hw']; rfl)).2 (runs_need.2 ⟨need_ix (show i < cold.length by omega),?_⟩)
  cases hcb:cold[i]
  ·refine (runs_brF ((nthB (show i < cold.length by omega)).trans hcb)).2 ?_
   exact runs_c (congrArg (fun z=>LT.more (Y157.c0 _ z)) (inc1 (by omega))) hm
  ·refine (runs_brT ((nthB (show i < cold.length by omega)).trans hcb)).2 (runs_need.2 ⟨need_ix (show i < expl.length by omega),?_⟩)
   cases heb:expl[i]
   ·exact (runs_brT (by rw [nthB (show i < expl.length by omega),heb]; rfl)).2 (.ret _)
   ·refine (runs_brF (by rw [nthB (show i < expl.length by omega),heb]; rfl)).2 ?_
    exact runs_c (congrArg (fun z=>LT.more (Y157.c0 _ z)) (inc1 (by omega))) hm
theorem mode2 {n s g w d de:Int} {cold expl next:List Bool} {modes:List Mode} {data:List Int} (hl:data.length≤140737488355328) (hc:(cold.length:Int)=n) :
  Runs (s157 std) (t157 std n s g w d de cold modes data expl next) (modeB (n,s,g,w,d,de,cold,modes) (data,expl,next)):=by
 unfold t157 modeB
 simp only [lenI]
 by_cases h1:(data.length:Int)=n
 ·refine (runs_brF (cne_f h1)).2 ?_
  by_cases h2:(expl.length:Int)=n
  ·refine (runs_brF (cne_f h2)).2 ?_
   by_cases h3:(next.length:Int)=modes.length
   ·refine (runs_brF (cne_f h3)).2 (runs_r ?_ (mode1 hl (by omega) (by omega) data.length 0 rfl (by omega)))
    rw [beq_iff_eq.2 h1,beq_iff_eq.2 h2,beq_iff_eq.2 (show next.length=modes.length by omega)]; rfl
   ·refine (runs_brT (cne_t h3)).2 (runs_r ?_ (.ret _))
    rw [beq_eq_false_iff_ne.2 (show next.length≠modes.length by omega),Bool.and_false,Bool.false_and]
  ·refine (runs_brT (cne_t h2)).2 (runs_r ?_ (.ret _))
   rw [beq_eq_false_iff_ne.2 h2,Bool.and_false]; rfl
 ·refine (runs_brT (cne_t h1)).2 (runs_r ?_ (.ret _))
  rw [beq_eq_false_iff_ne.2 h1]; rfl
def fn157:(Medl×Mode)→Bool:=fun (m,x)=>modeB m x
def pre157:(Medl×Mode)→Bool:=fun (m,_)=>(m.2.2.2.2.2.2.1.length:Int) == m.1
def sp157:FSpec:=⟨[yMedl,yMode], [.bool],pre157,fn157⟩
theorem run157 {mNodes:Int} {mSlot:Int} {mGap:Int} {mWindow:Int} {mDrift:Int} {mDelay:Int} {mCold:List Bool} {mModes:List Mode} {xData:List Int} {xExplicit:List Bool} {xNext:List Bool} (h:Ty.hass [yMedl,yMode] ((mNodes,mSlot,mGap,mWindow,mDrift,mDelay,mCold,mModes),xData,xExplicit,xNext)) (hp:pre157 ((mNodes,mSlot,mGap,mWindow,mDrift,mDelay,mCold,mModes),xData,xExplicit,xNext)=true):Runs (s157 std) (t157 std mNodes mSlot mGap mWindow mDrift mDelay mCold mModes xData xExplicit xNext) (fn157 ((mNodes,mSlot,mGap,mWindow,mDrift,mDelay,mCold,mModes),xData,xExplicit,xNext)):=by
 exact mode2 h.2.1.1 (by simpa [pre157] using hp)
theorem so157:FSpec.Sound Tryz.prog 178 sp157:=
 w157_ok.sound _ _ fun ((mNodes,mSlot,mGap,mWindow,mDrift,mDelay,mCold,mModes),xData,xExplicit,xNext) hp h=>run157 h hp
open Go.Ev.Pl
def t183 (A:Alg) (explicit:Bool) (data:Int):LT Int Empty:=
 .br (A.not explicit)
 (.ret 2)
 (.br (A.cmp .gtr data 0)
 (.ret 4)
 (.ret 3))
noncomputable def E183 (A:Alg):Info (Ty.Ts [(.int .i64)]):={ti:=tys,fns:=[(259,Tryz.f259)],sps:=[],stops:=[],cuts:=[],consts:=[],fin:=finD A [(.int .i64)]}
theorem t183_ok (A:Alg) (explicit:Bool) (data:Int):run A (E183 A) 32 (startC 259 Tryz.f259 (dvals A [.bool,(.int .i64)] (explicit,data)))=(t183 A explicit data).tr Empty.elim:=by kernel_rfl
def w183:Walk Tryz.prog 259 [.bool,(.int .i64)] [(.int .i64)] Empty:=⟨fun (explicit,data)=>t183 std explicit data,Empty.elim⟩
theorem w183_ok:w183.Ok:=
 walk_ok (E:=E183 std) ⟨tys_fit,fns_cons Tryz.func259 (by kernel_rfl) (fns_nil),sps_nil,by kernel_rfl⟩ rfl rfl rfl (by kernel_rfl) w183 Empty.elim 32 (fun (explicit,data)=>t183_ok std explicit data) (fun y=>y.elim)
def fn183:(Bool×Int)→Int:=fun (explicit,data)=>(t183 std explicit data).val (Ty.dflts [(.int .i64)])
def sp183:FSpec:=⟨[.bool,(.int .i64)], [(.int .i64)],(@tt (Bool×Int)),fn183⟩
theorem eqs183 (explicit:Bool) (data:Int):(t183 std explicit data).Eqs:=by simp only [t183,LT.Eqs,and_self,true_and,and_true]
theorem pre183_ok {explicit:Bool} {data:Int} (h:Ty.hass [.bool,(.int .i64)] (explicit,data)):(t183 std explicit data).pre=true:=by
 simp [t183,LT.pre,std_call,tt_eq]
theorem so183:FSpec.Sound Tryz.prog 259 sp183:=
 w183_ok.sound _ _ fun (explicit,data) _ h=>LT.runs (d:=Ty.dflts [(.int .i64)]) (eqs183 explicit data) (pre183_ok h)
def t173 (A:Alg) (n:Int):LT Int Empty:=
 .br (A.cmp .lss n 0)
 (.ret 0)
 (.br (A.cmp .gtr n 4095)
 (.ret 0)
 (.ret (A.bin .add .i64 14 (A.bin .quo .i64 (A.bin .add .i64 n 1) 2))))
noncomputable def E173 (A:Alg):Info (Ty.Ts [(.int .i64)]):={ti:=tys,fns:=[(276,Tryz.f276)],sps:=[],stops:=[],cuts:=[],consts:=[],fin:=finD A [(.int .i64)]}
theorem t173_ok (A:Alg) (n:Int):run A (E173 A) 30 (startC 276 Tryz.f276 (dvals A [(.int .i64)] n))=(t173 A n).tr Empty.elim:=by kernel_rfl
def w173:Walk Tryz.prog 276 [(.int .i64)] [(.int .i64)] Empty:=⟨fun n=>t173 std n,Empty.elim⟩
theorem w173_ok:w173.Ok:=
 walk_ok (E:=E173 std) ⟨tys_fit,fns_cons Tryz.func276 (by kernel_rfl) (fns_nil),sps_nil,by kernel_rfl⟩ rfl rfl rfl (by kernel_rfl) w173 Empty.elim 30 (fun n=>t173_ok std n) (fun y=>y.elim)
def fn173:Int→Int:=fun n=>(t173 std n).val (Ty.dflts [(.int .i64)])
def sp173:FSpec:=⟨[(.int .i64)], [(.int .i64)],(@tt Int),fn173⟩
theorem eqs173 (n:Int):(t173 std n).Eqs:=by simp only [t173,LT.Eqs,and_self,true_and,and_true]
theorem pre173_ok {n:Int} (h:Ty.hass [(.int .i64)] n):(t173 std n).pre=true:=by
 simp [t173,LT.pre,std_call,tt_eq]
theorem so173:FSpec.Sound Tryz.prog 276 sp173:=
 w173_ok.sound _ _ fun n _ h=>LT.runs (d:=Ty.dflts [(.int .i64)]) (eqs173 n) (pre173_ok h)
structure P176c0 where
 (a0:Int) (a1:List Mode) (a2 a3 a4 a5 a6 a7 a8 a9:Int) (a10:List Bool) (a11:List Mode)
structure P176c1 where
 (b1:List Mode) (b2 b3:Int) (b4:List Int) (b5 b7 b8 b9 b10 b11 b12:Int) (b13:List Bool) (b14:List Mode) (b15:List Int) (b16 b17:List Bool)
inductive Y176 where
 | c0 (p:P176c0)
 | c1 (p:P176c1) (b0:Int) (b6:Int)
noncomputable def cfg176:Y176→Cfg
 | .c0 p=>{frames:=[{fn:=240,n:=55,env:=(Env.put (Env.put (Env.put (Env.put (Env.put .leaf 1 (.ptr 0 0)) 3 (.int .i64 false p.a0)) 12 (.sl yMode p.a1)) 13 (.int .i64 false p.a2)) 14 (.int .i64 false p.a3)),todo:=[.inLoop (Code.way (bodyOf Tryz.f240) [1,1,0,1,0,0]),.inBlock 0,.code (Code.way (bodyOf Tryz.f240) [1,1,1])],marks:=[],rnd:=none}],mem:=[.flat false [.int .i64 false p.a4,.int .i64 false p.a5,.int .i64 false p.a6,.int .i64 false p.a7,.int .i64 false p.a8,.int .i64 false p.a9,.sl .bool p.a10,.sl yMode p.a11],.dead]}
 | .c1 p b0 b6=>{frames:=[{fn:=240,n:=55,env:=(Env.put (Env.put (Env.put (Env.put (Env.put (Env.put (Env.put (Env.put (Env.put .leaf 1 (.ptr 0 0)) 3 (.int .i64 false b0)) 5 (.ptr 1 0)) 12 (.sl yMode p.b1)) 13 (.int .i64 false p.b2)) 14 (.int .i64 false p.b3)) 19 (.sl (.int .i64) p.b4)) 20 (.int .i64 false p.b5)) 21 (.int .i64 false b6)),todo:=[.inLoop (Code.way (bodyOf Tryz.f240) [1,1,0,1,0,0,1,1,0,0,1,1,0,0]),.inBlock 2,.inBlock 1,.code (Code.way (bodyOf Tryz.f240) [1,1,0,1,0,0,1,1,1]),.inLoop (Code.way (bodyOf Tryz.f240) [1,1,0,1,0,0]),.inBlock 0,.code (Code.way (bodyOf Tryz.f240) [1,1,1])],marks:=[],rnd:=none}],mem:=[.flat false [.int .i64 false p.b7,.int .i64 false p.b8,.int .i64 false p.b9,.int .i64 false p.b10,.int .i64 false p.b11,.int .i64 false p.b12,.sl .bool p.b13,.sl yMode p.b14],.flat false [.sl (.int .i64) p.b15,.sl .bool p.b16,.sl .bool p.b17],.dead]}
def t176 (A:Alg) (mNodes:Int) (mSlot:Int) (mGap:Int) (mWindow:Int) (mDrift:Int) (mDelay:Int) (mCold:List Bool) (mModes:List Mode):LT Int Y176:=
 .need (A.call (@tt (Int×Int)) (1,0)) (
 .need (A.call (@tt Int) (A.call fn56 (1,0))) (
 .more (.c0 ⟨(A.call fn173 (A.call fn56 (1,0))),mModes,(A.len mModes),0,mNodes,mSlot,mGap,mWindow,mDrift,mDelay,mCold,mModes⟩)))
def s176 (A:Alg):Y176→LT Int Y176
 | .c0 p=>
  .br (A.cmp .lss p.a3 p.a2)
  (.need (A.and (A.cmp .leq 0 p.a3) (A.cmp .lss p.a3 (A.len p.a1))) (
   .more (.c1 ⟨p.a1,p.a2,p.a3,(A.nth yMode p.a1 p.a3:Mode).1,(A.len (A.nth yMode p.a1 p.a3:Mode).1),p.a4,p.a5,p.a6,p.a7,p.a8,p.a9,p.a10,p.a11,(A.nth yMode p.a1 p.a3:Mode).1,(A.nth yMode p.a1 p.a3:Mode).2.1,(A.nth yMode p.a1 p.a3:Mode).2.2⟩ p.a0 0)))
  (.ret p.a0)
 | .c1 p b0 b6=>
  .br (A.cmp .lss b6 p.b5)
  (.need (A.and (A.cmp .leq 0 b6) (A.cmp .lss b6 (A.len p.b4))) (
   .br (A.cmp .lss b6 p.b7)
   (.br (A.cmp .lss b6 (A.len p.b16))
    (.need (A.and (A.cmp .leq 0 b6) (A.cmp .lss b6 (A.len p.b16))) (
    .need (A.call (@tt (Bool×Int)) ((A.nth .bool p.b16 b6:Bool),(A.nth (.int .i64) p.b4 b6:Int))) (
     .need (A.call (@tt (Int×Int)) ((A.call fn183 ((A.nth .bool p.b16 b6:Bool),(A.nth (.int .i64) p.b4 b6:Int))),(A.nth (.int .i64) p.b4 b6:Int))) (
     .br (A.cmp .gtr (A.call fn56 ((A.call fn183 ((A.nth .bool p.b16 b6:Bool),(A.nth (.int .i64) p.b4 b6:Int))),(A.nth (.int .i64) p.b4 b6:Int))) 0)
      (.need (A.call (@tt Int) (A.call fn56 ((A.call fn183 ((A.nth .bool p.b16 b6:Bool),(A.nth (.int .i64) p.b4 b6:Int))),(A.nth (.int .i64) p.b4 b6:Int)))) (
      .more (.c1 p (A.mx b0 (A.call fn173 (A.call fn56 ((A.call fn183 ((A.nth .bool p.b16 b6:Bool),(A.nth (.int .i64) p.b4 b6:Int))),(A.nth (.int .i64) p.b4 b6:Int))))) (A.bin .add .i64 b6 1))))
      (.more (.c1 p b0 (A.bin .add .i64 b6 1)))))))
    (.more (.c1 p b0 (A.bin .add .i64 b6 1))))
   (.more (.c1 p b0 (A.bin .add .i64 b6 1)))))
  (.more (.c0 ⟨b0,p.b1,p.b2,(A.bin .add .i64 p.b3 1),p.b7,p.b8,p.b9,p.b10,p.b11,p.b12,p.b13,p.b14⟩))
noncomputable def E176 (A:Alg):Info (Ty.Ts [(.int .i64)]):={ti:=tys,fns:=[(240,Tryz.f240)],sps:=[(277,sp56),(276,sp173),(259,sp183)],stops:=[⟨240,3, [[1,3,12,13,14]]⟩,⟨240,6, [[1,3,5,12,13,14,19,20,21]]⟩],cuts:=[],consts:=[],fin:=finD A [(.int .i64)]}
theorem t176_ok (A:Alg) (mNodes:Int) (mSlot:Int) (mGap:Int) (mWindow:Int) (mDrift:Int) (mDelay:Int) (mCold:List Bool) (mModes:List Mode):run A (E176 A) 27 (startC 240 Tryz.f240 (dvals A [yMedl] (mNodes,mSlot,mGap,mWindow,mDrift,mDelay,mCold,mModes)))=(t176 A mNodes mSlot mGap mWindow mDrift mDelay mCold mModes).tr cfg176:=by kernel_rfl
theorem s176_ok (A:Alg):∀y,∃n,run A (E176 A) n (advance (E176 A).sps (cfg176 y))=(s176 A y).tr cfg176
 | .c0 p=>⟨31,by kernel_rfl⟩
 | .c1 p b0 b6=>⟨69,by kernel_rfl⟩
def w176:Walk Tryz.prog 240 [yMedl] [(.int .i64)] Y176:=⟨fun (mNodes,mSlot,mGap,mWindow,mDrift,mDelay,mCold,mModes)=>t176 std mNodes mSlot mGap mWindow mDrift mDelay mCold mModes,s176 std⟩
theorem w176_ok:w176.Ok:=
 walk_ok (E:=E176 std) ⟨tys_fit,fns_cons Tryz.func240 (by kernel_rfl) (fns_nil),sps_cons so56 (sps_cons so173 (sps_cons so183 (sps_nil))),by kernel_rfl⟩ rfl rfl rfl (by kernel_rfl) w176 cfg176 27 (fun (mNodes,mSlot,mGap,mWindow,mDrift,mDelay,mCold,mModes)=>t176_ok std mNodes mSlot mGap mWindow mDrift mDelay mCold mModes) (s176_ok std)
def upMax (b:Int) (x:Int×Bool):Int:=bif decide (0 < fn56 (fn183 (x.2,x.1),x.1)) then std.mx b (fn173 (fn56 (fn183 (x.2,x.1),x.1))) else b
def modeMax (n:Nat) (b:Int) (x:Mode):Int:=((x.1.zip x.2.1).take n).foldl upMax b
def maxAirS (m:Medl):Int:=m.2.2.2.2.2.2.2.foldl (modeMax m.1.toNat) (fn173 (fn56 (1,0)))
theorem zip_at {data:List Int} {expl:List Bool} {n:Int} {i:Nat} (h1:i < data.length) (h2:i < expl.length) (h3:(i:Int) < n):((data.zip expl).take n.toNat).drop i=(data[i],expl[i]) :: ((data.zip expl).take n.toNat).drop (i + 1):=by
 have hl:i < ((data.zip expl).take n.toNat).length:=by simp [List.length_take,List.length_zip]; omega
 rw [List.drop_eq_getElem_cons hl,List.getElem_take,List.getElem_zip]
theorem zip_no {data:List Int} {expl:List Bool} {n:Int} {i:Nat} (h:expl.length≤i∨n≤(i:Int)∨data.length≤i):((data.zip expl).take n.toNat).drop i=[]:=by
 apply List.drop_of_length_le
 simp [List.length_take,List.length_zip]; omega
theorem lss_i {i:Nat} {n:Int}:std.cmp .lss (i:Int) n=decide ((i:Int) < n):=rfl
theorem upd_at {b:Int} {d:Int} {e:Bool}:upMax b (d,e)=bif std.cmp .gtr (std.call fn56 ((std.call fn183 (e,d)),d)) 0 then std.mx b (std.call fn173 (std.call fn56 ((std.call fn183 (e,d)),d))) else b:=rfl
theorem max1 {n s g w d de:Int} {cold expl next:List Bool} {modes ms:List Mode} {data:List Int} {L k k1:Int} {F:Int→Int} (hl:data.length≤140737488355328) (hk:std.bin .add .i64 k 1=k1) (hnext:∀b,Runs (s176 std) (.more (.c0 ⟨b,ms,L,k1,n,s,g,w,d,de,cold,modes⟩)) (F b)) :
  ∀(j i:Nat) (b:Int),data.length - i=j→i≤data.length→Runs (s176 std) (.more (.c1 ⟨ms,L,k,data,(data.length:Int),n,s,g,w,d,de,cold,modes,data,expl,next⟩ b (i:Int))) (F ((((data.zip expl).take n.toNat).drop i).foldl upMax b)):=by
 intro j
 induction j with
 | zero=>
  intro i b hj hi
  have:i=data.length:=by omega
  subst this
  rw [runs_more,s176]
  refine (runs_brF (by rw [lss_nat]; simp)).2 ?_
  rw [zip_no (.inr (.inr (Nat.le_refl _))),hk]
  exact hnext b
 | succ j ih=>
  intro i b hj hi
  have hi':i < data.length:=by omega
  rw [runs_more,s176]
  refine (runs_brT (by rw [lss_nat]; simp; omega)).2 (runs_need.2 ⟨need_ix hi',?_⟩)
  have hm:=fun b=>ih (i + 1) b (by omega) (by omega)
  by_cases h3:(i:Int) < n
  ·refine (runs_brT (by rw [lss_i]; simpa using h3)).2 ?_
   by_cases h2:i < expl.length
   ·refine (runs_brT (by rw [lenI,lss_nat]; simpa using h2)).2 (runs_need.2 ⟨need_ix (show i < expl.length from h2),runs_need.2 ⟨rfl,runs_need.2 ⟨rfl,?_⟩⟩⟩)
    rw [zip_at hi' h2 h3,List.foldl_cons,upd_at,←nthI hi',←nthB h2,inc1 (i:=i) (by omega)]
    cases hb:std.cmp .gtr (std.call fn56 ((std.call fn183 ((std.nth .bool expl (i:Int):Bool),(std.nth (.int .i64) data (i:Int):Int))),(std.nth (.int .i64) data (i:Int):Int))) 0
    ·exact (runs_brF rfl).2 (hm _)
    ·exact (runs_brT rfl).2 (runs_need.2 ⟨rfl,hm _⟩)
   ·refine (runs_brF (by rw [lenI,lss_nat]; simpa using h2)).2 ?_
    rw [inc1 (i:=i) (by omega)]
    have:=hm b
    rw [zip_no (.inl (by omega))] at this ⊢
    exact this
  ·refine (runs_brF (by rw [lss_i]; simpa using h3)).2 ?_
   rw [inc1 (i:=i) (by omega)]
   have:=hm b
   rw [zip_no (.inr (.inl (by omega)))] at this ⊢
   exact this
theorem max0 {n s g w d de:Int} {cold:List Bool} {modes ms:List Mode} (hl:ms.length≤140737488355328) (hd:∀x∈ms,x.1.length≤140737488355328) :
  ∀(j k:Nat) (b:Int),ms.length - k=j→k≤ms.length→Runs (s176 std) (.more (.c0 ⟨b,ms,(ms.length:Int),(k:Int),n,s,g,w,d,de,cold,modes⟩)) ((ms.drop k).foldl (modeMax n.toNat) b):=by
 intro j
 induction j with
 | zero=>
  intro k b hj hk
  have:k=ms.length:=by omega
  subst this
  rw [runs_more,s176]
  refine (runs_brF (by rw [lss_nat]; simp)).2 ?_
  rw [List.drop_length]
  exact .ret _
 | succ j ih=>
  intro k b hj hk
  have hk':k < ms.length:=by omega
  rw [runs_more,s176]
  refine (runs_brT (by rw [lss_nat]; simp; omega)).2 (runs_need.2 ⟨need_ix hk',?_⟩)
  rw [show (std.nth yMode ms (k:Int):Mode)=ms[k] from getD_in hk' _,List.drop_eq_getElem_cons hk',List.foldl_cons]
  exact max1 (F:=fun b=>(ms.drop (k + 1)).foldl (modeMax n.toNat) b) (hd _ (List.getElem_mem hk')) (inc1 (by omega)) (fun b=>ih (k + 1) b (by omega) (by omega)) ms[k].1.length 0 b rfl (by omega)
theorem max2 {n s g w d de:Int} {cold:List Bool} {modes:List Mode} (h:Ty.has yMedl (n,s,g,w,d,de,cold,modes)):Runs (s176 std) (t176 std n s g w d de cold modes) (maxAirS (n,s,g,w,d,de,cold,modes)):=
 runs_need.2 ⟨rfl,runs_need.2 ⟨rfl,max0 (has_medl h).2.2.1 (fun x hx=>((has_medl h).2.2.2 x hx).1) modes.length 0 _ rfl (by omega)⟩⟩
def fn176:Medl→Int:=maxAirS
def sp176:FSpec:=⟨[yMedl], [(.int .i64)],(@tt Medl),fn176⟩
theorem run176 {mNodes:Int} {mSlot:Int} {mGap:Int} {mWindow:Int} {mDrift:Int} {mDelay:Int} {mCold:List Bool} {mModes:List Mode} (h:Ty.hass [yMedl] (mNodes,mSlot,mGap,mWindow,mDrift,mDelay,mCold,mModes)):Runs (s176 std) (t176 std mNodes mSlot mGap mWindow mDrift mDelay mCold mModes) (fn176 (mNodes,mSlot,mGap,mWindow,mDrift,mDelay,mCold,mModes)):=by
 exact max2 h
theorem so176:FSpec.Sound Tryz.prog 240 sp176:=
 w176_ok.sound _ _ fun (mNodes,mSlot,mGap,mWindow,mDrift,mDelay,mCold,mModes) _ h=>run176 h
def t159 (A:Alg) (mNodes:Int) (mSlot:Int) (mGap:Int) (mWindow:Int) (mDrift:Int) (mDelay:Int) (mCold:List Bool) (mModes:List Mode):LT (Int×Int×Int) Empty:=
 .need (A.call (@tt Medl) (mNodes,mSlot,mGap,mWindow,mDrift,mDelay,mCold,mModes)) (
 .eqs (IntKind.i64=IntKind.i64∧((A.bin .add .i64 (A.bin .mul .i64 2 mGap) (A.call fn176 (mNodes,mSlot,mGap,mWindow,mDrift,mDelay,mCold,mModes))):Int)=(A.bin .add .i64 (A.bin .mul .i64 2 mGap) (A.call fn176 (mNodes,mSlot,mGap,mWindow,mDrift,mDelay,mCold,mModes)))) (
 .eqs (IntKind.i64=IntKind.i64∧((A.bin .mul .i64 2 mGap):Int)=(A.bin .mul .i64 2 mGap)) (
  .eqs (IntKind.i64=IntKind.i64∧(mGap:Int)=mGap) (
  .eqs ((.ptr 0 2:AV)=.ptr 0 2) (
   .eqs (IntKind.i64=IntKind.i64∧((A.bin .add .i64 (A.bin .add .i64 (A.bin .mul .i64 2 mWindow) (A.bin .mul .i64 2 mDelay)) 4):Int)=(A.bin .add .i64 (A.bin .add .i64 (A.bin .mul .i64 2 mWindow) (A.bin .mul .i64 2 mDelay)) 4)) (
   .eqs (IntKind.i64=IntKind.i64∧((A.bin .add .i64 (A.bin .mul .i64 2 mGap) (A.call fn176 (mNodes,mSlot,mGap,mWindow,mDrift,mDelay,mCold,mModes))):Int)=(A.bin .add .i64 (A.bin .mul .i64 2 mGap) (A.call fn176 (mNodes,mSlot,mGap,mWindow,mDrift,mDelay,mCold,mModes)))) (
    .eqs (IntKind.i64=IntKind.i64∧((A.bin .mul .i64 2 mGap):Int)=(A.bin .mul .i64 2 mGap)) (
    .eqs (IntKind.i64=IntKind.i64∧(mGap:Int)=mGap) (
     .eqs ((.ptr 0 2:AV)=.ptr 0 2) (
     .ret ((A.bin .add .i64 (A.bin .mul .i64 (A.bin .mul .i64 16 mNodes) mDrift) 16),(A.bin .add .i64 (A.bin .add .i64 (A.bin .mul .i64 2 mWindow) (A.bin .mul .i64 2 mDelay)) 4),(A.bin .add .i64 (A.bin .mul .i64 2 mGap) (A.call fn176 (mNodes,mSlot,mGap,mWindow,mDrift,mDelay,mCold,mModes))))))))))))))
noncomputable def E159 (A:Alg):Info (Ty.Ts [(.int .i64),(.int .i64),(.int .i64)]):={ti:=tys,fns:=[(180,Tryz.f180)],sps:=[(240,sp176)],stops:=[],cuts:=[],consts:=[],fin:=finD A [(.int .i64),(.int .i64),(.int .i64)]}
theorem t159_ok (A:Alg) (mNodes:Int) (mSlot:Int) (mGap:Int) (mWindow:Int) (mDrift:Int) (mDelay:Int) (mCold:List Bool) (mModes:List Mode):run A (E159 A) 50 (startC 180 Tryz.f180 (dvals A [yMedl] (mNodes,mSlot,mGap,mWindow,mDrift,mDelay,mCold,mModes)))=(t159 A mNodes mSlot mGap mWindow mDrift mDelay mCold mModes).tr Empty.elim:=by kernel_rfl
def w159:Walk Tryz.prog 180 [yMedl] [(.int .i64),(.int .i64),(.int .i64)] Empty:=⟨fun (mNodes,mSlot,mGap,mWindow,mDrift,mDelay,mCold,mModes)=>t159 std mNodes mSlot mGap mWindow mDrift mDelay mCold mModes,Empty.elim⟩
theorem w159_ok:w159.Ok:=
 walk_ok (E:=E159 std) ⟨tys_fit,fns_cons Tryz.func180 (by kernel_rfl) (fns_nil),sps_cons so176 (sps_nil),by kernel_rfl⟩ rfl rfl rfl (by kernel_rfl) w159 Empty.elim 50 (fun (mNodes,mSlot,mGap,mWindow,mDrift,mDelay,mCold,mModes)=>t159_ok std mNodes mSlot mGap mWindow mDrift mDelay mCold mModes) (fun y=>y.elim)
def fn159:Medl→(Int×Int×Int):=fun (mNodes,mSlot,mGap,mWindow,mDrift,mDelay,mCold,mModes)=>(t159 std mNodes mSlot mGap mWindow mDrift mDelay mCold mModes).val (Ty.dflts [(.int .i64),(.int .i64),(.int .i64)])
def sp159:FSpec:=⟨[yMedl], [(.int .i64),(.int .i64),(.int .i64)],(@tt Medl),fn159⟩
theorem eqs159 (mNodes:Int) (mSlot:Int) (mGap:Int) (mWindow:Int) (mDrift:Int) (mDelay:Int) (mCold:List Bool) (mModes:List Mode):(t159 std mNodes mSlot mGap mWindow mDrift mDelay mCold mModes).Eqs:=by simp only [t159,LT.Eqs,and_self,true_and,and_true]
theorem pre159_ok {mNodes:Int} {mSlot:Int} {mGap:Int} {mWindow:Int} {mDrift:Int} {mDelay:Int} {mCold:List Bool} {mModes:List Mode} (h:Ty.hass [yMedl] (mNodes,mSlot,mGap,mWindow,mDrift,mDelay,mCold,mModes)):(t159 std mNodes mSlot mGap mWindow mDrift mDelay mCold mModes).pre=true:=by
 simp [t159,LT.pre,std_call,tt_eq]
theorem so159:FSpec.Sound Tryz.prog 180 sp159:=
 w159_ok.sound _ _ fun (mNodes,mSlot,mGap,mWindow,mDrift,mDelay,mCold,mModes) _ h=>LT.runs (d:=Ty.dflts [(.int .i64),(.int .i64),(.int .i64)]) (eqs159 mNodes mSlot mGap mWindow mDrift mDelay mCold mModes) (pre159_ok h)
theorem runs_if {R Y:Type} {step:Y→LT R Y} {t e:LT R Y} {r:R} {p:Prop} [Decidable p] {b:Bool} (hb:b=decide p) (ht:p→Runs step t r) (he:¬p→Runs step e r):Runs step (.br b t e) r:=by
 by_cases h:p
 ·exact (runs_brT (by rw [hb]; simpa using h)).2 (ht h)
 ·exact (runs_brF (by rw [hb]; simpa using h)).2 (he h)
theorem runs_in {R Y:Type} {step:Y→LT R Y} {t e:LT R Y} {r:R} {x a b:Int} (ht:¬(a≤x∧x≤b)→Runs step t r) (he:a≤x∧x≤b→Runs step e r):Runs step (.br (std.not (std.call fn158 (x,a,b))) t e) r:=by
 refine runs_if (p:=¬(a≤x∧x≤b)) ?_ ht (fun h=>he (Decidable.not_not.1 h))
 rw [std_not,std_call,within_eq,←Bool.decide_and,←decide_not]
theorem air_range {n:Int}:0≤fn173 n∧fn173 n≤2062:=by
 simp only [fn173,t173,LT.val,std_cmp_lss,std_cmp_gtr,Bool.cond_eq_ite,decide_eq_true_eq]
 split
 ·omega
 ·split
  ·omega
  ·rw [std_add,std_quo,std_add,w64 (a:=n + 1) (by omega) (by omega)]
   have:(n + 1).tdiv 2=(n + 1) / 2:=Int.tdiv_eq_ediv_of_nonneg (by omega)
   rw [this,w64 (a:=(n + 1) / 2) (by omega) (by omega),w64 (by omega) (by omega)]
   omega
theorem up_range {b:Int} {x:Int×Bool} (h:0≤b∧b≤2062):0≤upMax b x∧upMax b x≤2062:=by
 have:=air_range (n:=fn56 (fn183 (x.2,x.1),x.1))
 unfold upMax
 cases decide (0 < fn56 (fn183 (x.2,x.1),x.1))
 ·exact h
 ·rw [ctrue,std_mx]; split <;> omega
theorem fold_range {α:Type} {f:Int→α→Int} (hf:∀b x,0≤b∧b≤2062→0≤f b x∧f b x≤2062):∀{l:List α} {b:Int},0≤b∧b≤2062→0≤l.foldl f b∧l.foldl f b≤2062
 | [],_,h=>h
 | x :: l,b,h=>fold_range hf (l:=l) (hf b x h)
theorem max_range {m:Medl}:0≤maxAirS m∧maxAirS m≤2062:=fold_range (fun _ _ h=>fold_range (fun _ _ h=>up_range h) h) air_range
def limB (n s g w d de mx:Int):Bool:=decide (0≤d∧d≤64∧0≤de∧de≤64∧16 * n * d + 16≤w∧w≤1048576∧2 * w + 2 * de + 4≤g∧g≤1048576∧2 * g + mx≤s∧s≤16777216)
def medlB (m:Medl):Bool:=countB m && m.2.2.2.2.2.2.2.all (modeB m) && limB m.1 m.2.1 m.2.2.1 m.2.2.2.1 m.2.2.2.2.1 m.2.2.2.2.2.1 (maxAirS m)
def medlS (m:Medl):Int:=bif medlB m then 0 else 70
theorem win_eq {n d:Int} (h:4≤n∧n≤8) (h2:0≤d∧d≤64):std.bin .add .i64 (std.bin .mul .i64 (std.bin .mul .i64 16 n) d) 16=16 * n * d + 16:=by
 have h3:0≤16 * n * d∧16 * n * d≤8192:=by
  have:n=4∨n=5∨n=6∨n=7∨n=8:=by omega
  rcases this with rfl | rfl | rfl | rfl | rfl <;> omega
 rw [std_add,std_mul,std_mul,w64 (a:=16 * n) (by omega) (by omega),w64 (a:=16 * n * d) (by omega) (by omega),w64 (by omega) (by omega)]
theorem win_low {n d:Int} (h:4≤n∧n≤8) (h2:0≤d∧d≤64):0≤16 * n * d:=by
 have:n=4∨n=5∨n=6∨n=7∨n=8:=by omega
 rcases this with rfl | rfl | rfl | rfl | rfl <;> omega
theorem gap_eq {w de:Int} (h:0≤w∧w≤1048576) (h2:0≤de∧de≤64):std.bin .add .i64 (std.bin .add .i64 (std.bin .mul .i64 2 w) (std.bin .mul .i64 2 de)) 4=2 * w + 2 * de + 4:=by
 rw [std_add,std_add,std_mul,std_mul,w64 (a:=2 * w) (by omega) (by omega),w64 (a:=2 * de) (by omega) (by omega),w64 (a:=2 * w + 2 * de) (by omega) (by omega),w64 (by omega) (by omega)]
theorem slot_eq {g mx:Int} (h:0≤g∧g≤1048576) (h2:0≤mx∧mx≤2062):std.bin .add .i64 (std.bin .mul .i64 2 g) mx=2 * g + mx:=by
 rw [std_add,std_mul,w64 (a:=2 * g) (by omega) (by omega),w64 (by omega) (by omega)]
theorem fn159_eq {n s g w d de:Int} {cold:List Bool} {modes:List Mode}:fn159 (n,s,g,w,d,de,cold,modes)=(std.bin .add .i64 (std.bin .mul .i64 (std.bin .mul .i64 16 n) d) 16,std.bin .add .i64 (std.bin .add .i64 (std.bin .mul .i64 2 w) (std.bin .mul .i64 2 de)) 4,std.bin .add .i64 (std.bin .mul .i64 2 g) (maxAirS (n,s,g,w,d,de,cold,modes))):=rfl
open Go.Ev.Pl
structure P124c0 where
 (a0:List Mode) (a1 a3 a4 a5 a6 a7 a8:Int) (a9:List Bool) (a10:List Mode)
inductive Y124 where
 | c0 (p:P124c0) (a2:Int)
noncomputable def cfg124:Y124→Cfg
 | .c0 p a2=>{frames:=[{fn:=239,n:=19,env:=(Env.put (Env.put (Env.put (Env.put .leaf 0 (.sl yMode p.a0)) 1 (.fn 177 [] [.ptr 0 0])) 7 (.int .i64 false p.a1)) 8 (.int .i64 false a2)),todo:=[.inLoop (Code.way (bodyOf Tryz.f239) [1,0,1,0,0]),.inBlock 0,.code (Code.way (bodyOf Tryz.f239) [1,1])],marks:=[],rnd:=none},{fn:=176,n:=9,env:=.leaf,todo:=[.ops (opsOf (Code.way (bodyOf Tryz.f176) [1,0])) ((opsOf (Code.way (bodyOf Tryz.f176) [1,0])).toList.drop 2),.code .ret],marks:=[],rnd:=none},{fn:=81,n:=65,env:=(Env.put .leaf 1 (.ptr 0 0)),todo:=[.ops (opsOf (Code.way (bodyOf Tryz.f81) [1,0,0,0,0,0,0,0,0,1,0,0])) ((opsOf (Code.way (bodyOf Tryz.f81) [1,0,0,0,0,0,0,0,0,1,0,0])).toList.drop 3),.code (Code.way (bodyOf Tryz.f81) [1,0,0,0,0,0,0,0,0,1,0,1]),.code (Code.way (bodyOf Tryz.f81) [1,0,0,0,0,0,0,0,0,1,1]),.code (.exit 0),.inBlock 1,.inBlock 2,.inBlock 3,.inBlock 4,.code (Code.way (bodyOf Tryz.f81) [1,0,0,1]),.inBlock 0,.code (Code.way (bodyOf Tryz.f81) [1,1])],marks:=[],rnd:=none}],mem:=[.flat false [.int .i64 false p.a3,.int .i64 false p.a4,.int .i64 false p.a5,.int .i64 false p.a6,.int .i64 false p.a7,.int .i64 false p.a8,.sl .bool p.a9,.sl yMode p.a10],.dead]}
def t124 (A:Alg) (mNodes:Int) (mSlot:Int) (mGap:Int) (mWindow:Int) (mDrift:Int) (mDelay:Int) (mCold:List Bool) (mModes:List Mode):LT Int Y124:=
 .need (A.call (@tt Medl) (mNodes,mSlot,mGap,mWindow,mDrift,mDelay,mCold,mModes)) (
 .br (A.not (A.call fn154 (mNodes,mSlot,mGap,mWindow,mDrift,mDelay,mCold,mModes)))
 (.ret 70)
 (.more (.c0 ⟨mModes,(A.len mModes),mNodes,mSlot,mGap,mWindow,mDrift,mDelay,mCold,mModes⟩ 0)))
def s124 (A:Alg):Y124→LT Int Y124
 | .c0 p a2=>
  .br (A.cmp .lss a2 p.a1)
  (.need (A.and (A.cmp .leq 0 a2) (A.cmp .lss a2 (A.len p.a0))) (
   .need (A.call pre157 ((p.a3,p.a4,p.a5,p.a6,p.a7,p.a8,p.a9,p.a10),(A.nth yMode p.a0 a2:Mode))) (
   .br (A.not (A.call fn157 ((p.a3,p.a4,p.a5,p.a6,p.a7,p.a8,p.a9,p.a10),(A.nth yMode p.a0 a2:Mode))))
    (.br (A.cmp .geq a2 0)
    (.ret 70)
    (.need (A.call (@tt (Int×Int×Int)) (p.a7,0,64)) (
     .br (A.not (A.call fn158 (p.a7,0,64)))
     (.ret 70)
     (.need (A.call (@tt (Int×Int×Int)) (p.a8,0,64)) (
      .br (A.not (A.call fn158 (p.a8,0,64)))
      (.ret 70)
      (.need (A.call (@tt (Int×Int×Int)) (p.a6,0,1048576)) (
       .br (A.not (A.call fn158 (p.a6,0,1048576)))
       (.ret 70)
       (.need (A.call (@tt (Int×Int×Int)) (p.a5,0,1048576)) (
        .br (A.not (A.call fn158 (p.a5,0,1048576)))
        (.ret 70)
        (.need (A.call (@tt (Int×Int×Int)) (p.a4,0,16777216)) (
         .br (A.not (A.call fn158 (p.a4,0,16777216)))
         (.ret 70)
         (.need (A.call (@tt Medl) (p.a3,p.a4,p.a5,p.a6,p.a7,p.a8,p.a9,p.a10)) (
          .br (A.cmp .lss p.a6 (A.call fn159 (p.a3,p.a4,p.a5,p.a6,p.a7,p.a8,p.a9,p.a10)).1)
          (.ret 70)
          (.br (A.cmp .lss p.a5 (A.call fn159 (p.a3,p.a4,p.a5,p.a6,p.a7,p.a8,p.a9,p.a10)).2.1)
           (.ret 70)
           (.br (A.cmp .lss p.a4 (A.call fn159 (p.a3,p.a4,p.a5,p.a6,p.a7,p.a8,p.a9,p.a10)).2.2)
           (.ret 70)
           (.ret 0))))))))))))))))
    (.more (.c0 p (A.bin .add .i64 a2 1))))))
  (.need (A.call (@tt (Int×Int×Int)) (p.a7,0,64)) (
   .br (A.not (A.call fn158 (p.a7,0,64)))
   (.ret 70)
   (.need (A.call (@tt (Int×Int×Int)) (p.a8,0,64)) (
    .br (A.not (A.call fn158 (p.a8,0,64)))
    (.ret 70)
    (.need (A.call (@tt (Int×Int×Int)) (p.a6,0,1048576)) (
     .br (A.not (A.call fn158 (p.a6,0,1048576)))
     (.ret 70)
     (.need (A.call (@tt (Int×Int×Int)) (p.a5,0,1048576)) (
      .br (A.not (A.call fn158 (p.a5,0,1048576)))
      (.ret 70)
      (.need (A.call (@tt (Int×Int×Int)) (p.a4,0,16777216)) (
       .br (A.not (A.call fn158 (p.a4,0,16777216)))
       (.ret 70)
       (.need (A.call (@tt Medl) (p.a3,p.a4,p.a5,p.a6,p.a7,p.a8,p.a9,p.a10)) (
        .br (A.cmp .lss p.a6 (A.call fn159 (p.a3,p.a4,p.a5,p.a6,p.a7,p.a8,p.a9,p.a10)).1)
        (.ret 70)
        (.br (A.cmp .lss p.a5 (A.call fn159 (p.a3,p.a4,p.a5,p.a6,p.a7,p.a8,p.a9,p.a10)).2.1)
         (.ret 70)
         (.br (A.cmp .lss p.a4 (A.call fn159 (p.a3,p.a4,p.a5,p.a6,p.a7,p.a8,p.a9,p.a10)).2.2)
         (.ret 70)
         (.ret 0)))))))))))))))
noncomputable def E124 (A:Alg):Info (Ty.Ts [(.int .i64)]):={ti:=tys,fns:=[(81,Tryz.f81),(176,Tryz.f176),(177,Tryz.f177),(239,Tryz.f239)],sps:=[(175,sp154),(178,sp157),(179,sp158),(180,sp159)],stops:=[⟨239,2, [[0,1,7,8], [], [1]]⟩],cuts:=[],consts:=[],fin:=finD A [(.int .i64)]}
theorem t124_ok (A:Alg) (mNodes:Int) (mSlot:Int) (mGap:Int) (mWindow:Int) (mDrift:Int) (mDelay:Int) (mCold:List Bool) (mModes:List Mode):run A (E124 A) 58 (startC 81 Tryz.f81 (dvals A [yMedl] (mNodes,mSlot,mGap,mWindow,mDrift,mDelay,mCold,mModes)))=(t124 A mNodes mSlot mGap mWindow mDrift mDelay mCold mModes).tr cfg124:=by kernel_rfl
theorem s124_ok (A:Alg):∀y,∃n,run A (E124 A) n (advance (E124 A).sps (cfg124 y))=(s124 A y).tr cfg124
 | .c0 p a2=>⟨136,by kernel_rfl⟩
def w124:Walk Tryz.prog 81 [yMedl] [(.int .i64)] Y124:=⟨fun (mNodes,mSlot,mGap,mWindow,mDrift,mDelay,mCold,mModes)=>t124 std mNodes mSlot mGap mWindow mDrift mDelay mCold mModes,s124 std⟩
theorem w124_ok:w124.Ok:=
 walk_ok (E:=E124 std) ⟨tys_fit,fns_cons Tryz.func81 (by kernel_rfl) (fns_cons Tryz.func176 (by kernel_rfl) (fns_cons Tryz.func177 (by kernel_rfl) (fns_cons Tryz.func239 (by kernel_rfl) (fns_nil)))),sps_cons so154 (sps_cons so157 (sps_cons so158 (sps_cons so159 (sps_nil)))),by kernel_rfl⟩ rfl rfl rfl (by kernel_rfl) w124 cfg124 58 (fun (mNodes,mSlot,mGap,mWindow,mDrift,mDelay,mCold,mModes)=>t124_ok std mNodes mSlot mGap mWindow mDrift mDelay mCold mModes) (s124_ok std)
theorem tail124 {n s g w d de:Int} {cold:List Bool} {modes:List Mode} {R:Int} (hn:4≤n∧n≤8) (hR:R=bif limB n s g w d de (maxAirS (n,s,g,w,d,de,cold,modes)) then 0 else 70) :
  Runs (s124 std) (.need (std.call (@tt (Int×Int×Int)) (d,0,64)) (.br (std.not (std.call fn158 (d,0,64))) (.ret 70) (.need (std.call (@tt (Int×Int×Int)) (de,0,64)) (.br (std.not (std.call fn158 (de,0,64))) (.ret 70) (.need (std.call (@tt (Int×Int×Int)) (w,0,1048576)) (.br (std.not (std.call fn158 (w,0,1048576))) (.ret 70) (.need (std.call (@tt (Int×Int×Int)) (g,0,1048576)) (.br (std.not (std.call fn158 (g,0,1048576))) (.ret 70) (.need (std.call (@tt (Int×Int×Int)) (s,0,16777216)) (.br (std.not (std.call fn158 (s,0,16777216))) (.ret 70) (.need (std.call (@tt Medl) (n,s,g,w,d,de,cold,modes)) (.br (std.cmp .lss w (std.call fn159 (n,s,g,w,d,de,cold,modes)).1) (.ret 70) (.br (std.cmp .lss g (std.call fn159 (n,s,g,w,d,de,cold,modes)).2.1) (.ret 70) (.br (std.cmp .lss s (std.call fn159 (n,s,g,w,d,de,cold,modes)).2.2) (.ret 70) (.ret 0))))))))))))))) R:=by
 have hm:=max_range (m:=(n,s,g,w,d,de,cold,modes))
 have no:∀{p:Prop} [Decidable p],¬p→decide p=false:=fun h=>by simpa using h
 rw [hR]
 refine runs_need.2 ⟨rfl,runs_in (fun h=>runs_r ?_ (.ret _)) fun h1=>runs_need.2 ⟨rfl,runs_in (fun h=>runs_r ?_ (.ret _)) fun h2=>runs_need.2 ⟨rfl,runs_in (fun h=>runs_r ?_ (.ret _)) fun h3=>runs_need.2 ⟨rfl,runs_in (fun h=>runs_r ?_ (.ret _)) fun h4=>runs_need.2 ⟨rfl,runs_in (fun h=>runs_r ?_ (.ret _)) fun h5=>runs_need.2 ⟨rfl,?_⟩⟩⟩⟩⟩⟩
 ·rw [limB,no (by omega)]; rfl
 ·rw [limB,no (by omega)]; rfl
 ·have:=fun h=>win_low (n:=n) (d:=d) hn h
  rw [limB,no (by omega)]; rfl
 ·have:=fun h=>win_low (n:=n) (d:=d) hn h
  rw [limB,no (by omega)]; rfl
 ·have:=fun h=>win_low (n:=n) (d:=d) hn h
  rw [limB,no (by omega)]; rfl
 ·have:=win_low (n:=n) (d:=d) hn h1
  rw [std_call,fn159_eq,win_eq hn h1,gap_eq h3 h2,slot_eq h4 hm]
  refine runs_if (p:=w < 16 * n * d + 16) rfl (fun h=>runs_r ?_ (.ret _)) fun h6=>runs_if (p:=g < 2 * w + 2 * de + 4) rfl (fun h=>runs_r ?_ (.ret _)) fun h7=>runs_if (p:=s < 2 * g + maxAirS (n,s,g,w,d,de,cold,modes)) rfl (fun h=>runs_r ?_ (.ret _)) fun h8=>runs_r ?_ (.ret _)
  ·rw [limB,no (by omega)]; rfl
  ·rw [limB,no (by omega)]; rfl
  ·rw [limB,no (by omega)]; rfl
  ·rw [limB,decide_eq_true (by omega)]; rfl
theorem check0 {n s g w d de:Int} {cold:List Bool} {modes:List Mode} (hl:modes.length≤140737488355328) (hc:(cold.length:Int)=n) (hn:4≤n∧n≤8):∀(j i:Nat),modes.length - i=j→i≤modes.length→
  Runs (s124 std) (.more (.c0 ⟨modes,(modes.length:Int),n,s,g,w,d,de,cold,modes⟩ (i:Int))) (bif (modes.drop i).all (modeB (n,s,g,w,d,de,cold,modes)) && limB n s g w d de (maxAirS (n,s,g,w,d,de,cold,modes)) then 0 else 70):=by
 intro j
 induction j with
 | zero=>
  intro i hj hi
  have:i=modes.length:=by omega
  subst this
  rw [runs_more,s124]
  refine (runs_brF (by rw [lss_nat]; simp)).2 (tail124 hn ?_)
  rw [List.drop_length]; rfl
 | succ j ih=>
  intro i hj hi
  have hi':i < modes.length:=by omega
  rw [runs_more,s124]
  refine (runs_brT (by rw [lss_nat]; simp; omega)).2 (runs_need.2 ⟨need_ix hi',?_⟩)
  have e:(std.nth yMode modes (i:Int):Mode)=modes[i]:=getD_in hi' _
  rw [e,List.drop_eq_getElem_cons hi',List.all_cons]
  refine runs_need.2 ⟨by show ((cold.length:Int) == n)=true; simpa using hc,?_⟩
  have hf:std.call fn157 ((n,s,g,w,d,de,cold,modes),modes[i])=modeB (n,s,g,w,d,de,cold,modes) modes[i]:=rfl
  rw [hf]
  cases modeB (n,s,g,w,d,de,cold,modes) modes[i]
  ·refine (runs_brT rfl).2 ((runs_brT (by rw [std_cmp_geq]; simp)).2 (.ret _))
  ·refine (runs_brF rfl).2 ?_
   rw [inc1 (i:=i) (by omega),Bool.true_and]
   exact ih (i + 1) (by omega) (by omega)
theorem check2 {n s g w d de:Int} {cold:List Bool} {modes:List Mode} (h:Ty.has yMedl (n,s,g,w,d,de,cold,modes)):Runs (s124 std) (t124 std n s g w d de cold modes) (medlS (n,s,g,w,d,de,cold,modes)):=by
 unfold t124 medlS medlB
 refine runs_need.2 ⟨rfl,?_⟩
 rw [show std.call fn154 (n,s,g,w,d,de,cold,modes)=countB (n,s,g,w,d,de,cold,modes) from rfl]
 cases hc:countB (n,s,g,w,d,de,cold,modes)
 ·exact (runs_brT rfl).2 (.ret _)
 ·refine (runs_brF rfl).2 ?_
  simp only [countB,within_eq,Bool.and_eq_true,decide_eq_true_eq,beq_iff_eq] at hc
  exact check0 (has_medl h).2.2.1 hc.1.2 hc.1.1.1 modes.length 0 rfl (by omega)
def fn124:Medl→Int:=medlS
def sp124:FSpec:=⟨[yMedl], [(.int .i64)],(@tt Medl),fn124⟩
theorem run124 {mNodes:Int} {mSlot:Int} {mGap:Int} {mWindow:Int} {mDrift:Int} {mDelay:Int} {mCold:List Bool} {mModes:List Mode} (h:Ty.hass [yMedl] (mNodes,mSlot,mGap,mWindow,mDrift,mDelay,mCold,mModes)):Runs (s124 std) (t124 std mNodes mSlot mGap mWindow mDrift mDelay mCold mModes) (fn124 (mNodes,mSlot,mGap,mWindow,mDrift,mDelay,mCold,mModes)):=by
 exact check2 h
theorem so124:FSpec.Sound Tryz.prog 81 sp124:=
 w124_ok.sound _ _ fun (mNodes,mSlot,mGap,mWindow,mDrift,mDelay,mCold,mModes) _ h=>run124 h
open Go.Ev.Pl
def t169 (A:Alg) (explicit:Bool) (data:Int):LT Int Empty:=
 .br (A.not explicit)
 (.ret 2)
 (.br (A.cmp .gtr data 0)
 (.ret 4)
 (.ret 3))
noncomputable def E169 (A:Alg):Info (Ty.Ts [(.int .i64)]):={ti:=tys,fns:=[(235,Tryz.f235)],sps:=[],stops:=[],cuts:=[],consts:=[],fin:=finD A [(.int .i64)]}
theorem t169_ok (A:Alg) (explicit:Bool) (data:Int):run A (E169 A) 30 (startC 235 Tryz.f235 (dvals A [.bool,(.int .i64)] (explicit,data)))=(t169 A explicit data).tr Empty.elim:=by kernel_rfl
def w169:Walk Tryz.prog 235 [.bool,(.int .i64)] [(.int .i64)] Empty:=⟨fun (explicit,data)=>t169 std explicit data,Empty.elim⟩
theorem w169_ok:w169.Ok:=
 walk_ok (E:=E169 std) ⟨tys_fit,fns_cons Tryz.func235 (by kernel_rfl) (fns_nil),sps_nil,by kernel_rfl⟩ rfl rfl rfl (by kernel_rfl) w169 Empty.elim 30 (fun (explicit,data)=>t169_ok std explicit data) (fun y=>y.elim)
def fn169:(Bool×Int)→Int:=fun (explicit,data)=>(t169 std explicit data).val (Ty.dflts [(.int .i64)])
def sp169:FSpec:=⟨[.bool,(.int .i64)], [(.int .i64)],(@tt (Bool×Int)),fn169⟩
theorem eqs169 (explicit:Bool) (data:Int):(t169 std explicit data).Eqs:=by simp only [t169,LT.Eqs,and_self,true_and,and_true]
theorem pre169_ok {explicit:Bool} {data:Int} (h:Ty.hass [.bool,(.int .i64)] (explicit,data)):(t169 std explicit data).pre=true:=by
 simp [t169,LT.pre,std_call,tt_eq]
theorem so169:FSpec.Sound Tryz.prog 235 sp169:=
 w169_ok.sound _ _ fun (explicit,data) _ h=>LT.runs (d:=Ty.dflts [(.int .i64)]) (eqs169 explicit data) (pre169_ok h)
def t118 (A:Alg) (n:Int):LT Int Empty:=
 .br (A.cmp .lss n 0)
 (.ret 0)
 (.br (A.cmp .gtr n 4095)
 (.ret 0)
 (.ret (A.bin .add .i64 14 (A.bin .quo .i64 (A.bin .add .i64 n 1) 2))))
noncomputable def E118 (A:Alg):Info (Ty.Ts [(.int .i64)]):={ti:=tys,fns:=[(170,Tryz.f170)],sps:=[],stops:=[],cuts:=[],consts:=[],fin:=finD A [(.int .i64)]}
theorem t118_ok (A:Alg) (n:Int):run A (E118 A) 30 (startC 170 Tryz.f170 (dvals A [(.int .i64)] n))=(t118 A n).tr Empty.elim:=by kernel_rfl
def w118:Walk Tryz.prog 170 [(.int .i64)] [(.int .i64)] Empty:=⟨fun n=>t118 std n,Empty.elim⟩
theorem w118_ok:w118.Ok:=
 walk_ok (E:=E118 std) ⟨tys_fit,fns_cons Tryz.func170 (by kernel_rfl) (fns_nil),sps_nil,by kernel_rfl⟩ rfl rfl rfl (by kernel_rfl) w118 Empty.elim 30 (fun n=>t118_ok std n) (fun y=>y.elim)
def fn118:Int→Int:=fun n=>(t118 std n).val (Ty.dflts [(.int .i64)])
def sp118:FSpec:=⟨[(.int .i64)], [(.int .i64)],(@tt Int),fn118⟩
theorem eqs118 (n:Int):(t118 std n).Eqs:=by simp only [t118,LT.Eqs,and_self,true_and,and_true]
theorem pre118_ok {n:Int} (h:Ty.hass [(.int .i64)] n):(t118 std n).pre=true:=by
 simp [t118,LT.pre,std_call,tt_eq]
theorem so118:FSpec.Sound Tryz.prog 170 sp118:=
 w118_ok.sound _ _ fun n _ h=>LT.runs (d:=Ty.dflts [(.int .i64)]) (eqs118 n) (pre118_ok h)
structure P433c0 where
 (a0:List Bool)
inductive Y433 where
 | c0 (p:P433c0) (a1:Int) (a2:Int)
noncomputable def cfg433:Y433→Cfg
 | .c0 p a1 a2=>{frames:=[{fn:=181,n:=18,env:=(Env.put (Env.put (Env.put .leaf 0 (.sl .bool p.a0)) 3 (.int .i64 false a1)) 4 (.int .i64 false a2)),todo:=[.inLoop (Code.way (bodyOf Tryz.f181) [1,1,0,1,0,0]),.inBlock 0,.code (Code.way (bodyOf Tryz.f181) [1,1,1])],marks:=[],rnd:=none}],mem:=[.dead]}
def t433 (A:Alg) (l:List Bool):LT Int Y433:=
 .more (.c0 ⟨l⟩ 0 0)
def s433 (A:Alg):Y433→LT Int Y433
 | .c0 p a1 a2=>
  .br (A.cmp .lss a2 (A.len p.a0))
  (.need (A.and (A.cmp .leq 0 a2) (A.cmp .lss a2 (A.len p.a0))) (
   .br (A.nth .bool p.a0 a2:Bool)
   (.more (.c0 p (A.bin .add .i64 a1 1) (A.bin .add .i64 a2 1)))
   (.more (.c0 p a1 (A.bin .add .i64 a2 1)))))
  (.ret a1)
noncomputable def E433 (A:Alg):Info (Ty.Ts [(.int .i64)]):={ti:=tys,fns:=[(181,Tryz.f181)],sps:=[],stops:=[⟨181,3, [[0,3,4]]⟩],cuts:=[],consts:=[],fin:=finD A [(.int .i64)]}
theorem t433_ok (A:Alg) (l:List Bool):run A (E433 A) 21 (startC 181 Tryz.f181 (dvals A [(.slice .bool)] l))=(t433 A l).tr cfg433:=by kernel_rfl
theorem s433_ok (A:Alg):∀y,∃n,run A (E433 A) n (advance (E433 A).sps (cfg433 y))=(s433 A y).tr cfg433
 | .c0 p a1 a2=>⟨37,by kernel_rfl⟩
def w433:Walk Tryz.prog 181 [(.slice .bool)] [(.int .i64)] Y433:=⟨fun l=>t433 std l,s433 std⟩
theorem w433_ok:w433.Ok:=
 walk_ok (E:=E433 std) ⟨tys_fit,fns_cons Tryz.func181 (by kernel_rfl) (fns_nil),sps_nil,by kernel_rfl⟩ rfl rfl rfl (by kernel_rfl) w433 cfg433 21 (fun l=>t433_ok std l) (s433_ok std)
theorem trues1 {l:List Bool} (hl:l.length≤140737488355328):∀(j i c:Nat),l.length - i=j→i≤l.length→c≤i→Runs (s433 std) (.more (.c0 ⟨l⟩ (c:Int) (i:Int))) ((c + (l.drop i).count true:Nat):Int):=by
 intro j
 induction j with
 | zero=>
  intro i c hj hi hc
  have:i=l.length:=by omega
  subst this
  rw [runs_more,s433]
  refine (runs_brF (by rw [lenI,lss_nat]; simp)).2 ?_
  rw [List.drop_length]
  exact .ret _
 | succ j ih=>
  intro i c hj hi hc
  have hi':i < l.length:=by omega
  rw [runs_more,s433]
  refine (runs_brT (by rw [lenI,lss_nat]; simp; omega)).2 (runs_need.2 ⟨need_ix hi',?_⟩)
  rw [List.drop_eq_getElem_cons hi',List.count_cons]
  cases hb:l[i]
  ·refine (runs_brF ((nthB hi').trans hb)).2 ?_
   rw [inc1 (i:=i) (by omega)]
   refine runs_r ?_ (ih (i + 1) c (by omega) (by omega) (by omega))
   simp
  ·refine (runs_brT ((nthB hi').trans hb)).2 ?_
   rw [inc1 (i:=c) (by omega),inc1 (i:=i) (by omega)]
   refine runs_r ?_ (ih (i + 1) (c + 1) (by omega) (by omega) (by omega))
   simp [Nat.add_assoc,Nat.add_comm 1]
def fn433:(List Bool)→Int:=fun l=>(l.count true:Int)
def sp433:FSpec:=⟨[(.slice .bool)], [(.int .i64)],(@tt (List Bool)),fn433⟩
theorem run433 {l:List Bool} (h:Ty.hass [(.slice .bool)] l):Runs (s433 std) (t433 std l) (fn433 l):=by
 exact runs_r (by simp [fn433]) (trues1 h.1 l.length 0 0 rfl (by omega) (by omega))
theorem so433:FSpec.Sound Tryz.prog 181 sp433:=
 w433_ok.sound _ _ fun l _ h=>run433 h
structure P434c0 where
 (a1:List Int) (a2 a3:List Bool) (a4 a5 a6 a7 a8 a9:Int) (a10:List Bool) (a11:List Mode)
structure P434c1 where
 (b1:List Int) (b2 b3:List Bool) (b4 b5 b6 b7 b8 b9:Int) (b10:List Bool) (b11:List Mode)
inductive Y434 where
 | c0 (p:P434c0) (a0:Int)
 | c1 (p:P434c1) (b0:Int)
noncomputable def cfg434:Y434→Cfg
 | .c0 p a0=>{frames:=[{fn:=182,n:=78,env:=(Env.put (Env.put (Env.put .leaf 2 (.ptr 0 0)) 3 (.ptr 1 0)) 5 (.int .i64 false a0)),todo:=[.inLoop (Code.way (bodyOf Tryz.f182) [1,1,0,1,0,0]),.inBlock 0,.code (Code.way (bodyOf Tryz.f182) [1,1,1])],marks:=[],rnd:=none}],mem:=[.flat false [.sl (.int .i64) p.a1,.sl .bool p.a2,.sl .bool p.a3],.flat false [.int .i64 false p.a4,.int .i64 false p.a5,.int .i64 false p.a6,.int .i64 false p.a7,.int .i64 false p.a8,.int .i64 false p.a9,.sl .bool p.a10,.sl yMode p.a11],.dead]}
 | .c1 p b0=>{frames:=[{fn:=182,n:=78,env:=(Env.put (Env.put (Env.put .leaf 2 (.ptr 0 0)) 3 (.ptr 1 0)) 6 (.int .i64 false b0)),todo:=[.inLoop (Code.way (bodyOf Tryz.f182) [1,1,1,0,1,0,0]),.inBlock 2,.code (Code.way (bodyOf Tryz.f182) [1,1,1,1])],marks:=[],rnd:=none}],mem:=[.flat false [.sl (.int .i64) p.b1,.sl .bool p.b2,.sl .bool p.b3],.flat false [.int .i64 false p.b4,.int .i64 false p.b5,.int .i64 false p.b6,.int .i64 false p.b7,.int .i64 false p.b8,.int .i64 false p.b9,.sl .bool p.b10,.sl yMode p.b11],.dead]}
def t434 (A:Alg) (xData:List Int) (xExplicit:List Bool) (xNext:List Bool) (mNodes:Int) (mSlot:Int) (mGap:Int) (mWindow:Int) (mDrift:Int) (mDelay:Int) (mCold:List Bool) (mModes:List Mode):LT Bool Y434:=
 .br (A.cmp .neq (A.len xData) mNodes)
 (.ret false)
 (.br (A.cmp .neq (A.len xExplicit) mNodes)
 (.ret false)
 (.br (A.cmp .neq (A.len xNext) (A.len mModes))
  (.ret false)
  (.more (.c0 ⟨xData,xExplicit,xNext,mNodes,mSlot,mGap,mWindow,mDrift,mDelay,mCold,mModes⟩ 0))))
def s434 (A:Alg):Y434→LT Bool Y434
 | .c0 p a0=>
  .br (A.cmp .lss a0 (A.len p.a1))
  (.need (A.and (A.cmp .leq 0 a0) (A.cmp .lss a0 (A.len p.a1))) (
   .br (A.cmp .lss (A.nth (.int .i64) p.a1 a0:Int) 0)
   (.ret false)
   (.need (A.and (A.cmp .leq 0 a0) (A.cmp .lss a0 (A.len p.a1))) (
    .br (A.cmp .gtr (A.nth (.int .i64) p.a1 a0:Int) 8)
    (.ret false)
    (.more (.c0 p (A.bin .add .i64 a0 1)))))))
  (.more (.c1 ⟨p.a1,p.a2,p.a3,p.a4,p.a5,p.a6,p.a7,p.a8,p.a9,p.a10,p.a11⟩ 0))
 | .c1 p b0=>
  .br (A.cmp .lss b0 (A.len p.b2))
  (.br (A.cmp .lss b0 (A.len p.b10))
   (.need (A.and (A.cmp .leq 0 b0) (A.cmp .lss b0 (A.len p.b10))) (
   .br (A.nth .bool p.b10 b0:Bool)
    (.need (A.and (A.cmp .leq 0 b0) (A.cmp .lss b0 (A.len p.b2))) (
    .br (A.not (A.nth .bool p.b2 b0:Bool))
     (.ret false)
     (.more (.c1 p (A.bin .add .i64 b0 1)))))
    (.more (.c1 p (A.bin .add .i64 b0 1)))))
   (.ret true))
  (.ret true)
noncomputable def E434 (A:Alg):Info (Ty.Ts [.bool]):={ti:=tys,fns:=[(182,Tryz.f182)],sps:=[],stops:=[⟨182,4, [[2,3,5]]⟩,⟨182,9, [[2,3,6]]⟩],cuts:=[],consts:=[],fin:=finD A [.bool]}
theorem t434_ok (A:Alg) (xData:List Int) (xExplicit:List Bool) (xNext:List Bool) (mNodes:Int) (mSlot:Int) (mGap:Int) (mWindow:Int) (mDrift:Int) (mDelay:Int) (mCold:List Bool) (mModes:List Mode):run A (E434 A) 48 (startC 182 Tryz.f182 (dvals A [yMode,yMedl] ((xData,xExplicit,xNext),mNodes,mSlot,mGap,mWindow,mDrift,mDelay,mCold,mModes)))=(t434 A xData xExplicit xNext mNodes mSlot mGap mWindow mDrift mDelay mCold mModes).tr cfg434:=by kernel_rfl
theorem s434_ok (A:Alg):∀y,∃n,run A (E434 A) n (advance (E434 A).sps (cfg434 y))=(s434 A y).tr cfg434
 | .c0 p a0=>⟨44,by kernel_rfl⟩
 | .c1 p b0=>⟨50,by kernel_rfl⟩
def w434:Walk Tryz.prog 182 [yMode,yMedl] [.bool] Y434:=⟨fun ((xData,xExplicit,xNext),mNodes,mSlot,mGap,mWindow,mDrift,mDelay,mCold,mModes)=>t434 std xData xExplicit xNext mNodes mSlot mGap mWindow mDrift mDelay mCold mModes,s434 std⟩
theorem w434_ok:w434.Ok:=
 walk_ok (E:=E434 std) ⟨tys_fit,fns_cons Tryz.func182 (by kernel_rfl) (fns_nil),sps_nil,by kernel_rfl⟩ rfl rfl rfl (by kernel_rfl) w434 cfg434 48 (fun ((xData,xExplicit,xNext),mNodes,mSlot,mGap,mWindow,mDrift,mDelay,mCold,mModes)=>t434_ok std xData xExplicit xNext mNodes mSlot mGap mWindow mDrift mDelay mCold mModes) (s434_ok std)
def cexp:List Bool→List Bool→Bool
 | c :: cs,e :: es=>(!c || e) && cexp cs es
 | _,_=>true
theorem modeAll_eq:∀{ds:List Int} {cs es:List Bool},cs.length=ds.length→es.length=ds.length→modeAll ds cs es=(ds.all (fun d=>decide (0≤d) && decide (d≤8)) && cexp cs es)
 | [], [], [],_,_=>rfl
 | d :: ds,c :: cs,e :: es,h1,h2=>by
  rw [modeAll,modeAll_eq (ds:=ds) (by simpa using h1) (by simpa using h2),List.all_cons,cexp]
  cases (decide (0≤d) && decide (d≤8)) <;> cases (!c || e) <;> simp
 | [],_ :: _,_,h,_=>by cases h
 | [], [],_ :: _,_,h=>by cases h
 | _ :: _, [],_,h,_=>by cases h
 | _ :: _,_ :: _, [],_,h=>by cases h
theorem dmode1 {n s g w d de:Int} {cold expl next:List Bool} {modes:List Mode} {data:List Int} (hl:expl.length≤140737488355328) (hc:cold.length=expl.length):∀(j i:Nat),expl.length - i=j→i≤expl.length→
  Runs (s434 std) (.more (.c1 ⟨data,expl,next,n,s,g,w,d,de,cold,modes⟩ (i:Int))) (cexp (cold.drop i) (expl.drop i)):=by
 intro j
 induction j with
 | zero=>
  intro i hj hi
  have:i=expl.length:=by omega
  subst this
  rw [runs_more,s434]
  refine (runs_brF (by rw [lenI,lss_nat]; simp)).2 ?_
  rw [List.drop_length,List.drop_of_length_le (by omega)]
  exact .ret _
 | succ j ih=>
  intro i hj hi
  have hi':i < expl.length:=by omega
  have hi2:i < cold.length:=by omega
  rw [runs_more,s434]
  refine (runs_brT (by rw [lenI,lss_nat]; simp; omega)).2 ((runs_brT (by rw [lenI,lss_nat]; simp; omega)).2 (runs_need.2 ⟨need_ix hi2,?_⟩))
  have hm:=ih (i + 1) (by omega) (by omega)
  rw [List.drop_eq_getElem_cons hi',List.drop_eq_getElem_cons hi2,cexp]
  cases hcb:cold[i]
  ·refine (runs_brF ((nthB hi2).trans hcb)).2 ?_
   rw [inc1 (i:=i) (by omega)]; exact hm
  ·refine (runs_brT ((nthB hi2).trans hcb)).2 (runs_need.2 ⟨need_ix hi',?_⟩)
   cases heb:expl[i]
   ·exact (runs_brT (by rw [nthB hi',heb]; rfl)).2 (.ret _)
   ·refine (runs_brF (by rw [nthB hi',heb]; rfl)).2 ?_
    rw [inc1 (i:=i) (by omega)]; exact hm
theorem dmode0 {n s g w d de:Int} {cold expl next:List Bool} {modes:List Mode} {data:List Int} {R:Bool} (hl:data.length≤140737488355328) (hR:Runs (s434 std) (.more (.c1 ⟨data,expl,next,n,s,g,w,d,de,cold,modes⟩ 0)) R):∀(j i:Nat),data.length - i=j→i≤data.length→
  Runs (s434 std) (.more (.c0 ⟨data,expl,next,n,s,g,w,d,de,cold,modes⟩ (i:Int))) ((data.drop i).all (fun d=>decide (0≤d) && decide (d≤8)) && R):=by
 intro j
 induction j with
 | zero=>
  intro i hj hi
  have:i=data.length:=by omega
  subst this
  rw [runs_more,s434]
  refine (runs_brF (by rw [lenI,lss_nat]; simp)).2 ?_
  rw [List.drop_length]
  exact runs_r (by simp) hR
 | succ j ih=>
  intro i hj hi
  have hi':i < data.length:=by omega
  rw [runs_more,s434]
  have hm:=ih (i + 1) (by omega) (by omega)
  rw [List.drop_eq_getElem_cons hi',List.all_cons]
  refine (runs_brT (by rw [lenI,lss_nat]; simp; omega)).2 (runs_need.2 ⟨need_ix hi',?_⟩)
  rw [nthI hi']
  refine runs_if (p:=data[i] < 0) rfl (fun h=>runs_r ?_ (.ret _)) fun h1=>runs_need.2 ⟨need_ix hi',runs_if (p:=8 < data[i]) rfl (fun h=>runs_r ?_ (.ret _)) fun h2=>?_⟩
  ·rw [decide_eq_false (show ¬0≤data[i] by omega)]; rfl
  ·rw [decide_eq_false (show ¬data[i]≤8 by omega),Bool.and_false]; rfl
  ·rw [inc1 (i:=i) (by omega),decide_eq_true (show 0≤data[i] by omega),decide_eq_true (show data[i]≤8 by omega)]
   exact hm
theorem dmode2 {n s g w d de:Int} {cold expl next:List Bool} {modes:List Mode} {data:List Int} (hl:data.length≤140737488355328) (hl2:expl.length≤140737488355328) (hc:(cold.length:Int)=n) :
  Runs (s434 std) (t434 std data expl next n s g w d de cold modes) (modeB (n,s,g,w,d,de,cold,modes) (data,expl,next)):=by
 unfold t434 modeB
 simp only [lenI]
 by_cases h1:(data.length:Int)=n
 ·refine (runs_brF (cne_f h1)).2 ?_
  by_cases h2:(expl.length:Int)=n
  ·refine (runs_brF (cne_f h2)).2 ?_
   by_cases h3:(next.length:Int)=modes.length
   ·refine (runs_brF (cne_f h3)).2 (runs_r ?_ (dmode0 hl (dmode1 hl2 (by omega) expl.length 0 rfl (by omega)) data.length 0 rfl (by omega)))
    rw [beq_iff_eq.2 h1,beq_iff_eq.2 h2,beq_iff_eq.2 (show next.length=modes.length by omega),modeAll_eq (show cold.length=data.length by omega) (show expl.length=data.length by omega)]; rfl
   ·refine (runs_brT (cne_t h3)).2 (runs_r ?_ (.ret _))
    rw [beq_eq_false_iff_ne.2 (show next.length≠modes.length by omega),Bool.and_false,Bool.false_and]
  ·refine (runs_brT (cne_t h2)).2 (runs_r ?_ (.ret _))
   rw [beq_eq_false_iff_ne.2 h2,Bool.and_false]; rfl
 ·refine (runs_brT (cne_t h1)).2 (runs_r ?_ (.ret _))
  rw [beq_eq_false_iff_ne.2 h1]; rfl
def fn434:(Mode×Medl)→Bool:=fun (x,m)=>modeB m x
def pre434:(Mode×Medl)→Bool:=fun (_,m)=>(m.2.2.2.2.2.2.1.length:Int) == m.1
def sp434:FSpec:=⟨[yMode,yMedl], [.bool],pre434,fn434⟩
theorem run434 {xData:List Int} {xExplicit:List Bool} {xNext:List Bool} {mNodes:Int} {mSlot:Int} {mGap:Int} {mWindow:Int} {mDrift:Int} {mDelay:Int} {mCold:List Bool} {mModes:List Mode} (h:Ty.hass [yMode,yMedl] ((xData,xExplicit,xNext),mNodes,mSlot,mGap,mWindow,mDrift,mDelay,mCold,mModes)) (hp:pre434 ((xData,xExplicit,xNext),mNodes,mSlot,mGap,mWindow,mDrift,mDelay,mCold,mModes)=true):Runs (s434 std) (t434 std xData xExplicit xNext mNodes mSlot mGap mWindow mDrift mDelay mCold mModes) (fn434 ((xData,xExplicit,xNext),mNodes,mSlot,mGap,mWindow,mDrift,mDelay,mCold,mModes)):=by
 exact dmode2 h.1.1.1 h.1.2.1.1 (by simpa [pre434] using hp)
theorem so434:FSpec.Sound Tryz.prog 182 sp434:=
 w434_ok.sound _ _ fun ((xData,xExplicit,xNext),mNodes,mSlot,mGap,mWindow,mDrift,mDelay,mCold,mModes) hp h=>run434 h hp
structure P149c0 where
 (a0 a1 a2 a3 a4 a5 a6 a7:Int) (a8:List Bool) (a9:List Mode)
structure P149c1 where
 (b1 b3 b4 b5 b6 b7 b8:Int) (b9:List Bool) (b10:List Mode) (b11:List Int) (b12 b13:List Bool)
inductive Y149 where
 | c0 (p:P149c0)
 | c1 (p:P149c1) (b0:Int) (b2:Int)
noncomputable def cfg149:Y149→Cfg
 | .c0 p=>{frames:=[{fn:=169,n:=66,env:=(Env.put (Env.put (Env.put .leaf 1 (.ptr 0 0)) 3 (.int .i64 false p.a0)) 4 (.int .i64 false p.a1)),todo:=[.inLoop (Code.way (bodyOf Tryz.f169) [1,1,0,1,0,0]),.inBlock 0,.code (Code.way (bodyOf Tryz.f169) [1,1,1])],marks:=[],rnd:=none}],mem:=[.flat false [.int .i64 false p.a2,.int .i64 false p.a3,.int .i64 false p.a4,.int .i64 false p.a5,.int .i64 false p.a6,.int .i64 false p.a7,.sl .bool p.a8,.sl yMode p.a9],.dead]}
 | .c1 p b0 b2=>{frames:=[{fn:=169,n:=66,env:=(Env.put (Env.put (Env.put (Env.put (Env.put .leaf 1 (.ptr 0 0)) 3 (.int .i64 false b0)) 4 (.int .i64 false p.b1)) 5 (.ptr 1 0)) 6 (.int .i64 false b2)),todo:=[.inLoop (Code.way (bodyOf Tryz.f169) [1,1,0,1,0,0,1,0,0,1,1,0,0]),.inBlock 2,.inBlock 1,.code (Code.way (bodyOf Tryz.f169) [1,1,0,1,0,0,1,1]),.inLoop (Code.way (bodyOf Tryz.f169) [1,1,0,1,0,0]),.inBlock 0,.code (Code.way (bodyOf Tryz.f169) [1,1,1])],marks:=[],rnd:=none}],mem:=[.flat false [.int .i64 false p.b3,.int .i64 false p.b4,.int .i64 false p.b5,.int .i64 false p.b6,.int .i64 false p.b7,.int .i64 false p.b8,.sl .bool p.b9,.sl yMode p.b10],.flat false [.sl (.int .i64) p.b11,.sl .bool p.b12,.sl .bool p.b13],.dead]}
def t149 (A:Alg) (mNodes:Int) (mSlot:Int) (mGap:Int) (mWindow:Int) (mDrift:Int) (mDelay:Int) (mCold:List Bool) (mModes:List Mode):LT Int Y149:=
 .need (A.call (@tt (Int×Int)) (1,0)) (
 .need (A.call (@tt Int) (A.call fn59 (1,0))) (
 .more (.c0 ⟨(A.call fn118 (A.call fn59 (1,0))),0,mNodes,mSlot,mGap,mWindow,mDrift,mDelay,mCold,mModes⟩)))
def s149 (A:Alg):Y149→LT Int Y149
 | .c0 p=>
  .br (A.cmp .lss p.a1 (A.len p.a9))
  (.need (A.and (A.cmp .leq 0 p.a1) (A.cmp .lss p.a1 (A.len p.a9))) (
   .more (.c1 ⟨p.a1,p.a2,p.a3,p.a4,p.a5,p.a6,p.a7,p.a8,p.a9,(A.nth yMode p.a9 p.a1:Mode).1,(A.nth yMode p.a9 p.a1:Mode).2.1,(A.nth yMode p.a9 p.a1:Mode).2.2⟩ p.a0 0)))
  (.ret p.a0)
 | .c1 p b0 b2=>
  .br (A.cmp .lss b2 (A.len p.b11))
  (.br (A.cmp .lss b2 (A.len p.b12))
   (.br (A.cmp .lss b2 p.b3)
   (.need (A.and (A.cmp .leq 0 b2) (A.cmp .lss b2 (A.len p.b12))) (
    .need (A.and (A.cmp .leq 0 b2) (A.cmp .lss b2 (A.len p.b11))) (
    .need (A.call (@tt (Bool×Int)) ((A.nth .bool p.b12 b2:Bool),(A.nth (.int .i64) p.b11 b2:Int))) (
     .need (A.and (A.cmp .leq 0 b2) (A.cmp .lss b2 (A.len p.b11))) (
     .need (A.call (@tt (Int×Int)) ((A.call fn169 ((A.nth .bool p.b12 b2:Bool),(A.nth (.int .i64) p.b11 b2:Int))),(A.nth (.int .i64) p.b11 b2:Int))) (
      .br (A.cmp .gtr (A.call fn59 ((A.call fn169 ((A.nth .bool p.b12 b2:Bool),(A.nth (.int .i64) p.b11 b2:Int))),(A.nth (.int .i64) p.b11 b2:Int))) 0)
      (.need (A.call (@tt Int) (A.call fn59 ((A.call fn169 ((A.nth .bool p.b12 b2:Bool),(A.nth (.int .i64) p.b11 b2:Int))),(A.nth (.int .i64) p.b11 b2:Int)))) (
       .more (.c1 p (A.mx b0 (A.call fn118 (A.call fn59 ((A.call fn169 ((A.nth .bool p.b12 b2:Bool),(A.nth (.int .i64) p.b11 b2:Int))),(A.nth (.int .i64) p.b11 b2:Int))))) (A.bin .add .i64 b2 1))))
      (.more (.c1 p b0 (A.bin .add .i64 b2 1)))))))))
   (.more (.c0 ⟨b0,(A.bin .add .i64 p.b1 1),p.b3,p.b4,p.b5,p.b6,p.b7,p.b8,p.b9,p.b10⟩)))
   (.more (.c0 ⟨b0,(A.bin .add .i64 p.b1 1),p.b3,p.b4,p.b5,p.b6,p.b7,p.b8,p.b9,p.b10⟩)))
  (.more (.c0 ⟨b0,(A.bin .add .i64 p.b1 1),p.b3,p.b4,p.b5,p.b6,p.b7,p.b8,p.b9,p.b10⟩))
noncomputable def E149 (A:Alg):Info (Ty.Ts [(.int .i64)]):={ti:=tys,fns:=[(169,Tryz.f169)],sps:=[(234,sp59),(170,sp118),(235,sp169)],stops:=[⟨169,3, [[1,3,4]]⟩,⟨169,7, [[1,3,4,5,6]]⟩],cuts:=[],consts:=[],fin:=finD A [(.int .i64)]}
theorem t149_ok (A:Alg) (mNodes:Int) (mSlot:Int) (mGap:Int) (mWindow:Int) (mDrift:Int) (mDelay:Int) (mCold:List Bool) (mModes:List Mode):run A (E149 A) 24 (startC 169 Tryz.f169 (dvals A [yMedl] (mNodes,mSlot,mGap,mWindow,mDrift,mDelay,mCold,mModes)))=(t149 A mNodes mSlot mGap mWindow mDrift mDelay mCold mModes).tr cfg149:=by kernel_rfl
theorem s149_ok (A:Alg):∀y,∃n,run A (E149 A) n (advance (E149 A).sps (cfg149 y))=(s149 A y).tr cfg149
 | .c0 p=>⟨35,by kernel_rfl⟩
 | .c1 p b0 b2=>⟨72,by kernel_rfl⟩
def w149:Walk Tryz.prog 169 [yMedl] [(.int .i64)] Y149:=⟨fun (mNodes,mSlot,mGap,mWindow,mDrift,mDelay,mCold,mModes)=>t149 std mNodes mSlot mGap mWindow mDrift mDelay mCold mModes,s149 std⟩
theorem w149_ok:w149.Ok:=
 walk_ok (E:=E149 std) ⟨tys_fit,fns_cons Tryz.func169 (by kernel_rfl) (fns_nil),sps_cons so59 (sps_cons so118 (sps_cons so169 (sps_nil))),by kernel_rfl⟩ rfl rfl rfl (by kernel_rfl) w149 cfg149 24 (fun (mNodes,mSlot,mGap,mWindow,mDrift,mDelay,mCold,mModes)=>t149_ok std mNodes mSlot mGap mWindow mDrift mDelay mCold mModes) (s149_ok std)
theorem fn169_eq:fn169=fn183:=rfl
theorem fn118_eq:fn118=fn173:=rfl
theorem fn59_56:fn59=fn56:=funext fun ⟨k,d⟩=>by rw [size_eqs.1,size_eqs.2]
theorem dmax1 {n s g w d de:Int} {cold expl next:List Bool} {modes:List Mode} {data:List Int} {k k1:Int} {F:Int→Int} (hl:data.length≤140737488355328) (hk:std.bin .add .i64 k 1=k1) (hnext:∀b,Runs (s149 std) (.more (.c0 ⟨b,k1,n,s,g,w,d,de,cold,modes⟩)) (F b)) :
  ∀(j i:Nat) (b:Int),data.length - i=j→i≤data.length→Runs (s149 std) (.more (.c1 ⟨k,n,s,g,w,d,de,cold,modes,data,expl,next⟩ b (i:Int))) (F ((((data.zip expl).take n.toNat).drop i).foldl upMax b)):=by
 intro j
 induction j with
 | zero=>
  intro i b hj hi
  have:i=data.length:=by omega
  subst this
  rw [runs_more,s149]
  refine (runs_brF (by rw [lenI,lss_nat]; simp)).2 ?_
  rw [zip_no (.inr (.inr (Nat.le_refl _))),hk]
  exact hnext b
 | succ j ih=>
  intro i b hj hi
  have hi':i < data.length:=by omega
  rw [runs_more,s149]
  refine (runs_brT (by rw [lenI,lss_nat]; simp; omega)).2 ?_
  have hm:=fun b=>ih (i + 1) b (by omega) (by omega)
  by_cases h2:i < expl.length
  ·refine (runs_brT (by rw [lenI,lss_nat]; simpa using h2)).2 ?_
   by_cases h3:(i:Int) < n
   ·refine (runs_brT (by rw [lss_i]; simpa using h3)).2 (runs_need.2 ⟨need_ix (show i < expl.length from h2),runs_need.2 ⟨need_ix hi',runs_need.2 ⟨rfl,runs_need.2 ⟨need_ix hi',runs_need.2 ⟨rfl,?_⟩⟩⟩⟩⟩)
    rw [zip_at hi' h2 h3,List.foldl_cons,upd_at,←nthI hi',←nthB h2,inc1 (i:=i) (by omega),fn169_eq,fn59_56,fn118_eq]
    cases hb:std.cmp .gtr (std.call fn56 ((std.call fn183 ((std.nth .bool expl (i:Int):Bool),(std.nth (.int .i64) data (i:Int):Int))),(std.nth (.int .i64) data (i:Int):Int))) 0
    ·exact (runs_brF rfl).2 (hm _)
    ·exact (runs_brT rfl).2 (runs_need.2 ⟨rfl,hm _⟩)
   ·refine (runs_brF (by rw [lss_i]; simpa using h3)).2 ?_
    rw [zip_no (.inr (.inl (by omega))),hk]; exact hnext b
  ·refine (runs_brF (by rw [lenI,lss_nat]; simpa using h2)).2 ?_
   rw [zip_no (.inl (by omega)),hk]; exact hnext b
theorem dmax0 {n s g w d de:Int} {cold:List Bool} {modes:List Mode} (hl:modes.length≤140737488355328) (hd:∀x∈modes,x.1.length≤140737488355328) :
  ∀(j k:Nat) (b:Int),modes.length - k=j→k≤modes.length→Runs (s149 std) (.more (.c0 ⟨b,(k:Int),n,s,g,w,d,de,cold,modes⟩)) ((modes.drop k).foldl (modeMax n.toNat) b):=by
 intro j
 induction j with
 | zero=>
  intro k b hj hk
  have:k=modes.length:=by omega
  subst this
  rw [runs_more,s149]
  refine (runs_brF (by rw [lenI,lss_nat]; simp)).2 ?_
  rw [List.drop_length]
  exact .ret _
 | succ j ih=>
  intro k b hj hk
  have hk':k < modes.length:=by omega
  rw [runs_more,s149]
  refine (runs_brT (by rw [lenI,lss_nat]; simp; omega)).2 (runs_need.2 ⟨need_ix hk',?_⟩)
  rw [show (std.nth yMode modes (k:Int):Mode)=modes[k] from getD_in hk' _,List.drop_eq_getElem_cons hk',List.foldl_cons]
  exact dmax1 (F:=fun b=>(modes.drop (k + 1)).foldl (modeMax n.toNat) b) (hd _ (List.getElem_mem hk')) (inc1 (by omega)) (fun b=>ih (k + 1) b (by omega) (by omega)) modes[k].1.length 0 b rfl (by omega)
theorem dmax2 {n s g w d de:Int} {cold:List Bool} {modes:List Mode} (h:Ty.has yMedl (n,s,g,w,d,de,cold,modes)):Runs (s149 std) (t149 std n s g w d de cold modes) (maxAirS (n,s,g,w,d,de,cold,modes)):=by
 unfold t149
 rw [fn59_56,fn118_eq]
 exact runs_need.2 ⟨rfl,runs_need.2 ⟨rfl,dmax0 (has_medl h).2.2.1 (fun x hx=>((has_medl h).2.2.2 x hx).1) modes.length 0 _ rfl (by omega)⟩⟩
def fn149:Medl→Int:=maxAirS
def sp149:FSpec:=⟨[yMedl], [(.int .i64)],(@tt Medl),fn149⟩
theorem run149 {mNodes:Int} {mSlot:Int} {mGap:Int} {mWindow:Int} {mDrift:Int} {mDelay:Int} {mCold:List Bool} {mModes:List Mode} (h:Ty.hass [yMedl] (mNodes,mSlot,mGap,mWindow,mDrift,mDelay,mCold,mModes)):Runs (s149 std) (t149 std mNodes mSlot mGap mWindow mDrift mDelay mCold mModes) (fn149 (mNodes,mSlot,mGap,mWindow,mDrift,mDelay,mCold,mModes)):=by
 exact dmax2 h
theorem so149:FSpec.Sound Tryz.prog 169 sp149:=
 w149_ok.sound _ _ fun (mNodes,mSlot,mGap,mWindow,mDrift,mDelay,mCold,mModes) _ h=>run149 h
structure P366c0 where
 (a1 a2 a3 a4 a5 a6:Int) (a7:List Bool) (a8:List Mode)
inductive Y366 where
 | c0 (p:P366c0) (a0:Int)
noncomputable def cfg366:Y366→Cfg
 | .c0 p a0=>{frames:=[{fn:=82,n:=120,env:=(Env.put (Env.put .leaf 1 (.ptr 0 0)) 3 (.int .i64 false a0)),todo:=[.inLoop (Code.way (bodyOf Tryz.f82) [1,1,0,1,0,0]),.inBlock 0,.code (Code.way (bodyOf Tryz.f82) [1,1,1])],marks:=[],rnd:=none}],mem:=[.flat false [.int .i64 false p.a1,.int .i64 false p.a2,.int .i64 false p.a3,.int .i64 false p.a4,.int .i64 false p.a5,.int .i64 false p.a6,.sl .bool p.a7,.sl yMode p.a8],.dead]}
def t366 (A:Alg) (mNodes:Int) (mSlot:Int) (mGap:Int) (mWindow:Int) (mDrift:Int) (mDelay:Int) (mCold:List Bool) (mModes:List Mode):LT Int Y366:=
 .br (A.cmp .lss mNodes 4)
 (.ret 70)
 (.br (A.cmp .gtr mNodes 8)
 (.ret 70)
 (.br (A.cmp .lss (A.len mModes) 1)
  (.ret 70)
  (.br (A.cmp .gtr (A.len mModes) 4)
  (.ret 70)
  (.br (A.cmp .neq (A.len mCold) mNodes)
   (.ret 70)
   (.need (A.call (@tt (List Bool)) mCold) (
   .br (A.cmp .lss (A.call fn433 mCold) 2)
    (.ret 70)
    (.more (.c0 ⟨mNodes,mSlot,mGap,mWindow,mDrift,mDelay,mCold,mModes⟩ 0))))))))
def s366 (A:Alg):Y366→LT Int Y366
 | .c0 p a0=>
  .br (A.cmp .lss a0 (A.len p.a8))
  (.need (A.and (A.cmp .leq 0 a0) (A.cmp .lss a0 (A.len p.a8))) (
   .need (A.call pre434 ((A.nth yMode p.a8 a0:Mode),p.a1,p.a2,p.a3,p.a4,p.a5,p.a6,p.a7,p.a8)) (
   .br (A.not (A.call fn434 ((A.nth yMode p.a8 a0:Mode),p.a1,p.a2,p.a3,p.a4,p.a5,p.a6,p.a7,p.a8)))
    (.ret 70)
    (.more (.c0 p (A.bin .add .i64 a0 1))))))
  (.br (A.cmp .lss p.a5 0)
   (.ret 70)
   (.br (A.cmp .gtr p.a5 64)
   (.ret 70)
   (.br (A.cmp .lss p.a6 0)
    (.ret 70)
    (.br (A.cmp .gtr p.a6 64)
    (.ret 70)
    (.br (A.cmp .lss p.a4 (A.bin .add .i64 (A.bin .mul .i64 (A.bin .mul .i64 16 p.a1) p.a5) 16))
     (.ret 70)
     (.br (A.cmp .gtr p.a4 1048576)
     (.ret 70)
     (.br (A.cmp .lss p.a3 (A.bin .add .i64 (A.bin .add .i64 (A.bin .mul .i64 2 p.a4) (A.bin .mul .i64 2 p.a6)) 4))
      (.ret 70)
      (.br (A.cmp .gtr p.a3 1048576)
      (.ret 70)
      (.need (A.call (@tt Medl) (p.a1,p.a2,p.a3,p.a4,p.a5,p.a6,p.a7,p.a8)) (
       .br (A.cmp .lss p.a2 (A.bin .add .i64 (A.bin .mul .i64 2 p.a3) (A.call fn149 (p.a1,p.a2,p.a3,p.a4,p.a5,p.a6,p.a7,p.a8))))
       (.ret 70)
       (.br (A.cmp .gtr p.a2 16777216)
        (.ret 70)
        (.ret 0))))))))))))
noncomputable def E366 (A:Alg):Info (Ty.Ts [(.int .i64)]):={ti:=tys,fns:=[(82,Tryz.f82)],sps:=[(169,sp149),(181,sp433),(182,sp434)],stops:=[⟨82,4, [[1,3]]⟩],cuts:=[],consts:=[],fin:=finD A [(.int .i64)]}
theorem t366_ok (A:Alg) (mNodes:Int) (mSlot:Int) (mGap:Int) (mWindow:Int) (mDrift:Int) (mDelay:Int) (mCold:List Bool) (mModes:List Mode):run A (E366 A) 58 (startC 82 Tryz.f82 (dvals A [yMedl] (mNodes,mSlot,mGap,mWindow,mDrift,mDelay,mCold,mModes)))=(t366 A mNodes mSlot mGap mWindow mDrift mDelay mCold mModes).tr cfg366:=by kernel_rfl
theorem s366_ok (A:Alg):∀y,∃n,run A (E366 A) n (advance (E366 A).sps (cfg366 y))=(s366 A y).tr cfg366
 | .c0 p a0=>⟨100,by kernel_rfl⟩
def w366:Walk Tryz.prog 82 [yMedl] [(.int .i64)] Y366:=⟨fun (mNodes,mSlot,mGap,mWindow,mDrift,mDelay,mCold,mModes)=>t366 std mNodes mSlot mGap mWindow mDrift mDelay mCold mModes,s366 std⟩
theorem w366_ok:w366.Ok:=
 walk_ok (E:=E366 std) ⟨tys_fit,fns_cons Tryz.func82 (by kernel_rfl) (fns_nil),sps_cons so149 (sps_cons so433 (sps_cons so434 (sps_nil))),by kernel_rfl⟩ rfl rfl rfl (by kernel_rfl) w366 cfg366 58 (fun (mNodes,mSlot,mGap,mWindow,mDrift,mDelay,mCold,mModes)=>t366_ok std mNodes mSlot mGap mWindow mDrift mDelay mCold mModes) (s366_ok std)
theorem tail366 {n s g w d de:Int} {cold:List Bool} {modes:List Mode} {R:Int} (hn:4≤n∧n≤8) (hR:R=bif limB n s g w d de (maxAirS (n,s,g,w,d,de,cold,modes)) then 0 else 70) :
  Runs (s366 std) (.br (std.cmp .lss d 0) (.ret 70) (.br (std.cmp .gtr d 64) (.ret 70) (.br (std.cmp .lss de 0) (.ret 70) (.br (std.cmp .gtr de 64) (.ret 70) (.br (std.cmp .lss w (std.bin .add .i64 (std.bin .mul .i64 (std.bin .mul .i64 16 n) d) 16)) (.ret 70) (.br (std.cmp .gtr w 1048576) (.ret 70) (.br (std.cmp .lss g (std.bin .add .i64 (std.bin .add .i64 (std.bin .mul .i64 2 w) (std.bin .mul .i64 2 de)) 4)) (.ret 70) (.br (std.cmp .gtr g 1048576) (.ret 70) (.need (std.call (@tt Medl) (n,s,g,w,d,de,cold,modes)) (.br (std.cmp .lss s (std.bin .add .i64 (std.bin .mul .i64 2 g) (std.call fn149 (n,s,g,w,d,de,cold,modes)))) (.ret 70) (.br (std.cmp .gtr s 16777216) (.ret 70) (.ret 0)))))))))))) R:=by
 have hm:=max_range (m:=(n,s,g,w,d,de,cold,modes))
 have no:∀{p:Prop} [Decidable p],¬p→decide p=false:=fun h=>by simpa using h
 rw [hR]
 refine runs_if (p:=d < 0) rfl (fun h=>runs_r ?_ (.ret _)) fun h1=>runs_if (p:=64 < d) rfl (fun h=>runs_r ?_ (.ret _)) fun h2=>runs_if (p:=de < 0) rfl (fun h=>runs_r ?_ (.ret _)) fun h3=>runs_if (p:=64 < de) rfl (fun h=>runs_r ?_ (.ret _)) fun h4=>?_
 ·rw [limB,no (by omega)]; rfl
 ·rw [limB,no (by omega)]; rfl
 ·rw [limB,no (by omega)]; rfl
 ·rw [limB,no (by omega)]; rfl
 have:=win_low (n:=n) (d:=d) hn (by omega)
 rw [win_eq hn (by omega)]
 refine runs_if (p:=w < 16 * n * d + 16) rfl (fun h=>runs_r ?_ (.ret _)) fun h5=>runs_if (p:=1048576 < w) rfl (fun h=>runs_r ?_ (.ret _)) fun h6=>?_
 ·rw [limB,no (by omega)]; rfl
 ·rw [limB,no (by omega)]; rfl
 rw [gap_eq (by omega) (by omega)]
 refine runs_if (p:=g < 2 * w + 2 * de + 4) rfl (fun h=>runs_r ?_ (.ret _)) fun h7=>runs_if (p:=1048576 < g) rfl (fun h=>runs_r ?_ (.ret _)) fun h8=>runs_need.2 ⟨rfl,?_⟩
 ·rw [limB,no (by omega)]; rfl
 ·rw [limB,no (by omega)]; rfl
 rw [show std.call fn149 (n,s,g,w,d,de,cold,modes)=maxAirS (n,s,g,w,d,de,cold,modes) from rfl,slot_eq (by omega) hm]
 refine runs_if (p:=s < 2 * g + maxAirS (n,s,g,w,d,de,cold,modes)) rfl (fun h=>runs_r ?_ (.ret _)) fun h9=>runs_if (p:=16777216 < s) rfl (fun h=>runs_r ?_ (.ret _)) fun h10=>runs_r ?_ (.ret _)
 ·rw [limB,no (by omega)]; rfl
 ·rw [limB,no (by omega)]; rfl
 ·rw [limB,decide_eq_true (by omega)]; rfl
theorem dcheck0 {n s g w d de:Int} {cold:List Bool} {modes:List Mode} (hl:modes.length≤140737488355328) (hc:(cold.length:Int)=n) (hn:4≤n∧n≤8):∀(j i:Nat),modes.length - i=j→i≤modes.length→
  Runs (s366 std) (.more (.c0 ⟨n,s,g,w,d,de,cold,modes⟩ (i:Int))) (bif (modes.drop i).all (modeB (n,s,g,w,d,de,cold,modes)) && limB n s g w d de (maxAirS (n,s,g,w,d,de,cold,modes)) then 0 else 70):=by
 intro j
 induction j with
 | zero=>
  intro i hj hi
  have:i=modes.length:=by omega
  subst this
  rw [runs_more,s366]
  refine (runs_brF (by rw [lenI,lss_nat]; simp)).2 (tail366 hn ?_)
  rw [List.drop_length]; rfl
 | succ j ih=>
  intro i hj hi
  have hi':i < modes.length:=by omega
  rw [runs_more,s366]
  refine (runs_brT (by rw [lenI,lss_nat]; simp; omega)).2 (runs_need.2 ⟨need_ix hi',?_⟩)
  have e:(std.nth yMode modes (i:Int):Mode)=modes[i]:=getD_in hi' _
  rw [e,List.drop_eq_getElem_cons hi',List.all_cons]
  refine runs_need.2 ⟨by show ((cold.length:Int) == n)=true; simpa using hc,?_⟩
  have hf:std.call fn434 (modes[i],n,s,g,w,d,de,cold,modes)=modeB (n,s,g,w,d,de,cold,modes) modes[i]:=rfl
  rw [hf]
  cases modeB (n,s,g,w,d,de,cold,modes) modes[i]
  ·exact (runs_brT rfl).2 (.ret _)
  ·refine (runs_brF rfl).2 ?_
   rw [inc1 (i:=i) (by omega),Bool.true_and]
   exact ih (i + 1) (by omega) (by omega)
theorem dcheck2 {n s g w d de:Int} {cold:List Bool} {modes:List Mode} (h:Ty.has yMedl (n,s,g,w,d,de,cold,modes)):Runs (s366 std) (t366 std n s g w d de cold modes) (medlS (n,s,g,w,d,de,cold,modes)):=by
 unfold t366 medlS medlB countB
 simp only [within_eq,lenI]
 refine runs_if (p:=n < 4) rfl (fun h=>runs_r ?_ (.ret _)) fun h1=>runs_if (p:=8 < n) rfl (fun h=>runs_r ?_ (.ret _)) fun h2=>runs_if (p:=(modes.length:Int) < 1) rfl (fun h=>runs_r ?_ (.ret _)) fun h3=>runs_if (p:=4 < (modes.length:Int)) rfl (fun h=>runs_r ?_ (.ret _)) fun h4=>?_
 ·rw [decide_eq_false (show ¬4≤n by omega)]; rfl
 ·rw [decide_eq_false (show ¬n≤8 by omega),Bool.and_false]; rfl
 ·rw [decide_eq_false (show ¬(1:Int)≤modes.length by omega),Bool.false_and,Bool.and_false]; rfl
 ·rw [decide_eq_false (show ¬(modes.length:Int)≤4 by omega),Bool.and_false,Bool.and_false]; rfl
 rw [decide_eq_true (show 4≤n by omega),decide_eq_true (show n≤8 by omega),decide_eq_true (show (1:Int)≤modes.length by omega),decide_eq_true (show (modes.length:Int)≤4 by omega)]
 by_cases h5:(cold.length:Int)=n
 ·refine (runs_brF (cne_f h5)).2 (runs_need.2 ⟨rfl,?_⟩)
  rw [show std.call fn433 cold=(cold.count true:Int) from rfl,beq_iff_eq.2 h5]
  refine runs_if (p:=(cold.count true:Int) < 2) rfl (fun h=>runs_r ?_ (.ret _)) fun h6=>runs_r ?_ (dcheck0 (has_medl h).2.2.1 h5 (by omega) modes.length 0 rfl (by omega))
  ·rw [decide_eq_false (show ¬(2:Int)≤cold.count true by omega)]; rfl
  ·rw [decide_eq_true (show (2:Int)≤cold.count true by omega)]; rfl
 ·refine (runs_brT (cne_t h5)).2 (runs_r ?_ (.ret _))
  rw [beq_eq_false_iff_ne.2 h5]; rfl
def fn366:Medl→Int:=medlS
def sp366:FSpec:=⟨[yMedl], [(.int .i64)],(@tt Medl),fn366⟩
theorem run366 {mNodes:Int} {mSlot:Int} {mGap:Int} {mWindow:Int} {mDrift:Int} {mDelay:Int} {mCold:List Bool} {mModes:List Mode} (h:Ty.hass [yMedl] (mNodes,mSlot,mGap,mWindow,mDrift,mDelay,mCold,mModes)):Runs (s366 std) (t366 std mNodes mSlot mGap mWindow mDrift mDelay mCold mModes) (fn366 (mNodes,mSlot,mGap,mWindow,mDrift,mDelay,mCold,mModes)):=by
 exact dcheck2 h
theorem so366:FSpec.Sound Tryz.prog 82 sp366:=
 w366_ok.sound _ _ fun (mNodes,mSlot,mGap,mWindow,mDrift,mDelay,mCold,mModes) _ h=>run366 h
end Go.Ev.M
