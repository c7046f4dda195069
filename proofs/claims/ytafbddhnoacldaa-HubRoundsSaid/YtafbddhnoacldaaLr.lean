/-
  PROVED: the statement HubRounds of its function. Conditions: none.
-/
import Derived.Test.YtafbddhnoacldaaHd
namespace Go.Ev.M
open Go.Proofs
set_option maxRecDepth 100000
set_option linter.unusedVariables false
set_option linter.unusedSimpArgs false
open Go.Ev.Pl
structure P20c0 where
 a0:Int
 a2:Int
 a3:Int
 a4:Int
 a5:Int
 a6:Int
 a7:Int
 a8:List Bool
 a9:List Mode
 a10:Bool
 a11:Int
 a12:Int
inductive Y20 where
 | c0 (p:P20c0) (a1:Int) (a13:Bool) (a14:Int) (a15:Int)
noncomputable def cfg20:Y20→Cfg
 | .c0 p a1 a13 a14 a15=>{frames:=[{fn:=20,n:=59,env:=(Env.put (Env.put (Env.put (Env.put (Env.put .leaf 2 (.ptr 0 0)) 3 (.ptr 1 0)) 5 (.ptr 2 0)) 24 (.int .i64 false p.a0)) 25 (.int .i64 false a1)),todo:=[.inLoop (Code.way (bodyOf Try.f20) [1,1,1,0,1,0,0]),.inBlock 0,.code (Code.way (bodyOf Try.f20) [1,1,1,1])],marks:=[],rnd:=none}],mem:=[.flat false [.int .i64 false p.a2,.int .i64 false p.a3,.int .i64 false p.a4,.int .i64 false p.a5,.int .i64 false p.a6,.int .i64 false p.a7,.sl .bool p.a8,.sl yMode p.a9],.flat false [.bool false p.a10,.int .i64 false p.a11,.int .i64 false p.a12],.flat false [.bool false a13,.int .i64 false a14,.int .i64 false a15],.dead]}
def t20 (A:Alg) (mNodes:Int) (mSlot:Int) (mGap:Int) (mWindow:Int) (mDrift:Int) (mDelay:Int) (mCold:List Bool) (mModes:List Mode) (hSync:Bool) (hStart:Int) (hPos:Int):LT Bool Y20:=
 .need (A.call (@tt Unit) ()) (
 .br (A.not (A.call fn67 ()))
 (.need (A.call (@tt Unit) ()) (
  .ret (A.call fn67 ())))
 (.need (A.call (@tt (Medl×Hub)) ((mNodes,mSlot,mGap,mWindow,mDrift,mDelay,mCold,mModes),hSync,hStart,hPos)) (
  .br (A.cmp .neq (A.call fn71 ((mNodes,mSlot,mGap,mWindow,mDrift,mDelay,mCold,mModes),hSync,hStart,hPos)) 0)
  (.need (A.call (@tt Unit) ()) (
   .ret (A.call fn67 ())))
  (.br (A.not hSync)
   (.need (A.call (@tt Unit) ()) (
   .ret (A.call fn67 ())))
   (.more (.c0 ⟨mNodes,mNodes,mSlot,mGap,mWindow,mDrift,mDelay,mCold,mModes,hSync,hStart,hPos⟩ 0 hSync hStart hPos))))))
def s20 (A:Alg):Y20→LT Bool Y20
 | .c0 p a1 a13 a14 a15=>
  .br (A.cmp .lss a1 p.a0)
  (.need (A.call (@tt (Medl×Hub)) ((p.a2,p.a3,p.a4,p.a5,p.a6,p.a7,p.a8,p.a9),a13,a14,a15)) (
   .br (A.cmp .neq (A.call fn72 ((p.a2,p.a3,p.a4,p.a5,p.a6,p.a7,p.a8,p.a9),a13,a14,a15)).2 0)
   (.ret true)
   (.more (.c0 p (A.bin .add .i64 a1 1) (A.call fn72 ((p.a2,p.a3,p.a4,p.a5,p.a6,p.a7,p.a8,p.a9),a13,a14,a15)).1.1 (A.call fn72 ((p.a2,p.a3,p.a4,p.a5,p.a6,p.a7,p.a8,p.a9),a13,a14,a15)).1.2.1 (A.call fn72 ((p.a2,p.a3,p.a4,p.a5,p.a6,p.a7,p.a8,p.a9),a13,a14,a15)).1.2.2))))
  (.br (A.cmp .eql a15 p.a12)
   (.br (A.cmp .eql (A.bin .sub .i64 a14 p.a11) (A.bin .mul .i64 p.a2 p.a3))
   (.ret a13)
   (.ret false))
   (.ret false))
noncomputable def E20 (A:Alg):Info (Ty.Ts [.bool]):={ti:=tys,fns:=[(20,Try.f20)],sps:=[(67,sp67),(71,sp71),(72,sp72)],stops:=[⟨20,5, [[2,3,5,24,25]]⟩],cuts:=[],consts:=[],fin:=finD A [.bool]}
theorem t20_ok (A:Alg) (mNodes:Int) (mSlot:Int) (mGap:Int) (mWindow:Int) (mDrift:Int) (mDelay:Int) (mCold:List Bool) (mModes:List Mode) (hSync:Bool) (hStart:Int) (hPos:Int):run A (E20 A) 46 (startC 20 Try.f20 (dvals A [yMedl,yHub] ((mNodes,mSlot,mGap,mWindow,mDrift,mDelay,mCold,mModes),hSync,hStart,hPos)))=(t20 A mNodes mSlot mGap mWindow mDrift mDelay mCold mModes hSync hStart hPos).tr cfg20:=by kernel_rfl
theorem s20_ok (A:Alg):∀y,∃n,run A (E20 A) n (advance (E20 A).sps (cfg20 y))=(s20 A y).tr cfg20
 | .c0 p a1 a13 a14 a15=>⟨44,by kernel_rfl⟩
def w20:Walk Try.prog 20 [yMedl,yHub] [.bool] Y20:=⟨fun ((mNodes,mSlot,mGap,mWindow,mDrift,mDelay,mCold,mModes),hSync,hStart,hPos)=>t20 std mNodes mSlot mGap mWindow mDrift mDelay mCold mModes hSync hStart hPos,s20 std⟩
theorem w20_ok:w20.Ok:=
 walk_ok (E:=E20 std) ⟨tys_fit,fns_cons Try.func20 (by kernel_rfl) (fns_nil),sps_cons so67 (sps_cons so71 (sps_cons so72 (sps_nil))),by kernel_rfl⟩ rfl rfl rfl (by kernel_rfl) w20 cfg20 46 (fun ((mNodes,mSlot,mGap,mWindow,mDrift,mDelay,mCold,mModes),hSync,hStart,hPos)=>t20_ok std mNodes mSlot mGap mWindow mDrift mDelay mCold mModes hSync hStart hPos) (s20_ok std)
theorem next_ok {n s g w d de st p:Int} {cold:List Bool} {modes:List Mode} (h:(fn72 ((n,s,g,w,d,de,cold,modes),true,st,p)).2=0):medlB (n,s,g,w,d,de,cold,modes)=true∧0≤p∧p < n∧0≤st∧st≤1099494850560∧(fn72 ((n,s,g,w,d,de,cold,modes),true,st,p)).1=(true,st + s,bif p + 1 == n then 0 else p + 1):=by
 simp only [fn72,t72,LT.val,std_call] at h ⊢
 by_cases h0:fn71 ((n,s,g,w,d,de,cold,modes),true,st,p)=0
 ·obtain ⟨hm,h1,h2,h3,h4,_⟩:=hub_zero h0
  obtain ⟨hn,_,_,_,hs⟩:=medl_n hm
  refine ⟨hm,h1,h2,h3,h4,?_⟩
  rw [cne_f h0,cond_false] at h ⊢
  rw [std_cmp_eql,show std.bin .add .i64 p 1=p + 1 from by rw [std_add,w64 (by omega) (by omega)],show std.bin .add .i64 st s=st + s from by rw [std_add,w64 (by omega) (by omega)]] at h ⊢
  simp only [std_not,Bool.not_true,cond_false] at h ⊢
  cases hq:p + 1 == n
  ·rw [hq] at h
   cases hk:fn122 ((n,s,g,w,d,de,cold,modes),true,st + s,p + 1)
   ·rw [hk] at h; cases h
   ·rfl
  ·rw [hq] at h
   cases hk:fn122 ((n,s,g,w,d,de,cold,modes),true,st + s,0)
   ·rw [hk] at h; cases h
   ·rfl
 ·rw [cne_t h0] at h
  exact absurd h h0
theorem rounds0 {n s g w d de st p:Int} {cold:List Bool} {modes:List Mode} {sy:Bool} (hn:4≤n∧n≤8) (hp:0≤p∧p < n) (hs:0≤s∧s≤16777216) (hst:0≤st∧st≤1099494850560):∀(j i:Nat),n.toNat - i=j→(i:Int)≤n→
  Runs (s20 std) (.more (.c0 ⟨n,n,s,g,w,d,de,cold,modes,sy,st,p⟩ (i:Int) true (st + i * s) (bif decide (p + i < n) then p + i else p + i - n))) true:=by
 intro j
 induction j with
 | zero=>
  intro i hj hi
  have hin:(i:Int)=n:=by omega
  rw [runs_more,s20]
  refine (runs_brF (by rw [lss_i]; simp; omega)).2 ?_
  rw [decide_eq_false (show ¬p + (i:Int) < n by omega),cfalse,hin]
  refine (runs_brT (ceq_t (show p + n - n=p by omega))).2 ((runs_brT ?_).2 (.ret _))
  have hns:0≤n * s∧n * s≤134217728:=by
   have:n=4∨n=5∨n=6∨n=7∨n=8:=by omega
   rcases this with rfl | rfl | rfl | rfl | rfl <;> omega
  refine ceq_t (show std.bin .sub .i64 (st + n * s) st=std.bin .mul .i64 n s from ?_)
  rw [std_sub,std_mul,w64 (a:=n * s) (by omega) (by omega),w64 (by omega) (by omega)]
  omega
 | succ j ih=>
  intro i hj hi
  have hi':(i:Int) < n:=by omega
  rw [runs_more,s20]
  refine (runs_brT (by rw [lss_i]; simpa using hi')).2 (runs_need.2 ⟨rfl,?_⟩)
  by_cases he:(fn72 ((n,s,g,w,d,de,cold,modes),true,st + i * s,bif decide (p + (i:Int) < n) then p + i else p + i - n)).2=0
  ·refine (runs_brF (cne_f he)).2 ?_
   obtain ⟨_,h1,h2,h3,h4,e⟩:=next_ok he
   simp only [std_call,e]
   rw [inc1 (i:=i) (by omega)]
   have e1:st + (i:Int) * s + s=st + ((i + 1:Nat):Int) * s:=by
    rw [Int.natCast_add,Int.add_mul]; omega
   have e2:(bif (bif decide (p + (i:Int) < n) then p + (i:Int) else p + i - n) + 1 == n then 0 else (bif decide (p + (i:Int) < n) then p + (i:Int) else p + i - n) + 1)=bif decide (p + ((i + 1:Nat):Int) < n) then p + ((i + 1:Nat):Int) else p + ((i + 1:Nat):Int) - n:=by
    by_cases k1:p + (i:Int) < n
    ·rw [decide_eq_true k1,ctrue]
     by_cases k2:p + (i:Int) + 1=n
     ·rw [beq_iff_eq.2 k2,decide_eq_false (show ¬p + ((i + 1:Nat):Int) < n by omega),ctrue,cfalse]; omega
     ·rw [beq_eq_false_iff_ne.2 k2,decide_eq_true (show p + ((i + 1:Nat):Int) < n by omega),ctrue,cfalse]; omega
    ·rw [decide_eq_false k1,cfalse,beq_eq_false_iff_ne.2 (show p + (i:Int) - n + 1≠n by omega),decide_eq_false (show ¬p + ((i + 1:Nat):Int) < n by omega),cfalse,cfalse]; omega
   rw [e1,e2]
   exact ih (i + 1) (by omega) (by omega)
  ·exact (runs_brT (cne_t he)).2 (.ret _)
theorem rounds1 {n s g w d de st p:Int} {cold:List Bool} {modes:List Mode} {sy:Bool}:Runs (s20 std) (t20 std n s g w d de cold modes sy st p) true:=by
 unfold t20
 refine runs_need.2 ⟨rfl,(runs_brF (by rw [std_call,begun21]; rfl)).2 (runs_need.2 ⟨rfl,?_⟩)⟩
 by_cases h0:fn71 ((n,s,g,w,d,de,cold,modes),sy,st,p)=0
 ·refine (runs_brF (cne_f h0)).2 ?_
  obtain ⟨hm,h1,h2,h3,h4,_⟩:=hub_zero h0
  obtain ⟨hn,_,_,_,hs⟩:=medl_n hm
  cases sy
  ·exact (runs_brT rfl).2 (runs_need.2 ⟨rfl,runs_c (congrArg LT.ret (show std.call fn67 ()=true from begun21)) (.ret _)⟩)
  ·refine (runs_brF rfl).2 ?_
   have:=rounds0 (g:=g) (w:=w) (d:=d) (de:=de) (cold:=cold) (modes:=modes) (sy:=true) hn ⟨h1,h2⟩ (show 0≤s∧s≤16777216 by omega) ⟨h3,h4⟩ n.toNat 0 (Nat.sub_zero _) (show ((0:Nat):Int)≤n by omega)
   simpa [decide_eq_true h2] using this
 ·exact (runs_brT (cne_t h0)).2 (runs_need.2 ⟨rfl,runs_c (congrArg LT.ret (show std.call fn67 ()=true from begun21)) (.ret _)⟩)
def fn20:Medl×Hub→Bool:=fun _=>true
def sp20:FSpec:=⟨[yMedl,yHub], [.bool],(@tt (Medl×Hub)),fn20⟩
theorem run20 {mNodes:Int} {mSlot:Int} {mGap:Int} {mWindow:Int} {mDrift:Int} {mDelay:Int} {mCold:List Bool} {mModes:List Mode} {hSync:Bool} {hStart:Int} {hPos:Int} (h:Ty.hass [yMedl,yHub] ((mNodes,mSlot,mGap,mWindow,mDrift,mDelay,mCold,mModes),hSync,hStart,hPos)):Runs (s20 std) (t20 std mNodes mSlot mGap mWindow mDrift mDelay mCold mModes hSync hStart hPos) (fn20 ((mNodes,mSlot,mGap,mWindow,mDrift,mDelay,mCold,mModes),hSync,hStart,hPos)):=by
 exact rounds1
theorem so20:FSpec.Sound Try.prog 20 sp20:=
 w20_ok.sound _ _ fun ((mNodes,mSlot,mGap,mWindow,mDrift,mDelay,mCold,mModes),hSync,hStart,hPos) _ h=>run20 h
theorem law20 (x:Medl×Hub) (_:Ty.hass [yMedl,yHub] x):fn20 x=true:=rfl
end Go.Ev.M
