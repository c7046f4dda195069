/-
  PROVED: what functions of the packages cni and metronomeref12 compute. Conditions: none.
-/
import Derived.Test.YtafbddhnoacldaaGreatHb
namespace Go.Ev.M
open Go.Proofs
set_option maxRecDepth 100000
set_option linter.unusedVariables false
set_option linter.unusedSimpArgs false
open Go.Ev.Pl
abbrev eqV (v:AV):Prop:=v=v
abbrev eqI (n:Int):Prop:=IntKind.i64=IntKind.i64∧n=n
abbrev eqK (k:IntKind) (n:Int):Prop:=k=k∧n=n
abbrev eqB (b:Bool):Prop:=b=b
section
variable {R Y:Type} {step:Y→LT R Y} {t:LT R Y} {r:R}
theorem runs_eqV {v:AV}:Runs step (.eqs (eqV v) t) r↔Runs step t r:=⟨fun h=>(runs_eqs.1 h).2,fun h=>runs_eqs.2 ⟨rfl,h⟩⟩
theorem runs_eqI {n:Int}:Runs step (.eqs (eqI n) t) r↔Runs step t r:=⟨fun h=>(runs_eqs.1 h).2,fun h=>runs_eqs.2 ⟨⟨rfl,rfl⟩,h⟩⟩
theorem runs_eqB {n:Bool}:Runs step (.eqs (eqB n) t) r↔Runs step t r:=⟨fun h=>(runs_eqs.1 h).2,fun h=>runs_eqs.2 ⟨rfl,h⟩⟩
end
theorem bif_no {b:Bool} {α:Type} {x y:α} (h:b=false):y=bif b then x else y:=by rw [h]; rfl
theorem and_no {p:Prop} [Decidable p] {b:Bool} (h:¬p):(decide p && b)=false:=by rw [decide_eq_false h]; rfl
theorem and_yes {p:Prop} [Decidable p] {b:Bool} (h:p):(decide p && b)=b:=by rw [decide_eq_true h]; rfl
theorem lss_len {α:Type} {l:List α} {i:Nat}:std.cmp .lss (i:Int) (std.len l)=decide (i < l.length):=lss_nat
def t442 (A:Alg) (n:Int) (least:Int) (most:Int):LT Bool Empty:=
 .br (A.cmp .geq n least)
 (.ret (A.cmp .leq n most))
 (.ret false)
noncomputable def E442 (A:Alg):Info (Ty.Ts [.bool]):={ti:=tys,fns:=[(196,Tryz.f196)],sps:=[],stops:=[],cuts:=[],consts:=[],fin:=finD A [.bool]}
theorem t442_ok (A:Alg) (n:Int) (least:Int) (most:Int):run A (E442 A) 22 (startC 196 Tryz.f196 (dvals A [(.int .i64),(.int .i64),(.int .i64)] (n,least,most)))=(t442 A n least most).tr Empty.elim:=by kernel_rfl
def w442:Walk Tryz.prog 196 [(.int .i64),(.int .i64),(.int .i64)] [.bool] Empty:=⟨fun (n,least,most)=>t442 std n least most,Empty.elim⟩
theorem w442_ok:w442.Ok:=
 walk_ok (E:=E442 std) ⟨tys_fit,fns_cons Tryz.func196 (by kernel_rfl) (fns_nil),sps_nil,by kernel_rfl⟩ rfl rfl rfl (by kernel_rfl) w442 Empty.elim 22 (fun (n,least,most)=>t442_ok std n least most) (fun y=>y.elim)
def fn442:(Int×Int×Int)→Bool:=fun (n,least,most)=>(t442 std n least most).val (Ty.dflts [.bool])
def sp442:FSpec:=⟨[(.int .i64),(.int .i64),(.int .i64)], [.bool],(@tt (Int×Int×Int)),fn442⟩
theorem eqs442 (n:Int) (least:Int) (most:Int):(t442 std n least most).Eqs:=by simp only [t442,LT.Eqs,eqV,eqI,eqB,eqK,and_self,true_and,and_true]
theorem pre442_ok {n:Int} {least:Int} {most:Int} (h:Ty.hass [(.int .i64),(.int .i64),(.int .i64)] (n,least,most)):(t442 std n least most).pre=true:=by
 simp [t442,LT.pre,std_call,tt_eq]
theorem so442:FSpec.Sound Tryz.prog 196 sp442:=
 w442_ok.sound _ _ fun (n,least,most) _ h=>LT.runs (d:=Ty.dflts [.bool]) (eqs442 n least most) (pre442_ok h)
structure P389c0 where
 (a0:List Msg) (a1:Int) (a3:Bool)
inductive Y389 where
 | c0 (p:P389c0) (a2:Int)
noncomputable def cfg389:Y389→Cfg
 | .c0 p a2=>{frames:=[{fn:=254,n:=19,env:=(Env.put (Env.put (Env.put (Env.put .leaf 0 (.sl yMsg p.a0)) 1 (.fn 198 [] [])) 7 (.int .i64 false p.a1)) 8 (.int .i64 false a2)),todo:=[.inLoop (Code.way (bodyOf Tryz.f254) [1,0,1,0,0]),.inBlock 0,.code (Code.way (bodyOf Tryz.f254) [1,1])],marks:=[],rnd:=none},{fn:=199,n:=9,env:=.leaf,todo:=[.ops (opsOf (Code.way (bodyOf Tryz.f199) [1,0])) ((opsOf (Code.way (bodyOf Tryz.f199) [1,0])).toList.drop 2),.code .ret],marks:=[],rnd:=none},{fn:=109,n:=43,env:=(Env.put .leaf 37 (.bool false p.a3)),todo:=[.ops (opsOf (Code.way (bodyOf Tryz.f109) [1,1,0,0])) ((opsOf (Code.way (bodyOf Tryz.f109) [1,1,0,0])).toList.drop 37),.code (Code.way (bodyOf Tryz.f109) [1,1,0,1]),.code (Code.way (bodyOf Tryz.f109) [1,1,1])],marks:=[],rnd:=none}],mem:=[.dead]}
def t389 (A:Alg) (c:Cni):LT Int Y389:=
 .need (A.call (@tt (Int×Int×Int)) ((A.len c.2.2.1),4,8)) (
 .br (A.not (A.call fn442 ((A.len c.2.2.1),4,8)))
 (.ret 120)
 (.need (A.call (@tt (Int×Int×Int)) (c.1,0,(A.bin .sub .i64 (A.len c.2.2.1) 1))) (
  .br (A.not (A.call fn442 (c.1,0,(A.bin .sub .i64 (A.len c.2.2.1) 1))))
  (.ret 120)
  (.br (A.cmp .gtr (A.len c.2.1) 8)
   (.ret 120)
   (.need (A.call (@tt (Int×Int×Int)) (c.2.2.2.1,0,4)) (
   .br (A.not (A.call fn442 (c.2.2.2.1,0,4)))
    (.ret 120)
    (.need (A.call (@tt (Int×Int×Int)) (c.2.2.2.2,(-1),3)) (
    .br (A.not (A.call fn442 (c.2.2.2.2,(-1),3)))
     (.ret 120)
     (.more (.c0 ⟨c.2.2.1,(A.len c.2.2.1),false⟩ 0))))))))))
def s389 (A:Alg):Y389→LT Int Y389
 | .c0 p a2=>
  .br (A.cmp .lss a2 p.a1)
  (.need (A.and (A.cmp .leq 0 a2) (A.cmp .lss a2 (A.len p.a0))) (
   .br (A.cmp .gtr (A.len (A.nth yMsg p.a0 a2:Msg).1) 8)
   (.br p.a3
    (.ret 120)
    (.br (A.cmp .geq a2 0)
    (.ret 120)
    (.ret 0)))
   (.need (A.call (@tt (Int×Int×Int)) ((A.nth yMsg p.a0 a2:Msg).2,0,255)) (
    .br (A.not (A.call fn442 ((A.nth yMsg p.a0 a2:Msg).2,0,255)))
    (.br p.a3
     (.ret 120)
     (.br (A.cmp .geq a2 0)
     (.ret 120)
     (.ret 0)))
    (.more (.c0 p (A.bin .add .i64 a2 1)))))))
  (.br p.a3
   (.ret 120)
   (.ret 0))
noncomputable def E389 (A:Alg):Info (Ty.Ts [(.int .i64)]):={ti:=tys,fns:=[(109,Tryz.f109),(198,Tryz.f198),(199,Tryz.f199),(254,Tryz.f254)],sps:=[(196,sp442)],stops:=[⟨254,2, [[0,1,7,8], [], [37]]⟩],cuts:=[],consts:=[],fin:=finD A [(.int .i64)]}
theorem t389_ok (A:Alg) (c:Cni):run A (E389 A) 78 (startC 109 Tryz.f109 (dvals A [yCni] c))=(t389 A c).tr cfg389:=by kernel_rfl
theorem s389_ok (A:Alg):∀y,∃n,run A (E389 A) n (advance (E389 A).sps (cfg389 y))=(s389 A y).tr cfg389
 | .c0 p a2=>⟨68,by kernel_rfl⟩
def w389:Walk Tryz.prog 109 [yCni] [(.int .i64)] Y389:=⟨fun c=>t389 std c,s389 std⟩
theorem w389_ok:w389.Ok:=
 walk_ok (E:=E389 std) ⟨tys_fit,fns_cons Tryz.func109 (by kernel_rfl) (fns_cons Tryz.func198 (by kernel_rfl) (fns_cons Tryz.func199 (by kernel_rfl) (fns_cons Tryz.func254 (by kernel_rfl) (fns_nil)))),sps_cons so442 (sps_nil),by kernel_rfl⟩ rfl rfl rfl (by kernel_rfl) w389 cfg389 78 (fun c=>t389_ok std c) (s389_ok std)
theorem wt442:fn442=fn158:=rfl
def msgB (m:Msg):Bool:=decide (¬8 < (m.1.length:Int)) && decide (0≤m.2∧m.2≤255)
def cniB (c:Cni):Bool:=decide (4≤(c.2.2.1.length:Int)∧(c.2.2.1.length:Int)≤8) && (decide (0≤c.1∧c.1≤(c.2.2.1.length:Int) - 1) && (decide (¬8 < (c.2.1.length:Int)) && (decide (0≤c.2.2.2.1∧c.2.2.2.1≤4) && (decide (-1≤c.2.2.2.2∧c.2.2.2.2≤3) && c.2.2.1.all msgB))))
def cniS (c:Cni):Int:=bif cniB c then 0 else 120
theorem cniS_zero {c:Cni}:cniS c=0↔cniB c=true:=by unfold cniS; cases cniB c <;> decide
theorem msg0 {l:List Msg} (hl:l.length≤140737488355328):∀(j i:Nat),l.length - i=j→i≤l.length→Runs (s389 std) (.more (.c0 ⟨l,(l.length:Int),false⟩ (i:Int))) (bif (l.drop i).all msgB then 0 else 120):=by
 intro j
 induction j with
 | zero=>
  intro i hj hi
  have:i=l.length:=by omega
  subst this
  rw [runs_more,s389]
  refine (runs_brF (by rw [lss_nat]; simp)).2 ((runs_brF rfl).2 ?_)
  rw [List.drop_length]
  exact .ret _
 | succ j ih=>
  intro i hj hi
  have hi':i < l.length:=by omega
  rw [runs_more,s389]
  refine (runs_brT (by rw [lss_nat]; simp; omega)).2 (runs_need.2 ⟨need_ix hi',?_⟩)
  rw [show (std.nth yMsg l (i:Int):Msg)=l[i] from getD_in hi' _,List.drop_eq_getElem_cons hi',List.all_cons,msgB,wt442]
  refine runs_if (p:=8 < (l[i].1.length:Int)) rfl (fun h=>?_) fun h1=>runs_need.2 ⟨rfl,runs_in (fun h=>?_) fun h2=>?_⟩
  ·rw [decide_eq_false (show ¬¬8 < (l[i].1.length:Int) by omega)]
   exact (runs_brF rfl).2 ((runs_brT (by rw [std_cmp_geq]; simp)).2 (.ret _))
  ·rw [decide_eq_false h,Bool.and_false]
   exact (runs_brF rfl).2 ((runs_brT (by rw [std_cmp_geq]; simp)).2 (.ret _))
  ·rw [decide_eq_true h1,decide_eq_true h2,inc1 (i:=i) (by omega)]
   exact ih (i + 1) (by omega) (by omega)
theorem has_cni {c:Cni} (h:Ty.has yCni c):c.2.1.length≤140737488355328∧c.2.2.1.length≤140737488355328∧∀x∈c.2.2.1,x.1.length≤140737488355328:=by
 obtain ⟨_,h1,h2,_⟩:=h
 exact ⟨h1.1,h2.1,fun x hx=>(h2.2 x hx).1.1⟩
theorem cni1 {c:Cni} (h:Ty.has yCni c):Runs (s389 std) (t389 std c) (cniS c):=by
 have hc:=(has_cni h).2.1
 unfold t389 cniS
 rw [wt442]
 simp only [lenI]
 have hs:std.bin .sub .i64 (c.2.2.1.length:Int) 1=(c.2.2.1.length:Int) - 1:=by rw [std_sub,w64 (by omega) (by omega)]
 rw [hs]
 refine runs_need.2 ⟨rfl,runs_in (fun h=>?_) fun h1=>runs_need.2 ⟨rfl,runs_in (fun h=>?_) fun h2=>runs_if (p:=8 < (c.2.1.length:Int)) rfl (fun h=>?_) fun h3=>runs_need.2 ⟨rfl,runs_in (fun h=>?_) fun h4=>runs_need.2 ⟨rfl,runs_in (fun h=>?_) fun h5=>?_⟩⟩⟩⟩
 ·exact runs_r (bif_no (by rw [cniB,and_no h])) (.ret _)
 ·exact runs_r (bif_no (by rw [cniB,and_yes h1,and_no h])) (.ret _)
 ·exact runs_r (bif_no (by rw [cniB,and_yes h1,and_yes h2,and_no (fun k=>k h)])) (.ret _)
 ·exact runs_r (bif_no (by rw [cniB,and_yes h1,and_yes h2,and_yes h3,and_no h])) (.ret _)
 ·exact runs_r (bif_no (by rw [cniB,and_yes h1,and_yes h2,and_yes h3,and_yes h4,and_no h])) (.ret _)
 ·rw [cniB,and_yes h1,and_yes h2,and_yes h3,and_yes h4,and_yes h5]
  exact msg0 hc c.2.2.1.length 0 rfl (by omega)
def fn389:Cni→Int:=cniS
def sp389:FSpec:=⟨[yCni], [(.int .i64)],(@tt Cni),fn389⟩
theorem run389 {c:Cni} (h:Ty.hass [yCni] c):Runs (s389 std) (t389 std c) (fn389 c):=by
 exact cni1 h
theorem so389:FSpec.Sound Tryz.prog 109 sp389:=
 w389_ok.sound _ _ fun c _ h=>run389 h
structure P391c0 where
 (a1:Cni)
inductive Y391 where
 | c0 (p:P391c0) (a0:Int)
noncomputable def cfg391:Y391→Cfg
 | .c0 p a0=>{frames:=[{fn:=112,n:=84,env:=(Env.put (Env.put .leaf 1 (.ptr 0 0)) 4 (.int .i64 false a0)),todo:=[.inLoop (Code.way (bodyOf Tryz.f112) [1,1,1,0,1,0,0]),.inBlock 0,.code (Code.way (bodyOf Tryz.f112) [1,1,1,1])],marks:=[],rnd:=none}],mem:=[.flat false [.int .i64 false p.a1.1,.sl (.int .u8) p.a1.2.1,.sl yMsg p.a1.2.2.1,.int .i64 false p.a1.2.2.2.1,.int .i64 false p.a1.2.2.2.2],.dead]}
def t391 (A:Alg) (c:Cni):LT Int Y391:=
 .br (A.cmp .lss (A.len c.2.2.1) 4)
 (.ret 120)
 (.br (A.cmp .gtr (A.len c.2.2.1) 8)
 (.ret 120)
 (.br (A.cmp .lss c.1 0)
  (.ret 120)
  (.br (A.cmp .geq c.1 (A.len c.2.2.1))
  (.ret 120)
  (.br (A.cmp .gtr (A.len c.2.1) 8)
   (.ret 120)
   (.br (A.cmp .lss c.2.2.2.1 0)
   (.ret 120)
   (.br (A.cmp .gtr c.2.2.2.1 4)
    (.ret 120)
    (.br (A.cmp .lss c.2.2.2.2 (-1))
    (.ret 120)
    (.br (A.cmp .geq c.2.2.2.2 4)
     (.ret 120)
     (.more (.c0 ⟨c⟩ 0))))))))))
def s391 (A:Alg):Y391→LT Int Y391
 | .c0 p a0=>
  .br (A.cmp .lss a0 (A.len p.a1.2.2.1))
  (.need (A.and (A.cmp .leq 0 a0) (A.cmp .lss a0 (A.len p.a1.2.2.1))) (
   .br (A.cmp .gtr (A.len (A.nth yMsg p.a1.2.2.1 a0:Msg).1) 8)
   (.ret 120)
   (.need (A.and (A.cmp .leq 0 a0) (A.cmp .lss a0 (A.len p.a1.2.2.1))) (
    .br (A.cmp .lss (A.nth yMsg p.a1.2.2.1 a0:Msg).2 0)
    (.ret 120)
    (.need (A.and (A.cmp .leq 0 a0) (A.cmp .lss a0 (A.len p.a1.2.2.1))) (
     .br (A.cmp .gtr (A.nth yMsg p.a1.2.2.1 a0:Msg).2 255)
     (.ret 120)
     (.more (.c0 p (A.bin .add .i64 a0 1)))))))))
  (.ret 0)
noncomputable def E391 (A:Alg):Info (Ty.Ts [(.int .i64)]):={ti:=tys,fns:=[(112,Tryz.f112)],sps:=[],stops:=[⟨112,5, [[1,4]]⟩],cuts:=[],consts:=[],fin:=finD A [(.int .i64)]}
theorem t391_ok (A:Alg) (c:Cni):run A (E391 A) 74 (startC 112 Tryz.f112 (dvals A [yCni] c))=(t391 A c).tr cfg391:=by kernel_rfl
theorem s391_ok (A:Alg):∀y,∃n,run A (E391 A) n (advance (E391 A).sps (cfg391 y))=(s391 A y).tr cfg391
 | .c0 p a0=>⟨56,by kernel_rfl⟩
def w391:Walk Tryz.prog 112 [yCni] [(.int .i64)] Y391:=⟨fun c=>t391 std c,s391 std⟩
theorem w391_ok:w391.Ok:=
 walk_ok (E:=E391 std) ⟨tys_fit,fns_cons Tryz.func112 (by kernel_rfl) (fns_nil),sps_nil,by kernel_rfl⟩ rfl rfl rfl (by kernel_rfl) w391 cfg391 74 (fun c=>t391_ok std c) (s391_ok std)
theorem dmsg0 {c:Cni} (hl:c.2.2.1.length≤140737488355328):∀(j i:Nat),c.2.2.1.length - i=j→i≤c.2.2.1.length→Runs (s391 std) (.more (.c0 ⟨c⟩ (i:Int))) (bif (c.2.2.1.drop i).all msgB then 0 else 120):=by
 intro j
 induction j with
 | zero=>
  intro i hj hi
  have:i=c.2.2.1.length:=by omega
  subst this
  rw [runs_more,s391]
  refine (runs_brF (by rw [lss_len]; simp)).2 ?_
  rw [List.drop_length]
  exact .ret _
 | succ j ih=>
  intro i hj hi
  have hi':i < c.2.2.1.length:=by omega
  rw [runs_more,s391]
  refine (runs_brT (by rw [lss_len]; simp; omega)).2 (runs_need.2 ⟨need_ix hi',?_⟩)
  rw [show (std.nth yMsg c.2.2.1 (i:Int):Msg)=c.2.2.1[i] from getD_in hi' _,List.drop_eq_getElem_cons hi',List.all_cons,msgB]
  refine runs_if (p:=8 < (c.2.2.1[i].1.length:Int)) rfl (fun h=>?_) fun h1=>runs_need.2 ⟨need_ix hi',runs_if (p:=c.2.2.1[i].2 < 0) rfl (fun h=>?_) fun h2=>runs_need.2 ⟨need_ix hi',runs_if (p:=255 < c.2.2.1[i].2) rfl (fun h=>?_) fun h3=>?_⟩⟩
  ·rw [and_no (fun k=>k h)]; exact .ret _
  ·rw [and_yes h1,decide_eq_false (by omega)]; exact .ret _
  ·rw [and_yes h1,decide_eq_false (by omega)]; exact .ret _
  ·rw [and_yes h1,decide_eq_true (by omega),inc1 (i:=i) (by omega)]
   exact ih (i + 1) (by omega) (by omega)
theorem dcni1 {c:Cni} (h:Ty.has yCni c):Runs (s391 std) (t391 std c) (cniS c):=by
 have hc:=(has_cni h).2.1
 unfold t391 cniS
 simp only [lenI]
 refine runs_if (p:=(c.2.2.1.length:Int) < 4) rfl (fun h=>?_) fun h1=>runs_if (p:=8 < (c.2.2.1.length:Int)) rfl (fun h=>?_) fun h2=>runs_if (p:=c.1 < 0) rfl (fun h=>?_) fun h3=>runs_if (p:=(c.2.2.1.length:Int)≤c.1) rfl (fun h=>?_) fun h4=>runs_if (p:=8 < (c.2.1.length:Int)) rfl (fun h=>?_) fun h5=>runs_if (p:=c.2.2.2.1 < 0) rfl (fun h=>?_) fun h6=>runs_if (p:=4 < c.2.2.2.1) rfl (fun h=>?_) fun h7=>runs_if (p:=c.2.2.2.2 < -1) rfl (fun h=>?_) fun h8=>runs_if (p:=4≤c.2.2.2.2) rfl (fun h=>?_) fun h9=>?_
 ·exact runs_r (bif_no (by rw [cniB,and_no (by omega)])) (.ret _)
 ·exact runs_r (bif_no (by rw [cniB,and_no (by omega)])) (.ret _)
 ·exact runs_r (bif_no (by rw [cniB,and_yes (by omega),and_no (by omega)])) (.ret _)
 ·exact runs_r (bif_no (by rw [cniB,and_yes (by omega),and_no (by omega)])) (.ret _)
 ·exact runs_r (bif_no (by rw [cniB,and_yes (by omega),and_yes (by omega),and_no (by omega)])) (.ret _)
 ·exact runs_r (bif_no (by rw [cniB,and_yes (by omega),and_yes (by omega),and_yes (by omega),and_no (by omega)])) (.ret _)
 ·exact runs_r (bif_no (by rw [cniB,and_yes (by omega),and_yes (by omega),and_yes (by omega),and_no (by omega)])) (.ret _)
 ·exact runs_r (bif_no (by rw [cniB,and_yes (by omega),and_yes (by omega),and_yes (by omega),and_yes (by omega),and_no (by omega)])) (.ret _)
 ·exact runs_r (bif_no (by rw [cniB,and_yes (by omega),and_yes (by omega),and_yes (by omega),and_yes (by omega),and_no (by omega)])) (.ret _)
 ·rw [cniB,and_yes (by omega),and_yes (by omega),and_yes (by omega),and_yes (by omega),and_yes (by omega)]
  exact dmsg0 hc c.2.2.1.length 0 rfl (by omega)
def fn391:Cni→Int:=cniS
def sp391:FSpec:=⟨[yCni], [(.int .i64)],(@tt Cni),fn391⟩
theorem run391 {c:Cni} (h:Ty.hass [yCni] c):Runs (s391 std) (t391 std c) (fn391 c):=by
 exact dcni1 h
theorem so391:FSpec.Sound Tryz.prog 112 sp391:=
 w391_ok.sound _ _ fun c _ h=>run391 h
open Go.Ev.Pl
structure P446c0 where
 (a0:Int) (a2:Cni) (a3 a4 a5:Int)
inductive Y446 where
 | c0 (p:P446c0) (a1:Int) (a6:List Msg)
noncomputable def cfg446:Y446→Cfg
 | .c0 p a1 a6=>{frames:=[{fn:=202,n:=44,env:=(Env.put (Env.put (Env.put (Env.put (Env.put .leaf 1 (.ptr 0 0)) 2 (.ptr 1 0)) 5 (.own 2)) 22 (.int .i64 false p.a0)) 23 (.int .i64 false a1)),todo:=[.inLoop (Code.way (bodyOf Tryz.f202) [1,1,1,1,0,1,0,0]),.inBlock 0,.code (Code.way (bodyOf Tryz.f202) [1,1,1,1,1])],marks:=[],rnd:=none}],mem:=[.flat false [.int .i64 false p.a2.1,.sl (.int .u8) p.a2.2.1,.sl yMsg p.a2.2.2.1,.int .i64 false p.a2.2.2.2.1,.int .i64 false p.a2.2.2.2.2],.flat false [.int .i64 false p.a3,.esl true,.esl true,.int .i64 false p.a4,.int .i64 false p.a5],.arr false yMsg a6,.dead]}
def t446 (A:Alg) (c:Cni):LT (Cni×Int) Y446:=
 .need (A.call (@tt Cni) c) (
 .br (A.cmp .neq (A.call fn389 c) 0)
 (.ret ((0,([]:List Int),([]:List Msg),0,0),(A.call fn389 c)))
 (.need (A.and (A.cmp .eql (A.len c.2.2.1) (A.len c.2.2.1)) (A.and (A.cmp .leq 0 (A.len c.2.2.1)) (A.cmp .leq (A.len c.2.2.1) 4264772374403))) (
  .more (.c0 ⟨(A.len (A.spl (A.rep (A.len c.2.2.1) (Ty.dflt yMsg:Msg)) 0 (A.sub c.2.2.1 0 (A.mn (A.len c.2.2.1) (A.len (A.rep (A.len c.2.2.1) (Ty.dflt yMsg:Msg))))))),c,0,0,0⟩ 0 (A.spl (A.rep (A.len c.2.2.1) (Ty.dflt yMsg:Msg)) 0 (A.sub c.2.2.1 0 (A.mn (A.len c.2.2.1) (A.len (A.rep (A.len c.2.2.1) (Ty.dflt yMsg:Msg))))))))))
def s446 (A:Alg):Y446→LT (Cni×Int) Y446
 | .c0 p a1 a6=>
  .br (A.cmp .lss a1 p.a0)
  (.need (A.and (A.cmp .leq 0 a1) (A.cmp .lss a1 (A.len a6))) (
   .need (A.call (@tt (List Int)) (A.nth yMsg a6 a1:Msg).1) (
   .need (A.and (A.cmp .leq 0 a1) (A.cmp .lss a1 (A.len a6))) (
    .more (.c0 p (A.bin .add .i64 a1 1) (A.set a6 a1 ((A.call fn174 (A.nth yMsg a6 a1:Msg).1),(A.nth yMsg a6 a1:Msg).2)))))))
  (.need (A.call (@tt (List Int)) p.a2.2.1) (
   .ret ((p.a2.1,(A.call fn174 p.a2.2.1),a6,p.a2.2.2.2),0)))
noncomputable def E446 (A:Alg):Info (Ty.Ts [yCni,(.int .i64)]):={ti:=tys,fns:=[(202,Tryz.f202)],sps:=[(203,sp174),(109,sp389)],stops:=[⟨202,7, [[1,2,5,22,23]]⟩],cuts:=[],consts:=[],fin:=finD A [yCni,(.int .i64)]}
theorem t446_ok (A:Alg) (c:Cni):run A (E446 A) 50 (startC 202 Tryz.f202 (dvals A [yCni] c))=(t446 A c).tr cfg446:=by kernel_rfl
theorem s446_ok (A:Alg):∀y,∃n,run A (E446 A) n (advance (E446 A).sps (cfg446 y))=(s446 A y).tr cfg446
 | .c0 p a1 a6=>⟨38,by kernel_rfl⟩
def w446:Walk Tryz.prog 202 [yCni] [yCni,(.int .i64)] Y446:=⟨fun c=>t446 std c,s446 std⟩
theorem w446_ok:w446.Ok:=
 walk_ok (E:=E446 std) ⟨tys_fit,fns_cons Tryz.func202 (by kernel_rfl) (fns_nil),sps_cons so174 (sps_cons so389 (sps_nil)),by kernel_rfl⟩ rfl rfl rfl (by kernel_rfl) w446 cfg446 50 (fun c=>t446_ok std c) (s446_ok std)
def zCni:Cni:=(0,([]:List Int),([]:List Msg),0,0)
def ownC (c:Cni):Cni×Int:=bif cniB c then (c,0) else (zCni,120)
theorem own0 {c:Cni} {L z1 z2 z3:Int} {l:List Msg} (hl:l.length≤140737488355328) (hL:L=(l.length:Int)):∀(j i:Nat),l.length - i=j→i≤l.length→Runs (s446 std) (.more (.c0 ⟨L,c,z1,z2,z3⟩ (i:Int) l)) ((c.1,c.2.1,l,c.2.2.2),0):=by
 subst hL
 intro j
 induction j with
 | zero=>
  intro i hj hi
  have:i=l.length:=by omega
  subst this
  rw [runs_more,s446]
  exact (runs_brF (by rw [lss_nat]; simp)).2 (runs_need.2 ⟨rfl,.ret _⟩)
 | succ j ih=>
  intro i hj hi
  have hi':i < l.length:=by omega
  rw [runs_more,s446]
  refine (runs_brT (by rw [lss_nat]; simp; omega)).2 (runs_need.2 ⟨need_ix hi',runs_need.2 ⟨rfl,runs_need.2 ⟨need_ix hi',?_⟩⟩⟩)
  have e:(std.nth yMsg l (i:Int):Msg)=l[i]:=getD_in hi' _
  have e2:std.set l (i:Int) ((std.call fn174 (std.nth yMsg l (i:Int):Msg).1),(std.nth yMsg l (i:Int):Msg).2)=l:=by
   rw [e]
   show l.set (i:Int).toNat l[i]=l
   rw [Int.toNat_natCast]; exact List.set_getElem_self _
  rw [e2,inc1 (i:=i) (by omega)]
  exact ih (i + 1) (by omega) (by omega)
theorem spl_all {α:Type} {l:List α} {d:α}:std.spl (std.rep (std.len l) d) 0 (std.sub l 0 (std.mn (std.len l) (std.len (std.rep (std.len l) d))))=l:=by
 simp [std_spl,std_rep,std_sub',std_mn,lenI]
theorem ownc1 {c:Cni}:Runs (s446 std) (t446 std c) (ownC c):=by
 unfold t446 ownC
 refine runs_need.2 ⟨rfl,?_⟩
 rw [show std.call fn389 c=cniS c from rfl,cniS]
 cases hc:cniB c
 ·exact (runs_brT rfl).2 (.ret _)
 ·refine (runs_brF rfl).2 ?_
  simp only [cniB,Bool.and_eq_true,decide_eq_true_eq] at hc
  have h1:std.and (std.cmp .eql (std.len c.2.2.1) (std.len c.2.2.1)) (std.and (std.cmp .leq 0 (std.len c.2.2.1)) (std.cmp .leq (std.len c.2.2.1) 4264772374403))=true:=by
   rw [lenI,std_cmp_eql,std_cmp_leq,std_cmp_leq,std_and,std_and]; simp; omega
  refine runs_need.2 ⟨h1,?_⟩
  exact runs_c (congrArg (fun z:List Msg=>LT.more (Y446.c0 ⟨std.len z,c,0,0,0⟩ 0 z)) spl_all) (own0 (by omega) rfl c.2.2.1.length 0 rfl (by omega))
def fn446:Cni→(Cni×Int):=ownC
def sp446:FSpec:=⟨[yCni], [yCni,(.int .i64)],(@tt Cni),fn446⟩
theorem run446 {c:Cni} (h:Ty.hass [yCni] c):Runs (s446 std) (t446 std c) (fn446 c):=by
 exact ownc1
theorem so446:FSpec.Sound Tryz.prog 202 sp446:=
 w446_ok.sound _ _ fun c _ h=>run446 h
theorem eql_dec {a b:Int}:std.cmp .eql a b=decide (a=b):=by rw [std_cmp_eql,Bool.eq_iff_iff]; simp
theorem app_ok {l:List Msg} {x:Msg} (h:l.length≤4264772374402):std.cmp .leq (std.len (std.app l [x])) 4264772374403=true:=by
 rw [lenI,std_cmp_leq,std_app,List.length_append]; exact decide_eq_true (by simp; omega)
theorem len_ok {l:List Int} (h:l.length≤70368744177664):std.cmp .leq (std.len l) 70368744177664=true:=by
 rw [lenI,std_cmp_leq]; exact decide_eq_true (by omega)
theorem nil_msg {m:Msg} (h:(m.1.length:Int)=0):(([]:List Int),m.2)=m:=Prod.ext (List.eq_nil_of_length_eq_zero (by omega)).symm rfl
open Go.Ev.Pl
def roomB (c:Cni):Bool:=decide (c.2.1.length≤70368744177664) && (decide (c.2.2.1.length≤4264772374402) && c.2.2.1.all fun m=>decide (m.1.length≤70368744177664))
theorem roomB_iff {c:Cni}:roomB c=true↔c.2.1.length≤70368744177664∧c.2.2.1.length≤4264772374402∧∀x∈c.2.2.1,x.1.length≤70368744177664:=by
 simp [roomB,List.all_eq_true]
theorem room_ok {c:Cni} (h:cniB c=true):roomB c=true:=by
 simp only [cniB,Bool.and_eq_true,decide_eq_true_eq,List.all_eq_true,msgB] at h
 exact roomB_iff.2 ⟨by omega,by omega,fun x hx=>by have:=(h.2.2.2.2.2 x hx).1; omega⟩
structure P330c0 where
 (a0:List Msg) (a1 a2 a3 a4 a5 a6 a7:Int)
structure P330c1 where
 (b0:List Msg) (b1 b2 b3 b4 b5 b6 b7:Int) (b8:List Int)
structure P330c2 where
 (c0:List Msg) (c2 c3 c4 c5 c6 c7:Int)
structure P330c3 where
 (d0:List Msg) (d2 d3 d4 d5 d6 d7:Int) (d8:List Int)
inductive Y330 where
 | c0 (p:P330c0)
 | c1 (p:P330c1)
 | c2 (p:P330c2) (c1:Int) (c8:List Msg)
 | c3 (p:P330c3) (d1:Int) (d9:List Msg)
noncomputable def cfg330:Y330→Cfg
 | .c0 p=>{frames:=[{fn:=38,n:=36,env:=(Env.put (Env.put (Env.put (Env.put .leaf 1 (.ptr 0 0)) 2 (.ptr 1 0)) 3 (.sl yMsg p.a0)) 4 (.int .i64 false p.a1)),todo:=[.inLoop (Code.way (bodyOf Tryz.f38) [1,1,1,1,0,1,0,0]),.inBlock 0,.code (Code.way (bodyOf Tryz.f38) [1,1,1,1,1])],marks:=[],rnd:=none}],mem:=[.flat false [.int .i64 false p.a2,.esl true,.esl true,.int .i64 false p.a3,.int .i64 false p.a4],.flat false [.int .i64 false p.a5,.esl true,.esl true,.int .i64 false p.a6,.int .i64 false p.a7],.dead]}
 | .c1 p=>{frames:=[{fn:=38,n:=36,env:=(Env.put (Env.put (Env.put (Env.put .leaf 1 (.ptr 0 0)) 2 (.ptr 1 0)) 3 (.sl yMsg p.b0)) 4 (.int .i64 false p.b1)),todo:=[.inLoop (Code.way (bodyOf Tryz.f38) [1,1,1,1,0,1,0,0]),.inBlock 0,.code (Code.way (bodyOf Tryz.f38) [1,1,1,1,1])],marks:=[],rnd:=none}],mem:=[.flat false [.int .i64 false p.b2,.own 2,.esl true,.int .i64 false p.b3,.int .i64 false p.b4],.flat false [.int .i64 false p.b5,.esl true,.esl true,.int .i64 false p.b6,.int .i64 false p.b7],.arr false (.int .u8) p.b8,.dead]}
 | .c2 p c1 c8=>{frames:=[{fn:=38,n:=36,env:=(Env.put (Env.put (Env.put (Env.put .leaf 1 (.ptr 0 0)) 2 (.ptr 1 0)) 3 (.sl yMsg p.c0)) 4 (.int .i64 false c1)),todo:=[.inLoop (Code.way (bodyOf Tryz.f38) [1,1,1,1,0,1,0,0]),.inBlock 0,.code (Code.way (bodyOf Tryz.f38) [1,1,1,1,1])],marks:=[],rnd:=none}],mem:=[.flat false [.int .i64 false p.c2,.esl true,.own 2,.int .i64 false p.c3,.int .i64 false p.c4],.flat false [.int .i64 false p.c5,.esl true,.esl true,.int .i64 false p.c6,.int .i64 false p.c7],.arr false yMsg c8,.dead]}
 | .c3 p d1 d9=>{frames:=[{fn:=38,n:=36,env:=(Env.put (Env.put (Env.put (Env.put .leaf 1 (.ptr 0 0)) 2 (.ptr 1 0)) 3 (.sl yMsg p.d0)) 4 (.int .i64 false d1)),todo:=[.inLoop (Code.way (bodyOf Tryz.f38) [1,1,1,1,0,1,0,0]),.inBlock 0,.code (Code.way (bodyOf Tryz.f38) [1,1,1,1,1])],marks:=[],rnd:=none}],mem:=[.flat false [.int .i64 false p.d2,.own 2,.own 3,.int .i64 false p.d3,.int .i64 false p.d4],.flat false [.int .i64 false p.d5,.esl true,.esl true,.int .i64 false p.d6,.int .i64 false p.d7],.arr false (.int .u8) p.d8,.arr false yMsg d9,.dead]}
def t330 (A:Alg) (c:Cni):LT Cni Y330:=
 .br (A.cmp .eql (A.len c.2.1) 0)
 (.more (.c0 ⟨c.2.2.1,0,c.1,c.2.2.2.1,c.2.2.2.2,0,0,0⟩))
 (.need (A.cmp .leq (A.len c.2.1) 70368744177664) (
 .more (.c1 ⟨c.2.2.1,0,c.1,c.2.2.2.1,c.2.2.2.2,0,0,0,c.2.1⟩)))
def s330 (A:Alg):Y330→LT Cni Y330
 | .c0 p=>
  .br (A.cmp .lss p.a1 (A.len p.a0))
  (.need (A.and (A.cmp .leq 0 p.a1) (A.cmp .lss p.a1 (A.len p.a0))) (
   .need (A.and (A.cmp .leq 0 p.a1) (A.cmp .lss p.a1 (A.len p.a0))) (
   .br (A.cmp .eql (A.len (A.nth yMsg p.a0 p.a1:Msg).1) 0)
    (.eqs (eqI (A.nth yMsg p.a0 p.a1:Msg).2) (
    .eqs (eqV (.iptr yMsg (A.nth yMsg p.a0 p.a1:Msg) 1)) (
     .need (A.and (A.cmp .leq 0 p.a1) (A.cmp .lss p.a1 (A.len p.a0))) (
     .eqs (eqV (.iptr yMsg (A.nth yMsg p.a0 p.a1:Msg) 0)) (
      .eqs (eqI p.a1) (
      .eqs (eqV (.sl yMsg p.a0)) (
       .eqs (eqV (.esl true)) (
       .eqs (eqV (.ptr 0 2)) (
        .eqs (eqV (.esl true)) (
        .eqs (eqV (.ptr 0 2)) (
         .need (A.cmp .leq (A.len ([(([]:List Int),(A.nth yMsg p.a0 p.a1:Msg).2)]:List Msg)) 4264772374403) (
         .more (.c2 ⟨p.a0,p.a2,p.a3,p.a4,p.a5,p.a6,p.a7⟩ (A.bin .add .i64 p.a1 1) [(([]:List Int),(A.nth yMsg p.a0 p.a1:Msg).2)])))))))))))))
    (.need (A.cmp .leq (A.len (A.nth yMsg p.a0 p.a1:Msg).1) 70368744177664) (
    .eqs (eqI (A.nth yMsg p.a0 p.a1:Msg).2) (
     .eqs (eqV (.iptr yMsg (A.nth yMsg p.a0 p.a1:Msg) 1)) (
     .need (A.and (A.cmp .leq 0 p.a1) (A.cmp .lss p.a1 (A.len p.a0))) (
      .eqs (eqV (.iptr yMsg (A.nth yMsg p.a0 p.a1:Msg) 0)) (
      .eqs (eqI p.a1) (
       .eqs (eqV (.sl yMsg p.a0)) (
       .eqs (eqV (.esl true)) (
        .eqs (eqV (.ptr 0 2)) (
        .eqs (eqV (.esl true)) (
         .eqs (eqV (.ptr 0 2)) (
         .need (A.cmp .leq (A.len ([(A.nth yMsg p.a0 p.a1:Msg)]:List Msg)) 4264772374403) (
          .more (.c2 ⟨p.a0,p.a2,p.a3,p.a4,p.a5,p.a6,p.a7⟩ (A.bin .add .i64 p.a1 1) [(A.nth yMsg p.a0 p.a1:Msg)])))))))))))))))))
  (.ret (p.a2,([]:List Int),([]:List Msg),p.a3,p.a4))
 | .c1 p=>
  .br (A.cmp .lss p.b1 (A.len p.b0))
  (.need (A.and (A.cmp .leq 0 p.b1) (A.cmp .lss p.b1 (A.len p.b0))) (
   .need (A.and (A.cmp .leq 0 p.b1) (A.cmp .lss p.b1 (A.len p.b0))) (
   .br (A.cmp .eql (A.len (A.nth yMsg p.b0 p.b1:Msg).1) 0)
    (.eqs (eqI (A.nth yMsg p.b0 p.b1:Msg).2) (
    .eqs (eqV (.iptr yMsg (A.nth yMsg p.b0 p.b1:Msg) 1)) (
     .need (A.and (A.cmp .leq 0 p.b1) (A.cmp .lss p.b1 (A.len p.b0))) (
     .eqs (eqV (.iptr yMsg (A.nth yMsg p.b0 p.b1:Msg) 0)) (
      .eqs (eqI p.b1) (
      .eqs (eqV (.sl yMsg p.b0)) (
       .eqs (eqV (.esl true)) (
       .eqs (eqV (.ptr 0 2)) (
        .eqs (eqV (.esl true)) (
        .eqs (eqV (.ptr 0 2)) (
         .need (A.cmp .leq (A.len ([(([]:List Int),(A.nth yMsg p.b0 p.b1:Msg).2)]:List Msg)) 4264772374403) (
         .more (.c3 ⟨p.b0,p.b2,p.b3,p.b4,p.b5,p.b6,p.b7,p.b8⟩ (A.bin .add .i64 p.b1 1) [(([]:List Int),(A.nth yMsg p.b0 p.b1:Msg).2)])))))))))))))
    (.need (A.cmp .leq (A.len (A.nth yMsg p.b0 p.b1:Msg).1) 70368744177664) (
    .eqs (eqI (A.nth yMsg p.b0 p.b1:Msg).2) (
     .eqs (eqV (.iptr yMsg (A.nth yMsg p.b0 p.b1:Msg) 1)) (
     .need (A.and (A.cmp .leq 0 p.b1) (A.cmp .lss p.b1 (A.len p.b0))) (
      .eqs (eqV (.iptr yMsg (A.nth yMsg p.b0 p.b1:Msg) 0)) (
      .eqs (eqI p.b1) (
       .eqs (eqV (.sl yMsg p.b0)) (
       .eqs (eqV (.esl true)) (
        .eqs (eqV (.ptr 0 2)) (
        .eqs (eqV (.esl true)) (
         .eqs (eqV (.ptr 0 2)) (
         .need (A.cmp .leq (A.len ([(A.nth yMsg p.b0 p.b1:Msg)]:List Msg)) 4264772374403) (
          .more (.c3 ⟨p.b0,p.b2,p.b3,p.b4,p.b5,p.b6,p.b7,p.b8⟩ (A.bin .add .i64 p.b1 1) [(A.nth yMsg p.b0 p.b1:Msg)])))))))))))))))))
  (.ret (p.b2,p.b8,([]:List Msg),p.b3,p.b4))
 | .c2 p c1 c8=>
  .br (A.cmp .lss c1 (A.len p.c0))
  (.need (A.and (A.cmp .leq 0 c1) (A.cmp .lss c1 (A.len p.c0))) (
   .need (A.and (A.cmp .leq 0 c1) (A.cmp .lss c1 (A.len p.c0))) (
   .br (A.cmp .eql (A.len (A.nth yMsg p.c0 c1:Msg).1) 0)
    (.eqs (eqI (A.nth yMsg p.c0 c1:Msg).2) (
    .eqs (eqV (.iptr yMsg (A.nth yMsg p.c0 c1:Msg) 1)) (
     .need (A.and (A.cmp .leq 0 c1) (A.cmp .lss c1 (A.len p.c0))) (
     .eqs (eqV (.iptr yMsg (A.nth yMsg p.c0 c1:Msg) 0)) (
      .eqs (eqI c1) (
      .eqs (eqV (.sl yMsg p.c0)) (
       .eqs (eqV (.own 2)) (
       .eqs (eqV (.ptr 0 2)) (
        .eqs (eqV (.own 2)) (
        .eqs (eqV (.ptr 0 2)) (
         .need (A.cmp .leq (A.len (A.app c8 [(([]:List Int),(A.nth yMsg p.c0 c1:Msg).2)])) 4264772374403) (
         .more (.c2 p (A.bin .add .i64 c1 1) (A.app c8 [(([]:List Int),(A.nth yMsg p.c0 c1:Msg).2)]))))))))))))))
    (.need (A.cmp .leq (A.len (A.nth yMsg p.c0 c1:Msg).1) 70368744177664) (
    .eqs (eqI (A.nth yMsg p.c0 c1:Msg).2) (
     .eqs (eqV (.iptr yMsg (A.nth yMsg p.c0 c1:Msg) 1)) (
     .need (A.and (A.cmp .leq 0 c1) (A.cmp .lss c1 (A.len p.c0))) (
      .eqs (eqV (.iptr yMsg (A.nth yMsg p.c0 c1:Msg) 0)) (
      .eqs (eqI c1) (
       .eqs (eqV (.sl yMsg p.c0)) (
       .eqs (eqV (.own 2)) (
        .eqs (eqV (.ptr 0 2)) (
        .eqs (eqV (.own 2)) (
         .eqs (eqV (.ptr 0 2)) (
         .need (A.cmp .leq (A.len (A.app c8 [(A.nth yMsg p.c0 c1:Msg)])) 4264772374403) (
          .more (.c2 p (A.bin .add .i64 c1 1) (A.app c8 [(A.nth yMsg p.c0 c1:Msg)]))))))))))))))))))
  (.ret (p.c2,([]:List Int),c8,p.c3,p.c4))
 | .c3 p d1 d9=>
  .br (A.cmp .lss d1 (A.len p.d0))
  (.need (A.and (A.cmp .leq 0 d1) (A.cmp .lss d1 (A.len p.d0))) (
   .need (A.and (A.cmp .leq 0 d1) (A.cmp .lss d1 (A.len p.d0))) (
   .br (A.cmp .eql (A.len (A.nth yMsg p.d0 d1:Msg).1) 0)
    (.eqs (eqI (A.nth yMsg p.d0 d1:Msg).2) (
    .eqs (eqV (.iptr yMsg (A.nth yMsg p.d0 d1:Msg) 1)) (
     .need (A.and (A.cmp .leq 0 d1) (A.cmp .lss d1 (A.len p.d0))) (
     .eqs (eqV (.iptr yMsg (A.nth yMsg p.d0 d1:Msg) 0)) (
      .eqs (eqI d1) (
      .eqs (eqV (.sl yMsg p.d0)) (
       .eqs (eqV (.own 3)) (
       .eqs (eqV (.ptr 0 2)) (
        .eqs (eqV (.own 3)) (
        .eqs (eqV (.ptr 0 2)) (
         .need (A.cmp .leq (A.len (A.app d9 [(([]:List Int),(A.nth yMsg p.d0 d1:Msg).2)])) 4264772374403) (
         .more (.c3 p (A.bin .add .i64 d1 1) (A.app d9 [(([]:List Int),(A.nth yMsg p.d0 d1:Msg).2)]))))))))))))))
    (.need (A.cmp .leq (A.len (A.nth yMsg p.d0 d1:Msg).1) 70368744177664) (
    .eqs (eqI (A.nth yMsg p.d0 d1:Msg).2) (
     .eqs (eqV (.iptr yMsg (A.nth yMsg p.d0 d1:Msg) 1)) (
     .need (A.and (A.cmp .leq 0 d1) (A.cmp .lss d1 (A.len p.d0))) (
      .eqs (eqV (.iptr yMsg (A.nth yMsg p.d0 d1:Msg) 0)) (
      .eqs (eqI d1) (
       .eqs (eqV (.sl yMsg p.d0)) (
       .eqs (eqV (.own 3)) (
        .eqs (eqV (.ptr 0 2)) (
        .eqs (eqV (.own 3)) (
         .eqs (eqV (.ptr 0 2)) (
         .need (A.cmp .leq (A.len (A.app d9 [(A.nth yMsg p.d0 d1:Msg)])) 4264772374403) (
          .more (.c3 p (A.bin .add .i64 d1 1) (A.app d9 [(A.nth yMsg p.d0 d1:Msg)]))))))))))))))))))
  (.ret (p.d2,p.d8,d9,p.d3,p.d4))
noncomputable def E330 (A:Alg):Info (Ty.Ts [yCni]):={ti:=tys,fns:=[(38,Tryz.f38)],sps:=[],stops:=[⟨38,5, [[1,2,3,4]]⟩],cuts:=[],consts:=[],fin:=finD A [yCni]}
theorem t330_ok (A:Alg) (c:Cni):run A (E330 A) 37 (startC 38 Tryz.f38 (dvals A [yCni] c))=(t330 A c).tr cfg330:=by kernel_rfl
theorem s330_ok (A:Alg):∀y,∃n,run A (E330 A) n (advance (E330 A).sps (cfg330 y))=(s330 A y).tr cfg330
 | .c0 p=>⟨44,by kernel_rfl⟩
 | .c1 p=>⟨44,by kernel_rfl⟩
 | .c2 p c1 c8=>⟨44,by kernel_rfl⟩
 | .c3 p d1 d9=>⟨44,by kernel_rfl⟩
def w330:Walk Tryz.prog 38 [yCni] [yCni] Y330:=⟨fun c=>t330 std c,s330 std⟩
theorem w330_ok:w330.Ok:=
 walk_ok (E:=E330 std) ⟨tys_fit,fns_cons Tryz.func38 (by kernel_rfl) (fns_nil),sps_nil,by kernel_rfl⟩ rfl rfl rfl (by kernel_rfl) w330 cfg330 37 (fun c=>t330_ok std c) (s330_ok std)
theorem cl330c2 {l:List Msg} {R:Cni} {p:P330c2} (hp:p.c0=l) (hl:l.length≤4264772374402) (hd:∀x∈l,x.1.length≤70368744177664) (hR:Runs (s330 std) (.more (.c2 p (l.length:Int) l)) R):∀(j i:Nat),l.length - i=j→i≤l.length→Runs (s330 std) (.more (.c2 p (i:Int) (l.take i))) R:=by
 intro j
 induction j with
 | zero=>
  intro i hj hi
  have:i=l.length:=by omega
  subst this
  rw [List.take_length]; exact hR
 | succ j ih=>
  intro i hj hi
  have hi':i < l.length:=by omega
  have hm:=ih (i + 1) (by omega) (by omega)
  rw [List.take_succ_eq_append_getElem hi'] at hm
  have hx:=hd _ (List.getElem_mem hi')
  have e:(std.nth yMsg l (i:Int):Msg)=l[i]:=getD_in hi' _
  have hsz:∀x:Msg,std.cmp .leq (std.len (std.app (l.take i) [x])) 4264772374403=true:=fun x=>app_ok (by rw [List.length_take]; omega)
  rw [runs_more,s330]
  simp only [hp,e]
  refine (runs_brT (by rw [lss_len]; simp; omega)).2 (runs_need.2 ⟨need_ix hi',runs_need.2 ⟨need_ix hi',runs_if (p:=(l[i].1.length:Int)=0) eql_dec (fun h=>?_) fun h=>runs_need.2 ⟨len_ok hx,?_⟩⟩⟩)
  ·repeat (first | refine runs_eqs.2 ⟨trivial,?_⟩ | refine runs_eqs.2 ⟨rfl,?_⟩ | refine runs_eqs.2 ⟨⟨rfl,rfl⟩,?_⟩ | refine runs_need.2 ⟨need_ix hi',?_⟩)
   refine runs_need.2 ⟨hsz _,?_⟩
   rw [nil_msg h,inc1 (i:=i) (by omega)]; exact hm
  ·repeat (first | refine runs_eqs.2 ⟨trivial,?_⟩ | refine runs_eqs.2 ⟨rfl,?_⟩ | refine runs_eqs.2 ⟨⟨rfl,rfl⟩,?_⟩ | refine runs_need.2 ⟨need_ix hi',?_⟩)
   refine runs_need.2 ⟨hsz _,?_⟩
   rw [inc1 (i:=i) (by omega)]; exact hm
theorem cl330c0 {l:List Msg} {R:Cni} {p:P330c0} (h0:p.a0=l) (h1:p.a1=0) (hne:0 < l.length) (hl:l.length≤4264772374402) (hd:∀x∈l,x.1.length≤70368744177664) (hR:Runs (s330 std) (.more (.c2 ⟨p.a0,p.a2,p.a3,p.a4,p.a5,p.a6,p.a7⟩ (l.length:Int) l)) R):Runs (s330 std) (.more (.c0 p)) R:=by
 have hm:=cl330c2 (p:=⟨p.a0,p.a2,p.a3,p.a4,p.a5,p.a6,p.a7⟩) h0 hl hd hR (l.length - 1) 1 rfl (by omega)
 rw [List.take_succ_eq_append_getElem hne,List.take_zero,List.nil_append] at hm
 have hx:=hd _ (List.getElem_mem hne)
 have e:(std.nth yMsg l 0:Msg)=l[0]:=getD_in (i:=0) hne _
 have hix:std.and (std.cmp .leq 0 0) (std.cmp .lss 0 (std.len l))=true:=need_ix (i:=0) hne
 have hlt:std.cmp .lss 0 (std.len l)=true:=by have:=lss_len (l:=l) (i:=0); rw [decide_eq_true hne] at this; exact this
 have hsz:∀x:Msg,std.cmp .leq (std.len [x]) 4264772374403=true:=fun x=>rfl
 rw [runs_more,s330]
 simp only [h0,h1,e]
 simp only [h0] at hm
 refine (runs_brT hlt).2 (runs_need.2 ⟨hix,runs_need.2 ⟨hix,runs_if (p:=(l[0].1.length:Int)=0) eql_dec (fun h=>?_) fun h=>runs_need.2 ⟨len_ok hx,?_⟩⟩⟩)
 ·repeat (first | refine runs_eqs.2 ⟨trivial,?_⟩ | refine runs_eqs.2 ⟨rfl,?_⟩ | refine runs_eqs.2 ⟨⟨rfl,rfl⟩,?_⟩ | refine runs_need.2 ⟨hix,?_⟩)
  refine runs_need.2 ⟨hsz _,?_⟩
  rw [nil_msg h]; exact hm
 ·repeat (first | refine runs_eqs.2 ⟨trivial,?_⟩ | refine runs_eqs.2 ⟨rfl,?_⟩ | refine runs_eqs.2 ⟨⟨rfl,rfl⟩,?_⟩ | refine runs_need.2 ⟨hix,?_⟩)
  exact runs_need.2 ⟨hsz _,hm⟩
theorem cl330c3 {l:List Msg} {R:Cni} {p:P330c3} (hp:p.d0=l) (hl:l.length≤4264772374402) (hd:∀x∈l,x.1.length≤70368744177664) (hR:Runs (s330 std) (.more (.c3 p (l.length:Int) l)) R):∀(j i:Nat),l.length - i=j→i≤l.length→Runs (s330 std) (.more (.c3 p (i:Int) (l.take i))) R:=by
 intro j
 induction j with
 | zero=>
  intro i hj hi
  have:i=l.length:=by omega
  subst this
  rw [List.take_length]; exact hR
 | succ j ih=>
  intro i hj hi
  have hi':i < l.length:=by omega
  have hm:=ih (i + 1) (by omega) (by omega)
  rw [List.take_succ_eq_append_getElem hi'] at hm
  have hx:=hd _ (List.getElem_mem hi')
  have e:(std.nth yMsg l (i:Int):Msg)=l[i]:=getD_in hi' _
  have hsz:∀x:Msg,std.cmp .leq (std.len (std.app (l.take i) [x])) 4264772374403=true:=fun x=>app_ok (by rw [List.length_take]; omega)
  rw [runs_more,s330]
  simp only [hp,e]
  refine (runs_brT (by rw [lss_len]; simp; omega)).2 (runs_need.2 ⟨need_ix hi',runs_need.2 ⟨need_ix hi',runs_if (p:=(l[i].1.length:Int)=0) eql_dec (fun h=>?_) fun h=>runs_need.2 ⟨len_ok hx,?_⟩⟩⟩)
  ·repeat (first | refine runs_eqs.2 ⟨trivial,?_⟩ | refine runs_eqs.2 ⟨rfl,?_⟩ | refine runs_eqs.2 ⟨⟨rfl,rfl⟩,?_⟩ | refine runs_need.2 ⟨need_ix hi',?_⟩)
   refine runs_need.2 ⟨hsz _,?_⟩
   rw [nil_msg h,inc1 (i:=i) (by omega)]; exact hm
  ·repeat (first | refine runs_eqs.2 ⟨trivial,?_⟩ | refine runs_eqs.2 ⟨rfl,?_⟩ | refine runs_eqs.2 ⟨⟨rfl,rfl⟩,?_⟩ | refine runs_need.2 ⟨need_ix hi',?_⟩)
   refine runs_need.2 ⟨hsz _,?_⟩
   rw [inc1 (i:=i) (by omega)]; exact hm
theorem cl330c1 {l:List Msg} {R:Cni} {p:P330c1} (h0:p.b0=l) (h1:p.b1=0) (hne:0 < l.length) (hl:l.length≤4264772374402) (hd:∀x∈l,x.1.length≤70368744177664) (hR:Runs (s330 std) (.more (.c3 ⟨p.b0,p.b2,p.b3,p.b4,p.b5,p.b6,p.b7,p.b8⟩ (l.length:Int) l)) R):Runs (s330 std) (.more (.c1 p)) R:=by
 have hm:=cl330c3 (p:=⟨p.b0,p.b2,p.b3,p.b4,p.b5,p.b6,p.b7,p.b8⟩) h0 hl hd hR (l.length - 1) 1 rfl (by omega)
 rw [List.take_succ_eq_append_getElem hne,List.take_zero,List.nil_append] at hm
 have hx:=hd _ (List.getElem_mem hne)
 have e:(std.nth yMsg l 0:Msg)=l[0]:=getD_in (i:=0) hne _
 have hix:std.and (std.cmp .leq 0 0) (std.cmp .lss 0 (std.len l))=true:=need_ix (i:=0) hne
 have hlt:std.cmp .lss 0 (std.len l)=true:=by have:=lss_len (l:=l) (i:=0); rw [decide_eq_true hne] at this; exact this
 have hsz:∀x:Msg,std.cmp .leq (std.len [x]) 4264772374403=true:=fun x=>rfl
 rw [runs_more,s330]
 simp only [h0,h1,e]
 simp only [h0] at hm
 refine (runs_brT hlt).2 (runs_need.2 ⟨hix,runs_need.2 ⟨hix,runs_if (p:=(l[0].1.length:Int)=0) eql_dec (fun h=>?_) fun h=>runs_need.2 ⟨len_ok hx,?_⟩⟩⟩)
 ·repeat (first | refine runs_eqs.2 ⟨trivial,?_⟩ | refine runs_eqs.2 ⟨rfl,?_⟩ | refine runs_eqs.2 ⟨⟨rfl,rfl⟩,?_⟩ | refine runs_need.2 ⟨hix,?_⟩)
  refine runs_need.2 ⟨hsz _,?_⟩
  rw [nil_msg h]; exact hm
 ·repeat (first | refine runs_eqs.2 ⟨trivial,?_⟩ | refine runs_eqs.2 ⟨rfl,?_⟩ | refine runs_eqs.2 ⟨⟨rfl,rfl⟩,?_⟩ | refine runs_need.2 ⟨hix,?_⟩)
  exact runs_need.2 ⟨hsz _,hm⟩
theorem clone1 {c:Cni} (hp:roomB c=true):Runs (s330 std) (t330 std c) c:=by
 obtain ⟨h1,h2,h3⟩:=roomB_iff.1 hp
 obtain ⟨id,out,l,life,want⟩:=c
 unfold t330
 refine runs_if (p:=(out.length:Int)=0) eql_dec (fun h=>?_) fun h=>runs_need.2 ⟨len_ok h1,?_⟩
 ·have ho:out=[]:=List.eq_nil_of_length_eq_zero (by omega)
  subst ho
  cases l with
  | nil=>exact runs_more.2 ((runs_brF rfl).2 (.ret _))
  | cons x l=>exact cl330c0 rfl rfl (Nat.succ_pos _) h2 h3 (runs_more.2 ((runs_brF (by rw [lss_len]; simp)).2 (.ret _)))
 ·cases l with
  | nil=>exact runs_more.2 ((runs_brF rfl).2 (.ret _))
  | cons x l=>exact cl330c1 rfl rfl (Nat.succ_pos _) h2 h3 (runs_more.2 ((runs_brF (by rw [lss_len]; simp)).2 (.ret _)))
def fn330:Cni→Cni:=fun c=>c
def pre330:Cni→Bool:=fun c=>roomB c
def sp330:FSpec:=⟨[yCni], [yCni],pre330,fn330⟩
theorem run330 {c:Cni} (h:Ty.hass [yCni] c) (hp:pre330 c=true):Runs (s330 std) (t330 std c) (fn330 c):=by
 exact clone1 (by simpa [pre330] using hp)
theorem so330:FSpec.Sound Tryz.prog 38 sp330:=
 w330_ok.sound _ _ fun c hp h=>run330 h hp
open Go.Ev.Pl
structure P440c0 where
 (a0 a2:Int) (a3:List Int) (a4:Cni) (a5 a6 a7:Int) (a9:Cni) (a10 a11 a12:Int)
inductive Y440 where
 | c0 (p:P440c0) (a1:Int) (a8:List Msg)
noncomputable def cfg440:Y440→Cfg
 | .c0 p a1 a8=>{frames:=[{fn:=202,n:=44,env:=(Env.put (Env.put (Env.put (Env.put (Env.put .leaf 1 (.ptr 0 0)) 2 (.ptr 1 0)) 5 (.own 2)) 22 (.int .i64 false p.a0)) 23 (.int .i64 false a1)),todo:=[.inLoop (Code.way (bodyOf Tryz.f202) [1,1,1,1,0,1,0,0]),.inBlock 0,.code (Code.way (bodyOf Tryz.f202) [1,1,1,1,1])],marks:=[],rnd:=none},{fn:=194,n:=42,env:=(Env.put (Env.put (Env.put (Env.put .leaf 1 (.int .i64 false p.a2)) 2 (.sl (.int .u8) p.a3)) 3 (.ptr 3 0)) 6 (.ptr 4 0)),todo:=[.ops (opsOf (Code.way (bodyOf Tryz.f194) [1,0])) ((opsOf (Code.way (bodyOf Tryz.f194) [1,0])).toList.drop 1),.code (Code.way (bodyOf Tryz.f194) [1,1])],marks:=[],rnd:=none}],mem:=[.flat false [.int .i64 false p.a4.1,.sl (.int .u8) p.a4.2.1,.sl yMsg p.a4.2.2.1,.int .i64 false p.a4.2.2.2.1,.int .i64 false p.a4.2.2.2.2],.flat false [.int .i64 false p.a5,.esl true,.esl true,.int .i64 false p.a6,.int .i64 false p.a7],.arr false yMsg a8,.flat false [.int .i64 false p.a9.1,.sl (.int .u8) p.a9.2.1,.sl yMsg p.a9.2.2.1,.int .i64 false p.a9.2.2.2.1,.int .i64 false p.a9.2.2.2.2],.flat false [.int .i64 false p.a10,.esl true,.esl true,.int .i64 false p.a11,.int .i64 false p.a12],.dead]}
def t440 (A:Alg) (c:Cni) (slot:Int) (data:List Int):LT (Cni×Int) Y440:=
 .need (A.call (@tt Cni) c) (
 .br (A.cmp .neq (A.call fn389 c) 0)
 (.br (A.cmp .neq (A.call fn389 c) 0)
  (.ret ((0,([]:List Int),([]:List Msg),0,0),(A.call fn389 c)))
  (.need (A.call (@tt (Int×Int×Int)) (slot,0,(A.bin .sub .i64 (A.len c.2.2.1) 1))) (
  .br (A.not (A.call fn442 (slot,0,(A.bin .sub .i64 (A.len c.2.2.1) 1))))
   (.ret ((0,([]:List Int),([]:List Msg),0,0),2))
   (.br (A.cmp .gtr (A.len data) 8)
   (.ret ((0,([]:List Int),([]:List Msg),0,0),3))
   (.need (A.call (@tt (List Int)) data) (
    .bad 37 "cni.go:107"))))))
 (.need (A.and (A.cmp .eql (A.len c.2.2.1) (A.len c.2.2.1)) (A.and (A.cmp .leq 0 (A.len c.2.2.1)) (A.cmp .leq (A.len c.2.2.1) 4264772374403))) (
  .more (.c0 ⟨(A.len (A.spl (A.rep (A.len c.2.2.1) (Ty.dflt yMsg:Msg)) 0 (A.sub c.2.2.1 0 (A.mn (A.len c.2.2.1) (A.len (A.rep (A.len c.2.2.1) (Ty.dflt yMsg:Msg))))))),slot,data,c,0,0,0,c,0,0,0⟩ 0 (A.spl (A.rep (A.len c.2.2.1) (Ty.dflt yMsg:Msg)) 0 (A.sub c.2.2.1 0 (A.mn (A.len c.2.2.1) (A.len (A.rep (A.len c.2.2.1) (Ty.dflt yMsg:Msg))))))))))
def s440 (A:Alg):Y440→LT (Cni×Int) Y440
 | .c0 p a1 a8=>
  .br (A.cmp .lss a1 p.a0)
  (.need (A.and (A.cmp .leq 0 a1) (A.cmp .lss a1 (A.len a8))) (
   .need (A.call (@tt (List Int)) (A.nth yMsg a8 a1:Msg).1) (
   .need (A.and (A.cmp .leq 0 a1) (A.cmp .lss a1 (A.len a8))) (
    .more (.c0 p (A.bin .add .i64 a1 1) (A.set a8 a1 ((A.call fn174 (A.nth yMsg a8 a1:Msg).1),(A.nth yMsg a8 a1:Msg).2)))))))
  (.need (A.call (@tt (List Int)) p.a4.2.1) (
   .need (A.call (@tt (Int×Int×Int)) (p.a2,0,(A.bin .sub .i64 (A.len p.a9.2.2.1) 1))) (
   .br (A.not (A.call fn442 (p.a2,0,(A.bin .sub .i64 (A.len p.a9.2.2.1) 1))))
    (.ret ((0,([]:List Int),([]:List Msg),0,0),2))
    (.br (A.cmp .gtr (A.len p.a3) 8)
    (.ret ((0,([]:List Int),([]:List Msg),0,0),3))
    (.need (A.call (@tt (List Int)) p.a3) (
     .need (A.and (A.cmp .leq 0 p.a2) (A.cmp .lss p.a2 (A.len a8))) (
     .ret ((p.a4.1,(A.call fn174 p.a4.2.1),(A.set a8 p.a2 ((A.call fn174 p.a3),0)),p.a4.2.2.2),0))))))))
noncomputable def E440 (A:Alg):Info (Ty.Ts [yCni,(.int .i64)]):={ti:=tys,fns:=[(194,Tryz.f194),(202,Tryz.f202)],sps:=[(203,sp174),(109,sp389),(196,sp442)],stops:=[⟨202,7, [[1,2,5,22,23], [1,2,3,6]]⟩],cuts:=[],consts:=[],fin:=finD A [yCni,(.int .i64)]}
theorem t440_ok (A:Alg) (c:Cni) (slot:Int) (data:List Int):run A (E440 A) 89 (startC 194 Tryz.f194 (dvals A [yCni,(.int .i64),(.slice (.int .u8))] (c,slot,data)))=(t440 A c slot data).tr cfg440:=by kernel_rfl
theorem s440_ok (A:Alg):∀y,∃n,run A (E440 A) n (advance (E440 A).sps (cfg440 y))=(s440 A y).tr cfg440
 | .c0 p a1 a8=>⟨86,by kernel_rfl⟩
def w440:Walk Tryz.prog 194 [yCni,(.int .i64),(.slice (.int .u8))] [yCni,(.int .i64)] Y440:=⟨fun (c,slot,data)=>t440 std c slot data,s440 std⟩
theorem w440_ok:w440.Ok:=
 walk_ok (E:=E440 std) ⟨tys_fit,fns_cons Tryz.func194 (by kernel_rfl) (fns_cons Tryz.func202 (by kernel_rfl) (fns_nil)),sps_cons so174 (sps_cons so389 (sps_cons so442 (sps_nil))),by kernel_rfl⟩ rfl rfl rfl (by kernel_rfl) w440 cfg440 89 (fun (c,slot,data)=>t440_ok std c slot data) (s440_ok std)
def dlvF (c:Cni) (slot:Int) (data:List Int):Cni×Int:=
 bif cniB c then (bif decide (0≤slot∧slot≤(c.2.2.1.length:Int) - 1) then (bif decide (8 < (data.length:Int)) then (zCni,3) else ((c.1,c.2.1,c.2.2.1.set slot.toNat (data,0),c.2.2.2),0)) else (zCni,2)) else (zCni,120)
def dlvS:Cni×Int×List Int→Cni×Int:=fun (c,slot,data)=>dlvF c slot data
theorem cni_len {c:Cni} (h:cniB c=true):4≤c.2.2.1.length∧c.2.2.1.length≤8∧c.2.1.length≤8∧∀x∈c.2.2.1,x.1.length≤8∧0≤x.2∧x.2≤255:=by
 simp only [cniB,Bool.and_eq_true,decide_eq_true_eq,List.all_eq_true,msgB] at h
 exact ⟨by omega,by omega,by omega,fun x hx=>by have:=h.2.2.2.2.2 x hx; exact ⟨by omega,this.2⟩⟩
theorem own_room {c:Cni} (h:cniB c=true):std.and (std.cmp .eql (std.len c.2.2.1) (std.len c.2.2.1)) (std.and (std.cmp .leq 0 (std.len c.2.2.1)) (std.cmp .leq (std.len c.2.2.1) 4264772374403))=true:=by
 have:=cni_len h
 rw [lenI,std_cmp_eql,std_cmp_leq,std_cmp_leq,std_and,std_and]; simp; omega
theorem set_same {l:List Msg} {i:Nat} (hi:i < l.length):std.set l (i:Int) ((std.call fn174 (std.nth yMsg l (i:Int):Msg).1),(std.nth yMsg l (i:Int):Msg).2)=l:=by
 rw [show (std.nth yMsg l (i:Int):Msg)=l[i] from getD_in hi _]
 show l.set (i:Int).toNat l[i]=l
 rw [Int.toNat_natCast]; exact List.set_getElem_self _
theorem dlv0 {c:Cni} {L slot z1 z2 z3 z4 z5 z6:Int} {data:List Int} {R:Cni×Int} (hl:c.2.2.1.length≤8) (hL:L=(c.2.2.1.length:Int)) (hR:Runs (s440 std) (.more (.c0 ⟨L,slot,data,c,z1,z2,z3,c,z4,z5,z6⟩ (c.2.2.1.length:Int) c.2.2.1)) R) :
  ∀(j i:Nat),c.2.2.1.length - i=j→i≤c.2.2.1.length→Runs (s440 std) (.more (.c0 ⟨L,slot,data,c,z1,z2,z3,c,z4,z5,z6⟩ (i:Int) c.2.2.1)) R:=by
 subst hL
 intro j
 induction j with
 | zero=>
  intro i hj hi
  have:i=c.2.2.1.length:=by omega
  subst this
  exact hR
 | succ j ih=>
  intro i hj hi
  have hi':i < c.2.2.1.length:=by omega
  rw [runs_more,s440]
  refine (runs_brT (by rw [lss_nat]; simp; omega)).2 (runs_need.2 ⟨need_ix hi',runs_need.2 ⟨rfl,runs_need.2 ⟨need_ix hi',?_⟩⟩⟩)
  rw [set_same hi',inc1 (i:=i) (by omega)]
  exact ih (i + 1) (by omega) (by omega)
theorem dlv1 {c:Cni} {slot:Int} {data:List Int}:Runs (s440 std) (t440 std c slot data) (dlvF c slot data):=by
 unfold t440 dlvF
 refine runs_need.2 ⟨rfl,?_⟩
 rw [show std.call fn389 c=cniS c from rfl,cniS]
 cases hc:cniB c
 ·exact (runs_brT rfl).2 ((runs_brT rfl).2 (.ret _))
 ·obtain ⟨h1,h2,_,_⟩:=cni_len hc
  refine (runs_brF rfl).2 (runs_need.2 ⟨own_room hc,runs_c (congrArg (fun z:List Msg=>LT.more (Y440.c0 ⟨std.len z,slot,data,c,0,0,0,c,0,0,0⟩ 0 z)) spl_all) (dlv0 h2 rfl ?_ c.2.2.1.length 0 rfl (by omega))⟩)
  rw [runs_more,s440]
  have hs:std.bin .sub .i64 (c.2.2.1.length:Int) 1=(c.2.2.1.length:Int) - 1:=by rw [std_sub,w64 (by omega) (by omega)]
  refine (runs_brF (by rw [lss_nat]; simp)).2 (runs_need.2 ⟨rfl,runs_need.2 ⟨rfl,?_⟩⟩)
  rw [wt442]
  simp only [lenI,hs]
  refine runs_in (fun h=>?_) fun h3=>runs_if (p:=8 < (data.length:Int)) rfl (fun h=>?_) fun h4=>runs_need.2 ⟨rfl,runs_need.2 ⟨?_,?_⟩⟩
  ·rw [decide_eq_false h]; exact .ret _
  ·rw [decide_eq_true h3,decide_eq_true h]; exact .ret _
  ·rw [std_cmp_leq,std_cmp_lss,std_and]; simp; omega
  ·rw [decide_eq_true h3,decide_eq_false h4]; exact .ret _
def fn440:(Cni×Int×List Int)→(Cni×Int):=dlvS
def sp440:FSpec:=⟨[yCni,(.int .i64),(.slice (.int .u8))], [yCni,(.int .i64)],(@tt (Cni×Int×List Int)),fn440⟩
theorem run440 {c:Cni} {slot:Int} {data:List Int} (h:Ty.hass [yCni,(.int .i64),(.slice (.int .u8))] (c,slot,data)):Runs (s440 std) (t440 std c slot data) (fn440 (c,slot,data)):=by
 exact dlv1
theorem so440:FSpec.Sound Tryz.prog 194 sp440:=
 w440_ok.sound _ _ fun (c,slot,data) _ h=>run440 h
open Go.Ev.Pl
structure P437c0 where
 (a0:List Msg) (a1 a2:Int) (a3:List Int) (a4 a5 a6 a7 a8 a9:Int) (a10:Cni) (a11 a12 a13:Int)
structure P437c1 where
 (b0:List Msg) (b1 b2:Int) (b3:List Int) (b4 b5 b6 b7 b8 b9:Int) (b10:Cni) (b11 b12 b13:Int) (b14:List Int)
structure P437c2 where
 (c0:List Msg) (c2:Int) (c3:List Int) (c4 c5 c6 c7 c8 c9:Int) (c10:Cni) (c11 c12 c13:Int)
structure P437c3 where
 (d0:List Msg) (d2:Int) (d3:List Int) (d4 d5 d6 d7 d8 d9:Int) (d10:Cni) (d11 d12 d13:Int) (d14:List Int)
inductive Y437 where
 | c0 (p:P437c0)
 | c1 (p:P437c1)
 | c2 (p:P437c2) (c1:Int) (c14:List Msg)
 | c3 (p:P437c3) (d1:Int) (d15:List Msg)
noncomputable def cfg437:Y437→Cfg
 | .c0 p=>{frames:=[{fn:=38,n:=36,env:=(Env.put (Env.put (Env.put (Env.put .leaf 1 (.ptr 0 0)) 2 (.ptr 1 0)) 3 (.sl yMsg p.a0)) 4 (.int .i64 false p.a1)),todo:=[.inLoop (Code.way (bodyOf Tryz.f38) [1,1,1,1,0,1,0,0]),.inBlock 0,.code (Code.way (bodyOf Tryz.f38) [1,1,1,1,1])],marks:=[],rnd:=none},{fn:=191,n:=39,env:=(Env.put (Env.put (Env.put (Env.put .leaf 1 (.int .i64 false p.a2)) 2 (.sl (.int .u8) p.a3)) 3 (.ptr 2 0)) 6 (.ptr 3 0)),todo:=[.ops (opsOf (Code.way (bodyOf Tryz.f191) [1,1,1,1,0])) ((opsOf (Code.way (bodyOf Tryz.f191) [1,1,1,1,0])).toList.drop 1),.code (Code.way (bodyOf Tryz.f191) [1,1,1,1,1])],marks:=[],rnd:=none}],mem:=[.flat false [.int .i64 false p.a4,.esl true,.esl true,.int .i64 false p.a5,.int .i64 false p.a6],.flat false [.int .i64 false p.a7,.esl true,.esl true,.int .i64 false p.a8,.int .i64 false p.a9],.flat false [.int .i64 false p.a10.1,.sl (.int .u8) p.a10.2.1,.sl yMsg p.a10.2.2.1,.int .i64 false p.a10.2.2.2.1,.int .i64 false p.a10.2.2.2.2],.flat false [.int .i64 false p.a11,.esl true,.esl true,.int .i64 false p.a12,.int .i64 false p.a13],.dead]}
 | .c1 p=>{frames:=[{fn:=38,n:=36,env:=(Env.put (Env.put (Env.put (Env.put .leaf 1 (.ptr 0 0)) 2 (.ptr 1 0)) 3 (.sl yMsg p.b0)) 4 (.int .i64 false p.b1)),todo:=[.inLoop (Code.way (bodyOf Tryz.f38) [1,1,1,1,0,1,0,0]),.inBlock 0,.code (Code.way (bodyOf Tryz.f38) [1,1,1,1,1])],marks:=[],rnd:=none},{fn:=191,n:=39,env:=(Env.put (Env.put (Env.put (Env.put .leaf 1 (.int .i64 false p.b2)) 2 (.sl (.int .u8) p.b3)) 3 (.ptr 2 0)) 6 (.ptr 3 0)),todo:=[.ops (opsOf (Code.way (bodyOf Tryz.f191) [1,1,1,1,0])) ((opsOf (Code.way (bodyOf Tryz.f191) [1,1,1,1,0])).toList.drop 1),.code (Code.way (bodyOf Tryz.f191) [1,1,1,1,1])],marks:=[],rnd:=none}],mem:=[.flat false [.int .i64 false p.b4,.own 4,.esl true,.int .i64 false p.b5,.int .i64 false p.b6],.flat false [.int .i64 false p.b7,.esl true,.esl true,.int .i64 false p.b8,.int .i64 false p.b9],.flat false [.int .i64 false p.b10.1,.sl (.int .u8) p.b10.2.1,.sl yMsg p.b10.2.2.1,.int .i64 false p.b10.2.2.2.1,.int .i64 false p.b10.2.2.2.2],.flat false [.int .i64 false p.b11,.esl true,.esl true,.int .i64 false p.b12,.int .i64 false p.b13],.arr false (.int .u8) p.b14,.dead]}
 | .c2 p c1 c14=>{frames:=[{fn:=38,n:=36,env:=(Env.put (Env.put (Env.put (Env.put .leaf 1 (.ptr 0 0)) 2 (.ptr 1 0)) 3 (.sl yMsg p.c0)) 4 (.int .i64 false c1)),todo:=[.inLoop (Code.way (bodyOf Tryz.f38) [1,1,1,1,0,1,0,0]),.inBlock 0,.code (Code.way (bodyOf Tryz.f38) [1,1,1,1,1])],marks:=[],rnd:=none},{fn:=191,n:=39,env:=(Env.put (Env.put (Env.put (Env.put .leaf 1 (.int .i64 false p.c2)) 2 (.sl (.int .u8) p.c3)) 3 (.ptr 2 0)) 6 (.ptr 3 0)),todo:=[.ops (opsOf (Code.way (bodyOf Tryz.f191) [1,1,1,1,0])) ((opsOf (Code.way (bodyOf Tryz.f191) [1,1,1,1,0])).toList.drop 1),.code (Code.way (bodyOf Tryz.f191) [1,1,1,1,1])],marks:=[],rnd:=none}],mem:=[.flat false [.int .i64 false p.c4,.esl true,.own 4,.int .i64 false p.c5,.int .i64 false p.c6],.flat false [.int .i64 false p.c7,.esl true,.esl true,.int .i64 false p.c8,.int .i64 false p.c9],.flat false [.int .i64 false p.c10.1,.sl (.int .u8) p.c10.2.1,.sl yMsg p.c10.2.2.1,.int .i64 false p.c10.2.2.2.1,.int .i64 false p.c10.2.2.2.2],.flat false [.int .i64 false p.c11,.esl true,.esl true,.int .i64 false p.c12,.int .i64 false p.c13],.arr false yMsg c14,.dead]}
 | .c3 p d1 d15=>{frames:=[{fn:=38,n:=36,env:=(Env.put (Env.put (Env.put (Env.put .leaf 1 (.ptr 0 0)) 2 (.ptr 1 0)) 3 (.sl yMsg p.d0)) 4 (.int .i64 false d1)),todo:=[.inLoop (Code.way (bodyOf Tryz.f38) [1,1,1,1,0,1,0,0]),.inBlock 0,.code (Code.way (bodyOf Tryz.f38) [1,1,1,1,1])],marks:=[],rnd:=none},{fn:=191,n:=39,env:=(Env.put (Env.put (Env.put (Env.put .leaf 1 (.int .i64 false p.d2)) 2 (.sl (.int .u8) p.d3)) 3 (.ptr 2 0)) 6 (.ptr 3 0)),todo:=[.ops (opsOf (Code.way (bodyOf Tryz.f191) [1,1,1,1,0])) ((opsOf (Code.way (bodyOf Tryz.f191) [1,1,1,1,0])).toList.drop 1),.code (Code.way (bodyOf Tryz.f191) [1,1,1,1,1])],marks:=[],rnd:=none}],mem:=[.flat false [.int .i64 false p.d4,.own 4,.own 5,.int .i64 false p.d5,.int .i64 false p.d6],.flat false [.int .i64 false p.d7,.esl true,.esl true,.int .i64 false p.d8,.int .i64 false p.d9],.flat false [.int .i64 false p.d10.1,.sl (.int .u8) p.d10.2.1,.sl yMsg p.d10.2.2.1,.int .i64 false p.d10.2.2.2.1,.int .i64 false p.d10.2.2.2.2],.flat false [.int .i64 false p.d11,.esl true,.esl true,.int .i64 false p.d12,.int .i64 false p.d13],.arr false (.int .u8) p.d14,.arr false yMsg d15,.dead]}
def t437 (A:Alg) (c:Cni) (slot:Int) (data:List Int):LT (Cni×Int) Y437:=
 .need (A.call (@tt Cni) c) (
 .br (A.cmp .neq (A.call fn391 c) 0)
 (.ret ((0,([]:List Int),([]:List Msg),0,0),(A.call fn391 c)))
 (.br (A.cmp .lss slot 0)
  (.ret ((0,([]:List Int),([]:List Msg),0,0),2))
  (.br (A.cmp .geq slot (A.len c.2.2.1))
  (.ret ((0,([]:List Int),([]:List Msg),0,0),2))
  (.br (A.cmp .gtr (A.len data) 8)
   (.ret ((0,([]:List Int),([]:List Msg),0,0),3))
   (.br (A.cmp .eql (A.len c.2.1) 0)
   (.more (.c0 ⟨c.2.2.1,0,slot,data,c.1,c.2.2.2.1,c.2.2.2.2,0,0,0,c,0,0,0⟩))
   (.need (A.cmp .leq (A.len c.2.1) 70368744177664) (
    .more (.c1 ⟨c.2.2.1,0,slot,data,c.1,c.2.2.2.1,c.2.2.2.2,0,0,0,c,0,0,0,c.2.1⟩))))))))
def s437 (A:Alg):Y437→LT (Cni×Int) Y437
 | .c0 p=>
  .br (A.cmp .lss p.a1 (A.len p.a0))
  (.need (A.and (A.cmp .leq 0 p.a1) (A.cmp .lss p.a1 (A.len p.a0))) (
   .need (A.and (A.cmp .leq 0 p.a1) (A.cmp .lss p.a1 (A.len p.a0))) (
   .br (A.cmp .eql (A.len (A.nth yMsg p.a0 p.a1:Msg).1) 0)
    (.eqs (eqI (A.nth yMsg p.a0 p.a1:Msg).2) (
    .eqs (eqV (.iptr yMsg (A.nth yMsg p.a0 p.a1:Msg) 1)) (
     .need (A.and (A.cmp .leq 0 p.a1) (A.cmp .lss p.a1 (A.len p.a0))) (
     .eqs (eqV (.iptr yMsg (A.nth yMsg p.a0 p.a1:Msg) 0)) (
      .eqs (eqI p.a1) (
      .eqs (eqV (.sl yMsg p.a0)) (
       .eqs (eqV (.esl true)) (
       .eqs (eqV (.ptr 0 2)) (
        .eqs (eqV (.esl true)) (
        .eqs (eqV (.ptr 0 2)) (
         .need (A.cmp .leq (A.len ([(([]:List Int),(A.nth yMsg p.a0 p.a1:Msg).2)]:List Msg)) 4264772374403) (
         .more (.c2 ⟨p.a0,p.a2,p.a3,p.a4,p.a5,p.a6,p.a7,p.a8,p.a9,p.a10,p.a11,p.a12,p.a13⟩ (A.bin .add .i64 p.a1 1) [(([]:List Int),(A.nth yMsg p.a0 p.a1:Msg).2)])))))))))))))
    (.need (A.cmp .leq (A.len (A.nth yMsg p.a0 p.a1:Msg).1) 70368744177664) (
    .eqs (eqI (A.nth yMsg p.a0 p.a1:Msg).2) (
     .eqs (eqV (.iptr yMsg (A.nth yMsg p.a0 p.a1:Msg) 1)) (
     .need (A.and (A.cmp .leq 0 p.a1) (A.cmp .lss p.a1 (A.len p.a0))) (
      .eqs (eqV (.iptr yMsg (A.nth yMsg p.a0 p.a1:Msg) 0)) (
      .eqs (eqI p.a1) (
       .eqs (eqV (.sl yMsg p.a0)) (
       .eqs (eqV (.esl true)) (
        .eqs (eqV (.ptr 0 2)) (
        .eqs (eqV (.esl true)) (
         .eqs (eqV (.ptr 0 2)) (
         .need (A.cmp .leq (A.len ([(A.nth yMsg p.a0 p.a1:Msg)]:List Msg)) 4264772374403) (
          .more (.c2 ⟨p.a0,p.a2,p.a3,p.a4,p.a5,p.a6,p.a7,p.a8,p.a9,p.a10,p.a11,p.a12,p.a13⟩ (A.bin .add .i64 p.a1 1) [(A.nth yMsg p.a0 p.a1:Msg)])))))))))))))))))
  (.br (A.cmp .eql (A.len p.a3) 0)
   (.eqs (eqI p.a2) (
   .eqs (eqV (.esl true)) (
    .eqs (eqV (.ptr 2 2)) (
    .bad 37 "ref.go:106"))))
   (.need (A.cmp .leq (A.len p.a3) 70368744177664) (
   .eqs (eqI p.a2) (
    .eqs (eqV (.esl true)) (
    .eqs (eqV (.ptr 2 2)) (
     .bad 37 "ref.go:106"))))))
 | .c1 p=>
  .br (A.cmp .lss p.b1 (A.len p.b0))
  (.need (A.and (A.cmp .leq 0 p.b1) (A.cmp .lss p.b1 (A.len p.b0))) (
   .need (A.and (A.cmp .leq 0 p.b1) (A.cmp .lss p.b1 (A.len p.b0))) (
   .br (A.cmp .eql (A.len (A.nth yMsg p.b0 p.b1:Msg).1) 0)
    (.eqs (eqI (A.nth yMsg p.b0 p.b1:Msg).2) (
    .eqs (eqV (.iptr yMsg (A.nth yMsg p.b0 p.b1:Msg) 1)) (
     .need (A.and (A.cmp .leq 0 p.b1) (A.cmp .lss p.b1 (A.len p.b0))) (
     .eqs (eqV (.iptr yMsg (A.nth yMsg p.b0 p.b1:Msg) 0)) (
      .eqs (eqI p.b1) (
      .eqs (eqV (.sl yMsg p.b0)) (
       .eqs (eqV (.esl true)) (
       .eqs (eqV (.ptr 0 2)) (
        .eqs (eqV (.esl true)) (
        .eqs (eqV (.ptr 0 2)) (
         .need (A.cmp .leq (A.len ([(([]:List Int),(A.nth yMsg p.b0 p.b1:Msg).2)]:List Msg)) 4264772374403) (
         .more (.c3 ⟨p.b0,p.b2,p.b3,p.b4,p.b5,p.b6,p.b7,p.b8,p.b9,p.b10,p.b11,p.b12,p.b13,p.b14⟩ (A.bin .add .i64 p.b1 1) [(([]:List Int),(A.nth yMsg p.b0 p.b1:Msg).2)])))))))))))))
    (.need (A.cmp .leq (A.len (A.nth yMsg p.b0 p.b1:Msg).1) 70368744177664) (
    .eqs (eqI (A.nth yMsg p.b0 p.b1:Msg).2) (
     .eqs (eqV (.iptr yMsg (A.nth yMsg p.b0 p.b1:Msg) 1)) (
     .need (A.and (A.cmp .leq 0 p.b1) (A.cmp .lss p.b1 (A.len p.b0))) (
      .eqs (eqV (.iptr yMsg (A.nth yMsg p.b0 p.b1:Msg) 0)) (
      .eqs (eqI p.b1) (
       .eqs (eqV (.sl yMsg p.b0)) (
       .eqs (eqV (.esl true)) (
        .eqs (eqV (.ptr 0 2)) (
        .eqs (eqV (.esl true)) (
         .eqs (eqV (.ptr 0 2)) (
         .need (A.cmp .leq (A.len ([(A.nth yMsg p.b0 p.b1:Msg)]:List Msg)) 4264772374403) (
          .more (.c3 ⟨p.b0,p.b2,p.b3,p.b4,p.b5,p.b6,p.b7,p.b8,p.b9,p.b10,p.b11,p.b12,p.b13,p.b14⟩ (A.bin .add .i64 p.b1 1) [(A.nth yMsg p.b0 p.b1:Msg)])))))))))))))))))
  (.br (A.cmp .eql (A.len p.b3) 0)
   (.eqs (eqI p.b2) (
   .eqs (eqV (.esl true)) (
    .eqs (eqV (.ptr 2 2)) (
    .bad 37 "ref.go:106"))))
   (.need (A.cmp .leq (A.len p.b3) 70368744177664) (
   .eqs (eqI p.b2) (
    .eqs (eqV (.esl true)) (
    .eqs (eqV (.ptr 2 2)) (
     .bad 37 "ref.go:106"))))))
 | .c2 p c1 c14=>
  .br (A.cmp .lss c1 (A.len p.c0))
  (.need (A.and (A.cmp .leq 0 c1) (A.cmp .lss c1 (A.len p.c0))) (
   .need (A.and (A.cmp .leq 0 c1) (A.cmp .lss c1 (A.len p.c0))) (
   .br (A.cmp .eql (A.len (A.nth yMsg p.c0 c1:Msg).1) 0)
    (.eqs (eqI (A.nth yMsg p.c0 c1:Msg).2) (
    .eqs (eqV (.iptr yMsg (A.nth yMsg p.c0 c1:Msg) 1)) (
     .need (A.and (A.cmp .leq 0 c1) (A.cmp .lss c1 (A.len p.c0))) (
     .eqs (eqV (.iptr yMsg (A.nth yMsg p.c0 c1:Msg) 0)) (
      .eqs (eqI c1) (
      .eqs (eqV (.sl yMsg p.c0)) (
       .eqs (eqV (.own 4)) (
       .eqs (eqV (.ptr 0 2)) (
        .eqs (eqV (.own 4)) (
        .eqs (eqV (.ptr 0 2)) (
         .need (A.cmp .leq (A.len (A.app c14 [(([]:List Int),(A.nth yMsg p.c0 c1:Msg).2)])) 4264772374403) (
         .more (.c2 p (A.bin .add .i64 c1 1) (A.app c14 [(([]:List Int),(A.nth yMsg p.c0 c1:Msg).2)]))))))))))))))
    (.need (A.cmp .leq (A.len (A.nth yMsg p.c0 c1:Msg).1) 70368744177664) (
    .eqs (eqI (A.nth yMsg p.c0 c1:Msg).2) (
     .eqs (eqV (.iptr yMsg (A.nth yMsg p.c0 c1:Msg) 1)) (
     .need (A.and (A.cmp .leq 0 c1) (A.cmp .lss c1 (A.len p.c0))) (
      .eqs (eqV (.iptr yMsg (A.nth yMsg p.c0 c1:Msg) 0)) (
      .eqs (eqI c1) (
       .eqs (eqV (.sl yMsg p.c0)) (
       .eqs (eqV (.own 4)) (
        .eqs (eqV (.ptr 0 2)) (
        .eqs (eqV (.own 4)) (
         .eqs (eqV (.ptr 0 2)) (
         .need (A.cmp .leq (A.len (A.app c14 [(A.nth yMsg p.c0 c1:Msg)])) 4264772374403) (
          .more (.c2 p (A.bin .add .i64 c1 1) (A.app c14 [(A.nth yMsg p.c0 c1:Msg)]))))))))))))))))))
  (.br (A.cmp .eql (A.len p.c3) 0)
   (.eqs (eqI p.c2) (
   .eqs (eqV (.own 4)) (
    .eqs (eqV (.ptr 2 2)) (
    .need (A.and (A.cmp .leq 0 p.c2) (A.cmp .lss p.c2 (A.len c14))) (
     .ret ((p.c4,([]:List Int),(A.set c14 p.c2 (([]:List Int),0)),p.c5,p.c6),0))))))
   (.need (A.cmp .leq (A.len p.c3) 70368744177664) (
   .eqs (eqI p.c2) (
    .eqs (eqV (.own 4)) (
    .eqs (eqV (.ptr 2 2)) (
     .need (A.and (A.cmp .leq 0 p.c2) (A.cmp .lss p.c2 (A.len c14))) (
     .ret ((p.c4,([]:List Int),(A.set c14 p.c2 (p.c3,0)),p.c5,p.c6),0))))))))
 | .c3 p d1 d15=>
  .br (A.cmp .lss d1 (A.len p.d0))
  (.need (A.and (A.cmp .leq 0 d1) (A.cmp .lss d1 (A.len p.d0))) (
   .need (A.and (A.cmp .leq 0 d1) (A.cmp .lss d1 (A.len p.d0))) (
   .br (A.cmp .eql (A.len (A.nth yMsg p.d0 d1:Msg).1) 0)
    (.eqs (eqI (A.nth yMsg p.d0 d1:Msg).2) (
    .eqs (eqV (.iptr yMsg (A.nth yMsg p.d0 d1:Msg) 1)) (
     .need (A.and (A.cmp .leq 0 d1) (A.cmp .lss d1 (A.len p.d0))) (
     .eqs (eqV (.iptr yMsg (A.nth yMsg p.d0 d1:Msg) 0)) (
      .eqs (eqI d1) (
      .eqs (eqV (.sl yMsg p.d0)) (
       .eqs (eqV (.own 5)) (
       .eqs (eqV (.ptr 0 2)) (
        .eqs (eqV (.own 5)) (
        .eqs (eqV (.ptr 0 2)) (
         .need (A.cmp .leq (A.len (A.app d15 [(([]:List Int),(A.nth yMsg p.d0 d1:Msg).2)])) 4264772374403) (
         .more (.c3 p (A.bin .add .i64 d1 1) (A.app d15 [(([]:List Int),(A.nth yMsg p.d0 d1:Msg).2)]))))))))))))))
    (.need (A.cmp .leq (A.len (A.nth yMsg p.d0 d1:Msg).1) 70368744177664) (
    .eqs (eqI (A.nth yMsg p.d0 d1:Msg).2) (
     .eqs (eqV (.iptr yMsg (A.nth yMsg p.d0 d1:Msg) 1)) (
     .need (A.and (A.cmp .leq 0 d1) (A.cmp .lss d1 (A.len p.d0))) (
      .eqs (eqV (.iptr yMsg (A.nth yMsg p.d0 d1:Msg) 0)) (
      .eqs (eqI d1) (
       .eqs (eqV (.sl yMsg p.d0)) (
       .eqs (eqV (.own 5)) (
        .eqs (eqV (.ptr 0 2)) (
        .eqs (eqV (.own 5)) (
         .eqs (eqV (.ptr 0 2)) (
         .need (A.cmp .leq (A.len (A.app d15 [(A.nth yMsg p.d0 d1:Msg)])) 4264772374403) (
          .more (.c3 p (A.bin .add .i64 d1 1) (A.app d15 [(A.nth yMsg p.d0 d1:Msg)]))))))))))))))))))
  (.br (A.cmp .eql (A.len p.d3) 0)
   (.eqs (eqI p.d2) (
   .eqs (eqV (.own 5)) (
    .eqs (eqV (.ptr 2 2)) (
    .need (A.and (A.cmp .leq 0 p.d2) (A.cmp .lss p.d2 (A.len d15))) (
     .ret ((p.d4,p.d14,(A.set d15 p.d2 (([]:List Int),0)),p.d5,p.d6),0))))))
   (.need (A.cmp .leq (A.len p.d3) 70368744177664) (
   .eqs (eqI p.d2) (
    .eqs (eqV (.own 5)) (
    .eqs (eqV (.ptr 2 2)) (
     .need (A.and (A.cmp .leq 0 p.d2) (A.cmp .lss p.d2 (A.len d15))) (
     .ret ((p.d4,p.d14,(A.set d15 p.d2 (p.d3,0)),p.d5,p.d6),0))))))))
noncomputable def E437 (A:Alg):Info (Ty.Ts [yCni,(.int .i64)]):={ti:=tys,fns:=[(38,Tryz.f38),(191,Tryz.f191)],sps:=[(112,sp391)],stops:=[⟨38,5, [[1,2,3,4], [1,2,3,6]]⟩],cuts:=[],consts:=[],fin:=finD A [yCni,(.int .i64)]}
theorem t437_ok (A:Alg) (c:Cni) (slot:Int) (data:List Int):run A (E437 A) 85 (startC 191 Tryz.f191 (dvals A [yCni,(.int .i64),(.slice (.int .u8))] (c,slot,data)))=(t437 A c slot data).tr cfg437:=by kernel_rfl
theorem s437_ok (A:Alg):∀y,∃n,run A (E437 A) n (advance (E437 A).sps (cfg437 y))=(s437 A y).tr cfg437
 | .c0 p=>⟨44,by kernel_rfl⟩
 | .c1 p=>⟨44,by kernel_rfl⟩
 | .c2 p c1 c14=>⟨44,by kernel_rfl⟩
 | .c3 p d1 d15=>⟨44,by kernel_rfl⟩
def w437:Walk Tryz.prog 191 [yCni,(.int .i64),(.slice (.int .u8))] [yCni,(.int .i64)] Y437:=⟨fun (c,slot,data)=>t437 std c slot data,s437 std⟩
theorem w437_ok:w437.Ok:=
 walk_ok (E:=E437 std) ⟨tys_fit,fns_cons Tryz.func38 (by kernel_rfl) (fns_cons Tryz.func191 (by kernel_rfl) (fns_nil)),sps_cons so391 (sps_nil),by kernel_rfl⟩ rfl rfl rfl (by kernel_rfl) w437 cfg437 85 (fun (c,slot,data)=>t437_ok std c slot data) (s437_ok std)
theorem cl437c2 {l:List Msg} {R:(Cni×Int)} {p:P437c2} (hp:p.c0=l) (hl:l.length≤4264772374402) (hd:∀x∈l,x.1.length≤70368744177664) (hR:Runs (s437 std) (.more (.c2 p (l.length:Int) l)) R):∀(j i:Nat),l.length - i=j→i≤l.length→Runs (s437 std) (.more (.c2 p (i:Int) (l.take i))) R:=by
 intro j
 induction j with
 | zero=>
  intro i hj hi
  have:i=l.length:=by omega
  subst this
  rw [List.take_length]; exact hR
 | succ j ih=>
  intro i hj hi
  have hi':i < l.length:=by omega
  have hm:=ih (i + 1) (by omega) (by omega)
  rw [List.take_succ_eq_append_getElem hi'] at hm
  have hx:=hd _ (List.getElem_mem hi')
  have e:(std.nth yMsg l (i:Int):Msg)=l[i]:=getD_in hi' _
  have hsz:∀x:Msg,std.cmp .leq (std.len (std.app (l.take i) [x])) 4264772374403=true:=fun x=>app_ok (by rw [List.length_take]; omega)
  rw [runs_more,s437]
  simp only [hp,e]
  refine (runs_brT (by rw [lss_len]; simp; omega)).2 (runs_need.2 ⟨need_ix hi',runs_need.2 ⟨need_ix hi',runs_if (p:=(l[i].1.length:Int)=0) eql_dec (fun h=>?_) fun h=>runs_need.2 ⟨len_ok hx,?_⟩⟩⟩)
  ·repeat (first | refine runs_eqs.2 ⟨trivial,?_⟩ | refine runs_eqs.2 ⟨rfl,?_⟩ | refine runs_eqs.2 ⟨⟨rfl,rfl⟩,?_⟩ | refine runs_need.2 ⟨need_ix hi',?_⟩)
   refine runs_need.2 ⟨hsz _,?_⟩
   rw [nil_msg h,inc1 (i:=i) (by omega)]; exact hm
  ·repeat (first | refine runs_eqs.2 ⟨trivial,?_⟩ | refine runs_eqs.2 ⟨rfl,?_⟩ | refine runs_eqs.2 ⟨⟨rfl,rfl⟩,?_⟩ | refine runs_need.2 ⟨need_ix hi',?_⟩)
   refine runs_need.2 ⟨hsz _,?_⟩
   rw [inc1 (i:=i) (by omega)]; exact hm
theorem cl437c0 {l:List Msg} {R:(Cni×Int)} {p:P437c0} (h0:p.a0=l) (h1:p.a1=0) (hne:0 < l.length) (hl:l.length≤4264772374402) (hd:∀x∈l,x.1.length≤70368744177664) (hR:Runs (s437 std) (.more (.c2 ⟨p.a0,p.a2,p.a3,p.a4,p.a5,p.a6,p.a7,p.a8,p.a9,p.a10,p.a11,p.a12,p.a13⟩ (l.length:Int) l)) R):Runs (s437 std) (.more (.c0 p)) R:=by
 have hm:=cl437c2 (p:=⟨p.a0,p.a2,p.a3,p.a4,p.a5,p.a6,p.a7,p.a8,p.a9,p.a10,p.a11,p.a12,p.a13⟩) h0 hl hd hR (l.length - 1) 1 rfl (by omega)
 rw [List.take_succ_eq_append_getElem hne,List.take_zero,List.nil_append] at hm
 have hx:=hd _ (List.getElem_mem hne)
 have e:(std.nth yMsg l 0:Msg)=l[0]:=getD_in (i:=0) hne _
 have hix:std.and (std.cmp .leq 0 0) (std.cmp .lss 0 (std.len l))=true:=need_ix (i:=0) hne
 have hlt:std.cmp .lss 0 (std.len l)=true:=by have:=lss_len (l:=l) (i:=0); rw [decide_eq_true hne] at this; exact this
 have hsz:∀x:Msg,std.cmp .leq (std.len [x]) 4264772374403=true:=fun x=>rfl
 rw [runs_more,s437]
 simp only [h0,h1,e]
 simp only [h0] at hm
 refine (runs_brT hlt).2 (runs_need.2 ⟨hix,runs_need.2 ⟨hix,runs_if (p:=(l[0].1.length:Int)=0) eql_dec (fun h=>?_) fun h=>runs_need.2 ⟨len_ok hx,?_⟩⟩⟩)
 ·repeat (first | refine runs_eqs.2 ⟨trivial,?_⟩ | refine runs_eqs.2 ⟨rfl,?_⟩ | refine runs_eqs.2 ⟨⟨rfl,rfl⟩,?_⟩ | refine runs_need.2 ⟨hix,?_⟩)
  refine runs_need.2 ⟨hsz _,?_⟩
  rw [nil_msg h]; exact hm
 ·repeat (first | refine runs_eqs.2 ⟨trivial,?_⟩ | refine runs_eqs.2 ⟨rfl,?_⟩ | refine runs_eqs.2 ⟨⟨rfl,rfl⟩,?_⟩ | refine runs_need.2 ⟨hix,?_⟩)
  exact runs_need.2 ⟨hsz _,hm⟩
theorem cl437c3 {l:List Msg} {R:(Cni×Int)} {p:P437c3} (hp:p.d0=l) (hl:l.length≤4264772374402) (hd:∀x∈l,x.1.length≤70368744177664) (hR:Runs (s437 std) (.more (.c3 p (l.length:Int) l)) R):∀(j i:Nat),l.length - i=j→i≤l.length→Runs (s437 std) (.more (.c3 p (i:Int) (l.take i))) R:=by
 intro j
 induction j with
 | zero=>
  intro i hj hi
  have:i=l.length:=by omega
  subst this
  rw [List.take_length]; exact hR
 | succ j ih=>
  intro i hj hi
  have hi':i < l.length:=by omega
  have hm:=ih (i + 1) (by omega) (by omega)
  rw [List.take_succ_eq_append_getElem hi'] at hm
  have hx:=hd _ (List.getElem_mem hi')
  have e:(std.nth yMsg l (i:Int):Msg)=l[i]:=getD_in hi' _
  have hsz:∀x:Msg,std.cmp .leq (std.len (std.app (l.take i) [x])) 4264772374403=true:=fun x=>app_ok (by rw [List.length_take]; omega)
  rw [runs_more,s437]
  simp only [hp,e]
  refine (runs_brT (by rw [lss_len]; simp; omega)).2 (runs_need.2 ⟨need_ix hi',runs_need.2 ⟨need_ix hi',runs_if (p:=(l[i].1.length:Int)=0) eql_dec (fun h=>?_) fun h=>runs_need.2 ⟨len_ok hx,?_⟩⟩⟩)
  ·repeat (first | refine runs_eqs.2 ⟨trivial,?_⟩ | refine runs_eqs.2 ⟨rfl,?_⟩ | refine runs_eqs.2 ⟨⟨rfl,rfl⟩,?_⟩ | refine runs_need.2 ⟨need_ix hi',?_⟩)
   refine runs_need.2 ⟨hsz _,?_⟩
   rw [nil_msg h,inc1 (i:=i) (by omega)]; exact hm
  ·repeat (first | refine runs_eqs.2 ⟨trivial,?_⟩ | refine runs_eqs.2 ⟨rfl,?_⟩ | refine runs_eqs.2 ⟨⟨rfl,rfl⟩,?_⟩ | refine runs_need.2 ⟨need_ix hi',?_⟩)
   refine runs_need.2 ⟨hsz _,?_⟩
   rw [inc1 (i:=i) (by omega)]; exact hm
theorem cl437c1 {l:List Msg} {R:(Cni×Int)} {p:P437c1} (h0:p.b0=l) (h1:p.b1=0) (hne:0 < l.length) (hl:l.length≤4264772374402) (hd:∀x∈l,x.1.length≤70368744177664) (hR:Runs (s437 std) (.more (.c3 ⟨p.b0,p.b2,p.b3,p.b4,p.b5,p.b6,p.b7,p.b8,p.b9,p.b10,p.b11,p.b12,p.b13,p.b14⟩ (l.length:Int) l)) R):Runs (s437 std) (.more (.c1 p)) R:=by
 have hm:=cl437c3 (p:=⟨p.b0,p.b2,p.b3,p.b4,p.b5,p.b6,p.b7,p.b8,p.b9,p.b10,p.b11,p.b12,p.b13,p.b14⟩) h0 hl hd hR (l.length - 1) 1 rfl (by omega)
 rw [List.take_succ_eq_append_getElem hne,List.take_zero,List.nil_append] at hm
 have hx:=hd _ (List.getElem_mem hne)
 have e:(std.nth yMsg l 0:Msg)=l[0]:=getD_in (i:=0) hne _
 have hix:std.and (std.cmp .leq 0 0) (std.cmp .lss 0 (std.len l))=true:=need_ix (i:=0) hne
 have hlt:std.cmp .lss 0 (std.len l)=true:=by have:=lss_len (l:=l) (i:=0); rw [decide_eq_true hne] at this; exact this
 have hsz:∀x:Msg,std.cmp .leq (std.len [x]) 4264772374403=true:=fun x=>rfl
 rw [runs_more,s437]
 simp only [h0,h1,e]
 simp only [h0] at hm
 refine (runs_brT hlt).2 (runs_need.2 ⟨hix,runs_need.2 ⟨hix,runs_if (p:=(l[0].1.length:Int)=0) eql_dec (fun h=>?_) fun h=>runs_need.2 ⟨len_ok hx,?_⟩⟩⟩)
 ·repeat (first | refine runs_eqs.2 ⟨trivial,?_⟩ | refine runs_eqs.2 ⟨rfl,?_⟩ | refine runs_eqs.2 ⟨⟨rfl,rfl⟩,?_⟩ | refine runs_need.2 ⟨hix,?_⟩)
  refine runs_need.2 ⟨hsz _,?_⟩
  rw [nil_msg h]; exact hm
 ·repeat (first | refine runs_eqs.2 ⟨trivial,?_⟩ | refine runs_eqs.2 ⟨rfl,?_⟩ | refine runs_eqs.2 ⟨⟨rfl,rfl⟩,?_⟩ | refine runs_need.2 ⟨hix,?_⟩)
  exact runs_need.2 ⟨hsz _,hm⟩
theorem ddlv1 {c:Cni} {slot:Int} {data:List Int}:Runs (s437 std) (t437 std c slot data) (dlvF c slot data):=by
 unfold t437 dlvF
 refine runs_need.2 ⟨rfl,?_⟩
 rw [show std.call fn391 c=cniS c from rfl,cniS]
 cases hc:cniB c
 ·exact (runs_brT rfl).2 (.ret _)
 obtain ⟨h1,h2,h3,h4⟩:=cni_len hc
 obtain ⟨id,out,l,life,want⟩:=c
 simp only [lenI]
 refine (runs_brF rfl).2 (runs_if (p:=slot < 0) rfl (fun h=>?_) fun k1=>runs_if (p:=(l.length:Int)≤slot) rfl (fun h=>?_) fun k2=>runs_if (p:=8 < (data.length:Int)) rfl (fun h=>?_) fun k3=>?_)
 ·rw [decide_eq_false (by omega)]; exact .ret _
 ·rw [decide_eq_false (by omega)]; exact .ret _
 ·rw [decide_eq_true (by omega),decide_eq_true h]; exact .ret _
 rw [decide_eq_true (by omega),decide_eq_false k3]
 have h1:4≤l.length:=h1
 have h2:l.length≤8:=h2
 have h3:out.length≤8:=h3
 have q1:0 < l.length:=by omega
 have q2:l.length≤4264772374402:=by omega
 have q3:out.length≤70368744177664:=by omega
 have hd:∀x∈l,x.1.length≤70368744177664:=fun x hx=>by have:=(h4 x hx).1; omega
 have q4:data.length≤70368744177664:=by omega
 have hix:std.and (std.cmp .leq 0 slot) (std.cmp .lss slot (std.len l))=true:=by rw [lenI,std_cmp_leq,std_cmp_lss,std_and]; simp; omega
 have hend:∀t u:LT (Cni×Int) Y437,(data=[]→Runs (s437 std) t ((id,out,l.set slot.toNat (data,0),life,want),0))→(Runs (s437 std) u ((id,out,l.set slot.toNat (data,0),life,want),0))→Runs (s437 std) (.br (std.cmp .eql (std.len data) 0) t u) ((id,out,l.set slot.toNat (data,0),life,want),0):=fun t u ht hu=>
  runs_if (p:=(data.length:Int)=0) eql_dec (fun h=>ht (List.eq_nil_of_length_eq_zero (by omega))) fun _=>hu
 refine runs_if (p:=(out.length:Int)=0) eql_dec (fun h=>?_) fun h=>runs_need.2 ⟨len_ok q3,?_⟩
 ·have ho:out=[]:=List.eq_nil_of_length_eq_zero (by omega)
  subst ho
  refine cl437c0 rfl rfl q1 q2 hd (runs_more.2 ((runs_brF (by rw [lss_len]; simp)).2 (hend _ _ (fun e=>?_) (runs_need.2 ⟨len_ok q4,?_⟩))))
  ·subst e
   repeat (first | refine runs_eqs.2 ⟨trivial,?_⟩ | refine runs_eqs.2 ⟨rfl,?_⟩ | refine runs_eqs.2 ⟨⟨rfl,rfl⟩,?_⟩ | refine runs_need.2 ⟨hix,?_⟩)
   exact .ret _
  ·repeat (first | refine runs_eqs.2 ⟨trivial,?_⟩ | refine runs_eqs.2 ⟨rfl,?_⟩ | refine runs_eqs.2 ⟨⟨rfl,rfl⟩,?_⟩ | refine runs_need.2 ⟨hix,?_⟩)
   exact .ret _
 ·refine cl437c1 rfl rfl q1 q2 hd (runs_more.2 ((runs_brF (by rw [lss_len]; simp)).2 (hend _ _ (fun e=>?_) (runs_need.2 ⟨len_ok q4,?_⟩))))
  ·subst e
   repeat (first | refine runs_eqs.2 ⟨trivial,?_⟩ | refine runs_eqs.2 ⟨rfl,?_⟩ | refine runs_eqs.2 ⟨⟨rfl,rfl⟩,?_⟩ | refine runs_need.2 ⟨hix,?_⟩)
   exact .ret _
  ·repeat (first | refine runs_eqs.2 ⟨trivial,?_⟩ | refine runs_eqs.2 ⟨rfl,?_⟩ | refine runs_eqs.2 ⟨⟨rfl,rfl⟩,?_⟩ | refine runs_need.2 ⟨hix,?_⟩)
   exact .ret _
def fn437:(Cni×Int×List Int)→(Cni×Int):=dlvS
def sp437:FSpec:=⟨[yCni,(.int .i64),(.slice (.int .u8))], [yCni,(.int .i64)],(@tt (Cni×Int×List Int)),fn437⟩
theorem run437 {c:Cni} {slot:Int} {data:List Int} (h:Ty.hass [yCni,(.int .i64),(.slice (.int .u8))] (c,slot,data)):Runs (s437 std) (t437 std c slot data) (fn437 (c,slot,data)):=by
 exact ddlv1
theorem so437:FSpec.Sound Tryz.prog 191 sp437:=
 w437_ok.sound _ _ fun (c,slot,data) _ h=>run437 h
open Go.Ev.Pl
inductive Y443 where
 | c0 (a0:Int) (a1:List Msg)
noncomputable def cfg443:Y443→Cfg
 | .c0 a0 a1=>{frames:=[{fn:=197,n:=48,env:=(Env.put (Env.put .leaf 7 (.own 0)) 8 (.int .i64 false a0)),todo:=[.inLoop (Code.way (bodyOf Tryz.f197) [1,1,1,1,1,1,0,0,0]),.inBlock 0,.code (Code.way (bodyOf Tryz.f197) [1,1,1,1,1,1,1])],marks:=[],rnd:=none}],mem:=[.arr false yMsg a1,.dead]}
def t443 (A:Alg) (x2:List Msg) (count:Int):LT (List Msg) Y443:=
 .br (A.cmp .lss count 0)
 (.bad 117 "slices.go:516")
 (.br (A.cmp .gtr (A.bin .add .u64 (A.bin .add .u64 (A.bin .mul .u64 (A.bin .shr .u64 (A.conv .u64 (A.len x2)) 32) (A.bin .shr .u64 (A.conv .u64 count) 32)) (A.bin .shr .u64 (A.bin .add .u64 (A.bin .mul .u64 (A.bin .shr .u64 (A.conv .u64 (A.len x2)) 32) (A.bin .and .u64 (A.conv .u64 count) 4294967295)) (A.bin .shr .u64 (A.bin .mul .u64 (A.bin .and .u64 (A.conv .u64 (A.len x2)) 4294967295) (A.bin .and .u64 (A.conv .u64 count) 4294967295)) 32)) 32)) (A.bin .shr .u64 (A.bin .add .u64 (A.bin .and .u64 (A.bin .add .u64 (A.bin .mul .u64 (A.bin .shr .u64 (A.conv .u64 (A.len x2)) 32) (A.bin .and .u64 (A.conv .u64 count) 4294967295)) (A.bin .shr .u64 (A.bin .mul .u64 (A.bin .and .u64 (A.conv .u64 (A.len x2)) 4294967295) (A.bin .and .u64 (A.conv .u64 count) 4294967295)) 32)) 4294967295) (A.bin .mul .u64 (A.bin .and .u64 (A.conv .u64 (A.len x2)) 4294967295) (A.bin .shr .u64 (A.conv .u64 count) 32))) 32)) 0)
 (.bad 117 "slices.go:522")
 (.br (A.cmp .gtr (A.bin .mul .u64 (A.conv .u64 (A.len x2)) (A.conv .u64 count)) 9223372036854775807)
  (.bad 117 "slices.go:522")
  (.need (A.and (A.cmp .eql (A.conv .i64 (A.bin .mul .u64 (A.conv .u64 (A.len x2)) (A.conv .u64 count))) (A.conv .i64 (A.bin .mul .u64 (A.conv .u64 (A.len x2)) (A.conv .u64 count)))) (A.and (A.cmp .leq 0 (A.conv .i64 (A.bin .mul .u64 (A.conv .u64 (A.len x2)) (A.conv .u64 count)))) (A.cmp .leq (A.conv .i64 (A.bin .mul .u64 (A.conv .u64 (A.len x2)) (A.conv .u64 count))) 4264772374403))) (
  .more (.c0 (A.mn (A.len x2) (A.len (A.rep (A.conv .i64 (A.bin .mul .u64 (A.conv .u64 (A.len x2)) (A.conv .u64 count))) (Ty.dflt yMsg:Msg)))) (A.spl (A.rep (A.conv .i64 (A.bin .mul .u64 (A.conv .u64 (A.len x2)) (A.conv .u64 count))) (Ty.dflt yMsg:Msg)) 0 (A.sub x2 0 (A.mn (A.len x2) (A.len (A.rep (A.conv .i64 (A.bin .mul .u64 (A.conv .u64 (A.len x2)) (A.conv .u64 count))) (Ty.dflt yMsg:Msg)))))))))))
def s443 (A:Alg):Y443→LT (List Msg) Y443
 | .c0 a0 a1=>
  .br (A.cmp .lss a0 (A.len a1))
  (.need (A.and (A.cmp .leq 0 a0) (A.and (A.cmp .leq a0 (A.len a1)) (A.cmp .leq (A.len a1) (A.len a1)))) (
   .need (A.and (A.cmp .leq 0 0) (A.and (A.cmp .leq 0 a0) (A.cmp .leq a0 (A.len a1)))) (
   .eqs (eqI a0) (
    .more (.c0 (A.bin .add .i64 a0 (A.mn (A.len (A.sub a1 0 (A.bin .add .i64 0 (A.bin .sub .i64 a0 0)))) (A.bin .sub .i64 (A.len a1) a0))) (A.spl a1 a0 (A.sub (A.sub a1 0 (A.bin .add .i64 0 (A.bin .sub .i64 a0 0))) 0 (A.mn (A.len (A.sub a1 0 (A.bin .add .i64 0 (A.bin .sub .i64 a0 0)))) (A.bin .sub .i64 (A.len a1) a0)))))))))
  (.ret a1)
noncomputable def E443 (A:Alg):Info (Ty.Ts [(.slice yMsg)]):={ti:=tys,fns:=[(197,Tryz.f197),(253,Tryz.f253),(290,Tryz.f290)],sps:=[],stops:=[⟨197,8, [[7,8]]⟩],cuts:=[],consts:=[],fin:=finD A [(.slice yMsg)]}
theorem t443_ok (A:Alg) (x2:List Msg) (count:Int):run A (E443 A) 175 (startC 197 Tryz.f197 (dvals A [(.slice yMsg),(.int .i64)] (x2,count)))=(t443 A x2 count).tr cfg443:=by kernel_rfl
theorem s443_ok (A:Alg):∀y,∃n,run A (E443 A) n (advance (E443 A).sps (cfg443 y))=(s443 A y).tr cfg443
 | .c0 a0 a1=>⟨30,by kernel_rfl⟩
def w443:Walk Tryz.prog 197 [(.slice yMsg),(.int .i64)] [(.slice yMsg)] Y443:=⟨fun (x2,count)=>t443 std x2 count,s443 std⟩
theorem w443_ok:w443.Ok:=
 walk_ok (E:=E443 std) ⟨tys_fit,fns_cons Tryz.func197 (by kernel_rfl) (fns_cons Tryz.func253 (by kernel_rfl) (fns_cons Tryz.func290 (by kernel_rfl) (fns_nil))),sps_nil,by kernel_rfl⟩ rfl rfl rfl (by kernel_rfl) w443 cfg443 175 (fun (x2,count)=>t443_ok std x2 count) (s443_ok std)
def one255:Msg:=(([]:List Int),255)
theorem rep1 {l:List Msg} {n:Int} (h:(decide (l=[(([]:List Int),255)]) && decide (4≤n) && decide (n≤8))=true):Runs (s443 std) (t443 std l n) (List.replicate n.toNat one255):=by
 simp only [Bool.and_eq_true,decide_eq_true_eq] at h
 obtain ⟨⟨rfl,h1⟩,h2⟩:=h
 have hn:n=4∨n=5∨n=6∨n=7∨n=8:=by omega
 rcases hn with rfl | rfl | rfl | rfl | rfl <;>
  (refine (runs_brF (by kernel_rfl)).2 ((runs_brF (by kernel_rfl)).2 ((runs_brF (by kernel_rfl)).2 (runs_need.2 ⟨by kernel_rfl,?_⟩)))
   refine runs_more.2 ((runs_brT (by kernel_rfl)).2 (runs_need.2 ⟨by kernel_rfl,runs_need.2 ⟨by kernel_rfl,runs_eqI.2 (runs_more.2 ?_)⟩⟩))
   refine (runs_brT (by kernel_rfl)).2 (runs_need.2 ⟨by kernel_rfl,runs_need.2 ⟨by kernel_rfl,runs_eqI.2 (runs_more.2 ?_)⟩⟩))
 ·exact (runs_brF (by kernel_rfl)).2 (runs_r (by kernel_rfl) (.ret _))
 all_goals exact (runs_brT (by kernel_rfl)).2 (runs_need.2 ⟨by kernel_rfl,runs_need.2 ⟨by kernel_rfl,runs_eqI.2 (runs_more.2 ((runs_brF (by kernel_rfl)).2 (runs_r (by kernel_rfl) (.ret _))))⟩⟩)
def fn443:(List Msg×Int)→(List Msg):=fun (_,n)=>List.replicate n.toNat (([]:List Int),255)
def pre443:(List Msg×Int)→Bool:=fun (l,n)=>decide (l=[(([]:List Int),255)]) && decide (4≤n) && decide (n≤8)
def sp443:FSpec:=⟨[(.slice yMsg),(.int .i64)], [(.slice yMsg)],pre443,fn443⟩
theorem run443 {x2:List Msg} {count:Int} (h:Ty.hass [(.slice yMsg),(.int .i64)] (x2,count)) (hp:pre443 (x2,count)=true):Runs (s443 std) (t443 std x2 count) (fn443 (x2,count)):=by
 exact rep1 hp
theorem so443:FSpec.Sound Tryz.prog 197 sp443:=
 w443_ok.sound _ _ fun (x2,count) hp h=>run443 h hp
def t386 (A:Alg) (id:Int) (n:Int):LT (Cni×Int) Empty:=
 .need (A.call (@tt (Int×Int×Int)) (n,4,8)) (
 .br (A.not (A.call fn442 (n,4,8)))
 (.ret ((0,([]:List Int),([]:List Msg),0,0),120))
 (.need (A.call (@tt (Int×Int×Int)) (id,0,(A.bin .sub .i64 n 1))) (
  .br (A.not (A.call fn442 (id,0,(A.bin .sub .i64 n 1))))
  (.ret ((0,([]:List Int),([]:List Msg),0,0),120))
  (.need (A.call pre443 ([(([]:List Int),255)],n)) (
   .ret ((id,([]:List Int),(A.call fn443 ([(([]:List Int),255)],n)),4,(-1)),0))))))
noncomputable def E386 (A:Alg):Info (Ty.Ts [yCni,(.int .i64)]):={ti:=tys,fns:=[(106,Tryz.f106)],sps:=[(196,sp442),(197,sp443)],stops:=[],cuts:=[],consts:=[],fin:=finD A [yCni,(.int .i64)]}
theorem t386_ok (A:Alg) (id:Int) (n:Int):run A (E386 A) 38 (startC 106 Tryz.f106 (dvals A [(.int .i64),(.int .i64)] (id,n)))=(t386 A id n).tr Empty.elim:=by kernel_rfl
def w386:Walk Tryz.prog 106 [(.int .i64),(.int .i64)] [yCni,(.int .i64)] Empty:=⟨fun (id,n)=>t386 std id n,Empty.elim⟩
theorem w386_ok:w386.Ok:=
 walk_ok (E:=E386 std) ⟨tys_fit,fns_cons Tryz.func106 (by kernel_rfl) (fns_nil),sps_cons so442 (sps_cons so443 (sps_nil)),by kernel_rfl⟩ rfl rfl rfl (by kernel_rfl) w386 Empty.elim 38 (fun (id,n)=>t386_ok std id n) (fun y=>y.elim)
def newF (id n:Int):Cni×Int:=bif decide (4≤n∧n≤8) then (bif decide (0≤id∧id≤n - 1) then ((id,([]:List Int),List.replicate n.toNat one255,4,(-1)),0) else (zCni,120)) else (zCni,120)
def newS:Int×Int→Cni×Int:=fun (id,n)=>newF id n
theorem new1 {id n:Int}:Runs Empty.elim (t386 std id n) (newF id n):=by
 unfold t386 newF
 rw [wt442]
 refine runs_need.2 ⟨rfl,runs_in (fun h=>?_) fun h1=>runs_need.2 ⟨rfl,?_⟩⟩
 ·exact runs_r (by rw [decide_eq_false h]; rfl) (.ret _)
 ·have e:std.bin .sub .i64 n 1=n - 1:=by rw [std_sub,w64 (by omega) (by omega)]
  rw [e]
  refine runs_in (fun h=>?_) fun h2=>runs_need.2 ⟨?_,?_⟩
  ·exact runs_r (by rw [decide_eq_true h1,decide_eq_false h]; rfl) (.ret _)
  ·rw [std_call,pre443,decide_eq_true h1.1,decide_eq_true h1.2]; rfl
  ·exact runs_r (by rw [decide_eq_true h1,decide_eq_true h2]; rfl) (.ret _)
def fn386:(Int×Int)→(Cni×Int):=newS
def sp386:FSpec:=⟨[(.int .i64),(.int .i64)], [yCni,(.int .i64)],(@tt (Int×Int)),fn386⟩
theorem run386 {id:Int} {n:Int} (h:Ty.hass [(.int .i64),(.int .i64)] (id,n)):Runs Empty.elim (t386 std id n) (fn386 (id,n)):=by
 exact new1
theorem so386:FSpec.Sound Tryz.prog 106 sp386:=
 w386_ok.sound _ _ fun (id,n) _ h=>run386 h
open Go.Ev.Pl
def t396 (A:Alg) (c:Cni) (data:List Int):LT (Cni×Int) Empty:=
 .need (A.call (@tt Cni) c) (
 .br (A.cmp .neq (A.call fn446 c).2 0)
 (.ret ((0,([]:List Int),([]:List Msg),0,0),(A.call fn446 c).2))
 (.br (A.cmp .gtr (A.len data) 8)
  (.ret ((0,([]:List Int),([]:List Msg),0,0),3))
  (.need (A.call (@tt (List Int)) data) (
  .ret (((A.call fn446 c).1.1,(A.call fn174 data),(A.call fn446 c).1.2.2),0)))))
noncomputable def E396 (A:Alg):Info (Ty.Ts [yCni,(.int .i64)]):={ti:=tys,fns:=[(117,Tryz.f117)],sps:=[(203,sp174),(202,sp446)],stops:=[],cuts:=[],consts:=[],fin:=finD A [yCni,(.int .i64)]}
theorem t396_ok (A:Alg) (c:Cni) (data:List Int):run A (E396 A) 55 (startC 117 Tryz.f117 (dvals A [yCni,(.slice (.int .u8))] (c,data)))=(t396 A c data).tr Empty.elim:=by kernel_rfl
def w396:Walk Tryz.prog 117 [yCni,(.slice (.int .u8))] [yCni,(.int .i64)] Empty:=⟨fun (c,data)=>t396 std c data,Empty.elim⟩
theorem w396_ok:w396.Ok:=
 walk_ok (E:=E396 std) ⟨tys_fit,fns_cons Tryz.func117 (by kernel_rfl) (fns_nil),sps_cons so174 (sps_cons so446 (sps_nil)),by kernel_rfl⟩ rfl rfl rfl (by kernel_rfl) w396 Empty.elim 55 (fun (c,data)=>t396_ok std c data) (fun y=>y.elim)
def wrF (c:Cni) (d:List Int):Cni×Int:=bif cniB c then (bif decide (8 < (d.length:Int)) then (zCni,3) else ((c.1,d,c.2.2),0)) else (zCni,120)
def wrS:Cni×List Int→Cni×Int:=fun (c,d)=>wrF c d
theorem wr1 {c:Cni} {d:List Int}:Runs Empty.elim (t396 std c d) (wrF c d):=by
 unfold t396 wrF
 refine runs_need.2 ⟨rfl,?_⟩
 rw [show std.call fn446 c=ownC c from rfl,ownC]
 cases cniB c
 ·exact (runs_brT rfl).2 (.ret _)
 ·refine (runs_brF rfl).2 (runs_if (p:=8 < (d.length:Int)) rfl (fun h=>?_) fun h=>runs_need.2 ⟨rfl,?_⟩)
  ·exact runs_r (by rw [decide_eq_true h]; rfl) (.ret _)
  ·exact runs_r (by rw [decide_eq_false h]; rfl) (.ret _)
def fn396:(Cni×List Int)→(Cni×Int):=wrS
def sp396:FSpec:=⟨[yCni,(.slice (.int .u8))], [yCni,(.int .i64)],(@tt (Cni×List Int)),fn396⟩
theorem run396 {c:Cni} {data:List Int} (h:Ty.hass [yCni,(.slice (.int .u8))] (c,data)):Runs Empty.elim (t396 std c data) (fn396 (c,data)):=by
 exact wr1
theorem so396:FSpec.Sound Tryz.prog 117 sp396:=
 w396_ok.sound _ _ fun (c,data) _ h=>run396 h
end Go.Ev.M
