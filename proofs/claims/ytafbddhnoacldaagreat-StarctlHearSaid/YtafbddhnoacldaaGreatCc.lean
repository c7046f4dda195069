/-
  PROVED: what busctl.Hear and metronomeref18.Hear compute. Conditions: none.
-/
import Derived.Test.YtafbddhnoacldaaGreatCb
import Derived.Test.YtafbddhnoacldaaGreatDa
import Derived.Test.YtafbddhnoacldaaGreatDb
import Derived.Test.YtafbddhnoacldaaGreatKa
namespace Go.Ev.M
open Go.Proofs
set_option maxRecDepth 100000
set_option linter.unusedVariables false
set_option linter.unusedSimpArgs false
open Go.Ev.Pl
structure P369c0 where
 (a0:Int) (a1:List Seen) (a2:Int) (a4:Mbr) (a5:Int)
inductive Y369 where
 | c0 (p:P369c0) (a3:Int)
noncomputable def cfg369:Y369→Cfg
 | .c0 p a3=>{frames:=[{fn:=89,n:=45,env:=(Env.put (Env.put (Env.put (Env.put (Env.put .leaf 0 (.int .i64 false p.a0)) 4 (.ptr 0 0)) 11 (.sl ySeen p.a1)) 12 (.int .i64 false p.a2)) 13 (.int .i64 false a3)),todo:=[.inLoop (Code.way (bodyOf Tryz.f89) [1,0,1,0,0]),.inBlock 0,.code (Code.way (bodyOf Tryz.f89) [1,1])],marks:=[],rnd:=none}],mem:=[.flat false [.int .i64 false p.a4.1,.int .i64 false p.a4.2.1,.int .i64 false p.a4.2.2.1,.int .i64 false p.a4.2.2.2.1,.int .i64 false p.a4.2.2.2.2.1,.int .i64 false p.a4.2.2.2.2.2.1,.int .i64 false p.a4.2.2.2.2.2.2,.int .i64 false p.a5,.esl true],.dead]}
def t369 (A:Alg) (n:Int) (seen:List Seen):LT (Frm×Int×Bool) Y369:=
 .more (.c0 ⟨n,seen,(A.len seen),(0,0,0,0,0,0,0),0⟩ 0)
def s369 (A:Alg):Y369→LT (Frm×Int×Bool) Y369
 | .c0 p a3=>
  .br (A.cmp .lss a3 p.a2)
  (.need (A.and (A.cmp .leq 0 a3) (A.cmp .lss a3 (A.len p.a1))) (
   .br (A.cmp .neq (A.nth ySeen p.a1 a3:Seen).1 2)
   (.more (.c0 p (A.bin .add .i64 a3 1)))
   (.need (A.call (@tt ((Int×List Int))) (A.nth ySeen p.a1 a3:Seen).2.2) (
    .br (A.call fn51 (A.nth ySeen p.a1 a3:Seen).2.2).2
    (.need (A.call (@tt ((Int×Int×Int×Int×Int)×Int)) ((A.call fn51 (A.nth ySeen p.a1 a3:Seen).2.2).1.2.2.1,p.a0)) (
     .br (A.cmp .eql (A.call fn87 ((A.call fn51 (A.nth ySeen p.a1 a3:Seen).2.2).1.2.2.1,p.a0)) 0)
     (.br (A.cmp .lss (A.call fn51 (A.nth ySeen p.a1 a3:Seen).2.2).1.2.2.2.1 p.a0)
      (.eqs (eqI (A.nth ySeen p.a1 a3:Seen).2.1) (
      .eqs (eqV (.ptr 2 1)) (
       .ret ((A.call fn51 (A.nth ySeen p.a1 a3:Seen).2.2).1,(A.nth ySeen p.a1 a3:Seen).2.1,true))))
      (.more (.c0 p (A.bin .add .i64 a3 1))))
     (.more (.c0 p (A.bin .add .i64 a3 1)))))
    (.more (.c0 p (A.bin .add .i64 a3 1)))))))
  (.ret ((0,0,(0,0,0,0,0),0,([]:List Int)),0,false))
noncomputable def E369 (A:Alg):Info (Ty.Ts [yFrm,(.int .i64),.bool]):={ti:=tys,fns:=[(89,Tryz.f89)],sps:=[(184,sp51),(187,sp87)],stops:=[⟨89,2, [[0,4,11,12,13]]⟩],cuts:=[],consts:=[],fin:=finD A [yFrm,(.int .i64),.bool]}
theorem t369_ok (A:Alg) (n:Int) (seen:List Seen):run A (E369 A) 21 (startC 89 Tryz.f89 (dvals A [(.int .i64),(.slice ySeen)] (n,seen)))=(t369 A n seen).tr cfg369:=by kernel_rfl
theorem s369_ok (A:Alg):∀y,∃n,run A (E369 A) n (advance (E369 A).sps (cfg369 y))=(s369 A y).tr cfg369
 | .c0 p a3=>⟨70,by kernel_rfl⟩
def w369:Walk Tryz.prog 89 [(.int .i64),(.slice ySeen)] [yFrm,(.int .i64),.bool] Y369:=⟨fun (n,seen)=>t369 std n seen,s369 std⟩
theorem w369_ok:w369.Ok:=
 walk_ok (E:=E369 std) ⟨tys_fit,fns_cons Tryz.func89 (by kernel_rfl) (fns_nil),sps_cons so51 (sps_cons so87 (sps_nil)),by kernel_rfl⟩ rfl rfl rfl (by kernel_rfl) w369 cfg369 21 (fun (n,seen)=>t369_ok std n seen) (s369_ok std)
def hitB (n:Int) (s:Seen):Bool:=decide (s.1=2) && (decide ((explS s.2.2).2=true) && (decide (chkS ((explS s.2.2).1.2.2.1,n)=0) && decide ((explS s.2.2).1.2.2.2.1 < n)))
def expF (n:Int):List Seen→Frm×Int×Bool
 | []=>((0,0,(0,0,0,0,0),0,([]:List Int)),0,false)
 | s :: l=>bif hitB n s then ((explS s.2.2).1,s.2.1,true) else expF n l
theorem exp_in {n:Int} {l:List Seen} (h:(expF n l).2.2=true):chkS ((expF n l).1.2.2.1,n)=0∧(expF n l).1.2.2.2.1 < n∧frOk (expF n l).1=true:=by
 induction l with
 | nil=>exact absurd h (by simp [expF])
 | cons s l ih=>
  rw [expF] at h ⊢
  cases hx:hitB n s
  ·rw [hx] at h; exact ih h
  ·simp only [hitB,Bool.and_eq_true,decide_eq_true_eq] at hx
   exact ⟨hx.2.2.1,hx.2.2.2,expl_ok hx.2.1⟩
theorem b_dec {b:Bool}:b=decide (b=true):=by cases b <;> rfl
theorem pexp_loop {p:P369c0} {n:Int} {seen:List Seen} (h0:p.a0=n) (h1:p.a1=seen) (h2:p.a2=(seen.length:Int)) (hl:seen.length≤140737488355328):∀(j i:Nat),seen.length - i=j→i≤seen.length→Runs (s369 std) (.more (.c0 p (i:Int))) (expF n (seen.drop i)):=by
 intro j
 induction j with
 | zero=>
  intro i hj hi
  have:i=seen.length:=by omega
  subst this
  rw [runs_more,s369,h2,List.drop_length]
  exact (runs_brF (by rw [std_cmp_lss]; simp)).2 (.ret _)
 | succ j ih=>
  intro i hj hi
  have hi':i < seen.length:=by omega
  have nx:=ih (i + 1) (by omega) (by omega)
  rw [runs_more,s369,h0,h1,h2]
  refine (runs_brT (by rw [std_cmp_lss]; exact decide_eq_true (by omega))).2 (runs_need.2 ⟨need_ix hi',?_⟩)
  rw [show (std.nth ySeen seen (i:Int):Seen)=seen[i] from getD_in hi' _,List.drop_eq_getElem_cons hi',expF,inc1 (i:=i) (by omega)]
  generalize seen[i]=s
  generalize expF n (seen.drop (i + 1))=r at nx ⊢
  have hx:hitB n s=false→Runs (s369 std) (.more (.c0 p ((i + 1:Nat):Int))) (bif hitB n s then ((explS s.2.2).1,s.2.1,true) else r):=fun h=>runs_r (by rw [h]; rfl) nx
  rw [show std.call fn51 s.2.2=explS s.2.2 from fn51_eq]
  refine runs_if (p:=¬s.1=2) cneq_dec (fun h=>hx (by rw [hitB,decide_eq_false h]; rfl)) fun g1=>runs_need.2 ⟨rfl,?_⟩
  refine runs_if (p:=(explS s.2.2).2=true) b_dec (fun g2=>runs_need.2 ⟨rfl,?_⟩) fun h=>hx (by rw [hitB,decide_eq_false h,Bool.false_and,Bool.and_false])
  refine runs_if (p:=chkS ((explS s.2.2).1.2.2.1,n)=0) eql_dec (fun g3=>?_) fun h=>hx (by rw [hitB,decide_eq_false h,Bool.false_and,Bool.and_false,Bool.and_false])
  refine runs_if (p:=(explS s.2.2).1.2.2.2.1 < n) rfl (fun g4=>runs_eqI.2 (runs_eqV.2 ?_)) fun h=>hx (by rw [hitB,decide_eq_false h,Bool.and_false,Bool.and_false,Bool.and_false])
  exact runs_r (by rw [hitB,decide_eq_true (Decidable.not_not.1 g1),decide_eq_true g2,decide_eq_true g3,decide_eq_true g4]; rfl) (.ret _)
theorem pexp1 {n:Int} {seen:List Seen} (hl:seen.length≤140737488355328):Runs (s369 std) (t369 std n seen) (expF n seen):=
 pexp_loop (p:=⟨n,seen,(seen.length:Int),(0,0,0,0,0,0,0),0⟩) rfl rfl rfl hl seen.length 0 rfl (by omega)
def fn369:(Int×List Seen)→(Frm×Int×Bool):=fun (m,n)=>expF m n
def sp369:FSpec:=⟨[(.int .i64),(.slice ySeen)], [yFrm,(.int .i64),.bool],(@tt (Int×List Seen)),fn369⟩
theorem run369 {n:Int} {seen:List Seen} (h:Ty.hass [(.int .i64),(.slice ySeen)] (n,seen)):Runs (s369 std) (t369 std n seen) (fn369 (n,seen)):=by
 exact pexp1 h.2.1
theorem so369:FSpec.Sound Tryz.prog 89 sp369:=
 w369_ok.sound _ _ fun (n,seen) _ h=>run369 h
structure P374c0 where
 (a0:Int) (a1:List Seen) (a3:Mbr) (a4:Int)
inductive Y374 where
 | c0 (p:P374c0) (a2:Int)
noncomputable def cfg374:Y374→Cfg
 | .c0 p a2=>{frames:=[{fn:=94,n:=52,env:=(Env.put (Env.put (Env.put (Env.put .leaf 0 (.int .i64 false p.a0)) 1 (.sl ySeen p.a1)) 4 (.ptr 0 0)) 7 (.int .i64 false a2)),todo:=[.inLoop (Code.way (bodyOf Tryz.f94) [1,0,1,0,0]),.inBlock 0,.code (Code.way (bodyOf Tryz.f94) [1,1])],marks:=[],rnd:=none}],mem:=[.flat false [.int .i64 false p.a3.1,.int .i64 false p.a3.2.1,.int .i64 false p.a3.2.2.1,.int .i64 false p.a3.2.2.2.1,.int .i64 false p.a3.2.2.2.2.1,.int .i64 false p.a3.2.2.2.2.2.1,.int .i64 false p.a3.2.2.2.2.2.2,.int .i64 false p.a4,.esl true],.dead]}
def t374 (A:Alg) (n:Int) (seen:List Seen):LT (Frm×Int×Bool) Y374:=
 .more (.c0 ⟨n,seen,(0,0,0,0,0,0,0),0⟩ 0)
def s374 (A:Alg):Y374→LT (Frm×Int×Bool) Y374
 | .c0 p a2=>
  .br (A.cmp .lss a2 (A.len p.a1))
  (.need (A.and (A.cmp .leq 0 a2) (A.cmp .lss a2 (A.len p.a1))) (
   .br (A.cmp .neq (A.nth ySeen p.a1 a2:Seen).1 2)
   (.more (.c0 p (A.bin .add .i64 a2 1)))
   (.need (A.and (A.cmp .leq 0 a2) (A.cmp .lss a2 (A.len p.a1))) (
    .need (A.call (@tt ((Int×List Int))) (A.nth ySeen p.a1 a2:Seen).2.2) (
    .br (A.call fn55 (A.nth ySeen p.a1 a2:Seen).2.2).2
     (.need (A.call (@tt ((Int×Int×Int×Int×Int)×Int)) ((A.call fn55 (A.nth ySeen p.a1 a2:Seen).2.2).1.2.2.1,p.a0)) (
     .br (A.cmp .eql (A.call fn42 ((A.call fn55 (A.nth ySeen p.a1 a2:Seen).2.2).1.2.2.1,p.a0)) 0)
      (.br (A.cmp .lss (A.call fn55 (A.nth ySeen p.a1 a2:Seen).2.2).1.2.2.2.1 p.a0)
      (.need (A.and (A.cmp .leq 0 a2) (A.cmp .lss a2 (A.len p.a1))) (
       .eqs (eqI (A.nth ySeen p.a1 a2:Seen).2.1) (
       .eqs (eqV (.iptr ySeen (A.nth ySeen p.a1 a2:Seen) 1)) (
        .need (A.and (A.cmp .leq 0 a2) (A.cmp .lss a2 (A.len p.a1))) (
        .eqs (eqV (.iptr ySeen (A.nth ySeen p.a1 a2:Seen) 0)) (
         .eqs (eqI a2) (
         .eqs (eqV (.sl ySeen p.a1)) (
          .ret ((A.call fn55 (A.nth ySeen p.a1 a2:Seen).2.2).1,(A.nth ySeen p.a1 a2:Seen).2.1,true)))))))))
      (.more (.c0 p (A.bin .add .i64 a2 1))))
      (.more (.c0 p (A.bin .add .i64 a2 1)))))
     (.more (.c0 p (A.bin .add .i64 a2 1))))))))
  (.ret ((0,0,(0,0,0,0,0),0,([]:List Int)),0,false))
noncomputable def E374 (A:Alg):Info (Ty.Ts [yFrm,(.int .i64),.bool]):={ti:=tys,fns:=[(94,Tryz.f94)],sps:=[(189,sp42),(86,sp55)],stops:=[⟨94,2, [[0,1,4,7]]⟩],cuts:=[],consts:=[],fin:=finD A [yFrm,(.int .i64),.bool]}
theorem t374_ok (A:Alg) (n:Int) (seen:List Seen):run A (E374 A) 19 (startC 94 Tryz.f94 (dvals A [(.int .i64),(.slice ySeen)] (n,seen)))=(t374 A n seen).tr cfg374:=by kernel_rfl
theorem s374_ok (A:Alg):∀y,∃n,run A (E374 A) n (advance (E374 A).sps (cfg374 y))=(s374 A y).tr cfg374
 | .c0 p a2=>⟨75,by kernel_rfl⟩
def w374:Walk Tryz.prog 94 [(.int .i64),(.slice ySeen)] [yFrm,(.int .i64),.bool] Y374:=⟨fun (n,seen)=>t374 std n seen,s374 std⟩
theorem w374_ok:w374.Ok:=
 walk_ok (E:=E374 std) ⟨tys_fit,fns_cons Tryz.func94 (by kernel_rfl) (fns_nil),sps_cons so42 (sps_cons so55 (sps_nil)),by kernel_rfl⟩ rfl rfl rfl (by kernel_rfl) w374 cfg374 19 (fun (n,seen)=>t374_ok std n seen) (s374_ok std)
theorem dexp_loop {p:P374c0} {n:Int} {seen:List Seen} (h0:p.a0=n) (h1:p.a1=seen) (hl:seen.length≤140737488355328):∀(j i:Nat),seen.length - i=j→i≤seen.length→Runs (s374 std) (.more (.c0 p (i:Int))) (expF n (seen.drop i)):=by
 intro j
 induction j with
 | zero=>
  intro i hj hi
  have:i=seen.length:=by omega
  subst this
  rw [runs_more,s374,h1,List.drop_length]
  exact (runs_brF (by rw [lss_len]; simp)).2 (.ret _)
 | succ j ih=>
  intro i hj hi
  have hi':i < seen.length:=by omega
  have nx:=ih (i + 1) (by omega) (by omega)
  rw [runs_more,s374,h0,h1]
  refine (runs_brT (by rw [lss_len]; exact decide_eq_true hi')).2 (runs_need.2 ⟨need_ix hi',?_⟩)
  rw [show (std.nth ySeen seen (i:Int):Seen)=seen[i] from getD_in hi' _,List.drop_eq_getElem_cons hi',expF,inc1 (i:=i) (by omega)]
  generalize seen[i]=s
  generalize expF n (seen.drop (i + 1))=r at nx ⊢
  have hx:hitB n s=false→Runs (s374 std) (.more (.c0 p ((i + 1:Nat):Int))) (bif hitB n s then ((explS s.2.2).1,s.2.1,true) else r):=fun h=>runs_r (by rw [h]; rfl) nx
  rw [show std.call fn55 s.2.2=explS s.2.2 from fn55_eq]
  refine runs_if (p:=¬s.1=2) cneq_dec (fun h=>hx (by rw [hitB,decide_eq_false h]; rfl)) fun g1=>runs_need.2 ⟨need_ix hi',runs_need.2 ⟨rfl,?_⟩⟩
  refine runs_if (p:=(explS s.2.2).2=true) b_dec (fun g2=>runs_need.2 ⟨rfl,?_⟩) fun h=>hx (by rw [hitB,decide_eq_false h,Bool.false_and,Bool.and_false])
  refine runs_if (p:=chkS ((explS s.2.2).1.2.2.1,n)=0) eql_dec (fun g3=>?_) fun h=>hx (by rw [hitB,decide_eq_false h,Bool.false_and,Bool.and_false,Bool.and_false])
  refine runs_if (p:=(explS s.2.2).1.2.2.2.1 < n) rfl (fun g4=>runs_need.2 ⟨need_ix hi',runs_eqI.2 (runs_eqV.2 (runs_need.2 ⟨need_ix hi',runs_eqV.2 (runs_eqI.2 (runs_eqV.2 ?_))⟩))⟩) fun h=>hx (by rw [hitB,decide_eq_false h,Bool.and_false,Bool.and_false,Bool.and_false])
  exact runs_r (by rw [hitB,decide_eq_true (Decidable.not_not.1 g1),decide_eq_true g2,decide_eq_true g3,decide_eq_true g4]; rfl) (.ret _)
theorem dexp1 {n:Int} {seen:List Seen} (hl:seen.length≤140737488355328):Runs (s374 std) (t374 std n seen) (expF n seen):=
 dexp_loop (p:=⟨n,seen,(0,0,0,0,0,0,0),0⟩) rfl rfl hl seen.length 0 rfl (by omega)
def fn374:(Int×List Seen)→(Frm×Int×Bool):=fun (m,n)=>expF m n
def sp374:FSpec:=⟨[(.int .i64),(.slice ySeen)], [yFrm,(.int .i64),.bool],(@tt (Int×List Seen)),fn374⟩
theorem run374 {n:Int} {seen:List Seen} (h:Ty.hass [(.int .i64),(.slice ySeen)] (n,seen)):Runs (s374 std) (t374 std n seen) (fn374 (n,seen)):=by
 exact dexp1 h.2.1
theorem so374:FSpec.Sound Tryz.prog 94 sp374:=
 w374_ok.sound _ _ fun (n,seen) _ h=>run374 h
def t412 (A:Alg) (m:Medl) (c:CSt) (f:Frm):LT Bool Empty:=
 .need (A.call (@tt (Medl×Int×Int)) (m,c.2.2.1,c.2.1)) (
 .br (A.cmp .eql (A.call fn447 (m,c.2.2.1,c.2.1)).2 0)
 (.br (A.cmp .neq (A.call fn447 (m,c.2.2.1,c.2.1)).1 3)
  (.need (A.and (A.cmp .leq 0 c.2.2.1) (A.cmp .lss c.2.2.1 (A.len m.2.2.2.2.2.2.2))) (
  .need (A.and (A.cmp .leq 0 c.2.1) (A.cmp .lss c.2.1 (A.len (A.nth yMode m.2.2.2.2.2.2.2 c.2.2.1:Mode).1))) (
   .br (A.cmp .eql (A.call fn447 (m,c.2.2.1,c.2.1)).2 0)
   (.br (A.cmp .eql f.1 (A.call fn447 (m,c.2.2.1,c.2.1)).1)
    (.ret (A.cmp .eql (A.len f.2.2.2.2) (A.nth (.int .i64) (A.nth yMode m.2.2.2.2.2.2.2 c.2.2.1:Mode).1 c.2.1:Int)))
    (.ret false))
   (.ret false))))
  (.br (A.cmp .eql (A.call fn447 (m,c.2.2.1,c.2.1)).2 0)
  (.br (A.cmp .eql f.1 (A.call fn447 (m,c.2.2.1,c.2.1)).1)
   (.ret (A.cmp .eql (A.len f.2.2.2.2) 0))
   (.ret false))
  (.ret false)))
 (.br (A.cmp .eql (A.call fn447 (m,c.2.2.1,c.2.1)).2 0)
  (.br (A.cmp .eql f.1 (A.call fn447 (m,c.2.2.1,c.2.1)).1)
  (.ret (A.cmp .eql (A.len f.2.2.2.2) 0))
  (.ret false))
  (.ret false)))
def lsdF (m:Medl) (c:CSt) (f:Frm):Bool:=decide ((kindF m c.2.2.1 c.2.1).2=0) && (decide (f.1=(kindF m c.2.2.1 c.2.1).1) && decide ((f.2.2.2.2.length:Int)=bif decide ((kindF m c.2.2.1 c.2.1).1=3) then (0:Int) else (std.nth (.int .i64) (std.nth yMode m.2.2.2.2.2.2.2 c.2.2.1:Mode).1 c.2.1:Int)))
theorem kind_zero {m:Medl} {k n:Int} (h:(kindF m k n).2=0):medlB m=true∧(0≤n∧n≤m.1 - 1)∧(0≤k∧k < mlen m):=by
 unfold kindF at h
 by_cases h1:nodeF m n=0
 ·obtain ⟨a,b⟩:=node_zero h1
  by_cases h2:0≤k∧k≤mlen m - 1
  ·exact ⟨a,b,by omega⟩
  ·rw [decide_eq_true h1,decide_eq_false h2,cond_true,cond_false] at h; exact absurd h (by decide)
 ·rw [decide_eq_false h1,cond_false] at h; exact absurd h h1
theorem plsd1 {m:Medl} {c:CSt} {f:Frm}:Runs Empty.elim (t412 std m c f) (lsdF m c f):=by
 unfold t412
 refine runs_need.2 ⟨rfl,?_⟩
 rw [show std.call fn447 (m,c.2.2.1,c.2.1)=kindF m c.2.2.1 c.2.1 from rfl]
 by_cases h:(kindF m c.2.2.1 c.2.1).2=0
 ·obtain ⟨hm,hn,hk⟩:=kind_zero h
  have hx:=(mode_lens (mode_at hm hk.1 hk.2)).1
  have e:std.cmp .eql (kindF m c.2.2.1 c.2.1).2 0=true:=ceq0 h
  rw [e,lsdF,decide_eq_true h,Bool.true_and]
  refine (runs_brT rfl).2 (runs_if (p:=¬(kindF m c.2.2.1 c.2.1).1=3) cneq_dec (fun g=>runs_need.2 ⟨need_in hk.1 hk.2,runs_need.2 ⟨need_at hx hn.1 (by omega),(runs_brT rfl).2 ?_⟩⟩) fun g=>(runs_brT rfl).2 ?_)
  ·rw [decide_eq_false g]
   refine runs_if (p:=f.1=(kindF m c.2.2.1 c.2.1).1) eql_dec (fun k=>?_) fun k=>?_
   ·exact runs_r (by rw [decide_eq_true k,lenI]; exact eql_dec) (.ret _)
   ·exact runs_r (by rw [decide_eq_false k]; rfl) (.ret _)
  ·rw [decide_eq_true (Decidable.not_not.1 g)]
   refine runs_if (p:=f.1=(kindF m c.2.2.1 c.2.1).1) eql_dec (fun k=>?_) fun k=>?_
   ·exact runs_r (by rw [decide_eq_true k,lenI]; exact eql_dec) (.ret _)
   ·exact runs_r (by rw [decide_eq_false k]; rfl) (.ret _)
 ·have e:std.cmp .eql (kindF m c.2.2.1 c.2.1).2 0=false:=ceq1 h
  rw [e,lsdF,decide_eq_false h]
  exact (runs_brF rfl).2 ((runs_brF rfl).2 (.ret _))
def t379 (A:Alg) (m:Medl) (c:CSt) (f:Frm):LT Bool Empty:=
 .need (A.call (@tt (Medl×Int×Int)) (m,c.2.2.1,c.2.1)) (
 .br (A.cmp .eql (A.call fn439 (m,c.2.2.1,c.2.1)).2 0)
 (.br (A.cmp .neq (A.call fn439 (m,c.2.2.1,c.2.1)).1 3)
  (.need (A.and (A.cmp .leq 0 c.2.2.1) (A.cmp .lss c.2.2.1 (A.len m.2.2.2.2.2.2.2))) (
  .need (A.and (A.cmp .leq 0 c.2.1) (A.cmp .lss c.2.1 (A.len (A.nth yMode m.2.2.2.2.2.2.2 c.2.2.1:Mode).1))) (
   .br (A.cmp .eql (A.call fn439 (m,c.2.2.1,c.2.1)).2 0)
   (.br (A.cmp .eql f.1 (A.call fn439 (m,c.2.2.1,c.2.1)).1)
    (.ret (A.cmp .eql (A.len f.2.2.2.2) (A.nth (.int .i64) (A.nth yMode m.2.2.2.2.2.2.2 c.2.2.1:Mode).1 c.2.1:Int)))
    (.ret false))
   (.ret false))))
  (.br (A.cmp .eql (A.call fn439 (m,c.2.2.1,c.2.1)).2 0)
  (.br (A.cmp .eql f.1 (A.call fn439 (m,c.2.2.1,c.2.1)).1)
   (.ret (A.cmp .eql (A.len f.2.2.2.2) 0))
   (.ret false))
  (.ret false)))
 (.br (A.cmp .eql (A.call fn439 (m,c.2.2.1,c.2.1)).2 0)
  (.br (A.cmp .eql f.1 (A.call fn439 (m,c.2.2.1,c.2.1)).1)
  (.ret (A.cmp .eql (A.len f.2.2.2.2) 0))
  (.ret false))
  (.ret false)))
noncomputable def E379 (A:Alg):Info (Ty.Ts [.bool]):={ti:=tys,fns:=[(99,Tryz.f99)],sps:=[(193,sp439)],stops:=[],cuts:=[],consts:=[],fin:=finD A [.bool]}
theorem t379_ok (A:Alg) (m:Medl) (c:CSt) (f:Frm):run A (E379 A) 75 (startC 99 Tryz.f99 (dvals A [yMedl,yCSt,yFrm] (m,c,f)))=(t379 A m c f).tr Empty.elim:=by kernel_rfl
def w379:Walk Tryz.prog 99 [yMedl,yCSt,yFrm] [.bool] Empty:=⟨fun (m,c,f)=>t379 std m c f,Empty.elim⟩
theorem w379_ok:w379.Ok:=
 walk_ok (E:=E379 std) ⟨tys_fit,fns_cons Tryz.func99 (by kernel_rfl) (fns_nil),sps_cons so439 (sps_nil),by kernel_rfl⟩ rfl rfl rfl (by kernel_rfl) w379 Empty.elim 75 (fun (m,c,f)=>t379_ok std m c f) (fun y=>y.elim)
theorem dlsd1 {m:Medl} {c:CSt} {f:Frm}:Runs Empty.elim (t379 std m c f) (lsdF m c f):=plsd1
def fn379:(Medl×CSt×Frm)→Bool:=fun (m,c,k)=>lsdF m c k
def sp379:FSpec:=⟨[yMedl,yCSt,yFrm], [.bool],(@tt (Medl×CSt×Frm)),fn379⟩
theorem run379 {m:Medl} {c:CSt} {f:Frm} (h:Ty.hass [yMedl,yCSt,yFrm] (m,c,f)):Runs Empty.elim (t379 std m c f) (fn379 (m,c,f)):=by
 exact dlsd1
theorem so379:FSpec.Sound Tryz.prog 99 sp379:=
 w379_ok.sound _ _ fun (m,c,f) _ h=>run379 h
def mjF (m:Medl) (n:Node) (f:Frm):Bool:=fitsF m f.2.2.1 && (decide (¬f.2.2.1.2.1=n.1) && (hasF f.2.2.1 f.2.2.1.2.1 && lsdF m f.2.2.1 f))
def t423 (A:Alg) (m:Medl) (c:CSt) (req:Int):LT CSt Empty:=
 .need (A.call (@tt (Medl×CSt×Int)) (m,c,req)) (
 .br (A.cmp .eql (A.call fn452 (m,c,req)).2 0)
 (.ret (A.call fn452 (m,c,req)).1)
 (.ret c))
noncomputable def E423 (A:Alg):Info (Ty.Ts [yCSt]):={ti:=tys,fns:=[(151,Tryz.f151)],sps:=[(226,sp452)],stops:=[],cuts:=[],consts:=[],fin:=finD A [yCSt]}
theorem t423_ok (A:Alg) (m:Medl) (c:CSt) (req:Int):run A (E423 A) 38 (startC 151 Tryz.f151 (dvals A [yMedl,yCSt,(.int .i64)] (m,c,req)))=(t423 A m c req).tr Empty.elim:=by kernel_rfl
def w423:Walk Tryz.prog 151 [yMedl,yCSt,(.int .i64)] [yCSt] Empty:=⟨fun (m,c,req)=>t423 std m c req,Empty.elim⟩
theorem w423_ok:w423.Ok:=
 walk_ok (E:=E423 std) ⟨tys_fit,fns_cons Tryz.func151 (by kernel_rfl) (fns_nil),sps_cons so452 (sps_nil),by kernel_rfl⟩ rfl rfl rfl (by kernel_rfl) w423 Empty.elim 38 (fun (m,c,req)=>t423_ok std m c req) (fun y=>y.elim)
def takeF (m:Medl) (c:CSt) (r:Int):CSt:=bif decide ((takF m c r).2=0) then (takF m c r).1 else c
theorem dtake1 {m:Medl} {c:CSt} {r:Int}:Runs Empty.elim (t423 std m c r) (takeF m c r):=by
 unfold t423 takeF
 refine runs_need.2 ⟨rfl,runs_if (p:=(takF m c r).2=0) eql_dec (fun h=>?_) fun h=>?_⟩
 ·exact runs_r (by rw [decide_eq_true h]; rfl) (.ret _)
 ·exact runs_r (by rw [decide_eq_false h]; rfl) (.ret _)
def fn423:(Medl×CSt×Int)→CSt:=fun (m,c,k)=>takeF m c k
def sp423:FSpec:=⟨[yMedl,yCSt,(.int .i64)], [yCSt],(@tt (Medl×CSt×Int)),fn423⟩
theorem run423 {m:Medl} {c:CSt} {req:Int} (h:Ty.hass [yMedl,yCSt,(.int .i64)] (m,c,req)):Runs Empty.elim (t423 std m c req) (fn423 (m,c,req)):=by
 exact dtake1
theorem so423:FSpec.Sound Tryz.prog 151 sp423:=
 w423_ok.sound _ _ fun (m,c,req) _ h=>run423 h
def t376 (A:Alg) (m:Medl) (n:Node) (c:CSt) (f:Frm):LT Node Empty:=
 .br (A.cmp .eql f.1 4)
 (.need (A.call (@tt (Cni×Int×List Int)) (n.2.2.2.2.2.2.2,c.2.1,f.2.2.2.2)) (
 .need (A.call (@tt (Medl×CSt×Int)) (m,c,f.2.1)) (
  .ret (n.1,3,(A.call fn423 (m,c,f.2.1)),(n.1,m.1,c.2.2.2.2,1,0,0,0),0,false,0,(A.call fn437 (n.2.2.2.2.2.2.2,c.2.1,f.2.2.2.2)).1))))
 (.need (A.call (@tt (Medl×CSt×Int)) (m,c,f.2.1)) (
 .ret (n.1,3,(A.call fn423 (m,c,f.2.1)),(n.1,m.1,c.2.2.2.2,1,0,0,0),0,false,0,n.2.2.2.2.2.2.2)))
noncomputable def E376 (A:Alg):Info (Ty.Ts [yNode]):={ti:=tys,fns:=[(96,Tryz.f96)],sps:=[(151,sp423),(191,sp437)],stops:=[],cuts:=[],consts:=[],fin:=finD A [yNode]}
theorem t376_ok (A:Alg) (m:Medl) (n:Node) (c:CSt) (f:Frm):run A (E376 A) 90 (startC 96 Tryz.f96 (dvals A [yMedl,yNode,yCSt,yFrm] (m,n,c,f)))=(t376 A m n c f).tr Empty.elim:=by kernel_rfl
def w376:Walk Tryz.prog 96 [yMedl,yNode,yCSt,yFrm] [yNode] Empty:=⟨fun (m,n,c,f)=>t376 std m n c f,Empty.elim⟩
theorem w376_ok:w376.Ok:=
 walk_ok (E:=E376 std) ⟨tys_fit,fns_cons Tryz.func96 (by kernel_rfl) (fns_nil),sps_cons so423 (sps_cons so437 (sps_nil)),by kernel_rfl⟩ rfl rfl rfl (by kernel_rfl) w376 Empty.elim 90 (fun (m,n,c,f)=>t376_ok std m n c f) (fun y=>y.elim)
def joinF (m:Medl) (n:Node) (c:CSt) (f:Frm):Node:=(n.1,3,takeF m c f.2.1,(n.1,m.1,c.2.2.2.2,1,0,0,0),0,false,0,bif decide (f.1=4) then (dlvF n.2.2.2.2.2.2.2 c.2.1 f.2.2.2.2).1 else n.2.2.2.2.2.2.2)
theorem djoin1 {m:Medl} {n:Node} {c:CSt} {f:Frm}:Runs Empty.elim (t376 std m n c f) (joinF m n c f):=by
 unfold t376 joinF
 refine runs_if (p:=f.1=4) eql_dec (fun h=>runs_need.2 ⟨rfl,runs_need.2 ⟨rfl,?_⟩⟩) fun h=>runs_need.2 ⟨rfl,?_⟩
 ·exact runs_r (by rw [decide_eq_true h]; rfl) (.ret _)
 ·exact runs_r (by rw [decide_eq_false h]; rfl) (.ret _)
def fn376:(Medl×Node×CSt×Frm)→Node:=fun (m,n,c,f)=>joinF m n c f
def sp376:FSpec:=⟨[yMedl,yNode,yCSt,yFrm], [yNode],(@tt (Medl×Node×CSt×Frm)),fn376⟩
theorem run376 {m:Medl} {n:Node} {c:CSt} {f:Frm} (h:Ty.hass [yMedl,yNode,yCSt,yFrm] (m,n,c,f)):Runs Empty.elim (t376 std m n c f) (fn376 (m,n,c,f)):=by
 exact djoin1
theorem so376:FSpec.Sound Tryz.prog 96 sp376:=
 w376_ok.sound _ _ fun (m,n,c,f) _ h=>run376 h
open Go.Ev.Pl
structure P324c0 where
 (a0:Bool) (a1:Int) (a2:Medl) (a3:Node) (a4 a5:Mbr) (a6:Int) (a7:Bool) (a8 a9 a10 a11:Int) (a12:Frm)
structure P324c1 where
 (b0:Int) (b1:Medl) (b2:Node) (b3 b4:Mbr) (b5:Int) (b6:Bool) (b7 b8 b9 b10:Int) (b11:Frm)
inductive Y324 where
 | c0 (p:P324c0)
 | c1 (p:P324c1)
noncomputable def cfg324:Y324→Cfg
 | .c0 p=>{frames:=[{fn:=32,n:=131,env:=(Env.put (Env.put (Env.put (Env.put (Env.put (Env.put .leaf 3 (.bool false p.a0)) 4 (.ptr 0 0)) 5 (.ptr 1 0)) 8 (.ptr 2 0)) 13 (.ptr 3 0)) 14 (.int .i64 false p.a1)),todo:=[.code (Code.way (bodyOf Tryz.f32) [1,1,1,1,1,1,1,0,0]),.code (Code.way (bodyOf Tryz.f32) [1,1,1,1,1,1,1,0,1]),.code (Code.way (bodyOf Tryz.f32) [1,1,1,1,1,1,1,1])],marks:=[],rnd:=none}],mem:=[.flat false [.int .i64 false p.a2.1,.int .i64 false p.a2.2.1,.int .i64 false p.a2.2.2.1,.int .i64 false p.a2.2.2.2.1,.int .i64 false p.a2.2.2.2.2.1,.int .i64 false p.a2.2.2.2.2.2.1,.sl .bool p.a2.2.2.2.2.2.2.1,.sl yMode p.a2.2.2.2.2.2.2.2],.flat false [.int .i64 false p.a3.1,.int .i64 false p.a3.2.1,.int .i64 false p.a3.2.2.1.1,.int .i64 false p.a3.2.2.1.2.1,.int .i64 false p.a3.2.2.1.2.2.1,.int .i64 false p.a3.2.2.1.2.2.2.1,.int .i64 false p.a3.2.2.1.2.2.2.2,.int .i64 false p.a3.2.2.2.1.1,.int .i64 false p.a3.2.2.2.1.2.1,.int .i64 false p.a3.2.2.2.1.2.2.1,.int .i64 false p.a3.2.2.2.1.2.2.2.1,.int .i64 false p.a3.2.2.2.1.2.2.2.2.1,.int .i64 false p.a3.2.2.2.1.2.2.2.2.2.1,.int .i64 false p.a3.2.2.2.1.2.2.2.2.2.2,.int .i64 false p.a3.2.2.2.2.1,.bool false p.a3.2.2.2.2.2.1,.int .i64 false p.a3.2.2.2.2.2.2.1,.int .i64 false p.a3.2.2.2.2.2.2.2.1,.sl (.int .u8) p.a3.2.2.2.2.2.2.2.2.1,.sl yMsg p.a3.2.2.2.2.2.2.2.2.2.1,.int .i64 false p.a3.2.2.2.2.2.2.2.2.2.2.1,.int .i64 false p.a3.2.2.2.2.2.2.2.2.2.2.2],.flat false [.int .i64 false p.a4.1,.int .i64 false p.a4.2.1,.int .i64 false p.a4.2.2.1,.int .i64 false p.a4.2.2.2.1,.int .i64 false p.a4.2.2.2.2.1,.int .i64 false p.a4.2.2.2.2.2.1,.int .i64 false p.a4.2.2.2.2.2.2,.int .i64 false p.a5.1,.int .i64 false p.a5.2.1,.int .i64 false p.a5.2.2.1,.int .i64 false p.a5.2.2.2.1,.int .i64 false p.a5.2.2.2.2.1,.int .i64 false p.a5.2.2.2.2.2.1,.int .i64 false p.a5.2.2.2.2.2.2,.int .i64 false p.a6,.bool false p.a7,.int .i64 false p.a8,.int .i64 false p.a9,.esl true,.esl true,.int .i64 false p.a10,.int .i64 false p.a11],.flat false [.int .i64 false p.a12.1,.int .i64 false p.a12.2.1,.int .i64 false p.a12.2.2.1.1,.int .i64 false p.a12.2.2.1.2.1,.int .i64 false p.a12.2.2.1.2.2.1,.int .i64 false p.a12.2.2.1.2.2.2.1,.int .i64 false p.a12.2.2.1.2.2.2.2,.int .i64 false p.a12.2.2.2.1,.sl (.int .u8) p.a12.2.2.2.2],.dead]}
 | .c1 p=>{frames:=[{fn:=32,n:=131,env:=(Env.put (Env.put (Env.put (Env.put (Env.put .leaf 4 (.ptr 0 0)) 5 (.ptr 1 0)) 8 (.ptr 2 0)) 13 (.ptr 3 0)) 14 (.int .i64 false p.b0)),todo:=[.code (Code.way (bodyOf Tryz.f32) [1,1,1,1,1,1,1,1,0,0]),.code (Code.way (bodyOf Tryz.f32) [1,1,1,1,1,1,1,1,0,1]),.code (Code.way (bodyOf Tryz.f32) [1,1,1,1,1,1,1,1,1])],marks:=[],rnd:=none}],mem:=[.flat false [.int .i64 false p.b1.1,.int .i64 false p.b1.2.1,.int .i64 false p.b1.2.2.1,.int .i64 false p.b1.2.2.2.1,.int .i64 false p.b1.2.2.2.2.1,.int .i64 false p.b1.2.2.2.2.2.1,.sl .bool p.b1.2.2.2.2.2.2.1,.sl yMode p.b1.2.2.2.2.2.2.2],.flat false [.int .i64 false p.b2.1,.int .i64 false p.b2.2.1,.int .i64 false p.b2.2.2.1.1,.int .i64 false p.b2.2.2.1.2.1,.int .i64 false p.b2.2.2.1.2.2.1,.int .i64 false p.b2.2.2.1.2.2.2.1,.int .i64 false p.b2.2.2.1.2.2.2.2,.int .i64 false p.b2.2.2.2.1.1,.int .i64 false p.b2.2.2.2.1.2.1,.int .i64 false p.b2.2.2.2.1.2.2.1,.int .i64 false p.b2.2.2.2.1.2.2.2.1,.int .i64 false p.b2.2.2.2.1.2.2.2.2.1,.int .i64 false p.b2.2.2.2.1.2.2.2.2.2.1,.int .i64 false p.b2.2.2.2.1.2.2.2.2.2.2,.int .i64 false p.b2.2.2.2.2.1,.bool false p.b2.2.2.2.2.2.1,.int .i64 false p.b2.2.2.2.2.2.2.1,.int .i64 false p.b2.2.2.2.2.2.2.2.1,.sl (.int .u8) p.b2.2.2.2.2.2.2.2.2.1,.sl yMsg p.b2.2.2.2.2.2.2.2.2.2.1,.int .i64 false p.b2.2.2.2.2.2.2.2.2.2.2.1,.int .i64 false p.b2.2.2.2.2.2.2.2.2.2.2.2],.flat false [.int .i64 false p.b3.1,.int .i64 false p.b3.2.1,.int .i64 false p.b3.2.2.1,.int .i64 false p.b3.2.2.2.1,.int .i64 false p.b3.2.2.2.2.1,.int .i64 false p.b3.2.2.2.2.2.1,.int .i64 false p.b3.2.2.2.2.2.2,.int .i64 false p.b4.1,.int .i64 false p.b4.2.1,.int .i64 false p.b4.2.2.1,.int .i64 false p.b4.2.2.2.1,.int .i64 false p.b4.2.2.2.2.1,.int .i64 false p.b4.2.2.2.2.2.1,.int .i64 false p.b4.2.2.2.2.2.2,.int .i64 false p.b5,.bool false p.b6,.int .i64 false p.b7,.int .i64 false p.b8,.esl true,.esl true,.int .i64 false p.b9,.int .i64 false p.b10],.flat false [.int .i64 false p.b11.1,.int .i64 false p.b11.2.1,.int .i64 false p.b11.2.2.1.1,.int .i64 false p.b11.2.2.1.2.1,.int .i64 false p.b11.2.2.1.2.2.1,.int .i64 false p.b11.2.2.1.2.2.2.1,.int .i64 false p.b11.2.2.1.2.2.2.2,.int .i64 false p.b11.2.2.2.1,.sl (.int .u8) p.b11.2.2.2.2],.dead]}
def t324 (A:Alg) (m:Medl) (n:Node) (seen:List Seen) (once:Bool):LT (Node×Int×Bool×Int) Y324:=
 .need (A.call (@tt (Medl×Node)) (m,n)) (
 .br (A.cmp .neq (A.call fn334 (m,n)) 0)
 (.ret ((0,0,(0,0,0,0,0),(0,0,0,0,0,0,0),0,false,0,0,([]:List Int),([]:List Msg),0,0),0,false,(A.call fn334 (m,n))))
 (.br (A.cmp .neq n.2.1 1)
  (.ret ((0,0,(0,0,0,0,0),(0,0,0,0,0,0,0),0,false,0,0,([]:List Int),([]:List Msg),0,0),0,false,181))
  (.br (A.cmp .neq (A.len seen) 2)
  (.ret ((0,0,(0,0,0,0,0),(0,0,0,0,0,0,0),0,false,0,0,([]:List Int),([]:List Msg),0,0),0,false,2))
  (.need (A.call pre373 n) (
   .need (A.call (@tt (Int×List Seen)) (m.1,seen)) (
   .br (A.not (A.call fn374 (m.1,seen)).2.2)
    (.ret ((A.call fn373 n),0,false,0))
    (.br (A.cmp .eql (A.call fn374 (m.1,seen)).1.1 1)
    (.br (A.cmp .eql (A.call fn374 (m.1,seen)).1.2.2.2.1 (A.call fn373 n).1)
     (.ret ((A.call fn373 n),0,false,0))
     (.more (.c0 ⟨once,(A.call fn374 (m.1,seen)).2.1,m,(A.call fn373 n),(0,0,0,0,0,0,0),(0,0,0,0,0,0,0),0,false,0,0,0,0,(A.call fn374 (m.1,seen)).1⟩)))
    (.more (.c0 ⟨once,(A.call fn374 (m.1,seen)).2.1,m,(A.call fn373 n),(0,0,0,0,0,0,0),(0,0,0,0,0,0,0),0,false,0,0,0,0,(A.call fn374 (m.1,seen)).1⟩)))))))))
def s324 (A:Alg):Y324→LT (Node×Int×Bool×Int) Y324
 | .c0 p=>
  .br (A.cmp .eql p.a12.1 1)
  (.br p.a0
   (.br (A.not p.a3.2.2.2.2.2.1)
   (.need (A.call (@tt (Medl×Int)) (p.a2,p.a3.1)) (
    .ret ((p.a3.1,p.a3.2.1,p.a3.2.2.1,p.a3.2.2.2.1,(A.call fn375 (p.a2,p.a3.1)).1,true,p.a3.2.2.2.2.2.2),p.a1,false,0)))
   (.more (.c1 ⟨p.a1,p.a2,p.a3,p.a4,p.a5,p.a6,p.a7,p.a8,p.a9,p.a10,p.a11,p.a12⟩)))
   (.more (.c1 ⟨p.a1,p.a2,p.a3,p.a4,p.a5,p.a6,p.a7,p.a8,p.a9,p.a10,p.a11,p.a12⟩)))
  (.more (.c1 ⟨p.a1,p.a2,p.a3,p.a4,p.a5,p.a6,p.a7,p.a8,p.a9,p.a10,p.a11,p.a12⟩))
 | .c1 p=>
  .br (A.cmp .eql p.b11.1 1)
  (.need (A.cmp .leq 0 (A.conv .u64 p.b11.2.2.2.1)) (
   .need (A.call (@tt (Medl×Node×CSt×Frm)) (p.b1,p.b2,(0,p.b11.2.2.2.1,0,0,(A.bin .shl .i64 1 (A.conv .u64 p.b11.2.2.2.1))),p.b11)) (
   .ret ((A.call fn376 (p.b1,p.b2,(0,p.b11.2.2.2.1,0,0,(A.bin .shl .i64 1 (A.conv .u64 p.b11.2.2.2.1))),p.b11)),p.b0,true,0))))
  (.need (A.call (@tt (Medl×CSt)) (p.b1,p.b11.2.2.1)) (
   .br (A.not (A.call fn377 (p.b1,p.b11.2.2.1)))
   (.ret (p.b2,0,false,0))
   (.br (A.cmp .eql p.b11.2.2.1.2.1 p.b2.1)
    (.ret (p.b2,0,false,0))
    (.need (A.call (@tt (CSt×Int)) (p.b11.2.2.1,p.b11.2.2.1.2.1)) (
    .br (A.not (A.call fn378 (p.b11.2.2.1,p.b11.2.2.1.2.1)))
     (.ret (p.b2,0,false,0))
     (.need (A.call (@tt (Medl×CSt×Frm)) (p.b1,p.b11.2.2.1,p.b11)) (
     .br (A.not (A.call fn379 (p.b1,p.b11.2.2.1,p.b11)))
      (.ret (p.b2,0,false,0))
      (.need (A.call (@tt (Medl×Node×CSt×Frm)) (p.b1,p.b2,p.b11.2.2.1,p.b11)) (
      .ret ((A.call fn376 (p.b1,p.b2,p.b11.2.2.1,p.b11)),p.b0,true,0))))))))))
noncomputable def E324 (A:Alg):Info (Ty.Ts [yNode,(.int .i64),.bool,(.int .i64)]):={ti:=tys,fns:=[(32,Tryz.f32)],sps:=[(42,sp334),(93,sp373),(94,sp374),(95,sp375),(96,sp376),(97,sp377),(98,sp378),(99,sp379)],stops:=[],cuts:=[⟨32,12, [[3,4,5,8,13,14]]⟩,⟨32,16, [[4,5,8,13,14]]⟩],consts:=[],fin:=finD A [yNode,(.int .i64),.bool,(.int .i64)]}
theorem t324_ok (A:Alg) (m:Medl) (n:Node) (seen:List Seen) (once:Bool):run A (E324 A) 96 (startC 32 Tryz.f32 (dvals A [yMedl,yNode,(.slice ySeen),.bool] (m,n,seen,once)))=(t324 A m n seen once).tr cfg324:=by kernel_rfl
theorem s324_ok (A:Alg):∀y,∃n,run A (E324 A) n (advance (E324 A).sps (cfg324 y))=(s324 A y).tr cfg324
 | .c0 p=>⟨45,by kernel_rfl⟩
 | .c1 p=>⟨62,by kernel_rfl⟩
def w324:Walk Tryz.prog 32 [yMedl,yNode,(.slice ySeen),.bool] [yNode,(.int .i64),.bool,(.int .i64)] Y324:=⟨fun (m,n,seen,once)=>t324 std m n seen once,s324 std⟩
theorem w324_ok:w324.Ok:=
 walk_ok (E:=E324 std) ⟨tys_fit,fns_cons Tryz.func32 (by kernel_rfl) (fns_nil),sps_cons so334 (sps_cons so373 (sps_cons so374 (sps_cons so375 (sps_cons so376 (sps_cons so377 (sps_cons so378 (sps_cons so379 (sps_nil)))))))),by kernel_rfl⟩ rfl rfl rfl (by kernel_rfl) w324 cfg324 96 (fun (m,n,seen,once)=>t324_ok std m n seen once) (s324_ok std)
def herF (m:Medl) (n:Node) (seen:List Seen) (once:Bool):Node×Int×Bool×Int:=
 bif decide (nodF m n=0) then
  bif decide (n.2.1=1) then
   bif decide ((seen.length:Int)=2) then
    bif (expF m.1 seen).2.2 then
     bif decide ((expF m.1 seen).1.1=1) then
      bif decide ((expF m.1 seen).1.2.2.2.1=n.1) then (n,0,false,0)
      else bif once && !n.2.2.2.2.2.1 then ((n.1,n.2.1,n.2.2.1,n.2.2.2.1,(lisF m n.1).1,true,n.2.2.2.2.2.2),(expF m.1 seen).2.1,false,0)
      else (joinF m n (0,(expF m.1 seen).1.2.2.2.1,0,0,std.bin .shl .i64 1 (expF m.1 seen).1.2.2.2.1) (expF m.1 seen).1,(expF m.1 seen).2.1,true,0)
     else bif mjF m n (expF m.1 seen).1 then (joinF m n (expF m.1 seen).1.2.2.1 (expF m.1 seen).1,(expF m.1 seen).2.1,true,0)
     else (n,0,false,0)
    else (n,0,false,0)
   else (zNode,0,false,2)
  else (zNode,0,false,181)
 else (zNode,0,false,nodF m n)
theorem dher_c1 {p:P324c1} {m:Medl} {n:Node} {f:Frm} {t:Int} (h0:p.b0=t) (h1:p.b1=m) (h2:p.b2=n) (hf:p.b11=f) (hl:0≤f.2.2.2.1∧f.2.2.2.1≤7):Runs (s324 std) (.more (.c1 p)) (bif decide (f.1=1) then (joinF m n (0,f.2.2.2.1,0,0,std.bin .shl .i64 1 f.2.2.2.1) f,t,true,0) else bif mjF m n f then (joinF m n f.2.2.1 f,t,true,0) else (n,0,false,0)):=by
 rw [runs_more,s324,h0,h1,h2,hf,conv_8 (k:=f.2.2.2.1) (by omega)]
 refine runs_if (p:=f.1=1) eql_dec (fun h=>runs_need.2 ⟨decide_eq_true hl.1,runs_need.2 ⟨rfl,?_⟩⟩) fun h=>runs_need.2 ⟨rfl,?_⟩
 ·exact runs_r (by rw [decide_eq_true h]; rfl) (.ret _)
 rw [decide_eq_false h,cond_false,mjF,show std.call fn377 (m,f.2.2.1)=fitsF m f.2.2.1 from rfl,show std.call fn378 (f.2.2.1,f.2.2.1.2.1)=hasF f.2.2.1 f.2.2.1.2.1 from rfl,show std.call fn379 (m,f.2.2.1,f)=lsdF m f.2.2.1 f from rfl]
 cases fitsF m f.2.2.1
 ·exact (runs_brT rfl).2 (.ret _)
 refine (runs_brF rfl).2 (runs_if (p:=f.2.2.1.2.1=n.1) eql_dec (fun h=>runs_r (by rw [decide_eq_false (not_not_intro h)]; rfl) (.ret _)) fun h=>runs_need.2 ⟨rfl,?_⟩)
 rw [decide_eq_true h]
 cases hasF f.2.2.1 f.2.2.1.2.1
 ·exact (runs_brT rfl).2 (.ret _)
 refine (runs_brF rfl).2 (runs_need.2 ⟨rfl,?_⟩)
 cases lsdF m f.2.2.1 f
 ·exact (runs_brT rfl).2 (.ret _)
 ·exact (runs_brF rfl).2 (runs_need.2 ⟨rfl,.ret _⟩)
theorem dher_c0 {p:P324c0} {m:Medl} {n:Node} {f:Frm} {t:Int} {o:Bool} (h0:p.a0=o) (h1:p.a1=t) (h2:p.a2=m) (h3:p.a3=n) (hf:p.a12=f) (hl:0≤f.2.2.2.1∧f.2.2.2.1≤7):Runs (s324 std) (.more (.c0 p)) (bif decide (f.1=1) then (bif o && !n.2.2.2.2.2.1 then ((n.1,n.2.1,n.2.2.1,n.2.2.2.1,(lisF m n.1).1,true,n.2.2.2.2.2.2),t,false,0) else (joinF m n (0,f.2.2.2.1,0,0,std.bin .shl .i64 1 f.2.2.2.1) f,t,true,0)) else bif mjF m n f then (joinF m n f.2.2.1 f,t,true,0) else (n,0,false,0)):=by
 have nx:=fun {a b c d e g i j}=>dher_c1 (p:=⟨t,m,n,a,b,c,d,e,g,i,j,f⟩) (m:=m) (n:=n) (f:=f) (t:=t) rfl rfl rfl rfl hl
 rw [runs_more,s324,h0,h1,h2,h3,hf]
 refine runs_if (p:=f.1=1) eql_dec (fun h=>?_) fun h=>?_
 ·rw [decide_eq_true h,cond_true] at nx ⊢
  cases o
  ·exact (runs_brF rfl).2 nx
  refine (runs_brT rfl).2 ?_
  cases hb:n.2.2.2.2.2.1
  ·exact (runs_brT rfl).2 (runs_need.2 ⟨rfl,.ret _⟩)
  ·exact (runs_brF rfl).2 nx
 ·rw [decide_eq_false h,cond_false] at nx ⊢
  exact nx
theorem dher1 {m:Medl} {n:Node} {seen:List Seen} {o:Bool}:Runs (s324 std) (t324 std m n seen o) (herF m n seen o):=by
 unfold t324 herF
 refine runs_need.2 ⟨rfl,?_⟩
 rw [show std.call fn334 (m,n)=nodF m n from rfl]
 by_cases h:nodF m n=0
 ·rw [decide_eq_true h,cond_true]
  refine (runs_brF (cne0 h)).2 (runs_if (p:=¬n.2.1=1) cneq_dec (fun h1=>runs_r (by rw [decide_eq_false h1]; rfl) (.ret _)) fun h1=>?_)
  rw [decide_eq_true (Decidable.not_not.1 h1),cond_true]
  refine runs_if (p:=¬(seen.length:Int)=2) cneq_dec (fun h2=>runs_r (by rw [decide_eq_false h2]; rfl) (.ret _)) fun h2=>runs_need.2 ⟨nod_cni h,runs_need.2 ⟨rfl,?_⟩⟩
  rw [decide_eq_true (Decidable.not_not.1 h2),cond_true,show std.call fn374 (m.1,seen)=expF m.1 seen from rfl,show std.call fn373 n=n from rfl]
  cases he:(expF m.1 seen).2.2
  ·exact (runs_brT rfl).2 (.ret _)
  obtain ⟨e1,e2,e3⟩:=exp_in he
  have hl:=fr_low e3
  have nx:=fun {a b c d e g i j}=>dher_c0 (p:=⟨o,(expF m.1 seen).2.1,m,n,a,b,c,d,e,g,i,j,(expF m.1 seen).1⟩) (m:=m) (n:=n) (f:=(expF m.1 seen).1) (t:=(expF m.1 seen).2.1) rfl rfl rfl rfl rfl ⟨hl.1,hl.2.1⟩
  generalize expF m.1 seen=x at *
  refine (runs_brF rfl).2 (runs_if (p:=x.1.1=1) eql_dec (fun h3=>runs_if (p:=x.1.2.2.2.1=n.1) eql_dec (fun h4=>?_) fun h4=>?_) fun h3=>?_)
  ·exact runs_r (by rw [decide_eq_true h3,decide_eq_true h4]; rfl) (.ret _)
  ·rw [decide_eq_true h3] at nx
   rw [decide_eq_true h3,decide_eq_false h4,cond_true,cond_true,cond_false]
   exact nx
  ·rw [decide_eq_false h3] at nx
   rw [decide_eq_false h3,cond_true,cond_false]
   exact nx
 ·rw [decide_eq_false h]; exact (runs_brT (cne1 h)).2 (.ret _)
def fn324:(Medl×Node×List Seen×Bool)→(Node×Int×Bool×Int):=fun (m,n,s,o)=>herF m n s o
def sp324:FSpec:=⟨[yMedl,yNode,(.slice ySeen),.bool], [yNode,(.int .i64),.bool,(.int .i64)],(@tt (Medl×Node×List Seen×Bool)),fn324⟩
theorem run324 {m:Medl} {n:Node} {seen:List Seen} {once:Bool} (h:Ty.hass [yMedl,yNode,(.slice ySeen),.bool] (m,n,seen,once)):Runs (s324 std) (t324 std m n seen once) (fn324 (m,n,seen,once)):=by
 exact dher1
theorem so324:FSpec.Sound Tryz.prog 32 sp324:=
 w324_ok.sound _ _ fun (m,n,seen,once) _ h=>run324 h
theorem dlv_ok {m:Medl} {n:Node} {f:Frm} (hn:nodF m n=0) (hf:frOk f=true) (hj:mjF m n f=true):(dlvF n.2.2.2.2.2.2.2 f.2.2.1.2.1 f.2.2.2.2).2=0:=by
 have hd:=nod_iff.1 (nod_zero hn).2
 simp only [mjF,Bool.and_eq_true,lsdF,decide_eq_true_eq] at hj
 have hk:=kind_zero hj.2.2.2.1
 simp only [frOk,Bool.and_eq_true,decide_eq_true_eq] at hf
 have h8:=hf.1.2
 have e6:=hd.2.2.2.2.2.1
 rw [dlvF,hd.2.2.2.1,decide_eq_true (show 0≤f.2.2.1.2.1∧f.2.2.1.2.1≤(n.2.2.2.2.2.2.2.2.2.1.length:Int) - 1 by rw [e6]; exact hk.2.1),decide_eq_false (show ¬8 < (f.2.2.2.2.length:Int) by omega)]
 rfl
open Go.Ev.Pl
theorem scmp_same {x:List UInt8}:std.scmp .neq x x=false:=by show (!(x == x))=false; simp
theorem cmp_same {x:Int}:std.cmp .neq x x=false:=by rw [cneq_dec]; simp
instance:DecidableEq Msg:=inferInstanceAs (DecidableEq (List Int×Int))
instance:DecidableEq CSt:=inferInstanceAs (DecidableEq (Int×Int×Int×Int×Int))
instance:DecidableEq Mbr:=inferInstanceAs (DecidableEq (Int×Int×Int×Int×Int×Int×Int))
instance:DecidableEq Cni:=inferInstanceAs (DecidableEq (Int×List Int×List Msg×Int×Int))
def decN1:DecidableEq (Int×Bool×Int×Cni):=inferInstance
def decN2:DecidableEq (CSt×Mbr×Int×Bool×Int×Cni):=have:=decN1; inferInstance
instance:DecidableEq Node:=have:=decN2; inferInstanceAs (DecidableEq (Int×Int×(CSt×Mbr×Int×Bool×Int×Cni)))
structure P343c0 where
 (a1 a2:Cni)
inductive Y343 where
 | c0 (p:P343c0) (a0:Int)
noncomputable def cfg343:Y343→Cfg
 | .c0 p a0=>{frames:=[{fn:=51,n:=80,env:=(Env.put (Env.put (Env.put .leaf 2 (.ptr 0 0)) 3 (.ptr 1 0)) 5 (.int .i64 false a0)),todo:=[.inLoop (Code.way (bodyOf Tryz.f51) [1,1,0,1,0,0]),.inBlock 0,.code (Code.way (bodyOf Tryz.f51) [1,1,1])],marks:=[],rnd:=none}],mem:=[.flat false [.int .i64 false p.a1.1,.sl (.int .u8) p.a1.2.1,.sl yMsg p.a1.2.2.1,.int .i64 false p.a1.2.2.2.1,.int .i64 false p.a1.2.2.2.2],.flat false [.int .i64 false p.a2.1,.sl (.int .u8) p.a2.2.1,.sl yMsg p.a2.2.2.1,.int .i64 false p.a2.2.2.2.1,.int .i64 false p.a2.2.2.2.2],.dead]}
def t343 (A:Alg) (a:Cni) (b:Cni):LT Bool Y343:=
 .br (A.cmp .neq a.1 b.1)
 (.ret false)
 (.br (A.scmp .neq (A.bytes a.2.1) (A.bytes b.2.1))
 (.ret false)
 (.br (A.cmp .neq a.2.2.2.1 b.2.2.2.1)
  (.ret false)
  (.br (A.cmp .neq a.2.2.2.2 b.2.2.2.2)
  (.ret false)
  (.br (A.cmp .neq (A.len a.2.2.1) (A.len b.2.2.1))
   (.ret false)
   (.more (.c0 ⟨a,b⟩ 0))))))
def s343 (A:Alg):Y343→LT Bool Y343
 | .c0 p a0=>
  .br (A.cmp .lss a0 (A.len p.a1.2.2.1))
  (.need (A.and (A.cmp .leq 0 a0) (A.cmp .lss a0 (A.len p.a1.2.2.1))) (
   .need (A.and (A.cmp .leq 0 a0) (A.cmp .lss a0 (A.len p.a2.2.2.1))) (
   .br (A.scmp .neq (A.bytes (A.nth yMsg p.a1.2.2.1 a0:Msg).1) (A.bytes (A.nth yMsg p.a2.2.2.1 a0:Msg).1))
    (.ret false)
    (.need (A.and (A.cmp .leq 0 a0) (A.cmp .lss a0 (A.len p.a1.2.2.1))) (
    .need (A.and (A.cmp .leq 0 a0) (A.cmp .lss a0 (A.len p.a2.2.2.1))) (
     .br (A.cmp .neq (A.nth yMsg p.a1.2.2.1 a0:Msg).2 (A.nth yMsg p.a2.2.2.1 a0:Msg).2)
     (.ret false)
     (.more (.c0 p (A.bin .add .i64 a0 1)))))))))
  (.ret true)
noncomputable def E343 (A:Alg):Info (Ty.Ts [.bool]):={ti:=tys,fns:=[(51,Tryz.f51)],sps:=[],stops:=[⟨51,4, [[2,3,5]]⟩],cuts:=[],consts:=[],fin:=finD A [.bool]}
theorem t343_ok (A:Alg) (a:Cni) (b:Cni):run A (E343 A) 62 (startC 51 Tryz.f51 (dvals A [yCni,yCni] (a,b)))=(t343 A a b).tr cfg343:=by kernel_rfl
theorem s343_ok (A:Alg):∀y,∃n,run A (E343 A) n (advance (E343 A).sps (cfg343 y))=(s343 A y).tr cfg343
 | .c0 p a0=>⟨60,by kernel_rfl⟩
def w343:Walk Tryz.prog 51 [yCni,yCni] [.bool] Y343:=⟨fun (a,b)=>t343 std a b,s343 std⟩
theorem w343_ok:w343.Ok:=
 walk_ok (E:=E343 std) ⟨tys_fit,fns_cons Tryz.func51 (by kernel_rfl) (fns_nil),sps_nil,by kernel_rfl⟩ rfl rfl rfl (by kernel_rfl) w343 cfg343 62 (fun (a,b)=>t343_ok std a b) (s343_ok std)
theorem same_loop {c:Cni} (hl:c.2.2.1.length≤140737488355328):∀(j i:Nat),c.2.2.1.length - i=j→i≤c.2.2.1.length→Runs (s343 std) (.more (.c0 ⟨c,c⟩ (i:Int))) true:=by
 intro j
 induction j with
 | zero=>
  intro i hj hi
  rw [runs_more,s343]
  exact (runs_brF (by rw [lss_len]; exact decide_eq_false (show ¬i < c.2.2.1.length by omega))).2 (.ret _)
 | succ j ih=>
  intro i hj hi
  have hi':i < c.2.2.1.length:=by omega
  rw [runs_more,s343]
  refine (runs_brT (by rw [lss_len]; exact decide_eq_true hi')).2 (runs_need.2 ⟨need_ix hi',runs_need.2 ⟨need_ix hi',(runs_brF scmp_same).2 (runs_need.2 ⟨need_ix hi',runs_need.2 ⟨need_ix hi',(runs_brF cmp_same).2 ?_⟩⟩)⟩⟩)
  rw [inc1 (i:=i) (by omega)]
  exact ih (i + 1) (by omega) (by omega)
theorem same1_ {a b:Cni} (hl:a.2.2.1.length≤140737488355328) (h:a=b):Runs (s343 std) (t343 std a b) true:=by
 subst h
 unfold t343
 refine (runs_brF (by rw [cneq_dec]; simp)).2 ((runs_brF scmp_same).2 ((runs_brF (by rw [cneq_dec]; simp)).2 ((runs_brF (by rw [cneq_dec]; simp)).2 ((runs_brF (by rw [cneq_dec]; simp)).2 (same_loop hl _ 0 rfl (by omega))))))
def fn343:(Cni×Cni)→Bool:=fun _=>true
def pre343:(Cni×Cni)→Bool:=fun (a,b)=>decide (a=b)
def sp343:FSpec:=⟨[yCni,yCni], [.bool],pre343,fn343⟩
theorem run343 {a:Cni} {b:Cni} (h:Ty.hass [yCni,yCni] (a,b)) (hp:pre343 (a,b)=true):Runs (s343 std) (t343 std a b) (fn343 (a,b)):=by
 exact same1_ h.1.2.2.1.1 (of_decide_eq_true hp)
theorem so343:FSpec.Sound Tryz.prog 51 sp343:=
 w343_ok.sound _ _ fun (a,b) hp h=>run343 h hp
def t325 (A:Alg) (a:Node) (b:Node):LT Bool Empty:=
 .br (A.cmp .eql a.1 b.1)
 (.br (A.cmp .eql a.2.1 b.2.1)
 (.br (A.and (A.cmp .eql a.2.2.1.1 b.2.2.1.1) (A.and (A.cmp .eql a.2.2.1.2.1 b.2.2.1.2.1) (A.and (A.cmp .eql a.2.2.1.2.2.1 b.2.2.1.2.2.1) (A.and (A.cmp .eql a.2.2.1.2.2.2.1 b.2.2.1.2.2.2.1) (A.and (A.cmp .eql a.2.2.1.2.2.2.2 b.2.2.1.2.2.2.2) true)))))
  (.br (A.and (A.cmp .eql a.2.2.2.1.1 b.2.2.2.1.1) (A.and (A.cmp .eql a.2.2.2.1.2.1 b.2.2.2.1.2.1) (A.and (A.cmp .eql a.2.2.2.1.2.2.1 b.2.2.2.1.2.2.1) (A.and (A.cmp .eql a.2.2.2.1.2.2.2.1 b.2.2.2.1.2.2.2.1) (A.and (A.cmp .eql a.2.2.2.1.2.2.2.2.1 b.2.2.2.1.2.2.2.2.1) (A.and (A.cmp .eql a.2.2.2.1.2.2.2.2.2.1 b.2.2.2.1.2.2.2.2.2.1) (A.and (A.cmp .eql a.2.2.2.1.2.2.2.2.2.2 b.2.2.2.1.2.2.2.2.2.2) true)))))))
  (.br (A.cmp .eql a.2.2.2.2.1 b.2.2.2.2.1)
   (.br (A.beq a.2.2.2.2.2.1 b.2.2.2.2.2.1)
   (.br (A.cmp .eql a.2.2.2.2.2.2.1 b.2.2.2.2.2.2.1)
    (.need (A.call pre343 (a.2.2.2.2.2.2.2,b.2.2.2.2.2.2.2)) (
    .ret (A.call fn343 (a.2.2.2.2.2.2.2,b.2.2.2.2.2.2.2))))
    (.ret false))
   (.ret false))
   (.ret false))
  (.ret false))
  (.ret false))
 (.ret false))
 (.ret false)
noncomputable def E325 (A:Alg):Info (Ty.Ts [.bool]):={ti:=tys,fns:=[(33,Tryz.f33)],sps:=[(51,sp343)],stops:=[],cuts:=[],consts:=[],fin:=finD A [.bool]}
theorem t325_ok (A:Alg) (a:Node) (b:Node):run A (E325 A) 70 (startC 33 Tryz.f33 (dvals A [yNode,yNode] (a,b)))=(t325 A a b).tr Empty.elim:=by kernel_rfl
def w325:Walk Tryz.prog 33 [yNode,yNode] [.bool] Empty:=⟨fun (a,b)=>t325 std a b,Empty.elim⟩
theorem w325_ok:w325.Ok:=
 walk_ok (E:=E325 std) ⟨tys_fit,fns_cons Tryz.func33 (by kernel_rfl) (fns_nil),sps_cons so343 (sps_nil),by kernel_rfl⟩ rfl rfl rfl (by kernel_rfl) w325 Empty.elim 70 (fun (a,b)=>t325_ok std a b) (fun y=>y.elim)
theorem nsame1 {a b:Node} (h:a=b):Runs Empty.elim (t325 std a b) true:=by
 subst h
 unfold t325
 have e:∀x:Int,std.cmp .eql x x=true:=fun x=>by rw [eql_dec]; simp
 refine (runs_brT (e _)).2 ((runs_brT (e _)).2 ((runs_brT (by rw [e,e,e,e,e]; rfl)).2 ((runs_brT (by rw [e,e,e,e,e,e,e]; rfl)).2 ((runs_brT (e _)).2 ((runs_brT (by rw [std_beq]; simp)).2 ((runs_brT (e _)).2 (runs_need.2 ⟨decide_eq_true rfl,.ret _⟩)))))))
def fn325:(Node×Node)→Bool:=fun _=>true
def pre325:(Node×Node)→Bool:=fun (a,b)=>decide (a=b)
def sp325:FSpec:=⟨[yNode,yNode], [.bool],pre325,fn325⟩
theorem run325 {a:Node} {b:Node} (h:Ty.hass [yNode,yNode] (a,b)) (hp:pre325 (a,b)=true):Runs Empty.elim (t325 std a b) (fn325 (a,b)):=by
 exact nsame1 (of_decide_eq_true hp)
theorem so325:FSpec.Sound Tryz.prog 33 sp325:=
 w325_ok.sound _ _ fun (a,b) hp h=>run325 h hp
theorem few_ok {l:List Seen}:std.and (std.cmp .leq 0 0) (std.and (std.cmp .leq 0 (std.mn (std.len l) 9)) (std.cmp .leq (std.mn (std.len l) 9) (std.len l)))=true:=by
 rw [lenI,std_mn,std_cmp_leq,std_cmp_leq,std_cmp_leq,std_and,std_and]
 split <;> simp <;> omega
end Go.Ev.M
