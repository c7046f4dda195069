/-
  PROVED: what starctl.Check, New, Power and Hear compute. Conditions: none.
-/
import Derived.Test.YtafbddhnoacldaaGreatCc
namespace Go.Ev.M
open Go.Proofs
set_option maxRecDepth 100000
set_option linter.unusedVariables false
set_option linter.unusedSimpArgs false
open Go.Ev.Pl
def t344 (A:Alg) (m:Medl) (id:Int):LT (Node×Int) Empty:=
 .need (A.call (@tt Medl) m) (
 .br (A.cmp .neq (A.call fn124 m) 0)
 (.ret ((0,0,(0,0,0,0,0),(0,0,0,0,0,0,0),0,false,0,0,([]:List Int),([]:List Msg),0,0),(A.call fn124 m)))
 (.need (A.call (@tt (Int×Int)) (id,m.1)) (
  .br (A.cmp .eql (A.call fn386 (id,m.1)).2 0)
  (.ret ((id,0,(0,0,0,0,0),(0,0,0,0,0,0,0),0,false,0,(A.call fn386 (id,m.1)).1),0))
  (.ret ((0,0,(0,0,0,0,0),(0,0,0,0,0,0,0),0,false,0,0,([]:List Int),([]:List Msg),0,0),2)))))
noncomputable def E344 (A:Alg):Info (Ty.Ts [yNode,(.int .i64)]):={ti:=tys,fns:=[(52,Tryz.f52)],sps:=[(81,sp124),(106,sp386)],stops:=[],cuts:=[],consts:=[],fin:=finD A [yNode,(.int .i64)]}
theorem t344_ok (A:Alg) (m:Medl) (id:Int):run A (E344 A) 54 (startC 52 Tryz.f52 (dvals A [yMedl,(.int .i64)] (m,id)))=(t344 A m id).tr Empty.elim:=by kernel_rfl
def w344:Walk Tryz.prog 52 [yMedl,(.int .i64)] [yNode,(.int .i64)] Empty:=⟨fun (m,id)=>t344 std m id,Empty.elim⟩
theorem w344_ok:w344.Ok:=
 walk_ok (E:=E344 std) ⟨tys_fit,fns_cons Tryz.func52 (by kernel_rfl) (fns_nil),sps_cons so124 (sps_cons so386 (sps_nil)),by kernel_rfl⟩ rfl rfl rfl (by kernel_rfl) w344 Empty.elim 54 (fun (m,id)=>t344_ok std m id) (fun y=>y.elim)
theorem pnnew2 {m:Medl} {id:Int}:Runs Empty.elim (t344 std m id) (nnewF m id):=by
 unfold t344 nnewF
 refine runs_need.2 ⟨rfl,?_⟩
 rw [show std.call fn124 m=medlS m from rfl,medlS]
 cases hm:medlB m
 ·exact (runs_brT rfl).2 (.ret _)
 refine (runs_brF rfl).2 (runs_need.2 ⟨rfl,?_⟩)
 rw [show std.call fn386 (id,m.1)=newF id m.1 from rfl,newF,decide_eq_true (medl_in hm).1,cond_true,cond_true]
 cases decide (0≤id∧id≤m.1 - 1)
 ·exact (runs_brF rfl).2 (.ret _)
 ·exact (runs_brT rfl).2 (.ret _)
def fn344:(Medl×Int)→(Node×Int):=fun (m,n)=>nnewF m n
def sp344:FSpec:=⟨[yMedl,(.int .i64)], [yNode,(.int .i64)],(@tt (Medl×Int)),fn344⟩
theorem run344 {m:Medl} {id:Int} (h:Ty.hass [yMedl,(.int .i64)] (m,id)):Runs Empty.elim (t344 std m id) (fn344 (m,id)):=by
 exact pnnew2
theorem so344:FSpec.Sound Tryz.prog 52 sp344:=
 w344_ok.sound _ _ fun (m,id) _ h=>run344 h
def t346 (A:Alg) (n:Node):LT Bool Empty:=
 .br (A.cmp .eql n.2.1 2)
 (.ret true)
 (.br (A.cmp .eql n.2.1 3)
 (.ret true)
 (.br (A.cmp .eql n.2.1 4)
  (.ret true)
  (.ret false)))
noncomputable def E346 (A:Alg):Info (Ty.Ts [.bool]):={ti:=tys,fns:=[(54,Tryz.f54)],sps:=[],stops:=[],cuts:=[],consts:=[],fin:=finD A [.bool]}
theorem t346_ok (A:Alg) (n:Node):run A (E346 A) 51 (startC 54 Tryz.f54 (dvals A [yNode] n))=(t346 A n).tr Empty.elim:=by kernel_rfl
def w346:Walk Tryz.prog 54 [yNode] [.bool] Empty:=⟨fun n=>t346 std n,Empty.elim⟩
theorem w346_ok:w346.Ok:=
 walk_ok (E:=E346 std) ⟨tys_fit,fns_cons Tryz.func54 (by kernel_rfl) (fns_nil),sps_nil,by kernel_rfl⟩ rfl rfl rfl (by kernel_rfl) w346 Empty.elim 51 (fun n=>t346_ok std n) (fun y=>y.elim)
theorem sin1 {n:Node}:Runs Empty.elim (t346 std n) (inF n):=by
 unfold t346 inF
 refine runs_if (p:=n.2.1=2) eql_dec (fun h=>runs_r (decide_eq_true (by omega)).symm (.ret _)) fun h1=>runs_if (p:=n.2.1=3) eql_dec (fun h=>runs_r (decide_eq_true (by omega)).symm (.ret _)) fun h2=>runs_if (p:=n.2.1=4) eql_dec (fun h=>runs_r (decide_eq_true (by omega)).symm (.ret _)) fun h3=>runs_r (decide_eq_false (by omega)).symm (.ret _)
def fn346:Node→Bool:=inF
def sp346:FSpec:=⟨[yNode], [.bool],(@tt Node),fn346⟩
theorem run346 {n:Node} (h:Ty.hass [yNode] n):Runs Empty.elim (t346 std n) (fn346 n):=by
 exact sin1
theorem so346:FSpec.Sound Tryz.prog 54 sp346:=
 w346_ok.sound _ _ fun n _ h=>run346 h
def t402 (A:Alg) (s:Span) (n:Int):LT Bool Empty:=
 .br (A.cmp .geq n s.1)
 (.ret (A.cmp .leq n s.2))
 (.ret false)
noncomputable def E402 (A:Alg):Info (Ty.Ts [.bool]):={ti:=tys,fns:=[(123,Tryz.f123)],sps:=[],stops:=[],cuts:=[],consts:=[],fin:=finD A [.bool]}
theorem t402_ok (A:Alg) (s:Span) (n:Int):run A (E402 A) 25 (startC 123 Tryz.f123 (dvals A [ySpan,(.int .i64)] (s,n)))=(t402 A s n).tr Empty.elim:=by kernel_rfl
def w402:Walk Tryz.prog 123 [ySpan,(.int .i64)] [.bool] Empty:=⟨fun (s,n)=>t402 std s n,Empty.elim⟩
theorem w402_ok:w402.Ok:=
 walk_ok (E:=E402 std) ⟨tys_fit,fns_cons Tryz.func123 (by kernel_rfl) (fns_nil),sps_nil,by kernel_rfl⟩ rfl rfl rfl (by kernel_rfl) w402 Empty.elim 25 (fun (s,n)=>t402_ok std s n) (fun y=>y.elim)
def hasS (s:Span) (n:Int):Bool:=decide (s.1≤n∧n≤s.2)
theorem has1 {s:Span} {n:Int}:Runs Empty.elim (t402 std s n) (hasS s n):=by
 unfold t402 hasS
 refine runs_if (p:=s.1≤n) rfl (fun h=>?_) fun h=>runs_r (decide_eq_false (fun k=>h k.1)).symm (.ret _)
 exact runs_r (by rw [std_cmp_leq,Bool.eq_iff_iff]; simp [h]) (.ret _)
def fn402:(Span×Int)→Bool:=fun (m,n)=>hasS m n
def sp402:FSpec:=⟨[ySpan,(.int .i64)], [.bool],(@tt (Span×Int)),fn402⟩
theorem run402 {s:Span} {n:Int} (h:Ty.hass [ySpan,(.int .i64)] (s,n)):Runs Empty.elim (t402 std s n) (fn402 (s,n)):=by
 exact has1
theorem so402:FSpec.Sound Tryz.prog 123 sp402:=
 w402_ok.sound _ _ fun (s,n) _ h=>run402 h
def t403 (A:Alg) (m:Medl) (n:Node):LT Bool Empty:=
 .br (A.cmp .eql n.2.1 1)
 (.need (A.call (@tt (Medl×Int)) (m,n.1)) (
 .br (A.cmp .eql (A.call fn407 (m,n.1)).2 0)
  (.need (A.call (@tt (Span×Int)) ((1,(A.call fn407 (m,n.1)).1),n.2.2.2.2.1)) (
  .ret (A.call fn402 ((1,(A.call fn407 (m,n.1)).1),n.2.2.2.2.1))))
  (.ret false)))
 (.br (A.cmp .eql n.2.2.2.2.1 0)
 (.br (A.not n.2.2.2.2.2.1)
  (.ret true)
  (.ret (A.cmp .eql n.2.1 2)))
 (.ret false))
noncomputable def E403 (A:Alg):Info (Ty.Ts [.bool]):={ti:=tys,fns:=[(124,Tryz.f124)],sps:=[(123,sp402),(128,sp407)],stops:=[],cuts:=[],consts:=[],fin:=finD A [.bool]}
theorem t403_ok (A:Alg) (m:Medl) (n:Node):run A (E403 A) 45 (startC 124 Tryz.f124 (dvals A [yMedl,yNode] (m,n)))=(t403 A m n).tr Empty.elim:=by kernel_rfl
def w403:Walk Tryz.prog 124 [yMedl,yNode] [.bool] Empty:=⟨fun (m,n)=>t403 std m n,Empty.elim⟩
theorem w403_ok:w403.Ok:=
 walk_ok (E:=E403 std) ⟨tys_fit,fns_cons Tryz.func124 (by kernel_rfl) (fns_nil),sps_cons so402 (sps_cons so407 (sps_nil)),by kernel_rfl⟩ rfl rfl rfl (by kernel_rfl) w403 Empty.elim 45 (fun (m,n)=>t403_ok std m n) (fun y=>y.elim)
theorem lis_one {m:Medl} {n:Int} (h:¬(lisF m n).2=0):(lisF m n).1=0:=by
 unfold lisF at h ⊢
 by_cases h1:nodeF m n=0
 ·rw [decide_eq_true h1] at h; exact absurd rfl h
 ·rw [decide_eq_false h1]; rfl
theorem times1 {m:Medl} {n:Node}:Runs Empty.elim (t403 std m n) (timF m n && bngF n):=by
 unfold t403 timF bngF
 refine runs_if (p:=n.2.1=1) eql_dec (fun h=>runs_need.2 ⟨rfl,?_⟩) fun h=>runs_if (p:=n.2.2.2.2.1=0) eql_dec (fun h1=>?_) fun h1=>?_
 ·rw [show std.call fn407 (m,n.1)=lisF m n.1 from rfl,decide_eq_true h,decide_eq_true (show n.2.1=1∨n.2.1=2 from .inl h)]
  have e:(bif n.2.2.2.2.2.1 then true else true)=true:=by cases n.2.2.2.2.2.1 <;> rfl
  rw [e,Bool.and_true,cond_true]
  refine runs_if (p:=(lisF m n.1).2=0) eql_dec (fun h2=>runs_need.2 ⟨rfl,.ret _⟩) fun h2=>runs_r (decide_eq_false ?_).symm (.ret _)
  have:=lis_one h2
  omega
 ·rw [decide_eq_false h,decide_eq_true h1]
  cases n.2.2.2.2.2.1
  ·exact (runs_brT rfl).2 (.ret _)
  ·refine (runs_brF rfl).2 (runs_r ?_ (.ret _))
   rw [eql_dec,Bool.eq_iff_iff]; simp; omega
 ·rw [decide_eq_false h,decide_eq_false h1]
  exact .ret _
def fn403:(Medl×Node)→Bool:=fun (m,n)=>timF m n && bngF n
def sp403:FSpec:=⟨[yMedl,yNode], [.bool],(@tt (Medl×Node)),fn403⟩
theorem run403 {m:Medl} {n:Node} (h:Ty.hass [yMedl,yNode] (m,n)):Runs Empty.elim (t403 std m n) (fn403 (m,n)):=by
 exact times1
theorem so403:FSpec.Sound Tryz.prog 124 sp403:=
 w403_ok.sound _ _ fun (m,n) _ h=>run403 h
def t404 (A:Alg) (m:Medl) (n:Node):LT Bool Empty:=
 .need (A.call (@tt ((Int×Int×Int×Int×Int)×Int)) (n.2.2.1,m.1)) (
 .br (A.cmp .eql (A.call fn87 (n.2.2.1,m.1)) 0)
 (.br (A.cmp .lss n.2.2.1.2.2.1 (A.len m.2.2.2.2.2.2.2))
  (.need (A.call (@tt ((Int×Int×Int×Int×Int×Int×Int))) n.2.2.2.1) (
  .br (A.cmp .eql (A.call fn34 n.2.2.2.1) 0)
   (.br (A.cmp .eql n.2.2.2.1.1 n.1)
   (.br (A.cmp .leq n.2.2.1.2.2.2.1 (A.len m.2.2.2.2.2.2.2))
    (.br (A.cmp .eql n.2.2.2.1.2.1 m.1)
    (.br (A.cmp .eql n.2.2.1.2.2.2.2 n.2.2.2.1.2.2.1)
     (.br (A.cmp .neq n.2.1 2)
     (.ret true)
     (.need (A.and (A.cmp .leq 0 n.1) (A.cmp .lss n.1 (A.len m.2.2.2.2.2.2.1))) (
      .ret (A.nth .bool m.2.2.2.2.2.2.1 n.1:Bool))))
     (.ret false))
    (.ret false))
    (.ret false))
   (.br (A.cmp .leq n.2.2.1.2.2.2.1 (A.len m.2.2.2.2.2.2.2))
    (.ret false)
    (.ret false)))
   (.br (A.cmp .leq n.2.2.1.2.2.2.1 (A.len m.2.2.2.2.2.2.2))
   (.ret false)
   (.ret false))))
  (.need (A.call (@tt ((Int×Int×Int×Int×Int×Int×Int))) n.2.2.2.1) (
  .br (A.cmp .eql (A.call fn34 n.2.2.2.1) 0)
   (.br (A.cmp .eql n.2.2.2.1.1 n.1)
   (.ret false)
   (.ret false))
   (.ret false))))
 (.need (A.call (@tt ((Int×Int×Int×Int×Int×Int×Int))) n.2.2.2.1) (
  .br (A.cmp .eql (A.call fn34 n.2.2.2.1) 0)
  (.br (A.cmp .eql n.2.2.2.1.1 n.1)
   (.ret false)
   (.ret false))
  (.ret false))))
noncomputable def E404 (A:Alg):Info (Ty.Ts [.bool]):={ti:=tys,fns:=[(125,Tryz.f125)],sps:=[(111,sp34),(187,sp87)],stops:=[],cuts:=[],consts:=[],fin:=finD A [.bool]}
theorem t404_ok (A:Alg) (m:Medl) (n:Node):run A (E404 A) 94 (startC 125 Tryz.f125 (dvals A [yMedl,yNode] (m,n)))=(t404 A m n).tr Empty.elim:=by kernel_rfl
def w404:Walk Tryz.prog 125 [yMedl,yNode] [.bool] Empty:=⟨fun (m,n)=>t404 std m n,Empty.elim⟩
theorem w404_ok:w404.Ok:=
 walk_ok (E:=E404 std) ⟨tys_fit,fns_cons Tryz.func125 (by kernel_rfl) (fns_nil),sps_cons so34 (sps_cons so87 (sps_nil)),by kernel_rfl⟩ rfl rfl rfl (by kernel_rfl) w404 Empty.elim 94 (fun (m,n)=>t404_ok std m n) (fun y=>y.elim)
def insF (m:Medl) (n:Node):Bool:=fitsF m n.2.2.1 && (decide (fn35 n.2.2.2.1=0) && (decide (n.2.2.2.1.1=n.1) && (decide (n.2.2.2.1.2.1=m.1) && (decide (n.2.2.1.2.2.2.2=n.2.2.2.1.2.2.1) && colF m n))))
theorem runs_both {R Y:Type} {step:Y→LT R Y} {b:Bool} {t e:LT R Y} {r:R} (h1:Runs step t r) (h2:Runs step e r):Runs step (.br b t e) r:=by
 cases b
 ·exact (runs_brF rfl).2 h2
 ·exact (runs_brT rfl).2 h1
theorem ins1 {m:Medl} {n:Node} (h0:0≤n.1) (h1:n.1 < (m.2.2.2.2.2.2.1.length:Int)):Runs Empty.elim (t404 std m n) (insF m n):=by
 unfold t404 insF fitsF colF
 refine runs_need.2 ⟨rfl,?_⟩
 rw [show std.call fn87 (n.2.2.1,m.1)=chkS (n.2.2.1,m.1) from rfl,show std.call fn34 n.2.2.2.1=fn35 n.2.2.2.1 from chk]
 refine runs_if (p:=chkS (n.2.2.1,m.1)=0) eql_dec (fun g1=>runs_if (p:=n.2.2.1.2.2.1 < mlen m) rfl (fun g2=>runs_need.2 ⟨rfl,runs_if (p:=fn35 n.2.2.2.1=0) eql_dec (fun g3=>runs_if (p:=n.2.2.2.1.1=n.1) eql_dec (fun g4=>runs_if (p:=n.2.2.1.2.2.2.1≤mlen m) rfl (fun g5=>runs_if (p:=n.2.2.2.1.2.1=m.1) eql_dec (fun g6=>runs_if (p:=n.2.2.1.2.2.2.2=n.2.2.2.1.2.2.1) eql_dec (fun g7=>runs_if (p:=¬n.2.1=2) cneq_dec (fun g8=>?_) fun g8=>runs_need.2 ⟨need_in h0 h1,?_⟩) fun g=>?_) fun g=>?_) fun g=>?_) fun g=>?_) fun g=>?_⟩) fun g=>?_) fun g=>?_
 ·exact runs_r (by rw [decide_eq_true g1,decide_eq_true g2,decide_eq_true g3,decide_eq_true g4,decide_eq_true g5,decide_eq_true g6,decide_eq_true g7,decide_eq_false g8]; rfl) (.ret _)
 ·exact runs_r (by rw [decide_eq_true g1,decide_eq_true g2,decide_eq_true g3,decide_eq_true g4,decide_eq_true g5,decide_eq_true g6,decide_eq_true g7,decide_eq_true (Decidable.not_not.1 g8)]; rfl) (.ret _)
 all_goals
  rw [decide_eq_false g]
  simp only [Bool.false_and,Bool.and_false]
  repeat' (first | exact Runs.ret _ | refine runs_need.2 ⟨rfl,?_⟩ | refine runs_both ?_ ?_)
def fn404:(Medl×Node)→Bool:=fun (m,n)=>insF m n
def pre404:(Medl×Node)→Bool:=fun (m,n)=>decide (0≤n.1) && decide (n.1 < (m.2.2.2.2.2.2.1.length:Int))
def sp404:FSpec:=⟨[yMedl,yNode], [.bool],pre404,fn404⟩
theorem run404 {m:Medl} {n:Node} (h:Ty.hass [yMedl,yNode] (m,n)) (hp:pre404 (m,n)=true):Runs Empty.elim (t404 std m n) (fn404 (m,n)):=by
 exact ins1 (of_decide_eq_true (Bool.and_eq_true _ _ ▸ hp).1) (of_decide_eq_true (Bool.and_eq_true _ _ ▸ hp).2)
theorem so404:FSpec.Sound Tryz.prog 125 sp404:=
 w404_ok.sound _ _ fun (m,n) hp h=>run404 h hp
def t405 (A:Alg) (n:Node):LT Bool Empty:=
 .br (A.and (A.cmp .eql n.2.2.1.1 0) (A.and (A.cmp .eql n.2.2.1.2.1 0) (A.and (A.cmp .eql n.2.2.1.2.2.1 0) (A.and (A.cmp .eql n.2.2.1.2.2.2.1 0) (A.and (A.cmp .eql n.2.2.1.2.2.2.2 0) true)))))
 (.ret (A.and (A.cmp .eql n.2.2.2.1.1 0) (A.and (A.cmp .eql n.2.2.2.1.2.1 0) (A.and (A.cmp .eql n.2.2.2.1.2.2.1 0) (A.and (A.cmp .eql n.2.2.2.1.2.2.2.1 0) (A.and (A.cmp .eql n.2.2.2.1.2.2.2.2.1 0) (A.and (A.cmp .eql n.2.2.2.1.2.2.2.2.2.1 0) (A.and (A.cmp .eql n.2.2.2.1.2.2.2.2.2.2 0) true))))))))
 (.ret false)
noncomputable def E405 (A:Alg):Info (Ty.Ts [.bool]):={ti:=tys,fns:=[(126,Tryz.f126)],sps:=[],stops:=[],cuts:=[],consts:=[],fin:=finD A [.bool]}
theorem t405_ok (A:Alg) (n:Node):run A (E405 A) 25 (startC 126 Tryz.f126 (dvals A [yNode] n))=(t405 A n).tr Empty.elim:=by kernel_rfl
def w405:Walk Tryz.prog 126 [yNode] [.bool] Empty:=⟨fun n=>t405 std n,Empty.elim⟩
theorem w405_ok:w405.Ok:=
 walk_ok (E:=E405 std) ⟨tys_fit,fns_cons Tryz.func126 (by kernel_rfl) (fns_nil),sps_nil,by kernel_rfl⟩ rfl rfl rfl (by kernel_rfl) w405 Empty.elim 25 (fun n=>t405_ok std n) (fun y=>y.elim)
def outF (n:Node):Bool:=zeroC n.2.2.1 && zeroV n.2.2.2.1
theorem outs1 {n:Node}:Runs Empty.elim (t405 std n) (outF n):=by
 unfold t405 outF
 cases hz:zeroC n.2.2.1
 ·exact (runs_brF hz).2 (.ret _)
 ·exact (runs_brT hz).2 (.ret _)
def fn405:Node→Bool:=outF
def sp405:FSpec:=⟨[yNode], [.bool],(@tt Node),fn405⟩
theorem run405 {n:Node} (h:Ty.hass [yNode] n):Runs Empty.elim (t405 std n) (fn405 n):=by
 exact outs1
theorem so405:FSpec.Sound Tryz.prog 126 sp405:=
 w405_ok.sound _ _ fun n _ h=>run405 h
def t345 (A:Alg) (m:Medl) (n:Node):LT Int Empty:=
 .need (A.call (@tt Medl) m) (
 .br (A.cmp .neq (A.call fn124 m) 0)
 (.ret (A.call fn124 m))
 (.need (A.call (@tt (Span×Int)) ((0,(A.bin .sub .i64 m.1 1)),n.1)) (
  .br (A.not (A.call fn402 ((0,(A.bin .sub .i64 m.1 1)),n.1)))
  (.ret 180)
  (.need (A.call (@tt (Span×Int)) ((0,5),n.2.1)) (
   .br (A.not (A.call fn402 ((0,5),n.2.1)))
   (.ret 180)
   (.need (A.call (@tt (Span×Int)) ((0,2),n.2.2.2.2.2.2.1)) (
    .br (A.not (A.call fn402 ((0,2),n.2.2.2.2.2.2.1)))
    (.ret 180)
    (.need (A.call (@tt Cni) n.2.2.2.2.2.2.2) (
     .br (A.cmp .neq (A.call fn389 n.2.2.2.2.2.2.2) 0)
     (.ret 180)
     (.br (A.cmp .neq n.2.2.2.2.2.2.2.1 n.1)
      (.ret 180)
      (.br (A.cmp .neq (A.len n.2.2.2.2.2.2.2.2.2.1) m.1)
      (.ret 180)
      (.need (A.call (@tt (Medl×Node)) (m,n)) (
       .br (A.not (A.call fn403 (m,n)))
       (.ret 180)
       (.need (A.call (@tt Node) n) (
        .br (A.call fn346 n)
        (.need (A.call pre404 (m,n)) (
         .br (A.not (A.call fn404 (m,n)))
         (.ret 180)
         (.need (A.call (@tt Node) n) (
          .br (A.not (A.call fn346 n))
          (.need (A.call (@tt Node) n) (
           .br (A.not (A.call fn405 n))
           (.ret 180)
           (.ret 0)))
          (.ret 0)))))
        (.need (A.call (@tt Node) n) (
         .br (A.not (A.call fn346 n))
         (.need (A.call (@tt Node) n) (
          .br (A.not (A.call fn405 n))
          (.ret 180)
          (.ret 0)))
         (.ret 0))))))))))))))))))
noncomputable def E345 (A:Alg):Info (Ty.Ts [(.int .i64)]):={ti:=tys,fns:=[(53,Tryz.f53)],sps:=[(81,sp124),(54,sp346),(109,sp389),(123,sp402),(124,sp403),(125,sp404),(126,sp405)],stops:=[],cuts:=[],consts:=[],fin:=finD A [(.int .i64)]}
theorem t345_ok (A:Alg) (m:Medl) (n:Node):run A (E345 A) 123 (startC 53 Tryz.f53 (dvals A [yMedl,yNode] (m,n)))=(t345 A m n).tr Empty.elim:=by kernel_rfl
def w345:Walk Tryz.prog 53 [yMedl,yNode] [(.int .i64)] Empty:=⟨fun (m,n)=>t345 std m n,Empty.elim⟩
theorem w345_ok:w345.Ok:=
 walk_ok (E:=E345 std) ⟨tys_fit,fns_cons Tryz.func53 (by kernel_rfl) (fns_nil),sps_cons so124 (sps_cons so346 (sps_cons so389 (sps_cons so402 (sps_cons so403 (sps_cons so404 (sps_cons so405 (sps_nil))))))),by kernel_rfl⟩ rfl rfl rfl (by kernel_rfl) w345 Empty.elim 123 (fun (m,n)=>t345_ok std m n) (fun y=>y.elim)
theorem schk_1 {m:Medl} {n:Node}:Runs Empty.elim (t345 std m n) (nodF m n):=by
 unfold t345 nodF
 refine runs_need.2 ⟨rfl,?_⟩
 rw [show std.call fn124 m=medlS m from rfl,medlS]
 cases hm:medlB m
 ·exact (runs_brT rfl).2 (.ret _)
 have hG:=@nod_iff m n
 have hl:=medl_in hm
 rw [cond_true,std_sub,w64 (by omega) (by omega)]
 generalize nodB m n=G at hG ⊢
 refine (runs_brF rfl).2 (runs_need.2 ⟨rfl,runs_gb (b:=decide (0≤n.1∧n.1≤m.1 - 1)) (fun g=>decide_eq_true (hG.1 g).1) fun h1=>runs_need.2 ⟨rfl,runs_gb (b:=decide (0≤n.2.1∧n.2.1≤5)) (fun g=>decide_eq_true (hG.1 g).2.1) fun h2=>runs_need.2 ⟨rfl,runs_gb (b:=decide (0≤n.2.2.2.2.2.2.1∧n.2.2.2.2.2.2.1≤2)) (fun g=>decide_eq_true (hG.1 g).2.2.1) fun h3=>runs_need.2 ⟨rfl,?_⟩⟩⟩⟩)
 have h1:=of_decide_eq_true h1
 have h2:=of_decide_eq_true h2
 have h3:=of_decide_eq_true h3
 refine runs_g (p:=¬cniS n.2.2.2.2.2.2.2=0) cneq_dec (fun g=>not_not_intro (cniS_zero.2 (hG.1 g).2.2.2.1)) fun h7=>?_
 refine runs_g (p:=¬n.2.2.2.2.2.2.2.1=n.1) cneq_dec (fun g=>by have:=hG.1 g; omega) fun h8=>?_
 refine runs_g (p:=¬(n.2.2.2.2.2.2.2.2.2.1.length:Int)=m.1) cneq_dec (fun g=>by have:=hG.1 g; omega) fun h9=>runs_need.2 ⟨rfl,?_⟩
 refine runs_gb (b:=timF m n && bngF n) (fun g=>by rw [(hG.1 g).2.2.2.2.2.2.2.2.1,(hG.1 g).2.2.2.2.2.2.2.2.2]; rfl) fun ht=>runs_need.2 ⟨rfl,?_⟩
 rw [Bool.and_eq_true] at ht
 have fin:colF m n=true→cluF m n=true→G=true:=fun a b=>hG.2 ⟨h1,h2,h3,cniS_zero.1 (Decidable.not_not.1 h7),by omega,by omega,a,b,ht.1,ht.2⟩
 rw [show std.call fn346 n=inF n from rfl]
 have hc:=fun g=>(hG.1 g).2.2.2.2.2.2.2.1
 have hd:=fun g=>(hG.1 g).2.2.2.2.2.2.1
 unfold cluF at hc fin
 cases hn:inF n
 ·rw [hn,cond_false] at hc fin
  have hcol:colF m n=true:=by
   have:¬(2≤n.2.1∧n.2.1≤4):=of_decide_eq_false hn
   rw [colF,decide_eq_false (show ¬n.2.1=2 by omega)]; rfl
  exact (runs_brF rfl).2 (runs_need.2 ⟨rfl,(runs_brT rfl).2 (runs_need.2 ⟨rfl,runs_gb (b:=outF n) hc fun k=>runs_gy (fin hcol k)⟩)⟩)
 ·rw [hn,cond_true] at hc fin
  refine (runs_brT rfl).2 (runs_need.2 ⟨?_,runs_gb (b:=insF m n) (fun g=>?_) fun k=>runs_need.2 ⟨rfl,(runs_brF rfl).2 (runs_gy ?_)⟩⟩)
  ·rw [std_call,pre404,decide_eq_true h1.1,decide_eq_true (show n.1 < (m.2.2.2.2.2.2.1.length:Int) by rw [hl.2.2.1]; omega)]; rfl
  ·have a:=hc g
   simp only [Bool.and_eq_true] at a
   rw [insF,a.1,a.2.1,a.2.2.1,a.2.2.2.1,a.2.2.2.2,hd g]; rfl
  ·simp only [insF,Bool.and_eq_true] at k
   exact fin k.2.2.2.2.2 (by rw [k.1,k.2.1,k.2.2.1,k.2.2.2.1,k.2.2.2.2.1]; rfl)
def fn345:(Medl×Node)→Int:=fun (m,n)=>nodF m n
def sp345:FSpec:=⟨[yMedl,yNode], [(.int .i64)],(@tt (Medl×Node)),fn345⟩
theorem run345 {m:Medl} {n:Node} (h:Ty.hass [yMedl,yNode] (m,n)):Runs Empty.elim (t345 std m n) (fn345 (m,n)):=by
 exact schk_1
theorem so345:FSpec.Sound Tryz.prog 53 sp345:=
 w345_ok.sound _ _ fun (m,n) _ h=>run345 h
def t348 (A:Alg) (m:Medl) (n:Node) (on:Bool):LT (Node×Int) Empty:=
 .br (A.cmp .eql n.2.1 0)
 (.need (A.call (@tt (Medl×Node)) (m,n)) (
 .br (A.cmp .neq (A.call fn345 (m,n)) 0)
  (.br (A.cmp .neq (A.call fn345 (m,n)) 0)
  (.ret ((0,0,(0,0,0,0,0),(0,0,0,0,0,0,0),0,false,0,0,([]:List Int),([]:List Msg),0,0),(A.call fn345 (m,n))))
  (.br on
   (.bad 73 "starctl.go:108")
   (.need (A.call (@tt (Medl×Int)) (m,n.1)) (
   .ret (A.call fn344 (m,n.1))))))
  (.need (A.call (@tt (Cni×List Int)) (n.2.2.2.2.2.2.2,n.2.2.2.2.2.2.2.2.1)) (
  .br (A.cmp .neq (A.call fn396 (n.2.2.2.2.2.2.2,n.2.2.2.2.2.2.2.2.1)).2 0)
   (.br (A.cmp .neq (A.call fn396 (n.2.2.2.2.2.2.2,n.2.2.2.2.2.2.2.2.1)).2 0)
   (.ret ((0,0,(0,0,0,0,0),(0,0,0,0,0,0,0),0,false,0,0,([]:List Int),([]:List Msg),0,0),(A.call fn396 (n.2.2.2.2.2.2.2,n.2.2.2.2.2.2.2.2.1)).2))
   (.br on
    (.bad 73 "starctl.go:108")
    (.need (A.call (@tt (Medl×Int)) (m,n.1)) (
    .ret (A.call fn344 (m,n.1))))))
   (.br on
   (.need (A.call (@tt (Medl×Int)) (m,n.1)) (
    .eqs (eqI (A.call fn407 (m,n.1)).2) (
    .ret ((n.1,1,(0,0,0,0,0),(0,0,0,0,0,0,0),(A.call fn407 (m,n.1)).1,n.2.2.2.2.2.1,n.2.2.2.2.2.2.1,(A.call fn396 (n.2.2.2.2.2.2.2,n.2.2.2.2.2.2.2.2.1)).1),0))))
   (.need (A.call (@tt (Medl×Int)) (m,n.1)) (
    .ret (A.call fn344 (m,n.1)))))))))
 (.need (A.call (@tt (Medl×Node)) (m,n)) (
 .br (A.cmp .neq (A.call fn345 (m,n)) 0)
  (.br (A.cmp .neq (A.call fn345 (m,n)) 0)
  (.ret ((0,0,(0,0,0,0,0),(0,0,0,0,0,0,0),0,false,0,0,([]:List Int),([]:List Msg),0,0),(A.call fn345 (m,n))))
  (.br on
   (.bad 73 "starctl.go:108")
   (.need (A.call (@tt (Medl×Int)) (m,n.1)) (
   .ret (A.call fn344 (m,n.1))))))
  (.br (A.not (A.not on))
  (.ret ((0,0,(0,0,0,0,0),(0,0,0,0,0,0,0),0,false,0,0,([]:List Int),([]:List Msg),0,0),181))
  (.need (A.call (@tt (Cni×List Int)) (n.2.2.2.2.2.2.2,n.2.2.2.2.2.2.2.2.1)) (
   .br (A.cmp .neq (A.call fn396 (n.2.2.2.2.2.2.2,n.2.2.2.2.2.2.2.2.1)).2 0)
   (.br (A.cmp .neq (A.call fn396 (n.2.2.2.2.2.2.2,n.2.2.2.2.2.2.2.2.1)).2 0)
    (.ret ((0,0,(0,0,0,0,0),(0,0,0,0,0,0,0),0,false,0,0,([]:List Int),([]:List Msg),0,0),(A.call fn396 (n.2.2.2.2.2.2.2,n.2.2.2.2.2.2.2.2.1)).2))
    (.br on
    (.bad 73 "starctl.go:108")
    (.need (A.call (@tt (Medl×Int)) (m,n.1)) (
     .ret (A.call fn344 (m,n.1))))))
   (.br on
    (.need (A.call (@tt (Medl×Int)) (m,n.1)) (
    .eqs (eqI (A.call fn407 (m,n.1)).2) (
     .ret ((n.1,1,(0,0,0,0,0),(0,0,0,0,0,0,0),(A.call fn407 (m,n.1)).1,n.2.2.2.2.2.1,n.2.2.2.2.2.2.1,(A.call fn396 (n.2.2.2.2.2.2.2,n.2.2.2.2.2.2.2.2.1)).1),0))))
    (.need (A.call (@tt (Medl×Int)) (m,n.1)) (
    .ret (A.call fn344 (m,n.1))))))))))
noncomputable def E348 (A:Alg):Info (Ty.Ts [yNode,(.int .i64)]):={ti:=tys,fns:=[(56,Tryz.f56),(101,Tryz.f101),(127,Tryz.f127)],sps:=[(52,sp344),(53,sp345),(117,sp396),(128,sp407)],stops:=[],cuts:=[],consts:=[],fin:=finD A [yNode,(.int .i64)]}
theorem t348_ok (A:Alg) (m:Medl) (n:Node) (on:Bool):run A (E348 A) 182 (startC 56 Tryz.f56 (dvals A [yMedl,yNode,.bool] (m,n,on)))=(t348 A m n on).tr Empty.elim:=by kernel_rfl
def w348:Walk Tryz.prog 56 [yMedl,yNode,.bool] [yNode,(.int .i64)] Empty:=⟨fun (m,n,on)=>t348 std m n on,Empty.elim⟩
theorem w348_ok:w348.Ok:=
 walk_ok (E:=E348 std) ⟨tys_fit,fns_cons Tryz.func56 (by kernel_rfl) (fns_cons Tryz.func101 (by kernel_rfl) (fns_cons Tryz.func127 (by kernel_rfl) (fns_nil))),sps_cons so344 (sps_cons so345 (sps_cons so396 (sps_cons so407 (sps_nil)))),by kernel_rfl⟩ rfl rfl rfl (by kernel_rfl) w348 Empty.elim 182 (fun (m,n,on)=>t348_ok std m n on) (fun y=>y.elim)
theorem wr_own {m:Medl} {n:Node} (h:nodF m n=0):wrF n.2.2.2.2.2.2.2 n.2.2.2.2.2.2.2.2.1=(n.2.2.2.2.2.2.2,0):=by
 rw [wrF,nod_cni h,decide_eq_false (cni_out (nod_cni h))]; rfl
theorem spow1 {m:Medl} {n:Node} {on:Bool}:Runs Empty.elim (t348 std m n on) (powF m n on):=by
 unfold t348 powF
 rw [show std.call fn345 (m,n)=nodF m n from rfl,show std.call fn396 (n.2.2.2.2.2.2.2,n.2.2.2.2.2.2.2.2.1)=wrF n.2.2.2.2.2.2.2 n.2.2.2.2.2.2.2.2.1 from rfl]
 by_cases h:nodF m n=0
 ·rw [decide_eq_true h,wr_own h]
  refine runs_if (p:=n.2.1=0) eql_dec (fun h1=>runs_need.2 ⟨rfl,(runs_brF (cne0 h)).2 (runs_need.2 ⟨rfl,(runs_brF rfl).2 ?_⟩)⟩) fun h1=>runs_need.2 ⟨rfl,(runs_brF (cne0 h)).2 ?_⟩
  ·rw [decide_eq_true h1]
   cases on
   ·exact (runs_brF rfl).2 (runs_need.2 ⟨rfl,.ret _⟩)
   ·exact (runs_brT rfl).2 (runs_need.2 ⟨rfl,runs_eqI.2 (.ret _)⟩)
  ·rw [decide_eq_false h1]
   cases on
   ·exact (runs_brF rfl).2 (runs_need.2 ⟨rfl,(runs_brF rfl).2 ((runs_brF rfl).2 (runs_need.2 ⟨rfl,.ret _⟩))⟩)
   ·exact (runs_brT rfl).2 (.ret _)
 ·rw [decide_eq_false h]
  exact runs_both (runs_need.2 ⟨rfl,(runs_brT (cne1 h)).2 ((runs_brT (cne1 h)).2 (.ret _))⟩) (runs_need.2 ⟨rfl,(runs_brT (cne1 h)).2 ((runs_brT (cne1 h)).2 (.ret _))⟩)
def fn348:(Medl×Node×Bool)→(Node×Int):=fun (m,c,k)=>powF m c k
def sp348:FSpec:=⟨[yMedl,yNode,.bool], [yNode,(.int .i64)],(@tt (Medl×Node×Bool)),fn348⟩
theorem run348 {m:Medl} {n:Node} {on:Bool} (h:Ty.hass [yMedl,yNode,.bool] (m,n,on)):Runs Empty.elim (t348 std m n on) (fn348 (m,n,on)):=by
 exact spow1
theorem so348:FSpec.Sound Tryz.prog 56 sp348:=
 w348_ok.sound _ _ fun (m,n,on) _ h=>run348 h
open Go.Ev.Pl
structure P329c0 where
 (a0:Int) (a1:Bool) (a2 a3:Mbr) (a4:Int) (a5:Bool) (a6 a7 a8 a9:Int) (a10:Frm)
structure P329c1 where
 (b0:Int) (b1:Bool) (b2 b3:Mbr) (b4:Int) (b5:Bool) (b6 b7 b8 b9:Int) (b10:Medl) (b11:Node) (b12:Frm)
structure P329c2 where
 (c0:Int) (c1 c2:Mbr) (c3:Int) (c4:Bool) (c5 c6 c7 c8:Int) (c9:Medl) (c10:Node) (c11:Frm) (c12:CSt)
structure P329c3 where
 (d0:Int) (d1 d2:Mbr) (d3:Int) (d4:Bool) (d5 d6 d7 d8:Int) (d9:Medl) (d10:Node) (d11:Frm)
inductive Y329 where
 | c0 (p:P329c0)
 | c1 (p:P329c1)
 | c2 (p:P329c2)
 | c3 (p:P329c3)
noncomputable def cfg329:Y329→Cfg
 | .c0 p=>{frames:=[{fn:=37,n:=85,env:=(Env.put (Env.put (Env.put (Env.put (Env.put .leaf 6 (.ptr 0 0)) 10 (.nilptr)) 12 (.ptr 1 0)) 13 (.int .i64 false p.a0)) 14 (.bool false p.a1)),todo:=[.code (Code.way (bodyOf Tryz.f37) [1,1,1,1,1,0,0]),.code (Code.way (bodyOf Tryz.f37) [1,1,1,1,1,0,1]),.code (Code.way (bodyOf Tryz.f37) [1,1,1,1,1,1])],marks:=[],rnd:=none}],mem:=[.flat false [.int .i64 false p.a2.1,.int .i64 false p.a2.2.1,.int .i64 false p.a2.2.2.1,.int .i64 false p.a2.2.2.2.1,.int .i64 false p.a2.2.2.2.2.1,.int .i64 false p.a2.2.2.2.2.2.1,.int .i64 false p.a2.2.2.2.2.2.2,.int .i64 false p.a3.1,.int .i64 false p.a3.2.1,.int .i64 false p.a3.2.2.1,.int .i64 false p.a3.2.2.2.1,.int .i64 false p.a3.2.2.2.2.1,.int .i64 false p.a3.2.2.2.2.2.1,.int .i64 false p.a3.2.2.2.2.2.2,.int .i64 false p.a4,.bool false p.a5,.int .i64 false p.a6,.int .i64 false p.a7,.esl true,.esl true,.int .i64 false p.a8,.int .i64 false p.a9],.flat false [.int .i64 false p.a10.1,.int .i64 false p.a10.2.1,.int .i64 false p.a10.2.2.1.1,.int .i64 false p.a10.2.2.1.2.1,.int .i64 false p.a10.2.2.1.2.2.1,.int .i64 false p.a10.2.2.1.2.2.2.1,.int .i64 false p.a10.2.2.1.2.2.2.2,.int .i64 false p.a10.2.2.2.1,.sl (.int .u8) p.a10.2.2.2.2],.dead]}
 | .c1 p=>{frames:=[{fn:=37,n:=85,env:=(Env.put (Env.put (Env.put (Env.put (Env.put .leaf 6 (.ptr 0 0)) 10 (.ptr 1 0)) 12 (.ptr 2 0)) 13 (.int .i64 false p.b0)) 14 (.bool false p.b1)),todo:=[.code (Code.way (bodyOf Tryz.f37) [1,1,1,1,1,0,0]),.code (Code.way (bodyOf Tryz.f37) [1,1,1,1,1,0,1]),.code (Code.way (bodyOf Tryz.f37) [1,1,1,1,1,1])],marks:=[],rnd:=none}],mem:=[.flat false [.int .i64 false p.b2.1,.int .i64 false p.b2.2.1,.int .i64 false p.b2.2.2.1,.int .i64 false p.b2.2.2.2.1,.int .i64 false p.b2.2.2.2.2.1,.int .i64 false p.b2.2.2.2.2.2.1,.int .i64 false p.b2.2.2.2.2.2.2,.int .i64 false p.b3.1,.int .i64 false p.b3.2.1,.int .i64 false p.b3.2.2.1,.int .i64 false p.b3.2.2.2.1,.int .i64 false p.b3.2.2.2.2.1,.int .i64 false p.b3.2.2.2.2.2.1,.int .i64 false p.b3.2.2.2.2.2.2,.int .i64 false p.b4,.bool false p.b5,.int .i64 false p.b6,.int .i64 false p.b7,.esl true,.esl true,.int .i64 false p.b8,.int .i64 false p.b9],.flat false [.int .i64 false p.b10.1,.int .i64 false p.b10.2.1,.int .i64 false p.b10.2.2.1,.int .i64 false p.b10.2.2.2.1,.int .i64 false p.b10.2.2.2.2.1,.int .i64 false p.b10.2.2.2.2.2.1,.sl .bool p.b10.2.2.2.2.2.2.1,.sl yMode p.b10.2.2.2.2.2.2.2,.int .i64 false p.b11.1,.int .i64 false p.b11.2.1,.int .i64 false p.b11.2.2.1.1,.int .i64 false p.b11.2.2.1.2.1,.int .i64 false p.b11.2.2.1.2.2.1,.int .i64 false p.b11.2.2.1.2.2.2.1,.int .i64 false p.b11.2.2.1.2.2.2.2,.int .i64 false p.b11.2.2.2.1.1,.int .i64 false p.b11.2.2.2.1.2.1,.int .i64 false p.b11.2.2.2.1.2.2.1,.int .i64 false p.b11.2.2.2.1.2.2.2.1,.int .i64 false p.b11.2.2.2.1.2.2.2.2.1,.int .i64 false p.b11.2.2.2.1.2.2.2.2.2.1,.int .i64 false p.b11.2.2.2.1.2.2.2.2.2.2,.int .i64 false p.b11.2.2.2.2.1,.bool false p.b11.2.2.2.2.2.1,.int .i64 false p.b11.2.2.2.2.2.2.1,.int .i64 false p.b11.2.2.2.2.2.2.2.1,.sl (.int .u8) p.b11.2.2.2.2.2.2.2.2.1,.sl yMsg p.b11.2.2.2.2.2.2.2.2.2.1,.int .i64 false p.b11.2.2.2.2.2.2.2.2.2.2.1,.int .i64 false p.b11.2.2.2.2.2.2.2.2.2.2.2],.flat false [.int .i64 false p.b12.1,.int .i64 false p.b12.2.1,.int .i64 false p.b12.2.2.1.1,.int .i64 false p.b12.2.2.1.2.1,.int .i64 false p.b12.2.2.1.2.2.1,.int .i64 false p.b12.2.2.1.2.2.2.1,.int .i64 false p.b12.2.2.1.2.2.2.2,.int .i64 false p.b12.2.2.2.1,.sl (.int .u8) p.b12.2.2.2.2],.dead]}
 | .c2 p=>{frames:=[{fn:=37,n:=85,env:=(Env.put (Env.put (Env.put (Env.put (Env.put .leaf 6 (.ptr 0 0)) 10 (.ptr 1 0)) 12 (.ptr 2 0)) 13 (.int .i64 false p.c0)) 15 (.ptr 3 0)),todo:=[.code (Code.way (bodyOf Tryz.f37) [1,1,1,1,1,1,1,1,0]),.code (Code.way (bodyOf Tryz.f37) [1,1,1,1,1,1,1,1,1])],marks:=[],rnd:=none}],mem:=[.flat false [.int .i64 false p.c1.1,.int .i64 false p.c1.2.1,.int .i64 false p.c1.2.2.1,.int .i64 false p.c1.2.2.2.1,.int .i64 false p.c1.2.2.2.2.1,.int .i64 false p.c1.2.2.2.2.2.1,.int .i64 false p.c1.2.2.2.2.2.2,.int .i64 false p.c2.1,.int .i64 false p.c2.2.1,.int .i64 false p.c2.2.2.1,.int .i64 false p.c2.2.2.2.1,.int .i64 false p.c2.2.2.2.2.1,.int .i64 false p.c2.2.2.2.2.2.1,.int .i64 false p.c2.2.2.2.2.2.2,.int .i64 false p.c3,.bool false p.c4,.int .i64 false p.c5,.int .i64 false p.c6,.esl true,.esl true,.int .i64 false p.c7,.int .i64 false p.c8],.flat false [.int .i64 false p.c9.1,.int .i64 false p.c9.2.1,.int .i64 false p.c9.2.2.1,.int .i64 false p.c9.2.2.2.1,.int .i64 false p.c9.2.2.2.2.1,.int .i64 false p.c9.2.2.2.2.2.1,.sl .bool p.c9.2.2.2.2.2.2.1,.sl yMode p.c9.2.2.2.2.2.2.2,.int .i64 false p.c10.1,.int .i64 false p.c10.2.1,.int .i64 false p.c10.2.2.1.1,.int .i64 false p.c10.2.2.1.2.1,.int .i64 false p.c10.2.2.1.2.2.1,.int .i64 false p.c10.2.2.1.2.2.2.1,.int .i64 false p.c10.2.2.1.2.2.2.2,.int .i64 false p.c10.2.2.2.1.1,.int .i64 false p.c10.2.2.2.1.2.1,.int .i64 false p.c10.2.2.2.1.2.2.1,.int .i64 false p.c10.2.2.2.1.2.2.2.1,.int .i64 false p.c10.2.2.2.1.2.2.2.2.1,.int .i64 false p.c10.2.2.2.1.2.2.2.2.2.1,.int .i64 false p.c10.2.2.2.1.2.2.2.2.2.2,.int .i64 false p.c10.2.2.2.2.1,.bool false p.c10.2.2.2.2.2.1,.int .i64 false p.c10.2.2.2.2.2.2.1,.int .i64 false p.c10.2.2.2.2.2.2.2.1,.sl (.int .u8) p.c10.2.2.2.2.2.2.2.2.1,.sl yMsg p.c10.2.2.2.2.2.2.2.2.2.1,.int .i64 false p.c10.2.2.2.2.2.2.2.2.2.2.1,.int .i64 false p.c10.2.2.2.2.2.2.2.2.2.2.2],.flat false [.int .i64 false p.c11.1,.int .i64 false p.c11.2.1,.int .i64 false p.c11.2.2.1.1,.int .i64 false p.c11.2.2.1.2.1,.int .i64 false p.c11.2.2.1.2.2.1,.int .i64 false p.c11.2.2.1.2.2.2.1,.int .i64 false p.c11.2.2.1.2.2.2.2,.int .i64 false p.c11.2.2.2.1,.sl (.int .u8) p.c11.2.2.2.2],.flat false [.int .i64 false p.c12.1,.int .i64 false p.c12.2.1,.int .i64 false p.c12.2.2.1,.int .i64 false p.c12.2.2.2.1,.int .i64 false p.c12.2.2.2.2],.dead]}
 | .c3 p=>{frames:=[{fn:=37,n:=85,env:=(Env.put (Env.put (Env.put (Env.put .leaf 6 (.ptr 0 0)) 10 (.ptr 1 0)) 12 (.ptr 2 0)) 13 (.int .i64 false p.d0)),todo:=[.code (Code.way (bodyOf Tryz.f37) [1,1,1,1,1,1,1,1,1,1,1,0]),.code (Code.way (bodyOf Tryz.f37) [1,1,1,1,1,1,1,1,1,1,1,1])],marks:=[],rnd:=none}],mem:=[.flat false [.int .i64 false p.d1.1,.int .i64 false p.d1.2.1,.int .i64 false p.d1.2.2.1,.int .i64 false p.d1.2.2.2.1,.int .i64 false p.d1.2.2.2.2.1,.int .i64 false p.d1.2.2.2.2.2.1,.int .i64 false p.d1.2.2.2.2.2.2,.int .i64 false p.d2.1,.int .i64 false p.d2.2.1,.int .i64 false p.d2.2.2.1,.int .i64 false p.d2.2.2.2.1,.int .i64 false p.d2.2.2.2.2.1,.int .i64 false p.d2.2.2.2.2.2.1,.int .i64 false p.d2.2.2.2.2.2.2,.int .i64 false p.d3,.bool false p.d4,.int .i64 false p.d5,.int .i64 false p.d6,.esl true,.esl true,.int .i64 false p.d7,.int .i64 false p.d8],.flat false [.int .i64 false p.d9.1,.int .i64 false p.d9.2.1,.int .i64 false p.d9.2.2.1,.int .i64 false p.d9.2.2.2.1,.int .i64 false p.d9.2.2.2.2.1,.int .i64 false p.d9.2.2.2.2.2.1,.sl .bool p.d9.2.2.2.2.2.2.1,.sl yMode p.d9.2.2.2.2.2.2.2,.int .i64 false p.d10.1,.int .i64 false p.d10.2.1,.int .i64 false p.d10.2.2.1.1,.int .i64 false p.d10.2.2.1.2.1,.int .i64 false p.d10.2.2.1.2.2.1,.int .i64 false p.d10.2.2.1.2.2.2.1,.int .i64 false p.d10.2.2.1.2.2.2.2,.int .i64 false p.d10.2.2.2.1.1,.int .i64 false p.d10.2.2.2.1.2.1,.int .i64 false p.d10.2.2.2.1.2.2.1,.int .i64 false p.d10.2.2.2.1.2.2.2.1,.int .i64 false p.d10.2.2.2.1.2.2.2.2.1,.int .i64 false p.d10.2.2.2.1.2.2.2.2.2.1,.int .i64 false p.d10.2.2.2.1.2.2.2.2.2.2,.int .i64 false p.d10.2.2.2.2.1,.bool false p.d10.2.2.2.2.2.1,.int .i64 false p.d10.2.2.2.2.2.2.1,.int .i64 false p.d10.2.2.2.2.2.2.2.1,.sl (.int .u8) p.d10.2.2.2.2.2.2.2.2.1,.sl yMsg p.d10.2.2.2.2.2.2.2.2.2.1,.int .i64 false p.d10.2.2.2.2.2.2.2.2.2.2.1,.int .i64 false p.d10.2.2.2.2.2.2.2.2.2.2.2],.flat false [.int .i64 false p.d11.1,.int .i64 false p.d11.2.1,.int .i64 false p.d11.2.2.1.1,.int .i64 false p.d11.2.2.1.2.1,.int .i64 false p.d11.2.2.1.2.2.1,.int .i64 false p.d11.2.2.1.2.2.2.1,.int .i64 false p.d11.2.2.1.2.2.2.2,.int .i64 false p.d11.2.2.2.1,.sl (.int .u8) p.d11.2.2.2.2],.dead]}
def t329 (A:Alg) (m:Medl) (n:Node) (seen:List Seen):LT (Node×Int×Bool×Int) Y329:=
 .need (A.call (@tt (Medl×Node)) (m,n)) (
 .br (A.cmp .neq (A.call fn345 (m,n)) 0)
 (.br (A.cmp .neq (A.call fn345 (m,n)) 0)
  (.ret ((0,0,(0,0,0,0,0),(0,0,0,0,0,0,0),0,false,0,0,([]:List Int),([]:List Msg),0,0),0,false,(A.call fn345 (m,n))))
  (.br (A.cmp .neq (A.len seen) 2)
  (.ret ((0,0,(0,0,0,0,0),(0,0,0,0,0,0,0),0,false,0,0,([]:List Int),([]:List Msg),0,0),0,false,2))
  (.need (A.call (@tt (Int×List Seen)) (m.1,seen)) (
   .more (.c0 ⟨(A.call fn369 (m.1,seen)).2.1,(A.call fn369 (m.1,seen)).2.2,(0,0,0,0,0,0,0),(0,0,0,0,0,0,0),0,false,0,0,0,0,(A.call fn369 (m.1,seen)).1⟩)))))
 (.br (A.not (A.cmp .eql n.2.1 1))
  (.ret ((0,0,(0,0,0,0,0),(0,0,0,0,0,0,0),0,false,0,0,([]:List Int),([]:List Msg),0,0),0,false,181))
  (.need (A.call (@tt (Cni×List Int)) (n.2.2.2.2.2.2.2,n.2.2.2.2.2.2.2.2.1)) (
  .br (A.cmp .neq (A.call fn396 (n.2.2.2.2.2.2.2,n.2.2.2.2.2.2.2.2.1)).2 0)
   (.br (A.cmp .neq (A.call fn396 (n.2.2.2.2.2.2.2,n.2.2.2.2.2.2.2.2.1)).2 0)
   (.ret ((0,0,(0,0,0,0,0),(0,0,0,0,0,0,0),0,false,0,0,([]:List Int),([]:List Msg),0,0),0,false,(A.call fn396 (n.2.2.2.2.2.2.2,n.2.2.2.2.2.2.2.2.1)).2))
   (.br (A.cmp .neq (A.len seen) 2)
    (.ret ((0,0,(0,0,0,0,0),(0,0,0,0,0,0,0),0,false,0,0,([]:List Int),([]:List Msg),0,0),0,false,2))
    (.need (A.call (@tt (Int×List Seen)) (m.1,seen)) (
    .more (.c0 ⟨(A.call fn369 (m.1,seen)).2.1,(A.call fn369 (m.1,seen)).2.2,(0,0,0,0,0,0,0),(0,0,0,0,0,0,0),0,false,0,0,0,0,(A.call fn369 (m.1,seen)).1⟩)))))
   (.br (A.cmp .neq (A.len seen) 2)
   (.ret ((0,0,(0,0,0,0,0),(0,0,0,0,0,0,0),0,false,0,0,([]:List Int),([]:List Msg),0,0),0,false,2))
   (.need (A.call (@tt (Int×List Seen)) (m.1,seen)) (
    .more (.c1 ⟨(A.call fn369 (m.1,seen)).2.1,(A.call fn369 (m.1,seen)).2.2,(0,0,0,0,0,0,0),(0,0,0,0,0,0,0),0,false,0,0,0,0,m,(n.1,n.2.1,n.2.2.1,n.2.2.2.1,n.2.2.2.2.1,n.2.2.2.2.2.1,n.2.2.2.2.2.2.1,(A.call fn396 (n.2.2.2.2.2.2.2,n.2.2.2.2.2.2.2.2.1)).1),(A.call fn369 (m.1,seen)).1⟩))))))))
def s329 (A:Alg):Y329→LT (Node×Int×Bool×Int) Y329
 | .c0 p=>
  .br (A.not p.a1)
  (.bad 73 "starctl.go:347")
  (.br (A.cmp .eql p.a10.1 1)
   (.need (A.cmp .leq 0 p.a10.2.2.2.1) (
   .bad 73 "starctl.go:329"))
   (.bad 73 "starctl.go:332"))
 | .c1 p=>
  .br (A.not p.b1)
  (.ret (p.b11,0,false,0))
  (.br (A.cmp .eql p.b12.1 1)
   (.need (A.cmp .leq 0 p.b12.2.2.2.1) (
   .eqs (eqB (A.cmp .neq p.b12.2.2.2.1 p.b11.1)) (
    .eqs (eqI p.b11.1) (
    .eqs (eqV (.ptr 1 8)) (
     .eqs (eqV (.ptr 1 8)) (
     .eqs (eqV (.ptr 1 0)) (
      .eqs (eqV (.ptr 1 0)) (
      .eqs (eqI p.b12.2.2.2.1) (
       .eqs (eqV (.ptr 4 7)) (
       .br (A.not (A.cmp .neq p.b12.2.2.2.1 p.b11.1))
        (.ret (p.b11,0,false,0))
        (.more (.c2 ⟨p.b0,p.b2,p.b3,p.b4,p.b5,p.b6,p.b7,p.b8,p.b9,p.b10,p.b11,p.b12,(0,p.b12.2.2.2.1,0,0,(A.bin .shl .i64 1 p.b12.2.2.2.1))⟩))))))))))))
   (.need (A.call (@tt ((Int×Int×Int×Int×Int)×Int)) (p.b12.2.2.1,p.b10.1)) (
   .br (A.cmp .eql (A.call fn87 (p.b12.2.2.1,p.b10.1)) 0)
    (.br (A.cmp .lss p.b12.2.2.1.2.2.1 (A.len p.b10.2.2.2.2.2.2.2))
    (.br (A.cmp .leq p.b12.2.2.1.2.2.2.1 (A.len p.b10.2.2.2.2.2.2.2))
     (.br (A.cmp .neq p.b12.2.2.1.2.1 p.b11.1)
     (.need (A.call (@tt (CSt×Int)) (p.b12.2.2.1,p.b12.2.2.1.2.1)) (
      .br (A.call fn435 (p.b12.2.2.1,p.b12.2.2.1.2.1))
      (.need (A.call (@tt (Medl×Int×Int)) (p.b10,p.b12.2.2.1.2.2.1,p.b12.2.2.1.2.1)) (
       .br (A.cmp .neq (A.call fn447 (p.b10,p.b12.2.2.1.2.2.1,p.b12.2.2.1.2.1)).2 0)
       (.eqs (eqV (.agg [.int .i64 false p.b12.2.2.1.1,.int .i64 false p.b12.2.2.1.2.1,.int .i64 false p.b12.2.2.1.2.2.1,.int .i64 false p.b12.2.2.1.2.2.2.1,.int .i64 false p.b12.2.2.1.2.2.2.2])) (
        .eqs (eqB false) (
        .ret (p.b11,0,false,0))))
       (.br (A.cmp .eql (A.call fn447 (p.b10,p.b12.2.2.1.2.2.1,p.b12.2.2.1.2.1)).1 3)
        (.br (A.cmp .neq (A.call fn447 (p.b10,p.b12.2.2.1.2.2.1,p.b12.2.2.1.2.1)).1 0)
        (.br (A.cmp .eql (A.call fn447 (p.b10,p.b12.2.2.1.2.2.1,p.b12.2.2.1.2.1)).1 p.b12.1)
         (.eqs (eqV (.agg [.int .i64 false p.b12.2.2.1.1,.int .i64 false p.b12.2.2.1.2.1,.int .i64 false p.b12.2.2.1.2.2.1,.int .i64 false p.b12.2.2.1.2.2.2.1,.int .i64 false p.b12.2.2.1.2.2.2.2])) (
         .eqs (eqB (A.cmp .eql 0 (A.len p.b12.2.2.2.2))) (
          .br (A.not (A.cmp .eql 0 (A.len p.b12.2.2.2.2)))
          (.ret (p.b11,0,false,0))
          (.more (.c2 ⟨p.b0,p.b2,p.b3,p.b4,p.b5,p.b6,p.b7,p.b8,p.b9,p.b10,p.b11,p.b12,p.b12.2.2.1⟩)))))
         (.eqs (eqV (.agg [.int .i64 false p.b12.2.2.1.1,.int .i64 false p.b12.2.2.1.2.1,.int .i64 false p.b12.2.2.1.2.2.1,.int .i64 false p.b12.2.2.1.2.2.2.1,.int .i64 false p.b12.2.2.1.2.2.2.2])) (
         .eqs (eqB false) (
          .ret (p.b11,0,false,0)))))
        (.eqs (eqV (.agg [.int .i64 false p.b12.2.2.1.1,.int .i64 false p.b12.2.2.1.2.1,.int .i64 false p.b12.2.2.1.2.2.1,.int .i64 false p.b12.2.2.1.2.2.2.1,.int .i64 false p.b12.2.2.1.2.2.2.2])) (
         .eqs (eqB false) (
         .ret (p.b11,0,false,0)))))
        (.need (A.and (A.cmp .leq 0 p.b12.2.2.1.2.2.1) (A.cmp .lss p.b12.2.2.1.2.2.1 (A.len p.b10.2.2.2.2.2.2.2))) (
        .need (A.and (A.cmp .leq 0 p.b12.2.2.1.2.1) (A.cmp .lss p.b12.2.2.1.2.1 (A.len (A.nth yMode p.b10.2.2.2.2.2.2.2 p.b12.2.2.1.2.2.1:Mode).1))) (
         .br (A.cmp .neq (A.call fn447 (p.b10,p.b12.2.2.1.2.2.1,p.b12.2.2.1.2.1)).1 0)
         (.br (A.cmp .eql (A.call fn447 (p.b10,p.b12.2.2.1.2.2.1,p.b12.2.2.1.2.1)).1 p.b12.1)
          (.eqs (eqV (.agg [.int .i64 false p.b12.2.2.1.1,.int .i64 false p.b12.2.2.1.2.1,.int .i64 false p.b12.2.2.1.2.2.1,.int .i64 false p.b12.2.2.1.2.2.2.1,.int .i64 false p.b12.2.2.1.2.2.2.2])) (
          .eqs (eqB (A.cmp .eql (A.nth (.int .i64) (A.nth yMode p.b10.2.2.2.2.2.2.2 p.b12.2.2.1.2.2.1:Mode).1 p.b12.2.2.1.2.1:Int) (A.len p.b12.2.2.2.2))) (
           .br (A.not (A.cmp .eql (A.nth (.int .i64) (A.nth yMode p.b10.2.2.2.2.2.2.2 p.b12.2.2.1.2.2.1:Mode).1 p.b12.2.2.1.2.1:Int) (A.len p.b12.2.2.2.2)))
           (.ret (p.b11,0,false,0))
           (.more (.c2 ⟨p.b0,p.b2,p.b3,p.b4,p.b5,p.b6,p.b7,p.b8,p.b9,p.b10,p.b11,p.b12,p.b12.2.2.1⟩)))))
          (.eqs (eqV (.agg [.int .i64 false p.b12.2.2.1.1,.int .i64 false p.b12.2.2.1.2.1,.int .i64 false p.b12.2.2.1.2.2.1,.int .i64 false p.b12.2.2.1.2.2.2.1,.int .i64 false p.b12.2.2.1.2.2.2.2])) (
          .eqs (eqB false) (
           .ret (p.b11,0,false,0)))))
         (.eqs (eqV (.agg [.int .i64 false p.b12.2.2.1.1,.int .i64 false p.b12.2.2.1.2.1,.int .i64 false p.b12.2.2.1.2.2.1,.int .i64 false p.b12.2.2.1.2.2.2.1,.int .i64 false p.b12.2.2.1.2.2.2.2])) (
          .eqs (eqB false) (
          .ret (p.b11,0,false,0))))))))))
      (.eqs (eqB false) (
       .ret (p.b11,0,false,0)))))
     (.eqs (eqB false) (
      .ret (p.b11,0,false,0))))
     (.eqs (eqB false) (
     .ret (p.b11,0,false,0))))
    (.eqs (eqB false) (
     .ret (p.b11,0,false,0))))
    (.eqs (eqB false) (
    .ret (p.b11,0,false,0))))))
 | .c2 p=>
  .eqs (eqV (.agg [.int .i64 false p.c12.1,.int .i64 false p.c12.2.1,.int .i64 false p.c12.2.2.1,.int .i64 false p.c12.2.2.2.1,.int .i64 false p.c12.2.2.2.2])) (
  .eqs (eqV (.ptr 1 0)) (
   .eqs (eqV (.ptr 1 0)) (
   .eqs (eqV (.agg [.int .i64 false p.c12.1,.int .i64 false p.c12.2.1,.int .i64 false p.c12.2.2.1,.int .i64 false p.c12.2.2.2.1,.int .i64 false p.c12.2.2.2.2])) (
    .eqs (eqV (.ptr 1 0)) (
    .br (A.cmp .eql p.c11.1 4)
     (.need (A.call (@tt (Cni×Int×List Int)) (p.c10.2.2.2.2.2.2.2,p.c12.2.1,p.c11.2.2.2.2)) (
     .eqs (eqI (A.call fn440 (p.c10.2.2.2.2.2.2.2,p.c12.2.1,p.c11.2.2.2.2)).2) (
      .eqs (eqV (.agg [.int .i64 false (A.call fn440 (p.c10.2.2.2.2.2.2.2,p.c12.2.1,p.c11.2.2.2.2)).1.1,.sl (.int .u8) (A.call fn440 (p.c10.2.2.2.2.2.2.2,p.c12.2.1,p.c11.2.2.2.2)).1.2.1,.sl yMsg (A.call fn440 (p.c10.2.2.2.2.2.2.2,p.c12.2.1,p.c11.2.2.2.2)).1.2.2.1,.int .i64 false (A.call fn440 (p.c10.2.2.2.2.2.2.2,p.c12.2.1,p.c11.2.2.2.2)).1.2.2.2.1,.int .i64 false (A.call fn440 (p.c10.2.2.2.2.2.2.2,p.c12.2.1,p.c11.2.2.2.2)).1.2.2.2.2])) (
      .eqs (eqV (.tup [.agg [.int .i64 false (A.call fn440 (p.c10.2.2.2.2.2.2.2,p.c12.2.1,p.c11.2.2.2.2)).1.1,.sl (.int .u8) (A.call fn440 (p.c10.2.2.2.2.2.2.2,p.c12.2.1,p.c11.2.2.2.2)).1.2.1,.sl yMsg (A.call fn440 (p.c10.2.2.2.2.2.2.2,p.c12.2.1,p.c11.2.2.2.2)).1.2.2.1,.int .i64 false (A.call fn440 (p.c10.2.2.2.2.2.2.2,p.c12.2.1,p.c11.2.2.2.2)).1.2.2.2.1,.int .i64 false (A.call fn440 (p.c10.2.2.2.2.2.2.2,p.c12.2.1,p.c11.2.2.2.2)).1.2.2.2.2],.int .i64 false (A.call fn440 (p.c10.2.2.2.2.2.2.2,p.c12.2.1,p.c11.2.2.2.2)).2])) (
       .need (A.call (@tt (Cni×Int×List Int)) (p.c10.2.2.2.2.2.2.2,p.c12.2.1,p.c11.2.2.2.2)) (
       .eqs (eqV (.tup [.agg [.int .i64 false (A.call fn440 (p.c10.2.2.2.2.2.2.2,p.c12.2.1,p.c11.2.2.2.2)).1.1,.sl (.int .u8) (A.call fn440 (p.c10.2.2.2.2.2.2.2,p.c12.2.1,p.c11.2.2.2.2)).1.2.1,.sl yMsg (A.call fn440 (p.c10.2.2.2.2.2.2.2,p.c12.2.1,p.c11.2.2.2.2)).1.2.2.1,.int .i64 false (A.call fn440 (p.c10.2.2.2.2.2.2.2,p.c12.2.1,p.c11.2.2.2.2)).1.2.2.2.1,.int .i64 false (A.call fn440 (p.c10.2.2.2.2.2.2.2,p.c12.2.1,p.c11.2.2.2.2)).1.2.2.2.2],.int .i64 false (A.call fn440 (p.c10.2.2.2.2.2.2.2,p.c12.2.1,p.c11.2.2.2.2)).2])) (
        .eqs (eqV (.sl (.int .u8) p.c11.2.2.2.2)) (
        .eqs (eqV (.ptr 6 8)) (
         .eqs (eqI p.c12.2.1) (
         .eqs (eqV (.ptr 1 11)) (
          .eqs (eqV (.ptr 1 10)) (
          .eqs (eqV (.ptr 1 8)) (
           .eqs (eqV (.ptr 1 0)) (
           .eqs (eqV (.ptr 1 0)) (
            .eqs (eqV (.agg [.int .i64 false p.c10.2.2.2.2.2.2.2.1,.sl (.int .u8) p.c10.2.2.2.2.2.2.2.2.1,.sl yMsg p.c10.2.2.2.2.2.2.2.2.2.1,.int .i64 false p.c10.2.2.2.2.2.2.2.2.2.2.1,.int .i64 false p.c10.2.2.2.2.2.2.2.2.2.2.2])) (
            .eqs (eqV (.ptr 1 25)) (
             .eqs (eqV (.ptr 1 8)) (
             .eqs (eqV (.ptr 1 0)) (
              .eqs (eqV (.ptr 1 0)) (
              .eqs (eqI (A.call fn440 (p.c10.2.2.2.2.2.2.2,p.c12.2.1,p.c11.2.2.2.2)).2) (
               .br (A.cmp .eql (A.call fn440 (p.c10.2.2.2.2.2.2.2,p.c12.2.1,p.c11.2.2.2.2)).2 0)
               (.more (.c3 ⟨p.c0,p.c1,p.c2,p.c3,p.c4,p.c5,p.c6,p.c7,p.c8,p.c9,(p.c10.1,3,p.c12,(p.c10.1,p.c9.1,p.c12.2.2.2.2,1,0,0,0),0,false,0,(A.call fn440 (p.c10.2.2.2.2.2.2.2,p.c12.2.1,p.c11.2.2.2.2)).1),p.c11⟩))
               (.more (.c3 ⟨p.c0,p.c1,p.c2,p.c3,p.c4,p.c5,p.c6,p.c7,p.c8,p.c9,(p.c10.1,3,p.c12,(p.c10.1,p.c9.1,p.c12.2.2.2.2,1,0,0,0),0,false,0,p.c10.2.2.2.2.2.2.2),p.c11⟩)))))))))))))))))))))))
     (.more (.c3 ⟨p.c0,p.c1,p.c2,p.c3,p.c4,p.c5,p.c6,p.c7,p.c8,p.c9,(p.c10.1,3,p.c12,(p.c10.1,p.c9.1,p.c12.2.2.2.2,1,0,0,0),0,false,0,p.c10.2.2.2.2.2.2.2),p.c11⟩)))))))
 | .c3 p=>
  .need (A.call (@tt (Medl×CSt×Int)) (p.d9,p.d10.2.2.1,p.d11.2.1)) (
  .eqs (eqI (A.call fn441 (p.d9,p.d10.2.2.1,p.d11.2.1)).2) (
   .eqs (eqV (.agg [.int .i64 false (A.call fn441 (p.d9,p.d10.2.2.1,p.d11.2.1)).1.1,.int .i64 false (A.call fn441 (p.d9,p.d10.2.2.1,p.d11.2.1)).1.2.1,.int .i64 false (A.call fn441 (p.d9,p.d10.2.2.1,p.d11.2.1)).1.2.2.1,.int .i64 false (A.call fn441 (p.d9,p.d10.2.2.1,p.d11.2.1)).1.2.2.2.1,.int .i64 false (A.call fn441 (p.d9,p.d10.2.2.1,p.d11.2.1)).1.2.2.2.2])) (
   .eqs (eqV (.tup [.agg [.int .i64 false (A.call fn441 (p.d9,p.d10.2.2.1,p.d11.2.1)).1.1,.int .i64 false (A.call fn441 (p.d9,p.d10.2.2.1,p.d11.2.1)).1.2.1,.int .i64 false (A.call fn441 (p.d9,p.d10.2.2.1,p.d11.2.1)).1.2.2.1,.int .i64 false (A.call fn441 (p.d9,p.d10.2.2.1,p.d11.2.1)).1.2.2.2.1,.int .i64 false (A.call fn441 (p.d9,p.d10.2.2.1,p.d11.2.1)).1.2.2.2.2],.int .i64 false (A.call fn441 (p.d9,p.d10.2.2.1,p.d11.2.1)).2])) (
    .need (A.call (@tt (Medl×CSt×Int)) (p.d9,p.d10.2.2.1,p.d11.2.1)) (
    .eqs (eqV (.tup [.agg [.int .i64 false (A.call fn441 (p.d9,p.d10.2.2.1,p.d11.2.1)).1.1,.int .i64 false (A.call fn441 (p.d9,p.d10.2.2.1,p.d11.2.1)).1.2.1,.int .i64 false (A.call fn441 (p.d9,p.d10.2.2.1,p.d11.2.1)).1.2.2.1,.int .i64 false (A.call fn441 (p.d9,p.d10.2.2.1,p.d11.2.1)).1.2.2.2.1,.int .i64 false (A.call fn441 (p.d9,p.d10.2.2.1,p.d11.2.1)).1.2.2.2.2],.int .i64 false (A.call fn441 (p.d9,p.d10.2.2.1,p.d11.2.1)).2])) (
     .eqs (eqI p.d11.2.1) (
     .eqs (eqV (.agg [.int .i64 false p.d10.2.2.1.1,.int .i64 false p.d10.2.2.1.2.1,.int .i64 false p.d10.2.2.1.2.2.1,.int .i64 false p.d10.2.2.1.2.2.2.1,.int .i64 false p.d10.2.2.1.2.2.2.2])) (
      .eqs (eqV (.ptr 1 10)) (
      .eqs (eqV (.ptr 1 8)) (
       .eqs (eqV (.ptr 1 0)) (
       .eqs (eqV (.ptr 1 0)) (
        .eqs (eqV (.agg [.int .i64 false p.d9.1,.int .i64 false p.d9.2.1,.int .i64 false p.d9.2.2.1,.int .i64 false p.d9.2.2.2.1,.int .i64 false p.d9.2.2.2.2.1,.int .i64 false p.d9.2.2.2.2.2.1,.sl .bool p.d9.2.2.2.2.2.2.1,.sl yMode p.d9.2.2.2.2.2.2.2])) (
        .eqs (eqV (.ptr 1 0)) (
         .eqs (eqV (.ptr 1 0)) (
         .eqs (eqV (.ptr 1 0)) (
          .eqs (eqI (A.call fn441 (p.d9,p.d10.2.2.1,p.d11.2.1)).2) (
          .br (A.cmp .eql (A.call fn441 (p.d9,p.d10.2.2.1,p.d11.2.1)).2 0)
           (.ret ((p.d10.1,p.d10.2.1,(A.call fn441 (p.d9,p.d10.2.2.1,p.d11.2.1)).1,p.d10.2.2.2),p.d0,true,0))
           (.ret (p.d10,p.d0,true,0)))))))))))))))))))
noncomputable def E329 (A:Alg):Info (Ty.Ts [yNode,(.int .i64),.bool,(.int .i64)]):={ti:=tys,fns:=[(37,Tryz.f37),(101,Tryz.f101),(102,Tryz.f102),(103,Tryz.f103),(104,Tryz.f104),(105,Tryz.f105),(159,Tryz.f159),(228,Tryz.f228)],sps:=[(187,sp87),(53,sp345),(89,sp369),(117,sp396),(188,sp435),(194,sp440),(195,sp441),(208,sp447)],stops:=[],cuts:=[⟨37,7, [[6,10,12,13,14]]⟩,⟨37,12, [[6,10,12,13,15]]⟩,⟨37,16, [[6,10,12,13]]⟩],consts:=[],fin:=finD A [yNode,(.int .i64),.bool,(.int .i64)]}
theorem t329_ok (A:Alg) (m:Medl) (n:Node) (seen:List Seen):run A (E329 A) 132 (startC 37 Tryz.f37 (dvals A [yMedl,yNode,(.slice ySeen)] (m,n,seen)))=(t329 A m n seen).tr cfg329:=by kernel_rfl
theorem s329_ok (A:Alg):∀y,∃n,run A (E329 A) n (advance (E329 A).sps (cfg329 y))=(s329 A y).tr cfg329
 | .c0 p=>⟨42,by kernel_rfl⟩
 | .c1 p=>⟨226,by kernel_rfl⟩
 | .c2 p=>⟨124,by kernel_rfl⟩
 | .c3 p=>⟨58,by kernel_rfl⟩
def w329:Walk Tryz.prog 37 [yMedl,yNode,(.slice ySeen)] [yNode,(.int .i64),.bool,(.int .i64)] Y329:=⟨fun (m,n,seen)=>t329 std m n seen,s329 std⟩
theorem w329_ok:w329.Ok:=
 walk_ok (E:=E329 std) ⟨tys_fit,fns_cons Tryz.func37 (by kernel_rfl) (fns_cons Tryz.func101 (by kernel_rfl) (fns_cons Tryz.func102 (by kernel_rfl) (fns_cons Tryz.func103 (by kernel_rfl) (fns_cons Tryz.func104 (by kernel_rfl) (fns_cons Tryz.func105 (by kernel_rfl) (fns_cons Tryz.func159 (by kernel_rfl) (fns_cons Tryz.func228 (by kernel_rfl) (fns_nil)))))))),sps_cons so87 (sps_cons so345 (sps_cons so369 (sps_cons so396 (sps_cons so435 (sps_cons so440 (sps_cons so441 (sps_cons so447 (sps_nil)))))))),by kernel_rfl⟩ rfl rfl rfl (by kernel_rfl) w329 cfg329 132 (fun (m,n,seen)=>t329_ok std m n seen) (s329_ok std)
theorem not_eqT {v l:Int} (h:l=v):std.not (std.cmp .eql v l)=false:=by rw [eql_dec,decide_eq_true h.symm]; rfl
theorem not_eqF {v l:Int} (h:¬l=v):std.not (std.cmp .eql v l)=true:=by rw [eql_dec,decide_eq_false (fun k=>h k.symm)]; rfl
theorem sher_c3 {p:P329c3}:Runs (s329 std) (.more (.c3 p)) ((p.d10.1,p.d10.2.1,takeF p.d9 p.d10.2.2.1 p.d11.2.1,p.d10.2.2.2),p.d0,true,0):=by
 rw [runs_more,s329]
 refine runs_need.2 ⟨rfl,?_⟩
 repeat' (first | refine runs_eqI.2 ?_ | refine runs_eqV.2 ?_ | refine runs_need.2 ⟨rfl,?_⟩)
 refine runs_if (p:=(takF p.d9 p.d10.2.2.1 p.d11.2.1).2=0) eql_dec (fun h=>?_) fun h=>?_
 ·exact runs_r (by rw [takeF,decide_eq_true h]; rfl) (.ret _)
 ·exact runs_r (by rw [takeF,decide_eq_false h]; rfl) (.ret _)
theorem sher_c2 {p:P329c2} (h:p.c11.1=4→(dlvF p.c10.2.2.2.2.2.2.2 p.c12.2.1 p.c11.2.2.2.2).2=0):Runs (s329 std) (.more (.c2 p)) (joinF p.c9 p.c10 p.c12 p.c11,p.c0,true,0):=by
 rw [runs_more,s329]
 repeat' (first | refine runs_eqI.2 ?_ | refine runs_eqV.2 ?_)
 refine runs_if (p:=p.c11.1=4) eql_dec (fun g=>runs_need.2 ⟨rfl,?_⟩) fun g=>runs_r (by rw [joinF,decide_eq_false g]; rfl) sher_c3
 repeat' (first | refine runs_eqI.2 ?_ | refine runs_eqV.2 ?_ | refine runs_need.2 ⟨rfl,?_⟩)
 exact (runs_brT (ceq0 (h g))).2 (runs_r (by rw [joinF,decide_eq_true g]; rfl) sher_c3)
theorem kind_not0 {m:Medl} {k n:Int} (h:(kindF m k n).2=0):¬(kindF m k n).1=0:=by
 unfold kindF at h ⊢
 by_cases h1:nodeF m n=0
 ·by_cases h2:0≤k∧k≤mlen m - 1
  ·rw [decide_eq_true h1,decide_eq_true h2,cond_true,cond_true]
   generalize (std.nth .bool (std.nth yMode m.2.2.2.2.2.2.2 k:Mode).2.1 n:Bool)=a
   generalize (std.nth (.int .i64) (std.nth yMode m.2.2.2.2.2.2.2 k:Mode).1 n:Int)=b
   show ¬fn183 (a,b)=0
   simp only [fn183,t183,LT.val,Bool.cond_eq_ite]
   repeat' split
   all_goals decide
  ·rw [decide_eq_true h1,decide_eq_false h2,cond_true,cond_false] at h; exact absurd h (by decide)
 ·rw [decide_eq_false h1,cond_false] at h; exact absurd h h1
theorem sher_c1 {p:P329c1} {m:Medl} {n:Node} {f:Frm} {t:Int} (h0:p.b0=t) (hi:p.b1=true) (h1:p.b10=m) (h2:p.b11=n) (hf:p.b12=f) (hl:0≤f.2.2.2.1) (hd:mjF m n f=true→(dlvF n.2.2.2.2.2.2.2 f.2.2.1.2.1 f.2.2.2.2).2=0) (hm:medlB m=true):Runs (s329 std) (.more (.c1 p)) (bif decide (f.1=1) then (bif decide (f.2.2.2.1=n.1) then (n,0,false,0) else (joinF m n (0,f.2.2.2.1,0,0,std.bin .shl .i64 1 f.2.2.2.1) f,t,true,0)) else bif mjF m n f then (joinF m n f.2.2.1 f,t,true,0) else (n,0,false,0)):=by
 rw [runs_more,s329,h0,hi,h1,h2,hf]
 refine (runs_brF rfl).2 (runs_if (p:=f.1=1) eql_dec (fun h=>runs_need.2 ⟨decide_eq_true hl,?_⟩) fun h=>runs_need.2 ⟨rfl,?_⟩)
 ·rw [decide_eq_true h,cond_true]
  repeat' (first | refine runs_eqI.2 ?_ | refine runs_eqV.2 ?_ | refine runs_eqB.2 ?_)
  by_cases g:f.2.2.2.1=n.1
  ·rw [decide_eq_true g]
   exact (runs_brT (by rw [cneq_dec,decide_eq_false (not_not_intro g)]; rfl)).2 (.ret _)
  ·rw [decide_eq_false g]
   exact (runs_brF (by rw [cneq_dec,decide_eq_true g]; rfl)).2 (sher_c2 fun k=>by
    have:f.1=4:=k
    omega)
 rw [decide_eq_false h,cond_false]
 rw [show std.call fn87 (f.2.2.1,m.1)=chkS (f.2.2.1,m.1) from rfl,show std.call fn447 (m,f.2.2.1.2.2.1,f.2.2.1.2.1)=kindF m f.2.2.1.2.2.1 f.2.2.1.2.1 from rfl,show std.call fn435 (f.2.2.1,f.2.2.1.2.1)=hasF f.2.2.1 f.2.2.1.2.1 from rfl]
 obtain ⟨R,hR⟩:∃R:Node×Int×Bool×Int,R=bif mjF m n f then (joinF m n f.2.2.1 f,t,true,0) else (n,0,false,0):=⟨_,rfl⟩
 rw [←hR]
 have no:mjF m n f=false→Runs (s329 std) (.ret (n,0,false,0)) R:=fun e=>runs_r (by rw [hR,e]; rfl) (.ret _)
 have yes:∀{a b c d e g i j},mjF m n f=true→Runs (s329 std) (.more (.c2 ⟨t,a,b,c,d,e,g,i,j,m,n,f,f.2.2.1⟩)) R:=fun e=>runs_r (by rw [hR,e]; rfl) (sher_c2 fun _=>hd e)
 unfold mjF fitsF at no yes
 refine runs_if (p:=chkS (f.2.2.1,m.1)=0) eql_dec (fun g1=>runs_if (p:=f.2.2.1.2.2.1 < mlen m) rfl (fun g2=>runs_if (p:=f.2.2.1.2.2.2.1≤mlen m) rfl (fun g3=>runs_if (p:=¬f.2.2.1.2.1=n.1) cneq_dec (fun g4=>runs_need.2 ⟨rfl,?_⟩) fun g=>runs_eqB.2 (no ?_)) fun g=>runs_eqB.2 (no ?_)) fun g=>runs_eqB.2 (no ?_)) fun g=>runs_eqB.2 (no ?_)
 ·rw [decide_eq_true g1,decide_eq_true g2,decide_eq_true g3,decide_eq_true g4] at no yes
  cases hh:hasF f.2.2.1 f.2.2.1.2.1
  ·exact (runs_brF rfl).2 (runs_eqB.2 (no (by rw [hh]; rfl)))
  rw [hh] at no yes
  have hc:=(chk_in g1).2.2.2.1
  refine (runs_brT rfl).2 (runs_need.2 ⟨rfl,?_⟩)
  unfold lsdF at no yes
  refine runs_if (p:=¬(kindF m f.2.2.1.2.2.1 f.2.2.1.2.1).2=0) cneq_dec (fun k1=>runs_eqV.2 (runs_eqB.2 (no (by rw [decide_eq_false k1]; rfl)))) fun k1=>?_
  have k1:=Decidable.not_not.1 k1
  have kn:=kind_not0 k1
  obtain ⟨_,hn,hk⟩:=kind_zero k1
  have hx:=(mode_lens (mode_at hm hk.1 hk.2)).1
  rw [decide_eq_true k1] at no yes
  refine runs_if (p:=(kindF m f.2.2.1.2.2.1 f.2.2.1.2.1).1=3) eql_dec (fun k2=>(runs_brT (by rw [cneq_dec]; exact decide_eq_true kn)).2 (runs_if (p:=(kindF m f.2.2.1.2.2.1 f.2.2.1.2.1).1=f.1) eql_dec (fun k3=>runs_eqV.2 (runs_eqB.2 ?_)) fun k3=>runs_eqV.2 (runs_eqB.2 (no ?_)))) fun k2=>runs_need.2 ⟨need_in hk.1 hk.2,runs_need.2 ⟨need_at hx hn.1 (by omega),(runs_brT (by rw [cneq_dec]; exact decide_eq_true kn)).2 (runs_if (p:=(kindF m f.2.2.1.2.2.1 f.2.2.1.2.1).1=f.1) eql_dec (fun k3=>runs_eqV.2 (runs_eqB.2 ?_)) fun k3=>runs_eqV.2 (runs_eqB.2 (no ?_)))⟩⟩
  ·rw [decide_eq_true k2,decide_eq_true k3.symm] at no yes
   by_cases k4:(f.2.2.2.2.length:Int)=0
   ·exact (runs_brF (by rw [lenI,eql_dec,decide_eq_true k4.symm]; rfl)).2 (yes (decide_eq_true k4))
   ·exact (runs_brT (by rw [lenI,eql_dec,decide_eq_false (fun k=>k4 k.symm)]; rfl)).2 (no (decide_eq_false k4))
  ·rw [decide_eq_false (fun k=>k3 k.symm)]; rfl
  ·rw [decide_eq_false k2,decide_eq_true k3.symm] at no yes
   by_cases k4:(f.2.2.2.2.length:Int)=(std.nth (.int .i64) (std.nth yMode m.2.2.2.2.2.2.2 f.2.2.1.2.2.1:Mode).1 f.2.2.1.2.1:Int)
   ·exact (runs_brF (not_eqT k4)).2 (yes (decide_eq_true k4))
   ·exact (runs_brT (not_eqF k4)).2 (no (decide_eq_false k4))
  ·rw [decide_eq_false (fun k=>k3 k.symm)]; rfl
 ·rw [decide_eq_false g,Bool.false_and,Bool.and_false]
 ·rw [decide_eq_false g,Bool.and_false,Bool.and_false]; rfl
 ·rw [decide_eq_false g,Bool.false_and,Bool.and_false]; rfl
 ·rw [decide_eq_false g,Bool.false_and]; rfl
theorem sher1 {m:Medl} {n:Node} {seen:List Seen}:Runs (s329 std) (t329 std m n seen) (herF m n seen false):=by
 unfold t329 herF
 refine runs_need.2 ⟨rfl,?_⟩
 rw [show std.call fn345 (m,n)=nodF m n from rfl,show std.call fn396 (n.2.2.2.2.2.2.2,n.2.2.2.2.2.2.2.2.1)=wrF n.2.2.2.2.2.2.2 n.2.2.2.2.2.2.2.2.1 from rfl]
 by_cases h:nodF m n=0
 ·rw [decide_eq_true h,wr_own h,eql_dec]
  refine (runs_brF (cne0 h)).2 ?_
  cases decide (n.2.1=1)
  ·exact (runs_brT rfl).2 (.ret _)
  refine (runs_brF rfl).2 (runs_need.2 ⟨rfl,(runs_brF rfl).2 (runs_if (p:=¬(seen.length:Int)=2) cneq_dec (fun h2=>runs_r (by rw [decide_eq_false h2]; rfl) (.ret _)) fun h2=>runs_need.2 ⟨rfl,?_⟩)⟩)
  rw [decide_eq_true (Decidable.not_not.1 h2),show std.call fn369 (m.1,seen)=expF m.1 seen from rfl]
  cases he:(expF m.1 seen).2.2
  ·rw [runs_more,s329]
   exact (runs_brT rfl).2 (.ret _)
  obtain ⟨e1,e2,e3⟩:=exp_in he
  have hl:=fr_low e3
  exact sher_c1 (m:=m) (n:=n) (f:=(expF m.1 seen).1) (t:=(expF m.1 seen).2.1) rfl rfl rfl rfl rfl hl.1 (dlv_ok h e3) (nod_zero h).1
 ·rw [decide_eq_false h]; exact (runs_brT (cne1 h)).2 ((runs_brT (cne1 h)).2 (.ret _))
def fn329:(Medl×Node×List Seen)→(Node×Int×Bool×Int):=fun (m,n,s)=>herF m n s false
def sp329:FSpec:=⟨[yMedl,yNode,(.slice ySeen)], [yNode,(.int .i64),.bool,(.int .i64)],(@tt (Medl×Node×List Seen)),fn329⟩
theorem run329 {m:Medl} {n:Node} {seen:List Seen} (h:Ty.hass [yMedl,yNode,(.slice ySeen)] (m,n,seen)):Runs (s329 std) (t329 std m n seen) (fn329 (m,n,seen)):=by
 exact sher1
theorem so329:FSpec.Sound Tryz.prog 37 sp329:=
 w329_ok.sound _ _ fun (m,n,seen) _ h=>run329 h
def t380 (A:Alg) (id:Int):LT (List Seen) Empty:=
 .need (A.call (@tt ((Int×Int×(Int×Int×Int×Int×Int)×Int×List Int))) (1,0,(0,0,0,0,0),id,([]:List Int))) (
 .ret [(2,9,(A.call fn40 (1,0,(0,0,0,0,0),id,([]:List Int))).1),(0,0,0,([]:List Int))])
noncomputable def E380 (A:Alg):Info (Ty.Ts [(.slice ySeen)]):={ti:=tys,fns:=[(100,Tryz.f100)],sps:=[(72,sp40)],stops:=[],cuts:=[],consts:=[],fin:=finD A [(.slice ySeen)]}
theorem t380_ok (A:Alg) (id:Int):run A (E380 A) 30 (startC 100 Tryz.f100 (dvals A [(.int .i64)] id))=(t380 A id).tr Empty.elim:=by kernel_rfl
def w380:Walk Tryz.prog 100 [(.int .i64)] [(.slice ySeen)] Empty:=⟨fun id=>t380 std id,Empty.elim⟩
theorem w380_ok:w380.Ok:=
 walk_ok (E:=E380 std) ⟨tys_fit,fns_cons Tryz.func100 (by kernel_rfl) (fns_nil),sps_cons so40 (sps_nil),by kernel_rfl⟩ rfl rfl rfl (by kernel_rfl) w380 Empty.elim 30 (fun id=>t380_ok std id) (fun y=>y.elim)
def fn380:Int→(List Seen):=fun id=>(t380 std id).val (Ty.dflts [(.slice ySeen)])
def sp380:FSpec:=⟨[(.int .i64)], [(.slice ySeen)],(@tt Int),fn380⟩
theorem eqs380 (id:Int):(t380 std id).Eqs:=by simp only [t380,LT.Eqs,eqV,eqI,eqB,eqK,and_self,true_and,and_true]
theorem pre380_ok {id:Int} (h:Ty.hass [(.int .i64)] id):(t380 std id).pre=true:=by
 simp [t380,LT.pre,std_call,tt_eq]
theorem so380:FSpec.Sound Tryz.prog 100 sp380:=
 w380_ok.sound _ _ fun id _ h=>LT.runs (d:=Ty.dflts [(.slice ySeen)]) (eqs380 id) (pre380_ok h)
def t327 (A:Alg) (n:Node):LT Bool Empty:=
 .ret (A.cmp .leq (A.len n.2.2.2.2.2.2.2.2.2.1) 20)
noncomputable def E327 (A:Alg):Info (Ty.Ts [.bool]):={ti:=tys,fns:=[(35,Tryz.f35)],sps:=[],stops:=[],cuts:=[],consts:=[],fin:=finD A [.bool]}
theorem t327_ok (A:Alg) (n:Node):run A (E327 A) 20 (startC 35 Tryz.f35 (dvals A [yNode] n))=(t327 A n).tr Empty.elim:=by kernel_rfl
def w327:Walk Tryz.prog 35 [yNode] [.bool] Empty:=⟨fun n=>t327 std n,Empty.elim⟩
theorem w327_ok:w327.Ok:=
 walk_ok (E:=E327 std) ⟨tys_fit,fns_cons Tryz.func35 (by kernel_rfl) (fns_nil),sps_nil,by kernel_rfl⟩ rfl rfl rfl (by kernel_rfl) w327 Empty.elim 20 (fun n=>t327_ok std n) (fun y=>y.elim)
def fn327:Node→Bool:=fun n=>(t327 std n).val (Ty.dflts [.bool])
def sp327:FSpec:=⟨[yNode], [.bool],(@tt Node),fn327⟩
theorem eqs327 (n:Node):(t327 std n).Eqs:=by simp only [t327,LT.Eqs,eqV,eqI,eqB,eqK,and_self,true_and,and_true]
theorem pre327_ok {n:Node} (h:Ty.hass [yNode] n):(t327 std n).pre=true:=by
 simp [t327,LT.pre,std_call,tt_eq]
theorem so327:FSpec.Sound Tryz.prog 35 sp327:=
 w327_ok.sound _ _ fun n _ h=>LT.runs (d:=Ty.dflts [.bool]) (eqs327 n) (pre327_ok h)
def t328 (A:Alg) (l:List Seen):LT (List Seen) Empty:=
 .need (A.and (A.cmp .leq 0 0) (A.and (A.cmp .leq 0 (A.mn (A.len l) 9)) (A.cmp .leq (A.mn (A.len l) 9) (A.len l)))) (
 .ret (A.sub l 0 (A.mn (A.len l) 9)))
noncomputable def E328 (A:Alg):Info (Ty.Ts [(.slice ySeen)]):={ti:=tys,fns:=[(36,Tryz.f36)],sps:=[],stops:=[],cuts:=[],consts:=[],fin:=finD A [(.slice ySeen)]}
theorem t328_ok (A:Alg) (l:List Seen):run A (E328 A) 19 (startC 36 Tryz.f36 (dvals A [(.slice ySeen)] l))=(t328 A l).tr Empty.elim:=by kernel_rfl
def w328:Walk Tryz.prog 36 [(.slice ySeen)] [(.slice ySeen)] Empty:=⟨fun l=>t328 std l,Empty.elim⟩
theorem w328_ok:w328.Ok:=
 walk_ok (E:=E328 std) ⟨tys_fit,fns_cons Tryz.func36 (by kernel_rfl) (fns_nil),sps_nil,by kernel_rfl⟩ rfl rfl rfl (by kernel_rfl) w328 Empty.elim 19 (fun l=>t328_ok std l) (fun y=>y.elim)
def fn328:(List Seen)→(List Seen):=fun l=>(t328 std l).val (Ty.dflts [(.slice ySeen)])
def sp328:FSpec:=⟨[(.slice ySeen)], [(.slice ySeen)],(@tt (List Seen)),fn328⟩
theorem eqs328 (l:List Seen):(t328 std l).Eqs:=by simp only [t328,LT.Eqs,eqV,eqI,eqB,eqK,and_self,true_and,and_true]
theorem pre328_ok {l:List Seen} (h:Ty.hass [(.slice ySeen)] l):(t328 std l).pre=true:=by
 simp only [t328,LT.pre]; exact (Bool.and_true _).trans (few_ok (l:=l))
theorem so328:FSpec.Sound Tryz.prog 36 sp328:=
 w328_ok.sound _ _ fun l _ h=>LT.runs (d:=Ty.dflts [(.slice ySeen)]) (eqs328 l) (pre328_ok h)
structure P326c0 where
 (a0 a1 a2 a3 a4 a5 a6 a7 a8 a9:Int) (a10:Node) (a11:List Bool) (a12:List Int) (a13 a14:List Bool)
inductive Y326 where
 | c0 (p:P326c0)
noncomputable def cfg326:Y326→Cfg
 | .c0 p=>{frames:=[{fn:=34,n:=71,env:=(Env.put (Env.put (Env.put (Env.put .leaf 1 (.ptr 0 0)) 2 (.int .i64 false p.a0)) 3 (.ptr 1 0)) 4 (.int .i64 false p.a1)),todo:=[.code (Code.way (bodyOf Tryz.f34) [1,1,1,0]),.code (Code.way (bodyOf Tryz.f34) [1,1,1,1])],marks:=[],rnd:=none}],mem:=[.flat false [.int .i64 false p.a2,.int .i64 false p.a3,.int .i64 false p.a4,.int .i64 false p.a5,.int .i64 false p.a6,.int .i64 false p.a7,.own 2,.osl 3 3 false p.a8 p.a9],.flat false [.int .i64 false p.a10.1,.int .i64 false p.a10.2.1,.int .i64 false p.a10.2.2.1.1,.int .i64 false p.a10.2.2.1.2.1,.int .i64 false p.a10.2.2.1.2.2.1,.int .i64 false p.a10.2.2.1.2.2.2.1,.int .i64 false p.a10.2.2.1.2.2.2.2,.int .i64 false p.a10.2.2.2.1.1,.int .i64 false p.a10.2.2.2.1.2.1,.int .i64 false p.a10.2.2.2.1.2.2.1,.int .i64 false p.a10.2.2.2.1.2.2.2.1,.int .i64 false p.a10.2.2.2.1.2.2.2.2.1,.int .i64 false p.a10.2.2.2.1.2.2.2.2.2.1,.int .i64 false p.a10.2.2.2.1.2.2.2.2.2.2,.int .i64 false p.a10.2.2.2.2.1,.bool false p.a10.2.2.2.2.2.1,.int .i64 false p.a10.2.2.2.2.2.2.1,.int .i64 false p.a10.2.2.2.2.2.2.2.1,.sl (.int .u8) p.a10.2.2.2.2.2.2.2.2.1,.sl yMsg p.a10.2.2.2.2.2.2.2.2.2.1,.int .i64 false p.a10.2.2.2.2.2.2.2.2.2.2.1,.int .i64 false p.a10.2.2.2.2.2.2.2.2.2.2.2],.arr true .bool p.a11,.flat true [.sl (.int .i64) p.a12,.sl .bool p.a13,.sl .bool p.a14],.dead]}
def t326 (A:Alg):LT Bool Y326:=
 .need (A.cmp .leq (A.len ([true]:List Bool)) 70368744177664) (
 .need (A.cmp .leq (A.len ([2]:List Int)) 15637498706147) (
 .need (A.cmp .leq (A.len ([true]:List Bool)) 70368744177664) (
  .need (A.cmp .leq (A.len (A.app [true] [true])) 70368744177664) (
  .need (A.cmp .leq (A.len (A.app ([2]:List Int) ([2]:List Int))) 15637498706147) (
   .need (A.cmp .leq (A.len (A.app [true] [true])) 70368744177664) (
   .need (A.cmp .leq (A.len (A.app (A.app [true] [true]) [true])) 70368744177664) (
    .need (A.cmp .leq (A.len (A.app (A.app ([2]:List Int) ([2]:List Int)) ([2]:List Int))) 15637498706147) (
    .need (A.cmp .leq (A.len (A.app (A.app [true] [true]) [true])) 70368744177664) (
     .need (A.cmp .leq (A.len (A.app (A.app (A.app [true] [true]) [true]) [true])) 70368744177664) (
     .need (A.cmp .leq (A.len (A.app (A.app (A.app ([2]:List Int) ([2]:List Int)) ([2]:List Int)) ([2]:List Int))) 15637498706147) (
      .need (A.cmp .leq (A.len (A.app (A.app (A.app [true] [true]) [true]) [true])) 70368744177664) (
      .need (A.call (@tt Medl) (4,0,38,16,0,1,(A.app (A.app (A.app [true] [true]) [true]) [true]), [((A.app (A.app (A.app ([2]:List Int) ([2]:List Int)) ([2]:List Int)) ([2]:List Int)),(A.app (A.app (A.app [true] [true]) [true]) [true]), [true])])) (
       .eqs (eqI 76) (
       .eqs (eqI 38) (
        .eqs (eqV (.ptr 1 2)) (
        .need (A.call (@tt (Medl×Int)) ((4,(A.bin .add .i64 76 (A.call fn149 (4,0,38,16,0,1,(A.app (A.app (A.app [true] [true]) [true]) [true]), [((A.app (A.app (A.app ([2]:List Int) ([2]:List Int)) ([2]:List Int)) ([2]:List Int)),(A.app (A.app (A.app [true] [true]) [true]) [true]), [true])]))),38,16,0,1,(A.app (A.app (A.app [true] [true]) [true]) [true]), [((A.app (A.app (A.app ([2]:List Int) ([2]:List Int)) ([2]:List Int)) ([2]:List Int)),(A.app (A.app (A.app [true] [true]) [true]) [true]), [true])]),1)) (
         .more (.c0 ⟨0,(A.call fn344 ((4,(A.bin .add .i64 76 (A.call fn149 (4,0,38,16,0,1,(A.app (A.app (A.app [true] [true]) [true]) [true]), [((A.app (A.app (A.app ([2]:List Int) ([2]:List Int)) ([2]:List Int)) ([2]:List Int)),(A.app (A.app (A.app [true] [true]) [true]) [true]), [true])]))),38,16,0,1,(A.app (A.app (A.app [true] [true]) [true]) [true]), [((A.app (A.app (A.app ([2]:List Int) ([2]:List Int)) ([2]:List Int)) ([2]:List Int)),(A.app (A.app (A.app [true] [true]) [true]) [true]), [true])]),1)).2,4,(A.bin .add .i64 76 (A.call fn149 (4,0,38,16,0,1,(A.app (A.app (A.app [true] [true]) [true]) [true]), [((A.app (A.app (A.app ([2]:List Int) ([2]:List Int)) ([2]:List Int)) ([2]:List Int)),(A.app (A.app (A.app [true] [true]) [true]) [true]), [true])]))),38,16,0,1,0,1,(A.call fn344 ((4,(A.bin .add .i64 76 (A.call fn149 (4,0,38,16,0,1,(A.app (A.app (A.app [true] [true]) [true]) [true]), [((A.app (A.app (A.app ([2]:List Int) ([2]:List Int)) ([2]:List Int)) ([2]:List Int)),(A.app (A.app (A.app [true] [true]) [true]) [true]), [true])]))),38,16,0,1,(A.app (A.app (A.app [true] [true]) [true]) [true]), [((A.app (A.app (A.app ([2]:List Int) ([2]:List Int)) ([2]:List Int)) ([2]:List Int)),(A.app (A.app (A.app [true] [true]) [true]) [true]), [true])]),1)).1,(A.app (A.app (A.app [true] [true]) [true]) [true]),(A.app (A.app (A.app ([2]:List Int) ([2]:List Int)) ([2]:List Int)) ([2]:List Int)),(A.app (A.app (A.app [true] [true]) [true]) [true]), [true]⟩))))))))))))))))))
def s326 (A:Alg):Y326→LT Bool Y326
 | .c0 p=>
  .need (A.call (@tt (Medl×Node×Bool)) ((p.a2,p.a3,p.a4,p.a5,p.a6,p.a7,p.a11,(A.sub [(p.a12,p.a13,p.a14)] p.a8 (A.bin .add .i64 p.a8 p.a9))),p.a10,true)) (
  .need (A.call (@tt Int) 2) (
   .need (A.call (@tt (Medl×Node×List Seen)) ((p.a2,p.a3,p.a4,p.a5,p.a6,p.a7,p.a11,(A.sub [(p.a12,p.a13,p.a14)] p.a8 (A.bin .add .i64 p.a8 p.a9))),(A.call fn348 ((p.a2,p.a3,p.a4,p.a5,p.a6,p.a7,p.a11,(A.sub [(p.a12,p.a13,p.a14)] p.a8 (A.bin .add .i64 p.a8 p.a9))),p.a10,true)).1,(A.call fn380 2))) (
   .eqs (eqI (A.call fn329 ((p.a2,p.a3,p.a4,p.a5,p.a6,p.a7,p.a11,(A.sub [(p.a12,p.a13,p.a14)] p.a8 (A.bin .add .i64 p.a8 p.a9))),(A.call fn348 ((p.a2,p.a3,p.a4,p.a5,p.a6,p.a7,p.a11,(A.sub [(p.a12,p.a13,p.a14)] p.a8 (A.bin .add .i64 p.a8 p.a9))),p.a10,true)).1,(A.call fn380 2))).2.2.2) (
    .eqs (eqB (A.call fn329 ((p.a2,p.a3,p.a4,p.a5,p.a6,p.a7,p.a11,(A.sub [(p.a12,p.a13,p.a14)] p.a8 (A.bin .add .i64 p.a8 p.a9))),(A.call fn348 ((p.a2,p.a3,p.a4,p.a5,p.a6,p.a7,p.a11,(A.sub [(p.a12,p.a13,p.a14)] p.a8 (A.bin .add .i64 p.a8 p.a9))),p.a10,true)).1,(A.call fn380 2))).2.2.1) (
    .eqs (eqI (A.call fn329 ((p.a2,p.a3,p.a4,p.a5,p.a6,p.a7,p.a11,(A.sub [(p.a12,p.a13,p.a14)] p.a8 (A.bin .add .i64 p.a8 p.a9))),(A.call fn348 ((p.a2,p.a3,p.a4,p.a5,p.a6,p.a7,p.a11,(A.sub [(p.a12,p.a13,p.a14)] p.a8 (A.bin .add .i64 p.a8 p.a9))),p.a10,true)).1,(A.call fn380 2))).2.1) (
     .br (A.cmp .eql p.a0 0)
     (.br (A.cmp .eql p.a1 0)
      (.br (A.cmp .eql (A.call fn348 ((p.a2,p.a3,p.a4,p.a5,p.a6,p.a7,p.a11,(A.sub [(p.a12,p.a13,p.a14)] p.a8 (A.bin .add .i64 p.a8 p.a9))),p.a10,true)).2 0)
      (.br (A.cmp .eql (A.call fn329 ((p.a2,p.a3,p.a4,p.a5,p.a6,p.a7,p.a11,(A.sub [(p.a12,p.a13,p.a14)] p.a8 (A.bin .add .i64 p.a8 p.a9))),(A.call fn348 ((p.a2,p.a3,p.a4,p.a5,p.a6,p.a7,p.a11,(A.sub [(p.a12,p.a13,p.a14)] p.a8 (A.bin .add .i64 p.a8 p.a9))),p.a10,true)).1,(A.call fn380 2))).2.2.2 0)
       (.br (A.cmp .eql (A.call fn329 ((p.a2,p.a3,p.a4,p.a5,p.a6,p.a7,p.a11,(A.sub [(p.a12,p.a13,p.a14)] p.a8 (A.bin .add .i64 p.a8 p.a9))),(A.call fn348 ((p.a2,p.a3,p.a4,p.a5,p.a6,p.a7,p.a11,(A.sub [(p.a12,p.a13,p.a14)] p.a8 (A.bin .add .i64 p.a8 p.a9))),p.a10,true)).1,(A.call fn380 2))).2.1 9)
       (.br (A.call fn329 ((p.a2,p.a3,p.a4,p.a5,p.a6,p.a7,p.a11,(A.sub [(p.a12,p.a13,p.a14)] p.a8 (A.bin .add .i64 p.a8 p.a9))),(A.call fn348 ((p.a2,p.a3,p.a4,p.a5,p.a6,p.a7,p.a11,(A.sub [(p.a12,p.a13,p.a14)] p.a8 (A.bin .add .i64 p.a8 p.a9))),p.a10,true)).1,(A.call fn380 2))).2.2.1
        (.br (A.cmp .eql (A.call fn329 ((p.a2,p.a3,p.a4,p.a5,p.a6,p.a7,p.a11,(A.sub [(p.a12,p.a13,p.a14)] p.a8 (A.bin .add .i64 p.a8 p.a9))),(A.call fn348 ((p.a2,p.a3,p.a4,p.a5,p.a6,p.a7,p.a11,(A.sub [(p.a12,p.a13,p.a14)] p.a8 (A.bin .add .i64 p.a8 p.a9))),p.a10,true)).1,(A.call fn380 2))).1.2.1 3)
        (.br (A.cmp .eql (A.call fn329 ((p.a2,p.a3,p.a4,p.a5,p.a6,p.a7,p.a11,(A.sub [(p.a12,p.a13,p.a14)] p.a8 (A.bin .add .i64 p.a8 p.a9))),(A.call fn348 ((p.a2,p.a3,p.a4,p.a5,p.a6,p.a7,p.a11,(A.sub [(p.a12,p.a13,p.a14)] p.a8 (A.bin .add .i64 p.a8 p.a9))),p.a10,true)).1,(A.call fn380 2))).1.2.2.1.2.1 2)
         (.ret (A.cmp .eql (A.call fn329 ((p.a2,p.a3,p.a4,p.a5,p.a6,p.a7,p.a11,(A.sub [(p.a12,p.a13,p.a14)] p.a8 (A.bin .add .i64 p.a8 p.a9))),(A.call fn348 ((p.a2,p.a3,p.a4,p.a5,p.a6,p.a7,p.a11,(A.sub [(p.a12,p.a13,p.a14)] p.a8 (A.bin .add .i64 p.a8 p.a9))),p.a10,true)).1,(A.call fn380 2))).1.2.2.1.2.2.2.2 4))
         (.ret false))
        (.ret false))
        (.ret false))
       (.ret false))
       (.ret false))
      (.ret false))
      (.ret false))
     (.ret false)))))))
noncomputable def E326 (A:Alg):Info (Ty.Ts [.bool]):={ti:=tys,fns:=[(34,Tryz.f34),(78,Tryz.f78)],sps:=[(169,sp149),(37,sp329),(52,sp344),(56,sp348),(100,sp380)],stops:=[],cuts:=[⟨34,3, [[1,2,3,4]]⟩],consts:=[],fin:=finD A [.bool]}
theorem t326_ok (A:Alg):run A (E326 A) 313 (startC 34 Tryz.f34 (dvals A [] ()))=(t326 A).tr cfg326:=by kernel_rfl
theorem s326_ok (A:Alg):∀y,∃n,run A (E326 A) n (advance (E326 A).sps (cfg326 y))=(s326 A y).tr cfg326
 | .c0 p=>⟨73,by kernel_rfl⟩
def w326:Walk Tryz.prog 34 [] [.bool] Y326:=⟨fun _=>t326 std,s326 std⟩
theorem w326_ok:w326.Ok:=
 walk_ok (E:=E326 std) ⟨tys_fit,fns_cons Tryz.func34 (by kernel_rfl) (fns_cons Tryz.func78 (by kernel_rfl) (fns_nil)),sps_cons so149 (sps_cons so329 (sps_cons so344 (sps_cons so348 (sps_cons so380 (sps_nil))))),by kernel_rfl⟩ rfl rfl rfl (by kernel_rfl) w326 cfg326 313 (fun _=>t326_ok std) (s326_ok std)
theorem begun19_1:Runs (s326 std) (t326 std) true:=by
 unfold t326
 repeat' (first | refine runs_eqI.2 ?_ | refine runs_eqV.2 ?_ | refine runs_eqB.2 ?_ | refine runs_need.2 ⟨by kernel_rfl,?_⟩)
 rw [runs_more,s326]
 repeat' (first | refine runs_eqI.2 ?_ | refine runs_eqV.2 ?_ | refine runs_eqB.2 ?_ | refine runs_need.2 ⟨by kernel_rfl,?_⟩)
 refine (runs_brT (by kernel_rfl)).2 ((runs_brT (by kernel_rfl)).2 ((runs_brT (by kernel_rfl)).2 ((runs_brT (by kernel_rfl)).2 ((runs_brT (by kernel_rfl)).2 ((runs_brT (by kernel_rfl)).2 ((runs_brT (by kernel_rfl)).2 ((runs_brT (by kernel_rfl)).2 (runs_r (by kernel_rfl) (.ret _)))))))))
def fn326:Unit→Bool:=fun _=>true
def sp326:FSpec:=⟨[], [.bool],(@tt Unit),fn326⟩
theorem run326 (h:Ty.hass [] ()):Runs (s326 std) (t326 std) (fn326 ()):=by
 exact begun19_1
theorem so326:FSpec.Sound Tryz.prog 34 sp326:=
 w326_ok.sound _ _ fun _ _ h=>run326 h
end Go.Ev.M
