/-
  PROVED: what Join and Seal compute, in the program and in the document. Conditions: none.
-/
import Derived.Test.YtafbddhnoacldaaFb
namespace Go.Ev.M
open Go.Proofs
set_option maxRecDepth 100000
set_option linter.unusedVariables false
set_option linter.unusedSimpArgs false
open Go.Ev.Pl
structure P86c0 where
 a0:List (Int×List Int)
 a2:Int
structure P86c1 where
 b0:List (Int×List Int)
 b2:Int
structure P86c2 where
 c0:List (Int×List Int)
 c2:Int
inductive Y86 where
 | c0 (p:P86c0) (a1:Int)
 | c1 (p:P86c1) (b1:Int)
 | c2 (p:P86c2) (c1:Int) (c3:List Bool)
noncomputable def cfg86:Y86→Cfg
 | .c0 p a1=>{frames:=[{fn:=86,n:=42,env:=(Env.put (Env.put (Env.put (Env.put .leaf 0 (.sl (.struct [(.int .i64),(.slice (.int .u8))]) p.a0)) 2 (.ptr 0 0)) 4 (.esl true)) 5 (.int .i64 false a1)),todo:=[.inLoop (Code.way (bodyOf Try.f86) [1,1,0,1,0,0]),.inBlock 0,.code (Code.way (bodyOf Try.f86) [1,1,1])],marks:=[],rnd:=none}],mem:=[.flat false [.int .i64 false p.a2,.esl true],.dead]}
 | .c1 p b1=>{frames:=[{fn:=86,n:=42,env:=(Env.put (Env.put (Env.put (Env.put .leaf 0 (.sl (.struct [(.int .i64),(.slice (.int .u8))]) p.b0)) 2 (.ptr 0 0)) 4 (.esl true)) 6 (.int .i64 false b1)),todo:=[.inLoop (Code.way (bodyOf Try.f86) [1,1,1,0,1,0,0]),.inBlock 2,.code (Code.way (bodyOf Try.f86) [1,1,1,1])],marks:=[],rnd:=none}],mem:=[.flat false [.int .i64 false p.b2,.esl true],.dead]}
 | .c2 p c1 c3=>{frames:=[{fn:=86,n:=42,env:=(Env.put (Env.put (Env.put (Env.put .leaf 0 (.sl (.struct [(.int .i64),(.slice (.int .u8))]) p.c0)) 2 (.ptr 0 0)) 4 (.own 1)) 6 (.int .i64 false c1)),todo:=[.inLoop (Code.way (bodyOf Try.f86) [1,1,1,0,1,0,0]),.inBlock 2,.code (Code.way (bodyOf Try.f86) [1,1,1,1])],marks:=[],rnd:=none}],mem:=[.flat false [.int .i64 false p.c2,.esl true],.arr false .bool c3,.dead]}
def t86 (A:Alg) (l:List (Int×List Int)):LT ((Int×List Int)×Int) Y86:=
 .more (.c0 ⟨l,0⟩ 0)
def s86 (A:Alg):Y86→LT ((Int×List Int)×Int) Y86
 | .c0 p a1=>
  .br (A.cmp .lss a1 (A.len p.a0))
  (.need (A.and (A.cmp .leq 0 a1) (A.cmp .lss a1 (A.len p.a0))) (
   .need (A.call (@tt ((Int×List Int))) (A.nth (.struct [(.int .i64),(.slice (.int .u8))]) p.a0 a1:Int×List Int)) (
   .br (A.cmp .neq (A.call fn97 (A.nth (.struct [(.int .i64),(.slice (.int .u8))]) p.a0 a1:Int×List Int)) 0)
    (.ret ((0,([]:List Int)),10))
    (.more (.c0 p (A.bin .add .i64 a1 1))))))
  (.more (.c1 ⟨p.a0,p.a2⟩ 0))
 | .c1 p b1=>
  .br (A.cmp .lss b1 (A.len p.b0))
  (.need (A.and (A.cmp .leq 0 b1) (A.cmp .lss b1 (A.len p.b0))) (
   .need (A.call (@tt ((Int×List Int))) (A.nth (.struct [(.int .i64),(.slice (.int .u8))]) p.b0 b1:Int×List Int)) (
   .br (A.cmp .eql (A.len (A.call fn127 (A.nth (.struct [(.int .i64),(.slice (.int .u8))]) p.b0 b1:Int×List Int))) 0)
    (.more (.c1 p (A.bin .add .i64 b1 1)))
    (.need (A.cmp .leq (A.len (A.call fn127 (A.nth (.struct [(.int .i64),(.slice (.int .u8))]) p.b0 b1:Int×List Int))) 70368744177664) (
    .more (.c2 ⟨p.b0,p.b2⟩ (A.bin .add .i64 b1 1) (A.call fn127 (A.nth (.struct [(.int .i64),(.slice (.int .u8))]) p.b0 b1:Int×List Int))))))))
  (.need (A.call (@tt (List Bool)) ([]:List Bool)) (
   .ret (A.call fn128 ([]:List Bool))))
 | .c2 p c1 c3=>
  .br (A.cmp .lss c1 (A.len p.c0))
  (.br (A.cmp .leq (A.len c3) 4096)
   (.need (A.and (A.cmp .leq 0 c1) (A.cmp .lss c1 (A.len p.c0))) (
   .need (A.call (@tt ((Int×List Int))) (A.nth (.struct [(.int .i64),(.slice (.int .u8))]) p.c0 c1:Int×List Int)) (
    .need (A.cmp .leq (A.len (A.app c3 (A.call fn127 (A.nth (.struct [(.int .i64),(.slice (.int .u8))]) p.c0 c1:Int×List Int)))) 70368744177664) (
    .more (.c2 p (A.bin .add .i64 c1 1) (A.app c3 (A.call fn127 (A.nth (.struct [(.int .i64),(.slice (.int .u8))]) p.c0 c1:Int×List Int))))))))
   (.need (A.call (@tt (List Bool)) c3) (
   .ret (A.call fn128 c3))))
  (.need (A.call (@tt (List Bool)) c3) (
   .ret (A.call fn128 c3)))
noncomputable def E86 (A:Alg):Info (Ty.Ts [(.struct [(.int .i64),(.slice (.int .u8))]),(.int .i64)]):={ti:=tys,fns:=[(86,Try.f86)],sps:=[(97,sp97),(127,sp127),(128,sp128)],stops:=[⟨86,3, [[0,2,4,5]]⟩,⟨86,8, [[0,2,4,6]]⟩],cuts:=[],consts:=[],fin:=finD A [(.struct [(.int .i64),(.slice (.int .u8))]),(.int .i64)]}
theorem t86_ok (A:Alg) (l:List (Int×List Int)):run A (E86 A) 22 (startC 86 Try.f86 (dvals A [(.slice (.struct [(.int .i64),(.slice (.int .u8))]))] l))=(t86 A l).tr cfg86:=by kernel_rfl
theorem s86_ok (A:Alg):∀y,∃n,run A (E86 A) n (advance (E86 A).sps (cfg86 y))=(s86 A y).tr cfg86
 | .c0 p a1=>⟨35,by kernel_rfl⟩
 | .c1 p b1=>⟨39,by kernel_rfl⟩
 | .c2 p c1 c3=>⟨39,by kernel_rfl⟩
def w86:Walk Try.prog 86 [(.slice (.struct [(.int .i64),(.slice (.int .u8))]))] [(.struct [(.int .i64),(.slice (.int .u8))]),(.int .i64)] Y86:=⟨fun l=>t86 std l,s86 std⟩
theorem w86_ok:w86.Ok:=
 walk_ok (E:=E86 std) ⟨tys_fit,fns_cons Try.func86 (by kernel_rfl) (fns_nil),sps_cons so97 (sps_cons so127 (sps_cons so128 (sps_nil))),by kernel_rfl⟩ rfl rfl rfl (by kernel_rfl) w86 cfg86 22 (fun l=>t86_ok std l) (s86_ok std)
theorem join_d2 {l:List (Int×List Int)} (hl:l.length≤140737488355328) (hok:∀x∈l,bsOk x=true):∀(j i:Nat) (p:P86c2) (c:List Bool),p.c0=l→l.length - i=j→i≤l.length→c.length≤8192→Runs (s86 std) (.more (.c2 p (i:Int) c)) (ofS (c ++ (l.drop i).flatMap bsL)):=by
 intro j
 induction j with
 | zero=>
  intro i p c h1 hj hi hc
  have:i=l.length:=by omega
  subst this
  simp only [runs_more,s86]
  refine (runs_brF (by rw [show std.len p.c0=(l.length:Int) from by rw [h1]; rfl,lss_nat]; simp)).2 (runs_need.2 ⟨rfl,?_⟩)
  rw [List.drop_length,List.flatMap_nil,List.append_nil]
  exact .ret _
 | succ j ih=>
  intro i p c h1 hj hi hc
  simp only [runs_more,s86]
  refine (runs_brT (by rw [show std.len p.c0=(l.length:Int) from by rw [h1]; rfl,lss_nat]; simp; omega)).2 ?_
  by_cases h2:c.length≤4096
  ·have hi':i < l.length:=by omega
   have hx:=bsL_le (hok _ (List.getElem_mem hi'))
   have hn:(std.call fn127 (std.nth (.struct [(.int .i64),(.slice (.int .u8))]) p.c0 (i:Int):Int×List Int))=bsL l[i]:=by
    rw [h1,nth_bits hi',std_call,fn127,hok _ (List.getElem_mem hi')]; rfl
   refine (runs_brT (show std.cmp .leq ((c.length:Nat):Int) 4096=true from by rw [std_cmp_leq]; simp; omega)).2 (runs_need.2 ⟨by rw [h1]; exact need_ix hi',runs_need.2 ⟨rfl,runs_need.2 ⟨?_,?_⟩⟩⟩)
   ·rw [hn]
    show decide (((c ++ bsL l[i]).length:Int)≤70368744177664)=true
    rw [List.length_append]; simp; omega
   ·have:=ih (i + 1) p (c ++ bsL l[i]) h1 (by omega) (by omega) (by rw [List.length_append]; omega)
    rw [List.append_assoc,show bsL l[i] ++ (l.drop (i + 1)).flatMap bsL=(l.drop i).flatMap bsL from by rw [List.drop_eq_getElem_cons hi',List.flatMap_cons]] at this
    rw [hn]
    exact runs_c (congrArg LT.more (congr (congrArg (Y86.c2 p) (inc1 (by omega))) rfl)) this
  ·refine (runs_brF (show std.cmp .leq ((c.length:Nat):Int) 4096=false from by rw [std_cmp_leq]; simp; omega)).2 (runs_need.2 ⟨rfl,?_⟩)
   rw [ofS_long (l:=c ++ _) (by rw [List.length_append]; omega)]
   have:std.call fn128 c=(zB,3):=by rw [std_call,fn128,ofS_long (by omega)]
   rw [this]
   exact .ret _
theorem join_d1 {l:List (Int×List Int)} (hl:l.length≤140737488355328) (hok:∀x∈l,bsOk x=true):∀(j i:Nat) (p:P86c1),p.b0=l→l.length - i=j→i≤l.length→Runs (s86 std) (.more (.c1 p (i:Int))) (ofS ((l.drop i).flatMap bsL)):=by
 intro j
 induction j with
 | zero=>
  intro i p h1 hj hi
  have:i=l.length:=by omega
  subst this
  simp only [runs_more,s86]
  refine (runs_brF (by rw [show std.len p.b0=(l.length:Int) from by rw [h1]; rfl,lss_nat]; simp)).2 (runs_need.2 ⟨rfl,?_⟩)
  rw [List.drop_length,List.flatMap_nil]
  exact .ret _
 | succ j ih=>
  intro i p h1 hj hi
  simp only [runs_more,s86]
  have hi':i < l.length:=by omega
  have hx:=bsL_le (hok _ (List.getElem_mem hi'))
  have hn:(std.call fn127 (std.nth (.struct [(.int .i64),(.slice (.int .u8))]) p.b0 (i:Int):Int×List Int))=bsL l[i]:=by
   rw [h1,nth_bits hi',std_call,fn127,hok _ (List.getElem_mem hi')]; rfl
  have hf:(l.drop i).flatMap bsL=bsL l[i] ++ (l.drop (i + 1)).flatMap bsL:=by rw [List.drop_eq_getElem_cons hi',List.flatMap_cons]
  refine (runs_brT (by rw [show std.len p.b0=(l.length:Int) from by rw [h1]; rfl,lss_nat]; simp; omega)).2 (runs_need.2 ⟨by rw [h1]; exact need_ix hi',runs_need.2 ⟨rfl,?_⟩⟩)
  rw [hn,hf]
  by_cases h0:(bsL l[i]).length=0
  ·refine (runs_brT (ceq_t (show ((bsL l[i]).length:Int)=0 from by omega))).2 ?_
   rw [List.length_eq_zero_iff.1 h0,List.nil_append]
   exact runs_c (congrArg LT.more (congrArg (Y86.c1 p) (inc1 (by omega)))) (ih (i + 1) p h1 (by omega) (by omega))
  ·refine (runs_brF (ceq_f (show ((bsL l[i]).length:Int)≠0 from by omega))).2 (runs_need.2 ⟨?_,?_⟩)
   ·show decide (((bsL l[i]).length:Int)≤70368744177664)=true
    simp; omega
   ·exact runs_c (congrArg LT.more (congr (congrArg (Y86.c2 _) (inc1 (by omega))) rfl)) (join_d2 hl hok (l.length - (i + 1)) (i + 1) ⟨p.b0,p.b2⟩ _ h1 rfl (by omega) (by omega))
theorem join_d0 {l:List (Int×List Int)} (hl:l.length≤140737488355328):∀(j i:Nat) (p:P86c0),p.a0=l→l.length - i=j→i≤l.length→(∀x∈l.take i,bsOk x=true)→Runs (s86 std) (.more (.c0 p (i:Int))) (joinS l):=by
 intro j
 induction j with
 | zero=>
  intro i p h1 hj hi hok
  have:i=l.length:=by omega
  subst this
  rw [List.take_length] at hok
  simp only [runs_more,s86]
  refine (runs_brF (by rw [show std.len p.a0=(l.length:Int) from by rw [h1]; rfl,lss_nat]; simp)).2 ?_
  rw [joinS,List.all_eq_true.2 hok]
  exact join_d1 hl hok l.length 0 _ h1 rfl (by omega)
 | succ j ih=>
  intro i p h1 hj hi hok
  simp only [runs_more,s86]
  have hi':i < l.length:=by omega
  refine (runs_brT (by rw [show std.len p.a0=(l.length:Int) from by rw [h1]; rfl,lss_nat]; simp; omega)).2 (runs_need.2 ⟨by rw [h1]; exact need_ix hi',runs_need.2 ⟨rfl,?_⟩⟩)
  have hn:(std.call fn97 (std.nth (.struct [(.int .i64),(.slice (.int .u8))]) p.a0 (i:Int):Int×List Int))=bif bsOk l[i] then 0 else 10:=by
   rw [h1,nth_bits hi',std_call,fn97]
  rw [hn]
  cases hx:bsOk l[i]
  ·refine (runs_brT rfl).2 ?_
   rw [joinS,show l.all bsOk=false from List.all_eq_false.2 ⟨l[i],List.getElem_mem hi',by rw [hx]; decide⟩]
   exact .ret _
  ·refine (runs_brF rfl).2 ?_
   refine runs_c (congrArg LT.more (congrArg (Y86.c0 p) (inc1 (by omega)))) (ih (i + 1) p h1 (by omega) (by omega) ?_)
   intro x hx2
   rw [List.take_succ_eq_append_getElem hi'] at hx2
   rcases List.mem_append.1 hx2 with h3 | h3
   ·exact hok x h3
   ·rw [List.mem_singleton.1 h3]; exact hx
def fn86:(List (Int×List Int))→((Int×List Int)×Int):=joinS
def sp86:FSpec:=⟨[(.slice (.struct [(.int .i64),(.slice (.int .u8))]))], [(.struct [(.int .i64),(.slice (.int .u8))]),(.int .i64)],(@tt (List (Int×List Int))),fn86⟩
theorem run86 {l:List (Int×List Int)} (h:Ty.hass [(.slice (.struct [(.int .i64),(.slice (.int .u8))]))] l):Runs (s86 std) (t86 std l) (fn86 l):=by
 exact join_d0 (has_list h).1 l.length 0 _ rfl rfl (by omega) (by intro x hx; cases hx)
theorem so86:FSpec.Sound Try.prog 86 sp86:=
 w86_ok.sound _ _ fun l _ h=>run86 h
structure P134c0 where
 a0:List (Int×List Int)
 a2:List (Int×List Int)
 a3:Int
 a5:Int
structure P134c1 where
 b1:List (Int×List Int)
 b2:Int
 b4:Int
 b5:Int
structure P134c2 where
 c0:Int
 c1:Int
 c2:Int
 c4:Int
 c5:List (Int×List Int)
 c6:Int
 c7:Int
 c8:Int
 c9:Int
 c10:List Int
 c11:Int
 c12:Int
 c13:Int
 c14:List Int
inductive Y134 where
 | c0 (p:P134c0) (a1:Int) (a4:Int)
 | c1 (p:P134c1) (b0:Int) (b3:Int) (b6:List Int)
 | c2 (p:P134c2) (c3:Int) (c15:List Int)
noncomputable def cfg134:Y134→Cfg
 | .c0 p a1 a4=>{frames:=[{fn:=134,n:=53,env:=(Env.put (Env.put (Env.put (Env.put (Env.put (Env.put .leaf 0 (.sl (.struct [(.int .i64),(.slice (.int .u8))]) p.a0)) 2 (.ptr 0 0)) 4 (.int .i64 false a1)) 12 (.sl (.struct [(.int .i64),(.slice (.int .u8))]) p.a2)) 13 (.int .i64 false p.a3)) 14 (.int .i64 false a4)),todo:=[.inLoop (Code.way (bodyOf Try.f134) [1,1,0,1,0,0]),.inBlock 0,.code (Code.way (bodyOf Try.f134) [1,1,1])],marks:=[],rnd:=none}],mem:=[.flat false [.int .i64 false p.a5,.esl true],.dead]}
 | .c1 p b0 b3 b6=>{frames:=[{fn:=134,n:=53,env:=(Env.put (Env.put (Env.put (Env.put (Env.put (Env.put .leaf 2 (.ptr 0 0)) 8 (.ptr 1 0)) 9 (.int .i64 false b0)) 35 (.sl (.struct [(.int .i64),(.slice (.int .u8))]) p.b1)) 36 (.int .i64 false p.b2)) 37 (.int .i64 false b3)),todo:=[.inLoop (Code.way (bodyOf Try.f134) [1,1,1,1,1,1,0,1,0,0]),.inBlock 2,.code (Code.way (bodyOf Try.f134) [1,1,1,1,1,1,1])],marks:=[],rnd:=none}],mem:=[.flat false [.int .i64 false p.b4,.esl true],.flat false [.int .i64 false p.b5,.own 2],.arr false (.int .u8) b6,.dead]}
 | .c2 p c3 c15=>{frames:=[{fn:=165,n:=52,env:=(Env.put (Env.put (Env.put (Env.put (Env.put (Env.put .leaf 1 (.int .i64 false p.c0)) 3 (.int .i64 false p.c1)) 4 (.int .i64 false p.c2)) 5 (.ptr 0 0)) 7 (.ptr 1 0)) 10 (.int .i64 false c3)),todo:=[.inLoop (Code.way (bodyOf Try.f165) [1,1,1,0,0]),.inBlock 0],marks:=[],rnd:=none},{fn:=134,n:=53,env:=(Env.put (Env.put (Env.put (Env.put (Env.put (Env.put (Env.put .leaf 2 (.ptr 2 0)) 8 (.ptr 3 0)) 9 (.int .i64 false p.c4)) 11 (.ptr 4 0)) 35 (.sl (.struct [(.int .i64),(.slice (.int .u8))]) p.c5)) 36 (.int .i64 false p.c6)) 37 (.int .i64 false p.c7)),todo:=[.ops (opsOf (Code.way (bodyOf Try.f134) [1,1,1,1,1,1,0,1,0,0,1,1,0,0,1,0])) ((opsOf (Code.way (bodyOf Try.f134) [1,1,1,1,1,1,0,1,0,0,1,1,0,0,1,0])).toList.drop 5),.code (Code.way (bodyOf Try.f134) [1,1,1,1,1,1,0,1,0,0,1,1,0,0,1,1]),.inBlock 3,.code (Code.way (bodyOf Try.f134) [1,1,1,1,1,1,0,1,0,0,1,1,1]),.inLoop (Code.way (bodyOf Try.f134) [1,1,1,1,1,1,0,1,0,0]),.inBlock 2,.code (Code.way (bodyOf Try.f134) [1,1,1,1,1,1,1])],marks:=[],rnd:=none}],mem:=[.flat false [.int .i64 false p.c8,.own 5],.flat false [.int .i64 false p.c9,.sl (.int .u8) p.c10],.flat false [.int .i64 false p.c11,.esl true],.flat false [.int .i64 false p.c12,.own 5],.flat false [.int .i64 false p.c13,.sl (.int .u8) p.c14],.arr false (.int .u8) c15,.dead]}
def t134 (A:Alg) (l:List (Int×List Int)):LT ((Int×List Int)×Int) Y134:=
 .more (.c0 ⟨l,l,(A.len l),0⟩ 0 0)
def s134 (A:Alg):Y134→LT ((Int×List Int)×Int) Y134
 | .c0 p a1 a4=>
  .br (A.cmp .lss a4 p.a3)
  (.need (A.and (A.cmp .leq 0 a4) (A.cmp .lss a4 (A.len p.a2))) (
   .need (A.call (@tt ((Int×List Int))) (A.nth (.struct [(.int .i64),(.slice (.int .u8))]) p.a2 a4:Int×List Int)) (
   .br (A.cmp .neq (A.call fn99 (A.nth (.struct [(.int .i64),(.slice (.int .u8))]) p.a2 a4:Int×List Int)) 0)
    (.ret ((0,([]:List Int)),(A.call fn99 (A.nth (.struct [(.int .i64),(.slice (.int .u8))]) p.a2 a4:Int×List Int))))
    (.more (.c0 p (A.mn (A.bin .add .i64 a1 (A.nth (.struct [(.int .i64),(.slice (.int .u8))]) p.a2 a4:Int×List Int).1) 4097) (A.bin .add .i64 a4 1))))))
  (.br (A.cmp .gtr a1 4096)
   (.ret ((0,([]:List Int)),3))
   (.need (A.call (@tt Int) a1) (
   .need (A.and (A.cmp .eql (A.call fn137 a1) (A.call fn137 a1)) (A.and (A.cmp .leq 0 (A.call fn137 a1)) (A.cmp .leq (A.call fn137 a1) 70368744177664))) (
    .more (.c1 ⟨p.a0,(A.len p.a0),p.a5,a1⟩ 0 0 (A.rep (A.call fn137 a1) (0:Int)))))))
 | .c1 p b0 b3 b6=>
  .br (A.cmp .lss b3 p.b2)
  (.need (A.and (A.cmp .leq 0 b3) (A.cmp .lss b3 (A.len p.b1))) (
   .br (A.cmp .eql (A.bin .rem .i64 b0 8) 0)
   (.br (A.cmp .eql (A.nth (.struct [(.int .i64),(.slice (.int .u8))]) p.b1 b3:Int×List Int).1 (A.nth (.struct [(.int .i64),(.slice (.int .u8))]) p.b1 b3:Int×List Int).1)
    (.need (A.and (A.cmp .leq 0 (A.bin .quo .i64 b0 8)) (A.and (A.cmp .leq (A.bin .quo .i64 b0 8) (A.len b6)) (A.cmp .leq (A.len b6) (A.len b6)))) (
    .need (A.and (A.cmp .leq 0 0) (A.and (A.cmp .leq 0 (A.len (A.nth (.struct [(.int .i64),(.slice (.int .u8))]) p.b1 b3:Int×List Int).2)) (A.cmp .leq (A.len (A.nth (.struct [(.int .i64),(.slice (.int .u8))]) p.b1 b3:Int×List Int).2) (A.len (A.nth (.struct [(.int .i64),(.slice (.int .u8))]) p.b1 b3:Int×List Int).2)))) (
     .more (.c1 p (A.bin .add .i64 b0 (A.nth (.struct [(.int .i64),(.slice (.int .u8))]) p.b1 b3:Int×List Int).1) (A.bin .add .i64 b3 1) (A.spl b6 (A.bin .quo .i64 b0 8) (A.sub (A.sub (A.nth (.struct [(.int .i64),(.slice (.int .u8))]) p.b1 b3:Int×List Int).2 0 (A.len (A.nth (.struct [(.int .i64),(.slice (.int .u8))]) p.b1 b3:Int×List Int).2)) 0 (A.mn (A.len (A.sub (A.nth (.struct [(.int .i64),(.slice (.int .u8))]) p.b1 b3:Int×List Int).2 0 (A.len (A.nth (.struct [(.int .i64),(.slice (.int .u8))]) p.b1 b3:Int×List Int).2))) (A.bin .sub .i64 (A.len b6) (A.bin .quo .i64 b0 8)))))))))
    (.more (.c2 ⟨b0,0,(A.nth (.struct [(.int .i64),(.slice (.int .u8))]) p.b1 b3:Int×List Int).1,b0,p.b1,p.b2,b3,p.b5,(A.nth (.struct [(.int .i64),(.slice (.int .u8))]) p.b1 b3:Int×List Int).1,(A.nth (.struct [(.int .i64),(.slice (.int .u8))]) p.b1 b3:Int×List Int).2,p.b4,p.b5,(A.nth (.struct [(.int .i64),(.slice (.int .u8))]) p.b1 b3:Int×List Int).1,(A.nth (.struct [(.int .i64),(.slice (.int .u8))]) p.b1 b3:Int×List Int).2⟩ 0 b6)))
   (.more (.c2 ⟨b0,0,(A.nth (.struct [(.int .i64),(.slice (.int .u8))]) p.b1 b3:Int×List Int).1,b0,p.b1,p.b2,b3,p.b5,(A.nth (.struct [(.int .i64),(.slice (.int .u8))]) p.b1 b3:Int×List Int).1,(A.nth (.struct [(.int .i64),(.slice (.int .u8))]) p.b1 b3:Int×List Int).2,p.b4,p.b5,(A.nth (.struct [(.int .i64),(.slice (.int .u8))]) p.b1 b3:Int×List Int).1,(A.nth (.struct [(.int .i64),(.slice (.int .u8))]) p.b1 b3:Int×List Int).2⟩ 0 b6))))
  (.ret ((p.b5,b6),0))
 | .c2 p c3 c15=>
  .br (A.cmp .lss c3 p.c2)
  (.need (A.call pre166 ((p.c9,p.c10),c3)) (
   .br (A.call fn166 ((p.c9,p.c10),c3))
   (.need (A.and (A.cmp .leq 0 (A.bin .quo .i64 (A.bin .sub .i64 (A.bin .add .i64 p.c0 c3) p.c1) 8)) (A.cmp .lss (A.bin .quo .i64 (A.bin .sub .i64 (A.bin .add .i64 p.c0 c3) p.c1) 8) (A.len c15))) (
    .need (A.call pre177 (A.bin .sub .i64 (A.bin .add .i64 p.c0 c3) p.c1)) (
    .need (A.and (A.cmp .leq 0 (A.bin .quo .i64 (A.bin .sub .i64 (A.bin .add .i64 p.c0 c3) p.c1) 8)) (A.cmp .lss (A.bin .quo .i64 (A.bin .sub .i64 (A.bin .add .i64 p.c0 c3) p.c1) 8) (A.len c15))) (
     .more (.c2 p (A.bin .add .i64 c3 1) (A.set c15 (A.bin .quo .i64 (A.bin .sub .i64 (A.bin .add .i64 p.c0 c3) p.c1) 8) (A.bin .or .u8 (A.nth (.int .u8) c15 (A.bin .quo .i64 (A.bin .sub .i64 (A.bin .add .i64 p.c0 c3) p.c1) 8):Int) (A.call fn177 (A.bin .sub .i64 (A.bin .add .i64 p.c0 c3) p.c1)))))))))
   (.more (.c2 p (A.bin .add .i64 c3 1) c15))))
  (.more (.c1 ⟨p.c5,p.c6,p.c11,p.c12⟩ (A.bin .add .i64 p.c4 p.c13) (A.bin .add .i64 p.c7 1) c15))
noncomputable def E134 (A:Alg):Info (Ty.Ts [(.struct [(.int .i64),(.slice (.int .u8))]),(.int .i64)]):={ti:=tys,fns:=[(134,Try.f134),(162,Try.f162),(164,Try.f164),(165,Try.f165)],sps:=[(99,sp99),(137,sp137),(166,sp166),(177,sp177)],stops:=[⟨134,3, [[0,2,4,12,13,14]]⟩,⟨134,15, [[2,8,9,35,36,37]]⟩,⟨165,4, [[1,3,4,5,7,10], [2,8,9,11,35,36,37]]⟩],cuts:=[],consts:=[],fin:=finD A [(.struct [(.int .i64),(.slice (.int .u8))]),(.int .i64)]}
theorem t134_ok (A:Alg) (l:List (Int×List Int)):run A (E134 A) 24 (startC 134 Try.f134 (dvals A [(.slice (.struct [(.int .i64),(.slice (.int .u8))]))] l))=(t134 A l).tr cfg134:=by kernel_rfl
theorem s134_ok (A:Alg):∀y,∃n,run A (E134 A) n (advance (E134 A).sps (cfg134 y))=(s134 A y).tr cfg134
 | .c0 p a1 a4=>⟨55,by kernel_rfl⟩
 | .c1 p b0 b3 b6=>⟨82,by kernel_rfl⟩
 | .c2 p c3 c15=>⟨57,by kernel_rfl⟩
def w134:Walk Try.prog 134 [(.slice (.struct [(.int .i64),(.slice (.int .u8))]))] [(.struct [(.int .i64),(.slice (.int .u8))]),(.int .i64)] Y134:=⟨fun l=>t134 std l,s134 std⟩
theorem w134_ok:w134.Ok:=
 walk_ok (E:=E134 std) ⟨tys_fit,fns_cons Try.func134 (by kernel_rfl) (fns_cons Try.func162 (by kernel_rfl) (fns_cons Try.func164 (by kernel_rfl) (fns_cons Try.func165 (by kernel_rfl) (fns_nil)))),sps_cons so99 (sps_cons so137 (sps_cons so166 (sps_cons so177 (sps_nil)))),by kernel_rfl⟩ rfl rfl rfl (by kernel_rfl) w134 cfg134 24 (fun l=>t134_ok std l) (s134_ok std)
theorem getD_app (l m:List Bool) (i:Nat):(l ++ m).getD i false=if i < l.length then l.getD i false else m.getD (i - l.length) false:=by
 rw [List.getD_eq_getElem?_getD,List.getD_eq_getElem?_getD,List.getD_eq_getElem?_getD,List.getElem?_append]
 split <;> rfl
theorem holds_copy {B b:List Int} {L:List Bool} {n m q:Nat} (h:Holds B L m) (hL:L.length=8 * q) (hb:okB n b) (hm:q + b.length≤m):Holds (B.take q ++ b ++ B.drop (q + b.length)) (L ++ unpack n b) m:=by
 have hB:=h.1
 have hn:=hb.1
 refine ⟨?_,fun x hx=>?_,fun i hi=>?_⟩
 ·rw [List.length_append,List.length_append,List.length_take,List.length_drop]; omega
 ·rcases List.mem_append.1 hx with h2 | h2
  ·rcases List.mem_append.1 h2 with h3 | h3
   ·exact h.2.1 x (List.mem_of_mem_take h3)
   ·exact hb.2.1 x h3
  ·exact h.2.1 x (List.mem_of_mem_drop h2)
 ·have htl:(B.take q).length=q:=by rw [List.length_take]; omega
  rw [getD_app,hL,unpack_getD]
  by_cases h1:i / 8 < q
  ·have e:bitB (B.take q ++ b ++ B.drop (q + b.length)) i=bitB B i:=by
    rw [bitB,bitB,List.getD_eq_getElem?_getD,List.getD_eq_getElem?_getD,List.append_assoc,List.getElem?_append_left (by omega),List.getElem?_take_of_lt h1]
   rw [e,if_pos (by omega)]
   exact h.2.2 i hi
  ·rw [if_neg (by omega)]
   by_cases h2:i / 8 < q + b.length
   ·have e:bitB (B.take q ++ b ++ B.drop (q + b.length)) i=bitB b (i - 8 * q):=by
     rw [bitB,bitB,List.getD_eq_getElem?_getD,List.getD_eq_getElem?_getD,List.append_assoc,List.getElem?_append_right (by omega),htl,List.getElem?_append_left (by omega),show (i - 8 * q) / 8=i / 8 - q from by omega,show (i - 8 * q) % 8=i % 8 from by omega]
    rw [e]
    by_cases h3:i - 8 * q < n
    ·rw [show decide (i - 8 * q < n)=true from by simpa using h3,Bool.true_and]
    ·rw [show decide (i - 8 * q < n)=false from by simpa using h3,Bool.false_and]
     exact hb.2.2 _ (by omega) (by omega)
   ·have e:bitB (B.take q ++ b ++ B.drop (q + b.length)) i=bitB B i:=by
     rw [bitB,bitB,List.getD_eq_getElem?_getD,List.getD_eq_getElem?_getD,List.getElem?_append_right (by rw [List.length_append]; omega),List.length_append,htl,List.getElem?_drop,show q + b.length + (i / 8 - (q + b.length))=i / 8 from by omega]
    rw [e,h.2.2 i hi,show decide (i - 8 * q < n)=false from by simp [-List.length_flatMap]; omega,Bool.false_and,List.getD_eq_getElem?_getD,List.getElem?_eq_none (by omega)]; rfl
theorem flat_le {l:List (Int×List Int)} (i:Nat):((l.take i).flatMap bsL).length≤(l.flatMap bsL).length:=by
 conv=>rhs; rw [←List.take_append_drop i l,List.flatMap_append,List.length_append]
 omega
theorem join_c2 {l:List (Int×List Int)} {i n m:Nat} {b:List Int} (hi:i < l.length) (hll:l.length≤140737488355328) (hx:l[i]=((n:Int),b)) (hb:okB n b) (hn:n≤4096) (hm:((l.take (i + 1)).flatMap bsL).length≤8 * m) (hm2:m≤5000) {R:(Int×List Int)×Int}
  (hnext:∀(p:P134c1) (B:List Int),p.b1=l→p.b2=(l.length:Int)→p.b5=((l.flatMap bsL).length:Int)→Holds B ((l.take (i + 1)).flatMap bsL) m→Runs (s134 std) (.more (.c1 p ((((l.take (i + 1)).flatMap bsL).length:Nat):Int) ((i + 1:Nat):Int) B)) R) :
  ∀(j k:Nat) (p:P134c2) (B:List Int),p.c0=((((l.take i).flatMap bsL).length:Nat):Int)→p.c1=0→p.c2=(n:Int)→p.c4=((((l.take i).flatMap bsL).length:Nat):Int)→p.c5=l→p.c6=(l.length:Int)→p.c7=(i:Int)→p.c10=b→p.c12=((l.flatMap bsL).length:Int)→p.c13=(n:Int)→n - k=j→k≤n→Holds B ((l.take i).flatMap bsL ++ unpack k b) m→Runs (s134 std) (.more (.c2 p (k:Int) B)) R:=by
 have hb0:=hb.1
 have htf:=take_flat hi
 have hL:bsL l[i]=unpack n b:=by rw [hx,bsL]; rfl
 rw [hL] at htf
 intro j
 induction j with
 | zero=>
  intro k p B h0 h1 h2 h4 h5 h6 h7 h10 h12 h13 hj hk hB
  have:k=n:=by omega
  subst this
  simp only [runs_more,s134]
  refine (runs_brF (by rw [h2,lss_nat]; simp)).2 ?_
  rw [←htf] at hB
  have e1:std.bin .add .i64 p.c4 p.c13=((((l.take (i + 1)).flatMap bsL).length:Nat):Int):=by
   rw [h4,h13,add_nat (by rw [htf,List.length_append] at hm; omega),htf,List.length_append,unpack_length]
  have e2:std.bin .add .i64 p.c7 1=((i + 1:Nat):Int):=by rw [h7,inc1 (by omega)]
  rw [e1,e2]
  exact hnext _ B h5 h6 h12 hB
 | succ j ih=>
  intro k p B h0 h1 h2 h4 h5 h6 h7 h10 h12 h13 hj hk hB
  have hm':=hm
  rw [htf,List.length_append,unpack_length] at hm'
  simp only [runs_more,s134]
  have hat:std.bin .sub .i64 (std.bin .add .i64 p.c0 (k:Int)) p.c1=(((((l.take i).flatMap bsL).length + k:Nat)):Int):=by
   rw [h0,h1,add_nat (by omega),show std.bin .sub .i64 ((((l.take i).flatMap bsL).length + k:Nat):Int) 0=((((l.take i).flatMap bsL).length + k - 0:Nat):Int) from sub_nat (j:=0) (by omega) (by omega)]; rfl
  have hlen:((l.take i).flatMap bsL ++ unpack k b).length=((l.take i).flatMap bsL).length + k:=by rw [List.length_append,unpack_length]
  refine (runs_brT (by rw [h2,lss_nat]; simp [-List.length_flatMap]; omega)).2 (runs_need.2 ⟨by rw [h10,std_call]; simp [pre166]; omega,?_⟩)
  have hc:std.call fn166 ((p.c9,p.c10),(k:Int))=bitB b k:=by
   rw [h10,std_call,fn166_eq hb.2.1 (by omega) (by omega) (by omega),Int.toNat_natCast]
  rw [hat]
  have hs:=unpack_succ k b
  cases hbit:bitB b k
  ·rw [hbit] at hs
   refine (runs_brF (hc.trans hbit)).2 ?_
   refine runs_c (congrArg LT.more (congr (congrArg (Y134.c2 p) (inc1 (by omega))) rfl)) (ih (k + 1) p B h0 h1 h2 h4 h5 h6 h7 h10 h12 h13 (by omega) (by omega) ?_)
   rw [hs,←List.append_assoc]
   exact hB.skip
  ·rw [hbit] at hs
   refine (runs_brT (hc.trans hbit)).2 (runs_need.2 ⟨need_set hB.1 (by omega) (by omega),runs_need.2 ⟨need_mask,runs_need.2 ⟨need_set hB.1 (by omega) (by omega),?_⟩⟩⟩)
   refine runs_c (congrArg LT.more (congr (congrArg (Y134.c2 p) (inc1 (by omega))) rfl)) (ih (k + 1) p _ h0 h1 h2 h4 h5 h6 h7 h10 h12 h13 (by omega) (by omega) ?_)
   rw [hs,←List.append_assoc]
   exact set_prog hB hlen (by omega) (by omega)
theorem join_c1 {l:List (Int×List Int)} (hll:l.length≤140737488355328) (hby:∀x∈l,bytesOk x.2) (hok:∀x∈l,bsOk x=true) (hT:(l.flatMap bsL).length≤4096):∀(j i:Nat) (p:P134c1) (B:List Int),p.b1=l→p.b2=(l.length:Int)→p.b5=((l.flatMap bsL).length:Int)→l.length - i=j→i≤l.length→Holds B ((l.take i).flatMap bsL) (((l.flatMap bsL).length + 7) / 8)→Runs (s134 std) (.more (.c1 p ((((l.take i).flatMap bsL).length:Nat):Int) (i:Int) B)) (bsP (l.flatMap bsL),0):=by
 intro j
 induction j with
 | zero=>
  intro i p B h1 h2 h5 hj hi hB
  have:i=l.length:=by omega
  subst this
  rw [List.take_length] at hB ⊢
  simp only [runs_more,s134]
  refine (runs_brF (by rw [h2,lss_nat]; simp)).2 ?_
  rw [h5,hB.done rfl]
  exact .ret _
 | succ j ih=>
  intro i p B h1 h2 h5 hj hi hB
  have hi':i < l.length:=by omega
  have hmem:=List.getElem_mem hi'
  have hxo:=hok _ hmem
  obtain ⟨n0,b,hx⟩:∃n0 b,l[i]=(n0,b):=⟨_,_,rfl⟩
  have hby':=hby _ hmem
  rw [hx] at hxo hby'
  obtain ⟨h3,h4,hb⟩:=(bsOk_iff hby').1 hxo
  obtain ⟨n,rfl⟩:=Int.eq_ofNat_of_zero_le h3
  have hb:okB n b:=hb
  have hb0:b.length=(n + 7) / 8:=hb.1
  have htf:=take_flat hi'
  have hL:bsL l[i]=unpack n b:=by rw [hx,bsL]; rfl
  rw [hL] at htf
  have hle:=flat_le (l:=l) (i + 1)
  have hle':=hle
  rw [htf,List.length_append,unpack_length] at hle'
  have hn1:(std.nth (.struct [(.int .i64),(.slice (.int .u8))]) p.b1 (i:Int):Int×List Int)=((n:Int),b):=by rw [h1,nth_bits hi',hx]
  simp only [runs_more,s134]
  refine (runs_brT (by rw [h2,lss_nat]; simp [-List.length_flatMap]; omega)).2 (runs_need.2 ⟨by rw [h1]; exact need_ix hi',?_⟩)
  rw [hn1]
  dsimp only
  have hmore:Runs (s134 std) (.more (.c2 ⟨((((l.take i).flatMap bsL).length:Nat):Int),0,(n:Int),((((l.take i).flatMap bsL).length:Nat):Int),p.b1,p.b2,(i:Int),p.b5,(n:Int),b,p.b4,p.b5,(n:Int),b⟩ 0 B)) (bsP (l.flatMap bsL),0):=by
   refine join_c2 hi' hll hx hb (by omega) (m:=((l.flatMap bsL).length + 7) / 8) (by omega) (by omega) (fun p' B' g1 g2 g3 g4=>ih (i + 1) p' B' g1 g2 g3 (by omega) (by omega) g4) n 0 _ B rfl rfl rfl rfl h1 h2 rfl rfl h5 rfl (by omega) (by omega) ?_
   rw [show unpack 0 b=[] from rfl,List.append_nil]
   exact hB
  by_cases h8:((l.take i).flatMap bsL).length % 8=0
  ·refine (runs_brT (ceq_t (by rw [rem_nat,h8]; rfl))).2 ((runs_brT (ceq_t rfl)).2 ?_)
   have hlB:std.len B=((((l.flatMap bsL).length + 7) / 8:Nat):Int):=by rw [←hB.1]; rfl
   have hlb:std.len b=(b.length:Int):=rfl
   refine runs_need.2 ⟨by rw [quo_nat (by omega),hlB,leq_0,leq_nat,leq_nat,std_and,std_and]; simp [-List.length_flatMap]; omega,runs_need.2 ⟨by show std.and (std.cmp .leq 0 0) (std.and (std.cmp .leq 0 (b.length:Int)) (std.cmp .leq (b.length:Int) (b.length:Int)))=true; rw [leq_0,leq_nat,std_and,std_and]; simp [std_cmp_leq],?_⟩⟩
   have e0:std.sub b 0 (std.len b)=b:=sub_all (i:=0)
   have e1:std.mn (std.len b) (std.bin .sub .i64 (std.len B) (std.bin .quo .i64 ((((l.take i).flatMap bsL).length:Nat):Int) 8))=(b.length:Int):=by
    rw [hlB,quo_nat (by omega),sub_nat (by omega) (by omega),hlb,std_mn,if_neg (by omega)]
   have e2:std.sub b 0 (b.length:Int)=b:=e0
   have e3:std.spl B (std.bin .quo .i64 ((((l.take i).flatMap bsL).length:Nat):Int) 8) b=B.take (((l.take i).flatMap bsL).length / 8) ++ b ++ B.drop (((l.take i).flatMap bsL).length / 8 + b.length):=by
    rw [quo_nat (by omega),std_spl,Int.toNat_natCast]
   have hnew:=holds_copy hB (q:=((l.take i).flatMap bsL).length / 8) (by omega) hb (by omega)
   rw [←htf,←e3] at hnew
   have e4:std.bin .add .i64 ((((l.take i).flatMap bsL).length:Nat):Int) (n:Int)=((((l.take (i + 1)).flatMap bsL).length:Nat):Int):=by
    rw [add_nat (by omega),htf,List.length_append,unpack_length]
   have fin:Runs (s134 std) (.more (.c1 p (std.bin .add .i64 ((((l.take i).flatMap bsL).length:Nat):Int) (n:Int)) (std.bin .add .i64 (i:Int) 1) (std.spl B (std.bin .quo .i64 ((((l.take i).flatMap bsL).length:Nat):Int) 8) (std.sub (std.sub b 0 (std.len b)) 0 (std.mn (std.len (std.sub b 0 (std.len b))) (std.bin .sub .i64 (std.len B) (std.bin .quo .i64 ((((l.take i).flatMap bsL).length:Nat):Int) 8))))))) (bsP (l.flatMap bsL),0):=by
    rw [e0,e1,e2,e4,inc1 (by omega)]
    exact ih (i + 1) p _ h1 h2 h5 (by omega) (by omega) hnew
   exact fin
  ·exact (runs_brF (ceq_f (by rw [rem_nat]; omega))).2 hmore
theorem join_c0 {l:List (Int×List Int)} (hll:l.length≤140737488355328) (hby:∀x∈l,bytesOk x.2∧x.2.length≤140737488355328):∀(j i:Nat) (p:P134c0) (t:Int),p.a0=l→p.a2=l→p.a3=(l.length:Int)→t=((min ((l.take i).flatMap bsL).length 4097:Nat):Int)→l.length - i=j→i≤l.length→(∀x∈l.take i,bsOk x=true)→Runs (s134 std) (.more (.c0 p t (i:Int))) (joinS l):=by
 intro j
 induction j with
 | zero=>
  intro i p t h0 h2 h3 ht hj hi hok
  have:i=l.length:=by omega
  subst this
  rw [List.take_length] at hok ht
  simp only [runs_more,s134]
  refine (runs_brF (by rw [h3,lss_nat]; simp)).2 ?_
  rw [joinS,List.all_eq_true.2 hok,cond_true]
  by_cases h4:4096 < (l.flatMap bsL).length
  ·refine (runs_brT (by rw [std_cmp_gtr,ht]; simp [-List.length_flatMap]; omega)).2 ?_
   rw [ofS_long h4]
   exact .ret _
  ·refine (runs_brF (by rw [std_cmp_gtr,ht]; simp [-List.length_flatMap]; omega)).2 ?_
   have ht':t=(((l.flatMap bsL).length:Nat):Int):=by omega
   have hneed:std.call fn137 t=((((l.flatMap bsL).length + 7) / 8:Nat):Int):=by rw [std_call,ht',fn137_eq (by omega) (by omega),Int.toNat_natCast]
   refine runs_need.2 ⟨rfl,runs_need.2 ⟨by rw [hneed,leq_0,ceq_t rfl,std_cmp_leq,std_and,std_and]; simp [-List.length_flatMap]; omega,?_⟩⟩
   rw [ofS_short (by omega),hneed,std_rep,Int.toNat_natCast]
   exact join_c1 hll (fun x hx=>(hby x hx).1) hok (by omega) l.length 0 _ _ h0 (by show std.len p.a0=_; rw [h0]; rfl) ht' (by omega) (by omega) (Holds.blank _)
 | succ j ih=>
  intro i p t h0 h2 h3 ht hj hi hok
  have hi':i < l.length:=by omega
  have hmem:=List.getElem_mem hi'
  simp only [runs_more,s134]
  refine (runs_brT (by rw [h3,lss_nat]; simp [-List.length_flatMap]; omega)).2 (runs_need.2 ⟨by rw [h2]; exact need_ix hi',runs_need.2 ⟨rfl,?_⟩⟩)
  have hn1:(std.nth (.struct [(.int .i64),(.slice (.int .u8))]) p.a2 (i:Int):Int×List Int)=l[i]:=by rw [h2,nth_bits hi']
  rw [hn1]
  have hc:std.call fn99 l[i]=bif bsOk l[i] then 0 else 10:=by
   obtain ⟨n0,b,hx⟩:∃n0 b,l[i]=(n0,b):=⟨_,_,rfl⟩
   have:=hby _ hmem
   rw [hx] at this ⊢
   exact fn99_eq this.1 this.2
  rw [hc]
  cases hx:bsOk l[i]
  ·refine (runs_brT rfl).2 ?_
   rw [joinS,show l.all bsOk=false from List.all_eq_false.2 ⟨l[i],hmem,by rw [hx]; decide⟩]
   exact .ret _
  ·refine (runs_brF rfl).2 ?_
   have hle:=bsL_le hx
   have hN:l[i].1=(((bsL l[i]).length:Nat):Int):=by
    rw [bsL_length]
    simp only [bsOk,Bool.and_eq_true,decide_eq_true_eq] at hx
    omega
   refine runs_c (congrArg LT.more (congr (congrArg (Y134.c0 p) rfl) (inc1 (by omega)))) (ih (i + 1) p _ h0 h2 h3 ?_ (by omega) (by omega) ?_)
   ·rw [hN,ht,add_nat (by omega),std_mn,take_flat hi',List.length_append]
    by_cases h9:(4097:Int) < ((min ((l.take i).flatMap bsL).length 4097 + (bsL l[i]).length:Nat):Int)
    ·rw [if_pos h9]; omega
    ·rw [if_neg h9]; omega
   ·intro x hx2
    rw [List.take_succ_eq_append_getElem hi'] at hx2
    rcases List.mem_append.1 hx2 with h4 | h4
    ·exact hok x h4
    ·rw [List.mem_singleton.1 h4]; exact hx
def fn134:(List (Int×List Int))→((Int×List Int)×Int):=joinS
def sp134:FSpec:=⟨[(.slice (.struct [(.int .i64),(.slice (.int .u8))]))], [(.struct [(.int .i64),(.slice (.int .u8))]),(.int .i64)],(@tt (List (Int×List Int))),fn134⟩
theorem run134 {l:List (Int×List Int)} (h:Ty.hass [(.slice (.struct [(.int .i64),(.slice (.int .u8))]))] l):Runs (s134 std) (t134 std l) (fn134 l):=by
 exact join_c0 (has_list h).1 (has_list h).2 l.length 0 _ 0 rfl rfl rfl rfl rfl (by omega) (by intro x hx; cases hx)
theorem so134:FSpec.Sound Try.prog 134 sp134:=
 w134_ok.sound _ _ fun l _ h=>run134 h
def t133 (A:Alg) (bN:Int) (bB:List Int) (unsentN:Int) (unsentB:List Int):LT ((Int×List Int)×Int) Empty:=
 .need (A.call (@tt (List (Int×List Int))) [(unsentN,unsentB),(bN,bB)]) (
 .br (A.cmp .neq (A.call fn163 [(unsentN,unsentB),(bN,bB)]).2 0)
 (.ret ((0,([]:List Int)),(A.call fn163 [(unsentN,unsentB),(bN,bB)]).2))
 (.need (A.call (@tt ((Int×List Int)×Int×Int)) ((bN,bB),(A.conv .u64 (A.call fn163 [(unsentN,unsentB),(bN,bB)]).1),24)) (
  .ret (A.call fn132 ((bN,bB),(A.conv .u64 (A.call fn163 [(unsentN,unsentB),(bN,bB)]).1),24)))))
noncomputable def E133 (A:Alg):Info (Ty.Ts [(.struct [(.int .i64),(.slice (.int .u8))]),(.int .i64)]):={ti:=tys,fns:=[(133,Try.f133)],sps:=[(132,sp132),(163,sp163)],stops:=[],cuts:=[],consts:=[],fin:=finD A [(.struct [(.int .i64),(.slice (.int .u8))]),(.int .i64)]}
theorem t133_ok (A:Alg) (bN:Int) (bB:List Int) (unsentN:Int) (unsentB:List Int):run A (E133 A) 44 (startC 133 Try.f133 (dvals A [(.struct [(.int .i64),(.slice (.int .u8))]),(.struct [(.int .i64),(.slice (.int .u8))])] ((bN,bB),unsentN,unsentB)))=(t133 A bN bB unsentN unsentB).tr Empty.elim:=by kernel_rfl
def w133:Walk Try.prog 133 [(.struct [(.int .i64),(.slice (.int .u8))]),(.struct [(.int .i64),(.slice (.int .u8))])] [(.struct [(.int .i64),(.slice (.int .u8))]),(.int .i64)] Empty:=⟨fun ((bN,bB),unsentN,unsentB)=>t133 std bN bB unsentN unsentB,Empty.elim⟩
theorem w133_ok:w133.Ok:=
 walk_ok (E:=E133 std) ⟨tys_fit,fns_cons Try.func133 (by kernel_rfl) (fns_nil),sps_cons so132 (sps_cons so163 (sps_nil)),by kernel_rfl⟩ rfl rfl rfl (by kernel_rfl) w133 Empty.elim 44 (fun ((bN,bB),unsentN,unsentB)=>t133_ok std bN bB unsentN unsentB) (fun y=>y.elim)
theorem seal133 {n m:Int} {b u:List Int} (h:Ty.hass [(.struct [(.int .i64),(.slice (.int .u8))]),(.struct [(.int .i64),(.slice (.int .u8))])] ((n,b),(m,u))):Runs Empty.elim (t133 std n b m u) (sealS ((n,b),(m,u))):=by
 unfold t133
 have hs:std.call fn163 [(m,u),(n,b)]=bif bsOk (m,u) && bsOk (n,b) then (((over (over 0 (bsL (m,u))) (bsL (n,b)):Nat):Int),0) else (0,10):=by
  rw [std_call,fn163,sumS]
  show (bif (bsOk (m,u) && (bsOk (n,b) && true)) then (((over 0 (bsL (m,u) ++ (bsL (n,b) ++ [])):Nat):Int),(0:Int)) else (0,10))=_
  rw [Bool.and_true,List.append_nil,over_append]
 refine runs_need.2 ⟨rfl,?_⟩
 have hlt:=over_lt (over_lt (r:=0) (by decide) (bsL (m,u))) (bsL (n,b))
 rw [sealS]
 cases hok:bsOk (m,u) && bsOk (n,b)
 ·rw [hok,cond_false] at hs
  refine (runs_brT (show ((std.call fn163 [(m,u),(n,b)]).2 != 0)=true by rw [hs]; rfl)).2 ?_
  exact runs_c (congrArg LT.ret (show ((0,([]:List Int)),(std.call fn163 [(m,u),(n,b)]).2)=(zB,10) by rw [hs]; rfl)) (.ret _)
 ·rw [hok,cond_true] at hs
  refine (runs_brF (show ((std.call fn163 [(m,u),(n,b)]).2 != 0)=false by rw [hs]; rfl)).2 (runs_need.2 ⟨rfl,?_⟩)
  refine runs_c (congrArg LT.ret (show std.call fn132 ((n,b),std.conv .u64 (std.call fn163 [(m,u),(n,b)]).1,24)=ofS (sealL (over 0 (bsL (m,u))) (bsL (n,b))) from ?_)) (.ret _)
  rw [Bool.and_eq_true] at hok
  rw [hs,conv_nat (by omega),std_call,fn132,putS,hok.2,pow_leB (by omega),Int.toNat_natCast,Nat.div_eq_of_lt (by simp only [show (24:Int).toNat=24 from rfl]; omega)]
  rfl
def fn133:((Int×List Int)×(Int×List Int))→((Int×List Int)×Int):=sealS
def sp133:FSpec:=⟨[(.struct [(.int .i64),(.slice (.int .u8))]),(.struct [(.int .i64),(.slice (.int .u8))])], [(.struct [(.int .i64),(.slice (.int .u8))]),(.int .i64)],(@tt ((Int×List Int)×(Int×List Int))),fn133⟩
theorem run133 {bN:Int} {bB:List Int} {unsentN:Int} {unsentB:List Int} (h:Ty.hass [(.struct [(.int .i64),(.slice (.int .u8))]),(.struct [(.int .i64),(.slice (.int .u8))])] ((bN,bB),unsentN,unsentB)):Runs Empty.elim (t133 std bN bB unsentN unsentB) (fn133 ((bN,bB),unsentN,unsentB)):=by
 exact seal133 h
theorem so133:FSpec.Sound Try.prog 133 sp133:=
 w133_ok.sound _ _ fun ((bN,bB),unsentN,unsentB) _ h=>run133 h
def t84 (A:Alg) (bN:Int) (bB:List Int) (unsentN:Int) (unsentB:List Int):LT ((Int×List Int)×Int) Empty:=
 .need (A.call (@tt (List (Int×List Int))) [(unsentN,unsentB),(bN,bB)]) (
 .br (A.cmp .neq (A.call fn126 [(unsentN,unsentB),(bN,bB)]).2 0)
 (.ret ((0,([]:List Int)),(A.call fn126 [(unsentN,unsentB),(bN,bB)]).2))
 (.need (A.call (@tt ((Int×List Int)×Int×Int)) ((bN,bB),(A.conv .u64 (A.call fn126 [(unsentN,unsentB),(bN,bB)]).1),24)) (
  .ret (A.call fn125 ((bN,bB),(A.conv .u64 (A.call fn126 [(unsentN,unsentB),(bN,bB)]).1),24)))))
noncomputable def E84 (A:Alg):Info (Ty.Ts [(.struct [(.int .i64),(.slice (.int .u8))]),(.int .i64)]):={ti:=tys,fns:=[(84,Try.f84)],sps:=[(125,sp125),(126,sp126)],stops:=[],cuts:=[],consts:=[],fin:=finD A [(.struct [(.int .i64),(.slice (.int .u8))]),(.int .i64)]}
theorem t84_ok (A:Alg) (bN:Int) (bB:List Int) (unsentN:Int) (unsentB:List Int):run A (E84 A) 44 (startC 84 Try.f84 (dvals A [(.struct [(.int .i64),(.slice (.int .u8))]),(.struct [(.int .i64),(.slice (.int .u8))])] ((bN,bB),unsentN,unsentB)))=(t84 A bN bB unsentN unsentB).tr Empty.elim:=by kernel_rfl
def w84:Walk Try.prog 84 [(.struct [(.int .i64),(.slice (.int .u8))]),(.struct [(.int .i64),(.slice (.int .u8))])] [(.struct [(.int .i64),(.slice (.int .u8))]),(.int .i64)] Empty:=⟨fun ((bN,bB),unsentN,unsentB)=>t84 std bN bB unsentN unsentB,Empty.elim⟩
theorem w84_ok:w84.Ok:=
 walk_ok (E:=E84 std) ⟨tys_fit,fns_cons Try.func84 (by kernel_rfl) (fns_nil),sps_cons so125 (sps_cons so126 (sps_nil)),by kernel_rfl⟩ rfl rfl rfl (by kernel_rfl) w84 Empty.elim 44 (fun ((bN,bB),unsentN,unsentB)=>t84_ok std bN bB unsentN unsentB) (fun y=>y.elim)
theorem seal84 {n m:Int} {b u:List Int} (h:Ty.hass [(.struct [(.int .i64),(.slice (.int .u8))]),(.struct [(.int .i64),(.slice (.int .u8))])] ((n,b),(m,u))):Runs Empty.elim (t84 std n b m u) (sealS ((n,b),(m,u))):=by
 unfold t84
 have hs:std.call fn126 [(m,u),(n,b)]=bif bsOk (m,u) && bsOk (n,b) then (((over (over 0 (bsL (m,u))) (bsL (n,b)):Nat):Int),0) else (0,10):=by
  rw [std_call,fn126,sumS]
  show (bif (bsOk (m,u) && (bsOk (n,b) && true)) then (((over 0 (bsL (m,u) ++ (bsL (n,b) ++ [])):Nat):Int),(0:Int)) else (0,10))=_
  rw [Bool.and_true,List.append_nil,over_append]
 refine runs_need.2 ⟨rfl,?_⟩
 have hlt:=over_lt (over_lt (r:=0) (by decide) (bsL (m,u))) (bsL (n,b))
 rw [sealS]
 cases hok:bsOk (m,u) && bsOk (n,b)
 ·rw [hok,cond_false] at hs
  refine (runs_brT (show ((std.call fn126 [(m,u),(n,b)]).2 != 0)=true by rw [hs]; rfl)).2 ?_
  exact runs_c (congrArg LT.ret (show ((0,([]:List Int)),(std.call fn126 [(m,u),(n,b)]).2)=(zB,10) by rw [hs]; rfl)) (.ret _)
 ·rw [hok,cond_true] at hs
  refine (runs_brF (show ((std.call fn126 [(m,u),(n,b)]).2 != 0)=false by rw [hs]; rfl)).2 (runs_need.2 ⟨rfl,?_⟩)
  refine runs_c (congrArg LT.ret (show std.call fn125 ((n,b),std.conv .u64 (std.call fn126 [(m,u),(n,b)]).1,24)=ofS (sealL (over 0 (bsL (m,u))) (bsL (n,b))) from ?_)) (.ret _)
  rw [Bool.and_eq_true] at hok
  rw [hs,conv_nat (by omega),std_call,fn125,putS,hok.2,pow_leB (by omega),Int.toNat_natCast,Nat.div_eq_of_lt (by simp only [show (24:Int).toNat=24 from rfl]; omega)]
  rfl
def fn84:((Int×List Int)×(Int×List Int))→((Int×List Int)×Int):=sealS
def sp84:FSpec:=⟨[(.struct [(.int .i64),(.slice (.int .u8))]),(.struct [(.int .i64),(.slice (.int .u8))])], [(.struct [(.int .i64),(.slice (.int .u8))]),(.int .i64)],(@tt ((Int×List Int)×(Int×List Int))),fn84⟩
theorem run84 {bN:Int} {bB:List Int} {unsentN:Int} {unsentB:List Int} (h:Ty.hass [(.struct [(.int .i64),(.slice (.int .u8))]),(.struct [(.int .i64),(.slice (.int .u8))])] ((bN,bB),unsentN,unsentB)):Runs Empty.elim (t84 std bN bB unsentN unsentB) (fn84 ((bN,bB),unsentN,unsentB)):=by
 exact seal84 h
theorem so84:FSpec.Sound Try.prog 84 sp84:=
 w84_ok.sound _ _ fun ((bN,bB),unsentN,unsentB) _ h=>run84 h
end Go.Ev.M
