/-
  PROVED: what Join and Seal compute, in the program and in the document. Conditions: none.
-/
import Derived.Test.YtafbddhnoacldaaGreatFb
namespace Go.Ev.M
open Go.Proofs
set_option maxRecDepth 100000
set_option linter.unusedVariables false
set_option linter.unusedSimpArgs false
open Go.Ev.Pl
structure P86c0 where
 (a0:List (Int×List Int)) (a2:Int)
structure P86c1 where
 (b0:List (Int×List Int)) (b2:Int)
structure P86c2 where
 (c0:List (Int×List Int)) (c2:Int)
inductive Y86 where
 | c0 (p:P86c0) (a1:Int)
 | c1 (p:P86c1) (b1:Int)
 | c2 (p:P86c2) (c1:Int) (c3:List Bool)
noncomputable def cfg86:Y86→Cfg
 | .c0 p a1=>{frames:=[{fn:=165,n:=42,env:=(Env.put (Env.put (Env.put (Env.put .leaf 0 (.sl (.struct [(.int .i64),(.slice (.int .u8))]) p.a0)) 2 (.ptr 0 0)) 4 (.esl true)) 5 (.int .i64 false a1)),todo:=[.inLoop (Code.way (bodyOf Tryz.f165) [1,1,0,1,0,0]),.inBlock 0,.code (Code.way (bodyOf Tryz.f165) [1,1,1])],marks:=[],rnd:=none}],mem:=[.flat false [.int .i64 false p.a2,.esl true],.dead]}
 | .c1 p b1=>{frames:=[{fn:=165,n:=42,env:=(Env.put (Env.put (Env.put (Env.put .leaf 0 (.sl (.struct [(.int .i64),(.slice (.int .u8))]) p.b0)) 2 (.ptr 0 0)) 4 (.esl true)) 6 (.int .i64 false b1)),todo:=[.inLoop (Code.way (bodyOf Tryz.f165) [1,1,1,0,1,0,0]),.inBlock 2,.code (Code.way (bodyOf Tryz.f165) [1,1,1,1])],marks:=[],rnd:=none}],mem:=[.flat false [.int .i64 false p.b2,.esl true],.dead]}
 | .c2 p c1 c3=>{frames:=[{fn:=165,n:=42,env:=(Env.put (Env.put (Env.put (Env.put .leaf 0 (.sl (.struct [(.int .i64),(.slice (.int .u8))]) p.c0)) 2 (.ptr 0 0)) 4 (.own 1)) 6 (.int .i64 false c1)),todo:=[.inLoop (Code.way (bodyOf Tryz.f165) [1,1,1,0,1,0,0]),.inBlock 2,.code (Code.way (bodyOf Tryz.f165) [1,1,1,1])],marks:=[],rnd:=none}],mem:=[.flat false [.int .i64 false p.c2,.esl true],.arr false .bool c3,.dead]}
def t86 (A:Alg) (l:List (Int×List Int)):LT ((Int×List Int)×Int) Y86:=
 .more (.c0 ⟨l,0⟩ 0)
def s86 (A:Alg):Y86→LT ((Int×List Int)×Int) Y86
 | .c0 p a1=>
  .br (A.cmp .lss a1 (A.len p.a0))
  (.need (A.and (A.cmp .leq 0 a1) (A.cmp .lss a1 (A.len p.a0))) (
   .need (A.call (@tt ((Int×List Int))) (A.nth (.struct [(.int .i64),(.slice (.int .u8))]) p.a0 a1:Int×List Int)) (
   .br (A.cmp .neq (A.call fn97 (A.nth (.struct [(.int .i64),(.slice (.int .u8))]) p.a0 a1:Int×List Int)) 0)
    (.ret ((0,([]:List Int)),10))
    (.more (.c0 p (A.bin .add .i64 a1 1))))))
  (.more (.c1 ⟨p.a0,p.a2⟩ 0))
 | .c1 p b1=>
  .br (A.cmp .lss b1 (A.len p.b0))
  (.need (A.and (A.cmp .leq 0 b1) (A.cmp .lss b1 (A.len p.b0))) (
   .need (A.call (@tt ((Int×List Int))) (A.nth (.struct [(.int .i64),(.slice (.int .u8))]) p.b0 b1:Int×List Int)) (
   .br (A.cmp .eql (A.len (A.call fn127 (A.nth (.struct [(.int .i64),(.slice (.int .u8))]) p.b0 b1:Int×List Int))) 0)
    (.more (.c1 p (A.bin .add .i64 b1 1)))
    (.need (A.cmp .leq (A.len (A.call fn127 (A.nth (.struct [(.int .i64),(.slice (.int .u8))]) p.b0 b1:Int×List Int))) 70368744177664) (
    .more (.c2 ⟨p.b0,p.b2⟩ (A.bin .add .i64 b1 1) (A.call fn127 (A.nth (.struct [(.int .i64),(.slice (.int .u8))]) p.b0 b1:Int×List Int))))))))
  (.need (A.call (@tt (List Bool)) ([]:List Bool)) (
   .ret (A.call fn128 ([]:List Bool))))
 | .c2 p c1 c3=>
  .br (A.cmp .lss c1 (A.len p.c0))
  (.br (A.cmp .leq (A.len c3) 4096)
   (.need (A.and (A.cmp .leq 0 c1) (A.cmp .lss c1 (A.len p.c0))) (
   .need (A.call (@tt ((Int×List Int))) (A.nth (.struct [(.int .i64),(.slice (.int .u8))]) p.c0 c1:Int×List Int)) (
    .need (A.cmp .leq (A.len (A.app c3 (A.call fn127 (A.nth (.struct [(.int .i64),(.slice (.int .u8))]) p.c0 c1:Int×List Int)))) 70368744177664) (
    .more (.c2 p (A.bin .add .i64 c1 1) (A.app c3 (A.call fn127 (A.nth (.struct [(.int .i64),(.slice (.int .u8))]) p.c0 c1:Int×List Int))))))))
   (.need (A.call (@tt (List Bool)) c3) (
   .ret (A.call fn128 c3))))
  (.need (A.call (@tt (List Bool)) c3) (
   .ret (A.call fn128 c3)))
noncomputable def E86 (A:Alg):Info (Ty.Ts [(.struct [(.int .i64),(.slice (.int .u8))]),(.int .i64)]):={ti:=tys,fns:=[(165,Tryz.f165)],sps:=[(85,sp97),(231,sp127),(232,sp128)],stops:=[⟨165,3, [[0,2,4,5]]⟩,⟨165,8, [[0,2,4,6]]⟩],cuts:=[],consts:=[],fin:=finD A [(.struct [(.int .i64),(.slice (.int .u8))]),(.int .i64)]}
theorem t86_ok (A:Alg) (l:List (Int×List Int)):run A (E86 A) 22 (startC 165 Tryz.f165 (dvals A [(.slice (.struct [(.int .i64),(.slice (.int .u8))]))] l))=(t86 A l).tr cfg86:=by kernel_rfl
theorem s86_ok (A:Alg):∀y,∃n,run A (E86 A) n (advance (E86 A).sps (cfg86 y))=(s86 A y).tr cfg86
 | .c0 p a1=>⟨35,by kernel_rfl⟩
 | .c1 p b1=>⟨39,by kernel_rfl⟩
 | .c2 p c1 c3=>⟨39,by kernel_rfl⟩
def w86:Walk Tryz.prog 165 [(.slice (.struct [(.int .i64),(.slice (.int .u8))]))] [(.struct [(.int .i64),(.slice (.int .u8))]),(.int .i64)] Y86:=⟨fun l=>t86 std l,s86 std⟩
theorem w86_ok:w86.Ok:=
 walk_ok (E:=E86 std) ⟨tys_fit,fns_cons Tryz.func165 (by kernel_rfl) (fns_nil),sps_cons so97 (sps_cons so127 (sps_cons so128 (sps_nil))),by kernel_rfl⟩ rfl rfl rfl (by kernel_rfl) w86 cfg86 22 (fun l=>t86_ok std l) (s86_ok std)
theorem join_d2 {l:List (Int×List Int)} (hl:l.length≤140737488355328) (hok:∀x∈l,bsOk x=true):∀(j i:Nat) (p:P86c2) (c:List Bool),p.c0=l→l.length - i=j→i≤l.length→c.length≤8192→Runs (s86 std) (.more (.c2 p (i:Int) c)) (ofS (c ++ (l.drop i).flatMap bsL)):=by
 intro j
 induction j with
 | zero=>
  intro i p c h1 hj hi hc
  have:i=l.length:=by omega
  subst this
  simp only [runs_more,s86]
  refine (runs_brF (by rw [show std.len p.c0=(l.length:Int) from by rw [h1]; rfl,lss_nat]; simp)).2 (runs_need.2 ⟨rfl,?_⟩)
  rw [List.drop_length,List.flatMap_nil,List.append_nil]
  exact .ret _
 | succ j ih=>
  intro i p c h1 hj hi hc
  simp only [runs_more,s86]
  refine (runs_brT (by rw [show std.len p.c0=(l.length:Int) from by rw [h1]; rfl,lss_nat]; simp; omega)).2 ?_
  by_cases h2:c.length≤4096
  ·have hi':i < l.length:=by omega
   have hx:=bsL_le (hok _ (List.getElem_mem hi'))
   have hn:(std.call fn127 (std.nth (.struct [(.int .i64),(.slice (.int .u8))]) p.c0 (i:Int):Int×List Int))=bsL l[i]:=by
    rw [h1,nth_bits hi',std_call,fn127,hok _ (List.getElem_mem hi')]; rfl
   refine (runs_brT (show std.cmp .leq ((c.length:Nat):Int) 4096=true from by rw [std_cmp_leq]; simp; omega)).2 (runs_need.2 ⟨by rw [h1]; exact need_ix hi',runs_need.2 ⟨rfl,runs_need.2 ⟨?_,?_⟩⟩⟩)
   ·rw [hn]
    show decide (((c ++ bsL l[i]).length:Int)≤70368744177664)=true
    rw [List.length_append]; simp; omega
   ·have:=ih (i + 1) p (c ++ bsL l[i]) h1 (by omega) (by omega) (by rw [List.length_append]; omega)
    rw [List.append_assoc,show bsL l[i] ++ (l.drop (i + 1)).flatMap bsL=(l.drop i).flatMap bsL from by rw [List.drop_eq_getElem_cons hi',List.flatMap_cons]] at this
    rw [hn]
    exact runs_c (congrArg LT.more (congr (congrArg (Y86.c2 p) (inc1 (by omega))) rfl)) this
  ·refine (runs_brF (show std.cmp .leq ((c.length:Nat):Int) 4096=false from by rw [std_cmp_leq]; simp; omega)).2 (runs_need.2 ⟨rfl,?_⟩)
   rw [ofS_long (l:=c ++ _) (by rw [List.length_append]; omega)]
   have:std.call fn128 c=(zB,3):=by rw [std_call,fn128,ofS_long (by omega)]
   rw [this]
   exact .ret _
theorem join_d1 {l:List (Int×List Int)} (hl:l.length≤140737488355328) (hok:∀x∈l,bsOk x=true):∀(j i:Nat) (p:P86c1),p.b0=l→l.length - i=j→i≤l.length→Runs (s86 std) (.more (.c1 p (i:Int))) (ofS ((l.drop i).flatMap bsL)):=by
 intro j
 induction j with
 | zero=>
  intro i p h1 hj hi
  have:i=l.length:=by omega
  subst this
  simp only [runs_more,s86]
  refine (runs_brF (by rw [show std.len p.b0=(l.length:Int) from by rw [h1]; rfl,lss_nat]; simp)).2 (runs_need.2 ⟨rfl,?_⟩)
  rw [List.drop_length,List.flatMap_nil]
  exact .ret _
 | succ j ih=>
  intro i p h1 hj hi
  simp only [runs_more,s86]
  have hi':i < l.length:=by omega
  have hx:=bsL_le (hok _ (List.getElem_mem hi'))
  have hn:(std.call fn127 (std.nth (.struct [(.int .i64),(.slice (.int .u8))]) p.b0 (i:Int):Int×List Int))=bsL l[i]:=by
   rw [h1,nth_bits hi',std_call,fn127,hok _ (List.getElem_mem hi')]; rfl
  have hf:(l.drop i).flatMap bsL=bsL l[i] ++ (l.drop (i + 1)).flatMap bsL:=by rw [List.drop_eq_getElem_cons hi',List.flatMap_cons]
  refine (runs_brT (by rw [show std.len p.b0=(l.length:Int) from by rw [h1]; rfl,lss_nat]; simp; omega)).2 (runs_need.2 ⟨by rw [h1]; exact need_ix hi',runs_need.2 ⟨rfl,?_⟩⟩)
  rw [hn,hf]
  by_cases h0:(bsL l[i]).length=0
  ·refine (runs_brT (ceq_t (show ((bsL l[i]).length:Int)=0 from by omega))).2 ?_
   rw [List.length_eq_zero_iff.1 h0,List.nil_append]
   exact runs_c (congrArg LT.more (congrArg (Y86.c1 p) (inc1 (by omega)))) (ih (i + 1) p h1 (by omega) (by omega))
  ·refine (runs_brF (ceq_f (show ((bsL l[i]).length:Int)≠0 from by omega))).2 (runs_need.2 ⟨?_,?_⟩)
   ·show decide (((bsL l[i]).length:Int)≤70368744177664)=true
    simp; omega
   ·exact runs_c (congrArg LT.more (congr (congrArg (Y86.c2 _) (inc1 (by omega))) rfl)) (join_d2 hl hok (l.length - (i + 1)) (i + 1) ⟨p.b0,p.b2⟩ _ h1 rfl (by omega) (by omega))
theorem join_d0 {l:List (Int×List Int)} (hl:l.length≤140737488355328):∀(j i:Nat) (p:P86c0),p.a0=l→l.length - i=j→i≤l.length→(∀x∈l.take i,bsOk x=true)→Runs (s86 std) (.more (.c0 p (i:Int))) (joinS l):=by
 intro j
 induction j with
 | zero=>
  intro i p h1 hj hi hok
  have:i=l.length:=by omega
  subst this
  rw [List.take_length] at hok
  simp only [runs_more,s86]
  refine (runs_brF (by rw [show std.len p.a0=(l.length:Int) from by rw [h1]; rfl,lss_nat]; simp)).2 ?_
  rw [joinS,List.all_eq_true.2 hok]
  exact join_d1 hl hok l.length 0 _ h1 rfl (by omega)
 | succ j ih=>
  intro i p h1 hj hi hok
  simp only [runs_more,s86]
  have hi':i < l.length:=by omega
  refine (runs_brT (by rw [show std.len p.a0=(l.length:Int) from by rw [h1]; rfl,lss_nat]; simp; omega)).2 (runs_need.2 ⟨by rw [h1]; exact need_ix hi',runs_need.2 ⟨rfl,?_⟩⟩)
  have hn:(std.call fn97 (std.nth (.struct [(.int .i64),(.slice (.int .u8))]) p.a0 (i:Int):Int×List Int))=bif bsOk l[i] then 0 else 10:=by
   rw [h1,nth_bits hi',std_call,fn97]
  rw [hn]
  cases hx:bsOk l[i]
  ·refine (runs_brT rfl).2 ?_
   rw [joinS,show l.all bsOk=false from List.all_eq_false.2 ⟨l[i],List.getElem_mem hi',by rw [hx]; decide⟩]
   exact .ret _
  ·refine (runs_brF rfl).2 ?_
   refine runs_c (congrArg LT.more (congrArg (Y86.c0 p) (inc1 (by omega)))) (ih (i + 1) p h1 (by omega) (by omega) ?_)
   intro x hx2
   rw [List.take_succ_eq_append_getElem hi'] at hx2
   rcases List.mem_append.1 hx2 with h3 | h3
   ·exact hok x h3
   ·rw [List.mem_singleton.1 h3]; exact hx
def fn86:(List (Int×List Int))→((Int×List Int)×Int):=joinS
def sp86:FSpec:=⟨[(.slice (.struct [(.int .i64),(.slice (.int .u8))]))], [(.struct [(.int .i64),(.slice (.int .u8))]),(.int .i64)],(@tt (List (Int×List Int))),fn86⟩
theorem run86 {l:List (Int×List Int)} (h:Ty.hass [(.slice (.struct [(.int .i64),(.slice (.int .u8))]))] l):Runs (s86 std) (t86 std l) (fn86 l):=by
 exact join_d0 (has_list h).1 l.length 0 _ rfl rfl (by omega) (by intro x hx; cases hx)
theorem so86:FSpec.Sound Tryz.prog 165 sp86:=
 w86_ok.sound _ _ fun l _ h=>run86 h
def t84 (A:Alg) (bN:Int) (bB:List Int) (unsentN:Int) (unsentB:List Int):LT ((Int×List Int)×Int) Empty:=
 .need (A.call (@tt (List (Int×List Int))) [(unsentN,unsentB),(bN,bB)]) (
 .br (A.cmp .neq (A.call fn126 [(unsentN,unsentB),(bN,bB)]).2 0)
 (.ret ((0,([]:List Int)),(A.call fn126 [(unsentN,unsentB),(bN,bB)]).2))
 (.need (A.call (@tt ((Int×List Int)×Int×Int)) ((bN,bB),(A.conv .u64 (A.call fn126 [(unsentN,unsentB),(bN,bB)]).1),24)) (
  .ret (A.call fn125 ((bN,bB),(A.conv .u64 (A.call fn126 [(unsentN,unsentB),(bN,bB)]).1),24)))))
noncomputable def E84 (A:Alg):Info (Ty.Ts [(.struct [(.int .i64),(.slice (.int .u8))]),(.int .i64)]):={ti:=tys,fns:=[(163,Tryz.f163)],sps:=[(229,sp125),(230,sp126)],stops:=[],cuts:=[],consts:=[],fin:=finD A [(.struct [(.int .i64),(.slice (.int .u8))]),(.int .i64)]}
theorem t84_ok (A:Alg) (bN:Int) (bB:List Int) (unsentN:Int) (unsentB:List Int):run A (E84 A) 44 (startC 163 Tryz.f163 (dvals A [(.struct [(.int .i64),(.slice (.int .u8))]),(.struct [(.int .i64),(.slice (.int .u8))])] ((bN,bB),unsentN,unsentB)))=(t84 A bN bB unsentN unsentB).tr Empty.elim:=by kernel_rfl
def w84:Walk Tryz.prog 163 [(.struct [(.int .i64),(.slice (.int .u8))]),(.struct [(.int .i64),(.slice (.int .u8))])] [(.struct [(.int .i64),(.slice (.int .u8))]),(.int .i64)] Empty:=⟨fun ((bN,bB),unsentN,unsentB)=>t84 std bN bB unsentN unsentB,Empty.elim⟩
theorem w84_ok:w84.Ok:=
 walk_ok (E:=E84 std) ⟨tys_fit,fns_cons Tryz.func163 (by kernel_rfl) (fns_nil),sps_cons so125 (sps_cons so126 (sps_nil)),by kernel_rfl⟩ rfl rfl rfl (by kernel_rfl) w84 Empty.elim 44 (fun ((bN,bB),unsentN,unsentB)=>t84_ok std bN bB unsentN unsentB) (fun y=>y.elim)
theorem seal84 {n m:Int} {b u:List Int} (h:Ty.hass [(.struct [(.int .i64),(.slice (.int .u8))]),(.struct [(.int .i64),(.slice (.int .u8))])] ((n,b),(m,u))):Runs Empty.elim (t84 std n b m u) (sealS ((n,b),(m,u))):=by
 unfold t84
 have hs:std.call fn126 [(m,u),(n,b)]=bif bsOk (m,u) && bsOk (n,b) then (((over (over 0 (bsL (m,u))) (bsL (n,b)):Nat):Int),0) else (0,10):=by
  rw [std_call,fn126,sumS]
  show (bif (bsOk (m,u) && (bsOk (n,b) && true)) then (((over 0 (bsL (m,u) ++ (bsL (n,b) ++ [])):Nat):Int),(0:Int)) else (0,10))=_
  rw [Bool.and_true,List.append_nil,over_append]
 refine runs_need.2 ⟨rfl,?_⟩
 have hlt:=over_lt (over_lt (r:=0) (by decide) (bsL (m,u))) (bsL (n,b))
 rw [sealS]
 cases hok:bsOk (m,u) && bsOk (n,b)
 ·rw [hok,cond_false] at hs
  refine (runs_brT (show ((std.call fn126 [(m,u),(n,b)]).2 != 0)=true by rw [hs]; rfl)).2 ?_
  exact runs_c (congrArg LT.ret (show ((0,([]:List Int)),(std.call fn126 [(m,u),(n,b)]).2)=(zB,10) by rw [hs]; rfl)) (.ret _)
 ·rw [hok,cond_true] at hs
  refine (runs_brF (show ((std.call fn126 [(m,u),(n,b)]).2 != 0)=false by rw [hs]; rfl)).2 (runs_need.2 ⟨rfl,?_⟩)
  refine runs_c (congrArg LT.ret (show std.call fn125 ((n,b),std.conv .u64 (std.call fn126 [(m,u),(n,b)]).1,24)=ofS (sealL (over 0 (bsL (m,u))) (bsL (n,b))) from ?_)) (.ret _)
  rw [Bool.and_eq_true] at hok
  rw [hs,conv_nat (by omega),std_call,fn125,putS,hok.2,pow_leB (by omega),Int.toNat_natCast,Nat.div_eq_of_lt (by simp only [show (24:Int).toNat=24 from rfl]; omega)]
  rfl
def fn84:((Int×List Int)×(Int×List Int))→((Int×List Int)×Int):=sealS
def sp84:FSpec:=⟨[(.struct [(.int .i64),(.slice (.int .u8))]),(.struct [(.int .i64),(.slice (.int .u8))])], [(.struct [(.int .i64),(.slice (.int .u8))]),(.int .i64)],(@tt ((Int×List Int)×(Int×List Int))),fn84⟩
theorem run84 {bN:Int} {bB:List Int} {unsentN:Int} {unsentB:List Int} (h:Ty.hass [(.struct [(.int .i64),(.slice (.int .u8))]),(.struct [(.int .i64),(.slice (.int .u8))])] ((bN,bB),unsentN,unsentB)):Runs Empty.elim (t84 std bN bB unsentN unsentB) (fn84 ((bN,bB),unsentN,unsentB)):=by
 exact seal84 h
theorem so84:FSpec.Sound Tryz.prog 163 sp84:=
 w84_ok.sound _ _ fun ((bN,bB),unsentN,unsentB) _ h=>run84 h
end Go.Ev.M
