/-
  PROVED: BusctlHear, in plain Lean. Conditions: none.
-/
import Derived.Test.YtafbddhnoacldaaGreatCc
namespace Go.Ev.M
open Go.Proofs
set_option maxRecDepth 100000
set_option linter.unusedVariables false
set_option linter.unusedSimpArgs false
open Go.Ev.Pl
def t301 (A:Alg) (m:Medl) (n:Node) (seen:List Seen):LT Bool Empty:=
 .need (A.call (@tt Unit) ()) (
 .br (A.not (A.call fn320 ()))
 (.need (A.call (@tt Unit) ()) (
  .ret (A.call fn320 ())))
 (.need (A.call (@tt Node) n) (
  .br (A.not (A.call fn321 n))
  (.need (A.call (@tt Unit) ()) (
   .ret (A.call fn320 ())))
  (.need (A.call (@tt (List Seen)) seen) (
   .need (A.call (@tt (Medl×Node×List Seen)) (m,n,(A.call fn322 seen))) (
   .need (A.call (@tt (Medl×Node×List Seen×Bool)) (m,n,(A.call fn322 seen),true)) (
    .need (A.call pre325 ((A.call fn323 (m,n,(A.call fn322 seen))).1,(A.call fn324 (m,n,(A.call fn322 seen),true)).1)) (
    .br (A.call fn325 ((A.call fn323 (m,n,(A.call fn322 seen))).1,(A.call fn324 (m,n,(A.call fn322 seen),true)).1))
     (.br (A.cmp .eql (A.call fn323 (m,n,(A.call fn322 seen))).2.1 (A.call fn324 (m,n,(A.call fn322 seen),true)).2.1)
     (.br (A.beq (A.call fn323 (m,n,(A.call fn322 seen))).2.2.1 (A.call fn324 (m,n,(A.call fn322 seen),true)).2.2.1)
      (.ret (A.cmp .eql (A.call fn323 (m,n,(A.call fn322 seen))).2.2.2 (A.call fn324 (m,n,(A.call fn322 seen),true)).2.2.2))
      (.ret false))
     (.ret false))
     (.ret false)))))))))
noncomputable def E301 (A:Alg):Info (Ty.Ts [.bool]):={ti:=tys,fns:=[(4,Tryz.f4)],sps:=[(28,sp320),(29,sp321),(30,sp322),(31,sp323),(32,sp324),(33,sp325)],stops:=[],cuts:=[],consts:=[],fin:=finD A [.bool]}
theorem t301_ok (A:Alg) (m:Medl) (n:Node) (seen:List Seen):run A (E301 A) 87 (startC 4 Tryz.f4 (dvals A [yMedl,yNode,(.slice ySeen)] (m,n,seen)))=(t301 A m n seen).tr Empty.elim:=by kernel_rfl
def w301:Walk Tryz.prog 4 [yMedl,yNode,(.slice ySeen)] [.bool] Empty:=⟨fun (m,n,seen)=>t301 std m n seen,Empty.elim⟩
theorem w301_ok:w301.Ok:=
 walk_ok (E:=E301 std) ⟨tys_fit,fns_cons Tryz.func4 (by kernel_rfl) (fns_nil),sps_cons so320 (sps_cons so321 (sps_cons so322 (sps_cons so323 (sps_cons so324 (sps_cons so325 (sps_nil)))))),by kernel_rfl⟩ rfl rfl rfl (by kernel_rfl) w301 Empty.elim 87 (fun (m,n,seen)=>t301_ok std m n seen) (fun y=>y.elim)
def fn301:(Medl×Node×List Seen)→Bool:=fun (m,n,seen)=>(t301 std m n seen).val (Ty.dflts [.bool])
def sp301:FSpec:=⟨[yMedl,yNode,(.slice ySeen)], [.bool],(@tt (Medl×Node×List Seen)),fn301⟩
theorem eqs301 (m:Medl) (n:Node) (seen:List Seen):(t301 std m n seen).Eqs:=by simp only [t301,LT.Eqs,eqV,eqI,eqB,eqK,and_self,true_and,and_true]
theorem pre301_ok {m:Medl} {n:Node} {seen:List Seen} (h:Ty.hass [yMedl,yNode,(.slice ySeen)] (m,n,seen)):(t301 std m n seen).pre=true:=by
 simp [t301,LT.pre,std_call,tt_eq,pre325]; exact .inr (.inr rfl)
theorem so301:FSpec.Sound Tryz.prog 4 sp301:=
 w301_ok.sound _ _ fun (m,n,seen) _ h=>LT.runs (d:=Ty.dflts [.bool]) (eqs301 m n seen) (pre301_ok h)
theorem law301 (x:Medl×Node×List Seen) (h:Ty.hass [yMedl,yNode,(.slice ySeen)] x):fn301 x=true:=by
 obtain ⟨m,n,seen⟩:=x
 have e:∀x:Int,std.cmp .eql x x=true:=fun x=>by rw [eql_dec]; simp
 have e2:∀x:Bool,std.beq x x=true:=fun x=>by rw [std_beq]; simp
 simp only [fn301,t301,LT.val,std_call,show fn320 ()=true from rfl,std_not,Bool.not_true,cond_false,show ∀y,fn323 (m,n,y)=fn324 (m,n,y,true) from fun _=>rfl,show ∀y,fn325 y=true from fun _=>rfl,e,e2,cond_true]
 cases fn321 n <;> rfl
end Go.Ev.M
