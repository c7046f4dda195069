/-
  PROVED: StarctlHear, in plain Lean. Conditions: none.
-/
import Derived.Test.YtafbddhnoacldaaGreatCd
namespace Go.Ev.M
open Go.Proofs
set_option maxRecDepth 100000
set_option linter.unusedVariables false
set_option linter.unusedSimpArgs false
open Go.Ev.Pl
def t302 (A:Alg) (m:Medl) (n:Node) (seen:List Seen):LT Bool Empty:=
 .need (A.call (@tt Unit) ()) (
 .br (A.not (A.call fn326 ()))
 (.need (A.call (@tt Unit) ()) (
  .ret (A.call fn326 ())))
 (.need (A.call (@tt Node) n) (
  .br (A.not (A.call fn327 n))
  (.need (A.call (@tt Unit) ()) (
   .ret (A.call fn326 ())))
  (.need (A.call (@tt (List Seen)) seen) (
   .need (A.call (@tt (Medl×Node×List Seen)) (m,n,(A.call fn328 seen))) (
   .need (A.call (@tt (Medl×Node×List Seen×Bool)) (m,n,(A.call fn328 seen),false)) (
    .need (A.call pre325 ((A.call fn329 (m,n,(A.call fn328 seen))).1,(A.call fn324 (m,n,(A.call fn328 seen),false)).1)) (
    .br (A.call fn325 ((A.call fn329 (m,n,(A.call fn328 seen))).1,(A.call fn324 (m,n,(A.call fn328 seen),false)).1))
     (.br (A.cmp .eql (A.call fn329 (m,n,(A.call fn328 seen))).2.1 (A.call fn324 (m,n,(A.call fn328 seen),false)).2.1)
     (.br (A.beq (A.call fn329 (m,n,(A.call fn328 seen))).2.2.1 (A.call fn324 (m,n,(A.call fn328 seen),false)).2.2.1)
      (.ret (A.cmp .eql (A.call fn329 (m,n,(A.call fn328 seen))).2.2.2 (A.call fn324 (m,n,(A.call fn328 seen),false)).2.2.2))
      (.ret false))
     (.ret false))
     (.ret false)))))))))
noncomputable def E302 (A:Alg):Info (Ty.Ts [.bool]):={ti:=tys,fns:=[(5,Tryz.f5)],sps:=[(32,sp324),(33,sp325),(34,sp326),(35,sp327),(36,sp328),(37,sp329)],stops:=[],cuts:=[],consts:=[],fin:=finD A [.bool]}
theorem t302_ok (A:Alg) (m:Medl) (n:Node) (seen:List Seen):run A (E302 A) 87 (startC 5 Tryz.f5 (dvals A [yMedl,yNode,(.slice ySeen)] (m,n,seen)))=(t302 A m n seen).tr Empty.elim:=by kernel_rfl
def w302:Walk Tryz.prog 5 [yMedl,yNode,(.slice ySeen)] [.bool] Empty:=⟨fun (m,n,seen)=>t302 std m n seen,Empty.elim⟩
theorem w302_ok:w302.Ok:=
 walk_ok (E:=E302 std) ⟨tys_fit,fns_cons Tryz.func5 (by kernel_rfl) (fns_nil),sps_cons so324 (sps_cons so325 (sps_cons so326 (sps_cons so327 (sps_cons so328 (sps_cons so329 (sps_nil)))))),by kernel_rfl⟩ rfl rfl rfl (by kernel_rfl) w302 Empty.elim 87 (fun (m,n,seen)=>t302_ok std m n seen) (fun y=>y.elim)
def fn302:(Medl×Node×List Seen)→Bool:=fun (m,n,seen)=>(t302 std m n seen).val (Ty.dflts [.bool])
def sp302:FSpec:=⟨[yMedl,yNode,(.slice ySeen)], [.bool],(@tt (Medl×Node×List Seen)),fn302⟩
theorem eqs302 (m:Medl) (n:Node) (seen:List Seen):(t302 std m n seen).Eqs:=by simp only [t302,LT.Eqs,eqV,eqI,eqB,eqK,and_self,true_and,and_true]
theorem pre302_ok {m:Medl} {n:Node} {seen:List Seen} (h:Ty.hass [yMedl,yNode,(.slice ySeen)] (m,n,seen)):(t302 std m n seen).pre=true:=by
 simp [t302,LT.pre,std_call,tt_eq,pre325]; exact .inr (.inr rfl)
theorem so302:FSpec.Sound Tryz.prog 5 sp302:=
 w302_ok.sound _ _ fun (m,n,seen) _ h=>LT.runs (d:=Ty.dflts [.bool]) (eqs302 m n seen) (pre302_ok h)
theorem law302 (x:Medl×Node×List Seen) (h:Ty.hass [yMedl,yNode,(.slice ySeen)] x):fn302 x=true:=by
 obtain ⟨m,n,seen⟩:=x
 have e:∀x:Int,std.cmp .eql x x=true:=fun x=>by rw [eql_dec]; simp
 have e2:∀x:Bool,std.beq x x=true:=fun x=>by rw [std_beq]; simp
 simp only [fn302,t302,LT.val,std_call,show fn326 ()=true from rfl,std_not,Bool.not_true,cond_false,show ∀y,fn329 (m,n,y)=fn324 (m,n,y,false) from fun _=>rfl,show ∀y,fn325 y=true from fun _=>rfl,e,e2,cond_true]
 cases fn327 n <;> rfl
end Go.Ev.M
