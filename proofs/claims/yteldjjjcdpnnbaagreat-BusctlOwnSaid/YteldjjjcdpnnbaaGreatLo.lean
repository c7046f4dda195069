/-
  PROVED: BusctlOwn, in plain Lean. Conditions: none.
-/
import Derived.Test.YteldjjjcdpnnbaaGreatCe
namespace Go.Ev.M
open Go.Proofs
set_option maxRecDepth 100000
set_option linter.unusedVariables false
set_option linter.unusedSimpArgs false
open Go.Ev.Pl
def FH(A:aZ)(m:ao)(n:Node):LT Bool Empty:=.need (A.k (@tt Unit) ()) (.br (A.not (A.k vy ())) (.need (A.k (@tt Unit) ()) (.ret (A.k vy ()))) (.need (A.k (@tt Node) n) (.br (A.not (A.k Ay n)) (.need (A.k (@tt Unit) ()) (.ret (A.k vy ()))) (.need (A.k (@tt (ao×Node)) (m,n)) (.need (A.k (@tt (ao×Node)) (m,n)) (.need (A.k s6 ((A.k o8 (m,n)).1,(A.k oh (m,n)).1)) (.br (A.not (A.k vD ((A.k o8 (m,n)).1,(A.k oh (m,n)).1))) (.ret false) (.need (A.k wG ((A.k o8 (m,n)).2.1,(A.k oh (m,n)).2.1)) (.br (A.not (A.k yN ((A.k o8 (m,n)).2.1,(A.k oh (m,n)).2.1))) (.ret false) (.br (A.not (A.q (A.k o8 (m,n)).2.2.1 (A.k oh (m,n)).2.2.1)) (.ret false) (.br (A.c .neq (A.k o8 (m,n)).2.2.2 (A.k oh (m,n)).2.2.2) (.ret false) (.need (A.k (@tt (ao×Node)) (m,n)) (.need (A.k (@tt (ao×Node)) (m,n)) (.need (A.k s6 ((A.k vG (m,n)).1,(A.k vQ (m,n)).1)) (.br (A.not (A.k vD ((A.k vG (m,n)).1,(A.k vQ (m,n)).1))) (.ret false) (.br (A.c .neq (A.k vG (m,n)).2 (A.k vQ (m,n)).2) (.ret false) (.need (A.k (@tt (ao×Node)) (m,n)) (.need (A.k (@tt (ao×Node)) (m,n)) (.need (A.k s6 ((A.k n_ (m,n)).1,(A.k oy (m,n)).1)) (.br (A.k vD ((A.k n_ (m,n)).1,(A.k oy (m,n)).1)) (.need (A.k wG ((A.k n_ (m,n)).2.1,(A.k oy (m,n)).2.1)) (.br (A.k yN ((A.k n_ (m,n)).2.1,(A.k oy (m,n)).2.1)) (.br (A.q (A.k n_ (m,n)).2.2.1 (A.k oy (m,n)).2.2.1) (.ret (A.c .eql (A.k n_ (m,n)).2.2.2 (A.k oy (m,n)).2.2.2)) (.ret false)) (.ret false))) (.ret false)))))))))))))))))))))
def Gi:(ao×Node)→Bool:=fun(m,n)=>(FH ai m n).val (Ty.cn [.bool])
def Od:aA:=⟨[bC,cN], [.bool],(@tt (ao×Node)),Gi⟩
theorem SV:Sd 6 Od:=aL ax cm true 174 [] (fun A (m,n)=>FH A m n) (fc Tryz.func6 fz) (sc UN (sc R1 (sc Ra (sc Sx (sc Ob (sc Om (sc Rv (sc VD (sc SE (sc PX sz)))))))))) (fun((m,n):ao×Node) hp h=>by
 show(FH ai m n).pre=true
 simp only[FH,LT.pre,ap,dc,Bool.true_and,show vy ()=true from rfl,cu,Bool.not_true,cond_false,show oh (m,n)=o8 (m,n) from rfl,show vQ (m,n)=vG (m,n) from rfl,show oy (m,n)=n_ (m,n) from rfl,show ∀y,vD y=true from fun _=>rfl,show ∀y,yN y=true from fun _=>rfl,s6,wG,decide_true,pZ,vR,yh,cond_true]
 cases Ay n<;>rfl)
theorem NJ(x:ao×Node)(h:Ty.du [bC,cN] x):Gi x=true:=by
 obtain⟨m,n⟩:=x
 simp only[Gi,FH,LT.val,ap,show vy ()=true from rfl,cu,Bool.not_true,cond_false,show oh (m,n)=o8 (m,n) from rfl,show vQ (m,n)=vG (m,n) from rfl,show oy (m,n)=n_ (m,n) from rfl,show ∀y,vD y=true from fun _=>rfl,show ∀y,yN y=true from fun _=>rfl,pZ,vR,yh,cond_true]
 cases Ay n<;>rfl
end Go.Ev.M
