/-
  PROVED: StarctlOwn, in plain Lean. Conditions: none.
-/
import Derived.Test.YteldjjjcdpnnbaaGreatCg
namespace Go.Ev.M
open Go.Proofs
set_option maxRecDepth 100000
set_option linter.unusedVariables false
set_option linter.unusedSimpArgs false
open Go.Ev.Pl
def Ke(A:a_)(m:ao)(n:Node):LT Bool Empty:=.need (A.k (@tt Unit) ()) (.br (A.not (A.k ic ())) (.need (A.k (@tt Unit) ()) (.ret (A.k ic ()))) (.need (A.k (@tt Node) n) (.br (A.not (A.k lf n)) (.need (A.k (@tt Unit) ()) (.ret (A.k ic ()))) (.need (A.k (@tt (ao×Node)) (m,n)) (.need (A.k (@tt (ao×Node)) (m,n)) (.need (A.k gH ((A.k jU (m,n)).1,(A.k s7 (m,n)).1)) (.br (A.not (A.k im ((A.k jU (m,n)).1,(A.k s7 (m,n)).1))) (.ret false) (.need (A.k uq ((A.k jU (m,n)).2.1,(A.k s7 (m,n)).2.1)) (.br (A.not (A.k vf ((A.k jU (m,n)).2.1,(A.k s7 (m,n)).2.1))) (.ret false) (.br (A.not (A.q (A.k jU (m,n)).2.2.1 (A.k s7 (m,n)).2.2.1)) (.ret false) (.br (A.c .neq (A.k jU (m,n)).2.2.2 (A.k s7 (m,n)).2.2.2) (.ret false) (.need (A.k (@tt (ao×Node)) (m,n)) (.need (A.k (@tt (ao×Node)) (m,n)) (.need (A.k gH ((A.k BB (m,n)).1,(A.k Bg (m,n)).1)) (.br (A.not (A.k im ((A.k BB (m,n)).1,(A.k Bg (m,n)).1))) (.ret false) (.br (A.c .neq (A.k BB (m,n)).2 (A.k Bg (m,n)).2) (.ret false) (.need (A.k (@tt (ao×Node)) (m,n)) (.need (A.k (@tt (ao×Node)) (m,n)) (.need (A.k gH ((A.k re (m,n)).1,(A.k rq (m,n)).1)) (.br (A.k im ((A.k re (m,n)).1,(A.k rq (m,n)).1)) (.need (A.k uq ((A.k re (m,n)).2.1,(A.k rq (m,n)).2.1)) (.br (A.k vf ((A.k re (m,n)).2.1,(A.k rq (m,n)).2.1)) (.br (A.q (A.k re (m,n)).2.2.1 (A.k rq (m,n)).2.2.1) (.ret (A.c .eql (A.k re (m,n)).2.2.2 (A.k rq (m,n)).2.2.2)) (.ret false)) (.ret false))) (.ret false)))))))))))))))))))))
def LD:(ao×Node)→Bool:=fun(m,n)=>(Ke aj m n).val (Ty.bE [.bool])
def ZR:aB:=⟨[aY,aW], [.bool],(@tt (ao×Node)),LD⟩
theorem aa8:Sd 7 ZR:=aJ ax bK true 174 [] (fun A (m,n)=>Ke A m n) (fc Tryz.func7 fz) (sc Im (sc GV (sc G6 (sc Zh (sc RU (sc afc (sc aaK (sc Sn (sc ZE (sc aaV sz)))))))))) (fun((m,n):ao×Node) hp h=>by
 show(Ke aj m n).pre=true
 simp only[Ke,LT.pre,al,bH,Bool.true_and,show ic ()=true from rfl,aT,Bool.not_true,cond_false,show s7 (m,n)=jU (m,n) from rfl,show Bg (m,n)=BB (m,n) from rfl,show rq (m,n)=re (m,n) from rfl,show ∀y,vf y=true from fun _=>rfl,show ∀y,im y=true from fun _=>rfl,gH,decide_true,ek,iC,gh,cond_true,uq]
 cases lf n<;>rfl)
theorem Vk(x:ao×Node)(h:Ty.cB [aY,aW] x):LD x=true:=by
 obtain⟨m,n⟩:=x
 simp only[LD,Ke,LT.val,al,show ic ()=true from rfl,aT,Bool.not_true,cond_false,show s7 (m,n)=jU (m,n) from rfl,show Bg (m,n)=BB (m,n) from rfl,show rq (m,n)=re (m,n) from rfl,show ∀y,vf y=true from fun _=>rfl,show ∀y,im y=true from fun _=>rfl,ek,iC,gh,cond_true]
 cases lf n<;>rfl
end Go.Ev.M
