/-
  PROVED: StarctlOther, in plain Lean. Conditions: none.
-/
import Derived.Test.YteldjjjcdpnnbaaGreatCg
namespace Go.Ev.M
open Go.Proofs
set_option maxRecDepth 100000
set_option linter.unusedVariables false
set_option linter.unusedSimpArgs false
open Go.Ev.Pl
def K7(A:a_)(m:ao)(n:Node)(seen:List Seen):LT Bool Empty:=.need (A.k (@tt Unit) ()) (.br (A.not (A.k ic ())) (.need (A.k (@tt Unit) ()) (.ret (A.k ic ()))) (.need (A.k (@tt Node) n) (.br (A.not (A.k lf n)) (.need (A.k (@tt Unit) ()) (.ret (A.k ic ()))) (.need (A.k (@tt (List Seen)) seen) (.need (A.k (@tt (ao×Node×List Seen)) (m,n,(A.k ck seen))) (.need (A.k (@tt (ao×Node×List Seen)) (m,n,(A.k ck seen))) (.need (A.k gH ((A.k lz (m,n,(A.k ck seen))).1,(A.k vB (m,n,(A.k ck seen))).1)) (.br (A.k im ((A.k lz (m,n,(A.k ck seen))).1,(A.k vB (m,n,(A.k ck seen))).1)) (.need (A.k (@tt ((Int×Int×Int×(Int×Int×(Int×Int×Int×Int×Int)×Int×List Int)×Int)×(Int×Int×Int×(Int×Int×(Int×Int×Int×Int×Int)×Int×List Int)×Int))) ((A.k lz (m,n,(A.k ck seen))).2.1,(A.k vB (m,n,(A.k ck seen))).2.1)) (.br (A.k Ox ((A.k lz (m,n,(A.k ck seen))).2.1,(A.k vB (m,n,(A.k ck seen))).2.1)) (.ret (A.c .eql (A.k lz (m,n,(A.k ck seen))).2.2 (A.k vB (m,n,(A.k ck seen))).2.2)) (.ret false))) (.ret false)))))))))
def J9:(ao×Node×List Seen)→Bool:=fun(m,n,seen)=>(K7 aj m n seen).val (Ty.bE [.bool])
def aeB:aB:=⟨[aY,aW,(.slice fA)], [.bool],(@tt (ao×Node×List Seen)),J9⟩
theorem adb:Sd 8 aeB:=aJ ax bK true 80 [] (fun A (m,n,seen)=>K7 A m n seen) (fc Tryz.func8 fz) (sc YD (sc Im (sc GV (sc G6 (sc Rx (sc adf (sc Sr sz))))))) (fun((m,n,seen):ao×Node×List Seen) hp h=>by
 show(K7 aj m n seen).pre=true
 simp only[K7,LT.pre,al,bH,Bool.true_and,show ic ()=true from rfl,aT,Bool.not_true,cond_false,show ∀s,vB (m,n,s)=lz (m,n,s) from fun _=>rfl,show ∀y,im y=true from fun _=>rfl,gH,decide_true,ek,iC,gh,cond_true,G9]
 cases lf n<;>rfl)
theorem Xw(x:ao×Node×List Seen)(h:Ty.cB [aY,aW,.slice fA] x):J9 x=true:=by
 obtain⟨m,n,seen⟩:=x
 simp only[J9,K7,LT.val,al,show ic ()=true from rfl,aT,Bool.not_true,cond_false,show ∀s,vB (m,n,s)=lz (m,n,s) from fun _=>rfl,show ∀y,im y=true from fun _=>rfl,ek,iC,gh,cond_true,G9]
 cases lf n<;>rfl
end Go.Ev.M
