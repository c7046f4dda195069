/-
  PROVED: StarctlNodes, in plain Lean. Conditions: none.
-/
import Derived.Test.YteldjjjcdpnnbaaGreatCg
namespace Go.Ev.M
open Go.Proofs
set_option maxRecDepth 100000
set_option linter.unusedVariables false
set_option linter.unusedSimpArgs false
open Go.Ev.Pl
def Mv(A:a_)(m:ao)(n:Node)(id:Int)(set1:Int)(on:Bool)(o:E7):LT Bool Empty:=.need (A.k (@tt Unit) ()) (.br (A.not (A.k ic ())) (.need (A.k (@tt Unit) ()) (.ret (A.k ic ()))) (.need (A.k (@tt Node) n) (.br (A.not (A.k lf n)) (.need (A.k (@tt Unit) ()) (.ret (A.k ic ()))) (.need (A.k oR n.2.2.2.2.2.2.2) (.need (A.k (@tt (ao×Int)) (m,id)) (.need (A.k (@tt (ao×Int)) (m,id)) (.need (A.k gH ((A.k l5 (m,id)).1,(A.k xR (m,id)).1)) (.br (A.not (A.k im ((A.k l5 (m,id)).1,(A.k xR (m,id)).1))) (.ret false) (.br (A.c .neq (A.k l5 (m,id)).2 (A.k xR (m,id)).2) (.ret false) (.need (A.k (@tt (ao×Node)) (m,n)) (.need (A.k (@tt (ao×Node)) (m,n)) (.br (A.c .neq (A.k dD (m,n)) (A.k gg (m,n))) (.ret false) (.need (A.k (@tt Node) n) (.need (A.k (@tt Node) n) (.br (A.not (A.q (A.k iP n) (A.k lV n))) (.ret false) (.need (A.k (@tt (ao×Node×Int)) (m,n,set1)) (.need (A.k (@tt (ao×Node×Int)) (m,n,set1)) (.need (A.k gH ((A.k Bd (m,n,set1)).1,(A.k AN (m,n,set1)).1)) (.br (A.not (A.k im ((A.k Bd (m,n,set1)).1,(A.k AN (m,n,set1)).1))) (.ret false) (.br (A.c .neq (A.k Bd (m,n,set1)).2 (A.k AN (m,n,set1)).2) (.ret false) (.need (A.k (@tt (ao×Node×Bool)) (m,n,on)) (.need (A.k (@tt (ao×Node×Bool)) (m,n,on)) (.need (A.k gH ((A.k lY (m,n,on)).1,(A.k BR (m,n,on)).1)) (.br (A.not (A.k im ((A.k lY (m,n,on)).1,(A.k BR (m,n,on)).1))) (.ret false) (.br (A.c .neq (A.k lY (m,n,on)).2 (A.k BR (m,n,on)).2) (.ret false) (.need (A.k (@tt (ao×Node×E7)) (m,n,o)) (.need (A.k (@tt (ao×Node×E7)) (m,n,o)) (.need (A.k gH ((A.k A7 (m,n,o)).1,(A.k BP (m,n,o)).1)) (.br (A.k im ((A.k A7 (m,n,o)).1,(A.k BP (m,n,o)).1)) (.br (A.c .eql (A.k A7 (m,n,o)).2 (A.k BP (m,n,o)).2) (.need (A.k Dj (n.2.2.2.2.2.2.2,(A.k ji n.2.2.2.2.2.2.2))) (.ret (A.k GQ (n.2.2.2.2.2.2.2,(A.k ji n.2.2.2.2.2.2.2))))) (.ret false)) (.ret false))))))))))))))))))))))))))))))
def M0:(ao×Node×Int×Int×Bool×E7)→Bool:=fun(m,n,id,set1,on,o)=>(Mv aj m n id set1 on o).val (Ty.bE [.bool])
def aa1:aB:=⟨[aY,aW,yI,yI,.bool,PL], [.bool],(@tt (ao×Node×Int×Int×Bool×E7)),M0⟩
theorem adl:Sd 4 aa1:=aJ ax bK true 209 [] (fun A (m,n,id,set1,on,o)=>Mv A m n id set1 on o) (fc Tryz.func4 fz) (sc Im (sc GV (sc G6 (sc Eo (sc Sq (sc vo (sc By (sc abo (sc ae5 (sc ado (sc R8 (sc LA (sc rU (sc BE (sc ZC (sc Rw (sc aey sz))))))))))))))))) (fun((m,n,id,set1,on,o):ao×Node×Int×Int×Bool×E7) hp h=>by
 show(Mv aj m n id set1 on o).pre=true
 have e330:lf n=true→oR n.2.2.2.2.2.2.2=true:=fun g=>DW h.2.1 g
 simp only[Mv,LT.pre,al,bH,Bool.true_and,show ic ()=true from rfl,aT,Bool.not_true,cond_false,show xR (m,id)=l5 (m,id) from rfl,show gg (m,n)=dD (m,n) from rfl,show lV n=iP n from rfl,show AN (m,n,set1)=Bd (m,n,set1) from rfl,show BR (m,n,on)=lY (m,n,on) from rfl,show BP (m,n,o)=A7 (m,n,o) from rfl,show ji n.2.2.2.2.2.2.2=n.2.2.2.2.2.2.2 from rfl,show ∀y,im y=true from fun _=>rfl,gH,decide_true,ek,iC,gh,cond_true,Dj]
 cases g:lf n
 ·rfl
 ·simp[e330 g])
theorem UX(x:ao×Node×Int×Int×Bool×E7)(h:Ty.cB [aY,aW,yI,yI,.bool,PL] x):M0 x=true:=by
 obtain⟨m,n,id,set1,on,o⟩:=x
 simp only[M0,Mv,LT.val,al,show ic ()=true from rfl,aT,Bool.not_true,cond_false,show xR (m,id)=l5 (m,id) from rfl,show gg (m,n)=dD (m,n) from rfl,show lV n=iP n from rfl,show AN (m,n,set1)=Bd (m,n,set1) from rfl,show BR (m,n,on)=lY (m,n,on) from rfl,show BP (m,n,o)=A7 (m,n,o) from rfl,show ∀y,GQ y=true from fun _=>rfl,show ∀y,im y=true from fun _=>rfl,ek,iC,gh,cond_true]
 cases lf n<;>rfl
end Go.Ev.M
