/-
  PROVED: BusctlOther, in plain Lean. Conditions: none.
-/
import Derived.Test.YteldjjjcdpnnbaaGreatCf
namespace Go.Ev.M
open Go.Proofs
set_option maxRecDepth 100000
set_option linter.unusedVariables false
set_option linter.unusedSimpArgs false
open Go.Ev.Pl
theorem LW{o:ia}:Kd (o,o)=true:=by
 obtain⟨k,w,at',⟨a,b,⟨t,p,m,n,s⟩,f,d⟩,x⟩:=o
 simp only[Kd,t64,ak,P5,t44,LT.val,qJ,Hd,cond_true]
 rfl
def EP(A:a_)(m:au)(n:Node)(seen:List Seen):LT Bool Empty:=.need (A.k (@tt Unit) ()) (.br (A.not (A.k xt ())) (.need (A.k (@tt Unit) ()) (.ret (A.k xt ()))) (.need (A.k (@tt Node) n) (.br (A.not (A.k BZ n)) (.need (A.k (@tt Unit) ()) (.ret (A.k xt ()))) (.need (A.k (@tt (List Seen)) seen) (.need (A.k (@tt (au×Node×List Seen)) (m,n,(A.k kS seen))) (.need (A.k (@tt (au×Node×List Seen)) (m,n,(A.k kS seen))) (.need (A.k By ((A.k rJ (m,n,(A.k kS seen))).1,(A.k sn (m,n,(A.k kS seen))).1)) (.br (A.k CU ((A.k rJ (m,n,(A.k kS seen))).1,(A.k sn (m,n,(A.k kS seen))).1)) (.need (A.k (@tt ((Int×Int×Int×(Int×Int×(Int×Int×Int×Int×Int)×Int×List Int)×Int)×(Int×Int×Int×(Int×Int×(Int×Int×Int×Int×Int)×Int×List Int)×Int))) ((A.k rJ (m,n,(A.k kS seen))).2.1,(A.k sn (m,n,(A.k kS seen))).2.1)) (.br (A.k Kd ((A.k rJ (m,n,(A.k kS seen))).2.1,(A.k sn (m,n,(A.k kS seen))).2.1)) (.ret (A.c .eql (A.k rJ (m,n,(A.k kS seen))).2.2 (A.k sn (m,n,(A.k kS seen))).2.2)) (.ret false))) (.ret false)))))))))
def Iy:(au×Node×List Seen)→Bool:=fun(m,n,seen)=>(EP aj m n seen).val (Ty.bF [.bool])
def V6:aC:=⟨[bM,dC,(.slice gh)], [.bool],(@tt (au×Node×List Seen)),Iy⟩
theorem UO:Sd 5 V6:=aH ap cm true 80 [] (fun A (m,n,seen)=>EP A m n seen) (fc Tryz.func5 fz) (sc YO (sc VD (sc Wu (sc R4 (sc U2 (sc Xg (sc Tw sz))))))) (fun((m,n,seen):au×Node×List Seen) hp h=>by
 show(EP aj m n seen).pre=true
 simp only[EP,LT.pre,ak,bK,Bool.true_and,show xt ()=true from rfl,aP,Bool.not_true,cond_false,show ∀s,sn (m,n,s)=rJ (m,n,s) from fun _=>rfl,show ∀y,CU y=true from fun _=>rfl,LW,By,decide_true,qJ,cond_true]
 cases BZ n<;>rfl)
theorem Pr(x:au×Node×List Seen)(h:Ty.cY [bM,dC,.slice gh] x):Iy x=true:=by
 obtain⟨m,n,seen⟩:=x
 simp only[Iy,EP,LT.val,ak,show xt ()=true from rfl,aP,Bool.not_true,cond_false,show ∀s,sn (m,n,s)=rJ (m,n,s) from fun _=>rfl,show ∀y,CU y=true from fun _=>rfl,LW,qJ,cond_true]
 cases BZ n<;>rfl
end Go.Ev.M
