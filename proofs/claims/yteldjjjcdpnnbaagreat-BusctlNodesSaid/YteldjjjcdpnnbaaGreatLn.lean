/-
  PROVED: BusctlNodes, in plain Lean. Conditions: none.
-/
import Derived.Test.YteldjjjcdpnnbaaGreatCe
namespace Go.Ev.M
open Go.Proofs
set_option maxRecDepth 100000
set_option linter.unusedVariables false
set_option linter.unusedSimpArgs false
open Go.Ev.Pl
theorem y9{n:Node}(h:Ty.has du n)(h1:vm n=true):vg n.2.2.2.2.2.2.2=true:=by
 have h2:(n.2.2.2.2.2.2.2.2.2.1.length:Int)≤20:=of_decide_eq_true h1
 obtain⟨a,b,c⟩:=wR (c:=n.2.2.2.2.2.2.2) h.2.2.2.2.2.2.2
 exact o6.2 ⟨a,by omega,c⟩
def Cz(A:bg)(m:au)(n:Node)(id:Int)(set1:Int)(on:Bool)(o:yz):LT Bool Empty:=.need (A.k (@tt Unit) ()) (.br (A.not (A.k uS ())) (.need (A.k (@tt Unit) ()) (.ret (A.k uS ()))) (.need (A.k (@tt Node) n) (.br (A.not (A.k vm n)) (.need (A.k (@tt Unit) ()) (.ret (A.k uS ()))) (.need (A.k lb n.2.2.2.2.2.2.2) (.need (A.k (@tt (au×Int)) (m,id)) (.need (A.k (@tt (au×Int)) (m,id)) (.need (A.k oT ((A.k mz (m,id)).1,(A.k rL (m,id)).1)) (.br (A.not (A.k s9 ((A.k mz (m,id)).1,(A.k rL (m,id)).1))) (.ret false) (.br (A.c .neq (A.k mz (m,id)).2 (A.k rL (m,id)).2) (.ret false) (.need (A.k (@tt (au×Node)) (m,n)) (.need (A.k (@tt (au×Node)) (m,n)) (.br (A.c .neq (A.k tg (m,n)) (A.k jG (m,n))) (.ret false) (.need (A.k (@tt Node) n) (.need (A.k (@tt Node) n) (.br (A.not (A.q (A.k mA n) (A.k qj n))) (.ret false) (.need (A.k (@tt (au×Node×Int)) (m,n,set1)) (.need (A.k (@tt (au×Node×Int)) (m,n,set1)) (.need (A.k oT ((A.k vx (m,n,set1)).1,(A.k vd (m,n,set1)).1)) (.br (A.not (A.k s9 ((A.k vx (m,n,set1)).1,(A.k vd (m,n,set1)).1))) (.ret false) (.br (A.c .neq (A.k vx (m,n,set1)).2 (A.k vd (m,n,set1)).2) (.ret false) (.need (A.k (@tt (au×Node×Bool)) (m,n,on)) (.need (A.k (@tt (au×Node×Bool)) (m,n,on)) (.need (A.k oT ((A.k jJ (m,n,on)).1,(A.k vc (m,n,on)).1)) (.br (A.not (A.k s9 ((A.k jJ (m,n,on)).1,(A.k vc (m,n,on)).1))) (.ret false) (.br (A.c .neq (A.k jJ (m,n,on)).2 (A.k vc (m,n,on)).2) (.ret false) (.need (A.k (@tt (au×Node×yz)) (m,n,o)) (.need (A.k (@tt (au×Node×yz)) (m,n,o)) (.need (A.k oT ((A.k vl (m,n,o)).1,(A.k uE (m,n,o)).1)) (.br (A.k s9 ((A.k vl (m,n,o)).1,(A.k uE (m,n,o)).1)) (.br (A.c .eql (A.k vl (m,n,o)).2 (A.k uE (m,n,o)).2) (.need (A.k wS (n.2.2.2.2.2.2.2,(A.k gy n.2.2.2.2.2.2.2))) (.ret (A.k zR (n.2.2.2.2.2.2.2,(A.k gy n.2.2.2.2.2.2.2))))) (.ret false)) (.ret false))))))))))))))))))))))))))))))
def Eg:(au×Node×Int×Int×Bool×yz)→Bool:=fun(m,n,id,set1,on,o)=>(Cz ai m n id set1 on o).val (Ty.da [.bool])
def N_:aB:=⟨[bW,du,yI,yI,.bool,HZ], [.bool],(@tt (au×Node×Int×Int×Bool×yz)),Eg⟩
theorem Sq:Sd 3 N_:=aJ ar cO true 209 [] (fun A (m,n,id,set1,on,o)=>Cz A m n id set1 on o) (fc Tryz.func3 fz) (sc SE (sc Ry (sc PE (sc xI (sc EJ (sc Iq (sc Ia (sc AF (sc Dd (sc Dq (sc PV (sc Md (sc It (sc SP (sc Sj (sc NR (sc Ih sz))))))))))))))))) (fun((m,n,id,set1,on,o):au×Node×Int×Int×Bool×yz) hp h=>by
 show(Cz ai m n id set1 on o).pre=true
 have e330:vm n=true→lb n.2.2.2.2.2.2.2=true:=fun g=>y9 h.2.1 g
 simp only[Cz,LT.pre,ap,dI,Bool.true_and,show uS ()=true from rfl,c_,Bool.not_true,cond_false,show rL (m,id)=mz (m,id) from rfl,show jG (m,n)=tg (m,n) from rfl,show qj n=mA n from rfl,show vd (m,n,set1)=vx (m,n,set1) from rfl,show vc (m,n,on)=jJ (m,n,on) from rfl,show uE (m,n,o)=vl (m,n,o) from rfl,show ∀y,s9 y=true from fun _=>rfl,show gy n.2.2.2.2.2.2.2=n.2.2.2.2.2.2.2 from rfl,oT,wS,decide_true,uD,vq,xh,cond_true]
 cases g:vm n
 ·rfl
 ·simp[e330 g])
theorem KU(x:au×Node×Int×Int×Bool×yz)(h:Ty.dH [bW,du,yI,yI,.bool,HZ] x):Eg x=true:=by
 obtain⟨m,n,id,set1,on,o⟩:=x
 simp only[Eg,Cz,LT.val,ap,show uS ()=true from rfl,c_,Bool.not_true,cond_false,show rL (m,id)=mz (m,id) from rfl,show jG (m,n)=tg (m,n) from rfl,show qj n=mA n from rfl,show vd (m,n,set1)=vx (m,n,set1) from rfl,show vc (m,n,on)=jJ (m,n,on) from rfl,show uE (m,n,o)=vl (m,n,o) from rfl,show ∀y,s9 y=true from fun _=>rfl,show ∀y,zR y=true from fun _=>rfl,uD,vq,xh,cond_true]
 cases vm n<;>rfl
end Go.Ev.M
