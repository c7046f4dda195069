/-
  PROVED: StarctlBus, in plain Lean. Conditions: none.
-/
import Derived.Test.YteldjjjcdpnnbaaGreatCg
namespace Go.Ev.M
open Go.Proofs
set_option maxRecDepth 100000
set_option linter.unusedVariables false
set_option linter.unusedSimpArgs false
open Go.Ev.Pl
def Kg(A:a_)(m:ao)(n:Node)(seen:List Seen):LT Bool Empty:=.need (A.k (@tt Unit) ()) (.br (A.not (A.k ic ())) (.need (A.k (@tt Unit) ()) (.ret (A.k ic ()))) (.need (A.k (@tt Node) n) (.br (A.not (A.k lf n)) (.need (A.k (@tt Unit) ()) (.ret (A.k ic ()))) (.need (A.k (@tt (List Seen)) seen) (.need (A.k (@tt (ao×Node)) (m,n)) (.need (A.k (@tt (ao×Node)) (m,n)) (.need (A.k gH ((A.k jU (m,n)).1,(A.k sO (m,n)).1)) (.br (A.not (A.k im ((A.k jU (m,n)).1,(A.k sO (m,n)).1))) (.ret false) (.need (A.k uq ((A.k jU (m,n)).2.1,(A.k sO (m,n)).2.1)) (.br (A.not (A.k vf ((A.k jU (m,n)).2.1,(A.k sO (m,n)).2.1))) (.ret false) (.br (A.not (A.q (A.k jU (m,n)).2.2.1 (A.k sO (m,n)).2.2.1)) (.ret false) (.br (A.c .neq (A.k jU (m,n)).2.2.2 (A.k sO (m,n)).2.2.2) (.ret false) (.need (A.k (@tt (ao×Node×List Seen)) (m,n,(A.k ck seen))) (.need (A.k (@tt (ao×Node×List Seen)) (m,n,(A.k ck seen))) (.need (A.k gH ((A.k lz (m,n,(A.k ck seen))).1,(A.k vp (m,n,(A.k ck seen))).1)) (.br (A.not (A.k im ((A.k lz (m,n,(A.k ck seen))).1,(A.k vp (m,n,(A.k ck seen))).1))) (.ret false) (.need (A.k (@tt ((Int×Int×Int×(Int×Int×(Int×Int×Int×Int×Int)×Int×List Int)×Int)×(Int×Int×Int×(Int×Int×(Int×Int×Int×Int×Int)×Int×List Int)×Int))) ((A.k lz (m,n,(A.k ck seen))).2.1,(A.k vp (m,n,(A.k ck seen))).2.1)) (.br (A.not (A.k Ox ((A.k lz (m,n,(A.k ck seen))).2.1,(A.k vp (m,n,(A.k ck seen))).2.1))) (.ret false) (.br (A.c .neq (A.k lz (m,n,(A.k ck seen))).2.2 (A.k vp (m,n,(A.k ck seen))).2.2) (.ret false) (.need (A.k (@tt (ao×Node×List Seen)) (m,n,(A.k ck seen))) (.need (A.k (@tt (ao×Node×List Seen)) (m,n,(A.k ck seen))) (.br (A.c .eql (A.k gB (m,n,(A.k ck seen))).2.2.2 (A.k mP (m,n,(A.k ck seen))).2.2.2) (.br (A.k mP (m,n,(A.k ck seen))).1.2.2.2.2.2.1 (.br (A.not n.2.2.2.2.2.1) (.ret true) (.need (A.k gH ((A.k gB (m,n,(A.k ck seen))).1,(A.k mP (m,n,(A.k ck seen))).1)) (.br (A.k im ((A.k gB (m,n,(A.k ck seen))).1,(A.k mP (m,n,(A.k ck seen))).1)) (.br (A.c .eql (A.k gB (m,n,(A.k ck seen))).2.1 (A.k mP (m,n,(A.k ck seen))).2.1) (.br (A.q (A.k gB (m,n,(A.k ck seen))).2.2.1 (A.k mP (m,n,(A.k ck seen))).2.2.1) (.ret true) (.ret (A.c .neq (A.k gB (m,n,(A.k ck seen))).2.2.2 0))) (.ret (A.c .neq (A.k gB (m,n,(A.k ck seen))).2.2.2 0))) (.ret (A.c .neq (A.k gB (m,n,(A.k ck seen))).2.2.2 0))))) (.need (A.k gH ((A.k gB (m,n,(A.k ck seen))).1,(A.k mP (m,n,(A.k ck seen))).1)) (.br (A.k im ((A.k gB (m,n,(A.k ck seen))).1,(A.k mP (m,n,(A.k ck seen))).1)) (.br (A.c .eql (A.k gB (m,n,(A.k ck seen))).2.1 (A.k mP (m,n,(A.k ck seen))).2.1) (.br (A.q (A.k gB (m,n,(A.k ck seen))).2.2.1 (A.k mP (m,n,(A.k ck seen))).2.2.1) (.ret true) (.ret (A.c .neq (A.k gB (m,n,(A.k ck seen))).2.2.2 0))) (.ret (A.c .neq (A.k gB (m,n,(A.k ck seen))).2.2.2 0))) (.ret (A.c .neq (A.k gB (m,n,(A.k ck seen))).2.2.2 0))))) (.ret false)))))))))))))))))))))))
def K1:(ao×Node×List Seen)→Bool:=fun(m,n,seen)=>(Kg aj m n seen).val (Ty.bE [.bool])
def Z9:aB:=⟨[aY,aW,(.slice fA)], [.bool],(@tt (ao×Node×List Seen)),K1⟩
theorem afh:Sd 13 Z9:=aJ ax bK true 209 [] (fun A (m,n,seen)=>Kg A m n seen) (fc Tryz.func13 fz) (sc YD (sc af1 (sc Im (sc GV (sc G6 (sc Rx (sc RD (sc ab3 (sc afj (sc RU (sc Sn (sc Sr sz)))))))))))) (fun((m,n,seen):ao×Node×List Seen) hp h=>by
 show(Kg aj m n seen).pre=true
 simp only[Kg,LT.pre,al,bH,Bool.true_and,show ic ()=true from rfl,aT,Bool.not_true,cond_false,show sO (m,n)=jU (m,n) from rfl,show ∀s,vp (m,n,s)=lz (m,n,s) from fun _=>rfl,show ∀s,mP (m,n,s)=ny m n s true from fun _=>rfl,show ∀s,gB (m,n,s)=ny m n s false from fun _=>rfl,show ∀y,vf y=true from fun _=>rfl,show ∀y,im y=true from fun _=>rfl,gH,decide_true,ek,iC,gh,cond_true,G9,GG,uq]
 cases lf n
 ·rfl
 generalize ck seen=s
 cases hb:(ny m n s true).1.2.2.2.2.2.1
 ·rw[rT (.inr hb)];simp only[ek,gh,cond_true,cond_false,decide_true,Bool.true_and,Bool.and_self]<;>rfl
 ·cases hn:n.2.2.2.2.2.1
  ·rfl
  ·rw[rT (.inl hn)];simp only[ek,gh,cond_true,cond_false,Bool.not_true,decide_true,Bool.true_and,Bool.and_self]<;>rfl)
theorem Tw(x:ao×Node×List Seen)(h:Ty.cB [aY,aW,.slice fA] x):K1 x=true:=by
 obtain⟨m,n,seen⟩:=x
 simp only[K1,Kg,LT.val,al,show ic ()=true from rfl,aT,Bool.not_true,cond_false,show sO (m,n)=jU (m,n) from rfl,show ∀s,vp (m,n,s)=lz (m,n,s) from fun _=>rfl,show ∀s,mP (m,n,s)=ny m n s true from fun _=>rfl,show ∀s,gB (m,n,s)=ny m n s false from fun _=>rfl,show ∀y,vf y=true from fun _=>rfl,show ∀y,im y=true from fun _=>rfl,ek,iC,gh,cond_true,G9,GG]
 cases lf n
 ·rfl
 generalize ck seen=s
 cases hb:(ny m n s true).1.2.2.2.2.2.1
 ·rw[rT (.inr hb)];simp only[ek,gh,cond_true,cond_false]<;>rfl
 ·cases hn:n.2.2.2.2.2.1
  ·rfl
  ·rw[rT (.inl hn)];simp only[ek,gh,cond_true,cond_false,Bool.not_true]<;>rfl
end Go.Ev.M
