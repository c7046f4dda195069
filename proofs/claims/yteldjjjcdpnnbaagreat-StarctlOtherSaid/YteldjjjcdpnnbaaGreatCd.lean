/-
  PROVED: what starctl.Check, New, Power and Hear compute. Conditions: none.
-/
import Derived.Test.YteldjjjcdpnnbaaGreatCc
namespace Go.Ev.M
open Go.Proofs
set_option maxRecDepth 100000
set_option linter.unusedVariables false
set_option linter.unusedSimpArgs false
open Go.Ev.Pl
def Tt(A:a_)(m:ao)(id:Int):LT (Node×Int) Empty:=.need (A.k (@tt ao) m) (.br (A.c .neq (A.k kw m) 0) (.ret ((0,0,(0,0,0,0,0),(0,0,0,0,0,0,0),0,false,0,0,([]:List Int),([]:List aU),0,0),(A.k kw m))) (.need (A.k (@tt (Int×Int)) (id,m.1)) (.br (A.c .eql (A.k Gx (id,m.1)).2 0) (.ret ((id,0,(0,0,0,0,0),(0,0,0,0,0,0,0),0,false,0,(A.k Gx (id,m.1)).1),0)) (.ret ((0,0,(0,0,0,0,0),(0,0,0,0,0,0,0),0,false,0,0,([]:List Int),([]:List aU),0,0),2)))))
theorem S_{m:ao}{id:Int}:aA Empty.elim (Tt aj m id) (xg m id):=by
 unfold Tt xg
 refine af.2 ⟨rfl,?_⟩
 rw[show aj.k kw m=fT m from rfl,fT]
 cases hm:dV m
 ·exact(ai rfl).2 (.ret _)
 refine(ah rfl).2 (af.2 ⟨rfl,?_⟩)
 rw[show aj.k Gx (id,m.1)=Db id m.1 from rfl,Db,decide_eq_true (eG hm).1,cond_true,cond_true]
 cases decide (0≤id∧id≤m.1-1)
 ·exact(ah rfl).2 (.ret _)
 ·exact(ai rfl).2 (.ret _)
def l5:(ao×Int)→(Node×Int):=fun(m,n)=>xg m n
def Zf:aB:=⟨[aY,yI], [aW,yI],(@tt (ao×Int)),l5⟩
theorem LA:Sd 33 Zf:=aF ax bK true 54 [] (fun A (m,id)=>Tt A m id) (fc Tryz.func33 fz) (sc D9 (sc adQ sz)) fun(m,id) hp h=>S_
def TX(A:a_)(n:Node):LT Bool Empty:=.br (A.c .eql n.2.1 2) (.ret true) (.br (A.c .eql n.2.1 3) (.ret true) (.br (A.c .eql n.2.1 4) (.ret true) (.ret false)))
theorem agp{n:Node}:aA Empty.elim (TX aj n) (ju n):=by
 unfold TX ju
 refine ap (p:=n.2.1=2) aI (fun h=>au (decide_eq_true (by omega)).symm (.ret _)) fun h1=>ap (p:=n.2.1=3) aI (fun h=>au (decide_eq_true (by omega)).symm (.ret _)) fun h2=>ap (p:=n.2.1=4) aI (fun h=>au (decide_eq_true (by omega)).symm (.ret _)) fun h3=>au (decide_eq_false (by omega)).symm (.ret _)
def iP:Node→Bool:=ju
def abh:aB:=⟨[aW], [.bool],(@tt Node),iP⟩
theorem BE:Sd 35 abh:=aF ax bK true 51 [] (fun A n=>TX A n) (fc Tryz.func35 fz) sz fun n hp h=>agp
def Xd(A:a_)(s:Span)(n:Int):LT Bool Empty:=.br (A.c .geq n s.1) (.ret (A.c .leq n s.2)) (.ret false)
def SE(s:Span)(n:Int):Bool:=decide (s.1≤n∧n≤s.2)
theorem aiP{s:Span}{n:Int}:aA Empty.elim (Xd aj s n) (SE s n):=by
 unfold Xd SE
 refine ap (p:=s.1≤n) rfl (fun h=>?_) fun h=>au (decide_eq_false (fun k=>h k.1)).symm (.ret _)
 exact au (by rw[ay,Bool.eq_iff_iff];simp[h]) (.ret _)
def sU:(Span×Int)→Bool:=fun(m,n)=>SE m n
def aeq:aB:=⟨[acv,yI], [.bool],(@tt (Span×Int)),sU⟩
theorem N_:Sd 86 aeq:=aF ax bK true 25 [] (fun A (s,n)=>Xd A s n) (fc Tryz.func86 fz) sz fun(s,n) hp h=>aiP
def Uz(A:a_)(m:ao)(n:Node):LT Bool Empty:=.br (A.c .eql n.2.1 1) (.need (A.k (@tt (ao×Int)) (m,n.1)) (.br (A.c .eql (A.k qh (m,n.1)).2 0) (.need (A.k (@tt (Span×Int)) ((1,(A.k qh (m,n.1)).1),n.2.2.2.2.1)) (.ret (A.k sU ((1,(A.k qh (m,n.1)).1),n.2.2.2.2.1)))) (.ret false))) (.br (A.c .eql n.2.2.2.2.1 0) (.br (A.not n.2.2.2.2.2.1) (.ret true) (.ret (A.c .eql n.2.1 2))) (.ret false))
theorem QT{m:ao}{n:Int}(h:¬(lG m n).2=0):(lG m n).1=0:=by
 unfold lG at h ⊢
 by_cases h1:fQ m n=0
 ·rw[decide_eq_true h1] at h;exact absurd rfl h
 ·rw[decide_eq_false h1];rfl
theorem Un{m:ao}{n:Node}:aA Empty.elim (Uz aj m n) (nV m n&&tF n):=by
 unfold Uz nV tF
 refine ap (p:=n.2.1=1) aI (fun h=>af.2 ⟨rfl,?_⟩) fun h=>ap (p:=n.2.2.2.2.1=0) aI (fun h1=>?_) fun h1=>?_
 ·rw[show aj.k qh (m,n.1)=lG m n.1 from rfl,decide_eq_true h,decide_eq_true (show n.2.1=1∨n.2.1=2 from .inl h)]
  have e:(bif n.2.2.2.2.2.1 then true else true)=true:=by cases n.2.2.2.2.2.1<;>rfl
  rw[e,Bool.and_true,cond_true]
  refine ap (p:=(lG m n.1).2=0) aI (fun h2=>af.2 ⟨rfl,.ret _⟩) fun h2=>au (decide_eq_false ?_).symm (.ret _)
  have:=QT h2
  omega
 ·rw[decide_eq_false h,decide_eq_true h1]
  cases n.2.2.2.2.2.1
  ·exact(ai rfl).2 (.ret _)
  ·refine(ah rfl).2 (au ?_ (.ret _))
   rw[aI,Bool.eq_iff_iff];simp;omega
 ·rw[decide_eq_false h,decide_eq_false h1]
  exact .ret _
def R4:(ao×Node)→Bool:=fun(m,n)=>nV m n&&tF n
def adg:aB:=⟨[aY,aW], [.bool],(@tt (ao×Node)),R4⟩
theorem afr:Sd 87 adg:=aF ax bK true 45 [] (fun A (m,n)=>Uz A m n) (fc Tryz.func87 fz) (sc N_ (sc Du sz)) fun(m,n) hp h=>Un
def WB(A:a_)(m:ao)(n:Node):LT Bool Empty:=.need (A.k (@tt ((Int×Int×Int×Int×Int)×Int)) (n.2.2.1,m.1)) (.br (A.c .eql (A.k jZ (n.2.2.1,m.1)) 0) (.br (A.c .lss n.2.2.1.2.2.1 (A.l m.2.2.2.2.2.2.2)) (.need (A.k (@tt ((Int×Int×Int×Int×Int×Int×Int))) n.2.2.2.1) (.br (A.c .eql (A.k iV n.2.2.2.1) 0) (.br (A.c .eql n.2.2.2.1.1 n.1) (.br (A.c .leq n.2.2.1.2.2.2.1 (A.l m.2.2.2.2.2.2.2)) (.br (A.c .eql n.2.2.2.1.2.1 m.1) (.br (A.c .eql n.2.2.1.2.2.2.2 n.2.2.2.1.2.2.1) (.br (A.c .neq n.2.1 2) (.ret true) (.need (A.and (A.c .leq 0 n.1) (A.c .lss n.1 (A.l m.2.2.2.2.2.2.1))) (.ret (A.n .bool m.2.2.2.2.2.2.1 n.1:Bool)))) (.ret false)) (.ret false)) (.ret false)) (.br (A.c .leq n.2.2.1.2.2.2.1 (A.l m.2.2.2.2.2.2.2)) (.ret false) (.ret false))) (.br (A.c .leq n.2.2.1.2.2.2.1 (A.l m.2.2.2.2.2.2.2)) (.ret false) (.ret false)))) (.need (A.k (@tt ((Int×Int×Int×Int×Int×Int×Int))) n.2.2.2.1) (.br (A.c .eql (A.k iV n.2.2.2.1) 0) (.br (A.c .eql n.2.2.2.1.1 n.1) (.ret false) (.ret false)) (.ret false)))) (.need (A.k (@tt ((Int×Int×Int×Int×Int×Int×Int))) n.2.2.2.1) (.br (A.c .eql (A.k iV n.2.2.2.1) 0) (.br (A.c .eql n.2.2.2.1.1 n.1) (.ret false) (.ret false)) (.ret false))))
def JH(m:ao)(n:Node):Bool:=eZ m n.2.2.1&&(decide (gZ n.2.2.2.1=0)&&(decide (n.2.2.2.1.1=n.1)&&(decide (n.2.2.2.1.2.1=m.1)&&(decide (n.2.2.1.2.2.2.2=n.2.2.2.1.2.2.1)&&vY m n))))
theorem Bz{R Y:Type}{step:Y→LT R Y}{b:Bool}{t e:LT R Y}{r:R}(h1:aA step t r)(h2:aA step e r):aA step (.br b t e) r:=by
 cases b
 ·exact(ah rfl).2 h2
 ·exact(ai rfl).2 h1
theorem agW{m:ao}{n:Node}(h0:0≤n.1)(h1:n.1<(m.2.2.2.2.2.2.1.length:Int)):aA Empty.elim (WB aj m n) (JH m n):=by
 unfold WB JH eZ vY
 refine af.2 ⟨rfl,?_⟩
 rw[show aj.k jZ (n.2.2.1,m.1)=g_ (n.2.2.1,m.1) from rfl,show aj.k iV n.2.2.2.1=gZ n.2.2.2.1 from JM]
 refine ap (p:=g_ (n.2.2.1,m.1)=0) aI (fun g1=>ap (p:=n.2.2.1.2.2.1<dB m) rfl (fun g2=>af.2 ⟨rfl,ap (p:=gZ n.2.2.2.1=0) aI (fun g3=>ap (p:=n.2.2.2.1.1=n.1) aI (fun g4=>ap (p:=n.2.2.1.2.2.2.1≤dB m) rfl (fun g5=>ap (p:=n.2.2.2.1.2.1=m.1) aI (fun g6=>ap (p:=n.2.2.1.2.2.2.2=n.2.2.2.1.2.2.1) aI (fun g7=>ap (p:=¬n.2.1=2) aS (fun g8=>?_) fun g8=>af.2 ⟨iy h0 h1,?_⟩) fun g=>?_) fun g=>?_) fun g=>?_) fun g=>?_) fun g=>?_⟩) fun g=>?_) fun g=>?_
 ·exact au (by rw[decide_eq_true g1,decide_eq_true g2,decide_eq_true g3,decide_eq_true g4,decide_eq_true g5,decide_eq_true g6,decide_eq_true g7,decide_eq_false g8];rfl) (.ret _)
 ·exact au (by rw[decide_eq_true g1,decide_eq_true g2,decide_eq_true g3,decide_eq_true g4,decide_eq_true g5,decide_eq_true g6,decide_eq_true g7,decide_eq_true (Decidable.not_not.1 g8)];rfl) (.ret _)
 all_goals
  rw[decide_eq_false g]
  simp only[Bool.false_and,Bool.and_false]
  repeat' (first|exact aA.ret _|refine af.2 ⟨rfl,?_⟩|refine Bz ?_ ?_)
def SB:(ao×Node)→Bool:=fun(m,n)=>JH m n
def F2:(ao×Node)→Bool:=fun(m,n)=>decide (0≤n.1)&&decide (n.1<(m.2.2.2.2.2.2.1.length:Int))
def aaT:aB:=⟨[aY,aW], [.bool],F2,SB⟩
theorem ZH:Sd 88 aaT:=aF ax bK true 94 [] (fun A (m,n)=>WB A m n) (fc Tryz.func88 fz) (sc EW (sc yZ sz)) fun((m,n):ao×Node) hp h=>agW (of_decide_eq_true (Bool.and_eq_true _ _▸hp).1) (of_decide_eq_true (Bool.and_eq_true _ _▸hp).2)
def Wz(A:a_)(n:Node):LT Bool Empty:=.br (A.and (A.c .eql n.2.2.1.1 0) (A.and (A.c .eql n.2.2.1.2.1 0) (A.and (A.c .eql n.2.2.1.2.2.1 0) (A.and (A.c .eql n.2.2.1.2.2.2.1 0) (A.and (A.c .eql n.2.2.1.2.2.2.2 0) true))))) (.ret (A.and (A.c .eql n.2.2.2.1.1 0) (A.and (A.c .eql n.2.2.2.1.2.1 0) (A.and (A.c .eql n.2.2.2.1.2.2.1 0) (A.and (A.c .eql n.2.2.2.1.2.2.2.1 0) (A.and (A.c .eql n.2.2.2.1.2.2.2.2.1 0) (A.and (A.c .eql n.2.2.2.1.2.2.2.2.2.1 0) (A.and (A.c .eql n.2.2.2.1.2.2.2.2.2.2 0) true)))))))) (.ret false)
def OM(n:Node):Bool:=zg n.2.2.1&&zeroV n.2.2.2.1
theorem adm{n:Node}:aA Empty.elim (Wz aj n) (OM n):=by
 unfold Wz OM
 cases hz:zg n.2.2.1
 ·exact(ah hz).2 (.ret _)
 ·exact(ai hz).2 (.ret _)
def J8:Node→Bool:=OM
def aeF:aB:=⟨[aW], [.bool],(@tt Node),J8⟩
theorem ae2:Sd 89 aeF:=aF ax bK true 25 [] (fun A n=>Wz A n) (fc Tryz.func89 fz) sz fun n hp h=>adm
def WL(A:a_)(m:ao)(n:Node):LT Int Empty:=.need (A.k (@tt ao) m) (.br (A.c .neq (A.k kw m) 0) (.ret (A.k kw m)) (.need (A.k (@tt (Span×Int)) ((0,(A.b .sub .i64 m.1 1)),n.1)) (.br (A.not (A.k sU ((0,(A.b .sub .i64 m.1 1)),n.1))) (.ret 180) (.need (A.k (@tt (Span×Int)) ((0,5),n.2.1)) (.br (A.not (A.k sU ((0,5),n.2.1))) (.ret 180) (.need (A.k (@tt (Span×Int)) ((0,2),n.2.2.2.2.2.2.1)) (.br (A.not (A.k sU ((0,2),n.2.2.2.2.2.2.1))) (.ret 180) (.need (A.k (@tt bu) n.2.2.2.2.2.2.2) (.br (A.c .neq (A.k jh n.2.2.2.2.2.2.2) 0) (.ret 180) (.br (A.c .neq n.2.2.2.2.2.2.2.1 n.1) (.ret 180) (.br (A.c .neq (A.l n.2.2.2.2.2.2.2.2.2.1) m.1) (.ret 180) (.need (A.k (@tt (ao×Node)) (m,n)) (.br (A.not (A.k R4 (m,n))) (.ret 180) (.need (A.k (@tt Node) n) (.br (A.k iP n) (.need (A.k F2 (m,n)) (.br (A.not (A.k SB (m,n))) (.ret 180) (.need (A.k (@tt Node) n) (.br (A.not (A.k iP n)) (.need (A.k (@tt Node) n) (.br (A.not (A.k J8 n)) (.ret 180) (.ret 0))) (.ret 0))))) (.need (A.k (@tt Node) n) (.br (A.not (A.k iP n)) (.need (A.k (@tt Node) n) (.br (A.not (A.k J8 n)) (.ret 180) (.ret 0))) (.ret 0))))))))))))))))))
theorem VI{m:ao}{n:Node}:aA Empty.elim (WL aj m n) (bU m n):=by
 unfold WL bU
 refine af.2 ⟨rfl,?_⟩
 rw[show aj.k kw m=fT m from rfl,fT]
 cases hm:dV m
 ·exact(ai rfl).2 (.ret _)
 have hG:=@fe m n
 have hl:=eG hm
 rw[cond_true,aX,fV (by omega) (by omega)]
 generalize DZ m n=G at hG ⊢
 refine(ah rfl).2 (af.2 ⟨rfl,iw (b:=decide (0≤n.1∧n.1≤m.1-1)) (fun g=>decide_eq_true (hG.1 g).1) fun h1=>af.2 ⟨rfl,iw (b:=decide (0≤n.2.1∧n.2.1≤5)) (fun g=>decide_eq_true (hG.1 g).2.1) fun h2=>af.2 ⟨rfl,iw (b:=decide (0≤n.2.2.2.2.2.2.1∧n.2.2.2.2.2.2.1≤2)) (fun g=>decide_eq_true (hG.1 g).2.2.1) fun h3=>af.2 ⟨rfl,?_⟩⟩⟩⟩)
 have h1:=of_decide_eq_true h1
 have h2:=of_decide_eq_true h2
 have h3:=of_decide_eq_true h3
 refine fu (p:=¬ig n.2.2.2.2.2.2.2=0) aS (fun g=>not_not_intro (kP.2 (hG.1 g).2.2.2.1)) fun h7=>?_
 refine fu (p:=¬n.2.2.2.2.2.2.2.1=n.1) aS (fun g=>by have:=hG.1 g;omega) fun h8=>?_
 refine fu (p:=¬(n.2.2.2.2.2.2.2.2.2.1.length:Int)=m.1) aS (fun g=>by have:=hG.1 g;omega) fun h9=>af.2 ⟨rfl,?_⟩
 refine iw (b:=nV m n&&tF n) (fun g=>by rw[(hG.1 g).2.2.2.2.2.2.2.2.1,(hG.1 g).2.2.2.2.2.2.2.2.2];rfl) fun ht=>af.2 ⟨rfl,?_⟩
 rw[Bool.and_eq_true] at ht
 have fin:vY m n=true→o7 m n=true→G=true:=fun a b=>hG.2 ⟨h1,h2,h3,kP.1 (Decidable.not_not.1 h7),by omega,by omega,a,b,ht.1,ht.2⟩
 rw[show aj.k iP n=ju n from rfl]
 have hc:=fun g=>(hG.1 g).2.2.2.2.2.2.2.1
 have hd:=fun g=>(hG.1 g).2.2.2.2.2.2.1
 unfold o7 at hc fin
 cases hn:ju n
 ·rw[hn,cond_false] at hc fin
  have hcol:vY m n=true:=by
   have:¬(2≤n.2.1∧n.2.1≤4):=of_decide_eq_false hn
   rw[vY,decide_eq_false (show ¬n.2.1=2 by omega)];rfl
  exact(ah rfl).2 (af.2 ⟨rfl,(ai rfl).2 (af.2 ⟨rfl,iw (b:=OM n) hc fun k=>r_ (fin hcol k)⟩)⟩)
 ·rw[hn,cond_true] at hc fin
  refine(ai rfl).2 (af.2 ⟨?_,iw (b:=JH m n) (fun g=>?_) fun k=>af.2 ⟨rfl,(ah rfl).2 (r_ ?_)⟩⟩)
  ·rw[al,F2,decide_eq_true h1.1,decide_eq_true (show n.1<(m.2.2.2.2.2.2.1.length:Int) by rw[hl.2.2.1];omega)];rfl
  ·have a:=hc g
   simp only[Bool.and_eq_true] at a
   rw[JH,a.1,a.2.1,a.2.2.1,a.2.2.2.1,a.2.2.2.2,hd g];rfl
  ·simp only[JH,Bool.and_eq_true] at k
   exact fin k.2.2.2.2.2 (by rw[k.1,k.2.1,k.2.2.1,k.2.2.2.1,k.2.2.2.2.1];rfl)
def dD:(ao×Node)→Int:=fun(m,n)=>bU m n
def ZL:aB:=⟨[aY,aW], [yI],(@tt (ao×Node)),dD⟩
theorem rU:Sd 34 ZL:=aF ax bK true 123 [] (fun A (m,n)=>WL A m n) (fc Tryz.func34 fz) (sc D9 (sc BE (sc yC (sc N_ (sc afr (sc ZH (sc ae2 sz))))))) fun(m,n) hp h=>VI
def TD(A:a_)(m:ao)(n:Node)(on:Bool):LT (Node×Int) Empty:=.br (A.c .eql n.2.1 0) (.need (A.k (@tt (ao×Node)) (m,n)) (.br (A.c .neq (A.k dD (m,n)) 0) (.br (A.c .neq (A.k dD (m,n)) 0) (.ret ((0,0,(0,0,0,0,0),(0,0,0,0,0,0,0),0,false,0,0,([]:List Int),([]:List aU),0,0),(A.k dD (m,n)))) (.br on (.bad 73 "starctl.go:108") (.need (A.k (@tt (ao×Int)) (m,n.1)) (.ret (A.k l5 (m,n.1)))))) (.need (A.k (@tt (bu×List Int)) (n.2.2.2.2.2.2.2,n.2.2.2.2.2.2.2.2.1)) (.br (A.c .neq (A.k bA (n.2.2.2.2.2.2.2,n.2.2.2.2.2.2.2.2.1)).2 0) (.br (A.c .neq (A.k bA (n.2.2.2.2.2.2.2,n.2.2.2.2.2.2.2.2.1)).2 0) (.ret ((0,0,(0,0,0,0,0),(0,0,0,0,0,0,0),0,false,0,0,([]:List Int),([]:List aU),0,0),(A.k bA (n.2.2.2.2.2.2.2,n.2.2.2.2.2.2.2.2.1)).2)) (.br on (.bad 73 "starctl.go:108") (.need (A.k (@tt (ao×Int)) (m,n.1)) (.ret (A.k l5 (m,n.1)))))) (.br on (.need (A.k (@tt (ao×Int)) (m,n.1)) (.ret ((n.1,1,(0,0,0,0,0),(0,0,0,0,0,0,0),(A.k qh (m,n.1)).1,n.2.2.2.2.2.1,n.2.2.2.2.2.2.1,(A.k bA (n.2.2.2.2.2.2.2,n.2.2.2.2.2.2.2.2.1)).1),0))) (.need (A.k (@tt (ao×Int)) (m,n.1)) (.ret (A.k l5 (m,n.1))))))))) (.need (A.k (@tt (ao×Node)) (m,n)) (.br (A.c .neq (A.k dD (m,n)) 0) (.br (A.c .neq (A.k dD (m,n)) 0) (.ret ((0,0,(0,0,0,0,0),(0,0,0,0,0,0,0),0,false,0,0,([]:List Int),([]:List aU),0,0),(A.k dD (m,n)))) (.br on (.bad 73 "starctl.go:108") (.need (A.k (@tt (ao×Int)) (m,n.1)) (.ret (A.k l5 (m,n.1)))))) (.br (A.not (A.not on)) (.ret ((0,0,(0,0,0,0,0),(0,0,0,0,0,0,0),0,false,0,0,([]:List Int),([]:List aU),0,0),181)) (.need (A.k (@tt (bu×List Int)) (n.2.2.2.2.2.2.2,n.2.2.2.2.2.2.2.2.1)) (.br (A.c .neq (A.k bA (n.2.2.2.2.2.2.2,n.2.2.2.2.2.2.2.2.1)).2 0) (.br (A.c .neq (A.k bA (n.2.2.2.2.2.2.2,n.2.2.2.2.2.2.2.2.1)).2 0) (.ret ((0,0,(0,0,0,0,0),(0,0,0,0,0,0,0),0,false,0,0,([]:List Int),([]:List aU),0,0),(A.k bA (n.2.2.2.2.2.2.2,n.2.2.2.2.2.2.2.2.1)).2)) (.br on (.bad 73 "starctl.go:108") (.need (A.k (@tt (ao×Int)) (m,n.1)) (.ret (A.k l5 (m,n.1)))))) (.br on (.need (A.k (@tt (ao×Int)) (m,n.1)) (.ret ((n.1,1,(0,0,0,0,0),(0,0,0,0,0,0,0),(A.k qh (m,n.1)).1,n.2.2.2.2.2.1,n.2.2.2.2.2.2.1,(A.k bA (n.2.2.2.2.2.2.2,n.2.2.2.2.2.2.2.2.1)).1),0))) (.need (A.k (@tt (ao×Int)) (m,n.1)) (.ret (A.k l5 (m,n.1))))))))))
theorem om{m:ao}{n:Node}(h:bU m n=0):BX n.2.2.2.2.2.2.2 n.2.2.2.2.2.2.2.2.1=(n.2.2.2.2.2.2.2,0):=by
 rw[BX,fY h,decide_eq_false (He (fY h))];rfl
theorem abS{m:ao}{n:Node}{on:Bool}:aA Empty.elim (TD aj m n on) (II m n on):=by
 unfold TD II
 rw[show aj.k dD (m,n)=bU m n from rfl,show aj.k bA (n.2.2.2.2.2.2.2,n.2.2.2.2.2.2.2.2.1)=BX n.2.2.2.2.2.2.2 n.2.2.2.2.2.2.2.2.1 from rfl]
 by_cases h:bU m n=0
 ·rw[decide_eq_true h,om h]
  refine ap (p:=n.2.1=0) aI (fun h1=>af.2 ⟨rfl,(ah (gY h)).2 (af.2 ⟨rfl,(ah rfl).2 ?_⟩)⟩) fun h1=>af.2 ⟨rfl,(ah (gY h)).2 ?_⟩
  ·rw[decide_eq_true h1]
   cases on
   ·exact(ah rfl).2 (af.2 ⟨rfl,.ret _⟩)
   ·exact(ai rfl).2 (af.2 ⟨rfl,(.ret _)⟩)
  ·rw[decide_eq_false h1]
   cases on
   ·exact(ah rfl).2 (af.2 ⟨rfl,(ah rfl).2 ((ah rfl).2 (af.2 ⟨rfl,.ret _⟩))⟩)
   ·exact(ai rfl).2 (.ret _)
 ·rw[decide_eq_false h]
  exact Bz (af.2 ⟨rfl,(ai (fw h)).2 ((ai (fw h)).2 (.ret _))⟩) (af.2 ⟨rfl,(ai (fw h)).2 ((ai (fw h)).2 (.ret _))⟩)
def lY:(ao×Node×Bool)→(Node×Int):=fun(m,c,k)=>II m c k
def Ys:aB:=⟨[aY,aW,.bool], [aW,yI],(@tt (ao×Node×Bool)),lY⟩
theorem Rw:Sd 37 Ys:=aF ax bK true 182 [] (fun A (m,n,on)=>TD A m n on) (fc Tryz.func37 (fc Tryz.func90 (fc Tryz.func92 fz))) (sc LA (sc rU (sc sC (sc Du sz)))) fun(m,n,on) hp h=>abS
open Go.Ev.Pl
structure Xl where
 (a0:Int) (a1:Bool) (a2 a3:eT) (a4:Int) (a5:Bool) (a6 a7 a8 a9:Int) (bV:gb)
structure J4 where
 (b0:Int) (b1:Bool) (b2 b3:eT) (b4:Int) (b5:Bool) (b6 b7 b8 b9:Int) (b10:ao) (b11:Node) (b12:gb)
structure L9 where
 (c0:Int) (c1 c2:eT) (c3:Int) (c4:Bool) (c5 c6 c7 c8:Int) (c9:ao) (c10:Node) (c11:gb) (c12:cq)
structure Mt where
 (d0:Int) (d1 d2:eT) (d3:Int) (d4:Bool) (d5 d6 d7 d8:Int) (d9:ao) (fD:Node) (gX:gb)
inductive QD where
 | c0 (p:Xl)
 | c1 (p:J4)
 | c2 (p:L9)
 | c3 (p:Mt)
noncomputable def VD:QD→fL
 | .c0 p=>⟨[⟨59,85,(en [(6,.ptr 0 0),(10,.dp),(12,.ptr 1 0),(13,vi p.a0),(14,vb p.a1)]),[.code (cw Tryz.f59 [1,1,1,1,1,0,0]),.code (cw Tryz.f59 [1,1,1,1,1,0,1]),.code (cw Tryz.f59 [1,1,1,1,1,1])],[],none⟩],[.flat false [vi p.a2.1,vi p.a2.2.1,vi p.a2.2.2.1,vi p.a2.2.2.2.1,vi p.a2.2.2.2.2.1,vi p.a2.2.2.2.2.2.1,vi p.a2.2.2.2.2.2.2,vi p.a3.1,vi p.a3.2.1,vi p.a3.2.2.1,vi p.a3.2.2.2.1,vi p.a3.2.2.2.2.1,vi p.a3.2.2.2.2.2.1,vi p.a3.2.2.2.2.2.2,vi p.a4,vb p.a5,vi p.a6,vi p.a7,.bi true,.bi true,vi p.a8,vi p.a9],.flat false [vi p.bV.1,vi p.bV.2.1,vi p.bV.2.2.1.1,vi p.bV.2.2.1.2.1,vi p.bV.2.2.1.2.2.1,vi p.bV.2.2.1.2.2.2.1,vi p.bV.2.2.1.2.2.2.2,vi p.bV.2.2.2.1,.sl yU p.bV.2.2.2.2],.dead]⟩
 | .c1 p=>⟨[⟨59,85,(en [(6,.ptr 0 0),(10,.ptr 1 0),(12,.ptr 2 0),(13,vi p.b0),(14,vb p.b1)]),[.code (cw Tryz.f59 [1,1,1,1,1,0,0]),.code (cw Tryz.f59 [1,1,1,1,1,0,1]),.code (cw Tryz.f59 [1,1,1,1,1,1])],[],none⟩],[.flat false [vi p.b2.1,vi p.b2.2.1,vi p.b2.2.2.1,vi p.b2.2.2.2.1,vi p.b2.2.2.2.2.1,vi p.b2.2.2.2.2.2.1,vi p.b2.2.2.2.2.2.2,vi p.b3.1,vi p.b3.2.1,vi p.b3.2.2.1,vi p.b3.2.2.2.1,vi p.b3.2.2.2.2.1,vi p.b3.2.2.2.2.2.1,vi p.b3.2.2.2.2.2.2,vi p.b4,vb p.b5,vi p.b6,vi p.b7,.bi true,.bi true,vi p.b8,vi p.b9],.flat false [vi p.b10.1,vi p.b10.2.1,vi p.b10.2.2.1,vi p.b10.2.2.2.1,vi p.b10.2.2.2.2.1,vi p.b10.2.2.2.2.2.1,.sl .bool p.b10.2.2.2.2.2.2.1,.sl aV p.b10.2.2.2.2.2.2.2,vi p.b11.1,vi p.b11.2.1,vi p.b11.2.2.1.1,vi p.b11.2.2.1.2.1,vi p.b11.2.2.1.2.2.1,vi p.b11.2.2.1.2.2.2.1,vi p.b11.2.2.1.2.2.2.2,vi p.b11.2.2.2.1.1,vi p.b11.2.2.2.1.2.1,vi p.b11.2.2.2.1.2.2.1,vi p.b11.2.2.2.1.2.2.2.1,vi p.b11.2.2.2.1.2.2.2.2.1,vi p.b11.2.2.2.1.2.2.2.2.2.1,vi p.b11.2.2.2.1.2.2.2.2.2.2,vi p.b11.2.2.2.2.1,vb p.b11.2.2.2.2.2.1,vi p.b11.2.2.2.2.2.2.1,vi p.b11.2.2.2.2.2.2.2.1,.sl yU p.b11.2.2.2.2.2.2.2.2.1,.sl aR p.b11.2.2.2.2.2.2.2.2.2.1,vi p.b11.2.2.2.2.2.2.2.2.2.2.1,vi p.b11.2.2.2.2.2.2.2.2.2.2.2],.flat false [vi p.b12.1,vi p.b12.2.1,vi p.b12.2.2.1.1,vi p.b12.2.2.1.2.1,vi p.b12.2.2.1.2.2.1,vi p.b12.2.2.1.2.2.2.1,vi p.b12.2.2.1.2.2.2.2,vi p.b12.2.2.2.1,.sl yU p.b12.2.2.2.2],.dead]⟩
 | .c2 p=>⟨[⟨59,85,(en [(6,.ptr 0 0),(10,.ptr 1 0),(12,.ptr 2 0),(13,vi p.c0),(15,.ptr 3 0)]),[.code (cw Tryz.f59 [1,1,1,1,1,1,1,1,0]),.code (cw Tryz.f59 [1,1,1,1,1,1,1,1,1])],[],none⟩],[.flat false [vi p.c1.1,vi p.c1.2.1,vi p.c1.2.2.1,vi p.c1.2.2.2.1,vi p.c1.2.2.2.2.1,vi p.c1.2.2.2.2.2.1,vi p.c1.2.2.2.2.2.2,vi p.c2.1,vi p.c2.2.1,vi p.c2.2.2.1,vi p.c2.2.2.2.1,vi p.c2.2.2.2.2.1,vi p.c2.2.2.2.2.2.1,vi p.c2.2.2.2.2.2.2,vi p.c3,vb p.c4,vi p.c5,vi p.c6,.bi true,.bi true,vi p.c7,vi p.c8],.flat false [vi p.c9.1,vi p.c9.2.1,vi p.c9.2.2.1,vi p.c9.2.2.2.1,vi p.c9.2.2.2.2.1,vi p.c9.2.2.2.2.2.1,.sl .bool p.c9.2.2.2.2.2.2.1,.sl aV p.c9.2.2.2.2.2.2.2,vi p.c10.1,vi p.c10.2.1,vi p.c10.2.2.1.1,vi p.c10.2.2.1.2.1,vi p.c10.2.2.1.2.2.1,vi p.c10.2.2.1.2.2.2.1,vi p.c10.2.2.1.2.2.2.2,vi p.c10.2.2.2.1.1,vi p.c10.2.2.2.1.2.1,vi p.c10.2.2.2.1.2.2.1,vi p.c10.2.2.2.1.2.2.2.1,vi p.c10.2.2.2.1.2.2.2.2.1,vi p.c10.2.2.2.1.2.2.2.2.2.1,vi p.c10.2.2.2.1.2.2.2.2.2.2,vi p.c10.2.2.2.2.1,vb p.c10.2.2.2.2.2.1,vi p.c10.2.2.2.2.2.2.1,vi p.c10.2.2.2.2.2.2.2.1,.sl yU p.c10.2.2.2.2.2.2.2.2.1,.sl aR p.c10.2.2.2.2.2.2.2.2.2.1,vi p.c10.2.2.2.2.2.2.2.2.2.2.1,vi p.c10.2.2.2.2.2.2.2.2.2.2.2],.flat false [vi p.c11.1,vi p.c11.2.1,vi p.c11.2.2.1.1,vi p.c11.2.2.1.2.1,vi p.c11.2.2.1.2.2.1,vi p.c11.2.2.1.2.2.2.1,vi p.c11.2.2.1.2.2.2.2,vi p.c11.2.2.2.1,.sl yU p.c11.2.2.2.2],.flat false [vi p.c12.1,vi p.c12.2.1,vi p.c12.2.2.1,vi p.c12.2.2.2.1,vi p.c12.2.2.2.2],.dead]⟩
 | .c3 p=>⟨[⟨59,85,(en [(6,.ptr 0 0),(10,.ptr 1 0),(12,.ptr 2 0),(13,vi p.d0)]),[.code (cw Tryz.f59 [1,1,1,1,1,1,1,1,1,1,1,0]),.code (cw Tryz.f59 [1,1,1,1,1,1,1,1,1,1,1,1])],[],none⟩],[.flat false [vi p.d1.1,vi p.d1.2.1,vi p.d1.2.2.1,vi p.d1.2.2.2.1,vi p.d1.2.2.2.2.1,vi p.d1.2.2.2.2.2.1,vi p.d1.2.2.2.2.2.2,vi p.d2.1,vi p.d2.2.1,vi p.d2.2.2.1,vi p.d2.2.2.2.1,vi p.d2.2.2.2.2.1,vi p.d2.2.2.2.2.2.1,vi p.d2.2.2.2.2.2.2,vi p.d3,vb p.d4,vi p.d5,vi p.d6,.bi true,.bi true,vi p.d7,vi p.d8],.flat false [vi p.d9.1,vi p.d9.2.1,vi p.d9.2.2.1,vi p.d9.2.2.2.1,vi p.d9.2.2.2.2.1,vi p.d9.2.2.2.2.2.1,.sl .bool p.d9.2.2.2.2.2.2.1,.sl aV p.d9.2.2.2.2.2.2.2,vi p.fD.1,vi p.fD.2.1,vi p.fD.2.2.1.1,vi p.fD.2.2.1.2.1,vi p.fD.2.2.1.2.2.1,vi p.fD.2.2.1.2.2.2.1,vi p.fD.2.2.1.2.2.2.2,vi p.fD.2.2.2.1.1,vi p.fD.2.2.2.1.2.1,vi p.fD.2.2.2.1.2.2.1,vi p.fD.2.2.2.1.2.2.2.1,vi p.fD.2.2.2.1.2.2.2.2.1,vi p.fD.2.2.2.1.2.2.2.2.2.1,vi p.fD.2.2.2.1.2.2.2.2.2.2,vi p.fD.2.2.2.2.1,vb p.fD.2.2.2.2.2.1,vi p.fD.2.2.2.2.2.2.1,vi p.fD.2.2.2.2.2.2.2.1,.sl yU p.fD.2.2.2.2.2.2.2.2.1,.sl aR p.fD.2.2.2.2.2.2.2.2.2.1,vi p.fD.2.2.2.2.2.2.2.2.2.2.1,vi p.fD.2.2.2.2.2.2.2.2.2.2.2],.flat false [vi p.gX.1,vi p.gX.2.1,vi p.gX.2.2.1.1,vi p.gX.2.2.1.2.1,vi p.gX.2.2.1.2.2.1,vi p.gX.2.2.1.2.2.2.1,vi p.gX.2.2.1.2.2.2.2,vi p.gX.2.2.2.1,.sl yU p.gX.2.2.2.2],.dead]⟩
def Vp(A:a_)(m:ao)(n:Node)(seen:List Seen):LT (Node×Int×Bool×Int) QD:=.need (A.k (@tt (ao×Node)) (m,n)) (.br (A.c .neq (A.k dD (m,n)) 0) (.br (A.c .neq (A.k dD (m,n)) 0) (.ret ((0,0,(0,0,0,0,0),(0,0,0,0,0,0,0),0,false,0,0,([]:List Int),([]:List aU),0,0),0,false,(A.k dD (m,n)))) (.br (A.c .neq (A.l seen) 2) (.ret ((0,0,(0,0,0,0,0),(0,0,0,0,0,0,0),0,false,0,0,([]:List Int),([]:List aU),0,0),0,false,2)) (.need (A.k (@tt (Int×List Seen)) (m.1,seen)) (.more (.c0 ⟨(A.k iY (m.1,seen)).2.1,(A.k iY (m.1,seen)).2.2,(0,0,0,0,0,0,0),(0,0,0,0,0,0,0),0,false,0,0,0,0,(A.k iY (m.1,seen)).1⟩))))) (.br (A.not (A.c .eql n.2.1 1)) (.ret ((0,0,(0,0,0,0,0),(0,0,0,0,0,0,0),0,false,0,0,([]:List Int),([]:List aU),0,0),0,false,181)) (.need (A.k (@tt (bu×List Int)) (n.2.2.2.2.2.2.2,n.2.2.2.2.2.2.2.2.1)) (.br (A.c .neq (A.k bA (n.2.2.2.2.2.2.2,n.2.2.2.2.2.2.2.2.1)).2 0) (.br (A.c .neq (A.k bA (n.2.2.2.2.2.2.2,n.2.2.2.2.2.2.2.2.1)).2 0) (.ret ((0,0,(0,0,0,0,0),(0,0,0,0,0,0,0),0,false,0,0,([]:List Int),([]:List aU),0,0),0,false,(A.k bA (n.2.2.2.2.2.2.2,n.2.2.2.2.2.2.2.2.1)).2)) (.br (A.c .neq (A.l seen) 2) (.ret ((0,0,(0,0,0,0,0),(0,0,0,0,0,0,0),0,false,0,0,([]:List Int),([]:List aU),0,0),0,false,2)) (.need (A.k (@tt (Int×List Seen)) (m.1,seen)) (.more (.c0 ⟨(A.k iY (m.1,seen)).2.1,(A.k iY (m.1,seen)).2.2,(0,0,0,0,0,0,0),(0,0,0,0,0,0,0),0,false,0,0,0,0,(A.k iY (m.1,seen)).1⟩))))) (.br (A.c .neq (A.l seen) 2) (.ret ((0,0,(0,0,0,0,0),(0,0,0,0,0,0,0),0,false,0,0,([]:List Int),([]:List aU),0,0),0,false,2)) (.need (A.k (@tt (Int×List Seen)) (m.1,seen)) (.more (.c1 ⟨(A.k iY (m.1,seen)).2.1,(A.k iY (m.1,seen)).2.2,(0,0,0,0,0,0,0),(0,0,0,0,0,0,0),0,false,0,0,0,0,m,(n.1,n.2.1,n.2.2.1,n.2.2.2.1,n.2.2.2.2.1,n.2.2.2.2.2.1,n.2.2.2.2.2.2.1,(A.k bA (n.2.2.2.2.2.2.2,n.2.2.2.2.2.2.2.2.1)).1),(A.k iY (m.1,seen)).1⟩))))))))
def yl(A:a_):QD→LT (Node×Int×Bool×Int) QD
 | .c0 p=>.br (A.not p.a1) (.bad 73 "starctl.go:347") (.br (A.c .eql p.bV.1 1) (.need (A.c .leq 0 p.bV.2.2.2.1) (.bad 73 "starctl.go:329")) (.bad 73 "starctl.go:332"))
 | .c1 p=>.br (A.not p.b1) (.ret (p.b11,0,false,0)) (.br (A.c .eql p.b12.1 1) (.need (A.c .leq 0 p.b12.2.2.2.1) (.br (A.not (A.c .neq p.b12.2.2.2.1 p.b11.1)) (.ret (p.b11,0,false,0)) (.more (.c2 ⟨p.b0,p.b2,p.b3,p.b4,p.b5,p.b6,p.b7,p.b8,p.b9,p.b10,p.b11,p.b12,(0,p.b12.2.2.2.1,0,0,(A.b .shl .i64 1 p.b12.2.2.2.1))⟩)))) (.need (A.k (@tt ((Int×Int×Int×Int×Int)×Int)) (p.b12.2.2.1,p.b10.1)) (.br (A.c .eql (A.k jZ (p.b12.2.2.1,p.b10.1)) 0) (.br (A.c .lss p.b12.2.2.1.2.2.1 (A.l p.b10.2.2.2.2.2.2.2)) (.br (A.c .leq p.b12.2.2.1.2.2.2.1 (A.l p.b10.2.2.2.2.2.2.2)) (.br (A.c .neq p.b12.2.2.1.2.1 p.b11.1) (.need (A.k (@tt (cq×Int)) (p.b12.2.2.1,p.b12.2.2.1.2.1)) (.br (A.k EN (p.b12.2.2.1,p.b12.2.2.1.2.1)) (.need (A.k (@tt (ao×Int×Int)) (p.b10,p.b12.2.2.1.2.2.1,p.b12.2.2.1.2.1)) (.br (A.c .neq (A.k dJ (p.b10,p.b12.2.2.1.2.2.1,p.b12.2.2.1.2.1)).2 0) (.ret (p.b11,0,false,0)) (.br (A.c .eql (A.k dJ (p.b10,p.b12.2.2.1.2.2.1,p.b12.2.2.1.2.1)).1 3) (.br (A.c .neq (A.k dJ (p.b10,p.b12.2.2.1.2.2.1,p.b12.2.2.1.2.1)).1 0) (.br (A.c .eql (A.k dJ (p.b10,p.b12.2.2.1.2.2.1,p.b12.2.2.1.2.1)).1 p.b12.1) (.br (A.not (A.c .eql 0 (A.l p.b12.2.2.2.2))) (.ret (p.b11,0,false,0)) (.more (.c2 ⟨p.b0,p.b2,p.b3,p.b4,p.b5,p.b6,p.b7,p.b8,p.b9,p.b10,p.b11,p.b12,p.b12.2.2.1⟩))) (.ret (p.b11,0,false,0))) (.ret (p.b11,0,false,0))) (.need (A.and (A.c .leq 0 p.b12.2.2.1.2.2.1) (A.c .lss p.b12.2.2.1.2.2.1 (A.l p.b10.2.2.2.2.2.2.2))) (.need (A.and (A.c .leq 0 p.b12.2.2.1.2.1) (A.c .lss p.b12.2.2.1.2.1 (A.l (A.n aV p.b10.2.2.2.2.2.2.2 p.b12.2.2.1.2.2.1:Mode).1))) (.br (A.c .neq (A.k dJ (p.b10,p.b12.2.2.1.2.2.1,p.b12.2.2.1.2.1)).1 0) (.br (A.c .eql (A.k dJ (p.b10,p.b12.2.2.1.2.2.1,p.b12.2.2.1.2.1)).1 p.b12.1) (.br (A.not (A.c .eql (A.n yI (A.n aV p.b10.2.2.2.2.2.2.2 p.b12.2.2.1.2.2.1:Mode).1 p.b12.2.2.1.2.1:Int) (A.l p.b12.2.2.2.2))) (.ret (p.b11,0,false,0)) (.more (.c2 ⟨p.b0,p.b2,p.b3,p.b4,p.b5,p.b6,p.b7,p.b8,p.b9,p.b10,p.b11,p.b12,p.b12.2.2.1⟩))) (.ret (p.b11,0,false,0))) (.ret (p.b11,0,false,0)))))))) (.ret (p.b11,0,false,0)))) (.ret (p.b11,0,false,0))) (.ret (p.b11,0,false,0))) (.ret (p.b11,0,false,0))) (.ret (p.b11,0,false,0)))))
 | .c2 p=>.br (A.c .eql p.c11.1 4) (.need (A.k (@tt (bu×Int×List Int)) (p.c10.2.2.2.2.2.2.2,p.c12.2.1,p.c11.2.2.2.2)) (.need (A.k (@tt (bu×Int×List Int)) (p.c10.2.2.2.2.2.2.2,p.c12.2.1,p.c11.2.2.2.2)) (.br (A.c .eql (A.k lK (p.c10.2.2.2.2.2.2.2,p.c12.2.1,p.c11.2.2.2.2)).2 0) (.more (.c3 ⟨p.c0,p.c1,p.c2,p.c3,p.c4,p.c5,p.c6,p.c7,p.c8,p.c9,(p.c10.1,3,p.c12,(p.c10.1,p.c9.1,p.c12.2.2.2.2,1,0,0,0),0,false,0,(A.k lK (p.c10.2.2.2.2.2.2.2,p.c12.2.1,p.c11.2.2.2.2)).1),p.c11⟩)) (.more (.c3 ⟨p.c0,p.c1,p.c2,p.c3,p.c4,p.c5,p.c6,p.c7,p.c8,p.c9,(p.c10.1,3,p.c12,(p.c10.1,p.c9.1,p.c12.2.2.2.2,1,0,0,0),0,false,0,p.c10.2.2.2.2.2.2.2),p.c11⟩))))) (.more (.c3 ⟨p.c0,p.c1,p.c2,p.c3,p.c4,p.c5,p.c6,p.c7,p.c8,p.c9,(p.c10.1,3,p.c12,(p.c10.1,p.c9.1,p.c12.2.2.2.2,1,0,0,0),0,false,0,p.c10.2.2.2.2.2.2.2),p.c11⟩))
 | .c3 p=>.need (A.k (@tt (ao×cq×Int)) (p.d9,p.fD.2.2.1,p.gX.2.1)) (.need (A.k (@tt (ao×cq×Int)) (p.d9,p.fD.2.2.1,p.gX.2.1)) (.br (A.c .eql (A.k gD (p.d9,p.fD.2.2.1,p.gX.2.1)).2 0) (.ret ((p.fD.1,p.fD.2.1,(A.k gD (p.d9,p.fD.2.2.1,p.gX.2.1)).1,p.fD.2.2.2),p.d0,true,0)) (.ret (p.fD,p.d0,true,0))))
theorem O2{v l:Int}(h:l=v):aj.not (aj.c .eql v l)=false:=by rw[aI,decide_eq_true h.symm];rfl
theorem PH{v l:Int}(h:¬l=v):aj.not (aj.c .eql v l)=true:=by rw[aI,decide_eq_false (fun k=>h k.symm)];rfl
theorem Ho{p:Mt}:aA (yl aj) (.more (.c3 p)) ((p.fD.1,p.fD.2.1,gf p.d9 p.fD.2.2.1 p.gX.2.1,p.fD.2.2.2),p.d0,true,0):=by
 rw[ak,yl]
 refine af.2 ⟨rfl,?_⟩
 repeat' (refine af.2 ⟨rfl,?_⟩)
 refine ap (p:=(lF p.d9 p.fD.2.2.1 p.gX.2.1).2=0) aI (fun h=>?_) fun h=>?_
 ·exact au (by rw[gf,decide_eq_true h];rfl) (.ret _)
 ·exact au (by rw[gf,decide_eq_false h];rfl) (.ret _)
theorem Gj{p:L9}(h:p.c11.1=4→(nu p.c10.2.2.2.2.2.2.2 p.c12.2.1 p.c11.2.2.2.2).2=0):aA (yl aj) (.more (.c2 p)) (kZ p.c9 p.c10 p.c12 p.c11,p.c0,true,0):=by
 rw[ak,yl]
 refine ap (p:=p.c11.1=4) aI (fun g=>af.2 ⟨rfl,?_⟩) fun g=>au (by rw[kZ,decide_eq_false g];rfl) Ho
 repeat' (refine af.2 ⟨rfl,?_⟩)
 exact(ai (F9 (h g))).2 (au (by rw[kZ,decide_eq_true g];rfl) Ho)
theorem BO{m:ao}{k n:Int}(h:(bQ m k n).2=0):¬(bQ m k n).1=0:=by
 unfold bQ at h ⊢
 by_cases h1:fQ m n=0
 ·by_cases h2:0≤k∧k≤dB m-1
  ·rw[decide_eq_true h1,decide_eq_true h2,cond_true,cond_true]
   generalize (aj.n .bool (aj.n aV m.2.2.2.2.2.2.2 k:Mode).2.1 n:Bool)=a
   generalize (aj.n (.int .i64) (aj.n aV m.2.2.2.2.2.2.2 k:Mode).1 n:Int)=b
   show ¬jj (a,b)=0
   simp only[jj,t183,LT.val,Bool.cond_eq_ite]
   repeat' split
   all_goals decide
  ·rw[decide_eq_true h1,decide_eq_false h2,cond_true,cond_false] at h;exact absurd h (by decide)
 ·rw[decide_eq_false h1,cond_false] at h;exact absurd h h1
theorem Pr{p:J4}{m:ao}{n:Node}{f:gb}{t:Int}(h0:p.b0=t)(hi:p.b1=true)(h1:p.b10=m)(h2:p.b11=n)(hf:p.b12=f)(hl:0≤f.2.2.2.1)(hd:E6 m n f=true→(nu n.2.2.2.2.2.2.2 f.2.2.1.2.1 f.2.2.2.2).2=0)(hm:dV m=true):aA (yl aj) (.more (.c1 p)) (bif decide (f.1=1) then(bif decide (f.2.2.2.1=n.1) then(n,0,false,0) else(kZ m n (0,f.2.2.2.1,0,0,aj.b .shl .i64 1 f.2.2.2.1) f,t,true,0)) else bif E6 m n f then(kZ m n f.2.2.1 f,t,true,0) else(n,0,false,0)):=by
 rw[ak,yl,h0,hi,h1,h2,hf]
 refine(ah rfl).2 (ap (p:=f.1=1) aI (fun h=>af.2 ⟨decide_eq_true hl,?_⟩) fun h=>af.2 ⟨rfl,?_⟩)
 ·rw[decide_eq_true h,cond_true]
  by_cases g:f.2.2.2.1=n.1
  ·rw[decide_eq_true g]
   exact(ai (by rw[aS,decide_eq_false (not_not_intro g)];rfl)).2 (.ret _)
  ·rw[decide_eq_false g]
   exact(ah (by rw[aS,decide_eq_true g];rfl)).2 (Gj fun k=>by
    have:f.1=4:=k
    omega)
 rw[decide_eq_false h,cond_false]
 rw[show aj.k jZ (f.2.2.1,m.1)=g_ (f.2.2.1,m.1) from rfl,show aj.k dJ (m,f.2.2.1.2.2.1,f.2.2.1.2.1)=bQ m f.2.2.1.2.2.1 f.2.2.1.2.1 from rfl,show aj.k EN (f.2.2.1,f.2.2.1.2.1)=EP f.2.2.1 f.2.2.1.2.1 from rfl]
 obtain⟨R,hR⟩:∃R:Node×Int×Bool×Int,R=bif E6 m n f then(kZ m n f.2.2.1 f,t,true,0) else(n,0,false,0):=⟨_,rfl⟩
 rw[←hR]
 have no:E6 m n f=false→aA (yl aj) (.ret (n,0,false,0)) R:=fun e=>au (by rw[hR,e];rfl) (.ret _)
 have yes:∀{a b c d e g i j},E6 m n f=true→aA (yl aj) (.more (.c2 ⟨t,a,b,c,d,e,g,i,j,m,n,f,f.2.2.1⟩)) R:=fun e=>au (by rw[hR,e];rfl) (Gj fun _=>hd e)
 unfold E6 eZ at no yes
 refine ap (p:=g_ (f.2.2.1,m.1)=0) aI (fun g1=>ap (p:=f.2.2.1.2.2.1<dB m) rfl (fun g2=>ap (p:=f.2.2.1.2.2.2.1≤dB m) rfl (fun g3=>ap (p:=¬f.2.2.1.2.1=n.1) aS (fun g4=>af.2 ⟨rfl,?_⟩) fun g=>(no ?_)) fun g=>(no ?_)) fun g=>(no ?_)) fun g=>(no ?_)
 ·rw[decide_eq_true g1,decide_eq_true g2,decide_eq_true g3,decide_eq_true g4] at no yes
  cases hh:EP f.2.2.1 f.2.2.1.2.1
  ·exact(ah rfl).2 ((no (by rw[hh];rfl)))
  rw[hh] at no yes
  have hc:=(qR g1).2.2.2.1
  refine(ai rfl).2 (af.2 ⟨rfl,?_⟩)
  unfold kI at no yes
  refine ap (p:=¬(bQ m f.2.2.1.2.2.1 f.2.2.1.2.1).2=0) aS (fun k1=>((no (by rw[decide_eq_false k1];rfl)))) fun k1=>?_
  have k1:=Decidable.not_not.1 k1
  have kn:=BO k1
  obtain⟨_,hn,hk⟩:=jD k1
  have hx:=(gk (jL hm hk.1 hk.2)).1
  rw[decide_eq_true k1] at no yes
  refine ap (p:=(bQ m f.2.2.1.2.2.1 f.2.2.1.2.1).1=3) aI (fun k2=>(ai (by rw[aS];exact decide_eq_true kn)).2 (ap (p:=(bQ m f.2.2.1.2.2.1 f.2.2.1.2.1).1=f.1) aI (fun k3=>?_) fun k3=>((no ?_)))) fun k2=>af.2 ⟨iy hk.1 hk.2,af.2 ⟨gV hx hn.1 (by omega),(ai (by rw[aS];exact decide_eq_true kn)).2 (ap (p:=(bQ m f.2.2.1.2.2.1 f.2.2.1.2.1).1=f.1) aI (fun k3=>?_) fun k3=>((no ?_)))⟩⟩
  ·rw[decide_eq_true k2,decide_eq_true k3.symm] at no yes
   by_cases k4:(f.2.2.2.2.length:Int)=0
   ·exact(ah (by rw[fN,aI,decide_eq_true k4.symm];rfl)).2 (yes (decide_eq_true k4))
   ·exact(ai (by rw[fN,aI,decide_eq_false (fun k=>k4 k.symm)];rfl)).2 (no (decide_eq_false k4))
  ·rw[decide_eq_false (fun k=>k3 k.symm)];rfl
  ·rw[decide_eq_false k2,decide_eq_true k3.symm] at no yes
   by_cases k4:(f.2.2.2.2.length:Int)=(aj.n (.int .i64) (aj.n aV m.2.2.2.2.2.2.2 f.2.2.1.2.2.1:Mode).1 f.2.2.1.2.1:Int)
   ·exact(ah (O2 k4)).2 (yes (decide_eq_true k4))
   ·exact(ai (PH k4)).2 (no (decide_eq_false k4))
  ·rw[decide_eq_false (fun k=>k3 k.symm)];rfl
 ·rw[decide_eq_false g,Bool.false_and,Bool.and_false]
 ·rw[decide_eq_false g,Bool.and_false,Bool.and_false];rfl
 ·rw[decide_eq_false g,Bool.false_and,Bool.and_false];rfl
 ·rw[decide_eq_false g,Bool.false_and];rfl
theorem XN{m:ao}{n:Node}{seen:List Seen}:aA (yl aj) (Vp aj m n seen) (ny m n seen false):=by
 unfold Vp ny
 refine af.2 ⟨rfl,?_⟩
 rw[show aj.k dD (m,n)=bU m n from rfl,show aj.k bA (n.2.2.2.2.2.2.2,n.2.2.2.2.2.2.2.2.1)=BX n.2.2.2.2.2.2.2 n.2.2.2.2.2.2.2.2.1 from rfl]
 by_cases h:bU m n=0
 ·rw[decide_eq_true h,om h,aI]
  refine(ah (gY h)).2 ?_
  cases decide (n.2.1=1)
  ·exact(ai rfl).2 (.ret _)
  refine(ah rfl).2 (af.2 ⟨rfl,(ah rfl).2 (ap (p:=¬(seen.length:Int)=2) aS (fun h2=>au (by rw[decide_eq_false h2];rfl) (.ret _)) fun h2=>af.2 ⟨rfl,?_⟩)⟩)
  rw[decide_eq_true (Decidable.not_not.1 h2),show aj.k iY (m.1,seen)=fF m.1 seen from rfl]
  cases he:(fF m.1 seen).2.2
  ·rw[ak,yl]
   exact(ai rfl).2 (.ret _)
  obtain⟨e1,e2,e3⟩:=NL he
  have hl:=K4 e3
  exact Pr (m:=m) (n:=n) (f:=(fF m.1 seen).1) (t:=(fF m.1 seen).2.1) rfl rfl rfl rfl rfl hl.1 (Nn h e3) (dz h).1
 ·rw[decide_eq_false h];exact(ai (fw h)).2 ((ai (fw h)).2 (.ret _))
def gB:(ao×Node×List Seen)→(Node×Int×Bool×Int):=fun(m,n,s)=>ny m n s false
def X2:aB:=⟨[aY,aW,(.slice fA)], [aW,yI,.bool,yI],(@tt (ao×Node×List Seen)),gB⟩
theorem RD:Sd 59 X2:=aL ax bK true 132 [] [⟨59,7, [[6,10,12,13,14]]⟩,⟨59,12, [[6,10,12,13,15]]⟩,⟨59,16, [[6,10,12,13]]⟩] (fun A (m,n,seen)=>Vp A m n seen) yl VD (fc Tryz.func59 (fc Tryz.func90 (fc Tryz.func91 (fc Tryz.func124 (fc Tryz.func126 (fc Tryz.func127 (fc Tryz.func137 (fc Tryz.func187 fz)))))))) (sc yZ (sc rU (sc Sf (sc sC (sc RP (sc G3 (sc Bt (sc EK sz)))))))) (fun A y=>match y with |.c0 p=>⟨42,by kernel_rfl,by kernel_rfl⟩|.c1 p=>⟨226,by kernel_rfl,by kernel_rfl⟩|.c2 p=>⟨124,by kernel_rfl,by kernel_rfl⟩|.c3 p=>⟨58,by kernel_rfl,by kernel_rfl⟩) fun(m,n,seen) hp h=>XN
def QB(A:a_)(id:Int):LT (List Seen) Empty:=.need (A.k (@tt ((Int×Int×(Int×Int×Int×Int×Int)×Int×List Int))) (1,0,(0,0,0,0,0),id,([]:List Int))) (.ret [(2,9,(A.k acx (1,0,(0,0,0,0,0),id,([]:List Int))).1),(0,0,0,([]:List Int))])
def vJ:Int→(List Seen):=fun id=>(QB aj id).val (Ty.bE [(.slice fA)])
def ZS:aB:=⟨[yI], [(.slice fA)],(@tt Int),vJ⟩
theorem ac5:Sd 85 ZS:=aJ ax bK true 30 [] (fun A id=>QB A id) (fc Tryz.func85 fz) (sc aiO sz) (fun(id:Int) hp h=>by
 show(QB aj id).pre=true
 simp[QB,LT.pre,al,bH])
def Pe(A:a_)(n:Node):LT Bool Empty:=.ret (A.c .leq (A.l n.2.2.2.2.2.2.2.2.2.1) 20)
def lf:Node→Bool:=fun n=>(Pe aj n).val (Ty.bE [.bool])
def adp:aB:=⟨[aW], [.bool],(@tt Node),lf⟩
theorem G6:Sd 32 adp:=aJ ax bK true 20 [] (fun A n=>Pe A n) (fc Tryz.func32 fz) sz (fun(n:Node) hp h=>by
 show(Pe aj n).pre=true
 simp[Pe,LT.pre,al,bH])
def O5(A:a_)(l:List Seen):LT (List Seen) Empty:=.need (A.and (A.c .leq 0 0) (A.and (A.c .leq 0 (A.mn (A.l l) 9)) (A.c .leq (A.mn (A.l l) 9) (A.l l)))) (.ret (A.s l 0 (A.mn (A.l l) 9)))
def ck:(List Seen)→(List Seen):=fun l=>(O5 aj l).val (Ty.bE [(.slice fA)])
def XK:aB:=⟨[(.slice fA)], [(.slice fA)],(@tt (List Seen)),ck⟩
theorem Rx:Sd 53 XK:=aJ ax bK true 19 [] (fun A l=>O5 A l) (fc Tryz.func53 fz) sz (fun(l:List Seen) hp h=>by
 show(O5 aj l).pre=true
 simp only[O5,LT.pre];exact(Bool.and_true _).trans (Wh (l:=l)))
structure Us where
 (a0 a1 a2 a3 a4 a5 a6 a7 a8 a9:Int) (bV:Node) (dT:List Bool) (a12:List Int) (lk ku:List Bool)
inductive Pn where
 | c0 (p:Us)
noncomputable def S8:Pn→fL
 | .c0 p=>⟨[⟨31,71,(en [(1,.ptr 0 0),(2,vi p.a0),(3,.ptr 1 0),(4,vi p.a1)]),[.code (cw Tryz.f31 [1,1,1,0]),.code (cw Tryz.f31 [1,1,1,1])],[],none⟩],[.flat false [vi p.a2,vi p.a3,vi p.a4,vi p.a5,vi p.a6,vi p.a7,.own 2,.mz 3 3 false p.a8 p.a9],.flat false [vi p.bV.1,vi p.bV.2.1,vi p.bV.2.2.1.1,vi p.bV.2.2.1.2.1,vi p.bV.2.2.1.2.2.1,vi p.bV.2.2.1.2.2.2.1,vi p.bV.2.2.1.2.2.2.2,vi p.bV.2.2.2.1.1,vi p.bV.2.2.2.1.2.1,vi p.bV.2.2.2.1.2.2.1,vi p.bV.2.2.2.1.2.2.2.1,vi p.bV.2.2.2.1.2.2.2.2.1,vi p.bV.2.2.2.1.2.2.2.2.2.1,vi p.bV.2.2.2.1.2.2.2.2.2.2,vi p.bV.2.2.2.2.1,vb p.bV.2.2.2.2.2.1,vi p.bV.2.2.2.2.2.2.1,vi p.bV.2.2.2.2.2.2.2.1,.sl yU p.bV.2.2.2.2.2.2.2.2.1,.sl aR p.bV.2.2.2.2.2.2.2.2.2.1,vi p.bV.2.2.2.2.2.2.2.2.2.2.1,vi p.bV.2.2.2.2.2.2.2.2.2.2.2],.arr true .bool p.dT,.flat true [.sl yI p.a12,.sl .bool p.lk,.sl .bool p.ku],.dead]⟩
def Vz(A:a_):LT Bool Pn:=.need (A.c .leq (A.l ([true]:List Bool)) 140737488355328) (.need (A.c .leq (A.l ([2]:List Int)) 17592186044416) (.need (A.c .leq (A.l ([true]:List Bool)) 140737488355328) (.need (A.c .leq (A.l (A.p [true] [true])) 140737488355328) (.need (A.c .leq (A.l (A.p ([2]:List Int) ([2]:List Int))) 17592186044416) (.need (A.c .leq (A.l (A.p [true] [true])) 140737488355328) (.need (A.c .leq (A.l (A.p (A.p [true] [true]) [true])) 140737488355328) (.need (A.c .leq (A.l (A.p (A.p ([2]:List Int) ([2]:List Int)) ([2]:List Int))) 17592186044416) (.need (A.c .leq (A.l (A.p (A.p [true] [true]) [true])) 140737488355328) (.need (A.c .leq (A.l (A.p (A.p (A.p [true] [true]) [true]) [true])) 140737488355328) (.need (A.c .leq (A.l (A.p (A.p (A.p ([2]:List Int) ([2]:List Int)) ([2]:List Int)) ([2]:List Int))) 17592186044416) (.need (A.c .leq (A.l (A.p (A.p (A.p [true] [true]) [true]) [true])) 140737488355328) (.need (A.k (@tt ao) (4,0,38,16,0,1,(A.p (A.p (A.p [true] [true]) [true]) [true]), [((A.p (A.p (A.p ([2]:List Int) ([2]:List Int)) ([2]:List Int)) ([2]:List Int)),(A.p (A.p (A.p [true] [true]) [true]) [true]), [true])])) (.need (A.k (@tt (ao×Int)) ((4,(A.b .add .i64 76 (A.k vI (4,0,38,16,0,1,(A.p (A.p (A.p [true] [true]) [true]) [true]), [((A.p (A.p (A.p ([2]:List Int) ([2]:List Int)) ([2]:List Int)) ([2]:List Int)),(A.p (A.p (A.p [true] [true]) [true]) [true]), [true])]))),38,16,0,1,(A.p (A.p (A.p [true] [true]) [true]) [true]), [((A.p (A.p (A.p ([2]:List Int) ([2]:List Int)) ([2]:List Int)) ([2]:List Int)),(A.p (A.p (A.p [true] [true]) [true]) [true]), [true])]),1)) (.more (.c0 ⟨0,(A.k l5 ((4,(A.b .add .i64 76 (A.k vI (4,0,38,16,0,1,(A.p (A.p (A.p [true] [true]) [true]) [true]), [((A.p (A.p (A.p ([2]:List Int) ([2]:List Int)) ([2]:List Int)) ([2]:List Int)),(A.p (A.p (A.p [true] [true]) [true]) [true]), [true])]))),38,16,0,1,(A.p (A.p (A.p [true] [true]) [true]) [true]), [((A.p (A.p (A.p ([2]:List Int) ([2]:List Int)) ([2]:List Int)) ([2]:List Int)),(A.p (A.p (A.p [true] [true]) [true]) [true]), [true])]),1)).2,4,(A.b .add .i64 76 (A.k vI (4,0,38,16,0,1,(A.p (A.p (A.p [true] [true]) [true]) [true]), [((A.p (A.p (A.p ([2]:List Int) ([2]:List Int)) ([2]:List Int)) ([2]:List Int)),(A.p (A.p (A.p [true] [true]) [true]) [true]), [true])]))),38,16,0,1,0,1,(A.k l5 ((4,(A.b .add .i64 76 (A.k vI (4,0,38,16,0,1,(A.p (A.p (A.p [true] [true]) [true]) [true]), [((A.p (A.p (A.p ([2]:List Int) ([2]:List Int)) ([2]:List Int)) ([2]:List Int)),(A.p (A.p (A.p [true] [true]) [true]) [true]), [true])]))),38,16,0,1,(A.p (A.p (A.p [true] [true]) [true]) [true]), [((A.p (A.p (A.p ([2]:List Int) ([2]:List Int)) ([2]:List Int)) ([2]:List Int)),(A.p (A.p (A.p [true] [true]) [true]) [true]), [true])]),1)).1,(A.p (A.p (A.p [true] [true]) [true]) [true]),(A.p (A.p (A.p ([2]:List Int) ([2]:List Int)) ([2]:List Int)) ([2]:List Int)),(A.p (A.p (A.p [true] [true]) [true]) [true]), [true]⟩)))))))))))))))
def Tj(A:a_):Pn→LT Bool Pn
 | .c0 p=>.need (A.k (@tt (ao×Node×Bool)) ((p.a2,p.a3,p.a4,p.a5,p.a6,p.a7,p.dT,(A.s [(p.a12,p.lk,p.ku)] p.a8 (A.b .add .i64 p.a8 p.a9))),p.bV,true)) (.need (A.k (@tt Int) 2) (.need (A.k (@tt (ao×Node×List Seen)) ((p.a2,p.a3,p.a4,p.a5,p.a6,p.a7,p.dT,(A.s [(p.a12,p.lk,p.ku)] p.a8 (A.b .add .i64 p.a8 p.a9))),(A.k lY ((p.a2,p.a3,p.a4,p.a5,p.a6,p.a7,p.dT,(A.s [(p.a12,p.lk,p.ku)] p.a8 (A.b .add .i64 p.a8 p.a9))),p.bV,true)).1,(A.k vJ 2))) (.br (A.c .eql p.a0 0) (.br (A.c .eql p.a1 0) (.br (A.c .eql (A.k lY ((p.a2,p.a3,p.a4,p.a5,p.a6,p.a7,p.dT,(A.s [(p.a12,p.lk,p.ku)] p.a8 (A.b .add .i64 p.a8 p.a9))),p.bV,true)).2 0) (.br (A.c .eql (A.k gB ((p.a2,p.a3,p.a4,p.a5,p.a6,p.a7,p.dT,(A.s [(p.a12,p.lk,p.ku)] p.a8 (A.b .add .i64 p.a8 p.a9))),(A.k lY ((p.a2,p.a3,p.a4,p.a5,p.a6,p.a7,p.dT,(A.s [(p.a12,p.lk,p.ku)] p.a8 (A.b .add .i64 p.a8 p.a9))),p.bV,true)).1,(A.k vJ 2))).2.2.2 0) (.br (A.c .eql (A.k gB ((p.a2,p.a3,p.a4,p.a5,p.a6,p.a7,p.dT,(A.s [(p.a12,p.lk,p.ku)] p.a8 (A.b .add .i64 p.a8 p.a9))),(A.k lY ((p.a2,p.a3,p.a4,p.a5,p.a6,p.a7,p.dT,(A.s [(p.a12,p.lk,p.ku)] p.a8 (A.b .add .i64 p.a8 p.a9))),p.bV,true)).1,(A.k vJ 2))).2.1 9) (.br (A.k gB ((p.a2,p.a3,p.a4,p.a5,p.a6,p.a7,p.dT,(A.s [(p.a12,p.lk,p.ku)] p.a8 (A.b .add .i64 p.a8 p.a9))),(A.k lY ((p.a2,p.a3,p.a4,p.a5,p.a6,p.a7,p.dT,(A.s [(p.a12,p.lk,p.ku)] p.a8 (A.b .add .i64 p.a8 p.a9))),p.bV,true)).1,(A.k vJ 2))).2.2.1 (.br (A.c .eql (A.k gB ((p.a2,p.a3,p.a4,p.a5,p.a6,p.a7,p.dT,(A.s [(p.a12,p.lk,p.ku)] p.a8 (A.b .add .i64 p.a8 p.a9))),(A.k lY ((p.a2,p.a3,p.a4,p.a5,p.a6,p.a7,p.dT,(A.s [(p.a12,p.lk,p.ku)] p.a8 (A.b .add .i64 p.a8 p.a9))),p.bV,true)).1,(A.k vJ 2))).1.2.1 3) (.br (A.c .eql (A.k gB ((p.a2,p.a3,p.a4,p.a5,p.a6,p.a7,p.dT,(A.s [(p.a12,p.lk,p.ku)] p.a8 (A.b .add .i64 p.a8 p.a9))),(A.k lY ((p.a2,p.a3,p.a4,p.a5,p.a6,p.a7,p.dT,(A.s [(p.a12,p.lk,p.ku)] p.a8 (A.b .add .i64 p.a8 p.a9))),p.bV,true)).1,(A.k vJ 2))).1.2.2.1.2.1 2) (.ret (A.c .eql (A.k gB ((p.a2,p.a3,p.a4,p.a5,p.a6,p.a7,p.dT,(A.s [(p.a12,p.lk,p.ku)] p.a8 (A.b .add .i64 p.a8 p.a9))),(A.k lY ((p.a2,p.a3,p.a4,p.a5,p.a6,p.a7,p.dT,(A.s [(p.a12,p.lk,p.ku)] p.a8 (A.b .add .i64 p.a8 p.a9))),p.bV,true)).1,(A.k vJ 2))).1.2.2.1.2.2.2.2 4)) (.ret false)) (.ret false)) (.ret false)) (.ret false)) (.ret false)) (.ret false)) (.ret false)) (.ret false))))
theorem Jl:aA (Tj aj) (Vz aj) true:=by
 unfold Vz
 repeat' (refine af.2 ⟨by kernel_rfl,?_⟩)
 rw[ak,Tj]
 repeat' (refine af.2 ⟨by kernel_rfl,?_⟩)
 refine(ai (by kernel_rfl)).2 ((ai (by kernel_rfl)).2 ((ai (by kernel_rfl)).2 ((ai (by kernel_rfl)).2 ((ai (by kernel_rfl)).2 ((ai (by kernel_rfl)).2 ((ai (by kernel_rfl)).2 ((ai (by kernel_rfl)).2 (au (by kernel_rfl) (.ret _)))))))))
def ic:Unit→Bool:=fun _=>true
def aaj:aB:=⟨[], [.bool],(@tt Unit),ic⟩
theorem GV:Sd 31 aaj:=aL ax bK true 313 [] [⟨31,3, [[1,2,3,4]]⟩] (fun A _=>Vz A) Tj S8 (fc Tryz.func31 (fc Tryz.func60 fz)) (sc Si (sc RD (sc LA (sc Rw (sc ac5 sz))))) (fun A y=>match y with |.c0 p=>⟨73,by kernel_rfl,by kernel_rfl⟩) fun _ hp h=>Jl
end Go.Ev.M
