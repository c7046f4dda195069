/-
  PROVED: what starctl.Check, New, Power and Hear compute. Conditions: none.
-/
import Derived.Test.YteldjjjcdpnnbaaGreatCc
namespace Go.Ev.M
open Go.Proofs
set_option maxRecDepth 100000
set_option linter.unusedVariables false
set_option linter.unusedSimpArgs false
open Go.Ev.Pl
def Sm(A:bi)(m:ak)(id:Int):LT (Node×Int) Empty:=.need (A.k (@tt ak) m) (.br (A.c .neq (A.k iQ m) 0) (.ret ((0,0,(0,0,0,0,0),(0,0,0,0,0,0,0),0,false,0,0,([]:List Int),([]:List bW),0,0),(A.k iQ m))) (.need (A.k (@tt (Int×Int)) (id,m.1)) (.br (A.c .eql (A.k xD (id,m.1)).2 0) (.ret ((id,0,(0,0,0,0,0),(0,0,0,0,0,0,0),0,false,0,(A.k xD (id,m.1)).1),0)) (.ret ((0,0,(0,0,0,0,0),(0,0,0,0,0,0,0),0,false,0,0,([]:List Int),([]:List bW),0,0),2)))))
theorem RR{m:ak}{id:Int}:aA Empty.elim (Sm aj m id) (pq m id):=by
 unfold Sm pq
 refine af.2 ⟨rfl,?_⟩
 rw[show aj.k iQ m=kp m from rfl,kp]
 cases hm:dy m
 ·exact(ai rfl).2 (.ret _)
 refine(ah rfl).2 (af.2 ⟨rfl,?_⟩)
 rw[show aj.k xD (id,m.1)=DK id m.1 from rfl,DK,decide_eq_true (cy hm).1,cond_true,cond_true]
 cases decide (0≤id∧id≤m.1-1)
 ·exact(ah rfl).2 (.ret _)
 ·exact(ai rfl).2 (.ret _)
def qX:(ak×Int)→(Node×Int):=fun(m,n)=>pq m n
def Y1:aD:=⟨[bd,yI], [aQ,yI],(@tt (ak×Int)),qX⟩
theorem Pb:Sd 33 Y1:=aK au cK true 54 [] (fun A (m,id)=>Sm A m id) (fc Tryz.func33 fz) (sc y2 (sc Pg sz)) fun(m,id) hp h=>RR
def RB(A:bi)(n:Node):LT Bool Empty:=.br (A.c .eql n.2.1 2) (.ret true) (.br (A.c .eql n.2.1 3) (.ret true) (.br (A.c .eql n.2.1 4) (.ret true) (.ret false)))
theorem acP{n:Node}:aA Empty.elim (RB aj n) (gb n):=by
 unfold RB gb
 refine ax (p:=n.2.1=2) aH (fun h=>ay (decide_eq_true (by omega)).symm (.ret _)) fun h1=>ax (p:=n.2.1=3) aH (fun h=>ay (decide_eq_true (by omega)).symm (.ret _)) fun h2=>ax (p:=n.2.1=4) aH (fun h=>ay (decide_eq_true (by omega)).symm (.ret _)) fun h3=>ay (decide_eq_false (by omega)).symm (.ret _)
def jU:Node→Bool:=gb
def Yz:aD:=⟨[aQ], [.bool],(@tt Node),jU⟩
theorem Cu:Sd 35 Yz:=aK au cK true 51 [] (fun A n=>RB A n) (fc Tryz.func35 fz) sz fun n hp h=>acP
def SE(A:bi)(s:Span)(n:Int):LT Bool Empty:=.br (A.c .geq n s.1) (.ret (A.c .leq n s.2)) (.ret false)
def RN(s:Span)(n:Int):Bool:=decide (s.1≤n∧n≤s.2)
theorem adk{s:Span}{n:Int}:aA Empty.elim (SE aj s n) (RN s n):=by
 unfold SE RN
 refine ax (p:=s.1≤n) rfl (fun h=>?_) fun h=>ay (decide_eq_false (fun k=>h k.1)).symm (.ret _)
 exact ay (by rw[aB,Bool.eq_iff_iff];simp[h]) (.ret _)
def rE:(Span×Int)→Bool:=fun(m,n)=>RN m n
def aaf:aD:=⟨[Zl,yI], [.bool],(@tt (Span×Int)),rE⟩
theorem IJ:Sd 86 aaf:=aK au cK true 25 [] (fun A (s,n)=>SE A s n) (fc Tryz.func86 fz) sz fun(s,n) hp h=>adk
def SP(A:bi)(m:ak)(n:Node):LT Bool Empty:=.br (A.c .eql n.2.1 1) (.need (A.k (@tt (ak×Int)) (m,n.1)) (.br (A.c .eql (A.k pE (m,n.1)).2 0) (.need (A.k (@tt (Span×Int)) ((1,(A.k pE (m,n.1)).1),n.2.2.2.2.1)) (.ret (A.k rE ((1,(A.k pE (m,n.1)).1),n.2.2.2.2.1)))) (.ret false))) (.br (A.c .eql n.2.2.2.2.1 0) (.br (A.not n.2.2.2.2.2.1) (.ret true) (.ret (A.c .eql n.2.1 2))) (.ret false))
theorem L5{m:ak}{n:Int}(h:¬(jZ m n).2=0):(jZ m n).1=0:=by
 unfold jZ at h ⊢
 by_cases h1:gw m n=0
 ·rw[decide_eq_true h1] at h;exact absurd rfl h
 ·rw[decide_eq_false h1];rfl
theorem Tv{m:ak}{n:Node}:aA Empty.elim (SP aj m n) (nj m n&&oR n):=by
 unfold SP nj oR
 refine ax (p:=n.2.1=1) aH (fun h=>af.2 ⟨rfl,?_⟩) fun h=>ax (p:=n.2.2.2.2.1=0) aH (fun h1=>?_) fun h1=>?_
 ·rw[show aj.k pE (m,n.1)=jZ m n.1 from rfl,decide_eq_true h,decide_eq_true (show n.2.1=1∨n.2.1=2 from .inl h)]
  have e:(bif n.2.2.2.2.2.1 then true else true)=true:=by cases n.2.2.2.2.2.1<;>rfl
  rw[e,Bool.and_true,cond_true]
  refine ax (p:=(jZ m n.1).2=0) aH (fun h2=>af.2 ⟨rfl,.ret _⟩) fun h2=>ay (decide_eq_false ?_).symm (.ret _)
  have:=L5 h2
  omega
 ·rw[decide_eq_false h,decide_eq_true h1]
  cases n.2.2.2.2.2.1
  ·exact(ai rfl).2 (.ret _)
  ·refine(ah rfl).2 (ay ?_ (.ret _))
   rw[aH,Bool.eq_iff_iff];simp;omega
 ·rw[decide_eq_false h,decide_eq_false h1]
  exact .ret _
def O1:(ak×Node)→Bool:=fun(m,n)=>nj m n&&oR n
def Y_:aD:=⟨[bd,aQ], [.bool],(@tt (ak×Node)),O1⟩
theorem VQ:Sd 87 Y_:=aK au cK true 45 [] (fun A (m,n)=>SP A m n) (fc Tryz.func87 fz) (sc IJ (sc Cz sz)) fun(m,n) hp h=>Tv
def Sj(A:bi)(m:ak)(n:Node):LT Bool Empty:=.need (A.k (@tt ((Int×Int×Int×Int×Int)×Int)) (n.2.2.1,m.1)) (.br (A.c .eql (A.k jH (n.2.2.1,m.1)) 0) (.br (A.c .lss n.2.2.1.2.2.1 (A.l m.2.2.2.2.2.2.2)) (.need (A.k (@tt ((Int×Int×Int×Int×Int×Int×Int))) n.2.2.2.1) (.br (A.c .eql (A.k iB n.2.2.2.1) 0) (.br (A.c .eql n.2.2.2.1.1 n.1) (.br (A.c .leq n.2.2.1.2.2.2.1 (A.l m.2.2.2.2.2.2.2)) (.br (A.c .eql n.2.2.2.1.2.1 m.1) (.br (A.c .eql n.2.2.1.2.2.2.2 n.2.2.2.1.2.2.1) (.br (A.c .neq n.2.1 2) (.ret true) (.need (A.and (A.c .leq 0 n.1) (A.c .lss n.1 (A.l m.2.2.2.2.2.2.1))) (.ret (A.n .bool m.2.2.2.2.2.2.1 n.1:Bool)))) (.ret false)) (.ret false)) (.ret false)) (.br (A.c .leq n.2.2.1.2.2.2.1 (A.l m.2.2.2.2.2.2.2)) (.ret false) (.ret false))) (.br (A.c .leq n.2.2.1.2.2.2.1 (A.l m.2.2.2.2.2.2.2)) (.ret false) (.ret false)))) (.need (A.k (@tt ((Int×Int×Int×Int×Int×Int×Int))) n.2.2.2.1) (.br (A.c .eql (A.k iB n.2.2.2.1) 0) (.br (A.c .eql n.2.2.2.1.1 n.1) (.ret false) (.ret false)) (.ret false)))) (.need (A.k (@tt ((Int×Int×Int×Int×Int×Int×Int))) n.2.2.2.1) (.br (A.c .eql (A.k iB n.2.2.2.1) 0) (.br (A.c .eql n.2.2.2.1.1 n.1) (.ret false) (.ret false)) (.ret false))))
def Ha(m:ak)(n:Node):Bool:=dp m n.2.2.1&&(decide (gS n.2.2.2.1=0)&&(decide (n.2.2.2.1.1=n.1)&&(decide (n.2.2.2.1.2.1=m.1)&&(decide (n.2.2.1.2.2.2.2=n.2.2.2.1.2.2.1)&&rz m n))))
theorem y8{R Y:Type}{step:Y→LT R Y}{b:Bool}{t e:LT R Y}{r:R}(h1:aA step t r)(h2:aA step e r):aA step (.br b t e) r:=by
 cases b
 ·exact(ah rfl).2 h2
 ·exact(ai rfl).2 h1
theorem ac5{m:ak}{n:Node}(h0:0≤n.1)(h1:n.1<(m.2.2.2.2.2.2.1.length:Int)):aA Empty.elim (Sj aj m n) (Ha m n):=by
 unfold Sj Ha dp rz
 refine af.2 ⟨rfl,?_⟩
 rw[show aj.k jH (n.2.2.1,m.1)=gm (n.2.2.1,m.1) from rfl,show aj.k iB n.2.2.2.1=gS n.2.2.2.1 from Ni]
 refine ax (p:=gm (n.2.2.1,m.1)=0) aH (fun g1=>ax (p:=n.2.2.1.2.2.1<cO m) rfl (fun g2=>af.2 ⟨rfl,ax (p:=gS n.2.2.2.1=0) aH (fun g3=>ax (p:=n.2.2.2.1.1=n.1) aH (fun g4=>ax (p:=n.2.2.1.2.2.2.1≤cO m) rfl (fun g5=>ax (p:=n.2.2.2.1.2.1=m.1) aH (fun g6=>ax (p:=n.2.2.1.2.2.2.2=n.2.2.2.1.2.2.1) aH (fun g7=>ax (p:=¬n.2.1=2) aT (fun g8=>?_) fun g8=>af.2 ⟨jk h0 h1,?_⟩) fun g=>?_) fun g=>?_) fun g=>?_) fun g=>?_) fun g=>?_⟩) fun g=>?_) fun g=>?_
 ·exact ay (by rw[decide_eq_true g1,decide_eq_true g2,decide_eq_true g3,decide_eq_true g4,decide_eq_true g5,decide_eq_true g6,decide_eq_true g7,decide_eq_false g8];rfl) (.ret _)
 ·exact ay (by rw[decide_eq_true g1,decide_eq_true g2,decide_eq_true g3,decide_eq_true g4,decide_eq_true g5,decide_eq_true g6,decide_eq_true g7,decide_eq_true (Decidable.not_not.1 g8)];rfl) (.ret _)
 all_goals
  rw[decide_eq_false g]
  simp only[Bool.false_and,Bool.and_false]
  repeat' (first|exact aA.ret _|refine af.2 ⟨rfl,?_⟩|refine y8 ?_ ?_)
def Oq:(ak×Node)→Bool:=fun(m,n)=>Ha m n
def Ey:(ak×Node)→Bool:=fun(m,n)=>decide (0≤n.1)&&decide (n.1<(m.2.2.2.2.2.2.1.length:Int))
def aad:aD:=⟨[bd,aQ], [.bool],Ey,Oq⟩
theorem VN:Sd 88 aad:=aK au cK true 94 [] (fun A (m,n)=>Sj A m n) (fc Tryz.func88 fz) (sc Db (sc xA sz)) fun((m,n):ak×Node) hp h=>ac5 (of_decide_eq_true (Bool.and_eq_true _ _▸hp).1) (of_decide_eq_true (Bool.and_eq_true _ _▸hp).2)
def P8(A:bi)(n:Node):LT Bool Empty:=.br (A.and (A.c .eql n.2.2.1.1 0) (A.and (A.c .eql n.2.2.1.2.1 0) (A.and (A.c .eql n.2.2.1.2.2.1 0) (A.and (A.c .eql n.2.2.1.2.2.2.1 0) (A.and (A.c .eql n.2.2.1.2.2.2.2 0) true))))) (.ret (A.and (A.c .eql n.2.2.2.1.1 0) (A.and (A.c .eql n.2.2.2.1.2.1 0) (A.and (A.c .eql n.2.2.2.1.2.2.1 0) (A.and (A.c .eql n.2.2.2.1.2.2.2.1 0) (A.and (A.c .eql n.2.2.2.1.2.2.2.2.1 0) (A.and (A.c .eql n.2.2.2.1.2.2.2.2.2.1 0) (A.and (A.c .eql n.2.2.2.1.2.2.2.2.2.2 0) true)))))))) (.ret false)
def NC(n:Node):Bool:=yZ n.2.2.1&&zeroV n.2.2.2.1
theorem YX{n:Node}:aA Empty.elim (P8 aj n) (NC n):=by
 unfold P8 NC
 cases hz:yZ n.2.2.1
 ·exact(ah hz).2 (.ret _)
 ·exact(ai hz).2 (.ret _)
def LM:Node→Bool:=NC
def Vz:aD:=⟨[aQ], [.bool],(@tt Node),LM⟩
theorem YT:Sd 89 Vz:=aK au cK true 25 [] (fun A n=>P8 A n) (fc Tryz.func89 fz) sz fun n hp h=>YX
def QQ(A:bi)(m:ak)(n:Node):LT Int Empty:=.need (A.k (@tt ak) m) (.br (A.c .neq (A.k iQ m) 0) (.ret (A.k iQ m)) (.need (A.k (@tt (Span×Int)) ((0,(A.b .sub .i64 m.1 1)),n.1)) (.br (A.not (A.k rE ((0,(A.b .sub .i64 m.1 1)),n.1))) (.ret 180) (.need (A.k (@tt (Span×Int)) ((0,5),n.2.1)) (.br (A.not (A.k rE ((0,5),n.2.1))) (.ret 180) (.need (A.k (@tt (Span×Int)) ((0,2),n.2.2.2.2.2.2.1)) (.br (A.not (A.k rE ((0,2),n.2.2.2.2.2.2.1))) (.ret 180) (.need (A.k (@tt cf) n.2.2.2.2.2.2.2) (.br (A.c .neq (A.k iW n.2.2.2.2.2.2.2) 0) (.ret 180) (.br (A.c .neq n.2.2.2.2.2.2.2.1 n.1) (.ret 180) (.br (A.c .neq (A.l n.2.2.2.2.2.2.2.2.2.1) m.1) (.ret 180) (.need (A.k (@tt (ak×Node)) (m,n)) (.br (A.not (A.k O1 (m,n))) (.ret 180) (.need (A.k (@tt Node) n) (.br (A.k jU n) (.need (A.k Ey (m,n)) (.br (A.not (A.k Oq (m,n))) (.ret 180) (.need (A.k (@tt Node) n) (.br (A.not (A.k jU n)) (.need (A.k (@tt Node) n) (.br (A.not (A.k LM n)) (.ret 180) (.ret 0))) (.ret 0))))) (.need (A.k (@tt Node) n) (.br (A.not (A.k jU n)) (.need (A.k (@tt Node) n) (.br (A.not (A.k LM n)) (.ret 180) (.ret 0))) (.ret 0))))))))))))))))))
theorem P0{m:ak}{n:Node}:aA Empty.elim (QQ aj m n) (aS m n):=by
 unfold QQ aS
 refine af.2 ⟨rfl,?_⟩
 rw[show aj.k iQ m=kp m from rfl,kp]
 cases hm:dy m
 ·exact(ai rfl).2 (.ret _)
 have hG:=@bF m n
 have hl:=cy hm
 rw[cond_true,aZ,fI (by omega) (by omega)]
 generalize CB m n=G at hG ⊢
 refine(ah rfl).2 (af.2 ⟨rfl,jo (b:=decide (0≤n.1∧n.1≤m.1-1)) (fun g=>decide_eq_true (hG.1 g).1) fun h1=>af.2 ⟨rfl,jo (b:=decide (0≤n.2.1∧n.2.1≤5)) (fun g=>decide_eq_true (hG.1 g).2.1) fun h2=>af.2 ⟨rfl,jo (b:=decide (0≤n.2.2.2.2.2.2.1∧n.2.2.2.2.2.2.1≤2)) (fun g=>decide_eq_true (hG.1 g).2.2.1) fun h3=>af.2 ⟨rfl,?_⟩⟩⟩⟩)
 have h1:=of_decide_eq_true h1
 have h2:=of_decide_eq_true h2
 have h3:=of_decide_eq_true h3
 refine jM (p:=¬oW n.2.2.2.2.2.2.2=0) aT (fun g=>not_not_intro (oJ.2 (hG.1 g).2.2.2.1)) fun h7=>?_
 refine jM (p:=¬n.2.2.2.2.2.2.2.1=n.1) aT (fun g=>by have:=hG.1 g;omega) fun h8=>?_
 refine jM (p:=¬(n.2.2.2.2.2.2.2.2.2.1.length:Int)=m.1) aT (fun g=>by have:=hG.1 g;omega) fun h9=>af.2 ⟨rfl,?_⟩
 refine jo (b:=nj m n&&oR n) (fun g=>by rw[(hG.1 g).2.2.2.2.2.2.2.2.1,(hG.1 g).2.2.2.2.2.2.2.2.2];rfl) fun ht=>af.2 ⟨rfl,?_⟩
 rw[Bool.and_eq_true] at ht
 have fin:rz m n=true→mX m n=true→G=true:=fun a b=>hG.2 ⟨h1,h2,h3,oJ.1 (Decidable.not_not.1 h7),by omega,by omega,a,b,ht.1,ht.2⟩
 rw[show aj.k jU n=gb n from rfl]
 have hc:=fun g=>(hG.1 g).2.2.2.2.2.2.2.1
 have hd:=fun g=>(hG.1 g).2.2.2.2.2.2.1
 unfold mX at hc fin
 cases hn:gb n
 ·rw[hn,cond_false] at hc fin
  have hcol:rz m n=true:=by
   have:¬(2≤n.2.1∧n.2.1≤4):=of_decide_eq_false hn
   rw[rz,decide_eq_false (show ¬n.2.1=2 by omega)];rfl
  exact(ah rfl).2 (af.2 ⟨rfl,(ai rfl).2 (af.2 ⟨rfl,jo (b:=NC n) hc fun k=>rf (fin hcol k)⟩)⟩)
 ·rw[hn,cond_true] at hc fin
  refine(ai rfl).2 (af.2 ⟨?_,jo (b:=Ha m n) (fun g=>?_) fun k=>af.2 ⟨rfl,(ah rfl).2 (rf ?_)⟩⟩)
  ·rw[ap,Ey,decide_eq_true h1.1,decide_eq_true (show n.1<(m.2.2.2.2.2.2.1.length:Int) by rw[hl.2.2.1];omega)];rfl
  ·have a:=hc g
   simp only[Bool.and_eq_true] at a
   rw[Ha,a.1,a.2.1,a.2.2.1,a.2.2.2.1,a.2.2.2.2,hd g];rfl
  ·simp only[Ha,Bool.and_eq_true] at k
   exact fin k.2.2.2.2.2 (by rw[k.1,k.2.1,k.2.2.1,k.2.2.2.1,k.2.2.2.2.1];rfl)
def bL:(ak×Node)→Int:=fun(m,n)=>aS m n
def Wv:aD:=⟨[bd,aQ], [yI],(@tt (ak×Node)),bL⟩
theorem rm:Sd 34 Wv:=aK au cK true 123 [] (fun A (m,n)=>QQ A m n) (fc Tryz.func34 fz) (sc y2 (sc Cu (sc w6 (sc IJ (sc VQ (sc VN (sc YT sz))))))) fun(m,n) hp h=>P0
def SD(A:bi)(m:ak)(n:Node)(on:Bool):LT (Node×Int) Empty:=.br (A.c .eql n.2.1 0) (.need (A.k (@tt (ak×Node)) (m,n)) (.br (A.c .neq (A.k bL (m,n)) 0) (.br (A.c .neq (A.k bL (m,n)) 0) (.ret ((0,0,(0,0,0,0,0),(0,0,0,0,0,0,0),0,false,0,0,([]:List Int),([]:List bW),0,0),(A.k bL (m,n)))) (.br on (.bad 73 "starctl.go:108") (.need (A.k (@tt (ak×Int)) (m,n.1)) (.ret (A.k qX (m,n.1)))))) (.need (A.k (@tt (cf×List Int)) (n.2.2.2.2.2.2.2,n.2.2.2.2.2.2.2.2.1)) (.br (A.c .neq (A.k bf (n.2.2.2.2.2.2.2,n.2.2.2.2.2.2.2.2.1)).2 0) (.br (A.c .neq (A.k bf (n.2.2.2.2.2.2.2,n.2.2.2.2.2.2.2.2.1)).2 0) (.ret ((0,0,(0,0,0,0,0),(0,0,0,0,0,0,0),0,false,0,0,([]:List Int),([]:List bW),0,0),(A.k bf (n.2.2.2.2.2.2.2,n.2.2.2.2.2.2.2.2.1)).2)) (.br on (.bad 73 "starctl.go:108") (.need (A.k (@tt (ak×Int)) (m,n.1)) (.ret (A.k qX (m,n.1)))))) (.br on (.need (A.k (@tt (ak×Int)) (m,n.1)) (.ret ((n.1,1,(0,0,0,0,0),(0,0,0,0,0,0,0),(A.k pE (m,n.1)).1,n.2.2.2.2.2.1,n.2.2.2.2.2.2.1,(A.k bf (n.2.2.2.2.2.2.2,n.2.2.2.2.2.2.2.2.1)).1),0))) (.need (A.k (@tt (ak×Int)) (m,n.1)) (.ret (A.k qX (m,n.1))))))))) (.need (A.k (@tt (ak×Node)) (m,n)) (.br (A.c .neq (A.k bL (m,n)) 0) (.br (A.c .neq (A.k bL (m,n)) 0) (.ret ((0,0,(0,0,0,0,0),(0,0,0,0,0,0,0),0,false,0,0,([]:List Int),([]:List bW),0,0),(A.k bL (m,n)))) (.br on (.bad 73 "starctl.go:108") (.need (A.k (@tt (ak×Int)) (m,n.1)) (.ret (A.k qX (m,n.1)))))) (.br (A.not (A.not on)) (.ret ((0,0,(0,0,0,0,0),(0,0,0,0,0,0,0),0,false,0,0,([]:List Int),([]:List bW),0,0),181)) (.need (A.k (@tt (cf×List Int)) (n.2.2.2.2.2.2.2,n.2.2.2.2.2.2.2.2.1)) (.br (A.c .neq (A.k bf (n.2.2.2.2.2.2.2,n.2.2.2.2.2.2.2.2.1)).2 0) (.br (A.c .neq (A.k bf (n.2.2.2.2.2.2.2,n.2.2.2.2.2.2.2.2.1)).2 0) (.ret ((0,0,(0,0,0,0,0),(0,0,0,0,0,0,0),0,false,0,0,([]:List Int),([]:List bW),0,0),(A.k bf (n.2.2.2.2.2.2.2,n.2.2.2.2.2.2.2.2.1)).2)) (.br on (.bad 73 "starctl.go:108") (.need (A.k (@tt (ak×Int)) (m,n.1)) (.ret (A.k qX (m,n.1)))))) (.br on (.need (A.k (@tt (ak×Int)) (m,n.1)) (.ret ((n.1,1,(0,0,0,0,0),(0,0,0,0,0,0,0),(A.k pE (m,n.1)).1,n.2.2.2.2.2.1,n.2.2.2.2.2.2.1,(A.k bf (n.2.2.2.2.2.2.2,n.2.2.2.2.2.2.2.2.1)).1),0))) (.need (A.k (@tt (ak×Int)) (m,n.1)) (.ret (A.k qX (m,n.1))))))))))
theorem nN{m:ak}{n:Node}(h:aS m n=0):vI n.2.2.2.2.2.2.2 n.2.2.2.2.2.2.2.2.1=(n.2.2.2.2.2.2.2,0):=by
 rw[vI,j5 h,decide_eq_false (FN (j5 h))];rfl
theorem UY{m:ak}{n:Node}{on:Bool}:aA Empty.elim (SD aj m n on) (p9 m n on):=by
 unfold SD p9
 rw[show aj.k bL (m,n)=aS m n from rfl,show aj.k bf (n.2.2.2.2.2.2.2,n.2.2.2.2.2.2.2.2.1)=vI n.2.2.2.2.2.2.2 n.2.2.2.2.2.2.2.2.1 from rfl]
 by_cases h:aS m n=0
 ·rw[decide_eq_true h,nN h]
  refine ax (p:=n.2.1=0) aH (fun h1=>af.2 ⟨rfl,(ah (kH h)).2 (af.2 ⟨rfl,(ah rfl).2 ?_⟩)⟩) fun h1=>af.2 ⟨rfl,(ah (kH h)).2 ?_⟩
  ·rw[decide_eq_true h1]
   cases on
   ·exact(ah rfl).2 (af.2 ⟨rfl,.ret _⟩)
   ·exact(ai rfl).2 (af.2 ⟨rfl,(.ret _)⟩)
  ·rw[decide_eq_false h1]
   cases on
   ·exact(ah rfl).2 (af.2 ⟨rfl,(ah rfl).2 ((ah rfl).2 (af.2 ⟨rfl,.ret _⟩))⟩)
   ·exact(ai rfl).2 (.ret _)
 ·rw[decide_eq_false h]
  exact y8 (af.2 ⟨rfl,(ai (fT h)).2 ((ai (fT h)).2 (.ret _))⟩) (af.2 ⟨rfl,(ai (fT h)).2 ((ai (fT h)).2 (.ret _))⟩)
def mM:(ak×Node×Bool)→(Node×Int):=fun(m,c,k)=>p9 m c k
def Xd:aD:=⟨[bd,aQ,.bool], [aQ,yI],(@tt (ak×Node×Bool)),mM⟩
theorem Ou:Sd 37 Xd:=aK au cK true 182 [] (fun A (m,n,on)=>SD A m n on) (fc Tryz.func37 (fc Tryz.func90 (fc Tryz.func92 fz))) (sc Pb (sc rm (sc o3 (sc Cz sz)))) fun(m,n,on) hp h=>UY
open Go.Ev.Pl
structure Se where
 (a0:Int) (a1:Bool) (a2 a3:gh) (a4:Int) (a5:Bool) (a6 a7 a8 a9:Int) (bH:gT)
structure Kv where
 (b0:Int) (b1:Bool) (b2 b3:gh) (b4:Int) (b5:Bool) (b6 b7 b8 b9:Int) (b10:ak) (b11:Node) (b12:gT)
structure Kk where
 (c0:Int) (c1 c2:gh) (c3:Int) (c4:Bool) (c5 c6 c7 c8:Int) (c9:ak) (c10:Node) (c11:gT) (c12:dq)
structure JP where
 (d0:Int) (d1 d2:gh) (d3:Int) (d4:Bool) (d5 d6 d7 d8:Int) (d9:ak) (fO:Node) (gY:gT)
inductive MB where
 | c0 (p:Se)
 | c1 (p:Kv)
 | c2 (p:Kk)
 | c3 (p:JP)
noncomputable def Q0:MB→gB
 | .c0 p=>⟨[⟨59,85,(en [(6,.ptr 0 0),(10,.cY),(12,.ptr 1 0),(13,vi p.a0),(14,vb p.a1)]),[.code (cw Tryz.f59 [1,1,1,1,1,0,0]),.code (cw Tryz.f59 [1,1,1,1,1,0,1]),.code (cw Tryz.f59 [1,1,1,1,1,1])],[],none⟩],[.flat false [vi p.a2.1,vi p.a2.2.1,vi p.a2.2.2.1,vi p.a2.2.2.2.1,vi p.a2.2.2.2.2.1,vi p.a2.2.2.2.2.2.1,vi p.a2.2.2.2.2.2.2,vi p.a3.1,vi p.a3.2.1,vi p.a3.2.2.1,vi p.a3.2.2.2.1,vi p.a3.2.2.2.2.1,vi p.a3.2.2.2.2.2.1,vi p.a3.2.2.2.2.2.2,vi p.a4,vb p.a5,vi p.a6,vi p.a7,.bK true,.bK true,vi p.a8,vi p.a9],.flat false [vi p.bH.1,vi p.bH.2.1,vi p.bH.2.2.1.1,vi p.bH.2.2.1.2.1,vi p.bH.2.2.1.2.2.1,vi p.bH.2.2.1.2.2.2.1,vi p.bH.2.2.1.2.2.2.2,vi p.bH.2.2.2.1,.sl yU p.bH.2.2.2.2],.dead]⟩
 | .c1 p=>⟨[⟨59,85,(en [(6,.ptr 0 0),(10,.ptr 1 0),(12,.ptr 2 0),(13,vi p.b0),(14,vb p.b1)]),[.code (cw Tryz.f59 [1,1,1,1,1,0,0]),.code (cw Tryz.f59 [1,1,1,1,1,0,1]),.code (cw Tryz.f59 [1,1,1,1,1,1])],[],none⟩],[.flat false [vi p.b2.1,vi p.b2.2.1,vi p.b2.2.2.1,vi p.b2.2.2.2.1,vi p.b2.2.2.2.2.1,vi p.b2.2.2.2.2.2.1,vi p.b2.2.2.2.2.2.2,vi p.b3.1,vi p.b3.2.1,vi p.b3.2.2.1,vi p.b3.2.2.2.1,vi p.b3.2.2.2.2.1,vi p.b3.2.2.2.2.2.1,vi p.b3.2.2.2.2.2.2,vi p.b4,vb p.b5,vi p.b6,vi p.b7,.bK true,.bK true,vi p.b8,vi p.b9],.flat false [vi p.b10.1,vi p.b10.2.1,vi p.b10.2.2.1,vi p.b10.2.2.2.1,vi p.b10.2.2.2.2.1,vi p.b10.2.2.2.2.2.1,.sl .bool p.b10.2.2.2.2.2.2.1,.sl aX p.b10.2.2.2.2.2.2.2,vi p.b11.1,vi p.b11.2.1,vi p.b11.2.2.1.1,vi p.b11.2.2.1.2.1,vi p.b11.2.2.1.2.2.1,vi p.b11.2.2.1.2.2.2.1,vi p.b11.2.2.1.2.2.2.2,vi p.b11.2.2.2.1.1,vi p.b11.2.2.2.1.2.1,vi p.b11.2.2.2.1.2.2.1,vi p.b11.2.2.2.1.2.2.2.1,vi p.b11.2.2.2.1.2.2.2.2.1,vi p.b11.2.2.2.1.2.2.2.2.2.1,vi p.b11.2.2.2.1.2.2.2.2.2.2,vi p.b11.2.2.2.2.1,vb p.b11.2.2.2.2.2.1,vi p.b11.2.2.2.2.2.2.1,vi p.b11.2.2.2.2.2.2.2.1,.sl yU p.b11.2.2.2.2.2.2.2.2.1,.sl df p.b11.2.2.2.2.2.2.2.2.2.1,vi p.b11.2.2.2.2.2.2.2.2.2.2.1,vi p.b11.2.2.2.2.2.2.2.2.2.2.2],.flat false [vi p.b12.1,vi p.b12.2.1,vi p.b12.2.2.1.1,vi p.b12.2.2.1.2.1,vi p.b12.2.2.1.2.2.1,vi p.b12.2.2.1.2.2.2.1,vi p.b12.2.2.1.2.2.2.2,vi p.b12.2.2.2.1,.sl yU p.b12.2.2.2.2],.dead]⟩
 | .c2 p=>⟨[⟨59,85,(en [(6,.ptr 0 0),(10,.ptr 1 0),(12,.ptr 2 0),(13,vi p.c0),(15,.ptr 3 0)]),[.code (cw Tryz.f59 [1,1,1,1,1,1,1,1,0]),.code (cw Tryz.f59 [1,1,1,1,1,1,1,1,1])],[],none⟩],[.flat false [vi p.c1.1,vi p.c1.2.1,vi p.c1.2.2.1,vi p.c1.2.2.2.1,vi p.c1.2.2.2.2.1,vi p.c1.2.2.2.2.2.1,vi p.c1.2.2.2.2.2.2,vi p.c2.1,vi p.c2.2.1,vi p.c2.2.2.1,vi p.c2.2.2.2.1,vi p.c2.2.2.2.2.1,vi p.c2.2.2.2.2.2.1,vi p.c2.2.2.2.2.2.2,vi p.c3,vb p.c4,vi p.c5,vi p.c6,.bK true,.bK true,vi p.c7,vi p.c8],.flat false [vi p.c9.1,vi p.c9.2.1,vi p.c9.2.2.1,vi p.c9.2.2.2.1,vi p.c9.2.2.2.2.1,vi p.c9.2.2.2.2.2.1,.sl .bool p.c9.2.2.2.2.2.2.1,.sl aX p.c9.2.2.2.2.2.2.2,vi p.c10.1,vi p.c10.2.1,vi p.c10.2.2.1.1,vi p.c10.2.2.1.2.1,vi p.c10.2.2.1.2.2.1,vi p.c10.2.2.1.2.2.2.1,vi p.c10.2.2.1.2.2.2.2,vi p.c10.2.2.2.1.1,vi p.c10.2.2.2.1.2.1,vi p.c10.2.2.2.1.2.2.1,vi p.c10.2.2.2.1.2.2.2.1,vi p.c10.2.2.2.1.2.2.2.2.1,vi p.c10.2.2.2.1.2.2.2.2.2.1,vi p.c10.2.2.2.1.2.2.2.2.2.2,vi p.c10.2.2.2.2.1,vb p.c10.2.2.2.2.2.1,vi p.c10.2.2.2.2.2.2.1,vi p.c10.2.2.2.2.2.2.2.1,.sl yU p.c10.2.2.2.2.2.2.2.2.1,.sl df p.c10.2.2.2.2.2.2.2.2.2.1,vi p.c10.2.2.2.2.2.2.2.2.2.2.1,vi p.c10.2.2.2.2.2.2.2.2.2.2.2],.flat false [vi p.c11.1,vi p.c11.2.1,vi p.c11.2.2.1.1,vi p.c11.2.2.1.2.1,vi p.c11.2.2.1.2.2.1,vi p.c11.2.2.1.2.2.2.1,vi p.c11.2.2.1.2.2.2.2,vi p.c11.2.2.2.1,.sl yU p.c11.2.2.2.2],.flat false [vi p.c12.1,vi p.c12.2.1,vi p.c12.2.2.1,vi p.c12.2.2.2.1,vi p.c12.2.2.2.2],.dead]⟩
 | .c3 p=>⟨[⟨59,85,(en [(6,.ptr 0 0),(10,.ptr 1 0),(12,.ptr 2 0),(13,vi p.d0)]),[.code (cw Tryz.f59 [1,1,1,1,1,1,1,1,1,1,1,0]),.code (cw Tryz.f59 [1,1,1,1,1,1,1,1,1,1,1,1])],[],none⟩],[.flat false [vi p.d1.1,vi p.d1.2.1,vi p.d1.2.2.1,vi p.d1.2.2.2.1,vi p.d1.2.2.2.2.1,vi p.d1.2.2.2.2.2.1,vi p.d1.2.2.2.2.2.2,vi p.d2.1,vi p.d2.2.1,vi p.d2.2.2.1,vi p.d2.2.2.2.1,vi p.d2.2.2.2.2.1,vi p.d2.2.2.2.2.2.1,vi p.d2.2.2.2.2.2.2,vi p.d3,vb p.d4,vi p.d5,vi p.d6,.bK true,.bK true,vi p.d7,vi p.d8],.flat false [vi p.d9.1,vi p.d9.2.1,vi p.d9.2.2.1,vi p.d9.2.2.2.1,vi p.d9.2.2.2.2.1,vi p.d9.2.2.2.2.2.1,.sl .bool p.d9.2.2.2.2.2.2.1,.sl aX p.d9.2.2.2.2.2.2.2,vi p.fO.1,vi p.fO.2.1,vi p.fO.2.2.1.1,vi p.fO.2.2.1.2.1,vi p.fO.2.2.1.2.2.1,vi p.fO.2.2.1.2.2.2.1,vi p.fO.2.2.1.2.2.2.2,vi p.fO.2.2.2.1.1,vi p.fO.2.2.2.1.2.1,vi p.fO.2.2.2.1.2.2.1,vi p.fO.2.2.2.1.2.2.2.1,vi p.fO.2.2.2.1.2.2.2.2.1,vi p.fO.2.2.2.1.2.2.2.2.2.1,vi p.fO.2.2.2.1.2.2.2.2.2.2,vi p.fO.2.2.2.2.1,vb p.fO.2.2.2.2.2.1,vi p.fO.2.2.2.2.2.2.1,vi p.fO.2.2.2.2.2.2.2.1,.sl yU p.fO.2.2.2.2.2.2.2.2.1,.sl df p.fO.2.2.2.2.2.2.2.2.2.1,vi p.fO.2.2.2.2.2.2.2.2.2.2.1,vi p.fO.2.2.2.2.2.2.2.2.2.2.2],.flat false [vi p.gY.1,vi p.gY.2.1,vi p.gY.2.2.1.1,vi p.gY.2.2.1.2.1,vi p.gY.2.2.1.2.2.1,vi p.gY.2.2.1.2.2.2.1,vi p.gY.2.2.1.2.2.2.2,vi p.gY.2.2.2.1,.sl yU p.gY.2.2.2.2],.dead]⟩
def Qg(A:bi)(m:ak)(n:Node)(seen:List Seen):LT (Node×Int×Bool×Int) MB:=.need (A.k (@tt (ak×Node)) (m,n)) (.br (A.c .neq (A.k bL (m,n)) 0) (.br (A.c .neq (A.k bL (m,n)) 0) (.ret ((0,0,(0,0,0,0,0),(0,0,0,0,0,0,0),0,false,0,0,([]:List Int),([]:List bW),0,0),0,false,(A.k bL (m,n)))) (.br (A.c .neq (A.l seen) 2) (.ret ((0,0,(0,0,0,0,0),(0,0,0,0,0,0,0),0,false,0,0,([]:List Int),([]:List bW),0,0),0,false,2)) (.need (A.k (@tt (Int×List Seen)) (m.1,seen)) (.more (.c0 ⟨(A.k iF (m.1,seen)).2.1,(A.k iF (m.1,seen)).2.2,(0,0,0,0,0,0,0),(0,0,0,0,0,0,0),0,false,0,0,0,0,(A.k iF (m.1,seen)).1⟩))))) (.br (A.not (A.c .eql n.2.1 1)) (.ret ((0,0,(0,0,0,0,0),(0,0,0,0,0,0,0),0,false,0,0,([]:List Int),([]:List bW),0,0),0,false,181)) (.need (A.k (@tt (cf×List Int)) (n.2.2.2.2.2.2.2,n.2.2.2.2.2.2.2.2.1)) (.br (A.c .neq (A.k bf (n.2.2.2.2.2.2.2,n.2.2.2.2.2.2.2.2.1)).2 0) (.br (A.c .neq (A.k bf (n.2.2.2.2.2.2.2,n.2.2.2.2.2.2.2.2.1)).2 0) (.ret ((0,0,(0,0,0,0,0),(0,0,0,0,0,0,0),0,false,0,0,([]:List Int),([]:List bW),0,0),0,false,(A.k bf (n.2.2.2.2.2.2.2,n.2.2.2.2.2.2.2.2.1)).2)) (.br (A.c .neq (A.l seen) 2) (.ret ((0,0,(0,0,0,0,0),(0,0,0,0,0,0,0),0,false,0,0,([]:List Int),([]:List bW),0,0),0,false,2)) (.need (A.k (@tt (Int×List Seen)) (m.1,seen)) (.more (.c0 ⟨(A.k iF (m.1,seen)).2.1,(A.k iF (m.1,seen)).2.2,(0,0,0,0,0,0,0),(0,0,0,0,0,0,0),0,false,0,0,0,0,(A.k iF (m.1,seen)).1⟩))))) (.br (A.c .neq (A.l seen) 2) (.ret ((0,0,(0,0,0,0,0),(0,0,0,0,0,0,0),0,false,0,0,([]:List Int),([]:List bW),0,0),0,false,2)) (.need (A.k (@tt (Int×List Seen)) (m.1,seen)) (.more (.c1 ⟨(A.k iF (m.1,seen)).2.1,(A.k iF (m.1,seen)).2.2,(0,0,0,0,0,0,0),(0,0,0,0,0,0,0),0,false,0,0,0,0,m,(n.1,n.2.1,n.2.2.1,n.2.2.2.1,n.2.2.2.2.1,n.2.2.2.2.2.1,n.2.2.2.2.2.2.1,(A.k bf (n.2.2.2.2.2.2.2,n.2.2.2.2.2.2.2.2.1)).1),(A.k iF (m.1,seen)).1⟩))))))))
def xf(A:bi):MB→LT (Node×Int×Bool×Int) MB
 | .c0 p=>.br (A.not p.a1) (.bad 73 "starctl.go:347") (.br (A.c .eql p.bH.1 1) (.need (A.c .leq 0 p.bH.2.2.2.1) (.bad 73 "starctl.go:329")) (.bad 73 "starctl.go:332"))
 | .c1 p=>.br (A.not p.b1) (.ret (p.b11,0,false,0)) (.br (A.c .eql p.b12.1 1) (.need (A.c .leq 0 p.b12.2.2.2.1) (.br (A.not (A.c .neq p.b12.2.2.2.1 p.b11.1)) (.ret (p.b11,0,false,0)) (.more (.c2 ⟨p.b0,p.b2,p.b3,p.b4,p.b5,p.b6,p.b7,p.b8,p.b9,p.b10,p.b11,p.b12,(0,p.b12.2.2.2.1,0,0,(A.b .shl .i64 1 p.b12.2.2.2.1))⟩)))) (.need (A.k (@tt ((Int×Int×Int×Int×Int)×Int)) (p.b12.2.2.1,p.b10.1)) (.br (A.c .eql (A.k jH (p.b12.2.2.1,p.b10.1)) 0) (.br (A.c .lss p.b12.2.2.1.2.2.1 (A.l p.b10.2.2.2.2.2.2.2)) (.br (A.c .leq p.b12.2.2.1.2.2.2.1 (A.l p.b10.2.2.2.2.2.2.2)) (.br (A.c .neq p.b12.2.2.1.2.1 p.b11.1) (.need (A.k (@tt (dq×Int)) (p.b12.2.2.1,p.b12.2.2.1.2.1)) (.br (A.k Dg (p.b12.2.2.1,p.b12.2.2.1.2.1)) (.need (A.k (@tt (ak×Int×Int)) (p.b10,p.b12.2.2.1.2.2.1,p.b12.2.2.1.2.1)) (.br (A.c .neq (A.k dB (p.b10,p.b12.2.2.1.2.2.1,p.b12.2.2.1.2.1)).2 0) (.ret (p.b11,0,false,0)) (.br (A.c .eql (A.k dB (p.b10,p.b12.2.2.1.2.2.1,p.b12.2.2.1.2.1)).1 3) (.br (A.c .neq (A.k dB (p.b10,p.b12.2.2.1.2.2.1,p.b12.2.2.1.2.1)).1 0) (.br (A.c .eql (A.k dB (p.b10,p.b12.2.2.1.2.2.1,p.b12.2.2.1.2.1)).1 p.b12.1) (.br (A.not (A.c .eql 0 (A.l p.b12.2.2.2.2))) (.ret (p.b11,0,false,0)) (.more (.c2 ⟨p.b0,p.b2,p.b3,p.b4,p.b5,p.b6,p.b7,p.b8,p.b9,p.b10,p.b11,p.b12,p.b12.2.2.1⟩))) (.ret (p.b11,0,false,0))) (.ret (p.b11,0,false,0))) (.need (A.and (A.c .leq 0 p.b12.2.2.1.2.2.1) (A.c .lss p.b12.2.2.1.2.2.1 (A.l p.b10.2.2.2.2.2.2.2))) (.need (A.and (A.c .leq 0 p.b12.2.2.1.2.1) (A.c .lss p.b12.2.2.1.2.1 (A.l (A.n aX p.b10.2.2.2.2.2.2.2 p.b12.2.2.1.2.2.1:Mode).1))) (.br (A.c .neq (A.k dB (p.b10,p.b12.2.2.1.2.2.1,p.b12.2.2.1.2.1)).1 0) (.br (A.c .eql (A.k dB (p.b10,p.b12.2.2.1.2.2.1,p.b12.2.2.1.2.1)).1 p.b12.1) (.br (A.not (A.c .eql (A.n yI (A.n aX p.b10.2.2.2.2.2.2.2 p.b12.2.2.1.2.2.1:Mode).1 p.b12.2.2.1.2.1:Int) (A.l p.b12.2.2.2.2))) (.ret (p.b11,0,false,0)) (.more (.c2 ⟨p.b0,p.b2,p.b3,p.b4,p.b5,p.b6,p.b7,p.b8,p.b9,p.b10,p.b11,p.b12,p.b12.2.2.1⟩))) (.ret (p.b11,0,false,0))) (.ret (p.b11,0,false,0)))))))) (.ret (p.b11,0,false,0)))) (.ret (p.b11,0,false,0))) (.ret (p.b11,0,false,0))) (.ret (p.b11,0,false,0))) (.ret (p.b11,0,false,0)))))
 | .c2 p=>.br (A.c .eql p.c11.1 4) (.need (A.k (@tt (cf×Int×List Int)) (p.c10.2.2.2.2.2.2.2,p.c12.2.1,p.c11.2.2.2.2)) (.need (A.k (@tt (cf×Int×List Int)) (p.c10.2.2.2.2.2.2.2,p.c12.2.1,p.c11.2.2.2.2)) (.br (A.c .eql (A.k k6 (p.c10.2.2.2.2.2.2.2,p.c12.2.1,p.c11.2.2.2.2)).2 0) (.more (.c3 ⟨p.c0,p.c1,p.c2,p.c3,p.c4,p.c5,p.c6,p.c7,p.c8,p.c9,(p.c10.1,3,p.c12,(p.c10.1,p.c9.1,p.c12.2.2.2.2,1,0,0,0),0,false,0,(A.k k6 (p.c10.2.2.2.2.2.2.2,p.c12.2.1,p.c11.2.2.2.2)).1),p.c11⟩)) (.more (.c3 ⟨p.c0,p.c1,p.c2,p.c3,p.c4,p.c5,p.c6,p.c7,p.c8,p.c9,(p.c10.1,3,p.c12,(p.c10.1,p.c9.1,p.c12.2.2.2.2,1,0,0,0),0,false,0,p.c10.2.2.2.2.2.2.2),p.c11⟩))))) (.more (.c3 ⟨p.c0,p.c1,p.c2,p.c3,p.c4,p.c5,p.c6,p.c7,p.c8,p.c9,(p.c10.1,3,p.c12,(p.c10.1,p.c9.1,p.c12.2.2.2.2,1,0,0,0),0,false,0,p.c10.2.2.2.2.2.2.2),p.c11⟩))
 | .c3 p=>.need (A.k (@tt (ak×dq×Int)) (p.d9,p.fO.2.2.1,p.gY.2.1)) (.need (A.k (@tt (ak×dq×Int)) (p.d9,p.fO.2.2.1,p.gY.2.1)) (.br (A.c .eql (A.k gi (p.d9,p.fO.2.2.1,p.gY.2.1)).2 0) (.ret ((p.fO.1,p.fO.2.1,(A.k gi (p.d9,p.fO.2.2.1,p.gY.2.1)).1,p.fO.2.2.2),p.d0,true,0)) (.ret (p.fO,p.d0,true,0))))
theorem Np{v l:Int}(h:l=v):aj.not (aj.c .eql v l)=false:=by rw[aH,decide_eq_true h.symm];rfl
theorem Mg{v l:Int}(h:¬l=v):aj.not (aj.c .eql v l)=true:=by rw[aH,decide_eq_false (fun k=>h k.symm)];rfl
theorem E0{p:JP}:aA (xf aj) (.more (.c3 p)) ((p.fO.1,p.fO.2.1,eY p.d9 p.fO.2.2.1 p.gY.2.1,p.fO.2.2.2),p.d0,true,0):=by
 rw[al,xf]
 refine af.2 ⟨rfl,?_⟩
 repeat' (refine af.2 ⟨rfl,?_⟩)
 refine ax (p:=(l5 p.d9 p.fO.2.2.1 p.gY.2.1).2=0) aH (fun h=>?_) fun h=>?_
 ·exact ay (by rw[eY,decide_eq_true h];rfl) (.ret _)
 ·exact ay (by rw[eY,decide_eq_false h];rfl) (.ret _)
theorem Fj{p:Kk}(h:p.c11.1=4→(jh p.c10.2.2.2.2.2.2.2 p.c12.2.1 p.c11.2.2.2.2).2=0):aA (xf aj) (.more (.c2 p)) (jW p.c9 p.c10 p.c12 p.c11,p.c0,true,0):=by
 rw[al,xf]
 refine ax (p:=p.c11.1=4) aH (fun g=>af.2 ⟨rfl,?_⟩) fun g=>ay (by rw[jW,decide_eq_false g];rfl) E0
 repeat' (refine af.2 ⟨rfl,?_⟩)
 exact(ai (ug (h g))).2 (ay (by rw[jW,decide_eq_true g];rfl) E0)
theorem zY{m:ak}{k n:Int}(h:(bo m k n).2=0):¬(bo m k n).1=0:=by
 unfold bo at h ⊢
 by_cases h1:gw m n=0
 ·by_cases h2:0≤k∧k≤cO m-1
  ·rw[decide_eq_true h1,decide_eq_true h2,cond_true,cond_true]
   generalize (aj.n .bool (aj.n aX m.2.2.2.2.2.2.2 k:Mode).2.1 n:Bool)=a
   generalize (aj.n (.int .i64) (aj.n aX m.2.2.2.2.2.2.2 k:Mode).1 n:Int)=b
   show ¬gN (a,b)=0
   simp only[gN,t183,LT.val,Bool.cond_eq_ite]
   repeat' split
   all_goals decide
  ·rw[decide_eq_true h1,decide_eq_false h2,cond_true,cond_false] at h;exact absurd h (by decide)
 ·rw[decide_eq_false h1,cond_false] at h;exact absurd h h1
theorem MH{p:Kv}{m:ak}{n:Node}{f:gT}{t:Int}(h0:p.b0=t)(hi:p.b1=true)(h1:p.b10=m)(h2:p.b11=n)(hf:p.b12=f)(hl:0≤f.2.2.2.1)(hd:BU m n f=true→(jh n.2.2.2.2.2.2.2 f.2.2.1.2.1 f.2.2.2.2).2=0)(hm:dy m=true):aA (xf aj) (.more (.c1 p)) (bif decide (f.1=1) then(bif decide (f.2.2.2.1=n.1) then(n,0,false,0) else(jW m n (0,f.2.2.2.1,0,0,aj.b .shl .i64 1 f.2.2.2.1) f,t,true,0)) else bif BU m n f then(jW m n f.2.2.1 f,t,true,0) else(n,0,false,0)):=by
 rw[al,xf,h0,hi,h1,h2,hf]
 refine(ah rfl).2 (ax (p:=f.1=1) aH (fun h=>af.2 ⟨decide_eq_true hl,?_⟩) fun h=>af.2 ⟨rfl,?_⟩)
 ·rw[decide_eq_true h,cond_true]
  by_cases g:f.2.2.2.1=n.1
  ·rw[decide_eq_true g]
   exact(ai (by rw[aT,decide_eq_false (not_not_intro g)];rfl)).2 (.ret _)
  ·rw[decide_eq_false g]
   exact(ah (by rw[aT,decide_eq_true g];rfl)).2 (Fj fun k=>by
    have:f.1=4:=k
    omega)
 rw[decide_eq_false h,cond_false]
 rw[show aj.k jH (f.2.2.1,m.1)=gm (f.2.2.1,m.1) from rfl,show aj.k dB (m,f.2.2.1.2.2.1,f.2.2.1.2.1)=bo m f.2.2.1.2.2.1 f.2.2.1.2.1 from rfl,show aj.k Dg (f.2.2.1,f.2.2.1.2.1)=C9 f.2.2.1 f.2.2.1.2.1 from rfl]
 obtain⟨R,hR⟩:∃R:Node×Int×Bool×Int,R=bif BU m n f then(jW m n f.2.2.1 f,t,true,0) else(n,0,false,0):=⟨_,rfl⟩
 rw[←hR]
 have no:BU m n f=false→aA (xf aj) (.ret (n,0,false,0)) R:=fun e=>ay (by rw[hR,e];rfl) (.ret _)
 have yes:∀{a b c d e g i j},BU m n f=true→aA (xf aj) (.more (.c2 ⟨t,a,b,c,d,e,g,i,j,m,n,f,f.2.2.1⟩)) R:=fun e=>ay (by rw[hR,e];rfl) (Fj fun _=>hd e)
 unfold BU dp at no yes
 refine ax (p:=gm (f.2.2.1,m.1)=0) aH (fun g1=>ax (p:=f.2.2.1.2.2.1<cO m) rfl (fun g2=>ax (p:=f.2.2.1.2.2.2.1≤cO m) rfl (fun g3=>ax (p:=¬f.2.2.1.2.1=n.1) aT (fun g4=>af.2 ⟨rfl,?_⟩) fun g=>(no ?_)) fun g=>(no ?_)) fun g=>(no ?_)) fun g=>(no ?_)
 ·rw[decide_eq_true g1,decide_eq_true g2,decide_eq_true g3,decide_eq_true g4] at no yes
  cases hh:C9 f.2.2.1 f.2.2.1.2.1
  ·exact(ah rfl).2 ((no (by rw[hh];rfl)))
  rw[hh] at no yes
  have hc:=(iZ g1).2.2.2.1
  refine(ai rfl).2 (af.2 ⟨rfl,?_⟩)
  unfold kh at no yes
  refine ax (p:=¬(bo m f.2.2.1.2.2.1 f.2.2.1.2.1).2=0) aT (fun k1=>((no (by rw[decide_eq_false k1];rfl)))) fun k1=>?_
  have k1:=Decidable.not_not.1 k1
  have kn:=zY k1
  obtain⟨_,hn,hk⟩:=ki k1
  have hx:=(iw (k_ hm hk.1 hk.2)).1
  rw[decide_eq_true k1] at no yes
  refine ax (p:=(bo m f.2.2.1.2.2.1 f.2.2.1.2.1).1=3) aH (fun k2=>(ai (by rw[aT];exact decide_eq_true kn)).2 (ax (p:=(bo m f.2.2.1.2.2.1 f.2.2.1.2.1).1=f.1) aH (fun k3=>?_) fun k3=>((no ?_)))) fun k2=>af.2 ⟨jk hk.1 hk.2,af.2 ⟨jr hx hn.1 (by omega),(ai (by rw[aT];exact decide_eq_true kn)).2 (ax (p:=(bo m f.2.2.1.2.2.1 f.2.2.1.2.1).1=f.1) aH (fun k3=>?_) fun k3=>((no ?_)))⟩⟩
  ·rw[decide_eq_true k2,decide_eq_true k3.symm] at no yes
   by_cases k4:(f.2.2.2.2.length:Int)=0
   ·exact(ah (by rw[ko,aH,decide_eq_true k4.symm];rfl)).2 (yes (decide_eq_true k4))
   ·exact(ai (by rw[ko,aH,decide_eq_false (fun k=>k4 k.symm)];rfl)).2 (no (decide_eq_false k4))
  ·rw[decide_eq_false (fun k=>k3 k.symm)];rfl
  ·rw[decide_eq_false k2,decide_eq_true k3.symm] at no yes
   by_cases k4:(f.2.2.2.2.length:Int)=(aj.n (.int .i64) (aj.n aX m.2.2.2.2.2.2.2 f.2.2.1.2.2.1:Mode).1 f.2.2.1.2.1:Int)
   ·exact(ah (Np k4)).2 (yes (decide_eq_true k4))
   ·exact(ai (Mg k4)).2 (no (decide_eq_false k4))
  ·rw[decide_eq_false (fun k=>k3 k.symm)];rfl
 ·rw[decide_eq_false g,Bool.false_and,Bool.and_false]
 ·rw[decide_eq_false g,Bool.and_false,Bool.and_false];rfl
 ·rw[decide_eq_false g,Bool.false_and,Bool.and_false];rfl
 ·rw[decide_eq_false g,Bool.false_and];rfl
theorem Vv{m:ak}{n:Node}{seen:List Seen}:aA (xf aj) (Qg aj m n seen) (nH m n seen false):=by
 unfold Qg nH
 refine af.2 ⟨rfl,?_⟩
 rw[show aj.k bL (m,n)=aS m n from rfl,show aj.k bf (n.2.2.2.2.2.2.2,n.2.2.2.2.2.2.2.2.1)=vI n.2.2.2.2.2.2.2 n.2.2.2.2.2.2.2.2.1 from rfl]
 by_cases h:aS m n=0
 ·rw[decide_eq_true h,nN h,aH]
  refine(ah (kH h)).2 ?_
  cases decide (n.2.1=1)
  ·exact(ai rfl).2 (.ret _)
  refine(ah rfl).2 (af.2 ⟨rfl,(ah rfl).2 (ax (p:=¬(seen.length:Int)=2) aT (fun h2=>ay (by rw[decide_eq_false h2];rfl) (.ret _)) fun h2=>af.2 ⟨rfl,?_⟩)⟩)
  rw[decide_eq_true (Decidable.not_not.1 h2),show aj.k iF (m.1,seen)=eU m.1 seen from rfl]
  cases he:(eU m.1 seen).2.2
  ·rw[al,xf]
   exact(ai rfl).2 (.ret _)
  obtain⟨e1,e2,e3⟩:=EE he
  have hl:=Ek e3
  exact MH (m:=m) (n:=n) (f:=(eU m.1 seen).1) (t:=(eU m.1 seen).2.1) rfl rfl rfl rfl rfl hl.1 (Ec h e3) (aP h).1
 ·rw[decide_eq_false h];exact(ai (fT h)).2 ((ai (fT h)).2 (.ret _))
def kV:(ak×Node×List Seen)→(Node×Int×Bool×Int):=fun(m,n,s)=>nH m n s false
def XN:aD:=⟨[bd,aQ,(.slice dA)], [aQ,yI,.bool,yI],(@tt (ak×Node×List Seen)),kV⟩
theorem Ph:Sd 59 XN:=aL au cK true 132 [] [⟨59,7, [[6,10,12,13,14]]⟩,⟨59,12, [[6,10,12,13,15]]⟩,⟨59,16, [[6,10,12,13]]⟩] (fun A (m,n,seen)=>Qg A m n seen) xf Q0 (fc Tryz.func59 (fc Tryz.func90 (fc Tryz.func91 (fc Tryz.func124 (fc Tryz.func126 (fc Tryz.func127 (fc Tryz.func137 (fc Tryz.func187 fz)))))))) (sc xA (sc rm (sc Oy (sc o3 (sc Od (sc Fb (sc zA (sc BW sz)))))))) (fun A y=>match y with |.c0 p=>⟨42,by kernel_rfl,by kernel_rfl⟩|.c1 p=>⟨226,by kernel_rfl,by kernel_rfl⟩|.c2 p=>⟨124,by kernel_rfl,by kernel_rfl⟩|.c3 p=>⟨58,by kernel_rfl,by kernel_rfl⟩) fun(m,n,seen) hp h=>Vv
def L3(A:bi)(id:Int):LT (List Seen) Empty:=.need (A.k (@tt ((Int×Int×(Int×Int×Int×Int×Int)×Int×List Int))) (1,0,(0,0,0,0,0),id,([]:List Int))) (.ret [(2,9,(A.k oX (1,0,(0,0,0,0,0),id,([]:List Int))).1),(0,0,0,([]:List Int))])
def tF:Int→(List Seen):=fun id=>(L3 aj id).val (Ty.bZ [(.slice dA)])
def UE:aD:=⟨[yI], [(.slice dA)],(@tt Int),tF⟩
theorem Yf:Sd 85 UE:=aM au cK true 30 [] (fun A id=>L3 A id) (fc Tryz.func85 fz) (sc RJ sz) (fun(id:Int) hp h=>by
 show(L3 aj id).pre=true
 simp[L3,LT.pre,ap,cN])
def N7(A:bi)(n:Node):LT Bool Empty:=.ret (A.c .leq (A.l n.2.2.2.2.2.2.2.2.2.1) 20)
def Fp:Node→Bool:=fun n=>(N7 aj n).val (Ty.bZ [.bool])
def V5:aD:=⟨[aQ], [.bool],(@tt Node),Fp⟩
theorem W1:Sd 32 V5:=aM au cK true 20 [] (fun A n=>N7 A n) (fc Tryz.func32 fz) sz (fun(n:Node) hp h=>by
 show(N7 aj n).pre=true
 simp[N7,LT.pre,ap,cN])
def NL(A:bi)(l:List Seen):LT (List Seen) Empty:=.need (A.and (A.c .leq 0 0) (A.and (A.c .leq 0 (A.mn (A.l l) 9)) (A.c .leq (A.mn (A.l l) 9) (A.l l)))) (.ret (A.s l 0 (A.mn (A.l l) 9)))
def HV:(List Seen)→(List Seen):=fun l=>(NL aj l).val (Ty.bZ [(.slice dA)])
def V7:aD:=⟨[(.slice dA)], [(.slice dA)],(@tt (List Seen)),HV⟩
theorem Wi:Sd 53 V7:=aM au cK true 19 [] (fun A l=>NL A l) (fc Tryz.func53 fz) sz (fun(l:List Seen) hp h=>by
 show(NL aj l).pre=true
 simp only[NL,LT.pre];exact(Bool.and_true _).trans (LG (l:=l)))
structure QG where
 (a0 a1 a2 a3 a4 a5 a6 a7 a8 a9:Int) (bH:Node) (dP:List Bool) (a12:List Int) (jw iv:List Bool)
inductive NZ where
 | c0 (p:QG)
noncomputable def QB:NZ→gB
 | .c0 p=>⟨[⟨31,71,(en [(1,.ptr 0 0),(2,vi p.a0),(3,.ptr 1 0),(4,vi p.a1)]),[.code (cw Tryz.f31 [1,1,1,0]),.code (cw Tryz.f31 [1,1,1,1])],[],none⟩],[.flat false [vi p.a2,vi p.a3,vi p.a4,vi p.a5,vi p.a6,vi p.a7,.own 2,.lm 3 3 false p.a8 p.a9],.flat false [vi p.bH.1,vi p.bH.2.1,vi p.bH.2.2.1.1,vi p.bH.2.2.1.2.1,vi p.bH.2.2.1.2.2.1,vi p.bH.2.2.1.2.2.2.1,vi p.bH.2.2.1.2.2.2.2,vi p.bH.2.2.2.1.1,vi p.bH.2.2.2.1.2.1,vi p.bH.2.2.2.1.2.2.1,vi p.bH.2.2.2.1.2.2.2.1,vi p.bH.2.2.2.1.2.2.2.2.1,vi p.bH.2.2.2.1.2.2.2.2.2.1,vi p.bH.2.2.2.1.2.2.2.2.2.2,vi p.bH.2.2.2.2.1,vb p.bH.2.2.2.2.2.1,vi p.bH.2.2.2.2.2.2.1,vi p.bH.2.2.2.2.2.2.2.1,.sl yU p.bH.2.2.2.2.2.2.2.2.1,.sl df p.bH.2.2.2.2.2.2.2.2.2.1,vi p.bH.2.2.2.2.2.2.2.2.2.2.1,vi p.bH.2.2.2.2.2.2.2.2.2.2.2],.arr true .bool p.dP,.flat true [.sl yI p.a12,.sl .bool p.jw,.sl .bool p.iv],.dead]⟩
def Sk(A:bi):LT Bool NZ:=.need (A.c .leq (A.l ([true]:List Bool)) 140737488355328) (.need (A.c .leq (A.l ([2]:List Int)) 17592186044416) (.need (A.c .leq (A.l ([true]:List Bool)) 140737488355328) (.need (A.c .leq (A.l (A.p [true] [true])) 140737488355328) (.need (A.c .leq (A.l (A.p ([2]:List Int) ([2]:List Int))) 17592186044416) (.need (A.c .leq (A.l (A.p [true] [true])) 140737488355328) (.need (A.c .leq (A.l (A.p (A.p [true] [true]) [true])) 140737488355328) (.need (A.c .leq (A.l (A.p (A.p ([2]:List Int) ([2]:List Int)) ([2]:List Int))) 17592186044416) (.need (A.c .leq (A.l (A.p (A.p [true] [true]) [true])) 140737488355328) (.need (A.c .leq (A.l (A.p (A.p (A.p [true] [true]) [true]) [true])) 140737488355328) (.need (A.c .leq (A.l (A.p (A.p (A.p ([2]:List Int) ([2]:List Int)) ([2]:List Int)) ([2]:List Int))) 17592186044416) (.need (A.c .leq (A.l (A.p (A.p (A.p [true] [true]) [true]) [true])) 140737488355328) (.need (A.k (@tt ak) (4,0,38,16,0,1,(A.p (A.p (A.p [true] [true]) [true]) [true]), [((A.p (A.p (A.p ([2]:List Int) ([2]:List Int)) ([2]:List Int)) ([2]:List Int)),(A.p (A.p (A.p [true] [true]) [true]) [true]), [true])])) (.need (A.k (@tt (ak×Int)) ((4,(A.b .add .i64 76 (A.k rv (4,0,38,16,0,1,(A.p (A.p (A.p [true] [true]) [true]) [true]), [((A.p (A.p (A.p ([2]:List Int) ([2]:List Int)) ([2]:List Int)) ([2]:List Int)),(A.p (A.p (A.p [true] [true]) [true]) [true]), [true])]))),38,16,0,1,(A.p (A.p (A.p [true] [true]) [true]) [true]), [((A.p (A.p (A.p ([2]:List Int) ([2]:List Int)) ([2]:List Int)) ([2]:List Int)),(A.p (A.p (A.p [true] [true]) [true]) [true]), [true])]),1)) (.more (.c0 ⟨0,(A.k qX ((4,(A.b .add .i64 76 (A.k rv (4,0,38,16,0,1,(A.p (A.p (A.p [true] [true]) [true]) [true]), [((A.p (A.p (A.p ([2]:List Int) ([2]:List Int)) ([2]:List Int)) ([2]:List Int)),(A.p (A.p (A.p [true] [true]) [true]) [true]), [true])]))),38,16,0,1,(A.p (A.p (A.p [true] [true]) [true]) [true]), [((A.p (A.p (A.p ([2]:List Int) ([2]:List Int)) ([2]:List Int)) ([2]:List Int)),(A.p (A.p (A.p [true] [true]) [true]) [true]), [true])]),1)).2,4,(A.b .add .i64 76 (A.k rv (4,0,38,16,0,1,(A.p (A.p (A.p [true] [true]) [true]) [true]), [((A.p (A.p (A.p ([2]:List Int) ([2]:List Int)) ([2]:List Int)) ([2]:List Int)),(A.p (A.p (A.p [true] [true]) [true]) [true]), [true])]))),38,16,0,1,0,1,(A.k qX ((4,(A.b .add .i64 76 (A.k rv (4,0,38,16,0,1,(A.p (A.p (A.p [true] [true]) [true]) [true]), [((A.p (A.p (A.p ([2]:List Int) ([2]:List Int)) ([2]:List Int)) ([2]:List Int)),(A.p (A.p (A.p [true] [true]) [true]) [true]), [true])]))),38,16,0,1,(A.p (A.p (A.p [true] [true]) [true]) [true]), [((A.p (A.p (A.p ([2]:List Int) ([2]:List Int)) ([2]:List Int)) ([2]:List Int)),(A.p (A.p (A.p [true] [true]) [true]) [true]), [true])]),1)).1,(A.p (A.p (A.p [true] [true]) [true]) [true]),(A.p (A.p (A.p ([2]:List Int) ([2]:List Int)) ([2]:List Int)) ([2]:List Int)),(A.p (A.p (A.p [true] [true]) [true]) [true]), [true]⟩)))))))))))))))
def Qi(A:bi):NZ→LT Bool NZ
 | .c0 p=>.need (A.k (@tt (ak×Node×Bool)) ((p.a2,p.a3,p.a4,p.a5,p.a6,p.a7,p.dP,(A.s [(p.a12,p.jw,p.iv)] p.a8 (A.b .add .i64 p.a8 p.a9))),p.bH,true)) (.need (A.k (@tt Int) 2) (.need (A.k (@tt (ak×Node×List Seen)) ((p.a2,p.a3,p.a4,p.a5,p.a6,p.a7,p.dP,(A.s [(p.a12,p.jw,p.iv)] p.a8 (A.b .add .i64 p.a8 p.a9))),(A.k mM ((p.a2,p.a3,p.a4,p.a5,p.a6,p.a7,p.dP,(A.s [(p.a12,p.jw,p.iv)] p.a8 (A.b .add .i64 p.a8 p.a9))),p.bH,true)).1,(A.k tF 2))) (.br (A.c .eql p.a0 0) (.br (A.c .eql p.a1 0) (.br (A.c .eql (A.k mM ((p.a2,p.a3,p.a4,p.a5,p.a6,p.a7,p.dP,(A.s [(p.a12,p.jw,p.iv)] p.a8 (A.b .add .i64 p.a8 p.a9))),p.bH,true)).2 0) (.br (A.c .eql (A.k kV ((p.a2,p.a3,p.a4,p.a5,p.a6,p.a7,p.dP,(A.s [(p.a12,p.jw,p.iv)] p.a8 (A.b .add .i64 p.a8 p.a9))),(A.k mM ((p.a2,p.a3,p.a4,p.a5,p.a6,p.a7,p.dP,(A.s [(p.a12,p.jw,p.iv)] p.a8 (A.b .add .i64 p.a8 p.a9))),p.bH,true)).1,(A.k tF 2))).2.2.2 0) (.br (A.c .eql (A.k kV ((p.a2,p.a3,p.a4,p.a5,p.a6,p.a7,p.dP,(A.s [(p.a12,p.jw,p.iv)] p.a8 (A.b .add .i64 p.a8 p.a9))),(A.k mM ((p.a2,p.a3,p.a4,p.a5,p.a6,p.a7,p.dP,(A.s [(p.a12,p.jw,p.iv)] p.a8 (A.b .add .i64 p.a8 p.a9))),p.bH,true)).1,(A.k tF 2))).2.1 9) (.br (A.k kV ((p.a2,p.a3,p.a4,p.a5,p.a6,p.a7,p.dP,(A.s [(p.a12,p.jw,p.iv)] p.a8 (A.b .add .i64 p.a8 p.a9))),(A.k mM ((p.a2,p.a3,p.a4,p.a5,p.a6,p.a7,p.dP,(A.s [(p.a12,p.jw,p.iv)] p.a8 (A.b .add .i64 p.a8 p.a9))),p.bH,true)).1,(A.k tF 2))).2.2.1 (.br (A.c .eql (A.k kV ((p.a2,p.a3,p.a4,p.a5,p.a6,p.a7,p.dP,(A.s [(p.a12,p.jw,p.iv)] p.a8 (A.b .add .i64 p.a8 p.a9))),(A.k mM ((p.a2,p.a3,p.a4,p.a5,p.a6,p.a7,p.dP,(A.s [(p.a12,p.jw,p.iv)] p.a8 (A.b .add .i64 p.a8 p.a9))),p.bH,true)).1,(A.k tF 2))).1.2.1 3) (.br (A.c .eql (A.k kV ((p.a2,p.a3,p.a4,p.a5,p.a6,p.a7,p.dP,(A.s [(p.a12,p.jw,p.iv)] p.a8 (A.b .add .i64 p.a8 p.a9))),(A.k mM ((p.a2,p.a3,p.a4,p.a5,p.a6,p.a7,p.dP,(A.s [(p.a12,p.jw,p.iv)] p.a8 (A.b .add .i64 p.a8 p.a9))),p.bH,true)).1,(A.k tF 2))).1.2.2.1.2.1 2) (.ret (A.c .eql (A.k kV ((p.a2,p.a3,p.a4,p.a5,p.a6,p.a7,p.dP,(A.s [(p.a12,p.jw,p.iv)] p.a8 (A.b .add .i64 p.a8 p.a9))),(A.k mM ((p.a2,p.a3,p.a4,p.a5,p.a6,p.a7,p.dP,(A.s [(p.a12,p.jw,p.iv)] p.a8 (A.b .add .i64 p.a8 p.a9))),p.bH,true)).1,(A.k tF 2))).1.2.2.1.2.2.2.2 4)) (.ret false)) (.ret false)) (.ret false)) (.ret false)) (.ret false)) (.ret false)) (.ret false)) (.ret false))))
theorem GQ:aA (Qi aj) (Sk aj) true:=by
 unfold Sk
 repeat' (refine af.2 ⟨by kernel_rfl,?_⟩)
 rw[al,Qi]
 repeat' (refine af.2 ⟨by kernel_rfl,?_⟩)
 refine(ai (by kernel_rfl)).2 ((ai (by kernel_rfl)).2 ((ai (by kernel_rfl)).2 ((ai (by kernel_rfl)).2 ((ai (by kernel_rfl)).2 ((ai (by kernel_rfl)).2 ((ai (by kernel_rfl)).2 ((ai (by kernel_rfl)).2 (ay (by kernel_rfl) (.ret _)))))))))
def C_:Unit→Bool:=fun _=>true
def W0:aD:=⟨[], [.bool],(@tt Unit),C_⟩
theorem aaw:Sd 31 W0:=aL au cK true 313 [] [⟨31,3, [[1,2,3,4]]⟩] (fun A _=>Sk A) Qi QB (fc Tryz.func31 (fc Tryz.func60 fz)) (sc Pm (sc Ph (sc Pb (sc Ou (sc Yf sz))))) (fun A y=>match y with |.c0 p=>⟨73,by kernel_rfl,by kernel_rfl⟩) fun _ hp h=>GQ
end Go.Ev.M
