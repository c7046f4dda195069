/-
  PROVED: what functions of the packages cni and metronomeref12 compute. Conditions: none.
-/
import Derived.Test.YtjceiokllpmnkaaGreatHb
namespace Go.Ev.M
open Go.Proofs
set_option maxRecDepth 100000
set_option linter.unusedVariables false
set_option linter.unusedSimpArgs false
open Go.Ev.Pl
abbrev G6(b:Bool):Prop:=b=b
section
variable {R Y:Type} {step:Y→LT R Y} {t:LT R Y} {r:R}
end
theorem uZ{b:Bool}{α:Type}{x y:α}(h:b=false):y=bif b then x else y:=by rw[h];rfl
theorem uH{p:Prop}[Decidable p]{b:Bool}(h:¬p):(decide p&&b)=false:=by rw[decide_eq_false h];rfl
theorem eY{p:Prop}[Decidable p]{b:Bool}(h:p):(decide p&&b)=b:=by rw[decide_eq_true h];rfl
def Jv(A:bu)(n:Int)(least:Int)(most:Int):LT Bool Empty:=.br (A.c .geq n least) (.ret (A.c .leq n most)) (.ret false)
def mm:(Int×Int×Int)→Bool:=fun(n,least,most)=>(Jv ah n least most).val (Ty.bV [.bool])
def Te:aC:=⟨[yI,yI,yI], [.bool],(@tt (Int×Int×Int)),mm⟩
theorem G1:Sd 96 Te:=aK au dC true 22 [] (fun A (n,least,most)=>Jv A n least most) (fc Tryz.func96 fz) sz (fun((n,least,most):Int×Int×Int) hp h=>by
 show(Jv ah n least most).pre=true
 simp[Jv,LT.pre,al,cB])
structure Lq where
 (a0:List dF) (a1:Int) (a3:Bool)
inductive H7 where
 | c0 (p:Lq) (a2:Int)
noncomputable def LV:H7→f_
 | .c0 p a2=>⟨[⟨173,19,(en [(0,.sl cX p.a0),(1,.fn 95 [] []),(7,vi p.a1),(8,vi a2)]),[.inLoop (cw Tryz.f173 [1,0,1,0,0]),.inBlock 0,.code (cw Tryz.f173 [1,1])],[],none⟩,⟨97,9,.leaf,[.ops (ow Tryz.f97 [1,0]) ((ow Tryz.f97 [1,0]).toList.drop 2),.code .ret],[],none⟩,⟨44,43,(en [(37,vb p.a3)]),[.ops (ow Tryz.f44 [1,1,0,0]) ((ow Tryz.f44 [1,1,0,0]).toList.drop 37),.code (cw Tryz.f44 [1,1,0,1]),.code (cw Tryz.f44 [1,1,1])],[],none⟩],[.dead]⟩
def Ma(A:bu)(c:ek):LT Int H7:=.need (A.k (@tt (Int×Int×Int)) ((A.l c.2.2.1),4,8)) (.br (A.not (A.k mm ((A.l c.2.2.1),4,8))) (.ret 120) (.need (A.k (@tt (Int×Int×Int)) (c.1,0,(A.b .sub .i64 (A.l c.2.2.1) 1))) (.br (A.not (A.k mm (c.1,0,(A.b .sub .i64 (A.l c.2.2.1) 1)))) (.ret 120) (.br (A.c .gtr (A.l c.2.1) 8) (.ret 120) (.need (A.k (@tt (Int×Int×Int)) (c.2.2.2.1,0,4)) (.br (A.not (A.k mm (c.2.2.2.1,0,4))) (.ret 120) (.need (A.k (@tt (Int×Int×Int)) (c.2.2.2.2,(-1),3)) (.br (A.not (A.k mm (c.2.2.2.2,(-1),3))) (.ret 120) (.more (.c0 ⟨c.2.2.1,(A.l c.2.2.1),false⟩ 0))))))))))
def EG(A:bu):H7→LT Int H7
 | .c0 p a2=>.br (A.c .lss a2 p.a1) (.need (A.and (A.c .leq 0 a2) (A.c .lss a2 (A.l p.a0))) (.br (A.c .gtr (A.l (A.n cX p.a0 a2:dF).1) 8) (.br p.a3 (.ret 120) (.br (A.c .geq a2 0) (.ret 120) (.ret 0))) (.need (A.k (@tt (Int×Int×Int)) ((A.n cX p.a0 a2:dF).2,0,255)) (.br (A.not (A.k mm ((A.n cX p.a0 a2:dF).2,0,255))) (.br p.a3 (.ret 120) (.br (A.c .geq a2 0) (.ret 120) (.ret 0))) (.more (.c0 p (A.b .add .i64 a2 1))))))) (.br p.a3 (.ret 120) (.ret 0))
theorem B_:mm=dz:=rfl
def AT(m:dF):Bool:=decide (¬8<(m.1.length:Int))&&decide (0≤m.2∧m.2≤255)
def fN(c:ek):Bool:=decide (4≤(c.2.2.1.length:Int)∧(c.2.2.1.length:Int)≤8)&&(decide (0≤c.1∧c.1≤(c.2.2.1.length:Int)-1)&&(decide (¬8<(c.2.1.length:Int))&&(decide (0≤c.2.2.2.1∧c.2.2.2.1≤4)&&(decide (-1≤c.2.2.2.2∧c.2.2.2.2≤3)&&c.2.2.1.all AT))))
def rP(c:ek):Int:=bif fN c then 0 else 120
theorem wV{c:ek}:rP c=0↔fN c=true:=by unfold rP;cases fN c<;>decide
theorem Wh{l:List dF}(hl:l.length≤140737488355328):∀(j i:Nat),l.length-i=j→i≤l.length→aD (EG ah) (.more (.c0 ⟨l,(l.length:Int),false⟩ (i:Int))) (bif (l.drop i).all AT then 0 else 120):=by
 intro j
 induction j with
 | zero=>
   intro i hj hi
   have:i=l.length:=by omega
   subst this
   rw[ak,EG]
   refine(ai (by rw[aG];simp)).2 ((ai rfl).2 ?_)
   rw[List.drop_length]
   exact .ret _
 | succ j ih=>
   intro i hj hi
   have hi':i<l.length:=by omega
   rw[ak,EG]
   refine(aj (by rw[aG];simp;omega)).2 (af.2 ⟨bH hi',?_⟩)
   rw[show(ah.n cX l (i:Int):dF)=l[i] from getD_in hi' _,List.drop_eq_getElem_cons hi',List.all_cons,AT,B_]
   refine aM (p:=8<(l[i].1.length:Int)) rfl (fun h=>?_) fun h1=>af.2 ⟨rfl,ez (fun h=>?_) fun h2=>?_⟩
   ·rw[decide_eq_false (show ¬¬8<(l[i].1.length:Int) by omega)]
    exact(ai rfl).2 ((aj (by rw[aI];simp)).2 (.ret _))
   ·rw[decide_eq_false h,Bool.and_false]
    exact(ai rfl).2 ((aj (by rw[aI];simp)).2 (.ret _))
   ·rw[decide_eq_true h1,decide_eq_true h2,dI (i:=i) (by omega)]
    exact ih (i+1) (by omega) (by omega)
theorem I6{c:ek}(h:Ty.has qb c):c.2.1.length≤140737488355328∧c.2.2.1.length≤140737488355328∧∀x∈c.2.2.1,x.1.length≤140737488355328:=by
 obtain⟨_,h1,h2,_⟩:=h
 exact⟨h1.1,h2.1,fun x hx=>(h2.2 x hx).1.1⟩
theorem WK{c:ek}(h:Ty.has qb c):aD (EG ah) (Ma ah c) (rP c):=by
 have hc:=(I6 h).2.1
 unfold Ma rP
 rw[B_]
 simp only[kv]
 have hs:ah.b .sub .i64 (c.2.2.1.length:Int) 1=(c.2.2.1.length:Int)-1:=by rw[aS,fU (by omega) (by omega)]
 rw[hs]
 refine af.2 ⟨rfl,ez (fun h=>?_) fun h1=>af.2 ⟨rfl,ez (fun h=>?_) fun h2=>aM (p:=8<(c.2.1.length:Int)) rfl (fun h=>?_) fun h3=>af.2 ⟨rfl,ez (fun h=>?_) fun h4=>af.2 ⟨rfl,ez (fun h=>?_) fun h5=>?_⟩⟩⟩⟩
 ·exact aH (uZ (by rw[fN,uH h])) (.ret _)
 ·exact aH (uZ (by rw[fN,eY h1,uH h])) (.ret _)
 ·exact aH (uZ (by rw[fN,eY h1,eY h2,uH (fun k=>k h)])) (.ret _)
 ·exact aH (uZ (by rw[fN,eY h1,eY h2,eY h3,uH h])) (.ret _)
 ·exact aH (uZ (by rw[fN,eY h1,eY h2,eY h3,eY h4,uH h])) (.ret _)
 ·rw[fN,eY h1,eY h2,eY h3,eY h4,eY h5]
  exact Wh hc c.2.2.1.length 0 rfl (by omega)
def kF:ek→Int:=rP
def RQ:aC:=⟨[qb], [yI],(@tt ek),kF⟩
theorem BE:Sd 44 RQ:=aJ au dC true 78 [⟨173,2, [[0,1,7,8], [], [37]]⟩] [] (fun A c=>Ma A c) EG LV (fc Tryz.func44 (fc Tryz.func95 (fc Tryz.func97 (fc Tryz.func173 fz)))) (sc G1 sz) (fun A y=>match y with |.c0 p a2=>⟨68,by kernel_rfl,by kernel_rfl⟩) fun c hp h=>WK h
open Go.Ev.Pl
structure KE where
 (a0:Int) (a2:ek) (a3 a4 a5:Int)
inductive E4 where
 | c0 (p:KE) (a1:Int) (a6:List dF)
noncomputable def M4:E4→f_
 | .c0 p a1 a6=>⟨[⟨112,44,(en [(1,.ptr 0 0),(2,.ptr 1 0),(5,.own 2),(22,vi p.a0),(23,vi a1)]),[.inLoop (cw Tryz.f112 [1,1,1,1,0,1,0,0]),.inBlock 0,.code (cw Tryz.f112 [1,1,1,1,1])],[],none⟩],[.flat false [vi p.a2.1,.sl yU p.a2.2.1,.sl cX p.a2.2.2.1,vi p.a2.2.2.2.1,vi p.a2.2.2.2.2],.flat false [vi p.a3,.dp true,.dp true,vi p.a4,vi p.a5],.arr false cX a6,.dead]⟩
def LQ(A:bu)(c:ek):LT (ek×Int) E4:=.need (A.k (@tt ek) c) (.br (A.c .neq (A.k kF c) 0) (.ret ((0,([]:List Int),([]:List dF),0,0),(A.k kF c))) (.need (A.and (A.c .eql (A.l c.2.2.1) (A.l c.2.2.1)) (A.and (A.c .leq 0 (A.l c.2.2.1)) (A.c .leq (A.l c.2.2.1) 4398046511104))) (.more (.c0 ⟨(A.l (A.spl (A.r (A.l c.2.2.1) (Ty.gx cX:dF)) 0 (A.s c.2.2.1 0 (A.mn (A.l c.2.2.1) (A.l (A.r (A.l c.2.2.1) (Ty.gx cX:dF))))))),c,0,0,0⟩ 0 (A.spl (A.r (A.l c.2.2.1) (Ty.gx cX:dF)) 0 (A.s c.2.2.1 0 (A.mn (A.l c.2.2.1) (A.l (A.r (A.l c.2.2.1) (Ty.gx cX:dF))))))))))
def F_(A:bu):E4→LT (ek×Int) E4
 | .c0 p a1 a6=>.br (A.c .lss a1 p.a0) (.need (A.and (A.c .leq 0 a1) (A.c .lss a1 (A.l a6))) (.need (A.k (@tt (List Int)) (A.n cX a6 a1:dF).1) (.need (A.and (A.c .leq 0 a1) (A.c .lss a1 (A.l a6))) (.more (.c0 p (A.b .add .i64 a1 1) (A.set a6 a1 ((A.k mj (A.n cX a6 a1:dF).1),(A.n cX a6 a1:dF).2))))))) (.need (A.k (@tt (List Int)) p.a2.2.1) (.ret ((p.a2.1,(A.k mj p.a2.2.1),a6,p.a2.2.2.2),0)))
def yk:ek:=(0,([]:List Int),([]:List dF),0,0)
def GF(c:ek):ek×Int:=bif fN c then(c,0) else(yk,120)
theorem WQ{c:ek}{L z1 z2 z3:Int}{l:List dF}(hl:l.length≤140737488355328)(hL:L=(l.length:Int)):∀(j i:Nat),l.length-i=j→i≤l.length→aD (F_ ah) (.more (.c0 ⟨L,c,z1,z2,z3⟩ (i:Int) l)) ((c.1,c.2.1,l,c.2.2.2),0):=by
 subst hL
 intro j
 induction j with
 | zero=>
   intro i hj hi
   have:i=l.length:=by omega
   subst this
   rw[ak,F_]
   exact(ai (by rw[aG];simp)).2 (af.2 ⟨rfl,.ret _⟩)
 | succ j ih=>
   intro i hj hi
   have hi':i<l.length:=by omega
   rw[ak,F_]
   refine(aj (by rw[aG];simp;omega)).2 (af.2 ⟨bH hi',af.2 ⟨rfl,af.2 ⟨bH hi',?_⟩⟩⟩)
   have e:(ah.n cX l (i:Int):dF)=l[i]:=getD_in hi' _
   have e2:ah.set l (i:Int) ((ah.k mj (ah.n cX l (i:Int):dF).1),(ah.n cX l (i:Int):dF).2)=l:=by
    rw[e]
    show l.set (i:Int).toNat l[i]=l
    rw[Int.toNat_natCast];exact List.set_getElem_self _
   rw[e2,dI (i:=i) (by omega)]
   exact ih (i+1) (by omega) (by omega)
theorem xm{α:Type}{l:List α}{d:α}:ah.spl (ah.r (ah.l l) d) 0 (ah.s l 0 (ah.mn (ah.l l) (ah.l (ah.r (ah.l l) d))))=l:=by
 simp[pQ,mY,kr,ot,kv]
theorem UU{c:ek}:aD (F_ ah) (LQ ah c) (GF c):=by
 unfold LQ GF
 refine af.2 ⟨rfl,?_⟩
 rw[show ah.k kF c=rP c from rfl,rP]
 cases hc:fN c
 ·exact(aj rfl).2 (.ret _)
 ·refine(ai rfl).2 ?_
  simp only[fN,Bool.and_eq_true,decide_eq_true_eq] at hc
  have h1:ah.and (ah.c .eql (ah.l c.2.2.1) (ah.l c.2.2.1)) (ah.and (ah.c .leq 0 (ah.l c.2.2.1)) (ah.c .leq (ah.l c.2.2.1) 4398046511104))=true:=by
   rw[kv,aB,ax,ax,aL,aL];simp;omega
  refine af.2 ⟨h1,?_⟩
  exact aT (congrArg (fun z:List dF=>LT.more (E4.c0 ⟨ah.l z,c,0,0,0⟩ 0 z)) xm) (WQ (by omega) rfl c.2.2.1.length 0 rfl (by omega))
def vV:ek→(ek×Int):=GF
def Uf:aC:=⟨[qb], [qb,yI],(@tt ek),vV⟩
theorem RG:Sd 112 Uf:=aJ au dC true 50 [⟨112,7, [[1,2,5,22,23]]⟩] [] (fun A c=>LQ A c) F_ M4 (fc Tryz.func112 fz) (sc B6 (sc BE sz)) (fun A y=>match y with |.c0 p a1 a6=>⟨38,by kernel_rfl,by kernel_rfl⟩) fun c hp h=>UU
theorem bT{a b:Int}:ah.c .eql a b=decide (a=b):=by rw[aB,Bool.eq_iff_iff];simp
open Go.Ev.Pl
open Go.Ev.Pl
structure Lm where
 (a0 a2:Int) (a3:List Int) (a4:ek) (a5 a6 a7:Int) (a9:ek) (b_ dY a12:Int)
inductive D9 where
 | c0 (p:Lm) (a1:Int) (a8:List dF)
noncomputable def M7:D9→f_
 | .c0 p a1 a8=>⟨[⟨112,44,(en [(1,.ptr 0 0),(2,.ptr 1 0),(5,.own 2),(22,vi p.a0),(23,vi a1)]),[.inLoop (cw Tryz.f112 [1,1,1,1,0,1,0,0]),.inBlock 0,.code (cw Tryz.f112 [1,1,1,1,1])],[],none⟩,⟨110,42,(en [(1,vi p.a2),(2,.sl yU p.a3),(3,.ptr 3 0),(6,.ptr 4 0)]),[.ops (ow Tryz.f110 [1,0]) ((ow Tryz.f110 [1,0]).toList.drop 1),.code (cw Tryz.f110 [1,1])],[],none⟩],[.flat false [vi p.a4.1,.sl yU p.a4.2.1,.sl cX p.a4.2.2.1,vi p.a4.2.2.2.1,vi p.a4.2.2.2.2],.flat false [vi p.a5,.dp true,.dp true,vi p.a6,vi p.a7],.arr false cX a8,.flat false [vi p.a9.1,.sl yU p.a9.2.1,.sl cX p.a9.2.2.1,vi p.a9.2.2.2.1,vi p.a9.2.2.2.2],.flat false [vi p.b_,.dp true,.dp true,vi p.dY,vi p.a12],.dead]⟩
def Mr(A:bu)(c:ek)(slot:Int)(data:List Int):LT (ek×Int) D9:=.need (A.k (@tt ek) c) (.br (A.c .neq (A.k kF c) 0) (.br (A.c .neq (A.k kF c) 0) (.ret ((0,([]:List Int),([]:List dF),0,0),(A.k kF c))) (.need (A.k (@tt (Int×Int×Int)) (slot,0,(A.b .sub .i64 (A.l c.2.2.1) 1))) (.br (A.not (A.k mm (slot,0,(A.b .sub .i64 (A.l c.2.2.1) 1)))) (.ret ((0,([]:List Int),([]:List dF),0,0),2)) (.br (A.c .gtr (A.l data) 8) (.ret ((0,([]:List Int),([]:List dF),0,0),3)) (.need (A.k (@tt (List Int)) data) (.bad 37 "cni.go:107")))))) (.need (A.and (A.c .eql (A.l c.2.2.1) (A.l c.2.2.1)) (A.and (A.c .leq 0 (A.l c.2.2.1)) (A.c .leq (A.l c.2.2.1) 4398046511104))) (.more (.c0 ⟨(A.l (A.spl (A.r (A.l c.2.2.1) (Ty.gx cX:dF)) 0 (A.s c.2.2.1 0 (A.mn (A.l c.2.2.1) (A.l (A.r (A.l c.2.2.1) (Ty.gx cX:dF))))))),slot,data,c,0,0,0,c,0,0,0⟩ 0 (A.spl (A.r (A.l c.2.2.1) (Ty.gx cX:dF)) 0 (A.s c.2.2.1 0 (A.mn (A.l c.2.2.1) (A.l (A.r (A.l c.2.2.1) (Ty.gx cX:dF))))))))))
def CV(A:bu):D9→LT (ek×Int) D9
 | .c0 p a1 a8=>.br (A.c .lss a1 p.a0) (.need (A.and (A.c .leq 0 a1) (A.c .lss a1 (A.l a8))) (.need (A.k (@tt (List Int)) (A.n cX a8 a1:dF).1) (.need (A.and (A.c .leq 0 a1) (A.c .lss a1 (A.l a8))) (.more (.c0 p (A.b .add .i64 a1 1) (A.set a8 a1 ((A.k mj (A.n cX a8 a1:dF).1),(A.n cX a8 a1:dF).2))))))) (.need (A.k (@tt (List Int)) p.a4.2.1) (.need (A.k (@tt (Int×Int×Int)) (p.a2,0,(A.b .sub .i64 (A.l p.a9.2.2.1) 1))) (.br (A.not (A.k mm (p.a2,0,(A.b .sub .i64 (A.l p.a9.2.2.1) 1)))) (.ret ((0,([]:List Int),([]:List dF),0,0),2)) (.br (A.c .gtr (A.l p.a3) 8) (.ret ((0,([]:List Int),([]:List dF),0,0),3)) (.need (A.k (@tt (List Int)) p.a3) (.need (A.and (A.c .leq 0 p.a2) (A.c .lss p.a2 (A.l a8))) (.ret ((p.a4.1,(A.k mj p.a4.2.1),(A.set a8 p.a2 ((A.k mj p.a3),0)),p.a4.2.2.2),0))))))))
def kR(c:ek)(slot:Int)(data:List Int):ek×Int:=
 bif fN c then(bif decide (0≤slot∧slot≤(c.2.2.1.length:Int)-1) then(bif decide (8<(data.length:Int)) then(yk,3) else((c.1,c.2.1,c.2.2.1.set slot.toNat (data,0),c.2.2.2),0)) else(yk,2)) else(yk,120)
def Y4:ek×Int×List Int→ek×Int:=fun(c,slot,data)=>kR c slot data
theorem xW{c:ek}(h:fN c=true):4≤c.2.2.1.length∧c.2.2.1.length≤8∧c.2.1.length≤8∧∀x∈c.2.2.1,x.1.length≤8∧0≤x.2∧x.2≤255:=by
 simp only[fN,Bool.and_eq_true,decide_eq_true_eq,List.all_eq_true,AT] at h
 exact⟨by omega,by omega,by omega,fun x hx=>by have:=h.2.2.2.2.2 x hx;exact⟨by omega,this.2⟩⟩
theorem zA{c:ek}(h:fN c=true):ah.and (ah.c .eql (ah.l c.2.2.1) (ah.l c.2.2.1)) (ah.and (ah.c .leq 0 (ah.l c.2.2.1)) (ah.c .leq (ah.l c.2.2.1) 4398046511104))=true:=by
 have:=xW h
 rw[kv,aB,ax,ax,aL,aL];simp;omega
theorem yR{l:List dF}{i:Nat}(hi:i<l.length):ah.set l (i:Int) ((ah.k mj (ah.n cX l (i:Int):dF).1),(ah.n cX l (i:Int):dF).2)=l:=by
 rw[show(ah.n cX l (i:Int):dF)=l[i] from getD_in hi _]
 show l.set (i:Int).toNat l[i]=l
 rw[Int.toNat_natCast];exact List.set_getElem_self _
theorem Wz{c:ek}{L slot z1 z2 z3 z4 z5 z6:Int}{data:List Int}{R:ek×Int}(hl:c.2.2.1.length≤8)(hL:L=(c.2.2.1.length:Int))(hR:aD (CV ah) (.more (.c0 ⟨L,slot,data,c,z1,z2,z3,c,z4,z5,z6⟩ (c.2.2.1.length:Int) c.2.2.1)) R) :
  ∀(j i:Nat),c.2.2.1.length-i=j→i≤c.2.2.1.length→aD (CV ah) (.more (.c0 ⟨L,slot,data,c,z1,z2,z3,c,z4,z5,z6⟩ (i:Int) c.2.2.1)) R:=by
 subst hL
 intro j
 induction j with
 | zero=>
   intro i hj hi
   have:i=c.2.2.1.length:=by omega
   subst this
   exact hR
 | succ j ih=>
   intro i hj hi
   have hi':i<c.2.2.1.length:=by omega
   rw[ak,CV]
   refine(aj (by rw[aG];simp;omega)).2 (af.2 ⟨bH hi',af.2 ⟨rfl,af.2 ⟨bH hi',?_⟩⟩⟩)
   rw[yR hi',dI (i:=i) (by omega)]
   exact ih (i+1) (by omega) (by omega)
theorem Xd{c:ek}{slot:Int}{data:List Int}:aD (CV ah) (Mr ah c slot data) (kR c slot data):=by
 unfold Mr kR
 refine af.2 ⟨rfl,?_⟩
 rw[show ah.k kF c=rP c from rfl,rP]
 cases hc:fN c
 ·exact(aj rfl).2 ((aj rfl).2 (.ret _))
 ·obtain⟨h1,h2,_,_⟩:=xW hc
  refine(ai rfl).2 (af.2 ⟨zA hc,aT (congrArg (fun z:List dF=>LT.more (D9.c0 ⟨ah.l z,slot,data,c,0,0,0,c,0,0,0⟩ 0 z)) xm) (Wz h2 rfl ?_ c.2.2.1.length 0 rfl (by omega))⟩)
  rw[ak,CV]
  have hs:ah.b .sub .i64 (c.2.2.1.length:Int) 1=(c.2.2.1.length:Int)-1:=by rw[aS,fU (by omega) (by omega)]
  refine(ai (by rw[aG];simp)).2 (af.2 ⟨rfl,af.2 ⟨rfl,?_⟩⟩)
  rw[B_]
  simp only[kv,hs]
  refine ez (fun h=>?_) fun h3=>aM (p:=8<(data.length:Int)) rfl (fun h=>?_) fun h4=>af.2 ⟨rfl,af.2 ⟨?_,?_⟩⟩
  ·rw[decide_eq_false h];exact .ret _
  ·rw[decide_eq_true h3,decide_eq_true h];exact .ret _
  ·rw[ax,ao,aL];simp;omega
  ·rw[decide_eq_true h3,decide_eq_false h4];exact .ret _
def rD:(ek×Int×List Int)→(ek×Int):=Y4
def TW:aC:=⟨[qb,yI,yB], [qb,yI],(@tt (ek×Int×List Int)),rD⟩
theorem JB:Sd 110 TW:=aJ au dC true 89 [⟨112,7, [[1,2,5,22,23], [1,2,3,6]]⟩] [] (fun A (c,slot,data)=>Mr A c slot data) CV M7 (fc Tryz.func110 (fc Tryz.func112 fz)) (sc B6 (sc BE (sc G1 sz))) (fun A y=>match y with |.c0 p a1 a8=>⟨86,by kernel_rfl,by kernel_rfl⟩) fun(c,slot,data) hp h=>Xd
structure Mm where
 (a0 a1 a2 a3 a4 a5 a6 a7:Int)
structure LD where
 (b0:Int) (b2:ek) (b3 b4 b5 b7 b8 b9:Int)
structure KB where
 (c0 c2 c3 c4 c5:Int) (c6:List Int) (c7 c8:Int)
inductive DX where
 | c0 (p:Mm)
 | c1 (p:LD) (b1:Int) (b6:List dF)
 | c2 (p:KB) (c1:Int) (c9:List dF)
noncomputable def K1:DX→f_
 | .c0 p=>⟨[⟨57,42,(en [(2,.ptr 0 0),(4,.ptr 1 0),(18,vi p.a0),(19,vi p.a1)]),[.inLoop (cw Tryz.f57 [1,1,1,0,1,0,0]),.inBlock 0,.code (cw Tryz.f57 [1,1,1,1])],[],none⟩],[.flat false [vi p.a2,.dp true,.dp true,vi p.a3,vi p.a4],.flat false [vi p.a5,.dp true,.dp true,vi p.a6,vi p.a7],.dead]⟩
 | .c1 p b1 b6=>⟨[⟨112,44,(en [(1,.ptr 0 0),(2,.ptr 1 0),(5,.own 2),(22,vi p.b0),(23,vi b1)]),[.inLoop (cw Tryz.f112 [1,1,1,1,0,1,0,0]),.inBlock 0,.code (cw Tryz.f112 [1,1,1,1,1])],[],none⟩,⟨57,42,(en [(2,.ptr 3 0)]),[.ops (ow Tryz.f57 [1,0]) ((ow Tryz.f57 [1,0]).toList.drop 1),.code (cw Tryz.f57 [1,1])],[],none⟩],[.flat false [vi p.b2.1,.sl yU p.b2.2.1,.sl cX p.b2.2.2.1,vi p.b2.2.2.2.1,vi p.b2.2.2.2.2],.flat false [vi p.b3,.dp true,.dp true,vi p.b4,vi p.b5],.arr false cX b6,.flat false [vi p.b7,.dp true,.dp true,vi p.b8,vi p.b9],.dead]⟩
 | .c2 p c1 c9=>⟨[⟨57,42,(en [(2,.ptr 0 0),(4,.ptr 1 0),(18,vi p.c0),(19,vi c1)]),[.inLoop (cw Tryz.f57 [1,1,1,0,1,0,0]),.inBlock 0,.code (cw Tryz.f57 [1,1,1,1])],[],none⟩],[.flat false [vi p.c2,.dp true,.dp true,vi p.c3,vi p.c4],.flat false [vi p.c5,.sl yU p.c6,.own 2,vi p.c7,vi p.c8],.arr false cX c9,.dead]⟩
def L_(A:bu)(c:ek):LT (ek×Int) DX:=.need (A.k (@tt ek) c) (.br (A.c .neq (A.k kF c) 0) (.br (A.c .neq (A.k kF c) 0) (.ret ((0,([]:List Int),([]:List dF),0,0),(A.k kF c))) (.more (.c0 ⟨0,0,0,0,0,0,0,0⟩))) (.need (A.and (A.c .eql (A.l c.2.2.1) (A.l c.2.2.1)) (A.and (A.c .leq 0 (A.l c.2.2.1)) (A.c .leq (A.l c.2.2.1) 4398046511104))) (.more (.c1 ⟨(A.l (A.spl (A.r (A.l c.2.2.1) (Ty.gx cX:dF)) 0 (A.s c.2.2.1 0 (A.mn (A.l c.2.2.1) (A.l (A.r (A.l c.2.2.1) (Ty.gx cX:dF))))))),c,0,0,0,0,0,0⟩ 0 (A.spl (A.r (A.l c.2.2.1) (Ty.gx cX:dF)) 0 (A.s c.2.2.1 0 (A.mn (A.l c.2.2.1) (A.l (A.r (A.l c.2.2.1) (Ty.gx cX:dF))))))))))
def xL(A:bu):DX→LT (ek×Int) DX
 | .c0 p=>.br (A.c .lss p.a1 p.a0) (.bad 37 "cni.go:118") (.ret ((p.a5,([]:List Int),([]:List dF),(A.mx (A.b .sub .i64 p.a6 1) 0),p.a7),0))
 | .c1 p b1 b6=>.br (A.c .lss b1 p.b0) (.need (A.and (A.c .leq 0 b1) (A.c .lss b1 (A.l b6))) (.need (A.k (@tt (List Int)) (A.n cX b6 b1:dF).1) (.need (A.and (A.c .leq 0 b1) (A.c .lss b1 (A.l b6))) (.more (.c1 p (A.b .add .i64 b1 1) (A.set b6 b1 ((A.k mj (A.n cX b6 b1:dF).1),(A.n cX b6 b1:dF).2))))))) (.need (A.k (@tt (List Int)) p.b2.2.1) (.more (.c2 ⟨(A.l b6),p.b7,p.b8,p.b9,p.b2.1,(A.k mj p.b2.2.1),p.b2.2.2.2.1,p.b2.2.2.2.2⟩ 0 b6)))
 | .c2 p c1 c9=>.br (A.c .lss c1 p.c0) (.need (A.and (A.c .leq 0 c1) (A.c .lss c1 (A.l c9))) (.need (A.and (A.c .leq 0 c1) (A.c .lss c1 (A.l c9))) (.more (.c2 p (A.b .add .i64 c1 1) (A.set c9 c1 ((A.n cX c9 c1:dF).1,(A.mn (A.b .add .i64 (A.n cX c9 c1:dF).2 1) 255))))))) (.ret ((p.c5,p.c6,c9,(A.mx (A.b .sub .i64 p.c7 1) 0),p.c8),0))
def wZ(m:dF):dF:=(m.1,ah.mn (ah.b .add .i64 m.2 1) 255)
def vy(c:ek):ek×Int:=bif fN c then((c.1,c.2.1,c.2.2.1.map wZ,ah.mx (ah.b .sub .i64 c.2.2.2.1 1) 0,c.2.2.2.2),0) else(yk,120)
theorem L4{f:dF→dF}{l:List dF}{i:Nat}(hi:i<l.length):(ah.n cX ((l.take i).map f++l.drop i) (i:Int):dF)=l[i]∧ah.set ((l.take i).map f++l.drop i) (i:Int) (f l[i])=(l.take (i+1)).map f++l.drop (i+1):=by
 have hlen:i<((l.take i).map f++l.drop i).length:=by simp;omega
 have h1:((l.take i).map f).length=i:=by simp;omega
 constructor
 ·refine(getD_in hlen _).trans ?_
  rw[List.getElem_append_right (by rw[h1];exact Nat.le_refl _)]
  rw[List.getElem_drop]
  congr 1
  omega
 ·show List.set _ (i:Int).toNat _=_
  rw[Int.toNat_natCast,List.set_append_right _ _ (by rw[h1];exact Nat.le_refl _),h1,Nat.sub_self,List.drop_eq_getElem_cons hi,List.set_cons_zero,List.take_succ_eq_append_getElem hi,List.map_append,List.append_assoc]
  rfl
theorem Hg{f:dF→dF}{l:List dF}{i:Nat}(hi:i≤l.length):((l.take i).map f++l.drop i).length=l.length:=by simp;omega
theorem Wn{c:ek}{L z1 z2 z3 z4 z5 z6:Int}{R:ek×Int}(hl:c.2.2.1.length≤8)(hL:L=(c.2.2.1.length:Int))(hR:aD (xL ah) (.more (.c1 ⟨L,c,z1,z2,z3,z4,z5,z6⟩ (c.2.2.1.length:Int) c.2.2.1)) R) :
  ∀(j i:Nat),c.2.2.1.length-i=j→i≤c.2.2.1.length→aD (xL ah) (.more (.c1 ⟨L,c,z1,z2,z3,z4,z5,z6⟩ (i:Int) c.2.2.1)) R:=by
 subst hL
 intro j
 induction j with
 | zero=>
   intro i hj hi
   have:i=c.2.2.1.length:=by omega
   subst this
   exact hR
 | succ j ih=>
   intro i hj hi
   have hi':i<c.2.2.1.length:=by omega
   rw[ak,xL]
   refine(aj (by rw[aG];simp;omega)).2 (af.2 ⟨bH hi',af.2 ⟨rfl,af.2 ⟨bH hi',?_⟩⟩⟩)
   rw[yR hi',dI (i:=i) (by omega)]
   exact ih (i+1) (by omega) (by omega)
theorem Yb{l:List dF}{L z1 z2 z3 id life want:Int}{out:List Int}(hl:l.length≤8)(hL:L=(l.length:Int)):∀(j i:Nat),l.length-i=j→i≤l.length→
  aD (xL ah) (.more (.c2 ⟨L,z1,z2,z3,id,out,life,want⟩ (i:Int) ((l.take i).map wZ++l.drop i))) ((id,out,l.map wZ,ah.mx (ah.b .sub .i64 life 1) 0,want),0):=by
 subst hL
 intro j
 induction j with
 | zero=>
   intro i hj hi
   have:i=l.length:=by omega
   subst this
   rw[ak,xL,List.take_length,List.drop_length,List.append_nil]
   exact(ai (by rw[aG];simp)).2 (.ret _)
 | succ j ih=>
   intro i hj hi
   have hi':i<l.length:=by omega
   have hx:i<((l.take i).map wZ++l.drop i).length:=by rw[Hg hi];exact hi'
   obtain⟨a1,a2⟩:=L4 (f:=wZ) hi'
   rw[ak,xL]
   refine(aj (by rw[aG];simp;omega)).2 (af.2 ⟨bH hx,af.2 ⟨bH hx,?_⟩⟩)
   rw[a1,dI (i:=i) (by omega)]
   rw[show(l[i].1,ah.mn (ah.b .add .i64 l[i].2 1) 255)=wZ l[i] from rfl,a2]
   exact ih (i+1) (by omega) (by omega)
theorem V4{c:ek}:aD (xL ah) (L_ ah c) (vy c):=by
 unfold L_ vy
 refine af.2 ⟨rfl,?_⟩
 rw[show ah.k kF c=rP c from rfl,rP]
 cases hc:fN c
 ·exact(aj rfl).2 ((aj rfl).2 (.ret _))
 ·obtain⟨h1,h2,_,_⟩:=xW hc
  refine(ai rfl).2 (af.2 ⟨zA hc,aT (congrArg (fun z:List dF=>LT.more (DX.c1 ⟨ah.l z,c,0,0,0,0,0,0⟩ 0 z)) xm) (Wn h2 rfl ?_ c.2.2.1.length 0 rfl (by omega))⟩)
  rw[ak,xL]
  exact(ai (by rw[aG];simp)).2 (af.2 ⟨rfl,Yb (l:=c.2.2.1) (out:=c.2.1) h2 rfl c.2.2.1.length 0 rfl (by omega)⟩)
def DI:ek→(ek×Int):=vy
def UG:aC:=⟨[qb], [qb,yI],(@tt ek),DI⟩
theorem Pf:Sd 57 UG:=aJ au dC true 68 [⟨57,5, [[2,4,18,19]]⟩,⟨112,7, [[1,2,5,22,23], [2]]⟩] [] (fun A c=>L_ A c) xL K1 (fc Tryz.func57 (fc Tryz.func112 fz)) (sc B6 (sc BE sz)) (fun A y=>match y with |.c0 p=>⟨28,by kernel_rfl,by kernel_rfl⟩|.c1 p b1 b6=>⟨56,by kernel_rfl,by kernel_rfl⟩|.c2 p c1 c9=>⟨41,by kernel_rfl,by kernel_rfl⟩) fun c hp h=>V4
open Go.Ev.Pl
open Go.Ev.Pl
inductive Iy where
 | c0 (a0:Int) (a1:List dF)
noncomputable def MX:Iy→f_
 | .c0 a0 a1=>⟨[⟨162,48,(en [(7,.own 0),(8,vi a0)]),[.inLoop (cw Tryz.f162 [1,1,1,1,1,1,0,0,0]),.inBlock 0,.code (cw Tryz.f162 [1,1,1,1,1,1,1])],[],none⟩],[.arr false cX a1,.dead]⟩
def Tg(A:bu)(x2:List dF)(count:Int):LT (List dF) Iy:=.br (A.c .lss count 0) (.bad 117 "slices.go:516") (.br (A.c .gtr (A.b .add .u64 (A.b .add .u64 (A.b .mul .u64 (A.b .shr .u64 (A.v .u64 (A.l x2)) 32) (A.b .shr .u64 (A.v .u64 count) 32)) (A.b .shr .u64 (A.b .add .u64 (A.b .mul .u64 (A.b .shr .u64 (A.v .u64 (A.l x2)) 32) (A.b .and .u64 (A.v .u64 count) 4294967295)) (A.b .shr .u64 (A.b .mul .u64 (A.b .and .u64 (A.v .u64 (A.l x2)) 4294967295) (A.b .and .u64 (A.v .u64 count) 4294967295)) 32)) 32)) (A.b .shr .u64 (A.b .add .u64 (A.b .and .u64 (A.b .add .u64 (A.b .mul .u64 (A.b .shr .u64 (A.v .u64 (A.l x2)) 32) (A.b .and .u64 (A.v .u64 count) 4294967295)) (A.b .shr .u64 (A.b .mul .u64 (A.b .and .u64 (A.v .u64 (A.l x2)) 4294967295) (A.b .and .u64 (A.v .u64 count) 4294967295)) 32)) 4294967295) (A.b .mul .u64 (A.b .and .u64 (A.v .u64 (A.l x2)) 4294967295) (A.b .shr .u64 (A.v .u64 count) 32))) 32)) 0) (.bad 117 "slices.go:522") (.br (A.c .gtr (A.b .mul .u64 (A.v .u64 (A.l x2)) (A.v .u64 count)) 9223372036854775807) (.bad 117 "slices.go:522") (.need (A.and (A.c .eql (A.v .i64 (A.b .mul .u64 (A.v .u64 (A.l x2)) (A.v .u64 count))) (A.v .i64 (A.b .mul .u64 (A.v .u64 (A.l x2)) (A.v .u64 count)))) (A.and (A.c .leq 0 (A.v .i64 (A.b .mul .u64 (A.v .u64 (A.l x2)) (A.v .u64 count)))) (A.c .leq (A.v .i64 (A.b .mul .u64 (A.v .u64 (A.l x2)) (A.v .u64 count))) 4398046511104))) (.more (.c0 (A.mn (A.l x2) (A.l (A.r (A.v .i64 (A.b .mul .u64 (A.v .u64 (A.l x2)) (A.v .u64 count))) (Ty.gx cX:dF)))) (A.spl (A.r (A.v .i64 (A.b .mul .u64 (A.v .u64 (A.l x2)) (A.v .u64 count))) (Ty.gx cX:dF)) 0 (A.s x2 0 (A.mn (A.l x2) (A.l (A.r (A.v .i64 (A.b .mul .u64 (A.v .u64 (A.l x2)) (A.v .u64 count))) (Ty.gx cX:dF)))))))))))
def Oj(A:bu):Iy→LT (List dF) Iy
 | .c0 a0 a1=>.br (A.c .lss a0 (A.l a1)) (.need (A.and (A.c .leq 0 a0) (A.and (A.c .leq a0 (A.l a1)) (A.c .leq (A.l a1) (A.l a1)))) (.need (A.and (A.c .leq 0 0) (A.and (A.c .leq 0 a0) (A.c .leq a0 (A.l a1)))) (.more (.c0 (A.b .add .i64 a0 (A.mn (A.l (A.s a1 0 (A.b .add .i64 0 (A.b .sub .i64 a0 0)))) (A.b .sub .i64 (A.l a1) a0))) (A.spl a1 a0 (A.s (A.s a1 0 (A.b .add .i64 0 (A.b .sub .i64 a0 0))) 0 (A.mn (A.l (A.s a1 0 (A.b .add .i64 0 (A.b .sub .i64 a0 0)))) (A.b .sub .i64 (A.l a1) a0)))))))) (.ret a1)
def A_:dF:=(([]:List Int),255)
theorem XC{l:List dF}{n:Int}(h:(decide (l=[(([]:List Int),255)])&&decide (4≤n)&&decide (n≤8))=true):aD (Oj ah) (Tg ah l n) (List.replicate n.toNat A_):=by
 simp only[Bool.and_eq_true,decide_eq_true_eq] at h
 obtain⟨⟨rfl,h1⟩,h2⟩:=h
 have hn:n=4∨n=5∨n=6∨n=7∨n=8:=by omega
 rcases hn with rfl|rfl|rfl|rfl|rfl <;>
  (refine(ai (by kernel_rfl)).2 ((ai (by kernel_rfl)).2 ((ai (by kernel_rfl)).2 (af.2 ⟨by kernel_rfl,?_⟩)))
   refine ak.2 ((aj (by kernel_rfl)).2 (af.2 ⟨by kernel_rfl,af.2 ⟨by kernel_rfl,(ak.2 ?_)⟩⟩))
   refine(aj (by kernel_rfl)).2 (af.2 ⟨by kernel_rfl,af.2 ⟨by kernel_rfl,(ak.2 ?_)⟩⟩))
 ·exact(ai (by kernel_rfl)).2 (aH (by kernel_rfl) (.ret _))
 all_goals exact(aj (by kernel_rfl)).2 (af.2 ⟨by kernel_rfl,af.2 ⟨by kernel_rfl,(ak.2 ((ai (by kernel_rfl)).2 (aH (by kernel_rfl) (.ret _))))⟩⟩)
def J0:(List dF×Int)→(List dF):=fun(_,n)=>List.replicate n.toNat (([]:List Int),255)
def AQ:(List dF×Int)→Bool:=fun(l,n)=>decide (l=[(([]:List Int),255)])&&decide (4≤n)&&decide (n≤8)
def NS:aC:=⟨[(.slice cX),yI], [(.slice cX)],AQ,J0⟩
theorem Tl:Sd 162 NS:=aJ au dC true 175 [⟨162,8, [[7,8]]⟩] [] (fun A (x2,count)=>Tg A x2 count) Oj MX (fc Tryz.func162 (fc Tryz.func198 (fc Tryz.func259 fz))) sz (fun A y=>match y with |.c0 a0 a1=>⟨30,by kernel_rfl,by kernel_rfl⟩) fun((x2,count):List dF×Int) hp h=>XC hp
def Lh(A:bu)(id:Int)(n:Int):LT (ek×Int) Empty:=.need (A.k (@tt (Int×Int×Int)) (n,4,8)) (.br (A.not (A.k mm (n,4,8))) (.ret ((0,([]:List Int),([]:List dF),0,0),120)) (.need (A.k (@tt (Int×Int×Int)) (id,0,(A.b .sub .i64 n 1))) (.br (A.not (A.k mm (id,0,(A.b .sub .i64 n 1)))) (.ret ((0,([]:List Int),([]:List dF),0,0),120)) (.need (A.k AQ (([(([]:List Int),255)]:List dF),n)) (.ret ((id,([]:List Int),(A.k J0 (([(([]:List Int),255)]:List dF),n)),4,(-1)),0))))))
def GI(id n:Int):ek×Int:=bif decide (4≤n∧n≤8) then(bif decide (0≤id∧id≤n-1) then((id,([]:List Int),List.replicate n.toNat A_,4,(-1)),0) else(yk,120)) else(yk,120)
def Xm:Int×Int→ek×Int:=fun(id,n)=>GI id n
theorem Eu{id n:Int}:aD Empty.elim (Lh ah id n) (GI id n):=by
 unfold Lh GI
 rw[B_]
 refine af.2 ⟨rfl,ez (fun h=>?_) fun h1=>af.2 ⟨rfl,?_⟩⟩
 ·exact aH (by rw[decide_eq_false h];rfl) (.ret _)
 ·have e:ah.b .sub .i64 n 1=n-1:=by rw[aS,fU (by omega) (by omega)]
  rw[e]
  refine ez (fun h=>?_) fun h2=>af.2 ⟨?_,?_⟩
  ·exact aH (by rw[decide_eq_true h1,decide_eq_false h];rfl) (.ret _)
  ·rw[al,AQ,decide_eq_true h1.1,decide_eq_true h1.2];rfl
  ·exact aH (by rw[decide_eq_true h1,decide_eq_true h2];rfl) (.ret _)
def BJ:(Int×Int)→(ek×Int):=Xm
def O7:aC:=⟨[yI,yI], [qb,yI],(@tt (Int×Int)),BJ⟩
theorem Od:Sd 83 O7:=aQ au dC true 38 [] (fun A (id,n)=>Lh A id n) (fc Tryz.func83 fz) (sc G1 (sc Tl sz)) fun(id,n) hp h=>Eu
open Go.Ev.Pl
def Ks(A:bu)(c:ek)(data:List Int):LT (ek×Int) Empty:=.need (A.k (@tt ek) c) (.br (A.c .neq (A.k vV c).2 0) (.ret ((0,([]:List Int),([]:List dF),0,0),(A.k vV c).2)) (.br (A.c .gtr (A.l data) 8) (.ret ((0,([]:List Int),([]:List dF),0,0),3)) (.need (A.k (@tt (List Int)) data) (.ret (((A.k vV c).1.1,(A.k mj data),(A.k vV c).1.2.2),0)))))
def RO(c:ek)(d:List Int):ek×Int:=bif fN c then(bif decide (8<(d.length:Int)) then(yk,3) else((c.1,d,c.2.2),0)) else(yk,120)
def wrS:ek×List Int→ek×Int:=fun(c,d)=>RO c d
theorem wr1{c:ek}{d:List Int}:aD Empty.elim (Ks ah c d) (RO c d):=by
 unfold Ks RO
 refine af.2 ⟨rfl,?_⟩
 rw[show ah.k vV c=GF c from rfl,GF]
 cases fN c
 ·exact(aj rfl).2 (.ret _)
 ·refine(ai rfl).2 (aM (p:=8<(d.length:Int)) rfl (fun h=>?_) fun h=>af.2 ⟨rfl,?_⟩)
  ·exact aH (by rw[decide_eq_true h];rfl) (.ret _)
  ·exact aH (by rw[decide_eq_false h];rfl) (.ret _)
def BO:(ek×List Int)→(ek×Int):=wrS
def Qt:aC:=⟨[qb,yB], [qb,yI],(@tt (ek×List Int)),BO⟩
theorem TP:Sd 101 Qt:=aQ au dC true 55 [] (fun A (c,data)=>Ks A c data) (fc Tryz.func101 fz) (sc B6 (sc RG sz)) fun(c,data) hp h=>wr1
end Go.Ev.M
