/-
  PROVED: what functions of the packages cni and metronomeref12 compute. Conditions: none.
-/
import Derived.Test.YtjceiokllpmnkaaGreatHb
namespace Go.Ev.M
open Go.Proofs
set_option maxRecDepth 100000
set_option linter.unusedVariables false
set_option linter.unusedSimpArgs false
open Go.Ev.Pl
abbrev FX(b:Bool):Prop:=b=b
section
variable {R Y:Type} {step:Y→LT R Y} {t:LT R Y} {r:R}
end
theorem rT{b:Bool}{α:Type}{x y:α}(h:b=false):y=bif b then x else y:=by rw[h];rfl
theorem rM{p:Prop}[Decidable p]{b:Bool}(h:¬p):(decide p&&b)=false:=by rw[decide_eq_false h];rfl
theorem eY{p:Prop}[Decidable p]{b:Bool}(h:p):(decide p&&b)=b:=by rw[decide_eq_true h];rfl
def HE(A:bK)(n:Int)(least:Int)(most:Int):LT Bool Empty:=.br (A.c .geq n least) (.ret (A.c .leq n most)) (.ret false)
def lv:(Int×Int×Int)→Bool:=fun(n,least,most)=>(HE ai n least most).val (Ty.cq [.bool])
def RP:aG:=⟨[yI,yI,yI], [.bool],(@tt (Int×Int×Int)),lv⟩
theorem Be:Sd 96 RP:=aO aA dY true 22 [] (fun A (n,least,most)=>HE A n least most) (fc Tryz.func96 fz) sz (fun((n,least,most):Int×Int×Int) hp h=>by
 show(HE ai n least most).pre=true
 simp[HE,LT.pre,al,dh])
structure J8 where
 (a0:List cd) (a1:Int) (a3:Bool)
inductive Gg where
 | c0 (p:J8) (a2:Int)
noncomputable def LC:Gg→ei
 | .c0 p a2=>⟨[⟨173,19,(en [(0,.sl df p.a0),(1,.fn 95 [] []),(7,vi p.a1),(8,vi a2)]),[.inLoop (cw Tryz.f173 [1,0,1,0,0]),.inBlock 0,.code (cw Tryz.f173 [1,1])],[],none⟩,⟨97,9,.leaf,[.ops (ow Tryz.f97 [1,0]) ((ow Tryz.f97 [1,0]).toList.drop 2),.code .ret],[],none⟩,⟨44,43,(en [(37,vb p.a3)]),[.ops (ow Tryz.f44 [1,1,0,0]) ((ow Tryz.f44 [1,1,0,0]).toList.drop 37),.code (cw Tryz.f44 [1,1,0,1]),.code (cw Tryz.f44 [1,1,1])],[],none⟩],[.dead]⟩
def KS(A:bK)(c:dQ):LT Int Gg:=.need (A.k (@tt (Int×Int×Int)) ((A.l c.2.2.1),4,8)) (.br (A.not (A.k lv ((A.l c.2.2.1),4,8))) (.ret 120) (.need (A.k (@tt (Int×Int×Int)) (c.1,0,(A.b .sub .i64 (A.l c.2.2.1) 1))) (.br (A.not (A.k lv (c.1,0,(A.b .sub .i64 (A.l c.2.2.1) 1)))) (.ret 120) (.br (A.c .gtr (A.l c.2.1) 8) (.ret 120) (.need (A.k (@tt (Int×Int×Int)) (c.2.2.2.1,0,4)) (.br (A.not (A.k lv (c.2.2.2.1,0,4))) (.ret 120) (.need (A.k (@tt (Int×Int×Int)) (c.2.2.2.2,(-1),3)) (.br (A.not (A.k lv (c.2.2.2.2,(-1),3))) (.ret 120) (.more (.c0 ⟨c.2.2.1,(A.l c.2.2.1),false⟩ 0))))))))))
def C7(A:bK):Gg→LT Int Gg
 | .c0 p a2=>.br (A.c .lss a2 p.a1) (.need (A.and (A.c .leq 0 a2) (A.c .lss a2 (A.l p.a0))) (.br (A.c .gtr (A.l (A.n df p.a0 a2:cd).1) 8) (.br p.a3 (.ret 120) (.br (A.c .geq a2 0) (.ret 120) (.ret 0))) (.need (A.k (@tt (Int×Int×Int)) ((A.n df p.a0 a2:cd).2,0,255)) (.br (A.not (A.k lv ((A.n df p.a0 a2:cd).2,0,255))) (.br p.a3 (.ret 120) (.br (A.c .geq a2 0) (.ret 120) (.ret 0))) (.more (.c0 p (A.b .add .i64 a2 1))))))) (.br p.a3 (.ret 120) (.ret 0))
theorem yH:lv=dx:=rfl
def Gw(m:cd):Bool:=decide (¬8<(m.1.length:Int))&&decide (0≤m.2∧m.2≤255)
def gh(c:dQ):Bool:=decide (4≤(c.2.2.1.length:Int)∧(c.2.2.1.length:Int)≤8)&&(decide (0≤c.1∧c.1≤(c.2.2.1.length:Int)-1)&&(decide (¬8<(c.2.1.length:Int))&&(decide (0≤c.2.2.2.1∧c.2.2.2.1≤4)&&(decide (-1≤c.2.2.2.2∧c.2.2.2.2≤3)&&c.2.2.1.all Gw))))
def nM(c:dQ):Int:=bif gh c then 0 else 120
theorem v_{c:dQ}:nM c=0↔gh c=true:=by unfold nM;cases gh c<;>decide
theorem U2{l:List cd}(hl:l.length≤140737488355328):∀(j i:Nat),l.length-i=j→i≤l.length→aK (C7 ai) (.more (.c0 ⟨l,(l.length:Int),false⟩ (i:Int))) (bif (l.drop i).all Gw then 0 else 120):=by
 intro j
 induction j with
 | zero=>
   intro i hj hi
   have:i=l.length:=by omega
   subst this
   rw[ap,C7]
   refine(aj (by rw[aT];simp)).2 ((aj rfl).2 ?_)
   rw[List.drop_length]
   exact .ret _
 | succ j ih=>
   intro i hj hi
   have hi':i<l.length:=by omega
   rw[ap,C7]
   refine(ak (by rw[aT];simp;omega)).2 (af.2 ⟨cB hi',?_⟩)
   rw[show(ai.n df l (i:Int):cd)=l[i] from getD_in hi' _,List.drop_eq_getElem_cons hi',List.all_cons,Gw,yH]
   refine aV (p:=8<(l[i].1.length:Int)) rfl (fun h=>?_) fun h1=>af.2 ⟨rfl,dS (fun h=>?_) fun h2=>?_⟩
   ·rw[decide_eq_false (show ¬¬8<(l[i].1.length:Int) by omega)]
    exact(aj rfl).2 ((ak (by rw[aS];simp)).2 (.ret _))
   ·rw[decide_eq_false h,Bool.and_false]
    exact(aj rfl).2 ((ak (by rw[aS];simp)).2 (.ret _))
   ·rw[decide_eq_true h1,decide_eq_true h2,fe (i:=i) (by omega)]
    exact ih (i+1) (by omega) (by omega)
theorem G0{c:dQ}(h:Ty.has nR c):c.2.1.length≤140737488355328∧c.2.2.1.length≤140737488355328∧∀x∈c.2.2.1,x.1.length≤140737488355328:=by
 obtain⟨_,h1,h2,_⟩:=h
 exact⟨h1.1,h2.1,fun x hx=>(h2.2 x hx).1.1⟩
theorem XN{c:dQ}(h:Ty.has nR c):aK (C7 ai) (KS ai c) (nM c):=by
 have hc:=(G0 h).2.1
 unfold KS nM
 rw[yH]
 simp only[pj]
 have hs:ai.b .sub .i64 (c.2.2.1.length:Int) 1=(c.2.2.1.length:Int)-1:=by rw[bl,gW (by omega) (by omega)]
 rw[hs]
 refine af.2 ⟨rfl,dS (fun h=>?_) fun h1=>af.2 ⟨rfl,dS (fun h=>?_) fun h2=>aV (p:=8<(c.2.1.length:Int)) rfl (fun h=>?_) fun h3=>af.2 ⟨rfl,dS (fun h=>?_) fun h4=>af.2 ⟨rfl,dS (fun h=>?_) fun h5=>?_⟩⟩⟩⟩
 ·exact aI (rT (by rw[gh,rM h])) (.ret _)
 ·exact aI (rT (by rw[gh,eY h1,rM h])) (.ret _)
 ·exact aI (rT (by rw[gh,eY h1,eY h2,rM (fun k=>k h)])) (.ret _)
 ·exact aI (rT (by rw[gh,eY h1,eY h2,eY h3,rM h])) (.ret _)
 ·exact aI (rT (by rw[gh,eY h1,eY h2,eY h3,eY h4,rM h])) (.ret _)
 ·rw[gh,eY h1,eY h2,eY h3,eY h4,eY h5]
  exact U2 hc c.2.2.1.length 0 rfl (by omega)
def iv:dQ→Int:=nM
def Nj:aG:=⟨[nR], [yI],(@tt dQ),iv⟩
theorem vZ:Sd 44 Nj:=aQ aA dY true 78 [⟨173,2, [[0,1,7,8], [], [37]]⟩] [] (fun A c=>KS A c) C7 LC (fc Tryz.func44 (fc Tryz.func95 (fc Tryz.func97 (fc Tryz.func173 fz)))) (sc Be sz) (fun A y=>match y with |.c0 p a2=>⟨68,by kernel_rfl,by kernel_rfl⟩) fun c hp h=>XN h
open Go.Ev.Pl
structure K2 where
 (a0:Int) (a2:dQ) (a3 a4 a5:Int)
inductive De where
 | c0 (p:K2) (a1:Int) (a6:List cd)
noncomputable def JI:De→ei
 | .c0 p a1 a6=>⟨[⟨112,44,(en [(1,.ptr 0 0),(2,.ptr 1 0),(5,.own 2),(22,vi p.a0),(23,vi a1)]),[.inLoop (cw Tryz.f112 [1,1,1,1,0,1,0,0]),.inBlock 0,.code (cw Tryz.f112 [1,1,1,1,1])],[],none⟩],[.flat false [vi p.a2.1,.sl yU p.a2.2.1,.sl df p.a2.2.2.1,vi p.a2.2.2.2.1,vi p.a2.2.2.2.2],.flat false [vi p.a3,.bd true,.bd true,vi p.a4,vi p.a5],.arr false df a6,.dead]⟩
def L_(A:bK)(c:dQ):LT (dQ×Int) De:=.need (A.k (@tt dQ) c) (.br (A.c .neq (A.k iv c) 0) (.ret ((0,([]:List Int),([]:List cd),0,0),(A.k iv c))) (.need (A.and (A.c .eql (A.l c.2.2.1) (A.l c.2.2.1)) (A.and (A.c .leq 0 (A.l c.2.2.1)) (A.c .leq (A.l c.2.2.1) 4398046511104))) (.more (.c0 ⟨(A.l (A.spl (A.r (A.l c.2.2.1) (Ty.gB df:cd)) 0 (A.s c.2.2.1 0 (A.mn (A.l c.2.2.1) (A.l (A.r (A.l c.2.2.1) (Ty.gB df:cd))))))),c,0,0,0⟩ 0 (A.spl (A.r (A.l c.2.2.1) (Ty.gB df:cd)) 0 (A.s c.2.2.1 0 (A.mn (A.l c.2.2.1) (A.l (A.r (A.l c.2.2.1) (Ty.gB df:cd))))))))))
def Fh(A:bK):De→LT (dQ×Int) De
 | .c0 p a1 a6=>.br (A.c .lss a1 p.a0) (.need (A.and (A.c .leq 0 a1) (A.c .lss a1 (A.l a6))) (.need (A.k (@tt (List Int)) (A.n df a6 a1:cd).1) (.need (A.and (A.c .leq 0 a1) (A.c .lss a1 (A.l a6))) (.more (.c0 p (A.b .add .i64 a1 1) (A.set a6 a1 ((A.k l8 (A.n df a6 a1:cd).1),(A.n df a6 a1:cd).2))))))) (.need (A.k (@tt (List Int)) p.a2.2.1) (.ret ((p.a2.1,(A.k l8 p.a2.2.1),a6,p.a2.2.2.2),0)))
def xc:dQ:=(0,([]:List Int),([]:List cd),0,0)
def Dw(c:dQ):dQ×Int:=bif gh c then(c,0) else(xc,120)
theorem Vt{c:dQ}{L z1 z2 z3:Int}{l:List cd}(hl:l.length≤140737488355328)(hL:L=(l.length:Int)):∀(j i:Nat),l.length-i=j→i≤l.length→aK (Fh ai) (.more (.c0 ⟨L,c,z1,z2,z3⟩ (i:Int) l)) ((c.1,c.2.1,l,c.2.2.2),0):=by
 subst hL
 intro j
 induction j with
 | zero=>
   intro i hj hi
   have:i=l.length:=by omega
   subst this
   rw[ap,Fh]
   exact(aj (by rw[aT];simp)).2 (af.2 ⟨rfl,.ret _⟩)
 | succ j ih=>
   intro i hj hi
   have hi':i<l.length:=by omega
   rw[ap,Fh]
   refine(ak (by rw[aT];simp;omega)).2 (af.2 ⟨cB hi',af.2 ⟨rfl,af.2 ⟨cB hi',?_⟩⟩⟩)
   have e:(ai.n df l (i:Int):cd)=l[i]:=getD_in hi' _
   have e2:ai.set l (i:Int) ((ai.k l8 (ai.n df l (i:Int):cd).1),(ai.n df l (i:Int):cd).2)=l:=by
    rw[e]
    show l.set (i:Int).toNat l[i]=l
    rw[Int.toNat_natCast];exact List.set_getElem_self _
   rw[e2,fe (i:=i) (by omega)]
   exact ih (i+1) (by omega) (by omega)
theorem wu{α:Type}{l:List α}{d:α}:ai.spl (ai.r (ai.l l) d) 0 (ai.s l 0 (ai.mn (ai.l l) (ai.l (ai.r (ai.l l) d))))=l:=by
 simp[kS,kV,kx,nC,pj]
theorem QR{c:dQ}:aK (Fh ai) (L_ ai c) (Dw c):=by
 unfold L_ Dw
 refine af.2 ⟨rfl,?_⟩
 rw[show ai.k iv c=nM c from rfl,nM]
 cases hc:gh c
 ·exact(ak rfl).2 (.ret _)
 ·refine(aj rfl).2 ?_
  simp only[gh,Bool.and_eq_true,decide_eq_true_eq] at hc
  have h1:ai.and (ai.c .eql (ai.l c.2.2.1) (ai.l c.2.2.1)) (ai.and (ai.c .leq 0 (ai.l c.2.2.1)) (ai.c .leq (ai.l c.2.2.1) 4398046511104))=true:=by
   rw[pj,aC,ay,ay,aM,aM];simp;omega
  refine af.2 ⟨h1,?_⟩
  exact bD (congrArg (fun z:List cd=>LT.more (De.c0 ⟨ai.l z,c,0,0,0⟩ 0 z)) wu) (Vt (by omega) rfl c.2.2.1.length 0 rfl (by omega))
def vu:dQ→(dQ×Int):=Dw
def OW:aG:=⟨[nR], [nR,yI],(@tt dQ),vu⟩
theorem Nb:Sd 112 OW:=aQ aA dY true 50 [⟨112,7, [[1,2,5,22,23]]⟩] [] (fun A c=>L_ A c) Fh JI (fc Tryz.func112 fz) (sc y9 (sc vZ sz)) (fun A y=>match y with |.c0 p a1 a6=>⟨38,by kernel_rfl,by kernel_rfl⟩) fun c hp h=>QR
theorem bW{a b:Int}:ai.c .eql a b=decide (a=b):=by rw[aC,Bool.eq_iff_iff];simp
open Go.Ev.Pl
open Go.Ev.Pl
structure Mg where
 (a0 a2:Int) (a3:List Int) (a4:dQ) (a5 a6 a7:Int) (a9:dQ) (fw jK a12:Int)
inductive E6 where
 | c0 (p:Mg) (a1:Int) (a8:List cd)
noncomputable def JD:E6→ei
 | .c0 p a1 a8=>⟨[⟨112,44,(en [(1,.ptr 0 0),(2,.ptr 1 0),(5,.own 2),(22,vi p.a0),(23,vi a1)]),[.inLoop (cw Tryz.f112 [1,1,1,1,0,1,0,0]),.inBlock 0,.code (cw Tryz.f112 [1,1,1,1,1])],[],none⟩,⟨110,42,(en [(1,vi p.a2),(2,.sl yU p.a3),(3,.ptr 3 0),(6,.ptr 4 0)]),[.ops (ow Tryz.f110 [1,0]) ((ow Tryz.f110 [1,0]).toList.drop 1),.code (cw Tryz.f110 [1,1])],[],none⟩],[.flat false [vi p.a4.1,.sl yU p.a4.2.1,.sl df p.a4.2.2.1,vi p.a4.2.2.2.1,vi p.a4.2.2.2.2],.flat false [vi p.a5,.bd true,.bd true,vi p.a6,vi p.a7],.arr false df a8,.flat false [vi p.a9.1,.sl yU p.a9.2.1,.sl df p.a9.2.2.1,vi p.a9.2.2.2.1,vi p.a9.2.2.2.2],.flat false [vi p.fw,.bd true,.bd true,vi p.jK,vi p.a12],.dead]⟩
def LP(A:bK)(c:dQ)(slot:Int)(data:List Int):LT (dQ×Int) E6:=.need (A.k (@tt dQ) c) (.br (A.c .neq (A.k iv c) 0) (.br (A.c .neq (A.k iv c) 0) (.ret ((0,([]:List Int),([]:List cd),0,0),(A.k iv c))) (.need (A.k (@tt (Int×Int×Int)) (slot,0,(A.b .sub .i64 (A.l c.2.2.1) 1))) (.br (A.not (A.k lv (slot,0,(A.b .sub .i64 (A.l c.2.2.1) 1)))) (.ret ((0,([]:List Int),([]:List cd),0,0),2)) (.br (A.c .gtr (A.l data) 8) (.ret ((0,([]:List Int),([]:List cd),0,0),3)) (.need (A.k (@tt (List Int)) data) (.bad 37 "cni.go:107")))))) (.need (A.and (A.c .eql (A.l c.2.2.1) (A.l c.2.2.1)) (A.and (A.c .leq 0 (A.l c.2.2.1)) (A.c .leq (A.l c.2.2.1) 4398046511104))) (.more (.c0 ⟨(A.l (A.spl (A.r (A.l c.2.2.1) (Ty.gB df:cd)) 0 (A.s c.2.2.1 0 (A.mn (A.l c.2.2.1) (A.l (A.r (A.l c.2.2.1) (Ty.gB df:cd))))))),slot,data,c,0,0,0,c,0,0,0⟩ 0 (A.spl (A.r (A.l c.2.2.1) (Ty.gB df:cd)) 0 (A.s c.2.2.1 0 (A.mn (A.l c.2.2.1) (A.l (A.r (A.l c.2.2.1) (Ty.gB df:cd))))))))))
def Ch(A:bK):E6→LT (dQ×Int) E6
 | .c0 p a1 a8=>.br (A.c .lss a1 p.a0) (.need (A.and (A.c .leq 0 a1) (A.c .lss a1 (A.l a8))) (.need (A.k (@tt (List Int)) (A.n df a8 a1:cd).1) (.need (A.and (A.c .leq 0 a1) (A.c .lss a1 (A.l a8))) (.more (.c0 p (A.b .add .i64 a1 1) (A.set a8 a1 ((A.k l8 (A.n df a8 a1:cd).1),(A.n df a8 a1:cd).2))))))) (.need (A.k (@tt (List Int)) p.a4.2.1) (.need (A.k (@tt (Int×Int×Int)) (p.a2,0,(A.b .sub .i64 (A.l p.a9.2.2.1) 1))) (.br (A.not (A.k lv (p.a2,0,(A.b .sub .i64 (A.l p.a9.2.2.1) 1)))) (.ret ((0,([]:List Int),([]:List cd),0,0),2)) (.br (A.c .gtr (A.l p.a3) 8) (.ret ((0,([]:List Int),([]:List cd),0,0),3)) (.need (A.k (@tt (List Int)) p.a3) (.need (A.and (A.c .leq 0 p.a2) (A.c .lss p.a2 (A.l a8))) (.ret ((p.a4.1,(A.k l8 p.a4.2.1),(A.set a8 p.a2 ((A.k l8 p.a3),0)),p.a4.2.2.2),0))))))))
def x_(c:dQ)(slot:Int)(data:List Int):dQ×Int:=
 bif gh c then(bif decide (0≤slot∧slot≤(c.2.2.1.length:Int)-1) then(bif decide (8<(data.length:Int)) then(xc,3) else((c.1,c.2.1,c.2.2.1.set slot.toNat (data,0),c.2.2.2),0)) else(xc,2)) else(xc,120)
def WS:dQ×Int×List Int→dQ×Int:=fun(c,slot,data)=>x_ c slot data
theorem wX{c:dQ}(h:gh c=true):4≤c.2.2.1.length∧c.2.2.1.length≤8∧c.2.1.length≤8∧∀x∈c.2.2.1,x.1.length≤8∧0≤x.2∧x.2≤255:=by
 simp only[gh,Bool.and_eq_true,decide_eq_true_eq,List.all_eq_true,Gw] at h
 exact⟨by omega,by omega,by omega,fun x hx=>by have:=h.2.2.2.2.2 x hx;exact⟨by omega,this.2⟩⟩
theorem yV{c:dQ}(h:gh c=true):ai.and (ai.c .eql (ai.l c.2.2.1) (ai.l c.2.2.1)) (ai.and (ai.c .leq 0 (ai.l c.2.2.1)) (ai.c .leq (ai.l c.2.2.1) 4398046511104))=true:=by
 have:=wX h
 rw[pj,aC,ay,ay,aM,aM];simp;omega
theorem xU{l:List cd}{i:Nat}(hi:i<l.length):ai.set l (i:Int) ((ai.k l8 (ai.n df l (i:Int):cd).1),(ai.n df l (i:Int):cd).2)=l:=by
 rw[show(ai.n df l (i:Int):cd)=l[i] from getD_in hi _]
 show l.set (i:Int).toNat l[i]=l
 rw[Int.toNat_natCast];exact List.set_getElem_self _
theorem VB{c:dQ}{L slot z1 z2 z3 z4 z5 z6:Int}{data:List Int}{R:dQ×Int}(hl:c.2.2.1.length≤8)(hL:L=(c.2.2.1.length:Int))(hR:aK (Ch ai) (.more (.c0 ⟨L,slot,data,c,z1,z2,z3,c,z4,z5,z6⟩ (c.2.2.1.length:Int) c.2.2.1)) R) :
  ∀(j i:Nat),c.2.2.1.length-i=j→i≤c.2.2.1.length→aK (Ch ai) (.more (.c0 ⟨L,slot,data,c,z1,z2,z3,c,z4,z5,z6⟩ (i:Int) c.2.2.1)) R:=by
 subst hL
 intro j
 induction j with
 | zero=>
   intro i hj hi
   have:i=c.2.2.1.length:=by omega
   subst this
   exact hR
 | succ j ih=>
   intro i hj hi
   have hi':i<c.2.2.1.length:=by omega
   rw[ap,Ch]
   refine(ak (by rw[aT];simp;omega)).2 (af.2 ⟨cB hi',af.2 ⟨rfl,af.2 ⟨cB hi',?_⟩⟩⟩)
   rw[xU hi',fe (i:=i) (by omega)]
   exact ih (i+1) (by omega) (by omega)
theorem XG{c:dQ}{slot:Int}{data:List Int}:aK (Ch ai) (LP ai c slot data) (x_ c slot data):=by
 unfold LP x_
 refine af.2 ⟨rfl,?_⟩
 rw[show ai.k iv c=nM c from rfl,nM]
 cases hc:gh c
 ·exact(ak rfl).2 ((ak rfl).2 (.ret _))
 ·obtain⟨h1,h2,_,_⟩:=wX hc
  refine(aj rfl).2 (af.2 ⟨yV hc,bD (congrArg (fun z:List cd=>LT.more (E6.c0 ⟨ai.l z,slot,data,c,0,0,0,c,0,0,0⟩ 0 z)) wu) (VB h2 rfl ?_ c.2.2.1.length 0 rfl (by omega))⟩)
  rw[ap,Ch]
  have hs:ai.b .sub .i64 (c.2.2.1.length:Int) 1=(c.2.2.1.length:Int)-1:=by rw[bl,gW (by omega) (by omega)]
  refine(aj (by rw[aT];simp)).2 (af.2 ⟨rfl,af.2 ⟨rfl,?_⟩⟩)
  rw[yH]
  simp only[pj,hs]
  refine dS (fun h=>?_) fun h3=>aV (p:=8<(data.length:Int)) rfl (fun h=>?_) fun h4=>af.2 ⟨rfl,af.2 ⟨?_,?_⟩⟩
  ·rw[decide_eq_false h];exact .ret _
  ·rw[decide_eq_true h3,decide_eq_true h];exact .ret _
  ·rw[ay,ar,aM];simp;omega
  ·rw[decide_eq_true h3,decide_eq_false h4];exact .ret _
def Ba:(dQ×Int×List Int)→(dQ×Int):=WS
def N2:aG:=⟨[nR,yI,yB], [nR,yI],(@tt (dQ×Int×List Int)),Ba⟩
theorem Pe:Sd 110 N2:=aQ aA dY true 89 [⟨112,7, [[1,2,5,22,23], [1,2,3,6]]⟩] [] (fun A (c,slot,data)=>LP A c slot data) Ch JD (fc Tryz.func110 (fc Tryz.func112 fz)) (sc y9 (sc vZ (sc Be sz))) (fun A y=>match y with |.c0 p a1 a8=>⟨86,by kernel_rfl,by kernel_rfl⟩) fun(c,slot,data) hp h=>XG
structure KV where
 (a0 a1 a2 a3 a4 a5 a6 a7:Int)
structure LX where
 (b0:Int) (b2:dQ) (b3 b4 b5 b7 b8 b9:Int)
structure L5 where
 (c0 c2 c3 c4 c5:Int) (c6:List Int) (c7 c8:Int)
inductive EG where
 | c0 (p:KV)
 | c1 (p:LX) (b1:Int) (b6:List cd)
 | c2 (p:L5) (c1:Int) (c9:List cd)
noncomputable def LN:EG→ei
 | .c0 p=>⟨[⟨57,42,(en [(2,.ptr 0 0),(4,.ptr 1 0),(18,vi p.a0),(19,vi p.a1)]),[.inLoop (cw Tryz.f57 [1,1,1,0,1,0,0]),.inBlock 0,.code (cw Tryz.f57 [1,1,1,1])],[],none⟩],[.flat false [vi p.a2,.bd true,.bd true,vi p.a3,vi p.a4],.flat false [vi p.a5,.bd true,.bd true,vi p.a6,vi p.a7],.dead]⟩
 | .c1 p b1 b6=>⟨[⟨112,44,(en [(1,.ptr 0 0),(2,.ptr 1 0),(5,.own 2),(22,vi p.b0),(23,vi b1)]),[.inLoop (cw Tryz.f112 [1,1,1,1,0,1,0,0]),.inBlock 0,.code (cw Tryz.f112 [1,1,1,1,1])],[],none⟩,⟨57,42,(en [(2,.ptr 3 0)]),[.ops (ow Tryz.f57 [1,0]) ((ow Tryz.f57 [1,0]).toList.drop 1),.code (cw Tryz.f57 [1,1])],[],none⟩],[.flat false [vi p.b2.1,.sl yU p.b2.2.1,.sl df p.b2.2.2.1,vi p.b2.2.2.2.1,vi p.b2.2.2.2.2],.flat false [vi p.b3,.bd true,.bd true,vi p.b4,vi p.b5],.arr false df b6,.flat false [vi p.b7,.bd true,.bd true,vi p.b8,vi p.b9],.dead]⟩
 | .c2 p c1 c9=>⟨[⟨57,42,(en [(2,.ptr 0 0),(4,.ptr 1 0),(18,vi p.c0),(19,vi c1)]),[.inLoop (cw Tryz.f57 [1,1,1,0,1,0,0]),.inBlock 0,.code (cw Tryz.f57 [1,1,1,1])],[],none⟩],[.flat false [vi p.c2,.bd true,.bd true,vi p.c3,vi p.c4],.flat false [vi p.c5,.sl yU p.c6,.own 2,vi p.c7,vi p.c8],.arr false df c9,.dead]⟩
def JW(A:bK)(c:dQ):LT (dQ×Int) EG:=.need (A.k (@tt dQ) c) (.br (A.c .neq (A.k iv c) 0) (.br (A.c .neq (A.k iv c) 0) (.ret ((0,([]:List Int),([]:List cd),0,0),(A.k iv c))) (.more (.c0 ⟨0,0,0,0,0,0,0,0⟩))) (.need (A.and (A.c .eql (A.l c.2.2.1) (A.l c.2.2.1)) (A.and (A.c .leq 0 (A.l c.2.2.1)) (A.c .leq (A.l c.2.2.1) 4398046511104))) (.more (.c1 ⟨(A.l (A.spl (A.r (A.l c.2.2.1) (Ty.gB df:cd)) 0 (A.s c.2.2.1 0 (A.mn (A.l c.2.2.1) (A.l (A.r (A.l c.2.2.1) (Ty.gB df:cd))))))),c,0,0,0,0,0,0⟩ 0 (A.spl (A.r (A.l c.2.2.1) (Ty.gB df:cd)) 0 (A.s c.2.2.1 0 (A.mn (A.l c.2.2.1) (A.l (A.r (A.l c.2.2.1) (Ty.gB df:cd))))))))))
def xd(A:bK):EG→LT (dQ×Int) EG
 | .c0 p=>.br (A.c .lss p.a1 p.a0) (.bad 37 "cni.go:118") (.ret ((p.a5,([]:List Int),([]:List cd),(A.mx (A.b .sub .i64 p.a6 1) 0),p.a7),0))
 | .c1 p b1 b6=>.br (A.c .lss b1 p.b0) (.need (A.and (A.c .leq 0 b1) (A.c .lss b1 (A.l b6))) (.need (A.k (@tt (List Int)) (A.n df b6 b1:cd).1) (.need (A.and (A.c .leq 0 b1) (A.c .lss b1 (A.l b6))) (.more (.c1 p (A.b .add .i64 b1 1) (A.set b6 b1 ((A.k l8 (A.n df b6 b1:cd).1),(A.n df b6 b1:cd).2))))))) (.need (A.k (@tt (List Int)) p.b2.2.1) (.more (.c2 ⟨(A.l b6),p.b7,p.b8,p.b9,p.b2.1,(A.k l8 p.b2.2.1),p.b2.2.2.2.1,p.b2.2.2.2.2⟩ 0 b6)))
 | .c2 p c1 c9=>.br (A.c .lss c1 p.c0) (.need (A.and (A.c .leq 0 c1) (A.c .lss c1 (A.l c9))) (.need (A.and (A.c .leq 0 c1) (A.c .lss c1 (A.l c9))) (.more (.c2 p (A.b .add .i64 c1 1) (A.set c9 c1 ((A.n df c9 c1:cd).1,(A.mn (A.b .add .i64 (A.n df c9 c1:cd).2 1) 255))))))) (.ret ((p.c5,p.c6,c9,(A.mx (A.b .sub .i64 p.c7 1) 0),p.c8),0))
def Cj(m:cd):cd:=(m.1,ai.mn (ai.b .add .i64 m.2 1) 255)
def CJ(c:dQ):dQ×Int:=bif gh c then((c.1,c.2.1,c.2.2.1.map Cj,ai.mx (ai.b .sub .i64 c.2.2.2.1 1) 0,c.2.2.2.2),0) else(xc,120)
theorem JM{f:cd→cd}{l:List cd}{i:Nat}(hi:i<l.length):(ai.n df ((l.take i).map f++l.drop i) (i:Int):cd)=l[i]∧ai.set ((l.take i).map f++l.drop i) (i:Int) (f l[i])=(l.take (i+1)).map f++l.drop (i+1):=by
 have hlen:i<((l.take i).map f++l.drop i).length:=by simp;omega
 have h1:((l.take i).map f).length=i:=by simp;omega
 constructor
 ·refine(getD_in hlen _).trans ?_
  rw[List.getElem_append_right (by rw[h1];exact Nat.le_refl _)]
  rw[List.getElem_drop]
  congr 1
  omega
 ·show List.set _ (i:Int).toNat _=_
  rw[Int.toNat_natCast,List.set_append_right _ _ (by rw[h1];exact Nat.le_refl _),h1,Nat.sub_self,List.drop_eq_getElem_cons hi,List.set_cons_zero,List.take_succ_eq_append_getElem hi,List.map_append,List.append_assoc]
  rfl
theorem Iq{f:cd→cd}{l:List cd}{i:Nat}(hi:i≤l.length):((l.take i).map f++l.drop i).length=l.length:=by simp;omega
theorem XE{c:dQ}{L z1 z2 z3 z4 z5 z6:Int}{R:dQ×Int}(hl:c.2.2.1.length≤8)(hL:L=(c.2.2.1.length:Int))(hR:aK (xd ai) (.more (.c1 ⟨L,c,z1,z2,z3,z4,z5,z6⟩ (c.2.2.1.length:Int) c.2.2.1)) R) :
  ∀(j i:Nat),c.2.2.1.length-i=j→i≤c.2.2.1.length→aK (xd ai) (.more (.c1 ⟨L,c,z1,z2,z3,z4,z5,z6⟩ (i:Int) c.2.2.1)) R:=by
 subst hL
 intro j
 induction j with
 | zero=>
   intro i hj hi
   have:i=c.2.2.1.length:=by omega
   subst this
   exact hR
 | succ j ih=>
   intro i hj hi
   have hi':i<c.2.2.1.length:=by omega
   rw[ap,xd]
   refine(ak (by rw[aT];simp;omega)).2 (af.2 ⟨cB hi',af.2 ⟨rfl,af.2 ⟨cB hi',?_⟩⟩⟩)
   rw[xU hi',fe (i:=i) (by omega)]
   exact ih (i+1) (by omega) (by omega)
theorem VO{l:List cd}{L z1 z2 z3 id life want:Int}{out:List Int}(hl:l.length≤8)(hL:L=(l.length:Int)):∀(j i:Nat),l.length-i=j→i≤l.length→
  aK (xd ai) (.more (.c2 ⟨L,z1,z2,z3,id,out,life,want⟩ (i:Int) ((l.take i).map Cj++l.drop i))) ((id,out,l.map Cj,ai.mx (ai.b .sub .i64 life 1) 0,want),0):=by
 subst hL
 intro j
 induction j with
 | zero=>
   intro i hj hi
   have:i=l.length:=by omega
   subst this
   rw[ap,xd,List.take_length,List.drop_length,List.append_nil]
   exact(aj (by rw[aT];simp)).2 (.ret _)
 | succ j ih=>
   intro i hj hi
   have hi':i<l.length:=by omega
   have hx:i<((l.take i).map Cj++l.drop i).length:=by rw[Iq hi];exact hi'
   obtain⟨a1,a2⟩:=JM (f:=Cj) hi'
   rw[ap,xd]
   refine(ak (by rw[aT];simp;omega)).2 (af.2 ⟨cB hx,af.2 ⟨cB hx,?_⟩⟩)
   rw[a1,fe (i:=i) (by omega)]
   rw[show(l[i].1,ai.mn (ai.b .add .i64 l[i].2 1) 255)=Cj l[i] from rfl,a2]
   exact ih (i+1) (by omega) (by omega)
theorem U6{c:dQ}:aK (xd ai) (JW ai c) (CJ c):=by
 unfold JW CJ
 refine af.2 ⟨rfl,?_⟩
 rw[show ai.k iv c=nM c from rfl,nM]
 cases hc:gh c
 ·exact(ak rfl).2 ((ak rfl).2 (.ret _))
 ·obtain⟨h1,h2,_,_⟩:=wX hc
  refine(aj rfl).2 (af.2 ⟨yV hc,bD (congrArg (fun z:List cd=>LT.more (EG.c1 ⟨ai.l z,c,0,0,0,0,0,0⟩ 0 z)) wu) (XE h2 rfl ?_ c.2.2.1.length 0 rfl (by omega))⟩)
  rw[ap,xd]
  exact(aj (by rw[aT];simp)).2 (af.2 ⟨rfl,VO (l:=c.2.2.1) (out:=c.2.1) h2 rfl c.2.2.1.length 0 rfl (by omega)⟩)
def ED:dQ→(dQ×Int):=CJ
def Ph:aG:=⟨[nR], [nR,yI],(@tt dQ),ED⟩
theorem Um:Sd 57 Ph:=aQ aA dY true 68 [⟨57,5, [[2,4,18,19]]⟩,⟨112,7, [[1,2,5,22,23], [2]]⟩] [] (fun A c=>JW A c) xd LN (fc Tryz.func57 (fc Tryz.func112 fz)) (sc y9 (sc vZ sz)) (fun A y=>match y with |.c0 p=>⟨28,by kernel_rfl,by kernel_rfl⟩|.c1 p b1 b6=>⟨56,by kernel_rfl,by kernel_rfl⟩|.c2 p c1 c9=>⟨41,by kernel_rfl,by kernel_rfl⟩) fun c hp h=>U6
open Go.Ev.Pl
open Go.Ev.Pl
inductive Gc where
 | c0 (a0:Int) (a1:List cd)
noncomputable def La:Gc→ei
 | .c0 a0 a1=>⟨[⟨162,48,(en [(7,.own 0),(8,vi a0)]),[.inLoop (cw Tryz.f162 [1,1,1,1,1,1,0,0,0]),.inBlock 0,.code (cw Tryz.f162 [1,1,1,1,1,1,1])],[],none⟩],[.arr false df a1,.dead]⟩
def Ub(A:bK)(x2:List cd)(count:Int):LT (List cd) Gc:=.br (A.c .lss count 0) (.bad 117 "slices.go:516") (.br (A.c .gtr (A.b .add .u64 (A.b .add .u64 (A.b .mul .u64 (A.b .shr .u64 (A.v .u64 (A.l x2)) 32) (A.b .shr .u64 (A.v .u64 count) 32)) (A.b .shr .u64 (A.b .add .u64 (A.b .mul .u64 (A.b .shr .u64 (A.v .u64 (A.l x2)) 32) (A.b .and .u64 (A.v .u64 count) 4294967295)) (A.b .shr .u64 (A.b .mul .u64 (A.b .and .u64 (A.v .u64 (A.l x2)) 4294967295) (A.b .and .u64 (A.v .u64 count) 4294967295)) 32)) 32)) (A.b .shr .u64 (A.b .add .u64 (A.b .and .u64 (A.b .add .u64 (A.b .mul .u64 (A.b .shr .u64 (A.v .u64 (A.l x2)) 32) (A.b .and .u64 (A.v .u64 count) 4294967295)) (A.b .shr .u64 (A.b .mul .u64 (A.b .and .u64 (A.v .u64 (A.l x2)) 4294967295) (A.b .and .u64 (A.v .u64 count) 4294967295)) 32)) 4294967295) (A.b .mul .u64 (A.b .and .u64 (A.v .u64 (A.l x2)) 4294967295) (A.b .shr .u64 (A.v .u64 count) 32))) 32)) 0) (.bad 117 "slices.go:522") (.br (A.c .gtr (A.b .mul .u64 (A.v .u64 (A.l x2)) (A.v .u64 count)) 9223372036854775807) (.bad 117 "slices.go:522") (.need (A.and (A.c .eql (A.v .i64 (A.b .mul .u64 (A.v .u64 (A.l x2)) (A.v .u64 count))) (A.v .i64 (A.b .mul .u64 (A.v .u64 (A.l x2)) (A.v .u64 count)))) (A.and (A.c .leq 0 (A.v .i64 (A.b .mul .u64 (A.v .u64 (A.l x2)) (A.v .u64 count)))) (A.c .leq (A.v .i64 (A.b .mul .u64 (A.v .u64 (A.l x2)) (A.v .u64 count))) 4398046511104))) (.more (.c0 (A.mn (A.l x2) (A.l (A.r (A.v .i64 (A.b .mul .u64 (A.v .u64 (A.l x2)) (A.v .u64 count))) (Ty.gB df:cd)))) (A.spl (A.r (A.v .i64 (A.b .mul .u64 (A.v .u64 (A.l x2)) (A.v .u64 count))) (Ty.gB df:cd)) 0 (A.s x2 0 (A.mn (A.l x2) (A.l (A.r (A.v .i64 (A.b .mul .u64 (A.v .u64 (A.l x2)) (A.v .u64 count))) (Ty.gB df:cd)))))))))))
def R9(A:bK):Gc→LT (List cd) Gc
 | .c0 a0 a1=>.br (A.c .lss a0 (A.l a1)) (.need (A.and (A.c .leq 0 a0) (A.and (A.c .leq a0 (A.l a1)) (A.c .leq (A.l a1) (A.l a1)))) (.need (A.and (A.c .leq 0 0) (A.and (A.c .leq 0 a0) (A.c .leq a0 (A.l a1)))) (.more (.c0 (A.b .add .i64 a0 (A.mn (A.l (A.s a1 0 (A.b .add .i64 0 (A.b .sub .i64 a0 0)))) (A.b .sub .i64 (A.l a1) a0))) (A.spl a1 a0 (A.s (A.s a1 0 (A.b .add .i64 0 (A.b .sub .i64 a0 0))) 0 (A.mn (A.l (A.s a1 0 (A.b .add .i64 0 (A.b .sub .i64 a0 0)))) (A.b .sub .i64 (A.l a1) a0)))))))) (.ret a1)
def zZ:cd:=(([]:List Int),255)
theorem W4{l:List cd}{n:Int}(h:(decide (l=[(([]:List Int),255)])&&decide (4≤n)&&decide (n≤8))=true):aK (R9 ai) (Ub ai l n) (List.replicate n.toNat zZ):=by
 simp only[Bool.and_eq_true,decide_eq_true_eq] at h
 obtain⟨⟨rfl,h1⟩,h2⟩:=h
 have hn:n=4∨n=5∨n=6∨n=7∨n=8:=by omega
 rcases hn with rfl|rfl|rfl|rfl|rfl <;>
  (refine(aj (by kernel_rfl)).2 ((aj (by kernel_rfl)).2 ((aj (by kernel_rfl)).2 (af.2 ⟨by kernel_rfl,?_⟩)))
   refine ap.2 ((ak (by kernel_rfl)).2 (af.2 ⟨by kernel_rfl,af.2 ⟨by kernel_rfl,(ap.2 ?_)⟩⟩))
   refine(ak (by kernel_rfl)).2 (af.2 ⟨by kernel_rfl,af.2 ⟨by kernel_rfl,(ap.2 ?_)⟩⟩))
 ·exact(aj (by kernel_rfl)).2 (aI (by kernel_rfl) (.ret _))
 all_goals exact(ak (by kernel_rfl)).2 (af.2 ⟨by kernel_rfl,af.2 ⟨by kernel_rfl,(ap.2 ((aj (by kernel_rfl)).2 (aI (by kernel_rfl) (.ret _))))⟩⟩)
def Jb:(List cd×Int)→(List cd):=fun(_,n)=>List.replicate n.toNat (([]:List Int),255)
def zv:(List cd×Int)→Bool:=fun(l,n)=>decide (l=[(([]:List Int),255)])&&decide (4≤n)&&decide (n≤8)
def Pd:aG:=⟨[(.slice df),yI], [(.slice df)],zv,Jb⟩
theorem SO:Sd 162 Pd:=aQ aA dY true 175 [⟨162,8, [[7,8]]⟩] [] (fun A (x2,count)=>Ub A x2 count) R9 La (fc Tryz.func162 (fc Tryz.func198 (fc Tryz.func259 fz))) sz (fun A y=>match y with |.c0 a0 a1=>⟨30,by kernel_rfl,by kernel_rfl⟩) fun((x2,count):List cd×Int) hp h=>W4 hp
def KX(A:bK)(id:Int)(n:Int):LT (dQ×Int) Empty:=.need (A.k (@tt (Int×Int×Int)) (n,4,8)) (.br (A.not (A.k lv (n,4,8))) (.ret ((0,([]:List Int),([]:List cd),0,0),120)) (.need (A.k (@tt (Int×Int×Int)) (id,0,(A.b .sub .i64 n 1))) (.br (A.not (A.k lv (id,0,(A.b .sub .i64 n 1)))) (.ret ((0,([]:List Int),([]:List cd),0,0),120)) (.need (A.k zv (([(([]:List Int),255)]:List cd),n)) (.ret ((id,([]:List Int),(A.k Jb (([(([]:List Int),255)]:List cd),n)),4,(-1)),0))))))
def FL(id n:Int):dQ×Int:=bif decide (4≤n∧n≤8) then(bif decide (0≤id∧id≤n-1) then((id,([]:List Int),List.replicate n.toNat zZ,4,(-1)),0) else(xc,120)) else(xc,120)
def Xg:Int×Int→dQ×Int:=fun(id,n)=>FL id n
theorem Fo{id n:Int}:aK Empty.elim (KX ai id n) (FL id n):=by
 unfold KX FL
 rw[yH]
 refine af.2 ⟨rfl,dS (fun h=>?_) fun h1=>af.2 ⟨rfl,?_⟩⟩
 ·exact aI (by rw[decide_eq_false h];rfl) (.ret _)
 ·have e:ai.b .sub .i64 n 1=n-1:=by rw[bl,gW (by omega) (by omega)]
  rw[e]
  refine dS (fun h=>?_) fun h2=>af.2 ⟨?_,?_⟩
  ·exact aI (by rw[decide_eq_true h1,decide_eq_false h];rfl) (.ret _)
  ·rw[al,zv,decide_eq_true h1.1,decide_eq_true h1.2];rfl
  ·exact aI (by rw[decide_eq_true h1,decide_eq_true h2];rfl) (.ret _)
def Bf:(Int×Int)→(dQ×Int):=Xg
def Pr:aG:=⟨[yI,yI], [nR,yI],(@tt (Int×Int)),Bf⟩
theorem R2:Sd 83 Pr:=a_ aA dY true 38 [] (fun A (id,n)=>KX A id n) (fc Tryz.func83 fz) (sc Be (sc SO sz)) fun(id,n) hp h=>Fo
def Gj(A:bK)(c:dQ):LT Bool Empty:=.need (A.k (@tt dQ) c) (.br (A.c .eql (A.k iv c) 0) (.ret (A.c .gtr c.2.2.2.1 0)) (.ret false))
def DY:dQ→Bool:=fun c=>(Gj ai c).val (Ty.cq [.bool])
def T4:aG:=⟨[nR], [.bool],(@tt dQ),DY⟩
theorem MO:Sd 346 T4:=aO aA dY true 23 [] (fun A c=>Gj A c) (fc Tryz.func346 fz) (sc vZ sz) (fun(c:dQ) hp h=>by
 show(Gj ai c).pre=true
 simp[Gj,LT.pre,al,dh])
def KP(A:bK)(c:dQ)(long:Int):LT (List Int×Int) Empty:=.need (A.k (@tt dQ) c) (.br (A.c .neq (A.k iv c) 0) (.ret (([]:List Int),(A.k iv c))) (.need (A.k (@tt (Int×Int×Int)) (long,0,8)) (.br (A.not (A.k lv (long,0,8))) (.ret (([]:List Int),2)) (.need (A.and (A.c .eql long long) (A.and (A.c .leq 0 long) (A.c .leq long 140737488355328))) (.need (A.k (@tt dQ) c) (.br (A.k DY c) (.ret ((A.spl (A.r long (0:Int)) 0 (A.s c.2.1 0 (A.mn (A.l c.2.1) (A.l (A.r long (0:Int)))))),0)) (.ret ((A.r long (0:Int)),0))))))))
def s_(c:dQ)(k:Int):List Int×Int:=bif gh c then(bif decide (0≤k∧k≤8) then((bif decide (0<c.2.2.2.1) then c.2.1.take k.toNat++List.replicate (k.toNat-c.2.1.length) 0 else List.replicate k.toNat 0),0) else([],2)) else([],120)
def VE:dQ×Int→List Int×Int:=fun(c,k)=>s_ c k
theorem Iv{k:Int}(h:0≤k∧k≤8):ai.and (ai.c .eql k k) (ai.and (ai.c .leq 0 k) (ai.c .leq k 140737488355328))=true:=by
 rw[aC,ay,ay,aM,aM];simp;omega
theorem VU{c:dQ}{k:Int}:aK Empty.elim (KP ai c k) (s_ c k):=by
 unfold KP s_
 rw[yH]
 refine af.2 ⟨rfl,?_⟩
 rw[show ai.k iv c=nM c from rfl,show ai.k DY c=(bif nM c==0 then decide (0<c.2.2.2.1) else false) from rfl,nM]
 cases hc:gh c
 ·exact(ak rfl).2 (.ret _)
 ·refine(aj rfl).2 (af.2 ⟨rfl,dS (fun h=>?_) fun h=>af.2 ⟨Iv h,af.2 ⟨rfl,aV (p:=0<c.2.2.2.1) rfl (fun h2=>?_) fun h2=>?_⟩⟩⟩)
  ·exact aI (by rw[decide_eq_false h];rfl) (.ret _)
  ·refine aI ?_ (.ret _)
   rw[decide_eq_true h,decide_eq_true h2]
   obtain⟨n,rfl⟩:∃n:Nat,k=n:=⟨k.toNat,by omega⟩
   simp only[cond_true,kS,kV,kx,nC,pj,List.length_replicate,Int.toNat_natCast,Int.toNat_zero,List.take_zero,List.nil_append,List.drop_zero]
   refine Prod.ext ?_ rfl
   simp only[List.length_take,List.drop_replicate,Nat.zero_add]
   by_cases hl:(n:Int)<c.2.1.length
   ·rw[if_pos hl,Int.toNat_natCast]
    rw[show n-min n c.2.1.length=n-c.2.1.length by omega]
   ·rw[if_neg hl,Int.toNat_natCast,List.take_of_length_le (Nat.le_refl _),List.take_of_length_le (by omega),Nat.min_self]
  ·exact aI (by rw[decide_eq_true h,decide_eq_false h2];rfl) (.ret _)
def vq:(dQ×Int)→(List Int×Int):=VE
def Nv:aG:=⟨[nR,yI], [yB,yI],(@tt (dQ×Int)),vq⟩
theorem Qw:Sd 329 Nv:=a_ aA dY true 60 [] (fun A (c,long)=>KP A c long) (fc Tryz.func329 fz) (sc vZ (sc Be (sc MO sz))) fun(c,long) hp h=>VU
open Go.Ev.Pl
def Ma(A:bK)(c:dQ)(data:List Int):LT (dQ×Int) Empty:=.need (A.k (@tt dQ) c) (.br (A.c .neq (A.k vu c).2 0) (.ret ((0,([]:List Int),([]:List cd),0,0),(A.k vu c).2)) (.br (A.c .gtr (A.l data) 8) (.ret ((0,([]:List Int),([]:List cd),0,0),3)) (.need (A.k (@tt (List Int)) data) (.ret (((A.k vu c).1.1,(A.k l8 data),(A.k vu c).1.2.2),0)))))
def Q0(c:dQ)(d:List Int):dQ×Int:=bif gh c then(bif decide (8<(d.length:Int)) then(xc,3) else((c.1,d,c.2.2),0)) else(xc,120)
def Zu:dQ×List Int→dQ×Int:=fun(c,d)=>Q0 c d
theorem Zy{c:dQ}{d:List Int}:aK Empty.elim (Ma ai c d) (Q0 c d):=by
 unfold Ma Q0
 refine af.2 ⟨rfl,?_⟩
 rw[show ai.k vu c=Dw c from rfl,Dw]
 cases gh c
 ·exact(ak rfl).2 (.ret _)
 ·refine(aj rfl).2 (aV (p:=8<(d.length:Int)) rfl (fun h=>?_) fun h=>af.2 ⟨rfl,?_⟩)
  ·exact aI (by rw[decide_eq_true h];rfl) (.ret _)
  ·exact aI (by rw[decide_eq_false h];rfl) (.ret _)
def AT:(dQ×List Int)→(dQ×Int):=Zu
def OX:aG:=⟨[nR,yB], [nR,yI],(@tt (dQ×List Int)),AT⟩
theorem Q_:Sd 101 OX:=a_ aA dY true 55 [] (fun A (c,data)=>Ma A c data) (fc Tryz.func101 fz) (sc y9 (sc Nb sz)) fun(c,data) hp h=>Zy
end Go.Ev.M
