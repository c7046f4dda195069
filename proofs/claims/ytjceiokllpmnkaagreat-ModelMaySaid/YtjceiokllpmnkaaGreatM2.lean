/-
  PROVED: what functions of the program compute, part 2. Conditions: none.
-/
import Derived.Test.YtjceiokllpmnkaaGreatM1
set_option linter.unusedVariables false
set_option linter.unusedSimpArgs false
namespace Go.Ev.M
open Go.Proofs
set_option maxRecDepth 100000
open Go.Ev.Pl
noncomputable section
abbrev Rn(b:Bool):Prop:=b=b
section
variable {R Y:Type} {step:Y→LT R Y} {t:LT R Y} {r:R}
end
theorem kg{b:Bool}{α:Type}{x y:α}(h:b=false):y=bif b then x else y:=by rw[h];rfl
theorem jj{p:Prop}[Decidable p]{b:Bool}(h:¬p):(decide p&&b)=false:=by rw[aX h];rfl
theorem bo{p:Prop}[Decidable p]{b:Bool}(h:p):(decide p&&b)=b:=by rw[aL h];rfl
theorem JI{α:Type}{l:List α}{i:Nat}:ah.c .lss (i:Int) (ah.l l)=decide (i<l.length):=aG
def RU(A:aI)(n:Int)(least:Int)(most:Int):LT Bool Empty:=.br (A.c .geq n least) (.ret (A.c .leq n most)) (.ret false)
def nT:(Int×Int×Int)→Bool:=fun(n,least,most)=>(RU ah n least most).val (Ty.bi [.bool])
def ac7:aA:=⟨[yI,yI,yI], [.bool],(@tt (Int×Int×Int)),nT⟩
theorem FX:Sd 96 ac7:=aH ar bR true 22 [] (fun A (n,least,most)=>RU A n least most) (fc Tryz.func96 fz) sz (fun((n,least,most):Int×Int×Int) hp h=>by
 show(RU ah n least most).pre=true
 simp[RU,LT.pre,aB,dS])
structure X8 where
 (a0:List dp) (a1:Int) (a3:Bool)
inductive UD where
 | c0 (p:X8) (a2:Int)
noncomputable def Y_:UD→eT
 | .c0 p a2=>⟨[⟨173,19,(en [(0,.sl dZ p.a0),(1,.fn 95 [] []),(7,vi p.a1),(8,vi a2)]),[.inLoop (cw Tryz.f173 [1,0,1,0,0]),.inBlock 0,.code (cw Tryz.f173 [1,1])],[],none⟩,⟨97,9,.leaf,[.ops (ow Tryz.f97 [1,0]) ((ow Tryz.f97 [1,0]).toList.drop 2),.code .ret],[],none⟩,⟨44,43,(en [(37,vb p.a3)]),[.ops (ow Tryz.f44 [1,1,0,0]) ((ow Tryz.f44 [1,1,0,0]).toList.drop 37),.code (cw Tryz.f44 [1,1,0,1]),.code (cw Tryz.f44 [1,1,1])],[],none⟩],[.dead]⟩
def WI(A:aI)(c:cy):LT Int UD:=.need (A.k (@tt (Int×Int×Int)) ((A.l c.2.2.1),4,8)) (.br (A.not (A.k nT ((A.l c.2.2.1),4,8))) (.ret 120) (.need (A.k (@tt (Int×Int×Int)) (c.1,0,(A.b .sub .i64 (A.l c.2.2.1) 1))) (.br (A.not (A.k nT (c.1,0,(A.b .sub .i64 (A.l c.2.2.1) 1)))) (.ret 120) (.br (A.c .gtr (A.l c.2.1) 8) (.ret 120) (.need (A.k (@tt (Int×Int×Int)) (c.2.2.2.1,0,4)) (.br (A.not (A.k nT (c.2.2.2.1,0,4))) (.ret 120) (.need (A.k (@tt (Int×Int×Int)) (c.2.2.2.2,(-1),3)) (.br (A.not (A.k nT (c.2.2.2.2,(-1),3))) (.ret 120) (.more (.c0 ⟨c.2.2.1,(A.l c.2.2.1),false⟩ 0))))))))))
def P8(A:aI):UD→LT Int UD
 | .c0 p a2=>.br (A.c .lss a2 p.a1) (.need (A.and (A.c .leq 0 a2) (A.c .lss a2 (A.l p.a0))) (.br (A.c .gtr (A.l (A.n dZ p.a0 a2:dp).1) 8) (.br p.a3 (.ret 120) (.br (A.c .geq a2 0) (.ret 120) (.ret 0))) (.need (A.k (@tt (Int×Int×Int)) ((A.n dZ p.a0 a2:dp).2,0,255)) (.br (A.not (A.k nT ((A.n dZ p.a0 a2:dp).2,0,255))) (.br p.a3 (.ret 120) (.br (A.c .geq a2 0) (.ret 120) (.ret 0))) (.more (.c0 p (A.b .add .i64 a2 1))))))) (.br p.a3 (.ret 120) (.ret 0))
theorem A6:nT=fE:=rfl
def Aq(m:dp):Bool:=decide (¬8<(m.1.length:Int))&&decide (0≤m.2∧m.2≤255)
def cK(c:cy):Bool:=decide (4≤(c.2.2.1.length:Int)∧(c.2.2.1.length:Int)≤8)&&(decide (0≤c.1∧c.1≤(c.2.2.1.length:Int)-1)&&(decide (¬8<(c.2.1.length:Int))&&(decide (0≤c.2.2.2.1∧c.2.2.2.1≤4)&&(decide (-1≤c.2.2.2.2∧c.2.2.2.2≤3)&&c.2.2.1.all Aq))))
def oE(c:cy):Int:=bif cK c then 0 else 120
theorem qV{c:cy}:oE c=0↔cK c=true:=by unfold oE;cases cK c<;>decide
theorem ahE{l:List dp}(hl:l.length≤140737488355328):∀(j i:Nat),l.length-i=j→i≤l.length→ay (P8 ah) (.more (.c0 ⟨l,(l.length:Int),false⟩ (i:Int))) (bif (l.drop i).all Aq then 0 else 120):=by
 intro j
 induction j with
 | zero=>
   intro i hj hi
   have:i=l.length:=by omega
   subst this
   rw[al,P8]
   refine(ai (by rw[aG];simp)).2 ((ai rfl).2 ?_)
   rw[List.drop_length]
   exact .ret _
 | succ j ih=>
   intro i hj hi
   have hi':i<l.length:=by omega
   rw[al,P8]
   refine(aj (by rw[aG];simp;omega)).2 (af.2 ⟨aP hi',?_⟩)
   rw[show(ah.n dZ l (i:Int):dp)=l[i] from getD_in hi' _,ry hi',List.all_cons,Aq,A6]
   refine ax (p:=8<(l[i].1.length:Int)) rfl (fun h=>?_) fun h1=>af.2 ⟨rfl,dT (fun h=>?_) fun h2=>?_⟩
   ·rw[aX (show ¬¬8<(l[i].1.length:Int) by omega)]
    exact(ai rfl).2 ((aj (by rw[bA];simp)).2 (.ret _))
   ·rw[aX h,Bool.and_false]
    exact(ai rfl).2 ((aj (by rw[bA];simp)).2 (.ret _))
   ·rw[aL h1,aL h2,cm (i:=i) (by omega)]
    exact ih (i+1) (by omega) (by omega)
theorem Jb{c:cy}(h:Ty.has lf c):c.2.1.length≤140737488355328∧c.2.2.1.length≤140737488355328∧∀x∈c.2.2.1,x.1.length≤140737488355328:=by
 obtain⟨_,h1,h2,_⟩:=h
 exact⟨h1.1,h2.1,fun x hx=>(h2.2 x hx).1.1⟩
theorem ag1{c:cy}(h:Ty.has lf c):ay (P8 ah) (WI ah c) (oE c):=by
 have hc:=(Jb h).2.1
 unfold WI oE
 rw[A6]
 simp only[bK]
 have hs:ah.b .sub .i64 (c.2.2.1.length:Int) 1=(c.2.2.1.length:Int)-1:=by rw[cn,iU (by omega) (by omega)]
 rw[hs]
 refine af.2 ⟨rfl,dT (fun h=>?_) fun h1=>af.2 ⟨rfl,dT (fun h=>?_) fun h2=>ax (p:=8<(c.2.1.length:Int)) rfl (fun h=>?_) fun h3=>af.2 ⟨rfl,dT (fun h=>?_) fun h4=>af.2 ⟨rfl,dT (fun h=>?_) fun h5=>?_⟩⟩⟩⟩
 ·exact au (kg (by rw[cK,jj h])) (.ret _)
 ·exact au (kg (by rw[cK,bo h1,jj h])) (.ret _)
 ·exact au (kg (by rw[cK,bo h1,bo h2,jj (fun k=>k h)])) (.ret _)
 ·exact au (kg (by rw[cK,bo h1,bo h2,bo h3,jj h])) (.ret _)
 ·exact au (kg (by rw[cK,bo h1,bo h2,bo h3,bo h4,jj h])) (.ret _)
 ·rw[cK,bo h1,bo h2,bo h3,bo h4,bo h5]
  exact ahE hc c.2.2.1.length 0 rfl (by omega)
def kZ:cy→Int:=oE
def adP:aA:=⟨[lf], [yI],(@tt cy),kZ⟩
theorem Bg:Sd 44 adP:=aT ar bR true 78 [⟨173,2, [[0,1,7,8], [], [37]]⟩] [] (fun A c=>WI A c) P8 Y_ (fc Tryz.func44 (fc Tryz.func95 (fc Tryz.func97 (fc Tryz.func173 fz)))) (sc FX sz) (fun A y=>match y with |.c0 p a2=>⟨68,by kernel_rfl,by kernel_rfl⟩) fun c hp h=>ag1 h
structure X1 where
 (a1:cy)
inductive SN where
 | c0 (p:X1) (a0:Int)
noncomputable def W3:SN→eT
 | .c0 p a0=>⟨[⟨70,84,(en [(1,.ptr 0 0),(4,vi a0)]),[.inLoop (cw Tryz.f70 [1,1,1,0,1,0,0]),.inBlock 0,.code (cw Tryz.f70 [1,1,1,1])],[],none⟩],[.flat false (dc lf p.a1),.dead]⟩
def Wj(A:aI)(c:cy):LT Int SN:=.br (A.c .lss (A.l c.2.2.1) 4) (.ret 120) (.br (A.c .gtr (A.l c.2.2.1) 8) (.ret 120) (.br (A.c .lss c.1 0) (.ret 120) (.br (A.c .geq c.1 (A.l c.2.2.1)) (.ret 120) (.br (A.c .gtr (A.l c.2.1) 8) (.ret 120) (.br (A.c .lss c.2.2.2.1 0) (.ret 120) (.br (A.c .gtr c.2.2.2.1 4) (.ret 120) (.br (A.c .lss c.2.2.2.2 (-1)) (.ret 120) (.br (A.c .geq c.2.2.2.2 4) (.ret 120) (.more (.c0 ⟨c⟩ 0))))))))))
def PR(A:aI):SN→LT Int SN
 | .c0 p a0=>.br (A.c .lss a0 (A.l p.a1.2.2.1)) (.need (A.and (A.c .leq 0 a0) (A.c .lss a0 (A.l p.a1.2.2.1))) (.br (A.c .gtr (A.l (A.n dZ p.a1.2.2.1 a0:dp).1) 8) (.ret 120) (.need (A.and (A.c .leq 0 a0) (A.c .lss a0 (A.l p.a1.2.2.1))) (.br (A.c .lss (A.n dZ p.a1.2.2.1 a0:dp).2 0) (.ret 120) (.need (A.and (A.c .leq 0 a0) (A.c .lss a0 (A.l p.a1.2.2.1))) (.br (A.c .gtr (A.n dZ p.a1.2.2.1 a0:dp).2 255) (.ret 120) (.more (.c0 p (A.b .add .i64 a0 1))))))))) (.ret 0)
theorem adI{c:cy}(hl:c.2.2.1.length≤140737488355328):∀(j i:Nat),c.2.2.1.length-i=j→i≤c.2.2.1.length→ay (PR ah) (.more (.c0 ⟨c⟩ (i:Int))) (bif (c.2.2.1.drop i).all Aq then 0 else 120):=by
 intro j
 induction j with
 | zero=>
   intro i hj hi
   have:i=c.2.2.1.length:=by omega
   subst this
   rw[al,PR]
   refine(ai (by rw[JI];simp)).2 ?_
   rw[List.drop_length]
   exact .ret _
 | succ j ih=>
   intro i hj hi
   have hi':i<c.2.2.1.length:=by omega
   rw[al,PR]
   refine(aj (by rw[JI];simp;omega)).2 (af.2 ⟨aP hi',?_⟩)
   rw[show(ah.n dZ c.2.2.1 (i:Int):dp)=c.2.2.1[i] from getD_in hi' _,ry hi',List.all_cons,Aq]
   refine ax (p:=8<(c.2.2.1[i].1.length:Int)) rfl (fun h=>?_) fun h1=>af.2 ⟨aP hi',ax (p:=c.2.2.1[i].2<0) rfl (fun h=>?_) fun h2=>af.2 ⟨aP hi',ax (p:=255<c.2.2.1[i].2) rfl (fun h=>?_) fun h3=>?_⟩⟩
   ·rw[jj (fun k=>k h)];exact .ret _
   ·rw[bo h1,aX (by omega)];exact .ret _
   ·rw[bo h1,aX (by omega)];exact .ret _
   ·rw[bo h1,aL (by omega),cm (i:=i) (by omega)]
    exact ih (i+1) (by omega) (by omega)
theorem aa1{c:cy}(h:Ty.has lf c):ay (PR ah) (Wj ah c) (oE c):=by
 have hc:=(Jb h).2.1
 unfold Wj oE
 simp only[bK]
 refine ax (p:=(c.2.2.1.length:Int)<4) rfl (fun h=>?_) fun h1=>ax (p:=8<(c.2.2.1.length:Int)) rfl (fun h=>?_) fun h2=>ax (p:=c.1<0) rfl (fun h=>?_) fun h3=>ax (p:=(c.2.2.1.length:Int)≤c.1) rfl (fun h=>?_) fun h4=>ax (p:=8<(c.2.1.length:Int)) rfl (fun h=>?_) fun h5=>ax (p:=c.2.2.2.1<0) rfl (fun h=>?_) fun h6=>ax (p:=4<c.2.2.2.1) rfl (fun h=>?_) fun h7=>ax (p:=c.2.2.2.2 < -1) rfl (fun h=>?_) fun h8=>ax (p:=4≤c.2.2.2.2) rfl (fun h=>?_) fun h9=>?_
 ·exact au (kg (by rw[cK,jj (by omega)])) (.ret _)
 ·exact au (kg (by rw[cK,jj (by omega)])) (.ret _)
 ·exact au (kg (by rw[cK,bo (by omega),jj (by omega)])) (.ret _)
 ·exact au (kg (by rw[cK,bo (by omega),jj (by omega)])) (.ret _)
 ·exact au (kg (by rw[cK,bo (by omega),bo (by omega),jj (by omega)])) (.ret _)
 ·exact au (kg (by rw[cK,bo (by omega),bo (by omega),bo (by omega),jj (by omega)])) (.ret _)
 ·exact au (kg (by rw[cK,bo (by omega),bo (by omega),bo (by omega),jj (by omega)])) (.ret _)
 ·exact au (kg (by rw[cK,bo (by omega),bo (by omega),bo (by omega),bo (by omega),jj (by omega)])) (.ret _)
 ·exact au (kg (by rw[cK,bo (by omega),bo (by omega),bo (by omega),bo (by omega),jj (by omega)])) (.ret _)
 ·rw[cK,bo (by omega),bo (by omega),bo (by omega),bo (by omega),bo (by omega)]
  exact adI hc c.2.2.1.length 0 rfl (by omega)
def VA:cy→Int:=oE
def abg:aA:=⟨[lf], [yI],(@tt cy),VA⟩
theorem ac0:Sd 70 abg:=aT ar bR true 74 [⟨70,5, [[1,4]]⟩] [] (fun A c=>Wj A c) PR W3 (fc Tryz.func70 fz) sz (fun A y=>match y with |.c0 p a0=>⟨56,by kernel_rfl,by kernel_rfl⟩) fun c hp h=>aa1 h
structure Z_ where
 (a0:Int) (a2:cy) (a3 a4 a5:Int)
inductive PK where
 | c0 (p:Z_) (a1:Int) (a6:List dp)
noncomputable def XX:PK→eT
 | .c0 p a1 a6=>⟨[⟨112,44,(en [(1,.ptr 0 0),(2,.ptr 1 0),(5,.own 2),(22,vi p.a0),(23,vi a1)]),[.inLoop (cw Tryz.f112 [1,1,1,1,0,1,0,0]),.inBlock 0,.code (cw Tryz.f112 [1,1,1,1,1])],[],none⟩],[.flat false (dc lf p.a2),.flat false [vi p.a3,.dn true,.dn true,vi p.a4,vi p.a5],.arr false dZ a6,.dead]⟩
abbrev OT(A:aI)(c:cy):=(A.spl (A.r (A.l c.2.2.1) (Ty.dW dZ:dp)) 0 (A.s c.2.2.1 0 (A.mn (A.l c.2.2.1) (A.l (A.r (A.l c.2.2.1) (Ty.dW dZ:dp))))))
def WB(A:aI)(c:cy):LT (cy×Int) PK:=.need (A.k (@tt cy) c) (.br (A.c .neq (A.k kZ c) 0) (.ret ((0,([]:List Int),([]:List dp),0,0),(A.k kZ c))) (.need (A.and (A.c .eql (A.l c.2.2.1) (A.l c.2.2.1)) (A.and (A.c .leq 0 (A.l c.2.2.1)) (A.c .leq (A.l c.2.2.1) 4398046511104))) (.more (.c0 ⟨(A.l (OT A c)),c,0,0,0⟩ 0 (OT A c)))))
def ND(A:aI):PK→LT (cy×Int) PK
 | .c0 p a1 a6=>.br (A.c .lss a1 p.a0) (.need (A.and (A.c .leq 0 a1) (A.c .lss a1 (A.l a6))) (.need (A.k (@tt (List Int)) (A.n dZ a6 a1:dp).1) (.need (A.and (A.c .leq 0 a1) (A.c .lss a1 (A.l a6))) (.more (.c0 p (A.b .add .i64 a1 1) (A.set a6 a1 ((A.k jv (A.n dZ a6 a1:dp).1),(A.n dZ a6 a1:dp).2))))))) (.need (A.k (@tt (List Int)) p.a2.2.1) (.ret ((p.a2.1,(A.k jv p.a2.2.1),a6,p.a2.2.2.2),0)))
def w_:cy:=(0,([]:List Int),([]:List dp),0,0)
def C5(c:cy):cy×Int:=bif cK c then(c,0) else(w_,120)
theorem ahi{c:cy}{L z1 z2 z3:Int}{l:List dp}(hl:l.length≤140737488355328)(hL:L=(l.length:Int)):∀(j i:Nat),l.length-i=j→i≤l.length→ay (ND ah) (.more (.c0 ⟨L,c,z1,z2,z3⟩ (i:Int) l)) ((c.1,c.2.1,l,c.2.2.2),0):=by
 subst hL
 intro j
 induction j with
 | zero=>
   intro i hj hi
   have:i=l.length:=by omega
   subst this
   rw[al,ND]
   exact(ai (by rw[aG];simp)).2 (af.2 ⟨rfl,.ret _⟩)
 | succ j ih=>
   intro i hj hi
   have hi':i<l.length:=by omega
   rw[al,ND]
   refine(aj (by rw[aG];simp;omega)).2 (af.2 ⟨aP hi',af.2 ⟨rfl,af.2 ⟨aP hi',?_⟩⟩⟩)
   have e:(ah.n dZ l (i:Int):dp)=l[i]:=getD_in hi' _
   have e2:ah.set l (i:Int) ((ah.k jv (ah.n dZ l (i:Int):dp).1),(ah.n dZ l (i:Int):dp).2)=l:=by
    rw[e]
    show l.set (i:Int).toNat l[i]=l
    rw[gF];exact List.set_getElem_self _
   rw[e2,cm (i:=i) (by omega)]
   exact ih (i+1) (by omega) (by omega)
theorem Ch{α:Type}{l:List α}{d:α}:ah.spl (ah.r (ah.l l) d) 0 (ah.s l 0 (ah.mn (ah.l l) (ah.l (ah.r (ah.l l) d))))=l:=by
 simp[jf,nD,fS,nL,bK]
theorem ad3{c:cy}:ay (ND ah) (WB ah c) (C5 c):=by
 unfold WB OT C5
 refine af.2 ⟨rfl,?_⟩
 rw[show ah.k kZ c=oE c from rfl,oE]
 cases hc:cK c
 ·exact(aj rfl).2 (.ret _)
 ·refine(ai rfl).2 ?_
  simp only[cK,ck,jN] at hc
  have h1:ah.and (ah.c .eql (ah.l c.2.2.1) (ah.l c.2.2.1)) (ah.and (ah.c .leq 0 (ah.l c.2.2.1)) (ah.c .leq (ah.l c.2.2.1) 4398046511104))=true:=by
   rw[bK,aD,ap,ap,aK,aK];simp;omega
  refine af.2 ⟨h1,?_⟩
  exact gj (congrArg (fun z:List dp=>LT.more (PK.c0 ⟨ah.l z,c,0,0,0⟩ 0 z)) Ch) (ahi (by omega) rfl c.2.2.1.length 0 rfl (by omega))
def iZ:cy→(cy×Int):=C5
def aeC:aA:=⟨[lf], [lf,yI],(@tt cy),iZ⟩
theorem M8:Sd 112 aeC:=aT ar bR true 50 [⟨112,7, [[1,2,5,22,23]]⟩] [] (fun A c=>WB A c) ND XX (fc Tryz.func112 fz) (sc BX (sc Bg sz)) (fun A y=>match y with |.c0 p a1 a6=>⟨38,by kernel_rfl,by kernel_rfl⟩) fun c hp h=>ad3
theorem aM{a b:Int}:ah.c .eql a b=decide (a=b):=by rw[aD,Bool.eq_iff_iff];simp
structure aag where
 (a0 a2:Int) (a3:List Int) (a4:cy) (a5 a6 a7:Int) (a9:cy) (cN dF a12:Int)
inductive Qo where
 | c0 (p:aag) (a1:Int) (a8:List dp)
noncomputable def Xj:Qo→eT
 | .c0 p a1 a8=>⟨[⟨112,44,(en [(1,.ptr 0 0),(2,.ptr 1 0),(5,.own 2),(22,vi p.a0),(23,vi a1)]),[.inLoop (cw Tryz.f112 [1,1,1,1,0,1,0,0]),.inBlock 0,.code (cw Tryz.f112 [1,1,1,1,1])],[],none⟩,⟨110,42,(en [(1,vi p.a2),(2,.sl yU p.a3),(3,.ptr 3 0),(6,.ptr 4 0)]),[.ops (ow Tryz.f110 [1,0]) ((ow Tryz.f110 [1,0]).toList.drop 1),.code (cw Tryz.f110 [1,1])],[],none⟩],[.flat false (dc lf p.a4),.flat false [vi p.a5,.dn true,.dn true,vi p.a6,vi p.a7],.arr false dZ a8,.flat false (dc lf p.a9),.flat false [vi p.cN,.dn true,.dn true,vi p.dF,vi p.a12],.dead]⟩
abbrev MV(A:aI)(c:cy):=(A.spl (A.r (A.l c.2.2.1) (Ty.dW dZ:dp)) 0 (A.s c.2.2.1 0 (A.mn (A.l c.2.2.1) (A.l (A.r (A.l c.2.2.1) (Ty.dW dZ:dp))))))
def Z2(A:aI)(c:cy)(slot:Int)(data:List Int):LT (cy×Int) Qo:=.need (A.k (@tt cy) c) (.br (A.c .neq (A.k kZ c) 0) (.br (A.c .neq (A.k kZ c) 0) (.ret ((0,([]:List Int),([]:List dp),0,0),(A.k kZ c))) (.need (A.k (@tt (Int×Int×Int)) (slot,0,(A.b .sub .i64 (A.l c.2.2.1) 1))) (.br (A.not (A.k nT (slot,0,(A.b .sub .i64 (A.l c.2.2.1) 1)))) (.ret ((0,([]:List Int),([]:List dp),0,0),2)) (.br (A.c .gtr (A.l data) 8) (.ret ((0,([]:List Int),([]:List dp),0,0),3)) (.need (A.k (@tt (List Int)) data) (.bad 37 "cni.go:107")))))) (.need (A.and (A.c .eql (A.l c.2.2.1) (A.l c.2.2.1)) (A.and (A.c .leq 0 (A.l c.2.2.1)) (A.c .leq (A.l c.2.2.1) 4398046511104))) (.more (.c0 ⟨(A.l (MV A c)),slot,data,c,0,0,0,c,0,0,0⟩ 0 (MV A c)))))
def Ls(A:aI):Qo→LT (cy×Int) Qo
 | .c0 p a1 a8=>.br (A.c .lss a1 p.a0) (.need (A.and (A.c .leq 0 a1) (A.c .lss a1 (A.l a8))) (.need (A.k (@tt (List Int)) (A.n dZ a8 a1:dp).1) (.need (A.and (A.c .leq 0 a1) (A.c .lss a1 (A.l a8))) (.more (.c0 p (A.b .add .i64 a1 1) (A.set a8 a1 ((A.k jv (A.n dZ a8 a1:dp).1),(A.n dZ a8 a1:dp).2))))))) (.need (A.k (@tt (List Int)) p.a4.2.1) (.need (A.k (@tt (Int×Int×Int)) (p.a2,0,(A.b .sub .i64 (A.l p.a9.2.2.1) 1))) (.br (A.not (A.k nT (p.a2,0,(A.b .sub .i64 (A.l p.a9.2.2.1) 1)))) (.ret ((0,([]:List Int),([]:List dp),0,0),2)) (.br (A.c .gtr (A.l p.a3) 8) (.ret ((0,([]:List Int),([]:List dp),0,0),3)) (.need (A.k (@tt (List Int)) p.a3) (.need (A.and (A.c .leq 0 p.a2) (A.c .lss p.a2 (A.l a8))) (.ret ((p.a4.1,(A.k jv p.a4.2.1),(A.set a8 p.a2 ((A.k jv p.a3),0)),p.a4.2.2.2),0))))))))
def mH(c:cy)(slot:Int)(data:List Int):cy×Int:=
 bif cK c then(bif decide (0≤slot∧slot≤(c.2.2.1.length:Int)-1) then(bif decide (8<(data.length:Int)) then(w_,3) else((c.1,c.2.1,c.2.2.1.set slot.toNat (data,0),c.2.2.2),0)) else(w_,2)) else(w_,120)
def agq:cy×Int×List Int→cy×Int:=fun(c,slot,data)=>mH c slot data
theorem C6{c:cy}(h:cK c=true):4≤c.2.2.1.length∧c.2.2.1.length≤8∧c.2.1.length≤8∧∀x∈c.2.2.1,x.1.length≤8∧0≤x.2∧x.2≤255:=by
 simp only[cK,ck,jN,List.all_eq_true,Aq] at h
 exact⟨by omega,by omega,by omega,fun x hx=>by have:=h.2.2.2.2.2 x hx;exact⟨by omega,this.2⟩⟩
theorem E5{c:cy}(h:cK c=true):ah.and (ah.c .eql (ah.l c.2.2.1) (ah.l c.2.2.1)) (ah.and (ah.c .leq 0 (ah.l c.2.2.1)) (ah.c .leq (ah.l c.2.2.1) 4398046511104))=true:=by
 have:=C6 h
 rw[bK,aD,ap,ap,aK,aK];simp;omega
theorem Fa{l:List dp}{i:Nat}(hi:i<l.length):ah.set l (i:Int) ((ah.k jv (ah.n dZ l (i:Int):dp).1),(ah.n dZ l (i:Int):dp).2)=l:=by
 rw[show(ah.n dZ l (i:Int):dp)=l[i] from getD_in hi _]
 show l.set (i:Int).toNat l[i]=l
 rw[gF];exact List.set_getElem_self _
theorem age{c:cy}{L slot z1 z2 z3 z4 z5 z6:Int}{data:List Int}{R:cy×Int}(hl:c.2.2.1.length≤8)(hL:L=(c.2.2.1.length:Int))(hR:ay (Ls ah) (.more (.c0 ⟨L,slot,data,c,z1,z2,z3,c,z4,z5,z6⟩ (c.2.2.1.length:Int) c.2.2.1)) R) :
  ∀(j i:Nat),c.2.2.1.length-i=j→i≤c.2.2.1.length→ay (Ls ah) (.more (.c0 ⟨L,slot,data,c,z1,z2,z3,c,z4,z5,z6⟩ (i:Int) c.2.2.1)) R:=by
 subst hL
 intro j
 induction j with
 | zero=>
   intro i hj hi
   have:i=c.2.2.1.length:=by omega
   subst this
   exact hR
 | succ j ih=>
   intro i hj hi
   have hi':i<c.2.2.1.length:=by omega
   rw[al,Ls]
   refine(aj (by rw[aG];simp;omega)).2 (af.2 ⟨aP hi',af.2 ⟨rfl,af.2 ⟨aP hi',?_⟩⟩⟩)
   rw[Fa hi',cm (i:=i) (by omega)]
   exact ih (i+1) (by omega) (by omega)
theorem agw{c:cy}{slot:Int}{data:List Int}:ay (Ls ah) (Z2 ah c slot data) (mH c slot data):=by
 unfold Z2 MV mH
 refine af.2 ⟨rfl,?_⟩
 rw[show ah.k kZ c=oE c from rfl,oE]
 cases hc:cK c
 ·exact(aj rfl).2 ((aj rfl).2 (.ret _))
 ·obtain⟨h1,h2,_,_⟩:=C6 hc
  refine(ai rfl).2 (af.2 ⟨E5 hc,gj (congrArg (fun z:List dp=>LT.more (Qo.c0 ⟨ah.l z,slot,data,c,0,0,0,c,0,0,0⟩ 0 z)) Ch) (age h2 rfl ?_ c.2.2.1.length 0 rfl (by omega))⟩)
  rw[al,Ls]
  have hs:ah.b .sub .i64 (c.2.2.1.length:Int) 1=(c.2.2.1.length:Int)-1:=by rw[cn,iU (by omega) (by omega)]
  refine(ai (by rw[aG];simp)).2 (af.2 ⟨rfl,af.2 ⟨rfl,?_⟩⟩)
  rw[A6]
  simp only[bK,hs]
  refine dT (fun h=>?_) fun h3=>ax (p:=8<(data.length:Int)) rfl (fun h=>?_) fun h4=>af.2 ⟨rfl,af.2 ⟨?_,?_⟩⟩
  ·rw[aX h];exact .ret _
  ·rw[aL h3,aL h];exact .ret _
  ·rw[ap,ao,aK];simp;omega
  ·rw[aL h3,aX h4];exact .ret _
def wR:(cy×Int×List Int)→(cy×Int):=agq
def aeB:aA:=⟨[lf,yI,yB], [lf,yI],(@tt (cy×Int×List Int)),wR⟩
theorem VI:Sd 110 aeB:=aT ar bR true 89 [⟨112,7, [[1,2,5,22,23], [1,2,3,6]]⟩] [] (fun A (c,slot,data)=>Z2 A c slot data) Ls Xj (fc Tryz.func110 (fc Tryz.func112 fz)) (sc BX (sc Bg (sc FX sz))) (fun A y=>match y with |.c0 p a1 a8=>⟨86,by kernel_rfl,by kernel_rfl⟩) fun(c,slot,data) hp h=>agw
structure aaj where
 (a0 a1 a2 a3 a4 a5 a6 a7:Int)
structure WW where
 (b0:Int) (b2:cy) (b3 b4 b5 b7 b8 b9:Int)
structure XO where
 (c0 c2 c3 c4 c5:Int) (c6:List Int) (c7 c8:Int)
inductive N3 where
 | c0 (p:aaj)
 | c1 (p:WW) (b1:Int) (b6:List dp)
 | c2 (p:XO) (c1:Int) (c9:List dp)
noncomputable def Xa:N3→eT
 | .c0 p=>⟨[⟨57,42,(en [(2,.ptr 0 0),(4,.ptr 1 0),(18,vi p.a0),(19,vi p.a1)]),[.inLoop (cw Tryz.f57 [1,1,1,0,1,0,0]),.inBlock 0,.code (cw Tryz.f57 [1,1,1,1])],[],none⟩],[.flat false [vi p.a2,.dn true,.dn true,vi p.a3,vi p.a4],.flat false [vi p.a5,.dn true,.dn true,vi p.a6,vi p.a7],.dead]⟩
 | .c1 p b1 b6=>⟨[⟨112,44,(en [(1,.ptr 0 0),(2,.ptr 1 0),(5,.own 2),(22,vi p.b0),(23,vi b1)]),[.inLoop (cw Tryz.f112 [1,1,1,1,0,1,0,0]),.inBlock 0,.code (cw Tryz.f112 [1,1,1,1,1])],[],none⟩,⟨57,42,(en [(2,.ptr 3 0)]),[.ops (ow Tryz.f57 [1,0]) ((ow Tryz.f57 [1,0]).toList.drop 1),.code (cw Tryz.f57 [1,1])],[],none⟩],[.flat false (dc lf p.b2),.flat false [vi p.b3,.dn true,.dn true,vi p.b4,vi p.b5],.arr false dZ b6,.flat false [vi p.b7,.dn true,.dn true,vi p.b8,vi p.b9],.dead]⟩
 | .c2 p c1 c9=>⟨[⟨57,42,(en [(2,.ptr 0 0),(4,.ptr 1 0),(18,vi p.c0),(19,vi c1)]),[.inLoop (cw Tryz.f57 [1,1,1,0,1,0,0]),.inBlock 0,.code (cw Tryz.f57 [1,1,1,1])],[],none⟩],[.flat false [vi p.c2,.dn true,.dn true,vi p.c3,vi p.c4],.flat false [vi p.c5,.sl yU p.c6,.own 2,vi p.c7,vi p.c8],.arr false dZ c9,.dead]⟩
abbrev PL(A:aI)(c:cy):=(A.spl (A.r (A.l c.2.2.1) (Ty.dW dZ:dp)) 0 (A.s c.2.2.1 0 (A.mn (A.l c.2.2.1) (A.l (A.r (A.l c.2.2.1) (Ty.dW dZ:dp))))))
def Z1(A:aI)(c:cy):LT (cy×Int) N3:=.need (A.k (@tt cy) c) (.br (A.c .neq (A.k kZ c) 0) (.br (A.c .neq (A.k kZ c) 0) (.ret ((0,([]:List Int),([]:List dp),0,0),(A.k kZ c))) (.more (.c0 ⟨0,0,0,0,0,0,0,0⟩))) (.need (A.and (A.c .eql (A.l c.2.2.1) (A.l c.2.2.1)) (A.and (A.c .leq 0 (A.l c.2.2.1)) (A.c .leq (A.l c.2.2.1) 4398046511104))) (.more (.c1 ⟨(A.l (PL A c)),c,0,0,0,0,0,0⟩ 0 (PL A c)))))
def Ea(A:aI):N3→LT (cy×Int) N3
 | .c0 p=>.br (A.c .lss p.a1 p.a0) (.bad 37 "cni.go:118") (.ret ((p.a5,([]:List Int),([]:List dp),(A.mx (A.b .sub .i64 p.a6 1) 0),p.a7),0))
 | .c1 p b1 b6=>.br (A.c .lss b1 p.b0) (.need (A.and (A.c .leq 0 b1) (A.c .lss b1 (A.l b6))) (.need (A.k (@tt (List Int)) (A.n dZ b6 b1:dp).1) (.need (A.and (A.c .leq 0 b1) (A.c .lss b1 (A.l b6))) (.more (.c1 p (A.b .add .i64 b1 1) (A.set b6 b1 ((A.k jv (A.n dZ b6 b1:dp).1),(A.n dZ b6 b1:dp).2))))))) (.need (A.k (@tt (List Int)) p.b2.2.1) (.more (.c2 ⟨(A.l b6),p.b7,p.b8,p.b9,p.b2.1,(A.k jv p.b2.2.1),p.b2.2.2.2.1,p.b2.2.2.2.2⟩ 0 b6)))
 | .c2 p c1 c9=>.br (A.c .lss c1 p.c0) (.need (A.and (A.c .leq 0 c1) (A.c .lss c1 (A.l c9))) (.need (A.and (A.c .leq 0 c1) (A.c .lss c1 (A.l c9))) (.more (.c2 p (A.b .add .i64 c1 1) (A.set c9 c1 ((A.n dZ c9 c1:dp).1,(A.mn (A.b .add .i64 (A.n dZ c9 c1:dp).2 1) 255))))))) (.ret ((p.c5,p.c6,c9,(A.mx (A.b .sub .i64 p.c7 1) 0),p.c8),0))
def C_(m:dp):dp:=(m.1,ah.mn (ah.b .add .i64 m.2 1) 255)
def Ab(c:cy):cy×Int:=bif cK c then((c.1,c.2.1,c.2.2.1.map C_,ah.mx (ah.b .sub .i64 c.2.2.2.1 1) 0,c.2.2.2.2),0) else(w_,120)
theorem V5{f:dp→dp}{l:List dp}{i:Nat}(hi:i<l.length):(ah.n dZ ((l.take i).map f++l.drop i) (i:Int):dp)=l[i]∧ah.set ((l.take i).map f++l.drop i) (i:Int) (f l[i])=(l.take (i+1)).map f++l.drop (i+1):=by
 have hlen:i<((l.take i).map f++l.drop i).length:=by simp;omega
 have h1:((l.take i).map f).length=i:=by simp;omega
 constructor
 ·refine(getD_in hlen _).trans ?_
  rw[List.getElem_append_right (by rw[h1];exact Nat.le_refl _)]
  rw[List.getElem_drop]
  congr 1
  omega
 ·show List.set _ (i:Int).toNat _=_
  rw[gF,List.set_append_right _ _ (by rw[h1];exact Nat.le_refl _),h1,Nat.sub_self,ry hi,List.set_cons_zero,List.take_succ_eq_append_getElem hi,List.map_append,List.append_assoc]
  rfl
theorem Rv{f:dp→dp}{l:List dp}{i:Nat}(hi:i≤l.length):((l.take i).map f++l.drop i).length=l.length:=by simp;omega
theorem ahj{c:cy}{L z1 z2 z3 z4 z5 z6:Int}{R:cy×Int}(hl:c.2.2.1.length≤8)(hL:L=(c.2.2.1.length:Int))(hR:ay (Ea ah) (.more (.c1 ⟨L,c,z1,z2,z3,z4,z5,z6⟩ (c.2.2.1.length:Int) c.2.2.1)) R) :
  ∀(j i:Nat),c.2.2.1.length-i=j→i≤c.2.2.1.length→ay (Ea ah) (.more (.c1 ⟨L,c,z1,z2,z3,z4,z5,z6⟩ (i:Int) c.2.2.1)) R:=by
 subst hL
 intro j
 induction j with
 | zero=>
   intro i hj hi
   have:i=c.2.2.1.length:=by omega
   subst this
   exact hR
 | succ j ih=>
   intro i hj hi
   have hi':i<c.2.2.1.length:=by omega
   rw[al,Ea]
   refine(aj (by rw[aG];simp;omega)).2 (af.2 ⟨aP hi',af.2 ⟨rfl,af.2 ⟨aP hi',?_⟩⟩⟩)
   rw[Fa hi',cm (i:=i) (by omega)]
   exact ih (i+1) (by omega) (by omega)
theorem agM{l:List dp}{L z1 z2 z3 id life want:Int}{out:List Int}(hl:l.length≤8)(hL:L=(l.length:Int)):∀(j i:Nat),l.length-i=j→i≤l.length→
  ay (Ea ah) (.more (.c2 ⟨L,z1,z2,z3,id,out,life,want⟩ (i:Int) ((l.take i).map C_++l.drop i))) ((id,out,l.map C_,ah.mx (ah.b .sub .i64 life 1) 0,want),0):=by
 subst hL
 intro j
 induction j with
 | zero=>
   intro i hj hi
   have:i=l.length:=by omega
   subst this
   rw[al,Ea,List.take_length,List.drop_length,List.append_nil]
   exact(ai (by rw[aG];simp)).2 (.ret _)
 | succ j ih=>
   intro i hj hi
   have hi':i<l.length:=by omega
   have hx:i<((l.take i).map C_++l.drop i).length:=by rw[Rv hi];exact hi'
   obtain⟨a1,a2⟩:=V5 (f:=C_) hi'
   rw[al,Ea]
   refine(aj (by rw[aG];simp;omega)).2 (af.2 ⟨aP hx,af.2 ⟨aP hx,?_⟩⟩)
   rw[a1,cm (i:=i) (by omega)]
   rw[show(l[i].1,ah.mn (ah.b .add .i64 l[i].2 1) 255)=C_ l[i] from rfl,a2]
   exact ih (i+1) (by omega) (by omega)
theorem ahp{c:cy}:ay (Ea ah) (Z1 ah c) (Ab c):=by
 unfold Z1 PL Ab
 refine af.2 ⟨rfl,?_⟩
 rw[show ah.k kZ c=oE c from rfl,oE]
 cases hc:cK c
 ·exact(aj rfl).2 ((aj rfl).2 (.ret _))
 ·obtain⟨h1,h2,_,_⟩:=C6 hc
  refine(ai rfl).2 (af.2 ⟨E5 hc,gj (congrArg (fun z:List dp=>LT.more (N3.c1 ⟨ah.l z,c,0,0,0,0,0,0⟩ 0 z)) Ch) (ahj h2 rfl ?_ c.2.2.1.length 0 rfl (by omega))⟩)
  rw[al,Ea]
  exact(ai (by rw[aG];simp)).2 (af.2 ⟨rfl,agM (l:=c.2.2.1) (out:=c.2.1) h2 rfl c.2.2.1.length 0 rfl (by omega)⟩)
def O9:cy→(cy×Int):=Ab
def ae5:aA:=⟨[lf], [lf,yI],(@tt cy),O9⟩
theorem acb:Sd 57 ae5:=aT ar bR true 68 [⟨57,5, [[2,4,18,19]]⟩,⟨112,7, [[1,2,5,22,23], [2]]⟩] [] (fun A c=>Z1 A c) Ea Xa (fc Tryz.func57 (fc Tryz.func112 fz)) (sc BX (sc Bg sz)) (fun A y=>match y with |.c0 p=>⟨28,by kernel_rfl,by kernel_rfl⟩|.c1 p b1 b6=>⟨56,by kernel_rfl,by kernel_rfl⟩|.c2 p c1 c9=>⟨41,by kernel_rfl,by kernel_rfl⟩) fun c hp h=>ahp
inductive SK where
 | c0 (a0:Int) (a1:List dp)
noncomputable def Wo:SK→eT
 | .c0 a0 a1=>⟨[⟨162,48,(en [(7,.own 0),(8,vi a0)]),[.inLoop (cw Tryz.f162 [1,1,1,1,1,1,0,0,0]),.inBlock 0,.code (cw Tryz.f162 [1,1,1,1,1,1,1])],[],none⟩],[.arr false dZ a1,.dead]⟩
abbrev zJ(A:aI)(x2:List dp)(count:Int):=(A.v .i64 (A.b .mul .u64 (A.v .u64 (A.l x2)) (A.v .u64 count)))
abbrev Vy(A:aI)(x2:List dp)(count:Int):=(A.b .add .u64 (A.b .mul .u64 (A.b .shr .u64 (A.v .u64 (A.l x2)) 32) (A.b .and .u64 (A.v .u64 count) 4294967295)) (A.b .shr .u64 (A.b .mul .u64 (A.b .and .u64 (A.v .u64 (A.l x2)) 4294967295) (A.b .and .u64 (A.v .u64 count) 4294967295)) 32))
def acB(A:aI)(x2:List dp)(count:Int):LT (List dp) SK:=.br (A.c .lss count 0) (.bad 117 "slices.go:516") (.br (A.c .gtr (A.b .add .u64 (A.b .add .u64 (A.b .mul .u64 (A.b .shr .u64 (A.v .u64 (A.l x2)) 32) (A.b .shr .u64 (A.v .u64 count) 32)) (A.b .shr .u64 (Vy A x2 count) 32)) (A.b .shr .u64 (A.b .add .u64 (A.b .and .u64 (Vy A x2 count) 4294967295) (A.b .mul .u64 (A.b .and .u64 (A.v .u64 (A.l x2)) 4294967295) (A.b .shr .u64 (A.v .u64 count) 32))) 32)) 0) (.bad 117 "slices.go:522") (.br (A.c .gtr (A.b .mul .u64 (A.v .u64 (A.l x2)) (A.v .u64 count)) 9223372036854775807) (.bad 117 "slices.go:522") (.need (A.and (A.c .eql (zJ A x2 count) (zJ A x2 count)) (A.and (A.c .leq 0 (zJ A x2 count)) (A.c .leq (zJ A x2 count) 4398046511104))) (.more (.c0 (A.mn (A.l x2) (A.l (A.r (zJ A x2 count) (Ty.dW dZ:dp)))) (A.spl (A.r (zJ A x2 count) (Ty.dW dZ:dp)) 0 (A.s x2 0 (A.mn (A.l x2) (A.l (A.r (zJ A x2 count) (Ty.dW dZ:dp)))))))))))
def aaB(A:aI):SK→LT (List dp) SK
 | .c0 a0 a1=>.br (A.c .lss a0 (A.l a1)) (.need (A.and (A.c .leq 0 a0) (A.and (A.c .leq a0 (A.l a1)) (A.c .leq (A.l a1) (A.l a1)))) (.need (A.and (A.c .leq 0 0) (A.and (A.c .leq 0 a0) (A.c .leq a0 (A.l a1)))) (.more (.c0 (A.b .add .i64 a0 (A.mn (A.l (A.s a1 0 (A.b .add .i64 0 (A.b .sub .i64 a0 0)))) (A.b .sub .i64 (A.l a1) a0))) (A.spl a1 a0 (A.s (A.s a1 0 (A.b .add .i64 0 (A.b .sub .i64 a0 0))) 0 (A.mn (A.l (A.s a1 0 (A.b .add .i64 0 (A.b .sub .i64 a0 0)))) (A.b .sub .i64 (A.l a1) a0)))))))) (.ret a1)
def ve:dp:=(([]:List Int),255)
theorem ahu{l:List dp}{n:Int}(h:(decide (l=[(([]:List Int),255)])&&decide (4≤n)&&decide (n≤8))=true):ay (aaB ah) (acB ah l n) (List.replicate n.toNat ve):=by
 simp only[ck,jN] at h
 obtain⟨⟨rfl,h1⟩,h2⟩:=h
 have hn:n=4∨n=5∨n=6∨n=7∨n=8:=by omega
 rcases hn with rfl|rfl|rfl|rfl|rfl <;>
  (refine(ai (by kernel_rfl)).2 ((ai (by kernel_rfl)).2 ((ai (by kernel_rfl)).2 (af.2 ⟨by kernel_rfl,?_⟩)))
   refine al.2 ((aj (by kernel_rfl)).2 (af.2 ⟨by kernel_rfl,af.2 ⟨by kernel_rfl,(al.2 ?_)⟩⟩))
   refine(aj (by kernel_rfl)).2 (af.2 ⟨by kernel_rfl,af.2 ⟨by kernel_rfl,(al.2 ?_)⟩⟩))
 ·exact(ai (by kernel_rfl)).2 (au (by kernel_rfl) (.ret _))
 all_goals exact(aj (by kernel_rfl)).2 (af.2 ⟨by kernel_rfl,af.2 ⟨by kernel_rfl,(al.2 ((ai (by kernel_rfl)).2 (au (by kernel_rfl) (.ret _))))⟩⟩)
def UP:(List dp×Int)→(List dp):=fun(_,n)=>List.replicate n.toNat (([]:List Int),255)
def Gq:(List dp×Int)→Bool:=fun(l,n)=>decide (l=[(([]:List Int),255)])&&decide (4≤n)&&decide (n≤8)
def abq:aA:=⟨[(.slice dZ),yI], [(.slice dZ)],Gq,UP⟩
theorem acN:Sd 162 abq:=aT ar bR true 175 [⟨162,8, [[7,8]]⟩] [] (fun A (x2,count)=>acB A x2 count) aaB Wo (fc Tryz.func162 (fc Tryz.func198 (fc Tryz.func259 fz))) sz (fun A y=>match y with |.c0 a0 a1=>⟨30,by kernel_rfl,by kernel_rfl⟩) fun((x2,count):List dp×Int) hp h=>ahu hp
def YW(A:aI)(id:Int)(n:Int):LT (cy×Int) Empty:=.need (A.k (@tt (Int×Int×Int)) (n,4,8)) (.br (A.not (A.k nT (n,4,8))) (.ret ((0,([]:List Int),([]:List dp),0,0),120)) (.need (A.k (@tt (Int×Int×Int)) (id,0,(A.b .sub .i64 n 1))) (.br (A.not (A.k nT (id,0,(A.b .sub .i64 n 1)))) (.ret ((0,([]:List Int),([]:List dp),0,0),120)) (.need (A.k Gq (([(([]:List Int),255)]:List dp),n)) (.ret ((id,([]:List Int),(A.k UP (([(([]:List Int),255)]:List dp),n)),4,(-1)),0))))))
def ON(id n:Int):cy×Int:=bif decide (4≤n∧n≤8) then(bif decide (0≤id∧id≤n-1) then((id,([]:List Int),List.replicate n.toNat ve,4,(-1)),0) else(w_,120)) else(w_,120)
def agh:Int×Int→cy×Int:=fun(id,n)=>ON id n
theorem LN{id n:Int}:ay Empty.elim (YW ah id n) (ON id n):=by
 unfold YW ON
 rw[A6]
 refine af.2 ⟨rfl,dT (fun h=>?_) fun h1=>af.2 ⟨rfl,?_⟩⟩
 ·exact au (by rw[aX h];rfl) (.ret _)
 ·have e:ah.b .sub .i64 n 1=n-1:=by rw[cn,iU (by omega) (by omega)]
  rw[e]
  refine dT (fun h=>?_) fun h2=>af.2 ⟨?_,?_⟩
  ·exact au (by rw[aL h1,aX h];rfl) (.ret _)
  ·rw[aB,Gq,aL h1.1,aL h1.2];rfl
  ·exact au (by rw[aL h1,aL h2];rfl) (.ret _)
def JK:(Int×Int)→(cy×Int):=agh
def adx:aA:=⟨[yI,yI], [lf,yI],(@tt (Int×Int)),JK⟩
theorem abT:Sd 83 adx:=aS ar bR true 38 [] (fun A (id,n)=>YW A id n) (fc Tryz.func83 fz) (sc FX (sc acN sz)) fun(id,n) hp h=>LN
def T5(A:aI)(c:cy):LT Bool Empty:=.need (A.k (@tt cy) c) (.br (A.c .eql (A.k kZ c) 0) (.ret (A.c .gtr c.2.2.2.1 0)) (.ret false))
def MW:cy→Bool:=fun c=>(T5 ah c).val (Ty.bi [.bool])
def ad8:aA:=⟨[lf], [.bool],(@tt cy),MW⟩
theorem abC:Sd 346 ad8:=aH ar bR true 23 [] (fun A c=>T5 A c) (fc Tryz.func346 fz) (sc Bg sz) (fun(c:cy) hp h=>by
 show(T5 ah c).pre=true
 simp[T5,LT.pre,aB,dS])
def Yq(A:aI)(c:cy)(long:Int):LT (List Int×Int) Empty:=.need (A.k (@tt cy) c) (.br (A.c .neq (A.k kZ c) 0) (.ret (([]:List Int),(A.k kZ c))) (.need (A.k (@tt (Int×Int×Int)) (long,0,8)) (.br (A.not (A.k nT (long,0,8))) (.ret (([]:List Int),2)) (.need (A.and (A.c .eql long long) (A.and (A.c .leq 0 long) (A.c .leq long 140737488355328))) (.need (A.k (@tt cy) c) (.br (A.k MW c) (.ret ((A.spl (A.r long (0:Int)) 0 (A.s c.2.1 0 (A.mn (A.l c.2.1) (A.l (A.r long (0:Int)))))),0)) (.ret ((A.r long (0:Int)),0))))))))
def xW(c:cy)(k:Int):List Int×Int:=bif cK c then(bif decide (0≤k∧k≤8) then((bif decide (0<c.2.2.2.1) then c.2.1.take k.toNat++List.replicate (k.toNat-c.2.1.length) 0 else List.replicate k.toNat 0),0) else([],2)) else([],120)
def af5:cy×Int→List Int×Int:=fun(c,k)=>xW c k
theorem Tl{k:Int}(h:0≤k∧k≤8):ah.and (ah.c .eql k k) (ah.and (ah.c .leq 0 k) (ah.c .leq k 140737488355328))=true:=by
 rw[aD,ap,ap,aK,aK];simp;omega
theorem ahc{c:cy}{k:Int}:ay Empty.elim (Yq ah c k) (xW c k):=by
 unfold Yq xW
 rw[A6]
 refine af.2 ⟨rfl,?_⟩
 rw[show ah.k kZ c=oE c from rfl,show ah.k MW c=(bif oE c==0 then decide (0<c.2.2.2.1) else false) from rfl,oE]
 cases hc:cK c
 ·exact(aj rfl).2 (.ret _)
 ·refine(ai rfl).2 (af.2 ⟨rfl,dT (fun h=>?_) fun h=>af.2 ⟨Tl h,af.2 ⟨rfl,ax (p:=0<c.2.2.2.1) rfl (fun h2=>?_) fun h2=>?_⟩⟩⟩)
  ·exact au (by rw[aX h];rfl) (.ret _)
  ·refine au ?_ (.ret _)
   rw[aL h,aL h2]
   obtain⟨n,rfl⟩:∃n:Nat,k=n:=⟨k.toNat,by omega⟩
   simp only[cond_true,jf,nD,fS,nL,bK,pg,gF,Int.toNat_zero,List.take_zero,List.nil_append,List.drop_zero]
   refine Prod.ext ?_ rfl
   simp only[List.length_take,List.drop_replicate,Nat.zero_add]
   by_cases hl:(n:Int)<c.2.1.length
   ·rw[if_pos hl,gF]
    rw[show n-min n c.2.1.length=n-c.2.1.length by omega]
   ·rw[if_neg hl,gF,List.take_of_length_le (Nat.le_refl _),List.take_of_length_le (by omega),Nat.min_self]
  ·exact au (by rw[aL h,aX h2];rfl) (.ret _)
def OU:(cy×Int)→(List Int×Int):=af5
def aeX:aA:=⟨[lf,yI], [yB,yI],(@tt (cy×Int)),OU⟩
theorem abi:Sd 329 aeX:=aS ar bR true 60 [] (fun A (c,long)=>Yq A c long) (fc Tryz.func329 fz) (sc Bg (sc FX (sc abC sz))) fun(c,long) hp h=>ahc
def Wh(A:aI)(c:cy)(data:List Int):LT (cy×Int) Empty:=.need (A.k (@tt cy) c) (.br (A.c .neq (A.k iZ c).2 0) (.ret ((0,([]:List Int),([]:List dp),0,0),(A.k iZ c).2)) (.br (A.c .gtr (A.l data) 8) (.ret ((0,([]:List Int),([]:List dp),0,0),3)) (.need (A.k (@tt (List Int)) data) (.ret (((A.k iZ c).1.1,(A.k jv data),(A.k iZ c).1.2.2),0)))))
def LC(c:cy)(d:List Int):cy×Int:=bif cK c then(bif decide (8<(d.length:Int)) then(w_,3) else((c.1,d,c.2.2),0)) else(w_,120)
def wrS:cy×List Int→cy×Int:=fun(c,d)=>LC c d
theorem wr1{c:cy}{d:List Int}:ay Empty.elim (Wh ah c d) (LC c d):=by
 unfold Wh LC
 refine af.2 ⟨rfl,?_⟩
 rw[show ah.k iZ c=C5 c from rfl,C5]
 cases cK c
 ·exact(aj rfl).2 (.ret _)
 ·refine(ai rfl).2 (ax (p:=8<(d.length:Int)) rfl (fun h=>?_) fun h=>af.2 ⟨rfl,?_⟩)
  ·exact au (by rw[aL h];rfl) (.ret _)
  ·exact au (by rw[aX h];rfl) (.ret _)
def y7:(cy×List Int)→(cy×Int):=wrS
def afe:aA:=⟨[lf,yB], [lf,yI],(@tt (cy×List Int)),y7⟩
theorem VB:Sd 101 afe:=aS ar bR true 55 [] (fun A (c,data)=>Wh A c data) (fc Tryz.func101 fz) (sc BX (sc M8 sz)) fun(c,data) hp h=>wr1
def Xe(A:aI)(c:cy):LT (cy×Int) Empty:=.need (A.k (@tt cy) c) (.br (A.c .eql (A.k iZ c).2 0) (.ret (((A.k iZ c).1.1,(A.k iZ c).1.2.1,(A.k iZ c).1.2.2.1,4,(A.k iZ c).1.2.2.2.2),(A.k iZ c).2)) (.ret (A.k iZ c)))
def Rm:cy→cy×Int:=fun c=>bif cK c then((c.1,c.2.1,c.2.2.1,4,c.2.2.2.2),0) else(w_,120)
theorem bt1{c:cy}:ay Empty.elim (Xe ah c) (Rm c):=by
 unfold Xe Rm
 refine af.2 ⟨rfl,?_⟩
 rw[show ah.k iZ c=C5 c from rfl,C5]
 cases cK c
 ·exact(ai rfl).2 (.ret _)
 ·exact(aj rfl).2 (.ret _)
def Ka:cy→(cy×Int):=Rm
def aep:aA:=⟨[lf], [lf,yI],(@tt cy),Ka⟩
theorem afY:Sd 249 aep:=aS ar bR true 41 [] (fun A c=>Xe A c) (fc Tryz.func249 fz) (sc M8 sz) fun c hp h=>bt1
def W1(A:aI)(c:cy)(mode:Int):LT (cy×Int) Empty:=.need (A.k (@tt cy) c) (.br (A.c .neq (A.k iZ c).2 0) (.ret ((0,([]:List Int),([]:List dp),0,0),(A.k iZ c).2)) (.need (A.k (@tt (Int×Int×Int)) (mode,(-1),3)) (.br (A.not (A.k nT (mode,(-1),3))) (.ret ((0,([]:List Int),([]:List dp),0,0),2)) (.ret (((A.k iZ c).1.1,(A.k iZ c).1.2.1,(A.k iZ c).1.2.2.1,(A.k iZ c).1.2.2.2.1,mode),0)))))
def Ap(c:cy)(m:Int):cy×Int:=bif cK c then(bif decide (-1≤m∧m≤3) then((c.1,c.2.1,c.2.2.1,c.2.2.2.1,m),0) else(w_,2)) else(w_,120)
def ahN:cy×Int→cy×Int:=fun(c,m)=>Ap c m
theorem agD{c:cy}{m:Int}:ay Empty.elim (W1 ah c m) (Ap c m):=by
 unfold W1 Ap
 rw[A6]
 refine af.2 ⟨rfl,?_⟩
 rw[show ah.k iZ c=C5 c from rfl,C5]
 cases cK c
 ·exact(aj rfl).2 (.ret _)
 ·refine(ai rfl).2 (af.2 ⟨rfl,dT (fun h=>?_) fun h=>?_⟩)
  ·exact au (by rw[aX h];rfl) (.ret _)
  ·exact au (by rw[aL h];rfl) (.ret _)
def IZ:(cy×Int)→(cy×Int):=ahN
def aaN:aA:=⟨[lf,yI], [lf,yI],(@tt (cy×Int)),IZ⟩
theorem afR:Sd 250 aaN:=aS ar bR true 54 [] (fun A (c,mode)=>W1 A c mode) (fc Tryz.func250 fz) (sc FX (sc M8 sz)) fun(c,mode) hp h=>agD
abbrev dq(m:ak):Int:=(m.2.2.2.2.2.2.2.length:Int)
theorem p8{c:cq}{k:Int}(h:jZ (c,k)=0):(4≤k∧k≤8)∧(0≤c.1∧c.1≤255)∧(0≤c.2.1∧c.2.1≤k-1)∧(0≤c.2.2.1∧c.2.2.1≤3)∧(0≤c.2.2.2.1∧c.2.2.2.1≤4)∧(0≤c.2.2.2.2∧c.2.2.2.2≤2^k.toNat-1):=by
 obtain⟨t,p,m,n,s⟩:=c
 rw[jZ] at h
 cases h1:decide (k<4)||decide (8<k)
 ·rw[h1,cond_false] at h
  rw[Bool.or_eq_false_iff,decide_eq_false_iff_not,decide_eq_false_iff_not] at h1
  cases h2:((decide (0≤t)&&decide (t≤255))&&((decide (0≤p)&&decide (p≤k-1))&&((decide (0≤m)&&decide (m≤3))&&((decide (0≤n)&&decide (n≤4))&&(decide (0≤s)&&decide (s≤2^k.toNat-1))))))
  ·rw[h2,cond_false] at h;exact absurd h (by decide)
  ·simp only[ck,jN] at h2
   exact⟨by omega,h2.1,h2.2.1,h2.2.2.1,h2.2.2.2.1,h2.2.2.2.2⟩
 ·rw[h1,cond_true] at h;exact absurd h (by decide)
def dL(m:ak)(c:cq):Bool:=decide (jZ (c,m.1)=0)&&(decide (c.2.2.1<dq m)&&decide (c.2.2.2.1≤dq m))
def iF(m:ak)(c:cq):Int:=bif c_ m then(bif dL m c then 0 else 40) else 70
theorem rc{m:ak}{c:cq}(h:iF m c=0):c_ m=true∧jZ (c,m.1)=0∧(0≤c.2.2.1∧c.2.2.1<dq m)∧c.2.2.2.1≤dq m:=by
 unfold iF at h
 cases hm:c_ m
 ·rw[hm,cond_false] at h;exact absurd h (by decide)
 ·cases hf:dL m c
  ·rw[hm,hf,cond_true,cond_false] at h;exact absurd h (by decide)
  ·simp only[dL,ck,jN] at hf
   exact⟨rfl,hf.1,⟨(p8 hf.1).2.2.2.1.1,hf.2.1⟩,hf.2.2⟩
theorem PQ{m:ak}{c:cq}(h:c_ m=true)(h2:dL m c=true):iF m c=0:=by rw[iF,h,h2];rfl
theorem cX{m:ak}(h:c_ m=true):(4≤m.1∧m.1≤8)∧(1≤dq m∧dq m≤4)∧(m.2.2.2.2.2.2.1.length:Int)=m.1∧m.2.2.2.2.2.2.2.all (jF m)=true:=by
 obtain⟨n,s,g,w,d,de,aW,modes⟩:=m
 have:=Yn h
 exact⟨this.1,this.2.1,this.2.2.1,this.2.2.2.1⟩
theorem uF{m:ak}(h:c_ m=true){i:Int}(h0:0≤i)(h1:i<dq m):jF m (ah.n bX m.2.2.2.2.2.2.2 i:Mode)=true:=by
 obtain⟨k,rfl⟩:∃k:Nat,i=k:=⟨i.toNat,by omega⟩
 have hk:k<m.2.2.2.2.2.2.2.length:=by unfold dq at h1;omega
 rw[show(ah.n bX m.2.2.2.2.2.2.2 (k:Int):Mode)=m.2.2.2.2.2.2.2[k] from getD_in hk _]
 exact List.all_eq_true.1 (cX h).2.2.2 _ (List.getElem_mem hk)
theorem nZ{m:ak}{x:Mode}(h:jF m x=true):(x.1.length:Int)=m.1∧(x.2.1.length:Int)=m.1∧(x.2.2.length:Int)=dq m:=by
 simp only[jF,ck,beq_iff_eq] at h
 exact⟨h.1.1.1,h.1.1.2,by rw[h.1.2]⟩
theorem qK{α:Type}{l:List α}{i:Int}(h0:0≤i)(h1:i<(l.length:Int)):ah.and (ah.c .leq 0 i) (ah.c .lss i (ah.l l))=true:=by
 rw[bK,ap,ao,aK];simp;omega
theorem AN{x:Int}(h:x=0):ah.c .neq x 0=false:=by rw[h];rfl
theorem qH{x:Int}(h:¬x=0):ah.c .neq x 0=true:=by rw[aR];simpa using h
theorem acZ{x:Int}(h:¬x=0):ah.c .eql x 0=false:=by rw[aD];simpa using h
theorem QA{x:Int}(h:x=0):ah.c .eql x 0=true:=by rw[h];rfl
def ZO(A:aI)(m:ak)(c:cq):LT Bool Empty:=.need (A.k (@tt ((Int×Int×Int×Int×Int)×Int)) (c,m.1)) (.br (A.c .eql (A.k WE (c,m.1)) 0) (.br (A.c .lss c.2.2.1 (A.l m.2.2.2.2.2.2.2)) (.ret (A.c .leq c.2.2.2.1 (A.l m.2.2.2.2.2.2.2))) (.ret false)) (.ret false))
theorem Vo{m:ak}{c:cq}:ay Empty.elim (ZO ah m c) (dL m c):=by
 unfold ZO
 refine af.2 ⟨rfl,?_⟩
 rw[show ah.k WE (c,m.1)=jZ (c,m.1) from rfl]
 by_cases h:jZ (c,m.1)=0
 ·rw[dL,aL h]
  refine(aj (QA h)).2 (ax (p:=c.2.2.1<dq m) rfl (fun h2=>?_) fun h2=>?_)
  ·exact au (by rw[aL h2];rfl) (.ret _)
  ·exact au (by rw[aX h2];rfl) (.ret _)
 ·rw[dL,aX h]
  exact(ai (acZ h)).2 (.ret _)
def NM:(ak×cq)→Bool:=fun(m,c)=>dL m c
def afA:aA:=⟨[aN,ki], [.bool],(@tt (ak×cq)),NM⟩
theorem aaC:Sd 143 afA:=aS ar bR true 37 [] (fun A (m,c)=>ZO A m c) (fc Tryz.func143 fz) (sc ago sz) fun(m,c) hp h=>Vo
def ae7(A:aI)(m:ak)(c:cq):LT Bool Empty:=.need (A.k (@tt ((Int×Int×Int×Int×Int)×Int)) (c,m.1)) (.br (A.c .eql (A.k oW (c,m.1)) 0) (.br (A.c .lss c.2.2.1 (A.l m.2.2.2.2.2.2.2)) (.ret (A.c .leq c.2.2.2.1 (A.l m.2.2.2.2.2.2.2))) (.ret false)) (.ret false))
theorem YN{m:ak}{c:cq}:ay Empty.elim (ae7 ah m c) (dL m c):=Vo
def JW:(ak×cq)→Bool:=fun(m,c)=>dL m c
def afK:aA:=⟨[aN,ki], [.bool],(@tt (ak×cq)),JW⟩
theorem VK:Sd 45 afK:=aS ar bR true 37 [] (fun A (m,c)=>ae7 A m c) (fc Tryz.func45 fz) (sc Ce sz) fun(m,c) hp h=>YN
def W6(A:aI)(m:ak)(n:Int):LT Bool Empty:=.br (A.c .geq n 0) (.ret (A.c .lss n (A.l m.2.2.2.2.2.2.2))) (.ret false)
def isF(m:ak)(n:Int):Bool:=decide (0≤n∧n<dq m)
theorem is1{m:ak}{n:Int}:ay Empty.elim (W6 ah m n) (isF m n):=by
 unfold W6 isF
 refine ax (p:=0≤n) rfl (fun h=>?_) fun h=>?_
 ·exact au (by rw[Bool.eq_iff_iff,bK,ao];simp;omega) (.ret _)
 ·exact au (aX (by omega)).symm (.ret _)
def yJ:(ak×Int)→Bool:=fun(m,c)=>isF m c
def ab2:aA:=⟨[aN,yI], [.bool],(@tt (ak×Int)),yJ⟩
theorem NE:Sd 244 ab2:=aS ar bR true 24 [] (fun A (m,n)=>W6 A m n) (fc Tryz.func244 fz) sz fun(m,n) hp h=>is1
def XN(A:aI)(m:ak)(c:cq):LT Int Empty:=.need (A.k (@tt ak) m) (.br (A.c .neq (A.k iJ m) 0) (.ret (A.k iJ m)) (.need (A.k (@tt ((Int×Int×Int×Int×Int)×Int)) (c,m.1)) (.br (A.c .neq (A.k oW (c,m.1)) 0) (.ret 40) (.need (A.k (@tt (ak×Int)) (m,c.2.2.1)) (.br (A.not (A.k yJ (m,c.2.2.1))) (.ret 40) (.br (A.c .gtr c.2.2.2.1 (A.l m.2.2.2.2.2.2.2)) (.ret 40) (.ret 0)))))))
theorem aaK{m:ak}{c:cq}:ay Empty.elim (XN ah m c) (iF m c):=by
 unfold XN iF
 refine af.2 ⟨rfl,?_⟩
 rw[show ah.k iJ m=iV m from rfl,iV]
 cases hm:c_ m
 ·exact(aj rfl).2 (.ret _)
 refine(ai rfl).2 (af.2 ⟨rfl,?_⟩)
 rw[show ah.k oW (c,m.1)=jZ (c,m.1) from rfl]
 by_cases h:jZ (c,m.1)=0
 ·have h0:=(p8 h).2.2.2.1.1
  rw[dL,aL h]
  refine(ai (AN h)).2 (af.2 ⟨rfl,?_⟩)
  rw[show ah.k yJ (m,c.2.2.1)=decide (0≤c.2.2.1∧c.2.2.1<dq m) from rfl]
  by_cases h2:c.2.2.1<dq m
  ·rw[aL (show 0≤c.2.2.1∧c.2.2.1<dq m from⟨h0,h2⟩),aL h2]
   refine(ai rfl).2 (ax (p:=dq m<c.2.2.2.1) rfl (fun h3=>?_) fun h3=>?_)
   ·exact au (by rw[aX (by omega)];rfl) (.ret _)
   ·exact au (by rw[aL (by omega)];rfl) (.ret _)
  ·rw[aX (show ¬(0≤c.2.2.1∧c.2.2.1<dq m) from fun h=>h2 h.2),aX h2]
   exact(aj rfl).2 (.ret _)
 ·rw[dL,aX h]
  exact(aj (qH h)).2 (.ret _)
def tN:(ak×cq)→Int:=fun(m,c)=>iF m c
def abd:aA:=⟨[aN,ki], [yI],(@tt (ak×cq)),tN⟩
theorem P5:Sd 185 abd:=aS ar bR true 56 [] (fun A (m,c)=>XN A m c) (fc Tryz.func185 fz) (sc Ce (sc BR (sc NE sz))) fun(m,c) hp h=>aaK
def Xk(A:aI)(m:ak)(c:cq)(mode:Int):LT Bool Empty:=.need (A.k (@tt (ak×Int)) (m,mode)) (.br (A.k yJ (m,mode)) (.br (A.c .neq mode c.2.2.1) (.br (A.c .eql c.2.2.2.1 0) (.need (A.and (A.c .leq 0 c.2.2.1) (A.c .lss c.2.2.1 (A.l m.2.2.2.2.2.2.2))) (.need (A.and (A.c .leq 0 mode) (A.c .lss mode (A.l (A.n bX m.2.2.2.2.2.2.2 c.2.2.1:Mode).2.2))) (.ret (A.n .bool (A.n bX m.2.2.2.2.2.2.2 c.2.2.1:Mode).2.2 mode:Bool)))) (.ret false)) (.ret false)) (.ret false))
def pI(m:ak)(c:cq)(k:Int):Bool:=decide (0≤k∧k<dq m)&&(decide (¬k=c.2.2.1)&&(decide (c.2.2.2.1=0)&&(ah.n .bool (ah.n bX m.2.2.2.2.2.2.2 c.2.2.1:Mode).2.2 k:Bool)))
theorem aQ{a b:Int}:ah.c .neq a b=decide (¬a=b):=by rw[aR,Bool.eq_iff_iff];simp
theorem Qt{R Y:Type}{step:Y→LT R Y}{m:ak}{c:cq}{k:Int}{e:LT R Y}{r:R}{f:Bool→R}(h:iF m c=0)(hk:0≤k∧k<dq m)(hr:f (pI m c k)=r)(hf:f false=r→ay step e r) :
  ay step (.br (ah.c .neq k c.2.2.1) (.br (ah.c .eql c.2.2.2.1 0) (.need (ah.and (ah.c .leq 0 c.2.2.1) (ah.c .lss c.2.2.1 (ah.l m.2.2.2.2.2.2.2))) (.need (ah.and (ah.c .leq 0 k) (ah.c .lss k (ah.l (ah.n bX m.2.2.2.2.2.2.2 c.2.2.1:Mode).2.2))) (.ret (f (ah.n .bool (ah.n bX m.2.2.2.2.2.2.2 c.2.2.1:Mode).2.2 k:Bool))))) e) e) r:=by
 obtain⟨hm,_,hc,_⟩:=rc h
 rw[pI,aL hk,Bool.true_and] at hr
 refine ax (p:=¬k=c.2.2.1) aQ (fun h1=>ax (p:=c.2.2.2.1=0) aM (fun h2=>af.2 ⟨qK hc.1 hc.2,af.2 ⟨qK hk.1 ?_,?_⟩⟩) fun h2=>hf ?_) fun h1=>hf ?_
 ·exact(nZ (uF hm hc.1 hc.2)).2.2▸hk.2
 ·exact au (by rw[←hr,aL h1,aL h2];rfl) (.ret _)
 ·rw[←hr,aX h2];cases decide (¬k=c.2.2.1)<;>rfl
 ·rw[←hr,aX h1];rfl
theorem aaY{m:ak}{c:cq}{k:Int}(h:iF m c=0):ay Empty.elim (Xk ah m c k) (pI m c k):=by
 unfold Xk
 refine af.2 ⟨rfl,?_⟩
 rw[show ah.k yJ (m,k)=decide (0≤k∧k<dq m) from rfl]
 by_cases hk:0≤k∧k<dq m
 ·exact(aj (aL hk)).2 (Qt (f:=id) h hk rfl fun e=>au e (.ret _))
 ·exact(ai (aX hk)).2 (au (by rw[pI,aX hk];rfl) (.ret _))
def Pr:(ak×cq×Int)→Bool:=fun(m,c,k)=>pI m c k
def NG:(ak×cq×Int)→Bool:=fun(m,c,_)=>decide (iF m c=0)
def aed:aA:=⟨[aN,ki,yI], [.bool],NG,Pr⟩
theorem aa_:Sd 290 aed:=aS ar bR true 42 [] (fun A (m,c,mode)=>Xk A m c mode) (fc Tryz.func290 fz) (sc NE sz) fun((m,c,mode):ak×cq×Int) hp h=>aaY (of_decide_eq_true hp)
structure QE where
 (a0:Int) (a2:ak) (a3:cq) (a4:Int) (a5:ak) (a6:cq) (a7:ak) (a8:cq) (a9:Int) (cN:ak) (dF:Int) (a12:cq)
inductive RV where
 | c0 (p:QE) (a1:Int)
noncomputable def Y9:RV→eT
 | .c0 p a1=>⟨[⟨289,26,(en [(0,.yield 0),(1,.ptr 1 0),(2,.ptr 2 0),(11,vi p.a0),(12,vi a1)]),[.inLoop (cw Tryz.f289 [1,1,0,0]),.inBlock 0],[],none⟩,⟨186,16,(en [(6,.ptr 3 0)]),[.kj 0,.inBlock 0,.code (cw Tryz.f186 [1,1])],[4],none⟩],[.loop ⟨186,16,(en [(0,.agg (dc aN p.a2)),(1,.agg (dc ki p.a3)),(2,vi p.a4),(3,.ptr 5 0),(4,.ptr 7 0),(5,.ptr 6 0),(6,.ptr 3 0),(8,.agg (dc aN p.a5)),(9,.agg (dc ki p.a6)),(10,.fn 289 [] [.ptr 1 0,.ptr 2 0])]),[11],(cw Tryz.f186 [1,0,1,0,0]),(cw Tryz.f186 [1,0,1,0,1]),0,none⟩,.flat false (dc aN p.a7),.flat false (dc ki p.a8),.flat false [vi p.a9],.Am,.flat false (dc aN p.cN),.flat false [vi p.dF],.flat false (dc ki p.a12),.dead]⟩
def aaf(A:aI)(m:ak)(c:cq)(mode:Int):LT Int RV:=.need (A.k (@tt (ak×cq)) (m,c)) (.br (A.c .neq (A.k tN (m,c)) 0) (.ret (-1)) (.more (.c0 ⟨(A.l m.2.2.2.2.2.2.2),m,c,mode,m,c,m,c,0,m,mode,c⟩ 0)))
def LQ(A:aI):RV→LT Int RV
 | .c0 p a1=>.br (A.c .lss a1 p.a0) (.need (A.k NG (p.a7,p.a8,a1)) (.br (A.k Pr (p.a7,p.a8,a1)) (.br (A.c .eql a1 p.dF) (.ret a1) (.more (.c0 p (A.b .add .i64 a1 1)))) (.more (.c0 p (A.b .add .i64 a1 1))))) (.ret (-1))
def G0(m:ak)(c:cq)(k:Int):Int:=bif decide (iF m c=0)&&pI m c k then k else -1
theorem OY{p:QE}{m:ak}{c:cq}{k:Int}(h0:p.a0=dq m)(h7:p.a7=m)(h8:p.a8=c)(h11:p.dF=k)(h:iF m c=0):∀(j i:Nat),m.2.2.2.2.2.2.2.length-i=j→i≤m.2.2.2.2.2.2.2.length→ay (LQ ah) (.more (.c0 p (i:Int))) (bif decide ((i:Int)≤k)&&pI m c k then k else -1):=by
 have hl:=(cX (rc h).1).2.1
 unfold dq at hl h0
 intro j
 induction j with
 | zero=>
   intro i hj hi
   rw[al,LQ,h0]
   refine(ai (by rw[ao];exact aX (by omega))).2 (au ?_ (.ret _))
   by_cases hk:(i:Int)≤k
   ·rw[pI,aX (show ¬(0≤k∧k<dq m) by unfold dq;omega),Bool.false_and,Bool.and_false];rfl
   ·rw[aX hk];rfl
 | succ j ih=>
   intro i hj hi
   rw[al,LQ,h0,h7,h8,h11]
   refine(aj (by rw[ao];exact aL (by omega))).2 (af.2 ⟨by rw[aB];exact aL h,?_⟩)
   rw[show ah.k Pr (m,c,(i:Int))=pI m c i from rfl,cm (i:=i) (by omega)]
   have hn:=ih (i+1) (by omega) (by omega)
   cases hm:pI m c i
   ·refine(ai rfl).2 (au ?_ hn)
    by_cases hk:(i:Int)=k
    ·rw[←hk,hm,Bool.and_false,Bool.and_false]
    ·rw[show decide (((i+1:Nat):Int)≤k)=decide ((i:Int)≤k) by rw[Bool.eq_iff_iff];simp;omega]
   ·refine(aj rfl).2 (ax (p:=(i:Int)=k) aM (fun hk=>?_) fun hk=>?_)
    ·exact au (by rw[←hk,hm,aL (Int.le_refl _)];rfl) (.ret _)
    ·exact au (by rw[show decide (((i+1:Nat):Int)≤k)=decide ((i:Int)≤k) by rw[Bool.eq_iff_iff];simp;omega]) hn
theorem aha{m:ak}{c:cq}{k:Int}:ay (LQ ah) (aaf ah m c k) (G0 m c k):=by
 unfold aaf G0
 refine af.2 ⟨rfl,?_⟩
 rw[show ah.k tN (m,c)=iF m c from rfl]
 by_cases h:iF m c=0
 ·rw[aL h]
  refine(ai (AN h)).2 (au ?_ (OY (p:=⟨dq m,m,c,k,m,c,m,c,0,m,k,c⟩) (k:=k) rfl rfl rfl rfl h m.2.2.2.2.2.2.2.length 0 rfl (by omega)))
  by_cases hk:0≤k
  ·rw[show decide (((0:Nat):Int)≤k)=true from aL hk]
  ·rw[pI,aX (show ¬(0≤k∧k<dq m) by omega),Bool.false_and,Bool.and_false,Bool.and_false]
 ·rw[aX h]
  exact(aj (qH h)).2 (.ret _)
def F9:(ak×cq×Int)→Int:=fun(m,c,k)=>G0 m c k
def ae6:aA:=⟨[aN,ki,yI], [yI],(@tt (ak×cq×Int)),F9⟩
theorem Vb:Sd 186 ae6:=aT ar bR true 53 [⟨289,2, [[0,1,2,11,12], [6]]⟩] [] (fun A (m,c,mode)=>aaf A m c mode) LQ Y9 (fc Tryz.func186 (fc Tryz.func245 (fc Tryz.func289 fz))) (sc P5 (sc aa_ sz)) (fun A y=>match y with |.c0 p a1=>⟨55,by kernel_rfl,by kernel_rfl⟩) fun(m,c,mode) hp h=>aha
abbrev OE(A:aI)(m:ak)(c:cq)(want:Int):LT (Int×Int) Empty:=(.br (A.c .lss want 0) (.ret (0,0)) (.need (A.k (@tt (ak×cq×Int)) (m,c,want)) (.ret ((A.b .add .i64 (A.k F9 (m,c,want)) 1),0))))
def ZL(A:aI)(m:ak)(c:cq)(want:Int):LT (Int×Int) Empty:=.need (A.k (@tt (ak×cq)) (m,c)) (.br (A.c .neq (A.k tN (m,c)) 0) (.ret (0,(A.k tN (m,c)))) (.br (A.c .neq want (-1)) (.need (A.k (@tt (ak×Int)) (m,want)) (.br (A.not (A.k yJ (m,want))) (.ret (0,100)) (OE A m c want))) (OE A m c want)))
def ym(m:ak)(c:cq)(w:Int):Int×Int:=bif decide (iF m c=0) then(bif decide (-1≤w∧w<dq m) then(bif pI m c w then(w+1,0) else(0,0)) else(0,100)) else(0,iF m c)
theorem YQ{m:ak}{c:cq}{w:Int}(h:¬(0≤w∧w<dq m)):pI m c w=false:=by rw[pI,aX h];rfl
theorem ace{m:ak}{c:cq}{w:Int}:ay Empty.elim (ZL ah m c w) (ym m c w):=by
 unfold ZL OE ym
 refine af.2 ⟨rfl,?_⟩
 rw[show ah.k tN (m,c)=iF m c from rfl,show ah.k yJ (m,w)=decide (0≤w∧w<dq m) from rfl,show ah.k F9 (m,c,w)=G0 m c w from rfl]
 by_cases h:iF m c=0
 ·have hl:=(cX (rc h).1).2.1
  rw[aL h]
  refine(ai (AN h)).2 (ax (p:=¬w = -1) aQ (fun h1=>af.2 ⟨rfl,?_⟩) fun h1=>?_)
  ·by_cases h2:0≤w∧w<dq m
   ·rw[aL h2,aL (show -1≤w∧w<dq m by omega)]
    refine(ai rfl).2 ((ai (by rw[ao];exact aX (by omega))).2 (af.2 ⟨rfl,au ?_ (.ret _)⟩))
    rw[G0,aL h]
    cases pI m c w
    ·rfl
    ·rw[Bool.true_and,cond_true,cond_true,cond_true,cond_true,cr,iU (by omega) (by omega)]
   ·rw[aX h2,aX (show ¬(-1≤w∧w<dq m) by omega)]
    exact(aj rfl).2 (.ret _)
  ·have h2:w = -1:=by omega
   subst h2
   rw[YQ (by omega),aL (show(-1:Int)≤ -1∧ -1<dq m by omega)]
   exact(aj rfl).2 (.ret _)
 ·rw[aX h]
  exact(aj (qH h)).2 (.ret _)
def Eh:(ak×cq×Int)→(Int×Int):=fun(m,c,k)=>ym m c k
def aby:aA:=⟨[aN,ki,yI], [yI,yI],(@tt (ak×cq×Int)),Eh⟩
theorem abB:Sd 328 aby:=aS ar bR true 60 [] (fun A (m,c,want)=>ZL A m c want) (fc Tryz.func328 fz) (sc P5 (sc Vb (sc NE sz))) fun(m,c,want) hp h=>ace
def XZ(A:aI)(m:ak)(c:cq)(req:Int):LT (cq×Int) Empty:=.need (A.k (@tt (ak×cq)) (m,c)) (.br (A.c .neq (A.k tN (m,c)) 0) (.ret ((0,0,0,0,0),(A.k tN (m,c)))) (.br (A.c .lss req 0) (.ret ((0,0,0,0,0),100)) (.br (A.c .gtr req (A.l m.2.2.2.2.2.2.2)) (.ret ((0,0,0,0,0),100)) (.br (A.c .gtr req 0) (.need (A.k (@tt (ak×cq×Int)) (m,c,(A.b .sub .i64 req 1))) (.br (A.c .geq (A.k F9 (m,c,(A.b .sub .i64 req 1))) 0) (.ret ((c.1,c.2.1,c.2.2.1,req,c.2.2.2.2),0)) (.ret (c,0)))) (.ret (c,0))))))
def xr(m:ak)(c:cq)(r:Int):cq×Int:=bif decide (iF m c=0) then(bif decide (0≤r∧r≤dq m) then(bif decide (0<r)&&pI m c (r-1) then((c.1,c.2.1,c.2.2.1,r,c.2.2.2.2),0) else(c,0)) else((0,0,0,0,0),100)) else((0,0,0,0,0),iF m c)
theorem agE{m:ak}{c:cq}{r:Int}:ay Empty.elim (XZ ah m c r) (xr m c r):=by
 unfold XZ xr
 refine af.2 ⟨rfl,?_⟩
 rw[show ah.k tN (m,c)=iF m c from rfl,show ah.k F9 (m,c,(ah.b .sub .i64 r 1))=G0 m c (ah.b .sub .i64 r 1) from rfl]
 by_cases h:iF m c=0
 ·have hl:=(cX (rc h).1).2.1
  rw[aL h]
  refine(ai (AN h)).2 (ax (p:=r<0) rfl (fun h1=>?_) fun h1=>ax (p:=dq m<r) rfl (fun h2=>?_) fun h2=>?_)
  ·exact au (by rw[aX (by omega)];rfl) (.ret _)
  ·exact au (by rw[aX (by omega)];rfl) (.ret _)
  ·rw[aL (show 0≤r∧r≤dq m by omega),cn,iU (by omega) (by omega)]
   refine ax (p:=0<r) rfl (fun h3=>af.2 ⟨rfl,?_⟩) fun h3=>?_
   ·rw[aL h3,G0,aL h,Bool.true_and]
    cases hm:pI m c (r-1)
    ·exact(ai rfl).2 (.ret _)
    ·exact(aj (by rw[cond_true,bA];exact aL (by omega))).2 (.ret _)
   ·exact au (by rw[aX h3];rfl) (.ret _)
 ·rw[aX h]
  exact(aj (qH h)).2 (.ret _)
def qm:(ak×cq×Int)→(cq×Int):=fun(m,c,k)=>xr m c k
def afU:aA:=⟨[aN,ki,yI], [ki,yI],(@tt (ak×cq×Int)),qm⟩
theorem Py:Sd 111 afU:=aS ar bR true 69 [] (fun A (m,c,req)=>XZ A m c req) (fc Tryz.func111 fz) (sc P5 (sc Vb sz)) fun(m,c,req) hp h=>agE
def Wa(A:aI)(m:ak)(node:Int):LT Int Empty:=.need (A.k (@tt ak) m) (.br (A.c .neq (A.k iJ m) 0) (.ret (A.k iJ m)) (.need (A.k (@tt (Int×Int×Int)) (node,0,(A.b .sub .i64 m.1 1))) (.br (A.not (A.k fE (node,0,(A.b .sub .i64 m.1 1)))) (.ret 2) (.ret 0))))
theorem q_{α:Type}{l:List α}{i n:Int}(e:(l.length:Int)=n)(h0:0≤i)(h1:i<n):ah.and (ah.c .leq 0 i) (ah.c .lss i (ah.l l))=true:=qK h0 (e▸h1)
def gV(m:ak)(n:Int):Int:=bif c_ m then(bif decide (0≤n∧n≤m.1-1) then 0 else 2) else 70
theorem Bt{m:ak}{n:Int}(h:gV m n=0):c_ m=true∧0≤n∧n≤m.1-1:=by
 unfold gV at h
 cases hm:c_ m
 ·rw[hm,cond_false] at h;exact absurd h (by decide)
 ·by_cases hn:0≤n∧n≤m.1-1
  ·exact⟨rfl,hn⟩
  ·rw[hm,aX hn,cond_true,cond_false] at h;exact absurd h (by decide)
theorem ZR{m:ak}{n:Int}:ay Empty.elim (Wa ah m n) (gV m n):=by
 unfold Wa gV
 refine af.2 ⟨rfl,?_⟩
 rw[show ah.k iJ m=iV m from rfl,iV]
 cases hm:c_ m
 ·exact(aj rfl).2 (.ret _)
 have hl:=(cX hm).1
 rw[cn,iU (by omega) (by omega)]
 refine(ai rfl).2 (af.2 ⟨rfl,dT (fun h=>?_) fun h=>?_⟩)
 ·exact au (by rw[aX h];rfl) (.ret _)
 ·exact au (by rw[aL h];rfl) (.ret _)
def Bc:(ak×Int)→Int:=fun(m,n)=>gV m n
def aen:aA:=⟨[aN,yI], [yI],(@tt (ak×Int)),Bc⟩
theorem VJ:Sd 181 aen:=aS ar bR true 41 [] (fun A (m,node)=>Wa A m node) (fc Tryz.func181 fz) (sc BR (sc Et sz)) fun(m,node) hp h=>ZR
def VW(A:aI)(m:ak)(n:Int):LT Int Empty:=.need (A.k (@tt ak) m) (.br (A.c .neq (A.k za m) 0) (.ret (A.k za m)) (.br (A.c .lss n 0) (.ret 2) (.br (A.c .geq n m.1) (.ret 2) (.ret 0))))
theorem Wt{m:ak}{n:Int}:ay Empty.elim (VW ah m n) (gV m n):=by
 unfold VW gV
 refine af.2 ⟨rfl,?_⟩
 rw[show ah.k za m=iV m from rfl,iV]
 cases hm:c_ m
 ·exact(aj rfl).2 (.ret _)
 refine(ai rfl).2 (ax (p:=n<0) rfl (fun h=>?_) fun h1=>ax (p:=m.1≤n) rfl (fun h=>?_) fun h2=>?_)
 ·exact au (by rw[aX (by omega)];rfl) (.ret _)
 ·exact au (by rw[aX (by omega)];rfl) (.ret _)
 ·exact au (by rw[aL (by omega)];rfl) (.ret _)
def N_:(ak×Int)→Int:=fun(m,n)=>gV m n
def ael:aA:=⟨[aN,yI], [yI],(@tt (ak×Int)),N_⟩
theorem adw:Sd 209 ael:=aS ar bR true 43 [] (fun A (m,n)=>VW A m n) (fc Tryz.func209 fz) (sc Vf sz) fun(m,n) hp h=>Wt
def YO(A:aI)(m:ak)(node:Int):LT (Int×Int) Empty:=.need (A.k (@tt (ak×Int)) (m,node)) (.br (A.c .neq (A.k Bc (m,node)) 0) (.ret (0,(A.k Bc (m,node)))) (.ret ((A.b .mul .i64 2 (A.b .add .i64 node 1)),0)))
def Av(m:ak)(n:Int):Int×Int:=bif decide (gV m n=0) then((ah.b .mul .i64 2 (ah.b .add .i64 n 1)),0) else(0,gV m n)
theorem afO{m:ak}{n:Int}:ay Empty.elim (YO ah m n) (Av m n):=by
 unfold YO Av
 refine af.2 ⟨rfl,ax (p:=¬gV m n=0) aQ (fun h=>?_) fun h=>?_⟩
 ·exact au (by rw[aX h];rfl) (.ret _)
 ·exact au (by rw[aL (by omega)];rfl) (.ret _)
def BB:(ak×Int)→(Int×Int):=fun(m,n)=>Av m n
def ad_:aA:=⟨[aN,yI], [yI,yI],(@tt (ak×Int)),BB⟩
theorem UU:Sd 175 ad_:=aS ar bR true 35 [] (fun A (m,node)=>YO A m node) (fc Tryz.func175 fz) (sc VJ sz) fun(m,node) hp h=>afO
def YK(A:aI)(m:ak)(n:Int):LT (Int×Int) Empty:=.need (A.k (@tt (ak×Int)) (m,n)) (.br (A.c .neq (A.k N_ (m,n)) 0) (.ret (0,(A.k N_ (m,n)))) (.ret ((A.b .add .i64 (A.b .mul .i64 4 m.1) (A.b .mul .i64 2 (A.b .add .i64 n 1))),0)))
def mC(m:ak)(n:Int):Int×Int:=bif decide (gV m n=0) then((ah.b .add .i64 (ah.b .mul .i64 4 m.1) (ah.b .mul .i64 2 (ah.b .add .i64 n 1))),0) else(0,gV m n)
theorem abk{m:ak}{n:Int}:ay Empty.elim (YK ah m n) (mC m n):=by
 unfold YK mC
 refine af.2 ⟨rfl,ax (p:=¬gV m n=0) aQ (fun h=>?_) fun h=>?_⟩
 ·exact au (by rw[aX h];rfl) (.ret _)
 ·exact au (by rw[aL (by omega)];rfl) (.ret _)
def QL:(ak×Int)→(Int×Int):=fun(m,n)=>mC m n
def ab0:aA:=⟨[aN,yI], [yI,yI],(@tt (ak×Int)),QL⟩
theorem afH:Sd 145 ab0:=aS ar bR true 39 [] (fun A (m,n)=>YK A m n) (fc Tryz.func145 fz) (sc adw sz) fun(m,n) hp h=>abk
def aaq(A:aI)(m:ak)(node:Int):LT (Int×Int) Empty:=.need (A.k (@tt (ak×Int)) (m,node)) (.br (A.c .neq (A.k BB (m,node)).2 0) (.ret (0,(A.k BB (m,node)).2)) (.ret ((A.b .add .i64 (A.b .mul .i64 4 m.1) (A.k BB (m,node)).1),0)))
theorem adM{m:ak}{n:Int}:ay Empty.elim (aaq ah m n) (mC m n):=by
 unfold aaq mC
 refine af.2 ⟨rfl,?_⟩
 rw[show ah.k BB (m,n)=Av m n from rfl,Av]
 by_cases h:gV m n=0
 ·rw[aL h];exact(ai rfl).2 (.ret _)
 ·rw[aX h];exact(aj (qH h)).2 (.ret _)
def UH:(ak×Int)→(Int×Int):=fun(m,n)=>mC m n
def aav:aA:=⟨[aN,yI], [yI,yI],(@tt (ak×Int)),UH⟩
theorem abm:Sd 100 aav:=aS ar bR true 41 [] (fun A (m,node)=>aaq A m node) (fc Tryz.func100 fz) (sc UU sz) fun(m,node) hp h=>adM
abbrev zl(A:aI)(m:ak)(mode:Int):=(A.n bX m.2.2.2.2.2.2.2 mode:Mode)
def Xn(A:aI)(m:ak)(mode:Int)(node:Int):LT (Int×Int) Empty:=.need (A.k (@tt (ak×Int)) (m,node)) (.br (A.c .neq (A.k Bc (m,node)) 0) (.ret (0,(A.k Bc (m,node)))) (.need (A.k (@tt (Int×Int×Int)) (mode,0,(A.b .sub .i64 (A.l m.2.2.2.2.2.2.2) 1))) (.br (A.not (A.k fE (mode,0,(A.b .sub .i64 (A.l m.2.2.2.2.2.2.2) 1)))) (.ret (0,2)) (.need (A.and (A.c .leq 0 mode) (A.c .lss mode (A.l m.2.2.2.2.2.2.2))) (.need (A.and (A.c .leq 0 node) (A.c .lss node (A.l (zl A m mode).2.1))) (.need (A.and (A.c .leq 0 node) (A.c .lss node (A.l (zl A m mode).1))) (.need (A.k (@tt (Bool×Int)) ((A.n .bool (zl A m mode).2.1 node:Bool),(A.n yI (zl A m mode).1 node:Int))) (.ret ((A.k lM ((A.n .bool (zl A m mode).2.1 node:Bool),(A.n yI (zl A m mode).1 node:Int))),0)))))))))
def fL(m:ak)(k n:Int):Int×Int:=bif decide (gV m n=0) then(bif decide (0≤k∧k≤dq m-1) then(lM ((ah.n .bool (ah.n bX m.2.2.2.2.2.2.2 k:Mode).2.1 n:Bool),(ah.n (.int .i64) (ah.n bX m.2.2.2.2.2.2.2 k:Mode).1 n:Int)),0) else(0,2)) else(0,gV m n)
theorem WT{m:ak}{k n:Int}:ay Empty.elim (Xn ah m k n) (fL m k n):=by
 unfold Xn zl fL
 refine af.2 ⟨rfl,?_⟩
 rw[show ah.k Bc (m,n)=gV m n from rfl]
 by_cases h:gV m n=0
 ·obtain⟨hm,h1,h2⟩:=Bt h
  have hl:=(cX hm).2.1
  rw[aL h]
  have e:ah.b .sub .i64 (dq m) 1=dq m-1:=by rw[cn,iU (by omega) (by omega)]
  rw[show ah.b .sub .i64 (ah.l m.2.2.2.2.2.2.2) 1=dq m-1 from e]
  refine(ai (AN h)).2 (af.2 ⟨rfl,dT (fun h3=>?_) fun h3=>?_⟩)
  ·exact au (by rw[aX h3];rfl) (.ret _)
  ·have hx:=nZ (uF hm h3.1 (show k<dq m by omega))
   refine af.2 ⟨qK h3.1 (show k<dq m by omega),af.2 ⟨q_ hx.2.1 h1 (by omega),af.2 ⟨q_ hx.1 h1 (by omega),af.2 ⟨rfl,?_⟩⟩⟩⟩
   exact au (by rw[aL h3];rfl) (.ret _)
 ·rw[aX h];exact(aj (qH h)).2 (.ret _)
def rI:(ak×Int×Int)→(Int×Int):=fun(m,c,k)=>fL m c k
def aec:aA:=⟨[aN,yI,yI], [yI,yI],(@tt (ak×Int×Int)),rI⟩
theorem Vn:Sd 106 aec:=aS ar bR true 66 [] (fun A (m,mode,node)=>Xn A m mode node) (fc Tryz.func106 fz) (sc Et (sc VM (sc VJ sz))) fun(m,mode,node) hp h=>WT
def Yx(A:aI)(c:cq)(n:Int):LT (cq×Int) Empty:=.need (A.k (@tt ((Int×Int×Int×Int×Int)×Int)) (c,n)) (.br (A.c .neq (A.k oW (c,n)) 0) (.ret ((0,0,0,0,0),(A.k oW (c,n)))) (.br (A.c .eql (A.b .add .i64 c.2.1 1) n) (.br (A.c .neq c.2.2.2.1 0) (.ret (((A.b .and .i64 (A.b .add .i64 c.1 1) 255),0,(A.b .sub .i64 c.2.2.2.1 1),0,c.2.2.2.2),0)) (.ret (((A.b .and .i64 (A.b .add .i64 c.1 1) 255),0,c.2.2),0))) (.ret ((c.1,(A.b .add .i64 c.2.1 1),c.2.2),0))))
theorem Yg:∀k:Fin 256,ah.b .and .i64 ((k.val:Int)+1) 255=((k.val:Int)+1).tmod 256:=by decide +kernel
def kr(c:cq)(n:Int):cq×Int:=bif decide (jZ (c,n)=0) then(bif decide (c.2.1+1=n) then(bif decide (c.2.2.2.1=0) then(((c.1+1).tmod 256,0,c.2.2),0) else(((c.1+1).tmod 256,0,c.2.2.2.1-1,0,c.2.2.2.2),0)) else((c.1,c.2.1+1,c.2.2),0)) else((0,0,0,0,0),jZ (c,n))
theorem W4{c:cq}{n:Int}:ay Empty.elim (Yx ah c n) (kr c n):=by
 unfold Yx kr
 refine af.2 ⟨rfl,?_⟩
 rw[show ah.k oW (c,n)=jZ (c,n) from rfl]
 by_cases h:jZ (c,n)=0
 ·obtain⟨h1,h2,h3,h4,h5,h6⟩:=p8 h
  have e1:ah.b .add .i64 c.1 1=c.1+1:=by rw[cr,iU (by omega) (by omega)]
  have e2:ah.b .add .i64 c.2.1 1=c.2.1+1:=by rw[cr,iU (by omega) (by omega)]
  have e3:ah.b .sub .i64 c.2.2.2.1 1=c.2.2.2.1-1:=by rw[cn,iU (by omega) (by omega)]
  have e4:ah.b .and .i64 (c.1+1) 255=(c.1+1).tmod 256:=by
   have:=Yg ⟨c.1.toNat,by omega⟩
   rwa [show((c.1.toNat:Nat):Int)=c.1 from Int.toNat_of_nonneg h2.1] at this
  rw[aL h,e1,e2,e3,e4]
  refine(ai (AN h)).2 (ax (p:=c.2.1+1=n) aM (fun h=>ax (p:=¬c.2.2.2.1=0) aQ (fun g=>?_) fun g=>?_) fun h=>?_)
  ·exact au (by rw[aL h,aX g];rfl) (.ret _)
  ·exact au (by rw[aL h,aL (by omega)];rfl) (.ret _)
  ·exact au (by rw[aX h];rfl) (.ret _)
 ·rw[aX h];exact(aj (qH h)).2 (.ret _)
def VH:(cq×Int)→(cq×Int):=fun(m,c)=>kr m c
def adu:aA:=⟨[ki,yI], [ki,yI],(@tt (cq×Int)),VH⟩
theorem acT:Sd 56 adu:=aS ar bR true 80 [] (fun A (c,n)=>Yx A c n) (fc Tryz.func56 fz) (sc Ce sz) fun(c,n) hp h=>W4
def Y3(A:aI)(node:Int):LT Int Empty:=.br (A.c .lss node 0) (.ret 0) (.br (A.c .geq node 8) (.ret 0) (.need (A.c .leq 0 node) (.ret (A.b .shl .i64 1 node))))
def Oa(n:Int):Int:=bif decide (0≤n∧n≤7) then ah.b .shl .i64 1 n else 0
theorem ahx{n:Int}:ay Empty.elim (Y3 ah n) (Oa n):=by
 unfold Y3 Oa
 refine ax (p:=n<0) rfl (fun h=>?_) fun h1=>ax (p:=8≤n) rfl (fun h=>?_) fun h2=>af.2 ⟨aL (by omega),?_⟩
 ·exact au (by rw[aX (by omega)];rfl) (.ret _)
 ·exact au (by rw[aX (by omega)];rfl) (.ret _)
 ·exact au (by rw[aL (by omega)];rfl) (.ret _)
def OB:Int→Int:=Oa
def abf:aA:=⟨[yI], [yI],(@tt Int),OB⟩
theorem aeT:Sd 228 abf:=aS ar bR true 28 [] (fun A node=>Y3 A node) (fc Tryz.func228 fz) sz fun node hp h=>ahx
def XU(A:aI)(c:cq)(node:Int):LT Bool Empty:=.need (A.k (@tt Int) node) (.ret (A.c .neq (A.b .and .i64 c.2.2.2.2 (A.k OB node)) 0))
theorem ahI{x:Int}:ah.b .and .i64 x 0=0:=by
 show IntKind.i64.wrap (((BitVec.ofInt 64 x &&& BitVec.ofInt 64 0).toNat:Nat):Int)=0
 rw[show BitVec.ofInt 64 0=0#64 from rfl,BitVec.and_zero];rfl
def Kp(c:cq)(n:Int):Bool:=bif decide (0≤n∧n≤7) then ah.c .neq (ah.b .and .i64 c.2.2.2.2 (ah.b .shl .i64 1 n)) 0 else false
theorem adr{c:cq}{n:Int}:ay Empty.elim (XU ah c n) (Kp c n):=by
 unfold XU Kp
 refine af.2 ⟨rfl,au ?_ (.ret _)⟩
 rw[show ah.k OB n=Oa n from rfl,Oa]
 cases decide (0≤n∧n≤7)
 ·rw[cond_false,cond_false,ahI];rfl
 ·rfl
def OF:(cq×Int)→Bool:=fun(m,c)=>Kp m c
def ae4:aA:=⟨[ki,yI], [.bool],(@tt (cq×Int)),OF⟩
theorem aau:Sd 164 ae4:=aS ar bR true 21 [] (fun A (c,node)=>XU A c node) (fc Tryz.func164 fz) (sc aeT sz) fun(c,node) hp h=>adr
def Tv(A:aI)(m:ak)(id:Int):LT Int Empty:=.need (A.k (@tt (ak×Int)) (m,id)) (.ret (A.k UH (m,id)).1)
def uz:(ak×Int)→Int:=fun(m,id)=>(Tv ah m id).val (Ty.bi [yI])
def aa2:aA:=⟨[aN,yI], [yI],(@tt (ak×Int)),uz⟩
theorem FV:Sd 47 aa2:=aH ar bR true 27 [] (fun A (m,id)=>Tv A m id) (fc Tryz.func47 fz) (sc abm sz) (fun((m,id):ak×Int) hp h=>by
 show(Tv ah m id).pre=true
 simp[Tv,LT.pre,aB,dS])
def T8(A:aI)(m:ak)(id:Int):LT Int Empty:=.need (A.k (@tt (ak×Int)) (m,id)) (.ret (A.k BB (m,id)).1)
def N5:(ak×Int)→Int:=fun(m,id)=>(T8 ah m id).val (Ty.bi [yI])
def afC:aA:=⟨[aN,yI], [yI],(@tt (ak×Int)),N5⟩
theorem ady:Sd 295 afC:=aH ar bR true 27 [] (fun A (m,id)=>T8 A m id) (fc Tryz.func295 fz) (sc UU sz) (fun((m,id):ak×Int) hp h=>by
 show(T8 ah m id).pre=true
 simp[T8,LT.pre,aB,dS])
def Rz(A:aI)(n:Int)(least:Int)(most:Int):LT Bool Empty:=.br (A.c .geq n least) (.ret (A.c .leq n most)) (.ret false)
def uI:(Int×Int×Int)→Bool:=fun(n,least,most)=>(Rz ah n least most).val (Ty.bi [.bool])
def acW:aA:=⟨[yI,yI,yI], [.bool],(@tt (Int×Int×Int)),uI⟩
theorem JO:Sd 43 acW:=aH ar bR true 22 [] (fun A (n,least,most)=>Rz A n least most) (fc Tryz.func43 fz) sz (fun((n,least,most):Int×Int×Int) hp h=>by
 show(Rz ah n least most).pre=true
 simp[Rz,LT.pre,aB,dS])
def XJ(A:aI)(n:Node):LT Bool Empty:=.need (A.k (@tt (Int×Int×Int)) (n.2.1,2,4)) (.ret (A.k uI (n.2.1,2,4)))
theorem EH:uI=fE:=rfl
def jJ(n:Node):Bool:=decide (2≤n.2.1∧n.2.1≤4)
theorem ahw{n:Node}:ay Empty.elim (XJ ah n) (jJ n):=by
 unfold XJ jJ
 exact af.2 ⟨rfl,au (by rw[EH,aB,l_,Bool.eq_iff_iff];simp) (.ret _)⟩
def fq:Node→Bool:=jJ
def aft:aA:=⟨[aC], [.bool],(@tt Node),fq⟩
theorem rS:Sd 13 aft:=aS ar bR true 18 [] (fun A n=>XJ A n) (fc Tryz.func13 fz) (sc JO sz) fun n hp h=>ahw
def YZ(A:aI)(n:Node):LT Bool Empty:=.br (A.c .geq n.2.1 2) (.ret (A.c .leq n.2.1 4)) (.ret false)
theorem ag3{n:Node}:ay Empty.elim (YZ ah n) (jJ n):=by
 unfold YZ jJ
 refine ax (p:=2≤n.2.1) rfl (fun h=>?_) fun h=>?_
 ·exact au (by rw[ap,Bool.eq_iff_iff];simp;omega) (.ret _)
 ·exact au (aX (by omega)).symm (.ret _)
def NU:Node→Bool:=jJ
def acR:aA:=⟨[aC], [.bool],(@tt Node),NU⟩
theorem af1:Sd 75 acR:=aS ar bR true 23 [] (fun A n=>YZ A n) (fc Tryz.func75 fz) sz fun n hp h=>ag3
def W0(A:aI)(m:ak)(n:Node):LT Bool Empty:=.need (A.k (@tt Node) n) (.br (A.not (A.k NU n)) (.br (A.and (A.c .eql n.2.2.1.1 0) (A.and (A.c .eql n.2.2.1.2.1 0) (A.and (A.c .eql n.2.2.1.2.2.1 0) (A.and (A.c .eql n.2.2.1.2.2.2.1 0) (A.and (A.c .eql n.2.2.1.2.2.2.2 0) true))))) (.ret (A.and (A.c .eql n.2.2.2.1.1 0) (A.and (A.c .eql n.2.2.2.1.2.1 0) (A.and (A.c .eql n.2.2.2.1.2.2.1 0) (A.and (A.c .eql n.2.2.2.1.2.2.2.1 0) (A.and (A.c .eql n.2.2.2.1.2.2.2.2.1 0) (A.and (A.c .eql n.2.2.2.1.2.2.2.2.2.1 0) (A.and (A.c .eql n.2.2.2.1.2.2.2.2.2.2 0) true)))))))) (.ret false)) (.need (A.k (@tt (ak×cq)) (m,n.2.2.1)) (.br (A.k NM (m,n.2.2.1)) (.need (A.k (@tt ((Int×Int×Int×Int×Int×Int×Int))) n.2.2.2.1) (.br (A.c .eql (A.k mP n.2.2.2.1) 0) (.br (A.c .eql n.2.2.2.1.1 n.1) (.br (A.c .eql n.2.2.2.1.2.1 m.1) (.ret (A.c .eql n.2.2.1.2.2.2.2 n.2.2.2.1.2.2.1)) (.ret false)) (.ret false)) (.ret false))) (.ret false))))
def Fh(c:cq):Bool:=ah.and (ah.c .eql c.1 0) (ah.and (ah.c .eql c.2.1 0) (ah.and (ah.c .eql c.2.2.1 0) (ah.and (ah.c .eql c.2.2.2.1 0) (ah.and (ah.c .eql c.2.2.2.2 0) true))))
def zeroV(v:lQ):Bool:=ah.and (ah.c .eql v.1 0) (ah.and (ah.c .eql v.2.1 0) (ah.and (ah.c .eql v.2.2.1 0) (ah.and (ah.c .eql v.2.2.2.1 0) (ah.and (ah.c .eql v.2.2.2.2.1 0) (ah.and (ah.c .eql v.2.2.2.2.2.1 0) (ah.and (ah.c .eql v.2.2.2.2.2.2 0) true))))))
def ox(m:ak)(n:Node):Bool:=bif jJ n then(dL m n.2.2.1&&(decide (mP n.2.2.2.1=0)&&(decide (n.2.2.2.1.1=n.1)&&(decide (n.2.2.2.1.2.1=m.1)&&decide (n.2.2.1.2.2.2.2=n.2.2.2.1.2.2.1))))) else(Fh n.2.2.1&&zeroV n.2.2.2.1)
theorem agT{m:ak}{n:Node}:ay Empty.elim (W0 ah m n) (ox m n):=by
 unfold W0 ox
 refine af.2 ⟨rfl,?_⟩
 rw[show ah.k NU n=jJ n from rfl]
 cases jJ n
 ·refine(aj rfl).2 ?_
  rw[cond_false]
  cases hz:Fh n.2.2.1
  ·exact(ai hz).2 (.ret _)
  ·exact(aj hz).2 (.ret _)
 ·refine(ai rfl).2 (af.2 ⟨rfl,?_⟩)
  rw[show ah.k NM (m,n.2.2.1)=dL m n.2.2.1 from rfl,cond_true]
  cases dL m n.2.2.1
  ·exact(ai rfl).2 (.ret _)
  ·refine(aj rfl).2 (af.2 ⟨rfl,ax (p:=mP n.2.2.2.1=0) aM (fun h1=>ax (p:=n.2.2.2.1.1=n.1) aM (fun h2=>ax (p:=n.2.2.2.1.2.1=m.1) aM (fun h3=>?_) fun h=>?_) fun h=>?_) fun h=>?_⟩)
   ·exact au (by rw[aL h1,aL h2,aL h3,aM];rfl) (.ret _)
   ·exact au (by rw[aL h1,aL h2,aX h];rfl) (.ret _)
   ·exact au (by rw[aL h1,aX h];rfl) (.ret _)
   ·exact au (by rw[aX h];rfl) (.ret _)
def UG:(ak×Node)→Bool:=fun(m,n)=>ox m n
def acE:aA:=⟨[aN,aC], [.bool],(@tt (ak×Node)),UG⟩
theorem afg:Sd 71 acE:=aS ar bR true 60 [] (fun A (m,n)=>W0 A m n) (fc Tryz.func71 fz) (sc af6 (sc af1 (sc aaC sz))) fun(m,n) hp h=>agT
def WO(A:aI)(m:ak)(n:Node):LT Bool Empty:=.br (A.c .neq n.2.1 1) (.ret (A.c .eql n.2.2.2.2.1 0)) (.need (A.k (@tt (ak×Int)) (m,n.1)) (.br (A.c .geq n.2.2.2.2.1 1) (.ret (A.c .leq n.2.2.2.2.1 (A.k QL (m,n.1)).1)) (.ret false)))
def qi(m:ak)(n:Node):Bool:=bif decide (n.2.1=1) then decide (1≤n.2.2.2.2.1∧n.2.2.2.2.1≤(mC m n.1).1) else decide (n.2.2.2.2.1=0)
theorem ahH{m:ak}{n:Node}:ay Empty.elim (WO ah m n) (qi m n):=by
 unfold WO qi
 refine ax (p:=¬n.2.1=1) aQ (fun h=>?_) fun h=>af.2 ⟨rfl,?_⟩
 ·exact au (by rw[aX h,aM];rfl) (.ret _)
 ·rw[aL (show n.2.1=1 by omega),show ah.k QL (m,n.1)=mC m n.1 from rfl,cond_true]
  refine ax (p:=1≤n.2.2.2.2.1) rfl (fun h1=>?_) fun h1=>?_
  ·exact au (by rw[ap,Bool.eq_iff_iff];simp;omega) (.ret _)
  ·exact au (aX (by omega)).symm (.ret _)
def U4:(ak×Node)→Bool:=fun(m,n)=>qi m n
def aej:aA:=⟨[aN,aC], [.bool],(@tt (ak×Node)),U4⟩
theorem abe:Sd 72 aej:=aS ar bR true 46 [] (fun A (m,n)=>WO A m n) (fc Tryz.func72 fz) (sc afH sz) fun(m,n) hp h=>ahH
abbrev L6(A:aI)(m:ak)(n:Node):LT Int Empty:=(.need (A.k (@tt (ak×Node)) (m,n)) (.br (A.not (A.k UG (m,n))) (.ret 180) (.need (A.k (@tt (ak×Node)) (m,n)) (.br (A.not (A.k U4 (m,n))) (.ret 180) (.br n.2.2.2.2.2.1 (.br (A.c .neq n.2.1 1) (.br (A.c .neq n.2.1 2) (.ret 180) (.ret 0)) (.ret 0)) (.ret 0))))))
def Zw(A:aI)(m:ak)(n:Node):LT Int Empty:=.need (A.k (@tt ak) m) (.br (A.c .neq (A.k za m) 0) (.ret (A.k za m)) (.br (A.c .lss n.1 0) (.ret 180) (.br (A.c .geq n.1 m.1) (.ret 180) (.br (A.c .lss n.2.1 0) (.ret 180) (.br (A.c .gtr n.2.1 5) (.ret 180) (.br (A.c .lss n.2.2.2.2.2.2.1 0) (.ret 180) (.br (A.c .gtr n.2.2.2.2.2.2.1 2) (.ret 180) (.need (A.k (@tt cy) n.2.2.2.2.2.2.2) (.br (A.c .neq (A.k VA n.2.2.2.2.2.2.2) 0) (.ret 180) (.br (A.c .neq n.2.2.2.2.2.2.2.1 n.1) (.ret 180) (.br (A.c .neq (A.l n.2.2.2.2.2.2.2.2.2.1) m.1) (.ret 180) (.br (A.c .eql n.2.1 2) (.need (A.and (A.c .leq 0 n.1) (A.c .lss n.1 (A.l m.2.2.2.2.2.2.1))) (.br (A.not (A.n .bool m.2.2.2.2.2.2.1 n.1:Bool)) (.ret 180) (L6 A m n))) (L6 A m n)))))))))))))
def Ct(m:ak)(n:Node):Bool:=bif decide (n.2.1=2) then(ah.n .bool m.2.2.2.2.2.2.1 n.1:Bool) else true
def w8(n:Node):Bool:=bif n.2.2.2.2.2.1 then decide (n.2.1=1∨n.2.1=2) else true
def F2(m:ak)(n:Node):Bool:=decide (0≤n.1∧n.1≤m.1-1)&&(decide (0≤n.2.1∧n.2.1≤5)&&(decide (0≤n.2.2.2.2.2.2.1∧n.2.2.2.2.2.2.1≤2)&&(cK n.2.2.2.2.2.2.2&&(decide (n.2.2.2.2.2.2.2.1=n.1)&&(decide ((n.2.2.2.2.2.2.2.2.2.1.length:Int)=m.1)&&(Ct m n&&(ox m n&&(qi m n&&w8 n))))))))
def bf(m:ak)(n:Node):Int:=bif c_ m then(bif F2 m n then 0 else 180) else 70
theorem bT{m:ak}{n:Node}:F2 m n=true↔(0≤n.1∧n.1≤m.1-1)∧(0≤n.2.1∧n.2.1≤5)∧(0≤n.2.2.2.2.2.2.1∧n.2.2.2.2.2.2.1≤2)∧cK n.2.2.2.2.2.2.2=true∧n.2.2.2.2.2.2.2.1=n.1∧(n.2.2.2.2.2.2.2.2.2.1.length:Int)=m.1∧Ct m n=true∧ox m n=true∧qi m n=true∧w8 n=true:=by
 unfold F2;simp only[ck,jN]
theorem aZ{m:ak}{n:Node}(h:bf m n=0):c_ m=true∧F2 m n=true:=by
 unfold bf at h
 cases hm:c_ m
 ·rw[hm,cond_false] at h;exact absurd h (by decide)
 ·cases hn:F2 m n
  ·rw[hm,hn,cond_true,cond_false] at h;exact absurd h (by decide)
  ·exact⟨rfl,rfl⟩
section
variable {R Y:Type} {step:Y→LT R Y} {e:LT R Y} {x y:R} {G:Bool}
theorem gL{p:Prop}[Decidable p]{b:Bool}(hb:b=decide p)(h:G=true→¬p)(he:¬p→ay step e (bif G then x else y)):ay step (.br b (.ret y) e) (bif G then x else y):=by
 refine ax hb (fun hp=>?_) he
 cases G
 ·exact .ret _
 ·exact absurd hp (h rfl)
theorem qZ{b:Bool}(h:G=true→b=true)(he:b=true→ay step e (bif G then x else y)):ay step (.br (ah.not b) (.ret y) e) (bif G then x else y):=by
 cases b
 ·cases G
  ·exact(aj rfl).2 (.ret _)
  ·exact absurd (h rfl) (by decide)
 ·exact(ai rfl).2 (he rfl)
theorem xJ{u a b:Int}(h:G=true→a≤u∧u≤b)(he:a≤u∧u≤b→ay step e (bif G then x else y)):ay step (.br (ah.not (ah.k fE (u,a,b))) (.ret y) e) (bif G then x else y):=by
 refine dT (fun hp=>?_) he
 cases G
 ·exact .ret _
 ·exact absurd (h rfl) hp
theorem Dj(h:G=true):ay step (.ret x) (bif G then x else y):=au (by rw[h];rfl) (.ret _)
end
theorem UW{Y:Type}{step:Y→LT Int Y}{n:Node}{G:Bool}(h1:G=true→w8 n=true)(h2:w8 n=true→G=true):ay step (.br n.2.2.2.2.2.1 (.br (ah.c .neq n.2.1 1) (.br (ah.c .neq n.2.1 2) (.ret 180) (.ret 0)) (.ret 0)) (.ret 0)) (bif G then 0 else 180):=by
 unfold w8 at h1 h2
 cases hb:n.2.2.2.2.2.1
 ·rw[hb] at h1 h2
  exact(ai rfl).2 (Dj (h2 rfl))
 ·rw[hb] at h1 h2
  simp only[cond_true,jN] at h1 h2
  refine(aj rfl).2 (ax (p:=¬n.2.1=1) aQ (fun h=>gL (p:=¬n.2.1=2) aQ (fun g=>?_) fun g=>?_) fun h=>?_)
  ·have:=h1 g;omega
  ·exact Dj (h2 (by omega))
  ·exact Dj (h2 (by omega))
theorem Mh{R Y:Type}{step:Y→LT R Y}{m:ak}{n:Node}{G:Bool}{e:LT R Y}{x y:R}(hm:c_ m=true)(hi:0≤n.1∧n.1≤m.1-1)(h1:G=true→Ct m n=true)(h2:Ct m n=true→ay step e (bif G then x else y)) :
  ay step (.br (ah.c .eql n.2.1 2) (.need (ah.and (ah.c .leq 0 n.1) (ah.c .lss n.1 (ah.l m.2.2.2.2.2.2.1))) (.br (ah.not (ah.n .bool m.2.2.2.2.2.2.1 n.1:Bool)) (.ret y) e)) e) (bif G then x else y):=by
 unfold Ct at h1 h2
 refine ax (p:=n.2.1=2) aM (fun h=>af.2 ⟨q_ (cX hm).2.2.1 hi.1 (by omega),?_⟩) fun h=>?_
 ·rw[aL h] at h1 h2
  exact qZ h1 h2
 ·rw[aX h] at h2
  exact h2 rfl
theorem ZQ{m:ak}{n:Node}:ay Empty.elim (Zw ah m n) (bf m n):=by
 unfold Zw L6 bf
 refine af.2 ⟨rfl,?_⟩
 rw[show ah.k za m=iV m from rfl,iV]
 cases hm:c_ m
 ·exact(aj rfl).2 (.ret _)
 have hG:=@bT m n
 rw[cond_true]
 generalize F2 m n=G at hG ⊢
 refine(ai rfl).2 (gL (p:=n.1<0) rfl (fun g=>by have:=hG.1 g;omega) fun h1=>gL (p:=m.1≤n.1) rfl (fun g=>by have:=hG.1 g;omega) fun h2=>?_)
 refine gL (p:=n.2.1<0) rfl (fun g=>by have:=hG.1 g;omega) fun h3=>gL (p:=5<n.2.1) rfl (fun g=>by have:=hG.1 g;omega) fun h4=>?_
 refine gL (p:=n.2.2.2.2.2.2.1<0) rfl (fun g=>by have:=hG.1 g;omega) fun h5=>gL (p:=2<n.2.2.2.2.2.2.1) rfl (fun g=>by have:=hG.1 g;omega) fun h6=>af.2 ⟨rfl,?_⟩
 refine gL (p:=¬oE n.2.2.2.2.2.2.2=0) aQ (fun g=>not_not_intro (qV.2 (hG.1 g).2.2.2.1)) fun h7=>?_
 refine gL (p:=¬n.2.2.2.2.2.2.2.1=n.1) aQ (fun g=>by have:=hG.1 g;omega) fun h8=>?_
 refine gL (p:=¬(n.2.2.2.2.2.2.2.2.2.1.length:Int)=m.1) aQ (fun g=>by have:=hG.1 g;omega) fun h9=>?_
 refine Mh hm (by omega) (fun g=>(hG.1 g).2.2.2.2.2.2.1) fun hc=>af.2 ⟨rfl,qZ (b:=ox m n) (fun g=>(hG.1 g).2.2.2.2.2.2.2.1) fun hd=>af.2 ⟨rfl,qZ (b:=qi m n) (fun g=>(hG.1 g).2.2.2.2.2.2.2.2.1) fun he=>?_⟩⟩
 exact UW (fun g=>(hG.1 g).2.2.2.2.2.2.2.2.2) fun hb=>hG.2 ⟨by omega,by omega,by omega,qV.1 (Decidable.not_not.1 h7),by omega,by omega,hc,hd,he,hb⟩
def Vq:(ak×Node)→Int:=fun(m,n)=>bf m n
def acx:aA:=⟨[aN,aC], [yI],(@tt (ak×Node)),Vq⟩
theorem aeW:Sd 30 acx:=aS ar bR true 137 [] (fun A (m,n)=>Zw A m n) (fc Tryz.func30 fz) (sc Vf (sc ac0 (sc afg (sc abe sz)))) fun(m,n) hp h=>ZQ
structure My where
 (a0:ak) (a1:Node)
structure WU where
 (b0:ak) (b1:Node)
structure Wx where
 (c0:Node)
inductive Tq where
 | c0 (p:My)
 | c1 (p:WU)
 | c2 (p:Wx)
noncomputable def WY:Tq→eT
 | .c0 p=>⟨[⟨12,160,(en [(2,.ptr 0 0),(3,.ptr 1 0)]),[.code (cw Tryz.f12 [1,1,1,0,0,0,0,0,0,0,0,0,1,0,0]),.code (cw Tryz.f12 [1,1,1,0,0,0,0,0,0,0,0,0,1,0,1]),.code (cw Tryz.f12 [1,1,1,0,0,0,0,0,0,0,0,0,1,1]),.code (.exit 3),.inBlock 4,.inBlock 5,.inBlock 6,.inBlock 7,.inBlock 8,.code (cw Tryz.f12 [1,1,1,0,0,1]),.inBlock 3,.code (cw Tryz.f12 [1,1,1,1])],[],none⟩],[.flat false (dc aN p.a0),.flat false (dc aC p.a1),.dead]⟩
 | .c1 p=>⟨[⟨12,160,(en [(2,.ptr 0 0),(3,.ptr 1 0)]),[.code (cw Tryz.f12 [1,1,1,0,0,0,0,0,0,0,0,0,1,1,1,0,0]),.code (cw Tryz.f12 [1,1,1,0,0,0,0,0,0,0,0,0,1,1,1,0,1]),.code (cw Tryz.f12 [1,1,1,0,0,0,0,0,0,0,0,0,1,1,1,1]),.code (.exit 3),.inBlock 4,.inBlock 5,.inBlock 6,.inBlock 7,.inBlock 8,.code (cw Tryz.f12 [1,1,1,0,0,1]),.inBlock 3,.code (cw Tryz.f12 [1,1,1,1])],[],none⟩],[.flat false (dc aN p.b0),.flat false (dc aC p.b1),.dead]⟩
 | .c2 p=>⟨[⟨12,160,(en [(3,.ptr 0 0)]),[.code (cw Tryz.f12 [1,1,1,0,0,0,0,0,0,0,0,0,1,1,1,1,0]),.code (cw Tryz.f12 [1,1,1,0,0,0,0,0,0,0,0,0,1,1,1,1,1]),.code (.exit 3),.inBlock 4,.inBlock 5,.inBlock 6,.inBlock 7,.inBlock 8,.code (cw Tryz.f12 [1,1,1,0,0,1]),.inBlock 3,.code (cw Tryz.f12 [1,1,1,1])],[],none⟩],[.flat false (dc aC p.c0),.dead]⟩
def Yi(A:aI)(m:ak)(n:Node):LT Int Tq:=.need (A.k (@tt ak) m) (.br (A.c .neq (A.k iJ m) 0) (.ret (A.k iJ m)) (.need (A.k (@tt (Int×Int×Int)) (n.1,0,(A.b .sub .i64 m.1 1))) (.br (A.not (A.k uI (n.1,0,(A.b .sub .i64 m.1 1)))) (.ret 180) (.need (A.k (@tt (Int×Int×Int)) (n.2.1,0,5)) (.br (A.not (A.k uI (n.2.1,0,5))) (.ret 180) (.need (A.k (@tt (Int×Int×Int)) (n.2.2.2.2.2.2.1,0,2)) (.br (A.not (A.k uI (n.2.2.2.2.2.2.1,0,2))) (.ret 180) (.need (A.k (@tt cy) n.2.2.2.2.2.2.2) (.br (A.c .neq (A.k kZ n.2.2.2.2.2.2.2) 0) (.ret 180) (.br (A.c .neq n.2.2.2.2.2.2.2.1 n.1) (.ret 180) (.br (A.c .neq (A.l n.2.2.2.2.2.2.2.2.2.1) m.1) (.ret 180) (.need (A.k (@tt Node) n) (.br (A.k fq n) (.need (A.k (@tt (ak×cq)) (m,n.2.2.1)) (.br (A.not (A.k JW (m,n.2.2.1))) (.ret 180) (.need (A.k (@tt ((Int×Int×Int×Int×Int×Int×Int))) n.2.2.2.1) (.br (A.c .neq (A.k lw n.2.2.2.1) 0) (.ret 180) (.br (A.c .neq n.2.2.2.1.1 n.1) (.ret 180) (.br (A.c .neq n.2.2.2.1.2.1 m.1) (.ret 180) (.br (A.c .neq n.2.2.1.2.2.2.2 n.2.2.2.1.2.2.1) (.ret 180) (.more (.c0 ⟨m,n⟩))))))))) (.more (.c0 ⟨m,n⟩)))))))))))))))
def Du(A:aI):Tq→LT Int Tq
 | .c0 p=>.need (A.k (@tt Node) p.a1) (.br (A.not (A.k fq p.a1)) (.br (A.not (A.and (A.c .eql p.a1.2.2.1.1 0) (A.and (A.c .eql p.a1.2.2.1.2.1 0) (A.and (A.c .eql p.a1.2.2.1.2.2.1 0) (A.and (A.c .eql p.a1.2.2.1.2.2.2.1 0) (A.and (A.c .eql p.a1.2.2.1.2.2.2.2 0) true)))))) (.ret 180) (.br (A.not (A.and (A.c .eql p.a1.2.2.2.1.1 0) (A.and (A.c .eql p.a1.2.2.2.1.2.1 0) (A.and (A.c .eql p.a1.2.2.2.1.2.2.1 0) (A.and (A.c .eql p.a1.2.2.2.1.2.2.2.1 0) (A.and (A.c .eql p.a1.2.2.2.1.2.2.2.2.1 0) (A.and (A.c .eql p.a1.2.2.2.1.2.2.2.2.2.1 0) (A.and (A.c .eql p.a1.2.2.2.1.2.2.2.2.2.2 0) true)))))))) (.ret 180) (.br (A.c .eql p.a1.2.1 2) (.need (A.and (A.c .leq 0 p.a1.1) (A.c .lss p.a1.1 (A.l p.a0.2.2.2.2.2.2.1))) (.br (A.not (A.n .bool p.a0.2.2.2.2.2.2.1 p.a1.1:Bool)) (.ret 180) (.more (.c1 ⟨p.a0,p.a1⟩)))) (.more (.c1 ⟨p.a0,p.a1⟩))))) (.br (A.c .eql p.a1.2.1 2) (.need (A.and (A.c .leq 0 p.a1.1) (A.c .lss p.a1.1 (A.l p.a0.2.2.2.2.2.2.1))) (.br (A.not (A.n .bool p.a0.2.2.2.2.2.2.1 p.a1.1:Bool)) (.ret 180) (.more (.c1 ⟨p.a0,p.a1⟩)))) (.more (.c1 ⟨p.a0,p.a1⟩))))
 | .c1 p=>.br (A.c .eql p.b1.2.1 1) (.need (A.k (@tt (ak×Int)) (p.b0,p.b1.1)) (.need (A.k (@tt (Int×Int×Int)) (p.b1.2.2.2.2.1,1,(A.k uz (p.b0,p.b1.1)))) (.br (A.not (A.k uI (p.b1.2.2.2.2.1,1,(A.k uz (p.b0,p.b1.1))))) (.ret 180) (.br (A.c .neq p.b1.2.1 1) (.br (A.c .neq p.b1.2.2.2.2.1 0) (.ret 180) (.more (.c2 ⟨p.b1⟩))) (.more (.c2 ⟨p.b1⟩)))))) (.br (A.c .neq p.b1.2.1 1) (.br (A.c .neq p.b1.2.2.2.2.1 0) (.ret 180) (.more (.c2 ⟨p.b1⟩))) (.more (.c2 ⟨p.b1⟩)))
 | .c2 p=>.br p.c0.2.2.2.2.2.1 (.br (A.c .neq p.c0.2.1 1) (.br (A.c .neq p.c0.2.1 2) (.ret 180) (.ret 0)) (.ret 0)) (.ret 0)
theorem J9{m:ak}{n:Node}{G:Bool}(h0:G=true→qi m n=true∧w8 n=true)(h2:qi m n=true→w8 n=true→G=true):ay (Du ah) (.more (.c1 ⟨m,n⟩)) (bif G then 0 else 180):=by
 have hb:qi m n=true→ay (Du ah) (.more (.c2 ⟨n⟩)) (bif G then 0 else 180):=fun ht=>by
  rw[al,Du]
  exact UW (fun g=>(h0 g).2) (h2 ht)
 rw[al,Du]
 have ht:=fun g=>(h0 g).1
 unfold qi at ht hb
 rw[EH]
 refine ax (p:=n.2.1=1) aM (fun h=>?_) fun h=>?_
 ·rw[aL h,cond_true] at ht hb
  refine af.2 ⟨rfl,af.2 ⟨rfl,xJ (fun g=>of_decide_eq_true (ht g)) fun h1=>?_⟩⟩
  exact ax (p:=¬n.2.1=1) aQ (fun k=>absurd h k) fun _=>hb (aL h1)
 ·rw[aX h,cond_false] at ht hb
  exact ax (p:=¬n.2.1=1) aQ (fun _=>gL (p:=¬n.2.2.2.2.1=0) aQ (fun g=>not_not_intro (of_decide_eq_true (ht g))) fun h1=>hb (aL (Decidable.not_not.1 h1))) fun k=>absurd h k
theorem R2{m:ak}{n:Node}{G:Bool}(hm:c_ m=true)(hi:0≤n.1∧n.1≤m.1-1)(h1:jJ n=true→ox m n=true)(h0:G=true→Ct m n=true∧ox m n=true∧qi m n=true∧w8 n=true)(h2:Ct m n=true→ox m n=true→qi m n=true→w8 n=true→G=true):ay (Du ah) (.more (.c0 ⟨m,n⟩)) (bif G then 0 else 180):=by
 rw[al,Du]
 refine af.2 ⟨rfl,?_⟩
 rw[show ah.k fq (⟨m,n⟩:My).a1=jJ n from rfl]
 have hc:=fun g=>(h0 g).2.1
 unfold ox at hc h1 h2
 cases hn:jJ n
 ·rw[hn,cond_false] at hc h2
  refine(aj rfl).2 (qZ (b:=Fh n.2.2.1) (fun g=>?_) fun z1=>qZ (b:=zeroV n.2.2.2.1) (fun g=>?_) fun z2=>?_)
  ·exact(ck _ _▸hc g).1
  ·exact(ck _ _▸hc g).2
  ·exact Mh hm hi (fun g=>(h0 g).1) fun k=>J9 (fun g=>(h0 g).2.2) fun a b=>h2 k (by rw[z1,z2];rfl) a b
 ·rw[hn,cond_true] at hc h1 h2
  exact(ai rfl).2 (Mh hm hi (fun g=>(h0 g).1) fun k=>J9 (fun g=>(h0 g).2.2) fun a b=>h2 k (h1 rfl) a b)
theorem Z7{m:ak}{n:Node}:ay (Du ah) (Yi ah m n) (bf m n):=by
 unfold Yi bf
 refine af.2 ⟨rfl,?_⟩
 rw[show ah.k iJ m=iV m from rfl,iV]
 cases hm:c_ m
 ·exact(aj rfl).2 (.ret _)
 have hG:=@bT m n
 have hl:=(cX hm).1
 rw[cond_true,EH,cn,iU (by omega) (by omega)]
 generalize F2 m n=G at hG ⊢
 refine(ai rfl).2 (af.2 ⟨rfl,xJ (fun g=>(hG.1 g).1) fun h1=>af.2 ⟨rfl,xJ (fun g=>(hG.1 g).2.1) fun h2=>af.2 ⟨rfl,xJ (fun g=>(hG.1 g).2.2.1) fun h3=>af.2 ⟨rfl,?_⟩⟩⟩⟩)
 refine gL (p:=¬oE n.2.2.2.2.2.2.2=0) aQ (fun g=>not_not_intro (qV.2 (hG.1 g).2.2.2.1)) fun h7=>?_
 refine gL (p:=¬n.2.2.2.2.2.2.2.1=n.1) aQ (fun g=>by have:=hG.1 g;omega) fun h8=>?_
 refine gL (p:=¬(n.2.2.2.2.2.2.2.2.2.1.length:Int)=m.1) aQ (fun g=>by have:=hG.1 g;omega) fun h9=>af.2 ⟨rfl,?_⟩
 have fin:(jJ n=true→ox m n=true)→ay (Du ah) (.more (.c0 ⟨m,n⟩)) (bif G then 0 else 180):=fun h=>R2 hm h1 h (fun g=>(hG.1 g).2.2.2.2.2.2) fun a b c d=>hG.2 ⟨h1,h2,h3,qV.1 (Decidable.not_not.1 h7),by omega,by omega,a,b,c,d⟩
 rw[show ah.k fq n=jJ n from rfl]
 have hc:=fun g=>(hG.1 g).2.2.2.2.2.2.2.1
 unfold ox at hc fin
 cases hn:jJ n
 ·exact(ai rfl).2 (fin fun k=>absurd (hn.symm.trans k) (by decide))
 ·rw[hn,cond_true] at hc
  simp only[hn,cond_true,ck,jN] at hc fin
  refine(aj rfl).2 (af.2 ⟨rfl,qZ (b:=dL m n.2.2.1) (fun g=>(hc g).1) fun k1=>af.2 ⟨rfl,?_⟩⟩)
  rw[aB,chk]
  refine gL (p:=¬mP n.2.2.2.1=0) aQ (fun g=>not_not_intro (hc g).2.1) fun k2=>?_
  refine gL (p:=¬n.2.2.2.1.1=n.1) aQ (fun g=>not_not_intro (hc g).2.2.1) fun k3=>?_
  refine gL (p:=¬n.2.2.2.1.2.1=m.1) aQ (fun g=>not_not_intro (hc g).2.2.2.1) fun k4=>?_
  refine gL (p:=¬n.2.2.1.2.2.2.2=n.2.2.2.1.2.2.1) aQ (fun g=>not_not_intro (hc g).2.2.2.2) fun k5=>?_
  exact fin fun _=>⟨k1,Decidable.not_not.1 k2,Decidable.not_not.1 k3,Decidable.not_not.1 k4,Decidable.not_not.1 k5⟩
def IR:(ak×Node)→Int:=fun(m,n)=>bf m n
def aa3:aA:=⟨[aN,aC], [yI],(@tt (ak×Node)),IR⟩
theorem adp:Sd 12 aa3:=aT ar bR true 151 [] [⟨12,8, [[2,3]]⟩,⟨12,10, [[2,3]]⟩,⟨12,11, [[3]]⟩] (fun A (m,n)=>Yi A m n) Du WY (fc Tryz.func12 fz) (sc Hd (sc BR (sc rS (sc FV (sc JO (sc Bg (sc VK sz))))))) (fun A y=>match y with |.c0 p=>⟨51,by kernel_rfl,by kernel_rfl⟩|.c1 p=>⟨39,by kernel_rfl,by kernel_rfl⟩|.c2 p=>⟨27,by kernel_rfl,by kernel_rfl⟩) fun(m,n) hp h=>Z7
def YI(A:aI)(m:ak)(id:Int):LT (Node×Int) Empty:=.need (A.k (@tt ak) m) (.br (A.c .neq (A.k iJ m) 0) (.ret ((0,0,(0,0,0,0,0),(0,0,0,0,0,0,0),0,false,0,0,([]:List Int),([]:List dp),0,0),(A.k iJ m))) (.need (A.k (@tt (Int×Int)) (id,m.1)) (.br (A.c .neq (A.k JK (id,m.1)).2 0) (.ret ((0,0,(0,0,0,0,0),(0,0,0,0,0,0,0),0,false,0,0,([]:List Int),([]:List dp),0,0),2)) (.ret ((id,0,(0,0,0,0,0),(0,0,0,0,0,0,0),0,false,0,(A.k JK (id,m.1)).1),0)))))
def eY:Node:=(0,0,(0,0,0,0,0),(0,0,0,0,0,0,0),0,false,0,0,([]:List Int),([]:List dp),0,0)
def jA(m:ak)(id:Int):Node×Int:=bif c_ m then(bif decide (0≤id∧id≤m.1-1) then((id,0,(0,0,0,0,0),(0,0,0,0,0,0,0),0,false,0,id,([]:List Int),List.replicate m.1.toNat ve,4,(-1)),0) else(eY,2)) else(eY,70)
theorem ZZ{m:ak}{id:Int}:ay Empty.elim (YI ah m id) (jA m id):=by
 unfold YI jA
 refine af.2 ⟨rfl,?_⟩
 rw[show ah.k iJ m=iV m from rfl,iV]
 cases hm:c_ m
 ·exact(aj rfl).2 (.ret _)
 refine(ai rfl).2 (af.2 ⟨rfl,?_⟩)
 rw[show ah.k JK (id,m.1)=ON id m.1 from rfl,ON,aL (cX hm).1,cond_true,cond_true]
 cases decide (0≤id∧id≤m.1-1)
 ·exact(aj rfl).2 (.ret _)
 ·exact(ai rfl).2 (.ret _)
def cO:(ak×Int)→(Node×Int):=fun(m,n)=>jA m n
def afd:aA:=⟨[aN,yI], [aC,yI],(@tt (ak×Int)),cO⟩
theorem Vz:Sd 38 afd:=aS ar bR true 55 [] (fun A (m,id)=>YI A m id) (fc Tryz.func38 fz) (sc BR (sc abT sz)) fun(m,id) hp h=>ZZ
def Y7(A:aI)(m:ak)(n:Node)(when:Bool):LT (Node×Int) Empty:=.need (A.k (@tt (ak×Node)) (m,n)) (.br (A.c .neq (A.k IR (m,n)) 0) (.ret ((0,0,(0,0,0,0,0),(0,0,0,0,0,0,0),0,false,0,0,([]:List Int),([]:List dp),0,0),(A.k IR (m,n)))) (.br (A.not when) (.ret ((0,0,(0,0,0,0,0),(0,0,0,0,0,0,0),0,false,0,0,([]:List Int),([]:List dp),0,0),181)) (.need (A.k (@tt (cy×List Int)) (n.2.2.2.2.2.2.2,n.2.2.2.2.2.2.2.2.1)) (.ret ((n.1,n.2.1,n.2.2.1,n.2.2.2.1,n.2.2.2.2.1,n.2.2.2.2.2.1,n.2.2.2.2.2.2.1,(A.k y7 (n.2.2.2.2.2.2.2,n.2.2.2.2.2.2.2.2.1)).1),(A.k y7 (n.2.2.2.2.2.2.2,n.2.2.2.2.2.2.2.2.1)).2)))))
def ia(m:ak)(n:Node)(w:Bool):Node×Int:=bif decide (bf m n=0) then(bif w then(n,0) else(eY,181)) else(eY,bf m n)
theorem qT{m:ak}{n:Node}(h:bf m n=0):cK n.2.2.2.2.2.2.2=true:=(bT.1 (aZ h).2).2.2.2.1
theorem SS{c:cy}(h:cK c=true):¬8<(c.2.1.length:Int):=by
 simp only[cK,ck,jN] at h
 exact h.2.2.1
theorem aez{m:ak}{n:Node}{w:Bool}:ay Empty.elim (Y7 ah m n w) (ia m n w):=by
 unfold Y7 ia
 refine af.2 ⟨rfl,?_⟩
 rw[show ah.k IR (m,n)=bf m n from rfl]
 by_cases h:bf m n=0
 ·rw[aL h]
  refine(ai (AN h)).2 ?_
  cases w
  ·exact(aj rfl).2 (.ret _)
  ·refine(ai rfl).2 (af.2 ⟨rfl,?_⟩)
   rw[show ah.k y7 (n.2.2.2.2.2.2.2,n.2.2.2.2.2.2.2.2.1)=LC n.2.2.2.2.2.2.2 n.2.2.2.2.2.2.2.2.1 from rfl,LC,qT h,aX (SS (qT h))]
   exact .ret _
 ·rw[aX h];exact(aj (qH h)).2 (.ret _)
def gq:(ak×Node×Bool)→(Node×Int):=fun(m,c,k)=>ia m c k
def aa5:aA:=⟨[aN,aC,.bool], [aC,yI],(@tt (ak×Node×Bool)),gq⟩
theorem wX:Sd 48 aa5:=aS ar bR true 64 [] (fun A (m,n,when)=>Y7 A m n when) (fc Tryz.func48 fz) (sc adp (sc VB sz)) fun(m,n,when) hp h=>aez
abbrev uC(A:aI)(m:ak)(n:Node):=(A.k gq (m,n,(A.c .eql n.2.1 0)))
abbrev tX(A:aI)(m:ak)(n:Node):=(A.k gq (m,n,true))
def ZI(A:aI)(m:ak)(n:Node)(on:Bool):LT (Node×Int) Empty:=.br (A.not on) (.need (A.k (@tt (ak×Node×Bool)) (m,n,true)) (.br (A.c .neq (tX A m n).2 0) (.ret ((0,0,(0,0,0,0,0),(0,0,0,0,0,0,0),0,false,0,0,([]:List Int),([]:List dp),0,0),(tX A m n).2)) (.br (A.not on) (.need (A.k (@tt (ak×Int)) (m,(tX A m n).1.1)) (.ret (A.k cO (m,(tX A m n).1.1)))) (.need (A.k (@tt (ak×Int)) (m,(tX A m n).1.1)) (.ret (((tX A m n).1.1,1,(0,0,0,0,0),(0,0,0,0,0,0,0),(A.k uz (m,(tX A m n).1.1)),(tX A m n).1.2.2.2.2.2),0)))))) (.need (A.k (@tt (ak×Node×Bool)) (m,n,(A.c .eql n.2.1 0))) (.br (A.c .neq (uC A m n).2 0) (.ret ((0,0,(0,0,0,0,0),(0,0,0,0,0,0,0),0,false,0,0,([]:List Int),([]:List dp),0,0),(uC A m n).2)) (.br (A.not on) (.need (A.k (@tt (ak×Int)) (m,(uC A m n).1.1)) (.ret (A.k cO (m,(uC A m n).1.1)))) (.need (A.k (@tt (ak×Int)) (m,(uC A m n).1.1)) (.ret (((uC A m n).1.1,1,(0,0,0,0,0),(0,0,0,0,0,0,0),(A.k uz (m,(uC A m n).1.1)),(uC A m n).1.2.2.2.2.2),0))))))
theorem Nq{c:cq}(h:Fh c=true):c=(0,0,0,0,0):=by
 obtain⟨a,b,d,e,f⟩:=c
 simp[Fh,aK,aD] at h
 obtain⟨rfl,rfl,rfl,rfl,rfl⟩:=h
 rfl
theorem O3{c:lQ}(h:zeroV c=true):c=(0,0,0,0,0,0,0):=by
 obtain⟨a,b,d,e,f,g,i⟩:=c
 simp[zeroV,aK,aD] at h
 obtain⟨rfl,rfl,rfl,rfl,rfl,rfl,rfl⟩:=h
 rfl
theorem Jt{m:ak}{n:Node}(h:bf m n=0)(h2:¬(2≤n.2.1∧n.2.1≤4)):n.2.2.1=(0,0,0,0,0)∧n.2.2.2.1=(0,0,0,0,0,0,0):=by
 have hc:=(bT.1 (aZ h).2).2.2.2.2.2.2.2.1
 rw[ox,jJ,aX h2,cond_false,ck] at hc
 exact⟨Nq hc.1,O3 hc.2⟩
theorem I8{m:ak}{n:Node}(h:bf m n=0)(h2:¬n.2.1=1):n.2.2.2.2.1=0:=by
 have hc:=(bT.1 (aZ h).2).2.2.2.2.2.2.2.2.1
 rw[qi,aX h2] at hc
 exact of_decide_eq_true hc
def lX(m:ak)(n:Node)(on:Bool):Node×Int:=bif decide (bf m n=0) then(bif on then(bif decide (n.2.1=0) then((n.1,1,(0,0,0,0,0),(0,0,0,0,0,0,0),(mC m n.1).1,n.2.2.2.2.2),0) else(eY,181)) else jA m n.1) else(eY,bf m n)
theorem abo{m:ak}{n:Node}{on:Bool}:ay Empty.elim (ZI ah m n on) (lX m n on):=by
 unfold ZI tX uC lX
 rw[show ah.k gq (m,n,true)=ia m n true from rfl,show ah.k gq (m,n,ah.c .eql n.2.1 0)=ia m n (ah.c .eql n.2.1 0) from rfl,aM,ia,ia]
 by_cases h:bf m n=0
 ·rw[aL h]
  cases on
  ·exact(aj rfl).2 (af.2 ⟨rfl,(ai rfl).2 ((aj rfl).2 (af.2 ⟨rfl,.ret _⟩))⟩)
  ·refine(ai rfl).2 (af.2 ⟨rfl,?_⟩)
   cases decide (n.2.1=0)
   ·exact(aj rfl).2 (.ret _)
   ·exact(ai rfl).2 ((ai rfl).2 (af.2 ⟨rfl,.ret _⟩))
 ·rw[aX h]
  cases on
  ·exact(aj rfl).2 (af.2 ⟨rfl,(aj (qH h)).2 (.ret _)⟩)
  ·exact(ai rfl).2 (af.2 ⟨rfl,(aj (qH h)).2 (.ret _)⟩)
def mj:(ak×Node×Bool)→(Node×Int):=fun(m,c,k)=>lX m c k
def abw:aA:=⟨[aN,aC,.bool], [aC,yI],(@tt (ak×Node×Bool)),mj⟩
theorem Vt:Sd 39 abw:=aS ar bR true 90 [] (fun A (m,n,on)=>ZI A m n on) (fc Tryz.func39 (fc Tryz.func84 fz)) (sc Vz (sc wX (sc FV sz))) fun(m,n,on) hp h=>abo
abbrev wE(A:aI)(m:ak)(n:Node):=(A.k gq (m,n,(A.c .eql n.2.1 0)))
abbrev MH:LT (Node×Int) Empty:=(.ret ((0,0,(0,0,0,0,0),(0,0,0,0,0,0,0),0,false,0,0,([]:List Int),([]:List dp),0,0),2))
def Yb(A:aI)(m:ak)(n:Node)(set1:Int):LT (Node×Int) Empty:=.need (A.k (@tt (ak×Node×Bool)) (m,n,(A.c .eql n.2.1 0))) (.br (A.c .neq (wE A m n).2 0) (.ret ((0,0,(0,0,0,0,0),(0,0,0,0,0,0,0),0,false,0,0,([]:List Int),([]:List dp),0,0),(wE A m n).2)) (.need (A.c .leq 0 m.1) (.need (A.k (@tt (Int×Int×Int)) (set1,0,(A.b .sub .i64 (A.b .shl .i64 1 m.1) 1))) (.br (A.not (A.k uI (set1,0,(A.b .sub .i64 (A.b .shl .i64 1 m.1) 1)))) (MH) (.need (A.c .leq 0 (wE A m n).1.1) (.br (A.c .eql (A.b .and .i64 (A.b .shr .i64 set1 (wE A m n).1.1) 1) 0) (MH) (.ret (((wE A m n).1.1,4,(0,0,0,0,set1),((wE A m n).1.1,m.1,set1,1,0,0,0),0,(wE A m n).1.2.2.2.2.2),0))))))))
theorem La{k:Int}(h:4≤k∧k≤8):16≤ah.b .shl .i64 1 k∧ah.b .shl .i64 1 k≤256:=by
 have:k=4∨k=5∨k=6∨k=7∨k=8:=by omega
 rcases this with rfl|rfl|rfl|rfl|rfl<;>decide
def LF(m:ak)(n:Node)(s:Int):Node×Int:=bif decide (bf m n=0) then(bif decide (n.2.1=0) then(bif decide (0≤s∧s≤ah.b .shl .i64 1 m.1-1) then(bif lh s n.1 then((n.1,4,(0,0,0,0,s),(n.1,m.1,s,1,0,0,0),0,n.2.2.2.2.2),0) else(eY,2)) else(eY,2)) else(eY,181)) else(eY,bf m n)
theorem agJ{m:ak}{n:Node}{s:Int}:ay Empty.elim (Yb ah m n s) (LF m n s):=by
 unfold Yb MH wE LF
 refine af.2 ⟨rfl,?_⟩
 rw[show ah.k gq (m,n,ah.c .eql n.2.1 0)=ia m n (ah.c .eql n.2.1 0) from rfl,aM,ia,EH]
 by_cases h:bf m n=0
 ·rw[aL h]
  cases decide (n.2.1=0)
  ·exact(aj rfl).2 (.ret _)
  have hk:=(cX (aZ h).1).1
  have hs:=La hk
  have hi:=(bT.1 (aZ h).2).1
  refine(ai rfl).2 (af.2 ⟨aL (by omega),af.2 ⟨rfl,?_⟩⟩)
  rw[cn,iU (by omega) (by omega)]
  refine dT (fun h3=>?_) fun h3=>af.2 ⟨aL (show 0≤n.1 from hi.1),?_⟩
  ·exact au (by rw[aX h3];rfl) (.ret _)
  ·rw[aL h3]
   have hb:=UM (c:=s) (a:=n.1) h3.1 (by omega) hi.1 (by omega)
   refine ax (p:=ah.b .and .i64 (ah.b .shr .i64 s n.1) 1=0) aM (fun g=>?_) fun g=>?_
   ·exact au (by rw[hb.1 g];rfl) (.ret _)
   ·exact au (by rw[show lh s n.1=true from by cases hx:lh s n.1;exact absurd (hb.2 hx) g;rfl];rfl) (.ret _)
 ·rw[aX h];exact(aj (qH h)).2 (.ret _)
def oh:(ak×Node×Int)→(Node×Int):=fun(m,c,k)=>LF m c k
def aeS:aA:=⟨[aN,aC,yI], [aC,yI],(@tt (ak×Node×Int)),oh⟩
theorem aeh:Sd 66 aeS:=aS ar bR true 110 [] (fun A (m,n,set1)=>Yb A m n set1) (fc Tryz.func66 (fc Tryz.func139 fz)) (sc wX (sc JO sz)) fun(m,n,set1) hp h=>agJ
abbrev dh(A:aI)(m:ak)(n:Node):=(A.k gq (m,n,true))
abbrev Np(A:aI)(m:ak)(n:Node):LT (Node×Int) Empty:=(.ret ((0,0,(0,0,0,0,0),(0,0,0,0,0,0,0),0,false,0,0,([]:List Int),([]:List dp),0,0),(dh A m n).2))
def WV(A:aI)(m:ak)(n:Node)(o:bg):LT (Node×Int) Empty:=.need (A.k (@tt (ak×Node×Bool)) (m,n,true)) (.br (A.c .neq (dh A m n).2 0) (Np A m n) (.need (A.k (@tt (Int×Int×Int)) (o.2.2.2.1,1,3)) (.br (A.not (A.k uI (o.2.2.2.1,1,3))) (.ret ((0,0,(0,0,0,0,0),(0,0,0,0,0,0,0),0,false,0,0,([]:List Int),([]:List dp),0,0),2)) (.need (A.k (@tt Node) (dh A m n).1) (.br (A.not (A.k fq (dh A m n).1)) (.ret ((dh A m n).1,0)) (.br (A.c .eql o.2.2.2.1 1) (.need (A.k (@tt (cy×List Int)) ((dh A m n).1.2.2.2.2.2.2.2,o.2.2.2.2.2)) (.br (A.c .neq (A.k y7 ((dh A m n).1.2.2.2.2.2.2.2,o.2.2.2.2.2)).2 0) (.ret ((0,0,(0,0,0,0,0),(0,0,0,0,0,0,0),0,false,0,0,([]:List Int),([]:List dp),0,0),(A.k y7 ((dh A m n).1.2.2.2.2.2.2.2,o.2.2.2.2.2)).2)) (.ret (((dh A m n).1.1,(dh A m n).1.2.1,(dh A m n).1.2.2.1,(dh A m n).1.2.2.2.1,(dh A m n).1.2.2.2.2.1,(dh A m n).1.2.2.2.2.2.1,(dh A m n).1.2.2.2.2.2.2.1,(A.k y7 ((dh A m n).1.2.2.2.2.2.2.2,o.2.2.2.2.2)).1),0)))) (.br (A.c .eql o.2.2.2.1 2) (.need (A.k (@tt cy) (dh A m n).1.2.2.2.2.2.2.2) (.br (A.c .neq (A.k Ka (dh A m n).1.2.2.2.2.2.2.2).2 0) (.ret ((0,0,(0,0,0,0,0),(0,0,0,0,0,0,0),0,false,0,0,([]:List Int),([]:List dp),0,0),(A.k Ka (dh A m n).1.2.2.2.2.2.2.2).2)) (.ret (((dh A m n).1.1,(dh A m n).1.2.1,(dh A m n).1.2.2.1,(dh A m n).1.2.2.2.1,(dh A m n).1.2.2.2.2.1,(dh A m n).1.2.2.2.2.2.1,(dh A m n).1.2.2.2.2.2.2.1,(A.k Ka (dh A m n).1.2.2.2.2.2.2.2).1),0)))) (.br (A.c .eql o.2.2.2.1 3) (.need (A.k (@tt (cy×Int)) ((dh A m n).1.2.2.2.2.2.2.2,o.2.2.2.2.1)) (.br (A.c .neq (A.k IZ ((dh A m n).1.2.2.2.2.2.2.2,o.2.2.2.2.1)).2 0) (.ret ((0,0,(0,0,0,0,0),(0,0,0,0,0,0,0),0,false,0,0,([]:List Int),([]:List dp),0,0),(A.k IZ ((dh A m n).1.2.2.2.2.2.2.2,o.2.2.2.2.1)).2)) (.ret (((dh A m n).1.1,(dh A m n).1.2.1,(dh A m n).1.2.2.1,(dh A m n).1.2.2.2.1,(dh A m n).1.2.2.2.2.1,(dh A m n).1.2.2.2.2.2.1,(dh A m n).1.2.2.2.2.2.2.1,(A.k IZ ((dh A m n).1.2.2.2.2.2.2.2,o.2.2.2.2.1)).1),0)))) (.br (A.c .neq (dh A m n).2 0) (Np A m n) (.ret ((dh A m n).1,0)))))))))))
def zt(n:Node)(r:cy×Int):Node×Int:=bif decide (r.2=0) then((n.1,n.2.1,n.2.2.1,n.2.2.2.1,n.2.2.2.2.1,n.2.2.2.2.2.1,n.2.2.2.2.2.2.1,r.1),0) else(eY,r.2)
def su(m:ak)(n:Node)(o:bg):Node×Int:=bif decide (bf m n=0) then(bif decide (1≤o.2.2.2.1∧o.2.2.2.1≤3) then(bif jJ n then(bif decide (o.2.2.2.1=1) then zt n (LC n.2.2.2.2.2.2.2 o.2.2.2.2.2) else bif decide (o.2.2.2.1=2) then zt n (Rm n.2.2.2.2.2.2.2) else zt n (Ap n.2.2.2.2.2.2.2 o.2.2.2.2.1)) else(n,0)) else(eY,2)) else(eY,bf m n)
theorem Mg{Y:Type}{step:Y→LT (Node×Int) Y}{n:Node}{r:cy×Int}{x:Int}(hx:r.2=0→x=0):ay step (.br (ah.c .neq r.2 0) (.ret (eY,r.2)) (.ret ((n.1,n.2.1,n.2.2.1,n.2.2.2.1,n.2.2.2.2.1,n.2.2.2.2.2.1,n.2.2.2.2.2.2.1,r.1),x))) (zt n r):=by
 unfold zt
 refine ax (p:=¬r.2=0) aQ (fun h=>?_) fun h=>?_
 ·exact au (by rw[aX h];rfl) (.ret _)
 ·have h:=Decidable.not_not.1 h
  exact au (by rw[aL h,hx h];rfl) (.ret _)
theorem acP{m:ak}{n:Node}{o:bg}:ay Empty.elim (WV ah m n o) (su m n o):=by
 unfold WV Np dh su
 refine af.2 ⟨rfl,?_⟩
 rw[show ah.k gq (m,n,true)=ia m n true from rfl,ia,EH]
 by_cases h:bf m n=0
 ·rw[aL h,cond_true,cond_true,cond_true]
  refine(ai rfl).2 (af.2 ⟨rfl,dT (fun h3=>?_) fun h3=>af.2 ⟨rfl,?_⟩⟩)
  ·exact au (by rw[aX h3];rfl) (.ret _)
  rw[aL h3,cond_true]
  rw[show ah.k fq ((n,0):Node×Int).1=jJ n from rfl]
  cases jJ n
  ·exact(aj rfl).2 (.ret _)
  refine(ai rfl).2 (ax (p:=o.2.2.2.1=1) aM (fun k=>af.2 ⟨rfl,?_⟩) fun k=>ax (p:=o.2.2.2.1=2) aM (fun k2=>af.2 ⟨rfl,?_⟩) fun k2=>(aj (by rw[aM];exact aL (by omega))).2 (af.2 ⟨rfl,?_⟩))
  ·rw[aL k];exact Mg (r:=LC n.2.2.2.2.2.2.2 o.2.2.2.2.2) (fun h=>rfl)
  ·rw[aX k,aL k2];exact Mg (r:=Rm n.2.2.2.2.2.2.2) (fun h=>rfl)
  ·rw[aX k,aX k2];exact Mg (r:=Ap n.2.2.2.2.2.2.2 o.2.2.2.2.1) (fun h=>rfl)
 ·rw[aX h];exact(aj (qH h)).2 (.ret _)
def Iz:(ak×Node×bg)→(Node×Int):=fun(m,c,k)=>su m c k
def aat:aA:=⟨[aN,aC,bC], [aC,yI],(@tt (ak×Node×bg)),Iz⟩
theorem aet:Sd 189 aat:=aS ar bR true 107 [] (fun A (m,n,o)=>WV A m n o) (fc Tryz.func189 fz) (sc rS (sc wX (sc JO (sc VB (sc afY (sc afR sz)))))) fun(m,n,o) hp h=>acP
structure N8 where
 (a0:Int) (a1:List Seen) (a2:Int) (a4:lQ) (a5:Int)
inductive SB where
 | c0 (p:N8) (a3:Int)
noncomputable def WH:SB→eT
 | .c0 p a3=>⟨[⟨85,45,(en [(0,vi p.a0),(4,.ptr 0 0),(11,.sl aF p.a1),(12,vi p.a2),(13,vi a3)]),[.inLoop (cw Tryz.f85 [1,0,1,0,0]),.inBlock 0,.code (cw Tryz.f85 [1,1])],[],none⟩],[.flat false (dc kM p.a4 ++ [vi p.a5,.dn true]),.dead]⟩
def ac3(A:aI)(n:Int)(seen:List Seen):LT (mJ×Int×Bool) SB:=.more (.c0 ⟨n,seen,(A.l seen),(0,0,0,0,0,0,0),0⟩ 0)
def KR(A:aI):SB→LT (mJ×Int×Bool) SB
 | .c0 p a3=>.br (A.c .lss a3 p.a2) (.need (A.and (A.c .leq 0 a3) (A.c .lss a3 (A.l p.a1))) (.br (A.c .neq (A.n aF p.a1 a3:Seen).1 2) (.more (.c0 p (A.b .add .i64 a3 1))) (.need (A.k (@tt ((Int×List Int))) (A.n aF p.a1 a3:Seen).2.2) (.br (A.k Cq (A.n aF p.a1 a3:Seen).2.2).2 (.need (A.k (@tt ((Int×Int×Int×Int×Int)×Int)) ((A.k Cq (A.n aF p.a1 a3:Seen).2.2).1.2.2.1,p.a0)) (.br (A.c .eql (A.k oW ((A.k Cq (A.n aF p.a1 a3:Seen).2.2).1.2.2.1,p.a0)) 0) (.br (A.c .lss (A.k Cq (A.n aF p.a1 a3:Seen).2.2).1.2.2.2.1 p.a0) (.ret ((A.k Cq (A.n aF p.a1 a3:Seen).2.2).1,(A.n aF p.a1 a3:Seen).2.1,true)) (.more (.c0 p (A.b .add .i64 a3 1)))) (.more (.c0 p (A.b .add .i64 a3 1))))) (.more (.c0 p (A.b .add .i64 a3 1))))))) (.ret ((0,0,(0,0,0,0,0),0,([]:List Int)),0,false))
def Au(n:Int)(s:Seen):Bool:=decide (s.1=2)&&(decide ((nA s.2.2).2=true)&&(decide (jZ ((nA s.2.2).1.2.2.1,n)=0)&&decide ((nA s.2.2).1.2.2.2.1<n)))
def fC(n:Int):List Seen→mJ×Int×Bool
 | []=>((0,0,(0,0,0,0,0),0,([]:List Int)),0,false)
 | s::l=>bif Au n s then((nA s.2.2).1,s.2.1,true) else fC n l
theorem Qg{n:Int}{l:List Seen}(h:(fC n l).2.2=true):jZ ((fC n l).1.2.2.1,n)=0∧(fC n l).1.2.2.2.1<n∧rv (fC n l).1=true:=by
 induction l with
 | nil=>exact absurd h (by simp[fC])
 | cons s l ih=>
   rw[fC] at h ⊢
   cases hx:Au n s
   ·rw[hx] at h;exact ih h
   ·simp only[Au,ck,jN] at hx
    exact⟨hx.2.2.1,hx.2.2.2,TQ hx.2.1⟩
theorem abh{b:Bool}:b=decide (b=true):=by cases b<;>rfl
theorem K3{p:N8}{n:Int}{seen:List Seen}(h0:p.a0=n)(h1:p.a1=seen)(h2:p.a2=(seen.length:Int))(hl:seen.length≤140737488355328):∀(j i:Nat),seen.length-i=j→i≤seen.length→ay (KR ah) (.more (.c0 p (i:Int))) (fC n (seen.drop i)):=by
 intro j
 induction j with
 | zero=>
   intro i hj hi
   have:i=seen.length:=by omega
   subst this
   rw[al,KR,h2,List.drop_length]
   exact(ai (by rw[ao];simp)).2 (.ret _)
 | succ j ih=>
   intro i hj hi
   have hi':i<seen.length:=by omega
   have nx:=ih (i+1) (by omega) (by omega)
   rw[al,KR,h0,h1,h2]
   refine(aj (by rw[ao];exact aL (by omega))).2 (af.2 ⟨aP hi',?_⟩)
   rw[show(ah.n aF seen (i:Int):Seen)=seen[i] from getD_in hi' _,ry hi',fC,cm (i:=i) (by omega)]
   generalize seen[i]=s
   generalize fC n (seen.drop (i+1))=r at nx ⊢
   have hx:Au n s=false→ay (KR ah) (.more (.c0 p ((i+1:Nat):Int))) (bif Au n s then((nA s.2.2).1,s.2.1,true) else r):=fun h=>au (by rw[h];rfl) nx
   rw[show ah.k Cq s.2.2=nA s.2.2 from Ss]
   refine ax (p:=¬s.1=2) aQ (fun h=>hx (by rw[Au,aX h];rfl)) fun g1=>af.2 ⟨rfl,?_⟩
   refine ax (p:=(nA s.2.2).2=true) abh (fun g2=>af.2 ⟨rfl,?_⟩) fun h=>hx (by rw[Au,aX h,Bool.false_and,Bool.and_false])
   refine ax (p:=jZ ((nA s.2.2).1.2.2.1,n)=0) aM (fun g3=>?_) fun h=>hx (by rw[Au,aX h,Bool.false_and,Bool.and_false,Bool.and_false])
   refine ax (p:=(nA s.2.2).1.2.2.2.1<n) rfl (fun g4=>?_) fun h=>hx (by rw[Au,aX h,Bool.and_false,Bool.and_false,Bool.and_false])
   exact au (by rw[Au,aL (Decidable.not_not.1 g1),aL g2,aL g3,aL g4];rfl) (.ret _)
theorem adR{n:Int}{seen:List Seen}(hl:seen.length≤140737488355328):ay (KR ah) (ac3 ah n seen) (fC n seen):=
 K3 (p:=⟨n,seen,(seen.length:Int),(0,0,0,0,0,0,0),0⟩) rfl rfl rfl hl seen.length 0 rfl (by omega)
def zC:(Int×List Seen)→(mJ×Int×Bool):=fun(m,n)=>fC m n
def acG:aA:=⟨[yI,(.slice aF)], [w9,yI,.bool],(@tt (Int×List Seen)),zC⟩
theorem afc:Sd 85 acG:=aT ar bR true 21 [⟨85,2, [[0,4,11,12,13]]⟩] [] (fun A (n,seen)=>ac3 A n seen) KR WH (fc Tryz.func85 fz) (sc ahL (sc Ce sz)) (fun A y=>match y with |.c0 p a3=>⟨70,by kernel_rfl,by kernel_rfl⟩) fun(n,seen) hp h=>adR h.2.1
abbrev Pj(A:aI)(m:ak)(c:cq)(f:mJ):LT Bool Empty:=(.br (A.c .eql (A.k rI (m,c.2.2.1,c.2.1)).2 0) (.br (A.c .eql f.1 (A.k rI (m,c.2.2.1,c.2.1)).1) (.ret (A.c .eql (A.l f.2.2.2.2) 0)) (.ret false)) (.ret false))
def YC(A:aI)(m:ak)(c:cq)(f:mJ):LT Bool Empty:=.need (A.k (@tt (ak×Int×Int)) (m,c.2.2.1,c.2.1)) (.br (A.c .eql (A.k rI (m,c.2.2.1,c.2.1)).2 0) (.br (A.c .neq (A.k rI (m,c.2.2.1,c.2.1)).1 3) (.need (A.and (A.c .leq 0 c.2.2.1) (A.c .lss c.2.2.1 (A.l m.2.2.2.2.2.2.2))) (.need (A.and (A.c .leq 0 c.2.1) (A.c .lss c.2.1 (A.l (A.n bX m.2.2.2.2.2.2.2 c.2.2.1:Mode).1))) (.br (A.c .eql (A.k rI (m,c.2.2.1,c.2.1)).2 0) (.br (A.c .eql f.1 (A.k rI (m,c.2.2.1,c.2.1)).1) (.ret (A.c .eql (A.l f.2.2.2.2) (A.n yI (A.n bX m.2.2.2.2.2.2.2 c.2.2.1:Mode).1 c.2.1:Int))) (.ret false)) (.ret false)))) (Pj A m c f)) (Pj A m c f))
def tL(m:ak)(c:cq)(f:mJ):Bool:=decide ((fL m c.2.2.1 c.2.1).2=0)&&(decide (f.1=(fL m c.2.2.1 c.2.1).1)&&decide ((f.2.2.2.2.length:Int)=bif decide ((fL m c.2.2.1 c.2.1).1=3) then(0:Int) else(ah.n (.int .i64) (ah.n bX m.2.2.2.2.2.2.2 c.2.2.1:Mode).1 c.2.1:Int)))
theorem qR{m:ak}{k n:Int}(h:(fL m k n).2=0):c_ m=true∧(0≤n∧n≤m.1-1)∧(0≤k∧k<dq m):=by
 unfold fL at h
 by_cases h1:gV m n=0
 ·obtain⟨a,b⟩:=Bt h1
  by_cases h2:0≤k∧k≤dq m-1
  ·exact⟨a,b,by omega⟩
  ·rw[aL h1,aX h2,cond_true,cond_false] at h;exact absurd h (by decide)
 ·rw[aX h1,cond_false] at h;exact absurd h h1
theorem ae_{m:ak}{c:cq}{f:mJ}:ay Empty.elim (YC ah m c f) (tL m c f):=by
 unfold YC Pj
 refine af.2 ⟨rfl,?_⟩
 rw[show ah.k rI (m,c.2.2.1,c.2.1)=fL m c.2.2.1 c.2.1 from rfl]
 by_cases h:(fL m c.2.2.1 c.2.1).2=0
 ·obtain⟨hm,hn,hk⟩:=qR h
  have hx:=(nZ (uF hm hk.1 hk.2)).1
  have e:ah.c .eql (fL m c.2.2.1 c.2.1).2 0=true:=QA h
  rw[e,tL,aL h,Bool.true_and]
  refine(aj rfl).2 (ax (p:=¬(fL m c.2.2.1 c.2.1).1=3) aQ (fun g=>af.2 ⟨qK hk.1 hk.2,af.2 ⟨q_ hx hn.1 (by omega),(aj rfl).2 ?_⟩⟩) fun g=>(aj rfl).2 ?_)
  ·rw[aX g]
   refine ax (p:=f.1=(fL m c.2.2.1 c.2.1).1) aM (fun k=>?_) fun k=>?_
   ·exact au (by rw[aL k,bK];exact aM) (.ret _)
   ·exact au (by rw[aX k];rfl) (.ret _)
  ·rw[aL (Decidable.not_not.1 g)]
   refine ax (p:=f.1=(fL m c.2.2.1 c.2.1).1) aM (fun k=>?_) fun k=>?_
   ·exact au (by rw[aL k,bK];exact aM) (.ret _)
   ·exact au (by rw[aX k];rfl) (.ret _)
 ·have e:ah.c .eql (fL m c.2.2.1 c.2.1).2 0=false:=acZ h
  rw[e,tL,aX h]
  exact(ai rfl).2 ((ai rfl).2 (.ret _))
def JX:(ak×cq×mJ)→Bool:=fun(m,c,k)=>tL m c k
def ac2:aA:=⟨[aN,ki,w9], [.bool],(@tt (ak×cq×mJ)),JX⟩
theorem Vj:Sd 50 ac2:=aS ar bR true 75 [] (fun A (m,c,f)=>YC A m c f) (fc Tryz.func50 fz) (sc Vn sz) fun(m,c,f) hp h=>ae_
def Z6(A:aI)(m:ak)(n:Node)(f:mJ):LT Bool Empty:=.need (A.k (@tt (ak×cq)) (m,f.2.2.1)) (.br (A.k JW (m,f.2.2.1)) (.br (A.c .neq f.2.2.1.2.1 n.1) (.need (A.k (@tt (cq×Int)) (f.2.2.1,f.2.2.1.2.1)) (.br (A.k OF (f.2.2.1,f.2.2.1.2.1)) (.need (A.k (@tt (ak×cq×mJ)) (m,f.2.2.1,f)) (.ret (A.k JX (m,f.2.2.1,f)))) (.ret false))) (.ret false)) (.ret false))
def Lx(m:ak)(n:Node)(f:mJ):Bool:=dL m f.2.2.1&&(decide (¬f.2.2.1.2.1=n.1)&&(Kp f.2.2.1 f.2.2.1.2.1&&tL m f.2.2.1 f))
theorem ahb{m:ak}{n:Node}{f:mJ}:ay Empty.elim (Z6 ah m n f) (Lx m n f):=by
 unfold Z6 Lx
 refine af.2 ⟨rfl,?_⟩
 rw[show ah.k JW (m,f.2.2.1)=dL m f.2.2.1 from rfl]
 cases dL m f.2.2.1
 ·exact(ai rfl).2 (.ret _)
 refine(aj rfl).2 (ax (p:=¬f.2.2.1.2.1=n.1) aQ (fun h=>af.2 ⟨rfl,?_⟩) fun h=>au (by rw[aX h];rfl) (.ret _))
 rw[aL h,show ah.k OF (f.2.2.1,f.2.2.1.2.1)=Kp f.2.2.1 f.2.2.1.2.1 from rfl]
 cases Kp f.2.2.1 f.2.2.1.2.1
 ·exact(ai rfl).2 (.ret _)
 ·exact(aj rfl).2 (af.2 ⟨rfl,.ret _⟩)
def IS:(ak×Node×mJ)→Bool:=fun(m,c,k)=>Lx m c k
def adK:aA:=⟨[aN,aC,w9], [.bool],(@tt (ak×Node×mJ)),IS⟩
theorem abQ:Sd 87 adK:=aS ar bR true 44 [] (fun A (m,n,f)=>Z6 A m n f) (fc Tryz.func87 fz) (sc VK (sc Vj (sc aau sz))) fun(m,n,f) hp h=>ahb
def kV(m:ak)(c:cq)(r:Int):cq:=bif decide ((xr m c r).2=0) then(xr m c r).1 else c
def rT(m:ak)(n:Node)(c:cq)(f:mJ):Node:=(n.1,3,kV m c f.2.1,(n.1,m.1,c.2.2.2.2,1,0,0,0),0,false,0,bif decide (f.1=4) then(mH n.2.2.2.2.2.2.2 c.2.1 f.2.2.2.2).1 else n.2.2.2.2.2.2.2)
def vB(m:ak)(n:Node)(seen:List Seen)(once:Bool):Node×Int×Bool×Int:=
 bif decide (bf m n=0) then
  bif decide (n.2.1=1) then
   bif decide ((seen.length:Int)=2) then
    bif (fC m.1 seen).2.2 then
     bif decide ((fC m.1 seen).1.1=1) then
      bif decide ((fC m.1 seen).1.2.2.2.1=n.1) then(n,0,false,0)
      else bif once && !n.2.2.2.2.2.1 then((n.1,n.2.1,n.2.2.1,n.2.2.2.1,(mC m n.1).1,true,n.2.2.2.2.2.2),(fC m.1 seen).2.1,false,0)
      else(rT m n (0,(fC m.1 seen).1.2.2.2.1,0,0,ah.b .shl .i64 1 (fC m.1 seen).1.2.2.2.1) (fC m.1 seen).1,(fC m.1 seen).2.1,true,0)
     else bif Lx m n (fC m.1 seen).1 then(rT m n (fC m.1 seen).1.2.2.1 (fC m.1 seen).1,(fC m.1 seen).2.1,true,0)
     else(n,0,false,0)
    else(n,0,false,0)
   else(eY,0,false,2)
  else(eY,0,false,181)
 else(eY,0,false,bf m n)
structure LL where
 (a0:Int) (a1:ak) (a2 a3:lQ) (a4:Int) (a5:Bool) (a6 a7 a8 a9:Int) (cN:Node) (dF:mJ)
structure LP where
 (b0:ak) (b1:mJ) (b2:cq) (b3:Int) (b4:Node) (b5 b6:lQ) (b7:Int) (b8:Bool) (b9 b10 b11 b12:Int)
structure Px where
 (c0:ak) (c1:mJ) (c2:cq) (c3:Int) (c4:Node) (c5 c6:lQ) (c7:Int) (c8:Bool) (c9 c10 c11 c12:Int)
structure Mb where
 (d0:ak) (d1 d2:Int) (d3:Node) (d4 d5:lQ) (d6:Int) (d7:Bool) (d8 d9 lH lG:Int)
structure L5 where
 (e0:ak) (e1 e2:Int) (e3:Node) (e4 e5:lQ) (e6:Int) (e7:Bool) (e8 e9 e10 e11:Int)
inductive OC where
 | c0 (p:LL)
 | c1 (p:LP)
 | c2 (p:Px)
 | c3 (p:Mb)
 | c4 (p:L5)
noncomputable def Xc:OC→eT
 | .c0 p=>⟨[⟨40,101,(en [(3,.ptr 0 0),(6,.ptr 1 0),(10,.ptr 2 0),(12,.ptr 3 0),(13,vi p.a0)]),[.code (cw Tryz.f40 [1,1,1,1,0,0,1,1,0]),.code (cw Tryz.f40 [1,1,1,1,0,0,1,1,1]),.inBlock 1,.code (cw Tryz.f40 [1,1,1,1,1])],[],none⟩],[.flat false (dc aN p.a1),.flat false (dc kM p.a2++dc kM p.a3 ++ [vi p.a4,vb p.a5,vi p.a6,vi p.a7,.dn true,.dn true,vi p.a8,vi p.a9]),.flat false (dc aC p.cN),.flat false (dc w9 p.dF),.dead]⟩
 | .c1 p=>⟨[⟨86,29,(en [(0,.agg (dc aN p.b0)),(1,.ptr 0 0),(2,.agg (dc w9 p.b1)),(3,.agg (dc ki p.b2))]),[.code (cw Tryz.f86 [0]),.code (cw Tryz.f86 [1])],[],none⟩,⟨40,101,(en [(6,.ptr 1 0),(10,.ptr 0 0),(13,vi p.b3)]),[.pE (ow Tryz.f40 [1,1,1,1,0,0,1,1,1,1,1,0]) [0,0,0,4,0,16,48,124,255] 8 [] [],.inBlock 1,.code (cw Tryz.f40 [1,1,1,1,1])],[],none⟩],[.flat false (dc aC p.b4),.flat false (dc kM p.b5++dc kM p.b6 ++ [vi p.b7,vb p.b8,vi p.b9,vi p.b10,.dn true,.dn true,vi p.b11,vi p.b12]),.dead]⟩
 | .c2 p=>⟨[⟨86,29,(en [(0,.agg (dc aN p.c0)),(1,.ptr 0 0),(2,.agg (dc w9 p.c1)),(3,.agg (dc ki p.c2))]),[.code (cw Tryz.f86 [0]),.code (cw Tryz.f86 [1])],[],none⟩,⟨40,101,(en [(6,.ptr 1 0),(10,.ptr 0 0),(13,vi p.c3)]),[.ops (ow Tryz.f40 [1,1,1,1,0,0,1,1,1,1,1,1,1,0]) ((ow Tryz.f40 [1,1,1,1,0,0,1,1,1,1,1,1,1,0]).toList.drop 4),.inBlock 1,.code (cw Tryz.f40 [1,1,1,1,1])],[],none⟩],[.flat false (dc aC p.c4),.flat false (dc kM p.c5++dc kM p.c6 ++ [vi p.c7,vb p.c8,vi p.c9,vi p.c10,.dn true,.dn true,vi p.c11,vi p.c12]),.dead]⟩
 | .c3 p=>⟨[⟨53,24,(en [(0,.agg (dc aN p.d0)),(1,.ptr 0 0),(2,vi p.d1)]),[.code (cw Tryz.f53 [0]),.code (cw Tryz.f53 [1])],[],none⟩,⟨86,29,.leaf,[.ops (ow Tryz.f86 [1,1,1,1]) ((ow Tryz.f86 [1,1,1,1]).toList.drop 4)],[],none⟩,⟨40,101,(en [(6,.ptr 1 0),(10,.ptr 0 0),(13,vi p.d2)]),[.pE (ow Tryz.f40 [1,1,1,1,0,0,1,1,1,1,1,0]) [0,0,0,4,0,16,48,124,255] 8 [] [],.inBlock 1,.code (cw Tryz.f40 [1,1,1,1,1])],[],none⟩],[.flat false (dc aC p.d3),.flat false (dc kM p.d4++dc kM p.d5 ++ [vi p.d6,vb p.d7,vi p.d8,vi p.d9,.dn true,.dn true,vi p.lH,vi p.lG]),.dead]⟩
 | .c4 p=>⟨[⟨53,24,(en [(0,.agg (dc aN p.e0)),(1,.ptr 0 0),(2,vi p.e1)]),[.code (cw Tryz.f53 [0]),.code (cw Tryz.f53 [1])],[],none⟩,⟨86,29,.leaf,[.ops (ow Tryz.f86 [1,1,1,1]) ((ow Tryz.f86 [1,1,1,1]).toList.drop 4)],[],none⟩,⟨40,101,(en [(6,.ptr 1 0),(10,.ptr 0 0),(13,vi p.e2)]),[.ops (ow Tryz.f40 [1,1,1,1,0,0,1,1,1,1,1,1,1,0]) ((ow Tryz.f40 [1,1,1,1,0,0,1,1,1,1,1,1,1,0]).toList.drop 4),.inBlock 1,.code (cw Tryz.f40 [1,1,1,1,1])],[],none⟩],[.flat false (dc aC p.e3),.flat false (dc kM p.e4++dc kM p.e5 ++ [vi p.e6,vb p.e7,vi p.e8,vi p.e9,.dn true,.dn true,vi p.e10,vi p.e11]),.dead]⟩
abbrev zQ(A:aI)(m:ak)(n:Node):=(A.k gq (m,n,(A.c .eql n.2.1 1)))
abbrev Md(A:aI)(m:ak)(n:Node)(seen:List Seen):LT (Node×Int×Bool×Int) OC:=(.more (.c0 ⟨(A.k zC (m.1,seen)).2.1,m,(0,0,0,0,0,0,0),(0,0,0,0,0,0,0),0,false,0,0,0,0,(zQ A m n).1,(A.k zC (m.1,seen)).1⟩))
def Zh(A:aI)(m:ak)(n:Node)(seen:List Seen):LT (Node×Int×Bool×Int) OC:=.need (A.k (@tt (ak×Node×Bool)) (m,n,(A.c .eql n.2.1 1))) (.br (A.c .neq (zQ A m n).2 0) (.ret ((0,0,(0,0,0,0,0),(0,0,0,0,0,0,0),0,false,0,0,([]:List Int),([]:List dp),0,0),0,false,(zQ A m n).2)) (.br (A.c .neq (A.l seen) 2) (.ret ((0,0,(0,0,0,0,0),(0,0,0,0,0,0,0),0,false,0,0,([]:List Int),([]:List dp),0,0),0,false,2)) (.need (A.k (@tt (Int×List Seen)) (m.1,seen)) (.br (A.not (A.k zC (m.1,seen)).2.2) (.ret ((zQ A m n).1,0,false,0)) (.br (A.c .eql (A.k zC (m.1,seen)).1.1 1) (.br (A.c .eql (A.k zC (m.1,seen)).1.2.2.2.1 (zQ A m n).1.1) (.ret ((zQ A m n).1,0,false,0)) (Md A m n seen)) (Md A m n seen))))))
def xe(A:aI):OC→LT (Node×Int×Bool×Int) OC
 | .c0 p=>.br (A.c .eql p.dF.1 1) (.br (A.not p.cN.2.2.2.2.2.1) (.need (A.k (@tt (ak×Int)) (p.a1,p.cN.1)) (.ret ((p.cN.1,p.cN.2.1,p.cN.2.2.1,p.cN.2.2.2.1,(A.k uz (p.a1,p.cN.1)),true,p.cN.2.2.2.2.2.2),p.a0,false,0))) (.br (A.c .eql p.dF.1 1) (.need (A.c .leq 0 p.dF.2.2.2.1) (.more (.c1 ⟨p.a1,p.dF,(0,p.dF.2.2.2.1,0,0,(A.b .shl .i64 1 p.dF.2.2.2.1)),p.a0,p.cN,p.a2,p.a3,p.a4,p.a5,p.a6,p.a7,p.a8,p.a9⟩))) (.need (A.k (@tt (ak×Node×mJ)) (p.a1,p.cN,p.dF)) (.br (A.k IS (p.a1,p.cN,p.dF)) (.more (.c2 ⟨p.a1,p.dF,p.dF.2.2.1,p.a0,p.cN,p.a2,p.a3,p.a4,p.a5,p.a6,p.a7,p.a8,p.a9⟩)) (.ret (p.cN,0,false,0)))))) (.br (A.c .eql p.dF.1 1) (.need (A.c .leq 0 p.dF.2.2.2.1) (.more (.c1 ⟨p.a1,p.dF,(0,p.dF.2.2.2.1,0,0,(A.b .shl .i64 1 p.dF.2.2.2.1)),p.a0,p.cN,p.a2,p.a3,p.a4,p.a5,p.a6,p.a7,p.a8,p.a9⟩))) (.need (A.k (@tt (ak×Node×mJ)) (p.a1,p.cN,p.dF)) (.br (A.k IS (p.a1,p.cN,p.dF)) (.more (.c2 ⟨p.a1,p.dF,p.dF.2.2.1,p.a0,p.cN,p.a2,p.a3,p.a4,p.a5,p.a6,p.a7,p.a8,p.a9⟩)) (.ret (p.cN,0,false,0)))))
 | .c1 p=>.br (A.c .eql p.b1.1 4) (.need (A.k (@tt (cy×Int×List Int)) (p.b4.2.2.2.2.2.2.2,p.b2.2.1,p.b1.2.2.2.2)) (.need (A.k (@tt (cy×Int×List Int)) (p.b4.2.2.2.2.2.2.2,p.b2.2.1,p.b1.2.2.2.2)) (.br (A.c .eql (A.k wR (p.b4.2.2.2.2.2.2.2,p.b2.2.1,p.b1.2.2.2.2)).2 0) (.more (.c3 ⟨p.b0,p.b1.2.1,p.b3,(p.b4.1,3,p.b2,(p.b4.1,p.b0.1,p.b2.2.2.2.2,1,0,0,0),0,false,0,(A.k wR (p.b4.2.2.2.2.2.2.2,p.b2.2.1,p.b1.2.2.2.2)).1),p.b5,p.b6,p.b7,p.b8,p.b9,p.b10,p.b11,p.b12⟩)) (.more (.c3 ⟨p.b0,p.b1.2.1,p.b3,(p.b4.1,3,p.b2,(p.b4.1,p.b0.1,p.b2.2.2.2.2,1,0,0,0),0,false,0,p.b4.2.2.2.2.2.2.2),p.b5,p.b6,p.b7,p.b8,p.b9,p.b10,p.b11,p.b12⟩))))) (.more (.c3 ⟨p.b0,p.b1.2.1,p.b3,(p.b4.1,3,p.b2,(p.b4.1,p.b0.1,p.b2.2.2.2.2,1,0,0,0),0,false,0,p.b4.2.2.2.2.2.2.2),p.b5,p.b6,p.b7,p.b8,p.b9,p.b10,p.b11,p.b12⟩))
 | .c2 p=>.br (A.c .eql p.c1.1 4) (.need (A.k (@tt (cy×Int×List Int)) (p.c4.2.2.2.2.2.2.2,p.c2.2.1,p.c1.2.2.2.2)) (.need (A.k (@tt (cy×Int×List Int)) (p.c4.2.2.2.2.2.2.2,p.c2.2.1,p.c1.2.2.2.2)) (.br (A.c .eql (A.k wR (p.c4.2.2.2.2.2.2.2,p.c2.2.1,p.c1.2.2.2.2)).2 0) (.more (.c4 ⟨p.c0,p.c1.2.1,p.c3,(p.c4.1,3,p.c2,(p.c4.1,p.c0.1,p.c2.2.2.2.2,1,0,0,0),0,false,0,(A.k wR (p.c4.2.2.2.2.2.2.2,p.c2.2.1,p.c1.2.2.2.2)).1),p.c5,p.c6,p.c7,p.c8,p.c9,p.c10,p.c11,p.c12⟩)) (.more (.c4 ⟨p.c0,p.c1.2.1,p.c3,(p.c4.1,3,p.c2,(p.c4.1,p.c0.1,p.c2.2.2.2.2,1,0,0,0),0,false,0,p.c4.2.2.2.2.2.2.2),p.c5,p.c6,p.c7,p.c8,p.c9,p.c10,p.c11,p.c12⟩))))) (.more (.c4 ⟨p.c0,p.c1.2.1,p.c3,(p.c4.1,3,p.c2,(p.c4.1,p.c0.1,p.c2.2.2.2.2,1,0,0,0),0,false,0,p.c4.2.2.2.2.2.2.2),p.c5,p.c6,p.c7,p.c8,p.c9,p.c10,p.c11,p.c12⟩))
 | .c3 p=>.need (A.k (@tt (ak×cq×Int)) (p.d0,p.d3.2.2.1,p.d1)) (.need (A.k (@tt (ak×cq×Int)) (p.d0,p.d3.2.2.1,p.d1)) (.br (A.c .eql (A.k qm (p.d0,p.d3.2.2.1,p.d1)).2 0) (.ret ((p.d3.1,p.d3.2.1,(A.k qm (p.d0,p.d3.2.2.1,p.d1)).1,p.d3.2.2.2),p.d2,true,0)) (.ret (p.d3,p.d2,true,0))))
 | .c4 p=>.need (A.k (@tt (ak×cq×Int)) (p.e0,p.e3.2.2.1,p.e1)) (.need (A.k (@tt (ak×cq×Int)) (p.e0,p.e3.2.2.1,p.e1)) (.br (A.c .eql (A.k qm (p.e0,p.e3.2.2.1,p.e1)).2 0) (.ret ((p.e3.1,p.e3.2.1,(A.k qm (p.e0,p.e3.2.2.1,p.e1)).1,p.e3.2.2.2),p.e2,true,0)) (.ret (p.e3,p.e2,true,0))))
theorem Oe{m:ak}{n:Node}{f:mJ}(hn:bf m n=0)(hf:rv f=true)(hj:Lx m n f=true):(mH n.2.2.2.2.2.2.2 f.2.2.1.2.1 f.2.2.2.2).2=0:=by
 have hd:=bT.1 (aZ hn).2
 simp only[Lx,ck,tL,jN] at hj
 have hk:=qR hj.2.2.2.1
 simp only[rv,ck,jN] at hf
 have h8:=hf.1.2
 have e6:=hd.2.2.2.2.2.1
 rw[mH,hd.2.2.2.1,aL (show 0≤f.2.2.1.2.1∧f.2.2.1.2.1≤(n.2.2.2.2.2.2.2.2.2.1.length:Int)-1 by rw[e6];exact hk.2.1),aX (show ¬8<(f.2.2.2.2.length:Int) by omega)]
 rfl
theorem ZG{p:Mb}:ay (xe ah) (.more (.c3 p)) ((p.d3.1,p.d3.2.1,kV p.d0 p.d3.2.2.1 p.d1,p.d3.2.2.2),p.d2,true,0):=by
 rw[al,xe]
 refine af.2 ⟨rfl,?_⟩
 repeat' (refine af.2 ⟨rfl,?_⟩)
 refine ax (p:=(xr p.d0 p.d3.2.2.1 p.d1).2=0) aM (fun h=>?_) fun h=>?_
 ·exact au (by rw[kV,aL h];rfl) (.ret _)
 ·exact au (by rw[kV,aX h];rfl) (.ret _)
theorem LW{p:L5}:ay (xe ah) (.more (.c4 p)) ((p.e3.1,p.e3.2.1,kV p.e0 p.e3.2.2.1 p.e1,p.e3.2.2.2),p.e2,true,0):=by
 rw[al,xe]
 refine af.2 ⟨rfl,?_⟩
 repeat' (refine af.2 ⟨rfl,?_⟩)
 refine ax (p:=(xr p.e0 p.e3.2.2.1 p.e1).2=0) aM (fun h=>?_) fun h=>?_
 ·exact au (by rw[kV,aL h];rfl) (.ret _)
 ·exact au (by rw[kV,aX h];rfl) (.ret _)
theorem Xv{p:LP}(h:p.b1.1=1):ay (xe ah) (.more (.c1 p)) (rT p.b0 p.b4 p.b2 p.b1,p.b3,true,0):=by
 rw[al,xe]
 refine(ai (by rw[aM];exact aX (by omega))).2 (au ?_ ZG)
 rw[rT,aX (show ¬p.b1.1=4 by omega)]
 rfl
theorem VZ{p:Px}(h:p.c1.1=4→(mH p.c4.2.2.2.2.2.2.2 p.c2.2.1 p.c1.2.2.2.2).2=0):ay (xe ah) (.more (.c2 p)) (rT p.c0 p.c4 p.c2 p.c1,p.c3,true,0):=by
 rw[al,xe]
 refine ax (p:=p.c1.1=4) aM (fun g=>af.2 ⟨rfl,?_⟩) fun g=>au (by rw[rT,aX g];rfl) LW
 repeat' (refine af.2 ⟨rfl,?_⟩)
 exact(aj (QA (h g))).2 (au (by rw[rT,aL g];rfl) LW)
theorem WN{p:LL}{m:ak}{n:Node}{f:mJ}{t:Int}(h0:p.a0=t)(h1:p.a1=m)(h2:p.cN=n)(hf:p.dF=f)(hl:0≤f.2.2.2.1)(hd:Lx m n f=true→(mH n.2.2.2.2.2.2.2 f.2.2.1.2.1 f.2.2.2.2).2=0):ay (xe ah) (.more (.c0 p)) (bif decide (f.1=1) then(bif !n.2.2.2.2.2.1 then((n.1,n.2.1,n.2.2.1,n.2.2.2.1,(mC m n.1).1,true,n.2.2.2.2.2.2),t,false,0) else(rT m n (0,f.2.2.2.1,0,0,ah.b .shl .i64 1 f.2.2.2.1) f,t,true,0)) else bif Lx m n f then(rT m n f.2.2.1 f,t,true,0) else(n,0,false,0)):=by
 rw[al,xe,h0,h1,h2,hf]
 refine ax (p:=f.1=1) aM (fun h=>?_) fun h=>?_
 ·rw[aL h,cond_true]
  cases hb:n.2.2.2.2.2.1
  ·exact(aj rfl).2 (af.2 ⟨rfl,.ret _⟩)
  ·exact(ai rfl).2 ((aj (by rw[aM];exact aL h)).2 (af.2 ⟨aL hl,Xv h⟩))
 ·rw[aX h,cond_false]
  refine(ai (by rw[aM];exact aX h)).2 (af.2 ⟨rfl,?_⟩)
  rw[show ah.k IS (m,n,f)=Lx m n f from rfl]
  cases hj:Lx m n f
  ·exact(ai rfl).2 (.ret _)
  ·exact(aj rfl).2 (VZ fun _=>hd hj)
theorem abj{m:ak}{n:Node}{seen:List Seen}:ay (xe ah) (Zh ah m n seen) (vB m n seen true):=by
 unfold Zh Md zQ vB
 refine af.2 ⟨rfl,?_⟩
 rw[show ah.k gq (m,n,ah.c .eql n.2.1 1)=ia m n (ah.c .eql n.2.1 1) from rfl,aM,ia]
 by_cases h:bf m n=0
 ·rw[aL h,cond_true,cond_true]
  cases decide (n.2.1=1)
  ·exact(aj rfl).2 (.ret _)
  rw[cond_true,cond_true]
  refine(ai rfl).2 (ax (p:=¬(seen.length:Int)=2) aQ (fun h2=>au (by rw[aX h2];rfl) (.ret _)) fun h2=>af.2 ⟨rfl,?_⟩)
  rw[aL (Decidable.not_not.1 h2),cond_true,show ah.k zC (m.1,seen)=fC m.1 seen from rfl]
  cases he:(fC m.1 seen).2.2
  ·exact(aj rfl).2 (.ret _)
  obtain⟨e1,e2,e3⟩:=Qg he
  have hl:=OH e3
  have nx:=fun {a b c d e g i j}=>WN (p:=⟨(fC m.1 seen).2.1,m,a,b,c,d,e,g,i,j,n,(fC m.1 seen).1⟩) (m:=m) (n:=n) (f:=(fC m.1 seen).1) (t:=(fC m.1 seen).2.1) rfl rfl rfl rfl hl.1 (Oe h e3)
  generalize fC m.1 seen=x at *
  refine(ai rfl).2 (ax (p:=x.1.1=1) aM (fun h3=>ax (p:=x.1.2.2.2.1=n.1) aM (fun h4=>?_) fun h4=>?_) fun h3=>?_)
  ·exact au (by rw[aL h3,aL h4];rfl) (.ret _)
  ·rw[aL h3] at nx
   rw[aL h3,aX h4,cond_true,cond_true,cond_false,Bool.true_and]
   exact nx
  ·rw[aX h3] at nx
   rw[aX h3,cond_true,cond_false]
   exact nx
 ·rw[aX h];exact(aj (qH h)).2 (.ret _)
def U_:(ak×Node×List Seen)→(Node×Int×Bool×Int):=fun(m,n,s)=>vB m n s true
def afu:aA:=⟨[aN,aC,(.slice aF)], [aC,yI,.bool,yI],(@tt (ak×Node×List Seen)),U_⟩
theorem aaE:Sd 40 afu:=aT ar bR true 93 [] [⟨40,10, [[3,6,10,12,13]]⟩,⟨53,0, [[0,1,2], [], [6,10,13]]⟩,⟨86,0, [[0,1,2,3], [6,10,13]]⟩] (fun A (m,n,seen)=>Zh A m n seen) xe Xc (fc Tryz.func40 (fc Tryz.func52 (fc Tryz.func53 (fc Tryz.func86 (fc Tryz.func139 fz))))) (sc wX (sc afc (sc FV (sc abQ (sc VI (sc Py sz)))))) (fun A y=>match y with |.c0 p=>⟨42,by kernel_rfl,by kernel_rfl⟩|.c1 p=>⟨125,by kernel_rfl,by kernel_rfl⟩|.c2 p=>⟨125,by kernel_rfl,by kernel_rfl⟩|.c3 p=>⟨51,by kernel_rfl,by kernel_rfl⟩|.c4 p=>⟨51,by kernel_rfl,by kernel_rfl⟩) fun(m,n,seen) hp h=>abj
instance:DecidableEq dp:=inferInstanceAs (DecidableEq (List Int×Int))
instance:DecidableEq cq:=inferInstanceAs (DecidableEq (Int×Int×Int×Int×Int))
instance:DecidableEq lQ:=inferInstanceAs (DecidableEq (Int×Int×Int×Int×Int×Int×Int))
instance:DecidableEq cy:=inferInstanceAs (DecidableEq (Int×List Int×List dp×Int×Int))
def abu:DecidableEq (Int×Bool×Int×cy):=inferInstance
def ac1:DecidableEq (cq×lQ×Int×Bool×Int×cy):=have:=abu;inferInstance
instance:DecidableEq Node:=have:=ac1;inferInstanceAs (DecidableEq (Int×Int×(cq×lQ×Int×Bool×Int×cy)))
abbrev fJ(A:aI)(m:ak)(n:Node):=(A.k gq (m,n,(A.c .eql n.2.1 1)))
def XS(A:aI)(m:ak)(n:Node):LT (Node×mJ×Bool×Int) Empty:=.need (A.k (@tt (ak×Node×Bool)) (m,n,(A.c .eql n.2.1 1))) (.br (A.c .neq (fJ A m n).2 0) (.ret ((0,0,(0,0,0,0,0),(0,0,0,0,0,0,0),0,false,0,0,([]:List Int),([]:List dp),0,0),(0,0,(0,0,0,0,0),0,([]:List Int)),false,(fJ A m n).2)) (.br (A.c .gtr (A.b .sub .i64 (fJ A m n).1.2.2.2.2.1 1) 0) (.ret (((fJ A m n).1.1,(fJ A m n).1.2.1,(fJ A m n).1.2.2.1,(fJ A m n).1.2.2.2.1,(A.b .sub .i64 (fJ A m n).1.2.2.2.2.1 1),(fJ A m n).1.2.2.2.2.2),(0,0,(0,0,0,0,0),0,([]:List Int)),false,0)) (.need (A.and (A.c .leq 0 (fJ A m n).1.1) (A.c .lss (fJ A m n).1.1 (A.l m.2.2.2.2.2.2.1))) (.br (A.not (A.n .bool m.2.2.2.2.2.2.1 (fJ A m n).1.1:Bool)) (.need (A.k (@tt (ak×Int)) (m,(fJ A m n).1.1)) (.ret (((fJ A m n).1.1,(fJ A m n).1.2.1,(fJ A m n).1.2.2.1,(fJ A m n).1.2.2.2.1,(A.k uz (m,(fJ A m n).1.1)),(fJ A m n).1.2.2.2.2.2),(0,0,(0,0,0,0,0),0,([]:List Int)),false,0))) (.need (A.c .leq 0 (fJ A m n).1.1) (.ret (((fJ A m n).1.1,2,(0,(fJ A m n).1.1,0,0,(A.b .shl .i64 1 (fJ A m n).1.1)),((fJ A m n).1.1,m.1,(A.b .shl .i64 1 (fJ A m n).1.1),1,0,0,0),0,(fJ A m n).1.2.2.2.2.2),(1,0,(0,0,0,0,0),(fJ A m n).1.1,([]:List Int)),true,0)))))))
def uM:mJ:=(0,0,(0,0,0,0,0),0,([]:List Int))
def yY(m:ak)(n:Node):Node×mJ×Bool×Int:=
 bif decide (bf m n=0) then
  bif decide (n.2.1=1) then
   bif decide (0<n.2.2.2.2.1-1) then((n.1,n.2.1,n.2.2.1,n.2.2.2.1,n.2.2.2.2.1-1,n.2.2.2.2.2),uM,false,0)
   else bif (ah.n .bool m.2.2.2.2.2.2.1 n.1:Bool) then((n.1,2,(0,n.1,0,0,ah.b .shl .i64 1 n.1),(n.1,m.1,ah.b .shl .i64 1 n.1,1,0,0,0),0,n.2.2.2.2.2),(1,0,(0,0,0,0,0),n.1,([]:List Int)),true,0)
   else((n.1,n.2.1,n.2.2.1,n.2.2.2.1,(mC m n.1).1,n.2.2.2.2.2),uM,false,0)
  else(eY,uM,false,181)
 else(eY,uM,false,bf m n)
theorem Tf{m:ak}{n:Int}:(mC m n).1≤9223372036854775807:=by
 unfold mC
 cases decide (gV m n=0)
 ·exact(by decide:(0:Int)≤9223372036854775807)
 ·rw[cond_true,cr,IntKind.wrap_i64];omega
theorem R3{m:ak}{n:Node}(h:bf m n=0)(h1:n.2.1=1):1≤n.2.2.2.2.1∧ah.b .sub .i64 n.2.2.2.2.1 1=n.2.2.2.2.1-1:=by
 have hc:=(bT.1 (aZ h).2).2.2.2.2.2.2.2.2.1
 rw[qi,aL h1,cond_true,jN] at hc
 have:=@Tf m n.1
 exact⟨hc.1,by rw[cn,iU (by omega) (by omega)]⟩
theorem adj{m:ak}{n:Node}:ay Empty.elim (XS ah m n) (yY m n):=by
 unfold XS fJ yY
 refine af.2 ⟨rfl,?_⟩
 rw[show ah.k gq (m,n,ah.c .eql n.2.1 1)=ia m n (ah.c .eql n.2.1 1) from rfl,aM,ia]
 by_cases h:bf m n=0
 ·rw[aL h,cond_true,cond_true]
  by_cases h1:n.2.1=1
  ·obtain⟨ht,es⟩:=R3 h h1
   have hi:=(bT.1 (aZ h).2).1
   have hl:=cX (aZ h).1
   rw[aL h1,cond_true,cond_true,es]
   refine(ai rfl).2 (ax (p:=0<n.2.2.2.2.1-1) rfl (fun h2=>?_) fun h2=>af.2 ⟨q_ hl.2.2.1 hi.1 (show n.1<m.1 by omega),?_⟩)
   ·exact au (by rw[aL h2];rfl) (.ret _)
   rw[aX h2,cond_false]
   show ay Empty.elim (.br (ah.not (ah.n .bool m.2.2.2.2.2.2.1 n.1:Bool)) _ _) _
   cases (ah.n .bool m.2.2.2.2.2.2.1 n.1:Bool)
   ·exact(aj rfl).2 (af.2 ⟨rfl,.ret _⟩)
   ·refine(ai rfl).2 (af.2 ⟨aL (show 0≤n.1 from hi.1),?_⟩)
    exact .ret _
  ·rw[aX h1]
   exact(aj rfl).2 (.ret _)
 ·rw[aX h];exact(aj (qH h)).2 (.ret _)
def Fz:(ak×Node)→(Node×mJ×Bool×Int):=fun(m,n)=>yY m n
def aef:aA:=⟨[aN,aC], [aC,w9,.bool,yI],(@tt (ak×Node)),Fz⟩
theorem ada:Sd 256 aef:=aS ar bR true 130 [] (fun A (m,n)=>XS A m n) (fc Tryz.func256 (fc Tryz.func139 fz)) (sc wX (sc FV sz)) fun(m,n) hp h=>adj
abbrev kW(A:aI)(m:ak)(n:Node):=(A.k gq (m,n,(A.k fq n)))
abbrev Br(A:aI)(m:ak)(n:Node):=(A.k VH ((kW A m n).1.2.2.1,m.1))
abbrev Mv(A:aI)(m:ak)(n:Node):LT (Node×Int) Empty:=(.ret (((kW A m n).1.1,(kW A m n).1.2.1,(Br A m n).1,(kW A m n).1.2.2.2),(Br A m n).2))
def Xz(A:aI)(m:ak)(n:Node):LT (Node×Int) Empty:=.need (A.k (@tt Node) n) (.need (A.k (@tt (ak×Node×Bool)) (m,n,(A.k fq n))) (.need (A.k (@tt (ak×Node×Bool)) (m,n,(A.k fq n))) (.need (A.k (@tt Node) n) (.br (A.c .neq (kW A m n).2 0) (.ret ((0,0,(0,0,0,0,0),(0,0,0,0,0,0,0),0,false,0,0,([]:List Int),([]:List dp),0,0),(kW A m n).2)) (.need (A.k (@tt (cq×Int)) ((kW A m n).1.2.2.1,m.1)) (.br (A.c .eql (Br A m n).2 0) (.br (A.c .eql (Br A m n).1.2.1 0) (.need (A.k (@tt cy) (kW A m n).1.2.2.2.2.2.2.2) (.ret (((kW A m n).1.1,(kW A m n).1.2.1,(Br A m n).1,(kW A m n).1.2.2.2.1,(kW A m n).1.2.2.2.2.1,(kW A m n).1.2.2.2.2.2.1,(kW A m n).1.2.2.2.2.2.2.1,(A.k O9 (kW A m n).1.2.2.2.2.2.2.2).1),(A.k O9 (kW A m n).1.2.2.2.2.2.2.2).2))) (Mv A m n)) (Mv A m n)))))))
def AI(m:ak)(n:Node):Node×Int:=
 bif decide (bf m n=0) then
  bif jJ n then
   bif decide ((kr n.2.2.1 m.1).1.2.1=0) then((n.1,n.2.1,(kr n.2.2.1 m.1).1,n.2.2.2.1,n.2.2.2.2.1,n.2.2.2.2.2.1,n.2.2.2.2.2.2.1,(Ab n.2.2.2.2.2.2.2).1),0)
   else((n.1,n.2.1,(kr n.2.2.1 m.1).1,n.2.2.2),0)
  else(eY,181)
 else(eY,bf m n)
theorem step_ok{m:ak}{n:Node}(h:bf m n=0)(h1:jJ n=true):(kr n.2.2.1 m.1).2=0:=by
 have hc:=(bT.1 (aZ h).2).2.2.2.2.2.2.2.1
 rw[ox,h1,cond_true,ck] at hc
 have hf:=hc.1
 simp only[dL,ck,jN] at hf
 rw[kr,aL hf.1]
 cases decide (n.2.2.1.2.1+1=m.1)<;>cases decide (n.2.2.1.2.2.2.1=0)<;>rfl
theorem XL{m:ak}{n:Node}(h:bf m n=0):(Ab n.2.2.2.2.2.2.2).2=0:=by
 rw[Ab,qT h];rfl
theorem aei{m:ak}{n:Node}:ay Empty.elim (Xz ah m n) (AI m n):=by
 unfold Xz Mv Br kW AI
 refine af.2 ⟨rfl,af.2 ⟨rfl,?_⟩⟩
 repeat' (refine af.2 ⟨rfl,?_⟩)
 rw[show ah.k gq (m,n,ah.k fq n)=ia m n (jJ n) from rfl,ia]
 by_cases h:bf m n=0
 ·rw[aL h,cond_true,cond_true]
  cases h1:jJ n
  ·exact(aj rfl).2 (.ret _)
  have hs:=step_ok h h1
  have hr:=XL h
  rw[cond_true,cond_true]
  refine(ai rfl).2 (af.2 ⟨rfl,(aj (QA hs)).2 (ax (p:=(kr n.2.2.1 m.1).1.2.1=0) aM (fun h2=>af.2 ⟨rfl,au ?_ (.ret _)⟩) fun h2=>au ?_ (.ret _))⟩)
  ·rw[aL h2];exact congrArg (Prod.mk _) hr
  ·rw[aX h2];exact congrArg (Prod.mk _) hs
 ·rw[aX h];exact(aj (qH h)).2 (.ret _)
def Vw:(ak×Node)→(Node×Int):=fun(m,n)=>AI m n
def afP:aA:=⟨[aN,aC], [aC,yI],(@tt (ak×Node)),Vw⟩
theorem afs:Sd 17 afP:=aS ar bR true 80 [] (fun A (m,n)=>Xz A m n) (fc Tryz.func17 fz) (sc rS (sc wX (sc acT (sc acb sz)))) fun(m,n) hp h=>aei
def t23(A:aI)(mId:Int)(mN:Int)(mSet:Int)(mAcc:Int)(mFail:Int)(mStage:Int)(mFirst:Int):LT (lQ×Int×Int) Empty:=.need (A.k (@tt ((Int×Int×Int×Int×Int×Int×Int))) (mId,mN,mSet,mAcc,mFail,mStage,mFirst)) (.br (A.c .neq (A.k lw (mId,mN,mSet,mAcc,mFail,mStage,mFirst)) 0) (.ret ((0,0,0,0,0,0,0),0,(A.k lw (mId,mN,mSet,mAcc,mFail,mStage,mFirst)))) (.br (A.c .leq mAcc mFail) (.ret ((mId,mN,mSet,mAcc,mFail,mStage,mFirst),2,0)) (.need (A.c .leq 0 mId) (.ret ((mId,mN,(A.b .or .i64 mSet (A.b .shl .i64 1 mId)),1,0,1,0),1,0)))))
def pY:lQ→(lQ×Int×Int):=fun(mId,mN,mSet,mAcc,mFail,mStage,mFirst)=>(t23 ah mId mN mSet mAcc mFail mStage mFirst).val (Ty.bi [kM,yI,yI])
def agQ:aA:=⟨[kM], [kM,yI,yI],(@tt lQ),pY⟩
theorem aaM:Sd 326 agQ:=aH ar bR true 67 [] (fun A (mId,mN,mSet,mAcc,mFail,mStage,mFirst)=>t23 A mId mN mSet mAcc mFail mStage mFirst) (fc Tryz.func326 fz) (sc Hd sz) (fun((mId,mN,mSet,mAcc,mFail,mStage,mFirst):lQ) hp h=>by
 show(t23 ah mId mN mSet mAcc mFail mStage mFirst).pre=true
 simp only[t23,LT.pre,D6,bne_iff_ne,beq_iff_eq,bne_eq_false_iff_eq,beq_eq_false_iff_ne]
 simp only[Ty.cv,Ty.has,ky] at h
 (repeat' (first|intro _|constructor))<;>(try (have hm:=dI.1 (by assumption);unfold iP at hm;omega)))
def t27(A:aI)(mId:Int)(mN:Int)(mSet:Int)(mAcc:Int)(mFail:Int)(mStage:Int)(mFirst:Int):LT (lQ×Int×Int) Empty:=.need (A.k (@tt ((Int×Int×Int×Int×Int×Int×Int))) (mId,mN,mSet,mAcc,mFail,mStage,mFirst)) (.br (A.c .eql (A.k lw (mId,mN,mSet,mAcc,mFail,mStage,mFirst)) 0) (.br (A.c .eql mAcc 0) (.br (A.c .eql mFail 0) (.ret ((mId,mN,mSet,mAcc,mFail,mStage,mFirst),3,0)) (.need (A.k (@tt lQ) (mId,mN,mSet,mAcc,mFail,mStage,mFirst)) (.ret (A.k pY (mId,mN,mSet,mAcc,mFail,mStage,mFirst))))) (.need (A.k (@tt lQ) (mId,mN,mSet,mAcc,mFail,mStage,mFirst)) (.ret (A.k pY (mId,mN,mSet,mAcc,mFail,mStage,mFirst))))) (.need (A.k (@tt lQ) (mId,mN,mSet,mAcc,mFail,mStage,mFirst)) (.ret (A.k pY (mId,mN,mSet,mAcc,mFail,mStage,mFirst)))))
def u5:lQ→(lQ×Int×Int):=fun(mId,mN,mSet,mAcc,mFail,mStage,mFirst)=>(t27 ah mId mN mSet mAcc mFail mStage mFirst).val (Ty.bi [kM,yI,yI])
def ahR:aA:=⟨[kM], [kM,yI,yI],(@tt lQ),u5⟩
theorem ags:Sd 327 ahR:=aH ar bR true 43 [] (fun A (mId,mN,mSet,mAcc,mFail,mStage,mFirst)=>t27 A mId mN mSet mAcc mFail mStage mFirst) (fc Tryz.func327 fz) (sc aaM (sc Hd sz)) (fun((mId,mN,mSet,mAcc,mFail,mStage,mFirst):lQ) hp h=>by
 show(t27 ah mId mN mSet mAcc mFail mStage mFirst).pre=true
 simp only[t27,LT.pre,D6,bne_iff_ne,beq_iff_eq,bne_eq_false_iff_eq,beq_eq_false_iff_ne]
 simp only[Ty.cv,Ty.has,ky,vV] at h
 (repeat' (first|intro _|constructor))<;>(try omega))
abbrev NJ(A:aI)(n:Node):LT (lQ×Int) Empty:=(.br (A.c .eql n.2.1 3) (.need (A.k (@tt lQ) n.2.2.2.1) (.br (A.c .neq (A.k u5 n.2.2.2.1).2.2 0) (.ret (n.2.2.2.1,4)) (.ret ((A.k u5 n.2.2.2.1).1,(A.k u5 n.2.2.2.1).2.1)))) (.need (A.k (@tt lQ) n.2.2.2.1) (.br (A.c .neq (A.k pY n.2.2.2.1).2.2 0) (.ret (n.2.2.2.1,4)) (.ret ((A.k pY n.2.2.2.1).1,(A.k pY n.2.2.2.1).2.1)))))
def X3(A:aI)(n:Node):LT (lQ×Int) Empty:=.br (A.c .eql n.2.1 2) (.br (A.c .lss n.2.2.2.1.2.2.2.1 2) (.ret (n.2.2.2.1,4)) (.br (A.c .leq n.2.2.2.1.2.2.2.1 n.2.2.2.1.2.2.2.2.1) (.ret (n.2.2.2.1,4)) (NJ A n))) (NJ A n)
def mW(n:Node):lQ×Int:=bif decide (n.2.1=2)&&(decide (n.2.2.2.1.2.2.2.1<2)||decide (n.2.2.2.1.2.2.2.1≤n.2.2.2.1.2.2.2.2.1)) then(n.2.2.2.1,4) else bif decide (n.2.1=3) then((u5 n.2.2.2.1).1,(u5 n.2.2.2.1).2.1) else((pY n.2.2.2.1).1,(pY n.2.2.2.1).2.1)
theorem R4{v:lQ}(h:mP v=0):(pY v).2.2=0:=by
 obtain⟨a,b,c,d,e,f,g⟩:=v
 simp only[pY,t23,LT.val,aB,chk,h]
 cases ah.c .leq d e<;>rfl
theorem abv{n:Node}(h:mP n.2.2.2.1=0):ay Empty.elim (X3 ah n) (mW n):=by
 unfold X3 NJ mW
 have h23:=R4 h
 have h27:(u5 n.2.2.2.1).2.2=0:=by
  generalize n.2.2.2.1=v at *
  obtain⟨a,b,c,d,e,f,g⟩:=v
  simp only[u5,t27,LT.val,aB,chk,h]
  simp only[Bool.cond_eq_ite]
  repeat' split
  all_goals first|rfl|exact h23
 have e23:ah.c .neq (ah.k pY n.2.2.2.1).2.2 0=false:=AN h23
 have e27:ah.c .neq (ah.k u5 n.2.2.2.1).2.2 0=false:=AN h27
 refine ax (p:=n.2.1=2) aM (fun g=>ax (p:=n.2.2.2.1.2.2.2.1<2) rfl (fun g1=>au ?_ (.ret _)) fun g1=>ax (p:=n.2.2.2.1.2.2.2.1≤n.2.2.2.1.2.2.2.2.1) rfl (fun g2=>au ?_ (.ret _)) fun g2=>(ai (by rw[aM];exact aX (by omega))).2 (af.2 ⟨rfl,(ai e23).2 (au ?_ (.ret _))⟩)) fun g=>ax (p:=n.2.1=3) aM (fun g3=>af.2 ⟨rfl,(ai e27).2 (au ?_ (.ret _))⟩) fun g3=>af.2 ⟨rfl,(ai e23).2 (au ?_ (.ret _))⟩
 ·rw[aL g,aL g1];rfl
 ·rw[aL g,aL g2,Bool.or_true];rfl
 ·rw[aL g,aX g1,aX g2,aX (show ¬n.2.1=3 by omega)];rfl
 ·rw[aX g,aL g3];rfl
 ·rw[aX g,aX g3];rfl
def zv:Node→(lQ×Int):=mW
def Pd:Node→Bool:=fun n=>decide (mP n.2.2.2.1=0)
def aeM:aA:=⟨[aC], [kM,yI],Pd,zv⟩
theorem afw:Sd 294 aeM:=aS ar bR true 83 [] (fun A n=>X3 A n) (fc Tryz.func294 fz) (sc aaM (sc ags sz)) fun(n:Node) hp h=>abv (of_decide_eq_true hp)
def Xq(m:ak)(k n:Int):Int:=ah.n yI (ah.n bX m.2.2.2.2.2.2.2 k:Mode).1 n
def Kj(m:ak)(n:Node):Int:=Xq m n.2.2.1.2.2.1 n.1
def aff(m:ak)(n:Node):Int:=bif decide ((ym m n.2.2.1 n.2.2.2.2.2.2.2.2.2.2.2).2=0) then(ym m n.2.2.1 n.2.2.2.2.2.2.2.2.2.2.2).1 else 0
def Ai(m:ak)(n:Node):mJ:=((fL m n.2.2.1.2.2.1 n.1).1,aff m n,n.2.2.1,0,bif decide ((fL m n.2.2.1.2.2.1 n.1).1=3) then([]:List Int) else(xW n.2.2.2.2.2.2.2 (Kj m n)).1)
def KM(m:ak)(n:Node):Bool:=decide ((fL m n.2.2.1.2.2.1 n.1).2=0)&&cK n.2.2.2.2.2.2.2
theorem Sy{m:ak}{n:Int}(hm:c_ m=true)(h1:0≤n∧n≤m.1-1)(x:Mode)(hx:jF m x=true):0≤x.1.getD n.toNat 0∧x.1.getD n.toNat 0≤8:=by
 have hl:=nZ hx
 have hc:=(cX hm).2.2.1
 simp only[jF,ck] at hx
 have ha:=hx.2
 have l1:m.2.2.2.2.2.2.1.length=x.1.length:=by omega
 have l2:x.2.1.length=x.1.length:=by omega
 rw[s5 l1 l2,ck] at ha
 have hi:n.toNat<x.1.length:=by omega
 rw[mU,sN hi]
 have:=List.all_eq_true.1 ha.1 _ (List.getElem_mem hi)
 simpa using this
theorem LY{m:ak}{k n:Int}(hm:c_ m=true)(h1:0≤n∧n≤m.1-1)(h2:0≤k∧k<dq m):0≤Xq m k n∧Xq m k n≤8:=Sy hm h1 _ (uF hm h2.1 h2.2)
theorem Qj{c:cy}{k:Int}(h:cK c=true)(h1:0≤k∧k≤8):(xW c k).2=0:=by
 rw[xW,h,cond_true,aL h1];rfl
abbrev IW(A:aI)(m:ak)(n:Node):=(A.n yI (A.n bX m.2.2.2.2.2.2.2 n.2.2.1.2.2.1:Mode).1 n.1:Int)
abbrev uA(A:aI)(m:ak)(n:Node):=(A.k rI (m,n.2.2.1.2.2.1,n.1))
abbrev ER(A:aI)(m:ak)(n:Node):=(A.k OU (n.2.2.2.2.2.2.2,(IW A m n)))
abbrev O1(A:aI)(m:ak)(n:Node):=(A.and (A.c .leq 0 n.1) (A.c .lss n.1 (A.l (A.n bX m.2.2.2.2.2.2.2 n.2.2.1.2.2.1:Mode).1)))
def Yy(A:aI)(m:ak)(n:Node):LT (mJ×Int) Empty:=.need (A.k (@tt (ak×Int×Int)) (m,n.2.2.1.2.2.1,n.1)) (.br (A.c .neq (uA A m n).2 0) (.ret ((0,0,(0,0,0,0,0),0,([]:List Int)),(uA A m n).2)) (.need (A.k (@tt (ak×cq×Int)) (m,n.2.2.1,n.2.2.2.2.2.2.2.2.2.2.2)) (.br (A.c .eql (A.k Eh (m,n.2.2.1,n.2.2.2.2.2.2.2.2.2.2.2)).2 0) (.br (A.c .eql (uA A m n).1 3) (.ret (((uA A m n).1,(A.k Eh (m,n.2.2.1,n.2.2.2.2.2.2.2.2.2.2.2)).1,n.2.2.1,0,([]:List Int)),0)) (.need (A.and (A.c .leq 0 n.2.2.1.2.2.1) (A.c .lss n.2.2.1.2.2.1 (A.l m.2.2.2.2.2.2.2))) (.need (O1 A m n) (.need (A.k (@tt (cy×Int)) (n.2.2.2.2.2.2.2,(IW A m n))) (.ret (((uA A m n).1,(A.k Eh (m,n.2.2.1,n.2.2.2.2.2.2.2.2.2.2.2)).1,n.2.2.1,0,(ER A m n).1),(ER A m n).2)))))) (.br (A.c .eql (uA A m n).1 3) (.ret (((uA A m n).1,0,n.2.2.1,0,([]:List Int)),0)) (.need (A.and (A.c .leq 0 n.2.2.1.2.2.1) (A.c .lss n.2.2.1.2.2.1 (A.l m.2.2.2.2.2.2.2))) (.need (O1 A m n) (.need (A.k (@tt (cy×Int)) (n.2.2.2.2.2.2.2,(IW A m n))) (.ret (((uA A m n).1,0,n.2.2.1,0,(ER A m n).1),(ER A m n).2)))))))))
theorem ac4{m:ak}{n:Node}(h:KM m n=true):ay Empty.elim (Yy ah m n) (Ai m n,0):=by
 rw[KM,ck,jN] at h
 obtain⟨hm,h1,h2⟩:=qR h.1
 have hx:=nZ (uF hm h2.1 h2.2)
 have hz:=Qj h.2 (LY hm h1 h2)
 unfold Yy O1 ER uA IW Ai aff
 rw[show ah.k rI (m,n.2.2.1.2.2.1,n.1)=fL m n.2.2.1.2.2.1 n.1 from rfl,show ah.k Eh (m,n.2.2.1,n.2.2.2.2.2.2.2.2.2.2.2)=ym m n.2.2.1 n.2.2.2.2.2.2.2.2.2.2.2 from rfl,show ah.k OU (n.2.2.2.2.2.2.2,(ah.n yI (ah.n bX m.2.2.2.2.2.2.2 n.2.2.1.2.2.1:Mode).1 n.1:Int))=xW n.2.2.2.2.2.2.2 (Kj m n) from rfl]
 have tl:∀q:Int,ay (R:=mJ×Int) Empty.elim (.br (ah.c .eql (fL m n.2.2.1.2.2.1 n.1).1 3) (.ret (((fL m n.2.2.1.2.2.1 n.1).1,q,n.2.2.1,0,([]:List Int)),0)) (.need (ah.and (ah.c .leq 0 n.2.2.1.2.2.1) (ah.c .lss n.2.2.1.2.2.1 (ah.l m.2.2.2.2.2.2.2))) (.need (ah.and (ah.c .leq 0 n.1) (ah.c .lss n.1 (ah.l (ah.n bX m.2.2.2.2.2.2.2 n.2.2.1.2.2.1:Mode).1))) (.need true (.ret (((fL m n.2.2.1.2.2.1 n.1).1,q,n.2.2.1,0,(xW n.2.2.2.2.2.2.2 (Kj m n)).1),(xW n.2.2.2.2.2.2.2 (Kj m n)).2)))))) (((fL m n.2.2.1.2.2.1 n.1).1,q,n.2.2.1,0,bif decide ((fL m n.2.2.1.2.2.1 n.1).1=3) then([]:List Int) else(xW n.2.2.2.2.2.2.2 (Kj m n)).1),0):=fun q=>
  ax (p:=(fL m n.2.2.1.2.2.1 n.1).1=3) aM (fun g=>au (by rw[aL g];rfl) (.ret _)) fun g=>af.2 ⟨qK h2.1 h2.2,af.2 ⟨q_ hx.1 h1.1 (by omega),af.2 ⟨rfl,au (by rw[aX g,show(xW n.2.2.2.2.2.2.2 (Kj m n)).2=0 from hz];rfl) (.ret _)⟩⟩⟩
 refine af.2 ⟨rfl,(ai (AN h.1)).2 (af.2 ⟨rfl,ax (p:=(ym m n.2.2.1 n.2.2.2.2.2.2.2.2.2.2.2).2=0) aM (fun g=>?_) fun g=>?_⟩)⟩
 ·rw[aL g];exact tl _
 ·rw[aX g];exact tl _
def rF:(ak×Node)→(mJ×Int):=fun(m,n)=>(Ai m n,0)
def Po:(ak×Node)→Bool:=fun(m,n)=>KM m n
def adY:aA:=⟨[aN,aC], [w9,yI],Po,rF⟩
theorem abE:Sd 296 adY:=aS ar bR true 111 [] (fun A (m,n)=>Yy A m n) (fc Tryz.func296 fz) (sc Vn (sc abB (sc abi sz))) fun((m,n):ak×Node) hp h=>ac4 hp
def Xs(n:Node)(v:lQ):Node:=(n.1,4,(n.2.2.1.1,n.2.2.1.2.1,n.2.2.1.2.2.1,n.2.2.1.2.2.2.1,v.2.2.1),v,n.2.2.2.2.1,false,n.2.2.2.2.2.2)
def XH(n:Node)(s t:Int)(b:Bool)(st:Int):Node:=(n.1,s,(0,0,0,0,0),(0,0,0,0,0,0,0),t,b,st,n.2.2.2.2.2.2.2)
def TG(m:ak)(n:Node):Node×mJ×Bool×Int:=((n.1,n.2.1,kV m n.2.2.1 (Ai m n).2.1,n.2.2.2),Ai m n,true,0)
def Ba(m:ak)(n:Node):Node×mJ×Bool×Int:=bif decide ((mW n).2=2) then(XH n 5 0 false 1,uM,false,0) else bif decide ((mW n).2=3) then(XH n 1 (mC m n.1).1 n.2.2.2.2.2.1 2,uM,false,0) else bif decide ((mW n).2=4) then(XH n 1 (Av m n.1).1 n.2.2.2.2.2.1 n.2.2.2.2.2.2.1,uM,false,0) else TG m (Xs n (mW n).1)
def Mp(m:ak)(n:Node):Node×mJ×Bool×Int:=bif decide (bf m n=0) then(bif jJ n&&decide (n.2.2.1.2.1=n.1) then Ba m n else(eY,uM,false,181)) else(eY,uM,false,bf m n)
theorem jP{m:ak}{n:Node}(h:bf m n=0)(h1:jJ n=true):dL m n.2.2.1=true∧mP n.2.2.2.1=0∧n.2.2.2.1.1=n.1∧n.2.2.2.1.2.1=m.1∧n.2.2.1.2.2.2.2=n.2.2.2.1.2.2.1:=by
 have hc:=(bT.1 (aZ h).2).2.2.2.2.2.2.2.1
 rw[ox,h1,cond_true] at hc
 simpa only[ck,jN] using hc
theorem RZ{m:ak}{k n:Int}(hm:c_ m=true)(h1:0≤n∧n≤m.1-1)(h2:0≤k∧k<dq m):(fL m k n).2=0:=by
 rw[fL,gV,hm,cond_true,aL h1,aL (show 0≤k∧k≤dq m-1 by omega)];rfl
theorem uq{m:ak}{c:cq}(h:dL m c=true):jZ (c,m.1)=0∧(0≤c.2.2.1∧c.2.2.1<dq m)∧c.2.2.2.1≤dq m:=by
 simp only[dL,ck,jN] at h
 exact⟨h.1,⟨(p8 h.1).2.2.2.1.1,h.2.1⟩,h.2.2⟩
theorem Ye{m:ak}{n:Node}{v:lQ}(h:bf m n=0)(h1:jJ n=true):KM m (Xs n v)=true:=by
 have hz:=bT.1 (aZ h).2
 rw[KM,ck]
 exact⟨aL (RZ (aZ h).1 hz.1 (uq (jP h h1).1).2.1),show cK n.2.2.2.2.2.2.2=true from qT h⟩
theorem Wy{m:ak}{i:Int}:ah.k uz (m,i)=(mC m i).1:=rfl
theorem W9{m:ak}{i:Int}:ah.k N5 (m,i)=(Av m i).1:=rfl
structure Ik where
 (a0:Int) (a1:ak) (a2 a3:lQ) (a4:Int) (a5:Bool) (a6 a7 a8 a9:Int) (cN:lQ) (dF:Int) (a12:Node)
structure Nu where
 (b0:ak) (b1 b2:lQ) (b3:Int) (b4:Bool) (b5 b6 b7 b8:Int) (b9:lQ) (b10:Int) (b11:Node)
inductive Sg where
 | c0 (p:Ik)
 | c1 (p:Nu)
noncomputable def Yh:Sg→eT
 | .c0 p=>⟨[⟨251,91,(en [(2,.ptr 0 0),(4,.ptr 1 0),(5,.ptr 2 0),(8,.ptr 3 0),(9,vi p.a0)]),[.code (cw Tryz.f251 [1,1,0,0]),.code (cw Tryz.f251 [1,1,0,1]),.code (cw Tryz.f251 [1,1,1])],[],none⟩],[.flat false (dc aN p.a1),.flat false (dc kM p.a2++dc kM p.a3 ++ [vi p.a4,vb p.a5,vi p.a6,vi p.a7,.dn true,.dn true,vi p.a8,vi p.a9]),.flat false (dc kM p.cN ++ [vi p.dF,.dn true]),.flat false (dc aC p.a12),.dead]⟩
 | .c1 p=>⟨[⟨251,91,(en [(2,.ptr 0 0),(4,.ptr 1 0),(5,.ptr 2 0),(8,.ptr 3 0)]),[.code (cw Tryz.f251 [1,1,1,1,1,1,0]),.code (cw Tryz.f251 [1,1,1,1,1,1,1])],[],none⟩],[.flat false (dc aN p.b0),.flat false (dc kM p.b1++dc kM p.b2 ++ [vi p.b3,vb p.b4,vi p.b5,vi p.b6,.dn true,.dn true,vi p.b7,vi p.b8]),.flat false (dc kM p.b9 ++ [vi p.b10,.dn true]),.flat false (dc aC p.b11),.dead]⟩
def Zs(A:aI)(m:ak)(n:Node):LT (Node×mJ×Bool×Int) Sg:=.need (A.k (@tt Node) n) (.br (A.k fq n) (.need (A.k (@tt (ak×Node×Bool)) (m,n,(A.c .eql n.2.2.1.2.1 n.1))) (.need (A.k (@tt (ak×Node×Bool)) (m,n,(A.c .eql n.2.2.1.2.1 n.1))) (.eqs (((A.k fq n):Bool)=true) (.need (A.k (@tt Node) n) (.more (.c0 ⟨(A.k gq (m,n,(A.c .eql n.2.2.1.2.1 n.1))).2,m,(0,0,0,0,0,0,0),(0,0,0,0,0,0,0),0,false,0,0,0,0,(0,0,0,0,0,0,0),0,(A.k gq (m,n,(A.c .eql n.2.2.1.2.1 n.1))).1⟩)))))) (.need (A.k (@tt (ak×Node×Bool)) (m,n,false)) (.need (A.k (@tt (ak×Node×Bool)) (m,n,false)) (.eqs (((A.k fq n):Bool)=false) (.need (A.k (@tt Node) n) (.more (.c0 ⟨(A.k gq (m,n,false)).2,m,(0,0,0,0,0,0,0),(0,0,0,0,0,0,0),0,false,0,0,0,0,(0,0,0,0,0,0,0),0,(A.k gq (m,n,false)).1⟩)))))))
def F7(A:aI):Sg→LT (Node×mJ×Bool×Int) Sg
 | .c0 p=>.br (A.c .neq p.a0 0) (.ret ((0,0,(0,0,0,0,0),(0,0,0,0,0,0,0),0,false,0,0,([]:List Int),([]:List dp),0,0),(0,0,(0,0,0,0,0),0,([]:List Int)),false,p.a0)) (.need (A.k Pd p.a12) (.br (A.c .eql (A.k zv p.a12).2 2) (.ret ((p.a12.1,5,(0,0,0,0,0),(0,0,0,0,0,0,0),0,false,1,p.a12.2.2.2.2.2.2.2),(0,0,(0,0,0,0,0),0,([]:List Int)),false,0)) (.br (A.c .eql (A.k zv p.a12).2 3) (.need (A.k (@tt (ak×Int)) (p.a1,p.a12.1)) (.ret ((p.a12.1,1,(0,0,0,0,0),(0,0,0,0,0,0,0),(A.k uz (p.a1,p.a12.1)),p.a12.2.2.2.2.2.1,2,p.a12.2.2.2.2.2.2.2),(0,0,(0,0,0,0,0),0,([]:List Int)),false,0))) (.br (A.c .eql (A.k zv p.a12).2 4) (.need (A.k (@tt (ak×Int)) (p.a1,p.a12.1)) (.ret ((p.a12.1,1,(0,0,0,0,0),(0,0,0,0,0,0,0),(A.k N5 (p.a1,p.a12.1)),p.a12.2.2.2.2.2),(0,0,(0,0,0,0,0),0,([]:List Int)),false,0))) (.more (.c1 ⟨p.a1,p.a2,p.a3,p.a4,p.a5,p.a6,p.a7,p.a8,p.a9,p.cN,p.dF,(p.a12.1,4,(p.a12.2.2.1.1,p.a12.2.2.1.2.1,p.a12.2.2.1.2.2.1,p.a12.2.2.1.2.2.2.1,(A.k zv p.a12).1.2.2.1),(A.k zv p.a12).1,p.a12.2.2.2.2.1,false,p.a12.2.2.2.2.2.2)⟩))))))
 | .c1 p=>.need (A.k Po (p.b0,p.b11)) (.br (A.c .neq (A.k rF (p.b0,p.b11)).2 0) (.ret ((0,0,(0,0,0,0,0),(0,0,0,0,0,0,0),0,false,0,0,([]:List Int),([]:List dp),0,0),(0,0,(0,0,0,0,0),0,([]:List Int)),false,(A.k rF (p.b0,p.b11)).2)) (.need (A.k (@tt (ak×cq×Int)) (p.b0,p.b11.2.2.1,(A.k rF (p.b0,p.b11)).1.2.1)) (.need (A.k (@tt (ak×cq×Int)) (p.b0,p.b11.2.2.1,(A.k rF (p.b0,p.b11)).1.2.1)) (.br (A.c .eql (A.k qm (p.b0,p.b11.2.2.1,(A.k rF (p.b0,p.b11)).1.2.1)).2 0) (.ret ((p.b11.1,p.b11.2.1,(A.k qm (p.b0,p.b11.2.2.1,(A.k rF (p.b0,p.b11)).1.2.1)).1,p.b11.2.2.2),(A.k rF (p.b0,p.b11)).1,true,0)) (.ret (p.b11,(A.k rF (p.b0,p.b11)).1,true,0))))))
theorem V1{p:Nu}(h:KM p.b0 p.b11=true):ay (F7 ah) (.more (.c1 p)) (TG p.b0 p.b11):=by
 rw[al,F7,TG]
 rw[show ah.k rF (p.b0,p.b11)=(Ai p.b0 p.b11,0) from rfl,show ah.k qm (p.b0,p.b11.2.2.1,(Ai p.b0 p.b11,(0:Int)).1.2.1)=xr p.b0 p.b11.2.2.1 (Ai p.b0 p.b11).2.1 from rfl]
 refine af.2 ⟨h,(ai rfl).2 (af.2 ⟨rfl,af.2 ⟨rfl,ax (p:=(xr p.b0 p.b11.2.2.1 (Ai p.b0 p.b11).2.1).2=0) aM (fun g=>au ?_ (.ret _)) fun g=>au ?_ (.ret _)⟩⟩)⟩
 ·rw[kV,aL g];rfl
 ·rw[kV,aX g];rfl
theorem Zm{p:Ik}{m:ak}{n:Node}(h0:p.a0=0)(h1:p.a1=m)(h12:p.a12=n)(h:bf m n=0)(hi:jJ n=true):ay (F7 ah) (.more (.c0 p)) (Ba m n):=by
 subst h1 h12
 rw[al,F7,Ba,h0,Wy,W9,show ah.k zv p.a12=mW p.a12 from rfl]
 refine(ai rfl).2 (af.2 ⟨aL (jP h hi).2.1,ax (p:=(mW p.a12).2=2) aM (fun g=>au ?_ (.ret _)) fun g=>ax (p:=(mW p.a12).2=3) aM (fun g3=>af.2 ⟨rfl,au ?_ (.ret _)⟩) fun g3=>ax (p:=(mW p.a12).2=4) aM (fun g4=>af.2 ⟨rfl,au ?_ (.ret _)⟩) fun g4=>?_⟩)
 ·rw[aL g];rfl
 ·rw[aX g,aL g3];rfl
 ·rw[aX g,aX g3,aL g4];rfl
 ·rw[aX g,aX g3,aX g4]
  exact V1 (Ye h hi)
theorem agc{m:ak}{n:Node}:ay (F7 ah) (Zs ah m n) (Mp m n):=by
 unfold Zs Mp
 rw[show ah.k fq n=jJ n from rfl]
 refine af.2 ⟨rfl,?_⟩
 have no:∀q:Ik,q.a0=(ia m n false).2→ay (F7 ah) (.more (.c0 q)) (bif decide (bf m n=0) then(eY,uM,false,181) else(eY,uM,false,bf m n)):=fun q hq=>by
  rw[al,F7,hq,ia]
  by_cases h:bf m n=0
  ·rw[aL h];exact(aj rfl).2 (.ret _)
  ·rw[aX h];exact(aj (qH h)).2 (.ret _)
 cases hi:jJ n
 ·exact(ai rfl).2 (af.2 ⟨rfl,af.2 ⟨rfl,uB.2 ⟨rfl,af.2 ⟨rfl,no _ rfl⟩⟩⟩⟩)
 ·refine(aj rfl).2 (af.2 ⟨rfl,af.2 ⟨rfl,uB.2 ⟨rfl,af.2 ⟨rfl,?_⟩⟩⟩⟩)
  rw[show ∀w,ah.k gq (m,n,w)=ia m n w from fun _=>rfl,aM,Bool.true_and]
  by_cases hp:n.2.2.1.2.1=n.1
  ·rw[aL hp,cond_true]
   by_cases h:bf m n=0
   ·have e:ia m n true=(n,0):=by rw[ia,aL h];rfl
    rw[aL h,e]
    exact Zm rfl rfl rfl h hi
   ·have:=no ⟨(ia m n true).2,m,(0,0,0,0,0,0,0),(0,0,0,0,0,0,0),0,false,0,0,0,0,(0,0,0,0,0,0,0),0,(ia m n true).1⟩ (by rw[ia,ia,aX h];rfl)
    rw[aX h] at this ⊢
    exact this
  ·rw[aX hp];exact no _ rfl
def US:(ak×Node)→(Node×mJ×Bool×Int):=fun(m,n)=>Mp m n
def acH:aA:=⟨[aN,aC], [aC,w9,.bool,yI],(@tt (ak×Node)),US⟩
theorem acd:Sd 251 acH:=aT ar bR true 39 [] [⟨251,2, [[2,4,5,8,9]]⟩,⟨251,18, [[2,4,5,8]]⟩] (fun A (m,n)=>Zs A m n) F7 Yh (fc Tryz.func251 (fc Tryz.func53 (fc Tryz.func84 fz))) (sc rS (sc wX (sc FV (sc afw (sc ady (sc abE (sc Py sz))))))) (fun A y=>match y with |.c0 p=>⟨89,by kernel_rfl,by kernel_rfl⟩|.c1 p=>⟨74,by kernel_rfl,by kernel_rfl⟩) fun(m,n) hp h=>agc
theorem Nz{a b c d e f g:Int}(h:iP a b c d e f g)(h1:e<d):pY (a,b,c,d,e,f,g)=((a,b,jL c a,1,0,1,0),1,0):=by
 simp[pY,t23,LT.val,aB,aR,ap,dI.2 h,jL,show ¬d≤e from by omega]
theorem Rb{a b c d e f g:Int}(h:iP a b c d e f g)(h1:d≤e):pY (a,b,c,d,e,f,g)=((a,b,c,d,e,f,g),2,0):=by
 simp[pY,t23,LT.val,aB,aR,ap,dI.2 h,h1]
theorem inc_le{d:Int}(h0:0≤d)(h1:d≤1048576):0≤inc d∧inc d≤1048576:=by
 unfold inc;split<;>omega
theorem MI{a b c d e f g c' d' e':Int}(h:iP a b c d e f g)(h1:0≤c'∧c'<((2^b.toNat:Nat):Int))(h2:0≤d'∧d'≤1048576)(h3:0≤e'∧e'≤1048576):iP a b c' d' e' 0 0:=by
 unfold iP at h ⊢
 exact⟨h.1,h.2.1,h.2.2.1,h.2.2.2.1,by omega,by omega,h1.1,h1.2,h2.1,h2.2,h3.1,h3.2,by omega,by omega,fun h=>absurd rfl h,fun h=>by omega⟩
theorem MP{a b c d e f g s k:Int}(h:iP a b c d e f g)(h0:0≤s)(h1:s<b)(h2:s≠a)(hk:k=0∨k=1)(he:(nX ((a,b,c,d,e,f,g),s,k)).2=0) :
  ∃c' d' e' f' g',(nX ((a,b,c,d,e,f,g),s,k)).1=(a,b,c',d',e',f',g')∧iP a b c' d' e' f' g'∧lh c' s=true:=by
 have hm:=h
 unfold iP at hm
 have hp:=sD (n:=b.toNat) (by omega)
 have id:=inc_le (d:=d) (by omega) (by omega)
 have ie:=inc_le (d:=e) (by omega) (by omega)
 have I:=fun {c s:Int} (h:0≤c∧c<((2^b.toNat:Nat):Int)) (h':0≤s∧s<b)=>QY (c:=c) (s:=s) (n:=b) h.1 (by omega) h.2 h'.1 h'.2
 have D:=fun {c s:Int} (h:0≤c∧c<((2^b.toNat:Nat):Int)) (h':0≤s∧s<b)=>Ov (c:=c) (s:=s) (n:=b) h.1 (by omega) h.2 h'.1 (by omega)
 have BI:=fun {c s:Int} (h:0≤c∧c<((2^b.toNat:Nat):Int)) (h':0≤s∧s<b) {i:Int} (hi:0≤i)=>Jw (c:=c) (s:=s) (i:=i) h.1 (by omega) h'.1 (by omega) hi
 have BD:=fun {c s:Int} (h:0≤c∧c<((2^b.toNat:Nat):Int)) (h':0≤s∧s<b) {i:Int} (hi:0≤i)=>D7 (c:=c) (s:=s) (i:=i) h.1 (by omega) h'.1 (by omega) hi
 have hc:0≤c∧c<((2^b.toNat:Nat):Int):=⟨by omega,by omega⟩
 have ha:0≤a∧a<b:=⟨by omega,by omega⟩
 have hs:0≤s∧s<b:=⟨h0,h1⟩
 have hg:0≤g∧g<b:=⟨by omega,by omega⟩
 have hf:f=0∨f=1∨f=2:=by omega
 have sa:(a==s)=false:=by simp;omega
 rcases hf with rfl|rfl|rfl<;>rcases hk with rfl|rfl
 ·rw[Qp h h0 h1 h2]
  exact⟨_,_,_,_,_,rfl,MI h (I hc hs) id (by omega),by rw[BI hc hs h0];simp⟩
 ·exfalso
  revert he
  simp[nX,t25,zu,LT.val,aB,aR,aD,eD,eU.2 ⟨h,h0,h1,h2⟩,mZ h h0 h1 h2,GL]
 ·rw[Pv h h0 h1 h2]
  exact⟨_,_,_,_,_,rfl,MI h (I (I hc hs) ha) id (by omega),by rw[BI (I hc hs) ha h0,BI hc hs h0];simp⟩
 ·rw[JN h h0 h1 h2]
  refine⟨_,_,_,_,_,rfl,?_,by rw[BI hc hs h0];simp⟩
  have:=I hc hs
  unfold iP
  exact⟨by omega,by omega,by omega,by omega,by omega,by omega,by omega,by omega,by omega,by omega,by omega,by omega,by omega,by omega,fun _=>by
   rw[BI hc hs ha.1,hm.2.2.2.2.2.2.2.2.2.2.2.2.2.2.1 (by decide)];rfl,fun _=>h2⟩
 ·by_cases hsg:s=g
  ·subst hsg
   rw[Ja h h0 h1 h2]
   exact⟨_,_,_,_,_,rfl,MI h (I (I hc hs) ha) id (by omega),by rw[BI (I hc hs) ha h0,BI hc hs h0];simp⟩
  ·rw[IY h h0 h1 h2 hsg]
   exact⟨_,_,_,_,_,rfl,MI h (D (I (I hc hs) ha) hg) id ie,by
    have sg:(g != s)=true:=by simp;omega
    rw[BD (I (I hc hs) ha) hg h0,BI (I hc hs) ha h0,BI hc hs h0,sg];simp⟩
 ·by_cases hsg:s=g
  ·subst hsg
   exfalso
   revert he
   simp[nX,t25,zu,LT.val,aB,aR,aD,eD,eU.2 ⟨h,h0,h1,h2⟩,mZ h h0 h1 h2,Dg]
  ·rw[IG h h0 h1 h2 hsg]
   exact⟨_,_,_,_,_,rfl,MI h (D (I (I hc hs) hg) ha) id ie,by
    have sg:(a != s)=true:=by simp;omega
    rw[BD (I (I hc hs) hg) ha h0,BI (I hc hs) hg h0,BI hc hs h0,sg];simp⟩
theorem Ng{a b c d e f g s:Int}(h:iP a b c d e f g)(h0:0≤s)(h1:s<b)(h2:s≠a) :
  ∃c' f' g',nI ((a,b,c,d,e,f,g),s)=((a,b,c',d,e,f',g'),0)∧iP a b c' d e f' g':=by
 have hm:=h
 unfold iP at hm
 have hp:=sD (n:=b.toNat) (by omega)
 have hd:=Ov (c:=c) (s:=s) (n:=b) (by omega) (by omega) (by omega) h0 (by omega)
 have hb:f≠0→lh (pG c s) a=true:=fun hf=>by
  rw[D7 (by omega) (by omega) h0 (by omega) (by omega),hm.2.2.2.2.2.2.2.2.2.2.2.2.2.2.1 hf]
  simpa using h2
 by_cases hf:f=2
 ·subst hf
  by_cases hsg:g=s
  ·subst hsg
   refine⟨_,_,_,NL h h2,?_⟩
   unfold iP
   exact⟨by omega,by omega,by omega,by omega,by omega,by omega,by omega,by omega,by omega,by omega,by omega,by omega,by omega,by omega,fun _=>hb (by decide),fun h=>by omega⟩
  ·refine⟨_,_,_,MO h h0 h1 h2 hsg,?_⟩
   unfold iP
   exact⟨by omega,by omega,by omega,by omega,by omega,by omega,by omega,by omega,by omega,by omega,by omega,by omega,by omega,by omega,fun _=>hb (by decide),hm.2.2.2.2.2.2.2.2.2.2.2.2.2.2.2⟩
 ·refine⟨_,_,_,Nj h h0 h1 h2 hf,?_⟩
  unfold iP
  exact⟨by omega,by omega,by omega,by omega,by omega,by omega,by omega,by omega,by omega,by omega,by omega,by omega,by omega,by omega,hb,fun h=>absurd h hf⟩
theorem abl{a b c d e f g e':Int}(h:iP a b c d e f g)(h1:0≤e'∧e'≤1048576):iP a b c d e' f g:=by
 unfold iP at h ⊢
 exact⟨h.1,h.2.1,h.2.2.1,h.2.2.2.1,h.2.2.2.2.1,h.2.2.2.2.2.1,h.2.2.2.2.2.2.1,h.2.2.2.2.2.2.2.1,h.2.2.2.2.2.2.2.2.1,h.2.2.2.2.2.2.2.2.2.1,h1.1,h1.2,h.2.2.2.2.2.2.2.2.2.2.2.2⟩
theorem Jj{a b c d e f g:Int}(h:iP a b c d e f g):∃c' d' e' f' g' v,pY (a,b,c,d,e,f,g)=((a,b,c',d',e',f',g'),v,0)∧iP a b c' d' e' f' g'∧(v==1)=decide (e<d)∧(v=1→lh c' a=true):=by
 have hm:=h
 unfold iP at hm
 have hp:=sD (n:=b.toNat) (by omega)
 have hi:=QY (c:=c) (s:=a) (n:=b) (by omega) (by omega) (by omega) (by omega) (by omega)
 have hb:lh (jL c a) a=true:=by rw[Jw (by omega) (by omega) (by omega) (by omega) (by omega)];simp
 by_cases hde:e<d
 ·refine⟨_,_,_,_,_,_,Nz h hde,?_,by simp[hde],fun _=>hb⟩
  unfold iP
  exact⟨by omega,by omega,by omega,by omega,by omega,by omega,by omega,by omega,by omega,by omega,by omega,by omega,by omega,by omega,fun _=>hb,fun h=>by omega⟩
 ·exact⟨_,_,_,_,_,_,Rb h (by omega),h,by simp[hde],fun h=>by omega⟩
theorem N1{a b c d e f g:Int}(h:iP a b c d e f g):∃c' d' e' f' g' v,u5 (a,b,c,d,e,f,g)=((a,b,c',d',e',f',g'),v,0)∧iP a b c' d' e' f' g'∧(v==1)=decide (e<d):=by
 obtain⟨c',d',e',f',g',v,h1,h2,h3,_⟩:=Jj h
 by_cases hde:d=0∧e=0
 ·refine⟨c,d,e,f,g,3,?_,h,?_⟩
  ·obtain⟨rfl,rfl⟩:=hde
   simp[u5,t27,LT.val,aB,aD,dI.2 h]
  ·obtain⟨rfl,rfl⟩:=hde;decide
 ·refine⟨c',d',e',f',g',v,?_,h2,h3⟩
  rw[←h1]
  by_cases h0:d=0
  ·have he:(e==0)=false:=by simp;omega
   simp[u5,t27,LT.val,aB,aD,dI.2 h,h0,he]
  ·have hd:(d==0)=false:=by simpa using h0
   simp[u5,t27,LT.val,aB,aD,dI.2 h,hd]
theorem EO{c:Int×Int×Int×Int×Int}{w:Int}{o:Int×Int×Int×(Int×Int×(Int×Int×Int×Int×Int)×Int×List Int)×Int}:∀{l:List (Int×Int×(Int×List Int))} {k:Nat},mE c w k l=some o→o.1=3∧∃s∈l,s.1=2:=by
 intro l
 induction l with
 | nil=>intro k h;cases h
 | cons s l ih=>
   intro k h
   rw[mE] at h
   cases hb:(s.1==2&&(wP (s.2.2,c)).2)
   ·rw[hb,cond_false] at h
    obtain⟨h1,x,hx,h2⟩:=ih h
    exact⟨h1,x,List.mem_cons_of_mem _ hx,h2⟩
   ·rw[hb,cond_true] at h
    cases h
    rw[ck,beq_iff_eq] at hb
    exact⟨rfl,s,List.mem_cons_self ..,hb.1⟩
theorem CS{t p m n:Int}{seen:List (Int×Int×(Int×List Int))}{o:Int×Int×Int×(Int×Int×(Int×Int×Int×Int×Int)×Int×List Int)×Int}:∀{l:List Int} {i:Nat},nv t p m n seen i l=some o→o.1=3∧∃s∈seen,s.1=2:=by
 intro l
 induction l with
 | nil=>intro i h;cases h
 | cons v l ih=>
   intro i h
   rw[nv] at h
   cases hs:mE (t,p,m,n,v) (i:Int) 0 seen with
   | none=>rw[hs] at h;exact ih h
   | some o'=>rw[hs] at h;cases h;exact EO hs
theorem DO{c:Int×Int×Int×Int×Int}{w:Int}{o:Int×Int×Int×(Int×Int×(Int×Int×Int×Int×Int)×Int×List Int)×Int}:∀{l:List (Int×Int×(Int×List Int))} {k:Nat},mE c w k l=some o→o.2.1=w:=by
 intro l
 induction l with
 | nil=>intro k h;cases h
 | cons s l ih=>
   intro k h
   rw[mE] at h
   cases hb:(s.1==2&&(wP (s.2.2,c)).2)
   ·rw[hb,cond_false] at h;exact ih h
   ·rw[hb,cond_true] at h;cases h;rfl
theorem AQ{t p m n:Int}{seen:List (Int×Int×(Int×List Int))}{o:Int×Int×Int×(Int×Int×(Int×Int×Int×Int×Int)×Int×List Int)×Int}:∀{l:List Int} {i:Nat},nv t p m n seen i l=some o→∃k,k<l.length∧o.2.1=((i+k:Nat):Int):=by
 intro l
 induction l with
 | nil=>intro i h;cases h
 | cons v l ih=>
   intro i h
   rw[nv] at h
   cases hs:mE (t,p,m,n,v) (i:Int) 0 seen with
   | none=>
     rw[hs] at h
     obtain⟨k,h1,h2⟩:=ih h
     exact⟨k+1,by rw[List.length_cons];omega,by rw[h2];congr 1;omega⟩
   | some o'=>
     rw[hs] at h
     cases h
     exact⟨0,by rw[List.length_cons];omega,by rw[DO hs];rfl⟩
theorem sj{t p m n s sender:Int}{v:Int×Int×Int×Int×Int×Int×Int}{seen:List (Int×Int×(Int×List Int))}(h:(kt ((t,p,m,n,s),v,sender,seen)).2=0) :
  lw v=0∧0≤sender∧sender<v.2.1∧sender≠v.1∧((∃k,k<(Z5 (v,sender)).length∧(kt ((t,p,m,n,s),v,sender,seen)).1.1=3∧(kt ((t,p,m,n,s),v,sender,seen)).1.2.1=(k:Int))∨(kt ((t,p,m,n,s),v,sender,seen)).1.1=1∨(kt ((t,p,m,n,s),v,sender,seen)).1.1=2):=by
 rw[kt] at h ⊢
 cases h1:(lw v != 0||jZ ((t,p,m,n,s),v.2.1) != 0)
 ·rw[h1] at h
  rw[cond_false] at h ⊢
  cases h2:(decide (sender<0)||decide (v.2.1≤sender)||sender==v.1||seen.length != 2)
  ·rw[cond_false]
   simp only[Bool.or_eq_false_iff,bne_eq_false_iff_eq,decide_eq_false_iff_not,beq_eq_false_iff_ne] at h1 h2
   refine⟨h1.1,by omega,by omega,h2.1.2,?_⟩
   rw[yh]
   cases h3:nv t p m n seen 0 (Z5 (v,sender)) with
   | some o=>
     obtain⟨k,h4,h5⟩:=AQ h3
     exact .inl ⟨k,h4,(CS h3).1,by rw[Nat.zero_add] at h5;exact h5⟩
   | none=>
     right
     show(ov seen).1=1∨(ov seen).1=2
     rw[ov]
     cases seen.any fun s=>s.1 != 0
     ·exact .inl rfl
     ·exact .inr rfl
  ·rw[h2] at h;cases h
 ·rw[h1] at h;cases h
theorem tF{a b c d e f g s:Int}(h:iP a b c d e f g)(h0:0≤s)(h1:s<b)(h2:s≠a) :
  ∃c' f' g',nI ((a,b,c,d,e,f,g),s)=((a,b,c',d,e,f',g'),0)∧iP a b c' d e f' g'∧lh c' s=false:=by
 obtain⟨c',f',g',e1,e2⟩:=Ng h h0 h1 h2
 refine⟨c',f',g',e1,e2,?_⟩
 have hc:=afp h
 have hm:=h
 unfold iP at hm
 have:c'=pG c s:=by
  by_cases hf:f=2
  ·subst hf
   by_cases hsg:g=s
   ·subst hsg
    rw[NL h h2] at e1
    simp only[Prod.mk.injEq] at e1
    exact e1.1.2.2.1.symm
   ·rw[MO h h0 h1 h2 hsg] at e1
    simp only[Prod.mk.injEq] at e1
    exact e1.1.2.2.1.symm
  ·rw[Nj h h0 h1 h2 hf] at e1
   simp only[Prod.mk.injEq] at e1
   exact e1.1.2.2.1.symm
 rw[this,D7 (by omega) hc h0 (by omega) h0,bne_self_eq_false,Bool.and_false]
theorem QD{a b c d e f g s:Int}{k:Nat}(h:iP a b c d e f g)(h0:0≤s)(h1:s<b)(h2:s≠a)(hk:k<(Z5 ((a,b,c,d,e,f,g),s)).length):(nX ((a,b,c,d,e,f,g),s,(k:Int))).2=0∧((k:Int)=0∨(k:Int)=1):=by
 have hm:=h
 unfold iP at hm
 have hf:f=0∨f=1∨f=2:=by omega
 rw[Z5] at hk
 rcases hf with rfl|rfl|rfl
 ·rw[GL] at hk
  have:k=0:=by
   have:k<1:=hk
   omega
  subst this
  exact⟨by rw[show((0:Nat):Int)=0 from rfl,Qp h h0 h1 h2],.inl rfl⟩
 ·rw[Hu] at hk
  have:k<2:=hk
  have:k=0∨k=1:=by omega
  rcases this with rfl|rfl
  ·exact⟨by rw[show((0:Nat):Int)=0 from rfl,Pv h h0 h1 h2],.inl rfl⟩
  ·exact⟨by rw[show((1:Nat):Int)=1 from rfl,JN h h0 h1 h2],.inr rfl⟩
 ·by_cases hsg:s=g
  ·subst hsg
   rw[Dg] at hk
   have:k=0:=by
    have:k<1:=hk
    omega
   subst this
   exact⟨by rw[show((0:Nat):Int)=0 from rfl,Ja h h0 h1 h2],.inl rfl⟩
  ·rw[DI hsg] at hk
   have:k<2:=hk
   have:k=0∨k=1:=by omega
   rcases this with rfl|rfl
   ·exact⟨by rw[show((0:Nat):Int)=0 from rfl,IY h h0 h1 h2 hsg],.inl rfl⟩
   ·exact⟨by rw[show((1:Nat):Int)=1 from rfl,IG h h0 h1 h2 hsg],.inr rfl⟩
theorem Si{v:Int×Int×Int×Int×Int×Int×Int}{s:Int}{o:Int×Int×Int×(Int×Int×(Int×Int×Int×Int×Int)×Int×List Int)×Int}(h:o.1=1):jl (v,s,o)=nI (v,s):=by
 obtain⟨a,b,c,d,e,f,g⟩:=v
 obtain⟨k,w,ch,⟨fk,fr,⟨t,p,m,n,x⟩,ff,fd⟩,at'⟩:=o
 have h:k=1:=h
 subst h
 rfl
theorem DG{v:Int×Int×Int×Int×Int×Int×Int}{s:Int}{o:Int×Int×Int×(Int×Int×(Int×Int×Int×Int×Int)×Int×List Int)×Int}(h:o.1=2):jl (v,s,o)=Rc (v,s):=by
 obtain⟨a,b,c,d,e,f,g⟩:=v
 obtain⟨k,w,ch,⟨fk,fr,⟨t,p,m,n,x⟩,ff,fd⟩,at'⟩:=o
 have h:k=2:=h
 subst h
 rfl
theorem TJ{v:Int×Int×Int×Int×Int×Int×Int}{s:Int}{o:Int×Int×Int×(Int×Int×(Int×Int×Int×Int×Int)×Int×List Int)×Int}(h:o.1=3):jl (v,s,o)=nX (v,s,o.2.1):=by
 obtain⟨a,b,c,d,e,f,g⟩:=v
 obtain⟨k,w,ch,⟨fk,fr,⟨t,p,m,n,x⟩,ff,fd⟩,at'⟩:=o
 have h:k=3:=h
 subst h
 rfl
theorem Bn{t p m n x s a b c d e f g:Int}{seen:List (Int×Int×(Int×List Int))}(h:(kt ((t,p,m,n,x),(a,b,c,d,e,f,g),s,seen)).2=0) :
  ∃c' d' e' f' g',jl ((a,b,c,d,e,f,g),s,(kt ((t,p,m,n,x),(a,b,c,d,e,f,g),s,seen)).1)=((a,b,c',d',e',f',g'),0)∧iP a b c' d' e' f' g'∧lh c' s=((kt ((t,p,m,n,x),(a,b,c,d,e,f,g),s,seen)).1.1==3)∧0≤s∧s<b:=by
 obtain⟨h1,h2,h3,h4,h5⟩:=sj h
 have hok:=dI.1 h1
 have h3:s<b:=h3
 have h4:s≠a:=h4
 rcases h5 with ⟨k,hk,h6,h7⟩|h6|h6
 ·obtain⟨he,hk2⟩:=QD hok h2 h3 h4 hk
  obtain⟨c',d',e',f',g',e1,e2,e3⟩:=MP hok h2 h3 h4 hk2 he
  refine⟨c',d',e',f',g',?_,e2,by rw[e3,h6];rfl,h2,h3⟩
  rw[TJ h6,h7]
  exact Prod.ext e1 he
 ·obtain⟨c',f',g',e1,e2,e3⟩:=tF hok h2 h3 h4
  exact⟨c',d,e,f',g',by rw[Si h6];exact e1,e2,by rw[e3,h6];rfl,h2,h3⟩
 ·obtain⟨c',f',g',e1,e2,e3⟩:=tF hok h2 h3 h4
  have hm:=hok
  unfold iP at hm
  refine⟨c',d,inc e,f',g',?_,abl e2 (inc_le (by omega) (by omega)),by rw[e3,h6];rfl,h2,h3⟩
  rw[DG h6]
  exact Gr e1 (show 0≤e by omega) (show e≤1048576 by omega)
def t24(A:aI)(mId:Int)(mN:Int)(mSet:Int)(mAcc:Int)(mFail:Int)(mStage:Int)(mFirst:Int):LT Bool Empty:=.need (A.k (@tt ((Int×Int×Int×Int×Int×Int×Int))) (mId,mN,mSet,mAcc,mFail,mStage,mFirst)) (.br (A.c .eql (A.k lw (mId,mN,mSet,mAcc,mFail,mStage,mFirst)) 0) (.need (A.c .leq 0 mId) (.ret (A.c .eql (A.b .and .i64 (A.b .shr .i64 mSet mId) 1) 1))) (.ret false))
def Hr:lQ→Bool:=fun(mId,mN,mSet,mAcc,mFail,mStage,mFirst)=>(t24 ah mId mN mSet mAcc mFail mStage mFirst).val (Ty.bi [.bool])
def agu:aA:=⟨[kM], [.bool],(@tt lQ),Hr⟩
theorem ahF:Sd 54 agu:=aH ar bR true 27 [] (fun A (mId,mN,mSet,mAcc,mFail,mStage,mFirst)=>t24 A mId mN mSet mAcc mFail mStage mFirst) (fc Tryz.func54 fz) (sc Hd sz) (fun((mId,mN,mSet,mAcc,mFail,mStage,mFirst):lQ) hp h=>by
 show(t24 ah mId mN mSet mAcc mFail mStage mFirst).pre=true
 simp only[t24,LT.pre,D6,bne_iff_ne,beq_iff_eq,bne_eq_false_iff_eq,beq_eq_false_iff_ne]
 simp only[Ty.cv,Ty.has,ky] at h
 (repeat' (first|intro _|constructor))<;>(try (have hm:=dI.1 (by assumption);unfold iP at hm;omega)))
def Df:lz:=(2,0,0,uM,0)
def Lf:lz:=(0,0,0,uM,0)
def Cn(n:Node)(seen:List Seen):lz×Int:=kt (n.2.2.1,n.2.2.2.1,n.2.2.1.2.1,seen)
def Aj(m:ak)(n:Node)(o:lz):lz:=bif decide (o.1=3) && !(tL m n.2.2.1 o.2.2.2.1) then Df else o
def EQ(n:Node)(v:lQ):Node:=(n.1,n.2.1,(n.2.2.1.1,n.2.2.1.2.1,n.2.2.1.2.2.1,n.2.2.1.2.2.2.1,v.2.2.1),v,n.2.2.2.2)
def KD(n:Node)(o:lz):lQ:=(jl (n.2.2.2.1,n.2.2.1.2.1,o)).1
def Ga(m:ak)(n:Node)(f:mJ):Node:=(n.1,n.2.1,kV m n.2.2.1 f.2.1,n.2.2.2.1,n.2.2.2.2.1,n.2.2.2.2.2.1,n.2.2.2.2.2.2.1,bif decide (f.1=3) then n.2.2.2.2.2.2.2 else(mH n.2.2.2.2.2.2.2 n.2.2.1.2.1 f.2.2.2.2).1)
def zd(n:Node):Node:=bif decide (n.2.1=4) && !(Hr n.2.2.2.1) then(n.1,3,n.2.2) else n
def KT(m:ak)(n:Node)(o:lz):Node:=zd (bif decide (o.1=3) then Ga m (EQ n (KD n o)) o.2.2.2.1 else EQ n (KD n o))
def yp(m:ak)(n:Node)(seen:List Seen):Node×lz×Int:=bif decide (bf m n=0) then(bif jJ n&&decide (¬n.2.2.1.2.1=n.1) then(bif decide ((Cn n seen).2=0) then(KT m n (Aj m n (Cn n seen).1),Aj m n (Cn n seen).1,0) else(eY,Lf,(Cn n seen).2)) else(eY,Lf,181)) else(eY,Lf,bf m n)
theorem aaa{c:cq}{v:lQ}{s:Int}{seen:List Seen}(h:(kt (c,v,s,seen)).2=0):(jl (v,s,(kt (c,v,s,seen)).1)).2=0∧(jl (v,s,Df)).2=0:=by
 obtain⟨t,p,m,n,x⟩:=c
 obtain⟨a,b,c,d,e,f,g⟩:=v
 refine⟨?_,?_⟩
 ·obtain⟨c',d',e',f',g',e1,_⟩:=Bn h;rw[e1]
 ·obtain⟨h1,h2,h3,h4,_⟩:=sj h
  have hok:=dI.1 h1
  have h3:s<b:=h3
  have h4:s≠a:=h4
  obtain⟨c',f',g',e1,_⟩:=tF hok h2 h3 h4
  have hm:=hok
  unfold iP at hm
  rw[DG rfl,Gr e1 (show 0≤e by omega) (show e≤1048576 by omega)]
theorem JZ{m:ak}{n:Node}{f:mJ}(hn:bf m n=0)(h:tL m n.2.2.1 f=true):(mH n.2.2.2.2.2.2.2 n.2.2.1.2.1 f.2.2.2.2).2=0:=by
 have hd:=bT.1 (aZ hn).2
 simp only[tL,ck,jN] at h
 have hk:=qR h.1
 have hx:=LY hk.1 hk.2.1 hk.2.2
 have h8:(f.2.2.2.2.length:Int)≤8:=by
  rw[h.2.2]
  by_cases g:(fL m n.2.2.1.2.2.1 n.2.2.1.2.1).1=3
  ·rw[aL g];exact(by omega:(0:Int)≤8)
  ·rw[aX g];exact hx.2
 have e6:=hd.2.2.2.2.2.1
 rw[mH,hd.2.2.2.1,aL (show 0≤n.2.2.1.2.1∧n.2.2.1.2.1≤(n.2.2.2.2.2.2.2.2.2.1.length:Int)-1 by rw[e6];exact hk.2.1),aX (show ¬8<(f.2.2.2.2.length:Int) by omega)]
 rfl
theorem Jm{m:ak}{n:Node}{o:lz}(h:o.1=3)(h2:tL m n.2.2.1 o.2.2.2.1=false):Aj m n o=Df:=by rw[Aj,aL h,h2];rfl
theorem ES{m:ak}{n:Node}{o:lz}(h2:tL m n.2.2.1 o.2.2.2.1=true):Aj m n o=o:=by rw[Aj,h2,Bool.not_true,Bool.and_false];rfl
theorem M2{m:ak}{n:Node}{o:lz}(h:¬o.1=3):Aj m n o=o:=by rw[Aj,aX h];rfl
theorem UL{Y:Type}{step:Y→LT (Node×lz×Int) Y}{n:Node}{o:lz}{b:Bool}(hb:b=Hr n.2.2.2.1):ay step (.br (ah.c .eql n.2.1 4) (.need true (.br (ah.not b) (.ret ((n.1,3,n.2.2),o,0)) (.ret (n,o,0)))) (.ret (n,o,0))) (zd n,o,0):=by
 rw[zd]
 refine ax (p:=n.2.1=4) aM (fun h=>af.2 ⟨rfl,?_⟩) fun h=>au (by rw[aX h];rfl) (.ret _)
 rw[aL h,Bool.true_and,←hb]
 cases b
 ·exact(aj rfl).2 (.ret _)
 ·exact(ai rfl).2 (.ret _)
def on4(x:Node):Node:=(x.1,4,x.2.2.1,x.2.2.2.1,x.2.2.2.2.1,false,x.2.2.2.2.2.2)
structure M3 where
 (a0:List Seen) (a1:Int) (a2:ak) (a17:Node)
structure Oi where
 (b0:Int) (b1:ak) (bL:Node) (gK:lz)
structure O2 where
 (c14:Node)
structure Nv where
 (d0:ak) (g_:Node) (jm:lz)
structure ME where
 (e14:Node) (e15:lz)
structure NV where
 (f0:ak) (f15:Node) (f16:lz)
inductive TB where
 | c0 (p:M3)
 | c1 (p:Oi)
 | c2 (p:O2)
 | c3 (p:Nv)
 | c4 (p:ME)
 | c5 (p:NV)
noncomputable def X5:TB→eT
 | .c0 p=>⟨[⟨14,111,(en [(2,.sl aF p.a0),(3,.ptr 0 0),(6,.ptr 1 0),(7,.ptr 2 0),(9,.ptr 3 0),(10,vi p.a1)]),[.code (cw Tryz.f14 [1,1,0,0]),.code (cw Tryz.f14 [1,1,0,1]),.code (cw Tryz.f14 [1,1,1])],[],none⟩],[.flat false (dc aN p.a2),.flat false [vi 0,vi 0,vi 0,vi 0,vi 0,vi 0,vi 0,vi 0,vi 0,vi 0,vi 0,vi 0,vi 0,vi 0,vi 0,vb false,vi 0,vi 0,.dn true,.dn true,vi 0,vi 0],.flat false [vi 0,vi 0,vi 0,vi 0,vi 0,vi 0,vi 0,vi 0,vi 0,vi 0,vi 0,.dn true,vi 0],.flat false (dc aC p.a17),.dead]⟩
 | .c1 p=>⟨[⟨14,111,(en [(3,.ptr 0 0),(6,.ptr 1 0),(7,.ptr 2 0),(9,.ptr 3 0),(10,vi p.b0),(11,.ptr 4 0)]),[.code (cw Tryz.f14 [1,1,1,1,0,0]),.code (cw Tryz.f14 [1,1,1,1,0,1]),.code (cw Tryz.f14 [1,1,1,1,1])],[],none⟩],[.flat false (dc aN p.b1),.flat false [vi 0,vi 0,vi 0,vi 0,vi 0,vi 0,vi 0,vi 0,vi 0,vi 0,vi 0,vi 0,vi 0,vi 0,vi 0,vb false,vi 0,vi 0,.dn true,.dn true,vi 0,vi 0],.flat false [vi 0,vi 0,vi 0,vi 0,vi 0,vi 0,vi 0,vi 0,vi 0,vi 0,vi 0,.dn true,vi 0],.flat false (dc aC p.bL),.flat false (dc Fc p.gK),.dead]⟩
 | .c2 p=>⟨[⟨14,111,(en [(6,.ptr 0 0),(7,.ptr 1 0),(9,.ptr 2 0),(11,.ptr 3 0)]),[.code (cw Tryz.f14 [1,1,1,1,1,1,1,1,1,0,0]),.code (cw Tryz.f14 [1,1,1,1,1,1,1,1,1,0,1]),.code (cw Tryz.f14 [1,1,1,1,1,1,1,1,1,1])],[],none⟩],[.flat false [vi 0,vi 0,vi 0,vi 0,vi 0,vi 0,vi 0,vi 0,vi 0,vi 0,vi 0,vi 0,vi 0,vi 0,vi 0,vb false,vi 0,vi 0,.dn true,.dn true,vi 0,vi 0],.flat false [vi 0,vi 0,vi 0,vi 0,vi 0,vi 0,vi 0,vi 0,vi 0,vi 0,vi 0,.dn true,vi 0],.flat false (dc aC p.c14),.flat false [vi 2,vi 0,vi 0,vi 0,vi 0,vi 0,vi 0,vi 0,vi 0,vi 0,vi 0,.dn true,vi 0],.dead]⟩
 | .c3 p=>⟨[⟨14,111,(en [(3,.ptr 0 0),(6,.ptr 1 0),(7,.ptr 2 0),(9,.ptr 3 0),(11,.ptr 4 0)]),[.code (cw Tryz.f14 [1,1,1,1,1,1,1,1,0,1,0,0,0]),.code (cw Tryz.f14 [1,1,1,1,1,1,1,1,0,1,0,0,1]),.code (cw Tryz.f14 [1,1,1,1,1,1,1,1,0,1,0,1]),.code (cw Tryz.f14 [1,1,1,1,1,1,1,1,1])],[],none⟩],[.flat false (dc aN p.d0),.flat false [vi 0,vi 0,vi 0,vi 0,vi 0,vi 0,vi 0,vi 0,vi 0,vi 0,vi 0,vi 0,vi 0,vi 0,vi 0,vb false,vi 0,vi 0,.dn true,.dn true,vi 0,vi 0],.flat false [vi 0,vi 0,vi 0,vi 0,vi 0,vi 0,vi 0,vi 0,vi 0,vi 0,vi 0,.dn true,vi 0],.flat false (dc aC p.g_),.flat false (dc Fc p.jm),.dead]⟩
 | .c4 p=>⟨[⟨14,111,(en [(6,.ptr 0 0),(7,.ptr 1 0),(9,.ptr 2 0),(11,.ptr 3 0)]),[.code (cw Tryz.f14 [1,1,1,1,1,1,1,1,1,0,0]),.code (cw Tryz.f14 [1,1,1,1,1,1,1,1,1,0,1]),.code (cw Tryz.f14 [1,1,1,1,1,1,1,1,1,1])],[],none⟩],[.flat false [vi 0,vi 0,vi 0,vi 0,vi 0,vi 0,vi 0,vi 0,vi 0,vi 0,vi 0,vi 0,vi 0,vi 0,vi 0,vb false,vi 0,vi 0,.dn true,.dn true,vi 0,vi 0],.flat false [vi 0,vi 0,vi 0,vi 0,vi 0,vi 0,vi 0,vi 0,vi 0,vi 0,vi 0,.dn true,vi 0],.flat false (dc aC p.e14),.flat false (dc Fc p.e15),.dead]⟩
 | .c5 p=>⟨[⟨14,111,(en [(3,.ptr 0 0),(6,.ptr 1 0),(7,.ptr 2 0),(9,.ptr 3 0),(11,.ptr 4 0)]),[.code (cw Tryz.f14 [1,1,1,1,1,1,1,1,0,1,0,1]),.code (cw Tryz.f14 [1,1,1,1,1,1,1,1,1])],[],none⟩],[.flat false (dc aN p.f0),.flat false [vi 0,vi 0,vi 0,vi 0,vi 0,vi 0,vi 0,vi 0,vi 0,vi 0,vi 0,vi 0,vi 0,vi 0,vi 0,vb false,vi 0,vi 0,.dn true,.dn true,vi 0,vi 0],.flat false [vi 0,vi 0,vi 0,vi 0,vi 0,vi 0,vi 0,vi 0,vi 0,vi 0,vi 0,.dn true,vi 0],.flat false (dc aC p.f15),.flat false (dc Fc p.f16),.dead]⟩
def W_(A:aI)(m:ak)(n:Node)(seen:List Seen):LT (Node×lz×Int) TB:=.need (A.k (@tt Node) n) (.br (A.k fq n) (.need (A.k (@tt (ak×Node×Bool)) (m,n,(A.c .neq n.2.2.1.2.1 n.1))) (.need (A.k (@tt (ak×Node×Bool)) (m,n,(A.c .neq n.2.2.1.2.1 n.1))) (.eqs (((A.k fq n):Bool)=true) (.need (A.k (@tt Node) n) (.more (.c0 ⟨seen,(A.k gq (m,n,(A.c .neq n.2.2.1.2.1 n.1))).2,m,(A.k gq (m,n,(A.c .neq n.2.2.1.2.1 n.1))).1⟩)))))) (.need (A.k (@tt (ak×Node×Bool)) (m,n,false)) (.need (A.k (@tt (ak×Node×Bool)) (m,n,false)) (.eqs (((A.k fq n):Bool)=false) (.need (A.k (@tt Node) n) (.more (.c0 ⟨seen,(A.k gq (m,n,false)).2,m,(A.k gq (m,n,false)).1⟩)))))))
def r_(A:aI):TB→LT (Node×lz×Int) TB
 | .c0 p=>.br (A.c .neq p.a1 0) (.ret ((0,0,(0,0,0,0,0),(0,0,0,0,0,0,0),0,false,0,0,([]:List Int),([]:List dp),0,0),(0,0,0,(0,0,(0,0,0,0,0),0,([]:List Int)),0),p.a1)) (.need (A.k (@tt ((Int×Int×Int×Int×Int)×(Int×Int×Int×Int×Int×Int×Int)×Int×List (Int×Int×(Int×List Int)))) (p.a17.2.2.1,p.a17.2.2.2.1,p.a17.2.2.1.2.1,p.a0)) (.more (.c1 ⟨(A.k Zp (p.a17.2.2.1,p.a17.2.2.2.1,p.a17.2.2.1.2.1,p.a0)).2,p.a2,p.a17,(A.k Zp (p.a17.2.2.1,p.a17.2.2.2.1,p.a17.2.2.1.2.1,p.a0)).1⟩)))
 | .c1 p=>.br (A.c .neq p.b0 0) (.ret ((0,0,(0,0,0,0,0),(0,0,0,0,0,0,0),0,false,0,0,([]:List Int),([]:List dp),0,0),(0,0,0,(0,0,(0,0,0,0,0),0,([]:List Int)),0),p.b0)) (.br (A.c .eql p.gK.1 3) (.need (A.k (@tt (ak×cq×mJ)) (p.b1,p.bL.2.2.1,p.gK.2.2.2.1)) (.br (A.not (A.k JX (p.b1,p.bL.2.2.1,p.gK.2.2.2.1))) (.need (A.k (@tt ((Int×Int×Int×Int×Int×Int×Int)×Int×(Int×Int×Int×(Int×Int×(Int×Int×Int×Int×Int)×Int×List Int)×Int))) (p.bL.2.2.2.1,p.bL.2.2.1.2.1,2,0,0,(0,0,(0,0,0,0,0),0,([]:List Int)),0)) (.br (A.c .neq (A.k jl (p.bL.2.2.2.1,p.bL.2.2.1.2.1,2,0,0,(0,0,(0,0,0,0,0),0,([]:List Int)),0)).2 0) (.ret ((0,0,(0,0,0,0,0),(0,0,0,0,0,0,0),0,false,0,0,([]:List Int),([]:List dp),0,0),(0,0,0,(0,0,(0,0,0,0,0),0,([]:List Int)),0),(A.k jl (p.bL.2.2.2.1,p.bL.2.2.1.2.1,2,0,0,(0,0,(0,0,0,0,0),0,([]:List Int)),0)).2)) (.more (.c2 ⟨(p.bL.1,p.bL.2.1,(p.bL.2.2.1.1,p.bL.2.2.1.2.1,p.bL.2.2.1.2.2.1,p.bL.2.2.1.2.2.2.1,(A.k jl (p.bL.2.2.2.1,p.bL.2.2.1.2.1,2,0,0,(0,0,(0,0,0,0,0),0,([]:List Int)),0)).1.2.2.1),(A.k jl (p.bL.2.2.2.1,p.bL.2.2.1.2.1,2,0,0,(0,0,(0,0,0,0,0),0,([]:List Int)),0)).1,p.bL.2.2.2.2)⟩)))) (.need (A.k (@tt ((Int×Int×Int×Int×Int×Int×Int)×Int×(Int×Int×Int×(Int×Int×(Int×Int×Int×Int×Int)×Int×List Int)×Int))) (p.bL.2.2.2.1,p.bL.2.2.1.2.1,p.gK)) (.br (A.c .neq (A.k jl (p.bL.2.2.2.1,p.bL.2.2.1.2.1,p.gK)).2 0) (.ret ((0,0,(0,0,0,0,0),(0,0,0,0,0,0,0),0,false,0,0,([]:List Int),([]:List dp),0,0),(0,0,0,(0,0,(0,0,0,0,0),0,([]:List Int)),0),(A.k jl (p.bL.2.2.2.1,p.bL.2.2.1.2.1,p.gK)).2)) (.br (A.c .eql p.gK.1 3) (.more (.c3 ⟨p.b1,(p.bL.1,p.bL.2.1,(p.bL.2.2.1.1,p.bL.2.2.1.2.1,p.bL.2.2.1.2.2.1,p.bL.2.2.1.2.2.2.1,(A.k jl (p.bL.2.2.2.1,p.bL.2.2.1.2.1,p.gK)).1.2.2.1),(A.k jl (p.bL.2.2.2.1,p.bL.2.2.1.2.1,p.gK)).1,p.bL.2.2.2.2),p.gK⟩)) (.more (.c4 ⟨(p.bL.1,p.bL.2.1,(p.bL.2.2.1.1,p.bL.2.2.1.2.1,p.bL.2.2.1.2.2.1,p.bL.2.2.1.2.2.2.1,(A.k jl (p.bL.2.2.2.1,p.bL.2.2.1.2.1,p.gK)).1.2.2.1),(A.k jl (p.bL.2.2.2.1,p.bL.2.2.1.2.1,p.gK)).1,p.bL.2.2.2.2),p.gK⟩))))))) (.need (A.k (@tt ((Int×Int×Int×Int×Int×Int×Int)×Int×(Int×Int×Int×(Int×Int×(Int×Int×Int×Int×Int)×Int×List Int)×Int))) (p.bL.2.2.2.1,p.bL.2.2.1.2.1,p.gK)) (.br (A.c .neq (A.k jl (p.bL.2.2.2.1,p.bL.2.2.1.2.1,p.gK)).2 0) (.ret ((0,0,(0,0,0,0,0),(0,0,0,0,0,0,0),0,false,0,0,([]:List Int),([]:List dp),0,0),(0,0,0,(0,0,(0,0,0,0,0),0,([]:List Int)),0),(A.k jl (p.bL.2.2.2.1,p.bL.2.2.1.2.1,p.gK)).2)) (.br (A.c .eql p.gK.1 3) (.more (.c3 ⟨p.b1,(p.bL.1,p.bL.2.1,(p.bL.2.2.1.1,p.bL.2.2.1.2.1,p.bL.2.2.1.2.2.1,p.bL.2.2.1.2.2.2.1,(A.k jl (p.bL.2.2.2.1,p.bL.2.2.1.2.1,p.gK)).1.2.2.1),(A.k jl (p.bL.2.2.2.1,p.bL.2.2.1.2.1,p.gK)).1,p.bL.2.2.2.2),p.gK⟩)) (.more (.c4 ⟨(p.bL.1,p.bL.2.1,(p.bL.2.2.1.1,p.bL.2.2.1.2.1,p.bL.2.2.1.2.2.1,p.bL.2.2.1.2.2.2.1,(A.k jl (p.bL.2.2.2.1,p.bL.2.2.1.2.1,p.gK)).1.2.2.1),(A.k jl (p.bL.2.2.2.1,p.bL.2.2.1.2.1,p.gK)).1,p.bL.2.2.2.2),p.gK⟩))))))
 | .c2 p=>.br (A.c .eql p.c14.2.1 4) (.need (A.k (@tt lQ) p.c14.2.2.2.1) (.br (A.not (A.k Hr p.c14.2.2.2.1)) (.ret ((p.c14.1,3,p.c14.2.2),(2,0,0,(0,0,(0,0,0,0,0),0,([]:List Int)),0),0)) (.ret (p.c14,(2,0,0,(0,0,(0,0,0,0,0),0,([]:List Int)),0),0)))) (.ret (p.c14,(2,0,0,(0,0,(0,0,0,0,0),0,([]:List Int)),0),0))
 | .c3 p=>.br (A.c .neq p.jm.2.2.2.1.1 3) (.need (A.k (@tt (cy×Int×List Int)) (p.g_.2.2.2.2.2.2.2,p.g_.2.2.1.2.1,p.jm.2.2.2.1.2.2.2.2)) (.need (A.k (@tt (cy×Int×List Int)) (p.g_.2.2.2.2.2.2.2,p.g_.2.2.1.2.1,p.jm.2.2.2.1.2.2.2.2)) (.br (A.c .eql (A.k wR (p.g_.2.2.2.2.2.2.2,p.g_.2.2.1.2.1,p.jm.2.2.2.1.2.2.2.2)).2 0) (.more (.c5 ⟨p.d0,(p.g_.1,p.g_.2.1,p.g_.2.2.1,p.g_.2.2.2.1,p.g_.2.2.2.2.1,p.g_.2.2.2.2.2.1,p.g_.2.2.2.2.2.2.1,(A.k wR (p.g_.2.2.2.2.2.2.2,p.g_.2.2.1.2.1,p.jm.2.2.2.1.2.2.2.2)).1),p.jm⟩)) (.more (.c5 ⟨p.d0,p.g_,p.jm⟩))))) (.more (.c5 ⟨p.d0,p.g_,p.jm⟩))
 | .c4 p=>.br (A.c .eql p.e14.2.1 4) (.need (A.k (@tt lQ) p.e14.2.2.2.1) (.br (A.not (A.k Hr p.e14.2.2.2.1)) (.ret ((p.e14.1,3,p.e14.2.2),p.e15,0)) (.ret (p.e14,p.e15,0)))) (.ret (p.e14,p.e15,0))
 | .c5 p=>.need (A.k (@tt (ak×cq×Int)) (p.f0,p.f15.2.2.1,p.f16.2.2.2.1.2.1)) (.need (A.k (@tt (ak×cq×Int)) (p.f0,p.f15.2.2.1,p.f16.2.2.2.1.2.1)) (.br (A.c .eql (A.k qm (p.f0,p.f15.2.2.1,p.f16.2.2.2.1.2.1)).2 0) (.more (.c4 ⟨(p.f15.1,p.f15.2.1,(A.k qm (p.f0,p.f15.2.2.1,p.f16.2.2.2.1.2.1)).1,p.f15.2.2.2),p.f16⟩)) (.more (.c4 ⟨p.f15,p.f16⟩))))
theorem G8{p:ME}:ay (r_ ah) (.more (.c4 p)) (zd p.e14,p.e15,0):=by
 rw[al,r_];exact UL rfl
theorem V6{p:O2}:ay (r_ ah) (.more (.c2 p)) (zd p.c14,Df,0):=by
 rw[al,r_];exact UL rfl
theorem Q0{p:NV}:ay (r_ ah) (.more (.c5 p)) (zd (p.f15.1,p.f15.2.1,kV p.f0 p.f15.2.2.1 p.f16.2.2.2.1.2.1,p.f15.2.2.2),p.f16,0):=by
 rw[al,r_,kV]
 refine af.2 ⟨rfl,af.2 ⟨rfl,?_⟩⟩
 rw[show ∀x,ah.k qm x=xr x.1 x.2.1 x.2.2 from fun _=>rfl]
 refine ax (p:=(xr p.f0 p.f15.2.2.1 p.f16.2.2.2.1.2.1).2=0) aM (fun g=>?_) fun g=>?_
 ·rw[aL g];exact G8
 ·rw[aX g];exact G8
theorem Zi{p:Nv}(h:(mH p.g_.2.2.2.2.2.2.2 p.g_.2.2.1.2.1 p.jm.2.2.2.1.2.2.2.2).2=0):ay (r_ ah) (.more (.c3 p)) (zd (Ga p.d0 p.g_ p.jm.2.2.2.1),p.jm,0):=by
 rw[al,r_,Ga]
 refine ax (p:=¬p.jm.2.2.2.1.1=3) aQ (fun g=>af.2 ⟨rfl,af.2 ⟨rfl,?_⟩⟩) fun g=>?_
 ·rw[aX g,show ∀x,ah.k wR x=mH x.1 x.2.1 x.2.2 from fun _=>rfl]
  exact(aj (QA h)).2 Q0
 ·rw[aL (Decidable.not_not.1 g)];exact Q0
theorem Z0{p:Oi}{m:ak}{n:Node}{S:lz×Int}(h0:p.b0=S.2)(h1:p.b1=m)(h2:p.bL=n)(h3:p.gK=S.1)(hn:bf m n=0)(ha:S.2=0→(jl (n.2.2.2.1,n.2.2.1.2.1,S.1)).2=0∧(jl (n.2.2.2.1,n.2.2.1.2.1,Df)).2=0):ay (r_ ah) (.more (.c1 p)) (bif decide (S.2=0) then(KT m n (Aj m n S.1),Aj m n S.1,0) else(eY,Lf,S.2)):=by
 subst h1 h2
 rw[al,r_,h0,h3]
 refine ax (p:=¬S.2=0) aQ (fun g=>au (by rw[aX g];rfl) (.ret _)) fun g=>?_
 have g:=Decidable.not_not.1 g
 obtain⟨a1,a2⟩:=ha g
 rw[aL g,cond_true]
 rw[show ah.k JX (p.b1,p.bL.2.2.1,S.1.2.2.2.1)=tL p.b1 p.bL.2.2.1 S.1.2.2.2.1 from rfl]
 have e1:ah.c .neq (ah.k jl (p.bL.2.2.2.1,p.bL.2.2.1.2.1,S.1)).2 0=false:=by rw[aB,a1];rfl
 have e2:ah.c .neq (ah.k jl (p.bL.2.2.2.1,p.bL.2.2.1.2.1,2,0,0,(0,0,(0,0,0,0,0),0,([]:List Int)),0)).2 0=false:=by rw[aB];unfold Df uM at a2;rw[a2];rfl
 refine ax (p:=S.1.1=3) aM (fun k=>af.2 ⟨rfl,?_⟩) fun k=>af.2 ⟨rfl,(ai e1).2 ((ai (by rw[aM];exact aX k)).2 ?_)⟩
 ·cases hl:tL p.b1 p.bL.2.2.1 S.1.2.2.2.1
  ·refine(aj rfl).2 (af.2 ⟨rfl,(ai e2).2 ?_⟩)
   rw[Jm k hl];exact V6 (p:=⟨EQ p.bL (KD p.bL Df)⟩)
  ·refine(ai rfl).2 (af.2 ⟨rfl,(ai e1).2 ((aj (by rw[aM];exact aL k)).2 ?_)⟩)
   rw[ES hl,KT,aL k]
   have hv:=JZ hn hl
   exact Zi (p:=⟨p.b1,EQ p.bL (KD p.bL S.1),S.1⟩) hv
 ·rw[M2 k,KT,aX k];exact G8 (p:=⟨EQ p.bL (KD p.bL S.1),S.1⟩)
theorem ahK{m:ak}{n:Node}{seen:List Seen}:ay (r_ ah) (W_ ah m n seen) (yp m n seen):=by
 unfold W_ yp
 rw[show ah.k fq n=jJ n from rfl]
 refine af.2 ⟨rfl,?_⟩
 have no:∀q:M3,q.a1=(ia m n false).2→ay (r_ ah) (.more (.c0 q)) (bif decide (bf m n=0) then(eY,Lf,181) else(eY,Lf,bf m n)):=fun q hq=>by
  rw[al,r_,hq,ia]
  by_cases h:bf m n=0
  ·rw[aL h];exact(aj rfl).2 (.ret _)
  ·rw[aX h];exact(aj (qH h)).2 (.ret _)
 cases hi:jJ n
 ·exact(ai rfl).2 (af.2 ⟨rfl,af.2 ⟨rfl,uB.2 ⟨rfl,af.2 ⟨rfl,no _ rfl⟩⟩⟩⟩)
 ·refine(aj rfl).2 (af.2 ⟨rfl,af.2 ⟨rfl,uB.2 ⟨rfl,af.2 ⟨rfl,?_⟩⟩⟩⟩)
  rw[show ∀w,ah.k gq (m,n,w)=ia m n w from fun _=>rfl,aQ,Bool.true_and]
  by_cases hp:n.2.2.1.2.1=n.1
  ·rw[aX (show ¬¬n.2.2.1.2.1=n.1 from fun k=>k hp)];exact no _ rfl
  ·rw[aL hp,cond_true]
   by_cases h:bf m n=0
   ·have e:ia m n true=(n,0):=by rw[ia,aL h];rfl
    rw[aL h,e,cond_true,al,r_]
    exact(ai rfl).2 (af.2 ⟨rfl,Z0 (S:=Cn n seen) rfl rfl rfl rfl h fun g=>aaa (c:=n.2.2.1) (v:=n.2.2.2.1) (s:=n.2.2.1.2.1) (seen:=seen) g⟩)
   ·have:=no ⟨seen,(ia m n true).2,m,(ia m n true).1⟩ (by rw[ia,ia,aX h];rfl)
    rw[aX h] at this ⊢
    exact this
def Fp:(ak×Node×List Seen)→(Node×lz×Int):=fun(m,c,k)=>yp m c k
def afL:aA:=⟨[aN,aC,(.slice aF)], [aC,Fc,yI],(@tt (ak×Node×List Seen)),Fp⟩
theorem ab_:Sd 14 afL:=aT ar bR true 38 [] [⟨14,2, [[2,3,6,7,9,10]]⟩,⟨14,5, [[3,6,7,9,10,11]]⟩,⟨14,14, [[3,6,7,9,11]]⟩,⟨14,16, [[3,6,7,9,11]]⟩,⟨14,17, [[6,7,9,11]]⟩] (fun A (m,n,seen)=>W_ A m n seen) r_ X5 (fc Tryz.func14 (fc Tryz.func52 (fc Tryz.func53 fz))) (sc ahF (sc agV (sc ahU (sc rS (sc wX (sc Vj (sc VI (sc Py sz)))))))) (fun A y=>match y with |.c0 p=>⟨31,by kernel_rfl,by kernel_rfl⟩|.c1 p=>⟨76,by kernel_rfl,by kernel_rfl⟩|.c2 p=>⟨29,by kernel_rfl,by kernel_rfl⟩|.c3 p=>⟨56,by kernel_rfl,by kernel_rfl⟩|.c4 p=>⟨29,by kernel_rfl,by kernel_rfl⟩|.c5 p=>⟨48,by kernel_rfl,by kernel_rfl⟩) fun(m,n,seen) hp h=>ahK
theorem qq{c:cq}{k:Int}(hk:4≤k∧k≤8)(h1:0≤c.1∧c.1≤255)(h2:0≤c.2.1∧c.2.1≤k-1)(h3:0≤c.2.2.1∧c.2.2.1≤3)(h4:0≤c.2.2.2.1∧c.2.2.2.1≤4)(h5:0≤c.2.2.2.2∧c.2.2.2.2≤2^k.toNat-1):jZ (c,k)=0:=by
 obtain⟨t,p,m,n,s⟩:=c
 rw[jZ,aX (show ¬k<4 by omega),aX (show ¬8<k by omega),aL h1.1,aL h1.2,aL h2.1,aL h2.2,aL h3.1,aL h3.2,aL h4.1,aL h4.2,aL h5.1,aL h5.2]
 rfl
theorem nC{m:ak}{c:cq}(h:jZ (c,m.1)=0)(h1:c.2.2.1<dq m)(h2:c.2.2.2.1≤dq m):dL m c=true:=by
 rw[dL,aL h,aL h1,aL h2];rfl
theorem yF{m:ak}{x:Node}(hm:c_ m=true)(h:F2 m x=true):bf m x=0:=by rw[bf,hm,h];rfl
theorem zG{m:ak}{x:Node}(hm:c_ m=true)(h1:0≤x.1∧x.1≤m.1-1)(h2:2≤x.2.1∧x.2.1≤4)(h3:0≤x.2.2.2.2.2.2.1∧x.2.2.2.2.2.2.1≤2)(h4:cK x.2.2.2.2.2.2.2=true)(h5:x.2.2.2.2.2.2.2.1=x.1)(h6:(x.2.2.2.2.2.2.2.2.2.1.length:Int)=m.1)
  (h7:x.2.1=2→(ah.n .bool m.2.2.2.2.2.2.1 x.1:Bool)=true) (h8:dL m x.2.2.1=true) (h9:mP x.2.2.2.1=0) (ha:x.2.2.2.1.1=x.1) (hb:x.2.2.2.1.2.1=m.1) (hc:x.2.2.1.2.2.2.2=x.2.2.2.1.2.2.1) (hd:x.2.2.2.2.1=0) (he:x.2.2.2.2.2.1=true→x.2.1=2):bf m x=0:=by
 refine yF hm (bT.2 ⟨h1,by omega,h3,h4,h5,h6,?_,?_,?_,?_⟩)
 ·rw[Ct]
  by_cases k:x.2.1=2
  ·rw[aL k];exact h7 k
  ·rw[aX k];rfl
 ·rw[ox,jJ,aL h2,cond_true,h8,aL h9,aL ha,aL hb,aL hc];rfl
 ·rw[qi,aX (show ¬x.2.1=1 by omega)];exact aL hd
 ·rw[w8]
  cases k:x.2.2.2.2.2.1
  ·rfl
  ·exact aL (.inr (he k))
theorem nf{m:ak}{x:Node}(hm:c_ m=true)(h1:0≤x.1∧x.1≤m.1-1)(h2:x.2.1=0∨x.2.1=1∨x.2.1=5)(h3:0≤x.2.2.2.2.2.2.1∧x.2.2.2.2.2.2.1≤2)(h4:cK x.2.2.2.2.2.2.2=true)(h5:x.2.2.2.2.2.2.2.1=x.1)(h6:(x.2.2.2.2.2.2.2.2.2.1.length:Int)=m.1)
  (h8:x.2.2.1=(0,0,0,0,0)) (h9:x.2.2.2.1=(0,0,0,0,0,0,0)) (hd:x.2.1=1→1≤x.2.2.2.2.1∧x.2.2.2.2.1≤(mC m x.1).1) (hd0:¬x.2.1=1→x.2.2.2.2.1=0) (he:x.2.2.2.2.2.1=true→x.2.1=1):bf m x=0:=by
 refine yF hm (bT.2 ⟨h1,by omega,h3,h4,h5,h6,?_,?_,?_,?_⟩)
 ·rw[Ct,aX (show ¬x.2.1=2 by omega)];rfl
 ·rw[ox,jJ,aX (show ¬(2≤x.2.1∧x.2.1≤4) by omega),cond_false,h8,h9];rfl
 ·rw[qi]
  by_cases k:x.2.1=1
  ·rw[aL k];exact aL (hd k)
  ·rw[aX k];exact aL (hd0 k)
 ·rw[w8]
  cases k:x.2.2.2.2.2.1
  ·rfl
  ·exact aL (.inl (he k))
theorem JL{m:ak}{n:Node}(h:bf m n=0)(hb:n.2.2.2.2.2.1=true):n.2.1=1∨n.2.1=2:=by
 have hc:=(bT.1 (aZ h).2).2.2.2.2.2.2.2.2.2
 rw[w8,hb] at hc
 exact of_decide_eq_true hc
theorem Ub{k:Int}(h:4≤k∧k≤8):ah.b .shl .i64 1 k=2^k.toNat:=by
 have:k=4∨k=5∨k=6∨k=7∨k=8:=by omega
 rcases this with rfl|rfl|rfl|rfl|rfl<;>decide
theorem Gg{a b c:Int}(hb:4≤b∧b≤8)(ha:0≤a∧a≤b-1)(hc:0≤c∧c≤2^b.toNat-1):mP (a,b,c,1,0,0,0)=0:=by
 refine iy.2 ?_
 unfold iP
 have:((2^b.toNat:Nat):Int)=2^b.toNat:=by norm_cast
 exact⟨hb.1,hb.2,ha.1,by omega,by omega,by omega,hc.1,by omega,by omega,by omega,by omega,by omega,by omega,by omega,fun h=>absurd rfl h,fun h=>by omega⟩
theorem xx{m:ak}{n:Int}(hm:c_ m=true)(h:0≤n∧n≤m.1-1):1≤(mC m n).1:=by
 have hk:=(cX hm).1
 rw[mC,gV,hm,cond_true,aL h]
 simp only[cond_true,decide_true,cr]
 rw[gW,gW]
 rw[iU (a:=4*m.1) (by omega) (by omega),iU (a:=n+1) (by omega) (by omega),iU (a:=2*(n+1)) (by omega) (by omega),iU (by omega) (by omega)]
 omega
theorem aad{m:ak}{n:Int}(hm:c_ m=true)(h:0≤n∧n≤m.1-1):1≤(Av m n).1∧(Av m n).1≤(mC m n).1:=by
 have hk:=(cX hm).1
 rw[mC,Av,gV,hm,cond_true,aL h]
 simp only[cond_true,decide_true,cr]
 rw[gW,gW]
 rw[iU (a:=4*m.1) (by omega) (by omega),iU (a:=n+1) (by omega) (by omega),iU (a:=2*(n+1)) (by omega) (by omega),iU (a:=4*m.1+2*(n+1)) (by omega) (by omega)]
 omega
theorem Dn{m:ak}{c:cq}{r:Int}(hm:c_ m=true)(h:dL m c=true):dL m (kV m c r)=true∧(kV m c r).2.1=c.2.1∧(kV m c r).2.2.2.2=c.2.2.2.2:=by
 rw[kV,xr,aL (PQ hm h),cond_true]
 by_cases h1:0≤r∧r≤dq m
 ·rw[aL h1,cond_true]
  by_cases h2:0<r
  ·cases h3:pI m c (r-1)
   ·rw[Bool.and_false];exact⟨h,rfl,rfl⟩
   ·rw[aL h2,Bool.and_self,cond_true]
    have hf:=uq h
    have hc:=p8 hf.1
    have hl:=(cX hm).2.1
    refine⟨nC (qq hc.1 hc.2.1 hc.2.2.1 hc.2.2.2.1 (show 0≤r∧r≤4 by omega) hc.2.2.2.2.2) hf.2.1.2 h1.2,rfl,rfl⟩
  ·rw[aX h2,Bool.false_and];exact⟨h,rfl,rfl⟩
 ·rw[aX h1];exact⟨h,rfl,rfl⟩
theorem Wq{m:ak}{n:Node}{s:Int}(h:bf m n=0)(he:(LF m n s).2=0):bf m (LF m n s).1=0:=by
 have hz:=bT.1 (aZ h).2
 have hm:=(aZ h).1
 have hk:=(cX hm)
 rw[LF,aL h,cond_true] at he ⊢
 by_cases h1:n.2.1=0
 ·rw[aL h1,cond_true] at he ⊢
  by_cases h2:0≤s∧s≤ah.b .shl .i64 1 m.1-1
  ·rw[aL h2,cond_true] at he ⊢
   cases h3:lh s n.1
   ·rw[h3] at he;exact absurd (show(2:Int)=0 from he) (by decide)
   ·rw[Ub hk.1] at h2
    exact zG hm hz.1 (show(2:Int)≤4∧(4:Int)≤4 by omega) hz.2.2.1 hz.2.2.2.1 hz.2.2.2.2.1 hz.2.2.2.2.2.1 (fun k=>absurd k (show ¬(4:Int)=2 by omega)) (nC (qq (c:=(0,0,0,0,s)) hk.1 (show(0:Int)≤0∧(0:Int)≤255 by omega) (show(0:Int)≤0∧(0:Int)≤m.1-1 by omega) (show(0:Int)≤0∧(0:Int)≤3 by omega) (show(0:Int)≤0∧(0:Int)≤4 by omega) h2) (show(0:Int)<dq m by omega) (show(0:Int)≤dq m by omega)) (Gg hk.1 hz.1 h2) rfl rfl rfl rfl (fun k=>by have:=JL h k;omega)
  ·rw[aX h2] at he;exact absurd (show(2:Int)=0 from he) (by decide)
 ·rw[aX h1] at he;exact absurd (show(181:Int)=0 from he) (by decide)
theorem CG{m:ak}{id:Int}(he:(jA m id).2=0):bf m (jA m id).1=0:=by
 rw[jA] at he ⊢
 cases hm:c_ m
 ·rw[hm] at he;exact absurd (show(70:Int)=0 from he) (by decide)
 ·rw[hm,cond_true] at he
  have hk:=cX hm
  by_cases h1:0≤id∧id≤m.1-1
  ·rw[aL h1,cond_true,cond_true]
   have hl:((List.replicate m.1.toNat ve).length:Int)=m.1:=by rw[pg];omega
   refine nf hm h1 (.inl rfl) (show(0:Int)≤0∧(0:Int)≤2 by omega) ?_ rfl hl rfl rfl (fun k=>absurd k (show ¬(0:Int)=1 by omega)) (fun _=>rfl) (fun k=>by cases k)
   show cK (id,([]:List Int),List.replicate m.1.toNat ve,4,(-1))=true
   have ha:(List.replicate m.1.toNat ve).all Aq=true:=by rw[List.all_eq_true];intro x hx;rw[List.eq_of_mem_replicate hx];decide
   simp only[cK,hl,ha]
   simp
   omega
  ·rw[aX h1] at he;exact absurd (show(2:Int)=0 from he) (by decide)
theorem IT{m:ak}{n:Node}{on:Bool}(h:bf m n=0)(he:(lX m n on).2=0):bf m (lX m n on).1=0:=by
 have hz:=bT.1 (aZ h).2
 have hm:=(aZ h).1
 rw[lX,aL h,cond_true] at he ⊢
 cases on
 ·exact CG he
 ·rw[cond_true] at he ⊢
  by_cases h1:n.2.1=0
  ·rw[aL h1,cond_true]
   exact nf hm hz.1 (.inr (.inl rfl)) hz.2.2.1 hz.2.2.2.1 hz.2.2.2.2.1 hz.2.2.2.2.2.1 rfl rfl (fun _=>⟨xx hm hz.1,Int.le_refl _⟩) (fun k=>absurd rfl k) (fun k=>rfl)
  ·rw[aX h1] at he;exact absurd (show(181:Int)=0 from he) (by decide)
theorem Qa{m:ak}{n:Node}{c:cy}(h:bf m n=0)(h1:cK c=true)(h2:c.1=n.2.2.2.2.2.2.2.1)(h3:c.2.2.1.length=n.2.2.2.2.2.2.2.2.2.1.length):bf m (n.1,n.2.1,n.2.2.1,n.2.2.2.1,n.2.2.2.2.1,n.2.2.2.2.2.1,n.2.2.2.2.2.2.1,c)=0:=by
 have hz:=bT.1 (aZ h).2
 exact yF (aZ h).1 (bT.2 ⟨hz.1,hz.2.1,hz.2.2.1,h1,h2.trans hz.2.2.2.2.1,(congrArg Int.ofNat h3).trans hz.2.2.2.2.2.1,hz.2.2.2.2.2.2⟩)
theorem ZK{c:cy}{d:List Int}(he:(LC c d).2=0):cK (LC c d).1=true∧(LC c d).1.1=c.1∧(LC c d).1.2.2.1.length=c.2.2.1.length:=by
 rw[LC] at he ⊢
 cases h:cK c
 ·rw[h] at he;exact absurd (show(120:Int)=0 from he) (by decide)
 ·rw[h,cond_true] at he
  rw[cond_true]
  by_cases h1:8<(d.length:Int)
  ·rw[aL h1] at he;exact absurd (show(3:Int)=0 from he) (by decide)
  ·rw[aX h1,cond_false]
   simp only[cK,ck,jN] at h ⊢
   exact⟨⟨h.1,h.2.1,h1,h.2.2.2⟩,trivial,trivial⟩
theorem aan{c:cy}(he:(Rm c).2=0):cK (Rm c).1=true∧(Rm c).1.1=c.1∧(Rm c).1.2.2.1.length=c.2.2.1.length:=by
 rw[Rm] at he ⊢
 cases h:cK c
 ·rw[h] at he;exact absurd (show(120:Int)=0 from he) (by decide)
 ·rw[cond_true]
  simp only[cK,ck,jN] at h ⊢
  exact⟨⟨h.1,h.2.1,h.2.2.1,by omega,h.2.2.2.2⟩,trivial,trivial⟩
theorem NZ{c:cy}{w:Int}(he:(Ap c w).2=0):cK (Ap c w).1=true∧(Ap c w).1.1=c.1∧(Ap c w).1.2.2.1.length=c.2.2.1.length:=by
 rw[Ap] at he ⊢
 cases h:cK c
 ·rw[h] at he;exact absurd (show(120:Int)=0 from he) (by decide)
 ·rw[h,cond_true] at he
  rw[cond_true]
  by_cases h1:-1≤w∧w≤3
  ·rw[aL h1,cond_true]
   simp only[cK,ck,jN] at h ⊢
   exact⟨⟨h.1,h.2.1,h.2.2.1,h.2.2.2.1,h1,h.2.2.2.2.2⟩,trivial,trivial⟩
  ·rw[aX h1] at he;exact absurd (show(2:Int)=0 from he) (by decide)
theorem TC{c:cy}(h:cK c=true):cK (Ab c).1=true∧(Ab c).1.1=c.1∧(Ab c).1.2.2.1.length=c.2.2.1.length:=by
 rw[Ab,h,cond_true]
 have hl:(c.2.2.1.map C_).length=c.2.2.1.length:=List.length_map ..
 simp only[cK,ck,jN] at h ⊢
 refine⟨⟨by rw[hl];exact h.1,by rw[hl];exact h.2.1,h.2.2.1,?_,h.2.2.2.2.1,?_⟩,trivial,hl⟩
 ·have hp:=h.2.2.2.1
  rw[cn,iU (by omega) (by omega),Ig]
  split<;>omega
 ·rw[List.all_eq_true]
  intro x hx
  obtain⟨y,hy,rfl⟩:=List.mem_map.1 hx
  have hm:=List.all_eq_true.1 h.2.2.2.2.2 y hy
  simp only[Aq,ck,jN] at hm
  have hm2:0≤(C_ y).2∧(C_ y).2≤255:=by
   show 0≤ah.mn (ah.b .add .i64 y.2 1) 255∧ah.mn (ah.b .add .i64 y.2 1) 255≤255
   rw[cr,iU (by omega) (by omega),nL];split<;>omega
  rw[Aq,ck];exact⟨aL hm.1,aL hm2⟩
theorem Ix{c:cy}{s:Int}{d:List Int}(he:(mH c s d).2=0):cK (mH c s d).1=true∧(mH c s d).1.1=c.1∧(mH c s d).1.2.2.1.length=c.2.2.1.length:=by
 rw[mH] at he ⊢
 cases h:cK c
 ·rw[h] at he;exact absurd (show(120:Int)=0 from he) (by decide)
 rw[h,cond_true] at he
 rw[cond_true]
 by_cases h1:0≤s∧s≤(c.2.2.1.length:Int)-1
 ·rw[aL h1,cond_true] at he ⊢
  by_cases h2:8<(d.length:Int)
  ·rw[aL h2] at he;exact absurd (show(3:Int)=0 from he) (by decide)
  rw[aX h2,cond_false]
  have hl:(c.2.2.1.set s.toNat (d,0)).length=c.2.2.1.length:=List.length_set ..
  simp only[cK,ck,jN] at h ⊢
  refine⟨⟨by rw[hl];exact h.1,by rw[hl];exact h.2.1,h.2.2.1,h.2.2.2.1,h.2.2.2.2.1,?_⟩,trivial,hl⟩
  rw[List.all_eq_true]
  intro x hx
  rcases List.mem_or_eq_of_mem_set hx with hx|rfl
  ·exact List.all_eq_true.1 h.2.2.2.2.2 x hx
  ·simp only[Aq,ck,jN];exact⟨h2,by omega⟩
 ·rw[aX h1] at he;exact absurd (show(2:Int)=0 from he) (by decide)
theorem yX{m:ak}{n:Node}{r:cy×Int}(h:bf m n=0)(hr:r.2=0→cK r.1=true∧r.1.1=n.2.2.2.2.2.2.2.1∧r.1.2.2.1.length=n.2.2.2.2.2.2.2.2.2.1.length)(he:(zt n r).2=0):bf m (zt n r).1=0:=by
 rw[zt] at he ⊢
 by_cases k:r.2=0
 ·rw[aL k,cond_true]
  obtain⟨a,b,c⟩:=hr k
  exact Qa h a b c
 ·rw[aX k] at he;exact absurd he k
theorem Ut{m:ak}{n:Node}{o:bg}(h:bf m n=0)(he:(su m n o).2=0):bf m (su m n o).1=0:=by
 rw[su,aL h,cond_true] at he ⊢
 by_cases h1:1≤o.2.2.2.1∧o.2.2.2.1≤3
 ·rw[aL h1,cond_true] at he ⊢
  cases hi:jJ n
  ·exact h
  rw[hi,cond_true] at he
  rw[cond_true]
  by_cases k:o.2.2.2.1=1
  ·rw[aL k,cond_true] at he ⊢;exact yX h ZK he
  rw[aX k,cond_false] at he ⊢
  by_cases k2:o.2.2.2.1=2
  ·rw[aL k2,cond_true] at he ⊢;exact yX h aan he
  rw[aX k2,cond_false] at he ⊢
  exact yX h NZ he
 ·rw[aX h1] at he;exact absurd (show(2:Int)=0 from he) (by decide)
theorem Ma{m:ak}{n:Node}{c:cq}(h:bf m n=0)(hi:jJ n=true)(h1:dL m c=true)(h2:c.2.2.2.2=n.2.2.1.2.2.2.2):bf m (n.1,n.2.1,c,n.2.2.2)=0:=by
 have hz:=bT.1 (aZ h).2
 have hc:=jP h hi
 refine yF (aZ h).1 (bT.2 ⟨hz.1,hz.2.1,hz.2.2.1,hz.2.2.2.1,hz.2.2.2.2.1,hz.2.2.2.2.2.1,hz.2.2.2.2.2.2.1,?_,hz.2.2.2.2.2.2.2.2⟩)
 rw[ox,show jJ (n.1,n.2.1,c,n.2.2.2)=true from hi,cond_true]
 show(dL m c&&(decide (mP n.2.2.2.1=0)&&(decide (n.2.2.2.1.1=n.1)&&(decide (n.2.2.2.1.2.1=m.1)&&decide (c.2.2.2.2=n.2.2.2.1.2.2.1)))))=true
 rw[h1,aL hc.2.1,aL hc.2.2.1,aL hc.2.2.2.1,aL (h2.trans hc.2.2.2.2)];rfl
theorem Nm{m:ak}{c:cq}(hm:c_ m=true)(h:dL m c=true):dL m (kr c m.1).1=true∧(kr c m.1).1.2.2.2.2=c.2.2.2.2:=by
 have hf:=uq h
 have hc:=p8 hf.1
 have hl:=(cX hm).2.1
 rw[kr,aL hf.1,cond_true]
 have ht:0≤(c.1+1).tmod 256∧(c.1+1).tmod 256≤255:=by
  have:=hc.2.1
  rw[Int.tmod_eq_emod_of_nonneg (by omega)];omega
 by_cases g:c.2.1+1=m.1
 ·rw[aL g,cond_true]
  by_cases g2:c.2.2.2.1=0
  ·rw[aL g2,cond_true]
   exact⟨nC (qq (c:=((c.1+1).tmod 256,0,c.2.2)) hc.1 ht (show(0:Int)≤0∧(0:Int)≤m.1-1 by omega) hc.2.2.2.1 hc.2.2.2.2.1 hc.2.2.2.2.2) hf.2.1.2 hf.2.2,rfl⟩
  ·rw[aX g2,cond_false]
   exact⟨nC (qq (c:=((c.1+1).tmod 256,0,c.2.2.2.1-1,0,c.2.2.2.2)) hc.1 ht (show(0:Int)≤0∧(0:Int)≤m.1-1 by omega) (show 0≤c.2.2.2.1-1∧c.2.2.2.1-1≤3 by omega) (show(0:Int)≤0∧(0:Int)≤4 by omega) hc.2.2.2.2.2) (show c.2.2.2.1-1<dq m by omega) (show(0:Int)≤dq m by omega),rfl⟩
 ·rw[aX g,cond_false]
  exact⟨nC (qq (c:=(c.1,c.2.1+1,c.2.2)) hc.1 hc.2.1 (show 0≤c.2.1+1∧c.2.1+1≤m.1-1 by omega) hc.2.2.2.1 hc.2.2.2.2.1 hc.2.2.2.2.2) hf.2.1.2 hf.2.2,rfl⟩
theorem Cf{m:ak}{n:Node}(h:bf m n=0)(he:(AI m n).2=0):bf m (AI m n).1=0:=by
 rw[AI,aL h,cond_true] at he ⊢
 cases hi:jJ n
 ·rw[hi] at he;exact absurd (show(181:Int)=0 from he) (by decide)
 rw[cond_true]
 obtain⟨a,b⟩:=Nm (aZ h).1 (jP h hi).1
 have h1:=Ma (c:=(kr n.2.2.1 m.1).1) h hi a b
 cases decide ((kr n.2.2.1 m.1).1.2.1=0)
 ·exact h1
 ·obtain⟨c,d,e⟩:=TC (qT h)
  exact Qa h1 c d e
theorem QR{k n:Int}(hk:4≤k∧k≤8)(h:0≤n∧n≤k-1):0≤ah.b .shl .i64 1 n∧ah.b .shl .i64 1 n≤2^k.toNat-1:=by
 have h1:k=4∨k=5∨k=6∨k=7∨k=8:=by omega
 have h2:n=0∨n=1∨n=2∨n=3∨n=4∨n=5∨n=6∨n=7:=by omega
 rcases h1 with rfl|rfl|rfl|rfl|rfl<;>rcases h2 with rfl|rfl|rfl|rfl|rfl|rfl|rfl|rfl<;>first|decide|omega
theorem Ug{m:ak}{n:Node}(h:bf m n=0)(he:(yY m n).2.2.2=0):bf m (yY m n).1=0:=by
 have hz:=bT.1 (aZ h).2
 have hm:=(aZ h).1
 have hk:=cX hm
 rw[yY,aL h,cond_true] at he ⊢
 by_cases h1:n.2.1=1
 ·obtain⟨ho,hv⟩:=Jt h (by omega)
  have ht:1≤n.2.2.2.2.1∧n.2.2.2.2.1≤(mC m n.1).1:=by
   have hc:=hz.2.2.2.2.2.2.2.2.1
   rw[qi,aL h1,cond_true,jN] at hc
   exact hc
  rw[aL h1,cond_true]
  by_cases h2:0<n.2.2.2.2.1-1
  ·rw[aL h2,cond_true]
   exact nf hm hz.1 (.inr (.inl h1)) hz.2.2.1 hz.2.2.2.1 hz.2.2.2.2.1 hz.2.2.2.2.2.1 ho hv (fun _=>show 1≤n.2.2.2.2.1-1∧n.2.2.2.2.1-1≤(mC m n.1).1 by omega) (fun k=>absurd h1 k) (fun _=>h1)
  ·rw[aX h2,cond_false]
   cases hc:(ah.n .bool m.2.2.2.2.2.2.1 n.1:Bool)
   ·rw[cond_false]
    exact nf hm hz.1 (.inr (.inl h1)) hz.2.2.1 hz.2.2.2.1 hz.2.2.2.2.1 hz.2.2.2.2.2.1 ho hv (fun _=>⟨xx hm hz.1,Int.le_refl _⟩) (fun k=>absurd h1 k) (fun _=>h1)
   ·rw[cond_true]
    have hs:=QR hk.1 hz.1
    exact zG hm hz.1 (show(2:Int)≤2∧(2:Int)≤4 by omega) hz.2.2.1 hz.2.2.2.1 hz.2.2.2.2.1 hz.2.2.2.2.2.1 (fun _=>hc) (nC (qq (c:=(0,n.1,0,0,ah.b .shl .i64 1 n.1)) hk.1 (show(0:Int)≤0∧(0:Int)≤255 by omega) hz.1 (show(0:Int)≤0∧(0:Int)≤3 by omega) (show(0:Int)≤0∧(0:Int)≤4 by omega) hs) (show(0:Int)<dq m by omega) (show(0:Int)≤dq m by omega)) (Gg hk.1 hz.1 hs) rfl rfl rfl rfl (fun _=>rfl)
 ·rw[aX h1] at he;exact absurd (show(181:Int)=0 from he) (by decide)
theorem By{m:ak}{n:Node}{c:cq}{f:mJ}(h:bf m n=0)(hf:dL m c=true)(hd:f.1=4→(mH n.2.2.2.2.2.2.2 c.2.1 f.2.2.2.2).2=0):bf m (rT m n c f)=0:=by
 have hz:=bT.1 (aZ h).2
 have hm:=(aZ h).1
 obtain⟨t1,t2,t3⟩:=Dn (r:=f.2.1) hm hf
 have hs:=(p8 (uq hf).1).2.2.2.2.2
 have hH:cK (bif decide (f.1=4) then(mH n.2.2.2.2.2.2.2 c.2.1 f.2.2.2.2).1 else n.2.2.2.2.2.2.2)=true∧(bif decide (f.1=4) then(mH n.2.2.2.2.2.2.2 c.2.1 f.2.2.2.2).1 else n.2.2.2.2.2.2.2).1=n.2.2.2.2.2.2.2.1∧(bif decide (f.1=4) then(mH n.2.2.2.2.2.2.2 c.2.1 f.2.2.2.2).1 else n.2.2.2.2.2.2.2).2.2.1.length=n.2.2.2.2.2.2.2.2.2.1.length:=by
  by_cases k:f.1=4
  ·rw[aL k];exact Ix (hd k)
  ·rw[aX k];exact⟨qT h,rfl,rfl⟩
 exact zG hm hz.1 (show(2:Int)≤3∧(3:Int)≤4 by omega) (show(0:Int)≤0∧(0:Int)≤2 by omega) hH.1 (hH.2.1.trans hz.2.2.2.2.1) ((congrArg Int.ofNat hH.2.2).trans hz.2.2.2.2.2.1) (fun k=>absurd k (show ¬(3:Int)=2 by omega)) t1 (Gg (cX hm).1 hz.1 hs) rfl rfl t3 rfl (fun k=>by cases k)
theorem Iw{m:ak}{n:Node}{s:List Seen}{o:Bool}(h:bf m n=0)(he:(vB m n s o).2.2.2=0):bf m (vB m n s o).1=0:=by
 have hz:=bT.1 (aZ h).2
 have hm:=(aZ h).1
 have hk:=cX hm
 rw[vB,aL h,cond_true] at he ⊢
 by_cases h1:n.2.1=1
 ·rw[aL h1,cond_true] at he ⊢
  by_cases h2:(s.length:Int)=2
  ·rw[aL h2,cond_true]
   cases hx:(fC m.1 s).2.2
   ·exact h
   obtain⟨e1,e2,e3⟩:=Qg hx
   have hl:=OH e3
   rw[cond_true]
   by_cases h3:(fC m.1 s).1.1=1
   ·rw[aL h3,cond_true]
    by_cases h4:(fC m.1 s).1.2.2.2.1=n.1
    ·rw[aL h4];exact h
    ·rw[aX h4,cond_false]
     cases o && !n.2.2.2.2.2.1
     ·rw[cond_false]
      exact By h (nC (qq (c:=(0,(fC m.1 s).1.2.2.2.1,0,0,ah.b .shl .i64 1 (fC m.1 s).1.2.2.2.1)) hk.1 (show(0:Int)≤0∧(0:Int)≤255 by omega) (show 0≤(fC m.1 s).1.2.2.2.1∧(fC m.1 s).1.2.2.2.1≤m.1-1 by omega) (show(0:Int)≤0∧(0:Int)≤3 by omega) (show(0:Int)≤0∧(0:Int)≤4 by omega) (QR hk.1 (by omega))) (show(0:Int)<dq m by omega) (show(0:Int)≤dq m by omega)) (fun k=>by omega)
     ·rw[cond_true]
      obtain⟨ho,hv⟩:=Jt h (by omega)
      exact nf hm hz.1 (.inr (.inl h1)) hz.2.2.1 hz.2.2.2.1 hz.2.2.2.2.1 hz.2.2.2.2.2.1 ho hv (fun _=>⟨xx hm hz.1,Int.le_refl _⟩) (fun k=>absurd h1 k) (fun _=>h1)
   ·rw[aX h3,cond_false]
    cases hj:Lx m n (fC m.1 s).1
    ·exact h
    ·rw[cond_true]
     have hd:=Oe h e3 hj
     have hf:dL m (fC m.1 s).1.2.2.1=true:=by rw[Lx,ck] at hj;exact hj.1
     exact By h hf fun _=>hd
  ·rw[aX h2] at he;exact absurd (show(2:Int)=0 from he) (by decide)
 ·rw[aX h1] at he;exact absurd (show(181:Int)=0 from he) (by decide)
theorem P6{m:ak}{c:cq}{s:Int}(h:dL m c=true)(hs:0≤s∧s≤2^m.1.toNat-1):dL m (c.1,c.2.1,c.2.2.1,c.2.2.2.1,s)=true:=by
 have hf:=uq h
 have hc:=p8 hf.1
 exact nC (qq (c:=(c.1,c.2.1,c.2.2.1,c.2.2.2.1,s)) hc.1 hc.2.1 hc.2.2.1 hc.2.2.2.1 hc.2.2.2.2.1 hs) hf.2.1.2 hf.2.2
theorem Pf{v:lQ}(h:mP v=0):0≤v.2.2.1∧v.2.2.1≤2^v.2.1.toNat-1:=by
 obtain⟨a,b,c,d,e,f,g⟩:=v
 have hm:=iy.1 h
 unfold iP at hm
 have:((2^b.toNat:Nat):Int)=2^b.toNat:=by norm_cast
 exact⟨hm.2.2.2.2.2.2.1,show c≤2^b.toNat-1 by omega⟩
theorem Fw{m:ak}{n:Node}{v:lQ}(h:bf m n=0)(hi:jJ n=true)(hv:mP v=0)(h1:v.1=n.1)(h2:v.2.1=m.1):bf m (EQ n v)=0:=by
 have hz:=bT.1 (aZ h).2
 have hc:=jP h hi
 have hs:=Pf hv
 rw[h2] at hs
 refine yF (aZ h).1 (bT.2 ⟨hz.1,hz.2.1,hz.2.2.1,hz.2.2.2.1,hz.2.2.2.2.1,hz.2.2.2.2.2.1,hz.2.2.2.2.2.2.1,?_,hz.2.2.2.2.2.2.2.2⟩)
 rw[ox,show jJ (EQ n v)=true from hi,cond_true]
 show(dL m (n.2.2.1.1,n.2.2.1.2.1,n.2.2.1.2.2.1,n.2.2.1.2.2.2.1,v.2.2.1)&&(decide (mP v=0)&&(decide (v.1=n.1)&&(decide (v.2.1=m.1)&&decide (v.2.2.1=v.2.2.1)))))=true
 rw[P6 hc.1 hs,aL hv,aL h1,aL h2,aL rfl];rfl
theorem NR{n:Node}(hi:jJ n=true):2≤n.2.1∧n.2.1≤4:=of_decide_eq_true hi
theorem RQ{m:ak}{x:Node}(h:bf m x=0)(hi:jJ x=true):bf m (on4 x)=0:=by
 have hz:=bT.1 (aZ h).2
 have hc:=jP h hi
 have hs:=NR hi
 have ht:=I8 h (show ¬x.2.1=1 by omega)
 exact zG (aZ h).1 hz.1 (show(2:Int)≤4∧(4:Int)≤4 by omega) hz.2.2.1 hz.2.2.2.1 hz.2.2.2.2.1 hz.2.2.2.2.2.1 (fun k=>absurd k (show ¬(4:Int)=2 by omega)) hc.1 hc.2.1 hc.2.2.1 hc.2.2.2.1 hc.2.2.2.2 ht (fun k=>by cases k)
theorem Tp{n:Node}(h:mP n.2.2.2.1=0):mP (mW n).1=0∧(mW n).1.1=n.2.2.2.1.1∧(mW n).1.2.1=n.2.2.2.1.2.1:=by
 rw[mW]
 cases decide (n.2.1=2)&&(decide (n.2.2.2.1.2.2.2.1<2)||decide (n.2.2.2.1.2.2.2.1≤n.2.2.2.1.2.2.2.2.1))
 ·rw[cond_false]
  generalize n.2.2.2.1=V at h ⊢
  obtain⟨a,b,c,d,e,f,g⟩:=V
  cases decide (n.2.1=3)
  ·obtain⟨c',d',e',f',g',w,e1,e2,_⟩:=Jj (iy.1 h)
   rw[cond_false,e1];exact⟨iy.2 e2,rfl,rfl⟩
  ·obtain⟨c',d',e',f',g',w,e1,e2,_⟩:=N1 (iy.1 h)
   rw[cond_true,e1];exact⟨iy.2 e2,rfl,rfl⟩
 ·exact⟨h,rfl,rfl⟩
theorem Uk{m:ak}{x:Node}(h:bf m x=0)(hi:jJ x=true):bf m (TG m x).1=0:=by
 obtain⟨t1,t2,t3⟩:=Dn (r:=(Ai m x).2.1) (aZ h).1 (jP h hi).1
 exact Ma h hi t1 t3
theorem Uu{m:ak}{n:Node}(h:bf m n=0)(hi:jJ n=true):bf m (Xs n (mW n).1)=0:=by
 have hc:=jP h hi
 obtain⟨v1,v2,v3⟩:=Tp hc.2.1
 exact RQ (Fw h hi v1 (v2.trans hc.2.2.1) (v3.trans hc.2.2.2.1)) hi
theorem YT{m:ak}{n:Node}(h:bf m n=0)(he:(Mp m n).2.2.2=0):bf m (Mp m n).1=0:=by
 have hz:=bT.1 (aZ h).2
 have hm:=(aZ h).1
 rw[Mp,aL h,cond_true] at he ⊢
 cases hi:jJ n&&decide (n.2.2.1.2.1=n.1)
 ·rw[hi] at he;exact absurd (show(181:Int)=0 from he) (by decide)
 rw[ck] at hi
 rw[cond_true,Ba]
 cases decide ((mW n).2=2)
 ·rw[cond_false]
  cases decide ((mW n).2=3)
  ·rw[cond_false]
   cases decide ((mW n).2=4)
   ·rw[cond_false]
    exact Uk (Uu h hi.1) rfl
   ·rw[cond_true]
    have hr:=aad hm hz.1
    exact nf hm hz.1 (.inr (.inl rfl)) hz.2.2.1 hz.2.2.2.1 hz.2.2.2.2.1 hz.2.2.2.2.2.1 rfl rfl (fun _=>hr) (fun k=>absurd rfl k) (fun _=>rfl)
  ·rw[cond_true]
   exact nf hm hz.1 (.inr (.inl rfl)) (show(0:Int)≤2∧(2:Int)≤2 by omega) hz.2.2.2.1 hz.2.2.2.2.1 hz.2.2.2.2.2.1 rfl rfl (fun _=>⟨xx hm hz.1,Int.le_refl _⟩) (fun k=>absurd rfl k) (fun _=>rfl)
 ·rw[cond_true]
  exact nf hm hz.1 (.inr (.inr rfl)) (show(0:Int)≤1∧(1:Int)≤2 by omega) hz.2.2.2.1 hz.2.2.2.2.1 hz.2.2.2.2.2.1 rfl rfl (fun k=>absurd k (show ¬(5:Int)=1 by omega)) (fun _=>rfl) (fun k=>by cases k)
theorem Of{c:cq}{v:lQ}{s:Int}{seen:List Seen}{o:lz}(h:(kt (c,v,s,seen)).2=0)(ho:o=(kt (c,v,s,seen)).1∨o=Df):mP (jl (v,s,o)).1=0∧(jl (v,s,o)).1.1=v.1∧(jl (v,s,o)).1.2.1=v.2.1:=by
 obtain⟨t,p,m,n,x⟩:=c
 obtain⟨a,b,c,d,e,f,g⟩:=v
 rcases ho with rfl|rfl
 ·obtain⟨c',d',e',f',g',e1,e2,_⟩:=Bn h
  rw[e1];exact⟨iy.2 e2,rfl,rfl⟩
 ·obtain⟨h1,h2,h3,h4,_⟩:=sj h
  have hok:=dI.1 h1
  have h3:s<b:=h3
  have h4:s≠a:=h4
  obtain⟨c',f',g',e1,e2,_⟩:=tF hok h2 h3 h4
  have hm:=hok
  unfold iP at hm
  rw[DG rfl,Gr e1 (show 0≤e by omega) (show e≤1048576 by omega)]
  exact⟨iy.2 (abl e2 (inc_le (d:=e) (show 0≤e by omega) (show e≤1048576 by omega))),rfl,rfl⟩
theorem SQ{m:ak}{x:Node}(h:bf m x=0):bf m (zd x)=0:=by
 rw[zd]
 by_cases k:x.2.1=4
 ·cases Hr x.2.2.2.1
  ·rw[aL k,Bool.not_false,Bool.and_self,cond_true]
   have hz:=bT.1 (aZ h).2
   have hi:jJ x=true:=aL (by omega)
   have hc:=jP h hi
   have ht:=I8 h (show ¬x.2.1=1 by omega)
   exact zG (aZ h).1 hz.1 (show(2:Int)≤3∧(3:Int)≤4 by omega) hz.2.2.1 hz.2.2.2.1 hz.2.2.2.2.1 hz.2.2.2.2.2.1 (fun k=>absurd k (show ¬(3:Int)=2 by omega)) hc.1 hc.2.1 hc.2.2.1 hc.2.2.2.1 hc.2.2.2.2 ht (fun j=>by have:=JL h j;omega)
  ·rw[Bool.not_true,Bool.and_false];exact h
 ·rw[aX k];exact h
theorem Mk{m:ak}{x:Node}{f:mJ}(h:bf m x=0)(hi:jJ x=true)(hd:(mH x.2.2.2.2.2.2.2 x.2.2.1.2.1 f.2.2.2.2).2=0):bf m (Ga m x f)=0:=by
 obtain⟨t1,t2,t3⟩:=Dn (r:=f.2.1) (aZ h).1 (jP h hi).1
 have h1:=Ma h hi t1 t3
 rw[Ga]
 by_cases k:f.1=3
 ·rw[aL k];exact h1
 ·rw[aX k]
  obtain⟨a,b,c⟩:=Ix hd
  exact Qa h1 a b c
theorem Ur{m:ak}{n:Node}{s:List Seen}(h:bf m n=0)(he:(yp m n s).2.2=0):bf m (yp m n s).1=0:=by
 rw[yp,aL h,cond_true] at he ⊢
 cases hi:jJ n&&decide (¬n.2.2.1.2.1=n.1)
 ·rw[hi] at he;exact absurd (show(181:Int)=0 from he) (by decide)
 rw[hi,cond_true] at he
 rw[ck] at hi
 rw[cond_true]
 have hv:=fun(o:lz) (g:(Cn n s).2=0)=>Of (c:=n.2.2.1) (v:=n.2.2.2.1) (s:=n.2.2.1.2.1) (seen:=s) (o:=o) g
 have hs:kt (n.2.2.1,n.2.2.2.1,n.2.2.1.2.1,s)=Cn n s:=rfl
 rw[hs] at hv
 generalize Cn n s=S at hv he ⊢
 by_cases g:S.2=0
 ·rw[aL g,cond_true]
  have hc:=jP h hi.1
  have vw:∀o:lz,o=S.1∨o=Df→bf m (EQ n (KD n o))=0:=fun o ho=>by
   obtain⟨a,b,c⟩:=hv o g ho
   exact Fw h hi.1 a (b.trans hc.2.2.1) (c.trans hc.2.2.2.1)
  refine SQ ?_
  by_cases k:S.1.1=3
  ·cases hl:tL m n.2.2.1 S.1.2.2.2.1
   ·rw[Jm k hl];exact vw _ (.inr rfl)
   ·rw[ES hl,aL k]
    have hd:=JZ h hl
    exact Mk (vw _ (.inl rfl)) hi.1 hd
  ·rw[M2 k,aX k];exact vw _ (.inl rfl)
 ·rw[aX g] at he;exact absurd he g
end
end Go.Ev.M
