/-
  PROVED: what metronomeref05.Parse, Good and Explicit compute. Conditions: none.
-/
import Derived.Test.YteldjjjcdpnnbaaGreatFc
namespace Go.Ev.M
open Go.Proofs
set_option maxRecDepth 100000
set_option linter.unusedVariables false
set_option linter.unusedSimpArgs false
open Go.Ev.Pl
def t105(A:a_)(bN:Int)(bB:List Int)(at1:Int)(width:Int):LT Int Empty:=.need (A.k (@tt ((Int×List Int)×Int×Int)) ((bN,bB),at1,width)) (.ret (A.v .i64 (A.k oi ((bN,bB),at1,width)).1))
def bD:((Int×List Int)×Int×Int)→Int:=fun((bN,bB),at1,width)=>(t105 aj bN bB at1 width).val (Ty.bF [yI])
def Wi:aC:=⟨[(.struct [yI,yB]),yI,yI], [yI],(@tt ((Int×List Int)×Int×Int)),bD⟩
theorem zO:Sd 239 Wi:=aH ap cm true 29 [] (fun A ((bN,bB),at1,width)=>t105 A bN bB at1 width) (fc Tryz.func239 fz) (sc Fe sz) (fun(((bN,bB),at1,width):(Int×List Int)×Int×Int) hp h=>by
 show(t105 aj bN bB at1 width).pre=true
 simp[t105,LT.pre,ak,bK])
theorem Bu{n a w:Nat}{b:List Int}(hok:bd ((n:Int),b)=true)(h:a+w≤n)(hw:w≤61)(hn:n≤4096):aj.k bD (((n:Int),b),(a:Int),(w:Int))=((aT (unpack n b) a w:Nat):Int):=by
 have hf:=cu (unpack n b) a w
 have hp:2^w≤2^61:=Nat.pow_le_pow_right (by decide) hw
 show aj.v .i64 (aj.k oi (((n:Int),b),(a:Int),(w:Int))).1=_
 rw[Ch hok h (by omega) hn]
 exact JU (by omega)
theorem Ho{n a w:Nat}{b:List Int}(hok:bd ((n:Int),b)=true)(h:n<a+w):aj.k bD (((n:Int),b),(a:Int),(w:Int))=0:=by
 show aj.v .i64 (aj.k aD (((n:Int),b),(a:Int),(w:Int))).1=0
 rw[Cy hok h];rfl
theorem zo{l:List Bool}{a w:Nat}(hl:l.length≤4096)(h:a+w≤l.length)(hw:w≤61):aj.k bD (bq l,(a:Int),(w:Int))=((aT l a w:Nat):Int):=by
 have:=Bu (n:=l.length) (b:=pack l) (eU hl) h hw hl
 rwa [unpack_pack] at this
structure I8 where
 (a0 a1:Int)
inductive H_ where
 | c0 (p:I8) (a2:Int)
noncomputable def OH:H_→fJ
 | .c0 p a2=>⟨[⟨240,19,(en [(0,vi p.a0),(1,vi p.a1),(5,vi a2)]),[.inLoop (cw Tryz.f240 [1,0,1,0,0]),.inBlock 0,.code (cw Tryz.f240 [1,1])],[],none⟩],[.dead]⟩
def Xu(A:a_)(n:Int)(kind:Int):LT Bool H_:=.more (.c0 ⟨n,kind⟩ 0)
def I7(A:a_):H_→LT Bool H_
 | .c0 p a2=>.br (A.c .leq a2 8) (.br (A.c .gtr p.a0 0) (.need (A.k (@tt (Int×Int)) (p.a1,a2)) (.br (A.c .eql (A.k tV (p.a1,a2)) p.a0) (.ret true) (.more (.c0 p (A.b .add .i64 a2 1))))) (.more (.c0 p (A.b .add .i64 a2 1)))) (.ret false)
theorem Up{n k:Int}:∀(j i:Nat) (p:I8),p.a0=n→p.a1=k→9-i=j→i≤9→aF (I7 aj) (.more (.c0 p (i:Int))) (((List.range 9).drop i).any fun d=>decide (0<n)&&ki (k,(d:Int))==n):=by
 intro j
 induction j with
 | zero=>
   intro i p h0 h1 hj hi
   have:i=9:=by omega
   subst this
   rw[al,I7]
   exact(ah rfl).2 (.ret _)
 | succ j ih=>
   intro i p h0 h1 hj hi
   have hi':i<(List.range 9).length:=by rw[List.length_range];omega
   have hm:=ih (i+1) p h0 h1 (by omega) (by omega)
   have hnext:=aX (congrArg LT.more (congrArg (H_.c0 p) (cn (i:=i) (by omega)))) hm
   rw[al,I7]
   refine(ai (by rw[ar];simp;omega)).2 ?_
   rw[List.drop_eq_getElem_cons hi',List.any_cons,List.getElem_range]
   by_cases hn:0<n
   ·refine(ai (by rw[h0,ay];simpa using hn)).2 (af.2 ⟨rfl,?_⟩)
    have hs:aj.k tV (p.a1,(i:Int))=ki (k,(i:Int)):=by rw[h1,ak];exact uT.2
    rw[show decide (0<n)=true from by simpa using hn,Bool.true_and]
    cases he:(ki (k,(i:Int))==n)
    ·refine(ah (by rw[aA,hs,h0];exact he)).2 ?_
     rw[Bool.false_or]
     rw[show decide (0<n)=true from by simpa using hn] at hnext
     simpa only[Bool.true_and] using hnext
    ·exact(ai (by rw[aA,hs,h0];exact he)).2 (.ret _)
   ·refine(ah (by rw[h0,ay];simpa using hn)).2 ?_
    rw[show decide (0<n)=false from by simpa using hn,Bool.false_and,Bool.false_or]
    rw[show decide (0<n)=false from by simpa using hn] at hnext
    exact hnext
def ic:(Int×Int)→Bool:=fun(n,k)=>(List.range 9).any fun d=>decide (0<n)&&ki (k,(d:Int))==n
def RX:aC:=⟨[yI,yI], [.bool],(@tt (Int×Int)),ic⟩
theorem Xj:Sd 240 RX:=aK ap cm true 17 [⟨240,2, [[0,1,5]]⟩] [] (fun A (n,kind)=>Xu A n kind) I7 OH (fc Tryz.func240 fz) (sc Q5 sz) (fun A y=>match y with |.c0 p a2=>⟨36,by kernel_rfl,by kernel_rfl⟩) fun((n,kind):Int×Int) hp h=>by
 show aF (I7 aj) (Xu aj n kind) (ic (n,kind))
 exact Up 9 0 _ rfl rfl rfl (by omega)
theorem Dp{n:Nat}:ic ((n:Int),1)=dJ n 1∧ic ((n:Int),2)=dJ n 2∧ic ((n:Int),3)=dJ n 3∧ic ((n:Int),4)=dJ n 4:=by
 obtain⟨f2,f4,f1,f3⟩:=vc (n:=n)
 have key:∀k:Int,ic ((n:Int),k)=true↔∃d:Nat,d<9∧0<n∧ki (k,(d:Int))=(n:Int):=by
  intro k
  rw[ic,List.any_eq_true]
  constructor
  ·intro ⟨d,hd,h⟩
   rw[Bool.and_eq_true,decide_eq_true_eq,beq_iff_eq] at h
   exact⟨d,List.mem_range.1 hd,by omega,h.2⟩
  ·intro ⟨d,hd,h1,h2⟩
   exact⟨d,List.mem_range.2 hd,by rw[Bool.and_eq_true,decide_eq_true_eq,beq_iff_eq];exact⟨by omega,h2⟩⟩
 have sz:∀d:Nat,d<9→ki (1,(d:Int))=(if d=0 then 40 else 0)∧ki (2,(d:Int))=29+8*(d:Int)∧ki (3,(d:Int))=(if d=0 then 54 else 0)∧ki (4,(d:Int))=79+8*(d:Int):=by
  intro d hd
  have hh:0≤(d:Int)∧(d:Int)≤8:=by omega
  have h0:((d:Int)=0)↔d=0:=by omega
  simp only[ki,if_pos hh,h0]
  refine⟨rfl,rfl,rfl,rfl⟩
 refine⟨?_,?_,?_,?_⟩<;>rw[Bool.eq_iff_iff,key]
 ·rw[f1]
  constructor
  ·intro ⟨d,h1,h2,h3⟩;rw[(sz d h1).1] at h3;split at h3<;>omega
  ·intro h;exact⟨0,by decide,by omega,by rw[(sz 0 (by decide)).1];simp;omega⟩
 ·rw[f2]
  constructor
  ·intro ⟨d,h1,h2,h3⟩;rw[(sz d h1).2.1] at h3;omega
  ·intro h;exact⟨(n-29)/8,by omega,by omega,by rw[(sz _ (by omega)).2.1];omega⟩
 ·rw[f3]
  constructor
  ·intro ⟨d,h1,h2,h3⟩;rw[(sz d h1).2.2.1] at h3;split at h3<;>omega
  ·intro h;exact⟨0,by decide,by omega,by rw[(sz 0 (by decide)).2.2.1];simp;omega⟩
 ·rw[f4]
  constructor
  ·intro ⟨d,h1,h2,h3⟩;rw[(sz d h1).2.2.2] at h3;omega
  ·intro h;exact⟨(n-79)/8,by omega,by omega,by rw[(sz _ (by omega)).2.2.2];omega⟩
def t107(A:a_)(bN:Int)(bB:List Int)(kind:Int):LT Bool Empty:=.br (A.c .eql kind 1) (.need (A.k (@tt ((Int×List Int)×Int×Int)) ((bN,bB),13,3)) (.ret (A.c .eql (A.k bD ((bN,bB),13,3)) 0))) (.br (A.c .eql kind 3) (.need (A.k (@tt ((Int×List Int)×Int×Int)) ((bN,bB),5,1)) (.ret (A.c .eql (A.k bD ((bN,bB),5,1)) 0))) (.br (A.c .eql kind 4) (.need (A.k (@tt ((Int×List Int)×Int×Int)) ((bN,bB),5,2)) (.ret (A.c .eql (A.k bD ((bN,bB),5,2)) 0))) (.ret true)))
def y_:((Int×List Int)×Int)→Bool:=fun((bN,bB),kind)=>(t107 aj bN bB kind).val (Ty.bF [.bool])
def Xn:aC:=⟨[(.struct [yI,yB]),yI], [.bool],(@tt ((Int×List Int)×Int)),y_⟩
theorem RA:Sd 241 Xn:=aH ap cm true 42 [] (fun A ((bN,bB),kind)=>t107 A bN bB kind) (fc Tryz.func241 fz) (sc zO sz) (fun(((bN,bB),kind):(Int×List Int)×Int) hp h=>by
 show(t107 aj bN bB kind).pre=true
 simp[t107,LT.pre,ak,bK])
structure Nm where
 (a0 a1:Int) (a2:List Int)
structure GZ where
 (b1:Int) (b2:List Int)
inductive D4 where
 | c0 (p:Nm)
 | c1 (p:GZ) (b0:Int) (b3:List Int)
noncomputable def PQ:D4→fJ
 | .c0 p=>⟨[⟨244,21,(en [(1,vi p.a0),(2,.ptr 0 0),(5,.bZ true)]),[.inLoop (cw Tryz.f244 [1,1,0,0,0]),.inBlock 0,.code (cw Tryz.f244 [1,1,1])],[],none⟩],[.flat false [vi p.a1,.sl yU p.a2],.dead]⟩
 | .c1 p b0 b3=>⟨[⟨244,21,(en [(1,vi b0),(2,.ptr 0 0),(5,.own 1)]),[.inLoop (cw Tryz.f244 [1,1,0,0,0]),.inBlock 0,.code (cw Tryz.f244 [1,1,1])],[],none⟩],[.flat false [vi p.b1,.sl yU p.b2],.arr false yU b3,.dead]⟩
def OW(A:a_)(bN:Int)(bB:List Int)(at1:Int):LT (List Int) D4:=.more (.c0 ⟨at1,bN,bB⟩)
def Ed(A:a_):D4→LT (List Int) D4
 | .c0 p=>.br (A.c .leq (A.b .add .i64 p.a0 8) p.a1) (.need (A.k (@tt ((Int×List Int)×Int×Int)) ((p.a1,p.a2),p.a0,8)) (.need (A.c .leq (A.l [(A.v .u8 (A.k bD ((p.a1,p.a2),p.a0,8)))]) 140737488355328) (.more (.c1 ⟨p.a1,p.a2⟩ (A.b .add .i64 p.a0 8) [(A.v .u8 (A.k bD ((p.a1,p.a2),p.a0,8)))])))) (.ret ([]:List Int))
 | .c1 p b0 b3=>.br (A.c .leq (A.b .add .i64 b0 8) p.b1) (.need (A.k (@tt ((Int×List Int)×Int×Int)) ((p.b1,p.b2),b0,8)) (.need (A.c .leq (A.l (A.p b3 [(A.v .u8 (A.k bD ((p.b1,p.b2),b0,8)))])) 140737488355328) (.more (.c1 p (A.b .add .i64 b0 8) (A.p b3 [(A.v .u8 (A.k bD ((p.b1,p.b2),b0,8)))]))))) (.ret b3)
def qt:Nat→(Int×List Int)→Int→List Int
 | 0,_,_=>[]
 | k+1,b,a=>aj.v .u8 (bD (b,a,8))::qt k b (a+8)
theorem Lf{n:Int}{b:List Int}(hn:n≤4096):∀(k:Nat) (p:GZ) (a:Int) (r:List Int),p.b1=n→p.b2=b→0≤a→a≤5000→((n-a)/8).toNat=k→r.length≤10000-k→k≤600→aF (Ed aj) (.more (.c1 p a r)) (r++qt k (n,b) a):=by
 intro k
 induction k with
 | zero=>
   intro p a r h1 h2 h0 ha hk hr _
   rw[al,Ed]
   refine(ah (by rw[h1,bi,gg (by omega) (by omega),ar];simp;omega)).2 ?_
   rw[qt,List.append_nil]
   exact .ret _
 | succ k ih=>
   intro p a r h1 h2 h0 ha hk hr hk6
   rw[al,Ed]
   have ea:aj.b .add .i64 a 8=a+8:=by rw[bi,gg (by omega) (by omega)]
   refine(ai (by rw[h1,ea,ar];simp;omega)).2 (af.2 ⟨rfl,af.2 ⟨?_,?_⟩⟩)
   ·show decide (((r ++ [_]).length:Int)≤140737488355328)=true
    rw[List.length_append];simp;omega
   ·have hm:=ih p (a+8) (r ++ [aj.v .u8 (bD ((n,b),a,8))]) h1 h2 (by omega) (by omega) (by omega) (by rw[List.length_append];simp;omega) (by omega)
    rw[List.append_assoc] at hm
    have e:(aj.p r [(aj.v .u8 (aj.k bD ((p.b1,p.b2),a,8)))]:List Int)=r ++ [aj.v .u8 (bD ((n,b),a,8))]:=by
     rw[h1,h2];rfl
    exact aX (congrArg LT.more (congr (congrArg (D4.c1 p) ea) e)) hm
theorem Xc{n a:Int}{b:List Int}(hp:(decide (n≤4096)&&(decide (0≤a)&&decide (a≤1000)))=true):aF (Ed aj) (OW aj n b a) (qt ((n-a)/8).toNat (n,b) a):=by
 simp only[Bool.and_eq_true,decide_eq_true_eq] at hp
 unfold OW
 rw[al,Ed]
 have ea:aj.b .add .i64 a 8=a+8:=by rw[bi,gg (by omega) (by omega)]
 by_cases h:a+8≤n
 ·refine(ai (show aj.c .leq (aj.b .add .i64 a 8) n=true by rw[ea,ar];simpa using h)).2 (af.2 ⟨rfl,af.2 ⟨rfl,?_⟩⟩)
  have hm:=Lf (b:=b) hp.1 ((n-(a+8))/8).toNat ⟨n,b⟩ (a+8) [aj.v .u8 (bD ((n,b),a,8))] rfl rfl (by omega) (by omega) rfl (by simp;omega) (by omega)
  rw[show((n-a)/8).toNat=((n-(a+8))/8).toNat+1 from by omega,qt]
  exact aX (congrArg LT.more (congr (congrArg (D4.c1 _) ea) rfl)) hm
 ·refine(ah (show aj.c .leq (aj.b .add .i64 a 8) n=false by rw[ea,ar];simpa using h)).2 ?_
  rw[show((n-a)/8).toNat=0 from by omega]
  exact .ret _
def rU:((Int×List Int)×Int)→(List Int):=fun(b,a)=>qt ((b.1-a)/8).toNat b a
def oO:((Int×List Int)×Int)→Bool:=fun(b,a)=>decide (b.1≤4096)&&(decide (0≤a)&&decide (a≤1000))
def Uz:aC:=⟨[(.struct [yI,yB]),yI], [yB],oO,rU⟩
theorem Mh:Sd 244 Uz:=aK ap cm true 18 [⟨244,2, [[1,2,5]]⟩] [] (fun A ((bN,bB),at1)=>OW A bN bB at1) Ed PQ (fc Tryz.func244 fz) (sc zO sz) (fun A y=>match y with |.c0 p=>⟨35,by kernel_rfl,by kernel_rfl⟩|.c1 p b0 b3=>⟨35,by kernel_rfl,by kernel_rfl⟩) fun(((bN,bB),at1):(Int×List Int)×Int) hp h=>Xc hp
def Jj(A:a_)(bN:Int)(bB:List Int):LT ((Int×Int×(Int×Int×Int×Int×Int)×Int×List Int)×Int) Empty:=.need (A.k (@tt ((Int×List Int)×(Int×List Int))) ((bN,bB),0,([]:List Int))) (.need (A.k (@tt ((Int×List Int)×Int×Int)) ((A.k bw ((bN,bB),0,([]:List Int))).1,2,3)) (.need (A.k (@tt ((Int×List Int)×Int×Int)) ((A.k bw ((bN,bB),0,([]:List Int))).1,5,8)) (.ret ((1,0,((A.k bD ((A.k bw ((bN,bB),0,([]:List Int))).1,5,8)),0,0,0,0),(A.k bD ((A.k bw ((bN,bB),0,([]:List Int))).1,2,3)),([]:List Int)),(A.k bw ((bN,bB),0,([]:List Int))).2))))
def ou:((Int×List Int))→((Int×Int×(Int×Int×Int×Int×Int)×Int×List Int)×Int):=fun(bN,bB)=>(Jj aj bN bB).val (Ty.bF [(.struct [yI,yI,(.struct [yI,yI,yI,yI,yI]),yI,yB]),yI])
def XN:aC:=⟨[(.struct [yI,yB])], [(.struct [yI,yI,(.struct [yI,yI,yI,yI,yI]),yI,yB]),yI],(@tt ((Int×List Int))),ou⟩
theorem Tn:Sd 242 XN:=aH ap cm true 36 [] (fun A (bN,bB)=>Jj A bN bB) (fc Tryz.func242 fz) (sc zO (sc IB sz)) (fun((bN,bB):(Int×List Int)) hp h=>by
 show(Jj aj bN bB).pre=true
 simp[Jj,LT.pre,ak,bK])
theorem Gf{n:Nat}{b:List Int}(hok:bd ((n:Int),b)=true)(hn:n≤4096):∀(k a:Nat),a+8*k≤n→qt k ((n:Int),b) (a:Int)=aQ k ((unpack n b).drop a):=by
 intro k
 induction k with
 | zero=>intro a _;rfl
 | succ k ih=>
   intro a h
   have hf:=cu (unpack n b) a 8
   rw[qt,aQ,List.drop_drop,←ih (a+8) (by omega)]
   congr 1
   rw[show bD (((n:Int),b),(a:Int),8)=((aT (unpack n b) a 8:Nat):Int) from Bu (w:=8) hok (by omega) (by decide) hn,aU,w8 (by omega) (by omega)]
   rfl
theorem IM{x u:Int×List Int}(hb:bJ x.2):(cy (x,u)).1.1≤4096:=by
 obtain⟨n,b⟩:=x
 rw[cy]
 cases h1:(!bd (n,b) || !bd u)
 ·rw[cond_false]
  cases decide (n<24)
  ·rw[cond_false]
   cases over (over 0 (aY u)) (aY (n,b)) != 0
   ·rw[Bool.or_eq_false_iff,Bool.not_eq_false',Bool.not_eq_false'] at h1
    have:=Bv h1.1
    show(((aY (n,b)).take ((aY (n,b)).length-24)).length:Int)≤4096
    rw[List.length_take];omega
   ·exact(by decide:(0:Int)≤4096)
  ·exact(by decide:(0:Int)≤4096)
 ·exact(by decide:(0:Int)≤4096)
theorem z_{l:List Bool}{a k:Nat}(hl:l.length≤4096)(h:a+8*k≤l.length)(h2:l.length<a+8*k+8):rU (bq l,(a:Int))=aQ k (l.drop a):=by
 have:=Gf (n:=l.length) (b:=pack l) (eU hl) hl k a h
 rw[unpack_pack] at this
 show qt (((l.length:Int)-(a:Int))/8).toNat (bq l) (a:Int)=_
 rw[show(((l.length:Int)-(a:Int))/8).toNat=k from by omega]
 exact this
theorem KW{n:Nat}{b:List Int}(hok:bd ((n:Int),b)=true)(hn:n=40)(hz:over 0 (unpack n b)=0):ou ((n:Int),b)=((1,0,(((aT (unpack n b) 5 8:Nat):Int),0,0,0,0),((aT (unpack n b) 2 3:Nat):Int), []),0):=by
 have hl:(aY ((n:Int),b)).length=n:=by rw[dx];rfl
 have ho:aj.k bw (((n:Int),b),((0:Int),([]:List Int)))=(bq ((unpack n b).take 16),0):=by
  rw[ak,bw,fO (u:=(0, [])) hok rfl (by omega),hl,show over 0 (aY ((0:Int),([]:List Int)))=0 from rfl,show aY ((n:Int),b)=unpack n b from rfl,hz,show n-24=16 from by omega]
  rfl
 have h16:((unpack n b).take 16).length=16:=by rw[List.length_take,aR];omega
 apply mm
 unfold Jj
 refine af.2 ⟨rfl,af.2 ⟨rfl,af.2 ⟨rfl,?_⟩⟩⟩
 have e1:aj.k bD ((aj.k bw (((n:Int),b),((0:Int),([]:List Int)))).1,5,8)=((aT (unpack n b) 5 8:Nat):Int):=by
  rw[ho];exact(zo (a:=5) (w:=8) (by omega) (by omega) (by decide)).trans (by rw[tY (by decide)])
 have e2:aj.k bD ((aj.k bw (((n:Int),b),((0:Int),([]:List Int)))).1,2,3)=((aT (unpack n b) 2 3:Nat):Int):=by
  rw[ho];exact(zo (a:=2) (w:=3) (by omega) (by omega) (by decide)).trans (by rw[tY (by decide)])
 rw[e1,e2,ho]
 exact .ret _
theorem H8{n:Nat}{b:List Int}(hok:bd ((n:Int),b)=true)(hn:n=40)(hz:(over 0 (unpack n b) != 0)=true):(ou ((n:Int),b)).2=21:=by
 have hl:(aY ((n:Int),b)).length=n:=by rw[dx];rfl
 have ho:cy (((n:Int),b),((0:Int),([]:List Int)))=(zB,21):=by
  rw[fO (u:=(0, [])) hok rfl (by omega),show over 0 (aY ((0:Int),([]:List Int)))=0 from rfl,show aY ((n:Int),b)=unpack n b from rfl,hz]
  rfl
 show(cy (((n:Int),b),((0:Int),([]:List Int)))).2=21
 rw[ho]
def DC(A:a_)(bN:Int)(bB:List Int)(kind:Int)(many:Int):LT ((Int×Int×(Int×Int×Int×Int×Int)×Int×List Int)×Int) Empty:=.need (A.k (@tt ((Int×List Int)×Int×Int)) ((bN,bB),0,many)) (.need (A.k (@tt ((Int×List Int)×(Int×List Int))) ((A.k bA ((bN,bB),0,many)).1,0,([]:List Int))) (.br (A.c .neq (A.k bw ((A.k bA ((bN,bB),0,many)).1,0,([]:List Int))).2 0) (.ret ((0,0,(0,0,0,0,0),0,([]:List Int)),(A.k bw ((A.k bA ((bN,bB),0,many)).1,0,([]:List Int))).2)) (.need (A.k (@tt ((Int×List Int)×Int×Int)) ((A.k bw ((A.k bA ((bN,bB),0,many)).1,0,([]:List Int))).1,(A.b .sub .i64 (A.k bw ((A.k bA ((bN,bB),0,many)).1,0,([]:List Int))).1.1 24),(A.k bw ((A.k bA ((bN,bB),0,many)).1,0,([]:List Int))).1.1)) (.need (A.k (@tt ((Int×List Int)×Int×Int)) ((bN,bB),2,3)) (.br (A.c .eql kind 4) (.need (A.k (@tt ((Int×List Int)×(Int×List Int))) ((bN,bB),(A.k bA ((A.k bw ((A.k bA ((bN,bB),0,many)).1,0,([]:List Int))).1,(A.b .sub .i64 (A.k bw ((A.k bA ((bN,bB),0,many)).1,0,([]:List Int))).1.1 24),(A.k bw ((A.k bA ((bN,bB),0,many)).1,0,([]:List Int))).1.1)).1)) (.br (A.c .neq (A.k bw ((bN,bB),(A.k bA ((A.k bw ((A.k bA ((bN,bB),0,many)).1,0,([]:List Int))).1,(A.b .sub .i64 (A.k bw ((A.k bA ((bN,bB),0,many)).1,0,([]:List Int))).1.1 24),(A.k bw ((A.k bA ((bN,bB),0,many)).1,0,([]:List Int))).1.1)).1)).2 0) (.ret ((0,0,(0,0,0,0,0),0,([]:List Int)),(A.k bw ((bN,bB),(A.k bA ((A.k bw ((A.k bA ((bN,bB),0,many)).1,0,([]:List Int))).1,(A.b .sub .i64 (A.k bw ((A.k bA ((bN,bB),0,many)).1,0,([]:List Int))).1.1 24),(A.k bw ((A.k bA ((bN,bB),0,many)).1,0,([]:List Int))).1.1)).1)).2)) (.need (A.k oO ((A.k bw ((bN,bB),(A.k bA ((A.k bw ((A.k bA ((bN,bB),0,many)).1,0,([]:List Int))).1,(A.b .sub .i64 (A.k bw ((A.k bA ((bN,bB),0,many)).1,0,([]:List Int))).1.1 24),(A.k bw ((A.k bA ((bN,bB),0,many)).1,0,([]:List Int))).1.1)).1)).1,many)) (.need (A.k (@tt ((Int×List Int))) (A.k bA ((A.k bw ((A.k bA ((bN,bB),0,many)).1,0,([]:List Int))).1,(A.b .sub .i64 (A.k bw ((A.k bA ((bN,bB),0,many)).1,0,([]:List Int))).1.1 24),(A.k bw ((A.k bA ((bN,bB),0,many)).1,0,([]:List Int))).1.1)).1) (.br (A.c .neq (A.k vp (A.k bA ((A.k bw ((A.k bA ((bN,bB),0,many)).1,0,([]:List Int))).1,(A.b .sub .i64 (A.k bw ((A.k bA ((bN,bB),0,many)).1,0,([]:List Int))).1.1 24),(A.k bw ((A.k bA ((bN,bB),0,many)).1,0,([]:List Int))).1.1)).1).2 0) (.ret ((0,0,(0,0,0,0,0),0,([]:List Int)),51)) (.ret ((kind,(A.k bD ((bN,bB),2,3)),(A.k vp (A.k bA ((A.k bw ((A.k bA ((bN,bB),0,many)).1,0,([]:List Int))).1,(A.b .sub .i64 (A.k bw ((A.k bA ((bN,bB),0,many)).1,0,([]:List Int))).1.1 24),(A.k bw ((A.k bA ((bN,bB),0,many)).1,0,([]:List Int))).1.1)).1).1,0,(A.k rU ((A.k bw ((bN,bB),(A.k bA ((A.k bw ((A.k bA ((bN,bB),0,many)).1,0,([]:List Int))).1,(A.b .sub .i64 (A.k bw ((A.k bA ((bN,bB),0,many)).1,0,([]:List Int))).1.1 24),(A.k bw ((A.k bA ((bN,bB),0,many)).1,0,([]:List Int))).1.1)).1)).1,many))),0))))))) (.need (A.k (@tt ((Int×List Int))) (A.k bA ((A.k bw ((A.k bA ((bN,bB),0,many)).1,0,([]:List Int))).1,(A.b .sub .i64 (A.k bw ((A.k bA ((bN,bB),0,many)).1,0,([]:List Int))).1.1 24),(A.k bw ((A.k bA ((bN,bB),0,many)).1,0,([]:List Int))).1.1)).1) (.br (A.c .neq (A.k vp (A.k bA ((A.k bw ((A.k bA ((bN,bB),0,many)).1,0,([]:List Int))).1,(A.b .sub .i64 (A.k bw ((A.k bA ((bN,bB),0,many)).1,0,([]:List Int))).1.1 24),(A.k bw ((A.k bA ((bN,bB),0,many)).1,0,([]:List Int))).1.1)).1).2 0) (.ret ((0,0,(0,0,0,0,0),0,([]:List Int)),51)) (.ret ((kind,(A.k bD ((bN,bB),2,3)),(A.k vp (A.k bA ((A.k bw ((A.k bA ((bN,bB),0,many)).1,0,([]:List Int))).1,(A.b .sub .i64 (A.k bw ((A.k bA ((bN,bB),0,many)).1,0,([]:List Int))).1.1 24),(A.k bw ((A.k bA ((bN,bB),0,many)).1,0,([]:List Int))).1.1)).1).1,0,([]:List Int)),0)))))))))
def jy:((Int×List Int)×Int×Int)→((Int×Int×(Int×Int×Int×Int×Int)×Int×List Int)×Int):=fun((bN,bB),kind,many)=>(DC aj bN bB kind many).val (Ty.bF [(.struct [yI,yI,(.struct [yI,yI,yI,yI,yI]),yI,yB]),yI])
def xP:((Int×List Int)×Int×Int)→Bool:=fun(_,_,m)=>decide (0≤m)&&decide (m≤1000)
def QR:aC:=⟨[(.struct [yI,yB]),yI,yI], [(.struct [yI,yI,(.struct [yI,yI,yI,yI,yI]),yI,yB]),yI],xP,jy⟩
theorem Sr:Sd 245 QR:=aH ap cm true 134 [] (fun A ((bN,bB),kind,many)=>DC A bN bB kind many) (fc Tryz.func245 fz) (sc zO (sc IB (sc Mh (sc Mx (sc XU sz))))) (fun(((bN,bB),kind,many):(Int×List Int)×Int×Int) hp h=>by
 show(DC aj bN bB kind many).pre=true
 simp only[xP,Bool.and_eq_true,decide_eq_true_eq] at hp
 have hb:=(dh h.1).2.2
 have ho:∀u,aj.k oO ((aj.k bw ((bN,bB),u)).1,many)=true:=fun u=>by
  have:=IM (x:=(bN,bB)) (u:=u) hb
  rw[ak,ak,oO,bw];simp;omega
 simp[DC,LT.pre,ak,bK] at ho ⊢
 simp[ho])
theorem Fc{n:Nat}{b:List Int}(hok:bd ((n:Int),b)=true)(hn:n=54):jy (((n:Int),b),3,54)=bif over 0 (unpack n b) != 0 then(cq,21) else bif dB (dn (((unpack n b).drop 6).take 24)) then((3,((aT (unpack n b) 2 3:Nat):Int),dn (((unpack n b).drop 6).take 24),0, []),0) else(cq,51):=by
 have hlu:(unpack n b).length=n:=aR n b
 have hql:(((unpack n b).drop 6).take 24).length=24:=by rw[List.length_take,List.length_drop,hlu];omega
 have h30:((unpack n b).take 30).length=30:=by rw[List.length_take,hlu];omega
 have e1:aj.k bA (((n:Int),b),0,54)=(bq (unpack n b),0):=by
  rw[ak,bA,bQ]
  simp only[hok]
  rw[show decide ((n:Int)<54)=false from by simp;omega]
  show(bq (((unpack n b).take 54).drop 0),(0:Int))=_
  rw[List.drop_zero,List.take_of_length_le (by omega)]
 have e2:aj.k bw (bq (unpack n b),((0:Int),([]:List Int)))=bif over 0 (unpack n b) != 0 then(zB,21) else(bq ((unpack n b).take 30),0):=by
  have:=fO (n:=((unpack n b).length:Int)) (b:=pack (unpack n b)) (u:=(0, [])) (eU (by omega)) rfl (by rw[show(((unpack n b).length:Int),pack (unpack n b))=bq (unpack n b) from rfl,dT];omega)
  rw[show(((unpack n b).length:Int),pack (unpack n b))=bq (unpack n b) from rfl,dT,hlu,show n-24=30 from by omega,show over 0 (aY ((0:Int),([]:List Int)))=0 from rfl] at this
  exact this
 have e3:aj.k bA (bq ((unpack n b).take 30),aj.b .sub .i64 (bq ((unpack n b).take 30)).1 24,(bq ((unpack n b).take 30)).1)=(bq (((unpack n b).drop 6).take 24),0):=by
  have:=kX (l:=(unpack n b).take 30) (by omega) (by omega)
  rw[h30,List.drop_take] at this
  exact this
 have e4:aj.k bD (((n:Int),b),2,3)=((aT (unpack n b) 2 3:Nat):Int):=Bu (a:=2) (w:=3) hok (by omega) (by decide) (by omega)
 have e5:aj.k vp (bq (((unpack n b).drop 6).take 24))=bif dB (dn (((unpack n b).drop 6).take 24)) then(dn (((unpack n b).drop 6).take 24),0) else(zS,40):=kW hql
 apply mm
 unfold DC
 rw[e1]
 refine af.2 ⟨rfl,af.2 ⟨rfl,?_⟩⟩
 rw[e2]
 cases over 0 (unpack n b) != 0
 ·rw[cond_false,cond_false]
  refine(ah rfl).2 ?_
  rw[e3,e4]
  refine af.2 ⟨rfl,af.2 ⟨rfl,(ah rfl).2 (af.2 ⟨rfl,?_⟩)⟩⟩
  rw[e5]
  cases dB (dn (((unpack n b).drop 6).take 24))
  ·exact(ai rfl).2 (.ret _)
  ·exact(ah rfl).2 (.ret _)
 ·exact(ai rfl).2 (.ret _)
theorem Gr{n:Nat}{b:List Int}(hok:bd ((n:Int),b)=true)(hn:79≤n)(hn2:n≤143)(hn3:n%8=7):jy (((n:Int),b),4,55)=bif over 0 ((unpack n b).take 55) != 0 then(cq,21) else bif over (over 0 (((unpack n b).drop 7).take 24)) (unpack n b) != 0 then(cq,21) else bif dB (dn (((unpack n b).drop 7).take 24)) then((4,((aT (unpack n b) 2 3:Nat):Int),dn (((unpack n b).drop 7).take 24),0,aQ ((n-79)/8) ((unpack n b).drop 55)),0) else(cq,51):=by
 have hlu:(unpack n b).length=n:=aR n b
 have hql:(((unpack n b).drop 7).take 24).length=24:=by rw[List.length_take,List.length_drop,hlu];omega
 have h55:((unpack n b).take 55).length=55:=by rw[List.length_take,hlu];omega
 have h31:((unpack n b).take 31).length=31:=by rw[List.length_take,hlu];omega
 have hfl:((unpack n b).take (n-24)).length=n-24:=by rw[List.length_take,hlu];omega
 have e1:aj.k bA (((n:Int),b),0,55)=(bq ((unpack n b).take 55),0):=by
  rw[ak,bA,bQ]
  simp only[hok]
  rw[show decide ((n:Int)<55)=false from by simp;omega]
  rfl
 have e2:aj.k bw (bq ((unpack n b).take 55),((0:Int),([]:List Int)))=bif over 0 ((unpack n b).take 55) != 0 then(zB,21) else(bq ((unpack n b).take 31),0):=by
  have:=fO (n:=(bq ((unpack n b).take 55)).1) (b:=(bq ((unpack n b).take 55)).2) (u:=(0, [])) (eU (l:=(unpack n b).take 55) (by omega)) rfl (by rw[show((bq ((unpack n b).take 55)).1,(bq ((unpack n b).take 55)).2)=bq ((unpack n b).take 55) from rfl,dT];omega)
  rw[show((bq ((unpack n b).take 55)).1,(bq ((unpack n b).take 55)).2)=bq ((unpack n b).take 55) from rfl,dT,h55,List.take_take,show over 0 (aY ((0:Int),([]:List Int)))=0 from rfl] at this
  exact this
 have e3:aj.k bA (bq ((unpack n b).take 31),aj.b .sub .i64 (bq ((unpack n b).take 31)).1 24,(bq ((unpack n b).take 31)).1)=(bq (((unpack n b).drop 7).take 24),0):=by
  have:=kX (l:=(unpack n b).take 31) (by omega) (by omega)
  rw[h31,List.drop_take] at this
  exact this
 have e4:aj.k bD (((n:Int),b),2,3)=((aT (unpack n b) 2 3:Nat):Int):=Bu (a:=2) (w:=3) hok (by omega) (by decide) (by omega)
 have e5:aj.k vp (bq (((unpack n b).drop 7).take 24))=bif dB (dn (((unpack n b).drop 7).take 24)) then(dn (((unpack n b).drop 7).take 24),0) else(zS,40):=kW hql
 have e6:aj.k bw (((n:Int),b),bq (((unpack n b).drop 7).take 24))=bif over (over 0 (((unpack n b).drop 7).take 24)) (unpack n b) != 0 then(zB,21) else(bq ((unpack n b).take (n-24)),0):=by
  rw[ak,bw,fO hok (eU (by omega)) (by rw[dx];exact(by omega:24≤n)),dT]
  show(bif over (over 0 (((unpack n b).drop 7).take 24)) (unpack n b) != 0 then(zB,(21:Int)) else(bq ((unpack n b).take ((unpack n b).length-24)),0))=_
  rw[hlu]
 have e7:aj.k rU (bq ((unpack n b).take (n-24)),55)=aQ ((n-79)/8) ((unpack n b).drop 55):=by
  rw[ak]
  refine(z_ (a:=55) (k:=(n-79)/8) (by omega) (by omega) (by omega)).trans ?_
  exact j_ (by omega) (by omega)
 apply mm
 unfold DC
 rw[e1]
 refine af.2 ⟨rfl,af.2 ⟨rfl,?_⟩⟩
 rw[e2]
 cases over 0 ((unpack n b).take 55) != 0
 ·rw[cond_false,cond_false]
  refine(ah rfl).2 ?_
  rw[e3,e4]
  refine af.2 ⟨rfl,af.2 ⟨rfl,(ai rfl).2 (af.2 ⟨rfl,?_⟩)⟩⟩
  rw[e6]
  cases over (over 0 (((unpack n b).drop 7).take 24)) (unpack n b) != 0
  ·rw[cond_false,cond_false]
   refine(ah rfl).2 (af.2 ⟨?_,af.2 ⟨rfl,?_⟩⟩)
   ·rw[ak,oO]
    show(decide ((((unpack n b).take (n-24)).length:Int)≤4096)&&(decide ((0:Int)≤55)&&decide ((55:Int)≤1000)))=true
    rw[hfl];simp;omega
   ·rw[e5,e7]
    cases dB (dn (((unpack n b).drop 7).take 24))
    ·exact(ai rfl).2 (.ret _)
    ·exact(ah rfl).2 (.ret _)
  ·exact(ai rfl).2 (.ret _)
 ·exact(ai rfl).2 (.ret _)
open Go.Ev.Pl
def t52(A:a_)(bN:Int)(bB:List Int)(cTime:Int)(cPos:Int)(cMode:Int)(cNext:Int)(cMember:Int):LT ((Int×Int×(Int×Int×Int×Int×Int)×Int×List Int)×Int) Empty:=.need (A.k (@tt ((Int×List Int))) (bN,bB)) (.br (A.c .neq (A.k ei (bN,bB)) 0) (.ret ((0,0,(0,0,0,0,0),0,([]:List Int)),10)) (.need (A.k (@tt ((Int×Int×Int×Int×Int)×Int)) ((cTime,cPos,cMode,cNext,cMember),8)) (.br (A.c .neq (A.k q8 ((cTime,cPos,cMode,cNext,cMember),8)) 0) (.ret ((0,0,(0,0,0,0,0),0,([]:List Int)),40)) (.need (A.k (@tt ((Int×List Int)×Int×Int)) ((bN,bB),0,2)) (.need (A.k (@tt (Int×Int)) (bN,(A.b .add .i64 (A.k bD ((bN,bB),0,2)) 1))) (.br (A.not (A.k ic (bN,(A.b .add .i64 (A.k bD ((bN,bB),0,2)) 1)))) (.ret ((0,0,(0,0,0,0,0),0,([]:List Int)),51)) (.need (A.k (@tt ((Int×List Int)×Int)) ((bN,bB),(A.b .add .i64 (A.k bD ((bN,bB),0,2)) 1))) (.br (A.not (A.k y_ ((bN,bB),(A.b .add .i64 (A.k bD ((bN,bB),0,2)) 1)))) (.ret ((0,0,(0,0,0,0,0),0,([]:List Int)),51)) (.br (A.c .eql (A.b .add .i64 (A.k bD ((bN,bB),0,2)) 1) 1) (.need (A.k (@tt ((Int×List Int))) (bN,bB)) (.br (A.c .neq (A.k ou (bN,bB)).2 0) (.ret ((0,0,(0,0,0,0,0),0,([]:List Int)),(A.k ou (bN,bB)).2)) (.need (A.k (@tt ((Int×Int×(Int×Int×Int×Int×Int)×Int×List Int))) (A.k ou (bN,bB)).1) (.br (A.c .neq (A.k mU (A.k ou (bN,bB)).1) 0) (.ret ((0,0,(0,0,0,0,0),0,([]:List Int)),51)) (.ret ((A.k ou (bN,bB)).1,0)))))) (.br (A.c .eql (A.b .add .i64 (A.k bD ((bN,bB),0,2)) 1) 2) (.need (A.k (@tt ((Int×Int×Int×Int×Int))) (cTime,cPos,cMode,cNext,cMember)) (.need (A.k (@tt ((Int×List Int)×(Int×List Int))) ((bN,bB),(A.k jV (cTime,cPos,cMode,cNext,cMember)).1)) (.need (A.k (@tt ((Int×List Int)×Int×Int)) ((bN,bB),2,3)) (.need (A.k oO ((A.k bw ((bN,bB),(A.k jV (cTime,cPos,cMode,cNext,cMember)).1)).1,5)) (.br (A.c .neq (A.k bw ((bN,bB),(A.k jV (cTime,cPos,cMode,cNext,cMember)).1)).2 0) (.ret ((0,0,(0,0,0,0,0),0,([]:List Int)),(A.k bw ((bN,bB),(A.k jV (cTime,cPos,cMode,cNext,cMember)).1)).2)) (.need (A.k (@tt ((Int×Int×(Int×Int×Int×Int×Int)×Int×List Int))) ((A.b .add .i64 (A.k bD ((bN,bB),0,2)) 1),(A.k bD ((bN,bB),2,3)),(cTime,cPos,cMode,cNext,cMember),0,(A.k rU ((A.k bw ((bN,bB),(A.k jV (cTime,cPos,cMode,cNext,cMember)).1)).1,5)))) (.br (A.c .neq (A.k mU ((A.b .add .i64 (A.k bD ((bN,bB),0,2)) 1),(A.k bD ((bN,bB),2,3)),(cTime,cPos,cMode,cNext,cMember),0,(A.k rU ((A.k bw ((bN,bB),(A.k jV (cTime,cPos,cMode,cNext,cMember)).1)).1,5)))) 0) (.ret ((0,0,(0,0,0,0,0),0,([]:List Int)),51)) (.ret (((A.b .add .i64 (A.k bD ((bN,bB),0,2)) 1),(A.k bD ((bN,bB),2,3)),(cTime,cPos,cMode,cNext,cMember),0,(A.k rU ((A.k bw ((bN,bB),(A.k jV (cTime,cPos,cMode,cNext,cMember)).1)).1,5))),0))))))))) (.br (A.c .eql (A.b .add .i64 (A.k bD ((bN,bB),0,2)) 1) 3) (.need (A.k xP ((bN,bB),(A.b .add .i64 (A.k bD ((bN,bB),0,2)) 1),54)) (.br (A.c .neq (A.k jy ((bN,bB),(A.b .add .i64 (A.k bD ((bN,bB),0,2)) 1),54)).2 0) (.ret ((0,0,(0,0,0,0,0),0,([]:List Int)),(A.k jy ((bN,bB),(A.b .add .i64 (A.k bD ((bN,bB),0,2)) 1),54)).2)) (.need (A.k (@tt ((Int×Int×(Int×Int×Int×Int×Int)×Int×List Int))) (A.k jy ((bN,bB),(A.b .add .i64 (A.k bD ((bN,bB),0,2)) 1),54)).1) (.br (A.c .neq (A.k mU (A.k jy ((bN,bB),(A.b .add .i64 (A.k bD ((bN,bB),0,2)) 1),54)).1) 0) (.ret ((0,0,(0,0,0,0,0),0,([]:List Int)),51)) (.ret ((A.k jy ((bN,bB),(A.b .add .i64 (A.k bD ((bN,bB),0,2)) 1),54)).1,0)))))) (.need (A.k xP ((bN,bB),(A.b .add .i64 (A.k bD ((bN,bB),0,2)) 1),55)) (.br (A.c .neq (A.k jy ((bN,bB),(A.b .add .i64 (A.k bD ((bN,bB),0,2)) 1),55)).2 0) (.ret ((0,0,(0,0,0,0,0),0,([]:List Int)),(A.k jy ((bN,bB),(A.b .add .i64 (A.k bD ((bN,bB),0,2)) 1),55)).2)) (.need (A.k (@tt ((Int×Int×(Int×Int×Int×Int×Int)×Int×List Int))) (A.k jy ((bN,bB),(A.b .add .i64 (A.k bD ((bN,bB),0,2)) 1),55)).1) (.br (A.c .neq (A.k mU (A.k jy ((bN,bB),(A.b .add .i64 (A.k bD ((bN,bB),0,2)) 1),55)).1) 0) (.ret ((0,0,(0,0,0,0,0),0,([]:List Int)),51)) (.ret ((A.k jy ((bN,bB),(A.b .add .i64 (A.k bD ((bN,bB),0,2)) 1),55)).1,0)))))))))))))))))
theorem O8{n t p m x s:Int}{b:List Int}(h:Ty.cY [(.struct [(.int .i64),(.slice (.int .u8))]),(.struct [(.int .i64),(.int .i64),(.int .i64),(.int .i64),(.int .i64)])] ((n,b),(t,p,m,x,s))):aF Empty.elim (t52 aj n b t p m x s) (jP ((n,b),(t,p,m,x,s))):=by
 have h1:=wO h
 have hb:=(dh h1).2.2
 have hl:=cK h1
 unfold t52
 have hc:aj.k ei (n,b)=bif bd (n,b) then 0 else 10:=rfl
 refine af.2 ⟨rfl,?_⟩
 show aF Empty.elim _ (bif !bd (n,b) then(cq,10) else bif !dB (t,p,m,x,s) then(cq,40) else nc (aY (n,b)) (t,p,m,x,s))
 cases hok:bd (n,b)
 ·rw[hok] at hc
  exact(ai (dd (by rw[hc];decide))).2 (.ret _)
 rw[hok] at hc
 refine(ah (bO hc)).2 (af.2 ⟨rfl,?_⟩)
 rw[Bool.not_true,cond_false]
 have hchk:aj.k q8 ((t,p,m,x,s),8)=bif dB (t,p,m,x,s) then 0 else 40:=mD (t,p,m,x,s)
 cases hst:dB (t,p,m,x,s)
 ·rw[hst] at hchk
  exact(ai (dd (by rw[hchk];decide))).2 (.ret _)
 rw[hst] at hchk
 refine(ah (bO hchk)).2 (af.2 ⟨rfl,af.2 ⟨rfl,?_⟩⟩)
 rw[Bool.not_true,cond_false]
 obtain⟨h2,h3,h4⟩:=(eB hb).1 hok
 obtain⟨n,rfl⟩:=Int.eq_ofNat_of_zero_le h2
 have hn:n≤4096:=by omega
 have hun:aY ((n:Int),b)=unpack n b:=rfl
 have hlen:(aY ((n:Int),b)).length=n:=by rw[dx];rfl
 have hlu:(unpack n b).length=n:=aR n b
 rw[hun]
 obtain⟨hp1,hp2,hp3,hp4⟩:=Dp (n:=n)
 obtain⟨f2,f4,f1,f3⟩:=vc (n:=n)
 by_cases hs:n<2
 ·have hK:aj.b .add .i64 (aj.k bD (((n:Int),b),0,2)) 1=1:=by
   rw[show aj.k bD (((n:Int),b),0,2)=0 from Ho (a:=0) (w:=2) hok (by omega)];rfl
  rw[hK,uh (by omega)]
  refine(ai (show aj.not (aj.k ic ((n:Int),1))=true from ?_)).2 (.ret _)
  rw[aP,ak,hp1,show dJ n 1=false from by rw[←Bool.not_eq_true,f1];omega];rfl
 have hk:=CG (l:=unpack n b) (by omega)
 have hf:=cu (unpack n b) 0 2
 have hK:aj.b .add .i64 (aj.k bD (((n:Int),b),0,2)) 1=((aT (unpack n b) 0 2+1:Nat):Int):=by
  rw[show aj.k bD (((n:Int),b),0,2)=_ from Bu (a:=0) (w:=2) hok (by omega) (by decide) hn];exact cn (by omega)
 rw[hK]
 have hzr:∀a w:Nat,a+w≤n→w≤8→aj.c .eql (aj.k bD (((n:Int),b),(a:Int),(w:Int))) 0=!(aT (unpack n b) a w != 0):=fun a w h5 h6=>by
  rw[Bu hok h5 (by omega) hn,aA,Bool.eq_iff_iff];simp
 have hcase:aT (unpack n b) 0 2=0∨aT (unpack n b) 0 2=1∨aT (unpack n b) 0 2=2∨aT (unpack n b) 0 2=3:=by omega
 rcases hcase with h0|h0|h0|h0
 ·-- FrCold
  rw[h0] at hk ⊢
  rw[show((0+1:Nat):Int)=1 from rfl]
  by_cases hfit:dJ n 1=true
  ·have h40:=f1.1 hfit
   refine(ah (show aj.not (aj.k ic ((n:Int),1))=false by rw[aP,ak,hp1,hfit];rfl)).2 (af.2 ⟨rfl,?_⟩)
   rw[EV hk (by omega)]
   have hz:aj.not (aj.k y_ (((n:Int),b),1))=(aT (unpack n b) 13 3 != 0):=by
    show(!(aj.c .eql (aj.k bD (((n:Int),b),13,3)) 0))=_
    rw[show aj.c .eql (aj.k bD (((n:Int),b),13,3)) 0=_ from hzr 13 3 (by omega) (by decide),Bool.not_not]
   cases hzz:(aT (unpack n b) 13 3 != 0)
   ·refine(ah (hz.trans hzz)).2 ((ai rfl).2 (af.2 ⟨rfl,?_⟩))
    cases hov:(over 0 (unpack n b) != 0)
    ·have hcd:aj.k ou ((n:Int),b)=_:=KW hok h40 (by simpa using hov)
     rw[hcd]
     have l1:=cu (unpack n b) 2 3
     have l2:=cu (unpack n b) 5 8
     refine(ah rfl).2 (af.2 ⟨rfl,?_⟩)
     have hfo:fj (1,0,(((aT (unpack n b) 5 8:Nat):Int),0,0,0,0),((aT (unpack n b) 2 3:Nat):Int), [])=true:=by
      rw[fS,kM];simp;omega
     have hch:aj.k mU (1,0,(((aT (unpack n b) 5 8:Nat):Int),0,0,0,0),((aT (unpack n b) 2 3:Nat):Int), [])=0:=by
      rw[ak,pJ,hfo];rfl
     exact(ah (bO hch)).2 (.ret _)
    ·have hcd:(aj.k ou ((n:Int),b)).2=21:=H8 hok h40 hov
     refine(ai (dd (by rw[hcd];decide))).2 ?_
     exact aX (congrArg (fun z=>LT.ret (((0,0,(0,0,0,0,0),0,([]:List Int)):Int×Int×(Int×Int×Int×Int×Int)×Int×List Int),z)) hcd) (.ret _)
   ·exact(ai (hz.trans hzz)).2 (.ret _)
  ·rw[Bool.not_eq_true] at hfit
   rw[fw (by rw[hlu,hk];exact hfit)]
   exact(ai (show aj.not (aj.k ic ((n:Int),1))=true by rw[aP,ak,hp1,hfit];rfl)).2 (.ret _)
 ·-- FrN
  rw[h0] at hk ⊢
  rw[show((1+1:Nat):Int)=2 from rfl]
  by_cases hfit:dJ n 2=true
  ·have h29:=f2.1 hfit
   refine(ah (show aj.not (aj.k ic ((n:Int),2))=false by rw[aP,ak,hp2,hfit];rfl)).2 (af.2 ⟨rfl,(ah rfl).2 ((ah rfl).2 ((ai rfl).2 ?_))⟩)
   rw[FZ hk (by rw[hlu];exact hfit)]
   have hsb:aj.k jV (t,p,m,x,s)=(bq (bf (t,p,m,x,s)),0):=by rw[ak,jV,jm,hst];rfl
   have ho:aj.k bw (((n:Int),b),bq (bf (t,p,m,x,s)))=bif over (over 0 (bf (t,p,m,x,s))) (unpack n b) != 0 then(zB,21) else(bq ((unpack n b).take (n-24)),0):=by
    rw[ak,bw,fO hok (eU (by rw[kr];decide)) (by rw[hlen];omega),dT,hun,hlu]
   have e2:aj.k bD (((n:Int),b),2,3)=((aT (unpack n b) 2 3:Nat):Int):=Bu (a:=2) (w:=3) hok (by omega) (by decide) hn
   have hfl:((unpack n b).take (n-24)).length=n-24:=by rw[List.length_take,hlu];omega
   rw[hsb]
   refine af.2 ⟨rfl,af.2 ⟨rfl,af.2 ⟨rfl,?_⟩⟩⟩
   rw[ho,e2]
   cases hov:(over (over 0 (bf (t,p,m,x,s))) (unpack n b) != 0)
   ·rw[cond_false,cond_false]
    refine af.2 ⟨?_,(ah rfl).2 (af.2 ⟨rfl,?_⟩)⟩
    ·rw[ak,oO]
     show(decide ((((unpack n b).take (n-24)).length:Int)≤4096)&&(decide ((0:Int)≤5)&&decide ((5:Int)≤1000)))=true
     rw[hfl];simp;omega
    have hdd:aj.k rU (bq ((unpack n b).take (n-24)),5)=aQ (((unpack n b).length-29)/8) ((unpack n b).drop 5):=by
     rw[ak,hlu]
     refine(z_ (a:=5) (k:=(n-29)/8) (by omega) (by omega) (by omega)).trans ?_
     exact j_ (by omega) (by omega)
    rw[hdd]
    have hfo:fj (2,((aT (unpack n b) 2 3:Nat):Int),(t,p,m,x,s),0,aQ (((unpack n b).length-29)/8) ((unpack n b).drop 5))=!decide (4<aT (unpack n b) 2 3):=by
     rw[Bool.eq_iff_iff,fS,hst,cv];simp;omega
    have hch:aj.k mU (2,((aT (unpack n b) 2 3:Nat):Int),(t,p,m,x,s),0,aQ (((unpack n b).length-29)/8) ((unpack n b).drop 5))=bif !decide (4<aT (unpack n b) 2 3) then 0 else 50:=by
     rw[←hfo,ak];exact pJ
    cases hd:decide (4<aT (unpack n b) 2 3)
    ·rw[hd] at hch
     exact(ah (bO hch)).2 (.ret _)
    ·rw[hd] at hch
     exact(ai (dd (show aj.k mU (2,((aT (unpack n b) 2 3:Nat):Int),(t,p,m,x,s),0,aQ (((unpack n b).length-29)/8) ((unpack n b).drop 5))≠0 from by rw[hch];exact(by decide:(50:Int)≠0)))).2 (.ret _)
   ·rw[cond_true,cond_true]
    refine af.2 ⟨rfl,(ai rfl).2 (.ret _)⟩
  ·rw[Bool.not_eq_true] at hfit
   rw[fw (by rw[hlu,hk];exact hfit)]
   exact(ai (show aj.not (aj.k ic ((n:Int),2))=true by rw[aP,ak,hp2,hfit];rfl)).2 (.ret _)
 ·-- kind 3
  rw[h0] at hk ⊢
  rw[show((2+1:Nat):Int)=3 from rfl]
  by_cases hfit:dJ n 3=true
  ·have hnn:=f3.1 hfit
   refine(ah (show aj.not (aj.k ic ((n:Int),3))=false by rw[aP,ak,hp3,hfit];rfl)).2 (af.2 ⟨rfl,?_⟩)
   rw[Fo hk (by omega)]
   have hz:aj.not (aj.k y_ (((n:Int),b),3))=(aT (unpack n b) 5 1 != 0):=by
    show(!(aj.c .eql (aj.k bD (((n:Int),b),5,1)) 0))=_
    rw[show aj.c .eql (aj.k bD (((n:Int),b),5,1)) 0=_ from hzr 5 1 (by omega) (by decide),Bool.not_not]
   cases hzz:(aT (unpack n b) 5 1 != 0)
   ·refine(ah (hz.trans hzz)).2 ((ah rfl).2 ((ah rfl).2 ((ai rfl).2 (af.2 ⟨rfl,?_⟩))))
    have hsd:aj.k jy (((n:Int),b),3,54)=_:=Fc hok hnn
    rw[hsd]
    cases over 0 (unpack n b) != 0
    ·rw[cond_false,cond_false]
     cases hso:dB (dn (((unpack n b).drop 6).take 24))
     ·exact(ai rfl).2 (.ret _)
     ·rw[cond_true]
      refine(ah rfl).2 (af.2 ⟨rfl,?_⟩)
      have hfo:fj (3,((aT (unpack n b) 2 3:Nat):Int),dn (((unpack n b).drop 6).take 24),0, [])=!decide (4<aT (unpack n b) 2 3):=by
       have hso':=hso
       rw[dn] at hso' ⊢
       rw[Bool.eq_iff_iff,fS,hso'];simp;omega
      have hch:aj.k mU (3,((aT (unpack n b) 2 3:Nat):Int),dn (((unpack n b).drop 6).take 24),0, [])=bif !decide (4<aT (unpack n b) 2 3) then 0 else 50:=by
       rw[←hfo,ak];exact pJ
      cases hd:decide (4<aT (unpack n b) 2 3)
      ·rw[hd] at hch
       exact(ah (bO hch)).2 (.ret _)
      ·rw[hd] at hch
       exact(ai (dd (show aj.k mU (3,((aT (unpack n b) 2 3:Nat):Int),dn (((unpack n b).drop 6).take 24),0, [])≠0 from by rw[hch];exact(by decide:(50:Int)≠0)))).2 (.ret _)
    ·exact(ai rfl).2 (.ret _)
   ·exact(ai (hz.trans hzz)).2 (.ret _)
  ·rw[Bool.not_eq_true] at hfit
   rw[fw (by rw[hlu,hk];exact hfit)]
   exact(ai (show aj.not (aj.k ic ((n:Int),3))=true by rw[aP,ak,hp3,hfit];rfl)).2 (.ret _)
 ·-- kind 4
  rw[h0] at hk ⊢
  rw[show((3+1:Nat):Int)=4 from rfl]
  by_cases hfit:dJ n 4=true
  ·have hnn:=f4.1 hfit
   refine(ah (show aj.not (aj.k ic ((n:Int),4))=false by rw[aP,ak,hp4,hfit];rfl)).2 (af.2 ⟨rfl,?_⟩)
   rw[H7 hk (by rw[hlu];exact hfit),hlu]
   have hz:aj.not (aj.k y_ (((n:Int),b),4))=(aT (unpack n b) 5 2 != 0):=by
    show(!(aj.c .eql (aj.k bD (((n:Int),b),5,2)) 0))=_
    rw[show aj.c .eql (aj.k bD (((n:Int),b),5,2)) 0=_ from hzr 5 2 (by omega) (by decide),Bool.not_not]
   cases hzz:(aT (unpack n b) 5 2 != 0)
   ·refine(ah (hz.trans hzz)).2 ((ah rfl).2 ((ah rfl).2 ((ah rfl).2 (af.2 ⟨rfl,?_⟩))))
    have hsd:aj.k jy (((n:Int),b),4,55)=_:=Gr hok hnn.1 hnn.2.1 hnn.2.2
    rw[hsd]
    cases over 0 ((unpack n b).take 55) != 0
    ·cases over (over 0 (((unpack n b).drop 7).take 24)) (unpack n b) != 0
     ·rw[cond_false,cond_false,Bool.or_false,cond_false,cond_false]
      cases hso:dB (dn (((unpack n b).drop 7).take 24))
      ·exact(ai rfl).2 (.ret _)
      ·rw[cond_true]
       refine(ah rfl).2 (af.2 ⟨rfl,?_⟩)
       have hfo:fj (4,((aT (unpack n b) 2 3:Nat):Int),dn (((unpack n b).drop 7).take 24),0,aQ ((n-79)/8) ((unpack n b).drop 55))=!decide (4<aT (unpack n b) 2 3):=by
        have hso':=hso
        rw[dn] at hso' ⊢
        rw[Bool.eq_iff_iff,fS,hso',cv];simp;omega
       have hch:aj.k mU (4,((aT (unpack n b) 2 3:Nat):Int),dn (((unpack n b).drop 7).take 24),0,aQ ((n-79)/8) ((unpack n b).drop 55))=bif !decide (4<aT (unpack n b) 2 3) then 0 else 50:=by
        rw[←hfo,ak];exact pJ
       cases hd:decide (4<aT (unpack n b) 2 3)
       ·rw[hd] at hch
        exact(ah (bO hch)).2 (.ret _)
       ·rw[hd] at hch
        exact(ai (dd (show aj.k mU (4,((aT (unpack n b) 2 3:Nat):Int),dn (((unpack n b).drop 7).take 24),0,aQ ((n-79)/8) ((unpack n b).drop 55))≠0 from by rw[hch];exact(by decide:(50:Int)≠0)))).2 (.ret _)
     ·exact(ai rfl).2 (.ret _)
    ·exact(ai rfl).2 (.ret _)
   ·exact(ai (hz.trans hzz)).2 (.ret _)
  ·rw[Bool.not_eq_true] at hfit
   rw[fw (by rw[hlu,hk];exact hfit)]
   exact(ai (show aj.not (aj.k ic ((n:Int),4))=true by rw[aP,ak,hp4,hfit];rfl)).2 (.ret _)
def wj:((Int×List Int)×(Int×Int×Int×Int×Int))→((Int×Int×(Int×Int×Int×Int×Int)×Int×List Int)×Int):=jP
def aa4:aC:=⟨[(.struct [yI,yB]),(.struct [yI,yI,yI,yI,yI])], [(.struct [yI,yI,(.struct [yI,yI,yI,yI,yI]),yI,yB]),yI],(@tt ((Int×List Int)×(Int×Int×Int×Int×Int))),wj⟩
theorem Zc:Sd 214 aa4:=aM ap cm true 145 [] (fun A ((bN,bB),cTime,cPos,cMode,cNext,cMember)=>t52 A bN bB cTime cPos cMode cNext cMember) (fc Tryz.func214 fz) (sc D_ (sc RY (sc U_ (sc yx (sc zO (sc Xj (sc RA (sc Tn (sc IB (sc Mh (sc Sr sz))))))))))) fun((bN,bB),cTime,cPos,cMode,cNext,cMember) hp h=>O8 h
def t54(A:a_)(bN:Int)(bB:List Int)(cTime:Int)(cPos:Int)(cMode:Int)(cNext:Int)(cMember:Int):LT ((Int×Int×(Int×Int×Int×Int×Int)×Int×List Int)×Bool) Empty:=.need (A.k (@tt ((Int×List Int)×(Int×Int×Int×Int×Int))) ((bN,bB),cTime,cPos,cMode,cNext,cMember)) (.br (A.c .neq (A.k wj ((bN,bB),cTime,cPos,cMode,cNext,cMember)).2 0) (.ret ((0,0,(0,0,0,0,0),0,([]:List Int)),false)) (.br (A.c .eql (A.k wj ((bN,bB),cTime,cPos,cMode,cNext,cMember)).1.1 1) (.ret ((0,0,(0,0,0,0,0),0,([]:List Int)),false)) (.br (A.not (A.and (A.c .eql (A.k wj ((bN,bB),cTime,cPos,cMode,cNext,cMember)).1.2.2.1.1 cTime) (A.and (A.c .eql (A.k wj ((bN,bB),cTime,cPos,cMode,cNext,cMember)).1.2.2.1.2.1 cPos) (A.and (A.c .eql (A.k wj ((bN,bB),cTime,cPos,cMode,cNext,cMember)).1.2.2.1.2.2.1 cMode) (A.and (A.c .eql (A.k wj ((bN,bB),cTime,cPos,cMode,cNext,cMember)).1.2.2.1.2.2.2.1 cNext) (A.and (A.c .eql (A.k wj ((bN,bB),cTime,cPos,cMode,cNext,cMember)).1.2.2.1.2.2.2.2 cMember) true)))))) (.ret ((0,0,(0,0,0,0,0),0,([]:List Int)),false)) (.ret ((A.k wj ((bN,bB),cTime,cPos,cMode,cNext,cMember)).1,true)))))
def Br:((Int×List Int)×(Int×Int×Int×Int×Int))→((Int×Int×(Int×Int×Int×Int×Int)×Int×List Int)×Bool):=fun((bN,bB),cTime,cPos,cMode,cNext,cMember)=>(t54 aj bN bB cTime cPos cMode cNext cMember).val (Ty.bF [(.struct [yI,yI,(.struct [yI,yI,yI,yI,yI]),yI,yB]),.bool])
def Zi:aC:=⟨[(.struct [yI,yB]),(.struct [yI,yI,yI,yI,yI])], [(.struct [yI,yI,(.struct [yI,yI,yI,yI,yI]),yI,yB]),.bool],(@tt ((Int×List Int)×(Int×Int×Int×Int×Int))),Br⟩
theorem ZX:Sd 170 Zi:=aH ap cm true 50 [] (fun A ((bN,bB),cTime,cPos,cMode,cNext,cMember)=>t54 A bN bB cTime cPos cMode cNext cMember) (fc Tryz.func170 fz) (sc Zc sz) (fun(((bN,bB),cTime,cPos,cMode,cNext,cMember):(Int×List Int)×(Int×Int×Int×Int×Int)) hp h=>by
 show(t54 aj bN bB cTime cPos cMode cNext cMember).pre=true
 simp[t54,LT.pre,ak,bK])
theorem JP{b:Int×List Int}{t p m n s:Int}:Br (b,(t,p,m,n,s))=lW (b,(t,p,m,n,s)):=by
 obtain⟨bn,bb⟩:=b
 simp only[Br,t54,LT.val,lW,ak,aG,aA,aN,aP,wj,Bool.and_true]
 generalize jP ((bn,bb),(t,p,m,n,s))=q
 obtain⟨⟨k,r,⟨t',p',m',n',s'⟩,fr,d⟩,e⟩:=q
 simp only[]
 have hx:((t',p',m',n',s') != (t,p,m,n,s))=!(t'==t&&(p'==p&&(m'==m&&(n'==n&&s'==s)))):=by
  rw[Bool.eq_iff_iff]
  simp only[bne_iff_ne,ne_eq,Bool.not_eq_true',Prod.mk.injEq]
  rw[←Bool.not_eq_true]
  simp only[Bool.and_eq_true,beq_iff_eq]
 rw[hx]
 cases e != 0<;>cases k==1<;>cases (t'==t&&(p'==p&&(m'==m&&(n'==n&&s'==s))))<;>rfl
end Go.Ev.M
