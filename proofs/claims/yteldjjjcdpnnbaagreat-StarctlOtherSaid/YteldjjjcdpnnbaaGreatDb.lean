/-
  PROVED: what metronomeref05.Parse, Good and Explicit compute. Conditions: none.
-/
import Derived.Test.YteldjjjcdpnnbaaGreatFc
namespace Go.Ev.M
open Go.Proofs
set_option maxRecDepth 100000
set_option linter.unusedVariables false
set_option linter.unusedSimpArgs false
open Go.Ev.Pl
def t105(A:a_)(bN:Int)(bB:List Int)(at1:Int)(width:Int):LT Int Empty:=.need (A.k (@tt ((Int×List Int)×Int×Int)) ((bN,bB),at1,width)) (.ret (A.v .i64 (A.k qo ((bN,bB),at1,width)).1))
def bP:((Int×List Int)×Int×Int)→Int:=fun((bN,bB),at1,width)=>(t105 aj bN bB at1 width).val (Ty.bE [yI])
def Y4:aB:=⟨[(.struct [yI,yB]),yI,yI], [yI],(@tt ((Int×List Int)×Int×Int)),bP⟩
theorem D1:Sd 239 Y4:=aJ ax bK true 29 [] (fun A ((bN,bB),at1,width)=>t105 A bN bB at1 width) (fc Tryz.func239 fz) (sc K_ sz) (fun(((bN,bB),at1,width):(Int×List Int)×Int×Int) hp h=>by
 show(t105 aj bN bB at1 width).pre=true
 simp[t105,LT.pre,al,bH])
theorem E8{n a w:Nat}{b:List Int}(hok:bC ((n:Int),b)=true)(h:a+w≤n)(hw:w≤61)(hn:n≤4096):aj.k bP (((n:Int),b),(a:Int),(w:Int))=((bl (unpack n b) a w:Nat):Int):=by
 have hf:=c_ (unpack n b) a w
 have hp:2^w≤2^61:=Nat.pow_le_pow_right (by decide) hw
 show aj.v .i64 (aj.k qo (((n:Int),b),(a:Int),(w:Int))).1=_
 rw[Gy hok h (by omega) hn]
 exact PV (by omega)
theorem Nf{n a w:Nat}{b:List Int}(hok:bC ((n:Int),b)=true)(h:n<a+w):aj.k bP (((n:Int),b),(a:Int),(w:Int))=0:=by
 show aj.v .i64 (aj.k aK (((n:Int),b),(a:Int),(w:Int))).1=0
 rw[Hl hok h];rfl
theorem D_{l:List Bool}{a w:Nat}(hl:l.length≤4096)(h:a+w≤l.length)(hw:w≤61):aj.k bP (bJ l,(a:Int),(w:Int))=((bl l a w:Nat):Int):=by
 have:=E8 (n:=l.length) (b:=pack l) (fE hl) h hw hl
 rwa [unpack_pack] at this
structure Km where
 (a0 a1:Int)
inductive Mf where
 | c0 (p:Km) (a2:Int)
noncomputable def Tv:Mf→fL
 | .c0 p a2=>⟨[⟨240,19,(en [(0,vi p.a0),(1,vi p.a1),(5,vi a2)]),[.inLoop (cw Tryz.f240 [1,0,1,0,0]),.inBlock 0,.code (cw Tryz.f240 [1,1])],[],none⟩],[.dead]⟩
def adR(A:a_)(n:Int)(kind:Int):LT Bool Mf:=.more (.c0 ⟨n,kind⟩ 0)
def KD(A:a_):Mf→LT Bool Mf
 | .c0 p a2=>.br (A.c .leq a2 8) (.br (A.c .gtr p.a0 0) (.need (A.k (@tt (Int×Int)) (p.a1,a2)) (.br (A.c .eql (A.k yV (p.a1,a2)) p.a0) (.ret true) (.more (.c0 p (A.b .add .i64 a2 1))))) (.more (.c0 p (A.b .add .i64 a2 1)))) (.ret false)
theorem aeh{n k:Int}:∀(j i:Nat) (p:Km),p.a0=n→p.a1=k→9-i=j→i≤9→aA (KD aj) (.more (.c0 p (i:Int))) (((List.range 9).drop i).any fun d=>decide (0<n)&&lM (k,(d:Int))==n):=by
 intro j
 induction j with
 | zero=>
   intro i p h0 h1 hj hi
   have:i=9:=by omega
   subst this
   rw[ak,KD]
   exact(ah rfl).2 (.ret _)
 | succ j ih=>
   intro i p h0 h1 hj hi
   have hi':i<(List.range 9).length:=by rw[List.length_range];omega
   have hm:=ih (i+1) p h0 h1 (by omega) (by omega)
   have hnext:=bo (congrArg LT.more (congrArg (Mf.c0 p) (cf (i:=i) (by omega)))) hm
   rw[ak,KD]
   refine(ai (by rw[ay];simp;omega)).2 ?_
   rw[List.drop_eq_getElem_cons hi',List.any_cons,List.getElem_range]
   by_cases hn:0<n
   ·refine(ai (by rw[h0,aG];simpa using hn)).2 (af.2 ⟨rfl,?_⟩)
    have hs:aj.k yV (p.a1,(i:Int))=lM (k,(i:Int)):=by rw[h1,al];exact yH.2
    rw[show decide (0<n)=true from by simpa using hn,Bool.true_and]
    cases he:(lM (k,(i:Int))==n)
    ·refine(ah (by rw[aC,hs,h0];exact he)).2 ?_
     rw[Bool.false_or]
     rw[show decide (0<n)=true from by simpa using hn] at hnext
     simpa only[Bool.true_and] using hnext
    ·exact(ai (by rw[aC,hs,h0];exact he)).2 (.ret _)
   ·refine(ah (by rw[h0,aG];simpa using hn)).2 ?_
    rw[show decide (0<n)=false from by simpa using hn,Bool.false_and,Bool.false_or]
    rw[show decide (0<n)=false from by simpa using hn] at hnext
    exact hnext
def jk:(Int×Int)→Bool:=fun(n,k)=>(List.range 9).any fun d=>decide (0<n)&&lM (k,(d:Int))==n
def aaU:aB:=⟨[yI,yI], [.bool],(@tt (Int×Int)),jk⟩
theorem afx:Sd 240 aaU:=aL ax bK true 17 [⟨240,2, [[0,1,5]]⟩] [] (fun A (n,kind)=>adR A n kind) KD Tv (fc Tryz.func240 fz) (sc abT sz) (fun A y=>match y with |.c0 p a2=>⟨36,by kernel_rfl,by kernel_rfl⟩) fun((n,kind):Int×Int) hp h=>by
 show aA (KD aj) (adR aj n kind) (jk (n,kind))
 exact aeh 9 0 _ rfl rfl rfl (by omega)
theorem IR{n:Nat}:jk ((n:Int),1)=dX n 1∧jk ((n:Int),2)=dX n 2∧jk ((n:Int),3)=dX n 3∧jk ((n:Int),4)=dX n 4:=by
 obtain⟨f2,f4,f1,f3⟩:=yp (n:=n)
 have key:∀k:Int,jk ((n:Int),k)=true↔∃d:Nat,d<9∧0<n∧lM (k,(d:Int))=(n:Int):=by
  intro k
  rw[jk,List.any_eq_true]
  constructor
  ·intro ⟨d,hd,h⟩
   rw[Bool.and_eq_true,decide_eq_true_eq,beq_iff_eq] at h
   exact⟨d,List.mem_range.1 hd,by omega,h.2⟩
  ·intro ⟨d,hd,h1,h2⟩
   exact⟨d,List.mem_range.2 hd,by rw[Bool.and_eq_true,decide_eq_true_eq,beq_iff_eq];exact⟨by omega,h2⟩⟩
 have sz:∀d:Nat,d<9→lM (1,(d:Int))=(if d=0 then 40 else 0)∧lM (2,(d:Int))=29+8*(d:Int)∧lM (3,(d:Int))=(if d=0 then 54 else 0)∧lM (4,(d:Int))=79+8*(d:Int):=by
  intro d hd
  have hh:0≤(d:Int)∧(d:Int)≤8:=by omega
  have h0:((d:Int)=0)↔d=0:=by omega
  simp only[lM,if_pos hh,h0]
  refine⟨rfl,rfl,rfl,rfl⟩
 refine⟨?_,?_,?_,?_⟩<;>rw[Bool.eq_iff_iff,key]
 ·rw[f1]
  constructor
  ·intro ⟨d,h1,h2,h3⟩;rw[(sz d h1).1] at h3;split at h3<;>omega
  ·intro h;exact⟨0,by decide,by omega,by rw[(sz 0 (by decide)).1];simp;omega⟩
 ·rw[f2]
  constructor
  ·intro ⟨d,h1,h2,h3⟩;rw[(sz d h1).2.1] at h3;omega
  ·intro h;exact⟨(n-29)/8,by omega,by omega,by rw[(sz _ (by omega)).2.1];omega⟩
 ·rw[f3]
  constructor
  ·intro ⟨d,h1,h2,h3⟩;rw[(sz d h1).2.2.1] at h3;split at h3<;>omega
  ·intro h;exact⟨0,by decide,by omega,by rw[(sz 0 (by decide)).2.2.1];simp;omega⟩
 ·rw[f4]
  constructor
  ·intro ⟨d,h1,h2,h3⟩;rw[(sz d h1).2.2.2] at h3;omega
  ·intro h;exact⟨(n-79)/8,by omega,by omega,by rw[(sz _ (by omega)).2.2.2];omega⟩
def t107(A:a_)(bN:Int)(bB:List Int)(kind:Int):LT Bool Empty:=.br (A.c .eql kind 1) (.need (A.k (@tt ((Int×List Int)×Int×Int)) ((bN,bB),13,3)) (.ret (A.c .eql (A.k bP ((bN,bB),13,3)) 0))) (.br (A.c .eql kind 3) (.need (A.k (@tt ((Int×List Int)×Int×Int)) ((bN,bB),5,1)) (.ret (A.c .eql (A.k bP ((bN,bB),5,1)) 0))) (.br (A.c .eql kind 4) (.need (A.k (@tt ((Int×List Int)×Int×Int)) ((bN,bB),5,2)) (.ret (A.c .eql (A.k bP ((bN,bB),5,2)) 0))) (.ret true)))
def ED:((Int×List Int)×Int)→Bool:=fun((bN,bB),kind)=>(t107 aj bN bB kind).val (Ty.bE [.bool])
def Zr:aB:=⟨[(.struct [yI,yB]),yI], [.bool],(@tt ((Int×List Int)×Int)),ED⟩
theorem XT:Sd 241 Zr:=aJ ax bK true 42 [] (fun A ((bN,bB),kind)=>t107 A bN bB kind) (fc Tryz.func241 fz) (sc D1 sz) (fun(((bN,bB),kind):(Int×List Int)×Int) hp h=>by
 show(t107 aj bN bB kind).pre=true
 simp[t107,LT.pre,al,bH])
structure SQ where
 (a0 a1:Int) (a2:List Int)
structure J6 where
 (b1:Int) (b2:List Int)
inductive IL where
 | c0 (p:SQ)
 | c1 (p:J6) (b0:Int) (b3:List Int)
noncomputable def Wl:IL→fL
 | .c0 p=>⟨[⟨244,21,(en [(1,vi p.a0),(2,.ptr 0 0),(5,.bi true)]),[.inLoop (cw Tryz.f244 [1,1,0,0,0]),.inBlock 0,.code (cw Tryz.f244 [1,1,1])],[],none⟩],[.flat false [vi p.a1,.sl yU p.a2],.dead]⟩
 | .c1 p b0 b3=>⟨[⟨244,21,(en [(1,vi b0),(2,.ptr 0 0),(5,.own 1)]),[.inLoop (cw Tryz.f244 [1,1,0,0,0]),.inBlock 0,.code (cw Tryz.f244 [1,1,1])],[],none⟩],[.flat false [vi p.b1,.sl yU p.b2],.arr false yU b3,.dead]⟩
def Ve(A:a_)(bN:Int)(bB:List Int)(at1:Int):LT (List Int) IL:=.more (.c0 ⟨at1,bN,bB⟩)
def JG(A:a_):IL→LT (List Int) IL
 | .c0 p=>.br (A.c .leq (A.b .add .i64 p.a0 8) p.a1) (.need (A.k (@tt ((Int×List Int)×Int×Int)) ((p.a1,p.a2),p.a0,8)) (.need (A.c .leq (A.l [(A.v .u8 (A.k bP ((p.a1,p.a2),p.a0,8)))]) 140737488355328) (.more (.c1 ⟨p.a1,p.a2⟩ (A.b .add .i64 p.a0 8) [(A.v .u8 (A.k bP ((p.a1,p.a2),p.a0,8)))])))) (.ret ([]:List Int))
 | .c1 p b0 b3=>.br (A.c .leq (A.b .add .i64 b0 8) p.b1) (.need (A.k (@tt ((Int×List Int)×Int×Int)) ((p.b1,p.b2),b0,8)) (.need (A.c .leq (A.l (A.p b3 [(A.v .u8 (A.k bP ((p.b1,p.b2),b0,8)))])) 140737488355328) (.more (.c1 p (A.b .add .i64 b0 8) (A.p b3 [(A.v .u8 (A.k bP ((p.b1,p.b2),b0,8)))]))))) (.ret b3)
def rV:Nat→(Int×List Int)→Int→List Int
 | 0,_,_=>[]
 | k+1,b,a=>aj.v .u8 (bP (b,a,8))::rV k b (a+8)
theorem Qo{n:Int}{b:List Int}(hn:n≤4096):∀(k:Nat) (p:J6) (a:Int) (r:List Int),p.b1=n→p.b2=b→0≤a→a≤5000→((n-a)/8).toNat=k→r.length≤10000-k→k≤600→aA (JG aj) (.more (.c1 p a r)) (r++rV k (n,b) a):=by
 intro k
 induction k with
 | zero=>
   intro p a r h1 h2 h0 ha hk hr _
   rw[ak,JG]
   refine(ah (by rw[h1,bf,fV (by omega) (by omega),ay];simp;omega)).2 ?_
   rw[rV,List.append_nil]
   exact .ret _
 | succ k ih=>
   intro p a r h1 h2 h0 ha hk hr hk6
   rw[ak,JG]
   have ea:aj.b .add .i64 a 8=a+8:=by rw[bf,fV (by omega) (by omega)]
   refine(ai (by rw[h1,ea,ay];simp;omega)).2 (af.2 ⟨rfl,af.2 ⟨?_,?_⟩⟩)
   ·show decide (((r ++ [_]).length:Int)≤140737488355328)=true
    rw[List.length_append];simp;omega
   ·have hm:=ih p (a+8) (r ++ [aj.v .u8 (bP ((n,b),a,8))]) h1 h2 (by omega) (by omega) (by omega) (by rw[List.length_append];simp;omega) (by omega)
    rw[List.append_assoc] at hm
    have e:(aj.p r [(aj.v .u8 (aj.k bP ((p.b1,p.b2),a,8)))]:List Int)=r ++ [aj.v .u8 (bP ((n,b),a,8))]:=by
     rw[h1,h2];rfl
    exact bo (congrArg LT.more (congr (congrArg (IL.c1 p) ea) e)) hm
theorem acG{n a:Int}{b:List Int}(hp:(decide (n≤4096)&&(decide (0≤a)&&decide (a≤1000)))=true):aA (JG aj) (Ve aj n b a) (rV ((n-a)/8).toNat (n,b) a):=by
 simp only[Bool.and_eq_true,decide_eq_true_eq] at hp
 unfold Ve
 rw[ak,JG]
 have ea:aj.b .add .i64 a 8=a+8:=by rw[bf,fV (by omega) (by omega)]
 by_cases h:a+8≤n
 ·refine(ai (show aj.c .leq (aj.b .add .i64 a 8) n=true by rw[ea,ay];simpa using h)).2 (af.2 ⟨rfl,af.2 ⟨rfl,?_⟩⟩)
  have hm:=Qo (b:=b) hp.1 ((n-(a+8))/8).toNat ⟨n,b⟩ (a+8) [aj.v .u8 (bP ((n,b),a,8))] rfl rfl (by omega) (by omega) rfl (by simp;omega) (by omega)
  rw[show((n-a)/8).toNat=((n-(a+8))/8).toNat+1 from by omega,rV]
  exact bo (congrArg LT.more (congr (congrArg (IL.c1 _) ea) rfl)) hm
 ·refine(ah (show aj.c .leq (aj.b .add .i64 a 8) n=false by rw[ea,ay];simpa using h)).2 ?_
  rw[show((n-a)/8).toNat=0 from by omega]
  exact .ret _
def vD:((Int×List Int)×Int)→(List Int):=fun(b,a)=>rV ((b.1-a)/8).toNat b a
def qC:((Int×List Int)×Int)→Bool:=fun(b,a)=>decide (b.1≤4096)&&(decide (0≤a)&&decide (a≤1000))
def acR:aB:=⟨[(.struct [yI,yB]),yI], [yB],qC,vD⟩
theorem Sj:Sd 244 acR:=aL ax bK true 18 [⟨244,2, [[1,2,5]]⟩] [] (fun A ((bN,bB),at1)=>Ve A bN bB at1) JG Wl (fc Tryz.func244 fz) (sc D1 sz) (fun A y=>match y with |.c0 p=>⟨35,by kernel_rfl,by kernel_rfl⟩|.c1 p b0 b3=>⟨35,by kernel_rfl,by kernel_rfl⟩) fun(((bN,bB),at1):(Int×List Int)×Int) hp h=>acG hp
def N7(A:a_)(bN:Int)(bB:List Int):LT ((Int×Int×(Int×Int×Int×Int×Int)×Int×List Int)×Int) Empty:=.need (A.k (@tt ((Int×List Int)×(Int×List Int))) ((bN,bB),0,([]:List Int))) (.need (A.k (@tt ((Int×List Int)×Int×Int)) ((A.k bL ((bN,bB),0,([]:List Int))).1,2,3)) (.need (A.k (@tt ((Int×List Int)×Int×Int)) ((A.k bL ((bN,bB),0,([]:List Int))).1,5,8)) (.ret ((1,0,((A.k bP ((A.k bL ((bN,bB),0,([]:List Int))).1,5,8)),0,0,0,0),(A.k bP ((A.k bL ((bN,bB),0,([]:List Int))).1,2,3)),([]:List Int)),(A.k bL ((bN,bB),0,([]:List Int))).2))))
def qb:((Int×List Int))→((Int×Int×(Int×Int×Int×Int×Int)×Int×List Int)×Int):=fun(bN,bB)=>(N7 aj bN bB).val (Ty.bE [(.struct [yI,yI,(.struct [yI,yI,yI,yI,yI]),yI,yB]),yI])
def aaS:aB:=⟨[(.struct [yI,yB])], [(.struct [yI,yI,(.struct [yI,yI,yI,yI,yI]),yI,yB]),yI],(@tt ((Int×List Int))),qb⟩
theorem Yn:Sd 242 aaS:=aJ ax bK true 36 [] (fun A (bN,bB)=>N7 A bN bB) (fc Tryz.func242 fz) (sc D1 (sc Nq sz)) (fun((bN,bB):(Int×List Int)) hp h=>by
 show(N7 aj bN bB).pre=true
 simp[N7,LT.pre,al,bH])
theorem MP{n:Nat}{b:List Int}(hok:bC ((n:Int),b)=true)(hn:n≤4096):∀(k a:Nat),a+8*k≤n→rV k ((n:Int),b) (a:Int)=aZ k ((unpack n b).drop a):=by
 intro k
 induction k with
 | zero=>intro a _;rfl
 | succ k ih=>
   intro a h
   have hf:=c_ (unpack n b) a 8
   rw[rV,aZ,List.drop_drop,←ih (a+8) (by omega)]
   congr 1
   rw[show bP (((n:Int),b),(a:Int),8)=((bl (unpack n b) a 8:Nat):Int) from E8 (w:=8) hok (by omega) (by decide) hn,bd,w8 (by omega) (by omega)]
   rfl
theorem K0{x u:Int×List Int}(hb:bX x.2):(dd (x,u)).1.1≤4096:=by
 obtain⟨n,b⟩:=x
 rw[dd]
 cases h1:(!bC (n,b) || !bC u)
 ·rw[cond_false]
  cases decide (n<24)
  ·rw[cond_false]
   cases over (over 0 (bw u)) (bw (n,b)) != 0
   ·rw[Bool.or_eq_false_iff,Bool.not_eq_false',Bool.not_eq_false'] at h1
    have:=FY h1.1
    show(((bw (n,b)).take ((bw (n,b)).length-24)).length:Int)≤4096
    rw[List.length_take];omega
   ·exact(by decide:(0:Int)≤4096)
  ·exact(by decide:(0:Int)≤4096)
 ·exact(by decide:(0:Int)≤4096)
theorem Ex{l:List Bool}{a k:Nat}(hl:l.length≤4096)(h:a+8*k≤l.length)(h2:l.length<a+8*k+8):vD (bJ l,(a:Int))=aZ k (l.drop a):=by
 have:=MP (n:=l.length) (b:=pack l) (fE hl) hl k a h
 rw[unpack_pack] at this
 show rV (((l.length:Int)-(a:Int))/8).toNat (bJ l) (a:Int)=_
 rw[show(((l.length:Int)-(a:Int))/8).toNat=k from by omega]
 exact this
theorem OH{n:Nat}{b:List Int}(hok:bC ((n:Int),b)=true)(hn:n=40)(hz:over 0 (unpack n b)=0):qb ((n:Int),b)=((1,0,(((bl (unpack n b) 5 8:Nat):Int),0,0,0,0),((bl (unpack n b) 2 3:Nat):Int), []),0):=by
 have hl:(bw ((n:Int),b)).length=n:=by rw[dO];rfl
 have ho:aj.k bL (((n:Int),b),((0:Int),([]:List Int)))=(bJ ((unpack n b).take 16),0):=by
  rw[al,bL,gL (u:=(0, [])) hok rfl (by omega),hl,show over 0 (bw ((0:Int),([]:List Int)))=0 from rfl,show bw ((n:Int),b)=unpack n b from rfl,hz,show n-24=16 from by omega]
  rfl
 have h16:((unpack n b).take 16).length=16:=by rw[List.length_take,bg];omega
 apply o5
 unfold N7
 refine af.2 ⟨rfl,af.2 ⟨rfl,af.2 ⟨rfl,?_⟩⟩⟩
 have e1:aj.k bP ((aj.k bL (((n:Int),b),((0:Int),([]:List Int)))).1,5,8)=((bl (unpack n b) 5 8:Nat):Int):=by
  rw[ho];exact(D_ (a:=5) (w:=8) (by omega) (by omega) (by decide)).trans (by rw[zI (by decide)])
 have e2:aj.k bP ((aj.k bL (((n:Int),b),((0:Int),([]:List Int)))).1,2,3)=((bl (unpack n b) 2 3:Nat):Int):=by
  rw[ho];exact(D_ (a:=2) (w:=3) (by omega) (by omega) (by decide)).trans (by rw[zI (by decide)])
 rw[e1,e2,ho]
 exact .ret _
theorem JO{n:Nat}{b:List Int}(hok:bC ((n:Int),b)=true)(hn:n=40)(hz:(over 0 (unpack n b) != 0)=true):(qb ((n:Int),b)).2=21:=by
 have hl:(bw ((n:Int),b)).length=n:=by rw[dO];rfl
 have ho:dd (((n:Int),b),((0:Int),([]:List Int)))=(zB,21):=by
  rw[gL (u:=(0, [])) hok rfl (by omega),show over 0 (bw ((0:Int),([]:List Int)))=0 from rfl,show bw ((n:Int),b)=unpack n b from rfl,hz]
  rfl
 show(dd (((n:Int),b),((0:Int),([]:List Int)))).2=21
 rw[ho]
def IK(A:a_)(bN:Int)(bB:List Int)(kind:Int)(many:Int):LT ((Int×Int×(Int×Int×Int×Int×Int)×Int×List Int)×Int) Empty:=.need (A.k (@tt ((Int×List Int)×Int×Int)) ((bN,bB),0,many)) (.need (A.k (@tt ((Int×List Int)×(Int×List Int))) ((A.k bM ((bN,bB),0,many)).1,0,([]:List Int))) (.br (A.c .neq (A.k bL ((A.k bM ((bN,bB),0,many)).1,0,([]:List Int))).2 0) (.ret ((0,0,(0,0,0,0,0),0,([]:List Int)),(A.k bL ((A.k bM ((bN,bB),0,many)).1,0,([]:List Int))).2)) (.need (A.k (@tt ((Int×List Int)×Int×Int)) ((A.k bL ((A.k bM ((bN,bB),0,many)).1,0,([]:List Int))).1,(A.b .sub .i64 (A.k bL ((A.k bM ((bN,bB),0,many)).1,0,([]:List Int))).1.1 24),(A.k bL ((A.k bM ((bN,bB),0,many)).1,0,([]:List Int))).1.1)) (.need (A.k (@tt ((Int×List Int)×Int×Int)) ((bN,bB),2,3)) (.br (A.c .eql kind 4) (.need (A.k (@tt ((Int×List Int)×(Int×List Int))) ((bN,bB),(A.k bM ((A.k bL ((A.k bM ((bN,bB),0,many)).1,0,([]:List Int))).1,(A.b .sub .i64 (A.k bL ((A.k bM ((bN,bB),0,many)).1,0,([]:List Int))).1.1 24),(A.k bL ((A.k bM ((bN,bB),0,many)).1,0,([]:List Int))).1.1)).1)) (.br (A.c .neq (A.k bL ((bN,bB),(A.k bM ((A.k bL ((A.k bM ((bN,bB),0,many)).1,0,([]:List Int))).1,(A.b .sub .i64 (A.k bL ((A.k bM ((bN,bB),0,many)).1,0,([]:List Int))).1.1 24),(A.k bL ((A.k bM ((bN,bB),0,many)).1,0,([]:List Int))).1.1)).1)).2 0) (.ret ((0,0,(0,0,0,0,0),0,([]:List Int)),(A.k bL ((bN,bB),(A.k bM ((A.k bL ((A.k bM ((bN,bB),0,many)).1,0,([]:List Int))).1,(A.b .sub .i64 (A.k bL ((A.k bM ((bN,bB),0,many)).1,0,([]:List Int))).1.1 24),(A.k bL ((A.k bM ((bN,bB),0,many)).1,0,([]:List Int))).1.1)).1)).2)) (.need (A.k qC ((A.k bL ((bN,bB),(A.k bM ((A.k bL ((A.k bM ((bN,bB),0,many)).1,0,([]:List Int))).1,(A.b .sub .i64 (A.k bL ((A.k bM ((bN,bB),0,many)).1,0,([]:List Int))).1.1 24),(A.k bL ((A.k bM ((bN,bB),0,many)).1,0,([]:List Int))).1.1)).1)).1,many)) (.need (A.k (@tt ((Int×List Int))) (A.k bM ((A.k bL ((A.k bM ((bN,bB),0,many)).1,0,([]:List Int))).1,(A.b .sub .i64 (A.k bL ((A.k bM ((bN,bB),0,many)).1,0,([]:List Int))).1.1 24),(A.k bL ((A.k bM ((bN,bB),0,many)).1,0,([]:List Int))).1.1)).1) (.br (A.c .neq (A.k zv (A.k bM ((A.k bL ((A.k bM ((bN,bB),0,many)).1,0,([]:List Int))).1,(A.b .sub .i64 (A.k bL ((A.k bM ((bN,bB),0,many)).1,0,([]:List Int))).1.1 24),(A.k bL ((A.k bM ((bN,bB),0,many)).1,0,([]:List Int))).1.1)).1).2 0) (.ret ((0,0,(0,0,0,0,0),0,([]:List Int)),51)) (.ret ((kind,(A.k bP ((bN,bB),2,3)),(A.k zv (A.k bM ((A.k bL ((A.k bM ((bN,bB),0,many)).1,0,([]:List Int))).1,(A.b .sub .i64 (A.k bL ((A.k bM ((bN,bB),0,many)).1,0,([]:List Int))).1.1 24),(A.k bL ((A.k bM ((bN,bB),0,many)).1,0,([]:List Int))).1.1)).1).1,0,(A.k vD ((A.k bL ((bN,bB),(A.k bM ((A.k bL ((A.k bM ((bN,bB),0,many)).1,0,([]:List Int))).1,(A.b .sub .i64 (A.k bL ((A.k bM ((bN,bB),0,many)).1,0,([]:List Int))).1.1 24),(A.k bL ((A.k bM ((bN,bB),0,many)).1,0,([]:List Int))).1.1)).1)).1,many))),0))))))) (.need (A.k (@tt ((Int×List Int))) (A.k bM ((A.k bL ((A.k bM ((bN,bB),0,many)).1,0,([]:List Int))).1,(A.b .sub .i64 (A.k bL ((A.k bM ((bN,bB),0,many)).1,0,([]:List Int))).1.1 24),(A.k bL ((A.k bM ((bN,bB),0,many)).1,0,([]:List Int))).1.1)).1) (.br (A.c .neq (A.k zv (A.k bM ((A.k bL ((A.k bM ((bN,bB),0,many)).1,0,([]:List Int))).1,(A.b .sub .i64 (A.k bL ((A.k bM ((bN,bB),0,many)).1,0,([]:List Int))).1.1 24),(A.k bL ((A.k bM ((bN,bB),0,many)).1,0,([]:List Int))).1.1)).1).2 0) (.ret ((0,0,(0,0,0,0,0),0,([]:List Int)),51)) (.ret ((kind,(A.k bP ((bN,bB),2,3)),(A.k zv (A.k bM ((A.k bL ((A.k bM ((bN,bB),0,many)).1,0,([]:List Int))).1,(A.b .sub .i64 (A.k bL ((A.k bM ((bN,bB),0,many)).1,0,([]:List Int))).1.1 24),(A.k bL ((A.k bM ((bN,bB),0,many)).1,0,([]:List Int))).1.1)).1).1,0,([]:List Int)),0)))))))))
def lq:((Int×List Int)×Int×Int)→((Int×Int×(Int×Int×Int×Int×Int)×Int×List Int)×Int):=fun((bN,bB),kind,many)=>(IK aj bN bB kind many).val (Ty.bE [(.struct [yI,yI,(.struct [yI,yI,yI,yI,yI]),yI,yB]),yI])
def Dd:((Int×List Int)×Int×Int)→Bool:=fun(_,_,m)=>decide (0≤m)&&decide (m≤1000)
def Yh:aB:=⟨[(.struct [yI,yB]),yI,yI], [(.struct [yI,yI,(.struct [yI,yI,yI,yI,yI]),yI,yB]),yI],Dd,lq⟩
theorem Zv:Sd 245 Yh:=aJ ax bK true 134 [] (fun A ((bN,bB),kind,many)=>IK A bN bB kind many) (fc Tryz.func245 fz) (sc D1 (sc Nq (sc Sj (sc Rt (sc YB sz))))) (fun(((bN,bB),kind,many):(Int×List Int)×Int×Int) hp h=>by
 show(IK aj bN bB kind many).pre=true
 simp only[Dd,Bool.and_eq_true,decide_eq_true_eq] at hp
 have hb:=(dF h.1).2.2
 have ho:∀u,aj.k qC ((aj.k bL ((bN,bB),u)).1,many)=true:=fun u=>by
  have:=K0 (x:=(bN,bB)) (u:=u) hb
  rw[al,al,qC,bL];simp;omega
 simp[IK,LT.pre,al,bH] at ho ⊢
 simp[ho])
theorem LP{n:Nat}{b:List Int}(hok:bC ((n:Int),b)=true)(hn:n=54):lq (((n:Int),b),3,54)=bif over 0 (unpack n b) != 0 then(cX,21) else bif dQ (dH (((unpack n b).drop 6).take 24)) then((3,((bl (unpack n b) 2 3:Nat):Int),dH (((unpack n b).drop 6).take 24),0, []),0) else(cX,51):=by
 have hlu:(unpack n b).length=n:=bg n b
 have hql:(((unpack n b).drop 6).take 24).length=24:=by rw[List.length_take,List.length_drop,hlu];omega
 have h30:((unpack n b).take 30).length=30:=by rw[List.length_take,hlu];omega
 have e1:aj.k bM (((n:Int),b),0,54)=(bJ (unpack n b),0):=by
  rw[al,bM,cd]
  simp only[hok]
  rw[show decide ((n:Int)<54)=false from by simp;omega]
  show(bJ (((unpack n b).take 54).drop 0),(0:Int))=_
  rw[List.drop_zero,List.take_of_length_le (by omega)]
 have e2:aj.k bL (bJ (unpack n b),((0:Int),([]:List Int)))=bif over 0 (unpack n b) != 0 then(zB,21) else(bJ ((unpack n b).take 30),0):=by
  have:=gL (n:=((unpack n b).length:Int)) (b:=pack (unpack n b)) (u:=(0, [])) (fE (by omega)) rfl (by rw[show(((unpack n b).length:Int),pack (unpack n b))=bJ (unpack n b) from rfl,eF];omega)
  rw[show(((unpack n b).length:Int),pack (unpack n b))=bJ (unpack n b) from rfl,eF,hlu,show n-24=30 from by omega,show over 0 (bw ((0:Int),([]:List Int)))=0 from rfl] at this
  exact this
 have e3:aj.k bM (bJ ((unpack n b).take 30),aj.b .sub .i64 (bJ ((unpack n b).take 30)).1 24,(bJ ((unpack n b).take 30)).1)=(bJ (((unpack n b).drop 6).take 24),0):=by
  have:=mR (l:=(unpack n b).take 30) (by omega) (by omega)
  rw[h30,List.drop_take] at this
  exact this
 have e4:aj.k bP (((n:Int),b),2,3)=((bl (unpack n b) 2 3:Nat):Int):=E8 (a:=2) (w:=3) hok (by omega) (by decide) (by omega)
 have e5:aj.k zv (bJ (((unpack n b).drop 6).take 24))=bif dQ (dH (((unpack n b).drop 6).take 24)) then(dH (((unpack n b).drop 6).take 24),0) else(zS,40):=nJ hql
 apply o5
 unfold IK
 rw[e1]
 refine af.2 ⟨rfl,af.2 ⟨rfl,?_⟩⟩
 rw[e2]
 cases over 0 (unpack n b) != 0
 ·rw[cond_false,cond_false]
  refine(ah rfl).2 ?_
  rw[e3,e4]
  refine af.2 ⟨rfl,af.2 ⟨rfl,(ah rfl).2 (af.2 ⟨rfl,?_⟩)⟩⟩
  rw[e5]
  cases dQ (dH (((unpack n b).drop 6).take 24))
  ·exact(ai rfl).2 (.ret _)
  ·exact(ah rfl).2 (.ret _)
 ·exact(ai rfl).2 (.ret _)
theorem NH{n:Nat}{b:List Int}(hok:bC ((n:Int),b)=true)(hn:79≤n)(hn2:n≤143)(hn3:n%8=7):lq (((n:Int),b),4,55)=bif over 0 ((unpack n b).take 55) != 0 then(cX,21) else bif over (over 0 (((unpack n b).drop 7).take 24)) (unpack n b) != 0 then(cX,21) else bif dQ (dH (((unpack n b).drop 7).take 24)) then((4,((bl (unpack n b) 2 3:Nat):Int),dH (((unpack n b).drop 7).take 24),0,aZ ((n-79)/8) ((unpack n b).drop 55)),0) else(cX,51):=by
 have hlu:(unpack n b).length=n:=bg n b
 have hql:(((unpack n b).drop 7).take 24).length=24:=by rw[List.length_take,List.length_drop,hlu];omega
 have h55:((unpack n b).take 55).length=55:=by rw[List.length_take,hlu];omega
 have h31:((unpack n b).take 31).length=31:=by rw[List.length_take,hlu];omega
 have hfl:((unpack n b).take (n-24)).length=n-24:=by rw[List.length_take,hlu];omega
 have e1:aj.k bM (((n:Int),b),0,55)=(bJ ((unpack n b).take 55),0):=by
  rw[al,bM,cd]
  simp only[hok]
  rw[show decide ((n:Int)<55)=false from by simp;omega]
  rfl
 have e2:aj.k bL (bJ ((unpack n b).take 55),((0:Int),([]:List Int)))=bif over 0 ((unpack n b).take 55) != 0 then(zB,21) else(bJ ((unpack n b).take 31),0):=by
  have:=gL (n:=(bJ ((unpack n b).take 55)).1) (b:=(bJ ((unpack n b).take 55)).2) (u:=(0, [])) (fE (l:=(unpack n b).take 55) (by omega)) rfl (by rw[show((bJ ((unpack n b).take 55)).1,(bJ ((unpack n b).take 55)).2)=bJ ((unpack n b).take 55) from rfl,eF];omega)
  rw[show((bJ ((unpack n b).take 55)).1,(bJ ((unpack n b).take 55)).2)=bJ ((unpack n b).take 55) from rfl,eF,h55,List.take_take,show over 0 (bw ((0:Int),([]:List Int)))=0 from rfl] at this
  exact this
 have e3:aj.k bM (bJ ((unpack n b).take 31),aj.b .sub .i64 (bJ ((unpack n b).take 31)).1 24,(bJ ((unpack n b).take 31)).1)=(bJ (((unpack n b).drop 7).take 24),0):=by
  have:=mR (l:=(unpack n b).take 31) (by omega) (by omega)
  rw[h31,List.drop_take] at this
  exact this
 have e4:aj.k bP (((n:Int),b),2,3)=((bl (unpack n b) 2 3:Nat):Int):=E8 (a:=2) (w:=3) hok (by omega) (by decide) (by omega)
 have e5:aj.k zv (bJ (((unpack n b).drop 7).take 24))=bif dQ (dH (((unpack n b).drop 7).take 24)) then(dH (((unpack n b).drop 7).take 24),0) else(zS,40):=nJ hql
 have e6:aj.k bL (((n:Int),b),bJ (((unpack n b).drop 7).take 24))=bif over (over 0 (((unpack n b).drop 7).take 24)) (unpack n b) != 0 then(zB,21) else(bJ ((unpack n b).take (n-24)),0):=by
  rw[al,bL,gL hok (fE (by omega)) (by rw[dO];exact(by omega:24≤n)),eF]
  show(bif over (over 0 (((unpack n b).drop 7).take 24)) (unpack n b) != 0 then(zB,(21:Int)) else(bJ ((unpack n b).take ((unpack n b).length-24)),0))=_
  rw[hlu]
 have e7:aj.k vD (bJ ((unpack n b).take (n-24)),55)=aZ ((n-79)/8) ((unpack n b).drop 55):=by
  rw[al]
  refine(Ex (a:=55) (k:=(n-79)/8) (by omega) (by omega) (by omega)).trans ?_
  exact l7 (by omega) (by omega)
 apply o5
 unfold IK
 rw[e1]
 refine af.2 ⟨rfl,af.2 ⟨rfl,?_⟩⟩
 rw[e2]
 cases over 0 ((unpack n b).take 55) != 0
 ·rw[cond_false,cond_false]
  refine(ah rfl).2 ?_
  rw[e3,e4]
  refine af.2 ⟨rfl,af.2 ⟨rfl,(ai rfl).2 (af.2 ⟨rfl,?_⟩)⟩⟩
  rw[e6]
  cases over (over 0 (((unpack n b).drop 7).take 24)) (unpack n b) != 0
  ·rw[cond_false,cond_false]
   refine(ah rfl).2 (af.2 ⟨?_,af.2 ⟨rfl,?_⟩⟩)
   ·rw[al,qC]
    show(decide ((((unpack n b).take (n-24)).length:Int)≤4096)&&(decide ((0:Int)≤55)&&decide ((55:Int)≤1000)))=true
    rw[hfl];simp;omega
   ·rw[e5,e7]
    cases dQ (dH (((unpack n b).drop 7).take 24))
    ·exact(ai rfl).2 (.ret _)
    ·exact(ah rfl).2 (.ret _)
  ·exact(ai rfl).2 (.ret _)
 ·exact(ai rfl).2 (.ret _)
open Go.Ev.Pl
def t52(A:a_)(bN:Int)(bB:List Int)(cTime:Int)(cPos:Int)(cMode:Int)(cNext:Int)(cMember:Int):LT ((Int×Int×(Int×Int×Int×Int×Int)×Int×List Int)×Int) Empty:=.need (A.k (@tt ((Int×List Int))) (bN,bB)) (.br (A.c .neq (A.k e_ (bN,bB)) 0) (.ret ((0,0,(0,0,0,0,0),0,([]:List Int)),10)) (.need (A.k (@tt ((Int×Int×Int×Int×Int)×Int)) ((cTime,cPos,cMode,cNext,cMember),8)) (.br (A.c .neq (A.k pZ ((cTime,cPos,cMode,cNext,cMember),8)) 0) (.ret ((0,0,(0,0,0,0,0),0,([]:List Int)),40)) (.need (A.k (@tt ((Int×List Int)×Int×Int)) ((bN,bB),0,2)) (.need (A.k (@tt (Int×Int)) (bN,(A.b .add .i64 (A.k bP ((bN,bB),0,2)) 1))) (.br (A.not (A.k jk (bN,(A.b .add .i64 (A.k bP ((bN,bB),0,2)) 1)))) (.ret ((0,0,(0,0,0,0,0),0,([]:List Int)),51)) (.need (A.k (@tt ((Int×List Int)×Int)) ((bN,bB),(A.b .add .i64 (A.k bP ((bN,bB),0,2)) 1))) (.br (A.not (A.k ED ((bN,bB),(A.b .add .i64 (A.k bP ((bN,bB),0,2)) 1)))) (.ret ((0,0,(0,0,0,0,0),0,([]:List Int)),51)) (.br (A.c .eql (A.b .add .i64 (A.k bP ((bN,bB),0,2)) 1) 1) (.need (A.k (@tt ((Int×List Int))) (bN,bB)) (.br (A.c .neq (A.k qb (bN,bB)).2 0) (.ret ((0,0,(0,0,0,0,0),0,([]:List Int)),(A.k qb (bN,bB)).2)) (.need (A.k (@tt ((Int×Int×(Int×Int×Int×Int×Int)×Int×List Int))) (A.k qb (bN,bB)).1) (.br (A.c .neq (A.k oD (A.k qb (bN,bB)).1) 0) (.ret ((0,0,(0,0,0,0,0),0,([]:List Int)),51)) (.ret ((A.k qb (bN,bB)).1,0)))))) (.br (A.c .eql (A.b .add .i64 (A.k bP ((bN,bB),0,2)) 1) 2) (.need (A.k (@tt ((Int×Int×Int×Int×Int))) (cTime,cPos,cMode,cNext,cMember)) (.need (A.k (@tt ((Int×List Int)×(Int×List Int))) ((bN,bB),(A.k lC (cTime,cPos,cMode,cNext,cMember)).1)) (.need (A.k (@tt ((Int×List Int)×Int×Int)) ((bN,bB),2,3)) (.need (A.k qC ((A.k bL ((bN,bB),(A.k lC (cTime,cPos,cMode,cNext,cMember)).1)).1,5)) (.br (A.c .neq (A.k bL ((bN,bB),(A.k lC (cTime,cPos,cMode,cNext,cMember)).1)).2 0) (.ret ((0,0,(0,0,0,0,0),0,([]:List Int)),(A.k bL ((bN,bB),(A.k lC (cTime,cPos,cMode,cNext,cMember)).1)).2)) (.need (A.k (@tt ((Int×Int×(Int×Int×Int×Int×Int)×Int×List Int))) ((A.b .add .i64 (A.k bP ((bN,bB),0,2)) 1),(A.k bP ((bN,bB),2,3)),(cTime,cPos,cMode,cNext,cMember),0,(A.k vD ((A.k bL ((bN,bB),(A.k lC (cTime,cPos,cMode,cNext,cMember)).1)).1,5)))) (.br (A.c .neq (A.k oD ((A.b .add .i64 (A.k bP ((bN,bB),0,2)) 1),(A.k bP ((bN,bB),2,3)),(cTime,cPos,cMode,cNext,cMember),0,(A.k vD ((A.k bL ((bN,bB),(A.k lC (cTime,cPos,cMode,cNext,cMember)).1)).1,5)))) 0) (.ret ((0,0,(0,0,0,0,0),0,([]:List Int)),51)) (.ret (((A.b .add .i64 (A.k bP ((bN,bB),0,2)) 1),(A.k bP ((bN,bB),2,3)),(cTime,cPos,cMode,cNext,cMember),0,(A.k vD ((A.k bL ((bN,bB),(A.k lC (cTime,cPos,cMode,cNext,cMember)).1)).1,5))),0))))))))) (.br (A.c .eql (A.b .add .i64 (A.k bP ((bN,bB),0,2)) 1) 3) (.need (A.k Dd ((bN,bB),(A.b .add .i64 (A.k bP ((bN,bB),0,2)) 1),54)) (.br (A.c .neq (A.k lq ((bN,bB),(A.b .add .i64 (A.k bP ((bN,bB),0,2)) 1),54)).2 0) (.ret ((0,0,(0,0,0,0,0),0,([]:List Int)),(A.k lq ((bN,bB),(A.b .add .i64 (A.k bP ((bN,bB),0,2)) 1),54)).2)) (.need (A.k (@tt ((Int×Int×(Int×Int×Int×Int×Int)×Int×List Int))) (A.k lq ((bN,bB),(A.b .add .i64 (A.k bP ((bN,bB),0,2)) 1),54)).1) (.br (A.c .neq (A.k oD (A.k lq ((bN,bB),(A.b .add .i64 (A.k bP ((bN,bB),0,2)) 1),54)).1) 0) (.ret ((0,0,(0,0,0,0,0),0,([]:List Int)),51)) (.ret ((A.k lq ((bN,bB),(A.b .add .i64 (A.k bP ((bN,bB),0,2)) 1),54)).1,0)))))) (.need (A.k Dd ((bN,bB),(A.b .add .i64 (A.k bP ((bN,bB),0,2)) 1),55)) (.br (A.c .neq (A.k lq ((bN,bB),(A.b .add .i64 (A.k bP ((bN,bB),0,2)) 1),55)).2 0) (.ret ((0,0,(0,0,0,0,0),0,([]:List Int)),(A.k lq ((bN,bB),(A.b .add .i64 (A.k bP ((bN,bB),0,2)) 1),55)).2)) (.need (A.k (@tt ((Int×Int×(Int×Int×Int×Int×Int)×Int×List Int))) (A.k lq ((bN,bB),(A.b .add .i64 (A.k bP ((bN,bB),0,2)) 1),55)).1) (.br (A.c .neq (A.k oD (A.k lq ((bN,bB),(A.b .add .i64 (A.k bP ((bN,bB),0,2)) 1),55)).1) 0) (.ret ((0,0,(0,0,0,0,0),0,([]:List Int)),51)) (.ret ((A.k lq ((bN,bB),(A.b .add .i64 (A.k bP ((bN,bB),0,2)) 1),55)).1,0)))))))))))))))))
theorem U7{n t p m x s:Int}{b:List Int}(h:Ty.cB [(.struct [(.int .i64),(.slice (.int .u8))]),(.struct [(.int .i64),(.int .i64),(.int .i64),(.int .i64),(.int .i64)])] ((n,b),(t,p,m,x,s))):aA Empty.elim (t52 aj n b t p m x s) (kY ((n,b),(t,p,m,x,s))):=by
 have h1:=Bu h
 have hb:=(dF h1).2.2
 have hl:=du h1
 unfold t52
 have hc:aj.k e_ (n,b)=bif bC (n,b) then 0 else 10:=rfl
 refine af.2 ⟨rfl,?_⟩
 show aA Empty.elim _ (bif !bC (n,b) then(cX,10) else bif !dQ (t,p,m,x,s) then(cX,40) else oc (bw (n,b)) (t,p,m,x,s))
 cases hok:bC (n,b)
 ·rw[hok] at hc
  exact(ai (dE (by rw[hc];decide))).2 (.ret _)
 rw[hok] at hc
 refine(ah (b_ hc)).2 (af.2 ⟨rfl,?_⟩)
 rw[Bool.not_true,cond_false]
 have hchk:aj.k pZ ((t,p,m,x,s),8)=bif dQ (t,p,m,x,s) then 0 else 40:=ox (t,p,m,x,s)
 cases hst:dQ (t,p,m,x,s)
 ·rw[hst] at hchk
  exact(ai (dE (by rw[hchk];decide))).2 (.ret _)
 rw[hst] at hchk
 refine(ah (b_ hchk)).2 (af.2 ⟨rfl,af.2 ⟨rfl,?_⟩⟩)
 rw[Bool.not_true,cond_false]
 obtain⟨h2,h3,h4⟩:=(fh hb).1 hok
 obtain⟨n,rfl⟩:=Int.eq_ofNat_of_zero_le h2
 have hn:n≤4096:=by omega
 have hun:bw ((n:Int),b)=unpack n b:=rfl
 have hlen:(bw ((n:Int),b)).length=n:=by rw[dO];rfl
 have hlu:(unpack n b).length=n:=bg n b
 rw[hun]
 obtain⟨hp1,hp2,hp3,hp4⟩:=IR (n:=n)
 obtain⟨f2,f4,f1,f3⟩:=yp (n:=n)
 by_cases hs:n<2
 ·have hK:aj.b .add .i64 (aj.k bP (((n:Int),b),0,2)) 1=1:=by
   rw[show aj.k bP (((n:Int),b),0,2)=0 from Nf (a:=0) (w:=2) hok (by omega)];rfl
  rw[hK,yb (by omega)]
  refine(ai (show aj.not (aj.k jk ((n:Int),1))=true from ?_)).2 (.ret _)
  rw[aT,al,hp1,show dX n 1=false from by rw[←Bool.not_eq_true,f1];omega];rfl
 have hk:=Ir (l:=unpack n b) (by omega)
 have hf:=c_ (unpack n b) 0 2
 have hK:aj.b .add .i64 (aj.k bP (((n:Int),b),0,2)) 1=((bl (unpack n b) 0 2+1:Nat):Int):=by
  rw[show aj.k bP (((n:Int),b),0,2)=_ from E8 (a:=0) (w:=2) hok (by omega) (by decide) hn];exact cf (by omega)
 rw[hK]
 have hzr:∀a w:Nat,a+w≤n→w≤8→aj.c .eql (aj.k bP (((n:Int),b),(a:Int),(w:Int))) 0=!(bl (unpack n b) a w != 0):=fun a w h5 h6=>by
  rw[E8 hok h5 (by omega) hn,aC,Bool.eq_iff_iff];simp
 have hcase:bl (unpack n b) 0 2=0∨bl (unpack n b) 0 2=1∨bl (unpack n b) 0 2=2∨bl (unpack n b) 0 2=3:=by omega
 rcases hcase with h0|h0|h0|h0
 ·-- FrCold
  rw[h0] at hk ⊢
  rw[show((0+1:Nat):Int)=1 from rfl]
  by_cases hfit:dX n 1=true
  ·have h40:=f1.1 hfit
   refine(ah (show aj.not (aj.k jk ((n:Int),1))=false by rw[aT,al,hp1,hfit];rfl)).2 (af.2 ⟨rfl,?_⟩)
   rw[Ni hk (by omega)]
   have hz:aj.not (aj.k ED (((n:Int),b),1))=(bl (unpack n b) 13 3 != 0):=by
    show(!(aj.c .eql (aj.k bP (((n:Int),b),13,3)) 0))=_
    rw[show aj.c .eql (aj.k bP (((n:Int),b),13,3)) 0=_ from hzr 13 3 (by omega) (by decide),Bool.not_not]
   cases hzz:(bl (unpack n b) 13 3 != 0)
   ·refine(ah (hz.trans hzz)).2 ((ai rfl).2 (af.2 ⟨rfl,?_⟩))
    cases hov:(over 0 (unpack n b) != 0)
    ·have hcd:aj.k qb ((n:Int),b)=_:=OH hok h40 (by simpa using hov)
     rw[hcd]
     have l1:=c_ (unpack n b) 2 3
     have l2:=c_ (unpack n b) 5 8
     refine(ah rfl).2 (af.2 ⟨rfl,?_⟩)
     have hfo:fO (1,0,(((bl (unpack n b) 5 8:Nat):Int),0,0,0,0),((bl (unpack n b) 2 3:Nat):Int), [])=true:=by
      rw[gJ,mF];simp;omega
     have hch:aj.k oD (1,0,(((bl (unpack n b) 5 8:Nat):Int),0,0,0,0),((bl (unpack n b) 2 3:Nat):Int), [])=0:=by
      rw[al,rF,hfo];rfl
     exact(ah (b_ hch)).2 (.ret _)
    ·have hcd:(aj.k qb ((n:Int),b)).2=21:=JO hok h40 hov
     refine(ai (dE (by rw[hcd];decide))).2 ?_
     exact bo (congrArg (fun z=>LT.ret (((0,0,(0,0,0,0,0),0,([]:List Int)):Int×Int×(Int×Int×Int×Int×Int)×Int×List Int),z)) hcd) (.ret _)
   ·exact(ai (hz.trans hzz)).2 (.ret _)
  ·rw[Bool.not_eq_true] at hfit
   rw[fZ (by rw[hlu,hk];exact hfit)]
   exact(ai (show aj.not (aj.k jk ((n:Int),1))=true by rw[aT,al,hp1,hfit];rfl)).2 (.ret _)
 ·-- FrN
  rw[h0] at hk ⊢
  rw[show((1+1:Nat):Int)=2 from rfl]
  by_cases hfit:dX n 2=true
  ·have h29:=f2.1 hfit
   refine(ah (show aj.not (aj.k jk ((n:Int),2))=false by rw[aT,al,hp2,hfit];rfl)).2 (af.2 ⟨rfl,(ah rfl).2 ((ah rfl).2 ((ai rfl).2 ?_))⟩)
   rw[Mw hk (by rw[hlu];exact hfit)]
   have hsb:aj.k lC (t,p,m,x,s)=(bJ (bD (t,p,m,x,s)),0):=by rw[al,lC,kC,hst];rfl
   have ho:aj.k bL (((n:Int),b),bJ (bD (t,p,m,x,s)))=bif over (over 0 (bD (t,p,m,x,s))) (unpack n b) != 0 then(zB,21) else(bJ ((unpack n b).take (n-24)),0):=by
    rw[al,bL,gL hok (fE (by rw[mj];decide)) (by rw[hlen];omega),eF,hun,hlu]
   have e2:aj.k bP (((n:Int),b),2,3)=((bl (unpack n b) 2 3:Nat):Int):=E8 (a:=2) (w:=3) hok (by omega) (by decide) hn
   have hfl:((unpack n b).take (n-24)).length=n-24:=by rw[List.length_take,hlu];omega
   rw[hsb]
   refine af.2 ⟨rfl,af.2 ⟨rfl,af.2 ⟨rfl,?_⟩⟩⟩
   rw[ho,e2]
   cases hov:(over (over 0 (bD (t,p,m,x,s))) (unpack n b) != 0)
   ·rw[cond_false,cond_false]
    refine af.2 ⟨?_,(ah rfl).2 (af.2 ⟨rfl,?_⟩)⟩
    ·rw[al,qC]
     show(decide ((((unpack n b).take (n-24)).length:Int)≤4096)&&(decide ((0:Int)≤5)&&decide ((5:Int)≤1000)))=true
     rw[hfl];simp;omega
    have hdd:aj.k vD (bJ ((unpack n b).take (n-24)),5)=aZ (((unpack n b).length-29)/8) ((unpack n b).drop 5):=by
     rw[al,hlu]
     refine(Ex (a:=5) (k:=(n-29)/8) (by omega) (by omega) (by omega)).trans ?_
     exact l7 (by omega) (by omega)
    rw[hdd]
    have hfo:fO (2,((bl (unpack n b) 2 3:Nat):Int),(t,p,m,x,s),0,aZ (((unpack n b).length-29)/8) ((unpack n b).drop 5))=!decide (4<bl (unpack n b) 2 3):=by
     rw[Bool.eq_iff_iff,gJ,hst,da];simp;omega
    have hch:aj.k oD (2,((bl (unpack n b) 2 3:Nat):Int),(t,p,m,x,s),0,aZ (((unpack n b).length-29)/8) ((unpack n b).drop 5))=bif !decide (4<bl (unpack n b) 2 3) then 0 else 50:=by
     rw[←hfo,al];exact rF
    cases hd:decide (4<bl (unpack n b) 2 3)
    ·rw[hd] at hch
     exact(ah (b_ hch)).2 (.ret _)
    ·rw[hd] at hch
     exact(ai (dE (show aj.k oD (2,((bl (unpack n b) 2 3:Nat):Int),(t,p,m,x,s),0,aZ (((unpack n b).length-29)/8) ((unpack n b).drop 5))≠0 from by rw[hch];exact(by decide:(50:Int)≠0)))).2 (.ret _)
   ·rw[cond_true,cond_true]
    refine af.2 ⟨rfl,(ai rfl).2 (.ret _)⟩
  ·rw[Bool.not_eq_true] at hfit
   rw[fZ (by rw[hlu,hk];exact hfit)]
   exact(ai (show aj.not (aj.k jk ((n:Int),2))=true by rw[aT,al,hp2,hfit];rfl)).2 (.ret _)
 ·-- kind 3
  rw[h0] at hk ⊢
  rw[show((2+1:Nat):Int)=3 from rfl]
  by_cases hfit:dX n 3=true
  ·have hnn:=f3.1 hfit
   refine(ah (show aj.not (aj.k jk ((n:Int),3))=false by rw[aT,al,hp3,hfit];rfl)).2 (af.2 ⟨rfl,?_⟩)
   rw[Kx hk (by omega)]
   have hz:aj.not (aj.k ED (((n:Int),b),3))=(bl (unpack n b) 5 1 != 0):=by
    show(!(aj.c .eql (aj.k bP (((n:Int),b),5,1)) 0))=_
    rw[show aj.c .eql (aj.k bP (((n:Int),b),5,1)) 0=_ from hzr 5 1 (by omega) (by decide),Bool.not_not]
   cases hzz:(bl (unpack n b) 5 1 != 0)
   ·refine(ah (hz.trans hzz)).2 ((ah rfl).2 ((ah rfl).2 ((ai rfl).2 (af.2 ⟨rfl,?_⟩))))
    have hsd:aj.k lq (((n:Int),b),3,54)=_:=LP hok hnn
    rw[hsd]
    cases over 0 (unpack n b) != 0
    ·rw[cond_false,cond_false]
     cases hso:dQ (dH (((unpack n b).drop 6).take 24))
     ·exact(ai rfl).2 (.ret _)
     ·rw[cond_true]
      refine(ah rfl).2 (af.2 ⟨rfl,?_⟩)
      have hfo:fO (3,((bl (unpack n b) 2 3:Nat):Int),dH (((unpack n b).drop 6).take 24),0, [])=!decide (4<bl (unpack n b) 2 3):=by
       have hso':=hso
       rw[dH] at hso' ⊢
       rw[Bool.eq_iff_iff,gJ,hso'];simp;omega
      have hch:aj.k oD (3,((bl (unpack n b) 2 3:Nat):Int),dH (((unpack n b).drop 6).take 24),0, [])=bif !decide (4<bl (unpack n b) 2 3) then 0 else 50:=by
       rw[←hfo,al];exact rF
      cases hd:decide (4<bl (unpack n b) 2 3)
      ·rw[hd] at hch
       exact(ah (b_ hch)).2 (.ret _)
      ·rw[hd] at hch
       exact(ai (dE (show aj.k oD (3,((bl (unpack n b) 2 3:Nat):Int),dH (((unpack n b).drop 6).take 24),0, [])≠0 from by rw[hch];exact(by decide:(50:Int)≠0)))).2 (.ret _)
    ·exact(ai rfl).2 (.ret _)
   ·exact(ai (hz.trans hzz)).2 (.ret _)
  ·rw[Bool.not_eq_true] at hfit
   rw[fZ (by rw[hlu,hk];exact hfit)]
   exact(ai (show aj.not (aj.k jk ((n:Int),3))=true by rw[aT,al,hp3,hfit];rfl)).2 (.ret _)
 ·-- kind 4
  rw[h0] at hk ⊢
  rw[show((3+1:Nat):Int)=4 from rfl]
  by_cases hfit:dX n 4=true
  ·have hnn:=f4.1 hfit
   refine(ah (show aj.not (aj.k jk ((n:Int),4))=false by rw[aT,al,hp4,hfit];rfl)).2 (af.2 ⟨rfl,?_⟩)
   rw[Nk hk (by rw[hlu];exact hfit),hlu]
   have hz:aj.not (aj.k ED (((n:Int),b),4))=(bl (unpack n b) 5 2 != 0):=by
    show(!(aj.c .eql (aj.k bP (((n:Int),b),5,2)) 0))=_
    rw[show aj.c .eql (aj.k bP (((n:Int),b),5,2)) 0=_ from hzr 5 2 (by omega) (by decide),Bool.not_not]
   cases hzz:(bl (unpack n b) 5 2 != 0)
   ·refine(ah (hz.trans hzz)).2 ((ah rfl).2 ((ah rfl).2 ((ah rfl).2 (af.2 ⟨rfl,?_⟩))))
    have hsd:aj.k lq (((n:Int),b),4,55)=_:=NH hok hnn.1 hnn.2.1 hnn.2.2
    rw[hsd]
    cases over 0 ((unpack n b).take 55) != 0
    ·cases over (over 0 (((unpack n b).drop 7).take 24)) (unpack n b) != 0
     ·rw[cond_false,cond_false,Bool.or_false,cond_false,cond_false]
      cases hso:dQ (dH (((unpack n b).drop 7).take 24))
      ·exact(ai rfl).2 (.ret _)
      ·rw[cond_true]
       refine(ah rfl).2 (af.2 ⟨rfl,?_⟩)
       have hfo:fO (4,((bl (unpack n b) 2 3:Nat):Int),dH (((unpack n b).drop 7).take 24),0,aZ ((n-79)/8) ((unpack n b).drop 55))=!decide (4<bl (unpack n b) 2 3):=by
        have hso':=hso
        rw[dH] at hso' ⊢
        rw[Bool.eq_iff_iff,gJ,hso',da];simp;omega
       have hch:aj.k oD (4,((bl (unpack n b) 2 3:Nat):Int),dH (((unpack n b).drop 7).take 24),0,aZ ((n-79)/8) ((unpack n b).drop 55))=bif !decide (4<bl (unpack n b) 2 3) then 0 else 50:=by
        rw[←hfo,al];exact rF
       cases hd:decide (4<bl (unpack n b) 2 3)
       ·rw[hd] at hch
        exact(ah (b_ hch)).2 (.ret _)
       ·rw[hd] at hch
        exact(ai (dE (show aj.k oD (4,((bl (unpack n b) 2 3:Nat):Int),dH (((unpack n b).drop 7).take 24),0,aZ ((n-79)/8) ((unpack n b).drop 55))≠0 from by rw[hch];exact(by decide:(50:Int)≠0)))).2 (.ret _)
     ·exact(ai rfl).2 (.ret _)
    ·exact(ai rfl).2 (.ret _)
   ·exact(ai (hz.trans hzz)).2 (.ret _)
  ·rw[Bool.not_eq_true] at hfit
   rw[fZ (by rw[hlu,hk];exact hfit)]
   exact(ai (show aj.not (aj.k jk ((n:Int),4))=true by rw[aT,al,hp4,hfit];rfl)).2 (.ret _)
def AB:((Int×List Int)×(Int×Int×Int×Int×Int))→((Int×Int×(Int×Int×Int×Int×Int)×Int×List Int)×Int):=kY
def agy:aB:=⟨[(.struct [yI,yB]),(.struct [yI,yI,yI,yI,yI])], [(.struct [yI,yI,(.struct [yI,yI,yI,yI,yI]),yI,yB]),yI],(@tt ((Int×List Int)×(Int×Int×Int×Int×Int))),AB⟩
theorem agj:Sd 214 agy:=aF ax bK true 145 [] (fun A ((bN,bB),cTime,cPos,cMode,cNext,cMember)=>t52 A bN bB cTime cPos cMode cNext cMember) (fc Tryz.func214 fz) (sc F8 (sc adq (sc aa2 (sc Ce (sc D1 (sc afx (sc XT (sc Yn (sc Nq (sc Sj (sc Zv sz))))))))))) fun((bN,bB),cTime,cPos,cMode,cNext,cMember) hp h=>U7 h
def t54(A:a_)(bN:Int)(bB:List Int)(cTime:Int)(cPos:Int)(cMode:Int)(cNext:Int)(cMember:Int):LT ((Int×Int×(Int×Int×Int×Int×Int)×Int×List Int)×Bool) Empty:=.need (A.k (@tt ((Int×List Int)×(Int×Int×Int×Int×Int))) ((bN,bB),cTime,cPos,cMode,cNext,cMember)) (.br (A.c .neq (A.k AB ((bN,bB),cTime,cPos,cMode,cNext,cMember)).2 0) (.ret ((0,0,(0,0,0,0,0),0,([]:List Int)),false)) (.br (A.c .eql (A.k AB ((bN,bB),cTime,cPos,cMode,cNext,cMember)).1.1 1) (.ret ((0,0,(0,0,0,0,0),0,([]:List Int)),false)) (.br (A.not (A.and (A.c .eql (A.k AB ((bN,bB),cTime,cPos,cMode,cNext,cMember)).1.2.2.1.1 cTime) (A.and (A.c .eql (A.k AB ((bN,bB),cTime,cPos,cMode,cNext,cMember)).1.2.2.1.2.1 cPos) (A.and (A.c .eql (A.k AB ((bN,bB),cTime,cPos,cMode,cNext,cMember)).1.2.2.1.2.2.1 cMode) (A.and (A.c .eql (A.k AB ((bN,bB),cTime,cPos,cMode,cNext,cMember)).1.2.2.1.2.2.2.1 cNext) (A.and (A.c .eql (A.k AB ((bN,bB),cTime,cPos,cMode,cNext,cMember)).1.2.2.1.2.2.2.2 cMember) true)))))) (.ret ((0,0,(0,0,0,0,0),0,([]:List Int)),false)) (.ret ((A.k AB ((bN,bB),cTime,cPos,cMode,cNext,cMember)).1,true)))))
def FX:((Int×List Int)×(Int×Int×Int×Int×Int))→((Int×Int×(Int×Int×Int×Int×Int)×Int×List Int)×Bool):=fun((bN,bB),cTime,cPos,cMode,cNext,cMember)=>(t54 aj bN bB cTime cPos cMode cNext cMember).val (Ty.bE [(.struct [yI,yI,(.struct [yI,yI,yI,yI,yI]),yI,yB]),.bool])
def ahd:aB:=⟨[(.struct [yI,yB]),(.struct [yI,yI,yI,yI,yI])], [(.struct [yI,yI,(.struct [yI,yI,yI,yI,yI]),yI,yB]),.bool],(@tt ((Int×List Int)×(Int×Int×Int×Int×Int))),FX⟩
theorem ai5:Sd 170 ahd:=aJ ax bK true 50 [] (fun A ((bN,bB),cTime,cPos,cMode,cNext,cMember)=>t54 A bN bB cTime cPos cMode cNext cMember) (fc Tryz.func170 fz) (sc agj sz) (fun(((bN,bB),cTime,cPos,cMode,cNext,cMember):(Int×List Int)×(Int×Int×Int×Int×Int)) hp h=>by
 show(t54 aj bN bB cTime cPos cMode cNext cMember).pre=true
 simp[t54,LT.pre,al,bH])
theorem QF{b:Int×List Int}{t p m n s:Int}:FX (b,(t,p,m,n,s))=nR (b,(t,p,m,n,s)):=by
 obtain⟨bn,bb⟩:=b
 simp only[FX,t54,LT.val,nR,al,aH,aC,aQ,aT,AB,Bool.and_true]
 generalize kY ((bn,bb),(t,p,m,n,s))=q
 obtain⟨⟨k,r,⟨t',p',m',n',s'⟩,fr,d⟩,e⟩:=q
 simp only[]
 have hx:((t',p',m',n',s') != (t,p,m,n,s))=!(t'==t&&(p'==p&&(m'==m&&(n'==n&&s'==s)))):=by
  rw[Bool.eq_iff_iff]
  simp only[bne_iff_ne,ne_eq,Bool.not_eq_true',Prod.mk.injEq]
  rw[←Bool.not_eq_true]
  simp only[Bool.and_eq_true,beq_iff_eq]
 rw[hx]
 cases e != 0<;>cases k==1<;>cases (t'==t&&(p'==p&&(m'==m&&(n'==n&&s'==s))))<;>rfl
end Go.Ev.M
