/-
  PROVED: what Join and Seal compute, in the program and in the document. Conditions: none.
-/
import Derived.Test.YteldjjjcdpnnbaaGreatFb
namespace Go.Ev.M
open Go.Proofs
set_option maxRecDepth 100000
set_option linter.unusedVariables false
set_option linter.unusedSimpArgs false
open Go.Ev.Pl
structure Og where
 (a0:List (Int×List Int)) (a2:Int)
structure OR where
 (b0:List (Int×List Int)) (b2:Int)
structure OS where
 (c0:List (Int×List Int)) (c2:Int)
inductive Oa where
 | c0 (p:Og) (a1:Int)
 | c1 (p:OR) (b1:Int)
 | c2 (p:OS) (c1:Int) (c3:List Bool)
noncomputable def aaB:Oa→gB
 | .c0 p a1=>⟨[⟨133,42,(en [(0,.sl (.struct [yI,yB]) p.a0),(2,.ptr 0 0),(4,.bK true),(5,vi a1)]),[.inLoop (cw Tryz.f133 [1,1,0,1,0,0]),.inBlock 0,.code (cw Tryz.f133 [1,1,1])],[],none⟩],[.flat false [vi p.a2,.bK true],.dead]⟩
 | .c1 p b1=>⟨[⟨133,42,(en [(0,.sl (.struct [yI,yB]) p.b0),(2,.ptr 0 0),(4,.bK true),(6,vi b1)]),[.inLoop (cw Tryz.f133 [1,1,1,0,1,0,0]),.inBlock 2,.code (cw Tryz.f133 [1,1,1,1])],[],none⟩],[.flat false [vi p.b2,.bK true],.dead]⟩
 | .c2 p c1 c3=>⟨[⟨133,42,(en [(0,.sl (.struct [yI,yB]) p.c0),(2,.ptr 0 0),(4,.own 1),(6,vi c1)]),[.inLoop (cw Tryz.f133 [1,1,1,0,1,0,0]),.inBlock 2,.code (cw Tryz.f133 [1,1,1,1])],[],none⟩],[.flat false [vi p.c2,.bK true],.arr false .bool c3,.dead]⟩
def t86(A:bi)(l:List (Int×List Int)):LT ((Int×List Int)×Int) Oa:=.more (.c0 ⟨l,0⟩ 0)
def KF(A:bi):Oa→LT ((Int×List Int)×Int) Oa
 | .c0 p a1=>.br (A.c .lss a1 (A.l p.a0)) (.need (A.and (A.c .leq 0 a1) (A.c .lss a1 (A.l p.a0))) (.need (A.k (@tt ((Int×List Int))) (A.n (.struct [yI,yB]) p.a0 a1:Int×List Int)) (.br (A.c .neq (A.k kJ (A.n (.struct [yI,yB]) p.a0 a1:Int×List Int)) 0) (.ret ((0,([]:List Int)),10)) (.more (.c0 p (A.b .add .i64 a1 1)))))) (.more (.c1 ⟨p.a0,p.a2⟩ 0))
 | .c1 p b1=>.br (A.c .lss b1 (A.l p.b0)) (.need (A.and (A.c .leq 0 b1) (A.c .lss b1 (A.l p.b0))) (.need (A.k (@tt ((Int×List Int))) (A.n (.struct [yI,yB]) p.b0 b1:Int×List Int)) (.br (A.c .eql (A.l (A.k kW (A.n (.struct [yI,yB]) p.b0 b1:Int×List Int))) 0) (.more (.c1 p (A.b .add .i64 b1 1))) (.need (A.c .leq (A.l (A.k kW (A.n (.struct [yI,yB]) p.b0 b1:Int×List Int))) 140737488355328) (.more (.c2 ⟨p.b0,p.b2⟩ (A.b .add .i64 b1 1) (A.k kW (A.n (.struct [yI,yB]) p.b0 b1:Int×List Int)))))))) (.need (A.k (@tt (List Bool)) ([]:List Bool)) (.ret (A.k tC ([]:List Bool))))
 | .c2 p c1 c3=>.br (A.c .lss c1 (A.l p.c0)) (.br (A.c .leq (A.l c3) 4096) (.need (A.and (A.c .leq 0 c1) (A.c .lss c1 (A.l p.c0))) (.need (A.k (@tt ((Int×List Int))) (A.n (.struct [yI,yB]) p.c0 c1:Int×List Int)) (.need (A.c .leq (A.l (A.p c3 (A.k kW (A.n (.struct [yI,yB]) p.c0 c1:Int×List Int)))) 140737488355328) (.more (.c2 p (A.b .add .i64 c1 1) (A.p c3 (A.k kW (A.n (.struct [yI,yB]) p.c0 c1:Int×List Int)))))))) (.need (A.k (@tt (List Bool)) c3) (.ret (A.k tC c3)))) (.need (A.k (@tt (List Bool)) c3) (.ret (A.k tC c3)))
theorem MZ{l:List (Int×List Int)}(hl:l.length≤140737488355328)(hok:∀x∈l,bO x=true):∀(j i:Nat) (p:OS) (c:List Bool),p.c0=l→l.length-i=j→i≤l.length→c.length≤8192→aA (KF aj) (.more (.c2 p (i:Int) c)) (xJ (c++(l.drop i).flatMap bR)):=by
 intro j
 induction j with
 | zero=>
   intro i p c h1 hj hi hc
   have:i=l.length:=by omega
   subst this
   simp only[al,KF]
   refine(ah (by rw[show aj.l p.c0=(l.length:Int) from by rw[h1];rfl,aO];simp)).2 (af.2 ⟨rfl,?_⟩)
   rw[List.drop_length,List.flatMap_nil,List.append_nil]
   exact .ret _
 | succ j ih=>
   intro i p c h1 hj hi hc
   simp only[al,KF]
   refine(ai (by rw[show aj.l p.c0=(l.length:Int) from by rw[h1];rfl,aO];simp;omega)).2 ?_
   by_cases h2:c.length≤4096
   ·have hi':i<l.length:=by omega
    have hx:=Kz (hok _ (List.getElem_mem hi'))
    have hn:(aj.k kW (aj.n (.struct [(.int .i64),(.slice (.int .u8))]) p.c0 (i:Int):Int×List Int))=bR l[i]:=by
     rw[h1,nI hi',ap,kW,hok _ (List.getElem_mem hi')];rfl
    refine(ai (show aj.c .leq ((c.length:Nat):Int) 4096=true from by rw[aB];simp;omega)).2 (af.2 ⟨by rw[h1];exact bT hi',af.2 ⟨rfl,af.2 ⟨?_,?_⟩⟩⟩)
    ·rw[hn]
     show decide (((c++bR l[i]).length:Int)≤140737488355328)=true
     rw[List.length_append];simp;omega
    ·have:=ih (i+1) p (c++bR l[i]) h1 (by omega) (by omega) (by rw[List.length_append];omega)
     rw[List.append_assoc,show bR l[i]++(l.drop (i+1)).flatMap bR=(l.drop i).flatMap bR from by rw[List.drop_eq_getElem_cons hi',List.flatMap_cons]] at this
     rw[hn]
     exact bl (congrArg LT.more (congr (congrArg (Oa.c2 p) (eu (by omega))) rfl)) this
   ·refine(ah (show aj.c .leq ((c.length:Nat):Int) 4096=false from by rw[aB];simp;omega)).2 (af.2 ⟨rfl,?_⟩)
    rw[CM (l:=c++_) (by rw[List.length_append];omega)]
    have:aj.k tC c=(zB,3):=by rw[ap,tC,CM (by omega)]
    rw[this]
    exact .ret _
theorem MI{l:List (Int×List Int)}(hl:l.length≤140737488355328)(hok:∀x∈l,bO x=true):∀(j i:Nat) (p:OR),p.b0=l→l.length-i=j→i≤l.length→aA (KF aj) (.more (.c1 p (i:Int))) (xJ ((l.drop i).flatMap bR)):=by
 intro j
 induction j with
 | zero=>
   intro i p h1 hj hi
   have:i=l.length:=by omega
   subst this
   simp only[al,KF]
   refine(ah (by rw[show aj.l p.b0=(l.length:Int) from by rw[h1];rfl,aO];simp)).2 (af.2 ⟨rfl,?_⟩)
   rw[List.drop_length,List.flatMap_nil]
   exact .ret _
 | succ j ih=>
   intro i p h1 hj hi
   simp only[al,KF]
   have hi':i<l.length:=by omega
   have hx:=Kz (hok _ (List.getElem_mem hi'))
   have hn:(aj.k kW (aj.n (.struct [(.int .i64),(.slice (.int .u8))]) p.b0 (i:Int):Int×List Int))=bR l[i]:=by
    rw[h1,nI hi',ap,kW,hok _ (List.getElem_mem hi')];rfl
   have hf:(l.drop i).flatMap bR=bR l[i]++(l.drop (i+1)).flatMap bR:=by rw[List.drop_eq_getElem_cons hi',List.flatMap_cons]
   refine(ai (by rw[show aj.l p.b0=(l.length:Int) from by rw[h1];rfl,aO];simp;omega)).2 (af.2 ⟨by rw[h1];exact bT hi',af.2 ⟨rfl,?_⟩⟩)
   rw[hn,hf]
   by_cases h0:(bR l[i]).length=0
   ·refine(ai (qo (show((bR l[i]).length:Int)=0 from by omega))).2 ?_
    rw[List.length_eq_zero_iff.1 h0,List.nil_append]
    exact bl (congrArg LT.more (congrArg (Oa.c1 p) (eu (by omega)))) (ih (i+1) p h1 (by omega) (by omega))
   ·refine(ah (FD (show((bR l[i]).length:Int)≠0 from by omega))).2 (af.2 ⟨?_,?_⟩)
    ·show decide (((bR l[i]).length:Int)≤140737488355328)=true
     simp;omega
    ·exact bl (congrArg LT.more (congr (congrArg (Oa.c2 _) (eu (by omega))) rfl)) (MZ hl hok (l.length-(i+1)) (i+1) ⟨p.b0,p.b2⟩ _ h1 rfl (by omega) (by omega))
theorem Mc{l:List (Int×List Int)}(hl:l.length≤140737488355328):∀(j i:Nat) (p:Og),p.a0=l→l.length-i=j→i≤l.length→(∀x∈l.take i,bO x=true)→aA (KF aj) (.more (.c0 p (i:Int))) (zJ l):=by
 intro j
 induction j with
 | zero=>
   intro i p h1 hj hi hok
   have:i=l.length:=by omega
   subst this
   rw[List.take_length] at hok
   simp only[al,KF]
   refine(ah (by rw[show aj.l p.a0=(l.length:Int) from by rw[h1];rfl,aO];simp)).2 ?_
   rw[zJ,List.all_eq_true.2 hok]
   exact MI hl hok l.length 0 _ h1 rfl (by omega)
 | succ j ih=>
   intro i p h1 hj hi hok
   simp only[al,KF]
   have hi':i<l.length:=by omega
   refine(ai (by rw[show aj.l p.a0=(l.length:Int) from by rw[h1];rfl,aO];simp;omega)).2 (af.2 ⟨by rw[h1];exact bT hi',af.2 ⟨rfl,?_⟩⟩)
   have hn:(aj.k kJ (aj.n (.struct [(.int .i64),(.slice (.int .u8))]) p.a0 (i:Int):Int×List Int))=bif bO l[i] then 0 else 10:=by
    rw[h1,nI hi',ap,kJ]
   rw[hn]
   cases hx:bO l[i]
   ·refine(ai rfl).2 ?_
    rw[zJ,show l.all bO=false from List.all_eq_false.2 ⟨l[i],List.getElem_mem hi',by rw[hx];decide⟩]
    exact .ret _
   ·refine(ah rfl).2 ?_
    refine bl (congrArg LT.more (congrArg (Oa.c0 p) (eu (by omega)))) (ih (i+1) p h1 (by omega) (by omega) ?_)
    intro x hx2
    rw[List.take_succ_eq_append_getElem hi'] at hx2
    rcases List.mem_append.1 hx2 with h3|h3
    ·exact hok x h3
    ·rw[List.mem_singleton.1 h3];exact hx
def Ad:(List (Int×List Int))→((Int×List Int)×Int):=zJ
def abP:aD:=⟨[(.slice (.struct [yI,yB]))], [(.struct [yI,yB]),yI],(@tt (List (Int×List Int))),Ad⟩
theorem abD:Sd 133 abP:=aL au cK true 22 [⟨133,3, [[0,2,4,5]]⟩,⟨133,8, [[0,2,4,6]]⟩] [] (fun A l=>t86 A l) KF aaB (fc Tryz.func133 fz) (sc Ms (sc O7 (sc O2 sz))) (fun A y=>match y with |.c0 p a1=>⟨35,by kernel_rfl,by kernel_rfl⟩|.c1 p b1=>⟨39,by kernel_rfl,by kernel_rfl⟩|.c2 p c1 c3=>⟨39,by kernel_rfl,by kernel_rfl⟩) fun(l:List (Int×List Int)) hp h=>by
 show aA (KF aj) (t86 aj l) (Ad l)
 exact Mc (qw h).1 l.length 0 _ rfl rfl (by omega) (by intro x hx;cases hx)
def t84(A:bi)(bN:Int)(bB:List Int)(unsentN:Int)(unsentB:List Int):LT ((Int×List Int)×Int) Empty:=.need (A.k (@tt (List (Int×List Int))) [(unsentN,unsentB),(bN,bB)]) (.br (A.c .neq (A.k mI [(unsentN,unsentB),(bN,bB)]).2 0) (.ret ((0,([]:List Int)),(A.k mI [(unsentN,unsentB),(bN,bB)]).2)) (.need (A.k (@tt ((Int×List Int)×Int×Int)) ((bN,bB),(A.v .u64 (A.k mI [(unsentN,unsentB),(bN,bB)]).1),24)) (.ret (A.k fE ((bN,bB),(A.v .u64 (A.k mI [(unsentN,unsentB),(bN,bB)]).1),24)))))
theorem Tw{n m:Int}{b u:List Int}(h:Ty.dK [(.struct [(.int .i64),(.slice (.int .u8))]),(.struct [(.int .i64),(.slice (.int .u8))])] ((n,b),(m,u))):aA Empty.elim (t84 aj n b m u) (C6 ((n,b),(m,u))):=by
 unfold t84
 have hs:aj.k mI [(m,u),(n,b)]=bif bO (m,u)&&bO (n,b) then(((over (over 0 (bR (m,u))) (bR (n,b)):Nat):Int),0) else(0,10):=by
  rw[ap,mI,uf]
  show(bif (bO (m,u)&&(bO (n,b)&&true)) then(((over 0 (bR (m,u)++(bR (n,b) ++ [])):Nat):Int),(0:Int)) else(0,10))=_
  rw[Bool.and_true,List.append_nil,gq]
 refine af.2 ⟨rfl,?_⟩
 have hlt:=gk (gk (r:=0) (by decide) (bR (m,u))) (bR (n,b))
 rw[C6]
 cases hok:bO (m,u)&&bO (n,b)
 ·rw[hok,cond_false] at hs
  refine(ai (show((aj.k mI [(m,u),(n,b)]).2 != 0)=true by rw[hs];rfl)).2 ?_
  exact bl (congrArg LT.ret (show((0,([]:List Int)),(aj.k mI [(m,u),(n,b)]).2)=(zB,10) by rw[hs];rfl)) (.ret _)
 ·rw[hok,cond_true] at hs
  refine(ah (show((aj.k mI [(m,u),(n,b)]).2 != 0)=false by rw[hs];rfl)).2 (af.2 ⟨rfl,?_⟩)
  refine bl (congrArg LT.ret (show aj.k fE ((n,b),aj.v .u64 (aj.k mI [(m,u),(n,b)]).1,24)=xJ (aV (over 0 (bR (m,u))) (bR (n,b))) from ?_)) (.ret _)
  rw[Bool.and_eq_true] at hok
  rw[hs,dY (by omega),ap,fE,Av,hok.2,uK (by omega),Int.toNat_natCast,Nat.div_eq_of_lt (by simp only[show(24:Int).toNat=24 from rfl];omega)]
  rfl
def sO:((Int×List Int)×(Int×List Int))→((Int×List Int)×Int):=C6
def aco:aD:=⟨[(.struct [yI,yB]),(.struct [yI,yB])], [(.struct [yI,yB]),yI],(@tt ((Int×List Int)×(Int×List Int))),sO⟩
theorem abH:Sd 131 aco:=aK au cK true 44 [] (fun A ((bN,bB),unsentN,unsentB)=>t84 A bN bB unsentN unsentB) (fc Tryz.func131 fz) (sc KP (sc UK sz)) fun((bN,bB),unsentN,unsentB) hp h=>Tw h
end Go.Ev.M
