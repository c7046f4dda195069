/-
  PROVED: what Join and Seal compute, in the program and in the document. Conditions: none.
-/
import Derived.Test.YteldjjjcdpnnbaaGreatFb
namespace Go.Ev.M
open Go.Proofs
set_option maxRecDepth 100000
set_option linter.unusedVariables false
set_option linter.unusedSimpArgs false
open Go.Ev.Pl
structure IQ where
 (a0:List (Int×List Int)) (a2:Int)
structure IF where
 (b0:List (Int×List Int)) (b2:Int)
structure IK where
 (c0:List (Int×List Int)) (c2:Int)
inductive Iw where
 | c0 (p:IQ) (a1:Int)
 | c1 (p:IF) (b1:Int)
 | c2 (p:IK) (c1:Int) (c3:List Bool)
noncomputable def N4:Iw→fE
 | .c0 p a1=>⟨[⟨133,42,(en [(0,.sl (.struct [yI,yB]) p.a0),(2,.ptr 0 0),(4,.dz true),(5,vi a1)]),[.inLoop (cw Tryz.f133 [1,1,0,1,0,0]),.inBlock 0,.code (cw Tryz.f133 [1,1,1])],[],none⟩],[.flat false [vi p.a2,.dz true],.dead]⟩
 | .c1 p b1=>⟨[⟨133,42,(en [(0,.sl (.struct [yI,yB]) p.b0),(2,.ptr 0 0),(4,.dz true),(6,vi b1)]),[.inLoop (cw Tryz.f133 [1,1,1,0,1,0,0]),.inBlock 2,.code (cw Tryz.f133 [1,1,1,1])],[],none⟩],[.flat false [vi p.b2,.dz true],.dead]⟩
 | .c2 p c1 c3=>⟨[⟨133,42,(en [(0,.sl (.struct [yI,yB]) p.c0),(2,.ptr 0 0),(4,.own 1),(6,vi c1)]),[.inLoop (cw Tryz.f133 [1,1,1,0,1,0,0]),.inBlock 2,.code (cw Tryz.f133 [1,1,1,1])],[],none⟩],[.flat false [vi p.c2,.dz true],.arr false .bool c3,.dead]⟩
def t86(A:bg)(l:List (Int×List Int)):LT ((Int×List Int)×Int) Iw:=.more (.c0 ⟨l,0⟩ 0)
def Dz(A:bg):Iw→LT ((Int×List Int)×Int) Iw
 | .c0 p a1=>.br (A.c .lss a1 (A.l p.a0)) (.need (A.and (A.c .leq 0 a1) (A.c .lss a1 (A.l p.a0))) (.need (A.k (@tt ((Int×List Int))) (A.n (.struct [yI,yB]) p.a0 a1:Int×List Int)) (.br (A.c .neq (A.k i_ (A.n (.struct [yI,yB]) p.a0 a1:Int×List Int)) 0) (.ret ((0,([]:List Int)),10)) (.more (.c0 p (A.b .add .i64 a1 1)))))) (.more (.c1 ⟨p.a0,p.a2⟩ 0))
 | .c1 p b1=>.br (A.c .lss b1 (A.l p.b0)) (.need (A.and (A.c .leq 0 b1) (A.c .lss b1 (A.l p.b0))) (.need (A.k (@tt ((Int×List Int))) (A.n (.struct [yI,yB]) p.b0 b1:Int×List Int)) (.br (A.c .eql (A.l (A.k ji (A.n (.struct [yI,yB]) p.b0 b1:Int×List Int))) 0) (.more (.c1 p (A.b .add .i64 b1 1))) (.need (A.c .leq (A.l (A.k ji (A.n (.struct [yI,yB]) p.b0 b1:Int×List Int))) 140737488355328) (.more (.c2 ⟨p.b0,p.b2⟩ (A.b .add .i64 b1 1) (A.k ji (A.n (.struct [yI,yB]) p.b0 b1:Int×List Int)))))))) (.need (A.k (@tt (List Bool)) ([]:List Bool)) (.ret (A.k qk ([]:List Bool))))
 | .c2 p c1 c3=>.br (A.c .lss c1 (A.l p.c0)) (.br (A.c .leq (A.l c3) 4096) (.need (A.and (A.c .leq 0 c1) (A.c .lss c1 (A.l p.c0))) (.need (A.k (@tt ((Int×List Int))) (A.n (.struct [yI,yB]) p.c0 c1:Int×List Int)) (.need (A.c .leq (A.l (A.p c3 (A.k ji (A.n (.struct [yI,yB]) p.c0 c1:Int×List Int)))) 140737488355328) (.more (.c2 p (A.b .add .i64 c1 1) (A.p c3 (A.k ji (A.n (.struct [yI,yB]) p.c0 c1:Int×List Int)))))))) (.need (A.k (@tt (List Bool)) c3) (.ret (A.k qk c3)))) (.need (A.k (@tt (List Bool)) c3) (.ret (A.k qk c3)))
theorem FP{l:List (Int×List Int)}(hl:l.length≤140737488355328)(hok:∀x∈l,bq x=true):∀(j i:Nat) (p:IK) (c:List Bool),p.c0=l→l.length-i=j→i≤l.length→c.length≤8192→aC (Dz ai) (.more (.c2 p (i:Int) c)) (tY (c++(l.drop i).flatMap bC)):=by
 intro j
 induction j with
 | zero=>
   intro i p c h1 hj hi hc
   have:i=l.length:=by omega
   subst this
   simp only[ak,Dz]
   refine(ah (by rw[show ai.l p.c0=(l.length:Int) from by rw[h1];rfl,aI];simp)).2 (af.2 ⟨rfl,?_⟩)
   rw[List.drop_length,List.flatMap_nil,List.append_nil]
   exact .ret _
 | succ j ih=>
   intro i p c h1 hj hi hc
   simp only[ak,Dz]
   refine(aj (by rw[show ai.l p.c0=(l.length:Int) from by rw[h1];rfl,aI];simp;omega)).2 ?_
   by_cases h2:c.length≤4096
   ·have hi':i<l.length:=by omega
    have hx:=FE (hok _ (List.getElem_mem hi'))
    have hn:(ai.k ji (ai.n (.struct [(.int .i64),(.slice (.int .u8))]) p.c0 (i:Int):Int×List Int))=bC l[i]:=by
     rw[h1,kG hi',ap,ji,hok _ (List.getElem_mem hi')];rfl
    refine(aj (show ai.c .leq ((c.length:Nat):Int) 4096=true from by rw[aF];simp;omega)).2 (af.2 ⟨by rw[h1];exact aL hi',af.2 ⟨rfl,af.2 ⟨?_,?_⟩⟩⟩)
    ·rw[hn]
     show decide (((c++bC l[i]).length:Int)≤140737488355328)=true
     rw[List.length_append];simp;omega
    ·have:=ih (i+1) p (c++bC l[i]) h1 (by omega) (by omega) (by rw[List.length_append];omega)
     rw[List.append_assoc,show bC l[i]++(l.drop (i+1)).flatMap bC=(l.drop i).flatMap bC from by rw[List.drop_eq_getElem_cons hi',List.flatMap_cons]] at this
     rw[hn]
     exact aZ (congrArg LT.more (congr (congrArg (Iw.c2 p) (cK (by omega))) rfl)) this
   ·refine(ah (show ai.c .leq ((c.length:Nat):Int) 4096=false from by rw[aF];simp;omega)).2 (af.2 ⟨rfl,?_⟩)
    rw[yd (l:=c++_) (by rw[List.length_append];omega)]
    have:ai.k qk c=(zB,3):=by rw[ap,qk,yd (by omega)]
    rw[this]
    exact .ret _
theorem F_{l:List (Int×List Int)}(hl:l.length≤140737488355328)(hok:∀x∈l,bq x=true):∀(j i:Nat) (p:IF),p.b0=l→l.length-i=j→i≤l.length→aC (Dz ai) (.more (.c1 p (i:Int))) (tY ((l.drop i).flatMap bC)):=by
 intro j
 induction j with
 | zero=>
   intro i p h1 hj hi
   have:i=l.length:=by omega
   subst this
   simp only[ak,Dz]
   refine(ah (by rw[show ai.l p.b0=(l.length:Int) from by rw[h1];rfl,aI];simp)).2 (af.2 ⟨rfl,?_⟩)
   rw[List.drop_length,List.flatMap_nil]
   exact .ret _
 | succ j ih=>
   intro i p h1 hj hi
   simp only[ak,Dz]
   have hi':i<l.length:=by omega
   have hx:=FE (hok _ (List.getElem_mem hi'))
   have hn:(ai.k ji (ai.n (.struct [(.int .i64),(.slice (.int .u8))]) p.b0 (i:Int):Int×List Int))=bC l[i]:=by
    rw[h1,kG hi',ap,ji,hok _ (List.getElem_mem hi')];rfl
   have hf:(l.drop i).flatMap bC=bC l[i]++(l.drop (i+1)).flatMap bC:=by rw[List.drop_eq_getElem_cons hi',List.flatMap_cons]
   refine(aj (by rw[show ai.l p.b0=(l.length:Int) from by rw[h1];rfl,aI];simp;omega)).2 (af.2 ⟨by rw[h1];exact aL hi',af.2 ⟨rfl,?_⟩⟩)
   rw[hn,hf]
   by_cases h0:(bC l[i]).length=0
   ·refine(aj (qo (show((bC l[i]).length:Int)=0 from by omega))).2 ?_
    rw[List.length_eq_zero_iff.1 h0,List.nil_append]
    exact aZ (congrArg LT.more (congrArg (Iw.c1 p) (cK (by omega)))) (ih (i+1) p h1 (by omega) (by omega))
   ·refine(ah (DO (show((bC l[i]).length:Int)≠0 from by omega))).2 (af.2 ⟨?_,?_⟩)
    ·show decide (((bC l[i]).length:Int)≤140737488355328)=true
     simp;omega
    ·exact aZ (congrArg LT.more (congr (congrArg (Iw.c2 _) (cK (by omega))) rfl)) (FP hl hok (l.length-(i+1)) (i+1) ⟨p.b0,p.b2⟩ _ h1 rfl (by omega) (by omega))
theorem Gi{l:List (Int×List Int)}(hl:l.length≤140737488355328):∀(j i:Nat) (p:IQ),p.a0=l→l.length-i=j→i≤l.length→(∀x∈l.take i,bq x=true)→aC (Dz ai) (.more (.c0 p (i:Int))) (vD l):=by
 intro j
 induction j with
 | zero=>
   intro i p h1 hj hi hok
   have:i=l.length:=by omega
   subst this
   rw[List.take_length] at hok
   simp only[ak,Dz]
   refine(ah (by rw[show ai.l p.a0=(l.length:Int) from by rw[h1];rfl,aI];simp)).2 ?_
   rw[vD,List.all_eq_true.2 hok]
   exact F_ hl hok l.length 0 _ h1 rfl (by omega)
 | succ j ih=>
   intro i p h1 hj hi hok
   simp only[ak,Dz]
   have hi':i<l.length:=by omega
   refine(aj (by rw[show ai.l p.a0=(l.length:Int) from by rw[h1];rfl,aI];simp;omega)).2 (af.2 ⟨by rw[h1];exact aL hi',af.2 ⟨rfl,?_⟩⟩)
   have hn:(ai.k i_ (ai.n (.struct [(.int .i64),(.slice (.int .u8))]) p.a0 (i:Int):Int×List Int))=bif bq l[i] then 0 else 10:=by
    rw[h1,kG hi',ap,i_]
   rw[hn]
   cases hx:bq l[i]
   ·refine(aj rfl).2 ?_
    rw[vD,show l.all bq=false from List.all_eq_false.2 ⟨l[i],List.getElem_mem hi',by rw[hx];decide⟩]
    exact .ret _
   ·refine(ah rfl).2 ?_
    refine aZ (congrArg LT.more (congrArg (Iw.c0 p) (cK (by omega)))) (ih (i+1) p h1 (by omega) (by omega) ?_)
    intro x hx2
    rw[List.take_succ_eq_append_getElem hi'] at hx2
    rcases List.mem_append.1 hx2 with h3|h3
    ·exact hok x h3
    ·rw[List.mem_singleton.1 h3];exact hx
def vY:(List (Int×List Int))→((Int×List Int)×Int):=vD
def TY:aB:=⟨[(.slice (.struct [yI,yB]))], [(.struct [yI,yB]),yI],(@tt (List (Int×List Int))),vY⟩
theorem Uk:Sd 133 TY:=aH ar cO true 22 [⟨133,3, [[0,2,4,5]]⟩,⟨133,8, [[0,2,4,6]]⟩] [] (fun A l=>t86 A l) Dz N4 (fc Tryz.func133 fz) (sc GV (sc H_ (sc Ix sz))) (fun A y=>match y with |.c0 p a1=>⟨35,by kernel_rfl,by kernel_rfl⟩|.c1 p b1=>⟨39,by kernel_rfl,by kernel_rfl⟩|.c2 p c1 c3=>⟨39,by kernel_rfl,by kernel_rfl⟩) fun(l:List (Int×List Int)) hp h=>by
 show aC (Dz ai) (t86 ai l) (vY l)
 exact Gi (oc h).1 l.length 0 _ rfl rfl (by omega) (by intro x hx;cases hx)
def t84(A:bg)(bN:Int)(bB:List Int)(unsentN:Int)(unsentB:List Int):LT ((Int×List Int)×Int) Empty:=.need (A.k (@tt (List (Int×List Int))) [(unsentN,unsentB),(bN,bB)]) (.br (A.c .neq (A.k kv [(unsentN,unsentB),(bN,bB)]).2 0) (.ret ((0,([]:List Int)),(A.k kv [(unsentN,unsentB),(bN,bB)]).2)) (.need (A.k (@tt ((Int×List Int)×Int×Int)) ((bN,bB),(A.v .u64 (A.k kv [(unsentN,unsentB),(bN,bB)]).1),24)) (.ret (A.k dV ((bN,bB),(A.v .u64 (A.k kv [(unsentN,unsentB),(bN,bB)]).1),24)))))
theorem LP{n m:Int}{b u:List Int}(h:Ty.dH [(.struct [(.int .i64),(.slice (.int .u8))]),(.struct [(.int .i64),(.slice (.int .u8))])] ((n,b),(m,u))):aC Empty.elim (t84 ai n b m u) (yp ((n,b),(m,u))):=by
 unfold t84
 have hs:ai.k kv [(m,u),(n,b)]=bif bq (m,u)&&bq (n,b) then(((over (over 0 (bC (m,u))) (bC (n,b)):Nat):Int),0) else(0,10):=by
  rw[ap,kv,qB]
  show(bif (bq (m,u)&&(bq (n,b)&&true)) then(((over 0 (bC (m,u)++(bC (n,b) ++ [])):Nat):Int),(0:Int)) else(0,10))=_
  rw[Bool.and_true,List.append_nil,fj]
 refine af.2 ⟨rfl,?_⟩
 have hlt:=gn (gn (r:=0) (by decide) (bC (m,u))) (bC (n,b))
 rw[yp]
 cases hok:bq (m,u)&&bq (n,b)
 ·rw[hok,cond_false] at hs
  refine(aj (show((ai.k kv [(m,u),(n,b)]).2 != 0)=true by rw[hs];rfl)).2 ?_
  exact aZ (congrArg LT.ret (show((0,([]:List Int)),(ai.k kv [(m,u),(n,b)]).2)=(zB,10) by rw[hs];rfl)) (.ret _)
 ·rw[hok,cond_true] at hs
  refine(ah (show((ai.k kv [(m,u),(n,b)]).2 != 0)=false by rw[hs];rfl)).2 (af.2 ⟨rfl,?_⟩)
  refine aZ (congrArg LT.ret (show ai.k dV ((n,b),ai.v .u64 (ai.k kv [(m,u),(n,b)]).1,24)=tY (cN (over 0 (bC (m,u))) (bC (n,b))) from ?_)) (.ret _)
  rw[Bool.and_eq_true] at hok
  rw[hs,dd (by omega),ap,dV,wi,hok.2,rv (by omega),Int.toNat_natCast,Nat.div_eq_of_lt (by simp only[show(24:Int).toNat=24 from rfl];omega)]
  rfl
def o3:((Int×List Int)×(Int×List Int))→((Int×List Int)×Int):=yp
def TA:aB:=⟨[(.struct [yI,yB]),(.struct [yI,yB])], [(.struct [yI,yB]),yI],(@tt ((Int×List Int)×(Int×List Int))),o3⟩
theorem TB:Sd 131 TA:=aG ar cO true 44 [] (fun A ((bN,bB),unsentN,unsentB)=>t84 A bN bB unsentN unsentB) (fc Tryz.func131 fz) (sc Ep (sc Rk sz)) fun((bN,bB),unsentN,unsentB) hp h=>LP h
end Go.Ev.M
