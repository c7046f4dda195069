/-
  PROVED: what Join and Seal compute, in the program and in the document. Conditions: none.
-/
import Derived.Test.YteldjjjcdpnnbaaFb
namespace Go.Ev.M
open Go.Proofs
set_option maxRecDepth 100000
set_option linter.unusedVariables false
set_option linter.unusedSimpArgs false
open Go.Ev.Pl
structure FI where
 (a0:List (Int×List Int)) (a2:Int)
structure FO where
 (b0:List (Int×List Int)) (b2:Int)
structure FC where
 (c0:List (Int×List Int)) (c2:Int)
inductive Fa where
 | c0 (p:FI) (a1:Int)
 | c1 (p:FO) (b1:Int)
 | c2 (p:FC) (c1:Int) (c3:List Bool)
noncomputable def Ij:Fa→iH
 | .c0 p a1=>⟨[⟨16,42,(en [(0,.sl (.struct [yI,yB]) p.a0),(2,.ptr 0 0),(4,.du true),(5,vi a1)]),[.inLoop (cw Try.f16 [1,1,0,1,0,0]),.inBlock 0,.code (cw Try.f16 [1,1,1])],[],none⟩],[.flat false [vi p.a2,.du true],.dead]⟩
 | .c1 p b1=>⟨[⟨16,42,(en [(0,.sl (.struct [yI,yB]) p.b0),(2,.ptr 0 0),(4,.du true),(6,vi b1)]),[.inLoop (cw Try.f16 [1,1,1,0,1,0,0]),.inBlock 2,.code (cw Try.f16 [1,1,1,1])],[],none⟩],[.flat false [vi p.b2,.du true],.dead]⟩
 | .c2 p c1 c3=>⟨[⟨16,42,(en [(0,.sl (.struct [yI,yB]) p.c0),(2,.ptr 0 0),(4,.own 1),(6,vi c1)]),[.inLoop (cw Try.f16 [1,1,1,0,1,0,0]),.inBlock 2,.code (cw Try.f16 [1,1,1,1])],[],none⟩],[.flat false [vi p.c2,.du true],.arr false .bool c3,.dead]⟩
def t86(A:cH)(l:List (Int×List Int)):LT ((Int×List Int)×Int) Fa:=.more (.c0 ⟨l,0⟩ 0)
def Cv(A:cH):Fa→LT ((Int×List Int)×Int) Fa
 | .c0 p a1=>.br (A.c .lss a1 (A.l p.a0)) (.need (A.and (A.c .leq 0 a1) (A.c .lss a1 (A.l p.a0))) (.need (A.k (@tt ((Int×List Int))) (A.n (.struct [yI,yB]) p.a0 a1:Int×List Int)) (.br (A.c .neq (A.k iL (A.n (.struct [yI,yB]) p.a0 a1:Int×List Int)) 0) (.ret ((0,([]:List Int)),10)) (.more (.c0 p (A.b .add .i64 a1 1)))))) (.more (.c1 ⟨p.a0,p.a2⟩ 0))
 | .c1 p b1=>.br (A.c .lss b1 (A.l p.b0)) (.need (A.and (A.c .leq 0 b1) (A.c .lss b1 (A.l p.b0))) (.need (A.k (@tt ((Int×List Int))) (A.n (.struct [yI,yB]) p.b0 b1:Int×List Int)) (.br (A.c .eql (A.l (A.k iM (A.n (.struct [yI,yB]) p.b0 b1:Int×List Int))) 0) (.more (.c1 p (A.b .add .i64 b1 1))) (.need (A.c .leq (A.l (A.k iM (A.n (.struct [yI,yB]) p.b0 b1:Int×List Int))) 140737488355328) (.more (.c2 ⟨p.b0,p.b2⟩ (A.b .add .i64 b1 1) (A.k iM (A.n (.struct [yI,yB]) p.b0 b1:Int×List Int)))))))) (.need (A.k (@tt (List Bool)) ([]:List Bool)) (.ret (A.k oS ([]:List Bool))))
 | .c2 p c1 c3=>.br (A.c .lss c1 (A.l p.c0)) (.br (A.c .leq (A.l c3) 4096) (.need (A.and (A.c .leq 0 c1) (A.c .lss c1 (A.l p.c0))) (.need (A.k (@tt ((Int×List Int))) (A.n (.struct [yI,yB]) p.c0 c1:Int×List Int)) (.need (A.c .leq (A.l (A.p c3 (A.k iM (A.n (.struct [yI,yB]) p.c0 c1:Int×List Int)))) 140737488355328) (.more (.c2 p (A.b .add .i64 c1 1) (A.p c3 (A.k iM (A.n (.struct [yI,yB]) p.c0 c1:Int×List Int)))))))) (.need (A.k (@tt (List Bool)) c3) (.ret (A.k oS c3)))) (.need (A.k (@tt (List Bool)) c3) (.ret (A.k oS c3)))
theorem Ep{l:List (Int×List Int)}(hl:l.length≤140737488355328)(hok:∀x∈l,bf x=true):∀(j i:Nat) (p:FC) (c:List Bool),p.c0=l→l.length-i=j→i≤l.length→c.length≤8192→aA (Cv ai) (.more (.c2 p (i:Int) c)) (sP (c++(l.drop i).flatMap bl)):=by
 intro j
 induction j with
 | zero=>
   intro i p c h1 hj hi hc
   have:i=l.length:=by omega
   subst this
   simp only[ao,Cv]
   refine(ah (by rw[show ai.l p.c0=(l.length:Int) from by rw[h1];rfl,aN];simp)).2 (af.2 ⟨rfl,?_⟩)
   rw[List.drop_length,List.flatMap_nil,List.append_nil]
   exact .ret _
 | succ j ih=>
   intro i p c h1 hj hi hc
   simp only[ao,Cv]
   refine(aj (by rw[show ai.l p.c0=(l.length:Int) from by rw[h1];rfl,aN];simp;omega)).2 ?_
   by_cases h2:c.length≤4096
   ·have hi':i<l.length:=by omega
    have hx:=BP (hok _ (List.getElem_mem hi'))
    have hn:(ai.k iM (ai.n (.struct [(.int .i64),(.slice (.int .u8))]) p.c0 (i:Int):Int×List Int))=bl l[i]:=by
     rw[h1,kg hi',ap,iM,hok _ (List.getElem_mem hi')];rfl
    refine(aj (show ai.c .leq ((c.length:Nat):Int) 4096=true from by rw[ax];simp;omega)).2 (af.2 ⟨by rw[h1];exact gB hi',af.2 ⟨rfl,af.2 ⟨?_,?_⟩⟩⟩)
    ·rw[hn]
     show decide (((c++bl l[i]).length:Int)≤140737488355328)=true
     rw[List.length_append];simp;omega
    ·have:=ih (i+1) p (c++bl l[i]) h1 (by omega) (by omega) (by rw[List.length_append];omega)
     rw[List.append_assoc,show bl l[i]++(l.drop (i+1)).flatMap bl=(l.drop i).flatMap bl from by rw[List.drop_eq_getElem_cons hi',List.flatMap_cons]] at this
     rw[hn]
     exact aW (congrArg LT.more (congr (congrArg (Fa.c2 p) (fH (by omega))) rfl)) this
   ·refine(ah (show ai.c .leq ((c.length:Nat):Int) 4096=false from by rw[ax];simp;omega)).2 (af.2 ⟨rfl,?_⟩)
    rw[vY (l:=c++_) (by rw[List.length_append];omega)]
    have:ai.k oS c=(zB,3):=by rw[ap,oS,vY (by omega)]
    rw[this]
    exact .ret _
theorem DY{l:List (Int×List Int)}(hl:l.length≤140737488355328)(hok:∀x∈l,bf x=true):∀(j i:Nat) (p:FO),p.b0=l→l.length-i=j→i≤l.length→aA (Cv ai) (.more (.c1 p (i:Int))) (sP ((l.drop i).flatMap bl)):=by
 intro j
 induction j with
 | zero=>
   intro i p h1 hj hi
   have:i=l.length:=by omega
   subst this
   simp only[ao,Cv]
   refine(ah (by rw[show ai.l p.b0=(l.length:Int) from by rw[h1];rfl,aN];simp)).2 (af.2 ⟨rfl,?_⟩)
   rw[List.drop_length,List.flatMap_nil]
   exact .ret _
 | succ j ih=>
   intro i p h1 hj hi
   simp only[ao,Cv]
   have hi':i<l.length:=by omega
   have hx:=BP (hok _ (List.getElem_mem hi'))
   have hn:(ai.k iM (ai.n (.struct [(.int .i64),(.slice (.int .u8))]) p.b0 (i:Int):Int×List Int))=bl l[i]:=by
    rw[h1,kg hi',ap,iM,hok _ (List.getElem_mem hi')];rfl
   have hf:(l.drop i).flatMap bl=bl l[i]++(l.drop (i+1)).flatMap bl:=by rw[List.drop_eq_getElem_cons hi',List.flatMap_cons]
   refine(aj (by rw[show ai.l p.b0=(l.length:Int) from by rw[h1];rfl,aN];simp;omega)).2 (af.2 ⟨by rw[h1];exact gB hi',af.2 ⟨rfl,?_⟩⟩)
   rw[hn,hf]
   by_cases h0:(bl l[i]).length=0
   ·refine(aj (nN (show((bl l[i]).length:Int)=0 from by omega))).2 ?_
    rw[List.length_eq_zero_iff.1 h0,List.nil_append]
    exact aW (congrArg LT.more (congrArg (Fa.c1 p) (fH (by omega)))) (ih (i+1) p h1 (by omega) (by omega))
   ·refine(ah (zq (show((bl l[i]).length:Int)≠0 from by omega))).2 (af.2 ⟨?_,?_⟩)
    ·show decide (((bl l[i]).length:Int)≤140737488355328)=true
     simp;omega
    ·exact aW (congrArg LT.more (congr (congrArg (Fa.c2 _) (fH (by omega))) rfl)) (Ep hl hok (l.length-(i+1)) (i+1) ⟨p.b0,p.b2⟩ _ h1 rfl (by omega) (by omega))
theorem EQ{l:List (Int×List Int)}(hl:l.length≤140737488355328):∀(j i:Nat) (p:FI),p.a0=l→l.length-i=j→i≤l.length→(∀x∈l.take i,bf x=true)→aA (Cv ai) (.more (.c0 p (i:Int))) (uw l):=by
 intro j
 induction j with
 | zero=>
   intro i p h1 hj hi hok
   have:i=l.length:=by omega
   subst this
   rw[List.take_length] at hok
   simp only[ao,Cv]
   refine(ah (by rw[show ai.l p.a0=(l.length:Int) from by rw[h1];rfl,aN];simp)).2 ?_
   rw[uw,List.all_eq_true.2 hok]
   exact DY hl hok l.length 0 _ h1 rfl (by omega)
 | succ j ih=>
   intro i p h1 hj hi hok
   simp only[ao,Cv]
   have hi':i<l.length:=by omega
   refine(aj (by rw[show ai.l p.a0=(l.length:Int) from by rw[h1];rfl,aN];simp;omega)).2 (af.2 ⟨by rw[h1];exact gB hi',af.2 ⟨rfl,?_⟩⟩)
   have hn:(ai.k iL (ai.n (.struct [(.int .i64),(.slice (.int .u8))]) p.a0 (i:Int):Int×List Int))=bif bf l[i] then 0 else 10:=by
    rw[h1,kg hi',ap,iL]
   rw[hn]
   cases hx:bf l[i]
   ·refine(aj rfl).2 ?_
    rw[uw,show l.all bf=false from List.all_eq_false.2 ⟨l[i],List.getElem_mem hi',by rw[hx];decide⟩]
    exact .ret _
   ·refine(ah rfl).2 ?_
    refine aW (congrArg LT.more (congrArg (Fa.c0 p) (fH (by omega)))) (ih (i+1) p h1 (by omega) (by omega) ?_)
    intro x hx2
    rw[List.take_succ_eq_append_getElem hi'] at hx2
    rcases List.mem_append.1 hx2 with h3|h3
    ·exact hok x h3
    ·rw[List.mem_singleton.1 h3];exact hx
def vg:(List (Int×List Int))→((Int×List Int)×Int):=uw
def K8:aH:=⟨[(.slice (.struct [yI,yB]))], [(.struct [yI,yB]),yI],(@tt (List (Int×List Int))),vg⟩
theorem LZ:Sd 16 K8:=aX aJ iC true 22 [⟨16,3, [[0,2,4,5]]⟩,⟨16,8, [[0,2,4,6]]⟩] [] (fun A l=>t86 A l) Cv Ij (fc Try.func16 fz) (sc Ee (sc FU (sc Ff sz))) (fun A y=>match y with |.c0 p a1=>⟨35,by kernel_rfl,by kernel_rfl⟩|.c1 p b1=>⟨39,by kernel_rfl,by kernel_rfl⟩|.c2 p c1 c3=>⟨39,by kernel_rfl,by kernel_rfl⟩) fun(l:List (Int×List Int)) hp h=>by
 show aA (Cv ai) (t86 ai l) (vg l)
 exact EQ (nH h).1 l.length 0 _ rfl rfl (by omega) (by intro x hx;cases hx)
def t84(A:cH)(bN:Int)(bB:List Int)(unsentN:Int)(unsentB:List Int):LT ((Int×List Int)×Int) Empty:=.need (A.k (@tt (List (Int×List Int))) [(unsentN,unsentB),(bN,bB)]) (.br (A.c .neq (A.k jT [(unsentN,unsentB),(bN,bB)]).2 0) (.ret ((0,([]:List Int)),(A.k jT [(unsentN,unsentB),(bN,bB)]).2)) (.need (A.k (@tt ((Int×List Int)×Int×Int)) ((bN,bB),(A.v .u64 (A.k jT [(unsentN,unsentB),(bN,bB)]).1),24)) (.ret (A.k dA ((bN,bB),(A.v .u64 (A.k jT [(unsentN,unsentB),(bN,bB)]).1),24)))))
theorem Gx{n m:Int}{b u:List Int}(h:Ty.cr [(.struct [(.int .i64),(.slice (.int .u8))]),(.struct [(.int .i64),(.slice (.int .u8))])] ((n,b),(m,u))):aA Empty.elim (t84 ai n b m u) (w9 ((n,b),(m,u))):=by
 unfold t84
 have hs:ai.k jT [(m,u),(n,b)]=bif bf (m,u)&&bf (n,b) then(((over (over 0 (bl (m,u))) (bl (n,b)):Nat):Int),0) else(0,10):=by
  rw[ap,jT,qd]
  show(bif (bf (m,u)&&(bf (n,b)&&true)) then(((over 0 (bl (m,u)++(bl (n,b) ++ [])):Nat):Int),(0:Int)) else(0,10))=_
  rw[Bool.and_true,List.append_nil,dh]
 refine af.2 ⟨rfl,?_⟩
 have hlt:=dN (dN (r:=0) (by decide) (bl (m,u))) (bl (n,b))
 rw[w9]
 cases hok:bf (m,u)&&bf (n,b)
 ·rw[hok,cond_false] at hs
  refine(aj (show((ai.k jT [(m,u),(n,b)]).2 != 0)=true by rw[hs];rfl)).2 ?_
  exact aW (congrArg LT.ret (show((0,([]:List Int)),(ai.k jT [(m,u),(n,b)]).2)=(zB,10) by rw[hs];rfl)) (.ret _)
 ·rw[hok,cond_true] at hs
  refine(ah (show((ai.k jT [(m,u),(n,b)]).2 != 0)=false by rw[hs];rfl)).2 (af.2 ⟨rfl,?_⟩)
  refine aW (congrArg LT.ret (show ai.k dA ((n,b),ai.v .u64 (ai.k jT [(m,u),(n,b)]).1,24)=sP (aC (over 0 (bl (m,u))) (bl (n,b))) from ?_)) (.ret _)
  rw[Bool.and_eq_true] at hok
  rw[hs,cK (by omega),ap,dA,u_,hok.2,qq (by omega),Int.toNat_natCast,Nat.div_eq_of_lt (by simp only[show(24:Int).toNat=24 from rfl];omega)]
  rfl
def ou:((Int×List Int)×(Int×List Int))→((Int×List Int)×Int):=w9
def Lq:aH:=⟨[(.struct [yI,yB]),(.struct [yI,yB])], [(.struct [yI,yB]),yI],(@tt ((Int×List Int)×(Int×List Int))),ou⟩
theorem KH:Sd 14 Lq:=gj aJ iC true 44 [] (fun A ((bN,bB),unsentN,unsentB)=>t84 A bN bB unsentN unsentB) (fc Try.func14 fz) (sc B6 (sc I_ sz)) fun((bN,bB),unsentN,unsentB) hp h=>Gx h
end Go.Ev.M
