/-
  PROVED: what Join and Seal compute, in the program and in the document. Conditions: none.
-/
import Derived.Test.YtjceiokllpmnkaaGreatFb
namespace Go.Ev.M
open Go.Proofs
set_option maxRecDepth 100000
set_option linter.unusedVariables false
set_option linter.unusedSimpArgs false
open Go.Ev.Pl
structure J5 where
 (a0:List (Int×List Int)) (a2:Int)
structure Ka where
 (b0:List (Int×List Int)) (b2:Int)
structure Kf where
 (c0:List (Int×List Int)) (c2:Int)
inductive JQ where
 | c0 (p:J5) (a1:Int)
 | c1 (p:Ka) (b1:Int)
 | c2 (p:Kf) (c1:Int) (c3:List Bool)
noncomputable def Ss:JQ→f_
 | .c0 p a1=>⟨[⟨170,42,(en [(0,.sl (.struct [yI,yB]) p.a0),(2,.ptr 0 0),(4,.dp true),(5,vi a1)]),[.inLoop (cw Tryz.f170 [1,1,0,1,0,0]),.inBlock 0,.code (cw Tryz.f170 [1,1,1])],[],none⟩],[.flat false [vi p.a2,.dp true],.dead]⟩
 | .c1 p b1=>⟨[⟨170,42,(en [(0,.sl (.struct [yI,yB]) p.b0),(2,.ptr 0 0),(4,.dp true),(6,vi b1)]),[.inLoop (cw Tryz.f170 [1,1,1,0,1,0,0]),.inBlock 2,.code (cw Tryz.f170 [1,1,1,1])],[],none⟩],[.flat false [vi p.b2,.dp true],.dead]⟩
 | .c2 p c1 c3=>⟨[⟨170,42,(en [(0,.sl (.struct [yI,yB]) p.c0),(2,.ptr 0 0),(4,.own 1),(6,vi c1)]),[.inLoop (cw Tryz.f170 [1,1,1,0,1,0,0]),.inBlock 2,.code (cw Tryz.f170 [1,1,1,1])],[],none⟩],[.flat false [vi p.c2,.dp true],.arr false .bool c3,.dead]⟩
def t86(A:bu)(l:List (Int×List Int)):LT ((Int×List Int)×Int) JQ:=.more (.c0 ⟨l,0⟩ 0)
def Gs(A:bu):JQ→LT ((Int×List Int)×Int) JQ
 | .c0 p a1=>.br (A.c .lss a1 (A.l p.a0)) (.need (A.and (A.c .leq 0 a1) (A.c .lss a1 (A.l p.a0))) (.need (A.k (@tt ((Int×List Int))) (A.n (.struct [yI,yB]) p.a0 a1:Int×List Int)) (.br (A.c .neq (A.k jC (A.n (.struct [yI,yB]) p.a0 a1:Int×List Int)) 0) (.ret ((0,([]:List Int)),10)) (.more (.c0 p (A.b .add .i64 a1 1)))))) (.more (.c1 ⟨p.a0,p.a2⟩ 0))
 | .c1 p b1=>.br (A.c .lss b1 (A.l p.b0)) (.need (A.and (A.c .leq 0 b1) (A.c .lss b1 (A.l p.b0))) (.need (A.k (@tt ((Int×List Int))) (A.n (.struct [yI,yB]) p.b0 b1:Int×List Int)) (.br (A.c .eql (A.l (A.k jX (A.n (.struct [yI,yB]) p.b0 b1:Int×List Int))) 0) (.more (.c1 p (A.b .add .i64 b1 1))) (.need (A.c .leq (A.l (A.k jX (A.n (.struct [yI,yB]) p.b0 b1:Int×List Int))) 140737488355328) (.more (.c2 ⟨p.b0,p.b2⟩ (A.b .add .i64 b1 1) (A.k jX (A.n (.struct [yI,yB]) p.b0 b1:Int×List Int)))))))) (.need (A.k (@tt (List Bool)) ([]:List Bool)) (.ret (A.k rf ([]:List Bool))))
 | .c2 p c1 c3=>.br (A.c .lss c1 (A.l p.c0)) (.br (A.c .leq (A.l c3) 4096) (.need (A.and (A.c .leq 0 c1) (A.c .lss c1 (A.l p.c0))) (.need (A.k (@tt ((Int×List Int))) (A.n (.struct [yI,yB]) p.c0 c1:Int×List Int)) (.need (A.c .leq (A.l (A.p c3 (A.k jX (A.n (.struct [yI,yB]) p.c0 c1:Int×List Int)))) 140737488355328) (.more (.c2 p (A.b .add .i64 c1 1) (A.p c3 (A.k jX (A.n (.struct [yI,yB]) p.c0 c1:Int×List Int)))))))) (.need (A.k (@tt (List Bool)) c3) (.ret (A.k rf c3)))) (.need (A.k (@tt (List Bool)) c3) (.ret (A.k rf c3)))
theorem IQ{l:List (Int×List Int)}(hl:l.length≤140737488355328)(hok:∀x∈l,bw x=true):∀(j i:Nat) (p:Kf) (c:List Bool),p.c0=l→l.length-i=j→i≤l.length→c.length≤8192→aD (Gs ah) (.more (.c2 p (i:Int) c)) (vg (c++(l.drop i).flatMap bE)):=by
 intro j
 induction j with
 | zero=>
   intro i p c h1 hj hi hc
   have:i=l.length:=by omega
   subst this
   simp only[ak,Gs]
   refine(ai (by rw[show ah.l p.c0=(l.length:Int) from by rw[h1];rfl,aG];simp)).2 (af.2 ⟨rfl,?_⟩)
   rw[List.drop_length,List.flatMap_nil,List.append_nil]
   exact .ret _
 | succ j ih=>
   intro i p c h1 hj hi hc
   simp only[ak,Gs]
   refine(aj (by rw[show ah.l p.c0=(l.length:Int) from by rw[h1];rfl,aG];simp;omega)).2 ?_
   by_cases h2:c.length≤4096
   ·have hi':i<l.length:=by omega
    have hx:=Gw (hok _ (List.getElem_mem hi'))
    have hn:(ah.k jX (ah.n (.struct [(.int .i64),(.slice (.int .u8))]) p.c0 (i:Int):Int×List Int))=bE l[i]:=by
     rw[h1,mq hi',al,jX,hok _ (List.getElem_mem hi')];rfl
    refine(aj (show ah.c .leq ((c.length:Nat):Int) 4096=true from by rw[ax];simp;omega)).2 (af.2 ⟨by rw[h1];exact bH hi',af.2 ⟨rfl,af.2 ⟨?_,?_⟩⟩⟩)
    ·rw[hn]
     show decide (((c++bE l[i]).length:Int)≤140737488355328)=true
     rw[List.length_append];simp;omega
    ·have:=ih (i+1) p (c++bE l[i]) h1 (by omega) (by omega) (by rw[List.length_append];omega)
     rw[List.append_assoc,show bE l[i]++(l.drop (i+1)).flatMap bE=(l.drop i).flatMap bE from by rw[List.drop_eq_getElem_cons hi',List.flatMap_cons]] at this
     rw[hn]
     exact aT (congrArg LT.more (congr (congrArg (JQ.c2 p) (dI (by omega))) rfl)) this
   ·refine(ai (show ah.c .leq ((c.length:Nat):Int) 4096=false from by rw[ax];simp;omega)).2 (af.2 ⟨rfl,?_⟩)
    rw[yE (l:=c++_) (by rw[List.length_append];omega)]
    have:ah.k rf c=(zB,3):=by rw[al,rf,yE (by omega)]
    rw[this]
    exact .ret _
theorem IM{l:List (Int×List Int)}(hl:l.length≤140737488355328)(hok:∀x∈l,bw x=true):∀(j i:Nat) (p:Ka),p.b0=l→l.length-i=j→i≤l.length→aD (Gs ah) (.more (.c1 p (i:Int))) (vg ((l.drop i).flatMap bE)):=by
 intro j
 induction j with
 | zero=>
   intro i p h1 hj hi
   have:i=l.length:=by omega
   subst this
   simp only[ak,Gs]
   refine(ai (by rw[show ah.l p.b0=(l.length:Int) from by rw[h1];rfl,aG];simp)).2 (af.2 ⟨rfl,?_⟩)
   rw[List.drop_length,List.flatMap_nil]
   exact .ret _
 | succ j ih=>
   intro i p h1 hj hi
   simp only[ak,Gs]
   have hi':i<l.length:=by omega
   have hx:=Gw (hok _ (List.getElem_mem hi'))
   have hn:(ah.k jX (ah.n (.struct [(.int .i64),(.slice (.int .u8))]) p.b0 (i:Int):Int×List Int))=bE l[i]:=by
    rw[h1,mq hi',al,jX,hok _ (List.getElem_mem hi')];rfl
   have hf:(l.drop i).flatMap bE=bE l[i]++(l.drop (i+1)).flatMap bE:=by rw[List.drop_eq_getElem_cons hi',List.flatMap_cons]
   refine(aj (by rw[show ah.l p.b0=(l.length:Int) from by rw[h1];rfl,aG];simp;omega)).2 (af.2 ⟨by rw[h1];exact bH hi',af.2 ⟨rfl,?_⟩⟩)
   rw[hn,hf]
   by_cases h0:(bE l[i]).length=0
   ·refine(aj (o_ (show((bE l[i]).length:Int)=0 from by omega))).2 ?_
    rw[List.length_eq_zero_iff.1 h0,List.nil_append]
    exact aT (congrArg LT.more (congrArg (JQ.c1 p) (dI (by omega)))) (ih (i+1) p h1 (by omega) (by omega))
   ·refine(ai (BB (show((bE l[i]).length:Int)≠0 from by omega))).2 (af.2 ⟨?_,?_⟩)
    ·show decide (((bE l[i]).length:Int)≤140737488355328)=true
     simp;omega
    ·exact aT (congrArg LT.more (congr (congrArg (JQ.c2 _) (dI (by omega))) rfl)) (IQ hl hok (l.length-(i+1)) (i+1) ⟨p.b0,p.b2⟩ _ h1 rfl (by omega) (by omega))
theorem Jo{l:List (Int×List Int)}(hl:l.length≤140737488355328):∀(j i:Nat) (p:J5),p.a0=l→l.length-i=j→i≤l.length→(∀x∈l.take i,bw x=true)→aD (Gs ah) (.more (.c0 p (i:Int))) (wM l):=by
 intro j
 induction j with
 | zero=>
   intro i p h1 hj hi hok
   have:i=l.length:=by omega
   subst this
   rw[List.take_length] at hok
   simp only[ak,Gs]
   refine(ai (by rw[show ah.l p.a0=(l.length:Int) from by rw[h1];rfl,aG];simp)).2 ?_
   rw[wM,List.all_eq_true.2 hok]
   exact IM hl hok l.length 0 _ h1 rfl (by omega)
 | succ j ih=>
   intro i p h1 hj hi hok
   simp only[ak,Gs]
   have hi':i<l.length:=by omega
   refine(aj (by rw[show ah.l p.a0=(l.length:Int) from by rw[h1];rfl,aG];simp;omega)).2 (af.2 ⟨by rw[h1];exact bH hi',af.2 ⟨rfl,?_⟩⟩)
   have hn:(ah.k jC (ah.n (.struct [(.int .i64),(.slice (.int .u8))]) p.a0 (i:Int):Int×List Int))=bif bw l[i] then 0 else 10:=by
    rw[h1,mq hi',al,jC]
   rw[hn]
   cases hx:bw l[i]
   ·refine(aj rfl).2 ?_
    rw[wM,show l.all bw=false from List.all_eq_false.2 ⟨l[i],List.getElem_mem hi',by rw[hx];decide⟩]
    exact .ret _
   ·refine(ai rfl).2 ?_
    refine aT (congrArg LT.more (congrArg (JQ.c0 p) (dI (by omega)))) (ih (i+1) p h1 (by omega) (by omega) ?_)
    intro x hx2
    rw[List.take_succ_eq_append_getElem hi'] at hx2
    rcases List.mem_append.1 hx2 with h3|h3
    ·exact hok x h3
    ·rw[List.mem_singleton.1 h3];exact hx
def xY:(List (Int×List Int))→((Int×List Int)×Int):=wM
def X9:aC:=⟨[(.slice (.struct [yI,yB]))], [(.struct [yI,yB]),yI],(@tt (List (Int×List Int))),xY⟩
theorem Wi:Sd 170 X9:=aJ au dC true 22 [⟨170,3, [[0,2,4,5]]⟩,⟨170,8, [[0,2,4,6]]⟩] [] (fun A l=>t86 A l) Gs Ss (fc Tryz.func170 fz) (sc Ha (sc JE (sc JH sz))) (fun A y=>match y with |.c0 p a1=>⟨35,by kernel_rfl,by kernel_rfl⟩|.c1 p b1=>⟨39,by kernel_rfl,by kernel_rfl⟩|.c2 p c1 c3=>⟨39,by kernel_rfl,by kernel_rfl⟩) fun(l:List (Int×List Int)) hp h=>by
 show aD (Gs ah) (t86 ah l) (xY l)
 exact Jo (oJ h).1 l.length 0 _ rfl rfl (by omega) (by intro x hx;cases hx)
def t84(A:bu)(bN:Int)(bB:List Int)(unsentN:Int)(unsentB:List Int):LT ((Int×List Int)×Int) Empty:=.need (A.k (@tt (List (Int×List Int))) [(unsentN,unsentB),(bN,bB)]) (.br (A.c .neq (A.k lI [(unsentN,unsentB),(bN,bB)]).2 0) (.ret ((0,([]:List Int)),(A.k lI [(unsentN,unsentB),(bN,bB)]).2)) (.need (A.k (@tt ((Int×List Int)×Int×Int)) ((bN,bB),(A.v .u64 (A.k lI [(unsentN,unsentB),(bN,bB)]).1),24)) (.ret (A.k eB ((bN,bB),(A.v .u64 (A.k lI [(unsentN,unsentB),(bN,bB)]).1),24)))))
theorem Mg{n m:Int}{b u:List Int}(h:Ty.du [(.struct [(.int .i64),(.slice (.int .u8))]),(.struct [(.int .i64),(.slice (.int .u8))])] ((n,b),(m,u))):aD Empty.elim (t84 ah n b m u) (zw ((n,b),(m,u))):=by
 unfold t84
 have hs:ah.k lI [(m,u),(n,b)]=bif bw (m,u)&&bw (n,b) then(((over (over 0 (bE (m,u))) (bE (n,b)):Nat):Int),0) else(0,10):=by
  rw[al,lI,su]
  show(bif (bw (m,u)&&(bw (n,b)&&true)) then(((over 0 (bE (m,u)++(bE (n,b) ++ [])):Nat):Int),(0:Int)) else(0,10))=_
  rw[Bool.and_true,List.append_nil,fG]
 refine af.2 ⟨rfl,?_⟩
 have hlt:=gy (gy (r:=0) (by decide) (bE (m,u))) (bE (n,b))
 rw[zw]
 cases hok:bw (m,u)&&bw (n,b)
 ·rw[hok,cond_false] at hs
  refine(aj (show((ah.k lI [(m,u),(n,b)]).2 != 0)=true by rw[hs];rfl)).2 ?_
  exact aT (congrArg LT.ret (show((0,([]:List Int)),(ah.k lI [(m,u),(n,b)]).2)=(zB,10) by rw[hs];rfl)) (.ret _)
 ·rw[hok,cond_true] at hs
  refine(ai (show((ah.k lI [(m,u),(n,b)]).2 != 0)=false by rw[hs];rfl)).2 (af.2 ⟨rfl,?_⟩)
  refine aT (congrArg LT.ret (show ah.k eB ((n,b),ah.v .u64 (ah.k lI [(m,u),(n,b)]).1,24)=vg (dn (over 0 (bE (m,u))) (bE (n,b))) from ?_)) (.ret _)
  rw[Bool.and_eq_true] at hok
  rw[hs,dE (by omega),al,eB,xV,hok.2,tc (by omega),Int.toNat_natCast,Nat.div_eq_of_lt (by simp only[show(24:Int).toNat=24 from rfl];omega)]
  rfl
def qN:((Int×List Int)×(Int×List Int))→((Int×List Int)×Int):=zw
def YC:aC:=⟨[(.struct [yI,yB]),(.struct [yI,yB])], [(.struct [yI,yB]),yI],(@tt ((Int×List Int)×(Int×List Int))),qN⟩
theorem W0:Sd 168 YC:=aQ au dC true 44 [] (fun A ((bN,bB),unsentN,unsentB)=>t84 A bN bB unsentN unsentB) (fc Tryz.func168 fz) (sc FJ (sc Qs sz)) fun((bN,bB),unsentN,unsentB) hp h=>Mg h
end Go.Ev.M
