/-
  PROVED: the evaluator: regions that draw their order, the theorem on the whole, contracts of functions, and from a contract to a law. Conditions: the type table, the functions and the contracts fit the program.
-/
import Derived.Test.YtjceiokllpmnkaaGreatEvB
import Derived.KernelRfl
import Derived.Laws.StructEq
import Derived.WalkKit
import Derived.ProofKit
import Derived.OpenShut
import Derived.SizedLaws
import Derived.Carry
import Derived.IntWalk
set_option linter.unusedVariables false
set_option linter.unusedSimpArgs false
set_option linter.unusedSectionVars false
namespace Go.Ev
section
variable {P:Program} {R:Type} {E:eB R} {w0:iP} {I0:Nat→Prop} {f0:FuncId} {Fin:R→Value→World→Prop} {Q:R→Prop}
variable {w:World} {S:St} {m:Mem} {fr:Frame} {fs:List bu} {frs cs:List Frame}
variable {n:Nat}
theorem CP:∀{ps:List Nat} {aa:List AV} {us:List Value} {env:Env} {tmps:Array Value} {nn:Nat},bC w S m aa us→ps.length=aa.length→(∀p∈ps,p<nn)→tmps.size=nn→nn≤65535→(∀i,CR w S m (env.at i) (tmps.getD i undef))→
  ((ps.zip us).foldl (fun tmps (t,a)=>tmps.setIfInBounds t a) tmps).size=nn∧∀i,CR w S m ((tq ps aa env).at i) (((ps.zip us).foldl (fun tmps (t,a)=>tmps.setIfInBounds t a) tmps).getD i undef)
 | [],aa,us,env,tmps,nn,_,_,_,hs,_,he=>by
   simp only[List.zip_nil_left,List.foldl_nil,tq]
   exact⟨hs,he⟩
 | p::ps, [],us,env,tmps,nn,_,hl,_,_,_,_=>by simp at hl
 | p::ps,a::aa,us,env,tmps,nn,hc,hl,hp,hs,hn,he=>by
   obtain⟨u,r,rfl,h1,h2⟩:=aV.1 hc
   simp only[List.zip_cons_cons,List.foldl_cons,tq]
   have hpn:=hp p List.mem_cons_self
   refine CP (nn:=nn) h2 (by simpa using hl) (fun q hq=>hp q (List.mem_cons_of_mem _ hq)) (by simp[hs]) hn fun i=>?_
   rw[Env.s8 (by omega)]
   simp only[Array.getD_eq_getD_getElem?,Array.getElem?_setIfInBounds]
   by_cases hi:i=p
   ·subst hi;simp[hs,hpn,h1]
   ·rw[if_neg hi,if_neg (Ne.symm hi),←Array.getD_eq_getD_getElem?];exact he i
theorem za{α β γ:Type}(f:γ→α×β→γ)(x:γ)(a:Array α)(b:Array β):(a.zip b).foldl f x=(a.toList.zip b.toList).foldl f x:=by
 rw[←Array.foldl_toList,Array.toList_zip]
theorem BX{ρ:Operand→Value}{x:Operand}{args:Array Operand}{ats:Array TypeId}{t:TypeId}{l:Nat}{r:Loop}(hx:ρ x=.func (.yield l) #[] #[])(h:w.heap[l]? = some (.loop r))(hs:args.size=r.params.size) :
  (do let d ←resolve ρ {callee:=.value x,args:=args,argTypes:=ats} t;invoke d.target d.args:Sem Next).run P w =
    .ok (.round l r.fn ((r.params.zip (args.map ρ)).foldl (fun tmps (t,a)=>tmps.setIfInBounds t a) r.tmps) r.assign r.body) w:=by
 simp only[resolve,hx,Deferred.ofValue,Sem.run_bind,Sem.run_pure,Result.andThen_ok,invoke,Array.empty_append]
 exact run_yield h (by simpa using hs)
theorem Dq{ρa:Operand→AV}{ρc:Operand→Value}(hρ:∀x,CR w S m (ρa x) (ρc x))(l:Array Operand):bC w S m (l.toList.map ρa) (l.map ρc).toList:=by
 rw[Array.toList_map];exact yj hρ l.toList
theorem Ky(hP:Fits P E Fin w0 I0)(ih:∀c,Tr.Ok Q (Good P E w0 I0 f0 Fin Q) (run ah E n c)→Good P E w0 I0 f0 Fin Q c)
  {all:Array Oper} {i:Nat} {l:List Nat} {kc:List Item} {o:Oper} {ρ:Operand→AV} {fn:FuncId} {below:bu} {next:AV→Mem→Tr R}
  (hW:WR w0 w S m) (hI:∀b,S.I b→I0 b∨w0.free b) (hfs:Ax w S m fs frs) (hB:ta f0 (below::fs)) (hm:fr.mode=.run)
  (ht:fr.todo=.inRegion all (i::l)::kc) (ho:all[i]? = some o) (hw:Region.wanted o (yielded all fr.tmps)=true)
  (hρ:∀x∈o.op.operands.toList,CR w S m (ρ x) (fr.eval x)) (hbelow:FR w S m below fr)
  (hnext:∀v m' w' S' z,Step w0 w S m w' S' m'→CR w' S' m' v z→Tr.Ok Q (Good P E w0 I0 f0 Fin Q) (next v m')→Ends P f0 Fin Q (fr.finish z) frs cs w')
  (h:Tr.Ok Q (Good P E w0 I0 f0 Fin Q) (match nW ah E ρ m o with
        | some tv=>tv.bind o.pos fun v=>next v m
        | none=>match o.op with
          | .call {callee:=.value x,args,.. }=>match ρ x with
            | .fn g first caps=>match look E.cZ g with
              | some s=>(pn ah s m (first++(args.toList.map ρ++caps))).bind o.pos fun p=>next p.1 p.2
              | none=>match mR ah E g m (first++(args.toList.map ρ++caps)) with
               | some tv=>tv.bind o.pos fun p=>next p.1 p.2
               | none=>match look E.dx g with
                | none=>.bad 163 o.pos
                | some G=>match dV g G (first++(args.toList.map ρ++caps)) with
                  | none=>.bad 164 o.pos
                  | some h=>run ah E n {frames:=h::below::fs,mem:=m}
            | .yield l=>match m.at l with
               | .loop r=>match Nat.beq r.params.length (args.toList.map ρ).length&&r.params.all (fun p=>Nat.blt p r.n) with
                 | true=>run ah E n {frames:={fn:=r.fn,n:=r.n,env:=tq r.params (args.toList.map ρ) r.env,todo:=[.code r.assign,.beginRound,.code r.body],marks:=[],cK:=some l}::below::fs,mem:=m}
                 | false=>.bad 165 o.pos
               | _=>.bad 166 o.pos
            | _=>.bad 167 o.pos
          | _=>(qI ah E fn ρ m o).bind o.pos fun p=>next p.1 p.2)):Ends P f0 Fin Q fr frs cs w:=by
 classical
 -- operands that are not named mean nothing
 let ρ':Operand→AV:=fun x=>if x∈o.op.operands.toList then ρ x else .undef
 have hρ':∀x,CR w S m (ρ' x) (fr.eval x):=fun x=>by
  by_cases hx:x∈o.op.operands.toList
  ·simp only[ρ',if_pos hx];exact hρ x hx
  ·simp only[ρ',if_neg hx];exact dC
 have hsame:∀x∈o.op.operands.toList,ρ x=ρ' x:=fun x hx=>by simp only[ρ',if_pos hx]
 rw[wV hsame,G8 hsame] at h
 cases hev:nW ah E ρ' m o with
 | some tv=>
   rw[hev] at h
   simp only at h
   obtain⟨v,hv,h⟩:=TV.bind_ok h
   obtain⟨z,hz,hc⟩:=xe hP.ti hW hρ' hev hv
   have hd:∀c,o.op≠.defer c:=fun c e=>by simp[nW,e] at hev
   exact .step (HV hm ht ho hw hd hz) (hnext v m w S z (.refl hW) hc h)
 | none=>
   rw[hev] at h
   simp only at h
   have other:Tr.Ok Q (Good P E w0 I0 f0 Fin Q) ((qI ah E fn ρ' m o).bind o.pos fun p=>next p.1 p.2)→Ends P f0 Fin Q fr frs cs w:=by
    intro h
    obtain⟨⟨v,m'⟩,hv,h⟩:=TV.bind_ok h
    obtain⟨nx,z,w',S',hrun,hnx,hs,hc⟩:=Hm hP.ti hW hρ' hv
    have hd:∀c,o.op≠.defer c:=fun c e=>by simp[qI,e,TV.Is] at hv
    rcases hnx with rfl|⟨rfl,rfl⟩
    ·exact .step (HV hm ht ho hw hd hrun) (hnext v m' w' S' z hs hc h)
    ·exact .step (ZT hm ht ho hw hd hrun) (hnext _ m' w' S' undef hs dC h)
   split at h
   ·rename_i x args ats hop
    have hd:∀c,o.op≠.defer c:=fun c e=>by rw[hop] at e;cases e
    have hx:CR w S m (ρ x) (fr.eval x):=hρ x (by rw[hop];simp[Op.operands,Call.operands])
    have hargs:bC w S m (args.toList.map ρ) (args.map fr.eval).toList:=by
     have e:args.toList.map ρ=args.toList.map ρ':=oJ fun y hy=>hsame y (by rw[hop];simp only[Op.operands,Call.operands];simp at hy ⊢;exact .inr hy)
     rw[e];exact Dq hρ' args
    have hexec:∀nx,(do let d ←resolve fr.eval {callee:=.value x,args:=args,argTypes:=ats} o.type;invoke d.target d.args:Sem Next).run P w=.ok nx w→(execOp fr.eval o).run P w=.ok nx w:=fun nx he=>by
     simp only[execOp,hop];exact he
    cases hv:ρ x<;>rw[hv] at h hx<;>(try simp only at h)<;>try exact h.elim
    ·rename_i g first caps
     obtain⟨us,vs,hxe,hus,hvs⟩:=oT.1 hx
     have hall:bC w S m (first++(args.toList.map ρ++caps)) (us++args.map fr.eval++vs).toList:=by
      rw[Array.append_assoc,Array.toList_append,Array.toList_append]
      exact hus.append (hargs.append hvs)
     cases hsp:look E.cZ g with
     | some s=>
       rw[hsp] at h
       simp only at h
       obtain⟨⟨v,m'⟩,hv,h⟩:=TV.bind_ok h
       obtain⟨F,hF,hb,hn⟩:=(hP.cZ g s hsp).body
       obtain⟨w',S',z,dL,hs,hc,hsteps,hleave⟩:=uu (hP.cZ g s hsp) (fun d=>(hP.nod d).1 g s hsp) hW hall hv (fr::(frs++cs))
       have hstep:=EE (cs:=frs++cs) hm ht ho hw hd (hexec _ (jj hxe hF hn hb w))
       exact .steps ((Steps.head hstep hsteps).trans (.one (step_leave_returned hleave))) (hnext v m' w' S' z hs hc h)
     | none=>
       rw[hsp] at h
       simp only at h
       cases hpp:mR ah E g m (first++(args.toList.map ρ++caps)) with
       | some tv=>
         rw[hpp] at h
         simp only at h
         obtain⟨⟨v,m'⟩,hv,h⟩:=TV.bind_ok h
         obtain⟨⟨F,hF,hb,hn⟩,hcall⟩:=zJ hP hpp
         obtain⟨w',S',z,dL,hs,hc,hsteps,hleave⟩:=hcall hW hall hv (fr::(frs++cs))
         have hstep:=EE (cs:=frs++cs) hm ht ho hw hd (hexec _ (jj hxe hF hn hb w))
         exact .steps ((Steps.head hstep hsteps).trans (.one (step_leave_returned hleave))) (hnext v m' w' S' z hs hc h)
       | none=>
       rw[hpp] at h
       simp only at h
       cases hG:look E.dx g with
       | none=>rw[hG] at h;exact h.elim
       | some G=>
         rw[hG] at h
         simp only at h
         cases hen:dV g G (first++(args.toList.map ρ++caps)) with
         | none=>rw[hen] at h;exact h.elim
         | some h'=>
           rw[hen] at h
           simp only at h
           obtain⟨hGf,hGn⟩:=hP.dx _ _ hG
           obtain⟨hfr,hbody,hnh'⟩:=fJ hGf hen hall
           have hstep:=EE (cs:=frs++cs) hm ht ho hw hd (hexec _ (jj hxe hGf hGn hbody w))
           exact .step (frs2:=fr::frs) hstep (ih _ h (df hnh') S _ _ cs w hW hI ⟨_,_,rfl,hfr,_,_,rfl,hbelow,hfs⟩ hB)
    ·rename_i lp
     cases hml:m.at lp<;>rw[hml] at h<;>(try simp only at h)<;>try exact h.elim
     rename_i r
     have hxe:fr.eval x=.func (.yield (S.σ lp)) #[] #[]:=by
      rw[CR,hml] at hx;exact hx
     cases hok:Nat.beq r.params.length (args.toList.map ρ).length&&r.params.all (fun p=>Nat.blt p r.n) with
     | false=>rw[hok] at h;exact h.elim
     | true=>
       rw[hok] at h
       simp only at h
       rw[cd] at hok
       obtain⟨hlen,hlt⟩:=hok
       have hlen:=mI hlen
       have hlt:∀p∈r.params,p<r.n:=fun p hp=>by
        have:=List.all_eq_true.1 hlt p hp
        exact oX this
       have hb:=hW.box lp
       rw[hml] at hb
       obtain⟨L,g1,g2,g3,g4,g5,g6,g7,⟨g8,g9⟩,g10⟩:=hb
       have hsz:args.size=L.params.size:=by
        have h1:L.params.size=r.params.length:=by rw[g5,List.size_toArray]
        rw[List.length_map,Array.length_toList] at hlen
        omega
       have hstep:=Xl (P:=P) (cs:=frs++cs) hm ht ho hw hd (hexec _ (BX hxe g1 hsz))
       have hput:=CP hargs hlen hlt g8 g9 g10
       rw[za,g4,g5,g6,g7] at hstep
       refine .step (frs2:=fr::frs) hstep (ih _ h (df fun a ha=>by cases ha;rfl) S _ _ cs w hW hI ⟨_,_,rfl,?_,_,_,rfl,hbelow,hfs⟩ hB)
       refine⟨rfl,hput.1,g9,fun y _=>hput.2 y,cJ.code (.mk (a:=.beginRound) rfl (cJ.code rfl)),?_,fun a ha=>?_,rfl,fun d hd=>absurd hd List.not_mem_nil,rfl,rfl,rfl,fun q hq=>by cases hq;rw[hml];rfl⟩
       ·exact .mk trivial (.mk trivial (.mk trivial fun a ha=>absurd ha List.not_mem_nil))
       ·simp only[List.tail_cons,List.mem_cons,List.not_mem_nil,or_false] at ha
        rcases ha with rfl|rfl<;>rfl
   ·exact other h
end
end Go.Ev
namespace Go.Ev
section
variable {P:Program} {R:Type} {E:eB R} {w0:iP} {I0:Nat→Prop} {f0:FuncId} {Fin:R→Value→World→Prop} {Q:R→Prop}
variable {w:World} {S:St} {m:Mem} {fr:Frame} {fs:List bu} {frs cs:List Frame}
variable {fn:FuncId} {nn:Nat} {env:Env} {marks:List Nat} {cK:Option Nat} {k:List bH} {n:Nat}
def yq(env env':Env)(D:List Nat):Prop:=∀x,env'.at x=env.at x∨(x∈D∧∃v,env.at x=.bool false v∧env'.at x=.bool true v)
theorem yq.CR{env':Env}{D:List Nat}(h:yq env env' D){x:Nat}{v:Value}(hc:CR w S m (env.at x) v):CR w S m (env'.at x) v:=by
 rcases h x with e|⟨_,b,e1,e2⟩
 ·rw[e];exact hc
 ·rw[e1] at hc;rw[e2];exact c_.2 (c_.1 hc)
theorem FR.JQ{env':Env}{D:List Nat}{todo:List bH}(h:yq env env' D)(hf:FR w S m ⟨fn,nn,env,todo,marks,cK⟩ fr):FR w S m ⟨fn,nn,env',todo,marks,cK⟩ fr:=
 ⟨hf.fn,hf.n,hf.small,fun i hi=>h.CR (hf.env i hi),hf.todo,hf.live,hf.flat,hf.defers,hf.marks,hf.mode,hf.kind,hf.cK,hf.nU⟩
theorem PE{todo:List bH}(hf:FR w S m ⟨fn,nn,env,todo,marks,cK⟩ fr){d:Nat}{c v:Bool}(hnh:¬Hid ⟨fn,nn,env,todo,marks,cK⟩ fr d)(h:env.at d=.bool c v):d<nn:=by
 have hc:=hf.env d hnh
 rw[show(bu.env ⟨fn,nn,env,todo,marks,cK⟩).at d=.bool c v from h] at hc
 have hc:=c_.1 hc
 rcases Nat.lt_or_ge d nn with h'|h'
 ·exact h'
 ·rw[Array.getD_eq_getD_getElem?,Array.getElem?_eq_none (by rw[hf.n];exact h')] at hc;cases hc
theorem VV(hP:Fits P E Fin w0 I0)(ih:∀c,Tr.Ok Q (Good P E w0 I0 f0 Fin Q) (run ah E n c)→Good P E w0 I0 f0 Fin Q c){all:Array Oper}{o:Oper}{rest:List Oper}
  (h:Tr.Ok Q (Good P E w0 I0 f0 Fin Q) (run ah E (n+1) {frames:=⟨fn,nn,env,.ops all (o::rest)::k,marks,cK⟩::fs,mem:=m}))
  (hW:WR w0 w S m) (hI:∀b,S.I b→I0 b∨w0.free b) (hf:FR w S m ⟨fn,nn,env,.ops all (o::rest)::k,marks,cK⟩ fr) (hfs:Ax w S m fs frs) (hB:ta f0 (⟨fn,nn,env,.ops all (o::rest)::k,marks,cK⟩::fs)) :
  Ends P f0 Fin Q fr frs cs w:=by
 have hnh:∀{env:Env} y,¬Hid ⟨fn,nn,env,.ops all (o::rest)::k,marks,cK⟩ fr y:=fun y=>jm fun a ha=>by cases ha;rfl
 obtain⟨it,kc,ht,h1,h2⟩:=hf.todo.cons_inv
 obtain⟨l,rfl,hl⟩:∃l:List Nat,it=.inRegion all l∧l.map (fun i=>all[i]?)=(o::rest).map some:=h1
 cases l with
 | nil=>cases hl
 | cons i l=>
   simp only[List.map_cons,List.cons.injEq] at hl
   simp only[run] at h
   cases hd:kG nn o.dst with
   | false=>rw[hd] at h;exact h.elim
   | true=>
     rw[hd] at h
     simp only at h
     obtain⟨env',hre,h⟩:=Bh h fun d _ c v e=>by have:=PE hf (hnh d) e;have:nn≤65535:=hf.small;omega
     have hf':=hf.JQ (D:=dO all o) hre
     have hw:∀{t:Bool},eZ all env' o t→Region.wanted o (yielded all fr.tmps)=t:=fun hg=>mP hg fun d _=>hf'.env d (hnh d)
     have goes:∀{v:AV} {m':Mem} {w':World} {S':St} {z:Value},Step w0 w S m w' S' m'→CR w' S' m' v z→
       Tr.Ok Q (Good P E w0 I0 f0 Fin Q) (run ah E n {frames:=⟨fn,nn,env'.iK o.dst v,.ops all rest::k,marks,cK⟩::fs,mem:=m'})→Ends P f0 Fin Q (fr.finish z) frs cs w':=fun hs hc h=>
      ih _ h (df fun a ha=>by cases ha;rfl) _ _ _ cs _ hs.wr (fun b hb=>(hs.grows b hb).elim (hI b) .inr) ⟨_,_,rfl,zp (hf'.mono hs.out) hd hc,hfs.mono hs.out⟩ (hB.swap rfl)
     rcases h with ⟨hg,h⟩|⟨hg,h⟩
     ·exact Ky (fn:=fn) (ρ:=gU env') (below:=⟨fn,nn,env',.ops all (o::rest)::k,marks,cK⟩) (next:=fun v m=>run ah E n {frames:=⟨fn,nn,env'.iK o.dst v,.ops all rest::k,marks,cK⟩::fs,mem:=m})
       hP ih hW hI hfs (hB.swap rfl) hf.mode ht hl.1 (hw hg) (fun x _=>vh hf' x fun t _=>hnh t) hf' (fun v m' w' S' z hs hc h=>goes hs hc h) h
     ·exact .step (CL hf.mode ht hl.1 (hw hg)) (goes (.refl hW) (fC.2 ⟨#[],rfl,aL.2 rfl⟩) h)
end
end Go.Ev
namespace Go.Ev
theorem Dh(e:Edge):Region.binds .any e=ng e:=by
 obtain⟨on,g⟩:=e
 cases g<;>rfl
theorem qG:∀{os:List Oper} {k i:Nat} {o:Oper},jX k os=true→os[i]? = some o→∀e∈o.after.toList,ng e=true→e.on<k+i
 | [],k,i,o,_,h=>by simp at h
 | p::os,k,i,o,he,h=>by
   rw[jX,cd] at he
   cases i with
   | zero=>
     cases h
     intro e hm hb
     have:=List.all_eq_true.1 he.1 e hm
     rw[hb] at this
     simp at this
     omega
   | succ i=>
     intro e hm hb
     have:=qG he.2 (by simpa using h) e hm hb
     omega
theorem og{all:Array Oper}{i j:Nat}:j∈jq all i↔∃o e,all[i]? = some o∧e∈o.after.toList∧ng e=true∧e.on=j:=by
 unfold jq
 cases h:all[i]? with
 | none=>simp
 | some o=>simp[and_assoc]
theorem pred_lt{all:Array Oper}(h:jX 0 all.toList=true){i j:Nat}(hj:j∈jq all i):j<i:=by
 obtain⟨o,e,h1,h2,h3,rfl⟩:=og.1 hj
 have:=qG h (by rw[Array.getElem?_toList];exact h1) e h2 h3
 omega
structure ZS(all:Array Oper)(acc:List Nat):Prop where
 nodup:acc.Nodup
 lt:∀i∈acc,i<all.size
 WS:∀i∈acc,∀j∈jq all i,j∈acc
 pw:acc.Pairwise fun i j=>i ∉ jq all j
theorem ZS.lin{all:Array Oper}{acc:List Nat}(h:ZS all acc)(he:jX 0 all.toList=true)(hc:∀i,i<all.size→i∈acc):QC all acc.reverse∧∀i,i<all.size→i∈acc.reverse:=
 ⟨⟨List.pairwise_reverse.2 (h.nodup.imp Ne.symm),fun i hi=>h.lt i (List.mem_reverse.1 hi),List.pairwise_reverse.2 h.pw,fun i _ hp=>Nat.lt_irrefl _ (pred_lt he hp),
  fun k hk hn=>absurd (List.mem_reverse.2 (hc k hk)) hn⟩,fun i hi=>List.mem_reverse.2 (hc i hi)⟩
theorem CW{all:Array Oper}{listed:Array Bool}{acc:List Nat}(hl:listed.size=all.size)(hm:∀i,i<all.size→(listed.getD i false=true↔i∈acc))(hlt:∀i∈acc,i<all.size){i:Nat}(hi:i<all.size) :
  (!listed.getD i true&&((all[i]?).map (·.after.all fun e=>!Region.binds .any e||listed.getD e.on false)).getD false)=true↔i ∉ acc∧∀j∈jq all i,j∈acc:=by
 have h1:listed.getD i true=listed.getD i false:=by
  simp only[Array.getD_eq_getD_getElem?,Array.getElem?_eq_getElem (by omega:i<listed.size),Option.getD_some]
 have h2:∀j,listed.getD j false=true↔j∈acc:=fun j=>by
  by_cases hj:j<all.size
  ·exact hm j hj
  ·rw[Array.getD_eq_getD_getElem?,Array.getElem?_eq_none (by omega)]
   exact⟨fun h=>(by cases h),fun h=>absurd (hlt j h) hj⟩
 rw[h1,cd,Bool.not_eq_true',Array.getElem?_eq_getElem hi]
 simp only[Option.map_some,Option.getD_some,Array.all_eq_true',Bool.or_eq_true,Bool.not_eq_true']
 constructor
 ·rintro ⟨h3,h4⟩
  refine⟨fun h=>(by rw[(h2 i).2 h] at h3;cases h3),fun j hj=>?_⟩
  obtain⟨o,e,e1,e2,e3,rfl⟩:=og.1 hj
  rw[Array.getElem?_eq_getElem hi] at e1
  cases e1
  rcases h4 e (by simpa using e2) with h5|h5
  ·rw[Dh,e3] at h5;cases h5
  ·exact(h2 _).1 h5
 ·rintro ⟨h3,h4⟩
  refine⟨?_,fun e he=>?_⟩
  ·cases h:listed.getD i false with
   | false=>rfl
   | true=>exact absurd ((h2 i).1 h) h3
  ·cases hb:Region.binds .any e with
   | false=>exact .inl rfl
   | true=>exact .inr ((h2 _).2 (h4 _ (og.2 ⟨_,e,Array.getElem?_eq_getElem hi,by simpa using he,by rw[←Dh];exact hb,rfl⟩)))
theorem uW{all:Array Oper}(he:jX 0 all.toList=true):∀(fuel t:Nat) (listed:Array Bool) (acc:List Nat),listed.size=all.size→(∀i,i<all.size→(listed.getD i false=true↔i∈acc))→ZS all acc→
  ((List.range all.size).filter fun i=>decide (i ∉ acc)).length≤fuel→QC all (Region.linearise.go .any all fuel t listed acc)∧∀i,i<all.size→i∈Region.linearise.go .any all fuel t listed acc
 | 0,t,listed,acc,hl,hm,hP,hf=>by
   rw[Region.linearise.go]
   refine hP.lin he fun i hi=>?_
   have:(List.range all.size).filter (fun i=>decide (i ∉ acc))=[]:=List.length_eq_zero_iff.1 (by omega)
   have:=List.filter_eq_nil_iff.1 this i (List.mem_range.2 hi)
   simpa using this
 | fuel+1,t,listed,acc,hl,hm,hP,hf=>by
   rw[Region.linearise.go]
   split
   ·rename_i i hi
    have hmem:=List.mem_of_getElem? hi
    obtain⟨h1,h2⟩:=List.mem_filter.1 hmem
    have hin:=List.mem_range.1 h1
    obtain⟨h3,h4⟩:=(CW hl hm hP.lt hin).1 h2
    refine uW he fuel _ _ _ (by simp[hl]) (fun j hj=>?_) ⟨List.nodup_cons.2 ⟨h3,hP.nodup⟩,fun j hj=>?_,fun j hj k hk=>?_,List.pairwise_cons.2 ⟨fun j hj hp=>h3 (hP.WS j hj i hp),hP.pw⟩⟩ ?_
    ·simp only[Array.getD_eq_getD_getElem?,Array.getElem?_setIfInBounds]
     by_cases hji:i=j
     ·subst hji;simp[hl,hin]
     ·rw[if_neg hji,←Array.getD_eq_getD_getElem?,hm j hj,List.mem_cons]
      exact⟨.inr,fun h=>h.elim (fun e=>absurd e.symm hji) id⟩
    ·rcases List.mem_cons.1 hj with rfl|hj
     ·exact hin
     ·exact hP.lt j hj
    ·rcases List.mem_cons.1 hj with rfl|hj
     ·exact List.mem_cons_of_mem _ (h4 k hk)
     ·exact List.mem_cons_of_mem _ (hP.WS j hj k hk)
    ·have e:(List.range all.size).filter (fun j=>decide (j ∉ i::acc))=((List.range all.size).filter fun j=>decide (j ∉ acc)).filter fun j=>decide (j≠i):=by
      rw[List.filter_filter]
      refine List.filter_congr fun j _=>?_
      simp[List.mem_cons,not_or]
     rw[e]
     have:(((List.range all.size).filter fun j=>decide (j ∉ acc)).filter fun j=>decide (j≠i)).length<((List.range all.size).filter fun j=>decide (j ∉ acc)).length:=
      List.length_filter_lt_length_iff_exists.2 ⟨i,List.mem_filter.2 ⟨h1,by simpa using h3⟩,by simp⟩
     omega
   ·rename_i hn
    refine hP.lin he fun i hi=>?_
    -- the least that is not listed could go
    have key:∀i,i<all.size→i∈acc:=fun i=>by
     induction i using Nat.strongRecOn with
     | ind i ihi=>
       intro hi
       by_cases hia:i∈acc
       ·exact hia
       ·have hr:=(CW hl hm hP.lt hi).2 ⟨hia,fun j hj=>ihi j (pred_lt he hj) (by have:=pred_lt he hj;omega)⟩
        have hmem:=List.mem_filter (p:=fun i=>!listed.getD i true&&((all[i]?).map (·.after.all fun e=>!Region.binds .any e||listed.getD e.on false)).getD false) |>.2 ⟨List.mem_range.2 hi,hr⟩
        have hpos:=List.length_pos_of_mem hmem
        exact absurd (List.getElem?_eq_none_iff.1 hn) (by have:=Nat.mod_lt t hpos;omega)
    exact key i hi
theorem E2{all:Array Oper}(he:jX 0 all.toList=true)(t:Nat):QC all (Region.schedule true all t)∧∀i,i<all.size→i∈Region.schedule true all t:=by
 unfold Region.schedule
 rw[Bool.true_or,if_pos rfl]
 unfold Region.linearise
 refine uW he _ _ _ _ (by simp) (fun i hi=>?_) ⟨List.nodup_nil,fun _ h=>absurd h List.not_mem_nil,fun _ h=>absurd h List.not_mem_nil,.nil⟩ ?_
 ·simp[Array.getD_eq_getD_getElem?,hi]
 ·have:=List.length_filter_le (fun i=>decide (i ∉ ([]:List Nat))) (List.range all.size)
  rw[List.length_range] at this
  exact this
theorem s_{ms:List Nat}{b:Nat}:∀{es:List Edge},(iX ms es).testBit b=true→∃e∈es,ng e=true∧(b=e.on∨(ms.getD e.on 0).testBit b=true)
 | [],h=>by simp[iX] at h
 | e::es,h=>by
   simp only[iX] at h
   cases hb:ng e with
   | false=>
     rw[hb] at h
     obtain⟨e',h1,h2⟩:=s_ h
     exact⟨e',List.mem_cons_of_mem _ h1,h2⟩
   | true=>
     rw[hb] at h
     simp only[Nat.testBit_or,Bool.or_eq_true] at h
     rcases h with (h|h)|h
     ·exact⟨e,List.mem_cons_self,hb,.inl (by
       rw[Nat.testBit_two_pow] at h
       simpa [eq_comm] using h)⟩
     ·exact⟨e,List.mem_cons_self,hb,.inr h⟩
     ·obtain⟨e',h1,h2⟩:=s_ h
      exact⟨e',List.mem_cons_of_mem _ h1,h2⟩
theorem qt:∀{os:List Oper} {ms:List Nat} {j:Nat},j<ms.length→(iN os ms).getD j 0=ms.getD j 0
 | [],ms,j,_=>by rw[iN]
 | o::os,ms,j,h=>by
   rw[iN,qt (by simp;omega)]
   rw[nE,nE,List.getElem?_append_left h]
theorem w_:∀{os:List Oper} {ms:List Nat} {i:Nat} {o:Oper},os[i]? = some o→(∀e∈o.after.toList,ng e=true→e.on<ms.length+i)→(iN os ms).getD (ms.length+i) 0=iX (iN os ms) o.after.toList
 | [],ms,i,o,h,_=>by simp at h
 | p::os,ms,i,o,h,he=>by
   rw[iN]
   have hlen:(ms ++ [iX ms p.after.toList]).length=ms.length+1:=by simp
   cases i with
   | zero=>
     cases h
     rw[Nat.add_zero,qt (by omega)]
     have:(ms ++ [iX ms p.after.toList]).getD ms.length 0=iX ms p.after.toList:=by
      rw[nE,List.getElem?_append_right (Nat.le_refl _),Nat.sub_self];rfl
     rw[this]
     have hpre:∀j,j<ms.length→(iN os (ms ++ [iX ms p.after.toList])).getD j 0=ms.getD j 0:=fun j hj=>by
      rw[qt (by omega),nE,nE,List.getElem?_append_left hj]
     have key:∀es:List Edge,(∀e∈es,ng e=true→e.on<ms.length)→iX ms es=iX (iN os (ms ++ [iX ms p.after.toList])) es:=fun es=>by
      induction es with
      | nil=>intro _;rfl
      | cons e es ih=>
        intro hh
        simp only[iX]
        rw[ih fun e' h'=>hh e' (List.mem_cons_of_mem _ h')]
        cases hb:ng e with
        | false=>rfl
        | true=>simp only;rw[hpre _ (hh e List.mem_cons_self hb)]
     exact key _ he
   | succ i=>
     have:=w_ (os:=os) (ms:=ms ++ [iX ms p.after.toList]) (i:=i) (o:=o) (by simpa using h) (fun e hm hb=>by have:=he e hm hb;omega)
     rw[hlen] at this
     rw[←this]
     congr 1
     omega
theorem ME{all:Array Oper}{l:List Nat}(he:jX 0 all.toList=true)(hL:QC all l):∀{i b:Nat},i<all.size→(∀j∈jq all i,j ∉ l)→((iN all.toList []).getD i 0).testBit b=true→b ∉ l:=by
 intro i
 induction i using Nat.strongRecOn with
 | ind i ihi=>
   intro b hi hp hb
   obtain⟨o,ho⟩:∃o,all[i]? = some o:=⟨_,Array.getElem?_eq_getElem hi⟩
   have ho':all.toList[i]? = some o:=by rw[Array.getElem?_toList];exact ho
   have hedge:=qG he ho'
   have:=w_ (ms:=[]) ho' (fun e hm h=>by have:=hedge e hm h;simpa using this)
   rw[List.length_nil,Nat.zero_add] at this
   rw[this] at hb
   obtain⟨e,h1,h2,h3⟩:=s_ hb
   have hj:e.on∈jq all i:=og.2 ⟨o,e,ho,h1,h2,rfl⟩
   have hlt:=pred_lt he hj
   rcases h3 with rfl|h3
   ·exact hp _ hj
   ·exact ihi e.on hlt (by omega) (hL.closed e.on (by omega) (hp _ hj)) h3
theorem QC.Md{all:Array Oper}{i:Nat}{l:List Nat}(h:QC all (i::l)):∀j∈jq all i,j ∉ i::l:=fun j hj hm=>by
 rcases List.mem_cons.1 hm with rfl|hm
 ·exact h.self j List.mem_cons_self hj
 ·exact(List.pairwise_cons.1 h.pw).1 j hm hj
theorem fo.done{n:Nat}{all:Array Oper}{ms rest bs l:List Nat}{i b:Nat}(h:fo n all ms rest bs (i::l))(hb:(ms.getD i 0).testBit b=true):b ∉ i::l:=by
 exact h.msk [] i l rfl b hb
theorem Sc{all:Array Oper}{l:List Nat}(he:jX 0 all.toList=true)(hL:QC all l):Ai (iN all.toList []) l:=fun l1 i l2 e b hb=>by
 subst e
 have hL2:QC all (i::l2):=by
  clear hb
  induction l1 with
  | nil=>exact hL
  | cons x l1 ih=>exact ih hL.tail
 exact ME he hL2 (hL2.lt i List.mem_cons_self) hL2.Md hb
end Go.Ev
namespace Go.Ev
section
variable {P:Program} {R:Type} {E:eB R} {w0:iP} {I0:Nat→Prop} {f0:FuncId} {Fin:R→Value→World→Prop} {Q:R→Prop}
variable {w:World} {S:St} {m:Mem} {fr:Frame} {fs:List bu} {frs cs:List Frame}
variable {fn:FuncId} {nn:Nat} {env:Env} {marks:List Nat} {cK:Option Nat} {k:List bH} {n:Nat}
theorem LL{a b:AV}{z:Value}(h:i7 a b)(hc:CR w S m a z):CR w S m b z:=by
 unfold i7 at h
 split at h
 ·subst h;exact c_.2 (c_.1 hc)
 ·obtain⟨rfl,rfl⟩:=h;exact bK.2 (bK.1 hc)
 ·subst h;exact hc
theorem Ec{A:aI}{s:ax}{aa:List AV}{v:AV}{m':Mem}(hp:lk (aa.flatMap AV.cells)=true)(h:(pn A s m aa).Is (v,m')):m'=m:=by
 unfold pn at h
 cases hok:cn s.args aa with
 | false=>rw[hok] at h;exact h.elim
 | true=>
   rw[hok,Bs hp] at h
   simp only at h
   cases htd:jT s.args (aa.flatMap AV.cells) with
   | none=>rw[htd] at h;exact h.elim
   | some q=>
     obtain⟨x,r⟩:=q
     rw[htd] at h
     cases r with
     | cons _ _=>exact h.elim
     | nil=>obtain⟨_,h⟩:=h;cases h;rfl
theorem U1(hP:Fits P E Fin w0 I0){all:Array Oper}{i:Nat}{l:List Nat}{kc:List Item}{o:Oper}{ρ:Operand→AV}{tv:TV AV}{v:AV}(hW:WR w0 w S m)(hm:fr.mode=.run)
  (ht:fr.todo=.inRegion all (i::l)::kc) (ho:all[i]? = some o) (hw:Region.wanted o (yielded all fr.tmps)=true) (hρ:∀x∈o.op.operands.toList,CR w S m (ρ x) (fr.eval x))
  (h:SF ah E m ρ o=some tv) (hv:tv.Is v) (cs:List Frame):∃w' S' z,Step w0 w S m w' S' m∧CR w' S' m v z∧Steps P (lone fr cs w) (lone (fr.finish z) cs w'):=by
 classical
 let ρ':Operand→AV:=fun x=>if x∈o.op.operands.toList then ρ x else .undef
 have hρ':∀x,CR w S m (ρ' x) (fr.eval x):=fun x=>by
  by_cases hx:x∈o.op.operands.toList
  ·simp only[ρ',if_pos hx];exact hρ x hx
  ·simp only[ρ',if_neg hx];exact dC
 have hsame:∀x∈o.op.operands.toList,ρ x=ρ' x:=fun x hx=>by simp only[ρ',if_pos hx]
 rw[wL hsame] at h
 unfold SF at h
 cases hev:nW ah E ρ' m o with
 | some tv'=>
   rw[hev] at h
   cases h
   obtain⟨z,hz,hc⟩:=xe hP.ti hW hρ' hev hv
   have hd:∀c,o.op≠.defer c:=fun c e=>by simp[nW,e] at hev
   exact⟨w,S,z,.refl hW,hc,.one (HV hm ht ho hw hd hz)⟩
 | none=>
   rw[hev] at h
   simp only at h
   unfold vn at h
   cases hop:o.op<;>rw[hop] at h<;>(try simp only at h)<;>try (cases h;done)
   rename_i c
   obtain⟨callee,args,ats⟩:=c
   cases callee<;>simp only at h<;>try (cases h;done)
   rename_i x
   have hd:∀c,o.op≠.defer c:=fun c e=>by rw[hop] at e;cases e
   have hx:=hρ' x
   have hargs:bC w S m (args.toList.map ρ') (args.map fr.eval).toList:=Dq hρ' args
   have hexec:∀nx,(do let d ←resolve fr.eval {callee:=.value x,args:=args,argTypes:=ats} o.type;invoke d.target d.args:Sem Next).run P w=.ok nx w→(execOp fr.eval o).run P w=.ok nx w:=fun nx he=>by
    simp only[execOp,hop];exact he
   cases hvx:ρ' x<;>rw[hvx] at h hx<;>(try simp only at h)<;>try (cases h;done)
   rename_i g first caps
   obtain⟨us,vs,hxe,hus,hvs⟩:=oT.1 hx
   have hall:bC w S m (first++(args.toList.map ρ'++caps)) (us++args.map fr.eval++vs).toList:=by
    rw[Array.append_assoc,Array.toList_append,Array.toList_append]
    exact hus.append (hargs.append hvs)
   cases hsp:look E.cZ g with
   | none=>rw[hsp] at h;cases h
   | some s=>
     rw[hsp] at h
     simp only at h
     cases hpl:lk ((first++(args.toList.map ρ'++caps)).flatMap AV.cells) with
     | false=>rw[hpl] at h;cases h
     | true=>
       rw[hpl] at h
       cases h
       obtain⟨⟨v',m'⟩,hv1,rfl⟩:=TV.wQ hv
       obtain rfl:=Ec hpl hv1
       obtain⟨F,hF,hb,hn⟩:=(hP.cZ g s hsp).body
       obtain⟨w',S',z,dL,hs,hc,hsteps,hleave⟩:=uu (hP.cZ g s hsp) (fun d=>(hP.nod d).1 g s hsp) hW hall hv1 (fr::cs)
       have hstep:=EE (cs:=cs) hm ht ho hw hd (hexec _ (jj hxe hF hn hb w))
       exact⟨w',S',z,hs,hc,(Steps.head hstep hsteps).trans (.one (step_leave_returned hleave))⟩
theorem tA{t:Nat}:∀{l:List Operand},Operand.tmp t∈l→t∈tmpsOf l
 | x::l,h=>by
   rcases List.mem_cons.1 h with rfl|h'
   ·exact List.mem_cons_self
   ·cases x<;>simp only[tmpsOf]
    ·exact List.mem_cons_of_mem _ (tA h')
    all_goals exact tA h'
theorem pH{all:Array Oper}{o:Oper}{t:Nat}(h:Operand.tmp t∈o.op.operands.toList):t∈readsOf all o:=ku.2 (.inl (tA h))
theorem jR{all:Array Oper}{o:Oper}{t:Nat}(h:t∈dO all o):t∈readsOf all o:=ku.2 (.inr h)
theorem u5{all:Array Oper}{ms rest bs l:List Nat}{i:Nat}{kc:List Item}{o:Oper}{f:bu}(hD:fo nn all ms rest bs (i::l))(hf:f.todo.head?.bind bH.drawn=some (all,bs))(ht:fr.todo=.inRegion all (i::l)::kc)
  (hro:∀b∈bs,i≠b→∀p d,all[b]? = some p→p.dst=some d→d∈readsOf all o→(ms.getD i 0).testBit b=true) (hown:i∈bs→∀d,∀p,all[i]? = some p→p.dst=some d→d ∉ readsOf all o) {t:Nat} (hr:t∈readsOf all o):¬Hid f fr t:=by
 rintro ⟨all',bs',l',k',b,p,e1,e2,e3,e4,e5,e6⟩
 rw[hf] at e1
 cases e1
 rw[ht] at e2
 cases e2
 by_cases hib:i=b
 ·subst hib;exact hown e3 t p e5 e6 hr
 ·exact hD.done (hro b e3 hib p t e5 e6 hr) e4
theorem fo.drop{all:Array Oper}{ms rest bs l:List Nat}{i:Nat}(h:fo nn all ms rest bs (i::l))(hi:i ∉ rest):fo nn all ms rest bs l:=by
 refine⟨h.msk.tail,(List.nodup_cons.1 h.YP).2,h.nodup,fun j hj=>?_,fun j hj=>h.cov j (List.mem_cons_of_mem _ hj),h.lt,h.read,h.dst,h.own,h.grd,h.YO⟩
 rcases List.mem_cons.1 (h.sub j hj) with rfl|hm
 ·exact absurd hj hi
 ·exact hm
theorem uf(hP:Fits P E Fin w0 I0){all:Array Oper}{ms rest bs:List Nat}(cs:List Frame)(hst:∀b∈bs,BG E env m all b):∀(l:List Nat) {w:World} {S:St} {fr:Frame} {kc:List Item},WR w0 w S m→FR w S m ⟨fn,nn,env,.fA all ms rest bs::k,marks,cK⟩ fr→
  fr.todo=.inRegion all l::kc→fo nn all ms rest bs l→cJ nn S k kc→
  ∃w' S' dL l' kc',Step w0 w S m w' S' m∧FR w' S' m ⟨fn,nn,env,.fA all ms rest bs::k,marks,cK⟩ dL∧Steps P (lone fr cs w) (lone dL cs w')∧dL.todo=.inRegion all l'::kc'∧fo nn all ms rest bs l'∧cJ nn S' k kc'∧(∀i,l'.head? = some i→i∈rest)∧dL.fn=fr.fn
 | [],w,S,fr,kc,hW,hf,ht,hD,hk=>⟨w,S,fr, [],kc,.refl hW,hf,.refl _ _,ht,hD,hk,fun i h=>(by cases h),rfl⟩
 | i::l,w,S,fr,kc,hW,hf,ht,hD,hk=>by
   by_cases hir:i∈rest
   ·exact⟨w,S,fr,i::l,kc,.refl hW,hf,.refl _ _,ht,hD,hk,fun j h=>(by cases h;exact hir),rfl⟩
   ·have hib:i∈bs:=(hD.cov i List.mem_cons_self).resolve_left hir
    obtain⟨o,ho,hg⟩:=hst i hib
    have hnh:∀{t:Nat},t∈readsOf all o→¬Hid ⟨fn,nn,env,.fA all ms rest bs::k,marks,cK⟩ fr t:=fun hr=>
     u5 hD rfl ht (fun b hb hne p d hp hd hr=>hD.read i hib b hb hne o p d ho hp hd hr) (fun _ d p hp hd=>by rw[ho] at hp;cases hp;exact hD.own i hib o d ho hd) hr
    have hop:∀x∈o.op.operands.toList,CR w S m (gU env x) (fr.eval x):=fun x hx=>vh hf x fun t e=>hnh (by subst e;exact pH hx)
    have hwant:∀{t:Bool},eZ all env o t→Region.wanted o (yielded all fr.tmps)=t:=fun hg=>mP hg fun d hd=>hf.env d (hnh (jR hd))
    have hdok:=hD.YO i hib o ho
    -- one operation,then on
    have main:∀{w1:World} {S1:St} {v:AV} {z:Value},Step w0 w S m w1 S1 m→CR w1 S1 m v z→o9 env o.dst v→Steps P (lone fr cs w) (lone (fr.finish z) cs w1)→
      ∃w' S' dL l' kc',Step w0 w S m w' S' m∧FR w' S' m ⟨fn,nn,env,.fA all ms rest bs::k,marks,cK⟩ dL∧Steps P (lone fr cs w) (lone dL cs w')∧dL.todo=.inRegion all l'::kc'∧fo nn all ms rest bs l'∧cJ nn S' k kc'∧(∀i,l'.head? = some i→i∈rest)∧dL.fn=fr.fn:=by
     intro w1 S1 v z hs hc hsd hsteps
     have hD':=hD.drop hir
     have hf1:=hf.mono hs.out
     have hk1:=cJ.mono hs.out hf.live.tail hk
     have hfin:=ol (z:=z) ht ho
     rw[hfin] at hsteps
     have hf2:FR w1 S1 m ⟨fn,nn,env,.fA all ms rest bs::k,marks,cK⟩ {fr with tmps:=BB fr.tmps o.dst z,todo:=.inRegion all l::kc}:=by
      refine⟨hf1.fn,wT.trans hf1.n,hf1.small,fun x hx=>?_,.mk (a:=.fA all ms rest bs) ⟨l,rfl,hD'⟩ hk1,hf1.live,hf1.flat,hf1.defers,hf1.marks,hf1.mode,hf1.kind,hf1.cK,hf1.nU⟩
      show CR w1 S1 m (env.at x) ((BB fr.tmps o.dst z).getD x undef)
      rw[GX (by rw[hf.n];exact hdok)]
      by_cases hdx:o.dst=some x
      ·rw[if_pos hdx]
       rw[hdx] at hsd
       exact LL hsd hc
      ·rw[if_neg hdx]
       refine hf1.env x fun hh=>hx ?_
       obtain⟨all',bs',l',k',b,p,e1,e2,e3,e4,e5,e6⟩:=hh
       cases e1
       rw[ht] at e2
       cases e2
       rcases List.mem_cons.1 e4 with rfl|e4
       ·rw[ho] at e5;cases e5;exact absurd e6 hdx
       ·exact⟨all,bs,l,kc,b,p,rfl,rfl,e3,e4,e5,e6⟩
     obtain⟨w',S',dL,l',kc',g1,g2,g3,g4,g5,g6,g7,g8⟩:=uf hP cs hst l hs.wr hf2 rfl hD' hk1
     exact⟨w',S',dL,l',kc',hs.trans g1,g2,hsteps.trans g3,g4,g5,g6,g7,g8⟩
    rcases hg with ⟨hg,hsd⟩|⟨hg,tv,v,hev,hv,hsd⟩
    ·exact main (.refl hW) (fC.2 ⟨#[],rfl,aL.2 rfl⟩) hsd (.one (CL hf.mode ht ho (hwant hg)))
    ·obtain⟨w1,S1,z,hs,hc,hsteps⟩:=U1 hP hW hf.mode ht ho (hwant hg) hop hev hv cs
     exact main hs hc hsd hsteps
end
end Go.Ev
namespace Go.Ev
theorem Fc{cZ:List (FuncId×ax)}{os:Array Oper}{ms is:List Nat}(h:kQ cZ os=some (ms,is)) :
  ms=iN os.toList []∧jX 0 os.toList=true∧is.Nodup∧(∀i∈is,i<os.size)∧∀i,i<os.size→i∈is:=by
 unfold kQ at h
 simp only at h
 split at h
 ·rename_i hc
  cases h
  rw[cd,cd,cd] at hc
  obtain⟨h1,h2,h3,h4⟩:=hc
  refine⟨rfl,h1,kS h2,fun i hi=>oX (List.all_eq_true.1 h3 i hi),fun i hi=>eF.1 (List.all_eq_true.1 h4 i (List.mem_range.2 hi))⟩
 ·cases h
theorem qx(v:AV):i7 v v:=by cases v<;>simp[i7]
theorem Gr{v:AV}{b:Bool}(h:i7 v (.bool false b)):i7 v (.bool true b):=by
 cases v<;>simp[i7] at h ⊢
 exact h
section
variable {P:Program} {R:Type} {E:eB R} {w0:iP} {I0:Nat→Prop} {f0:FuncId} {Fin:R→Value→World→Prop} {Q:R→Prop}
variable {w:World} {S:St} {m:Mem} {fr:Frame} {fs:List bu} {frs cs:List Frame}
variable {fn:FuncId} {nn:Nat} {env:Env} {marks:List Nat} {cK:Option Nat} {k:List bH} {n:Nat}
theorem Mt{G:eD→Prop}{all:Array Oper}{bs:List Nat}{o:Oper}{yes no:Env→Tr R}(h:Tr.Ok Q G (IJ all bs env o yes no))(hs:∀d∈dO all o,∀c v,env.at d=.bool c v→d≤65535) :
  ∃env':Env,yq env env' (dO all o)∧((∀x,env'.at x=env.at x)∨∀d∈dO all o,rv all bs d=true)∧((eZ all env' o true∧Tr.Ok Q G (yes env'))∨(eZ all env' o false∧Tr.Ok Q G (no env'))):=by
 unfold IJ at h
 cases hk:kZ all env o with
 | some t=>
   rw[hk] at h
   refine⟨env,fun _=>.inl rfl,.inl fun _=>rfl,?_⟩
   cases t with
   | true=>exact .inl ⟨lg hk,h⟩
   | false=>exact .inr ⟨lg hk,h⟩
 | none=>
   rw[hk] at h
   simp only at h
   split at h
   ·rename_i d hd
    cases hn:rv all bs d with
    | false=>rw[hn] at h;exact h.elim
    | true=>
      rw[hn] at h
      obtain⟨env',h1,h2⟩:=Bh h hs
      exact⟨env',h1,.inr fun x hx=>by rw[hd] at hx;rw[List.mem_singleton.1 hx];exact hn,h2⟩
   ·exact h.elim
theorem eZ.congr{all:Array Oper}{env':Env}{o:Oper}{t:Bool}(h:eZ all env o t)(he:∀x∈dO all o,env'.at x=env.at x):eZ all env' o t:=by
 unfold eZ at h ⊢
 unfold dO at he
 cases hg:o.guard with
 | none=>rw[hg] at h;exact h
 | some q=>
   obtain⟨j,want⟩:=q
   rw[hg] at h he
   simp only at h he ⊢
   obtain⟨p,d,hp,hd,h⟩:=h
   rw[hp] at he
   simp only[hd] at he
   refine⟨p,d,hp,hd,?_⟩
   rw[he d List.mem_cons_self]
   exact h
theorem zI{env':Env}{x:Operand}(h:∀t,x=.tmp t→env'.at t=env.at t):gU env' x=gU env x:=by
 cases x with
 | tmp t=>exact h t rfl
 | const v=>rfl
 | global g=>rfl
 | func f=>rfl
theorem BG.congr{all:Array Oper}{env':Env}{b:Nat}(h:BG E env m all b)(he:∀o,all[b]? = some o→(∀x∈readsOf all o,env'.at x=env.at x)∧∀v d,o.dst=some d→i7 v (env.at d)→i7 v (env'.at d)):BG E env' m all b:=by
 obtain⟨o,ho,h⟩:=h
 obtain⟨h1,h2⟩:=he o ho
 have hd:∀v,o9 env o.dst v→o9 env' o.dst v:=fun v hv=>by
  cases hod:o.dst with
  | none=>trivial
  | some d=>rw[hod] at hv;exact h2 v d hod hv
 refine⟨o,ho,?_⟩
 rcases h with ⟨hg,hs⟩|⟨hg,tv,v,hev,hv,hs⟩
 ·exact .inl ⟨hg.congr fun x hx=>h1 x (jR hx),hd _ hs⟩
 ·refine .inr ⟨hg.congr fun x hx=>h1 x (jR hx),tv,v,?_,hv,hd _ hs⟩
  rw[←hev]
  exact wL fun x hx=>zI fun t e=>h1 t (by subst e;exact pH hx)
theorem A7(hP:Fits P E Fin w0 I0){id:Nat}{os:Array Oper}{ms is:List Nat}(hd:kQ E.cZ os=some (ms,is))
  (hg:Good P E w0 I0 f0 Fin Q {frames:=⟨fn,nn,env,.fA os ms is []::k,marks,cK⟩::fs,mem:=m})
  (hW:WR w0 w S m) (hI:∀b,S.I b→I0 b∨w0.free b) (hf:FR w S m ⟨fn,nn,env,.code (.region id os true)::k,marks,cK⟩ fr) (hfs:Ax w S m fs frs) (hB:ta f0 (⟨fn,nn,env,.code (.region id os true)::k,marks,cK⟩::fs)) :
  Ends P f0 Fin Q fr frs cs w:=by
 obtain⟨it,kc,ht,h1,h2⟩:=hf.todo.cons_inv
 have h1:it=.code (.region id os true):=h1
 subst h1
 have hnh:∀y,¬Hid ⟨fn,nn,env,.code (.region id os true)::k,marks,cK⟩ fr y:=fun y=>jm fun a ha=>by cases ha;rfl
 obtain⟨g1,g2,g3,g4,g5⟩:=Fc hd
 have hstep:=IY (P:=P) (cs:=frs++cs) (w:=w) hf.mode ht
 rw[hP.mixed] at hstep
 obtain⟨hL,hall⟩:=E2 g2 (w.tape w.drawn (.order fr.fn id))
 have hs:=Step.drew hW
 have hf1:=hf.mono hs.out
 refine .step hstep (hg (fun b hb=>absurd hb List.not_mem_nil) S _ _ cs _ hs.wr hI ⟨_,_,rfl,?_,hfs.mono hs.out⟩ (hB.swap rfl))
 refine⟨hf1.fn,hf1.n,hf1.small,fun x _=>hf1.env x (fun hh=>hnh x hh),.mk (a:=.fA os ms is []) ⟨_,rfl,?_⟩ (cJ.mono hs.out hf.live.tail h2),.mk trivial hf1.live.tail,hf1.flat,hf1.defers,hf1.marks,hf1.mode,hf1.kind,hf1.cK,hf1.nU⟩
 exact⟨g1▸Sc g2 hL,hL.nodup,by rw[List.append_nil];exact g3,fun i hi=>hall i (g4 i hi),fun i hi=>.inl (g5 i (hL.lt i hi)),fun _ h=>absurd h List.not_mem_nil,fun _ h=>absurd h List.not_mem_nil,fun _ h=>absurd h List.not_mem_nil,fun _ h=>absurd h List.not_mem_nil,
  fun _ h=>absurd h List.not_mem_nil,fun _ h=>absurd h List.not_mem_nil⟩
theorem Fq(hP:Fits P E Fin w0 I0)(hcan:∀ks f fs m,(∀a∈f.todo.head?,a.B6=false)→Good P E w0 I0 f0 Fin Q (canon E.keep ks {frames:=f::fs,mem:=m})→Good P E w0 I0 f0 Fin Q {frames:=f::fs,mem:=m})
  (ih:∀c,Tr.Ok Q (Good P E w0 I0 f0 Fin Q) (run ah E n c)→Good P E w0 I0 f0 Fin Q c) {id:Nat} {os:Array Oper}
  (h:Tr.Ok Q (Good P E w0 I0 f0 Fin Q) (run ah E (n+1) {frames:=⟨fn,nn,env,.code (.region id os true)::k,marks,cK⟩::fs,mem:=m}))
  (hst:nX E {frames:=⟨fn,nn,env,.code (.region id os true)::k,marks,cK⟩::fs,mem:=m})
  (hW:WR w0 w S m) (hI:∀b,S.I b→I0 b∨w0.free b) (hf:FR w S m ⟨fn,nn,env,.code (.region id os true)::k,marks,cK⟩ fr) (hfs:Ax w S m fs frs) (hB:ta f0 (⟨fn,nn,env,.code (.region id os true)::k,marks,cK⟩::fs)) :
  Ends P f0 Fin Q fr frs cs w:=by
 simp only[run] at h
 cases hcut:wP E.dd fn (some id) with
 | some ks=>rw[hcut] at h;exact hcan ks _ _ _ (fun a ha=>by cases ha;rfl) h hst S fr frs cs w hW hI ⟨fr,frs,rfl,hf,hfs⟩ hB
 | none=>
   rw[hcut] at h
   simp only at h
   cases hd:kQ E.cZ os with
   | none=>rw[hd] at h;exact h.elim
   | some q=>
     obtain⟨ms,is⟩:=q
     rw[hd] at h
     simp only at h
     exact A7 hP hd (ih _ h) hW hI hf hfs hB
theorem Mr(hP:Fits P E Fin w0 I0)(ih:∀c,Tr.Ok Q (Good P E w0 I0 f0 Fin Q) (run ah E n c)→Good P E w0 I0 f0 Fin Q c){all:Array Oper}{ms bs:List Nat}
  (h:Tr.Ok Q (Good P E w0 I0 f0 Fin Q) (run ah E (n+1) {frames:=⟨fn,nn,env,.fA all ms [] bs::k,marks,cK⟩::fs,mem:=m}))
  (hst:∀b∈bs,BG E env m all b)
  (hW:WR w0 w S m) (hI:∀b,S.I b→I0 b∨w0.free b) (hf:FR w S m ⟨fn,nn,env,.fA all ms [] bs::k,marks,cK⟩ fr) (hfs:Ax w S m fs frs) (hB:ta f0 (⟨fn,nn,env,.fA all ms [] bs::k,marks,cK⟩::fs)) :
  Ends P f0 Fin Q fr frs cs w:=by
 obtain⟨it,kc,ht,h1,h2⟩:=hf.todo.cons_inv
 obtain⟨l,rfl,hD⟩:∃l:List Nat,it=.inRegion all l∧fo nn all ms [] bs l:=h1
 simp only[run] at h
 obtain⟨w',S',dL,l',kc',hs,hf',hsteps,ht',hD',hk',hhead,_⟩:=uf hP (frs++cs) hst l hW hf ht hD h2
 cases l' with
 | cons i l'=>exact absurd (hhead i rfl) List.not_mem_nil
 | nil=>
   refine .steps (hsteps.trans (.one (zM hf'.mode ht'))) (ih _ h (df fun a ha=>hf.flat a (List.mem_of_mem_head? ha)) S' _ _ cs _ hs.wr (fun b hb=>(hs.grows b hb).elim (hI b) .inr) ⟨_,_,rfl,hf'.next ?_ hk' hf'.live.tail (fun a ha=>hf.flat a (List.mem_of_mem_tail ha)),hfs.mono hs.out⟩ (hB.swap rfl))
   rintro x ⟨all',bs',l',k',b,p,e1,e2,e3,e4,e5,e6⟩
   rw[ht'] at e2
   cases e2
   exact absurd e4 List.not_mem_nil
theorem s9{all:Array Oper}{bs:List Nat}{d b:Nat}{o:Oper}(h:rv all bs d=true)(hb:b∈bs)(ho:all[b]? = some o):d ∉ readsOf all o:=by
 have:=List.all_eq_true.1 h b hb
 rw[ho] at this
 simp only[Bool.not_eq_true'] at this
 intro hm
 rw[eF.2 hm] at this
 cases this
theorem wN{all:Array Oper}{bs:List Nat}{d b:Nat}{o:Oper}(h:Hz all bs d=true)(hb:b∈bs)(ho:all[b]? = some o):o.dst≠some d:=by
 have:=List.all_eq_true.1 h b hb
 rw[ho] at this
 simp only[Bool.not_eq_true'] at this
 intro e
 rw[e] at this
 simp only[isDst,aY.2] at this
 cases this
theorem oQ{all:Array Oper}{bs:List Nat}{o:Oper}{d:Nat}(h:oi all bs o.dst=true)(hd:o.dst=some d):rv all bs d=true∧Hz all bs d=true:=by
 rw[hd] at h
 simpa [oi] using h
theorem Gt{all:Array Oper}{o:Oper}{d:Nat}(h:yY all o=true)(hd:o.dst=some d):d ∉ readsOf all o:=by
 unfold yY at h
 rw[hd] at h
 simp only[Bool.not_eq_true'] at h
 intro hm
 rw[eF.2 hm] at h
 cases h
theorem Jx{all:Array Oper}{mk:Nat}{bs:List Nat}{o:Oper}(h:Rt all mk bs o=true){b:Nat}(hb:b∈bs){p:Oper}{d:Nat}(hp:all[b]? = some p)(hd:p.dst=some d)(hr:d∈readsOf all o):mk.testBit b=true:=by
 have:=List.all_eq_true.1 h b hb
 rw[hp] at this
 simp only[hd,eF.2 hr] at this
 simpa using this
theorem fo.add{all:Array Oper}{ms rest bs l:List Nat}{i:Nat}{o:Oper}(h:fo nn all ms (i::rest) bs l)(ho:all[i]? = some o)(hd:kG nn o.dst=true)(hord:Rt all (ms.getD i 0) bs o=true)(hg:rF (ms.getD i 0) o=true)
  (hfr:oi all bs o.dst=true) (hown:yY all o=true):fo nn all ms rest (i::bs) l:=by
 have hnd:=h.nodup
 rw[List.cons_append] at hnd
 have hn:=List.nodup_cons.1 hnd
 refine⟨h.msk,h.YP,?_,fun j hj=>h.sub j (List.mem_cons_of_mem _ hj),fun j hj=>?_,fun j hj=>?_,?_,?_,?_,?_,?_⟩
 ·exact(List.perm_middle.nodup_iff).2 hnd
 ·rcases h.cov j hj with hm|hm
  ·rcases List.mem_cons.1 hm with rfl|hm
   ·exact .inr List.mem_cons_self
   ·exact .inl hm
  ·exact .inr (List.mem_cons_of_mem _ hm)
 ·rcases List.mem_cons.1 hj with rfl|hj
  ·exact(Array.getElem?_eq_some_iff.1 ho).1
  ·exact h.lt j hj
 ·intro a ha b hb hne oa p d hoa hp hpd hr
  rcases List.mem_cons.1 ha with rfl|ha'
  ·rcases List.mem_cons.1 hb with rfl|hb'
   ·exact absurd rfl hne
   ·rw[ho] at hoa;cases hoa
    exact Jx hord hb' hp hpd hr
  ·rcases List.mem_cons.1 hb with rfl|hb'
   ·rw[ho] at hp;cases hp
    exact absurd hr (s9 (oQ hfr hpd).1 ha' hoa)
   ·exact h.read a ha' b hb' hne oa p d hoa hp hpd hr
 ·intro a ha b hb hne oa p d hoa hp hpd
  rcases List.mem_cons.1 ha with rfl|ha'
  ·rcases List.mem_cons.1 hb with rfl|hb'
   ·exact absurd rfl hne
   ·rw[ho] at hoa;cases hoa
    intro e
    exact wN (oQ hfr e).2 hb' hp hpd
  ·rcases List.mem_cons.1 hb with rfl|hb'
   ·rw[ho] at hp;cases hp
    exact wN (oQ hfr hpd).2 ha' hoa
   ·exact h.dst a ha' b hb' hne oa p d hoa hp hpd
 ·intro a ha oa d hoa hd
  rcases List.mem_cons.1 ha with rfl|ha
  ·rw[ho] at hoa;cases hoa;exact Gt hown hd
  ·exact h.own a ha oa d hoa hd
 ·intro a ha oa hoa
  rcases List.mem_cons.1 ha with rfl|ha
  ·rw[ho] at hoa;cases hoa;exact hg
  ·exact h.grd a ha oa hoa
 ·intro a ha oa hoa
  rcases List.mem_cons.1 ha with rfl|ha
  ·rw[ho] at hoa;cases hoa;exact hd
  ·exact h.YO a ha oa hoa
theorem sW{j:Nat}{rest:List Nat}:∀{ms:List Nat} {k i b:Nat},(((oo j rest k ms).getD i 0).testBit b=true→(ms.getD i 0).testBit b=true∨(b=j∧k+i∈rest∧k+i≠j))∧((ms.getD i 0).testBit b=true→((oo j rest k ms).getD i 0).testBit b=true)
 | [],k,i,b=>by rw[oo];exact⟨.inl,id⟩
 | m::ms,k,0,b=>by
   rw[oo]
   simp only[List.getD_cons_zero]
   cases hc:nv rest k && !Nat.beq k j with
   | false=>exact⟨.inl,id⟩
   | true=>
     rw[cd,Bool.not_eq_true'] at hc
     refine⟨fun h=>?_,fun h=>?_⟩
     ·rw[Nat.testBit_or,Bool.or_eq_true] at h
      rcases h with h|h
      ·exact .inl h
      ·refine .inr ⟨?_,eF.1 hc.1,fun e=>?_⟩
       ·rw[Nat.testBit_two_pow] at h;exact(of_decide_eq_true h).symm
       ·rw[Nat.add_zero] at e
        rw[aY.2 e] at hc;cases hc.2
     ·show(m ||| 2^j).testBit b=true
      rw[Nat.testBit_or,h];rfl
 | m::ms,k,i+1,b=>by
   rw[oo]
   simp only[List.getD_cons_succ]
   have:=sW (j:=j) (rest:=rest) (ms:=ms) (k:=k+1) (i:=i) (b:=b)
   rw[show k+(i+1)=k+1+i by omega]
   exact this
theorem v8{j x:Nat}:∀{l:List Nat},(x∈oK l j→x∈l)∧(x∈l→x=j∨x∈oK l j)
 | []=>by rw[oK];exact⟨id,fun h=>.inr h⟩
 | i::l=>by
   have ih:=v8 (j:=j) (x:=x) (l:=l)
   rw[oK]
   by_cases e:i=j
   ·rw[aY.2 e]
    exact⟨List.mem_cons_of_mem _,fun h=>(List.mem_cons.1 h).elim (fun h=>.inl (h.trans e)) .inr⟩
   ·rw[bq.2 e]
    refine⟨fun h=>?_,fun h=>?_⟩
    ·rcases List.mem_cons.1 h with rfl|h
     ·exact List.mem_cons_self
     ·exact List.mem_cons_of_mem _ (ih.1 h)
    ·rcases List.mem_cons.1 h with rfl|h
     ·exact .inr List.mem_cons_self
     ·exact(ih.2 h).imp id (List.mem_cons_of_mem _)
theorem fo.next{cZ:List (FuncId×ax)}{all:Array Oper}{ms rest bs l ms' is:List Nat}{j:Nat}(h:fo nn all ms rest bs (j::l))(hj:j∈rest)(hn:FP cZ all ms rest j=some (ms',is)) :
  fo nn all ms' is bs (j::l):=by
 unfold FP at hn
 simp only at hn
 split at hn
 case h_2=>cases hn
 rename_i hc
 cases hn
 rw[cd,cd] at hc
 obtain⟨h1,h2,h3⟩:=hc
 have hin:∀x,x∈j::eager cZ all (oo j rest 0 ms) (oK rest j).length (Kk (oK rest j)) (oK rest j)→x∈rest:=fun x hx=>by
  rcases List.mem_cons.1 hx with rfl|hx
  ·exact hj
  ·exact v8.1 (eF.1 (List.all_eq_true.1 h2 x hx))
 have hout:∀x,x∈rest→x∈j::eager cZ all (oo j rest 0 ms) (oK rest j).length (Kk (oK rest j)) (oK rest j):=fun x hx=>by
  rcases (v8 (j:=j)).2 hx with rfl|hx
  ·exact List.mem_cons_self
  ·exact List.mem_cons_of_mem _ (eF.1 (List.all_eq_true.1 h3 x hx))
 have hup:∀i b,(ms.getD i 0).testBit b=true→((oo j rest 0 ms).getD i 0).testBit b=true:=fun i b=>sW.2
 have hnd:=List.nodup_append.1 h.nodup
 refine⟨fun l1 i l2 e b hb=>?_,h.YP,?_,fun x hx=>h.sub x (hin x hx),fun x hx=>(h.cov x hx).imp (hout x) id,h.lt,fun i hi b hb hne o p d ho hp hd hr=>hup _ _ (h.read i hi b hb hne o p d ho hp hd hr),h.dst,h.own,fun i hi o ho=>?_,h.YO⟩
 ·rcases sW.1 hb with hb|⟨rfl,_,hne⟩
  ·exact h.msk l1 i l2 e b hb
  ·rw[Nat.zero_add] at hne
   cases l1 with
   | nil=>cases e;exact absurd rfl hne
   | cons x l1=>
     cases e
     intro hm
     exact(List.nodup_cons.1 h.YP).1 (ku.2 (.inr hm))
 ·refine List.nodup_append.2 ⟨kS h1,hnd.2.1,fun a ha b hb=>hnd.2.2 a (hin a ha) b hb⟩
 ·have:=h.grd i hi o ho
  unfold rF at this ⊢
  split
  ·rfl
  ·rename_i q1 q2 hq
   rw[hq] at this
   exact hup _ _ this
theorem Hd{G:eD→Prop}{K:Nat→Tr R}:∀{l:List Nat},Tr.Ok Q G (Gh K l)→∀j∈l,Tr.Ok Q G (K j)
 | [],_,_,h=>absurd h List.not_mem_nil
 | [i],h,j,hj=>by rw[List.mem_singleton.1 hj];exact h
 | i::i2::l,h,j,hj=>by
   obtain⟨h1,h2⟩:Tr.Ok Q G (K i)∧Tr.Ok Q G (Gh K (i2::l)):=h
   rcases List.mem_cons.1 hj with rfl|hj
   ·exact h1
   ·exact Hd h2 j hj
theorem fo.cut{all:Array Oper}{ms rest bs l:List Nat}{i:Nat}(h:fo nn all ms rest bs (i::l)):fo nn all ms rest (mT (ms.getD i 0) bs) (i::l):=by
 have hsub:∀b∈mT (ms.getD i 0) bs,b∈bs:=fun b hb=>(List.mem_filter.1 hb).1
 refine⟨h.msk,h.YP,?_,h.sub,fun j hj=>?_,fun j hj=>h.lt j (hsub j hj),fun a ha b hb=>h.read a (hsub a ha) b (hsub b hb),fun a ha b hb=>h.dst a (hsub a ha) b (hsub b hb),fun a ha=>h.own a (hsub a ha),fun a ha=>h.grd a (hsub a ha),fun a ha=>h.YO a (hsub a ha)⟩
 ·exact h.nodup.sublist (List.Sublist.append_left List.filter_sublist rest)
 ·rcases h.cov j hj with hm|hm
  ·exact .inl hm
  ·refine .inr (List.mem_filter.2 ⟨hm,?_⟩)
   cases hb:(ms.getD i 0).testBit j with
   | false=>rfl
   | true=>exact absurd hj (h.done hb)
end
end Go.Ev
namespace Go.Ev
section
variable {P:Program} {R:Type} {E:eB R} {w0:iP} {I0:Nat→Prop} {f0:FuncId} {Fin:R→Value→World→Prop} {Q:R→Prop}
variable {w:World} {S:St} {m:Mem} {fr:Frame} {fs:List bu} {frs cs:List Frame}
variable {fn:FuncId} {nn:Nat} {env:Env} {marks:List Nat} {cK:Option Nat} {k:List bH} {n:Nat}
theorem Px(ih:∀c,Tr.Ok Q (Good P E w0 I0 f0 Fin Q) (run ah E n c)→Good P E w0 I0 f0 Fin Q c){all:Array Oper}{ms rest bs l:List Nat}{i:Nat}{o:Oper}{kc:List Item}{v:AV}
  (h:Tr.Ok Q (Good P E w0 I0 f0 Fin Q) (run ah E n {frames:=⟨fn,nn,env.iK o.dst v,.fA all ms rest (i::bs)::k,marks,cK⟩::fs,mem:=m}))
  (ho:all[i]? = some o) (hdok:kG nn o.dst=true) (hord:Rt all (ms.getD i 0) bs o=true) (hg:rF (ms.getD i 0) o=true) (hfr:oi all bs o.dst=true) (hown:yY all o=true)
  (hst:∀b∈bs,BG E env m all b) (hi:(eZ all env o false∧v=.qS [])∨(eZ all env o true∧∃tv,SF ah E m (gU env) o=some tv∧tv.Is v))
  (hW:WR w0 w S m) (hI:∀b,S.I b→I0 b∨w0.free b) (hf:FR w S m ⟨fn,nn,env,.fA all ms (i::rest) bs::k,marks,cK⟩ fr) (hfs:Ax w S m fs frs) (hB:ta f0 (⟨fn,nn,env,.fA all ms (i::rest) bs::k,marks,cK⟩::fs))
  (ht:fr.todo=.inRegion all l::kc) (hD:fo nn all ms (i::rest) bs l) (hk:cJ nn S k kc):Ends P f0 Fin Q fr frs cs w:=by
 have hsm:nn≤65535:=hf.small
 have hput:∀x,o.dst≠some x→(env.iK o.dst v).at x=env.at x:=fun x hx=>by rw[Env.D_ hdok hsm,if_neg hx]
 have hself:∀x,o.dst=some x→(env.iK o.dst v).at x=v:=fun x hx=>by rw[Env.D_ hdok hsm,if_pos hx]
 have hreads:∀x∈readsOf all o,(env.iK o.dst v).at x=env.at x:=fun x hx=>hput x fun e=>Gt hown e hx
 have hsd:o9 (env.iK o.dst v) o.dst v:=by
  cases hd:o.dst with
  | none=>trivial
  | some d=>show i7 v ((env.iK (some d) v).at d);rw[←hd,hself d hd];exact qx v
 refine ih _ h (fun b hb=>?_) S fr frs cs w hW hI ⟨fr,frs,rfl,?_,hfs⟩ (hB.swap rfl)
 ·rcases List.mem_cons.1 hb with rfl|hb'
  ·refine⟨o,ho,?_⟩
   rcases hi with ⟨h1,rfl⟩|⟨h1,tv,h2,h3⟩
   ·exact .inl ⟨h1.congr fun x hx=>hreads x (jR hx),hsd⟩
   ·refine .inr ⟨h1.congr fun x hx=>hreads x (jR hx),tv,v,?_,h3,hsd⟩
    rw[←h2]
    exact wL fun x hx=>zI fun t e=>hreads t (by subst e;exact pH hx)
  ·refine(hst b hb').congr fun p hp=>⟨fun x hx=>hput x fun e=>s9 (oQ hfr e).1 hb' hp hx,fun u d hd hs=>?_⟩
   rw[hput d fun e=>wN (oQ hfr e).2 hb' hp hd]
   exact hs
 ·have hil:i∈l:=hD.sub i List.mem_cons_self
  refine⟨hf.fn,hf.n,hf.small,fun x hx=>?_,by rw[ht];exact .mk (a:=.fA all ms rest (i::bs)) ⟨l,rfl,hD.add ho hdok hord hg hfr hown⟩ hk,.mk trivial hf.live.tail,hf.flat,hf.defers,hf.marks,hf.mode,hf.kind,hf.cK,hf.nU⟩
  have hne:o.dst≠some x:=fun e=>hx ⟨all,i::bs,l,kc,i,o,rfl,ht,List.mem_cons_self,hil,ho,e⟩
  show CR w S m ((env.iK o.dst v).at x) (fr.tmps.getD x undef)
  rw[hput x hne]
  refine hf.env x fun hh=>hx ?_
  obtain⟨all',bs',l',k',b,p,e1,e2,e3,e4,e5,e6⟩:=hh
  cases e1
  exact⟨all,i::bs,l',k',b,p,rfl,e2,List.mem_cons_of_mem _ e3,e4,e5,e6⟩
theorem Pn(hP:Fits P E Fin w0 I0)(ih:∀c,Tr.Ok Q (Good P E w0 I0 f0 Fin Q) (run ah E n c)→Good P E w0 I0 f0 Fin Q c){all:Array Oper}{ms rest bs:List Nat}{i:Nat}
  (h:Tr.Ok Q (Good P E w0 I0 f0 Fin Q) (run ah E (n+1) {frames:=⟨fn,nn,env,.fA all ms (i::rest) bs::k,marks,cK⟩::fs,mem:=m}))
  (hst:∀b∈bs,BG E env m all b)
  (hW:WR w0 w S m) (hI:∀b,S.I b→I0 b∨w0.free b) (hf:FR w S m ⟨fn,nn,env,.fA all ms (i::rest) bs::k,marks,cK⟩ fr) (hfs:Ax w S m fs frs) (hB:ta f0 (⟨fn,nn,env,.fA all ms (i::rest) bs::k,marks,cK⟩::fs)) :
  Ends P f0 Fin Q fr frs cs w:=by
 obtain⟨it,kc,ht,h1,h2⟩:=hf.todo.cons_inv
 obtain⟨l,rfl,hD⟩:∃l:List Nat,it=.inRegion all l∧fo nn all ms (i::rest) bs l:=h1
 have hsm:nn≤65535:=hf.small
 simp only[run] at h
 cases ho:all[i]? with
 | none=>rw[ho] at h;exact h.elim
 | some o=>
   rw[ho] at h
   simp only at h
   cases hck:kG nn o.dst&&(Rt all (ms.getD i 0) bs o&&rF (ms.getD i 0) o) with
   | false=>rw[hck] at h;exact h.elim
   | true=>
     rw[hck] at h
     simp only at h
     rw[cd,cd] at hck
     obtain⟨hdok,hord,hgok⟩:=hck
     have hsmall:∀d∈dO all o,∀c v,env.at d=.bool c v→d≤65535:=fun d _ c v e=>by
      by_cases hh:Hid ⟨fn,nn,env,.fA all ms (i::rest) bs::k,marks,cK⟩ fr d
      ·obtain⟨all',bs',l',k',b,p,e1,e2,e3,e4,e5,e6⟩:=hh
       cases e1
       have:=hD.YO b e3 p e5
       rw[e6] at this
       have:d<nn:=oX this
       omega
      ·have:=PE hf hh e
       omega
     obtain⟨env',hre,hnr,h⟩:=Mt h hsmall
     have hst':∀b∈bs,BG E env' m all b:=fun b hb=>(hst b hb).congr fun p hp=>by
      rcases hnr with heq|hnr
      ·exact⟨fun x _=>heq x,fun v d _ hs=>by rw[heq d];exact hs⟩
      ·refine⟨fun x hx=>?_,fun v d _ hs=>?_⟩
       ·rcases hre x with e|⟨hxg,_⟩
        ·exact e
        ·exact absurd hx (s9 (hnr x hxg) hb hp)
       ·rcases hre d with e|⟨_,b',e1,e2⟩
        ·rw[e];exact hs
        ·rw[e2];rw[e1] at hs;exact Gr hs
     have hf':=hf.JQ (D:=dO all o) hre
     rcases h with ⟨hg,h⟩|⟨hg,h⟩
     ·-- wanted
      have eff:Tr.Ok Q (Good P E w0 I0 f0 Fin Q) (match rest.all (fun j=>(ms.getD j 0).testBit i) with
           | false=>Gh (fun j=>match FP E.cZ all ms (i::rest) j with
              | some (ms',is)=>run ah E n {frames:=⟨fn,nn,env',.fA all ms' is bs::k,marks,cK⟩::fs,mem:=m}
              | none=>.bad 180 o.pos) ((i::rest).filter (Iq ms (i::rest)))
           | true=>match oi all (mT (ms.getD i 0) bs) o.dst with
            | false=>.bad 178 o.pos
            | true=>
              match nW ah E (gU env') m o with
              | some tv=>tv.bind o.pos fun v=>re ah E (env'.iK o.dst v) m all (mT (ms.getD i 0) bs) (run ah E n {frames:=⟨fn,nn,env'.iK o.dst v,.fA all ms rest (mT (ms.getD i 0) bs)::k,marks,cK⟩::fs,mem:=m})
              | none=>match o.op with
                | .call {callee:=.value x,args,.. }=>match gU env' x with
                  | .fn g first caps=>match look E.cZ g with
                    | some s=>(pn ah s m (first++(args.toList.map (gU env')++caps))).bind o.pos fun p=>re ah E (env'.iK o.dst p.1) p.2 all (mT (ms.getD i 0) bs) (run ah E n {frames:=⟨fn,nn,env'.iK o.dst p.1,.fA all ms rest (mT (ms.getD i 0) bs)::k,marks,cK⟩::fs,mem:=p.2})
                    | none=>match mR ah E g m (first++(args.toList.map (gU env')++caps)) with
                     | some tv=>tv.bind o.pos fun p=>re ah E (env'.iK o.dst p.1) p.2 all (mT (ms.getD i 0) bs) (run ah E n {frames:=⟨fn,nn,env'.iK o.dst p.1,.fA all ms rest (mT (ms.getD i 0) bs)::k,marks,cK⟩::fs,mem:=p.2})
                     | none=>match look E.dx g with
                      | none=>.bad 163 o.pos
                      | some G=>match dV g G (first++(args.toList.map (gU env')++caps)) with
                        | none=>.bad 164 o.pos
                        | some h=>run ah E n {frames:=h::⟨fn,nn,env',.qh all ms i rest (mT (ms.getD i 0) bs)::k,marks,cK⟩::fs,mem:=m}
                  | .yield l=>match m.at l with
                     | .loop r=>match Nat.beq r.params.length (args.toList.map (gU env')).length&&r.params.all (fun p=>Nat.blt p r.n) with
                       | true=>run ah E n {frames:={fn:=r.fn,n:=r.n,env:=tq r.params (args.toList.map (gU env')) r.env,todo:=[.code r.assign,.beginRound,.code r.body],marks:=[],cK:=some l}::⟨fn,nn,env',.qh all ms i rest (mT (ms.getD i 0) bs)::k,marks,cK⟩::fs,mem:=m}
                       | false=>.bad 165 o.pos
                     | _=>.bad 166 o.pos
                  | _=>.bad 167 o.pos
                | _=>(qI ah E fn (gU env') m o).bind o.pos fun p=>re ah E (env'.iK o.dst p.1) p.2 all (mT (ms.getD i 0) bs) (run ah E n {frames:=⟨fn,nn,env'.iK o.dst p.1,.fA all ms rest (mT (ms.getD i 0) bs)::k,marks,cK⟩::fs,mem:=p.2}))→Ends P f0 Fin Q fr frs cs w:=by
       intro h
       cases hck1:rest.all (fun j=>(ms.getD j 0).testBit i) with
       | false=>
         rw[hck1] at h
         simp only at h
         obtain⟨w1,S1,fr1,l1,kc1,hs1,hf1,hsteps1,ht1,hD1,hk1,hhead,hfn1⟩:=uf hP (frs++cs) hst l hW hf ht hD h2
         have hil:i∈l1:=hD1.sub i List.mem_cons_self
         cases l1 with
         | nil=>exact absurd hil List.not_mem_nil
         | cons j l1=>
           have hj:=hhead j rfl
           have hrd:Iq ms (i::rest) j=true:=List.all_eq_true.2 fun b hb=>by
            rw[Bool.not_eq_true']
            cases hbt:(ms.getD j 0).testBit b with
            | false=>rfl
            | true=>exact absurd (hD1.sub b hb) (hD1.done hbt)
           have h:=Hd h j (List.mem_filter.2 ⟨hj,hrd⟩)
           cases hnx:FP E.cZ all ms (i::rest) j with
           | none=>rw[hnx] at h;exact h.elim
           | some q=>
             obtain⟨ms',is⟩:=q
             rw[hnx] at h
             have hf1':=hf1.JQ (D:=dO all o) hre
             refine .steps hsteps1 (ih _ h hst' S1 _ _ cs w1 hs1.wr (fun b hb=>(hs1.grows b hb).elim (hI b) .inr) ⟨_,_,rfl,?_,hfs.mono hs1.out⟩ (hB.swap rfl))
             refine⟨hf1'.fn,hf1'.n,hf1'.small,fun x hx=>hf1'.env x fun hh=>hx ?_,by rw[ht1];exact .mk (a:=.fA all ms' is bs) ⟨_,rfl,hD1.next hj hnx⟩ hk1,.mk trivial hf1'.live.tail,hf1'.flat,hf1'.defers,hf1'.marks,hf1'.mode,hf1'.kind,hf1'.cK,hf1'.nU⟩
             obtain⟨all',bs',l',k',b,p,e1,e2,e3,e4,e5,e6⟩:=hh
             cases e1
             exact⟨all,bs,l',k',b,p,rfl,e2,e3,e4,e5,e6⟩
       | true=>
        rw[hck1] at h
        simp only at h
        cases hck2:oi all (mT (ms.getD i 0) bs) o.dst with
        | false=>rw[hck2] at h;exact h.elim
        | true=>
         rw[hck2] at h
         simp only at h
         obtain⟨w1,S1,fr1,l1,kc1,hs1,hf1,hsteps1,ht1,hD1,hk1,hhead,hfn1⟩:=uf hP (frs++cs) hst l hW hf ht hD h2
         have hil:i∈l1:=hD1.sub i List.mem_cons_self
         cases l1 with
         | nil=>exact absurd hil List.not_mem_nil
         | cons j l1=>
           have hji:j=i:=by
            rcases List.mem_cons.1 (hhead j rfl) with e|hj
            ·exact e
            ·exact absurd hil (hD1.done (List.all_eq_true.1 hck1 j hj))
           subst hji
           have hjn:j ∉ rest++bs:=(List.nodup_cons.1 (by have:=hD1.nodup;rwa [List.cons_append] at this)).1
           have hjb:j ∉ bs:=fun hm=>hjn (ku.2 (.inr hm))
           have hf1':=hf1.JQ (D:=dO all o) hre
           have hnh:∀{t:Nat},t∈readsOf all o→¬Hid ⟨fn,nn,env',.fA all ms (j::rest) bs::k,marks,cK⟩ fr1 t:=fun hr=>
            u5 hD1 rfl ht1 (fun b hb _ p d hp hd hr=>Jx hord hb hp hd hr) (fun hm=>absurd hm hjb) hr
           have hw:Region.wanted o (yielded all fr1.tmps)=true:=mP hg fun d hd=>hf1'.env d (hnh (jR hd))
           have hbelow:FR w1 S1 m ⟨fn,nn,env',.qh all ms j rest (mT (ms.getD j 0) bs)::k,marks,cK⟩ fr1:=by
            refine⟨hf1'.fn,hf1'.n,hf1'.small,fun x hx=>hf1'.env x fun hh=>hx ?_,by rw[ht1];exact .mk (a:=.qh all ms j rest (mT (ms.getD j 0) bs)) ⟨l1,rfl,hD1.cut⟩ hk1,.mk trivial hf1'.live.tail,hf1'.flat,hf1'.defers,hf1'.marks,hf1'.mode,hf1'.kind,hf1'.cK,hf1'.nU⟩
            obtain⟨all',bs',l',k',b,p,e1,e2,e3,e4,e5,e6⟩:=hh
            cases e1
            rw[ht1] at e2
            cases e2
            refine⟨all,_,j::l1,kc1,b,p,rfl,ht1,List.mem_filter.2 ⟨e3,?_⟩,e4,e5,e6⟩
            cases hb:(ms.getD j 0).testBit b with
            | false=>rfl
            | true=>exact absurd e4 (hD1.done hb)
           refine .steps hsteps1 (Ky (fn:=fn) (ρ:=gU env') (below:=⟨fn,nn,env',.qh all ms j rest (mT (ms.getD j 0) bs)::k,marks,cK⟩) (next:=fun v m=>re ah E (env'.iK o.dst v) m all (mT (ms.getD j 0) bs) (run ah E n {frames:=⟨fn,nn,env'.iK o.dst v,.fA all ms rest (mT (ms.getD j 0) bs)::k,marks,cK⟩::fs,mem:=m}))
            hP ih hs1.wr (fun b hb=>(hs1.grows b hb).elim (hI b) .inr) (hfs.mono hs1.out) (hB.swap rfl) hf1.mode ht1 ho hw (fun x hx=>vh hf1' x fun t e=>hnh (by subst e;exact pH hx)) hbelow (fun v m' w' S' z hs hc h=>?_) h)
           obtain⟨hst2,h⟩:=vD h
           have hs2:=hs1.trans hs
           exact ih _ h hst2 S' _ _ cs w' hs2.wr (fun b hb=>(hs2.grows b hb).elim (hI b) .inr) ⟨_,_,rfl,xM (hbelow.mono hs.out) ho hdok hc,hfs.mono hs2.out⟩ (hB.swap rfl)
      split at h
      ·rename_i tv hev hfo
       rw[cd] at hfo
       obtain⟨v,hv,h⟩:=TV.bind_ok h
       exact Px ih h ho hdok hord hgok hfo.1 hfo.2 hst' (.inr ⟨hg,tv,hev,hv⟩) hW hI hf' hfs (hB.swap rfl) ht hD h2
      ·exact eff h
     ·-- not wanted
      cases hfo:oi all bs o.dst&&yY all o with
      | false=>rw[hfo] at h;exact h.elim
      | true=>
        rw[hfo] at h
        simp only at h
        rw[cd] at hfo
        exact Px ih h ho hdok hord hgok hfo.1 hfo.2 hst' (.inl ⟨hg,rfl⟩) hW hI hf' hfs (hB.swap rfl) ht hD h2
end
end Go.Ev
namespace Go.Ev
theorem rS:∀{l:List Nat} {id k:Nat},id∈l→∃j,idxOf l id k=k+j∧l[j]? = some id∧j<l.length
 | i::l,id,k,h=>by
   rw[idxOf]
   by_cases hi:i=id
   ·subst hi;rw[aY.2 rfl];exact⟨0,rfl,rfl,Nat.succ_pos _⟩
   ·rw[bq.2 hi]
    obtain⟨j,h1,h2,h3⟩:=rS (k:=k+1) ((List.mem_cons.1 h).resolve_left (fun e=>hi e.symm))
    exact⟨j+1,by simp only;rw[h1];omega,by simpa using h2,by simpa using h3⟩
theorem Dk:∀{l:List Nat} {id k:Nat},id ∉ l→idxOf l id k=k+l.length
 | [],id,k,_=>rfl
 | i::l,id,k,h=>by
   rw[idxOf,bq.2 fun e=>h (by subst e;exact List.mem_cons_self)]
   simp only
   rw[Dk fun hm=>h (List.mem_cons_of_mem _ hm),List.length_cons]
   omega
theorem ru:∀{r acc:List Nat},acc.Nodup→(jE acc r).Nodup∧(∀i∈acc,i∈jE acc r)∧∀i∈r,i∈jE acc r
 | [],acc,h=>⟨h,fun _ h=>h,fun _ h=>absurd h List.not_mem_nil⟩
 | j::r,acc,h=>by
   rw[jE]
   cases hm:nv acc j with
   | true=>
     simp only
     obtain⟨h1,h2,h3⟩:=ru (r:=r) h
     refine⟨h1,h2,fun i hi=>?_⟩
     rcases List.mem_cons.1 hi with rfl|hi
     ·exact h2 _ (eF.1 hm)
     ·exact h3 i hi
   | false=>
     simp only
     have hn:j ∉ acc:=fun h=>by rw[eF.2 h] at hm;cases hm
     obtain⟨h1,h2,h3⟩:=ru (r:=r) (acc:=acc ++ [j]) (List.nodup_append.2 ⟨h,by simp,fun a ha b hb=>by rintro rfl;rw[List.mem_singleton.1 hb] at ha;exact hn ha⟩)
     refine⟨h1,fun i hi=>h2 i (ku.2 (.inl hi)),fun i hi=>?_⟩
     rcases List.mem_cons.1 hi with rfl|hi
     ·exact h2 _ (ku.2 (.inr (List.mem_singleton.2 rfl)))
     ·exact h3 i hi
theorem wX:∀{f:Nat} {m:Mem} {acc:List Nat} {p:Nat},acc.Nodup→(je f m acc p).Nodup∧∀i∈acc,i∈je f m acc p
 | 0,m,acc,p,h=>⟨h,fun _ h=>h⟩
 | f+1,m,acc,p,h=>by
   rw[je]
   cases acc[p]? with
   | none=>exact⟨h,fun _ h=>h⟩
   | some id=>
     simp only
     obtain⟨h1,h2,_⟩:=ru (r:=u7 (m.at id)) h
     obtain⟨h3,h4⟩:=wX (f:=f) (m:=m) (p:=p+1) h1
     exact⟨h3,fun i hi=>h4 i (h2 i hi)⟩
theorem oY:∀{r acc:List Nat},∃t,jE acc r=acc++t
 | [],acc=>⟨[],(List.append_nil _).symm⟩
 | j::r,acc=>by
   rw[jE]
   cases nv acc j with
   | true=>exact oY
   | false=>
     obtain⟨t,h⟩:=oY (r:=r) (acc:=acc ++ [j])
     exact⟨j::t,by simp only;rw[h,List.append_assoc];rfl⟩
theorem uN:∀{f:Nat} {m:Mem} {acc:List Nat} {p:Nat},∃t,je f m acc p=acc++t
 | 0,m,acc,p=>⟨[],(List.append_nil _).symm⟩
 | f+1,m,acc,p=>by
   rw[je]
   cases acc[p]? with
   | none=>exact⟨[],(List.append_nil _).symm⟩
   | some id=>
     simp only
     obtain⟨t,h⟩:=oY (r:=u7 (m.at id)) (acc:=acc)
     obtain⟨u,h2⟩:=uN (f:=f) (m:=m) (acc:=jE acc (u7 (m.at id))) (p:=p+1)
     exact⟨t++u,by rw[h2,h,List.append_assoc]⟩
theorem r9{l:List Nat}:∀{cs:List AV},(lS l cs).length=cs.length
 | []=>by rw[lS]
 | a::cs=>by rw[lS,List.length_cons,List.length_cons,r9]
def St.ren(S:St)(l:List Nat):St:={σ:=fun i=>S.σ (l.getD i 0),δ:=fun i=>S.δ (l.getD i 0),I:=S.I}
def Mem.ren(m:Mem)(l:List Nat):Mem:=(l.map fun id=>lY l (m.at id)) ++ [.dead]
section
variable {w0:iP} {w:World} {S:St} {m:Mem} {l:List Nat}
theorem wG{j id:Nat}(h:l[j]? = some id):(m.ren l).at j=lY l (m.at id):=by
 have hj:j<l.length:=(List.getElem?_eq_some_iff.1 h).1
 rw[Mem.ren,Mem.at,nE,List.getElem?_append_left (by rw[List.length_map];exact hj),List.getElem?_map,h]
 rfl
theorem yL:(m.ren l).at l.length=.dead:=by
 rw[Mem.ren,Mem.at,nE,List.getElem?_append_right (by rw[List.length_map];exact Nat.le_refl _),List.length_map,Nat.sub_self]
 rfl
theorem Lw{j:Nat}(h:l.length<j):(m.ren l).at j=.bad:=by
 rw[Mem.ren,Mem.at,nE,List.getElem?_eq_none (by rw[gm,List.length_map];simp;omega)]
 rfl
theorem wh(j:Nat):(∃id,l[j]? = some id∧(m.ren l).at j=lY l (m.at id)∧(S.ren l).σ j=S.σ id∧(S.ren l).δ j=S.δ id)∨(m.ren l).at j=.dead∨(m.ren l).at j=.bad:=by
 rcases Nat.lt_trichotomy j l.length with h|h|h
 ·have e:=uX h
  refine .inl ⟨l[j],e,wG e,?_,?_⟩<;>simp[St.ren,nE,e]
 ·subst h;exact .inr (.inl yL)
 ·exact .inr (.inr (Lw h))
theorem wB(id:Nat):(id∈l∧(m.ren l).at (idxOf l id 0)=lY l (m.at id)∧(S.ren l).σ (idxOf l id 0)=S.σ id∧(S.ren l).δ (idxOf l id 0)=S.δ id)∨(m.ren l).at (idxOf l id 0)=.dead:=by
 by_cases h:id∈l
 ·obtain⟨j,h1,h2,h3⟩:=rS (k:=0) h
  rw[Nat.zero_add] at h1
  rw[h1]
  refine .inl ⟨h,wG h2,?_,?_⟩<;>simp[St.ren,nE,h2]
 ·rw[Dk h,Nat.zero_add]
  exact .inr yL
mutual
theorem Ic:∀{a:AV} {v:Value},CR w S m a v→CR w (S.ren l) (m.ren l) (gv l a) v
 | .undef,v,_=>by rw[gv];exact dC
 | .int k c n,v,h=>by rw[gv];exact bK.2 (bK.1 h)
 | .bool c b,v,h=>by rw[gv];exact c_.2 (c_.1 h)
 | .str c s,v,h=>by rw[gv];exact gi.2 (gi.1 h)
 | .sl t x,v,h=>by rw[gv,CR];rw[CR] at h;exact h
 | .dp b,v,h=>by rw[gv];exact iB.2 (iB.1 h)
 | .jA t x off,v,h=>by rw[gv,CR];rw[CR] at h;exact h
 | .fS,v,h=>by rw[gv];exact iE.2 (iE.1 h)
 | .kz,v,h=>by rw[gv];exact jW.2 (jW.1 h)
 | .own id,v,h=>by
   rw[gv,CR]
   rw[CR] at h
   rcases wB (S:=S) (m:=m) (l:=l) id with ⟨_,h1,h2,h3⟩|h1
   ·rw[h1,h2,h3]
    cases hb:m.at id<;>rw[hb] at h<;>(try exact h.elim)<;>exact h
   ·rw[h1];trivial
 | .nD id sz c lo len,v,h=>by
   rw[gv,CR]
   rw[CR] at h
   rcases wB (S:=S) (m:=m) (l:=l) id with ⟨_,h1,h2,h3⟩|h1
   ·rw[h1,h2,h3]
    cases hb:m.at id<;>rw[hb] at h<;>(try exact h.elim)<;>(try exact h)
    obtain⟨l0,n,cap,a,e1,e2,e3,e4,e5⟩:=h
    exact⟨l0,n,cap,a,e1,e2,e3,by rw[r9];exact e4,e5⟩
   ·rw[h1];trivial
 | .ptr id off,v,h=>by
   rw[gv,CR]
   rw[CR] at h
   rcases wB (S:=S) (m:=m) (l:=l) id with ⟨_,h1,h2,h3⟩|h1
   ·rw[h1,h2]
    cases hb:m.at id<;>rw[hb] at h<;>(try exact h.elim)<;>exact h
   ·rw[h1];trivial
 | .nF id i off,v,h=>by
   rw[gv,CR]
   rw[CR] at h
   rcases wB (S:=S) (m:=m) (l:=l) id with ⟨_,h1,h2,h3⟩|h1
   ·rw[h1,h2,h3]
    cases hb:m.at id<;>rw[hb] at h<;>(try exact h.elim)<;>exact h
   ·rw[h1];trivial
 | .rV id off n t i,v,h=>by
   rw[gv,CR]
   rw[CR] at h
   rcases wB (S:=S) (m:=m) (l:=l) id with ⟨_,h1,h2,h3⟩|h1
   ·rw[h1,h2]
    cases hb:m.at id<;>rw[hb] at h<;>(try exact h.elim)<;>exact h
   ·rw[h1];trivial
 | .yield id,v,h=>by
   rw[gv,CR]
   rw[CR] at h
   rcases wB (S:=S) (m:=m) (l:=l) id with ⟨_,h1,h2,h3⟩|h1
   ·rw[h1,h2]
    cases hb:m.at id<;>rw[hb] at h<;>(try exact h.elim)<;>exact h
   ·rw[h1];trivial
 | .fn f a c,v,h=>by
   rw[gv]
   obtain⟨us,vs,e,h1,h2⟩:=oT.1 h
   exact oT.2 ⟨us,vs,e,rQ h1,rQ h2⟩
 | .agg cs,v,h=>by
   rw[gv]
   obtain⟨us,e,h1⟩:=ou.1 h
   exact ou.2 ⟨us,e,rQ h1⟩
 | .qS cs,v,h=>by
   rw[gv]
   obtain⟨us,e,h1⟩:=fC.1 h
   exact fC.2 ⟨us,e,rQ h1⟩
theorem rQ:∀{cs:List AV} {us:List Value},bC w S m cs us→bC w (S.ren l) (m.ren l) (lS l cs) us
 | [],us,h=>by rw[lS];exact aL.2 (aL.1 h)
 | a::cs,us,h=>by
   rw[lS]
   obtain⟨v,r,e,h1,h2⟩:=aV.1 h
   exact aV.2 ⟨v,r,e,Ic h1,rQ h2⟩
end
theorem wj:∀{e:PT AV} {i:Nat},(uF l e).get i=(e.get i).map (gv l)
 | .leaf,i=>by rw[uF,PT.np];rfl
 | .node a v b,i=>by
   show(PT.node (uF l a) (match v with|some x=>some (gv l x)|none=>none) (uF l b)).get i=_
   rw[PT.jk,PT.jk]
   by_cases h0:i=0
   ·rw[if_pos h0,if_pos h0];cases v<;>rfl
   ·rw[if_neg h0,if_neg h0]
    by_cases h1:i%2=1
    ·rw[if_pos h1,if_pos h1,wj]
    ·rw[if_neg h1,if_neg h1,wj]
theorem NN{e:Env}{i:Nat}:Env.at (uF l e) i=gv l (e.at i):=by
 rw[Env.at,Env.at,wj]
 cases PT.get e i<;>first|rfl|(simp only[Option.map_none];rw[gv])
theorem UR{id:Nat}(hb:rW w S m id (m.at id)){j:Nat}(hσ:(S.ren l).σ j=S.σ id)(hδ:(S.ren l).δ j=S.δ id):rW w (S.ren l) (m.ren l) j (lY l (m.at id)):=by
 cases hm:m.at id<;>rw[hm] at hb<;>simp only[lY]
 case bad=>trivial
 case dead=>trivial
 case Mg=>trivial
 case BZ=>exact(show w.heap[(S.ren l).σ j]? = _ by rw[hσ];exact hb)
 case flat fz cs=>
  obtain⟨us,T,fr,h1,h2,h3⟩:=hb
  exact⟨us,T,fr,by rw[hσ];exact h1,h2,rQ h3⟩
 case arr fz t x=>
  refine⟨hb.1,fun hne=>?_⟩
  obtain⟨us,T,fr,h1,h2,h3,h4⟩:=hb.2 hne
  exact⟨us,T,fr,by rw[hσ];exact h1,h2,by rw[hδ];exact h3,by rw[hδ];exact h4⟩
 case loop r=>
  obtain⟨L,h1,h2,h3,h4,h5,h6,h7,h8,h9⟩:=hb
  exact⟨L,by rw[hσ];exact h1,h2,h3,h4,h5,h6,h7,h8,fun i=>by
   show CR w (S.ren l) (m.ren l) (Env.at (uF l r.env) i) _
   rw[NN];exact Ic (h9 i)⟩
theorem Gs{b:il}:(lY l b).bd=b.bd:=by cases b<;>rfl
theorem Dv{b:il}:(lY l b).i_=b.i_:=by cases b<;>rfl
theorem o3{b:il}:(lY l b).fI=b.fI:=by cases b<;>rfl
theorem XY(hW:WR w0 w S m)(hn:l.Nodup)(hp:∀i,i<w0.R.length→l[i]? = some i):WR w0 w (S.ren l) (m.ren l):=by
 have live:∀j,((m.ren l).at j).bd=true→∃id,l[j]? = some id∧(m.ren l).at j=lY l (m.at id)∧(S.ren l).σ j=S.σ id∧(m.at id).bd=true:=fun j h=>by
  rcases wh (S:=S) (m:=m) (l:=l) j with ⟨id,h1,h2,h3,_⟩|h1|h1
  ·rw[h2,Gs] at h;exact⟨id,h1,h2,h3,h⟩
  ·rw[h1] at h;cases h
  ·rw[h1] at h;cases h
 refine⟨hW.os,hW.tape,hW.output,hW.size,hW.base,hW.jl,fun j=>?_,fun j j' h h' e=>?_,fun j h=>?_,fun j h h'=>?_,fun j h=>?_,fun i b h=>?_,hW.cells⟩
 ·rcases wh (S:=S) (m:=m) (l:=l) j with ⟨id,h1,h2,h3,h4⟩|h1|h1
  ·rw[h2];exact UR (hW.box id) h3 h4
  ·rw[h1];trivial
  ·rw[h1];trivial
 ·obtain⟨id,h1,h2,h3,h4⟩:=live j h
  obtain⟨id',g1,g2,g3,g4⟩:=live j' h'
  have:=hW.inj id id' h4 g4 (by rw[←h3,←g3];exact e)
  subst this
  obtain⟨a1,a2⟩:=List.getElem?_eq_some_iff.1 h1
  obtain⟨b1,b2⟩:=List.getElem?_eq_some_iff.1 g1
  exact(List.getElem_inj hn).1 (a2.trans b2.symm)
 ·obtain⟨id,h1,h2,h3,h4⟩:=live j h
  rw[h3];exact hW.lo id h4
 ·obtain⟨id,h1,h2,h3,h4⟩:=live j h
  rw[h3]
  rw[h2,Dv] at h'
  exact hW.lT id h4 h'
 ·rcases wh (S:=S) (m:=m) (l:=l) j with ⟨id,h1,h2,h3,h4⟩|h1|h1
  ·rw[h3]
   rw[h2,Dv] at h
   exact hW.Cu id h
  ·rw[h1] at h;cases h
  ·rw[h1] at h;cases h
 ·have hl:=hp i (List.getElem?_eq_some_iff.1 h).1
  refine⟨Nat.lt_of_lt_of_le (List.getElem?_eq_some_iff.1 hl).1 (by simp[Mem.ren]),?_⟩
  obtain⟨_,h2,h3⟩:=hW.root i b h
  rw[←h2]
  exact⟨by simp[St.ren,nE,hl],fun d hd=>by rw[←h3 d hd];simp[St.ren,nE,hl]⟩
theorem rL{id:Nat}(h:id∈l):(m.ren l).at (idxOf l id 0)=lY l (m.at id):=by
 obtain⟨j,h1,h2,h3⟩:=rS (k:=0) h
 rw[Nat.zero_add] at h1
 rw[h1]
 exact wG h2
theorem vH{id:Nat}(h:id∈l):(S.ren l).σ (idxOf l id 0)=S.σ id:=by
 obtain⟨j,h1,h2,h3⟩:=rS (k:=0) h
 rw[Nat.zero_add] at h1
 rw[h1]
 simp[St.ren,nE,h2]
theorem FK{n:Nat}:∀{k:List bH} {kc:List Item},(∀i∈k.flatMap kW,i∈l)→cJ n S k kc→cJ n (S.ren l) (k.map (nZ l)) kc
 | [],kc,_,h=>h
 | a::k,kc,hl,h=>by
   obtain⟨it,kc1,rfl,h1,h2⟩:=h.cons_inv
   refine .mk ?_ (FK (fun i hi=>hl i (by rw[List.flatMap_cons];exact ku.2 (.inr hi))) h2)
   have hid:∀i∈kW a,i∈l:=fun i hi=>hl i (by rw[List.flatMap_cons];exact ku.2 (.inl hi))
   cases a<;>try exact h1
   case kw id=>
    have h1:it=.inRangeFunc (S.σ id):=h1
    show it=.inRangeFunc ((S.ren l).σ (idxOf l id 0))
    rw[(vH (hid id (List.mem_singleton.2 rfl)))];exact h1
   case kI id=>
    have h1:it=.endRangeFunc (S.σ id):=h1
    show it=.endRangeFunc ((S.ren l).σ (idxOf l id 0))
    rw[(vH (hid id (List.mem_singleton.2 rfl)))];exact h1
theorem xw{a:bH}:(nZ l a).B6=a.B6:=by cases a<;>rfl
theorem Bz{a:bH}:(nZ l a).drawn=a.drawn:=by cases a<;>rfl
theorem PR{k:List bH}(hl:∀i∈k.flatMap kW,i∈l)(h:bP m k):bP (m.ren l) (k.map (nZ l)):=by
 intro b hb
 obtain⟨a,ha,rfl⟩:=List.mem_map.1 hb
 have h1:=h a ha
 have hid:∀i∈kW a,i∈l:=fun i hi=>hl i (List.mem_flatMap.2 ⟨a,ha,hi⟩)
 cases a<;>(try trivial)
 case kw id=>
  show((m.ren l).at (idxOf l id 0)).fI=true
  rw[(rL (hid id (List.mem_singleton.2 rfl))),o3];exact h1
 case kI id=>
  show((m.ren l).at (idxOf l id 0)).fI=true
  rw[(rL (hid id (List.mem_singleton.2 rfl))),o3];exact h1
theorem Nt(e r:Env)(q i:Nat):Env.at (Km e q r) i=Env.at r i∨(i=q∧∃k c n,e.at q=.int k c n∧Env.at (Km e q r) i=.int k c n):=by
 unfold Km
 cases hb:Nat.ble q 65535 with
 | false=>exact .inl rfl
 | true=>
   cases hv:e.at q with
   | int k c n=>
     simp only
     rw[Env.s8 (oX hb)]
     by_cases h:i=q
     ·rw[if_pos h];exact .inr ⟨h,k,c,n,rfl,rfl⟩
     ·rw[if_neg h];exact .inl rfl
   | _=>exact .inl rfl
theorem tQ{e:Env}{v:Nat→Value}{H:Nat→Prop}(h:∀i,¬H i→CR w S m (e.at i) (v i)):∀{ks:List Nat} {i:Nat},¬H i→CR w (S.ren l) (m.ren l) ((nM l e ks).at i) (v i)
 | [],i,_=>by rw[nM,Env.JM];exact dC
 | j::ks,i,hi=>by
   rw[nM]
   cases hj:Nat.ble j 65535 with
   | false=>
     simp only
     rcases Nt e (nM l e ks) (Ka j) i with h1|⟨h1,k,c,n,h2,h3⟩
     ·rw[h1];exact tQ h hi
     ·rw[h3]
      subst h1
      have h4:CR w S m (e.at (Ka j)) (v (Ka j)):=h _ hi
      rw[h2] at h4
      exact bK.2 (bK.1 h4)
   | true=>
     simp only
     rw[Env.s8 (oX hj)]
     by_cases e:i=j
     ·subst e;rw[if_pos rfl];exact Ic (h i hi)
     ·rw[if_neg e];exact tQ h hi
theorem abg{f:bu}{fr:Frame}{ks:List Nat}(hf:FR w S m f fr)(hm:∀i∈f.marks,i∈l)(hr:∀i,f.cK=some i→i∈l)(ht:∀i∈f.todo.flatMap kW,i∈l) :
  FR w (S.ren l) (m.ren l) {f with env:=nM l f.env ks,todo:=f.todo.map (nZ l),marks:=f.marks.map (idxOf l · 0),cK:=f.cK.map (idxOf l · 0)} fr:=by
 refine⟨hf.fn,hf.n,hf.small,fun i hi=>tQ (H:=fun i=>Hid f fr i) hf.env (fun hh=>hi ?_),FK ht hf.todo,PR ht hf.live,fun a ha=>?_,?_,fun d hd=>?_,hf.mode,hf.kind,?_,fun i hi=>?_⟩
 ·obtain⟨all,bs,l',k',b,p,e1,e2⟩:=hh
  refine⟨all,bs,l',k',b,p,?_,e2⟩
  rw[←e1]
  cases f.todo with
  | nil=>rfl
  | cons a k=>exact Bz
 ·have ha:a∈(f.todo.map (nZ l)).tail:=ha
  rw[←List.map_tail] at ha
  obtain⟨b,hb,rfl⟩:=List.mem_map.1 ha
  rw[xw];exact hf.flat b hb
 ·rw[hf.defers,List.map_map]
  exact List.map_congr_left fun d hd=>by simp only[Function.comp];rw[(vH (hm d hd))]
 ·obtain⟨d',hd',rfl⟩:=List.mem_map.1 hd
  rw[(rL (hm d' hd')),o3];exact hf.marks d' hd'
 ·rw[hf.cK]
  cases hr':f.cK with
  | none=>rfl
  | some i=>simp only[Option.map_some];rw[(vH (hr i hr'))]
 ·cases hr':f.cK with
  | none=>rw[hr'] at hi;cases hi
  | some j=>
    rw[hr'] at hi
    cases hi
    rw[(rL (hr j hr')),o3];exact hf.nU j hr'
theorem J6:∀{fs:List bu} {frs:List Frame} {ks:List (List Nat)},(∀i∈j3 ks fs,i∈l)→Ax w S m fs frs→Ax w (S.ren l) (m.ren l) (gQ l ks fs) frs
 | [],frs,ks,_,h=>by rw[gQ];exact h
 | f::fs,frs,ks,hl,h=>by
   obtain⟨fr,r,rfl,h1,h2⟩:=h
   rw[gQ]
   have hl':∀i,i∈f.marks++((match f.cK with|some l=>[l]|none=>[])++(f.todo.flatMap kW++j3 ks.tail fs))→i∈l:=fun i hi=>hl i (by rw[j3];exact ku.2 (.inr hi))
   refine⟨fr,r,rfl,abg h1 (fun i hi=>hl' i (ku.2 (.inl hi))) (fun i hi=>hl' i (ku.2 (.inr (ku.2 (.inl ?_))))) (fun i hi=>hl' i (ku.2 (.inr (ku.2 (.inr (ku.2 (.inl hi))))))),
    J6 (fun i hi=>hl' i (ku.2 (.inr (ku.2 (.inr (ku.2 (.inr hi))))))) h2⟩
   rw[hi];exact List.mem_singleton.2 rfl
theorem KR{f0:FuncId}:∀{fs:List bu} {ks:List (List Nat)},ta f0 fs→ta f0 (gQ l ks fs)
 | [],ks,h=>h.elim
 | [f],ks,h=>h
 | f::g::r,ks,h=>by
   rw[gQ,gQ]
   have:=KR (fs:=g::r) (ks:=ks.tail) h
   rw[gQ] at this
   exact this
theorem Bp{P:Program}{R:Type}{E:eB R}{I0:Nat→Prop}{f0:FuncId}{Fin:R→Value→World→Prop}{Q:R→Prop}(hk:w0.R.length≤E.keep)(ks:List (List Nat))(f:bu)(fs:List bu)(m:Mem)(hd:∀a∈f.todo.head?,a.B6=false)
  (h:Good P E w0 I0 f0 Fin Q (canon E.keep ks {frames:=f::fs,mem:=m})):Good P E w0 I0 f0 Fin Q {frames:=f::fs,mem:=m}:=by
 intro _ S fr frs cs w hW hI hf hB
 obtain⟨h1,h2,h3⟩:=ru (acc:=List.range E.keep) (r:=j3 ks (f::fs)) List.nodup_range
 obtain⟨h4,h5⟩:=wX (f:=m.length+1) (m:=m) (p:=0) h1
 have h6:∀i,i<w0.R.length→(je (m.length+1) m (jE (List.range E.keep) (j3 ks (f::fs))) 0)[i]? = some i:=fun i hi=>by
  obtain⟨t1,e1⟩:=oY (r:=j3 ks (f::fs)) (acc:=List.range E.keep)
  obtain⟨t2,e2⟩:=uN (f:=m.length+1) (m:=m) (acc:=jE (List.range E.keep) (j3 ks (f::fs))) (p:=0)
  rw[e2,e1,List.append_assoc,List.getElem?_append_left (by rw[List.length_range];omega),List.getElem?_range (by omega)]
 refine h ?_ (S.ren (je (m.length+1) m (jE (List.range E.keep) (j3 ks (f::fs))) 0)) fr frs cs w (XY hW h4 h6) hI (J6 (fun i hi=>h5 i (h3 i hi)) hf) (KR hB)
 unfold nX canon
 simp only[gQ]
 split
 ·rename_i all ms rest bs k he
  cases ht:f.todo with
  | nil=>rw[ht] at he;cases he
  | cons a k'=>
    rw[ht] at he
    have hda:=hd a (by rw[ht];rfl)
    simp only[List.map_cons,List.cons.injEq] at he
    have:(nZ (je (m.length+1) m (jE (List.range E.keep) (j3 ks (f::fs))) 0) a).B6=true:=by rw[he.1];rfl
    rw[xw,hda] at this
    cases this
 ·trivial
end
end Go.Ev
namespace Go.Ev
section
variable {P:Program} {R:Type} {E:eB R} {w0:iP} {I0:Nat→Prop} {f0:FuncId} {Fin:R→Value→World→Prop} {Q:R→Prop}
theorem Cx(hP:Fits P E Fin w0 I0){n:Nat}(ih:∀c,Tr.Ok Q (Good P E w0 I0 f0 Fin Q) (run ah E n c)→Good P E w0 I0 f0 Fin Q c)
  {w:World} {S:St} {m:Mem} {fr:Frame} {fs:List bu} {frs cs:List Frame} {f:bu} {jump:Option Code}
  (h:Tr.Ok Q (Good P E w0 I0 f0 Fin Q) (match f.cK with
    | none=>match kM f.marks m with
      | none=>.bad 139 ""
      | some m=>match look E.dx f.fn with
        | none=>.bad 141 ""
        | some F=>match iM ah E f.env m F.results.toList with
          | none=>.bad 142 ""
          | some vs=>match fs with
            | []=>match E.fin (cO vs) m with
              | some y=>.ret y
              | none=>.bad 143 ""
            | g::gs=>match finish g (cO vs) with
              | some g=>pE ah E g m (run ah E n {frames:=g::gs,mem:=m})
              | none=>.bad 144 ""
    | some l=>match m.at l with
      | .loop r=>match fs with
        | g::gs=>match finish g (.bool true (CY jump)) with
          | some g=>pE ah E g (m.set l (.loop {r with state:=zC jump,pending:=jump})) (run ah E n {frames:=g::gs,mem:=m.set l (.loop {r with state:=zC jump,pending:=jump})})
          | none=>.bad 145 ""
        | []=>.bad 146 ""
      | _=>.bad 147 ""))
  (hnh:∀x,¬Hid f fr x) (hret:f.cK=none→step P (lone fr (frs++cs) w)=.next (lone {fr with mode:=.returning} (frs++cs) w))
  (ht:f.cK≠none→(fr.todo=[]∧jump=none)∨(∃k,fr.todo=.code .ret::k∧jump=some .ret)∨(∃id k,fr.todo=.code (.exit id)::k∧exitTo id k=none∧jump=some (.exit id))∨(∃id k,fr.todo=.code (.goto id)::k∧gotoIn id k=none∧jump=some (.goto id)))
  (hW:WR w0 w S m) (hI:∀b,S.I b→I0 b∨w0.free b) (hf:FR w S m f fr) (hfs:Ax w S m fs frs) (hB:ta f0 (f::fs)) :
  Ends P f0 Fin Q fr frs cs w:=by
 cases hr:f.cK with
 | none=>
   rw[hr] at h
   exact FL hP ih h hnh (hret hr) hW hI hf hfs hB
 | some l=>
   rw[hr] at h
   exact xN ih hr h (ht (by rw[hr];intro e;cases e)) hW hI hf hfs hB
theorem jQ(hP:Fits P E Fin w0 I0):∀(n:Nat) (c:eD),Tr.Ok Q (Good P E w0 I0 f0 Fin Q) (run ah E n c)→Good P E w0 I0 f0 Fin Q c
 | 0,c,h=>by rw[run] at h;exact h
 | n+1,c,h=>by
   have ih:=jQ hP n
   obtain⟨frames,m⟩:=c
   intro hst S fr frs cs w hW hI hF hB
   cases frames with
   | nil=>exact hB.elim
   | cons f fs=>
     obtain⟨dL,frs',e,hf,hfs⟩:=hF
     cases e
     obtain⟨fn,nn,env,todo,marks,cK⟩:=f
     cases todo with
     | nil=>
       have ht:fr.todo=[]:=hf.todo
       refine Cx (jump:=none) hP ih ?_ (fun x=>jm fun a ha=>by cases ha) (fun hr=>Tp hf.mode (by rw[hf.cK,hr];rfl) ht) (fun _=>.inl ⟨ht,rfl⟩) hW hI hf hfs hB
       simp only[run] at h
       exact h
     | cons i k=>
       obtain⟨it,kc,ht,h1,h2⟩:=hf.todo.cons_inv
       have plain:=fun hi=>Lu (Bp (P:=P) (E:=E) (I0:=I0) (f0:=f0) (Fin:=Fin) (Q:=Q) hP.keep) ih (i:=i) (k:=k) hi h hst hW hI hf hfs hB (cs:=cs)
       have hnh:i.B6=false→∀x,¬Hid ⟨fn,nn,env,i::k,marks,cK⟩ fr x:=fun hne x=>jm fun a ha=>by cases ha;exact hne
       cases i with
       | inBlock id=>exact plain trivial
       | inLoop b=>exact plain trivial
       | inScope b=>exact plain trivial
       | kw l=>simp only[run] at h;exact h.elim
       | qh all ms i rest bs=>simp only[run] at h;exact h.elim
       | kI l=>exact Ls ih h hW hI hf hfs hB
       | beginRound=>exact Mn ih h hW hI hf hfs hB
       | ops all rest=>
         cases rest with
         | nil=>exact plain trivial
         | cons o rest=>exact VV hP ih h hW hI hf hfs hB
       | fA all ms rest bs=>
         cases rest with
         | nil=>exact Mr hP ih h hst hW hI hf hfs hB
         | cons i rest=>exact Pn hP ih h hst hW hI hf hfs hB
       | code x=>
         have h1:it=.code x:=h1
         subst h1
         cases x with
         | skip=>exact plain trivial
         | label l=>exact plain trivial
         | seq a b=>exact plain trivial
         | cond x a b=>exact plain trivial
         | block id b=>exact plain trivial
         | loop b=>exact plain trivial
         | scope b=>exact plain trivial
         | refuse why=>simp only[run] at h;exact h.elim
         | region id os draw=>
           cases draw with
           | false=>exact plain trivial
           | true=>exact Fq hP (Bp (P:=P) (E:=E) (I0:=I0) (f0:=f0) (Fin:=Fin) (Q:=Q) hP.keep) ih h hst hW hI hf hfs hB
         | rangeFunc x ps a b=>exact By hP ih h hW hI hf hfs hB
         | ret=>
           refine Cx (jump:=some .ret) hP ih ?_ (hnh rfl) (fun hr=>Tj hf.mode (by rw[hf.cK,hr];rfl) ht) (fun _=>.inr (.inl ⟨kc,ht,rfl⟩)) hW hI hf hfs hB
           simp only[run] at h
           exact h
         | exit id=>
           simp only[run] at h
           cases he:gP id k with
           | some k'=>
             rw[he] at h
             obtain⟨kc',e1,e2,e3,e4⟩:=u9 (m:=m) h2 he
             exact fM hW hI hf hfs hB (hnh rfl) (U6 hf.mode ht e1) e2 (e3 hf.live.tail) (fun a ha=>hf.flat a (e4 a ha)) (ih _ h)
           | none=>
             rw[he] at h
             simp only at h
             have e1:=qo h2 he
             cases cK with
             | none=>exact h.elim
             | some l=>simp only at h;exact xN (f:=⟨fn,nn,env,.code (.exit id)::k,marks,some l⟩) (jump:=some (.exit id)) ih rfl h (.inr (.inr (.inl ⟨id,kc,ht,e1,rfl⟩))) hW hI hf hfs hB
         | goto id=>simp only[run] at h;exact h.elim
end
end Go.Ev
namespace Go.Ev
mutual
def Ty.has:(t:Ty)→t.T→Prop
 | .int k,x=>k.has x
 | .bool,_=>True
 | .str,x=>(show List UInt8 from x).length≤dD
 | .slice t,x=>(show List t.T from x).length≤dD∧∀y∈(show List t.T from x),Ty.has t y
 | .arr n t,x=>(show List t.T from x).length=n∧∀y∈(show List t.T from x),Ty.has t y
 | .struct ts,x=>Ty.cN ts x
 | .any _,_=>True
def Ty.cN:(ts:List Ty)→Ty.Ts ts→Prop
 | [],_=>True
 | [t],x=>Ty.has t x
 | t::t2::ts,x=>Ty.has t (Prod.fst (α:=t.T) (β:=Ty.Ts (t2::ts)) x)∧Ty.cN (t2::ts) (Prod.snd (α:=t.T) (β:=Ty.Ts (t2::ts)) x)
end
section
variable {w:World} {I:Nat→Prop}
mutual
theorem aS.has:∀(t:Ty) {cs:List Value} {x:t.T},aS w I t cs x→t.has x
 | .int k,cs,x,h=>by rw[Ty.has];exact(nz.1 h).2
 | .bool,cs,x,h=>by rw[Ty.has];trivial
 | .str,cs,x,h=>by rw[Ty.has];exact(uZ.1 h).2
 | .slice t,cs,x,h=>by
   rw[Ty.has]
   obtain⟨a,cap,h1,h2,h3,h4,h5⟩:=bE.1 h
   refine⟨h3,fun y hy=>?_⟩
   obtain⟨i,hi⟩:=List.getElem?_of_mem hy
   obtain⟨b,off,us,_,_,_,_,hr⟩:=h5 i y hi
   exact aS.has t hr
 | .arr n t,cs,x,h=>by
   rw[Ty.has]
   obtain⟨h1,h2,h3⟩:=uD.1 h
   refine⟨h1,fun y hy=>?_⟩
   obtain⟨i,hi⟩:=List.getElem?_of_mem hy
   exact aS.has t (h3 i y hi)
 | .struct ts,cs,x,h=>by rw[Ty.has];exact bM.has ts (qT.1 h)
 | .any n,cs,x,h=>by rw[Ty.has];trivial
theorem bM.has:∀(ts:List Ty) {cs:List Value} {x:Ty.Ts ts},bM w I ts cs x→Ty.cN ts x
 | [],cs,x,h=>by rw[Ty.cN];trivial
 | [t],cs,x,h=>by rw[Ty.cN];exact aS.has t (vZ.1 h)
 | t::t2::ts,cs,x,h=>by
   rw[Ty.cN]
   rw[bM] at h
   obtain⟨us,vs,_,h1,h2⟩:=h
   exact⟨aS.has t h1,bM.has (t2::ts) h2⟩
end
theorem gJ.has{t:Ty}{v:Value}{x:t.T}(h:gJ w I t v x):t.has x:=by
 unfold gJ at h
 split at h
 ·obtain⟨us,_,h⟩:=h;exact h.has
 ·exact h.has
theorem dF.has:∀{ts:List Ty} {vs:List Value} {x:Ty.Ts ts},dF w I ts vs x→Ty.cN ts x
 | [],vs,x,h=>by rw[Ty.cN];trivial
 | [t],vs,x,h=>by
   rw[Ty.cN]
   rw[dF] at h
   obtain⟨v,_,h⟩:=h
   exact h.has
 | t::t2::ts,vs,x,h=>by
   rw[Ty.cN]
   rw[dF] at h
   obtain⟨v,r,_,h1,h2⟩:=h
   exact⟨h1.has,h2.has⟩
end
theorem Gq{os:Array Oper}:(List.range os.size).map (fun i=>os[i]?)=os.toList.map some:=by
 apply List.ext_getElem?
 intro j
 have e:os.toList[j]? = os[j]? :=Array.getElem?_toList
 rw[List.getElem?_map,List.getElem?_map,e]
 by_cases hj:j<os.size
 ·rw[List.getElem?_range hj,Option.map_some,Array.getElem?_eq_getElem hj];rfl
 ·rw[List.getElem?_eq_none (by simpa using hj),Array.getElem?_eq_none (by omega)];rfl
structure Closed{R:Type}(E:eB R)(Q:R→Prop)(G:eD→Prop):Prop where
 go:∀(n:Nat) (c:eD),Tr.Ok Q G (run ah E n (advance E.cZ c))→G c
section
variable {P:Program} {R:Type} {E:eB R} {w0:iP} {I0:Nat→Prop} {f0:FuncId} {Fin:R→Value→World→Prop} {Q:R→Prop}
theorem Er(hP:Fits P E Fin w0 I0){c:eD}(hg:Good P E w0 I0 f0 Fin Q (advance E.cZ c)):Good P E w0 I0 f0 Fin Q c:=by
 obtain⟨frames,m⟩:=c
 cases frames with
 | nil=>exact hg
 | cons f fs=>
   obtain⟨fn,nn,env,todo,marks,cK⟩:=f
   cases todo with
   | nil=>exact hg
   | cons i k=>
     cases i with
     | inLoop b=>
       intro _ S fr frs cs w hW hI hF hB
       obtain⟨dL,frs',e,hf,hfs⟩:=hF
       cases e
       obtain⟨it,kc,ht,h1,h2⟩:=hf.todo.cons_inv
       have h1:it=.inLoop b∨it=.code (.loop b):=h1
       have hst:step P (lone fr (frs++cs) w)=.next (lone {fr with todo:=.code b :: .inLoop b::kc} (frs++cs) w):=by
        rcases h1 with rfl|rfl
        ·exact C7 hf.mode ht
        ·exact JP hf.mode ht
       refine fM hW hI hf hfs hB (fun x=>jm fun a ha=>by cases ha;rfl) hst h2.inLoop.code (.mk trivial (.mk trivial hf.live.tail)) (fun a ha=>?_) hg
       rcases List.mem_cons.1 ha with rfl|ha
       ·rfl
       ·rcases List.mem_cons.1 ha with rfl|ha
        ·rfl
        ·exact hf.flat a ha
     | code x=>
       cases x with
       | region id os draw=>
         cases draw with
         | false=>
           intro _ S fr frs cs w hW hI hF hB
           obtain⟨dL,frs',e,hf,hfs⟩:=hF
           cases e
           obtain⟨it,kc,ht,h1,h2⟩:=hf.todo.cons_inv
           have h1:it=.code (.region id os false):=h1
           subst h1
           refine fM hW hI hf hfs hB (fun x=>jm fun a ha=>by cases ha;rfl) (C_ hf.mode ht) (.mk (a:=.ops os os.toList) ⟨_,rfl,Gq⟩ h2) (.mk trivial hf.live.tail) (fun a ha=>?_) hg
           rcases List.mem_cons.1 ha with rfl|ha
           ·rfl
           ·exact hf.flat a ha
         | true=>
           simp only[advance] at hg
           cases hd:kQ E.cZ os with
           | none=>rw[hd] at hg;exact hg
           | some q=>
             obtain⟨ms,is⟩:=q
             rw[hd] at hg
             intro _ S fr frs cs w hW hI hF hB
             obtain⟨dL,frs',e,hf,hfs⟩:=hF
             cases e
             exact A7 hP hd hg hW hI hf hfs hB
       | _=>exact hg
     | _=>exact hg
theorem jN(hP:Fits P E Fin w0 I0):Closed E Q (Good P E w0 I0 f0 Fin Q):=
 ⟨fun n c h=>Er hP (jQ hP n _ h)⟩
def TN(w0:World)(I0:Nat→Prop)(res:List Ty)(y:Ty.Ts res)(v:Value)(w':World):Prop:=
 w'.os=w0.os∧w'.tape=w0.tape∧w'.output=w0.output∧w0.heap.size≤w'.heap.size∧(∀b,b<w0.heap.size→w'.heap[b]? = w0.heap[b]?)∧
  ∃I',(∀b,I' b→I0 b∨(w0.heap.size≤b∧b<w'.heap.size))∧kt w' I' res v y
theorem jC{w1:World}{b:Nat}(h:(World.whole w1).free b):w1.heap.size≤b:=h.elim id fun k=>k.elim
theorem tN{w1:World}{S:St}{w:World}{m:Mem}{av:AV}{res:List Ty}{y:Ty.Ts res}{v:Value}(hW:WR (World.whole w1) w S m)(hI:∀b,S.I b→I0 b∨(World.whole w1).free b)(h:Bt ah res av m=some y)(hc:CR w S m av v):TN w1 I0 res y v w:=by
 have main:∀(vs:List AV) (us:List Value),cn res vs=true→bC w S m vs us→(match bO ah res m (vs.flatMap AV.cells) with
   | none=>none
   | some (_,cs)=>match jT res cs with
     | some (y, [])=>some y
     | _=>none)=some y→∃I',(∀b,I' b→I0 b∨(w1.heap.size≤b∧b<w.heap.size))∧dF w I' res us y:=by
  intro vs us hok hcs h
  obtain⟨L,hL,hrep⟩:=jf hok hcs
  cases hf:bO ah res m (vs.flatMap AV.cells) with
  | none=>rw[hf] at h;cases h
  | some q=>
    obtain⟨m1,cs1⟩:=q
    rw[hf] at h
    simp only at h
    obtain⟨S1,s1,hc1⟩:=dE hW hf hL
    cases htd:jT res cs1 with
    | none=>rw[htd] at h;cases h
    | some q=>
      obtain⟨x,r⟩:=q
      rw[htd] at h
      cases r with
      | cons _ _=>cases h
      | nil=>
        cases h
        obtain⟨u1,u2,e,hx,hr⟩:=iC res htd hc1
        have hu2:=aL.1 hr
        rw[hu2,List.append_nil] at e
        rw[←e] at hx
        refine⟨S1.I,fun b hb=>?_,hrep _ y hx⟩
        rcases s1.grows b hb with h|h
        ·rcases hI b h with h|h
         ·exact .inl h
         ·exact .inr ⟨jC h,s1.wr.jl b hb⟩
        ·exact .inr ⟨jC h,s1.wr.jl b hb⟩
 refine⟨hW.os,hW.tape.1,hW.output,hW.size,fun b hb=>hW.base b fun k=>absurd (jC k) (Nat.not_le_of_lt hb),?_⟩
 unfold Bt at h
 match res,y,h,main with
 | [],y,h1,main=>
   obtain⟨vs,rfl⟩:∃vs,av=.qS vs:=by cases av<;>first|exact⟨_,rfl⟩|(exact absurd h1 (fun e=>by cases e))
   obtain⟨us,rfl,hcs⟩:=fC.1 hc
   simp only at h1
   cases hok:cn [] vs with
   | false=>rw[hok] at h1;cases h1
   | true=>
     rw[hok] at h1
     obtain⟨I',k1,k2⟩:=main vs us.toList hok hcs h1
     rw[dF] at k2
     exact⟨I',k1,by rw[kt,Array.toList_eq_nil_iff.1 k2]⟩
 | [t],y,h1,main=>
   simp only at h1
   cases hok:cn [t] [av] with
   | false=>rw[hok] at h1;cases h1
   | true=>
     rw[hok] at h1
     obtain⟨I',k1,k2⟩:=main [av] [v] hok (aV.2 ⟨v, [],rfl,hc,aL.2 rfl⟩) h1
     rw[dF] at k2
     obtain⟨v',e,k2⟩:=k2
     cases e
     exact⟨I',k1,by rw[kt];exact k2⟩
 | t::t2::ts,y,h1,main=>
   obtain⟨vs,rfl⟩:∃vs,av=.qS vs:=by cases av<;>first|exact⟨_,rfl⟩|(exact absurd h1 (fun e=>by cases e))
   obtain⟨us,rfl,hcs⟩:=fC.1 hc
   simp only at h1
   cases hok:cn (t::t2::ts) vs with
   | false=>rw[hok] at h1;cases h1
   | true=>
     rw[hok] at h1
     obtain⟨I',k1,k2⟩:=main vs us.toList hok hcs h1
     exact⟨I',k1,by rw[kt];exact⟨us,rfl,k2⟩⟩
structure Base{R:Type}(P:Program)(E:eB R):Prop where
 ti:iV P E.ti
 dx:∀g F,look E.dx g=some F→P.funcs[g]? = some F∧(F.name == "runtime.NumGoroutine")=false
 cZ:∀g s,look E.cZ g=some s→s.Sound P g
 mixed:P.follows .mixedOrders=true
 jH:∀g s,look E.jH g=some s→s.Sound P g
 kR:∀g s,look E.kR g=some s→s.Sound P g
 jP:∀g s,look E.jP g=some s→s.Sound P g
 ops:∀g s,look E.ops g=some s→s.Sound P g
theorem Ac{w:World}{I:Nat→Prop}(hI:∀b,I b→b<w.heap.size):WR (World.whole w) w {σ:=fun _=>0,δ:=fun _=>0,I:=I} []:=
 ⟨rfl,⟨rfl,fun _=>Nat.le_refl _⟩,rfl,Nat.le_refl _,fun _ _=>rfl,hI,fun _=>trivial,fun _ _ h=>(by cases h),fun _ h=>(by cases h),fun _ h=>(by cases h),fun _ h=>(by cases h),fun _ _ h=>(by simp[World.whole] at h),fun b us T fr h=>⟨us,T,fr,h,rfl⟩⟩
theorem uo{g:FuncId}{F:Func}{s:ax}{E:eB (Ty.Ts s.res)}(hE:Base P E)(hfin:E.fin=Bt ah s.res)(hg:look E.dx g=some F)(hb:F.body.isSome=true)(n:Nat)
  (h:∀x,s.pre x=true→Ty.cN s.args x→∃h0,dV g F (cq ah s.args x)=some h0∧∀G,Closed E (fun y=>y=s.fn x) G→Tr.Ok (fun y=>y=s.fn x) G (run ah E n {frames:=[h0],mem:=[]})):s.Sound P g:=by
 obtain⟨hF,hn⟩:=hE.dx g F hg
 refine⟨fun w I x aa hI hrep hpre cs=>?_,F,hF,hb,hn⟩
 obtain⟨h0,hen,hok⟩:=h x hpre hrep.has
 have hP:Fits P E (TN w I s.res) (World.whole w) I:=⟨hE.ti,hE.dx,hE.cZ,hE.mixed,fun S w' m av y v hW hI' hf hc=>tN hW hI' (by rw[←hfin];exact hf) hc,hE.jH,hE.kR,hE.jP,hE.ops,Nat.zero_le _,fun k=>False.elim k⟩
 have hgood:=jQ hP (Q:=fun y=>y=s.fn x) (f0:=g) n _ (hok _ (jN hP))
 have hW:=Ac hI
 obtain⟨hfr,_,hnd⟩:=fJ hF hen (jg (S:={σ:=fun _=>0,δ:=fun _=>0,I:=I}) (m:=[]) (fun b hb=>hb) hrep)
 have hB:ta g [h0]:=by
  unfold dV at hen
  cases hbb:F.body with
  | none=>rw[hbb] at hen;cases hen
  | some b=>
    rw[hbb] at hen
    simp only at hen
    split at hen
    ·cases hen;exact(rfl:g=g)
    ·cases hen
 obtain⟨y,v,w',dL,hy,hfi,hsteps,hfn,hleave⟩:=hgood (df hnd) _ _ [] cs w hW (fun b hb=>.inl hb) ⟨_,_,rfl,hfr,rfl⟩ hB
 obtain⟨g1,g2,g3,g4,g5,I',g6,g7⟩:=hfi
 exact⟨.returned v,w',dL,⟨v,rfl,g1,g2,g3,g4,g5,I',g6,by rw[←hy];exact g7⟩,hsteps,hfn,hleave⟩
theorem WR.plain{o w:World}{S:St}{m:Mem}(h:WR (World.EP o) w S m):WR (World.whole o) w S m:=
 ⟨h.os,⟨h.tape.1,fun k=>False.elim k⟩,h.output,h.size,h.base,h.jl,h.box,h.inj,h.lo,h.lT,h.Cu,h.root,h.cells⟩
theorem Ll{w:World}{I:Nat→Prop}(hI:∀b,I b→b<w.heap.size):WR (World.EP w) w {σ:=fun _=>0,δ:=fun _=>0,I:=I} []:=
 ⟨rfl,⟨rfl,fun _=>Nat.le_refl _⟩,rfl,Nat.le_refl _,fun _ _=>rfl,hI,fun _=>trivial,fun _ _ h=>(by cases h),fun _ h=>(by cases h),fun _ h=>(by cases h),fun _ h=>(by cases h),fun _ _ h=>(by simp[World.EP] at h),fun b us T fr h=>⟨us,T,fr,h,rfl⟩⟩
theorem Co{g:FuncId}{F:Func}{s:ax}{E:eB (Ty.Ts s.res)}(hE:Base P E)(hfin:E.fin=Bt ah s.res)(hg:look E.dx g=some F)(hno:(∀g s,look E.cZ g=some s→s.jD P g)∧E.jH=[]∧E.kR=[]∧E.jP=[]∧E.ops=[])(n:Nat)
  (h:∀x,s.pre x=true→Ty.cN s.args x→∃h0,dV g F (cq ah s.args x)=some h0∧∀G,Closed E (fun y=>y=s.fn x) G→Tr.Ok (fun y=>y=s.fn x) G (run ah E n {frames:=[h0],mem:=[]})):s.jD P g:=by
 obtain⟨hF,hn⟩:=hE.dx g F hg
 intro w I x aa hI hrep hpre cs
 obtain⟨h0,hen,hok⟩:=h x hpre hrep.has
 have hP:Fits P E (fun y v w'=>w.drawn≤w'.drawn∧TN w I s.res y v w') (World.EP w) I:=⟨hE.ti,hE.dx,hE.cZ,hE.mixed,fun S w' m av y v hW hI' hf hc=>⟨hW.tape.2 trivial,tN hW.plain hI' (by rw[←hfin];exact hf) hc⟩,hE.jH,hE.kR,hE.jP,hE.ops,Nat.zero_le _,fun _=>hno⟩
 have hgood:=jQ hP (Q:=fun y=>y=s.fn x) (f0:=g) n _ (hok _ (jN hP))
 have hW:=Ll hI
 obtain⟨hfr,_,hnd⟩:=fJ hF hen (jg (S:={σ:=fun _=>0,δ:=fun _=>0,I:=I}) (m:=[]) (fun b hb=>hb) hrep)
 have hB:ta g [h0]:=by
  unfold dV at hen
  cases hbb:F.body with
  | none=>rw[hbb] at hen;cases hen
  | some b=>
    rw[hbb] at hen
    simp only at hen
    split at hen
    ·cases hen;exact(rfl:g=g)
    ·cases hen
 obtain⟨y,v,w',dL,hy,hfi,hsteps,hfn,hleave⟩:=hgood (df hnd) _ _ [] cs w hW (fun b hb=>.inl hb) ⟨_,_,rfl,hfr,rfl⟩ hB
 obtain⟨g0,g1,g2,g3,g4,g5,I',g6,g7⟩:=hfi
 exact⟨.returned v,w',dL,⟨g0,v,rfl,g1,g2,g3,g4,g5,I',g6,by rw[←hy];exact g7⟩,hsteps,hfn,hleave⟩
mutual
theorem aS.anyI{w:World}{I I':Nat→Prop}:∀(t:Ty) {cs:List Value} {x:t.T},t.scalar=true→aS w I t cs x→aS w I' t cs x
 | .int k,cs,x,_,h=>by rw[aS] at h ⊢;exact h
 | .bool,cs,x,_,h=>by rw[aS] at h ⊢;exact h
 | .str,cs,x,_,h=>by rw[aS] at h ⊢;exact h
 | .slice t,cs,x,ht,h=>by cases ht
 | .arr n t,cs,x,ht,h=>by
   rw[aS] at h ⊢
   exact⟨h.1,h.2.1,fun i y hy=>aS.anyI t (by rw[Ty.scalar] at ht;exact ht) (h.2.2 i y hy)⟩
 | .struct ts,cs,x,ht,h=>by rw[aS] at h ⊢;exact bM.anyI ts (by rw[Ty.scalar] at ht;exact ht) h
 | .any n,cs,x,ht,h=>by cases ht
theorem bM.anyI{w:World}{I I':Nat→Prop}:∀(ts:List Ty) {cs:List Value} {x:Ty.Ts ts},Ty.scalars ts=true→bM w I ts cs x→bM w I' ts cs x
 | [],cs,x,_,h=>by rw[bM] at h ⊢;exact h
 | [t],cs,x,ht,h=>by rw[bM] at h ⊢;exact aS.anyI t (by simpa [Ty.scalars] using ht) h
 | t::t2::ts,cs,x,ht,h=>by
   rw[bM] at h ⊢
   rw[Ty.scalars,cd] at ht
   obtain⟨us,vs,h0,h1,h2⟩:=h
   exact⟨us,vs,h0,aS.anyI t ht.1 h1,bM.anyI (t2::ts) ht.2 h2⟩
end
theorem gJ.anyI{w:World}{I I':Nat→Prop}{t:Ty}{v:Value}{x:t.T}(ht:t.scalar=true)(h:gJ w I t v x):gJ w I' t v x:=by
 unfold gJ at h ⊢
 split at h
 ·rename_i hg;rw[if_pos hg];obtain⟨us,e,h⟩:=h;exact⟨us,e,aS.anyI t ht h⟩
 ·rename_i hg;rw[if_neg hg];exact aS.anyI t ht h
theorem dF.anyI{w:World}{I I':Nat→Prop}:∀{ts:List Ty} {vs:List Value} {x:Ty.Ts ts},Ty.scalars ts=true→dF w I ts vs x→dF w I' ts vs x
 | [],vs,x,_,h=>by rw[dF] at h ⊢;exact h
 | [t],vs,x,ht,h=>by
   rw[dF] at h ⊢
   obtain⟨v,e,h⟩:=h
   exact⟨v,e,gJ.anyI (by simpa [Ty.scalars] using ht) h⟩
 | t::t2::ts,vs,x,ht,h=>by
   rw[dF] at h ⊢
   rw[Ty.scalars,cd] at ht
   obtain⟨v,r,e,h1,h2⟩:=h
   exact⟨v,r,e,gJ.anyI ht.1 h1,dF.anyI ht.2 h2⟩
theorem kt.anyI{w:World}{I I':Nat→Prop}:∀{res:List Ty} {v:Value} {y:Ty.Ts res},Ty.scalars res=true→kt w I res v y→kt w I' res v y
 | [],v,y,_,h=>by rw[kt] at h ⊢;exact h
 | [t],v,y,ht,h=>by rw[kt] at h ⊢;exact gJ.anyI (by simpa [Ty.scalars] using ht) h
 | t::t2::ts,v,y,ht,h=>by
   rw[kt] at h ⊢
   obtain⟨us,e,h⟩:=h
   exact⟨us,e,dF.anyI ht h⟩
theorem Ck{g:FuncId}{F:Func}{s:gy}{E:eB (Ty.Ts s.res)}(hE:Base P E)(hfin:E.fin=Bt ah s.res)(hg:look E.dx g=some F)(hb:F.body.isSome=true)(n:Nat)(hsc:Ty.scalars s.res=true)
  (h:∀x y,s.pre (x,y)=true→s.view.has x→Ty.cN s.args y→∃h0,dV g F (.jA s.view x 0::cq ah s.args y)=some h0∧∀G,Closed E (fun r=>r=s.fn (x,y)) G→Tr.Ok (fun r=>r=s.fn (x,y)) G (run ah E n {frames:=[h0],mem:=[]})):s.Sound P g:=by
 obtain⟨hF,hn⟩:=hE.dx g F hg
 refine⟨fun w I x y b us T fr aa hI hh hx hy hpre cs=>?_,F,hF,hb,hn⟩
 obtain⟨h0,hen,hok⟩:=h x y hpre hx.has hy.has
 have hbw:b<w.heap.size:=(Array.getElem?_eq_some_iff.1 hh).1
 have hI0:∀c,(I c∨c=b)→c<w.heap.size:=fun c hc=>hc.elim (hI c) (fun e=>e▸hbw)
 have hmn:∀c,I c→(I c∨c=b)∧w.heap[c]? = w.heap[c]? :=fun c hc=>⟨.inl hc,rfl⟩
 have hP:Fits P E (TN w (fun c=>I c∨c=b) s.res) (World.whole w) (fun c=>I c∨c=b):=⟨hE.ti,hE.dx,hE.cZ,hE.mixed,fun S w' m av y v hW hI' hf hc=>tN hW hI' (by rw[←hfin];exact hf) hc,hE.jH,hE.kR,hE.jP,hE.ops,Nat.zero_le _,fun k=>False.elim k⟩
 have hgood:=jQ hP (Q:=fun r=>r=s.fn (x,y)) (f0:=g) n _ (hok _ (jN hP))
 have hW:=Ac hI0
 have hargs:bC w {σ:=fun _=>0,δ:=fun _=>0,I:=fun c=>I c∨c=b} [] (.jA s.view x 0::cq ah s.args y) (Value.pointer (some ⟨b,0,none⟩)::aa).toArray.toList:=by
  refine aV.2 ⟨_,_,rfl,nK.2 ⟨b,0,us.toList,rfl,.inr rfl,aS.length _ hx,?_,aS.mono hmn _ hx⟩,jg (I:=I) (fun c hc=>Or.inl hc) hy⟩
  have:=dQ (w:=w) hh 0 us.size
  rwa [List.drop_zero,List.take_of_length_le (by simp)] at this
 obtain⟨hfr,_,hnd⟩:=fJ hF hen hargs
 have hB:ta g [h0]:=by
  unfold dV at hen
  cases hbb:F.body with
  | none=>rw[hbb] at hen;cases hen
  | some b=>
    rw[hbb] at hen
    simp only at hen
    split at hen
    ·cases hen;exact(rfl:g=g)
    ·cases hen
 obtain⟨r,v,w',dL,hr,hfi,hsteps,hfn,hleave⟩:=hgood (df hnd) _ _ [] cs w hW (fun b hb=>.inl hb) ⟨_,_,rfl,hfr,rfl⟩ hB
 obtain⟨g1,g2,g3,g4,g5,I',g6,g7⟩:=hfi
 exact⟨.returned v,w',dL,⟨v,rfl,g1,g2,g3,g4,g5,by rw[←hr];exact kt.anyI hsc g7⟩,hsteps,hfn,hleave⟩
end
def World.with(w:World)(B:List Nat)(rs:List (Nat×Option Nat)):iP:={w with X:=fun b=>b∈B,R:=rs}
def Cn(rs:List Nat):List (Nat×Option Nat):=rs.map fun b=>(b,none)
def aeQ(w0:World)(I0:Nat→Prop)(B rs:List Nat)(rp:Bool)(ptrs:List VF)(res:List Ty)(y:Ty.Ts (VF.fQ ptrs)×Ty.Ts res)(v:Value)(w':World):Prop:=
 w'.os=w0.os∧w'.tape=w0.tape∧w'.output=w0.output∧w0.heap.size≤w'.heap.size∧(∀b,b<w0.heap.size→b ∉ B→w'.heap[b]? = w0.heap[b]?)∧
  ∃(I':Nat→Prop) (B':List Nat),(∀b,I' b→(I0 b∨b∈B∨w0.heap.size≤b)∧b<w'.heap.size)∧(∀(b:Nat) (us:Array Value) (T:TypeId) (fr:Nat×Nat),w0.heap[b]? = some (.cells us T fr)→∃(dS:Array Value) (T':TypeId) (dL:Nat×Nat),w'.heap[b]? = some (.cells dS T' dL)∧dS.size=us.size)∧nA w' I' ptrs (h_ rs) y.1 B'∧B'.Nodup∧(∀b∈B',(b∈B∨w0.heap.size≤b)∧¬I' b)∧Nk w' I' rp rs res v y.2
theorem Ag{w0:iP}{w:World}{S:St}{m:Mem}(hW:WR w0 w S m):∀{ptrs:List VF} {k:Nat} {rs:List Nat} {x:Ty.Ts (VF.fQ ptrs)} {ids:List Nat},dB ptrs=true→(∀i b,rs[i]? = some b→S.σ (k+i)=b)→rs.length=ptrs.length→
  VF.reads m ptrs ((List.range ptrs.length).map fun i=>AV.ptr (k+i) 0)=some (x,ids, [])→bC w S m ((List.range ptrs.length).map fun i=>AV.ptr (k+i) 0) (h_ rs)
 | [],k,rs,x,ids,_,_,hl,_=>by
   have:rs=[]:=List.length_eq_zero_iff.1 hl
   subst this
   exact aL.2 rfl
 | f::fs,k, [],x,ids,_,_,hl,_=>by cases hl
 | f::fs,k,r::rs,x,ids,hp,hr,hl,h=>by
   have e:(List.range (f::fs).length).map (fun i=>AV.ptr (k+i) 0)=AV.ptr k 0::(List.range fs.length).map fun i=>AV.ptr (k+1+i) 0:=by
    rw[List.length_cons,List.range_succ_eq_map,List.map_cons,List.map_map]
    congr 1
    refine List.map_congr_left fun i _=>?_
    simp only[Function.comp,Nat.succ_eq_add_one]
    rw[Nat.add_assoc,Nat.add_comm 1 i]
   rw[e] at h ⊢
   obtain⟨hf,hp⟩:=dA hp
   have one:∀{y:f.ty.T} {is:List Nat} {r1:List AV},VF.read m f (AV.ptr k 0::(List.range fs.length).map fun i=>AV.ptr (k+1+i) 0)=some (y,is,r1)→CR w S m (.ptr k 0) (.pointer (some ⟨r,0,none⟩))∧r1=(List.range fs.length).map fun i=>AV.ptr (k+1+i) 0:=by
    intro y is r1 h
    generalize f.sub=gs at hf
    rcases hf with rfl|rfl
    all_goals
     simp only[VF.read] at h
     cases hm:m.at k<;>rw[hm] at h<;>(try simp only at h)<;>try (cases h;done)
     case flat fz l=>
      cases fz<;>(try (cases h;done))
      simp only at h
      refine⟨?_,?_⟩
      ·rw[CR,hm]
       show Value.pointer _=_
       rw[←hr 0 r rfl];rfl
      ·cases hrd:VF.reads m gs l with
       | none=>rw[hrd] at h;cases h
       | some q=>
         obtain⟨y',is',r'⟩:=q
         rw[hrd] at h
         cases r' with
         | cons _ _=>cases h
         | nil=>
           cases h
           rfl
   cases fs with
   | nil=>
     have hrs:rs=[]:=List.length_eq_zero_iff.1 (by simpa using hl)
     subst hrs
     simp only[VF.reads] at h
     exact aV.2 ⟨_,_,rfl,(one h).1,aL.2 rfl⟩
   | cons g fs=>
     simp only[VF.reads] at h
     cases h1:VF.read m f (AV.ptr k 0::(List.range (g::fs).length).map fun i=>AV.ptr (k+1+i) 0) with
     | none=>rw[h1] at h;cases h
     | some p=>
       obtain⟨a,i1,r1⟩:=p
       rw[h1] at h
       simp only at h
       obtain⟨c1,e1⟩:=one h1
       cases h2:VF.reads m (g::fs) r1 with
       | none=>rw[h2] at h;cases h
       | some q=>
         obtain⟨b,i2,r2⟩:=q
         rw[h2] at h
         simp only[Option.some.injEq,Prod.mk.injEq] at h
         obtain⟨_,_,rfl⟩:=h
         rw[e1] at h2
         exact aV.2 ⟨_,_,rfl,c1,Ag hW hp (fun i b hb=>by rw[Nat.add_assoc,Nat.add_comm 1 i];exact hr (i+1) b hb) (by simpa using hl) h2⟩
theorem HE{k n:Nat}:b_ ((List.range n).map fun i=>AV.ptr (k+i) 0)=(List.range n).map (k + ·):=by
 induction List.range n with
 | nil=>rfl
 | cons a l ih=>rw[List.map_cons,b_,List.map_cons,ih]
theorem HZ{w1:World}{S:St}{w:World}{m:Mem}{av:AV}{I0:Nat→Prop}{B rs:List Nat}{rp:Bool}{ptrs:List VF}{res:List Ty}{y:Ty.Ts (VF.fQ ptrs)×Ty.Ts res}{v:Value}(hk:rs.length=ptrs.length)(hW:WR (World.with w1 B (Cn rs)) w S m)
  (hI:∀b,S.I b→I0 b∨(World.with w1 B (Cn rs)).free b) (h:Tq ah rp ptrs res av m=some y) (hc:CR w S m av v):aeQ w1 I0 B rs rp ptrs res y v w:=by
 have main:∀(vs:List AV) (us:List Value),cn res vs=true→bC w S m vs us→(match bO ah res m (vs.flatMap AV.cells) with
   | none=>none
   | some (m,cs)=>match jT res cs with
     | some (y, [])=>match VF.reads m ptrs (fE ptrs.length) with
       | some (x,ids, [])=>match nodupB ids&&dB ptrs with
         | true=>some (x,y)
         | false=>none
       | _=>none
     | _=>none)=some y→∃(I':Nat→Prop) (B':List Nat),(∀b,I' b→(I0 b∨b∈B∨w1.heap.size≤b)∧b<w.heap.size)∧nA w I' ptrs (h_ rs) y.1 B'∧B'.Nodup∧(∀b∈B',(b∈B∨w1.heap.size≤b)∧¬I' b)∧dF w I' res us y.2:=by
  intro vs us hok hcs h
  obtain⟨L,hL,hrep⟩:=jf hok hcs
  cases hf:bO ah res m (vs.flatMap AV.cells) with
  | none=>rw[hf] at h;cases h
  | some q=>
    obtain⟨m1,cs1⟩:=q
    rw[hf] at h
    simp only at h
    obtain⟨S1,s1,hc1⟩:=dE hW hf hL
    cases htd:jT res cs1 with
    | none=>rw[htd] at h;cases h
    | some q=>
      obtain⟨x,r⟩:=q
      rw[htd] at h
      cases r with
      | cons _ _=>cases h
      | nil=>
        simp only at h
        obtain⟨u1,u2,e,hx,hr⟩:=iC res htd hc1
        have hu2:=aL.1 hr
        rw[hu2,List.append_nil] at e
        rw[←e] at hx
        cases hrd:VF.reads m1 ptrs (fE ptrs.length) with
        | none=>rw[hrd] at h;cases h
        | some q=>
          obtain⟨z,ids,r⟩:=q
          rw[hrd] at h
          cases r with
          | cons _ _=>cases h
          | nil=>
            simp only at h
            cases hck:nodupB ids&&dB ptrs with
            | false=>rw[hck] at h;cases h
            | true=>
              rw[hck] at h
              cases h
              rw[cd] at hck
              have e0:fE ptrs.length=(List.range ptrs.length).map fun i=>AV.ptr (0+i) 0:=by
               rw[fE];exact List.map_congr_left fun i _=>by rw[Nat.zero_add]
              have hcr:bC w S1 m1 (fE ptrs.length) (h_ rs):=by
               rw[e0] at hrd ⊢
               exact Ag s1.wr hck.2 (fun i b hb=>by rw[Nat.zero_add];exact(s1.wr.root i (b,none) (by show(Cn rs)[i]? = _;rw[Cn,List.getElem?_map,hb];rfl)).2.1) hk hrd
              obtain⟨v1,v2,js,e3,hr3,hsub,hlv,hob,hvr⟩:=VF.jL s1.wr ptrs hrd hcr
              rw[aL.1 hr3,List.append_nil] at e3
              rw[←e3] at hvr
              obtain⟨b1,b2,b3,b4⟩:=pP s1.wr (kS hck.1) hsub hlv
              refine⟨S1.I,js.map S1.σ,fun b hb=>⟨?_,s1.wr.jl b hb⟩,hvr,b1,fun b hb=>⟨(b3 b hb).elim .inr .inl,b2 b hb⟩,hrep _ _ hx⟩
              rcases s1.grows b hb with h|h
              ·rcases hI b h with h|h
               ·exact .inl h
               ·exact .inr (h.elim .inr .inl)
              ·exact .inr (h.elim .inr .inl)
 refine⟨hW.os,hW.tape.1,hW.output,hW.size,fun b hb hB=>hW.base b fun k=>k.elim (fun k=>absurd k (Nat.not_le_of_lt hb)) hB,?_⟩
 unfold Tq at h
 cases rp with
 | true=>
   simp only at h
   unfold afA at h
   cases av<;>try (cases h;done)
   rename_i i d
   simp only at h
   cases hq:Nat.beq i 0&&(Nat.beq d 0&&Nat.ble 1 ptrs.length) with
   | false=>rw[hq] at h;cases h
   | true=>
     rw[hq] at h
     simp only at h
     have hq:=(cd _ _).mp hq
     have hq2:=(cd _ _).mp hq.2
     cases mI hq.1
     cases mI hq2.1
     have h1:=oX hq2.2
     cases hm:m.at 0<;>rw[hm] at h<;>try (cases h;done)
     simp only at h
     cases hok:cn res [] with
     | false=>rw[hok] at h;cases h
     | true=>
       rw[hok] at h
       obtain⟨I',B',k1,k2,k3,k4,_⟩:=main [] [] hok (aL.2 rfl) h
       refine⟨I',B',k1,hW.cells,k2,k3,k4,?_⟩
       cases rs with
       | nil=>rw[←hk] at h1;cases h1
       | cons b rs=>
         have e:=(hW.root 0 (b,none) rfl).2.1
         rw[CR,hm] at hc
         rw[hc]
         show some (Value.pointer (some ⟨b,0,none⟩))=_
         rw[show S.σ 0=b from e]
 | false=>
 simp only at h
 match res,y,h,main with
 | [],y,h1,main=>
   obtain⟨vs,rfl⟩:∃vs,av=.qS vs:=by cases av<;>first|exact⟨_,rfl⟩|(exact absurd h1 (fun e=>by cases e))
   obtain⟨us,rfl,hcs⟩:=fC.1 hc
   simp only at h1
   cases hok:cn [] vs with
   | false=>rw[hok] at h1;cases h1
   | true=>
     rw[hok] at h1
     obtain⟨I',B',k1,k2,k3,k4,k5⟩:=main vs us.toList hok hcs h1
     rw[dF] at k5
     exact⟨I',B',k1,hW.cells,k2,k3,k4,by rw[Nk,kt,Array.toList_eq_nil_iff.1 k5]⟩
 | [t],y,h1,main=>
   simp only at h1
   cases hok:cn [t] [av] with
   | false=>rw[hok] at h1;cases h1
   | true=>
     rw[hok] at h1
     obtain⟨I',B',k1,k2,k3,k4,k5⟩:=main [av] [v] hok (aV.2 ⟨v, [],rfl,hc,aL.2 rfl⟩) h1
     rw[dF] at k5
     obtain⟨v',e,k5⟩:=k5
     cases e
     exact⟨I',B',k1,hW.cells,k2,k3,k4,by rw[Nk,kt];exact k5⟩
 | t::t2::ts,y,h1,main=>
   obtain⟨vs,rfl⟩:∃vs,av=.qS vs:=by cases av<;>first|exact⟨_,rfl⟩|(exact absurd h1 (fun e=>by cases e))
   obtain⟨us,rfl,hcs⟩:=fC.1 hc
   simp only at h1
   cases hok:cn (t::t2::ts) vs with
   | false=>rw[hok] at h1;cases h1
   | true=>
     rw[hok] at h1
     obtain⟨I',B',k1,k2,k3,k4,k5⟩:=main vs us.toList hok hcs h1
     exact⟨I',B',k1,hW.cells,k2,k3,k4,by rw[Nk,kt];exact⟨us,rfl,k5⟩⟩
mutual
theorem VR.has{w:World}{I:Nat→Prop}:∀(f:VF) {us:List Value} {x:f.ty.T} {B:List Nat},VR w I f us x B→f.ty.has x
 | .d t,us,x,B,h=>(UZ.1 h).1.has
 | .own t,us,x,B,h=>by
   show(Ty.slice t).has x
   rcases gV.1 h with ⟨e,_⟩|⟨_,b,dl,cap,_,_,_,h2,vs,T,fr,_,_,_,h6⟩
   ·have e:x=([]:List t.T):=e
    subst e
    exact⟨Nat.zero_le _,fun y hy=>absurd hy List.not_mem_nil⟩
   ·refine⟨h2,fun y hy=>?_⟩
    obtain⟨i,hi⟩:=List.getElem?_of_mem hy
    exact(h6 i y hi).has
 | .ptr fs,us,x,B,h=>by
   obtain⟨b,B',_,_,vs,T,fr,_,_,h3⟩:=vV.1 h
   show Ty.cN (VF.fQ fs) x
   exact nA.has fs h3
 | .kv fs,us,x,B,h=>by
   obtain⟨b,_,_,vs,T,fr,_,_,h3⟩:=rE.1 h
   show Ty.cN (VF.fQ fs) x
   exact nA.has fs h3
theorem nA.has{w:World}{I:Nat→Prop}:∀(fs:List VF) {us:List Value} {x:Ty.Ts (VF.fQ fs)} {B:List Nat},nA w I fs us x B→Ty.cN (VF.fQ fs) x
 | [],us,x,B,h=>trivial
 | [f],us,x,B,h=>VR.has f (nQ.1 h)
 | f::g::fs,us,x,B,h=>by
   obtain⟨u1,u2,B1,B2,_,_,h1,h2⟩:=qk.1 h
   exact⟨VR.has f h1,nA.has (g::fs) h2⟩
end
theorem yH:∀{ptrs:List VF} {m:Mem} {i:Nat},(m++holds ptrs).at (m.length+i)=match ptrs[i]? with|some f=>Aq f|none=>.bad
 | [],m,i=>by
   rw[holds,List.append_nil,List.getElem?_nil]
   rw[Mem.at,nE,List.getElem?_eq_none (by omega)];rfl
 | f::fs,m,0=>by
   rw[Mem.at,holds,List.getElem?_cons_zero,Nat.add_zero,nE,List.getElem?_append_right (Nat.le_refl _),Nat.sub_self]
   rfl
 | f::fs,m,i+1=>by
   rw[holds,List.getElem?_cons_succ,←yH (m:=m ++ [Aq f])]
   rw[List.append_assoc,gm]
   congr 1
   simp only[List.length_cons,List.length_nil];omega
theorem Bc{A:aI}:∀{ptrs:List VF} {vs:List AV} {x:Ty.Ts (VF.fQ ptrs)} {m:Mem},dB ptrs=true→vs.length=ptrs.length→(∀v∈vs,∃id off,v=.ptr id off)→∃m',VF.pR A ptrs vs x m=some m'
 | [],vs,x,m,_,_,_=>⟨m,by rw[VF.pR]⟩
 | f::fs, [],x,m,_,hl,_=>by cases hl
 | [f],v::vs,x,m,hp,hl,hv=>by
   obtain⟨id,off,rfl⟩:=hv v List.mem_cons_self
   cases f<;>simp only[dB] at hp<;>try (cases hp;done)
   all_goals exact⟨_,by simp only[VF.pR,VF.back];rfl⟩
 | f::g::fs,v::vs,x,m,hp,hl,hv=>by
   obtain⟨id,off,rfl⟩:=hv v List.mem_cons_self
   have hp':=(dA hp).2
   cases f<;>simp only[dB] at hp<;>try (cases hp;done)
   all_goals
    simp only[VF.pR,VF.back]
    exact Bc (ptrs:=g::fs) hp' (by simpa using hl) fun v h=>hv v (List.mem_cons_of_mem _ h)
theorem nA.IC{w:World}{I:Nat→Prop}:∀{ptrs:List VF} {rs:List Nat} {x:Ty.Ts (VF.fQ ptrs)} {B:List Nat},dB ptrs=true→nA w I ptrs (h_ rs) x B→rs.length=ptrs.length∧
  ∀(i:Nat) (f:VF),ptrs[i]? = some f→∃(b:Nat) (us:Array Value) (T:TypeId) (fr:Nat×Nat),rs[i]? = some b∧(f.fz=false→b∈B)∧(f.fz=true→I b)∧w.heap[b]? = some (.cells us T fr)∧fq fr us.size∧us.size=VF.gk f.sub
 | [],rs,x,B,_,h=>by
   have:rs=[]:=List.map_eq_nil_iff.1 (yn.1 h).1
   subst this
   exact⟨rfl,fun i fs h=>by simp at h⟩
 | [f], [],x,B,hp,h=>by
   have:=nA.length _ h
   obtain⟨hf,_⟩:=dA hp
   rw[show VF.gk [f]=1 from by rcases hf with h|h<;>rw[h]<;>rfl] at this
   cases this
 | f::g::fs, [],x,B,hp,h=>by
   have:=nA.length _ h
   obtain⟨hf,_⟩:=dA hp
   have h1:f.size=1:=by rcases hf with h|h<;>rw[h]<;>rfl
   rw[VF.gk,h1] at this
   have this:0=1+VF.gk (g::fs):=this
   omega
 | [f],r::rs,x,B,hp,h=>by
   obtain⟨hf,_⟩:=dA hp
   obtain⟨e,d1,d2,us,T,fr,d3,d4,d5⟩:=VR.blk hf (nQ.1 h)
   have hrs:rs=[]:=List.map_eq_nil_iff.1 e
   subst hrs
   refine⟨rfl,fun i f' hi=>?_⟩
   cases i with
   | succ i=>simp at hi
   | zero=>
     simp only[List.getElem?_cons_zero,Option.some.injEq] at hi
     subst hi
     exact⟨r,us,T,fr,rfl,d1,d2,d3,d4,d5⟩
 | f::g::fs,r::rs,x,B,hp,h=>by
   obtain⟨hf,hp'⟩:=dA hp
   obtain⟨B1,B2,rfl,k1,k2⟩:=nA.head hf h
   obtain⟨e,d1,d2,us,T,fr,d3,d4,d5⟩:=VR.blk hf k1
   obtain⟨q1,q3⟩:=nA.IC (ptrs:=g::fs) hp' k2
   refine⟨by rw[List.length_cons,q1];rfl,fun i f' hi=>?_⟩
   cases i with
   | succ i=>
     rw[List.getElem?_cons_succ] at hi
     obtain⟨b,us,T,fr,a1,a2,a3⟩:=q3 i f' hi
     exact⟨b,us,T,fr,by rw[List.getElem?_cons_succ];exact a1,fun h=>ku.2 (.inr (a2 h)),a3⟩
   | zero=>
     simp only[List.getElem?_cons_zero,Option.some.injEq] at hi
     subst hi
     exact⟨r,us,T,fr,rfl,fun h=>ku.2 (.inl (d1 h)),d2,d3,d4,d5⟩
theorem AI:∀{ptrs:List VF} {i:Nat} {f:VF},dB ptrs=true→ptrs[i]? = some f→f=.ptr f.sub∨f=.kv f.sub
 | [],i,f,_,h=>by simp at h
 | g::ptrs,0,f,hp,h=>by
   simp only[List.getElem?_cons_zero,Option.some.injEq] at h
   exact h▸(dA hp).1
 | g::ptrs,i+1,f,hp,h=>by
   rw[List.getElem?_cons_succ] at h
   exact AI (dA hp).2 h
theorem Df{f:VF}(hf:f=.ptr f.sub∨f=.kv f.sub):Aq f=.flat f.fz (List.replicate (VF.gk f.sub) .undef):=by
 generalize f.sub=gs at hf ⊢
 rcases hf with rfl|rfl<;>rfl
theorem oy{ptrs:List VF}{i:Nat}(hp:dB ptrs=true):(∃f,ptrs[i]? = some f∧(holds ptrs).at i=.flat f.fz (List.replicate (VF.gk f.sub) .undef))∨(ptrs[i]? = none∧(holds ptrs).at i=.bad):=by
 have h:=yH (ptrs:=ptrs) (m:=[]) (i:=i)
 rw[List.nil_append,List.length_nil,Nat.zero_add] at h
 cases hi:ptrs[i]? with
 | none=>rw[hi] at h;exact .inr ⟨rfl,h⟩
 | some f=>
   rw[hi] at h
   exact .inl ⟨f,rfl,h.trans (Df (AI hp hi))⟩
theorem ve:∀{ptrs:List VF},(holds ptrs).length=ptrs.length
 | []=>rfl
 | f::fs=>by rw[holds,List.length_cons,List.length_cons,ve]
def p_(rs:List Nat)(I:Nat→Prop):St:={σ:=fun i=>rs.getD i 0,δ:=fun _=>0,I:=I}
theorem QY{w:World}{I:Nat→Prop}{ptrs:List VF}{rs:List Nat}{x:Ty.Ts (VF.fQ ptrs)}{B:List Nat}(hI:∀b,I b→b<w.heap.size)(hp:dB ptrs=true)(hv:nA w I ptrs (h_ rs) x B)(hrn:rs.Nodup)(hB:∀b∈B,¬I b) :
  WR (World.with w B (Cn rs)) w (p_ rs I) (holds ptrs):=by
 obtain⟨h1,h3⟩:=hv.IC hp
 have live:∀i,((holds ptrs).at i).bd=true→∃(f:VF) (b:Nat) (us:Array Value) (T:TypeId) (fr:Nat×Nat),((holds ptrs).at i).i_=f.fz∧rs[i]? = some b∧(p_ rs I).σ i=b∧w.heap[b]? = some (.cells us T fr)∧(f.fz=false→b∈B)∧(f.fz=true→I b):=fun i hl=>by
  rcases oy (i:=i) hp with ⟨f,k1,k2⟩|⟨k1,k2⟩
  ·obtain⟨b,us,T,fr,a1,a2,a3,a4,_⟩:=h3 i f k1
   exact⟨f,b,us,T,fr,by rw[k2];rfl,a1,by simp[p_,nE,a1],a4,a2,a3⟩
  ·rw[k2] at hl;cases hl
 refine⟨rfl,⟨rfl,fun _=>Nat.le_refl _⟩,rfl,Nat.le_refl _,fun _ _=>rfl,hI,fun i=>?_,fun i j k1 k2 e=>?_,fun i k1=>?_,fun i k1 k0 hb=>?_,fun i k1=>?_,fun i b hb=>?_,fun b us T fr h=>⟨us,T,fr,h,rfl⟩⟩
 ·rcases oy (i:=i) hp with ⟨f,k1,k2⟩|⟨k1,k2⟩
  ·rw[k2]
   obtain⟨b,us,T,fr,a1,_,_,a2,a3,a4⟩:=h3 i f k1
   exact⟨us,T,fr,by rw[show(p_ rs I).σ i=b by simp[p_,nE,a1]];exact a2,a3,wR (by rw[Array.length_toList];exact a4)⟩
  ·rw[k2];trivial
 ·obtain⟨_,b,_,_,_,_,a1,a2,_⟩:=live i k1
  obtain⟨_,c,_,_,_,_,b1,b2,_⟩:=live j k2
  rw[a2,b2] at e
  subst e
  obtain⟨l1,l2⟩:=List.getElem?_eq_some_iff.1 a1
  obtain⟨l3,l4⟩:=List.getElem?_eq_some_iff.1 b1
  exact(List.getElem_inj hrn).1 (l2.trans l4.symm)
 ·obtain⟨f,b,_,_,_,_,a1,a2,a3,a4,a5⟩:=live i k1
  rw[a2]
  refine⟨?_,uK a3⟩
  cases hz:f.fz with
  | false=>exact .inr (.inr (a4 hz))
  | true=>exact .inl (a5 hz)
 ·obtain⟨f,b,_,_,_,a0,a1,a2,a3,a4,a5⟩:=live i k1
  rw[a2] at hb
  rw[a0] at k0
  exact hB b (a4 k0) hb
 ·rcases oy (i:=i) hp with ⟨f,e1,e2⟩|⟨_,e2⟩
  ·obtain⟨f,b,_,_,_,a0,a1,a2,a3,a4,a5⟩:=live i (by rw[e2];rfl)
   rw[a0] at k1
   rw[a2];exact a5 k1
  ·rw[e2] at k1;cases k1
 ·have hb:(Cn rs)[i]? = some b:=hb
  rw[Cn,List.getElem?_map] at hb
  cases hr:rs[i]? with
  | none=>rw[hr] at hb;cases hb
  | some c=>
    rw[hr] at hb
    cases hb
    exact⟨by rw[ve,←h1];exact(List.getElem?_eq_some_iff.1 hr).1,by simp[p_,nE,hr],fun d hd=>(by cases hd)⟩
theorem xc{S:St}:∀{ptrs:List VF} {rs:List Nat} {m:Mem},dB ptrs=true→rs.length=ptrs.length→(∀i b,rs[i]? = some b→S.σ (m.length+i)=b)→
  ki S (m++holds ptrs) ptrs ((List.range ptrs.length).map fun i=>AV.ptr (m.length+i) 0) rs
 | [],rs,m,_,hl,_=>⟨rfl,List.length_eq_zero_iff.1 hl⟩
 | f::fs, [],m,_,hl,_=>by cases hl
 | f::fs,r::rs,m,hp,hl,hr=>by
   have h0:=yH (ptrs:=f::fs) (m:=m) (i:=0)
   obtain⟨hf,hp⟩:=dA hp
   have h0:=h0.trans (Df hf)
   rw[show holds (f::fs)=Aq f::holds fs from rfl] at h0 ⊢
   have e:(List.range (f::fs).length).map (fun i=>AV.ptr (m.length+i) 0)=AV.ptr m.length 0::(List.range fs.length).map fun i=>AV.ptr ((m ++ [Aq f]).length+i) 0:=by
    rw[List.length_cons,List.range_succ_eq_map,List.map_cons,List.map_map]
    congr 1
    refine List.map_congr_left fun i _=>?_
    simp only[Function.comp,Nat.succ_eq_add_one,gm,List.length_cons,List.length_nil]
    congr 1;omega
   rw[e]
   refine⟨m.length,0,_,rs,_,hf,rfl,by rw[←hr 0 r rfl];rfl,h0,pQ,?_⟩
   have:=xc (S:=S) (ptrs:=fs) (rs:=rs) (m:=m ++ [Aq f]) hp (by simpa using hl) fun i b hb=>by
    rw[←hr (i+1) b hb]
    congr 1
    simp only[gm,List.length_cons,List.length_nil];omega
   rw[List.append_assoc] at this
   exact this
section
variable {P:Program}
theorem sJ{g:FuncId}{F:Func}{s:bL}{E:eB (Ty.Ts (VF.fQ s.ptrs)×Ty.Ts s.res)}(hE:Base P E)(hfin:E.fin=Tq ah s.rp s.ptrs s.res)(hkeep:s.ptrs.length≤E.keep)(hpo:dB s.ptrs=true)(hg:look E.dx g=some F)(hb:F.body.isSome=true)(n:Nat)
  (h:∀x y,s.pre (x,y)=true→Ty.cN (VF.fQ s.ptrs) x→Ty.cN s.args y→∃h0,dV g F (fE s.ptrs.length++cq ah s.args y)=some h0∧∀G,Closed E (fun r=>r=s.fn (x,y)) G→Tr.Ok (fun r=>r=s.fn (x,y)) G (run ah E n {frames:=[h0],mem:=D2 ah s.ptrs x})):s.Sound P g:=by
 obtain⟨hF,hn⟩:=hE.dx g F hg
 refine⟨fun w I x y rs aa B hI hv hrn hnB hBI hy hpre cs=>?_,F,hF,hb,hn⟩
 obtain⟨h0,hen,hok⟩:=h x y hpre hv.has hy.has
 obtain⟨hl,_⟩:=hv.IC hpo
 have e0:fE s.ptrs.length=(List.range s.ptrs.length).map fun i=>AV.ptr (0+i) 0:=by
  rw[fE];exact List.map_congr_left fun i _=>by rw[Nat.zero_add]
 obtain⟨m0,hm0⟩:=Bc (A:=ah) (ptrs:=s.ptrs) (vs:=fE s.ptrs.length) (x:=x) (m:=holds s.ptrs) hpo (by simp[fE]) fun v hv=>by
  obtain⟨i,_,rfl⟩:=List.mem_map.1 hv
  exact⟨i,0,rfl⟩
 have hs0:D2 ah s.ptrs x=m0:=by rw[D2,hm0];rfl
 rw[hs0] at hok
 have hR:ki (p_ rs I) (holds s.ptrs) s.ptrs (fE s.ptrs.length) rs:=by
  have:=xc (S:=p_ rs I) (ptrs:=s.ptrs) (rs:=rs) (m:=[]) hpo hl fun i b hb=>by
   rw[List.length_nil,Nat.zero_add];simp[p_,nE,hb]
  rw[List.nil_append,List.length_nil,←e0] at this
  exact this
 have hW0:=QY hI hpo hv hrn hBI
 have hids:b_ (fE s.ptrs.length)=List.range s.ptrs.length:=by
  rw[e0,HE]
  simp
 obtain⟨S,st,hSI⟩:=VF.qR (I:=I) s.ptrs hW0 (fun _ h=>h) hv hnB (fun b hb=>⟨.inr hb,hBI b hb⟩) hR (by rw[hids];exact List.nodup_range) (fun b hb j hj he=>by
  rw[hids]
  rcases oy (i:=j) hpo with ⟨f,k1,_⟩|⟨_,k2⟩
  ·exact List.mem_range.2 (List.getElem?_eq_some_iff.1 k1).1
  ·rw[k2] at hj;cases hj) hm0
 have hP:Fits P E (aeQ w I B rs s.rp s.ptrs s.res) (World.with w B (Cn rs)) I:=⟨hE.ti,hE.dx,hE.cZ,hE.mixed,fun S w' m av y v hW hI' hf hc=>HZ hl hW hI' (by rw[←hfin];exact hf) hc,hE.jH,hE.kR,hE.jP,hE.ops,by
  show(Cn rs).length≤E.keep
  rw[Cn,List.length_map,hl];exact hkeep,fun k=>False.elim k⟩
 have hgood:=jQ hP (Q:=fun r=>r=s.fn (x,y)) (f0:=g) n _ (hok _ (jN hP))
 have hroot:bC w S m0 (fE s.ptrs.length) (h_ rs):=by
  refine bC.mono st.out ?_
  have e1:h_ rs=(List.range s.ptrs.length).map fun i=>.pointer (some ⟨(p_ rs I).σ i,0,none⟩):=by
   rw[hR.ids,hids,h_,List.map_map]
   exact List.map_congr_left fun i _=>by
    simp only[Function.comp]
    congr 3
    rw[←hids,←hR.ids]
  rw[e1,fE]
  have:∀l:List Nat,(∀i∈l,i<s.ptrs.length)→bC w (p_ rs I) (holds s.ptrs) (l.map fun i=>AV.ptr i 0) (l.map fun i=>.pointer (some ⟨(p_ rs I).σ i,0,none⟩)):=by
   intro l
   induction l with
   | nil=>intro _;exact aL.2 rfl
   | cons i l ih=>
     intro hh
     refine aV.2 ⟨_,_,rfl,?_,ih fun j hj=>hh j (List.mem_cons_of_mem _ hj)⟩
     rw[CR]
     rcases oy (i:=i) hpo with ⟨fs,_,k2⟩|⟨k1,_⟩
     ·rw[k2]
     ·exact absurd (hh i List.mem_cons_self) (by have:=List.getElem?_eq_none_iff.1 k1;omega)
  exact this _ fun i hi=>List.mem_range.1 hi
 have hargs:bC w S m0 (fE s.ptrs.length++cq ah s.args y) (h_ rs++aa).toArray.toList:=by
  exact hroot.append (jg (I:=I) (fun b hb=>(st.out.jl b hb).1) hy)
 obtain⟨hfr,_,hnd⟩:=fJ hF hen hargs
 have hB:ta g [h0]:=by
  unfold dV at hen
  cases hbb:F.body with
  | none=>rw[hbb] at hen;cases hen
  | some b=>
    rw[hbb] at hen
    simp only at hen
    split at hen
    ·cases hen;exact(rfl:g=g)
    ·cases hen
 obtain⟨r,v,w',dL,hr,hfi,hsteps,hfn,hleave⟩:=hgood (df hnd) _ _ [] cs w st.wr (fun b hb=>.inl (hSI b hb)) ⟨_,_,rfl,hfr,rfl⟩ hB
 obtain⟨g1,g2,g3,g4,g5,I',B',g6,gc,g7,g8,g9,g10⟩:=hfi
 exact⟨.returned v,w',dL,⟨v,rfl,g1,g2,g3,g4,g5,I',B',g6,gc,by rw[←hr];exact g7,g8,g9,by rw[←hr];exact g10⟩,hsteps,hfn,hleave⟩
end
def acy(w0:World)(I0:Nat→Prop)(B:List Nat)(v0:Value)(t:Ty)(res:List Ty)(y:List t.T×Ty.Ts res)(v:Value)(w':World):Prop:=
 w'.os=w0.os∧w'.tape=w0.tape∧w'.output=w0.output∧w0.heap.size≤w'.heap.size∧(∀b,b<w0.heap.size→b ∉ B→w'.heap[b]? = w0.heap[b]?)∧
  ∃I':Nat→Prop,(∀b,I' b→(I0 b∨b∈B∨w0.heap.size≤b)∧b<w'.heap.size)∧(∀(b:Nat) (us:Array Value) (T:TypeId) (fr:Nat×Nat),w0.heap[b]? = some (.cells us T fr)→∃(dS:Array Value) (T':TypeId) (dL:Nat×Nat),w'.heap[b]? = some (.cells dS T' dL)∧dS.size=us.size)∧
   (∀x:List t.T,y.1.length=x.length→VR w0 I0 (.own t) [v0] x B→VR w' I' (.own t) [v0] y.1 B∧∀b∈B,¬I' b)∧kt w' I' res v y.2
theorem Iw{w1:World}{S:St}{w:World}{m:Mem}{av:AV}{I0:Nat→Prop}{B:List Nat}{R:List (Nat×Option Nat)}{v0:Value}{t:Ty}{res:List Ty}{y:List t.T×Ty.Ts res}{v:Value}(hR:∀x:List t.T,VR w1 I0 (.own t) [v0] x B→x≠ []→∃b d cap,R=[(b,some d)]∧B=[b]∧v0=.slice (some ⟨b,d,none⟩) x.length cap)
  (hW:WR (World.with w1 B R) w S m) (hI:∀b,S.I b→I0 b∨(World.with w1 B R).free b) (h:VN ah t res av m=some y) (hc:CR w S m av v):acy w1 I0 B v0 t res y v w:=by
 have main:∀(vs:List AV) (us:List Value),cn res vs=true→bC w S m vs us→(match bO ah res m (vs.flatMap AV.cells) with
   | none=>none
   | some (m,cs)=>match jT res cs with
     | some (y, [])=>match m.at 0 with
       | .arr false t' x=>if h:t'.beq t=true then some ((Ty.eq_of_beq h▸x:List t.T),y) else none
       | _=>none
     | _=>none)=some y→∃I':Nat→Prop,(∀b,I' b→(I0 b∨b∈B∨w1.heap.size≤b)∧b<w.heap.size)∧
   (∀x:List t.T,y.1.length=x.length→VR w1 I0 (.own t) [v0] x B→VR w I' (.own t) [v0] y.1 B∧∀b∈B,¬I' b)∧dF w I' res us y.2:=by
  intro vs us hok hcs h
  obtain⟨L,hL,hrep⟩:=jf hok hcs
  cases hf:bO ah res m (vs.flatMap AV.cells) with
  | none=>rw[hf] at h;cases h
  | some q=>
    obtain⟨m1,cs1⟩:=q
    rw[hf] at h
    simp only at h
    obtain⟨S1,s1,hc1⟩:=dE hW hf hL
    cases htd:jT res cs1 with
    | none=>rw[htd] at h;cases h
    | some q=>
      obtain⟨z,r⟩:=q
      rw[htd] at h
      cases r with
      | cons _ _=>cases h
      | nil=>
        simp only at h
        obtain⟨u1,u2,e,hx,hr⟩:=iC res htd hc1
        rw[aL.1 hr,List.append_nil] at e
        rw[←e] at hx
        cases hm:m1.at 0<;>rw[hm] at h<;>(try simp only at h)<;>(try (cases h;done))
        rename_i fz t' x'
        cases fz with
        | true=>cases h
        | false=>
          simp only at h
          by_cases hb:t'.beq t=true
          ·rw[dif_pos hb] at h
           have ht:=Ty.eq_of_beq hb
           subst ht
           cases h
           refine⟨S1.I,fun b hb=>⟨?_,s1.wr.jl b hb⟩,fun x hl hv=>?_,hrep _ _ hx⟩
           ·rcases s1.grows b hb with h|h
            ·rcases hI b h with h|h
             ·exact .inl h
             ·exact .inr (h.elim .inr .inl)
            ·exact .inr (h.elim .inr .inl)
           ·have hl:x'.length=x.length:=hl
            by_cases hx0:x=[]
            ·have hx1:x'=[]:=List.length_eq_zero_iff.1 (by rw[hl,hx0];rfl)
             rcases gV.1 hv with ⟨_,k2,k3⟩|⟨k1,_⟩
             ·exact⟨gV.2 (.inl ⟨hx1,k2,k3⟩),fun b hb=>by rw[k2] at hb;exact absurd hb List.not_mem_nil⟩
             ·exact absurd hx0 k1
            ·have hx1:x'≠ []:=fun e=>hx0 (List.length_eq_zero_iff.1 (by rw[←hl,e];rfl))
             obtain⟨b,d,cap,q1,q2,q3⟩:=hR x hv hx0
             obtain⟨_,r1,r2⟩:=s1.wr.root 0 (b,some d) (by show R[0]? = _;rw[q1];rfl)
             have r2:=r2 d rfl
             have hbx:=s1.wr.box 0
             rw[hm] at hbx
             obtain⟨c1,c2⟩:=hbx
             obtain⟨us,T,fr,c3,c4,c5,c6⟩:=c2 hx1
             rcases gV.1 hv with ⟨k1,_⟩|⟨_,b',dl,cap',k2,k3,k4,k5,vs0,T0,fr0,k6,k7,k8,_⟩
             ·exact absurd k1 hx0
             ·rw[q3] at k3
              simp only[List.cons.injEq,Value.slice.injEq,Option.some.injEq,Addr.mk.injEq,and_true] at k3
              obtain⟨⟨p1,p2⟩,_,p4⟩:=k3
              have r1:S1.σ 0=b:=r1
              obtain⟨us2,T2,fr2,d1,d2⟩:=s1.wr.cells b vs0 T0 fr0 (by rw[p1];exact k6)
              rw[r1,d1] at c3
              cases c3
              refine⟨gV.2 (.inr ⟨hx1,b,d,cap,q2,by rw[q3,hl],by rw[hl,p4];exact k4,c1,us,T,fr,d1,c4,?_,by rw[←r2];exact c6⟩),fun c hc=>?_⟩
              ·rw[d2,p2,p4];exact k8
              ·rw[q2] at hc
               rw[List.mem_singleton.1 hc,←r1]
               exact s1.wr.lT 0 (by rw[hm];exact kp hx1) (by rw[hm];exact gG)
          ·rw[dif_neg hb] at h;cases h
 refine⟨hW.os,hW.tape.1,hW.output,hW.size,fun b hb hB=>hW.base b fun k=>k.elim (fun k=>absurd k (Nat.not_le_of_lt hb)) hB,?_⟩
 unfold VN at h
 match res,y,h,main with
 | [],y,h1,main=>
   obtain⟨vs,rfl⟩:∃vs,av=.qS vs:=by cases av<;>first|exact⟨_,rfl⟩|(exact absurd h1 (fun e=>by cases e))
   obtain⟨us,rfl,hcs⟩:=fC.1 hc
   simp only at h1
   cases hok:cn [] vs with
   | false=>rw[hok] at h1;cases h1
   | true=>
     rw[hok] at h1
     obtain⟨I',k1,k2,k5⟩:=main vs us.toList hok hcs h1
     rw[dF] at k5
     exact⟨I',k1,hW.cells,k2,by rw[kt,Array.toList_eq_nil_iff.1 k5]⟩
 | [t'],y,h1,main=>
   simp only at h1
   cases hok:cn [t'] [av] with
   | false=>rw[hok] at h1;cases h1
   | true=>
     rw[hok] at h1
     obtain⟨I',k1,k2,k5⟩:=main [av] [v] hok (aV.2 ⟨v, [],rfl,hc,aL.2 rfl⟩) h1
     rw[dF] at k5
     obtain⟨v',e,k5⟩:=k5
     cases e
     exact⟨I',k1,hW.cells,k2,by rw[kt];exact k5⟩
 | t'::t2::ts,y,h1,main=>
   obtain⟨vs,rfl⟩:∃vs,av=.qS vs:=by cases av<;>first|exact⟨_,rfl⟩|(exact absurd h1 (fun e=>by cases e))
   obtain⟨us,rfl,hcs⟩:=fC.1 hc
   simp only at h1
   cases hok:cn (t'::t2::ts) vs with
   | false=>rw[hok] at h1;cases h1
   | true=>
     rw[hok] at h1
     obtain⟨I',k1,k2,k5⟩:=main vs us.toList hok hcs h1
     exact⟨I',k1,hW.cells,k2,by rw[kt];exact⟨us,rfl,k5⟩⟩
theorem L4{w:World}{I:Nat→Prop}{t:Ty}{x:List t.T}{v:Value}{B:List Nat}(hI:∀b,I b→b<w.heap.size)(hv:VR w I (.own t) [v] x B)(hB:∀b∈B,¬I b) :
  ∃(S:St) (R:List (Nat×Option Nat)),R.length≤1∧S.I=I∧WR (World.with w B R) w S [.arr false t x]∧CR w S [.arr false t x] (.own 0) v∧∀y:List t.T,VR w I (.own t) [v] y B→y≠ []→∃b d cap,R=[(b,some d)]∧B=[b]∧v=.slice (some ⟨b,d,none⟩) y.length cap:=by
 have out:∀j,j≠0→Mem.at [il.arr false t x] j=.bad:=fun j hj=>by
  cases j with
  | zero=>exact absurd rfl hj
  | succ j=>rfl
 rcases gV.1 hv with ⟨hx,rfl,a,e⟩|⟨hne,b,dl,cap,rfl,e,h1,h2,vs,T,fr,h3,h4,h5,h6⟩
 ·subst hx
  simp only[List.cons.injEq,and_true] at e
  subst e
  have nl:∀j,(Mem.at [il.arr false t ([]:List t.T)] j).bd=true→False:=fun j h=>by
   cases j with
   | zero=>cases h
   | succ j=>cases h
  refine⟨{σ:=fun _=>0,δ:=fun _=>0,I:=I}, [],by decide,rfl,⟨rfl,⟨rfl,fun _=>Nat.le_refl _⟩,rfl,Nat.le_refl _,fun _ _=>rfl,hI,fun j=>?_,fun i j h=>(nl i h).elim,fun i h=>(nl i h).elim,fun i h=>(nl i h).elim,fun i h=>?_,fun i b h=>?_,fun b us T fr h=>⟨us,T,fr,h,rfl⟩⟩,?_,fun y hy hne=>?_⟩
  ·cases j with
   | zero=>exact⟨Nat.zero_le _,fun h=>absurd rfl h⟩
   | succ j=>trivial
  ·cases i with
   | zero=>cases h
   | succ i=>cases h
  ·have h:([]:List (Nat×Option Nat))[i]? = some b:=h
   simp at h
  ·rw[CR];exact .inl ⟨rfl,a,rfl⟩
  ·rcases gV.1 hy with ⟨k,_⟩|⟨_,b,dl,cap,k,_⟩
   ·exact absurd k hne
   ·cases k
 ·simp only[List.cons.injEq,and_true] at e
  subst e
  have live0:∀j,(Mem.at [il.arr false t x] j).bd=true→j=0:=fun j h=>by
   cases j with
   | zero=>rfl
   | succ j=>cases h
  refine⟨{σ:=fun _=>b,δ:=fun _=>dl,I:=I}, [(b,some dl)],Nat.le_refl 1,rfl,⟨rfl,⟨rfl,fun _=>Nat.le_refl _⟩,rfl,Nat.le_refl _,fun _ _=>rfl,hI,fun j=>?_,fun i j k1 k2 _=>(live0 i k1).trans (live0 j k2).symm,fun i _=>⟨.inr (.inr (List.mem_singleton.2 rfl)),uK h3⟩,fun i _ _=>hB b (List.mem_singleton.2 rfl),fun i h=>?_,fun i c h=>?_,fun b us T fr h=>⟨us,T,fr,h,rfl⟩⟩,?_,fun y hy hny=>?_⟩
  ·cases j with
   | zero=>exact⟨h2,fun _=>⟨vs,T,fr,h3,h4,Nat.le_trans (Nat.add_le_add_left (Nat.mul_le_mul_right _ h1) _) h5,h6⟩⟩
   | succ j=>trivial
  ·cases i with
   | zero=>rw[show Mem.at [il.arr false t x] 0=.arr false t x from rfl,gG] at h;cases h
   | succ i=>cases h
  ·have h:[(b,some dl)][i]? = some c:=h
   cases i with
   | zero=>cases h;exact⟨Nat.zero_lt_one,rfl,fun d hd=>by cases hd;rfl⟩
   | succ i=>simp at h
  ·rw[CR];exact .inr ⟨hne,cap,rfl,h1,vs,T,fr,h3,h5⟩
  ·rcases gV.1 hy with ⟨_,k,_⟩|⟨_,b',dl',cap',k,k2,_⟩
   ·cases k
   ·simp only[List.cons.injEq,Value.slice.injEq,Option.some.injEq,Addr.mk.injEq,and_true] at k2
    exact⟨b,dl,cap,rfl,rfl,by rw[k2.2.1]⟩
theorem KP{w:World}{S:St}{m:Mem}:∀{fs:List FuncId},bC w S m (fs.map fun f=>.fn f [] []) (fnV fs)
 | []=>aL.2 rfl
 | f::fs=>aV.2 ⟨_,_,rfl,oT.2 ⟨#[],#[],rfl,aL.2 rfl,aL.2 rfl⟩,KP⟩
section
variable {P:Program}
theorem Cj{g:FuncId}{F:Func}{s:dG}{E:eB (List s.elem.T×Ty.Ts s.res)}(hE:Base P E)(hfin:E.fin=VN ah s.elem s.res)(hkeep:1≤E.keep)(hg:look E.dx g=some F)(hb:F.body.isSome=true)(n:Nat)
  (hlen:∀x y,s.pre (x,y)=true→Ty.has (.slice s.elem) x→Ty.cN s.args y→(s.fn (x,y)).1.length=x.length)
  (h:∀x y,s.pre (x,y)=true→Ty.has (.slice s.elem) x→Ty.cN s.args y→∃h0,dV g F (.own 0::(cq ah s.args y++s.dx.map fun f=>.fn f [] []))=some h0∧∀G,Closed E (fun r=>r=s.fn (x,y)) G→Tr.Ok (fun r=>r=s.fn (x,y)) G (run ah E n {frames:=[h0],mem:=[.arr false s.elem x]})):s.Sound P g:=by
 obtain⟨hF,hn⟩:=hE.dx g F hg
 refine⟨fun w I x y v aa B hI hv hBI hy hpre cs=>?_,F,hF,hb,hn⟩
 have hx:Ty.has (.slice s.elem) x:=VR.has (.own s.elem) hv
 obtain⟨h0,hen,hok⟩:=h x y hpre hx hy.has
 obtain⟨S,R,hRl,hSI,hW,hc0,hR⟩:=L4 hI hv hBI
 have hP:Fits P E (acy w I B v s.elem s.res) (World.with w B R) I:=⟨hE.ti,hE.dx,hE.cZ,hE.mixed,fun S w' m av y v hW hI' hf hc=>Iw hR hW hI' (by rw[←hfin];exact hf) hc,hE.jH,hE.kR,hE.jP,hE.ops,Nat.le_trans hRl hkeep,fun k=>False.elim k⟩
 have hgood:=jQ hP (Q:=fun r=>r=s.fn (x,y)) (f0:=g) n _ (hok _ (jN hP))
 have hargs:bC w S [.arr false s.elem x] (.own 0::(cq ah s.args y++s.dx.map fun f=>.fn f [] [])) (v::(aa++fnV s.dx)).toArray.toList:=
  aV.2 ⟨v,_,rfl,hc0,(jg (I:=I) (fun b hb=>by rw[hSI];exact hb) hy).append KP⟩
 obtain⟨hfr,_,hnd⟩:=fJ hF hen hargs
 have hB:ta g [h0]:=by
  unfold dV at hen
  cases hbb:F.body with
  | none=>rw[hbb] at hen;cases hen
  | some b=>
    rw[hbb] at hen
    simp only at hen
    split at hen
    ·cases hen;exact(rfl:g=g)
    ·cases hen
 obtain⟨r,z,w',dL,hr,hfi,hsteps,hfn,hleave⟩:=hgood (df hnd) _ _ [] cs w hW (fun b hb=>.inl (by rw[←hSI];exact hb)) ⟨_,_,rfl,hfr,rfl⟩ hB
 obtain⟨g1,g2,g3,g4,g5,I',g6,gc,g7,g8⟩:=hfi
 rw[hr] at g7 g8
 obtain⟨k1,k2⟩:=g7 x (hlen x y hpre hx hy.has) hv
 exact⟨.returned z,w',dL,⟨z,rfl,g1,g2,g3,g4,g5,I',fun b hb=>⟨(g6 b hb).1.elim .inl fun k=>k.elim (fun k=>absurd hb (k2 b k)) .inr,(g6 b hb).2⟩,gc,k1,g8⟩,hsteps,hfn,hleave⟩
def ab7(w0:World)(I0:Nat→Prop)(f:VF)(opt:Bool)(res:List Ty)(y:Bool×f.ty.T×Ty.Ts res)(v:Value)(w':World):Prop:=
 w'.os=w0.os∧w'.tape=w0.tape∧w'.output=w0.output∧w0.heap.size≤w'.heap.size∧(∀b,b<w0.heap.size→w'.heap[b]? = w0.heap[b]?)∧Tw w0 w' I0 f opt res v y
theorem IS{w1:World}{S:St}{w:World}{m:Mem}{av:AV}{I0:Nat→Prop}{f:VF}{opt:Bool}{res:List Ty}{y:Bool×f.ty.T×Ty.Ts res}{v:Value}(hW:WR (World.whole w1) w S m)(hI:∀b,S.I b→I0 b∨(World.whole w1).free b)(h:Tt ah f opt res av m=some y)(hc:CR w S m av v):ab7 w1 I0 f opt res y v w:=by
 refine⟨hW.os,hW.tape.1,hW.output,hW.size,fun b hb=>hW.base b fun k=>absurd (jC k) (Nat.not_le_of_lt hb),?_⟩
 have main:∀(a:AV) (vs:List AV) (u:Value) (us:List Value),CR w S m a u→bC w S m vs us→v=Yc (u::us)→(match cn res vs with
  | false=>none
  | true=>match bO ah res m (vs.flatMap AV.cells) with
    | none=>none
    | some (m,cs)=>match jT res cs with
      | some (y, [])=>match (generalizing:=false) opt,a with
        | true,.fS=>some (false,Ty.dZ f.ty,y)
        | _,v=>match VF.read m f [v] with
          | some (x,ids, [])=>match nodupB ids with
            | true=>some (true,x,y)
            | false=>none
          | _=>none
      | _=>none:Option (Bool×f.ty.T×Ty.Ts res))=some y→Tw w1 w I0 f opt res v y:=by
  intro a vs u us hu hus hv h
  cases hok:cn res vs with
  | false=>rw[hok] at h;cases h
  | true=>
    rw[hok] at h
    simp only at h
    obtain⟨L,hL,hrep⟩:=jf hok hus
    cases hf:bO ah res m (vs.flatMap AV.cells) with
    | none=>rw[hf] at h;cases h
    | some q=>
      obtain⟨m1,cs1⟩:=q
      rw[hf] at h
      simp only at h
      obtain⟨S1,s1,hc1⟩:=dE hW hf hL
      cases htd:jT res cs1 with
      | none=>rw[htd] at h;cases h
      | some q=>
        obtain⟨z,r⟩:=q
        rw[htd] at h
        cases r with
        | cons _ _=>cases h
        | nil=>
          simp only at h
          obtain⟨u1,u2,e,hx,hr⟩:=iC res htd hc1
          have hu2:=aL.1 hr
          rw[hu2,List.append_nil] at e
          rw[←e] at hx
          have hI1:∀b,S1.I b→I0 b∨(w1.heap.size≤b∧b<w.heap.size):=fun b hb=>by
           rcases s1.grows b hb with h|h
           ·rcases hI b h with h|h
            ·exact .inl h
            ·exact .inr ⟨jC h,s1.wr.jl b hb⟩
           ·exact .inr ⟨jC h,s1.wr.jl b hb⟩
          have ha1:=hu.mono s1.out
          have rd:(match VF.read m1 f [a] with
            | some (x,ids, [])=>match nodupB ids with
              | true=>some (true,x,z)
              | false=>none
            | _=>none:Option (Bool×f.ty.T×Ty.Ts res))=some y→Tw w1 w I0 f opt res v y:=by
           intro h
           cases hrd:VF.read m1 f [a] with
           | none=>rw[hrd] at h;cases h
           | some q=>
             obtain⟨x',ids,r⟩:=q
             rw[hrd] at h
             cases r with
             | cons _ _=>cases h
             | nil=>
               simp only at h
               cases hn:nodupB ids with
               | false=>rw[hn] at h;cases h
               | true=>
                 rw[hn] at h
                 cases h
                 obtain⟨w1',w2',js,e,h2,h3,h4,_,h6⟩:=VF.pM s1.wr f hrd (aV.2 ⟨u, [],rfl,ha1,aL.2 rfl⟩)
                 rw[aL.1 h2,List.append_nil] at e
                 rw[←e] at h6
                 obtain⟨b1,b2,b3,b4⟩:=pP s1.wr (kS hn) h3 h4
                 refine⟨S1.I,js.map S1.σ,u,us,hv,hI1,.inr ⟨fun _=>rfl,h6,b1,fun b hb=>⟨jC (b3 b hb),b2 b hb⟩⟩,hrep _ z hx⟩
          cases opt with
          | false=>exact rd h
          | true=>
            cases a<;>first|exact rd h|(cases h;rw[CR] at hu;exact⟨S1.I, [],u,us,hv,hI1,.inl ⟨rfl,rfl,hu⟩,hrep _ z hx⟩)
 unfold Tt at h
 match res,y,h,main with
 | [],y,h1,main=>exact main av [] v [] hc (aL.2 rfl) rfl h1
 | t::ts,y,h1,main=>
   obtain⟨vs,rfl⟩:∃vs,av=.qS vs:=by cases av<;>first|exact⟨_,rfl⟩|(exact absurd h1 (fun e=>by cases e))
   obtain⟨us,rfl,hcs⟩:=fC.1 hc
   simp only at h1
   cases vs with
   | nil=>cases h1
   | cons a vs=>
     obtain⟨u,dS,e,hu,hr⟩:=aV.1 hcs
     have hlen:dS≠ []:=by
      rintro rfl
      cases vs with
      | nil=>simp only at h1;rw[show cn (t::ts) ([]:List AV)=false from rfl] at h1;cases h1
      | cons b vs=>obtain⟨_,_,e,_⟩:=aV.1 hr;cases e
     refine main a vs u dS hu hr ?_ h1
     rw[←Array.toArray_toList (xs:=us),e]
     cases dS with
     | nil=>exact absurd rfl hlen
     | cons _ _=>rfl
theorem Cp{g:FuncId}{F:Func}{s:kl}{E:eB (Bool×s.out.ty.T×Ty.Ts s.res)}(hE:Base P E)(hfin:E.fin=Tt ah s.out s.opt s.res)(hg:look E.dx g=some F)(hb:F.body.isSome=true)(n:Nat)
  (h:∀x,s.pre x=true→Ty.cN s.args x→∃h0,dV g F (cq ah s.args x)=some h0∧∀G,Closed E (fun y=>y=s.fn x) G→Tr.Ok (fun y=>y=s.fn x) G (run ah E n {frames:=[h0],mem:=[]})):s.Sound P g:=by
 obtain⟨hF,hn⟩:=hE.dx g F hg
 refine⟨fun w I x aa hI hrep hpre cs=>?_,F,hF,hb,hn⟩
 obtain⟨h0,hen,hok⟩:=h x hpre hrep.has
 have hP:Fits P E (ab7 w I s.out s.opt s.res) (World.whole w) I:=⟨hE.ti,hE.dx,hE.cZ,hE.mixed,fun S w' m av y v hW hI' hf hc=>IS hW hI' (by rw[←hfin];exact hf) hc,hE.jH,hE.kR,hE.jP,hE.ops,Nat.zero_le _,fun k=>False.elim k⟩
 have hgood:=jQ hP (Q:=fun y=>y=s.fn x) (f0:=g) n _ (hok _ (jN hP))
 have hW:=Ac hI
 obtain⟨hfr,_,hnd⟩:=fJ hF hen (jg (S:={σ:=fun _=>0,δ:=fun _=>0,I:=I}) (m:=[]) (fun b hb=>hb) hrep)
 have hB:ta g [h0]:=by
  unfold dV at hen
  cases hbb:F.body with
  | none=>rw[hbb] at hen;cases hen
  | some b=>
    rw[hbb] at hen
    simp only at hen
    split at hen
    ·cases hen;exact(rfl:g=g)
    ·cases hen
 obtain⟨y,v,w',dL,hy,hfi,hsteps,hfn,hleave⟩:=hgood (df hnd) _ _ [] cs w hW (fun b hb=>.inl hb) ⟨_,_,rfl,hfr,rfl⟩ hB
 obtain⟨g1,g2,g3,g4,g5,g6⟩:=hfi
 exact⟨.returned v,w',dL,⟨v,rfl,g1,g2,g3,g4,g5,by rw[←hy];exact g6⟩,hsteps,hfn,hleave⟩
end
end Go.Ev
namespace Go.Ev
inductive LT (R Y:Type) where
 | ret (r:R)
 | more (y:Y)
 | br (b:Bool) (t e:LT R Y)
 | need (b:Bool) (t:LT R Y)
 | eqs (p:Prop) (t:LT R Y)
 | and (a b:LT R Y)
 | bad (n:Nat) (pos:String)
def LT.tr{R Y:Type}(cfg:Y→eD):LT R Y→Tr R
 | .ret r=>.ret r
 | .more y=>.more (cfg y)
 | .br b t e=>.br b (t.tr cfg) (e.tr cfg)
 | .need b t=>.need b (t.tr cfg)
 | .eqs p t=>.eqs p (t.tr cfg)
 | .and a b=>.and (a.tr cfg) (b.tr cfg)
 | .bad n s=>.bad n s
def Tr.full{R:Type}:Tr R→Tr R
 | .br b t e=>.br b t.full e.full
 | .need b t=>.need b t.full
 | .eqs p t=>.eqs p t.full
 | .same l r t=>.eqs (i7 l r) t.full
 | .and _ _=>.bad 182 ""
 | t=>t
def AV.alike:AV→AV→Bool
 | .bool c _,.bool d _=>c==d
 | .int _ c _,.int _ d _=>c==d
 | _,_=>true
def Tr.qs{R:Type}:Tr R→Tr R
 | .br b t e=>.br b t.qs e.qs
 | .need b t=>.need b t.qs
 | .eqs p t=>.eqs p t.qs
 | .same l r t=>match l.alike r with
   | true=>t.qs
   | false=>.eqs (i7 l r) t.qs
 | .and a _=>a.qs
 | t=>t
def Tr.nY{R:Type}:Tr R→Tr R
 | .br b t e=>.br b t.nY e.nY
 | .need b t=>.need b t.nY
 | .eqs p t=>.eqs p t.nY
 | .same l r t=>match l.alike r with
   | true=>t.nY
   | false=>.eqs (i7 l r) t.nY
 | .and a _=>a.nY
 | t=>t
theorem Tr.nq{R:Type}:∀{t:Tr R},t.nY=t.qs
 | .ret _ | .more _ | .bad _ _=>rfl
 | .br _ t e=>by rw[Tr.nY,Tr.qs,Tr.nq (t:=t),Tr.nq (t:=e)]
 | .need _ t=>by rw[Tr.nY,Tr.qs,Tr.nq (t:=t)]
 | .eqs _ t=>by rw[Tr.nY,Tr.qs,Tr.nq (t:=t)]
 | .same l r t=>by rw[Tr.nY,Tr.qs,Tr.nq (t:=t)]
 | .and a _=>by rw[Tr.nY,Tr.qs,Tr.nq (t:=a)]
def Tr.lefts{R:Type}:Tr R→List (Sum AV (Tr R))→List (Sum AV (Tr R))
 | .br _ t e,k=>t.lefts (e.lefts k)
 | .need _ t,k=>t.lefts k
 | .eqs _ t,k=>t.lefts k
 | .same l r t,k=>match l.alike r with
   | true=>.inl l::t.lefts k
   | false=>t.lefts k
 | .and a b,k=>.inr a.qs::a.lefts (b.lefts k)
 | _,k=>k
def Tr.lU{R:Type}:Tr R→List (Sum AV (Tr R))→List (Sum AV (Tr R))
 | .br _ t e,k=>t.lU (e.lU k)
 | .need _ t,k=>t.lU k
 | .eqs _ t,k=>t.lU k
 | .same l r t,k=>match l.alike r with
   | true=>.inl r::t.lU k
   | false=>t.lU k
 | .and a b,k=>.inr b.nY::a.lU (b.lU k)
 | _,k=>k
theorem Tr.rJ{R:Type}{Q:R→Prop}{G:eD→Prop}:∀{t:Tr R},Tr.Ok Q G t.full→Tr.Ok Q G t
 | .ret _,h | .more _,h | .bad _ _,h=>h
 | .br _ t e,h=>⟨fun k=>Tr.rJ (t:=t) (h.1 k),fun k=>Tr.rJ (t:=e) (h.2 k)⟩
 | .need _ t,h=>⟨h.1,Tr.rJ (t:=t) h.2⟩
 | .eqs _ t,h=>⟨h.1,Tr.rJ (t:=t) h.2⟩
 | .same _ _ t,h=>⟨h.1,Tr.rJ (t:=t) h.2⟩
 | .and _ _,h=>h.elim
theorem Tr.mB{R:Type}{Q:R→Prop}{G:eD→Prop}:∀{t:Tr R} {k k':List (Sum AV (Tr R))},t.lefts k=t.lU k'→k=k'∧(Tr.Ok Q G t.qs→Tr.Ok Q G t)
 | .ret _,_,_,h | .more _,_,_,h | .bad _ _,_,_,h=>⟨h,fun x=>x⟩
 | .br _ t e,_,_,h=>by
   obtain⟨h1,h2⟩:=Tr.mB (t:=t) h
   obtain⟨h3,h4⟩:=Tr.mB (t:=e) h1
   exact⟨h3,fun x=>⟨fun k=>h2 (x.1 k),fun k=>h4 (x.2 k)⟩⟩
 | .need _ t,_,_,h=>by
   obtain⟨h1,h2⟩:=Tr.mB (t:=t) h
   exact⟨h1,fun x=>⟨x.1,h2 x.2⟩⟩
 | .eqs _ t,_,_,h=>by
   obtain⟨h1,h2⟩:=Tr.mB (t:=t) h
   exact⟨h1,fun x=>⟨x.1,h2 x.2⟩⟩
 | .same l r t,_,_,h=>by
   simp only[Tr.lefts,Tr.lU] at h
   simp only[Tr.qs]
   cases ha:l.alike r with
   | true=>
     rw[ha] at h
     simp only[List.cons.injEq,Sum.inl.injEq] at h
     obtain⟨h1,h2⟩:=Tr.mB (t:=t) h.2
     exact⟨h1,fun x=>⟨h.1▸qx l,h2 x⟩⟩
   | false=>
     rw[ha] at h
     obtain⟨h1,h2⟩:=Tr.mB (t:=t) h
     exact⟨h1,fun x=>⟨x.1,h2 x.2⟩⟩
 | .and a b,_,_,h=>by
   simp only[Tr.lefts,Tr.lU,List.cons.injEq,Sum.inr.injEq,Tr.nq] at h
   obtain⟨h1,h2⟩:=Tr.mB (t:=a) h.2
   obtain⟨h3,h4⟩:=Tr.mB (t:=b) h1
   exact⟨h3,fun x=>⟨h2 x,h4 (h.1▸x)⟩⟩
@[reducible] def Tr.Is {R:Type} (q:Bool) (t u:Tr R):Prop:=match q with
 | true=>t.qs=u∧t.lefts []=t.lU []
 | false=>t.full=u
theorem Tr.Is.ok{R:Type}{q:Bool}{Q:R→Prop}{G:eD→Prop}{t u:Tr R}(h:Tr.Is q t u)(hu:Tr.Ok Q G u):Tr.Ok Q G t:=by
 cases q with
 | true=>exact(Tr.mB h.2).2 (h.1▸hu)
 | false=>exact Tr.rJ (show Tr.Ok Q G t.full from(show t.full=u from h)▸hu)
def Tr.wide{R:Type}:Tr R→Tr R
 | .br b t e=>.br b t.wide e.wide
 | .need b t=>.need b t.wide
 | .eqs p t=>.eqs p t.wide
 | .same l r t=>match l.alike r with
   | true=>t.wide
   | false=>.eqs (i7 l r) t.wide
 | .and a b=>.and a.wide b.wide
 | t=>t
def Tr.qZ{R:Type}:Tr R→List AV→List AV
 | .br _ t e,k=>t.qZ (e.qZ k)
 | .need _ t,k=>t.qZ k
 | .eqs _ t,k=>t.qZ k
 | .same l r t,k=>match l.alike r with
   | true=>l::t.qZ k
   | false=>t.qZ k
 | .and a b,k=>a.qZ (b.qZ k)
 | _,k=>k
def Tr.nu{R:Type}:Tr R→List AV→List AV
 | .br _ t e,k=>t.nu (e.nu k)
 | .need _ t,k=>t.nu k
 | .eqs _ t,k=>t.nu k
 | .same l r t,k=>match l.alike r with
   | true=>r::t.nu k
   | false=>t.nu k
 | .and a b,k=>a.nu (b.nu k)
 | _,k=>k
theorem Tr.mG{R:Type}{Q:R→Prop}{G:eD→Prop}:∀{t:Tr R} {k k':List AV},t.qZ k=t.nu k'→k=k'∧(Tr.Ok Q G t.wide→Tr.Ok Q G t)
 | .ret _,_,_,h | .more _,_,_,h | .bad _ _,_,_,h=>⟨h,fun x=>x⟩
 | .br _ t e,_,_,h=>by
   obtain⟨h1,h2⟩:=Tr.mG (t:=t) h
   obtain⟨h3,h4⟩:=Tr.mG (t:=e) h1
   exact⟨h3,fun x=>⟨fun k=>h2 (x.1 k),fun k=>h4 (x.2 k)⟩⟩
 | .need _ t,_,_,h=>by
   obtain⟨h1,h2⟩:=Tr.mG (t:=t) h
   exact⟨h1,fun x=>⟨x.1,h2 x.2⟩⟩
 | .eqs _ t,_,_,h=>by
   obtain⟨h1,h2⟩:=Tr.mG (t:=t) h
   exact⟨h1,fun x=>⟨x.1,h2 x.2⟩⟩
 | .same l r t,_,_,h=>by
   simp only[Tr.qZ,Tr.nu] at h
   simp only[Tr.wide]
   cases ha:l.alike r with
   | true=>
     rw[ha] at h
     simp only[List.cons.injEq] at h
     obtain⟨h1,h2⟩:=Tr.mG (t:=t) h.2
     exact⟨h1,fun x=>⟨h.1▸qx l,h2 x⟩⟩
   | false=>
     rw[ha] at h
     obtain⟨h1,h2⟩:=Tr.mG (t:=t) h
     exact⟨h1,fun x=>⟨x.1,h2 x.2⟩⟩
 | .and a b,_,_,h=>by
   obtain⟨h1,h2⟩:=Tr.mG (t:=a) h
   obtain⟨h3,h4⟩:=Tr.mG (t:=b) h1
   exact⟨h3,fun x=>⟨h2 x.1,h4 x.2⟩⟩
@[reducible] def Tr.IsW {R:Type} (t u:Tr R):Prop:=t.wide=u∧t.qZ []=t.nu []
theorem Tr.IsW.ok{R:Type}{Q:R→Prop}{G:eD→Prop}{t u:Tr R}(h:Tr.IsW t u)(hu:Tr.Ok Q G u):Tr.Ok Q G t:=(Tr.mG h.2).2 (h.1▸hu)
inductive au {R Y:Type} (step:Y→LT R Y):LT R Y→R→Prop where
 | ret (r:R):au step (.ret r) r
 | more {y:Y} {r:R} (h:au step (step y) r):au step (.more y) r
 | br {b:Bool} {t e:LT R Y} {r:R} (h:au step (bif b then t else e) r):au step (.br b t e) r
 | need {b:Bool} {t:LT R Y} {r:R} (hb:b=true) (h:au step t r):au step (.need b t) r
 | eqs {p:Prop} {t:LT R Y} {r:R} (hp:p) (h:au step t r):au step (.eqs p t) r
 | and {a b:LT R Y} {r:R} (h1:au step a r) (h2:au step b r):au step (.and a b) r
section
variable {R Y:Type} {step:Y→LT R Y} {r:R}
theorem zl{r':R}:au step (.ret r') r↔r'=r:=⟨fun h=>by cases h;rfl,fun h=>by rw[h];exact .ret r⟩
theorem ak{y:Y}:au step (.more y) r↔au step (step y) r:=⟨fun h=>by cases h;assumption,.more⟩
theorem uB{b:Bool}{t e:LT R Y}:au step (.br b t e) r↔au step (bif b then t else e) r:=⟨fun h=>by cases h;assumption,.br⟩
theorem af{b:Bool}{t:LT R Y}:au step (.need b t) r↔b=true∧au step t r:=⟨fun h=>by cases h;exact⟨by assumption,by assumption⟩,fun h=>.need h.1 h.2⟩
theorem tX{p:Prop}{t:LT R Y}:au step (.eqs p t) r↔p∧au step t r:=⟨fun h=>by cases h;exact⟨by assumption,by assumption⟩,fun h=>.eqs h.1 h.2⟩
theorem aj{b:Bool}{t e:LT R Y}(hb:b=true):au step (.br b t e) r↔au step t r:=by rw[uB,hb];rfl
theorem ai{b:Bool}{t e:LT R Y}(hb:b=false):au step (.br b t e) r↔au step e r:=by rw[uB,hb];rfl
end
theorem pN{R Y:Type}{E:eB R}{Q:R→Prop}{G:eD→Prop}{cfg:Y→eD}{step:Y→LT R Y}{q:Bool}(hstep:∀y,∃n,Tr.Is q (run ah E n (advance E.cZ (cfg y))) ((step y).tr cfg))(hG:Closed E Q G){t:LT R Y}{r:R}(h:au step t r)(hr:Q r):Tr.Ok Q G (t.tr cfg):=by
 induction h with
 | ret r=>exact hr
 | more h ih=>
   rename_i y _
   obtain⟨n,hn⟩:=hstep y
   exact hG.go n _ (hn.ok (ih hr))
 | br h ih=>
   rename_i b t e _
   cases b with
   | true=>exact⟨fun _=>ih hr,fun h=>(by cases h)⟩
   | false=>exact⟨fun h=>(by cases h),fun _=>ih hr⟩
 | need hb h ih=>exact⟨hb,ih hr⟩
 | eqs hp h ih=>exact⟨hp,ih hr⟩
 | and h1 h2 ih1 ih2=>exact⟨ih1 hr,ih2 hr⟩
theorem Qq{R Y:Type}{E:eB R}{Q:R→Prop}{G:eD→Prop}{cfg:Y→eD}{step:Y→LT R Y}(hstep:∀y,∃n,Tr.IsW (run ah E n (advance E.cZ (cfg y))) ((step y).tr cfg))(hG:Closed E Q G){t:LT R Y}{r:R}(h:au step t r)(hr:Q r):Tr.Ok Q G (t.tr cfg):=by
 induction h with
 | ret r=>exact hr
 | more h ih=>
   rename_i y _
   obtain⟨n,hn⟩:=hstep y
   exact hG.go n _ (hn.ok (ih hr))
 | br h ih=>
   rename_i b t e _
   cases b with
   | true=>exact⟨fun _=>ih hr,fun h=>(by cases h)⟩
   | false=>exact⟨fun h=>(by cases h),fun _=>ih hr⟩
 | need hb h ih=>exact⟨hb,ih hr⟩
 | eqs hp h ih=>exact⟨hp,ih hr⟩
 | and h1 h2 ih1 ih2=>exact⟨ih1 hr,ih2 hr⟩
structure Walk(P:Program)(g:FuncId)(args res:List Ty)(Y:Type) where
 start:Ty.Ts args→LT (Ty.Ts res) Y
 step:Y→LT (Ty.Ts res) Y
structure Walk.Ok{P:Program}{g:FuncId}{args res:List Ty}{Y:Type}(W:Walk P g args res Y):Prop where
 sound:∀(pre:Ty.Ts args→Bool) (fn:Ty.Ts args→Ty.Ts res),(∀x,pre x=true→Ty.cN args x→au W.step (W.start x) (fn x))→ax.Sound P g ⟨args,res,pre,fn⟩
theorem eU:∀{ts:List Ty} {x:Ty.Ts ts},(cq ah ts x).length=ts.length
 | [],_=>rfl
 | [_],_=>rfl
 | t::t2::ts,x=>by
   rw[cq,List.length_cons,eU];rfl
theorem gx{g:FuncId}{F:Func}{aa:List AV}(hb:F.body.isSome=true)(h1:aa.length≤F.ntmps)(h2:F.ntmps≤65535):∃h0,dV g F aa=some h0:=by
 unfold dV
 cases hF:F.body with
 | none=>rw[hF] at hb;cases hb
 | some b=>
   simp only[Nat.ble_eq_true_of_le h1,Nat.ble_eq_true_of_le h2]
   exact⟨_,rfl⟩
theorem ED{P:Program}{g:FuncId}{F:Func}{args res:List Ty}{Y:Type}{E:eB (Ty.Ts res)}(hE:Base P E)(hfin:E.fin=Bt ah res)(hg:look E.dx g=some F)(hb:F.body.isSome=true)
  (hl:(Nat.ble args.length F.ntmps&&Nat.ble F.ntmps 65535)=true) (W:Walk P g args res Y) (cfg:Y→eD) {q0 q:Bool} (n:Nat) (hstart:∀x,Tr.Is q0 (run ah E n (i6 g F (cq ah args x))) ((W.start x).tr cfg))
  (hstep:∀y,∃n,Tr.Is q (run ah E n (advance E.cZ (cfg y))) ((W.step y).tr cfg)):W.Ok:=
 ⟨fun pre fn hr=>uo (s:=⟨args,res,pre,fn⟩) hE hfin hg hb n fun x hp hx=>by
  rw[cd] at hl
  obtain⟨h0,hen⟩:=gx (g:=g) (aa:=cq ah args x) hb (by rw[eU];exact oX hl.1) (oX hl.2)
  refine⟨h0,hen,fun G hG=>?_⟩
  have h:=hstart x
  rw[i6,hen] at h
  exact h.ok (pN hstep hG (hr x hp hx) rfl)⟩
theorem NW{P:Program}{g:FuncId}{F:Func}{args res:List Ty}{Y:Type}{E:eB (Ty.Ts res)}(hE:Base P E)(hno:(∀g s,look E.cZ g=some s→s.jD P g)∧E.jH=[]∧E.kR=[]∧E.jP=[]∧E.ops=[])(hfin:E.fin=Bt ah res)(hg:look E.dx g=some F)(hb:F.body.isSome=true)
  (hl:(Nat.ble args.length F.ntmps&&Nat.ble F.ntmps 65535)=true) (W:Walk P g args res Y) (cfg:Y→eD) {q:Bool} (n:Nat) (hstart:∀x,Tr.Is q (run ah E n (i6 g F (cq ah args x))) ((W.start x).tr cfg))
  (hstep:∀y,∃n,Tr.Is q (run ah E n (advance E.cZ (cfg y))) ((W.step y).tr cfg)) {pre:Ty.Ts args→Bool} {fn:Ty.Ts args→Ty.Ts res} (hr:∀x,pre x=true→Ty.cN args x→au W.step (W.start x) (fn x)) :
  ax.jD P g ⟨args,res,pre,fn⟩∧ax.Sound P g ⟨args,res,pre,fn⟩:=by
 have h:ax.jD P g ⟨args,res,pre,fn⟩:=Co (s:=⟨args,res,pre,fn⟩) hE hfin hg hno n fun x hp hx=>by
  rw[cd] at hl
  obtain⟨h0,hen⟩:=gx (g:=g) (aa:=cq ah args x) hb (by rw[eU];exact oX hl.1) (oX hl.2)
  refine⟨h0,hen,fun G hG=>?_⟩
  have h:=hstart x
  rw[i6,hen] at h
  exact h.ok (pN hstep hG (hr x hp hx) rfl)
 exact⟨h,fun w I x aa hI hv hp=>(h w I x aa hI hv hp).mono fun _ _ k=>k.2,F,(hE.dx g F hg).1,hb,(hE.dx g F hg).2⟩
theorem U2{P:Program}:∀g F,look ([]:List (FuncId×Func)) g=some F→P.funcs[g]? = some F∧(F.name == "runtime.NumGoroutine")=false:=fun _ _ h=>by cases h
theorem PO{P:Program}{f:FuncId}{F:Func}{l:List (FuncId×Func)}(h1:P.funcs[f]? = some F)(h2:(F.name == "runtime.NumGoroutine")=false)(h:∀g F,look l g=some F→P.funcs[g]? = some F∧(F.name == "runtime.NumGoroutine")=false) :
  ∀g G,look ((f,F)::l) g=some G→P.funcs[g]? = some G∧(G.name == "runtime.NumGoroutine")=false:=fun g G hg=>by
 rw[look] at hg
 by_cases e:f=g
 ·subst e;rw[aY.2 rfl] at hg;cases hg;exact⟨h1,h2⟩
 ·rw[bq.2 e] at hg;exact h g G hg
theorem Uy{P:Program}:∀g s,look ([]:List (FuncId×ax)) g=some s→s.Sound P g:=fun _ _ h=>by cases h
theorem M5{P:Program}{f:FuncId}{s:ax}{l:List (FuncId×ax)}(h1:s.Sound P f)(h:∀g s,look l g=some s→s.Sound P g):∀g s',look ((f,s)::l) g=some s'→s'.Sound P g:=fun g s' hg=>by
 rw[look] at hg
 by_cases e:f=g
 ·subst e;rw[aY.2 rfl] at hg;cases hg;exact h1
 ·rw[bq.2 e] at hg;exact h g s' hg
def tt{α:Type}:α→Bool:=fun _=>true
theorem ax.Sound.congr{P:Program}{g:FuncId}{args res:List Ty}{pre pre':Ty.Ts args→Bool}{fn fn':Ty.Ts args→Ty.Ts res}(h:ax.Sound P g ⟨args,res,pre,fn⟩)
  (he:∀x,pre' x=true→Ty.cN args x→pre x=true∧fn x=fn' x):ax.Sound P g ⟨args,res,pre',fn'⟩:=by
 refine⟨fun w I x aa hI hrep hpre=>?_,h.body⟩
 obtain⟨h1,h2⟩:=he x hpre hrep.has
 have:=h.calls w I x aa hI hrep h1
 simp only at this ⊢
 rw[h2] at this
 exact this
def WZ(ti:PT TI)(A:aI)(res:List Ty)(dx:List (FuncId×Func))(cZ:List (FuncId×ax))(stops dd:List Stop):eB (Ty.Ts res):=⟨ti,dx,cZ,stops,dd, [],Bt A res, [], [],0, [], []⟩
def mkP(jH:List (FuncId×gy))(ti:PT TI)(A:aI)(res:List Ty)(dx:List (FuncId×Func))(cZ:List (FuncId×ax))(stops dd:List Stop):eB (Ty.Ts res):=⟨ti,dx,cZ,stops,dd, [],Bt A res,jH, [],0, [], []⟩
def mkW(t:Ty)(jP:List (FuncId×dG))(ti:PT TI)(A:aI)(res:List Ty)(dx:List (FuncId×Func))(cZ:List (FuncId×ax))(stops dd:List Stop):eB (List t.T×Ty.Ts res):=⟨ti,dx,cZ,stops,dd, [],VN A t res, [], [],1,jP, []⟩
def mkQ(jP:List (FuncId×dG))(kR:List (FuncId×bL))(jH:List (FuncId×gy))(ti:PT TI)(A:aI)(res:List Ty)(dx:List (FuncId×Func))(cZ:List (FuncId×ax))(stops dd:List Stop):eB (Ty.Ts res):=⟨ti,dx,cZ,stops,dd, [],Bt A res,jH,kR,0,jP, []⟩
def mkM(rp:Bool)(ptrs:List VF)(jP:List (FuncId×dG))(kR:List (FuncId×bL))(jH:List (FuncId×gy))(ti:PT TI)(A:aI)(res:List Ty)(dx:List (FuncId×Func))(cZ:List (FuncId×ax))(stops dd:List Stop):eB (Ty.Ts (VF.fQ ptrs)×Ty.Ts res):=⟨ti,dx,cZ,stops,dd, [],Tq A rp ptrs res,jH,kR,ptrs.length,jP, []⟩
def mkN(ops:List (FuncId×kl))(jP:List (FuncId×dG))(kR:List (FuncId×bL))(jH:List (FuncId×gy))(ti:PT TI)(A:aI)(res:List Ty)(dx:List (FuncId×Func))(cZ:List (FuncId×ax))(stops dd:List Stop):eB (Ty.Ts res):=⟨ti,dx,cZ,stops,dd, [],Bt A res,jH,kR,0,jP,ops⟩
def mkO(out:VF)(opt:Bool)(ops:List (FuncId×kl))(jP:List (FuncId×dG))(kR:List (FuncId×bL))(jH:List (FuncId×gy))(ti:PT TI)(A:aI)(res:List Ty)(dx:List (FuncId×Func))(cZ:List (FuncId×ax))(stops dd:List Stop):eB (Bool×out.ty.T×Ty.Ts res):=⟨ti,dx,cZ,stops,dd, [],Tt A out opt res,jH,kR,0,jP,ops⟩
def mU(P:Program)(l:List (FuncId×Func)):Prop:=∀g F,look l g=some F→P.funcs[g]? = some F∧(F.name == "runtime.NumGoroutine")=false
def nO(P:Program)(l:List (FuncId×ax)):Prop:=∀g s,look l g=some s→s.Sound P g
def sR(P:Program)(l:List (FuncId×gy)):Prop:=∀g s,look l g=some s→s.Sound P g
def uq(P:Program)(l:List (FuncId×bL)):Prop:=∀g s,look l g=some s→s.Sound P g
def rZ(P:Program)(l:List (FuncId×dG)):Prop:=∀g s,look l g=some s→s.Sound P g
def Du(P:Program)(l:List (FuncId×kl)):Prop:=∀g s,look l g=some s→s.Sound P g
theorem oz{P:Program}:Du P []:=fun _ _ h=>by cases h
theorem oc{P:Program}{f:FuncId}{s:kl}{l:List (FuncId×kl)}(h1:s.Sound P f)(h:Du P l):Du P ((f,s)::l):=fun g s' hg=>by
 rw[look] at hg
 by_cases e:f=g
 ·subst e;rw[aY.2 rfl] at hg;cases hg;exact h1
 ·rw[bq.2 e] at hg;exact h g s' hg
def EH(P:Program)(l:List (FuncId×ax)):Prop:=∀g s,look l g=some s→s.jD P g∧s.Sound P g
theorem szD{P:Program}:EH P []:=fun _ _ h=>by cases h
theorem scD{P:Program}{f:FuncId}{s:ax}{l:List (FuncId×ax)}(h1:s.jD P f∧s.Sound P f)(h:EH P l):EH P ((f,s)::l):=fun g s' hg=>by
 rw[look] at hg
 by_cases e:f=g
 ·subst e;rw[aY.2 rfl] at hg;cases hg;exact h1
 ·rw[bq.2 e] at hg;exact h g s' hg
theorem iz{P:Program}:rZ P []:=fun _ _ h=>by cases h
theorem ic{P:Program}{f:FuncId}{s:dG}{l:List (FuncId×dG)}(h1:s.Sound P f)(h:rZ P l):rZ P ((f,s)::l):=fun g s' hg=>by
 rw[look] at hg
 by_cases e:f=g
 ·subst e;rw[aY.2 rfl] at hg;cases hg;exact h1
 ·rw[bq.2 e] at hg;exact h g s' hg
theorem mz{P:Program}:uq P []:=fun _ _ h=>by cases h
theorem mc{P:Program}{f:FuncId}{s:bL}{l:List (FuncId×bL)}(h1:s.Sound P f)(h:uq P l):uq P ((f,s)::l):=fun g s' hg=>by
 rw[look] at hg
 by_cases e:f=g
 ·subst e;rw[aY.2 rfl] at hg;cases hg;exact h1
 ·rw[bq.2 e] at hg;exact h g s' hg
theorem pz{P:Program}:sR P []:=fun _ _ h=>by cases h
theorem pc{P:Program}{f:FuncId}{s:gy}{l:List (FuncId×gy)}(h1:s.Sound P f)(h:sR P l):sR P ((f,s)::l):=fun g s' hg=>by
 rw[look] at hg
 by_cases e:f=g
 ·subst e;rw[aY.2 rfl] at hg;cases hg;exact h1
 ·rw[bq.2 e] at hg;exact h g s' hg
theorem fz{P:Program}:mU P []:=U2
theorem fc{P:Program}{f:FuncId}{F:Func}{l:List (FuncId×Func)}(h1:P.funcs[f]? = some F)(h:mU P l)(h2:(F.name == "runtime.NumGoroutine")=false:=by kernel_rfl):mU P ((f,F)::l):=PO h1 h2 h
theorem sz{P:Program}:nO P []:=Uy
theorem sc{P:Program}{f:FuncId}{s:ax}{l:List (FuncId×ax)}(h1:s.Sound P f)(h:nO P l):nO P ((f,s)::l):=M5 h1 h
section
variable {P:Program} {ti:PT TI} (ht:iV P ti) (hm:P.follows .mixedOrders=true) {g:FuncId} {F:Func} {args res:List Ty} {dx:List (FuncId×Func)} {cZ:List (FuncId×ax)} {pre:Ty.Ts args→Bool} {fn:Ty.Ts args→Ty.Ts res}
include ht hm
theorem aP(q:Bool){Y:Type}(n:Nat)(stops dd:List Stop)(start:aI→Ty.Ts args→LT (Ty.Ts res) Y)(step:aI→Y→LT (Ty.Ts res) Y)(cfg:Y→eD)(hf:mU P ((g,F)::dx))(hs:nO P cZ)
  (hstep:∀A y,∃n,Tr.Is q (run A (WZ ti A res ((g,F)::dx) cZ stops dd) n (advance cZ (cfg y))) ((step A y).tr cfg))
  (hr:∀x,pre x=true→Ty.cN args x→au (step ah) (start ah x) (fn x))
  (hb:F.body.isSome=true:=by kernel_rfl) (hl:(Nat.ble args.length F.ntmps&&Nat.ble F.ntmps 65535)=true:=by kernel_rfl)
  (h0:∀A x,Tr.Is q (run A (WZ ti A res ((g,F)::dx) cZ stops dd) n (i6 g F (cq A args x))) ((start A x).tr cfg):=by intro A x;first|exact⟨by kernel_rfl,by kernel_rfl⟩|(show Tr.full _=_;kernel_rfl)):ax.Sound P g ⟨args,res,pre,fn⟩:=
 (ED (E:=WZ ti ah res ((g,F)::dx) cZ stops dd) ⟨ht,hf,hs,hm,fun _ _ h=>(by cases h),fun _ _ h=>(by cases h),fun _ _ h=>(by cases h),fun _ _ h=>(by cases h)⟩ rfl (show look ((g,F)::dx) g=some F by rw[look,aY.2 rfl]) hb hl ⟨start ah,step ah⟩ cfg n (h0 ah) (hstep ah)).sound pre fn hr
theorem mD(q:Bool){Y:Type}(n:Nat)(stops dd:List Stop)(start:aI→Ty.Ts args→LT (Ty.Ts res) Y)(step:aI→Y→LT (Ty.Ts res) Y)(cfg:Y→eD)(hf:mU P ((g,F)::dx))(hs:EH P cZ)
  (hstep:∀A y,∃n,Tr.Is q (run A (WZ ti A res ((g,F)::dx) cZ stops dd) n (advance cZ (cfg y))) ((step A y).tr cfg))
  (hr:∀x,pre x=true→Ty.cN args x→au (step ah) (start ah x) (fn x))
  (hb:F.body.isSome=true:=by kernel_rfl) (hl:(Nat.ble args.length F.ntmps&&Nat.ble F.ntmps 65535)=true:=by kernel_rfl)
  (h0:∀A x,Tr.Is q (run A (WZ ti A res ((g,F)::dx) cZ stops dd) n (i6 g F (cq A args x))) ((start A x).tr cfg):=by intro A x;first|exact⟨by kernel_rfl,by kernel_rfl⟩|(show Tr.full _=_;kernel_rfl)):ax.jD P g ⟨args,res,pre,fn⟩∧ax.Sound P g ⟨args,res,pre,fn⟩:=
 NW (E:=WZ ti ah res ((g,F)::dx) cZ stops dd) ⟨ht,hf,fun g s h=>(hs g s h).2,hm,fun _ _ h=>(by cases h),fun _ _ h=>(by cases h),fun _ _ h=>(by cases h),fun _ _ h=>(by cases h)⟩ ⟨fun g s h=>(hs g s h).1,rfl,rfl,rfl,rfl⟩ rfl (show look ((g,F)::dx) g=some F by rw[look,aY.2 rfl]) hb hl ⟨start ah,step ah⟩ cfg n (h0 ah) (hstep ah) hr
theorem pG(q:Bool){Y:Type}(n:Nat){jP:List (FuncId×dG)}(hip:rZ P jP){kR:List (FuncId×bL)}(hmp:uq P kR){jH:List (FuncId×gy)}(hpp:sR P jH)(stops dd:List Stop)(start:aI→Ty.Ts args→LT (Ty.Ts res) Y)(step:aI→Y→LT (Ty.Ts res) Y)(cfg:Y→eD)(hf:mU P ((g,F)::dx))(hs:nO P cZ)
  (hstep:∀A y,∃n,Tr.Is q (run A (mkQ jP kR jH ti A res ((g,F)::dx) cZ stops dd) n (advance cZ (cfg y))) ((step A y).tr cfg))
  (hr:∀x,pre x=true→Ty.cN args x→au (step ah) (start ah x) (fn x))
  (hb:F.body.isSome=true:=by kernel_rfl) (hl:(Nat.ble args.length F.ntmps&&Nat.ble F.ntmps 65535)=true:=by kernel_rfl)
  (h0:∀A x,Tr.Is q (run A (mkQ jP kR jH ti A res ((g,F)::dx) cZ stops dd) n (i6 g F (cq A args x))) ((start A x).tr cfg):=by intro A x;first|exact⟨by kernel_rfl,by kernel_rfl⟩|(show Tr.full _=_;kernel_rfl)):ax.Sound P g ⟨args,res,pre,fn⟩:=
 (ED (E:=mkQ jP kR jH ti ah res ((g,F)::dx) cZ stops dd) ⟨ht,hf,hs,hm,hpp,hmp,hip,fun _ _ h=>(by cases h)⟩ rfl (show look ((g,F)::dx) g=some F by rw[look,aY.2 rfl]) hb hl ⟨start ah,step ah⟩ cfg n (h0 ah) (hstep ah)).sound pre fn hr
theorem D1(q0 q:Bool){Y:Type}(n:Nat){ops:List (FuncId×kl)}(hop:Du P ops){jP:List (FuncId×dG)}(hip:rZ P jP){kR:List (FuncId×bL)}(hmp:uq P kR){jH:List (FuncId×gy)}(hpp:sR P jH)(stops dd:List Stop)(start:aI→Ty.Ts args→LT (Ty.Ts res) Y)(step:aI→Y→LT (Ty.Ts res) Y)(cfg:Y→eD)(hf:mU P ((g,F)::dx))(hs:nO P cZ)
  (hstep:∀A y,∃n,Tr.Is q (run A (mkN ops jP kR jH ti A res ((g,F)::dx) cZ stops dd) n (advance cZ (cfg y))) ((step A y).tr cfg))
  (hr:∀x,pre x=true→Ty.cN args x→au (step ah) (start ah x) (fn x))
  (hb:F.body.isSome=true:=by kernel_rfl) (hl:(Nat.ble args.length F.ntmps&&Nat.ble F.ntmps 65535)=true:=by kernel_rfl)
  (h0:∀A x,Tr.Is q0 (run A (mkN ops jP kR jH ti A res ((g,F)::dx) cZ stops dd) n (i6 g F (cq A args x))) ((start A x).tr cfg):=by intro A x;first|exact⟨by kernel_rfl,by kernel_rfl⟩|(show Tr.full _=_;kernel_rfl)):ax.Sound P g ⟨args,res,pre,fn⟩:=
 (ED (E:=mkN ops jP kR jH ti ah res ((g,F)::dx) cZ stops dd) ⟨ht,hf,hs,hm,hpp,hmp,hip,hop⟩ rfl (show look ((g,F)::dx) g=some F by rw[look,aY.2 rfl]) hb hl ⟨start ah,step ah⟩ cfg n (h0 ah) (hstep ah)).sound pre fn hr
theorem Ci(q:Bool){Y:Type}(n:Nat){ops:List (FuncId×kl)}(hop:Du P ops){jP:List (FuncId×dG)}(hip:rZ P jP){kR:List (FuncId×bL)}(hmp:uq P kR){jH:List (FuncId×gy)}(hpp:sR P jH)(stops dd:List Stop)(start:aI→Ty.Ts args→LT (Ty.Ts res) Y)(step:aI→Y→LT (Ty.Ts res) Y)(cfg:Y→eD)(hf:mU P ((g,F)::dx))(hs:nO P cZ)
  (hstep:∀A y,∃n,Tr.Is q (run A (mkN ops jP kR jH ti A res ((g,F)::dx) cZ stops dd) n (advance cZ (cfg y))) ((step A y).tr cfg))
  (hr:∀x,pre x=true→Ty.cN args x→au (step ah) (start ah x) (fn x))
  (hb:F.body.isSome=true:=by kernel_rfl) (hl:(Nat.ble args.length F.ntmps&&Nat.ble F.ntmps 65535)=true:=by kernel_rfl)
  (h0:∀A x,Tr.IsW (run A (mkN ops jP kR jH ti A res ((g,F)::dx) cZ stops dd) n (i6 g F (cq A args x))) ((start A x).tr cfg):=by intro A x;exact⟨by kernel_rfl,by kernel_rfl⟩):ax.Sound P g ⟨args,res,pre,fn⟩:=
 uo (s:=⟨args,res,pre,fn⟩) (E:=mkN ops jP kR jH ti ah res ((g,F)::dx) cZ stops dd) ⟨ht,hf,hs,hm,hpp,hmp,hip,hop⟩ rfl (show look ((g,F)::dx) g=some F by rw[look,aY.2 rfl]) hb n fun x hp hx=>by
  rw[cd] at hl
  obtain⟨h1,hen⟩:=gx (g:=g) (aa:=cq ah args x) hb (by rw[eU];exact oX hl.1) (oX hl.2)
  refine⟨h1,hen,fun G hG=>?_⟩
  have h:=h0 ah x
  rw[i6,hen] at h
  exact h.ok (pN (hstep ah) hG (hr x hp hx) rfl)
theorem u_(q:Bool){Y:Type}{out:VF}{opt:Bool}{ofn:Ty.Ts args→Bool×out.ty.T×Ty.Ts res}(n:Nat){ops:List (FuncId×kl)}(hop:Du P ops){jP:List (FuncId×dG)}(hip:rZ P jP){kR:List (FuncId×bL)}(hmp:uq P kR){jH:List (FuncId×gy)}(hpp:sR P jH)(stops dd:List Stop)(start:aI→Ty.Ts args→LT (Bool×out.ty.T×Ty.Ts res) Y)(step:aI→Y→LT (Bool×out.ty.T×Ty.Ts res) Y)(cfg:Y→eD)(hf:mU P ((g,F)::dx))(hs:nO P cZ)
  (hstep:∀A y,∃n,Tr.Is q (run A (mkO out opt ops jP kR jH ti A res ((g,F)::dx) cZ stops dd) n (advance cZ (cfg y))) ((step A y).tr cfg))
  (hr:∀x,pre x=true→Ty.cN args x→au (step ah) (start ah x) (ofn x))
  (hb:F.body.isSome=true:=by kernel_rfl) (hl:(Nat.ble args.length F.ntmps&&Nat.ble F.ntmps 65535)=true:=by kernel_rfl)
  (h0:∀A x,Tr.Is q (run A (mkO out opt ops jP kR jH ti A res ((g,F)::dx) cZ stops dd) n (i6 g F (cq A args x))) ((start A x).tr cfg):=by intro A x;first|exact⟨by kernel_rfl,by kernel_rfl⟩|(show Tr.full _=_;kernel_rfl)):kl.Sound P g ⟨args,out,opt,res,pre,ofn⟩:=
 Cp (s:=⟨args,out,opt,res,pre,ofn⟩) (E:=mkO out opt ops jP kR jH ti ah res ((g,F)::dx) cZ stops dd) ⟨ht,hf,hs,hm,hpp,hmp,hip,hop⟩ rfl (show look ((g,F)::dx) g=some F by rw[look,aY.2 rfl]) hb n fun x hp hx=>by
  rw[cd] at hl
  obtain⟨h1,hen⟩:=gx (g:=g) (aa:=cq ah args x) hb (by rw[eU];exact oX hl.1) (oX hl.2)
  refine⟨h1,hen,fun G hG=>?_⟩
  have h:=h0 ah x
  rw[i6,hen] at h
  exact h.ok (pN (hstep ah) hG (hr x hp hx) rfl)
theorem bQ(q:Bool){Y:Type}{rp:Bool}{ptrs:List VF}{ppre:Ty.Ts (VF.fQ ptrs)×Ty.Ts args→Bool}{pfn:Ty.Ts (VF.fQ ptrs)×Ty.Ts args→Ty.Ts (VF.fQ ptrs)×Ty.Ts res}(n:Nat){jP:List (FuncId×dG)}(hip:rZ P jP){kR:List (FuncId×bL)}(hmp:uq P kR){jH:List (FuncId×gy)}(hpp:sR P jH)(stops dd:List Stop)(start:aI→Ty.Ts (VF.fQ ptrs)×Ty.Ts args→LT (Ty.Ts (VF.fQ ptrs)×Ty.Ts res) Y)(step:aI→Y→LT (Ty.Ts (VF.fQ ptrs)×Ty.Ts res) Y)(cfg:Y→eD)(hf:mU P ((g,F)::dx))(hs:nO P cZ)
  (hstep:∀A y,∃n,Tr.Is q (run A (mkM rp ptrs jP kR jH ti A res ((g,F)::dx) cZ stops dd) n (advance cZ (cfg y))) ((step A y).tr cfg))
  (hr:∀x,ppre x=true→Ty.cN (VF.fQ ptrs) x.1→Ty.cN args x.2→au (step ah) (start ah x) (pfn x))
  (hb:F.body.isSome=true:=by kernel_rfl) (hl:(Nat.ble (ptrs.length+args.length) F.ntmps&&Nat.ble F.ntmps 65535)=true:=by kernel_rfl) (hpo:dB ptrs=true:=by kernel_rfl)
  (h0:∀A x,Tr.Is q (run A (mkM rp ptrs jP kR jH ti A res ((g,F)::dx) cZ stops dd) n (yy A g F ptrs x.1 (cq A args x.2))) ((start A x).tr cfg):=by intro A x;first|exact⟨by kernel_rfl,by kernel_rfl⟩|(show Tr.full _=_;kernel_rfl)):bL.Sound P g ⟨ptrs,args,res,ppre,pfn,rp⟩:=
 sJ (s:=⟨ptrs,args,res,ppre,pfn,rp⟩) (E:=mkM rp ptrs jP kR jH ti ah res ((g,F)::dx) cZ stops dd) ⟨ht,hf,hs,hm,hpp,hmp,hip,fun _ _ h=>(by cases h)⟩ rfl (Nat.le_refl _) hpo (show look ((g,F)::dx) g=some F by rw[look,aY.2 rfl]) hb n fun x y hp hx hy=>by
  rw[cd] at hl
  obtain⟨h1,hen⟩:=gx (g:=g) (aa:=fE ptrs.length++cq ah args y) hb (by rw[gm,eU,fE,List.length_map,List.length_range];exact oX hl.1) (oX hl.2)
  refine⟨h1,hen,fun G hG=>?_⟩
  have h:=h0 ah (x,y)
  rw[yy,hen] at h
  exact h.ok (pN (hstep ah) hG (hr (x,y) hp hx hy) rfl)
theorem Ct{Y:Type}{rp:Bool}{ptrs:List VF}{ppre:Ty.Ts (VF.fQ ptrs)×Ty.Ts args→Bool}{pfn:Ty.Ts (VF.fQ ptrs)×Ty.Ts args→Ty.Ts (VF.fQ ptrs)×Ty.Ts res}(n:Nat){jP:List (FuncId×dG)}(hip:rZ P jP){kR:List (FuncId×bL)}(hmp:uq P kR){jH:List (FuncId×gy)}(hpp:sR P jH)(stops dd:List Stop)(start:aI→Ty.Ts (VF.fQ ptrs)×Ty.Ts args→LT (Ty.Ts (VF.fQ ptrs)×Ty.Ts res) Y)(step:aI→Y→LT (Ty.Ts (VF.fQ ptrs)×Ty.Ts res) Y)(cfg:Y→eD)(hf:mU P ((g,F)::dx))(hs:nO P cZ)
  (hstep:∀A y,∃n,Tr.IsW (run A (mkM rp ptrs jP kR jH ti A res ((g,F)::dx) cZ stops dd) n (advance cZ (cfg y))) ((step A y).tr cfg))
  (hr:∀x,ppre x=true→Ty.cN (VF.fQ ptrs) x.1→Ty.cN args x.2→au (step ah) (start ah x) (pfn x))
  (hb:F.body.isSome=true:=by kernel_rfl) (hl:(Nat.ble (ptrs.length+args.length) F.ntmps&&Nat.ble F.ntmps 65535)=true:=by kernel_rfl) (hpo:dB ptrs=true:=by kernel_rfl)
  (h0:∀A x,Tr.IsW (run A (mkM rp ptrs jP kR jH ti A res ((g,F)::dx) cZ stops dd) n (yy A g F ptrs x.1 (cq A args x.2))) ((start A x).tr cfg):=by intro A x;exact⟨by kernel_rfl,by kernel_rfl⟩):bL.Sound P g ⟨ptrs,args,res,ppre,pfn,rp⟩:=
 sJ (s:=⟨ptrs,args,res,ppre,pfn,rp⟩) (E:=mkM rp ptrs jP kR jH ti ah res ((g,F)::dx) cZ stops dd) ⟨ht,hf,hs,hm,hpp,hmp,hip,fun _ _ h=>(by cases h)⟩ rfl (Nat.le_refl _) hpo (show look ((g,F)::dx) g=some F by rw[look,aY.2 rfl]) hb n fun x y hp hx hy=>by
  rw[cd] at hl
  obtain⟨h1,hen⟩:=gx (g:=g) (aa:=fE ptrs.length++cq ah args y) hb (by rw[gm,eU,fE,List.length_map,List.length_range];exact oX hl.1) (oX hl.2)
  refine⟨h1,hen,fun G hG=>?_⟩
  have h:=h0 ah (x,y)
  rw[yy,hen] at h
  exact h.ok (Qq (hstep ah) hG (hr (x,y) hp hx hy) rfl)
theorem iG(q:Bool){Y:Type}{el:Ty}{cfs:List FuncId}{ipre:List el.T×Ty.Ts args→Bool}{ifn:List el.T×Ty.Ts args→List el.T×Ty.Ts res}(n:Nat){jP:List (FuncId×dG)}(hip:rZ P jP)(stops dd:List Stop)(start:aI→List el.T×Ty.Ts args→LT (List el.T×Ty.Ts res) Y)(step:aI→Y→LT (List el.T×Ty.Ts res) Y)(cfg:Y→eD)(hf:mU P ((g,F)::dx))(hs:nO P cZ)
  (hstep:∀A y,∃n,Tr.Is q (run A (mkW el jP ti A res ((g,F)::dx) cZ stops dd) n (advance cZ (cfg y))) ((step A y).tr cfg))
  (hr:∀x,ipre x=true→Ty.has (.slice el) x.1→Ty.cN args x.2→(ifn x).1.length=x.1.length∧au (step ah) (start ah x) (ifn x))
  (hb:F.body.isSome=true:=by kernel_rfl) (hl:(Nat.ble (1+(args.length+cfs.length)) F.ntmps&&Nat.ble F.ntmps 65535)=true:=by kernel_rfl)
  (h0:∀A x,Tr.Is q (run A (mkW el jP ti A res ((g,F)::dx) cZ stops dd) n (JR A g F el x.1 (cq A args x.2) cfs)) ((start A x).tr cfg):=by intro A x;first|exact⟨by kernel_rfl,by kernel_rfl⟩|(show Tr.full _=_;kernel_rfl)):dG.Sound P g ⟨el,args,cfs,res,ipre,ifn⟩:=
 Cj (s:=⟨el,args,cfs,res,ipre,ifn⟩) (E:=mkW el jP ti ah res ((g,F)::dx) cZ stops dd) ⟨ht,hf,hs,hm,fun _ _ h=>(by cases h),fun _ _ h=>(by cases h),hip,fun _ _ h=>(by cases h)⟩ rfl (Nat.le_refl _) (show look ((g,F)::dx) g=some F by rw[look,aY.2 rfl]) hb n (fun x y hp hx hy=>(hr (x,y) hp hx hy).1) fun x y hp hx hy=>by
  rw[cd] at hl
  obtain⟨h1,hen⟩:=gx (g:=g) (aa:=.own 0::(cq ah args y++cfs.map fun f=>.fn f [] [])) hb (by rw[List.length_cons,gm,eU,List.length_map,Nat.add_comm];exact oX hl.1) (oX hl.2)
  refine⟨h1,hen,fun G hG=>?_⟩
  have h:=h0 ah (x,y)
  rw[JR,hen] at h
  exact h.ok (pN (hstep ah) hG (hr (x,y) hp hx hy).2 rfl)
theorem uO(q:Bool){Y:Type}{view:Ty}{ppre:view.T×Ty.Ts args→Bool}{pfn:view.T×Ty.Ts args→Ty.Ts res}(n:Nat){jH:List (FuncId×gy)}(hpp:sR P jH)(stops dd:List Stop)(start:aI→view.T×Ty.Ts args→LT (Ty.Ts res) Y)(step:aI→Y→LT (Ty.Ts res) Y)(cfg:Y→eD)(hf:mU P ((g,F)::dx))(hs:nO P cZ)
  (hstep:∀A y,∃n,Tr.Is q (run A (mkP jH ti A res ((g,F)::dx) cZ stops dd) n (advance cZ (cfg y))) ((step A y).tr cfg))
  (hr:∀x,ppre x=true→view.has x.1→Ty.cN args x.2→au (step ah) (start ah x) (pfn x))
  (hb:F.body.isSome=true:=by kernel_rfl) (hl:(Nat.ble (args.length+1) F.ntmps&&Nat.ble F.ntmps 65535)=true:=by kernel_rfl) (hsc:Ty.scalars res=true:=by kernel_rfl)
  (h0:∀A x,Tr.Is q (run A (mkP jH ti A res ((g,F)::dx) cZ stops dd) n (i6 g F (.jA view x.1 0::cq A args x.2))) ((start A x).tr cfg):=by intro A x;first|exact⟨by kernel_rfl,by kernel_rfl⟩|(show Tr.full _=_;kernel_rfl)):gy.Sound P g ⟨view,args,res,ppre,pfn⟩:=
 Ck (s:=⟨view,args,res,ppre,pfn⟩) (E:=mkP jH ti ah res ((g,F)::dx) cZ stops dd) ⟨ht,hf,hs,hm,hpp,fun _ _ h=>(by cases h),fun _ _ h=>(by cases h),fun _ _ h=>(by cases h)⟩ rfl (show look ((g,F)::dx) g=some F by rw[look,aY.2 rfl]) hb n hsc fun x y hp hx hy=>by
  rw[cd] at hl
  obtain⟨h1,hen⟩:=gx (g:=g) (aa:=.jA view x 0::cq ah args y) hb (by rw[List.length_cons,eU];exact oX hl.1) (oX hl.2)
  refine⟨h1,hen,fun G hG=>?_⟩
  have h:=h0 ah (x,y)
  rw[i6,hen] at h
  exact h.ok (pN (hstep ah) hG (hr (x,y) hp hx hy) rfl)
theorem aZ(q:Bool)(n:Nat)(dd:List Stop)(start:aI→Ty.Ts args→LT (Ty.Ts res) Empty)(hf:mU P ((g,F)::dx))(hs:nO P cZ)
  (hr:∀x,pre x=true→Ty.cN args x→au Empty.elim (start ah x) (fn x))
  (hb:F.body.isSome=true:=by kernel_rfl) (hl:(Nat.ble args.length F.ntmps&&Nat.ble F.ntmps 65535)=true:=by kernel_rfl)
  (h0:∀A x,Tr.Is q (run A (WZ ti A res ((g,F)::dx) cZ [] dd) n (i6 g F (cq A args x))) ((start A x).tr Empty.elim):=by intro A x;first|exact⟨by kernel_rfl,by kernel_rfl⟩|(show Tr.full _=_;kernel_rfl)):ax.Sound P g ⟨args,res,pre,fn⟩:=
 aP ht hm q n [] dd start (fun _=>Empty.elim) Empty.elim hf hs (fun _ y=>y.elim) hr hb hl h0
end
end Go.Ev
namespace Go.Ev
def Ir:AV→Value→Bool
 | .undef,_=>true
 | .int k _ n,.int k' n'=>iy k k'&&(decide (n=0)&&decide (n'=0))
 | .bool _ b,.bool b'=>b==b'
 | .str _ s,.string s'=>s.isEmpty&&s'.data.toList.isEmpty
 | .dp _,.slice none 0 0=>true
 | .sl _ [],.slice none 0 0=>true
 | .fS,.pointer none=>true
 | .kz,.nilFunc=>true
 | _,_=>false
def ub:List AV→List Value→Bool
 | [], []=>true
 | a::r,v::vs=>Ir a v&&ub r vs
 | _,_=>false
theorem Ga(k:IntKind):k.has 0:=by cases k<;>exact⟨by decide,by decide⟩
section
variable {w:World} {S:St} {m:Mem} {P:Program}
theorem pI{s:ByteArray}(h:s.data.toList.isEmpty=true):s=⟨#[]⟩:=by
 obtain⟨⟨l⟩⟩:=s
 cases l with
 | nil=>rfl
 | cons _ _=>cases h
theorem LH{a:AV}{v:Value}(h:Ir a v=true):CR w S m a v:=by
 unfold Ir at h
 split at h
 ·exact dC
 ·simp only[cd,jV] at h
  obtain⟨h1,rfl,rfl⟩:=h
  rw[iI h1]
  exact bK.2 ⟨rfl,Ga _⟩
 ·rw[beq_iff_eq] at h;exact c_.2 (by rw[h])
 ·rw[cd] at h
  rename_i s s'
  cases s with
  | cons _ _=>cases h.1
  | nil=>exact gi.2 ⟨by rw[pI h.2],Nat.zero_le _⟩
 ·exact iB.2 ⟨none,rfl,fun _=>rfl⟩
 ·exact lz.2 (bE.2 ⟨none,0,rfl,Nat.le_refl _,Nat.zero_le _,fun _=>rfl,fun i y h=>by cases h⟩)
 ·exact iE.2 rfl
 ·exact jW.2 rfl
 ·cases h
theorem ug:∀{as:List AV} {vs:List Value},ub as vs=true→bC w S m as vs
 | [], [],_=>aL.2 rfl
 | a::r,v::vs,h=>by
   rw[ub,cd] at h
   exact aV.2 ⟨v,vs,rfl,LH h.1,ug h.2⟩
 | [],_::_,h=>by cases h
 | _::_, [],h=>by cases h
mutual
def Ty.zeros:Ty→List Value
 | .int k=>[.int k 0]
 | .bool=>[.bool false]
 | .str=>[.string ⟨#[]⟩]
 | .slice _=>[.slice none 0 0]
 | .arr n t=>(List.replicate n t.zeros).flatten
 | .struct ts=>Ty.vK ts
 | .any n=>List.replicate n (.int .i64 0)
def Ty.vK:List Ty→List Value
 | []=>[]
 | t::ts=>t.zeros++Ty.vK ts
end
mutual
theorem Ty.ry{I:Nat→Prop}:∀(t:Ty),aS w I t t.zeros t.dZ
 | .int k=>nz.2 ⟨rfl,Ga k⟩
 | .bool=>wy.2 rfl
 | .str=>uZ.2 ⟨rfl,Nat.zero_le _⟩
 | .slice t=>bE.2 ⟨none,0,rfl,Nat.le_refl _,Nat.zero_le _,fun _=>rfl,fun i y h=>by cases h⟩
 | .arr n t=>by
   have ih:=Ty.ry (I:=I) t
   refine uD.2 ⟨pQ,?_,fun i y h=>?_⟩
   ·show((List.replicate n t.zeros).flatten).length=_
    rw[List.length_flatten,List.map_replicate,List.sum_replicate_nat,ih.length]
   ·have h:(List.replicate n t.dZ)[i]? = some y:=h
    obtain⟨h1,h2⟩:=List.getElem?_eq_some_iff.1 h
    rw[pQ] at h1
    rw[List.getElem_replicate] at h2
    subst h2
    have:=jo (l:=t.zeros) ih.length h1
    show aS w I t ((((List.replicate n t.zeros).flatten).drop (i*t.size)).take t.size) _
    rw[this];exact ih
 | .struct ts=>qT.2 (Ty.Bu ts)
 | .any n=>by rw[aS];exact pQ
theorem Ty.Bu{I:Nat→Prop}:∀(ts:List Ty),bM w I ts (Ty.vK ts) (Ty.bi ts)
 | []=>rT.2 rfl
 | [t]=>vZ.2 (by
   have:Ty.vK [t]=t.zeros:=by simp only[Ty.vK,List.append_nil]
   rw[this];exact Ty.ry t)
 | t::t2::ts=>tx.2 ⟨t.zeros,Ty.vK (t2::ts),rfl,Ty.ry t,Ty.Bu (t2::ts)⟩
end
def PL:Value→Value→Bool
 | .int k n,.int k' n'=>iy k k'&&decide (n=n')
 | .bool b,.bool b'=>b==b'
 | .string s,.string s'=>s.data.toList.isEmpty&&s'.data.toList.isEmpty
 | .slice none 0 0,.slice none 0 0=>true
 | _,_=>false
def Ea:List Value→List Value→Bool
 | [], []=>true
 | a::r,v::vs=>PL a v&&Ea r vs
 | _,_=>false
theorem Se{a b:Value}(h:PL a b=true):a=b:=by
 unfold PL at h
 split at h
 ·simp only[cd,jV] at h;rw[iI h.1,h.2]
 ·rw[beq_iff_eq] at h;rw[h]
 ·rw[cd] at h;rw[pI h.1,pI h.2]
 ·rfl
 ·cases h
theorem CB:∀{a b:List Value},Ea a b=true→a=b
 | [], [],_=>rfl
 | a::r,v::vs,h=>by
   rw[Ea,cd] at h
   rw[Se h.1,CB h.2]
 | [],_::_,h=>by cases h
 | _::_, [],h=>by cases h
def o4(P:Program)(t:TypeId):Option Bool:=
 match P.underlying t with
 | some (.struct _)=>some true
 | some (.array _ _)=>some true
 | some _=>some false
 | none=>none
theorem t_{t:TypeId}{b:Bool}(h:o4 P t=some b)(w:World):(isAgg t).run P w=.ok b w:=by
 unfold o4 at h
 cases hu:P.underlying t with
 | none=>rw[hu] at h;cases h
 | some d=>
   rw[hu] at h
   unfold isAgg
   rw[Sem.run_bind,run_underlying hu]
   cases d<;>cases h<;>rfl
def AB(a:Option Bool)(b:Bool):Bool:=match a with|some c=>c==b|none=>false
theorem vS{a:Option Bool}{b:Bool}(h:AB a b=true):a=some b:=by
 cases a with
 | none=>cases h
 | some c=>rw[AB,beq_iff_eq] at h;rw[h]
def fieldsB(P:Program):List Field→List (Nat×Nat×Bool)→Bool
 | [], []=>true
 | f::F,(off,sz,ag)::fs=>Nat.beq f.offset off&&(AB (o4 P f.type) ag&&((match P.info? f.type with|some j=>Nat.beq j.size sz|none=>false)&&fieldsB P F fs))
 | _,_=>false
theorem Ba:∀{F:List Field} {fs:List (Nat×Nat×Bool)},fieldsB P F fs=true→F.length=fs.length∧∀(i off sz:Nat) (ag:Bool),fs[i]? = some (off,sz,ag)→
   ∃f j,F[i]? = some f∧f.offset=off∧P.info? f.type=some j∧j.size=sz∧∀w,(isAgg f.type).run P w=.ok ag w
 | [], [],_=>⟨rfl,fun i off sz ag h=>by cases h⟩
 | [],_::_,h=>by cases h
 | _::_, [],h=>by cases h
 | f::F,(off,sz,ag)::fs,h=>by
   simp only[fieldsB,cd] at h
   obtain⟨h1,h2,h3,h4⟩:=h
   obtain⟨g1,g2⟩:=Ba h4
   refine⟨by rw[List.length_cons,List.length_cons,g1],fun i off' sz' ag' hi=>?_⟩
   cases i with
   | zero=>
     cases hi
     cases hj:P.info? f.type with
     | none=>rw[hj] at h3;cases h3
     | some j=>
       rw[hj] at h3
       exact⟨f,j,rfl,mI h1,hj,mI h3,t_ (vS h2)⟩
   | succ i=>exact g2 i off' sz' ag' (by simpa using hi)
def Pk(P:Program)(T:TypeId):TK→Bool
 | .bool=>match P.underlying T with|some .bool=>true|_=>false
 | .int k=>match P.underlying T with|some (.int k')=>iy k' k|_=>false
 | .str=>match P.underlying T with|some .string=>true|_=>false
 | .slice e=>match P.underlying T with|some (.slice e')=>Nat.beq e' e|_=>false
 | .arr n e=>match P.underlying T with|some (.array n' e')=>Nat.beq n' n&&Nat.beq e' e|_=>false
 | .ptr e=>match P.underlying T with|some (.pointer e')=>Nat.beq e' e|_=>false
 | .func=>match P.underlying T with|some (.func _ _ _)=>true|_=>false
 | .struct fs=>match P.underlying T with|some (.struct F)=>fieldsB P F.toList fs|_=>false
 | .other=>true
theorem NI{T:TypeId}{k:TK}(h:Pk P T k=true):kindOk P T k:=by
 cases k<;>simp only[Pk] at h<;>simp only[kindOk]
 case bool=>split at h<;>first|assumption|cases h
 case int k=>
  split at h
  ·rename_i k' hu;rw[hu,iI h]
  ·cases h
 case str=>split at h<;>first|assumption|cases h
 case slice e=>
  split at h
  ·rename_i e' hu;rw[hu,mI h]
  ·cases h
 case arr n e=>
  split at h
  ·rename_i n' e' hu;rw[cd] at h;rw[hu,mI h.1,mI h.2]
  ·cases h
 case struct fs=>
  split at h
  ·rename_i F hu
   obtain⟨h1,h2⟩:=Ba h
   exact⟨F,hu,by rw[←h1,Array.length_toList],fun i off sz ag hi=>by
    obtain⟨f,j,e,r⟩:=h2 i off sz ag hi
    exact⟨f,j,by rw[←Array.getElem?_toList];exact e,r⟩⟩
  ·cases h
 case ptr e=>
  split at h
  ·rename_i e' hu;rw[hu,mI h]
  ·cases h
 case func=>
  split at h
  ·rename_i a b c hu;exact⟨a,b,c,hu⟩
  ·cases h
def Ml(P:Program)(eq:TypeId→List AV→Bool)(z:List AV):Nat→List Field→Option Nat
 | off, []=>some off
 | off,f::fs=>match decide (f.name≠ "_")&&(Nat.beq f.offset off&&eq f.type ((z.drop off).take (P.cellsOf f.type))) with
   | true=>Ml P eq z (off+P.cellsOf f.type) fs
   | false=>none
def WL(a:Option Nat)(b:Nat):Bool:=match a with|some c=>Nat.beq c b|none=>false
theorem Ny{a:Option Nat}{b:Nat}(h:WL a b=true):a=some b:=by
 cases a with
 | none=>cases h
 | some c=>rw[mI h]
def SG(P:Program):Nat→TypeId→List AV→Bool
 | 0,_,_=>false
 | d+1,t,z=>match P.underlying t with
   | some .bool=>Nat.beq (P.cellsOf t) 1&&(match z with | [.bool _ _]=>true|_=>false)
   | some (.int _)=>Nat.beq (P.cellsOf t) 1&&(match z with | [.int _ _ _]=>true|_=>false)
   | some .string=>Nat.beq (P.cellsOf t) 1&&(match z with | [.str _ _]=>true|_=>false)
   | some (.struct fs)=>!P.stoodInHeld t&&(WL (Ml P (SG P d) z 0 fs.toList) (P.cellsOf t)&&Nat.beq z.length (P.cellsOf t))
   | _=>false
theorem sK:∀{a b:List AV},ir a b=true→a.length=b.length
 | [], [],_=>rfl
 | a::as,b::bs,h=>by
   rw[ir,cd] at h
   rw[List.length_cons,List.length_cons,sK h.2]
 | [],_::_,h=>by cases h
 | _::_, [],h=>by cases h
theorem wW:∀{a b:List AV} (n:Nat),ir a b=true→ir (a.drop n) (b.drop n)=true
 | _,_,0,h=>h
 | [], [],n+1,_=>rfl
 | a::as,b::bs,n+1,h=>by
   rw[ir,cd] at h
   exact wW n h.2
 | [],_::_,_+1,h=>by cases h
 | _::_, [],_+1,h=>by cases h
theorem xK:∀{a b:List AV} (n:Nat),ir a b=true→ir (a.take n) (b.take n)=true
 | _,_,0,_=>rfl
 | [], [],n+1,_=>rfl
 | a::as,b::bs,n+1,h=>by
   rw[ir,cd] at h
   rw[List.take_succ_cons,List.take_succ_cons,ir,cd]
   exact⟨h.1,xK n h.2⟩
 | [],_::_,_+1,h=>by cases h
 | _::_, [],_+1,h=>by cases h
theorem sG:∀{a b x y:List AV} {c:Bool} {g:aI→Bool},a.length=b.length→bJ (a++x) (b++y)=some (c,g)→
  ∃c1 g1 c2 g2,bJ a b=some (c1,g1)∧bJ x y=some (c2,g2)∧g ah=(g1 ah&&g2 ah)
 | [], [],x,y,c,g,_,h=>⟨true,fun _=>true,c,g,by simp[bJ],h,rfl⟩
 | [],_::_,_,_,_,_,h,_=>by cases h
 | _::_, [],_,_,_,_,h,_=>by cases h
 | a::as,b::bs,x,y,c,g,hl,h=>by
   have hl:as.length=bs.length:=by simpa using hl
   have split:∀(c':Bool) (e:aI→Bool),(match bJ (as++x) (bs++y) with|none=>none|some (c2,g)=>some (c'&&c2,fun A=>A.and (e A) (g A)))=some (c,g)→
     (∀q:Option (Bool×(aI→Bool)),bJ as bs=q→bJ (a::as) (b::bs)=(match q with|none=>none|some (c2,g)=>some (c'&&c2,fun A=>A.and (e A) (g A))))→
     ∃c1 g1 c2 g2,bJ (a::as) (b::bs)=some (c1,g1)∧bJ x y=some (c2,g2)∧g ah=(g1 ah&&g2 ah):=by
    intro c' e h hk
    cases hq:bJ (as++x) (bs++y) with
    | none=>rw[hq] at h;cases h
    | some q=>
      obtain⟨c2,g2⟩:=q
      rw[hq] at h
      cases h
      obtain⟨c1,g1,c3,g3,h1,h2,h3⟩:=sG hl hq
      refine⟨_,_,c3,g3,hk _ h1,h2,?_⟩
      show ah.and (e ah) (g2 ah)=(ah.and (e ah) (g1 ah)&&g3 ah)
      rw[h3]
      show(e ah&&(g1 ah&&g3 ah))=((e ah&&g1 ah)&&g3 ah)
      rw[Bool.and_assoc]
   cases a<;>cases b<;>simp only[List.cons_append,bJ] at h<;>try (cases h;done)
   case int.int k c1 n1 k' c2 n2=>
    cases hk:iy k k' with
    | false=>rw[hk] at h;cases h
    | true=>
      rw[hk] at h
      exact split (c1&&c2) (fun A=>A.c .eql n1 n2) h (fun q hq=>by simp only[bJ,hk,hq];cases q<;>rfl)
   case bool.bool c1 n1 c2 n2=>exact split (c1&&c2) (fun A=>A.q n1 n2) h (fun q hq=>by simp only[bJ,hq];cases q<;>rfl)
   case str.str c1 n1 c2 n2=>exact split (c1&&c2) (fun A=>A.z .eql n1 n2) h (fun q hq=>by simp only[bJ,hq];cases q<;>rfl)
def Pm(P:Program)(t:TypeId)(us:List Value)(v:Value):Prop:=(o4 P t=some true∧v=.agg us.toArray)∨(o4 P t=some false∧us=[v])
theorem Bn{t:TypeId}{us:Array Value}{off:Nat}{b:Bool}(hb:o4 P t=some b)(h1:b=false→P.cellsOf t=1)(hi:∃j,P.info? t=some j)(hl:off+P.cellsOf t≤us.size)(w:World) :
  ∃v,(part t us off).run P w=.ok v w∧Pm P t ((us.toList.drop off).take (P.cellsOf t)) v:=by
 obtain⟨j,hj⟩:=hi
 have hc:P.cellsOf t=j.size:=by simp[Program.cellsOf,hj]
 have hs:(sizeOf t).run P w=.ok (P.cellsOf t) w:=by simp[sizeOf,typeInfo,hj,hc]
 cases b with
 | true=>
   refine⟨.agg (us.extract off (off+P.cellsOf t)),by simp[part,Sem.run_bind,t_ hb,hs],.inl ⟨hb,?_⟩⟩
   congr 1
   apply Array.toList_inj.1
   rw[Array.toList_extract,List.extract_eq_take_drop,show off+P.cellsOf t-off=P.cellsOf t from by omega]
 | false=>
   have h1:=h1 rfl
   rw[h1] at hl ⊢
   have hlt:off<us.size:=by omega
   refine⟨us[off],by simp[part,Sem.run_bind,t_ hb,Array.getElem?_eq_getElem hlt],.inr ⟨hb,?_⟩⟩
   have hlt':off<us.toList.length:=by simpa using hlt
   rw[pV hlt',List.take_succ_cons,List.take_zero]
   simp
theorem info_of_underlying{t:TypeId}{d:TypeDesc}(h:P.underlying t=some d):∃j,P.info? t=some j:=by
 unfold Program.underlying at h
 cases hi:P.info? t with
 | none=>rw[hi] at h;cases h
 | some j=>exact⟨j,rfl⟩
theorem PK{d:Nat}{t:TypeId}{z:List AV}(h:SG P d t z=true):(∃j,P.info? t=some j)∧((o4 P t=some false∧P.cellsOf t=1)∨o4 P t=some true):=by
 cases d with
 | zero=>cases h
 | succ d=>
   unfold SG at h
   cases hu:P.underlying t with
   | none=>rw[hu] at h;cases h
   | some q=>
     refine⟨info_of_underlying hu,?_⟩
     rw[hu] at h
     cases q<;>simp only at h<;>try (cases h;done)
     case struct fs=>exact .inr (by simp[o4,hu])
     all_goals
      rw[cd] at h
      exact .inl ⟨by simp[o4,hu],mI h.1⟩
theorem Dp:∀(d:Nat) {D:Nat} {t:TypeId} {z xs ys:List AV} {us vs:List Value} {u v:Value} {c:Bool} {g:aI→Bool} {w:World},d≤D→SG P d t z=true→ir xs z=true→xs.length=P.cellsOf t→ys.length=P.cellsOf t→bJ xs ys=some (c,g)→
  bC w S m xs us→bC w S m ys vs→Pm P t us u→Pm P t vs v→(Op.equalIn D t u v).run P w=.ok (g ah) w
 | 0,_,_,_,_,_,_,_,_,_,_,_,_,_,h,_,_,_,_,_,_,_,_=>by cases h
 | d+1,0,_,_,_,_,_,_,_,_,_,_,_,hD,_,_,_,_,_,_,_,_,_=>by omega
 | d+1,D+1,t,z,xs,ys,us,vs,u,v,c,g,w,hD,h,hz,hx,hy,he,hxs,hys,hu,hv=>by
   unfold SG at h
   cases hut:P.underlying t with
   | none=>rw[hut] at h;cases h
   | some q=>
     rw[hut] at h
     -- a type of one cell
     have one:o4 P t=some false→P.cellsOf t=1→∃a b,xs=[a]∧ys=[b]∧CR w S m a u∧CR w S m b v:=by
      intro ha h1
      rw[h1] at hx hy
      obtain⟨a,rfl⟩:=List.length_eq_one_iff.1 hx
      obtain⟨b,rfl⟩:=List.length_eq_one_iff.1 hy
      rcases hu with ⟨h',_⟩|⟨_,rfl⟩
      ·rw[ha] at h';cases h'
      ·rcases hv with ⟨h',_⟩|⟨_,rfl⟩
       ·rw[ha] at h';cases h'
       ·obtain⟨_,_,e,h1,_⟩:=aV.1 hxs
        obtain⟨_,_,e',h1',_⟩:=aV.1 hys
        cases e;cases e'
        exact⟨a,b,rfl,rfl,h1,h1'⟩
     cases q<;>simp only at h<;>try (cases h;done)
     case bool=>
      rw[cd] at h
      obtain⟨a,b,rfl,rfl,ha,hb⟩:=one (by simp[o4,hut]) (mI h.1)
      have h2:=h.2
      split at h2
      ·cases a<;>simp[ir,K3] at hz
       cases b<;>simp[bJ] at he
       obtain⟨_,rfl⟩:=he
       rw[c_.1 ha,c_.1 hb,run_equalIn_bool' w D t _ _ hut]
       simp[ah]
      ·cases h2
     case int k0=>
      rw[cd] at h
      obtain⟨a,b,rfl,rfl,ha,hb⟩:=one (by simp[o4,hut]) (mI h.1)
      have h2:=h.2
      split at h2
      ·cases a<;>simp[ir,K3] at hz
       cases b<;>simp[bJ] at he
       rename_i k c1 n1 k' c2 n2
       cases hk:iy k k' with
       | false=>rw[hk] at he;cases he
       | true=>
         rw[hk] at he
         have hkk:=iI hk
         subst hkk
         simp only[Option.some.injEq,Prod.mk.injEq] at he
         obtain⟨_,rfl⟩:=he
         rw[(bK.1 ha).1,(bK.1 hb).1,run_equalIn_int w D t _ k0 _ _ hut]
         simp[ah,qc]
      ·cases h2
     case string=>
      rw[cd] at h
      obtain⟨a,b,rfl,rfl,ha,hb⟩:=one (by simp[o4,hut]) (mI h.1)
      have h2:=h.2
      split at h2
      ·cases a<;>simp[ir,K3] at hz
       cases b<;>simp[bJ] at he
       obtain⟨_,rfl⟩:=he
       rw[(gi.1 ha).1,(gi.1 hb).1,run_equalIn_string w D t _ _ hut]
       simp[ah,QK,ByteArray.toList_eq]
      ·cases h2
     case struct fs=>
      rw[cd,Bool.not_eq_true',cd] at h
      obtain⟨hst,hfs,_⟩:=h
      have hfs:=Ny hfs
      have hag:o4 P t=some true:=by simp[o4,hut]
      have hu:u=.agg us.toArray:=by
       rcases hu with ⟨_,e⟩|⟨h',_⟩
       ·exact e
       ·rw[hag] at h';cases h'
      have hv:v=.agg vs.toArray:=by
       rcases hv with ⟨_,e⟩|⟨h',_⟩
       ·exact e
       ·rw[hag] at h';cases h'
      subst hu;subst hv
      have hfo:P.fieldsOf t=fs:=by simp[Program.fieldsOf,hut]
      rw[run_equalIn_struct w D t _ _ (by rw[hfo];exact hut) hst,hfo]
      -- field by field
      have key:∀(F:List Field) (off:Nat) (g:aI→Bool) (c:Bool),Ml P (SG P d) z off F=some (P.cellsOf t)→off≤P.cellsOf t→bJ (xs.drop off) (ys.drop off)=some (c,g)→(Op.eqFields D us.toArray vs.toArray F).run P w=.ok (g ah) w:=by
       intro F
       induction F with
       | nil=>
         intro off g c hF _ he
         cases hF
         rw[List.drop_of_length_le (by omega),List.drop_of_length_le (by omega)] at he
         simp only[bJ,Option.some.injEq,Prod.mk.injEq] at he
         obtain⟨_,rfl⟩:=he
         simp[Op.eqFields]
       | cons f F ihF=>
         intro off g c hF hoff he
         rw[Ml] at hF
         cases hck:decide (f.name≠ "_")&&(Nat.beq f.offset off&&SG P d f.type ((z.drop off).take (P.cellsOf f.type))) with
         | false=>rw[hck] at hF;cases hF
         | true=>
           rw[hck] at hF
           simp only at hF
           rw[cd,cd,jV] at hck
           obtain⟨hname,hfo,heq⟩:=hck
           have hfo:=mI hfo
           have hle:off+P.cellsOf f.type≤P.cellsOf t:=by
            have mono:∀(F:List Field) (a b:Nat),Ml P (SG P d) z a F=some b→a≤b:=by
             intro F
             induction F with
             | nil=>intro a b h;cases h;exact Nat.le_refl _
             | cons f F ih=>
               intro a b h
               rw[Ml] at h
               split at h
               ·exact Nat.le_trans (Nat.le_add_right _ _) (ih _ _ h)
               ·cases h
            exact mono F _ _ hF
           obtain⟨hinf,hone⟩:=PK heq
           obtain⟨bb,hbb,hb1⟩:∃bb,o4 P f.type=some bb∧(bb=false→P.cellsOf f.type=1):=by
            rcases hone with ⟨h1,h2⟩|h1
            ·exact⟨false,h1,fun _=>h2⟩
            ·exact⟨true,h1,fun h=>by cases h⟩
           have hul:us.length=P.cellsOf t:=by rw[hxs.length,hx]
           have hvl:vs.length=P.cellsOf t:=by rw[hys.length,hy]
           obtain⟨a,ha,hav⟩:=Bn (us:=us.toArray) (off:=off) hbb hb1 hinf (by rw[List.size_toArray,hul];exact hle) w
           obtain⟨b,hb,hbv⟩:=Bn (us:=vs.toArray) (off:=off) hbb hb1 hinf (by rw[List.size_toArray,hvl];exact hle) w
           have ex:xs.drop off=(xs.drop off).take (P.cellsOf f.type)++xs.drop (off+P.cellsOf f.type):=by rw[←List.drop_drop,List.take_append_drop]
           have ey:ys.drop off=(ys.drop off).take (P.cellsOf f.type)++ys.drop (off+P.cellsOf f.type):=by rw[←List.drop_drop,List.take_append_drop]
           have lx:((xs.drop off).take (P.cellsOf f.type)).length=P.cellsOf f.type:=by rw[List.length_take,List.length_drop];omega
           have ly:((ys.drop off).take (P.cellsOf f.type)).length=P.cellsOf f.type:=by rw[List.length_take,List.length_drop];omega
           rw[ex,ey] at he
           obtain⟨c1,g1,c2,g2,e1,e2,e3⟩:=sG (by rw[lx,ly]) he
           have r1:=Dp d (D:=D) (by omega) heq (xK _ (wW _ hz)) lx ly e1 ((hxs.drop off).take _) ((hys.drop off).take _) hav hbv
           have r2:=ihF (off+P.cellsOf f.type) g2 c2 hF hle e2
           simp only[Op.eqFields,if_pos hname,Sem.run_bind,hfo,ha,Result.andThen_ok,hb,r1]
           rw[e3]
           cases hg1:g1 ah with
           | true=>simp only[Bool.not_true,Bool.false_eq_true,if_false,Bool.true_and];exact r2
           | false=>simp
      exact key fs.toList 0 g c hfs (Nat.zero_le _) (by simpa using he)
def Rq(P:Program)(T:TypeId)(z:List AV):Bool:=
 SG P 50 T z&&(AB (o4 P T) true&&(Nat.beq (P.cellsOf T) z.length && !P.eqGuardType P.depth T))
theorem Q0{T:TypeId}{z:List AV}(h:Rq P T z=true):agx P T z:=by
 simp only[Rq,cd,Bool.not_eq_true'] at h
 obtain⟨h1,h2,h3,h4⟩:=h
 have h2:=vS h2
 have h3:=mI h3
 intro w S m xs ys us vs c g hk he hx hy
 have hl:=sK hk
 have hly:∀{xs ys:List AV} {c:Bool} {g:aI→Bool},bJ xs ys=some (c,g)→ys.length=xs.length:=by
  intro xs
  induction xs with
  | nil=>intro ys c g h;cases ys with
    | nil=>rfl
    | cons b _=>cases b<;>simp[bJ] at h
  | cons a xs ih=>
    intro ys c g h
    cases ys with
    | nil=>cases a<;>simp[bJ] at h
    | cons b ys=>
      have:∃c g,bJ xs ys=some (c,g):=by
       cases hq:bJ xs ys with
       | some q=>exact⟨q.1,q.2,rfl⟩
       | none=>
         cases a<;>cases b<;>simp only[bJ,hq] at h<;>(try (cases h;done))
         split at h<;>cases h
      obtain⟨c',g',h'⟩:=this
      rw[List.length_cons,List.length_cons,ih h']
 refine⟨?_,fun op x y=>?_⟩
 ·exact Dp (m:=m) (S:=S) 50 (D:=Op.maxDepth) (by decide) h1 hk (by omega) (by rw[hly he];omega) he hx hy (.inl ⟨h2,rfl⟩) (.inl ⟨h2,rfl⟩)
 ·cases op<;>simp[eqGuard,Sem.run_bind,run_program,h4]
def tiB(P:Program)(T:TypeId)(ti:TI):Bool:=
 (match P.info? T with
   | none=>false
   | some i=>Nat.beq i.size ti.size&&(Nat.beq i.bytes ti.bytes&&(match i.zero with
     | none=>false
     | some z=>ub ti.zero z.cells.toList&&(match ti.ty with
       | none=>true
       | some t=>Ea z.cells.toList t.zeros&&(Nat.beq t.size ti.size&&((t.isAgg==ti.agg)&&t.mg)))))) &&
 (Pk P T ti.kind&&(AB (o4 P T) ti.agg&&(Nat.beq ti.zero.length ti.size&&(!(ti.eq&&ti.agg)||Rq P T ti.zero))))
theorem abq{T:TypeId}{ti:TI}(h:tiB P T ti=true):v_ P T ti:=by
 simp only[tiB,cd] at h
 obtain⟨h1,h2,h3,h4,h5⟩:=h
 cases hi:P.info? T with
 | none=>rw[hi] at h1;cases h1
 | some i=>
   rw[hi] at h1
   simp only[cd] at h1
   obtain⟨g1,g2,g3⟩:=h1
   cases hz:i.zero with
   | none=>rw[hz] at g3;cases g3
   | some z=>
     rw[hz] at g3
     simp only[cd] at g3
     obtain⟨g3,g4⟩:=g3
     have hty:∀t,ti.ty=some t→z.cells.toList=t.zeros∧(t.size=ti.size∧t.isAgg=ti.agg)∧t.mg=true:=fun t ht=>by
      rw[ht] at g4
      simp only[cd,beq_iff_eq] at g4
      exact⟨CB g4.1,⟨mI g4.2.1,g4.2.2.1⟩,g4.2.2.2⟩
     refine⟨⟨i,z,hi,mI g1,mI g2,hz,fun w S m=>ug g3,fun t ht w I=>?_⟩,NI h2,t_ (vS h3),mI h4,fun t ht=>(hty t ht).2.1,fun he ha=>?_,fun t ht=>(hty t ht).2.2⟩
     ·rw[(hty t ht).1];exact Ty.ry t
     ·rw[he,ha] at h5
      exact Q0 (by simpa using h5)
def Ra(P:Program):Nat→Nat→Nat→PT TI→Bool
 | 0,_,_,t=>match t with | .leaf=>true|_=>false
 | _+1,_,_,.leaf=>true
 | f+1,a,s,.node l v r=>(match v with|some ti=>tiB P a ti|none=>true)&&(Ra P f (a+s) (2*s) l&&Ra P f (a+2*s) (2*s) r)
theorem EW:∀{f a s:Nat} {t:PT TI},Ra P f a s t=true→∀n ti,t.get n=some ti→v_ P (a+s*n) ti
 | 0,a,s,.leaf,_,n,ti,hg=>by rw[PT.np] at hg;cases hg
 | 0,a,s,.node _ _ _,h,_,_,_=>by cases h
 | f+1,a,s,.leaf,_,n,ti,hg=>by rw[PT.np] at hg;cases hg
 | f+1,a,s,.node l v r,h,n,ti,hg=>by
   simp only[Ra,cd] at h
   rw[PT.jk] at hg
   split at hg
   ·rename_i hn
    subst hn
    rw[hg] at h
    exact abq h.1
   ·rename_i hn
    split at hg
    ·rename_i h1
     have:=EW h.2.1 _ _ hg
     have e:a+s+2*s*(n/2)=a+s*n:=by
      have:n=2*(n/2)+1:=by omega
      conv=>rhs;rw[this]
      rw[Nat.mul_add,Nat.mul_one,Nat.mul_comm 2 s,Nat.mul_assoc,Nat.add_assoc,Nat.add_comm s]
     rw[e] at this;exact this
    ·rename_i h1
     have:=EW h.2.2 _ _ hg
     have e:a+2*s+2*s*(n/2-1)=a+s*n:=by
      have:n=2*(n/2-1)+2:=by omega
      conv=>rhs;rw[this]
      rw[Nat.mul_add,Nat.mul_comm 2 s,Nat.mul_assoc,Nat.add_assoc,Nat.add_comm (s*2)]
     rw[e] at this;exact this
theorem aan{t:PT TI}(h:Ra P 30 0 1 t=true):iV P t:=fun T ti hg=>by
 have:=EW h T ti hg
 rwa [Nat.zero_add,Nat.one_mul] at this
end
end Go.Ev
namespace Go.Ev
def lh(P:Program)(ty:TypeId→Option Ty):Nat→List Field→Option (List Ty×Nat)
 | off, []=>some ([],off)
 | off,f::fs=>match ty f.type with
   | none=>none
   | some t=>match Nat.beq f.offset off&&Nat.beq (P.cellsOf f.type) t.size with
     | false=>none
     | true=>match lh P ty (off+t.size) fs with
       | none=>none
       | some (ts,n)=>some (t::ts,n)
def xT(P:Program):Nat→TypeId→Option Ty
 | 0,_=>none
 | d+1,t=>match P.underlying t with
   | some .bool=>some .bool
   | some (.int k)=>some (.int k)
   | some .string=>some .str
   | some (.slice e)=>match xT P d e with
     | none=>none
     | some ty=>match Nat.beq (P.cellsOf e) ty.size&&(Nat.blt 0 ty.size&&Nat.blt 0 (P.bytesOf e)) with
       | true=>some (.slice ty)
       | false=>none
   | some (.struct fs)=>match lh P (xT P d) 0 fs.toList with
     | none=>none
     | some (ts,n)=>match Nat.beq (P.cellsOf t) n with
       | true=>some (.struct ts)
       | false=>none
   | _=>none
def CZ(P:Program):List TypeId→Option (List Ty)
 | []=>some []
 | t::ts=>match xT P 60 t with
   | none=>none
   | some ty=>match CZ P ts with
     | none=>none
     | some fQ=>some (ty::fQ)
section
variable {H:Type} {enc:TypeId×Value→H} {P:Program} {w:World} {base:Nat} {spare:Nat→Bool} {held:Bool}
theorem uT{ty:TypeId→Option Ty}:∀{fs:List Field} {off n:Nat} {ts:List Ty},lh P ty off fs=some (ts,n)→n=off+Ty.gk ts
 | [],off,n,ts,h=>by cases h;rfl
 | f::fs,off,n,ts,h=>by
   rw[lh] at h
   cases ht:ty f.type with
   | none=>rw[ht] at h;cases h
   | some t=>
     rw[ht] at h
     simp only at h
     split at h
     ·cases h
     ·cases hr:lh P ty (off+t.size) fs with
      | none=>rw[hr] at h;cases h
      | some q=>
        obtain⟨ts',n'⟩:=q
        rw[hr] at h
        cases h
        rw[uT hr,Ty.gk,Nat.add_assoc]
theorem Dx{a:Addr}{n:Nat}{us:List Value}(h:w.cells? base a n=some us):us.length=n∧(0<n→a.spot=none∧a.block<w.heap.size)∧(a.spot=none→gp w a.block a.off us):=by
 unfold World.cells? at h
 split at h
 ·have hl:us.length=n:=by simpa using mapM_some_length h
  have hg:∀i,i<n→w.cell? (a.add i)=us[i]? :=fun i hi=>by
   have:=mapM_some_get h i i (by simp[hi])
   exact this
  refine⟨hl,fun hn=>?_,fun hs j u hu=>?_⟩
  ·have h0:=hg 0 hn
   rw[uX (by omega)] at h0
   have e:a.add 0=a:=by simp[Addr.add]
   rw[e] at h0
   unfold World.cell? at h0
   split at h0
   ·rename_i c _ _ hb
    split at h0
    ·cases h0
    ·rename_i hsp
     exact⟨by simpa using hsp,(Array.getElem?_eq_some_iff.1 hb).1⟩
   ·cases h0
  ·have hj:j<n:=by rw[←hl];exact(List.getElem?_eq_some_iff.1 hu).1
   have:=hg j hj
   rw[hu] at this
   rw[←this]
   congr 1
   obtain⟨b,o,sp⟩:=a
   have hs:sp=none:=hs
   subst hs
   exact(Addr.add_lit b o j).symm
 ·cases h
theorem xG{α:Type}{p:Nat→α→Prop}:∀(n:Nat),(∀i,i<n→∃x,p i x)→∃l:List α,l.length=n∧∀i x,l[i]? = some x→p i x
 | 0,_=>⟨[],rfl,fun i x h=>by simp at h⟩
 | n+1,h=>by
   obtain⟨l,h1,h2⟩:=xG n fun i hi=>h i (by omega)
   obtain⟨x,hx⟩:=h n (by omega)
   refine⟨l ++ [x],by simp[h1],fun i y hy=>?_⟩
   rcases Nat.lt_trichotomy i l.length with hi|hi|hi
   ·rw[List.getElem?_append_left hi] at hy;exact h2 i y hy
   ·subst hi
    rw[List.getElem?_append_right (Nat.le_refl _),Nat.sub_self] at hy
    cases hy
    rw[h1];exact hx
   ·rw[List.getElem?_eq_none (by simp;omega)] at hy;cases hy
theorem xh{P:Program}{e:TypeId}:∀{l:List (DataW H)} {d:DataW H},d∈l→∀n∈d.weights P e,n∈DataW.weightsAll P e l
 | x::l,d,hd,n,hn=>by
   rw[DataW.weightsAll]
   rcases List.mem_cons.1 hd with rfl|hd
   ·exact ku.2 (.inl hn)
   ·exact ku.2 (.inr (xh hd n hn))
theorem tW{P:Program}:∀{ts:List TypeId} {l:List (DataW H)} {i:Nat} {t:TypeId} {d:DataW H},ts[i]? = some t→l[i]? = some d→∀n∈d.weights P t,n∈DataW.weightsEach P ts l
 | [],_,i,t,d,h,_,_,_=>by simp at h
 | _::_, [],i,t,d,_,h,_,_=>by simp at h
 | t0::ts,d0::l,i,t,d,h1,h2,n,hn=>by
   rw[DataW.weightsEach]
   cases i with
   | zero=>cases h1;cases h2;exact ku.2 (.inl hn)
   | succ i=>exact ku.2 (.inr (tW (i:=i) (by simpa using h1) (by simpa using h2) n hn))
theorem Bo{ty:TypeId→Option Ty}{cs:List Value}{rd:Field→Option (DataW H×List MemPlace)}{I:Nat→Prop} :
  ∀{fs:List Field} {off n:Nat} {ts:List Ty},lh P ty off fs=some (ts,n)→n≤cs.length→
  (∀(i:Nat) (f:Field) (t:Ty),fs[i]? = some f→ty f.type=some t→P.cellsOf f.type=t.size→∃x,aS w I t ((cs.drop f.offset).take (P.cellsOf f.type)) x)→∃x,bM w I ts ((cs.drop off).take (n-off)) x
 | [],off,n,ts,h,_,_=>by
   cases h
   exact⟨(),rT.2 (by rw[Nat.sub_self,List.take_zero])⟩
 | f::fs,off,n,ts,h,hn,hx=>by
   have hsz:=uT h
   rw[lh] at h
   cases ht:ty f.type with
   | none=>rw[ht] at h;cases h
   | some t=>
     rw[ht] at h
     simp only at h
     cases hck:Nat.beq f.offset off&&Nat.beq (P.cellsOf f.type) t.size with
     | false=>rw[hck] at h;cases h
     | true=>
       rw[hck] at h
       simp only at h
       rw[cd] at hck
       have ho:=mI hck.1
       have hc:=mI hck.2
       cases hr:lh P ty (off+t.size) fs with
       | none=>rw[hr] at h;cases h
       | some q=>
         obtain⟨ts',n'⟩:=q
         rw[hr] at h
         cases h
         obtain⟨x,h1⟩:=hx 0 f t rfl ht hc
         obtain⟨y,h2⟩:=Bo (rd:=rd) hr hn fun i g t' hg=>hx (i+1) g t' (by simpa using hg)
         rw[ho,hc] at h1
         rw[Ty.gk] at hsz
         have e:(cs.drop off).take (n-off)=(cs.drop off).take t.size++(cs.drop (off+t.size)).take (n-(off+t.size)):=by
          rw[show n-off=t.size+(n-(off+t.size)) from by omega,List.take_add,List.drop_drop]
         rw[e]
         cases ts' with
         | nil=>
           have h3:=rT.1 h2
           rw[h3,List.append_nil]
           exact⟨x,vZ.2 h1⟩
         | cons t2 ts'=>exact⟨(x,y),tx.2 ⟨_,_,rfl,h1,h2⟩⟩
theorem LF{k:IntKind}{n:Int}(h:(Lit.int k n).wf=true):k.has n:=by
 simp only[Lit.wf,cd,jV] at h
 exact⟨h.1,h.2⟩
theorem zf:∀(d:Nat) {t:TypeId} {ty:Ty} {fuel:Nat} {cs:List Value} {r:DataW H×List MemPlace},xT P d t=some ty→DataW.trod enc P w base spare held fuel t cs=some r→(∀n∈r.1.weights P t,n≤reachBytes)→
  ∃x,aS w (fun b=>b<w.heap.size) ty cs x
 | 0,_,_,_,_,_,h,_,_=>by cases h
 | d+1,t,ty,fuel,cs,r,h,htr,hwt=>by
   rw[xT] at h
   cases hu:P.underlying t with
   | none=>rw[hu] at h;cases h
   | some q=>
     rw[hu] at h
     cases q<;>simp only at h<;>try (cases h;done)
     case bool=>
      cases h
      obtain⟨b,rfl,_⟩:=DataW.trod_bool hu htr
      exact⟨b,wy.2 rfl⟩
     case int k=>
      cases h
      obtain⟨n,rfl,_,hw⟩:=DataW.trod_int hu htr
      exact⟨n,nz.2 ⟨rfl,LF hw⟩⟩
     case string=>
      cases h
      obtain⟨s,rfl,hr,_⟩:=DataW.trod_string hu htr
      refine⟨s.data.toList,uZ.2 ⟨by simp,?_⟩⟩
      have:=hwt s.data.toList.length (by rw[hr];simp[DataW.weights])
      exact Nat.le_trans this (by decide)
     case slice e=>
      cases hte:xT P d e with
      | none=>rw[hte] at h;cases h
      | some ty'=>
        rw[hte] at h
        simp only at h
        split at h
        ·rename_i hck
         cases h
         rw[cd,cd] at hck
         have hce:=mI hck.1
         have hpos:0<ty'.size:=oX hck.2.1
         have hbytes:0<P.bytesOf e:=oX hck.2.2
         rcases DataW.trod_slice hu htr with ⟨rfl,_⟩|⟨a,len,cap,elems,rest,n,rfl,rfl,hr,_,hlc,_,hel,hget,_,_⟩
         ·exact⟨[],bE.2 ⟨none,0,rfl,Nat.le_refl _,Nat.zero_le _,fun _=>rfl,fun i y h=>by cases h⟩⟩
         ·have hw0:(elems.length+rest.length)*P.bytesOf e≤reachBytes:=hwt _ (by rw[hr];simp[DataW.weights,hu])
          have hlen:len≤dD:=by
           have h1:len*1≤(elems.length+rest.length)*P.bytesOf e:=Nat.mul_le_mul (by omega) hbytes
           have h2:reachBytes≤dD:=by decide
           omega
          have each:∀i,i<len→∃x,∃us,a.spot=none∧a.block<w.heap.size∧us.length=ty'.size∧gp w a.block (a.off+i*ty'.size) us∧aS w (fun b=>b<w.heap.size) ty' us x:=by
           intro i hi
           have hg:=hget i hi
           rw[uX (by omega)] at hg
           obtain⟨us,hcs,hrd⟩:=Option.bind_eq_some_iff.1 hg
           obtain⟨c1,c2,c3⟩:=Dx hcs
           rw[hce] at c1 c2 c3
           obtain⟨hsp,hblk⟩:=c2 hpos
           -- the first element's address has no spot
           have hspa:a.spot=none:=by
            have hg0:=hget 0 (by omega)
            rw[uX (by omega)] at hg0
            obtain⟨us0,hcs0,_⟩:=Option.bind_eq_some_iff.1 hg0
            rw[Nat.zero_mul] at hcs0
            have e0:a.add 0=a:=by simp[Addr.add]
            rw[e0] at hcs0
            exact((Dx hcs0).2.1 (by rw[hce];exact hpos)).1
           have hadd:a.add (i*ty'.size)=⟨a.block,a.off+i*ty'.size,none⟩:=by
            obtain⟨b,o,sp⟩:=a
            have hs:sp=none:=hspa
            subst hs
            exact Addr.add_lit b o _
           rw[hadd] at c3 hblk
           obtain⟨x,hx⟩:=zf d hte hrd fun n hn=>hwt n (by
            rw[hr]
            simp only[DataW.weights,hu]
            refine List.mem_cons_of_mem _ (ku.2 (.inl (xh (List.mem_map.2 ⟨elems[i],List.getElem_mem _,rfl⟩) n hn))))
           exact⟨x,us,hspa,hblk,c1,c3 rfl,hx⟩
          obtain⟨xs,hxl,hxs⟩:=xG len each
          refine⟨xs,bE.2 ⟨some a,cap,by rw[hxl],by omega,by omega,fun h=>(by cases h),fun i y hy=>?_⟩⟩
          obtain⟨us,g1,g2,g3,g4,g5⟩:=hxs i y hy
          refine⟨a.block,a.off,us,?_,g2,g3,g4,g5⟩
          obtain⟨b,o,sp⟩:=a
          have hs:sp=none:=g1
          rw[hs]
        ·cases h
     case struct fs=>
      cases hf:lh P (xT P d) 0 fs.toList with
      | none=>rw[hf] at h;cases h
      | some q=>
        obtain⟨ts,n⟩:=q
        rw[hf] at h
        simp only at h
        split at h
        ·rename_i hck
         cases h
         have hn:=mI hck
         obtain⟨xs,m,rfl,hr,hlen,hxl,hx⟩:=DataW.trod_struct hu htr
         obtain⟨y,hy⟩:=Bo (w:=w) (cs:=cs) (I:=fun b=>b<w.heap.size) (rd:=fun _=>(none:Option (DataW H×List MemPlace))) hf (by omega) fun i f t' hi hty hc=>by
          have hi':fs[i]? = some f:=by rw[←Array.getElem?_toList];exact hi
          have hlt:i<xs.length:=by rw[hxl];exact(Array.getElem?_eq_some_iff.1 hi').1
          have:=hx i f hi'
          rw[uX hlt] at this
          refine zf d hty this fun n hn=>hwt n ?_
          rw[hr]
          simp only[DataW.weights,hu]
          exact tW (i:=i) (by simp[hi']) (by simp[uX hlt]) n hn
         rw[List.drop_zero,Nat.sub_zero,List.take_of_length_le (by omega)] at hy
         exact⟨y,qT.2 hy⟩
        ·cases h
theorem Ik{r:Reach}{b0 d:Nat}{t:TypeId}{ty:Ty}{v:Value}{x:ty.T}(ht:xT P d t=some ty)(hok:Value.okWide P w r b0 t v)(hx:aS w (fun b=>b<w.heap.size) ty v.cells.toList x):gJ w (fun b=>b<w.heap.size) ty v x:=by
 cases d with
 | zero=>cases ht
 | succ d=>
   rw[xT] at ht
   unfold Value.okWide at hok
   cases hu:P.underlying t with
   | none=>rw[hu] at ht;cases ht
   | some q=>
     rw[hu] at ht hok
     have flat:ty.isAgg=false→Cell.okWide P w r b0 t v→gJ w (fun b=>b<w.heap.size) ty v x:=by
      intro ha hc
      rw[gJ,if_neg (by rw[ha];decide)]
      have:v.cells.toList=[v]:=by
       cases v<;>(try rfl)
       unfold Cell.okWide Cell.ok at hc
       rw[hu] at hc
       cases q<;>simp at hc
      rw[this] at hx
      exact hx
     cases q<;>simp only at ht hok<;>try (cases ht;done)
     case bool=>cases ht;exact flat rfl hok
     case int k=>cases ht;exact flat rfl hok
     case string=>cases ht;exact flat rfl hok
     case slice e=>
      have:ty.isAgg=false:=by
       cases hte:xT P d e with
       | none=>rw[hte] at ht;cases ht
       | some ty'=>
         rw[hte] at ht
         simp only at ht
         split at ht
         ·cases ht;rfl
         ·cases ht
      exact flat this hok
     case struct fs=>
      obtain⟨cs,rfl,_,_⟩:=hok
      have:ty.isAgg=true:=by
       cases hf:lh P (xT P d) 0 fs.toList with
       | none=>rw[hf] at ht;cases ht
       | some q=>
         rw[hf] at ht
         simp only at ht
         split at ht
         ·cases ht;rfl
         ·cases ht
      rw[gJ,if_pos this]
      exact⟨cs,rfl,hx⟩
theorem uS{r:Reach}{b0:Nat}:∀{ts:List TypeId} {fQ:List Ty} {vs:List Value} {ds:List (DataW H)} {ps:List MemPlace},CZ P ts=some fQ→DataW.TrodAll enc P w base spare held ts vs ds ps→
  (∀(j:Nat) t v,ts[j]? = some t→vs[j]? = some v→Value.okWide P w r b0 t v)→(∀n∈DataW.weightsEach P ts ds,n≤reachBytes)→∃x,dF w (fun b=>b<w.heap.size) fQ vs x
 | [],fQ, [], [],ps,h,_,_,_=>by cases h;exact⟨(),rfl⟩
 | t::ts,fQ,v::vs,d::ds,ps,h,htr,hok,hwt=>by
   rw[CZ] at h
   cases hty:xT P 60 t with
   | none=>rw[hty] at h;cases h
   | some ty=>
     rw[hty] at h
     simp only at h
     cases hts:CZ P ts with
     | none=>rw[hts] at h;cases h
     | some tys'=>
       rw[hts] at h
       cases h
       obtain⟨p,q,⟨fuel,h1⟩,h2,_⟩:=htr
       rw[DataW.weightsEach] at hwt
       obtain⟨x,hx⟩:=zf 60 hty h1 fun n hn=>hwt n (ku.2 (.inl hn))
       have hx':=Ik hty (hok 0 t v rfl rfl) hx
       obtain⟨y,hy⟩:=uS hts h2 (fun j t v ht hv=>hok (j+1) t v (by simpa using ht) (by simpa using hv)) fun n hn=>hwt n (ku.2 (.inr hn))
       cases tys' with
       | nil=>
         have hy:vs=[]:=hy
         subst hy
         exact⟨x,v,rfl,hx'⟩
       | cons t2 tys'=>exact⟨(x,y),v,vs,rfl,hx',hy⟩
 | [],_,_::_,_,_,_,h,_,_=>by exact h.elim
 | [],_, [],_::_,_,_,h,_,_=>by exact h.elim
 | _::_,_, [],_,_,_,h,_,_=>by exact h.elim
 | _::_,_,_::_, [],_,_,h,_,_=>by exact h.elim
open Go.RowKit
theorem sP(hl:laidOutB P=true){W W':World}(hb:Below W.heap.size W W'){sp:Nat→Bool}:∀{ts:List TypeId} {vs:List Value} {ds:List (DataW H)} {ps:List MemPlace},(∀t∈ts,P.readableRec t=true∧t<P.types.size)→
  DataW.TrodAll enc P W 0 (fun _=>true) true ts vs ds ps→(∀p∈ps,p.block<W.heap.size)→(∀p∈ps,sp p.block=true)→DataW.TrodAll enc P W' 0 sp true ts vs ds ps
 | [], [], [],ps,_,h,_,_=>h
 | t::ts,v::vs,d::ds,ps,hts,h,hlt,hsp=>by
   obtain⟨p,q,h1,h2,rfl⟩:=h
   refine⟨p,q,WideElems.Trod_stays hl (hts t List.mem_cons_self).1 (hts t List.mem_cons_self).2 h1 (fun x hx=>hb.same (hlt x (ku.2 (.inl hx)))) (fun x hx=>hsp x (ku.2 (.inl hx))),?_,rfl⟩
   exact sP hl hb (fun t ht=>hts t (List.mem_cons_of_mem _ ht)) h2 (fun x hx=>hlt x (ku.2 (.inr hx))) (fun x hx=>hsp x (ku.2 (.inr hx)))
 | [],_::_,_,_,_,h,_,_=>by exact h.elim
 | [], [],_::_,_,_,h,_,_=>by exact h.elim
 | _::_, [],_,_,_,h,_,_=>by exact h.elim
 | _::_,_::_, [],_,_,h,_,_=>by exact h.elim
theorem trodAll_length:∀{ts:List TypeId} {vs:List Value} {ds:List (DataW H)} {ps:List MemPlace},DataW.TrodAll enc P w base spare held ts vs ds ps→ds.length=ts.length
 | [], [], [],_,_=>rfl
 | t::ts,v::vs,d::ds,ps,h=>by
   obtain⟨p,q,_,h2,_⟩:=h
   rw[List.length_cons,List.length_cons,trodAll_length h2]
 | [],_::_,_,_,h=>by exact h.elim
 | [], [],_::_,_,h=>by exact h.elim
 | _::_, [],_,_,h=>by exact h.elim
 | _::_,_::_, [],_,h=>by exact h.elim
theorem N2{f:Func}{s:ChangeSpec}{apart fresh handsOn again:Bool}{W W':World}{args:Array Value}{ds gs:List (DataW H)}{before:List MemPlace}{tb:TypeId}(hvars:s.vars=[])
  (hfn:∀(H:Type) (ds:List (DataW H)),ds.length=f.params.size→s.fn H ds={results:=[.lit (.bool true)],args:=ds}) (hres:f.resultTypes=#[tb]) (htb:P.underlying tb=some .bool)
  (hl:laidOutB P=true) (hts:∀t∈f.params.toList,P.readableRec t=true∧t<P.types.size)
  (hW:DataW.Whole enc P f.params.toList s.vars apart W args.toList ds gs before) (hb:Below W.heap.size W W'):s.post enc P f apart fresh handsOn again W args (.bool true) W':=by
 have hlt:=hW.lt
 have hW0:=hW
 obtain⟨p,q,hA,hV,rfl,hz,hnd⟩:=hW
 rw[hvars] at hV
 have hgs:gs=[]∧q=[]:=by
  cases gs with
  | nil=>exact⟨rfl,hV⟩
  | cons _ _=>exact hV.elim
 obtain⟨rfl,rfl⟩:=hgs
 rw[List.append_nil] at hlt hz hnd hW0
 have hlen:=trodAll_length hA
 have hf:=hfn H (ds ++ []) (by rw[List.append_nil,hlen,Array.length_toList])
 have hf':=hf
 rw[List.append_nil] at hf'
 have hstay:∀sp:Nat→Bool,(∀x∈p,sp x.block=true)→DataW.TrodAll enc P W' 0 sp true f.params.toList args.toList ds p:=fun sp hsp=>sP hl hb hts hA hlt hsp
 have hresl:((Value.bool true).resultList f.resultTypes.size)=[.bool true]:=by rw[hres];rfl
 have hr:∀(b:Nat) (sp:Nat→Bool) (hd:Bool),DataW.TrodAll enc P W' b sp hd f.resultTypes.toList ((Value.bool true).resultList f.resultTypes.size) (s.fn H (ds ++ [])).results []:=fun b sp hd=>by
  rw[hresl,hres,hf]
  exact⟨[], [],shut_bool htb true,rfl,rfl⟩
 have hold:∀x∈p,(fun b=>decide (b<W.heap.size)) x.block=true:=fun x hx=>by simpa using hlt x hx
 refine⟨ds, [],p, [],p, [],hW0,hr _ _ _,?_,?_,World.keptBut_mono (fun x hx=>⟨hx,.inr (.inl hx)⟩) (hb.frame (· ∈p)),fun _=>⟨fun j t r hj hv=>?_,?_⟩⟩
 ·rw[hf,List.append_nil];exact hstay _ hold
 ·rw[hvars,hf];rfl
 ·exact ok_one hres rfl (okWide_bool_mk htb true) j t r hj hv
 ·have h1:DataW.TrodAll enc P W' 0 (fun _=>true) true (f.resultTypes.toList++f.params.toList) ((Value.bool true).resultList f.resultTypes.size++args.toList) (.lit (.bool true)::ds) p:=by
   rw[hresl,hres]
   exact⟨[],p,shut_bool htb true,hstay _ (fun _ _=>rfl),rfl⟩
  refine⟨.lit (.bool true)::ds, [],p,⟨p, [],h1,by rw[hvars];rfl,by rw[List.append_nil],fun b off hp=>?_,hnd⟩,fun x hx _=>hx⟩
  rw[hb.frozen (hlt _ hp)]
  exact hz b off hp
theorem Lf{f:FuncId}{fQ:List Ty}{pre:Ty.Ts fQ→Bool}{fn:Ty.Ts fQ→Bool}(hs:ax.Sound P f ⟨fQ, [.bool],pre,fn⟩)(htrue:∀x,Ty.cN fQ x→pre x=true∧fn x=true){F:Func}(htys:CZ P F.params.toList=some fQ)
  {r:Reach} {b0:Nat} {W:World} {args:Array Value} {ds:List (DataW H)} {ps:List MemPlace} (hA:DataW.TrodAll enc P W base spare held F.params.toList args.toList ds ps)
  (hval:∀(j:Nat) t v,F.params[j]? = some t→args[j]? = some v→Value.okWide P W r b0 t v) (hwt:∀n∈DataW.weightsEach P F.params.toList ds,n≤reachBytes) :
  Calls P f args W fun e W'=>e=.returned (.bool true)∧Below W.heap.size W W':=by
 obtain⟨x,hx⟩:=uS htys hA (fun j t v ht hv=>hval j t v (by rw[←Array.getElem?_toList];exact ht) (by rw[←Array.getElem?_toList];exact hv)) hwt
 obtain⟨h1,h2⟩:=htrue x hx.has
 refine(hs.calls W _ x args (fun b hb=>hb) hx h1).mono ?_
 rintro e W' ⟨v,rfl,g1,g2,g3,g4,g5,I',_,g7⟩
 have g7:gJ W' I' .bool v (fn x):=g7
 have g7:[v]=[Value.bool (fn x)]:=g7
 cases g7
 refine⟨by rw[h2],⟨g1,g2,g3,g4,g5⟩⟩
theorem Jl{C:Checked}{os:Os}{f:FuncId}{F:Func}{s:ChangeSpec}{conds:List PathCond}{apart fresh handsOn again:Bool}{a:Assume}{tb:TypeId}{fQ:List Ty}{pre:Ty.Ts fQ→Bool}{fn:Ty.Ts fQ→Bool}
  (own:ownKnob C.prog.godebug=none) (started:os.Started) (noInit:C.prog.inits.idxOf? f=none) (hF:C.prog.funcs[f]? = some F)
  (witness:∃(w:World) (tape:Tape) (i:Input),w.os=os∧(w.forCall tape i).Shaped C.prog∧i.vars=[]∧Input.okWide C.prog (w.forCall tape i) .any w.heap.size f i∧
    s.pre6 enc C.prog F conds apart (w.forCall tape i).memory i.args∧a.holds C.prog (lone (Frame.enter C.prog f i.args .normal) [] (w.forCall tape i)))
  (hs:ax.Sound C.prog f ⟨fQ, [.bool],pre,fn⟩) (htrue:∀x,Ty.cN fQ x→pre x=true∧fn x=true) (htys:CZ C.prog F.params.toList=some fQ) (hvars:s.vars=[])
  (hfn:∀(H:Type) (ds:List (DataW H)),ds.length=F.params.size→s.fn H ds={results:=[.lit (.bool true)],args:=ds}) (hres:F.resultTypes=#[tb]) (htb:C.prog.underlying tb=some .bool)
  (hl:laidOutB C.prog=true) (hts:F.params.toList.all (fun t=>C.prog.readableRec t&&decide (t<C.prog.types.size))=true) :
  ReturnsInHanded a C os f .any (s.pre6 enc C.prog F conds apart) (s.post enc C.prog F apart fresh handsOn again):=by
 refine returnsInHanded_of_change_sized own started noInit hF witness ?_
 intro W b0 args ds gs before hval hW _ hsz _
 have hW':=hW
 obtain⟨p,q,hA,hV,_,_,_⟩:=hW
 rw[hvars] at hV
 have hgs:gs=[]:=by
  cases gs with
  | nil=>rfl
  | cons _ _=>exact hV.elim
 subst hgs
 have hwt:∀n∈DataW.weightsEach C.prog F.params.toList ds,n≤reachBytes:=by
  have e:s.plain.varTypes C.prog=[]:=by simp[DataSpec.varTypes,ChangeSpec.plain,hvars]
  rw[e,List.append_nil,List.append_nil] at hsz
  intro n hn
  have:=List.all_eq_true.1 hsz n hn
  simpa using this
 refine(Lf hs htrue htys hA hval hwt).mono ?_
 rintro e W' ⟨rfl,hb⟩
 refine⟨_,rfl,N2 hvars hfn hres htb hl (fun t ht=>?_) hW' hb⟩
 have:=List.all_eq_true.1 hts t ht
 simpa using this
end
end Go.Ev
namespace Go.Ev
def LT.val{R Y:Type}(d:R):LT R Y→R
 | .ret r=>r
 | .more _=>d
 | .br b t e=>bif b then t.val d else e.val d
 | .need _ t=>t.val d
 | .eqs _ t=>t.val d
 | .and a _=>a.val d
 | .bad _ _=>d
def LT.pre{R Y:Type}:LT R Y→Bool
 | .ret _=>true
 | .more _=>false
 | .br b t e=>bif b then t.pre else e.pre
 | .need b t=>b&&t.pre
 | .eqs _ t=>t.pre
 | .and _ _=>false
 | .bad _ _=>false
def LT.X4{R Y:Type}:LT R Y→Prop
 | .ret _=>True
 | .more _=>True
 | .br _ t e=>t.X4∧e.X4
 | .need _ t=>t.X4
 | .eqs p t=>p∧t.X4
 | .and _ _=>True
 | .bad _ _=>True
theorem LT.runs{R Y:Type}{d:R}{step:Y→LT R Y}:∀{t:LT R Y},t.X4→t.pre=true→au step t (t.val d)
 | .ret r,_,_=>.ret r
 | .more _,_,h=>by cases h
 | .br b t e,h1,h2=>by
   cases b with
   | true=>exact .br (LT.runs h1.1 h2)
   | false=>exact .br (LT.runs h1.2 h2)
 | .need b t,h1,h2=>by
   rw[LT.pre,cd] at h2
   exact .need h2.1 (LT.runs h1 h2.2)
 | .eqs p t,h1,h2=>.eqs h1.1 (LT.runs h1.2 h2)
 | .and _ _,_,h=>by cases h
 | .bad _ _,_,h=>by cases h
def LT.all{R Y:Type}(p:R→Prop):LT R Y→Prop
 | .ret r=>p r
 | .more _=>True
 | .br _ t e=>t.all p∧e.all p
 | .need _ t=>t.all p
 | .eqs _ t=>t.all p
 | .and a b=>a.all p∧b.all p
 | .bad _ _=>True
theorem LT.lm{R Y:Type}{d:R}{p:R→Prop}(hd:p d):∀{t:LT R Y},t.all p→p (t.val d)
 | .ret r,h=>h
 | .more _,_=>hd
 | .br b t e,h=>by
   cases b with
   | true=>exact LT.lm (t:=t) hd h.1
   | false=>exact LT.lm (t:=e) hd h.2
 | .need b t,h=>LT.lm (t:=t) hd h
 | .eqs _ t,h=>LT.lm (t:=t) hd h
 | .and a _,h=>LT.lm hd (t:=a) h.1
 | .bad _ _,_=>hd
section
variable {a b:Int} {k:IntKind}
theorem aD:ah.c .eql a b=(a==b):=rfl
theorem aT:ah.c .neq a b=(a != b):=rfl
theorem ar:ah.c .lss a b=decide (a<b):=rfl
theorem ao:ah.c .leq a b=decide (a≤b):=rfl
theorem bg:ah.c .gtr a b=decide (b<a):=rfl
theorem bZ:ah.c .geq a b=decide (b≤a):=rfl
theorem aJ{x y:Bool}:ah.and x y=(x&&y):=rfl
theorem eY{x:Bool}:ah.not x=!x:=rfl
theorem vA{x y:Bool}:ah.q x y=(x==y):=rfl
theorem aA{α β:Type}{f:α→β}{x:α}:ah.k f x=f x:=rfl
theorem ck:ah.b .add k a b=k.wrap (a+b):=rfl
theorem cu:ah.b .sub k a b=k.wrap (a-b):=rfl
theorem ib:ah.b .mul k a b=k.wrap (a*b):=rfl
theorem Kv:ah.b .quo k a b=k.wrap (a.tdiv b):=rfl
theorem VB:ah.b .rem k a b=a.tmod b:=rfl
theorem qw:ah.v k a=k.wrap a:=rfl
theorem ov:ah.mn a b=if b<a then b else a:=rfl
theorem IU:ah.mx a b=if b > a then b else a:=rfl
theorem Ke{t:Ty}{x:List t.T}:ah.n t x a=x.getD a.toNat t.dZ:=rfl
theorem fP{α:Type}{x:List α}:ah.s x a b=(x.take b.toNat).drop a.toNat:=rfl
theorem yp{α:Type}{x:List α}{v:α}:ah.set x a v=x.set a.toNat v:=rfl
theorem nV{α:Type}{v:α}:ah.r a v=List.replicate a.toNat v:=rfl
theorem jr{α:Type}{x y:List α}:ah.spl x a y=x.take a.toNat++y++x.drop (a.toNat+y.length):=rfl
theorem iZ(h1:-9223372036854775808≤a)(h2:a≤9223372036854775807):IntKind.i64.wrap a=a:=IntWalk.i64_in a ⟨h1,h2⟩
theorem Tl(h1:0≤a)(h2:a≤18446744073709551615):IntKind.u64.wrap a=a:=IntWalk.u64_in a ⟨h1,h2⟩
end
theorem ml{n:Int}:IntKind.i64.has n↔ -9223372036854775808≤n∧n≤9223372036854775807:=Iff.rfl
theorem x_{n:Int}:IntKind.u8.has n↔0≤n∧n≤255:=Iff.rfl
theorem jd{b x y:Bool}:(bif b then x else y)=true↔(b=true→x=true)∧(b=false→y=true):=by cases b<;>cases x<;>cases y<;>decide
theorem pg{α:Type}{b:Bool}{x y r:α}:(bif b then x else y)=r↔(b=true∧x=r)∨(b=false∧y=r):=by cases b<;>simp
theorem dU{α:Type}{x:α}:tt x=true:=rfl
def LT.F1{R Y:Type}:LT R Y→Bool
 | .br _ t e=>t.F1&&e.F1
 | .need _ t=>t.F1
 | .eqs _ _=>false
 | _=>true
theorem LT.gg{R Y:Type}:∀{t:LT R Y},t.F1=true→t.X4
 | .ret _,_=>trivial
 | .more _,_=>trivial
 | .br _ t e,h=>by
   rw[LT.F1,cd] at h
   exact⟨LT.gg h.1,LT.gg h.2⟩
 | .need _ t,h=>LT.gg (t:=t) h
 | .and _ _,_=>trivial
 | .bad _ _,_=>trivial
section
variable {P:Program} {ti:PT TI} (ht:iV P ti) (hm:P.follows .mixedOrders=true) {g:FuncId} {F:Func} {args res:List Ty} {dx:List (FuncId×Func)} {cZ:List (FuncId×ax)} {pre:Ty.Ts args→Bool} {fn:Ty.Ts args→Ty.Ts res}
include ht hm
theorem aH(q:Bool)(n:Nat)(dd:List Stop)(start:aI→Ty.Ts args→LT (Ty.Ts res) Empty)(hf:mU P ((g,F)::dx))(hs:nO P cZ)
  (hr:∀x,pre x=true→Ty.cN args x→(start ah x).pre=true)
  (heq:∀x,(start ah x).X4:=by intro x;exact LT.gg (by kernel_rfl))
  (hb:F.body.isSome=true:=by kernel_rfl) (hl:(Nat.ble args.length F.ntmps&&Nat.ble F.ntmps 65535)=true:=by kernel_rfl)
  (h0:∀A x,Tr.Is q (run A (WZ ti A res ((g,F)::dx) cZ [] dd) n (i6 g F (cq A args x))) ((start A x).tr Empty.elim):=by intro A x;first|exact⟨by kernel_rfl,by kernel_rfl⟩|(show Tr.full _=_;kernel_rfl))
  (hfn:∀x,fn x=(start ah x).val (Ty.bi res):=by intro x;kernel_rfl):ax.Sound P g ⟨args,res,pre,fn⟩:=
 aZ ht hm q n dd start hf hs (fun x hp h=>hfn x▸LT.runs (heq x) (hr x hp h)) hb hl h0
end
def vi(x:Int):AV:=.int .i64 false x
def vb(x:Bool):AV:=.bool false x
def dc(t:Ty)(x:t.T):List AV:=fx ah t x
def en(l:List (Nat×AV)):Env:=l.foldl (fun e p=>e.put p.1 p.2) .leaf
def cw(F:Func)(l:List Nat):Code:=Code.Sv (Nl F) l
def ow(F:Func)(l:List Nat):Array Oper:=opsOf (Code.Sv (Nl F) l)
abbrev yI:Ty:=.int .i64
abbrev yU:Ty:=.int .u8
abbrev yB:Ty:=.slice yU
abbrev DG:Ty:=.slice yI
end Go.Ev
